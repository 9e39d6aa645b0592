/- A framework for walks, contracts of functions, and their proofs: part 4. -/
import Derived.Laws.Closers25b
import Derived.Test.YtfidkfoillgeeaaGreatDoorR3
namespace Go.V
open Go
theorem InK.wrap {k:IntKind}{x:Int}(h:InK k x):k.wrap x=x:=by obtain⟨h1,h2⟩:=h;cases k<;>simp[IntKind.wrap,IntKind.bits,IntKind.signed,IntKind.min,IntKind.max] at h1 h2 ⊢<;>(try split)<;>omega
section
variable {P:Program}{B:Heap}{pl:Nat→Value}{tb:Nat→Option Bool}{own:Own}{σ:Heap}
def QOk (P:Program) (B:Heap) (pl:Nat→Value) (tb:Nat→Option Bool) (σ:Heap) (o:VOp) (evV:Operand→Value) (v:SV):Prop:=∃ u,Q5 o evV σ=some (u,σ)∧SR P B pl tb v u
theorem J9 (k:IntKind) (x:Int):SR P B pl tb (.val (.i k) x) (.int k x):=by simp[SR,KC]
theorem Z7 (x:Bool):SR P B pl tb (.val .bo x) (.bool x):=by simp[SR,KC]
theorem Gk (x:List UInt8):SR P B pl tb (.val .st x) (.string ⟨x.toArray⟩):=by simp[SR,KC]
theorem Qx {α β:Type _}{a c:α}{b d:β}(h:some (a,b)=some (c,d)):a=c∧b=d:=by cases h;exact⟨rfl,rfl⟩
section
variable {kt:List (Nat×Kind)}{raw:Bool}{ev:Operand→SV}{evV:Operand→Value}{cs:List Prop}{v:SV}
theorem UU (af:∀ x,SR P B pl tb (ev x) (evV x)) {x y:Operand}{k k':IntKind}{a b:Int}(h1:asI (ev x)=some (k,a)) (h2:asI (ev y)=some (k',b)):evV x=.int k a∧evV y=.int k' b:=⟨QQ h1 (af x),QQ h2 (af y)⟩
theorem Q0l (af:∀ x,SR P B pl tb (ev x) (evV x)) {op:BinOp}{x y:Operand}(h:gq kt raw (.arith op x y) ev own=some (cs,v)) (hc:∀ c∈cs,c):QOk P B pl tb σ (.arith op x y) evV v:=by
 simp only[gq] at h;split at h
 ·rename_i k a k' b h1 h2;obtain⟨e1,e2⟩:=UU af h1 h2;split at h
  ·rename_i hk;subst hk;cases raw with
   |true =>
    obtain⟨rfl,rfl⟩:=Qx h;refine⟨_,by simp only[Q5,e1,e2,if_true]<;>rfl,?_⟩;have:Hh op k a b=k.wrap (Gj op a b):=by cases op<;>rfl
    rw[this];exact J9 _ _
   |false =>
    obtain⟨rfl,rfl⟩:=Qx h;refine⟨_,by simp only[Q5,e1,e2,if_true]<;>rfl,?_⟩;have:Hh op k a b=Gj op a b:=by
     have hw:InK k (Gj op a b):=hc _ (by simp);have e:Hh op k a b=k.wrap (Gj op a b):=by cases op<;>rfl
     rw[e,hw.wrap]
    rw[this];exact J9 _ _
  ·cases h
 ·cases h
theorem Q5u (af:∀ x,SR P B pl tb (ev x) (evV x)) {op:BinOp}{x y:Operand}(h:gq kt raw (.div op x y) ev own=some (cs,v)) (hc:∀ c∈cs,c):QOk P B pl tb σ (.div op x y) evV v:=by
 simp only[gq] at h;split at h
 ·rename_i k a k' b h1 h2;obtain⟨e1,e2⟩:=UU af h1 h2;split at h
  ·rename_i hk;subst hk;split at h
   ·obtain⟨rfl,rfl⟩:=Qx h;have hb:b≠0:=hc _ (by simp);have hw:InK k (a.tdiv b):=hc _ (by simp);refine⟨_,by simp only[Q5,e1,e2,hb,ne_eq,not_false_iff,and_self,if_true]<;>rfl,?_⟩;simp only[Q1w,hw.wrap];exact J9 _ _
   ·obtain⟨rfl,rfl⟩:=Qx h;have hb:b≠0:=hc _ (by simp);refine⟨_,by simp only[Q5,e1,e2,hb,ne_eq,not_false_iff,and_self,if_true]<;>rfl,?_⟩;rename_i bK;have:Q1w op k a b=a.tmod b:=by unfold Q1w;split<;>simp_all
    rw[this];exact J9 _ _
  ·cases h
 ·cases h
theorem Q2k (af:∀ x,SR P B pl tb (ev x) (evV x)) {op:BinOp}{x y:Operand}(h:gq kt raw (.bits op x y) ev own=some (cs,v)):QOk P B pl tb σ (.bits op x y) evV v:=by
 simp only[gq] at h;split at h
 ·rename_i k a k' b h1 h2;obtain⟨e1,e2⟩:=UU af h1 h2;split at h
  ·rename_i hk;subst hk;obtain⟨rfl,rfl⟩:=Qx h;exact⟨_,by simp only[Q5,e1,e2,if_true]<;>rfl,J9 _ _⟩
  ·cases h
 ·cases h
theorem Q13 (af:∀ x,SR P B pl tb (ev x) (evV x)) {op:BinOp}{x y:Operand}(h:gq kt raw (.shift op x y) ev own=some (cs,v)) (hc:∀ c∈cs,c):QOk P B pl tb σ (.shift op x y) evV v:=by
 simp only[gq] at h;split at h
 ·rename_i k a k' b h1 h2;obtain⟨e1,e2⟩:=UU af h1 h2;split at h
  ·cases raw with
   |true =>obtain⟨rfl,rfl⟩:=Qx h;have hb:0≤b:=hc _ (by simp);exact⟨_,by simp only[Q5,e1,e2,hb,if_true]<;>rfl,J9 _ _⟩
   |false =>obtain⟨rfl,rfl⟩:=Qx h;have hb:0≤b:=hc _ (by simp);have hw:InK k (WO k a b):=hc _ (by simp);refine⟨_,by simp only[Q5,e1,e2,hb,if_true]<;>rfl,?_⟩;have:BN .shl k a b=k.wrap (WO k a b):=rfl;rw[this,hw.wrap];exact J9 _ _
  ·obtain⟨rfl,rfl⟩:=Qx h;have hb:0≤b:=hc _ (by simp);refine⟨_,by simp only[Q5,e1,e2,hb,if_true]<;>rfl,?_⟩;have:BN op k a b=Fk k a b:=by unfold BN;split<;>simp_all [Fk]
   rw[this];exact J9 _ _
 ·cases h
theorem Q6l (af:∀ x,SR P B pl tb (ev x) (evV x)) {op:BinOp}{x y:Operand}(h:gq kt raw (.cmp op x y) ev own=some (cs,v)):QOk P B pl tb σ (.cmp op x y) evV v:=by
 simp only[gq] at h;split at h
 ·rename_i k a k' b h1 h2;obtain⟨e1,e2⟩:=UU af h1 h2;split at h
  ·rename_i hk;subst hk;obtain⟨rfl,rfl⟩:=Qx h;exact⟨_,by simp only[Q5,e1,e2,if_true]<;>rfl,Z7 _⟩
  ·cases h
 ·cases h
theorem Q6a (af:∀ x,SR P B pl tb (ev x) (evV x)) {op:BinOp}{x y:Operand}(h:gq kt raw (.str op x y) ev own=some (cs,v)) (hc:∀ c∈cs,c):QOk P B pl tb σ (.str op x y) evV v:=by
 simp only[gq] at h;split at h
 ·rename_i a b h1 h2;have e1:=WM h1 (af x);have e2:=WM h2 (af y);split at h
  ·obtain⟨rfl,rfl⟩:=Qx h;have hw:a.length+b.length≤4611686018427387904:=hc _ (by simp);refine⟨.string (⟨a.toArray⟩++⟨b.toArray⟩),by simp only[Q5,e1,e2];rw[if_pos (by simpa [ByteArray.size] using hw)],?_⟩;have:(⟨a.toArray⟩:ByteArray)++⟨b.toArray⟩=⟨(a++b).toArray⟩:=by
    apply ByteArray.ext;simp
   rw[this];exact Gk _
  ·obtain⟨rfl,rfl⟩:=Qx h;exact⟨_,by simp only[Q5,e1,e2]<;>rfl,Z7 _⟩
  ·obtain⟨rfl,rfl⟩:=Qx h;exact⟨_,by simp only[Q5,e1,e2]<;>rfl,Z7 _⟩
  ·obtain⟨rfl,rfl⟩:=Qx h;exact⟨_,by simp only[Q5,e1,e2]<;>rfl,Z7 _⟩
  ·cases h
 ·cases h
theorem Q5e (af:∀ x,SR P B pl tb (ev x) (evV x)) {neg:Bool}{x y:Operand}(h:gq kt raw (.eqB neg x y) ev own=some (cs,v)):QOk P B pl tb σ (.eqB neg x y) evV v:=by
 simp only[gq] at h;split at h
 ·rename_i a b h1 h2;have e1:=Jo h1 (af x);have e2:=Jo h2 (af y);obtain⟨rfl,rfl⟩:=Qx h;exact⟨_,by simp only[Q5,e1,e2]<;>rfl,Z7 _⟩
 ·cases h
theorem G8 {k:MK}{a b:SV}{r:Bool}{u w:Value}(h:Ci k a b=some r) (ha:SR P B pl tb a u) (hb:SR P B pl tb b w):Ca k u=true∧Ca k w=true∧Wk u w=r:=by
 cases k with
 |agg s=>cases h
 |int q =>
  simp only[Ci] at h;split at h
  ·rename_i q1 x q2 y h1 h2;split at h
   ·rename_i hq;obtain⟨rfl,rfl⟩:=hq;obtain rfl:=osj h;rw[QQ h1 ha,QQ h2 hb];exact⟨by simp[Ca],by simp[Ca],rfl⟩
   ·cases h
  ·cases h
 |bool =>
  simp only[Ci] at h;split at h
  ·rename_i x y h1 h2;obtain rfl:=osj h;rw[Jo h1 ha,Jo h2 hb];exact⟨rfl,rfl,rfl⟩
  ·cases h
 |string =>
  simp only[Ci] at h;split at h
  ·rename_i x y h1 h2;obtain rfl:=osj h;rw[WM h1 ha,WM h2 hb];exact⟨rfl,rfl,rfl⟩
  ·cases h
theorem M9:∀ {s:List MK}{l m:List SV}{r:Bool}{us ws:List Value},Dr s l m=some r→SRs P B pl tb l us→SRs P B pl tb m ws→fits s us=true∧fits s ws=true∧Qg us ws=r
 |[],_,_,_,_,_,h,_,_=>by cases h
 |k::ks,[],_,_,_,_,h,_,_=>by simp[Dr] at h
 |k::ks,_::_,[],_,_,_,h,_,_=>by simp[Dr] at h
 |[k],a::l,b::m,r,us,ws,h,ha,hb=>by
  simp only[Dr] at h;split at h
  ·simp only[SRs] at ha hb;obtain⟨u,lM,rfl,h1,rfl⟩:=ha;obtain⟨w,wo,rfl,h2,rfl⟩:=hb;obtain⟨f1,f2,f3⟩:=G8 h h1 h2;simp[fits,Qg,f1,f2,f3]
  ·cases h
 |k::k'::ks,a::l,b::m,r,us,ws,h,ha,hb=>by
  simp only[Dr] at h;split at h
  ·rename_i x y hx hy;obtain rfl:=osj h;simp only[SRs] at ha hb;obtain⟨u,lM,rfl,h1,gh⟩:=ha;obtain⟨w,wo,rfl,h2,gO⟩:=hb;obtain⟨f1,f2,f3⟩:=G8 hx h1 h2;obtain⟨g1,g2,g3⟩:=M9 (s:=k'::ks) hy gh gO;rw[fits,fits,f1,f2,g1,g2,Qg,f3,g3];exact⟨rfl,rfl,rfl⟩
  ·cases h
theorem Q12 (af:∀ x,SR P B pl tb (ev x) (evV x)) {neg:Bool}{s:List MK}{x y:Operand}(h:gq kt raw (.ext (.eqAgg neg s x y)) ev own=some (cs,v)):QOk P B pl tb σ (.ext (.eqAgg neg s x y)) evV v:=by
 simp only[gq] at h;split at h
 ·rename_i l m h1 h2;obtain⟨b,hb,he⟩:=Option.map_eq_some_iff.1 h;obtain⟨rfl,rfl⟩:=(by cases he;exact⟨rfl,rfl⟩:[]=cs∧SV.val .bo (bif neg then !b else b)=v);have e1:=af x;have e2:=af y;rw[h1] at e1;rw[h2] at e2;simp only[SR] at e1 e2;obtain⟨us,e1,k1⟩:=e1;obtain⟨ws,e2,k2⟩:=e2;obtain⟨f1,f2,f3⟩:=M9 hb k1 k2;refine⟨.bool (if neg then !b else b),?_,by cases neg<;>exact Z7 _⟩;simp only[Q5,QM,e1,e2];rw[if_pos ⟨by simpa using f1,by simpa using f2⟩];simp only[f3]
 ·cases h
theorem Q7v (af:∀ x,SR P B pl tb (ev x) (evV x)) {op:UnOp}{x:Operand}(h:gq kt raw (.un op x) ev own=some (cs,v)) (hc:∀ c∈cs,c):QOk P B pl tb σ (.un op x) evV v:=by
 simp only[gq] at h;split at h
 ·split at h
  ·rename_i b h1;obtain⟨rfl,rfl⟩:=Qx h;exact⟨_,by simp only[Q5,Jo h1 (af x)]<;>rfl,Z7 _⟩
  ·cases h
 ·split at h
  ·rename_i k n h1;obtain⟨rfl,rfl⟩:=Qx h;have hw:InK k (0-n):=hc _ (by simp);refine⟨_,by simp only[Q5,QQ h1 (af x)]<;>rfl,?_⟩;rw[hw.wrap];exact J9 _ _
  ·cases h
 ·split at h
  ·rename_i k n h1;obtain⟨rfl,rfl⟩:=Qx h;exact⟨_,by simp only[Q5,QQ h1 (af x)]<;>rfl,J9 _ _⟩
  ·cases h
 ·cases h
theorem Q07 (af:∀ x,SR P B pl tb (ev x) (evV x)) {k:IntKind}{x:Operand}(h:gq kt raw (.convI k x) ev own=some (cs,v)) (hc:∀ c∈cs,c):QOk P B pl tb σ (.convI k x) evV v:=by
 simp only[gq] at h;split at h
 ·rename_i k' n h1;cases raw with
  |true =>obtain⟨rfl,rfl⟩:=Qx h;exact⟨_,by simp only[Q5,QQ h1 (af x)]<;>rfl,J9 _ _⟩
  |false =>obtain⟨rfl,rfl⟩:=Qx h;have hw:InK k n:=hc _ (by simp);refine⟨_,by simp only[Q5,QQ h1 (af x)]<;>rfl,?_⟩;rw[hw.wrap];exact J9 _ _
 ·cases h
theorem Q09 (af:∀ x,SR P B pl tb (ev x) (evV x)) {x:Operand}(h:gq kt raw (.convS x) ev own=some (cs,v)):QOk P B pl tb σ (.convS x) evV v:=by
 simp only[gq] at h;split at h
 ·rename_i s h1;obtain⟨rfl,rfl⟩:=Qx h;exact⟨_,by simp only[Q5,WM h1 (af x)]<;>rfl,Gk _⟩
 ·cases h
theorem Q1t (af:∀ x,SR P B pl tb (ev x) (evV x)) {z:List Value}{ps:List (Nat×Nat×Operand)}(h:gq kt raw (.build z ps) ev own=some (cs,v)):QOk P B pl tb σ (.build z ps) evV v:=by
 simp only[gq] at h;split at h
 ·rename_i l h1;obtain⟨rfl,rfl⟩:=Qx h;have hz:SRs P B pl tb (z.map cvp) (z.map id):=SRs.map fun x _=>UB x;rw[List.map_id] at hz;obtain⟨lV,h2,h3⟩:=Dh af hz h1;refine⟨.agg lV.toArray,by simp only[Q5,h2],?_⟩;simp only[SR];exact⟨lV,rfl,h3⟩
 ·cases h
theorem Q27 (af:∀ x,SR P B pl tb (ev x) (evV x)) (hle:B.Le σ) (aA:∀ d,OR P B pl tb σ (pl d) (Q6 own d)) {agg:Bool}{size:Nat}{a:Operand}(h:gq kt raw (.load agg size a) ev own=some (cs,v)):QOk P B pl tb σ (.load agg size a) evV v:=by
 simp only[gq] at h;cases hb:Nat.blt 0 size with
 |false=>rw[hb] at h;cases h
 |true =>
  rw[hb] at h;simp only[_root_.cond_true,Option.map_eq_some_iff] at h;obtain⟨v',h1,h2⟩:=h;obtain⟨rfl,rfl⟩:=(by simpa only [Prod.mk.injEq] using h2:_=cs∧_=v);have hs:0<size:=by simpa [Nat.blt_eq] using hb
  obtain⟨i,o,c,e,wr,t,u,h3,h4,h5,h6⟩:=MX hle aA hs h1 (af a);exact⟨u,by simp only[Q5,h3,h4,h5],h6⟩
theorem RK (af:∀ x,SR P B pl tb (ev x) (evV x)) {off:Nat}{a:Operand}(h:gq kt raw (.fieldAddr off a) ev own=some (cs,v)):QOk P B pl tb σ (.fieldAddr off a) evV v:=by
 have ha:=af a;simp only[gq] at h;split at h
 ·rename_i o f heq;obtain⟨rfl,rfl⟩:=Qx h;rw[heq] at ha;simp only[SR] at ha;obtain⟨b,h1,h2⟩:=ha;refine⟨_,by simp only[Q5,h2]<;>rfl,?_⟩;simp only[SR];exact⟨b,h1,rfl⟩
 ·rename_i l f heq;obtain⟨rfl,rfl⟩:=Qx h;rw[heq] at ha;simp only[SR] at ha;obtain⟨b,c,e,wr,t,h1,h2,h3⟩:=ha;refine⟨_,by simp only[Q5,h2]<;>rfl,?_⟩;simp only[SR];exact⟨b,c,e,wr,t,h1,rfl,h3⟩
 ·rename_i o i f sz heq;obtain⟨rfl,rfl⟩:=Qx h;rw[heq] at ha;simp only[SR] at ha;obtain⟨b,len,cap,h1,h2,h3,h4⟩:=ha;refine⟨_,by simp only[Q5,h4]<;>rfl,?_⟩;simp only[SR];exact⟨b,len,cap,h1,h2,h3,by rw[Nat.add_assoc]⟩
 ·rename_i o w heq;rw[heq] at ha;simp only[SR] at ha;split at h
  ·obtain⟨rfl,rfl⟩:=Qx h;obtain⟨b,len,cap,h1,h2,h3,h4⟩:=ha;refine⟨_,by simp only[Q5,h4]<;>rfl,?_⟩;simp only[SR,DR];exact⟨b,len,cap,h1,h2,h3,by rw[Nat.add_assoc]⟩
  ·obtain⟨rfl,rfl⟩:=Qx h;obtain⟨b,len,cap,c,e,t,r,rl,rc,aP,re,rt,h1,h2,h3,h4,h5,h6,h7,h8,h9,bZ,fP,ox⟩:=ha;refine⟨_,by simp only[Q5,ox]<;>rfl,?_⟩;simp only[SR,DR];exact⟨b,len,cap,c,e,t,r,rl,rc,aP,re,rt,h1,h2,h3,h4,h5,h6,h7,h8,h9,bZ,fP,by rw[Nat.add_assoc]⟩
  ·obtain⟨rfl,rfl⟩:=Qx h;obtain⟨b,o',c,e,wr,t,h1,h2,h3,h4,h5,h6⟩:=ha;refine⟨_,by simp only[Q5,h4]<;>rfl,?_⟩;simp only[SR,DR];exact⟨b,o',c,e,wr,t,h1,h2,h3,by rw[Nat.add_assoc],h5,h6⟩
  ·cases h
 ·rename_i k l i f heq;obtain⟨rfl,rfl⟩:=Qx h;rw[heq] at ha;simp only[SR] at ha;obtain⟨b,o,c,e,wr,t,h1,h2,h3,h4,h5,h6⟩:=ha;refine⟨_,by simp only[Q5,h4]<;>rfl,?_⟩;simp only[SR];exact⟨b,o,c,e,wr,t,h1,h2,h3,by rw[Nat.add_assoc],h5,h6⟩
 ·cases h
theorem Q0p (af:∀ x,SR P B pl tb (ev x) (evV x)) {agg:Bool}{off size:Nat}{x:Operand}(h:gq kt raw (.field agg off size x) ev own=some (cs,v)):QOk P B pl tb σ (.field agg off size x) evV v:=by
 have ha:=af x;simp only[gq] at h;split at h
 ·rename_i l heq;rw[heq] at ha;simp only[SR] at ha;obtain⟨c,h1,h2⟩:=ha;simp only[Option.map_eq_some_iff] at h;obtain⟨v',h3,h4⟩:=h;obtain⟨rfl,rfl⟩:=(by simpa only [Prod.mk.injEq] using h4:_=cs∧_=v);obtain⟨u,h5,h6⟩:=Zz h2 h3;exact⟨u,by simp only[Q5,h1,h5],h6⟩
 ·cases h
theorem E_ (af:∀ x,SR P B pl tb (ev x) (evV x)) {x:Operand}{i:Nat}(h:gq kt raw (.extract x i) ev own=some (cs,v)):QOk P B pl tb σ (.extract x i) evV v:=by
 have ha:=af x;simp only[gq] at h;split at h
 ·rename_i l heq;rw[heq] at ha;simp only[SR] at ha;obtain⟨c,h1,h2⟩:=ha;simp only[Option.map_eq_some_iff] at h;obtain⟨v',h3,h4⟩:=h;obtain⟨rfl,rfl⟩:=(by simpa only [Prod.mk.injEq] using h4:_=cs∧_=v);obtain⟨u,h5,h6⟩:=h2.get h3;exact⟨u,by simp only[Q5,h1,h5],h6⟩
 ·cases h
theorem LF (af:∀ x,SR P B pl tb (ev x) (evV x)) {x:Operand}(h:gq kt raw (.nilCheck x) ev own=some (cs,v)):QOk P B pl tb σ (.nilCheck x) evV v:=by
 have ha:=af x;simp only[gq] at h;split at h
 ·rename_i o f heq;obtain⟨rfl,rfl⟩:=Qx h;rw[heq] at ha;have hb:=ha;simp only[SR] at ha;obtain⟨b,h1,h2⟩:=ha;exact⟨_,by simp only[Q5,h2]<;>rfl,by rw[←h2];exact hb⟩
 ·rename_i l f heq;obtain⟨rfl,rfl⟩:=Qx h;rw[heq] at ha;have hb:=ha;simp only[SR] at ha;obtain⟨b,c,e,wr,t,h1,h2,h3⟩:=ha;exact⟨_,by simp only[Q5,h2]<;>rfl,by rw[←h2];exact hb⟩
 ·rename_i f a b heq;obtain⟨rfl,rfl⟩:=Qx h;rw[heq] at ha;have hb:=ha;simp only[SR] at ha;obtain⟨x1,y1,h1,h2,h3⟩:=ha;exact⟨_,by simp only[Q5,h1]<;>rfl,by rw[←h1];exact hb⟩
 ·cases h
theorem Cw (af:∀ x,SR P B pl tb (ev x) (evV x)) {x i:Operand}(h:gq kt raw (.indexStr x i) ev own=some (cs,v)) (hc:∀ c∈cs,c):QOk P B pl tb σ (.indexStr x i) evV v:=by
 simp only[gq] at h;split at h
 ·rename_i s k j h1 h2;have e1:=WM h1 (af x);have e2:=QQ h2 (af i);obtain⟨rfl,rfl⟩:=Qx h;have k1:0≤j:=hc _ (by simp);have k2:j<s.length:=hc _ (by simp);have k3:j.toNat<s.length:=by omega
  refine⟨.int .u8 (s[j.toNat].toNat:Int),by simp only[Q5,e1,e2,k1,if_true];simp[k3],?_⟩;have:s.getD j.toNat 0=s[j.toNat]:=by simp[List.getD_eq_getElem?_getD,k3]
  rw[this];exact J9 _ _
 ·cases h
theorem A4 (af:∀ x,SR P B pl tb (ev x) (evV x)) (gk:∀ c,evV (.const c)=c) {len size:Nat}{agg:Bool}{x i:Operand}(h:gq kt raw (.indexArr len agg size x i) ev own=some (cs,v)):QOk P B pl tb σ (.indexArr len agg size x i) evV v:=by
 have ha:=af x;simp only[gq] at h;split at h
 ·rename_i l k j heq;split at h
  ·rename_i hj;rw[heq] at ha;simp only[SR] at ha;obtain⟨c,h1,h2⟩:=ha;simp only[Option.map_eq_some_iff] at h;obtain⟨v',h3,h4⟩:=h;obtain⟨rfl,rfl⟩:=(by simpa only [Prod.mk.injEq] using h4:_=cs∧_=v);obtain⟨u,h5,h6⟩:=Zz h2 h3;refine⟨u,?_,h6⟩;simp only[Q5,h1,gk];rw[if_pos ⟨by simp,by simpa using hj⟩];simp[h5]
  ·cases h
 ·cases h
theorem Bn (af:∀ x,SR P B pl tb (ev x) (evV x)) (gk:∀ c,evV (.const c)=c) {len size:Nat}{x i:Operand}(h:gq kt raw (.indexAddrArr len size x i) ev own=some (cs,v)):QOk P B pl tb σ (.indexAddrArr len size x i) evV v:=by
 have ha:=af x;simp only[gq] at h;split at h
 ·rename_i o f k j heq;split at h
  ·rename_i hj;obtain⟨rfl,rfl⟩:=Qx h;rw[heq] at ha;simp only[SR] at ha;obtain⟨b,h1,h2⟩:=ha;refine⟨.pointer (some ⟨b,f+j*size,none⟩),?_,?_⟩
   ·simp only[Q5,h2,gk];rw[if_pos ⟨by simp,by simpa using hj⟩];simp
   ·simp only[SR];exact⟨b,h1,rfl⟩
  ·cases h
 ·rename_i l f k j heq;split at h
  ·rename_i hj;obtain⟨rfl,rfl⟩:=Qx h;rw[heq] at ha;simp only[SR] at ha;obtain⟨b,c,e,wr,t,h1,h2,h3⟩:=ha;refine⟨.pointer (some ⟨b,f+j*size,none⟩),?_,?_⟩
   ·simp only[Q5,h2,gk];rw[if_pos ⟨by simp,by simpa using hj⟩];simp
   ·simp only[SR];exact⟨b,c,e,wr,t,h1,rfl,h3⟩
  ·cases h
 ·cases h
theorem Rh (af:∀ x,SR P B pl tb (ev x) (evV x)) (_hle:B.Le σ) (aA:∀ d,OR P B pl tb σ (pl d) (Q6 own d)) {size:Nat}{x i:Operand}(h:gq kt raw (.indexAddr size x i) ev own=some (cs,v)) (hc:∀ c∈cs,c):QOk P B pl tb σ (.indexAddr size x i) evV v:=by
 have ha:=af x;simp only[gq] at h;split at h
 ·rename_i o k' j heq hj;have ej:=QQ hj (af i);split at h
  ·rename_i ty k xs nl ho;split at h
   ·rename_i az;obtain⟨rfl,rfl⟩:=Qx h;have h0:0≤j:=hc _ (by simp);have h1:j<xs.length:=hc _ (by simp);rw[heq] at ha;simp only[SR] at ha;have ak:=aA o;rw[ho] at ak;rcases ak with⟨_,rfl,_⟩|⟨_,b,cap,c,t,h2,h3,h4,h5,h6⟩
    ·simp at h1;omega
    ·refine⟨.pointer (some ⟨b,0+j.toNat*size,none⟩),?_,?_⟩
     ·simp only[Q5,ha.1,h2,ej];rw[if_pos ⟨h0,h1⟩]
     ·simp only[SR];exact⟨b,_,cap,h2,h0,h1,by simp⟩
   ·cases h
  ·cases h
 ·rename_i o w k' j heq hj;have ej:=QQ hj (af i);rw[heq] at ha;simp only[SR] at ha;have ak:=aA o;split at h
  ·rename_i ty q k xs nl hole ho;rw[ho] at ak;split at h
   ·have key:(if k.size=size then some ([0≤j,j<xs.length],SV.dd o (.el j 0 size)) else none)=some (cs,v)→QOk P B pl tb σ (.indexAddr size x i) evV v:=by
     intro h;split at h
     ·rename_i az;obtain⟨rfl,rfl⟩:=Qx h;have h0:0≤j:=hc _ (by simp);have h1:j<xs.length:=hc _ (by simp);obtain⟨is,_,_,h2,_⟩:=ak;rcases h2 with⟨rfl,_⟩|⟨b,cap,c,t,js,h2,_⟩
      ·simp at h1;omega
      ·refine⟨.pointer (some ⟨b,0+j.toNat*size,none⟩),?_,?_⟩
       ·simp only[Q5,ha.1,h2,ej];rw[if_pos ⟨h0,h1⟩]
       ·simp only[SR,DR];exact⟨b,_,cap,h2,h0,h1,by simp⟩
     ·cases h
    split at h
    ·exact key h
    ·exact key h
   ·rename_i kr l ir;split at h
    ·rename_i az;obtain⟨rfl,rfl⟩:=Qx h;have h0:0≤j:=hc _ (by simp);have h1:j<l.length:=hc _ (by simp);obtain⟨tl,bh,b,len,cap,c,e,t,g1,g2,g3,g4,g5⟩:=ha;obtain⟨r,o',rc,aP,re,tm,rt,k1,k2,k3,k4⟩:=Sb tl (j:=j.toNat) (by omega);obtain rfl:o'=0:=bh _ _ _ k1;obtain rfl:=FB k2;refine⟨.pointer (some ⟨r,0+j.toNat*size,none⟩),?_,?_⟩
     ·simp only[Q5,k1,ej];rw[if_pos ⟨h0,h1⟩]
     ·simp only[SR,DR];exact⟨b,len,cap,c,e,t,r,l.length,rc,aP,re,rt,g1,g2,g3,g4,by rw[g5,k1],h0,h1,rfl,k2,by omega,by rw[List.drop_zero] at k4;exact k4,by simp[az]⟩
    ·cases h
   ·rename_i kr l;split at h
    ·rename_i az;obtain⟨rfl,rfl⟩:=Qx h;have h0:0≤j:=hc _ (by simp);have h1:j<l.length:=hc _ (by simp);obtain⟨r,o',rc,aP,re,tm,rt,k1,k2,k3,k4⟩:=Sb (show KC (J6 (pl o)) (.list kr) l [evV x] from ha) (j:=j.toNat) (by omega);refine⟨.pointer (some ⟨r,o'+j.toNat*size,none⟩),?_,?_⟩
     ·simp only[Q5,k1,ej];rw[if_pos ⟨h0,h1⟩]
     ·simp only[SR,DR];exact⟨r,o',aP,re,tm,rt,h0,h1,k2,by simp[az],k3,k4⟩
    ·cases h
   ·cases h
  ·cases h
 ·rename_i o lo n sz k' j heq hj;have ej:=QQ hj (af i);split at h
  ·rename_i ty k xs nl ho;split at h
   ·rename_i az;obtain⟨az,rfl⟩:=az;obtain⟨rfl,rfl⟩:=Qx h;have h0:0≤j:=hc _ (by simp);have h1:j<n:=hc _ (by simp);rw[heq] at ha;simp only[SR] at ha;rcases ha with⟨rfl,rfl,_,_⟩|⟨b,len,cap,au,h2,h3,h4,h5⟩
    ·simp at h1;omega
    ·refine⟨.pointer (some ⟨b,lo*sz+j.toNat*sz,none⟩),?_,?_⟩
     ·simp only[Q5,h5,ej];rw[if_pos ⟨h0,h1⟩]
     ·simp only[SR];refine⟨b,len,cap,h2,by omega,by omega,?_⟩;have:((lo:Int)+j).toNat=lo+j.toNat:=by omega
      rw[this,Nat.add_mul,Nat.add_zero]
   ·cases h
  ·cases h
 ·rename_i k l k' j heq hj;have ej:=QQ hj (af i);split at h
  ·rename_i az;obtain⟨rfl,rfl⟩:=Qx h;have h0:0≤j:=hc _ (by simp);have h1:j<l.length:=hc _ (by simp);rw[heq] at ha;simp only[SR,KC] at ha;obtain⟨v',e,hs⟩:=ha;obtain e:=(List.cons.inj e).1;rcases hs with⟨rfl,_⟩|⟨b,o,cap,c,e',wr,t,h2,h3,h4,h5,h6,h7⟩
   ·simp at h1;omega
   ·refine⟨.pointer (some ⟨b,o+j.toNat*size,none⟩),?_,?_⟩
    ·simp only[Q5,e,h2,ej];rw[if_pos ⟨h0,h1⟩]
    ·simp only[SR];exact⟨b,o,c,e',wr,t,h0,h1,h4,by rw[az,Nat.add_zero],h6,h7⟩
  ·cases h
 ·cases h
theorem QA (af:∀ x,SR P B pl tb (ev x) (evV x)) {x:Option Operand}{d:Nat}{a:Int}(h:JS ev x d=some a) (ha:0≤a):Zs evV x d=some a.toNat:=by
 cases x with
 |none=>obtain rfl:=osj h;simp[Zs]
 |some x =>simp only[JS,Option.map_eq_some_iff] at h;obtain⟨⟨k,a'⟩,h1,h2⟩:=h;simp only at h2;subst h2;simp only[Zs,QQ h1 (af x),ha,if_true]
theorem C3 (af:∀ x,SR P B pl tb (ev x) (evV x)) {x:Operand}{lo hi:Option Operand}(h:gq kt raw (.sliceStr x lo hi) ev own=some (cs,v)) (hc:∀ c∈cs,c):QOk P B pl tb σ (.sliceStr x lo hi) evV v:=by
 simp only[gq] at h;split at h
 ·rename_i s hs;have es:=WM hs (af x);split at h
  ·rename_i a b h1 h2;obtain⟨rfl,rfl⟩:=Qx h;have k0:0≤a:=hc _ (by simp);have k1:a≤b:=hc _ (by simp);have k2:b≤s.length:=hc _ (by simp);have e1:=QA (evV:=evV) af h1 k0;have e2:=QA (evV:=evV) af h2 (by omega);have jb:(ByteArray.mk s.toArray).size=s.length:=by simp[ByteArray.size]
   refine⟨.string ((ByteArray.mk s.toArray).extract a.toNat b.toNat),?_,?_⟩
   ·simp only[Q5,es,jb,e1,e2];rw[if_pos (by omega)]
   ·have:(ByteArray.mk s.toArray).extract a.toNat b.toNat=⟨((s.drop a.toNat).take (b-a).toNat).toArray⟩:=by
     apply ByteArray.ext;simp[ByteArray.data_extract];rw[show (b-a).toNat=b.toNat-a.toNat by omega]
    rw[this];exact Gk _
  ·cases h
 ·cases h
theorem Q60 (af:∀ x,SR P B pl tb (ev x) (evV x)) (aA:∀ d,OR P B pl tb σ (pl d) (Q6 own d)) {x:Operand}(h:gq kt raw (.len x) ev own=some (cs,v)):QOk P B pl tb σ (.len x) evV v:=by
 simp only[gq] at h;split at h
 ·rename_i n h1;obtain⟨rfl,rfl⟩:=Qx h;obtain⟨a,cap,e⟩:=A6 aA h1 (af x);exact⟨.int .i64 n,by simp only[Q5,e],J9 _ _⟩
 ·cases h
theorem Io (af:∀ x,SR P B pl tb (ev x) (evV x)) {x:Operand}(h:gq kt raw (.lenStr x) ev own=some (cs,v)):QOk P B pl tb σ (.lenStr x) evV v:=by
 simp only[gq] at h;split at h
 ·rename_i s h1;obtain⟨rfl,rfl⟩:=Qx h;exact⟨.int .i64 s.length,by simp only[Q5,WM h1 (af x)];simp[ByteArray.size],J9 _ _⟩
 ·cases h
theorem Q62 (af:∀ x,SR P B pl tb (ev x) (evV x)) {x y:Operand}(h:gq kt raw (.max x y) ev own=some (cs,v)):QOk P B pl tb σ (.max x y) evV v:=by
 simp only[gq] at h;split at h
 ·rename_i k a k' b h1 h2;obtain⟨e1,e2⟩:=UU af h1 h2;split at h
  ·rename_i hk;subst hk;obtain⟨rfl,rfl⟩:=Qx h;exact⟨.int k (K1 a b),by simp only[Q5,e1,e2,if_true];rfl,J9 _ _⟩
  ·cases h
 ·cases h
theorem Q4j (af:∀ x,SR P B pl tb (ev x) (evV x)) {x y z w:Operand}(h:gq kt raw (.max4 x y z w) ev own=some (cs,v)):QOk P B pl tb σ (.max4 x y z w) evV v:=by
 simp only[gq] at h;split at h
 ·rename_i k a k2 b k3 c k4 d h1 h2 h3 h4;obtain⟨e1,e2⟩:=UU af h1 h2;obtain⟨e3,e4⟩:=UU af h3 h4;split at h
  ·rename_i hk;obtain⟨rfl,rfl,rfl⟩:=hk;obtain⟨rfl,rfl⟩:=Qx h;exact⟨.int k (K1 (K1 (K1 a b) c) d),by simp only[Q5,e1,e2,e3,e4,and_self,if_true];rfl,J9 _ _⟩
  ·cases h
 ·cases h
theorem Q5y (af:∀ x,SR P B pl tb (ev x) (evV x)) {x y:Operand}(h:gq kt raw (.min x y) ev own=some (cs,v)):QOk P B pl tb σ (.min x y) evV v:=by
 simp only[gq] at h;split at h
 ·rename_i k a k' b h1 h2;obtain⟨e1,e2⟩:=UU af h1 h2;split at h
  ·rename_i hk;subst hk;obtain⟨rfl,rfl⟩:=Qx h;exact⟨.int k (Cb a b),by simp only[Q5,e1,e2,if_true];rfl,J9 _ _⟩
  ·cases h
 ·cases h
theorem LR (af:∀ x,SR P B pl tb (ev x) (evV x)) {fn:Fn}{a b:List Operand}(h:gq kt raw (.makeFunc fn a b) ev own=some (cs,v)):QOk P B pl tb σ (.makeFunc fn a b) evV v:=by
 cases fn with
 |func f =>obtain⟨rfl,rfl⟩:=Qx h;refine⟨.func (.func f) (a.map evV).toArray (b.map evV).toArray,by simp only[Q5],?_⟩;simp only[SR];exact⟨_,_,rfl,SRs.map fun x _=>af x,SRs.map fun x _=>af x⟩
 |_=>cases h
theorem SlRel.sl {h:Heap}{sz:Nat}{α:Type}{R:α→List Value→Prop}{l:List α}{v:Value}(hs:SlRel h sz R l v):∃ cs a cap,h.sl sz v=some cs∧Rows R l cs∧v=.slice a l.length cap:=by
 rcases hs with⟨rfl,rfl⟩|⟨i,o,cap,c,e,wr,t,rfl,h2,h3,h4,h5,h6⟩
 ·exact⟨[],_,_,rfl,.nil,rfl⟩
 ·refine⟨_,_,cap,?_,h6,rfl⟩;simp only[Heap.sl,h3];rw[if_pos ⟨h4,h5⟩]
theorem PK {h:Heap}:∀ {xs:List Int}{cs:List Value},Rows (KC h (.i .u8)) xs cs→NO cs=some ⟨(xs.map fun x=>x.toNat.toUInt8).toArray⟩:=by
 have key:∀ {xs:List Int}{cs:List Value},Rows (KC h (.i .u8)) xs cs→cs.mapM Rb=some (xs.map fun x=>x.toNat.toUInt8):=fun {xs cs} hr=>by
  induction hr with
  |nil=>rfl
  |@cons x xs c cs hx _ ih =>simp only[KC] at hx;subst hx;simp only[List.singleton_append,List.mapM_cons,Rb,ih,List.map_cons];rfl
 intro xs cs hr;simp only[NO,key hr,Option.map_some]
theorem Cz (af:∀ x,SR P B pl tb (ev x) (evV x)) (hle:B.Le σ) (aA:∀ d,OR P B pl tb σ (pl d) (Q6 own d)) {x:Operand}(h:gq kt raw (.ext (.bytesStr x)) ev own=some (cs,v)):QOk P B pl tb σ (.ext (.bytesStr x)) evV v:=by
 simp only[gq] at h;split at h
 ·rename_i xs h1;obtain⟨rfl,rfl⟩:=Qx h;obtain⟨cs,a,cap,h2,h3,h4⟩:=(Jt hle aA h1 (af x)).sl;refine⟨.string ⟨(F8 xs).toArray⟩,?_,Gk _⟩;have az:Kind.size (.i .u8)=1:=rfl;rw[h4,az] at h2;simp only[Q5,QM,h4,h2,PK h3];rfl
 ·cases h
theorem I9 (af:∀ x,SR P B pl tb (ev x) (evV x)) (aA:∀ d,OR P B pl tb σ (pl d) (Q6 own d)) {neg:Bool}{x y:Operand}(h:gq kt raw (.ext (.eqNil 0 neg x y)) ev own=some (cs,v)) (hc:∀ c∈cs,c):QOk P B pl tb σ (.ext (.eqNil 0 neg x y)) evV v:=by
 have hx:=af x;have hy:=af y;simp only[gq] at h;split at h
 ·rename_i h1 h2;obtain⟨rfl,rfl⟩:=Qx h;rw[h1] at hx;rw[h2] at hy;simp only[SR] at hx hy;exact⟨.bool (!neg),by simp only[Q5,QM,hx,hy,Zf];cases neg<;>rfl,Z7 _⟩
 ·rename_i o f h1 h2;obtain⟨rfl,rfl⟩:=Qx h;rw[h1] at hx;rw[h2] at hy;simp only[SR] at hx hy;obtain⟨b,_,hb⟩:=hx;exact⟨.bool neg,by simp only[Q5,QM,hb,hy,Zf];cases neg<;>rfl,Z7 _⟩
 ·rename_i l f h1 h2;obtain⟨rfl,rfl⟩:=Qx h;rw[h1] at hx;rw[h2] at hy;simp only[SR] at hx hy;obtain⟨b,c,e,wr,t,_,hb,_⟩:=hx;exact⟨.bool neg,by simp only[Q5,QM,hb,hy,Zf];cases neg<;>rfl,Z7 _⟩
 ·rename_i o c h1 h2;obtain⟨rfl,rfl⟩:=Qx h;rw[h1] at hx;rw[h2] at hy;simp only[SR,DR] at hx hy;rcases hx with⟨rfl,hb⟩|⟨rfl,b,_,hb⟩
  ·exact⟨.bool (bif neg then false else true),by simp only[Q5,QM,hb,hy,Zf];cases neg<;>rfl,Z7 _⟩
  ·exact⟨.bool (bif neg then true else false),by simp only[Q5,QM,hb,hy,Zf];cases neg<;>rfl,Z7 _⟩
 ·rename_i o c o' f h1 h2;split at h
  ·rename_i l u ho;split at h
   ·rename_i he;obtain⟨rfl,rfl⟩:=he;obtain⟨rfl,rfl⟩:=Qx h;have wq:c=true:=hc _ (by simp);rw[h1] at hx;rw[h2] at hy;simp only[SR,DR] at hx hy;have ak:=aA o;rw[ho] at ak;obtain⟨i,cc,e,t,hp,hg,_⟩:=ak;obtain⟨b',bE,hy⟩:=hy;rcases hx with⟨kj,_⟩|⟨_,b,fg,hb⟩
    ·rw[wq] at kj;cases kj
    ·rw[hp] at bE fg;simp only[phd,Value.pointer.injEq,Option.some.injEq] at bE fg;have e1:i=b':=by injection bE
     have e2:i=b:=by injection fg
     subst e1;subst e2;exact⟨.bool (!neg),by simp only[Q5,QM,hb,hy,Zf,hg,Option.isSome_some,and_self,if_true];cases neg<;>rfl,Z7 _⟩
   ·cases h
  ·cases h
 ·cases h
theorem CI (af:∀ x,SR P B pl tb (ev x) (evV x)) (aA:∀ d,OR P B pl tb σ (pl d) (Q6 own d)) {x:Operand}(h:gq kt raw (.ext (.toUnsafe x)) ev own=some (cs,v)):QOk P B pl tb σ (.ext (.toUnsafe x)) evV v:=by
 have hx:=af x;simp only[gq] at h;split at h
 ·rename_i o f h1;split at h
  ·rename_i l u ho;split at h
   ·rename_i hf;obtain⟨rfl,rfl⟩:=Qx h;rw[h1] at hx;have qW:=hx;simp only[SR] at hx;obtain⟨b,hp,hv⟩:=hx;have ak:=aA o;rw[ho] at ak;obtain⟨i,c,e,t,fg,hg,hl,_⟩:=ak;rw[hp] at fg;have e1:b=i:=by simpa using fg
    subst e1;refine⟨.pointer (some ⟨b,f,none⟩),?_,by rw[←hv];exact qW⟩;simp only[Q5,QM,hv,hg];rw[if_pos (by rw[←hl.length];exact hf)]
   ·cases h
  ·cases h
 ·cases h
theorem PJ (af:∀ x,SR P B pl tb (ev x) (evV x)) (aA:∀ d,OR P B pl tb σ (pl d) (Q6 own d)) {u size:Nat}{x:Operand}(h:gq kt raw (.ext (.fromUnsafe u size x)) ev own=some (cs,v)):QOk P B pl tb σ (.ext (.fromUnsafe u size x)) evV v:=by
 have hx:=af x;simp only[gq] at h;split at h
 ·rename_i o f h1;split at h
  ·rename_i l t0 ho;split at h
   ·rename_i hf;obtain⟨rfl,rfl,az⟩:=hf;obtain⟨rfl,rfl⟩:=Qx h;rw[h1] at hx;have qW:=hx;simp only[SR] at hx;obtain⟨b,hp,hv⟩:=hx;have ak:=aA o;rw[ho] at ak;obtain⟨i,c,e,t,fg,hg,hl,hu⟩:=ak;obtain⟨he,ht⟩:=hu _ rfl;subst ht;rw[hp] at fg;have e1:b=i:=by simpa using fg
    subst e1;refine⟨.pointer (some ⟨b,0,none⟩),?_,by rw[←hv];exact qW⟩;simp only[Q5,QM,hv,hg];rw[if_pos ⟨trivial,he,by rw[←hl.length];exact az⟩]
   ·cases h
  ·cases h
 ·cases h
theorem RX (af:∀ x,SR P B pl tb (ev x) (evV x)) (aA:∀ d,OR P B pl tb σ (pl d) (Q6 own d)) {x:Operand}(h:gq kt raw (.ext (.sliceData x)) ev own=some (cs,v)) (hc:∀ c∈cs,c):QOk P B pl tb σ (.ext (.sliceData x)) evV v:=by
 have hx:=af x;simp only[gq] at h;split at h
 ·rename_i h1;obtain⟨rfl,rfl⟩:=Qx h;rw[h1] at hx;simp only[SR] at hx;exact⟨.pointer none,by simp only[Q5,QM,hx],by simp[SR]⟩
 ·rename_i o h1;split at h
  ·rename_i ty k xs nl ho;obtain⟨rfl,rfl⟩:=Qx h;have dj:nl=false→xs≠[]:=hc _ (by simp);rw[h1] at hx;simp only[SR] at hx;have ak:=aA o;rw[ho] at ak;rcases ak with⟨_,_,hp⟩|⟨gY,i,cap,c,t,hp,cm,hg,_⟩
   ·refine⟨.pointer none,by simp only[Q5,QM,hx.1,hp],?_⟩;simp only[SR,DR];exact .inl ⟨by rw[hp];rfl,trivial⟩
   ·have aF:=List.length_pos_iff.2 (dj gY);refine⟨.pointer (some ⟨i,0,none⟩),?_,?_⟩
    ·simp only[Q5,QM,hx.1,hp,hg,Option.isSome_some,and_true];rw[if_pos (by omega)]
    ·simp only[SR,DR];exact .inr ⟨i,xs.length,cap,by rw[hp];rfl,aF,rfl⟩
  ·cases h
 ·cases h
theorem DS {size:Nat}{i o len cap l h:Nat}{c:List Value}{e:El}{wr t:Bool}(hg:σ.get i=some (.cells c e wr t)) (he:e.sz=size) (h1:l≤h) (h2:h≤cap) :
  XF size σ (.slice (some ⟨i,o,none⟩) len cap) l h none=some (.slice (some ⟨i,o+l*size,none⟩) (h-l) (cap-l),σ):=by
 simp only[XF,hg];rw[if_pos ⟨he,h1,h2⟩]
theorem Q39 {H:Heap}{k:Kind}{l:List k.T}{v:Value}(h:KC H (.list k) l [v]):∃ a c,v=.slice a l.length c:=by
 obtain⟨v',e,hs⟩:=h;obtain rfl:=(List.cons.inj e).1;rcases hs with⟨rfl,rfl⟩|⟨i,o,cap,c,e',wr,t,rfl,_⟩
 ·exact⟨_,_,rfl⟩
 ·exact⟨_,_,rfl⟩
theorem Lg {H:Heap}(hle:H.Le σ) {k:Kind}{l:List k.T}{v:Value}{a b:Nat}(h:KC H (.list k) l [v]) (k1:a≤b) (k2:b≤l.length) :
  ∃ u,XF k.size σ v a b none=some (u,σ)∧KC H (.list k) ((l.drop a).take (b-a)) [u]:=by
 obtain⟨v',e,hs⟩:=h;obtain rfl:=(List.cons.inj e).1;rcases hs with⟨rfl,rfl⟩|⟨i,o,cap,c,e',wr,t,rfl,h4,h5,h6,h7,h8⟩
 ·simp only[List.length_nil] at k2;have za:a=0:=by omega
  have zb:b=0:=by omega
  subst za;subst zb;exact⟨.slice none 0 0,by simp only[XF];rfl,_,rfl,.inl ⟨by simp,rfl⟩⟩
 ·have hlen:((l.drop a).take (b-a)).length=b-a:=by simp;omega
  refine⟨.slice (some ⟨i,o+a*k.size,none⟩) (b-a) (cap-a),DS (hle.2 _ _ h5) h6 (by omega) (by omega),_,rfl,.inr ⟨i,o+a*k.size,cap-a,c,e',wr,t,by rw[hlen],by rw[hlen];omega,h5,h6,?_,?_⟩⟩
  ·rw[hlen];have:(a+(b-a))*k.size≤l.length*k.size:=Nat.mul_le_mul_right _ (by omega);rw[Nat.add_mul] at this;omega
  ·rw[hlen];have:=(h8.drop KC.rows_len a).take KC.rows_len (b-a);have e3:(((c.drop o).take (l.length*k.size)).drop (a*k.size)).take ((b-a)*k.size)=(c.drop (o+a*k.size)).take ((b-a)*k.size):=by
    apply List.ext_getElem?;intro j;simp only[List.getElem?_take,List.getElem?_drop];split
    ·have:(a+(b-a))*k.size≤l.length*k.size:=Nat.mul_le_mul_right _ (by omega);rw[Nat.add_mul] at this;rw[if_pos (by omega),Nat.add_assoc]
    ·rfl
   rw[e3] at this;exact this
theorem Q16 (af:∀ x,SR P B pl tb (ev x) (evV x)) (hle:B.Le σ) (aA:∀ d,OR P B pl tb σ (pl d) (Q6 own d)) {size:Nat}{x:Operand}{lo hi mx:Option Operand}(h:gq kt raw (.slice size x lo hi mx) ev own=some (cs,v)) (hc:∀ c∈cs,c):QOk P B pl tb σ (.slice size x lo hi mx) evV v:=by
 have ha:=af x;cases mx with
 |some m=>cases h
 |none =>
 simp only[gq] at h;split at h
 ·rename_i o heq;rw[heq] at ha;simp only[SR] at ha;have ak:=aA o;split at h
  ·rename_i ty k xs nl ho;rw[ho] at ak;split at h
   ·rename_i az;split at h
    ·rename_i a b h1 h2;obtain⟨rfl,rfl⟩:=Qx h;have k0:0≤a:=hc _ (by simp);have k1:a≤b:=hc _ (by simp);have k2:b≤xs.length:=hc _ (by simp);have e1:=QA (evV:=evV) (d:=0) af h1 k0;have e2:=QA (evV:=evV) af h2 (by omega);rcases ak with⟨_,rfl,h3⟩|⟨_,i,cap,c,t,h3,h4,h5,h6,h7⟩
     ·simp only[List.length_nil] at k2 e2;have za:a.toNat=0:=by omega
      have zb:b.toNat=0:=by omega
      have zc:(b-a).toNat=0:=by omega
      refine⟨.slice none 0 0,?_,?_⟩
      ·simp only[Q5,ha.1,h3,e1,e2,za,zb,XF];rfl
      ·rw[za,zc];simp only[SR];exact .inl ⟨trivial,trivial,trivial,h3⟩
     ·refine⟨.slice (some ⟨i,0+a.toNat*size,none⟩) (b.toNat-a.toNat) (cap-a.toNat),?_,?_⟩
      ·simp only[Q5,ha.1,h3,e1,e2];exact DS h5 az (by omega) (by omega)
      ·simp only[SR];refine .inr ⟨i,_,cap,cap-a.toNat,h3,by omega,by omega,?_⟩;rw[Nat.zero_add,show (b-a).toNat=b.toNat-a.toNat by omega]
    ·cases h
   ·cases h
  ·cases h
 ·rename_i o l0 n sz heq;rw[heq] at ha;simp only[SR] at ha;have ak:=aA o;split at h
  ·rename_i ty k xs nl ho;rw[ho] at ak;split at h
   ·rename_i az;obtain⟨az,rfl⟩:=az;split at h
    ·rename_i a b h1 h2;obtain⟨rfl,rfl⟩:=Qx h;have k0:0≤a:=hc _ (by simp);have k1:a≤b:=hc _ (by simp);have k2:b≤n:=hc _ (by simp);have e1:=QA (evV:=evV) (d:=0) af h1 k0;have e2:=QA (evV:=evV) af h2 (by omega);rcases ha with⟨rfl,rfl,hv,hp⟩|⟨i,len,cap,au,h3,h4,h5,hv⟩
     ·have za:a.toNat=0:=by omega
      have zb:b.toNat=0:=by omega
      have zc:(b-a).toNat=0:=by omega
      refine⟨.slice none 0 0,?_,?_⟩
      ·simp only[Q5,hv,e1,e2,za,zb,XF];rfl
      ·rw[za,zc];simp only[SR];exact .inl ⟨trivial,trivial,trivial,hp⟩
     ·rcases ak with⟨_,_,h6⟩|⟨_,i',eY,c,t,h6,h7,h8,h9,bZ⟩
      ·rw[h3] at h6;cases h6
      ·rw[h3] at h6;obtain⟨rfl,rfl,rfl⟩:=(by simpa using h6:i=i'∧len=xs.length∧cap=eY);refine⟨.slice (some ⟨i,l0*sz+a.toNat*sz,none⟩) (b.toNat-a.toNat) (au-a.toNat),?_,?_⟩
       ·simp only[Q5,hv,e1,e2];exact DS h8 az (by omega) (by omega)
       ·simp only[SR];refine .inr ⟨i,_,cap,au-a.toNat,h3,by omega,by omega,?_⟩;rw[Nat.add_mul,show (b-a).toNat=b.toNat-a.toNat by omega]
    ·cases h
   ·cases h
  ·cases h
 ·rename_i k l heq;rw[heq] at ha;simp only[SR] at ha;split at h
  ·rename_i az;split at h
   ·rename_i a b h1 h2;obtain⟨rfl,rfl⟩:=Qx h;have k0:0≤a:=hc _ (by simp);have k1:a≤b:=hc _ (by simp);have k2:b≤l.length:=hc _ (by simp);have e1:=QA (evV:=evV) (d:=0) af h1 k0;have e2:=QA (evV:=evV) af h2 (by omega);obtain⟨v',e⟩:=List.length_eq_one_iff.1 (KC.length ha);obtain⟨u,g1,g2⟩:=Lg hle (a:=a.toNat) (b:=b.toNat) ha (by omega) (by omega);obtain⟨n,cap,e3⟩:=Q39 ha;refine⟨u,?_,?_⟩
    ·simp only[Q5,e3,e1,e2];rw[←az,←e3];exact g1
    ·simp only[SR];rw[show (b-a).toNat=b.toNat-a.toNat by omega];exact g2
   ·cases h
  ·cases h
 ·rename_i o w heq;rw[heq] at ha;simp only[SR] at ha;have ak:=aA o;split at h
  ·rename_i ty q k xs nl hole ho;rw[ho] at ak
   have key:∀ (k:Kind) (l:List k.T),KC (J6 (pl o)) (.list k) l [evV x]→(if k.size=size then (match JS ev lo 0,JS ev hi l.length with
     |some a,some b=>some ([0≤a,a≤b,b≤(l.length:Int)],SV.dd o (.inn k ((l.drop a.toNat).take (b-a).toNat)))
     |_,_=>none) else none)=some (cs,v)→QOk P B pl tb σ (.slice size x lo hi none) evV v:=by
    intro k l ha h;split at h
    ·rename_i az;split at h
     ·rename_i a b h1 h2;obtain⟨rfl,rfl⟩:=Qx h;have k0:0≤a:=hc _ (by simp);have k1:a≤b:=hc _ (by simp);have k2:b≤l.length:=hc _ (by simp);have e1:=QA (evV:=evV) (d:=0) af h1 k0;have e2:=QA (evV:=evV) af h2 (by omega);obtain⟨u,g1,g2⟩:=Lg (DP.le ak) (a:=a.toNat) (b:=b.toNat) ha (by omega) (by omega);obtain⟨n,cap,e3⟩:=(DC ha).len;refine⟨u,?_,?_⟩
      ·simp only[Q5,e3,e1,e2];rw[←az,←e3];exact g1
      ·simp only[SR,DR];rw[show (b-a).toNat=b.toNat-a.toNat by omega];exact g2
     ·cases h
    ·cases h
   split at h
   ·exact key _ _ ha h
   ·exact key _ _ ha.1 h
   ·cases h
  ·cases h
 ·rename_i heq;rw[heq] at ha;simp only[SR] at ha;split at h
  ·rename_i a b h1 h2;obtain⟨rfl,rfl⟩:=Qx h;have k0:a=0:=hc _ (by simp);have k1:b=0:=hc _ (by simp);subst k0;subst k1;have e1:=QA (evV:=evV) (d:=0) af h1 (Int.le_refl _);have e2:=QA (evV:=evV) (d:=0) af h2 (Int.le_refl _);refine⟨.slice none 0 0,?_,?_⟩
   ·simp only[Q5,ha,e1,e2,XF];rfl
   ·simp only[SR]
  ·cases h
 ·cases h
theorem Q00 (af:∀ x,SR P B pl tb (ev x) (evV x)) {neg:Bool}{x y:Operand}(aA:∀ d,OR P B pl tb σ (pl d) (Q6 own d)) (h:gq kt raw (.ext (.eqNil 1 neg x y)) ev own=some (cs,v)) (hc:∀ c∈cs,c):QOk P B pl tb σ (.ext (.eqNil 1 neg x y)) evV v:=by
 have ha:=af x;have hb:=af y;simp only[gq] at h;split at h
 ·rename_i h1 h2;rw[h1] at ha;rw[h2] at hb;simp only[SR] at ha hb;obtain⟨rfl,rfl⟩:=Qx h;refine⟨.bool (!neg),?_,Z7 _⟩;simp only[Q5,QM,ha,hb,Zf];cases neg<;>rfl
 ·rename_i o h1 h2;rw[h1] at ha;rw[h2] at hb;simp only[SR] at ha hb;have ak:=aA o;split at h
  ·rename_i ty k xs nl ho;rw[ho] at ak;obtain⟨rfl,rfl⟩:=Qx h;refine⟨.bool (bif neg then !nl else nl),?_,Z7 _⟩;rcases ak with⟨rfl,_,h3⟩|⟨rfl,i,cap,c,t,h3,_⟩
   ·simp only[Q5,QM,ha.1,h3,hb,Zf];cases neg<;>rfl
   ·simp only[Q5,QM,ha.1,h3,hb,Zf];cases neg<;>rfl
  ·cases h
 ·rename_i o h1 h2;rw[h1] at ha;rw[h2] at hb;simp only[SR] at ha hb;have ak:=aA o;split at h
  ·rename_i ty q k xs nl hole ho;rw[ho] at ak;obtain⟨rfl,rfl⟩:=Qx h;refine⟨.bool (bif neg then !nl else nl),?_,Z7 _⟩;obtain⟨is,_,_,g2,_,_,g5⟩:=ak;obtain⟨e1,_⟩:=ha;rcases g2 with⟨_,h3,_⟩|⟨i,cap,c,t,js,h3,_⟩
   ·obtain rfl:=g5.2 h3;simp only[Q5,QM,e1,h3,hb,Zf];cases neg<;>rfl
   ·have hn:nl=false:=by
     cases nl with
     |false=>rfl
     |true=>rw[g5.1 rfl] at h3;cases h3
    subst hn;simp only[Q5,QM,e1,h3,hb,Zf];cases neg<;>rfl
  ·cases h
 ·rename_i k l h1 h2;rw[h1] at ha;rw[h2] at hb;simp only[SR] at ha hb;obtain⟨rfl,rfl⟩:=Qx h;have hl:=hc (l≠[]) (by simp);refine⟨.bool neg,?_,Z7 _⟩;obtain⟨u,hu,hs⟩:=ha;obtain rfl:=(List.cons.inj hu).1;rcases hs with⟨e,_⟩|⟨i,o,cap,c,e,wr,t,h3,_⟩
  ·exact absurd e hl
  ·simp only[Q5,QM,h3,hb,Zf];cases neg<;>rfl
 ·cases h
theorem FZ (af:∀ x,SR P B pl tb (ev x) (evV x)) {mk:MK}{z:Value}{ok:Bool}{x i:Operand}(_hle:B.Le σ) (aA:∀ d,OR P B pl tb σ (pl d) (Q6 own d)) (h:gq kt raw (.ext (.lookup mk z ok x i)) ev own=some (cs,v)):QOk P B pl tb σ (.ext (.lookup mk z ok x i)) evV v:=by
 have ha:=af x;simp only[gq] at h;split at h
 ·rename_i o h1;rw[h1] at ha;simp only[SR] at ha;have ak:=aA o;split at h
  ·rename_i kk vk m ho;rw[ho] at ak;obtain⟨id,es,clock,h2,h3,h4⟩:=ak;split at h
   ·rename_i b9;obtain⟨b9,hz⟩:=b9;split at h
    ·rename_i key bM;have hk:=Y9 bM (af i) Qf;have bR:=Yo b9 hk;have hall:=MR.keys b9 h4.1;have qX:KV B vk vk.dflt z:=M1 hz;have aE:σ.mapAt id=some (es,clock,true):=by simp[Heap.mapAt,h3]
     have aK:=MR.find b9 hk qX h4.1
     have base:∀ u,(match Qa (evV i) es with
      |some e=>some (if ok then Value.tuple #[e.2.1,.bool true] else e.2.1,σ)
      |none=>some (if ok then .tuple #[z,.bool false] else z,σ))=some (u,σ)→Q5 (.ext (.lookup mk z ok x i)) evV σ=some (u,σ):=fun u hu=>by
      simp only[Q5,QM,bR,if_true,ha.1,h2,aE,hall];exact hu
     cases ok with
     |true =>
      simp only[if_true] at h;obtain⟨rfl,rfl⟩:=Qx h;rcases aK with⟨e,k1,k2,k3⟩|⟨k1,k2,k3⟩
      ·refine⟨.tuple #[e.2.1,.bool true],base _ (by rw[k1];rfl),?_⟩;simp only[SR];refine⟨[e.2.1,.bool true],rfl,?_⟩;simp only[SRs,SR];exact⟨_,_,rfl,J2 k3,_,_,rfl,by simp[KC,k2],rfl⟩
      ·refine⟨.tuple #[z,.bool false],base _ (by rw[k1];rfl),?_⟩;simp only[SR];refine⟨[z,.bool false],rfl,?_⟩;simp only[SRs,SR];exact⟨_,_,rfl,by rw[k3];exact J2 qX,_,_,rfl,by simp[KC,k2],rfl⟩
     |false =>
      simp only[Bool.false_eq_true,if_false] at h;obtain⟨rfl,rfl⟩:=Qx h;rcases aK with⟨e,k1,k2,k3⟩|⟨k1,k2,k3⟩
      ·exact⟨e.2.1,base _ (by rw[k1];rfl),J2 k3⟩
      ·exact⟨z,base _ (by rw[k1];rfl),by rw[k3];exact J2 qX⟩
    ·cases h
   ·cases h
  ·cases h
 ·cases h
theorem Ic (af:∀ x,SR P B pl tb (ev x) (evV x)) {x:Operand}(aA:∀ d,OR P B pl tb σ (pl d) (Q6 own d)) (h:gq kt raw (.ext (.lenMap x)) ev own=some (cs,v)):QOk P B pl tb σ (.ext (.lenMap x)) evV v:=by
 have ha:=af x;simp only[gq] at h;split at h
 ·rename_i o h1;rw[h1] at ha;simp only[SR] at ha;have ak:=aA o;split at h
  ·rename_i kk vk m ho;rw[ho] at ak;obtain⟨id,es,clock,h2,h3,h4⟩:=ak;obtain⟨rfl,rfl⟩:=Qx h;have aE:σ.mapAt id=some (es,clock,true):=by simp[Heap.mapAt,h3]
   refine⟨.int .i64 es.length,by simp only[Q5,QM,ha.1,h2,aE],?_⟩;rw[h4.1.length];exact J9 _ _
  ·cases h
 ·cases h
theorem MR.at {kk vk:Kind}:∀ {m:List (kk.T×vk.T)}{es:List ZC}{r:Nat}{e:ZC},MR B kk vk m es→es[r]?=some e→∃ h:r<m.length,KV B kk m[r].1 e.1∧KV B vk m[r].2 e.2.1
 |[],es,r,e,h,he=>by simp only[MR] at h;subst h;simp at he
 |x::m,es,r,e,h,he=>by
  obtain⟨e',bV,rfl,h1,h2,h3⟩:=h;cases r with
  |zero=>simp only[List.getElem?_cons_zero,Option.some.injEq] at he;subst he;exact⟨by simp,h1,h2⟩
  |succ r =>obtain⟨k1,k2,k3⟩:=MR.at h3 (by simpa using he);exact⟨by simpa using k1,k2,k3⟩
theorem UM:∀ {k:Kind},k.keyk=true→∀ {x:k.T}{cs:List Value},KC B k x cs→cs.all Qr=true
 |.pair a b,hk,x,cs,h=>by simp only[Kind.keyk,Bool.and_eq_true] at hk;obtain⟨c1,c2,rfl,h1,h2⟩:=h;rw[List.all_append,UM hk.1 h1,UM hk.2 h2];rfl
 |.i _,_,x,cs,h=>by simp only[KC] at h;subst h;rfl
 |.bo,_,x,cs,h=>by simp only[KC] at h;subst h;rfl
 |.st,_,x,cs,h=>by simp only[KC] at h;subst h;rfl
 |.list _,hk,_,_,_=>by cases hk
theorem TP {k:Kind}(hk:k.keyk=true) {x:k.T}{v:Value}(h:KV B k x v):WS v=true:=by
 rcases h with⟨ho,h⟩|⟨ho,cs,rfl,h⟩
 ·have:=UM hk h;rw[List.all_cons,Bool.and_eq_true] at this;have hp:=this.1;cases v<;>first|exact hp|cases hp
 ·show cs.toArray.toList.all Qr=true;exact UM hk h
theorem Nf {es:List ZC}{clock:Nat}(h:SOk es clock) {r r':Nat}{e e':ZC}(h1:es[r]?=some e) (h2:es[r']?=some e') (he:e.2.2=e'.2.2):r=r':=by
 obtain⟨k1,rfl⟩:=List.getElem?_eq_some_iff.1 h1;obtain⟨k2,rfl⟩:=List.getElem?_eq_some_iff.1 h2;have:=h.1;rw[List.nodup_iff_pairwise_ne,List.pairwise_iff_getElem] at this;rcases Nat.lt_trichotomy r r' with aj|aj|aj
 ·exact absurd (by rw[List.getElem_map,List.getElem_map];exact he) (this r r' (by simpa using k1) (by simpa using k2) aj)
 ·exact aj
 ·exact absurd (by rw[List.getElem_map,List.getElem_map];exact he.symm) (this r' r (by simpa using k2) (by simpa using k1) aj)
theorem Ce {es:List ZC}{clock:Nat}(h:SOk es clock) {r:Nat}{e:ZC}(h1:es[r]?=some e):es.find? (fun e'=>e'.2.2==e.2.2)=some e:=by
 obtain⟨k1,rfl⟩:=List.getElem?_eq_some_iff.1 h1;rw[List.find?_eq_some_iff_getElem];refine⟨by simp,r,k1,rfl,fun j hj=>?_⟩;have cr:j<es.length:=by omega
 simp only[Bool.not_eq_true',beq_eq_false_iff_ne];intro he;have:=Nf h (List.getElem?_eq_getElem cr) h1 he;omega
theorem Q0o (af:∀ x,SR P B pl tb (ev x) (evV x)) (hle:B.Le σ) (aA:∀ d,OR P B pl tb σ (pl d) (Q6 own d)) {x:Operand}(h:gq kt raw (.ext (.entry x)) ev own=some (cs,v)) (hc:∀ c∈cs,c):QOk P B pl tb σ (.ext (.entry x)) evV v:=by
 simp only[gq] at h;split at h
 ·rename_i o f h1;split at h
  ·rename_i kk vk m dn ho;split at h
   ·rename_i ao;obtain⟨rfl,hk,hv⟩:=ao;obtain⟨rfl,rfl⟩:=Qx h;have oy:dn≠[]:=hc _ (by simp);have e1:=af x;rw[h1] at e1;simp only[SR] at e1;obtain⟨b,e2,e3⟩:=e1;have ak:=aA o;rw[ho] at ak;obtain⟨j,i,es,clock,wr,seen,h2,h3,h4,h5,h6⟩:=ak;rw[h2] at e2;obtain rfl:j=b:=by simpa using e2
    have eK:0<dn.length:=List.length_pos_iff.2 oy;have dK:dn[dn.length-1]?=some (dn.getLastD 0):=by rw[List.getLastD_eq_getLast?,List.getLast?_eq_getElem?];rw[List.getElem?_eq_getElem (show dn.length-1<dn.length by omega)];rfl
    obtain⟨e,iK,jK⟩:=h6.2 _ _ dK;have lh:seen.getLast?=some e.2.2:=by rw[List.getLast?_eq_getElem?,h6.1];exact jK
    obtain⟨hr,k1,k2⟩:=MR.at h5.1 iK;have k2:=k2.kc hv;have aE:σ.mapAt i=some (es,clock,wr):=by simp[Heap.mapAt,hle.2 _ _ h4]
    have cT:=Ce h5.2 iK;refine⟨.tuple #[e.1,e.2.1],?_,?_⟩
    ·simp only[Q5,QM,e3,h3,aE,lh,cT,if_true];rw[if_pos (TP hk k1)]
    ·simp only[SR,SRs];refine⟨[e.1,e.2.1],rfl,e.1,[e.2.1],rfl,?_,e.2.1,[],rfl,?_,rfl⟩
     ·have:m.getD (dn.getLastD 0) (kk.dflt,vk.dflt)=m[dn.getLastD 0]:=by rw[List.getD_eq_getElem?_getD,List.getElem?_eq_getElem hr];rfl
      rw[this];exact J2 k1
     ·have:m.getD (dn.getLastD 0) (kk.dflt,vk.dflt)=m[dn.getLastD 0]:=by rw[List.getD_eq_getElem?_getD,List.getElem?_eq_getElem hr];rfl
      rw[this];exact k2
   ·cases h
  ·cases h
 ·cases h
theorem HG (af:∀ x,SR P B pl tb (ev x) (evV x)) (gk:∀ c,evV (.const c)=c) (hle:B.Le σ) (aA:∀ d,OR P B pl tb σ (pl d) (Q6 own d)) {o:VOp}(h:gq kt raw o ev own=some (cs,v)) (hc:∀ c∈cs,c):QOk P B pl tb σ o evV v:=by
 cases o with
 |move x=>obtain⟨rfl,rfl⟩:=Qx h;exact⟨evV x,rfl,af x⟩
 |arith=>exact Q0l af h hc
 |div=>exact Q5u af h hc
 |bits=>exact Q2k af h
 |shift=>exact Q13 af h hc
 |cmp=>exact Q6l af h
 |str=>exact Q6a af h hc
 |eqB=>exact Q5e af h
 |un=>exact Q7v af h hc
 |convI=>exact Q07 af h hc
 |convS=>exact Q09 af h
 |build=>exact Q1t af h
 |load=>exact Q27 af hle aA h
 |fieldAddr=>exact RK af h
 |field=>exact Q0p af h
 |indexAddr=>exact Rh af hle aA h hc
 |indexAddrArr=>exact Bn af gk h
 |indexStr=>exact Cw af h hc
 |indexArr=>exact A4 af gk h
 |slice=>exact Q16 af hle aA h hc
 |sliceStr=>exact C3 af h hc
 |len=>exact Q60 af aA h
 |lenStr=>exact Io af h
 |max=>exact Q62 af h
 |max4=>exact Q4j af h
 |min=>exact Q5y af h
 |makeFunc=>exact LR af h
 |extract=>exact E_ af h
 |nilCheck=>exact LF af h
 |ext x =>
  cases x with
  |eqNil k neg a b =>
   match k with
   |1=>exact Q00 af aA h hc
   |0=>exact I9 af aA h hc
   |(n+2)=>cases h
  |eqAgg n s a b=>exact Q12 af h
  |toUnsafe a=>exact CI af aA h
  |fromUnsafe u size a=>exact PJ af aA h
  |sliceData a=>exact RX af aA h hc
  |bytesStr a=>exact Cz af hle aA h
  |lookup=>exact FZ af hle aA h
  |lenMap=>exact Ic af aA h
  |entry a=>exact Q0o af hle aA h hc
  |_=>cases h
 |_=>cases h
end
end
end Go.V
namespace Go.V
open Go
theorem Q7w {α:Type}{l:List α}(h:¬ l=[]) (b:Bool):(l.isEmpty&&b)=false:=by cases l with|nil=>exact absurd rfl h|cons _ _=>rfl
theorem Q6q {α:Type}{l:List α}(h:¬ l=[]):l.isEmpty=false:=by cases l with|nil=>exact absurd rfl h|cons _ _=>rfl
theorem Jv {c vs:List Value}{o:Nat}(h:o+vs.length≤c.length):Jc c o vs=c.take o++vs++c.drop (o+vs.length):=by
 apply List.ext_getElem?;intro k;rcases Nat.lt_or_ge k o with hk|hk
 ·rw[Xi vs c o k (.inl hk),List.append_assoc,List.getElem?_append_left (by simp;omega),List.getElem?_take,if_pos hk]
 ·rcases Nat.lt_or_ge k (o+vs.length) with av|av
  ·have:=Po vs c o (k-o) h (by omega);rw[show o+(k-o)=k by omega] at this;rw[this,List.append_assoc,List.getElem?_append_right (by simp;omega),List.getElem?_append_left (by simp;omega)];congr 1;simp;omega
  ·rw[Xi vs c o k (.inr av),List.getElem?_append_right (by simp;omega),List.getElem?_drop];congr 1;simp;omega
theorem L4 (us c:List Value) {m p n off:Nat}(h1:off+us.length≤n) (h2:p+n≤m) (h3:m≤c.length) :
  (Jc c (p+off) us).take m=(c.take m).take p++Jc (((c.take m).drop p).take n) off us++(c.take m).drop (p+n):=by
 have l1:(((c.take m).drop p).take n).length=n:=by simp;omega
 have bk:∀ q,q<n→(((c.take m).drop p).take n)[q]?=c[p+q]?:=fun q hq=>by rw[List.getElem?_take,if_pos hq,List.getElem?_drop,List.getElem?_take,if_pos (by omega)]
 generalize ((c.take m).drop p).take n=row at l1 bk;have l2:((c.take m).take p).length=p:=by simp;omega
 have l3:(Jc row off us).length=n:=by rw[QX,l1]
 have g2:∀ q,q<p→((c.take m).take p)[q]?=c[q]?:=fun q hq=>by rw[List.getElem?_take,if_pos hq,List.getElem?_take,if_pos (by omega)]
 generalize (c.take m).take p=pre at l2 g2;apply List.ext_getElem?;intro j;rw[List.getElem?_take,List.append_assoc];by_cases hj:j<m
 ·rw[if_pos hj];rcases Nat.lt_or_ge j p with a1|a1
  ·rw[Xi us c _ j (.inl (by omega)),List.getElem?_append_left (by omega),g2 j a1]
  ·rw[List.getElem?_append_right (by omega),l2];rcases Nat.lt_or_ge j (p+n) with a2|a2
   ·rw[List.getElem?_append_left (by omega)];rcases Nat.lt_or_ge (j-p) off with a3|a3
    ·rw[Xi us c _ j (.inl (by omega)),Xi us _ _ _ (.inl a3),bk _ (by omega)];congr 1;omega
    ·rcases Nat.lt_or_ge (j-p) (off+us.length) with a4|a4
     ·have b1:=Po us c (p+off) (j-(p+off)) (by omega) (by omega);have b2:=Po us row off (j-(p+off)) (by omega) (by omega);rw[show p+off+(j-(p+off))=j by omega] at b1;rw[show off+(j-(p+off))=j-p by omega] at b2;rw[b1,b2]
     ·rw[Xi us c _ j (.inr (by omega)),Xi us _ _ _ (.inr a4),bk _ (by omega)];congr 1;omega
   ·rw[Xi us c _ j (.inr (by omega)),List.getElem?_append_right (by omega),List.getElem?_drop,List.getElem?_take,l3,if_pos (by omega)];congr 1;omega
 ·rw[if_neg hj,List.getElem?_append_right (by omega),List.getElem?_append_right (by omega),List.getElem?_drop,List.getElem?_take,if_neg (by omega)]
theorem Heap.Le.push {B σ:Heap}(h:B.Le σ) (b:Blk):B.Le (σ.push b) :=
 ⟨by have:=h.1;simp;omega,fun i b' hb=>by rw[Heap.get_push_lt _ _ (σ.lt (h.2 i b' hb))];exact h.2 i b' hb⟩
theorem Heap.Le.upd {B σ:Heap}(h:B.Le σ) {i:Nat}(hi:B.get i=none) (b:Blk):B.Le (σ.upd i b) :=
 ⟨by simpa using h.1,fun j b' hb=>by
  have:j≠i:=fun e=>by subst e;rw[hi] at hb;cases hb
  rw[Heap.get_upd_ne _ _ this];exact h.2 j b' hb⟩
theorem Heap.Le.kill {B σ:Heap}(h:B.Le σ) {i:Nat}(hi:B.get i=none):B.Le (σ.kill i) :=
 ⟨by simpa using h.1,fun j b' hb=>by
  have:j≠i:=fun e=>by subst e;rw[hi] at hb;cases hb
  rw[Heap.get_kill_ne _ this];exact h.2 j b' hb⟩
theorem Heap.Le.fresh {B σ:Heap}(h:B.Le σ):B.get σ.n=none:=B.wf _ h.1
section
variable {P:Program}{B F:Heap}{pl:Nat→Value}{tb:Nat→Option Bool}{s:St}{env:Env}{σ:Heap}
theorem OR.id_lt {p:Value}{b:OB}(h:OR P B pl tb σ p b) (hl:b.live=true) {i:Nat}(hi:Oid p i):i<σ.n:=by
 cases b with
 |dead=>cases hl
 |lst ty k xs nl =>
  rcases h with⟨_,_,rfl⟩|⟨_,i',cap,c,t,rfl,_,h3,_⟩
  ·cases hi
  ·obtain rfl:=osj hi;exact σ.lt h3
 |cells l u=>obtain⟨i',c,e,t,rfl,h2,_⟩:=h;obtain rfl:=osj hi;exact σ.lt h2
 |map kk vk m=>obtain⟨i',es,clock,rfl,h2,_⟩:=h;obtain rfl:=osj hi;exact σ.lt h2
 |mapE kk vk m key n=>obtain⟨i',es,clock,r,e,rfl,h2,_⟩:=h;obtain rfl:=osj hi;exact σ.lt h2
 |iter kk vk m dn=>obtain⟨j,i',es,clock,wr,seen,rfl,h2,_⟩:=h;obtain rfl:=osj hi;exact σ.lt h2
 |lpf l q s=>obtain⟨rfl,_,h2⟩:=h;obtain rfl:=osj hi;exact σ.lt (h2 hl)
 |deep ty q k xs nl hh =>obtain⟨is,hO,_,_,_,h4,_⟩:=h;obtain⟨b',cw⟩:=(hO i).1 hi;exact σ.lt (h4 i b' cw)
 |stk l vals=>cases hl
theorem Gam.push (h:Gam P B F pl tb s env σ) (d:Nat) (b:OB) (p:Value) (blk:Blk) (hp:oid p=some σ.n) (hb:OR P B (QO pl d p) tb (σ.push blk) p b):Gam P B F (QO pl d p) tb (s.make d b) env (σ.push blk):=by
 refine h.make d b p (h.le.push blk) (fun j i hj hl hi=>?_) hb (fun i _ hi=>?_)
 ·exact Heap.get_push_lt _ _ ((h.obj j).id_lt hl hi)
 ·obtain rfl:=EY hp hi;exact⟨h.le.fresh,fun j _ hl e=>by have:=(h.obj j).id_lt hl e;omega⟩
theorem Rows.cellOk {k:Kind}{xs:List k.T}{cs:List Value}(h:Rows (KC B k) xs cs):cs.all Go.V.cellOk=true:=by
 induction h with
 |nil=>rfl
 |cons h _ ih=>rw[List.all_append,KC.cellOk h,ih];rfl
theorem NA {pl:Nat→Value}:∀ {k:Kind}{off:Nat}{v:SV}{u:Value}{x y:k.T}{row:List Value},Q2v k off v x=some y→KC B k x row→SR P B pl tb v u→off<k.size→KC B k y (Jc row off [u])
 |.pair a b,off,v,u,x,y,row,h,hr,hv,ho=>by
  obtain⟨c1,c2,rfl,h1,h2⟩:=hr;have l1:=KC.length h1;have l2:=KC.length h2;simp only[Q2v] at h;simp only[Jc];cases hb:Nat.blt off a.size with
  |true =>
   rw[hb] at h;simp only[_root_.cond_true,Option.map_eq_some_iff] at h;obtain⟨z,h3,rfl⟩:=h;have bh:off<a.size:=by simpa [Nat.blt_eq] using hb
   have:=NA h3 h1 hv bh;exact⟨c1.set off u,c2,by rw[List.set_append_left _ _ (by omega)],this,h2⟩
  |false =>
   rw[hb] at h;simp only[_root_.cond_false,Option.map_eq_some_iff] at h;obtain⟨z,h3,rfl⟩:=h;have bh:¬ off<a.size:=by intro aj;rw[show Nat.blt off a.size=true by rw[Nat.blt_eq];exact aj] at hb;cases hb
   simp only[Kind.size] at ho;have:=NA h3 h2 hv (by omega);refine⟨c1,c2.set (off-a.size) u,?_,h1,this⟩;rw[List.set_append_right _ _ (by omega),l1]
 |.i ik,off,v,u,x,y,row,h,hr,hv,ho=>by
  have:=Qf (k:=.i ik) h (show SRs P B pl tb [v] [u] by simp only[SRs];exact⟨_,[],rfl,hv,rfl⟩);have hl:=KC.length hr;simp only[Kind.size] at hl ho;obtain⟨c,rfl⟩:=List.length_eq_one_iff.1 hl;obtain rfl:off=0:=by omega
  exact this
 |.bo,off,v,u,x,y,row,h,hr,hv,ho=>by
  have:=Qf (k:=.bo) h (show SRs P B pl tb [v] [u] by simp only[SRs];exact⟨_,[],rfl,hv,rfl⟩);have hl:=KC.length hr;simp only[Kind.size] at hl ho;obtain⟨c,rfl⟩:=List.length_eq_one_iff.1 hl;obtain rfl:off=0:=by omega
  exact this
 |.st,off,v,u,x,y,row,h,hr,hv,ho=>by
  have:=Qf (k:=.st) h (show SRs P B pl tb [v] [u] by simp only[SRs];exact⟨_,[],rfl,hv,rfl⟩);have hl:=KC.length hr;simp only[Kind.size] at hl ho;obtain⟨c,rfl⟩:=List.length_eq_one_iff.1 hl;obtain rfl:off=0:=by omega
  exact this
 |.list k,off,v,u,x,y,row,h,hr,hv,ho=>by
  have:=Qf (k:=.list k) h (show SRs P B pl tb [v] [u] by simp only[SRs];exact⟨_,[],rfl,hv,rfl⟩);have hl:=KC.length hr;simp only[Kind.size] at hl ho;obtain⟨c,rfl⟩:=List.length_eq_one_iff.1 hl;obtain rfl:off=0:=by omega
  exact this
theorem Vd {mk:MK}{kk vk:Kind}(hk:gq.mkOk mk kk=true) {key:kk.T}{x:vk.T}{kv xv:Value}{clock:Nat}(bM:KV B kk key kv) (hx:KV B vk x xv):∀ {m:List (kk.T×vk.T)}{es:List ZC},MR B kk vk m es→MR B kk vk (PS kk m key x) (Qm kv xv clock es).1
 |[],es,h=>by simp only[MR] at h;subst h;exact⟨_,[],rfl,bM,hx,rfl⟩
 |m::ms,es,h=>by
  obtain⟨e,bV,rfl,h2,h3,h4⟩:=h;have hq:=UX hk bM h2;simp only[Qm,PS,hq];cases gq.keq kk key m.1 with
  |true=>exact⟨_,bV,rfl,bM,hx,h4⟩
  |false=>exact⟨e,_,rfl,h2,h3,Vd hk bM hx h4⟩
theorem N3 (k v:Value) (clock:Nat):∀ es:List ZC,((Qm k v clock es).2=clock∧(Qm k v clock es).1.map (fun e=>e.2.2)=es.map fun e=>e.2.2)∨((Qm k v clock es).2=clock+1∧(Qm k v clock es).1.map (fun e=>e.2.2)=(es.map fun e=>e.2.2)++[clock])
 |[]=>.inr ⟨rfl,rfl⟩
 |e::es=>by
  simp only[Qm];split
  ·exact .inl ⟨rfl,rfl⟩
  ·rcases N3 k v clock es with⟨h1,h2⟩|⟨h1,h2⟩
   ·exact .inl ⟨h1,by simp[h2]⟩
   ·exact .inr ⟨h1,by simp[h2]⟩
theorem SOk.put {es:List ZC}{clock:Nat}(h:SOk es clock) {k v:Value}:SOk (Qm k v clock es).1 (Qm k v clock es).2:=by
 obtain⟨h1,h2⟩:=h;have mem:∀ (l:List ZC) (x:Nat),x∈l.map (fun e=>e.2.2)↔∃ e∈l,e.2.2=x:=fun l x=>by simp
 rcases N3 k v clock es with⟨e1,e2⟩|⟨e1,e2⟩
 ·refine⟨by rw[e2];exact h1,fun e he=>?_⟩;have:e.2.2∈es.map fun e=>e.2.2:=by rw[←e2];exact(mem _ _).2 ⟨e,he,rfl⟩
  obtain⟨e',k1,k2⟩:=(mem _ _).1 this;rw[e1,←k2];exact h2 e' k1
 ·refine⟨?_,fun e he=>?_⟩
  ·rw[e2,List.nodup_append];refine⟨h1,by simp,fun a ha b hb=>?_⟩;obtain rfl:=List.mem_singleton.1 hb;obtain⟨e',k1,k2⟩:=(mem _ _).1 ha;have:=h2 e' k1;omega
  ·have:e.2.2∈(es.map fun e=>e.2.2)++[clock]:=by rw[←e2];exact(mem _ _).2 ⟨e,he,rfl⟩
   rw[e1];rcases List.mem_append.1 this with h3|h3
   ·obtain⟨e',k1,k2⟩:=(mem _ _).1 h3;have:=h2 e' k1;omega
   ·have:=List.mem_singleton.1 h3;omega
theorem H2 {mk:MK}{kk vk:Kind}(hk:gq.mkOk mk kk=true) {key:kk.T}{kv:Value}(bM:KV B kk key kv):∀ {m:List (kk.T×vk.T)}{es:List ZC},MR B kk vk m es→MR B kk vk (Q54 kk m key) (Wt kv es)
 |[],es,h=>by simp only[MR] at h;subst h;rfl
 |m::ms,es,h=>by
  obtain⟨e,bV,rfl,h2,h3,h4⟩:=h;have hq:=UX hk bM h2;simp only[Wt,Q54,hq];cases gq.keq kk key m.1 with
  |true=>exact h4
  |false=>exact⟨e,_,rfl,h2,h3,H2 hk bM h4⟩
theorem ND (k:Value):∀ es:List ZC,(Wt k es).Sublist es
 |[]=>.slnil
 |e::es=>by
  simp only[Wt];split
  ·exact List.sublist_cons_self _ _
  ·exact(ND k es).cons_cons _
theorem SOk.del {es:List ZC}{clock:Nat}(h:SOk es clock) {k:Value}:SOk (Wt k es) clock :=
 ⟨h.1.sublist ((ND k es).map _),fun e he=>h.2 e ((ND k es).subset he)⟩
def Fr (T:Nat) (s s':St) (pl pl':Nat→Value) (σ σ':Heap):Prop :=
 ∀ q,q≠T→(Q6 s'.own q).live=(Q6 s.own q).live∧pl' q=pl q∧((Q6 s.own q).live=true→∀ i,Oid (pl q) i→σ'.get i=σ.get i)
theorem JI (s:St) (d:Nat) (b:OB) {q:Nat}(hq:q≠d):(Q6 (s.make d b).own q).live=(Q6 s.own q).live:=by simp only[St.make,St.kill,Qb,XX,if_neg hq,OB.live_kill]
theorem Gam.makeF {s:St}{env:Env}{σ σ':Heap}{pl:Nat→Value}(h:Gam P B F pl tb s env σ) (d:Nat) (b:OB) (p:Value) (hle:F.Le σ') (ho:∀ j i,j≠d→(Q6 s.own j).live=true→Oid (pl j) i→σ'.get i=σ.get i)
  (hb:OR P B (QO pl d p) tb σ' p b) (hf:∀ i,b.live=true→Oid p i→F.get i=none∧∀ j,j≠d→(Q6 s.own j).live=true→¬ Oid (pl j) i):Gam P B F (QO pl d p) tb (s.make d b) env σ'∧Fr d s (s.make d b) pl (QO pl d p) σ σ' :=
 ⟨h.make d b p hle ho hb hf,fun q hq=>⟨JI s d b hq,by simp[QO,hq],fun hl i hi=>ho q i hq hl hi⟩⟩
theorem Gam.writeF {s:St}{env:Env}{σ σ':Heap}{pl:Nat→Value}(h:Gam P B F pl tb s env σ) (d:Nat) (b:OB) (hle:F.Le σ') (ah:(Q6 s.own d).live=true)
  (cA:∀ j i,j≠d→(Q6 s.own j).live=true→Oid (pl j) i→σ'.get i=σ.get i) (hb:OR P B pl tb σ' (pl d) b):Gam P B F pl tb ⟨s.env,oset s.own d b,s.nx⟩ env σ'∧Fr d s ⟨s.env,oset s.own d b,s.nx⟩ pl pl σ σ' :=
 ⟨h.write d b hle ah cA hb,fun q hq=>⟨by simp only[Qb,if_neg hq],rfl,fun hl i hi=>cA q i hq hl hi⟩⟩
theorem Gam.pushF {s:St}{env:Env}{σ:Heap}{pl:Nat→Value}(h:Gam P B F pl tb s env σ) (d:Nat) (b:OB) (p:Value) (blk:Blk) (hp:oid p=some σ.n) (hb:OR P B (QO pl d p) tb (σ.push blk) p b):Gam P B F (QO pl d p) tb (s.make d b) env (σ.push blk)∧Fr d s (s.make d b) pl (QO pl d p) σ (σ.push blk) :=
 ⟨h.push d b p blk hp hb,fun q hq=>⟨JI s d b hq,by simp[QO,hq],fun hl i hi=>Heap.get_push_lt _ _ ((h.obj q).id_lt hl hi)⟩⟩
def NOk (P:Program) (B F:Heap) (tb:Nat→Option Bool) (o:VOp) (evV:Operand→Value) (env:Env) (σ:Heap) (K:SV→St→Prop) (T:Nat) (s:St) (pl:Nat→Value):Prop :=
 ∃ u σ' pl' v s',Q5 o evV σ=some (u,σ')∧K v s'∧(Gam P B F pl' tb s' env σ'∧Fr T s s' pl pl' σ σ')∧SR P B pl' tb v u
theorem ZK (pl:Nat→Value) (d:Nat) (p:Value):QO pl d p d=p:=by simp[QO]
section
variable {C:Cx}{d:Nat}{ev:Operand→SV}{evV:Operand→Value}{K:SV→St→Prop}
theorem Er (af:∀ x,SR P B pl tb (ev x) (evV x)) (hG:Gam P B F pl tb s env σ) {t:Nat}{z:List Value}(h:gn C d (.alloc t z) ev s K):NOk P B F tb (.alloc t z) evV env σ K (Qk d (.alloc t z) ev) s pl:=by
 have _hev:=af;simp only[gn] at h;refine⟨.pointer (some ⟨σ.n,0,none⟩),_,QO pl d (.pointer (some ⟨σ.n,0,none⟩)),_,_,rfl,h,hG.pushF d _ _ _ rfl ?_,?_⟩
 ·refine⟨σ.n,z,_,_,rfl,Heap.get_push_self _ _,?_,fun y hy=>⟨osj hy,rfl⟩⟩;have hz:SRs P B (QO pl d (.pointer (some ⟨σ.n,0,none⟩))) tb (z.map cvp) (z.map id):=SRs.map fun x _=>UB x
  rwa [List.map_id] at hz
 ·simp only[SR,ZK];exact⟨_,rfl,rfl⟩
theorem Q4d (af:∀ x,SR P B pl tb (ev x) (evV x)) (hG:Gam P B F pl tb s env σ) {t:Nat}{x:Operand}(h:gn C d (.box t x) ev s K):NOk P B F tb (.box t x) evV env σ K (Qk d (.box t x) ev) s pl:=by
 simp only[gn] at h;split at h
 ·rename_i l hl;obtain⟨c,h1,h2,_⟩:=Zx hl (af x);refine⟨.pointer (some ⟨σ.n,0,none⟩),σ.push (.cells c ⟨c.length,t⟩ true true),QO pl d (.pointer (some ⟨σ.n,0,none⟩)),_,_,by simp only[Q5,h1],h,hG.pushF d _ _ _ rfl ?_,?_⟩
  ·exact⟨σ.n,c,_,_,rfl,Heap.get_push_self _ _,SRs.upd (Heap.Le.refl B) (fun _ _ h=>h) (fun j hj=>by simp[QO,hj]) _ _ h2,fun y hy=>⟨osj hy,rfl⟩⟩
  ·simp only[SR,ZK];exact⟨_,rfl,rfl⟩
 ·cases h
theorem N_ (af:∀ x,SR P B pl tb (ev x) (evV x)) {k:Kind}:∀ {ps:List (Nat×Operand)}{xs ys:List k.T}{c:List Value},Tg k ev ps xs=some ys→Rows (KC B k) xs c →
  ys.length=xs.length∧∃ c',YZ c (ps.map fun p=>(p.1*k.size,k.size,evV p.2))=some c'∧Rows (KC B k) ys c'
 |[],xs,ys,c,h,hr=>by obtain rfl:=osj h;exact⟨rfl,c,rfl,hr⟩
 |(j,x)::r,xs,ys,c,h,hr=>by
  simp only[Tg] at h;split at h
  ·rename_i l hl;split at h
   ·rename_i y hy;split at h
    ·rename_i hj;obtain⟨vs,h1,h2,_⟩:=Zx hl (af x);have hk:=Qf hy h2;have hlen:=KC.length hk;have cg:=hr.length KC.rows_len;have cr:(j+1)*k.size≤xs.length*k.size:=Nat.mul_le_mul_right _ hj;rw[Nat.add_mul,Nat.one_mul] at cr;have aV:=hr.set KC.rows_len hj hk;have e:Jc c (j*k.size) vs=c.take (j*k.size)++vs++c.drop (j*k.size+k.size):=by
      rw[Jv (by omega),hlen]
     rw[←e] at aV;obtain⟨h3,c',h4,h5⟩:=N_ af h aV;refine⟨by rw[h3,List.length_set],c',?_,h5⟩;simp only[List.map_cons,YZ,h1];rw[if_pos ⟨hlen,by omega⟩];exact h4
    ·cases h
   ·cases h
  ·cases h
theorem V1 (af:∀ x,SR P B pl tb (ev x) (evV x)) (hG:Gam P B F pl tb s env σ) {e:El}{z:List Value}{n:Nat}{ps:List (Nat×Operand)}(h:gn C d (.buildSlice e z n ps) ev s K):NOk P B F tb (.buildSlice e z n ps) evV env σ K (Qk d (.buildSlice e z n ps) ev) s pl:=by
 simp only[gn] at h;split at h
 ·rename_i k _;split at h
  ·rename_i hc;obtain⟨az,hz⟩:=hc;split at h
   ·rename_i xs hx;have qY:KC B k k.dflt z:=Z2 hz;have bk:Rows (KC B k) (List.replicate n k.dflt) (Ng n z):=by rw[JP];exact Rows.replicate qY n
    obtain⟨h3,c',h4,h5⟩:=N_ (B:=B) af hx bk;rw[List.length_replicate] at h3;have cg:=h5.length KC.rows_len;refine⟨.slice (some ⟨σ.n,0,none⟩) n n,σ.push (.cells c' e true true),QO pl d (.slice (some ⟨σ.n,0,none⟩) n n),_,_,?_,h,hG.pushF d _ _ _ rfl ?_,?_⟩
    ·simp only[Q5];rw[←az,h4]
    ·refine .inr ⟨rfl,σ.n,n,c',true,by rw[h3],by omega,?_,by rw[cg,h3];exact Nat.le_refl _,?_⟩
     ·rw[Heap.get_push_self,az]
     ·rw[List.take_of_length_le (by omega)];exact h5
    ·simp only[SR,ZK];exact⟨trivial,_,_,_,rfl⟩
   ·cases h
  ·cases h
 ·cases h
theorem Dm (af:∀ x,SR P B pl tb (ev x) (evV x)) (hG:Gam P B F pl tb s env σ) {e:El}{bytes:Nat}{z:List Value}{l c:Operand}(h:gn C d (.makeSlice e bytes z l c) ev s K):NOk P B F tb (.makeSlice e bytes z l c) evV env σ K (Qk d (.makeSlice e bytes z l c) ev) s pl:=by
 simp only[gn] at h;split at h
 ·rename_i k k1 a k2 b _ h1 h2;have e1:=QQ h1 (af l);have e2:=QQ h2 (af c);split at h
  ·rename_i hc;obtain⟨az,hz⟩:=hc;simp only[Ns,Fo] at h;obtain⟨k3,k4,k5,k6,h⟩:=h;have qY:KC B k k.dflt z:=Z2 hz;have bk:Rows (KC B k) (List.replicate b.toNat k.dflt) (Ng b.toNat z):=by rw[JP];exact Rows.replicate qY _
   have cg:=bk.length KC.rows_len;rw[List.length_replicate] at cg;have ht:=bk.take KC.rows_len a.toNat;rw[List.take_replicate,Nat.min_eq_left (by omega)] at ht;refine⟨.slice (some ⟨σ.n,0,none⟩) a.toNat b.toNat,σ.push (.cells (Ng b.toNat z) e true true),QO pl d (.slice (some ⟨σ.n,0,none⟩) a.toNat b.toNat),_,_,?_,h,hG.pushF d _ _ _ rfl ?_,?_⟩
   ·simp only[Q5,e1,e2];rw[if_pos ⟨k3,k4,by simpa using k5,by simpa using k6⟩]
   ·refine .inr ⟨rfl,σ.n,b.toNat,_,true,by rw[List.length_replicate],by simp;omega,?_,by rw[cg];exact Nat.le_refl _,?_⟩
    ·rw[Heap.get_push_self,az]
    ·rw[List.length_replicate];exact ht
   ·simp only[SR,ZK];exact⟨trivial,_,_,_,rfl⟩
  ·cases h
 ·cases h
theorem Sg (af:∀ x,SR P B pl tb (ev x) (evV x)) (hG:Gam P B F pl tb s env σ) {e:El}{bytes:Nat}{x y:Operand}(h:gn C d (.append e bytes x y) ev s K):NOk P B F tb (.append e bytes x y) evV env σ K (Qk d (.append e bytes x y) ev) s pl:=by
 have ha:=af x;simp only[gn] at h;split at h
 ·rename_i k _;split at h
  ·rename_i ys hy;obtain⟨cs,ay,qZ,aB,a7,pR⟩:=(Jt hG.leB hG.obj hy (af y)).sl;have al:cs.all cellOk=true:=a7.cellOk;have cg:=a7.length KC.rows_len;split at h
   ·rename_i hx;have hT:Qk d (.append e bytes x y) ev=d:=by simp only[Qk,hx]
    rw[hT];rw[hx] at ha;simp only[SR] at ha;split at h
    ·rename_i az;simp only[Ns,Fo] at h;obtain⟨h1,h⟩:=h;rw[az] at aB;have base:Q5 (.append e bytes x y) evV σ=Zl e bytes σ (.slice none 0 0) ys.length cs:=by
      simp only[Q5,pR] at aB ⊢;simp only[aB,al,if_true,ha]
     by_cases hm:ys=[]
     ·subst hm;refine⟨.slice none 0 0,σ,QO pl d (.slice none 0 0),_,_,by rw[base];rfl,h,?_,?_⟩
      ·refine hG.makeF d _ _ hG.le (fun j i _ _ _=>rfl) (.inl ⟨rfl,rfl,rfl⟩) fun i _ hi=>by cases hi
      ·simp only[SR,ZK];exact⟨trivial,_,_,_,rfl⟩
     ·have dx:ys.length≠0:=fun e=>hm (List.length_eq_zero_iff.1 e);refine⟨.slice (some ⟨σ.n,0,none⟩) ys.length ys.length,σ.push (.cells cs e true false),QO pl d (.slice (some ⟨σ.n,0,none⟩) ys.length ys.length),_,_,?_,h,hG.pushF d _ _ _ rfl ?_,?_⟩
      ·rw[base];simp only[Zl];rw[if_neg dx,if_pos (by simpa using h1)]
      ·refine .inr ⟨Q6q hm,σ.n,ys.length,cs,false,rfl,Nat.le_refl _,?_,by omega,?_⟩
       ·rw[Heap.get_push_self,az]
       ·rw[List.take_of_length_le (by omega)];exact a7
      ·simp only[SR,ZK];exact⟨trivial,_,_,_,rfl⟩
    ·cases h
   ·rename_i o hx;have hT:Qk d (.append e bytes x y) ev=o:=by simp only[Qk,hx]
    rw[hT];rw[hx] at ha;simp only[SR] at ha;have ak:=hG.obj o;split at h
    ·rename_i ty k' xs nl ho;rw[ho] at ak;have ah:(Q6 s.own o).live=true:=by rw[ho];rfl
     split at h
     ·rename_i az;obtain⟨eL,az⟩:=az;split at h
      ·rename_i cI fD;obtain rfl:=Ze fD;obtain rfl:=Zg fD;simp only[Ns,Fo] at h;obtain⟨h1,h⟩:=h;rw[az] at aB;have base:Q5 (.append e bytes x y) evV σ=Zl e bytes σ (pl o) ys.length cs:=by
        simp only[Q5,pR] at aB ⊢;simp only[aB,al,if_true,ha.1]
       have he:e=⟨k'.size,ty⟩:=by cases e;simp only at eL az;rw[eL,az]
       rcases ak with⟨rfl,rfl,h3⟩|⟨rfl,i,cap,c,t,h3,h4,h5,h6,h7⟩
       ·
        rw[h3] at base;by_cases hm:ys=[]
        ·subst hm;refine⟨.slice none 0 0,σ,QO pl o (.slice none 0 0),_,_,by rw[base];rfl,h,?_,?_⟩
         ·refine hG.makeF o _ _ hG.le (fun j i _ _ _=>rfl) (.inl ⟨rfl,rfl,rfl⟩) fun i _ hi=>by cases hi
         ·simp only[SR,ZK];exact⟨trivial,_,_,_,rfl⟩
        ·have dx:ys.length≠0:=fun e=>hm (List.length_eq_zero_iff.1 e);refine⟨.slice (some ⟨σ.n,0,none⟩) ys.length ys.length,σ.push (.cells cs e true false),QO pl o (.slice (some ⟨σ.n,0,none⟩) ys.length ys.length),_,_,?_,h,hG.pushF o _ _ _ rfl ?_,?_⟩
         ·rw[base];simp only[Zl];rw[if_neg dx,if_pos (by simpa using h1)]
         ·rw[List.nil_append];refine .inr ⟨Q7w hm _,σ.n,ys.length,cs,false,rfl,Nat.le_refl _,?_,by omega,?_⟩
          ·rw[Heap.get_push_self,he]
          ·rw[List.take_of_length_le (by omega)];exact a7
         ·simp only[SR,ZK];exact⟨trivial,_,_,_,rfl⟩
       ·rw[h3] at base;have k1:cI.length*k'.size≤cap*k'.size:=Nat.mul_le_mul_right _ h4;have aT:F.get i=none:=hG.fresh o i ah (by rw[h3];rfl);have br:∀ j i',j≠o→(Q6 s.own j).live=true→Oid (pl j) i'→i'≠i:=fun j i' hj hl hi e=>by
         subst e;exact hG.sep j o i' hj hl ah hi (by rw[h3];rfl)
        have ao:e=e∧cI.length≤cap∧0+cI.length*e.sz≤c.length:=⟨rfl,h4,by rw[←az];omega⟩;simp only[Zl,h5] at base;rw[←he,if_pos ao] at base;by_cases hm:ys=[]
        ·subst hm;simp only[List.length_nil,if_true] at base;refine⟨_,σ,QO pl o (pl o),_,_,base,h,?_,?_⟩
         ·refine hG.makeF o _ _ hG.le (fun j i _ _ _=>rfl) (.inr ⟨rfl,i,cap,c,t,?_,?_,h5,h6,?_⟩) fun i' _ hi=>?_
          ·rw[h3];simp
          ·simpa using h4
          ·simpa using h7
          ·rw[h3] at hi;obtain rfl:=osj hi;exact⟨aT,fun j hj hl e=>br j _ hj hl e rfl⟩
         ·simp only[SR,ZK,h3];exact⟨trivial,_,_,_,rfl⟩
        ·have dx:ys.length≠0:=fun e=>hm (List.length_eq_zero_iff.1 e);have gY:(ys.isEmpty&&false)=false:=by simp
         have eZ:Rows (KC B k') (cI++ys) (c.take (cI.length*k'.size)++cs):=h7.append a7;have cJ:=eZ.length KC.rows_len;rw[if_neg dx] at base;by_cases aJ:cI.length+ys.length≤cap
         ·have eu:(cI.length+ys.length)*k'.size≤cap*k'.size:=Nat.mul_le_mul_right _ aJ;have dy:cI.length*k'.size+ys.length*k'.size≤cap*k'.size:=by rw[←Nat.add_mul];exact eu
          rw[if_pos aJ,if_pos ⟨trivial,by rw[←az];omega⟩] at base;refine⟨_,_,QO pl o (.slice (some ⟨i,0,none⟩) (cI.length+ys.length) cap),_,_,base,h,?_,?_⟩
          ·refine hG.makeF o _ _ (hG.le.upd aT _) (fun j i' hj hl hi=>Heap.get_upd_ne _ _ (br j i' hj hl hi)) (.inr ⟨gY,i,cap,Jc c (0+cI.length*e.sz) cs,t,by rw[List.length_append],by rw[List.length_append];exact aJ,?_,?_,?_⟩) fun i' _ hi=>?_
           ·rw[Heap.get_upd_self _ _ (σ.lt h5),he]
           ·rw[QX];exact h6
           ·have dJ:0+cI.length*e.sz+cs.length≤c.length:=by rw[←az];omega
            rw[Jv dJ,←az,Nat.zero_add,List.take_left' (by rw[cJ])];exact eZ
           ·obtain rfl:=osj hi;exact⟨aT,fun j hj hl e=>br j _ hj hl e rfl⟩
          ·simp only[SR,ZK];exact⟨trivial,_,_,_,rfl⟩
         ·rw[if_neg aJ,if_pos (by simpa using h1)] at base;have df:((c.drop 0).take (cI.length*e.sz)++cs)=c.take (cI.length*k'.size)++cs:=by rw[List.drop_zero,az]
          cases t with
          |true =>
           simp only[if_true] at base;rw[df] at base;refine⟨_,_,QO pl o (.slice (some ⟨σ.n,0,none⟩) (cI.length+ys.length) (cI.length+ys.length)),_,_,base,h,hG.pushF o _ _ _ rfl (.inr ⟨gY,σ.n,cI.length+ys.length,c.take (cI.length*k'.size)++cs,false,by rw[List.length_append],by rw[List.length_append];exact Nat.le_refl _,?_,?_,?_⟩),?_⟩
           ·rw[Heap.get_push_self,he]
           ·rw[cJ,List.length_append];exact Nat.le_refl _
           ·rw[List.take_of_length_le (by rw[cJ];exact Nat.le_refl _)];exact eZ
           ·simp only[SR,ZK];exact⟨trivial,_,_,_,rfl⟩
          |false =>
           simp only[Bool.false_eq_true,if_false,if_true] at base;rw[df] at base;have hn:(σ.kill i).n=σ.n:=rfl;refine⟨_,_,QO pl o (.slice (some ⟨σ.n,0,none⟩) (cI.length+ys.length) (cI.length+ys.length)),_,_,base,h,?_,?_⟩
           ·refine hG.makeF o _ _ ((hG.le.kill aT).push _) (fun j i' hj hl hi=>?_) (.inr ⟨gY,σ.n,cI.length+ys.length,c.take (cI.length*k'.size)++cs,false,by rw[List.length_append],by rw[List.length_append];exact Nat.le_refl _,?_,?_,?_⟩) fun i' _ hi=>?_
            ·rw[Heap.get_push_lt _ _ (by rw[hn];exact(hG.obj j).id_lt hl hi)];exact Heap.get_kill_ne _ (br j i' hj hl hi)
            ·rw[←hn,Heap.get_push_self,he]
            ·rw[cJ,List.length_append];exact Nat.le_refl _
            ·rw[List.take_of_length_le (by rw[cJ];exact Nat.le_refl _)];exact eZ
            ·obtain rfl:=osj hi;exact⟨hG.le.fresh,fun j _ hl e=>Nat.lt_irrefl σ.n ((hG.obj j).id_lt hl e)⟩
           ·simp only[SR,ZK];exact⟨trivial,_,_,_,rfl⟩
      ·cases h
     ·cases h
    ·cases h
   ·cases h
  ·cases h
 ·cases h
theorem F5 (af:∀ x,SR P B pl tb (ev x) (evV x)) (hG:Gam P B F pl tb s env σ) {size:Nat}{a x:Operand}(h:gn C d (.store size a x) ev s K):NOk P B F tb (.store size a x) evV env σ K (Qk d (.store size a x) ev) s pl:=by
 have ha:=af a;simp only[gn] at h;split at h
 ·rename_i o off vs h1 h2;have hT:Qk d (.store size a x) ev=o:=by simp only[Qk,h1]
  rw[hT];obtain⟨us,h3,h4,h5⟩:=Zx h2 (af x);rw[h1] at ha;simp only[SR] at ha;obtain⟨b,h6,h7⟩:=ha;have ak:=hG.obj o;split at h
  ·rename_i l u ho;rw[ho] at ak;have ah:(Q6 s.own o).live=true:=by rw[ho];rfl
   obtain⟨i,c,e,t,h8,h9,bZ,fP⟩:=ak;rw[h6] at h8;obtain rfl:=(by simpa using h8:b=i);split at h
   ·rename_i hc;have aT:F.get b=none:=hG.fresh o b ah (by rw[h6];rfl);have br:∀ j i',j≠o→(Q6 s.own j).live=true→Oid (pl j) i'→i'≠b:=fun j i' hj hl hi e=>by
     subst e;exact hG.sep j o i' hj hl ah hi (by rw[h6];rfl)
    refine⟨undef,σ.upd b (.cells (Jc c off us) e true t),pl,_,_,?_,h,hG.writeF o _ (hG.le.upd aT _) ah (fun j i' hj hl hi=>Heap.get_upd_ne _ _ (br j i' hj hl hi)) ?_,by simp[SR]⟩
    ·simp only[Q5,h7,h3,h9];rw[if_pos ⟨trivial,by rw[←h4.length];exact hc.1,by rw[←bZ.length];exact hc.2,h5⟩]
    ·exact⟨b,_,e,t,h6,Heap.get_upd_self _ _ (σ.lt h9),Nu bZ h4,fP⟩
   ·cases h
  ·cases h
 ·rename_i o i off sz vs h1 h2;have hT:Qk d (.store size a x) ev=o:=by simp only[Qk,h1]
  rw[hT];obtain⟨us,h3,h4,h5⟩:=Zx h2 (af x);rw[h1] at ha;simp only[SR] at ha;obtain⟨b,len,cap,h6,h7,h8,h9⟩:=ha;have ak:=hG.obj o;split at h
  ·rename_i ty k xs nl ho;rw[ho] at ak;have ah:(Q6 s.own o).live=true:=by rw[ho];rfl
   rcases ak with⟨_,_,k3⟩|⟨rfl,i',au,c,t,k3,k4,k5,k6,k7⟩
   ·rw[h6] at k3;cases k3
   ·rw[h6] at k3;obtain⟨rfl,rfl,rfl⟩:=(by simpa using k3:b=i'∧len=xs.length∧cap=au);have aT:F.get b=none:=hG.fresh o b ah (by rw[h6];rfl);have br:∀ j i',j≠o→(Q6 s.own j).live=true→Oid (pl j) i'→i'≠b:=fun j i' hj hl hi e=>by
     subst e;exact hG.sep j o i' hj hl ah hi (by rw[h6];rfl)
    have hi:i.toNat<xs.length:=by omega
    have az:(i.toNat+1)*k.size≤xs.length*k.size:=Nat.mul_le_mul_right _ hi;rw[Nat.add_mul,Nat.one_mul] at az;have k8:=Nat.mul_le_mul_right k.size k4
    have fin:∀ (y:k.T) (us:List Value) (dB:Nat),dB+us.length≤k.size→KC B k y (Jc (((c.take (xs.length*k.size)).drop (i.toNat*k.size)).take k.size) dB us) →
      Gam P B F pl tb ⟨s.env,oset s.own o (.lst ty k (xs.set i.toNat y) false),s.nx⟩ env (σ.upd b (.cells (Jc c (i.toNat*k.size+dB) us) ⟨k.size,ty⟩ true t))∧Fr o s ⟨s.env,oset s.own o (.lst ty k (xs.set i.toNat y) false),s.nx⟩ pl pl σ (σ.upd b (.cells (Jc c (i.toNat*k.size+dB) us) ⟨k.size,ty⟩ true t)):=by
     intro y us dB oz hk;refine hG.writeF o _ (hG.le.upd aT _) ah (fun j i' hj hl hi=>Heap.get_upd_ne _ _ (br j i' hj hl hi)) (.inr ⟨rfl,b,cap,Jc c (i.toNat*k.size+dB) us,t,by rw[h6];simp,by simpa using k4,Heap.get_upd_self _ _ (σ.lt k5),by rw[QX];exact k6,?_⟩);have aV:=k7.set KC.rows_len hi hk;rw[List.length_set];rw[L4 us c (m:=xs.length*k.size) (p:=i.toNat*k.size) (n:=k.size) (off:=dB) oz az (by omega)];exact aV
    have bk:=k7.at KC.rows_len hi;have cJ:=KC.length bk;split at h
    ·rename_i hc;obtain⟨rfl,rfl,rfl⟩:=hc;split at h
     ·rename_i y hy;have hk:=Qf hy h4;have hl:=KC.length hk;refine⟨undef,σ.upd b (.cells (Jc c (i.toNat*k.size+0) us) ⟨k.size,ty⟩ true t),pl,_,_,?_,h,fin y us 0 (by omega) ?_,by simp[SR]⟩
      ·simp only[Q5,h9,h3,k5];rw[if_pos ⟨trivial,hl,by omega,h5⟩]
      ·rw[Jv (by omega),Nat.zero_add,List.take_zero,List.nil_append,List.drop_of_length_le (by omega),List.append_nil];exact hk
     ·cases h
    ·split at h
     ·rename_i hc;obtain⟨rfl,pS,rfl,bh⟩:=hc;split at h
      ·rename_i y hy;obtain⟨v0,rfl⟩:∃ v0,vs=[v0]:=by
        cases vs with
        |nil=>cases pS
        |cons a r=>cases r with
         |nil=>exact⟨a,rfl⟩
         |cons _ _=>simp at pS
       obtain⟨u0,rfl,wu⟩:=h4.one;have hx:xs.getD i.toNat k.dflt=xs[i.toNat]:=by simp[List.getD_eq_getElem?_getD,List.getElem?_eq_getElem hi]
       rw[hx] at hy;refine⟨undef,σ.upd b (.cells (Jc c (i.toNat*k.size+off) [u0]) ⟨k.size,ty⟩ true t),pl,_,_,?_,h,fin y [u0] off (by simp;omega) (NA hy bk wu bh),by simp[SR]⟩;simp only[Q5,h9,h3,k5];rw[if_pos ⟨trivial,rfl,by omega,h5⟩]
      ·cases h
     ·cases h
  ·cases h
 ·cases h
theorem MO (af:∀ x,SR P B pl tb (ev x) (evV x)) (hG:Gam P B F pl tb s env σ) {mk:MK}{m kx vx:Operand}(h:gn C d (.ext (.mapUpdate mk m kx vx)) ev s K):NOk P B F tb (.ext (.mapUpdate mk m kx vx)) evV env σ K (Qk d (.ext (.mapUpdate mk m kx vx)) ev) s pl:=by
 have ha:=af m;simp only[gn] at h;split at h
 ·rename_i o h1;have hT:Qk d (.ext (.mapUpdate mk m kx vx)) ev=o:=by simp only[Qk,h1]
  rw[hT];rw[h1] at ha;simp only[SR] at ha;have ak:=hG.obj o;split at h
  ·rename_i kk vk l ho;rw[ho] at ak;have ah:(Q6 s.own o).live=true:=by rw[ho];rfl
   obtain⟨id,es,clock,h2,h3,h4⟩:=ak;split at h
   ·rename_i hc;have b9:=hc;split at h
    ·rename_i key x bM hx;have hk:=Y9 bM (af kx) Qf;have hv:=Y9 hx (af vx) Qf;have aT:F.get id=none:=hG.fresh o id ah (by rw[h2];rfl);have br:∀ j i',j≠o→(Q6 s.own j).live=true→Oid (pl j) i'→i'≠id:=fun j i' hj hl hi e=>by
      subst e;exact hG.sep j o i' hj hl ah hi (by rw[h2];rfl)
     have aE:σ.mapAt id=some (es,clock,true):=by simp[Heap.mapAt,h3]
     refine⟨undef,σ.upd id (.obj (.map (Qm (evV kx) (evV vx) clock es).1 (Qm (evV kx) (evV vx) clock es).2) true),pl,_,_,?_,h,hG.writeF o _ (hG.le.upd aT _) ah (fun j i' hj hl hi=>Heap.get_upd_ne _ _ (br j i' hj hl hi)) ?_,by simp[SR]⟩
     ·simp only[Q5,QM,ha.1,h2,aE];rw[if_pos (by rw[Yo b9 hk,h4.1.keys b9];rfl)]
     ·exact⟨id,_,_,h2,Heap.get_upd_self _ _ (σ.lt h3),Vd b9 hk hv h4.1,h4.2.put⟩
    ·cases h
   ·cases h
  ·cases h
 ·cases h
theorem Ss (af:∀ x,SR P B pl tb (ev x) (evV x)) (hG:Gam P B F pl tb s env σ) {mk:MK}{m kx:Operand}(h:gn C d (.ext (.delete mk m kx)) ev s K):NOk P B F tb (.ext (.delete mk m kx)) evV env σ K (Qk d (.ext (.delete mk m kx)) ev) s pl:=by
 have ha:=af m;simp only[gn] at h;split at h
 ·rename_i o h1;have hT:Qk d (.ext (.delete mk m kx)) ev=o:=by simp only[Qk,h1]
  rw[hT];rw[h1] at ha;simp only[SR] at ha;have ak:=hG.obj o;split at h
  ·rename_i kk vk l ho;rw[ho] at ak;have ah:(Q6 s.own o).live=true:=by rw[ho];rfl
   obtain⟨id,es,clock,h2,h3,h4⟩:=ak;split at h
   ·rename_i b9;split at h
    ·rename_i key bM;have hk:=Y9 bM (af kx) Qf;have aT:F.get id=none:=hG.fresh o id ah (by rw[h2];rfl);have br:∀ j i',j≠o→(Q6 s.own j).live=true→Oid (pl j) i'→i'≠id:=fun j i' hj hl hi e=>by
      subst e;exact hG.sep j o i' hj hl ah hi (by rw[h2];rfl)
     have aE:σ.mapAt id=some (es,clock,true):=by simp[Heap.mapAt,h3]
     refine⟨.tuple #[],σ.upd id (.obj (.map (Wt (evV kx) es) clock) true),pl,_,_,?_,h,hG.writeF o _ (hG.le.upd aT _) ah (fun j i' hj hl hi=>Heap.get_upd_ne _ _ (br j i' hj hl hi)) ?_,by simp[SR]⟩
     ·simp only[Q5,QM,ha.1,h2,aE];rw[if_pos (by rw[Yo b9 hk,h4.1.keys b9];rfl)]
     ·exact⟨id,_,_,h2,Heap.get_upd_self _ _ (σ.lt h3),H2 b9 hk h4.1,h4.2.del⟩
    ·cases h
   ·cases h
  ·cases h
 ·cases h
theorem Sn {mk:MK}{kk:Kind}(hk:gq.mkP mk kk=true) (x:kk.T):gq.keq kk x x=true:=by
 unfold gq.mkP at hk;split at hk
 ·simp[gq.keq]
 ·simp[gq.keq]
 ·simp[gq.keq]
 ·cases hk
theorem Gl:∀ {k:Kind}{l r:List MK},gq.mkAt k l=some r→∀ x:k.T,gq.keq k x x=true
 |.pair a b,l,r,hk,x=>by
  simp only[gq.mkAt] at hk;split at hk
  ·rename_i q hq;simp only[gq.keq,Gl hq,Gl hk,Bool.and_self]
  ·cases hk
 |.i _,m::l,r,hk,x|.bo,m::l,r,hk,x|.st,m::l,r,hk,x|.list _,m::l,r,hk,x=>by
  simp only[gq.mkAt] at hk;cases hp:gq.mkP m _ with
  |false=>rw[hp] at hk;cases hk
  |true=>exact Sn hp x
 |.i _,[],r,hk,x|.bo,[],r,hk,x|.st,[],r,hk,x|.list _,[],r,hk,x=>by cases hk
theorem Au {mk:MK}{kk:Kind}(hk:gq.mkOk mk kk=true) (x:kk.T):gq.keq kk x x=true:=by
 unfold gq.mkOk at hk;cases ho:kk.one with
 |true=>rw[ho] at hk;exact Sn hk x
 |false =>
  rw[ho] at hk;simp only[_root_.cond_false] at hk;split at hk
  ·split at hk
   ·rename_i hr;exact Gl hr x
   ·cases hk
  ·cases hk
theorem Pz {k v:Value}(hk:Jn k k=true) (clock:Nat):∀ es:List ZC,Qa k (Qm k v clock es).1=some (k,v,match Qa k es with|some e=>e.2.2|none=>clock)
 |[]=>by simp[Qm,Qa,hk]
 |e::es=>by
  simp only[Qm,Qa];cases he:Jn k e.1 with
  |true=>simp[Qa,hk]
  |false =>simp only[Bool.false_eq_true,if_false,Qa,he];exact Pz hk clock es
theorem Hw {k v:Value}{clock:Nat}:∀ {es:List ZC}{e:ZC},Qa k es=some e→∃ j:Nat,es[j]?=some e∧Qm k v clock es=(es.set j (k,v,e.2.2),clock)
 |[],e,h=>by cases h
 |a::es,e,h=>by
  simp only[Qa] at h;split at h
  ·rename_i he;obtain rfl:=osj h;exact⟨0,rfl,by simp[Qm,he]⟩
  ·rename_i he;obtain⟨j,h1,h2⟩:=Hw (v:=v) (clock:=clock) h;exact⟨j+1,by simpa using h1,by simp[Qm,he,h2]⟩
theorem DJ (af:∀ x,SR P B pl tb (ev x) (evV x)) (hG:Gam P B F pl tb s env σ) {mk:MK}{z:Value}{m kx:Operand}(h:gn C d (.ext (.mapEntry mk z m kx)) ev s K):∃ u σ' v s' T kv aY i es c,T=Qk d (.ext (.mapEntry mk z m kx)) ev∧Q5 (.ext (.mapEntry mk z m kx)) evV σ=some (u,σ')∧K v s'∧(Gam P B F pl tb s' env σ'∧Fr T s s' pl pl σ σ')∧SR P B pl tb v u ∧
  (Q6 s'.own T).live=true∧pl T=.map (some i)∧σ.get i=some (.obj (.map es c) true)∧σ'.get i=some (.obj (.map (Qm kv aY c es).1 (Qm kv aY c es).2) true)∧QT mk kv=true∧es.all (fun e=>QT mk e.1)=true∧aY=(match Qa kv es with|some e=>e.2.1|none=>z):=by
 have ha:=af m;simp only[gn] at h;split at h
 ·rename_i o h1;have hT:Qk d (.ext (.mapEntry mk z m kx)) ev=o:=by simp only[Qk,h1]
  rw[h1] at ha;simp only[SR] at ha;have ak:=hG.obj o;split at h
  ·rename_i kk vk l ho;rw[ho] at ak;have ah:(Q6 s.own o).live=true:=by rw[ho];rfl
   obtain⟨id,es,clock,h2,h3,h4⟩:=ak;split at h
   ·rename_i hc;obtain⟨b9,wv⟩:=hc;split at h
    ·rename_i key bM;have hk:=Y9 bM (af kx) Qf;have hz:KV B vk vk.dflt z:=M1 wv;have aT:F.get id=none:=hG.fresh o id ah (by rw[h2];rfl);have br:∀ j i',j≠o→(Q6 s.own j).live=true→Oid (pl j) i'→i'≠id:=fun j i' hj hl hi e=>by
      subst e;exact hG.sep j o i' hj hl ah hi (by rw[h2];rfl)
     have aE:σ.mapAt id=some (es,clock,true):=by simp[Heap.mapAt,h3]
     have tn:Jn (evV kx) (evV kx)=true:=by rw[UX b9 hk hk];exact Au b9 key
     obtain⟨aY,n,hold,fZ⟩:∃ (aY:Value) (n:Nat),KV B vk (gq.aget kk l key vk.dflt) aY∧Q5 (.ext (.mapEntry mk z m kx)) evV σ=some (.tuple #[aY,.int .i64 n],σ.upd id (.obj (.map (Qm (evV kx) aY clock es).1 (Qm (evV kx) aY clock es).2) true))∧Qa (evV kx) (Qm (evV kx) aY clock es).1=some (evV kx,aY,n)∧aY=(match Qa (evV kx) es with|some e=>e.2.1|none=>z):=by
      rcases MR.find b9 hk hz h4.1 with⟨e,k1,_,k3⟩|⟨k1,_,k3⟩
      ·refine⟨e.2.1,e.2.2,k3,?_,?_,by rw[k1]⟩
       ·simp only[Q5,QM,ha.1,h2,aE];rw[if_pos (by rw[Yo b9 hk,h4.1.keys b9];rfl),k1]
       ·rw[Pz tn,k1]
      ·refine⟨z,clock,by rw[k3];exact hz,?_,?_,by rw[k1]⟩
       ·simp only[Q5,QM,ha.1,h2,aE];rw[if_pos (by rw[Yo b9 hk,h4.1.keys b9];rfl),k1]
       ·rw[Pz tn,k1]
     obtain⟨fZ,cT,oA⟩:=fZ;obtain⟨r,hr,_⟩:=Hw (v:=aY) (clock:=clock) cT;refine⟨_,_,_,_,o,evV kx,aY,id,es,clock,hT.symm,fZ,h n,hG.writeF o _ (hG.le.upd aT _) ah (fun j i' hj hl hi=>Heap.get_upd_ne _ _ (br j i' hj hl hi)) ?_,?_,by simp[Qb,OB.live],h2,h3,Heap.get_upd_self _ _ (σ.lt h3),Yo b9 hk,h4.1.keys b9,oA⟩
     ·exact⟨id,_,_,r,_,h2,Heap.get_upd_self _ _ (σ.lt h3),⟨Vd b9 hk hold h4.1,h4.2.put⟩,hr,hk,cT,rfl,mk,b9⟩
     ·simp only[SR,SRs];exact⟨_,rfl,_,_,rfl,J2 hold,_,_,rfl,by simp[KC],rfl⟩
    ·cases h
   ·cases h
  ·cases h
 ·cases h
theorem He (af:∀ x,SR P B pl tb (ev x) (evV x)) (hG:Gam P B F pl tb s env σ) {mk:MK}{z:Value}{m kx:Operand}(h:gn C d (.ext (.mapEntry mk z m kx)) ev s K):NOk P B F tb (.ext (.mapEntry mk z m kx)) evV env σ K (Qk d (.ext (.mapEntry mk z m kx)) ev) s pl:=by obtain⟨u,σ',v,s',T,kv,aY,i,es,c,rfl,h1,h2,h3,h4,_⟩:=DJ af hG h;exact⟨u,σ',pl,v,s',h1,h2,h3,h4⟩
theorem NW (af:∀ x,SR P B pl tb (ev x) (evV x)) (hG:Gam P B F pl tb s env σ) {m st vx:Operand}(h:gn C d (.ext (.entryStore m st vx)) ev s K):NOk P B F tb (.ext (.entryStore m st vx)) evV env σ K (Qk d (.ext (.entryStore m st vx)) ev) s pl:=by
 have ha:=af m;simp only[gn] at h;split at h
 ·rename_i o h1;have hT:Qk d (.ext (.entryStore m st vx)) ev=o:=by simp only[Qk,h1]
  rw[hT];rw[h1] at ha;simp only[SR] at ha;have ak:=hG.obj o;split at h
  ·rename_i kk vk l key n ho;rw[ho] at ak;have ah:(Q6 s.own o).live=true:=by rw[ho];rfl
   obtain⟨id,es,clock,r,e,h2,h3,h4,h5,h6,h7,h8,mk,b9⟩:=ak;split at h
   ·rename_i n' x bI hx;obtain⟨rfl,h⟩:=h;have wx:=QQ bI (af st);have hv:=Y9 hx (af vx) Qf;have aT:F.get id=none:=hG.fresh o id ah (by rw[h2];rfl);have br:∀ j i',j≠o→(Q6 s.own j).live=true→Oid (pl j) i'→i'≠id:=fun j i' hj hl hi e=>by
     subst e;exact hG.sep j o i' hj hl ah hi (by rw[h2];rfl)
    have aE:σ.mapAt id=some (es,clock,true):=by simp[Heap.mapAt,h3]
    obtain⟨q,hq,ck⟩:=Hw (v:=evV vx) (clock:=clock) h7;obtain rfl:q=r:=Nf h4.2 hq h5 rfl;have jq:es.findIdx? (fun a=>(a.2.2:Int)==n')=some q:=by
     obtain⟨m9,heq⟩:=List.getElem?_eq_some_iff.1 hq;rw[List.findIdx?_eq_some_iff_getElem];refine⟨m9,by rw[heq,h8];simp,fun j hj=>?_⟩;have cr:j<es.length:=by omega
     cases hb:((es[j].2.2:Int)==n') with
     |false=>simp
     |true =>
      have:es[j].2.2=e.2.2:=by have:=eq_of_beq hb;omega
      have:=Nf h4.2 (List.getElem?_eq_getElem cr) hq this;omega
    refine⟨undef,σ.upd id (.obj (.map (es.set q (e.1,evV vx,e.2.2)) clock) true),pl,_,_,?_,h,hG.writeF o _ (hG.le.upd aT _) ah (fun j i' hj hl hi=>Heap.get_upd_ne _ _ (br j i' hj hl hi)) ?_,by simp[SR]⟩
    ·simp only[Q5,QM,ha.1,h2,wx,aE,jq,hq]
    ·refine⟨id,_,_,h2,Heap.get_upd_self _ _ (σ.lt h3),?_⟩;have e1:=congrArg (fun x:List ZC×Nat=>x.1) ck;have e2:=congrArg (fun x:List ZC×Nat=>x.2) ck;simp only at e1 e2;have k1:=Vd (clock:=clock) b9 h6 hv h4.1;have k2:=h4.2.put (k:=e.1) (v:=evV vx);rw[e1] at k1 k2;rw[e2] at k2;exact⟨k1,k2⟩
   ·cases h
  ·cases h
 ·cases h
theorem GX (hG:Gam P B F pl tb s env σ) {o ty:Nat}{k:Kind}{xs ys:List k.T}{nl:Bool}(ho:Q6 s.own o=.lst ty k xs nl) {size lo n:Nat}(az:k.size=size) (pA:lo+n≤xs.length) {dv sv:Value}{a b:Operand}(ki:evV a=dv) (tq:evV b=sv)
  (hs:SlRel σ k.size (KC B k) ys sv) (hd:(n=0∧∃ c,dv=.slice none 0 c∨∃ x,dv=.slice x 0 c)∨∃ i len cap au,pl o=.slice (some ⟨i,0,none⟩) len cap∧dv=.slice (some ⟨i,lo*size,none⟩) n au)
  {s':St}(aX:s'=⟨s.env,oset s.own o (.lst ty k (xs.take lo++(ys.take n++xs.drop (lo+Nat.min ys.length n))) nl),s.nx⟩) (h:K (.val (.i .i64) (Nat.min ys.length n:Nat)) s'):NOk P B F tb (.ext (.copy size a b)) evV env σ K o s pl:=by
 subst aX;have ah:(Q6 s.own o).live=true:=by rw[ho];rfl
 have ak:=hG.obj o;rw[ho] at ak;by_cases hm:Nat.min ys.length n=0
 ·have oB:xs.take lo++(ys.take n++xs.drop (lo+Nat.min ys.length n))=xs:=by
   rw[hm,Nat.add_zero];have:ys.take n=[]:=by
    have:min ys.length n=0:=hm;rcases Nat.le_total ys.length n with h|h
    ·have:ys.length=0:=by omega
     rw[List.length_eq_zero_iff.1 this];simp
    ·have:n=0:=by omega
     rw[this];rfl
   rw[this,List.nil_append,List.take_append_drop]
  refine⟨.int .i64 0,σ,pl,_,_,?_,h,?_,?_⟩
  ·obtain⟨aa,cc,e⟩:=hs.len;have oy:∃ x c,dv=.slice x n c:=by
    rcases hd with⟨rfl,c,hd|⟨x,hd⟩⟩|⟨i,len,cap,au,_,hd⟩
    ·exact⟨_,_,hd⟩
    ·exact⟨_,_,hd⟩
    ·exact⟨_,_,hd⟩
   obtain⟨x,c,oy⟩:=oy;simp only[Q5,QM,ki,tq,oy,e];rw[if_pos (show min ys.length n=0 from hm)]
  ·rw[oB];exact hG.writeF o _ hG.le ah (fun _ _ _ _ _=>rfl) ak
  ·rw[hm];exact J9 _ _
 ·have pT:0<min ys.length n:=Nat.pos_of_ne_zero hm;have mZ:Nat.min ys.length n≤n:=Nat.min_le_right _ _;have xQ:Nat.min ys.length n≤ys.length:=Nat.min_le_left _ _;rcases hd with⟨rfl,_⟩|⟨i,len,cap,au,h1,h2⟩
  ·simp at pT
  rcases hs with⟨rfl,_⟩|⟨si,so,jN,sc,se,xR,st,h3,h4,h5,h6,h7,h8⟩
  ·simp at pT
  rcases ak with⟨_,_,h9⟩|⟨rfl,i',eY,c,t,h9,bZ,fP,ox,pU⟩
  ·rw[h1] at h9;cases h9
  rw[h1] at h9;obtain⟨rfl,rfl,rfl⟩:=(by simpa using h9:i=i'∧len=xs.length∧cap=eY);have aT:F.get i=none:=hG.fresh o i ah (by rw[h1];rfl);have br:∀ j i',j≠o→(Q6 s.own j).live=true→Oid (pl j) i'→i'≠i:=fun j i' hj hl hi e=>by subst e;exact hG.sep j o i' hj hl ah hi (by rw[h1];rfl)
  have bk:=h8.take KC.rows_len (Nat.min ys.length n);have oC:Nat.min ys.length n*k.size≤ys.length*k.size:=Nat.mul_le_mul_right _ (Nat.min_le_left _ _);rw[List.take_take,Nat.min_eq_left oC] at bk;have al:=bk.cellOk;have hlen:((sc.drop so).take (Nat.min ys.length n*k.size)).length=Nat.min ys.length n*k.size:=by rw[bk.length KC.rows_len,show (ys.take (Nat.min ys.length n)).length=Nat.min ys.length n by rw[List.length_take];exact Nat.min_eq_left (Nat.min_le_left _ _)]
  have lh:σ.sl size (.slice (some ⟨si,so,none⟩) (min ys.length n) jN)=some ((sc.drop so).take (Nat.min ys.length n*k.size)):=by simp only[Heap.sl,h5];rw[if_pos ⟨by rw[h6,az],by rw[←az];have:min ys.length n*k.size≤ys.length*k.size:=oC;omega⟩,←az]
  have aN:lo*k.size+Nat.min ys.length n*k.size≤xs.length*k.size:=by rw[←Nat.add_mul];exact Nat.mul_le_mul_right _ (by omega)
  have dj:=Nat.mul_le_mul_right k.size bZ;refine⟨.int .i64 (Nat.min ys.length n:Nat),σ.upd i (.cells (Jc c (lo*k.size) ((sc.drop so).take (Nat.min ys.length n*k.size))) ⟨k.size,ty⟩ true t),pl,_,_,?_,h,?_,J9 _ _⟩
  ·simp only[Q5,QM,ki,tq,h2,h3];rw[if_neg (show ¬ min ys.length n=0 from hm)];simp only[lh,fP];rw[if_pos ⟨trivial,az,by rw[hlen,←az];omega,al⟩,←az]
  ·have lW:(xs.take lo++(ys.take n++xs.drop (lo+Nat.min ys.length n))).length=xs.length:=by
    have:Nat.min ys.length n=min n ys.length:=Nat.min_comm _ _;simp only[List.length_append,List.length_take,List.length_drop];omega
   refine hG.writeF o _ (hG.le.upd aT _) ah (fun j i' hj hl hi=>Heap.get_upd_ne _ _ (br j i' hj hl hi)) (.inr ⟨rfl,i,cap,_,t,by rw[lW];exact h1,by rw[lW];exact bZ,Heap.get_upd_self _ _ (σ.lt fP),by rw[QX];exact ox,?_⟩);rw[lW];have e1:=L4 ((sc.drop so).take (Nat.min ys.length n*k.size)) c (m:=xs.length*k.size) (p:=lo*k.size) (n:=Nat.min ys.length n*k.size) (off:=0) (by omega) aN (by omega);rw[Nat.add_zero] at e1;rw[e1];have e2:Jc (((c.take (xs.length*k.size)).drop (lo*k.size)).take (Nat.min ys.length n*k.size)) 0 ((sc.drop so).take (Nat.min ys.length n*k.size))=(sc.drop so).take (Nat.min ys.length n*k.size):=by
    have l1:(((c.take (xs.length*k.size)).drop (lo*k.size)).take (Nat.min ys.length n*k.size)).length=Nat.min ys.length n*k.size:=by simp;omega
    generalize ((c.take (xs.length*k.size)).drop (lo*k.size)).take (Nat.min ys.length n*k.size)=row at l1;generalize (sc.drop so).take (Nat.min ys.length n*k.size)=us at hlen;rw[Jv (by omega),Nat.zero_add,List.take_zero,List.nil_append,List.drop_of_length_le (by omega),List.append_nil]
   rw[e2,List.append_assoc];have e3:ys.take n=ys.take (Nat.min ys.length n):=by
    rcases Nat.le_total ys.length n with h|h
    ·rw[show Nat.min ys.length n=ys.length from Nat.min_eq_left h,List.take_of_length_le h,List.take_of_length_le (Nat.le_refl _)]
    ·rw[show Nat.min ys.length n=n from Nat.min_eq_right h]
   rw[e3];have hd:=pU.drop KC.rows_len (lo+Nat.min ys.length n);rw[Nat.add_mul] at hd;exact(pU.take KC.rows_len lo).append (bk.append hd)
theorem Hd:∀ xs:List UInt8,Rows (KC B (.i .u8)) (xs.map fun b=>(b.toNat:Int)) (xs.map fun b=>Value.int .u8 (b.toNat:Int))
 |[]=>.nil
 |x::xs=>.cons (c:=[.int .u8 (x.toNat:Int)]) rfl (Hd xs)
theorem H8 (af:∀ x,SR P B pl tb (ev x) (evV x)) (hG:Gam P B F pl tb s env σ) {e:Nat}{x:Operand}(h:gn C d (.ext (.strBytes e x)) ev s K):NOk P B F tb (.ext (.strBytes e x)) evV env σ K (Qk d (.ext (.strBytes e x)) ev) s pl:=by
 simp only[gn] at h;split at h
 ·rename_i xs h1;have e1:=WM h1 (af x);obtain⟨hlen,h⟩:=h;have hlen:xs.length≤4611686018427387904:=hlen;have az:(⟨xs.toArray⟩:ByteArray).size=xs.length:=by show xs.toArray.size=_;simp
  refine⟨.slice (some ⟨σ.n,0,none⟩) xs.length xs.length,σ.push (.cells (xs.map fun b=>Value.int .u8 (b.toNat:Int)) ⟨1,e⟩ true false),QO pl d (.slice (some ⟨σ.n,0,none⟩) xs.length xs.length),_,_,?_,h,hG.pushF d _ _ _ rfl ?_,?_⟩
  ·simp only[Q5,QM,e1,az];rw[if_pos (by exact hlen)]
  ·refine .inr ⟨rfl,σ.n,xs.length,_,false,by rw[List.length_map],by rw[List.length_map];exact Nat.le_refl _,Heap.get_push_self _ _,by rw[List.length_map];simp[Kind.size],?_⟩;rw[List.take_of_length_le (by simp[Kind.size])];exact Hd xs
  ·simp only[SR,ZK];exact⟨trivial,_,_,_,rfl⟩
 ·cases h
theorem D4 (af:∀ x,SR P B pl tb (ev x) (evV x)) (hG:Gam P B F pl tb s env σ) {e:Nat}{a n:Operand}(h:gn C d (.ext (.unsafeStr e a n)) ev s K):NOk P B F tb (.ext (.unsafeStr e a n)) evV env σ K (Qk d (.ext (.unsafeStr e a n)) ev) s pl:=by
 have ha:=af a;simp only[gn] at h;split at h
 ·rename_i k h1 h2;have hn:=QQ h2 (af n);obtain⟨hk,hK⟩:=h;have hk:k=0:=hk;rw[h1] at ha;simp only[SR] at ha;refine⟨.string ⟨#[]⟩,σ,pl,_,_,?_,hK,⟨hG,fun q _=>⟨rfl,rfl,fun _ _ _=>rfl⟩⟩,Gk []⟩;simp only[Q5,QM,ha,hn,hk,if_true]
 ·rename_i o k h1 h2;have hn:=QQ h2 (af n);have hT:Qk d (.ext (.unsafeStr e a n)) ev=o:=by simp only[Qk,h1]
  rw[hT];rw[h1] at ha;simp only[SR,DR] at ha;split at h
  ·rename_i ty xs nl ho;split at h
   ·rename_i eL;obtain⟨hk,hlen,hK⟩:=h;have hk:k=xs.length:=hk;have hlen:xs.length≤4611686018427387904:=hlen;have ak:=hG.obj o;rw[ho] at ak;have bD:∀ {σ':Heap},F.Le σ'→(∀ j i,j≠o→(Q6 s.own j).live=true→Oid (pl j) i→σ'.get i=σ.get i)→Gam P B F (QO pl o poison) tb (s.make o .dead) env σ'∧Fr o s (s.make o .dead) pl (QO pl o poison) σ σ':=fun {σ'} h3 h4 =>
     hG.makeF o .dead poison h3 h4 trivial fun i hl=>by cases hl
    rcases ak with⟨_,hx,hp⟩|⟨_,i,cap,c,t,hp,cm,hg,cg,a7⟩
    ·subst hx;refine⟨.string ⟨#[]⟩,σ,_,_,_,?_,hK,bD hG.le (fun _ _ _ _ _=>rfl),Gk []⟩;rcases ha with⟨_,hv⟩|⟨b,n',au,hv,mX,_⟩
     ·simp only[Q5,QM,hv,hn,hk];rfl
     ·rw[hp] at hv;cases hv
    ·rcases ha with⟨hv,_⟩|⟨b,n',au,hv,mX,wy⟩
     ·rw[hp] at hv;cases hv
     ·rw[hp] at hv;have hv:=hv;simp only[phd,Value.slice.injEq,Option.some.injEq] at hv;obtain⟨hb,fE,_⟩:=hv;have wz:i=b:=by injection hb
      subst wz;subst fE;have az:Kind.size (.i .u8)=1:=rfl;rw[az,Nat.mul_one] at a7 cg;have nM:=PK a7;have ah:(Q6 s.own o).live=true:=by rw[ho];rfl
      have aT:F.get i=none:=hG.fresh o i ah (by rw[hp];rfl);refine⟨.string ⟨(xs.map fun x=>x.toNat.toUInt8).toArray⟩,σ.upd i (.cells c ⟨1,ty⟩ false t),_,_,_,?_,hK,bD (hG.le.upd aT _) (fun j i' hj hl hi=>Heap.get_upd_ne _ _ fun e=>by
       subst e;exact hG.sep j o i' hj hl ah hi (by rw[hp];rfl)),Gk _⟩
      have iq:¬ k=0:=by omega
      have jB:k.toNat=xs.length:=by omega
      simp only[Q5,QM,wy,hn,if_neg iq,hg,az];rw[if_pos ⟨by omega,by omega,eL,by omega⟩];simp only[List.drop_zero,jB,nM]
   ·cases h
  ·cases h
 ·cases h
theorem Oy (af:∀ x,SR P B pl tb (ev x) (evV x)) (hG:Gam P B F pl tb s env σ) {size:Nat}{a b:Operand}(h:gn C d (.ext (.copy size a b)) ev s K):NOk P B F tb (.ext (.copy size a b)) evV env σ K (Qk d (.ext (.copy size a b)) ev) s pl:=by
 have ha:=af a;simp only[gn] at h;split at h
 ·rename_i o h1;have hT:Qk d (.ext (.copy size a b)) ev=o:=by simp only[Qk,h1]
  rw[hT];rw[h1] at ha;simp only[SR] at ha;split at h
  ·rename_i ty k xs nl ho;split at h
   ·rename_i az;split at h
    ·rename_i ys hy;have hs:=Jt hG.leB hG.obj hy (af b);have ak:=hG.obj o;rw[ho] at ak;refine GX hG ho (lo:=0) (n:=xs.length) az (by omega) ha.1 rfl hs ?_ ?_ h
     ·rcases ak with⟨_,rfl,h3⟩|⟨_,i,cap,c,t,h3,_⟩
      ·exact .inl ⟨rfl,0,.inl h3⟩
      ·exact .inr ⟨i,_,cap,cap,h3,by rw[h3];simp⟩
     ·have:xs.drop ys.length=xs.drop (0+Nat.min ys.length xs.length):=by
       rcases Nat.le_total ys.length xs.length with h|h
       ·rw[show Nat.min ys.length xs.length=ys.length from Nat.min_eq_left h,Nat.zero_add]
       ·rw[show Nat.min ys.length xs.length=xs.length from Nat.min_eq_right h,Nat.zero_add,List.drop_of_length_le h,List.drop_of_length_le (Nat.le_refl _)]
      rw[this];rfl
    ·cases h
   ·cases h
  ·cases h
 ·rename_i o lo n sz h1;have hT:Qk d (.ext (.copy size a b)) ev=o:=by simp only[Qk,h1]
  rw[hT];rw[h1] at ha;simp only[SR] at ha;split at h
  ·rename_i ty k xs nl ho;split at h
   ·rename_i az;split at h
    ·rename_i ys hy;have hs:=Jt hG.leB hG.obj hy (af b);have ak:=hG.obj o;rw[ho] at ak;rcases ha with⟨rfl,rfl,h2,h3⟩|⟨i,len,cap,au,h2,h3,h4,h5⟩
     ·refine GX hG ho (lo:=0) (n:=0) az.1 (by omega) h2 rfl hs (.inl ⟨rfl,0,.inl rfl⟩) rfl h
     ·rcases ak with⟨_,_,h6⟩|⟨_,i',eY,c,t,h6,_⟩
      ·rw[h2] at h6;cases h6
      ·rw[h2] at h6;obtain⟨rfl,rfl,rfl⟩:=(by simpa using h6:i=i'∧len=xs.length∧cap=eY);exact GX hG ho (lo:=lo) (n:=n) az.1 h3 h5 rfl hs (.inr ⟨i,_,cap,au,h2,by rw[az.2]⟩) rfl h
    ·cases h
   ·cases h
  ·cases h
 ·cases h
end
theorem Ea (hG:Gam P B F pl tb s env σ) (d:Nat) (kk vk:Kind):Gam P B F (QO pl d (.map (some σ.n))) tb (s.make d (.map kk vk [])) env (σ.push (.obj (.map [] 0) true))∧SR P B (QO pl d (.map (some σ.n))) tb (.map d) (.map (some σ.n)):=by refine⟨hG.push d _ _ _ rfl ⟨σ.n,[],0,rfl,Heap.get_push_self _ _,rfl,List.nodup_nil,fun _ h=>by cases h⟩,?_⟩;simp only[SR,ZK];exact⟨trivial,_,rfl⟩
end
end Go.V
namespace Go.V
open Go
def Iq (ρ1 ρ2:Plc):Prop:=∀ i p2,ρ2 i=some p2→∃ p1,ρ1 i=some p1∧p2.blk=p1.blk∧p2.shift=p1.shift∧p2.ext=p1.ext∧p2.esz=p1.esz∧(p2.tight=true→p1.tight=true)
theorem VRel.loose {ρ1 ρ2:Plc}{n:Nat}(hl:Iq ρ1 ρ2) {v c:Value}(h:VRel ρ1 n v c):VRel ρ2 n v c:=by
 induction h with
 |poison c=>exact .poison c
 |bool b=>exact .bool b
 |int k x=>exact .int k x
 |string s=>exact .string s
 |nilPtr=>exact .nilPtr
 |nilSl=>exact .nilSl
 |nilMap=>exact .nilMap
 |nilFunc=>exact .nilFunc
 |nilIface=>exact .nilIface
 |glob g o s=>exact .glob g o s
 |ptr i o a hi h =>refine .ptr i o a hi fun p hp=>?_;obtain⟨p1,h1,h2,h3,_⟩:=hl i p hp;rw[h2,h3];exact h p1 h1
 |sl i o len cap a au hi h =>refine .sl i o len cap a au hi fun p hp=>?_;obtain⟨p1,h1,h2,h3,h4,h5,h6⟩:=hl i p hp;obtain⟨k1,k2,k3⟩:=h p1 h1;rw[h2,h3,h4,h5];exact⟨k1,fun ht=>k2 (h6 ht),k3⟩
 |map i r hi h =>refine .map i r hi fun p hp=>?_;obtain⟨p1,h1,h2,_⟩:=hl i p hp;rw[h2];exact h p1 h1
 |yield i r hi h =>refine .yield i r hi fun p hp=>?_;obtain⟨p1,h1,h2,_⟩:=hl i p hp;rw[h2];exact h p1 h1
 |iface t v c _ ih=>exact .iface t v c ih
 |func fn fs gs cs ds hf hc _ _ kW kX=>exact .func fn fs gs cs ds hf hc kW kX
 |agg cs ds hc _ ih=>exact .agg cs ds hc ih
 |tuple cs ds hc _ ih=>exact .tuple cs ds hc ih
theorem LRel.loose {ρ1 ρ2:Plc}{n:Nat}(hl:Iq ρ1 ρ2) {v c:List Value}(h:LRel ρ1 n v c):LRel ρ2 n v c:=⟨h.1,fun i a b h1 h2=>(h.2 i a b h1 h2).loose hl⟩
theorem ORel.loose {ρ1 ρ2:Plc}{n:Nat}(hl:Iq ρ1 ρ2) {o:VObj}{O:Obj}(h:ORel ρ1 n o O):ORel ρ2 n o O:=by
 cases o with
 |map es clock =>obtain⟨entries,h1,h2,h3⟩:=h;exact⟨entries,h1,h2,fun k kv hk=>let ⟨e,he,h4,h5,hv⟩:=h3 k kv hk;⟨e,he,h4,h5,hv.loose hl⟩⟩
 |iter m since seen last=>obtain⟨rm,h1,h2⟩:=h;exact⟨rm,h1,h2.loose hl⟩
 |lp env r st pend=>exact⟨h.1,h.2.loose hl⟩
inductive Weak (n0:Nat→Prop):Value→Value→Prop
 |refl (v:Value):Weak n0 v v
 |sl (i len cap:Nat) (hi:n0 i) (hc:len≤cap):Weak n0 (.slice (some ⟨i,0,none⟩) len cap) (.slice (some ⟨i,0,none⟩) len len)
 |agg (cs ds:List Value) (hc:cs.length=ds.length) (h:∀ (i:Nat) (a b:Value),cs[i]?=some a→ds[i]?=some b→Weak n0 a b):Weak n0 (.agg cs.toArray) (.agg ds.toArray)
 |tuple (cs ds:List Value) (hc:cs.length=ds.length) (h:∀ (i:Nat) (a b:Value),cs[i]?=some a→ds[i]?=some b→Weak n0 a b):Weak n0 (.tuple cs.toArray) (.tuple ds.toArray)
theorem Weak.rel {ρ:Plc}{n:Nat}{n0:Nat→Prop}(hρ:∀ i p,n0 i→ρ i=some p→p.tight=false) {v v':Value}(h:Weak n0 v v'):∀ {c:Value},VRel ρ n v c→VRel ρ n v' c:=by
 induction h with
 |refl v=>exact fun h=>h
 |sl i len cap hi hc =>
  intro c h;cases h with
  |sl _ _ _ _ a au bU h =>
   refine .sl _ _ _ _ _ _ bU fun p hp=>?_;obtain⟨k1,k2,o',k3,k4,k5⟩:=h p hp;refine⟨by omega,(fun ht=>by rw[hρ i p hi hp] at ht;cases ht),o',k3,k4,?_⟩;rcases k5 with k5|k5
   ·exact .inl k5
   ·exact .inr ⟨k5.1,k5.1⟩
 |agg cs ds hc h ih =>
  intro c hr;cases hr with
  |agg _ es cN hr =>
   refine .agg _ _ (by simpa [hc] using cN) fun i h1 h2=>?_;have l1:i<cs.length:=by simpa [hc] using h1
   have l2:i<ds.length:=by simpa using h1
   have:=ih i cs[i] ds[i] (List.getElem?_eq_getElem l1) (List.getElem?_eq_getElem l2) (hr i (by simpa using l1) h2);simpa using this
 |tuple cs ds hc h ih =>
  intro c hr;cases hr with
  |tuple _ es cN hr =>
   refine .tuple _ _ (by simpa [hc] using cN) fun i h1 h2=>?_;have l1:i<cs.length:=by simpa [hc] using h1
   have l2:i<ds.length:=by simpa using h1
   have:=ih i cs[i] ds[i] (List.getElem?_eq_getElem l1) (List.getElem?_eq_getElem l2) (hr i (by simpa using l1) h2);simpa using this
theorem DropTo.trans {σ0 σ1 σ2 σ3:Heap}{v1 v2 v3:Value}(h:DropTo σ0 v1 σ1 v2 σ2) (k:DropTo σ0 v2 σ2 v3 σ3):DropTo σ0 v1 σ1 v3 σ3:=by intro ρ0 w0 ρ w c f_ hE hH hv;obtain⟨ρ',gB,gM,bY⟩:=h ρ0 w0 ρ w c f_ hE hH hv;exact k ρ0 w0 ρ' w c f_ bY gM gB
theorem DropTo.weaken {σ0 σ1 σ2:Heap}{v v':Value}(S:Nat→Bool) (hS:∀ i,S i=true→σ0.n≤i) (hn:σ2.n=σ1.n) (h0:σ0.n≤σ1.n) (h1:∀ i,S i=false→σ2.get i=σ1.get i)
  (h2:∀ i,S i=true→∃ c e wr t m,σ1.get i=some (.cells c e wr t)∧σ2.get i=some (.cells (c.take m) e wr false)) (hv:Weak (fun i=>S i=true) v v'):DropTo σ0 v σ1 v' σ2:=by
 intro ρ0 w0 ρ w c f_ hE hH ef;let ρ':Plc:=fun i=>if S i=false then ρ i else (ρ i).map fun p=>{p with tight:=false}
 have hl:Iq ρ ρ':=fun i p2 hp=>by
  change (if S i=false then ρ i else (ρ i).map fun p=>{p with tight:=false})=some p2 at hp;by_cases hi:S i=false
  ·rw[if_pos hi] at hp;exact⟨p2,hp,rfl,rfl,rfl,rfl,fun h=>h⟩
  ·rw[if_neg hi,Option.map_eq_some_iff] at hp;obtain⟨p1,iM,rfl⟩:=hp;exact⟨p1,iM,rfl,rfl,rfl,rfl,fun h=>by cases h⟩
 have eo:∀ i p2,ρ' i=some p2→∃ p1,ρ i=some p1∧p2.blk=p1.blk∧p2.ext=p1.ext:=fun i p2 hp=>by obtain⟨p1,k1,k2,k3,k4,_⟩:=hl i p2 hp;exact⟨p1,k1,k2,k4⟩
 have ie:∀ i b,σ2.get i=some b→∃ b1,σ1.get i=some b1∧b.wr=b1.wr:=fun i b hb=>by
  by_cases hi:S i=false
  ·rw[h1 i hi] at hb;exact⟨b,hb,rfl⟩
  ·obtain⟨c,e,wr,t,m,k1,k2⟩:=h2 i (by simpa using hi);rw[k2] at hb;obtain rfl:=osj hb;exact⟨_,k1,rfl⟩
 have hX:Ext ρ0 σ0 w0 ρ' σ2 w:=by
  refine⟨hE.os,hE.tape,hE.output,hE.size,hE.keep,?_,by omega,fun i hi p hp=>?_⟩
  ·rintro B hB ⟨i,p,b,hp,hb,hw,rfl⟩;obtain⟨p1,k1,k2,_⟩:=eo i p hp;obtain⟨b1,k7,k8⟩:=ie i b hb;exact hE.wr _ hB ⟨i,p1,b1,k1,k7,by rw[←k8];exact hw,k2.symm⟩
  ·have:S i=false:=by
    cases hs:S i with
    |false=>rfl
    |true=>have:=hS i hs;omega
   simp only[ρ',this,if_true] at hp;exact hE.pl i hi p hp
 refine⟨ρ',?_,f_.ext ⟨fun i b hb=>?_,fun i hi=>?_,fun i p hp=>?_,fun i j p q b cq hp hq hb hw hx=>?_⟩ hX,hX⟩
 ·rw[hn];refine hv.rel (fun i p hi hp=>?_) (ef.loose hl);have:¬ S i=false:=by simp[hi]
  change (if S i=false then ρ i else (ρ i).map fun p=>{p with tight:=false})=some p at hp;rw[if_neg this,Option.map_eq_some_iff] at hp;obtain⟨p1,_,rfl⟩:=hp;rfl
 ·by_cases hi:S i=false
  ·rw[h1 i hi] at hb;obtain⟨p,hp,hB⟩:=hH.live i b hb;refine⟨p,by simp only[ρ',hi,if_true];exact hp,?_⟩;rw[hn];cases b with
   |cells c e wr t =>obtain⟨k1,k2,k3,k4,k5,k6⟩:=hB;exact⟨k1,k2,k3,k4,fun k v hk=>let ⟨u,a1,a2⟩:=k5 k v hk;⟨u,a1,a2.loose hl⟩,k6⟩
   |obj o wr =>obtain⟨k1,O,k2,k3⟩:=hB;exact⟨k1,O,k2,k3.loose hl⟩
  ·obtain⟨c,e,wr,t,m,k1,k2⟩:=h2 i (by simpa using hi);rw[k2] at hb;obtain rfl:=osj hb;obtain⟨p,hp,hB⟩:=hH.live i _ k1;obtain⟨a1,a2,a3,a4,a5,a6⟩:=hB;refine⟨{p with tight:=false},by simp[ρ',hi,hp],a1,rfl,by simp;omega,a4,fun k v hk=>?_,fun ie=>⟨(fun h=>by cases h),(a6 ie).2⟩⟩;rw[List.getElem?_take] at hk;split at hk
   ·obtain⟨u,b1,b2⟩:=a5 k v hk;rw[hn];exact⟨u,b1,b2.loose hl⟩
   ·cases hk
 ·have hd:σ1.get i=none:=by
   by_cases bU:S i=false
   ·rw[←h1 i bU];exact hi
   ·obtain⟨c,e,wr,t,m,k1,k2⟩:=h2 i (by simpa using bU);rw[k2] at hi;cases hi
  have:=hH.dead i hd;simp only[ρ',this];split<;>rfl
 ·obtain⟨p1,k1,k2,_⟩:=eo i p hp;rw[k2];exact hH.lt i p1 k1
 ·obtain⟨p1,k1,k2,k3⟩:=eo i p hp;obtain⟨q1,k4,k5,k6⟩:=eo j q hq;obtain⟨b1,k7,k8⟩:=ie i b hb;rw[k2,k5];exact hH.sep i j p1 q1 b1 cq k1 k4 k7 (by rw[←k8];exact hw) (by rw[←k6];exact hx)
def mkP (σ:Heap) (v:Value) (is:List Nat):Value:=.tuple (v::is.map fun i=>match σ.get i with|some b=>Q5q i b|none=>.bool true).toArray
theorem Rf (σ:Heap) (v:Value) (is:List Nat):phd (mkP σ v is)=v:=rfl
theorem Ax (i:Nat) (c:List Value) (e:El) (wr t:Bool):Q5g (Q5q i (.cells c e wr t))=some (i,.cells c e true t):=rfl
theorem L5 {σ:Heap}:∀ {is:List Nat},(∀ i∈is,∃ c e t,σ.get i=some (.cells c e true t))→∀ j,My (IW (is.map fun i=>match σ.get i with|some b=>Q5q i b|none=>.bool true)) j=if j∈is then σ.get j else none
 |[],_,j=>by simp[IW,My]
 |i::is,h,j=>by
  obtain⟨c,e,t,hc⟩:=h i List.mem_cons_self;have ih:=L5 (σ:=σ) (is:=is) (fun i hi=>h i (List.mem_cons_of_mem _ hi)) j;simp only[List.map_cons,hc,IW,Ax,My];by_cases hj:j=i
  ·subst hj;simp[hc]
  ·rw[if_neg hj,ih];simp[hj]
theorem HZ {σ:Heap}{v:Value}{is:List Nat}(h:∀ i∈is,∃ c e t,σ.get i=some (.cells c e true t)) (j:Nat):(J6 (mkP σ v is)).get j=if j∈is then σ.get j else none:=L5 h j
theorem KO.imp {H H':Heap}:∀ {k:Kind}{q:Option Nat}{x:k.T}{cs:List Value}{is:List Nat},KO H q k x cs is→(∀ i∈is,H'.get i=H.get i)→KO H' q k x cs is
 |.i _,_,_,_,_,h,_|.bo,_,_,_,_,h,_|.st,_,_,_,_,h,_=>by simp only[KO] at h ⊢;exact h
 |.list k,q,l,cs,is,h,g=>by
  simp only[KO] at h ⊢;rcases h with h|⟨i,cap,c,e,t,js,h1,rfl,h3,h4,h5,h6,h7,h8⟩
  ·exact .inl h
  ·refine .inr ⟨i,cap,c,e,t,js,h1,rfl,h3,by rw[g i List.mem_cons_self];exact h4,h5,h6,h7,?_⟩;have key:∀ {xs:List k.T}{cs:List Value}{js:List Nat},RowsO (fun x c is=>KO H none k x c is) xs cs js→(∀ i∈js,H'.get i=H.get i)→RowsO (fun x c is=>KO H' none k x c is) xs cs js:=fun h=>by
    induction h with
    |nil=>exact fun _=>.nil
    |cons h _ ih=>exact fun g=>.cons (KO.imp (k:=k) h fun i hi=>g i (List.mem_append_left _ hi)) (ih fun i hi=>g i (List.mem_append_right _ hi))
   exact key h8 fun i hi=>g i (List.mem_cons_of_mem _ hi)
 |.pair a b,_,x,cs,is,h,g=>by simp only[KO] at h ⊢;obtain⟨c1,c2,i1,i2,h1,rfl,h3,h4⟩:=h;exact⟨c1,c2,i1,i2,h1,rfl,h3.imp fun i hi=>g i (List.mem_append_left _ hi),h4.imp fun i hi=>g i (List.mem_append_right _ hi)⟩
theorem KO.cells {H:Heap}:∀ {k:Kind}{q:Option Nat}{x:k.T}{cs:List Value}{is:List Nat},KO H q k x cs is→∀ i∈is,∃ c e t,H.get i=some (.cells c e true t)
 |.i _,_,_,_,_,h,i,hi|.bo,_,_,_,_,h,i,hi|.st,_,_,_,_,h,i,hi=>by simp only[KO] at h;rw[h.2] at hi;cases hi
 |.list k,q,l,cs,is,h,i,hi=>by
  simp only[KO] at h;rcases h with⟨_,_,rfl⟩|⟨i',cap,c,e,t,js,h1,rfl,h3,h4,h5,h6,h7,h8⟩
  ·cases hi
  ·rcases List.mem_cons.1 hi with rfl|hi
   ·exact⟨_,_,_,h4⟩
   ·have key:∀ {xs:List k.T}{cs:List Value}{js:List Nat},RowsO (fun x c is=>KO H none k x c is) xs cs js→∀ i∈js,∃ c e t,H.get i=some (.cells c e true t):=fun h=>by
     induction h with
     |nil=>exact fun i hi=>by cases hi
     |cons h _ ih=>exact fun i hi=>(List.mem_append.1 hi).elim (KO.cells (k:=k) h i) (ih i)
    exact key h8 i hi
 |.pair a b,_,x,cs,is,h,i,hi=>by simp only[KO] at h;obtain⟨c1,c2,i1,i2,h1,rfl,h3,h4⟩:=h;exact(List.mem_append.1 hi).elim (h3.cells i) (h4.cells i)
theorem KO.weak {H:Heap}:∀ {k:Kind}{q:Option Nat}{x:k.T}{cs:List Value}{is:List Nat},KO H q k x cs is→KO H none k x cs is
 |.i _,_,_,_,_,h|.bo,_,_,_,_,h|.st,_,_,_,_,h=>by simp only[KO] at h ⊢;exact h
 |.list k,q,l,cs,is,h=>by
  simp only[KO] at h ⊢;rcases h with h|⟨i,cap,c,e,t,js,h1,h2,h3,h4,h5,h6,h7,h8⟩
  ·exact .inl h
  ·exact .inr ⟨i,cap,c,e,t,js,h1,h2,h3,h4,h5,(fun _ e=>by cases e),h7,h8⟩
 |.pair a b,_,x,cs,is,h=>by simp only[KO] at h ⊢;exact h
theorem KO.rows_len {H:Heap}{q:Option Nat}{k:Kind}:∀ (x:k.T) (c:List Value) (is:List Nat),KO H q k x c is→c.length=k.size:=fun _ _ _ h=>KC.length h.kc
theorem KC.ko {H:Heap}:∀ {k:Kind}{q:Option Nat}{x:k.T}{cs:List Value},k.flat=true→KC H k x cs→KO H q k x cs []
 |.i _,_,_,_,_,h|.bo,_,_,_,_,h|.st,_,_,_,_,h=>by simp only[KC] at h;simp only[KO];exact⟨h,trivial⟩
 |.list _,_,_,_,f,_=>by cases f
 |.pair a b,_,x,cs,f,h=>by simp only[Kind.flat,Bool.and_eq_true] at f;obtain⟨c1,c2,rfl,h1,h2⟩:=h;simp only[KO];exact⟨c1,c2,[],[],rfl,rfl,h1.ko f.1,h2.ko f.2⟩
theorem Dk {H:Heap}:∀ {k:Kind}{q:Option Nat}{z:List Value},JF k z=true→KO H q k k.dflt z []
 |.i ik,q,z,h=>KC.ko rfl (Z2 h)
 |.bo,q,z,h=>KC.ko rfl (Z2 h)
 |.st,q,z,h=>KC.ko rfl (Z2 h)
 |.list k,q,z,h=>by
  unfold JF at h;split at h
  ·contradiction
  ·contradiction
  ·contradiction
  ·unfold KO;exact .inl ⟨rfl,rfl,rfl⟩
  ·contradiction
  ·cases h
 |.pair a b,q,z,h=>by simp only[JF,Bool.and_eq_true] at h;simp only[KO,Kind.dflt];exact⟨z.take a.size,z.drop a.size,[],[],(List.take_append_drop _ _).symm,rfl,Dk h.1,Dk h.2⟩
section
variable {α:Type}{R R':α→List Value→List Nat→Prop}{sz:Nat}
theorem RowsH.imp:∀ {xs:List α}{h:Option Nat}{j:Nat}{cs:List Value}{is:List Nat},RowsH R sz h j xs cs is→(∀ x c js,R x c js→(∀ i∈js,i∈is)→R' x c js)→RowsH R' sz h j xs cs is
 |[],_,_,_,_,h,_=>h
 |x::xs,hh,j,cs,is,h,g=>by
  obtain⟨c,cs',i1,i2,rfl,rfl,h1,h2⟩:=h;refine⟨c,cs',i1,i2,rfl,rfl,?_,h2.imp fun x c js hr hj=>g x c js hr fun i hi=>List.mem_append_right _ (hj i hi)⟩;by_cases e:hh=some j
  ·rw[if_pos e] at h1 ⊢;exact h1
  ·rw[if_neg e] at h1 ⊢;exact g _ _ _ h1 fun i hi=>List.mem_append_left _ hi
theorem RowsH.hole:∀ {xs:List α}{h h':Option Nat}{j j':Nat}{cs:List Value}{is:List Nat},RowsH R sz h j xs cs is→(∀ m,h=some (j+m)↔h'=some (j'+m))→RowsH R sz h' j' xs cs is
 |[],_,_,_,_,_,_,h,_=>h
 |x::xs,h,h',j,j',cs,is,hr,g=>by
  obtain⟨c,cs',i1,i2,rfl,rfl,h1,h2⟩:=hr;refine⟨c,cs',i1,i2,rfl,rfl,?_,h2.hole fun m=>?_⟩
  ·have:=g 0;simp only[Nat.add_zero] at this;by_cases e:h=some j
   ·rw[if_pos e] at h1;rw[if_pos (this.1 e)];exact h1
   ·rw[if_neg e] at h1;rw[if_neg fun e'=>e (this.2 e')];exact h1
  ·have:=g (1+m);rw[←Nat.add_assoc,←Nat.add_assoc] at this;exact this
theorem RowsH.length (hR:∀ x c is,R x c is→c.length=sz):∀ {xs:List α}{h:Option Nat}{j:Nat}{cs:List Value}{is:List Nat},RowsH R sz h j xs cs is→cs.length=xs.length*sz
 |[],_,_,_,_,h=>by rw[h.1];simp
 |x::xs,_,j,cs,is,h=>by
  obtain⟨c,cs',i1,i2,rfl,rfl,h1,h2⟩:=h;have hc:c.length=sz:=by
   split at h1
   ·exact h1.1
   ·exact hR _ _ _ h1
  rw[List.length_append,hc,h2.length hR,List.length_cons,Nat.add_mul,Nat.one_mul,Nat.add_comm]
theorem RowsH.rowsO (g:∀ x c js,R x c js→R' x c js):∀ {xs:List α}{j:Nat}{cs:List Value}{is:List Nat},RowsH R sz none j xs cs is→RowsO R' xs cs is
 |[],_,_,_,h=>by obtain⟨rfl,rfl⟩:=h;exact .nil
 |x::xs,j,cs,is,h=>by obtain⟨c,cs',i1,i2,rfl,rfl,h1,h2⟩:=h;rw[if_neg (by simp)] at h1;exact .cons (g _ _ _ h1) (h2.rowsO g)
theorem RowsH.append:∀ {xs ys:List α}{j j':Nat}{cs ds:List Value}{is js:List Nat},RowsH R sz none j xs cs is→RowsH R sz none j' ys ds js→RowsH R sz none j (xs++ys) (cs++ds) (is++js)
 |[],ys,j,j',cs,ds,is,js,h,h'=>by obtain⟨rfl,rfl⟩:=h;exact h'.hole fun m=>by simp
 |x::xs,ys,j,j',cs,ds,is,js,h,h'=>by obtain⟨c,cs',i1,i2,rfl,rfl,h1,h2⟩:=h;exact⟨c,cs'++ds,i1,i2++js,by rw[List.append_assoc],by rw[List.append_assoc],h1,h2.append h'⟩
theorem RowsH.replicate {x:α}{c:List Value}(h:R x c []):∀ (n j:Nat),RowsH R sz none j (List.replicate n x) (List.replicate n c).flatten []
 |0,_=>⟨rfl,rfl⟩
 |n+1,j=>⟨c,_,[],[],rfl,rfl,by rw[if_neg (by simp)];exact h,RowsH.replicate h n (j+1)⟩
theorem RowsH.take (hR:∀ x c is,R x c is→c.length=sz):∀ {xs:List α}{j:Nat}{cs:List Value},RowsH R sz none j xs cs []→∀ n,RowsH R sz none j (xs.take n) (cs.take (n*sz)) []
 |[],j,cs,h,n=>by obtain⟨rfl,_⟩:=h;simp[RowsH]
 |x::xs,j,cs,h,0=>by simp[RowsH]
 |x::xs,j,cs,h,n+1=>by
  obtain⟨c,cs',i1,i2,rfl,e,h1,h2⟩:=h;obtain⟨rfl,rfl⟩:=List.append_eq_nil_iff.1 e.symm;have hc:c.length=sz:=by rw[if_neg (by simp)] at h1;exact hR _ _ _ h1
  refine⟨c,cs'.take (n*sz),[],[],?_,rfl,h1,h2.take hR n⟩;rw[Nat.add_mul,Nat.one_mul,Nat.add_comm,List.take_append,hc,List.take_of_length_le (by omega),Nat.add_sub_cancel_left]
theorem RowsH.set (hR:∀ x c is,R x c is→c.length=sz):∀ {xs:List α}{h h':Option Nat}{j i:Nat}{cs:List Value}{is:List Nat}{x:α}{c':List Value}{inew:List Nat},
  RowsH R sz h j xs cs is→(hi:i<xs.length)→(∀ m,m≠i→(h=some (j+m)↔h'=some (j+m)))→c'.length=sz→(if h'=some (j+i) then inew=[] else R x c' inew) →
  ∃ dh ix di,is=dh++ix++di∧RowsH R sz h' j (xs.set i x) (cs.take (i*sz)++c'++cs.drop (i*sz+sz)) (dh++inew++di)∧(if h=some (j+i) then ix=[] else R xs[i] ((cs.drop (i*sz)).take sz) ix)
 |[],_,_,_,_,_,_,_,_,_,_,hi,_,_,_=>by simp at hi
 |y::ys,h,h',j,0,cs,is,x,c',inew,hr,hi,g,hl,hn=>by
  obtain⟨c,cs',i1,i2,rfl,rfl,h1,h2⟩:=hr;have hc:c.length=sz:=by
   split at h1
   ·exact h1.1
   ·exact hR _ _ _ h1
  have ht:RowsH R sz h' (j+1) ys cs' i2:=h2.hole fun m=>by have:=g (m+1) (by omega);rw[show j+1+m=j+(m+1) by omega];exact this
  refine⟨[],i1,i2,rfl,?_,?_⟩
  ·rw[List.set_cons_zero];refine⟨c',cs',inew,i2,?_,rfl,?_,ht⟩
   ·rw[Nat.zero_mul,List.take_zero,List.nil_append,Nat.zero_add,List.drop_append,hc,Nat.sub_self,List.drop_zero,List.drop_of_length_le (by omega),List.nil_append]
   ·rw[Nat.add_zero] at hn;split
    ·rename_i e;rw[if_pos e] at hn;exact⟨hl,hn⟩
    ·rename_i e;rw[if_neg e] at hn;exact hn
  ·rw[Nat.add_zero];split
   ·rename_i e;rw[if_pos e] at h1;exact h1.2
   ·rename_i e;rw[if_neg e] at h1;rw[Nat.zero_mul,List.drop_zero,List.take_append,hc,Nat.sub_self,List.take_zero,List.append_nil,List.take_of_length_le (by omega)];exact h1
 |y::ys,h,h',j,i+1,cs,is,x,c',inew,hr,hi,g,hl,hn=>by
  obtain⟨c,cs',i1,i2,rfl,rfl,h1,h2⟩:=hr;have hc:c.length=sz:=by
   split at h1
   ·exact h1.1
   ·exact hR _ _ _ h1
  obtain⟨dh,ix,di,rfl,k1,k2⟩:=RowsH.set hR h2 (i:=i) (h':=h') (x:=x) (c':=c') (inew:=inew) (by simpa using hi) (fun m hm=>by
   have:=g (m+1) (by omega);rw[show j+1+m=j+(m+1) by omega];exact this) hl (by rw[show j+1+i=j+(i+1) by omega];exact hn)
  have e0:(i+1)*sz=sz+i*sz:=by rw[Nat.add_mul,Nat.one_mul,Nat.add_comm]
  refine⟨i1++dh,ix,di,by simp[List.append_assoc],?_,?_⟩
  ·rw[List.set_cons_succ];refine⟨c,_,i1,dh++inew++di,?_,by simp[List.append_assoc],?_,k1⟩
   ·have e1:(c++cs').take ((i+1)*sz)=c++cs'.take (i*sz):=by
     rw[e0,List.take_append,hc,List.take_of_length_le (by omega),Nat.add_sub_cancel_left]
    have e2:(c++cs').drop ((i+1)*sz+sz)=cs'.drop (i*sz+sz):=by rw[e0,List.drop_append,hc,List.drop_of_length_le (by omega),List.nil_append];congr 1;omega
    rw[e1,e2];simp[List.append_assoc]
   ·have:=g 0 (by omega);rw[Nat.add_zero] at this;by_cases e:h=some j
    ·rw[if_pos e] at h1;rw[if_pos (this.1 e)];exact h1
    ·rw[if_neg e] at h1;rw[if_neg fun e'=>e (this.2 e')];exact h1
  ·rw[show j+(i+1)=j+1+i by omega];have e3:(c++cs').drop ((i+1)*sz)=cs'.drop (i*sz):=by
    rw[e0,List.drop_append,hc,List.drop_of_length_le (by omega),List.nil_append];congr 1;omega
   rw[e3];exact k2
end
theorem DO.imp {H H':Heap}{ty:Nat}{q:Option Nat}{k:Kind}{xs:List k.T}{h:Option Nat}{v:Value}{is:List Nat}(hd:DO H ty q k xs h v is) (g:∀ i∈is,H'.get i=H.get i):DO H' ty q k xs h v is:=by
 rcases hd with hd|⟨i,cap,c,t,js,h1,rfl,h3,h4,h5,h6⟩
 ·exact .inl hd
 ·exact .inr ⟨i,cap,c,t,js,h1,rfl,h3,by rw[g i List.mem_cons_self];exact h4,h5,h6.imp fun x c fQ hr hj=>KO.imp hr fun i hi=>g i (List.mem_cons_of_mem _ (hj i hi))⟩
theorem RowsH.cells {H:Heap}{q:Option Nat}{k:Kind}{sz:Nat}:∀ {xs:List k.T}{h:Option Nat}{j:Nat}{cs:List Value}{is:List Nat},RowsH (KO H q k) sz h j xs cs is→∀ i∈is,∃ c e t,H.get i=some (.cells c e true t)
 |[],_,_,_,_,h,i,hi=>by rw[h.2] at hi;cases hi
 |x::xs,_,j,cs,is,h,i,hi=>by
  obtain⟨c,cs',i1,i2,rfl,rfl,h1,h2⟩:=h;rcases List.mem_append.1 hi with hi|hi
  ·split at h1
   ·rw[h1.2] at hi;cases hi
   ·exact KO.cells h1 i hi
  ·exact h2.cells i hi
theorem DO.cells {H:Heap}{ty:Nat}{q:Option Nat}{k:Kind}{xs:List k.T}{h:Option Nat}{v:Value}{is:List Nat}(hd:DO H ty q k xs h v is):∀ i∈is,∃ c e t,H.get i=some (.cells c e true t):=by
 rcases hd with⟨_,_,rfl⟩|⟨i,cap,c,t,js,h1,rfl,h3,h4,h5,h6⟩
 ·exact fun i hi=>by cases hi
 ·exact fun j hj=>(List.mem_cons.1 hj).elim (fun e=>by subst e;exact⟨_,_,_,h4⟩) (h6.cells j)
theorem DP.open {σ:Heap}{p:Value}{ty:Nat}{q:Option Nat}{k:Kind}{xs:List k.T}{nl:Bool}{h:Option Nat}(hd:DP σ p ty q k xs nl h) :
  ∃ is,is.Nodup∧DO σ ty q k xs h (phd p) is∧(∀ i,Oid p i↔i∈is)∧(nl=true↔phd p=.slice none 0 0):=by
 obtain⟨is,hO,h1,h2,h3,h4,h5⟩:=hd;refine⟨is,h1,h2.imp fun i hi=>?_,fun i=>(hO i).trans (h3 i),h5⟩;obtain⟨b,hb⟩:=(h3 i).2 hi;rw[hb,h4 i b hb]
theorem DP.close {σ:Heap}{v:Value}{ty:Nat}{q:Option Nat}{k:Kind}{xs:List k.T}{nl:Bool}{h:Option Nat}{is:List Nat}(hn:is.Nodup) (hd:DO σ ty q k xs h v is) (gY:nl=true↔v=.slice none 0 0) :
  DP σ (mkP σ v is) ty q k xs nl h:=by
 have hc:=hd.cells;refine⟨is,fun _=>Iff.rfl,hn,hd.imp fun i hi=>by rw[HZ hc,if_pos hi],fun i=>?_,fun i b hb=>?_,gY⟩
 ·rw[HZ hc];constructor
  ·rintro⟨b,hb⟩;split at hb
   ·assumption
   ·cases hb
  ·intro hi;obtain⟨c,e,t,h⟩:=hc i hi;exact⟨_,by rw[if_pos hi];exact h⟩
 ·rw[HZ hc] at hb;split at hb
  ·exact hb
  ·cases hb
theorem Gr {σ:Heap}{v:Value}{is:List Nat}(hc:∀ i∈is,∃ c e t,σ.get i=some (.cells c e true t)) (i:Nat):Oid (mkP σ v is) i↔i∈is:=by
 show (∃ b,(J6 (mkP σ v is)).get i=some b)↔_;rw[HZ hc];constructor
 ·rintro⟨b,hb⟩;split at hb
  ·assumption
  ·cases hb
 ·intro hi;obtain⟨c,e,t,h⟩:=hc i hi;exact⟨_,by rw[if_pos hi];exact h⟩
end Go.V
namespace Go.V
open Go
section
variable {P:Program}
theorem Aq {tb:Nat→Option Bool}{v:SV}{o:Nat}(h:gtb tb v):gtb tb (v.stale o):=by
 cases v
 case bid n c=>exact h
 case dd o' w =>
  simp only[SV.stale];cases Nat.beq o' o with
  |false=>trivial
  |true=>cases w<;>trivial
 all_goals (simp only[SV.stale];first|trivial|(cases Nat.beq _ _<;>trivial))
mutual
theorem SR.stale {B:Heap}{pl pl':Nat→Value}{tb:Nat→Option Bool}{o:Nat}(hp:∀ d,d≠o→pl' d=pl d) (h1:phd (pl' o)=phd (pl o)) :
  ∀ (s:SV) (v:Value),SR P B pl tb s v→SR P B pl' tb (s.stale o) v
 |.any,_,_=>trivial
 |.val k x,v,h=>by simp only[SV.stale,SR] at h ⊢;exact h
 |.bid n c,v,h=>by simp only[SV.stale,SR] at h ⊢;exact h
 |.grd gs s,v,h=>by simp only[SV.stale,SR] at h ⊢;exact⟨⟨h.1.1,Aq h.1.2⟩,fun hg=>SR.stale hp h1 s v (h.2.1 hg),h.2.2⟩
 |.nilS,v,h=>h
 |.nilP,v,h=>h
 |.nilM,v,h=>h
 |.nilF,v,h=>h
 |.lst o',v,h=>by
  by_cases e:o'=o
  ·subst e;simp[SV.stale,SR]
  ·simp only[SV.stale,QS e,cond_false];simp only[SR] at h ⊢;rw[hp _ e];exact h
 |.sub o' lo n sz,v,h=>by
  by_cases e:o'=o
  ·subst e;simp[SV.stale,SR]
  ·simp only[SV.stale,QS e,cond_false];simp only[SR] at h ⊢;rw[hp _ e];exact h
 |.elp o' i off sz,v,h=>by
  by_cases e:o'=o
  ·subst e;simp[SV.stale,SR]
  ·simp only[SV.stale,QS e,cond_false];simp only[SR] at h ⊢;rw[hp _ e];exact h
 |.box o' off,v,h=>by
  by_cases e:o'=o
  ·subst e;simp[SV.stale,SR]
  ·simp only[SV.stale,QS e,cond_false];simp only[SR] at h ⊢;rw[hp _ e];exact h
 |.map o',v,h=>by
  by_cases e:o'=o
  ·subst e;simp[SV.stale,SR]
  ·simp only[SV.stale,QS e,cond_false];simp only[SR] at h ⊢;rw[hp _ e];exact h
 |.dd o' w,v,h=>by
  by_cases e:o'=o
  ·subst e;simp only[SV.stale,Nat.beq_refl,_root_.cond_true];cases w with
   |out=>simp only[SR,DR] at h ⊢;rw[h1];exact h
   |el i off sz=>simp only[SR,DR] at h ⊢;rw[h1];exact h
   |row _ _ _=>trivial
   |rowp _ _ _ _ _=>trivial
   |inn _ _=>trivial
   |inp _ _ _ _=>trivial
   |dat=>trivial
   |obx _=>trivial
   |yv=>trivial
  ·simp only[SV.stale,QS e,cond_false];simp only[SR] at h ⊢;rw[hp _ e];exact h
 |.rop k l i off,v,h=>by simp only[SV.stale,SR] at h ⊢;exact h
 |.cp l off,v,h=>by simp only[SV.stale,SR] at h ⊢;obtain⟨b,c,e,wr,t,k1,k2,k3⟩:=h;exact⟨b,c,e,wr,t,k1,k2,SRs.stale hp h1 l c k3⟩
 |.agg l,v,h=>by simp only[SV.stale,SR] at h ⊢;obtain⟨cs,k1,k2⟩:=h;exact⟨cs,k1,SRs.stale hp h1 l cs k2⟩
 |.tup l,v,h=>by simp only[SV.stale,SR] at h ⊢;obtain⟨cs,k1,k2⟩:=h;exact⟨cs,k1,SRs.stale hp h1 l cs k2⟩
 |.fn f a b,v,h=>by simp only[SV.stale,SR] at h ⊢;obtain⟨x,y,k1,k2,k3⟩:=h;exact⟨x,y,k1,SRs.stale hp h1 a x k2,SRs.stale hp h1 b y k3⟩
 |.pf ks r cH p,v,h=>by simp only[SV.stale,SR] at h ⊢;exact h
theorem SRs.stale {B:Heap}{pl pl':Nat→Value}{tb:Nat→Option Bool}{o:Nat}(hp:∀ d,d≠o→pl' d=pl d) (h1:phd (pl' o)=phd (pl o)) :
  ∀ (s:List SV) (v:List Value),SRs P B pl tb s v→SRs P B pl' tb (SVs.stale o s) v
 |[],v,h=>h
 |s::ss,v,h=>by simp only[SVs.stale,SRs] at h ⊢;obtain⟨x,y,k1,k2,k3⟩:=h;exact⟨x,y,k1,SR.stale hp h1 s x k2,SRs.stale hp h1 ss y k3⟩
end
theorem OB.live_stale (b:OB) (o:Nat):(b.stale o).live=b.live:=by cases b<;>rfl
theorem OR.stale {B:Heap}{pl pl':Nat→Value}{tb:Nat→Option Bool}{o:Nat}(hp:∀ d,d≠o→pl' d=pl d) (h1:phd (pl' o)=phd (pl o)) {σ σ':Heap}{p:Value}{b:OB}
  (h:OR P B pl tb σ p b) (hg:b.live=true→∀ i,Oid p i→σ'.get i=σ.get i):OR P B pl' tb σ' p (b.stale o):=by
 cases b with
 |dead=>trivial
 |lst ty k xs nl =>
  rcases h with h|⟨h1,i,cap,c,t,h2,h3,h4,h5,h6⟩
  ·exact .inl h
  ·exact .inr ⟨h1,i,cap,c,t,h2,h3,by rw[hg rfl i (by rw[h2];rfl)];exact h4,h5,h6⟩
 |cells l u =>obtain⟨i,c,e,t,h2,h3,h4,h5⟩:=h;exact⟨i,c,e,t,h2,by rw[hg rfl i (by rw[h2];rfl)];exact h3,SRs.stale hp h1 l c h4,h5⟩
 |mapE kk vk m key n =>obtain⟨i,es,clock,r,e,h2,h3,h4⟩:=h;exact⟨i,es,clock,r,e,h2,by rw[hg rfl i (by rw[h2];rfl)];exact h3,h4⟩
 |map kk vk m =>obtain⟨i,es,clock,h2,h3,h4⟩:=h;exact⟨i,es,clock,h2,by rw[hg rfl i (by rw[h2];rfl)];exact h3,h4⟩
 |stk l vals=>exact SRs.stale hp h1 l vals h
 |deep ty q k xs nl hh=>exact DP.mono h (hg rfl)
 |iter kk vk m dn =>obtain⟨j,i,es,clock,wr,seen,h2,h3,h4⟩:=h;exact⟨j,i,es,clock,wr,seen,h2,by rw[hg rfl j (by rw[h2];rfl)];exact h3,h4⟩
 |lpf l q s=>exact⟨h.1,SRs.stale hp h1 l q.vals h.2.1,fun hl=>by rw[hg hl q.i (by rw[h.1];rfl)];exact h.2.2 hl⟩
theorem X1 (o:Nat):∀ (l:Own) (d:Nat),Q6 (L7 o l) d=(Q6 l d).stale o
 |[],_=>rfl
 |(k,b)::r,d=>by
  simp only[L7,Q6];by_cases h:k=d
  ·subst h;simp
  ·rw[QS h];exact X1 o r d
end
section
variable {P:Program}{B F:Heap}{pl:Nat→Value}{tb:Nat→Option Bool}{s:St}{env:Env}{σ σ':Heap}
theorem Gam.dput (h:Gam P B F pl tb s env σ) (o:Nat) (b:OB) (p:Value) (hle:F.Le σ') (h1:phd p=phd (pl o))
  (cA:∀ j i,j≠o→(Q6 s.own j).live=true→Oid (pl j) i→σ'.get i=σ.get i) (hb:OR P B (QO pl o p) tb σ' p b)
  (aT:∀ i,b.live=true→Oid p i→F.get i=none∧∀ j,j≠o→(Q6 s.own j).live=true→¬ Oid (pl j) i):Gam P B F (QO pl o p) tb (s.dput o b) env σ':=by
 have hp:∀ j,j≠o→QO pl o p j=pl j:=fun j hj=>by simp[QO,hj]
 have gh:phd (QO pl o p o)=phd (pl o):=by simpa [QO] using h1
 have hg:∀ j,Q6 (s.dput o b).own j=if j=o then b else (Q6 s.own j).stale o:=fun j=>by simp only[St.dput,Qb,X1]
 refine⟨h.bf,hle,SRs.stale hp gh _ _ h.env,fun j=>?_,fun j i hl hi=>?_,fun j j' i aF hl bN hi bU=>?_,h.free⟩
 ·rw[hg];by_cases hj:j=o
  ·subst hj;rw[if_pos rfl];simpa [QO] using hb
  ·rw[if_neg hj,hp j hj];exact(h.obj j).stale hp gh fun hl i hi=>cA j i hj hl hi
 ·rw[hg] at hl;by_cases hj:j=o
  ·subst hj;rw[if_pos rfl] at hl;simp only[QO,if_true] at hi;exact(aT i hl hi).1
  ·rw[if_neg hj,OB.live_stale] at hl;rw[hp j hj] at hi;exact h.fresh j i hl hi
 ·rw[hg] at hl bN;by_cases hj:j=o
  ·subst hj;rw[if_pos rfl] at hl;have bq:j'≠j:=fun e=>aF e.symm;rw[if_neg bq,OB.live_stale] at bN;rw[hp j' bq] at bU;simp only[QO,if_true] at hi;exact(aT i hl hi).2 j' bq bN bU
  ·rw[if_neg hj,OB.live_stale] at hl;rw[hp j hj] at hi;by_cases bq:j'=o
   ·subst bq;rw[if_pos rfl] at bN;simp only[QO,if_true] at bU;exact(aT i bN bU).2 j hj hl hi
   ·rw[if_neg bq,OB.live_stale] at bN;rw[hp j' bq] at bU;exact h.sep j j' i aF hl bN hi bU
theorem Em (pl:Nat→Value) (d:Nat):QO pl d (pl d)=pl:=by
 funext j;simp only[QO];split
 ·rename_i e;rw[e]
 ·rfl
theorem Gam.killed (h:Gam P B F pl tb s env σ) (o:Nat):Gam P B F pl tb (s.make o .dead) env σ:=by
 have:=h.make o .dead (pl o) h.le (fun _ _ _ _ _=>rfl) trivial fun i hl=>by cases hl
 rwa [Em] at this
theorem SS (s:St) (o:Nat) (b:OB) (j:Nat):Q6 (s.make o b).own j=if j=o then b else (Q6 s.own j).kill o:=by simp only[St.make,St.kill,Qb,XX];split<;>rfl
theorem Gam.kills:∀ {mv:List Nat}{s:St},Gam P B F pl tb s env σ→Gam P B F pl tb (s.kills mv) env σ
 |[],_,h=>h
 |o::_,s,h=>Gam.kills (s:=s.make o .dead) (h.killed o)
theorem XZ:∀ {mv:List Nat}{s:St}{j:Nat},(Q6 (s.kills mv).own j).live=true→(Q6 s.own j).live=true∧j∉mv
 |[],_,_,h=>⟨h,List.not_mem_nil⟩
 |o::mv,s,j,h=>by
  obtain⟨h1,h2⟩:=XZ (mv:=mv) (s:=s.make o .dead) h;rw[SS] at h1;by_cases e:j=o
  ·rw[if_pos e] at h1;cases h1
  ·rw[if_neg e,OB.live_kill] at h1;exact⟨h1,fun hm=>(List.mem_cons.1 hm).elim e h2⟩
theorem Y6:∀ {l:List Nat},CU l=true→l.Nodup
 |[],_=>List.nodup_nil
 |a::l,h=>by simp only[CU,Bool.and_eq_true,List.all_eq_true] at h;refine List.nodup_cons.2 ⟨fun hm=>?_,Y6 h.2⟩;have:=h.1 a hm;simp at this
theorem Rows.rowsO {H:Heap}{k:Kind}(f:k.flat=true) {xs:List k.T}{cs:List Value}(h:Rows (KC B k) xs cs):RowsO (fun x c is=>KO H none k x c is) xs cs []:=by
 induction h with
 |nil=>exact .nil
 |cons h _ ih=>exact .cons (is:=[]) (js:=[]) (KC.ko f (KC.flat f h)) ih
theorem KO.flat_nil {H:Heap}:∀ {k:Kind}{q:Option Nat}{x:k.T}{cs:List Value}{is:List Nat},k.flat=true→KO H q k x cs is→is=[]
 |.i _,_,_,_,_,_,h|.bo,_,_,_,_,_,h|.st,_,_,_,_,_,h=>by simp only[KO] at h;exact h.2
 |.list _,_,_,_,_,f,_=>by cases f
 |.pair a b,_,x,cs,is,f,h=>by simp only[Kind.flat,Bool.and_eq_true] at f;simp only[KO] at h;obtain⟨c1,c2,i1,i2,_,rfl,h1,h2⟩:=h;rw[KO.flat_nil f.1 h1,KO.flat_nil f.2 h2];rfl
theorem KO.nil {H:Heap}{q:Option Nat}{k:Kind}:KO H q (.list k) [] [.slice none 0 0] []:=by unfold KO;exact .inl ⟨rfl,rfl,rfl⟩
theorem Yn (hG:Gam P B F pl tb s env σ):∀ {k:Kind}{q:Option Nat}{l:List SV}{x:k.T}{mv:List Nat}{cs:List Value},K0 s.own q k l=some (x,mv)→mv.Nodup→SRs P B pl tb l cs →
  ∃ is,KO σ q k x cs is∧is.Nodup∧∀ i∈is,∃ m∈mv,(Q6 s.own m).live=true∧Oid (pl m) i
 |.i ik,q,l,x,mv,cs,h,_,hs=>by simp only[K0,Option.map_eq_some_iff] at h;obtain⟨y,h1,h2⟩:=h;obtain⟨rfl,rfl⟩:=Prod.mk.inj h2;exact⟨[],KC.ko rfl (KC.flat (h:=B) rfl (Qf h1 hs)),List.nodup_nil,fun i hi=>by cases hi⟩
 |.bo,q,l,x,mv,cs,h,_,hs=>by simp only[K0,Option.map_eq_some_iff] at h;obtain⟨y,h1,h2⟩:=h;obtain⟨rfl,rfl⟩:=Prod.mk.inj h2;exact⟨[],KC.ko rfl (KC.flat (h:=B) rfl (Qf h1 hs)),List.nodup_nil,fun i hi=>by cases hi⟩
 |.st,q,l,x,mv,cs,h,_,hs=>by simp only[K0,Option.map_eq_some_iff] at h;obtain⟨y,h1,h2⟩:=h;obtain⟨rfl,rfl⟩:=Prod.mk.inj h2;exact⟨[],KC.ko rfl (KC.flat (h:=B) rfl (Qf h1 hs)),List.nodup_nil,fun i hi=>by cases hi⟩
 |.pair a b,q,l,x,mv,cs,h,hn,hs=>by
  simp only[K0] at h;split at h
  ·rename_i x1 m x2 n h1 h2;obtain⟨rfl,rfl⟩:=Prod.mk.inj (osj h);have fC:=hs.take a.size;have dT:=hs.drop a.size;have fE:=List.nodup_append.1 hn;obtain⟨i1,k1,k2,k3⟩:=Yn hG h1 fE.1 fC;obtain⟨i2,g1,g2,g3⟩:=Yn hG h2 fE.2.1 dT;refine⟨i1++i2,?_,?_,fun i hi=>?_⟩
   ·simp only[KO];exact⟨_,_,i1,i2,(List.take_append_drop _ _).symm,rfl,k1,g1⟩
   ·refine List.nodup_append.2 ⟨k2,g2,fun i hi j hj e=>?_⟩;subst e;obtain⟨m1,a1,a2,a3⟩:=k3 i hi;obtain⟨m2,b1,b2,b3⟩:=g3 i hj;exact hG.sep m1 m2 i (fun e=>fE.2.2 m1 a1 m2 b1 e) a2 b2 a3 b3
   ·rcases List.mem_append.1 hi with hi|hi
    ·obtain⟨m1,a1,a2⟩:=k3 i hi;exact⟨m1,List.mem_append_left _ a1,a2⟩
    ·obtain⟨m1,a1,a2⟩:=g3 i hi;exact⟨m1,List.mem_append_right _ a1,a2⟩
  ·cases h
 |.list k,q,[],x,mv,cs,h,_,hs=>by simp[K0] at h
 |.list k,q,_::_::_,x,mv,cs,h,_,hs=>by simp[K0] at h
 |.list k,q,[v],x,mv,cs,h,_,hs=>by
  obtain⟨u,rfl,h1⟩:=hs.one;simp only[K0] at h;split at h
  ·obtain⟨rfl,rfl⟩:=Prod.mk.inj (osj h);simp only[SR] at h1;subst h1;exact⟨[],KO.nil,List.nodup_nil,fun i hi=>by cases hi⟩
  ·rename_i e;split at h
   ·rename_i ty k' xs nl ho;have ak:=hG.obj e;rw[ho] at ak;simp only[SR] at h1;cases hq:IZ q ty&&k.flat with
    |false=>rw[hq] at h;cases h
    |true =>
     rw[hq] at h;simp only[_root_.cond_true,Option.map_eq_some_iff] at h;obtain⟨ys,h2,h3⟩:=h;obtain rfl:=Ze h2;obtain rfl:=Zg h2;obtain⟨rfl,rfl⟩:=Prod.mk.inj h3;rw[Bool.and_eq_true] at hq;have eL:∀ t,q=some t→ty=t:=fun t e=>by subst e;have:=hq.1;simp only[IZ,Nat.beq_eq] at this;exact this.symm
     rcases ak with⟨_,rfl,h8⟩|⟨_,i,cap,c,t,h8,h4,h5,h6,h7⟩
     ·exact⟨[],by rw[h1.1,h8];exact KO.nil,List.nodup_nil,fun i hi=>by cases hi⟩
     ·refine⟨[i],?_,List.nodup_cons.2 ⟨List.not_mem_nil,List.nodup_nil⟩,fun j hj=>⟨e,List.mem_cons_self,by rw[ho];rfl,?_⟩⟩
      ·simp only[KO];exact .inr ⟨i,cap,c,_,t,[],by rw[h1.1,h8],rfl,h4,h5,rfl,eL,h6,h7.rowsO hq.2⟩
      ·obtain rfl:=List.mem_singleton.1 hj;rw[h8];rfl
   ·cases h
  ·rename_i e;split at h
   ·rename_i ty q' k' xs nl ho;have ak:=hG.obj e;rw[ho] at ak;simp only[SR,DR] at h1;cases hq:IZ q ty with
    |false=>rw[hq] at h;cases h
    |true =>
     rw[hq] at h;simp only[_root_.cond_true,Option.map_eq_some_iff] at h;obtain⟨ys,h2,h3⟩:=h;obtain rfl:=Ze h2;obtain rfl:=Zg h2;obtain⟨rfl,rfl⟩:=Prod.mk.inj h3;have eL:∀ t,q=some t→ty=t:=fun t e=>by subst e;simp only[IZ,Nat.beq_eq] at hq;exact hq.symm
     obtain⟨is,d1,d2,d3,d4⟩:=DP.open ak;refine⟨is,?_,d1,fun j hj=>⟨e,List.mem_cons_self,by rw[ho];rfl,(d3 j).2 hj⟩⟩;rw[h1.1];simp only[KO];rcases d2 with⟨rfl,h8,rfl⟩|⟨i,cap,c,t,js,h8,rfl,h4,h5,h6,h7⟩
     ·exact .inl ⟨rfl,by rw[h8],rfl⟩
     ·exact .inr ⟨i,cap,c,_,t,js,by rw[h8],rfl,h4,h5,rfl,eL,h6,h7.rowsO fun _ _ _ h=>h.weak⟩
   ·cases h
  ·cases h
def FrL (Ts:List Nat) (s s':St) (pl pl':Nat→Value) (σ σ':Heap):Prop :=
 ∀ q,q∉Ts→(Q6 s'.own q).live=(Q6 s.own q).live∧pl' q=pl q∧((Q6 s.own q).live=true→∀ i,Oid (pl q) i→σ'.get i=σ.get i)
theorem FrL.mono {Ts tu:List Nat}{s s':St}{pl pl':Nat→Value}{σ σ':Heap}(h:FrL Ts s s' pl pl' σ σ') (hs:∀ t∈Ts,t∈tu):FrL tu s s' pl pl' σ σ':=fun q hq=>h q fun h=>hq (hs q h)
theorem XN:∀ {mv:List Nat}{s:St}{j:Nat},j∉mv→(Q6 (s.kills mv).own j).live=(Q6 s.own j).live
 |[],_,_,_=>rfl
 |o::mv,s,j,h=>by have:=XN (mv:=mv) (s:=s.make o .dead) (j:=j) fun e=>h (List.mem_cons_of_mem _ e);rw[show s.kills (o::mv)=(s.make o .dead).kills mv from rfl,this,SS,if_neg fun e=>h (by rw[e];exact List.mem_cons_self),OB.live_kill]
theorem V6 {own:Own}:∀ {k:Kind}{q:Option Nat}{l:List SV}{x:k.T}{mv:List Nat},K0 own q k l=some (x,mv)→∀ m∈mv,m∈Pa l
 |.i ik,q,l,x,mv,h,m,hm|.bo,q,l,x,mv,h,m,hm|.st,q,l,x,mv,h,m,hm=>by simp only[K0,Option.map_eq_some_iff] at h;obtain⟨y,_,h2⟩:=h;obtain⟨rfl,rfl⟩:=Prod.mk.inj h2;cases hm
 |.pair a b,q,l,x,mv,h,m,hm=>by
  simp only[K0] at h;split at h
  ·rename_i x1 m1 x2 m2 h1 h2;obtain⟨rfl,rfl⟩:=Prod.mk.inj (osj h);have e:Pa l=Pa (l.take a.size)++Pa (l.drop a.size):=by
    unfold Pa;rw[←List.flatMap_append,List.take_append_drop]
   rw[e];rcases List.mem_append.1 hm with hm|hm
   ·exact List.mem_append_left _ (V6 h1 m hm)
   ·exact List.mem_append_right _ (V6 h2 m hm)
  ·cases h
 |.list k,q,[],x,mv,h,_,_=>by simp[K0] at h
 |.list k,q,_::_::_,x,mv,h,_,_=>by simp[K0] at h
 |.list k,q,[v],x,mv,h,m,hm=>by
  simp only[K0] at h;split at h
  ·obtain⟨rfl,rfl⟩:=Prod.mk.inj (osj h);cases hm
  ·split at h
   ·rename_i e _ ty k' xs nl ho;cases hq:IZ q ty&&k.flat with
    |false=>rw[hq] at h;cases h
    |true =>rw[hq] at h;simp only[_root_.cond_true,Option.map_eq_some_iff] at h;obtain⟨ys,_,h3⟩:=h;obtain⟨rfl,rfl⟩:=Prod.mk.inj h3;simpa [Pa,SV.thing] using hm
   ·cases h
  ·split at h
   ·rename_i e _ ty q' k' xs nl ho;cases hq:IZ q ty with
    |false=>rw[hq] at h;cases h
    |true =>rw[hq] at h;simp only[_root_.cond_true,Option.map_eq_some_iff] at h;obtain⟨ys,_,h3⟩:=h;obtain⟨rfl,rfl⟩:=Prod.mk.inj h3;simpa [Pa,SV.thing] using hm
   ·cases h
  ·cases h
theorem N1 (hG:Gam P B F pl tb s env σ) {mv js:List Nat}{d n0 ty cap:Nat}{q:Option Nat}{k:Kind}{xs:List k.T}{c:List Value}{e:El}{t:Bool}(hle:F.Le σ')
  (ia:∀ i∈js,∃ m,(m=d∨m∈mv)∧(Q6 s.own m).live=true∧Oid (pl m) i) (hn:js.Nodup) (nc:n0∉js) (hf:F.get n0=none) (cM:∀ j,j≠d→j∉mv→(Q6 s.own j).live=true→¬ Oid (pl j) n0)
  (bF:σ'.get n0=some (.cells c e true t)) (he:e=⟨k.size,ty⟩) (gS:∀ i∈js,σ'.get i=σ.get i) (cA:∀ j i,j≠d→j∉mv→(Q6 s.own j).live=true→Oid (pl j) i→σ'.get i=σ.get i)
  (a7:RowsH (KO σ q k) k.size none 0 xs (c.take (xs.length*k.size)) js) (cm:xs.length≤cap) (hc:cap*k.size≤c.length) :
  ∃ pl',(Gam P B F pl' tb ((s.kills mv).make d (.deep ty q k xs false none)) env σ'∧FrL (d::mv) s ((s.kills mv).make d (.deep ty q k xs false none)) pl pl' σ σ')∧SR P B pl' tb (.dd d .out) (.slice (some ⟨n0,0,none⟩) xs.length cap):=by
 have ib:DO σ' ty q k xs none (.slice (some ⟨n0,0,none⟩) xs.length cap) (n0::js):=.inr ⟨n0,cap,c,t,js,rfl,rfl,cm,by rw[bF,he],hc,a7.imp fun x c' fQ hr hj=>KO.imp hr fun i hi=>gS i (hj i hi)⟩;have fF:=Gr (v:=.slice (some ⟨n0,0,none⟩) xs.length cap) ib.cells;refine⟨QO pl d (mkP σ' (.slice (some ⟨n0,0,none⟩) xs.length cap) (n0::js)),⟨hG.kills.make d _ _ hle (fun j i hj hl hi=>?_) (DP.close (List.nodup_cons.2 ⟨nc,hn⟩) ib (by simp)) fun i _ hi=>?_,fun j hj=>?_⟩,?_⟩
 ·obtain⟨h1,h2⟩:=XZ hl;exact cA j i hj h2 h1 hi
 ·rcases List.mem_cons.1 ((fF i).1 hi) with rfl|hi
  ·exact⟨hf,fun j hj hl=>by obtain⟨h1,h2⟩:=XZ hl;exact cM j hj h2 h1⟩
  ·obtain⟨m,h1,h2,h3⟩:=ia i hi;refine⟨hG.fresh m i h2 h3,fun j hj hl ho=>?_⟩;obtain⟨h4,h5⟩:=XZ hl;exact hG.sep j m i (fun e=>by subst e;exact h1.elim hj h5) h4 h2 ho h3
 ·have h1:j≠d:=fun e=>hj (by rw[e];exact List.mem_cons_self);have h2:j∉mv:=fun e=>hj (List.mem_cons_of_mem _ e);exact⟨by rw[JI _ _ _ h1,XN h2],by simp[QO,h1],fun hl i hi=>cA j i h1 h2 hl hi⟩
 ·simp only[SR,DR,ZK];exact⟨rfl,_,_,_,rfl⟩
theorem SK (hG:Gam P B F pl tb s env σ) (mv:List Nat) (d ty:Nat) (q:Option Nat) (k:Kind) :
  ∃ pl',(Gam P B F pl' tb ((s.kills mv).make d (.deep ty q k [] true none)) env σ∧FrL (d::mv) s ((s.kills mv).make d (.deep ty q k [] true none)) pl pl' σ σ)∧SR P B pl' tb (.dd d .out) (.slice none 0 0):=by
 have ib:DO σ ty q k [] none (.slice none 0 0) []:=.inl ⟨rfl,rfl,rfl⟩;have fF:=Gr (v:=.slice none 0 0) ib.cells;refine⟨QO pl d (mkP σ (.slice none 0 0) []),⟨hG.kills.make d _ _ hG.le (fun _ _ _ _ _=>rfl) (DP.close List.nodup_nil ib (by simp)) fun i _ hi=>?_,fun j hj=>?_⟩,?_⟩
 ·cases (fF i).1 hi
 ·have h1:j≠d:=fun e=>hj (by rw[e];exact List.mem_cons_self);have h2:j∉mv:=fun e=>hj (List.mem_cons_of_mem _ e);exact⟨by rw[JI _ _ _ h1,XN h2],by simp[QO,h1],fun _ _ _=>rfl⟩
 ·simp only[SR,DR,ZK];exact⟨rfl,_,_,_,rfl⟩
theorem Y3 (hG:Gam P B F pl tb s env σ) {mv js:List Nat}{d ty cap:Nat}{q:Option Nat}{k:Kind}{xs:List k.T}{c:List Value}{e:El}{t:Bool}
  (ia:∀ i∈js,∃ m,(m=d∨m∈mv)∧(Q6 s.own m).live=true∧Oid (pl m) i) (hn:js.Nodup) (he:e=⟨k.size,ty⟩)
  (a7:RowsH (KO σ q k) k.size none 0 xs (c.take (xs.length*k.size)) js) (cm:xs.length≤cap) (hc:cap*k.size≤c.length) :
  ∃ pl',(Gam P B F pl' tb ((s.kills mv).make d (.deep ty q k xs false none)) env (σ.push (.cells c e true t))∧FrL (d::mv) s ((s.kills mv).make d (.deep ty q k xs false none)) pl pl' σ (σ.push (.cells c e true t)))∧SR P B pl' tb (.dd d .out) (.slice (some ⟨σ.n,0,none⟩) xs.length cap):=by
 have aj:∀ i∈js,i<σ.n:=fun i hi=>by obtain⟨m,_,h2,h3⟩:=ia i hi;exact(hG.obj m).id_lt h2 h3
 exact N1 hG (hG.le.push _) ia hn (fun h=>Nat.lt_irrefl _ (aj _ h)) hG.le.fresh (fun j _ _ hl ho=>Nat.lt_irrefl _ ((hG.obj j).id_lt hl ho)) (Heap.get_push_self _ _) he (fun i hi=>Heap.get_push_lt _ _ (aj i hi)) (fun j i _ _ hl hi=>Heap.get_push_lt _ _ ((hG.obj j).id_lt hl hi)) a7 cm hc
def D6 (P:Program) (B F:Heap) (tb:Nat→Option Bool) (o:VOp) (evV:Operand→Value) (env:Env) (σ:Heap) (K:SV→St→Prop) (Ts:List Nat) (s:St) (pl:Nat→Value):Prop :=
 ∃ u σ' pl' v s',Q5 o evV σ=some (u,σ')∧K v s'∧(Gam P B F pl' tb s' env σ'∧FrL Ts s s' pl pl' σ σ')∧SR P B pl' tb v u
section
variable {C:Cx}{d:Nat}{ev:Operand→SV}{evV:Operand→Value}{K:SV→St→Prop}
theorem TO (af:∀ x,SR P B pl tb (ev x) (evV x)) (hG:Gam P B F pl tb s env σ) {e:El}{z:List Value}{n:Nat}{ps:List (Nat×Operand)}(h:gnd C d (.buildSlice e z n ps) ev s K):D6 P B F tb (.buildSlice e z n ps) evV env σ K (JM d (.buildSlice e z n ps) ev) s pl:=by
 simp only[gnd] at h;split at h
 ·rename_i k _;split at h
  ·rename_i hc;obtain⟨az,hz⟩:=hc;have he:e=⟨k.size,e.ty⟩:=by cases e;simp only at az;rw[az]
   split at h
   ·obtain⟨pl',h1,h2⟩:=Y3 (q:=Qd C.el e.ty) (xs:=([]:List k.T)) (c:=[]) (cap:=0) (t:=true) (mv:=[]) (js:=[]) (d:=d) hG (fun i hi=>by cases hi) List.nodup_nil he ⟨by simp,rfl⟩ (Nat.le_refl _) (by simp);exact⟨_,_,pl',_,_,by rw[←show Ng 0 z=[] by rw[JP];rfl];rfl,h,⟨h1.1,h1.2.mono fun t ht=>by rw[List.mem_singleton.1 ht];exact List.mem_cons_self⟩,h2⟩
   ·rename_i x;split at h
    ·rename_i l hl;split at h
     ·rename_i y mv hy;cases hd:CU (d::mv) with
      |false=>rw[hd] at h;cases h
      |true =>
       rw[hd] at h;simp only[_root_.cond_true] at h;have fv:=List.nodup_cons.1 (Y6 hd);obtain⟨cs,h1,h2,_⟩:=Zx hl (af x);obtain⟨js,h3,h4,h5⟩:=Yn hG hy fv.2 h2;have hlen:=KC.length h3.kc;have fT:=KC.length (Z2 (h:=B) hz)
       obtain⟨pl',k1,k2⟩:=Y3 (q:=Qd C.el e.ty) (xs:=[y]) (c:=cs) (cap:=1) (t:=true) (mv:=mv) (d:=d) hG (fun i hi=>by obtain⟨m,a1,a2⟩:=h5 i hi;exact⟨m,.inr a1,a2⟩) h4 he
        ⟨cs,[],js,[],by simp[←hlen],by simp,by rw[if_neg (by simp)];exact h3,rfl,rfl⟩ (Nat.le_refl _) (by rw[hlen];simp)
       refine⟨_,_,pl',_,_,?_,h,⟨k1.1,k1.2.mono fun t ht=>?_⟩,k2⟩
       rotate_left
       ·rcases List.mem_cons.1 ht with rfl|ht
        ·exact List.mem_cons_self
        ·exact List.mem_cons_of_mem _ (by simp only[List.flatMap_cons,hl];exact List.mem_append_left _ (V6 hy t ht))
       have e1:Ng 1 z=z:=by rw[JP];simp
       have e2:Jc z 0 cs=cs:=by rw[Jv (by omega),Nat.zero_add,List.take_zero,List.nil_append,List.drop_of_length_le (by omega),List.append_nil]
       simp only[Q5,e1,List.map_cons,List.map_nil,YZ,h1,Nat.zero_mul];rw[if_pos ⟨by omega,by omega⟩,e2];rfl
     ·cases h
    ·cases h
   ·cases h
  ·cases h
 ·cases h
theorem RN (af:∀ x,SR P B pl tb (ev x) (evV x)) (hG:Gam P B F pl tb s env σ) {e:El}{bytes:Nat}{z:List Value}{l c:Operand}(h:gnd C d (.makeSlice e bytes z l c) ev s K):D6 P B F tb (.makeSlice e bytes z l c) evV env σ K (JM d (.makeSlice e bytes z l c) ev) s pl:=by
 simp only[gnd] at h;split at h
 ·rename_i k k1 a k2 b _ h1 h2;have e1:=QQ h1 (af l);have e2:=QQ h2 (af c);split at h
  ·rename_i hc;obtain⟨az,hz⟩:=hc;have he:e=⟨k.size,e.ty⟩:=by cases e;simp only at az;rw[az]
   simp only[Ns,Fo] at h;obtain⟨k3,k4,k5,k6,h⟩:=h;have hR:∀ x c is,KO σ (Qd C.el e.ty) k x c is→c.length=k.size:=KO.rows_len;have bk:RowsH (KO σ (Qd C.el e.ty) k) k.size none 0 (List.replicate b.toNat k.dflt) (Ng b.toNat z) []:=by rw[JP];exact RowsH.replicate (Dk hz) _ _
   have cg:=bk.length hR;rw[List.length_replicate] at cg;have ht:=bk.take hR a.toNat;rw[List.take_replicate,Nat.min_eq_left (by omega)] at ht;obtain⟨pl',g1,g2⟩:=Y3 (q:=Qd C.el e.ty) (xs:=List.replicate a.toNat k.dflt) (c:=Ng b.toNat z) (cap:=b.toNat) (t:=true) (mv:=[]) (js:=[]) (d:=d) hG (fun i hi=>by cases hi) List.nodup_nil he (by rw[List.length_replicate];exact ht) (by simp;omega) (by rw[cg];exact Nat.le_refl _);refine⟨_,_,pl',_,_,?_,h,⟨g1.1,g1.2.mono fun t ht=>(by rw[List.mem_singleton.1 ht];exact List.mem_cons_self)⟩,g2⟩;simp only[Q5,e1,e2,List.length_replicate];rw[if_pos ⟨k3,k4,by simpa using k5,by simpa using k6⟩]
  ·cases h
 ·cases h
theorem DO.sl {ty:Nat}{q:Option Nat}{k:Kind}{xs:List k.T}{v:Value}{is:List Nat}(hd:DO σ ty q k xs none v is) (hn:is.Nodup) :
  ∃ a cap cs js,v=.slice a xs.length cap∧σ.sl k.size v=some cs∧RowsH (KO σ q k) k.size none 0 xs cs js∧(∀ i∈js,i∈is)∧js.Nodup∧cs.all cellOk=true∧cs.length=xs.length*k.size:=by
 rcases hd with⟨rfl,rfl,rfl⟩|⟨i,cap,c,t,js,rfl,rfl,h1,h3,h4,h5⟩
 ·exact⟨_,_,[],[],rfl,rfl,⟨rfl,rfl⟩,fun i hi=>hi,List.nodup_nil,rfl,by simp⟩
 ·have hl:=h5.length KO.rows_len;refine⟨_,_,c.take (xs.length*k.size),js,rfl,?_,h5,fun i hi=>List.mem_cons_of_mem _ hi,(List.nodup_cons.1 hn).2,(h5.rows (R':=KC σ k) fun _ _ _ h=>h.kc).cellOk,hl⟩;have:=Nat.mul_le_mul_right k.size h1;simp only[Heap.sl,h3];rw[if_pos ⟨trivial,by omega⟩];simp
theorem GK {α:Type}{l:List α}(h:l≠[]):l.isEmpty=false:=by cases l<;>first|rfl|exact absurd rfl h
theorem Re (af:∀ x,SR P B pl tb (ev x) (evV x)) (hG:Gam P B F pl tb s env σ) {e:El}{bytes:Nat}{x y:Operand}{o:Nat}{kr:Kind}{lr:List kr.T}{i:Int}{ty:Nat}{q:Option Nat}{k':Kind}{xs:List (Kind.list k').T}{nl:Bool}{ys:List k'.T}
  (hx:ev x=.dd o (.row kr lr i)) (ho:Q6 s.own o=.deep ty q (.list k') xs nl none) (hq:q=some e.ty) (az:k'.size=e.sz) (hy:view s.own k' (ev y)=some ys) (hf:k'.flat=true) (tv:o≠d)
  (hb:((xs.getD i.toNat []).length+ys.length)*bytes≤70368744177664) (aF:ys≠[]) (h:K (.lst d) ((s.dput o (.deep ty q (.list k') xs nl (some i.toNat))).make d (.lst e.ty k' (xs.getD i.toNat []++ys) false))) :
  D6 P B F tb (.append e bytes x y) evV env σ K (JM d (.append e bytes x y) ev) s pl:=by
 have ha:=af x;rw[hx] at ha;simp only[SR,DR] at ha;obtain⟨tl,bh,b,len,cap,c,e0,t,g1,g2,g3,g4,g5⟩:=ha;obtain⟨cs,ay,qZ,aB,a7,pR⟩:=(Jt hG.leB hG.obj hy (af y)).sl;have al:cs.all cellOk=true:=a7.cellOk;have cg:=a7.length KC.rows_len;rw[az] at aB;have ak:=hG.obj o;rw[ho] at ak;have ah:(Q6 s.own o).live=true:=by rw[ho];rfl
 have hle:=DP.le ak;have lX:nl=true↔phd (pl o)=.slice none 0 0:=by obtain⟨_,_,_,_,_,_,h⟩:=ak;exact h
 obtain⟨is,d1,d2,d3,_⟩:=DP.open ak;rcases d2 with⟨_,h8,_⟩|⟨b',au,c',t',js,h8,rfl,h4,h5,h6,h7⟩
 ·rw[g1] at h8;cases h8
 rw[g1] at h8;obtain⟨rfl,rfl,rfl⟩:=(by simpa using h8:b=b'∧len=xs.length∧cap=au);have dj:c'=c:=by have:=hle.2 _ _ g4;rw[h5] at this;cases this;rfl
 subst dj;have hi:i.toNat<xs.length:=by omega
 have fC:(Kind.list k').size=1:=rfl;rw[fC] at h6 h7;simp only[Nat.mul_one] at h6 h7;have dC:xs.getD i.toNat []=xs[i.toNat]:=by rw[List.getD_eq_getElem?_getD,List.getElem?_eq_getElem hi];rfl
 have aR:((c'.take xs.length).drop (i.toNat*1)).take 1=[evV x]:=by
  apply List.ext_getElem?;intro j;simp only[Nat.mul_one,List.getElem?_take,List.getElem?_drop];cases j with
  |zero=>simp only[Nat.add_zero];rw[if_pos (by omega),if_pos (by omega),g5];rfl
  |succ j=>rw[if_neg (by omega)];rfl
 obtain⟨dh,ix,di,rfl,k1,k2⟩:=RowsH.set (sz:=1) (h':=some i.toNat) (x:=xs[i.toNat]) (c':=[evV x]) (inew:=[]) (KO.rows_len (k:=.list k')) h7 hi (fun m hm=>by
  rw[Nat.zero_add];constructor
  ·intro h;cases h
  ·intro h;exact absurd (osj h).symm hm) rfl (by rw[Nat.zero_add,if_pos rfl])
 rw[if_neg (by simp),aR] at k2;have df:(c'.take xs.length).take (i.toNat*1)++[evV x]++(c'.take xs.length).drop (i.toNat*1+1)=c'.take xs.length:=by rw[←aR,List.append_assoc,←List.drop_drop,List.take_append_drop,List.take_append_drop]
 rw[df,List.set_getElem_self] at k1;have iw:=List.nodup_cons.1 d1;have jc:=List.nodup_append.1 iw.2;have lY:=List.nodup_append.1 jc.1;have ib:DO σ ty q (.list k') xs (some i.toNat) (phd (pl o)) (b::(dh++[]++di)):=.inr ⟨b,cap,c',t',_,g1,rfl,h4,h5,by rw[fC,Nat.mul_one];exact h6,by rw[fC,Nat.mul_one];exact k1⟩;have lZ:=ib;rw[List.append_nil] at lZ;have q7:(b::(dh++di)).Nodup:=by
  refine List.nodup_cons.2 ⟨fun h=>iw.1 ?_,List.nodup_append.2 ⟨lY.1,jc.2.1,fun a ha c hc=>jc.2.2 a (List.mem_append_left _ ha) c hc⟩⟩;rcases List.mem_append.1 h with h|h
  ·exact List.mem_append_left _ (List.mem_append_left _ h)
  ·exact List.mem_append_right _ h
 have jd:=Gr (v:=phd (pl o)) lZ.cells;have fw:∀ j∈b::(dh++di),j∈b::(dh++ix++di)∧j∉ix:=fun j hj=>by
  rcases List.mem_cons.1 hj with rfl|hj
  ·exact⟨List.mem_cons_self,fun h=>iw.1 (List.mem_append_left _ (List.mem_append_right _ h))⟩
  ·rcases List.mem_append.1 hj with hj|hj
   ·exact⟨List.mem_cons_of_mem _ (List.mem_append_left _ (List.mem_append_left _ hj)),fun h=>lY.2.2 j hj j h rfl⟩
   ·exact⟨List.mem_cons_of_mem _ (List.mem_append_right _ hj),fun h=>jc.2.2 j (List.mem_append_right _ h) j hj rfl⟩
 have q8:Gam P B F (QO pl o (mkP σ (phd (pl o)) (b::(dh++di)))) tb (s.dput o (.deep ty q (.list k') xs nl (some i.toNat))) env σ:=by refine hG.dput o _ _ hG.le (Rf _ _ _) (fun _ _ _ _ _=>rfl) (DP.close q7 lZ lX) fun j _ hj=>?_;have hj:=(d3 j).2 (fw j ((jd j).1 hj)).1;exact⟨hG.fresh o j ah hj,fun j' bq hl cC=>hG.sep j' o j bq hl ah cC hj⟩
 have l4:∀ j,j≠d→(Q6 (s.dput o (.deep ty q (.list k') xs nl (some i.toNat))).own j).live=true→(j=o∨(Q6 s.own j).live=true):=fun j _ hl=>by
  by_cases e:j=o
  ·exact .inl e
  ·simp only[St.dput,Qb,X1,if_neg e,OB.live_stale] at hl;exact .inr hl
 have gQ:∀ j∈ix,F.get j=none∧∀ j',j'≠d→(Q6 (s.dput o (.deep ty q (.list k') xs nl (some i.toNat))).own j').live=true→¬ Oid (QO pl o (mkP σ (phd (pl o)) (b::(dh++di))) j') j:=fun j hj=>by
  have du:=(d3 j).2 (List.mem_cons_of_mem _ (List.mem_append_left _ (List.mem_append_right _ hj)));refine⟨hG.fresh o j ah du,fun j' pV hl cC=>?_⟩;rcases l4 j' pV hl with rfl|bN
  ·simp only[QO,if_true] at cC;exact(fw j ((jd j).1 cC)).2 hj
  ·by_cases e:j'=o
   ·subst e;simp only[QO,if_true] at cC;exact(fw j ((jd j).1 cC)).2 hj
   ·simp only[QO,if_neg e] at cC;exact hG.sep j' o j e bN ah cC du
 have base:Q5 (.append e bytes x y) evV σ=Zl e bytes σ (evV x) ys.length cs:=by simp only[Q5,pR] at aB ⊢;simp only[aB,al,if_true]
 have he:e=⟨k'.size,e.ty⟩:=by cases e;simp only at az;rw[az]
 have dx:ys.length≠0:=fun e=>aF (List.length_eq_zero_iff.1 e);rw[dC] at hb h
 have fin:∀ (σ':Heap) (n0 ic:Nat) (c0:List Value) (t0:Bool),F.Le σ'→Zl e bytes σ (evV x) ys.length cs=some (.slice (some ⟨n0,0,none⟩) (xs[i.toNat]++ys).length ic,σ')→(xs[i.toNat]++ys).length≤ic→σ'.get n0=some (.cells c0 ⟨k'.size,e.ty⟩ true t0)→ic*k'.size≤c0.length→Rows (KC B k') (xs[i.toNat]++ys) (c0.take ((xs[i.toNat]++ys).length*k'.size)) →
   (n0=σ.n∨n0∈ix)→(∀ j,j<σ.n→j∉ix→σ'.get j=σ.get j)→D6 P B F tb (.append e bytes x y) evV env σ K (JM d (.append e bytes x y) ev) s pl:=by
  intro σ' n0 ic c0 t0 f1 f2 f3 f4 f5 f6 f7 f8;refine⟨_,σ',QO (QO pl o (mkP σ (phd (pl o)) (b::(dh++di)))) d (.slice (some ⟨n0,0,none⟩) (xs[i.toNat]++ys).length ic),_,_,by rw[base];exact f2,h,⟨q8.make d _ _ f1 (fun j i' hj hl hi=>?_) (.inr ⟨rfl,n0,ic,c0,t0,rfl,f3,f4,f5,f6⟩) fun i' _ hi=>?_,fun j hj=>?_⟩,?_⟩
  ·exact f8 i' ((q8.obj j).id_lt hl hi) fun hx=>(gQ i' hx).2 j hj hl hi
  ·obtain rfl:=osj hi;rcases f7 with rfl|f7
   ·exact⟨hG.le.fresh,fun j _ hl hi=>Nat.lt_irrefl _ ((q8.obj j).id_lt hl hi)⟩
   ·exact gQ _ f7
  ·have pV:j≠d:=fun e=>hj (by rw[e];exact List.mem_cons_self);have du:j≠o:=fun e=>hj (by simp only[JM,hx,SV.thing];exact List.mem_cons_of_mem _ (List.mem_append_left _ (by rw[e];exact List.mem_cons_self)));refine⟨by rw[JI _ _ _ pV];simp only[St.dput,Qb,X1,if_neg du,OB.live_stale],by simp[QO,pV,du],fun hl i' hi=>f8 i' ((hG.obj j).id_lt hl hi) fun hx=>?_⟩;exact hG.sep j o i' du hl ah hi ((d3 i').2 (List.mem_cons_of_mem _ (List.mem_append_left _ (List.mem_append_right _ hx))))
  ·simp only[SR,ZK];exact⟨trivial,_,_,_,rfl⟩
 simp only[KO] at k2;rcases k2 with⟨m1,m2,m3⟩|⟨r,gm,rc,re,rt,fQ,m1,rfl,m3,m4,m5,m6,m7,m8⟩
 ·
  obtain m2:=(List.cons.inj m2).1;rw[m2] at fin;rw[m1] at hb fin;simp only[List.length_nil,Nat.zero_add] at hb;refine fin (σ.push (.cells cs e true false)) σ.n ys.length cs false (hG.le.push _) ?_ (by simp) (by rw[Heap.get_push_self,he]) (by omega) (by rw[List.nil_append,List.take_of_length_le (by omega)];exact a7) (.inl rfl) fun j hj _=>Heap.get_push_lt _ _ hj;simp only[Zl];rw[if_neg dx,if_pos (by simpa using hb)];rfl
 ·obtain m1:=(List.cons.inj m1).1;rw[m1] at fin;have q_:Rows (KC B k') xs[i.toNat] (rc.take (xs[i.toNat].length*k'.size)):=by
   have key:∀ {xs:List k'.T}{cs:List Value}{js:List Nat},RowsO (fun x c is=>KO σ none k' x c is) xs cs js→Rows (KC B k') xs cs:=fun h=>by
    induction h with
    |nil=>exact .nil
    |cons h _ ih=>exact .cons (KC.flat hf h.kc) ih
   exact key m8
  have eZ:Rows (KC B k') (xs[i.toNat]++ys) (rc.take (xs[i.toNat].length*k'.size)++cs):=q_.append a7;have cJ:=eZ.length KC.rows_len;have wA:re=e:=by have h9:=m6 e.ty hq;cases re;cases e;simp only at m5 h9 az ⊢;rw[m5,h9,az]
  subst wA;have q1:xs[i.toNat].length*k'.size≤gm*k'.size:=Nat.mul_le_mul_right _ m3;simp only[Zl,m4] at fin;rw[if_pos ⟨trivial,m3,by rw[←az];omega⟩,if_neg dx] at fin;by_cases aJ:xs[i.toNat].length+ys.length≤gm
  ·have eu:(xs[i.toNat].length+ys.length)*k'.size≤gm*k'.size:=Nat.mul_le_mul_right _ aJ;have dy:xs[i.toNat].length*k'.size+ys.length*k'.size≤gm*k'.size:=by rw[←Nat.add_mul];exact eu
   rw[if_pos aJ,if_pos ⟨trivial,by rw[←az];omega⟩] at fin;refine fin (σ.upd r (.cells (Jc rc (0+xs[i.toNat].length*re.sz) cs) re true rt)) r gm (Jc rc (0+xs[i.toNat].length*re.sz) cs) rt (hG.le.upd (gQ r List.mem_cons_self).1 _) (by rw[List.length_append]) (by rw[List.length_append];exact aJ) (by rw[Heap.get_upd_self _ _ (σ.lt m4),←he]) (by rw[QX];exact m7) ?_ (.inr List.mem_cons_self) fun j _ hj=>Heap.get_upd_ne _ _ fun e=>hj (by rw[e];exact List.mem_cons_self);have dJ:0+xs[i.toNat].length*re.sz+cs.length≤rc.length:=by rw[←az];omega
   rw[Jv dJ,←az,Nat.zero_add,List.take_left' (by rw[cJ])];exact eZ
  ·rw[if_neg aJ,if_pos (by simpa using hb)] at fin;have df:((rc.drop 0).take (xs[i.toNat].length*re.sz)++cs)=rc.take (xs[i.toNat].length*k'.size)++cs:=by rw[List.drop_zero,az]
   rw[df] at fin;cases rt with
   |true =>simp only[if_true] at fin;refine fin (σ.push (.cells (rc.take (xs[i.toNat].length*k'.size)++cs) re true false)) σ.n _ (rc.take (xs[i.toNat].length*k'.size)++cs) false (hG.le.push _) (by rw[List.length_append]) (Nat.le_of_eq (List.length_append)) (by rw[Heap.get_push_self,←he]) (by rw[cJ,List.length_append];exact Nat.le_refl _) (by rw[List.take_of_length_le (by rw[cJ];exact Nat.le_refl _)];exact eZ) (.inl rfl) fun j hj _=>Heap.get_push_lt _ _ hj
   |false =>simp only[Bool.false_eq_true,if_false,if_true] at fin;refine fin ((σ.kill r).push (.cells (rc.take (xs[i.toNat].length*k'.size)++cs) re true false)) σ.n _ (rc.take (xs[i.toNat].length*k'.size)++cs) false ((hG.le.kill (gQ r List.mem_cons_self).1).push _) (by rw[List.length_append]) (Nat.le_of_eq (List.length_append)) (by rw[←show (σ.kill r).n=σ.n from rfl,Heap.get_push_self,←he]) (by rw[cJ,List.length_append];exact Nat.le_refl _) (by rw[List.take_of_length_le (by rw[cJ];exact Nat.le_refl _)];exact eZ) (.inl rfl) fun j hj hx=>?_;rw[Heap.get_push_lt _ _ (show j<(σ.kill r).n from hj)];exact Heap.get_kill_ne _ fun e=>hx (by rw[e];exact List.mem_cons_self)
theorem M6 (af:∀ x,SR P B pl tb (ev x) (evV x)) (hG:Gam P B F pl tb s env σ) {e:El}{bytes:Nat}{x y:Operand}{b ty:Nat}{q:Option Nat}{k:Kind}{ys:List k.T}{ra:Bool}
  (hy:ev y=.dd b .out) (ho:Q6 s.own b=.deep ty q k ys ra none) (eL:ty=e.ty) (az:k.size=e.sz) :
  ∃ cs js,Q5 (.append e bytes x y) evV σ=Zl e bytes σ (evV x) ys.length cs∧RowsH (KO σ q k) k.size none 0 ys cs js∧js.Nodup∧(∀ i∈js,Oid (pl b) i)∧cs.length=ys.length*k.size∧e=⟨k.size,ty⟩∧(Q6 s.own b).live=true:=by
 have hb:=af y;rw[hy] at hb;simp only[SR,DR] at hb;have ak:=hG.obj b;rw[ho] at ak;obtain⟨is,d1,d2,d3,d4⟩:=DP.open ak;obtain⟨a,cap,cs,js,k1,k2,k3,k4,k5,k6,k7⟩:=d2.sl d1;rw[az] at k2;refine⟨cs,js,?_,k3,k5,fun i hi=>(d3 i).2 (k4 i hi),k7,by cases e;simp only at eL az;rw[eL,az],by rw[ho];rfl⟩;have e1:evV y=.slice a ys.length cap:=by rw[hb.1,k1]
 rw[k1] at k2;simp only[Q5,e1,k2,k6,if_true]
theorem FM (af:∀ x,SR P B pl tb (ev x) (evV x)) (hG:Gam P B F pl tb s env σ) {e:El}{bytes:Nat}{x y:Operand}(h:gnd C d (.append e bytes x y) ev s K):D6 P B F tb (.append e bytes x y) evV env σ K (JM d (.append e bytes x y) ev) s pl:=by
 have ha:=af x;simp only[gnd] at h;split at h
 ·rename_i b hx hy;rw[hx] at ha;simp only[SR] at ha;split at h
  ·rename_i ty q k ys ra ho;split at h
   ·rename_i hc;obtain⟨eL,az⟩:=hc;cases hn:CU [d,b] with
    |false=>rw[hn] at h;cases h
    |true =>
     rw[hn] at h;simp only[_root_.cond_true,Ns,Fo] at h;obtain⟨hb,h⟩:=h;have sub:∀ t∈[d,b],t∈JM d (.append e bytes x y) ev:=fun t ht=>by simpa [JM,hx,hy,SV.thing] using ht
     obtain⟨cs,js,base,r1,r2,r3,r4,r5,r6⟩:=M6 (bytes:=bytes) (x:=x) af hG hy ho eL az;rw[ha] at base;by_cases hm:ys=[]
     ·subst hm;obtain⟨pl',k1,k2⟩:=SK hG [b] d ty q k;exact⟨_,_,pl',_,_,by rw[base];rfl,h,⟨k1.1,k1.2.mono sub⟩,k2⟩
     ·have dx:ys.length≠0:=fun e=>hm (List.length_eq_zero_iff.1 e);obtain⟨pl',k1,k2⟩:=Y3 (mv:=[b]) (d:=d) (c:=cs) (cap:=ys.length) (t:=false) hG (fun i hi=>⟨b,.inr List.mem_cons_self,r6,r3 i hi⟩) r2 r5 (by rw[List.take_of_length_le (by omega)];exact r1) (Nat.le_refl _) (by omega);refine⟨_,_,pl',_,_,?_,h,by rw[GK hm];exact⟨k1.1,k1.2.mono sub⟩,k2⟩;rw[base];simp only[Zl];rw[if_neg dx,if_pos (by simpa using hb)]
   ·cases h
  ·cases h
 ·rename_i o b hx hy;rw[hx] at ha;simp only[SR,DR] at ha;split at h
  ·rename_i ty q k xs nl iZ q' k' ys ra mV ld;split at h
   ·rename_i hc;obtain⟨rb,oD,az,rfl⟩:=hc;split at h
    ·rename_i gp fD;obtain rfl:=Ze fD;obtain rfl:=Zg fD;cases hn:CU [o,b] with
     |false=>rw[hn] at h;cases h
     |true =>
      rw[hn] at h;simp only[_root_.cond_true,Ns,Fo] at h;obtain⟨hb,h⟩:=h;have je:o≠b:=fun e=>by have:=(List.nodup_cons.1 (Y6 hn)).1;exact this (by rw[e];exact List.mem_cons_self)
      have sub:∀ t∈[o,b],t∈JM d (.append e bytes x y) ev:=fun t ht=>by
       have:t=o∨t=b:=by simpa using ht
       simp only[JM,hx,hy,SV.thing];exact List.mem_cons_of_mem _ (by simpa using this)
      obtain⟨cs,js,base,r1,r2,r3,r4,r5,r6⟩:=M6 (bytes:=bytes) (x:=x) af hG hy ld oD az;have ak:=hG.obj o;rw[mV] at ak;have ah:(Q6 s.own o).live=true:=by rw[mV];rfl
      obtain⟨is,d1,d2,d3,d4⟩:=DP.open ak;have oE:iZ=ty:=oD.trans rb.symm;subst oE;rcases d2 with⟨rfl,h8,rfl⟩|⟨i,cap,c,t,kK,h8,rfl,h4,h5,h6,h7⟩
      ·have gY:nl=true:=d4.2 h8;subst gY;rw[ha.1,h8] at base;simp only[List.length_nil,Nat.zero_add] at hb;by_cases hm:gp=[]
       ·subst hm;obtain⟨pl',k1,k2⟩:=SK hG [b] o iZ q k';exact⟨_,_,pl',_,_,by rw[base];rfl,h,⟨k1.1,k1.2.mono sub⟩,k2⟩
       ·have dx:gp.length≠0:=fun e=>hm (List.length_eq_zero_iff.1 e);obtain⟨pl',k1,k2⟩:=Y3 (mv:=[b]) (d:=o) (c:=cs) (cap:=gp.length) (t:=false) hG (fun i hi=>⟨b,.inr List.mem_cons_self,r6,r3 i hi⟩) r2 r5 (by rw[List.take_of_length_le (by omega)];exact r1) (Nat.le_refl _) (by omega);rw[GK hm] at h;refine⟨_,_,pl',_,_,?_,h,⟨k1.1,k1.2.mono sub⟩,k2⟩;rw[base];simp only[Zl];rw[if_neg dx,if_pos (by simpa using hb)]
      ·have gY:nl=false:=by
        cases nl with
        |false=>rfl
        |true=>rw[d4.1 rfl] at h8;cases h8
       subst gY;rw[Bool.and_false] at h;rw[ha.1,h8] at base;have aT:F.get i=none:=hG.fresh o i ah ((d3 i).2 List.mem_cons_self);have fv:=List.nodup_cons.1 d1;have ia:∀ j∈kK++js,∃ m,(m=o∨m∈[b])∧(Q6 s.own m).live=true∧Oid (pl m) j:=fun j hj=>by
        rcases List.mem_append.1 hj with hj|hj
        ·exact⟨o,.inl rfl,ah,(d3 j).2 (List.mem_cons_of_mem _ hj)⟩
        ·exact⟨b,.inr List.mem_cons_self,r6,r3 j hj⟩
       have fE:(kK++js).Nodup:=List.nodup_append.2 ⟨fv.2,r2,fun j hj j' bq e=>by
        subst e;exact hG.sep o b j je ah r6 ((d3 j).2 (List.mem_cons_of_mem _ hj)) (r3 j bq)⟩
       have nc:i∉kK++js:=fun hj=>(List.mem_append.1 hj).elim fv.1 fun hj=>hG.sep o b i je ah r6 ((d3 i).2 List.mem_cons_self) (r3 i hj);have cM:∀ j,j≠o→j∉[b]→(Q6 s.own j).live=true→¬ Oid (pl j) i:=fun j hj _ hl hi=>hG.sep j o i hj hl ah hi ((d3 i).2 List.mem_cons_self);have q1:xs.length*k'.size≤cap*k'.size:=Nat.mul_le_mul_right _ h4;have eZ:RowsH (KO σ q k') k'.size none 0 (xs++gp) (c.take (xs.length*k'.size)++cs) (kK++js):=h7.append r1;have cJ:=eZ.length KO.rows_len;have aj:∀ {j},j∈kK++js→j<σ.n:=fun hj=>by obtain⟨m,_,h2,h3⟩:=ia _ hj;exact(hG.obj m).id_lt h2 h3
       simp only[Zl,h5] at base;rw[←r5,if_pos ⟨rfl,h4,by rw[←az];omega⟩] at base;by_cases hm:gp=[]
       ·subst hm;simp only[List.length_nil,if_true] at base;have rf:RowsH (KO σ q k') k'.size none 0 (xs++[]) (c.take ((xs++[]).length*k'.size)) (kK++js):=by
         have qb:cs=[]:=List.length_eq_zero_iff.1 (by rw[r4];simp);subst qb;rw[List.append_nil] at eZ;simpa using eZ
        obtain⟨pl',k1,k2⟩:=N1 (mv:=[b]) (d:=o) (n0:=i) (cap:=cap) hG hG.le ia fE nc aT cM h5 rfl (fun _ _=>rfl) (fun _ _ _ _ _ _=>rfl) rf (by simpa using h4) h6;refine⟨_,_,pl',_,_,?_,h,⟨k1.1,k1.2.mono sub⟩,k2⟩;rw[base];simp
       ·have dx:gp.length≠0:=fun e=>hm (List.length_eq_zero_iff.1 e);rw[if_neg dx] at base;by_cases aJ:xs.length+gp.length≤cap
        ·have eu:(xs.length+gp.length)*k'.size≤cap*k'.size:=Nat.mul_le_mul_right _ aJ;have dy:xs.length*k'.size+gp.length*k'.size≤cap*k'.size:=by rw[←Nat.add_mul];exact eu
         rw[if_pos aJ,if_pos ⟨trivial,by rw[←az];omega⟩] at base;have aV:RowsH (KO σ q k') k'.size none 0 (xs++gp) ((Jc c (0+xs.length*e.sz) cs).take ((xs++gp).length*k'.size)) (kK++js):=by
          have dJ:0+xs.length*e.sz+cs.length≤c.length:=by rw[←az];omega
          rw[Jv dJ,←az,Nat.zero_add,List.take_left' (by rw[cJ])];exact eZ
         obtain⟨pl',k1,k2⟩:=N1 (σ':=σ.upd i (.cells (Jc c (0+xs.length*e.sz) cs) e true t)) (mv:=[b]) (d:=o) (n0:=i) (cap:=cap) hG (hG.le.upd aT _) ia fE nc aT cM (Heap.get_upd_self _ _ (σ.lt h5)) r5
          (fun j hj=>Heap.get_upd_ne _ _ fun e=>nc (by rw[←e];exact hj)) (fun j i' hj dR hl hi=>Heap.get_upd_ne _ _ fun e=>cM j hj dR hl (by rw[←e];exact hi)) aV (by rw[List.length_append];exact aJ) (by rw[QX];exact h6)
         exact⟨_,_,pl',_,_,by rw[base,List.length_append],h,⟨k1.1,k1.2.mono sub⟩,k2⟩
        ·rw[if_neg aJ,if_pos (by simpa using hb)] at base;have df:((c.drop 0).take (xs.length*e.sz)++cs)=c.take (xs.length*k'.size)++cs:=by rw[List.drop_zero,az]
         rw[df] at base;have tw:RowsH (KO σ q k') k'.size none 0 (xs++gp) ((c.take (xs.length*k'.size)++cs).take ((xs++gp).length*k'.size)) (kK++js):=by rw[List.take_of_length_le (by rw[cJ];exact Nat.le_refl _)];exact eZ
         cases t with
         |true =>simp only[if_true] at base;obtain⟨pl',k1,k2⟩:=Y3 (mv:=[b]) (d:=o) (c:=c.take (xs.length*k'.size)++cs) (cap:=(xs++gp).length) (t:=false) hG ia fE r5 tw (Nat.le_refl _) (by rw[cJ];exact Nat.le_refl _);exact⟨_,_,pl',_,_,by rw[base,List.length_append],h,⟨k1.1,k1.2.mono sub⟩,k2⟩
         |false =>
          simp only[Bool.false_eq_true,if_false,if_true] at base;have hn:(σ.kill i).n=σ.n:=rfl
          obtain⟨pl',k1,k2⟩:=N1 (σ':=(σ.kill i).push (.cells (c.take (xs.length*k'.size)++cs) e true false)) (mv:=[b]) (d:=o) (n0:=σ.n) (cap:=(xs++gp).length) hG ((hG.le.kill aT).push _) ia fE (fun h=>Nat.lt_irrefl _ (aj h)) hG.le.fresh (fun j _ _ hl ho=>Nat.lt_irrefl _ ((hG.obj j).id_lt hl ho)) (by rw[←hn,Heap.get_push_self]) r5
           (fun j hj=>by
            rw[Heap.get_push_lt _ _ (show j<(σ.kill i).n from aj hj)];exact Heap.get_kill_ne _ fun e=>nc (by rw[←e];exact hj)) (fun j i' hj dR hl hi=>by
            rw[Heap.get_push_lt _ _ (show i'<(σ.kill i).n from (hG.obj j).id_lt hl hi)];exact Heap.get_kill_ne _ fun e=>cM j hj dR hl (by rw[←e];exact hi)) tw (Nat.le_refl _) (by rw[cJ];exact Nat.le_refl _)
          exact⟨_,_,pl',_,_,by rw[base,List.length_append],h,⟨k1.1,k1.2.mono sub⟩,k2⟩
    ·cases h
   ·cases h
  ·cases h
 ·rename_i _ o kr lr i hx;split at h
  ·rename_i ty q k xs nl ho;split at h
   ·rename_i k' ho;split at h
    ·rename_i hc;split at h
     ·rename_i ys hy;cases hn:k'.flat&&CU [o,d] with
      |false=>rw[hn] at h;cases h
      |true =>
       rw[hn] at h;simp only[_root_.cond_true,Ns,Fo] at h;rw[Bool.and_eq_true] at hn;have tv:o≠d:=fun e=>by have:=(List.nodup_cons.1 (Y6 hn.2)).1;exact this (by rw[e];exact List.mem_cons_self)
       exact Re af hG hx ho hc.1 hc.2 hy hn.1 tv h.1 h.2.1 h.2.2
     ·cases h
    ·cases h
   ·cases h
  ·cases h
 ·cases h
theorem T8 {c us:List Value}{m p n:Nat}(hl:us.length=n) (hp:p+n≤m) (hm:m≤c.length):(Jc c p us).take m=(c.take m).take p++us++(c.take m).drop (p+n):=by
 rw[Jv (by omega),hl];have h1:(c.take p).length=p:=by rw[List.length_take];omega
 have h2:(c.take p++us).length=p+n:=by rw[List.length_append,h1,hl]
 rw[List.take_append,List.take_of_length_le (by omega),h2,List.take_take,Nat.min_eq_left (by omega),List.drop_take]
theorem Q1s (af:∀ x,SR P B pl tb (ev x) (evV x)) (hG:Gam P B F pl tb s env σ) {size:Nat}{a x:Operand}(h:gnd C d (.store size a x) ev s K):D6 P B F tb (.store size a x) evV env σ K (JM d (.store size a x) ev) s pl:=by
 have ha:=af a;simp only[gnd] at h;split at h
 ·rename_i o i off sz vs h1 h2;obtain⟨us,h3,dw,h5⟩:=Zx h2 (af x);rw[h1] at ha;simp only[SR,DR] at ha;obtain⟨b,len,cap,g1,g2,g3,g4⟩:=ha;split at h
  ·rename_i ty q k xs nl hole ho;split at h
   ·rename_i hc;obtain⟨rfl,rfl,rfl⟩:=hc;split at h
    ·rename_i y mv hy;cases hd:CU (o::mv) with
     |false=>rw[hd] at h;cases h
     |true =>
      rw[hd] at h;simp only[_root_.cond_true] at h;have fv:=List.nodup_cons.1 (Y6 hd);obtain⟨js,t3,t4,t5⟩:=Yn hG hy fv.2 dw;have hlen:=KC.length t3.kc;have ak:=hG.obj o;rw[ho] at ak;have ah:(Q6 s.own o).live=true:=by rw[ho];rfl
      obtain⟨is,d1,d2,d3,d4⟩:=DP.open ak;rcases d2 with⟨_,h8,_⟩|⟨b',au,c,t,wB,h8,rfl,e4,e5,e6,e7⟩
      ·rw[g1] at h8;cases h8
      rw[g1] at h8;obtain⟨rfl,rfl,rfl⟩:=(by simpa using h8:b=b'∧len=xs.length∧cap=au);have hi:i.toNat<xs.length:=by omega
      have oF:(hole=none∨hole=some i.toNat)∧K .any ((s.kills mv).dput o (.deep ty q k (xs.set i.toNat y) nl none)):=by
       split at h
       ·exact⟨.inl rfl,h⟩
       ·obtain⟨rfl,h⟩:=h;exact⟨.inr rfl,h⟩
      obtain⟨hh,h⟩:=oF;obtain⟨dh,ix,di,rfl,k1,_⟩:=RowsH.set (h':=none) (x:=y) (c':=us) (inew:=js) KO.rows_len e7 hi (fun m hm=>by
       rw[Nat.zero_add];rcases hh with rfl|rfl
       ·exact Iff.rfl
       ·constructor
        ·intro h;exact absurd (osj h).symm hm
        ·intro h;cases h) hlen (by rw[if_neg (by simp)];exact t3)
      have az:(i.toNat+1)*k.size≤xs.length*k.size:=Nat.mul_le_mul_right _ hi;rw[Nat.add_mul,Nat.one_mul] at az;have e8:=Nat.mul_le_mul_right k.size e4;rw[←T8 hlen az (by omega)] at k1;have aT:F.get b=none:=hG.fresh o b ah ((d3 b).2 List.mem_cons_self);have iw:=List.nodup_cons.1 d1;have jc:=List.nodup_append.1 iw.2;have lY:=List.nodup_append.1 jc.1;have l5:∀ j∈js,∀ j'∈b::(dh++ix++di),j≠j':=fun j hj j' bq e=>by subst e;obtain⟨m,m1,m2,m3⟩:=t5 j hj;exact hG.sep m o j (fun e=>fv.1 (by rw[←e];exact m1)) m2 ah m3 ((d3 j).2 bq)
      have fE:(b::(dh++js++di)).Nodup:=by
       refine List.nodup_cons.2 ⟨fun h=>?_,List.nodup_append.2 ⟨List.nodup_append.2 ⟨lY.1,t4,fun j hj j' bq e=>?_⟩,jc.2.1,fun j hj j' bq e=>?_⟩⟩
       ·rcases List.mem_append.1 h with h|h
        ·rcases List.mem_append.1 h with h|h
         ·exact iw.1 (List.mem_append_left _ (List.mem_append_left _ h))
         ·exact l5 b h b List.mem_cons_self rfl
        ·exact iw.1 (List.mem_append_right _ h)
       ·exact l5 j' bq j (List.mem_cons_of_mem _ (List.mem_append_left _ (List.mem_append_left _ hj))) e.symm
       ·rcases List.mem_append.1 hj with hj|hj
        ·exact jc.2.2 j (List.mem_append_left _ hj) j' bq e
        ·exact l5 j hj j' (List.mem_cons_of_mem _ (List.mem_append_right _ bq)) e
      have wC:b∉dh++js++di:=(List.nodup_cons.1 fE).1;have ib:DO (σ.upd b (.cells (Jc c (i.toNat*k.size) us) ⟨k.size,ty⟩ true t)) ty q k (xs.set i.toNat y) none (phd (pl o)) (b::(dh++js++di)) :=
       .inr ⟨b,cap,Jc c (i.toNat*k.size) us,t,_,by rw[g1,List.length_set],rfl,by rw[List.length_set];exact e4,Heap.get_upd_self _ _ (σ.lt e5),by rw[QX];exact e6,by
        rw[List.length_set];exact k1.imp fun x c' fQ hr hj=>KO.imp hr fun m hm=>Heap.get_upd_ne _ _ fun e=>wC (by rw[←e];exact hj m hm)⟩
      have fF:=Gr (v:=phd (pl o)) ib.cells;refine⟨undef,σ.upd b (.cells (Jc c (i.toNat*k.size) us) ⟨k.size,ty⟩ true t),QO pl o (mkP (σ.upd b (.cells (Jc c (i.toNat*k.size) us) ⟨k.size,ty⟩ true t)) (phd (pl o)) (b::(dh++js++di))),_,_,?_,h,⟨?_,fun j hj=>?_⟩,trivial⟩
      ·simp only[Q5,g4,h3,e5,Nat.add_zero];rw[if_pos ⟨trivial,hlen,by omega,h5⟩]
      ·refine (hG.kills (mv:=mv)).dput o _ _ (hG.le.upd aT _) (Rf _ _ _) (fun j j' hj hl bq=>?_) (DP.close fE ib d4) fun j _ hj=>?_
       ·obtain⟨hl,_⟩:=XZ hl;exact Heap.get_upd_ne _ _ fun e=>hG.sep j o j' hj hl ah bq ((d3 j').2 (by rw[e];exact List.mem_cons_self))
       ·have hj:=(fF j).1 hj;have key:∃ m,(m=o∨m∈mv)∧(Q6 s.own m).live=true∧Oid (pl m) j:=by
         have own:j∈b::(dh++ix++di)→∃ m,(m=o∨m∈mv)∧(Q6 s.own m).live=true∧Oid (pl m) j:=fun h=>⟨o,.inl rfl,ah,(d3 j).2 h⟩;rcases List.mem_cons.1 hj with rfl|hj
         ·exact own List.mem_cons_self
         ·rcases List.mem_append.1 hj with hj|hj
          ·rcases List.mem_append.1 hj with hj|hj
           ·exact own (List.mem_cons_of_mem _ (List.mem_append_left _ (List.mem_append_left _ hj)))
           ·obtain⟨m,m1,m2⟩:=t5 j hj;exact⟨m,.inr m1,m2⟩
          ·exact own (List.mem_cons_of_mem _ (List.mem_append_right _ hj))
        obtain⟨m,m1,m2,m3⟩:=key;refine⟨hG.fresh m j m2 m3,fun j' bq hl cC=>?_⟩;obtain⟨hl,dR⟩:=XZ hl;exact hG.sep j' m j (fun e=>by subst e;exact m1.elim bq dR) hl m2 cC m3
      ·have du:j≠o:=fun e=>hj (by simp only[JM,h1,SV.thing];exact List.mem_cons_of_mem _ (List.mem_append_left _ (by rw[e];exact List.mem_cons_self)));have dR:j∉mv:=fun e=>hj (by simp only[JM,h2];exact List.mem_cons_of_mem _ (List.mem_append_right _ (V6 hy j e)));refine⟨by simp only[St.dput,Qb,X1,if_neg du,OB.live_stale];exact XN dR,by simp[QO,du],fun hl i' hi=>Heap.get_upd_ne _ _ fun e=>?_⟩;exact hG.sep j o i' du hl ah hi ((d3 i').2 (by rw[e];exact List.mem_cons_self))
    ·cases h
   ·cases h
  ·cases h
 ·rename_i o kr lr i j off vs h1 h2;obtain⟨us,h3,dw,h5⟩:=Zx h2 (af x);rw[h1] at ha;simp only[SR,DR] at ha;obtain⟨b,len,cap,c,e,t,r,rl,rc,aP,re,rt,g1,g2,g3,g4,g5,g6,g7,g8,g9,xS,xT,wD⟩:=ha;split at h
  ·rename_i ty q k xs nl ho;split at h
   ·rename_i hc;obtain⟨rfl,rfl,rfl,hf⟩:=hc;split at h
    ·rename_i y hy;have hk:=Qf hy dw;have hlen:=KC.length hk;have ak:=hG.obj o;rw[ho] at ak;have ah:(Q6 s.own o).live=true:=by rw[ho];rfl
     have hle:=DP.le ak;obtain⟨is,d1,d2,d3,d4⟩:=DP.open ak;rcases d2 with⟨_,h8,_⟩|⟨b',au,c0,t0,wB,h8,rfl,e4,e5,e6,e7⟩
     ·rw[g1] at h8;cases h8
     rw[g1] at h8;obtain⟨rfl,rfl,rfl⟩:=(by simpa using h8:b=b'∧len=xs.length∧cap=au);have dj:c0=c:=by have:=hle.2 _ _ g4;rw[e5] at this;cases this;rfl
     subst dj;have hi:i.toNat<xs.length:=by omega
     have fC:(Kind.list kr).size=1:=rfl;rw[fC] at e6 e7;simp only[Nat.mul_one] at e6 e7;have dC:xs.getD i.toNat []=xs[i.toNat]:=by rw[List.getD_eq_getElem?_getD,List.getElem?_eq_getElem hi];rfl
     have aR:((c0.take xs.length).drop (i.toNat*1)).take 1=[.slice (some ⟨r,0,none⟩) rl rc]:=by
      apply List.ext_getElem?;intro j;simp only[Nat.mul_one,List.getElem?_take,List.getElem?_drop];cases j with
      |zero=>simp only[Nat.add_zero];rw[if_pos (by omega),if_pos (by omega),g5];rfl
      |succ j=>rw[if_neg (by omega)];rfl
     obtain⟨dh,ix,di,rfl,k1,k2⟩:=RowsH.set (sz:=1) (h':=some i.toNat) (x:=xs[i.toNat]) (c':=[.slice (some ⟨r,0,none⟩) rl rc]) (inew:=[]) (KO.rows_len (k:=.list kr)) e7 hi (fun m hm=>by
      rw[Nat.zero_add];constructor
      ·intro h;cases h
      ·intro h;exact absurd (osj h).symm hm) rfl (by rw[Nat.zero_add,if_pos rfl])
     rw[if_neg (by simp),aR] at k2;have df:(c0.take xs.length).take (i.toNat*1)++[.slice (some ⟨r,0,none⟩) rl rc]++(c0.take xs.length).drop (i.toNat*1+1)=c0.take xs.length:=by rw[←aR,List.append_assoc,←List.drop_drop,List.take_append_drop,List.take_append_drop]
     rw[df,List.set_getElem_self] at k1;have iw:=List.nodup_cons.1 d1;have jc:=List.nodup_append.1 iw.2;have lY:=List.nodup_append.1 jc.1;simp only[KO] at k2;rcases k2 with⟨_,m2,_⟩|⟨r',gm,wE,wF,wG,fQ,m1,rfl,m3,m4,m5,m6,m7,m8⟩
     ·cases m2
     obtain⟨rfl,m1,rfl⟩:=(by simpa using m1:r=r'∧rl=xs[i.toNat].length∧rc=gm);have eZ:aP=wE∧re=wF∧rt=wG:=by have:=hle.2 _ _ g9;rw[m4] at this;cases this;exact⟨rfl,rfl,rfl⟩
     obtain⟨rfl,rfl,rfl⟩:=eZ;have hj:j.toNat<xs[i.toNat].length:=by omega
     have ia:(j.toNat+1)*kr.size≤xs[i.toNat].length*kr.size:=Nat.mul_le_mul_right _ hj;rw[Nat.add_mul,Nat.one_mul] at ia;have q1:=Nat.mul_le_mul_right kr.size m3;have aT:F.get r=none:=hG.fresh o r ah ((d3 r).2 (List.mem_cons_of_mem _ (List.mem_append_left _ (List.mem_append_right _ List.mem_cons_self))));have l7:b≠r:=fun e=>iw.1 (by rw[e];exact List.mem_append_left _ (List.mem_append_right _ List.mem_cons_self));have tx:∀ m∈fQ,m≠r:=fun m hm e=>by subst e;exact(List.nodup_cons.1 lY.2.1).1 hm
     have k3:RowsH (KO (σ.upd r (.cells (Jc aP (j.toNat*kr.size) us) re true rt)) q (.list kr)) 1 (some i.toNat) 0 xs (c0.take xs.length) (dh++[]++di):=k1.imp fun x c' wH hr hj=>KO.imp hr fun m hm=>Heap.get_upd_ne _ _ fun e=>by
      have hm:=hj m hm;rw[e,List.append_nil] at hm;rcases List.mem_append.1 hm with hm|hm
      ·exact lY.2.2 r hm r List.mem_cons_self rfl
      ·exact jc.2.2 r (List.mem_append_right _ List.mem_cons_self) r hm rfl
     have bk:KO (σ.upd r (.cells (Jc aP (j.toNat*kr.size) us) re true rt)) q (.list kr) (xs[i.toNat].set j.toNat y) [.slice (some ⟨r,0,none⟩) rl rc] (r::fQ):=by
      have gd:fQ=[]:=by
       have key:∀ {xs:List kr.T}{cs:List Value}{js:List Nat},RowsO (fun x c is=>KO σ none kr x c is) xs cs js→js=[]:=fun h=>by
        induction h with
        |nil=>rfl
        |cons h _ ih=>rw[ih,List.append_nil];exact KO.flat_nil hf h
       exact key m8
      subst gd;have wI:Rows (KC B kr) xs[i.toNat] (aP.take (xs[i.toNat].length*kr.size)):=by
       have key:∀ {xs:List kr.T}{cs:List Value}{js:List Nat},RowsO (fun x c is=>KO σ none kr x c is) xs cs js→Rows (KC B kr) xs cs:=fun h=>by
        induction h with
        |nil=>exact .nil
        |cons h _ ih=>exact .cons (KC.flat hf h.kc) ih
       exact key m8
      have aV:=wI.set KC.rows_len hj hk;rw[←T8 hlen ia (by omega)] at aV;simp only[KO];exact .inr ⟨r,rc,_,re,rt,[],by rw[List.length_set,m1],rfl,by rw[List.length_set];exact m3,Heap.get_upd_self _ _ (σ.lt m4),m5,m6,by rw[QX];exact m7,by rw[List.length_set];exact aV.rowsO hf⟩
     obtain⟨gu,xU,gv,iK,k4,gQ⟩:=RowsH.set (sz:=1) (h':=none) (x:=xs[i.toNat].set j.toNat y) (c':=[.slice (some ⟨r,0,none⟩) rl rc]) (inew:=r::fQ) (KO.rows_len (k:=.list kr)) k3 hi (fun m hm=>by
      rw[Nat.zero_add];constructor
      ·intro h;exact absurd (osj h).symm hm
      ·intro h;cases h) rfl (by rw[if_neg (by simp)];exact bk)
     rw[Nat.zero_add,if_pos rfl] at gQ;subst gQ;rw[df] at k4;have aO:∀ m,m∈gu++r::fQ++gv↔m∈dh++r::fQ++di:=fun m=>by
      have:m∈dh++[]++di↔m∈gu++[]++gv:=by rw[iK]
      simp only[List.append_nil,List.mem_append] at this;simp only[List.mem_append];constructor
      ·rintro ((h|h)|h)
       ·rcases this.2 (.inl h) with h|h
        ·exact .inl (.inl h)
        ·exact .inr h
       ·exact .inl (.inr h)
       ·rcases this.2 (.inr h) with h|h
        ·exact .inl (.inl h)
        ·exact .inr h
      ·rintro ((h|h)|h)
       ·rcases this.1 (.inl h) with h|h
        ·exact .inl (.inl h)
        ·exact .inr h
       ·exact .inl (.inr h)
       ·rcases this.1 (.inr h) with h|h
        ·exact .inl (.inl h)
        ·exact .inr h
     have rh:(b::(gu++r::fQ++gv)).Nodup:=by
      refine (List.Perm.cons b ?_).nodup_iff.1 d1;have p1:(dh++di).Perm (gu++gv):=by have:=iK;simp only[List.append_nil] at this;rw[this]
      have p2:∀ (a b c:List Nat),(a++b++c).Perm (b++(a++c)):=fun a b c=>by rw[←List.append_assoc];exact(List.perm_append_comm).append_right c
      exact(p2 dh (r::fQ) di).trans ((p1.append_left _).trans (p2 gu (r::fQ) gv).symm)
     have ib:DO (σ.upd r (.cells (Jc aP (j.toNat*kr.size) us) re true rt)) ty q (.list kr) (xs.set i.toNat (xs[i.toNat].set j.toNat y)) none (phd (pl o)) (b::(gu++r::fQ++gv)) :=
      .inr ⟨b,cap,c0,t0,_,by rw[g1,List.length_set],rfl,by rw[List.length_set];exact e4,by rw[Heap.get_upd_ne _ _ l7];exact e5,by rw[fC,Nat.mul_one];exact e6,by
       rw[List.length_set,fC,Nat.mul_one];exact k4⟩
     have fF:=Gr (v:=phd (pl o)) ib.cells;rw[dC] at h;refine⟨undef,σ.upd r (.cells (Jc aP (j.toNat*kr.size) us) re true rt),QO pl o (mkP (σ.upd r (.cells (Jc aP (j.toNat*kr.size) us) re true rt)) (phd (pl o)) (b::(gu++r::fQ++gv))),_,_,?_,h,⟨?_,fun j0 ij=>?_⟩,trivial⟩
     ·simp only[Q5,wD,h3,m4,Nat.add_zero];rw[if_pos ⟨trivial,hlen,by omega,h5⟩]
     ·refine hG.dput o _ _ (hG.le.upd aT _) (Rf _ _ _) (fun j' i' bq hl bU=>?_) (DP.close rh ib d4) fun m _ hm=>?_
      ·exact Heap.get_upd_ne _ _ fun e=>hG.sep j' o i' bq hl ah bU ((d3 i').2 (by rw[e];exact List.mem_cons_of_mem _ (List.mem_append_left _ (List.mem_append_right _ List.mem_cons_self))))
      ·have hm:=(fF m).1 hm;have hm:m∈b::(dh++r::fQ++di):=(List.mem_cons.1 hm).elim (fun e=>by rw[e];exact List.mem_cons_self) fun h=>List.mem_cons_of_mem _ ((aO m).1 h);exact⟨hG.fresh o m ah ((d3 m).2 hm),fun j' bq hl cC=>hG.sep j' o m bq hl ah cC ((d3 m).2 hm)⟩
     ·have du:j0≠o:=fun e=>ij (by simp only[JM,h1,SV.thing];exact List.mem_cons_of_mem _ (List.mem_append_left _ (by rw[e];exact List.mem_cons_self)));refine⟨by simp only[St.dput,Qb,X1,if_neg du,OB.live_stale],by simp[QO,du],fun hl i' hi=>Heap.get_upd_ne _ _ fun e=>?_⟩;exact hG.sep j0 o i' du hl ah hi ((d3 i').2 (by rw[e];exact List.mem_cons_of_mem _ (List.mem_append_left _ (List.mem_append_right _ List.mem_cons_self))))
    ·cases h
   ·cases h
  ·cases h
 ·cases h
theorem GH (af:∀ x,SR P B pl tb (ev x) (evV x)) (hG:Gam P B F pl tb s env σ) {o:VOp}(h:gnd C d o ev s K):D6 P B F tb o evV env σ K (JM d o ev) s pl:=by
 cases o with
 |buildSlice e z n ps=>exact TO af hG h
 |makeSlice e bytes z l c=>exact RN af hG h
 |append e bytes x y=>exact FM af hG h
 |store size a x=>exact Q1s af hG h
 |_=>cases h
end
end
end Go.V
namespace Go.V
open Go
def J3:Nat→Value:=fun _=>poison
def Zr:Nat→Option Bool:=fun _=>none
def hNil:Heap:=⟨fun _=>none,0,fun _ _=>rfl⟩
theorem Sf (B:Heap):hNil.Le B:=⟨Nat.zero_le _,fun i b h=>by cases h⟩
section
variable {P:Program}
mutual
theorem SR.retd {B B':Heap}{pl pl':Nat→Value}{tb tb':Nat→Option Bool}{n:Nat}(hp:∀ j,j<n→pl' j=pl j) :
  ∀ (s:SV) (v:Value),s.ret n=true→SR P B pl tb s v→SR P B' pl' tb' s v
 |.any,_,h,_|.bid _ _,_,h,_|.grd _ _,_,h,_|.sub _ _ _ _,_,h,_|.elp _ _ _ _,_,h,_|.rop _ _ _ _,_,h,_|.cp _ _,_,h,_|.fn _ _ _,_,h,_|.pf _ _ _ _,_,h,_=>by cases h
 |.val k x,v,h,hs=>by simp only[SR] at hs ⊢;exact KC.flat h hs
 |.nilS,v,_,hs|.nilP,v,_,hs|.nilM,v,_,hs|.nilF,v,_,hs=>by simp only[SR] at hs ⊢;exact hs
 |.lst j,v,h,hs=>by
  have hj:j<n:=by simpa [SV.ret,Nat.blt_eq] using h
  simp only[SR] at hs ⊢;rw[hp j hj];exact hs
 |.map j,v,h,hs=>by
  have hj:j<n:=by simpa [SV.ret,Nat.blt_eq] using h
  simp only[SR] at hs ⊢;rw[hp j hj];exact hs
 |.dd j w,v,h,hs=>by
  cases w with
  |out =>
   have hj:j<n:=by simpa [SV.ret,Nat.blt_eq] using h
   simp only[SR] at hs ⊢;rw[hp j hj];exact hs
  |_=>cases h
 |.box j off,v,h,hs=>by
  have hj:j<n:=by simpa [SV.ret,Nat.blt_eq] using h
  simp only[SR] at hs ⊢;rw[hp j hj];exact hs
 |.agg l,v,h,hs=>by simp only[SR] at hs ⊢;obtain⟨cs,h1,h2⟩:=hs;exact⟨cs,h1,SRs.retd hp l cs h h2⟩
 |.tup l,v,h,hs=>by simp only[SR] at hs ⊢;obtain⟨cs,h1,h2⟩:=hs;exact⟨cs,h1,SRs.retd hp l cs h h2⟩
theorem SRs.retd {B B':Heap}{pl pl':Nat→Value}{tb tb':Nat→Option Bool}{n:Nat}(hp:∀ j,j<n→pl' j=pl j) :
  ∀ (s:List SV) (v:List Value),SVs.ret n s=true→SRs P B pl tb s v→SRs P B' pl' tb' s v
 |[],v,_,hs=>by simp only[SRs] at hs ⊢;exact hs
 |s::ss,v,h,hs=>by simp only[SVs.ret,Bool.and_eq_true] at h;simp only[SRs] at hs ⊢;obtain⟨x,y,h1,h2,h3⟩:=hs;exact⟨x,y,h1,SR.retd hp s x h.1 h2,SRs.retd hp ss y h.2 h3⟩
end
mutual
theorem SR.ren {B:Heap}{pl pl':Nat→Value}{tb tb':Nat→Option Bool}{n d nt:Nat}(hp:∀ j,j<n→pl' (d+j*nt)=pl j) :
  ∀ (s:SV) (v:Value),s.ret n=true→SR P B pl tb s v→SR P B pl' tb' (s.ren d nt) v
 |.any,_,h,_|.bid _ _,_,h,_|.grd _ _,_,h,_|.sub _ _ _ _,_,h,_|.elp _ _ _ _,_,h,_|.rop _ _ _ _,_,h,_|.cp _ _,_,h,_|.fn _ _ _,_,h,_|.pf _ _ _ _,_,h,_=>by cases h
 |.val k x,v,h,hs=>by simp only[SR,SV.ren] at hs ⊢;exact hs
 |.nilS,v,_,hs|.nilP,v,_,hs|.nilM,v,_,hs|.nilF,v,_,hs=>by simp only[SR,SV.ren] at hs ⊢;exact hs
 |.lst j,v,h,hs=>by
  have hj:j<n:=by simpa [SV.ret,Nat.blt_eq] using h
  simp only[SR,SV.ren] at hs ⊢;rw[hp j hj];exact hs
 |.map j,v,h,hs=>by
  have hj:j<n:=by simpa [SV.ret,Nat.blt_eq] using h
  simp only[SR,SV.ren] at hs ⊢;rw[hp j hj];exact hs
 |.dd j w,v,h,hs=>by
  cases w with
  |out =>
   have hj:j<n:=by simpa [SV.ret,Nat.blt_eq] using h
   simp only[SR,SV.ren] at hs ⊢;rw[hp j hj];exact hs
  |_=>cases h
 |.box j off,v,h,hs=>by
  have hj:j<n:=by simpa [SV.ret,Nat.blt_eq] using h
  simp only[SR,SV.ren] at hs ⊢;rw[hp j hj];exact hs
 |.agg l,v,h,hs=>by simp only[SR,SV.ren] at hs ⊢;obtain⟨cs,h1,h2⟩:=hs;exact⟨cs,h1,SRs.ren hp l cs h h2⟩
 |.tup l,v,h,hs=>by simp only[SR,SV.ren] at hs ⊢;obtain⟨cs,h1,h2⟩:=hs;exact⟨cs,h1,SRs.ren hp l cs h h2⟩
theorem SRs.ren {B:Heap}{pl pl':Nat→Value}{tb tb':Nat→Option Bool}{n d nt:Nat}(hp:∀ j,j<n→pl' (d+j*nt)=pl j) :
  ∀ (s:List SV) (v:List Value),SVs.ret n s=true→SRs P B pl tb s v→SRs P B pl' tb' (SVs.ren d nt s) v
 |[],v,_,hs=>by simp only[SRs,SVs.ren] at hs ⊢;exact hs
 |s::ss,v,h,hs=>by simp only[SVs.ret,Bool.and_eq_true] at h;simp only[SRs,SVs.ren] at hs ⊢;obtain⟨x,y,h1,h2,h3⟩:=hs;exact⟨x,y,h1,SR.ren hp s x h.1 h2,SRs.ren hp ss y h.2 h3⟩
end
theorem MR.flat {B B':Heap}{kk vk:Kind}(h1:kk.flat=true) (h2:vk.flat=true):∀ {m:List (kk.T×vk.T)}{es:List ZC},MR B kk vk m es→MR B' kk vk m es
 |[],es,h=>h
 |m::ms,es,h=>by obtain⟨e,bV,k1,k2,k3,k4⟩:=h;exact⟨e,bV,k1,k2.flat h1,k3.flat h2,MR.flat h1 h2 k4⟩
theorem OR.retd {B B':Heap}{pl pl':Nat→Value}{tb tb':Nat→Option Bool}{σ σ':Heap}{p:Value}{b:OB}(hb:b.ret=true) (h:OR P B pl tb σ p b) (hg:∀ i,Oid p i→σ'.get i=σ.get i):OR P B' pl' tb' σ' p b:=by
 cases b with
 |dead=>trivial
 |lst ty k xs nl =>
  rcases h with h|⟨h0,i,cap,c,t,h1,h2,h3,h4,h5⟩
  ·exact .inl h
  ·exact .inr ⟨h0,i,cap,c,t,h1,h2,by rw[hg i (by rw[h1];rfl)];exact h3,h4,h5.mono fun _ _ e=>KC.flat hb e⟩
 |cells l u =>obtain⟨i,c,e,t,h1,h2,h3,h4⟩:=h;exact⟨i,c,e,t,h1,by rw[hg i (by rw[h1];rfl)];exact h2,SRs.retd (n:=0) (fun j hj=>by omega) l c hb h3,h4⟩
 |map kk vk m =>simp only[OB.ret,Bool.and_eq_true] at hb;obtain⟨i,es,clock,h1,h2,h3⟩:=h;exact⟨i,es,clock,h1,by rw[hg i (by rw[h1];rfl)];exact h2,h3.1.flat hb.1 hb.2,h3.2⟩
 |stk l vals=>cases hb
 |deep ty q k xs nl hh=>exact DP.mono h hg
 |mapE kk vk m key n=>cases hb
 |iter kk vk m dn=>cases hb
 |lpf l q s=>cases hb
def Ty:(k:Kind)→k.T→List Value
 |.i ik,x=>[.int ik x]
 |.bo,x=>[.bool x]
 |.st,x=>[.string ⟨x.toArray⟩]
 |.list _,_=>[]
 |.pair a b,x=>Ty a x.1++Ty b x.2
def Ii:OB→Option Blk
 |.lst ty k xs nl=>if nl then none else some (.cells (xs.map (Ty k)).flatten ⟨k.size,ty⟩ true false)
 |_=>none
def BJ (σ:Heap) (bs:List OB):Heap where
 get i:=if i<σ.n then σ.get i else (bs[i-σ.n]?).bind Ii
 n:=σ.n+bs.length
 wf i h:=by rw[if_neg (by omega),List.getElem?_eq_none (by omega)];rfl
def BY (σ:Heap) (bs:List OB) (j:Nat):Value:=match bs[j]? with
 |some (.lst _ _ xs nl)=>if nl then .slice none 0 0 else .slice (some ⟨σ.n+j,0,none⟩) xs.length xs.length
 |_=>poison
mutual
def WY (p:Nat→Value):SV→Value
 |.val k x=>(Ty k x).headD poison
 |.nilS=>.slice none 0 0
 |.nilP=>.pointer none
 |.nilM=>.map none
 |.nilF=>.nilFunc
 |.lst j=>p j
 |.agg l=>.agg (XR p l).toArray
 |.tup l=>.tuple (XR p l).toArray
 |_=>poison
def XR (p:Nat→Value):List SV→List Value
 |[]=>[]
 |s::ss=>WY p s::XR p ss
end
def Dead (σ σ':Heap):Prop:=σ.n≤σ'.n∧∀ i,i<σ.n→σ.get i=none→σ'.get i=none
theorem Dead.refl (σ:Heap):Dead σ σ:=⟨Nat.le_refl _,fun _ _ h=>h⟩
theorem Dead.trans {σ0 σ σ':Heap}(h:Dead σ0 σ) (h':Dead σ σ'):Dead σ0 σ':=⟨Nat.le_trans h.1 h'.1,fun i hi hg=>h'.2 i (Nat.lt_of_lt_of_le hi h.1) (h.2 i hi hg)⟩
def Ret (P:Program) (σ:Heap) (v:SV) (bs:List OB) (u:Value) (σ':Heap):Prop :=
 (σ.Le σ'∧Dead σ σ')∧(bs=[]→σ'=σ)∧∃ pl:Nat→Value,(∀ j b,bs[j]?=some b→OR P hNil pl Zr σ' (pl j) b∧∀ i,Oid (pl j) i→σ.get i=none∧σ.n≤i) ∧
  (∀ j j' i,j<bs.length→j'<bs.length→j≠j'→Oid (pl j) i→Oid (pl j') i→False)∧SR P hNil pl Zr v u
def O8 (P:Program) (ap:SV→List SV→Option (Prop×SV)):Prop :=
 ∀ σ f args c v fV vs,SR P σ J3 Zr f fV→SRs P σ J3 Zr args vs→ap f args=some (c,v)→c→v.ret 0=true∧∃ g a b,fV=.func (.func g) a b∧VCalled P g (a.toList++vs++b.toList) σ fun u σ'=>σ'=σ∧SR P hNil J3 Zr v u
def OkC (P:Program) (f:Nat) (sp:CSp):Prop :=
 ∀ ap,O8 P ap→∀ σ args vs c v bs,SRs P σ J3 Zr args vs→sp ap args=some (c,v,bs)→v.ret bs.length=true→bs.all OB.ret=true→c→(VCalled P f vs σ fun u σ'=>Ret P σ v bs u σ') ∧
  (bs.all OB.isL=true→WX v=true→VCalled P f vs σ fun u σ'=>u=WY (BY σ bs) v∧σ'=BJ σ bs)
def CsOk (P:Program) (cs:List (Nat×CSp)):Prop:=∀ f sp,Qd cs f=some sp→OkC P f sp
theorem VCalled.mono {f:FuncId}{args:List Value}{σ:Heap}{R R':Value→Heap→Prop}(h:VCalled P f args σ R) (hr:∀ v σ',R v σ'→R' v σ'):VCalled P f args σ R':=by
 intro ρ w ax hH hL;rcases h ρ w ax hH hL with⟨h1,h2⟩|⟨c,h1,h2⟩
 ·exact .inl ⟨h1,h2.mono fun _ _ ⟨c,he,hg⟩=>⟨c,he,hg.mono hr⟩⟩
 ·exact .inr ⟨c,h1.mono hr,h2⟩
theorem D3 {B:Heap}{pl:Nat→Value}{tb:Nat→Option Bool}{k:Kind}{v:SV}{u:Value}{x:k.T}(h:gap.asV k v=some x) (hs:SR P B pl tb v u):KV B k x u:=by
 unfold gap.asV at h;cases bT:k.one with
 |true =>rw[bT] at h;exact .inl ⟨bT,Qf h (by simp only[SRs];exact⟨u,[],rfl,hs,rfl⟩)⟩
 |false =>
  rw[bT] at h;simp only[_root_.cond_false] at h;split at h
  ·simp only[SR] at hs;obtain⟨cs,rfl,hs⟩:=hs;exact .inr ⟨bT,cs,rfl,Qf h hs⟩
  ·cases h
theorem Hb {B:Heap}{pl:Nat→Value}{tb:Nat→Option Bool}:∀ {ks:List Kind}{args:List SV}{x:AT ks}{vs:List Value},gap.deca ks args=some x→SRs P B pl tb args vs→Hj B ks x vs
 |[],[],x,vs,_,hs=>by simp only[SRs] at hs;exact hs
 |[],_::_,x,vs,h,_=>by cases h
 |[k],[],x,vs,h,_=>by cases h
 |[k],[v],x,vs,h,hs=>by obtain⟨u,rfl,h1⟩:=hs.one;exact⟨u,rfl,D3 h h1⟩
 |[k],_::_::_,x,vs,h,_=>by cases h
 |k::k'::ks,[],x,vs,h,_=>by cases h
 |k::k'::ks,v::args,x,vs,h,hs=>by
  simp only[gap.deca] at h;split at h
  ·rename_i y z h1 h2;obtain rfl:=osj h;simp only[SRs] at hs;obtain⟨u,us,rfl,h3,h4⟩:=hs;exact⟨u,us,rfl,D3 h1 h3,Hb h2 h4⟩
  ·cases h
theorem Ret.flat {σ σ':Heap}{v:SV}{u:Value}(h:Ret P σ v [] u σ') (hv:v.ret 0=true):σ'=σ∧SR P hNil J3 Zr v u:=by obtain⟨_,h2,pl,_,_,h5⟩:=h;exact⟨h2 rfl,h5.retd (fun j hj=>by omega) _ _ hv⟩
theorem KV.vcall {B σ:Heap}(hB:B.Le σ) {k:Kind}{x:k.T}{v:Value}(h:KV B k x v):KV σ k x v:=by
 rcases h with⟨h1,h2⟩|⟨h1,cs,h2,h3⟩
 ·exact .inl ⟨h1,h2.mono hB⟩
 ·exact .inr ⟨h1,cs,h2,h3.mono hB⟩
theorem No:∀ {k:Kind}{x:k.T},k.flat=true→SVs.ret 0 (Kr k x)=true
 |.i _,_,_|.bo,_,_|.st,_,_=>rfl
 |.list _,_,h=>by cases h
 |.pair a b,x,h=>by
  simp only[Kind.flat,Bool.and_eq_true] at h;have app:∀ l m:List SV,SVs.ret 0 l=true→SVs.ret 0 m=true→SVs.ret 0 (l++m)=true:=by
   intro l m hl hm;induction l with
   |nil=>exact hm
   |cons s l ih =>simp only[SVs.ret,Bool.and_eq_true,List.cons_append] at hl ⊢;exact⟨hl.1,ih hl.2⟩
  exact app _ _ (No h.1) (No h.2)
theorem FW {k:Kind}{x:k.T}(h:k.flat=true):(Ak k x).ret 0=true:=by
 cases k with
 |pair a b=>exact No (k:=.pair a b) h
 |list k=>cases h
 |_=>rfl
theorem Eu {cs:List (Nat×CSp)}(h:CsOk P cs):∀ n,O8 P (gap cs n)
 |0=>fun σ f args c v fV vs _ _ h=>by cases h
 |n+1=>by
  intro σ f args c v fV vs hf ha hg hc;cases f with
  |fn g a b =>
   simp only[gap] at hg;split at hg
   ·rename_i sp gT;split at hg
    ·rename_i c' v' heq;cases hv:v'.ret 0 with
     |false=>rw[hv] at hg;cases hg
     |true =>rw[hv] at hg;simp only[_root_.cond_true,Option.some.injEq,Prod.mk.injEq] at hg;obtain⟨rfl,rfl⟩:=hg;simp only[SR] at hf;obtain⟨x,y,rfl,h1,h2⟩:=hf;refine⟨hv,g,x.toArray,y.toArray,rfl,?_⟩;have:=(h g sp gT (gap cs n) (Eu h n) σ (a++args++b) (x++vs++y) c' v' [] ((h1.append ha).append h2) heq hv rfl hc).1;simpa using this.mono fun u σ' hr=>hr.flat hv
    ·cases hg
   ·cases hg
  |pf ks r cH p =>
   simp only[gap] at hg;split at hg
   ·rename_i x hx;cases hr:r.flat with
    |false=>rw[hr] at hg;cases hg
    |true =>rw[hr] at hg;obtain⟨rfl,rfl⟩:=Qx hg;simp only[SR] at hf;obtain⟨g,first,cap,rfl,aD⟩:=hf;have h2:=aD x hc σ vs (Heap.Le.refl _) (Hb hx ha);have dD:=FW (x:=p x) hr;exact⟨dD,g,first,cap,rfl,h2.mono fun u σ' hu=>⟨hu.1,(J2 (P:=P) (pl:=J3) (tb:=Zr) hu.2).retd (fun j hj=>by omega) _ _ dD⟩⟩
   ·cases hg
  |_=>cases hg
end
end Go.V
namespace Go.V
open Go
theorem DropTo.rename2 {σ0 σf σ':Heap}{v v':Value}(π:Nat→Nat) (h1:σ0.n≤σ'.n)
  (h2:∀ i,i<σ0.n→π i=i∧σ'.get i=σf.get i∧(σf.get i=σ0.get i∨∃ b,σf.get i=some b∧b.plain=true))
  (h3:∀ i,σ0.n≤i→i<σ'.n→σ0.n≤π i∧((σ'.get i=none∧σf.get (π i)=none)∨∃ b' b,σ'.get i=some b'∧σf.get (π i)=some b∧BRen σ'.n π b' b))
  (h4:∀ i j,σ0.n≤i→i<σ'.n→σ0.n≤j→j<σ'.n→π i=π j→i=j) (h5:Ren σ'.n π v' v):DropTo σ0 v σf v' σ':=by
 intro ρ0 w0 ρ w c f_ hE hH hv;have hπ:∀ i,i<σ0.n→π i=i:=fun i hi=>(h2 i hi).1;have aG:∀ i b',σ'.get i=some b'→∃ b,σf.get (π i)=some b∧BRen σ'.n π b' b:=fun i b' hb=>by
  have hi:=σ'.lt hb;rcases Nat.lt_or_ge i σ0.n with aj|bj
  ·obtain⟨k1,k2,k3⟩:=h2 i aj;rw[k1];rw[k2] at hb;refine⟨b',hb,?_⟩;rcases k3 with k3|⟨b,k3,k4⟩
   ·rw[k3] at hb;obtain⟨p,_,hB⟩:=f_.live i b' hb;exact hB.ren h1 hπ
   ·rw[k3] at hb;obtain rfl:=osj hb;exact BRen.plain k4
  ·obtain⟨_,⟨k1,_⟩|⟨b1,b,k1,k2,k3⟩⟩:=h3 i bj hi
   ·rw[k1] at hb;cases hb
   ·rw[k1] at hb;obtain rfl:=osj hb;exact⟨b,k2,k3⟩
 have eT:∀ i j,i<σ'.n→j<σ'.n→π i=π j→i=j:=fun i j hi hj he=>by
  rcases Nat.lt_or_ge i σ0.n with aj|bj<;>rcases Nat.lt_or_ge j σ0.n with b6|iW
  ·rw[hπ i aj,hπ j b6] at he;exact he
  ·have:=(h3 j iW hj).1;rw[hπ i aj] at he;omega
  ·have:=(h3 i bj hi).1;rw[hπ j b6] at he;omega
  ·exact h4 i j bj hi iW hj he
 have hX:Ext ρ0 σ0 w0 (fun i=>if i<σ'.n then ρ (π i) else none) σ' w:=by
  refine⟨hE.os,hE.tape,hE.output,hE.size,hE.keep,?_,h1,fun i hi p hp=>?_⟩
  ·rintro B hB ⟨i,p,b,hp,hb,hw,rfl⟩;change (if i<σ'.n then ρ (π i) else none)=some p at hp;split at hp
   ·obtain⟨b0,bC,cj⟩:=aG i b hb;exact hE.wr _ hB ⟨π i,p,b0,hp,bC,by rw[←cj.wr];exact hw,rfl⟩
   ·cases hp
  ·change (if i<σ'.n then ρ (π i) else none)=some p at hp;split at hp
   ·rw[hπ i hi] at hp;exact hE.pl i hi p hp
   ·cases hp
 refine⟨fun i=>if i<σ'.n then ρ (π i) else none,h5.rel hv,f_.ext ⟨fun i b' hb=>?_,fun i hi=>?_,fun i p hp=>?_,fun i j p q b cq hp hq hb hw hx=>?_⟩ hX,hX⟩
 ·obtain⟨b,bC,cj⟩:=aG i b' hb;obtain⟨p,hp,hB⟩:=hH.live _ b bC;exact⟨p,by simp[σ'.lt hb,hp],cj.rel hB⟩
 ·show (if i<σ'.n then ρ (π i) else none)=none;split
  ·rename_i aj;rcases Nat.lt_or_ge i σ0.n with b6|bj
   ·obtain⟨k1,k2,_⟩:=h2 i b6;rw[k1];exact hH.dead i (by rw[←k2];exact hi)
   ·obtain⟨_,⟨_,k2⟩|⟨b1,b,k1,_⟩⟩:=h3 i bj aj
    ·exact hH.dead _ k2
    ·rw[k1] at hi;cases hi
  ·rfl
 ·change (if i<σ'.n then ρ (π i) else none)=some p at hp;split at hp
  ·exact hH.lt _ p hp
  ·cases hp
 ·change (if i<σ'.n then ρ (π i) else none)=some p at hp;change (if j<σ'.n then ρ (π j) else none)=some q at hq;split at hp
  ·rename_i hi;split at hq
   ·rename_i hj;obtain⟨b0,bC,cj⟩:=aG i b hb;exact hH.sep (π i) (π j) p q b0 (fun e=>cq (eT i j hi hj e)) hp hq bC (by rw[←cj.wr];exact hw) hx
   ·cases hq
  ·cases hp
theorem KC.enc {h:Heap}:∀ {k:Kind}{x:k.T}{cs:List Value},k.flat=true→KC h k x cs→cs=Ty k x
 |.i _,_,_,_,e|.bo,_,_,_,e|.st,_,_,_,e=>e
 |.list _,_,_,f,_=>by cases f
 |.pair a b,x,cs,f,e=>by simp only[Kind.flat,Bool.and_eq_true] at f;obtain⟨c1,c2,rfl,h1,h2⟩:=e;rw[KC.enc f.1 h1,KC.enc f.2 h2];rfl
theorem Rows.enc {h:Heap}{k:Kind}(hk:k.flat=true) {xs:List k.T}{cs:List Value}(hr:Rows (KC h k) xs cs):cs=(xs.map (Ty k)).flatten:=by
 induction hr with
 |nil=>rfl
 |cons h _ ih=>rw[List.map_cons,List.flatten_cons,←ih,KC.enc hk h]
theorem Nd:∀ {k:Kind}{x:k.T},k.flat=true→(Ty k x).all Qr=true
 |.i _,_,_|.bo,_,_|.st,_,_=>rfl
 |.list _,_,h=>by cases h
 |.pair a b,x,h=>by simp only[Kind.flat,Bool.and_eq_true] at h;simp only[Ty,List.all_append,Bool.and_eq_true];exact⟨Nd h.1,Nd h.2⟩
section
variable {P:Program}
mutual
theorem Yg {B:Heap}{pl:Nat→Value}{tb:Nat→Option Bool}{n:Nat}:∀ (s:SV) (v:Value),s.ret n=true→WX s=true→SR P B pl tb s v→v=WY pl s
 |.val k x,v,h,_,hs=>by simp only[SR] at hs;have:=KC.enc h hs;simp only[WY,←this,List.headD_cons]
 |.nilS,v,_,_,hs|.nilP,v,_,_,hs|.nilM,v,_,_,hs|.nilF,v,_,_,hs=>by simp only[SR] at hs;exact hs
 |.lst j,v,_,_,hs=>by simp only[SR] at hs;exact hs.1
 |.agg l,v,h,hb,hs=>by simp only[SR] at hs;obtain⟨cs,rfl,h2⟩:=hs;rw[Uk l cs h hb h2];rfl
 |.tup l,v,h,hb,hs=>by simp only[SR] at hs;obtain⟨cs,rfl,h2⟩:=hs;rw[Uk l cs h hb h2];rfl
 |.box _ _,_,_,hb,_|.map _,_,_,hb,_=>by cases hb
 |.any,_,h,_,_|.bid _ _,_,h,_,_|.grd _ _,_,h,_,_|.sub _ _ _ _,_,h,_,_|.elp _ _ _ _,_,h,_,_|.rop _ _ _ _,_,h,_,_|.cp _ _,_,h,_,_|.fn _ _ _,_,h,_,_|.pf _ _ _ _,_,h,_,_=>by cases h
theorem Uk {B:Heap}{pl:Nat→Value}{tb:Nat→Option Bool}{n:Nat}:∀ (s:List SV) (v:List Value),SVs.ret n s=true→K6 s=true→SRs P B pl tb s v→v=XR pl s
 |[],v,_,_,hs=>by simp only[SRs] at hs;exact hs
 |s::ss,v,h,hb,hs=>by simp only[SVs.ret,Bool.and_eq_true] at h;simp only[K6,Bool.and_eq_true] at hb;simp only[SRs] at hs;obtain⟨x,y,rfl,h1,h2⟩:=hs;rw[Yg s x h.1 hb.1 h1,Uk ss y h.2 hb.2 h2];rfl
end
theorem Ev {k:Kind}{x:k.T}(h:k.flat=true):Qr ((Ty k x).headD poison)=true∨(Ty k x).headD poison=poison:=by
 have:=Nd (x:=x) h;cases e:Ty k x with
 |nil=>exact .inr rfl
 |cons a l=>rw[e] at this;simp only[List.all_cons,Bool.and_eq_true] at this;exact .inl this.1
mutual
theorem SQ {n m:Nat}{π:Nat→Nat}{p q:Nat→Value}(h:∀ j,j<m→Ren n π (p j) (q j)):∀ (s:SV),s.ret m=true→WX s=true→Ren n π (WY p s) (WY q s)
 |.val k x,hr,_=>by
  simp only[WY];rcases Ev (x:=x) hr with h|h
  ·exact .plain _ h
  ·rw[h];exact .poison _
 |.nilS,_,_|.nilP,_,_|.nilM,_,_|.nilF,_,_=>.plain _ rfl
 |.lst j,hr,_=>h j (by simpa [SV.ret,Nat.blt_eq] using hr)
 |.agg l,hr,hb=>by have:=Dj h l hr hb;simp only[WY];refine .agg _ _ (by simpa using this.1) fun i h1 h2=>this.2 i _ _ (by simp) (by simp)
 |.tup l,hr,hb=>by have:=Dj h l hr hb;simp only[WY];refine .tuple _ _ (by simpa using this.1) fun i h1 h2=>this.2 i _ _ (by simp) (by simp)
 |.box _ _,_,hb|.map _,_,hb=>by cases hb
 |.any,h,_|.bid _ _,h,_|.grd _ _,h,_|.sub _ _ _ _,h,_|.elp _ _ _ _,h,_|.rop _ _ _ _,h,_|.cp _ _,h,_|.fn _ _ _,h,_|.pf _ _ _ _,h,_=>by cases h
theorem Dj {n m:Nat}{π:Nat→Nat}{p q:Nat→Value}(h:∀ j,j<m→Ren n π (p j) (q j)):∀ (s:List SV),SVs.ret m s=true→K6 s=true→LRen n π (XR p s) (XR q s)
 |[],_,_=>⟨rfl,fun i v c hv=>by simp[XR] at hv⟩
 |s::ss,hr,hb=>by
  simp only[SVs.ret,Bool.and_eq_true] at hr;simp only[K6,Bool.and_eq_true] at hb;have h1:=SQ h s hr.1 hb.1;have h2:=Dj h ss hr.2 hb.2;refine⟨by simp[XR,h2.1],fun i v c hv hc=>?_⟩;cases i with
  |zero=>simp[XR] at hv hc;subst hv;subst hc;exact h1
  |succ i=>simp[XR] at hv hc;exact h2.2 i v c hv hc
end
mutual
theorem TG {m:Nat}{S:Nat→Prop}{p q:Nat→Value}(h:∀ j,j<m→Weak S (p j) (q j)):∀ (s:SV),s.ret m=true→WX s=true→Weak S (WY p s) (WY q s)
 |.val k x,_,_=>.refl _
 |.nilS,_,_|.nilP,_,_|.nilM,_,_|.nilF,_,_=>.refl _
 |.lst j,hr,_=>h j (by simpa [SV.ret,Nat.blt_eq] using hr)
 |.agg l,hr,hb=>by have:=NI h l hr hb;simp only[WY];exact .agg _ _ this.1 this.2
 |.tup l,hr,hb=>by have:=NI h l hr hb;simp only[WY];exact .tuple _ _ this.1 this.2
 |.box _ _,_,hb|.map _,_,hb=>by cases hb
 |.any,h,_|.bid _ _,h,_|.grd _ _,h,_|.sub _ _ _ _,h,_|.elp _ _ _ _,h,_|.rop _ _ _ _,h,_|.cp _ _,h,_|.fn _ _ _,h,_|.pf _ _ _ _,h,_=>by cases h
theorem NI {m:Nat}{S:Nat→Prop}{p q:Nat→Value}(h:∀ j,j<m→Weak S (p j) (q j)):∀ (s:List SV),SVs.ret m s=true→K6 s=true→(XR p s).length=(XR q s).length∧∀ (i:Nat) (a b:Value),(XR p s)[i]?=some a→(XR q s)[i]?=some b→Weak S a b
 |[],_,_=>⟨rfl,fun i v c hv=>by simp[XR] at hv⟩
 |s::ss,hr,hb=>by
  simp only[SVs.ret,Bool.and_eq_true] at hr;simp only[K6,Bool.and_eq_true] at hb;have h1:=TG h s hr.1 hb.1;have h2:=NI h ss hr.2 hb.2;refine⟨by simp[XR,h2.1],fun i v c hv hc=>?_⟩;cases i with
  |zero=>simp[XR] at hv hc;subst hv;subst hc;exact h1
  |succ i=>simp[XR] at hv hc;exact h2.2 i v c hv hc
end
theorem KC.ofEnc {h:Heap}:∀ {k:Kind}{x:k.T},k.flat=true→KC h k x (Ty k x)
 |.i _,_,_|.bo,_,_|.st,_,_=>by simp[KC,Ty]
 |.list _,_,f=>by cases f
 |.pair a b,x,f=>by simp only[Kind.flat,Bool.and_eq_true] at f;exact⟨_,_,rfl,KC.ofEnc f.1,KC.ofEnc f.2⟩
theorem Rows.ofEnc {h:Heap}{k:Kind}(hk:k.flat=true):∀ xs:List k.T,Rows (KC h k) xs (xs.map (Ty k)).flatten
 |[]=>.nil
 |x::xs=>by rw[List.map_cons,List.flatten_cons];exact .cons (KC.ofEnc hk) (Rows.ofEnc hk xs)
mutual
theorem P6 {pl:Nat→Value}{m:Nat}(h:∀ j,j<m→∃ a n c,pl j=.slice a n c):∀ (s:SV),s.ret m=true→WX s=true→SR P hNil pl Zr s (WY pl s)
 |.val k x,hr,hb=>by have h1:=KC.ofEnc (h:=hNil) (x:=x) hr;have h2:=KC.length h1;rw[Kind.one_size hb] at h2;obtain⟨c,e⟩:=List.length_eq_one_iff.1 h2;simp only[WY,SR,e,List.headD_cons];rw[e] at h1;exact h1
 |.nilS,_,_|.nilP,_,_|.nilM,_,_|.nilF,_,_=>by simp[WY,SR]
 |.lst j,hr,_=>by simp only[WY,SR];exact⟨trivial,h j (by simpa [SV.ret,Nat.blt_eq] using hr)⟩
 |.agg l,hr,hb=>by simp only[WY,SR];exact⟨_,rfl,P8 h l hr hb⟩
 |.tup l,hr,hb=>by simp only[WY,SR];exact⟨_,rfl,P8 h l hr hb⟩
 |.box _ _,_,hb|.map _,_,hb=>by cases hb
 |.any,h,_|.bid _ _,h,_|.grd _ _,h,_|.sub _ _ _ _,h,_|.elp _ _ _ _,h,_|.rop _ _ _ _,h,_|.cp _ _,h,_|.fn _ _ _,h,_|.pf _ _ _ _,h,_=>by cases h
theorem P8 {pl:Nat→Value}{m:Nat}(h:∀ j,j<m→∃ a n c,pl j=.slice a n c):∀ (s:List SV),SVs.ret m s=true→K6 s=true→SRs P hNil pl Zr s (XR pl s)
 |[],_,_=>by simp[XR,SRs]
 |s::ss,hr,hb=>by simp only[SVs.ret,Bool.and_eq_true] at hr;simp only[K6,Bool.and_eq_true] at hb;simp only[XR,SRs];exact⟨_,_,rfl,P6 h s hr.1 hb.1,P8 h ss hr.2 hb.2⟩
end
theorem OV {σ:Heap}{bs:List OB}(hl:bs.all OB.isL=true) {j:Nat}(hj:j<bs.length):∃ a n c,BY σ bs j=.slice a n c:=by
 have hb:=List.all_eq_true.1 hl _ (List.getElem_mem hj);simp only[BY,List.getElem?_eq_getElem hj];cases e:bs[j] with
 |lst ty k xs nl=>cases nl<;>simp
 |_=>rw[e] at hb;cases hb
theorem CF {σ0 σf:Heap}(hA:Agree σ0 σf) (hn:σ0.n≤σf.n) {v:SV}{bs:List OB}(hv:v.ret bs.length=true) (cG:WX v=true) (hb:bs.all OB.ret=true) (hl:bs.all OB.isL=true) {pl:Nat→Value}{u:Value}
  (ak:∀ j b,bs[j]?=some b→OR P hNil pl Zr σf (pl j) b∧∀ i,oid (pl j)=some i→σ0.n≤i)
  (cM:∀ j j' i,j<bs.length→j'<bs.length→j≠j'→oid (pl j)=some i→oid (pl j')=some i→False) (hu:SR P hNil pl Zr v u) :
  DropTo σ0 u σf (WY (BY σ0 bs) v) (BJ σ0 bs):=by
 have cB:=Yg v u hv cG hu;subst cB;have kind:∀ j,j<bs.length→∃ ty k xs nl,bs[j]?=some (.lst ty k xs nl)∧k.flat=true∧((nl=true∧xs=[]∧pl j=.slice none 0 0)∨(nl=false∧∃ i cap c t,pl j=.slice (some ⟨i,0,none⟩) xs.length cap∧xs.length≤cap∧σ0.n≤i∧σf.get i=some (.cells c ⟨k.size,ty⟩ true t)∧c.take (xs.length*k.size)=(xs.map (Ty k)).flatten∧Rows (KC hNil k) xs (xs.map (Ty k)).flatten)):=by
  intro j hj;have e:=List.getElem?_eq_getElem hj;have h1:=List.all_eq_true.1 hb _ (List.getElem_mem hj);have h2:=List.all_eq_true.1 hl _ (List.getElem_mem hj);obtain⟨ho,hi⟩:=ak j _ e;cases cX:bs[j] with
  |lst ty k xs nl =>
   rw[cX] at e ho h1;refine⟨ty,k,xs,nl,e,h1,?_⟩;rcases ho with⟨k1,k2,k3⟩|⟨k0,i,cap,c,t,k1,k2,k3,k4,k5⟩
   ·exact .inl ⟨k1,k2,k3⟩
   ·have k6:=Rows.enc h1 k5;exact .inr ⟨k0,i,cap,c,t,k1,k2,hi i (by rw[k1];rfl),k3,k6,by rw[←k6];exact k5⟩
  |_=>rw[cX] at h2;cases h2
 let S:Nat→Bool:=fun i=>(List.range bs.length).any fun j=>decide (oid (pl j)=some i);have hS:∀ i,S i=true↔∃ j,j<bs.length∧oid (pl j)=some i:=fun i=>by simp only[S,List.any_eq_true,List.mem_range,decide_eq_true_eq]
 let σw:Heap:=⟨fun i=>if S i=true then ((List.range bs.length).find? fun j=>decide (oid (pl j)=some i)).bind fun j=>(bs[j]?).bind Ii else σf.get i,σf.n,fun i hi=>by
  by_cases h:S i=true
  ·obtain⟨j,hj,aT⟩:=(hS i).1 h;obtain⟨ty,k,xs,nl,_,_,h3⟩:=kind j hj;rcases h3 with⟨_,_,k3⟩|⟨_,i',cap,c,t,k1,_,_,k3,_⟩
   ·rw[k3] at aT;cases aT
   ·rw[k1] at aT;obtain rfl:=osj aT;exact absurd (σf.lt k3) (Nat.not_lt.2 hi)
  ·rw[if_neg h];exact σf.wf i hi⟩
 have cT:∀ j i,j<bs.length→oid (pl j)=some i→σw.get i=(bs[j]?).bind Ii:=fun j i hj aT=>by
  have h1:S i=true:=(hS i).2 ⟨j,hj,aT⟩;show (if S i=true then _ else _)=_;rw[if_pos h1];cases hf:(List.range bs.length).find? fun j=>decide (oid (pl j)=some i) with
  |none=>have:=List.find?_eq_none.1 hf j (List.mem_range.2 hj);simp[aT] at this
  |some j' =>have h2:=List.find?_some hf;have h3:=List.mem_range.1 (List.mem_of_find?_eq_some hf);have h4:j'=j:=Classical.byContradiction fun aF=>cM j' j i h3 hj aF (by simpa using h2) aT;subst h4;rfl
 let q:Nat→Value:=fun j=>match pl j with
  |.slice (some a) n _=>.slice (some a) n n
  |v=>v
 have hq:∀ j,j<bs.length→Weak (fun i=>S i=true) (pl j) (q j):=fun j hj=>by
  obtain⟨ty,k,xs,nl,_,_,h3⟩:=kind j hj;rcases h3 with⟨_,_,k3⟩|⟨_,i',cap,c,t,k1,k2,_,k3,_⟩
  ·simp only[q,k3];exact .refl _
  ·simp only[q,k1];exact .sl _ _ _ ((hS i').2 ⟨j,hj,by rw[k1];rfl⟩) k2
 have oG:DropTo σ0 (WY pl v) σf (WY q v) σw:=by
  refine DropTo.weaken S (fun i hi=>?_) rfl hn (fun i hi=>?_) (fun i hi=>?_) (TG hq v hv cG)
  ·obtain⟨j,hj,aT⟩:=(hS i).1 hi;exact(ak j _ (List.getElem?_eq_getElem hj)).2 i aT
  ·show (if S i=true then _ else _)=_;rw[if_neg (by simp[hi])]
  ·obtain⟨j,hj,aT⟩:=(hS i).1 hi;obtain⟨ty,k,xs,nl,e,_,h3⟩:=kind j hj;rcases h3 with⟨_,_,k3⟩|⟨k0,i',cap,c,t,k1,k2,_,k3,k4,_⟩
   ·rw[k3] at aT;cases aT
   ·rw[k1] at aT;obtain rfl:=osj aT;refine⟨c,_,true,t,xs.length*k.size,k3,?_⟩;rw[cT j _ hj (by rw[k1];rfl),e];simp only[Option.bind_some,Ii,k0];rw[k4];rfl
 have iv:∀ j i,j<bs.length→oid (pl j)=some i→i<σf.n:=fun j i hj aT=>by
  obtain⟨ty,k,xs,nl,_,_,h3⟩:=kind j hj;rcases h3 with⟨_,_,k3⟩|⟨_,i',cap,c,t,k1,_,_,k3,_⟩
  ·rw[k3] at aT;cases aT
  ·rw[k1] at aT;obtain rfl:=osj aT;exact σf.lt k3
 let π:Nat→Nat:=fun i=>if i<σ0.n then i else match oid (pl (i-σ0.n)) with
  |some id=>id
  |none=>σf.n+i
 have wJ:σw.n=σf.n:=rfl;have oH:DropTo σ0 (WY q v) σw (WY (BY σ0 bs) v) (BJ σ0 bs):=by
  refine DropTo.rename2 π (by simp[BJ]) (fun i hi=>⟨by simp[π,hi],?_,.inl ?_⟩) (fun i h1 h2=>?_) (fun i j h1 h2 h3 h4 he=>?_) (SQ (fun j hj=>?_) v hv cG)
  ·have hs:S i=false:=by
    cases hs:S i with
    |false=>rfl
    |true=>obtain⟨j,hj,aT⟩:=(hS i).1 hs;have:=(ak j _ (List.getElem?_eq_getElem hj)).2 i aT;omega
   show (if i<σ0.n then _ else _)=(if S i=true then _ else _);rw[if_pos hi,if_neg (by simp[hs]),hA i hi]
  ·have hs:S i=false:=by
    cases hs:S i with
    |false=>rfl
    |true=>obtain⟨j,hj,aT⟩:=(hS i).1 hs;have:=(ak j _ (List.getElem?_eq_getElem hj)).2 i aT;omega
   show (if S i=true then _ else _)=_;rw[if_neg (by simp[hs]),hA i hi]
  ·have hj:i-σ0.n<bs.length:=by simp[BJ] at h2;omega
   have bj:¬ i<σ0.n:=by omega
   obtain⟨ty,k,xs,nl,e,ri,h3⟩:=kind _ hj;have oI:(BJ σ0 bs).get i=(bs[i-σ0.n]?).bind Ii:=by show (if i<σ0.n then _ else _)=_;rw[if_neg bj]
   rcases h3 with⟨k0,_,k3⟩|⟨k0,i',cap,c,t,k1,k2,l8,k3,k4,_⟩
   ·have hp:π i=σf.n+i:=by simp only[π,if_neg bj,k3,oid]
    refine⟨by omega,.inl ⟨?_,σw.wf _ (by rw[hp,wJ];omega)⟩⟩;rw[oI,e];simp[Ii,k0]
   ·have hp:π i=i':=by simp only[π,if_neg bj,k1,oid]
    rw[hp];have hw:=cT _ i' hj (by rw[k1];rfl);rw[e] at hw;simp only[Option.bind_some,Ii,k0] at hw;refine⟨l8,.inr ⟨_,_,?_,hw,BRen.plain ?_⟩⟩
    ·rw[oI,e];simp[Ii,k0]
    ·simp only[Blk.plain,List.all_flatten,List.all_map];rw[List.all_eq_true];intro x _;exact Nd ri
  ·have hi:i-σ0.n<bs.length:=by simp[BJ] at h2;omega
   have hj:j-σ0.n<bs.length:=by simp[BJ] at h4;omega
   have gj:¬ i<σ0.n:=by omega
   have wK:¬ j<σ0.n:=by omega
   simp only[π,if_neg gj,if_neg wK] at he;cases e1:oid (pl (i-σ0.n)) with
   |none =>
    cases e2:oid (pl (j-σ0.n)) with
    |none=>rw[e1,e2] at he;simp only at he;omega
    |some b=>rw[e1,e2] at he;have:=iv _ b hj e2;simp only at he;omega
   |some a =>
    cases e2:oid (pl (j-σ0.n)) with
    |none=>rw[e1,e2] at he;have:=iv _ a hi e1;simp only at he;omega
    |some b =>rw[e1,e2] at he;simp only at he;subst he;have:i-σ0.n=j-σ0.n:=Classical.byContradiction fun aF=>cM _ _ a hi hj aF e1 e2;omega
  ·obtain⟨ty,k,xs,nl,e,_,h3⟩:=kind j hj;rcases h3 with⟨k0,kx,k3⟩|⟨k0,i',cap,c,t,k1,k2,_,k3,_⟩
   ·simp only[BY,e,k0,if_true,q,k3];exact .plain _ rfl
   ·simp only[BY,e,k0,Bool.false_eq_true,if_false,q,k1];have hp:π (σ0.n+j)=i':=by
     have:¬ σ0.n+j<σ0.n:=by omega
     simp only[π,if_neg this,Nat.add_sub_cancel_left,k1,oid]
    have:=Ren.sl (n:=(BJ σ0 bs).n) (π:=π) (σ0.n+j) 0 xs.length xs.length (by simp[BJ];omega)
    rwa [hp] at this
 exact oG.trans oH
def OB.wfL:OB→Prop
 |.lst _ _ xs nl=>nl=true→xs=[]
 |_=>True
theorem T9 (σ0:Heap) {v:SV}{bs:List OB}(hv:v.ret bs.length=true) (cG:WX v=true) (hb:bs.all OB.ret=true) (hl:bs.all OB.isL=true) (hw:∀ b∈bs,b.wfL):Ret P σ0 v bs (WY (BY σ0 bs) v) (BJ σ0 bs):=by
 have kind:∀ j,j<bs.length→∃ ty k xs nl,bs[j]?=some (.lst ty k xs nl)∧k.flat=true∧(nl=true→xs=[]):=fun j hj=>by
  have e:=List.getElem?_eq_getElem hj;have h1:=List.all_eq_true.1 hb _ (List.getElem_mem hj);have h2:=List.all_eq_true.1 hl _ (List.getElem_mem hj);have h3:=hw _ (List.getElem_mem hj);cases cX:bs[j] with
  |lst ty k xs nl=>rw[cX] at e h1 h3;exact⟨ty,k,xs,nl,e,h1,h3⟩
  |_=>rw[cX] at h2;cases h2
 refine⟨⟨?_,?_⟩,?_,BY σ0 bs,fun j b hj=>?_,fun j j' i hj bq aF h1 h2=>?_,P6 (fun j hj=>OV hl hj) v hv cG⟩
 ·refine⟨by simp[BJ],fun i b hg=>?_⟩;show (if i<σ0.n then _ else _)=_;rw[if_pos (σ0.lt hg)];exact hg
 ·refine⟨by simp[BJ],fun i hi hg=>?_⟩;show (if i<σ0.n then _ else _)=_;rw[if_pos hi];exact hg
 ·rintro rfl;apply Heap.ext'
  ·intro i;show (if i<σ0.n then _ else _)=_;by_cases hi:i<σ0.n
   ·rw[if_pos hi]
   ·rw[if_neg hi,σ0.wf i (by omega)];rfl
  ·simp[BJ]
 ·have cr:j<bs.length:=(List.getElem?_eq_some_iff.1 hj).1;obtain⟨ty,k,xs,nl,e,ri,h3⟩:=kind j cr;obtain rfl:=osj (e.symm.trans hj);cases nl with
  |true =>
   have hp:BY σ0 bs j=.slice none 0 0:=by simp[BY,e]
   rw[hp];exact⟨.inl ⟨rfl,h3 rfl,rfl⟩,fun i hi=>by cases hi⟩
  |false =>
   have hp:BY σ0 bs j=.slice (some ⟨σ0.n+j,0,none⟩) xs.length xs.length:=by simp[BY,e]
   have k5:=Rows.ofEnc (h:=hNil) ri xs;have cJ:=k5.length KC.rows_len;rw[hp];refine⟨.inr ⟨rfl,σ0.n+j,xs.length,(xs.map (Ty k)).flatten,false,rfl,Nat.le_refl _,?_,by omega,?_⟩,fun i hi=>?_⟩
   ·show (if σ0.n+j<σ0.n then _ else _)=_;rw[if_neg (by omega),Nat.add_sub_cancel_left,e];simp[Ii]
   ·rw[List.take_of_length_le (by omega)];exact k5
   ·obtain rfl:=osj hi;exact⟨σ0.wf _ (by simp),by simp⟩
 ·obtain⟨ty,k,xs,nl,e,_,h3⟩:=kind j hj;obtain⟨iZ,k',cI,lT,e',_,gU⟩:=kind j' bq;simp only[BY,e] at h1;simp only[BY,e'] at h2;cases nl with
  |true=>simp[Oid,oid] at h1
  |false =>
   cases lT with
   |true=>simp[Oid,oid] at h2
   |false=>simp[Oid,oid] at h1 h2;omega
end
end Go.V
namespace Go.V
open Go
section
variable {P:Program}{B F:Heap}{pl:Nat→Value}{tb:Nat→Option Bool}{own:Own}{σ:Heap}
mutual
theorem LW {bx:List SV→Nat→SV}(hle:B.Le σ) (aA:∀ d,OR P B pl tb σ (pl d) (Q6 own d))
  (kL:∀ l off b c e t,σ.get b=some (.cells c e true t)→SRs P B pl tb l c→SR P σ J3 Zr (bx l off) (.pointer (some ⟨b,off,none⟩))) :
  ∀ (s:SV) (v:Value),SR P B pl tb s v→SR P σ J3 Zr (DU own bx s) v
 |.any,v,h=>by simp[DU,SR]
 |.val k x,v,h=>by simp only[DU,SR] at h ⊢;exact h.mono hle
 |.bid n c,v,h=>by simp only[DU,SR] at h ⊢;obtain⟨rfl,_⟩:=h;rfl
 |.grd gs s,v,h=>by simp[DU,SR]
 |.nilS,v,h=>by simp only[DU,SR] at h ⊢;exact h
 |.nilP,v,h=>by simp only[DU,SR] at h ⊢;exact h
 |.nilM,v,h=>by simp only[DU,SR] at h ⊢;exact h
 |.nilF,v,h=>by simp only[DU,SR] at h ⊢;exact h
 |.lst o,v,h=>by
  simp only[DU];split
  ·rename_i ty k xs nl ho;have:view own k (.lst o)=some xs:=by simp[view,ho,Y_]
   simp only[SR,KC];exact⟨v,rfl,(Jt hle aA this h).mono (Heap.Le.refl _) fun _ _ e=>e.mono hle⟩
  ·simp[SR]
 |.sub o lo n sz,v,h=>by
  simp only[DU];split
  ·rename_i ty k xs nl ho;split
   ·rename_i az;have:view own k (.sub o lo n sz)=some ((xs.drop lo).take n):=by simp[view,ho,Y_,az]
    simp only[SR,KC];exact⟨v,rfl,(Jt hle aA this h).mono (Heap.Le.refl _) fun _ _ e=>e.mono hle⟩
   ·simp[SR]
  ·simp[SR]
 |.elp o i off sz,v,h=>by simp[DU,SR]
 |.dd o w,v,h=>by
  simp only[DU];simp only[SR] at h;split
  ·rename_i ty q k xs nl hole ho;have ak:=aA o;rw[ho] at ak;have dg:=DP.le ak;split
   ·split
    ·obtain⟨h1,_⟩:=h;simp only[SR,KC];refine⟨v,rfl,?_⟩;rw[h1];exact(DP.sl ak).mono dg fun _ _ e=>e.mono dg
    ·simp[SR]
   ·simp only[SR];exact KC.mono dg h
   ·simp only[SR];exact KC.mono dg h.1
   ·simp[SR]
  ·simp[SR]
 |.map o,v,h=>by simp[DU,SR]
 |.tup l,v,h=>by simp[DU,SR]
 |.box o off,v,h=>by
  simp only[DU];split
  ·rename_i l _ ho;have ak:=aA o;rw[ho] at ak;obtain⟨i,c,e,t,h1,h2,h3,_⟩:=ak;simp only[SR] at h;obtain⟨b,h4,rfl⟩:=h;rw[h4] at h1;obtain rfl:=(by simpa using h1:b=i);exact kL l off b c e t h2 h3
  ·simp[SR]
 |.rop k l i off,v,h=>by simp only[DU];exact SR.mono (tb:=tb) hle (fun n c hn=>hn) (.rop k l i off) v h |> fun h=>by simp only[SR] at h ⊢;exact h
 |.cp l off,v,h=>by simp only[DU,SR] at h ⊢;obtain⟨b,c,e,wr,t,h1,h2,h3⟩:=h;exact⟨b,c,e,wr,t,hle.2 _ _ h1,h2,ZZ hle aA kL l c h3⟩
 |.agg l,v,h=>by simp only[DU,SR] at h ⊢;obtain⟨cs,h1,h2⟩:=h;exact⟨cs,h1,ZZ hle aA kL l cs h2⟩
 |.fn f a b,v,h=>by simp only[DU,SR] at h ⊢;obtain⟨x,y,h1,h2,h3⟩:=h;exact⟨x,y,h1,ZZ hle aA kL a x h2,ZZ hle aA kL b y h3⟩
 |.pf ks r cH p,v,h=>by simp only[DU,SR] at h ⊢;exact h.mono hle
theorem ZZ {bx:List SV→Nat→SV}(hle:B.Le σ) (aA:∀ d,OR P B pl tb σ (pl d) (Q6 own d))
  (kL:∀ l off b c e t,σ.get b=some (.cells c e true t)→SRs P B pl tb l c→SR P σ J3 Zr (bx l off) (.pointer (some ⟨b,off,none⟩))) :
  ∀ (s:List SV) (v:List Value),SRs P B pl tb s v→SRs P σ J3 Zr (GY own bx s) v
 |[],v,h=>by simp only[GY,SRs] at h ⊢;exact h
 |s::ss,v,h=>by simp only[GY,SRs] at h ⊢;obtain⟨x,y,h1,h2,h3⟩:=h;exact⟨x,y,h1,LW hle aA kL s x h2,ZZ hle aA kL ss y h3⟩
end
theorem Yb (hle:B.Le σ) (aA:∀ d,OR P B pl tb σ (pl d) (Q6 own d)) {l:List SV}{v:List Value}(h:SRs P B pl tb l v):SRs P σ J3 Zr (G0 own l) v:=by
 have h0:∀ {l v},SRs P B pl tb l v→SRs P σ J3 Zr (Q7h own l) v:=fun h=>ZZ hle aA (fun _ _ _ _ _ _ _ _=>by simp[SR]) _ _ h;have h1:∀ {l v},SRs P B pl tb l v→SRs P σ J3 Zr (Q7i own l) v:=fun h=>ZZ hle aA (fun l off b c e t hg hs=>by
  simp only[SR];exact⟨b,c,e,true,t,hg,rfl,h0 hs⟩) _ _ h
 exact ZZ hle aA (fun l off b c e t hg hs=>by
  simp only[SR];exact⟨b,c,e,true,t,hg,rfl,h1 hs⟩) _ _ h
mutual
theorem EF {p q:Nat→Value}{n:Nat}(h:∀ j,j<n→p j=q j):∀ (s:SV),s.ret n=true→WY p s=WY q s
 |.val _ _,_|.nilS,_|.nilP,_|.nilM,_|.nilF,_=>by simp[WY]
 |.lst j,hr=>by simp only[WY];exact h j (by simpa [SV.ret,Nat.blt_eq] using hr)
 |.agg l,hr=>by simp only[WY];rw[HA h l hr]
 |.tup l,hr=>by simp only[WY];rw[HA h l hr]
 |.box _ _,_|.map _,_=>by simp[WY]
 |.dd _ _,_=>by simp[WY]
 |.any,h|.bid _ _,h|.grd _ _,h|.sub _ _ _ _,h|.elp _ _ _ _,h|.rop _ _ _ _,h|.cp _ _,h|.fn _ _ _,h|.pf _ _ _ _,h=>by cases h
theorem HA {p q:Nat→Value}{n:Nat}(h:∀ j,j<n→p j=q j):∀ (s:List SV),SVs.ret n s=true→XR p s=XR q s
 |[],_=>rfl
 |s::ss,hr=>by simp only[SVs.ret,Bool.and_eq_true] at hr;simp only[XR];rw[EF h s hr.1,HA h ss hr.2]
end
theorem Z1 {cs:List (Nat×CSp)}(aB:CsOk P cs) {f:SV}{args:List SV}{c:Prop}{v:SV}{bs:List OB}{fV:Value}{vs:List Value}(hf:SR P σ J3 Zr f fV) (ha:SRs P σ J3 Zr args vs)
  (h:WK cs f args=some (c,v,bs)) (hv:v.ret bs.length=true) (hb:bs.all OB.ret=true) (hc:c):∃ g a b,fV=.func (.func g) a b∧(VCalled P g (a.toList++vs++b.toList) σ fun u σ'=>Ret P σ v bs u σ') ∧
  (bs.all OB.isL=true→WX v=true→VCalled P g (a.toList++vs++b.toList) σ fun u σ'=>u=WY (BY σ bs) v∧σ'=BJ σ bs):=by
 have gen:(gap cs 3 f args).map (fun x=>(x.1,x.2,([]:List OB)))=some (c,v,bs)→∃ g a b,fV=.func (.func g) a b∧(VCalled P g (a.toList++vs++b.toList) σ fun u σ'=>Ret P σ v bs u σ') ∧
   (bs.all OB.isL=true→WX v=true→VCalled P g (a.toList++vs++b.toList) σ fun u σ'=>u=WY (BY σ bs) v∧σ'=BJ σ bs):=fun h=>by
  simp only[Option.map_eq_some_iff] at h;obtain⟨⟨c',v'⟩,h1,h2⟩:=h;simp only[Prod.mk.injEq] at h2;obtain⟨rfl,rfl,rfl⟩:=h2;obtain⟨h3,g,a,b,rfl,h4⟩:=Eu aB 3 σ f args c' v' fV vs hf ha h1 hc;refine⟨g,a,b,rfl,h4.mono fun u σ' hu=>?_,fun _ cG=>h4.mono fun u σ' hu=>?_⟩
  ·obtain⟨rfl,hu⟩:=hu;exact⟨⟨Heap.Le.refl _,Dead.refl _⟩,fun _=>rfl,J3,(fun j b hj=>by simp at hj),(fun j j' i hj=>by simp at hj),hu⟩
  ·obtain⟨rfl,hu⟩:=hu;have hz:BJ σ' []=σ':=(T9 (P:=P) σ' (v:=v') (bs:=[]) h3 cG rfl rfl (fun b hb=>by cases hb)).2.1 rfl;refine⟨?_,hz.symm⟩;rw[Yg v' u h3 cG hu];exact EF (fun j hj=>by omega) v' h3
 cases f with
 |fn g a b =>
  simp only[WK] at h;split at h
  ·rename_i sp gT;simp only[SR] at hf;obtain⟨x,y,rfl,h1,h2⟩:=hf;refine⟨g,x.toArray,y.toArray,rfl,?_⟩;simpa using aB g sp gT (gap cs 3) (Eu aB 3) σ (a++args++b) (x++vs++y) c v bs ((h1.append ha).append h2) h hv hb hc
  ·cases h
 |_=>exact gen h
theorem Gam.heap_get {s:St}{env:Env}{σ':Heap}(h:Gam P B F pl tb s env σ) (hl:σ.Le σ') {d:Nat}(ah:(Q6 s.own d).live=true) {i:Nat}(hi:Oid (pl d) i):σ'.get i=σ.get i:=by
  have aj:=(h.obj d).id_lt ah hi;cases hb:σ.get i with
  |none =>
   have ak:=h.obj d;cases ho:Q6 s.own d with
   |dead=>rw[ho] at ah;cases ah
   |lst ty k xs nl =>
    rw[ho] at ak;rcases ak with⟨_,_,h2⟩|⟨_,i',cap,c,t,h2,_,h3,_⟩
    ·rw[h2] at hi;cases hi
    ·rw[h2] at hi;obtain rfl:=osj hi;rw[h3] at hb;cases hb
   |cells l u=>rw[ho] at ak;obtain⟨i',c,e,t,h2,h3,_⟩:=ak;rw[h2] at hi;obtain rfl:=osj hi;rw[h3] at hb;cases hb
   |mapE kk vk m key n=>rw[ho] at ak;obtain⟨i',es,cl,r,e,h2,h3,_⟩:=ak;rw[h2] at hi;obtain rfl:=osj hi;rw[h3] at hb;cases hb
   |map kk vk m=>rw[ho] at ak;obtain⟨i',es,cl,h2,h3,_⟩:=ak;rw[h2] at hi;obtain rfl:=osj hi;rw[h3] at hb;cases hb
   |stk l vals=>rw[ho] at ah;cases ah
   |lpf l q s=>rw[ho] at ak ah;obtain⟨h2,_,h3⟩:=ak;rw[h2] at hi;obtain rfl:=osj hi;have h3:=h3 ah;rw[hb] at h3;cases h3
   |iter kk vk m dn=>rw[ho] at ak;obtain⟨j',i',es,cl,wr,seen,h2,h3,_⟩:=ak;rw[h2] at hi;obtain rfl:=osj hi;rw[h3] at hb;cases hb
   |deep ty q k xs nl hh =>rw[ho] at ak;obtain⟨is,_,d2,d3,_⟩:=DP.open ak;obtain⟨c,e,t,h⟩:=d2.cells i ((d3 i).1 hi);rw[h] at hb;cases hb
  |some b=>rw[hl.2 i b hb]
theorem Gam.heap {s:St}{env:Env}{σ':Heap}(h:Gam P B F pl tb s env σ) (hl:σ.Le σ'):Gam P B F pl tb s env σ' :=
 ⟨h.bf,h.le.trans hl,h.env,fun d=>(h.obj d).mono (Heap.Le.refl _) (fun _ _ h=>h) fun ah _i hi=>h.heap_get hl ah hi,h.fresh,h.sep,h.free⟩
theorem GM {env:Env}{σ0:Heap}{d nt:Nat}(dW:0<nt) (gw:Nat→Value) (bs:List OB) (hB:F.Le σ0)
  (ak:∀ j b,bs[j]?=some b→b.ret=true∧OR P hNil gw Zr σ (gw j) b∧∀ i,Oid (gw j) i→σ0.n≤i)
  (cM:∀ j j' i,j<bs.length→j'<bs.length→j≠j'→Oid (gw j) i→Oid (gw j') i→False) :
  ∀ (r:List OB) (j:Nat) (pl:Nat→Value) (s:St),bs.drop j=r→Gam P B F pl tb s env σ→(∀ k i,(Q6 s.own k).live=true→Oid (pl k) i→i<σ0.n∨∃ j'<j,j'<bs.length∧Oid (gw j') i∧k=d+j'*nt)→(∀ j'<j,j'<bs.length→pl (d+j'*nt)=gw j') →
   ∃ pl',Gam P B F pl' tb (s.makes d nt j r) env σ∧(∀ j'<bs.length,pl' (d+j'*nt)=gw j')∧∀ q,(∀ j'<bs.length,q≠d+j'*nt)→pl' q=pl q∧(Q6 (s.makes d nt j r).own q).live=(Q6 s.own q).live
 |[],j,pl,s,hr,hG,_,hp=>⟨pl,hG,fun j' bq=>hp j' (by
   have:=congrArg List.length hr;simp at this;omega) bq,fun q _=>⟨rfl,rfl⟩⟩
 |b::r,j,pl,s,hr,hG,hinv,hp=>by
  have cr:j<bs.length:=by
   rcases Nat.lt_or_ge j bs.length with h|h
   ·exact h
   ·rw[List.drop_eq_nil_of_le h] at hr;cases hr
  have cX:bs[j]?=some b:=by
   have:(bs.drop j)[0]?=some b:=by rw[hr];rfl
   simpa using this
  have lk:bs.drop (j+1)=r:=by
   have:(bs.drop j).drop 1=r:=by rw[hr];rfl
   simpa [List.drop_drop,Nat.add_comm] using this
  obtain⟨h1,h2,h3⟩:=ak j b cX;have bM:∀ j' ,j'≠j→d+j'*nt≠d+j*nt:=fun j' aF e=>aF (Nat.eq_of_mul_eq_mul_right dW (by omega));obtain⟨pl',k1,k2,k3⟩:∃ pl',Gam P B F pl' tb ((s.make (d+j*nt) b).makes d nt (j+1) r) env σ∧(∀ j'<bs.length,pl' (d+j'*nt)=gw j')∧∀ q,(∀ j'<bs.length,q≠d+j'*nt)→pl' q=QO pl (d+j*nt) (gw j) q∧(Q6 ((s.make (d+j*nt) b).makes d nt (j+1) r).own q).live=(Q6 (s.make (d+j*nt) b).own q).live:=by
   refine GM dW gw bs hB ak cM r (j+1) (QO pl (d+j*nt) (gw j)) _ lk (hG.make (d+j*nt) b (gw j) hG.le (fun _ _ _ _ _=>rfl) (h2.retd h1 fun _ _=>rfl) fun i _ hi=>⟨F.wf _ (by have:=h3 i hi;have:=hB.1;omega),fun k hk hl e=>?_⟩) (fun k i hl hi=>?_) fun j' bq rj=>?_
   ·rcases hinv k i hl e with h|⟨j',bq,fl,he,_⟩
    ·have:=h3 i hi;omega
    ·exact cM j j' i cr fl (by omega) hi he
   ·by_cases hk:k=d+j*nt
    ·subst hk;simp only[QO,if_true] at hi;exact .inr ⟨j,by omega,cr,hi,rfl⟩
    ·have bN:(Q6 s.own k).live=true:=by
      simp only[St.make,St.kill,Qb,XX,if_neg hk] at hl
      rwa [OB.live_kill] at hl
     simp only[QO,if_neg hk] at hi;rcases hinv k i bN hi with h|⟨j',bq,h5⟩
     ·exact .inl h
     ·exact .inr ⟨j',by omega,h5⟩
   ·by_cases e:j'=j
    ·subst e;simp[QO]
    ·simp only[QO,if_neg (bM j' e)];exact hp j' (by omega) rj
  refine⟨pl',k1,k2,fun q hq=>?_⟩;obtain⟨e1,e2⟩:=k3 q hq;refine⟨by rw[e1];simp[QO,hq j cr],?_⟩;show (Q6 ((s.make (d+j*nt) b).makes d nt (j+1) r).own q).live=_;rw[e2];simp only[St.make,St.kill,Qb,XX,if_neg (hq j cr),OB.live_kill]
theorem Ret.gamF {s:St}{env:Env}{d nt:Nat}(dW:0<nt) (hG:Gam P B F pl tb s env σ) {v:SV}{bs:List OB}{u:Value}{σ':Heap}(hv:v.ret bs.length=true) (hb:bs.all OB.ret=true) (h:Ret P σ v bs u σ') :
  ∃ pl',Gam P B F pl' tb (s.makes d nt 0 bs) env σ'∧SR P B pl' tb (v.ren d nt) u∧∀ q,(∀ j'<bs.length,q≠d+j'*nt)→(Q6 (s.makes d nt 0 bs).own q).live=(Q6 s.own q).live∧pl' q=pl q∧((Q6 s.own q).live=true→∀ i,Oid (pl q) i→σ'.get i=σ.get i):=by
 obtain⟨⟨h1,_⟩,_,gw,h2,h3,h4⟩:=h
 obtain⟨pl',h5,h6,h7⟩:=GM (tb:=tb) (d:=d) dW gw bs hG.le (fun j b hj=>⟨List.all_eq_true.1 hb b (List.mem_of_getElem? hj),(h2 j b hj).1,fun i hi=>((h2 j b hj).2 i hi).2⟩) h3 bs 0 pl s rfl (hG.heap h1)
  (fun k i hl hi=>.inl ((hG.obj k).id_lt hl hi)) (fun j' bq=>by omega)
 exact⟨pl',h5,SR.ren (tb:=Zr) (fun j hj=>h6 j hj) _ _ hv (SR.mono (tb:=Zr) (tb':=Zr) (Sf B) (fun _ _ h=>h) _ _ h4),fun q hq=>⟨(h7 q hq).2,(h7 q hq).1,fun hl i hi=>hG.heap_get h1 hl hi⟩⟩
theorem Ret.gam {s:St}{env:Env}{d nt:Nat}(dW:0<nt) (hG:Gam P B F pl tb s env σ) {v:SV}{bs:List OB}{u:Value}{σ':Heap}(hv:v.ret bs.length=true) (hb:bs.all OB.ret=true) (h:Ret P σ v bs u σ') :
  ∃ pl',Gam P B F pl' tb (s.makes d nt 0 bs) env σ'∧SR P B pl' tb (v.ren d nt) u:=by
 obtain⟨pl',h1,h2,_⟩:=h.gamF dW hG hv hb;exact⟨pl',h1,h2⟩
end
end Go.V
namespace Go.V
open Go
section
variable {P:Program}
structure GBase (B0 F0 D0 B F σ:Heap):Prop where
 b:B0.Le B
 f:F0.Le F
 x:∀ i b,F0.get i=some b→B0.get i=none→B.get i=none
 d:Dead D0 σ
theorem GBase.of {B F σ:Heap}{σ':Heap}(_hB:B.Le F) (h:Dead σ σ'):GBase B F σ B F σ':=⟨.refl _,.refl _,fun _ _ _ h=>h,h⟩
theorem GBase.trans {B0 F0 D0 B F σ B' F' σ':Heap}(h:GBase B0 F0 D0 B F σ) (h':GBase B F σ B' F' σ'):GBase B0 F0 D0 B' F' σ' :=
 ⟨h.b.trans h'.b,h.f.trans h'.f,fun i b h1 h2=>h'.x i b (h.f.2 _ _ h1) (h.x i b h1 h2),h.d.trans h'.d⟩
def GRel (P:Program) (B0 F0 D0:Heap) (s:St) (env:Env) (σ:Heap):Prop:=∃ B F pl tb,GBase B0 F0 D0 B F σ∧Gam P B F pl tb s env σ
theorem VX {B0 F0 D0 B F:Heap}{σ σ':Heap}(hB:GBase B0 F0 D0 B F σ) (h:Dead σ σ'):GBase B0 F0 D0 B F σ':=⟨hB.b,hB.f,hB.x,hB.d.trans h⟩
theorem Gam.evs {B F:Heap}{pl:Nat→Value}{tb:Nat→Option Bool}{s:St}{env:Env}{σ:Heap}(h:Gam P B F pl tb s env σ) {gs:List Gd}(hg:Gds tb gs) (x:Operand):SR P B pl tb (gev gs s.env x) (Q4 env x):=AS hg h.env x
theorem Gds.nil {tb:Nat→Option Bool}:Gds tb []:=fun _ h=>by cases h
theorem Cf {gs:List Gd}{c:Prop}(h:Fo gs c) (hg:∀ g∈gs,g.c=g.want):c:=by
 induction gs with
 |nil=>exact h
 |cons g gs ih=>exact ih (h (hg g (by simp))) fun g' dI=>hg g' (by simp[dI])
theorem QU {gs:List Gd}{cs:List Prop}{q:Prop}(h:Ns gs cs q):q∧((∀ g∈gs,g.c=g.want)→∀ c∈cs,c):=by
 induction cs with
 |nil=>exact⟨h,fun _ c hc=>by cases hc⟩
 |cons c cs ih =>
  obtain⟨h1,h2⟩:=h;obtain⟨h3,h4⟩:=ih h2;exact⟨h3,fun hg c' cN=>by
   rcases List.mem_cons.1 cN with rfl|cN
   ·exact Cf h1 hg
   ·exact h4 hg c' cN⟩
theorem Dead.push (σ:Heap) (b:Blk):Dead σ (σ.push b):=⟨by simp,fun i hi h=>by rw[Heap.get_push_lt _ _ hi];exact h⟩
theorem Dead.upd (σ:Heap) (j:Nat) (b:Blk) (hj:(σ.get j).isSome=true):Dead σ (σ.upd j b):=⟨by simp,fun i hi h=>by
 have:i≠j:=fun e=>by subst e;rw[h] at hj;cases hj
 rw[Heap.get_upd_ne _ _ this];exact h⟩
theorem Dead.kill (σ:Heap) (j:Nat):Dead σ (σ.kill j):=⟨by simp,fun i hi h=>by
 by_cases e:i=j
 ·subst e;exact Heap.get_kill_self _ _
 ·rw[Heap.get_kill_ne _ e];exact h⟩
theorem PU {e:El}{bytes m:Nat}{σ σ':Heap}{s u:Value}{xs:List Value}(h:Zl e bytes σ s m xs=some (u,σ')):Dead σ σ':=by
 unfold Zl at h;split at h
 ·split at h
  ·obtain⟨rfl,rfl⟩:=Qx h;exact Dead.refl _
  ·split at h
   ·obtain⟨rfl,rfl⟩:=Qx h;exact Dead.push _ _
   ·cases h
 ·split at h
  ·rename_i hg;split at h
   ·split at h
    ·obtain⟨rfl,rfl⟩:=Qx h;exact Dead.refl _
    ·split at h
     ·split at h
      ·obtain⟨rfl,rfl⟩:=Qx h;exact Dead.upd _ _ _ (by rw[hg];rfl)
      ·cases h
     ·split at h
      ·split at h
       ·obtain⟨rfl,rfl⟩:=Qx h;exact Dead.push _ _
       ·split at h
        ·obtain⟨rfl,rfl⟩:=Qx h;exact(Dead.kill _ _).trans (Dead.push _ _)
        ·cases h
      ·cases h
   ·cases h
  ·cases h
 ·cases h
theorem Wl {o:VOp}{ev:Operand→Value}{σ σ':Heap}{u:Value}(h:Q5 o ev σ=some (u,σ')):Dead σ σ':=by
 by_cases hk:o.kind=2
 ·cases o<;>first|(cases hk;done)|skip
  case alloc t z=>obtain⟨rfl,rfl⟩:=Qx h;exact Dead.push _ _
  case box t x =>
   simp only[Q5] at h;split at h
   ·obtain⟨rfl,rfl⟩:=Qx h;exact Dead.push _ _
   ·cases h
  case buildSlice e z n ps =>
   simp only[Q5] at h;split at h
   ·obtain⟨rfl,rfl⟩:=Qx h;exact Dead.push _ _
   ·cases h
  case makeSlice e b z l c =>
   simp only[Q5] at h;split at h
   ·split at h
    ·obtain⟨rfl,rfl⟩:=Qx h;exact Dead.push _ _
    ·cases h
   ·cases h
  case store size a x =>
   simp only[Q5] at h;split at h
   ·split at h
    ·rename_i hg;split at h
     ·obtain⟨rfl,rfl⟩:=Qx h;exact Dead.upd _ _ _ (by rw[hg];rfl)
     ·cases h
    ·cases h
   ·cases h
  case append e b x y =>
   simp only[Q5] at h;split at h
   ·split at h
    ·exact PU h
    ·cases h
   ·cases h
  case slice size x lo hi mx =>
   simp only[Q5] at h;split at h
   ·have sl:∀ {l hh:Nat}{m:Option Nat}{v:Value},XF size σ v l hh m=some (u,σ')→Dead σ σ':=fun {l hh m v} h=>by
     unfold XF at h;split at h
     ·split at h
      ·obtain⟨rfl,rfl⟩:=Qx h;exact Dead.refl _
      ·cases h
     ·split at h
      ·split at h
       ·split at h
        ·obtain⟨rfl,rfl⟩:=Qx h;exact Dead.refl _
        ·cases h
       ·split at h
        ·split at h
         ·obtain⟨rfl,rfl⟩:=Qx h;exact Dead.push _ _
         ·obtain⟨rfl,rfl⟩:=Qx h;exact Dead.refl _
        ·cases h
      ·cases h
     ·cases h
    split at h
    ·exact sl h
    ·split at h
     ·exact sl h
     ·cases h
    ·cases h
   ·cases h
  case callF f a=>cases h
  case callV f a=>cases h
  case ext x =>
   cases x<;>first|(cases hk;done)|skip
   case makeMap=>obtain⟨rfl,rfl⟩:=Qx h;exact Dead.push _ _
   case mapUpdate mk m k v =>
    simp only[Q5,QM] at h;split at h
    ·split at h
     ·rename_i hm;split at h
      ·obtain⟨rfl,rfl⟩:=Qx h;refine Dead.upd _ _ _ ?_;unfold Heap.mapAt at hm;split at hm
       ·rename_i hg;rw[hg];rfl
       ·cases hm
      ·cases h
     ·cases h
    ·cases h
   case mapEntry mk z m k =>
    simp only[Q5,QM] at h;split at h
    ·split at h
     ·rename_i hm;split at h
      ·split at h
       all_goals
        obtain⟨rfl,rfl⟩:=Qx h;refine Dead.upd _ _ _ ?_;unfold Heap.mapAt at hm;split at hm
        ·rename_i hg;rw[hg];rfl
        ·cases hm
      ·cases h
     ·cases h
    ·cases h
   case entryStore m s v =>
    simp only[Q5,QM] at h;split at h
    ·split at h
     ·rename_i hm;split at h
      ·split at h
       ·obtain⟨rfl,rfl⟩:=Qx h;refine Dead.upd _ _ _ ?_;unfold Heap.mapAt at hm;split at hm
        ·rename_i hg;rw[hg];rfl
        ·cases hm
       ·cases h
      ·cases h
     ·cases h
    ·cases h
   case delete mk m k =>
    simp only[Q5,QM] at h;split at h
    ·split at h
     ·rename_i hm;split at h
      ·obtain⟨rfl,rfl⟩:=Qx h;refine Dead.upd _ _ _ ?_;unfold Heap.mapAt at hm;split at hm
       ·rename_i hg;rw[hg];rfl
       ·cases hm
      ·cases h
     ·cases h
    ·cases h
   case rangeMap x =>
    simp only[Q5,QM] at h;split at h
    ·split at h
     ·obtain⟨rfl,rfl⟩:=Qx h;exact Dead.push _ _
     ·cases h
    ·cases h
   case nextMap x=>cases h
   case copy size a b =>
    simp only[Q5,QM] at h;split at h
    ·split at h
     ·obtain⟨rfl,rfl⟩:=Qx h;exact Dead.refl _
     ·split at h
      ·split at h
       ·rename_i hg;split at h
        ·obtain⟨rfl,rfl⟩:=Qx h;exact Dead.upd _ _ _ (by rw[hg];rfl)
        ·cases h
       ·cases h
      ·cases h
    ·cases h
   case clear z x =>
    simp only[Q5,QM] at h;split at h
    ·split at h
     ·obtain⟨rfl,rfl⟩:=Qx h;exact Dead.refl _
     ·split at h
      ·split at h
       ·rename_i hg;split at h
        ·obtain⟨rfl,rfl⟩:=Qx h;exact Dead.upd _ _ _ (by rw[hg];rfl)
        ·cases h
       ·cases h
      ·cases h
    ·cases h
   case strBytes e x =>
    simp only[Q5,QM] at h;split at h
    ·split at h
     ·obtain⟨rfl,rfl⟩:=Qx h;exact Dead.push _ _
     ·cases h
    ·cases h
   case unsafeStr e x n =>
    simp only[Q5,QM] at h;split at h
    ·split at h
     ·obtain⟨rfl,rfl⟩:=Qx h;exact Dead.refl _
     ·split at h
      ·split at h
       ·rename_i hg;split at h
        ·split at h
         ·obtain⟨rfl,rfl⟩:=Qx h;exact Dead.upd _ _ _ (by rw[hg];rfl)
         ·cases h
        ·cases h
       ·cases h
      ·cases h
    ·cases h
 ·obtain rfl:=UZ hk h;exact Dead.refl _
theorem Kb {B F:Heap}{pl:Nat→Value}{tb:Nat→Option Bool}{s:St}{env:Env}{σ:Heap}(hG:Gam P B F pl tb s env σ) {x:Operand}{b:Bool}(h:TR s.env x=some b):Q4 env x=.bool b:=by
 unfold TR at h;split at h
 ·rename_i j;split at h
  ·rename_i gs v he;split at h
   ·split at h
    ·rename_i k y;split at h
     ·obtain rfl:=osj h;have:=hG.env.getD j undef;rw[he] at this;simp only[SR] at this;have h2:=this.2.1 (fun g hg=>by cases hg);have h3:[env.getD j undef]=[Value.bool _]:=h2;exact(List.cons.inj h3).1
     ·cases h
    ·cases h
   ·cases h
  ·cases h
 ·cases h
theorem W6 {B F:Heap}{pl:Nat→Value}{tb:Nat→Option Bool}{s:St}{env:Env}{σ:Heap}(hG:Gam P B F pl tb s env σ) {g:Option (Nat×Bool)}{t:Bool}(h:ER s.env g=some t):Z9 env g=some t:=by
 unfold ER at h;split at h
 ·cases h
 ·rename_i j want;split at h
  ·rename_i b hb;obtain rfl:=osj h;have:=Kb hG hb;simp only[Q4] at this;simp only[Z9,this]
  ·cases h
theorem Yq {B F:Heap}{pl:Nat→Value}{tb:Nat→Option Bool}{s:St}{env:Env}{σ:Heap}(hG:Gam P B F pl tb s env σ) {gs:List Gd}(hg:Gds tb gs) {c a b:Operand}{v:SV}(h:A8 gs s.env c a b=some v) :
  ∃ u,Q5 (.pick c a b) (Q4 env) σ=some (u,σ)∧SR P B pl tb v u:=by
 unfold A8 at h;split at h
 ·rename_i t ht;have e:=Kb hG ht;obtain rfl:=osj h;cases t with
  |true=>exact⟨Q4 env a,by simp only[Q5,e];rfl,hG.evs hg a⟩
  |false=>exact⟨Q4 env b,by simp only[Q5,e];rfl,hG.evs hg b⟩
 have hc:=hG.evs hg c;unfold O7 at h;split at h
 ·rename_i n t heq;rw[heq] at hc;simp only[SR] at hc;obtain⟨e,cQ⟩:=hc;have ht:∀ w,t=w→Gds tb (gs++[⟨n,w,t⟩]):=fun w hw g dI=>by
   rcases List.mem_append.1 dI with h1|h1
   ·exact hg g h1
   ·obtain rfl:=List.mem_singleton.1 h1;exact⟨hw,cQ⟩
  have hv:∀ u,(if t then Q4 env a else Q4 env b)=u→Q5 (.pick c a b) (Q4 env) σ=some (u,σ):=fun u hu=>by simp only[Q5,e];rw[←hu]
  split at h
  ·rename_i b';simp only[Option.map_eq_some_iff] at h;obtain⟨y,h1,rfl⟩:=h;refine⟨.bool (t||y),hv _ ?_,Z7 _⟩;cases t with
   |true=>rfl
   |false=>simpa using Jo h1 (hG.evs (ht false rfl) _)
  ·rename_i a' aF;simp only[Option.map_eq_some_iff] at h;obtain⟨x,h1,rfl⟩:=h;refine⟨.bool (t&&x),hv _ ?_,Z7 _⟩;cases t with
   |true=>simpa using Jo h1 (hG.evs (ht true rfl) _)
   |false=>rfl
  ·split at h
   ·rename_i k x k' y h1 h2;split at h
    ·rename_i hk;subst hk;obtain rfl:=osj h;refine⟨.int k (if t then x else y),hv _ ?_,J9 _ _⟩;cases t with
     |true=>have:=hG.evs (ht true rfl) a;rw[h1] at this;exact QQ rfl this
     |false=>have:=hG.evs (ht false rfl) b;rw[h2] at this;exact QQ rfl this
    ·cases h
   ·rename_i x y h1 h2;obtain rfl:=osj h;refine⟨.bool (if t then x else y),hv _ ?_,Z7 _⟩;cases t with
    |true=>have:=hG.evs (ht true rfl) a;rw[h1] at this;exact Jo rfl this
    |false=>have:=hG.evs (ht false rfl) b;rw[h2] at this;exact Jo rfl this
   ·cases h
 ·cases h
theorem Gam.bid {B F:Heap}{pl:Nat→Value}{tb:Nat→Option Bool}{s:St}{env:Env}{σ:Heap}(hG:Gam P B F pl tb s env σ) {j:Nat}{v:SV}{c:Bool}(hv:∀ tb',(∀ n c,tb n=some c→tb' n=some c)→tb' s.nx=some c→SR P B pl tb' v (env.getD j undef)) :
  ∃ tb',(∀ n c,tb n=some c→tb' n=some c)∧tb' s.nx=some c∧Gam P B F pl tb' ⟨s.env.set j v,s.own,s.nx+1⟩ env σ:=by
 refine⟨fun n=>if n=s.nx then some c else tb n,?_,by simp,?_⟩
 ·intro n c' hn;by_cases e:n=s.nx
  ·rw[e,hG.free _ (Nat.le_refl _)] at hn;cases hn
  ·simp only[if_neg e];exact hn
 ·have hm:∀ n c',tb n=some c'→(fun n=>if n=s.nx then some c else tb n) n=some c':=fun n c' hn=>by
   by_cases e:n=s.nx
   ·rw[e,hG.free _ (Nat.le_refl _)] at hn;cases hn
   ·simp only[if_neg e];exact hn
  refine⟨hG.bf,hG.le,?_,fun d=>(hG.obj d).mono (Heap.Le.refl _) hm fun _ _ _=>rfl,hG.fresh,hG.sep,fun n hn=>?_⟩
  ·have h1:=SRs.mono (Heap.Le.refl B) hm _ _ hG.env;by_cases hj:j<env.length
   ·have:=h1.set j (hv _ hm (by simp))
    rwa [List.getD_eq_getElem?_getD,List.getElem?_eq_getElem hj,Option.getD_some,List.set_getElem_self] at this
   ·have:s.env.set j v=s.env:=List.set_eq_of_length_le (by rw[hG.env.length];omega);rw[this];exact h1
  ·have:n≠s.nx:=by simp only at hn;omega
   simp only[if_neg this];exact hG.free n (by simp only at hn;omega)
theorem Rn {gs:List Gd}(h:¬ ∀ g∈gs,g.c=g.want):∃ g∈gs,g.c≠g.want:=by
 rcases Classical.em (∃ g∈gs,g.c≠g.want) with h'|h'
 ·exact h'
 ·exact absurd (fun g hg=>Classical.byContradiction fun aF=>h' ⟨g,hg,aF⟩) h
theorem Jw {B F:Heap}{pl:Nat→Value}{tb:Nat→Option Bool}{s:St}{env:Env}{σ:Heap}(hG:Gam P B F pl tb s env σ) {j:Nat}{want:Bool}{gs:List Gd}{s':St}(h:M3 s j want=some (gs,s')) :
  ∃ tb',Gam P B F pl tb' s' env σ∧(∀ g∈gs,tb' g.id=some g.c)∧∃ b,Z9 env (some (j,want))=some b∧(b=true→∀ g∈gs,g.c=g.want)∧(b=false→∃ g∈gs,g.c≠g.want):=by
 have hj:=hG.env.getD j undef;unfold M3 at h;split at h
 ·rename_i c heq;obtain⟨rfl,rfl⟩:=Qx h;rw[heq] at hj;have hb:env.getD j undef=.bool c:=Jo (s:=.val .bo c) rfl hj;obtain⟨tb',h1,h2,h3⟩:=hG.bid (j:=j) (v:=.bid s.nx c) (c:=c) fun tb' _ h=>by simp only[SR];exact⟨hb,h⟩
  refine⟨tb',h3,fun g hg=>by obtain rfl:=List.mem_singleton.1 hg;exact h2,c==want,by simp only[Z9,hb],fun e g hg=>?_,fun e=>⟨_,List.mem_singleton.2 rfl,?_⟩⟩
  ·obtain rfl:=List.mem_singleton.1 hg;simpa using e
  ·simpa using e
 ·rename_i n c heq;obtain⟨rfl,rfl⟩:=Qx h;rw[heq] at hj;simp only[SR] at hj;refine⟨tb,hG,fun g hg=>by obtain rfl:=List.mem_singleton.1 hg;exact hj.2,c==want,by simp only[Z9,hj.1],fun e g hg=>?_,fun e=>⟨_,List.mem_singleton.2 rfl,?_⟩⟩
  ·obtain rfl:=List.mem_singleton.1 hg;simpa using e
  ·simpa using e
 ·rename_i pW c heq;obtain⟨rfl,rfl⟩:=Qx h;rw[heq] at hj;simp only[SR] at hj;obtain⟨⟨k1,k0⟩,k2,k3⟩:=hj;obtain⟨tb',h1,h2,h3⟩:=hG.bid (j:=j) (v:=.grd pW (.bid s.nx c)) (c:=c) fun tb' hm h=>by
   simp only[SR];exact⟨⟨fun g hg=>hm _ _ (k1 g hg),h⟩,fun hall=>⟨Jo (s:=.val .bo c) (P:=P) (B:=B) (pl:=pl) (tb:=tb) rfl (by simpa only [SR] using k2 hall),h⟩,k3⟩
  refine⟨tb',h3,fun g hg=>?_,?_⟩
  ·rcases List.mem_append.1 hg with h4|h4
   ·exact h1 _ _ (k1 g h4)
   ·obtain rfl:=List.mem_singleton.1 h4;exact h2
  ·by_cases hall:∀ g∈pW,g.c=g.want
   ·have hb:env.getD j undef=.bool c:=Jo (s:=.val .bo c) (P:=P) (B:=B) (pl:=pl) (tb:=tb) rfl (by simpa only [SR] using k2 hall);refine⟨c==want,by simp only[Z9,hb],fun e g hg=>?_,fun e=>⟨_,List.mem_append.2 (.inr (List.mem_singleton.2 rfl)),by simpa using e⟩⟩;rcases List.mem_append.1 hg with h4|h4
    ·exact hall g h4
    ·obtain rfl:=List.mem_singleton.1 h4;simpa using e
   ·have hex:=Rn hall;refine⟨false,by simp only[Z9,k3 hex];rfl,(fun e=>by cases e),fun _=>?_⟩;obtain⟨g,hg,aF⟩:=hex;exact⟨g,List.mem_append.2 (.inl hg),aF⟩
 ·rename_i pW n c heq;obtain⟨rfl,rfl⟩:=Qx h;rw[heq] at hj;simp only[SR] at hj;obtain⟨⟨k1,k0⟩,k2,k3⟩:=hj;refine⟨tb,hG,fun g hg=>?_,?_⟩
  ·rcases List.mem_append.1 hg with h4|h4
   ·exact k1 g h4
   ·obtain rfl:=List.mem_singleton.1 h4;exact k0
  ·by_cases hall:∀ g∈pW,g.c=g.want
   ·obtain⟨hb,cQ⟩:=k2 hall;refine⟨c==want,by simp only[Z9,hb],fun e g hg=>?_,fun e=>⟨_,List.mem_append.2 (.inr (List.mem_singleton.2 rfl)),by simpa using e⟩⟩;rcases List.mem_append.1 hg with h4|h4
    ·exact hall g h4
    ·obtain rfl:=List.mem_singleton.1 h4;simpa using e
   ·have hex:=Rn hall;refine⟨false,by simp only[Z9,k3 hex];rfl,(fun e=>by cases e),fun _=>?_⟩;obtain⟨g,hg,aF⟩:=hex;exact⟨g,List.mem_append.2 (.inl hg),aF⟩
 ·cases h
theorem Gam.gcall {B F:Heap}{pl:Nat→Value}{tb:Nat→Option Bool}{s:St}{env:Env}{σ:Heap}(hG:Gam P B F pl tb s env σ) {gs:List Gd}(hg:Gds tb gs) (args:List Operand):SRs P σ J3 Zr (G0 s.own (args.map (gev gs s.env))) (args.map (Q4 env)) :=
 Yb hG.leB hG.obj (SRs.map fun x _=>hG.evs hg x)
theorem Gam.gfun {B F:Heap}{pl:Nat→Value}{tb:Nat→Option Bool}{s:St}{env:Env}{σ:Heap}(hG:Gam P B F pl tb s env σ) {gs:List Gd}(hg:Gds tb gs) (f:Operand):SR P σ J3 Zr ((G0 s.own [gev gs s.env f]).getD 0 .any) (Q4 env f):=by have:=(Yb hG.leB hG.obj (show SRs P B pl tb [gev gs s.env f] [Q4 env f] by simp only[SRs];exact⟨_,[],rfl,hG.evs hg f,rfl⟩)).getD 0 poison;simpa using this
theorem KM {env:Env}{f:Operand}{args:List Operand}{σ:Heap}{K:Value→Heap→Prop}{g:FuncId}{a b:Array Value}(e:Q4 env f=.func (.func g) a b) (h:VCalled P g (a.toList++args.map (Q4 env)++b.toList) σ K) :
  vop (Q2 P) (.callV f args) env σ K:=by
 simp only[vop,e];exact h
def XOk (P:Program) (f:Nat) (x:XSp):Prop :=
 ∀ (B F:Heap) (pl:Nat→Value) (tb:Nat→Option Bool) (s:St) (env:Env) (σ:Heap) (d:Nat) (args:List SV) (vs:List Value) (K:SV→St→Prop) (R:Value→Heap→Prop),
  Gam P B F pl tb s env σ→SRs P B pl tb args vs→x d args s K →
  (∀ v s' B' F' pl' tb' u σ',K v s'→GBase B F σ B' F' σ'→Gam P B' F' pl' tb' s' env σ'→SR P B' pl' tb' v u→R u σ')→VCalled P f vs σ R
def FC (P:Program) (f:Nat) (x:XSp) (j:Nat):Prop :=
 ∀ (B F:Heap) (pl:Nat→Value) (tb:Nat→Option Bool) (s:St) (env:Env) (σ:Heap) (d:Nat) (args:List SV) (vs:List Value) (K:SV→St→Prop) (R:Value→Heap→Prop) (t:Nat),
  Gam P B F pl tb s env σ→SRs P B pl tb args vs→T3 s.own j args=some t→x d args s K →
  (∀ v s' u σ',K v s'→Dead σ σ'→Gam P B F pl tb s' env σ'→SR P B pl tb v u→FrL [t] s s' pl pl σ σ'→R u σ')→VCalled P f vs σ R
def Q3s (P:Program) (f:Nat) (it:ISp):Prop:=Jg P f ∧
 ∀ (B:Heap) (args:List SV) (vs:List Value) (c:Prop) (m ar:Nat) (xs:Nat→List SV),SRs P B J3 Zr args vs→it args=some (c,m,ar,xs)→c →
  (∀ k,(xs k).length=ar∧SVs.pure (xs k)=true)∧∀ (i:Nat) (Y:B6) (J:Nat→Heap→Prop) (E:Heap→Prop) (τ0:Heap),WJ P i Y→(∀ k τ,J k τ→B.Le τ) →
   (∀ k us τ,k<m→J k τ→SRs P B J3 Zr (xs k) us→Y us τ fun v τ'=>(v=.bool true∧J (k+1) τ')∨(v=.bool false∧E τ')) →
   J 0 τ0→VCallsTo P f (.func (.yield i) #[] #[]::vs) τ0 fun _ τ=>J m τ∨E τ
def Fw (P:Program) (o:Nat) (y:YSp):Prop :=
 ∀ (B F:Heap) (pl:Nat→Value) (tb:Nat→Option Bool) (s:St) (env:Env) (σ:Heap) (args:List SV) (us:List Value) (K:SV→St→Prop) (R:Value→Heap→Prop) (i:Nat),
  Gam P B F pl tb s env σ→SRs P B pl tb args us→y args s K→pl o=.pointer (some ⟨i,0,none⟩) →
  (∀ v s' B' F' pl' tb' u σ',K v s'→GBase B F σ B' F' σ'→Gam P B' F' pl' tb' s' env σ'→SR P B' pl' tb' v u→R u σ')→Gn P i us σ R
def Q40 (P:Program) (f:Nat) (x:Q4x):Prop:=Jg P f ∧
 ∀ (B F:Heap) (pl:Nat→Value) (tb:Nat→Option Bool) (s:St) (env:Env) (σ:Heap) (o:Nat) (args:List SV) (vs:List Value) (y:YSp) (K:St→Prop) (R:Heap→Prop),
  Gam P B F pl tb s env σ→SRs P B pl tb args vs→Fw P o y→x o args (o,y) s K →
  (∀ s' B' F' pl' tb' ai σ',K s'→GBase B F σ B' F' σ'→Gam P B' F' pl' tb' s' ai σ'→R σ')→VCallsTo P f vs σ fun _=>R
structure COk (P:Program) (C:Cx):Prop where
 cs:CsOk P C.cs
 xs:∀ f x,Qd C.xs f=some x→XOk P f x
 it:∀ f x,Qd C.it f=some x→Q3s P f x
 yl:∀ o y,Qd C.yl o=some y→Fw P o y
 iy:∀ f x,Qd C.iy f=some x→Q40 P f x
 xf:∀ f j,Qd C.xf f=some j→∀ x,Qd C.xs f=some x→FC P f x j
theorem Gq {C:Cx}(aB:CsOk P C.cs) {B F:Heap}{pl:Nat→Value}{tb:Nat→Option Bool}{s:St}{env:Env}{σ:Heap}(hG:Gam P B F pl tb s env σ) {gs:List Gd}(hg:Gds tb gs) {raw:Bool}{o:VOp}{cs:List Prop}{v:SV}
  (h:gqc C raw o (gev gs s.env) s.own=some (cs,v)) (hc:∀ c∈cs,c) {K:Value→Heap→Prop}(hK:∀ u,SR P B pl tb v u→K u σ):vop (Q2 P) o env σ K:=by
 have flat:∀ {c:Prop}{v':SV},(bif v'.ret 0 then some ([c],v') else none)=some (cs,v)→v'.ret 0=true∧c∧v'=v:=fun {c v'} h=>by
  cases hv:v'.ret 0 with
  |false=>rw[hv] at h;cases h
  |true =>rw[hv] at h;obtain⟨rfl,rfl⟩:=Qx h;exact⟨rfl,hc _ (by simp),rfl⟩
 have quiet:∀ o,gq C.kt raw o (gev gs s.env) s.own=some (cs,v)→(∀ K,QI (Q5 o (Q4 env) σ) (fun p=>K p.1 p.2)→vop (Q2 P) o env σ K)→vop (Q2 P) o env σ K:=fun o h hv=>by obtain⟨u,h1,h2⟩:=HG (hG.evs hg) (fun _=>rfl) hG.leB hG.obj h hc;exact hv K (by rw[h1];exact hK u h2)
 cases o
 case callF f args =>
  simp only[gqc] at h;split at h
  ·rename_i c v' heq;obtain⟨h1,h2,rfl⟩:=flat h;obtain⟨g,a,b,h3,h4,_⟩:=Z1 aB (show SR P σ J3 Zr (.fn f [] []) (.func (.func f) #[] #[]) by simp only[SR,SRs];exact⟨[],[],rfl,rfl,rfl⟩) (hG.gcall hg args) heq h1 rfl h2;obtain⟨rfl,rfl,rfl⟩:=(by simpa using h3:f=g∧#[]=a∧#[]=b);have:=h4.mono (R':=K) fun u σ' hr=>by
    obtain⟨rfl,hu⟩:=hr.flat h1;exact hK u (hu.retd (fun j hj=>by omega) _ _ h1)
   show VCalled P f (args.map (Q4 env)) σ K;simpa using this
  ·cases h
 case callV f args =>
  simp only[gqc] at h;split at h
  ·rename_i c v' heq;obtain⟨h1,h2,rfl⟩:=flat h;obtain⟨g,a,b,h3,h4,_⟩:=Z1 aB (hG.gfun hg f) (hG.gcall hg args) heq h1 rfl h2;exact KM h3 (h4.mono fun u σ' hr=>by
    obtain⟨rfl,hu⟩:=hr.flat h1;exact hK u (hu.retd (fun j hj=>by omega) _ _ h1))
  ·cases h
 case ext x =>
  cases x
  case nextMap x=>cases h
  all_goals exact quiet _ h fun _ h=>h
 all_goals exact quiet _ h fun _ h=>h
end
end Go.V