
import Derived.Shelf.SlGeneric
import Derived.Shelf.Strings.SlTrimAscii
import Derived.Ground.NamesProg
import Derived.Below
import Derived.Shelf.Spec.SlicesGrow
import Derived.Test.YtdpcdbeklccfnaaGreatDoorE4
set_option linter.unusedVariables false
set_option maxRecDepth 100000
namespace Go.V
open Go
mutual
inductive AP:Type->Type 1 where
 |k (k:Kind):AP k.T
 |agg {D:Type}(l:AL D):AP D
 |ptr {D:Type}(l:AL D):AP D
 |fnx {D:Type}(g:Nat) (l:AL D):AP D
 |fn (ks:List Kind) (r:Kind):AP ((AT ks->Prop)×(AT ks->r.T))
 |nilS:AP Unit
 |any:AP Unit
 |int (k:IntKind) (n:Int):AP Unit
inductive AL:Type->Type 1 where
 |nil:AL Unit
 |one {D:Type}(a:AP D):AL D
 |cons {D E:Type}(a:AP D) (r:AL E):AL (D×E)
end
def Tl:(ks:List Kind)->AT ks->List SV
 |[],_=>[]
 |[k],x=>[IA k x]
 |k::k'::ks,x=>IA k x.1::Tl (k'::ks) x.2
abbrev Ap:=SV->List SV->Option (Prop×SV)
def O9 (ap:Ap) (f:SV) (ks:List Kind) (r:Kind) (x:AT ks):Prop:=match ap f (Tl ks x) with
 |some (c,v)=>(match gap.asV r v with|some _=>c|none=>False)
 |none=>False
def fnP (ap:Ap) (f:SV) (ks:List Kind) (r:Kind) (x:AT ks):r.T:=match ap f (Tl ks x) with
 |some (_,v)=>(match gap.asV r v with|some y=>y|none=>r.dflt)
 |none=>r.dflt
mutual
def AP.dec (ap:Ap):{D:Type}->(p:AP D)->SV->Option D
 |_,.k k,v=>match k with
  |.list k=>view [] k v
  |.i ik=>GV (.i ik) [v]
  |.bo=>GV .bo [v]
  |.st=>GV .st [v]
  |.pair _ _=>none
 |_,.agg l,v=>match v with|.agg vs=>AL.dec ap l vs|_=>none
 |_,.nilS,v=>match v with|.nilS=>some ()|_=>none
 |_,.any,_=>some ()
 |_,.int k n,v=>match GV (.i k) [v] with|some x=>if (show Int from x)=n then some () else none|none=>none
 |_,.ptr l,v=>match v with|.cp vs 0=>AL.dec ap l vs|_=>none
 |_,.fnx g l,v=>match v with|.fn g' [] vs=>if g'=g then AL.dec ap l vs else none|_=>none
 |_,.fn ks r,v=>match v with
  |.fn g a b=>some (O9 ap (.fn g a b) ks r,fnP ap (.fn g a b) ks r)
  |.pf sy r' cu p=>some (O9 ap (.pf sy r' cu p) ks r,fnP ap (.pf sy r' cu p) ks r)
  |_=>none
def AL.dec (ap:Ap):{D:Type}->(l:AL D)->List SV->Option D
 |_,.nil,vs=>match vs with|[]=>some ()|_=>none
 |_,.one a,vs=>match vs with|[v]=>AP.dec ap a v|_=>none
 |_,.cons a r,vs=>match vs with
  |v::vs=>(match AP.dec ap a v,AL.dec ap r vs with|some x,some y=>some (x,y)|_,_=>none)
  |[]=>none
end
mutual
def AP.can:{D:Type}->(p:AP D)->D->SV
 |_,.k k,x=>.val k x
 |_,.agg l,x=>.agg (AL.can l x)
 |_,.nilS,_=>.nilS
 |_,.any,_=>.any
 |_,.int k n,_=>.val (.i k) n
 |_,.ptr l,x=>.cp (AL.can l x) 0
 |_,.fnx g l,x=>.fn g [] (AL.can l x)
 |_,.fn ks r,x=>.pf ks r x.1 x.2
def AL.can:{D:Type}->(l:AL D)->D->List SV
 |_,.nil,_=>[]
 |_,.one a,x=>[AP.can a x]
 |_,.cons a r,x=>AP.can a x.1::AL.can r x.2
end
def W2 {D:Type}(l:AL D) (pre:D->Prop) (res:D->SV) (obs:D->List OB):CSp:=λap args=>match AL.dec ap l args with
 |some d=>some (pre d,res d,obs d)
 |none=>none
section
variable {P:Program}{U:Heap}
theorem UN:∀ {ks:List Kind}{x:AT ks}{vs:List Value},PK U ks x vs->SRs P U J3 Zn (Tl ks x) vs
 |[],x,vs,h=>by simp only[PK] at h;subst h;simp[Tl,SRs]
 |[k],x,vs,h=>by obtain⟨v,rfl,h1⟩:=h;simp only[Tl,SRs];grind [JP]
 |k::k'::ks,x,vs,h=>by obtain⟨v,cG,rfl,h1,h2⟩:=h;simp only[Tl,SRs];exact⟨v,cG,rfl,JP h1,UN h2⟩
theorem CS {ap:Ap}(dW:O4 P ap) {f:SV}{v:Value}(hf:SR P U J3 Zn f v) (hv:∃ g a b,v=.func (.func g) a b) (ks:List Kind) (r:Kind):SR P U J3 Zn (.pf ks r (O9 ap f ks r) (fnP ap f ks r)) v:=by
 obtain⟨g,a,b,rfl⟩:=hv;simp only[SR];refine⟨g,a,b,rfl,λx hd Z vs hle ct=>?_⟩;unfold O9 at hd;split at hd
 .rename_i c u oz;split at hd
  .rename_i y hy;obtain⟨h1,g',a',b',h2,h3⟩:=dW Z f (Tl ks x) c u (.func (.func g) a b) vs (SR.mono hle (λ_ _ h=>h) _ _ hf) (UN ct) oz hd;obtain⟨rfl,rfl,rfl⟩:=(by simpa using h2:g=g'/\a=a'/\b=b');have hp:fnP ap f ks r x=y:=by simp[fnP,oz,hy]
   rw[hp];exact h3.mono λu' U' hu=>⟨hu.1,(BC hy hu.2).vcall (CX _)⟩
  .exact hd.elim
 .exact hd.elim
mutual
theorem AP.q0k {ap:Ap}(dW:O4 P ap):∀ {D:Type}(p:AP D) {v:SV}{x:D}{u:Value},AP.dec ap p v=some x->SR P U J3 Zn v u->SR P U J3 Zn (AP.can p x) u
 |_,.k k,v,x,u,h,hs=>by
  have one:SRs P U J3 Zn [v] [u]:=by simp only[SRs];exact⟨u,[],rfl,hs,rfl⟩
  simp only[AP.can,SR];cases k with
  |list k =>have:=Ws (own:=[]) (Heap.Le.refl U) (λd=>(trivial:OR P U J3 Zn U (J3 d) .dead)) (show view [] k v=some x from h) hs;exact⟨u,rfl,this⟩
  |i ik=>exact Qm (k:=.i ik) h one
  |bo=>exact Qm (k:=.bo) h one
  |st=>exact Qm (k:=.st) h one
  |pair a b=>cases h
 |_,.agg l,v,x,u,h,hs=>by
  simp only[AP.dec] at h;split at h
  .simp only[SR] at hs;obtain⟨cs,rfl,hs⟩:=hs;simp only[AP.can,SR];exact⟨cs,rfl,AL.q0k dW l h hs⟩
  .cases h
 |_,.any,v,x,u,h,hs=>by simp only[AP.can,SR]
 |_,.int k n,v,x,u,h,hs=>by
  have one:SRs P U J3 Zn [v] [u]:=by simp only[SRs];exact⟨u,[],rfl,hs,rfl⟩
  simp only[AP.dec] at h;split at h
  .rename_i y hy;split at h
   .rename_i e;subst e;simp only[AP.can,SR];exact Qm (k:=.i k) hy one
   .cases h
  .cases h
 |_,.nilS,v,x,u,h,hs=>by
  simp only[AP.dec] at h;split at h
  .simp only[AP.can];exact hs
  .cases h
 |_,.ptr l,v,x,u,h,hs=>by
  simp only[AP.dec] at h;split at h
  .simp only[SR] at hs;obtain⟨b,c,e,wr,t,h1,rfl,h3⟩:=hs;simp only[AP.can,SR];exact⟨b,c,e,wr,t,h1,rfl,AL.q0k dW l h h3⟩
  .cases h
 |_,.fnx g l,v,x,u,h,hs=>by
  simp only[AP.dec] at h;split at h
  .split at h
   .rename_i e;subst e;simp only[SR] at hs;obtain⟨a,b,rfl,h1,h2⟩:=hs;simp only[AP.can,SR];exact⟨a,b,rfl,h1,AL.q0k dW l h h2⟩
   .cases h
  .cases h
 |_,.fn ks r,v,x,u,h,hs=>by
  simp only[AP.dec] at h;split at h
  .obtain rfl:=osj h;exact CS dW hs (by simp only[SR] at hs;grind) ks r
  .obtain rfl:=osj h;exact CS dW hs (by simp only[SR] at hs;obtain⟨g,x,y,rfl,_⟩:=hs;exact⟨_,_,_,rfl⟩) ks r
  .cases h
theorem AL.q0k {ap:Ap}(dW:O4 P ap):∀ {D:Type}(l:AL D) {vs:List SV}{x:D}{us:List Value},AL.dec ap l vs=some x->SRs P U J3 Zn vs us->SRs P U J3 Zn (AL.can l x) us
 |_,.nil,vs,x,us,h,hs=>by
  simp only[AL.dec] at h;split at h
  .exact hs
  .cases h
 |_,.one a,vs,x,us,h,hs=>by
  simp only[AL.dec] at h;split at h
  .obtain⟨u,rfl,h1⟩:=hs.one;simp only[AL.can,SRs];exact⟨u,[],rfl,AP.q0k dW a h h1,rfl⟩
  .cases h
 |_,.cons a r,vs,x,us,h,hs=>by
  simp only[AL.dec] at h;split at h
  .rename_i v cG;split at h
   .rename_i y z h1 h2;obtain rfl:=osj h;simp only[SRs] at hs;obtain⟨u,lG,rfl,h3,h4⟩:=hs;simp only[AL.can,SRs];exact⟨u,lG,rfl,AP.q0k dW a h1 h3,AL.q0k dW r h2 h4⟩
   .cases h
  .cases h
end
theorem CsOk.nil:CsOk P []:=λf sp h=>by cases h
theorem CsOk.cons {f:Nat}{sp:CSp}{cs:List (Nat×CSp)}(h:OkC P f sp) (t:CsOk P cs):CsOk P ((f,sp)::cs):=λg uO hg=>by
 simp only[Qp] at hg;cases hb:Nat.beq f g with
 |true=>rw[hb] at hg;obtain rfl:=zP hb;obtain rfl:=osj hg;exact h
 |false=>rw[hb] at hg;exact t g uO hg
theorem Q2z {f:Nat}{vc:VCode}{rs:List VResult}{nt:Nat}(h:Fun P f vc rs nt) (hm:P.follows .mixedOrders=true) {D:Type}{l:AL D}{pre:D->Prop}{res:D->SV}{obs:D->List OB}
  {C:Cx}(aw:COk P C) (L:D->List (Nat×LoopAnn)) (hb:∀ d,pre d->gwp C (L d) vc 0 (WC rs (res d) (obs d)) (Qr nt (AL.can l d))):OkC P f (W2 l pre res obs):=by
 refine h.okC hm λap dW args c v bs hs hc=>?_;unfold W2 at hs
 grind [AL.q0k]
theorem QD {f:Nat}{vc:VCode}{rs:List VResult}{nt:Nat}(h:Fun P f vc rs nt) (hm:P.follows .mixedOrders=true) {D:Type}{l:AL D}{pre:D->Prop}{res:D->SV}{obs:D->List OB}
  {C:Cx}(aw:COk P C) {L:D->List (Nat×LoopAnn)}{V:D->Prop}(hq:∀ d,gwp C (L d) vc 0 (WC rs (res d) (obs d)) (Qr nt (AL.can l d))=V d) (hb:∀ d,pre d->V d):OkC P f (W2 l pre res obs) :=
 Q2z h hm aw L λd hp=>(hq d).mpr (hb d hp)
end
end Go.V
namespace Go.V
open Go
def Q59 (key:Nat) (vals:List Value) (rs:List VResult) (K:SV->St->Prop):Exit->St->Prop:=λe s =>
 let fin:=match W_ s rs,Qa s.own key with
  |some r,.stk l vs=>vs=vals/\K r ⟨l,s.own,s.nx⟩
  |_,_=>False
 match e with
 |.normal=>fin
 |.ret=>fin
 |_=>False
def IV:XSp:=λ_ args s K=>match args with
 |[v]=>K v s
 |_=>False
def Q13 (C:Cx) (L:List Value->List (Nat×LoopAnn)) (vc:VCode) (rs:List VResult) (nt:Nat):XSp:=λd args s K =>
 ∀ vals,gwp {C with off:=100000*(d+1)} (L vals) vc 0 (Q59 (100000*(d+1)-1) vals rs K) ⟨SVs.kill (100000*(d+1)-1) args++List.replicate (nt-args.length) .any,(Lj (100000*(d+1)-1) vals s).own,s.nx⟩
section
variable {P:Program}
theorem Rc {B:Heap}{pl:Nat->Value}{tb:Nat->Option Bool}:∀ n,SRs P B pl tb (List.replicate n .any) (List.replicate n undef)
 |0=>by simp[SRs]
 |n+1=>by simp only[xx,SRs];exact⟨_,_,rfl,by simp[SR],Rc n⟩
theorem Tc {f:Nat}(h:∀ (v:Value) (U:Heap) (K:Value->Heap->Prop),K v U->VCalled P f [v] U K):XOk P f IV:=by
 intro B F pl tb s env U d args vs K R hG ha hx hK
 match args,ha,hx with
 |[v],ha,hx =>simp only[SRs] at ha;obtain⟨u,_,rfl,h1,rfl⟩:=ha;exact h u U R (hK v s B F pl tb u U hx (.of hG.bf (.refl _)) hG h1)
 |[],_,hx=>exact hx.elim
 |_::_::_,_,hx=>exact hx.elim
theorem MD {f:Nat}{vc:VCode}{rs:List VResult}{nt:Nat}(h:Fun P f vc rs nt) (hm:P.follows .mixedOrders=true) {C:Cx}(aw:COk P C) (L:List Value->List (Nat×LoopAnn)):XOk P f (Q13 C L vc rs nt):=by
 intro B F pl tb s env U d args vs K R hG ha hx hK;have hx:=hx env;refine h.calls hm T_ ?_;have q3:Gam P B F (QR pl (100000*(d+1)-1) poison) tb (Lj (100000*(d+1)-1) env s) env U:=by refine hG.make _ _ poison hG.le (λ_ _ _ _ _=>rfl) ?_ (λi hl _=>by cases hl);exact SRs.upd (.refl _) (λ_ _ h=>h) (λj hj=>by simp[QR,hj]) _ _ hG.env
 have me:COk P {C with off:=100000*(d+1)}:=⟨aw.cs,aw.xs,aw.it,aw.yl,aw.iy,aw.xf⟩;have av:=SRs.upd (P:=P) (Heap.Le.refl B) (λ_ _ h=>h) (pl':=QR pl (100000*(d+1)-1) poison) (tb':=tb) (o:=100000*(d+1)-1) (λj hj=>by simp[QR,hj]) _ _ ha;have bK:GRel P B F U ⟨SVs.kill (100000*(d+1)-1) args++List.replicate (nt-args.length) .any,(Lj (100000*(d+1)-1) env s).own,s.nx⟩ (vs++List.replicate (nt-vs.length) undef) U:=by refine⟨B,F,_,tb,.of hG.bf (.refl _),⟨q3.bf,q3.le,?_,q3.obj,q3.fresh,q3.sep,q3.free⟩⟩;rw[ha.length];exact av.append (Rc _)
 refine Nb me vc 0 _ _ _ U none _ trivial bK hx λe s' ae U' h1 h2=>?_
 .have main:(match W_ s' rs,Qa s'.own (100000*(d+1)-1) with
   |some r,.stk l vs=>vs=env/\K r ⟨l,s'.own,s'.nx⟩
   |_,_=>False)->QM (J1 ae U' rs) λv=>∃ v' aI,DropTo U v U' v' aI/\R v' aI:=λh=>by
   obtain⟨B',F',pl',tb',k1,k2⟩:=h2;split at h
   .rename_i r l cG hr jd;obtain⟨rfl,h⟩:=h;obtain⟨u,h3,h4⟩:=XD k2 hr;rw[h3];have ah:=k2.obj (100000*(d+1)-1);rw[jd] at ah;exact⟨u,U',.refl _ _ _,hK r _ B' F' pl' tb' u U' h k1 ⟨k2.bf,k2.le,ah,k2.obj,k2.fresh,k2.sep,k2.free⟩ h4⟩
   .exact h.elim
  cases e with
  |normal=>exact main h1
  |ret=>exact main h1
  |_=>exact h1.elim
end
end Go.V
namespace Go.V
open Go
section
variable {P:Program}
theorem Heap.Le.kill' {B U:Heap}(h:B.Le U) {i:Nat}(hi:B.get i=none):B.Le (U.kill i):=⟨h.1,λj b hb=>by
 have:j≠i:=by rintro rfl;rw[hi] at hb;cases hb
 rw[Heap.q0c _ this];exact h.2 _ _ hb⟩
theorem Heap.q2l (U:Heap) (i:Nat):(U.kill i).Le U:=⟨zd _,(by grind [Heap.q0i,Heap.q0c])⟩
def ML (U:Heap) (p:Value):Heap:=match oid p with|some i=>U.kill i|none=>U
theorem TP (U:Heap) (p:Value):(ML U p).Le U:=by
 unfold ML;split
 .exact Heap.q2l _ _
 .exact .refl _
theorem D7 {B U:Heap}{p:Value}(h:B.Le U) (hi:∀ i,oid p=some i->B.get i=none):B.Le (ML U p):=by
 unfold ML;split
 .rename_i i e;exact h.kill' (hi i e)
 .exact h
theorem Pm {U:Heap}{p:Value}{i:Nat}(h:oid p=some i):(ML U p).get i=none:=by unfold ML;rw[h];exact Heap.q0i _ _
theorem RU {U:Heap}{p:Value}{i:Nat}(h:oid p≠some i):(ML U p).get i=U.get i:=by unfold ML;grind [Heap.q0c]
theorem Q1c {p:Value}{i:Nat}(hp:∀ l,p≠.tuple l) (h:Oid p i):oid p=some i:=by cases p<;>first|exact h|exact absurd rfl (hp _)
mutual
theorem AP.q0l:∀ {D:Type}(p:AP D) (x:D),(AP.can p x).pure=true
 |_,.k k,x=>rfl
 |_,.agg l,x=>by simp only[AP.can,SV.pure];exact AL.q0l l x
 |_,.nilS,x=>rfl
 |_,.any,x=>rfl
 |_,.int k n,x=>rfl
 |_,.ptr l,x=>by simp only[AP.can,SV.pure];exact AL.q0l l x
 |_,.fnx g l,x=>by simp only[AP.can,SV.pure,SVs.pure,AL.q0l l x];rfl
 |_,.fn ks r,x=>rfl
theorem AL.q0l:∀ {D:Type}(l:AL D) (x:D),SVs.pure (AL.can l x)=true
 |_,.nil,x=>rfl
 |_,.one a,x=>by simp only[AL.can,SVs.pure,AP.q0l a x];rfl
 |_,.cons a r,x=>by simp only[AL.can,SVs.pure,AP.q0l a x.1,AL.q0l r x.2];rfl
end
end
end Go.V
namespace Go.V
open Go
abbrev lI {α:Type}(l:List α):Int:=(l.length:Int)
abbrev gD {α:Type}(l:List α) (i:Int) (d:α):α:=l.getD i.toNat d
abbrev sT {α:Type}(l:List α) (i:Int) (x:α):List α:=l.set i.toNat x
abbrev I64 (x:Int):Prop:=InK .i64 x
theorem Zd (x:Int):InK .i64 x<->-9223372036854775808<=x/\x<=9223372036854775807:=by simp[InK,IntKind.min,IntKind.max,IntKind.bits,IntKind.signed]
theorem Q1h (x:Int):InK .u64 x<->0<=x/\x<=18446744073709551615:=by simp[InK,IntKind.min,IntKind.max,IntKind.bits,IntKind.signed]
theorem LoopP.count {F:Int->(Int->Prop)->Prop}(n:Nat) (J:Nat->Prop) (h0:J 0) (hr:∀ k:Nat,k<=n->J k->∀ q:Int->Prop,(k<n->J (k+1)->q ((k:Int)+1))->F k q):LoopP F 0:=by
 refine⟨λd=>∃ k:Nat,d=k/\k<=n/\J k,λd=>n-d.toNat,⟨0,rfl,Nat.zero_le _,h0⟩,λd ⟨k,hd,hk,hJ⟩=>?_⟩
 grind
theorem LoopP.count2 {X:Type}{F:X×Int->(X×Int->Prop)->Prop}(n:Nat) (J:Nat->X->Prop) {x0:X}(h0:J 0 x0) (hr:∀ (k:Nat) (x:X),k<=n->J k x->∀ q:X×Int->Prop,(∀ x',k<n->J (k+1) x'->q (x',(k:Int)+1))->F (x,(k:Int)) q):LoopP F (x0,0):=by
 refine⟨λd=>∃ k:Nat,d.2=k/\k<=n/\J k d.1,λd=>n-d.2.toNat,⟨0,rfl,Nat.zero_le _,h0⟩,λ⟨x,d⟩ ⟨k,hd,hk,hJ⟩=>?_⟩
 grind
theorem Qd {α:Type}{l:List α}{k:Nat}{d:α}(h:k<l.length):l.getD k d=l[k]:=by simp_all
theorem Qi {α:Type}{l:List α}{k:Nat}(h:k<l.length):l.take (k+1)=l.take k++[l[k]]:=by rw[List.take_succ_eq_append_getElem h]
section
variable {P:Program}
theorem st1 {S:VSpecs}{d:Nat}{op:VOp}{rest:List VOper}{env:Env}{U:Heap}{K:Env->Heap->Prop}{v:Value}(hv:∀ K',vop S op env U K'=QM (Q8 op (Q6 env) U) λp=>K' p.1 p.2) (h:Q8 op (Q6 env) U=some (v,U)) (hr:P5 S rest (env.set d v) U K):P5 S (⟨some d,op,none⟩::rest) env U K:=by show QM (some true) _;refine⟨λ_=>?_,λe=>by cases e⟩;rw[hv,h];exact hr
theorem YlOk.nil:∀ o y,Qp ([]:List (Nat×YSp)) o=some y->Oi P o y:=λo y h=>by cases h
theorem IysOk.nil:∀ f x,Qp ([]:List (Nat×Q5n)) f=some x->Q7s P f x:=λf x h=>by cases h
theorem XsOk.nil:∀ f x,Qp ([]:List (Nat×XSp)) f=some x->XOk P f x:=λf x h=>by cases h
theorem XsOk.cons {f:Nat}{x:XSp}{l:List (Nat×XSp)}(h:XOk P f x) (t:∀ g y,Qp l g=some y->XOk P g y):∀ g y,Qp ((f,x)::l) g=some y->XOk P g y:=λg y hg=>by
 simp only[Qp] at hg
 grind [Nat.eq_of_beq_eq_true,osj]
theorem ItsOk.nil:∀ f x,Qp ([]:List (Nat×ISp)) f=some x->Q77 P f x:=λf x h=>by cases h
def Ae:Ap:=λ_ _=>none
theorem SL:O4 P Ae:=λ_ _ _ _ _ _ _ _ _ h=>by cases h
end
end Go.V
namespace Go.V
open Go
def RV {α:Type}:Nat->α->List α->List α
 |0,x,l=>x::l
 |j+1,x,a::l=>a::RV j x l
 |_+1,x,[]=>[x]
def MA {α:Type}:Nat->List α->List α
 |0,_::l=>l
 |j+1,a::l=>a::MA j l
 |_,[]=>[]
section
variable {P:Program}
theorem XfOk.nil {xs:List (Nat×XSp)}:∀ f j,Qp ([]:List (Nat×Nat)) f=some j->∀ x,Qp xs f=some x->Q5a P f x j:=λf j h=>by cases h
end
end Go.V
namespace Go.V
open Go
def Heap.over (B F:Heap):Heap where
 get i:=match B.get i with|some b=>some b|none=>F.get i
 n:=Nat.max B.n F.n
 wf i h:=by have h1:B.n<=i:=zW (Nat.le_max_left _ _) h;have h2:F.n<=i:=zW (Nat.le_max_right _ _) h;rw[B.wf i h1];exact F.wf i h2
theorem Heap.q1q {B F:Heap}{i:Nat}(h1:B.get i=none) (h2:F.get i=none):(B.over F).get i=none:=by show (match B.get i with|some b=>some b|none=>F.get i)=none;rw[h1];exact h2
theorem Heap.q1y {B F:Heap}:B.Le (B.over F):=⟨Nat.le_max_left _ _,λi b h=>by
 show (match B.get i with|some b=>some b|none=>F.get i)=some b;rw[h]⟩
theorem Heap.q2c {B F U:Heap}(hB:B.Le U) (hF:F.Le U):F.Le (B.over F):=⟨Nat.le_max_right _ _,λi b h=>by
 show (match B.get i with|some b=>some b|none=>F.get i)=some b;cases hb:B.get i with
 |none=>exact h
 |some b' =>
  have h1:=hB.2 _ _ hb;have h2:=hF.2 _ _ h;rw[h1] at h2;exact h2⟩
theorem Heap.q2a {B F U:Heap}(hB:B.Le U) (hF:F.Le U):(B.over F).Le U:=⟨Nat.max_le.2 ⟨hB.1,hF.1⟩,λi b h=>by
 have h:(match B.get i with|some b=>some b|none=>F.get i)=some b:=h;cases hb:B.get i with
 |none=>rw[hb] at h;exact hF.2 _ _ h
 |some b'=>rw[hb] at h;rw[<-h];exact hB.2 _ _ hb⟩
theorem GBase.over {B F U B' U':Heap}(hB:B.Le B') (ez:B'.Le U') (hF:F.Le U') (hx:∀ i b,F.get i=some b->B.get i=none->B'.get i=none) (hd:Dead U U'):GBase B F U B' (B'.over F) U' :=
 ⟨hB,Heap.q2c ez hF,hx,hd⟩
mutual
def SV.rb (n:Nat):SV->Bool
 |.val _ _|.nilS|.nilP|.nilM|.nilF=>true
 |.lst j=>Nat.blt j n
 |.agg l=>SVs.rb n l
 |.tup l=>SVs.rb n l
 |_=>false
def SVs.rb (n:Nat):List SV->Bool
 |[]=>true
 |s::ss=>SV.rb n s&&SVs.rb n ss
end
def CQ (ap:Ap) (sp:CSp):XSp:=λd args s K =>
 let s1:=(⟨s.env++args,s.own,s.nx⟩:St).frzs (Xt args);let a1:=s1.env.drop s.env.length
 bif SVs.pure a1 then (match sp ap a1 with
  |some (c,v,bs)=>bif v.rb bs.length&&bs.all OB.isL then c/\K (v.ren d 500000) ((⟨s1.env.take s.env.length,s1.own,s1.nx⟩:St).makes d 500000 0 bs) else False
  |none=>False) else False
section
variable {P:Program}
theorem OB.q1r {b:OB}(h:b.isL=true):∃ ty k xs nl,b=.lst ty k xs nl:=by cases b<;>first|exact⟨_,_,_,_,rfl⟩|cases h
theorem SRs.split {B:Heap}{pl:Nat->Value}{tb:Nat->Option Bool}:∀ {a:List SV}{u v:List Value},SRs P B pl tb a (u++v)->SRs P B pl tb (a.take u.length) u/\SRs P B pl tb (a.drop u.length) v
 |a,[],v,h=>⟨by simp[SRs],by simpa using h⟩
 |[],x::u,v,h=>by simp only[SRs] at h;cases h
 |s::a,x::u,v,h=>by simp only[SRs,xw] at h;obtain⟨y,ys,e,h1,h2⟩:=h;obtain⟨rfl,rfl⟩:=zM e;obtain⟨h3,h4⟩:=SRs.split h2;simp only[xj,xP,xU,SRs];exact⟨⟨_,_,rfl,h1,h3⟩,h4⟩
theorem M_ {B F U:Heap}{tb tbc:Nat->Option Bool}{env:Env}{σ0:Heap}{d nt:Nat}(dV:0<nt) (dg:Nat->Value) (bs:List OB) (hF:F.Le U)
  (ah:∀ j b,bs[j]?=some b->b.isL=true/\OR P B dg tbc U (dg j) b/\∀ i,Oid (dg j) i->σ0.n<=i/\F.get i=none)
  (df:∀ j j' i,j<bs.length->j'<bs.length->j≠j'->Oid (dg j) i->Oid (dg j') i->False) :
  ∀ (r:List OB) (j:Nat) (pl:Nat->Value) (s:St),bs.drop j=r->Gam P B F pl tb s env U->(∀ k i,(Qa s.own k).live=true->Oid (pl k) i->i<σ0.n\/∃ j'<j,j'<bs.length/\Oid (dg j') i/\k=d+j'*nt)->(∀ j'<j,j'<bs.length->pl (d+j'*nt)=dg j') ->
   ∃ pl',Gam P B F pl' tb (s.makes d nt j r) env U/\(∀ j'<bs.length,pl' (d+j'*nt)=dg j')
 |[],j,pl,s,hr,hG,_,hp=>⟨pl,hG,λj' bc=>hp j' (by
   have:=congrArg List.length hr;simp at this;omega) bc⟩
 |b::r,j,pl,s,hr,hG,hinv,hp=>by
  have cQ:j<bs.length:=by
   grind [Nat.lt_or_ge,List.drop_eq_nil_of_le]
  have bO:bs[j]?=some b:=by
   have:(bs.drop j)[0]?=some b:=by rw[hr];rfl
   simpa using this
  have jN:bs.drop (j+1)=r:=by
   have:(bs.drop j).drop 1=r:=by rw[hr];rfl
   simpa [List.drop_drop,xR] using this
  obtain⟨h1,h2,h3⟩:=ah j b bO;obtain⟨ty,k,xs,nl,rfl⟩:=OB.q1r h1;have cm:∀ j' ,j'≠j->d+j'*nt≠d+j*nt:=(by grind [Nat.eq_of_mul_eq_mul_right]);refine M_ dV dg bs hF ah df r (j+1) (QR pl (d+j*nt) (dg j)) (s.make (d+j*nt) (.lst ty k xs nl)) jN (hG.make (d+j*nt) (.lst ty k xs nl) (dg j) hF (λ_ _ _ _ _=>rfl) h2 λi _ hi=>⟨(h3 i hi).2,λk' hk hl e=>?_⟩) (λk' i hl hi=>?_) λj' bc lU=>?_
  .grind
  .by_cases hk:k'=d+j*nt
   .subst hk;simp only[QR,zx] at hi
    grind
   .have bF:(Qa s.own k').live=true:=by
     simp only[St.make,St.kill,Qc,Xy,z7 hk] at hl
     rwa [OB.q0m] at hl
    simp only[QR,z7 hk] at hi
    grind
  .by_cases e:j'=j
   .subst e;simp[QR]
   .simp only[QR,z7 (cm j' e)];exact hp j' (by omega) lU
mutual
theorem SR.renb {B:Heap}{pl pl':Nat->Value}{tb tb':Nat->Option Bool}{n d nt:Nat}(hp:∀ j,j<n->pl' (d+j*nt)=pl j) :
  ∀ (s:SV) (v:Value),s.rb n=true->SR P B pl tb s v->SR P B pl' tb' (s.ren d nt) v
 |.any,_,h,_|.bid _ _,_,h,_|.grd _ _,_,h,_|.sub _ _ _ _,_,h,_|.elp _ _ _ _,_,h,_|.rop _ _ _ _,_,h,_|.cp _ _,_,h,_|.fn _ _ _,_,h,_|.pf _ _ _ _,_,h,_|.map _,_,h,_|.dd _ _,_,h,_|.box _ _,_,h,_=>by cases h
 |.val k x,v,h,hs=>by simp only[SR,SV.ren] at hs |-;exact hs
 |.nilS,v,_,hs|.nilP,v,_,hs|.nilM,v,_,hs|.nilF,v,_,hs=>by simp only[SR,SV.ren] at hs |-;exact hs
 |.lst j,v,h,hs=>by
  have hj:j<n:=by simpa [SV.rb,zG] using h
  simp only[SR,SV.ren] at hs |-;rw[hp j hj];exact hs
 |.agg l,v,h,hs=>by simp only[SR,SV.ren] at hs |-;obtain⟨cs,h1,h2⟩:=hs;exact⟨cs,h1,SRs.renb hp l cs h h2⟩
 |.tup l,v,h,hs=>by simp only[SR,SV.ren] at hs |-;obtain⟨cs,h1,h2⟩:=hs;exact⟨cs,h1,SRs.renb hp l cs h h2⟩
theorem SRs.renb {B:Heap}{pl pl':Nat->Value}{tb tb':Nat->Option Bool}{n d nt:Nat}(hp:∀ j,j<n->pl' (d+j*nt)=pl j) :
  ∀ (s:List SV) (v:List Value),SVs.rb n s=true->SRs P B pl tb s v->SRs P B pl' tb' (SVs.ren d nt s) v
 |[],v,_,hs=>by simp only[SRs,SVs.ren] at hs |-;exact hs
 |s::ss,v,h,hs=>by simp only[SVs.rb,z1] at h;simp only[SRs,SVs.ren] at hs |-;obtain⟨x,y,h1,h2,h3⟩:=hs;exact⟨x,y,h1,SR.renb hp s x h.1 h2,SRs.renb hp ss y h.2 h3⟩
end
theorem Od {f:Nat}{vc:VCode}{rs:List VResult}{nt:Nat}(h:Fun P f vc rs nt) (hm:P.follows .mixedOrders=true) {sp:CSp}{ap:Ap}
  (hb:∀ q_ c v bs,sp ap q_=some (c,v,bs)->c->∃ (C:Cx) (L:List (Nat×LoopAnn)) (oA:List SV),SVs.pure oA=true/\(∀ U vs,SRs P U J3 Zn q_ vs->SRs P U J3 Zn oA vs)/\COk P C/\gwp C L vc 0 (WC rs v bs) (Qr nt oA)):XOk P f (CQ ap sp):=by
 intro B F pl tb s env U d args vals K R hG ha hx hK;unfold CQ at hx;have ra:Gam P B F pl tb ⟨s.env++args,s.own,s.nx⟩ (env++vals) U:=⟨hG.bf,hG.le,hG.env.append ha,hG.obj,hG.fresh,hG.sep,hG.free⟩;obtain⟨B1,F1,po,rf,pq,dP⟩:GRel P B F U ((⟨s.env++args,s.own,s.nx⟩:St).frzs (Xt args)) (env++vals) U:=GRel.frzs _ ⟨B,F,pl,tb,.of hG.bf (.refl _),ra⟩;generalize ((⟨s.env++args,s.own,s.nx⟩:St).frzs (Xt args))=s1 at hx dP;dsimp only at hx;have hlen:s.env.length=env.length:=hG.env.length;obtain⟨ic,jr⟩:=SRs.split dP.env;rw[hlen] at hx;have er:Gam P B1 F1 po rf ⟨s1.env.take env.length,s1.own,s1.nx⟩ env U:=⟨dP.bf,dP.le,ic,dP.obj,dP.fresh,dP.sep,dP.free⟩;generalize s1.env.drop env.length=a1 at hx jr;generalize (⟨s1.env.take env.length,s1.own,s1.nx⟩:St)=s2 at hx er;cases mf:SVs.pure a1 with
 |false=>rw[mf] at hx;exact hx.elim
 |true =>
 rw[mf] at hx;simp only[zh] at hx;split at hx
 .rename_i c v bs eK;cases cA:(v.rb bs.length&&bs.all OB.isL) with
  |false=>rw[cA] at hx;exact hx.elim
  |true =>
  rw[cA] at hx;obtain⟨hc,hx⟩:=hx;simp only[z1] at cA;obtain⟨hv,jm⟩:=cA;obtain⟨C,L,oA,dK,lO,me,hg⟩:=hb _ c v bs eK hc;have av:=lO B1 vals (Qx _ _ mf jr);have bK:GRel P B1 U U (Qr nt oA) (vals++List.replicate (nt-vals.length) undef) U:=by
   refine⟨B1,U,J3,Zn,⟨.refl _,.refl _,λ_ _ _ h=>h,.refl _⟩,er.leB,.refl _,?_,λk=>?_,λk i' h1 h2=>?_,λk k' i' uP h1 h2 h3 h4=>?_,λ_ _=>rfl⟩
   .simp only[Qr];rw[av.length];exact SRs.append (Qx _ _ dK av) (Rc _)
   .simp only[Qr,Qa];trivial
   .simp only[Qr,Qa] at h1;cases h1
   .simp only[Qr,Qa] at h1;cases h1
  refine h.calls hm T_ ?_;refine Nb me vc 0 _ _ _ U none _ trivial bK hg λe s' ae U' h1 h2=>?_
  have main:(match W_ s' rs with
   |some r=>(match rmap v r [] with
    |some mp=>D4 mp v r/\FJ s' mp 0 bs
    |none=>False)
   |none=>False)->QM (J1 ae U' rs) λv=>∃ v' aI,DropTo U v U' v' aI/\R v' aI:=λh=>by
   obtain⟨B',F',pl',tb',k1,k2⟩:=h2;split at h
   .rename_i r hr;split at h
    .rename_i mp l9;obtain⟨g1,g2⟩:=h;obtain⟨u,h3,h4⟩:=XD k2 hr;have iu:=Wq v r u g1 h4;have dN:=Ty v r [] mp l9 (λt t' a h=>by cases h);have ah:∀ j b,bs[j]?=some b->Ak s' mp j b:=λj b hj=>by have:=Dw bs 0 g2 j b hj;rwa [zQ] at this
     rw[h3];have hle:U.Le U':=k1.f.trans k2.le;have ez:B'.Le U':=k2.leB;have aU:∀ j b,bs[j]?=some b->b.isL=true/\OR P B' (YS pl' mp) Zn U' (YS pl' mp j) b/\∀ i,Oid (YS pl' mp j) i->U.n<=i/\(B'.over F1).get i=none:=λj b hj=>by
      obtain⟨m1,m2⟩:=Qs k2 (ah j b hj);have hl:=zf.1 jm b (xc hj);obtain⟨ty,k,xs,nl,rfl⟩:=OB.q1r hl;refine⟨hl,m1,λi hi=>?_⟩;obtain⟨a,_,e2,e3⟩:=m2 rfl i hi;have qX:=k2.fresh a i e2 e3;have oB:U.get i=none:=by
       cases hg:U.get i with
       |none=>rfl
       |some b=>have h9:=k1.f.2 _ _ hg;rw[qX] at h9;cases h9
      have kM:B'.get i=none:=by
       cases hg:B'.get i with
       |none=>rfl
       |some b=>have h9:=k2.bf.2 _ _ hg;rw[qX] at h9;cases h9
      have rh:F1.get i=none:=by
       cases hg:F1.get i with
       |none=>rfl
       |some b=>have h9:=er.le.2 _ _ hg;rw[oB] at h9;cases h9
      refine⟨Nat.le_of_not_lt λai=>?_,Heap.q1q kM rh⟩;have aS:=k1.d.2 i ai oB;rcases m1 with⟨_,_,h2⟩|⟨_,i',cap,c,t,h2,_,h3,_⟩
      .rw[h2] at hi;cases hi
      .rw[h2] at hi;obtain rfl:=osj hi;rw[h3] at aS;cases aS
     have df:∀ j j' i,j<bs.length->j'<bs.length->j≠j'->Oid (YS pl' mp j) i->Oid (YS pl' mp j') i->False:=λj j' i hj bc aK hi bS=>by
      have bI:=z8 hj;have bP:=z8 bc;have r1:=zf.1 jm _ (zq hj);have r2:=zf.1 jm _ (zq bc);have l1:(bs[j]).live=true:=by cases ka:bs[j]<;>first|rfl|(rw[ka] at r1;cases r1)
      have l2:(bs[j']).live=true:=by cases ka:bs[j']<;>first|rfl|(rw[ka] at r2;cases r2)
      obtain⟨a,e1,e2,e3⟩:=(Qs k2 (ah j _ bI)).2 l1 i hi;obtain⟨a',qZ,jz,q9⟩:=(Qs k2 (ah j' _ bP)).2 l2 i bS;by_cases e:a=a'
      .subst e;exact aK (dN j j' a e1 qZ)
      .exact k2.sep a a' i e e2 jz e3 q9
     have gX:F1.Le U':=er.le.trans hle;have ck:∀ d,(Qa s2.own d).live=true->∀ i,Oid (po d) i->B'.get i=none/\U'.get i=U.get i:=λd hl i hi=>by
      refine⟨?_,er.q1w hle hl hi⟩;have ai:=(er.obj d).q0s hl hi;cases hg:U.get i with
      |none =>
       have hn:=k1.d.2 i ai hg;cases bD:B'.get i with
       |none=>rfl
       |some bb=>have:=ez.2 _ _ bD;rw[hn] at this;cases this
      |some bb =>
       refine k1.x i bb hg ?_;cases bD:B1.get i with
       |none=>rfl
       |some b2=>have:=er.bf.2 _ _ bD;rw[er.fresh d i hl hi] at this;cases this
     have uQ:Gam P B' (B'.over F1) po rf s2 env U':=⟨Heap.q1y,Heap.q2a ez gX,SRs.mono k1.b (λ_ _ h=>h) _ _ er.env,λd=>(er.obj d).mono k1.b (λ_ _ h=>h) λhl i hi=>(ck d hl i hi).2,λd i q1 q2=>Heap.q1q (ck d q1 i q2).1 (er.fresh d i q1 q2),er.sep,er.free⟩;obtain⟨uR,h5,h6⟩:=M_ (d:=d) (nt:=500000) (σ0:=U) (tbc:=Zn) (by omega) (YS pl' mp) bs (Heap.q2a ez gX) aU df bs 0 po s2 rfl uQ (λk i hl hi=>.inl ((er.obj k).q0s hl hi)) (λj' bc=>by omega);refine⟨u,U',.refl _ _ _,hK _ _ B' (B'.over F1) uR rf u U' hx (pq.trans (.over k1.b ez gX (λi b e1 e2=>k1.x i b (er.le.2 _ _ e1) e2) k1.d)) h5 ?_⟩;exact SR.renb (tb:=Zn) (λj hj=>h6 j hj) _ _ hv iu
    .exact h.elim
   .exact h.elim
  cases e with
  |normal=>exact main h1
  |ret=>exact main h1
  |_=>exact h1.elim
 .exact hx.elim
theorem OI {f:Nat}{vc:VCode}{rs:List VResult}{nt:Nat}(h:Fun P f vc rs nt) (hm:P.follows .mixedOrders=true) {ap:Ap}(dW:O4 P ap) {D:Type}{la:AL D}{pre:D->Prop}{res:D->SV}{obs:D->List OB}
  {C:Cx}(aw:COk P C) {L:D->List (Nat×LoopAnn)}{V:D->Prop}
  (hq:∀ y,gwp C (L y) vc 0 (WC rs (res y) (obs y)) (Qr nt (AL.can la y))=V y)
  (hb:∀ y,pre y->V y):XOk P f (CQ ap (W2 la pre res obs)):=Od h hm λq_ c v bs hs hc=>by
 unfold W2 at hs
 grind [AL.q0l,AL.q0k]
end
end Go.V
namespace Go.V
open Go
def v6 {A B C D E:Type}(x:A×B×C×D×E):E:=x.2.2.2.2
def v7 {A B C D A' B' C' D' E:Type}(x:A×B×C×D×A'×B'×C'×D'×E):E:=x.2.2.2.2.2.2.2.2
def Q7 {A B C D A' B' C' D' A1 B1 C1 D1 A2 B2 C2 D2 E:Type}(x:A×B×C×D×A'×B'×C'×D'×A1×B1×C1×D1×A2×B2×C2×D2×E):E:=x.2.2.2.2.2.2.2.2.2.2.2.2.2.2.2.2
theorem A_ {x:Nat}(h:x<9223372036854775808):IntKind.wrap .i64 (x:Int)=x:=by
 have e:((x:Int) % (18446744073709551616:Int))=x:=by omega
 have:¬ ((x:Int)>=9223372036854775808):=by omega
 show (if (true&&decide ((x:Int) % (18446744073709551616:Int)>=9223372036854775808))=true then (x:Int) % (18446744073709551616:Int)-18446744073709551616 else (x:Int) % (18446744073709551616:Int))=x;simp only[e,this,decide_false,Bool.and_false,zz,if_false]
theorem OH {x y:Nat}(h:x<9223372036854775808):x &&& y<9223372036854775808:=Nat.lt_of_le_of_lt Nat.and_le_left h
theorem FK (x:Nat):BitVec.ofInt 64 (x:Int)=BitVec.ofNat 64 x:=by apply BitVec.eq_of_toNat_eq;simp
theorem BL {x:Nat}(h:x<9223372036854775808):(BitVec.ofInt 64 (x:Int)).toNat=x:=by rw[FK,BitVec.toNat_ofNat,wk (by omega)]
theorem Oj {x y:Nat}(hx:x<9223372036854775808) (hy:y<9223372036854775808):Bo .and .i64 x y=((x &&& y:Nat):Int):=by
 have e:(BitVec.ofInt 64 (x:Int) &&& BitVec.ofInt 64 (y:Int)).toNat=x &&& y:=by rw[BitVec.toNat_and,BL hx,BL hy]
 show IntKind.wrap .i64 ((BitVec.ofInt 64 (x:Int) &&& BitVec.ofInt 64 (y:Int)).toNat:Int)=_;rw[e,A_ (OH hx)]
theorem Q0y {x i:Nat}(hi:i<=64):Q17 .i64 x i=((x >>> i:Nat):Int):=by have:Nat.min i 64=i:=xX hi;simp only[Q17,zp,IntKind.bits,this];rw[Nat.shiftRight_eq_div_pow,Int.fdiv_eq_ediv_of_nonneg _ (Int.le_of_lt (Int.pow_pos (by omega)))];norm_cast
theorem Q1o {x i:Nat}(hx:x<9223372036854775808) (hi:i<=64):(Bo .and .i64 (Q17 .i64 x i) 1==1)=x.testBit i:=by have h1:x >>> i<9223372036854775808:=Nat.lt_of_le_of_lt (by rw[Nat.shiftRight_eq_div_pow];exact Nat.div_le_self _ _) hx;rw[Q0y hi,show (1:Int)=((1:Nat):Int) from rfl,Oj h1 (by omega),Nat.testBit];rw[Bool.eq_iff_iff];simp only[zj,bne_iff_ne,ne_eq];rw[Nat.and_comm,Nat.one_and_eq_mod_two];omega
end Go.V
namespace Go.Proofs.Tryz
open Go Go.V Go.Proofs
def inI (n a b:Int):Bool:=decide (a<=n)&&decide (n<=b)
def QL (hk:Int) (lw:List Int):Int:=if !inI hk 1 24 then 2 else if 96<lw.length then 5 else if lw.length=0 then 7 else if lw.any (λx=>!inI x 0 (hk-1)) then 2 else 0
def Q7v (lw a:List Int) (w:Int) (e:Nat):Bool:=lw.getD e 0==lw.getD w.toNat 0&&!(a.contains (e:Int))
def step (lw:List Int) (a:List Int) (w:Int):List Int:=match (List.range lw.length).find? (Q7v lw a w) with
 |some e=>a.set w.toNat e
 |none=>a
def ID (l:List Int) (p:Int->Bool):Int:=match l.findIdx? p with|some i=>(i:Int)|none=>-1
def FT {α:Type}(l:List α) (p:α->Bool):Int:=match l.findIdx? p with|some i=>(i:Int)|none=>-1
def N6 (b:Bool):Int:=if b then 120 else 46
def Jj (lw:List Int) (row:Int):List UInt8:=lw.map λk=>if row.toNat.testBit k.toNat then 120 else 46
def Qg (hd:Int) (rows:List Int):Int:=if !inI hd 1 24 then 2 else if 60<rows.length then 5 else if rows.length=0 then 7 else if rows.any (λx=>!inI x 0 (2 ^ hd.toNat-1)) then 2 else 0
def Qb (hk:Int) (lw:List Int) (hd:Int) (rows:List Int):Int:=if QL hk lw≠0 then QL hk lw else if Qg hd rows≠0 then Qg hd rows else if hd≠hk then 4 else 0
def QF (hk:Int) (lw:List Int) (hd:Int) (rows:List Int):List (List UInt8):=if Qb hk lw hd rows=0 then rows.map (Jj lw) else []
theorem Kb {hk:Int}{lw:List Int}(h:QL hk lw=0):1<=hk/\hk<=24/\lw.length<=96/\lw.length≠0/\∀ x∈lw,0<=x/\x<hk:=by
 unfold QL at h;split at h
 .cases h
 .rename_i h1;split at h
  .cases h
  .rename_i h2;split at h
   .cases h
   .rename_i h3;split at h
    .cases h
    .rename_i h4;have h1:1<=hk/\hk<=24:=by simpa [inI] using h1
     refine⟨h1.1,h1.2,by omega,h3,λx hx=>?_⟩;have h5:∀ x∈lw,inI x 0 (hk-1)=true:=by simpa using h4
     have:=h5 x hx;simp only[inI,z1,zg] at this;omega
theorem Fo {α:Type}{l:List α}{p:α->Bool}{k:Nat}(hk:k<l.length) (h:p l[k]=true) (hJ:(l.take k).any p=false):FT l p=k:=by
 have:l.findIdx? p=some k:=by rw[List.findIdx?_eq_some_iff_getElem];refine⟨hk,h,λj hj=>?_⟩;have hn:=xM.1 hJ l[j] (List.mem_take_iff_getElem.2 ⟨j,by omega,rfl⟩);simpa using hn
 simp[FT,this]
theorem SE {α:Type}{l:List α}{p:α->Bool}(hJ:l.any p=false):FT l p=-1:=by
 have:l.findIdx? p=none:=by rw[List.findIdx?_eq_none_iff];intro x hx;have:=xM.1 hJ x hx;simpa using this
 simp[FT,this]
theorem OQ {α:Type}(l:List α) (p:α->Bool):(decide (FT l p>=0))=l.any p:=by
 cases h:l.any p with
 |false=>rw[SE h];rfl
 |true =>
  have:(l.findIdx? p).isSome=true:=by rw[List.findIdx?_isSome,h]
  obtain⟨i,hi⟩:=Option.isSome_iff_exists.1 this;have e:FT l p=(i:Int):=by simp[FT,hi]
  rw[e];exact wb (Int.natCast_nonneg i)
def YA (r:Int) (n:Nat):List Bool:=(List.range n).map λk=>r.toNat.testBit k
theorem Aj (r:Int) (n:Nat):(YA r n).length=n:=by simp[YA]
theorem Fh {r:Int}{n k:Nat}(h:k<n):(YA r n).getD k false=r.toNat.testBit k:=by rw[Qd (by simpa [YA] using h)];simp[YA]
theorem EZ (r:Int) (n:Nat):YA r (n+1)=YA r n++[r.toNat.testBit n]:=by simp[YA,List.range_succ]
theorem Ov (n:Nat):Int.tdiv (n:Int) 2=((n / 2:Nat):Int):=rfl
theorem OD (n:Nat):Int.tmod (n:Int) 2=((n % 2:Nat):Int):=rfl
def rowAt (rows:List Int) (p:Int):Nat:=(rows.getD (p.toNat % rows.length) 0).toNat
def NR:AL (List Int):=(.one (.k (.list (.i .i64))))
def HB (d:List Int):Prop:=d.length<=110
def Ui (d:List Int):SV:=.lst 0
def Uc (d:List Int):List OB:=[.lst 3 (.i .i64) d false]
def Y2:CSp:=W2 NR HB Ui Uc
def We (l:List Int):Prop :=
 (((List.length ([]:List Int))+l.length)*8<=70368744177664)/\(True/\(((([]:List Int)++l)=l/\(l.isEmpty&&false)=false)/\True))
def Na:Cx:=⟨[(3,(.i .i64))],[],6,[],0,[],[],[],[],false,[],[],[],[]⟩
def PU (l:List Int):List (Nat×LoopAnn):=[]
theorem Ta (d:List Int):gwp (Na) (PU d) c30 0 (WC [.tmp 2] (Ui d) (Uc d)) (Qr 6 (AL.can NR d))=We d:=by kernel_rfl
abbrev Rj:Prop:=OkC Tryz.prog 30 Y2
theorem T7 (h:∀ (l:List Int),(l.length<=110)->We l):OkC Tryz.prog 30 Y2 :=
 QD Q2h mixed (C:=Na) (V:=λ(d:List Int)=>We d) ⟨.nil,XsOk.nil,ItsOk.nil,YlOk.nil,IysOk.nil,XfOk.nil⟩ (Ta) λd hp=>h d hp
theorem NZ:Rj:=T7 λl h=>by
 (unfold We;(try delta lI gD sT I64 Q7 v7 v6);simp);omega
def Gu:AL (Int×List Int):=(.one (.agg (.cons (.k (.i .i64)) (.one (.k (.list (.i .i64)))))))
def Rm (d:Int×List Int):Prop:=d.2.length<=110
def Nk (d:Int×List Int):SV:=.agg [.val (.i .i64) d.1,.lst 0]
def M7 (d:Int×List Int):List OB:=[.lst 3 (.i .i64) d.2 false]
def UW:CSp:=W2 Gu Rm Nk M7
def Yf (hk:Int) (lw:List Int):Prop :=
 (lw.length<=110)/\(false=true->lw=[])/\((hk=hk/\True/\(([]:List SV)=[]))/\((lw=lw/\false=false)/\True))
def MY:Cx:=⟨[],[(30,Y2)],9,[],0,[],[],[],[],false,[],[],[],[]⟩
def Ld (hk:Int) (lw:List Int):List (Nat×LoopAnn):=[]
theorem Sz (d:Int×List Int):gwp (MY) (Ld d.1 d.2) c8 0 (WC [.cell 2 true 2] (Nk d) (M7 d)) (Qr 9 (AL.can Gu d))=Yf d.1 d.2:=by kernel_rfl
abbrev Lc:Prop:=OkC Tryz.prog 8 UW
theorem Sc (h:∀ (hk:Int) (lw:List Int),(lw.length<=110)->Yf hk lw):OkC Tryz.prog 8 UW :=
 QD Q7u mixed (C:=MY) (V:=λ(d:Int×List Int)=>Yf d.1 d.2) ⟨(.cons NZ .nil),XsOk.nil,ItsOk.nil,YlOk.nil,IysOk.nil,XfOk.nil⟩ (Sz) λd hp=>h d.1 d.2 hp
theorem Sg:Lc:=Sc λhk lw h=>by simp[Yf,h]
def J9:AL (List Int×((Int->Prop)×(Int->Bool))):=(.cons (.k (.list (.i .i64))) (.one (.fn [(.i .i64)] .bo)))
def Wm (d:List Int×((Int->Prop)×(Int->Bool))):Prop:=d.1.length<=1000000/\∀ x∈d.1,d.2.1 x
def ZY (d:List Int×((Int->Prop)×(Int->Bool))):SV:=.val (.i .i64) (ID d.1 d.2.2)
def J2 (d:List Int×((Int->Prop)×(Int->Bool))):List OB:=[]
def Ze:CSp:=W2 J9 Wm ZY J2
def QG (l:List Int) (p:(Int->Prop)×(Int->Bool)):Prop :=
 ∃ (e2:Unit) (d20:Int),((l=l/\(SV.pf [(.i .i64)] .bo p.1 p.2=SV.pf [(.i .i64)] .bo p.1 p.2)/\(lI l)=(lI l)/\(0:Int)=d20/\True)/\(True)) /\
 LoopP (λ(d2:Int) (q2:(Int)->Prop) =>
  ((decide (d2<(lI l)))=true ->
   (0<=d2)/\(d2<l.length)/\(p.1 (gD l d2 0))/\((p.2 (gD l d2 0))=true ->
    (d2=(ID l p.2)/\(True))) /\
   ((p.2 (gD l d2 0))=false ->
    (I64 (d2+(1:Int)))/\(∃ d3:Int,((l=l/\(SV.pf [(.i .i64)] .bo p.1 p.2=SV.pf [(.i .i64)] .bo p.1 p.2)/\(lI l)=(lI l)/\(d2+(1:Int))=d3/\True)/\(True))/\q2 d3))) /\
  ((decide (d2<(lI l)))=false ->
   ((-1:Int)=(ID l p.2)/\(True)))) d20
def J6:Cx:=⟨[],[],19,[],0,[],[],[],[],false,[],[],[],[]⟩
def WS (l:List Int) (p:(Int->Prop)×(Int->Bool)):List (Nat×LoopAnn):=[(0,⟨Unit,Int,[0,1,7,8],λe x=>[.val (.list (.i .i64)) l,.pf [(.i .i64)] .bo p.1 p.2,.val (.i .i64) ((l.length:Nat):Int),.val (.i .i64) x],λe x=>[]⟩)]
theorem WT (d:List Int×((Int->Prop)×(Int->Bool))):gwp (J6) (WS d.1 d.2) c89 0 (WC [.tmp 4] (ZY d) (J2 d)) (Qr 19 (AL.can J9 d))=QG d.1 d.2:=by kernel_rfl
abbrev WB:Prop:=OkC Tryz.prog 89 Ze
theorem WA (h:∀ (l:List Int) (p:(Int->Prop)×(Int->Bool)),(l.length<=1000000/\∀ x∈l,p.1 x)->QG l p):OkC Tryz.prog 89 Ze :=
 QD Q4f mixed (C:=J6) (V:=λ(d:List Int×((Int->Prop)×(Int->Bool)))=>QG d.1 d.2) ⟨.nil,XsOk.nil,ItsOk.nil,YlOk.nil,IysOk.nil,XfOk.nil⟩ (WT) λd hp=>h d.1 d.2 hp
theorem I8 {l:List Int}{p:Int->Bool}{k:Nat}(hk:k<l.length) (h:p l[k]=true) (hJ:(l.take k).any p=false):ID l p=k:=by
 have:l.findIdx? p=some k:=by rw[List.findIdx?_eq_some_iff_getElem];refine⟨hk,h,λj hj=>?_⟩;have hn:=xM.1 hJ l[j] (List.mem_take_iff_getElem.2 ⟨j,by omega,rfl⟩);simpa using hn
 simp[ID,this]
theorem FZ {l:List Int}{p:Int->Bool}(hJ:l.any p=false):ID l p=-1:=by
 have:l.findIdx? p=none:=by rw[List.findIdx?_eq_none_iff];intro x hx;have:=xM.1 hJ x hx;simpa using this
 simp[ID,this]
theorem LF (l:List Int) (p:Int->Bool):decide (ID l p>=0)=l.any p:=by
 unfold ID;cases h:l.findIdx? p with
 |none =>
  have:=List.findIdx?_eq_none_iff.1 h;have:l.any p=false:=by rw[xM];intro x hx;simp[this x hx]
  rw[this];rfl
 |some i =>obtain⟨h1,h2,_⟩:=List.findIdx?_eq_some_iff_getElem.1 h;rw[xJ.2 ⟨l[i],zq h1,h2⟩];simp
theorem Wx:WB:=WA λl p hp=>by
 unfold QG;(try delta lI gD sT I64 Q7 v7 v6);simp only[true_and,and_true,exists_eq_left',exists_const,zg,zn];refine LoopP.count l.length (λk=>(l.take k).any p.2=false) (by simp) λk aV hJ q hq=>?_;simp only[zp,Int.ofNat_lt,Zd];refine⟨λai=>?_,λbu=>?_⟩
 .rw[Qd ai];refine⟨by omega,ai,hp.2 _ (zq ai),λhx=>?_,λhx=>⟨by omega,hq ai ?_⟩⟩
  .rw[I8 ai hx hJ]
  .rw[Qi ai,List.any_append,hJ];simp[hx]
 .rw[zC (by omega)] at hJ;rw[FZ hJ]
def ZJ:AL (List Int×((Int->Prop)×(Int->Bool))):=(.cons (.k (.list (.i .i64))) (.one (.fn [(.i .i64)] .bo)))
def Xq (d:List Int×((Int->Prop)×(Int->Bool))):Prop:=d.1.length<=1000000/\∀ x∈d.1,d.2.1 x
def Zy (d:List Int×((Int->Prop)×(Int->Bool))):SV:=.val .bo (d.1.any d.2.2)
def Zz (d:List Int×((Int->Prop)×(Int->Bool))):List OB:=[]
def Qz:CSp:=W2 ZJ Xq Zy Zz
def QQ (l:List Int) (p:(Int->Prop)×(Int->Bool)):Prop :=
 (l.length<=1000000/\∀ x∈l,(λ(x1:Int)=>p.1 x1) x)/\((decide ((ID l (λ(x1:Int)=>(p.2 x1)))>=(0:Int)))=(l.any p.2)/\(True))
def ZG:Cx:=⟨[],[(89,Ze)],9,[],0,[],[],[],[],false,[],[],[],[]⟩
def XV (l:List Int) (p:(Int->Prop)×(Int->Bool)):List (Nat×LoopAnn):=[]
theorem XP (d:List Int×((Int->Prop)×(Int->Bool))):gwp (ZG) (XV d.1 d.2) c70 0 (WC [.tmp 4] (Zy d) (Zz d)) (Qr 9 (AL.can ZJ d))=QQ d.1 d.2:=by kernel_rfl
abbrev XX:Prop:=OkC Tryz.prog 70 Qz
theorem XQ (h:∀ (l:List Int) (p:(Int->Prop)×(Int->Bool)),(l.length<=1000000/\∀ x∈l,p.1 x)->QQ l p):OkC Tryz.prog 70 Qz :=
 QD Q2s mixed (C:=ZG) (V:=λ(d:List Int×((Int->Prop)×(Int->Bool)))=>QQ d.1 d.2) ⟨(.cons Wx .nil),XsOk.nil,ItsOk.nil,YlOk.nil,IysOk.nil,XfOk.nil⟩ (XP) λd hp=>h d.1 d.2 hp
theorem ZE:XX:=XQ λl p hp=>by exact⟨hp,LF l p.2,trivial⟩
def Vw:AL (Int×Int×Int):=(.cons (.k (.i .i64)) (.cons (.ptr (.one (.k (.i .i64)))) (.one (.ptr (.one (.k (.i .i64)))))))
def GR (d:Int×Int×Int):Prop:=True
def Kq (d:Int×Int×Int):SV:=.val .bo (decide (d.1<d.2.1)||decide (d.2.2<d.1))
def Ko (d:Int×Int×Int):List OB:=[]
def Yi:CSp:=W2 Vw GR Kq Ko
def WN (n:Int) (a:Int) (b:Int):Prop :=
 (((decide (n<a))||(decide (n > b)))=(decide (n<a)||decide (b<n))/\(True))
def Vb:Cx:=⟨[],[],13,[],0,[],[],[],[],false,[],[],[],[]⟩
def Dh (n:Int) (a:Int) (b:Int):List (Nat×LoopAnn):=[]
theorem DT (d:Int×Int×Int):gwp (Vb) (Dh d.1 d.2.1 d.2.2) c97 0 (WC [.tmp 4] (Kq d) (Ko d)) (Qr 13 (AL.can Vw d))=WN d.1 d.2.1 d.2.2:=by kernel_rfl
abbrev H2:Prop:=OkC Tryz.prog 97 Yi
theorem DI (h:∀ (n:Int) (a:Int) (b:Int),(True)->WN n a b):OkC Tryz.prog 97 Yi :=
 QD Q3t mixed (C:=Vb) (V:=λ(d:Int×Int×Int)=>WN d.1 d.2.1 d.2.2) ⟨.nil,XsOk.nil,ItsOk.nil,YlOk.nil,IysOk.nil,XfOk.nil⟩ (DT) λd hp=>h d.1 d.2.1 d.2.2 hp
theorem By:H2:=DI λn a b _=>by exact⟨rfl,trivial⟩
def N_:AL (Int×Int×List Int):=(.cons (.k (.i .i64)) (.cons (.k (.i .i64)) (.one (.k (.list (.i .i64))))))
def HV (d:Int×Int×List Int):Prop:=d.2.2.length<=1000000
def Us (d:Int×Int×List Int):SV:=.val .bo (!(d.2.2.any λn=>decide (n<d.1)||decide (d.2.1<n)))
def Ud (d:Int×Int×List Int):List OB:=[]
def V0:CSp:=W2 N_ HV Us Ud
def Y_ (a:Int) (b:Int) (l:List Int):Prop :=
 (l.length<=1000000/\∀ x∈l,(λ(x1:Int)=>True) x)/\((!(l.any (λ(x1:Int)=>(decide (x1<a)||decide (b<x1)))))=(!(l.any λn=>decide (n<a)||decide (b<n)))/\(True))
def Me:Cx:=⟨[],[(70,Qz),(97,Yi)],11,[],0,[],[],[],[],false,[],[],[],[]⟩
def Rs (a:Int) (b:Int) (l:List Int):List (Nat×LoopAnn):=[]
theorem TW (d:Int×Int×List Int):gwp (Me) (Rs d.1 d.2.1 d.2.2) c84 0 (WC [.tmp 6] (Us d) (Ud d)) (Qr 11 (AL.can N_ d))=Y_ d.1 d.2.1 d.2.2:=by kernel_rfl
abbrev PW:Prop:=OkC Tryz.prog 84 V0
theorem R3 (h:∀ (a:Int) (b:Int) (l:List Int),(l.length<=1000000)->Y_ a b l):OkC Tryz.prog 84 V0 :=
 QD Q3k mixed (C:=Me) (V:=λ(d:Int×Int×List Int)=>Y_ d.1 d.2.1 d.2.2) ⟨(.cons ZE (.cons By .nil)),XsOk.nil,ItsOk.nil,YlOk.nil,IysOk.nil,XfOk.nil⟩ (TW) λd hp=>h d.1 d.2.1 d.2.2 hp
theorem Tz:PW:=R3 λa b l h=>by exact⟨⟨h,λ_ _=>trivial⟩,rfl,trivial⟩
def Gn:AL (Int×List Int):=(.one (.agg (.cons (.k (.i .i64)) (.one (.k (.list (.i .i64)))))))
def Ri (d:Int×List Int):Prop:=d.2.length<=1000000
def NF (d:Int×List Int):SV:=.val (.i .i64) (QL d.1 d.2)
def NN (d:Int×List Int):List OB:=[]
def YW:CSp:=W2 Gn Ri NF NN
def Y1 (hk:Int) (lw:List Int):Prop :=
 ([hk].length<=1000000)/\((!(!([hk].any λn=>decide (n<(1:Int))||decide ((24:Int)<n))))=true ->
  ((2:Int)=(QL hk lw)/\(True))) /\
 ((!(!([hk].any λn=>decide (n<(1:Int))||decide ((24:Int)<n))))=false ->
  ((decide ((lI lw) > (96:Int)))=true ->
   ((5:Int)=(QL hk lw)/\(True))) /\
  ((decide ((lI lw) > (96:Int)))=false ->
   (((lI lw)==(0:Int))=true ->
    ((7:Int)=(QL hk lw)/\(True))) /\
   (((lI lw)==(0:Int))=false ->
    (I64 (hk-(1:Int)))/\(lw.length<=1000000)/\((!(!(lw.any λn=>decide (n<(0:Int))||decide ((hk-(1:Int))<n))))=true ->
     ((2:Int)=(QL hk lw)/\(True))) /\
    ((!(!(lw.any λn=>decide (n<(0:Int))||decide ((hk-(1:Int))<n))))=false ->
     ((0:Int)=(QL hk lw)/\(True))))))
def MV:Cx:=⟨[(3,(.i .i64))],[(84,V0)],27,[],0,[],[],[],[],false,[],[],[],[]⟩
def SO (hk:Int) (lw:List Int):List (Nat×LoopAnn):=[]
theorem S8 (d:Int×List Int):gwp (MV) (SO d.1 d.2) c64 0 (WC [.tmp 2] (NF d) (NN d)) (Qr 27 (AL.can Gn d))=Y1 d.1 d.2:=by kernel_rfl
abbrev SJ:Prop:=OkC Tryz.prog 64 YW
theorem SU (h:∀ (hk:Int) (lw:List Int),(lw.length<=1000000)->Y1 hk lw):OkC Tryz.prog 64 YW :=
 QD Q3o mixed (C:=MV) (V:=λ(d:Int×List Int)=>Y1 d.1 d.2) ⟨(.cons Tz .nil),XsOk.nil,ItsOk.nil,YlOk.nil,IysOk.nil,XfOk.nil⟩ (S8) λd hp=>h d.1 d.2 hp
theorem nI (n a b:Int):(!inI n a b)=(decide (n<a)||decide (b<n)):=by simp only[inI,Bool.not_and];by_cases h1:a<=n<;>by_cases h2:n<=b<;>simp[h1,h2]<;>omega
theorem MW:SJ:=SU λhk lw hl=>by
 unfold Y1;(try delta lI gD sT I64 Q7 v7 v6);simp only[and_true,zg,zn,zj,ne_eq,zB,gt_iff_lt,Bool.not_not];simp only[<-nI];refine⟨by simp,λh1=>by simp at h1;simp[QL,h1],λh1=>⟨λh2=>?_,λh2=>⟨λh3=>?_,λh3=>?_⟩⟩⟩;all_goals simp only[List.any_cons,List.any_nil,Bool.or_false,zV] at h1
 .have:96<lw.length:=by omega
  simp[QL,h1,this]
 .have h3:lw.length=0:=by omega
  simp[QL,h1,h3]
 have fh:¬ 96<lw.length:=by omega
 have fk:¬ lw.length=0:=by omega
 have hi:1<=hk/\hk<=24:=by simpa [inI] using h1
 have jW:QL hk lw=if lw.any (λx=>!inI x 0 (hk-1)) then 2 else 0:=by simp only[QL,h1,fh,fk];simp
 rw[jW];simp only[Zd];refine⟨by omega,by omega,λh=>by rw[z6 h],λh=>by rw[h];rfl⟩
def UA:AL ((Int×List Int)×List Int×Int×List Int):=(.cons (.agg (.cons (.k (.i .i64)) (.one (.k (.list (.i .i64)))))) (.cons (.k (.list (.i .i64))) (.one (.agg (.cons (.k (.i .i64)) (.one (.k (.list (.i .i64)))))))))
def H6 (d:(Int×List Int)×List Int×Int×List Int):Prop:=True
def Vs (d:(Int×List Int)×List Int×Int×List Int):SV:=.val .bo (decide (110<d.1.2.length)||decide (110<d.2.1.length)||decide (70<d.2.2.2.length))
def KX (d:(Int×List Int)×List Int×Int×List Int):List OB:=[]
def Kh:CSp:=W2 UA H6 Vs KX
def XE (hk:Int) (lw:List Int) (l:List Int) (aV:Int) (rows:List Int):Prop :=
 ((((decide ((lI lw) > (110:Int)))||(decide ((lI l) > (110:Int))))||(decide ((lI rows) > (70:Int))))=(decide (110<lw.length)||decide (110<l.length)||decide (70<rows.length))/\(True))
def UB:Cx:=⟨[],[],22,[],0,[],[],[],[],false,[],[],[],[]⟩
def HL (hk:Int) (lw:List Int) (l:List Int) (aV:Int) (rows:List Int):List (Nat×LoopAnn):=[]
theorem Hl (d:(Int×List Int)×List Int×Int×List Int):gwp (UB) (HL d.1.1 d.1.2 d.2.1 d.2.2.1 d.2.2.2) c4 0 (WC [.tmp 6] (Vs d) (KX d)) (Qr 22 (AL.can UA d))=XE d.1.1 d.1.2 d.2.1 d.2.2.1 d.2.2.2:=by kernel_rfl
abbrev Ho:Prop:=OkC Tryz.prog 4 Kh
theorem P0 (h:∀ (hk:Int) (lw:List Int) (l:List Int) (aV:Int) (rows:List Int),(True)->XE hk lw l aV rows):OkC Tryz.prog 4 Kh :=
 QD Q7d mixed (C:=UB) (V:=λ(d:(Int×List Int)×List Int×Int×List Int)=>XE d.1.1 d.1.2 d.2.1 d.2.2.1 d.2.2.2) ⟨.nil,XsOk.nil,ItsOk.nil,YlOk.nil,IysOk.nil,XfOk.nil⟩ (Hl) λd hp=>h d.1.1 d.1.2 d.2.1 d.2.2.1 d.2.2.2 hp
theorem H_:Ho:=P0 λhk lw l aV rows _=>by
 unfold XE;(try delta lI gD sT I64 Q7 v7 v6);simp only[and_true,gt_iff_lt];congr 1
 .congr 1
  .simp only[decide_eq_decide];omega
  .simp only[decide_eq_decide];omega
 .simp only[decide_eq_decide];omega
def BP:AL (Int×Int×Int):=(.cons (.k (.i .i64)) (.cons (.k (.i .i64)) (.one (.k (.i .i64)))))
def Sj (d:Int×Int×Int):Prop:=True
def Gb (d:Int×Int×Int):SV:=.val .bo (inI d.1 d.2.1 d.2.2)
def Gt (d:Int×Int×Int):List OB:=[]
def VL:CSp:=W2 BP Sj Gb Gt
def Kg (n:Int) (a:Int) (b:Int):Prop :=
 (((decide (n>=a))&&(decide (n<=b)))=(inI n a b)/\(True))
def DB:Cx:=⟨[],[],15,[],0,[],[],[],[],false,[],[],[],[]⟩
def LZ (n:Int) (a:Int) (b:Int):List (Nat×LoopAnn):=[]
theorem LL (d:Int×Int×Int):gwp (DB) (LZ d.1 d.2.1 d.2.2) c29 0 (WC [.tmp 6] (Gb d) (Gt d)) (Qr 15 (AL.can BP d))=Kg d.1 d.2.1 d.2.2:=by kernel_rfl
abbrev LA:Prop:=OkC Tryz.prog 29 VL
theorem Cd (h:∀ (n:Int) (a:Int) (b:Int),(True)->Kg n a b):OkC Tryz.prog 29 VL :=
 QD Q3q mixed (C:=DB) (V:=λ(d:Int×Int×Int)=>Kg d.1 d.2.1 d.2.2) ⟨.nil,XsOk.nil,ItsOk.nil,YlOk.nil,IysOk.nil,XfOk.nil⟩ (LL) λd hp=>h d.1 d.2.1 d.2.2 hp
theorem DM:LA:=Cd λn a b _=>by simp[Kg,inI]
def Uv:AL (Int×List Int):=(.one (.agg (.cons (.k (.i .i64)) (.one (.k (.list (.i .i64)))))))
def Dq (d:Int×List Int):Prop:=True
def Vh (d:Int×List Int):SV:=.val (.i .i64) (QL d.1 d.2)
def Vy (d:Int×List Int):List OB:=[]
def K2:CSp:=W2 Uv Dq Vh Vy
def XF (hk:Int) (lw:List Int):Prop :=
 (True)/\((!(inI hk (1:Int) (24:Int)))=true ->
  ((2:Int)=(QL hk lw)/\(True))) /\
 ((!(inI hk (1:Int) (24:Int)))=false ->
  ((decide ((lI lw) > (96:Int)))=true ->
   ((5:Int)=(QL hk lw)/\(True))) /\
  ((decide ((lI lw) > (96:Int)))=false ->
   (((lI lw)==(0:Int))=true ->
    ((7:Int)=(QL hk lw)/\(True))) /\
   (((lI lw)==(0:Int))=false ->
    ∃ (e3:Unit) (d30:Int),((True/\(0:Int)=d30/\True)/\((hk=hk/\lw=lw/\(([]:List SV)=[]))/\True)) /\
    LoopP (λ(d3:Int) (q3:(Int)->Prop) =>
     ((decide (d3<(lI lw)))=true ->
      (0<=d3)/\(d3<lw.length)/\(I64 (hk-(1:Int)))/\(True)/\((!(inI (gD lw d3 0) (0:Int) (hk-(1:Int))))=true ->
       ((2:Int)=(QL hk lw)/\(True))) /\
      ((!(inI (gD lw d3 0) (0:Int) (hk-(1:Int))))=false ->
       (I64 (d3+(1:Int)))/\(∃ d4:Int,((True/\(d3+(1:Int))=d4/\True)/\((hk=hk/\lw=lw/\(([]:List SV)=[]))/\True))/\q3 d4))) /\
     ((decide (d3<(lI lw)))=false ->
      ((0:Int)=(QL hk lw)/\(True)))) d30)))
def VZ:Cx:=⟨[],[(29,VL)],33,[],0,[],[],[],[],false,[],[],[],[]⟩
def HS (hk:Int) (lw:List Int):List (Nat×LoopAnn):=[(0,⟨Unit,Int,[1,3],λe x=>[.box 1 0,.val (.i .i64) x],λe x=>[(1,.slot 1,.cells [.val (.i .i64) hk,.val (.list (.i .i64)) lw] (some 24))]⟩)]
theorem Hh (d:Int×List Int):gwp (VZ) (HS d.1 d.2) c27 0 (WC [.tmp 2] (Vh d) (Vy d)) (Qr 33 (AL.can Uv d))=XF d.1 d.2:=by kernel_rfl
abbrev Hi:Prop:=OkC Tryz.prog 27 K2
theorem Hz (h:∀ (hk:Int) (lw:List Int),(True)->XF hk lw):OkC Tryz.prog 27 K2 :=
 QD Q3j mixed (C:=VZ) (V:=λ(d:Int×List Int)=>XF d.1 d.2) ⟨(.cons DM .nil),XsOk.nil,ItsOk.nil,YlOk.nil,IysOk.nil,XfOk.nil⟩ (Hh) λd hp=>h d.1 d.2 hp
theorem HC:Hi:=Hz λhk lw _=>by
 unfold XF;(try delta lI gD sT I64 Q7 v7 v6);simp only[true_and,and_true,exists_eq_left',exists_const,zg,zn,zj,ne_eq,zB,Bool.not_eq_true',zV,gt_iff_lt];refine⟨λh1=>by simp[QL,h1],λh1=>⟨λh2=>?_,λh2=>⟨λh3=>?_,λh3=>?_⟩⟩⟩
 .have:96<lw.length:=by omega
  simp[QL,h1,this]
 .have h3:lw.length=0:=by omega
  simp[QL,h1,h3]
 have fh:¬ 96<lw.length:=by omega
 have fk:¬ lw.length=0:=by omega
 have hi:1<=hk/\hk<=24:=by simpa [inI] using h1
 have jW:QL hk lw=if lw.any (λx=>!inI x 0 (hk-1)) then 2 else 0:=by simp only[QL,h1,fh,fk];simp
 refine LoopP.count lw.length (λk=>(lw.take k).any (λx=>!inI x 0 (hk-1))=false) (by simp) λk aV hJ q hq=>?_;simp only[zp,Int.ofNat_lt,Zd];refine⟨λai=>?_,λbu=>?_⟩
 .rw[Qd ai];refine⟨by omega,ai,by omega,λhx=>?_,λhx=>⟨by omega,hq ai ?_⟩⟩
  .rw[jW,z6 (xJ.2 ⟨lw[k],zq ai,by simp[hx]⟩)]
  .rw[Qi ai,List.any_append,hJ];simp[hx]
 .rw[zC (by omega)] at hJ;rw[jW,hJ];rfl
def ND:AL ((Int×List Int)×Int×List Int):=(.cons (.agg (.cons (.k (.i .i64)) (.one (.k (.list (.i .i64)))))) (.one (.agg (.cons (.k (.i .i64)) (.one (.k (.list (.i .i64))))))))
def HE (d:(Int×List Int)×Int×List Int):Prop:=d.1.2.length<=1000000
def Ul (d:(Int×List Int)×Int×List Int):SV:=.val .bo (decide (d.1.1=d.2.1)&&(d.1.2==d.2.2))
def V_ (d:(Int×List Int)×Int×List Int):List OB:=[]
def V3:CSp:=W2 ND HE Ul V_
def Wj (hk:Int) (lw:List Int) (aV:Int) (eX:List Int):Prop :=
 (((hk != aV)||((lI lw) != (lI eX)))=true ->
  (false=(decide (hk=aV)&&(lw==eX))/\(True))) /\
 (((hk != aV)||((lI lw) != (lI eX)))=false ->
  ∃ (e3:Unit) (d30:Int),((True/\True/\(0:Int)=d30/\True)/\((hk=hk/\lw=lw/\(([]:List SV)=[]))/\(aV=aV/\eX=eX/\(([]:List SV)=[]))/\True)) /\
  LoopP (λ(d3:Int) (q3:(Int)->Prop) =>
   ((decide (d3<(lI lw)))=true ->
    (0<=d3)/\(d3<lw.length)/\(0<=d3)/\(d3<eX.length)/\(((gD lw d3 0) != (gD eX d3 0))=true ->
     (false=(decide (hk=aV)&&(lw==eX))/\(True))) /\
    (((gD lw d3 0) != (gD eX d3 0))=false ->
     (I64 (d3+(1:Int)))/\(∃ d4:Int,((True/\True/\(d3+(1:Int))=d4/\True)/\((hk=hk/\lw=lw/\(([]:List SV)=[]))/\(aV=aV/\eX=eX/\(([]:List SV)=[]))/\True))/\q3 d4))) /\
   ((decide (d3<(lI lw)))=false ->
    (true=(decide (hk=aV)&&(lw==eX))/\(True)))) d30)
def Nd:Cx:=⟨[],[],38,[],0,[],[],[],[],false,[],[],[],[]⟩
def T2 (hk:Int) (lw:List Int) (aV:Int) (eX:List Int):List (Nat×LoopAnn):=[(0,⟨Unit,Int,[2,3,5],λe x=>[.box 2 0,.box 3 0,.val (.i .i64) x],λe x=>[(2,.slot 2,.cells [.val (.i .i64) hk,.val (.list (.i .i64)) lw] (some 24)),(3,.slot 3,.cells [.val (.i .i64) aV,.val (.list (.i .i64)) eX] (some 24))]⟩)]
theorem To (d:(Int×List Int)×Int×List Int):gwp (Nd) (T2 d.1.1 d.1.2 d.2.1 d.2.2) c12 0 (WC [.tmp 4] (Ul d) (V_ d)) (Qr 38 (AL.can ND d))=Wj d.1.1 d.1.2 d.2.1 d.2.2:=by kernel_rfl
abbrev TG:Prop:=OkC Tryz.prog 12 V3
theorem Tk (h:∀ (hk:Int) (lw:List Int) (aV:Int) (eX:List Int),(lw.length<=1000000)->Wj hk lw aV eX):OkC Tryz.prog 12 V3 :=
 QD Q3p mixed (C:=Nd) (V:=λ(d:(Int×List Int)×Int×List Int)=>Wj d.1.1 d.1.2 d.2.1 d.2.2) ⟨.nil,XsOk.nil,ItsOk.nil,YlOk.nil,IysOk.nil,XfOk.nil⟩ (To) λd hp=>h d.1.1 d.1.2 d.2.1 d.2.2 hp
theorem Ra:TG:=Tk λhk lw aV eX hl=>by
 unfold Wj;(try delta lI gD sT I64 Q7 v7 v6);simp only[true_and,and_true,exists_eq_left',exists_const,zg,zn,bne_iff_ne,ne_eq,bne_eq_false_iff_eq,zt,Bool.or_eq_false_iff];refine⟨λh=>?_,λ⟨h0,h⟩=>?_⟩
 .symm;simp only[Bool.and_eq_false_iff,zn,zB]
  rcases h with h|h
  .exact .inl h
  .exact .inr (by rintro rfl;exact h rfl)
 have h:lw.length=eX.length:=by omega
 subst h0;refine LoopP.count lw.length (λk=>lw.take k=eX.take k) rfl λk aV hJ q hq=>?_;simp only[zp,Int.ofNat_lt,Zd];refine⟨λai=>?_,λbu=>?_⟩
 .rw[Qd ai,Qd (by omega)];refine⟨by omega,ai,by omega,by omega,λhx=>?_,λhx=>⟨by omega,hq ai ?_⟩⟩
  .symm;simp only[decide_true,Bool.true_and,zB];rintro rfl;exact hx rfl
  .rw[Qi ai,Qi (by omega),hJ,hx]
 .rw[zC (by omega),zC (by omega)] at hJ;simp[hJ]
def Yz:AL (Int×Int×Int):=(.cons (.k (.i .i64)) (.cons (.ptr (.one (.k (.i .i64)))) (.one (.ptr (.one (.k (.i .i64)))))))
def Nz (d:Int×Int×Int):Prop:=True
def Yd (d:Int×Int×Int):SV:=.val .bo (decide (d.1<d.2.1)||decide (d.2.2<d.1))
def Ye (d:Int×Int×Int):List OB:=[]
def W3:CSp:=W2 Yz Nz Yd Ye
def Xv (n:Int) (a:Int) (b:Int):Prop :=
 (((decide (n<a))||(decide (n > b)))=(decide (n<a)||decide (b<n))/\(True))
def YR:Cx:=⟨[],[],13,[],0,[],[],[],[],false,[],[],[],[]⟩
def Mz (n:Int) (a:Int) (b:Int):List (Nat×LoopAnn):=[]
theorem Mj (d:Int×Int×Int):gwp (YR) (Mz d.1 d.2.1 d.2.2) c98 0 (WC [.tmp 4] (Yd d) (Ye d)) (Qr 13 (AL.can Yz d))=Xv d.1 d.2.1 d.2.2:=by kernel_rfl
abbrev MH:Prop:=OkC Tryz.prog 98 W3
theorem MQ (h:∀ (n:Int) (a:Int) (b:Int),(True)->Xv n a b):OkC Tryz.prog 98 W3 :=
 QD Q3c mixed (C:=YR) (V:=λ(d:Int×Int×Int)=>Xv d.1 d.2.1 d.2.2) ⟨.nil,XsOk.nil,ItsOk.nil,YlOk.nil,IysOk.nil,XfOk.nil⟩ (Mj) λd hp=>h d.1 d.2.1 d.2.2 hp
theorem ME:MH:=MQ λn a b _=>by exact⟨rfl,trivial⟩
def KM:AL (Int×Int×List Int):=(.cons (.k (.i .i64)) (.cons (.k (.i .i64)) (.one (.k (.list (.i .i64))))))
def GG (d:Int×Int×List Int):Prop:=d.2.2.length<=1000000
def Kl (d:Int×Int×List Int):SV:=.val .bo (!(d.2.2.any λn=>decide (n<d.1)||decide (d.2.1<n)))
def Kt (d:Int×Int×List Int):List OB:=[]
def Ym:CSp:=W2 KM GG Kl Kt
def WJ (a:Int) (b:Int) (l:List Int):Prop :=
 (l.length<=1000000/\∀ x∈l,(λ(x1:Int)=>True) x)/\((!(l.any (λ(x1:Int)=>(decide (x1<a)||decide (b<x1)))))=(!(l.any λn=>decide (n<a)||decide (b<n)))/\(True))
def V5:Cx:=⟨[],[(70,Qz),(98,W3)],11,[],0,[],[],[],[],false,[],[],[],[]⟩
def Bf (a:Int) (b:Int) (l:List Int):List (Nat×LoopAnn):=[]
theorem BE (d:Int×Int×List Int):gwp (V5) (Bf d.1 d.2.1 d.2.2) c85 0 (WC [.tmp 6] (Kl d) (Kt d)) (Qr 11 (AL.can KM d))=WJ d.1 d.2.1 d.2.2:=by kernel_rfl
abbrev B8:Prop:=OkC Tryz.prog 85 Ym
theorem Bh (h:∀ (a:Int) (b:Int) (l:List Int),(l.length<=1000000)->WJ a b l):OkC Tryz.prog 85 Ym :=
 QD Q29 mixed (C:=V5) (V:=λ(d:Int×Int×List Int)=>WJ d.1 d.2.1 d.2.2) ⟨(.cons ZE (.cons ME .nil)),XsOk.nil,ItsOk.nil,YlOk.nil,IysOk.nil,XfOk.nil⟩ (BE) λd hp=>h d.1 d.2.1 d.2.2 hp
theorem Bx:B8:=Bh λa b l h=>by exact⟨⟨h,λ_ _=>trivial⟩,rfl,trivial⟩
def Uz:AL (Int×List Int):=(.one (.agg (.cons (.k (.i .i64)) (.one (.k (.list (.i .i64)))))))
def DA (d:Int×List Int):Prop:=d.2.length<=1000000
def Vi (d:Int×List Int):SV:=.val (.i .i64) (Qg d.1 d.2)
def KU (d:Int×List Int):List OB:=[]
def Wh:CSp:=W2 Uz DA Vi KU
def XJ (hd:Int) (rows:List Int):Prop :=
 ([hd].length<=1000000)/\((!(!([hd].any λn=>decide (n<(1:Int))||decide ((24:Int)<n))))=true ->
  ((2:Int)=(Qg hd rows)/\(True))) /\
 ((!(!([hd].any λn=>decide (n<(1:Int))||decide ((24:Int)<n))))=false ->
  ((decide ((lI rows) > (60:Int)))=true ->
   ((5:Int)=(Qg hd rows)/\(True))) /\
  ((decide ((lI rows) > (60:Int)))=false ->
   (((lI rows)==(0:Int))=true ->
    ((7:Int)=(Qg hd rows)/\(True))) /\
   (((lI rows)==(0:Int))=false ->
    (0<=hd)/\(I64 (LH .i64 (1:Int) hd))/\(I64 ((LH .i64 (1:Int) hd)-(1:Int)))/\(rows.length<=1000000)/\((!(!(rows.any λn=>decide (n<(0:Int))||decide (((LH .i64 (1:Int) hd)-(1:Int))<n))))=true ->
     ((2:Int)=(Qg hd rows)/\(True))) /\
    ((!(!(rows.any λn=>decide (n<(0:Int))||decide (((LH .i64 (1:Int) hd)-(1:Int))<n))))=false ->
     ((0:Int)=(Qg hd rows)/\(True))))))
def Uh:Cx:=⟨[(3,(.i .i64))],[(85,Ym)],28,[],0,[],[],[],[],false,[],[],[],[]⟩
def Hg (hd:Int) (rows:List Int):List (Nat×LoopAnn):=[]
theorem P2 (d:Int×List Int):gwp (Uh) (Hg d.1 d.2) c65 0 (WC [.tmp 2] (Vi d) (KU d)) (Qr 28 (AL.can Uz d))=XJ d.1 d.2:=by kernel_rfl
abbrev HR:Prop:=OkC Tryz.prog 65 Wh
theorem P8 (h:∀ (hd:Int) (rows:List Int),(rows.length<=1000000)->XJ hd rows):OkC Tryz.prog 65 Wh :=
 QD Q42 mixed (C:=Uh) (V:=λ(d:Int×List Int)=>XJ d.1 d.2) ⟨(.cons Bx .nil),XsOk.nil,ItsOk.nil,YlOk.nil,IysOk.nil,XfOk.nil⟩ (P2) λd hp=>h d.1 d.2 hp
theorem I5 {h:Int}(h1:0<=h) (h2:h<=62):LH .i64 1 h=2 ^ h.toNat:=by obtain⟨n,rfl⟩:=zY h1;have:Nat.min n 64=n:=xX (by omega);simp only[LH,zp,IntKind.bits,this,Int.one_mul]
theorem NT {h:Int}(h1:1<=h) (h2:h<=24):(2:Int)<=2 ^ h.toNat/\(2:Int) ^ h.toNat<=16777216:=by
 obtain⟨n,rfl⟩:=zY (show 0<=h by omega);have a1:2 ^ 1<=2 ^ n:=Nat.pow_le_pow_right (by omega) (by omega);have a2:2 ^ n<=2 ^ 24:=Nat.pow_le_pow_right (by omega) (by omega);simp only[zp];have e:((2:Int) ^ n)=((2 ^ n:Nat):Int):=by norm_cast
 rw[e];omega
theorem Ug:HR:=P8 λhd rows hl=>by
 unfold XJ;(try delta lI gD sT I64 Q7 v7 v6);simp only[and_true,zg,zn,zj,ne_eq,zB,gt_iff_lt,Bool.not_not];simp only[<-nI];refine⟨by simp,λh1=>by simp at h1;simp[Qg,h1],λh1=>⟨λh2=>?_,λh2=>⟨λh3=>?_,λh3=>?_⟩⟩⟩;all_goals simp only[List.any_cons,List.any_nil,Bool.or_false,zV] at h1
 .have:60<rows.length:=by omega
  simp[Qg,h1,this]
 .have h3:rows.length=0:=by omega
  simp[Qg,h1,h3]
 have fh:¬ 60<rows.length:=by omega
 have fk:¬ rows.length=0:=by omega
 have hi:1<=hd/\hd<=24:=by simpa [inI] using h1
 have hp:=NT hi.1 hi.2;have jW:Qg hd rows=if rows.any (λx=>!inI x 0 (2 ^ hd.toNat-1)) then 2 else 0:=by simp only[Qg,h1,fh,fk];simp
 rw[jW];simp only[Zd,I5 (show 0<=hd by omega) (by omega)];refine⟨by omega,by omega,by omega,by omega,λh=>by rw[z6 h],λh=>by rw[h];rfl⟩
def Dp:AL (Bool):=(.one (.k .bo))
def RA (d:Bool):Prop:=True
def GA (d:Bool):SV:=.val (.i .u8) (N6 d)
def Gh (d:Bool):List OB:=[]
def MG:CSp:=W2 Dp RA GA Gh
def Kc (x:Bool):Prop :=
 (x=true ->
  ((120:Int)=(N6 x)/\(True))) /\
 (x=false ->
  ((46:Int)=(N6 x)/\(True)))
def BR:Cx:=⟨[],[],4,[],0,[],[],[],[],false,[],[],[],[]⟩
def LY (x:Bool):List (Nat×LoopAnn):=[]
theorem L_ (d:Bool):gwp (BR) (LY d) c86 0 (WC [.tmp 2] (GA d) (Gh d)) (Qr 4 (AL.can Dp d))=Kc d:=by kernel_rfl
abbrev Ca:Prop:=OkC Tryz.prog 86 MG
theorem LN (h:∀ (x:Bool),(True)->Kc x):OkC Tryz.prog 86 MG :=
 QD Q34 mixed (C:=BR) (V:=λ(d:Bool)=>Kc d) ⟨.nil,XsOk.nil,ItsOk.nil,YlOk.nil,IysOk.nil,XfOk.nil⟩ (L_) λd hp=>h d hp
theorem Cc:Ca:=LN λx _=>by cases x<;>simp[Kc,N6]
def XN:AL ((Int×List Int)×Int×Int):=(.cons (.agg (.cons (.k (.i .i64)) (.one (.k (.list (.i .i64)))))) (.cons (.k (.i .i64)) (.one (.k (.i .i64)))))
def KB (d:(Int×List Int)×Int×Int):Prop:=0<=d.2.2/\d.2.2<d.1.2.length/\0<=d.2.1/\d.2.1<9223372036854775808/\∀ x∈d.1.2,0<=x/\x<=60
def Xg (d:(Int×List Int)×Int×Int):SV:=.val .bo (d.2.1.toNat.testBit (d.1.2.getD d.2.2.toNat 0).toNat)
def Xn (d:(Int×List Int)×Int×Int):List OB:=[]
def Jn:CSp:=W2 XN KB Xg Xn
def Zj (hk:Int) (lw:List Int) (row:Int) (w:Int):Prop :=
 (0<=w)/\(w<lw.length)/\(0<=(gD lw w 0))/\(((Bo .and .i64 (Q17 .i64 row (gD lw w 0)) (1:Int))==(1:Int))=(row.toNat.testBit (lw.getD w.toNat 0).toNat)/\(True))
def XZ:Cx:=⟨[],[],17,[],0,[],[],[],[],false,[],[],[],[]⟩
def KT (hk:Int) (lw:List Int) (row:Int) (w:Int):List (Nat×LoopAnn):=[]
theorem K_ (d:(Int×List Int)×Int×Int):gwp (XZ) (KT d.1.1 d.1.2 d.2.1 d.2.2) c87 0 (WC [.tmp 6] (Xg d) (Xn d)) (Qr 17 (AL.can XN d))=Zj d.1.1 d.1.2 d.2.1 d.2.2:=by kernel_rfl
abbrev KS:Prop:=OkC Tryz.prog 87 Jn
theorem KW (h:∀ (hk:Int) (lw:List Int) (row:Int) (w:Int),(0<=w/\w<lw.length/\0<=row/\row<9223372036854775808/\∀ x∈lw,0<=x/\x<=60)->Zj hk lw row w):OkC Tryz.prog 87 Jn :=
 QD Q43 mixed (C:=XZ) (V:=λ(d:(Int×List Int)×Int×Int)=>Zj d.1.1 d.1.2 d.2.1 d.2.2) ⟨.nil,XsOk.nil,ItsOk.nil,YlOk.nil,IysOk.nil,XfOk.nil⟩ (K_) λd hp=>h d.1.1 d.1.2 d.2.1 d.2.2 hp
theorem Vo:KS:=KW λhk lw row w h=>by
 obtain⟨h1,h2,h3,h4,h5⟩:=h;obtain⟨w,rfl⟩:=zY h1;obtain⟨r,rfl⟩:=zY h3;have hw:w<lw.length:=by omega
 have hx:=h5 _ (zq hw);obtain⟨k,hk⟩:=zY hx.1;unfold Zj;(try delta lI gD sT I64 Q7 v7 v6);simp only[and_true,zp,Int.ofNat_lt,Qd hw,hk];refine⟨by omega,by omega,by omega,?_⟩;exact Q1o (by omega) (by omega)
def Z_:Cx:=⟨[],[],20,[],0,[(102,IV)],[],[],[],false,[],[],[],[]⟩
def QE:XSp:=Q13 Z_ (λ_=>[]) c96 [] 20
theorem QU:XOk Tryz.prog 96 QE:=MD Q4e mixed (C:=Z_) ⟨.nil,(XsOk.cons (Tc Tp) XsOk.nil),ItsOk.nil,YlOk.nil,IysOk.nil,XfOk.nil⟩ _
def ZX:Cx:=⟨[(5,(.i .u8))],[],17,[],0,[(96,QE)],[],[],[],false,[],[],[],[]⟩
def Z5:XSp:=Q13 ZX (λ_=>[]) c82 [.tmp 4] 17
theorem ZU:XOk Tryz.prog 82 Z5:=MD Q3u mixed (C:=ZX) ⟨.nil,(XsOk.cons QU XsOk.nil),ItsOk.nil,YlOk.nil,IysOk.nil,XfOk.nil⟩ _
def JD:Cx:=⟨[],[],14,[],0,[],[],[],[],false,[],[],[],[]⟩
def Zx:XSp:=Q13 JD (λ_=>[]) c83 [.tmp 2] 14
theorem Jk:XOk Tryz.prog 83 Zx:=MD Q3e mixed (C:=JD) ⟨.nil,XsOk.nil,ItsOk.nil,YlOk.nil,IysOk.nil,XfOk.nil⟩ _
def Wy:AL ((Int×List Int)×Int):=(.cons (.agg (.cons (.k (.i .i64)) (.one (.k (.list (.i .i64)))))) (.one (.k (.i .i64))))
def VV (d:(Int×List Int)×Int):Prop:=d.1.2.length<=110/\0<=d.2/\d.2<9223372036854775808/\∀ x∈d.1.2,0<=x/\x<=60
def W7 (d:(Int×List Int)×Int):SV:=.val .st (Jj d.1.2 d.2)
def W4 (d:(Int×List Int)×Int):List OB:=[]
def X5:CSp:=W2 Wy VV W7 W4
def ZL (hk:Int) (lw:List Int) (row:Int):Prop :=
 ∃ (e4:Unit) (d40:Bool×(List Int)×Int),((row=row/\True/\True/\(lI lw)=(lI lw)/\(0:Int)=d40.2.2/\True)/\((hk=hk/\lw=lw/\(([]:List SV)=[]))/\(d40.1=false/\True/\(([]:List SV)=[]))/\(d40.2.1=[]/\d40.2.1.isEmpty=true)/\True)) /\
 LoopP (λ(d4:Bool×(List Int)×Int) (q4:(Bool×(List Int)×Int)->Prop) =>
  ((decide (d4.2.2<(lI lw)))=true ->
   (0<=d4.2.2/\d4.2.2<lw.length/\0<=row/\row<9223372036854775808/\∀ x∈lw,0<=x/\x<=60)/\(True)/\∀ w5:List Value,∀ w6:List Value,((!d4.1)=true ->
    w6=w6/\((d4.2.1.length+(List.length [(N6 (row.toNat.testBit (lw.getD d4.2.2.toNat 0).toNat))]))*1<=70368744177664)/\w5=w5/\(I64 (d4.2.2+(1:Int)))/\(∃ d7:Bool×(List Int)×Int,((row=row/\True/\True/\(lI lw)=(lI lw)/\(d4.2.2+(1:Int))=d7.2.2/\True)/\((hk=hk/\lw=lw/\(([]:List SV)=[]))/\(d7.1=true/\True/\(([]:List SV)=[]))/\((d4.2.1++[(N6 (row.toNat.testBit (lw.getD d4.2.2.toNat 0).toNat))])=d7.2.1/\false=d7.2.1.isEmpty)/\True))/\q4 d7)) /\
   ((!d4.1)=false ->
    (d4.1=true)/\((!true)=true ->
     False) /\
    ((!true)=false ->
     w6=w6/\((d4.2.1.length+(List.length [(N6 (row.toNat.testBit (lw.getD d4.2.2.toNat 0).toNat))]))*1<=70368744177664)/\w5=w5/\(I64 (d4.2.2+(1:Int)))/\(∃ d8:Bool×(List Int)×Int,((row=row/\True/\True/\(lI lw)=(lI lw)/\(d4.2.2+(1:Int))=d8.2.2/\True)/\((hk=hk/\lw=lw/\(([]:List SV)=[]))/\(d4.1=d8.1/\True/\(([]:List SV)=[]))/\((d4.2.1++[(N6 (row.toNat.testBit (lw.getD d4.2.2.toNat 0).toNat))])=d8.2.1/\false=d8.2.1.isEmpty)/\True))/\q4 d8)))) /\
  ((decide (d4.2.2<(lI lw)))=false ->
   ∀ w9:List Value,(d4.2.1.isEmpty=false->d4.2.1≠[])/\((lI d4.2.1)=d4.2.1.length)/\(d4.2.1.length<=4611686018427387904)/\w9=w9/\((U8 d4.2.1)=(Jj lw row)/\(True)))) d40
def WU:Cx:=⟨[(5,(.i .u8))],[(87,Jn),(86,MG)],22,[],0,[(82,Z5),(96,QE),(102,IV),(83,Zx)],[],[],[],false,[],[],[],[]⟩
def UY (hk:Int) (lw:List Int) (row:Int):List (Nat×LoopAnn):=[(0,⟨Unit,Bool×(List Int)×Int,[1,2,5,10,11],λe x=>[.val (.i .i64) row,.box 2 0,.box 5 0,.val (.i .i64) ((lw.length:Nat):Int),.val (.i .i64) x.2.2],λe x=>[(2,.slot 2,.cells [.val (.i .i64) hk,.val (.list (.i .i64)) lw] (some 117)),(5,.slot 5,.cells [.dd 5 (.obx x.1),.lst 2000014] (some 136)),(2000014,.cell 5 1,.lst 5 (.i .u8) x.2.1 (List.isEmpty x.2.1))]⟩)]
theorem UP (d:(Int×List Int)×Int):gwp (WU) (UY d.1.1 d.1.2 d.2) c66 0 (WC [.tmp 4] (W7 d) (W4 d)) (Qr 22 (AL.can Wy d))=ZL d.1.1 d.1.2 d.2:=by kernel_rfl
abbrev UE:Prop:=OkC Tryz.prog 66 X5
theorem UT (h:∀ (hk:Int) (lw:List Int) (row:Int),(lw.length<=110/\0<=row/\row<9223372036854775808/\∀ x∈lw,0<=x/\x<=60)->ZL hk lw row):OkC Tryz.prog 66 X5 :=
 QD Q3b mixed (C:=WU) (V:=λ(d:(Int×List Int)×Int)=>ZL d.1.1 d.1.2 d.2) ⟨(.cons Vo (.cons Cc .nil)),(XsOk.cons ZU (XsOk.cons QU (XsOk.cons (Tc Tp) (XsOk.cons Jk XsOk.nil)))),ItsOk.nil,YlOk.nil,IysOk.nil,XfOk.nil⟩ (UP) λd hp=>h d.1.1 d.1.2 d.2 hp
theorem AQ (lw:List Int) (row:Int):U8 (lw.map λk=>N6 (row.toNat.testBit k.toNat))=Jj lw row:=by simp only[U8,Jj,xZ];refine x4 λk _=>?_;simp only[Function.comp,N6];split<;>rfl
theorem UI:UE:=UT λhk lw row h=>by
 obtain⟨h1,h2,h3,h4⟩:=h;unfold ZL;(try delta lI gD sT I64 Q7 v7 v6);simp only[true_and,and_true,exists_const,zg,zn,ne_eq,Bool.not_eq_true',zV,Zd];refine⟨(false,[],0),⟨rfl,rfl,rfl,rfl⟩,?_⟩;refine⟨λd=>∃ i:Nat,i<=lw.length/\d.2.2=i/\d.2.1=(lw.take i).map λk=>N6 (row.toNat.testBit k.toNat),λd=>lw.length-d.2.2.toNat,⟨0,Nat.zero_le _,rfl,by simp⟩,?_⟩;rintro⟨c,xs,_⟩ ⟨i,hi,rfl,aZ⟩;dsimp only at aZ |-;have eO:xs.length=i:=by rw[aZ];simp;omega
 refine⟨λai=>?_,λbu=>?_⟩
 .have ai:i<lw.length:=by omega
  have hn:xs++[N6 (row.toNat.testBit lw[i].toNat)]=(lw.take (i+1)).map λk=>N6 (row.toNat.testBit k.toNat):=by rw[aZ,Qi ai,xC];rfl
  simp only[zp,Qd ai,zw];refine⟨⟨by omega,by omega,h2,h3,h4⟩,λ_ w6=>⟨λhc=>?_,λhc=>?_⟩⟩
  .exact⟨by omega,by omega,(true,xs++[N6 (row.toNat.testBit lw[i].toNat)],(i:Int)+1),⟨rfl,rfl,rfl,by simp⟩,⟨i+1,by omega,by simp,hn⟩,by dsimp only;omega⟩
  .refine⟨by simpa using hc,?_⟩;refine⟨λh=>by simp at h,λ_=>?_⟩;exact⟨by omega,by omega,(c,xs++[N6 (row.toNat.testBit lw[i].toNat)],(i:Int)+1),⟨rfl,rfl,rfl,by simp⟩,⟨i+1,by omega,by simp,hn⟩,by dsimp only;omega⟩
 .have:i=lw.length:=by omega
  subst this;rw[List.take_length] at aZ;refineλ_=>⟨?_,by omega,?_⟩
  .intro aK h0;rw[h0] at aK;simp at aK
  .rw[aZ];exact AQ lw row
def Gv:AL ((Int×List Int)×Int×List Int):=(.cons (.agg (.cons (.k (.i .i64)) (.one (.k (.list (.i .i64)))))) (.one (.agg (.cons (.k (.i .i64)) (.one (.k (.list (.i .i64))))))))
def TA (d:(Int×List Int)×Int×List Int):Prop:=d.1.2.length<=110/\d.2.2.length<=110
def NU (d:(Int×List Int)×Int×List Int):SV:=.tup [.lst 0,.val (.i .i64) (Qb d.1.1 d.1.2 d.2.1 d.2.2)]
def Nn (d:(Int×List Int)×Int×List Int):List OB:=[.lst 9 .st (QF d.1.1 d.1.2 d.2.1 d.2.2) ((QF d.1.1 d.1.2 d.2.1 d.2.2).isEmpty)]
def UM:CSp:=W2 Gv TA NU Nn
def Y5 (hk:Int) (lw:List Int) (hd:Int) (rows:List Int):Prop :=
 (lw.length<=1000000)/\(((QL hk lw) != (0:Int))=true ->
  ((True/\(QL hk lw)=Qb hk lw hd rows/\(([]:List SV)=[]))/\(((QF hk lw hd rows)=[]/\(QF hk lw hd rows).isEmpty=true)/\True))) /\
 (((QL hk lw) != (0:Int))=false ->
  (rows.length<=1000000)/\(((Qg hd rows) != (0:Int))=true ->
   ((True/\(Qg hd rows)=Qb hk lw hd rows/\(([]:List SV)=[]))/\(((QF hk lw hd rows)=[]/\(QF hk lw hd rows).isEmpty=true)/\True))) /\
  (((Qg hd rows) != (0:Int))=false ->
   ((hd != hk)=true ->
    ((True/\(4:Int)=Qb hk lw hd rows/\(([]:List SV)=[]))/\(((QF hk lw hd rows)=[]/\(QF hk lw hd rows).isEmpty=true)/\True))) /\
   ((hd != hk)=false ->
    ∃ (e4:Unit) (d40:(List (List UInt8))×Int),((True/\True/\rows=rows/\(lI rows)=(lI rows)/\(0:Int)=d40.2/\True)/\((hk=hk/\lw=lw/\(([]:List SV)=[]))/\(d40.1=[]/\d40.1.isEmpty=true)/\True)) /\
    LoopP (λ(d4:(List (List UInt8))×Int) (q4:((List (List UInt8))×Int)->Prop) =>
     ((decide (d4.2<(lI rows)))=true ->
      (0<=d4.2)/\(d4.2<rows.length)/\(lw.length<=110/\0<=(gD rows d4.2 0)/\(gD rows d4.2 0)<9223372036854775808/\∀ x∈lw,0<=x/\x<=60)/\((d4.1.length+(List.length [(Jj lw (gD rows d4.2 0))]))*16<=70368744177664)/\(I64 (d4.2+(1:Int)))/\(∃ d5:(List (List UInt8))×Int,((True/\True/\rows=rows/\(lI rows)=(lI rows)/\(d4.2+(1:Int))=d5.2/\True)/\((hk=hk/\lw=lw/\(([]:List SV)=[]))/\((d4.1++[(Jj lw (gD rows d4.2 0))])=d5.1/\false=d5.1.isEmpty)/\True))/\q4 d5)) /\
     ((decide (d4.2<(lI rows)))=false ->
      ((True/\(0:Int)=Qb hk lw hd rows/\(([]:List SV)=[]))/\((d4.1=(QF hk lw hd rows)/\d4.1.isEmpty=(QF hk lw hd rows).isEmpty)/\True)))) d40)))
def G2:Cx:=⟨[(9,.st)],[(64,YW),(65,Wh),(66,X5)],43,[],0,[],[],[],[],false,[],[],[],[]⟩
def S0 (hk:Int) (lw:List Int) (hd:Int) (rows:List Int):List (Nat×LoopAnn):=[(1,⟨Unit,(List (List UInt8))×Int,[2,4,28,29,30],λe x=>[.box 2 0,.lst 40,.val (.list (.i .i64)) rows,.val (.i .i64) ((rows.length:Nat):Int),.val (.i .i64) x.2],λe x=>[(2,.slot 2,.cells [.val (.i .i64) hk,.val (.list (.i .i64)) lw] (some 24)),(40,.slot 4,.lst 9 .st x.1 (List.isEmpty x.1))]⟩)]
theorem L6 (d:(Int×List Int)×Int×List Int):gwp (G2) (S0 d.1.1 d.1.2 d.2.1 d.2.2) c39 0 (WC [.tmp 4,.tmp 5] (NU d) (Nn d)) (Qr 43 (AL.can Gv d))=Y5 d.1.1 d.1.2 d.2.1 d.2.2:=by kernel_rfl
abbrev SH:Prop:=OkC Tryz.prog 39 UM
theorem L8 (h:∀ (hk:Int) (lw:List Int) (hd:Int) (rows:List Int),(lw.length<=110/\rows.length<=110)->Y5 hk lw hd rows):OkC Tryz.prog 39 UM :=
 QD Q41 mixed (C:=G2) (V:=λ(d:(Int×List Int)×Int×List Int)=>Y5 d.1.1 d.1.2 d.2.1 d.2.2) ⟨(.cons MW (.cons Ug (.cons UI .nil))),XsOk.nil,ItsOk.nil,YlOk.nil,IysOk.nil,XfOk.nil⟩ (L6) λd hp=>h d.1.1 d.1.2 d.2.1 d.2.2 hp
theorem Kj {hd:Int}{rows:List Int}(h:Qg hd rows=0):1<=hd/\hd<=24/\rows.length<=60/\rows.length≠0/\∀ x∈rows,0<=x/\x<2 ^ hd.toNat:=by
 unfold Qg at h;split at h
 .cases h
 .rename_i h1;split at h
  .cases h
  .rename_i h2;split at h
   .cases h
   .rename_i h3;split at h
    .cases h
    .rename_i h4;have h1:1<=hd/\hd<=24:=by simpa [inI] using h1
     refine⟨h1.1,h1.2,by omega,h3,λx hx=>?_⟩;have h5:∀ x∈rows,inI x 0 (2 ^ hd.toNat-1)=true:=by simpa using h4
     have:=h5 x hx;simp only[inI,z1,zg] at this;omega
theorem RJ:SH:=L8 λhk lw hd rows h=>by
 obtain⟨h1,h2⟩:=h;unfold Y5;(try delta lI gD sT I64 Q7 v7 v6);simp only[true_and,and_true,exists_const,zg,zn,bne_iff_ne,ne_eq,bne_eq_false_iff_eq,Zd];refine⟨by omega,λhe=>?_,λhe=>⟨by omega,λhp=>?_,λhp=>⟨λhh=>?_,λhh=>?_⟩⟩⟩
 .have e:Qb hk lw hd rows=QL hk lw:=by simp[Qb,he]
  have e2:QF hk lw hd rows=[]:=by simp[QF,e,he]
  rw[e,e2];exact⟨rfl,rfl,rfl⟩
 .have e:Qb hk lw hd rows=Qg hd rows:=by simp[Qb,he,hp]
  have e2:QF hk lw hd rows=[]:=by simp[QF,e,hp]
  rw[e,e2];exact⟨rfl,rfl,rfl⟩
 .have e:Qb hk lw hd rows=4:=by simp[Qb,he,hp,hh]
  have e2:QF hk lw hd rows=[]:=by simp[QF,e]
  rw[e,e2];exact⟨rfl,rfl,rfl⟩
 have e:Qb hk lw hd rows=0:=by unfold Qb;rw[z7 (by omega),z7 (by omega),z7 (by omega)]
 have e2:QF hk lw hd rows=rows.map (Jj lw):=by simp[QF,e]
 obtain⟨t1,t2,t3,t4,t5⟩:=Kb he;obtain⟨p1,p2,p3,p4,p5⟩:=Kj hp;have ju:=NT p1 p2;rw[e,e2];refine⟨([],0),⟨rfl,rfl,rfl⟩,?_⟩;refine LoopP.count2 rows.length (λk xs=>xs=(rows.take k).map (Jj lw)) (by simp) λk xs hk hJ q hq=>?_;have eO:xs.length=k:=by rw[hJ];simp;omega
 dsimp only;refine⟨λai=>?_,λbu=>?_⟩
 .have ai:k<rows.length:=by omega
  have hr:=p5 _ (zq ai);simp only[zp,Qd ai,zw];refine⟨by omega,by omega,⟨h1,hr.1,by omega,λx hx=>by have:=t5 x hx;omega⟩,by omega,by omega,(xs++[Jj lw rows[k]],(k:Int)+1),⟨rfl,rfl,by simp⟩,hq _ ai ?_⟩;rw[Qi ai,xC,<-hJ];rfl
 .have:k=rows.length:=by omega
  subst this;rw[List.take_length] at hJ;rw[hJ];exact⟨rfl,rfl,rfl⟩
def Nt:AL (Int×List Int):=(.one (.agg (.cons (.k (.i .i64)) (.one (.k (.list (.i .i64)))))))
def Pa (d:Int×List Int):Prop:=d.2.length<=110
def U6 (d:Int×List Int):SV:=.agg [.val (.i .i64) d.1,.lst 0]
def Uo (d:Int×List Int):List OB:=[.lst 3 (.i .i64) d.2 false]
def Va:CSp:=W2 Nt Pa U6 Uo
def Wk (hd:Int) (rows:List Int):Prop :=
 (rows.length<=110)/\(false=true->rows=[])/\((hd=hd/\True/\(([]:List SV)=[]))/\((rows=rows/\false=false)/\True))
def Nc:Cx:=⟨[],[(30,Y2)],9,[],0,[],[],[],[],false,[],[],[],[]⟩
def T5 (hd:Int) (rows:List Int):List (Nat×LoopAnn):=[]
theorem Rr (d:Int×List Int):gwp (Nc) (T5 d.1 d.2) c9 0 (WC [.cell 2 true 2] (U6 d) (Uo d)) (Qr 9 (AL.can Nt d))=Wk d.1 d.2:=by kernel_rfl
abbrev Rh:Prop:=OkC Tryz.prog 9 Va
theorem TI (h:∀ (hd:Int) (rows:List Int),(rows.length<=110)->Wk hd rows):OkC Tryz.prog 9 Va :=
 QD Q7h mixed (C:=Nc) (V:=λ(d:Int×List Int)=>Wk d.1 d.2) ⟨(.cons NZ .nil),XsOk.nil,ItsOk.nil,YlOk.nil,IysOk.nil,XfOk.nil⟩ (Rr) λd hp=>h d.1 d.2 hp
theorem Tx:Rh:=TI λhd rows h=>by simp[Wk,h]
def Kr:AL ((Int×List Int)×Int×List Int):=(.cons (.agg (.cons (.k (.i .i64)) (.one (.k (.list (.i .i64)))))) (.one (.agg (.cons (.k (.i .i64)) (.one (.k (.list (.i .i64))))))))
def Mn (d:(Int×List Int)×Int×List Int):Prop:=d.1.2.length<=1000000/\d.2.2.length<=1000000
def YG (d:(Int×List Int)×Int×List Int):SV:=.val (.i .i64) (Qb d.1.1 d.1.2 d.2.1 d.2.2)
def YC (d:(Int×List Int)×Int×List Int):List OB:=[]
def WH:CSp:=W2 Kr Mn YG YC
def JJ (hk:Int) (lw:List Int) (hd:Int) (rows:List Int):Prop :=
 (lw.length<=1000000)/\(((QL hk lw) != (0:Int))=true ->
  ((QL hk lw)=(Qb hk lw hd rows)/\(True))) /\
 (((QL hk lw) != (0:Int))=false ->
  (rows.length<=1000000)/\(((Qg hd rows) != (0:Int))=true ->
   ((Qg hd rows)=(Qb hk lw hd rows)/\(True))) /\
  (((Qg hd rows) != (0:Int))=false ->
   ((hk != hd)=true ->
    ((4:Int)=(Qb hk lw hd rows)/\(True))) /\
   ((hk != hd)=false ->
    ((0:Int)=(Qb hk lw hd rows)/\(True)))))
def Kn:Cx:=⟨[],[(64,YW),(65,Wh)],22,[],0,[],[],[],[],false,[],[],[],[]⟩
def GX (hk:Int) (lw:List Int) (hd:Int) (rows:List Int):List (Nat×LoopAnn):=[]
theorem GI (d:(Int×List Int)×Int×List Int):gwp (Kn) (GX d.1.1 d.1.2 d.2.1 d.2.2) c54 0 (WC [.tmp 4] (YG d) (YC d)) (Qr 22 (AL.can Kr d))=JJ d.1.1 d.1.2 d.2.1 d.2.2:=by kernel_rfl
abbrev GH:Prop:=OkC Tryz.prog 54 WH
theorem G_ (h:∀ (hk:Int) (lw:List Int) (hd:Int) (rows:List Int),(lw.length<=1000000/\rows.length<=1000000)->JJ hk lw hd rows):OkC Tryz.prog 54 WH :=
 QD Q2o mixed (C:=Kn) (V:=λ(d:(Int×List Int)×Int×List Int)=>JJ d.1.1 d.1.2 d.2.1 d.2.2) ⟨(.cons MW (.cons Ug .nil)),XsOk.nil,ItsOk.nil,YlOk.nil,IysOk.nil,XfOk.nil⟩ (GI) λd hp=>h d.1.1 d.1.2 d.2.1 d.2.2 hp
theorem GS:GH:=G_ λhk lw hd rows h=>by
 unfold JJ;(try delta lI gD sT I64 Q7 v7 v6);simp only[and_true,bne_iff_ne,ne_eq,bne_eq_false_iff_eq];refine⟨h.1,λh1=>by simp[Qb,h1],λh1=>⟨h.2,λh2=>by simp[Qb,h1,h2],λh2=>⟨λh3=>?_,λh3=>?_⟩⟩⟩
 .have:¬ hd=hk:=λe=>h3 e.symm;simp[Qb,h1,h2,this]
 .subst h3;simp[Qb,h1,h2]
end Go.Proofs.Tryz
namespace Go.Proofs
open Go.Shelf
def Tryz.q2b:Go.Shelf.Ren:=⟨fun|160=>60|232=>75|231=>74|227=>76|234=>78|233=>77|236=>80|235=>79|228=>92|271=>95|151=>94|197=>93|120=>101|152=>100|260=>99|137=>103|119=>104|224=>105|225=>106|217=>107|266=>108|n=>n,fun|9=>9|4=>4|3=>3|5=>5|117=>129|116=>128|0=>0|124=>132|21=>21|105=>151|46=>110|119=>158|139=>161|138=>160|n=>n,fun|3=>0|4=>1|n=>n⟩
theorem Tryz.lays160:Go.Proofs.Lays.n160 Tryz.prog Tryz.q2b:={
 mixed:=by kernel_rfl
 f119:=Tryz.func104.trans (congrArg some (by kernel_rfl))
 f120:=Tryz.func101.trans (congrArg some (by kernel_rfl))
 f137:=Tryz.func103.trans (congrArg some (by kernel_rfl))
 f151:=Tryz.func94.trans (congrArg some (by kernel_rfl))
 f152:=Tryz.func100.trans (congrArg some (by kernel_rfl))
 f160:=Tryz.func60.trans (congrArg some (by kernel_rfl))
 f197:=Tryz.func93.trans (congrArg some (by kernel_rfl))
 f217:=Tryz.func107.trans (congrArg some (by kernel_rfl))
 f224:=Tryz.func105.trans (congrArg some (by kernel_rfl))
 f225:=Tryz.func106.trans (congrArg some (by kernel_rfl))
 f227:=Tryz.func76.trans (congrArg some (by kernel_rfl))
 f228:=Tryz.func92.trans (congrArg some (by kernel_rfl))
 f231:=Tryz.func74.trans (congrArg some (by kernel_rfl))
 f232:=Tryz.func75.trans (congrArg some (by kernel_rfl))
 f233:=Tryz.func77.trans (congrArg some (by kernel_rfl))
 f234:=Tryz.func78.trans (congrArg some (by kernel_rfl))
 f235:=Tryz.func79.trans (congrArg some (by kernel_rfl))
 f236:=Tryz.func80.trans (congrArg some (by kernel_rfl))
 f260:=Tryz.func99.trans (congrArg some (by kernel_rfl))
 f266:=Tryz.func108.trans (congrArg some (by kernel_rfl))
 f271:=Tryz.func95.trans (congrArg some (by kernel_rfl))
 t0:=Tryz.underlying0
 a0:=Tryz.isAgg0
 z0:=Tryz.sizeOf0
 v0:=Tryz.zeroValue0
 t3:=Tryz.underlying3
 a3:=Tryz.isAgg3
 z3:=Tryz.sizeOf3
 v3:=Tryz.zeroValue3
 t4:=Tryz.underlying4
 a4:=Tryz.isAgg4
 z4:=Tryz.sizeOf4
 v4:=Tryz.zeroValue4
 t5:=Tryz.underlying5
 a5:=Tryz.isAgg5
 z5:=Tryz.sizeOf5
 v5:=Tryz.zeroValue5
 t9:=Tryz.underlying9
 a9:=Tryz.isAgg9
 z9:=Tryz.sizeOf9
 v9:=Tryz.zeroValue9
 t21:=Tryz.underlying21
 a21:=Tryz.isAgg21
 z21:=Tryz.sizeOf21
 v21:=Tryz.zeroValue21
 t46:=Tryz.underlying110
 a46:=Tryz.isAgg110
 z46:=Tryz.sizeOf110
 v46:=Tryz.zeroValue110
 t105:=Tryz.underlying151
 a105:=Tryz.isAgg151
 z105:=Tryz.sizeOf151
 v105:=Tryz.zeroValue151
 t116:=Tryz.underlying128
 a116:=Tryz.isAgg128
 z116:=Tryz.sizeOf128
 t117:=Tryz.underlying129
 a117:=Tryz.isAgg129
 z117:=Tryz.sizeOf129
 v117:=Tryz.zeroValue129
 t119:=Tryz.underlying158
 a119:=Tryz.isAgg158
 z119:=Tryz.sizeOf158
 t124:=Tryz.underlying132
 a124:=Tryz.isAgg132
 z124:=Tryz.sizeOf132
 v124:=Tryz.zeroValue132
 t138:=Tryz.underlying160
 a138:=Tryz.isAgg160
 z138:=Tryz.sizeOf160
 v138:=Tryz.zeroValue160
 t139:=Tryz.underlying161
 a139:=Tryz.isAgg161
 z139:=Tryz.sizeOf161
 v139:=Tryz.zeroValue161
 g3:=by kernel_rfl
 g4:=by kernel_rfl}
end Go.Proofs
namespace Go.V
open Go
theorem Ox {P:Program}{U:Heap}:Ret P U (.val .bo true) [] (.bool true) U :=
 ⟨⟨.refl _,Dead.refl _⟩,λ_=>rfl,J3,λj b hj=>by simp at hj,λj j' i hj=>by simp at hj,by simp[SR,KC]⟩
theorem IJ {P:Program}{f:Nat}(h:∀ (U:Heap) (K:Value->Heap->Prop),K (.bool true) U->VCalled P f [] U K):OkC P f (W2 (.nil:AL Unit) (λ_=>True) (λ_=>.val .bo true) (λ_=>[])):=by
 intro ap dW U args vs c v bs av hs hv b_ hc;unfold W2 at hs;split at hs
 .rename_i d hd;obtain⟨rfl,rfl,rfl⟩:=(by simpa using hs:True=c/\SV.val .bo true=v/\[]=bs);have:vs=[]:=by
   cases args with
   |nil=>simpa [SRs] using av
   |cons a l=>simp[AL.dec] at hd
  subst this;refine⟨h U _ Ox,λ_ _=>h U _ ⟨rfl,?_⟩⟩;unfold DH;cases U;simp only[List.length_nil,zU,List.getElem?_nil,Option.bind_none,Heap.mk.injEq,and_true];funext i;split
  .rfl
  .rename_i wf hi;exact wf i (by simpa using hi)
 .cases hs
end Go.V
namespace Go.V
open Go Go.RowKit
theorem VCalled.q2f {P:Program}{f:FuncId}{args:List Value}{v:Value}{U:Heap}{K:Value->Heap->Prop}(he:ZT P f) (ha:args.all QA=true) (hv:QA v=true)
  (h:∀ w,Calls P f args.toArray w λe w'=>e=.returned v/\Below w.heap.size w w') (hK:K v U):VCalled P f args U K:=by
 intro ρ w au hH hL;have hc:au=args.toArray:=by
  apply Array.ext';apply zN;intro i;cases hi:au.toList[i]? with
  |none =>have:=List.getElem?_eq_none_iff.1 hi;rw[<-hL.1] at this;rw[zI (by simpa using this)]
  |some c =>have ai:=(zu.1 hi).1;rw[<-hL.1] at ai;have h1:=hL.2 i args[i] c (z8 ai) hi;rw[XK (zf.1 ha _ (zq ai)) h1];simp[z8 ai]
 subst hc;refine .inl ⟨λw=>Y0 he _ w,(h w).mono λe w' ⟨he,hb⟩=>⟨v,he,v,ρ,U,hK,JE hv,hH.world hb.size (λi p hp=>hb.block _ (hH.lt i p hp)) (λg cs hg=>hb.block _ (hH.tab.lt hg)),?_⟩⟩;exact⟨hb.os,hb.tape,hb.output,hb.size,λB hB _=>hb.block B hB,λ_ _ h=>h,zd _,λ_ _ _ h=>h⟩
theorem Ii {P:Program}{U:Heap}{v:SV}{u:Value}(h:SR P hNil J3 Zn v u):Ret P U v [] u U :=
 ⟨⟨.refl _,Dead.refl _⟩,λ_=>rfl,J3,λj b hj=>by simp at hj,λj j' i hj=>by simp at hj,h⟩
theorem On (U:Heap):DH U []=U:=by
 unfold DH;cases U;simp only[List.length_nil,zU,List.getElem?_nil,Option.bind_none,Heap.mk.injEq,and_true];funext i;split
 .rfl
 .rename_i wf hi;exact(wf i (by simpa using hi)).symm
theorem IL {P:Program}{f:Nat}{pre:List UInt8×List UInt8->Prop}{res:List UInt8×List UInt8->List UInt8}(he:ZT P f)
  (h:∀ a b,pre (a,b)->∀ w,Calls P f #[.string ⟨a.toArray⟩,.string ⟨b.toArray⟩] w λe w'=>e=.returned (.string ⟨(res (a,b)).toArray⟩)/\Below w.heap.size w w') :
  OkC P f (W2 (.cons (.k .st) (.one (.k .st))) pre (λd=>.val .st (res d)) (λ_=>[])):=by
 intro ap dW U args vs c v bs av hs hv b_ hc;unfold W2 at hs;split at hs
 .rename_i d hd;obtain⟨rfl,rfl,rfl⟩:=(by simpa using hs:pre d=c/\SV.val .st (res d)=v/\[]=bs)
  match args,av,hd with
  |[],_,hd=>simp[AL.dec] at hd
  |[a],_,hd=>simp[AL.dec] at hd
  |a::b::x::l,_,hd=>simp[AL.dec] at hd
  |[a,b],av,hd =>
   simp only[AL.dec] at hd;split at hd
   .rename_i x y hx hy;obtain rfl:=osj hd;obtain⟨u1,ri,rfl,s1,av⟩:=av;obtain⟨u2,jA,rfl,s2,av⟩:=av;have av:jA=[]:=av;subst av;have k1:KC U .st x [u1]:=Qm (k:=.st) hx ⟨u1,[],rfl,s1,rfl⟩;have k2:KC U .st y [u2]:=Qm (k:=.st) hy ⟨u2,[],rfl,s2,rfl⟩;have e1:u1=.string ⟨x.toArray⟩:=by simpa [KC] using k1
    have e2:u2=.string ⟨y.toArray⟩:=by simpa [KC] using k2
    subst e1;subst e2;have aB:∀ K:Value->Heap->Prop,K (.string ⟨(res (x,y)).toArray⟩) U->VCalled P f [.string ⟨x.toArray⟩,.string ⟨y.toArray⟩] U K:=λK hK =>
     VCalled.q2f he rfl rfl (h x y hc) hK
    refine⟨aB _ (Ii (by simp[SR,KC])),λ_ _=>aB _ ⟨?_,(On U).symm⟩⟩;simp[Yl,Ry]
   .cases hd
 .cases hs
end Go.V
namespace Go.Proofs.Tryz
open Go Go.V Go.Proofs
theorem OP {KK:Kind}{V:Type}(hk:∀ a b:KK.T,gq.keq KK a b=true<->a=b) (k:KK.T) (v:V) (e:KK.T) (d:V):∀ m:List (KK.T×V),(e=k->gq.aget KK (Xb KK m k v) e d=v/\gq.ahas KK (Xb KK m k v) e=true)/\(e≠k->gq.aget KK (Xb KK m k v) e d=gq.aget KK m e d/\gq.ahas KK (Xb KK m k v) e=gq.ahas KK m e)
 |[]=>by
  refine⟨λh=>?_,λh=>?_⟩
  .subst h;have:=(hk e e).2 rfl;exact⟨by show (if gq.keq KK e e=true then v else d)=v;rw[z6 this],by show (gq.keq KK e e||false)=true;rw[this];rfl⟩
  .have:gq.keq KK e k=false:=by
    cases h2:gq.keq KK e k with
    |false=>rfl
    |true=>exact(h ((hk e k).1 h2)).elim
   exact⟨by show (if gq.keq KK e k=true then v else d)=d;rw[this,z7 (by decide)],by show (gq.keq KK e k||false)=false;rw[this];rfl⟩
 |(a,b)::m=>by
  obtain⟨i1,i2⟩:=OP hk k v e d m;have eP:Xb KK ((a,b)::m) k v=if gq.keq KK k a=true then (k,v)::m else (a,b)::Xb KK m k v:=rfl
  have eG:∀ (a:KK.T) (b:V) m,gq.aget KK ((a,b)::m) e d=if gq.keq KK e a=true then b else gq.aget KK m e d:=λ_ _ _=>rfl
  have eH:∀ (a:KK.T) (b:V) m,gq.ahas KK ((a,b)::m) e=(gq.keq KK e a||gq.ahas KK m e):=λ_ _ _=>rfl;rw[eP];by_cases c:gq.keq KK k a=true
  .have ca:=(hk k a).1 c;rw[z6 c];refine⟨λh=>?_,λh=>?_⟩
   .subst h;have:=(hk e e).2 rfl;rw[eG,eH,this,z6 rfl];exact⟨rfl,rfl⟩
   .have:gq.keq KK e k=false:=by
     cases h2:gq.keq KK e k with
     |false=>rfl
     |true=>exact(h ((hk e k).1 h2)).elim
    rw[eG,eH,eG,eH,<-ca,this];exact⟨rfl,rfl⟩
  .rw[z7 c];refine⟨λh=>?_,λh=>?_⟩
   .have:gq.keq KK e a=false:=by
     cases h2:gq.keq KK e a with
     |false=>rfl
     |true=>rw[h] at h2;exact(c h2).elim
    rw[eG,eH,this,z7 (by decide)];obtain⟨j1,j2⟩:=i1 h;exact⟨j1,by rw[j2];rfl⟩
   .obtain⟨j1,j2⟩:=i2 h;rw[eG,eH,eG,eH,j1,j2];exact⟨rfl,rfl⟩
def Ep (c:List (List UInt8)) (w:Nat):List UInt8:=c.map λs=>s.getD w 0
def WE (c:List (List UInt8)) (n:Nat):List (List UInt8):=(List.range n).map (Ep c)
def HY (s:List UInt8):Bool:=s.all λb=>b==120||b==46
def Qj (hk:Int) (lw:List Int) (hd:Int) (rows:List Int) (c:List (List UInt8)):Int:=if Qb hk lw hd rows≠0 then Qb hk lw hd rows else if (c.length:Int)≠rows.length\/(c.any λs=>decide ((s.length:Int)≠lw.length)||!HY s)=true then 4 else 0
def eyF (lw rows:List Int):List (List UInt8):=WE (rows.map (Jj lw)) lw.length
def waF (lw:List Int) (c:List (List UInt8)):List (List UInt8):=WE c lw.length
abbrev SMp:=List (List UInt8×Int)
abbrev IMp:=List (Int×Int)
def Q0e (m:SMp) (c:List UInt8):SMp:=Xb .st m c (gq.aget .st m c 0+1)
def Q71 (m:SMp) (c:List UInt8):SMp:=Xb .st m c (gq.aget .st m c 0-1)
def Q1g (m:IMp) (c:Int):IMp:=Xb (.i .i64) m c (gq.aget (.i .i64) m c 0+1)
def I6 (m:IMp) (c:Int):IMp:=Xb (.i .i64) m c (gq.aget (.i .i64) m c 0-1)
def eyM (ey:List (List UInt8)):Nat->SMp
 |0=>[]
 |i+1=>Q0e (eyM ey i) (ey.getD i [])
def lfM (ey wa:List (List UInt8)):Nat->SMp
 |0=>[]
 |i+1=>Q71 (Q0e (lfM ey wa i) (ey.getD i [])) (wa.getD i [])
def okL (m:SMp):Bool:=m.all λe=>e.2==0
def okF (lw rows:List Int) (c:List (List UInt8)):Bool:=okL (lfM (eyF lw rows) (waF lw c) lw.length)
def Zl (hk:Int) (lw:List Int) (hd:Int) (rows:List Int) (c:List (List UInt8)):Int:=if Qj hk lw hd rows c≠0 then Qj hk lw hd rows c else if okF lw rows c=true then 0 else 9
def Qq (ey wa:List (List UInt8)) (w:Nat):Bool:=wa.getD w []==ey.getD w []
def NA (lw:List Int):Nat->IMp
 |0=>[]
 |k+1=>Q1g (NA lw k) (lw.getD k 0)
def Lm (lw:List Int) (ey wa:List (List UInt8)):Nat->IMp
 |0=>[]
 |k+1=>if Qq ey wa k=true then Q1g (Lm lw ey wa k) (lw.getD k 0) else Lm lw ey wa k
def wrF (ey wa:List (List UInt8)):Nat->Int
 |0=>0
 |k+1=>if Qq ey wa k=true then wrF ey wa k else wrF ey wa k+1
abbrev FSt:=List Int×IMp×IMp×List (Int×Bool)
def Rz (lw:List Int) (ey wa:List (List UInt8)) (w:Nat) (s:FSt) (e:Nat):Bool:=!(gq.aget (.i .i64) s.2.2.2 (e:Int) false)&&(if Qq ey wa w=true then lw.getD e 0==lw.getD w 0 else (ey.getD e []==wa.getD w []&&decide (gq.aget (.i .i64) s.2.1 (lw.getD e 0) 0 > gq.aget (.i .i64) s.2.2.1 (lw.getD e 0) 0)))
def Oe (lw:List Int) (ey wa:List (List UInt8)) (w:Nat) (s:FSt) (e:Nat):FSt:=(s.1++[(e:Int)],I6 s.2.1 (lw.getD e 0),if Qq ey wa w=true then I6 s.2.2.1 (lw.getD e 0) else s.2.2.1,Xb (.i .i64) s.2.2.2 (e:Int) true)
def XH (lw:List Int) (ey wa:List (List UInt8)):Nat->FSt
 |0=>([],NA lw lw.length,Lm lw ey wa lw.length,[])
 |k+1=>match (List.range lw.length).find? (Rz lw ey wa k (XH lw ey wa k)) with
  |some e=>Oe lw ey wa k (XH lw ey wa k) e
  |none=>XH lw ey wa k
def No (lw:List Int) (ey wa:List (List UInt8)):List Int:=(XH lw ey wa lw.length).1
def Jc:Nat->Int
 |0=>1
 |n+1=>Jc n*((n:Int)+1)
def Yt:SMp->Int
 |[]=>1
 |e::m=>Yt m*Jc e.2.toNat
def Jl (hk:Int) (lw:List Int) (hd:Int) (rows:List Int) (c:List (List UInt8)):Int:=if Qj hk lw hd rows c≠0 then Qj hk lw hd rows c else if okF lw rows c=true/\1000000000000<Yt (eyM (eyF lw rows) lw.length) then 8 else 0
def fHk (hk:Int) (lw:List Int) (hd:Int) (rows:List Int) (c:List (List UInt8)):Int:=if Qj hk lw hd rows c=0 then hk else 0
def fLw (hk:Int) (lw:List Int) (hd:Int) (rows:List Int) (c:List (List UInt8)):List Int:=if Qj hk lw hd rows c=0 then lw else []
def fEy (hk:Int) (lw:List Int) (hd:Int) (rows:List Int) (c:List (List UInt8)):List (List UInt8):=if Qj hk lw hd rows c=0 then eyF lw rows else []
def fWa (hk:Int) (lw:List Int) (hd:Int) (rows:List Int) (c:List (List UInt8)):List (List UInt8):=if Qj hk lw hd rows c=0 then waF lw c else []
def Rx (hk:Int) (lw:List Int) (hd:Int) (rows:List Int) (c:List (List UInt8)):Int:=if Zl hk lw hd rows c=0 then wrF (eyF lw rows) (waF lw c) lw.length else 0
def GD (hk:Int) (lw:List Int) (hd:Int) (rows:List Int) (c:List (List UInt8)):List Int:=if Zl hk lw hd rows c=0 then No lw (eyF lw rows) (waF lw c) else []
def S1 (hk:Int) (lw:List Int) (hd:Int) (rows:List Int) (c:List (List UInt8)):Int:=if Jl hk lw hd rows c=0/\okF lw rows c=true then Yt (eyM (eyF lw rows) lw.length) else 0
theorem B_ (c:List (List UInt8)) (n:Nat):(WE c n).length=n:=by simp[WE]
theorem Bs (c:List (List UInt8)) {n w:Nat}(h:w<n):(WE c n).getD w []=Ep c w:=by simp[WE,ze,h]
theorem Fe (lw rows:List Int):(eyF lw rows).length=lw.length:=B_ _ _
theorem EO (lw:List Int) (c:List (List UInt8)):(waF lw c).length=lw.length:=B_ _ _
theorem Q22 (a b:List UInt8):gq.keq .st a b=true<->a=b:=by show (a==b)=true<->_;exact zj
theorem Q6x (a b:Int):gq.keq (.i .i64) a b=true<->a=b:=by show (a==b)=true<->_;exact zj
theorem agS (m:SMp) (k:List UInt8) (v:Int) (e:List UInt8):gq.aget .st (Xb .st m k v) e 0=if e=k then v else gq.aget .st m e 0:=by
 obtain⟨h1,h2⟩:=OP (KK:=.st) Q22 k v e (0:Int) m;by_cases h:e=k
 .rw[z6 h];exact(h1 h).1
 .rw[z7 h];exact(h2 h).1
theorem agI (m:IMp) (k:Int) (v:Int) (e:Int):gq.aget (.i .i64) (Xb (.i .i64) m k v) e 0=if e=k then v else gq.aget (.i .i64) m e 0:=by
 obtain⟨h1,h2⟩:=OP (KK:=.i .i64) Q6x k v e (0:Int) m;by_cases h:e=k
 .rw[z6 h];exact(h1 h).1
 .rw[z7 h];exact(h2 h).1
theorem agB (m:List (Int×Bool)) (k:Int) (v:Bool) (e:Int):gq.aget (.i .i64) (Xb (.i .i64) m k v) e false=if e=k then v else gq.aget (.i .i64) m e false:=by
 obtain⟨h1,h2⟩:=OP (KK:=.i .i64) Q6x k v e false m;by_cases h:e=k
 .rw[z6 h];exact(h1 h).1
 .rw[z7 h];exact(h2 h).1
def Xd (p:Nat->Bool) (n:Nat):Int:=(((List.range n).countP p:Nat):Int)
theorem QZ (p:Nat->Bool) (n:Nat):Xd p (n+1)=Xd p n+if p n=true then 1 else 0:=by unfold Xd;rw[List.range_succ,List.countP_append,List.countP_singleton];split<;>simp
theorem Qy (p:Nat->Bool) (n:Nat):0<=Xd p n:=Int.natCast_nonneg _
theorem JZ (p:Nat->Bool) (n:Nat):Xd p n<=n:=by unfold Xd;have:=List.countP_le_length (p:=p) (l:=List.range n);rw[List.length_range] at this;omega
theorem Ml (ey:List (List UInt8)) (e:List UInt8):∀ i,gq.aget .st (eyM ey i) e 0=Xd (λj=>e==ey.getD j []) i
 |0=>rfl
 |i+1=>by
  rw[eyM,Q0e,agS,QZ,Ml ey e i];by_cases h:e=ey.getD i []
  .rw[z6 h,z6 (by rw[h];exact beq_self_eq_true _),<-h,Ml ey e i]
  .rw[z7 h,z7 (by rw[zj];exact h)];omega
theorem Lx (ey wa:List (List UInt8)) (e:List UInt8) (i:Nat) (ih:gq.aget .st (lfM ey wa i) e 0=Xd (λj=>e==ey.getD j []) i-Xd (λj=>e==wa.getD j []) i):gq.aget .st (Q0e (lfM ey wa i) (ey.getD i [])) e 0=Xd (λj=>e==ey.getD j []) (i+1)-Xd (λj=>e==wa.getD j []) i:=by
 rw[Q0e,agS,QZ];by_cases h:e=ey.getD i []
 .rw[z6 h,z6 (by rw[h];exact beq_self_eq_true _),<-h,ih];omega
 .rw[z7 h,z7 (by rw[zj];exact h),ih];omega
theorem UX (ey wa:List (List UInt8)):∀ (i:Nat) (e:List UInt8),gq.aget .st (lfM ey wa i) e 0=Xd (λj=>e==ey.getD j []) i-Xd (λj=>e==wa.getD j []) i
 |0,e=>rfl
 |i+1,e=>by
  have ih:=λe=>Lx ey wa e i (UX ey wa i e);rw[lfM,Q71,agS,QZ (λj=>e==wa.getD j [])];by_cases h:e=wa.getD i []
  .rw[z6 h,z6 (by rw[h];exact beq_self_eq_true _),<-h,ih];omega
  .rw[z7 h,z7 (by rw[zj];exact h),ih];omega
theorem CO (m:IMp) (c e:Int):gq.aget (.i .i64) (Q1g m c) e 0=gq.aget (.i .i64) m e 0+if e=c then 1 else 0:=by
 rw[Q1g,agI];by_cases h:e=c
 .rw[z6 h,z6 h,h]
 .rw[z7 h,z7 h];omega
theorem YZ (m:IMp) (c e:Int):gq.aget (.i .i64) (I6 m c) e 0=gq.aget (.i .i64) m e 0-if e=c then 1 else 0:=by
 rw[I6,agI];by_cases h:e=c
 .rw[z6 h,z6 h,h]
 .rw[z7 h,z7 h];omega
theorem Vj (lw:List Int) (h:Int):∀ k,gq.aget (.i .i64) (NA lw k) h 0=Xd (λj=>h==lw.getD j 0) k
 |0=>rfl
 |k+1=>by rw[NA,CO,QZ,Vj lw h k];simp only[zj]
theorem VM (lw:List Int) (ey wa:List (List UInt8)) (h:Int):∀ k,gq.aget (.i .i64) (Lm lw ey wa k) h 0=Xd (λj=>Qq ey wa j&&h==lw.getD j 0) k
 |0=>rfl
 |k+1=>by
  rw[Lm,QZ];by_cases c:Qq ey wa k=true
  .rw[z6 c,CO,VM lw ey wa h k,c,Bool.true_and];simp only[zj]
  .rw[z7 c,VM lw ey wa h k];simp only[x5] at c;simp[c]
theorem Rq (ey wa:List (List UInt8)):∀ k,wrF ey wa k=Xd (λj=>!Qq ey wa j) k
 |0=>rfl
 |k+1=>by
  rw[wrF,QZ,Rq ey wa k];by_cases c:Qq ey wa k=true
  .simp[c]
  .simp only[x5] at c;simp[c]
theorem Ch (lw:List Int) (ey wa:List (List UInt8)):∀ k,(XH lw ey wa k).1.length<=k/\∀ h,(-(k:Int)<=gq.aget (.i .i64) (XH lw ey wa k).2.1 h 0/\gq.aget (.i .i64) (XH lw ey wa k).2.1 h 0<=lw.length)/\-(k:Int)<=gq.aget (.i .i64) (XH lw ey wa k).2.2.1 h 0/\gq.aget (.i .i64) (XH lw ey wa k).2.2.1 h 0<=lw.length
 |0=>by refine⟨zd _,λh=>?_⟩;show (_<=gq.aget (.i .i64) (NA lw lw.length) h 0/\gq.aget (.i .i64) (NA lw lw.length) h 0<=_)/\_<=gq.aget (.i .i64) (Lm lw ey wa lw.length) h 0/\gq.aget (.i .i64) (Lm lw ey wa lw.length) h 0<=_;rw[Vj,VM];have:=Qy (λj=>h==lw.getD j 0) lw.length;have:=JZ (λj=>h==lw.getD j 0) lw.length;have:=Qy (λj=>Qq ey wa j&&h==lw.getD j 0) lw.length;have:=JZ (λj=>Qq ey wa j&&h==lw.getD j 0) lw.length;omega
 |k+1=>by
  obtain⟨h1,h2⟩:=Ch lw ey wa k;rw[XH];split
  .rename_i e _;refine⟨by simp only[Oe,zo,zw];omega,λh=>?_⟩;have:=h2 h;simp only[Oe];rw[YZ];refine⟨by split<;>omega,?_⟩;split
   .rw[YZ];split<;>omega
   .omega
  .exact⟨by omega,λh=>by have:=h2 h;omega⟩
theorem F6 {lw:List Int}{ey wa:List (List UInt8)}{k e:Nat}(he:e<lw.length) (hf:Rz lw ey wa k (XH lw ey wa k) e=true) (hn:∀ j,j<e->Rz lw ey wa k (XH lw ey wa k) j=false):XH lw ey wa (k+1)=Oe lw ey wa k (XH lw ey wa k) e:=by rw[XH,List.find?_range_eq_some.2 ⟨hf,zL.2 he,λj hj=>by rw[hn j hj];rfl⟩]
theorem I9 {lw:List Int}{ey wa:List (List UInt8)}{k:Nat}(hn:∀ j,j<lw.length->Rz lw ey wa k (XH lw ey wa k) j=false):XH lw ey wa (k+1)=XH lw ey wa k:=by rw[XH,List.find?_range_eq_none.2 λj hj=>by rw[hn j hj];rfl]
theorem UR {hk:Int}{lw:List Int}{hd:Int}{rows:List Int}{c:List (List UInt8)}(h:Qj hk lw hd rows c=0):Qb hk lw hd rows=0/\c.length=rows.length/\∀ s∈c,s.length=lw.length/\HY s=true:=by
 unfold Qj at h;split at h
 .contradiction
 .rename_i h1;split at h
  .cases h
  .rename_i h2;rw[not_or] at h2;refine⟨by omega,by omega,λs hs=>?_⟩;have:=xM.1 (x5 _▸h2.2) s hs;simp only[zt,zg,Bool.not_eq_true',not_or,Bool.not_eq_false,ne_eq,Decidable.not_not] at this;exact⟨by omega,this.2⟩
def pI:List Int->Int
 |[]=>1
 |x::l=>x*pI l
theorem Bk:∀ a b:List Int,pI (a++b)=pI a*pI b
 |[],b=>(Int.one_mul _).symm
 |x::a,b=>by rw[xw,pI,Bk a b,pI,Int.mul_assoc]
theorem Fw {a b:List Int}(h:a.Perm b):pI a=pI b:=by
 induction h with
 |nil=>rfl
 |cons x _ ih=>rw[pI,ih,pI]
 |swap x y l=>simp only[pI];rw[<-Int.mul_assoc,Int.mul_comm y x,Int.mul_assoc]
 |trans _ _ h1 h2=>rw[h1,h2]
theorem Af:∀ {a:List Int},(∀ x∈a,1<=x)->1<=pI a
 |[],_=>Int.le_refl _
 |x::a,h=>by have h1:=h x (zl ..);have h2:=Af λy hy=>h y (zA _ hy);have:1*1<=x*pI a:=Int.mul_le_mul h1 h2 (by omega) (by omega);rw[pI];omega
theorem WD:∀ n,1<=Jc n
 |0=>Int.le_refl _
 |n+1=>by have h1:=WD n;have:1*1<=Jc n*((n:Int)+1):=Int.mul_le_mul h1 (by omega) (by omega) (by omega);rw[Jc];omega
theorem AR {m n:Nat}(h:m<=n):Jc m<=Jc n:=by
 induction h with
 |refl=>exact Int.le_refl _
 |step _ ih =>rename_i k _;have h1:=WD k;have:Jc k*1<=Jc k*((k:Int)+1):=Int.mul_le_mul (Int.le_refl _) (by omega) (by omega) (by omega);rw[Jc];omega
theorem Tv:∀ m:SMp,Yt m=pI (m.map λe=>Jc e.2.toNat)
 |[]=>rfl
 |e::m=>by rw[Yt,Tv m,zS,pI,Int.mul_comm]
theorem CZ (m:SMp) {cM:List Nat}(i1:cM.Nodup) (i2:∀ r∈cM,r<m.length):pI (cM.map λr=>Jc (m.getD r ([],0)).2.toNat)<=Yt m/\((∀ r,r<m.length->r∈cM)->pI (cM.map λr=>Jc (m.getD r ([],0)).2.toNat)=Yt m):=by
 have e:Yt m=pI ((List.range m.length).map λr=>Jc (m.getD r ([],0)).2.toNat):=by rw[Tv];congr 1;apply List.ext_getElem (by simp);intro i h1 h2;simp only[xW] at h1;simp only[wm,List.getElem_range,Qd h1]
 have p1:cM.Perm ((List.range m.length).filter λr=>decide (r∈cM)):=(xT i1 (List.Nodup.sublist (List.filter_sublist) List.nodup_range)).2 λr=>by simp only[xV,zL,zg];exact⟨λh=>⟨i2 r h,h⟩,λh=>h.2⟩
 have p2:=List.filter_append_perm (λr=>decide (r∈cM)) (List.range m.length);rw[e,<-Fw (p2.map _),xC,Bk,<-Fw (p1.map _)];have hp:∀ l:List Nat,1<=pI (l.map λr=>Jc (m.getD r ([],0)).2.toNat):=λl=>Af λx hx=>by obtain⟨r,_,rfl⟩:=x7.1 hx;exact WD _
 refine⟨?_,λhall=>?_⟩
 .have h1:=hp cM;have h2:=hp ((List.range m.length).filter λx=>!decide (x∈cM));have:=Int.mul_le_mul (Int.le_refl (pI (cM.map λr=>Jc (m.getD r ([],0)).2.toNat))) h2 (by omega) (by omega);omega
 .have:((List.range m.length).filter λx=>!decide (x∈cM))=[]:=by
   rw[List.filter_eq_nil_iff];intro r hr;simp[hall r (zL.1 hr)]
  rw[this];simp[pI]
theorem Lg:∀ {m:SMp}{k:List UInt8}{v:Int}{e:List UInt8×Int},e∈Xb .st m k v->e=(k,v)\/e∈m
 |[],k,v,e,h=>.inl (zK.1 h)
 |(a,b)::m,k,v,e,h=>by
  have h:e∈(if gq.keq .st k a=true then (k,v)::m else (a,b)::Xb .st m k v):=h;split at h
  .rcases zD.1 h with h|h
   .exact .inl h
   .exact .inr (zA _ h)
  .rcases zD.1 h with h|h
   .exact .inr (h▸zl ..)
   .rcases Lg h with h|h
    .exact .inl h
    .exact .inr (zA _ h)
theorem Ix (ey:List (List UInt8)):∀ i,∀ e∈eyM ey i,1<=e.2/\e.2<=i
 |0,e,h=>by cases h
 |i+1,e,h=>by
  rcases Lg h with h|h
  .subst h;dsimp only;rw[Ml];have:=Qy (λj=>ey.getD i []==ey.getD j []) i;have:=JZ (λj=>ey.getD i []==ey.getD j []) i;omega
  .have:=Ix ey i e h;omega
def DQ:AL (List UInt8×List UInt8):=(.cons (.k .st) (.one (.k .st)))
def GY (d:List UInt8×List UInt8):Prop:=d.1.length<=1000000/\(d.2:List UInt8).length<=1000/\(d.2:List UInt8).all (λb=>decide (b.toNat<128))=true
def GC (d:List UInt8×List UInt8):SV:=.val .st (Lib.trimS d.1 d.2)
def GK (d:List UInt8×List UInt8):List OB:=[]
def Ut:CSp:=W2 DQ GY GC GK
abbrev Dm:Prop:=OkC Tryz.prog 60 Ut
theorem BZ:Dm:=IL fun60.enterable λa b h w=>by obtain⟨h1,h2,h3⟩:=h;dsimp only at h1 h2 h3;exact Any.strings_Trim_laid Tryz.lays160 (by kernel_rfl) ⟨a.toArray⟩ ⟨b.toArray⟩ w (by show a.toArray.size<=_;simp;omega) (by show b.toArray.size<_;simp;omega) (ascii_of_all h3)
def Zf:AL (List (List UInt8)×((List UInt8->Prop)×(List UInt8->Bool))):=(.cons (.k (.list .st)) (.one (.fn [.st] .bo)))
def JU (d:List (List UInt8)×((List UInt8->Prop)×(List UInt8->Bool))):Prop:=d.1.length<=1000000/\∀ x∈d.1,d.2.1 x
def Zb (d:List (List UInt8)×((List UInt8->Prop)×(List UInt8->Bool))):SV:=.val (.i .i64) (FT d.1 d.2.2)
def Zc (d:List (List UInt8)×((List UInt8->Prop)×(List UInt8->Bool))):List OB:=[]
def QJ:CSp:=W2 Zf JU Zb Zc
def Qu (l:List (List UInt8)) (p:(List UInt8->Prop)×(List UInt8->Bool)):Prop :=
 ∃ (e2:Unit) (d20:Int),((l=l/\(SV.pf [.st] .bo p.1 p.2=SV.pf [.st] .bo p.1 p.2)/\(lI l)=(lI l)/\(0:Int)=d20/\True)/\(True)) /\
 LoopP (λ(d2:Int) (q2:(Int)->Prop) =>
  ((decide (d2<(lI l)))=true ->
   (0<=d2)/\(d2<l.length)/\(p.1 (gD l d2 []))/\((p.2 (gD l d2 []))=true ->
    (d2=(FT l p.2)/\(True))) /\
   ((p.2 (gD l d2 []))=false ->
    (I64 (d2+(1:Int)))/\(∃ d3:Int,((l=l/\(SV.pf [.st] .bo p.1 p.2=SV.pf [.st] .bo p.1 p.2)/\(lI l)=(lI l)/\(d2+(1:Int))=d3/\True)/\(True))/\q2 d3))) /\
  ((decide (d2<(lI l)))=false ->
   ((-1:Int)=(FT l p.2)/\(True)))) d20
def Zk:Cx:=⟨[],[],19,[],0,[],[],[],[],false,[],[],[],[]⟩
def Xa (l:List (List UInt8)) (p:(List UInt8->Prop)×(List UInt8->Bool)):List (Nat×LoopAnn):=[(0,⟨Unit,Int,[0,1,7,8],λe x=>[.val (.list .st) l,.pf [.st] .bo p.1 p.2,.val (.i .i64) ((l.length:Nat):Int),.val (.i .i64) x],λe x=>[]⟩)]
theorem JX (d:List (List UInt8)×((List UInt8->Prop)×(List UInt8->Bool))):gwp (Zk) (Xa d.1 d.2) c81 0 (WC [.tmp 4] (Zb d) (Zc d)) (Qr 19 (AL.can Zf d))=Qu d.1 d.2:=by kernel_rfl
abbrev X8:Prop:=OkC Tryz.prog 81 QJ
theorem X9 (h:∀ (l:List (List UInt8)) (p:(List UInt8->Prop)×(List UInt8->Bool)),(l.length<=1000000/\∀ x∈l,p.1 x)->Qu l p):OkC Tryz.prog 81 QJ :=
 QD Q2y mixed (C:=Zk) (V:=λ(d:List (List UInt8)×((List UInt8->Prop)×(List UInt8->Bool)))=>Qu d.1 d.2) ⟨.nil,XsOk.nil,ItsOk.nil,YlOk.nil,IysOk.nil,XfOk.nil⟩ (JX) λd hp=>h d.1 d.2 hp
theorem JV:X8:=X9 λl p hp=>by
 unfold Qu;(try delta lI gD sT I64 Q7 v7 v6);simp only[true_and,and_true,exists_eq_left',exists_const,zg,zn];refine LoopP.count l.length (λk=>(l.take k).any p.2=false) (by simp) λk aV hJ q hq=>?_;simp only[zp,Int.ofNat_lt,Zd];refine⟨λai=>?_,λbu=>?_⟩
 .have ai:k<l.length:=by omega
  rw[Qd ai];refine⟨by omega,by omega,hp.2 _ (zq ai),λhx=>?_,λhx=>⟨by omega,hq ai ?_⟩⟩
  .rw[Fo ai hx hJ]
  .rw[Qi ai,List.any_append,hJ];simp[hx]
 .rw[zC (by omega)] at hJ;rw[SE hJ]
def Z0:AL (List (List UInt8)×((List UInt8->Prop)×(List UInt8->Bool))):=(.cons (.k (.list .st)) (.one (.fn [.st] .bo)))
def Jq (d:List (List UInt8)×((List UInt8->Prop)×(List UInt8->Bool))):Prop:=d.1.length<=1000000/\∀ x∈d.1,d.2.1 x
def QY (d:List (List UInt8)×((List UInt8->Prop)×(List UInt8->Bool))):SV:=.val .bo (d.1.any d.2.2)
def QX (d:List (List UInt8)×((List UInt8->Prop)×(List UInt8->Bool))):List OB:=[]
def QB:CSp:=W2 Z0 Jq QY QX
def Qo (l:List (List UInt8)) (p:(List UInt8->Prop)×(List UInt8->Bool)):Prop :=
 (l.length<=1000000/\∀ x∈l,(λ(x1:List UInt8)=>p.1 x1) x)/\((decide ((FT l (λ(x1:List UInt8)=>(p.2 x1)))>=(0:Int)))=(l.any p.2)/\(True))
def Z1:Cx:=⟨[],[(81,QJ)],9,[],0,[],[],[],[],false,[],[],[],[]⟩
def JC (l:List (List UInt8)) (p:(List UInt8->Prop)×(List UInt8->Bool)):List (Nat×LoopAnn):=[]
theorem Jt (d:List (List UInt8)×((List UInt8->Prop)×(List UInt8->Bool))):gwp (Z1) (JC d.1 d.2) c61 0 (WC [.tmp 4] (QY d) (QX d)) (Qr 9 (AL.can Z0 d))=Qo d.1 d.2:=by kernel_rfl
abbrev Jy:Prop:=OkC Tryz.prog 61 QB
theorem Ju (h:∀ (l:List (List UInt8)) (p:(List UInt8->Prop)×(List UInt8->Bool)),(l.length<=1000000/\∀ x∈l,p.1 x)->Qo l p):OkC Tryz.prog 61 QB :=
 QD Q48 mixed (C:=Z1) (V:=λ(d:List (List UInt8)×((List UInt8->Prop)×(List UInt8->Bool)))=>Qo d.1 d.2) ⟨(.cons JV .nil),XsOk.nil,ItsOk.nil,YlOk.nil,IysOk.nil,XfOk.nil⟩ (Jt) λd hp=>h d.1 d.2 hp
theorem Jz:Jy:=Ju λl p hp=>by simp only[Qo];exact⟨hp,OQ l p.2,trivial⟩
def Y3:AL (List UInt8×Int×List Int):=(.cons (.k .st) (.one (.ptr (.cons (.k (.i .i64)) (.one (.k (.list (.i .i64))))))))
def UF (d:List UInt8×Int×List Int):Prop:=d.2.2.length<=1000000
def WM (d:List UInt8×Int×List Int):SV:=.val .bo (decide ((d.1.length:Int)≠d.2.2.length)||!HY d.1)
def WO (d:List UInt8×Int×List Int):List OB:=[]
def Xu:CSp:=W2 Y3 UF WM WO
def J0 (s:List UInt8) (hk:Int) (lw:List Int):Prop :=
 (((lI s) != (lI lw))=false->s.length<=1000000/\([120,46]:List UInt8).length<=1000/\([120,46]:List UInt8).all (λb=>decide (b.toNat<128))=true)/\((((lI s) != (lI lw))||(!((Lib.trimS s [120,46])==[])))=(decide ((s.length:Int)≠lw.length)||!HY s)/\(True))
def Ya:Cx:=⟨[],[(60,Ut)],15,[],0,[],[],[],[],false,[],[],[],[]⟩
def M9 (s:List UInt8) (hk:Int) (lw:List Int):List (Nat×LoopAnn):=[]
theorem Nq (d:List UInt8×Int×List Int):gwp (Ya) (M9 d.1 d.2.1 d.2.2) c59 0 (WC [.tmp 3] (WM d) (WO d)) (Qr 15 (AL.can Y3 d))=J0 d.1 d.2.1 d.2.2:=by kernel_rfl
abbrev NG:Prop:=OkC Tryz.prog 59 Xu
theorem NW (h:∀ (s:List UInt8) (hk:Int) (lw:List Int),(lw.length<=1000000)->J0 s hk lw):OkC Tryz.prog 59 Xu :=
 QD Q2v mixed (C:=Ya) (V:=λ(d:List UInt8×Int×List Int)=>J0 d.1 d.2.1 d.2.2) ⟨(.cons BZ .nil),XsOk.nil,ItsOk.nil,YlOk.nil,IysOk.nil,XfOk.nil⟩ (Nq) λd hp=>h d.1 d.2.1 d.2.2 hp
theorem T9 {p:UInt8->Bool}(l:List UInt8):l.dropWhile p=[]<->∀ x∈l,p x=true:=by
 induction l with
 |nil=>simp
 |cons a l ih=>cases h:p a<;>simp[List.dropWhile,h,ih]
theorem Ob (s:List UInt8):(Lib.trimS s [120,46]==[])=HY s:=by
 have hp:∀ b:UInt8,([120,46]:List UInt8).contains b=(b==120||b==46):=λb=>by rw[Bool.eq_iff_iff];simp[]
 rw[Bool.eq_iff_iff];simp only[Lib.trimS,Lib.trimLeftS,Lib.trimRightS,zj,HY,zf,hp];rw[T9];simp only[List.mem_reverse];constructor
 .intro h x hx;have hx:x∈s.reverse:=List.mem_reverse.2 hx;rw[<-List.takeWhile_append_dropWhile (p:=λb=>b==120||b==46) (l:=s.reverse),zR] at hx;rcases hx with hx|hx
  .exact(zf.1 List.all_takeWhile) x hx
  .exact h x hx
 .intro h x hx;exact h x (List.mem_reverse.1 ((List.dropWhile_suffix _).mem hx))
theorem M6:NG:=NW λs hk lw h=>by
 unfold J0;(try delta lI gD sT I64 Q7 v7 v6)
 (try simp only[zg,zn])
 refine⟨λhc=>⟨by simp at hc;omega,by decide,by decide⟩,?_⟩;rw[Ob];congr 1;rw[Bool.eq_iff_iff];simp
def Uw:AL (List (List UInt8)×Int):=(.cons (.k (.list .st)) (.one (.k (.i .i64))))
def BH (d:List (List UInt8)×Int):Prop:=d.1.length<=1000/\0<=d.2/\d.2<=1000/\∀ s∈d.1,d.2<=s.length
def KQ (d:List (List UInt8)×Int):SV:=.lst 0
def Ve (d:List (List UInt8)×Int):List OB:=[.lst 82 .st (WE d.1 d.2.toNat) ((WE d.1 d.2.toNat).isEmpty)]
def YX:CSp:=W2 Uw BH KQ Ve
def XG (c:List (List UInt8)) (n:Int):Prop :=
 ∃ (e3:Unit) (d30:(List (List UInt8))×Int),((c=c/\True/\n=n/\(0:Int)=d30.2/\True)/\((d30.1=[]/\d30.1.isEmpty=true)/\True)) /\
 LoopP (λ(d3:(List (List UInt8))×Int) (q3:((List (List UInt8))×Int)->Prop) =>
  ((decide (d3.2<n))=true ->
   ∃ (e7:(List (List UInt8))×Int×Int) (d70:Bool×(List Int)×Int),((c=c/\True/\d3.2=e7.2.1/\True/\n=n/\d3.2=e7.2.2/\c=c/\(lI c)=(lI c)/\(0:Int)=d70.2.2/\True)/\((d3.1=e7.1/\d3.1.isEmpty=e7.1.isEmpty)/\(d70.1=false/\True/\(([]:List SV)=[]))/\(d70.2.1=[]/\d70.2.1.isEmpty=true)/\True)) /\
   LoopP (λ(d7:Bool×(List Int)×Int) (q7:(Bool×(List Int)×Int)->Prop) =>
    ((decide (d7.2.2<(lI c)))=true ->
     (0<=d7.2.2)/\(d7.2.2<c.length)/\(0<=e7.2.1)/\(e7.2.1<(List.length (gD c d7.2.2 [])))/\∀ w8:List Value,∀ w9:List Value,((!d7.1)=true ->
      w9=w9/\((d7.2.1.length+(List.length [((UInt8.toNat (gD (gD c d7.2.2 []) e7.2.1 0):Nat):Int)]))*1<=70368744177664)/\w8=w8/\(I64 (d7.2.2+(1:Int)))/\(∃ d10:Bool×(List Int)×Int,((c=c/\True/\e7.2.1=e7.2.1/\True/\n=n/\e7.2.2=e7.2.2/\c=c/\(lI c)=(lI c)/\(d7.2.2+(1:Int))=d10.2.2/\True)/\((e7.1=e7.1/\e7.1.isEmpty=e7.1.isEmpty)/\(d10.1=true/\True/\(([]:List SV)=[]))/\((d7.2.1++[((UInt8.toNat (gD (gD c d7.2.2 []) e7.2.1 0):Nat):Int)])=d10.2.1/\false=d10.2.1.isEmpty)/\True))/\q7 d10)) /\
     ((!d7.1)=false ->
      (d7.1=true)/\((!true)=true ->
       False) /\
      ((!true)=false ->
       w9=w9/\((d7.2.1.length+(List.length [((UInt8.toNat (gD (gD c d7.2.2 []) e7.2.1 0):Nat):Int)]))*1<=70368744177664)/\w8=w8/\(I64 (d7.2.2+(1:Int)))/\(∃ d11:Bool×(List Int)×Int,((c=c/\True/\e7.2.1=e7.2.1/\True/\n=n/\e7.2.2=e7.2.2/\c=c/\(lI c)=(lI c)/\(d7.2.2+(1:Int))=d11.2.2/\True)/\((e7.1=e7.1/\e7.1.isEmpty=e7.1.isEmpty)/\(d7.1=d11.1/\True/\(([]:List SV)=[]))/\((d7.2.1++[((UInt8.toNat (gD (gD c d7.2.2 []) e7.2.1 0):Nat):Int)])=d11.2.1/\false=d11.2.1.isEmpty)/\True))/\q7 d11)))) /\
    ((decide (d7.2.2<(lI c)))=false ->
     ∀ sA:List Value,(d7.2.1.isEmpty=false->d7.2.1≠[])/\((lI d7.2.1)=d7.2.1.length)/\(d7.2.1.length<=4611686018427387904)/\sA=sA/\((e7.1.length+(List.length [(U8 d7.2.1)]))*16<=70368744177664)/\(I64 (e7.2.2+(1:Int)))/\(∃ d13:(List (List UInt8))×Int,((c=c/\True/\n=n/\(e7.2.2+(1:Int))=d13.2/\True)/\(((e7.1++[(U8 d7.2.1)])=d13.1/\false=d13.1.isEmpty)/\True))/\q3 d13))) d70) /\
  ((decide (d3.2<n))=false ->
   (True/\((d3.1=(WE c n.toNat)/\d3.1.isEmpty=(WE c n.toNat).isEmpty)/\True)))) d30
def Um:Cx:=⟨[(5,(.i .u8)),(82,.st)],[],30,[],0,[(82,Z5),(96,QE),(102,IV),(83,Zx)],[],[],[],false,[],[],[],[]⟩
def Hw (c:List (List UInt8)) (n:Int):List (Nat×LoopAnn):=[(0,⟨Unit,(List (List UInt8))×Int,[0,4,9,10],λe x=>[.val (.list .st) c,.lst 27,.val (.i .i64) n,.val (.i .i64) x.2],λe x=>[(27,.slot 4,.lst 82 .st x.1 (List.isEmpty x.1))]⟩),
 (2,⟨(List (List UInt8))×Int×Int,Bool×(List Int)×Int,[0,4,5,6,9,10,13,14,15],λe x=>[.val (.list .st) c,.lst 27,.val (.i .i64) e.2.1,.box 6 0,.val (.i .i64) n,.val (.i .i64) e.2.2,.val (.list .st) c,.val (.i .i64) ((c.length:Nat):Int),.val (.i .i64) x.2.2],λe x=>[(27,.slot 4,.lst 82 .st e.1 (List.isEmpty e.1)),(6,.slot 6,.cells [.dd 6 (.obx x.1),.lst 2300014] (some 136)),(2300014,.cell 6 1,.lst 5 (.i .u8) x.2.1 (List.isEmpty x.2.1))]⟩)]
theorem HG (d:List (List UInt8)×Int):gwp (Um) (Hw d.1 d.2) c62 0 (WC [.tmp 4] (KQ d) (Ve d)) (Qr 30 (AL.can Uw d))=XG d.1 d.2:=by kernel_rfl
abbrev HU:Prop:=OkC Tryz.prog 62 YX
theorem HX (h:∀ (c:List (List UInt8)) (n:Int),(c.length<=1000/\0<=n/\n<=1000/\∀ s∈c,n<=s.length)->XG c n):OkC Tryz.prog 62 YX :=
 QD Q46 mixed (C:=Um) (V:=λ(d:List (List UInt8)×Int)=>XG d.1 d.2) ⟨.nil,(XsOk.cons ZU (XsOk.cons QU (XsOk.cons (Tc Tp) (XsOk.cons Jk XsOk.nil)))),ItsOk.nil,YlOk.nil,IysOk.nil,XfOk.nil⟩ (HG) λd hp=>h d.1 d.2 hp
theorem Fl (c:List (List UInt8)) (w:Nat):U8 (c.map λs=>(((s.getD w 0).toNat:Nat):Int))=Ep c w:=by simp only[U8,Ep,xZ];refine x4 λs _=>?_;simp[Function.comp]
theorem Hp:HU:=HX λc n h=>by
 obtain⟨h1,h2,fh,h3⟩:=h;obtain⟨n,rfl⟩:=zY h2;unfold XG;(try delta lI gD sT I64 Q7 v7 v6);simp only[true_and,and_true,exists_const,zg,zn,ne_eq,Bool.not_eq_true',zV,zp,Zd];refine⟨([],0),(by and_intros<;>first|rfl|trivial|simp),?_⟩;refine⟨λd=>∃ i:Nat,i<=n/\d.2=i/\d.1=WE c i,λd=>n-d.2.toNat,⟨0,Nat.zero_le _,rfl,rfl⟩,?_⟩;rintro⟨cs,_⟩ ⟨w,hw,rfl,aw⟩;dsimp only at aw |-;subst aw;have bR:=B_ c w;refine⟨λai=>?_,λbu=>?_⟩
 .have ai:w<n:=by omega
  refine⟨(WE c w,(w:Int),(w:Int)),(false,[],0),(by and_intros<;>first|rfl|trivial|simp),?_⟩;refine⟨λd=>∃ i:Nat,i<=c.length/\d.2.2=i/\d.2.1=(c.take i).map λs=>(((s.getD w 0).toNat:Nat):Int),λd=>c.length-d.2.2.toNat,⟨0,Nat.zero_le _,rfl,by simp⟩,?_⟩;rintro⟨b,xs,_⟩ ⟨i,hi,rfl,aZ⟩;dsimp only at aZ |-;have eO:xs.length=i:=by rw[aZ];simp;omega
  refine⟨λcr=>?_,λbu=>?_⟩
  .have cr:i<c.length:=by omega
   have hs:=h3 _ (zq cr);have hn:xs++[(((c[i].getD w 0).toNat:Nat):Int)]=(c.take (i+1)).map λs=>(((s.getD w 0).toNat:Nat):Int):=by rw[aZ,Qi cr,xC];rfl
   simp only[zp,Qd cr,zw];refine⟨by omega,by omega,by omega,by omega,λ_ w5=>⟨λhc=>?_,λhc=>?_⟩⟩
   .exact⟨by omega,by omega,(true,xs++[(((c[i].getD w 0).toNat:Nat):Int)],(i:Int)+1),(by and_intros<;>first|rfl|trivial|simp),⟨i+1,by omega,by simp,hn⟩,by dsimp only;omega⟩
   .refine⟨by simpa using hc,(λhf=>by first|cases hf|exact hf.elim),λ_=>?_⟩;exact⟨by omega,by omega,(b,xs++[(((c[i].getD w 0).toNat:Nat):Int)],(i:Int)+1),(by and_intros<;>first|rfl|trivial|simp),⟨i+1,by omega,by simp,hn⟩,by dsimp only;omega⟩
  .have:i=c.length:=by omega
   subst this;rw[List.take_length] at aZ;rw[aZ,Fl];refineλ_=>⟨?_,by rw[xW];omega,by simp only[zw];omega,by omega,(WE c (w+1),(w:Int)+1),?_,⟨w+1,by omega,by simp,rfl⟩,by dsimp only;omega⟩
   .intro aK h0;rw[h0] at aK;simp at aK
   .simp[WE,List.range_succ]
 .have:w=n:=by omega
  subst this;simp
def Kv:AL ((Int×List Int)×(Int×List Int)×List (List UInt8)):=(.cons (.agg (.cons (.k (.i .i64)) (.one (.k (.list (.i .i64)))))) (.cons (.agg (.cons (.k (.i .i64)) (.one (.k (.list (.i .i64)))))) (.one (.k (.list .st)))))
def Mo (d:(Int×List Int)×(Int×List Int)×List (List UInt8)):Prop:=d.1.2.length<=110/\d.2.1.2.length<=110/\d.2.2.length<=110
def YE (d:(Int×List Int)×(Int×List Int)×List (List UInt8)):SV:=.tup [.agg [.val (.i .i64) (fHk d.1.1 d.1.2 d.2.1.1 d.2.1.2 d.2.2),.val (.list (.i .i64)) (fLw d.1.1 d.1.2 d.2.1.1 d.2.1.2 d.2.2),.lst 0,.lst 1],.val (.i .i64) (Qj d.1.1 d.1.2 d.2.1.1 d.2.1.2 d.2.2)]
def YD (d:(Int×List Int)×(Int×List Int)×List (List UInt8)):List OB:=[.lst 82 .st (fEy d.1.1 d.1.2 d.2.1.1 d.2.1.2 d.2.2) ((fEy d.1.1 d.1.2 d.2.1.1 d.2.1.2 d.2.2).isEmpty),.lst 82 .st (fWa d.1.1 d.1.2 d.2.1.1 d.2.1.2 d.2.2) ((fWa d.1.1 d.1.2 d.2.1.1 d.2.1.2 d.2.2).isEmpty)]
def DS:CSp:=W2 Kv Mo YE YD
def JI (hk:Int) (lw:List Int) (hd:Int) (rows:List Int) (c:List (List UInt8)):Prop :=
 (lw.length<=1000000/\rows.length<=1000000)/\(((Qb hk lw hd rows) != (0:Int))=true ->
  ((((0:Int)=(fHk hk lw hd rows c)/\(fLw hk lw hd rows c)=[]/\True/\True/\(([]:List SV)=[]))/\(Qb hk lw hd rows)=(Qj hk lw hd rows c)/\(([]:List SV)=[]))/\(((fEy hk lw hd rows c)=[]/\(fEy hk lw hd rows c).isEmpty=true)/\((fWa hk lw hd rows c)=[]/\(fWa hk lw hd rows c).isEmpty=true)/\True))) /\
 (((Qb hk lw hd rows) != (0:Int))=false ->
  (((lI c) != (lI rows))=false->c.length<=1000000/\∀ x∈c,(λ(x1:List UInt8)=>lw.length<=1000000) x)/\((((lI c) != (lI rows))||(c.any (λ(x1:List UInt8)=>(decide ((x1.length:Int)≠lw.length)||!HY x1))))=true ->
   ((((0:Int)=(fHk hk lw hd rows c)/\(fLw hk lw hd rows c)=[]/\True/\True/\(([]:List SV)=[]))/\(4:Int)=(Qj hk lw hd rows c)/\(([]:List SV)=[]))/\(((fEy hk lw hd rows c)=[]/\(fEy hk lw hd rows c).isEmpty=true)/\((fWa hk lw hd rows c)=[]/\(fWa hk lw hd rows c).isEmpty=true)/\True))) /\
  ((((lI c) != (lI rows))||(c.any (λ(x1:List UInt8)=>(decide ((x1.length:Int)≠lw.length)||!HY x1))))=false ->
   (lw.length<=110/\rows.length<=110)/\((QF hk lw hd rows).length<=1000/\0<=(lI lw)/\(lI lw)<=1000/\∀ s∈(QF hk lw hd rows),(lI lw)<=s.length)/\((WE (QF hk lw hd rows) (lI lw).toNat).isEmpty=true->(WE (QF hk lw hd rows) (lI lw).toNat)=[])/\(c.length<=1000/\0<=(lI lw)/\(lI lw)<=1000/\∀ s∈c,(lI lw)<=s.length)/\((WE c (lI lw).toNat).isEmpty=true->(WE c (lI lw).toNat)=[])/\(((hk=(fHk hk lw hd rows c)/\lw=(fLw hk lw hd rows c)/\True/\True/\(([]:List SV)=[]))/\(0:Int)=(Qj hk lw hd rows c)/\(([]:List SV)=[]))/\(((WE (QF hk lw hd rows) (lI lw).toNat)=(fEy hk lw hd rows c)/\(WE (QF hk lw hd rows) (lI lw).toNat).isEmpty=(fEy hk lw hd rows c).isEmpty)/\((WE c (lI lw).toNat)=(fWa hk lw hd rows c)/\(WE c (lI lw).toNat).isEmpty=(fWa hk lw hd rows c).isEmpty)/\True))))
def Ks:Cx:=⟨[],[(54,WH),(61,QB),(59,Xu),(39,UM),(62,YX)],50,[],0,[],[],[],[],false,[],[],[],[]⟩
def Km (hk:Int) (lw:List Int) (hd:Int) (rows:List Int) (c:List (List UInt8)):List (Nat×LoopAnn):=[]
theorem GQ (d:(Int×List Int)×(Int×List Int)×List (List UInt8)):gwp (Ks) (Km d.1.1 d.1.2 d.2.1.1 d.2.1.2 d.2.2) c31 0 (WC [.cell 6 true 4,.tmp 7] (YE d) (YD d)) (Qr 50 (AL.can Kv d))=JI d.1.1 d.1.2 d.2.1.1 d.2.1.2 d.2.2:=by kernel_rfl
def J_:XSp:=CQ Ae DS
abbrev GO:Prop:=XOk Tryz.prog 31 J_
theorem GW (h:∀ (hk:Int) (lw:List Int) (hd:Int) (rows:List Int) (c:List (List UInt8)),(lw.length<=110/\rows.length<=110/\c.length<=110)->JI hk lw hd rows c):XOk Tryz.prog 31 J_ :=
 OI Q2r mixed SL (C:=Ks) ⟨(.cons GS (.cons Jz (.cons M6 (.cons RJ (.cons Hp .nil))))),XsOk.nil,ItsOk.nil,YlOk.nil,IysOk.nil,XfOk.nil⟩ (L:=λ(d:(Int×List Int)×(Int×List Int)×List (List UInt8))=>Km d.1.1 d.1.2 d.2.1.1 d.2.1.2 d.2.2) (V:=λ(d:(Int×List Int)×(Int×List Int)×List (List UInt8))=>JI d.1.1 d.1.2 d.2.1.1 d.2.1.2 d.2.2) (GQ) λd hp=>h d.1.1 d.1.2 d.2.1.1 d.2.1.2 d.2.2 hp
theorem YO:GO:=GW λhk lw hd rows c h=>by
 obtain⟨h1,h2,h3⟩:=h;unfold JI;(try delta lI gD sT I64 Q7 v7 v6);simp only[bne_iff_ne,ne_eq,bne_eq_false_iff_eq,zt,Bool.or_eq_false_iff];have ew:eyF lw rows=WE (rows.map (Jj lw)) lw.length:=rfl;refine⟨⟨by omega,by omega⟩,λe=>?_,λe=>⟨λ_=>⟨by omega,λx hx=>by omega⟩,λe2=>?_,λe2=>?_⟩⟩
 .have he:Qj hk lw hd rows c=Qb hk lw hd rows:=by unfold Qj;rw[z6 e]
  have hz:¬ Qj hk lw hd rows c=0:=by rw[he];exact e
  simp only[fHk,fLw,fEy,fWa,z7 hz];rw[he];simp
 .have he:Qj hk lw hd rows c=4:=by unfold Qj;rw[z7 (by simpa using e),z6 e2]
  have hz:¬ Qj hk lw hd rows c=0:=by rw[he];decide
  simp only[fHk,fLw,fEy,fWa,z7 hz];rw[he];simp
 .have he:Qj hk lw hd rows c=0:=by
   unfold Qj;rw[z7 (by simpa using e),z7 (by rw[not_or];exact⟨by simpa using e2.1,by rw[x5];exact e2.2⟩)]
  obtain⟨f1,f2,f3⟩:=UR he;have uS:QF hk lw hd rows=rows.map (Jj lw):=by rw[QF,z6 e]
  have eJ:∀ (l:List (List UInt8)),l.isEmpty=true->l=[]:=λl h=>List.isEmpty_iff.1 h;simp only[fHk,fLw,fEy,fWa,z6 he,uS,zp];refine⟨⟨by omega,by omega⟩,⟨by rw[xW];omega,by omega,by omega,λs hs=>?_⟩,eJ _,⟨by omega,by omega,by omega,λs hs=>by have:=(f3 s hs).1;omega⟩,eJ _,?_⟩
  .obtain⟨r,_,rfl⟩:=x7.1 hs;simp[Jj]
  .rw[he];and_intros<;>first|rfl|trivial
def XT:AL ((Int×List Int×List (List UInt8)×List (List UInt8))×Int):=(.cons (.agg (.cons (.k (.i .i64)) (.cons (.k (.list (.i .i64))) (.cons (.k (.list .st)) (.one (.k (.list .st))))))) (.one (.k (.i .i64))))
def Ky (d:(Int×List Int×List (List UInt8)×List (List UInt8))×Int):Prop:=0<=d.2/\d.2<d.1.2.2.1.length/\d.2<d.1.2.2.2.length
def Xk (d:(Int×List Int×List (List UInt8)×List (List UInt8))×Int):SV:=.val .bo (Qq d.1.2.2.1 d.1.2.2.2 d.2.toNat)
def Xm (d:(Int×List Int×List (List UInt8)×List (List UInt8))×Int):List OB:=[]
def Zu:CSp:=W2 XT Ky Xk Xm
def Zi (hk:Int) (lw:List Int) (ey:List (List UInt8)) (wa:List (List UInt8)) (w:Int):Prop :=
 (0<=w)/\(w<wa.length)/\(0<=w)/\(w<ey.length)/\(((gD wa w [])==(gD ey w []))=(Qq ey wa w.toNat)/\(True))
def W1:Cx:=⟨[],[],16,[],0,[],[],[],[],false,[],[],[],[]⟩
def KR (hk:Int) (lw:List Int) (ey:List (List UInt8)) (wa:List (List UInt8)) (w:Int):List (Nat×LoopAnn):=[]
theorem V1 (d:(Int×List Int×List (List UInt8)×List (List UInt8))×Int):gwp (W1) (KR d.1.1 d.1.2.1 d.1.2.2.1 d.1.2.2.2 d.2) c33 0 (WC [.tmp 4] (Xk d) (Xm d)) (Qr 16 (AL.can XT d))=Zi d.1.1 d.1.2.1 d.1.2.2.1 d.1.2.2.2 d.2:=by kernel_rfl
abbrev KJ:Prop:=OkC Tryz.prog 33 Zu
theorem V6 (h:∀ (hk:Int) (lw:List Int) (ey:List (List UInt8)) (wa:List (List UInt8)) (w:Int),(0<=w/\w<ey.length/\w<wa.length)->Zi hk lw ey wa w):OkC Tryz.prog 33 Zu :=
 QD Q3w mixed (C:=W1) (V:=λ(d:(Int×List Int×List (List UInt8)×List (List UInt8))×Int)=>Zi d.1.1 d.1.2.1 d.1.2.2.1 d.1.2.2.2 d.2) ⟨.nil,XsOk.nil,ItsOk.nil,YlOk.nil,IysOk.nil,XfOk.nil⟩ (V1) λd hp=>h d.1.1 d.1.2.1 d.1.2.2.1 d.1.2.2.2 d.2 hp
theorem XO:KJ:=V6 λhk lw ey wa w h=>by obtain⟨h1,h2,h3⟩:=h;unfold Zi;(try delta lI gD sT I64 Q7 v7 v6);exact⟨h1,h3,h1,h2,rfl,trivial⟩
def Dz:AL ((Int×List Int)×(Int×List Int)×List (List UInt8)):=(.cons (.agg (.cons (.k (.i .i64)) (.one (.k (.list (.i .i64)))))) (.cons (.agg (.cons (.k (.i .i64)) (.one (.k (.list (.i .i64)))))) (.one (.k (.list .st)))))
def Lb (d:(Int×List Int)×(Int×List Int)×List (List UInt8)):Prop:=d.1.2.length<=110/\d.2.1.2.length<=110/\d.2.2.length<=110
def Gx (d:(Int×List Int)×(Int×List Int)×List (List UInt8)):SV:=.tup [.lst 0,.val (.i .i64) (Rx d.1.1 d.1.2 d.2.1.1 d.2.1.2 d.2.2),.val (.i .i64) (Zl d.1.1 d.1.2 d.2.1.1 d.2.1.2 d.2.2)]
def G0 (d:(Int×List Int)×(Int×List Int)×List (List UInt8)):List OB:=[.lst 3 (.i .i64) (GD d.1.1 d.1.2 d.2.1.1 d.2.1.2 d.2.2) ((GD d.1.1 d.1.2 d.2.1.1 d.2.1.2 d.2.2).isEmpty)]
def Mm:CSp:=W2 Dz Lb Gx G0
def K9 (hk:Int) (lw:List Int) (hd:Int) (rows:List Int) (c:List (List UInt8)):Prop :=
 (lw.length<=110/\rows.length<=110/\c.length<=110)/\(((Qj hk lw hd rows c) != (0:Int))=true ->
  ((True/\(0:Int)=(Rx hk lw hd rows c)/\(Qj hk lw hd rows c)=(Zl hk lw hd rows c)/\(([]:List SV)=[]))/\(((GD hk lw hd rows c)=[]/\(GD hk lw hd rows c).isEmpty=true)/\True))) /\
 (((Qj hk lw hd rows c) != (0:Int))=false ->
  ∀ w1:List Value,∃ (e4:Int×(List Int)×(List (List UInt8))×(List (List UInt8))×Int×Int×(List Int)×Int×(List Int)×(List (List UInt8))×Int×(List Int)×Int×(List Int)×Int×Int×Int×(List Int)×Int×(List Int)×Int×Int×(List Int)×Int×(List Int)×(List (List UInt8))×Int×(List Int)×Int×Int×(List Int)×Int×Int×Bool×Int×(List Int)×(List Value)) (d40:(List (List UInt8×Int))×(List (List UInt8×Int))×Int),((True/\True/\True/\True/\(lI (fEy hk lw hd rows c))=(v6 e4).1/\(0:Int)=d40.2.2/\True)/\(((fHk hk lw hd rows c)=e4.1/\(fLw hk lw hd rows c)=e4.2.1/\True/\True/\(([]:List SV)=[]))/\((fEy hk lw hd rows c)=e4.2.2.1/\(fEy hk lw hd rows c).isEmpty=e4.2.2.1.isEmpty)/\((fWa hk lw hd rows c)=e4.2.2.2.1/\(fWa hk lw hd rows c).isEmpty=e4.2.2.2.1.isEmpty)/\(([]:List (List UInt8×Int))=d40.1)/\(([]:List (List UInt8×Int))=d40.2.1)/\((v6 (Q7 (Q7 e4)))=w1/\((hk=(v6 e4).2.1/\lw=(v6 e4).2.2.1/\(([]:List SV)=[]))/\(hd=(v6 e4).2.2.2.1/\rows=(v7 e4).1/\(([]:List SV)=[]))/\c=(v7 e4).2.1/\True/\True/\True/\True/\(0:Int)=(v6 (v7 e4)).2.2.1/\(Qj hk lw hd rows c)=(v6 (v7 e4)).2.2.2.1/\True/\True/\True/\True/\True/\True/\True/\True/\True/\True/\True/\True/\True/\(((fHk hk lw hd rows c)=(Q7 e4).2.2.1/\(fLw hk lw hd rows c)=(Q7 e4).2.2.2.1/\True/\True/\(([]:List SV)=[]))/\(Qj hk lw hd rows c)=(v6 (Q7 e4)).1/\(([]:List SV)=[]))/\(hk=(v6 (Q7 e4)).2.1/\lw=(v6 (Q7 e4)).2.2.1/\(([]:List SV)=[]))/\(hd=(v6 (Q7 e4)).2.2.2.1/\rows=(v7 (Q7 e4)).1/\(([]:List SV)=[]))/\c=(v7 (Q7 e4)).2.1/\(((fHk hk lw hd rows c)=(v7 (Q7 e4)).2.2.1/\(fLw hk lw hd rows c)=(v7 (Q7 e4)).2.2.2.1/\True/\True/\(([]:List SV)=[]))/\(Qj hk lw hd rows c)=(v6 (v7 (Q7 e4))).1/\(([]:List SV)=[]))/\((fHk hk lw hd rows c)=(v6 (v7 (Q7 e4))).2.1/\(fLw hk lw hd rows c)=(v6 (v7 (Q7 e4))).2.2.1/\True/\True/\(([]:List SV)=[]))/\(Qj hk lw hd rows c)=(v6 (v7 (Q7 e4))).2.2.2.1/\(Qj hk lw hd rows c)=(Q7 (Q7 e4)).1/\((Qj hk lw hd rows c) != (0:Int))=(Q7 (Q7 e4)).2.1/\True/\True/\((fHk hk lw hd rows c)=(Q7 (Q7 e4)).2.2.1/\(fLw hk lw hd rows c)=(Q7 (Q7 e4)).2.2.2.1/\True/\True/\(([]:List SV)=[]))/\True/\True/\True/\True/\True/\True/\True/\True/\True/\True/\True/\True/\True/\True/\True/\True/\True/\True/\True/\True/\True/\True/\True/\True/\True/\True/\True/\True/\True/\True/\True/\True/\True/\True/\True/\True/\True/\True/\True/\True/\True/\True/\True/\True/\True/\True/\True/\True/\True/\True/\True/\True/\True/\True/\True/\True/\True/\True/\True/\True/\True/\True/\True/\True/\True/\True/\True/\True/\True/\True/\True/\True/\(([]:List SV)=[])))/\(hk=(v7 e4).2.2.1/\lw=(v7 e4).2.2.2.1/\(([]:List SV)=[]))/\(hd=(v6 (v7 e4)).1/\rows=(v6 (v7 e4)).2.1/\(([]:List SV)=[]))/\((fHk hk lw hd rows c)=(Q7 e4).1/\(fLw hk lw hd rows c)=(Q7 e4).2.1/\True/\True/\(([]:List SV)=[]))/\True)) /\
  LoopP (λ(d4:(List (List UInt8×Int))×(List (List UInt8×Int))×Int) (q4:((List (List UInt8×Int))×(List (List UInt8×Int))×Int)->Prop) =>
   ((decide (d4.2.2<(v6 e4).1))=true ->
    (0<=d4.2.2)/\(d4.2.2<e4.2.2.1.length)/\(I64 ((gq.aget .st d4.1 (gD e4.2.2.1 d4.2.2 []) 0)+(1:Int)))/\(I64 ((gq.aget .st d4.2.1 (gD e4.2.2.1 d4.2.2 []) 0)+(1:Int)))/\(0<=d4.2.2)/\(d4.2.2<e4.2.2.2.1.length)/\(I64 ((gq.aget .st (Xb .st d4.2.1 (gD e4.2.2.1 d4.2.2 []) ((gq.aget .st d4.2.1 (gD e4.2.2.1 d4.2.2 []) 0)+(1:Int))) (gD e4.2.2.2.1 d4.2.2 []) 0)-(1:Int)))/\(I64 (d4.2.2+(1:Int)))/\(∃ d5:(List (List UInt8×Int))×(List (List UInt8×Int))×Int,((True/\True/\True/\True/\(v6 e4).1=(v6 e4).1/\(d4.2.2+(1:Int))=d5.2.2/\True)/\((e4.1=e4.1/\e4.2.1=e4.2.1/\True/\True/\(([]:List SV)=[]))/\(e4.2.2.1=e4.2.2.1/\e4.2.2.1.isEmpty=e4.2.2.1.isEmpty)/\(e4.2.2.2.1=e4.2.2.2.1/\e4.2.2.2.1.isEmpty=e4.2.2.2.1.isEmpty)/\((Xb .st d4.1 (gD e4.2.2.1 d4.2.2 []) ((gq.aget .st d4.1 (gD e4.2.2.1 d4.2.2 []) 0)+(1:Int)))=d5.1)/\((Xb .st (Xb .st d4.2.1 (gD e4.2.2.1 d4.2.2 []) ((gq.aget .st d4.2.1 (gD e4.2.2.1 d4.2.2 []) 0)+(1:Int))) (gD e4.2.2.2.1 d4.2.2 []) ((gq.aget .st (Xb .st d4.2.1 (gD e4.2.2.1 d4.2.2 []) ((gq.aget .st d4.2.1 (gD e4.2.2.1 d4.2.2 []) 0)+(1:Int))) (gD e4.2.2.2.1 d4.2.2 []) 0)-(1:Int)))=d5.2.1)/\((v6 (Q7 (Q7 e4)))=(v6 (Q7 (Q7 e4)))/\(((v6 e4).2.1=(v6 e4).2.1/\(v6 e4).2.2.1=(v6 e4).2.2.1/\(([]:List SV)=[]))/\((v6 e4).2.2.2.1=(v6 e4).2.2.2.1/\(v7 e4).1=(v7 e4).1/\(([]:List SV)=[]))/\(v7 e4).2.1=(v7 e4).2.1/\True/\True/\True/\True/\(v6 (v7 e4)).2.2.1=(v6 (v7 e4)).2.2.1/\(v6 (v7 e4)).2.2.2.1=(v6 (v7 e4)).2.2.2.1/\True/\True/\True/\True/\True/\True/\True/\True/\True/\True/\True/\True/\True/\(((Q7 e4).2.2.1=(Q7 e4).2.2.1/\(Q7 e4).2.2.2.1=(Q7 e4).2.2.2.1/\True/\True/\(([]:List SV)=[]))/\(v6 (Q7 e4)).1=(v6 (Q7 e4)).1/\(([]:List SV)=[]))/\((v6 (Q7 e4)).2.1=(v6 (Q7 e4)).2.1/\(v6 (Q7 e4)).2.2.1=(v6 (Q7 e4)).2.2.1/\(([]:List SV)=[]))/\((v6 (Q7 e4)).2.2.2.1=(v6 (Q7 e4)).2.2.2.1/\(v7 (Q7 e4)).1=(v7 (Q7 e4)).1/\(([]:List SV)=[]))/\(v7 (Q7 e4)).2.1=(v7 (Q7 e4)).2.1/\(((v7 (Q7 e4)).2.2.1=(v7 (Q7 e4)).2.2.1/\(v7 (Q7 e4)).2.2.2.1=(v7 (Q7 e4)).2.2.2.1/\True/\True/\(([]:List SV)=[]))/\(v6 (v7 (Q7 e4))).1=(v6 (v7 (Q7 e4))).1/\(([]:List SV)=[]))/\((v6 (v7 (Q7 e4))).2.1=(v6 (v7 (Q7 e4))).2.1/\(v6 (v7 (Q7 e4))).2.2.1=(v6 (v7 (Q7 e4))).2.2.1/\True/\True/\(([]:List SV)=[]))/\(v6 (v7 (Q7 e4))).2.2.2.1=(v6 (v7 (Q7 e4))).2.2.2.1/\(Q7 (Q7 e4)).1=(Q7 (Q7 e4)).1/\(Q7 (Q7 e4)).2.1=(Q7 (Q7 e4)).2.1/\True/\True/\((Q7 (Q7 e4)).2.2.1=(Q7 (Q7 e4)).2.2.1/\(Q7 (Q7 e4)).2.2.2.1=(Q7 (Q7 e4)).2.2.2.1/\True/\True/\(([]:List SV)=[]))/\True/\True/\True/\True/\True/\True/\True/\True/\True/\True/\True/\True/\True/\True/\True/\True/\True/\True/\True/\True/\True/\True/\True/\True/\True/\True/\True/\True/\True/\True/\True/\True/\True/\True/\True/\True/\True/\True/\True/\True/\True/\True/\True/\True/\True/\True/\True/\True/\True/\True/\True/\True/\True/\True/\True/\True/\True/\True/\True/\True/\True/\True/\True/\True/\True/\True/\True/\True/\True/\True/\True/\True/\(([]:List SV)=[])))/\((v7 e4).2.2.1=(v7 e4).2.2.1/\(v7 e4).2.2.2.1=(v7 e4).2.2.2.1/\(([]:List SV)=[]))/\((v6 (v7 e4)).1=(v6 (v7 e4)).1/\(v6 (v7 e4)).2.1=(v6 (v7 e4)).2.1/\(([]:List SV)=[]))/\((Q7 e4).1=(Q7 e4).1/\(Q7 e4).2.1=(Q7 e4).2.1/\True/\True/\(([]:List SV)=[]))/\True))/\q4 d5)) /\
   ((decide (d4.2.2<(v6 e4).1))=false ->
    ∃ (e8:(List (List UInt8×Int))×(List (List UInt8×Int))×Int×(List Int)×Int×(List Int)×(List (List UInt8))×Int×(List Int)×Int×(List Int)×Int×Int×Int×(List Int)×(List (List UInt8))×(List (List UInt8))×Int×(List Int)×Int×Int×(List Int)×Int×(List Int)×(List (List UInt8))×Int×(List Int)×Int×Int×(List Int)×Int×Int×Bool×Int×(List Int)×(List Value)) (d80:(List Nat)),((True/\True/\True)/\((d4.1=e8.1)/\(d4.2.1=e8.2.1/\([]:List Nat)=d80)/\((Q7 (Q7 e8)).2.2.2=(v6 (Q7 (Q7 e4)))/\(((v6 e4).2.1=e8.2.2.1/\(v6 e4).2.2.1=e8.2.2.2.1/\(([]:List SV)=[]))/\((v6 e4).2.2.2.1=(v6 e8).1/\(v7 e4).1=(v6 e8).2.1/\(([]:List SV)=[]))/\(v7 e4).2.1=(v6 e8).2.2.1/\True/\True/\True/\True/\(v6 (v7 e4)).2.2.1=(v7 e8).2.2.2.1/\(v6 (v7 e4)).2.2.2.1=(v6 (v7 e8)).1/\True/\True/\True/\True/\True/\True/\True/\True/\True/\True/\True/\True/\True/\(((Q7 e4).2.2.1=(Q7 e8).2.1/\(Q7 e4).2.2.2.1=(Q7 e8).2.2.1/\True/\True/\(([]:List SV)=[]))/\(v6 (Q7 e4)).1=(Q7 e8).2.2.2.1/\(([]:List SV)=[]))/\((v6 (Q7 e4)).2.1=(v6 (Q7 e8)).1/\(v6 (Q7 e4)).2.2.1=(v6 (Q7 e8)).2.1/\(([]:List SV)=[]))/\((v6 (Q7 e4)).2.2.2.1=(v6 (Q7 e8)).2.2.1/\(v7 (Q7 e4)).1=(v6 (Q7 e8)).2.2.2.1/\(([]:List SV)=[]))/\(v7 (Q7 e4)).2.1=(v7 (Q7 e8)).1/\(((v7 (Q7 e4)).2.2.1=(v7 (Q7 e8)).2.1/\(v7 (Q7 e4)).2.2.2.1=(v7 (Q7 e8)).2.2.1/\True/\True/\(([]:List SV)=[]))/\(v6 (v7 (Q7 e4))).1=(v7 (Q7 e8)).2.2.2.1/\(([]:List SV)=[]))/\((v6 (v7 (Q7 e4))).2.1=(v6 (v7 (Q7 e8))).1/\(v6 (v7 (Q7 e4))).2.2.1=(v6 (v7 (Q7 e8))).2.1/\True/\True/\(([]:List SV)=[]))/\(v6 (v7 (Q7 e4))).2.2.2.1=(v6 (v7 (Q7 e8))).2.2.1/\(Q7 (Q7 e4)).1=(v6 (v7 (Q7 e8))).2.2.2.1/\(Q7 (Q7 e4)).2.1=(Q7 (Q7 e8)).1/\True/\True/\((Q7 (Q7 e4)).2.2.1=(Q7 (Q7 e8)).2.1/\(Q7 (Q7 e4)).2.2.2.1=(Q7 (Q7 e8)).2.2.1/\True/\True/\(([]:List SV)=[]))/\True/\True/\True/\True/\True/\True/\True/\True/\True/\True/\True/\True/\True/\True/\True/\True/\True/\True/\True/\True/\True/\True/\True/\True/\True/\True/\True/\True/\True/\True/\True/\True/\True/\True/\True/\True/\True/\True/\True/\True/\True/\True/\True/\True/\True/\True/\True/\True/\True/\True/\True/\True/\True/\True/\True/\True/\True/\True/\True/\True/\True/\True/\True/\True/\True/\True/\True/\True/\True/\True/\True/\True/\(([]:List SV)=[])))/\((v7 e4).2.2.1=(v6 e8).2.2.2.1/\(v7 e4).2.2.2.1=(v7 e8).1/\(([]:List SV)=[]))/\((v6 (v7 e4)).1=(v7 e8).2.1/\(v6 (v7 e4)).2.1=(v7 e8).2.2.1/\(([]:List SV)=[]))/\((Q7 e4).1=(v6 (v7 e8)).2.1/\(Q7 e4).2.1=(v6 (v7 e8)).2.2.1/\True/\True/\(([]:List SV)=[]))/\(e4.2.2.1=(v6 (v7 e8)).2.2.2.1/\e4.2.2.1.isEmpty=(List.isEmpty (v6 (v7 e8)).2.2.2.1))/\(e4.2.2.2.1=(Q7 e8).1/\e4.2.2.2.1.isEmpty=(Q7 e8).1.isEmpty)/\True)) /\
    LoopP (λ(d8:(List Nat)) (q8:((List Nat))->Prop) =>
     ((∀ r:Nat,r<e8.2.1.length->r∈d8) ->
      (Q7 (Q7 e8)).2.2.2=w1/\∃ (mg:Unit) (d120:Int×(List (Int×Int))×(List (Int×Int))×Int),((True/\True/\(v7 e8).2.2.2.1=d120.1/\True/\True/\True/\True/\(v7 e8).1=lw/\(lI (v7 e8).1)=(lI lw)/\(0:Int)=d120.2.2.2/\True)/\(((v6 e8).2.2.2.1=hk/\(v7 e8).1=lw/\(([]:List SV)=[]))/\((v6 (v7 e8)).2.1=(fHk hk lw hd rows c)/\(v6 (v7 e8)).2.2.1=(fLw hk lw hd rows c)/\True/\True/\(([]:List SV)=[]))/\((v6 (v7 e8)).2.2.2.1=(fEy hk lw hd rows c)/\(List.isEmpty (v6 (v7 e8)).2.2.2.1)=(List.isEmpty (fEy hk lw hd rows c)))/\((Q7 e8).1=(fWa hk lw hd rows c)/\(Q7 e8).1.isEmpty=(List.isEmpty (fWa hk lw hd rows c)))/\(True/\(([]:List SV)=[]))/\(([]:List (Int×Int))=d120.2.1)/\(True/\(([]:List SV)=[]))/\(([]:List (Int×Int))=d120.2.2.1)/\(True/\(([]:List SV)=[]))/\(([]:List (Int×Bool))=([]:List (Int×Bool)))/\True)) /\
      LoopP (λ(d12:Int×(List (Int×Int))×(List (Int×Int))×Int) (pr:(Int×(List (Int×Int))×(List (Int×Int))×Int)->Prop) =>
       ((decide (d12.2.2.2<(lI lw)))=true ->
        (0<=d12.2.2.2)/\(d12.2.2.2<lw.length)/\(I64 ((gq.aget (.i .i64) d12.2.1 (gD lw d12.2.2.2 0) 0)+(1:Int)))/\(0<=d12.2.2.2/\d12.2.2.2<(fEy hk lw hd rows c).length/\d12.2.2.2<(fWa hk lw hd rows c).length)/\((Qq (fEy hk lw hd rows c) (fWa hk lw hd rows c) d12.2.2.2.toNat)=true ->
         (I64 ((gq.aget (.i .i64) d12.2.2.1 (gD lw d12.2.2.2 0) 0)+(1:Int)))/\(I64 (d12.2.2.2+(1:Int)))/\(∃ d13:Int×(List (Int×Int))×(List (Int×Int))×Int,((True/\True/\d12.1=d13.1/\True/\True/\True/\True/\lw=lw/\(lI lw)=(lI lw)/\(d12.2.2.2+(1:Int))=d13.2.2.2/\True)/\((hk=hk/\lw=lw/\(([]:List SV)=[]))/\((fHk hk lw hd rows c)=(fHk hk lw hd rows c)/\(fLw hk lw hd rows c)=(fLw hk lw hd rows c)/\True/\True/\(([]:List SV)=[]))/\((fEy hk lw hd rows c)=(fEy hk lw hd rows c)/\(List.isEmpty (fEy hk lw hd rows c))=(List.isEmpty (fEy hk lw hd rows c)))/\((fWa hk lw hd rows c)=(fWa hk lw hd rows c)/\(List.isEmpty (fWa hk lw hd rows c))=(List.isEmpty (fWa hk lw hd rows c)))/\(True/\(([]:List SV)=[]))/\((Xb (.i .i64) d12.2.1 (gD lw d12.2.2.2 0) ((gq.aget (.i .i64) d12.2.1 (gD lw d12.2.2.2 0) 0)+(1:Int)))=d13.2.1)/\(True/\(([]:List SV)=[]))/\((Xb (.i .i64) d12.2.2.1 (gD lw d12.2.2.2 0) ((gq.aget (.i .i64) d12.2.2.1 (gD lw d12.2.2.2 0) 0)+(1:Int)))=d13.2.2.1)/\(True/\(([]:List SV)=[]))/\(([]:List (Int×Bool))=([]:List (Int×Bool)))/\True))/\pr d13)) /\
        ((Qq (fEy hk lw hd rows c) (fWa hk lw hd rows c) d12.2.2.2.toNat)=false ->
         (I64 (d12.1+(1:Int)))/\(I64 (d12.2.2.2+(1:Int)))/\(∃ d14:Int×(List (Int×Int))×(List (Int×Int))×Int,((True/\True/\(d12.1+(1:Int))=d14.1/\True/\True/\True/\True/\lw=lw/\(lI lw)=(lI lw)/\(d12.2.2.2+(1:Int))=d14.2.2.2/\True)/\((hk=hk/\lw=lw/\(([]:List SV)=[]))/\((fHk hk lw hd rows c)=(fHk hk lw hd rows c)/\(fLw hk lw hd rows c)=(fLw hk lw hd rows c)/\True/\True/\(([]:List SV)=[]))/\((fEy hk lw hd rows c)=(fEy hk lw hd rows c)/\(List.isEmpty (fEy hk lw hd rows c))=(List.isEmpty (fEy hk lw hd rows c)))/\((fWa hk lw hd rows c)=(fWa hk lw hd rows c)/\(List.isEmpty (fWa hk lw hd rows c))=(List.isEmpty (fWa hk lw hd rows c)))/\(True/\(([]:List SV)=[]))/\((Xb (.i .i64) d12.2.1 (gD lw d12.2.2.2 0) ((gq.aget (.i .i64) d12.2.1 (gD lw d12.2.2.2 0) 0)+(1:Int)))=d14.2.1)/\(True/\(([]:List SV)=[]))/\(d12.2.2.1=d14.2.2.1)/\(True/\(([]:List SV)=[]))/\(([]:List (Int×Bool))=([]:List (Int×Bool)))/\True))/\pr d14))) /\
       ((decide (d12.2.2.2<(lI lw)))=false ->
        ∃ (jC:Int) (d180:(List Int)×(List (Int×Int))×(List (Int×Int))×(List (Int×Bool))×Int),((True/\True/\d12.1=jC/\True/\True/\True/\True/\lw=lw/\(lI lw)=(lI lw)/\(0:Int)=(v6 d180)/\True)/\((hk=hk/\lw=lw/\(([]:List SV)=[]))/\(d180.1=[]/\d180.1.isEmpty=true)/\((fHk hk lw hd rows c)=(fHk hk lw hd rows c)/\(fLw hk lw hd rows c)=(fLw hk lw hd rows c)/\True/\True/\(([]:List SV)=[]))/\((fEy hk lw hd rows c)=(fEy hk lw hd rows c)/\(List.isEmpty (fEy hk lw hd rows c))=(List.isEmpty (fEy hk lw hd rows c)))/\((fWa hk lw hd rows c)=(fWa hk lw hd rows c)/\(List.isEmpty (fWa hk lw hd rows c))=(List.isEmpty (fWa hk lw hd rows c)))/\(True/\(([]:List SV)=[]))/\(d12.2.1=d180.2.1)/\(True/\(([]:List SV)=[]))/\(d12.2.2.1=d180.2.2.1)/\(True/\(([]:List SV)=[]))/\(([]:List (Int×Bool))=d180.2.2.2.1)/\True)) /\
        LoopP (λ(d18:(List Int)×(List (Int×Int))×(List (Int×Int))×(List (Int×Bool))×Int) (mh:((List Int)×(List (Int×Int))×(List (Int×Int))×(List (Int×Bool))×Int)->Prop) =>
         ((decide ((v6 d18)<(lI lw)))=true ->
          (0<=(v6 d18))/\((v6 d18)<lw.length)/\∃ (aq:(List Int)×Int×(List (Int×Int))×(List (Int×Int))×(List (Int×Bool))×Int×Int×Int) (d210:Int),((True/\True/\jC=aq.2.1/\True/\True/\True/\True/\True/\(((([]:List SV)=[]))/\(True/\True/\True/\True/\True/\True/\True/\(([]:List SV)=[])))/\lw=lw/\(lI lw)=(lI lw)/\(v6 d18)=(v6 aq).2.2.2/\lw=lw/\(lI lw)=(lI lw)/\(0:Int)=d210/\True)/\((hk=hk/\lw=lw/\(([]:List SV)=[]))/\(d18.1=aq.1/\d18.1.isEmpty=(List.isEmpty aq.1))/\((fHk hk lw hd rows c)=(fHk hk lw hd rows c)/\(fLw hk lw hd rows c)=(fLw hk lw hd rows c)/\True/\True/\(([]:List SV)=[]))/\((fEy hk lw hd rows c)=(fEy hk lw hd rows c)/\(List.isEmpty (fEy hk lw hd rows c))=(List.isEmpty (fEy hk lw hd rows c)))/\((fWa hk lw hd rows c)=(fWa hk lw hd rows c)/\(List.isEmpty (fWa hk lw hd rows c))=(List.isEmpty (fWa hk lw hd rows c)))/\(True/\(([]:List SV)=[]))/\(d18.2.1=aq.2.2.1)/\(True/\(([]:List SV)=[]))/\(d18.2.2.1=aq.2.2.2.1)/\(True/\(([]:List SV)=[]))/\(d18.2.2.2.1=(v6 aq).1)/\((v6 d18)=(v6 aq).2.1/\(([]:List SV)=[]))/\((gD lw (v6 d18) 0)=(v6 aq).2.2.1/\(([]:List SV)=[]))/\True)) /\
          LoopP (λ(d21:Int) (rj:(Int)->Prop) =>
           ((decide (d21<(lI lw)))=true ->
            (0<=d21)/\(d21<lw.length)/\∀ mP:List Value,(0<=d21)/\(d21<lw.length)/\((gq.aget (.i .i64) (v6 aq).1 d21 false)=true ->
             mP=mP/\((!false)=true ->
              (I64 (d21+(1:Int)))/\(∃ d23:Int,((True/\True/\aq.2.1=aq.2.1/\True/\True/\True/\True/\True/\(((([]:List SV)=[]))/\(True/\True/\True/\True/\True/\True/\True/\(([]:List SV)=[])))/\lw=lw/\(lI lw)=(lI lw)/\(v6 aq).2.2.2=(v6 aq).2.2.2/\lw=lw/\(lI lw)=(lI lw)/\(d21+(1:Int))=d23/\True)/\((hk=hk/\lw=lw/\(([]:List SV)=[]))/\(aq.1=aq.1/\(List.isEmpty aq.1)=(List.isEmpty aq.1))/\((fHk hk lw hd rows c)=(fHk hk lw hd rows c)/\(fLw hk lw hd rows c)=(fLw hk lw hd rows c)/\True/\True/\(([]:List SV)=[]))/\((fEy hk lw hd rows c)=(fEy hk lw hd rows c)/\(List.isEmpty (fEy hk lw hd rows c))=(List.isEmpty (fEy hk lw hd rows c)))/\((fWa hk lw hd rows c)=(fWa hk lw hd rows c)/\(List.isEmpty (fWa hk lw hd rows c))=(List.isEmpty (fWa hk lw hd rows c)))/\(True/\(([]:List SV)=[]))/\(aq.2.2.1=aq.2.2.1)/\(True/\(([]:List SV)=[]))/\(aq.2.2.2.1=aq.2.2.2.1)/\(True/\(([]:List SV)=[]))/\((v6 aq).1=(v6 aq).1)/\((v6 aq).2.1=(v6 aq).2.1/\(([]:List SV)=[]))/\((v6 aq).2.2.1=(v6 aq).2.2.1/\(([]:List SV)=[]))/\True))/\rj d23)) /\
             ((!false)=false ->
              (I64 ((gq.aget (.i .i64) aq.2.2.1 (gD lw d21 0) 0)-(1:Int)))/\(0<=(v6 aq).2.1/\(v6 aq).2.1<(fEy hk lw hd rows c).length/\(v6 aq).2.1<(fWa hk lw hd rows c).length)/\((Qq (fEy hk lw hd rows c) (fWa hk lw hd rows c) (v6 aq).2.1.toNat)=true ->
               (I64 ((gq.aget (.i .i64) aq.2.2.2.1 (gD lw d21 0) 0)-(1:Int)))/\(((List.length aq.1)+(List.length [d21]))*8<=70368744177664)/\(I64 ((v6 aq).2.2.2+(1:Int)))/\(∃ d24:(List Int)×(List (Int×Int))×(List (Int×Int))×(List (Int×Bool))×Int,((True/\True/\aq.2.1=jC/\True/\True/\True/\True/\lw=lw/\(lI lw)=(lI lw)/\((v6 aq).2.2.2+(1:Int))=(v6 d24)/\True)/\((hk=hk/\lw=lw/\(([]:List SV)=[]))/\((aq.1++[d21])=d24.1/\false=d24.1.isEmpty)/\((fHk hk lw hd rows c)=(fHk hk lw hd rows c)/\(fLw hk lw hd rows c)=(fLw hk lw hd rows c)/\True/\True/\(([]:List SV)=[]))/\((fEy hk lw hd rows c)=(fEy hk lw hd rows c)/\(List.isEmpty (fEy hk lw hd rows c))=(List.isEmpty (fEy hk lw hd rows c)))/\((fWa hk lw hd rows c)=(fWa hk lw hd rows c)/\(List.isEmpty (fWa hk lw hd rows c))=(List.isEmpty (fWa hk lw hd rows c)))/\(True/\(([]:List SV)=[]))/\((Xb (.i .i64) aq.2.2.1 (gD lw d21 0) ((gq.aget (.i .i64) aq.2.2.1 (gD lw d21 0) 0)-(1:Int)))=d24.2.1)/\(True/\(([]:List SV)=[]))/\((Xb (.i .i64) aq.2.2.2.1 (gD lw d21 0) ((gq.aget (.i .i64) aq.2.2.2.1 (gD lw d21 0) 0)-(1:Int)))=d24.2.2.1)/\(True/\(([]:List SV)=[]))/\((Xb (.i .i64) (v6 aq).1 d21 true)=d24.2.2.2.1)/\True))/\mh d24)) /\
              ((Qq (fEy hk lw hd rows c) (fWa hk lw hd rows c) (v6 aq).2.1.toNat)=false ->
               (((List.length aq.1)+(List.length [d21]))*8<=70368744177664)/\(I64 ((v6 aq).2.2.2+(1:Int)))/\(∃ d25:(List Int)×(List (Int×Int))×(List (Int×Int))×(List (Int×Bool))×Int,((True/\True/\aq.2.1=jC/\True/\True/\True/\True/\lw=lw/\(lI lw)=(lI lw)/\((v6 aq).2.2.2+(1:Int))=(v6 d25)/\True)/\((hk=hk/\lw=lw/\(([]:List SV)=[]))/\((aq.1++[d21])=d25.1/\false=d25.1.isEmpty)/\((fHk hk lw hd rows c)=(fHk hk lw hd rows c)/\(fLw hk lw hd rows c)=(fLw hk lw hd rows c)/\True/\True/\(([]:List SV)=[]))/\((fEy hk lw hd rows c)=(fEy hk lw hd rows c)/\(List.isEmpty (fEy hk lw hd rows c))=(List.isEmpty (fEy hk lw hd rows c)))/\((fWa hk lw hd rows c)=(fWa hk lw hd rows c)/\(List.isEmpty (fWa hk lw hd rows c))=(List.isEmpty (fWa hk lw hd rows c)))/\(True/\(([]:List SV)=[]))/\((Xb (.i .i64) aq.2.2.1 (gD lw d21 0) ((gq.aget (.i .i64) aq.2.2.1 (gD lw d21 0) 0)-(1:Int)))=d25.2.1)/\(True/\(([]:List SV)=[]))/\(aq.2.2.2.1=d25.2.2.1)/\(True/\(([]:List SV)=[]))/\((Xb (.i .i64) (v6 aq).1 d21 true)=d25.2.2.2.1)/\True))/\mh d25)))) /\
            ((gq.aget (.i .i64) (v6 aq).1 d21 false)=false ->
             (0<=(v6 aq).2.1/\(v6 aq).2.1<(fEy hk lw hd rows c).length/\(v6 aq).2.1<(fWa hk lw hd rows c).length)/\((Qq (fEy hk lw hd rows c) (fWa hk lw hd rows c) (v6 aq).2.1.toNat)=true ->
              mP=mP/\((!((gD lw d21 0)==(v6 aq).2.2.1))=true ->
               (I64 (d21+(1:Int)))/\(∃ d26:Int,((True/\True/\aq.2.1=aq.2.1/\True/\True/\True/\True/\True/\(((([]:List SV)=[]))/\(True/\True/\True/\True/\True/\True/\True/\(([]:List SV)=[])))/\lw=lw/\(lI lw)=(lI lw)/\(v6 aq).2.2.2=(v6 aq).2.2.2/\lw=lw/\(lI lw)=(lI lw)/\(d21+(1:Int))=d26/\True)/\((hk=hk/\lw=lw/\(([]:List SV)=[]))/\(aq.1=aq.1/\(List.isEmpty aq.1)=(List.isEmpty aq.1))/\((fHk hk lw hd rows c)=(fHk hk lw hd rows c)/\(fLw hk lw hd rows c)=(fLw hk lw hd rows c)/\True/\True/\(([]:List SV)=[]))/\((fEy hk lw hd rows c)=(fEy hk lw hd rows c)/\(List.isEmpty (fEy hk lw hd rows c))=(List.isEmpty (fEy hk lw hd rows c)))/\((fWa hk lw hd rows c)=(fWa hk lw hd rows c)/\(List.isEmpty (fWa hk lw hd rows c))=(List.isEmpty (fWa hk lw hd rows c)))/\(True/\(([]:List SV)=[]))/\(aq.2.2.1=aq.2.2.1)/\(True/\(([]:List SV)=[]))/\(aq.2.2.2.1=aq.2.2.2.1)/\(True/\(([]:List SV)=[]))/\((v6 aq).1=(v6 aq).1)/\((v6 aq).2.1=(v6 aq).2.1/\(([]:List SV)=[]))/\((v6 aq).2.2.1=(v6 aq).2.2.1/\(([]:List SV)=[]))/\True))/\rj d26)) /\
              ((!((gD lw d21 0)==(v6 aq).2.2.1))=false ->
               (I64 ((gq.aget (.i .i64) aq.2.2.1 (gD lw d21 0) 0)-(1:Int)))/\(0<=(v6 aq).2.1/\(v6 aq).2.1<(fEy hk lw hd rows c).length/\(v6 aq).2.1<(fWa hk lw hd rows c).length)/\((Qq (fEy hk lw hd rows c) (fWa hk lw hd rows c) (v6 aq).2.1.toNat)=true ->
                (I64 ((gq.aget (.i .i64) aq.2.2.2.1 (gD lw d21 0) 0)-(1:Int)))/\(((List.length aq.1)+(List.length [d21]))*8<=70368744177664)/\(I64 ((v6 aq).2.2.2+(1:Int)))/\(∃ d27:(List Int)×(List (Int×Int))×(List (Int×Int))×(List (Int×Bool))×Int,((True/\True/\aq.2.1=jC/\True/\True/\True/\True/\lw=lw/\(lI lw)=(lI lw)/\((v6 aq).2.2.2+(1:Int))=(v6 d27)/\True)/\((hk=hk/\lw=lw/\(([]:List SV)=[]))/\((aq.1++[d21])=d27.1/\false=d27.1.isEmpty)/\((fHk hk lw hd rows c)=(fHk hk lw hd rows c)/\(fLw hk lw hd rows c)=(fLw hk lw hd rows c)/\True/\True/\(([]:List SV)=[]))/\((fEy hk lw hd rows c)=(fEy hk lw hd rows c)/\(List.isEmpty (fEy hk lw hd rows c))=(List.isEmpty (fEy hk lw hd rows c)))/\((fWa hk lw hd rows c)=(fWa hk lw hd rows c)/\(List.isEmpty (fWa hk lw hd rows c))=(List.isEmpty (fWa hk lw hd rows c)))/\(True/\(([]:List SV)=[]))/\((Xb (.i .i64) aq.2.2.1 (gD lw d21 0) ((gq.aget (.i .i64) aq.2.2.1 (gD lw d21 0) 0)-(1:Int)))=d27.2.1)/\(True/\(([]:List SV)=[]))/\((Xb (.i .i64) aq.2.2.2.1 (gD lw d21 0) ((gq.aget (.i .i64) aq.2.2.2.1 (gD lw d21 0) 0)-(1:Int)))=d27.2.2.1)/\(True/\(([]:List SV)=[]))/\((Xb (.i .i64) (v6 aq).1 d21 true)=d27.2.2.2.1)/\True))/\mh d27)) /\
               ((Qq (fEy hk lw hd rows c) (fWa hk lw hd rows c) (v6 aq).2.1.toNat)=false ->
                (((List.length aq.1)+(List.length [d21]))*8<=70368744177664)/\(I64 ((v6 aq).2.2.2+(1:Int)))/\(∃ d28:(List Int)×(List (Int×Int))×(List (Int×Int))×(List (Int×Bool))×Int,((True/\True/\aq.2.1=jC/\True/\True/\True/\True/\lw=lw/\(lI lw)=(lI lw)/\((v6 aq).2.2.2+(1:Int))=(v6 d28)/\True)/\((hk=hk/\lw=lw/\(([]:List SV)=[]))/\((aq.1++[d21])=d28.1/\false=d28.1.isEmpty)/\((fHk hk lw hd rows c)=(fHk hk lw hd rows c)/\(fLw hk lw hd rows c)=(fLw hk lw hd rows c)/\True/\True/\(([]:List SV)=[]))/\((fEy hk lw hd rows c)=(fEy hk lw hd rows c)/\(List.isEmpty (fEy hk lw hd rows c))=(List.isEmpty (fEy hk lw hd rows c)))/\((fWa hk lw hd rows c)=(fWa hk lw hd rows c)/\(List.isEmpty (fWa hk lw hd rows c))=(List.isEmpty (fWa hk lw hd rows c)))/\(True/\(([]:List SV)=[]))/\((Xb (.i .i64) aq.2.2.1 (gD lw d21 0) ((gq.aget (.i .i64) aq.2.2.1 (gD lw d21 0) 0)-(1:Int)))=d28.2.1)/\(True/\(([]:List SV)=[]))/\(aq.2.2.2.1=d28.2.2.1)/\(True/\(([]:List SV)=[]))/\((Xb (.i .i64) (v6 aq).1 d21 true)=d28.2.2.2.1)/\True))/\mh d28)))) /\
             ((Qq (fEy hk lw hd rows c) (fWa hk lw hd rows c) (v6 aq).2.1.toNat)=false ->
              (0<=d21)/\(d21<(List.length (fEy hk lw hd rows c)))/\(0<=(v6 aq).2.1)/\((v6 aq).2.1<(List.length (fWa hk lw hd rows c)))/\mP=mP/\((!(((gD (fEy hk lw hd rows c) d21 [])==(gD (fWa hk lw hd rows c) (v6 aq).2.1 []))&&(decide ((gq.aget (.i .i64) aq.2.2.1 (gD lw d21 0) 0) > (gq.aget (.i .i64) aq.2.2.2.1 (gD lw d21 0) 0)))))=true ->
               (I64 (d21+(1:Int)))/\(∃ d29:Int,((True/\True/\aq.2.1=aq.2.1/\True/\True/\True/\True/\True/\(((([]:List SV)=[]))/\(True/\True/\True/\True/\True/\True/\True/\(([]:List SV)=[])))/\lw=lw/\(lI lw)=(lI lw)/\(v6 aq).2.2.2=(v6 aq).2.2.2/\lw=lw/\(lI lw)=(lI lw)/\(d21+(1:Int))=d29/\True)/\((hk=hk/\lw=lw/\(([]:List SV)=[]))/\(aq.1=aq.1/\(List.isEmpty aq.1)=(List.isEmpty aq.1))/\((fHk hk lw hd rows c)=(fHk hk lw hd rows c)/\(fLw hk lw hd rows c)=(fLw hk lw hd rows c)/\True/\True/\(([]:List SV)=[]))/\((fEy hk lw hd rows c)=(fEy hk lw hd rows c)/\(List.isEmpty (fEy hk lw hd rows c))=(List.isEmpty (fEy hk lw hd rows c)))/\((fWa hk lw hd rows c)=(fWa hk lw hd rows c)/\(List.isEmpty (fWa hk lw hd rows c))=(List.isEmpty (fWa hk lw hd rows c)))/\(True/\(([]:List SV)=[]))/\(aq.2.2.1=aq.2.2.1)/\(True/\(([]:List SV)=[]))/\(aq.2.2.2.1=aq.2.2.2.1)/\(True/\(([]:List SV)=[]))/\((v6 aq).1=(v6 aq).1)/\((v6 aq).2.1=(v6 aq).2.1/\(([]:List SV)=[]))/\((v6 aq).2.2.1=(v6 aq).2.2.1/\(([]:List SV)=[]))/\True))/\rj d29)) /\
              ((!(((gD (fEy hk lw hd rows c) d21 [])==(gD (fWa hk lw hd rows c) (v6 aq).2.1 []))&&(decide ((gq.aget (.i .i64) aq.2.2.1 (gD lw d21 0) 0) > (gq.aget (.i .i64) aq.2.2.2.1 (gD lw d21 0) 0)))))=false ->
               (I64 ((gq.aget (.i .i64) aq.2.2.1 (gD lw d21 0) 0)-(1:Int)))/\(0<=(v6 aq).2.1/\(v6 aq).2.1<(fEy hk lw hd rows c).length/\(v6 aq).2.1<(fWa hk lw hd rows c).length)/\((Qq (fEy hk lw hd rows c) (fWa hk lw hd rows c) (v6 aq).2.1.toNat)=true ->
                (I64 ((gq.aget (.i .i64) aq.2.2.2.1 (gD lw d21 0) 0)-(1:Int)))/\(((List.length aq.1)+(List.length [d21]))*8<=70368744177664)/\(I64 ((v6 aq).2.2.2+(1:Int)))/\(∃ d30:(List Int)×(List (Int×Int))×(List (Int×Int))×(List (Int×Bool))×Int,((True/\True/\aq.2.1=jC/\True/\True/\True/\True/\lw=lw/\(lI lw)=(lI lw)/\((v6 aq).2.2.2+(1:Int))=(v6 d30)/\True)/\((hk=hk/\lw=lw/\(([]:List SV)=[]))/\((aq.1++[d21])=d30.1/\false=d30.1.isEmpty)/\((fHk hk lw hd rows c)=(fHk hk lw hd rows c)/\(fLw hk lw hd rows c)=(fLw hk lw hd rows c)/\True/\True/\(([]:List SV)=[]))/\((fEy hk lw hd rows c)=(fEy hk lw hd rows c)/\(List.isEmpty (fEy hk lw hd rows c))=(List.isEmpty (fEy hk lw hd rows c)))/\((fWa hk lw hd rows c)=(fWa hk lw hd rows c)/\(List.isEmpty (fWa hk lw hd rows c))=(List.isEmpty (fWa hk lw hd rows c)))/\(True/\(([]:List SV)=[]))/\((Xb (.i .i64) aq.2.2.1 (gD lw d21 0) ((gq.aget (.i .i64) aq.2.2.1 (gD lw d21 0) 0)-(1:Int)))=d30.2.1)/\(True/\(([]:List SV)=[]))/\((Xb (.i .i64) aq.2.2.2.1 (gD lw d21 0) ((gq.aget (.i .i64) aq.2.2.2.1 (gD lw d21 0) 0)-(1:Int)))=d30.2.2.1)/\(True/\(([]:List SV)=[]))/\((Xb (.i .i64) (v6 aq).1 d21 true)=d30.2.2.2.1)/\True))/\mh d30)) /\
               ((Qq (fEy hk lw hd rows c) (fWa hk lw hd rows c) (v6 aq).2.1.toNat)=false ->
                (((List.length aq.1)+(List.length [d21]))*8<=70368744177664)/\(I64 ((v6 aq).2.2.2+(1:Int)))/\(∃ d31:(List Int)×(List (Int×Int))×(List (Int×Int))×(List (Int×Bool))×Int,((True/\True/\aq.2.1=jC/\True/\True/\True/\True/\lw=lw/\(lI lw)=(lI lw)/\((v6 aq).2.2.2+(1:Int))=(v6 d31)/\True)/\((hk=hk/\lw=lw/\(([]:List SV)=[]))/\((aq.1++[d21])=d31.1/\false=d31.1.isEmpty)/\((fHk hk lw hd rows c)=(fHk hk lw hd rows c)/\(fLw hk lw hd rows c)=(fLw hk lw hd rows c)/\True/\True/\(([]:List SV)=[]))/\((fEy hk lw hd rows c)=(fEy hk lw hd rows c)/\(List.isEmpty (fEy hk lw hd rows c))=(List.isEmpty (fEy hk lw hd rows c)))/\((fWa hk lw hd rows c)=(fWa hk lw hd rows c)/\(List.isEmpty (fWa hk lw hd rows c))=(List.isEmpty (fWa hk lw hd rows c)))/\(True/\(([]:List SV)=[]))/\((Xb (.i .i64) aq.2.2.1 (gD lw d21 0) ((gq.aget (.i .i64) aq.2.2.1 (gD lw d21 0) 0)-(1:Int)))=d31.2.1)/\(True/\(([]:List SV)=[]))/\(aq.2.2.2.1=d31.2.2.1)/\(True/\(([]:List SV)=[]))/\((Xb (.i .i64) (v6 aq).1 d21 true)=d31.2.2.2.1)/\True))/\mh d31)))))) /\
           ((decide (d21<(lI lw)))=false ->
            (I64 ((v6 aq).2.2.2+(1:Int)))/\(∃ d32:(List Int)×(List (Int×Int))×(List (Int×Int))×(List (Int×Bool))×Int,((True/\True/\aq.2.1=jC/\True/\True/\True/\True/\lw=lw/\(lI lw)=(lI lw)/\((v6 aq).2.2.2+(1:Int))=(v6 d32)/\True)/\((hk=hk/\lw=lw/\(([]:List SV)=[]))/\(aq.1=d32.1/\(List.isEmpty aq.1)=d32.1.isEmpty)/\((fHk hk lw hd rows c)=(fHk hk lw hd rows c)/\(fLw hk lw hd rows c)=(fLw hk lw hd rows c)/\True/\True/\(([]:List SV)=[]))/\((fEy hk lw hd rows c)=(fEy hk lw hd rows c)/\(List.isEmpty (fEy hk lw hd rows c))=(List.isEmpty (fEy hk lw hd rows c)))/\((fWa hk lw hd rows c)=(fWa hk lw hd rows c)/\(List.isEmpty (fWa hk lw hd rows c))=(List.isEmpty (fWa hk lw hd rows c)))/\(True/\(([]:List SV)=[]))/\(aq.2.2.1=d32.2.1)/\(True/\(([]:List SV)=[]))/\(aq.2.2.2.1=d32.2.2.1)/\(True/\(([]:List SV)=[]))/\((v6 aq).1=d32.2.2.2.1)/\True))/\mh d32))) d210) /\
         ((decide ((v6 d18)<(lI lw)))=false ->
          ((True/\jC=(Rx hk lw hd rows c)/\(0:Int)=(Zl hk lw hd rows c)/\(([]:List SV)=[]))/\((d18.1=(GD hk lw hd rows c)/\d18.1.isEmpty=(GD hk lw hd rows c).isEmpty)/\True)))) d180)) d120) /\
     (∀ r9:Nat,r9<e8.2.1.length->r9∉d8 ->
      ((d8++[r9])≠[])/\(((List.getD e8.2.1 (List.getLastD (d8++[r9]) 0) ([],0)).2 != (0:Int))=true ->
       (Q7 (Q7 e8)).2.2.2=w1/\((True/\(0:Int)=(Rx hk lw hd rows c)/\(9:Int)=(Zl hk lw hd rows c)/\(([]:List SV)=[]))/\(((GD hk lw hd rows c)=[]/\(GD hk lw hd rows c).isEmpty=true)/\True))) /\
      (((List.getD e8.2.1 (List.getLastD (d8++[r9]) 0) ([],0)).2 != (0:Int))=false ->
       (∃ d33:(List Nat),((True/\True/\True)/\((e8.1=e8.1)/\(e8.2.1=e8.2.1/\(d8++[r9])=d33)/\((Q7 (Q7 e8)).2.2.2=(Q7 (Q7 e8)).2.2.2/\((e8.2.2.1=e8.2.2.1/\e8.2.2.2.1=e8.2.2.2.1/\(([]:List SV)=[]))/\((v6 e8).1=(v6 e8).1/\(v6 e8).2.1=(v6 e8).2.1/\(([]:List SV)=[]))/\(v6 e8).2.2.1=(v6 e8).2.2.1/\True/\True/\True/\True/\(v7 e8).2.2.2.1=(v7 e8).2.2.2.1/\(v6 (v7 e8)).1=(v6 (v7 e8)).1/\True/\True/\True/\True/\True/\True/\True/\True/\True/\True/\True/\True/\True/\(((Q7 e8).2.1=(Q7 e8).2.1/\(Q7 e8).2.2.1=(Q7 e8).2.2.1/\True/\True/\(([]:List SV)=[]))/\(Q7 e8).2.2.2.1=(Q7 e8).2.2.2.1/\(([]:List SV)=[]))/\((v6 (Q7 e8)).1=(v6 (Q7 e8)).1/\(v6 (Q7 e8)).2.1=(v6 (Q7 e8)).2.1/\(([]:List SV)=[]))/\((v6 (Q7 e8)).2.2.1=(v6 (Q7 e8)).2.2.1/\(v6 (Q7 e8)).2.2.2.1=(v6 (Q7 e8)).2.2.2.1/\(([]:List SV)=[]))/\(v7 (Q7 e8)).1=(v7 (Q7 e8)).1/\(((v7 (Q7 e8)).2.1=(v7 (Q7 e8)).2.1/\(v7 (Q7 e8)).2.2.1=(v7 (Q7 e8)).2.2.1/\True/\True/\(([]:List SV)=[]))/\(v7 (Q7 e8)).2.2.2.1=(v7 (Q7 e8)).2.2.2.1/\(([]:List SV)=[]))/\((v6 (v7 (Q7 e8))).1=(v6 (v7 (Q7 e8))).1/\(v6 (v7 (Q7 e8))).2.1=(v6 (v7 (Q7 e8))).2.1/\True/\True/\(([]:List SV)=[]))/\(v6 (v7 (Q7 e8))).2.2.1=(v6 (v7 (Q7 e8))).2.2.1/\(v6 (v7 (Q7 e8))).2.2.2.1=(v6 (v7 (Q7 e8))).2.2.2.1/\(Q7 (Q7 e8)).1=(Q7 (Q7 e8)).1/\True/\True/\((Q7 (Q7 e8)).2.1=(Q7 (Q7 e8)).2.1/\(Q7 (Q7 e8)).2.2.1=(Q7 (Q7 e8)).2.2.1/\True/\True/\(([]:List SV)=[]))/\True/\True/\True/\True/\True/\True/\True/\True/\True/\True/\True/\True/\True/\True/\True/\True/\True/\True/\True/\True/\True/\True/\True/\True/\True/\True/\True/\True/\True/\True/\True/\True/\True/\True/\True/\True/\True/\True/\True/\True/\True/\True/\True/\True/\True/\True/\True/\True/\True/\True/\True/\True/\True/\True/\True/\True/\True/\True/\True/\True/\True/\True/\True/\True/\True/\True/\True/\True/\True/\True/\True/\True/\(([]:List SV)=[])))/\((v6 e8).2.2.2.1=(v6 e8).2.2.2.1/\(v7 e8).1=(v7 e8).1/\(([]:List SV)=[]))/\((v7 e8).2.1=(v7 e8).2.1/\(v7 e8).2.2.1=(v7 e8).2.2.1/\(([]:List SV)=[]))/\((v6 (v7 e8)).2.1=(v6 (v7 e8)).2.1/\(v6 (v7 e8)).2.2.1=(v6 (v7 e8)).2.2.1/\True/\True/\(([]:List SV)=[]))/\((v6 (v7 e8)).2.2.2.1=(v6 (v7 e8)).2.2.2.1/\(List.isEmpty (v6 (v7 e8)).2.2.2.1)=(List.isEmpty (v6 (v7 e8)).2.2.2.1))/\((Q7 e8).1=(Q7 e8).1/\(Q7 e8).1.isEmpty=(Q7 e8).1.isEmpty)/\True))/\q8 d33)))) d80)) d40)
def ZR:Cx:=⟨[(1000010,(.pair .st (.i .i64))),(1000011,(.pair .st (.i .i64)))],[],46,[3000040],0,[],[],[],[],false,[],[],[40],[]⟩
def ZS:List (Nat×LoopAnn):=[(0,⟨Int×(List Int)×(List (List UInt8))×(List (List UInt8))×Int×Int×(List Int)×Int×(List Int)×(List (List UInt8))×Int×(List Int)×Int×(List Int)×Int×Int×Int×(List Int)×Int×(List Int)×Int×Int×(List Int)×Int×(List Int)×(List (List UInt8))×Int×(List Int)×Int×Int×(List Int)×Int×Int×Bool×Int×(List Int)×(List Value),(List (List UInt8×Int))×(List (List UInt8×Int))×Int,[1,4,5,13,14,15],λe x=>[.box 3500001 0,.map 3500010,.map 3500011,.lst 26,.val (.i .i64) e.2.2.2.2.1,.val (.i .i64) x.2.2],λe x=>[(3500001,.slot 1,.cells [.val (.i .i64) e.1,.val (.list (.i .i64)) e.2.1,.lst 26,.lst 500026] (some 73)),(26,.cell 3500001 2,.lst 82 .st e.2.2.1 (List.isEmpty e.2.2.1)),(500026,.cell 3500001 3,.lst 82 .st e.2.2.2.1 (List.isEmpty e.2.2.2.1)),(3500010,.slot 4,.map .st (.i .i64) x.1),(3500011,.slot 5,.map .st (.i .i64) x.2.1),(3499999,.key 3499999,.stk [.agg [.val (.i .i64) e.2.2.2.2.2.1,.val (.list (.i .i64)) e.2.2.2.2.2.2.1],.agg [.val (.i .i64) e.2.2.2.2.2.2.2.1,.val (.list (.i .i64)) e.2.2.2.2.2.2.2.2.1],.val (.list .st) e.2.2.2.2.2.2.2.2.2.1,.box 3 0,.box 4 0,.any,.nilS,.val (.i .i64) e.2.2.2.2.2.2.2.2.2.2.2.2.2.2.1,.val (.i .i64) e.2.2.2.2.2.2.2.2.2.2.2.2.2.2.2.1,.box 9 0,.any,.any,.any,.any,.any,.any,.any,.any,.any,.any,.any,.any,.tup [.agg [.val (.i .i64) e.2.2.2.2.2.2.2.2.2.2.2.2.2.2.2.2.2.2.1,.val (.list (.i .i64)) e.2.2.2.2.2.2.2.2.2.2.2.2.2.2.2.2.2.2.2.1,.lst 26,.lst 500026],.val (.i .i64) e.2.2.2.2.2.2.2.2.2.2.2.2.2.2.2.2.2.2.2.2.1],.agg [.val (.i .i64) e.2.2.2.2.2.2.2.2.2.2.2.2.2.2.2.2.2.2.2.2.2.1,.val (.list (.i .i64)) e.2.2.2.2.2.2.2.2.2.2.2.2.2.2.2.2.2.2.2.2.2.2.1],.agg [.val (.i .i64) e.2.2.2.2.2.2.2.2.2.2.2.2.2.2.2.2.2.2.2.2.2.2.2.1,.val (.list (.i .i64)) e.2.2.2.2.2.2.2.2.2.2.2.2.2.2.2.2.2.2.2.2.2.2.2.2.1],.val (.list .st) e.2.2.2.2.2.2.2.2.2.2.2.2.2.2.2.2.2.2.2.2.2.2.2.2.2.1,.tup [.agg [.val (.i .i64) e.2.2.2.2.2.2.2.2.2.2.2.2.2.2.2.2.2.2.2.2.2.2.2.2.2.2.1,.val (.list (.i .i64)) e.2.2.2.2.2.2.2.2.2.2.2.2.2.2.2.2.2.2.2.2.2.2.2.2.2.2.2.1,.lst 26,.lst 500026],.val (.i .i64) e.2.2.2.2.2.2.2.2.2.2.2.2.2.2.2.2.2.2.2.2.2.2.2.2.2.2.2.2.1],.agg [.val (.i .i64) e.2.2.2.2.2.2.2.2.2.2.2.2.2.2.2.2.2.2.2.2.2.2.2.2.2.2.2.2.2.1,.val (.list (.i .i64)) e.2.2.2.2.2.2.2.2.2.2.2.2.2.2.2.2.2.2.2.2.2.2.2.2.2.2.2.2.2.2.1,.lst 26,.lst 500026],.val (.i .i64) e.2.2.2.2.2.2.2.2.2.2.2.2.2.2.2.2.2.2.2.2.2.2.2.2.2.2.2.2.2.2.2.1,.val (.i .i64) e.2.2.2.2.2.2.2.2.2.2.2.2.2.2.2.2.2.2.2.2.2.2.2.2.2.2.2.2.2.2.2.2.1,.val .bo e.2.2.2.2.2.2.2.2.2.2.2.2.2.2.2.2.2.2.2.2.2.2.2.2.2.2.2.2.2.2.2.2.2.1,.any,.any,.agg [.val (.i .i64) e.2.2.2.2.2.2.2.2.2.2.2.2.2.2.2.2.2.2.2.2.2.2.2.2.2.2.2.2.2.2.2.2.2.2.1,.val (.list (.i .i64)) e.2.2.2.2.2.2.2.2.2.2.2.2.2.2.2.2.2.2.2.2.2.2.2.2.2.2.2.2.2.2.2.2.2.2.2.1,.lst 26,.lst 500026],.any,.any,.any,.any,.any,.any,.any,.any,.any,.any,.any,.any,.any,.any,.any,.any,.any,.any,.any,.any,.any,.any,.any,.any,.any,.any,.any,.any,.any,.any,.any,.any,.any,.any,.any,.any,.any,.any,.any,.any,.any,.any,.any,.any,.any,.any,.any,.any,.any,.any,.any,.any,.any,.any,.any,.any,.any,.any,.any,.any,.any,.any,.any,.any,.any,.any,.any,.any,.any,.any,.any,.any] e.2.2.2.2.2.2.2.2.2.2.2.2.2.2.2.2.2.2.2.2.2.2.2.2.2.2.2.2.2.2.2.2.2.2.2.2),(3,.key 3,.cells [.val (.i .i64) e.2.2.2.2.2.2.2.2.2.2.1,.val (.list (.i .i64)) e.2.2.2.2.2.2.2.2.2.2.2.1] (some 24)),(4,.key 4,.cells [.val (.i .i64) e.2.2.2.2.2.2.2.2.2.2.2.2.1,.val (.list (.i .i64)) e.2.2.2.2.2.2.2.2.2.2.2.2.2.1] (some 26)),(9,.key 9,.cells [.val (.i .i64) e.2.2.2.2.2.2.2.2.2.2.2.2.2.2.2.2.1,.val (.list (.i .i64)) e.2.2.2.2.2.2.2.2.2.2.2.2.2.2.2.2.2.1,.lst 26,.lst 500026] (some 73))]⟩),
 (2,⟨(List (List UInt8×Int))×(List (List UInt8×Int))×Int×(List Int)×Int×(List Int)×(List (List UInt8))×Int×(List Int)×Int×(List Int)×Int×Int×Int×(List Int)×(List (List UInt8))×(List (List UInt8))×Int×(List Int)×Int×Int×(List Int)×Int×(List Int)×(List (List UInt8))×Int×(List Int)×Int×Int×(List Int)×Int×Int×Bool×Int×(List Int)×(List Value),(List Nat),[4,38],λe x=>[.map 3500010,.box 3500038 0],λe x=>[(3500010,.slot 4,.map .st (.i .i64) e.1),(3500038,.slot 38,.iter .st (.i .i64) e.2.1 x),(3499999,.key 3499999,.stk [.agg [.val (.i .i64) e.2.2.1,.val (.list (.i .i64)) e.2.2.2.1],.agg [.val (.i .i64) e.2.2.2.2.1,.val (.list (.i .i64)) e.2.2.2.2.2.1],.val (.list .st) e.2.2.2.2.2.2.1,.box 3 0,.box 4 0,.any,.nilS,.val (.i .i64) e.2.2.2.2.2.2.2.2.2.2.2.1,.val (.i .i64) e.2.2.2.2.2.2.2.2.2.2.2.2.1,.box 9 0,.any,.any,.any,.any,.any,.any,.any,.any,.any,.any,.any,.any,.tup [.agg [.val (.i .i64) e.2.2.2.2.2.2.2.2.2.2.2.2.2.2.2.2.2.1,.val (.list (.i .i64)) e.2.2.2.2.2.2.2.2.2.2.2.2.2.2.2.2.2.2.1,.lst 26,.lst 500026],.val (.i .i64) e.2.2.2.2.2.2.2.2.2.2.2.2.2.2.2.2.2.2.2.1],.agg [.val (.i .i64) e.2.2.2.2.2.2.2.2.2.2.2.2.2.2.2.2.2.2.2.2.1,.val (.list (.i .i64)) e.2.2.2.2.2.2.2.2.2.2.2.2.2.2.2.2.2.2.2.2.2.1],.agg [.val (.i .i64) e.2.2.2.2.2.2.2.2.2.2.2.2.2.2.2.2.2.2.2.2.2.2.1,.val (.list (.i .i64)) e.2.2.2.2.2.2.2.2.2.2.2.2.2.2.2.2.2.2.2.2.2.2.2.1],.val (.list .st) e.2.2.2.2.2.2.2.2.2.2.2.2.2.2.2.2.2.2.2.2.2.2.2.2.1,.tup [.agg [.val (.i .i64) e.2.2.2.2.2.2.2.2.2.2.2.2.2.2.2.2.2.2.2.2.2.2.2.2.2.1,.val (.list (.i .i64)) e.2.2.2.2.2.2.2.2.2.2.2.2.2.2.2.2.2.2.2.2.2.2.2.2.2.2.1,.lst 26,.lst 500026],.val (.i .i64) e.2.2.2.2.2.2.2.2.2.2.2.2.2.2.2.2.2.2.2.2.2.2.2.2.2.2.2.1],.agg [.val (.i .i64) e.2.2.2.2.2.2.2.2.2.2.2.2.2.2.2.2.2.2.2.2.2.2.2.2.2.2.2.2.1,.val (.list (.i .i64)) e.2.2.2.2.2.2.2.2.2.2.2.2.2.2.2.2.2.2.2.2.2.2.2.2.2.2.2.2.2.1,.lst 26,.lst 500026],.val (.i .i64) e.2.2.2.2.2.2.2.2.2.2.2.2.2.2.2.2.2.2.2.2.2.2.2.2.2.2.2.2.2.2.1,.val (.i .i64) e.2.2.2.2.2.2.2.2.2.2.2.2.2.2.2.2.2.2.2.2.2.2.2.2.2.2.2.2.2.2.2.1,.val .bo e.2.2.2.2.2.2.2.2.2.2.2.2.2.2.2.2.2.2.2.2.2.2.2.2.2.2.2.2.2.2.2.2.1,.any,.any,.agg [.val (.i .i64) e.2.2.2.2.2.2.2.2.2.2.2.2.2.2.2.2.2.2.2.2.2.2.2.2.2.2.2.2.2.2.2.2.2.1,.val (.list (.i .i64)) e.2.2.2.2.2.2.2.2.2.2.2.2.2.2.2.2.2.2.2.2.2.2.2.2.2.2.2.2.2.2.2.2.2.2.1,.lst 26,.lst 500026],.any,.any,.any,.any,.any,.any,.any,.any,.any,.any,.any,.any,.any,.any,.any,.any,.any,.any,.any,.any,.any,.any,.any,.any,.any,.any,.any,.any,.any,.any,.any,.any,.any,.any,.any,.any,.any,.any,.any,.any,.any,.any,.any,.any,.any,.any,.any,.any,.any,.any,.any,.any,.any,.any,.any,.any,.any,.any,.any,.any,.any,.any,.any,.any,.any,.any,.any,.any,.any,.any,.any,.any] e.2.2.2.2.2.2.2.2.2.2.2.2.2.2.2.2.2.2.2.2.2.2.2.2.2.2.2.2.2.2.2.2.2.2.2),(3,.key 3,.cells [.val (.i .i64) e.2.2.2.2.2.2.2.1,.val (.list (.i .i64)) e.2.2.2.2.2.2.2.2.1] (some 24)),(4,.key 4,.cells [.val (.i .i64) e.2.2.2.2.2.2.2.2.2.1,.val (.list (.i .i64)) e.2.2.2.2.2.2.2.2.2.2.1] (some 26)),(9,.key 9,.cells [.val (.i .i64) e.2.2.2.2.2.2.2.2.2.2.2.2.2.1,.val (.list (.i .i64)) e.2.2.2.2.2.2.2.2.2.2.2.2.2.2.1,.lst 26,.lst 500026] (some 73)),(26,.cell 9 2,.lst 82 .st e.2.2.2.2.2.2.2.2.2.2.2.2.2.2.2.1 (List.isEmpty e.2.2.2.2.2.2.2.2.2.2.2.2.2.2.2.1)),(500026,.cell 9 3,.lst 82 .st e.2.2.2.2.2.2.2.2.2.2.2.2.2.2.2.2.1 (List.isEmpty e.2.2.2.2.2.2.2.2.2.2.2.2.2.2.2.2.1))]⟩)]
def Xl:Cx:=⟨[],[(33,Zu)],45,[],0,[],[],[],[],false,[],[],[],[]⟩
def Xf:List (Nat×LoopAnn):=[]
def BW:Cx:=⟨[(3,(.i .i64)),(1000039,(.pair (.i .i64) (.i .i64))),(1000040,(.pair (.i .i64) (.i .i64))),(1000041,(.pair (.i .i64) .bo))],[(33,Zu)],106,[3000038],0,[(31,J_),(32,Q13 ZR (λ_=>ZS) c32 [.tmp 2,.tmp 3] 46),(34,Q13 Xl (λ_=>Xf) c34 [.tmp 9] 45)],[],[],[],false,[],[],[38],[]⟩
def LX (hk:Int) (lw:List Int) (hd:Int) (rows:List Int) (c:List (List UInt8)):List (Nat×LoopAnn):=[(0,⟨Unit,Int×(List (Int×Int))×(List (Int×Int))×Int,[3,6,7,9,12,13,14,43,44,45],λe x=>[.box 3 0,.nilS,.val (.i .i64) x.1,.box 9 0,.box 12 0,.box 13 0,.box 14 0,.val (.list (.i .i64)) lw,.val (.i .i64) ((lw.length:Nat):Int),.val (.i .i64) x.2.2.2],λe x=>[(3,.slot 3,.cells [.val (.i .i64) hk,.val (.list (.i .i64)) lw] (some 24)),(9,.slot 9,.cells [.val (.i .i64) (fHk hk lw hd rows c),.val (.list (.i .i64)) (fLw hk lw hd rows c),.lst 26,.lst 500026] (some 73)),(26,.cell 9 2,.lst 82 .st (fEy hk lw hd rows c) (List.isEmpty (fEy hk lw hd rows c))),(500026,.cell 9 3,.lst 82 .st (fWa hk lw hd rows c) (List.isEmpty (fWa hk lw hd rows c))),(12,.slot 12,.cells [.map 39] (some 79)),(39,.cell 12 0,.map (.i .i64) (.i .i64) x.2.1),(13,.slot 13,.cells [.map 40] (some 79)),(40,.cell 13 0,.map (.i .i64) (.i .i64) x.2.2.1),(14,.slot 14,.cells [.map 41] (some 80)),(41,.cell 14 0,.map (.i .i64) .bo ([]:List (Int×Bool)))]⟩),
 (2,⟨Int,(List Int)×(List (Int×Int))×(List (Int×Int))×(List (Int×Bool))×Int,[3,6,7,9,12,13,14,65,66,67],λe x=>[.box 3 0,.lst 101,.val (.i .i64) e,.box 9 0,.box 12 0,.box 13 0,.box 14 0,.val (.list (.i .i64)) lw,.val (.i .i64) ((lw.length:Nat):Int),.val (.i .i64) x.2.2.2.2],λe x=>[(3,.slot 3,.cells [.val (.i .i64) hk,.val (.list (.i .i64)) lw] (some 24)),(101,.slot 6,.lst 3 (.i .i64) x.1 (List.isEmpty x.1)),(9,.slot 9,.cells [.val (.i .i64) (fHk hk lw hd rows c),.val (.list (.i .i64)) (fLw hk lw hd rows c),.lst 26,.lst 500026] (some 73)),(26,.cell 9 2,.lst 82 .st (fEy hk lw hd rows c) (List.isEmpty (fEy hk lw hd rows c))),(500026,.cell 9 3,.lst 82 .st (fWa hk lw hd rows c) (List.isEmpty (fWa hk lw hd rows c))),(12,.slot 12,.cells [.map 39] (some 79)),(39,.cell 12 0,.map (.i .i64) (.i .i64) x.2.1),(13,.slot 13,.cells [.map 40] (some 79)),(40,.cell 13 0,.map (.i .i64) (.i .i64) x.2.2.1),(14,.slot 14,.cells [.map 41] (some 80)),(41,.cell 14 0,.map (.i .i64) .bo x.2.2.2.1)]⟩),
 (4,⟨(List Int)×Int×(List (Int×Int))×(List (Int×Int))×(List (Int×Bool))×Int×Int×Int,Int,[3,6,7,9,12,13,14,17,19,65,66,67,74,75,76],λe x=>[.box 3 0,.lst 101,.val (.i .i64) e.2.1,.box 9 0,.box 12 0,.box 13 0,.box 14 0,.box 17 0,.fn 34 [] [.box 3 0,.box 14 0,.box 9 0,.box 17 0,.box 18 0,.box 12 0,.box 13 0],.val (.list (.i .i64)) lw,.val (.i .i64) ((lw.length:Nat):Int),.val (.i .i64) e.2.2.2.2.2.2.2,.val (.list (.i .i64)) lw,.val (.i .i64) ((lw.length:Nat):Int),.val (.i .i64) x],λe x=>[(3,.slot 3,.cells [.val (.i .i64) hk,.val (.list (.i .i64)) lw] (some 24)),(101,.slot 6,.lst 3 (.i .i64) e.1 (List.isEmpty e.1)),(9,.slot 9,.cells [.val (.i .i64) (fHk hk lw hd rows c),.val (.list (.i .i64)) (fLw hk lw hd rows c),.lst 26,.lst 500026] (some 73)),(26,.cell 9 2,.lst 82 .st (fEy hk lw hd rows c) (List.isEmpty (fEy hk lw hd rows c))),(500026,.cell 9 3,.lst 82 .st (fWa hk lw hd rows c) (List.isEmpty (fWa hk lw hd rows c))),(12,.slot 12,.cells [.map 39] (some 79)),(39,.cell 12 0,.map (.i .i64) (.i .i64) e.2.2.1),(13,.slot 13,.cells [.map 40] (some 79)),(40,.cell 13 0,.map (.i .i64) (.i .i64) e.2.2.2.1),(14,.slot 14,.cells [.map 41] (some 80)),(41,.cell 14 0,.map (.i .i64) .bo e.2.2.2.2.1),(17,.slot 17,.cells [.val (.i .i64) e.2.2.2.2.2.1] (some 3)),(18,.key 18,.cells [.val (.i .i64) e.2.2.2.2.2.2.1] (some 3))]⟩)]
theorem LR (d:(Int×List Int)×(Int×List Int)×List (List UInt8)):gwp (BW) (LX d.1.1 d.1.2 d.2.1.1 d.2.1.2 d.2.2) c10 0 (WC [.tmp 6,.tmp 7,.tmp 8] (Gx d) (G0 d)) (Qr 106 (AL.can Dz d))=K9 d.1.1 d.1.2 d.2.1.1 d.2.1.2 d.2.2:=by kernel_rfl
abbrev C5:Prop:=OkC Tryz.prog 10 Mm
theorem Lz (h:∀ (hk:Int) (lw:List Int) (hd:Int) (rows:List Int) (c:List (List UInt8)),(lw.length<=110/\rows.length<=110/\c.length<=110)->K9 hk lw hd rows c):OkC Tryz.prog 10 Mm :=
 QD Q3n mixed (C:=BW) (V:=λ(d:(Int×List Int)×(Int×List Int)×List (List UInt8))=>K9 d.1.1 d.1.2 d.2.1.1 d.2.1.2 d.2.2) ⟨(.cons XO .nil),(XsOk.cons YO (XsOk.cons (MD Q0r mixed (C:=ZR) ⟨.nil,XsOk.nil,ItsOk.nil,YlOk.nil,IysOk.nil,XfOk.nil⟩ (λ_=>ZS)) (XsOk.cons (MD Q4i mixed (C:=Xl) ⟨(.cons XO .nil),XsOk.nil,ItsOk.nil,YlOk.nil,IysOk.nil,XfOk.nil⟩ (λ_=>Xf)) XsOk.nil))),ItsOk.nil,YlOk.nil,IysOk.nil,XfOk.nil⟩ (LR) λd hp=>h d.1.1 d.1.2 d.2.1.1 d.2.1.2 d.2.2 hp
theorem EE {hk:Int}{lw:List Int}{hd:Int}{rows:List Int}{c:List (List UInt8)}(h:¬ Zl hk lw hd rows c=0):Rx hk lw hd rows c=0/\GD hk lw hd rows c=[]:=by rw[Rx,GD,z7 h,z7 h];exact⟨rfl,rfl⟩
theorem Pk:∀ {l m:List Nat},l.Nodup->(∀ x∈l,x∈m)->l.length<=m.length
 |[],_,_,_=>Nat.zero_le _
 |x::l,m,hn,hs=>by have hn:=zO.1 hn;have hx:=hs x (zl ..);have:=Pk (l:=l) (m:=m.erase x) hn.2 λy hy=>(List.mem_erase_of_ne (by rintro rfl;exact hn.1 hy)).2 (hs y (zA _ hy));rw[List.length_erase_of_mem hx] at this;have:0<m.length:=List.length_pos_of_mem hx;simp only[xj];omega
theorem TH {α:Type}{M:List α}{cM:List Nat}(i1:cM.Nodup) (i2:∀ r∈cM,r<M.length) {r:Nat}(hr:r<M.length) (jc:r∉cM):(cM++[r]).Nodup/\(∀ x∈cM++[r],x<M.length)/\(cM++[r]).getLastD 0=r/\cM.length+1<=M.length:=by
 have eS:(cM++[r]).Nodup:=List.nodup_append.2 ⟨i1,by simp,λa ha b hb e=>by rw[zK.1 hb] at e;rw[e] at ha;exact jc ha⟩;have aW:∀ x∈cM++[r],x<M.length:=λx hx=>by
  rcases zR.1 hx with hx|hx
  .exact i2 x hx
  .rw[zK.1 hx];exact hr
 refine⟨eS,aW,by simp,?_⟩;have:=Pk (m:=List.range M.length) eS λr hr=>zL.2 (aW r hr)
 rwa [List.length_range,zo,zw] at this
theorem O_ {M:SMp}{cM:List Nat}(hz:∀ r∈cM,(M.getD r ([],0)).2=0) (hall:∀ r,r<M.length->r∈cM):okL M=true:=by rw[okL,zf];intro e he;obtain⟨r,hr,rfl⟩:=List.getElem_of_mem he;have:=hz r (hall r hr);rw[Qd hr] at this;rw[this];rfl
theorem F3 {M:SMp}{r:Nat}(hr:r<M.length) (h:(M.getD r ([],0)).2≠0):okL M=false:=by rw[Qd hr] at h;rw[okL,List.all_eq_false];exact⟨M[r],zq hr,by simpa using h⟩
theorem LM:C5:=Lz λhk lw hd rows c h=>by
 obtain⟨h1,h2,h3⟩:=h;unfold K9;(try delta lI gD sT I64 Q7 v7 v6);refine⟨⟨h1,h2,h3⟩,λe=>?_,λe=>?_⟩
 .have hz:¬ Qj hk lw hd rows c=0:=by simpa using e
  have he:Zl hk lw hd rows c=Qj hk lw hd rows c:=by rw[Zl,z6 hz]
  obtain⟨f1,f2⟩:=EE (h:=show ¬ Zl hk lw hd rows c=0 by rw[he];exact hz);rw[f1,f2,he];and_intros<;>first|rfl|trivial
 have he:Qj hk lw hd rows c=0:=by simpa using e
 have q1:fHk hk lw hd rows c=hk:=z6 he;have q2:fLw hk lw hd rows c=lw:=z6 he;have q3:fEy hk lw hd rows c=eyF lw rows:=z6 he;have q4:fWa hk lw hd rows c=waF lw c:=z6 he;have hE:Zl hk lw hd rows c=if okL (lfM (eyF lw rows) (waF lw c) lw.length)=true then 0 else 9:=by rw[Zl,z7 (by simpa using he)];rfl
 have hN:Zl hk lw hd rows c=0->Rx hk lw hd rows c=wrF (eyF lw rows) (waF lw c) lw.length:=λe=>z6 e;have hW:Zl hk lw hd rows c=0->GD hk lw hd rows c=(XH lw (eyF lw rows) (waF lw c) lw.length).1:=λe=>z6 e;have l1:=Fe lw rows;have l2:=EO lw c;rw[q1,q2,q3,q4];generalize eyF lw rows=ey at *
 generalize waF lw c=wa at *
 simp only[Zd,zg,zn];intro w1;refine⟨(hk,lw,ey,wa,((ey.length:Nat):Int),hk,lw,hd,rows,c,_,_,_,_,_,_,_,_,_,_,_,_,_,_,_,_,_,_,_,_,_,_,_,_,_,_,w1),([],[],0),(by and_intros<;>first|rfl|trivial|simp),?_⟩;refine⟨λd=>∃ i:Nat,i<=lw.length/\d=(eyM ey i,lfM ey wa i,(i:Int)),λd=>lw.length-d.2.2.toNat,⟨0,Nat.zero_le _,rfl⟩,?_⟩;rintro _ ⟨i,hi,rfl⟩;dsimp only;simp only[zp];refine⟨λai=>?_,λbu=>?_⟩
 .have hA:=Ml ey (ey.getD i []) i;have hB:=UX ey wa i (ey.getD i []);have hC:=Lx ey wa (wa.getD i []) i (UX ey wa i (wa.getD i []));rw[Q0e] at hC;have b1:=Qy (λj=>ey.getD i []==ey.getD j []) i;have b2:=JZ (λj=>ey.getD i []==ey.getD j []) i;have b3:=Qy (λj=>ey.getD i []==wa.getD j []) i;have b4:=JZ (λj=>ey.getD i []==wa.getD j []) i;have b5:=Qy (λj=>wa.getD i []==ey.getD j []) (i+1);have b6:=JZ (λj=>wa.getD i []==ey.getD j []) (i+1);have b7:=Qy (λj=>wa.getD i []==wa.getD j []) i;have b8:=JZ (λj=>wa.getD i []==wa.getD j []) i;exact⟨by omega,by omega,by omega,by omega,by omega,by omega,by omega,by omega,(eyM ey (i+1),lfM ey wa (i+1),(i:Int)+1),(by and_intros<;>first|rfl|trivial|simp),⟨i+1,by omega,rfl⟩,by dsimp only;omega⟩
 have:i=lw.length:=by omega
 subst this;generalize lfM ey wa lw.length=M at *
 refine⟨(eyM ey lw.length,M,_,_,_,_,_,_,_,_,_,_,_,_,_,ey,wa,_,_,_,_,_,_,_,_,_,_,_,_,_,_,_,_,_,_,_),[],(by and_intros<;>first|rfl|trivial|simp),?_⟩;refine⟨λd=>d.Nodup/\(∀ r∈d,r<M.length)/\∀ r∈d,(M.getD r ([],0)).2=0,λd=>M.length-d.length,⟨List.nodup_nil,(λr hr=>by cases hr),(λr hr=>by cases hr)⟩,?_⟩;rintro cM ⟨i1,i2,i3⟩;dsimp only;refine⟨λhall=>?_,λr hr jc=>?_⟩
 .have al:=O_ i3 hall;rw[al,z6 rfl] at hE;have hN:=hN hE;have hW:=hW hE;refine⟨rfl,(),(0,[],[],0),(by and_intros<;>first|rfl|trivial|simp),?_⟩;refine⟨λd=>∃ i:Nat,i<=lw.length/\d=(wrF ey wa i,NA lw i,Lm lw ey wa i,(i:Int)),λd=>lw.length-d.2.2.2.toNat,⟨0,Nat.zero_le _,rfl⟩,?_⟩;rintro _ ⟨i,hi,rfl⟩;dsimp only;simp only[zp];refine⟨λai=>?_,λbu=>?_⟩
  .have hA:=Vj lw (lw.getD i 0) i;have hB:=VM lw ey wa (lw.getD i 0) i;have hC:=Rq ey wa i;have b1:=Qy (λj=>lw.getD i 0==lw.getD j 0) i;have b2:=JZ (λj=>lw.getD i 0==lw.getD j 0) i;have b3:=Qy (λj=>Qq ey wa j&&lw.getD i 0==lw.getD j 0) i;have b4:=JZ (λj=>Qq ey wa j&&lw.getD i 0==lw.getD j 0) i;have b5:=Qy (λj=>!Qq ey wa j) i;have b6:=JZ (λj=>!Qq ey wa j) i;refine⟨by omega,by omega,by omega,⟨by omega,by omega,by omega⟩,λhr=>⟨by omega,by omega,(wrF ey wa i,Q1g (NA lw i) (lw.getD i 0),Q1g (Lm lw ey wa i) (lw.getD i 0),(i:Int)+1),(by and_intros<;>first|rfl|trivial|simp),⟨i+1,by omega,?_⟩,by dsimp only;omega⟩,λhr=>⟨by omega,by omega,(wrF ey wa i+1,Q1g (NA lw i) (lw.getD i 0),Lm lw ey wa i,(i:Int)+1),(by and_intros<;>first|rfl|trivial|simp),⟨i+1,by omega,?_⟩,by dsimp only;omega⟩⟩
   .rw[wrF,NA,Lm,z6 hr,z6 hr];rfl
   .rw[wrF,NA,Lm,z7 (by rw[hr];decide),z7 (by rw[hr];decide)];rfl
  have:i=lw.length:=by omega
  subst this;refine⟨wrF ey wa lw.length,([],NA lw lw.length,Lm lw ey wa lw.length,[],0),(by and_intros<;>first|rfl|trivial|simp),?_⟩;refine⟨λd=>∃ k:Nat,k<=lw.length/\d=((XH lw ey wa k).1,(XH lw ey wa k).2.1,(XH lw ey wa k).2.2.1,(XH lw ey wa k).2.2.2,(k:Int)),λd=>lw.length-d.2.2.2.2.toNat,⟨0,Nat.zero_le _,rfl⟩,?_⟩;rintro _ ⟨k,mS,rfl⟩;dsimp only;simp only[zp];refine⟨λai=>?_,λbu=>?_⟩
  .have mH:=Ch lw ey wa k;have kP:=λe=>@F6 lw ey wa k e;have gC:=@I9 lw ey wa k;generalize XH lw ey wa k=S at *
   have dH:∀ j,Rz lw ey wa k S j=(!(gq.aget (.i .i64) S.2.2.2 (j:Int) false)&&(if Qq ey wa k=true then lw.getD j 0==lw.getD k 0 else (ey.getD j []==wa.getD k []&&decide (gq.aget (.i .i64) S.2.1 (lw.getD j 0) 0 > gq.aget (.i .i64) S.2.2.1 (lw.getD j 0) 0)))):=λ_=>rfl;refine⟨by omega,by omega,(S.1,wrF ey wa lw.length,S.2.1,S.2.2.1,S.2.2.2,(k:Int),lw.getD k 0,(k:Int)),0,(by and_intros<;>first|rfl|trivial|simp),?_⟩;refine⟨λd=>∃ j:Nat,j<=lw.length/\d=(j:Int)/\∀ i,i<j->Rz lw ey wa k S i=false,λd=>lw.length-d.toNat,⟨0,Nat.zero_le _,rfl,λi hi=>by omega⟩,?_⟩;rintro _ ⟨j,hj,rfl,hn⟩;dsimp only;simp only[zp];refine⟨λcr=>?_,λbu=>?_⟩
   .have hj:j<lw.length:=by omega
    have hb:=mH.2 (lw.getD j 0);have bI:=mH.1;have oC:=dH j;have next:Rz lw ey wa k S j=false->∃ j':Nat,j'<=lw.length/\(j:Int)+1=(j':Int)/\∀ i,i<j'->Rz lw ey wa k S i=false:=λhf=>⟨j+1,by omega,by omega,λi hi=>by
     rcases zr i j with h|h
     .exact hn i h
     .rw[show i=j by omega];exact hf⟩
    have len:(S.1.length+[(j:Int)].length)*8<=70368744177664:=by rw[zw];omega
    have ne:∀ l:List Int,false=(l++[(j:Int)]).isEmpty:=λl=>by cases l<;>rfl
    simp only[true_and,and_true,xK,forall_const,Bool.true_eq_false,false_implies];refine⟨by omega,by omega,by omega,by omega,λhu=>⟨by omega,(j:Int)+1,rfl,next (by rw[oC,hu];rfl),by omega⟩,λhu=>⟨⟨by omega,by omega,by omega⟩,λhr=>⟨λhw=>⟨by omega,(j:Int)+1,rfl,next ?_,by omega⟩,λhw=>⟨by omega,⟨by omega,by omega,by omega⟩,λ_=>⟨by omega,len,by omega,(S.1++[(j:Int)],I6 S.2.1 (lw.getD j 0),I6 S.2.2.1 (lw.getD j 0),Xb (.i .i64) S.2.2.2 (j:Int) true,(k:Int)+1),?_,⟨k+1,by omega,?_⟩,by dsimp only;omega⟩,λhf=>by rw[hr] at hf;cases hf⟩⟩,λhr=>⟨by omega,by omega,by omega,by omega,λhw=>⟨by omega,(j:Int)+1,rfl,next ?_,by omega⟩,λhw=>⟨by omega,⟨by omega,by omega,by omega⟩,(λhf=>by rw[hr] at hf;cases hf),λ_=>⟨len,by omega,(S.1++[(j:Int)],I6 S.2.1 (lw.getD j 0),S.2.2.1,Xb (.i .i64) S.2.2.2 (j:Int) true,(k:Int)+1),?_,⟨k+1,by omega,?_⟩,by dsimp only;omega⟩⟩⟩⟩⟩
    .rw[oC,hu,z6 hr,xK,Bool.true_and];simpa using hw
    .and_intros<;>first|rfl|trivial|exact ne _
    .rw[kP j hj (by rw[oC,hu,z6 hr,xK,Bool.true_and];simpa using hw) hn];simp only[Oe,z6 hr];rfl
    .rw[oC,hu,z7 (by rw[hr];decide),xK,Bool.true_and];exact Bool.not_eq_true'  _ |>.mp hw
    .and_intros<;>first|rfl|trivial|exact ne _
    .rw[kP j hj (by rw[oC,hu,z7 (by rw[hr];decide),xK,Bool.true_and];simpa using hw) hn];simp only[Oe];rw[z7 (by rw[hr];decide)];rfl
   .have:j=lw.length:=by omega
    subst this;have mK:=gC hn;exact⟨by omega,(S.1,S.2.1,S.2.2.1,S.2.2.2,(k:Int)+1),(by and_intros<;>first|rfl|trivial|simp),⟨k+1,by omega,by rw[mK];rfl⟩,by dsimp only;omega⟩
  .have:k=lw.length:=by omega
   subst this;rw[hN,hW,hE];and_intros<;>first|rfl|trivial
 .obtain⟨v1,v2,v3,v4⟩:=TH i1 i2 hr jc;rw[v3];refine⟨by simp,λhz=>⟨rfl,?_⟩,λhz=>⟨cM++[r],(by and_intros<;>first|rfl|trivial|simp),⟨v1,v2,λx hx=>?_⟩,by rw[zo,zw];omega⟩⟩
  .rw[F3 hr (by simpa using hz),z7 (by decide)] at hE;obtain⟨f1,f2⟩:=EE (h:=show ¬ Zl hk lw hd rows c=0 by rw[hE];decide);rw[f1,f2,hE];and_intros<;>first|rfl|trivial
  .rcases zR.1 hx with hx|hx
   .exact i3 x hx
   .rw[zK.1 hx];simpa using hz
def G8:AL ((Int×List Int)×(Int×List Int)×List (List UInt8)):=(.cons (.agg (.cons (.k (.i .i64)) (.one (.k (.list (.i .i64)))))) (.cons (.agg (.cons (.k (.i .i64)) (.one (.k (.list (.i .i64)))))) (.one (.k (.list .st)))))
def TJ (d:(Int×List Int)×(Int×List Int)×List (List UInt8)):Prop:=d.1.2.length<=110/\d.2.1.2.length<=110/\d.2.2.length<=110
def NC (d:(Int×List Int)×(Int×List Int)×List (List UInt8)):SV:=.tup [.val (.i .i64) (S1 d.1.1 d.1.2 d.2.1.1 d.2.1.2 d.2.2),.val (.i .i64) (Jl d.1.1 d.1.2 d.2.1.1 d.2.1.2 d.2.2)]
def Nf (d:(Int×List Int)×(Int×List Int)×List (List UInt8)):List OB:=[]
def UU:CSp:=W2 G8 TJ NC Nf
def WZ (hk:Int) (lw:List Int) (hd:Int) (rows:List Int) (c:List (List UInt8)):Prop :=
 (lw.length<=110/\rows.length<=110/\c.length<=110)/\(((Qj hk lw hd rows c) != (0:Int))=true ->
  (((0:Int)=(S1 hk lw hd rows c)/\(Qj hk lw hd rows c)=(Jl hk lw hd rows c)/\(([]:List SV)=[]))/\(True))) /\
 (((Qj hk lw hd rows c) != (0:Int))=false ->
  ∀ w1:List Value,∃ (e4:Int×(List Int)×(List (List UInt8))×(List (List UInt8))×Int×Int×(List Int)×Int×(List Int)×(List (List UInt8))×Int×(List Int)×Int×(List Int)×Int×Int×Int×(List Int)×Int×Int×(List Int)×Int×Int×(List Int)×Int×(List Int)×(List (List UInt8))×Int×(List Int)×Int×Int×(List Int)×Int×Int×Bool×Int×(List Int)×(List Value)) (d40:(List (List UInt8×Int))×(List (List UInt8×Int))×Int),((True/\True/\True/\True/\(lI (fEy hk lw hd rows c))=(v6 e4).1/\(0:Int)=d40.2.2/\True)/\(((fHk hk lw hd rows c)=e4.1/\(fLw hk lw hd rows c)=e4.2.1/\True/\True/\(([]:List SV)=[]))/\((fEy hk lw hd rows c)=e4.2.2.1/\(fEy hk lw hd rows c).isEmpty=e4.2.2.1.isEmpty)/\((fWa hk lw hd rows c)=e4.2.2.2.1/\(fWa hk lw hd rows c).isEmpty=e4.2.2.2.1.isEmpty)/\(([]:List (List UInt8×Int))=d40.1)/\(([]:List (List UInt8×Int))=d40.2.1)/\((v6 (Q7 (Q7 e4))).2=w1/\((hk=(v6 e4).2.1/\lw=(v6 e4).2.2.1/\(([]:List SV)=[]))/\(hd=(v6 e4).2.2.2.1/\rows=(v7 e4).1/\(([]:List SV)=[]))/\c=(v7 e4).2.1/\True/\True/\True/\(0:Int)=(v6 (v7 e4)).2.2.1/\(0:Int)=(v6 (v7 e4)).2.2.2.1/\True/\(Qj hk lw hd rows c)=(Q7 e4).2.2.1/\True/\True/\True/\True/\True/\True/\(((fHk hk lw hd rows c)=(Q7 e4).2.2.2.1/\(fLw hk lw hd rows c)=(v6 (Q7 e4)).1/\True/\True/\(([]:List SV)=[]))/\(Qj hk lw hd rows c)=(v6 (Q7 e4)).2.1/\(([]:List SV)=[]))/\(hk=(v6 (Q7 e4)).2.2.1/\lw=(v6 (Q7 e4)).2.2.2.1/\(([]:List SV)=[]))/\(hd=(v7 (Q7 e4)).1/\rows=(v7 (Q7 e4)).2.1/\(([]:List SV)=[]))/\c=(v7 (Q7 e4)).2.2.1/\(((fHk hk lw hd rows c)=(v7 (Q7 e4)).2.2.2.1/\(fLw hk lw hd rows c)=(v6 (v7 (Q7 e4))).1/\True/\True/\(([]:List SV)=[]))/\(Qj hk lw hd rows c)=(v6 (v7 (Q7 e4))).2.1/\(([]:List SV)=[]))/\((fHk hk lw hd rows c)=(v6 (v7 (Q7 e4))).2.2.1/\(fLw hk lw hd rows c)=(v6 (v7 (Q7 e4))).2.2.2.1/\True/\True/\(([]:List SV)=[]))/\(Qj hk lw hd rows c)=(Q7 (Q7 e4)).1/\(Qj hk lw hd rows c)=(Q7 (Q7 e4)).2.1/\((Qj hk lw hd rows c) != (0:Int))=(Q7 (Q7 e4)).2.2.1/\True/\True/\((fHk hk lw hd rows c)=(Q7 (Q7 e4)).2.2.2.1/\(fLw hk lw hd rows c)=(v6 (Q7 (Q7 e4))).1/\True/\True/\(([]:List SV)=[]))/\True/\True/\True/\True/\True/\True/\True/\True/\True/\True/\True/\True/\True/\True/\True/\True/\True/\True/\True/\True/\True/\True/\(([]:List SV)=[])))/\(hk=(v7 e4).2.2.1/\lw=(v7 e4).2.2.2.1/\(([]:List SV)=[]))/\(hd=(v6 (v7 e4)).1/\rows=(v6 (v7 e4)).2.1/\(([]:List SV)=[]))/\((fHk hk lw hd rows c)=(Q7 e4).1/\(fLw hk lw hd rows c)=(Q7 e4).2.1/\True/\True/\(([]:List SV)=[]))/\True)) /\
  LoopP (λ(d4:(List (List UInt8×Int))×(List (List UInt8×Int))×Int) (q4:((List (List UInt8×Int))×(List (List UInt8×Int))×Int)->Prop) =>
   ((decide (d4.2.2<(v6 e4).1))=true ->
    (0<=d4.2.2)/\(d4.2.2<e4.2.2.1.length)/\(I64 ((gq.aget .st d4.1 (gD e4.2.2.1 d4.2.2 []) 0)+(1:Int)))/\(I64 ((gq.aget .st d4.2.1 (gD e4.2.2.1 d4.2.2 []) 0)+(1:Int)))/\(0<=d4.2.2)/\(d4.2.2<e4.2.2.2.1.length)/\(I64 ((gq.aget .st (Xb .st d4.2.1 (gD e4.2.2.1 d4.2.2 []) ((gq.aget .st d4.2.1 (gD e4.2.2.1 d4.2.2 []) 0)+(1:Int))) (gD e4.2.2.2.1 d4.2.2 []) 0)-(1:Int)))/\(I64 (d4.2.2+(1:Int)))/\(∃ d5:(List (List UInt8×Int))×(List (List UInt8×Int))×Int,((True/\True/\True/\True/\(v6 e4).1=(v6 e4).1/\(d4.2.2+(1:Int))=d5.2.2/\True)/\((e4.1=e4.1/\e4.2.1=e4.2.1/\True/\True/\(([]:List SV)=[]))/\(e4.2.2.1=e4.2.2.1/\e4.2.2.1.isEmpty=e4.2.2.1.isEmpty)/\(e4.2.2.2.1=e4.2.2.2.1/\e4.2.2.2.1.isEmpty=e4.2.2.2.1.isEmpty)/\((Xb .st d4.1 (gD e4.2.2.1 d4.2.2 []) ((gq.aget .st d4.1 (gD e4.2.2.1 d4.2.2 []) 0)+(1:Int)))=d5.1)/\((Xb .st (Xb .st d4.2.1 (gD e4.2.2.1 d4.2.2 []) ((gq.aget .st d4.2.1 (gD e4.2.2.1 d4.2.2 []) 0)+(1:Int))) (gD e4.2.2.2.1 d4.2.2 []) ((gq.aget .st (Xb .st d4.2.1 (gD e4.2.2.1 d4.2.2 []) ((gq.aget .st d4.2.1 (gD e4.2.2.1 d4.2.2 []) 0)+(1:Int))) (gD e4.2.2.2.1 d4.2.2 []) 0)-(1:Int)))=d5.2.1)/\((v6 (Q7 (Q7 e4))).2=(v6 (Q7 (Q7 e4))).2/\(((v6 e4).2.1=(v6 e4).2.1/\(v6 e4).2.2.1=(v6 e4).2.2.1/\(([]:List SV)=[]))/\((v6 e4).2.2.2.1=(v6 e4).2.2.2.1/\(v7 e4).1=(v7 e4).1/\(([]:List SV)=[]))/\(v7 e4).2.1=(v7 e4).2.1/\True/\True/\True/\(v6 (v7 e4)).2.2.1=(v6 (v7 e4)).2.2.1/\(v6 (v7 e4)).2.2.2.1=(v6 (v7 e4)).2.2.2.1/\True/\(Q7 e4).2.2.1=(Q7 e4).2.2.1/\True/\True/\True/\True/\True/\True/\(((Q7 e4).2.2.2.1=(Q7 e4).2.2.2.1/\(v6 (Q7 e4)).1=(v6 (Q7 e4)).1/\True/\True/\(([]:List SV)=[]))/\(v6 (Q7 e4)).2.1=(v6 (Q7 e4)).2.1/\(([]:List SV)=[]))/\((v6 (Q7 e4)).2.2.1=(v6 (Q7 e4)).2.2.1/\(v6 (Q7 e4)).2.2.2.1=(v6 (Q7 e4)).2.2.2.1/\(([]:List SV)=[]))/\((v7 (Q7 e4)).1=(v7 (Q7 e4)).1/\(v7 (Q7 e4)).2.1=(v7 (Q7 e4)).2.1/\(([]:List SV)=[]))/\(v7 (Q7 e4)).2.2.1=(v7 (Q7 e4)).2.2.1/\(((v7 (Q7 e4)).2.2.2.1=(v7 (Q7 e4)).2.2.2.1/\(v6 (v7 (Q7 e4))).1=(v6 (v7 (Q7 e4))).1/\True/\True/\(([]:List SV)=[]))/\(v6 (v7 (Q7 e4))).2.1=(v6 (v7 (Q7 e4))).2.1/\(([]:List SV)=[]))/\((v6 (v7 (Q7 e4))).2.2.1=(v6 (v7 (Q7 e4))).2.2.1/\(v6 (v7 (Q7 e4))).2.2.2.1=(v6 (v7 (Q7 e4))).2.2.2.1/\True/\True/\(([]:List SV)=[]))/\(Q7 (Q7 e4)).1=(Q7 (Q7 e4)).1/\(Q7 (Q7 e4)).2.1=(Q7 (Q7 e4)).2.1/\(Q7 (Q7 e4)).2.2.1=(Q7 (Q7 e4)).2.2.1/\True/\True/\((Q7 (Q7 e4)).2.2.2.1=(Q7 (Q7 e4)).2.2.2.1/\(v6 (Q7 (Q7 e4))).1=(v6 (Q7 (Q7 e4))).1/\True/\True/\(([]:List SV)=[]))/\True/\True/\True/\True/\True/\True/\True/\True/\True/\True/\True/\True/\True/\True/\True/\True/\True/\True/\True/\True/\True/\True/\(([]:List SV)=[])))/\((v7 e4).2.2.1=(v7 e4).2.2.1/\(v7 e4).2.2.2.1=(v7 e4).2.2.2.1/\(([]:List SV)=[]))/\((v6 (v7 e4)).1=(v6 (v7 e4)).1/\(v6 (v7 e4)).2.1=(v6 (v7 e4)).2.1/\(([]:List SV)=[]))/\((Q7 e4).1=(Q7 e4).1/\(Q7 e4).2.1=(Q7 e4).2.1/\True/\True/\(([]:List SV)=[]))/\True))/\q4 d5)) /\
   ((decide (d4.2.2<(v6 e4).1))=false ->
    ∃ (e8:(List (List UInt8×Int))×(List (List UInt8×Int))×Int×(List Int)×Int×(List Int)×(List (List UInt8))×Int×(List Int)×Int×(List Int)×Int×Int×Int×(List Int)×(List (List UInt8))×(List (List UInt8))×Int×Int×(List Int)×Int×Int×(List Int)×Int×(List Int)×(List (List UInt8))×Int×(List Int)×Int×Int×(List Int)×Int×Int×Bool×Int×(List Int)×(List Value)) (d80:(List Nat)),((True/\True/\True)/\((d4.1=e8.1)/\(d4.2.1=e8.2.1/\([]:List Nat)=d80)/\((v6 (Q7 (Q7 e8)))=(v6 (Q7 (Q7 e4))).2/\(((v6 e4).2.1=e8.2.2.1/\(v6 e4).2.2.1=e8.2.2.2.1/\(([]:List SV)=[]))/\((v6 e4).2.2.2.1=(v6 e8).1/\(v7 e4).1=(v6 e8).2.1/\(([]:List SV)=[]))/\(v7 e4).2.1=(v6 e8).2.2.1/\True/\True/\True/\(v6 (v7 e4)).2.2.1=(v7 e8).2.2.2.1/\(v6 (v7 e4)).2.2.2.1=(v6 (v7 e8)).1/\True/\(Q7 e4).2.2.1=(Q7 e8).2.1/\True/\True/\True/\True/\True/\True/\(((Q7 e4).2.2.2.1=(Q7 e8).2.2.1/\(v6 (Q7 e4)).1=(Q7 e8).2.2.2.1/\True/\True/\(([]:List SV)=[]))/\(v6 (Q7 e4)).2.1=(v6 (Q7 e8)).1/\(([]:List SV)=[]))/\((v6 (Q7 e4)).2.2.1=(v6 (Q7 e8)).2.1/\(v6 (Q7 e4)).2.2.2.1=(v6 (Q7 e8)).2.2.1/\(([]:List SV)=[]))/\((v7 (Q7 e4)).1=(v6 (Q7 e8)).2.2.2.1/\(v7 (Q7 e4)).2.1=(v7 (Q7 e8)).1/\(([]:List SV)=[]))/\(v7 (Q7 e4)).2.2.1=(v7 (Q7 e8)).2.1/\(((v7 (Q7 e4)).2.2.2.1=(v7 (Q7 e8)).2.2.1/\(v6 (v7 (Q7 e4))).1=(v7 (Q7 e8)).2.2.2.1/\True/\True/\(([]:List SV)=[]))/\(v6 (v7 (Q7 e4))).2.1=(v6 (v7 (Q7 e8))).1/\(([]:List SV)=[]))/\((v6 (v7 (Q7 e4))).2.2.1=(v6 (v7 (Q7 e8))).2.1/\(v6 (v7 (Q7 e4))).2.2.2.1=(v6 (v7 (Q7 e8))).2.2.1/\True/\True/\(([]:List SV)=[]))/\(Q7 (Q7 e4)).1=(v6 (v7 (Q7 e8))).2.2.2.1/\(Q7 (Q7 e4)).2.1=(Q7 (Q7 e8)).1/\(Q7 (Q7 e4)).2.2.1=(Q7 (Q7 e8)).2.1/\True/\True/\((Q7 (Q7 e4)).2.2.2.1=(Q7 (Q7 e8)).2.2.1/\(v6 (Q7 (Q7 e4))).1=(Q7 (Q7 e8)).2.2.2.1/\True/\True/\(([]:List SV)=[]))/\True/\True/\True/\True/\True/\True/\True/\True/\True/\True/\True/\True/\True/\True/\True/\True/\True/\True/\True/\True/\True/\True/\(([]:List SV)=[])))/\((v7 e4).2.2.1=(v6 e8).2.2.2.1/\(v7 e4).2.2.2.1=(v7 e8).1/\(([]:List SV)=[]))/\((v6 (v7 e4)).1=(v7 e8).2.1/\(v6 (v7 e4)).2.1=(v7 e8).2.2.1/\(([]:List SV)=[]))/\((Q7 e4).1=(v6 (v7 e8)).2.1/\(Q7 e4).2.1=(v6 (v7 e8)).2.2.1/\True/\True/\(([]:List SV)=[]))/\(e4.2.2.1=(v6 (v7 e8)).2.2.2.1/\e4.2.2.1.isEmpty=(List.isEmpty (v6 (v7 e8)).2.2.2.1))/\(e4.2.2.2.1=(Q7 e8).1/\e4.2.2.2.1.isEmpty=(Q7 e8).1.isEmpty)/\True)) /\
    LoopP (λ(d8:(List Nat)) (q8:((List Nat))->Prop) =>
     ((∀ r:Nat,r<e8.2.1.length->r∈d8) ->
      (v6 (Q7 (Q7 e8)))=w1/\∃ (mg:(List (List UInt8×Int))) (d120:Int×(List Nat)),(((1:Int)=d120.1/\True/\True)/\((e8.1=mg/\([]:List Nat)=d120.2)/\True)) /\
      LoopP (λ(d12:Int×(List Nat)) (pr:(Int×(List Nat))->Prop) =>
       ((∀ r:Nat,r<mg.length->r∈d12.2) ->
        ((d12.1=(S1 hk lw hd rows c)/\(0:Int)=(Jl hk lw hd rows c)/\(([]:List SV)=[]))/\(True))) /\
       (∀ oD:Nat,oD<mg.length->oD∉d12.2 ->
        ((d12.2++[oD])≠[])/\∃ (gY:Int×(List (List UInt8×Int))×(List Nat)) (d160:Int×Int),((d12.1=d160.1/\(List.getD mg (List.getLastD (d12.2++[oD]) 0) ([],0)).2=gY.1/\(2:Int)=d160.2/\True/\True)/\((mg=gY.2.1/\(d12.2++[oD])=gY.2.2)/\True)) /\
        LoopP (λ(d16:Int×Int) (uT:(Int×Int)->Prop) =>
         ((decide (d16.2<=gY.1))=true ->
          (I64 (d16.1*d16.2))/\((decide ((d16.1*d16.2) > (1000000000000:Int)))=true ->
           (((0:Int)=(S1 hk lw hd rows c)/\(8:Int)=(Jl hk lw hd rows c)/\(([]:List SV)=[]))/\(True))) /\
          ((decide ((d16.1*d16.2) > (1000000000000:Int)))=false ->
           (I64 (d16.2+(1:Int)))/\(∃ d17:Int×Int,(((d16.1*d16.2)=d17.1/\gY.1=gY.1/\(d16.2+(1:Int))=d17.2/\True/\True)/\((gY.2.1=gY.2.1/\gY.2.2=gY.2.2)/\True))/\uT d17))) /\
         ((decide (d16.2<=gY.1))=false ->
          (∃ d18:Int×(List Nat),((d16.1=d18.1/\True/\True)/\((gY.2.1=mg/\gY.2.2=d18.2)/\True))/\pr d18))) d160)) d120) /\
     (∀ r9:Nat,r9<e8.2.1.length->r9∉d8 ->
      ((d8++[r9])≠[])/\(((List.getD e8.2.1 (List.getLastD (d8++[r9]) 0) ([],0)).2 != (0:Int))=true ->
       (v6 (Q7 (Q7 e8)))=w1/\(((0:Int)=(S1 hk lw hd rows c)/\(0:Int)=(Jl hk lw hd rows c)/\(([]:List SV)=[]))/\(True))) /\
      (((List.getD e8.2.1 (List.getLastD (d8++[r9]) 0) ([],0)).2 != (0:Int))=false ->
       (∃ d19:(List Nat),((True/\True/\True)/\((e8.1=e8.1)/\(e8.2.1=e8.2.1/\(d8++[r9])=d19)/\((v6 (Q7 (Q7 e8)))=(v6 (Q7 (Q7 e8)))/\((e8.2.2.1=e8.2.2.1/\e8.2.2.2.1=e8.2.2.2.1/\(([]:List SV)=[]))/\((v6 e8).1=(v6 e8).1/\(v6 e8).2.1=(v6 e8).2.1/\(([]:List SV)=[]))/\(v6 e8).2.2.1=(v6 e8).2.2.1/\True/\True/\True/\(v7 e8).2.2.2.1=(v7 e8).2.2.2.1/\(v6 (v7 e8)).1=(v6 (v7 e8)).1/\True/\(Q7 e8).2.1=(Q7 e8).2.1/\True/\True/\True/\True/\True/\True/\(((Q7 e8).2.2.1=(Q7 e8).2.2.1/\(Q7 e8).2.2.2.1=(Q7 e8).2.2.2.1/\True/\True/\(([]:List SV)=[]))/\(v6 (Q7 e8)).1=(v6 (Q7 e8)).1/\(([]:List SV)=[]))/\((v6 (Q7 e8)).2.1=(v6 (Q7 e8)).2.1/\(v6 (Q7 e8)).2.2.1=(v6 (Q7 e8)).2.2.1/\(([]:List SV)=[]))/\((v6 (Q7 e8)).2.2.2.1=(v6 (Q7 e8)).2.2.2.1/\(v7 (Q7 e8)).1=(v7 (Q7 e8)).1/\(([]:List SV)=[]))/\(v7 (Q7 e8)).2.1=(v7 (Q7 e8)).2.1/\(((v7 (Q7 e8)).2.2.1=(v7 (Q7 e8)).2.2.1/\(v7 (Q7 e8)).2.2.2.1=(v7 (Q7 e8)).2.2.2.1/\True/\True/\(([]:List SV)=[]))/\(v6 (v7 (Q7 e8))).1=(v6 (v7 (Q7 e8))).1/\(([]:List SV)=[]))/\((v6 (v7 (Q7 e8))).2.1=(v6 (v7 (Q7 e8))).2.1/\(v6 (v7 (Q7 e8))).2.2.1=(v6 (v7 (Q7 e8))).2.2.1/\True/\True/\(([]:List SV)=[]))/\(v6 (v7 (Q7 e8))).2.2.2.1=(v6 (v7 (Q7 e8))).2.2.2.1/\(Q7 (Q7 e8)).1=(Q7 (Q7 e8)).1/\(Q7 (Q7 e8)).2.1=(Q7 (Q7 e8)).2.1/\True/\True/\((Q7 (Q7 e8)).2.2.1=(Q7 (Q7 e8)).2.2.1/\(Q7 (Q7 e8)).2.2.2.1=(Q7 (Q7 e8)).2.2.2.1/\True/\True/\(([]:List SV)=[]))/\True/\True/\True/\True/\True/\True/\True/\True/\True/\True/\True/\True/\True/\True/\True/\True/\True/\True/\True/\True/\True/\True/\(([]:List SV)=[])))/\((v6 e8).2.2.2.1=(v6 e8).2.2.2.1/\(v7 e8).1=(v7 e8).1/\(([]:List SV)=[]))/\((v7 e8).2.1=(v7 e8).2.1/\(v7 e8).2.2.1=(v7 e8).2.2.1/\(([]:List SV)=[]))/\((v6 (v7 e8)).2.1=(v6 (v7 e8)).2.1/\(v6 (v7 e8)).2.2.1=(v6 (v7 e8)).2.2.1/\True/\True/\(([]:List SV)=[]))/\((v6 (v7 e8)).2.2.2.1=(v6 (v7 e8)).2.2.2.1/\(List.isEmpty (v6 (v7 e8)).2.2.2.1)=(List.isEmpty (v6 (v7 e8)).2.2.2.1))/\((Q7 e8).1=(Q7 e8).1/\(Q7 e8).1.isEmpty=(Q7 e8).1.isEmpty)/\True))/\q8 d19)))) d80)) d40)
def ZK:Cx:=⟨[(1000010,(.pair .st (.i .i64))),(1000011,(.pair .st (.i .i64)))],[],46,[3000040],0,[],[],[],[],false,[],[],[40],[]⟩
def ZF:List (Nat×LoopAnn):=[(0,⟨Int×(List Int)×(List (List UInt8))×(List (List UInt8))×Int×Int×(List Int)×Int×(List Int)×(List (List UInt8))×Int×(List Int)×Int×(List Int)×Int×Int×Int×(List Int)×Int×Int×(List Int)×Int×Int×(List Int)×Int×(List Int)×(List (List UInt8))×Int×(List Int)×Int×Int×(List Int)×Int×Int×Bool×Int×(List Int)×(List Value),(List (List UInt8×Int))×(List (List UInt8×Int))×Int,[1,4,5,13,14,15],λe x=>[.box 2900001 0,.map 2900010,.map 2900011,.lst 20,.val (.i .i64) e.2.2.2.2.1,.val (.i .i64) x.2.2],λe x=>[(2900001,.slot 1,.cells [.val (.i .i64) e.1,.val (.list (.i .i64)) e.2.1,.lst 20,.lst 500020] (some 73)),(20,.cell 2900001 2,.lst 82 .st e.2.2.1 (List.isEmpty e.2.2.1)),(500020,.cell 2900001 3,.lst 82 .st e.2.2.2.1 (List.isEmpty e.2.2.2.1)),(2900010,.slot 4,.map .st (.i .i64) x.1),(2900011,.slot 5,.map .st (.i .i64) x.2.1),(2899999,.key 2899999,.stk [.agg [.val (.i .i64) e.2.2.2.2.2.1,.val (.list (.i .i64)) e.2.2.2.2.2.2.1],.agg [.val (.i .i64) e.2.2.2.2.2.2.2.1,.val (.list (.i .i64)) e.2.2.2.2.2.2.2.2.1],.val (.list .st) e.2.2.2.2.2.2.2.2.2.1,.box 3 0,.box 4 0,.any,.val (.i .i64) e.2.2.2.2.2.2.2.2.2.2.2.2.2.2.1,.val (.i .i64) e.2.2.2.2.2.2.2.2.2.2.2.2.2.2.2.1,.box 8 0,.val (.i .i64) e.2.2.2.2.2.2.2.2.2.2.2.2.2.2.2.2.2.2.1,.any,.any,.any,.any,.any,.any,.tup [.agg [.val (.i .i64) e.2.2.2.2.2.2.2.2.2.2.2.2.2.2.2.2.2.2.2.1,.val (.list (.i .i64)) e.2.2.2.2.2.2.2.2.2.2.2.2.2.2.2.2.2.2.2.2.1,.lst 20,.lst 500020],.val (.i .i64) e.2.2.2.2.2.2.2.2.2.2.2.2.2.2.2.2.2.2.2.2.2.1],.agg [.val (.i .i64) e.2.2.2.2.2.2.2.2.2.2.2.2.2.2.2.2.2.2.2.2.2.2.1,.val (.list (.i .i64)) e.2.2.2.2.2.2.2.2.2.2.2.2.2.2.2.2.2.2.2.2.2.2.2.1],.agg [.val (.i .i64) e.2.2.2.2.2.2.2.2.2.2.2.2.2.2.2.2.2.2.2.2.2.2.2.2.1,.val (.list (.i .i64)) e.2.2.2.2.2.2.2.2.2.2.2.2.2.2.2.2.2.2.2.2.2.2.2.2.2.1],.val (.list .st) e.2.2.2.2.2.2.2.2.2.2.2.2.2.2.2.2.2.2.2.2.2.2.2.2.2.2.1,.tup [.agg [.val (.i .i64) e.2.2.2.2.2.2.2.2.2.2.2.2.2.2.2.2.2.2.2.2.2.2.2.2.2.2.2.1,.val (.list (.i .i64)) e.2.2.2.2.2.2.2.2.2.2.2.2.2.2.2.2.2.2.2.2.2.2.2.2.2.2.2.2.1,.lst 20,.lst 500020],.val (.i .i64) e.2.2.2.2.2.2.2.2.2.2.2.2.2.2.2.2.2.2.2.2.2.2.2.2.2.2.2.2.2.1],.agg [.val (.i .i64) e.2.2.2.2.2.2.2.2.2.2.2.2.2.2.2.2.2.2.2.2.2.2.2.2.2.2.2.2.2.2.1,.val (.list (.i .i64)) e.2.2.2.2.2.2.2.2.2.2.2.2.2.2.2.2.2.2.2.2.2.2.2.2.2.2.2.2.2.2.2.1,.lst 20,.lst 500020],.val (.i .i64) e.2.2.2.2.2.2.2.2.2.2.2.2.2.2.2.2.2.2.2.2.2.2.2.2.2.2.2.2.2.2.2.2.1,.val (.i .i64) e.2.2.2.2.2.2.2.2.2.2.2.2.2.2.2.2.2.2.2.2.2.2.2.2.2.2.2.2.2.2.2.2.2.1,.val .bo e.2.2.2.2.2.2.2.2.2.2.2.2.2.2.2.2.2.2.2.2.2.2.2.2.2.2.2.2.2.2.2.2.2.2.1,.any,.any,.agg [.val (.i .i64) e.2.2.2.2.2.2.2.2.2.2.2.2.2.2.2.2.2.2.2.2.2.2.2.2.2.2.2.2.2.2.2.2.2.2.2.1,.val (.list (.i .i64)) e.2.2.2.2.2.2.2.2.2.2.2.2.2.2.2.2.2.2.2.2.2.2.2.2.2.2.2.2.2.2.2.2.2.2.2.2.1,.lst 20,.lst 500020],.any,.any,.any,.any,.any,.any,.any,.any,.any,.any,.any,.any,.any,.any,.any,.any,.any,.any,.any,.any,.any,.any] e.2.2.2.2.2.2.2.2.2.2.2.2.2.2.2.2.2.2.2.2.2.2.2.2.2.2.2.2.2.2.2.2.2.2.2.2.2),(3,.key 3,.cells [.val (.i .i64) e.2.2.2.2.2.2.2.2.2.2.1,.val (.list (.i .i64)) e.2.2.2.2.2.2.2.2.2.2.2.1] (some 24)),(4,.key 4,.cells [.val (.i .i64) e.2.2.2.2.2.2.2.2.2.2.2.2.1,.val (.list (.i .i64)) e.2.2.2.2.2.2.2.2.2.2.2.2.2.1] (some 26)),(8,.key 8,.cells [.val (.i .i64) e.2.2.2.2.2.2.2.2.2.2.2.2.2.2.2.2.1,.val (.list (.i .i64)) e.2.2.2.2.2.2.2.2.2.2.2.2.2.2.2.2.2.1,.lst 20,.lst 500020] (some 73))]⟩),
 (2,⟨(List (List UInt8×Int))×(List (List UInt8×Int))×Int×(List Int)×Int×(List Int)×(List (List UInt8))×Int×(List Int)×Int×(List Int)×Int×Int×Int×(List Int)×(List (List UInt8))×(List (List UInt8))×Int×Int×(List Int)×Int×Int×(List Int)×Int×(List Int)×(List (List UInt8))×Int×(List Int)×Int×Int×(List Int)×Int×Int×Bool×Int×(List Int)×(List Value),(List Nat),[4,38],λe x=>[.map 2900010,.box 2900038 0],λe x=>[(2900010,.slot 4,.map .st (.i .i64) e.1),(2900038,.slot 38,.iter .st (.i .i64) e.2.1 x),(2899999,.key 2899999,.stk [.agg [.val (.i .i64) e.2.2.1,.val (.list (.i .i64)) e.2.2.2.1],.agg [.val (.i .i64) e.2.2.2.2.1,.val (.list (.i .i64)) e.2.2.2.2.2.1],.val (.list .st) e.2.2.2.2.2.2.1,.box 3 0,.box 4 0,.any,.val (.i .i64) e.2.2.2.2.2.2.2.2.2.2.2.1,.val (.i .i64) e.2.2.2.2.2.2.2.2.2.2.2.2.1,.box 8 0,.val (.i .i64) e.2.2.2.2.2.2.2.2.2.2.2.2.2.2.2.2.2.1,.any,.any,.any,.any,.any,.any,.tup [.agg [.val (.i .i64) e.2.2.2.2.2.2.2.2.2.2.2.2.2.2.2.2.2.2.1,.val (.list (.i .i64)) e.2.2.2.2.2.2.2.2.2.2.2.2.2.2.2.2.2.2.2.1,.lst 20,.lst 500020],.val (.i .i64) e.2.2.2.2.2.2.2.2.2.2.2.2.2.2.2.2.2.2.2.2.1],.agg [.val (.i .i64) e.2.2.2.2.2.2.2.2.2.2.2.2.2.2.2.2.2.2.2.2.2.1,.val (.list (.i .i64)) e.2.2.2.2.2.2.2.2.2.2.2.2.2.2.2.2.2.2.2.2.2.2.1],.agg [.val (.i .i64) e.2.2.2.2.2.2.2.2.2.2.2.2.2.2.2.2.2.2.2.2.2.2.2.1,.val (.list (.i .i64)) e.2.2.2.2.2.2.2.2.2.2.2.2.2.2.2.2.2.2.2.2.2.2.2.2.1],.val (.list .st) e.2.2.2.2.2.2.2.2.2.2.2.2.2.2.2.2.2.2.2.2.2.2.2.2.2.1,.tup [.agg [.val (.i .i64) e.2.2.2.2.2.2.2.2.2.2.2.2.2.2.2.2.2.2.2.2.2.2.2.2.2.2.1,.val (.list (.i .i64)) e.2.2.2.2.2.2.2.2.2.2.2.2.2.2.2.2.2.2.2.2.2.2.2.2.2.2.2.1,.lst 20,.lst 500020],.val (.i .i64) e.2.2.2.2.2.2.2.2.2.2.2.2.2.2.2.2.2.2.2.2.2.2.2.2.2.2.2.2.1],.agg [.val (.i .i64) e.2.2.2.2.2.2.2.2.2.2.2.2.2.2.2.2.2.2.2.2.2.2.2.2.2.2.2.2.2.1,.val (.list (.i .i64)) e.2.2.2.2.2.2.2.2.2.2.2.2.2.2.2.2.2.2.2.2.2.2.2.2.2.2.2.2.2.2.1,.lst 20,.lst 500020],.val (.i .i64) e.2.2.2.2.2.2.2.2.2.2.2.2.2.2.2.2.2.2.2.2.2.2.2.2.2.2.2.2.2.2.2.1,.val (.i .i64) e.2.2.2.2.2.2.2.2.2.2.2.2.2.2.2.2.2.2.2.2.2.2.2.2.2.2.2.2.2.2.2.2.1,.val .bo e.2.2.2.2.2.2.2.2.2.2.2.2.2.2.2.2.2.2.2.2.2.2.2.2.2.2.2.2.2.2.2.2.2.1,.any,.any,.agg [.val (.i .i64) e.2.2.2.2.2.2.2.2.2.2.2.2.2.2.2.2.2.2.2.2.2.2.2.2.2.2.2.2.2.2.2.2.2.2.1,.val (.list (.i .i64)) e.2.2.2.2.2.2.2.2.2.2.2.2.2.2.2.2.2.2.2.2.2.2.2.2.2.2.2.2.2.2.2.2.2.2.2.1,.lst 20,.lst 500020],.any,.any,.any,.any,.any,.any,.any,.any,.any,.any,.any,.any,.any,.any,.any,.any,.any,.any,.any,.any,.any,.any] e.2.2.2.2.2.2.2.2.2.2.2.2.2.2.2.2.2.2.2.2.2.2.2.2.2.2.2.2.2.2.2.2.2.2.2.2),(3,.key 3,.cells [.val (.i .i64) e.2.2.2.2.2.2.2.1,.val (.list (.i .i64)) e.2.2.2.2.2.2.2.2.1] (some 24)),(4,.key 4,.cells [.val (.i .i64) e.2.2.2.2.2.2.2.2.2.1,.val (.list (.i .i64)) e.2.2.2.2.2.2.2.2.2.2.1] (some 26)),(8,.key 8,.cells [.val (.i .i64) e.2.2.2.2.2.2.2.2.2.2.2.2.2.1,.val (.list (.i .i64)) e.2.2.2.2.2.2.2.2.2.2.2.2.2.2.1,.lst 20,.lst 500020] (some 73)),(20,.cell 8 2,.lst 82 .st e.2.2.2.2.2.2.2.2.2.2.2.2.2.2.2.1 (List.isEmpty e.2.2.2.2.2.2.2.2.2.2.2.2.2.2.2.1)),(500020,.cell 8 3,.lst 82 .st e.2.2.2.2.2.2.2.2.2.2.2.2.2.2.2.2.1 (List.isEmpty e.2.2.2.2.2.2.2.2.2.2.2.2.2.2.2.2.1))]⟩)]
def Gw:Cx:=⟨[],[],50,[3000036,3000032],0,[(31,J_),(32,Q13 ZK (λ_=>ZF) c32 [.tmp 2,.tmp 3] 46)],[],[],[],false,[],[],[36,32],[]⟩
def SK (hk:Int) (lw:List Int) (hd:Int) (rows:List Int) (c:List (List UInt8)):List (Nat×LoopAnn):=[(0,⟨(List (List UInt8×Int)),Int×(List Nat),[12,34],λe x=>[.val (.i .i64) x.1,.box 34 0],λe x=>[(34,.slot 34,.iter .st (.i .i64) e x.2)]⟩),
 (2,⟨Int×(List (List UInt8×Int))×(List Nat),Int×Int,[12,14,15,34],λe x=>[.val (.i .i64) x.1,.val (.i .i64) e.1,.val (.i .i64) x.2,.box 34 0],λe x=>[(34,.slot 34,.iter .st (.i .i64) e.2.1 e.2.2)]⟩)]
theorem Sr (d:(Int×List Int)×(Int×List Int)×List (List UInt8)):gwp (Gw) (SK d.1.1 d.1.2 d.2.1.1 d.2.1.2 d.2.2) c11 0 (WC [.tmp 6,.tmp 7] (NC d) (Nf d)) (Qr 50 (AL.can G8 d))=WZ d.1.1 d.1.2 d.2.1.1 d.2.1.2 d.2.2:=by kernel_rfl
abbrev L0:Prop:=OkC Tryz.prog 11 UU
theorem SG (h:∀ (hk:Int) (lw:List Int) (hd:Int) (rows:List Int) (c:List (List UInt8)),(lw.length<=110/\rows.length<=110/\c.length<=110)->WZ hk lw hd rows c):OkC Tryz.prog 11 UU :=
 QD Q3v mixed (C:=Gw) (V:=λ(d:(Int×List Int)×(Int×List Int)×List (List UInt8))=>WZ d.1.1 d.1.2 d.2.1.1 d.2.1.2 d.2.2) ⟨.nil,(XsOk.cons YO (XsOk.cons (MD Q0r mixed (C:=ZK) ⟨.nil,XsOk.nil,ItsOk.nil,YlOk.nil,IysOk.nil,XfOk.nil⟩ (λ_=>ZF)) XsOk.nil)),ItsOk.nil,YlOk.nil,IysOk.nil,XfOk.nil⟩ (Sr) λd hp=>h d.1.1 d.1.2 d.2.1.1 d.2.1.2 d.2.2 hp
theorem SZ:L0:=SG λhk lw hd rows c h=>by
 obtain⟨h1,h2,h3⟩:=h;unfold WZ;(try delta lI gD sT I64 Q7 v7 v6);refine⟨⟨h1,h2,h3⟩,λe=>?_,λe=>?_⟩
 .have hz:¬ Qj hk lw hd rows c=0:=by simpa using e
  have he:Jl hk lw hd rows c=Qj hk lw hd rows c:=by rw[Jl,z6 hz]
  have hn:S1 hk lw hd rows c=0:=by rw[S1,he,z7 (λh=>hz h.1)]
  rw[hn,he];and_intros<;>first|rfl|trivial
 have he:Qj hk lw hd rows c=0:=by simpa using e
 have q1:fHk hk lw hd rows c=hk:=z6 he;have q2:fLw hk lw hd rows c=lw:=z6 he;have q3:fEy hk lw hd rows c=eyF lw rows:=z6 he;have q4:fWa hk lw hd rows c=waF lw c:=z6 he;have hE:Jl hk lw hd rows c=if okL (lfM (eyF lw rows) (waF lw c) lw.length)=true/\1000000000000<Yt (eyM (eyF lw rows) lw.length) then 8 else 0:=by rw[Jl,z7 (by simpa using he)];rfl
 have hN:S1 hk lw hd rows c=if Jl hk lw hd rows c=0/\okL (lfM (eyF lw rows) (waF lw c) lw.length)=true then Yt (eyM (eyF lw rows) lw.length) else 0:=rfl
 have l1:=Fe lw rows;have l2:=EO lw c;rw[q1,q2,q3,q4];generalize eyF lw rows=ey at *
 generalize waF lw c=wa at *
 simp only[Zd,zg,zn];intro w1;refine⟨(hk,lw,ey,wa,((ey.length:Nat):Int),hk,lw,hd,rows,c,_,_,_,_,_,_,_,_,_,_,_,_,_,_,_,_,_,_,_,_,_,_,_,_,_,_,_,w1),([],[],0),(by and_intros<;>first|rfl|trivial|simp),?_⟩;refine⟨λd=>∃ i:Nat,i<=lw.length/\d=(eyM ey i,lfM ey wa i,(i:Int)),λd=>lw.length-d.2.2.toNat,⟨0,Nat.zero_le _,rfl⟩,?_⟩;rintro _ ⟨i,hi,rfl⟩;dsimp only;simp only[zp];refine⟨λai=>?_,λbu=>?_⟩
 .have hA:=Ml ey (ey.getD i []) i;have hB:=UX ey wa i (ey.getD i []);have hC:=Lx ey wa (wa.getD i []) i (UX ey wa i (wa.getD i []));rw[Q0e] at hC;have b1:=Qy (λj=>ey.getD i []==ey.getD j []) i;have b2:=JZ (λj=>ey.getD i []==ey.getD j []) i;have b3:=Qy (λj=>ey.getD i []==wa.getD j []) i;have b4:=JZ (λj=>ey.getD i []==wa.getD j []) i;have b5:=Qy (λj=>wa.getD i []==ey.getD j []) (i+1);have b6:=JZ (λj=>wa.getD i []==ey.getD j []) (i+1);have b7:=Qy (λj=>wa.getD i []==wa.getD j []) i;have b8:=JZ (λj=>wa.getD i []==wa.getD j []) i;exact⟨by omega,by omega,by omega,by omega,by omega,by omega,by omega,by omega,(eyM ey (i+1),lfM ey wa (i+1),(i:Int)+1),(by and_intros<;>first|rfl|trivial|simp),⟨i+1,by omega,rfl⟩,by dsimp only;omega⟩
 have:i=lw.length:=by omega
 subst this;have mH:=Ix ey lw.length;generalize lfM ey wa lw.length=M at *
 generalize eyM ey lw.length=E at *
 refine⟨(E,M,_,_,_,_,_,_,_,_,_,_,_,_,_,ey,wa,_,_,_,_,_,_,_,_,_,_,_,_,_,_,_,_,_,_,_,_),[],(by and_intros<;>first|rfl|trivial|simp),?_⟩;refine⟨λd=>d.Nodup/\(∀ r∈d,r<M.length)/\∀ r∈d,(M.getD r ([],0)).2=0,λd=>M.length-d.length,⟨List.nodup_nil,(λr hr=>by cases hr),(λr hr=>by cases hr)⟩,?_⟩;rintro cM ⟨i1,i2,i3⟩;dsimp only;refine⟨λhall=>?_,λr hr jc=>?_⟩
 .have al:=O_ i3 hall;refine⟨rfl,E,(1,[]),(by and_intros<;>first|rfl|trivial|simp),?_⟩;refine⟨λd=>d.2.Nodup/\(∀ r∈d.2,r<E.length)/\d.1=pI (d.2.map λr=>Jc (E.getD r ([],0)).2.toNat)/\d.1<=1000000000000,λd=>E.length-d.2.length,⟨List.nodup_nil,(λr hr=>by cases hr),rfl,by decide⟩,?_⟩;rintro⟨P,vs⟩ ⟨j1,j2,j3,j4⟩;dsimp only at j1 j2 j3 j4 |-;refine⟨λoE=>?_,λr hr jc=>?_⟩
  .rw[(CZ E j1 j2).2 oE] at j3;rw[z7 (by omega)] at hE;rw[hN,hE,z6 ⟨rfl,al⟩];and_intros<;>first|rfl|trivial|exact j3
  .obtain⟨v1,v2,v3,v4⟩:=TH j1 j2 hr jc;rw[v3];have hP:1<=P:=by
    rw[j3];refine Af λx hx=>?_;obtain⟨r,_,rfl⟩:=x7.1 hx;exact WD _
   have hv:=mH (E.getD r ([],0)) (by rw[Qd hr];exact zq hr);have hle:=(CZ E v1 v2).1;have kG:pI ((vs++[r]).map λr=>Jc (E.getD r ([],0)).2.toNat)=P*Jc (E.getD r ([],0)).2.toNat:=by rw[xC,Bk,<-j3];simp[pI]
   rw[kG] at hle;generalize E.getD r ([],0)=x at *
   obtain⟨u,hu⟩:=zY (show 0<=x.2 by omega);rw[hu] at hv hle kG |-;simp only[zp] at hle kG;refine⟨by simp,((u:Int),E,vs++[r]),(P,2),(by and_intros<;>first|rfl|trivial|simp),?_⟩;refine⟨λd=>∃ j:Nat,1<=j/\j<=u/\d=(P*Jc j,(j:Int)+1)/\P*Jc j<=1000000000000,λd=>u+1-d.2.toNat,⟨1,by omega,by omega,by simp[Jc],by simpa [Jc] using j4⟩,?_⟩;rintro _ ⟨j,k1,k2,rfl,k4⟩;dsimp only;have hf:=WD j;have hX:1*1<=P*Jc j:=Int.mul_le_mul hP hf (by omega) (by omega);refine⟨λai=>?_,λbu=>?_⟩
   .have hY:P*Jc j*((j:Int)+1)=P*Jc (j+1):=by rw[Jc,Int.mul_assoc]
    have hZ:P*Jc j*((j:Int)+1)<=1000000000000*111:=Int.mul_le_mul k4 (by omega) (by omega) (by omega);have hW:0<=P*Jc j*((j:Int)+1):=Int.mul_nonneg (by omega) (by omega);refine⟨by omega,λuU=>?_,λnO=>⟨by omega,(P*Jc (j+1),(j:Int)+1+1),?_,⟨j+1,by omega,by omega,by simp,by omega⟩,by dsimp only;omega⟩⟩
    .have oF:=AR (show j+1<=u by omega);have:P*Jc (j+1)<=P*Jc u:=Int.mul_le_mul (Int.le_refl _) oF (by have:=WD (j+1);omega) (by omega);rw[z6 ⟨al,by omega⟩] at hE;rw[hN,hE,z7 (by simp)];and_intros<;>first|rfl|trivial
    .and_intros<;>first|exact hY|rfl|trivial
   .have:j=u:=by omega
    subst this;refine⟨(P*Jc j,vs++[r]),(by and_intros<;>first|rfl|trivial|simp),⟨v1,v2,kG.symm,k4⟩,by rw[zo,zw];omega⟩
 .obtain⟨v1,v2,v3,v4⟩:=TH i1 i2 hr jc;rw[v3];refine⟨by simp,λhz=>⟨rfl,?_⟩,λhz=>⟨cM++[r],(by and_intros<;>first|rfl|trivial|simp),⟨v1,v2,λx hx=>?_⟩,by rw[zo,zw];omega⟩⟩
  .have mi:=F3 hr (by simpa using hz);rw[z7 (by rw[mi];simp)] at hE;rw[hN,z7 (by rw[mi];simp),hE];and_intros<;>first|rfl|trivial
  .rcases zR.1 hx with hx|hx
   .exact i3 x hx
   .rw[zK.1 hx];simpa using hz
theorem Z4 {p q:Nat->Bool}:∀ {n:Nat},(∀ j,j<n->p j=q j)->Xd p n=Xd q n
 |0,_=>rfl
 |n+1,h=>by rw[QZ,QZ,Z4 λj hj=>h j (by omega),h n (by omega)]
theorem YH {p q:Nat->Bool}:∀ {n:Nat},(∀ j,j<n->p j=true->q j=true)->Xd p n<=Xd q n
 |0,_=>Int.le_refl _
 |n+1,h=>by
  have h1:=YH (p:=p) (q:=q) (n:=n) λj hj=>h j (by omega);have h2:=h n (by omega);rw[QZ,QZ];by_cases c:p n=true
  .rw[z6 c,z6 (h2 c)];omega
  .rw[z7 c];split<;>omega
theorem JR {q:Nat->Bool}{e:Nat}:∀ {n:Nat},e<n->Xd q n=Xd (λj=>q j&&j != e) n+if q e=true then 1 else 0
 |0,h=>by omega
 |n+1,h=>by
  rw[QZ,QZ];by_cases c:e=n
  .subst c;rw[Z4 (p:=q) (q:=λj=>q j&&j != e) (n:=e) λj hj=>by simp;omega];simp
  .rw[JR (q:=q) (show e<n by omega)];have:(n != e)=true:=by simp;omega
   rw[this,xI];omega
theorem TQ {p:Nat->Bool}:∀ {n:Nat},1<=Xd p n->∃ j,j<n/\p j=true
 |0,h=>by simp[Xd] at h
 |n+1,h=>by
  rw[QZ] at h;by_cases c:p n=true
  .exact⟨n,by omega,c⟩
  .rw[z7 c] at h;obtain⟨j,h1,h2⟩:=TQ (p:=p) (n:=n) (by omega);exact⟨j,by omega,h2⟩
theorem Q0v {p:Nat->Bool}{n j:Nat}(hj:j<n) (h:p j=true):1<=Xd p n:=by rw[JR hj,z6 h];have:=Qy (λi=>p i&&i != j) n;omega
def E2 (f:Nat->Int):Nat->Int
 |0=>0
 |k+1=>E2 f k+f k
theorem Fs {f g:Nat->Int}:∀ {k:Nat},(∀ h,h<k->f h<=g h)->E2 f k<=E2 g k
 |0,_=>Int.le_refl _
 |k+1,h=>by have:=Fs (f:=f) (g:=g) (k:=k) λi hi=>h i (by omega);have:=h k (by omega);simp only[E2];omega
theorem CR (f g:Nat->Int):∀ k,E2 (λh=>f h+g h) k=E2 f k+E2 g k
 |0=>rfl
 |k+1=>by simp only[E2];rw[CR f g k];omega
theorem Hb:∀ {f:Nat->Int}{k:Nat},(∀ h,h<k->f h=0)->E2 f k=0
 |_,0,_=>rfl
 |f,k+1,h=>by have:=Hb (f:=f) (k:=k) λi hi=>h i (by omega);have:=h k (by omega);simp only[E2];omega
theorem A4 {f:Nat->Int}{x:Nat}:∀ {k:Nat},x<k->(∀ h,h<k->h≠x->f h=0)->E2 f k=f x
 |0,h,_=>by omega
 |k+1,hx,h=>by
  simp only[E2];by_cases c:x=k
  .subst c;rw[Hb λi hi=>h i (by omega) (by omega)];omega
  .rw[A4 (show x<k by omega) λi hi hn=>h i (by omega) hn,h k (by omega) (by omega)];omega
theorem BV {lw:List Int}{K:Nat}(p:Nat->Bool) (q:Int->Bool):∀ {n:Nat},(∀ j,j<n->0<=lw.getD j 0/\lw.getD j 0<K)->Xd (λj=>p j&&q (lw.getD j 0)) n=E2 (λh=>if q (h:Int)=true then Xd (λj=>p j&&(h:Int)==lw.getD j 0) n else 0) K
 |0,_=>by rw[Hb λh _=>by split<;>rfl];rfl
 |n+1,hl=>by
  have ih:=BV (lw:=lw) (K:=K) p q (n:=n) λj hj=>hl j (by omega);have hx:=hl n (by omega);obtain⟨x,aY⟩:=zY hx.1;have e:(λh:Nat=>if q (h:Int)=true then Xd (λj=>p j&&(h:Int)==lw.getD j 0) (n+1) else 0)=λh:Nat=>(if q (h:Int)=true then Xd (λj=>p j&&(h:Int)==lw.getD j 0) n else 0)+(if q (h:Int)=true then (if (p n&&(h:Int)==lw.getD n 0)=true then 1 else 0) else 0):=by
   funext h
   by_cases c:q (h:Int)=true
   .rw[z6 c,z6 c,z6 c,QZ]
   .rw[z7 c,z7 c,z7 c];rfl
  rw[e,CR,<-ih,QZ];congr 1;rw[aY] at hx |-;rw[A4 (x:=x) (by omega) λh _ hn=>?_]
  .simp only[beq_self_eq_true,xI];by_cases c:q (x:Int)=true
   .simp[c]
   .simp only[x5] at c;simp[c]
  .have:((h:Int)==(x:Int))=false:=by rw[zB];omega
   simp[this]
structure FindInv (lw:List Int) (ey wa:List (List UInt8)) (k:Nat) (S:FSt):Prop where
 len:S.1.length=k
 mem:∀ x∈S.1,∃ e:Nat,x=e/\e<lw.length
 nd:S.1.Nodup
 used:∀ e:Nat,gq.aget (.i .i64) S.2.2.2 (e:Int) false=decide ((e:Int)∈S.1)
 free:∀ h,gq.aget (.i .i64) S.2.1 h 0=Xd (λj=>!decide ((j:Int)∈S.1)&&h==lw.getD j 0) lw.length
 due:∀ h,gq.aget (.i .i64) S.2.2.1 h 0=Xd (λj=>(decide (k<=j)&&Qq ey wa j)&&h==lw.getD j 0) lw.length
 le:∀ h,gq.aget (.i .i64) S.2.2.1 h 0<=gq.aget (.i .i64) S.2.1 h 0
 col:∀ c,Xd (λj=>!decide ((j:Int)∈S.1)&&c==ey.getD j []) lw.length=Xd (λj=>decide (k<=j)&&c==wa.getD j []) lw.length
 ok:∀ w,w<k->ey.getD (S.1.getD w 0).toNat []=wa.getD w []/\(Qq ey wa w=true->lw.getD (S.1.getD w 0).toNat 0=lw.getD w 0)
structure FindHyp (lw:List Int) (ey wa:List (List UInt8)) (K:Nat) (F:Int->List UInt8):Prop where
 key:∀ j,j<lw.length->0<=lw.getD j 0/\lw.getD j 0<K
 eyc:∀ j,j<lw.length->ey.getD j []=F (lw.getD j 0)
 cnt:∀ c,Xd (λj=>c==ey.getD j []) lw.length=Xd (λj=>c==wa.getD j []) lw.length
theorem YP {ey wa:List (List UInt8)}{w:Nat}:Qq ey wa w=true<->wa.getD w []=ey.getD w []:=zj
theorem EX {lw:List Int}{ey wa:List (List UInt8)}{K:Nat}{F:Int->List UInt8}(H:FindHyp lw ey wa K F):FindInv lw ey wa 0 (XH lw ey wa 0):=by
 refine⟨rfl,λx hx=>(by cases hx),List.nodup_nil,λe=>rfl,λh=>?_,λh=>?_,λh=>?_,λc=>?_,λw hw=>by omega⟩
 .show gq.aget (.i .i64) (NA lw lw.length) h 0=_;rw[Vj];exact Z4 λj _=>by simp[XH]
 .show gq.aget (.i .i64) (Lm lw ey wa lw.length) h 0=_;rw[VM];exact Z4 λj _=>by simp
 .show gq.aget (.i .i64) (Lm lw ey wa lw.length) h 0<=gq.aget (.i .i64) (NA lw lw.length) h 0;rw[VM,Vj];exact YH λj _ hj=>by rw[z1] at hj;exact hj.2
 .have:=H.cnt c;rw[Z4 (q:=λj=>c==ey.getD j []) λj _=>by simp[XH],this];exact Z4 λj _=>by simp
theorem RH {lw:List Int}{ey wa:List (List UInt8)}{K:Nat}{F:Int->List UInt8}(H:FindHyp lw ey wa K F) {k:Nat}(hk:k<lw.length) {S:FSt}(I:FindInv lw ey wa k S):∃ e,e<lw.length/\Rz lw ey wa k S e=true:=by
 by_cases hr:Qq ey wa k=true
 .have h1:1<=gq.aget (.i .i64) S.2.2.1 (lw.getD k 0) 0:=by
   rw[I.due];exact Q0v hk (by rw[hr];simp)
  have h2:=I.le (lw.getD k 0);rw[I.free] at h2;obtain⟨e,he,hp⟩:=TQ (show 1<=Xd (λj=>!decide ((j:Int)∈S.1)&&lw.getD k 0==lw.getD j 0) lw.length by omega);simp only[z1,Bool.not_eq_true',zj] at hp;refine⟨e,he,?_⟩;rw[Rz,I.used,hp.1,z6 hr,hp.2];simp
 .refine Decidable.byContradiction λhc=>?_;have hc:∀ e,e<lw.length->(e:Int)∉S.1->ey.getD e []=wa.getD k []->gq.aget (.i .i64) S.2.1 (lw.getD e 0) 0<=gq.aget (.i .i64) S.2.2.1 (lw.getD e 0) 0:=λe he hu hw=>by
   refine Int.not_lt.1 λai=>hc ⟨e,he,?_⟩;rw[Rz,I.used,z7 hr,hw,xL hu,wb ai];simp
  have fC:=I.col (wa.getD k []);have e1:Xd (λj=>!decide ((j:Int)∈S.1)&&wa.getD k []==ey.getD j []) lw.length=Xd (λj=>!decide ((j:Int)∈S.1)&&(λx=>wa.getD k []==F x) (lw.getD j 0)) lw.length:=Z4 λj hj=>by rw[H.eyc j hj]
  rw[e1,BV (K:=K) (λj=>!decide ((j:Int)∈S.1)) (λx=>wa.getD k []==F x) H.key] at fC;have e2:Xd (λj=>(decide (k<=j)&&Qq ey wa j)&&(λx=>wa.getD k []==F x) (lw.getD j 0)) lw.length<=Xd (λj=>(decide (k<=j)&&wa.getD k []==wa.getD j [])&&j != k) lw.length:=YH λj hj h=>by simp only[z1,zg,zj,YP] at h;obtain⟨⟨a,b⟩,c⟩:=h;simp only[z1,zg,zj,bne_iff_ne];refine⟨⟨a,by rw[b,H.eyc j hj];exact c⟩,λe=>hr (by rw[<-e];exact YP.2 b)⟩
  have e3:=JR (q:=λj=>decide (k<=j)&&wa.getD k []==wa.getD j []) hk;rw[z6 (by simp)] at e3;rw[BV (K:=K) (λj=>decide (k<=j)&&Qq ey wa j) (λx=>wa.getD k []==F x) H.key] at e2;have e4:=Fs (k:=K) (f:=λh=>if (wa.getD k []==F (h:Int))=true then Xd (λj=>!decide ((j:Int)∈S.1)&&(h:Int)==lw.getD j 0) lw.length else 0) (g:=λh=>if (wa.getD k []==F (h:Int))=true then Xd (λj=>(decide (k<=j)&&Qq ey wa j)&&(h:Int)==lw.getD j 0) lw.length else 0) λh _=>by
   split
   .rename_i hq;rw[<-I.free,<-I.due];have hn:=Qy (λj=>(decide (k<=j)&&Qq ey wa j)&&(h:Int)==lw.getD j 0) lw.length;rw[<-I.due] at hn;by_cases c:1<=gq.aget (.i .i64) S.2.1 (h:Int) 0
    .rw[I.free] at c;obtain⟨e,he,hp⟩:=TQ c;simp only[z1,Bool.not_eq_true',zn,zj] at hp;have:=hc e he hp.1 (by rw[H.eyc e he,<-hp.2];exact(zj.1 hq).symm)
     rwa [<-hp.2] at this
    .omega
   .exact Int.le_refl _
  omega
theorem RB {lw:List Int}{ey wa:List (List UInt8)}{K:Nat}{F:Int->List UInt8}(H:FindHyp lw ey wa K F) {k:Nat}(hk:k<lw.length) {S:FSt}(I:FindInv lw ey wa k S) {e:Nat}(he:e<lw.length) (hf:Rz lw ey wa k S e=true):FindInv lw ey wa (k+1) (Oe lw ey wa k S e):=by
 rw[Rz,I.used,z1,Bool.not_eq_true',zn] at hf;obtain⟨hu,hf⟩:=hf;have oG:∀ j:Nat,(!decide ((j:Int)∈S.1++[(e:Int)]))=(!decide ((j:Int)∈S.1)&&j != e):=λj=>by
  by_cases c:j=e
  .subst c;simp
  .have:(j:Int)≠e:=by omega
   simp[c,this]
 have fC:ey.getD e []=wa.getD k []/\(Qq ey wa k=true->lw.getD e 0=lw.getD k 0):=by
  by_cases hr:Qq ey wa k=true
  .rw[z6 hr,zj] at hf;exact⟨by rw[H.eyc e he,hf,<-H.eyc k hk];exact(YP.1 hr).symm,λ_=>hf⟩
  .rw[z7 hr,z1,zj] at hf;exact⟨hf.1,λh=>(hr h).elim⟩
 have sub:∀ (q:Nat->Bool),Xd (λj=>decide (k<=j)&&q j) lw.length=Xd (λj=>decide (k+1<=j)&&q j) lw.length+if q k=true then 1 else 0:=λq=>by
  rw[JR (q:=λj=>decide (k<=j)&&q j) hk];rw[Z4 (p:=λj=>(decide (k<=j)&&q j)&&j != k) (q:=λj=>decide (k+1<=j)&&q j) λj _=>by
   by_cases c:j=k
   .subst c;have:decide (j+1<=j)=false:=by simp
    simp[this]
   .have:decide (k<=j)=decide (k+1<=j):=by simp;omega
    simp[c,this]]
  simp
 have oH:∀ h,gq.aget (.i .i64) (I6 S.2.1 (lw.getD e 0)) h 0=Xd (λj=>!decide ((j:Int)∈S.1++[(e:Int)])&&h==lw.getD j 0) lw.length:=λh=>by rw[YZ,I.free,JR (q:=λj=>!decide ((j:Int)∈S.1)&&h==lw.getD j 0) he];rw[Z4 (p:=λj=>!decide ((j:Int)∈S.1++[(e:Int)])&&h==lw.getD j 0) (q:=λj=>(!decide ((j:Int)∈S.1)&&h==lw.getD j 0)&&j != e) λj _=>by rw[oG];cases (j != e)<;>simp];simp only[xL hu,xK,Bool.true_and,zj];omega
 have rk:∀ h,gq.aget (.i .i64) (if Qq ey wa k=true then I6 S.2.2.1 (lw.getD e 0) else S.2.2.1) h 0=Xd (λj=>(decide (k+1<=j)&&Qq ey wa j)&&h==lw.getD j 0) lw.length:=λh=>by
  have hs:=sub λj=>Qq ey wa j&&h==lw.getD j 0;have e1:∀ k',Xd (λj=>(decide (k'<=j)&&Qq ey wa j)&&h==lw.getD j 0) lw.length=Xd (λj=>decide (k'<=j)&&(Qq ey wa j&&h==lw.getD j 0)) lw.length:=λk'=>Z4 λj _=>by rw[Bool.and_assoc]
  by_cases hr:Qq ey wa k=true
  .rw[z6 hr,YZ,I.due,e1,e1,hs,fC.2 hr,hr,Bool.true_and];simp only[zj];omega
  .rw[z7 hr,I.due,e1,e1,hs];simp only[x5] at hr;simp[hr]
 refine⟨?_,?_,?_,?_,oH,rk,?_,?_,?_⟩
 .simp only[Oe,zo,zw,I.len]
 .intro x hx;rcases zR.1 hx with hx|hx
  .exact I.mem x hx
  .exact⟨e,zK.1 hx,he⟩
 .exact List.nodup_append.2 ⟨I.nd,by simp,λa ha b hb c=>by rw[zK.1 hb] at c;rw[c] at ha;exact hu ha⟩
 .intro e';show gq.aget (.i .i64) (Xb (.i .i64) S.2.2.2 (e:Int) true) (e':Int) false=decide ((e':Int)∈S.1++[(e:Int)]);rw[agB];by_cases c:(e':Int)=e
  .rw[z6 c,c];simp
  .rw[z7 c,I.used];simp[c]
 .intro h;show gq.aget (.i .i64) (if Qq ey wa k=true then I6 S.2.2.1 (lw.getD e 0) else S.2.2.1) h 0<=gq.aget (.i .i64) (I6 S.2.1 (lw.getD e 0)) h 0;have:=I.le h;by_cases hr:Qq ey wa k=true
  .rw[z6 hr,YZ,YZ];omega
  .rw[z7 hr,YZ];rw[z7 hr,z1,zg] at hf;split
   .rename_i c;rw[c];omega
   .omega
 .intro c;have hs:=sub λj=>c==wa.getD j [];have hi:=I.col c;show Xd (λj=>!decide ((j:Int)∈S.1++[(e:Int)])&&c==ey.getD j []) lw.length=_;rw[Z4 (p:=λj=>!decide ((j:Int)∈S.1++[(e:Int)])&&c==ey.getD j []) (q:=λj=>(!decide ((j:Int)∈S.1)&&c==ey.getD j [])&&j != e) λj _=>by rw[oG];cases (j != e)<;>simp];rw[JR (q:=λj=>!decide ((j:Int)∈S.1)&&c==ey.getD j []) he] at hi;simp only[xL hu,xK,Bool.true_and] at hi;rw[fC.1] at hi;omega
 .intro w hw;show ey.getD ((S.1++[(e:Int)]).getD w 0).toNat []=wa.getD w []/\(Qq ey wa w=true->lw.getD ((S.1++[(e:Int)]).getD w 0).toNat 0=lw.getD w 0);have hl:=I.len;by_cases c:w<k
  .rw[show (S.1++[(e:Int)]).getD w 0=S.1.getD w 0 by simp only[ze];rw[x9 (by omega)]];exact I.ok w c
  .obtain rfl:w=k:=by omega
   rw[show (S.1++[(e:Int)]).getD w 0=(e:Int) by simp only[ze];rw[xk (by omega),hl];simp];exact fC
theorem PY {lw:List Int}{ey wa:List (List UInt8)}{K:Nat}{F:Int->List UInt8}(H:FindHyp lw ey wa K F):∀ k,k<=lw.length->FindInv lw ey wa k (XH lw ey wa k)
 |0,_=>EX H
 |k+1,hk=>by
  have I:=PY H k (by omega);obtain⟨e0,mD,pk⟩:=RH H (show k<lw.length by omega) I;rw[XH];cases hf:(List.range lw.length).find? (Rz lw ey wa k (XH lw ey wa k)) with
  |none=>have:=List.find?_range_eq_none.1 hf e0 mD;rw[pk] at this;cases this
  |some e =>obtain⟨h1,h2,_⟩:=List.find?_range_eq_some.1 hf;exact RB H (by omega) I (zL.1 h2) h1
theorem OE {lw:List Int}{r:Int}{i:Nat}(h:i<lw.length):(Jj lw r).getD i 0=if r.toNat.testBit (lw.getD i 0).toNat then 120 else 46:=by rw[Qd (show i<(Jj lw r).length by simpa [Jj] using h),Qd h];simp[Jj]
def Q0o (n:Nat) (l:List Int):Prop:=l.Perm ((List.range n).map λ(w:Nat)=>(w:Int))
theorem Fz {n:Nat}{l:List Int}(h:Q0o n l):l.length=n:=by have:=h.length_eq;simpa using this
theorem FU {n:Nat}{l:List Int}(h:Q0o n l) (p:Nat->Bool):Xd (λw=>p (l.getD w 0).toNat) n=Xd p n:=by
 have hl:=Fz h;unfold Xd;have e1:(List.range n).countP (λw=>p (l.getD w 0).toNat)=((List.range n).map λw=>(l.getD w 0).toNat).countP p:=by rw[List.countP_map];rfl
 have e2:((List.range n).map λw=>(l.getD w 0).toNat)=l.map Int.toNat:=by apply List.ext_getElem (by simp[hl]);intro i h1 h2;simp only[xW] at h2;simp only[wm,List.getElem_range,Qd h2]
 have e3:(l.map Int.toNat).Perm (List.range n):=by
  have:=h.map Int.toNat;rw[xZ] at this;have e:(Int.toNat ∘ λ(w:Nat)=>(w:Int))=id:=by funext w;rfl
  rwa [e,List.map_id] at this
 rw[e1,e2,e3.countP_eq]
theorem MT:∀ {m:SMp}{k:List UInt8}{v:Int},(m.map (·.1)).Nodup->((Xb .st m k v).map (·.1)).Nodup/\∀ x∈(Xb .st m k v).map (·.1),x=k\/x∈m.map (·.1)
 |[],k,v,_=>⟨by show ([k]:List (List UInt8)).Nodup;simp,λx hx=>.inl (zK.1 hx)⟩
 |(a,b)::m,k,v,h=>by
  rw[zS,zO] at h;have e:Xb .st ((a,b)::m) k v=if gq.keq .st k a=true then (k,v)::m else (a,b)::Xb .st m k v:=rfl
  rw[e];split
  .rename_i c;have c:=(Q22 k a).1 c;subst c;rw[zS,zO];exact⟨h,λx hx=>.inr hx⟩
  .rename_i c;obtain⟨i1,i2⟩:=MT (k:=k) (v:=v) h.2;rw[zS,zO];refine⟨⟨λhx=>?_,i1⟩,λx hx=>?_⟩
   .rcases i2 _ hx with hx|hx
    .exact c ((Q22 k a).2 hx.symm)
    .exact h.1 hx
   .rcases zD.1 hx with hx|hx
    .exact .inr (zD.2 (.inl hx))
    .rcases i2 x hx with hx|hx
     .exact .inl hx
     .exact .inr (zA _ hx)
theorem Ls:∀ {m:SMp}{e:List UInt8×Int},(m.map (·.1)).Nodup->e∈m->gq.aget .st m e.1 0=e.2
 |(a,b)::m,e,h,he=>by
  rw[zS,zO] at h;show (if gq.keq .st e.1 a=true then b else gq.aget .st m e.1 0)=e.2;rcases zD.1 he with he|he
  .subst he;rw[z6 ((Q22 _ _).2 rfl)]
  .rw[z7 λc=>h.1 (by rw[<-(Q22 e.1 a).1 c];exact x7.2 ⟨e,he,rfl⟩)];exact Ls h.2 he
theorem TK (ey wa:List (List UInt8)):∀ i,((lfM ey wa i).map (·.1)).Nodup
 |0=>List.nodup_nil
 |i+1=>(MT (MT (TK ey wa i)).1).1
theorem EF {ey wa:List (List UInt8)}{i:Nat}:okL (lfM ey wa i)=true<->∀ c,Xd (λj=>c==ey.getD j []) i=Xd (λj=>c==wa.getD j []) i:=by
 constructor
 .intro h c;have hg:=UX ey wa i c;by_cases hm:c∈(lfM ey wa i).map (·.1)
  .obtain⟨e,he,rfl⟩:=x7.1 hm;have h0:=Ls (TK ey wa i) he;have:=zf.1 h e he;rw[zj] at this;omega
  .have:∀ {m:SMp},c∉m.map (·.1)->gq.aget .st m c 0=0:=λ{m} hm=>by
    induction m with
    |nil=>rfl
    |cons e m ih =>rw[zS,zD,not_or] at hm;show (if gq.keq .st c e.1=true then e.2 else gq.aget .st m c 0)=0;rw[z7 λh=>hm.1 ((Q22 _ _).1 h)];exact ih hm.2
   have:=this hm;omega
 .intro h;rw[okL,zf];intro e he;have h0:=Ls (TK ey wa i) he;rw[UX,h e.1] at h0;rw[zj];omega
def hkC (rows:List Int) (h:Int):List UInt8:=rows.map λr=>if r.toNat.testBit h.toNat then 120 else 46
theorem Q3r {lw rows:List Int}{j:Nat}(hj:j<lw.length):(eyF lw rows).getD j []=hkC rows (lw.getD j 0):=by rw[eyF,Bs _ hj,Ep,xZ,hkC];refine x4 λr _=>?_;exact OE hj
def Kz (rg sn:List (List UInt8)) (w e:Nat):Bool:=(List.range sn.length).all λp=>(sn.getD p []).getD w 0==(rg.getD p []).getD e 0
abbrev TSt:=List Int×Int×Int
def tLf (l:List Int) (wr:Int) (s:TSt):TSt:=(if s.2.2=0\/wr<s.2.1 then l else s.1,if s.2.2=0\/wr<s.2.1 then wr else s.2.1,s.2.2+1)
def mrR (lw:List Int) (w e:Nat):Int:=if lw.getD e 0≠lw.getD w 0 then 1 else 0
def N1 (lw:List Int) (rg sn:List (List UInt8)):Nat->List Int->List Bool->Int->TSt->TSt
 |0,l,_,wr,s=>tLf l wr s
 |k+1,l,us,wr,s=>(List.range lw.length).foldl (λs e=>if (us.getD e false||!Kz rg sn l.length e)=true then s else N1 lw rg sn k (l++[(e:Int)]) (us.set e true) (wr+mrR lw l.length e) s) s
def D3 (lw:List Int) (rg sn:List (List UInt8)) (k:Nat) (l:List Int) (us:List Bool) (wr:Int) (s:TSt) (e:Nat):TSt:=(List.range e).foldl (λs e=>if (us.getD e false||!Kz rg sn l.length e)=true then s else N1 lw rg sn k (l++[(e:Int)]) (us.set e true) (wr+mrR lw l.length e) s) s
theorem L3 (lw:List Int) (rg sn:List (List UInt8)) (k:Nat) (l:List Int) (us:List Bool) (wr:Int) (s:TSt):D3 lw rg sn k l us wr s 0=s:=rfl
theorem Nr (lw:List Int) (rg sn:List (List UInt8)) (k:Nat) (l:List Int) (us:List Bool) (wr:Int) (s:TSt) (e:Nat):D3 lw rg sn k l us wr s (e+1)=if (us.getD e false||!Kz rg sn l.length e)=true then D3 lw rg sn k l us wr s e else N1 lw rg sn k (l++[(e:Int)]) (us.set e true) (wr+mrR lw l.length e) (D3 lw rg sn k l us wr s e):=by unfold D3;rw[List.range_succ,List.foldl_append];rfl
theorem RG (lw:List Int) (rg sn:List (List UInt8)) (k:Nat) (l:List Int) (us:List Bool) (wr:Int) (s:TSt):N1 lw rg sn (k+1) l us wr s=D3 lw rg sn k l us wr s lw.length:=rfl
theorem Be (lw:List Int) (rg sn:List (List UInt8)):∀ (k:Nat) (l:List Int) (us:List Bool) (wr:Int) (s:TSt),s.2.2<=(N1 lw rg sn k l us wr s).2.2/\(N1 lw rg sn k l us wr s).2.2<=s.2.2+(lw.length ^ k:Nat)
 |0,l,us,wr,s=>by simp only[N1,tLf,Nat.pow_zero];omega
 |k+1,l,us,wr,s=>by
  rw[RG];have:∀ e,s.2.2<=(D3 lw rg sn k l us wr s e).2.2/\(D3 lw rg sn k l us wr s e).2.2<=s.2.2+(e*lw.length ^ k:Nat):=λe=>by
   induction e with
   |zero=>rw[L3];omega
   |succ e ih =>
    rw[Nr,Nat.succ_mul];split
    .omega
    .have:=Be lw rg sn k (l++[(e:Int)]) (us.set e true) (wr+mrR lw l.length e) (D3 lw rg sn k l us wr s e);omega
  have:=this lw.length;rw[Nat.pow_succ,xY];exact this
def wrP (lw d:List Int) (k:Nat):Int:=Xd (λj=>lw.getD (d.getD j 0).toNat 0 != lw.getD j 0) k
def AZ (n:Nat) (fit:Nat->Nat->Bool):Nat->List Int->List Bool->List (List Int)
 |0,l,_=>[l]
 |k+1,l,us=>(List.range n).flatMap λe=>if (us.getD e false||!fit l.length e)=true then [] else AZ n fit k (l++[(e:Int)]) (us.set e true)
theorem U7 {α β γ:Type}(f:α->List β) (g:γ->β->γ):∀ (l:List α) (s:γ),(l.flatMap f).foldl g s=l.foldl (λs a=>(f a).foldl g s) s
 |[],s=>rfl
 |a::l,s=>by rw[List.flatMap_cons,List.foldl_append,xu,U7 f g l]
theorem MU {α γ:Type}{f g:γ->α->γ}:∀ {l:List α}(s:γ),(∀ a∈l,∀ s,f s a=g s a)->l.foldl f s=l.foldl g s
 |[],s,_=>rfl
 |a::l,s,h=>by rw[xu,xu,h a (zl ..),MU _ λb hb=>h b (zA _ hb)]
theorem UJ {α:Type}{l m:List α}{j:Nat}{x:α}(h:j<l.length):(l++m).getD j x=l.getD j x:=by simp only[ze];rw[x9 h]
theorem K8 {α:Type}{l:List α}{a x:α}:(l++[a]).getD l.length x=a:=by simp only[ze];rw[xk (zd _),x_];rfl
theorem Om {lw l:List Int}{e:Nat}:wrP lw (l++[(e:Int)]) (l.length+1)=wrP lw l l.length+mrR lw l.length e:=by
 unfold wrP;rw[QZ,K8];congr 1
 .exact Z4 λj hj=>by rw[UJ hj]
 .rw[zp,mrR];simp only[bne_iff_ne]
theorem F7 (lw:List Int) (rg sn:List (List UInt8)):∀ (k:Nat) (l:List Int) (us:List Bool) (wr:Int) (s:TSt),wr=wrP lw l l.length->N1 lw rg sn k l us wr s=(AZ lw.length (Kz rg sn) k l us).foldl (λs d=>tLf d (wrP lw d d.length) s) s
 |0,l,us,wr,s,h=>by rw[h];rfl
 |k+1,l,us,wr,s,h=>by
  rw[AZ,U7,N1];refine MU s λe _ s=>?_;split
  .rfl
  .refine F7 lw rg sn k _ _ _ s ?_;rw[zo,zw,Om,h]
theorem S9 (f:List Int->Int):∀ (L:List (List Int)) (s:TSt),(L.foldl (λs d=>tLf d (f d) s) s).2.2=s.2.2+L.length
 |[],s=>by simp
 |d::L,s=>by rw[xu,S9 f L];simp only[tLf,xj];omega
theorem Sb (f:List Int->Int):∀ (L:List (List Int)) (s:TSt),0<s.2.2->(∀ d∈L,s.2.1<=f d)->(L.foldl (λs d=>tLf d (f d) s) s).1=s.1/\(L.foldl (λs d=>tLf d (f d) s) s).2.1=s.2.1
 |[],s,_,_=>⟨rfl,rfl⟩
 |d::L,s,h,hL=>by
  have h1:=hL d (zl ..);have e:tLf d (f d) s=(s.1,s.2.1,s.2.2+1):=by simp only[tLf];rw[z7 (by omega),z7 (by omega)]
  rw[xu,e];exact Sb f L _ (by dsimp only;omega) λb hb=>hL b (zA _ hb)
theorem S2 (f:List Int->Int) (m:Int) {b:List Int}:∀ (L:List (List Int)) (s:TSt),0<=s.2.2->(s.2.2=0\/m<s.2.1)->(∀ d∈L,m<=f d)->L.find? (λd=>f d==m)=some b->(L.foldl (λs d=>tLf d (f d) s) s).1=b/\(L.foldl (λs d=>tLf d (f d) s) s).2.1=m
 |[],s,_,_,_,h=>by cases h
 |d::L,s,h0,hs,hL,h=>by
  rw[List.find?_cons] at h;rw[xu];have hd:=hL d (zl ..);have sB:∀ x∈L,m<=f x:=λx hx=>hL x (zA _ hx);cases c:(f d==m) with
  |true =>
   rw[c] at h;obtain rfl:=osj h;have c:=zj.1 c;have e:tLf d (f d) s=(d,f d,s.2.2+1):=by simp only[tLf];rw[z6 (by omega),z6 (by omega)]
   rw[e];obtain⟨h1,h2⟩:=Sb f L (d,f d,s.2.2+1) (by dsimp only;omega) λx hx=>by dsimp only;rw[c];exact sB x hx
   exact⟨h1,h2.trans c⟩
  |false =>
   rw[c] at h;have c:f d≠m:=by rw[zB] at c;exact c
   refine S2 f m L _ (by simp only[tLf];omega) (.inr ?_) sB h;simp only[tLf];split<;>omega
structure UsI (n:Nat) (l:List Int) (us:List Bool):Prop where
 len:us.length=n
 us:∀ e:Nat,e<n->us.getD e false=decide ((e:Int)∈l)
 nd:l.Nodup
 mem:∀ x∈l,∃ e:Nat,x=e/\e<n
theorem Mu {us:List Bool}{e j:Nat}{b:Bool}(he:e<us.length):(us.set e b).getD j false=if j=e then b else us.getD j false:=by
 simp only[ze];by_cases c:j=e
 .subst c;rw[List.getElem?_set_self he,z6 rfl];rfl
 .rw[List.getElem?_set_ne (by omega),z7 c]
theorem UsI.step {n:Nat}{l:List Int}{us:List Bool}(I:UsI n l us) {e:Nat}(he:e<n) (hu:us.getD e false=false):UsI n (l++[(e:Int)]) (us.set e true):=by
 have h1:(e:Int)∉l:=by have:=I.us e he;rw[hu] at this;exact of_decide_eq_false this.symm
 refine⟨by rw[xi,I.len],λj hj=>?_,List.nodup_append.2 ⟨I.nd,by simp,λa ha b hb c=>h1 (by rw[zK.1 hb] at c;rw[<-c];exact ha)⟩,λx hx=>?_⟩
 .rw[Mu (by rw[I.len];exact he)];by_cases c:j=e
  .subst c;simp
  .rw[z7 c,I.us j hj];have:(j:Int)≠e:=by omega
   simp[this]
 .rcases zR.1 hx with hx|hx
  .exact I.mem x hx
  .exact⟨e,zK.1 hx,he⟩
theorem UsI.zero (n:Nat):UsI n [] (List.replicate n false):=⟨xy,λe he=>by simp[ze,he],List.nodup_nil,λx hx=>by cases hx⟩
structure CpI (n:Nat) (fit:Nat->Nat->Bool) (l d:List Int):Prop where
 nd:d.Nodup
 mem:∀ x∈d,∃ e:Nat,x=e/\e<n
 pre:∀ i,i<l.length->d.getD i 0=l.getD i 0
 fit:∀ i,l.length<=i->i<d.length->fit i (d.getD i 0).toNat=true
theorem Tr {n:Nat}{fit:Nat->Nat->Bool}:∀ (k:Nat) (l:List Int) (us:List Bool),UsI n l us->∀ d∈AZ n fit k l us,d.length=l.length+k/\CpI n fit l d
 |0,l,us,I,d,h=>by obtain rfl:=zK.1 h;exact⟨rfl,I.nd,I.mem,λ_ _=>rfl,λi h1 h2=>by omega⟩
 |k+1,l,us,I,d,h=>by
  obtain⟨e,he,hd⟩:=List.mem_flatMap.1 h;have he:=zL.1 he;split at hd
  .cases hd
  .rename_i c;rw[x5,Bool.or_eq_false_iff,zV] at c;obtain⟨h1,h2⟩:=Tr k _ _ (I.step he c.1) d hd;rw[zo,zw] at h1;refine⟨by omega,h2.nd,h2.mem,λi hi=>by rw[h2.pre i (by simp;omega),UJ hi],λi i1 i2=>?_⟩;by_cases ci:i=l.length
   .subst ci;rw[h2.pre _ (by simp),K8,zp];exact c.2
   .exact h2.fit i (by simp;omega) i2
def cN:List (List UInt8)->List (List UInt8)->Nat
 |[],_=>1
 |c::ws,es=>es.count c*cN ws (es.erase c)
theorem Ig:∀ {ws es bC:List (List UInt8)},es.Perm bC->cN ws es=cN ws bC
 |[],_,_,_=>rfl
 |c::ws,es,bC,h=>by rw[cN,cN,h.count_eq,Ig (h.erase c)]
def prF:List (List UInt8)->Nat
 |[]=>1
 |c::es=>(es.count c+1)*prF es
theorem A8 {a b:List (List UInt8)}(h:a.Perm b):prF a=prF b:=by
 induction h with
 |nil=>rfl
 |cons x h ih=>rw[prF,prF,ih,h.count_eq]
 |swap x y l =>
  simp only[prF,List.count_cons];by_cases c:x=y
  .subst c;rfl
  .have h1:(x==y)=false:=by rw[zB];exact c
   have h2:(y==x)=false:=by rw[zB];exactλh=>c h.symm
   rw[h1,h2];simp only[zz,if_false,zU];rw[<-Nat.mul_assoc,<-Nat.mul_assoc,xY (l.count y+1)]
 |trans _ _ h1 h2=>rw[h1,h2]
theorem Q4g:∀ {ws es:List (List UInt8)},ws.Perm es->cN ws es=prF es
 |[],es,h=>by rw[List.nil_perm.1 h];rfl
 |c::ws,es,h=>by have hm:c∈es:=h.mem_iff.1 (zl ..);have hp:=List.perm_cons_erase hm;have h2:ws.Perm (es.erase c):=(h.trans hp).cons_inv;rw[A8 hp,prF,cN,Q4g h2,hp.count_eq,List.count_cons_self]
theorem Fc:∀ {ws es:List (List UInt8)},ws.length=es.length->¬ ws.Perm es->cN ws es=0
 |[],es,hl,h=>by have:es=[]:=xq.1 (by rw[<-hl];rfl);subst this;exact(h (List.Perm.refl _)).elim
 |c::ws,es,hl,h=>by
  rw[cN];by_cases hm:c∈es
  .have hp:=List.perm_cons_erase hm;have b9:=hp.length_eq;simp only[xj] at hl b9;rw[Fc (by omega) λh2=>h ((h2.cons c).trans hp.symm),Nat.mul_zero]
  .rw[List.count_eq_zero_of_not_mem hm,Nat.zero_mul]
def frL (n:Nat) (us:List Bool):List Nat:=(List.range n).filter λe=>!us.getD e false
theorem Q1q {n:Nat}{us:List Bool}(hl:us.length=n) {e:Nat}(he:e<n) (hu:us.getD e false=false):(frL n us).Perm (e::frL n (us.set e true)):=by
 have nd:∀ us,(frL n us).Nodup:=λus=>List.Nodup.sublist List.filter_sublist List.nodup_range;have hm:∀ us j,j∈frL n us<->j<n/\us.getD j false=false:=λus j=>by simp[frL]
 refine (xT (nd us) (zO.2 ⟨λh=>?_,nd _⟩)).2 λj=>?_
 .have:=((hm _ _).1 h).2;rw[Mu (by omega),z6 rfl] at this;cases this
 .rw[zD,hm,hm,Mu (by omega)];by_cases c:j=e
  .subst c;exact⟨λ_=>.inl rfl,λ_=>⟨he,hu⟩⟩
  .simp[c]
def Q39:List Nat->Nat
 |[]=>0
 |a::l=>a+Q39 l
theorem Hc {α β:Type}(f:α->List β):∀ l:List α,(l.flatMap f).length=Q39 (l.map λa=>(f a).length)
 |[]=>rfl
 |a::l=>by rw[List.flatMap_cons,zo,Hc f l,zS,Q39]
theorem FE {p q:Nat->Bool}{x:Nat}:∀ l:List Nat,Q39 (l.map λe=>if p e=true then 0 else if q e=true then x else 0)=((l.filter λe=>!p e).countP q)*x
 |[]=>(Nat.zero_mul _).symm
 |e::l=>by
  rw[zS,Q39,FE l];cases hp:p e with
  |true=>rw[z6 rfl,List.filter_cons,hp];simp
  |false =>rw[z7 (by simp),List.filter_cons,hp];simp only[xK,zx];rw[List.countP_cons,zH];cases hq:q e<;>simp<;>omega
theorem Ac {n:Nat}{ey wa:List (List UInt8)}{fit:Nat->Nat->Bool}(hf:∀ w e,w<n->e<n->fit w e=(ey.getD e []==wa.getD w [])):∀ (k:Nat) (l:List Int) (us:List Bool),UsI n l us->l.length+k=n->(AZ n fit k l us).length=cN ((List.range k).map λi=>wa.getD (l.length+i) []) ((frL n us).map λe=>ey.getD e [])
 |0,l,us,_,_=>rfl
 |k+1,l,us,I,hn=>by
  have e1:∀ e∈List.range n,(if (us.getD e false||!fit l.length e)=true then ([]:List (List Int)) else AZ n fit k (l++[(e:Int)]) (us.set e true)).length=if us.getD e false=true then 0 else if (ey.getD e []==wa.getD l.length [])=true then cN ((List.range k).map λi=>wa.getD (l.length+1+i) []) (((frL n us).map λe=>ey.getD e []).erase (wa.getD l.length [])) else 0:=λe he=>by
   have he:=zL.1 he;rw[hf l.length e (by omega) he];cases hu:us.getD e false with
   |true=>simp
   |false =>
    cases hc:(ey.getD e []==wa.getD l.length []) with
    |false=>simp
    |true =>simp only[Bool.false_or,xQ,zz,if_false,zx];have hp:=(Q1q I.len he hu).map λe=>ey.getD e [];rw[zS,zj.1 hc] at hp;have dK:=hp.erase (wa.getD l.length []);rw[List.erase_cons_head] at dK;rw[Ig dK,Ac hf k _ _ (I.step he hu) (by simp;omega),zo,zw]
  rw[AZ,Hc,x4 e1,FE];have e2:(List.range (k+1)).map (λi=>wa.getD (l.length+i) [])=wa.getD l.length []::(List.range k).map λi=>wa.getD (l.length+1+i) []:=by rw[List.range_succ_eq_map,zS,xZ];congr 1;exact x4 λi _=>by show wa.getD (l.length+(i+1)) []=_;rw[show l.length+(i+1)=l.length+1+i by omega]
  rw[e2,cN];congr 1;rw[List.count,List.countP_map];rfl
theorem P_ (f:Nat->List UInt8) (c:List UInt8) (n:Nat):((((List.range n).map f).count c:Nat):Int)=Xd (λj=>c==f j) n:=by unfold Xd;rw[List.count,List.countP_map];congr 1;refine List.countP_congr λj _=>?_;simp only[Function.comp,zj];exact eq_comm
theorem SP:∀ {m:SMp}{c:List UInt8},(∀ e∈m,0<=e.2)->Yt (Xb .st m c (gq.aget .st m c 0+1))=Yt m*(gq.aget .st m c 0+1)/\0<=gq.aget .st m c 0
 |[],c,_=>by show Yt [(c,0+1)]=Yt []*(0+1)/\(0:Int)<=0;refine⟨?_,Int.le_refl _⟩;simp[Yt,Jc]
 |(a,b)::m,c,h=>by
  have e1:Xb .st ((a,b)::m) c (gq.aget .st ((a,b)::m) c 0+1)=if gq.keq .st c a=true then (c,gq.aget .st ((a,b)::m) c 0+1)::m else (a,b)::Xb .st m c (gq.aget .st ((a,b)::m) c 0+1):=rfl
  have e2:gq.aget .st ((a,b)::m) c 0=if gq.keq .st c a=true then b else gq.aget .st m c 0:=rfl
  have hb:0<=b:=h (a,b) (zl ..);rw[e1,e2];by_cases k:gq.keq .st c a=true
  .rw[z6 k,z6 k];refine⟨?_,hb⟩;obtain⟨x,rfl⟩:=zY hb;have:((x:Int)+1).toNat=x+1:=by omega
   simp only[Yt,this,Jc,zp,Int.mul_assoc]
  .rw[z7 k,z7 k];obtain⟨i1,i2⟩:=SP (m:=m) (c:=c) λe he=>h e (zA _ he);refine⟨?_,i2⟩;simp only[Yt];rw[i1,Int.mul_right_comm]
theorem Li (ey:List (List UInt8)):∀ i,Yt (eyM ey i)=(prF ((List.range i).map λj=>ey.getD j []).reverse:Nat)
 |0=>rfl
 |i+1=>by
  have cT:∀ e∈eyM ey i,0<=e.2:=λe he=>by have:=Ix ey i e he;omega
  rw[eyM,Q0e,(SP cT).1,Li ey i,Ml,List.range_succ,xC,List.reverse_append];show _=((prF (ey.getD i []::((List.range i).map λj=>ey.getD j []).reverse):Nat):Int);rw[prF,List.count_reverse,Int.natCast_mul,Int.natCast_add,P_,Int.mul_comm];rfl
theorem O6 {n:Nat}{ey wa:List (List UInt8)}{fit:Nat->Nat->Bool}(hf:∀ w e,w<n->e<n->fit w e=(ey.getD e []==wa.getD w [])):((AZ n fit n [] (List.replicate n false)).length:Int)=if okL (lfM ey wa n)=true then Yt (eyM ey n) else 0:=by
 rw[Ac hf n [] _ (UsI.zero n) (by simp)];have e1:(List.range n).map (λi=>wa.getD (([]:List Int).length+i) [])=(List.range n).map λi=>wa.getD i []:=x4 λi _=>by simp
 have e2:frL n (List.replicate n false)=List.range n:=by unfold frL;refine List.filter_eq_self.2 λe he=>?_;have he:=zL.1 he;simp[ze,he]
 rw[e1,e2];have hp:((List.range n).map λi=>wa.getD i []).Perm ((List.range n).map λe=>ey.getD e [])<->okL (lfM ey wa n)=true:=by rw[List.perm_iff_count,EF];refine forall_congr' λc=>?_;rw[<-P_ (λj=>ey.getD j []),<-P_ (λj=>wa.getD j [])];omega
 by_cases h:okL (lfM ey wa n)=true
 .rw[z6 h,Q4g (hp.2 h),Li,A8 (List.reverse_perm _)]
 .rw[z7 h,Fc (by simp) λh2=>h (hp.1 h2)];rfl
theorem fsr {α:Type}{f:Nat->Option α}{e:Nat}{x:α}(h1:∀ j,j<e->f j=none) (h2:f e=some x):∀ {n:Nat},e<n->(List.range n).findSome? f=some x
 |0,h=>by omega
 |n+1,h=>by
  rw[List.range_succ,List.findSome?_append];by_cases c:e=n
  .subst c;rw[List.findSome?_eq_none_iff.2 λj hj=>h1 j (zL.1 hj)];simp[h2]
  .rw[fsr h1 h2 (show e<n by omega)];rfl
theorem Pt:∀ {a m:List Int},a.Nodup->(∀ x∈a,x∈m)->m.length<=a.length->a.Perm m
 |[],m,_,_,hl=>by rw[xq.1 (Nat.le_zero.1 hl)]
 |x::a,m,na,ha,hl=>by rw[zO] at na;have hp:=List.perm_cons_erase (ha x (zl ..));have b9:=hp.length_eq;simp only[xj] at hl b9;refine ((Pt na.2 (λy hy=>?_) (by omega)).cons x).trans hp.symm;exact(List.mem_erase_of_ne λc=>na.1 (by rw[<-c];exact hy)).2 (ha y (zA _ hy))
theorem IT {n:Nat}{d:List Int}(hl:d.length=n) (nd:d.Nodup) (hm:∀ x∈d,∃ e:Nat,x=e/\e<n):Q0o n d:=Pt nd (λx hx=>by
 obtain⟨e,h1,h2⟩:=hm x hx;exact x7.2 ⟨e,zL.2 h2,h1.symm⟩) (by simp[hl])
theorem OY {lw:List Int}{ey wa:List (List UInt8)}{F:Int->List UInt8}(sC:∀ j,j<lw.length->ey.getD j []=F (lw.getD j 0)) {d:List Int}(hd:∀ w,w<lw.length->(d.getD w 0).toNat<lw.length/\ey.getD (d.getD w 0).toNat []=wa.getD w []):wrF ey wa lw.length<=wrP lw d lw.length/\(wrP lw d lw.length=wrF ey wa lw.length->∀ w,w<lw.length->Qq ey wa w=true->lw.getD (d.getD w 0).toNat 0=lw.getD w 0):=by
 have sub:∀ j,j<lw.length->(!Qq ey wa j)=true->(lw.getD (d.getD j 0).toNat 0 != lw.getD j 0)=true:=λj hj h=>by rw[bne_iff_ne];intro c;obtain⟨h1,h2⟩:=hd j hj;rw[sC _ h1,c,<-sC j hj] at h2;rw[Bool.not_eq_true',<-x5] at h;exact h (YP.2 h2.symm)
 rw[Rq];refine⟨YH sub,λh w hw hr=>?_⟩;refine Decidable.byContradiction λc=>?_;have h1:=JR (q:=λj=>lw.getD (d.getD j 0).toNat 0 != lw.getD j 0) hw;rw[z6 (by rw[bne_iff_ne];exact c)] at h1;have h2:=YH (p:=λj=>!Qq ey wa j) (q:=λj=>(lw.getD (d.getD j 0).toNat 0 != lw.getD j 0)&&j != w) (n:=lw.length) λj hj h=>by rw[sub j hj h,Bool.true_and,bne_iff_ne];rintro rfl;rw[hr] at h;cases h
 unfold wrP at h;omega
theorem Ps {lw:List Int}{ey wa:List (List UInt8)}{K:Nat}{F:Int->List UInt8}(H:FindHyp lw ey wa K F) {fit:Nat->Nat->Bool}(hf:∀ w e,w<lw.length->e<lw.length->fit w e=(ey.getD e []==wa.getD w [])):∀ (k j:Nat) (us:List Bool),j+k=lw.length->UsI lw.length (XH lw ey wa j).1 us->(AZ lw.length fit k (XH lw ey wa j).1 us).find? (λd=>wrP lw d d.length==wrF ey wa lw.length)=some (No lw ey wa)
 |0,j,us,hj,I=>by
  obtain rfl:j=lw.length:=by omega
  have V:=PY H lw.length (zd _);have eF:∀ w,w<lw.length->((No lw ey wa).getD w 0).toNat<lw.length:=λw hw=>by
   have hl:w<(No lw ey wa).length:=by rw[show (No lw ey wa).length=lw.length from V.len];exact hw
   rw[Qd hl];obtain⟨e,h1,h2⟩:=V.mem _ (zq hl);show Int.toNat (No lw ey wa)[w]<_;rw[show (No lw ey wa)[w]=(e:Int) from h1];omega
  have e:wrP lw (No lw ey wa) (No lw ey wa).length=wrF ey wa lw.length:=by rw[show (No lw ey wa).length=lw.length from V.len,Rq];refine Z4 λw hw=>?_;have ho:ey.getD ((No lw ey wa).getD w 0).toNat []=wa.getD w []/\(Qq ey wa w=true->lw.getD ((No lw ey wa).getD w 0).toNat 0=lw.getD w 0):=V.ok w hw;rw[Bool.eq_iff_iff,bne_iff_ne,Bool.not_eq_true',<-x5];refine not_congr ⟨λc=>?_,λc=>ho.2 c⟩;have h1:=ho.1;rw[H.eyc _ (eF w hw)] at h1;have h2:=H.eyc w hw;rw[<-c] at h2;exact YP.2 (h1.symm.trans h2.symm)
  show List.find? _ [No lw ey wa]=_;rw[List.find?_cons,e,beq_self_eq_true]
 |k+1,j,us,hj,I=>by
  have V:=PY H j (by omega);have hlen:(XH lw ey wa j).1.length=j:=V.len;obtain⟨e0,mD,pk⟩:=RH H (show j<lw.length by omega) V;have hex:∃ e,(List.range lw.length).find? (Rz lw ey wa j (XH lw ey wa j))=some e:=by
   cases hf:(List.range lw.length).find? (Rz lw ey wa j (XH lw ey wa j)) with
   |none=>have:=List.find?_range_eq_none.1 hf e0 mD;rw[pk] at this;cases this
   |some e=>exact⟨e,rfl⟩
  obtain⟨e,sD⟩:=hex;obtain⟨h1,h2,h3⟩:=List.find?_range_eq_some.1 sD;have h2:=zL.1 h2;have aO:XH lw ey wa (j+1)=Oe lw ey wa j (XH lw ey wa j) e:=by rw[XH,sD]
  have hS:(XH lw ey wa (j+1)).1=(XH lw ey wa j).1++[(e:Int)]:=by rw[aO];rfl
  have oI:∀ e',Rz lw ey wa j (XH lw ey wa j) e'=(!decide ((e':Int)∈(XH lw ey wa j).1)&&(if Qq ey wa j=true then lw.getD e' 0==lw.getD j 0 else (ey.getD e' []==wa.getD j []&&decide (gq.aget (.i .i64) (XH lw ey wa j).2.1 (lw.getD e' 0) 0 > gq.aget (.i .i64) (XH lw ey wa j).2.2.1 (lw.getD e' 0) 0)))):=λe'=>by rw[Rz,V.used]
  rw[AZ,List.find?_flatMap];refine fsr (e:=e) (λe' o8=>?_) ?_ h2
  .
   have ai:e'<lw.length:=by omega
   split
   .rfl
   .rename_i c;rw[x5,Bool.or_eq_false_iff,zV,hlen,hf j e' (by omega) ai,zj] at c;obtain⟨hu,fC⟩:=c;refine List.find?_eq_none.2 λd hd=>?_;obtain⟨d1,D⟩:=Tr k _ _ (I.step ai hu) d hd;rw[zo,zw,hlen] at d1;have mJ:d.length=lw.length:=by omega
    rw[mJ,zj];intro hw;have sE:(e':Int)∉(XH lw ey wa j).1:=by have:=I.us e' ai;rw[hu] at this;exact of_decide_eq_false this.symm
    have rn:d.getD j 0=(e':Int):=by
     rw[D.pre j (by simp[hlen])];have:=@K8 Int (XH lw ey wa j).1 (e':Int) 0
     rwa [hlen] at this
    have ja:∀ i,i<j->d.getD i 0=(XH lw ey wa j).1.getD i 0:=λi hi=>by rw[D.pre i (by simp[hlen];omega),UJ (by omega)]
    have eF:∀ w,w<lw.length->(d.getD w 0).toNat<lw.length/\d.getD w 0=(((d.getD w 0).toNat:Nat):Int):=λw hw=>by
     have hl:w<d.length:=by omega
     rw[Qd hl];obtain⟨x,g1,g2⟩:=D.mem _ (zq hl);rw[g1];omega
    have hall:∀ w,w<lw.length->(d.getD w 0).toNat<lw.length/\ey.getD (d.getD w 0).toNat []=wa.getD w []:=λw hw=>by
     refine⟨(eF w hw).1,?_⟩;by_cases c1:w<j
     .rw[ja w c1];exact(V.ok w c1).1
     .by_cases c2:w=j
      .subst c2;rw[rn,zp];exact fC
      .have:=D.fit w (by simp[hlen];omega) (by omega);rw[hf w _ hw (eF w hw).1,zj] at this;exact this
    have je:=(OY H.eyc hall).2 hw;have mi:=h3 e' o8;rw[Bool.not_eq_true',oI,xL sE,xK,Bool.true_and] at mi;by_cases hr:Qq ey wa j=true
    .have:=je j (by omega) hr;rw[rn,zp] at this;rw[z6 hr,this,beq_self_eq_true] at mi;cases mi
    .rw[z7 hr,fC,beq_self_eq_true,Bool.true_and,zn,V.free,V.due] at mi;have jl:=IT mJ D.nd D.mem;have hc:=FU jl λi=>!decide ((i:Int)∈(XH lw ey wa j).1)&&lw.getD e' 0==lw.getD i 0;have hs:=JR (q:=λw=>!decide ((((d.getD w 0).toNat:Nat):Int)∈(XH lw ey wa j).1)&&lw.getD e' 0==lw.getD (d.getD w 0).toNat 0) (show j<lw.length by omega);rw[z6 (by rw[rn,zp,xL sE,beq_self_eq_true];rfl)] at hs;have hm:=YH (p:=λw=>(decide (j<=w)&&Qq ey wa w)&&lw.getD e' 0==lw.getD w 0) (q:=λw=>(!decide ((((d.getD w 0).toNat:Nat):Int)∈(XH lw ey wa j).1)&&lw.getD e' 0==lw.getD (d.getD w 0).toNat 0)&&w != j) (n:=lw.length) λw hw h=>by
      simp only[z1,zg,zj] at h;obtain⟨⟨a1,a2⟩,a3⟩:=h;have aK:w≠j:=by rintro rfl;exact hr a2
      have rp:(((d.getD w 0).toNat:Nat):Int)∉(XH lw ey wa j).1:=λaQ=>by rw[<-(eF w hw).2] at aQ;obtain⟨i,hi,rr⟩:=List.getElem_of_mem aQ;rw[hlen] at hi;have g1:=ja i hi;rw[Qd (show i<(XH lw ey wa j).1.length by omega),rr,Qd (show i<d.length by omega),Qd (show w<d.length by omega)] at g1;exact List.pairwise_iff_getElem.1 D.nd i w (by omega) (by omega) (by omega) g1
      simp only[z1,Bool.not_eq_true',xL rp,zj,bne_iff_ne];exact⟨⟨trivial,by rw[je w hw a2];exact a3⟩,aK⟩
     omega
  .have qg:fit j e=true:=by
    rw[hf j e (by omega) h2,zj];have:=RB H (show j<lw.length by omega) V h2 h1;rw[<-aO] at this;have:=(this.ok j (by omega)).1;rw[hS] at this;have h9:=@K8 Int (XH lw ey wa j).1 (e:Int) 0;rw[hlen] at h9
    rwa [h9,zp] at this
   have hu:us.getD e false=false:=by rw[I.us e h2];rw[oI,z1,Bool.not_eq_true'] at h1;exact h1.1
   rw[hlen,qg,hu];have:=Ps H hf k (j+1) (us.set e true) (by omega) (by rw[hS];exact I.step h2 hu);rw[hS] at this;exact this
theorem I3 {rg sn:List (List UInt8)}(hl:rg.length=sn.length) (w e:Nat):Kz rg sn w e=(Ep rg e==Ep sn w):=by
 rw[Bool.eq_iff_iff,zj,Kz,zf];constructor
 .intro h;apply List.ext_getElem (by simp[Ep,hl]);intro i h1 h2;simp only[Ep,xW] at h1 h2;have:=h i (zL.2 h2);rw[zj,Qd h1,Qd h2] at this;simp only[Ep,wm];exact this.symm
 .intro h p hp;have hp:=zL.1 hp;have h2:(Ep rg e)[p]?=(Ep sn w)[p]?:=by rw[h]
  simp only[Ep,xp,z8 hp,z8 (show p<rg.length by omega),xN] at h2;rw[zj,Qd hp,Qd (show p<rg.length by omega)];exact(osj h2).symm
def FQ (lw rows:List Int) (c:List (List UInt8)):TSt:=N1 lw (rows.map (Jj lw)) c lw.length [] (List.replicate lw.length false) 0 ([],0,0)
theorem EM {hk:Int}{lw:List Int}{hd:Int}{rows:List Int}{c:List (List UInt8)}(h0:Qj hk lw hd rows c=0) (h7:lw.length<=7) (uV:∀ x∈lw,0<=x/\x<hk) :
  Jl hk lw hd rows c=0/\S1 hk lw hd rows c=(FQ lw rows c).2.2/\((FQ lw rows c).2.2=0->Zl hk lw hd rows c=9/\GD hk lw hd rows c=[]/\Rx hk lw hd rows c=0)/\((FQ lw rows c).2.2≠0->Zl hk lw hd rows c=0/\GD hk lw hd rows c=(FQ lw rows c).1/\Rx hk lw hd rows c=(FQ lw rows c).2.1):=by
 obtain⟨-,bR,-⟩:=UR h0;have dH:∀ w e,w<lw.length->e<lw.length->Kz (rows.map (Jj lw)) c w e=((eyF lw rows).getD e []==(waF lw c).getD w []):=λw e hw he=>by rw[I3 (by simp[bR]),eyF,waF,Bs _ he,Bs _ hw]
 have e1:FQ lw rows c=(AZ lw.length (Kz (rows.map (Jj lw)) c) lw.length [] (List.replicate lw.length false)).foldl (λs d=>tLf d (wrP lw d d.length) s) ([],0,0):=F7 lw _ c _ _ _ _ _ rfl;have ru:=O6 (n:=lw.length) dH;have hm:(FQ lw rows c).2.2=((AZ lw.length (Kz (rows.map (Jj lw)) c) lw.length [] (List.replicate lw.length false)).length:Nat):=by rw[e1,S9];simp
 rw[ru] at hm;have hb:=(Be lw (rows.map (Jj lw)) c lw.length [] (List.replicate lw.length false) 0 ([],0,0)).2;change (FQ lw rows c).2.2<=0+((lw.length ^ lw.length:Nat):Int) at hb;have uW:lw.length ^ lw.length<=823543:=by
  have:∀ n,n<=7->n ^ n<=823543:=by decide
  exact this _ h7
 change (FQ lw rows c).2.2=if okF lw rows c=true then Yt (eyM (eyF lw rows) lw.length) else 0 at hm
 by_cases ok:okF lw rows c=true
 .rw[z6 ok] at hm;have c0:Jl hk lw hd rows c=0:=by rw[Jl,z7 (by rw[h0];simp),z7 (by rintro⟨_,h⟩;omega)]
  have f0:Zl hk lw hd rows c=0:=by rw[Zl,z7 (by rw[h0];simp),z6 ok]
  have pos:1<=Yt (eyM (eyF lw rows) lw.length):=by rw[Tv];refine Af λx hx=>?_;obtain⟨e,_,rfl⟩:=x7.1 hx;exact WD _
  refine⟨c0,by rw[S1,z6 ⟨c0,ok⟩,hm],λh=>by omega,λ_=>?_⟩;have H:FindHyp lw (eyF lw rows) (waF lw c) hk.toNat (hkC rows):=⟨λj hj=>by
   have:=uV _ (zq hj);rw[Qd hj];omega,λj hj=>Q3r hj,EF.1 ok⟩
  have jU:=Ps H dH lw.length 0 (List.replicate lw.length false) (by simp) (UsI.zero _);have hall:∀ d∈AZ lw.length (Kz (rows.map (Jj lw)) c) lw.length [] (List.replicate lw.length false),wrF (eyF lw rows) (waF lw c) lw.length<=wrP lw d d.length:=λd hd=>by
   obtain⟨d1,D⟩:=Tr _ _ _ (UsI.zero _) d hd;have d1:d.length=lw.length:=by simpa using d1
   rw[d1];refine (OY H.eyc λw hw=>?_).1;have hl:w<d.length:=by omega
   have ai:(d.getD w 0).toNat<lw.length:=by rw[Qd hl];obtain⟨x,g1,g2⟩:=D.mem _ (zq hl);rw[g1];omega
   refine⟨ai,?_⟩;have:=D.fit w (Nat.zero_le _) hl;rw[dH w _ hw ai,zj] at this;exact this
  obtain⟨b1,b2⟩:=S2 (λd=>wrP lw d d.length) _ _ ([],0,0) (Int.le_refl _) (.inl rfl) hall jU;rw[<-e1] at b1 b2;exact⟨f0,by rw[GD,z6 f0,b1],by rw[Rx,z6 f0,b2]⟩
 .rw[z7 ok] at hm;have c0:Jl hk lw hd rows c=0:=by rw[Jl,z7 (by rw[h0];simp),z7 (by rintro⟨h,_⟩;exact ok h)]
  have f9:Zl hk lw hd rows c=9:=by rw[Zl,z7 (by rw[h0];simp),z7 ok]
  refine⟨c0,by rw[S1,z7 (by rintro⟨_,h⟩;exact ok h),hm],λ_=>⟨f9,by rw[GD,z7 (by rw[f9];simp)],by rw[Rx,z7 (by rw[f9];simp)]⟩,λh=>by omega⟩
end Go.Proofs.Tryz