/- A framework for walks, contracts of functions, and their proofs: part 6. -/
import Derived.ProofKit
import Derived.OpenShut
import Derived.LaidMore
import Derived.Carry
import Derived.Lib.SmallJoins
import Derived.Deep.Slices
import Derived.Test.YtcnhdiidemfeaaaDoorN5
noncomputable section
set_option linter.unusedVariables false
set_option maxRecDepth 100000
namespace Go.Proofs.Tryd
open Go Go.V Go.Proofs
def tzK:Nat->Nat->Nat
 |0,_=>0
 |f+1,n=>if n % 2=1 then 0 else 1+tzK f (n / 2)
def tzN (n:Nat):Nat:=if n=0 then 64 else tzK 64 n
theorem IT:∀ f n,0<n->n<2 ^ f->tzK f n<f/\∃ m,n=2 ^ tzK f n*(2*m+1)
 |0,n,h0,h1=>by simp at h1;omega
 |f+1,n,h0,h1=>by
  unfold tzK;split
  .rename_i h;exact⟨by omega,n / 2,by omega⟩
  .rename_i h;have hp:2 ^ (f+1)=2*2 ^ f:=by rw[Nat.pow_succ];omega
   obtain⟨h2,m,h3⟩:=IT f (n / 2) (by omega) (by omega);refine⟨by omega,m,?_⟩;rw[xX,Nat.pow_succ,wC (2 ^ _) 2,Nat.mul_assoc,<-h3];omega
theorem Gg {n:Nat}(h0:0<n) (h1:n<2 ^ 64):tzN n<64/\∃ m,n=2 ^ tzN n*(2*m+1):=by unfold tzN;rw[z0 (by omega)];exact IT 64 n h0 h1
theorem Eo {t m:Nat}(i:Nat):(2 ^ t*(2*m+1)-1).testBit i=if i<t then true else if i=t then false else (2 ^ t*(2*m+1)).testBit i:=by
 have hp:0<2 ^ t:=Nat.two_pow_pos t;have e:2 ^ t*(2*m+1)-1=2 ^ t*(2*m)+(2 ^ t-1):=by rw[Nat.mul_add,wA];omega
 rw[e,Nat.testBit_two_pow_mul_add _ (by omega)];split
 .rename_i h;rw[Nat.testBit_two_pow_sub_one];simpa using h
 .rename_i h;split
  .rename_i h2;subst h2;simp
  .rename_i h2;rw[Nat.testBit_two_pow_mul];obtain⟨k,hk⟩:∃ k,i-t=k+1:=⟨i-t-1,by omega⟩;have hd:decide (i>=t)=true:=zn (by omega);rw[hd,hk,Nat.testBit_succ,Nat.testBit_succ,Bool.true_and];congr 1;omega
theorem Q8e {n:Nat}(h0:0<n) (h1:n<2 ^ 64):n &&& (2 ^ 64-n)=2 ^ tzN n:=by
 obtain⟨ht,m,hm⟩:=Gg h0 h1;generalize tzN n=t at *
 refine Nat.eq_of_testBit_eq λi=>?_;have e:2 ^ 64-n=2 ^ 64-((n-1)+1):=by omega
 rw[Nat.testBit_and,e,Nat.testBit_two_pow_sub_succ (by omega),Nat.testBit_two_pow,hm,Eo];by_cases h2:i<t
 .rw[z6 h2,Nat.testBit_two_pow_mul,zU (show ¬ i>=t by omega),zU (show ¬ t=i by omega)];rfl
 .rw[z0 h2];by_cases h3:i=t
  .subst h3;rw[z6 rfl,Nat.testBit_two_pow_mul];simp;omega
  .rw[z0 h3,zU (show ¬ t=i by omega)];cases (2 ^ t*(2*m+1)).testBit i<;>simp
theorem TG {n:Nat}(h0:0<n) (h1:n<2 ^ 64) (i:Nat):(n &&& (n-1)).testBit i=(n.testBit i&&!decide (i=tzN n)):=by
 obtain⟨ht,m,hm⟩:=Gg h0 h1;generalize tzN n=t at *
 rw[Nat.testBit_and,hm,Eo];by_cases h2:i<t
 .rw[z6 h2,zU (by omega)];simp
 .rw[z0 h2];by_cases h3:i=t
  .rw[z6 h3,zn h3];simp
  .rw[z0 h3,zU h3];simp
def Ib:Nat->Nat->List Int
 |0,_=>[]
 |f+1,n=>if n=0 then [] else (tzN n:Int)::Ib f (n &&& (n-1))
def XG (n:Nat):List Int:=Ib n n
theorem F5:∀ f g n,n<=f->n<=g->Ib f n=Ib g n
 |0,g,n,h1,_=>by
  have:n=0:=by omega
  subst this;cases g<;>simp[Ib]
 |f+1,0,n,_,h2=>by
  have:n=0:=by omega
  subst this;simp[Ib]
 |f+1,g+1,n,h1,h2=>by
  unfold Ib;by_cases h:n=0
  .rw[z6 h,z6 h]
  .rw[z0 h,z0 h];have:=Nat.and_le_right (n:=n) (m:=n-1);rw[F5 f g _ (by omega) (by omega)]
theorem Q2s {n:Nat}(h:0<n):XG n=(tzN n:Int)::XG (n &&& (n-1)):=by
 have:=Nat.and_le_right (n:=n) (m:=n-1);unfold XG;obtain⟨f,rfl⟩:∃ f,n=f+1:=⟨n-1,by omega⟩;conv=>lhs;unfold Ib
 rw[z0 (by omega),F5 f _ _ (by omega) (zd _)]
theorem Q3s:XG 0=[]:=rfl
theorem Z1s:∀ t:Nat,t<64->Go.V.t64[(2 ^ t*285870213051353865 % 18446744073709551616) / 288230376151711744]?=some (t:Int):=by decide +kernel
def czT:VCode :=
 .seq (.region [
  ⟨(some 2),.move (.const (.int .i64 (0))),none⟩])
 (.seq (.seq (.region [
  ⟨(some 3),.move (.tmp 0),none⟩,
  ⟨(some 4),.cmp .eql (.tmp 3) (.const (.int .u64 (0))),none⟩])
 (.cond (.tmp 4) (.seq (.region [
   ⟨(some 2),.move (.const (.int .i64 (64))),none⟩])
  (.ret))
  (.skip)))
 (.seq (.region [
  ⟨(some 5),.move (.tmp 0),none⟩,
  ⟨(some 6),.move (.tmp 0),none⟩,
  ⟨(some 7),.un .neg (.tmp 6),none⟩,
  ⟨(some 8),.bits .and (.tmp 5) (.tmp 7),none⟩,
  ⟨(some 9),.arith .mul (.tmp 8) (.const (.int .u64 (285870213051353865))),none⟩,
  ⟨(some 10),.shift .shr (.tmp 9) (.const (.int .u64 (58))),none⟩,
  ⟨(some 11),.indexAddrArr 64 1 (.global 0) (.tmp 10),none⟩,
  ⟨(some 12),.load false 1 (.tmp 11),none⟩,
  ⟨(some 13),.convI .i64 (.tmp 12),none⟩,
  ⟨(some 2),.move (.tmp 13),none⟩])
 (.ret)))
theorem Vz {S:VSpecs}{op:VOp}{d:Option Nat}{l:List VOper}{env:Env}{U:Heap}{K:Env->Heap->Prop}(v:Value) (h:∀ Q:Value->Heap->Prop,Q v U->vop S op env U Q) (hK:S2 S l (X6 env d v) U K):S2 S (⟨d,op,none⟩::l) env U K:=by show vif true _ _;exact⟨λ_=>h _ hK,λh=>by cases h⟩
theorem Q95 {S:VSpecs}{op:BinOp}{x y:Operand}{env:Env}{U:Heap}{Q:Value->Heap->Prop}{k:IntKind}{a b:Int}(hx:Q4 env x=.int k a) (hy:Q4 env y=.int k b) (h:Q (.bool (Z1n op a b)) U):vop S (.cmp op x y) env U Q:=by simp only[vop,Q7,hx,hy,zz,QV];exact h
theorem Q4j {S:VSpecs}{op:BinOp}{x y:Operand}{env:Env}{U:Heap}{Q:Value->Heap->Prop}{k:IntKind}{a b:Int}(hx:Q4 env x=.int k a) (hy:Q4 env y=.int k b) (h:Q (.int k (QM op k a b)) U):vop S (.bits op x y) env U Q:=by simp only[vop,Q7,hx,hy,zz,QV];exact h
theorem Q1i {S:VSpecs}{op:BinOp}{x y:Operand}{env:Env}{U:Heap}{Q:Value->Heap->Prop}{k:IntKind}{a b:Int}(hx:Q4 env x=.int k a) (hy:Q4 env y=.int k b) (h:Q (.int k (P4 op k a b)) U):vop S (.arith op x y) env U Q:=by simp only[vop,Q7,hx,hy,zz,QV];exact h
theorem Q1a {S:VSpecs}{op:BinOp}{x y:Operand}{env:Env}{U:Heap}{Q:Value->Heap->Prop}{k k':IntKind}{a b:Int}(hx:Q4 env x=.int k a) (hy:Q4 env y=.int k' b) (h0:0<=b) (h:Q (.int k (P8 op k a b)) U):vop S (.shift op x y) env U Q:=by simp only[vop,Q7,hx,hy,h0,zz,QV];exact h
theorem Q4t {S:VSpecs}{x:Operand}{env:Env}{U:Heap}{Q:Value->Heap->Prop}{k k':IntKind}{a:Int}(hx:Q4 env x=.int k a) (h:Q (.int k' (k'.wrap a)) U):vop S (.convI k' x) env U Q:=by simp only[vop,Q7,hx,QV];exact h
theorem Q8f {S:VSpecs}{len size g o s:Nat}{x y:Operand}{env:Env}{U:Heap}{Q:Value->Heap->Prop}{k':IntKind}{b:Int}(hx:Q4 env x=.pointer (some ⟨g,o,some s⟩)) (hy:Q4 env y=.int k' b) (h0:0<=b/\b<len) (h:Q (.pointer (some ⟨g,o+b.toNat*size,some s⟩)) U):vop S (.indexAddrArr len size x y) env U Q:=by simp only[vop,Q7,hx,hy,h0,wD,zz,QV];exact h
theorem Q5a {S:VSpecs}{size g o s:Nat}{agg:Bool}{x:Operand}{env:Env}{U:Heap}{Q:Value->Heap->Prop}{c:List Value}{v:Value}(hx:Q4 env x=.pointer (some ⟨g,o,some s⟩)) (hg:Q4a g=some c) (hp:c.all Z4=true) (hv:Wn agg size c o=some v) (h:Q v U):vop S (.load agg size x) env U Q:=by simp only[vop,Q7,hx,hg,hp,hv,zz,QV];exact h
theorem CN (x:Int):IntKind.wrap .u64 x=x % 18446744073709551616:=by show (if (false&&decide (x % (18446744073709551616:Int)>=9223372036854775808))=true then x % (18446744073709551616:Int)-18446744073709551616 else x % (18446744073709551616:Int))=_;simp
theorem BR {x:Nat}(h:x<2 ^ 64):(BitVec.ofInt 64 (x:Int)).toNat=x:=by rw[Rq,BitVec.toNat_ofNat,xm h]
theorem Q5l {x y:Nat}(hx:x<2 ^ 64) (hy:y<2 ^ 64):QM .and .u64 x y=((x &&& y:Nat):Int):=by
 have e:(BitVec.ofInt 64 (x:Int) &&& BitVec.ofInt 64 (y:Int)).toNat=x &&& y:=by rw[BitVec.toNat_and,BR hx,BR hy]
 show IntKind.wrap .u64 ((BitVec.ofInt 64 (x:Int) &&& BitVec.ofInt 64 (y:Int)).toNat:Int)=_;have hl:x &&& y<=x:=Nat.and_le_left;rw[e,CN];omega
set_option maxHeartbeats 2000000 in
theorem Z00 {P:Program}{f:Nat}(h:Fun P f czT [.tmp 2] 14) (hm:P.follows .mixedOrders=true) {x:Int}(h0:0<=x) (h1:x<=18446744073709551615) {U:Heap}{K:Value->Heap->Prop}(hK:K (.int .i64 (tzN x.toNat)) U):VCalled P f [.int .u64 x] U K:=by
 refine h.calls hm Hk ?_;obtain⟨n,rfl⟩:=zM h0;have h1:n<2 ^ 64:=by omega
 rw[zf] at hK;unfold czT;refine Vz (.int .i64 0) (λ_ h=>h) ?_;refine Vz (.int .u64 n) (λ_ h=>h) ?_;refine Vz (.bool ((n:Int)==0)) (λ_ h=>Q95 (k:=.u64) (a:=n) (b:=0) rfl rfl h) ?_;show vif ((n:Int)==0) _ _;refine⟨λhz=>?_,λhz=>?_⟩
 .have hz:n=0:=by have:=eq_of_beq hz;omega
  subst hz;refine Vz (.int .i64 64) (λ_ h=>h) ?_;exact⟨_,_,DropTo.refl _ _ _,hK⟩
 have hz:0<n:=by
  rcases Nat.eq_zero_or_pos n with h|h
  .subst h;cases hz
  .exact h
 refine Vz (.int .u64 n) (λ_ h=>h) ?_;refine Vz (.int .u64 n) (λ_ h=>h) ?_;refine Vz (.int .u64 (IntKind.u64.wrap (0-(n:Int)))) (λ_ h=>h) ?_;have hand:QM .and .u64 n (IntKind.u64.wrap (0-(n:Int)))=((2 ^ tzN n:Nat):Int):=by
  have e:IntKind.u64.wrap (0-(n:Int))=((2 ^ 64-n:Nat):Int):=by rw[CN];omega
  rw[e,Q5l h1 (by omega),Q8e hz h1]
 refine Vz (.int .u64 ((2 ^ tzN n:Nat):Int)) (λ_ h=>Q4j (k:=.u64) (a:=n) (b:=IntKind.u64.wrap (0-(n:Int))) rfl rfl (by rw[hand];exact h)) ?_;have hmul:P4 .mul .u64 ((2 ^ tzN n:Nat):Int) 285870213051353865=((2 ^ tzN n*285870213051353865 % 18446744073709551616:Nat):Int):=by show IntKind.wrap .u64 (((2 ^ tzN n:Nat):Int)*285870213051353865)=_;rw[CN];omega
 refine Vz (.int .u64 ((2 ^ tzN n*285870213051353865 % 18446744073709551616:Nat):Int)) (λ_ h=>Q1i (k:=.u64) (a:=((2 ^ tzN n:Nat):Int)) (b:=285870213051353865) rfl rfl (by rw[hmul];exact h)) ?_;have qQ:P8 .shr .u64 ((2 ^ tzN n*285870213051353865 % 18446744073709551616:Nat):Int) 58=((2 ^ tzN n*285870213051353865 % 18446744073709551616 / 288230376151711744:Nat):Int):=by show Int.fdiv _ 288230376151711744=_;rw[Int.fdiv_eq_ediv_of_nonneg _ (by decide)];omega
 refine Vz (.int .u64 ((2 ^ tzN n*285870213051353865 % 18446744073709551616 / 288230376151711744:Nat):Int)) (λ_ h=>Q1a (k:=.u64) (k':=.u64) (a:=((2 ^ tzN n*285870213051353865 % 18446744073709551616:Nat):Int)) (b:=58) rfl rfl (by decide) (by rw[qQ];exact h)) ?_;have qR:=Z1s (tzN n) (Gg hz h1).1;have ai:2 ^ tzN n*285870213051353865 % 18446744073709551616 / 288230376151711744<64:=by omega
 generalize 2 ^ tzN n*285870213051353865 % 18446744073709551616 / 288230376151711744=k at *
 refine Vz (.pointer (some ⟨0,0+(k:Int).toNat*1,some 0⟩)) (λ_ h=>Q8f (g:=0) (o:=0) (s:=0) (b:=k) (k':=.u64) rfl rfl (by omega) h) ?_;have hv:Wn false 1 (Go.V.t64.map λx=>Value.int .u8 x) (0+(k:Int).toNat*1)=some (.int .u8 (tzN n)):=by show (Go.V.t64.map λx=>Value.int .u8 x)[0+(k:Int).toNat*1]?=_;rw[zf,wA,xi,xw,qR];rfl
 refine Vz (.int .u8 (tzN n)) (λ_ h=>Q5a (g:=0) (s:=0) (o:=0+(k:Int).toNat*1) (c:=Go.V.t64.map λx=>Value.int .u8 x) rfl rfl (by decide) hv h) ?_;have uO:=(Gg hz h1).1;have fM:IntKind.i64.wrap (tzN n:Int)=tzN n:=InK.wrap (k:=.i64) ((Qd _).2 (by omega));refine Vz (.int .i64 (tzN n)) (λ_ h=>Q4t (k:=.u8) (a:=tzN n) rfl (by rw[fM];exact h)) ?_;refine Vz (.int .i64 (tzN n)) (λ_ h=>h) ?_;exact⟨_,_,DropTo.refl _ _ _,hK⟩
theorem OQ {P:Program}{U:Heap}{v:SV}{u:Value}(h:SR P hNil Xd Ji v u):Ret P U v [] u U :=
 ⟨⟨.refl _,Dead.refl _⟩,λ_=>rfl,Xd,λj b hj=>by simp at hj,λj j' i hj=>by simp at hj,h⟩
theorem Q2z (U:Heap):R3 U []=U:=by
 unfold R3;cases U;simp only[List.length_nil,zY,List.getElem?_nil,Option.bind_none,Heap.mk.injEq,and_true];funext i;split
 .rfl
 .rename_i wf hi;exact(wf i (by simpa using hi)).symm
theorem Q98 {P:Program}{f:Nat}{pre:Int->Prop}{r:Int->Int}(h:∀ x,pre x->∀ (U:Heap) (K:Value->Heap->Prop),K (.int .i64 (r x)) U->VCalled P f [.int .u64 x] U K) :
  OkC P f (Yo (.one (.k (.i .u64)):AL Int) pre (λd=>.val (.i .i64) (r d)) (λ_=>[])):=by
 intro ap du U args vs c v bs aq hs hv bT hc;unfold Yo at hs;split at hs
 .rename_i d hd;obtain⟨rfl,rfl,rfl⟩:=(by simpa using hs:pre d=c/\SV.val (.i .i64) (r d)=v/\[]=bs)
  match args,aq,hd with
  |[],_,hd=>simp[AL.dec] at hd
  |a::x::l,_,hd=>simp[AL.dec] at hd
  |[a],aq,hd =>
   simp only[AL.dec] at hd;obtain⟨u1,o6,rfl,s1,aq⟩:=aq;have aq:o6=[]:=aq;subst aq;have k1:KC U (.i .u64) d [u1]:=QB (k:=.i .u64) hd ⟨u1,[],rfl,s1,rfl⟩;have e1:u1=.int .u64 d:=by simpa [KC] using k1
   subst e1;refine⟨h d hc U _ (OQ (by simp[SR,KC])),λ_ _=>h d hc U _ ⟨?_,(Q2z U).symm⟩⟩;simp[VG,Az]
 .cases hs
def K8:AL (Int):=(.one (.k (.i .u64)))
def YR (d:Int):Prop:=0<=d/\d<=18446744073709551615
def YP (d:Int):SV:=.val (.i .i64) ((tzN d.toNat:Nat):Int)
def YU (d:Int):List OB:=[]
def Xf:CSp:=Yo K8 YR YP YU
abbrev Kd:Prop:=OkC Tryd.prog 40 Xf
theorem Ko:Kd :=
 Q98 (pre:=λx=>0<=x/\x<=18446744073709551615) (r:=λx=>((tzN x.toNat:Nat):Int)) λx hx U K hK =>
  Z00 (f:=40) (by rw[show czT=c40 by kernel_rfl];exact Z12) mixed hx.1 hx.2 hK
def Q0x:List Int->Int
 |[]=>0
 |x::l=>x+Q0x l
def Hs (r:Int):Int:=(((XG r.toNat).length:Nat):Int)
def HG (r:Int):Int:=Q0x (XG r.toNat)
def T7 (r:Int):Int:=Hs r+100*HG r
def Xu (hd:Int) (rows:List Int):List Int:=if QW hd rows=0 then rows.map T7 else []
theorem Z14 {n:Nat}(h0:0<n) (h1:n<2 ^ 64):n.testBit (tzN n)=true:=by
 obtain⟨_,m,hm⟩:=Gg h0 h1;generalize tzN n=t at *
 rw[hm,Nat.testBit_two_pow_mul];simp
theorem CA:∀ f n,n<=f->n<2 ^ 64->∀ i:Int,i∈Ib f n<->∃ k:Nat,i=k/\n.testBit k=true
 |0,n,h1,_,i=>by
  have:n=0:=by omega
  subst this;simp[Ib]
 |f+1,n,h1,h2,i=>by
  unfold Ib;by_cases h:n=0
  .subst h;simp
  .rw[z0 h,zA];have hle:=Nat.and_le_right (n:=n) (m:=n-1);rw[CA f _ (by omega) (by omega)];constructor
   .rintro (e|⟨k,e,hb⟩)
    .exact⟨tzN n,e,Z14 (by omega) h2⟩
    .rw[TG (by omega) h2] at hb;exact⟨k,e,by simp at hb;exact hb.1⟩
   .rintro⟨k,e,hb⟩;by_cases hk:k=tzN n
    .exact .inl (by rw[e,hk])
    .exact .inr ⟨k,e,by rw[TG (by omega) h2,hb,zU hk];rfl⟩
theorem Q5v {n:Nat}(h:n<2 ^ 64) (i:Int):i∈XG n<->∃ k:Nat,i=k/\n.testBit k=true:=CA n n (zd _) h i
theorem Q2j {n m:Nat}(h:n<2 ^ m) (hm:m<=64):∀ i∈XG n,0<=i/\i<(m:Int):=λi hi=>by
 have hp:2 ^ m<=2 ^ 64:=Nat.pow_le_pow_right (by omega) hm;obtain⟨k,rfl,hb⟩:=(Q5v (by omega) i).1 hi;have:k<m:=by
  rcases zm k m with h2|h2
  .exact h2
  .rw[Nat.testBit_lt_two_pow (zZ h (Nat.pow_le_pow_right (by omega) h2))] at hb;cases hb
 omega
theorem LN:∀ f n,n<=f->n<2 ^ 64->(Ib f n).Nodup
 |0,n,_,_=>by simp[Ib]
 |f+1,n,h1,h2=>by
  unfold Ib;by_cases h:n=0
  .rw[z6 h];exact List.nodup_nil
  .rw[z0 h,xB];have hle:=Nat.and_le_right (n:=n) (m:=n-1);refine⟨λhm=>?_,LN f _ (by omega) (by omega)⟩;obtain⟨k,e,hb⟩:=(CA f _ (by omega) (by omega) _).1 hm;rw[TG (by omega) h2] at hb;have:k=tzN n:=by omega
   rw[zn this] at hb;simp at hb
theorem LX:∀ {l m:List Int},l.Nodup->(∀ x∈l,x∈m)->l.length<=m.length
 |[],_,_,_=>Nat.zero_le _
 |x::l,m,hn,hs=>by have hn:=xB.1 hn;have hx:=hs x (zp ..);have:=LX (l:=l) (m:=m.erase x) hn.2 λy hy=>(List.mem_erase_of_ne (by rintro rfl;exact hn.1 hy)).2 (hs y (zo _ hy));rw[List.length_erase_of_mem hx] at this;have:0<m.length:=List.length_pos_of_mem hx;simp only[zG];omega
theorem Q0k {n m:Nat}(h:n<2 ^ m) (hm:m<=64):(XG n).length<=m:=by
 have hp:2 ^ m<=2 ^ 64:=Nat.pow_le_pow_right (by omega) hm;have:=LX (m:=(List.range m).map λ(k:Nat)=>(k:Int)) (LN n n (zd _) (by omega)) λx hx=>by obtain⟨h1,h2⟩:=Q2j h hm x hx;simp only[zB,zW];exact⟨x.toNat,by omega,by omega⟩
 simpa [XG] using this
theorem Q0d {l:List Int}(h:∀ x∈l,0<=x/\x<24):0<=Q0x l/\Q0x l<=24*l.length:=by
 induction l with
 |nil=>simp[Q0x]
 |cons x l ih =>have h1:=h x (zp ..);have h2:=ih λy hy=>h y (zo _ hy);simp only[Q0x,zG];omega
theorem H7 {n:Nat}(h:n<16777216):(XG n).length<=24/\0<=Q0x (XG n)/\Q0x (XG n)<=576:=by have h1:=Q0k (n:=n) (m:=24) (by omega) (by omega);have h2:=Q0d (Q2j (n:=n) (m:=24) (by omega) (by omega));omega
theorem Q3r {h:Int}(h1:1<=h) (h2:h<=24):(2:Int)<=2 ^ h.toNat/\(2:Int) ^ h.toNat<=16777216:=by
 obtain⟨n,rfl⟩:=zM (show 0<=h by omega);have a1:2 ^ 1<=2 ^ n:=Nat.pow_le_pow_right (by omega) (by omega);have a2:2 ^ n<=2 ^ 24:=Nat.pow_le_pow_right (by omega) (by omega);simp only[zf];have e:((2:Int) ^ n)=((2 ^ n:Nat):Int):=by norm_cast
 rw[e];omega
def Ns:AL (Int×Int×Int):=(.cons (.k (.i .i64)) (.cons (.ptr (.one (.k (.i .i64)))) (.one (.ptr (.one (.k (.i .i64)))))))
def Hy (d:Int×Int×Int):Prop:=True
def Ua (d:Int×Int×Int):SV:=.val .bo (decide (d.1<d.2.1)||decide (d.2.2<d.1))
def Um (d:Int×Int×Int):List OB:=[]
def KG:CSp:=Yo Ns Hy Ua Um
def YS (n:Int) (a:Int) (b:Int):Prop :=
 (((decide (n<a))||(decide (n > b)))=(decide (n<a)||decide (b<n))/\(True))
def Nf:Cx:=⟨[],[],13,[],0,[],[],[],[],false,[],[],[],[]⟩
def PR (n:Int) (a:Int) (b:Int):List (Nat×LoopAnn):=[]
theorem Px (d:Int×Int×Int):gwp (Nf) (PR d.1 d.2.1 d.2.2) c58 0 (K9 [.tmp 4] (Ua d) (Um d)) (QC 13 (AL.can Ns d))=YS d.1 d.2.1 d.2.2:=by kernel_rfl
abbrev PC:Prop:=OkC Tryd.prog 58 KG
theorem PN (h:∀ (n:Int) (a:Int) (b:Int),(True)->YS n a b):OkC Tryd.prog 58 KG :=
 QK Z0v mixed (C:=Nf) (V:=λ(d:Int×Int×Int)=>YS d.1 d.2.1 d.2.2) ⟨.nil,XsOk.nil,ItsOk.nil,YlOk.nil,IysOk.nil,XfOk.nil⟩ (Px) λd hp=>h d.1 d.2.1 d.2.2 hp
theorem Pv:PC:=PN λn a b _=>by exact⟨rfl,trivial⟩
def GR:AL (Int×Int×List Int):=(.cons (.k (.i .i64)) (.cons (.k (.i .i64)) (.one (.k (.list (.i .i64))))))
def Tp (d:Int×Int×List Int):Prop:=d.2.2.length<=1000000
def Mf (d:Int×Int×List Int):SV:=.val .bo (!(d.2.2.any λn=>decide (n<d.1)||decide (d.2.1<n)))
def My (d:Int×Int×List Int):List OB:=[]
def N8:CSp:=Yo GR Tp Mf My
def VQ (a:Int) (b:Int) (l:List Int):Prop :=
 (l.length<=1000000/\∀ x∈l,(λ(x1:Int)=>True) x)/\((!(l.any (λ(x1:Int)=>(decide (x1<a)||decide (b<x1)))))=(!(l.any λn=>decide (n<a)||decide (b<n)))/\(True))
def D7:Cx:=⟨[],[(55,Qx),(58,KG)],11,[],0,[],[],[],[],false,[],[],[],[]⟩
def Lp (a:Int) (b:Int) (l:List Int):List (Nat×LoopAnn):=[]
theorem Sn (d:Int×Int×List Int):gwp (D7) (Lp d.1 d.2.1 d.2.2) c38 0 (K9 [.tmp 6] (Mf d) (My d)) (QC 11 (AL.can GR d))=VQ d.1 d.2.1 d.2.2:=by kernel_rfl
abbrev So:Prop:=OkC Tryd.prog 38 N8
theorem SX (h:∀ (a:Int) (b:Int) (l:List Int),(l.length<=1000000)->VQ a b l):OkC Tryd.prog 38 N8 :=
 QK Z1h mixed (C:=D7) (V:=λ(d:Int×Int×List Int)=>VQ d.1 d.2.1 d.2.2) ⟨(.cons Zn (.cons Pv .nil)),XsOk.nil,ItsOk.nil,YlOk.nil,IysOk.nil,XfOk.nil⟩ (Sn) λd hp=>h d.1 d.2.1 d.2.2 hp
theorem Lk:So:=SX λa b l h=>by exact⟨⟨h,λ_ _=>trivial⟩,rfl,trivial⟩
def Ra:AL (Int):=(.one (.k (.i .i64)))
def Ei (d:Int):Prop:=0<=d/\d<=24
def Ph (d:Int):SV:=.val (.i .i64) (2 ^ d.toNat-1)
def Pk (d:Int):List OB:=[]
def Hi:CSp:=Yo Ra Ei Ph Pk
def UD (h:Int):Prop :=
 (0<=h)/\(I64 (K0 .i64 (1:Int) h))/\(I64 ((K0 .i64 (1:Int) h)-(1:Int)))/\(((K0 .i64 (1:Int) h)-(1:Int))=(2 ^ h.toNat-1)/\(True))
def Rj:Cx:=⟨[],[],6,[],0,[],[],[],[],false,[],[],[],[]⟩
def Fk (h:Int):List (Nat×LoopAnn):=[]
theorem Fs (d:Int):gwp (Rj) (Fk d) c39 0 (K9 [.tmp 2] (Ph d) (Pk d)) (QC 6 (AL.can Ra d))=UD d:=by kernel_rfl
abbrev FQ:Prop:=OkC Tryd.prog 39 Hi
theorem Fb (h:∀ (h:Int),(0<=h/\h<=24)->UD h):OkC Tryd.prog 39 Hi :=
 QK Z2i mixed (C:=Rj) (V:=λ(d:Int)=>UD d) ⟨.nil,XsOk.nil,ItsOk.nil,YlOk.nil,IysOk.nil,XfOk.nil⟩ (Fs) λd hp=>h d hp
theorem Q65 {h:Int}(h1:0<=h) (h2:h<=62):K0 .i64 1 h=2 ^ h.toNat:=by obtain⟨n,rfl⟩:=zM h1;have:Nat.min n 64=n:=w5 (by omega);simp only[K0,zf,IntKind.bits,this,Int.one_mul]
theorem LM {h:Int}(h1:0<=h) (h2:h<=24):(1:Int)<=2 ^ h.toNat/\(2:Int) ^ h.toNat<=16777216:=by
 obtain⟨n,rfl⟩:=zM h1;have a1:2 ^ 0<=2 ^ n:=Nat.pow_le_pow_right (by omega) (by omega);have a2:2 ^ n<=2 ^ 24:=Nat.pow_le_pow_right (by omega) (by omega);simp only[zf];have e:((2:Int) ^ n)=((2 ^ n:Nat):Int):=by norm_cast
 rw[e];omega
theorem Ft:FQ:=Fb λh hh=>by unfold UD;(try delta lI gD sT I64 J_ pj8 pj4);have:=LM hh.1 hh.2;rw[Q65 hh.1 (by omega),Qd,Qd];exact⟨hh.1,by omega,by omega,rfl,trivial⟩
def GD:AL (Int×List Int):=(.one (.agg (.cons (.k (.i .i64)) (.one (.k (.list (.i .i64)))))))
def RB (d:Int×List Int):Prop:=d.2.length<=1000000
def M1 (d:Int×List Int):SV:=.val (.i .i64) (QW d.1 d.2)
def M5 (d:Int×List Int):List OB:=[]
def UZ:CSp:=Yo GD RB M1 M5
def Yv (hd:Int) (rows:List Int):Prop :=
 ([hd].length<=1000000)/\((!(!([hd].any λn=>decide (n<(1:Int))||decide ((24:Int)<n))))=true ->
  ((2:Int)=(QW hd rows)/\(True))) /\
 ((!(!([hd].any λn=>decide (n<(1:Int))||decide ((24:Int)<n))))=false ->
  ((decide ((lI rows) > (60:Int)))=true ->
   ((5:Int)=(QW hd rows)/\(True))) /\
  ((decide ((lI rows) > (60:Int)))=false ->
   (((lI rows)==(0:Int))=true ->
    ((7:Int)=(QW hd rows)/\(True))) /\
   (((lI rows)==(0:Int))=false ->
    (0<=hd/\hd<=24)/\(rows.length<=1000000)/\((!(!(rows.any λn=>decide (n<(0:Int))||decide ((2 ^ hd.toNat-1)<n))))=true ->
     ((2:Int)=(QW hd rows)/\(True))) /\
    ((!(!(rows.any λn=>decide (n<(0:Int))||decide ((2 ^ hd.toNat-1)<n))))=false ->
     ((0:Int)=(QW hd rows)/\(True))))))
def D8:Cx:=⟨[(3,(.i .i64))],[(38,N8),(39,Hi)],27,[],0,[],[],[],[],false,[],[],[],[]⟩
def L5 (hd:Int) (rows:List Int):List (Nat×LoopAnn):=[]
theorem SP (d:Int×List Int):gwp (D8) (L5 d.1 d.2) c17 0 (K9 [.tmp 2] (M1 d) (M5 d)) (QC 27 (AL.can GD d))=Yv d.1 d.2:=by kernel_rfl
abbrev Sf:Prop:=OkC Tryd.prog 17 UZ
theorem SM (h:∀ (hd:Int) (rows:List Int),(rows.length<=1000000)->Yv hd rows):OkC Tryd.prog 17 UZ :=
 QK Q9y mixed (C:=D8) (V:=λ(d:Int×List Int)=>Yv d.1 d.2) ⟨(.cons Lk (.cons Ft .nil)),XsOk.nil,ItsOk.nil,YlOk.nil,IysOk.nil,XfOk.nil⟩ (SP) λd hp=>h d.1 d.2 hp
theorem SY:Sf:=SM λhd rows hl=>by
 unfold Yv;(try delta lI gD sT I64 J_ pj8 pj4);simp only[true_and,and_true,eq_self_iff_true,exists_eq_left',exists_const,zr,xd,zK,bne_iff_ne,ne_eq,x7,bne_eq_false_iff_eq,Bool.not_eq_true',z_,xk,xS,zf,Int.ofNat_lt,gt_iff_lt,ge_iff_le,Bool.not_not];simp only[<-nI];refine⟨by simp,λh1=>by simp at h1;simp[QW,h1],λh1=>⟨λh2=>?_,λh2=>⟨λh3=>?_,λh3=>?_⟩⟩⟩;all_goals simp only[List.any_cons,List.any_nil,xZ,z_] at h1
 .have:60<rows.length:=by omega
  simp[QW,h1,this]
 .have h3:rows.length=0:=by omega
  simp[QW,h1,h3]
 have kS:¬ 60<rows.length:=by omega
 have iJ:¬ rows.length=0:=by omega
 have hi:1<=hd/\hd<=24:=by simpa [inI] using h1
 have uP:QW hd rows=if rows.any (λx=>!inI x 0 (2 ^ hd.toNat-1)) then 2 else 0:=by simp only[QW,h1,kS,iJ];simp
 rw[uP];refine⟨by omega,by omega,λh=>by rw[z6 h],λh=>by rw[h];rfl⟩
def BF:AL (Int):=(.one (.k (.i .i64)))
def Sr (d:Int):Prop:=0<=d/\d<16777216
def GV (d:Int):SV:=.agg [.val (.i .i64) (Hs d),.val (.i .i64) (HG d)]
def GY (d:Int):List OB:=[]
def NZ:CSp:=Yo BF Sr GV GY
def K5 (r:Int):Prop :=
 ∃ (e2:Unit) (d20:Int×Int×Int),((r=d20.1/\True/\True)/\(((0:Int)=d20.2.1/\(0:Int)=d20.2.2/\(([]:List SV)=[]))/\True)) /\
 LoopP (λ(d2:Int×Int×Int) (q2:(Int×Int×Int)->Prop) =>
  ((d2.1 != (0:Int))=true ->
   (I64 (d2.2.1+(1:Int)))/\(InK .u64 d2.1)/\(0<=d2.1/\d2.1<=18446744073709551615)/\(I64 (d2.2.2+((tzN d2.1.toNat:Nat):Int)))/\(I64 (d2.1-(1:Int)))/\(∃ d3:Int×Int×Int,(((QM .and .i64 d2.1 (d2.1-(1:Int)))=d3.1/\True/\True)/\(((d2.2.1+(1:Int))=d3.2.1/\(d2.2.2+((tzN d2.1.toNat:Nat):Int))=d3.2.2/\(([]:List SV)=[]))/\True))/\q2 d3)) /\
  ((d2.1 != (0:Int))=false ->
   ((d2.2.1=(Hs r)/\d2.2.2=(HG r)/\(([]:List SV)=[]))/\(True)))) d20
def B5:Cx:=⟨[],[(40,Xf)],21,[],0,[],[],[],[],false,[],[],[],[]⟩
def A9 (r:Int):List (Nat×LoopAnn):=[(0,⟨Unit,Int×Int×Int,[0,2],λe x=>[.val (.i .i64) x.1,.box 2 0],λe x=>[(2,.slot 2,.cells [.val (.i .i64) x.2.1,.val (.i .i64) x.2.2] (some 53))]⟩)]
theorem Cw (d:Int):gwp (B5) (A9 d) c18 0 (K9 [.cell 2 true 2] (GV d) (GY d)) (QC 21 (AL.can BF d))=K5 d:=by kernel_rfl
abbrev A7:Prop:=OkC Tryd.prog 18 NZ
theorem Cm (h:∀ (r:Int),(0<=r/\r<16777216)->K5 r):OkC Tryd.prog 18 NZ :=
 QK Z2f mixed (C:=B5) (V:=λ(d:Int)=>K5 d) ⟨(.cons Ko .nil),XsOk.nil,ItsOk.nil,YlOk.nil,IysOk.nil,XfOk.nil⟩ (Cw) λd hp=>h d hp
theorem A5:A7:=Cm λr hr=>by
 unfold K5;(try delta lI gD sT I64 J_ pj8 pj4);obtain⟨n,rfl⟩:=zM hr.1;have hn:n<16777216:=by omega
 have hb:=H7 hn;refine⟨(),((n:Int),0,0),(by and_intros<;>first|rfl|trivial|simp),?_⟩;refine⟨λd=>∃ s:Nat,d.1=s/\s<=n/\d.2.1+((XG s).length:Int)=Hs n/\d.2.2+Q0x (XG s)=HG n/\0<=d.2.1/\0<=d.2.2,λd=>d.1.toNat,⟨n,rfl,zd _,by simp[Hs],by simp[HG],Int.le_refl _,Int.le_refl _⟩,?_⟩;have bg:Hs n<=24:=by simp only[Hs,zf];omega
 have au:HG n<=576:=by simp only[HG,zf];omega
 rintro⟨_,a,b⟩ ⟨s,rfl,i1,i2,i3,i4,i5⟩;dsimp only at i2 i3 i4 i5 |-;simp only[bne_iff_ne,bne_eq_false_iff_eq,ne_eq,zf,Qd,Hj];have bT:=H7 (n:=s) (by omega);refine⟨λh0=>?_,λh0=>?_⟩
 .have hs:0<s:=by omega
  have e1:(s:Int)-1=((s-1:Nat):Int):=by omega
  have aY:=Q2s hs;have vW:=(Gg hs (by omega)).1;have hle:=Nat.and_le_right (n:=s) (m:=s-1);have a_:=H7 (n:=s &&& (s-1)) (by omega);rw[aY,zG] at i2;rw[aY] at i3;simp only[Q0x] at i3;refine⟨by omega,by omega,by omega,by omega,by omega,(((s &&& (s-1):Nat):Int),a+1,b+((tzN s:Nat):Int)),?_,⟨s &&& (s-1),rfl,by omega,by dsimp only;omega,by dsimp only;omega,by dsimp only;omega,by dsimp only;omega⟩,?_⟩
  .rw[e1,Q4q (by omega) (by omega)];and_intros<;>first|rfl|trivial
  .dsimp only;omega
 .have:s=0:=by omega
  subst this;rw[Q3s] at i2 i3;simp only[List.length_nil,Q0x] at i2 i3;and_intros<;>first|omega|trivial
def Vu:AL (Int×Int):=(.one (.agg (.cons (.k (.i .i64)) (.one (.k (.i .i64))))))
def DC (d:Int×Int):Prop:=0<=d.1/\d.1<=24/\0<=d.2/\d.2<=600
def KJ (d:Int×Int):SV:=.val (.i .i64) (d.1+100*d.2)
def Kw (d:Int×Int):List OB:=[]
def Yk:CSp:=Yo Vu DC KJ Kw
def JZ (a:Int) (b:Int):Prop :=
 (I64 ((100:Int)*b))/\(I64 (a+((100:Int)*b)))/\((a+((100:Int)*b))=(a+100*b)/\(True))
def Vy:Cx:=⟨[],[],9,[],0,[],[],[],[],false,[],[],[],[]⟩
def DQ (a:Int) (b:Int):List (Nat×LoopAnn):=[]
theorem BK (d:Int×Int):gwp (Vy) (DQ d.1 d.2) c19 0 (K9 [.tmp 2] (KJ d) (Kw d)) (QC 9 (AL.can Vu d))=JZ d.1 d.2:=by kernel_rfl
abbrev Hc:Prop:=OkC Tryd.prog 19 Yk
theorem Br (h:∀ (a:Int) (b:Int),(0<=a/\a<=24/\0<=b/\b<=600)->JZ a b):OkC Tryd.prog 19 Yk :=
 QK Z0x mixed (C:=Vy) (V:=λ(d:Int×Int)=>JZ d.1 d.2) ⟨.nil,XsOk.nil,ItsOk.nil,YlOk.nil,IysOk.nil,XfOk.nil⟩ (BK) λd hp=>h d.1 d.2 hp
theorem DZ:Hc:=Br λa b h=>by unfold JZ;(try delta lI gD sT I64 J_ pj8 pj4);rw[Qd,Qd];exact⟨by omega,by omega,rfl,trivial⟩
def HZ:AL (Int×List Int):=(.one (.agg (.cons (.k (.i .i64)) (.one (.k (.list (.i .i64)))))))
def Ct (d:Int×List Int):Prop:=d.2.length<=1000
def BA (d:Int×List Int):SV:=.tup [.lst 0,.val (.i .i64) (QW d.1 d.2)]
def Bm (d:Int×List Int):List OB:=[.lst 3 (.i .i64) (Xu d.1 d.2) ((Xu d.1 d.2).isEmpty)]
def Dl:CSp:=Yo HZ Ct BA Bm
def Vl (hd:Int) (rows:List Int):Prop :=
 (rows.length<=1000000)/\(((QW hd rows) != (0:Int))=true ->
  ((True/\(QW hd rows)=(QW hd rows)/\(([]:List SV)=[]))/\(((Xu hd rows)=[]/\(Xu hd rows).isEmpty=true)/\True))) /\
 (((QW hd rows) != (0:Int))=false ->
  ∃ (e3:Unit) (d30:(List Int)×Int),((True/\rows=rows/\(lI rows)=(lI rows)/\(0:Int)=d30.2/\True)/\((d30.1=[]/\(List.isEmpty d30.1)=true)/\True)) /\
  LoopP (λ(d3:(List Int)×Int) (q3:((List Int)×Int)->Prop) =>
   ((decide (d3.2<(lI rows)))=true ->
    (0<=d3.2)/\(d3.2<(List.length rows))/\(0<=(gD rows d3.2 0)/\(gD rows d3.2 0)<16777216)/\(0<=(Hs (gD rows d3.2 0))/\(Hs (gD rows d3.2 0))<=24/\0<=(HG (gD rows d3.2 0))/\(HG (gD rows d3.2 0))<=600)/\(((List.length d3.1)+(List.length [((Hs (gD rows d3.2 0))+100*(HG (gD rows d3.2 0)))]))*8<=70368744177664)/\(I64 (d3.2+(1:Int)))/\(∃ d4:(List Int)×Int,((True/\rows=rows/\(lI rows)=(lI rows)/\(d3.2+(1:Int))=d4.2/\True)/\(((d3.1++[((Hs (gD rows d3.2 0))+100*(HG (gD rows d3.2 0)))])=d4.1/\false=(List.isEmpty d4.1))/\True))/\q3 d4)) /\
   ((decide (d3.2<(lI rows)))=false ->
    ((True/\(0:Int)=(QW hd rows)/\(([]:List SV)=[]))/\((d3.1=(Xu hd rows)/\(List.isEmpty d3.1)=(Xu hd rows).isEmpty)/\True)))) d30)
def HR:Cx:=⟨[(3,(.i .i64))],[(17,UZ),(18,NZ),(19,Yk)],27,[],0,[],[],[],[],false,[],[],[],[]⟩
def AG (hd:Int) (rows:List Int):List (Nat×LoopAnn):=[(0,⟨Unit,(List Int)×Int,[2,13,14,15],λe x=>[.lst 24,.val (.list (.i .i64)) rows,.val (.i .i64) (((List.length rows):Nat):Int),.val (.i .i64) x.2],λe x=>[(24,.slot 2,.lst 3 (.i .i64) x.1 (List.isEmpty x.1))]⟩)]
theorem E1 (d:Int×List Int):gwp (HR) (AG d.1 d.2) c5 0 (K9 [.tmp 2,.tmp 3] (BA d) (Bm d)) (QC 27 (AL.can HZ d))=Vl d.1 d.2:=by kernel_rfl
abbrev AH:Prop:=OkC Tryd.prog 5 Dl
theorem EW (h:∀ (hd:Int) (rows:List Int),(rows.length<=1000)->Vl hd rows):OkC Tryd.prog 5 Dl :=
 QK Z5f mixed (C:=HR) (V:=λ(d:Int×List Int)=>Vl d.1 d.2) ⟨(.cons SY (.cons A5 (.cons DZ .nil))),XsOk.nil,ItsOk.nil,YlOk.nil,IysOk.nil,XfOk.nil⟩ (E1) λd hp=>h d.1 d.2 hp
theorem Z5z {hd:Int}{rows:List Int}(h:QW hd rows=0):1<=hd/\hd<=24/\rows.length<=60/\rows.length≠0/\∀ x∈rows,0<=x/\x<2 ^ hd.toNat:=by
 unfold QW at h;split at h
 .cases h
 .rename_i h1;split at h
  .cases h
  .rename_i h2;split at h
   .cases h
   .rename_i h3;split at h
    .cases h
    .rename_i h4;have h1:1<=hd/\hd<=24:=by simpa [inI] using h1
     refine⟨h1.1,h1.2,by omega,h3,λx hx=>?_⟩;have h5:∀ x∈rows,inI x 0 (2 ^ hd.toNat-1)=true:=by simpa using h4
     have:=h5 x hx;simp only[inI,z8,zr] at this;omega
theorem AM:AH:=EW λhd rows hl=>by
 unfold Vl;(try delta lI gD sT I64 J_ pj8 pj4);simp only[bne_iff_ne,bne_eq_false_iff_eq,ne_eq];refine⟨by omega,λh=>?_,λh=>?_⟩
 .have:Xu hd rows=[]:=by unfold Xu;rw[z0 h]
  rw[this];and_intros<;>first|rfl|trivial
 obtain⟨z1,z2,z3,z4,z5⟩:=Z5z h;have hp:=LM (h:=hd) (by omega) z2;have hW:Xu hd rows=rows.map T7:=by unfold Xu;rw[z6 h]
 rw[hW,h];refine⟨(),([],0),(by and_intros<;>first|rfl|trivial|simp),?_⟩;refine LoopP.count2 rows.length (λk l=>l=(rows.take k).map T7) (by simp) ?_;rintro k l hk rfl q hq;have gj:((rows.take k).map T7).length=k:=by rw[xt,xR];omega
 refine⟨λh1=>?_,λh1=>?_⟩<;>simp only[zr,xd] at h1
 .have ai:k<rows.length:=by omega
  have hr:=z5 rows[k] (zl ai);dsimp only;simp only[zf,Q9 ai,Qd];obtain⟨n,hn⟩:=zM hr.1;have hb:=H7 (n:=n) (by omega);have e1:Hs rows[k]=((XG n).length:Int):=by rw[hn];simp[Hs]
  have e2:HG rows[k]=Q0x (XG n):=by rw[hn];simp[HG]
  refine⟨by omega,by omega,by omega,by rw[e1,e2];omega,by rw[gj];simp only[zG,List.length_nil];omega,by omega,((rows.take k).map T7++[T7 rows[k]],(k:Int)+1),?_,hq _ ai ?_⟩
  .have:((rows.take k).map T7++[T7 rows[k]]).isEmpty=false:=by simp
   and_intros<;>first|rfl|trivial|exact this.symm
  .rw[J1 ai,xH];rfl
 .have:k=rows.length:=by omega
  subst this;rw[List.take_length];and_intros<;>first|rfl|trivial
theorem TA {n mo:Nat}{wv:Nat->Int->Bool}{k:Nat}{L L':List ((Int×Int)×Int)}(h:(JM n mo).map (λq=>(q,wyK n mo wv k q))=L)
  (h':(JM n mo).map (λq=>(q,((JM n mo).map λp=>EJ n mo (wv k) p (W2 L p) q).sum))=L'):(JM n mo).map (λq=>(q,wyK n mo wv (k+1) q))=L':=by
 have hL:∀ p∈JM n mo,W2 L p=wyK n mo wv k p:=λp hp=>by
  have hn:(L.map (·.1)).Nodup:=by
   rw[<-h,wq];have:((λx:(Int×Int)×Int=>x.1) ∘ λq=>(q,wyK n mo wv k q))=id:=rfl;rw[this,List.map_id];exact G8 n mo
  have hm:(p,wyK n mo wv k p)∈L:=by rw[<-h];exact zB.2 ⟨p,hp,rfl⟩
  exact Q3p hn hm
 rw[<-h'];refine xp λq _=>?_;have:((JM n mo).map λp=>EJ n mo (wv k) p (W2 L p) q)=(JM n mo).map λp=>EJ n mo (wv k) p (wyK n mo wv k p) q:=xp λp hp=>by rw[hL p hp]
 rw[this];rfl
def five:List Xo:=[(0,1,false),(3,8,false),(1,2,false),(2,4,false),(4,15,false)]
def Q6r:List Int:=[8,2,2,-1,1]
theorem Z2e:(JM 5 2).map (λq=>(q,wyK 5 2 (λk=>wvB 4 five Q6r k) 0 q))=[((0,0),1),((0,1),0),((0,2),0),((1,0),1),((1,1),0),((1,2),0),((2,0),1),((2,1),0),((2,2),0),((3,0),1),((3,1),0),((3,2),0),((4,0),1),((4,1),0),((4,2),0)]:=by kernel_rfl
theorem Z0s:(JM 5 2).map (λq=>(q,wyK 5 2 (λk=>wvB 4 five Q6r k) 1 q))=[((0,0),0),((0,1),0),((0,2),0),((1,0),0),((1,1),1),((1,2),0),((2,0),1),((2,1),0),((2,2),0),((3,0),0),((3,1),1),((3,2),0),((4,0),0),((4,1),0),((4,2),0)]:=TA Z2e (by kernel_rfl)
theorem Z1i:(JM 5 2).map (λq=>(q,wyK 5 2 (λk=>wvB 4 five Q6r k) 2 q))=[((0,0),0),((0,1),0),((0,2),0),((1,0),0),((1,1),0),((1,2),0),((2,0),0),((2,1),1),((2,2),0),((3,0),1),((3,1),0),((3,2),0),((4,0),0),((4,1),1),((4,2),0)]:=TA Z0s (by kernel_rfl)
theorem Z2g:(JM 5 2).map (λq=>(q,wyK 5 2 (λk=>wvB 4 five Q6r k) 3 q))=[((0,0),0),((0,1),0),((0,2),0),((1,0),0),((1,1),0),((1,2),0),((2,0),0),((2,1),0),((2,2),1),((3,0),0),((3,1),1),((3,2),0),((4,0),0),((4,1),0),((4,2),1)]:=TA Z1i (by kernel_rfl)
theorem Z17:(JM 5 2).map (λq=>(q,wyK 5 2 (λk=>wvB 4 five Q6r k) 4 q))=[((0,0),0),((0,1),0),((0,2),2),((1,0),0),((1,1),0),((1,2),0),((2,0),0),((2,1),0),((2,2),0),((3,0),0),((3,1),0),((3,2),2),((4,0),0),((4,1),1),((4,2),0)]:=TA Z2g (by kernel_rfl)
theorem Z07:(JM 5 2).map (λq=>(q,wyK 5 2 (λk=>wvB 4 five Q6r k) 5 q))=[((0,0),0),((0,1),0),((0,2),0),((1,0),0),((1,1),0),((1,2),2),((2,0),0),((2,1),0),((2,2),0),((3,0),0),((3,1),0),((3,2),0),((4,0),0),((4,1),0),((4,2),0)]:=TA Z17 (by kernel_rfl)
theorem Q2d:AN 4 five Q6r 2=2:=by
 have h:(((JM 5 2).map (λq=>(q,wyK 5 2 (λk=>wvB 4 five Q6r k) 5 q))).map λx=>x.2).sum=2:=by rw[Z07];rfl
 rw[wq] at h;exact h
def D5:AL (List Int×Int):=(.cons (.k (.list (.i .u8))) (.one (.k (.i .i64))))
def TL (d:List Int×Int):Prop:=d.1.length<=9223372036854775807/\0<=d.2/\∀ x∈d.1,0<=x/\x<=255
def MX (d:List Int×Int):SV:=.val (.i .i64) (Z5 d.1 d.2)
def Mw (d:List Int×Int):List OB:=[]
def UR:CSp:=Yo D5 TL MX Mw
def Yn (l:List Int) (i:Int):Prop :=
 (((lI l)==(0:Int))=true ->
  ((0:Int)=(Z5 l i)/\(True))) /\
 (((lI l)==(0:Int))=false ->
  ((lI l)≠0)/\(0<=(Int.tmod i (lI l)))/\((Int.tmod i (lI l))<(List.length l))/\(I64 (gD l (Int.tmod i (lI l)) 0))/\((gD l (Int.tmod i (lI l)) 0)=(Z5 l i)/\(True)))
def Gu:Cx:=⟨[],[],16,[],0,[],[],[],[],false,[],[],[],[]⟩
def SC (l:List Int) (i:Int):List (Nat×LoopAnn):=[]
theorem Sg (d:List Int×Int):gwp (Gu) (SC d.1 d.2) c27 0 (K9 [.tmp 4] (MX d) (Mw d)) (QC 16 (AL.can D5 d))=Yn d.1 d.2:=by kernel_rfl
abbrev Sq:Prop:=OkC Tryd.prog 27 UR
theorem SB (h:∀ (l:List Int) (i:Int),(l.length<=9223372036854775807/\0<=i/\∀ x∈l,0<=x/\x<=255)->Yn l i):OkC Tryd.prog 27 UR :=
 QK Z0p mixed (C:=Gu) (V:=λ(d:List Int×Int)=>Yn d.1 d.2) ⟨.nil,XsOk.nil,ItsOk.nil,YlOk.nil,IysOk.nil,XfOk.nil⟩ (Sg) λd hp=>h d.1 d.2 hp
theorem Sz:Sq:=SB λl i h=>by
 obtain⟨h1,h2,h3⟩:=h;unfold Yn;(try delta lI gD sT I64 J_ pj8 pj4);refine⟨λhx=>?_,λhx=>?_⟩
 .have:l.length=0:=by have:=eq_of_beq hx;omega
  unfold Z5;rw[z6 this];exact(by and_intros<;>first|rfl|trivial|simp)
 .have h0:l.length≠0:=by have:=ne_of_beq_false hx;omega
  have e:=Int.tmod_eq_emod_of_nonneg (b:=(l.length:Int)) h2;have g1:=Int.emod_nonneg i (show (l.length:Int)≠0 by omega);have g2:=Int.emod_lt_of_pos i (show (0:Int)<l.length by omega);have g3:(Int.tmod i l.length).toNat<l.length:=by omega
  have g4:=h3 _ (by rw[Q9 g3];exact zl g3:l.getD (Int.tmod i l.length).toNat 0∈l);refine⟨by omega,by omega,by omega,by rw[Qd];omega,?_⟩;unfold Z5;rw[z0 h0];exact(by and_intros<;>first|rfl|trivial|simp)
def Db:AL (List Int×List Int):=(.cons (.k (.list (.i .i64))) (.one (.k (.list (.i .i64)))))
def R7 (d:List Int×List Int):Prop:=d.1.length<=1000000
def MZ (d:List Int×List Int):SV:=.val .bo (d.1==d.2)
def Mn (d:List Int×List Int):List OB:=[]
def Kg:CSp:=Yo Db R7 MZ Mn
def Yw (a:List Int) (b:List Int):Prop :=
 (((lI a) != (lI b))=true ->
  (false=(a==b)/\(True))) /\
 (((lI a) != (lI b))=false ->
  ∃ (e2:Unit) (d20:Int),((a=a/\b=b/\(0:Int)=d20/\True)/\(True)) /\
  LoopP (λ(d2:Int) (q2:(Int)->Prop) =>
   ((decide (d2<(lI a)))=true ->
    (0<=d2)/\(d2<(List.length a))/\(0<=d2)/\(d2<(List.length b))/\(((gD a d2 0) != (gD b d2 0))=true ->
     (false=(a==b)/\(True))) /\
    (((gD a d2 0) != (gD b d2 0))=false ->
     (I64 (d2+(1:Int)))/\(∃ d3:Int,((a=a/\b=b/\(d2+(1:Int))=d3/\True)/\(True))/\q2 d3))) /\
   ((decide (d2<(lI a)))=false ->
    (true=(a==b)/\(True)))) d20)
def GW:Cx:=⟨[],[],26,[],0,[],[],[],[],false,[],[],[],[]⟩
def Lq (a:List Int) (b:List Int):List (Nat×LoopAnn):=[(0,⟨Unit,Int,[0,1,5],λe x=>[.val (.list (.i .i64)) a,.val (.list (.i .i64)) b,.val (.i .i64) x],λe x=>[]⟩)]
theorem L7 (d:List Int×List Int):gwp (GW) (Lq d.1 d.2) c16 0 (K9 [.tmp 4] (MZ d) (Mn d)) (QC 26 (AL.can Db d))=Yw d.1 d.2:=by kernel_rfl
abbrev Sp:Prop:=OkC Tryd.prog 16 Kg
theorem Lo (h:∀ (a:List Int) (b:List Int),(a.length<=1000000)->Yw a b):OkC Tryd.prog 16 Kg :=
 QK Z1k mixed (C:=GW) (V:=λ(d:List Int×List Int)=>Yw d.1 d.2) ⟨.nil,XsOk.nil,ItsOk.nil,YlOk.nil,IysOk.nil,XfOk.nil⟩ (L7) λd hp=>h d.1 d.2 hp
theorem GP:Sp:=Lo λl m vX=>by
 unfold Yw;(try delta lI gD sT I64 J_ pj8 pj4);simp only[true_and,and_true,eq_self_iff_true,exists_eq_left',exists_const,zr,xd,zK,bne_iff_ne,ne_eq,x7,bne_eq_false_iff_eq,Bool.not_eq_true',z_,xk,xS,zf,Int.ofNat_lt,gt_iff_lt,ge_iff_le];refine⟨λh=>?_,λh=>?_⟩
 .symm;rw[x7];rintro rfl;exact h rfl
 have h:l.length=m.length:=by omega
 refine LoopP.count l.length (λk=>l.take k=m.take k) rfl λk bg hJ q hq=>?_;simp only[true_and,and_true,eq_self_iff_true,exists_eq_left',exists_const,zr,xd,zK,bne_iff_ne,ne_eq,x7,bne_eq_false_iff_eq,Bool.not_eq_true',z_,xk,xS,zf,Int.ofNat_lt,gt_iff_lt,ge_iff_le,Qd];refine⟨λai=>?_,λcy=>?_⟩
 .rw[Q9 ai,Q9 (by omega)];refine⟨by omega,ai,by omega,by omega,λhx=>?_,λhx=>⟨by omega,hq ai ?_⟩⟩
  .symm;rw[x7];rintro rfl;exact hx rfl
  .rw[J1 ai,J1 (by omega),hJ,hx]
 .rw[x3 (by omega),x3 (by omega)] at hJ;simp[hJ]
def Gv:AL (Int):=(.one (.k (.i .i64)))
def Rz (d:Int):Prop:=0<=d/\d<=10000
def MG (d:Int):SV:=.lst 0
def Ml (d:Int):List OB:=[.lst 3 (.i .i64) (List.replicate d.toNat (1:Int)) false]
def UM:CSp:=Yo Gv Rz MG Ml
def Yu (n:Int):Prop :=
 ∃ (e2:Unit) (d20:(List Int)×Int),((n=n/\True/\(0:Int)=d20.2/\True)/\((([]:List Int)=d20.1/\false=false)/\True)) /\
 LoopP (λ(d2:(List Int)×Int) (q2:((List Int)×Int)->Prop) =>
  ((decide (d2.2<n))=true ->
   (((List.length d2.1)+(List.length [(1:Int)]))*8<=70368744177664)/\(I64 (d2.2+(1:Int)))/\(∃ d3:(List Int)×Int,((n=n/\True/\(d2.2+(1:Int))=d3.2/\True)/\(((d2.1++[(1:Int)])=d3.1/\false=false)/\True))/\q2 d3)) /\
  ((decide (d2.2<n))=false ->
   (True/\((d2.1=(List.replicate n.toNat (1:Int))/\false=false)/\True)))) d20
def Gx:Cx:=⟨[(3,(.i .i64))],[],15,[],0,[],[],[],[],false,[],[],[],[]⟩
def Sb (n:Int):List (Nat×LoopAnn):=[(0,⟨Unit,(List Int)×Int,[0,3,4],λe x=>[.val (.i .i64) n,.lst 5,.val (.i .i64) x.2],λe x=>[(5,.slot 3,.lst 3 (.i .i64) x.1 false)]⟩)]
theorem SD (d:Int):gwp (Gx) (Sb d) c15 0 (K9 [.tmp 2] (MG d) (Ml d)) (QC 15 (AL.can Gv d))=Yu d:=by kernel_rfl
abbrev Sm:Prop:=OkC Tryd.prog 15 UM
theorem SE (h:∀ (n:Int),(0<=n/\n<=10000)->Yu n):OkC Tryd.prog 15 UM :=
 QK Z2k mixed (C:=Gx) (V:=λ(d:Int)=>Yu d) ⟨.nil,XsOk.nil,ItsOk.nil,YlOk.nil,IysOk.nil,XfOk.nil⟩ (SD) λd hp=>h d hp
theorem SW:Sm:=SE λn h=>by
 unfold Yu;(try delta lI gD sT I64 J_ pj8 pj4);obtain⟨m,rfl⟩:=zM h.1;have hm:m<=10000:=by omega
 refine⟨(),([],0),(by and_intros<;>first|rfl|trivial|simp),?_⟩;refine LoopP.count2 m (λk xs=>xs=List.replicate k (1:Int)) rfl λk xs hk hJ q hq=>?_;subst hJ;dsimp only;refine⟨λc=>?_,λc=>?_⟩
 .have ai:k<m:=by simpa using c
  refine⟨by simp;omega,by rw[Qd];omega,(List.replicate (k+1) (1:Int),(k:Int)+1),?_,hq _ ai rfl⟩;and_intros<;>first|rfl|trivial|simp[List.replicate_succ']
 .have au:k=m:=by simp at c;omega
  subst au;rw[zf];and_intros<;>first|rfl|trivial|simp
def GM:AL (Int×List Int):=(.one (.agg (.cons (.k (.i .i64)) (.one (.k (.list (.i .i64)))))))
def RD (d:Int×List Int):Prop:=d.2.length<=1000
def MP (d:Int×List Int):SV:=.agg [.val (.i .i64) d.1,.lst 0]
def Me (d:Int×List Int):List OB:=[.lst 3 (.i .i64) d.2 false]
def UN:CSp:=Yo GM RD MP Me
def Yp (hd:Int) (rows:List Int):Prop :=
 (((List.length ([]:List Int))+(List.length rows))*8<=70368744177664)/\((hd=hd/\True/\(([]:List SV)=[]))/\(((([]:List Int)++rows)=rows/\((List.isEmpty rows)&&false)=false)/\True))
def GF:Cx:=⟨[(3,(.i .i64))],[],9,[],0,[],[],[],[],false,[],[],[],[]⟩
def Sk (hd:Int) (rows:List Int):List (Nat×LoopAnn):=[]
theorem Lr (d:Int×List Int):gwp (GF) (Sk d.1 d.2) c6 0 (K9 [.cell 2 true 2] (MP d) (Me d)) (QC 9 (AL.can GM d))=Yp d.1 d.2:=by kernel_rfl
abbrev Sy:Prop:=OkC Tryd.prog 6 UN
theorem L4 (h:∀ (hd:Int) (rows:List Int),(rows.length<=1000)->Yp hd rows):OkC Tryd.prog 6 UN :=
 QK Z58 mixed (C:=GF) (V:=λ(d:Int×List Int)=>Yp d.1 d.2) ⟨.nil,XsOk.nil,ItsOk.nil,YlOk.nil,IysOk.nil,XfOk.nil⟩ (Lr) λd hp=>h d.1 d.2 hp
theorem L1:Sy:=L4 λhd rows h=>by
 (unfold Yp;(try delta lI gD sT I64 J_ pj8 pj4);simp);omega
def GX:AL (Int×List (Int×Int×Bool)):=(.one (.agg (.cons (.k (.i .i64)) (.one (.k (.list (.pair (.i .i64) (.pair (.i .i64) .bo))))))))
def RK (d:Int×List (Int×Int×Bool)):Prop:=d.2.length<=1000
def MI (d:Int×List (Int×Int×Bool)):SV:=.agg [.val (.i .i64) d.1,.lst 0]
def MF (d:Int×List (Int×Int×Bool)):List OB:=[.lst 40 (.pair (.i .i64) (.pair (.i .i64) .bo)) d.2 false]
def WO:CSp:=Yo GX RK MI MF
def YC (hk:Int) (cs:List (Int×Int×Bool)):Prop :=
 (((List.length ([]:List (Int×Int×Bool)))+(List.length cs))*24<=70368744177664)/\((hk=hk/\True/\(([]:List SV)=[]))/\(((([]:List (Int×Int×Bool))++cs)=cs/\((List.isEmpty cs)&&false)=false)/\True))
def Da:Cx:=⟨[(40,(.pair (.i .i64) (.pair (.i .i64) .bo)))],[],9,[],0,[],[],[],[],false,[],[],[],[]⟩
def Sv (hk:Int) (cs:List (Int×Int×Bool)):List (Nat×LoopAnn):=[]
theorem SU (d:Int×List (Int×Int×Bool)):gwp (Da) (Sv d.1 d.2) c12 0 (K9 [.cell 2 true 2] (MI d) (MF d)) (QC 9 (AL.can GX d))=YC d.1 d.2:=by kernel_rfl
abbrev SH:Prop:=OkC Tryd.prog 12 WO
theorem L2 (h:∀ (hk:Int) (cs:List (Int×Int×Bool)),(cs.length<=1000)->YC hk cs):OkC Tryd.prog 12 WO :=
 QK Z0m mixed (C:=Da) (V:=λ(d:Int×List (Int×Int×Bool))=>YC d.1 d.2) ⟨.nil,XsOk.nil,ItsOk.nil,YlOk.nil,IysOk.nil,XfOk.nil⟩ (SU) λd hp=>h d.1 d.2 hp
theorem VO:SH:=L2 λhk cs h=>by
 (unfold YC;(try delta lI gD sT I64 J_ pj8 pj4);simp);omega
def pdH (h8:Int):Int:=2+Int.tmod h8 7
def pdR (hk:Int) (rs:List Int):List Int:=if rs=[] then [1] else (rs.take 12).map λr=>r % 2 ^ hk.toNat
theorem E2 {h8:Int}(h:0<=h8):2<=pdH h8/\pdH h8<=8:=by have t1:=Int.tmod_nonneg (7:Int) h;have t2:=Int.tmod_lt_of_pos h8 (show (0:Int)<7 by decide);unfold pdH;omega
theorem Q3z {hk:Int}{rs:List Int}:(pdR hk rs).length=if rs=[] then 1 else min 12 rs.length:=by unfold pdR;split<;>simp
theorem Q7o {hk:Int}{rs:List Int}{i:Nat}(h:i<rs.length) (hc:i<12):(pdR hk rs)[i]?=some (rs.getD i 0 % 2 ^ hk.toNat):=by
 have aB:rs≠[]:=by rintro rfl;simp at h
 unfold pdR;rw[z0 aB];simp[xA,hc,h]
theorem Q7h {hk:Int}{rs:List Int}(h:1<=hk/\hk<=24):pdR hk rs≠[]/\(pdR hk rs).length<=12/\∀ x∈pdR hk rs,0<=x/\x<2 ^ hk.toNat:=by
 have hp:=Q3r h.1 h.2;refine⟨?_,by rw[Q3z];split<;>omega,λx hx=>?_⟩
 .unfold pdR;split
  .simp
  .rename_i aB;simpa using aB
 .unfold pdR at hx;split at hx
  .rw[zI.1 hx];omega
  .simp only[zB] at hx;obtain⟨y,_,rfl⟩:=hx;exact⟨Int.emod_nonneg _ (by omega),Int.emod_lt_of_pos _ (by omega)⟩
def Q9f (by_:List Int) (i n:Nat):Nat:=(Int.tmod (Z5 by_ i) n).toNat
def Z4z (by_:List Int) (i:Nat):Bool:=Int.tmod (Z5 by_ ((i:Int)+1)) 3==0
def O2 (by_:List Int) (l:List Xo) (i:Nat):List Xo :=
 let s:=(l.set (Q9f by_ i l.length) (l.getD i Z_)).set i (l.getD (Q9f by_ i l.length) Z_)
 s.set i ((s.getD i Z_).1,((s.getD i Z_).2.1,Z4z by_ i))
def CJ (by_:List Int) (l:List Xo):Nat->List Xo
 |0=>l
 |m+1=>O2 by_ (CJ by_ l m) m
def Q9o (by_:List Int) (l:List Xo):List Xo:=CJ by_ l l.length
theorem CD (by_:List Int) (l:List Xo):∀ m,(CJ by_ l m).length=l.length
 |0=>rfl
 |m+1=>by unfold CJ O2;simp only[xj];exact CD by_ l m
def Np:AL (Int×List Int):=(.cons (.k (.i .u8)) (.one (.k (.list (.i .u16)))))
def Hv (d:Int×List Int):Prop:=0<=d.1/\d.1<=255/\d.2.length<=9223372036854775807/\∀ x∈d.2,0<=x/\x<=65535
def Ur (d:Int×List Int):SV:=.agg [.val (.i .i64) (pdH d.1),.lst 0]
def Uu (d:Int×List Int):List OB:=[.lst 3 (.i .i64) (pdR (pdH d.1) d.2) false]
def KH:CSp:=Yo Np Hv Ur Uu
abbrev WC (h8:Int):=((2:Int)+(Int.tmod h8 (7:Int)))
abbrev Tg :=((0:Int)=(0:Int)/\True/\(([]:List SV)=[]))
abbrev T6 (h8:Int):=((WC h8)=(WC h8)/\True/\(([]:List SV)=[]))
def XU (h8:Int) (rs:List Int):Prop :=
 (I64 h8)/\((7:Int)≠0)/\(I64 (WC h8))/\∃ (e4:Unit) (d40:(List Int)×Int),((rs=rs/\True/\True/\(0:Int)=d40.2/\True)/\(Tg/\(T6 h8)/\(d40.1=[]/\(List.isEmpty d40.1)=true)/\True)) /\
 LoopP (λ(d4:(List Int)×Int) (q4:((List Int)×Int)->Prop) =>
  (((d4.2==(0:Int))||((decide (d4.2<(lI rs)))&&(decide (d4.2<(12:Int)))))=true ->
   ((decide (d4.2<(lI rs)))=true ->
    (0<=d4.2)/\(d4.2<(List.length rs))/\(I64 (gD rs d4.2 0))/\(InK .u64 (WC h8))/\(0<=(WC h8))/\(I64 (K0 .i64 (1:Int) (WC h8)))/\((K0 .i64 (1:Int) (WC h8))≠0)/\(((List.length d4.1)+(List.length [(Int.tmod (gD rs d4.2 0) (K0 .i64 (1:Int) (WC h8)))]))*8<=70368744177664)/\(I64 (d4.2+(1:Int)))/\(∃ d5:(List Int)×Int,((rs=rs/\True/\True/\(d4.2+(1:Int))=d5.2/\True)/\(Tg/\(T6 h8)/\((d4.1++[(Int.tmod (gD rs d4.2 0) (K0 .i64 (1:Int) (WC h8)))])=d5.1/\false=(List.isEmpty d5.1))/\True))/\q4 d5)) /\
   ((decide (d4.2<(lI rs)))=false ->
    (((List.length d4.1)+(List.length [(1:Int)]))*8<=70368744177664)/\(I64 (d4.2+(1:Int)))/\(∃ d6:(List Int)×Int,((rs=rs/\True/\True/\(d4.2+(1:Int))=d6.2/\True)/\(Tg/\(T6 h8)/\((d4.1++[(1:Int)])=d6.1/\false=(List.isEmpty d6.1))/\True))/\q4 d6))) /\
  (((d4.2==(0:Int))||((decide (d4.2<(lI rs)))&&(decide (d4.2<(12:Int)))))=false ->
   (((WC h8)=(pdH h8)/\True/\(([]:List SV)=[]))/\((d4.1=(pdR (pdH h8) rs)/\(List.isEmpty d4.1)=false)/\True)))) d40
def No:Cx:=⟨[(3,(.i .i64))],[],48,[],0,[],[],[],[],false,[],[],[],[]⟩
def Pz (h8:Int) (rs:List Int):List (Nat×LoopAnn):=[(0,⟨Unit,(List Int)×Int,[1,4,5,6],λe x=>[.val (.list (.i .u16)) rs,.box 4 0,.box 5 0,.val (.i .i64) x.2],λe x=>[(4,.slot 4,.cells [.val (.i .i64) (0:Int),.nilS] (some 26)),(5,.slot 5,.cells [.val (.i .i64) ((2:Int)+(Int.tmod h8 (7:Int))),.lst 45] (some 26)),(45,.cell 5 1,.lst 3 (.i .i64) x.1 (List.isEmpty x.1))]⟩)]
theorem Pu (d:Int×List Int):gwp (No) (Pz d.1 d.2) c4 0 (K9 [.cell 4 true 2] (Ur d) (Uu d)) (QC 48 (AL.can Np d))=XU d.1 d.2:=by kernel_rfl
abbrev PF:Prop:=OkC Tryd.prog 4 KH
theorem PO (h:∀ (h8:Int) (rs:List Int),(0<=h8/\h8<=255/\rs.length<=9223372036854775807/\∀ x∈rs,0<=x/\x<=65535)->XU h8 rs):OkC Tryd.prog 4 KH :=
 QK Z50 mixed (C:=No) (V:=λ(d:Int×List Int)=>XU d.1 d.2) ⟨.nil,XsOk.nil,ItsOk.nil,YlOk.nil,IysOk.nil,XfOk.nil⟩ (Pu) λd hp=>h d.1 d.2 hp
theorem PD:PF:=PO λh8 rs h=>by
 obtain⟨h0,h1,h2,h3⟩:=h;unfold XU;(try delta WC Tg T6);(try delta lI gD sT I64 J_ pj8 pj4);have hr:=E2 h0;rw[show 2+Int.tmod h8 7=pdH h8 from rfl];generalize pdH h8=H at hr |-;have hs:K0 .i64 1 H=2 ^ H.toNat/\4<=(2:Int) ^ H.toNat/\(2:Int) ^ H.toNat<=256:=by rcases (show H=2\/H=3\/H=4\/H=5\/H=6\/H=7\/H=8 by omega) with h|h|h|h|h|h|h<;>subst h<;>decide
 obtain⟨hs,oM,cN⟩:=hs;rw[hs];obtain⟨k1,k2,k3⟩:=Q7h (rs:=rs) (show 1<=H/\H<=24 by omega);refine⟨by rw[Qd];omega,by decide,by rw[Qd];omega,(),([],0),(by and_intros<;>first|rfl|trivial|simp),?_⟩;refine LoopP.count2 (pdR H rs).length (λk xs=>xs=(pdR H rs).take k) (by simp) λk xs hk hJ q hq=>?_;subst hJ;dsimp only;have cB:((pdR H rs).take k).length=k:=by rw[xR];omega
 have hlen:=Q3z (hk:=H) (rs:=rs);refine⟨λc=>?_,λc=>?_⟩
 .have c:k=0\/k<rs.length/\k<12:=by simp at c;omega
  have ai:k<(pdR H rs).length:=by
   rw[hlen];by_cases aB:rs=[]
   .subst aB;simp at c |-;omega
   .have:=xh.2 aB;rw[z0 aB];omega
  refine⟨λc2=>?_,λc2=>?_⟩
  .have c2:k<rs.length:=by simpa using c2
   have hx:=h3 _ (by rw[Q9 c2];exact zl c2:rs.getD k 0∈rs);have e:=Q7o (hk:=H) c2 (show k<12 by omega);simp only[zf];rw[Int.tmod_eq_emod_of_nonneg hx.1];refine⟨by omega,by omega,by rw[Qd];omega,⟨show (0:Int)<=H by omega,show H<=18446744073709551615 by omega⟩,by omega,by rw[Qd];omega,by omega,by rw[cB,xF];omega,by rw[Qd];omega,((pdR H rs).take (k+1),(k:Int)+1),?_,hq _ ai rfl⟩;rw[List.take_add_one,e];and_intros<;>first|rfl|trivial|simp
  .have c2:¬ k<rs.length:=by simpa using c2
   have k0:k=0:=by omega
   have r0:rs=[]:=xc.1 (by omega);subst k0 r0;refine⟨by simp,by rw[Qd];decide,([1],1),?_,hq [1] ai rfl⟩;and_intros<;>first|rfl|trivial|simp
 .have c:¬ (k=0\/k<rs.length/\k<12):=by simp at c;omega
  have au:k=(pdR H rs).length:=by
   have:(pdR H rs).length<=k:=by
    rw[hlen];by_cases aB:rs=[]
    .rw[z6 aB];omega
    .rw[z0 aB];omega
   omega
  rw[au,List.take_length]
  have:(pdR H rs).isEmpty=false:=by cases hm:pdR H rs with
   |nil=>exact absurd hm k1
   |cons a l=>rfl
  and_intros<;>first|rfl|trivial|exact this
def M3:AL ((Int×List (Int×Int×Bool))×List Int):=(.cons (.agg (.cons (.k (.i .i64)) (.one (.k (.list (.pair (.i .i64) (.pair (.i .i64) .bo))))))) (.one (.k (.list (.i .u8)))))
def Pw (d:(Int×List (Int×Int×Bool))×List Int):Prop:=d.1.2.length<=60/\d.2.length<=9223372036854775807/\∀ x∈d.2,0<=x/\x<=255
def Nd (d:(Int×List (Int×Int×Bool))×List Int):SV:=.agg [.val (.i .i64) d.1.1,.lst 0]
def Nq (d:(Int×List (Int×Int×Bool))×List Int):List OB:=[.lst 40 (.pair (.i .i64) (.pair (.i .i64) .bo)) (Q9o d.2 d.1.2) false]
def VH:CSp:=Yo M3 Pw Nd Nq
abbrev G9 :=((0:Int)=(0:Int)/\True/\(([]:List SV)=[]))
abbrev Uz (hk:Int):=(hk=hk/\True/\(([]:List SV)=[]))
abbrev A0 :=((0:Int)=(0:Int)/\(0:Int)=(0:Int)/\false=false/\(([]:List SV)=[]))
def Wo (hk:Int) (cs:List (Int×Int×Bool)) (by_:List Int):Prop :=
 (cs.length<=1000)/\∃ (e3:Unit) (d30:(List (Int×Int×Bool))×Int),((by_=by_/\True/\True/\(0:Int)=d30.2/\True)/\((Uz hk)/\(cs=d30.1/\false=false)/\G9/\True)) /\
 LoopP (λ(d3:(List (Int×Int×Bool))×Int) (q3:((List (Int×Int×Bool))×Int)->Prop) =>
  ((decide (d3.2<(lI d3.1)))=true ->
   (by_.length<=9223372036854775807/\0<=d3.2/\∀ x∈by_,0<=x/\x<=255)/\((lI d3.1)≠0)/\(0<=d3.2)/\(d3.2<(List.length d3.1))/\(0<=(Int.tmod (Z5 by_ d3.2) (lI d3.1)))/\((Int.tmod (Z5 by_ d3.2) (lI d3.1))<(List.length d3.1))/\((by_=by_/\True/\True/\d3.2=d3.2/\(Int.tmod (Z5 by_ d3.2) (lI d3.1))=(Int.tmod (Z5 by_ d3.2) (lI d3.1))/\True/\True/\((gD d3.1 (Int.tmod (Z5 by_ d3.2) (lI d3.1)) (0,(0,false))).1=(gD d3.1 (Int.tmod (Z5 by_ d3.2) (lI d3.1)) (0,(0,false))).1/\(gD d3.1 (Int.tmod (Z5 by_ d3.2) (lI d3.1)) (0,(0,false))).2.1=(gD d3.1 (Int.tmod (Z5 by_ d3.2) (lI d3.1)) (0,(0,false))).2.1/\(gD d3.1 (Int.tmod (Z5 by_ d3.2) (lI d3.1)) (0,(0,false))).2.2=(gD d3.1 (Int.tmod (Z5 by_ d3.2) (lI d3.1)) (0,(0,false))).2.2/\(([]:List SV)=[]))/\True)/\((Uz hk)/\G9/\((gD d3.1 d3.2 (0,(0,false))).1=(gD d3.1 d3.2 (0,(0,false))).1/\(gD d3.1 d3.2 (0,(0,false))).2.1=(gD d3.1 d3.2 (0,(0,false))).2.1/\(gD d3.1 d3.2 (0,(0,false))).2.2=(gD d3.1 d3.2 (0,(0,false))).2.2/\(([]:List SV)=[]))/\A0/\(d3.1=d3.1/\false=false)/\True))/\((0<=d3.2)/\(d3.2<(List.length d3.1))/\(0<=(Int.tmod (Z5 by_ d3.2) (lI d3.1)))/\((Int.tmod (Z5 by_ d3.2) (lI d3.1))<(List.length d3.1))/\((by_=by_/\True/\True/\d3.2=d3.2/\(Int.tmod (Z5 by_ d3.2) (lI d3.1))=(Int.tmod (Z5 by_ d3.2) (lI d3.1))/\True/\True/\((gD d3.1 (Int.tmod (Z5 by_ d3.2) (lI d3.1)) (0,(0,false))).1=(gD d3.1 (Int.tmod (Z5 by_ d3.2) (lI d3.1)) (0,(0,false))).1/\(gD d3.1 (Int.tmod (Z5 by_ d3.2) (lI d3.1)) (0,(0,false))).2.1=(gD d3.1 (Int.tmod (Z5 by_ d3.2) (lI d3.1)) (0,(0,false))).2.1/\(gD d3.1 (Int.tmod (Z5 by_ d3.2) (lI d3.1)) (0,(0,false))).2.2=(gD d3.1 (Int.tmod (Z5 by_ d3.2) (lI d3.1)) (0,(0,false))).2.2/\(([]:List SV)=[]))/\True)/\((Uz hk)/\G9/\((gD d3.1 d3.2 (0,(0,false))).1=(gD d3.1 d3.2 (0,(0,false))).1/\(gD d3.1 d3.2 (0,(0,false))).2.1=(gD d3.1 d3.2 (0,(0,false))).2.1/\(gD d3.1 d3.2 (0,(0,false))).2.2=(gD d3.1 d3.2 (0,(0,false))).2.2/\(([]:List SV)=[]))/\A0/\(d3.1=d3.1/\false=false)/\True)))/\(0<=(Int.tmod (Z5 by_ d3.2) (lI d3.1)))/\((Int.tmod (Z5 by_ d3.2) (lI d3.1))<(List.length d3.1))/\(((Int.tmod (Z5 by_ d3.2) (lI d3.1)) != d3.2)=true ->
    (0<=d3.2)/\(d3.2<(List.length (sT d3.1 (Int.tmod (Z5 by_ d3.2) (lI d3.1)) ((gD d3.1 d3.2 (0,(0,false))).1,((gD d3.1 d3.2 (0,(0,false))).2.1,(gD d3.1 d3.2 (0,(0,false))).2.2)))))/\(I64 (d3.2+(1:Int)))/\(by_.length<=9223372036854775807/\0<=(d3.2+(1:Int))/\∀ x∈by_,0<=x/\x<=255)/\((3:Int)≠0)/\(0<=d3.2)/\(d3.2<(List.length (sT (sT d3.1 (Int.tmod (Z5 by_ d3.2) (lI d3.1)) ((gD d3.1 d3.2 (0,(0,false))).1,((gD d3.1 d3.2 (0,(0,false))).2.1,(gD d3.1 d3.2 (0,(0,false))).2.2))) d3.2 ((gD d3.1 (Int.tmod (Z5 by_ d3.2) (lI d3.1)) (0,(0,false))).1,((gD d3.1 (Int.tmod (Z5 by_ d3.2) (lI d3.1)) (0,(0,false))).2.1,(gD d3.1 (Int.tmod (Z5 by_ d3.2) (lI d3.1)) (0,(0,false))).2.2)))))/\(I64 (d3.2+(1:Int)))/\(∃ d4:(List (Int×Int×Bool))×Int,((by_=by_/\True/\True/\(d3.2+(1:Int))=d4.2/\True)/\((Uz hk)/\((sT (sT (sT d3.1 (Int.tmod (Z5 by_ d3.2) (lI d3.1)) ((gD d3.1 d3.2 (0,(0,false))).1,((gD d3.1 d3.2 (0,(0,false))).2.1,(gD d3.1 d3.2 (0,(0,false))).2.2))) d3.2 ((gD d3.1 (Int.tmod (Z5 by_ d3.2) (lI d3.1)) (0,(0,false))).1,((gD d3.1 (Int.tmod (Z5 by_ d3.2) (lI d3.1)) (0,(0,false))).2.1,(gD d3.1 (Int.tmod (Z5 by_ d3.2) (lI d3.1)) (0,(0,false))).2.2))) d3.2 ((gD (sT (sT d3.1 (Int.tmod (Z5 by_ d3.2) (lI d3.1)) ((gD d3.1 d3.2 (0,(0,false))).1,((gD d3.1 d3.2 (0,(0,false))).2.1,(gD d3.1 d3.2 (0,(0,false))).2.2))) d3.2 ((gD d3.1 (Int.tmod (Z5 by_ d3.2) (lI d3.1)) (0,(0,false))).1,((gD d3.1 (Int.tmod (Z5 by_ d3.2) (lI d3.1)) (0,(0,false))).2.1,(gD d3.1 (Int.tmod (Z5 by_ d3.2) (lI d3.1)) (0,(0,false))).2.2))) d3.2 (0,(0,false))).1,((gD (sT (sT d3.1 (Int.tmod (Z5 by_ d3.2) (lI d3.1)) ((gD d3.1 d3.2 (0,(0,false))).1,((gD d3.1 d3.2 (0,(0,false))).2.1,(gD d3.1 d3.2 (0,(0,false))).2.2))) d3.2 ((gD d3.1 (Int.tmod (Z5 by_ d3.2) (lI d3.1)) (0,(0,false))).1,((gD d3.1 (Int.tmod (Z5 by_ d3.2) (lI d3.1)) (0,(0,false))).2.1,(gD d3.1 (Int.tmod (Z5 by_ d3.2) (lI d3.1)) (0,(0,false))).2.2))) d3.2 (0,(0,false))).2.1,((Int.tmod (Z5 by_ (d3.2+(1:Int))) (3:Int))==(0:Int)))))=d4.1/\false=false)/\G9/\True))/\q3 d4)) /\
   (((Int.tmod (Z5 by_ d3.2) (lI d3.1)) != d3.2)=false ->
    (I64 (d3.2+(1:Int)))/\(by_.length<=9223372036854775807/\0<=(d3.2+(1:Int))/\∀ x∈by_,0<=x/\x<=255)/\((3:Int)≠0)/\(0<=d3.2)/\(d3.2<(List.length (sT d3.1 (Int.tmod (Z5 by_ d3.2) (lI d3.1)) ((gD d3.1 d3.2 (0,(0,false))).1,((gD d3.1 d3.2 (0,(0,false))).2.1,(gD d3.1 d3.2 (0,(0,false))).2.2)))))/\(I64 (d3.2+(1:Int)))/\(∃ d5:(List (Int×Int×Bool))×Int,((by_=by_/\True/\True/\(d3.2+(1:Int))=d5.2/\True)/\((Uz hk)/\((sT (sT d3.1 (Int.tmod (Z5 by_ d3.2) (lI d3.1)) ((gD d3.1 d3.2 (0,(0,false))).1,((gD d3.1 d3.2 (0,(0,false))).2.1,(gD d3.1 d3.2 (0,(0,false))).2.2))) d3.2 ((gD (sT d3.1 (Int.tmod (Z5 by_ d3.2) (lI d3.1)) ((gD d3.1 d3.2 (0,(0,false))).1,((gD d3.1 d3.2 (0,(0,false))).2.1,(gD d3.1 d3.2 (0,(0,false))).2.2))) d3.2 (0,(0,false))).1,((gD (sT d3.1 (Int.tmod (Z5 by_ d3.2) (lI d3.1)) ((gD d3.1 d3.2 (0,(0,false))).1,((gD d3.1 d3.2 (0,(0,false))).2.1,(gD d3.1 d3.2 (0,(0,false))).2.2))) d3.2 (0,(0,false))).2.1,((Int.tmod (Z5 by_ (d3.2+(1:Int))) (3:Int))==(0:Int)))))=d5.1/\false=false)/\G9/\True))/\q3 d5))) /\
  ((decide (d3.2<(lI d3.1)))=false ->
   ((Uz hk)/\((d3.1=(Q9o by_ cs)/\false=false)/\True)))) d30
def Mm:Cx:=⟨[],[(12,WO),(27,UR)],60,[],0,[],[],[],[1,2,4,5,6,7,8,34],false,[],[],[],[]⟩
def RE (hk:Int) (cs:List (Int×Int×Bool)) (by_:List Int):List (Nat×LoopAnn):=[(0,⟨Unit,(List (Int×Int×Bool))×Int,[1,2,4,5],λe x=>[.val (.list (.i .u8)) by_,.box 2 0,.box 4 0,.val (.i .i64) x.2],λe x=>[(2,.slot 2,.cells [.val (.i .i64) hk,.lst 10] (some 34)),(10,.cell 2 1,.lst 40 (.pair (.i .i64) (.pair (.i .i64) .bo)) x.1 false),(4,.slot 4,.cells [.val (.i .i64) (0:Int),.nilS] (some 34))]⟩)]
theorem Rv (d:(Int×List (Int×Int×Bool))×List Int):gwp (Mm) (RE d.1.1 d.1.2 d.2) c10 0 (K9 [.cell 4 true 2] (Nd d) (Nq d)) (QC 60 (AL.can M3 d))=Wo d.1.1 d.1.2 d.2:=by kernel_rfl
abbrev R8:Prop:=OkC Tryd.prog 10 VH
theorem Tx (h:∀ (hk:Int) (cs:List (Int×Int×Bool)) (by_:List Int),(cs.length<=60/\by_.length<=9223372036854775807/\∀ x∈by_,0<=x/\x<=255)->Wo hk cs by_):OkC Tryd.prog 10 VH :=
 QK Z27 mixed (C:=Mm) (V:=λ(d:(Int×List (Int×Int×Bool))×List Int)=>Wo d.1.1 d.1.2 d.2) ⟨(.cons VO (.cons Sz .nil)),XsOk.nil,ItsOk.nil,YlOk.nil,IysOk.nil,XfOk.nil⟩ (Rv) λd hp=>h d.1.1 d.1.2 d.2 hp
theorem R4:R8:=Tx λhk cs by_ h=>by
 obtain⟨h1,h2,h3⟩:=h;unfold Wo;(try delta G9 Uz A0);(try delta lI gD sT I64 J_ pj8 pj4);refine⟨by omega,(),(cs,0),(by and_intros<;>first|rfl|trivial|simp),?_⟩;refine LoopP.count2 cs.length (λk xs=>xs=CJ by_ cs k) rfl λk xs hk hJ q hq=>?_;have hl:=CD by_ cs k;subst hJ;dsimp only;refine⟨λc=>?_,λc=>?_⟩
 .have c:k<(CJ by_ cs k).length:=by simpa using c
  have ai:k<cs.length:=by omega
  have hq:q (O2 by_ (CJ by_ cs k) k,(k:Int)+1):=hq _ ai rfl;have t1:=Int.tmod_nonneg ((CJ by_ cs k).length:Int) (Ic h3 (show (0:Int)<=(k:Int) by omega)).1;have t2:=Int.tmod_lt_of_pos (Z5 by_ k) (show (0:Int)<((CJ by_ cs k).length:Int) by omega);unfold O2 Q9f Z4z at hq;dsimp only at hq;generalize Int.tmod (Z5 by_ (k:Int)) ((CJ by_ cs k).length:Int)=z at *
  obtain⟨z,rfl⟩:=zM t1;simp only[zf] at hq |-;generalize CJ by_ cs k=X at *
  unfold Z_ at hq;have ni:((z:Int) != (k:Int))=false->q ((X.set z (X.getD k (0,(0,false)))).set k (((X.set z (X.getD k (0,(0,false)))).getD k (0,(0,false))).1,(((X.set z (X.getD k (0,(0,false)))).getD k (0,(0,false))).2.1,Int.tmod (Z5 by_ ((k:Int)+1)) 3==0)),(k:Int)+1):=by
   intro c2;have e:z=k:=by have:=eq_of_beq (show ((z:Int)==(k:Int))=true by simpa using c2);omega
   subst e;simp only[List.set_set] at hq |-;exact hq
  have l1:∀ u v,(X.set u v).length=cs.length:=λu v=>by rw[xj];exact hl
  have l2:∀ u v u' v',((X.set u v).set u' v').length=cs.length:=λu v u' v'=>by rw[xj];exact l1 u v
  repeat' (first
   |with_reducible refine And.intro ?_ ?_
   |assumption
   |omega
   |(rw[Qd];omega)
   |(rw[l1];omega)
   |(rw[l2];omega)
   |rfl
   |trivial
   |decide
   |(refine⟨_,?_,hq⟩;and_intros<;>first|rfl|trivial)
   |(refine⟨_,?_,ni (by assumption)⟩;and_intros<;>first|rfl|trivial)
   |intro c2)
 .have c:¬ k<(CJ by_ cs k).length:=by simpa using c
  have au:k=cs.length:=by omega
  subst au;and_intros<;>first|rfl|trivial
def MA:AL (Unit):=.nil
def PJ (d:Unit):Prop:=True
def Ni (d:Unit):SV:=.val .bo true
def Nt (d:Unit):List OB:=[]
def VW:CSp:=Yo MA PJ Ni Nt
abbrev Te :=((((((ZX (4:Int) [((0:Int),((1:Int),false)),((3:Int),((8:Int),false)),((1:Int),((2:Int),false)),((2:Int),((4:Int),false)),((4:Int),((15:Int),false))] (0:Int) [(1:Int),(1:Int),(0:Int),(2:Int)])==(0:Int))&&((QA (4:Int) [((0:Int),((1:Int),false)),((3:Int),((8:Int),false)),((1:Int),((2:Int),false)),((2:Int),((4:Int),false)),((4:Int),((15:Int),false))])==(0:Int)))&&((0:Int)==(0:Int)))&&((Pq (4:Int) [((0:Int),((1:Int),false)),((3:Int),((8:Int),false)),((1:Int),((2:Int),false)),((2:Int),((4:Int),false)),((4:Int),((15:Int),false))] (0:Int) [(1:Int),(1:Int),(0:Int),(2:Int)])==[(1:Int),(8:Int),(2:Int),(2:Int)]))&&((UQ (4:Int) [((0:Int),((1:Int),false)),((3:Int),((8:Int),false)),((1:Int),((2:Int),false)),((2:Int),((4:Int),false)),((4:Int),((15:Int),false))] (0:Int) [(1:Int),(1:Int),(0:Int),(2:Int)])==(4:Int)))
abbrev Bi :=([((0:Int),((1:Int),false)),((3:Int),((8:Int),false)),((1:Int),((2:Int),false)),((2:Int),((4:Int),false)),((4:Int),((15:Int),false))].length<=1000)
abbrev Ao :=((((ZX (4:Int) [((0:Int),((1:Int),false)),((3:Int),((8:Int),false)),((1:Int),((2:Int),false)),((2:Int),((4:Int),false)),((4:Int),((15:Int),false))] (0:Int) [(1:Int),(1:Int),(0:Int),(2:Int)])==(0:Int))&&((QA (4:Int) [((0:Int),((1:Int),false)),((3:Int),((8:Int),false)),((1:Int),((2:Int),false)),((2:Int),((4:Int),false)),((4:Int),((15:Int),false))])==(0:Int)))&&((0:Int)==(0:Int)))
abbrev zthain_3 :=(F6 (4:Int) [((0:Int),((1:Int),false)),((3:Int),((8:Int),false)),((1:Int),((2:Int),false)),((2:Int),((4:Int),false)),((4:Int),((15:Int),false))])
abbrev Bc :=((4:Int),((15:Int),false))
abbrev Hb :=((0:Int),((1:Int),false))
abbrev Bg :=((3:Int),((8:Int),false))
abbrev Bv :=((1:Int),((2:Int),false))
abbrev Bd :=((2:Int),((4:Int),false))
def Wy :Prop :=
 Bi/\([Hb,Bg,Bv,Bd,Bc].length<=1000/\[(1:Int),(1:Int),(0:Int),(2:Int)].length<=1000)/\Bi/\Bi/\Bi/\(Qu (4:Int) [Hb,Bg,Bv,Bd,Bc]=0/\[(8:Int),(2:Int),(2:Int),(-1:Int),(1:Int)].length<=60/\(∀ r∈[(8:Int),(2:Int),(2:Int),(-1:Int),(1:Int)],-1<=r/\r<2 ^ (4:Int).toNat)/\0<=(2:Int)/\(2:Int)<=6)/\(Ao=true->True)/\(Ao=true->(Pq (4:Int) [Hb,Bg,Bv,Bd,Bc] (0:Int) [(1:Int),(1:Int),(0:Int),(2:Int)]).length<=1000000)/\(Te=true->True)/\(Te=true->zthain_3.length<=1000000)/\(((Te&&(zthain_3==[(1:Int)]))&&((AN (4:Int) [Hb,Bg,Bv,Bd,Bc] [(8:Int),(2:Int),(2:Int),(-1:Int),(1:Int)] (2:Int))==(2:Int)))=true/\(True))
def Mt:Cx:=⟨[(3,(.i .i64)),(40,(.pair (.i .i64) (.pair (.i .i64) .bo)))],[(12,WO),(14,K2),(11,K4),(22,N_),(16,Kg)],65,[],0,[],[],[],[],false,[],[],[],[]⟩
def R2 :List (Nat×LoopAnn):=[]
theorem Rs (d:Unit):gwp (Mt) (R2 ) c8 0 (K9 [.tmp 0] (Ni d) (Nt d)) (QC 65 (AL.can MA d))=Wy :=by kernel_rfl
abbrev R0:Prop:=OkC Tryd.prog 8 VW
theorem Rl (h:(True)->Wy ):OkC Tryd.prog 8 VW :=
 QK Z5o mixed (C:=Mt) (V:=λ(d:Unit)=>Wy ) ⟨(.cons VO (.cons GS (.cons G_ (.cons Cu (.cons GP .nil))))),XsOk.nil,ItsOk.nil,YlOk.nil,IysOk.nil,XfOk.nil⟩ (Rs) λd hp=>h  hp
theorem R1:R0:=Rl λ_=>by
 unfold Wy;(try delta Te Bi Ao zthain_3 Bc Hb Bg Bv Bd);(try delta lI gD sT I64 J_ pj8 pj4);have e1:ZX 4 [(0,(1,false)),(3,(8,false)),(1,(2,false)),(2,(4,false)),(4,(15,false))] 0 [1,1,0,2]=0:=by decide +kernel
 have e2:QA 4 [(0,(1,false)),(3,(8,false)),(1,(2,false)),(2,(4,false)),(4,(15,false))]=0:=by decide +kernel
 have e3:Pq 4 [(0,(1,false)),(3,(8,false)),(1,(2,false)),(2,(4,false)),(4,(15,false))] 0 [1,1,0,2]=[1,8,2,2]:=by decide +kernel
 have e4:UQ 4 [(0,(1,false)),(3,(8,false)),(1,(2,false)),(2,(4,false)),(4,(15,false))] 0 [1,1,0,2]=4:=by decide +kernel
 have e5:F6 4 [(0,(1,false)),(3,(8,false)),(1,(2,false)),(2,(4,false)),(4,(15,false))]=[1]:=by decide +kernel
 have e6:AN 4 [(0,(1,false)),(3,(8,false)),(1,(2,false)),(2,(4,false)),(4,(15,false))] [8,2,2,-1,1] 2=2:=Q2d;have e7:Qu 4 [(0,(1,false)),(3,(8,false)),(1,(2,false)),(2,(4,false)),(4,(15,false))]=0:=by decide +kernel
 simp only[e1,e2,e3,e4,e5,e6,e7];and_intros<;>first|decide|exactλ_=>by decide
theorem Q57 {rows:List Int}{i:Nat}(h:i<rows.length):(Rx rows).getD i Z_=((i:Int),(rows.getD i 0,false)):=by rw[Q9 (by simpa [Rx] using h)];simp[Rx]
theorem G7 (rows:List Int):(Rx rows).length=rows.length:=by simp[Rx]
theorem Q12 {n:Nat}{k:Nat}(h:k<n):(List.replicate n (1:Int)).getD k 0=1:=by rw[Q9 (by simpa using h)];simp
theorem Ai {n m:Nat}(hn:0<n):∀ k,k<=m->k<n->atK n 0 (List.replicate m (1:Int)) k=(k:Int)
 |0,_,_=>rfl
 |k+1,hk,iN=>by have ih:=Ai hn k (by omega) (by omega) (m:=m);unfold atK;rw[ih,Q12 (by omega),Int.tmod_eq_emod_of_nonneg (by omega),Int.emod_eq_of_lt (by omega) (by omega)];rfl
theorem Q33 {n:Nat}(hn:0<n):atK n 0 (List.replicate n (1:Int)) n=0:=by obtain⟨m,rfl⟩:∃ m,n=m+1:=⟨n-1,by omega⟩;have ih:=Ai (n:=m+1) (m:=m+1) hn m (by omega) (by omega);unfold atK;rw[ih,Q12 (by omega),show ((m:Int)+1)=((m+1:Nat):Int) from rfl,Int.tmod_self]
theorem Tr {hk:Int}{rows:List Int}{L:List Xo}(h1:1<=hk/\hk<=24) (hr:∀ x∈rows,0<=x/\x<2 ^ hk.toNat) (hl:L.length=rows.length) (h0:rows≠[]) (oo:rows.length<=60) (hb:∀ c∈L,0<=c.1/\c.1<rows.length/\c.2.1=rows.getD c.1.toNat 0):Qu hk L=0:=by
 unfold Qu;have i1:inI hk 1 24=true:=by unfold inI;rw[zn h1.1,zn h1.2];rfl
 rw[z0 (by rw[i1];decide),z0 (by omega),z0];rintro (h|h)
 .rw[h] at hl;exact h0 (xc.1 hl.symm)
 .obtain⟨c,hc,a_⟩:=xI.1 h;obtain⟨c1,c2,c3⟩:=hb c hc;have ai:c.1.toNat<rows.length:=by omega
  have h4:=hr (rows.getD c.1.toNat 0) (by rw[Q9 ai];exact zl ai);rw[<-c3] at h4;have:Zb hk c=true:=by unfold Zb inI;rw[zn (by omega),zn (by omega),zn h4.1,zn (by omega)];rfl
  rw[this] at a_;cases a_
theorem FB {hk:Int}{rows:List Int}(h1:1<=hk/\hk<=24) (hr:∀ x∈rows,0<=x/\x<2 ^ hk.toNat) (h0:rows≠[]) (oo:rows.length<=60) :
  ZX hk (Rx rows) 0 (List.replicate rows.length 1)=0/\Pq hk (Rx rows) 0 (List.replicate rows.length 1)=rows/\UQ hk (Rx rows) 0 (List.replicate rows.length 1)=0:=by
 have hn:0<rows.length:=xh.2 h0;have be:Qu hk (Rx rows)=0:=Tr h1 hr (G7 rows) h0 oo λc hc=>by obtain⟨i,hi,rfl⟩:=zB.1 hc;have:=zW.1 hi;dsimp only;rw[zf];exact⟨by omega,by omega,rfl⟩
 have we:ZX hk (Rx rows) 0 (List.replicate rows.length 1)=0:=by
  unfold ZX;rw[z0 (by omega),G7,z0,z0 (by simpa using oo),z0]
  .rw[xI];rintro⟨x,hx,hb⟩;rw[(List.mem_replicate.1 hx).2] at hb;cases hb
  .rw[show inI 0 0 ((rows.length:Int)-1)=true by unfold inI;rw[zn (by omega),zn (by omega)];rfl];decide
 refine⟨we,?_,?_⟩
 .unfold Pq;rw[z6 we,xQ];refine List.ext_getElem (AW _ _ _ _ _) λi h2 h3=>?_;simp only[L9,xD,List.getElem_range];rw[G7,Ai hn i (by omega) h3,zf,Q57 h3,Q9 h3];rfl
 .unfold UQ;rw[z6 we,xQ,G7];exact Q33 hn
theorem FJ {hk:Int}{rows:List Int}(h1:1<=hk/\hk<=24) (hr:∀ x∈rows,0<=x/\x<2 ^ hk.toNat) (h0:rows≠[]) (oo:rows.length<=60):Wk hk rows=0:=by
 unfold Wk;have i1:inI hk 1 24=true:=by unfold inI;rw[zn h1.1,zn h1.2];rfl
 rw[z0 (by rw[i1];decide),z0 (by omega),z0 h0,z0];rw[xI];rintro⟨x,hx,hb⟩;have:=hr x hx;rw[show inI x 0 (2 ^ hk.toNat-1)=true by unfold inI;rw[zn (by omega),zn (by omega)];rfl] at hb;cases hb
structure MarkI (rows:List Int) (L:List Xo):Prop where
 len:L.length=rows.length
 val:∀ c∈L,0<=c.1/\c.1<rows.length/\c.2.1=rows.getD c.1.toNat 0
 nd:(L.map (·.1)).Nodup
theorem Q67 (rows:List Int):MarkI rows (Rx rows):=by
 refine⟨G7 rows,λc hc=>?_,?_⟩
 .obtain⟨i,hi,rfl⟩:=zB.1 hc;have:=zW.1 hi;dsimp only;rw[zf];exact⟨by omega,by omega,rfl⟩
 .unfold Rx;rw[wq,List.nodup_iff_pairwise_ne,xY];refine (List.nodup_iff_pairwise_ne.1 List.nodup_range).imp λ{a b} h e=>h ?_;have:(a:Int)=(b:Int):=e;omega
theorem MarkI.perm {rows:List Int}{L M:List Xo}(h:MarkI rows L) (hp:M.Perm L):MarkI rows M :=
 ⟨hp.length_eq.trans h.len,λc hc=>h.val c (hp.mem_iff.1 hc),(hp.map (·.1)).nodup_iff.2 h.nd⟩
theorem MarkI.set {rows:List Int}{L:List Xo}(h:MarkI rows L) {k:Nat}(hk:k<L.length) (b:Bool):MarkI rows (L.set k ((L.getD k Z_).1,((L.getD k Z_).2.1,b))):=by
 refine⟨by rw[xj];exact h.len,λc hc=>?_,?_⟩
 .rcases List.mem_or_eq_of_mem_set hc with hc|rfl
  .exact h.val c hc
  .rw[Q9 hk];exact h.val L[k] (zl hk)
 .have e:(L.set k ((L.getD k Z_).1,((L.getD k Z_).2.1,b))).map (·.1)=L.map (·.1):=by
   rw[List.map_set,Q9 hk];refine List.ext_getElem (by simp) λi h1 h2=>?_;rw[List.getElem_set];split
   .rename_i h3;subst h3;simp
   .rfl
  rw[e];exact h.nd
theorem MarkI.mix {rows by_:List Int}{L:List Xo}(h:MarkI rows L) (hb:∀ x∈by_,0<=x/\x<=255):∀ m,m<=L.length->MarkI rows (CJ by_ L m)
 |0,_=>h
 |m+1,hm=>by
  have ih:=MarkI.mix h hb m (by omega);have hl:=CD by_ L m;have t1:=Int.tmod_nonneg ((CJ by_ L m).length:Int) (Ic hb (show (0:Int)<=(m:Int) by omega)).1;have t2:=Int.tmod_lt_of_pos (Z5 by_ m) (show (0:Int)<((CJ by_ L m).length:Int) by omega);have hk:Q9f by_ m (CJ by_ L m).length<(CJ by_ L m).length:=by unfold Q9f;omega
  have sw:=OV (l:=CJ by_ L m) (i:=Q9f by_ m (CJ by_ L m).length) (k:=m) (d:=Z_) hk (by omega);have ip:=ih.perm sw;exact ip.set (k:=m) (by rw[xj,xj];omega) _
theorem I4 {hk:Int}{rows:List Int}{L:List Xo}(h:MarkI rows L) (hb:Qu hk L=0):QA hk L=0:=by unfold QA;rw[z0 (by omega),z0,z6 h.nd];intro hm;obtain⟨c,hc,e⟩:=zB.1 hm;have:=(h.val c hc).1;omega
theorem Q1t {α:Type}{A C:List α}(h:A.length=C.length) {i:Nat}(hi:i<C.length) (d:α):(A.take i++C.drop i).getD i d=C.getD i d:=by
 have e:(A.take i).length=i:=by rw[xR];omega
 rw[ze,xy (by omega),e,wu,zX,zY,<-ze]
theorem Q1m {α:Type}{A C:List α}(h:A.length=C.length) {i:Nat}(hi:i<A.length) {x d:α}(hx:x=A.getD i d):(A.take i++C.drop i).set i x=A.take (i+1)++C.drop (i+1):=by
 have e:(A.take i).length=i:=by rw[xR];omega
 have hc:i<C.length:=by omega
 rw[wm _ _ (by omega),e,wu,xP hc,List.set_cons_zero,hx,Q9 hi,List.take_succ_eq_append_getElem hi,x9];rfl
theorem FX {α:Type}{A C:List α}(h:A.length=C.length) {i:Nat}(hi:i<=A.length):(A.take i++C.drop i).length=A.length:=by rw[zL,xR,wk];omega
def blk (L:List Xo):List Xo:=L.map λc=>(-1,c.2)
def rwC (L:List Xo):List Int:=L.map λc=>c.2.1
theorem Fm {L:List Xo}{i:Nat}(h:i<L.length):(blk L).getD i Z_=(-1,(L.getD i Z_).2):=by rw[Q9 (by simpa [blk] using h),Q9 h];simp[blk]
theorem Q85 {L:List Xo}{i:Nat}(h:i<L.length):(rwC L).getD i 0=(L.getD i Z_).2.1:=by rw[Q9 (by simpa [rwC] using h),Q9 h];simp[rwC]
theorem I0 (L:List Xo):(blk L).length=L.length:=by simp[blk]
theorem Q45 (L:List Xo):(rwC L).length=L.length:=by simp[rwC]
theorem Q79 {R:List Int}{L:List Xo}(h:MarkI R L) {b:Int}(hr:∀ x∈R,0<=x/\x<b):∀ x∈rwC L,0<=x/\x<b:=λx hx=>by
 obtain⟨c,hc,rfl⟩:=zB.1 hx;obtain⟨h1,h2,h3⟩:=h.val c hc;have ai:c.1.toNat<R.length:=by omega
 rw[h3,Q9 ai];exact hr _ (zl ai)
theorem OS {H:Int}{R:List Int}{L:List Xo}(hk:1<=H/\H<=24) (hr:∀ x∈R,0<=x/\x<2 ^ H.toNat) (aB:R≠[]) (oo:R.length<=60) (h:MarkI R L):QA H (blk L)=9:=by
 have hl:L.length=R.length:=h.len;have hn:1<=R.length:=xh.2 aB;have i1:inI H 1 24=true:=by unfold inI;rw[zn hk.1,zn hk.2];rfl
 have be:Qu H (blk L)=0:=by
  unfold Qu;rw[z0 (by rw[i1];decide),z0 (by rw[I0];omega),z0];rintro (e|e)
  .have:=congrArg List.length e;rw[I0] at this;simp at this;subst this;simp at hl;omega
  .obtain⟨c,hc,hb⟩:=xI.1 e;obtain⟨c0,lZ,rfl⟩:=zB.1 hc;have hx:=Q79 h hr c0.2.1 (zB.2 ⟨c0,lZ,rfl⟩);have:Zb H (-1,c0.2)=true:=by
    unfold Zb inI;rw[zn (by omega),zn (by omega),zn (by exact hx.1),zn (by show c0.2.1<=_;omega)];rfl
   rw[this] at hb;cases hb
 unfold QA;rw[z0 (by omega),z6];have h0:0<L.length:=by omega
 exact zB.2 ⟨(-1,L[0].2),zB.2 ⟨L[0],zl h0,rfl⟩,rfl⟩
theorem TR {H:Int}{R:List Int}(h:1<=H/\H<=24) (r:R≠[]/\R.length<=12/\∀ x∈R,0<=x/\x<2 ^ H.toNat):QW H R=0:=by
 have hr:1<=R.length:=xh.2 r.1;have hl:=r.2.1;have i1:inI H 1 24=true:=by unfold inI;rw[zn (by omega),zn (by omega)];rfl
 unfold QW;rw[z0 (by rw[i1];decide),z0 (by omega),z0 (by omega),z0];rw[xI];rintro⟨x,hx,hb⟩;have:=r.2.2 x hx;rw[show inI x 0 (2 ^ H.toNat-1)=true by unfold inI;rw[zn (by omega),zn (by omega)];rfl] at hb;cases hb
theorem Z1m {R:List Int}{L:List Xo}(h:MarkI R L) {i:Nat}(hi:i<L.length) (hD:∀ a k,k<a->a<R.length->(R.map T7).getD a 0≠(R.map T7).getD k 0) :
  (L.getD i Z_).1.toNat<R.length/\0<=(L.getD i Z_).1/\∀ k,k<R.length->((((rwC L).map T7).getD i 0==(R.map T7).getD k 0)=true<->(L.getD i Z_).1.toNat=k):=by
 rw[Q9 hi];obtain⟨h1,h2,h3⟩:=h.val L[i] (zl hi);have ai:L[i].1.toNat<R.length:=by omega
 refine⟨ai,h1,λk hk=>?_⟩;have e:((rwC L).map T7).getD i 0=(R.map T7).getD L[i].1.toNat 0:=by rw[Q9 (by rw[xt,Q45];exact hi),Q9 (by rw[xt];exact ai)];simp only[xD,rwC];rw[h3,Q9 ai]
 rw[e,zK];constructor
 .intro e2;rcases Nat.lt_trichotomy L[i].1.toNat k with h4|h4|h4
  .exact absurd e2.symm (hD k _ h4 hk)
  .exact h4
  .exact absurd e2 (hD _ k h4 ai)
 .rintro rfl;rfl
end Go.Proofs.Tryd
namespace Go.V
open Go
theorem Q6h {P:Program}{U:Heap}:Ret P U (.val .bo true) [] (.bool true) U :=
 ⟨⟨.refl _,Dead.refl _⟩,λ_=>rfl,Xd,λj b hj=>by simp at hj,λj j' i hj=>by simp at hj,by simp[SR,KC]⟩
theorem Q54 {P:Program}{f:Nat}(h:∀ (U:Heap) (K:Value->Heap->Prop),K (.bool true) U->VCalled P f [] U K):OkC P f (Yo (.nil:AL Unit) (λ_=>True) (λ_=>.val .bo true) (λ_=>[])):=by
 intro ap du U args vs c v bs aq hs hv bT hc;unfold Yo at hs;split at hs
 .rename_i d hd;obtain⟨rfl,rfl,rfl⟩:=(by simpa using hs:True=c/\SV.val .bo true=v/\[]=bs);have:vs=[]:=by
   cases args with
   |nil=>simpa [SRs] using aq
   |cons a l=>simp[AL.dec] at hd
  subst this;refine⟨h U _ Q6h,λ_ _=>h U _ ⟨rfl,?_⟩⟩;unfold R3;cases U;simp only[List.length_nil,zY,List.getElem?_nil,Option.bind_none,Heap.mk.injEq,and_true];funext i;split
  .rfl
  .rename_i wf hi;exact wf i (by simpa using hi)
 .cases hs
end Go.V
namespace Go.V
open Go Go.ChangeShapes Go.WideShapes Go.RowKit Go.Deep Go.Joins
def Heap.RO (U:Heap):Prop:=∀ i b,U.get i=some b->b.wr=false
structure View (w:World) (ρ:Plc) (U:Heap):Prop where
 rel:HRel ρ U w
 ro:U.RO
structure More (ρ:Plc) (U:Heap) (ρ':Plc) (U':Heap):Prop where
 n:U.n<=U'.n
 pl:∀ i,i<U.n->∀ p,ρ' i=some p->ρ i=some p
 ag:Agree U U'
theorem More.refl (ρ:Plc) (U:Heap):More ρ U ρ U:=⟨zd _,λ_ _ _ h=>h,Agree.refl _⟩
theorem More.trans {ρ ρ' ec:Plc}{U U' aE:Heap}(h:More ρ U ρ' U') (k:More ρ' U' ec aE):More ρ U ec aE :=
 ⟨x5 h.n k.n,λi hi p hp=>h.pl i hi p (k.pl i (zZ hi h.n) p hp),h.ag.trans k.ag h.n⟩
def Z4k (w:World):Prop:=∀ g cs,Q4a g=some cs->∃ e f,w.heap[g]?=some (.cells cs.toArray e f)
theorem View.emptyT (w:World) (ht:Z4k w):View w (λ_=>none) Heap.empty where
 rel:=⟨⟨λi b h=>(by cases h),λ_ _=>rfl,λi p h=>(by cases h),λi j p q b _ h=>(by cases h)⟩,λg cs hg=>⟨ht g cs hg,λ⟨_,_,_,h,_⟩=>by cases h⟩⟩
 ro:=λi b h=>by cases h
theorem View.add {w:World}{ρ:Plc}{U:Heap}(h:View w ρ U) (p:Pl) (c:List Value) {C:Array Value}{e:TypeId}{f:Nat×Nat}(hb:w.heap[p.blk]?=some (.cells C e f)) (hs:p.shift+p.ext<=C.size) (hl:c.length<=p.ext) (ht:e=p.esz.ty)
  (hc:∀ (k:Nat) (v:Value),c[k]?=some v->∃ u,w.cell? ⟨p.blk,p.shift+k,none⟩=some u/\VRel ρ U.n v u) :
  View w (ρ.put U.n (some p)) (U.push (.cells c p.esz false p.tight))/\More ρ U (ρ.put U.n (some p)) (U.push (.cells c p.esz false p.tight)):=by
 have aU:∀ i,i<U.n->∀ q,(ρ.put U.n (some p)) i=some q->ρ i=some q:=λi hi q hq=>by unfold Plc.put at hq;rwa [z0 (by omega)] at hq
 have bL:(U.push (.cells c p.esz false p.tight)).RO:=λi b hi=>by
  by_cases e:i=U.n
  .subst e;rw[Heap.q0a] at hi;obtain rfl:=osj hi;rfl
  .rw[Heap.q0e _ _ e] at hi;exact h.ro i b hi
 refine⟨⟨⟨⟨?_,?_,?_,?_⟩,λg cs hg=>⟨(h.rel.tab g cs hg).1,λ⟨i,_,b,_,hi,hw,_⟩=>by rw[bL i b hi] at hw;cases hw⟩⟩,bL⟩,⟨by simp,aU,λi hi=>Heap.q0k _ _ hi⟩⟩
 .intro i b hi;by_cases aO:i=U.n
  .subst aO;rw[Heap.q0a] at hi;obtain rfl:=osj hi;refine⟨p,by simp[Plc.put],rfl,rfl,hl,⟨C,e,f,hb,hs,ht⟩,λk v hk=>?_,λh=>by cases h⟩;obtain⟨u,hu,hv⟩:=hc k v hk;exact⟨u,hu,hv.mono (by simp) aU⟩
  .rw[Heap.q0e _ _ aO] at hi;obtain⟨q,hq,hB⟩:=h.rel.live i b hi;exact⟨q,by simp[Plc.put,aO,hq],hB.mono (by simp) aU rfl⟩
 .intro i hi;by_cases aO:i=U.n
  .grind [Heap.q0a]
  .rw[Heap.q0e _ _ aO] at hi;simp[Plc.put,aO,h.rel.dead i hi]
 .intro i q hq;by_cases aO:i=U.n
  .subst aO;simp[Plc.put] at hq
   grind
  .simp[Plc.put,aO] at hq;exact h.rel.lt i q hq
 .intro i j q r b _ _ _ cm hw _;rw[bL i b cm] at hw;cases hw
theorem Q2m {P:Program}{fits:TypeId->Bool}{d:Nat}{e:TypeId}{count off n:Nat}(h:rowAt P fits d e count off n=true):off<=count*P.cellsOf e:=by
 cases d with
 |zero=>cases h
 |succ d =>
  unfold rowAt at h;by_cases hs:P.cellsOf e=0
  .simp[hs] at h
  .have bp:0<P.cellsOf e:=Nat.pos_of_ne_zero hs;simp only[hs,if_false,zy,z8,zK,zr] at h;have hd:=Nat.div_add_mod off (P.cellsOf e);have hm:=wc off bp;rcases h with⟨⟨h1,h2⟩,_⟩|⟨h1,_⟩
   .have:P.cellsOf e*(off / P.cellsOf e)<=P.cellsOf e*count:=Nat.mul_le_mul_left _ (by omega);rw[wC count];omega
   .have:P.cellsOf e*(off / P.cellsOf e+1)<=P.cellsOf e*count:=Nat.mul_le_mul_left _ (by omega)
    grind
theorem LD {P:Program}:∀ {d:Nat}{e:TypeId}{count off:Nat}{u:TypeId}{n:Nat},liesAt P d e count off u n=true->off<=count*P.cellsOf e
 |0,_,_,_,_,_,h=>by cases h
 |d+1,e,count,off,u,n,h=>by
  unfold liesAt at h;rw[zy] at h;rcases h with h|h
  .exact Q2m h
  .split at h
   .exact LD h
   .cases h
theorem Ef {P:Program}{w:World}{r:Reach}{base:Nat}{a:Addr}{e:TypeId}{n:Nat}(h:w.has P r base a e n):∃ C row f,w.heap[a.block]?=some (.cells C row f)/\a.off<=C.size/\a.spot=none:=by
 obtain⟨_,hs,row,cells,ep,hl⟩:=h;unfold World.shape? at ep;split at ep
 .rename_i C e' f hb;obtain⟨rfl,rfl⟩:=(by simpa using ep:e'=row/\C.size=cells);exact⟨C,e',f,hb,x5 (LD hl) (Nat.div_mul_le_self _ _),hs⟩
 .cases ep
theorem HY {P:Program}{w:World}{r:Reach}{base:Nat}{t e:TypeId}{v:Value}(ht:P.underlying t=some (.slice e)) (h:Cell.okWide P w r base t v) :
  v=.slice none 0 0\/∃ a len cap,v=.slice (some a) len cap/\w.has P r base a e cap:=by
 unfold Cell.okWide at h;rw[ht] at h;have h':Cell.ok P w r base t v:=by omega
 unfold Cell.ok at h'
 grind
theorem Z0q {k:IntKind}{x:Int}(h:(Lit.int k x).wf=true):k.min<=x/\x<=k.max:=by simpa [Lit.wf] using h
theorem View.calls {P:Program}{f:FuncId}{w:World}{ρ:Plc}{U:Heap}(h:View w ρ U) {args:List Value}{ax:Array Value}(hl:LRel ρ U.n args ax.toList) (hc:VCallsTo P f args U λv _=>v=.bool true) :
  Calls P f ax w λe w'=>e=.returned (.bool true)/\Below w.heap.size w w':=by
 refine (hc ρ w ax h.rel hl).mono λe w' ⟨c,he,v,ρ',U',hv,hr,_,hx⟩=>?_;subst hv;have:c=.bool true:=by cases hr;rfl
 subst this;exact⟨he,hx.os,hx.tape,hx.output,hx.size,λB hB=>hx.keep B hB λ⟨i,p,b,_,hi,hw,_⟩=>by rw[h.ro i b hi] at hw;cases hw⟩
theorem H3 {H:Type}{enc:TypeId×Value->H}{P:Program}(hl:laidOutB P=true) {W W':World}{sp:Nat->Bool}(hb:Below W.heap.size W W') :
  ∀ {ts:List TypeId}{vs:List Value}{ds:List (DataW H)}{ps:List MemPlace},(∀ t∈ts,P.readableRec t=true/\t<P.types.size)->DataW.TrodAll enc P W 0 (λ_=>true) true ts vs ds ps->(∀ p∈ps,p.block<W.heap.size)->(∀ p∈ps,sp p.block=true) ->
   DataW.TrodAll enc P W' 0 sp true ts vs ds ps
 |[],vs,ds,ps,_,h,_,_=>by obtain⟨rfl,rfl,rfl⟩:=trodAll_nil h;rfl
 |t::ts,vs,ds,ps,ht,h,ai,hs=>by
  obtain⟨v,cA,d,ds',p,q,rfl,rfl,rfl,h1,h2⟩:=trodAll_cons h;obtain⟨r1,r2⟩:=ht t (by simp);exact⟨p,q,WideElems.Trod_stays hl r1 r2 h1 (λx hx=>hb.same (ai x (by simp[hx]))) (λx hx=>hs x (by simp[hx])),
   H3 hl hb (λt ph=>ht t (by simp[ph])) h2 (λx hx=>ai x (by simp[hx])) (λx hx=>hs x (by simp[hx])),rfl⟩
theorem Q2q {H:Type}{enc:TypeId×Value->H}{P:Program}{f:Func}{s:ChangeSpec}{apart fresh handsOn again:Bool}{W W':World}{args:Array Value}{ds gs:List (DataW H)}{before:List MemPlace}{tb:TypeId}
  (hl:laidOutB P=true) (hp:f.params.toList.all (λt=>P.readableRec t&&decide (t<P.types.size))=true) (ki:s.vars=[]) (hr:f.resultTypes=#[tb]) (bE:P.underlying tb=some .bool) (hs:s.fn H ds={results:=[.lit (.bool true)],args:=ds})
  (hW:DataW.Whole enc P f.params.toList s.vars apart W args.toList ds gs before) (hb:Below W.heap.size W W'):s.post enc P f apart fresh handsOn again W args (.bool true) W':=by
 have ai:∀ p∈before,p.block<W.heap.size:=λp hp=>hW.lt p hp;have uQ:=hW;obtain⟨p,q,hA,hV,rfl,hz,hn⟩:=hW;rw[ki] at hV;obtain⟨rfl,rfl⟩:=trodVars_none hV;have a9:∀ t∈f.params.toList,P.readableRec t=true/\t<P.types.size:=(by grind);have fg:s.fn H (ds++[])={results:=[.lit (.bool true)],args:=ds}:=by rw[xG];exact hs
 have cL:∀ (b:Nat) (sp:Nat->Bool) (hd:Bool),DataW.TrodAll enc P W' b sp hd f.resultTypes.toList ((Value.bool true).resultList f.resultTypes.size) (s.fn H (ds++[])).results []:=λb sp hd=>by rw[fg,hr];exact trodAll_mk1 (shut_bool bE _)
 have aq:∀ sp:Nat->Bool,(∀ x∈p++[],sp x.block=true)->DataW.TrodAll enc P W' 0 sp true f.params.toList args.toList (s.fn H (ds++[])).args p:=(by grind [H3]);have b8:∀ sp:Nat->Bool,DataW.TrodVars enc P W' sp s.vars (s.fn H (ds++[])).vars []:=λsp=>by rw[fg,ki];rfl
 have hold:∀ x∈p++[],(λb=>decide (b<W.heap.size)) x.block=true:=λx hx=>by simpa using ai x hx
 refine⟨ds,[],p++[],[],p,[],uQ,cL _ _ _,aq _ hold,b8 _,World.keptBut_mono (λx hx=>⟨hx,?_⟩) (hb.frame (·∈p++[])),λ_=>?_⟩
 .exact .inr (by simpa using hx)
 .refine⟨ok_one hr rfl (okWide_bool_mk bE _),_,_,([]++p)++[],⟨[]++p,[],trodAll_append (aq _ (λ_ _=>rfl)) (cL _ _ _),b8 _,rfl,?_,?_⟩,?_⟩
  .intro b off hx;have aO:MemPlace.cell b off∈p++[]:=by simpa using hx
   rw[hb.frozen (ai _ aO)];exact hz b off aO
  .intro ha;simpa using hn ha
  .intro x hx _;simpa using hx
def KFs (T:Kind->TypeId->Bool) (sz:TypeId->Nat):Kind->List (TypeId×Nat)->Nat->Bool
 |_,[],_=>false
 |k,[p],off=>p.2==off&&(sz p.1==k.size&&T k p.1)
 |.pair a b,p::q::r,off=>p.2==off&&(sz p.1==a.size&&(T a p.1&&KFs T sz b (q::r) (off+a.size)))
 |_,_::_::_,_=>false
def Kind.row:Kind->Bool
 |.list k=>k.flat
 |_=>false
def Z55 (P:Program) (t:TypeId):Bool:=match P.underlying t with|some (.slice _)=>true|_=>false
def KTy (P:Program):Nat->Kind->TypeId->Bool
 |0,_,_=>false
 |n+1,k,t=>match P.underlying t with
  |some (.struct fs)=>P.cellsOf t==k.size&&KFs (KTy P n) P.cellsOf k (fs.toList.map λf=>(f.type,f.offset)) 0
  |some (.array m e)=>P.cellsOf t==k.size&&KFs (KTy P n) P.cellsOf k ((List.range m).map λi=>(e,i*P.cellsOf e)) 0
  |some (.int ik)=>(match k with|.i k'=>decide (k'=ik)|_=>false)
  |some .bool=>(match k with|.bo=>true|_=>false)
  |some .string=>(match k with|.st=>true|_=>false)
  |some (.slice e)=>(match k with|.list k'=>P.cellsOf e==k'.size&&((k'.flat||(k'.row&&Z55 P e))&&KTy P n k' e)|_=>false)
  |_=>false
def KWf:(k:Kind)->k.T->Prop
 |.i ik,x=>InK ik x
 |.bo,_=>True
 |.st,s=>s.length<=maxLen
 |.list k,l=>l.length<=maxLen/\∀ x∈l,KWf k x
 |.pair a b,x=>KWf a x.1/\KWf b x.2
theorem More.le {ρ ρ':Plc}{U U':Heap}(h:More ρ U ρ' U'):U.Le U':=⟨h.n,λi b hb=>by rw[h.ag i (U.lt hb)];exact hb⟩
def ArgIs (w:World) (ρ:Plc) (U:Heap) (k:Kind) (cs:List Value):Prop :=
 ∃ ρ' U' vs x,View w ρ' U'/\More ρ U ρ' U'/\LRel ρ' U'.n vs cs/\KC U' k x vs/\KWf k x
theorem ArgIs.pair {w:World}{ρ:Plc}{U:Heap}{a b:Kind}{cs ds:List Value}(h1:ArgIs w ρ U a cs) (h2:∀ ρ U,View w ρ U->ArgIs w ρ U b ds):ArgIs w ρ U (.pair a b) (cs++ds):=by obtain⟨ρ1,σ1,o6,x1,k1,k2,k3,k4,k5⟩:=h1;obtain⟨ρ2,σ2,j5,x2,m1,m2,m3,m4,m5⟩:=h2 ρ1 σ1 k1;exact⟨ρ2,σ2,o6++j5,(x1,x2),m1,k2.trans m2,(k3.mono m2.n m2.pl).append m3,⟨o6,j5,rfl,k4.mono m2.le,m4⟩,k5,m5⟩
section
variable {H:Type}{enc:TypeId×Value->H}{P:Program}{w:World}{r:Reach}{base:Nat}
def okc (P:Program) (w:World) (r:Reach) (base:Nat) (ts:List TypeId) (cs:List Value):Prop:=∀ (i:Nat) v u,cs[i]?=some v->ts[i]?=some u->Cell.okWide P w r base u v
theorem Fl {T:Kind->TypeId->Bool}{sz:TypeId->Nat}{g:TypeId->Option (List TypeId)}(hT:∀ k t ts,T k t=true->g t=some ts->ts.length=k.size) :
  ∀ {k:Kind}{L:List (TypeId×Nat)}{off:Nat}{gG:List (List TypeId)},KFs T sz k L off=true->L.mapM (λp=>g p.1)=some gG->gG.flatten.length=k.size
 |k,[],_,_,h,_=>by simp[KFs] at h
 |k,[p],off,gG,h,hm=>by
  simp only[KFs,z8] at h;cases hg:g p.1 with
  |none=>simp[hg] at hm
  |some ts =>simp[hg] at hm;subst hm;simpa using hT _ _ _ h.2.2 hg
 |.pair a b,p::q::r,off,gG,h,hm=>by
  simp only[KFs,z8] at h;rw[xg] at hm;cases hg:g p.1 with
  |none=>simp[hg] at hm
  |some ts =>
   cases hr:(q::r).mapM (λp=>g p.1) with
   |none=>simp[hg,hr] at hm
   |some tr =>simp[hg,hr] at hm;subst hm;have:=Fl hT h.2.2.2 hr;simp only[List.flatten_cons,zL,this,hT _ _ _ h.2.2.1 hg,Kind.size]
 |.i _,_::_::_,_,_,h,_|.bo,_::_::_,_,_,h,_|.st,_::_::_,_,_,h,_|.list _,_::_::_,_,_,h,_=>by cases h
theorem BH {α β γ:Type}{f:α->β}{g:β->Option γ}:∀ (l:List α),(l.map f).mapM g=l.mapM (λx=>g (f x))
 |[]=>rfl
 |a::l=>by simp only[zJ,xg,BH l]
theorem Ht {β:Type}{x:β}{f:Nat->Option β}(h:∀ i,f i=some x):∀ l:List Nat,l.mapM f=some (List.replicate l.length x)
 |[]=>rfl
 |a::l=>by simp[xg,h,Ht h l,xE]
theorem FD:∀ {n:Nat}{k:Kind}{t:TypeId}{d:Nat}{ts:List TypeId},KTy P n k t=true->P.cellTypes d t=some ts->ts.length=k.size
 |0,_,_,_,_,h,_=>by cases h
 |_+1,_,_,0,_,_,h=>by cases h
 |n+1,k,t,d+1,ts,h,ht=>by
  have ih:∀ k t ts,KTy P n k t=true->P.cellTypes d t=some ts->ts.length=k.size:=λk t ts h1 h2=>FD h1 h2;unfold Program.cellTypes at ht;unfold KTy at h;cases hu:P.underlying t with
  |none=>rw[hu] at h;cases h
  |some u =>
   rw[hu] at h ht;cases u<;>first|(cases h;done)|skip
   all_goals simp only at h ht
   .split at h<;>first|(cases h;done)|(obtain rfl:=osj ht;rfl)
   .split at h<;>first|(cases h;done)|(obtain rfl:=osj ht;rfl)
   .split at h<;>first|(cases h;done)|(obtain rfl:=osj ht;rfl)
   .split at h<;>first|(cases h;done)|(obtain rfl:=osj ht;rfl)
   .rename_i m e;rw[z8] at h;cases hc:P.cellTypes d e with
    |none=>rw[hc] at ht;cases ht
    |some te =>rw[hc] at ht;obtain rfl:=osj ht;refine Fl (g:=λt=>P.cellTypes d t) ih h.2 ?_;rw[BH,Ht (x:=te) (λ_=>hc)];simp
   .rename_i fs;rw[z8] at h;cases hc:fs.toList.mapM λf=>P.cellTypes d f.type with
    |none=>rw[hc] at ht;cases ht
    |some gG =>rw[hc] at ht;obtain rfl:=osj ht;refine Fl (g:=λt=>P.cellTypes d t) ih h.2 ?_;rw[BH];exact hc
theorem Bj {T:Kind->TypeId->Bool}{sz:TypeId->Nat}{Q:TypeId->List Value->Prop}{R:Kind->List Value->Prop}(hT:∀ k t cs,T k t=true->Q t cs->R k cs) (hR:∀ a b cs ds,R a cs->R b ds->R (.pair a b) (cs++ds)) (cs:List Value) :
  ∀ {k:Kind}{L:List (TypeId×Nat)}{off:Nat},KFs T sz k L off=true->(∀ p∈L,Q p.1 ((cs.drop p.2).take (sz p.1)))->R k ((cs.drop off).take k.size)
 |k,[],_,h,_=>by simp[KFs] at h
 |k,[p],off,h,hq=>by
  simp only[KFs,z8,zK] at h
  grind
 |.pair a b,p::q::r,off,h,hq=>by
  simp only[KFs,z8,zK] at h;have h1:=hq p (by simp);rw[h.1,h.2.1] at h1;have h2:=Bj hT hR cs h.2.2.2 (by simp_all);have e:(cs.drop off).take (Kind.pair a b).size=(cs.drop off).take a.size++(cs.drop (off+a.size)).take b.size:=by rw[Kind.size,List.take_add,List.drop_drop]
  grind
 |.i _,_::_::_,_,h,_|.bo,_::_::_,_,h,_|.st,_::_::_,_,h,_|.list _,_::_::_,_,h,_=>by cases h
def FlatIs (k:Kind) (cs:List Value):Prop:=∃ y:k.T,(∀ h,KC h k y cs)/\KWf k y/\∀ ρ m,LRel ρ m cs cs
theorem FlatIs.pair {a b:Kind}{cs ds:List Value}(h1:FlatIs a cs) (h2:FlatIs b ds):FlatIs (.pair a b) (cs++ds):=by obtain⟨x,k1,k2,k3⟩:=h1;obtain⟨y,m1,m2,m3⟩:=h2;exact⟨(x,y),λh=>⟨cs,ds,rfl,k1 h,m1 h⟩,⟨k2,m2⟩,fun ρ m=>(k3 ρ m).append (m3 ρ m)⟩
theorem LRel.one {ρ:Plc}{n:Nat}{v c:Value}(h:VRel ρ n v c):LRel ρ n [v] [c]:=.cons h (.nil _ _)
theorem Hg {fs:Array Field}{f:Field}(h:f∈fs.toList):∃ i:Nat,fs[i]?=some f:=by obtain⟨i,hi,rfl⟩:=List.mem_iff_getElem.1 h;exact⟨i,by simp at hi;simp[hi]⟩
theorem Ta {sp:Nat->Bool}{held:Bool}:∀ {n:Nat}{k:Kind}{t:TypeId}{fuel:Nat}{cs:List Value}{x:DataW H×List MemPlace},KTy P n k t=true->k.flat=true->DataW.trod enc P w base sp held fuel t cs=some x->FlatIs k cs
 |0,_,_,_,_,_,h,_,_=>by cases h
 |n+1,k,t,fuel,cs,x,h,hf,hx=>by
  unfold KTy at h;cases hu:P.underlying t with
  |none=>rw[hu] at h;cases h
  |some u =>
   rw[hu] at h;have hR:∀ a b cs ds,((a.flat=true->FlatIs a cs)/\True)->((b.flat=true->FlatIs b ds)/\True)->(((Kind.pair a b).flat=true->FlatIs (.pair a b) (cs++ds))/\True):=λa b cs ds h1 h2=>⟨λhf=>by
    simp only[Kind.flat,z8] at hf;exact(h1.1 hf.1).pair (h2.1 hf.2),trivial⟩
   have hT:∀ k t cs,KTy P n k t=true->(∃ fuel x,DataW.trod enc P w base sp held fuel t cs=some x)->((k.flat=true->FlatIs k cs)/\True):=λk t cs h1 ⟨fuel,x,h2⟩=>⟨λhf=>Ta h1 hf h2,trivial⟩;cases u<;>first|(cases h;done)|skip
   all_goals simp only at h
   .split at h<;>first|(cases h;done)|skip
    obtain⟨b,rfl,_⟩:=DataW.trod_bool hu hx;exact⟨b,λ_=>rfl,trivial,λ_ _=>.one (.bool _)⟩
   .split at h<;>first|(cases h;done)|skip
    obtain rfl:=zk h;obtain⟨z,rfl,_,hw⟩:=DataW.trod_int hu hx;exact⟨z,λ_=>rfl,Z0q hw,λ_ _=>.one (.int _ _)⟩
   .split at h<;>first|(cases h;done)|skip
    obtain⟨s,rfl,_,hs⟩:=DataW.trod_string hu hx;exact⟨s.data.toList,λ_=>rfl,hs,λ_ _=>.one (.string _)⟩
   .split at h<;>first|(cases h;done)|(cases hf;done)
   .rename_i m e;simp only[z8,zK] at h;obtain⟨xs,m',_,_,hl,fp,hx⟩:=DataW.trod_array hu hx;have:=(Bj (R:=λk cs=>(k.flat=true->FlatIs k cs)/\True) hT hR cs h.2 (by grind)).1 hf
    grind
   .rename_i fs;simp only[z8,zK] at h;obtain⟨xs,m',_,_,hl,fp,hx⟩:=DataW.trod_struct hu hx;have:=(Bj (R:=λk cs=>(k.flat=true->FlatIs k cs)/\True) hT hR cs h.2 (by grind [Hg,Array.getElem?_eq_some_iff,List.getElem?_eq_getElem])).1 hf
    grind
theorem Rows.range {α:Type}{R:α->List Value->Prop}{n:Nat}{c:List Value}{x:Nat->α}:∀ (m:Nat),(∀ i,i<m->R (x i) ((c.drop (i*n)).take n))->Rows R ((List.range m).map x) (c.take (m*n))
 |0,_=>by simp;exact .nil
 |m+1,h=>by
  have e:c.take ((m+1)*n)=c.take (m*n)++(c.drop (m*n)).take n:=by rw[zO,xL,List.take_add]
  rw[List.range_succ,xH,e];exact(Rows.range m λi hi=>h i (by omega)).append (by simpa using Rows.cons (h m (by omega)) .nil)
theorem HS {α:Type}[Inhabited α] {m:Nat}{p:Nat->α->Prop}(h:∀ i,i<m->∃ x,p i x):∃ f:Nat->α,∀ i,i<m->p i (f i) :=
 ⟨λi=>if hi:i<m then (h i hi).choose else default,(by grind)⟩
instance KInh (k:Kind):Inhabited k.T:=⟨k.dflt⟩
theorem View.list {ρ:Plc}{U:Heap}(h:View w ρ U) {n:Nat}{k:Kind}{t e:TypeId}{fuel:Nat}{cs:List Value}{x:DataW H×List MemPlace}(hu:P.underlying t=some (.slice e)) (hs:P.cellsOf e=k.size) (hf:k.flat=true) (hk:KTy P n k e=true)
  (hx:DataW.trod enc P w 0 (λ_=>true) true fuel t cs=some x) (ak:okc P w r base [t] cs):ArgIs w ρ U (.list k) cs:=by
 rcases open_slice hu hx with⟨rfl,_⟩|⟨a,len,cap,m,fu,D,Pl,rfl,hb,hl,hm,eT,_,hel⟩
 .exact⟨ρ,U,[.slice none 0 0],[],h,More.refl _ _,.one .nilSl,⟨_,rfl,.inl ⟨rfl,rfl⟩⟩,by simp[maxLen],λ_ hx=>by cases hx⟩
 simp only[zz] at eT;subst eT;rw[hs] at hel;have lM:w.has P r base a e m:=by
  rcases HY hu (ak 0 _ t rfl rfl) with hh|⟨a',qS,ao,hh,h2⟩
  .cases hh
  .cases hh;exact h2
 obtain⟨C,row,f,aC,aR,cZ⟩:=Ef lM;obtain⟨blk,off,spot⟩:=a;simp only at aC aR cZ;subst cZ;have fy:∀ i,(⟨blk,off,none⟩:Addr).add i=⟨blk,off+i,none⟩:=λi=>by unfold Addr.add;split<;>simp_all
 obtain⟨X,hX⟩:=HS (α:=k.T×List Value) (m:=m) (p:=λi p=>p.2.length=k.size/\(∀ j,j<k.size->w.cell? ⟨blk,off+i*k.size+j,none⟩=p.2[j]?)/\(∀ h,KC h k p.1 p.2)/\KWf k p.1/\∀ ρ m,LRel ρ m p.2 p.2) λi hi=>by
  obtain⟨cs',h1,h2⟩:=hel i hi;obtain⟨_,k1,k2⟩:=World.cells?_some h1;obtain⟨y,m1,m2,m3⟩:=Ta hk hf h2;refine⟨(y,cs'),k1,λj hj=>?_,m1,m2,m3⟩;have:=k2 j hj;rw[fy] at this;have e2:(⟨blk,off+i*k.size,none⟩:Addr).add j=⟨blk,off+i*k.size+j,none⟩:=by unfold Addr.add;split<;>simp_all
  rw[e2] at this;exact this
 have bp:=k.size_pos;let c:List Value:=(List.range (m*k.size)).map λj=>((X (j / k.size)).2[j % k.size]?).getD undef;have cf:c.length=m*k.size:=by simp[c]
 have hdiv:∀ j,j<m*k.size->j / k.size<m:=λj hj=>Nat.div_lt_of_lt_mul (by rw[wC];exact hj);have bD:∀ j,j<m*k.size->∃ v,c[j]?=some v/\w.cell? ⟨blk,off+j,none⟩=some v/\∀ ρ m,VRel ρ m v v:=λj hj=>by
  have h1:=hX (j / k.size) (hdiv j hj);have f_:j % k.size<k.size:=wc _ bp;have h2:=h1.2.1 _ f_;have e:off+j / k.size*k.size+j % k.size=off+j:=by rw[zC,Nat.div_add_mod']
  rw[e] at h2;have h3:j % k.size<(X (j / k.size)).2.length:=by rw[h1.1];exact f_
  refine⟨(X (j / k.size)).2[j % k.size],?_,?_,fun ρ m=>(h1.2.2.2.2 ρ m).2 _ _ _ (z9 h3) (z9 h3)⟩
  .grind
  .rw[h2,z9 h3]
 have qT:∀ i,i<m->(c.drop (i*k.size)).take k.size=(X i).2:=λi hi=>by
  have h1:=hX i hi;have hle:i*k.size+k.size<=m*k.size:=by have:(i+1)*k.size<=m*k.size:=zu _ hi;rw[zO] at this;omega
  apply zS
  grind
 have aI:off+m*k.size<=C.size:=by
  rcases Nat.eq_zero_or_pos (m*k.size) with h0|h0
  .omega
  .obtain⟨v,_,h2,_⟩:=bD (m*k.size-1) (by omega);unfold World.cell? at h2
   grind
 obtain⟨hv,gv⟩:=h.add ⟨blk,off,m*k.size,⟨k.size,row⟩,false⟩ c aC aI (by simp[cf]) rfl (by grind);have hlen:((List.range len).map λi=>(X i).1).length=len:=by simp
 refine⟨_,_,[.slice (some ⟨U.n,0,none⟩) len m],(List.range len).map λi=>(X i).1,hv,gv,.one ?_,⟨_,rfl,.inr ⟨U.n,0,m,c,⟨k.size,row⟩,false,false,by rw[hlen],by rw[hlen];exact hl,Heap.q0a _ _,rfl,?_,?_⟩⟩,?_,λy hy=>?_⟩
 .refine .sl _ _ _ _ _ _ (by simp) λp hp=>?_;simp[Plc.put] at hp;subst hp;simp_all
 .rw[hlen,cf,xi];exact zu _ hl
 .grind [Rows.range]
 .rw[hlen];exact x5 hl hm
 grind
theorem View.listH {ρ:Plc}{U:Heap}(h:View w ρ U) {n:Nat}{k:Kind}{t e:TypeId}{fuel:Nat}{cs:List Value}{x:DataW H×List MemPlace}(hu:P.underlying t=some (.slice e)) (hs:P.cellsOf e=k.size) (hf:k.flat=true) (hk:KTy P n k e=true)
  (hx:DataW.trod enc P w 0 (λ_=>true) true fuel t cs=some x) (hA:∃ (b:Nat) (C:Array Value) (e:TypeId) (f:Nat×Nat),w.heap[b]?=some (Obj.cells C e f)):ArgIs w ρ U (.list k) cs:=by
 rcases open_slice hu hx with⟨rfl,_⟩|⟨a,len,cap,m,fu,D,Pl,rfl,hb,hl,hm,eT,_,hel⟩
 .exact⟨ρ,U,[.slice none 0 0],[],h,More.refl _ _,.one .nilSl,⟨_,rfl,.inl ⟨rfl,rfl⟩⟩,by simp[maxLen],λ_ hx=>by cases hx⟩
 simp only[zz] at eT;subst eT;rw[hs] at hel;have bp:=k.size_pos;by_cases cw:m=0
 .
  subst cw;obtain rfl:len=0:=by omega
  obtain⟨b0,C0,e0,f0,pn⟩:=hA;obtain⟨hv,gv⟩:=h.add ⟨b0,0,0,⟨k.size,e0⟩,false⟩ [] pn (Nat.zero_le _) (zd _) rfl (λj v hj=>by simp at hj);refine⟨_,_,[.slice (some ⟨U.n,0,none⟩) 0 0],[],hv,gv,.one ?_,⟨_,rfl,.inr ⟨U.n,0,0,[],⟨k.size,e0⟩,false,false,rfl,zd _,Heap.q0a _ _,rfl,?_,?_⟩⟩,by simp[KWf],λy hy=>by cases hy⟩
  .refine .sl _ _ _ _ _ _ (by simp) (by omega)
  .simp
  .simpa using Rows.nil
 obtain⟨C,row,f,aC,aR,cZ⟩:∃ C row f,w.heap[a.block]?=some (Obj.cells C row f)/\a.off<=C.size/\a.spot=none:=by
  obtain⟨cs',h1,_⟩:=hel 0 (by omega);obtain⟨_,c1,c2⟩:=World.cells?_some h1;have c3:=c2 0 bp;have e0:(a.add (0*k.size)).add 0=a:=by simp[Addr.add]
  rw[e0,z9 (by omega)] at c3;unfold World.cell? at c3;split at c3
  .rename_i C row f aC;split at c3
   .cases c3
   .rename_i hs;exact⟨C,row,f,aC,(by grind),by simpa using hs⟩
  .cases c3
 obtain⟨blk,off,spot⟩:=a;simp only at aC aR cZ;subst cZ;have fy:∀ i,(⟨blk,off,none⟩:Addr).add i=⟨blk,off+i,none⟩:=λi=>by unfold Addr.add;split<;>simp_all
 obtain⟨X,hX⟩:=HS (α:=k.T×List Value) (m:=m) (p:=λi p=>p.2.length=k.size/\(∀ j,j<k.size->w.cell? ⟨blk,off+i*k.size+j,none⟩=p.2[j]?)/\(∀ h,KC h k p.1 p.2)/\KWf k p.1/\∀ ρ m,LRel ρ m p.2 p.2) λi hi=>by
  obtain⟨cs',h1,h2⟩:=hel i hi;obtain⟨_,k1,k2⟩:=World.cells?_some h1;obtain⟨y,m1,m2,m3⟩:=Ta hk hf h2;refine⟨(y,cs'),k1,λj hj=>?_,m1,m2,m3⟩;have:=k2 j hj;rw[fy] at this;have e2:(⟨blk,off+i*k.size,none⟩:Addr).add j=⟨blk,off+i*k.size+j,none⟩:=by unfold Addr.add;split<;>simp_all
  rw[e2] at this;exact this
 let c:List Value:=(List.range (m*k.size)).map λj=>((X (j / k.size)).2[j % k.size]?).getD undef;have cf:c.length=m*k.size:=by simp[c]
 have hdiv:∀ j,j<m*k.size->j / k.size<m:=λj hj=>Nat.div_lt_of_lt_mul (by rw[wC];exact hj);have bD:∀ j,j<m*k.size->∃ v,c[j]?=some v/\w.cell? ⟨blk,off+j,none⟩=some v/\∀ ρ m,VRel ρ m v v:=λj hj=>by
  have h1:=hX (j / k.size) (hdiv j hj);have f_:j % k.size<k.size:=wc _ bp;have h2:=h1.2.1 _ f_;have e:off+j / k.size*k.size+j % k.size=off+j:=by rw[zC,Nat.div_add_mod']
  rw[e] at h2;have h3:j % k.size<(X (j / k.size)).2.length:=by rw[h1.1];exact f_
  refine⟨(X (j / k.size)).2[j % k.size],?_,?_,fun ρ m=>(h1.2.2.2.2 ρ m).2 _ _ _ (z9 h3) (z9 h3)⟩
  .grind
  .rw[h2,z9 h3]
 have qT:∀ i,i<m->(c.drop (i*k.size)).take k.size=(X i).2:=λi hi=>by
  have h1:=hX i hi;have hle:i*k.size+k.size<=m*k.size:=by have:(i+1)*k.size<=m*k.size:=zu _ hi;rw[zO] at this;omega
  apply zS
  grind
 have aI:off+m*k.size<=C.size:=by
  rcases Nat.eq_zero_or_pos (m*k.size) with h0|h0
  .omega
  .obtain⟨v,_,h2,_⟩:=bD (m*k.size-1) (by omega);unfold World.cell? at h2
   grind
 obtain⟨hv,gv⟩:=h.add ⟨blk,off,m*k.size,⟨k.size,row⟩,false⟩ c aC aI (by simp[cf]) rfl (by grind);have hlen:((List.range len).map λi=>(X i).1).length=len:=by simp
 refine⟨_,_,[.slice (some ⟨U.n,0,none⟩) len m],(List.range len).map λi=>(X i).1,hv,gv,.one ?_,⟨_,rfl,.inr ⟨U.n,0,m,c,⟨k.size,row⟩,false,false,by rw[hlen],by rw[hlen];exact hl,Heap.q0a _ _,rfl,?_,?_⟩⟩,?_,λy hy=>?_⟩
 .refine .sl _ _ _ _ _ _ (by simp) λp hp=>?_;simp[Plc.put] at hp;subst hp;simp_all
 .rw[hlen,cf,xi];exact zu _ hl
 .grind [Rows.range]
 .rw[hlen];exact x5 hl hm
 grind
theorem View.list2 {ρ:Plc}{U:Heap}(h:View w ρ U) {n:Nat}{k:Kind}{t e e2:TypeId}{fuel:Nat}{cs:List Value}{x:DataW H×List MemPlace}(hu:P.underlying t=some (.slice e)) (hs:P.cellsOf e=1)
  (l4:P.underlying e=some (.slice e2)) (cS:P.cellsOf e2=k.size) (hf:k.flat=true) (hk:KTy P n k e2=true)
  (hx:DataW.trod enc P w 0 (λ_=>true) true fuel t cs=some x) (ak:okc P w r base [t] cs):ArgIs w ρ U (.list (.list k)) cs:=by
 rcases open_slice hu hx with⟨rfl,_⟩|⟨a,len,cap,m,fu,D,Pl,rfl,hb,hl,hm,eT,_,hel⟩
 .exact⟨ρ,U,[.slice none 0 0],[],h,More.refl _ _,.one .nilSl,⟨_,rfl,.inl ⟨rfl,rfl⟩⟩,by simp[maxLen],λ_ hx=>by cases hx⟩
 simp only[zz] at eT;subst eT;rw[hs] at hel;have lM:w.has P r base a e m:=by
  rcases HY hu (ak 0 _ t rfl rfl) with hh|⟨a',qS,ao,hh,h2⟩
  .cases hh
  .cases hh;exact h2
 obtain⟨C,row,f,aC,aR,cZ⟩:=Ef lM;obtain⟨blk,off,spot⟩:=a;simp only at aC aR cZ;subst cZ;have fy:∀ i,(⟨blk,off,none⟩:Addr).add i=⟨blk,off+i,none⟩:=λi=>by unfold Addr.add;split<;>simp_all
 have rows:∀ j,j<=m->∃ ρ' U',∃ vs:List Value,∃ xs:List (List k.T),View w ρ' U'/\More ρ U ρ' U'/\vs.length=j/\xs.length=j/\(∀ (i:Nat) v,vs[i]?=some v->∃ u,w.cell? ⟨blk,off+i,none⟩=some u/\VRel ρ' U'.n v u) /\
   Rows (KC U' (.list k)) xs vs/\∀ y∈xs,KWf (.list k) y:=by
  intro j;induction j with
  |zero=>exactλ_=>⟨ρ,U,[],[],h,More.refl _ _,rfl,rfl,λi v hi=>by simp at hi,.nil,λy hy=>by cases hy⟩
  |succ j ih =>
   intro hj;obtain⟨ρ1,σ1,vs,xs,k1,k2,k3,k4,k5,k6,k7⟩:=ih (by omega);obtain⟨cs',h1,h2⟩:=hel j (by omega);obtain⟨_,c1,c2⟩:=World.cells?_some h1;have c3:=c2 0 (by omega);obtain⟨u,rfl⟩:=x4.1 c1;have jX:((⟨blk,off,none⟩:Addr).add (j*1)).add 0=⟨blk,off+j,none⟩:=by rw[fy,wA];unfold Addr.add;split<;>simp_all
   rw[jX] at c3;have c4:w.cell? ⟨blk,off+j,none⟩=some u:=c3;obtain⟨ρ2,σ2,vv,y,m1,m2,m3,m4,m5⟩:=k1.listH l4 cS hf hk h2 ⟨blk,C,row,f,aC⟩;have mz:vv.length=1:=by obtain⟨v,rfl,_⟩:=m4;rfl
   obtain⟨v,rfl⟩:=x4.1 mz;refine⟨ρ2,σ2,vs++[v],xs++[y],m1,k2.trans m2,by rw[zL,k3];rfl,by rw[zL,k4];rfl,λi v' hi=>?_,?_,λz hz=>?_⟩
   .by_cases b_:i<vs.length
    .rw[xr b_] at hi;obtain⟨u',g1,g2⟩:=k5 i v' hi;exact⟨u',g1,g2.mono m2.n m2.pl⟩
    .have gQ:i<(vs++[v]).length:=(zt.1 hi).1;rw[zL,xF] at gQ;have uR:i=j:=by omega
     subst uR;rw[xy (by omega),k3,wu] at hi;obtain rfl:=osj hi;exact⟨u,c4,m3.2 0 _ _ rfl rfl⟩
   .exact(k6.mono λ_ _ hc=>KC.mono m2.le hc).append (by simpa using Rows.cons m4 .nil)
   .grind
 obtain⟨ρ1,σ1,vs,xs,k1,k2,k3,k4,k5,k6,k7⟩:=rows m (zd _);have aI:off+m<=C.size:=by
  rcases Nat.eq_zero_or_pos m with h0|h0
  .omega
  .obtain⟨u,h2,_⟩:=k5 (m-1) _ (z9 (by omega));unfold World.cell? at h2
   grind
 obtain⟨hv,gv⟩:=k1.add ⟨blk,off,m,⟨1,row⟩,false⟩ vs aC aI (by simp[k3]) rfl (λj v hj=>k5 j v hj);have hR:Rows (KC (σ1.push (.cells vs ⟨1,row⟩ false false)) (.list k)) xs vs:=k6.mono λ_ _ hc=>KC.mono gv.le hc;have hlen:(xs.take len).length=len:=by rw[xR,k4];omega
 have qU:(Kind.list k).size=1:=rfl;refine⟨_,_,[.slice (some ⟨σ1.n,0,none⟩) len m],xs.take len,hv,k2.trans gv,.one ?_,⟨_,rfl,.inr ⟨σ1.n,0,m,vs,⟨1,row⟩,false,false,by rw[hlen],by rw[hlen];exact hl,Heap.q0a _ _,rfl,?_,?_⟩⟩,?_,λy hy=>?_⟩
 .refine .sl _ _ _ _ _ _ (by simp) λp hp=>?_;simp[Plc.put] at hp;subst hp;simp_all
 .rw[qU,k3];omega
 .grind [Rows.take,KC.length]
 .rw[hlen];exact x5 hl hm
 .exact k7 y (List.mem_of_mem_take hy)
def Kind.lev1:Kind->Bool
 |.list k=>k.flat||k.row
 |.pair a b=>a.lev1&&b.lev1
 |_=>true
theorem Ih {ts:List TypeId}{cs:List Value}(h:okc P w r base ts cs) (o n:Nat):okc P w r base ((ts.drop o).take n) ((cs.drop o).take n):=λi v u h1 h2=>by
 have hi:i<n:=by
  grind
 rw[List.getElem?_take_of_lt hi,zX] at h1 h2;exact h _ v u h1 h2
theorem TE {T:Kind->TypeId->Bool}{sz:TypeId->Nat}{g:TypeId->Option (List TypeId)}(hT:∀ k t ts,T k t=true->g t=some ts->ts.length=k.size) :
  ∀ {k:Kind}{L:List (TypeId×Nat)}{off:Nat}{gG:List (List TypeId)},KFs T sz k L off=true->L.mapM (λp=>g p.1)=some gG->∀ p∈L,off<=p.2/\g p.1=some ((gG.flatten.drop (p.2-off)).take (sz p.1))
 |k,[],_,_,h,_=>by simp[KFs] at h
 |k,[p],off,gG,h,hm=>by
  simp only[KFs,z8,zK] at h;intro p' hp;obtain rfl:=zI.1 hp;cases hg:g p'.1 with
  |none=>simp[hg] at hm
  |some ts =>
   simp[hg] at hm;subst hm;refine⟨by omega,?_⟩;rw[h.1,wu,xK,h.2.1,x3]
   .simp
   .simp[hT _ _ _ h.2.2 hg]
 |.pair a b,p::q::r,off,gG,h,hm=>by
  simp only[KFs,z8,zK] at h;rw[xg] at hm;intro p' hp;cases hg:g p.1 with
  |none=>simp[hg] at hm
  |some ts =>
   cases hr:(q::r).mapM (λp=>g p.1) with
   |none=>simp[hg,hr] at hm
   |some tr =>
    simp[hg,hr] at hm;subst hm;have hlen:=hT _ _ _ h.2.2.1 hg;rcases zA.1 hp with rfl|hp
    .simp_all
    .obtain⟨h1,h2⟩:=TE hT h.2.2.2 hr p' hp
     grind [List.drop_eq_nil_of_le,List.flatten_cons,List.drop_append]
 |.i _,_::_::_,_,_,h,_|.bo,_::_::_,_,_,h,_|.st,_::_::_,_,_,h,_|.list _,_::_::_,_,_,h,_=>by cases h
theorem Ae:∀ {n:Nat}{k:Kind}{t:TypeId}{d:Nat}{ts:List TypeId}{fuel:Nat}{cs:List Value}{x:DataW H×List MemPlace},KTy P n k t=true->k.lev1=true->P.cellTypes d t=some ts->okc P w r base ts cs->DataW.trod enc P w 0 (λ_=>true) true fuel t cs=some x->∀ ρ U,View w ρ U->ArgIs w ρ U k cs
 |0,_,_,_,_,_,_,_,h,_,_,_,_=>by cases h
 |_+1,_,_,0,_,_,_,_,_,_,h,_,_=>by cases h
 |n+1,k,t,d+1,ts,fuel,cs,x,h,hf,eD,ak,hx=>by
  intro ρ U hv;by_cases bn:k.flat=true
  .obtain⟨y,h1,h2,h3⟩:=Ta h bn hx;exact⟨ρ,U,cs,y,hv,More.refl _ _,h3 _ _,h1 _,h2⟩
  unfold KTy at h;cases hu:P.underlying t with
  |none=>rw[hu] at h;cases h
  |some u =>
   rw[hu] at h;let Q:TypeId->List Value->Prop:=λt cs=>(∃ fuel x,DataW.trod enc P w 0 (λ_=>true) true fuel t cs=some x)/\∃ ts,P.cellTypes d t=some ts/\okc P w r base ts cs;let R:Kind->List Value->Prop:=λk cs=>k.lev1=true->∀ ρ U,View w ρ U->ArgIs w ρ U k cs;have hR:∀ a b cs ds,R a cs->R b ds->R (.pair a b) (cs++ds):=λa b cs ds h1 h2 hl ρ U hv=>by simp only[Kind.lev1,z8] at hl;exact(h1 hl.1 ρ U hv).pair fun ρ U hv=>h2 hl.2 ρ U hv
   have hT:∀ k t cs,KTy P n k t=true->Q t cs->R k cs:=λk t cs h1 ⟨⟨fuel,x,h2⟩,ts,h3,h4⟩ hl=>Ae h1 hl h3 h4 h2;have hlen:∀ k t ts,KTy P n k t=true->P.cellTypes d t=some ts->ts.length=k.size:=λk t ts h1 h2=>FD h1 h2;unfold Program.cellTypes at eD;rw[hu] at eD;cases u<;>first|(cases h;done)|skip
   all_goals simp only at h
   .split at h<;>first|(cases h;done)|(exact absurd rfl bn)
   .split at h<;>first|(cases h;done)|(exact absurd rfl bn)
   .split at h<;>first|(cases h;done)|(exact absurd rfl bn)
   .rename_i e;split at h<;>first|(cases h;done)|skip
    simp only[z8,zK] at h;simp only[xq] at eD;subst eD;rcases zy _ _▸h.2.1 with hk|hk
    .exact hv.list hu h.1 hk h.2.2 hx ak
    .rename_i k';rw[z8] at hk;obtain⟨hk,fR⟩:=hk;cases k'<;>first|(cases hk;done)|skip
     rename_i k2;have h3:=h.2.2;unfold Z55 at fR;split at fR<;>first|(cases fR;done)|skip
     rename_i e2 l4;cases n with
     |zero=>cases h3
     |succ n =>unfold KTy at h3;rw[l4] at h3;simp only[z8,zK] at h3;exact hv.list2 hu h.1 l4 h3.1 hk h3.2.2 hx ak
   .rename_i m e;simp only[z8,zK] at h;obtain⟨xs,m',_,_,hl,fp,hx⟩:=DataW.trod_array hu hx;simp only at eD;cases hc:P.cellTypes d e with
    |none=>rw[hc] at eD;cases eD
    |some te =>
     rw[hc] at eD;obtain rfl:=osj eD;have m_:((List.range m).map λi=>(e,i*P.cellsOf e)).mapM (λp:TypeId×Nat=>P.cellTypes d p.1)=some (List.replicate m te):=by rw[BH,Ht (x:=te) (λ_=>hc)];simp
     have:=Bj (Q:=Q) (R:=R) hT hR cs h.2 (λp hp=>by
      have oH:=TE (g:=λt=>P.cellTypes d t) hlen h.2 m_ p hp
      grind [List.getElem?_eq_getElem,Ih]) hf ρ U hv
     rwa [xK,x3 (by omega)] at this
   .rename_i fs;simp only[z8,zK] at h;obtain⟨xs,m',_,_,hl,fp,hx⟩:=DataW.trod_struct hu hx;simp only at eD;cases hc:fs.toList.mapM λf=>P.cellTypes d f.type with
    |none=>rw[hc] at eD;cases eD
    |some gG =>
     rw[hc] at eD;obtain rfl:=osj eD;have m_:(fs.toList.map λf=>(f.type,f.offset)).mapM (λp:TypeId×Nat=>P.cellTypes d p.1)=some gG:=by rw[BH];exact hc
     have:=Bj (Q:=Q) (R:=R) hT hR cs h.2 (λp hp=>by
      have oH:=TE (g:=λt=>P.cellTypes d t) hlen h.2 m_ p hp
      grind [Hg,Array.getElem?_eq_some_iff,List.getElem?_eq_getElem,Ih]) hf ρ U hv
     rwa [xK,x3 (by omega)] at this
def isAgg (P:Program) (t:TypeId):Bool:=match P.underlying t with
 |some (.struct _)=>true
 |some (.array _ _)=>true
 |_=>false
theorem View.arg {ρ:Plc}{U:Heap}(h:View w ρ U) {n:Nat}{k:Kind}{t:TypeId}{v:Value}{d:DataW H}{p:List MemPlace}(hk:KTy P n k t=true) (hl:k.lev1=true) (ha:isAgg P t=!k.one) (ak:Value.okWide P w r base t v) (hd:DataW.Trod enc P w 0 (λ_=>true) true t v d p) :
  ∃ ρ' U' vv x,View w ρ' U'/\More ρ U ρ' U'/\VRel ρ' U'.n vv v/\KV U' k x vv/\KWf k x:=by
 obtain⟨fuel,hd⟩:=hd;by_cases fL:isAgg P t=true
 .have bJ:k.one=false:=by rw[fL] at ha;simpa using ha.symm
  have:∃ cs,v=.agg cs/\cs.size=P.cellsOf t/\Row.okWide P w r base t cs:=by
   unfold isAgg at fL;unfold Value.okWide at ak
   grind
  obtain⟨cs,rfl,aI,ts,eD,_,cR⟩:=this;have hlen:=FD hk eD;have az:P.cellsOf t=k.size:=by
   unfold isAgg at fL;cases n with
   |zero=>cases hk
   |succ n =>
    unfold KTy at hk;split at fL<;>first|(cases fL;done)|skip
    all_goals
     rename_i hu;rw[hu] at hk;simp only[z8,zK] at hk;exact hk.1
  have lN:okc P w r base ts cs.toList:=λi v u h1 h2=>by
   grind [List.getElem?_eq_some_iff,Nat.mod_eq_of_lt,osj]
  obtain⟨ρ',U',vs,x,k1,k2,k3,k4,k5⟩:=Ae hk hl eD lN (show DataW.trod enc P w 0 _ true fuel t cs.toList=_ from hd) ρ U h;exact⟨ρ',U',.agg vs.toArray,x,k1,k2,VRel.q1m (ds:=cs.toList) k3,.inr ⟨bJ,vs,rfl,k4⟩,k5⟩
 .have bJ:k.one=true:=by
   simp_all
  have h_:=Kind.q1p bJ;have bD:Cell.okWide P w r base t v/\v.cells.toList=[v]:=by
   have h1:isAgg P t=false:=by simpa using fL
   unfold isAgg at h1;have h2:Cell.okWide P w r base t v:=by
    unfold Value.okWide at ak
    grind
   refine⟨h2,?_⟩;cases v<;>first|rfl|skip
   all_goals
    exfalso;cases n with
    |zero=>cases hk
    |succ n =>
     unfold KTy at hk;unfold Cell.okWide Cell.ok at h2;cases hu:P.underlying t with
     |none=>rw[hu] at hk;cases hk
     |some u =>rw[hu] at hk h2 h1;cases u<;>first|(cases hk;done)|(cases h1;done)|(cases h2;done)|(simp at h2;done)
  have eD:P.cellTypes 1 t=some [t]:=by
   have h1:isAgg P t=false:=by simpa using fL
   unfold isAgg at h1;unfold Program.cellTypes;cases n with
   |zero=>cases hk
   |succ n =>
    unfold KTy at hk;cases hu:P.underlying t with
    |none=>rw[hu] at hk;cases hk
    |some u =>rw[hu] at h1;cases u<;>first|rfl|(cases h1;done)
  rw[bD.2] at hd;have lN:okc P w r base [t] [v]:=λi v' u h1 h2=>by
   grind
  obtain⟨ρ',U',vs,x,k1,k2,k3,k4,k5⟩:=Ae hk hl eD lN hd ρ U h;have:vs.length=1:=by rw[KC.length k4];exact h_
  obtain⟨vv,rfl⟩:=x4.1 this;exact⟨ρ',U',vv,x,k1,k2,k3.2 0 _ _ rfl rfl,.inl ⟨bJ,k4⟩,k5⟩
def AWf:(ks:List Kind)->AT ks->Prop
 |[],_=>True
 |[k],x=>KWf k x
 |k::k'::ks,x=>KWf k x.1/\AWf (k'::ks) x.2
def Q9k (P:Program):List Kind->List TypeId->Bool
 |[],[]=>true
 |k::ks,t::ts=>(KTy P 8 k t&&(k.lev1&&(isAgg P t==!k.one)))&&Q9k P ks ts
 |_,_=>false
theorem View.args:∀ {ks:List Kind}{ts:List TypeId}{vs:List Value}{ds:List (DataW H)}{ps:List MemPlace}{ρ:Plc}{U:Heap},View w ρ U->Q9k P ks ts=true->(∀ (j:Nat) t v,ts[j]?=some t->vs[j]?=some v->Value.okWide P w r base t v)->DataW.TrodAll enc P w 0 (λ_=>true) true ts vs ds ps ->
  ∃ ρ' U' ml x,View w ρ' U'/\More ρ U ρ' U'/\LRel ρ' U'.n ml vs/\C9 U' ks x ml/\AWf ks x
 |[],[],vs,ds,ps,ρ,U,h,_,_,hA=>by obtain⟨rfl,rfl,rfl⟩:=trodAll_nil hA;exact⟨ρ,U,[],(),h,More.refl _ _,.nil _ _,rfl,trivial⟩
 |[k],[t],vs,ds,ps,ρ,U,h,hk,hv,hA=>by obtain⟨v,cA,d,ds',p,q,rfl,rfl,rfl,h1,h2⟩:=trodAll_cons hA;obtain⟨rfl,rfl,rfl⟩:=trodAll_nil h2;simp only[Q9k,z8,zK] at hk;obtain⟨ρ',U',vv,x,k1,k2,k3,k4,k5⟩:=h.arg hk.1.1 hk.1.2.1 hk.1.2.2 (hv 0 t v rfl rfl) h1;exact⟨ρ',U',[vv],x,k1,k2,.one k3,⟨vv,rfl,k4⟩,k5⟩
 |k::k'::ks,t::ts,vs,ds,ps,ρ,U,h,hk,hv,hA=>by obtain⟨v,cA,d,ds',p,q,rfl,rfl,rfl,h1,h2⟩:=trodAll_cons hA;simp only[Q9k,z8,zK] at hk;obtain⟨ρ1,σ1,vv,x,k1,k2,k3,k4,k5⟩:=h.arg hk.1.1 hk.1.2.1 hk.1.2.2 (hv 0 t v rfl rfl) h1;obtain⟨ρ2,σ2,ml,y,m1,m2,m3,m4,m5⟩:=k1.args (ks:=k'::ks) hk.2 (λj t v h1 h2=>hv (j+1) t v h1 h2) h2;exact⟨ρ2,σ2,vv::ml,(x,y),m1,k2.trans m2,.cons (k3.mono m2.n m2.pl) m3,⟨vv,ml,rfl,k4.vcall m2.le,m4⟩,k5,m5⟩
 |[],_::_,_,_,_,_,_,_,hk,_,_|_::_,[],_,_,_,_,_,_,hk,_,_|[_],_::_::_,_,_,_,_,_,_,hk,_,_=>by simp[Q9k] at hk
theorem Q13 (hT:Z4k w) {f:Nat}{sp:CSp}(cZ:OkC P f sp) (he:XQ P f) {ks:List Kind}{ts:List TypeId}{args:Array Value}{ds:List (DataW H)}{ps:List MemPlace}(hk:Q9k P ks ts=true)
  (hv:∀ (j:Nat) t v,ts[j]?=some t->args.toList[j]?=some v->Value.okWide P w r base t v) (hA:DataW.TrodAll enc P w 0 (λ_=>true) true ts args.toList ds ps)
  (hs:∀ x:AT ks,AWf ks x->∃ c,sp (λ_ _=>none) (CO ks x)=some (c,.val .bo true,[])/\c):Calls P f args w λe w'=>e=.returned (.bool true)/\Below w.heap.size w w':=by
 obtain⟨ρ,U,ml,x,k1,k2,k3,k4,k5⟩:=(View.emptyT w hT).args hk hv hA;obtain⟨c,h1,h2⟩:=hs x k5;exact k1.calls k3 (cZ.true he (DE k4) h1 h2)
end
end Go.V
namespace Go.V
open Go
theorem RG {H:Type}{enc:TypeId×Value->H}{P:Program}{w:World}{b:Nat}{sp:Nat->Bool}{hd:Bool}:∀ {ts:List TypeId}{vs:List Value}{ds:List (DataW H)}{ps:List MemPlace},DataW.TrodAll enc P w b sp hd ts vs ds ps->ds.length=ts.length
 |[],[],[],_,_=>rfl
 |t::ts,v::vs,d::ds,ps,h=>by obtain⟨p,q,_,h2,_⟩:=h;simp[RG h2]
 |[],[],_::_,_,h|[],_::_,_,_,h|_::_,[],_,_,h|_::_,_::_,[],_,h=>h.elim
end Go.V
namespace Go.Proofs.Tryd
open Go Go.V
def Z5b:List (Option FEnt):=[
 none,
 none,
 some (.code c2 [] 1),
 some (.code c3 [.tmp 6] 199),
 some (.code c4 [.cell 4 true 2] 48),
 some (.code c5 [.tmp 2,.tmp 3] 27),
 some (.code c6 [.cell 2 true 2] 9),
 some (.code c7 [.cell 2 true 2,.tmp 3] 54),
 some (.code c8 [.tmp 0] 65),
 some (.code c9 [.tmp 0] 70),
 some (.code c10 [.cell 4 true 2] 60),
 some (.codeJ c11 [.tmp 2,.tmp 3] 49),
 some (.code c12 [.cell 2 true 2] 9),
 some (.code c13 [.cell 2 true 2,.tmp 3] 34),
 some (.codeJ c14 [.tmp 6,.tmp 7,.tmp 8] 58),
 some (.code c15 [.tmp 2] 15),
 some (.code c16 [.tmp 4] 26),
 some (.code c17 [.tmp 2] 27),
 some (.code c18 [.cell 2 true 2] 21),
 some (.code c19 [.tmp 2] 9),
 some (.code c20 [.tmp 2] 6),
 some (.code c21 [.tmp 4] 10),
 some (.codeJ c22 [.tmp 6,.tmp 7] 29),
 some (.code c23 [.cell 4 true 2,.tmp 5] 24),
 some (.code c24 [.tmp 2] 21),
 some (.code c25 [.tmp 4,.tmp 5,.tmp 6] 78),
 some (.code c26 [.cell 6 true 2,.cell 7 true 2,.tmp 8,.tmp 9] 93),
 some (.code c27 [.tmp 4] 16),
 some (.code c28 [.cell 2 true 3,.tmp 3] 43),
 some (.code c29 [.tmp 4] 25),
 some (.code c30 [.tmp 4] 12),
 some (.code c31 [.tmp 2] 4),
 some (.code c32 [.tmp 4] 10),
 some (.code c33 [.tmp 4] 20),
 some (.code c34 [.cell 2 true 3,.tmp 3] 30),
 some (.code c35 [.tmp 6] 11),
 some (.code c36 [.tmp 4] 26),
 some (.code c37 [.tmp 6] 15),
 some (.code c38 [.tmp 6] 11),
 some (.code c39 [.tmp 2] 6),
 some (.code c40 [.tmp 2] 14),
 some (.code c41 [.tmp 6,.tmp 7] 28),
 some (.code c42 [.cell 4 true 3,.tmp 5] 48),
 some (.code c43 [.cell 4 true 2] 11),
 some (.code c44 [.tmp 2] 36),
 some (.code c45 [.tmp 4,.tmp 5] 34),
 some (.code c46 [.tmp 4] 14),
 some (.code c47 [.cell 6 true 3] 72),
 some (.code c48 [.cell 6 true 2,.cell 7 true 2] 20),
 some (.code c49 [.cell 6 false 1] 73),
 some (.code c50 [.tmp 2] 5),
 some (.code c51 [] 14),
 some (.code c52 [] 16),
 some (.code c53 [.tmp 2] 6),
 some (.code c54 [.tmp 4] 16),
 some (.code c55 [.tmp 4] 9),
 some (.code c56 [.tmp 4] 13),
 some (.code c57 [.tmp 4] 13),
 some (.code c58 [.tmp 4] 13),
 some (.code c59 [.cell 4 true 4,.tmp 5] 33),
 some (.code c60 [.tmp 4] 52),
 some (.code c61 [.tmp 2] 31),
 some (.code c62 [.tmp 4] 27),
 some (.code c63 [.tmp 2] 35),
 some (.code c64 [.cell 6 true 2] 45),
 some (.code c65 [.tmp 4] 74),
 some (.code c66 [.tmp 4] 6),
 some (.code c67 [.tmp 4] 13),
 some (.code c68 [] 148),
 some (.code c69 [.tmp 2] 8),
 some (.code c70 [.tmp 3] 17),
 some (.code c71 [.tmp 4] 9),
 some (.code c72 [.tmp 4] 19),
 some (.code c73 [.tmp 2] 26),
 some (.code c74 [.tmp 3] 14),
 some (.code c75 [.tmp 6] 25),
 some (.code c76 [] 39),
 some (.code c77 [.tmp 3] 22),
 some (.code c78 [.tmp 4] 9),
 some (.code c79 [.tmp 2] 8),
 some (.code c80 [] 20),
 some (.code c81 [] 53),
 some (.code c82 [] 60),
 some (.code c83 [] 67),
 some (.code c84 [.tmp 8,.tmp 9] 63),
 some (.code c85 [] 34),
 some (.code c86 [.tmp 8] 141),
 some (.code c87 [.tmp 10] 90),
 some (.code c88 [.tmp 10,.tmp 11] 178),
 some (.code c89 [.tmp 2] 19),
 some (.code c90 [.tmp 2] 25),
 some (.code c91 [.tmp 4] 19),
 some (.code c92 [.tmp 2] 22),
 some (.code c93 [.tmp 2] 5),
 some (.code c94 [.tmp 4] 19),
 some (.code c95 [] 82),
 some (.code c96 [.tmp 2] 7),
 some (.code c97 [.tmp 2] 33),
 some (.code c98 [.tmp 8] 18),
 some (.code c99 [.tmp 12] 41),
 some (.code Z4x [.tmp 10,.tmp 11] 32)]
def tab:Tab:=λf=>(Z5b[f]?).join
theorem Q8s:EntsOk Tryd.prog 0 Z5b:=⟨trivial,trivial,Z5v,fun3,Z50,Z5f,Z58,Z5d,Z5o,Z5e,Z27,Q9r,Z0m,Z16,Z2r,Z2k,Z1k,Q9y,Z2f,Z0x,Q9t,Z28,Z0h,Z3n,Z4t,Z4o,Z48,Z0p,Q7v,Z2o,Z0a,Z11,Z1o,Z0r,Z1c,Z1x,Z2l,Z0c,Z1h,Z2i,Z12,Q9v,Z4g,Z4h,Z44,Z3o,Z4i,Z4e,Z4m,Z1e,Z1t,Z1a,Z13,Z04,Z0n,Q9x,Z0z,Z1f,Z0v,Z2p,Z1p,Z4n,Z41,Z4p,Z3g,Z3s,Z0o,Z2b,Z2v,Z1u,Z01,Z0l,Z23,Z0i,Z26,Z0u,Z1l,Z4f,Z4c,Z40,Z25,Z0k,Z4d,Z3v,Z42,Z3l,Z45,Z38,Z4q,Z0e,Z1g,Z0j,Z06,Z18,Z3y,Z3q,Z4v,Z43,Z3t,Z3k,Z1b,trivial⟩
theorem Z22:TabOk Tryd.prog tab:=Q6p Q8s
theorem Ox:Ez tab 300 MV [] c9 none (ET.of [] 70) CH.empty (Q82 false [.tmp 0] λv _=>isTrue v)=true:=by kernel_rfl
theorem Oj {U:Heap}{K:Value->Heap->Prop}(hK:K (.bool true) U):VCalled Tryd.prog 9 [] U K:=Q5n mixed Z22 300 Z5e (by decide) Ox hK
end Go.Proofs.Tryd
namespace Go.Proofs.Tryd
open Go Go.V Go.Proofs
def Cs:AL (Unit):=.nil
def L8 (d:Unit):Prop:=True
def Sx (d:Unit):SV:=.val .bo true
def Ld (d:Unit):List OB:=[]
def P5:CSp:=Yo Cs L8 Sx Ld
abbrev Ak:Prop:=OkC Tryd.prog 9 P5
theorem Cp:Ak:=Q54 λ_ _ h=>Oj h
def Vj:AL (Int×List Int×List Int):=(.cons (.k (.i .u8)) (.cons (.k (.list (.i .u16))) (.one (.k (.list (.i .u8))))))
def Dj (d:Int×List Int×List Int):Prop:=(0<=d.1/\d.1<=255)/\(d.2.1.length<=9223372036854775807/\∀ x∈d.2.1,0<=x/\x<=65535)/\d.2.2.length<=9223372036854775807/\∀ x∈d.2.2,0<=x/\x<=255
def Kt (d:Int×List Int×List Int):SV:=.val .bo true
def V5 (d:Int×List Int×List Int):List OB:=[]
def Ug:CSp:=Yo Vj Dj Kt V5
abbrev X_ (h8:Int) (rs:List Int):=((Xu (pdH h8) (pdR (pdH h8) rs))=(Xu (pdH h8) (pdR (pdH h8) rs))/\(List.isEmpty (Xu (pdH h8) (pdR (pdH h8) rs)))=(List.isEmpty (Xu (pdH h8) (pdR (pdH h8) rs))))
abbrev Xq (h8:Int) (rs:List Int):=((Ve (pdH h8) (pdR (pdH h8) rs))=(Ve (pdH h8) (pdR (pdH h8) rs))/\True/\(([]:List SV)=[]))
abbrev Bq (h8:Int) (rs:List Int):=(((pdH h8)=(pdH h8)/\True/\(([]:List SV)=[]))/\((pdR (pdH h8) rs)=(pdR (pdH h8) rs)/\false=false)/\(X_ h8 rs)/\(Xq h8 rs)/\((BG (pdH h8) (pdR (pdH h8) rs))=(BG (pdH h8) (pdR (pdH h8) rs))/\(List.isEmpty (BG (pdH h8) (pdR (pdH h8) rs)))=(List.isEmpty (BG (pdH h8) (pdR (pdH h8) rs))))/\True)
abbrev X0 (h8:Int):=((pdH h8)=(pdH h8)/\True/\(([]:List SV)=[]))
abbrev XZ (h8:Int) (rs:List Int):=((pdR (pdH h8) rs)=(pdR (pdH h8) rs)/\false=false)
abbrev Xt (h8:Int) (rs:List Int):=(Xu (pdH h8) (pdR (pdH h8) rs))
abbrev XY (h8:Int) (rs:List Int):=(Ve (pdH h8) (pdR (pdH h8) rs))
abbrev UF (h8:Int) (rs:List Int):=(List.replicate (lI (pdR (pdH h8) rs)).toNat (1:Int))
abbrev Ke (h8:Int) (rs:List Int):=(BG (pdH h8) (pdR (pdH h8) rs))
abbrev H5 :=((List (Int×Int×Bool))×Int)
def JS (h8:Int) (rs:List Int) (mx:List Int):Prop :=
 (0<=h8/\h8<=255/\rs.length<=9223372036854775807/\∀ x∈rs,0<=x/\x<=65535)/\((pdR (pdH h8) rs).length<=1000)/\((pdR (pdH h8) rs).length<=1000)/\((pdR (pdH h8) rs).length<=1000)/\((pdR (pdH h8) rs).length<=1000)/\∀ (y1:Bool),y1=((QW (pdH h8) (pdR (pdH h8) rs)) != (0:Int))->∀ (y2:Bool),y2=((Wk (pdH h8) (pdR (pdH h8) rs)) != (0:Int))->∀ (y3:Bool),y3=(y1||y2)->∀ (y4:Bool),y4=((lI (Xt h8 rs)) != (lI (pdR (pdH h8) rs)))->∀ (y5:Bool),y5=(y3||y4)->∀ (y6:Bool),y6=((lI (Ke h8 rs)) != (lI (pdR (pdH h8) rs)))->∀ (y7:Bool),y7=(y5||y6)->(y7=true ->
  (false=true/\(True))) /\
 (y7=false ->
  ∃ (e3:Unit) (d30:Int),((mx=mx/\True/\(lI (pdR (pdH h8) rs))=(lI (pdR (pdH h8) rs))/\True/\True/\(0:Int)=d30/\True)/\((X0 h8)/\(XZ h8 rs)/\((Xt h8 rs)=(Xt h8 rs)/\(Xt h8 rs).isEmpty=(List.isEmpty (Xt h8 rs)))/\(Xq h8 rs)/\((Ke h8 rs)=(Ke h8 rs)/\(Ke h8 rs).isEmpty=(List.isEmpty (Ke h8 rs)))/\True)) /\
  LoopP (λ(d3:Int) (q3:(Int)->Prop) =>
   ∀ (o7:Bool),o7=(decide (d3<(lI (pdR (pdH h8) rs))))->(o7=true ->
    ∃ (e6:Int) (d60:Int),((mx=mx/\True/\(lI (pdR (pdH h8) rs))=(lI (pdR (pdH h8) rs))/\True/\True/\d3=e6/\(0:Int)=d60/\True)/\(Bq h8 rs)) /\
    LoopP (λ(d6:Int) (q6:(Int)->Prop) =>
     ∀ (o8:Bool),o8=(decide (d6<e6))->(o8=true ->
      (0<=e6)/\(e6<(List.length (Xt h8 rs)))/\∀ (qV:Int),qV=(gD (Xt h8 rs) e6 0)->(0<=d6)/\(d6<(List.length (Xt h8 rs)))/\∀ (qW:Int),qW=(gD (Xt h8 rs) d6 0)->∀ (o9:Bool),o9=(qV==qW)->(o9=true ->
       (True)/\(true=true->True)/\∀ (qX:Bool),qX=(true&&true)->(qX=true/\(True))) /\
      (o9=false ->
       (I64 (d6+(1:Int)))/\(∃ d7:Int,((mx=mx/\True/\(lI (pdR (pdH h8) rs))=(lI (pdR (pdH h8) rs))/\True/\True/\e6=e6/\(d6+(1:Int))=d7/\True)/\(Bq h8 rs))/\q6 d7))) /\
     (o8=false ->
      (I64 (e6+(1:Int)))/\(∃ d8:Int,((mx=mx/\True/\(lI (pdR (pdH h8) rs))=(lI (pdR (pdH h8) rs))/\True/\True/\(e6+(1:Int))=d8/\True)/\(Bq h8 rs))/\q3 d8))) d60) /\
   (o7=false ->
    ((Ke h8 rs).length<=60/\mx.length<=9223372036854775807/\∀ x∈mx,0<=x/\x<=255)/\∃ (uK:Unit) (d110:(List (Int×Int×Bool))×Int),((True/\(lI (pdR (pdH h8) rs))=(lI (pdR (pdH h8) rs))/\True/\True/\(0:Int)=d110.2/\True)/\((X0 h8)/\(XZ h8 rs)/\(X_ h8 rs)/\(Xq h8 rs)/\((Q9o mx (Ke h8 rs))=d110.1/\false=false)/\True)) /\
    LoopP (λ(d11:(List (Int×Int×Bool))×Int) (o5:H5->Prop) =>
     ∀ (o_:Bool),o_=(decide (d11.2<(lI (pdR (pdH h8) rs))))->(o_=true ->
      (0<=d11.2)/\(d11.2<(List.length d11.1))/\(I64 (d11.2+(1:Int)))/\(∃ d12:(List (Int×Int×Bool))×Int,((True/\(lI (pdR (pdH h8) rs))=(lI (pdR (pdH h8) rs))/\True/\True/\(d11.2+(1:Int))=d12.2/\True)/\((X0 h8)/\(XZ h8 rs)/\(X_ h8 rs)/\(Xq h8 rs)/\((sT d11.1 d11.2 ((-1:Int),(gD d11.1 d11.2 (0,(0,false))).2))=d12.1/\false=false)/\True))/\o5 d12)) /\
     (o_=false ->
      (d11.1.length<=1000)/\(d11.1.length<=1000)/\∀ (pa:Bool),pa=((QA (XY h8 rs) d11.1) != (9:Int))->(pa=true ->
       (false=true/\(True))) /\
      (pa=false ->
       ∃ (iM:(List (Int×Int×Bool))) (jo:(List Int)×Int),((True/\(lI (pdR (pdH h8) rs))=(lI (pdR (pdH h8) rs))/\True/\True/\True/\(0:Int)=jo.2/\True)/\((X0 h8)/\(XZ h8 rs)/\(X_ h8 rs)/\(Xq h8 rs)/\(d11.1=iM/\false=false)/\(X0 h8)/\(jo.1=[]/\(List.isEmpty jo.1)=true)/\True)) /\
       LoopP (λ(d16:(List Int)×Int) (uS:((List Int)×Int)->Prop) =>
        ∀ (pb:Bool),pb=(decide (d16.2<(lI (pdR (pdH h8) rs))))->(pb=true ->
         (0<=d16.2)/\(d16.2<(List.length iM))/\∀ (lO:Int),lO=(gD iM d16.2 (0,(0,false))).2.1->(((List.length d16.1)+(List.length [lO]))*8<=70368744177664)/\(I64 (d16.2+(1:Int)))/\(∃ d17:(List Int)×Int,((True/\(lI (pdR (pdH h8) rs))=(lI (pdR (pdH h8) rs))/\True/\True/\True/\(d16.2+(1:Int))=d17.2/\True)/\((X0 h8)/\(XZ h8 rs)/\(X_ h8 rs)/\(Xq h8 rs)/\(iM=iM/\false=false)/\(X0 h8)/\((d16.1++[lO])=d17.1/\false=(List.isEmpty d17.1))/\True))/\uS d17)) /\
        (pb=false ->
         (d16.1.length<=1000)/\∀ (qY:Bool),qY=((QW (pdH h8) d16.1) != (0:Int))->∀ (qZ:Bool),qZ=((lI (Xu (pdH h8) d16.1)) != (lI (pdR (pdH h8) rs)))->∀ (oq:Bool),oq=(qY||qZ)->(oq=true ->
          (false=true/\(True))) /\
         (oq=false ->
          ∃ (lG:(List Int)) (eC:(List (Int×Int×Bool))×Int),((True/\(lI (pdR (pdH h8) rs))=(lI (pdR (pdH h8) rs))/\True/\True/\True/\(0:Int)=eC.2/\True)/\((X0 h8)/\(XZ h8 rs)/\(X_ h8 rs)/\(Xq h8 rs)/\(iM=eC.1/\false=false)/\((Xu (pdH h8) d16.1)=lG/\(Xu (pdH h8) d16.1).isEmpty=(List.isEmpty lG))/\True)) /\
          LoopP (λ(d20:(List (Int×Int×Bool))×Int) (qN:H5->Prop) =>
           ∀ (pc:Bool),pc=(decide (d20.2<(lI (pdR (pdH h8) rs))))->(pc=true ->
            ∃ (cP:(List Int)×Int) (lP:(List (Int×Int×Bool))×Int),((True/\(lI (pdR (pdH h8) rs))=(lI (pdR (pdH h8) rs))/\True/\True/\True/\d20.2=cP.2/\(0:Int)=lP.2/\True)/\((X0 h8)/\(XZ h8 rs)/\(X_ h8 rs)/\(Xq h8 rs)/\(d20.1=lP.1/\false=false)/\(lG=cP.1/\(List.isEmpty lG)=(List.isEmpty cP.1))/\True)) /\
            LoopP (λ(d23:(List (Int×Int×Bool))×Int) (sj:H5->Prop) =>
             ∀ (jq:Bool),jq=(decide (d23.2<(lI (pdR (pdH h8) rs))))->(jq=true ->
              (0<=cP.2)/\(cP.2<(List.length cP.1))/\∀ (lQ:Int),lQ=(gD cP.1 cP.2 0)->(0<=d23.2)/\(d23.2<(List.length (Xt h8 rs)))/\∀ (lR:Int),lR=(gD (Xt h8 rs) d23.2 0)->∀ (jr:Bool),jr=(lQ==lR)->(jr=true ->
               (0<=cP.2)/\(cP.2<(List.length d23.1))/\(I64 (d23.2+(1:Int)))/\(∃ d24:(List (Int×Int×Bool))×Int,((True/\(lI (pdR (pdH h8) rs))=(lI (pdR (pdH h8) rs))/\True/\True/\True/\cP.2=cP.2/\(d23.2+(1:Int))=d24.2/\True)/\((X0 h8)/\(XZ h8 rs)/\(X_ h8 rs)/\(Xq h8 rs)/\((sT d23.1 cP.2 (d23.2,(gD d23.1 cP.2 (0,(0,false))).2))=d24.1/\false=false)/\(cP.1=cP.1/\(List.isEmpty cP.1)=(List.isEmpty cP.1))/\True))/\sj d24)) /\
              (jr=false ->
               (I64 (d23.2+(1:Int)))/\(∃ d25:(List (Int×Int×Bool))×Int,((True/\(lI (pdR (pdH h8) rs))=(lI (pdR (pdH h8) rs))/\True/\True/\True/\cP.2=cP.2/\(d23.2+(1:Int))=d25.2/\True)/\((X0 h8)/\(XZ h8 rs)/\(X_ h8 rs)/\(Xq h8 rs)/\(d23.1=d25.1/\false=false)/\(cP.1=cP.1/\(List.isEmpty cP.1)=(List.isEmpty cP.1))/\True))/\sj d25))) /\
             (jq=false ->
              (I64 (cP.2+(1:Int)))/\(∃ d26:(List (Int×Int×Bool))×Int,((True/\(lI (pdR (pdH h8) rs))=(lI (pdR (pdH h8) rs))/\True/\True/\True/\(cP.2+(1:Int))=d26.2/\True)/\((X0 h8)/\(XZ h8 rs)/\(X_ h8 rs)/\(Xq h8 rs)/\(d23.1=d26.1/\false=false)/\(cP.1=lG/\(List.isEmpty cP.1)=(List.isEmpty lG))/\True))/\qN d26))) lP) /\
           (pc=false ->
            (d20.1.length<=1000/\(QA (XY h8 rs) d20.1=0->d20.1.length<=12))/\(0<=(lI (pdR (pdH h8) rs))/\(lI (pdR (pdH h8) rs))<=10000)/\(false=true->(UF h8 rs)=[])/\((U1 (XY h8 rs) d20.1).length<=1000/\(UF h8 rs).length<=1000)/\∀ (lS:Bool),lS=((QA (XY h8 rs) d20.1)==(0:Int))->∀ (lT:Bool),lT=((ZX (HD (XY h8 rs) d20.1) (U1 (XY h8 rs) d20.1) (0:Int) (UF h8 rs))==(0:Int))->∀ (jt:Bool),jt=(lS&&lT)->(jt=true->(Pq (HD (XY h8 rs) d20.1) (U1 (XY h8 rs) d20.1) (0:Int) (UF h8 rs)).length<=1000000)/\∀ (ju:Bool),ju=(jt&&((Pq (HD (XY h8 rs) d20.1) (U1 (XY h8 rs) d20.1) (0:Int) (UF h8 rs))==(pdR (pdH h8) rs)))->(ju=true->True)/\∀ (jv:Bool),jv=(ju&&true)->(jv=true->True)/\∀ (jx:Bool),jx=(jv&&true)->(jx=true/\(True)))) eC))) jo))) d110)) d30)
def Vh:Cx:=⟨[(3,(.i .i64))],[(4,KH),(6,UN),(5,Dl),(7,UL),(8,VW),(9,P5),(10,VH),(12,WO),(11,K4),(13,MO),(15,UM),(14,K2),(16,Kg)],199,[],0,[],[],[],[],true,[],[],[],[]⟩
def B_ (h8:Int) (rs:List Int) (mx:List Int):List (Nat×LoopAnn):=[(0,⟨Unit,Int,[2,7,8,9,11,13],λe x=>[.val (.list (.i .u8)) mx,.box 7 0,.val (.i .i64) (((List.length (pdR (pdH h8) rs)):Nat):Int),.lst 39,.box 11 0,.val (.i .i64) x],λe x=>[(7,.slot 7,.cells [.val (.i .i64) (pdH h8),.lst 32] (some 26)),(32,.cell 7 1,.lst 3 (.i .i64) (pdR (pdH h8) rs) false),(39,.slot 9,.lst 3 (.i .i64) (Xu (pdH h8) (pdR (pdH h8) rs)) (List.isEmpty (Xu (pdH h8) (pdR (pdH h8) rs)))),(11,.slot 11,.cells [.val (.i .i64) (Ve (pdH h8) (pdR (pdH h8) rs)),.lst 45] (some 34)),(45,.cell 11 1,.lst 40 (.pair (.i .i64) (.pair (.i .i64) .bo)) (BG (pdH h8) (pdR (pdH h8) rs)) (List.isEmpty (BG (pdH h8) (pdR (pdH h8) rs))))]⟩),
 (2,⟨Int,Int,[2,7,8,9,11,13,14],λe x=>[.val (.list (.i .u8)) mx,.box 7 0,.val (.i .i64) (((List.length (pdR (pdH h8) rs)):Nat):Int),.lst 39,.box 11 0,.val (.i .i64) e,.val (.i .i64) x],λe x=>[(7,.slot 7,.cells [.val (.i .i64) (pdH h8),.lst 32] (some 26)),(32,.cell 7 1,.lst 3 (.i .i64) (pdR (pdH h8) rs) false),(39,.slot 9,.lst 3 (.i .i64) (Xu (pdH h8) (pdR (pdH h8) rs)) (List.isEmpty (Xu (pdH h8) (pdR (pdH h8) rs)))),(11,.slot 11,.cells [.val (.i .i64) (Ve (pdH h8) (pdR (pdH h8) rs)),.lst 45] (some 34)),(45,.cell 11 1,.lst 40 (.pair (.i .i64) (.pair (.i .i64) .bo)) (BG (pdH h8) (pdR (pdH h8) rs)) (List.isEmpty (BG (pdH h8) (pdR (pdH h8) rs))))]⟩),
 (4,⟨Unit,(List (Int×Int×Bool))×Int,[7,8,9,15,16],λe x=>[.box 7 0,.val (.i .i64) (((List.length (pdR (pdH h8) rs)):Nat):Int),.lst 39,.box 15 0,.val (.i .i64) x.2],λe x=>[(7,.slot 7,.cells [.val (.i .i64) (pdH h8),.lst 32] (some 26)),(32,.cell 7 1,.lst 3 (.i .i64) (pdR (pdH h8) rs) false),(39,.slot 9,.lst 3 (.i .i64) (Xu (pdH h8) (pdR (pdH h8) rs)) (List.isEmpty (Xu (pdH h8) (pdR (pdH h8) rs)))),(15,.slot 15,.cells [.val (.i .i64) (Ve (pdH h8) (pdR (pdH h8) rs)),.lst 92] (some 34)),(92,.cell 15 1,.lst 40 (.pair (.i .i64) (.pair (.i .i64) .bo)) x.1 false)]⟩),
 (6,⟨(List (Int×Int×Bool)),(List Int)×Int,[7,8,9,15,19,20],λe x=>[.box 7 0,.val (.i .i64) (((List.length (pdR (pdH h8) rs)):Nat):Int),.lst 39,.box 15 0,.box 19 0,.val (.i .i64) x.2],λe x=>[(7,.slot 7,.cells [.val (.i .i64) (pdH h8),.lst 32] (some 26)),(32,.cell 7 1,.lst 3 (.i .i64) (pdR (pdH h8) rs) false),(39,.slot 9,.lst 3 (.i .i64) (Xu (pdH h8) (pdR (pdH h8) rs)) (List.isEmpty (Xu (pdH h8) (pdR (pdH h8) rs)))),(15,.slot 15,.cells [.val (.i .i64) (Ve (pdH h8) (pdR (pdH h8) rs)),.lst 92] (some 34)),(92,.cell 15 1,.lst 40 (.pair (.i .i64) (.pair (.i .i64) .bo)) e false),(19,.slot 19,.cells [.val (.i .i64) (pdH h8),.lst 128] (some 26)),(128,.cell 19 1,.lst 3 (.i .i64) x.1 (List.isEmpty x.1))]⟩),
 (8,⟨(List Int),(List (Int×Int×Bool))×Int,[7,8,9,15,21,23],λe x=>[.box 7 0,.val (.i .i64) (((List.length (pdR (pdH h8) rs)):Nat):Int),.lst 39,.box 15 0,.lst 132,.val (.i .i64) x.2],λe x=>[(7,.slot 7,.cells [.val (.i .i64) (pdH h8),.lst 32] (some 26)),(32,.cell 7 1,.lst 3 (.i .i64) (pdR (pdH h8) rs) false),(39,.slot 9,.lst 3 (.i .i64) (Xu (pdH h8) (pdR (pdH h8) rs)) (List.isEmpty (Xu (pdH h8) (pdR (pdH h8) rs)))),(15,.slot 15,.cells [.val (.i .i64) (Ve (pdH h8) (pdR (pdH h8) rs)),.lst 92] (some 34)),(92,.cell 15 1,.lst 40 (.pair (.i .i64) (.pair (.i .i64) .bo)) x.1 false),(132,.slot 21,.lst 3 (.i .i64) e (List.isEmpty e))]⟩),
 (10,⟨(List Int)×Int,(List (Int×Int×Bool))×Int,[7,8,9,15,21,23,24],λe x=>[.box 7 0,.val (.i .i64) (((List.length (pdR (pdH h8) rs)):Nat):Int),.lst 39,.box 15 0,.lst 132,.val (.i .i64) e.2,.val (.i .i64) x.2],λe x=>[(7,.slot 7,.cells [.val (.i .i64) (pdH h8),.lst 32] (some 26)),(32,.cell 7 1,.lst 3 (.i .i64) (pdR (pdH h8) rs) false),(39,.slot 9,.lst 3 (.i .i64) (Xu (pdH h8) (pdR (pdH h8) rs)) (List.isEmpty (Xu (pdH h8) (pdR (pdH h8) rs)))),(15,.slot 15,.cells [.val (.i .i64) (Ve (pdH h8) (pdR (pdH h8) rs)),.lst 92] (some 34)),(92,.cell 15 1,.lst 40 (.pair (.i .i64) (.pair (.i .i64) .bo)) x.1 false),(132,.slot 21,.lst 3 (.i .i64) e.1 (List.isEmpty e.1))]⟩)]
theorem BL (d:Int×List Int×List Int):gwp (Vh) (B_ d.1 d.2.1 d.2.2) c3 0 (K9 [.tmp 6] (Kt d) (V5 d)) (QC 199 (AL.can Vj d))=JS d.1 d.2.1 d.2.2:=by kernel_rfl
abbrev DK:Prop:=OkC Tryd.prog 3 Ug
theorem Bb (h:∀ (h8:Int) (rs:List Int) (mx:List Int),((0<=h8/\h8<=255)/\(rs.length<=9223372036854775807/\∀ x∈rs,0<=x/\x<=65535)/\mx.length<=9223372036854775807/\∀ x∈mx,0<=x/\x<=255)->JS h8 rs mx):OkC Tryd.prog 3 Ug :=
 QK fun3 mixed (C:=Vh) (V:=λ(d:Int×List Int×List Int)=>JS d.1 d.2.1 d.2.2) ⟨(.cons PD (.cons L1 (.cons AM (.cons SA (.cons R1 (.cons Cp (.cons R4 (.cons VO (.cons G_ (.cons Ah (.cons SW (.cons GS (.cons GP .nil))))))))))))),XsOk.nil,ItsOk.nil,YlOk.nil,IysOk.nil,XfOk.nil⟩ (BL) λd hp=>h d.1 d.2.1 d.2.2 hp
set_option maxHeartbeats 4000000 in
theorem ok_top_TopNumbered:DK:=Bb λh8 rs mx h=>by
 obtain⟨⟨h0,h1⟩,⟨h2,h3⟩,h4,h5⟩:=h;unfold JS;(try delta X_ Xq Bq X0 XZ Xt XY UF Ke H5 q4);(try delta X_ Xq Bq X0 XZ Xt XY UF Ke H5 q4)
 (try delta lI gD sT I64 J_ pj8 pj4)
 have hr:=E2 h0;have hR:=Q7h (hk:=pdH h8) (rs:=rs) (by omega);have uT:=hR.2.1;refine⟨⟨h0,h1,h2,h3⟩,by omega,by omega,by omega,by omega,?_⟩;generalize pdH h8=H at *
 generalize pdR H rs=R at *
 have gw:1<=H/\H<=24:=by omega
 have pe:=TR gw hR;obtain⟨r1,r2,r3⟩:=hR;have vY:1<=R.length:=xh.2 r1;have pz:=FJ gw r3 r1 (by omega);have pw:BG H R=Rx R:=by unfold BG;rw[z6 pz]
 have pk:Ve H R=H:=by unfold Ve;rw[z6 pz]
 have pl:=G7 R;have kw:Xu H R=R.map T7:=by unfold Xu;rw[z6 pe]
 have kl:(R.map T7).length=R.length:=xt ..;simp only[pe,pz,pw,pk,kw];intro y1 e1 y2 e2 y3 e3 y4 e4 y5 e5 y6 e6 y7 e7;have z7:y7=false:=by rw[e7,e6,e5,e4,e3,e2,e1,pl,kl];simp
 refine⟨λh=>(by rw[z7] at h;cases h),λ_=>?_⟩;refine⟨(),0,(by and_intros<;>first|rfl|trivial|simp),?_⟩;refine LoopP.count R.length (λi=>∀ a k,k<a->a<i->(R.map T7).getD a 0≠(R.map T7).getD k 0) (λ_ _ _ h=>absurd h (Nat.not_lt_zero _)) ?_;intro i hi hJ q hq;try dsimp only
 intro o7 sk;refine⟨λc=>?_,λc=>?_⟩
 .have ai:i<R.length:=by rw[sk] at c;have:=zk c;omega
  refine⟨(i:Int),0,(by and_intros<;>first|rfl|trivial|simp),?_⟩;refine LoopP.count i (λk=>∀ b,b<k->(R.map T7).getD i 0≠(R.map T7).getD b 0) (λ_ h=>absurd h (Nat.not_lt_zero _)) ?_;intro k hk so q2 ni;try dsimp only
  intro o8 sq;refine⟨λc2=>?_,λc2=>?_⟩
  .have iD:k<i:=by rw[sq] at c2;have:=zk c2;omega
   refine⟨by omega,by omega,?_⟩;intro qV uU;refine⟨by omega,by omega,?_⟩;intro qW uV o9 uW;refine⟨λ_=>⟨trivial,λ_=>trivial,λqX uX=>(by rw[uX];exact⟨rfl,trivial⟩)⟩,λc3=>?_⟩;rw[uW,uV,uU,zf,zf,x7] at c3;refine⟨by rw[Qd];omega,(k:Int)+1,(by and_intros<;>first|rfl|trivial|simp),ni iD λb hb=>?_⟩;rcases zm b k with h6|h6
   .exact so b h6
   .rw[show b=k by omega];exact c3
  .have iD:k=i:=by rw[sq] at c2;have:=zj c2;omega
   subst iD;refine⟨by rw[Qd];omega,(k:Int)+1,(by and_intros<;>first|rfl|trivial|simp),hq ai λa b hb ha=>?_⟩;rcases zm a k with h6|h6
   .exact hJ a b hb h6
   .have:a=k:=by omega
    subst this;exact so b hb
 .have aO:i=R.length:=by rw[sk] at c;have:=zj c;omega
  subst aO;have hD:=hJ;have hM:MarkI R (Q9o mx (Rx R)):=MarkI.mix (Q67 R) h5 _ (zd _);refine⟨⟨by omega,h4,h5⟩,(),(Q9o mx (Rx R),0),(by and_intros<;>first|rfl|trivial|simp),?_⟩;generalize Q9o mx (Rx R)=L at *
  have fS:=hM.len;have gJ:=I0 L;have dX:=Q45 L;refine LoopP.count2 R.length (λk x=>x=(blk L).take k++L.drop k) (by simp) ?_;rintro k x hk rfl q1 qO;try dsimp only
  intro o_ su;have fp:=FX (A:=blk L) (C:=L) gJ (i:=k) (by omega);refine⟨λc2=>?_,λc2=>?_⟩
  .have iD:k<R.length:=by rw[su] at c2;have:=zk c2;omega
   simp only[zf];refine⟨by omega,by omega,by rw[Qd];omega,(((blk L).take k++L.drop k).set k (-1,(((blk L).take k++L.drop k).getD k (0,(0,false))).2),(k:Int)+1),(by and_intros<;>first|rfl|trivial|simp),qO _ iD ?_⟩;exact Q1m gJ (by omega) (d:=Z_) (by rw[Fm (by omega)];rw[show ((0,(0,false)):Xo)=Z_ from rfl,Q1t gJ (by omega)])
  .have iD:k=R.length:=by rw[su] at c2;have:=zj c2;omega
   have hx:(blk L).take k++L.drop k=blk L:=by rw[x3 (by omega),List.drop_eq_nil_of_le (by omega),xG]
   rw[hx];have aB:=OS gw r3 r1 (by omega) hM;simp only[aB];refine⟨by omega,by omega,?_⟩;intro pa uY;refine⟨λh=>(by rw[uY] at h;cases h),λ_=>?_⟩;refine⟨blk L,([],0),(by and_intros<;>first|rfl|trivial|simp),?_⟩;refine LoopP.count2 R.length (λk l=>l=(rwC L).take k) (by simp) ?_;rintro j l hj rfl q3 uZ;try dsimp only
   intro pb sv;have cq:((rwC L).take j).length=j:=by rw[xR];omega
   refine⟨λc3=>?_,λc3=>?_⟩
   .have fZ:j<R.length:=by rw[sv] at c3;have:=zk c3;omega
    simp only[zf];refine⟨by omega,by omega,?_⟩;intro lO u2;refine⟨by rw[cq];simp only[zG,List.length_nil];omega,by rw[Qd];omega,((rwC L).take j++[lO],(j:Int)+1),?_,uZ _ fZ ?_⟩
    .have:((rwC L).take j++[lO]).isEmpty=false:=by simp
     and_intros<;>first|rfl|trivial|exact this.symm
    .have:lO=(rwC L).getD j 0:=by rw[u2,Q85 (by omega),show ((0,(0,false)):Xo)=Z_ from rfl,Fm (by omega)]
     rw[this,Q9 (show j<(rwC L).length by omega),<-J1]
   .have fZ:j=R.length:=by rw[sv] at c3;have:=zj c3;omega
    have u4:(rwC L).take j=rwC L:=x3 (by omega);rw[u4];have sx:QW H (rwC L)=0:=TR gw ⟨(by intro h;rw[h] at dX;simp at dX;omega),by omega,Q79 hM r3⟩;have u5:Xu H (rwC L)=(rwC L).map T7:=by unfold Xu;rw[z6 sx]
    have u6:((rwC L).map T7).length=R.length:=by rw[xt];omega
    simp only[sx,u5];refine⟨by omega,?_⟩;intro qY u7 qZ u9 oq u_;have vd:oq=false:=by rw[u_,u9,u7,u6];simp
    refine⟨λh=>(by rw[vd] at h;cases h),λ_=>?_⟩;refine⟨(rwC L).map T7,(blk L,0),(by and_intros<;>first|rfl|trivial|simp),?_⟩;refine LoopP.count2 R.length (λi x=>x=L.take i++(blk L).drop i) (by simp) ?_;rintro i x gA rfl q4 ve;try dsimp only
    intro pc sy;have pg:L.length=(blk L).length:=gJ.symm;have rX:=FX (A:=L) (C:=blk L) pg (i:=i) (by omega);refine⟨λc4=>?_,λc4=>?_⟩
    .have fY:i<R.length:=by rw[sy] at c4;have:=zk c4;omega
     obtain⟨o1,o2,o3⟩:=Z1m hM (i:=i) (by omega) hD;refine⟨((rwC L).map T7,(i:Int)),(L.take i++(blk L).drop i,0),(by and_intros<;>first|rfl|trivial|simp),?_⟩;refine LoopP.count2 R.length (λk x=>x=if (L.getD i Z_).1.toNat<k then L.take (i+1)++(blk L).drop (i+1) else L.take i++(blk L).drop i) (by simp) ?_;intro k x au mn q5 sA;have fN:=FX (A:=L) (C:=blk L) pg (i:=i+1) (by omega);have vf:x.length=L.length:=by rw[mn];split<;>assumption
     try dsimp only
     intro jq ot;refine⟨λc5=>?_,λc5=>?_⟩
     .have iv:k<R.length:=by rw[ot] at c5;have:=zk c5;omega
      simp only[zf];refine⟨by omega,by omega,?_⟩;intro lQ ou;refine⟨by omega,by omega,?_⟩;intro lR ov jr ox;refine⟨λc6=>?_,λc6=>?_⟩
      .rw[ox,ou,ov] at c6;have ho:=(o3 k iv).1 c6;rw[z0 (by omega)] at mn;refine⟨by omega,by omega,by rw[Qd];omega,(x.set i ((k:Int),(x.getD i (0,(0,false))).2),(k:Int)+1),(by and_intros<;>first|rfl|trivial|simp),sA _ iv ?_⟩;rw[z6 (by omega),mn];refine Q1m pg (by omega) (d:=Z_) ?_;rw[show ((0,(0,false)):Xo)=Z_ from rfl,Q1t pg (by omega),Fm (by omega)];have:((k:Int))=(L.getD i Z_).1:=by omega
       rw[this]
      .rw[ox,ou,ov] at c6;have ho:¬ (L.getD i Z_).1.toNat=k:=λh=>(by rw[(o3 k iv).2 h] at c6;cases c6);refine⟨by rw[Qd];omega,(x,(k:Int)+1),(by and_intros<;>first|rfl|trivial|simp),sA _ iv ?_⟩;rw[mn];by_cases h6:(L.getD i Z_).1.toNat<k
       .rw[z6 h6,z6 (by omega)]
       .rw[z0 h6,z0 (by omega)]
     .have iv:k=R.length:=by rw[ot] at c5;have:=zj c5;omega
      rw[z6 (by omega)] at mn;refine⟨by rw[Qd];omega,(x,(i:Int)+1),(by and_intros<;>first|rfl|trivial|simp),ve _ fY mn⟩
    .have fY:i=R.length:=by rw[sy] at c4;have:=zj c4;omega
     have vg:L.take i++(blk L).drop i=L:=by rw[x3 (by omega),List.drop_eq_nil_of_le (by omega),xG]
     rw[vg];have vh:=Tr gw r3 fS r1 (by omega) hM.val;have q8:=I4 hM vh;have fT:U1 H L=Rx R:=by unfold U1;rw[z6 q8];exact Q2e fS hM.nd hM.val
     have jG:HD H L=H:=by unfold HD;rw[z6 q8]
     obtain⟨w1,w2,w3⟩:=FB gw r3 r1 (by omega);have ek:(List.replicate R.length (1:Int)).length=R.length:=by simp
     simp only[fT,jG,zf,w1,w2,w3,q8];repeat (first|(refine And.intro (by first|assumption|omega|(intro h;cases h;done)|(and_intros<;>first|assumption|omega|rfl|trivial|(intro h;omega)|(intro h;cases h;done))) ?_))
     intro lS q_ lT ra jt rf;refine⟨λ_=>by omega,?_⟩;intro ju rh;refine⟨λ_=>trivial,?_⟩;intro jv ri;refine⟨λ_=>trivial,?_⟩;intro jx rj;have z:jx=true:=by rw[rj,ri,rh,rf,ra,q_,beq_self_eq_true R];rfl
     first|exact z|exact⟨z,trivial⟩
theorem O9 {α β:Type}{f:α->Option β}:∀ {L:List α}{ys:List β},L.mapM f=some ys->ys.length=L.length/\∀ (i:Nat) (h:i<L.length) (h2:i<ys.length),f L[i]=some ys[i]
 |[],ys,h=>by simp at h;subst h;simp
 |a::L,ys,h=>by
  simp only[xg,zE,zV,Option.pure_def,xq] at h;obtain⟨y,hy,zs,hz,rfl⟩:=h;obtain⟨e1,e2⟩:=O9 hz;refine⟨by simp[e1],λi h1 h2=>?_⟩;cases i with
  |zero=>exact hy
  |succ i=>exact e2 i (by simpa using h1) (by simpa using h2)
theorem Q58 {H:Type}{enc:TypeId×Value->H}{P:Program}{w:World}{base:Nat}{sp:Nat->Bool}{held:Bool}{fuel:Nat}{t:TypeId}{k:IntKind}{c:Value}{y:DataW H×List MemPlace}
  (ht:P.underlying t=some (.int k)) (h:DataW.trod enc P w base sp held fuel t [c]=some y):∃ n,c=.int k n/\y=(.lit (.int k n),[]):=by
 cases fuel with
 |zero=>simp[DataW.trod] at h
 |succ fuel =>cases c<;>simp[DataW.trod,ht] at h;rename_i k' n;obtain⟨⟨rfl,_⟩,rfl⟩:=h;exact⟨n,rfl,rfl⟩
theorem Q4v {H:Type}{enc:TypeId×Value->H}{P:Program}{w:World}{base:Nat}{sp:Nat->Bool}{held:Bool}{fuel:Nat}{t e:TypeId}{k:IntKind}{n:Nat}{l:List Value}{xs:List Int}{p:List MemPlace}
  (ht:P.underlying t=some (.array n e)) (he:P.underlying e=some (.int k)) (h1:P.cellsOf e=1) (hc:P.cellsOf t=n) (h:DataW.trod enc P w base sp held fuel t l=some (.agg (xs.map λx=>.lit (.int k x)),p)):l=xs.map λx=>.int k x:=by
 cases fuel with
 |zero=>simp[DataW.trod] at h
 |succ fuel =>
  simp only[DataW.trod,ht,h1,hc,wA] at h;split at h
  .rename_i hl;simp only[zq,Prod.mk.injEq,DataW.agg.injEq] at h;obtain⟨ys,hm,hx,_⟩:=h;obtain⟨e1,e2⟩:=O9 hm;rw[wB] at e1;have hlen:xs.length=ys.length:=by
    have:=congrArg List.length hx;simpa using this.symm
   refine List.ext_getElem (by rw[xt];omega) λi k1 k2=>?_;have hy:=e2 i (by rw[wB];omega) (by omega);rw[List.getElem_range,xP k1] at hy;simp only[wg,List.take_zero] at hy;obtain⟨m,ma,gU⟩:=Q58 he hy;rw[ma,xD];have rk:(ys.map (·.1))[i]'(by rw[xt];omega)=(xs.map λx=>(DataW.lit (Lit.int k x):DataW H))[i]'(by rw[xt];omega):=by
    simp only[hx]
   rw[xD,xD,gU] at rk;simp only[DataW.lit.injEq,Lit.int.injEq,true_and] at rk;rw[rk]
  .cases h
theorem tab_heap {P:Program}{nm:String}{g G:Nat}{t e:TypeId}{k:IntKind}{n fuel:Nat}{cs:Array Value}{xs:List Int}{p:List MemPlace}{W:World}(hv:W.var? P nm=some cs) (hG:P.globalNamed nm=some G) (hg:P.globalNamed nm=some g) {T:TypeId}(hT:(P.globals[G]?).map (·.type)=some T) (oI:(P.globals[g]?).map (·.type)=some t)
  (ht:P.underlying T=some (.array n e)) (he:P.underlying e=some (.int k)) (h1:P.cellsOf e=1) (hc:P.cellsOf T=n) (hd:DataW.trod (λ_=>()) P W 0 (λ_=>true) false fuel t cs.toList=some (.agg (xs.map λx=>.lit (.int k x)),p)):∃ e f,W.heap[G]?=some (.cells (xs.map λx=>Value.int k x).toArray e f):=by
 obtain rfl:=osj (hG.symm.trans hg);obtain rfl:=osj (hT.symm.trans oI);have hl:=Q4v ht he h1 hc hd;unfold World.var? at hv;rw[hG] at hv;simp only[xl] at hv;split at hv
 .rename_i cs' a b hh;obtain rfl:=osj hv;refine⟨a,b,?_⟩;rw[hh,<-hl]
 .cases hv
theorem boundPre_of {x:Int×List Int×List Int}(h:AWf [.i .u8,.list (.i .u16),.list (.i .u8)] x):(0<=x.1/\x.1<=255)/\(x.2.1.length<=9223372036854775807/\∀ y∈x.2.1,0<=y/\y<=65535)/\x.2.2.length<=9223372036854775807/\∀ y∈x.2.2,0<=y/\y<=255:=by obtain⟨h1,h2,h3⟩:=h;exact⟨(Q3e _).1 h1,⟨h2.1,λy hy=>(Q7u y).1 (h2.2 y hy)⟩,h3.1,λy hy=>(Q3e y).1 (h3.2 y hy)⟩
end Go.Proofs.Tryd