/- A framework for walks, contracts of functions, and their proofs: part 6. -/
import Derived.ProofKit
import Derived.OpenShut
import Derived.LaidMore
import Derived.Carry
import Derived.Lib.SmallJoins
import Derived.Deep.Slices
import Derived.Test.YtdbeaoaplpddnaaGreatDoorS5
noncomputable section
set_option linter.unusedVariables false
set_option maxRecDepth 100000
namespace Go.Proofs.Tryz
open Go Go.V Go.Proofs
def czT:VCode :=
 .seq (.region [
  ⟨(some 2),.move (.const (.int .i64 (0))),none⟩])
 (.seq (.seq (.region [
  ⟨(some 3),.move (.tmp 0),none⟩,
  ⟨(some 4),.cmp .eql (.tmp 3) (.const (.int .u64 (0))),none⟩])
 (.cond (.tmp 4) (.seq (.region [
   ⟨(some 2),.move (.const (.int .i64 (64))),none⟩])
  (.ret))
  (.skip)))
 (.seq (.region [
  ⟨(some 5),.move (.tmp 0),none⟩,
  ⟨(some 6),.move (.tmp 0),none⟩,
  ⟨(some 7),.un .neg (.tmp 6),none⟩,
  ⟨(some 8),.bits .and (.tmp 5) (.tmp 7),none⟩,
  ⟨(some 9),.arith .mul (.tmp 8) (.const (.int .u64 (285870213051353865))),none⟩,
  ⟨(some 10),.shift .shr (.tmp 9) (.const (.int .u64 (58))),none⟩,
  ⟨(some 11),.indexAddrArr 64 1 (.global 1) (.tmp 10),none⟩,
  ⟨(some 12),.load false 1 (.tmp 11),none⟩,
  ⟨(some 13),.convI .i64 (.tmp 12),none⟩,
  ⟨(some 2),.move (.tmp 13),none⟩])
 (.ret)))
theorem U0 {S:VSpecs}{op:VOp}{d:Option Nat}{l:List VOper}{env:Env}{σ:Heap}{K:Env→Heap→Prop}(v:Value) (h:∀ Q:Value→Heap→Prop,Q v σ→vop S op env σ Q) (hK:Bw S l (Xv env d v) σ K):Bw S (⟨d,op,none⟩::l) env σ K:=by show vif true _ _;exact⟨fun _=>h _ hK,fun h=>by cases h⟩
theorem Q80 {S:VSpecs}{op:BinOp}{x y:Operand}{env:Env}{σ:Heap}{Q:Value→Heap→Prop}{k:IntKind}{a b:Int}(hx:Q3 env x=.int k a) (hy:Q3 env y=.int k b) (h:Q (.bool (Z0k op a b)) σ):vop S (.cmp op x y) env σ Q:=by simp only[vop,Q4,hx,hy,if_true,QJ];exact h
theorem Q4k {S:VSpecs}{op:BinOp}{x y:Operand}{env:Env}{σ:Heap}{Q:Value→Heap→Prop}{k:IntKind}{a b:Int}(hx:Q3 env x=.int k a) (hy:Q3 env y=.int k b) (h:Q (.int k (NX op k a b)) σ):vop S (.bits op x y) env σ Q:=by simp only[vop,Q4,hx,hy,if_true,QJ];exact h
theorem Q25 {S:VSpecs}{op:BinOp}{x y:Operand}{env:Env}{σ:Heap}{Q:Value→Heap→Prop}{k:IntKind}{a b:Int}(hx:Q3 env x=.int k a) (hy:Q3 env y=.int k b) (h:Q (.int k (HW op k a b)) σ):vop S (.arith op x y) env σ Q:=by simp only[vop,Q4,hx,hy,if_true,QJ];exact h
theorem Q2j {S:VSpecs}{op:BinOp}{x y:Operand}{env:Env}{σ:Heap}{Q:Value→Heap→Prop}{k k':IntKind}{a b:Int}(hx:Q3 env x=.int k a) (hy:Q3 env y=.int k' b) (h0:0≤b) (h:Q (.int k (HS op k a b)) σ):vop S (.shift op x y) env σ Q:=by simp only[vop,Q4,hx,hy,h0,if_true,QJ];exact h
theorem Q51 {S:VSpecs}{x:Operand}{env:Env}{σ:Heap}{Q:Value→Heap→Prop}{k k':IntKind}{a:Int}(hx:Q3 env x=.int k a) (h:Q (.int k' (k'.wrap a)) σ):vop S (.convI k' x) env σ Q:=by simp only[vop,Q4,hx,QJ];exact h
theorem Q8b {S:VSpecs}{len size g o s:Nat}{x y:Operand}{env:Env}{σ:Heap}{Q:Value→Heap→Prop}{k':IntKind}{b:Int}(hx:Q3 env x=.pointer (some ⟨g,o,some s⟩)) (hy:Q3 env y=.int k' b) (h0:0≤b∧b<len) (h:Q (.pointer (some ⟨g,o+b.toNat*size,some s⟩)) σ):vop S (.indexAddrArr len size x y) env σ Q:=by simp only[vop,Q4,hx,hy,h0,and_self,if_true,QJ];exact h
theorem Q59 {S:VSpecs}{size g o s:Nat}{agg:Bool}{x:Operand}{env:Env}{σ:Heap}{Q:Value→Heap→Prop}{c:List Value}{v:Value}(hx:Q3 env x=.pointer (some ⟨g,o,some s⟩)) (hg:Q40 g=some c) (hp:c.all QD=true) (hv:Xs agg size c o=some v) (h:Q v σ):vop S (.load agg size x) env σ Q:=by simp only[vop,Q4,hx,hg,hp,hv,if_true,QJ];exact h
theorem C2 (x:Int):IntKind.wrap .u64 x=x % 18446744073709551616:=by show (if (false&&decide (x % (18446744073709551616:Int)≥9223372036854775808))=true then x % (18446744073709551616:Int)-18446744073709551616 else x % (18446744073709551616:Int))=_;simp
theorem DQ {x:Nat}(h:x<2 ^ 64):(BitVec.ofInt 64 (x:Int)).toNat=x:=by rw[AS,BitVec.toNat_ofNat,Nat.mod_eq_of_lt h]
theorem Od {x y:Nat}(hx:x<2 ^ 64) (hy:y<2 ^ 64):NX .and .u64 x y=((x &&& y:Nat):Int):=by
 have e:(BitVec.ofInt 64 (x:Int) &&& BitVec.ofInt 64 (y:Int)).toNat=x &&& y:=by rw[BitVec.toNat_and,DQ hx,DQ hy]
 show IntKind.wrap .u64 ((BitVec.ofInt 64 (x:Int) &&& BitVec.ofInt 64 (y:Int)).toNat:Int)=_;have hl:x &&& y≤x:=Nat.and_le_left;rw[e,C2];omega
set_option maxHeartbeats 2000000 in
theorem Z1i {P:Program}{f:Nat}(h:Fun P f czT [.tmp 2] 14) (hm:P.follows .mixedOrders=true) {x:Int}(h0:0≤x) (h1:x≤18446744073709551615) {σ:Heap}{K:Value→Heap→Prop}(hK:K (.int .i64 (tzN x.toNat)) σ):VCalled P f [.int .u64 x] σ K:=by
 refine h.calls hm Po ?_;obtain⟨n,rfl⟩:=Int.eq_ofNat_of_zero_le h0;have h1:n<2 ^ 64:=by omega
 rw[Int.toNat_natCast] at hK;unfold czT;refine U0 (.int .i64 0) (fun _ h=>h) ?_;refine U0 (.int .u64 n) (fun _ h=>h) ?_;refine U0 (.bool ((n:Int)==0)) (fun _ h=>Q80 (k:=.u64) (a:=n) (b:=0) rfl rfl h) ?_;show vif ((n:Int)==0) _ _;refine⟨fun hz=>?_,fun hz=>?_⟩
 ·have hz:n=0:=by have:=eq_of_beq hz;omega
  subst hz;refine U0 (.int .i64 64) (fun _ h=>h) ?_;exact⟨_,_,DropTo.refl _ _ _,hK⟩
 have hz:0<n:=by
  rcases Nat.eq_zero_or_pos n with h|h
  ·subst h;cases hz
  ·exact h
 refine U0 (.int .u64 n) (fun _ h=>h) ?_;refine U0 (.int .u64 n) (fun _ h=>h) ?_;refine U0 (.int .u64 (IntKind.u64.wrap (0-(n:Int)))) (fun _ h=>h) ?_;have hand:NX .and .u64 n (IntKind.u64.wrap (0-(n:Int)))=((2 ^ tzN n:Nat):Int):=by
  have e:IntKind.u64.wrap (0-(n:Int))=((2 ^ 64-n:Nat):Int):=by rw[C2];omega
  rw[e,Od h1 (by omega),Q8m hz h1]
 refine U0 (.int .u64 ((2 ^ tzN n:Nat):Int)) (fun _ h=>Q4k (k:=.u64) (a:=n) (b:=IntKind.u64.wrap (0-(n:Int))) rfl rfl (by rw[hand];exact h)) ?_;have hmul:HW .mul .u64 ((2 ^ tzN n:Nat):Int) 285870213051353865=((2 ^ tzN n*285870213051353865 % 18446744073709551616:Nat):Int):=by show IntKind.wrap .u64 (((2 ^ tzN n:Nat):Int)*285870213051353865)=_;rw[C2];omega
 refine U0 (.int .u64 ((2 ^ tzN n*285870213051353865 % 18446744073709551616:Nat):Int)) (fun _ h=>Q25 (k:=.u64) (a:=((2 ^ tzN n:Nat):Int)) (b:=285870213051353865) rfl rfl (by rw[hmul];exact h)) ?_;have rh:HS .shr .u64 ((2 ^ tzN n*285870213051353865 % 18446744073709551616:Nat):Int) 58=((2 ^ tzN n*285870213051353865 % 18446744073709551616 / 288230376151711744:Nat):Int):=by show Int.fdiv _ 288230376151711744=_;rw[Int.fdiv_eq_ediv_of_nonneg _ (by decide)];omega
 refine U0 (.int .u64 ((2 ^ tzN n*285870213051353865 % 18446744073709551616 / 288230376151711744:Nat):Int)) (fun _ h=>Q2j (k:=.u64) (k':=.u64) (a:=((2 ^ tzN n*285870213051353865 % 18446744073709551616:Nat):Int)) (b:=58) rfl rfl (by decide) (by rw[rh];exact h)) ?_;have ri:=Z0y (tzN n) (Gu hz h1).1;have ah:2 ^ tzN n*285870213051353865 % 18446744073709551616 / 288230376151711744<64:=by omega
 generalize 2 ^ tzN n*285870213051353865 % 18446744073709551616 / 288230376151711744=k at *
 refine U0 (.pointer (some ⟨1,0+(k:Int).toNat*1,some 0⟩)) (fun _ h=>Q8b (g:=1) (o:=0) (s:=0) (b:=k) (k':=.u64) rfl rfl (by omega) h) ?_;have hv:Xs false 1 (Go.V.t64.map fun x=>Value.int .u8 x) (0+(k:Int).toNat*1)=some (.int .u8 (tzN n)):=by show (Go.V.t64.map fun x=>Value.int .u8 x)[0+(k:Int).toNat*1]?=_;rw[Int.toNat_natCast,Nat.mul_one,Nat.zero_add,List.getElem?_map,ri];rfl
 refine U0 (.int .u8 (tzN n)) (fun _ h=>Q59 (g:=1) (s:=0) (o:=0+(k:Int).toNat*1) (c:=Go.V.t64.map fun x=>Value.int .u8 x) rfl rfl (by decide) hv h) ?_;have vB:=(Gu hz h1).1;have gw:IntKind.i64.wrap (tzN n:Int)=tzN n:=InK.wrap (k:=.i64) ((QQ _).2 (by omega));refine U0 (.int .i64 (tzN n)) (fun _ h=>Q51 (k:=.u8) (a:=tzN n) rfl (by rw[gw];exact h)) ?_;refine U0 (.int .i64 (tzN n)) (fun _ h=>h) ?_;exact⟨_,_,DropTo.refl _ _ _,hK⟩
theorem Ol {P:Program}{σ:Heap}{v:SV}{u:Value}(h:SR P hNil Xu Jc v u):Ret P σ v [] u σ :=
 ⟨⟨.refl _,Dead.refl _⟩,fun _=>rfl,Xu,fun j b hj=>by simp at hj,fun j j' i hj=>by simp at hj,h⟩
theorem Q1n (σ:Heap):RR σ []=σ:=by
 unfold RR;cases σ;simp only[List.length_nil,Nat.add_zero,List.getElem?_nil,Option.bind_none,Heap.mk.injEq,and_true];funext i;split
 ·rfl
 ·rename_i wf hi;exact(wf i (by simpa using hi)).symm
theorem Q8c {P:Program}{f:Nat}{pre:Int→Prop}{r:Int→Int}(h:∀ x,pre x→∀ (σ:Heap) (K:Value→Heap→Prop),K (.int .i64 (r x)) σ→VCalled P f [.int .u64 x] σ K) :
  OkC P f (Wi (.one (.k (.i .u64)):AL Int) pre (fun d=>.val (.i .i64) (r d)) (fun _=>[])):=by
 intro ap ec σ args vs c v bs av hs hv b9 hc;unfold Wi at hs;split at hs
 ·rename_i d hd;obtain⟨rfl,rfl,rfl⟩:=(by simpa using hs:pre d=c∧SV.val (.i .i64) (r d)=v∧[]=bs)
  match args,av,hd with
  |[],_,hd=>simp[AL.dec] at hd
  |a::x::l,_,hd=>simp[AL.dec] at hd
  |[a],av,hd =>
   simp only[AL.dec] at hd;obtain⟨u1,px,rfl,s1,av⟩:=av;have av:px=[]:=av;subst av;have k1:KC σ (.i .u64) d [u1]:=Qk (k:=.i .u64) hd ⟨u1,[],rfl,s1,rfl⟩;have e1:u1=.int .u64 d:=by simpa [KC] using k1
   subst e1;refine⟨h d hc σ _ (Ol (by simp[SR,KC])),fun _ _=>h d hc σ _ ⟨?_,(Q1n σ).symm⟩⟩;simp[Uh,Am]
 ·cases hs
theorem Q3m {P:Program}{f:Nat}{D:Type}{l:AL D}{pre:D→Prop}{res:D→SV}{obs:D→List OB}(h:∀ d,pre d→False):OkC P f (Wi l pre res obs):=by
 intro ap ec σ args vs c v bs av hs hv b9 hc;unfold Wi at hs;split at hs
 ·rename_i d hd;have:pre d↔c:=by simp at hs;exact hs.1
  exact(h d (this.2 hc)).elim
 ·cases hs
def KL:AL (Int):=(.one (.k (.i .u64)))
def K2 (d:Int):Prop:=0≤d∧d≤18446744073709551615
def Ka (d:Int):SV:=.val (.i .i64) ((tzN d.toNat:Nat):Int)
def K1 (d:Int):List OB:=[]
def Xh:CSp:=Wi KL K2 Ka K1
abbrev Ko:Prop:=OkC Tryz.prog 83 Xh
theorem Kr:Ko :=
 Q8c (pre:=fun x=>0≤x∧x≤18446744073709551615) (r:=fun x=>((tzN x.toNat:Nat):Int)) fun x hx σ K hK =>
  Z1i (f:=83) (by rw[show czT=c83 by kernel_rfl];exact Z1q) mixed hx.1 hx.2 hK
def K9 (l:List Lot) (tl:Int):Int:=if ZB l≠0 then ZB l else if !inI tl 0 1000 then 3 else 0
def Q1x (tl:Int) (p:List Lot):Bool:=!(p.any fun x=>x.1 != (p.getD 0 J_).1)&&decide ((Q70 p).2≤tl)
def Kj (l:List Lot) (tl:Int) (S:List Int):Bool:=Q1x tl (Uf l S)
theorem Z1x {n:Nat}(h0:0<n) (h1:n<2 ^ 64):n.testBit (tzN n)=true:=by
 obtain⟨_,m,hm⟩:=Gu h0 h1;generalize tzN n=t at *
 rw[hm,Nat.testBit_two_pow_mul];simp
theorem P_:∀ f n,n≤f→n<2 ^ 64→∀ i:Int,i∈LU f n↔∃ k:Nat,i=k∧n.testBit k=true
 |0,n,h1,_,i=>by
  have:n=0:=by omega
  subst this;simp[LU]
 |f+1,n,h1,h2,i=>by
  unfold LU;by_cases h:n=0
  ·subst h;simp
  ·rw[if_neg h,List.mem_cons];have hle:=Nat.and_le_right (n:=n) (m:=n-1);rw[P_ f _ (by omega) (by omega)];constructor
   ·rintro (e|⟨k,e,hb⟩)
    ·exact⟨tzN n,e,Z1x (by omega) h2⟩
    ·rw[H0 (by omega) h2] at hb;exact⟨k,e,by simp at hb;exact hb.1⟩
   ·rintro⟨k,e,hb⟩;by_cases hk:k=tzN n
    ·exact .inl (by rw[e,hk])
    ·exact .inr ⟨k,e,by rw[H0 (by omega) h2,hb,decide_eq_false hk];rfl⟩
theorem C7 {n:Nat}(h:n<2 ^ 64) (i:Int):i∈Qw n↔∃ k:Nat,i=k∧n.testBit k=true:=P_ n n (Nat.le_refl _) h i
theorem II:∀ f n,(LU f n).length≤f
 |0,_=>by simp[LU]
 |f+1,n=>by
  unfold LU;split
  ·simp
  ·simp only[List.length_cons];have:=II f (n &&& (n-1));omega
theorem Q4x (n:Nat):(Qw n).length≤n:=II n n
theorem FP {n m:Nat}(h:n<2 ^ m) (hm:m≤64):∀ i∈Qw n,0≤i∧i<(m:Int):=fun i hi=>by
 have hp:2 ^ m≤2 ^ 64:=Nat.pow_le_pow_right (by omega) hm;obtain⟨k,rfl,hb⟩:=(C7 (by omega) i).1 hi;have:k<m:=by
  rcases Nat.lt_or_ge k m with h2|h2
  ·exact h2
  ·rw[Nat.testBit_lt_two_pow (Nat.lt_of_lt_of_le h (Nat.pow_le_pow_right (by omega) h2))] at hb;cases hb
 omega
theorem Q1r {n:Nat}(h:0<n):Qw n≠[]:=by rw[ES h];simp
theorem LL:∀ f n,n≤f→n<2 ^ 64→(LU f n).Nodup
 |0,n,_,_=>by simp[LU]
 |f+1,n,h1,h2=>by
  unfold LU;by_cases h:n=0
  ·rw[if_pos h];exact List.nodup_nil
  ·rw[if_neg h,List.nodup_cons];have hle:=Nat.and_le_right (n:=n) (m:=n-1);refine⟨fun hm=>?_,LL f _ (by omega) (by omega)⟩;obtain⟨k,e,hb⟩:=(P_ f _ (by omega) (by omega) _).1 hm;rw[H0 (by omega) h2] at hb;have:k=tzN n:=by omega
   rw[decide_eq_true this] at hb;simp at hb
theorem LI:∀ {l m:List Int},l.Nodup→(∀ x∈l,x∈m)→l.length≤m.length
 |[],_,_,_=>Nat.zero_le _
 |x::l,m,hn,hs=>by have hn:=List.nodup_cons.1 hn;have hx:=hs x (List.mem_cons_self ..);have:=LI (l:=l) (m:=m.erase x) hn.2 fun y hy=>(List.mem_erase_of_ne (by rintro rfl;exact hn.1 hy)).2 (hs y (List.mem_cons_of_mem _ hy));rw[List.length_erase_of_mem hx] at this;have:0<m.length:=List.length_pos_of_mem hx;simp only[List.length_cons];omega
theorem LS {n m:Nat}(h:n<2 ^ m) (hm:m≤64):(Qw n).length≤m:=by
 have hp:2 ^ m≤2 ^ 64:=Nat.pow_le_pow_right (by omega) hm;have:=LI (m:=(List.range m).map fun (k:Nat)=>(k:Int)) (LL n n (Nat.le_refl _) (by omega)) fun x hx=>by obtain⟨h1,h2⟩:=FP h hm x hx;simp only[List.mem_map,List.mem_range];exact⟨x.toNat,by omega,by omega⟩
 simpa [Qw] using this
def BJ (a b:Int):Int:=if a<b then -1 else if b<a then 1 else 0
def orI (l:List Int):Int:=(l.find? fun x=>x != 0).getD 0
def H4:List Int→List Int→Int
 |[],[]=>0
 |[],_::_=>-1
 |_::_,[]=>1
 |x::a,y::b=>if BJ x y≠0 then BJ x y else H4 a b
theorem EM {a b:Int}:BJ a b=0↔a=b:=by unfold BJ;split<;>(try split)<;>omega
theorem F5 {a b:List Int}:∀ k,k≤a.length→k≤b.length→(∀ j,j<k→a.getD j 0=b.getD j 0)→H4 a b=H4 (a.drop k) (b.drop k)
 |0,_,_,_=>by simp
 |k+1,h1,h2,h=>by rw[F5 k (by omega) (by omega) fun j hj=>h j (by omega)];have e:=h k (by omega);rw[Q6 (by omega),Q6 (by omega)] at e;rw[List.drop_eq_getElem_cons (show k<a.length by omega),List.drop_eq_getElem_cons (show k<b.length by omega),H4,if_neg (by rw[EM.2 e];decide)]
def KG:AL (Int):=(.one (.k (.i .u32)))
def K3 (d:Int):Prop:=False
def K5 (d:Int):SV:=.val (.i .i64) ((tzN d.toNat:Nat):Int)
def K4 (d:Int):List OB:=[]
def Xi:CSp:=Wi KG K3 K5 K4
abbrev Kx:Prop:=OkC Tryz.prog 82 Xi
theorem KK:Kx:=Q3m fun _ h=>h
def XB:AL (Int):=(.one (.k (.i .u64)))
def Vc (d:Int):Prop:=0≤d∧d≤18446744073709551615
def Xo (d:Int):SV:=.val (.i .i64) ((tzN d.toNat:Nat):Int)
def Xk (d:Int):List OB:=[]
def J4:CSp:=Wi XB Vc Xo Xk
def Z1 (x:Int):Prop :=
 (false=true →
  (InK .u32 x)∧(False)∧(((tzN x.toNat:Nat):Int)=((tzN x.toNat:Nat):Int)∧(True))) ∧
 (false=false →
  (0≤x∧x≤18446744073709551615)∧(((tzN x.toNat:Nat):Int)=((tzN x.toNat:Nat):Int)∧(True)))
def XA:Cx:=⟨[],[(82,Xi),(83,Xh)],8,[],0,[],[],[],[],false,[],[],[],[]⟩
def VF (x:Int):List (Nat×LoopAnn):=[]
theorem VG (d:Int):gwp (XA) (VF d) c49 0 (YU [.tmp 2] (Xo d) (Xk d)) (Qh 8 (AL.can XB d))=Z1 d:=by kernel_rfl
abbrev VE:Prop:=OkC Tryz.prog 49 J4
theorem VC (h:∀ (x:Int),(0≤x∧x≤18446744073709551615)→Z1 x):OkC Tryz.prog 49 J4 :=
 QB Z2k mixed (C:=XA) (V:=fun (d:Int)=>Z1 d) ⟨(.cons KK (.cons Kr .nil)),XsOk.nil,ItsOk.nil,YlOk.nil,IysOk.nil,XfOk.nil⟩ (VG) fun d hp=>h d hp
theorem VI:VE:=VC fun x h=>by unfold Z1;(try delta lI gD sT I64);refine⟨(fun h=>by cases h),fun _=>⟨h,?_⟩⟩;and_intros<;>first|rfl|trivial
def Nz:AL (Int):=(.one (.k (.i .u64)))
def H6 (d:Int):Prop:=0≤d∧d≤1048576
def UE (d:Int):SV:=.lst 0
def UA (d:Int):List OB:=[.lst 3 (.i .i64) (Qw d.toNat) ((Qw d.toNat).isEmpty)]
def WA:CSp:=Wi Nz H6 UE UA
def W3 (x:Int):Prop :=
 ∃ (e3:Unit) (d30:Int×(List Int)),((x=d30.1∧True∧True)∧((d30.2=[]∧(List.isEmpty d30.2)=true)∧True)) ∧
 LoopP (fun (d3:Int×(List Int)) (q3:(Int×(List Int))→Prop) =>
  ((d3.1 != (0:Int))=true →
   (0≤d3.1∧d3.1≤18446744073709551615)∧(((List.length d3.2)+(List.length [((tzN d3.1.toNat:Nat):Int)]))*8≤70368744177664)∧(InK .u64 (d3.1-(1:Int)))∧(∃ d4:Int×(List Int),(((NX .and .u64 d3.1 (d3.1-(1:Int)))=d4.1∧True∧True)∧(((d3.2++[((tzN d3.1.toNat:Nat):Int)])=d4.2∧false=(List.isEmpty d4.2))∧True))∧q3 d4)) ∧
  ((d3.1 != (0:Int))=false →
   (True∧((d3.2=(Qw x.toNat)∧(List.isEmpty d3.2)=(Qw x.toNat).isEmpty)∧True)))) d30
def NA:Cx:=⟨[(3,(.i .i64))],[(49,J4)],15,[],0,[],[],[],[],false,[],[],[],[]⟩
def Pe (x:Int):List (Nat×LoopAnn):=[(0,⟨Unit,Int×(List Int),[0,2],fun e x=>[.val (.i .u64) x.1,.lst 13],fun e x=>[(13,.slot 2,.lst 3 (.i .i64) x.2 (List.isEmpty x.2))]⟩)]
theorem Ps (d:Int):gwp (NA) (Pe d) c87 0 (YU [.tmp 2] (UE d) (UA d)) (Qh 15 (AL.can Nz d))=W3 d:=by kernel_rfl
abbrev Pf:Prop:=OkC Tryz.prog 87 WA
theorem P9 (h:∀ (x:Int),(0≤x∧x≤1048576)→W3 x):OkC Tryz.prog 87 WA :=
 QB Z25 mixed (C:=NA) (V:=fun (d:Int)=>W3 d) ⟨(.cons VI .nil),XsOk.nil,ItsOk.nil,YlOk.nil,IysOk.nil,XfOk.nil⟩ (Ps) fun d hp=>h d hp
theorem NH:Pf:=P9 fun x h=>by
 obtain⟨h1,h2⟩:=h;unfold W3;(try delta lI gD sT I64);obtain⟨n,rfl⟩:=Int.eq_ofNat_of_zero_le h1;rw[Int.toNat_natCast];have fm:=Q4x n;refine⟨(),((n:Int),[]),(by and_intros<;>first|rfl|trivial|simp),?_⟩;refine⟨fun d=>∃ s:Nat,d.1=s∧s≤n∧d.2++Qw s=Qw n,fun d=>d.1.toNat,⟨n,rfl,Nat.le_refl _,rfl⟩,?_⟩;rintro⟨_,L⟩ ⟨s,rfl,i1,i2⟩;dsimp only at i2 ⊢;simp only[bne_iff_ne,bne_eq_false_iff_eq,ne_eq,Int.toNat_natCast];refine⟨fun h0=>?_,fun h0=>?_⟩
 ·have hs:0<s:=by omega
  have e1:(s:Int)-1=((s-1:Nat):Int):=by omega
  have bG:=ES hs;have rj:L.length+1≤n:=by have:=congrArg List.length i2;rw[bG,List.length_append,List.length_cons] at this;omega
  have hle:=Nat.and_le_right (n:=s) (m:=s-1);refine⟨⟨by omega,by omega⟩,by simp only[List.length_cons,List.length_nil];omega,by rw[Du];omega,(((s &&& (s-1):Nat):Int),L++[((tzN s:Nat):Int)]),?_,⟨s &&& (s-1),rfl,by omega,?_⟩,?_⟩
  ·rw[e1,Od (by omega) (by omega)];have:(L++[((tzN s:Nat):Int)]).isEmpty=false:=by simp
   and_intros<;>first|rfl|trivial|exact this.symm
  ·dsimp only;rw[←i2,bG,List.append_assoc];rfl
  ·dsimp only;omega
 ·have:s=0:=by omega
  subst this;rw[Q1d,List.append_nil] at i2;subst i2;and_intros<;>first|rfl|trivial
def Y9:AL ((Int×Int×Int×Int)×List (Int×(Int×Int)×Int)):=(.cons (.agg (.cons (.k (.i .i64)) (.cons (.k (.i .i64)) (.cons (.k (.i .i64)) (.one (.k (.i .i64))))))) (.one (.ptr (.one (.k (.list (.pair (.i .i64) (.pair (.pair (.i .i64) (.i .i64)) (.i .i64)))))))))
def N0 (d:(Int×Int×Int×Int)×List (Int×(Int×Int)×Int)):Prop:=d.2≠[]
def Wy (d:(Int×Int×Int×Int)×List (Int×(Int×Int)×Int)):SV:=.val .bo (d.1.1 != (d.2.getD 0 J_).1)
def WC (d:(Int×Int×Int×Int)×List (Int×(Int×Int)×Int)):List OB:=[]
def Xl:CSp:=Wi Y9 N0 Wy WC
def ZH (lc:Int) (lo:Int) (hi:Int) (lg:Int) (l:List (Int×(Int×Int)×Int)):Prop :=
 (0≤(0:Int))∧((0:Int)<(List.length l))∧((lc != (gD l (0:Int) (0,((0,0),0))).1)=(lc != (l.getD 0 J_).1)∧(True))
def Y4:Cx:=⟨[],[],11,[],0,[],[],[],[],false,[],[],[],[]⟩
def M4 (lc:Int) (lo:Int) (hi:Int) (lg:Int) (l:List (Int×(Int×Int)×Int)):List (Nat×LoopAnn):=[]
theorem NP (d:(Int×Int×Int×Int)×List (Int×(Int×Int)×Int)):gwp (Y4) (M4 d.1.1 d.1.2.1 d.1.2.2.1 d.1.2.2.2 d.2) Z5q 0 (YU [.tmp 3] (Wy d) (WC d)) (Qh 11 (AL.can Y9 d))=ZH d.1.1 d.1.2.1 d.1.2.2.1 d.1.2.2.2 d.2:=by kernel_rfl
abbrev NY:Prop:=OkC Tryz.prog 118 Xl
theorem NZ (h:∀ (lc:Int) (lo:Int) (hi:Int) (lg:Int) (l:List (Int×(Int×Int)×Int)),(l≠[])→ZH lc lo hi lg l):OkC Tryz.prog 118 Xl :=
 QB Q71 mixed (C:=Y4) (V:=fun (d:(Int×Int×Int×Int)×List (Int×(Int×Int)×Int))=>ZH d.1.1 d.1.2.1 d.1.2.2.1 d.1.2.2.2 d.2) ⟨.nil,XsOk.nil,ItsOk.nil,YlOk.nil,IysOk.nil,XfOk.nil⟩ (NP) fun d hp=>h d.1.1 d.1.2.1 d.1.2.2.1 d.1.2.2.2 d.2 hp
theorem M5:NY:=NZ fun lc lo hi lg l h=>by unfold ZH;(try delta lI gD sT I64);have hp:0<l.length:=List.length_pos_iff.2 h;refine⟨by omega,by omega,?_⟩;and_intros<;>first|rfl|trivial
def Ki:AL (((List (Int×(Int×Int)×Int))×Int)×Int):=(.cons (.agg (.cons (.k (.list (.pair (.i .i64) (.pair (.pair (.i .i64) (.i .i64)) (.i .i64))))) (.one (.k (.i .i64))))) (.one (.k (.i .u64))))
def MB (d:((List (Int×(Int×Int)×Int))×Int)×Int):Prop:=d.1.1.length≤12∧(∀ y∈d.1.1,Xd y=true)∧0<d.2∧d.2<2 ^ d.1.1.length
def Y_ (d:((List (Int×(Int×Int)×Int))×Int)×Int):SV:=.val .bo (Kj d.1.1 d.1.2 (Qw d.2.toNat))
def YW (d:((List (Int×(Int×Int)×Int))×Int)×Int):List OB:=[]
def JH:CSp:=Wi Ki MB Y_ YW
def Jg (l:List (Int×(Int×Int)×Int)) (tl:Int) (sx:Int):Prop :=
 (0≤sx∧sx≤1048576)∧∃ (e4:Unit) (d40:(List (Int×(Int×Int)×Int))×Int),((True∧True∧True∧(lI (Qw sx.toNat))=(lI (Qw sx.toNat))∧(0:Int)=d40.2∧True)∧((l=l∧tl=tl∧(([]:List SV)=[]))∧(True∧(([]:List SV)=[]))∧(d40.1=[]∧(List.isEmpty d40.1)=true)∧((Qw sx.toNat)=(Qw sx.toNat)∧(Qw sx.toNat).isEmpty=(List.isEmpty (Qw sx.toNat)))∧True)) ∧
 LoopP (fun (d4:(List (Int×(Int×Int)×Int))×Int) (q4:((List (Int×(Int×Int)×Int))×Int)→Prop) =>
  ((decide (d4.2<(lI (Qw sx.toNat))))=true →
   (0≤d4.2)∧(d4.2<(List.length (Qw sx.toNat)))∧(0≤(gD (Qw sx.toNat) d4.2 0))∧((gD (Qw sx.toNat) d4.2 0)<(List.length l))∧(((List.length d4.1)+(List.length [((gD l (gD (Qw sx.toNat) d4.2 0) (0,((0,0),0))).1,(((gD l (gD (Qw sx.toNat) d4.2 0) (0,((0,0),0))).2.1.1,(gD l (gD (Qw sx.toNat) d4.2 0) (0,((0,0),0))).2.1.2),(gD l (gD (Qw sx.toNat) d4.2 0) (0,((0,0),0))).2.2))]))*32≤70368744177664)∧(I64 (d4.2+(1:Int)))∧(∃ d5:(List (Int×(Int×Int)×Int))×Int,((True∧True∧True∧(lI (Qw sx.toNat))=(lI (Qw sx.toNat))∧(d4.2+(1:Int))=d5.2∧True)∧((l=l∧tl=tl∧(([]:List SV)=[]))∧(True∧(([]:List SV)=[]))∧((d4.1++[((gD l (gD (Qw sx.toNat) d4.2 0) (0,((0,0),0))).1,(((gD l (gD (Qw sx.toNat) d4.2 0) (0,((0,0),0))).2.1.1,(gD l (gD (Qw sx.toNat) d4.2 0) (0,((0,0),0))).2.1.2),(gD l (gD (Qw sx.toNat) d4.2 0) (0,((0,0),0))).2.2))])=d5.1∧false=(List.isEmpty d5.1))∧((Qw sx.toNat)=(Qw sx.toNat)∧(List.isEmpty (Qw sx.toNat))=(List.isEmpty (Qw sx.toNat)))∧True))∧q4 d5)) ∧
  ((decide (d4.2<(lI (Qw sx.toNat))))=false →
   (d4.1.length≤1000000∧∀ x∈d4.1,(fun (x1:Int×(Int×Int)×Int)=>d4.1≠[]) x)∧((!(d4.1.any (fun (x1:Int×(Int×Int)×Int)=>(x1.1 != (d4.1.getD 0 J_).1))))=true→d4.1≠[]∧d4.1.length≤1000∧∀ x∈d4.1,Xd x=true)∧(((!(d4.1.any (fun (x1:Int×(Int×Int)×Int)=>(x1.1 != (d4.1.getD 0 J_).1))))&&(decide (((Q70 d4.1).2)≤tl)))=(Kj l tl (Qw sx.toNat))∧(True)))) d40
def Ke:Cx:=⟨[(64,(.pair (.i .i64) (.pair (.pair (.i .i64) (.i .i64)) (.i .i64))))],[(87,WA),(94,Qa),(118,Xl),(59,U9)],38,[],0,[],[],[],[],false,[],[],[],[]⟩
def GF (l:List (Int×(Int×Int)×Int)) (tl:Int) (sx:Int):List (Nat×LoopAnn):=[(0,⟨Unit,(List (Int×(Int×Int)×Int))×Int,[2,5,10,11,12],fun e x=>[.box 2 0,.box 5 0,.lst 10,.val (.i .i64) (((List.length (Qw sx.toNat)):Nat):Int),.val (.i .i64) x.2],fun e x=>[(2,.slot 2,.cells [.val (.list (.pair (.i .i64) (.pair (.pair (.i .i64) (.i .i64)) (.i .i64)))) l,.val (.i .i64) tl] (some 113)),(5,.slot 5,.cells [.lst 23] (some 26)),(23,.cell 5 0,.lst 64 (.pair (.i .i64) (.pair (.pair (.i .i64) (.i .i64)) (.i .i64))) x.1 (List.isEmpty x.1)),(10,.slot 10,.lst 3 (.i .i64) (Qw sx.toNat) (List.isEmpty (Qw sx.toNat)))]⟩)]
theorem GH (d:((List (Int×(Int×Int)×Int))×Int)×Int):gwp (Ke) (GF d.1.1 d.1.2 d.2) c89 0 (YU [.tmp 4] (Y_ d) (YW d)) (Qh 38 (AL.can Ki d))=Jg d.1.1 d.1.2 d.2:=by kernel_rfl
abbrev GB:Prop:=OkC Tryz.prog 89 JH
theorem Gz (h:∀ (l:List (Int×(Int×Int)×Int)) (tl:Int) (sx:Int),(l.length≤12∧(∀ y∈l,Xd y=true)∧0<sx∧sx<2 ^ l.length)→Jg l tl sx):OkC Tryz.prog 89 JH :=
 QB Z0w mixed (C:=Ke) (V:=fun (d:((List (Int×(Int×Int)×Int))×Int)×Int)=>Jg d.1.1 d.1.2 d.2) ⟨(.cons NH (.cons Qz (.cons M5 (.cons TP .nil)))),XsOk.nil,ItsOk.nil,YlOk.nil,IysOk.nil,XfOk.nil⟩ (GH) fun d hp=>h d.1.1 d.1.2 d.2 hp
theorem Kh:GB:=Gz fun l tl sx h=>by
 obtain⟨h1,h2,h3,h4⟩:=h;obtain⟨n,rfl⟩:=Int.eq_ofNat_of_zero_le (show 0≤sx by omega);have hp:(2:Int) ^ l.length=((2 ^ l.length:Nat):Int):=by simp
 have dO:2 ^ l.length≤2 ^ 12:=Nat.pow_le_pow_right (by omega) h1;have mB:(2:Nat) ^ 12=4096:=rfl;rw[hp] at h4;have hn:n<2 ^ l.length:=by omega
 unfold Jg;(try delta lI gD sT I64);rw[Int.toNat_natCast];have ah:=FP hn (by omega);have fm:=LS hn (by omega);have aC:=Q1r (show 0<n by omega);generalize Qw n=S at *
 have oB:Uf l S≠[]:=by simpa [Uf] using aC
 have rk:=Q4r h2 ah;have aW:∀ k,(Uf l (S.take k)).length=min k S.length:=fun k=>by simp[Uf]
 simp only[decide_eq_true_eq,decide_eq_false_iff_not];refine⟨⟨by omega,by omega⟩,(),([],0),(by and_intros<;>first|rfl|trivial|simp),?_⟩;refine LoopP.count2 S.length (fun k L=>L=Uf l (S.take k)) rfl fun k L hk hJ q hq=>?_;subst hJ;dsimp only;have hd:∀ j,l.getD j (0,((0,0),0))=l.getD j J_:=fun _=>rfl;simp only[Int.toNat_natCast,hd];refine⟨fun jY=>?_,fun bh=>?_⟩
 ·have py:k<S.length:=by omega
  have hm:=ah _ (by rw[Q6 py];exact List.getElem_mem py:S.getD k 0∈S);refine⟨by omega,jY,hm.1,hm.2,by simp only[aW,List.length_cons,List.length_nil];omega,by rw[QQ];omega,(Uf l (S.take (k+1)),(k:Int)+1),?_,hq _ py rfl⟩;rw[OQ py];have:((Uf l (S.take k)++[l.getD (S.getD k 0).toNat J_]).isEmpty)=false:=by simp
  and_intros<;>first|rfl|trivial|exact this.symm
 ·have:k=S.length:=by omega
  subst this;have aV:=aW S.length;rw[List.take_length] at *
  refine⟨⟨by omega,fun _ _=>oB⟩,fun _=>⟨oB,by omega,rk⟩,?_⟩;and_intros<;>first|rfl|trivial
def Nm:AL (Int):=(.one (.k (.i .i64)))
def H8 (d:Int):Prop:=True
def UM (d:Int):SV:=.val .bo false
def UN (d:Int):List OB:=[]
def WH:CSp:=Wi Nm H8 UM UN
def W1 (a:Int):Prop :=
 ((a != a)=false∧(True))
def Nq:Cx:=⟨[],[],6,[],0,[],[],[],[],false,[],[],[],[]⟩
def PH (a:Int):List (Nat×LoopAnn):=[]
theorem Pg (d:Int):gwp (Nq) (PH d) Z4r 0 (YU [.tmp 2] (UM d) (UN d)) (Qh 6 (AL.can Nm d))=W1 d:=by kernel_rfl
abbrev P8:Prop:=OkC Tryz.prog 119 WH
theorem Pz (h:∀ (a:Int),(True)→W1 a):OkC Tryz.prog 119 WH :=
 QB Q6c mixed (C:=Nq) (V:=fun (d:Int)=>W1 d) ⟨.nil,XsOk.nil,ItsOk.nil,YlOk.nil,IysOk.nil,XfOk.nil⟩ (Pg) fun d hp=>h d hp
theorem Nx:P8:=Pz fun a _=>by unfold W1;(try delta lI gD sT I64);simp
def VT:AL (Int×Int):=(.cons (.k (.i .i64)) (.one (.k (.i .i64))))
def Dr (d:Int×Int):Prop:=True
def KS (d:Int×Int):SV:=.val (.i .i64) (BJ d.1 d.2)
def V9 (d:Int×Int):List OB:=[]
def Xz:CSp:=Wi VT Dr KS V9
def X9 (a:Int) (b:Int):Prop :=
 (True)∧(True)∧(false=true →
  (false=true →
   ((0:Int)=(BJ a b)∧(True))) ∧
  (false=false →
   ((-1:Int)=(BJ a b)∧(True)))) ∧
 (false=false →
  (false=true →
   ((1:Int)=(BJ a b)∧(True))) ∧
  (false=false →
   ((decide (a<b))=true →
    ((-1:Int)=(BJ a b)∧(True))) ∧
   ((decide (a<b))=false →
    ((decide (a > b))=true →
     ((1:Int)=(BJ a b)∧(True))) ∧
    ((decide (a > b))=false →
     ((0:Int)=(BJ a b)∧(True))))))
def VV:Cx:=⟨[],[(119,WH)],20,[],0,[],[],[],[],false,[],[],[],[]⟩
def BP (a:Int) (b:Int):List (Nat×LoopAnn):=[]
theorem BQ (d:Int×Int):gwp (VV) (BP d.1 d.2) c91 0 (YU [.tmp 4] (KS d) (V9 d)) (Qh 20 (AL.can VT d))=X9 d.1 d.2:=by kernel_rfl
abbrev Bp:Prop:=OkC Tryz.prog 91 Xz
theorem BI (h:∀ (a:Int) (b:Int),(True)→X9 a b):OkC Tryz.prog 91 Xz :=
 QB Q96 mixed (C:=VV) (V:=fun (d:Int×Int)=>X9 d.1 d.2) ⟨(.cons Nx .nil),XsOk.nil,ItsOk.nil,YlOk.nil,IysOk.nil,XfOk.nil⟩ (BQ) fun d hp=>h d.1 d.2 hp
theorem VR:Bp:=BI fun a b _=>by
 unfold X9;(try delta lI gD sT I64);simp only[decide_eq_true_eq,decide_eq_false_iff_not,true_and,and_true,decide_eq_true_eq,decide_eq_false_iff_not,gt_iff_lt,false_implies,Bool.false_eq_true,forall_const];unfold BJ;refine⟨fun h=>?_,fun h=>⟨fun h2=>?_,fun h2=>?_⟩⟩
 ·rw[if_pos h]
 ·rw[if_neg h,if_pos h2]
 ·rw[if_neg h,if_neg h2]
def Bi:AL (List Int):=(.one (.k (.list (.i .i64))))
def Sj (d:List Int):Prop:=d.length≤1000
def Df (d:List Int):SV:=.val (.i .i64) (orI d)
def D9 (d:List Int):List OB:=[]
def Mt:CSp:=Wi Bi Sj Df D9
def Kq (l:List Int):Prop :=
 ∃ (e2:Unit) (d20:Int),(((0:Int)=(0:Int)∧l=l∧(lI l)=(lI l)∧(0:Int)=d20∧True)∧(True)) ∧
 LoopP (fun (d2:Int) (q2:(Int)→Prop) =>
  ((decide (d2<(lI l)))=true →
   (0≤d2)∧(d2<(List.length l))∧(((gD l d2 0) != (0:Int))=true →
    ((gD l d2 0)=(orI l)∧(True))) ∧
   (((gD l d2 0) != (0:Int))=false →
    (I64 (d2+(1:Int)))∧(∃ d3:Int,(((0:Int)=(0:Int)∧l=l∧(lI l)=(lI l)∧(d2+(1:Int))=d3∧True)∧(True))∧q2 d3))) ∧
  ((decide (d2<(lI l)))=false →
   ((0:Int)=(orI l)∧(True)))) d20
def B8:Cx:=⟨[],[],18,[],0,[],[],[],[],false,[],[],[],[]⟩
def A6 (l:List Int):List (Nat×LoopAnn):=[(0,⟨Unit,Int,[3,6,7,8],fun e x=>[.val (.i .i64) (0:Int),.val (.list (.i .i64)) l,.val (.i .i64) (((List.length l):Nat):Int),.val (.i .i64) x],fun e x=>[]⟩)]
theorem Ah (d:List Int):gwp (B8) (A6 d) c90 0 (YU [.tmp 2] (Df d) (D9 d)) (Qh 18 (AL.can Bi d))=Kq d:=by kernel_rfl
abbrev CS:Prop:=OkC Tryz.prog 90 Mt
theorem CA (h:∀ (l:List Int),(l.length≤1000)→Kq l):OkC Tryz.prog 90 Mt :=
 QB Z2e mixed (C:=B8) (V:=fun (d:List Int)=>Kq d) ⟨.nil,XsOk.nil,ItsOk.nil,YlOk.nil,IysOk.nil,XfOk.nil⟩ (Ah) fun d hp=>h d hp
theorem Af:CS:=CA fun l h=>by
 unfold Kq;(try delta lI gD sT I64);simp only[decide_eq_true_eq,decide_eq_false_iff_not];refine⟨(),0,(by and_intros<;>first|rfl|trivial|simp),?_⟩;refine LoopP.count l.length (fun k=>∀ j,j<k→l.getD j 0=0) (fun j hj=>by omega) fun k hk hJ q hq=>?_;simp only[Int.toNat_natCast];refine⟨fun ah=>?_,fun bh=>?_⟩
 ·have aP:k<l.length:=by omega
  refine⟨by omega,ah,fun hx=>?_,fun hx=>⟨by rw[QQ];omega,_,(by and_intros<;>first|rfl|trivial|simp),hq aP fun j hj=>?_⟩⟩
  ·have hf:l.find? (fun x=>x != 0)=some l[k]:=by
    rw[List.find?_eq_some_iff_getElem];rw[Q6 aP] at hx;refine⟨hx,k,aP,rfl,fun j hj=>?_⟩;have:=hJ j hj;rw[Q6 (by omega)] at this;simp[this]
   refine⟨?_,trivial⟩;unfold orI;rw[hf,Q6 aP];rfl
  ·rcases Nat.lt_succ_iff_lt_or_eq.1 hj with hj|rfl
   ·exact hJ j hj
   ·simpa using hx
 ·have hf:l.find? (fun x=>x != 0)=none:=by
   rw[List.find?_eq_none];intro x hx;obtain⟨j,hj,rfl⟩:=List.getElem_of_mem hx;have:=hJ j (by omega);rw[Q6 hj] at this;simp[this]
  refine⟨?_,trivial⟩;unfold orI;rw[hf];rfl
def X_:AL (List Int×List Int):=(.cons (.k (.list (.i .i64))) (.one (.k (.list (.i .i64)))))
def VA (d:List Int×List Int):Prop:=d.1.length≤1000∧d.2.length≤1000
def XD (d:List Int×List Int):SV:=.val (.i .i64) (H4 d.1 d.2)
def XC (d:List Int×List Int):List OB:=[]
def Zd:CSp:=Wi X_ VA XD XC
def Z8 (a:List Int) (b:List Int):Prop :=
 ∃ (e2:Unit) (d20:Int),((a=a∧b=b∧a=a∧(lI a)=(lI a)∧(0:Int)=d20∧True)∧(True)) ∧
 LoopP (fun (d2:Int) (q2:(Int)→Prop) =>
  ((decide (d2<(lI a)))=true →
   (0≤d2)∧(d2<(List.length a))∧((decide (d2≥(lI b)))=true →
    ((1:Int)=(H4 a b)∧(True))) ∧
   ((decide (d2≥(lI b)))=false →
    (0≤d2)∧(d2<(List.length b))∧(True)∧(((BJ (gD a d2 0) (gD b d2 0)) != (0:Int))=true →
     ((BJ (gD a d2 0) (gD b d2 0))=(H4 a b)∧(True))) ∧
    (((BJ (gD a d2 0) (gD b d2 0)) != (0:Int))=false →
     (I64 (d2+(1:Int)))∧(∃ d3:Int,((a=a∧b=b∧a=a∧(lI a)=(lI a)∧(d2+(1:Int))=d3∧True)∧(True))∧q2 d3)))) ∧
  ((decide (d2<(lI a)))=false →
   ((decide ((lI a)<(lI b)))=true →
    ((-1:Int)=(H4 a b)∧(True))) ∧
   ((decide ((lI a)<(lI b)))=false →
    ((0:Int)=(H4 a b)∧(True))))) d20
def XZ:Cx:=⟨[],[(91,Xz)],36,[],0,[],[],[],[],false,[],[],[],[]⟩
def Un (a:List Int) (b:List Int):List (Nat×LoopAnn):=[(0,⟨Unit,Int,[0,1,9,10,11],fun e x=>[.val (.list (.i .i64)) a,.val (.list (.i .i64)) b,.val (.list (.i .i64)) a,.val (.i .i64) (((List.length a):Nat):Int),.val (.i .i64) x],fun e x=>[]⟩)]
theorem Ul (d:List Int×List Int):gwp (XZ) (Un d.1 d.2) c92 0 (YU [.tmp 4] (XD d) (XC d)) (Qh 36 (AL.can X_ d))=Z8 d.1 d.2:=by kernel_rfl
abbrev Ue:Prop:=OkC Tryz.prog 92 Zd
theorem U7 (h:∀ (a:List Int) (b:List Int),(a.length≤1000∧b.length≤1000)→Z8 a b):OkC Tryz.prog 92 Zd :=
 QB Z21 mixed (C:=XZ) (V:=fun (d:List Int×List Int)=>Z8 d.1 d.2) ⟨(.cons VR .nil),XsOk.nil,ItsOk.nil,YlOk.nil,IysOk.nil,XfOk.nil⟩ (Ul) fun d hp=>h d.1 d.2 hp
theorem XV:Ue:=U7 fun a b h=>by
 obtain⟨h1,h2⟩:=h;unfold Z8;(try delta lI gD sT I64);simp only[decide_eq_true_eq,decide_eq_false_iff_not];refine⟨(),0,(by and_intros<;>first|rfl|trivial|simp),?_⟩;refine LoopP.count a.length (fun k=>k≤b.length∧∀ j,j<k→a.getD j 0=b.getD j 0) ⟨by omega,fun j hj=>by omega⟩ fun k hk hJ q hq=>?_;obtain⟨j1,j2⟩:=hJ;have hc:=F5 k hk j1 j2;simp only[Int.toNat_natCast];refine⟨fun ah=>?_,fun bh=>?_⟩
 ·have aP:k<a.length:=by omega
  rw[List.drop_eq_getElem_cons aP] at hc;refine⟨by omega,ah,fun h3=>?_,fun h3=>?_⟩
  ·rw[List.drop_eq_nil_of_le (show b.length≤k by omega)] at hc;rw[hc];exact⟨rfl,trivial⟩
  ·have oC:k<b.length:=by omega
   rw[List.drop_eq_getElem_cons oC,H4] at hc;rw[Q6 aP,Q6 oC];refine⟨by omega,by omega,trivial,fun hx=>?_,fun hx=>⟨by rw[QQ];omega,_,(by and_intros<;>first|rfl|trivial|simp),hq aP ⟨by omega,fun j hj=>?_⟩⟩⟩
   ·have hx:BJ a[k] b[k]≠0:=by simpa using hx
    rw[hc,if_pos hx];exact⟨rfl,trivial⟩
   ·rcases Nat.lt_succ_iff_lt_or_eq.1 hj with hj|rfl
    ·exact j2 j hj
    ·rw[Q6 aP,Q6 oC];exact EM.1 (by simpa using hx)
 ·have:k=a.length:=by omega
  subst this;rw[List.drop_length] at hc;refine⟨fun h3=>?_,fun h3=>?_⟩
  ·rw[List.drop_eq_getElem_cons (show a.length<b.length by omega)] at hc;rw[hc];exact⟨rfl,trivial⟩
  ·rw[List.drop_eq_nil_of_le (show b.length≤a.length by omega)] at hc;rw[hc];exact⟨rfl,trivial⟩
def B_:Cx:=⟨[(3,(.i .i64))],[(57,Km),(58,XU)],21,[],0,[],[],[],[],false,[],[],[],[]⟩
def HA:XSp:=Z36 B_ (fun _=>[]) c51 [.cell 4 true 2,.tmp 5] 21
theorem Sl:XOk Tryz.prog 51 HA:=Q24 Z0h mixed (C:=B_) ⟨(.cons G_ (.cons Vk .nil)),XsOk.nil,ItsOk.nil,YlOk.nil,IysOk.nil,XfOk.nil⟩ _
theorem Z3n:((3:Int) != 0)=true:=rfl
def CF (n m:Nat):List Int:=((List.range m).filter fun k=>n.testBit k).map fun (k:Nat)=>(k:Int)
theorem Rw:∀ {a b:List Int},a.Pairwise (·<·)→b.Pairwise (·<·)→(∀ x,x∈a↔x∈b)→a=b
 |[],[],_,_,_=>rfl
 |[],y::b,_,_,h=>by have:=(h y).2 (List.mem_cons_self ..);cases this
 |x::a,[],_,_,h=>by have:=(h x).1 (List.mem_cons_self ..);cases this
 |x::a,y::b,ha,hb,h=>by
  obtain⟨sY,qL⟩:=List.pairwise_cons.1 ha;obtain⟨bp,bW⟩:=List.pairwise_cons.1 hb;have vC:x=y:=by
   rcases List.mem_cons.1 ((h x).1 (List.mem_cons_self ..)) with e|e
   ·exact e
   ·rcases List.mem_cons.1 ((h y).2 (List.mem_cons_self ..)) with e2|e2
    ·exact e2.symm
    ·have h1:=bp x e;have h2:=sY y e2;omega
  subst vC;rw[Rw qL bW fun z=>?_];constructor
  ·intro hz;rcases List.mem_cons.1 ((h z).1 (List.mem_cons_of_mem _ hz)) with e|e
   ·have:=sY z hz;omega
   ·exact e
  ·intro hz;rcases List.mem_cons.1 ((h z).2 (List.mem_cons_of_mem _ hz)) with e|e
   ·have:=bp z hz;omega
   ·exact e
theorem Z2j {n k:Nat}(h0:0<n) (h1:n<2 ^ 64) (hk:n.testBit k=true):tzN n≤k:=by
 obtain⟨_,m,hm⟩:=Gu h0 h1;generalize tzN n=t at *
 rcases Nat.lt_or_ge k t with h|h
 ·rw[hm,Nat.testBit_two_pow_mul,decide_eq_false (show ¬ k≥t by omega)] at hk;cases hk
 ·exact h
theorem TI:∀ f n,n≤f→n<2 ^ 64→(LU f n).Pairwise (·<·)
 |0,n,_,_=>by simp[LU]
 |f+1,n,h1,h2=>by
  unfold LU;by_cases h:n=0
  ·rw[if_pos h];exact List.Pairwise.nil
  ·rw[if_neg h,List.pairwise_cons];have hle:=Nat.and_le_right (n:=n) (m:=n-1);refine⟨fun i hm=>?_,TI f _ (by omega) (by omega)⟩;obtain⟨k,rfl,hb⟩:=(P_ f _ (by omega) (by omega) _).1 hm;rw[H0 (by omega) h2] at hb;simp only[Bool.and_eq_true,Bool.not_eq_true',decide_eq_false_iff_not] at hb;have:=Z2j (by omega) h2 hb.1;omega
theorem Fb {n m:Nat}(h:n<2 ^ m) (hm:m≤64):Qw n=CF n m:=by
 have hp:2 ^ m≤2 ^ 64:=Nat.pow_le_pow_right (by omega) hm;refine Rw (TI n n (Nat.le_refl _) (by omega)) ?_ fun x=>?_
 ·unfold CF;rw[List.pairwise_map];exact(List.Pairwise.filter _ List.pairwise_lt_range).imp fun h=>by omega
 ·rw[C7 (by omega)];simp only[CF,List.mem_map,List.mem_filter,List.mem_range];constructor
  ·rintro⟨k,rfl,hb⟩;have:k<m:=by
    rcases Nat.lt_or_ge k m with h2|h2
    ·exact h2
    ·rw[Nat.testBit_lt_two_pow (Nat.lt_of_lt_of_le h (Nat.pow_le_pow_right (by omega) h2))] at hb;cases hb
   exact⟨k,⟨this,hb⟩,rfl⟩
  ·rintro⟨k,⟨_,hb⟩,rfl⟩;exact⟨k,rfl,hb⟩
def Q1y (a b:Lot) (t:Int):Bool:=(a.1==b.1)&&decide (FJ a b≤t)&&decide (FJ a a≤t)&&decide (FJ b b≤t)
def T9 (p:List Lot) (t:Int):Bool:=(List.range p.length).all fun i=>(List.range p.length).all fun k=>Q1y (p.getD i J_) (p.getD k J_) t
theorem Q03 {p:List Lot}{t:Int}:T9 p t=true↔∀ i,i<p.length→∀ k,k<p.length→(p.getD i J_).1=(p.getD k J_).1∧FJ (p.getD i J_) (p.getD k J_)≤t:=by simp only[T9,List.all_eq_true,List.mem_range,Q1y,Bool.and_eq_true,beq_iff_eq,decide_eq_true_eq];exact⟨fun h i hi k hk=>⟨(h i hi k hk).1.1.1,(h i hi k hk).1.1.2⟩,fun h i hi k hk=>⟨⟨⟨(h i hi k hk).1,(h i hi k hk).2⟩,(h i hi i hi).2⟩,(h k hk k hk).2⟩⟩
theorem Q1l {p:List Lot}{t:Int}(h:p≠[]):Q1x t p=T9 p t:=by
 have hp:1≤p.length:=List.length_pos_iff.2 h;obtain⟨a,_,_,⟨i3,b3,c3⟩,⟨i4,b4,c4⟩⟩:=TH h p.length hp (Nat.le_refl _);rw[Bool.eq_iff_iff,Q03];unfold Q1x Q70;simp only[Bool.and_eq_true,Bool.not_eq_true',decide_eq_true_eq,List.any_eq_false,bne_iff_ne,ne_eq,Decidable.not_not];generalize No p p.length=S at *
 constructor
 ·rintro⟨h1,h2⟩ i hi k hk;have e1:=h1 _ (by rw[Q6 hi];exact List.getElem_mem hi:p.getD i J_∈p);have e2:=h1 _ (by rw[Q6 hk];exact List.getElem_mem hk:p.getD k J_∈p);have u:=a i hi;have v:=a k hk;refine⟨e1.trans e2.symm,?_⟩;unfold FJ;rw[Nf];omega
 ·intro h1;refine⟨fun x hx=>?_,?_⟩
  ·obtain⟨i,hi,rfl⟩:=List.getElem_of_mem hx;have:=(h1 i hi 0 (by omega)).1
   rwa [Q6 hi] at this
  ·have:=(h1 i4 b4 i3 b3).2;unfold FJ at this;rw[Nf] at this;omega
def AA:XSp:=fun _ _ _ _=>False
theorem UX {P:Program}{f:Nat}:XOk P f AA:=fun _ _ _ _ _ _ _ _ _ _ _ _ _ _ hx _=>hx.elim
def len8T:List UInt8:=[0,1,2,2,3,3,3,3,4,4,4,4,4,4,4,4,5,5,5,5,5,5,5,5,5,5,5,5,5,5,5,5,6,6,6,6,6,6,6,6,6,6,6,6,6,6,6,6,6,6,6,6,6,6,6,6,6,6,6,6,6,6,6,6,7,7,7,7,7,7,7,7,7,7,7,7,7,7,7,7,7,7,7,7,7,7,7,7,7,7,7,7,7,7,7,7,7,7,7,7,7,7,7,7,7,7,7,7,7,7,7,7,7,7,7,7,7,7,7,7,7,7,7,7,7,7,7,7,8,8,8,8,8,8,8,8,8,8,8,8,8,8,8,8,8,8,8,8,8,8,8,8,8,8,8,8,8,8,8,8,8,8,8,8,8,8,8,8,8,8,8,8,8,8,8,8,8,8,8,8,8,8,8,8,8,8,8,8,8,8,8,8,8,8,8,8,8,8,8,8,8,8,8,8,8,8,8,8,8,8,8,8,8,8,8,8,8,8,8,8,8,8,8,8,8,8,8,8,8,8,8,8,8,8,8,8,8,8,8,8,8,8,8,8,8,8,8,8,8,8,8,8,8,8,8,8]
def Ly (x:Int):Int:=((UInt8.toNat (List.getD len8T (Int.toNat x) 0):Nat):Int)
def K6 (p:Int×Int):Int:=BJ p.1 p.2
def Al {α:Type}[Inhabited α] (lt:α→α→Bool) (a:Nat):Nat→List α→List α
 |0,xs=>xs
 |j+1,xs=>if a<j+1∧lt (xs.getD (j+1) default) (xs.getD j default)=true then Al lt a j ((xs.set (j+1) (xs.getD j default)).set j (xs.getD (j+1) default)) else xs
def I9 {α:Type}[Inhabited α] (lt:α→α→Bool) (a:Nat):Nat→List α→List α
 |0,xs=>xs
 |n+1,xs=>Al lt a (a+1+n) (I9 lt a n xs)
def KR {α:Type}[Inhabited α] (f:α×α→Int) (xs:List α) (a b:Nat):List α:=I9 (fun x y=>decide (f (x,y)<0)) a (b-a-1) xs
section
variable {α:Type}[Inhabited α] {lt:α→α→Bool}
theorem Et {xs:List α}{j:Nat}(h:j+1<xs.length):((xs.set (j+1) (xs.getD j default)).set j (xs.getD (j+1) default)).Perm xs:=by rw[Q6 (show j<xs.length by omega),Q6 h];exact List.set_set_perm h (by omega)
theorem EI {a:Nat}:∀ j {xs:List α},j<xs.length→(Al lt a j xs).Perm xs
 |0,_,_=>.refl _
 |j+1,xs,h=>by
  unfold Al;split
  ·exact(EI j (by simp;omega)).trans (Et h)
  ·exact .refl _
theorem UG {a:Nat}{xs:List α}:∀ n,a+n<xs.length∨n=0→(I9 lt a n xs).Perm xs
 |0,_=>.refl _
 |n+1,h=>by have ih:=UG (a:=a) (xs:=xs) n (by omega);unfold I9;exact(EI _ (by rw[ih.length_eq];omega)).trans ih
theorem JR {f:α×α→Int}{xs:List α}{a b:Nat}(h:b≤xs.length):(KR f xs a b).Perm xs:=UG _ (by omega)
theorem Q2d {a j:Nat}{xs:List α}(hj:a<j) (h:lt (xs.getD j default) (xs.getD (j-1) default)=true):Al lt a j xs=Al lt a (j-1) ((xs.set j (xs.getD (j-1) default)).set (j-1) (xs.getD j default)):=by obtain⟨k,rfl⟩:∃ k,j=k+1:=⟨j-1,by omega⟩;rw[Nat.add_sub_cancel] at h ⊢;rw[Al,if_pos ⟨hj,h⟩]
theorem Q1j {a j:Nat}{xs:List α}(h:¬ (a<j∧lt (xs.getD j default) (xs.getD (j-1) default)=true)):Al lt a j xs=xs:=by
 cases j with
 |zero=>rfl
 |succ k=>rw[Nat.add_sub_cancel] at h;rw[Al,if_neg h]
theorem IA {xs:List α}{j q:Nat}(h:j+1<xs.length):((xs.set (j+1) (xs.getD j default)).set j (xs.getD (j+1) default)).getD q default=if q=j then xs.getD (j+1) default else if q=j+1 then xs.getD j default else xs.getD q default:=by
 simp only[List.getD_eq_getElem?_getD,List.getElem?_set,List.length_set];by_cases h1:j=q
 ·subst h1;rw[if_pos rfl,if_pos (by omega),if_pos rfl];rfl
 ·rw[if_neg h1,if_neg (show ¬ q=j from fun e=>h1 e.symm)];by_cases h2:j+1=q
  ·subst h2;rw[if_pos rfl,if_pos h,if_pos rfl];rfl
  ·rw[if_neg h2,if_neg (show ¬ q=j+1 from fun e=>h2 e.symm)]
def Q7e (lt:α→α→Bool) (i:Nat) (xs:List α):Prop:=∀ p q,p<q→q≤i→lt (xs.getD q default) (xs.getD p default)=false
theorem At (has:∀ x y,lt x y=true→lt y x=false) (mb:∀ x y z,lt y x=false→lt z y=false→lt z x=false) {i:Nat}:∀ j {xs:List α},j≤i→i<xs.length→(∀ p q,p<q→q≤i→q≠j→lt (xs.getD q default) (xs.getD p default)=false)→Q7e lt i (Al lt 0 j xs)
 |0,xs,_,_,h=>fun p q h1 h2=>by rw[Al];exact h p q h1 h2 (by omega)
 |j+1,xs,hj,hi,h=>by
  rw[Al];split
  ·rename_i hc;refine At has mb j (by omega) (by simp;exact hi) fun p q h1 h2 h3=>?_;rw[IA (by omega),IA (by omega),if_neg h3];by_cases hq:q=j+1
   ·rw[if_pos hq];by_cases hp:p=j
    ·rw[if_pos hp];exact has _ _ hc.2
    ·rw[if_neg hp,if_neg (by omega)];exact h p j (by omega) (by omega) (by omega)
   ·rw[if_neg hq];by_cases hp:p=j
    ·rw[if_pos hp];exact h (j+1) q (by omega) h2 (by omega)
    ·rw[if_neg hp];by_cases dO:p=j+1
     ·rw[if_pos dO];exact h j q (by omega) h2 (by omega)
     ·rw[if_neg dO];exact h p q h1 h2 (by omega)
  ·rename_i hc;have hc:lt (xs.getD (j+1) default) (xs.getD j default)=false:=by
    cases h5:lt (xs.getD (j+1) default) (xs.getD j default) with
    |false=>rfl
    |true=>exact(hc ⟨by omega,h5⟩).elim
   intro p q h1 h2;by_cases hq:q=j+1
   ·subst hq;by_cases hp:p=j
    ·subst hp;exact hc
    ·exact mb _ _ _ (h p j (by omega) (by omega) (by omega)) hc
   ·exact h p q h1 h2 hq
theorem E3 (has:∀ x y,lt x y=true→lt y x=false) (mb:∀ x y z,lt y x=false→lt z y=false→lt z x=false) {xs:List α}:∀ n,n<xs.length→Q7e lt n (I9 lt 0 n xs)
 |0,_=>fun p q h1 h2=>by omega
 |n+1,h=>by have ih:=E3 has mb (xs:=xs) n (by omega);have hp:=UG (lt:=lt) (a:=0) (xs:=xs) n (by omega);unfold I9;rw[show 0+1+n=n+1 by omega];exact At has mb (n+1) (Nat.le_refl _) (by rw[hp.length_eq];omega) fun p q h1 h2 h3=>ih p q h1 (by omega)
theorem TX {f:α×α→Int}(has:∀ x y,f (x,y)<0→¬ f (y,x)<0) (mb:∀ x y z,¬ f (y,x)<0→¬ f (z,y)<0→¬ f (z,x)<0) (xs:List α):(KR f xs 0 xs.length).Pairwise fun x y=>¬ f (y,x)<0:=by
 cases hx:xs with
 |nil=>exact List.Pairwise.nil
 |cons x0 t =>
  have hlen:0<xs.length:=by rw[hx];simp
  rw[←hx];have h:=E3 (lt:=fun x y=>decide (f (x,y)<0)) (fun x y h=>by simpa using has x y (by simpa using h)) (fun x y z h1 h2=>by simpa using mb x y z (by simpa using h1) (by simpa using h2)) (xs:=xs) (xs.length-0-1) (by omega);have hl:=(JR (f:=f) (a:=0) (Nat.le_refl xs.length)).length_eq;refine List.pairwise_iff_getElem.2 fun p q hp hq vD=>?_;have:=h p q vD (by omega);have cL:(I9 (fun x y=>decide (f (x,y)<0)) 0 (xs.length-0-1) xs).getD q default=(KR f xs 0 xs.length)[q]:=Q6 hq;have bw:(I9 (fun x y=>decide (f (x,y)<0)) 0 (xs.length-0-1) xs).getD p default=(KR f xs 0 xs.length)[p]:=Q6 hp;rw[cL,bw] at this;simpa using this
end
theorem Bh {x y:Int}:K6 (x,y)<0↔x<y:=by unfold K6 BJ;dsimp only;split<;>(try split)<;>omega
theorem Z1u (xs:List Int):(KR K6 xs 0 xs.length).Pairwise (·≤·) :=
 (TX (f:=K6) (fun x y h h2=>by rw[Bh] at h h2;omega) (fun x y z h1 h2 h3=>by rw[Bh] at h1 h2 h3;omega) xs).imp fun h=>by rw[Bh] at h;omega
theorem Z3d {xs:List Int}(h:xs.Nodup):(KR K6 xs 0 xs.length).Pairwise (·<·):=by
 have h2:=(JR (f:=K6) (a:=0) (Nat.le_refl xs.length)).nodup_iff.2 h;exact((Z1u xs).and h2).imp fun h=>by have:=h.1;have:=h.2;omega
def Q6e (l:List Lot) (p:Int×Int):Int:=orI [BJ (l.getD p.1.toNat J_).1 (l.getD p.2.toNat J_).1,BJ (l.getD p.1.toNat J_).2.1.1 (l.getD p.2.toNat J_).2.1.1]
theorem Fl {a j:Nat}{α:Type}[Inhabited α] {f:α×α→Int}{ys T:List α}(e:Al (fun x y=>decide (f (x,y)<0)) a j ys=T) (h:¬ (a<j∧f (ys.getD j default,ys.getD (j-1) default)<0)):ys=T:=by rw[←e,Q1j];intro hh;exact h ⟨hh.1,by simpa using hh.2⟩
theorem CX {a j:Nat}{α:Type}[Inhabited α] {f:α×α→Int}{ys T:List α}(e:Al (fun x y=>decide (f (x,y)<0)) a j ys=T) (hj:a<j) (h:f (ys.getD j default,ys.getD (j-1) default)<0):Al (fun x y=>decide (f (x,y)<0)) a (j-1) ((ys.set j (ys.getD (j-1) default)).set (j-1) (ys.getD j default))=T:=by rw[←e,Q2d hj (by simpa using h)]
theorem Hg {α:Type}[Inhabited α] {xs:List α}{j:Nat}(h0:0<j) (h:j<xs.length):((xs.set j (xs.getD (j-1) default)).set (j-1) (xs.getD j default)).Perm xs:=by obtain⟨k,rfl⟩:∃ k,j=k+1:=⟨j-1,by omega⟩;exact Et h
end Go.Proofs.Tryz
namespace Go.Proofs.Tryz
open Go Go.V Go.Proofs
def Wz:AL (Int×Int×(List (Int×(Int×Int)×Int))×Int):=(.cons (.k (.i .i64)) (.cons (.k (.i .i64)) (.one (.ptr (.cons (.k (.list (.pair (.i .i64) (.pair (.pair (.i .i64) (.i .i64)) (.i .i64))))) (.one (.k (.i .i64))))))))
def Ut (d:Int×Int×(List (Int×(Int×Int)×Int))×Int):Prop:=d.2.2.1.length≤12∧(∀ y∈d.2.2.1,Xd y=true)∧0≤d.1∧d.1<d.2.2.1.length∧0≤d.2.1∧d.2.1<d.2.2.1.length
def Wf (d:Int×Int×(List (Int×(Int×Int)×Int))×Int):SV:=.val (.i .i64) (Q6e d.2.2.1 (d.1,d.2.1))
def Wn (d:Int×Int×(List (Int×(Int×Int)×Int))×Int):List OB:=[]
def ZG:CSp:=Wi Wz Ut Wf Wn
def Zm (a:Int) (b:Int) (l:List (Int×(Int×Int)×Int)) (tl:Int):Prop :=
 (0≤a)∧(a<(List.length l))∧(0≤b)∧(b<(List.length l))∧(True)∧(0≤a)∧(a<(List.length l))∧(0≤b)∧(b<(List.length l))∧(True)∧([(BJ ((gD l a (0,((0,0),0))).1) ((gD l b (0,((0,0),0))).1)),(BJ ((gD l a (0,((0,0),0))).2.1.1) ((gD l b (0,((0,0),0))).2.1.1))].length≤1000)∧((orI [(BJ ((gD l a (0,((0,0),0))).1) ((gD l b (0,((0,0),0))).1)),(BJ ((gD l a (0,((0,0),0))).2.1.1) ((gD l b (0,((0,0),0))).2.1.1))])=(Q6e l (a,b))∧(True))
def WQ:Cx:=⟨[(3,(.i .i64))],[(91,Xz),(90,Mt)],36,[],0,[],[],[],[],false,[],[],[],[]⟩
def UY (a:Int) (b:Int) (l:List (Int×(Int×Int)×Int)) (tl:Int):List (Nat×LoopAnn):=[]
theorem N2 (d:Int×Int×(List (Int×(Int×Int)×Int))×Int):gwp (WQ) (UY d.1 d.2.1 d.2.2.1 d.2.2.2) Z35 0 (YU [.tmp 5] (Wf d) (Wn d)) (Qh 36 (AL.can Wz d))=Zm d.1 d.2.1 d.2.2.1 d.2.2.2:=by kernel_rfl
abbrev U_:Prop:=OkC Tryz.prog 111 ZG
theorem UQ (h:∀ (a:Int) (b:Int) (l:List (Int×(Int×Int)×Int)) (tl:Int),(l.length≤12∧(∀ y∈l,Xd y=true)∧0≤a∧a<l.length∧0≤b∧b<l.length)→Zm a b l tl):OkC Tryz.prog 111 ZG :=
 QB Q6i mixed (C:=WQ) (V:=fun (d:Int×Int×(List (Int×(Int×Int)×Int))×Int)=>Zm d.1 d.2.1 d.2.2.1 d.2.2.2) ⟨(.cons VR (.cons Af .nil)),XsOk.nil,ItsOk.nil,YlOk.nil,IysOk.nil,XfOk.nil⟩ (N2) fun d hp=>h d.1 d.2.1 d.2.2.1 d.2.2.2 hp
theorem WT:U_:=UQ fun a b l tl h=>by obtain⟨h1,h2,h3,h4,h5,h6⟩:=h;unfold Zm;(try delta lI gD sT I64);simp only[List.length_cons,List.length_nil];and_intros<;>first|omega|trivial|rfl
def VP:AL (Int):=(.one (.k (.i .u32)))
def DK (d:Int):Prop:=False
def Vt (d:Int):SV:=.val (.i .i64) (Ly d)
def Vq (d:Int):List OB:=[]
def Ym:CSp:=Wi VP DK Vt Vq
def Wv (x:Int):Prop :=
 ((decide (x≥(65536:Int)))=true →
  (0≤(16:Int))∧((decide ((Z5 .u32 x (16:Int))≥(256:Int)))=true →
   (0≤(8:Int))∧(I64 ((16:Int)+(8:Int)))∧(InK .u8 (Z5 .u32 (Z5 .u32 x (16:Int)) (8:Int)))∧(0≤(Z5 .u32 (Z5 .u32 x (16:Int)) (8:Int)))∧((Z5 .u32 (Z5 .u32 x (16:Int)) (8:Int))<(List.length len8T))∧(I64 ((UInt8.toNat (gD len8T (Z5 .u32 (Z5 .u32 x (16:Int)) (8:Int)) 0):Nat):Int))∧(I64 (((16:Int)+(8:Int))+((UInt8.toNat (gD len8T (Z5 .u32 (Z5 .u32 x (16:Int)) (8:Int)) 0):Nat):Int)))∧((((16:Int)+(8:Int))+((UInt8.toNat (gD len8T (Z5 .u32 (Z5 .u32 x (16:Int)) (8:Int)) 0):Nat):Int))=(Ly x)∧(True))) ∧
  ((decide ((Z5 .u32 x (16:Int))≥(256:Int)))=false →
   (InK .u8 (Z5 .u32 x (16:Int)))∧(0≤(Z5 .u32 x (16:Int)))∧((Z5 .u32 x (16:Int))<(List.length len8T))∧(I64 ((UInt8.toNat (gD len8T (Z5 .u32 x (16:Int)) 0):Nat):Int))∧(I64 ((16:Int)+((UInt8.toNat (gD len8T (Z5 .u32 x (16:Int)) 0):Nat):Int)))∧(((16:Int)+((UInt8.toNat (gD len8T (Z5 .u32 x (16:Int)) 0):Nat):Int))=(Ly x)∧(True)))) ∧
 ((decide (x≥(65536:Int)))=false →
  ((decide (x≥(256:Int)))=true →
   (0≤(8:Int))∧(I64 ((0:Int)+(8:Int)))∧(InK .u8 (Z5 .u32 x (8:Int)))∧(0≤(Z5 .u32 x (8:Int)))∧((Z5 .u32 x (8:Int))<(List.length len8T))∧(I64 ((UInt8.toNat (gD len8T (Z5 .u32 x (8:Int)) 0):Nat):Int))∧(I64 (((0:Int)+(8:Int))+((UInt8.toNat (gD len8T (Z5 .u32 x (8:Int)) 0):Nat):Int)))∧((((0:Int)+(8:Int))+((UInt8.toNat (gD len8T (Z5 .u32 x (8:Int)) 0):Nat):Int))=(Ly x)∧(True))) ∧
  ((decide (x≥(256:Int)))=false →
   (InK .u8 x)∧(0≤x)∧(x<(List.length len8T))∧(I64 ((UInt8.toNat (gD len8T x 0):Nat):Int))∧(I64 ((0:Int)+((UInt8.toNat (gD len8T x 0):Nat):Int)))∧(((0:Int)+((UInt8.toNat (gD len8T x 0):Nat):Int))=(Ly x)∧(True))))
def VQ:Cx:=⟨[],[],19,[],0,[],[],[],[],false,[],[],[],[]⟩
def Bx (x:Int):List (Nat×LoopAnn):=[]
theorem BY (d:Int):gwp (VQ) (Bx d) Z4h 0 (YU [.tmp 2] (Vt d) (Vq d)) (Qh 19 (AL.can VP d))=Wv d:=by kernel_rfl
abbrev DU:Prop:=OkC Tryz.prog 153 Ym
theorem By (h:∀ (x:Int),(False)→Wv x):OkC Tryz.prog 153 Ym :=
 QB Q76 mixed (C:=VQ) (V:=fun (d:Int)=>Wv d) ⟨.nil,XsOk.nil,ItsOk.nil,YlOk.nil,IysOk.nil,XfOk.nil⟩ (BY) fun d hp=>h d hp
theorem BV:DU:=By fun x h=>h.elim
def VX:AL (Int):=(.one (.k (.i .u64)))
def Dk (d:Int):Prop:=0≤d∧d≤255
def V6 (d:Int):SV:=.val (.i .i64) (Ly d)
def Vs (d:Int):List OB:=[]
def Yp:CSp:=Wi VX Dk V6 Vs
def X6 (x:Int):Prop :=
 ((decide (x≥(4294967296:Int)))=true →
  (0≤(32:Int))∧((decide ((Z5 .u64 x (32:Int))≥(65536:Int)))=true →
   (0≤(16:Int))∧(I64 ((32:Int)+(16:Int)))∧((decide ((Z5 .u64 (Z5 .u64 x (32:Int)) (16:Int))≥(256:Int)))=true →
    (0≤(8:Int))∧(I64 (((32:Int)+(16:Int))+(8:Int)))∧(InK .u8 (Z5 .u64 (Z5 .u64 (Z5 .u64 x (32:Int)) (16:Int)) (8:Int)))∧(0≤(Z5 .u64 (Z5 .u64 (Z5 .u64 x (32:Int)) (16:Int)) (8:Int)))∧((Z5 .u64 (Z5 .u64 (Z5 .u64 x (32:Int)) (16:Int)) (8:Int))<(List.length len8T))∧(I64 ((UInt8.toNat (gD len8T (Z5 .u64 (Z5 .u64 (Z5 .u64 x (32:Int)) (16:Int)) (8:Int)) 0):Nat):Int))∧(I64 ((((32:Int)+(16:Int))+(8:Int))+((UInt8.toNat (gD len8T (Z5 .u64 (Z5 .u64 (Z5 .u64 x (32:Int)) (16:Int)) (8:Int)) 0):Nat):Int)))∧(((((32:Int)+(16:Int))+(8:Int))+((UInt8.toNat (gD len8T (Z5 .u64 (Z5 .u64 (Z5 .u64 x (32:Int)) (16:Int)) (8:Int)) 0):Nat):Int))=(Ly x)∧(True))) ∧
   ((decide ((Z5 .u64 (Z5 .u64 x (32:Int)) (16:Int))≥(256:Int)))=false →
    (InK .u8 (Z5 .u64 (Z5 .u64 x (32:Int)) (16:Int)))∧(0≤(Z5 .u64 (Z5 .u64 x (32:Int)) (16:Int)))∧((Z5 .u64 (Z5 .u64 x (32:Int)) (16:Int))<(List.length len8T))∧(I64 ((UInt8.toNat (gD len8T (Z5 .u64 (Z5 .u64 x (32:Int)) (16:Int)) 0):Nat):Int))∧(I64 (((32:Int)+(16:Int))+((UInt8.toNat (gD len8T (Z5 .u64 (Z5 .u64 x (32:Int)) (16:Int)) 0):Nat):Int)))∧((((32:Int)+(16:Int))+((UInt8.toNat (gD len8T (Z5 .u64 (Z5 .u64 x (32:Int)) (16:Int)) 0):Nat):Int))=(Ly x)∧(True)))) ∧
  ((decide ((Z5 .u64 x (32:Int))≥(65536:Int)))=false →
   ((decide ((Z5 .u64 x (32:Int))≥(256:Int)))=true →
    (0≤(8:Int))∧(I64 ((32:Int)+(8:Int)))∧(InK .u8 (Z5 .u64 (Z5 .u64 x (32:Int)) (8:Int)))∧(0≤(Z5 .u64 (Z5 .u64 x (32:Int)) (8:Int)))∧((Z5 .u64 (Z5 .u64 x (32:Int)) (8:Int))<(List.length len8T))∧(I64 ((UInt8.toNat (gD len8T (Z5 .u64 (Z5 .u64 x (32:Int)) (8:Int)) 0):Nat):Int))∧(I64 (((32:Int)+(8:Int))+((UInt8.toNat (gD len8T (Z5 .u64 (Z5 .u64 x (32:Int)) (8:Int)) 0):Nat):Int)))∧((((32:Int)+(8:Int))+((UInt8.toNat (gD len8T (Z5 .u64 (Z5 .u64 x (32:Int)) (8:Int)) 0):Nat):Int))=(Ly x)∧(True))) ∧
   ((decide ((Z5 .u64 x (32:Int))≥(256:Int)))=false →
    (InK .u8 (Z5 .u64 x (32:Int)))∧(0≤(Z5 .u64 x (32:Int)))∧((Z5 .u64 x (32:Int))<(List.length len8T))∧(I64 ((UInt8.toNat (gD len8T (Z5 .u64 x (32:Int)) 0):Nat):Int))∧(I64 ((32:Int)+((UInt8.toNat (gD len8T (Z5 .u64 x (32:Int)) 0):Nat):Int)))∧(((32:Int)+((UInt8.toNat (gD len8T (Z5 .u64 x (32:Int)) 0):Nat):Int))=(Ly x)∧(True))))) ∧
 ((decide (x≥(4294967296:Int)))=false →
  ((decide (x≥(65536:Int)))=true →
   (0≤(16:Int))∧(I64 ((0:Int)+(16:Int)))∧((decide ((Z5 .u64 x (16:Int))≥(256:Int)))=true →
    (0≤(8:Int))∧(I64 (((0:Int)+(16:Int))+(8:Int)))∧(InK .u8 (Z5 .u64 (Z5 .u64 x (16:Int)) (8:Int)))∧(0≤(Z5 .u64 (Z5 .u64 x (16:Int)) (8:Int)))∧((Z5 .u64 (Z5 .u64 x (16:Int)) (8:Int))<(List.length len8T))∧(I64 ((UInt8.toNat (gD len8T (Z5 .u64 (Z5 .u64 x (16:Int)) (8:Int)) 0):Nat):Int))∧(I64 ((((0:Int)+(16:Int))+(8:Int))+((UInt8.toNat (gD len8T (Z5 .u64 (Z5 .u64 x (16:Int)) (8:Int)) 0):Nat):Int)))∧(((((0:Int)+(16:Int))+(8:Int))+((UInt8.toNat (gD len8T (Z5 .u64 (Z5 .u64 x (16:Int)) (8:Int)) 0):Nat):Int))=(Ly x)∧(True))) ∧
   ((decide ((Z5 .u64 x (16:Int))≥(256:Int)))=false →
    (InK .u8 (Z5 .u64 x (16:Int)))∧(0≤(Z5 .u64 x (16:Int)))∧((Z5 .u64 x (16:Int))<(List.length len8T))∧(I64 ((UInt8.toNat (gD len8T (Z5 .u64 x (16:Int)) 0):Nat):Int))∧(I64 (((0:Int)+(16:Int))+((UInt8.toNat (gD len8T (Z5 .u64 x (16:Int)) 0):Nat):Int)))∧((((0:Int)+(16:Int))+((UInt8.toNat (gD len8T (Z5 .u64 x (16:Int)) 0):Nat):Int))=(Ly x)∧(True)))) ∧
  ((decide (x≥(65536:Int)))=false →
   ((decide (x≥(256:Int)))=true →
    (0≤(8:Int))∧(I64 ((0:Int)+(8:Int)))∧(InK .u8 (Z5 .u64 x (8:Int)))∧(0≤(Z5 .u64 x (8:Int)))∧((Z5 .u64 x (8:Int))<(List.length len8T))∧(I64 ((UInt8.toNat (gD len8T (Z5 .u64 x (8:Int)) 0):Nat):Int))∧(I64 (((0:Int)+(8:Int))+((UInt8.toNat (gD len8T (Z5 .u64 x (8:Int)) 0):Nat):Int)))∧((((0:Int)+(8:Int))+((UInt8.toNat (gD len8T (Z5 .u64 x (8:Int)) 0):Nat):Int))=(Ly x)∧(True))) ∧
   ((decide (x≥(256:Int)))=false →
    (InK .u8 x)∧(0≤x)∧(x<(List.length len8T))∧(I64 ((UInt8.toNat (gD len8T x 0):Nat):Int))∧(I64 ((0:Int)+((UInt8.toNat (gD len8T x 0):Nat):Int)))∧(((0:Int)+((UInt8.toNat (gD len8T x 0):Nat):Int))=(Ly x)∧(True)))))
def U2:Cx:=⟨[],[],25,[],0,[],[],[],[],false,[],[],[],[]⟩
def BW (x:Int):List (Nat×LoopAnn):=[]
theorem Br (d:Int):gwp (U2) (BW d) Z4j 0 (YU [.tmp 2] (V6 d) (Vs d)) (Qh 25 (AL.can VX d))=X6 d:=by kernel_rfl
abbrev BH:Prop:=OkC Tryz.prog 154 Yp
theorem BB (h:∀ (x:Int),(0≤x∧x≤255)→X6 x):OkC Tryz.prog 154 Yp :=
 QB Q6p mixed (C:=U2) (V:=fun (d:Int)=>X6 d) ⟨.nil,XsOk.nil,ItsOk.nil,YlOk.nil,IysOk.nil,XfOk.nil⟩ (Br) fun d hp=>h d hp
theorem Bu:BH:=BB fun x h=>by
 obtain⟨h1,h2⟩:=h;unfold X6;(try delta lI gD sT I64);have ah:(UInt8.toNat (List.getD len8T (Int.toNat x) 0):Int)≤255:=by have:=(List.getD len8T (Int.toNat x) 0).toNat_lt;omega
 refine⟨fun c=>by simp at c;omega,fun _=>⟨fun c=>by simp at c;omega,fun _=>⟨fun c=>by simp at c;omega,fun _=>?_⟩⟩⟩;have hl:len8T.length=256:=by decide +kernel
 rw[hl];simp only[Ro,QQ];refine⟨by omega,h1,by omega,by omega,by omega,?_⟩;unfold Ly;rw[Int.zero_add];exact(by and_intros<;>first|rfl|trivial|simp)
def NB:AL (Int):=(.one (.k (.i .u64)))
def Hc (d:Int):Prop:=0≤d∧d≤255
def UB (d:Int):SV:=.val (.i .i64) (Ly d)
def UD (d:Int):List OB:=[]
def WL:CSp:=Wi NB Hc UB UD
def W5 (x:Int):Prop :=
 (false=true →
  (InK .u32 x)∧(False)∧((Ly x)=(Ly x)∧(True))) ∧
 (false=false →
  (0≤x∧x≤255)∧((Ly x)=(Ly x)∧(True)))
def Nv:Cx:=⟨[],[(153,Ym),(154,Yp)],8,[],0,[],[],[],[],false,[],[],[],[]⟩
def P6 (x:Int):List (Nat×LoopAnn):=[]
theorem PK (d:Int):gwp (Nv) (P6 d) Z37 0 (YU [.tmp 2] (UB d) (UD d)) (Qh 8 (AL.can NB d))=W5 d:=by kernel_rfl
abbrev P7:Prop:=OkC Tryz.prog 135 WL
theorem PA (h:∀ (x:Int),(0≤x∧x≤255)→W5 x):OkC Tryz.prog 135 WL :=
 QB Q79 mixed (C:=Nv) (V:=fun (d:Int)=>W5 d) ⟨(.cons BV (.cons Bu .nil)),XsOk.nil,ItsOk.nil,YlOk.nil,IysOk.nil,XfOk.nil⟩ (PK) fun d hp=>h d hp
theorem Nl:P7:=PA fun x h=>by unfold W5;(try delta lI gD sT I64);exact⟨(fun c=>by cases c),fun _=>⟨h,(by and_intros<;>first|rfl|trivial|simp)⟩⟩
def ZN:AL (Int×Int×((Int×Int→Prop)×(Int×Int→Int))):=(.cons (.k (.i .i64)) (.cons (.k (.i .i64)) (.one (.fn [(.i .i64),(.i .i64)] (.i .i64)))))
def W7 (xs:List Int) (nl:Bool) (d:Int×Int×((Int×Int→Prop)×(Int×Int→Int))):Prop:=0≤d.1∧d.1≤d.2.1∧d.2.1≤xs.length∧xs.length≤12∧(∀ x∈xs,∀ y∈xs,d.2.2.1 (x,y))
def Zz (xs:List Int) (nl:Bool) (d:Int×Int×((Int×Int→Prop)×(Int×Int→Int))):SV:=.tup []
def Zq (xs:List Int) (nl:Bool) (d:Int×Int×((Int×Int→Prop)×(Int×Int→Int))):List Int:=(KR d.2.2.2 xs d.1.toNat d.2.1.toNat)
def QS:XSp:=Cu (gap [] 3) (Hk 3 (.i .i64) ZN W7 Zz Zq)
def Qq (xs:List Int) (nl:Bool) (a:Int) (b:Int) (p:(Int×Int→Prop)×(Int×Int→Int)):Prop:=∀ vals:List Value,
 (I64 (a+(1:Int)))∧∃ (e2:Unit) (d20:(List Int)×Bool×Int),((True∧a=a∧b=b∧(SV.pf [(.i .i64),(.i .i64)] (.i .i64) p.1 p.2=SV.pf [(.i .i64),(.i .i64)] (.i .i64) p.1 p.2)∧(a+(1:Int))=d20.2.2∧True)∧((xs=d20.1∧nl=d20.2.1)∧(vals=vals∧(True∧(([]:List SV)=[])))∧True)) ∧
 LoopP (fun (d2:(List Int)×Bool×Int) (q2:((List Int)×Bool×Int)→Prop) =>
  ((decide (d2.2.2<b))=true →
   ∃ (e5:Bool×Int) (d50:(List Int)×Int),((True∧a=a∧b=b∧(SV.pf [(.i .i64),(.i .i64)] (.i .i64) p.1 p.2=SV.pf [(.i .i64),(.i .i64)] (.i .i64) p.1 p.2)∧d2.2.2=e5.2∧d2.2.2=d50.2∧True)∧((d2.1=d50.1∧d2.2.1=e5.1)∧(vals=vals∧(True∧(([]:List SV)=[])))∧True)) ∧
   LoopP (fun (d5:(List Int)×Int) (q5:((List Int)×Int)→Prop) =>
    ((decide (d5.2 > a))=true→0≤d5.2)∧((decide (d5.2 > a))=true→d5.2<(List.length d5.1))∧((decide (d5.2 > a))=true→InK .i64 (d5.2-(1:Int)))∧((decide (d5.2 > a))=true→0≤(d5.2-(1:Int)))∧((decide (d5.2 > a))=true→(d5.2-(1:Int))<(List.length d5.1))∧((decide (d5.2 > a))=true→p.1 ((gD d5.1 d5.2 0),(gD d5.1 (d5.2-(1:Int)) 0)))∧(((decide (d5.2 > a))&&(decide ((p.2 ((gD d5.1 d5.2 0),(gD d5.1 (d5.2-(1:Int)) 0)))<(0:Int))))=true →
     (I64 (d5.2-(1:Int)))∧(I64 (d5.2-(1:Int)))∧(0≤(d5.2-(1:Int)))∧((d5.2-(1:Int))<(List.length d5.1))∧(0≤d5.2)∧(d5.2<(List.length d5.1))∧(0≤d5.2)∧(d5.2<(List.length d5.1))∧(0≤(d5.2-(1:Int)))∧((d5.2-(1:Int))<(List.length (sT d5.1 d5.2 (gD d5.1 (d5.2-(1:Int)) 0))))∧(I64 (d5.2-(1:Int)))∧(∃ d6:(List Int)×Int,((True∧a=a∧b=b∧(SV.pf [(.i .i64),(.i .i64)] (.i .i64) p.1 p.2=SV.pf [(.i .i64),(.i .i64)] (.i .i64) p.1 p.2)∧e5.2=e5.2∧(d5.2-(1:Int))=d6.2∧True)∧(((sT (sT d5.1 d5.2 (gD d5.1 (d5.2-(1:Int)) 0)) (d5.2-(1:Int)) (gD d5.1 d5.2 0))=d6.1∧e5.1=e5.1)∧(vals=vals∧(True∧(([]:List SV)=[])))∧True))∧q5 d6)) ∧
    (((decide (d5.2 > a))&&(decide ((p.2 ((gD d5.1 d5.2 0),(gD d5.1 (d5.2-(1:Int)) 0)))<(0:Int))))=false →
     (I64 (e5.2+(1:Int)))∧(∃ d7:(List Int)×Bool×Int,((True∧a=a∧b=b∧(SV.pf [(.i .i64),(.i .i64)] (.i .i64) p.1 p.2=SV.pf [(.i .i64),(.i .i64)] (.i .i64) p.1 p.2)∧(e5.2+(1:Int))=d7.2.2∧True)∧((d5.1=d7.1∧e5.1=d7.2.1)∧(vals=vals∧(True∧(([]:List SV)=[])))∧True))∧q2 d7))) d50) ∧
  ((decide (d2.2.2<b))=false →
   (vals=vals∧(True∧(([]:List SV)=[]))∧((([]:List SV)=[]))∧(d2.1=(KR p.2 xs a.toNat b.toNat)∧d2.2.1=nl)))) d20
def ZP:Cx:=⟨[],[],53,[],0,[],[],[],[],false,[],[],[],[]⟩
def ZJ (xs:List Int) (nl:Bool) (a:Int) (b:Int) (p:(Int×Int→Prop)×(Int×Int→Int)) (vals:List Value):List (Nat×LoopAnn):=[(0,⟨Unit,(List Int)×Bool×Int,[0,1,2,3,8],fun e x=>[.lst 0,.val (.i .i64) a,.val (.i .i64) b,.pf [(.i .i64),(.i .i64)] (.i .i64) p.1 p.2,.val (.i .i64) x.2.2],fun e x=>[(0,.slot 0,.lst 3 (.i .i64) x.1 x.2.1),(4000000,.key 4000000,.stk [.lst 0] vals)]⟩),
 (2,⟨Bool×Int,(List Int)×Int,[0,1,2,3,8,9],fun e x=>[.lst 0,.val (.i .i64) a,.val (.i .i64) b,.pf [(.i .i64),(.i .i64)] (.i .i64) p.1 p.2,.val (.i .i64) e.2,.val (.i .i64) x.2],fun e x=>[(0,.slot 0,.lst 3 (.i .i64) x.1 e.1),(4000000,.key 4000000,.stk [.lst 0] vals)]⟩)]
theorem Wq (xs:List Int) (nl:Bool) (d:Int×Int×((Int×Int→Prop)×(Int×Int→Int))):(∀ vals,gwp ZP (ZJ xs nl d.1 d.2.1 d.2.2 vals) Z4p 0 (Hh vals [] (Zz xs nl d) (.lst 3 (.i .i64) (Zq xs nl d) nl) (.lst 0)) (JO 53 (.lst 0) (.lst 3 (.i .i64) xs nl) vals (AL.can ZN d)))=Qq xs nl d.1 d.2.1 d.2.2:=by kernel_rfl
abbrev Wo:Prop:=XOk Tryz.prog 142 QS
theorem Ws (h:∀ (xs:List Int) (nl:Bool) (a:Int) (b:Int) (p:(Int×Int→Prop)×(Int×Int→Int)),(0≤a∧a≤b∧b≤xs.length∧xs.length≤12∧(∀ x∈xs,∀ y∈xs,p.1 (x,y)))→Qq xs nl a b p):XOk Tryz.prog 142 QS :=
 Gp Q6w mixed (BO .nil 3) (C:=ZP) ⟨.nil,XsOk.nil,ItsOk.nil,YlOk.nil,IysOk.nil,XfOk.nil⟩ (L:=fun xs nl (d:Int×Int×((Int×Int→Prop)×(Int×Int→Int))) vals=>ZJ xs nl d.1 d.2.1 d.2.2 vals) (V:=fun xs nl (d:Int×Int×((Int×Int→Prop)×(Int×Int→Int)))=>Qq xs nl d.1 d.2.1 d.2.2) Wq fun xs nl d hp=>h xs nl d.1 d.2.1 d.2.2 hp
theorem Wa:Wo:=Ws fun xs nl a b p h=>by
 obtain⟨h1,h2,h3,h4,h5⟩:=h;unfold Qq;(try delta lI gD sT I64);intro vals;have hI:∀ e:Int,-1000≤e→e≤1000→InK .i64 e:=fun e _ _=>by simp only[QQ];omega
 obtain⟨a,rfl⟩:∃ n:Nat,a=n:=⟨a.toNat,by omega⟩;obtain⟨b,rfl⟩:∃ n:Nat,b=n:=⟨b.toNat,by omega⟩;simp only[Int.toNat_natCast];refine⟨hI _ (by omega) (by omega),(),(xs,nl,(a:Int)+1),(by and_intros<;>first|rfl|trivial|simp),?_⟩;refine⟨fun d=>∃ n:Nat,d.2.2=(a:Int)+1+n∧(n=0∨a+1+n≤b)∧nl=d.2.1∧d.1=I9 (fun x y=>decide (p.2 (x,y)<0)) a n xs,fun d=>(1000-d.2.2).toNat,⟨0,by simp,.inl rfl,rfl,rfl⟩,?_⟩;rintro⟨ys,iz,i⟩ ⟨n,e1,e2,e3,e4⟩;dsimp only at e1 e2 e3 e4 ⊢;subst e1 e3;refine⟨fun c=>?_,fun c=>?_⟩
 ·have c:a+1+n<b:=by simp at c;omega
  have hp:ys.Perm xs:=by rw[e4];exact UG _ (by omega)
  have hlen:=hp.length_eq;refine⟨(nl,(a:Int)+1+n),(ys,(a:Int)+1+n),(by and_intros<;>first|rfl|trivial|simp),?_⟩;dsimp only;refine⟨fun d=>∃ j:Nat,d.2=j∧j≤a+1+n∧d.1.Perm xs∧Al (fun x y=>decide (p.2 (x,y)<0)) a j d.1=I9 (fun x y=>decide (p.2 (x,y)<0)) a (n+1) xs,fun d=>d.2.toNat,⟨a+1+n,by simp,Nat.le_refl _,hp,by rw[e4];rfl⟩,?_⟩;rintro⟨zs,j'⟩ ⟨j,f1,f2,f3,f4⟩;dsimp only at f1 f3 f4 ⊢;subst f1;have sZ:=f3.length_eq;have fI:((j:Int)-1).toNat=j-1:=by omega
  simp only[Int.toNat_natCast,fI];refine⟨fun g=>by omega,fun g=>by omega,fun g=>hI _ (by omega) (by omega),fun g=>by simp at g;omega,fun g=>by omega,fun g=>by rw[Q6 (show j<zs.length by omega),Q6 (show j-1<zs.length by omega)];exact h5 _ (f3.mem_iff.1 (List.getElem_mem _)) _ (f3.mem_iff.1 (List.getElem_mem _)),fun g=>?_,fun g=>?_⟩
  ·have g:a<j∧p.2 (zs.getD j 0,zs.getD (j-1) 0)<0:=by simpa using g
   refine⟨hI _ (by omega) (by omega),hI _ (by omega) (by omega),by omega,by omega,by omega,by omega,by omega,by omega,by omega,by rw[List.length_set];omega,hI _ (by omega) (by omega),((zs.set j (zs.getD (j-1) 0)).set (j-1) (zs.getD j 0),(j:Int)-1),(by and_intros<;>first|rfl|trivial|simp),⟨j-1,by omega,by omega,(Hg (by omega) (by omega)).trans f3,CX f4 g.1 g.2⟩,by dsimp only;omega⟩
  ·refine⟨hI _ (by omega) (by omega),(zs,nl,(a:Int)+1+n+1),(by and_intros<;>first|rfl|trivial|simp),⟨n+1,by simp;omega,by omega,rfl,Fl f4 fun hh=>?_⟩,by dsimp only;omega⟩;have h7:p.2 (zs.getD j 0,zs.getD (j-1) 0)<0:=hh.2;have h8:a<j:=hh.1;rw[decide_eq_true (show (j:Int) > a by omega),decide_eq_true h7] at g;cases g
 ·have hn:n=b-a-1:=by simp at c;omega
  rw[e4,hn];exact(by and_intros<;>first|rfl|trivial|simp)
def Zt:AL (Int×Int×((List Int×List Int→Prop)×(List Int×List Int→Int))):=(.cons (.k (.i .i64)) (.cons (.k (.i .i64)) (.one (.fn [(.list (.i .i64)),(.list (.i .i64))] (.i .i64)))))
def XK (xs:List (List Int)) (nl:Bool) (d:Int×Int×((List Int×List Int→Prop)×(List Int×List Int→Int))):Prop:=0≤d.1∧d.1≤d.2.1∧d.2.1≤xs.length∧xs.length≤12∧(∀ x∈xs,∀ y∈xs,d.2.2.1 (x,y))
def Zk (xs:List (List Int)) (nl:Bool) (d:Int×Int×((List Int×List Int→Prop)×(List Int×List Int→Int))):SV:=.tup []
def Zc (xs:List (List Int)) (nl:Bool) (d:Int×Int×((List Int×List Int→Prop)×(List Int×List Int→Int))):List (List Int):=(KR d.2.2.2 xs d.1.toNat d.2.1.toNat)
def QK:XSp:=O_ (gap [] 3) (Hk 34 (.list (.i .i64)) Zt XK Zk Zc)
def Qm (xs:List (List Int)) (nl:Bool) (a:Int) (b:Int) (p:(List Int×List Int→Prop)×(List Int×List Int→Int)):Prop:=∀ vals:List Value,
 (I64 (a+(1:Int)))∧∃ (e2:Unit) (d20:(List (List Int))×Bool×Int),((True∧a=a∧b=b∧(SV.pf [(.list (.i .i64)),(.list (.i .i64))] (.i .i64) p.1 p.2=SV.pf [(.list (.i .i64)),(.list (.i .i64))] (.i .i64) p.1 p.2)∧(a+(1:Int))=d20.2.2∧True)∧((xs=d20.1∧nl=d20.2.1)∧(vals=vals∧(True∧(([]:List SV)=[])))∧True)) ∧
 LoopP (fun (d2:(List (List Int))×Bool×Int) (q2:((List (List Int))×Bool×Int)→Prop) =>
  ((decide (d2.2.2<b))=true →
   ∃ (e5:Bool×Int) (d50:(List (List Int))×Int),((True∧a=a∧b=b∧(SV.pf [(.list (.i .i64)),(.list (.i .i64))] (.i .i64) p.1 p.2=SV.pf [(.list (.i .i64)),(.list (.i .i64))] (.i .i64) p.1 p.2)∧d2.2.2=e5.2∧d2.2.2=d50.2∧True)∧((d2.1=d50.1∧d2.2.1=e5.1)∧(vals=vals∧(True∧(([]:List SV)=[])))∧True)) ∧
   LoopP (fun (d5:(List (List Int))×Int) (q5:((List (List Int))×Int)→Prop) =>
    ((decide (d5.2 > a))=true→0≤d5.2)∧((decide (d5.2 > a))=true→d5.2<(List.length d5.1))∧((decide (d5.2 > a))=true→InK .i64 (d5.2-(1:Int)))∧((decide (d5.2 > a))=true→0≤(d5.2-(1:Int)))∧((decide (d5.2 > a))=true→(d5.2-(1:Int))<(List.length d5.1))∧((decide (d5.2 > a))=true→p.1 ((gD d5.1 d5.2 []),(gD d5.1 (d5.2-(1:Int)) [])))∧(((decide (d5.2 > a))&&(decide ((p.2 ((gD d5.1 d5.2 []),(gD d5.1 (d5.2-(1:Int)) [])))<(0:Int))))=true →
     (I64 (d5.2-(1:Int)))∧(I64 (d5.2-(1:Int)))∧(0≤(d5.2-(1:Int)))∧((d5.2-(1:Int))<(List.length d5.1))∧(0≤d5.2)∧(d5.2<(List.length d5.1))∧(0≤d5.2)∧(d5.2<(List.length d5.1))∧(0≤(d5.2-(1:Int)))∧((d5.2-(1:Int))<(List.length (sT d5.1 d5.2 (gD d5.1 (d5.2-(1:Int)) []))))∧(I64 (d5.2-(1:Int)))∧(∃ d6:(List (List Int))×Int,((True∧a=a∧b=b∧(SV.pf [(.list (.i .i64)),(.list (.i .i64))] (.i .i64) p.1 p.2=SV.pf [(.list (.i .i64)),(.list (.i .i64))] (.i .i64) p.1 p.2)∧e5.2=e5.2∧(d5.2-(1:Int))=d6.2∧True)∧(((sT (sT d5.1 d5.2 (gD d5.1 (d5.2-(1:Int)) [])) (d5.2-(1:Int)) (gD d5.1 d5.2 []))=d6.1∧e5.1=e5.1)∧(vals=vals∧(True∧(([]:List SV)=[])))∧True))∧q5 d6)) ∧
    (((decide (d5.2 > a))&&(decide ((p.2 ((gD d5.1 d5.2 []),(gD d5.1 (d5.2-(1:Int)) [])))<(0:Int))))=false →
     (I64 (e5.2+(1:Int)))∧(∃ d7:(List (List Int))×Bool×Int,((True∧a=a∧b=b∧(SV.pf [(.list (.i .i64)),(.list (.i .i64))] (.i .i64) p.1 p.2=SV.pf [(.list (.i .i64)),(.list (.i .i64))] (.i .i64) p.1 p.2)∧(e5.2+(1:Int))=d7.2.2∧True)∧((d5.1=d7.1∧e5.1=d7.2.1)∧(vals=vals∧(True∧(([]:List SV)=[])))∧True))∧q2 d7))) d50) ∧
  ((decide (d2.2.2<b))=false →
   (vals=vals∧(True∧(([]:List SV)=[]))∧((([]:List SV)=[]))∧(d2.1=(KR p.2 xs a.toNat b.toNat)∧d2.2.1=nl)))) d20
def Zu:Cx:=⟨[],[],53,[0],0,[],[],[],[],false,[],[],[],[]⟩
def Zs (xs:List (List Int)) (nl:Bool) (a:Int) (b:Int) (p:(List Int×List Int→Prop)×(List Int×List Int→Int)) (vals:List Value):List (Nat×LoopAnn):=[(0,⟨Unit,(List (List Int))×Bool×Int,[0,1,2,3,8],fun e x=>[.lst 0,.val (.i .i64) a,.val (.i .i64) b,.pf [(.list (.i .i64)),(.list (.i .i64))] (.i .i64) p.1 p.2,.val (.i .i64) x.2.2],fun e x=>[(0,.slot 0,.lst 34 (.list (.i .i64)) x.1 x.2.1),(4000000,.key 4000000,.stk [.lst 0] vals)]⟩),
 (2,⟨Bool×Int,(List (List Int))×Int,[0,1,2,3,8,9],fun e x=>[.lst 0,.val (.i .i64) a,.val (.i .i64) b,.pf [(.list (.i .i64)),(.list (.i .i64))] (.i .i64) p.1 p.2,.val (.i .i64) e.2,.val (.i .i64) x.2],fun e x=>[(0,.slot 0,.lst 34 (.list (.i .i64)) x.1 e.1),(4000000,.key 4000000,.stk [.lst 0] vals)]⟩)]
theorem XW (xs:List (List Int)) (nl:Bool) (d:Int×Int×((List Int×List Int→Prop)×(List Int×List Int→Int))):(∀ vals,gwp Zu (Zs xs nl d.1 d.2.1 d.2.2 vals) Z5z 0 (Hh vals [] (Zk xs nl d) (.lst 34 (.list (.i .i64)) (Zc xs nl d) nl) (.lst 0)) (JO 53 (.lst 0) (.lst 34 (.list (.i .i64)) xs nl) vals (AL.can Zt d)))=Qm xs nl d.1 d.2.1 d.2.2:=by kernel_rfl
abbrev XY:Prop:=XOk Tryz.prog 155 QK
theorem XS (h:∀ (xs:List (List Int)) (nl:Bool) (a:Int) (b:Int) (p:(List Int×List Int→Prop)×(List Int×List Int→Int)),(0≤a∧a≤b∧b≤xs.length∧xs.length≤12∧(∀ x∈xs,∀ y∈xs,p.1 (x,y)))→Qm xs nl a b p):XOk Tryz.prog 155 QK :=
 R2 Q64 mixed (BO .nil 3) (C:=Zu) ⟨.nil,XsOk.nil,ItsOk.nil,YlOk.nil,IysOk.nil,XfOk.nil⟩ (L:=fun xs nl (d:Int×Int×((List Int×List Int→Prop)×(List Int×List Int→Int))) vals=>Zs xs nl d.1 d.2.1 d.2.2 vals) (V:=fun xs nl (d:Int×Int×((List Int×List Int→Prop)×(List Int×List Int→Int)))=>Qm xs nl d.1 d.2.1 d.2.2) XW fun xs nl d hp=>h xs nl d.1 d.2.1 d.2.2 hp
theorem XJ:XY:=XS fun xs nl a b p h=>by
 obtain⟨h1,h2,h3,h4,h5⟩:=h;unfold Qm;(try delta lI gD sT I64);intro vals;have hI:∀ e:Int,-1000≤e→e≤1000→InK .i64 e:=fun e _ _=>by simp only[QQ];omega
 obtain⟨a,rfl⟩:∃ n:Nat,a=n:=⟨a.toNat,by omega⟩;obtain⟨b,rfl⟩:∃ n:Nat,b=n:=⟨b.toNat,by omega⟩;simp only[Int.toNat_natCast];refine⟨hI _ (by omega) (by omega),(),(xs,nl,(a:Int)+1),(by and_intros<;>first|rfl|trivial|simp),?_⟩;refine⟨fun d=>∃ n:Nat,d.2.2=(a:Int)+1+n∧(n=0∨a+1+n≤b)∧nl=d.2.1∧d.1=I9 (fun x y=>decide (p.2 (x,y)<0)) a n xs,fun d=>(1000-d.2.2).toNat,⟨0,by simp,.inl rfl,rfl,rfl⟩,?_⟩;rintro⟨ys,iz,i⟩ ⟨n,e1,e2,e3,e4⟩;dsimp only at e1 e2 e3 e4 ⊢;subst e1 e3;refine⟨fun c=>?_,fun c=>?_⟩
 ·have c:a+1+n<b:=by simp at c;omega
  have hp:ys.Perm xs:=by rw[e4];exact UG _ (by omega)
  have hlen:=hp.length_eq;refine⟨(nl,(a:Int)+1+n),(ys,(a:Int)+1+n),(by and_intros<;>first|rfl|trivial|simp),?_⟩;dsimp only;refine⟨fun d=>∃ j:Nat,d.2=j∧j≤a+1+n∧d.1.Perm xs∧Al (fun x y=>decide (p.2 (x,y)<0)) a j d.1=I9 (fun x y=>decide (p.2 (x,y)<0)) a (n+1) xs,fun d=>d.2.toNat,⟨a+1+n,by simp,Nat.le_refl _,hp,by rw[e4];rfl⟩,?_⟩;rintro⟨zs,j'⟩ ⟨j,f1,f2,f3,f4⟩;dsimp only at f1 f3 f4 ⊢;subst f1;have sZ:=f3.length_eq;have fI:((j:Int)-1).toNat=j-1:=by omega
  simp only[Int.toNat_natCast,fI];refine⟨fun g=>by omega,fun g=>by omega,fun g=>hI _ (by omega) (by omega),fun g=>by simp at g;omega,fun g=>by omega,fun g=>by rw[Q6 (show j<zs.length by omega),Q6 (show j-1<zs.length by omega)];exact h5 _ (f3.mem_iff.1 (List.getElem_mem _)) _ (f3.mem_iff.1 (List.getElem_mem _)),fun g=>?_,fun g=>?_⟩
  ·have g:a<j∧p.2 (zs.getD j [],zs.getD (j-1) [])<0:=by simpa using g
   refine⟨hI _ (by omega) (by omega),hI _ (by omega) (by omega),by omega,by omega,by omega,by omega,by omega,by omega,by omega,by rw[List.length_set];omega,hI _ (by omega) (by omega),((zs.set j (zs.getD (j-1) [])).set (j-1) (zs.getD j []),(j:Int)-1),(by and_intros<;>first|rfl|trivial|simp),⟨j-1,by omega,by omega,(Hg (by omega) (by omega)).trans f3,CX f4 g.1 g.2⟩,by dsimp only;omega⟩
  ·refine⟨hI _ (by omega) (by omega),(zs,nl,(a:Int)+1+n+1),(by and_intros<;>first|rfl|trivial|simp),⟨n+1,by simp;omega,by omega,rfl,Fl f4 fun hh=>?_⟩,by dsimp only;omega⟩;have h7:p.2 (zs.getD j [],zs.getD (j-1) [])<0:=hh.2;have h8:a<j:=hh.1;rw[decide_eq_true (show (j:Int) > a by omega),decide_eq_true h7] at g;cases g
 ·have hn:n=b-a-1:=by simp at c;omega
  rw[e4,hn];exact(by and_intros<;>first|rfl|trivial|simp)
def Xe:AL (Int×((Int×Int→Prop)×(Int×Int→Int))):=(.cons (.k (.i .i64)) (.one (.fn [(.i .i64),(.i .i64)] (.i .i64))))
def KH (xs:List Int) (nl:Bool) (d:Int×((Int×Int→Prop)×(Int×Int→Int))):Prop:=d.1=xs.length∧xs.length≤12∧(∀ x∈xs,∀ y∈xs,d.2.1 (x,y))
def X8 (xs:List Int) (nl:Bool) (d:Int×((Int×Int→Prop)×(Int×Int→Int))):SV:=.tup []
def JQ (xs:List Int) (nl:Bool) (d:Int×((Int×Int→Prop)×(Int×Int→Int))):List Int:=(KR d.2.2 xs 0 xs.length)
def ZR:XSp:=Cu (gap [] 3) (Hk 3 (.i .i64) Xe KH X8 JQ)
def QW (xs:List Int) (nl:Bool) (n:Int) (p:(Int×Int→Prop)×(Int×Int→Int)):Prop:=∀ vals:List Value,
 ∃ (e3:Unit) (d30:(List Int)×Int×Int),((True∧n=n∧(SV.pf [(.i .i64),(.i .i64)] (.i .i64) p.1 p.2=SV.pf [(.i .i64),(.i .i64)] (.i .i64) p.1 p.2)∧(20:Int)=(20:Int)∧(0:Int)=d30.2.1∧(20:Int)=d30.2.2∧True)∧((xs=d30.1∧nl=nl)∧(vals=vals∧(True∧(([]:List SV)=[])))∧True)) ∧
 LoopP (fun (d3:(List Int)×Int×Int) (q3:((List Int)×Int×Int)→Prop) =>
  ((decide (d3.2.2≤n))=true →
   (0≤d3.2.1∧d3.2.1≤d3.2.2∧d3.2.2≤d3.1.length∧d3.1.length≤12∧(∀ x∈d3.1,∀ y∈d3.1,(fun (x1:Int×Int)=>p.1 (x1.1,x1.2)) (x,y)))∧(I64 (d3.2.2+(20:Int)))∧(∃ d4:(List Int)×Int×Int,((True∧n=n∧(SV.pf [(.i .i64),(.i .i64)] (.i .i64) p.1 p.2=SV.pf [(.i .i64),(.i .i64)] (.i .i64) p.1 p.2)∧(20:Int)=(20:Int)∧d3.2.2=d4.2.1∧(d3.2.2+(20:Int))=d4.2.2∧True)∧(((KR (fun (x1:Int×Int)=>(p.2 (x1.1,x1.2))) d3.1 d3.2.1.toNat d3.2.2.toNat)=d4.1∧nl=nl)∧(vals=vals∧(True∧(([]:List SV)=[])))∧True))∧q3 d4)) ∧
  ((decide (d3.2.2≤n))=false →
   (0≤d3.2.1∧d3.2.1≤n∧n≤d3.1.length∧d3.1.length≤12∧(∀ x∈d3.1,∀ y∈d3.1,(fun (x2:Int×Int)=>p.1 (x2.1,x2.2)) (x,y)))∧∃ (e7:(List Int)) (d70:Bool×Int),((True∧n=n∧(SV.pf [(.i .i64),(.i .i64)] (.i .i64) p.1 p.2=SV.pf [(.i .i64),(.i .i64)] (.i .i64) p.1 p.2)∧(20:Int)=d70.2∧True)∧(((KR (fun (x2:Int×Int)=>(p.2 (x2.1,x2.2))) d3.1 d3.2.1.toNat n.toNat)=e7∧nl=d70.1)∧(vals=vals∧(True∧(([]:List SV)=[])))∧True)) ∧
   LoopP (fun (d7:Bool×Int) (q7:(Bool×Int)→Prop) =>
    ((decide (d7.2<n))=true →
     (I64 ((2:Int)*d7.2))∧∃ (gP:(List Int)×Bool×Int×Int) (d100:Unit),((True∧n=n∧(SV.pf [(.i .i64),(.i .i64)] (.i .i64) p.1 p.2=SV.pf [(.i .i64),(.i .i64)] (.i .i64) p.1 p.2)∧d7.2=gP.2.2.1∧(0:Int)=(0:Int)∧((2:Int)*d7.2)=gP.2.2.2∧True)∧((e7=gP.1∧d7.1=gP.2.1)∧(vals=vals∧(True∧(([]:List SV)=[])))∧True)) ∧
     LoopP (fun (d10:Unit) (wS:(Unit)→Prop) =>
      ((decide (gP.2.2.2≤n))=true →
       (I64 ((0:Int)+gP.2.2.1))∧False) ∧
      ((decide (gP.2.2.2≤n))=false →
       (I64 ((0:Int)+gP.2.2.1))∧((decide (((0:Int)+gP.2.2.1)<n))=true →
        False) ∧
       ((decide (((0:Int)+gP.2.2.1)<n))=false →
        (I64 (gP.2.2.1*(2:Int)))∧(∃ d11:Bool×Int,((True∧n=n∧(SV.pf [(.i .i64),(.i .i64)] (.i .i64) p.1 p.2=SV.pf [(.i .i64),(.i .i64)] (.i .i64) p.1 p.2)∧(gP.2.2.1*(2:Int))=d11.2∧True)∧((gP.1=e7∧gP.2.1=d11.1)∧(vals=vals∧(True∧(([]:List SV)=[])))∧True))∧q7 d11)))) d100) ∧
    ((decide (d7.2<n))=false →
     (vals=vals∧(True∧(([]:List SV)=[]))∧((([]:List SV)=[]))∧(e7=(KR p.2 xs 0 xs.length)∧d7.1=nl)))) d70)) d30
def Xt:Cx:=⟨[],[],63,[],0,[(142,QS),(143,AA)],[],[],[],false,[],[],[],[]⟩
def Xj (xs:List Int) (nl:Bool) (n:Int) (p:(Int×Int→Prop)×(Int×Int→Int)) (vals:List Value):List (Nat×LoopAnn):=[(0,⟨Unit,(List Int)×Int×Int,[0,1,2,6,7,8],fun e x=>[.lst 0,.val (.i .i64) n,.pf [(.i .i64),(.i .i64)] (.i .i64) p.1 p.2,.val (.i .i64) (20:Int),.val (.i .i64) x.2.1,.val (.i .i64) x.2.2],fun e x=>[(0,.slot 0,.lst 3 (.i .i64) x.1 nl),(4000000,.key 4000000,.stk [.lst 0] vals)]⟩),
 (2,⟨(List Int),Bool×Int,[0,1,2,6],fun e x=>[.lst 0,.val (.i .i64) n,.pf [(.i .i64),(.i .i64)] (.i .i64) p.1 p.2,.val (.i .i64) x.2],fun e x=>[(0,.slot 0,.lst 3 (.i .i64) e x.1),(4000000,.key 4000000,.stk [.lst 0] vals)]⟩),
 (4,⟨(List Int)×Bool×Int×Int,Unit,[0,1,2,6,7,8],fun e x=>[.lst 0,.val (.i .i64) n,.pf [(.i .i64),(.i .i64)] (.i .i64) p.1 p.2,.val (.i .i64) e.2.2.1,.val (.i .i64) (0:Int),.val (.i .i64) e.2.2.2],fun e x=>[(0,.slot 0,.lst 3 (.i .i64) e.1 e.2.1),(4000000,.key 4000000,.stk [.lst 0] vals)]⟩)]
theorem Vw (xs:List Int) (nl:Bool) (d:Int×((Int×Int→Prop)×(Int×Int→Int))):(∀ vals,gwp Xt (Xj xs nl d.1 d.2 vals) Z5k 0 (Hh vals [] (X8 xs nl d) (.lst 3 (.i .i64) (JQ xs nl d) nl) (.lst 0)) (JO 63 (.lst 0) (.lst 3 (.i .i64) xs nl) vals (AL.can Xe d)))=QW xs nl d.1 d.2:=by kernel_rfl
abbrev Vi:Prop:=XOk Tryz.prog 133 ZR
theorem KW (h:∀ (xs:List Int) (nl:Bool) (n:Int) (p:(Int×Int→Prop)×(Int×Int→Int)),(n=xs.length∧xs.length≤12∧(∀ x∈xs,∀ y∈xs,p.1 (x,y)))→QW xs nl n p):XOk Tryz.prog 133 ZR :=
 Gp Q6j mixed (BO .nil 3) (C:=Xt) ⟨.nil,(XsOk.cons Wa (XsOk.cons UX XsOk.nil)),ItsOk.nil,YlOk.nil,IysOk.nil,XfOk.nil⟩ (L:=fun xs nl (d:Int×((Int×Int→Prop)×(Int×Int→Int))) vals=>Xj xs nl d.1 d.2 vals) (V:=fun xs nl (d:Int×((Int×Int→Prop)×(Int×Int→Int)))=>QW xs nl d.1 d.2) Vw fun xs nl d hp=>h xs nl d.1 d.2 hp
theorem KD:Vi:=KW fun xs nl n p h=>by obtain⟨h1,h2,h3⟩:=h;subst h1;unfold QW;(try delta lI gD sT I64);intro vals;refine⟨(),(xs,0,20),(by and_intros<;>first|rfl|trivial|simp),?_⟩;refine⟨fun d=>d=(xs,0,20),fun _=>0,rfl,?_⟩;rintro _ rfl;dsimp only;refine⟨fun c=>by simp at c;omega,fun _=>⟨⟨by omega,by omega,by omega,h2,h3⟩,KR p.2 xs 0 xs.length,(nl,20),(by and_intros<;>first|rfl|trivial|simp),?_⟩⟩;refine⟨fun d=>d=(nl,20),fun _=>0,rfl,?_⟩;rintro _ rfl;dsimp only;exact⟨fun c=>by simp at c;omega,fun _=>(by and_intros<;>first|rfl|trivial|simp)⟩
def Jb:AL ((Int×Int→Prop)×(Int×Int→Int)):=(.one (.fn [(.i .i64),(.i .i64)] (.i .i64)))
def WZ (xs:List Int) (nl:Bool) (d:(Int×Int→Prop)×(Int×Int→Int)):Prop:=xs.length≤12∧(∀ x∈xs,∀ y∈xs,d.1 (x,y))
def J0 (xs:List Int) (nl:Bool) (d:(Int×Int→Prop)×(Int×Int→Int)):SV:=.tup []
def ZL (xs:List Int) (nl:Bool) (d:(Int×Int→Prop)×(Int×Int→Int)):List Int:=(KR d.2 xs 0 xs.length)
def Z4:XSp:=Cu (gap [(111,ZG)] 3) (Hk 3 (.i .i64) Jb WZ J0 ZL)
def Qv (xs:List Int) (nl:Bool) (p:(Int×Int→Prop)×(Int×Int→Int)):Prop:=∀ vals:List Value,
 ((lI xs)=xs.length∧xs.length≤12∧(∀ x∈xs,∀ y∈xs,(fun (x1:Int×Int)=>p.1 (x1.1,x1.2)) (x,y)))∧(vals=vals∧(True∧(([]:List SV)=[]))∧((([]:List SV)=[]))∧((KR (fun (x1:Int×Int)=>(p.2 (x1.1,x1.2))) xs 0 xs.length)=(KR p.2 xs 0 xs.length)∧nl=nl))
def J9:Cx:=⟨[],[],9,[],0,[(133,ZR)],[],[],[],false,[],[],[],[]⟩
def Ja (xs:List Int) (nl:Bool) (p:(Int×Int→Prop)×(Int×Int→Int)) (vals:List Value):List (Nat×LoopAnn):=[]
theorem Y0 (xs:List Int) (nl:Bool) (d:(Int×Int→Prop)×(Int×Int→Int)):(∀ vals,gwp J9 (Ja xs nl d vals) Z3q 0 (Hh vals [] (J0 xs nl d) (.lst 3 (.i .i64) (ZL xs nl d) nl) (.lst 0)) (JO 9 (.lst 0) (.lst 3 (.i .i64) xs nl) vals (AL.can Jb d)))=Qv xs nl d:=by kernel_rfl
abbrev Y1:Prop:=XOk Tryz.prog 110 Z4
theorem W_ (h:∀ (xs:List Int) (nl:Bool) (p:(Int×Int→Prop)×(Int×Int→Int)),(xs.length≤12∧(∀ x∈xs,∀ y∈xs,p.1 (x,y)))→Qv xs nl p):XOk Tryz.prog 110 Z4 :=
 Gp Q6v mixed (BO (.cons WT .nil) 3) (C:=J9) ⟨.nil,(XsOk.cons KD XsOk.nil),ItsOk.nil,YlOk.nil,IysOk.nil,XfOk.nil⟩ (L:=fun xs nl (d:(Int×Int→Prop)×(Int×Int→Int)) vals=>Ja xs nl d vals) (V:=fun xs nl (d:(Int×Int→Prop)×(Int×Int→Int))=>Qv xs nl d) Y0 fun xs nl d hp=>h xs nl d hp
theorem WJ:Y1:=W_ fun xs nl p h=>by unfold Qv;(try delta lI gD sT I64);intro vals;refine⟨⟨rfl,h.1,h.2⟩,?_⟩;exact(by and_intros<;>first|rfl|trivial|simp)
def Jw:AL (Int×Int×Int×((List Int×List Int→Prop)×(List Int×List Int→Int))):=(.cons (.k (.i .i64)) (.cons (.k (.i .i64)) (.cons (.k (.i .i64)) (.one (.fn [(.list (.i .i64)),(.list (.i .i64))] (.i .i64))))))
def Yu (xs:List (List Int)) (nl:Bool) (d:Int×Int×Int×((List Int×List Int→Prop)×(List Int×List Int→Int))):Prop:=d.1=0∧d.2.1=xs.length∧xs.length≤12∧(∀ x∈xs,∀ y∈xs,d.2.2.2.1 (x,y))
def Jq (xs:List (List Int)) (nl:Bool) (d:Int×Int×Int×((List Int×List Int→Prop)×(List Int×List Int→Int))):SV:=.tup []
def J8 (xs:List (List Int)) (nl:Bool) (d:Int×Int×Int×((List Int×List Int→Prop)×(List Int×List Int→Int))):List (List Int):=(KR d.2.2.2.2 xs 0 xs.length)
def Zi:XSp:=O_ (gap [] 3) (Hk 34 (.list (.i .i64)) Jw Yu Jq J8)
def QC (xs:List (List Int)) (nl:Bool) (a:Int) (b:Int) (li:Int) (p:(List Int×List Int→Prop)×(List Int×List Int→Int)):Prop:=∀ vals:List Value,
 ∃ (e3:Unit) (d30:Unit),((True∧a=a∧b=b∧li=li∧(SV.pf [(.list (.i .i64)),(.list (.i .i64))] (.i .i64) p.1 p.2=SV.pf [(.list (.i .i64)),(.list (.i .i64))] (.i .i64) p.1 p.2)∧true=true∧true=true∧True)∧((xs=xs∧nl=nl)∧(vals=vals∧(True∧(([]:List SV)=[])))∧True)) ∧
 LoopP (fun (d3:Unit) (q3:(Unit)→Prop) =>
  (I64 (b-a))∧((decide ((b-a)≤(12:Int)))=true →
   (0≤a∧a≤b∧b≤xs.length∧xs.length≤12∧(∀ x∈xs,∀ y∈xs,(fun (x1:List Int×List Int)=>p.1 (x1.1,x1.2)) (x,y)))∧(vals=vals∧(True∧(([]:List SV)=[]))∧((([]:List SV)=[]))∧((KR (fun (x1:List Int×List Int)=>(p.2 (x1.1,x1.2))) xs a.toNat b.toNat)=(KR p.2 xs 0 xs.length)∧nl=nl))) ∧
  ((decide ((b-a)≤(12:Int)))=false →
   ((li==(0:Int))=true →
    False) ∧
   ((li==(0:Int))=false →
    ((!true)=true →
     False) ∧
    ((!true)=false →
     False)))) d30
def Jz:Cx:=⟨[],[],148,[0],0,[(155,QK),(156,AA),(157,AA),(158,AA)],[],[],[],false,[],[],[],[]⟩
def JC (xs:List (List Int)) (nl:Bool) (a:Int) (b:Int) (li:Int) (p:(List Int×List Int→Prop)×(List Int×List Int→Int)) (vals:List Value):List (Nat×LoopAnn):=[(0,⟨Unit,Unit,[0,1,2,3,4,10,11],fun e x=>[.lst 0,.val (.i .i64) a,.val (.i .i64) b,.val (.i .i64) li,.pf [(.list (.i .i64)),(.list (.i .i64))] (.i .i64) p.1 p.2,.val .bo true,.val .bo true],fun e x=>[(0,.slot 0,.lst 34 (.list (.i .i64)) xs nl),(4000000,.key 4000000,.stk [.lst 0] vals)]⟩)]
theorem YR (xs:List (List Int)) (nl:Bool) (d:Int×Int×Int×((List Int×List Int→Prop)×(List Int×List Int→Int))):(∀ vals,gwp Jz (JC xs nl d.1 d.2.1 d.2.2.1 d.2.2.2 vals) Z4a 0 (Hh vals [] (Jq xs nl d) (.lst 34 (.list (.i .i64)) (J8 xs nl d) nl) (.lst 0)) (JO 148 (.lst 0) (.lst 34 (.list (.i .i64)) xs nl) vals (AL.can Jw d)))=QC xs nl d.1 d.2.1 d.2.2.1 d.2.2.2:=by kernel_rfl
abbrev YM:Prop:=XOk Tryz.prog 136 Zi
theorem YG (h:∀ (xs:List (List Int)) (nl:Bool) (a:Int) (b:Int) (li:Int) (p:(List Int×List Int→Prop)×(List Int×List Int→Int)),(a=0∧b=xs.length∧xs.length≤12∧(∀ x∈xs,∀ y∈xs,p.1 (x,y)))→QC xs nl a b li p):XOk Tryz.prog 136 Zi :=
 R2 Q7f mixed (BO .nil 3) (C:=Jz) ⟨.nil,(XsOk.cons XJ (XsOk.cons UX (XsOk.cons UX (XsOk.cons UX XsOk.nil)))),ItsOk.nil,YlOk.nil,IysOk.nil,XfOk.nil⟩ (L:=fun xs nl (d:Int×Int×Int×((List Int×List Int→Prop)×(List Int×List Int→Int))) vals=>JC xs nl d.1 d.2.1 d.2.2.1 d.2.2.2 vals) (V:=fun xs nl (d:Int×Int×Int×((List Int×List Int→Prop)×(List Int×List Int→Int)))=>QC xs nl d.1 d.2.1 d.2.2.1 d.2.2.2) YR fun xs nl d hp=>h xs nl d.1 d.2.1 d.2.2.1 d.2.2.2 hp
theorem Yn:YM:=YG fun xs nl a b li p h=>by
 obtain⟨rfl,rfl,h2,h3⟩:=h;unfold QC;(try delta lI gD sT I64);intro vals;refine⟨(),(),(by and_intros<;>first|rfl|trivial|simp),?_⟩;refine⟨fun _=>True,fun _=>0,trivial,?_⟩;rintro⟨⟩ -
 refine⟨by simp only[QQ];omega,fun _=>⟨⟨by omega,by omega,by omega,h2,h3⟩,(by and_intros<;>first|rfl|trivial|simp)⟩,fun c=>by simp at c;omega⟩
def XG:AL ((List Int×List Int→Prop)×(List Int×List Int→Int)):=(.one (.fn [(.list (.i .i64)),(.list (.i .i64))] (.i .i64)))
def Va (xs:List (List Int)) (nl:Bool) (d:(List Int×List Int→Prop)×(List Int×List Int→Int)):Prop:=xs.length≤12∧(∀ x∈xs,∀ y∈xs,d.1 (x,y))
def Xr (xs:List (List Int)) (nl:Bool) (d:(List Int×List Int→Prop)×(List Int×List Int→Int)):SV:=.tup []
def X7 (xs:List (List Int)) (nl:Bool) (d:(List Int×List Int→Prop)×(List Int×List Int→Int)):List (List Int):=(KR d.2 xs 0 xs.length)
def J7:XSp:=O_ (gap [(92,Zd)] 3) (Hk 34 (.list (.i .i64)) XG Va Xr X7)
def Z0 (xs:List (List Int)) (nl:Bool) (p:(List Int×List Int→Prop)×(List Int×List Int→Int)):Prop:=∀ vals:List Value,
 (InK .u64 (lI xs))∧(0≤(lI xs)∧(lI xs)≤255)∧((0:Int)=0∧(lI xs)=xs.length∧xs.length≤12∧(∀ x∈xs,∀ y∈xs,(fun (x1:List Int×List Int)=>p.1 (x1.1,x1.2)) (x,y)))∧(vals=vals∧(True∧(([]:List SV)=[]))∧((([]:List SV)=[]))∧((KR (fun (x1:List Int×List Int)=>(p.2 (x1.1,x1.2))) xs 0 xs.length)=(KR p.2 xs 0 xs.length)∧nl=nl))
def XH:Cx:=⟨[],[(135,WL)],14,[0],0,[(136,Zi)],[],[],[],false,[],[],[],[]⟩
def XE (xs:List (List Int)) (nl:Bool) (p:(List Int×List Int→Prop)×(List Int×List Int→Int)) (vals:List Value):List (Nat×LoopAnn):=[]
theorem VJ (xs:List (List Int)) (nl:Bool) (d:(List Int×List Int→Prop)×(List Int×List Int→Int)):(∀ vals,gwp XH (XE xs nl d vals) Z4m 0 (Hh vals [] (Xr xs nl d) (.lst 34 (.list (.i .i64)) (X7 xs nl d) nl) (.lst 0)) (JO 14 (.lst 0) (.lst 34 (.list (.i .i64)) xs nl) vals (AL.can XG d)))=Z0 xs nl d:=by kernel_rfl
abbrev VH:Prop:=XOk Tryz.prog 113 J7
theorem VB (h:∀ (xs:List (List Int)) (nl:Bool) (p:(List Int×List Int→Prop)×(List Int×List Int→Int)),(xs.length≤12∧(∀ x∈xs,∀ y∈xs,p.1 (x,y)))→Z0 xs nl p):XOk Tryz.prog 113 J7 :=
 R2 Q72 mixed (BO (.cons XV .nil) 3) (C:=XH) ⟨(.cons Nl .nil),(XsOk.cons Yn XsOk.nil),ItsOk.nil,YlOk.nil,IysOk.nil,XfOk.nil⟩ (L:=fun xs nl (d:(List Int×List Int→Prop)×(List Int×List Int→Int)) vals=>XE xs nl d vals) (V:=fun xs nl (d:(List Int×List Int→Prop)×(List Int×List Int→Int))=>Z0 xs nl d) VJ fun xs nl d hp=>h xs nl d hp
theorem V7:VH:=VB fun xs nl p h=>by unfold Z0;(try delta lI gD sT I64);intro vals;have:=h.1;refine⟨by simp only[Du];omega,⟨by omega,by omega⟩,⟨rfl,rfl,h.1,h.2⟩,?_⟩;exact(by and_intros<;>first|rfl|trivial|simp)
def M_:AL (Int×Int):=(.cons (.k (.i .i64)) (.one (.k (.i .i64))))
def Pb (d:Int×Int):Prop:=True
def Nu (d:Int×Int):SV:=.val .bo (decide (d.1<d.2))
def NJ (d:Int×Int):List OB:=[]
def Uj:CSp:=Wi M_ Pb Nu NJ
def WX (a:Int) (b:Int):Prop :=
 (True)∧(false=true→True)∧(((false&&(!false))||(decide (a<b)))=(decide (a<b))∧(True))
def Ms:Cx:=⟨[],[(119,WH)],17,[],0,[],[],[],[],false,[],[],[],[]⟩
def S4 (a:Int) (b:Int):List (Nat×LoopAnn):=[]
theorem TL (d:Int×Int):gwp (Ms) (S4 d.1 d.2) Z60 0 (YU [.tmp 4] (Nu d) (NJ d)) (Qh 17 (AL.can M_ d))=WX d.1 d.2:=by kernel_rfl
abbrev Rk:Prop:=OkC Tryz.prog 150 Uj
theorem TJ (h:∀ (a:Int) (b:Int),(True)→WX a b):OkC Tryz.prog 150 Uj :=
 QB Q6k mixed (C:=Ms) (V:=fun (d:Int×Int)=>WX d.1 d.2) ⟨(.cons Nx .nil),XsOk.nil,ItsOk.nil,YlOk.nil,IysOk.nil,XfOk.nil⟩ (TL) fun d hp=>h d.1 d.2 hp
theorem RA:Rk:=TJ fun a b=>by unfold WX;(try delta lI gD sT I64);simp
def ZK:AL (Int×Int):=(.cons (.k (.i .i64)) (.one (.k (.i .i64))))
def W8 (xs:List Int) (nl:Bool) (d:Int×Int):Prop:=0≤d.1∧d.1≤d.2∧d.2≤xs.length∧xs.length≤12
def ZC (xs:List Int) (nl:Bool) (d:Int×Int):SV:=.tup []
def Zr (xs:List Int) (nl:Bool) (d:Int×Int):List Int:=(KR K6 xs d.1.toNat d.2.toNat)
def QV:XSp:=Cu Rv (Hk 3 (.i .i64) ZK W8 ZC Zr)
def Qp (xs:List Int) (nl:Bool) (a:Int) (b:Int):Prop:=∀ vals:List Value,
 (I64 (a+(1:Int)))∧∃ (e2:Unit) (d20:(List Int)×Bool×Int),((True∧a=a∧b=b∧(a+(1:Int))=d20.2.2∧True)∧((xs=d20.1∧nl=d20.2.1)∧(vals=vals∧(True∧(([]:List SV)=[])))∧True)) ∧
 LoopP (fun (d2:(List Int)×Bool×Int) (q2:((List Int)×Bool×Int)→Prop) =>
  ((decide (d2.2.2<b))=true →
   ∃ (e5:Bool×Int) (d50:(List Int)×Int),((True∧a=a∧b=b∧d2.2.2=e5.2∧d2.2.2=d50.2∧True)∧((d2.1=d50.1∧d2.2.1=e5.1)∧(vals=vals∧(True∧(([]:List SV)=[])))∧True)) ∧
   LoopP (fun (d5:(List Int)×Int) (q5:((List Int)×Int)→Prop) =>
    ((decide (d5.2 > a))=true→0≤d5.2)∧((decide (d5.2 > a))=true→d5.2<(List.length d5.1))∧((decide (d5.2 > a))=true→InK .i64 (d5.2-(1:Int)))∧((decide (d5.2 > a))=true→0≤(d5.2-(1:Int)))∧((decide (d5.2 > a))=true→(d5.2-(1:Int))<(List.length d5.1))∧((decide (d5.2 > a))=true→True)∧(((decide (d5.2 > a))&&(decide ((gD d5.1 d5.2 0)<(gD d5.1 (d5.2-(1:Int)) 0))))=true →
     (I64 (d5.2-(1:Int)))∧(I64 (d5.2-(1:Int)))∧(0≤(d5.2-(1:Int)))∧((d5.2-(1:Int))<(List.length d5.1))∧(0≤d5.2)∧(d5.2<(List.length d5.1))∧(0≤d5.2)∧(d5.2<(List.length d5.1))∧(0≤(d5.2-(1:Int)))∧((d5.2-(1:Int))<(List.length (sT d5.1 d5.2 (gD d5.1 (d5.2-(1:Int)) 0))))∧(I64 (d5.2-(1:Int)))∧(∃ d6:(List Int)×Int,((True∧a=a∧b=b∧e5.2=e5.2∧(d5.2-(1:Int))=d6.2∧True)∧(((sT (sT d5.1 d5.2 (gD d5.1 (d5.2-(1:Int)) 0)) (d5.2-(1:Int)) (gD d5.1 d5.2 0))=d6.1∧e5.1=e5.1)∧(vals=vals∧(True∧(([]:List SV)=[])))∧True))∧q5 d6)) ∧
    (((decide (d5.2 > a))&&(decide ((gD d5.1 d5.2 0)<(gD d5.1 (d5.2-(1:Int)) 0))))=false →
     (I64 (e5.2+(1:Int)))∧(∃ d7:(List Int)×Bool×Int,((True∧a=a∧b=b∧(e5.2+(1:Int))=d7.2.2∧True)∧((d5.1=d7.1∧e5.1=d7.2.1)∧(vals=vals∧(True∧(([]:List SV)=[])))∧True))∧q2 d7))) d50) ∧
  ((decide (d2.2.2<b))=false →
   (vals=vals∧(True∧(([]:List SV)=[]))∧((([]:List SV)=[]))∧(d2.1=(KR K6 xs a.toNat b.toNat)∧d2.2.1=nl)))) d20
def ZO:Cx:=⟨[],[(150,Uj)],49,[],0,[],[],[],[],false,[],[],[],[]⟩
def ZQ (xs:List Int) (nl:Bool) (a:Int) (b:Int) (vals:List Value):List (Nat×LoopAnn):=[(0,⟨Unit,(List Int)×Bool×Int,[0,1,2,6],fun e x=>[.lst 0,.val (.i .i64) a,.val (.i .i64) b,.val (.i .i64) x.2.2],fun e x=>[(0,.slot 0,.lst 3 (.i .i64) x.1 x.2.1),(4000000,.key 4000000,.stk [.lst 0] vals)]⟩),
 (2,⟨Bool×Int,(List Int)×Int,[0,1,2,6,7],fun e x=>[.lst 0,.val (.i .i64) a,.val (.i .i64) b,.val (.i .i64) e.2,.val (.i .i64) x.2],fun e x=>[(0,.slot 0,.lst 3 (.i .i64) x.1 e.1),(4000000,.key 4000000,.stk [.lst 0] vals)]⟩)]
theorem Wt (xs:List Int) (nl:Bool) (d:Int×Int):(∀ vals,gwp ZO (ZQ xs nl d.1 d.2 vals) Z4v 0 (Hh vals [] (ZC xs nl d) (.lst 3 (.i .i64) (Zr xs nl d) nl) (.lst 0)) (JO 49 (.lst 0) (.lst 3 (.i .i64) xs nl) vals (AL.can ZK d)))=Qp xs nl d.1 d.2:=by kernel_rfl
abbrev Wu:Prop:=XOk Tryz.prog 144 QV
theorem Wp (h:∀ (xs:List Int) (nl:Bool) (a:Int) (b:Int),(0≤a∧a≤b∧b≤xs.length∧xs.length≤12)→Qp xs nl a b):XOk Tryz.prog 144 QV :=
 Gp Q67 mixed UF (C:=ZO) ⟨(.cons RA .nil),XsOk.nil,ItsOk.nil,YlOk.nil,IysOk.nil,XfOk.nil⟩ (L:=fun xs nl (d:Int×Int) vals=>ZQ xs nl d.1 d.2 vals) (V:=fun xs nl (d:Int×Int)=>Qp xs nl d.1 d.2) Wt fun xs nl d hp=>h xs nl d.1 d.2 hp
theorem Wc:Wu:=Wp fun xs nl a b h=>by
 obtain⟨h1,h2,h3,h4⟩:=h;unfold Qp;(try delta lI gD sT I64);intro vals;have hI:∀ e:Int,-1000≤e→e≤1000→InK .i64 e:=fun e _ _=>by simp only[QQ];omega
 obtain⟨a,rfl⟩:∃ n:Nat,a=n:=⟨a.toNat,by omega⟩;obtain⟨b,rfl⟩:∃ n:Nat,b=n:=⟨b.toNat,by omega⟩;simp only[Int.toNat_natCast];refine⟨hI _ (by omega) (by omega),(),(xs,nl,(a:Int)+1),(by and_intros<;>first|rfl|trivial|simp),?_⟩;refine⟨fun d=>∃ n:Nat,d.2.2=(a:Int)+1+n∧(n=0∨a+1+n≤b)∧nl=d.2.1∧d.1=I9 (fun x y=>decide (K6 (x,y)<0)) a n xs,fun d=>(1000-d.2.2).toNat,⟨0,by simp,.inl rfl,rfl,rfl⟩,?_⟩;rintro⟨ys,iz,i⟩ ⟨n,e1,e2,e3,e4⟩;dsimp only at e1 e2 e3 e4 ⊢;subst e1 e3;refine⟨fun c=>?_,fun c=>?_⟩
 ·have c:a+1+n<b:=by simp at c;omega
  have hp:ys.Perm xs:=by rw[e4];exact UG _ (by omega)
  have hlen:=hp.length_eq;refine⟨(nl,(a:Int)+1+n),(ys,(a:Int)+1+n),(by and_intros<;>first|rfl|trivial|simp),?_⟩;dsimp only;refine⟨fun d=>∃ j:Nat,d.2=j∧j≤a+1+n∧d.1.Perm xs∧Al (fun x y=>decide (K6 (x,y)<0)) a j d.1=I9 (fun x y=>decide (K6 (x,y)<0)) a (n+1) xs,fun d=>d.2.toNat,⟨a+1+n,by simp,Nat.le_refl _,hp,by rw[e4];rfl⟩,?_⟩;rintro⟨zs,j'⟩ ⟨j,f1,f2,f3,f4⟩;dsimp only at f1 f3 f4 ⊢;subst f1;have sZ:=f3.length_eq;have fI:((j:Int)-1).toNat=j-1:=by omega
  simp only[Int.toNat_natCast,fI];refine⟨fun g=>by omega,fun g=>by omega,fun g=>hI _ (by omega) (by omega),fun g=>by simp at g;omega,fun g=>by omega,fun _=>trivial,fun g=>?_,fun g=>?_⟩
  ·have g:a<j∧zs.getD j 0<zs.getD (j-1) 0:=by simpa using g
   refine⟨hI _ (by omega) (by omega),hI _ (by omega) (by omega),by omega,by omega,by omega,by omega,by omega,by omega,by omega,by rw[List.length_set];omega,hI _ (by omega) (by omega),((zs.set j (zs.getD (j-1) 0)).set (j-1) (zs.getD j 0),(j:Int)-1),(by and_intros<;>first|rfl|trivial|simp),⟨j-1,by omega,by omega,(Hg (by omega) (by omega)).trans f3,CX f4 g.1 (Bh.2 g.2)⟩,by dsimp only;omega⟩
  ·refine⟨hI _ (by omega) (by omega),(zs,nl,(a:Int)+1+n+1),(by and_intros<;>first|rfl|trivial|simp),⟨n+1,by simp;omega,by omega,rfl,Fl f4 fun hh=>?_⟩,by dsimp only;omega⟩;have h7:zs.getD j 0<zs.getD (j-1) 0:=Bh.1 hh.2;have h8:a<j:=hh.1;rw[decide_eq_true (show (j:Int) > a by omega),decide_eq_true h7] at g;cases g
 ·have hn:n=b-a-1:=by simp at c;omega
  rw[e4,hn];exact(by and_intros<;>first|rfl|trivial|simp)
def Xa:AL (Int×Int×Int):=(.cons (.k (.i .i64)) (.cons (.k (.i .i64)) (.one (.k (.i .i64)))))
def Kb (xs:List Int) (nl:Bool) (d:Int×Int×Int):Prop:=d.1=0∧d.2.1=xs.length∧xs.length≤12
def JS (xs:List Int) (nl:Bool) (d:Int×Int×Int):SV:=.tup []
def JE (xs:List Int) (nl:Bool) (d:Int×Int×Int):List Int:=(KR K6 xs 0 xs.length)
def ZD:XSp:=Cu Rv (Hk 3 (.i .i64) Xa Kb JS JE)
def QP (xs:List Int) (nl:Bool) (a:Int) (b:Int) (li:Int):Prop:=∀ vals:List Value,
 ∃ (e3:Unit) (d30:Unit),((True∧a=a∧b=b∧li=li∧true=true∧true=true∧True)∧((xs=xs∧nl=nl)∧(vals=vals∧(True∧(([]:List SV)=[])))∧True)) ∧
 LoopP (fun (d3:Unit) (q3:(Unit)→Prop) =>
  (I64 (b-a))∧((decide ((b-a)≤(12:Int)))=true →
   (0≤a∧a≤b∧b≤xs.length∧xs.length≤12)∧(vals=vals∧(True∧(([]:List SV)=[]))∧((([]:List SV)=[]))∧((KR K6 xs a.toNat b.toNat)=(KR K6 xs 0 xs.length)∧nl=nl))) ∧
  ((decide ((b-a)≤(12:Int)))=false →
   ((li==(0:Int))=true →
    False) ∧
   ((li==(0:Int))=false →
    ((!true)=true →
     False) ∧
    ((!true)=false →
     False)))) d30
def Xb:Cx:=⟨[],[],134,[],0,[(144,QV),(145,AA),(146,AA),(147,AA)],[],[],[],false,[],[],[],[]⟩
def X4 (xs:List Int) (nl:Bool) (a:Int) (b:Int) (li:Int) (vals:List Value):List (Nat×LoopAnn):=[(0,⟨Unit,Unit,[0,1,2,3,8,9],fun e x=>[.lst 0,.val (.i .i64) a,.val (.i .i64) b,.val (.i .i64) li,.val .bo true,.val .bo true],fun e x=>[(0,.slot 0,.lst 3 (.i .i64) xs nl),(4000000,.key 4000000,.stk [.lst 0] vals)]⟩)]
theorem Kt (xs:List Int) (nl:Bool) (d:Int×Int×Int):(∀ vals,gwp Xb (X4 xs nl d.1 d.2.1 d.2.2 vals) Z43 0 (Hh vals [] (JS xs nl d) (.lst 3 (.i .i64) (JE xs nl d) nl) (.lst 0)) (JO 134 (.lst 0) (.lst 3 (.i .i64) xs nl) vals (AL.can Xa d)))=QP xs nl d.1 d.2.1 d.2.2:=by kernel_rfl
abbrev Kn:Prop:=XOk Tryz.prog 134 ZD
theorem Ku (h:∀ (xs:List Int) (nl:Bool) (a:Int) (b:Int) (li:Int),(a=0∧b=xs.length∧xs.length≤12)→QP xs nl a b li):XOk Tryz.prog 134 ZD :=
 Gp Q6g mixed UF (C:=Xb) ⟨.nil,(XsOk.cons Wc (XsOk.cons UX (XsOk.cons UX (XsOk.cons UX XsOk.nil)))),ItsOk.nil,YlOk.nil,IysOk.nil,XfOk.nil⟩ (L:=fun xs nl (d:Int×Int×Int) vals=>X4 xs nl d.1 d.2.1 d.2.2 vals) (V:=fun xs nl (d:Int×Int×Int)=>QP xs nl d.1 d.2.1 d.2.2) Kt fun xs nl d hp=>h xs nl d.1 d.2.1 d.2.2 hp
theorem K7:Kn:=Ku fun xs nl a b li h=>by
 obtain⟨rfl,rfl,h2⟩:=h;unfold QP;(try delta lI gD sT I64);intro vals;refine⟨(),(),(by and_intros<;>first|rfl|trivial|simp),?_⟩;refine⟨fun _=>True,fun _=>0,trivial,?_⟩;rintro⟨⟩ -
 refine⟨by simp only[QQ];omega,fun _=>⟨⟨by omega,by omega,by omega,h2⟩,(by and_intros<;>first|rfl|trivial|simp)⟩,fun c=>by simp at c;omega⟩
def Y7:AL (Unit):=.nil
def Nh (xs:List Int) (nl:Bool) (d:Unit):Prop:=xs.length≤12
def WS (xs:List Int) (nl:Bool) (d:Unit):SV:=.tup []
def Wj (xs:List Int) (nl:Bool) (d:Unit):List Int:=(KR K6 xs 0 xs.length)
def Xp:XSp:=Cu Rv (Hk 3 (.i .i64) Y7 Nh WS Wj)
def ZI (xs:List Int) (nl:Bool) :Prop:=∀ vals:List Value,
 (InK .u64 (lI xs))∧(0≤(lI xs)∧(lI xs)≤255)∧((0:Int)=0∧(lI xs)=xs.length∧xs.length≤12)∧(vals=vals∧(True∧(([]:List SV)=[]))∧((([]:List SV)=[]))∧((KR K6 xs 0 xs.length)=(KR K6 xs 0 xs.length)∧nl=nl))
def Ya:Cx:=⟨[],[(135,WL)],11,[],0,[(134,ZD)],[],[],[],false,[],[],[],[]⟩
def Yd (xs:List Int) (nl:Bool)  (vals:List Value):List (Nat×LoopAnn):=[]
theorem NV (xs:List Int) (nl:Bool) (d:Unit):(∀ vals,gwp Ya (Yd xs nl  vals) Z38 0 (Hh vals [] (WS xs nl d) (.lst 3 (.i .i64) (Wj xs nl d) nl) (.lst 0)) (JO 11 (.lst 0) (.lst 3 (.i .i64) xs nl) vals (AL.can Y7 d)))=ZI xs nl :=by kernel_rfl
abbrev NQ:Prop:=XOk Tryz.prog 112 Xp
theorem NR (h:∀ (xs:List Int) (nl:Bool) ,(xs.length≤12)→ZI xs nl ):XOk Tryz.prog 112 Xp :=
 Gp Q63 mixed UF (C:=Ya) ⟨(.cons Nl .nil),(XsOk.cons K7 XsOk.nil),ItsOk.nil,YlOk.nil,IysOk.nil,XfOk.nil⟩ (L:=fun xs nl (d:Unit) vals=>Yd xs nl  vals) (V:=fun xs nl (d:Unit)=>ZI xs nl ) NV fun xs nl d hp=>h xs nl  hp
theorem Nd:NQ:=NR fun xs nl h=>by unfold ZI;(try delta lI gD sT I64);intro vals;refine⟨by simp only[Du];omega,⟨by omega,by omega⟩,⟨rfl,rfl,h⟩,?_⟩;exact(by and_intros<;>first|rfl|trivial|simp)
theorem Q3u {l:List Lot}{sm:List Int}{i:Nat}(h:i<sm.length):(Uf l sm).getD i J_=l.getD (sm.getD i 0).toNat J_:=by rw[Q6 (by simpa [Uf] using h),Q6 h];simp[Uf]
theorem Q0s {p:List Lot}{t:Int}:T9 p t=true↔∀ i,i<p.length→∀ k,k<p.length→Q1y (p.getD i J_) (p.getD k J_) t=true:=by simp only[T9,List.all_eq_true,List.mem_range]
def alP (l:List Lot) (tl:Int) (i k:Int):Bool:=Q1y (l.getD i.toNat J_) (l.getD k.toNat J_) tl
def Uc (l:List Lot) (tl:Int):Bool:=(List.range l.length).all fun k=>Kj l tl (Qw (2 ^ k))
def Q8e (l:List Lot) (tl:Int):Bool:=(List.range l.length).all fun k=>alP l tl (k:Int) (k:Int)
theorem Q37 (a b:Lot):FJ a b=FJ b a:=by unfold FJ;simp only[Nf];omega
theorem Mr {l:List Lot}{tl i k:Int}:alP l tl i k=true↔(l.getD i.toNat J_).1=(l.getD k.toNat J_).1∧FJ (l.getD i.toNat J_) (l.getD k.toNat J_)≤tl∧FJ (l.getD i.toNat J_) (l.getD i.toNat J_)≤tl∧FJ (l.getD k.toNat J_) (l.getD k.toNat J_)≤tl:=by simp only[alP,Q1y,Bool.and_eq_true,beq_iff_eq,decide_eq_true_eq,and_assoc]
theorem Ih {l:List Lot}{tl i k:Int}(h:alP l tl i k=true):alP l tl k i=true:=by rw[Mr] at h ⊢;obtain⟨h1,h2,h3,h4⟩:=h;exact⟨h1.symm,by rw[Q37];exact h2,h4,h3⟩
theorem TA {l:List Lot}{tl:Int}{S:List Int}:T9 (Uf l S) tl=true↔∀ i∈S,∀ k∈S,alP l tl i k=true:=by
 have hlen:(Uf l S).length=S.length:=List.length_map ..;have dM:∀ j,(h:j<S.length)→(Uf l S).getD j J_=l.getD S[j].toNat J_:=fun j h=>by rw[Q3u h,Q6 h]
 rw[Q0s,hlen];constructor
 ·intro h i hi k hk;obtain⟨p,hp,rfl⟩:=List.getElem_of_mem hi;obtain⟨q,hq,rfl⟩:=List.getElem_of_mem hk;have:=h p hp q hq;rw[dM p hp,dM q hq] at this;exact this
 ·intro h p hp q hq;rw[dM p hp,dM q hq];exact h _ (List.getElem_mem hp) _ (List.getElem_mem hq)
theorem Fg {l:List Lot}{tl:Int}{n:Nat}(h0:0<n):Kj l tl (Qw n)=true↔∀ i∈Qw n,∀ k∈Qw n,alP l tl i k=true:=by unfold Kj;rw[Q1l fun e=>Q1r h0 (by simpa [Uf] using e),TA]
theorem LZ {a b:Nat}(ha:a<64) (hb:b<64) (i:Int):i∈Qw (2 ^ a ||| 2 ^ b)↔i=a∨i=b:=by
 have h1:2 ^ a<2 ^ 64:=Nat.pow_lt_pow_right (by omega) ha;have h2:2 ^ b<2 ^ 64:=Nat.pow_lt_pow_right (by omega) hb;rw[C7 (Nat.or_lt_two_pow h1 h2)];simp only[Nat.testBit_or,Nat.testBit_two_pow,Bool.or_eq_true,decide_eq_true_eq];constructor
 ·rintro⟨k,rfl,h|h⟩
  ·exact .inl (by rw[h])
  ·exact .inr (by rw[h])
 ·rintro (rfl|rfl)
  ·exact⟨a,rfl,.inl rfl⟩
  ·exact⟨b,rfl,.inr rfl⟩
theorem EU {l:List Lot}{tl:Int}{a b:Nat}(ha:a<64) (hb:b<64):Kj l tl (Qw (2 ^ a ||| 2 ^ b))=alP l tl a b:=by
 have dw:0<2 ^ a ||| 2 ^ b:=Nat.lt_of_lt_of_le (Nat.two_pow_pos a) Nat.left_le_or
 rw[Bool.eq_iff_iff,Fg dw];constructor
 ·intro h;exact h a ((LZ ha hb _).2 (.inl rfl)) b ((LZ ha hb _).2 (.inr rfl))
 ·intro h i hi k hk;have h2:=Ih h;have h3:=Mr.1 h;have wT:alP l tl a a=true:=Mr.2 ⟨rfl,h3.2.2.1,h3.2.2.1,h3.2.2.1⟩;have jD:alP l tl b b=true:=Mr.2 ⟨rfl,h3.2.2.2,h3.2.2.2,h3.2.2.2⟩;rcases (LZ ha hb _).1 hi with rfl|rfl<;>rcases (LZ ha hb _).1 hk with rfl|rfl<;>assumption
theorem F2 {l:List Lot}{tl:Int}{a:Nat}(ha:a<64):Kj l tl (Qw (2 ^ a))=alP l tl a a:=by
 have:=EU (l:=l) (tl:=tl) ha ha
 rwa [Nat.or_self] at this
theorem Q3v {l:List Lot}{tl:Int}(h:l.length≤12):Uc l tl=Q8e l tl:=by unfold Uc Q8e;rw[Bool.eq_iff_iff,List.all_eq_true,List.all_eq_true];exact⟨fun h2 k hk=>by rw[←F2 (by have:=List.mem_range.1 hk;omega)];exact h2 k hk,fun h2 k hk=>by rw[F2 (by have:=List.mem_range.1 hk;omega)];exact h2 k hk⟩
def VD (al:Int→Int→Bool):Nat→List Int→List Int×List (List Int)
 |0,_=>([],[])
 |n+1,L=>match L with
  |[]=>([],[])
  |h::t=>(h::(VD al n ((h::t).filter fun i=>!al h i)).1,KR K6 ((h::t).filter (al h)) 0 ((h::t).filter (al h)).length::(VD al n ((h::t).filter fun i=>!al h i)).2)
section
variable {al:Int→Int→Bool}
theorem C_ {h:Int}{t:List Int}(hr:al h h=true):((h::t).filter fun i=>!al h i).length≤t.length:=by rw[List.filter_cons,if_neg (by simp[hr])];exact List.length_filter_le ..
theorem Lj:∀ n m (L:List Int),(∀ i∈L,al i i=true)→L.length≤n→L.length≤m→VD al n L=VD al m L
 |n,m,[],_,_,_=>by cases n<;>cases m<;>rfl
 |0,m,h::t,_,h1,_=>by simp at h1
 |n+1,0,h::t,_,_,h2=>by simp at h2
 |n+1,m+1,h::t,hr,h1,h2=>by have hl:=C_ (t:=t) (hr h (List.mem_cons_self ..));have fT:∀ i∈((h::t).filter fun i=>!al h i),al i i=true:=fun i hi=>hr i (List.mem_filter.1 hi).1;simp only[List.length_cons] at h1 h2;have:=Lj n m _ fT (by omega) (by omega);simp only[VD];rw[this]
theorem EN:∀ n (L:List Int),(VD al n L).1.length=(VD al n L).2.length
 |0,_=>rfl
 |n+1,[]=>rfl
 |n+1,h::t=>by simp only[VD,List.length_cons];rw[EN n]
theorem R7 {p:Int→Bool}:∀ L:List Int,(L.filter p++L.filter fun i=>!p i).Perm L
 |[]=>.refl _
 |x::L=>by
  have ih:=R7 (p:=p) L;cases hp:p x with
  |true=>rw[List.filter_cons,if_pos hp,List.filter_cons,if_neg (by simp[hp])];exact ih.cons x
  |false =>rw[List.filter_cons,if_neg (by simp[hp]),List.filter_cons,if_pos (by simp[hp])];exact List.perm_middle.trans (ih.cons x)
theorem La:∀ n (L:List Int),(∀ i∈L,al i i=true)→L.length≤n→((VD al n L).2.flatten).Perm L
 |0,L,_,h=>by cases L with|nil=>exact .refl _|cons x t=>simp at h
 |n+1,[],_,_=>.refl _
 |n+1,h::t,hr,h1=>by have hl:=C_ (t:=t) (hr h (List.mem_cons_self ..));have fT:∀ i∈((h::t).filter fun i=>!al h i),al i i=true:=fun i hi=>hr i (List.mem_filter.1 hi).1;simp only[List.length_cons] at h1;have ih:=La n _ fT (by omega);simp only[VD,List.flatten_cons];exact((JR (Nat.le_refl _)).append ih).trans (R7 _)
theorem LV {R:Int→Int→Prop}:∀ n (L:List Int),(∀ i∈L,al i i=true)→L.Pairwise R→L.length≤n →
  (∀ h∈(VD al n L).1,h∈L)∧(VD al n L).1.Pairwise (fun a b=>al a b=false)∧(∀ c∈(VD al n L).2,c.Pairwise (·≤·)∧∃ h,h∈c∧∀ i∈c,al h i=true∧(i=h∨R h i))
 |0,L,_,_,h=>⟨(fun h hh=>by cases hh),.nil,(fun h hh=>by cases hh)⟩
 |n+1,[],_,_,_=>⟨(fun h hh=>by cases hh),.nil,(fun h hh=>by cases hh)⟩
 |n+1,h::t,hr,hp,h1=>by
  have hl:=C_ (t:=t) (hr h (List.mem_cons_self ..));have fT:∀ i∈((h::t).filter fun i=>!al h i),al i i=true:=fun i hi=>hr i (List.mem_filter.1 hi).1;simp only[List.length_cons] at h1;obtain⟨g1,g2,g3⟩:=LV n _ fT (hp.filter _) (by omega);simp only[VD];refine⟨fun x hx=>?_,List.Pairwise.cons (fun x hx=>?_) g2,fun c hc=>?_⟩
  ·rcases List.mem_cons.1 hx with rfl|hx
   ·exact List.mem_cons_self ..
   ·exact(List.mem_filter.1 (g1 x hx)).1
  ·have:=(List.mem_filter.1 (g1 x hx)).2;simpa using this
  ·rcases List.mem_cons.1 hc with rfl|hc
   ·refine⟨Z1u _,h,?_,fun i hi=>?_⟩
    ·exact(JR (Nat.le_refl _)).mem_iff.2 (List.mem_filter.2 ⟨List.mem_cons_self ..,hr h (List.mem_cons_self ..)⟩)
    ·have hi:=List.mem_filter.1 ((JR (Nat.le_refl _)).mem_iff.1 hi);refine⟨hi.2,?_⟩;rcases List.mem_cons.1 hi.1 with rfl|h3
     ·exact .inl rfl
     ·exact .inr ((List.pairwise_cons.1 hp).1 i h3)
   ·exact g3 c hc
end
def Fv (l:List Lot):List Int:=KR (Q6e l) (Qw (2 ^ l.length-1)) 0 (Qw (2 ^ l.length-1)).length
def alC (l:List Lot) (tl:Int) (i k:Int):Bool:=Kj l tl (Qw (2 ^ i.toNat ||| 2 ^ k.toNat))
def C1 (l:List Lot) (tl:Int):List Int×List (List Int):=VD (alC l tl) (Fv l).length (Fv l)
def Lw (l:List Lot) (tl:Int):List Int:=KR K6 (C1 l tl).1 0 (C1 l tl).1.length
def Sy (l:List Lot) (tl:Int):List (List Int):=KR (fun p:List Int×List Int=>H4 p.1 p.2) (C1 l tl).2 0 (C1 l tl).2.length
def Zn (l:List Lot) (tl:Int):Int:=if K9 l tl≠0 then K9 l tl else if Uc l tl then 0 else 9
def N_ (l:List Lot) (tl:Int):List Int:=if Zn l tl=0 then Lw l tl else []
def W6 (l:List Lot) (tl:Int):List (List Int):=if Zn l tl=0 then Sy l tl else []
theorem Q2e (a b:Int):BJ a b =-BJ b a:=by unfold BJ;split<;>split<;>(try split)<;>omega
theorem Us:∀ a b:List Int,H4 a b =-H4 b a
 |[],[]=>rfl
 |[],_::_=>rfl
 |_::_,[]=>rfl
 |x::a,y::b=>by simp only[H4];have h:=Q2e x y;have ih:=Us a b;split<;>split<;>omega
theorem LC:∀ a b c:List Int,H4 a b≤0→H4 b c≤0→H4 a c≤0
 |[],_,[],_,_=>by simp[H4]
 |[],_,_::_,_,_=>by simp[H4]
 |_::_,[],_,h,_=>by simp[H4] at h
 |_::_,_::_,[],_,h=>by simp[H4] at h
 |x::a,y::b,z::c,h1,h2=>by simp only[H4] at h1 h2 ⊢;have ih:=LC a b c;unfold BJ at h1 h2 ⊢;by_cases e1:x<y<;>by_cases e2:y<x<;>by_cases e3:y<z<;>by_cases e4:z<y<;>by_cases e5:x<z<;>by_cases e6:z<x<;>simp only[e1,e2,e3,e4,e5,e6,if_true,if_false] at h1 h2 ⊢<;>first|omega|(simp at h1 h2 ⊢;first|omega|exact ih h1 h2)
theorem Z3v (xs:List (List Int)):(KR (fun p:List Int×List Int=>H4 p.1 p.2) xs 0 xs.length).Pairwise fun x y=>H4 x y≤0 :=
 (TX (f:=fun p:List Int×List Int=>H4 p.1 p.2) (fun x y h h2=>by have:=Us x y;dsimp only at h h2;omega) (fun x y z h1 h2 h3=>by
  dsimp only at h1 h2 h3;have a1:=Us x y;have a2:=Us y z;have a3:=Us x z;have:=LC x y z (by omega) (by omega);omega) xs).imp fun {x y} h=>by
  dsimp only at h;have:=Us x y;omega
theorem Cy {l:List Lot}{x y:Int}:Q6e l (x,y)<0↔(l.getD x.toNat J_).1<(l.getD y.toNat J_).1∨(l.getD x.toNat J_).1=(l.getD y.toNat J_).1∧(l.getD x.toNat J_).2.1.1<(l.getD y.toNat J_).2.1.1:=by
 have e:∀ a b:Int,orI [a,b]=if a≠0 then a else b:=fun a b=>by
  unfold orI;by_cases h:a=0
  ·subst h;by_cases h2:b=0
   ·subst h2;rfl
   ·simp[h2]
  ·simp[h]
 unfold Q6e;rw[e];dsimp only;generalize (l.getD x.toNat J_).1=c1;generalize (l.getD y.toNat J_).1=c2;unfold BJ;split<;>split<;>(try split)<;>(try split)<;>omega
theorem Z5y (l:List Lot) (xs:List Int):(KR (Q6e l) xs 0 xs.length).Pairwise fun x y=>¬ Q6e l (y,x)<0 :=
 TX (fun x y h h2=>by rw[Cy] at h h2;omega) (fun x y z h1 h2 h3=>by rw[Cy] at h1 h2 h3;omega) xs
theorem Q4w {n:Nat}(hn:n≤64):Qw (2 ^ n-1)=(List.range n).map fun (k:Nat)=>(k:Int):=by rw[Fb (m:=n) (by have:=Nat.two_pow_pos n;omega) hn];unfold CF;rw[List.filter_eq_self.2 fun k hk=>by rw[Nat.testBit_two_pow_sub_one];simpa using hk]
theorem TO {l:List Lot}(h:l.length≤12):(Fv l).Perm ((List.range l.length).map fun (k:Nat)=>(k:Int)):=by unfold Fv;rw[←Q4w (by omega)];exact JR (Nat.le_refl _)
theorem Gx {l:List Lot}(h:l.length≤12) {i:Int}:i∈Fv l↔0≤i∧i<l.length:=by
 rw[(TO h).mem_iff,List.mem_map];constructor
 ·rintro⟨k,hk,rfl⟩;have:=List.mem_range.1 hk;omega
 ·intro h2;exact⟨i.toNat,List.mem_range.2 (by omega),by omega⟩
theorem Au {l:List Lot}{tl i k:Int}(hl:l.length≤12) (hi:0≤i∧i<l.length) (hk:0≤k∧k<l.length):alC l tl i k=alP l tl i k:=by unfold alC;rw[EU (by omega) (by omega),show ((i.toNat:Nat):Int)=i by omega,show ((k.toNat:Nat):Int)=k by omega]
theorem Aq {l:List Lot}{tl:Int}(hl:l.length≤12) (he:Uc l tl=true):∀ i∈Fv l,alC l tl i i=true:=fun i hi=>by
 have hi:=(Gx hl).1 hi;rw[Au hl hi hi];rw[Q3v hl] at he;have:=List.all_eq_true.1 he i.toNat (List.mem_range.2 (by omega))
 rwa [show ((i.toNat:Nat):Int)=i by omega] at this
theorem Q3j {l:List Lot}{tl:Int}(hl:l.length≤12) (ak:∀ y∈l,Xd y=true) (he:Uc l tl=true) :
  (Sy l tl).flatten.Perm ((List.range l.length).map fun (k:Nat)=>(k:Int))∧(∀ c∈Sy l tl,c.Pairwise (·≤·)∧c≠[]∧T9 (Uf l c) tl=true)∧(Sy l tl).Pairwise (fun x y=>H4 x y≤0) ∧
  (Lw l tl).Pairwise (·<·)∧(∀ i∈Lw l tl,0≤i∧i<l.length)∧(∀ i∈Lw l tl,∀ k∈Lw l tl,i≠k→alP l tl i k=false)∧(Lw l tl).length=(Sy l tl).length:=by
 have hr:=Aq hl he;have jt:=Z5y l (Qw (2 ^ l.length-1));obtain⟨g1,g2,g3⟩:=LV (al:=alC l tl) (Fv l).length (Fv l) hr jt (Nat.le_refl _);have gp:=La (al:=alC l tl) (Fv l).length (Fv l) hr (Nat.le_refl _);have gl:=EN (al:=alC l tl) (Fv l).length (Fv l);change ∀ h∈(C1 l tl).1,h∈Fv l at g1;change (C1 l tl).1.Pairwise _ at g2;change ∀ c∈(C1 l tl).2,_ at g3;change (C1 l tl).2.flatten.Perm _ at gp;change (C1 l tl).1.length=(C1 l tl).2.length at gl;have hC:(Sy l tl).Perm (C1 l tl).2:=JR (Nat.le_refl _);have hH:(Lw l tl).Perm (C1 l tl).1:=JR (Nat.le_refl _);have aM:∀ i∈(C1 l tl).1,0≤i∧i<l.length:=fun i hi=>(Gx hl).1 (g1 i hi);have mc:∀ c∈(C1 l tl).2,∀ i∈c,0≤i∧i<l.length:=fun c hc i hi=>(Gx hl).1 (gp.mem_iff.1 (List.mem_flatten.2 ⟨c,hc,hi⟩));have eO:(C1 l tl).1.Nodup:=by refine g2.imp_of_mem fun {a b} ha _ h e=>?_;subst e;rw[hr a (g1 a ha)] at h;cases h
 refine⟨(hC.flatten.trans gp).trans (TO hl),fun c hc=>?_,Z3v _,Z3d eO,fun i hi=>aM i (hH.mem_iff.1 hi),fun i hi k hk aC=>?_,?_⟩
 ·have hc:=hC.mem_iff.1 hc;obtain⟨s1,h,s2,s3⟩:=g3 c hc;have oD:=mc c hc h s2;refine⟨s1,List.ne_nil_of_mem s2,TA.2 fun i hi k hk=>?_⟩;have rn:=mc c hc i hi;have rp:=mc c hc k hk;obtain⟨a1,a2⟩:=s3 i hi;obtain⟨b1,b2⟩:=s3 k hk;rw[Au hl oD rn,Mr] at a1;rw[Au hl oD rp,Mr] at b1;obtain⟨p1,p2,p3,p4⟩:=a1;obtain⟨q1,q2,q3,q4⟩:=b1;refine Mr.2 ⟨p1.symm.trans q1,?_,p4,q4⟩;have la:(l.getD h.toNat J_).2.1.1≤(l.getD i.toNat J_).2.1.1:=by
   rcases a2 with rfl|a2
   ·exact Int.le_refl _
   ·rw[Cy] at a2;omega
  have lb:(l.getD h.toNat J_).2.1.1≤(l.getD k.toNat J_).2.1.1:=by
   rcases b2 with rfl|b2
   ·exact Int.le_refl _
   ·rw[Cy] at b2;omega
  unfold FJ at p2 q2 ⊢;simp only[Nf] at p2 q2 ⊢;omega
 ·have bI:=hH.mem_iff.1 hi;have ju:=hH.mem_iff.1 hk;have key:alC l tl i k=false∨alC l tl k i=false:=by
   obtain⟨p,hp,rfl⟩:=List.getElem_of_mem bI;obtain⟨q,hq,rfl⟩:=List.getElem_of_mem ju;rcases Nat.lt_trichotomy p q with h|h|h
   ·exact .inl (List.pairwise_iff_getElem.1 g2 p q hp hq h)
   ·subst h;exact(aC rfl).elim
   ·exact .inr (List.pairwise_iff_getElem.1 g2 q p hq hp h)
  rcases key with h|h
  ·rwa [Au hl (aM i bI) (aM k ju)] at h
  ·rw[Au hl (aM k ju) (aM i bI)] at h;cases h2:alP l tl i k with
   |false=>rfl
   |true=>rw[Ih h2] at h;cases h
 ·rw[hH.length_eq,hC.length_eq,gl]
theorem Mp {α:Type}{a b:List α}(h:a.Perm b):a.isEmpty=b.isEmpty:=by have:=h.length_eq;cases a<;>cases b<;>simp_all
theorem RX {i:Int}(h0:0≤i) (h:i≤63):M1 .u64 1 i=((2 ^ i.toNat:Nat):Int):=by unfold M1;rw[show Nat.min i.toNat (IntKind.bits .u64)=i.toNat from Nat.min_eq_left (show i.toNat≤64 by omega),Int.one_mul];simp
theorem Z22 {a b:Nat}(ha:a<2 ^ 64) (hb:b<2 ^ 64):NX .or .u64 (a:Int) (b:Int)=((a ||| b:Nat):Int):=by
 have e:(BitVec.ofInt 64 ((a:Nat):Int) ||| BitVec.ofInt 64 ((b:Nat):Int)).toNat=a ||| b:=by rw[BitVec.toNat_or,BitVec.toNat_ofInt,BitVec.toNat_ofInt];congr 1<;>omega
 have ah:=Nat.or_lt_two_pow ha hb;show IntKind.wrap .u64 ((BitVec.ofInt 64 ((a:Nat):Int) ||| BitVec.ofInt 64 ((b:Nat):Int)).toNat:Int)=_;rw[e];simp[IntKind.wrap,IntKind.bits,IntKind.signed];omega
theorem Q4p {i k:Int}(hi:0≤i∧i≤12) (hk:0≤k∧k≤12):NX .or .u64 (M1 .u64 1 i) (M1 .u64 1 k)=((2 ^ i.toNat ||| 2 ^ k.toNat:Nat):Int):=by rw[RX hi.1 (by omega),RX hk.1 (by omega)];exact Z22 (Nat.pow_lt_pow_right (by omega) (by omega)) (Nat.pow_lt_pow_right (by omega) (by omega))
theorem BE {n:Nat}(h:n≤12):2 ^ n≤4096:=Nat.pow_le_pow_right (n:=2) (by omega) h
theorem Cv {l:List Lot}{tl e:Int}(h:Zn l tl=e) (h0:e≠0):N_ l tl=[]∧W6 l tl=[]:=by unfold N_ W6;rw[if_neg (by omega),if_neg (by omega)];exact⟨rfl,rfl⟩
end Go.Proofs.Tryz
namespace Go.Proofs.Tryz
open Go Go.V Go.Proofs
def Vh:AL ((List (Int×(Int×Int)×Int))×Int):=(.one (.agg (.cons (.k (.list (.pair (.i .i64) (.pair (.pair (.i .i64) (.i .i64)) (.i .i64))))) (.one (.k (.i .i64))))))
def GC (d:(List (Int×(Int×Int)×Int))×Int):Prop:=d.1.length≤12∧(∀ y∈d.1,Xd y=true)
def Kd (d:(List (Int×(Int×Int)×Int))×Int):SV:=.val .bo (Uc d.1 d.2)
def Kl (d:(List (Int×(Int×Int)×Int))×Int):List OB:=[]
def Ww:CSp:=Wi Vh GC Kd Kl
def JG (l:List (Int×(Int×Int)×Int)) (tl:Int):Prop :=
 ∃ (e3:Unit) (d30:Int),((True∧(lI l)=(lI l)∧(0:Int)=d30∧True)∧((l=l∧tl=tl∧(([]:List SV)=[]))∧True)) ∧
 LoopP (fun (d3:Int) (q3:(Int)→Prop) =>
  ((decide (d3<(lI l)))=true →
   (0≤d3)∧(InK .u64 (M1 .u64 (1:Int) d3))∧(l.length≤12∧(∀ y∈l,Xd y=true)∧0<(M1 .u64 (1:Int) d3)∧(M1 .u64 (1:Int) d3)<2 ^ l.length)∧((!(Kj l tl (Qw (M1 .u64 (1:Int) d3).toNat)))=true →
    (false=(Uc l tl)∧(True))) ∧
   ((!(Kj l tl (Qw (M1 .u64 (1:Int) d3).toNat)))=false →
    (I64 (d3+(1:Int)))∧(∃ d4:Int,((True∧(lI l)=(lI l)∧(d3+(1:Int))=d4∧True)∧((l=l∧tl=tl∧(([]:List SV)=[]))∧True))∧q3 d4))) ∧
  ((decide (d3<(lI l)))=false →
   (true=(Uc l tl)∧(True)))) d30
def Vd:Cx:=⟨[],[(89,JH)],16,[],0,[],[],[],[],false,[],[],[],[]⟩
def Dv (l:List (Int×(Int×Int)×Int)) (tl:Int):List (Nat×LoopAnn):=[(0,⟨Unit,Int,[1,6,7],fun e x=>[.box 1 0,.val (.i .i64) (((List.length l):Nat):Int),.val (.i .i64) x],fun e x=>[(1,.slot 1,.cells [.val (.list (.pair (.i .i64) (.pair (.pair (.i .i64) (.i .i64)) (.i .i64)))) l,.val (.i .i64) tl] (some 113))]⟩)]
theorem Dn (d:(List (Int×(Int×Int)×Int))×Int):gwp (Vd) (Dv d.1 d.2) c71 0 (YU [.tmp 2] (Kd d) (Kl d)) (Qh 16 (AL.can Vh d))=JG d.1 d.2:=by kernel_rfl
abbrev DG:Prop:=OkC Tryz.prog 71 Ww
theorem DD (h:∀ (l:List (Int×(Int×Int)×Int)) (tl:Int),(l.length≤12∧(∀ y∈l,Xd y=true))→JG l tl):OkC Tryz.prog 71 Ww :=
 QB Z0r mixed (C:=Vd) (V:=fun (d:(List (Int×(Int×Int)×Int))×Int)=>JG d.1 d.2) ⟨(.cons Kh .nil),XsOk.nil,ItsOk.nil,YlOk.nil,IysOk.nil,XfOk.nil⟩ (Dn) fun d hp=>h d.1 d.2 hp
theorem Dz:DG:=DD fun l tl h=>by
 obtain⟨h1,h2⟩:=h;unfold JG;(try delta lI gD sT I64);refine⟨(),0,(by and_intros<;>first|rfl|trivial|simp),?_⟩;refine LoopP.count l.length (fun k=>∀ j,j<k→Kj l tl (Qw (2 ^ j))=true) (fun j hj=>by omega) ?_;rintro k hk hJ q hq;refine⟨fun c=>?_,fun c=>?_⟩
 ·have c:k<l.length:=by simp at c;omega
  have dL:M1 .u64 1 (k:Int)=((2 ^ k:Nat):Int):=RX (by omega) (by omega);have hp:=BE (n:=k) (by omega);have vE:=Nat.two_pow_pos k;have ah:2 ^ k<2 ^ l.length:=Nat.pow_lt_pow_right (by omega) c;have gJ:(2:Int) ^ l.length=((2 ^ l.length:Nat):Int):=by simp
  simp only[dL,Int.toNat_natCast,gJ];refine⟨by omega,by simp only[Du];omega,⟨h1,h2,by omega,by omega⟩,fun c2=>?_,fun c2=>?_⟩
  ·have c2:Kj l tl (Qw (2 ^ k))=false:=by simpa using c2
   have:Uc l tl=false:=by
    cases he:Uc l tl with
    |false=>rfl
    |true=>rw[List.all_eq_true.1 he k (List.mem_range.2 c)] at c2;cases c2
   rw[this];exact(by and_intros<;>first|rfl|trivial|simp)
  ·have c2:Kj l tl (Qw (2 ^ k))=true:=by simpa using c2
   refine⟨by simp only[QQ];omega,(k:Int)+1,(by and_intros<;>first|rfl|trivial|simp),hq c fun j hj=>?_⟩;by_cases e:j=k
   ·subst e;exact c2
   ·exact hJ j (by omega)
 ·have:Uc l tl=true:=List.all_eq_true.2 fun j hj=>hJ j (by have:=List.mem_range.1 hj;simp at c;omega);rw[this];exact(by and_intros<;>first|rfl|trivial|simp)
def YI:AL ((List (Int×(Int×Int)×Int))×Int):=(.one (.agg (.cons (.k (.list (.pair (.i .i64) (.pair (.pair (.i .i64) (.i .i64)) (.i .i64))))) (.one (.k (.i .i64))))))
def NU (d:(List (Int×(Int×Int)×Int))×Int):Prop:=d.1.length≤12∧(∀ y∈d.1,Xd y=true)∧Uc d.1 d.2=true
def Y5 (d:(List (Int×(Int×Int)×Int))×Int):SV:=.tup [.lst 0,.lst 1]
def Y3 (d:(List (Int×(Int×Int)×Int))×Int):List OB:=[.lst 3 (.i .i64) (Lw d.1 d.2) ((Lw d.1 d.2).isEmpty),.lst 34 (.list (.i .i64)) (Sy d.1 d.2) ((Sy d.1 d.2).isEmpty)]
def GG:CSp:=Wi YI NU Y5 Y3
def J2 (l:List (Int×(Int×Int)×Int)) (tl:Int):Prop :=
 (0≤(lI l))∧(InK .u64 (M1 .u64 (1:Int) (lI l)))∧(InK .u64 ((M1 .u64 (1:Int) (lI l))-(1:Int)))∧(0≤((M1 .u64 (1:Int) (lI l))-(1:Int))∧((M1 .u64 (1:Int) (lI l))-(1:Int))≤1048576)∧((Qw ((M1 .u64 (1:Int) (lI l))-(1:Int)).toNat).length≤12∧(∀ x∈(Qw ((M1 .u64 (1:Int) (lI l))-(1:Int)).toNat),∀ y∈(Qw ((M1 .u64 (1:Int) (lI l))-(1:Int)).toNat),(fun (x1:Int×Int)=>l.length≤12∧(∀ y∈l,Xd y=true)∧0≤x1.1∧x1.1<l.length∧0≤x1.2∧x1.2<l.length) (x,y)))∧∃ (e4:Unit) (d40:(List Int)×(List (List Int))×(List Int)),((True∧True∧True∧True∧True)∧((l=l∧tl=tl∧(([]:List SV)=[]))∧(d40.1=[]∧(List.isEmpty d40.1)=true)∧(d40.2.1=[]∧(List.isEmpty d40.2.1)=true)∧((KR (fun (x1:Int×Int)=>(Q6e l (x1.1,x1.2))) (Qw ((M1 .u64 (1:Int) (lI l))-(1:Int)).toNat) 0 (Qw ((M1 .u64 (1:Int) (lI l))-(1:Int)).toNat).length)=d40.2.2∧(Qw ((M1 .u64 (1:Int) (lI l))-(1:Int)).toNat).isEmpty=(List.isEmpty d40.2.2))∧True)) ∧
 LoopP (fun (d4:(List Int)×(List (List Int))×(List Int)) (q4:((List Int)×(List (List Int))×(List Int))→Prop) =>
  ((decide ((lI d4.2.2) > (0:Int)))=true →
   (0≤(0:Int))∧((0:Int)<(List.length d4.2.2))∧∃ (e9:(List Int)×(List (List Int))×Int×(List Int)×Int) (d90:(List Int)×(List Int)×Int),((True∧True∧True∧(gD d4.2.2 (0:Int) 0)=e9.2.2.1∧True∧True∧True∧(lI d4.2.2)=e9.2.2.2.2∧(0:Int)=d90.2.2∧True)∧((l=l∧tl=tl∧(([]:List SV)=[]))∧(d4.1=e9.1∧(List.isEmpty d4.1)=(List.isEmpty e9.1))∧(d4.2.1=e9.2.1∧(List.isEmpty d4.2.1)=(List.isEmpty e9.2.1))∧(d90.1=[]∧(List.isEmpty d90.1)=true)∧(d90.2.1=[]∧(List.isEmpty d90.2.1)=true)∧(d4.2.2=e9.2.2.2.1∧(List.isEmpty d4.2.2)=(List.isEmpty e9.2.2.2.1))∧True)) ∧
   LoopP (fun (d9:(List Int)×(List Int)×Int) (q9:((List Int)×(List Int)×Int)→Prop) =>
    ((decide (d9.2.2<e9.2.2.2.2))=true →
     (0≤d9.2.2)∧(d9.2.2<(List.length e9.2.2.2.1))∧(0≤e9.2.2.1)∧(InK .u64 (M1 .u64 (1:Int) e9.2.2.1))∧(0≤(gD e9.2.2.2.1 d9.2.2 0))∧(InK .u64 (M1 .u64 (1:Int) (gD e9.2.2.2.1 d9.2.2 0)))∧(l.length≤12∧(∀ y∈l,Xd y=true)∧0<(NX .or .u64 (M1 .u64 (1:Int) e9.2.2.1) (M1 .u64 (1:Int) (gD e9.2.2.2.1 d9.2.2 0)))∧(NX .or .u64 (M1 .u64 (1:Int) e9.2.2.1) (M1 .u64 (1:Int) (gD e9.2.2.2.1 d9.2.2 0)))<2 ^ l.length)∧((Kj l tl (Qw (NX .or .u64 (M1 .u64 (1:Int) e9.2.2.1) (M1 .u64 (1:Int) (gD e9.2.2.2.1 d9.2.2 0))).toNat))=true →
      (((List.length d9.1)+(List.length [(gD e9.2.2.2.1 d9.2.2 0)]))*8≤70368744177664)∧(I64 (d9.2.2+(1:Int)))∧(∃ d10:(List Int)×(List Int)×Int,((True∧True∧True∧e9.2.2.1=e9.2.2.1∧True∧True∧True∧e9.2.2.2.2=e9.2.2.2.2∧(d9.2.2+(1:Int))=d10.2.2∧True)∧((l=l∧tl=tl∧(([]:List SV)=[]))∧(e9.1=e9.1∧(List.isEmpty e9.1)=(List.isEmpty e9.1))∧(e9.2.1=e9.2.1∧(List.isEmpty e9.2.1)=(List.isEmpty e9.2.1))∧((d9.1++[(gD e9.2.2.2.1 d9.2.2 0)])=d10.1∧false=(List.isEmpty d10.1))∧(d9.2.1=d10.2.1∧(List.isEmpty d9.2.1)=(List.isEmpty d10.2.1))∧(e9.2.2.2.1=e9.2.2.2.1∧(List.isEmpty e9.2.2.2.1)=(List.isEmpty e9.2.2.2.1))∧True))∧q9 d10)) ∧
     ((Kj l tl (Qw (NX .or .u64 (M1 .u64 (1:Int) e9.2.2.1) (M1 .u64 (1:Int) (gD e9.2.2.2.1 d9.2.2 0))).toNat))=false →
      (((List.length d9.2.1)+(List.length [(gD e9.2.2.2.1 d9.2.2 0)]))*8≤70368744177664)∧(I64 (d9.2.2+(1:Int)))∧(∃ d11:(List Int)×(List Int)×Int,((True∧True∧True∧e9.2.2.1=e9.2.2.1∧True∧True∧True∧e9.2.2.2.2=e9.2.2.2.2∧(d9.2.2+(1:Int))=d11.2.2∧True)∧((l=l∧tl=tl∧(([]:List SV)=[]))∧(e9.1=e9.1∧(List.isEmpty e9.1)=(List.isEmpty e9.1))∧(e9.2.1=e9.2.1∧(List.isEmpty e9.2.1)=(List.isEmpty e9.2.1))∧(d9.1=d11.1∧(List.isEmpty d9.1)=(List.isEmpty d11.1))∧((d9.2.1++[(gD e9.2.2.2.1 d9.2.2 0)])=d11.2.1∧false=(List.isEmpty d11.2.1))∧(e9.2.2.2.1=e9.2.2.2.1∧(List.isEmpty e9.2.2.2.1)=(List.isEmpty e9.2.2.2.1))∧True))∧q9 d11))) ∧
    ((decide (d9.2.2<e9.2.2.2.2))=false →
     (d9.1.length≤12)∧(((List.length e9.1)+(List.length [e9.2.2.1]))*8≤70368744177664)∧(((List.length e9.2.1)+(List.length [(KR K6 d9.1 0 d9.1.length)]))*24≤70368744177664)∧(∃ d12:(List Int)×(List (List Int))×(List Int),((True∧True∧True∧True∧True)∧((l=l∧tl=tl∧(([]:List SV)=[]))∧((e9.1++[e9.2.2.1])=d12.1∧false=(List.isEmpty d12.1))∧((e9.2.1++[(KR K6 d9.1 0 d9.1.length)])=d12.2.1∧false=(List.isEmpty d12.2.1))∧(d9.2.1=d12.2.2∧(List.isEmpty d9.2.1)=(List.isEmpty d12.2.2))∧True))∧q4 d12))) d90) ∧
  ((decide ((lI d4.2.2) > (0:Int)))=false →
   (d4.1.length≤12)∧(d4.2.1.length≤12∧(∀ x∈d4.2.1,∀ y∈d4.2.1,(fun (x2:List Int×List Int)=>x2.1.length≤1000∧x2.2.length≤1000) (x,y)))∧((True∧True∧(([]:List SV)=[]))∧(((KR K6 d4.1 0 d4.1.length)=(Lw l tl)∧(List.isEmpty d4.1)=(Lw l tl).isEmpty)∧((KR (fun (x2:List Int×List Int)=>(H4 x2.1 x2.2)) d4.2.1 0 d4.2.1.length)=(Sy l tl)∧(List.isEmpty d4.2.1)=(Sy l tl).isEmpty)∧True)))) d40
def YV:Cx:=⟨[(3,(.i .i64)),(34,(.list (.i .i64)))],[(87,WA),(111,ZG),(89,JH),(92,Zd)],64,[3,53,55,56,60,63],0,[(110,Z4),(112,Xp),(113,J7)],[],[(34,3)],[],false,[],[],[],[]⟩
def YK (l:List (Int×(Int×Int)×Int)) (tl:Int):List (Nat×LoopAnn):=[(0,⟨Unit,(List Int)×(List (List Int))×(List Int),[1,2,3,4],fun e x=>[.box 1 0,.lst 52,.lst 56,.lst 15],fun e x=>[(1,.slot 1,.cells [.val (.list (.pair (.i .i64) (.pair (.pair (.i .i64) (.i .i64)) (.i .i64)))) l,.val (.i .i64) tl] (some 113)),(52,.slot 2,.lst 3 (.i .i64) x.1 (List.isEmpty x.1)),(56,.slot 3,.lst 34 (.list (.i .i64)) x.2.1 (List.isEmpty x.2.1)),(15,.slot 4,.lst 3 (.i .i64) x.2.2 (List.isEmpty x.2.2))]⟩),
 (2,⟨(List Int)×(List (List Int))×Int×(List Int)×Int,(List Int)×(List Int)×Int,[1,2,3,5,6,7,25,26,27],fun e x=>[.box 1 0,.lst 52,.lst 56,.val (.i .i64) e.2.2.1,.lst 41,.lst 45,.lst 15,.val (.i .i64) e.2.2.2.2,.val (.i .i64) x.2.2],fun e x=>[(1,.slot 1,.cells [.val (.list (.pair (.i .i64) (.pair (.pair (.i .i64) (.i .i64)) (.i .i64)))) l,.val (.i .i64) tl] (some 113)),(52,.slot 2,.lst 3 (.i .i64) e.1 (List.isEmpty e.1)),(56,.slot 3,.lst 34 (.list (.i .i64)) e.2.1 (List.isEmpty e.2.1)),(41,.slot 6,.lst 3 (.i .i64) x.1 (List.isEmpty x.1)),(45,.slot 7,.lst 3 (.i .i64) x.2.1 (List.isEmpty x.2.1)),(15,.slot 25,.lst 3 (.i .i64) e.2.2.2.1 (List.isEmpty e.2.2.2.1))]⟩)]
theorem MM (d:(List (Int×(Int×Int)×Int))×Int):gwp (YV) (YK d.1 d.2) c72 0 (YU [.tmp 2,.tmp 3] (Y5 d) (Y3 d)) (Qh 64 (AL.can YI d))=J2 d.1 d.2:=by kernel_rfl
def XN:XSp:=callV Rv GG
abbrev M8:Prop:=XOk Tryz.prog 72 XN
theorem Mf (h:∀ (l:List (Int×(Int×Int)×Int)) (tl:Int),(l.length≤12∧(∀ y∈l,Xd y=true)∧Uc l tl=true)→J2 l tl):XOk Tryz.prog 72 XN :=
 Ai Z0b mixed UF (C:=YV) ⟨(.cons NH (.cons WT (.cons Kh (.cons XV .nil)))),(XsOk.cons WJ (XsOk.cons Nd (XsOk.cons V7 XsOk.nil))),ItsOk.nil,YlOk.nil,IysOk.nil,XfOk.nil⟩ (L:=fun (d:(List (Int×(Int×Int)×Int))×Int)=>YK d.1 d.2) (V:=fun (d:(List (Int×(Int×Int)×Int))×Int)=>J2 d.1 d.2) (MM) fun d hp=>h d.1 d.2 hp
theorem NO:M8:=Mf fun l tl h=>by
 obtain⟨⟨h1,h2⟩,h3⟩:(l.length≤12∧∀ y∈l,Xd y=true)∧Uc l tl=true:=⟨⟨h.1,h.2.1⟩,h.2.2⟩;unfold J2;(try delta lI gD sT I64);have dO:=BE h1;have vE:=Nat.two_pow_pos l.length;have dL:M1 .u64 1 (l.length:Int)=((2 ^ l.length:Nat):Int):=RX (by omega) (by omega);have fE:(((2 ^ l.length:Nat):Int)-1).toNat=2 ^ l.length-1:=by omega
 have gJ:(2:Int) ^ l.length=((2 ^ l.length:Nat):Int):=by simp
 simp only[dL,fE,gJ];have aJ:∀ x∈Qw (2 ^ l.length-1),0≤x∧x<l.length:=fun x hx=>FP (m:=l.length) (by omega) (by omega) x hx;have vF:(Qw (2 ^ l.length-1)).isEmpty=(Fv l).isEmpty:=(Mp (JR (Nat.le_refl _))).symm;have s5:=Aq h1 h3;have s6:∀ i:Int,0≤i→i≤12→InK .u64 (M1 .u64 1 i):=fun i a b=>by
  rw[RX a (by omega)];have:=BE (n:=i.toNat) (by omega);simp only[Du];generalize 2 ^ i.toNat=z at *
  omega
 refine⟨by omega,by simp only[Du];omega,by simp only[Du];omega,⟨by omega,by omega⟩,⟨Nat.le_trans (LS (m:=l.length) (by omega) (by omega)) h1,fun x hx y hy=>⟨h1,h2,(aJ x hx).1,(aJ x hx).2,(aJ y hy).1,(aJ y hy).2⟩⟩,(),([],[],Fv l),(by and_intros<;>first|rfl|trivial|exact vF|simp),?_⟩;refine⟨fun d=>(C1 l tl).1=d.1++(VD (alC l tl) d.2.2.length d.2.2).1∧(C1 l tl).2=d.2.1++(VD (alC l tl) d.2.2.length d.2.2).2∧(∀ i∈d.2.2,0≤i∧i<l.length)∧d.1.length+d.2.2.length≤12∧d.2.1.length=d.1.length∧∀ c∈d.2.1,c.length≤12,fun d=>d.2.2.length,⟨rfl,rfl,fun i hi=>(Gx h1).1 hi,by have:=(TO h1).length_eq;simp at this ⊢;omega,rfl,(fun c hc=>by cases hc)⟩,?_⟩;rintro⟨H,C,left⟩ ⟨i1,i2,i3,i4,i5,i6⟩;dsimp only at i1 i2 i3 i4 i5 i6 ⊢;refine⟨fun c=>?_,fun c=>?_⟩
 ·cases left with
  |nil=>simp at c
  |cons h t =>
  have aM:=i3 h (List.mem_cons_self ..);have vG:alC l tl h h=true:=s5 h ((Gx h1).2 aM);refine⟨by omega,by simp,(H,C,h,h::t,((h::t).length:Int)),([],[],0),(by and_intros<;>first|rfl|trivial|simp),?_⟩;dsimp only;refine⟨fun d=>∃ k:Nat,d.2.2=k∧k≤(h::t).length∧d.1=((h::t).take k).filter (alC l tl h)∧d.2.1=((h::t).take k).filter (fun i=>!alC l tl h i),fun d=>(h::t).length-d.2.2.toNat,⟨0,rfl,by omega,rfl,rfl⟩,?_⟩;rintro⟨c1,r1,k'⟩ ⟨k,e1,e2,e3,e4⟩;dsimp only at e1 e3 e4 ⊢;subst e1;have eL:c1.length≤12:=by rw[e3];have:=List.length_filter_le (alC l tl h) ((h::t).take k);rw[List.length_take] at this;omega
  have en:r1.length≤12:=by rw[e4];have:=List.length_filter_le (fun i=>!alC l tl h i) ((h::t).take k);rw[List.length_take] at this;omega
  refine⟨fun g=>?_,fun g=>?_⟩
  ·have g:k<(h::t).length:=by simp at g ⊢;omega
   have hx:(h::t).getD k 0=(h::t)[k]:=Q6 g;have rr:=i3 _ (List.getElem_mem g);have oF:=QO g;simp only[Int.toNat_natCast,hx];generalize (h::t)[k]=x at rr oF;have hb:=Q4p (i:=h) (k:=x) (by omega) (by omega);have nc:0<2 ^ h.toNat ||| 2 ^ x.toNat:=Nat.lt_of_lt_of_le (Nat.two_pow_pos _) Nat.left_le_or
   have mn:2 ^ h.toNat ||| 2 ^ x.toNat<2 ^ l.length:=Nat.or_lt_two_pow (Nat.pow_lt_pow_right (by omega) (by omega)) (Nat.pow_lt_pow_right (by omega) (by omega))
   have wU:=BE (n:=h.toNat) (by omega);have wV:=BE (n:=x.toNat) (by omega);rw[hb];simp only[Int.toNat_natCast];have qm:Kj l tl (Qw (2 ^ h.toNat ||| 2 ^ x.toNat))=alC l tl h x:=rfl;rw[qm];refine⟨by omega,by omega,by omega,s6 h (by omega) (by omega),by omega,s6 x (by omega) (by omega),⟨h1,h2,by omega,by omega⟩,fun g2=>?_,fun g2=>?_⟩
   ·refine⟨by simp;omega,by simp only[QQ];omega,(c1++[x],r1,(k:Int)+1),(by and_intros<;>first|rfl|trivial|simp),⟨k+1,by simp,by omega,?_,?_⟩,by dsimp only;omega⟩
    ·dsimp only;rw[oF,List.filter_append,e3,List.filter_cons,if_pos g2];rfl
    ·dsimp only;rw[oF,List.filter_append,e4,List.filter_cons,if_neg (by simp[g2])];simp
   ·refine⟨by simp;omega,by simp only[QQ];omega,(c1,r1++[x],(k:Int)+1),(by and_intros<;>first|rfl|trivial|simp),⟨k+1,by simp,by omega,?_,?_⟩,by dsimp only;omega⟩
    ·dsimp only;rw[oF,List.filter_append,e3,List.filter_cons,if_neg (by simp[g2])];simp
    ·dsimp only;rw[oF,List.filter_append,e4,List.filter_cons,if_pos (by simp[g2])];rfl
  ·have hk:k=(h::t).length:=by simp at g ⊢;simp at e2;omega
   rw[hk,List.take_length] at e3 e4;have cF:r1.length≤t.length:=by rw[e4];exact C_ vG
   have vH:=Lj (al:=alC l tl) t.length r1.length r1 (fun i hi=>by rw[e4] at hi;exact s5 i ((Gx h1).2 (i3 i (List.mem_filter.1 hi).1))) cF (Nat.le_refl _);have hP:VD (alC l tl) (h::t).length (h::t)=(h::(VD (alC l tl) r1.length r1).1,KR K6 c1 0 c1.length::(VD (alC l tl) r1.length r1).2):=by rw[←vH,e3,e4];rfl
   simp only[List.length_cons] at i4;refine⟨eL,by simp;omega,by simp;omega,(H++[h],C++[KR K6 c1 0 c1.length],r1),(by and_intros<;>first|rfl|trivial|simp),⟨?_,?_,fun i hi=>?_,?_,?_,fun c hc=>?_⟩,?_⟩
   ·dsimp only;rw[i1,hP];simp
   ·dsimp only;rw[i2,hP];simp
   ·dsimp only at hi;rw[e4] at hi;exact i3 i (List.mem_filter.1 hi).1
   ·dsimp only;rw[List.length_append,List.length_singleton];omega
   ·dsimp only;rw[List.length_append,List.length_append,i5];rfl
   ·rcases List.mem_append.1 hc with hc|hc
    ·exact i6 c hc
    ·rw[List.mem_singleton.1 hc,(JR (Nat.le_refl _)).length_eq];exact eL
   ·dsimp only;rw[List.length_cons];omega
 ·cases left with
  |cons h t=>simp at c
  |nil =>
  have j1:(C1 l tl).1=H:=by rw[i1];simp[VD]
  have j2:(C1 l tl).2=C:=by rw[i2];simp[VD]
  have k1:H.isEmpty=(Lw l tl).isEmpty:=by unfold Lw;rw[j1];exact(Mp (JR (Nat.le_refl _))).symm
  have k2:C.isEmpty=(Sy l tl).isEmpty:=by unfold Sy;rw[j2];exact(Mp (JR (Nat.le_refl _))).symm
  have k3:KR K6 H 0 H.length=Lw l tl:=by unfold Lw;rw[j1]
  have k4:KR (fun p:List Int×List Int=>H4 p.1 p.2) C 0 C.length=Sy l tl:=by unfold Sy;rw[j2]
  simp only[List.length_nil] at i4;refine⟨by omega,⟨by omega,fun x hx y hy=>⟨Nat.le_trans (i6 x hx) (by omega),Nat.le_trans (i6 y hy) (by omega)⟩⟩,?_⟩;and_intros<;>first|rfl|trivial|exact k1|exact k2|exact k3|exact k4
def Bs:AL ((List (Int×(Int×Int)×Int))×Int):=(.cons (.k (.list (.pair (.i .i64) (.pair (.pair (.i .i64) (.i .i64)) (.i .i64))))) (.one (.k (.i .i64))))
def So (d:(List (Int×(Int×Int)×Int))×Int):Prop:=d.1.length≤1000
def D8 (d:(List (Int×(Int×Int)×Int))×Int):SV:=.tup [.lst 0,.lst 1,.val (.i .i64) (Zn d.1 d.2)]
def GX (d:(List (Int×(Int×Int)×Int))×Int):List OB:=[.lst 3 (.i .i64) (N_ d.1 d.2) ((N_ d.1 d.2).isEmpty),.lst 34 (.list (.i .i64)) (W6 d.1 d.2) ((W6 d.1 d.2).isEmpty)]
def Ec:CSp:=Wi Bs So D8 GX
def KJ (l:List (Int×(Int×Int)×Int)) (tl:Int):Prop :=
 ∀ w1:List Value,(l.length≤1000)∧(((ZB l)==(0:Int))=true→True)∧(((ZB l)==(0:Int))=true→[tl].length≤1000000)∧((((ZB l)==(0:Int))&&(!(!([tl].any fun n=>decide (n<(0:Int))||decide ((1000:Int)<n)))))=true →
  w1=w1∧(((3:Int) != (0:Int))=true →
   ((True∧True∧(3:Int)=(Zn l tl)∧(([]:List SV)=[]))∧(((N_ l tl)=[]∧(N_ l tl).isEmpty=true)∧((W6 l tl)=[]∧(W6 l tl).isEmpty=true)∧True))) ∧
  (((3:Int) != (0:Int))=false →
   (l.length≤12∧(∀ y∈l,Xd y=true))∧((!(Uc l tl))=true →
    ((True∧True∧(9:Int)=(Zn l tl)∧(([]:List SV)=[]))∧(((N_ l tl)=[]∧(N_ l tl).isEmpty=true)∧((W6 l tl)=[]∧(W6 l tl).isEmpty=true)∧True))) ∧
   ((!(Uc l tl))=false →
    (l.length≤12∧(∀ y∈l,Xd y=true)∧Uc l tl=true)∧((True∧True∧(0:Int)=(Zn l tl)∧(([]:List SV)=[]))∧(((Lw l tl)=(N_ l tl)∧(Lw l tl).isEmpty=(N_ l tl).isEmpty)∧((Sy l tl)=(W6 l tl)∧(Sy l tl).isEmpty=(W6 l tl).isEmpty)∧True))))) ∧
 ((((ZB l)==(0:Int))&&(!(!([tl].any fun n=>decide (n<(0:Int))||decide ((1000:Int)<n)))))=false →
  w1=w1∧(((ZB l) != (0:Int))=true →
   ((True∧True∧(ZB l)=(Zn l tl)∧(([]:List SV)=[]))∧(((N_ l tl)=[]∧(N_ l tl).isEmpty=true)∧((W6 l tl)=[]∧(W6 l tl).isEmpty=true)∧True))) ∧
  (((ZB l) != (0:Int))=false →
   (l.length≤12∧(∀ y∈l,Xd y=true))∧((!(Uc l tl))=true →
    ((True∧True∧(9:Int)=(Zn l tl)∧(([]:List SV)=[]))∧(((N_ l tl)=[]∧(N_ l tl).isEmpty=true)∧((W6 l tl)=[]∧(W6 l tl).isEmpty=true)∧True))) ∧
   ((!(Uc l tl))=false →
    (l.length≤12∧(∀ y∈l,Xd y=true)∧Uc l tl=true)∧((True∧True∧(0:Int)=(Zn l tl)∧(([]:List SV)=[]))∧(((Lw l tl)=(N_ l tl)∧(Lw l tl).isEmpty=(N_ l tl).isEmpty)∧((Sy l tl)=(W6 l tl)∧(Sy l tl).isEmpty=(W6 l tl).isEmpty)∧True)))))
def DY:Cx:=⟨[(3,(.i .i64))],[(57,Km),(58,XU),(71,Ww)],29,[1],0,[(51,HA),(72,XN)],[],[],[],false,[],[],[],[]⟩
def B3 (l:List (Int×(Int×Int)×Int)) (tl:Int):List (Nat×LoopAnn):=[]
theorem Cw (d:(List (Int×(Int×Int)×Int))×Int):gwp (DY) (B3 d.1 d.2) c31 0 (YU [.tmp 4,.tmp 5,.tmp 6] (D8 d) (GX d)) (Qh 29 (AL.can Bs d))=KJ d.1 d.2:=by kernel_rfl
def Mx:XSp:=callV Rv Ec
abbrev Cj:Prop:=XOk Tryz.prog 31 Mx
theorem Ce (h:∀ (l:List (Int×(Int×Int)×Int)) (tl:Int),(l.length≤1000)→KJ l tl):XOk Tryz.prog 31 Mx :=
 Ai Z02 mixed UF (C:=DY) ⟨(.cons G_ (.cons Vk (.cons Dz .nil))),(XsOk.cons Sl (XsOk.cons NO XsOk.nil)),ItsOk.nil,YlOk.nil,IysOk.nil,XfOk.nil⟩ (L:=fun (d:(List (Int×(Int×Int)×Int))×Int)=>B3 d.1 d.2) (V:=fun (d:(List (Int×(Int×Int)×Int))×Int)=>KJ d.1 d.2) (Cw) fun d hp=>h d.1 d.2 hp
theorem Ss:Cj:=Ce fun l tl h=>by
 unfold KJ;(try delta lI gD sT I64);have e:∀ n a b:Int,(decide (n<a)||decide (b<n))=!inI n a b:=fun n a b=>(nIb n a b).symm;simp only[List.any_cons,List.any_nil,Bool.or_false,e,Bool.not_not,List.length_cons,List.length_nil,Z3n,Bool.true_eq_false,true_and,and_true,beq_iff_eq,bne_iff_ne,ne_eq,bne_eq_false_iff_eq,Bool.not_eq_true',Bool.not_eq_false',false_implies,Bool.or_false,implies_true,forall_const];refine⟨h,by omega,fun hx=>?_,fun hx=>⟨fun a=>?_,fun a=>⟨T7 a,fun b=>?_,fun b=>⟨⟨(T7 a).1,(T7 a).2,b⟩,?_⟩⟩⟩⟩
 ·simp only[Bool.and_eq_true,beq_iff_eq,Bool.not_eq_true'] at hx;have o:K9 l tl=3:=by unfold K9;rw[if_neg (by omega),hx.2];rfl
  have e1:Zn l tl=3:=by unfold Zn;rw[o];rfl
  obtain⟨e2,e3⟩:=Cv e1 (by omega);rw[e1,e2,e3];exact(by and_intros<;>first|rfl|trivial|simp)
 ·have o:K9 l tl=ZB l:=by unfold K9;rw[if_pos a]
  have e1:Zn l tl=ZB l:=by unfold Zn;rw[o,if_pos a]
  obtain⟨e2,e3⟩:=Cv e1 a;rw[e1,e2,e3];exact(by and_intros<;>first|rfl|trivial|simp)
 ·have o:K9 l tl=0:=by
   unfold K9;rw[if_neg (by omega),if_neg];intro h2;rw[a,h2] at hx;cases hx
  have e1:Zn l tl=9:=by unfold Zn;rw[if_neg (by omega),b];rfl
  obtain⟨e2,e3⟩:=Cv e1 (by omega);rw[e1,e2,e3];exact(by and_intros<;>first|rfl|trivial|simp)
 ·have o:K9 l tl=0:=by
   unfold K9;rw[if_neg (by omega),if_neg];intro h2;rw[a,h2] at hx;cases hx
  have e1:Zn l tl=0:=by unfold Zn;rw[if_neg (by omega),if_pos b]
  have e2:N_ l tl=Lw l tl:=by unfold N_;rw[if_pos e1]
  have e3:W6 l tl=Sy l tl:=by unfold W6;rw[if_pos e1]
  rw[e1,e2,e3];exact(by and_intros<;>first|rfl|trivial|simp)
def Mq:AL ((List (Int×(Int×Int)×Int))×Int):=(.cons (.k (.list (.pair (.i .i64) (.pair (.pair (.i .i64) (.i .i64)) (.i .i64))))) (.one (.k (.i .i64))))
def Pa (d:(List (Int×(Int×Int)×Int))×Int):Prop:=d.1.length≤1000
def NI (d:(List (Int×(Int×Int)×Int))×Int):SV:=.tup [.lst 0,.val (.i .i64) (Zn d.1 d.2)]
def NG (d:(List (Int×(Int×Int)×Int))×Int):List OB:=[.lst 34 (.list (.i .i64)) (W6 d.1 d.2) ((W6 d.1 d.2).isEmpty)]
def Sb:CSp:=Wi Mq Pa NI NG
def WE (l:List (Int×(Int×Int)×Int)) (tl:Int):Prop :=
 (l.length≤1000)∧((True∧(Zn l tl)=(Zn l tl)∧(([]:List SV)=[]))∧(((W6 l tl)=(W6 l tl)∧(W6 l tl).isEmpty=(W6 l tl).isEmpty)∧True))
def Md:Cx:=⟨[],[],15,[],0,[(31,Mx)],[],[],[],false,[],[],[],[]⟩
def Mw (l:List (Int×(Int×Int)×Int)) (tl:Int):List (Nat×LoopAnn):=[]
theorem RK (d:(List (Int×(Int×Int)×Int))×Int):gwp (Md) (Mw d.1 d.2) c7 0 (YU [.tmp 4,.tmp 5] (NI d) (NG d)) (Qh 15 (AL.can Mq d))=WE d.1 d.2:=by kernel_rfl
def U6:XSp:=callV Rv Sb
abbrev RB:Prop:=XOk Tryz.prog 7 U6
theorem R5 (h:∀ (l:List (Int×(Int×Int)×Int)) (tl:Int),(l.length≤1000)→WE l tl):XOk Tryz.prog 7 U6 :=
 Ai Z7m mixed UF (C:=Md) ⟨.nil,(XsOk.cons Ss XsOk.nil),ItsOk.nil,YlOk.nil,IysOk.nil,XfOk.nil⟩ (L:=fun (d:(List (Int×(Int×Int)×Int))×Int)=>Mw d.1 d.2) (V:=fun (d:(List (Int×(Int×Int)×Int))×Int)=>WE d.1 d.2) (RK) fun d hp=>h d.1 d.2 hp
theorem Pq:RB:=R5 fun l tl h=>by unfold WE;(try delta lI gD sT I64);refine⟨h,?_⟩;exact(by and_intros<;>first|rfl|trivial|simp)
def Mj:AL (Int×Int×Int):=(.cons (.k (.i .i64)) (.cons (.ptr (.one (.k (.i .i64)))) (.one (.ptr (.one (.k (.i .i64)))))))
def Pt (d:Int×Int×Int):Prop:=True
def NK (d:Int×Int×Int):SV:=.val .bo (decide (d.1<d.2.1)||decide (d.2.2<d.1))
def NN (d:Int×Int×Int):List OB:=[]
def Um:CSp:=Wi Mj Pt NK NN
def V4 (n:Int) (a:Int) (b:Int):Prop :=
 (((decide (n<a))||(decide (n > b)))=(decide (n<a)||decide (b<n))∧(True))
def Mm:Cx:=⟨[],[],13,[],0,[],[],[],[],false,[],[],[],[]⟩
def RM (n:Int) (a:Int) (b:Int):List (Nat×LoopAnn):=[]
theorem S1 (d:Int×Int×Int):gwp (Mm) (RM d.1 d.2.1 d.2.2) Z54 0 (YU [.tmp 4] (NK d) (NN d)) (Qh 13 (AL.can Mj d))=V4 d.1 d.2.1 d.2.2:=by kernel_rfl
abbrev Rq:Prop:=OkC Tryz.prog 114 Um
theorem Tf (h:∀ (n:Int) (a:Int) (b:Int),(True)→V4 n a b):OkC Tryz.prog 114 Um :=
 QB Q6n mixed (C:=Mm) (V:=fun (d:Int×Int×Int)=>V4 d.1 d.2.1 d.2.2) ⟨.nil,XsOk.nil,ItsOk.nil,YlOk.nil,IysOk.nil,XfOk.nil⟩ (S1) fun d hp=>h d.1 d.2.1 d.2.2 hp
theorem RZ:Rq:=Tf fun n a b _=>by exact⟨rfl,trivial⟩
def Bo:AL (Int×Int×List Int):=(.cons (.k (.i .i64)) (.cons (.k (.i .i64)) (.one (.k (.list (.i .i64))))))
def L5 (d:Int×Int×List Int):Prop:=d.2.2.length≤1000000
def Dc (d:Int×Int×List Int):SV:=.val .bo (!(d.2.2.any fun n=>decide (n<d.1)||decide (d.2.1<n)))
def D5 (d:Int×Int×List Int):List OB:=[]
def MG:CSp:=Wi Bo L5 Dc D5
def Nb (a:Int) (b:Int) (l:List Int):Prop :=
 (l.length≤1000000∧∀ x∈l,(fun (x1:Int)=>True) x)∧((!(l.any (fun (x1:Int)=>(decide (x1<a)||decide (b<x1)))))=(!(l.any fun n=>decide (n<a)||decide (b<n)))∧(True))
def Bg:Cx:=⟨[],[(97,QF),(114,Um)],11,[],0,[],[],[],[],false,[],[],[],[]⟩
def Ab (a:Int) (b:Int) (l:List Int):List (Nat×LoopAnn):=[]
theorem Cf (d:Int×Int×List Int):gwp (Bg) (Ab d.1 d.2.1 d.2.2) c73 0 (YU [.tmp 6] (Dc d) (D5 d)) (Qh 11 (AL.can Bo d))=Nb d.1 d.2.1 d.2.2:=by kernel_rfl
abbrev Cs:Prop:=OkC Tryz.prog 73 MG
theorem CK (h:∀ (a:Int) (b:Int) (l:List Int),(l.length≤1000000)→Nb a b l):OkC Tryz.prog 73 MG :=
 QB Z1k mixed (C:=Bg) (V:=fun (d:Int×Int×List Int)=>Nb d.1 d.2.1 d.2.2) ⟨(.cons Jx (.cons RZ .nil)),XsOk.nil,ItsOk.nil,YlOk.nil,IysOk.nil,XfOk.nil⟩ (Cf) fun d hp=>h d.1 d.2.1 d.2.2 hp
theorem Cc:Cs:=CK fun a b l h=>by exact⟨⟨h,fun _ _=>trivial⟩,rfl,trivial⟩
def KX:AL (List Int):=(.one (.k (.list (.i .i64))))
def GA (d:List Int):Prop:=d.length≤1000000
def Kf (d:List Int):SV:=.val (.i .i64) (Q5 d)
def Kg (d:List Int):List OB:=[]
def Zf:CSp:=Wi KX GA Kf Kg
def JK (l:List Int):Prop :=
 ((decide ((lI l) > (96:Int)))=true →
  ((5:Int)=(Q5 l)∧(True))) ∧
 ((decide ((lI l) > (96:Int)))=false →
  (l.length≤1000000)∧((!(!(l.any fun n=>decide (n<(-1:Int))||decide ((95:Int)<n))))=true →
   ((2:Int)=(Q5 l)∧(True))) ∧
  ((!(!(l.any fun n=>decide (n<(-1:Int))||decide ((95:Int)<n))))=false →
   ((0:Int)=(Q5 l)∧(True))))
def Vy:Cx:=⟨[],[(73,MG)],11,[],0,[],[],[],[],false,[],[],[],[]⟩
def DF (l:List Int):List (Nat×LoopAnn):=[]
theorem DC (d:List Int):gwp (Vy) (DF d) c32 0 (YU [.tmp 2] (Kf d) (Kg d)) (Qh 11 (AL.can KX d))=JK d:=by kernel_rfl
abbrev DB:Prop:=OkC Tryz.prog 32 Zf
theorem Dp (h:∀ (l:List Int),(l.length≤1000000)→JK l):OkC Tryz.prog 32 Zf :=
 QB Z2p mixed (C:=Vy) (V:=fun (d:List Int)=>JK d) ⟨(.cons Cc .nil),XsOk.nil,ItsOk.nil,YlOk.nil,IysOk.nil,XfOk.nil⟩ (DC) fun d hp=>h d hp
theorem JI:DB:=Dp fun l hl=>by
 unfold JK;(try delta lI gD sT I64);simp only[and_true,decide_eq_true_eq,decide_eq_false_iff_not,gt_iff_lt,Bool.not_not];simp only[←nI];refine⟨fun h=>?_,fun h=>?_⟩
 ·have:96<l.length:=by omega
  simp[Q5,this]
 have h':¬ 96<l.length:=by omega
 have vI:Q5 l=if l.any (fun x=>!inI x (-1) 95) then 2 else 0:=by simp[Q5,h']
 rw[vI];exact⟨hl,fun h=>by rw[if_pos h],fun h=>by rw[h];rfl⟩
def D2:AL (List Int):=(.one (.k (.list (.i .i64))))
def TS (d:List Int):Prop:=d.length≤1000000
def Ga (d:List Int):SV:=.lst 0
def G8 (d:List Int):List OB:=[.lst 93 (.pair (.i .i64) (.i .i64)) (thr d) ((thr d).isEmpty)]
def Xw:CSp:=Wi D2 TS Ga G8
def YF (l:List Int):Prop :=
 ∃ (e3:Unit) (d30:(List (Int×Int))×Int),((True∧l=l∧(lI l)=(lI l)∧(0:Int)=d30.2∧True)∧((d30.1=[]∧(List.isEmpty d30.1)=true)∧True)) ∧
 LoopP (fun (d3:(List (Int×Int))×Int) (q3:((List (Int×Int))×Int)→Prop) =>
  ((decide (d3.2<(lI l)))=true →
   (0≤d3.2)∧(d3.2<(List.length l))∧(((gD l d3.2 0) != (-1:Int))=true →
    (((List.length d3.1)+(List.length [(d3.2,(gD l d3.2 0))]))*16≤70368744177664)∧(I64 (d3.2+(1:Int)))∧(∃ d4:(List (Int×Int))×Int,((True∧l=l∧(lI l)=(lI l)∧(d3.2+(1:Int))=d4.2∧True)∧(((d3.1++[(d3.2,(gD l d3.2 0))])=d4.1∧false=(List.isEmpty d4.1))∧True))∧q3 d4)) ∧
   (((gD l d3.2 0) != (-1:Int))=false →
    (I64 (d3.2+(1:Int)))∧(∃ d5:(List (Int×Int))×Int,((True∧l=l∧(lI l)=(lI l)∧(d3.2+(1:Int))=d5.2∧True)∧((d3.1=d5.1∧(List.isEmpty d3.1)=(List.isEmpty d5.1))∧True))∧q3 d5))) ∧
  ((decide (d3.2<(lI l)))=false →
   (True∧((d3.1=(thr l)∧(List.isEmpty d3.1)=(thr l).isEmpty)∧True)))) d30
def GN:Cx:=⟨[(93,(.pair (.i .i64) (.i .i64)))],[],22,[],0,[],[],[],[],false,[],[],[],[]⟩
def L1 (l:List Int):List (Nat×LoopAnn):=[(0,⟨Unit,(List (Int×Int))×Int,[2,5,6,7],fun e x=>[.lst 19,.val (.list (.i .i64)) l,.val (.i .i64) (((List.length l):Nat):Int),.val (.i .i64) x.2],fun e x=>[(19,.slot 2,.lst 93 (.pair (.i .i64) (.i .i64)) x.1 (List.isEmpty x.1))]⟩)]
theorem SX (d:List Int):gwp (GN) (L1 d) c33 0 (YU [.tmp 2] (Ga d) (G8 d)) (Qh 22 (AL.can D2 d))=YF d:=by kernel_rfl
abbrev Sa:Prop:=OkC Tryz.prog 33 Xw
theorem SQ (h:∀ (l:List Int),(l.length≤1000000)→YF l):OkC Tryz.prog 33 Xw :=
 QB Z1s mixed (C:=GN) (V:=fun (d:List Int)=>YF d) ⟨.nil,XsOk.nil,ItsOk.nil,YlOk.nil,IysOk.nil,XfOk.nil⟩ (SX) fun d hp=>h d hp
theorem Il (l:List Int) (n:Nat):(((List.range (n+1)).map fun (w:Nat)=>((w:Int),l.getD w 0)).filter fun p=>p.2 != -1)=(((List.range n).map fun (w:Nat)=>((w:Int),l.getD w 0)).filter fun p=>p.2 != -1)++if l.getD n 0 != -1 then [((n:Int),l.getD n 0)] else []:=by rw[List.range_succ,List.map_append,List.filter_append];congr 1;rw[List.map_cons,List.map_nil,List.filter_cons,List.filter_nil]
theorem YC:Sa:=SQ fun l hl=>by
 unfold YF;(try delta lI gD sT I64);simp only[true_and,and_true,exists_const,decide_eq_true_eq,decide_eq_false_iff_not,bne_iff_ne,ne_eq,bne_eq_false_iff_eq,QQ];refine⟨([],0),⟨by simp,by simp⟩,LoopP.count2 l.length (fun k d=>d=(((List.range k).map fun (w:Nat)=>((w:Int),l.getD w 0)).filter fun p=>p.2 != -1)) rfl fun k d hk hJ q hq=>?_⟩;subst hJ;have hlen:(((List.range k).map fun (w:Nat)=>((w:Int),l.getD w 0)).filter fun p=>p.2 != -1).length≤k:=Nat.le_trans (List.length_filter_le _ _) (by simp);simp only[Int.toNat_natCast,Int.ofNat_lt];refine⟨fun ah=>?_,fun bh=>?_⟩
 ·refine⟨by omega,ah,fun h=>?_,fun h=>?_⟩
  ·refine⟨by simp only[List.length_singleton];omega,by omega,(_,(k:Int)+1),⟨rfl,⟨rfl,by simp⟩⟩,hq _ ah ?_⟩;rw[Il l k,if_pos (bne_iff_ne.2 h)]
  ·refine⟨by omega,(_,(k:Int)+1),⟨rfl,⟨rfl,by simp⟩⟩,hq _ ah ?_⟩;rw[Il l k,if_neg (by rw[bne_iff_ne];exact fun e=>e h)];simp
 ·have:k=l.length:=by omega
  subst this;exact⟨rfl,rfl⟩
def HY:AL ((Int×Int)×Int×Int):=(.cons (.agg (.cons (.k (.i .i64)) (.one (.k (.i .i64))))) (.one (.agg (.cons (.k (.i .i64)) (.one (.k (.i .i64)))))))
def A8 (d:(Int×Int)×Int×Int):Prop:=True
def BC (d:(Int×Int)×Int×Int):SV:=.val .bo (decide (d.1.2≥d.2.2))
def Ba (d:(Int×Int)×Int×Int):List OB:=[]
def Yv:CSp:=Wi HY A8 BC Ba
def Mh (w1:Int) (e1:Int) (w2:Int) (e2:Int):Prop :=
 ((decide (e1≥e2))=(decide (e1≥e2))∧(True))
def P1:Cx:=⟨[],[],10,[],0,[],[],[],[],false,[],[],[],[]⟩
def E8 (w1:Int) (e1:Int) (w2:Int) (e2:Int):List (Nat×LoopAnn):=[]
theorem AH (d:(Int×Int)×Int×Int):gwp (P1) (E8 d.1.1 d.1.2 d.2.1 d.2.2) c34 0 (YU [.tmp 4] (BC d) (Ba d)) (Qh 10 (AL.can HY d))=Mh d.1.1 d.1.2 d.2.1 d.2.2:=by kernel_rfl
abbrev ED:Prop:=OkC Tryz.prog 34 Yv
theorem AM (h:∀ (w1:Int) (e1:Int) (w2:Int) (e2:Int),(True)→Mh w1 e1 w2 e2):OkC Tryz.prog 34 Yv :=
 QB Z0p mixed (C:=P1) (V:=fun (d:(Int×Int)×Int×Int)=>Mh d.1.1 d.1.2 d.2.1 d.2.2) ⟨.nil,XsOk.nil,ItsOk.nil,YlOk.nil,IysOk.nil,XfOk.nil⟩ (AH) fun d hp=>h d.1.1 d.1.2 d.2.1 d.2.2 hp
theorem VN:ED:=AM fun w1 e1 w2 e2 _=>⟨rfl,trivial⟩
def HN:AL ((Int×Int)×Int×Int):=(.cons (.agg (.cons (.k (.i .i64)) (.one (.k (.i .i64))))) (.one (.agg (.cons (.k (.i .i64)) (.one (.k (.i .i64)))))))
def A5 (d:(Int×Int)×Int×Int):Prop:=True
def BG (d:(Int×Int)×Int×Int):SV:=.val .bo (decide (d.1.2<d.2.2))
def Bf (d:(Int×Int)×Int×Int):List OB:=[]
def Dy:CSp:=Wi HN A5 BG Bf
def U1 (w1:Int) (e1:Int) (w2:Int) (e2:Int):Prop :=
 (True)∧((!(decide (e1≥e2)))=(decide (e1<e2))∧(True))
def HZ:Cx:=⟨[],[(34,Yv)],9,[],0,[],[],[],[],false,[],[],[],[]⟩
def E2 (w1:Int) (e1:Int) (w2:Int) (e2:Int):List (Nat×LoopAnn):=[]
theorem AQ (d:(Int×Int)×Int×Int):gwp (HZ) (E2 d.1.1 d.1.2 d.2.1 d.2.2) c39 0 (YU [.tmp 4] (BG d) (Bf d)) (Qh 9 (AL.can HN d))=U1 d.1.1 d.1.2 d.2.1 d.2.2:=by kernel_rfl
abbrev Ee:Prop:=OkC Tryz.prog 39 Dy
theorem Es (h:∀ (w1:Int) (e1:Int) (w2:Int) (e2:Int),(True)→U1 w1 e1 w2 e2):OkC Tryz.prog 39 Dy :=
 QB Q9j mixed (C:=HZ) (V:=fun (d:(Int×Int)×Int×Int)=>U1 d.1.1 d.1.2 d.2.1 d.2.2) ⟨(.cons VN .nil),XsOk.nil,ItsOk.nil,YlOk.nil,IysOk.nil,XfOk.nil⟩ (AQ) fun d hp=>h d.1.1 d.1.2 d.2.1 d.2.2 hp
theorem Em:Ee:=Es fun w1 e1 w2 e2 _=>by
 unfold U1;(try delta lI gD sT I64);simp only[true_and,and_true,ge_iff_le];by_cases h:e1<e2
 ·have:¬ e1≥e2:=by omega
  simp[h]
 ·have:e1≥e2:=by omega
  simp[h,this]
def YQ:AL (List Int):=(.one (.k (.list (.i .i64))))
def NW (d:List Int):Prop:=d≠[]∧d.length≤1000000∧∀ x∈d,0≤x
def Ye (d:List Int):SV:=.val (.i .i64) (PL d)
def Yb (d:List Int):List OB:=[]
def XL:CSp:=Wi YQ NW Ye Yb
def ZX (l:List Int):Prop :=
 ((decide ((lI l)<(1:Int)))=true →
  False) ∧
 ((decide ((lI l)<(1:Int)))=false →
  (0≤(0:Int))∧((0:Int)<(List.length l))∧∃ (e2:Unit) (d20:Int×Int),((l=l∧(gD l (0:Int) 0)=d20.1∧(1:Int)=d20.2∧True)∧(True)) ∧
  LoopP (fun (d2:Int×Int) (q2:(Int×Int)→Prop) =>
   ((decide (d2.2<(lI l)))=true →
    (0≤d2.2)∧(d2.2<(List.length l))∧(I64 (d2.2+(1:Int)))∧(∃ d3:Int×Int,((l=l∧(K0 d2.1 (gD l d2.2 0))=d3.1∧(d2.2+(1:Int))=d3.2∧True)∧(True))∧q2 d3)) ∧
   ((decide (d2.2<(lI l)))=false →
    (d2.1=(PL l)∧(True)))) d20)
def YL:Cx:=⟨[],[],25,[],0,[],[],[],[],false,[],[],[],[]⟩
def MN (l:List Int):List (Nat×LoopAnn):=[(0,⟨Unit,Int×Int,[0,3,4],fun e x=>[.val (.list (.i .i64)) l,.val (.i .i64) x.1,.val (.i .i64) x.2],fun e x=>[]⟩)]
theorem MJ (d:List Int):gwp (YL) (MN d) c75 0 (YU [.tmp 2] (Ye d) (Yb d)) (Qh 25 (AL.can YQ d))=ZX d:=by kernel_rfl
abbrev ML:Prop:=OkC Tryz.prog 75 XL
theorem MS (h:∀ (l:List Int),(l≠[]∧l.length≤1000000∧∀ x∈l,0≤x)→ZX l):OkC Tryz.prog 75 XL :=
 QB Q9w mixed (C:=YL) (V:=fun (d:List Int)=>ZX d) ⟨.nil,XsOk.nil,ItsOk.nil,YlOk.nil,IysOk.nil,XfOk.nil⟩ (MJ) fun d hp=>h d hp
theorem M9:ML:=MS fun l h=>by
 obtain⟨h1,h2,h3⟩:=h;have hl:0<l.length:=List.length_pos_iff.2 h1;unfold ZX;(try delta lI gD sT I64);simp only[true_and,and_true,exists_const,decide_eq_true_eq,decide_eq_false_iff_not,QQ];refine⟨fun h=>by omega,fun _=>⟨by omega,by omega,(l[0],1),⟨⟨by rw[show Int.toNat 0=0 from rfl,Q6 hl],rfl⟩,?_⟩⟩⟩;refine⟨fun d=>∃ k:Nat,1≤k∧k≤l.length∧d=((l.take k).foldl K0 0,(k:Int)),fun d=>l.length-d.2.toNat,⟨1,by omega,by omega,?_⟩,?_⟩
 ·have h0:=h3 _ (List.getElem_mem hl);rw[QO hl];simp only[List.take_zero,List.nil_append,List.foldl_cons,List.foldl_nil,K0];split<;>simp<;>omega
 ·rintro _ ⟨k,a9,au,rfl⟩;dsimp only;refine⟨fun ah=>?_,fun bh=>?_⟩
  ·have ah:k<l.length:=by omega
   refine⟨by omega,by omega,by omega,(_,_),⟨rfl,rfl⟩,⟨k+1,by omega,by omega,?_⟩,by simp;omega⟩;rw[QO ah,List.foldl_append,Int.toNat_natCast,Q6 ah,Prod.mk.injEq];exact⟨rfl,by omega⟩
  ·rw[List.take_of_length_le (by omega)];rfl
def TQ:AL (List Int):=(.one (.k (.list (.i .i64))))
def An (d:List Int):Prop:=d.length≤1000∧∀ x∈d,0≤x
def HI (d:List Int):SV:=.val (.i .i64) (PL d)
def HH (d:List Int):List OB:=[]
def Gs:CSp:=Wi TQ An HI HH
def N9 (l:List Int):Prop :=
 (((List.length [(0:Int)])+(List.length l))*8≤70368744177664)∧(([(0:Int)]++l)≠[]∧([(0:Int)]++l).length≤1000000∧∀ x∈([(0:Int)]++l),0≤x)∧((PL ([(0:Int)]++l))=(PL l)∧(True))
def Ta:Cx:=⟨[(3,(.i .i64))],[(75,XL)],7,[],0,[],[],[],[],false,[],[],[],[]⟩
def FL (l:List Int):List (Nat×LoopAnn):=[]
theorem Fe (d:List Int):gwp (Ta) (FL d) c38 0 (YU [.tmp 2] (HI d) (HH d)) (Qh 7 (AL.can TQ d))=N9 d:=by kernel_rfl
abbrev FK:Prop:=OkC Tryz.prog 38 Gs
theorem FQ (h:∀ (l:List Int),(l.length≤1000∧∀ x∈l,0≤x)→N9 l):OkC Tryz.prog 38 Gs :=
 QB Q9t mixed (C:=Ta) (V:=fun (d:List Int)=>N9 d) ⟨(.cons M9 .nil),XsOk.nil,ItsOk.nil,YlOk.nil,IysOk.nil,XfOk.nil⟩ (Fe) fun d hp=>h d hp
theorem S5:FK:=FQ fun l hl=>by
 unfold N9;(try delta lI gD sT I64);simp only[and_true,ne_eq];refine⟨by simp only[List.length_singleton];omega,⟨by simp,by simp;omega,?_⟩,?_⟩
 ·intro x hx;simp only[List.cons_append,List.nil_append,List.mem_cons] at hx;rcases hx with rfl|hx
  ·exact Int.le_refl _
  ·exact hl.2 x hx
 ·simp[PL,K0]
def Z6:Cx:=⟨[],[],4,[],0,[],[],[],[],false,[],[],[],[]⟩
def Z9:XSp:=Z36 Z6 (fun _=>[]) c74 [.tmp 2] 4
theorem JZ:XOk Tryz.prog 74 Z9:=Q24 Z0m mixed (C:=Z6) ⟨.nil,XsOk.nil,ItsOk.nil,YlOk.nil,IysOk.nil,XfOk.nil⟩ _
def GM:AL ((List (Int×Int))×(((Int×Int)×(Int×Int)→Prop)×((Int×Int)×(Int×Int)→Bool))):=(.cons (.k (.list (.pair (.i .i64) (.i .i64)))) (.one (.fn [(.pair (.i .i64) (.i .i64)),(.pair (.i .i64) (.i .i64))] .bo)))
def Rj (d:(List (Int×Int))×(((Int×Int)×(Int×Int)→Prop)×((Int×Int)×(Int×Int)→Bool))):Prop:=d.1.length≤1000∧∀ x∈d.1,∀ y∈d.1,d.2.1 (x,y)
def G7 (d:(List (Int×Int))×(((Int×Int)×(Int×Int)→Prop)×((Int×Int)×(Int×Int)→Bool))):SV:=.lst 0
def G3 (d:(List (Int×Int))×(((Int×Int)×(Int×Int)→Prop)×((Int×Int)×(Int×Int)→Bool))):List OB:=[.lst 3 (.i .i64) (WV (fun x y=>d.2.2 (x,y)) d.1) false]
def Ks:CSp:=Wi GM Rj G7 G3
def Yz (l:List (Int×Int)) (p:((Int×Int)×(Int×Int)→Prop)×((Int×Int)×(Int×Int)→Bool)):Prop :=
 (0≤(lI l))∧((lI l)≤(lI l))∧((lI l)*8≤70368744177664)∧((lI l)≤70368744177664)∧∀ w1:List Value,w1=w1∧(List.length l<4611686018427387904)∧∃ (e4:Unit) (d40:(List Int)),((True∧True∧True∧True)∧((l=l∧(([]:List SV)=[]))∧((SV.pf [(.pair (.i .i64) (.i .i64)),(.pair (.i .i64) (.i .i64))] .bo p.1 p.2=SV.pf [(.pair (.i .i64) (.i .i64)),(.pair (.i .i64) (.i .i64))] .bo p.1 p.2)∧(([]:List SV)=[]))∧(True∧(([]:List SV)=[]))∧((List.replicate (Int.toNat (lI l)) (0:Int))=d40∧false=false)∧True)) ∧
 Q65 (List.length l) (fun (k4:Nat) (d4:(List Int)) (q4:((List Int))→Prop)=>∀ w4:List Value,
  (0≤((lI l)-1-(k4:Int)))∧(((lI l)-1-(k4:Int))<(List.length d4))∧(I64 (((lI l)-1-(k4:Int))+(1:Int)))∧∃ (e7:Int×Int×Int×(List Value)) (d70:(List Int)×Int),((True∧True∧True∧((lI l)-1-(k4:Int))=e7.1∧True∧(((lI l)-1-(k4:Int))+(1:Int))=d70.2∧True)∧((l=l∧(([]:List SV)=[]))∧((SV.pf [(.pair (.i .i64) (.i .i64)),(.pair (.i .i64) (.i .i64))] .bo p.1 p.2=SV.pf [(.pair (.i .i64) (.i .i64)),(.pair (.i .i64) (.i .i64))] .bo p.1 p.2)∧(([]:List SV)=[]))∧(True∧(([]:List SV)=[]))∧((sT d4 ((lI l)-1-(k4:Int)) (1:Int))=d70.1∧false=false)∧((List.getD l (List.length l-1-k4) (0,0)).1=e7.2.1∧(List.getD l (List.length l-1-k4) (0,0)).2=e7.2.2.1∧(([]:List SV)=[]))∧(e7.2.2.2=w4∧(True∧True∧True∧True∧True∧True∧True∧True∧True∧True∧True∧True∧True∧True∧True∧True∧True∧True∧True∧True∧True∧True∧True∧True∧True∧True∧True∧True∧True∧True∧True∧True∧True∧True∧True∧True∧True∧True∧True∧True∧True∧True∧True∧True∧True∧True∧True∧True∧(([]:List SV)=[])))∧True)) ∧
  LoopP (fun (d7:(List Int)×Int) (q7:((List Int)×Int)→Prop) =>
   ((decide (d7.2<(lI l)))=true →
    (0≤d7.2)∧(d7.2<(List.length l))∧(p.1 ((e7.2.1,e7.2.2.1),((gD l d7.2 (0,0)).1,(gD l d7.2 (0,0)).2)))∧((p.2 ((e7.2.1,e7.2.2.1),((gD l d7.2 (0,0)).1,(gD l d7.2 (0,0)).2)))=true →
     (0≤e7.1)∧(e7.1<(List.length d7.1))∧(0≤d7.2)∧(d7.2<(List.length d7.1))∧(I64 ((gD d7.1 d7.2 0)+(1:Int)))∧(0≤e7.1)∧(e7.1<(List.length d7.1))∧(I64 (d7.2+(1:Int)))∧(∃ d8:(List Int)×Int,((True∧True∧True∧e7.1=e7.1∧True∧(d7.2+(1:Int))=d8.2∧True)∧((l=l∧(([]:List SV)=[]))∧((SV.pf [(.pair (.i .i64) (.i .i64)),(.pair (.i .i64) (.i .i64))] .bo p.1 p.2=SV.pf [(.pair (.i .i64) (.i .i64)),(.pair (.i .i64) (.i .i64))] .bo p.1 p.2)∧(([]:List SV)=[]))∧(True∧(([]:List SV)=[]))∧((sT d7.1 e7.1 (K0 (gD d7.1 e7.1 0) ((gD d7.1 d7.2 0)+(1:Int))))=d8.1∧false=false)∧(e7.2.1=e7.2.1∧e7.2.2.1=e7.2.2.1∧(([]:List SV)=[]))∧(e7.2.2.2=e7.2.2.2∧(True∧True∧True∧True∧True∧True∧True∧True∧True∧True∧True∧True∧True∧True∧True∧True∧True∧True∧True∧True∧True∧True∧True∧True∧True∧True∧True∧True∧True∧True∧True∧True∧True∧True∧True∧True∧True∧True∧True∧True∧True∧True∧True∧True∧True∧True∧True∧True∧(([]:List SV)=[])))∧True))∧q7 d8)) ∧
    ((p.2 ((e7.2.1,e7.2.2.1),((gD l d7.2 (0,0)).1,(gD l d7.2 (0,0)).2)))=false →
     (I64 (d7.2+(1:Int)))∧(∃ d9:(List Int)×Int,((True∧True∧True∧e7.1=e7.1∧True∧(d7.2+(1:Int))=d9.2∧True)∧((l=l∧(([]:List SV)=[]))∧((SV.pf [(.pair (.i .i64) (.i .i64)),(.pair (.i .i64) (.i .i64))] .bo p.1 p.2=SV.pf [(.pair (.i .i64) (.i .i64)),(.pair (.i .i64) (.i .i64))] .bo p.1 p.2)∧(([]:List SV)=[]))∧(True∧(([]:List SV)=[]))∧(d7.1=d9.1∧false=false)∧(e7.2.1=e7.2.1∧e7.2.2.1=e7.2.2.1∧(([]:List SV)=[]))∧(e7.2.2.2=e7.2.2.2∧(True∧True∧True∧True∧True∧True∧True∧True∧True∧True∧True∧True∧True∧True∧True∧True∧True∧True∧True∧True∧True∧True∧True∧True∧True∧True∧True∧True∧True∧True∧True∧True∧True∧True∧True∧True∧True∧True∧True∧True∧True∧True∧True∧True∧True∧True∧True∧True∧(([]:List SV)=[])))∧True))∧q7 d9))) ∧
   ((decide (d7.2<(lI l)))=false →
    e7.2.2.2=w4∧(∃ d10:(List Int),((True∧True∧True∧True)∧((l=l∧(([]:List SV)=[]))∧((SV.pf [(.pair (.i .i64) (.i .i64)),(.pair (.i .i64) (.i .i64))] .bo p.1 p.2=SV.pf [(.pair (.i .i64) (.i .i64)),(.pair (.i .i64) (.i .i64))] .bo p.1 p.2)∧(([]:List SV)=[]))∧(True∧(([]:List SV)=[]))∧(d7.1=d10∧false=false)∧True))∧q4 d10))) d70)
 (fun (d11:(List Int)) =>
  (True∧((d11=(WV (fun x y=>p.2 (x,y)) l)∧false=false)∧True))) d40
def De:Cx:=⟨[(3,(.i .i64))],[],48,[],0,[(74,Z9)],[(115,Z5d (.pair (.i .i64) (.i .i64)))],[],[],false,[],[],[],[]⟩
def SP (l:List (Int×Int)) (p:((Int×Int)×(Int×Int)→Prop)×((Int×Int)×(Int×Int)→Bool)):List (Nat×LoopAnn):=[(0,⟨Unit,(List Int),[2,3,5],fun e x=>[.box 2 0,.box 3 0,.box 5 0],fun e x=>[(2,.slot 2,.cells [.val (.list (.pair (.i .i64) (.i .i64))) l] (some 90)),(3,.slot 3,.cells [.pf [(.pair (.i .i64) (.i .i64)),(.pair (.i .i64) (.i .i64))] .bo p.1 p.2] (some 94)),(5,.slot 5,.cells [.lst 11] (some 34)),(11,.cell 5 0,.lst 3 (.i .i64) x false)]⟩),
 (2,⟨Int×Int×Int×(List Value),(List Int)×Int,[2,3,5,6,7,8],fun e x=>[.box 2 0,.box 3 0,.box 5 0,.val (.i .i64) e.1,.box 7 0,.val (.i .i64) x.2],fun e x=>[(2,.slot 2,.cells [.val (.list (.pair (.i .i64) (.i .i64))) l] (some 90)),(3,.slot 3,.cells [.pf [(.pair (.i .i64) (.i .i64)),(.pair (.i .i64) (.i .i64))] .bo p.1 p.2] (some 94)),(5,.slot 5,.cells [.lst 11] (some 34)),(11,.cell 5 0,.lst 3 (.i .i64) x.1 false),(7,.slot 7,.cells [.val (.i .i64) e.2.1,.val (.i .i64) e.2.2.1] (some 93)),(2000000,.key 2000000,.stk [.any,.any,.box 2 0,.box 3 0,.any,.box 5 0,.any,.any,.any,.any,.any,.any,.any,.any,.any,.any,.any,.any,.any,.any,.any,.any,.any,.any,.any,.any,.any,.any,.any,.any,.any,.any,.any,.any,.any,.any,.any,.any,.any,.any,.any,.any,.any,.any,.any,.any,.any,.any] e.2.2.2)]⟩)]
theorem Sx (d:(List (Int×Int))×(((Int×Int)×(Int×Int)→Prop)×((Int×Int)×(Int×Int)→Bool))):gwp (De) (SP d.1 d.2) c37 0 (YU [.tmp 4] (G7 d) (G3 d)) (Qh 48 (AL.can GM d))=Yz d.1 d.2:=by kernel_rfl
abbrev Sn:Prop:=OkC Tryz.prog 37 Ks
theorem SH (h:∀ (l:List (Int×Int)) (p:((Int×Int)×(Int×Int)→Prop)×((Int×Int)×(Int×Int)→Bool)),(l.length≤1000∧∀ x∈l,∀ y∈l,p.1 (x,y))→Yz l p):OkC Tryz.prog 37 Ks :=
 QB Q9u mixed (C:=De) (V:=fun (d:(List (Int×Int))×(((Int×Int)×(Int×Int)→Prop)×((Int×Int)×(Int×Int)→Bool)))=>Yz d.1 d.2) ⟨.nil,(XsOk.cons JZ XsOk.nil),(ItsOk.cons (Z5l Q4s mixed) ItsOk.nil),YlOk.nil,IysOk.nil,XfOk.nil⟩ (Sx) fun d hp=>h d.1 d.2 hp
theorem GO:Sn:=SH fun l p h=>by
 obtain⟨hl,hp⟩:=h;let R:=fun x y=>p.2 (x,y);have hlen:(WV R l).length=l.length:=DE l;unfold Yz;(try delta lI gD sT I64);simp only[true_and,and_true,exists_eq_left',exists_const,decide_eq_true_eq,decide_eq_false_iff_not,Int.toNat_natCast,QQ,PZ];refine⟨by omega,by omega,by omega,by omega,fun _=>⟨by omega,?_⟩⟩;refine⟨fun j d=>d.length=l.length∧∀ q:Nat,l.length-j≤q→q<l.length→d.getD q 0=(WV R l).getD q 0,⟨by simp,fun q h1 h2=>by omega⟩,?_,?_⟩
 ·rintro j d hj ⟨hd,hq⟩;have dZ:((l.length:Int)-1-(j:Int))=((l.length-1-j:Nat):Int):=by omega
  have hi:l.length-1-j<l.length:=by omega
  rw[dZ];generalize hI:l.length-1-j=i at *
  have hR:∀ k,i<k→k<l.length→(WV R l).getD k 0=((Y2 R (l.getD k (0,0)) (l.drop (k+1))+1:Nat):Int):=fun k _ hk=>by rw[BU hk,Q6 hk]
  have vJ:(WV R l).getD i 0=((Y2 R (l.getD i (0,0)) (l.drop (i+1))+1:Nat):Int):=by rw[BU hi,Q6 hi]
  intro w4;simp only[Int.toNat_natCast];refine⟨by omega,by omega,by omega,((i:Int),(l.getD i (0,0)).1,(l.getD i (0,0)).2,w4),(d.set i 1,(i:Int)+1),⟨by simp,by simp⟩,?_⟩;simp only[Int.toNat_natCast,PZ];refine⟨fun x=>∃ k:Nat,i+1≤k∧k≤l.length∧x.2=k∧x.1.length=l.length∧(∀ q:Nat,i<q→q<l.length→x.1.getD q 0=(WV R l).getD q 0)∧1≤x.1.getD i 0∧K0 (x.1.getD i 0) ((Y2 R (l.getD i (0,0)) (l.drop k):Nat)+1)=(WV R l).getD i 0,fun x=>l.length-x.2.toNat,⟨i+1,by omega,by omega,by simp,by simp[hd],?_,?_,?_⟩,?_⟩
  ·intro q h1 h2;have:(d.set i 1).getD q 0=d.getD q 0:=by simp only[List.getD_eq_getElem?_getD,List.getElem?_set_ne (show i≠q by omega)]
   rw[this];exact hq q (by omega) h2
  ·simp[hd,hi]
  ·rw[vJ];simp only[List.getD_eq_getElem?_getD,List.getElem?_set,hd,hi,if_true,Option.getD_some];unfold K0;split<;>omega
  ·rintro⟨x,_⟩ ⟨k,a9,au,rfl,hx,oG,o7,jL⟩;dsimp only at hx oG o7 jL ⊢;simp only[Int.toNat_natCast];refine⟨fun ah=>?_,fun bh=>?_⟩
   ·have ah:k<l.length:=by omega
    have cT:l.drop k=l.getD k (0,0)::l.drop (k+1):=by rw[List.drop_eq_getElem_cons ah,Q6 ah]
    have vK:=oG k (by omega) ah;have oC:=hR k (by omega) ah;have bp:=L_ (R:=R) (l:=l.drop (k+1)) (a:=l.getD k (0,0));have bW:(l.drop (k+1)).length≤1000:=by simp;omega
    rw[cT] at jL;refine⟨by omega,by omega,?_,fun hf=>?_,fun hf=>?_⟩
    ·rw[Q6 hi,Q6 ah];exact hp _ (List.getElem_mem hi) _ (List.getElem_mem ah)
    ·simp only[Y2,show R (l.getD i (0,0)) (l.getD k (0,0))=true from hf,if_true] at jL;have iW:(x.set i (K0 (x.getD i 0) (x.getD k 0+1))).getD i 0=K0 (x.getD i 0) (x.getD k 0+1):=by simp[hx,hi]
     refine⟨by omega,by omega,by omega,by omega,by omega,by omega,by omega,by omega,(x.set i (K0 (x.getD i 0) (x.getD k 0+1)),(k:Int)+1),⟨rfl,rfl⟩,⟨k+1,by omega,by omega,by simp,by simp[hx],fun q h1 h2=>?_,?_,?_⟩,by simp;omega⟩
     ·have:(x.set i (K0 (x.getD i 0) (x.getD k 0+1))).getD q 0=x.getD q 0:=by simp only[List.getD_eq_getElem?_getD,List.getElem?_set_ne (show i≠q by omega)]
      rw[this];exact oG q h1 h2
     ·rw[iW];unfold K0;split<;>omega
     ·rw[iW,←jL,vK,oC];generalize Y2 R (l.getD k (0,0)) (l.drop (k+1))=A;generalize Y2 R (l.getD i (0,0)) (l.drop (k+1))=B;generalize x.getD i 0=X;unfold K0;repeat' split;all_goals omega
    ·simp only[Y2] at jL;rw[if_neg (by rw[show R (l.getD i (0,0)) (l.getD k (0,0))=false from hf];simp)] at jL;refine⟨by omega,(x,(k:Int)+1),⟨rfl,rfl⟩,⟨k+1,by omega,by omega,by simp,hx,oG,o7,jL⟩,by simp;omega⟩
   ·have:k=l.length:=by omega
    subst this;refine⟨trivial,hx,fun q h1 h2=>?_⟩;by_cases vL:q=i
    ·subst vL;rw[←jL];simp only[List.drop_length,Y2];unfold K0;split<;>omega
    ·exact oG q (by omega) h2
 ·rintro d ⟨hd,hq⟩;apply List.ext_getElem (by rw[hd,hlen]);intro q h1 h2;have:=hq q (by omega) (by omega);rw[Q6 h1,Q6 h2] at this;exact this
def Ns:AL (List Int):=(.one (.k (.list (.i .i64))))
def Hb (d:List Int):Prop:=d.length≤110
def UL (d:List Int):SV:=.tup [.val (.i .i64) (if Q5 d=0 then Yr d else 0),.val (.i .i64) (Q5 d)]
def Ux (d:List Int):List OB:=[]
def V3:CSp:=Wi Ns Hb UL Ux
def W2 (l:List Int):Prop :=
 (l.length≤1000000)∧(((Q5 l) != (0:Int))=true →
  (((0:Int)=(if Q5 l=0 then Yr l else 0)∧(Q5 l)=Q5 l∧(([]:List SV)=[]))∧(True))) ∧
 (((Q5 l) != (0:Int))=false →
  (l.length≤1000000)∧∃ (e3:Unit) (d30:Int×Int),(((0:Int)=d30.1∧True∧True∧(lI (thr l))=(lI (thr l))∧(0:Int)=d30.2∧True)∧(((thr l)=(thr l)∧(thr l).isEmpty=(List.isEmpty (thr l)))∧True)) ∧
  LoopP (fun (d3:Int×Int) (q3:(Int×Int)→Prop) =>
   ((decide (d3.2<(lI (thr l))))=true →
    (0≤d3.2)∧(d3.2<(List.length (thr l)))∧(0≤(0:Int))∧((0:Int)≤d3.2)∧(d3.2≤(List.length (thr l)))∧∃ (e6:Int×Int×Int×Nat×Int) (d60:Int×Int),((d3.1=d60.1∧True∧True∧True∧(lI (thr l))=(lI (thr l))∧d3.2=e6.2.2.1∧((Int.toNat (0:Int))=(Int.toNat (0:Int))∧(Int.toNat (d3.2-(0:Int)))=e6.2.2.2.1∧2=2)∧(((Int.toNat (d3.2-(0:Int))):Nat):Int)=e6.2.2.2.2∧(0:Int)=d60.2∧True)∧(((thr l)=(thr l)∧(List.isEmpty (thr l))=(List.isEmpty (thr l)))∧((gD (thr l) d3.2 (0,0)).1=e6.1∧(gD (thr l) d3.2 (0,0)).2=e6.2.1∧(([]:List SV)=[]))∧True)) ∧
    LoopP (fun (d6:Int×Int) (q6:(Int×Int)→Prop) =>
     ((decide (d6.2<e6.2.2.2.2))=true →
      (0≤d6.2)∧(d6.2<e6.2.2.2.1)∧(True)∧((decide (((gD (thr l) ((Int.toNat (0:Int))+d6.2) (0,0)).2)≥e6.2.1))=true →
       (I64 (d6.1+(1:Int)))∧(I64 (d6.2+(1:Int)))∧(∃ d7:Int×Int,(((d6.1+(1:Int))=d7.1∧True∧True∧True∧(lI (thr l))=(lI (thr l))∧e6.2.2.1=e6.2.2.1∧((Int.toNat (0:Int))=(Int.toNat (0:Int))∧e6.2.2.2.1=e6.2.2.2.1∧2=2)∧e6.2.2.2.2=e6.2.2.2.2∧(d6.2+(1:Int))=d7.2∧True)∧(((thr l)=(thr l)∧(List.isEmpty (thr l))=(List.isEmpty (thr l)))∧(e6.1=e6.1∧e6.2.1=e6.2.1∧(([]:List SV)=[]))∧True))∧q6 d7)) ∧
      ((decide (((gD (thr l) ((Int.toNat (0:Int))+d6.2) (0,0)).2)≥e6.2.1))=false →
       (I64 (d6.2+(1:Int)))∧(∃ d8:Int×Int,((d6.1=d8.1∧True∧True∧True∧(lI (thr l))=(lI (thr l))∧e6.2.2.1=e6.2.2.1∧((Int.toNat (0:Int))=(Int.toNat (0:Int))∧e6.2.2.2.1=e6.2.2.2.1∧2=2)∧e6.2.2.2.2=e6.2.2.2.2∧(d6.2+(1:Int))=d8.2∧True)∧(((thr l)=(thr l)∧(List.isEmpty (thr l))=(List.isEmpty (thr l)))∧(e6.1=e6.1∧e6.2.1=e6.2.1∧(([]:List SV)=[]))∧True))∧q6 d8))) ∧
     ((decide (d6.2<e6.2.2.2.2))=false →
      (I64 (e6.2.2.1+(1:Int)))∧(∃ d9:Int×Int,((d6.1=d9.1∧True∧True∧(lI (thr l))=(lI (thr l))∧(e6.2.2.1+(1:Int))=d9.2∧True)∧(((thr l)=(thr l)∧(List.isEmpty (thr l))=(List.isEmpty (thr l)))∧True))∧q3 d9))) d60) ∧
   ((decide (d3.2<(lI (thr l))))=false →
    ((d3.1=(if Q5 l=0 then Yr l else 0)∧(0:Int)=Q5 l∧(([]:List SV)=[]))∧(True)))) d30)
def NF:Cx:=⟨[],[(32,Zf),(33,Xw),(34,Yv)],40,[],0,[],[],[],[],false,[],[],[],[]⟩
def PI (l:List Int):List (Nat×LoopAnn):=[(0,⟨Unit,Int×Int,[2,5,17,18,19],fun e x=>[.val (.i .i64) x.1,.lst 16,.lst 16,.val (.i .i64) (((List.length (thr l)):Nat):Int),.val (.i .i64) x.2],fun e x=>[(16,.slot 5,.lst 93 (.pair (.i .i64) (.i .i64)) (thr l) (List.isEmpty (thr l)))]⟩),
 (2,⟨Int×Int×Int×Nat×Int,Int×Int,[2,5,7,17,18,19,26,27,28],fun e x=>[.val (.i .i64) x.1,.lst 16,.box 7 0,.lst 16,.val (.i .i64) (((List.length (thr l)):Nat):Int),.val (.i .i64) e.2.2.1,.sub 16 (Int.toNat (0:Int)) e.2.2.2.1 2,.val (.i .i64) e.2.2.2.2,.val (.i .i64) x.2],fun e x=>[(16,.slot 5,.lst 93 (.pair (.i .i64) (.i .i64)) (thr l) (List.isEmpty (thr l))),(7,.slot 7,.cells [.val (.i .i64) e.1,.val (.i .i64) e.2.1] (some 93))]⟩)]
theorem PE (d:List Int):gwp (NF) (PI d) c9 0 (YU [.tmp 2,.tmp 3] (UL d) (Ux d)) (Qh 40 (AL.can Ns d))=W2 d:=by kernel_rfl
abbrev Pd:Prop:=OkC Tryz.prog 9 V3
theorem Pp (h:∀ (l:List Int),(l.length≤110)→W2 l):OkC Tryz.prog 9 V3 :=
 QB Z6m mixed (C:=NF) (V:=fun (d:List Int)=>W2 d) ⟨(.cons JI (.cons YC (.cons VN .nil))),XsOk.nil,ItsOk.nil,YlOk.nil,IysOk.nil,XfOk.nil⟩ (PE) fun d hp=>h d hp
theorem Py:Pd:=Pp fun l hl=>by
 unfold W2;(try delta lI gD sT I64);simp only[true_and,and_true,exists_const,decide_eq_true_eq,decide_eq_false_iff_not,bne_iff_ne,ne_eq,bne_eq_false_iff_eq,ge_iff_le,QQ];refine⟨by omega,fun he=>by simp[he],fun he=>⟨by omega,?_⟩⟩;obtain⟨s7,hval⟩:=N3 he;have hT:=Hi l;have hc:=Ef hval;simp only[he,if_true,and_true];generalize thr l=T at *
 have hb:=O7 QM T;have bW:T.length*T.length≤110*110:=Nat.mul_le_mul (by omega) (by omega);refine⟨(0,0),⟨rfl,rfl⟩,LoopP.count2 (X:=Int) T.length (fun k d=>d=(YO QM (T.take k):Nat)) rfl fun k d hk hJ q hq=>?_⟩;subst hJ;have mono:∀ k,YO QM (T.take k)≤12100:=fun k=>by have h1:=O7 QM (T.take k);have h2:(T.take k).length*(T.take k).length≤110*110:=Nat.mul_le_mul (by simp;omega) (by simp;omega);omega
 have cq:=mono k;simp only[Int.toNat_natCast,Int.ofNat_lt];refine⟨fun ah=>?_,fun bh=>?_⟩
 ·have oH:YO QM (T.take (k+1))=YO QM (T.take k)+((T.take k).filter fun a=>QM a T[k]).length:=by rw[QO ah,Q0h]
  have vM:=mono (k+1);rw[Q6 ah];refine⟨by omega,ah,by omega,by omega,by omega,(T[k].1,T[k].2,(k:Int),k,(k:Int)),(((YO QM (T.take k):Nat):Int),0),?_,?_⟩
  ·simp
  ·refine LoopP.count2 (X:=Int) k (fun m d=>d=(YO QM (T.take k):Nat)+(((T.take m).filter fun a=>QM a T[k]).length:Nat)) (by simp) fun m d hm hJ q' cL=>?_;subst hJ;have ph:((T.take m).filter fun a=>QM a T[k]).length≤110:=Nat.le_trans (List.length_filter_le _ _) (by simp;omega);simp only[Int.toNat_natCast,Int.ofNat_lt,Int.toNat_zero,Int.ofNat_zero,Int.zero_add,Int.toNat_natCast];refine⟨fun jY=>?_,fun vN=>?_⟩
   ·have s8:m<T.length:=by omega
    have hs:((T.take (m+1)).filter fun a=>QM a T[k]).length=((T.take m).filter fun a=>QM a T[k]).length+if QM T[m] T[k] then 1 else 0:=by rw[QO s8,List.filter_append,List.length_append];congr 1;cases iC:QM T[m] T[k]<;>simp[iC]
    simp only[Q6 s8];refine⟨by omega,by omega,fun hx=>?_,fun hx=>?_⟩
    ·refine⟨by omega,by omega,(_,_),⟨rfl,rfl⟩,cL _ (by omega) ?_⟩;rw[hs,if_pos (by simp[QM];omega)];omega
    ·refine⟨by omega,(_,_),⟨rfl,rfl⟩,cL _ (by omega) ?_⟩;rw[hs,if_neg (by simp[QM];omega)];omega
   ·have:m=k:=by omega
    subst this;refine⟨by omega,(_,_),⟨rfl,rfl⟩,hq _ ah ?_⟩;rw[oH];omega
 ·have:k=T.length:=by omega
  subst this;rw[List.take_length,hc]
def Lk:AL (List Int):=(.one (.k (.list (.i .i64))))
def Fp (d:List Int):Prop:=d.length≤110
def T3 (d:List Int):SV:=.tup [.lst 0,.val (.i .i64) (Q5 d)]
def Rg (d:List Int):List OB:=[.lst 3 (.i .i64) (if Q5 d=0 then Q5z d else []) ((if Q5 d=0 then Q5z d else []).isEmpty)]
def To:CSp:=Wi Lk Fp T3 Rg
def Gi (l:List Int):Prop :=
 (l.length≤1000000)∧(((Q5 l) != (0:Int))=true →
  ((True∧(Q5 l)=Q5 l∧(([]:List SV)=[]))∧(((if Q5 l=0 then Q5z l else [])=[]∧(if Q5 l=0 then Q5z l else []).isEmpty=true)∧True))) ∧
 (((Q5 l) != (0:Int))=false →
  (l.length≤1000000)∧((thr l).length≤1000∧∀ x∈(thr l),∀ y∈(thr l),(fun (x1:(Int×Int)×(Int×Int))=>True) (x,y))∧((WV (fun x y=>(fun (x1:(Int×Int)×(Int×Int))=>(decide (x1.1.2<x1.2.2))) (x,y)) (thr l)).length≤1000∧∀ x∈(WV (fun x y=>(fun (x1:(Int×Int)×(Int×Int))=>(decide (x1.1.2<x1.2.2))) (x,y)) (thr l)),0≤x)∧∃ (e4:Unit) (d40:(List Int)×Int×Int×Int×Int),((True∧True∧(((([]:List SV)=[]))∧((([]:List SV)=[])))∧True∧(PL (WV (fun x y=>(fun (x1:(Int×Int)×(Int×Int))=>(decide (x1.1.2<x1.2.2))) (x,y)) (thr l)))=d40.2.1∧True∧True∧(lI (thr l))=(lI (thr l))∧(0:Int)=d40.2.2.2.2∧True)∧((d40.1=[]∧(List.isEmpty d40.1)=true)∧((thr l)=(thr l)∧(thr l).isEmpty=(List.isEmpty (thr l)))∧((WV (fun x y=>(fun (x1:(Int×Int)×(Int×Int))=>(decide (x1.1.2<x1.2.2))) (x,y)) (thr l))=(WV (fun x y=>(fun (x1:(Int×Int)×(Int×Int))=>(decide (x1.1.2<x1.2.2))) (x,y)) (thr l))∧false=false)∧((-1:Int)=d40.2.2.1∧(-1:Int)=d40.2.2.2.1∧(([]:List SV)=[]))∧True)) ∧
  LoopP (fun (d4:(List Int)×Int×Int×Int×Int) (q4:((List Int)×Int×Int×Int×Int)→Prop) =>
   ((decide (d4.2.2.2.2<(lI (thr l))))=true →
    (0≤d4.2.2.2.2)∧(d4.2.2.2.2<(List.length (thr l)))∧(I64 (d4.2.2.2.2+(1:Int)))∧∃ (e7:(List Int)×Int×Int×Int×Int×Int×Int) (d70:Int×Int),((True∧True∧(((([]:List SV)=[]))∧((([]:List SV)=[])))∧True∧d4.2.1=e7.2.1∧True∧True∧(0:Int)=d70.1∧(d4.2.2.2.2+(1:Int))=d70.2∧True∧(lI (thr l))=(lI (thr l))∧d4.2.2.2.2=e7.2.2.2.2.2.2∧True)∧((d4.1=e7.1∧(List.isEmpty d4.1)=(List.isEmpty e7.1))∧((thr l)=(thr l)∧(List.isEmpty (thr l))=(List.isEmpty (thr l)))∧((WV (fun x y=>(fun (x1:(Int×Int)×(Int×Int))=>(decide (x1.1.2<x1.2.2))) (x,y)) (thr l))=(WV (fun x y=>(fun (x1:(Int×Int)×(Int×Int))=>(decide (x1.1.2<x1.2.2))) (x,y)) (thr l))∧false=false)∧(d4.2.2.1=e7.2.2.1∧d4.2.2.2.1=e7.2.2.2.1∧(([]:List SV)=[]))∧((gD (thr l) d4.2.2.2.2 (0,0)).1=e7.2.2.2.2.1∧(gD (thr l) d4.2.2.2.2 (0,0)).2=e7.2.2.2.2.2.1∧(([]:List SV)=[]))∧True)) ∧
    LoopP (fun (d7:Int×Int) (q7:(Int×Int)→Prop) =>
     ((decide (d7.2<(lI (thr l))))=true →
      (0≤d7.2)∧(d7.2<(List.length (thr l)))∧(True)∧((decide (e7.2.2.2.1<((gD (thr l) d7.2 (0,0)).2)))=true →
       (0≤d7.2)∧(d7.2<(List.length (WV (fun x y=>(fun (x1:(Int×Int)×(Int×Int))=>(decide (x1.1.2<x1.2.2))) (x,y)) (thr l))))∧(I64 (d7.2+(1:Int)))∧(∃ d8:Int×Int,((True∧True∧(((([]:List SV)=[]))∧((([]:List SV)=[])))∧True∧e7.2.1=e7.2.1∧True∧True∧(K0 d7.1 (gD (WV (fun x y=>(fun (x1:(Int×Int)×(Int×Int))=>(decide (x1.1.2<x1.2.2))) (x,y)) (thr l)) d7.2 0))=d8.1∧(d7.2+(1:Int))=d8.2∧True∧(lI (thr l))=(lI (thr l))∧e7.2.2.2.2.2.2=e7.2.2.2.2.2.2∧True)∧((e7.1=e7.1∧(List.isEmpty e7.1)=(List.isEmpty e7.1))∧((thr l)=(thr l)∧(List.isEmpty (thr l))=(List.isEmpty (thr l)))∧((WV (fun x y=>(fun (x1:(Int×Int)×(Int×Int))=>(decide (x1.1.2<x1.2.2))) (x,y)) (thr l))=(WV (fun x y=>(fun (x1:(Int×Int)×(Int×Int))=>(decide (x1.1.2<x1.2.2))) (x,y)) (thr l))∧false=false)∧(e7.2.2.1=e7.2.2.1∧e7.2.2.2.1=e7.2.2.2.1∧(([]:List SV)=[]))∧(e7.2.2.2.2.1=e7.2.2.2.2.1∧e7.2.2.2.2.2.1=e7.2.2.2.2.2.1∧(([]:List SV)=[]))∧True))∧q7 d8)) ∧
      ((decide (e7.2.2.2.1<((gD (thr l) d7.2 (0,0)).2)))=false →
       (I64 (d7.2+(1:Int)))∧(∃ d9:Int×Int,((True∧True∧(((([]:List SV)=[]))∧((([]:List SV)=[])))∧True∧e7.2.1=e7.2.1∧True∧True∧d7.1=d9.1∧(d7.2+(1:Int))=d9.2∧True∧(lI (thr l))=(lI (thr l))∧e7.2.2.2.2.2.2=e7.2.2.2.2.2.2∧True)∧((e7.1=e7.1∧(List.isEmpty e7.1)=(List.isEmpty e7.1))∧((thr l)=(thr l)∧(List.isEmpty (thr l))=(List.isEmpty (thr l)))∧((WV (fun x y=>(fun (x1:(Int×Int)×(Int×Int))=>(decide (x1.1.2<x1.2.2))) (x,y)) (thr l))=(WV (fun x y=>(fun (x1:(Int×Int)×(Int×Int))=>(decide (x1.1.2<x1.2.2))) (x,y)) (thr l))∧false=false)∧(e7.2.2.1=e7.2.2.1∧e7.2.2.2.1=e7.2.2.2.1∧(([]:List SV)=[]))∧(e7.2.2.2.2.1=e7.2.2.2.2.1∧e7.2.2.2.2.2.1=e7.2.2.2.2.2.1∧(([]:List SV)=[]))∧True))∧q7 d9))) ∧
     ((decide (d7.2<(lI (thr l))))=false →
      ((decide (d7.1≥e7.2.1))=false→True)∧(((decide (d7.1≥e7.2.1))||(!(decide (e7.2.2.2.1<e7.2.2.2.2.2.1))))=true →
       (((List.length e7.1)+(List.length [e7.2.2.2.2.1]))*8≤70368744177664)∧(I64 (e7.2.2.2.2.2.2+(1:Int)))∧(∃ d10:(List Int)×Int×Int×Int×Int,((True∧True∧(((([]:List SV)=[]))∧((([]:List SV)=[])))∧True∧e7.2.1=d10.2.1∧True∧True∧(lI (thr l))=(lI (thr l))∧(e7.2.2.2.2.2.2+(1:Int))=d10.2.2.2.2∧True)∧(((e7.1++[e7.2.2.2.2.1])=d10.1∧false=(List.isEmpty d10.1))∧((thr l)=(thr l)∧(List.isEmpty (thr l))=(List.isEmpty (thr l)))∧((WV (fun x y=>(fun (x1:(Int×Int)×(Int×Int))=>(decide (x1.1.2<x1.2.2))) (x,y)) (thr l))=(WV (fun x y=>(fun (x1:(Int×Int)×(Int×Int))=>(decide (x1.1.2<x1.2.2))) (x,y)) (thr l))∧false=false)∧(e7.2.2.1=d10.2.2.1∧e7.2.2.2.1=d10.2.2.2.1∧(([]:List SV)=[]))∧True))∧q4 d10)) ∧
      (((decide (d7.1≥e7.2.1))||(!(decide (e7.2.2.2.1<e7.2.2.2.2.2.1))))=false →
       (I64 (e7.2.1-(1:Int)))∧(I64 (e7.2.2.2.2.2.2+(1:Int)))∧(∃ d11:(List Int)×Int×Int×Int×Int,((True∧True∧(((([]:List SV)=[]))∧((([]:List SV)=[])))∧True∧(e7.2.1-(1:Int))=d11.2.1∧True∧True∧(lI (thr l))=(lI (thr l))∧(e7.2.2.2.2.2.2+(1:Int))=d11.2.2.2.2∧True)∧((e7.1=d11.1∧(List.isEmpty e7.1)=(List.isEmpty d11.1))∧((thr l)=(thr l)∧(List.isEmpty (thr l))=(List.isEmpty (thr l)))∧((WV (fun x y=>(fun (x1:(Int×Int)×(Int×Int))=>(decide (x1.1.2<x1.2.2))) (x,y)) (thr l))=(WV (fun x y=>(fun (x1:(Int×Int)×(Int×Int))=>(decide (x1.1.2<x1.2.2))) (x,y)) (thr l))∧false=false)∧(e7.2.2.2.2.1=d11.2.2.1∧e7.2.2.2.2.2.1=d11.2.2.2.1∧(([]:List SV)=[]))∧True))∧q4 d11)))) d70) ∧
   ((decide (d4.2.2.2.2<(lI (thr l))))=false →
    ((True∧(0:Int)=Q5 l∧(([]:List SV)=[]))∧((d4.1=(if Q5 l=0 then Q5z l else [])∧(List.isEmpty d4.1)=(if Q5 l=0 then Q5z l else []).isEmpty)∧True)))) d40)
def LF:Cx:=⟨[(3,(.i .i64))],[(32,Zf),(33,Xw),(37,Ks),(39,Dy),(38,Gs)],75,[],0,[],[],[],[],false,[],[],[],[]⟩
def OE (l:List Int):List (Nat×LoopAnn):=[(0,⟨Unit,(List Int)×Int×Int×Int×Int,[2,5,6,7,8,9,27,28,29],fun e x=>[.lst 69,.lst 20,.fn 39 [] [],.lst 23,.val (.i .i64) x.2.1,.box 9 0,.lst 20,.val (.i .i64) (((List.length (thr l)):Nat):Int),.val (.i .i64) x.2.2.2.2],fun e x=>[(69,.slot 2,.lst 3 (.i .i64) x.1 (List.isEmpty x.1)),(20,.slot 5,.lst 93 (.pair (.i .i64) (.i .i64)) (thr l) (List.isEmpty (thr l))),(23,.slot 7,.lst 3 (.i .i64) (WV (fun x y=>(fun (x1:(Int×Int)×(Int×Int))=>(decide (x1.1.2<x1.2.2))) (x,y)) (thr l)) false),(9,.slot 9,.cells [.val (.i .i64) x.2.2.1,.val (.i .i64) x.2.2.2.1] (some 93))]⟩),
 (2,⟨(List Int)×Int×Int×Int×Int×Int×Int,Int×Int,[2,5,6,7,8,9,11,12,13,27,28,29],fun e x=>[.lst 69,.lst 20,.fn 39 [] [],.lst 23,.val (.i .i64) e.2.1,.box 9 0,.box 11 0,.val (.i .i64) x.1,.val (.i .i64) x.2,.lst 20,.val (.i .i64) (((List.length (thr l)):Nat):Int),.val (.i .i64) e.2.2.2.2.2.2],fun e x=>[(69,.slot 2,.lst 3 (.i .i64) e.1 (List.isEmpty e.1)),(20,.slot 5,.lst 93 (.pair (.i .i64) (.i .i64)) (thr l) (List.isEmpty (thr l))),(23,.slot 7,.lst 3 (.i .i64) (WV (fun x y=>(fun (x1:(Int×Int)×(Int×Int))=>(decide (x1.1.2<x1.2.2))) (x,y)) (thr l)) false),(9,.slot 9,.cells [.val (.i .i64) e.2.2.1,.val (.i .i64) e.2.2.2.1] (some 93)),(11,.slot 11,.cells [.val (.i .i64) e.2.2.2.2.1,.val (.i .i64) e.2.2.2.2.2.1] (some 93))]⟩)]
theorem Q0c (d:List Int):gwp (LF) (OE d) c13 0 (YU [.tmp 2,.tmp 3] (T3 d) (Rg d)) (Qh 75 (AL.can Lk d))=Gi d:=by kernel_rfl
abbrev Q0u:Prop:=OkC Tryz.prog 13 To
theorem Q10 (h:∀ (l:List Int),(l.length≤110)→Gi l):OkC Tryz.prog 13 To :=
 QB Z27 mixed (C:=LF) (V:=fun (d:List Int)=>Gi d) ⟨(.cons JI (.cons YC (.cons GO (.cons Em (.cons S5 .nil))))),XsOk.nil,ItsOk.nil,YlOk.nil,IysOk.nil,XfOk.nil⟩ (Q0c) fun d hp=>h d hp
theorem Q0p (T:List (Int×Int)):WV (fun x y=>decide (x.2<y.2)) T=WV ZM T:=rfl
theorem T6 {α:Type}(R:α→α→Bool) (l:List α):∀ x∈WV R l,0≤x:=by
 induction l with
 |nil=>intro x hx;cases hx
 |cons a r ih =>
  intro x hx;rcases List.mem_cons.1 hx with rfl|hx
  ·omega
  ·exact ih x hx
theorem OW:Q0u:=Q10 fun l hl=>by
 unfold Gi;(try delta lI gD sT I64);simp only[true_and,and_true,exists_const,decide_eq_true_eq,decide_eq_false_iff_not,bne_iff_ne,ne_eq,bne_eq_false_iff_eq,ge_iff_le,QQ];refine⟨by omega,fun he=>by simp[he],fun he=>⟨by omega,⟨by have:=Hi l;omega,fun _ _ _ _=>trivial⟩,?_⟩⟩;obtain⟨s7,hval⟩:=N3 he;have s9:=Hi l;have d_:=Fm hval;have ru:Q5z l=(Q5n ZM (-1,-1) (thr l)).map (·.1):=rfl;simp only[he,if_true,Q0p];rw[ru];generalize thr l=T at *
 have hlen:=DE (R:=ZM) T;refine⟨⟨by omega,T6 _ _⟩,([],PL (WV ZM T),-1,-1,0),⟨⟨rfl,rfl⟩,⟨rfl,rfl⟩,rfl,rfl⟩,?_⟩;refine⟨fun d=>∃ i:Nat,i≤T.length∧d.2.2.2.2=i∧d.2.1=(Y2 ZM (d.2.2.1,d.2.2.2.1) (T.drop i):Nat)∧d.1.length≤i∧d.1++(Q5n ZM (d.2.2.1,d.2.2.2.1) (T.drop i)).map (·.1)=(Q5n ZM (-1,-1) T).map (·.1),fun d=>T.length-d.2.2.2.2.toNat,⟨0,Nat.zero_le _,rfl,?_,Nat.le_refl _,rfl⟩,?_⟩
 ·show PL (WV ZM T)=_;rw[List.drop_zero,O0 d_];rfl
 rintro⟨out,left,a1,a2,_⟩ ⟨i,hi,rfl,dp,ie,bE⟩;dsimp only at dp ie bE ⊢;refine⟨fun ah=>?_,fun bh=>?_⟩
 ·have ah:i<T.length:=by omega
  have cT:T.drop i=T[i]::T.drop (i+1):=List.drop_eq_getElem_cons ah;have gB:=L_ (R:=ZM) (l:=T.drop i) (a:=(a1,a2));have nw:(T.drop i).length≤110:=by simp;omega
  have rv:Y2 ZM (a1,a2) (T[i]::T.drop (i+1))≤110:=by rw[←cT];omega
  rw[Int.toNat_natCast,Q6 ah];rw[cT] at dp bE;refine⟨by omega,by omega,by omega,(out,left,a1,a2,T[i].1,T[i].2,(i:Int)),(0,(i:Int)+1),⟨⟨rfl,rfl,rfl,rfl⟩,⟨rfl,rfl⟩,⟨rfl,rfl⟩,rfl,rfl⟩,?_⟩;refine⟨fun d=>∃ k:Nat,i+1≤k∧k≤T.length∧d.2=k∧0≤d.1∧K0 d.1 (Y2 ZM (a1,a2) (T.drop k):Nat)=(Y2 ZM (a1,a2) (T.drop (i+1)):Nat),fun d=>T.length-d.2.toNat,⟨i+1,by omega,by omega,by simp,Int.le_refl _,?_⟩,?_⟩
  ·unfold K0;split<;>omega
  rintro⟨ry,_⟩ ⟨k,a9,au,rfl,oP,ig⟩;dsimp only at oP ig ⊢;refine⟨fun aP=>?_,fun aP=>?_⟩
  ·have aP:k<T.length:=by omega
   have vO:T.drop k=T[k]::T.drop (k+1):=List.drop_eq_getElem_cons aP;rw[Int.toNat_natCast,Q6 aP,BU aP];rw[vO] at ig;refine⟨by omega,by omega,fun hc=>?_,fun hc=>?_⟩
   ·have hR:ZM (a1,a2) T[k]=true:=by simp only[ZM,decide_eq_true_eq];exact hc
    simp only[Y2,hR,if_true] at ig;refine⟨by omega,by omega,by omega,(K0 ry ((Y2 ZM T[k] (T.drop (k+1))+1:Nat):Int),(k:Int)+1),⟨rfl,rfl⟩,⟨k+1,by omega,by omega,by simp,?_,?_⟩,by simp;omega⟩
    ·dsimp only;unfold K0;split<;>omega
    ·dsimp only;rw[←ig];generalize Y2 ZM T[k] (T.drop (k+1))=A;generalize Y2 ZM (a1,a2) (T.drop (k+1))=B;unfold K0;repeat' split;all_goals omega
   ·have hR:¬ ZM (a1,a2) T[k]=true:=by simp only[ZM,decide_eq_true_eq];exact hc
    simp only[Y2] at ig;rw[if_neg hR] at ig;exact⟨by omega,(ry,(k:Int)+1),⟨rfl,rfl⟩,⟨k+1,by omega,by omega,by simp,oP,ig⟩,by simp;omega⟩
  ·have:k=T.length:=by omega
   subst this;rw[List.drop_length] at ig;have ig:ry=(Y2 ZM (a1,a2) (T.drop (i+1)):Nat):=by rw[←ig];simp only[Y2];unfold K0;split<;>omega
   have kS:=F6 (R:=ZM) (x:=T[i]) (r:=T.drop (i+1)) (a:=(a1,a2));refine⟨fun _=>trivial,fun hc=>?_,fun hc=>?_⟩
   ·have hle:Y2 ZM (a1,a2) (T[i]::T.drop (i+1))≤Y2 ZM (a1,a2) (T.drop (i+1)):=by
     simp only[Bool.or_eq_true,decide_eq_true_eq,Bool.not_eq_true',decide_eq_false_iff_not] at hc;rcases hc with hc|hc
     ·omega
     ·have hR:¬ ZM (a1,a2) T[i]=true:=by simp only[ZM,decide_eq_true_eq];exact hc
      simp only[Y2];rw[if_neg hR];exact Nat.le_refl _
    refine⟨by simp only[List.length_singleton];omega,by omega,(out++[T[i].1],left,a1,a2,(i:Int)+1),⟨⟨rfl,rfl⟩,⟨rfl,by simp⟩,rfl,rfl⟩,⟨i+1,by omega,by simp,?_,by simp;omega,?_⟩,by simp;omega⟩
    ·dsimp only;rw[dp];omega
    ·dsimp only;simp only[Q5n,if_pos hle,List.map_cons] at bE;rw[←bE,List.append_assoc];rfl
   ·simp only[Bool.or_eq_false_iff,decide_eq_false_iff_not,Bool.not_eq_false',decide_eq_true_eq] at hc;have jY:Y2 ZM (a1,a2) (T.drop (i+1))<Y2 ZM (a1,a2) (T[i]::T.drop (i+1)):=by omega
    obtain⟨k1,k2⟩:=E1 jY;refine⟨by omega,by omega,(out,left-1,T[i].1,T[i].2,(i:Int)+1),⟨⟨rfl,rfl⟩,⟨rfl,rfl⟩,rfl,rfl⟩,⟨i+1,by omega,by simp,?_,by simp;omega,?_⟩,by simp;omega⟩
    ·dsimp only;rw[PZ];omega
    ·dsimp only;simp only[Q5n] at bE;rw[if_neg (by omega)] at bE;exact bE
 ·have:i=T.length:=by omega
  subst this;rw[List.drop_length] at bE;simp only[Q5n,List.map_nil,List.append_nil] at bE;exact⟨trivial,bE,by rw[bE]⟩
def DZ:AL (List Int):=(.one (.k (.list (.i .i64))))
def L4 (d:List Int):Prop:=d.length≤110
def GV (d:List Int):SV:=.tup [.lst 0,.val (.i .i64) (Q5 d)]
def GI (d:List Int):List OB:=[.lst 3 (.i .i64) (if Q5 d=0 then UZ d else []) ((if Q5 d=0 then UZ d else []).isEmpty)]
def Mk:CSp:=Wi DZ L4 GV GI
def Kv (l:List Int):Prop :=
 (l.length≤1000000)∧(((Q5 l) != (0:Int))=true →
  ((True∧(Q5 l)=Q5 l∧(([]:List SV)=[]))∧(((if Q5 l=0 then UZ l else [])=[]∧(if Q5 l=0 then UZ l else []).isEmpty=true)∧True))) ∧
 (((Q5 l) != (0:Int))=false →
  (l.length≤1000000)∧((thr l).length≤1000∧∀ x∈(thr l),∀ y∈(thr l),(fun (x1:(Int×Int)×(Int×Int))=>True) (x,y))∧((WV (fun x y=>(fun (x1:(Int×Int)×(Int×Int))=>(decide (x1.1.2≥x1.2.2))) (x,y)) (thr l)).length≤1000∧∀ x∈(WV (fun x y=>(fun (x1:(Int×Int)×(Int×Int))=>(decide (x1.1.2≥x1.2.2))) (x,y)) (thr l)),0≤x)∧∃ (e4:Unit) (d40:(List Int)×Int×Int×Int×Int),((True∧True∧(PL (WV (fun x y=>(fun (x1:(Int×Int)×(Int×Int))=>(decide (x1.1.2≥x1.2.2))) (x,y)) (thr l)))=d40.2.1∧True∧True∧(lI (thr l))=(lI (thr l))∧(0:Int)=d40.2.2.2.2∧True)∧((d40.1=[]∧(List.isEmpty d40.1)=true)∧((WV (fun x y=>(fun (x1:(Int×Int)×(Int×Int))=>(decide (x1.1.2≥x1.2.2))) (x,y)) (thr l))=(WV (fun x y=>(fun (x1:(Int×Int)×(Int×Int))=>(decide (x1.1.2≥x1.2.2))) (x,y)) (thr l))∧false=false)∧((-1:Int)=d40.2.2.1∧(96:Int)=d40.2.2.2.1∧(([]:List SV)=[]))∧((thr l)=(thr l)∧(thr l).isEmpty=(List.isEmpty (thr l)))∧True)) ∧
  LoopP (fun (d4:(List Int)×Int×Int×Int×Int) (q4:((List Int)×Int×Int×Int×Int)→Prop) =>
   ((decide (d4.2.2.2.2<(lI (thr l))))=true →
    (0≤d4.2.2.2.2)∧(d4.2.2.2.2<(List.length (thr l)))∧(True)∧((decide (d4.2.2.2.1≥((gD (thr l) d4.2.2.2.2 (0,0)).2)))=true→0≤d4.2.2.2.2)∧((decide (d4.2.2.2.1≥((gD (thr l) d4.2.2.2.2 (0,0)).2)))=true→d4.2.2.2.2<(List.length (WV (fun x y=>(fun (x1:(Int×Int)×(Int×Int))=>(decide (x1.1.2≥x1.2.2))) (x,y)) (thr l))))∧((((decide (d4.2.2.2.1≥((gD (thr l) d4.2.2.2.2 (0,0)).2)))&&((gD (WV (fun x y=>(fun (x1:(Int×Int)×(Int×Int))=>(decide (x1.1.2≥x1.2.2))) (x,y)) (thr l)) d4.2.2.2.2 0)==d4.2.1))&&(decide (d4.2.1 > (0:Int))))=true →
     (((List.length d4.1)+(List.length [(gD (thr l) d4.2.2.2.2 (0,0)).1]))*8≤70368744177664)∧(I64 (d4.2.1-(1:Int)))∧(I64 (d4.2.2.2.2+(1:Int)))∧(∃ d5:(List Int)×Int×Int×Int×Int,((True∧True∧(d4.2.1-(1:Int))=d5.2.1∧True∧True∧(lI (thr l))=(lI (thr l))∧(d4.2.2.2.2+(1:Int))=d5.2.2.2.2∧True)∧(((d4.1++[(gD (thr l) d4.2.2.2.2 (0,0)).1])=d5.1∧false=(List.isEmpty d5.1))∧((WV (fun x y=>(fun (x1:(Int×Int)×(Int×Int))=>(decide (x1.1.2≥x1.2.2))) (x,y)) (thr l))=(WV (fun x y=>(fun (x1:(Int×Int)×(Int×Int))=>(decide (x1.1.2≥x1.2.2))) (x,y)) (thr l))∧false=false)∧((gD (thr l) d4.2.2.2.2 (0,0)).1=d5.2.2.1∧(gD (thr l) d4.2.2.2.2 (0,0)).2=d5.2.2.2.1∧(([]:List SV)=[]))∧((thr l)=(thr l)∧(List.isEmpty (thr l))=(List.isEmpty (thr l)))∧True))∧q4 d5)) ∧
    ((((decide (d4.2.2.2.1≥((gD (thr l) d4.2.2.2.2 (0,0)).2)))&&((gD (WV (fun x y=>(fun (x1:(Int×Int)×(Int×Int))=>(decide (x1.1.2≥x1.2.2))) (x,y)) (thr l)) d4.2.2.2.2 0)==d4.2.1))&&(decide (d4.2.1 > (0:Int))))=false →
     (I64 (d4.2.2.2.2+(1:Int)))∧(∃ d6:(List Int)×Int×Int×Int×Int,((True∧True∧d4.2.1=d6.2.1∧True∧True∧(lI (thr l))=(lI (thr l))∧(d4.2.2.2.2+(1:Int))=d6.2.2.2.2∧True)∧((d4.1=d6.1∧(List.isEmpty d4.1)=(List.isEmpty d6.1))∧((WV (fun x y=>(fun (x1:(Int×Int)×(Int×Int))=>(decide (x1.1.2≥x1.2.2))) (x,y)) (thr l))=(WV (fun x y=>(fun (x1:(Int×Int)×(Int×Int))=>(decide (x1.1.2≥x1.2.2))) (x,y)) (thr l))∧false=false)∧(d4.2.2.1=d6.2.2.1∧d4.2.2.2.1=d6.2.2.2.1∧(([]:List SV)=[]))∧((thr l)=(thr l)∧(List.isEmpty (thr l))=(List.isEmpty (thr l)))∧True))∧q4 d6))) ∧
   ((decide (d4.2.2.2.2<(lI (thr l))))=false →
    ((True∧(0:Int)=Q5 l∧(([]:List SV)=[]))∧((d4.1=(if Q5 l=0 then UZ l else [])∧(List.isEmpty d4.1)=(if Q5 l=0 then UZ l else []).isEmpty)∧True)))) d40)
def Bk:Cx:=⟨[(3,(.i .i64))],[(32,Zf),(33,Xw),(37,Ks),(34,Yv),(38,Gs)],55,[],0,[],[],[],[],false,[],[],[],[]⟩
def Cm (l:List Int):List (Nat×LoopAnn):=[(0,⟨Unit,(List Int)×Int×Int×Int×Int,[2,6,7,8,23,24,25],fun e x=>[.lst 49,.lst 19,.val (.i .i64) x.2.1,.box 8 0,.lst 17,.val (.i .i64) (((List.length (thr l)):Nat):Int),.val (.i .i64) x.2.2.2.2],fun e x=>[(49,.slot 2,.lst 3 (.i .i64) x.1 (List.isEmpty x.1)),(19,.slot 6,.lst 3 (.i .i64) (WV (fun x y=>(fun (x1:(Int×Int)×(Int×Int))=>(decide (x1.1.2≥x1.2.2))) (x,y)) (thr l)) false),(8,.slot 8,.cells [.val (.i .i64) x.2.2.1,.val (.i .i64) x.2.2.2.1] (some 93)),(17,.slot 23,.lst 93 (.pair (.i .i64) (.i .i64)) (thr l) (List.isEmpty (thr l)))]⟩)]
theorem Cp (d:List Int):gwp (Bk) (Cm d) c12 0 (YU [.tmp 2,.tmp 3] (GV d) (GI d)) (Qh 55 (AL.can DZ d))=Kv d:=by kernel_rfl
abbrev Co:Prop:=OkC Tryz.prog 12 Mk
theorem CD (h:∀ (l:List Int),(l.length≤110)→Kv l):OkC Tryz.prog 12 Mk :=
 QB Q9z mixed (C:=Bk) (V:=fun (d:List Int)=>Kv d) ⟨(.cons JI (.cons YC (.cons GO (.cons VN (.cons S5 .nil))))),XsOk.nil,ItsOk.nil,YlOk.nil,IysOk.nil,XfOk.nil⟩ (Cp) fun d hp=>h d hp
theorem C6:Co:=CD fun l hl=>by
 unfold Kv;(try delta lI gD sT I64);simp only[true_and,and_true,exists_const,decide_eq_true_eq,decide_eq_false_iff_not,bne_iff_ne,ne_eq,bne_eq_false_iff_eq,gt_iff_lt,ge_iff_le,QQ];refine⟨by omega,fun he=>by simp[he],fun he=>⟨by omega,⟨by have:=Hi l;omega,fun _ _ _ _=>trivial⟩,?_⟩⟩;obtain⟨s7,hval⟩:=N3 he;have s9:=Hi l;have d_:=FX hval;have ru:UZ l=(Q6y QM (-1,96) (thr l)).map (·.1):=rfl;have vP:∀ T:List (Int×Int),WV (fun x y=>decide (y.2≤x.2)) T=WV QM T:=fun T=>rfl;simp only[he,if_true,vP];rw[ru];generalize thr l=T at *
 have hlen:=DE (R:=QM) T;refine⟨⟨by omega,T6 _ _⟩,([],PL (WV QM T),-1,96,0),⟨⟨rfl,rfl⟩,⟨rfl,rfl⟩,rfl,rfl⟩,?_⟩;refine⟨fun d=>∃ i:Nat,i≤T.length∧d.2.2.2.2=i∧d.2.1=(Y2 QM (d.2.2.1,d.2.2.2.1) (T.drop i):Nat)∧d.1.length≤i∧d.1++(Q6y QM (d.2.2.1,d.2.2.2.1) (T.drop i)).map (·.1)=(Q6y QM (-1,96) T).map (·.1),fun d=>T.length-d.2.2.2.2.toNat,⟨0,Nat.zero_le _,rfl,?_,Nat.le_refl _,rfl⟩,?_⟩
 ·show PL (WV QM T)=_;rw[List.drop_zero,O0 d_];rfl
 rintro⟨out,left,a1,a2,_⟩ ⟨i,hi,rfl,dp,ie,bE⟩;dsimp only at dp ie bE ⊢;refine⟨fun ah=>?_,fun bh=>?_⟩
 ·have ah:i<T.length:=by omega
  have cT:T.drop i=T[i]::T.drop (i+1):=List.drop_eq_getElem_cons ah;have gB:=L_ (R:=QM) (l:=T.drop i) (a:=(a1,a2));have nw:(T.drop i).length≤110:=by simp;omega
  have rv:Y2 QM (a1,a2) (T[i]::T.drop (i+1))≤110:=by rw[←cT];omega
  rw[cT] at dp bE;simp only[Int.toNat_natCast,Q6 ah,BU ah];simp only[Q6y] at bE;have iC:QM (a1,a2) T[i]=decide (a2≥T[i].2):=rfl;refine⟨by omega,by omega,fun _=>by omega,fun _=>by omega,fun hc=>?_,fun hc=>?_⟩
  ·simp only[Bool.and_eq_true,decide_eq_true_eq,beq_iff_eq] at hc;have ao:(QM (a1,a2) T[i]&&decide (Y2 QM T[i] (T.drop (i+1))+1=Y2 QM (a1,a2) (T[i]::T.drop (i+1))))=true:=by
    rw[iC,Bool.and_eq_true,decide_eq_true_eq,decide_eq_true_eq];exact⟨hc.1.1,by omega⟩
   rw[if_pos ao] at bE;refine⟨by simp only[List.length_singleton];omega,by omega,by omega,(out++[T[i].1],left-1,T[i].1,T[i].2,(i:Int)+1),⟨⟨rfl,rfl⟩,⟨rfl,by simp⟩,rfl,rfl⟩,⟨i+1,by omega,by simp,?_,by simp;omega,?_⟩,by simp;omega⟩
   ·dsimp only;rw[PZ];omega
   ·dsimp only;simp only[List.map_cons] at bE;rw[←bE,List.append_assoc];rfl
  ·have kS:=F6 (R:=QM) (x:=T[i]) (r:=T.drop (i+1)) (a:=(a1,a2));have ji:¬ (QM (a1,a2) T[i]&&decide (Y2 QM T[i] (T.drop (i+1))+1=Y2 QM (a1,a2) (T[i]::T.drop (i+1))))=true:=fun h=>by
    rw[iC,Bool.and_eq_true,decide_eq_true_eq,decide_eq_true_eq] at h;rw[←Bool.not_eq_true] at hc;apply hc;simp only[Bool.and_eq_true,decide_eq_true_eq,beq_iff_eq];exact⟨⟨h.1,by omega⟩,by omega⟩
   have heq:Y2 QM (a1,a2) (T[i]::T.drop (i+1))=Y2 QM (a1,a2) (T.drop (i+1)):=by apply Nat.le_antisymm _ kS;apply Nat.le_of_not_lt;intro h;obtain⟨k1,k2⟩:=E1 h;exact ji (by rw[Bool.and_eq_true,decide_eq_true_eq];exact⟨k1,k2.symm⟩)
   rw[if_neg ji] at bE;exact⟨by omega,(out,left,a1,a2,(i:Int)+1),⟨⟨rfl,rfl⟩,⟨rfl,rfl⟩,rfl,rfl⟩,⟨i+1,by omega,by simp,by dsimp only;omega,by simp;omega,bE⟩,by simp;omega⟩
 ·have:i=T.length:=by omega
  subst this;rw[List.drop_length] at bE;simp only[Q6y,List.map_nil,List.append_nil] at bE;exact⟨trivial,bE,by rw[bE]⟩
def Z3:AL ((List (Int×Int))×((Int×Int→Prop)×(Int×Int→Bool))):=(.cons (.k (.list (.pair (.i .i64) (.i .i64)))) (.one (.fn [(.pair (.i .i64) (.i .i64))] .bo)))
def JP (d:(List (Int×Int))×((Int×Int→Prop)×(Int×Int→Bool))):Prop:=d.1.length≤1000000∧∀ x∈d.1,d.2.1 x
def QZ (d:(List (Int×Int))×((Int×Int→Prop)×(Int×Int→Bool))):SV:=.val (.i .i64) (GU d.1 d.2.2)
def QY (d:(List (Int×Int))×((Int×Int→Prop)×(Int×Int→Bool))):List OB:=[]
def Qt:CSp:=Wi Z3 JP QZ QY
def Qe (l:List (Int×Int)) (p:(Int×Int→Prop)×(Int×Int→Bool)):Prop :=
 ∃ (e2:Unit) (d20:Int),((l=l∧(SV.pf [(.pair (.i .i64) (.i .i64))] .bo p.1 p.2=SV.pf [(.pair (.i .i64) (.i .i64))] .bo p.1 p.2)∧(lI l)=(lI l)∧(0:Int)=d20∧True)∧(True)) ∧
 LoopP (fun (d2:Int) (q2:(Int)→Prop) =>
  ((decide (d2<(lI l)))=true →
   (0≤d2)∧(d2<(List.length l))∧(p.1 ((gD l d2 (0,0)).1,(gD l d2 (0,0)).2))∧((p.2 ((gD l d2 (0,0)).1,(gD l d2 (0,0)).2))=true →
    (d2=(GU l p.2)∧(True))) ∧
   ((p.2 ((gD l d2 (0,0)).1,(gD l d2 (0,0)).2))=false →
    (I64 (d2+(1:Int)))∧(∃ d3:Int,((l=l∧(SV.pf [(.pair (.i .i64) (.i .i64))] .bo p.1 p.2=SV.pf [(.pair (.i .i64) (.i .i64))] .bo p.1 p.2)∧(lI l)=(lI l)∧(d2+(1:Int))=d3∧True)∧(True))∧q2 d3))) ∧
  ((decide (d2<(lI l)))=false →
   ((-1:Int)=(GU l p.2)∧(True)))) d20
def Z2:Cx:=⟨[],[],19,[],0,[],[],[],[],false,[],[],[],[]⟩
def JY (l:List (Int×Int)) (p:(Int×Int→Prop)×(Int×Int→Bool)):List (Nat×LoopAnn):=[(0,⟨Unit,Int,[0,1,7,8],fun e x=>[.val (.list (.pair (.i .i64) (.i .i64))) l,.pf [(.pair (.i .i64) (.i .i64))] .bo p.1 p.2,.val (.i .i64) (((List.length l):Nat):Int),.val (.i .i64) x],fun e x=>[]⟩)]
theorem JW (d:(List (Int×Int))×((Int×Int→Prop)×(Int×Int→Bool))):gwp (Z2) (JY d.1 d.2) c35 0 (YU [.tmp 4] (QZ d) (QY d)) (Qh 19 (AL.can Z3 d))=Qe d.1 d.2:=by kernel_rfl
abbrev X1:Prop:=OkC Tryz.prog 35 Qt
theorem X2 (h:∀ (l:List (Int×Int)) (p:(Int×Int→Prop)×(Int×Int→Bool)),(l.length≤1000000∧∀ x∈l,p.1 x)→Qe l p):OkC Tryz.prog 35 Qt :=
 QB Z1p mixed (C:=Z2) (V:=fun (d:(List (Int×Int))×((Int×Int→Prop)×(Int×Int→Bool)))=>Qe d.1 d.2) ⟨.nil,XsOk.nil,ItsOk.nil,YlOk.nil,IysOk.nil,XfOk.nil⟩ (JW) fun d hp=>h d.1 d.2 hp
theorem X0:X1:=X2 fun l p hp=>by
 unfold Qe;(try delta lI gD sT I64);simp only[true_and,and_true,exists_eq_left',exists_const,decide_eq_true_eq,decide_eq_false_iff_not];refine LoopP.count l.length (fun k=>(l.take k).any p.2=false) (by simp) fun k a9 hJ q hq=>?_;simp only[Int.toNat_natCast,Int.ofNat_lt,QQ];refine⟨fun ah=>?_,fun bh=>?_⟩
 ·rw[Q6 ah];refine⟨by omega,ah,hp.2 _ (List.getElem_mem ah),fun hx=>?_,fun hx=>⟨by omega,hq ah ?_⟩⟩
  ·rw[F9 ah hx hJ]
  ·rw[QO ah,List.any_append,hJ];simp[hx]
 ·rw[List.take_of_length_le (by omega)] at hJ;rw[Tj hJ]
def Mu:AL ((Int×Int)×Int×Int):=(.cons (.agg (.cons (.k (.i .i64)) (.one (.k (.i .i64))))) (.one (.ptr (.cons (.k (.i .i64)) (.one (.k (.i .i64)))))))
def Pu (d:(Int×Int)×Int×Int):Prop:=True
def Nk (d:(Int×Int)×Int×Int):SV:=.val .bo (!(decide (d.1.2≥d.2.2)))
def Nr (d:(Int×Int)×Int×Int):List OB:=[]
def Ud:CSp:=Wi Mu Pu Nk Nr
def WG (w1:Int) (e1:Int) (w2:Int) (e2:Int):Prop :=
 (True)∧((!(decide (e1≥e2)))=(!(decide (e1≥e2)))∧(True))
def MD:Cx:=⟨[],[(34,Yv)],8,[],0,[],[],[],[],false,[],[],[],[]⟩
def TW (w1:Int) (e1:Int) (w2:Int) (e2:Int):List (Nat×LoopAnn):=[]
theorem Ra (d:(Int×Int)×Int×Int):gwp (MD) (TW d.1.1 d.1.2 d.2.1 d.2.2) c36 0 (YU [.tmp 3] (Nk d) (Nr d)) (Qh 8 (AL.can Mu d))=WG d.1.1 d.1.2 d.2.1 d.2.2:=by kernel_rfl
abbrev TY:Prop:=OkC Tryz.prog 36 Ud
theorem RV (h:∀ (w1:Int) (e1:Int) (w2:Int) (e2:Int),(True)→WG w1 e1 w2 e2):OkC Tryz.prog 36 Ud :=
 QB Z24 mixed (C:=MD) (V:=fun (d:(Int×Int)×Int×Int)=>WG d.1.1 d.1.2 d.2.1 d.2.2) ⟨(.cons VN .nil),XsOk.nil,ItsOk.nil,YlOk.nil,IysOk.nil,XfOk.nil⟩ (Ra) fun d hp=>h d.1.1 d.1.2 d.2.1 d.2.2 hp
theorem R9:TY:=RV fun w1 e1 w2 e2 _=>by (unfold WG;(try delta lI gD sT I64);simp)
def BL:AL (List Int):=(.one (.k (.list (.i .i64))))
def SG (d:List Int):Prop:=d.length≤110
def GK (d:List Int):SV:=.tup [.dd 0 .out,.val (.i .i64) (Q5 d)]
def D4 (d:List Int):List OB:=[.deep 34 (some 3) (.list (.i .i64)) (if Q5 d=0 then Vo d else []) ((if Q5 d=0 then Vo d else []).isEmpty) none]
def MV:CSp:=Wi BL SG GK D4
def KF (l:List Int):Prop :=
 (l.length≤1000000)∧(((Q5 l) != (0:Int))=true →
  ((True∧(Q5 l)=Q5 l∧(([]:List SV)=[]))∧(((if Q5 l=0 then Vo l else [])=[]∧(if Q5 l=0 then Vo l else []).isEmpty=true)∧True))) ∧
 (((Q5 l) != (0:Int))=false →
  (l.length≤1000000)∧∃ (e4:Unit) (d40:(List (List Int))×(List (Int×Int))×Int),((True∧True∧True∧(lI (thr l))=(lI (thr l))∧(0:Int)=d40.2.2∧True)∧((d40.1=[]∧(List.isEmpty d40.1)=true)∧(d40.2.1=[]∧(List.isEmpty d40.2.1)=true)∧((thr l)=(thr l)∧(thr l).isEmpty=(List.isEmpty (thr l)))∧True)) ∧
  LoopP (fun (d4:(List (List Int))×(List (Int×Int))×Int) (q4:((List (List Int))×(List (Int×Int))×Int)→Prop) =>
   ((decide (d4.2.2<(lI (thr l))))=true →
    (0≤d4.2.2)∧(d4.2.2<(List.length (thr l)))∧(d4.2.1.length≤1000000∧∀ x∈d4.2.1,(fun (x1:Int×Int)=>True) x)∧((decide ((GU d4.2.1 (fun (x1:Int×Int)=>(!(decide (x1.2≥((gD (thr l) d4.2.2 (0,0)).2))))))<(0:Int)))=true →
     (((List.length d4.2.1)+(List.length [((gD (thr l) d4.2.2 (0,0)).1,(gD (thr l) d4.2.2 (0,0)).2)]))*16≤70368744177664)∧(((List.length d4.1)+(List.length [([]:List Int)]))*24≤70368744177664)∧(0≤(lI d4.2.1))∧((lI d4.2.1)<(List.length (d4.2.1++[((gD (thr l) d4.2.2 (0,0)).1,(gD (thr l) d4.2.2 (0,0)).2)])))∧(0≤(lI d4.2.1))∧((lI d4.2.1)<(List.length (d4.1++[([]:List Int)])))∧(((List.length (gD (d4.1++[([]:List Int)]) (lI d4.2.1) []))+(List.length [(gD (thr l) d4.2.2 (0,0)).1]))*8≤70368744177664)∧([(gD (thr l) d4.2.2 (0,0)).1]≠[])∧(0≤(lI d4.2.1))∧((lI d4.2.1)<(List.length (d4.1++[([]:List Int)])))∧(Int.toNat (lI d4.2.1))=(Int.toNat (lI d4.2.1))∧(I64 (d4.2.2+(1:Int)))∧(∃ d5:(List (List Int))×(List (Int×Int))×Int,((True∧True∧True∧(lI (thr l))=(lI (thr l))∧(d4.2.2+(1:Int))=d5.2.2∧True)∧(((sT (d4.1++[([]:List Int)]) (lI d4.2.1) ((gD (d4.1++[([]:List Int)]) (lI d4.2.1) [])++[(gD (thr l) d4.2.2 (0,0)).1]))=d5.1∧false=(List.isEmpty d5.1))∧((sT (d4.2.1++[((gD (thr l) d4.2.2 (0,0)).1,(gD (thr l) d4.2.2 (0,0)).2)]) (lI d4.2.1) ((gD (thr l) d4.2.2 (0,0)).1,(gD (thr l) d4.2.2 (0,0)).2))=d5.2.1∧false=(List.isEmpty d5.2.1))∧((thr l)=(thr l)∧(List.isEmpty (thr l))=(List.isEmpty (thr l)))∧True))∧q4 d5)) ∧
    ((decide ((GU d4.2.1 (fun (x1:Int×Int)=>(!(decide (x1.2≥((gD (thr l) d4.2.2 (0,0)).2))))))<(0:Int)))=false →
     (0≤(GU d4.2.1 (fun (x1:Int×Int)=>(!(decide (x1.2≥((gD (thr l) d4.2.2 (0,0)).2)))))))∧((GU d4.2.1 (fun (x1:Int×Int)=>(!(decide (x1.2≥((gD (thr l) d4.2.2 (0,0)).2))))))<(List.length d4.2.1))∧(0≤(GU d4.2.1 (fun (x1:Int×Int)=>(!(decide (x1.2≥((gD (thr l) d4.2.2 (0,0)).2)))))))∧((GU d4.2.1 (fun (x1:Int×Int)=>(!(decide (x1.2≥((gD (thr l) d4.2.2 (0,0)).2))))))<(List.length d4.1))∧(((List.length (gD d4.1 (GU d4.2.1 (fun (x1:Int×Int)=>(!(decide (x1.2≥((gD (thr l) d4.2.2 (0,0)).2)))))) []))+(List.length [(gD (thr l) d4.2.2 (0,0)).1]))*8≤70368744177664)∧([(gD (thr l) d4.2.2 (0,0)).1]≠[])∧(0≤(GU d4.2.1 (fun (x1:Int×Int)=>(!(decide (x1.2≥((gD (thr l) d4.2.2 (0,0)).2)))))))∧((GU d4.2.1 (fun (x1:Int×Int)=>(!(decide (x1.2≥((gD (thr l) d4.2.2 (0,0)).2))))))<(List.length d4.1))∧(Int.toNat (GU d4.2.1 (fun (x1:Int×Int)=>(!(decide (x1.2≥((gD (thr l) d4.2.2 (0,0)).2)))))))=(Int.toNat (GU d4.2.1 (fun (x1:Int×Int)=>(!(decide (x1.2≥((gD (thr l) d4.2.2 (0,0)).2)))))))∧(I64 (d4.2.2+(1:Int)))∧(∃ d6:(List (List Int))×(List (Int×Int))×Int,((True∧True∧True∧(lI (thr l))=(lI (thr l))∧(d4.2.2+(1:Int))=d6.2.2∧True)∧(((sT d4.1 (GU d4.2.1 (fun (x1:Int×Int)=>(!(decide (x1.2≥((gD (thr l) d4.2.2 (0,0)).2)))))) ((gD d4.1 (GU d4.2.1 (fun (x1:Int×Int)=>(!(decide (x1.2≥((gD (thr l) d4.2.2 (0,0)).2)))))) [])++[(gD (thr l) d4.2.2 (0,0)).1]))=d6.1∧(List.isEmpty d4.1)=(List.isEmpty d6.1))∧((sT d4.2.1 (GU d4.2.1 (fun (x1:Int×Int)=>(!(decide (x1.2≥((gD (thr l) d4.2.2 (0,0)).2)))))) ((gD (thr l) d4.2.2 (0,0)).1,(gD (thr l) d4.2.2 (0,0)).2))=d6.2.1∧(List.isEmpty d4.2.1)=(List.isEmpty d6.2.1))∧((thr l)=(thr l)∧(List.isEmpty (thr l))=(List.isEmpty (thr l)))∧True))∧q4 d6))) ∧
   ((decide (d4.2.2<(lI (thr l))))=false →
    ((True∧(0:Int)=Q5 l∧(([]:List SV)=[]))∧((d4.1=(if Q5 l=0 then Vo l else [])∧(List.isEmpty d4.1)=(if Q5 l=0 then Vo l else []).isEmpty)∧True)))) d40)
def B9:Cx:=⟨[(3,(.i .i64)),(34,(.list (.i .i64))),(93,(.pair (.i .i64) (.i .i64)))],[(32,Zf),(33,Xw),(35,Qt),(36,Ud)],52,[],0,[],[],[(34,3)],[],false,[],[],[],[]⟩
def CN (l:List Int):List (Nat×LoopAnn):=[(0,⟨Unit,(List (List Int))×(List (Int×Int))×Int,[2,5,15,16,17],fun e x=>[.dd 34 .out,.lst 31,.lst 15,.val (.i .i64) (((List.length (thr l)):Nat):Int),.val (.i .i64) x.2.2],fun e x=>[(34,.slot 2,.deep 34 (some 3) (.list (.i .i64)) x.1 (List.isEmpty x.1) none),(31,.slot 5,.lst 93 (.pair (.i .i64) (.i .i64)) x.2.1 (List.isEmpty x.2.1)),(15,.slot 15,.lst 93 (.pair (.i .i64) (.i .i64)) (thr l) (List.isEmpty (thr l)))]⟩)]
theorem C3 (d:List Int):gwp (B9) (CN d) c11 0 (YU [.tmp 2,.tmp 3] (GK d) (D4 d)) (Qh 52 (AL.can BL d))=KF d:=by kernel_rfl
abbrev CM:Prop:=OkC Tryz.prog 11 MV
theorem Cq (h:∀ (l:List Int),(l.length≤110)→KF l):OkC Tryz.prog 11 MV :=
 QB Z00 mixed (C:=B9) (V:=fun (d:List Int)=>KF d) ⟨(.cons JI (.cons YC (.cons X0 (.cons R9 .nil)))),XsOk.nil,ItsOk.nil,YlOk.nil,IysOk.nil,XfOk.nil⟩ (C3) fun d hp=>h d hp
theorem RT {α:Type}(l:List α) (i:Nat) (a:α):(l.set i a).isEmpty=l.isEmpty:=by cases l<;>cases i<;>rfl
theorem Q3x (t:List (Int×Int)) (a:Int×Int):Q14 (t++[a])=Vu (Q14 t) a:=by simp[Q14]
theorem H_ {s:List (List Int)×List (Int×Int)}{a:Int×Int}(h:s.2.findIdx? (fun x=>!(decide (x.2≥a.2)))=none):Vu s a=(s.1++[[a.1]],s.2++[a]):=by simp only[Vu,h]
theorem P0 {s:List (List Int)×List (Int×Int)}{a:Int×Int}{i:Nat}(h:s.2.findIdx? (fun x=>!(decide (x.2≥a.2)))=some i):Vu s a=(s.1.set i (s.1.getD i []++[a.1]),s.2.set i a):=by simp only[Vu,h]
theorem Hn {α:Type}(l:List α) (p:α→Bool):(l.findIdx? p=none∧GU l p=-1)∨∃ i:Nat,i<l.length∧l.findIdx? p=some i∧GU l p=i:=by
 cases h:l.findIdx? p with
 |none=>left;exact⟨rfl,by simp[GU,h]⟩
 |some i=>right;exact⟨i,(List.findIdx?_eq_some_iff_getElem.1 h).1,rfl,by simp[GU,h]⟩
theorem Q5e (t:List (Int×Int)):(Q14 t).1.length=(Q14 t).2.length∧(Q14 t).2.length≤t.length∧∀ x∈(Q14 t).1,x.length≤t.length:=by
 suffices H:∀ (t:List (Int×Int)) (s:List (List Int)×List (Int×Int)) (n:Nat),s.1.length=s.2.length→s.2.length≤n→(∀ x∈s.1,x.length≤n)→(t.foldl Vu s).1.length=(t.foldl Vu s).2.length∧(t.foldl Vu s).2.length≤n+t.length∧∀ x∈(t.foldl Vu s).1,x.length≤n+t.length by have:=H t ([],[]) 0 rfl (Nat.le_refl _) (fun x hx=>by cases hx);simpa [Q14] using this
 intro t;induction t with
 |nil=>intro s n h1 h2 h3;exact⟨h1,h2,h3⟩
 |cons a t ih =>
  intro s n h1 h2 h3;rw[List.foldl_cons,List.length_cons,show n+(t.length+1)=(n+1)+t.length by omega];rcases Hn s.2 (fun x=>!(decide (x.2≥a.2))) with⟨h,_⟩|⟨i,hi,h,_⟩
  ·rw[H_ h];refine ih _ _ (by simp[h1]) (by simp;omega) fun x hx=>?_;rcases List.mem_append.1 hx with hx|hx
   ·have:=h3 x hx;omega
   ·simp at hx;subst hx;simp
  ·rw[P0 h];refine ih _ _ (by simp[h1]) (by simp;omega) fun x hx=>?_;rcases List.mem_or_eq_of_mem_set hx with hx|hx
   ·have:=h3 x hx;omega
   ·subst hx;have ft:i<s.1.length:=by omega
    have:=h3 _ (List.getElem_mem ft);rw[Q6 ft,List.length_append];simp;omega
theorem A9:CM:=Cq fun l hl=>by
 unfold KF;(try delta lI gD sT I64);simp only[true_and,and_true,exists_const,decide_eq_true_eq,decide_eq_false_iff_not,bne_iff_ne,ne_eq,bne_eq_false_iff_eq,Int.toNat_natCast,Int.ofNat_lt,ge_iff_le,QQ];refine⟨by omega,fun he=>by simp[he],fun he=>⟨by omega,?_⟩⟩;have s9:=Hi l;have hL:Vo l=(Q14 (thr l)).1:=rfl;simp only[he,if_true,hL];generalize thr l=T at *
 refine⟨([],[],0),⟨rfl,⟨rfl,rfl⟩,⟨rfl,rfl⟩⟩,?_⟩;refine⟨fun d=>∃ i:Nat,i≤T.length∧d.2.2=i∧(d.1,d.2.1)=Q14 (T.take i),fun d=>T.length-d.2.2.toNat,⟨0,Nat.zero_le _,rfl,rfl⟩,?_⟩;rintro⟨lay,ends,_⟩ ⟨i,hi,rfl,hd⟩;dsimp only at hd ⊢;obtain⟨hlen,hle,bu⟩:=Q5e (T.take i);rw[←hd] at hlen hle bu;dsimp only at hlen hle bu;rw[List.length_take] at hle bu;refine⟨fun ah=>?_,fun bh=>?_⟩
 ·have ah:i<T.length:=by omega
  have oZ:Q14 (T.take (i+1))=Vu (lay,ends) T[i]:=by rw[QO ah,Q3x,←hd]
  simp only[Int.toNat_natCast,Q6 ah];refine⟨by omega,by omega,⟨by omega,fun _ _=>trivial⟩,fun mP=>?_,fun dw=>?_⟩
  ·rcases Hn ends (fun x=>!(decide (T[i].2≤x.2))) with⟨h,_⟩|⟨j,hj,h,h2⟩
   ·have e1:(lay++[([]:List Int)]).getD lay.length []=[]:=by simp
    have e2:(lay++[([]:List Int)]).set lay.length ([]++[T[i].1])=lay++[[T[i].1]]:=by simp
    have e3:(ends++[(T[i].1,T[i].2)]).set ends.length (T[i].1,T[i].2)=ends++[T[i]]:=by simp
    rw[←hlen,e1,e2];rw[hlen,e3];simp only[List.length_append,List.length_singleton,List.length_nil];refine⟨by omega,by omega,by omega,by omega,by omega,by omega,by omega,by simp,by omega,by omega,by omega,(lay++[[T[i].1]],ends++[T[i]],(i:Int)+1),⟨rfl,⟨rfl,by simp⟩,⟨rfl,by simp⟩⟩,⟨i+1,by omega,by simp,?_⟩,by simp;omega⟩;dsimp only;rw[oZ,H_ h]
   ·omega
  ·rcases Hn ends (fun x=>!(decide (T[i].2≤x.2))) with⟨h,h2⟩|⟨j,hj,h,h2⟩
   ·omega
   ·rw[h2];have fI:j<lay.length:=by omega
    have hr:=bu _ (List.getElem_mem fI);simp only[Int.toNat_natCast,Q6 fI,List.length_singleton];refine⟨by omega,by omega,by omega,by omega,by omega,by simp,by omega,by omega,by omega,(lay.set j (lay[j]++[T[i].1]),ends.set j T[i],(i:Int)+1),⟨rfl,⟨rfl,?_⟩,⟨rfl,?_⟩⟩,⟨i+1,by omega,by simp,?_⟩,by simp;omega⟩
    ·exact(RT _ _ _).symm
    ·exact(RT _ _ _).symm
    ·dsimp only;rw[oZ,P0 h,Q6 fI]
 ·have:i=T.length:=by omega
  subst this;rw[List.take_length] at hd;rw[←hd];exact⟨trivial,rfl,rfl⟩
end Go.Proofs.Tryz
namespace Go.V
open Go
theorem Q46 {P:Program}{σ:Heap}:Ret P σ (.val .bo true) [] (.bool true) σ :=
 ⟨⟨.refl _,Dead.refl _⟩,fun _=>rfl,Xu,fun j b hj=>by simp at hj,fun j j' i hj=>by simp at hj,by simp[SR,KC]⟩
theorem O2 {P:Program}{f:Nat}(h:∀ (σ:Heap) (K:Value→Heap→Prop),K (.bool true) σ→VCalled P f [] σ K):OkC P f (Wi (.nil:AL Unit) (fun _=>True) (fun _=>.val .bo true) (fun _=>[])):=by
 intro ap ec σ args vs c v bs av hs hv b9 hc;unfold Wi at hs;split at hs
 ·rename_i d hd;obtain⟨rfl,rfl,rfl⟩:=(by simpa using hs:True=c∧SV.val .bo true=v∧[]=bs);have:vs=[]:=by
   cases args with
   |nil=>simpa [SRs] using av
   |cons a l=>simp[AL.dec] at hd
  subst this;refine⟨h σ _ Q46,fun _ _=>h σ _ ⟨rfl,?_⟩⟩;unfold RR;cases σ;simp only[List.length_nil,Nat.add_zero,List.getElem?_nil,Option.bind_none,Heap.mk.injEq,and_true];funext i;split
  ·rfl
  ·rename_i wf hi;exact wf i (by simpa using hi)
 ·cases hs
end Go.V
namespace Go.V
open Go Go.ChangeShapes Go.WideShapes Go.RowKit Go.Deep Go.Joins
def Heap.RO (σ:Heap):Prop:=∀ i b,σ.get i=some b→b.wr=false
structure View (w:World) (ρ:Plc) (σ:Heap):Prop where
 rel:HRel ρ σ w
 ro:σ.RO
structure More (ρ:Plc) (σ:Heap) (ρ':Plc) (σ':Heap):Prop where
 n:σ.n≤σ'.n
 pl:∀ i,i<σ.n→∀ p,ρ' i=some p→ρ i=some p
 ag:Agree σ σ'
theorem More.refl (ρ:Plc) (σ:Heap):More ρ σ ρ σ:=⟨Nat.le_refl _,fun _ _ _ h=>h,Agree.refl _⟩
theorem More.trans {ρ ρ' eI:Plc}{σ σ' aD:Heap}(h:More ρ σ ρ' σ') (k:More ρ' σ' eI aD):More ρ σ eI aD :=
 ⟨Nat.le_trans h.n k.n,fun i hi p hp=>h.pl i hi p (k.pl i (Nat.lt_of_lt_of_le hi h.n) p hp),h.ag.trans k.ag h.n⟩
def Z5r (w:World):Prop:=∀ g cs,Q40 g=some cs→∃ e f,w.heap[g]?=some (.cells cs.toArray e f)
theorem View.emptyT (w:World) (ht:Z5r w):View w (fun _=>none) Heap.empty where
 rel:=⟨⟨fun i b h=>(by cases h),fun _ _=>rfl,fun i p h=>(by cases h),fun i j p q b _ h=>(by cases h)⟩,fun g cs hg=>⟨ht g cs hg,fun ⟨_,_,_,h,_⟩=>by cases h⟩⟩
 ro:=fun i b h=>by cases h
theorem View.add {w:World}{ρ:Plc}{σ:Heap}(h:View w ρ σ) (p:Pl) (c:List Value) {C:Array Value}{e:TypeId}{f:Nat×Nat}(hb:w.heap[p.blk]?=some (.cells C e f)) (hs:p.shift+p.ext≤C.size) (hl:c.length≤p.ext) (ht:e=p.esz.ty)
  (hc:∀ (k:Nat) (v:Value),c[k]?=some v→∃ u,w.cell? ⟨p.blk,p.shift+k,none⟩=some u∧VRel ρ σ.n v u) :
  View w (ρ.put σ.n (some p)) (σ.push (.cells c p.esz false p.tight))∧More ρ σ (ρ.put σ.n (some p)) (σ.push (.cells c p.esz false p.tight)):=by
 have aW:∀ i,i<σ.n→∀ q,(ρ.put σ.n (some p)) i=some q→ρ i=some q:=fun i hi q hq=>by unfold Plc.put at hq;rwa [if_neg (by omega)] at hq
 have bT:(σ.push (.cells c p.esz false p.tight)).RO:=fun i b hi=>by
  by_cases e:i=σ.n
  ·subst e;rw[Heap.get_push_self] at hi;obtain rfl:=osj hi;rfl
  ·rw[Heap.get_push_ne _ _ e] at hi;exact h.ro i b hi
 refine⟨⟨⟨⟨?_,?_,?_,?_⟩,fun g cs hg=>⟨(h.rel.tab g cs hg).1,fun ⟨i,_,b,_,hi,hw,_⟩=>by rw[bT i b hi] at hw;cases hw⟩⟩,bT⟩,⟨by simp,aW,fun i hi=>Heap.get_push_lt _ _ hi⟩⟩
 ·intro i b hi;by_cases aM:i=σ.n
  ·subst aM;rw[Heap.get_push_self] at hi;obtain rfl:=osj hi;refine⟨p,by simp[Plc.put],rfl,rfl,hl,⟨C,e,f,hb,hs,ht⟩,fun k v hk=>?_,fun h=>by cases h⟩;obtain⟨u,hu,hv⟩:=hc k v hk;exact⟨u,hu,hv.mono (by simp) aW⟩
  ·rw[Heap.get_push_ne _ _ aM] at hi;obtain⟨q,hq,hB⟩:=h.rel.live i b hi;exact⟨q,by simp[Plc.put,aM,hq],hB.mono (by simp) aW rfl⟩
 ·intro i hi;by_cases aM:i=σ.n
  ·subst aM;rw[Heap.get_push_self] at hi;cases hi
  ·rw[Heap.get_push_ne _ _ aM] at hi;simp[Plc.put,aM,h.rel.dead i hi]
 ·intro i q hq;by_cases aM:i=σ.n
  ·subst aM;simp[Plc.put] at hq;subst hq;exact(Array.getElem?_eq_some_iff.1 hb).1
  ·simp[Plc.put,aM] at hq;exact h.rel.lt i q hq
 ·intro i j q r b _ _ _ bJ hw _;rw[bT i b bJ] at hw;cases hw
theorem Q33 {P:Program}{fits:TypeId→Bool}{d:Nat}{e:TypeId}{count off n:Nat}(h:rowAt P fits d e count off n=true):off≤count*P.cellsOf e:=by
 cases d with
 |zero=>cases h
 |succ d =>
  unfold rowAt at h;by_cases hs:P.cellsOf e=0
  ·simp[hs] at h
  ·have dw:0<P.cellsOf e:=Nat.pos_of_ne_zero hs;simp only[hs,if_false,Bool.or_eq_true,Bool.and_eq_true,beq_iff_eq,decide_eq_true_eq] at h;have hd:=Nat.div_add_mod off (P.cellsOf e);have hm:=Nat.mod_lt off dw;rcases h with⟨⟨h1,h2⟩,_⟩|⟨h1,_⟩
   ·have:P.cellsOf e*(off / P.cellsOf e)≤P.cellsOf e*count:=Nat.mul_le_mul_left _ (by omega);rw[Nat.mul_comm count];omega
   ·have:P.cellsOf e*(off / P.cellsOf e+1)≤P.cellsOf e*count:=Nat.mul_le_mul_left _ (by omega);rw[Nat.mul_add] at this;rw[Nat.mul_comm count];omega
theorem L9 {P:Program}:∀ {d:Nat}{e:TypeId}{count off:Nat}{u:TypeId}{n:Nat},liesAt P d e count off u n=true→off≤count*P.cellsOf e
 |0,_,_,_,_,_,h=>by cases h
 |d+1,e,count,off,u,n,h=>by
  unfold liesAt at h;rw[Bool.or_eq_true] at h;rcases h with h|h
  ·exact Q33 h
  ·split at h
   ·exact L9 h
   ·cases h
theorem Q3l {P:Program}{w:World}{r:Reach}{base:Nat}{a:Addr}{e:TypeId}{n:Nat}(h:w.has P r base a e n):∃ C row f,w.heap[a.block]?=some (.cells C row f)∧a.off≤C.size∧a.spot=none:=by
 obtain⟨_,hs,row,cells,dL,hl⟩:=h;unfold World.shape? at dL;split at dL
 ·rename_i C e' f hb;obtain⟨rfl,rfl⟩:=(by simpa using dL:e'=row∧C.size=cells);exact⟨C,e',f,hb,Nat.le_trans (L9 hl) (Nat.div_mul_le_self _ _),hs⟩
 ·cases dL
theorem Eh {P:Program}{w:World}{r:Reach}{base:Nat}{t e:TypeId}{v:Value}(ht:P.underlying t=some (.slice e)) (h:Cell.okWide P w r base t v) :
  v=.slice none 0 0∨∃ a len cap,v=.slice (some a) len cap∧w.has P r base a e cap:=by
 unfold Cell.okWide at h;rw[ht] at h;have h':Cell.ok P w r base t v:=by split at h<;>first|exact h|simp_all
 unfold Cell.ok at h';rw[ht] at h';split at h'<;>first|exact .inl rfl|(cases h';done)|skip
 all_goals first|(rename_i h1 h2;simp_all;done)|skip
 all_goals first|(simp_all;exact⟨_,_,_,⟨rfl,rfl,rfl⟩,h'.2.2⟩)|(simp_all)
theorem Z07 {k:IntKind}{x:Int}(h:(Lit.int k x).wf=true):k.min≤x∧x≤k.max:=by simpa [Lit.wf] using h
theorem View.calls {P:Program}{f:FuncId}{w:World}{ρ:Plc}{σ:Heap}(h:View w ρ σ) {args:List Value}{aw:Array Value}(hl:LRel ρ σ.n args aw.toList) (hc:VCallsTo P f args σ fun v _=>v=.bool true) :
  Calls P f aw w fun e w'=>e=.returned (.bool true)∧Below w.heap.size w w':=by
 refine (hc ρ w aw h.rel hl).mono fun e w' ⟨c,he,v,ρ',σ',hv,hr,_,hx⟩=>?_;subst hv;have:c=.bool true:=by cases hr;rfl
 subst this;exact⟨he,hx.os,hx.tape,hx.output,hx.size,fun B hB=>hx.keep B hB fun ⟨i,p,b,_,hi,hw,_⟩=>by rw[h.ro i b hi] at hw;cases hw⟩
theorem DS {H:Type}{enc:TypeId×Value→H}{P:Program}(hl:laidOutB P=true) {W W':World}{sp:Nat→Bool}(hb:Below W.heap.size W W') :
  ∀ {ts:List TypeId}{vs:List Value}{ds:List (DataW H)}{ps:List MemPlace},(∀ t∈ts,P.readableRec t=true∧t<P.types.size)→DataW.TrodAll enc P W 0 (fun _=>true) true ts vs ds ps→(∀ p∈ps,p.block<W.heap.size)→(∀ p∈ps,sp p.block=true) →
   DataW.TrodAll enc P W' 0 sp true ts vs ds ps
 |[],vs,ds,ps,_,h,_,_=>by obtain⟨rfl,rfl,rfl⟩:=trodAll_nil h;rfl
 |t::ts,vs,ds,ps,ht,h,ah,hs=>by
  obtain⟨v,cM,d,ds',p,q,rfl,rfl,rfl,h1,h2⟩:=trodAll_cons h;obtain⟨r1,r2⟩:=ht t (by simp);exact⟨p,q,WideElems.Trod_stays hl r1 r2 h1 (fun x hx=>hb.same (ah x (by simp[hx]))) (fun x hx=>hs x (by simp[hx])),
   DS hl hb (fun t mh=>ht t (by simp[mh])) h2 (fun x hx=>ah x (by simp[hx])) (fun x hx=>hs x (by simp[hx])),rfl⟩
theorem Q35 {H:Type}{enc:TypeId×Value→H}{P:Program}{f:Func}{s:ChangeSpec}{apart fresh handsOn again:Bool}{W W':World}{args:Array Value}{ds gs:List (DataW H)}{before:List MemPlace}{tb:TypeId}
  (hl:laidOutB P=true) (hp:f.params.toList.all (fun t=>P.readableRec t&&decide (t<P.types.size))=true) (kU:s.vars=[]) (hr:f.resultTypes=#[tb]) (bp:P.underlying tb=some .bool) (hs:s.fn H ds={results:=[.lit (.bool true)],args:=ds})
  (hW:DataW.Whole enc P f.params.toList s.vars apart W args.toList ds gs before) (hb:Below W.heap.size W W'):s.post enc P f apart fresh handsOn again W args (.bool true) W':=by
 have ah:∀ p∈before,p.block<W.heap.size:=fun p hp=>hW.lt p hp;have vQ:=hW;obtain⟨p,q,hA,hV,rfl,hz,hn⟩:=hW;rw[kU] at hV;obtain⟨rfl,rfl⟩:=trodVars_none hV;have bw:∀ t∈f.params.toList,P.readableRec t=true∧t<P.types.size:=fun t ht=>by have:=List.all_eq_true.1 hp t ht;simpa using this
 have eQ:s.fn H (ds++[])={results:=[.lit (.bool true)],args:=ds}:=by rw[List.append_nil];exact hs
 have dF:∀ (b:Nat) (sp:Nat→Bool) (hd:Bool),DataW.TrodAll enc P W' b sp hd f.resultTypes.toList ((Value.bool true).resultList f.resultTypes.size) (s.fn H (ds++[])).results []:=fun b sp hd=>by rw[eQ,hr];exact trodAll_mk1 (shut_bool bp _)
 have av:∀ sp:Nat→Bool,(∀ x∈p++[],sp x.block=true)→DataW.TrodAll enc P W' 0 sp true f.params.toList args.toList (s.fn H (ds++[])).args p:=fun sp fb=>by rw[eQ];exact DS hl hb bw hA (fun x hx=>ah x (by simp[hx])) (fun x hx=>fb x (by simp[hx]))
 have cC:∀ sp:Nat→Bool,DataW.TrodVars enc P W' sp s.vars (s.fn H (ds++[])).vars []:=fun sp=>by rw[eQ,kU];rfl
 have hold:∀ x∈p++[],(fun b=>decide (b<W.heap.size)) x.block=true:=fun x hx=>by simpa using ah x hx
 refine⟨ds,[],p++[],[],p,[],vQ,dF _ _ _,av _ hold,cC _,World.keptBut_mono (fun x hx=>⟨hx,?_⟩) (hb.frame (·∈p++[])),fun _=>?_⟩
 ·exact .inr (by simpa using hx)
 ·refine⟨ok_one hr rfl (okWide_bool_mk bp _),_,_,([]++p)++[],⟨[]++p,[],trodAll_append (av _ (fun _ _=>rfl)) (dF _ _ _),cC _,rfl,?_,?_⟩,?_⟩
  ·intro b off hx;have aM:MemPlace.cell b off∈p++[]:=by simpa using hx
   rw[hb.frozen (ah _ aM)];exact hz b off aM
  ·intro ha;simpa using hn ha
  ·intro x hx _;simpa using hx
def KFs (T:Kind→TypeId→Bool) (sz:TypeId→Nat):Kind→List (TypeId×Nat)→Nat→Bool
 |_,[],_=>false
 |k,[p],off=>p.2==off&&(sz p.1==k.size&&T k p.1)
 |.pair a b,p::q::r,off=>p.2==off&&(sz p.1==a.size&&(T a p.1&&KFs T sz b (q::r) (off+a.size)))
 |_,_::_::_,_=>false
def KTy (P:Program):Nat→Kind→TypeId→Bool
 |0,_,_=>false
 |n+1,k,t=>match P.underlying t with
  |some (.struct fs)=>P.cellsOf t==k.size&&KFs (KTy P n) P.cellsOf k (fs.toList.map fun f=>(f.type,f.offset)) 0
  |some (.array m e)=>P.cellsOf t==k.size&&KFs (KTy P n) P.cellsOf k ((List.range m).map fun i=>(e,i*P.cellsOf e)) 0
  |some (.int ik)=>(match k with|.i k'=>decide (k'=ik)|_=>false)
  |some .bool=>(match k with|.bo=>true|_=>false)
  |some .string=>(match k with|.st=>true|_=>false)
  |some (.slice e)=>(match k with|.list k'=>P.cellsOf e==k'.size&&(k'.flat&&KTy P n k' e)|_=>false)
  |_=>false
def KWf:(k:Kind)→k.T→Prop
 |.i ik,x=>InK ik x
 |.bo,_=>True
 |.st,s=>s.length≤maxLen
 |.list k,l=>l.length≤maxLen∧∀ x∈l,KWf k x
 |.pair a b,x=>KWf a x.1∧KWf b x.2
theorem More.le {ρ ρ':Plc}{σ σ':Heap}(h:More ρ σ ρ' σ'):σ.Le σ':=⟨h.n,fun i b hb=>by rw[h.ag i (σ.lt hb)];exact hb⟩
def ArgIs (w:World) (ρ:Plc) (σ:Heap) (k:Kind) (cs:List Value):Prop :=
 ∃ ρ' σ' vs x,View w ρ' σ'∧More ρ σ ρ' σ'∧LRel ρ' σ'.n vs cs∧KC σ' k x vs∧KWf k x
theorem ArgIs.pair {w:World}{ρ:Plc}{σ:Heap}{a b:Kind}{cs ds:List Value}(h1:ArgIs w ρ σ a cs) (h2:∀ ρ σ,View w ρ σ→ArgIs w ρ σ b ds):ArgIs w ρ σ (.pair a b) (cs++ds):=by obtain⟨ρ1,σ1,px,x1,k1,k2,k3,k4,k5⟩:=h1;obtain⟨ρ2,σ2,kI,x2,m1,m2,m3,m4,m5⟩:=h2 ρ1 σ1 k1;exact⟨ρ2,σ2,px++kI,(x1,x2),m1,k2.trans m2,(k3.mono m2.n m2.pl).append m3,⟨px,kI,rfl,k4.mono m2.le,m4⟩,k5,m5⟩
section
variable {H:Type}{enc:TypeId×Value→H}{P:Program}{w:World}{r:Reach}{base:Nat}
def okc (P:Program) (w:World) (r:Reach) (base:Nat) (ts:List TypeId) (cs:List Value):Prop:=∀ (i:Nat) v u,cs[i]?=some v→ts[i]?=some u→Cell.okWide P w r base u v
theorem I2 {T:Kind→TypeId→Bool}{sz:TypeId→Nat}{g:TypeId→Option (List TypeId)}(hT:∀ k t ts,T k t=true→g t=some ts→ts.length=k.size) :
  ∀ {k:Kind}{L:List (TypeId×Nat)}{off:Nat}{iE:List (List TypeId)},KFs T sz k L off=true→L.mapM (fun p=>g p.1)=some iE→iE.flatten.length=k.size
 |k,[],_,_,h,_=>by simp[KFs] at h
 |k,[p],off,iE,h,hm=>by
  simp only[KFs,Bool.and_eq_true] at h;cases hg:g p.1 with
  |none=>simp[hg] at hm
  |some ts =>simp[hg] at hm;subst hm;simpa using hT _ _ _ h.2.2 hg
 |.pair a b,p::q::r,off,iE,h,hm=>by
  simp only[KFs,Bool.and_eq_true] at h;rw[List.mapM_cons] at hm;cases hg:g p.1 with
  |none=>simp[hg] at hm
  |some ts =>
   cases hr:(q::r).mapM (fun p=>g p.1) with
   |none=>simp[hg,hr] at hm
   |some tr =>simp[hg,hr] at hm;subst hm;have:=I2 hT h.2.2.2 hr;simp only[List.flatten_cons,List.length_append,this,hT _ _ _ h.2.2.1 hg,Kind.size]
 |.i _,_::_::_,_,_,h,_|.bo,_::_::_,_,_,h,_|.st,_::_::_,_,_,h,_|.list _,_::_::_,_,_,h,_=>by cases h
theorem Bq {α β γ:Type}{f:α→β}{g:β→Option γ}:∀ (l:List α),(l.map f).mapM g=l.mapM (fun x=>g (f x))
 |[]=>rfl
 |a::l=>by simp only[List.map_cons,List.mapM_cons,Bq l]
theorem H5 {β:Type}{x:β}{f:Nat→Option β}(h:∀ i,f i=some x):∀ l:List Nat,l.mapM f=some (List.replicate l.length x)
 |[]=>rfl
 |a::l=>by simp[List.mapM_cons,h,H5 h l,List.replicate_succ]
theorem FM:∀ {n:Nat}{k:Kind}{t:TypeId}{d:Nat}{ts:List TypeId},KTy P n k t=true→P.cellTypes d t=some ts→ts.length=k.size
 |0,_,_,_,_,h,_=>by cases h
 |_+1,_,_,0,_,_,h=>by cases h
 |n+1,k,t,d+1,ts,h,ht=>by
  have ih:∀ k t ts,KTy P n k t=true→P.cellTypes d t=some ts→ts.length=k.size:=fun k t ts h1 h2=>FM h1 h2;unfold Program.cellTypes at ht;unfold KTy at h;cases hu:P.underlying t with
  |none=>rw[hu] at h;cases h
  |some u =>
   rw[hu] at h ht;cases u<;>first|(cases h;done)|skip
   all_goals simp only at h ht
   ·split at h<;>first|(cases h;done)|(obtain rfl:=osj ht;rfl)
   ·split at h<;>first|(cases h;done)|(obtain rfl:=osj ht;rfl)
   ·split at h<;>first|(cases h;done)|(obtain rfl:=osj ht;rfl)
   ·split at h<;>first|(cases h;done)|(obtain rfl:=osj ht;rfl)
   ·rename_i m e;rw[Bool.and_eq_true] at h;cases hc:P.cellTypes d e with
    |none=>rw[hc] at ht;cases ht
    |some te =>rw[hc] at ht;obtain rfl:=osj ht;refine I2 (g:=fun t=>P.cellTypes d t) ih h.2 ?_;rw[Bq,H5 (x:=te) (fun _=>hc)];simp
   ·rename_i fs;rw[Bool.and_eq_true] at h;cases hc:fs.toList.mapM fun f=>P.cellTypes d f.type with
    |none=>rw[hc] at ht;cases ht
    |some iE =>rw[hc] at ht;obtain rfl:=osj ht;refine I2 (g:=fun t=>P.cellTypes d t) ih h.2 ?_;rw[Bq];exact hc
theorem BA {T:Kind→TypeId→Bool}{sz:TypeId→Nat}{Q:TypeId→List Value→Prop}{R:Kind→List Value→Prop}(hT:∀ k t cs,T k t=true→Q t cs→R k cs) (hR:∀ a b cs ds,R a cs→R b ds→R (.pair a b) (cs++ds)) (cs:List Value) :
  ∀ {k:Kind}{L:List (TypeId×Nat)}{off:Nat},KFs T sz k L off=true→(∀ p∈L,Q p.1 ((cs.drop p.2).take (sz p.1)))→R k ((cs.drop off).take k.size)
 |k,[],_,h,_=>by simp[KFs] at h
 |k,[p],off,h,hq=>by simp only[KFs,Bool.and_eq_true,beq_iff_eq] at h;have:=hq p (by simp);rw[h.1,h.2.1] at this;exact hT _ _ _ h.2.2 this
 |.pair a b,p::q::r,off,h,hq=>by
  simp only[KFs,Bool.and_eq_true,beq_iff_eq] at h;have h1:=hq p (by simp);rw[h.1,h.2.1] at h1;have h2:=BA hT hR cs h.2.2.2 fun x hx=>hq x (List.mem_cons_of_mem _ hx);have e:(cs.drop off).take (Kind.pair a b).size=(cs.drop off).take a.size++(cs.drop (off+a.size)).take b.size:=by rw[Kind.size,List.take_add,List.drop_drop]
  rw[e];exact hR _ _ _ _ (hT _ _ _ h.2.2.1 h1) h2
 |.i _,_::_::_,_,h,_|.bo,_::_::_,_,h,_|.st,_::_::_,_,h,_|.list _,_::_::_,_,h,_=>by cases h
def FlatIs (k:Kind) (cs:List Value):Prop:=∃ y:k.T,(∀ h,KC h k y cs)∧KWf k y∧∀ ρ m,LRel ρ m cs cs
theorem FlatIs.pair {a b:Kind}{cs ds:List Value}(h1:FlatIs a cs) (h2:FlatIs b ds):FlatIs (.pair a b) (cs++ds):=by obtain⟨x,k1,k2,k3⟩:=h1;obtain⟨y,m1,m2,m3⟩:=h2;exact⟨(x,y),fun h=>⟨cs,ds,rfl,k1 h,m1 h⟩,⟨k2,m2⟩,fun ρ m=>(k3 ρ m).append (m3 ρ m)⟩
theorem LRel.one {ρ:Plc}{n:Nat}{v c:Value}(h:VRel ρ n v c):LRel ρ n [v] [c]:=.cons h (.nil _ _)
theorem DX {fs:Array Field}{f:Field}(h:f∈fs.toList):∃ i:Nat,fs[i]?=some f:=by obtain⟨i,hi,rfl⟩:=List.mem_iff_getElem.1 h;exact⟨i,by simp at hi;simp[hi]⟩
theorem Cz {sp:Nat→Bool}{held:Bool}:∀ {n:Nat}{k:Kind}{t:TypeId}{fuel:Nat}{cs:List Value}{x:DataW H×List MemPlace},KTy P n k t=true→k.flat=true→DataW.trod enc P w base sp held fuel t cs=some x→FlatIs k cs
 |0,_,_,_,_,_,h,_,_=>by cases h
 |n+1,k,t,fuel,cs,x,h,hf,hx=>by
  unfold KTy at h;cases hu:P.underlying t with
  |none=>rw[hu] at h;cases h
  |some u =>
   rw[hu] at h;have hR:∀ a b cs ds,((a.flat=true→FlatIs a cs)∧True)→((b.flat=true→FlatIs b ds)∧True)→(((Kind.pair a b).flat=true→FlatIs (.pair a b) (cs++ds))∧True):=fun a b cs ds h1 h2=>⟨fun hf=>by
    simp only[Kind.flat,Bool.and_eq_true] at hf;exact(h1.1 hf.1).pair (h2.1 hf.2),trivial⟩
   have hT:∀ k t cs,KTy P n k t=true→(∃ fuel x,DataW.trod enc P w base sp held fuel t cs=some x)→((k.flat=true→FlatIs k cs)∧True):=fun k t cs h1 ⟨fuel,x,h2⟩=>⟨fun hf=>Cz h1 hf h2,trivial⟩;cases u<;>first|(cases h;done)|skip
   all_goals simp only at h
   ·split at h<;>first|(cases h;done)|skip
    obtain⟨b,rfl,_⟩:=DataW.trod_bool hu hx;exact⟨b,fun _=>rfl,trivial,fun _ _=>.one (.bool _)⟩
   ·split at h<;>first|(cases h;done)|skip
    obtain rfl:=of_decide_eq_true h;obtain⟨z,rfl,_,hw⟩:=DataW.trod_int hu hx;exact⟨z,fun _=>rfl,Z07 hw,fun _ _=>.one (.int _ _)⟩
   ·split at h<;>first|(cases h;done)|skip
    obtain⟨s,rfl,_,hs⟩:=DataW.trod_string hu hx;exact⟨s.data.toList,fun _=>rfl,hs,fun _ _=>.one (.string _)⟩
   ·split at h<;>first|(cases h;done)|(cases hf;done)
   ·rename_i m e;simp only[Bool.and_eq_true,beq_iff_eq] at h;obtain⟨xs,m',_,_,hl,ic,hx⟩:=DataW.trod_array hu hx;have:=(BA (R:=fun k cs=>(k.flat=true→FlatIs k cs)∧True) hT hR cs h.2 fun p hp=>by
     simp only[List.mem_map,List.mem_range] at hp;obtain⟨i,hi,rfl⟩:=hp;have:=hx i hi;rw[List.getElem?_eq_getElem (by omega)] at this;exact⟨_,_,this⟩).1 hf
    rwa [List.drop_zero,List.take_of_length_le (by omega)] at this
   ·rename_i fs;simp only[Bool.and_eq_true,beq_iff_eq] at h;obtain⟨xs,m',_,_,hl,ic,hx⟩:=DataW.trod_struct hu hx;have:=(BA (R:=fun k cs=>(k.flat=true→FlatIs k cs)∧True) hT hR cs h.2 fun p hp=>by
     simp only[List.mem_map] at hp;obtain⟨f,lC,rfl⟩:=hp;obtain⟨i,hi⟩:=DX lC;have:=hx i f hi;have iK:i<fs.size:=(Array.getElem?_eq_some_iff.1 hi).1;rw[List.getElem?_eq_getElem (by omega)] at this;exact⟨_,_,this⟩).1 hf
    rwa [List.drop_zero,List.take_of_length_le (by omega)] at this
theorem Rows.range {α:Type}{R:α→List Value→Prop}{n:Nat}{c:List Value}{x:Nat→α}:∀ (m:Nat),(∀ i,i<m→R (x i) ((c.drop (i*n)).take n))→Rows R ((List.range m).map x) (c.take (m*n))
 |0,_=>by simp;exact .nil
 |m+1,h=>by
  have e:c.take ((m+1)*n)=c.take (m*n)++(c.drop (m*n)).take n:=by rw[Nat.add_mul,Nat.one_mul,List.take_add]
  rw[List.range_succ,List.map_append,e];exact(Rows.range m fun i hi=>h i (by omega)).append (by simpa using Rows.cons (h m (by omega)) .nil)
theorem AD {α:Type}[Inhabited α] {m:Nat}{p:Nat→α→Prop}(h:∀ i,i<m→∃ x,p i x):∃ f:Nat→α,∀ i,i<m→p i (f i) :=
 ⟨fun i=>if hi:i<m then (h i hi).choose else default,fun i hi=>by simp only[hi,dif_pos];exact(h i hi).choose_spec⟩
instance KInh (k:Kind):Inhabited k.T:=⟨k.dflt⟩
theorem View.list {ρ:Plc}{σ:Heap}(h:View w ρ σ) {n:Nat}{k:Kind}{t e:TypeId}{fuel:Nat}{cs:List Value}{x:DataW H×List MemPlace}(hu:P.underlying t=some (.slice e)) (hs:P.cellsOf e=k.size) (hf:k.flat=true) (hk:KTy P n k e=true)
  (hx:DataW.trod enc P w 0 (fun _=>true) true fuel t cs=some x) (ak:okc P w r base [t] cs):ArgIs w ρ σ (.list k) cs:=by
 rcases open_slice hu hx with⟨rfl,_⟩|⟨a,len,cap,m,fu,D,Pl,rfl,hb,hl,hm,jR,_,hel⟩
 ·exact⟨ρ,σ,[.slice none 0 0],[],h,More.refl _ _,.one .nilSl,⟨_,rfl,.inl ⟨rfl,rfl⟩⟩,by simp[maxLen],fun _ hx=>by cases hx⟩
 simp only[if_true] at jR;subst jR;rw[hs] at hel;have rz:w.has P r base a e m:=by
  rcases Eh hu (ak 0 _ t rfl rfl) with hh|⟨a',vR,aq,hh,h2⟩
  ·cases hh
  ·cases hh;exact h2
 obtain⟨C,row,f,aE,bq,fb⟩:=Q3l rz;obtain⟨blk,off,spot⟩:=a;simp only at aE bq fb;subst fb;have lu:∀ i,(⟨blk,off,none⟩:Addr).add i=⟨blk,off+i,none⟩:=fun i=>by unfold Addr.add;split<;>simp_all
 obtain⟨X,hX⟩:=AD (α:=k.T×List Value) (m:=m) (p:=fun i p=>p.2.length=k.size∧(∀ j,j<k.size→w.cell? ⟨blk,off+i*k.size+j,none⟩=p.2[j]?)∧(∀ h,KC h k p.1 p.2)∧KWf k p.1∧∀ ρ m,LRel ρ m p.2 p.2) fun i hi=>by
  obtain⟨cs',h1,h2⟩:=hel i hi;obtain⟨_,k1,k2⟩:=World.cells?_some h1;obtain⟨y,m1,m2,m3⟩:=Cz hk hf h2;refine⟨(y,cs'),k1,fun j hj=>?_,m1,m2,m3⟩;have:=k2 j hj;rw[lu] at this;have e2:(⟨blk,off+i*k.size,none⟩:Addr).add j=⟨blk,off+i*k.size+j,none⟩:=by unfold Addr.add;split<;>simp_all
  rw[e2] at this;exact this
 have dw:=k.size_pos;let c:List Value:=(List.range (m*k.size)).map fun j=>((X (j / k.size)).2[j % k.size]?).getD undef;have cy:c.length=m*k.size:=by simp[c]
 have hdiv:∀ j,j<m*k.size→j / k.size<m:=fun j hj=>Nat.div_lt_of_lt_mul (by rw[Nat.mul_comm];exact hj);have aX:∀ j,j<m*k.size→∃ v,c[j]?=some v∧w.cell? ⟨blk,off+j,none⟩=some v∧∀ ρ m,VRel ρ m v v:=fun j hj=>by
  have h1:=hX (j / k.size) (hdiv j hj);have dT:j % k.size<k.size:=Nat.mod_lt _ dw;have h2:=h1.2.1 _ dT;have e:off+j / k.size*k.size+j % k.size=off+j:=by rw[Nat.add_assoc,Nat.div_add_mod']
  rw[e] at h2;have h3:j % k.size<(X (j / k.size)).2.length:=by rw[h1.1];exact dT
  refine⟨(X (j / k.size)).2[j % k.size],?_,?_,fun ρ m=>(h1.2.2.2.2 ρ m).2 _ _ _ (List.getElem?_eq_getElem h3) (List.getElem?_eq_getElem h3)⟩
  ·simp only[c,List.getElem?_map,List.getElem?_range hj,Option.map_some,List.getElem?_eq_getElem h3,Option.getD_some]
  ·rw[h2,List.getElem?_eq_getElem h3]
 have rA:∀ i,i<m→(c.drop (i*k.size)).take k.size=(X i).2:=fun i hi=>by
  have h1:=hX i hi;have hle:i*k.size+k.size≤m*k.size:=by have:(i+1)*k.size≤m*k.size:=Nat.mul_le_mul_right _ hi;rw[Nat.add_mul] at this;omega
  apply List.ext_getElem?;intro j;by_cases hj:j<k.size
  ·rw[List.getElem?_take_of_lt hj,List.getElem?_drop];have ef:i*k.size+j<m*k.size:=by omega
   have e1:(i*k.size+j) / k.size=i:=by rw[Nat.mul_comm,Nat.mul_add_div dw,Nat.div_eq_of_lt hj,Nat.add_zero]
   have e2:(i*k.size+j) % k.size=j:=by rw[Nat.mul_comm,Nat.mul_add_mod,Nat.mod_eq_of_lt hj]
   have h3:j<(X i).2.length:=by rw[h1.1];exact hj
   simp only[c,List.getElem?_map,List.getElem?_range ef,Option.map_some,e1,e2,List.getElem?_eq_getElem h3,Option.getD_some]
  ·rw[List.getElem?_eq_none (by simp;omega),List.getElem?_eq_none (by omega)]
 have ax:off+m*k.size≤C.size:=by
  rcases Nat.eq_zero_or_pos (m*k.size) with h0|h0
  ·omega
  ·obtain⟨v,_,h2,_⟩:=aX (m*k.size-1) (by omega);unfold World.cell? at h2;simp only[aE] at h2;have:=(Array.getElem?_eq_some_iff.1 (by simpa using h2)).1;omega
 obtain⟨hv,vS⟩:=h.add ⟨blk,off,m*k.size,⟨k.size,row⟩,false⟩ c aE ax (by simp[cy]) rfl (fun j v hj=>by
  have b6:j<m*k.size:=by rw[←cy];exact(List.getElem?_eq_some_iff.1 hj).1
  obtain⟨v',h1,h2,h3⟩:=aX j b6;obtain rfl:=osj (hj.symm.trans h1);exact⟨v,h2,h3 _ _⟩)
 have hlen:((List.range len).map fun i=>(X i).1).length=len:=by simp
 refine⟨_,_,[.slice (some ⟨σ.n,0,none⟩) len m],(List.range len).map fun i=>(X i).1,hv,vS,.one ?_,⟨_,rfl,.inr ⟨σ.n,0,m,c,⟨k.size,row⟩,false,false,by rw[hlen],by rw[hlen];exact hl,Heap.get_push_self _ _,rfl,?_,?_⟩⟩,?_,fun y hy=>?_⟩
 ·refine .sl _ _ _ _ _ _ (by simp) fun p hp=>?_;simp[Plc.put] at hp;subst hp;exact⟨Nat.le_refl _,(fun h=>by cases h),0,by simp,by simp,.inl rfl⟩
 ·rw[hlen,cy,Nat.zero_add];exact Nat.mul_le_mul_right _ hl
 ·rw[hlen,List.drop_zero];refine Rows.range len fun i hi=>?_;rw[rA i (by omega)];exact(hX i (by omega)).2.2.1 _
 ·rw[hlen];exact Nat.le_trans hl hm
 ·obtain⟨i,hi,rfl⟩:=List.mem_map.1 hy;exact(hX i (by have:=List.mem_range.1 hi;omega)).2.2.2.1
def Kind.lev1:Kind→Bool
 |.list k=>k.flat
 |.pair a b=>a.lev1&&b.lev1
 |_=>true
theorem Iy {ts:List TypeId}{cs:List Value}(h:okc P w r base ts cs) (o n:Nat):okc P w r base ((ts.drop o).take n) ((cs.drop o).take n):=fun i v u h1 h2=>by
 have hi:i<n:=by have:=(List.getElem?_eq_some_iff.1 h1).1;rw[List.length_take] at this;omega
 rw[List.getElem?_take_of_lt hi,List.getElem?_drop] at h1 h2;exact h _ v u h1 h2
theorem Rh {T:Kind→TypeId→Bool}{sz:TypeId→Nat}{g:TypeId→Option (List TypeId)}(hT:∀ k t ts,T k t=true→g t=some ts→ts.length=k.size) :
  ∀ {k:Kind}{L:List (TypeId×Nat)}{off:Nat}{iE:List (List TypeId)},KFs T sz k L off=true→L.mapM (fun p=>g p.1)=some iE→∀ p∈L,off≤p.2∧g p.1=some ((iE.flatten.drop (p.2-off)).take (sz p.1))
 |k,[],_,_,h,_=>by simp[KFs] at h
 |k,[p],off,iE,h,hm=>by
  simp only[KFs,Bool.and_eq_true,beq_iff_eq] at h;intro p' hp;obtain rfl:=List.mem_singleton.1 hp;cases hg:g p'.1 with
  |none=>simp[hg] at hm
  |some ts =>
   simp[hg] at hm;subst hm;refine⟨by omega,?_⟩;rw[h.1,Nat.sub_self,List.drop_zero,h.2.1,List.take_of_length_le]
   ·simp
   ·simp[hT _ _ _ h.2.2 hg]
 |.pair a b,p::q::r,off,iE,h,hm=>by
  simp only[KFs,Bool.and_eq_true,beq_iff_eq] at h;rw[List.mapM_cons] at hm;intro p' hp;cases hg:g p.1 with
  |none=>simp[hg] at hm
  |some ts =>
   cases hr:(q::r).mapM (fun p=>g p.1) with
   |none=>simp[hg,hr] at hm
   |some tr =>
    simp[hg,hr] at hm;subst hm;have hlen:=hT _ _ _ h.2.2.1 hg;rcases List.mem_cons.1 hp with rfl|hp
    ·refine⟨by omega,?_⟩;rw[hg,h.1,Nat.sub_self,List.drop_zero,h.2.1,List.flatten_cons,List.take_append,←hlen,Nat.sub_self,List.take_zero,List.append_nil,List.take_length]
    ·obtain⟨h1,h2⟩:=Rh hT h.2.2.2 hr p' hp;refine⟨by omega,?_⟩;have e1:ts.drop (p'.2-off)=[]:=List.drop_eq_nil_of_le (by omega);have e2:p'.2-off-a.size=p'.2-(off+a.size):=by omega
     rw[h2,List.flatten_cons,List.drop_append,hlen,e1,e2,List.nil_append]
 |.i _,_::_::_,_,_,h,_|.bo,_::_::_,_,_,h,_|.st,_::_::_,_,_,h,_|.list _,_::_::_,_,_,h,_=>by cases h
theorem A4:∀ {n:Nat}{k:Kind}{t:TypeId}{d:Nat}{ts:List TypeId}{fuel:Nat}{cs:List Value}{x:DataW H×List MemPlace},KTy P n k t=true→k.lev1=true→P.cellTypes d t=some ts→okc P w r base ts cs→DataW.trod enc P w 0 (fun _=>true) true fuel t cs=some x→∀ ρ σ,View w ρ σ→ArgIs w ρ σ k cs
 |0,_,_,_,_,_,_,_,h,_,_,_,_=>by cases h
 |_+1,_,_,0,_,_,_,_,_,_,h,_,_=>by cases h
 |n+1,k,t,d+1,ts,fuel,cs,x,h,hf,eX,ak,hx=>by
  intro ρ σ hv;by_cases gQ:k.flat=true
  ·obtain⟨y,h1,h2,h3⟩:=Cz h gQ hx;exact⟨ρ,σ,cs,y,hv,More.refl _ _,h3 _ _,h1 _,h2⟩
  unfold KTy at h;cases hu:P.underlying t with
  |none=>rw[hu] at h;cases h
  |some u =>
   rw[hu] at h;let Q:TypeId→List Value→Prop:=fun t cs=>(∃ fuel x,DataW.trod enc P w 0 (fun _=>true) true fuel t cs=some x)∧∃ ts,P.cellTypes d t=some ts∧okc P w r base ts cs;let R:Kind→List Value→Prop:=fun k cs=>k.lev1=true→∀ ρ σ,View w ρ σ→ArgIs w ρ σ k cs;have hR:∀ a b cs ds,R a cs→R b ds→R (.pair a b) (cs++ds):=fun a b cs ds h1 h2 hl ρ σ hv=>by simp only[Kind.lev1,Bool.and_eq_true] at hl;exact(h1 hl.1 ρ σ hv).pair fun ρ σ hv=>h2 hl.2 ρ σ hv
   have hT:∀ k t cs,KTy P n k t=true→Q t cs→R k cs:=fun k t cs h1 ⟨⟨fuel,x,h2⟩,ts,h3,h4⟩ hl=>A4 h1 hl h3 h4 h2;have hlen:∀ k t ts,KTy P n k t=true→P.cellTypes d t=some ts→ts.length=k.size:=fun k t ts h1 h2=>FM h1 h2;unfold Program.cellTypes at eX;rw[hu] at eX;cases u<;>first|(cases h;done)|skip
   all_goals simp only at h
   ·split at h<;>first|(cases h;done)|(exact absurd rfl gQ)
   ·split at h<;>first|(cases h;done)|(exact absurd rfl gQ)
   ·split at h<;>first|(cases h;done)|(exact absurd rfl gQ)
   ·rename_i e;split at h<;>first|(cases h;done)|skip
    simp only[Bool.and_eq_true,beq_iff_eq] at h;simp only[Option.some.injEq] at eX;subst eX;exact hv.list hu h.1 h.2.1 h.2.2 hx ak
   ·rename_i m e;simp only[Bool.and_eq_true,beq_iff_eq] at h;obtain⟨xs,m',_,_,hl,ic,hx⟩:=DataW.trod_array hu hx;simp only at eX;cases hc:P.cellTypes d e with
    |none=>rw[hc] at eX;cases eX
    |some te =>
     rw[hc] at eX;obtain rfl:=osj eX;have nB:((List.range m).map fun i=>(e,i*P.cellsOf e)).mapM (fun p:TypeId×Nat=>P.cellTypes d p.1)=some (List.replicate m te):=by rw[Bq,H5 (x:=te) (fun _=>hc)];simp
     have:=BA (Q:=Q) (R:=R) hT hR cs h.2 (fun p hp=>by
      have eM:=Rh (g:=fun t=>P.cellTypes d t) hlen h.2 nB p hp;simp only[List.mem_map,List.mem_range] at hp;obtain⟨i,hi,rfl⟩:=hp;have:=hx i hi;rw[List.getElem?_eq_getElem (by omega)] at this;exact⟨⟨_,_,this⟩,_,eM.2,Iy ak _ _⟩) hf ρ σ hv
     rwa [List.drop_zero,List.take_of_length_le (by omega)] at this
   ·rename_i fs;simp only[Bool.and_eq_true,beq_iff_eq] at h;obtain⟨xs,m',_,_,hl,ic,hx⟩:=DataW.trod_struct hu hx;simp only at eX;cases hc:fs.toList.mapM fun f=>P.cellTypes d f.type with
    |none=>rw[hc] at eX;cases eX
    |some iE =>
     rw[hc] at eX;obtain rfl:=osj eX;have nB:(fs.toList.map fun f=>(f.type,f.offset)).mapM (fun p:TypeId×Nat=>P.cellTypes d p.1)=some iE:=by rw[Bq];exact hc
     have:=BA (Q:=Q) (R:=R) hT hR cs h.2 (fun p hp=>by
      have eM:=Rh (g:=fun t=>P.cellTypes d t) hlen h.2 nB p hp;simp only[List.mem_map] at hp;obtain⟨f,lC,rfl⟩:=hp;obtain⟨i,hi⟩:=DX lC;have:=hx i f hi;have iK:i<fs.size:=(Array.getElem?_eq_some_iff.1 hi).1;rw[List.getElem?_eq_getElem (by omega)] at this;exact⟨⟨_,_,this⟩,_,eM.2,Iy ak _ _⟩) hf ρ σ hv
     rwa [List.drop_zero,List.take_of_length_le (by omega)] at this
def isAgg (P:Program) (t:TypeId):Bool:=match P.underlying t with
 |some (.struct _)=>true
 |some (.array _ _)=>true
 |_=>false
theorem View.arg {ρ:Plc}{σ:Heap}(h:View w ρ σ) {n:Nat}{k:Kind}{t:TypeId}{v:Value}{d:DataW H}{p:List MemPlace}(hk:KTy P n k t=true) (hl:k.lev1=true) (ha:isAgg P t=!k.one) (ak:Value.okWide P w r base t v) (hd:DataW.Trod enc P w 0 (fun _=>true) true t v d p) :
  ∃ ρ' σ' vv x,View w ρ' σ'∧More ρ σ ρ' σ'∧VRel ρ' σ'.n vv v∧KV σ' k x vv∧KWf k x:=by
 obtain⟨fuel,hd⟩:=hd;by_cases eu:isAgg P t=true
 ·have bC:k.one=false:=by rw[eu] at ha;simpa using ha.symm
  have:∃ cs,v=.agg cs∧cs.size=P.cellsOf t∧Row.okWide P w r base t cs:=by
   unfold isAgg at eu;unfold Value.okWide at ak;split at eu<;>first|(cases eu;done)|skip
   ·rename_i hu;rw[hu] at ak;exact ak
   ·rename_i hu;rw[hu] at ak;exact ak
  obtain⟨cs,rfl,ax,ts,eX,_,cH⟩:=this;have hlen:=FM hk eX;have aA:P.cellsOf t=k.size:=by
   unfold isAgg at eu;cases n with
   |zero=>cases hk
   |succ n =>
    unfold KTy at hk;split at eu<;>first|(cases eu;done)|skip
    all_goals
     rename_i hu;rw[hu] at hk;simp only[Bool.and_eq_true,beq_iff_eq] at hk;exact hk.1
  have me:okc P w r base ts cs.toList:=fun i v u h1 h2=>by have hi:i<ts.length:=(List.getElem?_eq_some_iff.1 h2).1;obtain⟨u',h3,h4⟩:=cH i v (by simpa using h1);rw[Nat.mod_eq_of_lt hi] at h3;obtain rfl:=osj (h2.symm.trans h3);exact h4
  obtain⟨ρ',σ',vs,x,k1,k2,k3,k4,k5⟩:=A4 hk hl eX me (show DataW.trod enc P w 0 _ true fuel t cs.toList=_ from hd) ρ σ h;exact⟨ρ',σ',.agg vs.toArray,x,k1,k2,VRel.agg_of (ds:=cs.toList) k3,.inr ⟨bC,vs,rfl,k4⟩,k5⟩
 ·have bC:k.one=true:=by
   have:isAgg P t=false:=by simpa using eu
   rw[this] at ha;simpa using ha.symm
  have iZ:=Kind.one_size bC;have aX:Cell.okWide P w r base t v∧v.cells.toList=[v]:=by
   have h1:isAgg P t=false:=by simpa using eu
   unfold isAgg at h1;have h2:Cell.okWide P w r base t v:=by
    unfold Value.okWide at ak;split at ak
    ·rename_i hu;rw[hu] at h1;cases h1
    ·rename_i hu;rw[hu] at h1;cases h1
    ·exact ak
   refine⟨h2,?_⟩;cases v<;>first|rfl|skip
   all_goals
    exfalso;cases n with
    |zero=>cases hk
    |succ n =>
     unfold KTy at hk;unfold Cell.okWide Cell.ok at h2;cases hu:P.underlying t with
     |none=>rw[hu] at hk;cases hk
     |some u =>rw[hu] at hk h2 h1;cases u<;>first|(cases hk;done)|(cases h1;done)|(cases h2;done)|(simp at h2;done)
  have eX:P.cellTypes 1 t=some [t]:=by
   have h1:isAgg P t=false:=by simpa using eu
   unfold isAgg at h1;unfold Program.cellTypes;cases n with
   |zero=>cases hk
   |succ n =>
    unfold KTy at hk;cases hu:P.underlying t with
    |none=>rw[hu] at hk;cases hk
    |some u =>rw[hu] at h1;cases u<;>first|rfl|(cases h1;done)
  rw[aX.2] at hd;have me:okc P w r base [t] [v]:=fun i v' u h1 h2=>by
   cases i with
   |zero=>cases h1;cases h2;exact aX.1
   |succ i=>simp at h1
  obtain⟨ρ',σ',vs,x,k1,k2,k3,k4,k5⟩:=A4 hk hl eX me hd ρ σ h;have:vs.length=1:=by rw[KC.length k4];exact iZ
  obtain⟨vv,rfl⟩:=List.length_eq_one_iff.1 this;exact⟨ρ',σ',vv,x,k1,k2,k3.2 0 _ _ rfl rfl,.inl ⟨bC,k4⟩,k5⟩
def AWf:(ks:List Kind)→AT ks→Prop
 |[],_=>True
 |[k],x=>KWf k x
 |k::k'::ks,x=>KWf k x.1∧AWf (k'::ks) x.2
def Q8s (P:Program):List Kind→List TypeId→Bool
 |[],[]=>true
 |k::ks,t::ts=>(KTy P 8 k t&&(k.lev1&&(isAgg P t==!k.one)))&&Q8s P ks ts
 |_,_=>false
theorem View.args:∀ {ks:List Kind}{ts:List TypeId}{vs:List Value}{ds:List (DataW H)}{ps:List MemPlace}{ρ:Plc}{σ:Heap},View w ρ σ→Q8s P ks ts=true→(∀ (j:Nat) t v,ts[j]?=some t→vs[j]?=some v→Value.okWide P w r base t v)→DataW.TrodAll enc P w 0 (fun _=>true) true ts vs ds ps →
  ∃ ρ' σ' mF x,View w ρ' σ'∧More ρ σ ρ' σ'∧LRel ρ' σ'.n mF vs∧L8 σ' ks x mF∧AWf ks x
 |[],[],vs,ds,ps,ρ,σ,h,_,_,hA=>by obtain⟨rfl,rfl,rfl⟩:=trodAll_nil hA;exact⟨ρ,σ,[],(),h,More.refl _ _,.nil _ _,rfl,trivial⟩
 |[k],[t],vs,ds,ps,ρ,σ,h,hk,hv,hA=>by obtain⟨v,cM,d,ds',p,q,rfl,rfl,rfl,h1,h2⟩:=trodAll_cons hA;obtain⟨rfl,rfl,rfl⟩:=trodAll_nil h2;simp only[Q8s,Bool.and_eq_true,beq_iff_eq] at hk;obtain⟨ρ',σ',vv,x,k1,k2,k3,k4,k5⟩:=h.arg hk.1.1 hk.1.2.1 hk.1.2.2 (hv 0 t v rfl rfl) h1;exact⟨ρ',σ',[vv],x,k1,k2,.one k3,⟨vv,rfl,k4⟩,k5⟩
 |k::k'::ks,t::ts,vs,ds,ps,ρ,σ,h,hk,hv,hA=>by obtain⟨v,cM,d,ds',p,q,rfl,rfl,rfl,h1,h2⟩:=trodAll_cons hA;simp only[Q8s,Bool.and_eq_true,beq_iff_eq] at hk;obtain⟨ρ1,σ1,vv,x,k1,k2,k3,k4,k5⟩:=h.arg hk.1.1 hk.1.2.1 hk.1.2.2 (hv 0 t v rfl rfl) h1;obtain⟨ρ2,σ2,mF,y,m1,m2,m3,m4,m5⟩:=k1.args (ks:=k'::ks) hk.2 (fun j t v h1 h2=>hv (j+1) t v h1 h2) h2;exact⟨ρ2,σ2,vv::mF,(x,y),m1,k2.trans m2,.cons (k3.mono m2.n m2.pl) m3,⟨vv,mF,rfl,k4.vcall m2.le,m4⟩,k5,m5⟩
 |[],_::_,_,_,_,_,_,_,hk,_,_|_::_,[],_,_,_,_,_,_,hk,_,_|[_],_::_::_,_,_,_,_,_,_,hk,_,_=>by simp[Q8s] at hk
theorem Q2f (hT:Z5r w) {f:Nat}{sp:CSp}(fb:OkC P f sp) (he:XR P f) {ks:List Kind}{ts:List TypeId}{args:Array Value}{ds:List (DataW H)}{ps:List MemPlace}(hk:Q8s P ks ts=true)
  (hv:∀ (j:Nat) t v,ts[j]?=some t→args.toList[j]?=some v→Value.okWide P w r base t v) (hA:DataW.TrodAll enc P w 0 (fun _=>true) true ts args.toList ds ps)
  (hs:∀ x:AT ks,AWf ks x→∃ c,sp (fun _ _=>none) (CE ks x)=some (c,.val .bo true,[])∧c):Calls P f args w fun e w'=>e=.returned (.bool true)∧Below w.heap.size w w':=by
 obtain⟨ρ,σ,mF,x,k1,k2,k3,k4,k5⟩:=(View.emptyT w hT).args hk hv hA;obtain⟨c,h1,h2⟩:=hs x k5;exact k1.calls k3 (fb.true he (Dl k4) h1 h2)
end
end Go.V
namespace Go.V
open Go
theorem TC {H:Type}{enc:TypeId×Value→H}{P:Program}{w:World}{b:Nat}{sp:Nat→Bool}{hd:Bool}:∀ {ts:List TypeId}{vs:List Value}{ds:List (DataW H)}{ps:List MemPlace},DataW.TrodAll enc P w b sp hd ts vs ds ps→ds.length=ts.length
 |[],[],[],_,_=>rfl
 |t::ts,v::vs,d::ds,ps,h=>by obtain⟨p,q,_,h2,_⟩:=h;simp[TC h2]
 |[],[],_::_,_,h|[],_::_,_,_,h|_::_,[],_,_,h|_::_,_::_,[],_,h=>h.elim
end Go.V
namespace Go.Proofs.Tryz
open Go Go.V
def Z72:List (Option FEnt):=[
 none,
 none,
 some (.code c2 [] 1),
 some (.code c3 [.tmp 2] 184),
 some (.code c4 [.tmp 4] 268),
 some (.code c5 [.tmp 4] 203),
 some (.code c6 [.tmp 2,.tmp 3] 54),
 some (.code c7 [.tmp 4,.tmp 5] 15),
 some (.code c8 [.tmp 2] 6),
 some (.code c9 [.tmp 2,.tmp 3] 40),
 some (.code c10 [.tmp 2] 6),
 some (.code c11 [.tmp 2,.tmp 3] 52),
 some (.codeJ c12 [.tmp 2,.tmp 3] 55),
 some (.code c13 [.tmp 2,.tmp 3] 75),
 some (.code c14 [.tmp 0] 42),
 some (.code c15 [.tmp 0] 42),
 some (.code c16 [.cell 2 true 2] 51),
 some (.code c17 [.cell 2 true 2,.tmp 3] 18),
 some (.code c18 [.cell 2 true 2] 9),
 some (.code c19 [.tmp 4,.tmp 5,.tmp 6,.tmp 7] 58),
 some (.code c20 [.tmp 6,.tmp 7,.tmp 8] 61),
 some (.codeJ c21 [.tmp 6,.tmp 7] 29),
 some (.code c22 [.tmp 0] 29),
 some (.code c23 [.cell 4 true 2,.tmp 5] 52),
 some (.code c24 [.cell 2 true 2] 48),
 some (.codeJ c25 [.tmp 4,.tmp 5] 43),
 some (.code c26 [.cell 2 true 2] 9),
 some (.code c27 [.cell 6 true 2,.tmp 7,.tmp 8] 37),
 some (.code c28 [.cell 4 true 2] 8),
 some (.code c29 [.cell 8 true 2,.tmp 9] 103),
 some (.code c30 [.tmp 0] 31),
 some (.code c31 [.tmp 4,.tmp 5,.tmp 6] 29),
 some (.code c32 [.tmp 2] 11),
 some (.code c33 [.tmp 2] 22),
 some (.code c34 [.tmp 4] 10),
 some (.code c35 [.tmp 4] 19),
 some (.code c36 [.tmp 3] 8),
 some (.code c37 [.tmp 4] 48),
 some (.code c38 [.tmp 2] 7),
 some (.code c39 [.tmp 4] 9),
 some (.codeJ c40 [.tmp 4,.tmp 5] 18),
 some (.code c41 [.tmp 4] 26),
 some (.codeJ c42 [.cell 4 false 1,.tmp 5,.tmp 6] 86),
 some (.code c43 [.tmp 2] 28),
 some (.code c44 [.cell 6 true 2] 38),
 some (.code c45 [.tmp 5] 12),
 some (.code c46 [.tmp 6] 26),
 some (.code c47 [.tmp 2] 18),
 some (.code c48 [.tmp 4] 19),
 some (.code c49 [.tmp 2] 8),
 some (.code c50 [.tmp 2] 8),
 some (.code c51 [.cell 4 true 2,.tmp 5] 21),
 some (.code c52 [.tmp 2] 13),
 some (.code c53 [.tmp 4] 9),
 some (.code c54 [.tmp 3] 9),
 some (.codeJ c55 [.tmp 4,.tmp 5] 62),
 some (.codeJ c56 [.cell 6 true 2,.tmp 7,.tmp 8] 84),
 some (.code c57 [.tmp 2] 10),
 some (.code c58 [.tmp 6] 11),
 some (.code c59 [.cell 2 true 2] 61),
 some (.code c60 [.tmp 2] 27),
 some (.code c61 [.tmp 4] 22),
 some (.code c62 [.cell 6 true 3,.tmp 7] 33),
 some (.code c63 [.tmp 2,.tmp 3] 41),
 some (.code c64 [.cell 0 true 2] 2),
 some (.code c65 [.tmp 2] 4),
 some (.code c66 [.cell 6 true 2] 44),
 some (.code c67 [.cell 4 true 2] 16),
 some (.code c68 [.cell 4 true 2] 17),
 some (.codeJ c69 [.cell 4 true 2,.tmp 5,.tmp 6] 78),
 some (.code c70 [.tmp 4] 26),
 some (.codeJ c71 [.tmp 2] 16),
 some (.code c72 [.tmp 2,.tmp 3] 64),
 some (.code c73 [.tmp 6] 11),
 some (.code c74 [.tmp 2] 4),
 some (.code c75 [.tmp 2] 25),
 some (.code c76 [.tmp 4] 26),
 some (.code c77 [.tmp 2] 8),
 some (.code c78 [.tmp 2] 4),
 some (.code c79 [.tmp 4] 28),
 some (.code c80 [] 28),
 some (.code c81 [.tmp 6] 11),
 some (.code c82 [.tmp 2] 14),
 some (.code c83 [.tmp 2] 14),
 some (.code c84 [.tmp 2] 21),
 some (.code c85 [.tmp 2] 35),
 some (.code c86 [.tmp 4] 19),
 some (.codeJ c87 [.tmp 2] 15),
 some (.codeJ c88 [.tmp 4] 24),
 some (.codeJ c89 [.tmp 4] 38),
 some (.code c90 [.tmp 2] 18),
 some (.code c91 [.tmp 4] 20),
 some (.code c92 [.tmp 4] 36),
 some (.code c93 [.tmp 2,.tmp 3] 102),
 some (.code c94 [.tmp 4] 9),
 some (.code c95 [.tmp 2] 6),
 some (.code c96 [.tmp 2] 32),
 some (.code c97 [.tmp 4] 9),
 some (.code c98 [.tmp 4] 13),
 some (.code c99 [.tmp 6] 11),
 some (.code Z6h [.tmp 4] 17),
 some (.code Z6v [.tmp 2] 4),
 some (.code Z6a [.tmp 6] 17),
 some (.code Z6y [.tmp 2] 14),
 some (.code Z76 [.tmp 2] 15),
 some (.code Z7v [.tmp 4] 9),
 some (.code Z7s [.cell 6 true 2] 44),
 some (.code Z6c [] 19),
 some (.code Z7c [.tmp 4] 48),
 some (.code Z7h [.tmp 2] 32),
 some (.code Z3q [] 9),
 some (.code Z35 [.tmp 5] 36),
 some (.code Z38 [] 11),
 some (.code Z4m [] 14),
 some (.code Z54 [.tmp 4] 13),
 some (.code Z6e [] 19),
 some (.code Z7q [] 19),
 some (.code Z83 [.tmp 4] 13),
 some (.code Z5q [.tmp 3] 11),
 some (.code Z4r [.tmp 2] 6),
 some (.code Z6d [.cell 4 true 4] 20),
 some (.code Z7p [.tmp 6] 29),
 some (.code Z70 [.tmp 4] 81),
 some (.code Z7d [.tmp 2] 4),
 some (.code Z81 [.cell 6 true 4,.tmp 7] 40),
 some (.code Z46 [.tmp 4] 19),
 some (.code Z5v [.tmp 4] 19),
 some (.code Z6n [.tmp 4] 13),
 some (.code Z7e [] 20),
 some (.code Z62 [.tmp 4] 19),
 some (.code Z68 [.tmp 4,.tmp 5] 30),
 some (.code Z71 [.tmp 2] 5),
 some (.code Z7f [.tmp 4] 6),
 some (.code Z5k [] 63),
 some (.code Z43 [] 134),
 some (.code Z37 [.tmp 2] 8),
 some (.code Z4a [] 148),
 some .same,
 some (.code Z63 [.tmp 4,.tmp 5] 17),
 some (.code Z7z [.tmp 4,.tmp 5] 51),
 some (.code Z6o [.tmp 4] 13),
 some (.code Z7j [] 22),
 some (.code Z4p [] 53),
 some (.code Z7a [] 220),
 some (.code Z4v [] 49),
 some (.code Z6f [] 56),
 some (.code Z82 [] 65),
 some (.code Z66 [.tmp 6,.tmp 7] 57),
 some (.code Z74 [] 32),
 some (.code Z6q [.tmp 6] 133),
 some (.code Z60 [.tmp 4] 17),
 some (.code Z6l [.tmp 8] 84),
 some (.code Z80 [.tmp 8,.tmp 9] 168),
 some (.code Z4h [.tmp 2] 19),
 some (.code Z4j [.tmp 2] 25),
 some (.code Z5z [] 53),
 some (.code Z7o [] 60),
 some (.code Z7g [] 67),
 some (.code Z67 [.tmp 8,.tmp 9] 63),
 some (.code Z6u [] 34),
 some (.code Z69 [.tmp 8] 141),
 some (.code Z6b [.tmp 10] 90),
 some (.code Z6g [.tmp 10,.tmp 11] 178),
 some (.code Z65 [] 58),
 some (.code Z78 [] 76),
 some (.code Z7b [.tmp 2] 7),
 some (.code Z7y [.tmp 2] 33),
 some (.code Z7r [.tmp 6] 15),
 some (.code Z73 [.tmp 10] 36),
 some (.code Z7x [] 82),
 some (.code Z79 [.tmp 8] 18),
 some (.code Z6i [.tmp 12] 41),
 some (.code Z77 [] 38),
 some (.code Z7n [.tmp 8,.tmp 9] 28),
 some (.code Z7i [.tmp 10,.tmp 11] 32)]
def tab:Tab:=fun f=>(Z72[f]?).join
theorem Q7k:EntsOk Tryz.prog 0 Z72:=⟨trivial,trivial,Z8i,fun3,Z87,Z8g,Z6z,Z7m,Z6t,Z6m,Z1d,Z00,Q9z,Z27,Z0g,Z0o,Z5x,Z39,Z3m,Z57,Z4q,Z58,Z3e,Z4x,Z48,Z4o,Z59,Z4t,Z15,Z41,Z3k,Z02,Z2p,Z1s,Z0p,Z1p,Z24,Q9u,Q9t,Q9j,Z3c,Z5t,Z4l,Z45,Z4z,Z50,Z3t,Z5j,Z3l,Z2k,Z5h,Z0h,Z5p,Z34,Z3h,Z4n,Z5a,Z10,Z1o,Q9d,Z5u,Z3s,Z3a,Z4w,Z3p,Z5m,Z3f,Z5g,Z5o,Z3z,Z3r,Z0r,Z0b,Z1k,Z0m,Q9w,Z51,Z5e,Z4b,Z47,Z5i,Z5w,Z4c,Z1q,Z4s,Z4k,Z5c,Z25,Z3w,Z0w,Z2e,Q96,Z21,Z3i,Z0x,Q9p,Z1a,Z12,Z26,Z40,Z1l,Z1z,Q9h,Z2n,Q9b,Z18,Q9m,Z06,Z2c,Z01,Q6v,Q6i,Q63,Q72,Q6n,Q9f,Z2r,Z2t,Q71,Q6c,Z0d,Z0c,Z2u,Q97,Q9v,Q7i,Q6a,Q9y,Z1v,Z2q,Z08,Q9g,Q9a,Q6j,Q6g,Q79,Q7f,Q7w,Z1w,Q9r,Z05,Z14,Q6w,Z0n,Q67,Z20,Q9s,Z0l,Z2i,Z03,Q6k,Q9c,Z1c,Q76,Q6p,Q64,Z0a,Z16,Z04,Q98,Z0f,Z2h,Z0u,Z2s,Z09,Z2g,Z2d,Z0j,Z1b,Q9i,Z1e,Z1g,Q9q,Z0z,Z1m,trivial⟩
theorem Q6o:TabOk Tryz.prog tab:=Q4i Q7k
theorem Q0n:A2 tab 300 N5 [] c15 none (ET.of [] 42) CH.empty (Q6s false [.tmp 0] fun v _=>isTrue v)=true:=by kernel_rfl
theorem Q0w {σ:Heap}{K:Value→Heap→Prop}(hK:K (.bool true) σ):VCalled Tryz.prog 15 [] σ K:=IV mixed Q6o 300 Z0o (by decide) Q0n hK
theorem Eb:A2 tab 300 N5 [] c14 none (ET.of [] 42) CH.empty (Q6s false [.tmp 0] fun v _=>isTrue v)=true:=by kernel_rfl
theorem EY {σ:Heap}{K:Value→Heap→Prop}(hK:K (.bool true) σ):VCalled Tryz.prog 14 [] σ K:=IV mixed Q6o 300 Z0g (by decide) Eb hK
end Go.Proofs.Tryz
namespace Go.Proofs.Tryz
open Go Go.V Go.Proofs
def Z86 (x:Int×Int×Int×Int):Prop:=(0≤x.1∧x.1≤255)∧(0≤x.2.1∧x.2.1≤255)∧(0≤x.2.2.1∧x.2.2.1≤255)∧(0≤x.2.2.2∧x.2.2.2≤255)
def Sg (vl:List (Int×Int×Int×Int)) (to:Int) (mo:List Int):Prop:=vl.length≤9223372036854775807∧(∀ x∈vl,Z86 x)∧(0≤to∧to≤255)∧u8s mo
def U4 (v:Int×Int×Int×Int):Lot:=(Int.tdiv v.1 128,((v.2.1,v.2.1+Int.tmod v.2.2.1 20),1+v.2.2.2))
def H3 (vl:List (Int×Int×Int×Int)):List Lot:=(vl.take 7).map U4
theorem IP {vl:List (Int×Int×Int×Int)}{to:Int}{mo:List Int}(h:Sg vl to mo):(H3 vl).length≤7∧(∀ y∈H3 vl,Xd y=true∧0≤y.1∧y.1≤1∧y.2.1.2≤y.2.1.1+19∧y.2.2≤256)∧20≤20+Int.tmod to 60∧20+Int.tmod to 60≤79:=by obtain⟨h1,h2,h3,h4⟩:=h;have t1:=Int.tmod_nonneg 60 h3.1;have t2:=Int.tmod_lt_of_pos to (show (0:Int)<60 by decide);refine⟨by simp[H3];omega,fun y hy=>?_,by omega,by omega⟩;obtain⟨v,hv,rfl⟩:=List.mem_map.1 hy;obtain⟨⟨a1,a2⟩,⟨b1,b2⟩,⟨c1,c2⟩,d1,d2⟩:=h2 v (List.mem_of_mem_take hv);have e1:=Int.tdiv_eq_ediv_of_nonneg (b:=128) a1;have e2:=Int.tmod_eq_emod_of_nonneg (b:=20) c1;refine⟨?_,by unfold U4;dsimp only;omega,by unfold U4;dsimp only;omega,by unfold U4;dsimp only;omega,by unfold U4;dsimp only;omega⟩;rw[Ey];unfold U4;dsimp only;omega
theorem Q5t {vl:List (Int×Int×Int×Int)}{to:Int}{mo:List Int}(h:Sg vl to mo):ZB (H3 vl)=0∧K9 (H3 vl) (20+Int.tmod to 60)=0:=by
 obtain⟨h1,h2,h3,h4⟩:=IP h;have e:ZB (H3 vl)=0:=by unfold ZB;rw[if_neg (by omega),if_neg];rw[List.any_eq_true];rintro⟨y,hy,hb⟩;rw[(h2 y hy).1] at hb;cases hb
 refine⟨e,?_⟩;unfold K9;rw[if_neg (by omega),if_neg];rw[show inI (20+Int.tmod to 60) 0 1000=true by unfold inI;rw[decide_eq_true (by omega),decide_eq_true (by omega)];rfl];decide
def CG:AL (Unit):=.nil
def Se (d:Unit):Prop:=True
def SL (d:Unit):SV:=.val .bo true
def SM (d:Unit):List OB:=[]
def P3:CSp:=Wi CG Se SL SM
abbrev C9:Prop:=OkC Tryz.prog 15 P3
theorem CQ:C9:=O2 fun _ _ h=>Q0w h
def Tt:AL (Unit):=.nil
def PD (d:Unit):Prop:=True
def Pk (d:Unit):SV:=.val .bo true
def P5 (d:Unit):List OB:=[]
def D3:CSp:=Wi Tt PD Pk P5
abbrev T8:Prop:=OkC Tryz.prog 14 D3
theorem TD:T8:=O2 fun _ _ h=>EY h
def GQ:AL (List Int):=(.one (.k (.list (.i .i64))))
def Re (d:List Int):Prop:=d.length≤1000
def MF (d:List Int):SV:=.lst 0
def Mi (d:List Int):List OB:=[.lst 3 (.i .i64) d false]
def Ng:CSp:=Wi GQ Re MF Mi
def YD (l:List Int):Prop :=
 (((List.length ([]:List Int))+(List.length l))*8≤70368744177664)∧(True∧(((([]:List Int)++l)=l∧((List.isEmpty l)&&false)=false)∧True))
def GS:Cx:=⟨[(3,(.i .i64))],[],6,[],0,[],[],[],[],false,[],[],[],[]⟩
def SJ (l:List Int):List (Nat×LoopAnn):=[]
theorem L2 (d:List Int):gwp (GS) (SJ d) c10 0 (YU [.tmp 2] (MF d) (Mi d)) (Qh 6 (AL.can GQ d))=YD d:=by kernel_rfl
abbrev Sz:Prop:=OkC Tryz.prog 10 Ng
theorem SY (h:∀ (l:List Int),(l.length≤1000)→YD l):OkC Tryz.prog 10 Ng :=
 QB Z1d mixed (C:=GS) (V:=fun (d:List Int)=>YD d) ⟨.nil,XsOk.nil,ItsOk.nil,YlOk.nil,IysOk.nil,XfOk.nil⟩ (L2) fun d hp=>h d hp
theorem Sc:Sz:=SY fun l h=>by
 (unfold YD;(try delta lI gD sT I64);simp);omega
def GP:AL (Int×Int):=(.cons (.k (.i .i64)) (.one (.k (.i .i64))))
def TG (d:Int×Int):Prop:=True
def Gc (d:Int×Int):SV:=.agg [.val (.i .i64) d.1,.val (.i .i64) d.2]
def Mn (d:Int×Int):List OB:=[]
def N1:CSp:=Wi GP TG Gc Mn
def Ug (a:Int) (b:Int):Prop :=
 ((a=a∧b=b∧(([]:List SV)=[]))∧(True))
def GL:Cx:=⟨[],[],8,[],0,[],[],[],[],false,[],[],[],[]⟩
def Sf (a:Int) (b:Int):List (Nat×LoopAnn):=[]
theorem L0 (d:Int×Int):gwp (GL) (Sf d.1 d.2) c28 0 (YU [.cell 4 true 2] (Gc d) (Mn d)) (Qh 8 (AL.can GP d))=Ug d.1 d.2:=by kernel_rfl
abbrev L6:Prop:=OkC Tryz.prog 28 N1
theorem SZ (h:∀ (a:Int) (b:Int),(True)→Ug a b):OkC Tryz.prog 28 N1 :=
 QB Z15 mixed (C:=GL) (V:=fun (d:Int×Int)=>Ug d.1 d.2) ⟨.nil,XsOk.nil,ItsOk.nil,YlOk.nil,IysOk.nil,XfOk.nil⟩ (L0) fun d hp=>h d.1 d.2 hp
theorem SS:L6:=SZ fun a b _=>(by and_intros<;>first|rfl|trivial|simp)
def VS:AL ((List (Int×Int×Int×Int))×Int×List Int):=(.one (.agg (.cons (.k (.list (.pair (.i .u8) (.pair (.i .u8) (.pair (.i .u8) (.i .u8)))))) (.cons (.k (.i .u8)) (.one (.k (.list (.i .u8))))))))
def DL (d:(List (Int×Int×Int×Int))×Int×List Int):Prop:=Sg d.1 d.2.1 d.2.2
def Vm (d:(List (Int×Int×Int×Int))×Int×List Int):SV:=.tup [.lst 0,.val (.i .i64) (20+Int.tmod d.2.1 60)]
def KU (d:(List (Int×Int×Int×Int))×Int×List Int):List OB:=[.lst 64 (.pair (.i .i64) (.pair (.pair (.i .i64) (.i .i64)) (.i .i64))) (H3 d.1) false]
def Yj:CSp:=Wi VS DL Vm KU
def X5 (vl:List (Int×Int×Int×Int)) (to:Int) (mo:List Int):Prop :=
 ∃ (e3:Unit) (d30:(List (Int×(Int×Int)×Int))×Int),((True∧True∧(0:Int)=d30.2∧True)∧((vl=vl∧to=to∧mo=mo∧(([]:List SV)=[]))∧(([]:List (Int×(Int×Int)×Int))=d30.1∧false=false)∧True)) ∧
 LoopP (fun (d3:(List (Int×(Int×Int)×Int))×Int) (q3:((List (Int×(Int×Int)×Int))×Int)→Prop) =>
  (((decide (d3.2<(lI vl)))&&(decide (d3.2<(7:Int))))=true →
   (0≤d3.2)∧(d3.2<(List.length vl))∧(I64 (gD vl d3.2 (0,(0,(0,0)))).1)∧((128:Int)≠0)∧(I64 (Int.tdiv (gD vl d3.2 (0,(0,(0,0)))).1 (128:Int)))∧(I64 (gD vl d3.2 (0,(0,(0,0)))).2.1)∧(I64 (gD vl d3.2 (0,(0,(0,0)))).2.1)∧(I64 (gD vl d3.2 (0,(0,(0,0)))).2.2.1)∧((20:Int)≠0)∧(I64 ((gD vl d3.2 (0,(0,(0,0)))).2.1+(Int.tmod (gD vl d3.2 (0,(0,(0,0)))).2.2.1 (20:Int))))∧(True)∧(I64 (gD vl d3.2 (0,(0,(0,0)))).2.2.2)∧(I64 ((1:Int)+(gD vl d3.2 (0,(0,(0,0)))).2.2.2))∧(((List.length d3.1)+(List.length [((Int.tdiv (gD vl d3.2 (0,(0,(0,0)))).1 (128:Int)),((((gD vl d3.2 (0,(0,(0,0)))).2.1),((gD vl d3.2 (0,(0,(0,0)))).2.1+(Int.tmod (gD vl d3.2 (0,(0,(0,0)))).2.2.1 (20:Int)))),((1:Int)+(gD vl d3.2 (0,(0,(0,0)))).2.2.2)))]))*32≤70368744177664)∧(I64 (d3.2+(1:Int)))∧(∃ d4:(List (Int×(Int×Int)×Int))×Int,((True∧True∧(d3.2+(1:Int))=d4.2∧True)∧((vl=vl∧to=to∧mo=mo∧(([]:List SV)=[]))∧((d3.1++[((Int.tdiv (gD vl d3.2 (0,(0,(0,0)))).1 (128:Int)),((((gD vl d3.2 (0,(0,(0,0)))).2.1),((gD vl d3.2 (0,(0,(0,0)))).2.1+(Int.tmod (gD vl d3.2 (0,(0,(0,0)))).2.2.1 (20:Int)))),((1:Int)+(gD vl d3.2 (0,(0,(0,0)))).2.2.2)))])=d4.1∧false=false)∧True))∧q3 d4)) ∧
  (((decide (d3.2<(lI vl)))&&(decide (d3.2<(7:Int))))=false →
   (I64 to)∧((60:Int)≠0)∧(I64 ((20:Int)+(Int.tmod to (60:Int))))∧((True∧((20:Int)+(Int.tmod to (60:Int)))=(20+Int.tmod to 60)∧(([]:List SV)=[]))∧((d3.1=(H3 vl)∧false=false)∧True)))) d30
def VZ:Cx:=⟨[(64,(.pair (.i .i64) (.pair (.pair (.i .i64) (.i .i64)) (.i .i64))))],[(28,N1)],54,[],0,[],[],[],[],false,[],[],[],[]⟩
def BK (vl:List (Int×Int×Int×Int)) (to:Int) (mo:List Int):List (Nat×LoopAnn):=[(0,⟨Unit,(List (Int×(Int×Int)×Int))×Int,[1,4,5],fun e x=>[.box 1 0,.lst 7,.val (.i .i64) x.2],fun e x=>[(1,.slot 1,.cells [.val (.list (.pair (.i .u8) (.pair (.i .u8) (.pair (.i .u8) (.i .u8))))) vl,.val (.i .u8) to,.val (.list (.i .u8)) mo] (some 25)),(7,.slot 4,.lst 64 (.pair (.i .i64) (.pair (.pair (.i .i64) (.i .i64)) (.i .i64))) x.1 false)]⟩)]
theorem B4 (d:(List (Int×Int×Int×Int))×Int×List Int):gwp (VZ) (BK d.1 d.2.1 d.2.2) c6 0 (YU [.tmp 2,.tmp 3] (Vm d) (KU d)) (Qh 54 (AL.can VS d))=X5 d.1 d.2.1 d.2.2:=by kernel_rfl
abbrev Bd:Prop:=OkC Tryz.prog 6 Yj
theorem H2 (h:∀ (vl:List (Int×Int×Int×Int)) (to:Int) (mo:List Int),(Sg vl to mo)→X5 vl to mo):OkC Tryz.prog 6 Yj :=
 QB Z6z mixed (C:=VZ) (V:=fun (d:(List (Int×Int×Int×Int))×Int×List Int)=>X5 d.1 d.2.1 d.2.2) ⟨(.cons SS .nil),XsOk.nil,ItsOk.nil,YlOk.nil,IysOk.nil,XfOk.nil⟩ (B4) fun d hp=>h d.1 d.2.1 d.2.2 hp
theorem Bl:Bd:=H2 fun vl to mo h=>by
 obtain⟨h1,h3,h4,h5⟩:=h;unfold X5;(try delta lI gD sT I64);have t1:=Int.tmod_nonneg 60 h4.1;have t2:=Int.tmod_lt_of_pos to (show (0:Int)<60 by decide);refine⟨(),([],0),(by and_intros<;>first|rfl|trivial|simp),?_⟩;refine⟨fun d=>∃ k:Nat,d.2=k∧k≤7∧k≤vl.length∧d.1=(vl.take k).map U4,fun d=>7-d.2.toNat,⟨0,rfl,by omega,by omega,rfl⟩,?_⟩;rintro⟨_,_⟩ ⟨k,rfl,k1,k2,rfl⟩;dsimp only;simp only[Int.toNat_natCast];refine⟨fun hc=>?_,fun hc=>?_⟩
 ·rw[Bool.and_eq_true,decide_eq_true_eq,decide_eq_true_eq] at hc;have aP:k<vl.length:=by omega
  have hd:vl.getD k (0,(0,(0,0)))=vl[k]:=Q6 aP;rw[hd];obtain⟨⟨a1,a2⟩,⟨b1,b2⟩,⟨c1,c2⟩,d1,d2⟩:=h3 _ (List.getElem_mem aP);have e1:=Int.tdiv_eq_ediv_of_nonneg (b:=128) a1;have e2:=Int.tmod_eq_emod_of_nonneg (b:=20) c1;have hl:((vl.take k).map U4).length≤7:=by rw[List.length_map,List.length_take];omega
  have fin:∃ d4:List Lot×Int,((k:Int)+1=d4.2∧(vl.take k).map U4++[U4 vl[k]]=d4.1)∧d4=((vl.take (k+1)).map U4,(k:Int)+1):=⟨((vl.take (k+1)).map U4,(k:Int)+1),⟨rfl,by rw[QO aP,List.map_append];rfl⟩,rfl⟩;simp only[QQ,List.length_cons,List.length_nil];repeat (first|refine And.intro (by first|omega|trivial) ?_)
  refine⟨((vl.take (k+1)).map U4,(k:Int)+1),?_,⟨k+1,rfl,by omega,by omega,rfl⟩,by show 7-((k:Int)+1).toNat<7-k;omega⟩;rw[QO aP,List.map_append];exact(by and_intros<;>first|rfl|trivial|simp)
 ·have hk:k=7∨k=vl.length:=by
   apply Classical.byContradiction;intro h9;rw[decide_eq_true (show (k:Int)<vl.length by omega),decide_eq_true (show (k:Int)<7 by omega)] at hc;cases hc
  have he:(vl.take k).map U4=H3 vl:=by
   unfold H3;rcases hk with rfl|rfl
   ·rfl
   ·rw[List.take_length,List.take_of_length_le (by omega)]
  rw[he];refine⟨by rw[QQ];omega,by decide,by rw[QQ];omega,?_⟩;exact(by and_intros<;>first|rfl|trivial|simp)
def Di:AL (List (Int×(Int×Int)×Int)):=(.one (.k (.list (.pair (.i .i64) (.pair (.pair (.i .i64) (.i .i64)) (.i .i64))))))
def Rl (d:List (Int×(Int×Int)×Int)):Prop:=d.length≤1000
def Ge (d:List (Int×(Int×Int)×Int)):SV:=.lst 0
def G0 (d:List (Int×(Int×Int)×Int)):List OB:=[.lst 64 (.pair (.i .i64) (.pair (.pair (.i .i64) (.i .i64)) (.i .i64))) d false]
def UT:CSp:=Wi Di Rl Ge G0
def YB (l:List (Int×(Int×Int)×Int)):Prop :=
 (((List.length ([]:List (Int×(Int×Int)×Int)))+(List.length l))*32≤70368744177664)∧(True∧(((([]:List (Int×(Int×Int)×Int))++l)=l∧((List.isEmpty l)&&false)=false)∧True))
def Db:Cx:=⟨[(64,(.pair (.i .i64) (.pair (.pair (.i .i64) (.i .i64)) (.i .i64))))],[],6,[],0,[],[],[],[],false,[],[],[],[]⟩
def Si (l:List (Int×(Int×Int)×Int)):List (Nat×LoopAnn):=[]
theorem Su (d:List (Int×(Int×Int)×Int)):gwp (Db) (Si d) c8 0 (YU [.tmp 2] (Ge d) (G0 d)) (Qh 6 (AL.can Di d))=YB d:=by kernel_rfl
abbrev S_:Prop:=OkC Tryz.prog 8 UT
theorem SU (h:∀ (l:List (Int×(Int×Int)×Int)),(l.length≤1000)→YB l):OkC Tryz.prog 8 UT :=
 QB Z6t mixed (C:=Db) (V:=fun (d:List (Int×(Int×Int)×Int))=>YB d) ⟨.nil,XsOk.nil,ItsOk.nil,YlOk.nil,IysOk.nil,XfOk.nil⟩ (Su) fun d hp=>h d hp
theorem SO:S_:=SU fun l h=>by
 (unfold YB;(try delta lI gD sT I64);simp);omega
def YX:AL ((List (Int×Int×Int×Int))×Int×List Int):=(.one (.agg (.cons (.k (.list (.pair (.i .u8) (.pair (.i .u8) (.pair (.i .u8) (.i .u8)))))) (.cons (.k (.i .u8)) (.one (.k (.list (.i .u8))))))))
def M3 (d:(List (Int×Int×Int×Int))×Int×List Int):Prop:=Sg d.1 d.2.1 d.2.2
def Y6 (d:(List (Int×Int×Int×Int))×Int×List Int):SV:=.val .bo true
def Yf (d:(List (Int×Int×Int×Int))×Int×List Int):List OB:=[]
def Kk:CSp:=Wi YX M3 Y6 Yf
abbrev J5 (vl:List (Int×Int×Int×Int)) (to:Int):=(W6 (H3 vl) (20+Int.tmod to 60))
abbrev Ag (vl:List (Int×Int×Int×Int)) (to:Int):=((J5 vl to)=(J5 vl to)∧(List.isEmpty (J5 vl to))=(List.isEmpty (J5 vl to)))
abbrev TZ (vl:List (Int×Int×Int×Int)):=((H3 vl)=(H3 vl)∧false=false)
def ZZ (vl:List (Int×Int×Int×Int)) (to:Int) (mo:List Int):Prop :=
 (Sg vl to mo)∧((H3 vl).length≤1000)∧((H3 vl).length≤1000)∧∀ (y1:Bool),y1=((Zn (H3 vl) (20+Int.tmod to 60)) != (0:Int))→∀ (y2:Bool),y2=(decide ((lI (J5 vl to)) > (lI (H3 vl))))→∀ (y3:Bool),y3=(y1||y2)→(y3=true →
  (false=true∧(True))) ∧
 (y3=false →
  ∃ (e3:Unit) (d30:(List Int)×(List Int)×Int×Int×Int),((True∧True∧True∧True∧(0:Int)=d30.2.2.1∧(0:Int)=d30.2.2.2.1∧(0:Int)=(q4 d30)∧True)∧((TZ vl)∧((J5 vl to)=(J5 vl to)∧(J5 vl to).isEmpty=(List.isEmpty (J5 vl to)))∧(([]:List Int)=d30.1∧false=false)∧(([]:List Int)=d30.2.1∧false=false)∧True)) ∧
  LoopP (fun (d3:(List Int)×(List Int)×Int×Int×Int) (q3:((List Int)×(List Int)×Int×Int×Int)→Prop) =>
   ∀ (pz:Bool),pz=(decide ((q4 d3)<(lI (J5 vl to))))→(pz=true →
    ∃ (e6:Int×Int×Int) (d60:(List Int)×(List Int)×Int),((True∧True∧True∧True∧d3.2.2.1=e6.1∧d3.2.2.2.1=e6.2.1∧(q4 d3)=e6.2.2∧(0:Int)=d60.2.2∧True)∧((TZ vl)∧(Ag vl to)∧(d3.1=d60.1∧false=false)∧(d3.2.1=d60.2.1∧false=false)∧True)) ∧
    LoopP (fun (d6:(List Int)×(List Int)×Int) (q6:((List Int)×(List Int)×Int)→Prop) =>
     (0≤e6.2.2)∧(e6.2.2<(List.length (J5 vl to)))∧∀ (rB:List Int),rB=(gD (J5 vl to) e6.2.2 [])→∀ (pA:Bool),pA=(decide (d6.2.2<(lI rB)))→(pA=true →
      (I64 (e6.2.1+d6.2.2))∧(((List.length d6.1)+(List.length [(e6.2.1+d6.2.2)]))*8≤70368744177664)∧(0≤e6.2.2)∧(e6.2.2<(List.length (J5 vl to)))∧∀ (mf:List Int),mf=(gD (J5 vl to) e6.2.2 [])→(I64 (e6.2.1+(lI mf)))∧(I64 ((e6.2.1+(lI mf))-(1:Int)))∧(I64 (((e6.2.1+(lI mf))-(1:Int))-d6.2.2))∧(((List.length d6.2.1)+(List.length [(((e6.2.1+(lI mf))-(1:Int))-d6.2.2)]))*8≤70368744177664)∧(I64 (d6.2.2+(1:Int)))∧(∃ d7:(List Int)×(List Int)×Int,((True∧True∧True∧True∧e6.1=e6.1∧e6.2.1=e6.2.1∧e6.2.2=e6.2.2∧(d6.2.2+(1:Int))=d7.2.2∧True)∧((TZ vl)∧(Ag vl to)∧((d6.1++[(e6.2.1+d6.2.2)])=d7.1∧false=false)∧((d6.2.1++[(((e6.2.1+(lI mf))-(1:Int))-d6.2.2)])=d7.2.1∧false=false)∧True))∧q6 d7)) ∧
     (pA=false →
      (0≤e6.2.2)∧(e6.2.2<(List.length (J5 vl to)))∧∀ (pB:List Int),pB=(gD (J5 vl to) e6.2.2 [])→(I64 (e6.2.1+(lI pB)))∧(0≤e6.2.2)∧(e6.2.2<(List.length (J5 vl to)))∧∀ (rC:List Int),rC=(gD (J5 vl to) e6.2.2 [])→∀ (pC:Int),pC=(K0 e6.1 (lI rC))→(I64 (e6.2.2+(1:Int)))∧(∃ d8:(List Int)×(List Int)×Int×Int×Int,((True∧True∧True∧True∧pC=d8.2.2.1∧(e6.2.1+(lI pB))=d8.2.2.2.1∧(e6.2.2+(1:Int))=(q4 d8)∧True)∧((TZ vl)∧(Ag vl to)∧(d6.1=d8.1∧false=false)∧(d6.2.1=d8.2.1∧false=false)∧True))∧q3 d8))) d60) ∧
   (pz=false →
    ∀ (oI:Bool),oI=(d3.2.2.2.1 != (lI (H3 vl)))→(oI=true →
     (false=true∧(True))) ∧
    (oI=false →
     (d3.1.length≤1000)∧(d3.1.length≤110)∧(d3.1.length≤110)∧(d3.2.1.length≤1000)∧(d3.2.1.length≤110)∧(d3.2.1.length≤1000)∧(d3.2.1.length≤110)∧(d3.2.1.length≤110)∧∀ (rD:Bool),rD=(Q5 d3.1==(0:Int))→∀ (rE:Bool),rE=(Q5 d3.1==(0:Int))→∀ (rF:Bool),rF=(rD&&rE)→∀ (rG:Bool),rG=(Q5 d3.2.1==(0:Int))→∀ (rH:Bool),rH=(rF&&rG)→∀ (rI:Bool),rI=(Q5 d3.2.1==(0:Int))→∀ (rJ:Bool),rJ=(rH&&rI)→∀ (rK:Bool),rK=(Q5 d3.2.1==(0:Int))→∀ (rL:Bool),rL=(rJ&&rK)→∀ (rM:Bool),rM=((if Q5 d3.1=0 then Yr d3.1 else 0)==(0:Int))→∀ (rN:Bool),rN=(rL&&rM)→∀ (rO:Int),rO=(F7 (1:Int) (lI (H3 vl)))→∀ (rP:Bool),rP=((lI (if Q5 d3.1=0 then Vo d3.1 else []))==rO)→∀ (rQ:Bool),rQ=(rN&&rP)→∀ (rR:Bool),rR=((lI (if Q5 d3.2.1=0 then Vo d3.2.1 else []))==d3.2.2.1)→∀ (rS:Bool),rS=(rQ&&rR)→∀ (rT:Bool),rT=((lI (if Q5 d3.2.1=0 then UZ d3.2.1 else []))==d3.2.2.1)→∀ (pD:Bool),pD=(rS&&rT)→(pD=true→InK .i64 ((lI (H3 vl))-(lI (J5 vl to))))∧∀ (rU:Bool),rU=((lI (if Q5 d3.2.1=0 then Q5z d3.2.1 else []))==((lI (H3 vl))-(lI (J5 vl to))))→∀ (pE:Bool),pE=(pD&&rU)→(pE=true→True)∧∀ (pF:Bool),pF=(pE&&true)→(pF=true→True)∧∀ (rV:Bool),rV=(pF&&true)→(rV=true∧(True))))) d30)
def YT:Cx:=⟨[(3,(.i .i64))],[(6,Yj),(8,UT),(10,Ng),(9,V3),(11,MV),(12,Mk),(13,To),(14,D3),(15,P3)],184,[],0,[(7,U6)],[],[],[],true,[],[],[],[]⟩
def MA (vl:List (Int×Int×Int×Int)) (to:Int) (mo:List Int):List (Nat×LoopAnn):=[(0,⟨Unit,(List Int)×(List Int)×Int×Int×Int,[3,5,7,8,9,10,11],fun e x=>[.lst 25,.lst 32,.lst 44,.lst 45,.val (.i .i64) x.2.2.1,.val (.i .i64) x.2.2.2.1,.val (.i .i64) x.2.2.2.2],fun e x=>[(25,.slot 3,.lst 64 (.pair (.i .i64) (.pair (.pair (.i .i64) (.i .i64)) (.i .i64))) (H3 vl) false),(32,.slot 5,.lst 34 (.list (.i .i64)) (W6 (H3 vl) (20+Int.tmod to 60)) (List.isEmpty (W6 (H3 vl) (20+Int.tmod to 60)))),(44,.slot 7,.lst 3 (.i .i64) x.1 false),(45,.slot 8,.lst 3 (.i .i64) x.2.1 false)]⟩),
 (2,⟨Int×Int×Int,(List Int)×(List Int)×Int,[3,5,7,8,9,10,11,12],fun e x=>[.lst 25,.lst 32,.lst 44,.lst 45,.val (.i .i64) e.1,.val (.i .i64) e.2.1,.val (.i .i64) e.2.2,.val (.i .i64) x.2.2],fun e x=>[(25,.slot 3,.lst 64 (.pair (.i .i64) (.pair (.pair (.i .i64) (.i .i64)) (.i .i64))) (H3 vl) false),(32,.slot 5,.lst 34 (.list (.i .i64)) (W6 (H3 vl) (20+Int.tmod to 60)) (List.isEmpty (W6 (H3 vl) (20+Int.tmod to 60)))),(44,.slot 7,.lst 3 (.i .i64) x.1 false),(45,.slot 8,.lst 3 (.i .i64) x.2.1 false)]⟩)]
theorem G1 (d:(List (Int×Int×Int×Int))×Int×List Int):gwp (YT) (MA d.1 d.2.1 d.2.2) c3 0 (YU [.tmp 2] (Y6 d) (Yf d)) (Qh 184 (AL.can YX d))=ZZ d.1 d.2.1 d.2.2:=by kernel_rfl
abbrev MH:Prop:=OkC Tryz.prog 3 Kk
theorem Ml (h:∀ (vl:List (Int×Int×Int×Int)) (to:Int) (mo:List Int),(Sg vl to mo)→ZZ vl to mo):OkC Tryz.prog 3 Kk :=
 QB fun3 mixed (C:=YT) (V:=fun (d:(List (Int×Int×Int×Int))×Int×List Int)=>ZZ d.1 d.2.1 d.2.2) ⟨(.cons Bl (.cons SO (.cons Sc (.cons Py (.cons A9 (.cons C6 (.cons OW (.cons TD (.cons CQ .nil))))))))),(XsOk.cons Pq XsOk.nil),ItsOk.nil,YlOk.nil,IysOk.nil,XfOk.nil⟩ (G1) fun d hp=>h d.1 d.2.1 d.2.2 hp
end Go.Proofs.Tryz