
import Derived.Test.YtmcfcleofjngmaaGreatDoorM4
set_option linter.unusedVariables false
set_option maxRecDepth 100000
namespace Go.V
open Go
def J28:SV->Option Nat
 |.lst o=>some o
 |.box o off=>bif Nat.beq off 0 then some o else none
 |_=>none
def lsv:OB->SV
 |.lst _ _ _ _=>.lst 0
 |_=>.box 0 0
def Z9j:SV->OB->Bool
 |.lst _,.lst _ _ _ _=>true
 |.box _ _,.cells _ _=>true
 |_,_=>false
abbrev LSp:=Ap->OB->List SV->Option (Prop×SV×OB)
def Q58 (ap:Ap) (sp:LSp):XSp:=λ_ args s K =>
 match args with
 |a::args=>(match J28 a with
  |some o=>bif (Q9 s.own o).ret&&Z9j a (Q9 s.own o) then (match sp ap (Q9 s.own o) (Rv (oset s.own o .dead) args) with
    |some (c,v,b)=>bif v.ret 0&&b.ret then c/\K v ⟨s.env,oset s.own o b,s.nx⟩ else False
    |none=>False) else False
  |none=>False)
 |[]=>False
def DH (nt:Nat) (a0:SV) (b:OB) (vals:List Value) (args:List SV):St:=⟨a0::(args++List.replicate (nt-(args.length+1)) .any),[(0,b),(4000000,.stk [a0] vals)],0⟩
def Q65 (vals:List Value) (rs:List VResult) (v:SV) (b:OB) (a0:SV):Exit->St->Prop:=λe s =>
 let fin:=match W5 s rs,Q9 s.own 4000000 with
  |some r,.stk l vs=>vs=vals/\Nh [(0,some 0)] [a0] l/\RR [] v r/\Q7g s [(0,some 0)] 0 b
  |_,_=>False
 match e with
 |.normal=>fin
 |.ret=>fin
 |_=>False
section
variable {P:Program}
theorem Heap.Le.kill' {B U:Heap}(h:B.Le U) {i:Nat}(hi:B.get i=none):B.Le (U.kill i):=⟨h.1,λj b hb=>by
 have:j≠i:=by rintro rfl;rw[hi] at hb;cases hb
 rw[Heap.q0d _ this];exact h.2 _ _ hb⟩
theorem Heap.q1y (U:Heap) (i:Nat):(U.kill i).Le U:=⟨z9 _,(by grind [Heap.q0g,Heap.q0d])⟩
def Ig (U:Heap) (p:Value):Heap:=match oid p with|some i=>U.kill i|none=>U
theorem Q9s (U:Heap) (p:Value):(Ig U p).Le U:=by
 unfold Ig;split
 .exact Heap.q1y _ _
 .exact .refl _
theorem Q3c {B U:Heap}{p:Value}(h:B.Le U) (hi:∀ i,oid p=some i->B.get i=none):B.Le (Ig U p):=by
 unfold Ig;split
 .rename_i i e;exact h.kill' (hi i e)
 .exact h
theorem Q43 {U:Heap}{p:Value}{i:Nat}(h:oid p=some i):(Ig U p).get i=none:=by unfold Ig;rw[h];exact Heap.q0g _ _
theorem Ov {U:Heap}{p:Value}{i:Nat}(h:oid p≠some i):(Ig U p).get i=U.get i:=by unfold Ig;grind [Heap.q0d]
theorem Z51 {p:Value}{i:Nat}(hp:∀ l,p≠.tuple l) (h:Oid p i):oid p=some i:=by cases p<;>first|exact h|exact absurd rfl (hp _)
theorem OB.q2b {b:OB}(h:b.ret=true):b.live=true:=by cases b<;>first|rfl|cases h
theorem Z0n {o:Nat}{b:OB}(h:Z9j (.lst o) b=true):lsv b=.lst 0:=by cases b<;>first|rfl|cases h
theorem Z0s {o off:Nat}{b:OB}(h:Z9j (.box o off) b=true):lsv b=.box 0 0:=by cases b<;>first|rfl|cases h
theorem Z0u {f:Nat}{vc:VCode}{rs:List VResult}{nt:Nat}(h:Fun P f vc rs nt) (hm:P.follows .mixedOrders=true) {sp:LSp}{ap:Ap}
  (hb:∀ b args c v b',sp ap b args=some (c,v,b')->c->∃ (C:Cx) (L:List Value->List (Nat×LoopAnn)) (cm:List SV),SVs.pure cm=true/\(∀ U vs,SRs P U XU JE args vs->SRs P U XU JE cm vs)/\COk P C/\∀ vals,gwp C (L vals) vc 0 (Q65 vals rs v b' (lsv b)) (DH nt (lsv b) b vals cm)):XOk P f (Q58 ap sp):=by
 intro B F pl tb s env U d args vs K R hG ha hx hK;unfold Q58 at hx;split at hx
 .rename_i a args;split at hx
  .rename_i o aL;cases lz:((Q9 s.own o).ret&&Z9j a (Q9 s.own o)) with
   |false=>rw[lz] at hx;exact hx.elim
   |true =>
   rw[lz] at hx;simp only[ze] at hx;simp only[z0] at lz;obtain⟨ky,eZ⟩:=lz;split at hx
   .rename_i c v b' df;cases cF:(v.ret 0&&b'.ret) with
    |false=>rw[cF] at hx;exact hx.elim
    |true =>
    rw[cF] at hx;obtain⟨hc,hx⟩:=hx;simp only[z0] at cF;simp only[SRs] at ha;obtain⟨u,us,rfl,mA,dy⟩:=ha;have af:=OB.q2b ky;have ai:=hG.obj o;have a8:∀ i,oid (pl o)=some i->F.get i=none:=λi hi=>hG.fresh o i af (Tg hi);have lP:∀ i,oid (pl o)=some i->B.get i=none:=λi hi=>by
     cases hg:B.get i with
     |none=>rfl
     |some b=>have:=hG.bf.2 _ _ hg;rw[a8 i hi] at this;cases this
    have ek:∀ l,pl o≠.tuple l:=λl he=>by
     unfold J28 at aL;split at aL
     .obtain rfl:=osj aL;simp only[SR] at mA
      grind
     .rename_i o' off;cases aU:Nat.beq off 0 with
      |false=>rw[aU] at aL;cases aL
      |true =>rw[aU] at aL;obtain rfl:=osj aL;simp only[SR] at mA;obtain⟨_,h,_⟩:=mA;rw[he] at h;cases h
     .cases aL
    have lQ:∀ (B:Heap) (pl':Nat->Value) (tb':Nat->Option Bool),(SR P B pl' tb' (lsv (Q9 s.own o)) u<->pl' 0=pl o):=λB pl' tb'=>by
     unfold J28 at aL;split at aL
     .obtain rfl:=osj aL;simp only[SR] at mA;rw[Z0n eZ];simp only[SR]
      grind
     .rename_i o' off;cases aU:Nat.beq off 0 with
      |false=>rw[aU] at aL;cases aL
      |true =>
       rw[aU] at aL;obtain rfl:=osj aL;obtain rfl:=zL aU;simp only[SR] at mA;rw[Z0s eZ];simp only[SR];obtain⟨i,h1,rfl⟩:=mA;rw[h1];constructor
       .simp_all
       .intro h2;exact⟨i,h2,rfl⟩
     .cases aL
    obtain⟨C,L,cm,sJ,qY,az,hg⟩:=hb _ _ c v b' df hc;have hg:=hg [u];let σc:=Ig U (pl o);have pr:B.Le σc:=Q3c hG.leB lP;have qZ:F.Le σc:=Q3c hG.le a8;have ax:SRs P σc XU JE cm us:=by
     refine qY σc us (WD (own:=oset s.own o .dead) pr (pl:=pl) (tb:=tb) (λd=>?_) dy);rw[Qa];by_cases e:d=o
     .rw[z6 e];trivial
     .rw[z7 e];exact(hG.obj d).mono (.refl _) (λ_ _ h=>h) λhl i hi=>Ov λjA=>hG.sep d o i e hl af hi (Tg jA)
    let jh:Nat->Value:=λj=>if j=0 then pl o else poison
    have a9:GRel P σc σc U (DH nt (lsv (Q9 s.own o)) (Q9 s.own o) [u] cm) (u::us++List.replicate (nt-(u::us).length) undef) U:=by
     refine⟨σc,σc,jh,JE,⟨.refl _,.refl _,λ_ _ _ h=>h,.refl _⟩,.refl _,Q9s _ _,?_,λj=>?_,λj i h1 h2=>?_,λj j' i aG h1 h2 h3 h4=>?_,λ_ _=>rfl⟩
     .simp only[DH,SRs,xq];refine⟨u,_,rfl,(lQ _ _ _).2 (by simp[jh]),?_⟩;rw[ax.length,zV]
      grind [SRs.append,Hk,Zu]
     .simp only[DH,Q9];by_cases e0:j=0
      .subst e0;simp only[Nat.beq_refl,ze];exact ai.retd ky λi _=>rfl
      .rw[Zn (λe=>e0 e.symm),cond_false];by_cases e1:j=4000000
       .subst e1;simp only[Nat.beq_refl,ze];exact⟨u,[],rfl,(lQ _ _ _).2 (by simp[jh]),rfl⟩
       .rw[Zn (λe=>e1 e.symm),cond_false];trivial
     .simp only[DH,Q9] at h1;by_cases e0:j=0
      .grind [Q43,Z51]
      .rw[Zn (λe=>e0 e.symm),cond_false] at h1;by_cases e1:j=4000000
       .subst e1;cases h1
       .rw[Zn (λe=>e1 e.symm),cond_false] at h1;cases h1
     .have z:∀ j,(Q9 (DH nt (lsv (Q9 s.own o)) (Q9 s.own o) [u] cm).own j).live=true->j=0:=λj h1=>by
       simp only[DH,Q9] at h1;by_cases e0:j=0
       .exact e0
       .rw[Zn (λe=>e0 e.symm),cond_false] at h1;by_cases e1:j=4000000
        .subst e1;cases h1
        .rw[Zn (λe=>e1 e.symm),cond_false] at h1;cases h1
      grind
    refine h.calls hm Rw ?_;refine VO az vc 0 _ _ _ U none _ trivial a9 hg λe s' ae U' h1 h2=>?_
    have main:(match W5 s' rs,Q9 s'.own 4000000 with
     |some r,.stk l vs=>vs=[u]/\Nh [(0,some 0)] [lsv (Q9 s.own o)] l/\RR [] v r/\Q7g s' [(0,some 0)] 0 b'
     |_,_=>False)->Zm (Jl ae U' rs) λv=>∃ v' aF,DropTo U v U' v' aF/\R v' aF:=λh=>by
     obtain⟨B',F',pl',tb',k1,k2⟩:=h2;split at h
     .rename_i r l cG hr fY;obtain⟨rfl,m1,m2,m3⟩:=h;obtain⟨w,h3,h4⟩:=Xh k2 hr;rw[h3];have fq:=k2.obj 4000000;rw[fY] at fq;have lR:pl' 0=pl o:=by
       have:=Zt [lsv (Q9 s.own o)] l [u] m1 fq;simp only[SRs] at this;obtain⟨u',_,dJ,h5,_⟩:=this;obtain rfl:u=u':=(zR dJ).1;have:=(lQ _ _ _).1 h5;simpa [Gj,QF] using this
      have fl:=(QX k2 m3).1;have lK:Gj pl' [(0,some 0)] 0=pl o:=by simpa [Gj,QF] using lR
      rw[lK] at fl;have cS:=(Vk v r w m2 h4).retd (B':=B) (pl':=pl) (tb':=tb) (n:=0) (λj hj=>by omega) _ _ cF.1;have hle:σc.Le U':=k1.f.trans k2.le;refine⟨w,U',.refl _ _ _,hK v _ B F pl tb w U' hx (.of hG.bf k1.d) ⟨hG.bf,qZ.trans hle,hG.env,λd=>?_,λd i q1 q2=>?_,λd d' i aG q1 q2 q3 q4=>?_,hG.free⟩ cS⟩
      .simp only[Qa];by_cases e:d=o
       .subst e;rw[z6 rfl];exact fl.retd cF.2 λ_ _=>rfl
       .rw[z7 e];refine (hG.obj d).mono (.refl _) (λ_ _ h=>h) λhl i hi=>?_;have aj:=(hG.obj d).q0r hl hi;cases hg:U.get i with
        |none=>exact k1.d.2 i aj hg
        |some bb=>exact hle.2 _ _ (by rw[Ov λjA=>hG.sep d o i e hl af hi (Tg jA)];exact hg)
      .simp only[Qa] at q1;by_cases e:d=o
       .subst e;exact hG.fresh d i af q2
       .rw[z7 e] at q1;exact hG.fresh d i q1 q2
      .have lv:∀ d,(Q9 (oset s.own o b') d).live=true->(Q9 s.own d).live=true:=λd h=>by
        rw[Qa] at h
        grind
       exact hG.sep d d' i aG (lv d q1) (lv d' q2) q3 q4
     .exact h.elim
    cases e with
    |normal=>exact main h1
    |ret=>exact main h1
    |_=>exact h1.elim
   .exact hx.elim
  .exact hx.elim
 .exact hx.elim
mutual
theorem AP.q0l:∀ {D:Type}(p:AP D) (x:D),(AP.can p x).pure=true
 |_,.k k,x=>rfl
 |_,.agg l,x=>by simp only[AP.can,SV.pure];exact AL.q0l l x
 |_,.nilS,x=>rfl
 |_,.any,x=>rfl
 |_,.int k n,x=>rfl
 |_,.ptr l,x=>by simp only[AP.can,SV.pure];exact AL.q0l l x
 |_,.fnx g l,x=>by simp only[AP.can,SV.pure,SVs.pure,AL.q0l l x];rfl
 |_,.fn ks r,x=>rfl
theorem AL.q0l:∀ {D:Type}(l:AL D) (x:D),SVs.pure (AL.can l x)=true
 |_,.nil,x=>rfl
 |_,.one a,x=>by simp only[AL.can,SVs.pure,AP.q0l a x];rfl
 |_,.cons a r,x=>by simp only[AL.can,SVs.pure,AP.q0l a x.1,AL.q0l r x.2];rfl
end
def Q8n (ty:Nat) (k:Kind) {D:Type}(l:AL D) (pre:List k.T->Bool->D->Prop) (res:List k.T->Bool->D->SV) (post:List k.T->Bool->D->List k.T):LSp:=λap b args=>match b with
 |.lst fT _k' xs nl=>if fT=ty then (match NB xs k,AL.dec ap l args with
  |some xs,some d=>some (pre xs nl d,res xs nl d,.lst ty k (post xs nl d) nl)
  |_,_=>none) else none
 |_=>none
theorem Fi {f:Nat}{vc:VCode}{rs:List VResult}{nt:Nat}(h:Fun P f vc rs nt) (hm:P.follows .mixedOrders=true) {ap:Ap}(dF:Q79 P ap) {ty:Nat}{k:Kind}{D:Type}{l:AL D}{pre:List k.T->Bool->D->Prop}{res:List k.T->Bool->D->SV}{post:List k.T->Bool->D->List k.T}
  {C:Cx}(az:COk P C) {L:List k.T->Bool->D->List Value->List (Nat×LoopAnn)}{V:List k.T->Bool->D->Prop}
  (hq:∀ xs nl d,(∀ vals,gwp C (L xs nl d vals) vc 0 (Q65 vals rs (res xs nl d) (.lst ty k (post xs nl d) nl) (.lst 0)) (DH nt (.lst 0) (.lst ty k xs nl) vals (AL.can l d)))=V xs nl d)
  (hb:∀ xs nl d,pre xs nl d->V xs nl d):XOk P f (Q58 ap (Q8n ty k l pre res post)):=by
 refine Z0u h hm λb args c v b' hs hc=>?_;unfold Q8n at hs;split at hs
 .rename_i fT k' xs nl;split at hs
  .rename_i e;subst e;split at hs
   .rename_i ys d h1 h2;obtain⟨rfl,rfl,rfl⟩:=(by simpa using hs:pre ys nl d=c/\res ys nl d=v/\OB.lst fT k (post ys nl d) nl=b');unfold NB at h1;split at h1
    .rename_i e;subst e;obtain rfl:=osj h1;exact⟨C,L xs nl d,AL.can l d,AL.q0l l d,λU vs hv=>AL.q0k dF l h2 hv,az,(hq xs nl d).mpr (hb xs nl d hc)⟩
    .cases h1
   .cases hs
  .cases hs
 .cases hs
end
end Go.V
namespace Go.V
open Go
abbrev lI {α:Type}(l:List α):Int:=(l.length:Int)
abbrev gD {α:Type}(l:List α) (i:Int) (d:α):α:=l.getD i.toNat d
abbrev sT {α:Type}(l:List α) (i:Int) (x:α):List α:=l.set i.toNat x
abbrev I64 (x:Int):Prop:=InK .i64 x
theorem Qc (x:Int):InK .i64 x<->-9223372036854775808<=x/\x<=9223372036854775807:=by simp[InK,IntKind.min,IntKind.max,IntKind.bits,IntKind.signed]
theorem Q6n (x:Int):InK .u8 x<->0<=x/\x<=255:=by simp[InK,IntKind.min,IntKind.max,IntKind.bits,IntKind.signed]
theorem Z3z (x:Int):InK .u16 x<->0<=x/\x<=65535:=by simp[InK,IntKind.min,IntKind.max,IntKind.bits,IntKind.signed]
theorem D3 (x:Int):InK .u64 x<->0<=x/\x<=18446744073709551615:=by simp[InK,IntKind.min,IntKind.max,IntKind.bits,IntKind.signed]
theorem LoopP.count {F:Int->(Int->Prop)->Prop}(n:Nat) (J:Nat->Prop) (h0:J 0) (hr:∀ k:Nat,k<=n->J k->∀ q:Int->Prop,(k<n->J (k+1)->q ((k:Int)+1))->F k q):LoopP F 0:=by
 refine⟨λd=>∃ k:Nat,d=k/\k<=n/\J k,λd=>n-d.toNat,⟨0,rfl,Nat.zero_le _,h0⟩,λd ⟨k,hd,hk,hJ⟩=>?_⟩
 grind
theorem LoopP.count2 {X:Type}{F:X×Int->(X×Int->Prop)->Prop}(n:Nat) (J:Nat->X->Prop) {x0:X}(h0:J 0 x0) (hr:∀ (k:Nat) (x:X),k<=n->J k x->∀ q:X×Int->Prop,(∀ x',k<n->J (k+1) x'->q (x',(k:Int)+1))->F (x,(k:Int)) q):LoopP F (x0,0):=by
 refine⟨λd=>∃ k:Nat,d.2=k/\k<=n/\J k d.1,λd=>n-d.2.toNat,⟨0,rfl,Nat.zero_le _,h0⟩,λ⟨x,d⟩ ⟨k,hd,hk,hJ⟩=>?_⟩
 grind
theorem Qf {α:Type}{l:List α}{k:Nat}{d:α}(h:k<l.length):l.getD k d=l[k]:=by simp_all
theorem QV {α:Type}{l:List α}{k:Nat}(h:k<l.length):l.take (k+1)=l.take k++[l[k]]:=by rw[List.take_succ_eq_append_getElem h]
section
variable {P:Program}
theorem st1 {S:VSpecs}{d:Nat}{op:VOp}{rest:List VOper}{env:Env}{U:Heap}{K:Env->Heap->Prop}{v:Value}(hv:∀ K',vop S op env U K'=Zm (Q8 op (Q5 env) U) λp=>K' p.1 p.2) (h:Q8 op (Q5 env) U=some (v,U)) (hr:A0 S rest (env.set d v) U K):A0 S (⟨some d,op,none⟩::rest) env U K:=by show Zm (some true) _;refine⟨λ_=>?_,λe=>by cases e⟩;rw[hv,h];exact hr
theorem YlOk.nil:∀ o y,QF ([]:List (Nat×YSp)) o=some y->Q9e P o y:=λo y h=>by cases h
theorem IysOk.nil:∀ f x,QF ([]:List (Nat×Z5b)) f=some x->Z5c P f x:=λf x h=>by cases h
theorem IysOk.cons {f:Nat}{x:Z5b}{l:List (Nat×Z5b)}(h:Z5c P f x) (t:∀ g y,QF l g=some y->Z5c P g y):∀ g y,QF ((f,x)::l) g=some y->Z5c P g y:=λg y hg=>by
 simp only[QF] at hg
 grind [Nat.eq_of_beq_eq_true,osj]
theorem XsOk.nil:∀ f x,QF ([]:List (Nat×XSp)) f=some x->XOk P f x:=λf x h=>by cases h
theorem XsOk.cons {f:Nat}{x:XSp}{l:List (Nat×XSp)}(h:XOk P f x) (t:∀ g y,QF l g=some y->XOk P g y):∀ g y,QF ((f,x)::l) g=some y->XOk P g y:=λg y hg=>by
 simp only[QF] at hg
 grind [Nat.eq_of_beq_eq_true,osj]
theorem ItsOk.nil:∀ f x,QF ([]:List (Nat×ISp)) f=some x->J2y P f x:=λf x h=>by cases h
def EF:Ap:=λ_ _=>none
theorem Du:Q79 P EF:=λ_ _ _ _ _ _ _ _ _ h=>by cases h
end
end Go.V
namespace Go.V
open Go
def Q19 {α:Type}:Nat->α->List α->List α
 |0,x,l=>x::l
 |j+1,x,a::l=>a::Q19 j x l
 |_+1,x,[]=>[x]
def Q18 {α:Type}:Nat->List α->List α
 |0,_::l=>l
 |j+1,a::l=>a::Q18 j l
 |_,[]=>[]
def Ir (kk vk:Kind):OB->Option (List (kk.T×vk.T))
 |.map gI jd m=>if h:gI=kk/\jd=vk then some (h.1▸h.2▸m) else none
 |_=>none
def Q8f (vals:List Value) (rs:List VResult) (v:SV) (kk vk:Kind) (post:List (kk.T×vk.T)->Prop):Exit->St->Prop:=λe s =>
 let fin:=match W5 s rs,Q9 s.own 4000000,Ir kk vk (Q9 s.own 0) with
  |some r,.stk l vs,some m'=>vs=vals/\Nh [(0,some 0)] [.map 0] l/\RR [] v r/\post m'
  |_,_,_=>False
 match e with
 |.normal=>fin
 |.ret=>fin
 |_=>False
section
variable {P:Program}
theorem B6 {kk vk:Kind}{b:OB}{m:List (kk.T×vk.T)}(h:Ir kk vk b=some m):b=.map kk vk m:=by
 unfold Ir at h
 grind
theorem Q63:∀ (j:Nat) {l:List SV}{c:List Value}{o:Nat}{B:Heap}{pl:Nat->Value}{tb:Nat->Option Bool},l[j]?=some (.map o)->SRs P B pl tb l c ->
  ∃ w,SR P B pl tb (.map o) w/\SRs P B pl tb (Q18 j l) (Q18 j c)/\∀ (B':Heap) (pl':Nat->Value) (tb':Nat->Option Bool) (l':List SV) (x:SV),SRs P B' pl' tb' l' (Q18 j c)->SR P B' pl' tb' x w->SRs P B' pl' tb' (Q19 j x l') c
 |j,[],c,o,B,pl,tb,h,_=>by simp at h
 |0,a::l,c,o,B,pl,tb,h,hs=>by
  obtain rfl:a=.map o:=by simpa using h
  simp only[SRs] at hs;obtain⟨w,us,rfl,h1,h2⟩:=hs;exact⟨w,h1,h2,λB' pl' tb' l' x h3 h4=>by simp only[Q19,SRs];exact⟨w,us,rfl,h4,h3⟩⟩
 |j+1,a::l,c,o,B,pl,tb,h,hs=>by
  simp only[SRs] at hs;obtain⟨u,us,rfl,h1,h2⟩:=hs;obtain⟨w,g1,g2,g3⟩:=Q63 j (by simpa using h) h2;refine⟨w,g1,?_,λB' pl' tb' l' x h3 h4=>?_⟩
  .simp only[Q18,SRs];exact⟨u,_,rfl,h1,g2⟩
  .simp only[Q18] at h3
   match l',h3 with
   |[],h3=>simp only[SRs] at h3;cases h3
   |y::l',h3 =>
    simp only[SRs] at h3;obtain⟨u',j9,e,h5,h6⟩:=h3;obtain⟨rfl,rfl⟩:=zR e;simp only[Q19,SRs]
    grind
theorem XfOk.nil {xs:List (Nat×XSp)}:∀ f j,QF ([]:List (Nat×Nat)) f=some j->∀ x,QF xs f=some x->J3t P f x j:=λf j h=>by cases h
end
end Go.V
namespace Go.V
open Go
abbrev PSp (kk vk:Kind):=Ap->List SV->Option (Prop×List SV×(List (kk.T×vk.T)->Prop))
def Z1h (ap:Ap) (kk vk:Kind) (sp:PSp kk vk):XSp:=λd args s K=>match sp ap (Rv s.own args) with
 |some (c,vs,post)=>bif SVs.ret 0 vs then c/\∀ m',post m'->K (.tup (.map d::vs)) (s.make d (.map kk vk m')) else False
 |none=>False
def KQ (nt:Nat) (args:List SV):St:=⟨args++List.replicate (nt-args.length) .any,[],0⟩
def Z56 (rs:List VResult) (kk vk:Kind) (vs:List SV) (post:List (kk.T×vk.T)->Prop):Exit->St->Prop:=λe s =>
 let fin:=match W5 s rs with
  |some (.tup (.map k::r))=>(match Ir kk vk (Q9 s.own k) with
   |some m'=>Nh [] vs r/\post m'
   |none=>False)
  |_=>False
 match e with
 |.normal=>fin
 |.ret=>fin
 |_=>False
section
variable {P:Program}
theorem SRs.retd0 {B B':Heap}{pl pl':Nat->Value}{tb tb':Nat->Option Bool}:∀ (l:List SV) (us:List Value),SVs.ret 0 l=true->SRs P B pl tb l us->SRs P B' pl' tb' l us
 |[],us,_,h=>by simpa [SRs] using h
 |s::l,us,hr,h=>by simp only[SVs.ret,z0] at hr;simp only[SRs] at h |-;obtain⟨u,j9,rfl,h1,h2⟩:=h;exact⟨u,j9,rfl,h1.retd (n:=0) (λj hj=>by omega) _ _ hr.1,SRs.retd0 l j9 hr.2 h2⟩
theorem Q9o {f:Nat}{vc:VCode}{rs:List VResult}{nt:Nat}(h:Fun P f vc rs nt) (hm:P.follows .mixedOrders=true) {kk vk:Kind}(bA:(kk.flat&&vk.flat)=true) {sp:PSp kk vk}{ap:Ap}
  (hb:∀ fZ c vs post,sp ap fZ=some (c,vs,post)->c->∃ (C:Cx) (L:List (Nat×LoopAnn)) (eG:List SV),SVs.pure eG=true/\(∀ U us,SRs P U XU JE fZ us->SRs P U XU JE eG us)/\COk P C/\gwp C L vc 0 (Z56 rs kk vk vs post) (KQ nt eG)):XOk P f (Z1h ap kk vk sp):=by
 intro B F pl tb s env U d args vals K R hG ha hx hK;unfold Z1h at hx;split at hx
 .rename_i c vs post df;cases cF:SVs.ret 0 vs with
  |false=>rw[cF] at hx;exact hx.elim
  |true =>
  rw[cF] at hx;obtain⟨hc,hx⟩:=hx;obtain⟨C,L,eG,d_,jD,eF,hg⟩:=hb _ c vs post df hc;have ax:=jD U vals (WD (own:=s.own) hG.leB (pl:=pl) (tb:=tb) (λd=>hG.obj d) ha);have a9:GRel P U U U (KQ nt eG) (vals++List.replicate (nt-vals.length) undef) U:=by
   refine⟨U,U,λ_=>poison,JE,⟨.refl _,.refl _,λ_ _ _ h=>h,.refl _⟩,.refl _,.refl _,?_,λk=>?_,λk i' h1 h2=>?_,λk k' i' oh h1 h2 h3 h4=>?_,λ_ _=>rfl⟩
   .simp only[KQ];rw[ax.length];exact SRs.append (Zu _ _ d_ ax) (Hk _)
   .simp only[KQ,Q9];trivial
   .simp only[KQ,Q9] at h1;cases h1
   .simp only[KQ,Q9] at h1;cases h1
  refine h.calls hm Rw ?_;refine VO eF vc 0 _ _ _ U none _ trivial a9 hg λe s' ae U' h1 h2=>?_
  have main:(match W5 s' rs with
   |some (.tup (.map k::r))=>(match Ir kk vk (Q9 s'.own k) with
    |some m'=>Nh [] vs r/\post m'
    |none=>False)
   |_=>False)->Zm (Jl ae U' rs) λv=>∃ v' aF,DropTo U v U' v' aF/\R v' aF:=λh=>by
   obtain⟨B',F',pl',tb',k1,k2⟩:=h2;split at h
   .rename_i k r hr;split at h
    .rename_i m' kQ;obtain⟨g1,g2⟩:=h;have aN:=B6 kQ;obtain⟨w,h3,h4⟩:=Xh k2 hr;rw[h3];simp only[SR,SRs] at h4;obtain⟨cs,rfl,mv,ws,rfl,⟨rfl,_⟩,h5⟩:=h4;have cS:=SRs.retd0 (B':=B) (pl':=ZR pl d (pl' k)) (tb':=tb) vs ws cF (Zt vs r ws g1 h5);have ai:=k2.obj k;rw[aN] at ai;have hle:U.Le U':=k1.f.trans k2.le;have lS:OR P B (ZR pl d (pl' k)) tb U' (pl' k) (.map kk vk m'):=ai.retd bA λ_ _=>rfl;have af:(Q9 s'.own k).live=true:=by rw[aN];rfl
     have dS:∀ i,Oid (pl' k) i->U.get i=none:=λi hi=>by
      cases hg:U.get i with
      |none=>rfl
      |some b =>have:=k2.fresh k i af hi;have h9:=k1.f.2 _ _ hg;rw[this] at h9;cases h9
     have lT:Gam P B F (ZR pl d (pl' k)) tb (s.make d (.map kk vk m')) env U':=by
      refine hG.make d _ (pl' k) (hG.le.trans hle) (λj i _ hl hi=>?_) lS λi _ hi=>⟨?_,λj _ hl hj=>?_⟩
      .cases hg:U.get i with
       |none=>exact k1.d.2 i ((hG.obj j).q0r hl hi) hg
       |some bb=>exact hle.2 _ _ hg
      .cases hg:F.get i with
       |none=>rfl
       |some b=>have:=hG.le.2 _ _ hg;rw[dS i hi] at this;cases this
      .have aj:=(hG.obj j).q0r hl hj;have:=k1.d.2 i aj (dS i hi);obtain⟨id,es,clock,e1,e2,_⟩:=lS;rw[e1] at hi;obtain rfl:id=i:=osj hi;rw[this] at e2;cases e2
     refine⟨_,U',.refl _ _ _,hK _ _ B F _ tb _ U' (hx m' g2) (.of hG.bf k1.d) lT ?_⟩;obtain⟨id,es,clock,e1,_⟩:=lS;simp only[SR,SRs];exact⟨_,rfl,_,_,rfl,⟨by simp[ZR],_,e1⟩,cS⟩
    .exact h.elim
   .exact h.elim
  cases e with
  |normal=>exact main h1
  |ret=>exact main h1
  |_=>exact h1.elim
 .exact hx.elim
def Z5f {kk vk:Kind}{D:Type}(la:AL D) (pre:D->Prop) (res:D->List SV) (post:D->List (kk.T×vk.T)->Prop):PSp kk vk:=λap fZ=>match AL.dec ap la fZ with
 |some a=>some (pre a,res a,post a)
 |none=>none
theorem Z06 {f:Nat}{vc:VCode}{rs:List VResult}{nt:Nat}(h:Fun P f vc rs nt) (hm:P.follows .mixedOrders=true) {ap:Ap}(dF:Q79 P ap) {kk vk:Kind}(bA:(kk.flat&&vk.flat)=true) {D:Type}{la:AL D}{pre:D->Prop}{res:D->List SV}{post:D->List (kk.T×vk.T)->Prop}
  {C:Cx}(az:COk P C) {L:D->List (Nat×LoopAnn)}{V:D->Prop}
  (hq:∀ y,gwp C (L y) vc 0 (Z56 rs kk vk (res y) (post y)) (KQ nt (AL.can la y))=V y)
  (hb:∀ y,pre y->V y):XOk P f (Z1h ap kk vk (Z5f la pre res post)):=Q9o h hm bA λfZ c vs q hs hc=>by
 unfold Z5f at hs
 grind [AL.q0l,AL.q0k]
end
end Go.V
namespace Go.V
open Go
def rb {A B C D E:Type}(x:A×B×C×D×E):E:=x.2.2.2.2
def rg {A B C D A' B' C' D' E:Type}(x:A×B×C×D×A'×B'×C'×D'×E):E:=x.2.2.2.2.2.2.2.2
def Z6 {A B C D A' B' C' D' A1 B1 C1 D1 A2 B2 C2 D2 E:Type}(x:A×B×C×D×A'×B'×C'×D'×A1×B1×C1×D1×A2×B2×C2×D2×E):E:=x.2.2.2.2.2.2.2.2.2.2.2.2.2.2.2.2
theorem Q4a {x:Nat}(h:x<9223372036854775808):IntKind.wrap .i64 (x:Int)=x:=by
 have e:((x:Int) % (18446744073709551616:Int))=x:=by omega
 have:¬ ((x:Int)>=9223372036854775808):=by omega
 show (if (true&&decide ((x:Int) % (18446744073709551616:Int)>=9223372036854775808))=true then (x:Int) % (18446744073709551616:Int)-18446744073709551616 else (x:Int) % (18446744073709551616:Int))=x;simp only[e,this,decide_false,Bool.and_false,zm,if_false]
theorem Z00 {x y:Nat}(h:x<9223372036854775808):x &&& y<9223372036854775808:=xh Nat.and_le_left h
theorem IU (x:Nat):BitVec.ofInt 64 (x:Int)=BitVec.ofNat 64 x:=by apply BitVec.eq_of_toNat_eq;simp
theorem toNat_ofInt {x:Nat}(h:x<9223372036854775808):(BitVec.ofInt 64 (x:Int)).toNat=x:=by rw[IU,BitVec.toNat_ofNat,xn (by omega)]
theorem Z0b {x y:Nat}(hx:x<9223372036854775808) (hy:y<9223372036854775808):Qb .and .i64 x y=((x &&& y:Nat):Int):=by
 have e:(BitVec.ofInt 64 (x:Int) &&& BitVec.ofInt 64 (y:Int)).toNat=x &&& y:=by rw[BitVec.toNat_and,toNat_ofInt hx,toNat_ofInt hy]
 show IntKind.wrap .i64 ((BitVec.ofInt 64 (x:Int) &&& BitVec.ofInt 64 (y:Int)).toNat:Int)=_;rw[e,Q4a (Z00 hx)]
theorem Z45 {x i:Nat}(hi:i<=64):YA .i64 x i=((x <<< i:Nat):Int):=by have:Nat.min i 64=i:=xJ hi;simp only[YA,zd,IntKind.bits,this,Nat.shiftLeft_eq];norm_cast
theorem Oa {α:Type}:∀ (j:Nat) (x:α) (l:List α),(Q19 j x l).length=l.length+1
 |0,_,_=>rfl
 |j+1,x,[]=>rfl
 |j+1,x,a::l=>by simp only[Q19,zV];rw[Oa j x l]
def Q9w (ap:Ap) (kk vk:Kind) (sp:PSp kk vk):XSp:=λd args s K=>match sp ap (Rv s.own args) with
 |some (c,_,post)=>c/\∀ m',post m'->K (.map d) (s.make d (.map kk vk m'))
 |none=>False
def Z44 (rs:List VResult) (kk vk:Kind) (post:List (kk.T×vk.T)->Prop):Exit->St->Prop:=λe s =>
 let fin:=match W5 s rs with
  |some (.map k)=>(match Ir kk vk (Q9 s.own k) with
   |some m'=>post m'
   |none=>False)
  |_=>False
 match e with
 |.normal=>fin
 |.ret=>fin
 |_=>False
section
variable {P:Program}
theorem Z12 {f:Nat}{vc:VCode}{rs:List VResult}{nt:Nat}(h:Fun P f vc rs nt) (hm:P.follows .mixedOrders=true) {kk vk:Kind}(bA:(kk.flat&&vk.flat)=true) {sp:PSp kk vk}{ap:Ap}
  (hb:∀ fZ c vs post,sp ap fZ=some (c,vs,post)->c->∃ (C:Cx) (L:List (Nat×LoopAnn)) (eG:List SV),SVs.pure eG=true/\(∀ U us,SRs P U XU JE fZ us->SRs P U XU JE eG us)/\COk P C/\gwp C L vc 0 (Z44 rs kk vk post) (KQ nt eG)):XOk P f (Q9w ap kk vk sp):=by
 intro B F pl tb s env U d args vals K R hG ha hx hK;unfold Q9w at hx;split at hx
 .rename_i c vs post df;obtain⟨hc,hx⟩:=hx;obtain⟨C,L,eG,d_,jD,eF,hg⟩:=hb _ c vs post df hc;have ax:=jD U vals (WD (own:=s.own) hG.leB (pl:=pl) (tb:=tb) (λd=>hG.obj d) ha);have a9:GRel P U U U (KQ nt eG) (vals++List.replicate (nt-vals.length) undef) U:=by
   refine⟨U,U,λ_=>poison,JE,⟨.refl _,.refl _,λ_ _ _ h=>h,.refl _⟩,.refl _,.refl _,?_,λk=>?_,λk i' h1 h2=>?_,λk k' i' oh h1 h2 h3 h4=>?_,λ_ _=>rfl⟩
   .simp only[KQ];rw[ax.length];exact SRs.append (Zu _ _ d_ ax) (Hk _)
   .simp only[KQ,Q9];trivial
   .simp only[KQ,Q9] at h1;cases h1
   .simp only[KQ,Q9] at h1;cases h1
  refine h.calls hm Rw ?_;refine VO eF vc 0 _ _ _ U none _ trivial a9 hg λe s' ae U' h1 h2=>?_
  have main:(match W5 s' rs with
   |some (.map k)=>(match Ir kk vk (Q9 s'.own k) with
    |some m'=>post m'
    |none=>False)
   |_=>False)->Zm (Jl ae U' rs) λv=>∃ v' aF,DropTo U v U' v' aF/\R v' aF:=λh=>by
   obtain⟨B',F',pl',tb',k1,k2⟩:=h2;split at h
   .rename_i k hr;split at h
    .rename_i m' kQ;have g2:=h;have aN:=B6 kQ;obtain⟨w,h3,h4⟩:=Xh k2 hr;rw[h3];simp only[SR] at h4;obtain⟨rfl,_⟩:=h4;have ai:=k2.obj k;rw[aN] at ai;have hle:U.Le U':=k1.f.trans k2.le;have lS:OR P B (ZR pl d (pl' k)) tb U' (pl' k) (.map kk vk m'):=ai.retd bA λ_ _=>rfl;have af:(Q9 s'.own k).live=true:=by rw[aN];rfl
     have dS:∀ i,Oid (pl' k) i->U.get i=none:=λi hi=>by
      cases hg:U.get i with
      |none=>rfl
      |some b =>have:=k2.fresh k i af hi;have h9:=k1.f.2 _ _ hg;rw[this] at h9;cases h9
     have lT:Gam P B F (ZR pl d (pl' k)) tb (s.make d (.map kk vk m')) env U':=by
      refine hG.make d _ (pl' k) (hG.le.trans hle) (λj i _ hl hi=>?_) lS λi _ hi=>⟨?_,λj _ hl hj=>?_⟩
      .cases hg:U.get i with
       |none=>exact k1.d.2 i ((hG.obj j).q0r hl hi) hg
       |some bb=>exact hle.2 _ _ hg
      .cases hg:F.get i with
       |none=>rfl
       |some b=>have:=hG.le.2 _ _ hg;rw[dS i hi] at this;cases this
      .have aj:=(hG.obj j).q0r hl hj;have:=k1.d.2 i aj (dS i hi);obtain⟨id,es,clock,e1,e2,_⟩:=lS;rw[e1] at hi;obtain rfl:id=i:=osj hi;rw[this] at e2;cases e2
     refine⟨_,U',.refl _ _ _,hK _ _ B F _ tb _ U' (hx m' g2) (.of hG.bf k1.d) lT ?_⟩;obtain⟨id,es,clock,e1,_⟩:=lS;simp only[SR];exact⟨by simp[ZR],_,e1⟩
    .exact h.elim
   .exact h.elim
  cases e with
  |normal=>exact main h1
  |ret=>exact main h1
  |_=>exact h1.elim
 .exact hx.elim
theorem Z1e {f:Nat}{vc:VCode}{rs:List VResult}{nt:Nat}(h:Fun P f vc rs nt) (hm:P.follows .mixedOrders=true) {ap:Ap}(dF:Q79 P ap) {kk vk:Kind}(bA:(kk.flat&&vk.flat)=true) {D:Type}{la:AL D}{pre:D->Prop}{res:D->List SV}{post:D->List (kk.T×vk.T)->Prop}
  {C:Cx}(az:COk P C) {L:D->List (Nat×LoopAnn)}{V:D->Prop}
  (hq:∀ y,gwp C (L y) vc 0 (Z44 rs kk vk (post y)) (KQ nt (AL.can la y))=V y)
  (hb:∀ y,pre y->V y):XOk P f (Q9w ap kk vk (Z5f la pre res post)):=Z12 h hm bA λfZ c vs q hs hc=>by
 unfold Z5f at hs
 grind [AL.q0l,AL.q0k]
end
end Go.V
namespace Go.V
open Go
abbrev KSp (kk vk:Kind):=Ap->List (kk.T×vk.T)->List SV->Option (Prop×SV×(List (kk.T×vk.T)->Prop))
def Q4l (ap:Ap) (j:Nat) (kk vk:Kind) (sp:KSp kk vk):XSp:=λ_ args s K =>
 match args[j]? with
 |some (.map o)=>(match Ir kk vk (Q9 s.own o) with
  |some m=>(match sp ap m (Rv (oset s.own o .dead) (Q18 j args)) with
   |some (c,v,post)=>bif v.ret 0 then c/\∀ m',post m'->K v ⟨s.env,oset s.own o (.map kk vk m'),s.nx⟩ else False
   |none=>False)
  |none=>False)
 |_=>False
def Dp (nt j:Nat) (kk vk:Kind) (m:List (kk.T×vk.T)) (vals:List Value) (args:List SV):St:=⟨Q19 j (.map 0) args++List.replicate (nt-(args.length+1)) .any,[(0,.map kk vk m),(4000000,.stk [.map 0] vals)],0⟩
def Z6d {kk vk:Kind}{D:Type}(la:AL D) (pre:List (kk.T×vk.T)->D->Prop) (res:List (kk.T×vk.T)->D->SV) (post:List (kk.T×vk.T)->D->List (kk.T×vk.T)->Prop):KSp kk vk:=λap m fZ=>match AL.dec ap la fZ with
 |some a=>some (pre m a,res m a,post m a)
 |none=>none
section
variable {P:Program}
theorem Z0y {f:Nat}{vc:VCode}{rs:List VResult}{nt:Nat}(h:Fun P f vc rs nt) (hm:P.follows .mixedOrders=true) {kk vk:Kind}(bA:(kk.flat&&vk.flat)=true) {sp:KSp kk vk}{ap:Ap}{j:Nat}
  (hb:∀ m fZ c v post,sp ap m fZ=some (c,v,post)->c->∃ (C:Cx) (L:List Value->List (Nat×LoopAnn)) (eG:List SV),SVs.pure eG=true/\(∀ U vs,SRs P U XU JE fZ vs->SRs P U XU JE eG vs)/\COk P C/\∀ vals,gwp C (L vals) vc 0 (Q8f vals rs v kk vk post) (Dp nt j kk vk m vals eG)):XOk P f (Q4l ap j kk vk sp):=by
 intro B F pl tb s env U d args vs K R hG ha hx hK;unfold Q4l at hx;split at hx
 .rename_i o iG;split at hx
  .rename_i m aA;have aN:=B6 aA;split at hx
   .rename_i c v post df;cases cF:v.ret 0 with
    |false=>rw[cF] at hx;exact hx.elim
    |true =>
    rw[cF] at hx;obtain⟨hc,hx⟩:=hx;obtain⟨w,hw,q6,q_⟩:=Q63 j iG ha;simp only[SR] at hw;obtain rfl:w=pl o:=hw.1;have af:(Q9 s.own o).live=true:=by rw[aN];rfl
    have ai:=hG.obj o;rw[aN] at ai;obtain⟨id,es,clock,iR,a8,dY⟩:=ai;have oi:F.get id=none:=hG.fresh o id af (by rw[iR];rfl);have lP:B.get id=none:=by
     cases hg:B.get id with
     |none=>rfl
     |some b=>have:=hG.bf.2 _ _ hg;rw[oi] at this;cases this
    obtain⟨C,L,eG,d_,jD,eF,hg⟩:=hb _ _ c v post df hc;have hg:=hg [pl o];have fk:oid (pl o)=some id:=by rw[iR];rfl
    let σc:=U.kill id;have pr:B.Le σc:=hG.leB.kill' lP;have qZ:F.Le σc:=hG.le.kill' oi;have ra:σc.Le U:=Heap.q1y _ _;have bm:∀ k,k≠id->σc.get k=U.get k:=λk hk=>Heap.q0d _ hk;have bQ:∀ d,OR P σc XU JE σc (pl d) ((Q9 (oset s.own o .dead) d).kill d)\/True:=λ_=>.inr trivial;have vh:∀ (xs:List SV) (vs:List Value),SRs P B pl tb xs vs->SRs P σc XU JE (Rv (oset s.own o .dead) xs) vs:=λxs vs bH=>by
     refine WD (own:=oset s.own o .dead) pr (pl:=pl) (tb:=tb) (λd=>?_) bH;rw[Qa];by_cases e:d=o
     .rw[z6 e];trivial
     .rw[z7 e];exact(hG.obj d).mono (.refl _) (λ_ _ h=>h) λhl i hi=>bm _ λjA=>hG.sep d o i e hl af hi (by rw[iR,jA];rfl)
    have ax:=jD σc _ (vh _ _ q6);let jh:Nat->Value:=λk=>if k=0 then pl o else poison
    have kE:∀ (B:Heap) (tb':Nat->Option Bool),SR P B jh tb' (.map 0) (pl o):=λB tb'=>by simp only[SR];exact⟨by simp[jh],_,iR⟩
    have a9:GRel P σc σc U (Dp nt j kk vk m [pl o] eG) (vs++List.replicate (nt-vs.length) undef) U:=by
     refine⟨σc,σc,jh,JE,⟨.refl _,.refl _,λ_ _ _ h=>h,.refl _⟩,.refl _,ra,?_,λk=>?_,λk i' h1 h2=>?_,λk k' i' oh h1 h2 h3 h4=>?_,λ_ _=>rfl⟩
     .have h0:=q_ σc jh JE eG (.map 0) (Zu _ _ d_ ax) (kE _ _);have hl:=h0.length;rw[Oa] at hl;simp only[Dp]
      grind [SRs.append,Hk]
     .simp only[Dp,Q9];by_cases e0:k=0
      .subst e0;simp only[Nat.beq_refl,ze];exact⟨id,es,clock,by simp[jh,iR],a8,dY.mono pr⟩
      .rw[Zn (λe=>e0 e.symm),cond_false];by_cases e1:k=4000000
       .subst e1;simp only[Nat.beq_refl,ze];exact⟨pl o,[],rfl,kE _ _,rfl⟩
       .rw[Zn (λe=>e1 e.symm),cond_false];trivial
     .simp only[Dp,Q9] at h1;by_cases e0:k=0
      .subst e0;have:Oid (pl o) i':=by simpa [jh] using h2
       rw[iR] at this;obtain rfl:id=i':=osj this;exact Heap.q0g _ _
      .rw[Zn (λe=>e0 e.symm),cond_false] at h1;by_cases e1:k=4000000
       .subst e1;cases h1
       .rw[Zn (λe=>e1 e.symm),cond_false] at h1;cases h1
     .have z:∀ k,(Q9 (Dp nt j kk vk m [pl o] eG).own k).live=true->k=0:=λk h1=>by
       simp only[Dp,Q9] at h1;by_cases e0:k=0
       .exact e0
       .rw[Zn (λe=>e0 e.symm),cond_false] at h1;by_cases e1:k=4000000
        .subst e1;cases h1
        .rw[Zn (λe=>e1 e.symm),cond_false] at h1;cases h1
      grind
    refine h.calls hm Rw ?_;refine VO eF vc 0 _ _ _ U none _ trivial a9 hg λe s' ae U' h1 h2=>?_
    have main:(match W5 s' rs,Q9 s'.own 4000000,Ir kk vk (Q9 s'.own 0) with
     |some r,.stk l vs,some m'=>vs=[pl o]/\Nh [(0,some 0)] [.map 0] l/\RR [] v r/\post m'
     |_,_,_=>False)->Zm (Jl ae U' rs) λv=>∃ v' aF,DropTo U v U' v' aF/\R v' aF:=λh=>by
     obtain⟨B',F',pl',tb',k1,k2⟩:=h2;split at h
     .rename_i r l' cG m' hr fY rf;obtain⟨rfl,m1,m2,m3⟩:=h;have fe:=B6 rf;obtain⟨w,h3,h4⟩:=Xh k2 hr;rw[h3];have fq:=k2.obj 4000000;rw[fY] at fq;have lR:pl' 0=pl o:=by
       have:=Zt [.map 0] l' [pl o] m1 fq;simp only[SRs,SR] at this;obtain⟨u',_,dJ,⟨h5,_⟩,_⟩:=this;obtain rfl:pl o=u':=(zR dJ).1;simpa [Gj,QF] using h5.symm
      have fl:=k2.obj 0;rw[fe,lR] at fl;have cS:=(Vk v r w m2 h4).retd (B':=B) (pl':=pl) (tb':=tb) (n:=0) (λj hj=>by omega) _ _ cF;have hle:σc.Le U':=k1.f.trans k2.le;have kn:∀ d,d≠o->(Q9 s.own d).live=true->∀ i,Oid (pl d) i->U'.get i=U.get i:=λd e hl i hi=>by
       have aj:=(hG.obj d).q0r hl hi;have vi:i≠id:=λjA=>hG.sep d o i e hl af hi (by rw[iR,jA];rfl);cases hg:U.get i with
       |none=>exact k1.d.2 i aj hg
       |some bb=>exact hle.2 _ _ (by rw[bm i vi];exact hg)
      have bV:∀ d,(Q9 (oset s.own o (.map kk vk m')) d).live=(Q9 s.own d).live:=λd=>by
       rw[Qa];by_cases e:d=o
       .subst e;rw[z6 rfl,af];rfl
       .rw[z7 e]
      refine⟨w,U',.refl _ _ _,hK v _ B F pl tb w U' (hx m' m3) (.of hG.bf k1.d) ⟨hG.bf,qZ.trans hle,hG.env,λd=>?_,λd i q1 q2=>hG.fresh d i (by rw[<-bV d];exact q1) q2,λd d' i aG q1 q2 q3 q4=>hG.sep d d' i aG (by rw[<-bV d];exact q1) (by rw[<-bV d'];exact q2) q3 q4,hG.free⟩ cS⟩
      .simp only[Qa];by_cases e:d=o
       .subst e;rw[z6 rfl];exact fl.retd bA λ_ _=>rfl
       .rw[z7 e];exact(hG.obj d).mono (.refl _) (λ_ _ h=>h) λhl i hi=>kn d e hl i hi
     .exact h.elim
    cases e with
    |normal=>exact main h1
    |ret=>exact main h1
    |_=>exact h1.elim
   .exact hx.elim
  .exact hx.elim
 .exact hx.elim
theorem Ia {f:Nat}{vc:VCode}{rs:List VResult}{nt:Nat}(h:Fun P f vc rs nt) (hm:P.follows .mixedOrders=true) {ap:Ap}(dF:Q79 P ap) {kk vk:Kind}(bA:(kk.flat&&vk.flat)=true) {j:Nat}{D:Type}{la:AL D}{pre:List (kk.T×vk.T)->D->Prop}{res:List (kk.T×vk.T)->D->SV}{post:List (kk.T×vk.T)->D->List (kk.T×vk.T)->Prop}
  {C:Cx}(az:COk P C) {L:List (kk.T×vk.T)->D->List Value->List (Nat×LoopAnn)}{V:List (kk.T×vk.T)->D->Prop}
  (hq:∀ m y,(∀ vals,gwp C (L m y vals) vc 0 (Q8f vals rs (res m y) kk vk (post m y)) (Dp nt j kk vk m vals (AL.can la y)))=V m y)
  (hb:∀ m y,pre m y->V m y):XOk P f (Q4l ap j kk vk (Z6d la pre res post)):=Z0y h hm bA λm fZ c v q hs hc=>by
 unfold Z6d at hs;split at hs
 .rename_i y h2;obtain⟨rfl,rfl,rfl⟩:=(by simpa using hs:pre m y=c/\res m y=v/\post m y=q);exact⟨C,L m y,AL.can la y,AL.q0l la y,(by grind [AL.q0k]),az,(hq m y).mpr (hb m y hc)⟩
 .cases hs
end
end Go.V
namespace Go.Proofs.Tryz
open Go Go.V Go.Proofs
abbrev zD:Int×Int×Int×Int×Bool:=(0,(0,(0,(0,false))))
abbrev nS:Prop:=([]:List SV)=[]
abbrev q4 {A B C D E:Type}(x:A×B×C×D×E):E:=x.2.2.2.2
def inI (n a b:Int):Bool:=decide (a<=n)&&decide (n<=b)
def Q8y (l:List Int) (p:Int->Bool):Int:=match l.findIdx? p with|some i=>(i:Int)|none=>-1
def Q0o {α:Type}(l:List α) (p:α->Bool):Int:=match l.findIdx? p with|some i=>(i:Int)|none=>-1
def Qs (hd:Int) (rows:List Int):Int:=if !inI hd 1 24 then 2 else if 60<rows.length then 5 else if rows.length=0 then 7 else if rows.any (λx=>!inI x 0 (2 ^ hd.toNat-1)) then 2 else 0
theorem Q04 {α:Type}{l:List α}{p:α->Bool}{k:Nat}(hk:k<l.length) (h:p l[k]=true) (hJ:(l.take k).any p=false):Q0o l p=k:=by
 have:l.findIdx? p=some k:=by rw[List.findIdx?_eq_some_iff_getElem];refine⟨hk,h,λj hj=>?_⟩;have hn:=xU.1 hJ l[j] (List.mem_take_iff_getElem.2 ⟨j,by omega,rfl⟩);simpa using hn
 simp[Q0o,this]
theorem Cq {α:Type}{l:List α}{p:α->Bool}(hJ:l.any p=false):Q0o l p=-1:=by
 have:l.findIdx? p=none:=by rw[List.findIdx?_eq_none_iff];intro x hx;have:=xU.1 hJ x hx;simpa using this
 simp[Q0o,this]
theorem Q2g {α:Type}(l:List α) (p:α->Bool):(decide (Q0o l p>=0))=l.any p:=by
 cases h:l.any p with
 |false=>rw[Cq h];rfl
 |true =>
  have:(l.findIdx? p).isSome=true:=by rw[List.findIdx?_isSome,h]
  obtain⟨i,hi⟩:=Option.isSome_iff_exists.1 this;have e:Q0o l p=(i:Int):=by simp[Q0o,hi]
  rw[e];exact x3 (Int.natCast_nonneg i)
def rowAt (rows:List Int) (p:Int):Nat:=(rows.getD (p.toNat % rows.length) 0).toNat
theorem XX {lw:List Int}{w:Nat}(hw:w<lw.length):lw.getD w 0∈lw:=by rw[Qf hw];exact zl hw
def Ef:Nat->Nat->Nat
 |0,_=>0
 |h+1,n=>2*Ef h n+(n / 2 ^ h) % 2
theorem Q5p:∀ h n,Ef h n<2 ^ h
 |0,_=>by simp[Ef]
 |h+1,n=>by have:=Q5p h n;have h2:(n / 2 ^ h) % 2<2:=xT _ (by omega);simp only[Ef];rw[Nat.pow_succ];omega
theorem RV:∀ h n i,(Ef h n).testBit i=(decide (i<h)&&n.testBit (h-1-i))
 |0,n,i=>by simp[Ef]
 |h+1,n,0=>by simp only[Ef];rw[Nat.testBit_zero,Nat.testBit_eq_decide_div_mod_eq];simp
 |h+1,n,i+1=>by have h2:(n / 2 ^ h) % 2<2:=xT _ (by omega);simp only[Ef];rw[Nat.testBit_succ,show (2*Ef h n+n / 2 ^ h % 2) / 2=Ef h n by omega,RV h n i];rw[show h+1-1-(i+1)=h-1-i by omega];congr 1;rw[decide_eq_decide];omega
def NF (s m x:Nat):Nat:=((x >>> s) &&& m) ||| ((x &&& m) <<< s)
theorem Q9g (s m x i:Nat):(NF s m x).testBit i=((x.testBit (s+i)&&m.testBit i)||(decide (s<=i)&&(x.testBit (i-s)&&m.testBit (i-s)))):=by unfold NF;rw[Nat.testBit_or,Nat.testBit_and,Nat.testBit_shiftRight,Nat.testBit_shiftLeft,Nat.testBit_and]
def ND (s i:Nat):Nat:=if i / s % 2=0 then i+s else i-s
def Z9x (s m:Nat):Bool:=(List.range 64).all λi=>m.testBit i==(i / s % 2==0)
theorem O3 {s m x i:Nat}(hs:s=1\/s=2\/s=4\/s=8\/s=16\/s=32) (hm:Z9x s m=true) (hx:x<2 ^ 64) (hi:i<64):(NF s m x).testBit i=x.testBit (ND s i):=by
 have rh:∀ j,j<64->m.testBit j=(j / s % 2==0):=λj hj=>by have:=zf.1 hm j (xk.2 hj);simpa using this
 have hb:∀ j,64<=j->x.testBit j=false:=λj hj=>Nat.testBit_lt_two_pow (zH hx (Nat.pow_le_pow_right (by omega) hj));rw[Q9g,rh i hi];unfold ND;by_cases h0:i / s % 2=0
 .rw[z6 h0,h0];simp only[beq_self_eq_true,xW];have hz:(decide (s<=i)&&(x.testBit (i-s)&&m.testBit (i-s)))=false:=by
   by_cases h1:s<=i
   .rw[rh (i-s) (by omega)];have:¬ ((i-s) / s % 2=0):=by rcases hs with rfl|rfl|rfl|rfl|rfl|rfl<;>omega
    simp[this]
   .simp[h1]
  rw[hz,y8,w5]
 .rw[z7 h0];have h1:s<=i:=by rcases hs with rfl|rfl|rfl|rfl|rfl|rfl<;>omega
  have h2:(i-s) / s % 2=0:=by rcases hs with rfl|rfl|rfl|rfl|rfl|rfl<;>omega
  rw[rh (i-s) (by omega),h2];simp[h0,h1]
theorem Dd {s m x:Nat}(hs:s=1\/s=2\/s=4\/s=8\/s=16\/s=32) (hx:x<2 ^ 64) (hm:m<2 ^ (64-s)):NF s m x<2 ^ 64:=by
 unfold NF;refine Nat.or_lt_two_pow ?_ ?_
 .exact xh Nat.and_le_left (xh (by rw[zQ];exact Nat.div_le_self _ _) hx)
 .have h1:x &&& m<2 ^ (64-s):=xh Nat.and_le_right hm;rw[Nat.shiftLeft_eq];have h2:2 ^ 64=2 ^ (64-s)*2 ^ s:=by rw[<-Nat.pow_add];congr 1;omega
  rw[h2];exact Nat.mul_lt_mul_of_pos_right h1 (Nat.two_pow_pos s)
def Z5w (x:Nat):Nat:=NF 4 1085102592571150095 (NF 2 3689348814741910323 (NF 1 6148914691236517205 x))
def Z0o (x:Nat):Nat:=(NF 16 281470681808895 (NF 8 71777214294589695 x)) >>> 32 ||| ((NF 16 281470681808895 (NF 8 71777214294589695 x)) <<< 32) % 2 ^ 64
theorem Q21 {x i:Nat}(hx:x<2 ^ 64) (hi:i<64):(Z5w x).testBit i=x.testBit (ND 1 (ND 2 (ND 4 i)))/\Z5w x<2 ^ 64:=by
 have b1:NF 1 6148914691236517205 x<2 ^ 64:=Dd (.inl rfl) hx (by decide);have b2:NF 2 3689348814741910323 (NF 1 6148914691236517205 x)<2 ^ 64:=Dd (.inr (.inl rfl)) b1 (by decide);have b3:=Dd (s:=4) (m:=1085102592571150095) (by omega) b2 (by decide);refine⟨?_,b3⟩;unfold Z5w;have e4:ND 4 i<64:=by unfold ND;split<;>omega
 have e2:ND 2 (ND 4 i)<64:=by generalize ND 4 i=j at e4;unfold ND;split<;>omega
 rw[O3 (by omega) (by decide) b2 hi,O3 (by omega) (by decide) b1 e4,O3 (by omega) (by decide) hx e2]
theorem Z07 {x i:Nat}(hx:x<2 ^ 64) (hi:i<64):(Z0o x).testBit i=x.testBit (ND 8 (ND 16 (ND 32 i))):=by
 have b1:NF 8 71777214294589695 x<2 ^ 64:=Dd (by omega) hx (by decide);have b2:NF 16 281470681808895 (NF 8 71777214294589695 x)<2 ^ 64:=Dd (by omega) b1 (by decide);have vj:(Z0o x).testBit i=(NF 16 281470681808895 (NF 8 71777214294589695 x)).testBit (ND 32 i):=by
  unfold Z0o;generalize NF 16 281470681808895 (NF 8 71777214294589695 x)=y at b2;rw[Nat.testBit_or,Nat.testBit_shiftRight,Nat.testBit_mod_two_pow,Nat.testBit_shiftLeft];unfold ND;by_cases h:i / 32 % 2=0
  .rw[z6 h,w5];have:¬ 32<=i:=by omega
   simp[this]
  .rw[z7 h];have h1:32<=i:=by omega
   have h2:y.testBit (32+i)=false:=Nat.testBit_lt_two_pow (zH b2 (Nat.pow_le_pow_right (by omega) (by omega)));rw[h2];simp[h1,hi]
 have px:ND 32 i<64:=by unfold ND;split<;>omega
 have bR:ND 16 (ND 32 i)<64:=by generalize ND 32 i=j at px;unfold ND;split<;>omega
 rw[vj,O3 (by omega) (by decide) b1 px,O3 (by omega) (by decide) hx bR]
theorem Z4b {x:Nat}(hx:x<2 ^ 64):Z0o x<2 ^ 64:=by unfold Z0o;have b1:NF 8 71777214294589695 x<2 ^ 64:=Dd (by omega) hx (by decide);have b2:NF 16 281470681808895 (NF 8 71777214294589695 x)<2 ^ 64:=Dd (by omega) b1 (by decide);refine Nat.or_lt_two_pow (xh (by rw[zQ];exact Nat.div_le_self _ _) b2) (xT _ (by decide))
theorem Z3l:∀ i,i<64->ND 1 (ND 2 (ND 4 (ND 8 (ND 16 (ND 32 i)))))=63-i:=by decide
theorem J1g {x:Nat}(hx:x<2 ^ 64):Z0o (Z5w x)=Ef 64 x:=by
 refine Nat.eq_of_testBit_eq λi=>?_;have h8:=(Q21 (i:=0) hx (by omega)).2;rw[RV];by_cases hi:i<64
 .rw[Z07 h8 hi];have px:ND 32 i<64:=by unfold ND;split<;>omega
  have bR:ND 16 (ND 32 i)<64:=by generalize ND 32 i=j at px;unfold ND;split<;>omega
  have e8:ND 8 (ND 16 (ND 32 i))<64:=by generalize ND 16 (ND 32 i)=j at bR;unfold ND;split<;>omega
  rw[(Q21 hx e8).1,Z3l i hi];simp[hi]
 .rw[Nat.testBit_lt_two_pow (zH (Z4b h8) (Nat.pow_le_pow_right (by omega) (by omega)))];simp[hi]
theorem Q4y {f n:Nat}(hf:f<=64) (hn:n<2 ^ f):Ef 64 n >>> (64-f)=Ef f n:=by
 refine Nat.eq_of_testBit_eq λi=>?_;rw[Nat.testBit_shiftRight,RV,RV];by_cases hi:i<f
 .rw[x3 hi,x3 (show 64-f+i<64 by omega),Bool.true_and,Bool.true_and];congr 1;omega
 .rw[xl hi,xl (show ¬ 64-f+i<64 by omega)];rfl
theorem Z09 {x:Nat}(hx:x<2 ^ 64):(BitVec.ofInt 64 (x:Int)).toNat=x:=by rw[IU,BitVec.toNat_ofNat,xn hx]
theorem Z43 (x:Nat):IntKind.wrap .u64 (x:Int)=((x % 2 ^ 64:Nat):Int):=by show (x:Int) % 18446744073709551616=_;omega
theorem J3d {a b:Nat}(ha:a<2 ^ 64) (hb:b<2 ^ 64):Qb .and .u64 (a:Int) (b:Int)=((a &&& b:Nat):Int):=by
 have e:(BitVec.ofInt 64 (a:Int) &&& BitVec.ofInt 64 (b:Int)).toNat=a &&& b:=by rw[BitVec.toNat_and,Z09 ha,Z09 hb]
 show IntKind.wrap .u64 ((BitVec.ofInt 64 (a:Int) &&& BitVec.ofInt 64 (b:Int)).toNat:Int)=_;rw[e,Z43,xn (xh Nat.and_le_left ha)]
theorem orU {a b:Nat}(ha:a<2 ^ 64) (hb:b<2 ^ 64):Qb .or .u64 (a:Int) (b:Int)=((a ||| b:Nat):Int):=by
 have e:(BitVec.ofInt 64 (a:Int) ||| BitVec.ofInt 64 (b:Int)).toNat=a ||| b:=by rw[BitVec.toNat_or,Z09 ha,Z09 hb]
 show IntKind.wrap .u64 ((BitVec.ofInt 64 (a:Int) ||| BitVec.ofInt 64 (b:Int)).toNat:Int)=_;rw[e,Z43,xn (Nat.or_lt_two_pow ha hb)]
theorem J1b {x i:Nat}(hi:i<=64):Zz .u64 (x:Int) (i:Int)=((x >>> i:Nat):Int):=by have:Nat.min i 64=i:=xJ hi;simp only[Zz,zd,IntKind.bits,this];rw[zQ,Int.fdiv_eq_ediv_of_nonneg _ (Int.le_of_lt (Int.pow_pos (by omega)))];norm_cast
theorem J2w {x i:Nat}(hi:i<=64):YA .u64 (x:Int) (i:Int)=((x <<< i:Nat):Int):=by have:Nat.min i 64=i:=xJ hi;simp only[YA,zd,IntKind.bits,this,Nat.shiftLeft_eq];norm_cast
theorem Z6b {s m x:Nat}(hs:s=1\/s=2\/s=4\/s=8\/s=16\/s=32) (hx:x<2 ^ 64) (hm:m<2 ^ (64-s)) :
  Qb .or .u64 (Qb .and .u64 (Zz .u64 (x:Int) (s:Int)) (m:Int)) (YA .u64 (Qb .and .u64 (x:Int) (m:Int)) (s:Int))=((NF s m x:Nat):Int)/\InK .u64 (YA .u64 (Qb .and .u64 (x:Int) (m:Int)) (s:Int))/\NF s m x<2 ^ 64:=by
 have om:m<2 ^ 64:=zH hm (Nat.pow_le_pow_right (by omega) (by omega));have bH:x >>> s<2 ^ 64:=xh (by rw[zQ];exact Nat.div_le_self _ _) hx;have hl:(x &&& m) <<< s<2 ^ 64:=by
  have h1:x &&& m<2 ^ (64-s):=xh Nat.and_le_right hm;rw[Nat.shiftLeft_eq];have h2:2 ^ 64=2 ^ (64-s)*2 ^ s:=by rw[<-Nat.pow_add];congr 1;omega
  rw[h2];exact Nat.mul_lt_mul_of_pos_right h1 (Nat.two_pow_pos s)
 rw[J1b (by omega),J3d bH om,J3d hx om,J2w (by omega),orU (xh Nat.and_le_left bH) hl];refine⟨rfl,?_,Dd hs hx hm⟩;rw[D3];generalize (x &&& m) <<< s=z at hl;omega
theorem sw1 {x:Nat}(hx:x<2 ^ 64):Qb .or .u64 (Qb .and .u64 (Zz .u64 (x:Int) 1) 6148914691236517205) (YA .u64 (Qb .and .u64 (x:Int) 6148914691236517205) 1)=((NF 1 6148914691236517205 x:Nat):Int)/\InK .u64 (YA .u64 (Qb .and .u64 (x:Int) 6148914691236517205) 1)/\NF 1 6148914691236517205 x<2 ^ 64:=Z6b (s:=1) (m:=6148914691236517205) (by omega) hx (by decide)
theorem sw2 {x:Nat}(hx:x<2 ^ 64):Qb .or .u64 (Qb .and .u64 (Zz .u64 (x:Int) 2) 3689348814741910323) (YA .u64 (Qb .and .u64 (x:Int) 3689348814741910323) 2)=((NF 2 3689348814741910323 x:Nat):Int)/\InK .u64 (YA .u64 (Qb .and .u64 (x:Int) 3689348814741910323) 2)/\NF 2 3689348814741910323 x<2 ^ 64:=Z6b (s:=2) (m:=3689348814741910323) (by omega) hx (by decide)
theorem sw4 {x:Nat}(hx:x<2 ^ 64):Qb .or .u64 (Qb .and .u64 (Zz .u64 (x:Int) 4) 1085102592571150095) (YA .u64 (Qb .and .u64 (x:Int) 1085102592571150095) 4)=((NF 4 1085102592571150095 x:Nat):Int)/\InK .u64 (YA .u64 (Qb .and .u64 (x:Int) 1085102592571150095) 4)/\NF 4 1085102592571150095 x<2 ^ 64:=Z6b (s:=4) (m:=1085102592571150095) (by omega) hx (by decide)
theorem sw8 {x:Nat}(hx:x<2 ^ 64):Qb .or .u64 (Qb .and .u64 (Zz .u64 (x:Int) 8) 71777214294589695) (YA .u64 (Qb .and .u64 (x:Int) 71777214294589695) 8)=((NF 8 71777214294589695 x:Nat):Int)/\InK .u64 (YA .u64 (Qb .and .u64 (x:Int) 71777214294589695) 8)/\NF 8 71777214294589695 x<2 ^ 64:=Z6b (s:=8) (m:=71777214294589695) (by omega) hx (by decide)
theorem J57 {x:Nat}(hx:x<2 ^ 64):Qb .or .u64 (Qb .and .u64 (Zz .u64 (x:Int) 16) 281470681808895) (YA .u64 (Qb .and .u64 (x:Int) 281470681808895) 16)=((NF 16 281470681808895 x:Nat):Int)/\InK .u64 (YA .u64 (Qb .and .u64 (x:Int) 281470681808895) 16)/\NF 16 281470681808895 x<2 ^ 64:=Z6b (s:=16) (m:=281470681808895) (by omega) hx (by decide)
theorem J52 {x:Nat}(hx:x<2 ^ 64):Qb .or .u64 (Zz .u64 (x:Int) 32) (IntKind.wrap .u64 (YA .u64 (x:Int) 32))=((x >>> 32 ||| (x <<< 32) % 2 ^ 64:Nat):Int):=by have h1:Zz .u64 (x:Int) 32=((x >>> 32:Nat):Int):=J1b (i:=32) (by omega);have h2:YA .u64 (x:Int) 32=((x <<< 32:Nat):Int):=J2w (i:=32) (by omega);rw[h1,h2,Z43,orU (xh (by rw[zQ];exact Nat.div_le_self _ _) hx) (xT _ (by decide))]
abbrev YB:=Int×Int×Bool
def WY:YB:=(0,(0,false))
def Zv (hk:Int) (c:YB):Bool:=inI c.1 (-1) 59&&inI c.2.1 0 (2 ^ hk.toNat-1)
def QJ (hk:Int) (cs:List YB):Int:=if !inI hk 1 24 then 3 else if 60<cs.length then 5 else if cs=[]\/(cs.any λc=>!Zv hk c)=true then 2 else 0
def Z8l (f row:Int):Int:=((Ef f.toNat row.toNat:Nat):Int)
def Dy (hk:Int) (c:YB):Int:=if c.2.2 then Z8l hk c.2.1 else c.2.1
def WR (hk:Int) (rows:List Int):Int:=if !inI hk 1 24 then 2 else if 60<rows.length then 5 else if rows=[] then 7 else if (rows.any λr=>!inI r 0 (2 ^ hk.toNat-1))=true then 2 else 0
def Ro (rows:List Int):List YB:=(List.range rows.length).map λ(i:Nat)=>((i:Int),(rows.getD i 0,false))
def KI (hk:Int) (rows:List Int):Int:=if WR hk rows=0 then hk else 0
def Sc (hk:Int) (rows:List Int):List YB:=if WR hk rows=0 then Ro rows else []
def atK (n a:Int) (st:List Int):Nat->Int
 |0=>a
 |k+1=>Int.tmod (atK n a st k+st.getD k 0) n
def AR (hk:Int) (cs:List YB) (a:Int) (st:List Int) (k:Nat):List Int:=(List.range k).map λi=>Dy hk (cs.getD (atK cs.length a st i).toNat WY)
def Jd (hk:Int) (cs:List YB) (a:Int) (st:List Int):Int:=if QJ hk cs≠0 then QJ hk cs else if !inI a 0 ((cs.length:Int)-1) then 7 else if 60<st.length then 5 else if (st.any λs=>!inI s 0 2)=true then 2 else 0
def Th (hk:Int) (cs:List YB) (a:Int) (st:List Int):List Int:=if Jd hk cs a st=0 then AR hk cs a st st.length else []
def Md (hk:Int) (cs:List YB) (a:Int) (st:List Int):Int:=if Jd hk cs a st=0 then atK cs.length a st st.length else 0
theorem EG {n a b:Int}(h:(!inI n a b)=false):a<=n/\n<=b:=by unfold inI at h;simp at h;omega
theorem J56 {k:Nat}(h:k<=62):YA .i64 1 (k:Int)=((2 ^ k:Nat):Int):=by have:=Z45 (x:=1) (i:=k) (by omega);rw[Nat.shiftLeft_eq,xr] at this;exact this
theorem Q1r (k:Nat):(2:Int) ^ k=((2 ^ k:Nat):Int):=by simp
theorem Z64 {k:Nat}(h:k<=24):0<2 ^ k/\2 ^ k<=16777216:=⟨Nat.two_pow_pos k,Nat.pow_le_pow_right (n:=2) (by omega) h⟩
theorem Q45 {f:Int}{c:YB}(h:Zv f c=true):0<=c.2.1/\c.2.1<2 ^ f.toNat:=by unfold Zv inI at h;simp only[z0,zh] at h;omega
theorem I5 {hk:Int}{cs:List YB}(h1:(!inI hk 1 24)=false) (h2:cs.length<=60) (h3:(!(!cs.isEmpty&&!(cs.any λc=>!Zv hk c)))=true):QJ hk cs=2:=by unfold QJ;rw[z7 (by rw[h1];decide),z7 (by omega),z6];simp only[Bool.not_and,Bool.not_not,zr,List.isEmpty_iff] at h3;exact h3
theorem L9 {hk:Int}{cs:List YB}(h1:(!inI hk 1 24)=false) (h2:cs.length<=60) (h3:(!(!cs.isEmpty&&!(cs.any λc=>!Zv hk c)))=false):QJ hk cs=0/\cs≠[]/\∀ c∈cs,Zv hk c=true:=by
 simp only[Bool.not_and,Bool.not_not,Bool.or_eq_false_iff] at h3;have aG:cs≠[]:=λe=>by rw[e] at h3;cases h3.1
 refine⟨?_,aG,λc hc=>?_⟩
 .unfold QJ;rw[z7 (by rw[h1];decide),z7 (by omega),z7];rintro (h|h)
  .exact aG h
  .rw[h3.2] at h;cases h
 .have:=xU.1 h3.2 c hc;simpa using this
def Z5m (rows:List Int) (k:Nat):List YB:=(List.range k).map λ(i:Nat)=>((i:Int),(rows.getD i 0,false))
theorem Q6s (rows:List Int) (k:Nat):Z5m rows (k+1)=Z5m rows k++[((k:Int),(rows.getD k 0,false))]:=by unfold Z5m;rw[List.range_succ,xS];rfl
theorem Q9j (rows:List Int) (k:Nat):(Z5m rows k).length=k:=by simp[Z5m]
theorem FI {hk:Int}{rows:List Int}{e:Int}(h:WR hk rows=e) (h0:e≠0):(0=KI hk rows/\e=WR hk rows)/\Sc hk rows=[]/\(Sc hk rows).isEmpty=true:=by
 have h1:WR hk rows≠0:=by omega
 have h2:Sc hk rows=[]:=by unfold Sc;rw[z7 h1]
 have h3:KI hk rows=0:=by unfold KI;rw[z7 h1]
 rw[h2,h3];exact⟨⟨rfl,h.symm⟩,rfl,rfl⟩
theorem U_ {hk a:Int}{cs:List YB}{st:List Int}{e:Int}(h:Jd hk cs a st=e) (h0:e≠0):(0=Md hk cs a st/\e=Jd hk cs a st)/\Th hk cs a st=[]/\(Th hk cs a st).isEmpty=true:=by
 have h1:Jd hk cs a st≠0:=by omega
 have h2:Th hk cs a st=[]:=by unfold Th;rw[z7 h1]
 have h3:Md hk cs a st=0:=by unfold Md;rw[z7 h1]
 rw[h2,h3];exact⟨⟨rfl,h.symm⟩,rfl,rfl⟩
theorem Q4h (hk:Int) (cs:List YB) (a:Int) (st:List Int) (k:Nat):AR hk cs a st (k+1)=AR hk cs a st k++[Dy hk (cs.getD (atK cs.length a st k).toNat WY)]:=by unfold AR;rw[List.range_succ,xS];rfl
theorem Oh (hk:Int) (cs:List YB) (a:Int) (st:List Int) (k:Nat):(AR hk cs a st k).length=k:=by simp[AR]
theorem Z3h {n:Nat}{a:Int}{st:List Int}(hn:0<n) (h0:0<=a) (h1:a<n) (hs:∀ s∈st,0<=s):∀ k,0<=atK n a st k/\atK n a st k<n
 |0=>⟨h0,h1⟩
 |k+1=>by
  have ih:=Z3h hn h0 h1 hs k;have hg:0<=st.getD k 0:=by
   rw[zj];cases h:st[k]? with
   |none=>exact Int.le_refl _
   |some x=>exact hs x (xe h)
  simp only[atK];rw[Int.tmod_eq_emod_of_nonneg (by omega)];exact⟨Int.emod_nonneg _ (by omega),Int.emod_lt_of_pos _ (by omega)⟩
theorem LV {hk:Int}{cs:List YB}(h:QJ hk cs=0):(1<=hk/\hk<=24)/\cs.length<=60/\cs≠[]/\∀ c∈cs,Zv hk c=true:=by
 unfold QJ at h;split at h
 .cases h
 .rename_i h1;have h1:(!inI hk 1 24)=false:=by simpa using h1
  split at h
  .cases h
  .split at h
   .cases h
   .rename_i h2 h3;refine⟨EG h1,by omega,λe=>h3 (.inl e),λc hc=>?_⟩;cases aw:Zv hk c with
    |true=>rfl
    |false=>exact(h3 (.inr (xE.2 ⟨c,hc,by rw[aw];rfl⟩))).elim
def Q0n (a b:Int):Int:=if a<b then -1 else if b<a then 1 else 0
def Q9c:XSp:=λ_ _ _ _=>False
theorem Fy {P:Program}{f:Nat}:XOk P f Q9c:=λ_ _ _ _ _ _ _ _ _ _ _ _ _ _ hx _=>hx.elim
def len8T:List UInt8:=[0,1,2,2,3,3,3,3,4,4,4,4,4,4,4,4,5,5,5,5,5,5,5,5,5,5,5,5,5,5,5,5,6,6,6,6,6,6,6,6,6,6,6,6,6,6,6,6,6,6,6,6,6,6,6,6,6,6,6,6,6,6,6,6,7,7,7,7,7,7,7,7,7,7,7,7,7,7,7,7,7,7,7,7,7,7,7,7,7,7,7,7,7,7,7,7,7,7,7,7,7,7,7,7,7,7,7,7,7,7,7,7,7,7,7,7,7,7,7,7,7,7,7,7,7,7,7,7,8,8,8,8,8,8,8,8,8,8,8,8,8,8,8,8,8,8,8,8,8,8,8,8,8,8,8,8,8,8,8,8,8,8,8,8,8,8,8,8,8,8,8,8,8,8,8,8,8,8,8,8,8,8,8,8,8,8,8,8,8,8,8,8,8,8,8,8,8,8,8,8,8,8,8,8,8,8,8,8,8,8,8,8,8,8,8,8,8,8,8,8,8,8,8,8,8,8,8,8,8,8,8,8,8,8,8,8,8,8,8,8,8,8,8,8,8,8,8,8,8,8,8,8,8,8,8,8]
def Ex (x:Int):Int:=((UInt8.toNat (List.getD len8T (Int.toNat x) 0):Nat):Int)
def Q0a {α:Type}[Inhabited α] (lt:α->α->Bool) (a:Nat):Nat->List α->List α
 |0,xs=>xs
 |j+1,xs=>if a<j+1/\lt (xs.getD (j+1) default) (xs.getD j default)=true then Q0a lt a j ((xs.set (j+1) (xs.getD j default)).set j (xs.getD (j+1) default)) else xs
def Q91 {α:Type}[Inhabited α] (lt:α->α->Bool) (a:Nat):Nat->List α->List α
 |0,xs=>xs
 |n+1,xs=>Q0a lt a (a+1+n) (Q91 lt a n xs)
def SL {α:Type}[Inhabited α] (f:α×α->Int) (xs:List α) (a b:Nat):List α:=Q91 (λx y=>decide (f (x,y)<0)) a (b-a-1) xs
section
variable {α:Type}[Inhabited α] {lt:α->α->Bool}
theorem Q7f {xs:List α}{j:Nat}(h:j+1<xs.length):((xs.set (j+1) (xs.getD j default)).set j (xs.getD (j+1) default)).Perm xs:=by rw[Qf (show j<xs.length by omega),Qf h];exact List.set_set_perm h (by omega)
theorem Om {a:Nat}:∀ j {xs:List α},j<xs.length->(Q0a lt a j xs).Perm xs
 |0,_,_=>.refl _
 |j+1,xs,h=>by
  unfold Q0a;split
  .exact(Om j (by simp;omega)).trans (Q7f h)
  .exact .refl _
theorem PU {a:Nat}{xs:List α}:∀ n,a+n<xs.length\/n=0->(Q91 lt a n xs).Perm xs
 |0,_=>.refl _
 |n+1,h=>by have ih:=PU (a:=a) (xs:=xs) n (by omega);unfold Q91;exact(Om _ (by rw[ih.length_eq];omega)).trans ih
theorem LC {f:α×α->Int}{xs:List α}{a b:Nat}(h:b<=xs.length):(SL f xs a b).Perm xs:=PU _ (by omega)
theorem Q6z {a j:Nat}{xs:List α}(hj:a<j) (h:lt (xs.getD j default) (xs.getD (j-1) default)=true):Q0a lt a j xs=Q0a lt a (j-1) ((xs.set j (xs.getD (j-1) default)).set (j-1) (xs.getD j default)):=by obtain⟨k,rfl⟩:∃ k,j=k+1:=⟨j-1,by omega⟩;rw[Nat.add_sub_cancel] at h |-;rw[Q0a,z6 ⟨hj,h⟩]
theorem Q5o {a j:Nat}{xs:List α}(h:¬ (a<j/\lt (xs.getD j default) (xs.getD (j-1) default)=true)):Q0a lt a j xs=xs:=by
 cases j with
 |zero=>rfl
 |succ k=>rw[Nat.add_sub_cancel] at h;rw[Q0a,z7 h]
theorem Q20 {xs:List α}{j q:Nat}(h:j+1<xs.length):((xs.set (j+1) (xs.getD j default)).set j (xs.getD (j+1) default)).getD q default=if q=j then xs.getD (j+1) default else if q=j+1 then xs.getD j default else xs.getD q default:=by
 simp only[zj,xy,zE];by_cases h1:j=q
 .subst h1;rw[z6 rfl,z6 (by omega),z6 rfl];rfl
 .rw[z7 h1,z7 (show ¬ q=j from λe=>h1 e.symm)];by_cases h2:j+1=q
  .subst h2;rw[z6 rfl,z6 h,z6 rfl];rfl
  .rw[z7 h2,z7 (show ¬ q=j+1 from λe=>h2 e.symm)]
def Z1v (lt:α->α->Bool) (i:Nat) (xs:List α):Prop:=∀ p q,p<q->q<=i->lt (xs.getD q default) (xs.getD p default)=false
theorem Ob (has:∀ x y,lt x y=true->lt y x=false) (jF:∀ x y z,lt y x=false->lt z y=false->lt z x=false) {i:Nat}:∀ j {xs:List α},j<=i->i<xs.length->(∀ p q,p<q->q<=i->q≠j->lt (xs.getD q default) (xs.getD p default)=false)->Z1v lt i (Q0a lt 0 j xs)
 |0,xs,_,_,h=>λp q h1 h2=>by rw[Q0a];exact h p q h1 h2 (by omega)
 |j+1,xs,hj,hi,h=>by
  rw[Q0a];split
  .rename_i hc;refine Ob has jF j (by omega) (by simp;exact hi) λp q h1 h2 h3=>?_;rw[Q20 (by omega),Q20 (by omega),z7 h3];by_cases hq:q=j+1
   .rw[z6 hq];by_cases hp:p=j
    .rw[z6 hp];exact has _ _ hc.2
    .rw[z7 hp,z7 (by omega)];exact h p j (by omega) (by omega) (by omega)
   .rw[z7 hq];by_cases hp:p=j
    .rw[z6 hp];exact h (j+1) q (by omega) h2 (by omega)
    .rw[z7 hp];by_cases d_:p=j+1
     .rw[z6 d_];exact h j q (by omega) h2 (by omega)
     .rw[z7 d_];exact h p q h1 h2 (by omega)
  .rename_i hc;have hc:lt (xs.getD (j+1) default) (xs.getD j default)=false:=by
    cases h5:lt (xs.getD (j+1) default) (xs.getD j default) with
    |false=>rfl
    |true=>exact(hc ⟨by omega,h5⟩).elim
   intro p q h1 h2;by_cases hq:q=j+1
   .subst hq;by_cases hp:p=j
    .subst hp;exact hc
    .exact jF _ _ _ (h p j (by omega) (by omega) (by omega)) hc
   .exact h p q h1 h2 hq
theorem Oy (has:∀ x y,lt x y=true->lt y x=false) (jF:∀ x y z,lt y x=false->lt z y=false->lt z x=false) {xs:List α}:∀ n,n<xs.length->Z1v lt n (Q91 lt 0 n xs)
 |0,_=>λp q h1 h2=>by omega
 |n+1,h=>by have ih:=Oy has jF (xs:=xs) n (by omega);have hp:=PU (lt:=lt) (a:=0) (xs:=xs) n (by omega);unfold Q91;rw[show 0+1+n=n+1 by omega];exact Ob has jF (n+1) (z9 _) (by rw[hp.length_eq];omega) λp q h1 h2 h3=>ih p q h1 (by omega)
theorem Q7y {f:α×α->Int}(has:∀ x y,f (x,y)<0->¬ f (y,x)<0) (jF:∀ x y z,¬ f (y,x)<0->¬ f (z,y)<0->¬ f (z,x)<0) (xs:List α):(SL f xs 0 xs.length).Pairwise λx y=>¬ f (y,x)<0:=by
 cases hx:xs with
 |nil=>exact List.Pairwise.nil
 |cons x0 t =>
  have hlen:0<xs.length:=by rw[hx];simp
  rw[<-hx];have h:=Oy (lt:=λx y=>decide (f (x,y)<0)) (λx y h=>by simpa using has x y (by simpa using h)) (λx y z h1 h2=>by simpa using jF x y z (by simpa using h1) (by simpa using h2)) (xs:=xs) (xs.length-0-1) (by omega);have hl:=(LC (f:=f) (a:=0) (z9 xs.length)).length_eq;refine List.pairwise_iff_getElem.2 λp q hp hq vl=>?_;have:=h p q vl (by omega);have cD:(Q91 (λx y=>decide (f (x,y)<0)) 0 (xs.length-0-1) xs).getD q default=(SL f xs 0 xs.length)[q]:=Qf hq;have bE:(Q91 (λx y=>decide (f (x,y)<0)) 0 (xs.length-0-1) xs).getD p default=(SL f xs 0 xs.length)[p]:=Qf hp;rw[cD,bE] at this;simpa using this
end
theorem Z59 {a j:Nat}{α:Type}[Inhabited α] {f:α×α->Int}{ys T:List α}(e:Q0a (λx y=>decide (f (x,y)<0)) a j ys=T) (h:¬ (a<j/\f (ys.getD j default,ys.getD (j-1) default)<0)):ys=T:=by rw[<-e,Q5o];intro hh;exact h ⟨hh.1,by simpa using hh.2⟩
theorem Z0d {a j:Nat}{α:Type}[Inhabited α] {f:α×α->Int}{ys T:List α}(e:Q0a (λx y=>decide (f (x,y)<0)) a j ys=T) (hj:a<j) (h:f (ys.getD j default,ys.getD (j-1) default)<0):Q0a (λx y=>decide (f (x,y)<0)) a (j-1) ((ys.set j (ys.getD (j-1) default)).set (j-1) (ys.getD j default))=T:=by rw[<-e,Q6z hj (by simpa using h)]
theorem nI (n a b:Int):(!inI n a b)=(decide (n<a)||decide (b<n)):=by
 unfold inI;by_cases h1:a<=n<;>by_cases h2:n<=b
 .rw[x3 h1,x3 h2,xl (by omega),xl (by omega)];rfl
 .rw[x3 h1,xl h2,xl (by omega),x3 (by omega)];rfl
 .rw[xl h1,x3 h2,x3 (by omega),xl (by omega)];rfl
 .rw[xl h1,xl h2,x3 (by omega),x3 (by omega)];rfl
end Go.Proofs.Tryz
namespace Go.Proofs.Tryz
open Go Go.V Go.Proofs
def XG:AL (List Int×((Int->Prop)×(Int->Bool))):=(.cons (.k (.list (.i .i64))) (.one (.fn [(.i .i64)] .bo)))
def KY (d:List Int×((Int->Prop)×(Int->Bool))):Prop:=d.1.length<=1000000/\∀ x∈d.1,d.2.1 x
def XA (d:List Int×((Int->Prop)×(Int->Bool))):SV:=.val (.i .i64) (Q8y d.1 d.2.2)
def Xt (d:List Int×((Int->Prop)×(Int->Bool))):List OB:=[]
def Jg:CSp:=Wt XG KY XA Xt
def Zj (l:List Int) (p:(Int->Prop)×(Int->Bool)):Prop :=
 ∃ (e2:Unit) (d20:Int),((l=l/\(SV.pf [(.i .i64)] .bo p.1 p.2=SV.pf [(.i .i64)] .bo p.1 p.2)/\(lI l)=(lI l)/\(0:Int)=d20/\True)/\(True)) /\
 LoopP (λ(d2:Int) (q2:(Int)->Prop) =>
  ((decide (d2<(lI l)))=true ->
   (0<=d2)/\(d2<l.length)/\(p.1 (gD l d2 0))/\((p.2 (gD l d2 0))=true ->
    (d2=(Q8y l p.2)/\(True))) /\
   ((p.2 (gD l d2 0))=false ->
    (I64 (d2+(1:Int)))/\(∃ d3:Int,((l=l/\(SV.pf [(.i .i64)] .bo p.1 p.2=SV.pf [(.i .i64)] .bo p.1 p.2)/\(lI l)=(lI l)/\(d2+(1:Int))=d3/\True)/\(True))/\q2 d3))) /\
  ((decide (d2<(lI l)))=false ->
   ((-1:Int)=(Q8y l p.2)/\(True)))) d20
def XN:Cx:=⟨[],[],19,[],0,[],[],[],[],false,[],[],[],[]⟩
def VH (l:List Int) (p:(Int->Prop)×(Int->Bool)):List (Nat×LoopAnn):=[(0,⟨Unit,Int,[0,1,7,8],λe x=>[.val (.list (.i .i64)) l,.pf [(.i .i64)] .bo p.1 p.2,.val (.i .i64) ((l.length:Nat):Int),.val (.i .i64) x],λe x=>[]⟩)]
theorem VX (d:List Int×((Int->Prop)×(Int->Bool))):gwp (XN) (VH d.1 d.2) J0t 0 (WB [.tmp 4] (XA d) (Xt d)) (Qn 19 (AL.can XG d))=Zj d.1 d.2:=by kernel_rfl
abbrev VS:Prop:=OkC Tryz.prog 125 Jg
theorem VT (h:∀ (l:List Int) (p:(Int->Prop)×(Int->Bool)),(l.length<=1000000/\∀ x∈l,p.1 x)->Zj l p):OkC Tryz.prog 125 Jg :=
 Qr Z1q mixed (C:=XN) (V:=λ(d:List Int×((Int->Prop)×(Int->Bool)))=>Zj d.1 d.2) ⟨.nil,XsOk.nil,ItsOk.nil,YlOk.nil,IysOk.nil,XfOk.nil⟩ (VX) λd hp=>h d.1 d.2 hp
theorem Q74 {l:List Int}{p:Int->Bool}{k:Nat}(hk:k<l.length) (h:p l[k]=true) (hJ:(l.take k).any p=false):Q8y l p=k:=by
 have:l.findIdx? p=some k:=by
  grind [List.findIdx?_eq_some_iff_getElem,List.any_eq_false,List.mem_take_iff_getElem]
 simp[Q8y,this]
theorem Q7q {l:List Int}{p:Int->Bool}(hJ:l.any p=false):Q8y l p=-1:=by
 have:l.findIdx? p=none:=by simp_all
 simp[Q8y,this]
theorem Q1k (l:List Int) (p:Int->Bool):decide (Q8y l p>=0)=l.any p:=by
 unfold Q8y
 grind
theorem U7:VS:=VT λl p hp=>by
 unfold Zj;(try delta lI gD sT I64 Z6 rg rb zD nS);simp only[true_and,and_true,exists_eq_left',exists_const,zh,zz];refine LoopP.count l.length (λk=>(l.take k).any p.2=false) (by simp) λk bp hJ q hq=>?_;simp only[zd,Int.ofNat_lt,Qc];refine⟨λaj=>?_,λbI=>?_⟩
 .grind [Qf,List.getElem_mem,Q74,QV]
 grind [List.take_of_length_le,Q7q]
def X2:AL (List Int×((Int->Prop)×(Int->Bool))):=(.cons (.k (.list (.i .i64))) (.one (.fn [(.i .i64)] .bo)))
def Y_ (d:List Int×((Int->Prop)×(Int->Bool))):Prop:=d.1.length<=1000000/\∀ x∈d.1,d.2.1 x
def JQ (d:List Int×((Int->Prop)×(Int->Bool))):SV:=.val .bo (d.1.any d.2.2)
def JM (d:List Int×((Int->Prop)×(Int->Bool))):List OB:=[]
def QH:CSp:=Wt X2 Y_ JQ JM
def ZD (l:List Int) (p:(Int->Prop)×(Int->Bool)):Prop :=
 (l.length<=1000000/\∀ x∈l,(λ(x1:Int)=>p.1 x1) x)/\((decide ((Q8y l (λ(x1:Int)=>(p.2 x1)))>=(0:Int)))=(l.any p.2)/\(True))
def X3:Cx:=⟨[],[(125,Jg)],9,[],0,[],[],[],[],false,[],[],[],[]⟩
def KH (l:List Int) (p:(Int->Prop)×(Int->Bool)):List (Nat×LoopAnn):=[]
theorem Kt (d:List Int×((Int->Prop)×(Int->Bool))):gwp (X3) (KH d.1 d.2) c89 0 (WB [.tmp 4] (JQ d) (JM d)) (Qn 9 (AL.can X2 d))=ZD d.1 d.2:=by kernel_rfl
abbrev Kq:Prop:=OkC Tryz.prog 89 QH
theorem Kw (h:∀ (l:List Int) (p:(Int->Prop)×(Int->Bool)),(l.length<=1000000/\∀ x∈l,p.1 x)->ZD l p):OkC Tryz.prog 89 QH :=
 Qr Z93 mixed (C:=X3) (V:=λ(d:List Int×((Int->Prop)×(Int->Bool)))=>ZD d.1 d.2) ⟨(.cons U7 .nil),XsOk.nil,ItsOk.nil,YlOk.nil,IysOk.nil,XfOk.nil⟩ (Kt) λd hp=>h d.1 d.2 hp
theorem ZB:Kq:=Kw λl p hp=>by exact⟨hp,Q1k l p.2,trivial⟩
def Nj:AL (Int×Int×Int):=(.cons (.k (.i .i64)) (.cons (.ptr (.one (.k (.i .i64)))) (.one (.ptr (.one (.k (.i .i64)))))))
def HX (d:Int×Int×Int):Prop:=True
def Um (d:Int×Int×Int):SV:=.val .bo (decide (d.1<d.2.1)||decide (d.2.2<d.1))
def Uh (d:Int×Int×Int):List OB:=[]
def KK:CSp:=Wt Nj HX Um Uh
def XY (n:Int) (a:Int) (b:Int):Prop :=
 (((decide (n<a))||(decide (n > b)))=(decide (n<a)||decide (b<n))/\(True))
def Nw:Cx:=⟨[],[],13,[],0,[],[],[],[],false,[],[],[],[]⟩
def Tt (n:Int) (a:Int) (b:Int):List (Nat×LoopAnn):=[]
theorem Tb (d:Int×Int×Int):gwp (Nw) (Tt d.1 d.2.1 d.2.2) J0s 0 (WB [.tmp 4] (Um d) (Uh d)) (Qn 13 (AL.can Nj d))=XY d.1 d.2.1 d.2.2:=by kernel_rfl
abbrev T7:Prop:=OkC Tryz.prog 107 KK
theorem Tn (h:∀ (n:Int) (a:Int) (b:Int),(True)->XY n a b):OkC Tryz.prog 107 KK :=
 Qr Z2n mixed (C:=Nw) (V:=λ(d:Int×Int×Int)=>XY d.1 d.2.1 d.2.2) ⟨.nil,XsOk.nil,ItsOk.nil,YlOk.nil,IysOk.nil,XfOk.nil⟩ (Tb) λd hp=>h d.1 d.2.1 d.2.2 hp
theorem Tm:T7:=Tn λn a b _=>by unfold XY;simp_all
def GZ:AL (Int×Int×List Int):=(.cons (.k (.i .i64)) (.cons (.k (.i .i64)) (.one (.k (.list (.i .i64))))))
def Rk (d:Int×Int×List Int):Prop:=d.2.2.length<=1000000
def MG (d:Int×Int×List Int):SV:=.val .bo (!(d.2.2.any λn=>decide (n<d.1)||decide (d.2.1<n)))
def MJ (d:Int×Int×List Int):List OB:=[]
def Jq:CSp:=Wt GZ Rk MG MJ
def Ya (a:Int) (b:Int) (l:List Int):Prop :=
 (l.length<=1000000/\∀ x∈l,(λ(x1:Int)=>True) x)/\((!(l.any (λ(x1:Int)=>(decide (x1<a)||decide (b<x1)))))=(!(l.any λn=>decide (n<a)||decide (b<n)))/\(True))
def Gp:Cx:=⟨[],[(89,QH),(107,KK)],11,[],0,[],[],[],[],false,[],[],[],[]⟩
def Lk (a:Int) (b:Int) (l:List Int):List (Nat×LoopAnn):=[]
theorem S_ (d:Int×Int×List Int):gwp (Gp) (Lk d.1 d.2.1 d.2.2) c65 0 (WB [.tmp 6] (MG d) (MJ d)) (Qn 11 (AL.can GZ d))=Ya d.1 d.2.1 d.2.2:=by kernel_rfl
abbrev Lm:Prop:=OkC Tryz.prog 65 Jq
theorem LX (h:∀ (a:Int) (b:Int) (l:List Int),(l.length<=1000000)->Ya a b l):OkC Tryz.prog 65 Jq :=
 Qr Z7h mixed (C:=Gp) (V:=λ(d:Int×Int×List Int)=>Ya d.1 d.2.1 d.2.2) ⟨(.cons ZB (.cons Tm .nil)),XsOk.nil,ItsOk.nil,YlOk.nil,IysOk.nil,XfOk.nil⟩ (S_) λd hp=>h d.1 d.2.1 d.2.2 hp
theorem XQ:Lm:=LX λa b l h=>by unfold Ya;simp_all
def YW:AL (Int):=(.one (.k (.i .i64)))
def NO (d:Int):Prop:=True
def Yb (d:Int):SV:=.val .bo (inI d 1 24)
def Yw (d:Int):List OB:=[]
def QA:CSp:=Wt YW NO Yb Yw
def J1 (f:Int):Prop :=
 ([f].length<=1000000)/\((!([f].any λn=>decide (n<(1:Int))||decide ((24:Int)<n)))=(inI f 1 24)/\(True))
def YI:Cx:=⟨[(3,(.i .i64))],[(65,Jq)],6,[],0,[],[],[],[],false,[],[],[],[]⟩
def G3 (f:Int):List (Nat×LoopAnn):=[]
theorem MS (d:Int):gwp (YI) (G3 d) c55 0 (WB [.tmp 2] (Yb d) (Yw d)) (Qn 6 (AL.can YW d))=J1 d:=by kernel_rfl
abbrev Gb:Prop:=OkC Tryz.prog 55 QA
theorem MW (h:∀ (f:Int),(True)->J1 f):OkC Tryz.prog 55 QA :=
 Qr Z7g mixed (C:=YI) (V:=λ(d:Int)=>J1 d) ⟨(.cons XQ .nil),XsOk.nil,ItsOk.nil,YlOk.nil,IysOk.nil,XfOk.nil⟩ (MS) λd hp=>h d hp
theorem QY:Gb:=MW λf _=>by unfold J1;(try delta lI gD sT I64 Z6 rg rb zD nS);have e:∀ n a b:Int,(decide (n<a)||decide (b<n))=!inI n a b:=λn a b=>(nI n a b).symm;simp_all
def YF:AL (Int×List Int):=(.cons (.k (.i .i64)) (.one (.k (.list (.i .i64)))))
def Mp (d:Int×List Int):Prop:=1<=d.1/\d.1<=24/\d.2.length<=1000000
def Yt (d:Int×List Int):SV:=.val .bo (!(d.2.any λn=>!inI n 0 (2 ^ d.1.toNat-1)))
def Y0 (d:Int×List Int):List OB:=[]
def ZE:CSp:=Wt YF Mp Yt Y0
def J3 (f:Int) (l:List Int):Prop :=
 (0<=f)/\(I64 (YA .i64 (1:Int) f))/\(I64 ((YA .i64 (1:Int) f)-(1:Int)))/\(l.length<=1000000)/\((!(l.any λn=>decide (n<(0:Int))||decide (((YA .i64 (1:Int) f)-(1:Int))<n)))=(!(l.any λn=>!inI n 0 (2 ^ f.toNat-1)))/\(True))
def YM:Cx:=⟨[],[(65,Jq)],10,[],0,[],[],[],[],false,[],[],[],[]⟩
def G6 (f:Int) (l:List Int):List (Nat×LoopAnn):=[]
theorem Gh (d:Int×List Int):gwp (YM) (G6 d.1 d.2) c56 0 (WB [.tmp 4] (Yt d) (Y0 d)) (Qn 10 (AL.can YF d))=J3 d.1 d.2:=by kernel_rfl
abbrev G9:Prop:=OkC Tryz.prog 56 ZE
theorem MX (h:∀ (f:Int) (l:List Int),(1<=f/\f<=24/\l.length<=1000000)->J3 f l):OkC Tryz.prog 56 ZE :=
 Qr Z67 mixed (C:=YM) (V:=λ(d:Int×List Int)=>J3 d.1 d.2) ⟨(.cons XQ .nil),XsOk.nil,ItsOk.nil,YlOk.nil,IysOk.nil,XfOk.nil⟩ (Gh) λd hp=>h d.1 d.2 hp
theorem Xm:G9:=MX λf l h=>by
 obtain⟨h1,h2,h3⟩:=h;unfold J3;(try delta lI gD sT I64 Z6 rg rb zD nS);have e:∀ n a b:Int,(decide (n<a)||decide (b<n))=!inI n a b:=λn a b=>(nI n a b).symm;obtain⟨k,rfl⟩:=zJ (show 0<=f by omega);have hs:=J56 (k:=k) (by omega);have hp:=Z64 (k:=k) (by omega)
 grind [Int.toNat_natCast,Q1r,Qc]
def XC:AL (Int):=(.one (.k (.i .u64)))
def V8 (d:Int):Prop:=0<=d/\d<=18446744073709551615
def Xr (d:Int):SV:=.val (.i .u64) ((Z0o d.toNat:Nat):Int)
def Xu (d:Int):List OB:=[]
def Je:CSp:=Wt XC V8 Xr Xu
abbrev RZ (x:Int):=(Qb .or .u64 (Qb .and .u64 (Zz .u64 x (8:Int)) (71777214294589695:Int)) (YA .u64 (Qb .and .u64 x (71777214294589695:Int)) (8:Int)))
abbrev F5 (x:Int):=(Qb .or .u64 (Qb .and .u64 (Zz .u64 (RZ x) (16:Int)) (281470681808895:Int)) (YA .u64 (Qb .and .u64 (RZ x) (281470681808895:Int)) (16:Int)))
def Zi (x:Int):Prop :=
 (0<=(8:Int))/\(0<=(8:Int))/\(InK .u64 (YA .u64 (Qb .and .u64 x (71777214294589695:Int)) (8:Int)))/\(0<=(16:Int))/\(0<=(16:Int))/\(InK .u64 (YA .u64 (Qb .and .u64 (RZ x) (281470681808895:Int)) (16:Int)))/\(0<=(32:Int))/\(0<=(32:Int))/\((Qb .or .u64 (Zz .u64 (F5 x) (32:Int)) (IntKind.wrap .u64 (YA .u64 (F5 x) (32:Int))))=((Z0o x.toNat:Nat):Int)/\(True))
def XE:Cx:=⟨[],[],22,[20],0,[],[],[],[],false,[],[],[],[]⟩
def VF (x:Int):List (Nat×LoopAnn):=[]
theorem U6 (d:Int):gwp (XE) (VF d) J02 0 (WB [.tmp 2] (Xr d) (Xu d)) (Qn 22 (AL.can XC d))=Zi d:=by kernel_rfl
abbrev U3:Prop:=OkC Tryz.prog 161 Je
theorem VC (h:∀ (x:Int),(0<=x/\x<=18446744073709551615)->Zi x):OkC Tryz.prog 161 Je :=
 Qr Z1z mixed (C:=XE) (V:=λ(d:Int)=>Zi d) ⟨.nil,XsOk.nil,ItsOk.nil,YlOk.nil,IysOk.nil,XfOk.nil⟩ (U6) λd hp=>h d hp
theorem Vz:U3:=VC λx h=>by
 obtain⟨h1,h2⟩:=h;unfold Zi;(try delta RZ F5);(try delta lI gD sT I64 Z6 rg rb zD nS);obtain⟨n,rfl⟩:=zJ h1;have hn:n<2 ^ 64:=by omega
 obtain⟨a1,a2,a3⟩:=sw8 hn;obtain⟨b1,b2,b3⟩:=J57 a3;have c1:=J52 b3;simp only[a1,b1,c1,zd];refine⟨by omega,by omega,a2,by omega,by omega,b2,by omega,by omega,?_⟩;exact(by and_intros<;>first|rfl|trivial|simp)
def YN:AL (Int):=(.one (.k (.i .u64)))
def Ma (d:Int):Prop:=0<=d/\d<=18446744073709551615
def W_ (d:Int):SV:=.val (.i .u64) ((Ef 64 d.toNat:Nat):Int)
def Yj (d:Int):List OB:=[]
def XS:CSp:=Wt YN Ma W_ Yj
abbrev Sk (x:Int):=(Qb .or .u64 (Qb .and .u64 (Zz .u64 (Qb .or .u64 (Qb .and .u64 (Zz .u64 x (1:Int)) (6148914691236517205:Int)) (YA .u64 (Qb .and .u64 x (6148914691236517205:Int)) (1:Int))) (2:Int)) (3689348814741910323:Int)) (YA .u64 (Qb .and .u64 (Qb .or .u64 (Qb .and .u64 (Zz .u64 x (1:Int)) (6148914691236517205:Int)) (YA .u64 (Qb .and .u64 x (6148914691236517205:Int)) (1:Int))) (3689348814741910323:Int)) (2:Int)))
abbrev Sm (x:Int):=(Qb .or .u64 (Qb .and .u64 (Zz .u64 (Sk x) (4:Int)) (1085102592571150095:Int)) (YA .u64 (Qb .and .u64 (Sk x) (1085102592571150095:Int)) (4:Int)))
def J7 (x:Int):Prop :=
 (0<=(1:Int))/\(0<=(1:Int))/\(InK .u64 (YA .u64 (Qb .and .u64 x (6148914691236517205:Int)) (1:Int)))/\(0<=(2:Int))/\(0<=(2:Int))/\(InK .u64 (YA .u64 (Qb .and .u64 (Qb .or .u64 (Qb .and .u64 (Zz .u64 x (1:Int)) (6148914691236517205:Int)) (YA .u64 (Qb .and .u64 x (6148914691236517205:Int)) (1:Int))) (3689348814741910323:Int)) (2:Int)))/\(0<=(4:Int))/\(0<=(4:Int))/\(InK .u64 (YA .u64 (Qb .and .u64 (Sk x) (1085102592571150095:Int)) (4:Int)))/\(0<=(Sm x)/\(Sm x)<=18446744073709551615)/\(((Z0o (Sm x).toNat:Nat):Int)=((Ef 64 x.toNat:Nat):Int)/\(True))
def YU:Cx:=⟨[],[(161,Je)],26,[],0,[],[],[],[],false,[],[],[],[]⟩
def G4 (x:Int):List (Nat×LoopAnn):=[]
theorem MY (d:Int):gwp (YU) (G4 d) J2t 0 (WB [.tmp 2] (W_ d) (Yj d)) (Qn 26 (AL.can YN d))=J7 d:=by kernel_rfl
abbrev MQ:Prop:=OkC Tryz.prog 137 XS
theorem M_ (h:∀ (x:Int),(0<=x/\x<=18446744073709551615)->J7 x):OkC Tryz.prog 137 XS :=
 Qr Z20 mixed (C:=YU) (V:=λ(d:Int)=>J7 d) ⟨(.cons Vz .nil),XsOk.nil,ItsOk.nil,YlOk.nil,IysOk.nil,XfOk.nil⟩ (MY) λd hp=>h d hp
theorem Gg:MQ:=M_ λx h=>by
 obtain⟨h1,h2⟩:=h;unfold J7;(try delta Sk Sm);(try delta lI gD sT I64 Z6 rg rb zD nS);obtain⟨n,rfl⟩:=zJ h1;have hn:n<2 ^ 64:=by omega
 obtain⟨a1,a2,a3⟩:=sw1 hn;obtain⟨b1,b2,b3⟩:=sw2 a3;obtain⟨c1,c2,c3⟩:=sw4 b3;have hr:=J1g hn;have he:NF 4 1085102592571150095 (NF 2 3689348814741910323 (NF 1 6148914691236517205 n))=Z5w n:=rfl
 grind
def Kz:AL (Int×Int):=(.cons (.k (.i .i64)) (.one (.k (.i .i64))))
def Ge (d:Int×Int):Prop:=1<=d.1/\d.1<=24/\0<=d.2/\d.2<2 ^ d.1.toNat
def YR (d:Int×Int):SV:=.val (.i .i64) (Z8l d.1 d.2)
def YG (d:Int×Int):List OB:=[]
def Wa:CSp:=Wt Kz Ge YR YG
def Jo (f:Int) (r:Int):Prop :=
 (InK .u64 r)/\(0<=r/\r<=18446744073709551615)/\(InK .u64 f)/\(InK .u64 ((64:Int)-f))/\(0<=((64:Int)-f))/\(I64 (Zz .u64 ((Ef 64 r.toNat:Nat):Int) ((64:Int)-f)))/\((Zz .u64 ((Ef 64 r.toNat:Nat):Int) ((64:Int)-f))=(Z8l f r)/\(True))
def Kr:Cx:=⟨[],[(137,XS)],13,[],0,[],[],[],[],false,[],[],[],[]⟩
def Gn (f:Int) (r:Int):List (Nat×LoopAnn):=[]
theorem Dg (d:Int×Int):gwp (Kr) (Gn d.1 d.2) J1x 0 (WB [.tmp 4] (YR d) (YG d)) (Qn 13 (AL.can Kz d))=Jo d.1 d.2:=by kernel_rfl
abbrev GH:Prop:=OkC Tryz.prog 108 Wa
theorem Df (h:∀ (f:Int) (r:Int),(1<=f/\f<=24/\0<=r/\r<2 ^ f.toNat)->Jo f r):OkC Tryz.prog 108 Wa :=
 Qr Z3f mixed (C:=Kr) (V:=λ(d:Int×Int)=>Jo d.1 d.2) ⟨(.cons Gg .nil),XsOk.nil,ItsOk.nil,YlOk.nil,IysOk.nil,XfOk.nil⟩ (Dg) λd hp=>h d.1 d.2 hp
theorem Dk:GH:=Df λf r h=>by
 obtain⟨h1,h2,h3,h4⟩:=h;unfold Jo;(try delta lI gD sT I64 Z6 rg rb zD nS);obtain⟨k,rfl⟩:=zJ (show 0<=f by omega);obtain⟨n,rfl⟩:=zJ h3;simp only[zd,Q1r] at h4;have hp:=Z64 (k:=k) (by omega);have h4:n<2 ^ k:=by omega
 have hs:Zz .u64 ((Ef 64 n:Nat):Int) (64-(k:Int))=((Ef k n:Nat):Int):=by rw[show (64-(k:Int))=((64-k:Nat):Int) by omega,J1b (by omega),Q4y (by omega) h4]
 have hl:=Q5p k n;simp only[zd,hs];refine⟨by simp only[D3];omega,⟨by omega,by omega⟩,by simp only[D3];omega,by simp only[D3];omega,by omega,by simp only[Qc];omega,?_⟩;exact⟨by unfold Z8l;simp only[zd],trivial⟩
def Wh:AL ((Int×Int×Bool)×Int):=(.cons (.agg (.cons (.k (.i .i64)) (.cons (.k (.i .i64)) (.one (.k .bo))))) (.one (.ptr (.one (.k (.i .i64))))))
def Uc (d:(Int×Int×Bool)×Int):Prop:=1<=d.2/\d.2<=24
def W8 (d:(Int×Int×Bool)×Int):SV:=.val .bo (!Zv d.2 (d.1.1,(d.1.2.1,d.1.2.2)))
def W7 (d:(Int×Int×Bool)×Int):List OB:=[]
def JL:CSp:=Wt Wh Uc W8 W7
def Zx (cn:Int) (cr:Int) (ct:Bool) (f:Int):Prop :=
 ([cn].length<=1000000)/\((!(!([cn].any λn=>decide (n<(-1:Int))||decide ((59:Int)<n))))=false->True)/\((!(!([cn].any λn=>decide (n<(-1:Int))||decide ((59:Int)<n))))=false->1<=f/\f<=24/\[cr].length<=1000000)/\(((!(!([cn].any λn=>decide (n<(-1:Int))||decide ((59:Int)<n))))||(!(!([cr].any λn=>!inI n 0 (2 ^ f.toNat-1)))))=(!Zv f (cn,(cr,ct)))/\(True))
def Wl:Cx:=⟨[(3,(.i .i64))],[(65,Jq),(56,ZE)],17,[],0,[],[],[],[],false,[],[],[],[]⟩
def US (cn:Int) (cr:Int) (ct:Bool) (f:Int):List (Nat×LoopAnn):=[]
theorem UG (d:(Int×Int×Bool)×Int):gwp (Wl) (US d.1.1 d.1.2.1 d.1.2.2 d.2) Z9w 0 (WB [.tmp 3] (W8 d) (W7 d)) (Qn 17 (AL.can Wh d))=Zx d.1.1 d.1.2.1 d.1.2.2 d.2:=by kernel_rfl
abbrev UM:Prop:=OkC Tryz.prog 135 JL
theorem UO (h:∀ (cn:Int) (cr:Int) (ct:Bool) (f:Int),(1<=f/\f<=24)->Zx cn cr ct f):OkC Tryz.prog 135 JL :=
 Qr Z2i mixed (C:=Wl) (V:=λ(d:(Int×Int×Bool)×Int)=>Zx d.1.1 d.1.2.1 d.1.2.2 d.2) ⟨(.cons XQ (.cons Xm .nil)),XsOk.nil,ItsOk.nil,YlOk.nil,IysOk.nil,XfOk.nil⟩ (UG) λd hp=>h d.1.1 d.1.2.1 d.1.2.2 d.2 hp
theorem UF:UM:=UO λcn cr ct f h=>by obtain⟨h1,h2⟩:=h;unfold Zx;(try delta lI gD sT I64 Z6 rg rb zD nS);have e:∀ n a b:Int,(decide (n<a)||decide (b<n))=!inI n a b:=λn a b=>(nI n a b).symm;simp only[List.any_cons,List.any_nil,y8,e,Bool.not_not,zV,List.length_nil];refine⟨by omega,λ_=>trivial,λ_=>⟨h1,h2,by omega⟩,?_⟩;unfold Zv;simp_all
def Z0:AL ((List (Int×Int×Bool))×((Int×Int×Bool->Prop)×(Int×Int×Bool->Bool))):=(.cons (.k (.list (.pair (.i .i64) (.pair (.i .i64) .bo)))) (.one (.fn [(.pair (.i .i64) (.pair (.i .i64) .bo))] .bo)))
def Jj (d:(List (Int×Int×Bool))×((Int×Int×Bool->Prop)×(Int×Int×Bool->Bool))):Prop:=d.1.length<=1000000/\∀ x∈d.1,d.2.1 x
def QU (d:(List (Int×Int×Bool))×((Int×Int×Bool->Prop)×(Int×Int×Bool->Bool))):SV:=.val (.i .i64) (Q0o d.1 d.2.2)
def QT (d:(List (Int×Int×Bool))×((Int×Int×Bool->Prop)×(Int×Int×Bool->Bool))):List OB:=[]
def Qv:CSp:=Wt Z0 Jj QU QT
def Qg (l:List (Int×Int×Bool)) (p:(Int×Int×Bool->Prop)×(Int×Int×Bool->Bool)):Prop :=
 ∃ (e2:Unit) (d20:Int),((l=l/\(SV.pf [(.pair (.i .i64) (.pair (.i .i64) .bo))] .bo p.1 p.2=SV.pf [(.pair (.i .i64) (.pair (.i .i64) .bo))] .bo p.1 p.2)/\(lI l)=(lI l)/\(0:Int)=d20/\True)/\(True)) /\
 LoopP (λ(d2:Int) (q2:(Int)->Prop) =>
  ((decide (d2<(lI l)))=true ->
   (0<=d2)/\(d2<l.length)/\(p.1 ((gD l d2 (0,(0,false))).1,((gD l d2 (0,(0,false))).2.1,(gD l d2 (0,(0,false))).2.2)))/\((p.2 ((gD l d2 (0,(0,false))).1,((gD l d2 (0,(0,false))).2.1,(gD l d2 (0,(0,false))).2.2)))=true ->
    (d2=(Q0o l p.2)/\(True))) /\
   ((p.2 ((gD l d2 (0,(0,false))).1,((gD l d2 (0,(0,false))).2.1,(gD l d2 (0,(0,false))).2.2)))=false ->
    (I64 (d2+(1:Int)))/\(∃ d3:Int,((l=l/\(SV.pf [(.pair (.i .i64) (.pair (.i .i64) .bo))] .bo p.1 p.2=SV.pf [(.pair (.i .i64) (.pair (.i .i64) .bo))] .bo p.1 p.2)/\(lI l)=(lI l)/\(d2+(1:Int))=d3/\True)/\(True))/\q2 d3))) /\
  ((decide (d2<(lI l)))=false ->
   ((-1:Int)=(Q0o l p.2)/\(True)))) d20
def Q_:Cx:=⟨[],[],19,[],0,[],[],[],[],false,[],[],[],[]⟩
def Jr (l:List (Int×Int×Bool)) (p:(Int×Int×Bool->Prop)×(Int×Int×Bool->Bool)):List (Nat×LoopAnn):=[(0,⟨Unit,Int,[0,1,7,8],λe x=>[.val (.list (.pair (.i .i64) (.pair (.i .i64) .bo))) l,.pf [(.pair (.i .i64) (.pair (.i .i64) .bo))] .bo p.1 p.2,.val (.i .i64) ((l.length:Nat):Int),.val (.i .i64) x],λe x=>[]⟩)]
theorem Jy (d:(List (Int×Int×Bool))×((Int×Int×Bool->Prop)×(Int×Int×Bool->Bool))):gwp (Q_) (Jr d.1 d.2) J2u 0 (WB [.tmp 4] (QU d) (QT d)) (Qn 19 (AL.can Z0 d))=Qg d.1 d.2:=by kernel_rfl
abbrev Ju:Prop:=OkC Tryz.prog 160 Qv
theorem Jx (h:∀ (l:List (Int×Int×Bool)) (p:(Int×Int×Bool->Prop)×(Int×Int×Bool->Bool)),(l.length<=1000000/\∀ x∈l,p.1 x)->Qg l p):OkC Tryz.prog 160 Qv :=
 Qr Z2r mixed (C:=Q_) (V:=λ(d:(List (Int×Int×Bool))×((Int×Int×Bool->Prop)×(Int×Int×Bool->Bool)))=>Qg d.1 d.2) ⟨.nil,XsOk.nil,ItsOk.nil,YlOk.nil,IysOk.nil,XfOk.nil⟩ (Jy) λd hp=>h d.1 d.2 hp
theorem Js:Ju:=Jx λl p hp=>by
 unfold Qg;(try delta lI gD sT I64 Z6 rg rb zD nS);simp only[true_and,and_true,exists_eq_left',exists_const,zh,zz];refine LoopP.count l.length (λk=>(l.take k).any p.2=false) (by simp) λk bp hJ q hq=>?_;simp only[zd,Int.ofNat_lt,Qc];refine⟨λaj=>?_,λbI=>?_⟩
 .grind [Qf,List.getElem_mem,Q04,QV]
 grind [List.take_of_length_le,Cq]
def QP:AL ((List (Int×Int×Bool))×((Int×Int×Bool->Prop)×(Int×Int×Bool->Bool))):=(.cons (.k (.list (.pair (.i .i64) (.pair (.i .i64) .bo)))) (.one (.fn [(.pair (.i .i64) (.pair (.i .i64) .bo))] .bo)))
def ZY (d:(List (Int×Int×Bool))×((Int×Int×Bool->Prop)×(Int×Int×Bool->Bool))):Prop:=d.1.length<=1000000/\∀ x∈d.1,d.2.1 x
def QO (d:(List (Int×Int×Bool))×((Int×Int×Bool->Prop)×(Int×Int×Bool->Bool))):SV:=.val .bo (d.1.any d.2.2)
def QN (d:(List (Int×Int×Bool))×((Int×Int×Bool->Prop)×(Int×Int×Bool->Bool))):List OB:=[]
def Qp:CSp:=Wt QP ZY QO QN
def Qd (l:List (Int×Int×Bool)) (p:(Int×Int×Bool->Prop)×(Int×Int×Bool->Bool)):Prop :=
 (l.length<=1000000/\∀ x∈l,(λ(x1:Int×Int×Bool)=>p.1 (x1.1,(x1.2.1,x1.2.2))) x)/\((decide ((Q0o l (λ(x1:Int×Int×Bool)=>(p.2 (x1.1,(x1.2.1,x1.2.2)))))>=(0:Int)))=(l.any p.2)/\(True))
def QQ:Cx:=⟨[],[(160,Qv)],9,[],0,[],[],[],[],false,[],[],[],[]⟩
def J9 (l:List (Int×Int×Bool)) (p:(Int×Int×Bool->Prop)×(Int×Int×Bool->Bool)):List (Nat×LoopAnn):=[]
theorem Jc (d:(List (Int×Int×Bool))×((Int×Int×Bool->Prop)×(Int×Int×Bool->Bool))):gwp (QQ) (J9 d.1 d.2) J2p 0 (WB [.tmp 4] (QO d) (QN d)) (Qn 9 (AL.can QP d))=Qd d.1 d.2:=by kernel_rfl
abbrev Ja:Prop:=OkC Tryz.prog 136 Qp
theorem J8 (h:∀ (l:List (Int×Int×Bool)) (p:(Int×Int×Bool->Prop)×(Int×Int×Bool->Bool)),(l.length<=1000000/\∀ x∈l,p.1 x)->Qd l p):OkC Tryz.prog 136 Qp :=
 Qr Z37 mixed (C:=QQ) (V:=λ(d:(List (Int×Int×Bool))×((Int×Int×Bool->Prop)×(Int×Int×Bool->Bool)))=>Qd d.1 d.2) ⟨(.cons Js .nil),XsOk.nil,ItsOk.nil,YlOk.nil,IysOk.nil,XfOk.nil⟩ (Jc) λd hp=>h d.1 d.2 hp
theorem Jb:Ja:=J8 λl p hp=>by simp only[Qd];exact⟨hp,Q2g l p.2,trivial⟩
def Yp:AL (Int×List (Int×Int×Bool)):=(.cons (.k (.i .i64)) (.one (.k (.list (.pair (.i .i64) (.pair (.i .i64) .bo))))))
def Nv (d:Int×List (Int×Int×Bool)):Prop:=1<=d.1/\d.1<=24/\d.2.length<=1000000
def WE (d:Int×List (Int×Int×Bool)):SV:=.val .bo (!d.2.isEmpty&&!(d.2.any λc=>!Zv d.1 c))
def WL (d:Int×List (Int×Int×Bool)):List OB:=[]
def QK:CSp:=Wt Yp Nv WE WL
def ZS (f:Int) (cs:List (Int×Int×Bool)):Prop :=
 ((decide ((lI cs) > (0:Int)))=true->cs.length<=1000000/\∀ x∈cs,(λ(x1:Int×Int×Bool)=>1<=f/\f<=24) x)/\(((decide ((lI cs) > (0:Int)))&&(!(cs.any (λ(x1:Int×Int×Bool)=>(!Zv f (x1.1,(x1.2.1,x1.2.2)))))))=(!cs.isEmpty&&!(cs.any λc=>!Zv f c))/\(True))
def Yh:Cx:=⟨[],[(136,Qp),(135,JL)],16,[],0,[],[],[],[],false,[],[],[],[]⟩
def NV (f:Int) (cs:List (Int×Int×Bool)):List (Nat×LoopAnn):=[]
theorem N_ (d:Int×List (Int×Int×Bool)):gwp (Yh) (NV d.1 d.2) J27 0 (WB [.tmp 4] (WE d) (WL d)) (Qn 16 (AL.can Yp d))=ZS d.1 d.2:=by kernel_rfl
abbrev Mm:Prop:=OkC Tryz.prog 106 QK
theorem Mb (h:∀ (f:Int) (cs:List (Int×Int×Bool)),(1<=f/\f<=24/\cs.length<=1000000)->ZS f cs):OkC Tryz.prog 106 QK :=
 Qr Z28 mixed (C:=Yh) (V:=λ(d:Int×List (Int×Int×Bool))=>ZS d.1 d.2) ⟨(.cons Jb (.cons UF .nil)),XsOk.nil,ItsOk.nil,YlOk.nil,IysOk.nil,XfOk.nil⟩ (N_) λd hp=>h d.1 d.2 hp
theorem Zk:Mm:=Mb λf cs h=>by
 obtain⟨h1,h2,h3⟩:=h;unfold ZS;(try delta lI gD sT I64 Z6 rg rb zD nS);refine⟨(by simp_all),?_⟩;have:decide ((cs.length:Int) > 0)=!cs.isEmpty:=by cases cs<;>simp
 simp_all
def H_:Cx:=⟨[],[(55,QA),(106,QK)],30,[],0,[],[],[],[],false,[],[],[],[]⟩
def KD:XSp:=Q5i H_ (λ_=>[]) c64 [.cell 2 true 3,.tmp 3] 30
theorem Kf:XOk Tryz.prog 64 KD:=U4 Z9b mixed (C:=H_) ⟨(.cons QY (.cons Zk .nil)),XsOk.nil,ItsOk.nil,YlOk.nil,IysOk.nil,XfOk.nil⟩ _
def BK:AL (Int×List Int):=(.one (.agg (.cons (.k (.i .i64)) (.one (.k (.list (.i .i64)))))))
def L0 (d:Int×List Int):Prop:=d.2.length<=1000
def DD (d:Int×List Int):SV:=.tup [.agg [.val (.i .i64) (KI d.1 d.2),.lst 0],.val (.i .i64) (WR d.1 d.2)]
def Gr (d:Int×List Int):List OB:=[.lst 129 (.pair (.i .i64) (.pair (.i .i64) .bo)) (Sc d.1 d.2) ((Sc d.1 d.2).isEmpty)]
def Ml:CSp:=Wt BK L0 DD Gr
abbrev FY (hk:Int) (rows:List Int):=((((0:Int)=(KI hk rows)/\True/\nS)/\(2:Int)=(WR hk rows)/\nS)/\(((Sc hk rows)=[]/\(Sc hk rows).isEmpty=true)/\True))
def Ke (hk:Int) (rows:List Int):Prop :=
 (True)/\((!(inI hk 1 24))=true ->
  (FY hk rows)) /\
 ((!(inI hk 1 24))=false ->
  ((decide ((lI rows) > (60:Int)))=true ->
   ((((0:Int)=(KI hk rows)/\True/\nS)/\(5:Int)=(WR hk rows)/\nS)/\(((Sc hk rows)=[]/\(Sc hk rows).isEmpty=true)/\True))) /\
  ((decide ((lI rows) > (60:Int)))=false ->
   (((lI rows)==(0:Int))=true ->
    ((((0:Int)=(KI hk rows)/\True/\nS)/\(7:Int)=(WR hk rows)/\nS)/\(((Sc hk rows)=[]/\(Sc hk rows).isEmpty=true)/\True))) /\
   (((lI rows)==(0:Int))=false ->
    (1<=hk/\hk<=24/\rows.length<=1000000)/\((!(!(rows.any λn=>!inI n 0 (2 ^ hk.toNat-1))))=true ->
     (FY hk rows)) /\
    ((!(!(rows.any λn=>!inI n 0 (2 ^ hk.toNat-1))))=false ->
     ∃ (e4:Unit) (d40:(List (Int×Int×Bool))×Int),((True/\rows=rows/\(lI rows)=(lI rows)/\(0:Int)=d40.2/\True)/\((hk=hk/\True/\nS)/\(d40.1=[]/\d40.1.isEmpty=true)/\True)) /\
     LoopP (λ(d4:(List (Int×Int×Bool))×Int) (q4:((List (Int×Int×Bool))×Int)->Prop) =>
      ((decide (d4.2<(lI rows)))=true ->
       (0<=d4.2)/\(d4.2<rows.length)/\((d4.1.length+(List.length [(d4.2,((gD rows d4.2 0),false))]))*24<=70368744177664)/\(I64 (d4.2+(1:Int)))/\(∃ d5:(List (Int×Int×Bool))×Int,((True/\rows=rows/\(lI rows)=(lI rows)/\(d4.2+(1:Int))=d5.2/\True)/\((hk=hk/\True/\nS)/\((d4.1++[(d4.2,((gD rows d4.2 0),false))])=d5.1/\false=d5.1.isEmpty)/\True))/\q4 d5)) /\
      ((decide (d4.2<(lI rows)))=false ->
       (((hk=(KI hk rows)/\True/\nS)/\(0:Int)=(WR hk rows)/\nS)/\((d4.1=(Sc hk rows)/\d4.1.isEmpty=(Sc hk rows).isEmpty)/\True)))) d40))))
def BS:Cx:=⟨[(129,(.pair (.i .i64) (.pair (.i .i64) .bo)))],[(55,QA),(56,ZE)],54,[],0,[],[],[],[],false,[],[],[],[]⟩
def CO (hk:Int) (rows:List Int):List (Nat×LoopAnn):=[(1,⟨Unit,(List (Int×Int×Bool))×Int,[2,37,38,39],λe x=>[.box 2 0,.val (.list (.i .i64)) rows,.val (.i .i64) ((rows.length:Nat):Int),.val (.i .i64) x.2],λe x=>[(2,.slot 2,.cells [.val (.i .i64) hk,.lst 50] (some 66)),(50,.cell 2 1,.lst 129 (.pair (.i .i64) (.pair (.i .i64) .bo)) x.1 (List.isEmpty x.1))]⟩)]
theorem AO (d:Int×List Int):gwp (BS) (CO d.1 d.2) c22 0 (WB [.cell 2 true 2,.tmp 3] (DD d) (Gr d)) (Qn 54 (AL.can BK d))=Ke d.1 d.2:=by kernel_rfl
abbrev As:Prop:=OkC Tryz.prog 22 Ml
theorem CZ (h:∀ (hk:Int) (rows:List Int),(rows.length<=1000)->Ke hk rows):OkC Tryz.prog 22 Ml :=
 Qr Z9e mixed (C:=BS) (V:=λ(d:Int×List Int)=>Ke d.1 d.2) ⟨(.cons QY (.cons Xm .nil)),XsOk.nil,ItsOk.nil,YlOk.nil,IysOk.nil,XfOk.nil⟩ (AO) λd hp=>h d.1 d.2 hp
theorem Cw:As:=CZ λhk rows h=>by
 unfold Ke;(try delta FY);(try delta lI gD sT I64 Z6 rg rb zD nS);simp only[true_and,and_true,Bool.not_not];refine⟨λc=>?_,λc=>⟨λc2=>?_,λc2=>⟨λc3=>?_,λc3=>⟨?_,λc4=>?_,λc4=>?_⟩⟩⟩⟩
 .exact FI (by unfold WR;rw[z6 c]) (by omega)
 .have c2:=zu c2;exact FI (by unfold WR;grind) (by omega)
 .have c2:=zC c2;have c3:rows=[]:=(by simp_all);exact FI (by unfold WR;simp_all) (by omega)
 .have c:=EG c;exact⟨c.1,c.2,by omega⟩
 .have c2:=zC c2;have c3:rows≠[]:=λe=>by rw[e] at c3;cases c3
  exact FI (by unfold WR;grind) (by omega)
 .have c2:=zC c2;have c3:rows≠[]:=λe=>by rw[e] at c3;cases c3
  have e0:WR hk rows=0:=by unfold WR;grind
  have e1:KI hk rows=hk:=by unfold KI;rw[z6 e0]
  have e2:Sc hk rows=Ro rows:=by unfold Sc;rw[z6 e0]
  rw[e0,e1,e2];refine⟨(),([],0),(by and_intros<;>first|rfl|trivial),?_⟩;refine LoopP.count2 rows.length (λk l=>l=Z5m rows k) rfl ?_;rintro k l hk hJ q hq;subst hJ;dsimp only;simp only[zd];refine⟨λg=>?_,λg=>?_⟩
  .have g:k<rows.length:=by have:=zu g;omega
   grind [Q9j,List.length_cons,List.length_nil,Qc,Q6s]
  .have g:k=rows.length:=by have:=zC g;omega
   subst g;exact(by and_intros<;>first|rfl|trivial|simp)
def Vx:AL ((Int×(List (Int×Int×Bool))×Int)×Int):=(.cons (.agg (.cons (.k (.i .i64)) (.cons (.k (.list (.pair (.i .i64) (.pair (.i .i64) .bo)))) (.one (.k (.i .i64)))))) (.one (.k (.i .i64))))
def Bh (d:(Int×(List (Int×Int×Bool))×Int)×Int):Prop:=1<=d.1.2.2/\d.1.2.2<=24/\0<=d.2/\d.2<d.1.2.1.length/\∀ c∈d.1.2.1,Zv d.1.2.2 c=true
def KU (d:(Int×(List (Int×Int×Bool))×Int)×Int):SV:=.val (.i .i64) (Dy d.1.2.2 (d.1.2.1.getD d.2.toNat WY))
def KX (d:(Int×(List (Int×Int×Bool))×Int)×Int):List OB:=[]
def XB:CSp:=Wt Vx Bh KU KX
def X7 (hk:Int) (cs:List (Int×Int×Bool)) (f:Int) (at_:Int):Prop :=
 (0<=at_)/\(at_<cs.length)/\((gD cs at_ (0,(0,false))).2.2=true ->
  (1<=f/\f<=24/\0<=((gD cs at_ (0,(0,false))).2.1)/\((gD cs at_ (0,(0,false))).2.1)<2 ^ f.toNat)/\((Z8l f ((gD cs at_ (0,(0,false))).2.1))=(Dy f (cs.getD at_.toNat WY))/\(True))) /\
 ((gD cs at_ (0,(0,false))).2.2=false ->
  (0<=at_)/\(at_<cs.length)/\((gD cs at_ (0,(0,false))).2.1=(Dy f (cs.getD at_.toNat WY))/\(True)))
def VQ:Cx:=⟨[],[(108,Wa)],26,[],0,[],[],[],[],false,[],[],[],[]⟩
def HB (hk:Int) (cs:List (Int×Int×Bool)) (f:Int) (at_:Int):List (Nat×LoopAnn):=[]
theorem Hx (d:(Int×(List (Int×Int×Bool))×Int)×Int):gwp (VQ) (HB d.1.1 d.1.2.1 d.1.2.2 d.2) c66 0 (WB [.tmp 4] (KU d) (KX d)) (Qn 26 (AL.can Vx d))=X7 d.1.1 d.1.2.1 d.1.2.2 d.2:=by kernel_rfl
abbrev Hf:Prop:=OkC Tryz.prog 66 XB
theorem Hn (h:∀ (hk:Int) (cs:List (Int×Int×Bool)) (f:Int) (at_:Int),(1<=f/\f<=24/\0<=at_/\at_<cs.length/\∀ c∈cs,Zv f c=true)->X7 hk cs f at_):OkC Tryz.prog 66 XB :=
 Qr Z6g mixed (C:=VQ) (V:=λ(d:(Int×(List (Int×Int×Bool))×Int)×Int)=>X7 d.1.1 d.1.2.1 d.1.2.2 d.2) ⟨(.cons Dk .nil),XsOk.nil,ItsOk.nil,YlOk.nil,IysOk.nil,XfOk.nil⟩ (Hx) λd hp=>h d.1.1 d.1.2.1 d.1.2.2 d.2 hp
theorem Vs:Hf:=Hn λhk cs f at_ h=>by
 obtain⟨h1,h2,h3,h4,h5⟩:=h;unfold X7;(try delta lI gD sT I64 Z6 rg rb zD nS);have hd:∀ j,cs.getD j (0,(0,false))=cs.getD j WY:=λ_=>rfl;have hj:at_.toNat<cs.length:=by omega
 have hc:=Q45 (h5 _ (show cs.getD at_.toNat WY∈cs by rw[Qf hj];exact zl hj));simp only[hd,and_true];refine⟨h3,by omega,λc=>⟨⟨h1,h2,hc.1,hc.2⟩,?_⟩,λc=>⟨h3,by omega,?_⟩⟩
 .unfold Dy;rw[z6 c]
 .unfold Dy;rw[z7 (by rw[c];decide)]
def VJ:AL ((Int×(List (Int×Int×Bool))×Int)×Int×Int):=(.cons (.agg (.cons (.k (.i .i64)) (.cons (.k (.list (.pair (.i .i64) (.pair (.i .i64) .bo)))) (.one (.k (.i .i64)))))) (.cons (.k (.i .i64)) (.one (.k (.i .i64)))))
def Bi (d:(Int×(List (Int×Int×Bool))×Int)×Int×Int):Prop:=d.1.2.1≠[]/\d.1.2.1.length<=1000/\-1000000<=d.2.1/\d.2.1<=1000000/\-1000000<=d.2.2/\d.2.2<=1000000
def KL (d:(Int×(List (Int×Int×Bool))×Int)×Int×Int):SV:=.val (.i .i64) (Int.tmod (d.2.1+d.2.2) d.1.2.1.length)
def KS (d:(Int×(List (Int×Int×Bool))×Int)×Int×Int):List OB:=[]
def Ji:CSp:=Wt VJ Bi KL KS
def X8 (hk:Int) (cs:List (Int×Int×Bool)) (f:Int) (at_:Int) (st:Int):Prop :=
 (I64 (at_+st))/\((lI cs)≠0)/\((Int.tmod (at_+st) (lI cs))=(Int.tmod (at_+st) cs.length)/\(True))
def U5:Cx:=⟨[],[],15,[],0,[],[],[],[],false,[],[],[],[]⟩
def Ht (hk:Int) (cs:List (Int×Int×Bool)) (f:Int) (at_:Int) (st:Int):List (Nat×LoopAnn):=[]
theorem Hr (d:(Int×(List (Int×Int×Bool))×Int)×Int×Int):gwp (U5) (Ht d.1.1 d.1.2.1 d.1.2.2 d.2.1 d.2.2) c67 0 (WB [.tmp 6] (KL d) (KS d)) (Qn 15 (AL.can VJ d))=X8 d.1.1 d.1.2.1 d.1.2.2 d.2.1 d.2.2:=by kernel_rfl
abbrev HF:Prop:=OkC Tryz.prog 67 Ji
theorem Hc (h:∀ (hk:Int) (cs:List (Int×Int×Bool)) (f:Int) (at_:Int) (st:Int),(cs≠[]/\cs.length<=1000/\-1000000<=at_/\at_<=1000000/\-1000000<=st/\st<=1000000)->X8 hk cs f at_ st):OkC Tryz.prog 67 Ji :=
 Qr Z7e mixed (C:=U5) (V:=λ(d:(Int×(List (Int×Int×Bool))×Int)×Int×Int)=>X8 d.1.1 d.1.2.1 d.1.2.2 d.2.1 d.2.2) ⟨.nil,XsOk.nil,ItsOk.nil,YlOk.nil,IysOk.nil,XfOk.nil⟩ (Hr) λd hp=>h d.1.1 d.1.2.1 d.1.2.2 d.2.1 d.2.2 hp
theorem Wy:HF:=Hc λhk cs f at_ st h=>by obtain⟨h1,h2,h3,h4,h5,h6⟩:=h;unfold X8;(try delta lI gD sT I64 Z6 rg rb zD nS);have:=zW.2 h1;exact⟨by simp only[Qc];omega,by omega,rfl,trivial⟩
def Br:AL ((Int×List (Int×Int×Bool))×Int×List Int):=(.cons (.agg (.cons (.k (.i .i64)) (.one (.k (.list (.pair (.i .i64) (.pair (.i .i64) .bo))))))) (.cons (.k (.i .i64)) (.one (.k (.list (.i .i64))))))
def SY (d:(Int×List (Int×Int×Bool))×Int×List Int):Prop:=d.1.2.length<=1000/\d.2.2.length<=1000
def GN (d:(Int×List (Int×Int×Bool))×Int×List Int):SV:=.tup [.lst 0,.val (.i .i64) (Md d.1.1 d.1.2 d.2.1 d.2.2),.val (.i .i64) (Jd d.1.1 d.1.2 d.2.1 d.2.2)]
def GK (d:(Int×List (Int×Int×Bool))×Int×List Int):List OB:=[.lst 3 (.i .i64) (Th d.1.1 d.1.2 d.2.1 d.2.2) ((Th d.1.1 d.1.2 d.2.1 d.2.2).isEmpty)]
def V6:CSp:=Wt Br SY GN GK
abbrev Bb (hk:Int) (cs:List (Int×Int×Bool)) (a:Int) (st:List Int):=(((Th hk cs a st)=[]/\(Th hk cs a st).isEmpty=true)/\True)
abbrev V5 (cs:List (Int×Int×Bool)) (a:Int):=(!(!([a].any λn=>decide (n<(0:Int))||decide (((lI cs)-(1:Int))<n))))
abbrev V0 (st:List Int):=(!(!(st.any λn=>decide (n<(0:Int))||decide ((2:Int)<n))))
abbrev DL (hk:Int) (cs:List (Int×Int×Bool)) (a:Int) (st:List Int):=((True/\(0:Int)=(Md hk cs a st)/\(5:Int)=(Jd hk cs a st)/\nS)/\(Bb hk cs a st))
abbrev DT (hk:Int) (cs:List (Int×Int×Bool)) (a:Int) (st:List Int):=((True/\(0:Int)=(Md hk cs a st)/\(2:Int)=(Jd hk cs a st)/\nS)/\(Bb hk cs a st))
abbrev Pk (hk:Int) (cs:List (Int×Int×Bool)) (a:Int) (st:List Int):=((True/\(0:Int)=(Md hk cs a st)/\(7:Int)=(Jd hk cs a st)/\nS)/\(Bb hk cs a st))
abbrev V9 (hk:Int) (cs:List (Int×Int×Bool)):=(hk=hk/\cs=cs/\hk=hk/\nS)
abbrev V3 (st:List Int):=(decide ((lI st) > (60:Int)))
def Kn (hk:Int) (cs:List (Int×Int×Bool)) (a:Int) (st:List Int):Prop :=
 ∀ w1:List Value,(True)/\((!(inI hk 1 24))=true ->
  w1=w1/\(((3:Int) != (0:Int))=true ->
   ((True/\(0:Int)=(Md hk cs a st)/\(3:Int)=(Jd hk cs a st)/\nS)/\(Bb hk cs a st))) /\
  (((3:Int) != (0:Int))=false ->
   (I64 ((lI cs)-(1:Int)))/\([a].length<=1000000)/\((V5 cs a)=true ->
    (Pk hk cs a st)) /\
   ((V5 cs a)=false ->
    ((V3 st)=true ->
     (DL hk cs a st)) /\
    ((V3 st)=false ->
     (st.length<=1000000)/\((V0 st)=true ->
      (DT hk cs a st)) /\
     ((V0 st)=false ->
      ∃ (e5:Unit) (d50:(List Int)×Int×Int),((True/\a=d50.2.1/\True/\st=st/\(lI st)=(lI st)/\(0:Int)=d50.2.2/\True)/\((d50.1=[]/\d50.1.isEmpty=true)/\(V9 hk cs)/\True)) /\
      LoopP (λ(d5:(List Int)×Int×Int) (q5:((List Int)×Int×Int)->Prop) =>
       ((decide (d5.2.2<(lI st)))=true ->
        (0<=d5.2.2)/\(d5.2.2<st.length)/\(1<=hk/\hk<=24/\0<=d5.2.1/\d5.2.1<cs.length/\∀ c∈cs,Zv hk c=true)/\((d5.1.length+(List.length [(Dy hk (cs.getD d5.2.1.toNat WY))]))*8<=70368744177664)/\(cs≠[]/\cs.length<=1000/\-1000000<=d5.2.1/\d5.2.1<=1000000/\-1000000<=(gD st d5.2.2 0)/\(gD st d5.2.2 0)<=1000000)/\(I64 (d5.2.2+(1:Int)))/\(∃ d6:(List Int)×Int×Int,((True/\(Int.tmod (d5.2.1+(gD st d5.2.2 0)) cs.length)=d6.2.1/\True/\st=st/\(lI st)=(lI st)/\(d5.2.2+(1:Int))=d6.2.2/\True)/\(((d5.1++[(Dy hk (cs.getD d5.2.1.toNat WY))])=d6.1/\false=d6.1.isEmpty)/\(V9 hk cs)/\True))/\q5 d6)) /\
       ((decide (d5.2.2<(lI st)))=false ->
        ((True/\d5.2.1=(Md hk cs a st)/\(0:Int)=(Jd hk cs a st)/\nS)/\((d5.1=(Th hk cs a st)/\d5.1.isEmpty=(Th hk cs a st).isEmpty)/\True)))) d50))))) /\
 ((!(inI hk 1 24))=false ->
  ((decide ((lI cs) > (60:Int)))=true ->
   w1=w1/\(((5:Int) != (0:Int))=true ->
    (DL hk cs a st)) /\
   (((5:Int) != (0:Int))=false ->
    (I64 ((lI cs)-(1:Int)))/\([a].length<=1000000)/\((V5 cs a)=true ->
     (Pk hk cs a st)) /\
    ((V5 cs a)=false ->
     ((V3 st)=true ->
      (DL hk cs a st)) /\
     ((V3 st)=false ->
      (st.length<=1000000)/\((V0 st)=true ->
       (DT hk cs a st)) /\
      ((V0 st)=false ->
       ∃ (aV:Unit) (d100:(List Int)×Int×Int),((True/\a=d100.2.1/\True/\st=st/\(lI st)=(lI st)/\(0:Int)=d100.2.2/\True)/\((d100.1=[]/\d100.1.isEmpty=true)/\(V9 hk cs)/\True)) /\
       LoopP (λ(d10:(List Int)×Int×Int) (mB:((List Int)×Int×Int)->Prop) =>
        ((decide (d10.2.2<(lI st)))=true ->
         (0<=d10.2.2)/\(d10.2.2<st.length)/\(1<=hk/\hk<=24/\0<=d10.2.1/\d10.2.1<cs.length/\∀ c∈cs,Zv hk c=true)/\((d10.1.length+(List.length [(Dy hk (cs.getD d10.2.1.toNat WY))]))*8<=70368744177664)/\(cs≠[]/\cs.length<=1000/\-1000000<=d10.2.1/\d10.2.1<=1000000/\-1000000<=(gD st d10.2.2 0)/\(gD st d10.2.2 0)<=1000000)/\(I64 (d10.2.2+(1:Int)))/\(∃ d11:(List Int)×Int×Int,((True/\(Int.tmod (d10.2.1+(gD st d10.2.2 0)) cs.length)=d11.2.1/\True/\st=st/\(lI st)=(lI st)/\(d10.2.2+(1:Int))=d11.2.2/\True)/\(((d10.1++[(Dy hk (cs.getD d10.2.1.toNat WY))])=d11.1/\false=d11.1.isEmpty)/\(V9 hk cs)/\True))/\mB d11)) /\
        ((decide (d10.2.2<(lI st)))=false ->
         ((True/\d10.2.1=(Md hk cs a st)/\(0:Int)=(Jd hk cs a st)/\nS)/\((d10.1=(Th hk cs a st)/\d10.1.isEmpty=(Th hk cs a st).isEmpty)/\True)))) d100))))) /\
  ((decide ((lI cs) > (60:Int)))=false ->
   (1<=hk/\hk<=24/\cs.length<=1000000)/\((!(!cs.isEmpty&&!(cs.any λc=>!Zv hk c)))=true ->
    w1=w1/\(((2:Int) != (0:Int))=true ->
     (DT hk cs a st)) /\
    (((2:Int) != (0:Int))=false ->
     (I64 ((lI cs)-(1:Int)))/\([a].length<=1000000)/\((V5 cs a)=true ->
      (Pk hk cs a st)) /\
     ((V5 cs a)=false ->
      ((V3 st)=true ->
       (DL hk cs a st)) /\
      ((V3 st)=false ->
       (st.length<=1000000)/\((V0 st)=true ->
        (DT hk cs a st)) /\
       ((V0 st)=false ->
        ∃ (av:Unit) (d150:(List Int)×Int×Int),((True/\a=d150.2.1/\True/\st=st/\(lI st)=(lI st)/\(0:Int)=d150.2.2/\True)/\((d150.1=[]/\d150.1.isEmpty=true)/\(V9 hk cs)/\True)) /\
        LoopP (λ(d15:(List Int)×Int×Int) (ri:((List Int)×Int×Int)->Prop) =>
         ((decide (d15.2.2<(lI st)))=true ->
          (0<=d15.2.2)/\(d15.2.2<st.length)/\(1<=hk/\hk<=24/\0<=d15.2.1/\d15.2.1<cs.length/\∀ c∈cs,Zv hk c=true)/\((d15.1.length+(List.length [(Dy hk (cs.getD d15.2.1.toNat WY))]))*8<=70368744177664)/\(cs≠[]/\cs.length<=1000/\-1000000<=d15.2.1/\d15.2.1<=1000000/\-1000000<=(gD st d15.2.2 0)/\(gD st d15.2.2 0)<=1000000)/\(I64 (d15.2.2+(1:Int)))/\(∃ d16:(List Int)×Int×Int,((True/\(Int.tmod (d15.2.1+(gD st d15.2.2 0)) cs.length)=d16.2.1/\True/\st=st/\(lI st)=(lI st)/\(d15.2.2+(1:Int))=d16.2.2/\True)/\(((d15.1++[(Dy hk (cs.getD d15.2.1.toNat WY))])=d16.1/\false=d16.1.isEmpty)/\(V9 hk cs)/\True))/\ri d16)) /\
         ((decide (d15.2.2<(lI st)))=false ->
          ((True/\d15.2.1=(Md hk cs a st)/\(0:Int)=(Jd hk cs a st)/\nS)/\((d15.1=(Th hk cs a st)/\d15.1.isEmpty=(Th hk cs a st).isEmpty)/\True)))) d150))))) /\
   ((!(!cs.isEmpty&&!(cs.any λc=>!Zv hk c)))=false ->
    w1=w1/\(((0:Int) != (0:Int))=true ->
     ((True/\(0:Int)=(Md hk cs a st)/\(0:Int)=(Jd hk cs a st)/\nS)/\(Bb hk cs a st))) /\
    (((0:Int) != (0:Int))=false ->
     (I64 ((lI cs)-(1:Int)))/\([a].length<=1000000)/\((V5 cs a)=true ->
      (Pk hk cs a st)) /\
     ((V5 cs a)=false ->
      ((V3 st)=true ->
       (DL hk cs a st)) /\
      ((V3 st)=false ->
       (st.length<=1000000)/\((V0 st)=true ->
        (DT hk cs a st)) /\
       ((V0 st)=false ->
        ∃ (wF:Unit) (iS:(List Int)×Int×Int),((True/\a=iS.2.1/\True/\st=st/\(lI st)=(lI st)/\(0:Int)=iS.2.2/\True)/\((iS.1=[]/\(List.isEmpty iS.1)=true)/\(V9 hk cs)/\True)) /\
        LoopP (λ(d20:(List Int)×Int×Int) (vn:((List Int)×Int×Int)->Prop) =>
         ((decide (d20.2.2<(lI st)))=true ->
          (0<=d20.2.2)/\(d20.2.2<st.length)/\(1<=hk/\hk<=24/\0<=d20.2.1/\d20.2.1<cs.length/\∀ c∈cs,Zv hk c=true)/\((d20.1.length+(List.length [(Dy hk (cs.getD d20.2.1.toNat WY))]))*8<=70368744177664)/\(cs≠[]/\cs.length<=1000/\-1000000<=d20.2.1/\d20.2.1<=1000000/\-1000000<=(gD st d20.2.2 0)/\(gD st d20.2.2 0)<=1000000)/\(I64 (d20.2.2+(1:Int)))/\(∃ d21:(List Int)×Int×Int,((True/\(Int.tmod (d20.2.1+(gD st d20.2.2 0)) cs.length)=d21.2.1/\True/\st=st/\(lI st)=(lI st)/\(d20.2.2+(1:Int))=d21.2.2/\True)/\(((d20.1++[(Dy hk (cs.getD d20.2.1.toNat WY))])=d21.1/\false=d21.1.isEmpty)/\(V9 hk cs)/\True))/\vn d21)) /\
         ((decide (d20.2.2<(lI st)))=false ->
          ((True/\d20.2.1=(Md hk cs a st)/\(0:Int)=(Jd hk cs a st)/\nS)/\((d20.1=(Th hk cs a st)/\d20.1.isEmpty=(Th hk cs a st).isEmpty)/\True)))) iS)))))))
def B_:Cx:=⟨[(3,(.i .i64))],[(55,QA),(65,Jq),(66,XB),(67,Ji),(106,QK)],58,[],0,[(64,KD)],[],[],[],false,[],[],[],[]⟩
def Av (hk:Int) (cs:List (Int×Int×Bool)) (a:Int) (st:List Int):List (Nat×LoopAnn):=[(1,⟨Unit,(List Int)×Int×Int,[6,7,9,39,40,41],λe x=>[.lst 50,.val (.i .i64) x.2.1,.box 9 0,.val (.list (.i .i64)) st,.val (.i .i64) ((st.length:Nat):Int),.val (.i .i64) x.2.2],λe x=>[(50,.slot 6,.lst 3 (.i .i64) x.1 (List.isEmpty x.1)),(9,.slot 9,.cells [.val (.i .i64) hk,.val (.list (.pair (.i .i64) (.pair (.i .i64) .bo))) cs,.val (.i .i64) hk] (some 131))]⟩)]
theorem CK (d:(Int×List (Int×Int×Bool))×Int×List Int):gwp (B_) (Av d.1.1 d.1.2 d.2.1 d.2.2) c25 0 (WB [.tmp 6,.tmp 7,.tmp 8] (GN d) (GK d)) (Qn 58 (AL.can Br d))=Kn d.1.1 d.1.2 d.2.1 d.2.2:=by kernel_rfl
abbrev Cz:Prop:=OkC Tryz.prog 25 V6
theorem AN (h:∀ (hk:Int) (cs:List (Int×Int×Bool)) (a:Int) (st:List Int),(cs.length<=1000/\st.length<=1000)->Kn hk cs a st):OkC Tryz.prog 25 V6 :=
 Qr Z82 mixed (C:=B_) (V:=λ(d:(Int×List (Int×Int×Bool))×Int×List Int)=>Kn d.1.1 d.1.2 d.2.1 d.2.2) ⟨(.cons QY (.cons XQ (.cons Vs (.cons Wy (.cons Zk .nil))))),(XsOk.cons Kf XsOk.nil),ItsOk.nil,YlOk.nil,IysOk.nil,XfOk.nil⟩ (CK) λd hp=>h d.1.1 d.1.2 d.2.1 d.2.2 hp
theorem H3:Cz:=AN λhk cs a st h=>by
 obtain⟨h1,h2⟩:=h;unfold Kn;(try delta Bb V5 V0 DL DT Pk V9 V3);(try delta lI gD sT I64 Z6 rg rb zD nS);intro vals;have e:∀ n a b:Int,(decide (n<a)||decide (b<n))=!inI n a b:=λn a b=>(nI n a b).symm;simp only[true_and,and_true,List.any_cons,List.any_nil,y8,e,Bool.not_not,zV,List.length_nil];refine⟨λc=>⟨λ_=>?_,(λd=>by cases d)⟩,λc=>⟨λc2=>⟨λ_=>?_,(λd=>by cases d)⟩,λc2=>⟨?_,λc3=>⟨λ_=>?_,(λd=>by cases d)⟩,λc3=>⟨(λd=>by cases d),λ_=>?_⟩⟩⟩⟩
 .have hb:QJ hk cs=3:=by unfold QJ;rw[z6 c]
  exact U_ (by unfold Jd;rw[hb];rfl) (by omega)
 .have c2:=zu c2;have hb:QJ hk cs=5:=by unfold QJ;grind
  exact U_ (by unfold Jd;rw[hb];rfl) (by omega)
 .grind
 .have c2:=zC c2;have hb:=I5 c (by omega) c3;exact U_ (by unfold Jd;rw[hb];rfl) (by omega)
 .have c2:=zC c2;obtain⟨hb,aG,ak⟩:=L9 c (by omega) c3;have hc:=EG c;have bh:=zW.2 aG;refine⟨by simp only[Qc];omega,by omega,λc4=>?_,λc4=>⟨λc5=>?_,λc5=>⟨by omega,λc6=>?_,λc6=>?_⟩⟩⟩
  .exact U_ (by unfold Jd;rw[hb,z7 (by omega),z6 c4]) (by omega)
  .have c5:=zu c5;exact U_ (by unfold Jd;grind) (by omega)
  .have c5:=zC c5;exact U_ (by unfold Jd;grind) (by omega)
  .have c5:=zC c5;have e0:Jd hk cs a st=0:=by unfold Jd;grind
   have e1:Md hk cs a st=atK cs.length a st st.length:=by unfold Md;rw[z6 e0]
   have e2:Th hk cs a st=AR hk cs a st st.length:=by unfold Th;rw[z6 e0]
   have ha:=EG c4;have a9:∀ s∈st,0<=s/\s<=2:=(by grind);rw[e0,e1,e2];refine⟨(),([],a,0),(by and_intros<;>first|rfl|trivial),?_⟩;refine⟨λd=>∃ k:Nat,d.2.2=k/\k<=st.length/\d.1=AR hk cs a st k/\d.2.1=atK cs.length a st k,λd=>st.length-d.2.2.toNat,⟨0,rfl,by omega,rfl,rfl⟩,?_⟩;rintro⟨l,p,k'⟩ ⟨k,f1,f2,f3,f4⟩;dsimp only at f1 f3 f4 |-;subst f1 f3 f4;have aS:=Z3h (a:=a) (st:=st) bh (by omega) (by omega) (λs hs=>(a9 s hs).1) k;simp only[zd];refine⟨λg=>?_,λg=>?_⟩
   .have g:k<st.length:=by have:=zu g;omega
    have hs:=a9 (st.getD k 0) (by rw[Qf g];exact zl g);have hl:=Oh hk cs a st k;refine⟨by omega,by omega,⟨hc.1,hc.2,aS.1,by omega,ak⟩,by omega,(by grind),by simp only[Qc];omega,(AR hk cs a st (k+1),atK cs.length a st (k+1),(k:Int)+1),?_,(by grind),by dsimp only;omega⟩;rw[Q4h];and_intros<;>first|rfl|trivial|simp
   grind
def MO:AL (Int):=(.one (.k (.i .i64)))
def T5 (d:Int):Prop:=True
def Nk (d:Int):SV:=.val .bo false
def N5 (d:Int):List OB:=[]
def VL:CSp:=Wt MO T5 Nk N5
def Wv (a:Int):Prop :=
 ((a != a)=false/\(True))
def Mv:Cx:=⟨[],[],6,[],0,[],[],[],[],false,[],[],[],[]⟩
def RL (a:Int):List (Nat×LoopAnn):=[]
theorem Rl (d:Int):gwp (Mv) (RL d) J01 0 (WB [.tmp 2] (Nk d) (N5 d)) (Qn 6 (AL.can MO d))=Wv d:=by kernel_rfl
abbrev RD:Prop:=OkC Tryz.prog 105 VL
theorem RQ (h:∀ (a:Int),(True)->Wv a):OkC Tryz.prog 105 VL :=
 Qr Z30 mixed (C:=Mv) (V:=λ(d:Int)=>Wv d) ⟨.nil,XsOk.nil,ItsOk.nil,YlOk.nil,IysOk.nil,XfOk.nil⟩ (Rl) λd hp=>h d hp
theorem Rt:RD:=RQ λa _=>by unfold Wv;simp_all
def Uo:AL (Int×Int):=(.cons (.k (.i .i64)) (.one (.k (.i .i64))))
def Hp (d:Int×Int):Prop:=True
def VB (d:Int×Int):SV:=.val (.i .i64) (Q0n d.1 d.2)
def U8 (d:Int×Int):List OB:=[]
def K5:CSp:=Wt Uo Hp VB U8
def Xy (a:Int) (b:Int):Prop :=
 (True)/\(True)/\(false=true ->
  (false=true ->
   ((0:Int)=(Q0n a b)/\(True))) /\
  (false=false ->
   ((-1:Int)=(Q0n a b)/\(True)))) /\
 (false=false ->
  (false=true ->
   ((1:Int)=(Q0n a b)/\(True))) /\
  (false=false ->
   ((decide (a<b))=true ->
    ((-1:Int)=(Q0n a b)/\(True))) /\
   ((decide (a<b))=false ->
    ((decide (a > b))=true ->
     ((1:Int)=(Q0n a b)/\(True))) /\
    ((decide (a > b))=false ->
     ((0:Int)=(Q0n a b)/\(True))))))
def Uj:Cx:=⟨[],[(105,VL)],20,[],0,[],[],[],[],false,[],[],[],[]⟩
def P5 (a:Int) (b:Int):List (Nat×LoopAnn):=[]
theorem P0 (d:Int×Int):gwp (Uj) (P5 d.1 d.2) c61 0 (WB [.tmp 4] (VB d) (U8 d)) (Qn 20 (AL.can Uo d))=Xy d.1 d.2:=by kernel_rfl
abbrev T1:Prop:=OkC Tryz.prog 61 K5
theorem PQ (h:∀ (a:Int) (b:Int),(True)->Xy a b):OkC Tryz.prog 61 K5 :=
 Qr Z9a mixed (C:=Uj) (V:=λ(d:Int×Int)=>Xy d.1 d.2) ⟨(.cons Rt .nil),XsOk.nil,ItsOk.nil,YlOk.nil,IysOk.nil,XfOk.nil⟩ (P0) λd hp=>h d.1 d.2 hp
theorem Po:T1:=PQ λa b _=>by unfold Xy;(try delta lI gD sT I64 Z6 rg rb zD nS);simp only[zh,zz,true_and,and_true,zh,zz,gt_iff_lt,false_implies,zm,forall_const];unfold Q0n;omega
def Di:AL ((Int×Int×Bool)×Int×Int×Bool):=(.cons (.agg (.cons (.k (.i .i64)) (.cons (.k (.i .i64)) (.one (.k .bo))))) (.one (.agg (.cons (.k (.i .i64)) (.cons (.k (.i .i64)) (.one (.k .bo)))))))
def RB (d:(Int×Int×Bool)×Int×Int×Bool):Prop:=True
def Mx (d:(Int×Int×Bool)×Int×Int×Bool):SV:=.val (.i .i64) (Q0n d.1.1 d.2.1)
def MP (d:(Int×Int×Bool)×Int×Int×Bool):List OB:=[]
def Kc:CSp:=Wt Di RB Mx MP
def Y8 (cn:Int) (cr:Int) (ct:Bool) (dn:Int) (dr:Int) (dt:Bool):Prop :=
 (True)/\((Q0n cn dn)=(Q0n cn dn)/\(True))
def GV:Cx:=⟨[],[(61,K5)],10,[],0,[],[],[],[],false,[],[],[],[]⟩
def LJ (cn:Int) (cr:Int) (ct:Bool) (dn:Int) (dr:Int) (dt:Bool):List (Nat×LoopAnn):=[]
theorem Sv (d:(Int×Int×Bool)×Int×Int×Bool):gwp (GV) (LJ d.1.1 d.1.2.1 d.1.2.2 d.2.1 d.2.2.1 d.2.2.2) c60 0 (WB [.tmp 4] (Mx d) (MP d)) (Qn 10 (AL.can Di d))=Y8 d.1.1 d.1.2.1 d.1.2.2 d.2.1 d.2.2.1 d.2.2.2:=by kernel_rfl
abbrev SS:Prop:=OkC Tryz.prog 60 Kc
theorem C7 (h:∀ (cn:Int) (cr:Int) (ct:Bool) (dn:Int) (dr:Int) (dt:Bool),(True)->Y8 cn cr ct dn dr dt):OkC Tryz.prog 60 Kc :=
 Qr Z7n mixed (C:=GV) (V:=λ(d:(Int×Int×Bool)×Int×Int×Bool)=>Y8 d.1.1 d.1.2.1 d.1.2.2 d.2.1 d.2.2.1 d.2.2.2) ⟨(.cons Po .nil),XsOk.nil,ItsOk.nil,YlOk.nil,IysOk.nil,XfOk.nil⟩ (Sv) (by simp_all)
theorem Dj:SS:=C7 λcn cr ct dn dr dt _=>by unfold Y8;simp_all
def Ud:AL (Int):=(.one (.k (.i .u32)))
def Hu (d:Int):Prop:=False
def VV (d:Int):SV:=.val (.i .i64) (Ex d)
def VY (d:Int):List OB:=[]
def K6:CSp:=Wt Ud Hu VV VY
def Y7 (x:Int):Prop :=
 ((decide (x>=(65536:Int)))=true ->
  (0<=(16:Int))/\((decide ((Zz .u32 x (16:Int))>=(256:Int)))=true ->
   (0<=(8:Int))/\(I64 ((16:Int)+(8:Int)))/\(InK .u8 (Zz .u32 (Zz .u32 x (16:Int)) (8:Int)))/\(0<=(Zz .u32 (Zz .u32 x (16:Int)) (8:Int)))/\((Zz .u32 (Zz .u32 x (16:Int)) (8:Int))<len8T.length)/\(I64 ((UInt8.toNat (gD len8T (Zz .u32 (Zz .u32 x (16:Int)) (8:Int)) 0):Nat):Int))/\(I64 (((16:Int)+(8:Int))+((UInt8.toNat (gD len8T (Zz .u32 (Zz .u32 x (16:Int)) (8:Int)) 0):Nat):Int)))/\((((16:Int)+(8:Int))+((UInt8.toNat (gD len8T (Zz .u32 (Zz .u32 x (16:Int)) (8:Int)) 0):Nat):Int))=(Ex x)/\(True))) /\
  ((decide ((Zz .u32 x (16:Int))>=(256:Int)))=false ->
   (InK .u8 (Zz .u32 x (16:Int)))/\(0<=(Zz .u32 x (16:Int)))/\((Zz .u32 x (16:Int))<len8T.length)/\(I64 ((UInt8.toNat (gD len8T (Zz .u32 x (16:Int)) 0):Nat):Int))/\(I64 ((16:Int)+((UInt8.toNat (gD len8T (Zz .u32 x (16:Int)) 0):Nat):Int)))/\(((16:Int)+((UInt8.toNat (gD len8T (Zz .u32 x (16:Int)) 0):Nat):Int))=(Ex x)/\(True)))) /\
 ((decide (x>=(65536:Int)))=false ->
  ((decide (x>=(256:Int)))=true ->
   (0<=(8:Int))/\(I64 ((0:Int)+(8:Int)))/\(InK .u8 (Zz .u32 x (8:Int)))/\(0<=(Zz .u32 x (8:Int)))/\((Zz .u32 x (8:Int))<len8T.length)/\(I64 ((UInt8.toNat (gD len8T (Zz .u32 x (8:Int)) 0):Nat):Int))/\(I64 (((0:Int)+(8:Int))+((UInt8.toNat (gD len8T (Zz .u32 x (8:Int)) 0):Nat):Int)))/\((((0:Int)+(8:Int))+((UInt8.toNat (gD len8T (Zz .u32 x (8:Int)) 0):Nat):Int))=(Ex x)/\(True))) /\
  ((decide (x>=(256:Int)))=false ->
   (InK .u8 x)/\(0<=x)/\(x<len8T.length)/\(I64 ((UInt8.toNat (gD len8T x 0):Nat):Int))/\(I64 ((0:Int)+((UInt8.toNat (gD len8T x 0):Nat):Int)))/\(((0:Int)+((UInt8.toNat (gD len8T x 0):Nat):Int))=(Ex x)/\(True))))
def Ul:Cx:=⟨[],[],19,[],0,[],[],[],[],false,[],[],[],[]⟩
def HT (x:Int):List (Nat×LoopAnn):=[]
theorem PO (d:Int):gwp (Ul) (HT d) Z9z 0 (WB [.tmp 2] (VV d) (VY d)) (Qn 19 (AL.can Ud d))=Y7 d:=by kernel_rfl
abbrev Pe:Prop:=OkC Tryz.prog 158 K6
theorem Pm (h:∀ (x:Int),(False)->Y7 x):OkC Tryz.prog 158 K6 :=
 Qr Z2s mixed (C:=Ul) (V:=λ(d:Int)=>Y7 d) ⟨.nil,XsOk.nil,ItsOk.nil,YlOk.nil,IysOk.nil,XfOk.nil⟩ (PO) λd hp=>h d hp
theorem T2:Pe:=Pm λx h=>h.elim
def Uq:AL (Int):=(.one (.k (.i .u64)))
def Hi (d:Int):Prop:=0<=d/\d<=255
def V_ (d:Int):SV:=.val (.i .i64) (Ex d)
def VA (d:Int):List OB:=[]
def K8:CSp:=Wt Uq Hi V_ VA
abbrev Yq (x:Int):=(Zz .u64 (Zz .u64 x (32:Int)) (16:Int))
abbrev PC (x:Int):=(Zz .u64 (Zz .u64 x (32:Int)) (8:Int))
abbrev P1 (x:Int):=(Zz .u64 (Zz .u64 x (16:Int)) (8:Int))
abbrev Se (x:Int):=((UInt8.toNat (gD len8T (Zz .u64 (Yq x) (8:Int)) 0):Nat):Int)
abbrev S9 (x:Int):=((UInt8.toNat (gD len8T (Zz .u64 x (32:Int)) 0):Nat):Int)
abbrev RU (x:Int):=((UInt8.toNat (gD len8T (Zz .u64 x (16:Int)) 0):Nat):Int)
abbrev S2 (x:Int):=((UInt8.toNat (gD len8T (Zz .u64 x (8:Int)) 0):Nat):Int)
abbrev R_ :=(((32:Int)+(16:Int))+(8:Int))
abbrev Sj :=(((0:Int)+(16:Int))+(8:Int))
abbrev S6 (x:Int):=((UInt8.toNat (gD len8T (Yq x) 0):Nat):Int)
abbrev PS (x:Int):=((UInt8.toNat (gD len8T (PC x) 0):Nat):Int)
abbrev Pr (x:Int):=((UInt8.toNat (gD len8T (P1 x) 0):Nat):Int)
def Xx (x:Int):Prop :=
 ((decide (x>=(4294967296:Int)))=true ->
  (0<=(32:Int))/\((decide ((Zz .u64 x (32:Int))>=(65536:Int)))=true ->
   (0<=(16:Int))/\(I64 ((32:Int)+(16:Int)))/\((decide ((Yq x)>=(256:Int)))=true ->
    (0<=(8:Int))/\(I64 R_)/\(InK .u8 (Zz .u64 (Yq x) (8:Int)))/\(0<=(Zz .u64 (Yq x) (8:Int)))/\((Zz .u64 (Yq x) (8:Int))<len8T.length)/\(I64 (Se x))/\(I64 (R_+(Se x)))/\((R_+(Se x))=(Ex x)/\(True))) /\
   ((decide ((Yq x)>=(256:Int)))=false ->
    (InK .u8 (Yq x))/\(0<=(Yq x))/\((Yq x)<len8T.length)/\(I64 (S6 x))/\(I64 (((32:Int)+(16:Int))+(S6 x)))/\((((32:Int)+(16:Int))+(S6 x))=(Ex x)/\(True)))) /\
  ((decide ((Zz .u64 x (32:Int))>=(65536:Int)))=false ->
   ((decide ((Zz .u64 x (32:Int))>=(256:Int)))=true ->
    (0<=(8:Int))/\(I64 ((32:Int)+(8:Int)))/\(InK .u8 (PC x))/\(0<=(PC x))/\((PC x)<len8T.length)/\(I64 (PS x))/\(I64 (((32:Int)+(8:Int))+(PS x)))/\((((32:Int)+(8:Int))+(PS x))=(Ex x)/\(True))) /\
   ((decide ((Zz .u64 x (32:Int))>=(256:Int)))=false ->
    (InK .u8 (Zz .u64 x (32:Int)))/\(0<=(Zz .u64 x (32:Int)))/\((Zz .u64 x (32:Int))<len8T.length)/\(I64 (S9 x))/\(I64 ((32:Int)+(S9 x)))/\(((32:Int)+(S9 x))=(Ex x)/\(True))))) /\
 ((decide (x>=(4294967296:Int)))=false ->
  ((decide (x>=(65536:Int)))=true ->
   (0<=(16:Int))/\(I64 ((0:Int)+(16:Int)))/\((decide ((Zz .u64 x (16:Int))>=(256:Int)))=true ->
    (0<=(8:Int))/\(I64 Sj)/\(InK .u8 (P1 x))/\(0<=(P1 x))/\((P1 x)<len8T.length)/\(I64 (Pr x))/\(I64 (Sj+(Pr x)))/\((Sj+(Pr x))=(Ex x)/\(True))) /\
   ((decide ((Zz .u64 x (16:Int))>=(256:Int)))=false ->
    (InK .u8 (Zz .u64 x (16:Int)))/\(0<=(Zz .u64 x (16:Int)))/\((Zz .u64 x (16:Int))<len8T.length)/\(I64 (RU x))/\(I64 (((0:Int)+(16:Int))+(RU x)))/\((((0:Int)+(16:Int))+(RU x))=(Ex x)/\(True)))) /\
  ((decide (x>=(65536:Int)))=false ->
   ((decide (x>=(256:Int)))=true ->
    (0<=(8:Int))/\(I64 ((0:Int)+(8:Int)))/\(InK .u8 (Zz .u64 x (8:Int)))/\(0<=(Zz .u64 x (8:Int)))/\((Zz .u64 x (8:Int))<len8T.length)/\(I64 (S2 x))/\(I64 (((0:Int)+(8:Int))+(S2 x)))/\((((0:Int)+(8:Int))+(S2 x))=(Ex x)/\(True))) /\
   ((decide (x>=(256:Int)))=false ->
    (InK .u8 x)/\(0<=x)/\(x<len8T.length)/\(I64 ((UInt8.toNat (gD len8T x 0):Nat):Int))/\(I64 ((0:Int)+((UInt8.toNat (gD len8T x 0):Nat):Int)))/\(((0:Int)+((UInt8.toNat (gD len8T x 0):Nat):Int))=(Ex x)/\(True)))))
def Uu:Cx:=⟨[],[],25,[],0,[],[],[],[],false,[],[],[],[]⟩
def PA (x:Int):List (Nat×LoopAnn):=[]
theorem PG (d:Int):gwp (Uu) (PA d) J1o 0 (WB [.tmp 2] (V_ d) (VA d)) (Qn 25 (AL.can Uq d))=Xx d:=by kernel_rfl
abbrev PY:Prop:=OkC Tryz.prog 159 K8
theorem Pt (h:∀ (x:Int),(0<=x/\x<=255)->Xx x):OkC Tryz.prog 159 K8 :=
 Qr Z1i mixed (C:=Uu) (V:=λ(d:Int)=>Xx d) ⟨.nil,XsOk.nil,ItsOk.nil,YlOk.nil,IysOk.nil,XfOk.nil⟩ (PG) λd hp=>h d hp
theorem Pz:PY:=Pt λx h=>by
 obtain⟨h1,h2⟩:=h;unfold Xx;(try delta Yq PC P1 Se S9 RU S2 R_ Sj S6 PS Pr);(try delta lI gD sT I64 Z6 rg rb zD nS);have aj:(UInt8.toNat (List.getD len8T (Int.toNat x) 0):Int)<=255:=by have:=(List.getD len8T (Int.toNat x) 0).toNat_lt;omega
 refine⟨λc=>by simp at c;omega,λ_=>⟨λc=>by simp at c;omega,λ_=>⟨λc=>by simp at c;omega,λ_=>?_⟩⟩⟩;have hl:len8T.length=256:=by decide +kernel
 rw[hl];simp only[Q6n,Qc];refine⟨by omega,h1,by omega,by omega,by omega,?_⟩;unfold Ex;simp_all
def MH:AL (Int):=(.one (.k (.i .u64)))
def TB (d:Int):Prop:=0<=d/\d<=255
def N3 (d:Int):SV:=.val (.i .i64) (Ex d)
def N8 (d:Int):List OB:=[]
def Vp:CSp:=Wt MH TB N3 N8
def Wp (x:Int):Prop :=
 (false=true ->
  (InK .u32 x)/\(False)/\((Ex x)=(Ex x)/\(True))) /\
 (false=false ->
  (0<=x/\x<=255)/\((Ex x)=(Ex x)/\(True)))
def MA:Cx:=⟨[],[(158,K6),(159,K8)],8,[],0,[],[],[],[],false,[],[],[],[]⟩
def Rx (x:Int):List (Nat×LoopAnn):=[]
theorem RH (d:Int):gwp (MA) (Rx d) J1f 0 (WB [.tmp 2] (N3 d) (N8 d)) (Qn 8 (AL.can MH d))=Wp d:=by kernel_rfl
abbrev Rn:Prop:=OkC Tryz.prog 134 Vp
theorem RN (h:∀ (x:Int),(0<=x/\x<=255)->Wp x):OkC Tryz.prog 134 Vp :=
 Qr Z1j mixed (C:=MA) (V:=λ(d:Int)=>Wp d) ⟨(.cons T2 (.cons Pz .nil)),XsOk.nil,ItsOk.nil,YlOk.nil,IysOk.nil,XfOk.nil⟩ (RH) λd hp=>h d hp
theorem RK:Rn:=RN λx h=>by unfold Wp;simp_all
def Ze:AL (Int×Int×(((Int×Int×Bool)×(Int×Int×Bool)->Prop)×((Int×Int×Bool)×(Int×Int×Bool)->Int))):=(.cons (.k (.i .i64)) (.cons (.k (.i .i64)) (.one (.fn [(.pair (.i .i64) (.pair (.i .i64) .bo)),(.pair (.i .i64) (.pair (.i .i64) .bo))] (.i .i64)))))
def JK (xs:List (Int×Int×Bool)) (nl:Bool) (d:Int×Int×(((Int×Int×Bool)×(Int×Int×Bool)->Prop)×((Int×Int×Bool)×(Int×Int×Bool)->Int))):Prop:=0<=d.1/\d.1<=d.2.1/\d.2.1<=xs.length/\xs.length<=12/\(∀ x∈xs,∀ y∈xs,d.2.2.1 (x,y))
def Z7 (xs:List (Int×Int×Bool)) (nl:Bool) (d:Int×Int×(((Int×Int×Bool)×(Int×Int×Bool)->Prop)×((Int×Int×Bool)×(Int×Int×Bool)->Int))):SV:=.tup []
def Z2 (xs:List (Int×Int×Bool)) (nl:Bool) (d:Int×Int×(((Int×Int×Bool)×(Int×Int×Bool)->Prop)×((Int×Int×Bool)×(Int×Int×Bool)->Int))):List (Int×Int×Bool):=(SL d.2.2.2 xs d.1.toNat d.2.1.toNat)
def QC:XSp:=Q58 (gap [] 3) (Q8n 129 (.pair (.i .i64) (.pair (.i .i64) .bo)) Ze JK Z7 Z2)
def Ql (xs:List (Int×Int×Bool)) (nl:Bool) (a:Int) (b:Int) (p:((Int×Int×Bool)×(Int×Int×Bool)->Prop)×((Int×Int×Bool)×(Int×Int×Bool)->Int)):Prop:=∀ vals:List Value,
 (I64 (a+(1:Int)))/\∃ (e2:Unit) (d20:(List (Int×Int×Bool))×Bool×Int),((True/\a=a/\b=b/\(SV.pf [(.pair (.i .i64) (.pair (.i .i64) .bo)),(.pair (.i .i64) (.pair (.i .i64) .bo))] (.i .i64) p.1 p.2=SV.pf [(.pair (.i .i64) (.pair (.i .i64) .bo)),(.pair (.i .i64) (.pair (.i .i64) .bo))] (.i .i64) p.1 p.2)/\(a+(1:Int))=d20.2.2/\True)/\((xs=d20.1/\nl=d20.2.1)/\(vals=vals/\(True/\nS))/\True)) /\
 LoopP (λ(d2:(List (Int×Int×Bool))×Bool×Int) (q2:((List (Int×Int×Bool))×Bool×Int)->Prop) =>
  ((decide (d2.2.2<b))=true ->
   ∃ (e5:Bool×Int) (d50:(List (Int×Int×Bool))×Int),((True/\a=a/\b=b/\(SV.pf [(.pair (.i .i64) (.pair (.i .i64) .bo)),(.pair (.i .i64) (.pair (.i .i64) .bo))] (.i .i64) p.1 p.2=SV.pf [(.pair (.i .i64) (.pair (.i .i64) .bo)),(.pair (.i .i64) (.pair (.i .i64) .bo))] (.i .i64) p.1 p.2)/\d2.2.2=e5.2/\d2.2.2=d50.2/\True)/\((d2.1=d50.1/\d2.2.1=e5.1)/\(vals=vals/\(True/\nS))/\True)) /\
   LoopP (λ(d5:(List (Int×Int×Bool))×Int) (q5:((List (Int×Int×Bool))×Int)->Prop) =>
    ((decide (d5.2 > a))=true->0<=d5.2)/\((decide (d5.2 > a))=true->d5.2<d5.1.length)/\((decide (d5.2 > a))=true->InK .i64 (d5.2-(1:Int)))/\((decide (d5.2 > a))=true->0<=(d5.2-(1:Int)))/\((decide (d5.2 > a))=true->(d5.2-(1:Int))<d5.1.length)/\((decide (d5.2 > a))=true->p.1 (((gD d5.1 d5.2 (0,(0,false))).1,((gD d5.1 d5.2 (0,(0,false))).2.1,(gD d5.1 d5.2 (0,(0,false))).2.2)),((gD d5.1 (d5.2-(1:Int)) (0,(0,false))).1,((gD d5.1 (d5.2-(1:Int)) (0,(0,false))).2.1,(gD d5.1 (d5.2-(1:Int)) (0,(0,false))).2.2))))/\(((decide (d5.2 > a))&&(decide ((p.2 (((gD d5.1 d5.2 (0,(0,false))).1,((gD d5.1 d5.2 (0,(0,false))).2.1,(gD d5.1 d5.2 (0,(0,false))).2.2)),((gD d5.1 (d5.2-(1:Int)) (0,(0,false))).1,((gD d5.1 (d5.2-(1:Int)) (0,(0,false))).2.1,(gD d5.1 (d5.2-(1:Int)) (0,(0,false))).2.2))))<(0:Int))))=true ->
     (I64 (d5.2-(1:Int)))/\(I64 (d5.2-(1:Int)))/\(0<=(d5.2-(1:Int)))/\((d5.2-(1:Int))<d5.1.length)/\(0<=d5.2)/\(d5.2<d5.1.length)/\(0<=d5.2)/\(d5.2<d5.1.length)/\(0<=(d5.2-(1:Int)))/\((d5.2-(1:Int))<(List.length (sT d5.1 d5.2 ((gD d5.1 (d5.2-(1:Int)) (0,(0,false))).1,((gD d5.1 (d5.2-(1:Int)) (0,(0,false))).2.1,(gD d5.1 (d5.2-(1:Int)) (0,(0,false))).2.2)))))/\(I64 (d5.2-(1:Int)))/\(∃ d6:(List (Int×Int×Bool))×Int,((True/\a=a/\b=b/\(SV.pf [(.pair (.i .i64) (.pair (.i .i64) .bo)),(.pair (.i .i64) (.pair (.i .i64) .bo))] (.i .i64) p.1 p.2=SV.pf [(.pair (.i .i64) (.pair (.i .i64) .bo)),(.pair (.i .i64) (.pair (.i .i64) .bo))] (.i .i64) p.1 p.2)/\e5.2=e5.2/\(d5.2-(1:Int))=d6.2/\True)/\(((sT (sT d5.1 d5.2 ((gD d5.1 (d5.2-(1:Int)) (0,(0,false))).1,((gD d5.1 (d5.2-(1:Int)) (0,(0,false))).2.1,(gD d5.1 (d5.2-(1:Int)) (0,(0,false))).2.2))) (d5.2-(1:Int)) ((gD d5.1 d5.2 (0,(0,false))).1,((gD d5.1 d5.2 (0,(0,false))).2.1,(gD d5.1 d5.2 (0,(0,false))).2.2)))=d6.1/\e5.1=e5.1)/\(vals=vals/\(True/\nS))/\True))/\q5 d6)) /\
    (((decide (d5.2 > a))&&(decide ((p.2 (((gD d5.1 d5.2 (0,(0,false))).1,((gD d5.1 d5.2 (0,(0,false))).2.1,(gD d5.1 d5.2 (0,(0,false))).2.2)),((gD d5.1 (d5.2-(1:Int)) (0,(0,false))).1,((gD d5.1 (d5.2-(1:Int)) (0,(0,false))).2.1,(gD d5.1 (d5.2-(1:Int)) (0,(0,false))).2.2))))<(0:Int))))=false ->
     (I64 (e5.2+(1:Int)))/\(∃ d7:(List (Int×Int×Bool))×Bool×Int,((True/\a=a/\b=b/\(SV.pf [(.pair (.i .i64) (.pair (.i .i64) .bo)),(.pair (.i .i64) (.pair (.i .i64) .bo))] (.i .i64) p.1 p.2=SV.pf [(.pair (.i .i64) (.pair (.i .i64) .bo)),(.pair (.i .i64) (.pair (.i .i64) .bo))] (.i .i64) p.1 p.2)/\(e5.2+(1:Int))=d7.2.2/\True)/\((d5.1=d7.1/\e5.1=d7.2.1)/\(vals=vals/\(True/\nS))/\True))/\q2 d7))) d50) /\
  ((decide (d2.2.2<b))=false ->
   (vals=vals/\(True/\nS)/\(nS)/\(d2.1=(SL p.2 xs a.toNat b.toNat)/\d2.2.1=nl)))) d20
def Zg:Cx:=⟨[],[],53,[],0,[],[],[],[],false,[],[],[],[]⟩
def Zf (xs:List (Int×Int×Bool)) (nl:Bool) (a:Int) (b:Int) (p:((Int×Int×Bool)×(Int×Int×Bool)->Prop)×((Int×Int×Bool)×(Int×Int×Bool)->Int)) (vals:List Value):List (Nat×LoopAnn):=[(0,⟨Unit,(List (Int×Int×Bool))×Bool×Int,[0,1,2,3,8],λe x=>[.lst 0,.val (.i .i64) a,.val (.i .i64) b,.pf [(.pair (.i .i64) (.pair (.i .i64) .bo)),(.pair (.i .i64) (.pair (.i .i64) .bo))] (.i .i64) p.1 p.2,.val (.i .i64) x.2.2],λe x=>[(0,.slot 0,.lst 129 (.pair (.i .i64) (.pair (.i .i64) .bo)) x.1 x.2.1),(4000000,.key 4000000,.stk [.lst 0] vals)]⟩),
 (2,⟨Bool×Int,(List (Int×Int×Bool))×Int,[0,1,2,3,8,9],λe x=>[.lst 0,.val (.i .i64) a,.val (.i .i64) b,.pf [(.pair (.i .i64) (.pair (.i .i64) .bo)),(.pair (.i .i64) (.pair (.i .i64) .bo))] (.i .i64) p.1 p.2,.val (.i .i64) e.2,.val (.i .i64) x.2],λe x=>[(0,.slot 0,.lst 129 (.pair (.i .i64) (.pair (.i .i64) .bo)) x.1 e.1),(4000000,.key 4000000,.stk [.lst 0] vals)]⟩)]
theorem J_ (xs:List (Int×Int×Bool)) (nl:Bool) (d:Int×Int×(((Int×Int×Bool)×(Int×Int×Bool)->Prop)×((Int×Int×Bool)×(Int×Int×Bool)->Int))):(∀ vals,gwp Zg (Zf xs nl d.1 d.2.1 d.2.2 vals) J14 0 (Q65 vals [] (Z7 xs nl d) (.lst 129 (.pair (.i .i64) (.pair (.i .i64) .bo)) (Z2 xs nl d) nl) (.lst 0)) (DH 53 (.lst 0) (.lst 129 (.pair (.i .i64) (.pair (.i .i64) .bo)) xs nl) vals (AL.can Ze d)))=Ql xs nl d.1 d.2.1 d.2.2:=by kernel_rfl
abbrev JT:Prop:=XOk Tryz.prog 150 QC
theorem JU (h:∀ (xs:List (Int×Int×Bool)) (nl:Bool) (a:Int) (b:Int) (p:((Int×Int×Bool)×(Int×Int×Bool)->Prop)×((Int×Int×Bool)×(Int×Int×Bool)->Int)),(0<=a/\a<=b/\b<=xs.length/\xs.length<=12/\(∀ x∈xs,∀ y∈xs,p.1 (x,y)))->Ql xs nl a b p):XOk Tryz.prog 150 QC :=
 Fi Z2c mixed (E1 .nil 3) (C:=Zg) ⟨.nil,XsOk.nil,ItsOk.nil,YlOk.nil,IysOk.nil,XfOk.nil⟩ (L:=λxs nl (d:Int×Int×(((Int×Int×Bool)×(Int×Int×Bool)->Prop)×((Int×Int×Bool)×(Int×Int×Bool)->Int))) vals=>Zf xs nl d.1 d.2.1 d.2.2 vals) (V:=λxs nl (d:Int×Int×(((Int×Int×Bool)×(Int×Int×Bool)->Prop)×((Int×Int×Bool)×(Int×Int×Bool)->Int)))=>Ql xs nl d.1 d.2.1 d.2.2) J_ λxs nl d hp=>h xs nl d.1 d.2.1 d.2.2 hp
theorem JR:JT:=JU λxs nl a b p h=>by
 obtain⟨h1,h2,h3,h4,h5⟩:=h;unfold Ql;(try delta lI gD sT I64 Z6 rg rb zD nS);intro vals;have hI:∀ e:Int,-1000<=e->e<=1000->InK .i64 e:=(by grind [Qc]);obtain⟨a,rfl⟩:∃ n:Nat,a=n:=⟨a.toNat,by omega⟩;obtain⟨b,rfl⟩:∃ n:Nat,b=n:=⟨b.toNat,by omega⟩;simp only[zd];refine⟨hI _ (by omega) (by omega),(),(xs,nl,(a:Int)+1),(by simp_all),?_⟩;refine⟨λd=>∃ n:Nat,d.2.2=(a:Int)+1+n/\(n=0\/a+1+n<=b)/\nl=d.2.1/\d.1=Q91 (λx y=>decide (p.2 (x,y)<0)) a n xs,λd=>(1000-d.2.2).toNat,⟨0,by simp,.inl rfl,rfl,rfl⟩,?_⟩;rintro⟨ys,kg,i⟩ ⟨n,e1,e2,e3,e4⟩;dsimp only at e1 e2 e3 e4 |-;subst e1 e3;refine⟨λc=>?_,λc=>?_⟩
 .have c:a+1+n<b:=by simp at c;omega
  have hp:ys.Perm xs:=by rw[e4];exact PU _ (by omega)
  have hlen:=hp.length_eq;refine⟨(nl,(a:Int)+1+n),(ys,(a:Int)+1+n),(by simp_all),?_⟩;dsimp only;refine⟨λd=>∃ j:Nat,d.2=j/\j<=a+1+n/\d.1.Perm xs/\Q0a (λx y=>decide (p.2 (x,y)<0)) a j d.1=Q91 (λx y=>decide (p.2 (x,y)<0)) a (n+1) xs,λd=>d.2.toNat,⟨a+1+n,by simp,z9 _,hp,by rw[e4];rfl⟩,?_⟩;rintro⟨zs,j'⟩ ⟨j,f1,f2,f3,f4⟩;dsimp only at f1 f3 f4 |-;subst f1;have wG:=f3.length_eq;have nC:((j:Int)-1).toNat=j-1:=by omega
  simp only[zd,nC];refine⟨λg=>by omega,λg=>by omega,λg=>hI _ (by omega) (by omega),λg=>by simp at g;omega,λg=>by omega,(by grind),λg=>?_,λg=>?_⟩
  .have g:a<j/\p.2 (zs.getD j (0,(0,false)),zs.getD (j-1) (0,(0,false)))<0:=by simpa using g
   refine⟨hI _ (by omega) (by omega),hI _ (by omega) (by omega),by omega,by omega,by omega,by omega,by omega,by omega,by omega,by rw[zE];omega,hI _ (by omega) (by omega),((zs.set j (zs.getD (j-1) (0,(0,false)))).set (j-1) (zs.getD j (0,(0,false))),(j:Int)-1),(by simp_all),⟨j-1,by omega,by omega,(by grind),Z0d f4 g.1 g.2⟩,by dsimp only;omega⟩
  .refine⟨hI _ (by omega) (by omega),(zs,nl,(a:Int)+1+n+1),(by simp_all),⟨n+1,by simp;omega,by omega,rfl,Z59 f4 λhh=>?_⟩,by dsimp only;omega⟩
   grind
 .have hn:n=b-a-1:=by simp at c;omega
  rw[e4,hn];exact(by and_intros<;>first|rfl|trivial|simp)
def ZH:AL (Int×Int×Int×(((Int×Int×Bool)×(Int×Int×Bool)->Prop)×((Int×Int×Bool)×(Int×Int×Bool)->Int))):=(.cons (.k (.i .i64)) (.cons (.k (.i .i64)) (.cons (.k (.i .i64)) (.one (.fn [(.pair (.i .i64) (.pair (.i .i64) .bo)),(.pair (.i .i64) (.pair (.i .i64) .bo))] (.i .i64))))))
def XJ (xs:List (Int×Int×Bool)) (nl:Bool) (d:Int×Int×Int×(((Int×Int×Bool)×(Int×Int×Bool)->Prop)×((Int×Int×Bool)×(Int×Int×Bool)->Int))):Prop:=d.1=0/\d.2.1=xs.length/\xs.length<=12/\(∀ x∈xs,∀ y∈xs,d.2.2.2.1 (x,y))
def ZC (xs:List (Int×Int×Bool)) (nl:Bool) (d:Int×Int×Int×(((Int×Int×Bool)×(Int×Int×Bool)->Prop)×((Int×Int×Bool)×(Int×Int×Bool)->Int))):SV:=.tup []
def Zw (xs:List (Int×Int×Bool)) (nl:Bool) (d:Int×Int×Int×(((Int×Int×Bool)×(Int×Int×Bool)->Prop)×((Int×Int×Bool)×(Int×Int×Bool)->Int))):List (Int×Int×Bool):=(SL d.2.2.2.2 xs 0 xs.length)
def QS:XSp:=Q58 (gap [] 3) (Q8n 129 (.pair (.i .i64) (.pair (.i .i64) .bo)) ZH XJ ZC Zw)
def Qu (xs:List (Int×Int×Bool)) (nl:Bool) (a:Int) (b:Int) (li:Int) (p:((Int×Int×Bool)×(Int×Int×Bool)->Prop)×((Int×Int×Bool)×(Int×Int×Bool)->Int)):Prop:=∀ vals:List Value,
 ∃ (e3:Unit) (d30:Unit),((True/\a=a/\b=b/\li=li/\(SV.pf [(.pair (.i .i64) (.pair (.i .i64) .bo)),(.pair (.i .i64) (.pair (.i .i64) .bo))] (.i .i64) p.1 p.2=SV.pf [(.pair (.i .i64) (.pair (.i .i64) .bo)),(.pair (.i .i64) (.pair (.i .i64) .bo))] (.i .i64) p.1 p.2)/\true=true/\true=true/\True)/\((xs=xs/\nl=nl)/\(vals=vals/\(True/\nS))/\True)) /\
 LoopP (λ(d3:Unit) (q3:(Unit)->Prop) =>
  (I64 (b-a))/\((decide ((b-a)<=(12:Int)))=true ->
   (0<=a/\a<=b/\b<=xs.length/\xs.length<=12/\(∀ x∈xs,∀ y∈xs,(λ(x1:(Int×Int×Bool)×(Int×Int×Bool))=>p.1 ((x1.1.1,(x1.1.2.1,x1.1.2.2)),(x1.2.1,(x1.2.2.1,x1.2.2.2)))) (x,y)))/\(vals=vals/\(True/\nS)/\(nS)/\((SL (λ(x1:(Int×Int×Bool)×(Int×Int×Bool))=>(p.2 ((x1.1.1,(x1.1.2.1,x1.1.2.2)),(x1.2.1,(x1.2.2.1,x1.2.2.2))))) xs a.toNat b.toNat)=(SL p.2 xs 0 xs.length)/\nl=nl))) /\
  ((decide ((b-a)<=(12:Int)))=false ->
   ((li==(0:Int))=true ->
    False) /\
   ((li==(0:Int))=false ->
    ((!true)=true ->
     False) /\
    ((!true)=false ->
     False)))) d30
def ZK:Cx:=⟨[],[],148,[],0,[(150,QC),(151,Q9c),(152,Q9c),(153,Q9c)],[],[],[],false,[],[],[],[]⟩
def ZL (xs:List (Int×Int×Bool)) (nl:Bool) (a:Int) (b:Int) (li:Int) (p:((Int×Int×Bool)×(Int×Int×Bool)->Prop)×((Int×Int×Bool)×(Int×Int×Bool)->Int)) (vals:List Value):List (Nat×LoopAnn):=[(0,⟨Unit,Unit,[0,1,2,3,4,10,11],λe x=>[.lst 0,.val (.i .i64) a,.val (.i .i64) b,.val (.i .i64) li,.pf [(.pair (.i .i64) (.pair (.i .i64) .bo)),(.pair (.i .i64) (.pair (.i .i64) .bo))] (.i .i64) p.1 p.2,.val .bo true,.val .bo true],λe x=>[(0,.slot 0,.lst 129 (.pair (.i .i64) (.pair (.i .i64) .bo)) xs nl),(4000000,.key 4000000,.stk [.lst 0] vals)]⟩)]
theorem XZ (xs:List (Int×Int×Bool)) (nl:Bool) (d:Int×Int×Int×(((Int×Int×Bool)×(Int×Int×Bool)->Prop)×((Int×Int×Bool)×(Int×Int×Bool)->Int))):(∀ vals,gwp ZK (ZL xs nl d.1 d.2.1 d.2.2.1 d.2.2.2 vals) J1c 0 (Q65 vals [] (ZC xs nl d) (.lst 129 (.pair (.i .i64) (.pair (.i .i64) .bo)) (Zw xs nl d) nl) (.lst 0)) (DH 148 (.lst 0) (.lst 129 (.pair (.i .i64) (.pair (.i .i64) .bo)) xs nl) vals (AL.can ZH d)))=Qu xs nl d.1 d.2.1 d.2.2.1 d.2.2.2:=by kernel_rfl
abbrev XW:Prop:=XOk Tryz.prog 133 QS
theorem W0 (h:∀ (xs:List (Int×Int×Bool)) (nl:Bool) (a:Int) (b:Int) (li:Int) (p:((Int×Int×Bool)×(Int×Int×Bool)->Prop)×((Int×Int×Bool)×(Int×Int×Bool)->Int)),(a=0/\b=xs.length/\xs.length<=12/\(∀ x∈xs,∀ y∈xs,p.1 (x,y)))->Qu xs nl a b li p):XOk Tryz.prog 133 QS :=
 Fi Z2l mixed (E1 .nil 3) (C:=ZK) ⟨.nil,(XsOk.cons JR (XsOk.cons Fy (XsOk.cons Fy (XsOk.cons Fy XsOk.nil)))),ItsOk.nil,YlOk.nil,IysOk.nil,XfOk.nil⟩ (L:=λxs nl (d:Int×Int×Int×(((Int×Int×Bool)×(Int×Int×Bool)->Prop)×((Int×Int×Bool)×(Int×Int×Bool)->Int))) vals=>ZL xs nl d.1 d.2.1 d.2.2.1 d.2.2.2 vals) (V:=λxs nl (d:Int×Int×Int×(((Int×Int×Bool)×(Int×Int×Bool)->Prop)×((Int×Int×Bool)×(Int×Int×Bool)->Int)))=>Qu xs nl d.1 d.2.1 d.2.2.1 d.2.2.2) XZ λxs nl d hp=>h xs nl d.1 d.2.1 d.2.2.1 d.2.2.2 hp
theorem XF:XW:=W0 λxs nl a b li p h=>by
 obtain⟨rfl,rfl,h2,h3⟩:=h;unfold Qu;(try delta lI gD sT I64 Z6 rg rb zD nS);intro vals;refine⟨(),(),(by simp_all),?_⟩;refine⟨λ_=>True,λ_=>0,trivial,?_⟩;rintro⟨⟩ -
 refine⟨by simp only[Qc];omega,(by simp_all),λc=>by simp at c;omega⟩
def Z3:AL (((Int×Int×Bool)×(Int×Int×Bool)->Prop)×((Int×Int×Bool)×(Int×Int×Bool)->Int)):=(.one (.fn [(.pair (.i .i64) (.pair (.i .i64) .bo)),(.pair (.i .i64) (.pair (.i .i64) .bo))] (.i .i64)))
def Jw (xs:List (Int×Int×Bool)) (nl:Bool) (d:((Int×Int×Bool)×(Int×Int×Bool)->Prop)×((Int×Int×Bool)×(Int×Int×Bool)->Int)):Prop:=xs.length<=12/\(∀ x∈xs,∀ y∈xs,d.1 (x,y))
def QZ (xs:List (Int×Int×Bool)) (nl:Bool) (d:((Int×Int×Bool)×(Int×Int×Bool)->Prop)×((Int×Int×Bool)×(Int×Int×Bool)->Int)):SV:=.tup []
def QW (xs:List (Int×Int×Bool)) (nl:Bool) (d:((Int×Int×Bool)×(Int×Int×Bool)->Prop)×((Int×Int×Bool)×(Int×Int×Bool)->Int)):List (Int×Int×Bool):=(SL d.2 xs 0 xs.length)
def Qz:XSp:=Q58 (gap [(60,Kc)] 3) (Q8n 129 (.pair (.i .i64) (.pair (.i .i64) .bo)) Z3 Jw QZ QW)
def Qi (xs:List (Int×Int×Bool)) (nl:Bool) (p:((Int×Int×Bool)×(Int×Int×Bool)->Prop)×((Int×Int×Bool)×(Int×Int×Bool)->Int)):Prop:=∀ vals:List Value,
 (InK .u64 (lI xs))/\(0<=(lI xs)/\(lI xs)<=255)/\((0:Int)=0/\(lI xs)=xs.length/\xs.length<=12/\(∀ x∈xs,∀ y∈xs,(λ(x1:(Int×Int×Bool)×(Int×Int×Bool))=>p.1 ((x1.1.1,(x1.1.2.1,x1.1.2.2)),(x1.2.1,(x1.2.2.1,x1.2.2.2)))) (x,y)))/\(vals=vals/\(True/\nS)/\(nS)/\((SL (λ(x1:(Int×Int×Bool)×(Int×Int×Bool))=>(p.2 ((x1.1.1,(x1.1.2.1,x1.1.2.2)),(x1.2.1,(x1.2.2.1,x1.2.2.2))))) xs 0 xs.length)=(SL p.2 xs 0 xs.length)/\nl=nl))
def Z4:Cx:=⟨[],[(134,Vp)],14,[],0,[(133,QS)],[],[],[],false,[],[],[],[]⟩
def Z5 (xs:List (Int×Int×Bool)) (nl:Bool) (p:((Int×Int×Bool)×(Int×Int×Bool)->Prop)×((Int×Int×Bool)×(Int×Int×Bool)->Int)) (vals:List Value):List (Nat×LoopAnn):=[]
theorem JG (xs:List (Int×Int×Bool)) (nl:Bool) (d:((Int×Int×Bool)×(Int×Int×Bool)->Prop)×((Int×Int×Bool)×(Int×Int×Bool)->Int)):(∀ vals,gwp Z4 (Z5 xs nl d vals) Z9r 0 (Q65 vals [] (QZ xs nl d) (.lst 129 (.pair (.i .i64) (.pair (.i .i64) .bo)) (QW xs nl d) nl) (.lst 0)) (DH 14 (.lst 0) (.lst 129 (.pair (.i .i64) (.pair (.i .i64) .bo)) xs nl) vals (AL.can Z3 d)))=Qi xs nl d:=by kernel_rfl
abbrev JF:Prop:=XOk Tryz.prog 103 Qz
theorem JC (h:∀ (xs:List (Int×Int×Bool)) (nl:Bool) (p:((Int×Int×Bool)×(Int×Int×Bool)->Prop)×((Int×Int×Bool)×(Int×Int×Bool)->Int)),(xs.length<=12/\(∀ x∈xs,∀ y∈xs,p.1 (x,y)))->Qi xs nl p):XOk Tryz.prog 103 Qz :=
 Fi Z2k mixed (E1 (.cons Dj .nil) 3) (C:=Z4) ⟨(.cons RK .nil),(XsOk.cons XF XsOk.nil),ItsOk.nil,YlOk.nil,IysOk.nil,XfOk.nil⟩ (L:=λxs nl (d:((Int×Int×Bool)×(Int×Int×Bool)->Prop)×((Int×Int×Bool)×(Int×Int×Bool)->Int)) vals=>Z5 xs nl d vals) (V:=λxs nl (d:((Int×Int×Bool)×(Int×Int×Bool)->Prop)×((Int×Int×Bool)×(Int×Int×Bool)->Int))=>Qi xs nl d) JG λxs nl d hp=>h xs nl d hp
theorem Jv:JF:=JC λxs nl p h=>by unfold Qi;grind [D3]
theorem Q0l (a b:Int):Iu a b=max a b:=by unfold Iu;split<;>omega
section
variable (nm:Nat->Int) (wo:Nat->Bool) (n:Nat)
def arP (a i:Nat):Nat:=(a+i) % n
def ChR (a:Nat):List Nat->Prop
 |[]=>False
 |[o]=>o=0
 |j::i::t=>i<j/\j<n/\wo (arP n a j)=false/\nm (arP n a i)<nm (arP n a j)/\ChR a (i::t)
def inR (at_:Nat) (r:List Int) (m:Nat):List Int:=(List.range m).foldl (λr b=>if 0<r.getD b 0/\wo at_=false/\nm b<nm at_ then r.set at_ (Iu (r.getD at_ 0) (r.getD b 0+1)) else r) r
def BO (a:Nat):Nat->List Int
 |0=>(List.replicate n 0).set a 1
 |k+1=>inR nm wo (arP n a k) (BO a k) n
def IV (a:Nat):Nat->Int
 |0=>0
 |k+1=>Iu (IV a k) ((BO nm wo n a (k+1)).getD (arP n a k) 0)
def Yc:Nat->Int
 |0=>0
 |k+1=>if wo k=true then Yc k else Iu (Yc k) (IV nm wo n k n)
end
section
variable {nm:Nat->Int}{wo:Nat->Bool}{n:Nat}
theorem Ra (hn:0<n) (a i:Nat):arP n a i<n:=xT _ hn
theorem Q1e {a i j:Nat}(ha:a<n) (hi:i<n) (hj:j<n) (h:arP n a i=arP n a j):i=j:=by
 unfold arP at h;have e:∀ k,k<n->(a+k) % n=if a+k<n then a+k else a+k-n:=λk hk=>by
  split
  .exact xn (by assumption)
  .rw[Nat.mod_eq_sub_mod (by omega),xn (by omega)]
 grind
theorem FX {a:Nat}(ha:a<n):arP n a 0=a:=xn ha
theorem Z03 {a p:Nat}(ha:a<n) (hp:p<n):∃ i,i<n/\arP n a i=p:=by
 by_cases h:a<=p
 .exact⟨p-a,by omega,by unfold arP;grind [Nat.mod_eq_of_lt]⟩
 .exact⟨p+n-a,by omega,by unfold arP;rw[show a+(p+n-a)=p+n by omega,Nat.add_mod_right,xn hp]⟩
theorem Q3e {at_:Nat}{r:List Int}{m:Nat}:inR nm wo at_ r (m+1)=if 0<(inR nm wo at_ r m).getD m 0/\wo at_=false/\nm m<nm at_ then (inR nm wo at_ r m).set at_ (Iu ((inR nm wo at_ r m).getD at_ 0) ((inR nm wo at_ r m).getD m 0+1)) else inR nm wo at_ r m:=by unfold inR;rw[List.range_succ,List.foldl_append];rfl
theorem Q7h {r:List Int}{i j:Nat}{v:Int}(hi:i<r.length):(r.set i v).getD j 0=if i=j then v else r.getD j 0:=by
 grind
theorem S4 {at_:Nat}{r:List Int}(dh:at_<r.length):∀ m,m<=r.length->(inR nm wo at_ r m).length=r.length/\(∀ p,p≠at_->(inR nm wo at_ r m).getD p 0=r.getD p 0)/\r.getD at_ 0<=(inR nm wo at_ r m).getD at_ 0 /\
  (∀ b,b<m->0<r.getD b 0->wo at_=false->nm b<nm at_->r.getD b 0+1<=(inR nm wo at_ r m).getD at_ 0) /\
  ((inR nm wo at_ r m).getD at_ 0=r.getD at_ 0\/∃ b,b<m/\0<r.getD b 0/\wo at_=false/\nm b<nm at_/\(inR nm wo at_ r m).getD at_ 0=r.getD b 0+1)
 |0,_=>⟨rfl,λ_ _=>rfl,Int.le_refl _,λb hb=>by omega,.inl rfl⟩
 |m+1,hm=>by
  obtain⟨h1,h2,h3,h4,h5⟩:=S4 dh m (by omega);rw[Q3e];by_cases hc:0<(inR nm wo at_ r m).getD m 0/\wo at_=false/\nm m<nm at_
  .rw[z6 hc];have fS:m≠at_:=λe=>by rw[e] at hc;omega
   have hb:=h2 m fS;have eg:=Q0l ((inR nm wo at_ r m).getD at_ 0) ((inR nm wo at_ r m).getD m 0+1);have a7:∀ p,((inR nm wo at_ r m).set at_ (Iu ((inR nm wo at_ r m).getD at_ 0) ((inR nm wo at_ r m).getD m 0+1))).getD p 0=if at_=p then Iu ((inR nm wo at_ r m).getD at_ 0) ((inR nm wo at_ r m).getD m 0+1) else (inR nm wo at_ r m).getD p 0:=λp=>Q7h (by rw[h1];exact dh)
   refine⟨by rw[zE];exact h1,λp hp=>?_,?_,λb bM bw kR lN=>?_,?_⟩
   .rw[a7,z7 (Ne.symm hp)];exact h2 p hp
   .rw[a7,z6 rfl];omega
   .rw[a7,z6 rfl];by_cases e:b=m
    .subst e;omega
    .have:=h4 b (by omega) bw kR lN;omega
   .rw[a7,z6 rfl];by_cases e:(inR nm wo at_ r m).getD at_ 0<=(inR nm wo at_ r m).getD m 0+1
    .exact .inr ⟨m,by omega,by omega,hc.2.1,hc.2.2,by omega⟩
    .rcases h5 with h5|⟨b,g1,g2,g3,g4,g5⟩
     .exact .inl (by omega)
     .exact .inr ⟨b,by omega,g2,g3,g4,by omega⟩
  grind
theorem Z2a {a:Nat}(hn:0<n):∀ {j:Nat}{t:List Nat},ChR nm wo n a (j::t)->j<n
 |j,[],h=>by have:j=0:=h;omega
 |j,i::t,h=>h.2.1
theorem I_ {a:Nat}(ha:a<n):∀ k,k<=n->(BO nm wo n a k).length=n/\(∀ j,j<n->0<=(BO nm wo n a k).getD (arP n a j) 0/\(0<(BO nm wo n a k).getD (arP n a j) 0->(j<k\/j=0)/\∃ t,ChR nm wo n a (j::t)/\((j::t).length:Int)=(BO nm wo n a k).getD (arP n a j) 0)) /\
  (∀ j t,(j<k\/j=0)->ChR nm wo n a (j::t)->((j::t).length:Int)<=(BO nm wo n a k).getD (arP n a j) 0)
 |0,_=>by
  have hn:0<n:=by omega
  have hl:(List.replicate n (0:Int)).length=n:=xK;have hz:∀ p,(List.replicate n (0:Int)).getD p 0=0:=(by grind);have hg:∀ j,(BO nm wo n a 0).getD j 0=if a=j then 1 else 0:=λj=>by
   show ((List.replicate n (0:Int)).set a 1).getD j 0=_
   grind
  refine⟨by show ((List.replicate n (0:Int)).set a 1).length=n;rw[zE,hl],λj hj=>?_,λj t hj hc=>?_⟩
  .rw[hg];refine⟨by split<;>omega,λh=>?_⟩;have e:a=arP n a j:=by
    omega
   have eJ:j=0:=(by grind [Q1e,FX]);subst eJ;exact⟨.inr rfl,[],rfl,by rw[z6 e];rfl⟩
  .have eJ:j=0:=by omega
   subst eJ;rw[hg,FX ha,z6 rfl];cases t with
   |nil=>simp
   |cons i t=>have:i<0:=hc.1;omega
 |k+1,hk=>by
  have hn:0<n:=by omega
  obtain⟨h1,h2,h3⟩:=I_ ha k (by omega);have dh:arP n a k<(BO nm wo n a k).length:=by rw[h1];exact Ra hn a k
  obtain⟨g1,g2,g3,g4,g5⟩:=S4 (nm:=nm) (wo:=wo) dh n (by omega);have e:BO nm wo n a (k+1)=inR nm wo (arP n a k) (BO nm wo n a k) n:=rfl;rw[e];have cE:∀ j,j<n->j≠k->(inR nm wo (arP n a k) (BO nm wo n a k) n).getD (arP n a j) 0=(BO nm wo n a k).getD (arP n a j) 0:=(by grind [Q1e]);refine⟨g1.trans h1,λj hj=>?_,λj t hj hc=>?_⟩
  .by_cases dq:j=k
   .subst dq;have hb:=(h2 j hj).1;refine⟨by omega,λhp=>⟨.inl (by omega),?_⟩⟩;rcases g5 with g5|⟨b,b1,b2,b3,b4,b5⟩
    .grind
    .obtain⟨i,hi,rfl⟩:=Z03 ha b1;obtain⟨wH,t,q1,q2⟩:=(h2 i hi).2 b2;have cT:i<j:=by
      grind
     refine⟨i::t,⟨cT,hj,b3,b4,q1⟩,?_⟩;rw[b5,<-q2];simp
   grind
  .have aO:=Z2a hn hc;by_cases dq:j=k
   .subst dq;cases t with
    |nil =>have eJ:j=0:=hc;have:=h3 j [] (.inr eJ) hc;omega
    |cons i t =>
     obtain⟨c1,c2,c3,c4,c5⟩:=hc;have hi:=h3 i t (.inl c1) c5;have bh:0<(BO nm wo n a j).getD (arP n a i) 0:=by simp only[zV] at hi;omega
     have:=g4 (arP n a i) (Ra hn a i) bh c3 c4;simp only[zV] at hi |-;omega
   grind
theorem OI {a:Nat}(ha:a<n):∀ k,k<=n->0<=IV nm wo n a k/\(∀ j t,j<k->ChR nm wo n a (j::t)->((j::t).length:Int)<=IV nm wo n a k)/\(IV nm wo n a k=0\/∃ j t,j<k/\ChR nm wo n a (j::t)/\((j::t).length:Int)=IV nm wo n a k)
 |0,_=>⟨Int.le_refl _,λj t h=>by omega,.inl rfl⟩
 |k+1,hk=>by
  obtain⟨h1,h2,h3⟩:=OI ha k (by omega);obtain⟨_,r2,r3⟩:=I_ (nm:=nm) (wo:=wo) ha (k+1) hk;have e:IV nm wo n a (k+1)=Iu (IV nm wo n a k) ((BO nm wo n a (k+1)).getD (arP n a k) 0):=rfl
  grind [Q0l]
theorem Ej:∀ k,k<=n->0<=Yc nm wo n k/\(∀ a,a<k->wo a=false->∀ j t,ChR nm wo n a (j::t)->((j::t).length:Int)<=Yc nm wo n k)/\(Yc nm wo n k=0\/∃ a,a<k/\wo a=false/\∃ j t,ChR nm wo n a (j::t)/\((j::t).length:Int)=Yc nm wo n k)
 |0,_=>⟨Int.le_refl _,λa h=>by omega,.inl rfl⟩
 |k+1,hk=>by
  obtain⟨h1,h2,h3⟩:=Ej k (by omega);obtain⟨m1,m2,m3⟩:=OI (nm:=nm) (wo:=wo) (show k<n by omega) n (z9 _);simp only[Yc];by_cases hw:wo k=true
  .grind
  .rw[z7 hw]
   grind [Q0l,Z2a]
end
def kpL (kp:Nat->Bool) (n:Nat):List Nat:=(List.range n).filter kp
def Z9m (l:List Int):Prop:=∃ A B,l=A++B/\(B++A).Pairwise (·<·)
def En (n a p:Nat):Nat:=if a<=p then p-a else p+n-a
section
variable {nm:Nat->Int}{wo:Nat->Bool}{n:Nat}
theorem L6 {a p:Nat}(ha:a<n) (hp:p<n):En n a p<n/\arP n a (En n a p)=p:=by
 unfold En arP;split
 .grind [Nat.mod_eq_of_lt]
 .exact⟨by omega,by rw[show a+(p+n-a)=p+n by omega,Nat.add_mod_right,xn hp]⟩
theorem FB {kp:Nat->Bool}{p:Nat}:p∈kpL kp n<->p<n/\kp p=true:=by unfold kpL;rw[xt,xk]
theorem Tz (kp:Nat->Bool) (n:Nat):(kpL kp n).Pairwise (·<·):=List.Pairwise.filter _ List.pairwise_lt_range
theorem TR {a:Nat}:∀ {L:List Nat},L.Pairwise (·<·)->L=L.filter (λp=>decide (p<a))++L.filter (λp=>!decide (p<a))
 |[],_=>rfl
 |x::t,h=>by
  obtain⟨h1,h2⟩:=xX.1 h;by_cases hx:x<a
  .rw[List.filter_cons_of_pos (by simpa using hx),List.filter_cons_of_neg (by simpa using hx),xq,<-TR h2]
  grind [List.filter_eq_nil_iff,List.filter_eq_self,List.filter_cons_of_neg,List.filter_cons_of_pos]
theorem Oz {a:Nat}(ha:a<n) (ju:wo a=false):∀ {R:List Nat},ChR nm wo n a R->R≠[]/\R.Pairwise (λx y=>y<x/\nm (arP n a y)<nm (arP n a x))/\∀ o∈R,o<n/\wo (arP n a o)=false
 |[],h=>h.elim
 |[o],h=>by
  have h0:o=0:=h
  grind [List.mem_singleton,FX]
 |j::i::t,h=>by
  obtain⟨h1,h2,h3,h4,h5⟩:=h;obtain⟨g1,g2,g3⟩:=Oz ha ju h5
  grind [List.pairwise_cons]
theorem Z39 {a:Nat}:∀ {R:List Nat}(aG:R≠[]),R.getLast aG=0->R.Pairwise (λx y=>y<x/\nm (arP n a y)<nm (arP n a x))->(∀ o∈R,o<n/\wo (arP n a o)=false)->ChR nm wo n a R
 |[],h,_,_,_=>(h rfl).elim
 |[o],_,h,_,_=>h
 |j::i::t,_,h,hp,ho=>by obtain⟨p1,p2⟩:=xX.1 hp;have h1:=p1 i (zn ..);have h2:=ho j (zn ..);exact⟨h1.1,h2.1,h2.2,h1.2,Z39 (R:=i::t) (by simp) (by simp_all) p2 (by simp_all)⟩
theorem Z4n {R:List Nat}{f:Nat->Int}(h:R.Pairwise (λx y=>y<x/\f y<f x)) {x y:Nat}(hx:x∈R) (hy:y∈R) (aj:x<y):f x<f y:=by
 grind [List.getElem_of_mem,List.pairwise_iff_getElem,Nat.lt_trichotomy]
theorem Q8a {a:Nat}(ha:a<n) (ju:wo a=false) {R:List Nat}(hc:ChR nm wo n a R):∃ kp:Nat->Bool,(∀ p,kp p=true->p<n/\wo p=false)/\Z9m ((kpL kp n).map nm)/\(kpL kp n).length=R.length:=by
 obtain⟨h1,h2,h3⟩:=Oz ha ju hc;have aP:∀ p,p∈kpL (λp=>decide (p∈R.map (arP n a))) n<->p∈R.map (arP n a):=λp=>by
  rw[FB,zh]
  grind [Ra]
 have aU:∀ p,p∈kpL (λp=>decide (p∈R.map (arP n a))) n->En n a p∈R/\p=arP n a (En n a p):=(by grind [Ra,L6,Q1e]);refine⟨λp=>decide (p∈R.map (arP n a)),λp hp=>?_,?_,?_⟩
 .obtain⟨o,ho,rfl⟩:=zS.1 (zu hp);exact⟨Ra (by omega) a o,(h3 o ho).2⟩
 .have hs:=Tz (λp=>decide (p∈R.map (arP n a))) n;have df:=TR (a:=a) hs;have aj:∀ p∈kpL (λp=>decide (p∈R.map (arP n a))) n,p<n:=λp hp=>(FB.1 hp).1;generalize kpL (λp=>decide (p∈R.map (arP n a))) n=L at *
  refine⟨(L.filter λp=>decide (p<a)).map nm,(L.filter λp=>!decide (p<a)).map nm,by rw[<-xS,<-df],?_⟩;rw[<-xS,yg];have fx:((L.filter λp=>!decide (p<a))++(L.filter λp=>decide (p<a))).Pairwise (λx y=>En n a x<En n a y):=by
   refine List.pairwise_append.2 ⟨(hs.filter _).imp_of_mem λ{x y} hx hy h=>?_,(hs.filter _).imp_of_mem λ{x y} hx hy h=>?_,λx hx y hy=>?_⟩
   .have q1:=(xt.1 hx).2;have q2:=(xt.1 hy).2;simp at q1 q2;unfold En;rw[z6 q1,z6 q2];omega
   .have q1:=(xt.1 hx).2;have q2:=(xt.1 hy).2;simp at q1 q2;unfold En;rw[z7 (by omega),z7 (by omega)];omega
   .have q1:=(xt.1 hx).2;have q2:=(xt.1 hy).2;have q3:=aj x (xt.1 hx).1;simp at q1 q2;unfold En;rw[z6 q1,z7 (by omega)];omega
  refine fx.imp_of_mem λ{x y} hx hy h=>?_;have mx:x∈L:=by
   grind
  have my:y∈L:=by
   grind
  obtain⟨x1,x2⟩:=aU x mx;obtain⟨y1,y2⟩:=aU y my;have:=Z4n (f:=λo=>nm (arP n a o)) h2 x1 y1 h
  grind
 .have ef:(R.map (arP n a)).Nodup:=by
   grind
  have hp:(kpL (λp=>decide (p∈R.map (arP n a))) n).Perm (R.map (arP n a)):=(xZ ((Tz _ n).imp λh=>by omega) ef).2 aP;rw[hp.length_eq,xG]
theorem Q5t {kp:Nat->Bool}(hk:∀ p,kp p=true->wo p=false) (aG:kpL kp n≠[]) (ho:Z9m ((kpL kp n).map nm)):∃ a,a<n/\wo a=false/\∃ j t,ChR nm wo n a (j::t)/\(j::t).length=(kpL kp n).length:=by
 have hs:=Tz kp n;have aP:∀ p∈kpL kp n,p<n/\wo p=false:=(by grind [FB]);generalize kpL kp n=L at *
 obtain⟨A,B,hL,hB,fx⟩:∃ A B:List Nat,L=A++B/\B≠[]/\((B++A).map nm).Pairwise (·<·):=by
  obtain⟨A',B',h1,h2⟩:=ho
  grind [List.map_eq_append_iff]
 cases B with
 |nil=>exact(hB rfl).elim
 |cons a B =>
 have vp:a∈L:=by rw[hL];simp
 obtain⟨ha,ju⟩:=aP a vp;rw[hL] at hs;obtain⟨s1,s2,s3⟩:=List.pairwise_append.1 hs;have bI:∀ p∈a::B,a<=p:=λp hp=>by
  rcases zN.1 hp with rfl|hp
  .exact z9 _
  .exact Nat.le_of_lt ((xX.1 s2).1 p hp)
 have aj:∀ p∈A,p<a:=(by simp_all);have hQ:∀ p∈(a::B)++A,p<n/\wo p=false:=(by grind);have aU:(((a::B)++A).map (En n a)).Pairwise (λx y=>x<y/\nm (arP n a x)<nm (arP n a y)):=by
  have h1:((a::B)++A).Pairwise (λx y=>En n a x<En n a y):=by
   refine List.pairwise_append.2 ⟨s2.imp_of_mem λ{x y} hx hy h=>?_,s1.imp_of_mem λ{x y} hx hy h=>?_,λx hx y hy=>?_⟩
   .have:=bI x hx;have:=bI y hy;unfold En;grind
   .have:=aj x hx;have:=aj y hy;unfold En;grind
   .have:=bI x hx;have:=aj y hy;have:=(hQ x (x_ _ hx)).1;unfold En;grind
  rw[yg];refine (h1.and (yg.1 fx)).imp_of_mem λ{x y} hx hy h=>⟨h.1,?_⟩
  grind [L6]
 have dI:ChR nm wo n a (((a::B)++A).map (En n a)).reverse:=by
  refine Z39 (by simp) ?_ (List.pairwise_reverse.2 aU) λo ho=>?_
  .rw[List.getLast_reverse];simp[En]
  .rw[List.mem_reverse] at ho;obtain⟨p,hp,rfl⟩:=zS.1 ho
   grind [L6]
 refine⟨a,ha,ju,?_⟩;have hlen:(((a::B)++A).map (En n a)).reverse.length=L.length:=by simp_all
 cases hr:(((a::B)++A).map (En n a)).reverse with
 |nil=>rw[hr] at dI;exact dI.elim
 |cons j t=>exact(by grind)
theorem Z18 (nm:Nat->Int) (wo:Nat->Bool) (n:Nat):(∀ kp:Nat->Bool,(∀ p,kp p=true->wo p=false)->Z9m ((kpL kp n).map nm)->((kpL kp n).length:Int)<=Yc nm wo n n) /\
  ∃ kp:Nat->Bool,(∀ p,kp p=true->p<n/\wo p=false)/\Z9m ((kpL kp n).map nm)/\((kpL kp n).length:Int)=Yc nm wo n n:=by
 obtain⟨h1,h2,h3⟩:=Ej (nm:=nm) (wo:=wo) (n:=n) n (z9 _);refine⟨λkp hk ho=>?_,?_⟩
 .by_cases aG:kpL kp n=[]
  .rw[aG];exact h1
  .obtain⟨a,ha,ju,j,t,hc,hl⟩:=Q5t hk aG ho
   grind
 .rcases h3 with h3|⟨a,ha,ju,j,t,hc,hl⟩
  .have e:kpL (λ_=>false) n=[]:=by unfold kpL;simp
   exact⟨λ_=>false,(λp hp=>by cases hp),(by rw[e];exact⟨[],[],rfl,.nil⟩),(by rw[e,h3];rfl)⟩
  grind [Q8a]
end
def woL (l:List Int) (p:Nat):Bool:=decide ((p:Int)∈l)
section
variable (nm:Nat->Int) (n:Nat)
def Ha:Int:=Yc nm (λ_=>false) n n
def mvK:Nat->List Int
 |0=>[]
 |k+1=>if ((mvK k).length:Int)+Ha nm n=n then mvK k else if Yc nm (woL (mvK k++[(k:Int)])) n n<Ha nm n then mvK k else mvK k++[(k:Int)]
end
section
variable {nm:Nat->Int}{n:Nat}
theorem OF (kp:Nat->Bool):∀ n,(kpL kp n).length+(kpL (λp=>!kp p) n).length=n
 |0=>rfl
 |n+1=>by
  have ih:=OF kp n;unfold kpL at ih |-
  grind [List.range_succ,List.length_append]
end
def Zc (l:List Int) (i:Int):Int:=if l.length=0 then 0 else l.getD (Int.tmod i l.length).toNat 0
theorem Q1x {l:List Int}{i:Int}(h:∀ x∈l,0<=x/\x<=255) (hi:0<=i):0<=Zc l i/\Zc l i<=255:=by
 unfold Zc
 grind [Int.tmod_eq_emod_of_nonneg,Int.emod_nonneg,Int.emod_lt_of_pos,Qf,List.getElem_mem]
theorem Q13 {l:List Int}(h:l.Pairwise (·<·)):∀ (m i:Nat) (hj:i+m<l.length),l[i]+(m:Int)<=l[i+m]
 |0,i,hj=>by simp
 |m+1,i,hj=>by have h1:=Q13 h m i (by omega);have h2:=List.pairwise_iff_getElem.1 h (i+m) (i+(m+1)) (by omega) hj (by omega);omega
theorem Z57 {l:List Int}(h:l.Pairwise (·<·)) (hb:∀ x∈l,0<=x/\x<l.length) {i:Nat}(hi:i<l.length):l[i]=(i:Int):=by
 have h1:=Q13 h i 0 (by omega);have h2:=Q13 h (l.length-1-i) i (by omega);have h3:=hb _ (zl (show 0<l.length by omega));have h4:=hb _ (zl (show i+(l.length-1-i)<l.length by omega));simp only[zU] at h1;omega
theorem Z0x {rows:List Int}{s:List YB}(hl:s.length=rows.length) (hs:(s.map (·.1)).Pairwise (·<·)) (hb:∀ c∈s,0<=c.1/\c.1<rows.length/\c.2.1=rows.getD c.1.toNat 0):(s.map λc=>((c.1,(c.2.1,false)):YB))=Ro rows:=by
 refine List.ext_getElem (by simp[Ro,hl]) λi h1 h2=>?_;have hi:i<s.length:=by simpa using h1
 have h3:=Z57 hs (λx hx=>by
  obtain⟨c,hc,rfl⟩:=zS.1 hx;have:=hb c hc;simp only[xG,hl];omega) (i:=i) (by simpa using hi)
 simp only[xN] at h3;obtain⟨-,-,h4⟩:=hb _ (zl hi);simp only[xN,Ro,List.getElem_range,h3,h4,zd]
theorem Q54 {α:Type}{l:List α}{i k:Nat}{d:α}(hi:i<l.length) (hk:k<l.length):((l.set i (l.getD k d)).set k (l.getD i d)).Perm l:=by
 grind [Qf,List.set_set_perm]
def Q5k (p:YB×YB):Int:=Q0n p.1.1 p.2.1
def Q8e (cs:List YB):List YB:=(SL Q5k cs 0 cs.length).map λc=>((c.1,(c.2.1,false)):YB)
theorem Q0f {x y:YB}:Q5k (x,y)<0<->x.1<y.1:=by unfold Q5k Q0n;grind
theorem Q8p {rows:List Int}{cs:List YB}(hl:cs.length=rows.length) (hn:(cs.map (·.1)).Nodup) (hb:∀ c∈cs,0<=c.1/\c.1<rows.length/\c.2.1=rows.getD c.1.toNat 0):Q8e cs=Ro rows:=by
 have hp:=LC (f:=Q5k) (a:=0) (z9 cs.length);have hs:=Q7y (f:=Q5k) (by grind [Q0f]) (λx y z h1 h2 h3=>by rw[Q0f] at h1 h2 h3;omega) cs;refine Z0x (hp.length_eq.trans hl) ?_ λc hc=>hb c (hp.mem_iff.1 hc);have fP:=(hp.map (·.1)).nodup_iff.2 hn;have dw:((SL Q5k cs 0 cs.length).map (·.1)).Pairwise (·<=·):=(by grind [Q0f]);exact(dw.and fP).imp (by omega)
theorem WJ (a:Int) (b:Bool) (m:List (Int×Bool)) (e:Int) (d:Bool):gq.aget (.i .i64) ((a,b)::m) e d=if e=a then b else gq.aget (.i .i64) m e d:=by show (if (e==a)=true then b else gq.aget (.i .i64) m e d)=_;simp only[zX]
theorem B7 (a:Int) (b:Bool) (m:List (Int×Bool)) (k:Int) (v:Bool):P3 (.i .i64) ((a,b)::m) k v=if k=a then (k,v)::m else (a,b)::P3 (.i .i64) m k v:=by show (if (k==a)=true then (k,v)::m else (a,b)::P3 (.i .i64) m k v)=_;simp only[zX]
theorem Q83 {F:List Int}{k:Int}(h:k∉F):P3 (.i .i64) (F.map λx=>(x,true)) k true=(F++[k]).map λx=>(x,true):=by
 induction F with
 |nil=>rfl
 |cons a F ih =>have h1:k≠a:=(by simp_all);have h2:k∉F:=λe=>h (zB _ e);simp only[zO,xq];rw[B7,z7 h1,ih h2]
theorem Q69 {F:List Int}{k:Int}:gq.aget (.i .i64) (F.map λx=>(x,true)) k false=decide (k∈F):=by
 induction F with
 |nil=>rfl
 |cons a F ih =>
  simp only[zO];rw[WJ,ih];by_cases e:k=a
  .simp[e]
  .simp[e]
def nmC (cs:List YB) (i:Nat):Int:=(cs.getD i WY).1
def woM (m:List (Int×Bool)) (p:Nat):Bool:=gq.aget (.i .i64) m (p:Int) false
def QL (hk:Int) (cs:List YB):Int:=if QJ hk cs≠0 then QJ hk cs else if (-1:Int)∈cs.map (·.1) then 9 else if (cs.map (·.1)).Nodup then 0 else 6
def Q09 (hk:Int) (cs:List YB):List Int:=if QL hk cs=0 then mvK (nmC cs) cs.length cs.length else []
def Ua (hk:Int) (cs:List YB):List YB:=if QL hk cs=0 then Q8e cs else []
def H7 (hk:Int) (cs:List YB):Int:=if QL hk cs=0 then hk else 0
theorem Pu:∀ {m:List (Int×Bool)}{k:Int},(∀ p∈m,p.2=true)->gq.aget (.i .i64) m k false=true->(P3 (.i .i64) m k true).length=m.length/\∀ p∈P3 (.i .i64) m k true,p.2=true
 |[],k,_,h=>by cases h
 |(a,b)::m,k,ht,h=>by
  rw[WJ] at h;rw[B7];by_cases e:k=a
  .simp_all
  .rw[z7 e] at h |-;obtain⟨h1,h2⟩:=Pu (m:=m) (k:=k) (by simp_all) h;simp_all
theorem NW:∀ {m:List (Int×Bool)}{k:Int},(∀ p∈m,p.2=true)->gq.aget (.i .i64) m k false=false->(P3 (.i .i64) m k true).length=m.length+1/\∀ p∈P3 (.i .i64) m k true,p.2=true
 |[],k,_,h=>⟨rfl,λp hp=>by
   have hp:p∈[(k,true)]:=hp;rw[zK.1 hp]⟩
 |(a,b)::m,k,ht,h=>by
  rw[WJ] at h;rw[B7];by_cases e:k=a
  .simp_all
  .rw[z7 e] at h |-;obtain⟨h1,h2⟩:=NW (m:=m) (k:=k) (by simp_all) h;simp_all
theorem OE (k:Int) (v:Bool):∀ (m:List (Int×Bool)) (e:Int),gq.aget (.i .i64) (P3 (.i .i64) m k v) e false=if e=k then v else gq.aget (.i .i64) m e false
 |[],e=>by have:P3 (.i .i64) ([]:List (Int×Bool)) k v=[(k,v)]:=rfl;rw[this,WJ]
 |(a,b)::m,e=>by
  rw[B7];by_cases h:k=a
  .subst h;rw[z6 rfl,WJ,WJ];split<;>rfl
  .rw[z7 h,WJ,WJ,OE k v m e]
   grind
structure SeenI (l:List Int) (m:List (Int×Bool)) (k:Nat):Prop where
 get:∀ x,gq.aget (.i .i64) m x false=decide (x∈l.take k)
 tr:∀ p∈m,p.2=true
 le:m.length<=k
 nd:m.length=k<->(l.take k).Nodup
theorem SeenI.nil (l:List Int):SeenI l [] 0:=⟨λx=>by simp[gq.aget],(λp hp=>by cases hp),z9 _,by simp⟩
theorem SeenI.put {l:List Int}{m:List (Int×Bool)}{k:Nat}(h:SeenI l m k) (hk:k<l.length):SeenI l (P3 (.i .i64) m (l.getD k 0) true) (k+1):=by
 have et:l.take (k+1)=l.take k++[l.getD k 0]:=by rw[QV hk,Qf hk]
 have hle:=h.le;refine⟨λx=>?_,?_,?_,?_⟩
 .rw[OE,et];by_cases e:x=l.getD k 0
  .grind
  .rw[z7 e,h.get]
   grind
 .cases c:gq.aget (.i .i64) m (l.getD k 0) false with
  |true=>exact(Pu h.tr c).2
  |false=>exact(NW h.tr c).2
 .cases c:gq.aget (.i .i64) m (l.getD k 0) false with
  |true=>rw[(Pu h.tr c).1];omega
  |false=>rw[(NW h.tr c).1];omega
 .rw[et,List.nodup_append];have c1:=h.get (l.getD k 0);cases c:gq.aget (.i .i64) m (l.getD k 0) false with
  |true =>rw[c] at c1;rw[(Pu h.tr c).1];refine⟨λe=>by omega,λe=>?_⟩;exact(by grind)
  |false =>
   rw[c] at c1;rw[(NW h.tr c).1];have c2:=zC c1.symm;refine⟨λe=>⟨h.nd.1 (by omega),by simp,λa ha b hb e2=>?_⟩,λe=>?_⟩
   .simp_all
   .have:=h.nd.2 e.1;omega
theorem SeenI.full {l:List Int}{m:List (Int×Bool)}(h:SeenI l m l.length):gq.aget (.i .i64) m (-1) false=decide ((-1:Int)∈l)/\(decide ((m.length:Int)<(l.length:Int))=decide (¬ l.Nodup)):=by
 have h1:=h.get (-1);have h2:=h.nd;have h3:=h.le
 grind
theorem Q6a (nm:Nat->Int) (wo:Nat->Bool) (n:Nat):0<=Yc nm wo n n/\Yc nm wo n n<=n/\∀ k,k<n->wo k=true->Yc nm wo n n<n:=by
 obtain⟨kp,h1,_,h3⟩:=(Z18 nm wo n).2;have hc:=OF kp n;refine⟨by omega,by omega,λk hk hw=>?_⟩;have hf:kp k=false:=by
  grind
 have hm:k∈kpL (λp=>!kp p) n:=FB.2 ⟨hk,by rw[hf];rfl⟩
 grind
theorem Q7n (nm:Nat->Int) (n:Nat):∀ k,(mvK nm n k).length<=k
 |0=>z9 _
 |k+1=>by
  have:=Q7n nm n k;unfold mvK
  grind
theorem Q2k (nm:Nat->Int) (n:Nat):∀ k,∀ x∈mvK nm n k,x<(k:Int)
 |0,x,h=>by cases h
 |k+1,x,h=>by
  unfold mvK at h;split at h
  .have:=Q2k nm n k x h;omega
  .split at h
   .have:=Q2k nm n k x h;omega
   .rcases xd.1 h with h|h
    .have:=Q2k nm n k x h;omega
    .rw[zK.1 h];omega
theorem Q1z {nm:Nat->Int}{n j:Nat}(h:((mvK nm n j).length:Int)+Ha nm n=n):∀ d,mvK nm n (j+d)=mvK nm n j
 |0=>rfl
 |d+1=>by have ih:=Q1z h d;show (if ((mvK nm n (j+d)).length:Int)+Ha nm n=n then mvK nm n (j+d) else _)=_;rw[ih,z6 h]
theorem Z4m (F:List Int):woM (F.map λx=>(x,true))=woL F:=by
 funext p
 unfold woM woL;exact Q69
theorem Q6b {F:List Int}{k:Int}(h:k∉F):Q9d (.i .i64) ((F++[k]).map λx=>(x,true)) k=F.map λx=>(x,true):=by
 have st:∀ (a:Int) (m:List (Int×Bool)),Q9d (.i .i64) ((a,true)::m) k=if k=a then m else (a,true)::Q9d (.i .i64) m k:=λa m=>by show (if (k==a)=true then m else (a,true)::Q9d (.i .i64) m k)=_;simp only[zX]
 induction F with
 |nil =>rw[xD,zO,st,z6 rfl]
 |cons a F ih =>have h1:k≠a:=(by simp_all);rw[xq,zO,st,z7 h1,ih λe=>h (zB _ e)];rfl
theorem Q1i {nm:Nat->Int}{wo:Nat->Bool}{n a:Nat}(ha:a<n):∀ k,k<=n->(BO nm wo n a k).length=n/\∀ p,(BO nm wo n a k).getD p 0<=(k:Int)+1
 |0,_=>by
  refine⟨by simp[BO],λp=>?_⟩;show ((List.replicate n (0:Int)).set a 1).getD p 0<=_
  grind
 |k+1,hk=>by
  obtain⟨h1,h2⟩:=Q1i ha k (by omega) (nm:=nm) (wo:=wo);have dh:arP n a k<(BO nm wo n a k).length:=by rw[h1];exact Ra (by omega) a k
  obtain⟨i1,i2,_,_,i5⟩:=S4 (nm:=nm) (wo:=wo) dh n (by omega);have e:BO nm wo n a (k+1)=inR nm wo (arP n a k) (BO nm wo n a k) n:=rfl
  grind
theorem Z92 {nm:Nat->Int}{wo:Nat->Bool}{n a k m:Nat}(ha:a<n) (hk:k<n) (hm:m<=n):(inR nm wo (arP n a k) (BO nm wo n a k) m).length=n/\∀ p,(inR nm wo (arP n a k) (BO nm wo n a k) m).getD p 0<=(k:Int)+2:=by
 grind [Q1i,Ra,S4]
def HH:AL (Int×List (Int×Int×Bool)):=(.one (.agg (.cons (.k (.i .i64)) (.one (.k (.list (.pair (.i .i64) (.pair (.i .i64) .bo))))))))
def CB (d:Int×List (Int×Int×Bool)):Prop:=d.2.length<=1000/\(QL d.1 d.2=0->d.2.length<=12)
def BP (d:Int×List (Int×Int×Bool)):SV:=.tup [.agg [.val (.i .i64) (H7 d.1 d.2),.lst 0],.val (.i .i64) (QL d.1 d.2)]
def Bp (d:Int×List (Int×Int×Bool)):List OB:=[.lst 129 (.pair (.i .i64) (.pair (.i .i64) .bo)) (Ua d.1 d.2) ((Ua d.1 d.2).isEmpty)]
def Dc:CSp:=Wt HH CB BP Bp
abbrev Va :=((nS)/\(True/\nS))
abbrev Fl :=(Va/\((nS)/\(nS))/\True/\True/\True/\True/\Va/\True/\True/\True/\True/\True/\nS)
abbrev DQ (hk:Int) (cs:List (Int×Int×Bool)):=(((Ua hk cs)=[]/\(Ua hk cs).isEmpty=true)/\True)
abbrev Bc (hk:Int) (cs:List (Int×Int×Bool)):=((0:Int)=(H7 hk cs)/\True/\nS)
abbrev FL :=(True/\Va/\True/\True/\True/\True/\Va/\True/\True/\True/\True/\True/\True/\nS)
abbrev Fg :=(λ(x1:(Int×Int×Bool)×(Int×Int×Bool))=>(Q0n x1.1.1 x1.2.1))
abbrev FW :=(λ(x2:(Int×Int×Bool)×(Int×Int×Bool))=>(Q0n x2.1.1 x2.2.1))
abbrev FJ :=(Va/\True/\True/\Va/\True/\nS)
def Vf (hk:Int) (cs:List (Int×Int×Bool)):Prop :=
 ∀ w1:List Value,∀ w2:List Value,(True)/\((!(inI hk 1 24))=true ->
  w2=w2/\w1=w1/\(((Bc hk cs)/\(3:Int)=(QL hk cs)/\nS)/\(DQ hk cs))) /\
 ((!(inI hk 1 24))=false ->
  (((decide ((lI cs) > (60:Int)))=true ->
   w2=w2/\w1=w1/\(((Bc hk cs)/\(5:Int)=(QL hk cs)/\nS)/\(DQ hk cs))) /\
  ((decide ((lI cs) > (60:Int)))=false ->
   (1<=hk/\hk<=24/\cs.length<=1000000)/\((!(!cs.isEmpty&&!(cs.any λc=>!Zv hk c)))=true ->
    w2=w2/\w1=w1/\(((Bc hk cs)/\(2:Int)=(QL hk cs)/\nS)/\(DQ hk cs))) /\
   ((!(!cs.isEmpty&&!(cs.any λc=>!Zv hk c)))=false ->
    w2=w2/\∃ (e5:Int×(List (Int×Int×Bool))×Int×Int×Int×(List (Int×Int×Bool))×Int×(List (Int×Int×Bool))×Int×Int×(List (Int×Int×Bool))×Int×(List (Int×Int×Bool))×Int×Int×Int×(List (Int×Int×Bool))×(List Value)) (d50:(List (Int×Bool))×Int),((True/\True/\True/\True/\cs=(q4 e5).2.2.2.1/\(lI cs)=(q4 (q4 e5)).1/\(0:Int)=d50.2/\True)/\((hk=e5.1/\cs=e5.2.1/\nS)/\((0:Int)=e5.2.2.1/\True/\(0:Int)=e5.2.2.2.1/\nS)/\(hk=(q4 e5).1/\cs=(q4 e5).2.1/\hk=(q4 e5).2.2.1/\nS)/\(([]:List (Int×Bool))=d50.1)/\((q4 (q4 (q4 (q4 e5)))).2=w1/\((hk=(q4 (q4 e5)).2.1/\cs=(q4 (q4 e5)).2.2.1/\nS)/\True/\True/\(0:Int)=(q4 (q4 (q4 e5))).2.2.1/\True/\True/\True/\True/\(hk=(q4 (q4 (q4 e5))).2.2.2.1/\cs=(q4 (q4 (q4 (q4 e5)))).1/\nS)/\True/\True/\True/\True/\True/\True/\True/\True/\True/\True/\True/\True/\True/\True/\True/\True/\True/\True/\True/\True/\True/\True/\True/\True/\True/\nS))/\(hk=(q4 (q4 e5)).2.2.2.1/\cs=(q4 (q4 (q4 e5))).1/\nS)/\((0:Int)=(q4 (q4 (q4 e5))).2.1/\True/\nS)/\True)) /\
    LoopP (λ(d5:(List (Int×Bool))×Int) (q5:((List (Int×Bool))×Int)->Prop) =>
     ((decide (d5.2<(q4 (q4 e5)).1))=true ->
      (0<=d5.2)/\(d5.2<(q4 e5).2.2.2.1.length)/\(I64 (d5.2+(1:Int)))/\(∃ d6:(List (Int×Bool))×Int,((True/\True/\True/\True/\(q4 e5).2.2.2.1=(q4 e5).2.2.2.1/\(q4 (q4 e5)).1=(q4 (q4 e5)).1/\(d5.2+(1:Int))=d6.2/\True)/\((e5.1=e5.1/\e5.2.1=e5.2.1/\nS)/\(e5.2.2.1=e5.2.2.1/\True/\e5.2.2.2.1=e5.2.2.2.1/\nS)/\((q4 e5).1=(q4 e5).1/\(q4 e5).2.1=(q4 e5).2.1/\(q4 e5).2.2.1=(q4 e5).2.2.1/\nS)/\((P3 (.i .i64) d5.1 (gD (q4 e5).2.2.2.1 d5.2 (0,(0,false))).1 true)=d6.1)/\((q4 (q4 (q4 (q4 e5)))).2=(q4 (q4 (q4 (q4 e5)))).2/\(((q4 (q4 e5)).2.1=(q4 (q4 e5)).2.1/\(q4 (q4 e5)).2.2.1=(q4 (q4 e5)).2.2.1/\nS)/\True/\True/\(q4 (q4 (q4 e5))).2.2.1=(q4 (q4 (q4 e5))).2.2.1/\True/\True/\True/\True/\((q4 (q4 (q4 e5))).2.2.2.1=(q4 (q4 (q4 e5))).2.2.2.1/\(q4 (q4 (q4 (q4 e5)))).1=(q4 (q4 (q4 (q4 e5)))).1/\nS)/\True/\True/\True/\True/\True/\True/\True/\True/\True/\True/\True/\True/\True/\True/\True/\True/\True/\True/\True/\True/\True/\True/\True/\True/\True/\nS))/\((q4 (q4 e5)).2.2.2.1=(q4 (q4 e5)).2.2.2.1/\(q4 (q4 (q4 e5))).1=(q4 (q4 (q4 e5))).1/\nS)/\((q4 (q4 (q4 e5))).2.1=(q4 (q4 (q4 e5))).2.1/\True/\nS)/\True))/\q5 d6)) /\
     ((decide (d5.2<(q4 (q4 e5)).1))=false ->
      ((gq.aget (.i .i64) d5.1 (-1:Int) false)=true ->
       (q4 (q4 (q4 (q4 e5)))).2=w1/\(((Bc hk cs)/\(9:Int)=(QL hk cs)/\nS)/\(DQ hk cs))) /\
      ((gq.aget (.i .i64) d5.1 (-1:Int) false)=false ->
       ((decide ((lI d5.1)<(lI e5.2.1)))=true ->
        (q4 (q4 (q4 (q4 e5)))).2=w1/\(((Bc hk cs)/\(6:Int)=(QL hk cs)/\nS)/\(DQ hk cs))) /\
       ((decide ((lI d5.1)<(lI e5.2.1)))=false ->
        (q4 (q4 (q4 (q4 e5)))).2=w1/\∀ w7:List Value,w7=w7/\∀ w8:List Value,∀ w9:List Value,∀ oo:List Value,∀ lU:LpD,∃ (av:(List (Int×Int×Bool))×Int×Int×(List (Int×Int×Bool))×Int×(List (Int×Int×Bool))×Int×Int×Int×(List (Int×Int×Bool))×Int×Int×Int×(List (Int×Int×Bool))×Int×Int×Int×(List (Int×Int×Bool))×Int×(List (Int×Int×Bool))×Int×Int×Int×(List (Int×Int×Bool))×Int×Int×Int×(List (Int×Int×Bool))×(List (Int×Int×Bool))×(List Value)×(List Value)×(List Value)×LpD) (d150:Int×(List (Int×Int×Bool))),((True/\(q4 (q4 (q4 e5))).1=av.1/\(lI (q4 (q4 (q4 e5))).1)=av.2.1/\(0:Int)=d150.1/\True)/\(((q4 (q4 (q4 (q4 (q4 (q4 (q4 av))))))).2.1=w8/\(((q4 (q4 e5)).2.1=av.2.2.1/\(q4 (q4 e5)).2.2.1=av.2.2.2.1/\nS)/\True/\True/\(q4 (q4 (q4 e5))).2.2.1=(q4 av).2.2.2.1/\True/\(0:Int)=(q4 (q4 av)).2.2.2.1/\True/\(((q4 e5).1=(q4 (q4 (q4 av))).1/\(q4 e5).2.1=(q4 (q4 (q4 av))).2.1/\(q4 e5).2.2.1=(q4 (q4 (q4 av))).2.2.1/\nS)/\(0:Int)=(q4 (q4 (q4 av))).2.2.2.1/\nS)/\((q4 (q4 (q4 e5))).2.2.2.1=(q4 (q4 (q4 (q4 av)))).1/\(q4 (q4 (q4 (q4 e5)))).1=(q4 (q4 (q4 (q4 av)))).2.1/\nS)/\(((q4 e5).1=(q4 (q4 (q4 (q4 av)))).2.2.1/\(q4 e5).2.1=(q4 (q4 (q4 (q4 av)))).2.2.2.1/\(q4 e5).2.2.1=(q4 (q4 (q4 (q4 (q4 av))))).1/\nS)/\(0:Int)=(q4 (q4 (q4 (q4 (q4 av))))).2.1/\nS)/\((q4 e5).1=(q4 (q4 (q4 (q4 (q4 av))))).2.2.1/\(q4 e5).2.1=(q4 (q4 (q4 (q4 (q4 av))))).2.2.2.1/\(q4 e5).2.2.1=(q4 (q4 (q4 (q4 (q4 (q4 av)))))).1/\nS)/\(0:Int)=(q4 (q4 (q4 (q4 (q4 (q4 av)))))).2.1/\(0:Int)=(q4 (q4 (q4 (q4 (q4 (q4 av)))))).2.2.1/\True/\True/\True/\True/\(q4 (q4 (q4 e5))).1=(q4 (q4 (q4 (q4 (q4 (q4 av)))))).2.2.2.1/\Va/\True/\True/\True/\True/\True/\True/\True/\True/\True/\True/\True/\True/\True/\True/\True/\nS))/\((q4 (q4 e5)).2.2.2.1=(q4 av).1/\(q4 (q4 (q4 e5))).1=(q4 av).2.1/\nS)/\((q4 (q4 (q4 e5))).2.1=(q4 av).2.2.1/\True/\nS)/\((q4 e5).1=(q4 (q4 av)).1/\(q4 e5).2.1=(q4 (q4 av)).2.1/\(q4 e5).2.2.1=(q4 (q4 av)).2.2.1/\nS)/\((q4 (q4 (q4 e5))).1=(q4 (q4 (q4 (q4 (q4 (q4 (q4 av))))))).1/\nS)/\((q4 (q4 (q4 (q4 (q4 (q4 (q4 av))))))).2.2.1=w9/\Fl)/\((q4 (q4 (q4 (q4 (q4 (q4 (q4 av))))))).2.2.2.1=oo/\FJ)/\((q4 (q4 (q4 (q4 (q4 (q4 (q4 (q4 av))))))))=lU/\FL)/\(True/\nS)/\(d150.2=[]/\d150.2.isEmpty=true)/\True)) /\
        LoopP (λ(d15:Int×(List (Int×Int×Bool))) (ri:(Int×(List (Int×Int×Bool)))->Prop) =>
         ((decide (d15.1<av.2.1))=true ->
          (0<=d15.1)/\(d15.1<(List.length av.1))/\(q4 (q4 (q4 (q4 (q4 (q4 (q4 (q4 av))))))))=lU/\∀ sK:List Value,((d15.2.length+(List.length [((gD av.1 d15.1 (0,(0,false))).1,((gD av.1 d15.1 (0,(0,false))).2.1,(gD av.1 d15.1 (0,(0,false))).2.2))]))*24<=70368744177664)/\sK=sK/\(q4 (q4 (q4 (q4 (q4 (q4 (q4 (q4 av))))))))=lU/\((!true)=true ->
           (q4 (q4 (q4 (q4 (q4 (q4 (q4 (q4 av))))))))=lU/\(q4 (q4 (q4 (q4 (q4 (q4 (q4 av))))))).2.2.2.1=oo/\(q4 (q4 (q4 (q4 (q4 (q4 (q4 av))))))).2.2.1=w9/\((d15.2++[((gD av.1 d15.1 (0,(0,false))).1,((gD av.1 d15.1 (0,(0,false))).2.1,(gD av.1 d15.1 (0,(0,false))).2.2))]).length<=12/\(∀ x∈(d15.2++[((gD av.1 d15.1 (0,(0,false))).1,((gD av.1 d15.1 (0,(0,false))).2.1,(gD av.1 d15.1 (0,(0,false))).2.2))]),∀ y∈(d15.2++[((gD av.1 d15.1 (0,(0,false))).1,((gD av.1 d15.1 (0,(0,false))).2.1,(gD av.1 d15.1 (0,(0,false))).2.2))]),(λ(x1:(Int×Int×Bool)×(Int×Int×Bool))=>True) (x,y)))/\(q4 (q4 (q4 (q4 (q4 (q4 (q4 av))))))).2.1=w8/\∃ (oq:Int) (d170:(List (Int×Int×Bool))×Int),((True/\True/\(lI (SL Fg (d15.2++[((gD av.1 d15.1 (0,(0,false))).1,((gD av.1 d15.1 (0,(0,false))).2.1,(gD av.1 d15.1 (0,(0,false))).2.2))]) 0 (d15.2++[((gD av.1 d15.1 (0,(0,false))).1,((gD av.1 d15.1 (0,(0,false))).2.1,(gD av.1 d15.1 (0,(0,false))).2.2))]).length))=oq/\(0:Int)=d170.2/\True)/\(((q4 av).1=hk/\True/\nS)/\((SL Fg (d15.2++[((gD av.1 d15.1 (0,(0,false))).1,((gD av.1 d15.1 (0,(0,false))).2.1,(gD av.1 d15.1 (0,(0,false))).2.2))]) 0 (d15.2++[((gD av.1 d15.1 (0,(0,false))).1,((gD av.1 d15.1 (0,(0,false))).2.1,(gD av.1 d15.1 (0,(0,false))).2.2))]).length)=d170.1/\false=d170.1.isEmpty)/\((q4 av).2.2.1=(0:Int)/\True/\nS)/\True)) /\
           LoopP (λ(d17:(List (Int×Int×Bool))×Int) (vq:((List (Int×Int×Bool))×Int)->Prop) =>
            ((decide (d17.2<oq))=true ->
             (0<=d17.2)/\(d17.2<d17.1.length)/\(I64 (d17.2+(1:Int)))/\(∃ d18:(List (Int×Int×Bool))×Int,((True/\True/\oq=oq/\(d17.2+(1:Int))=d18.2/\True)/\((hk=hk/\True/\nS)/\((sT d17.1 d17.2 ((gD d17.1 d17.2 (0,(0,false))).1,((gD d17.1 d17.2 (0,(0,false))).2.1,false)))=d18.1/\d17.1.isEmpty=d18.1.isEmpty)/\((0:Int)=(0:Int)/\True/\nS)/\True))/\vq d18)) /\
            ((decide (d17.2<oq))=false ->
             (((hk=(H7 hk cs)/\True/\nS)/\(0:Int)=(QL hk cs)/\nS)/\((d17.1=(Ua hk cs)/\d17.1.isEmpty=(Ua hk cs).isEmpty)/\True)))) d170) /\
          ((!true)=false ->
           (I64 (d15.1+(1:Int)))/\(∃ d19:Int×(List (Int×Int×Bool)),((True/\av.1=av.1/\av.2.1=av.2.1/\(d15.1+(1:Int))=d19.1/\True)/\(((q4 (q4 (q4 (q4 (q4 (q4 (q4 av))))))).2.1=(q4 (q4 (q4 (q4 (q4 (q4 (q4 av))))))).2.1/\((av.2.2.1=av.2.2.1/\av.2.2.2.1=av.2.2.2.1/\nS)/\True/\True/\(q4 av).2.2.2.1=(q4 av).2.2.2.1/\True/\(q4 (q4 av)).2.2.2.1=(q4 (q4 av)).2.2.2.1/\True/\(((q4 (q4 (q4 av))).1=(q4 (q4 (q4 av))).1/\(q4 (q4 (q4 av))).2.1=(q4 (q4 (q4 av))).2.1/\(q4 (q4 (q4 av))).2.2.1=(q4 (q4 (q4 av))).2.2.1/\nS)/\(q4 (q4 (q4 av))).2.2.2.1=(q4 (q4 (q4 av))).2.2.2.1/\nS)/\((q4 (q4 (q4 (q4 av)))).1=(q4 (q4 (q4 (q4 av)))).1/\(q4 (q4 (q4 (q4 av)))).2.1=(q4 (q4 (q4 (q4 av)))).2.1/\nS)/\(((q4 (q4 (q4 (q4 av)))).2.2.1=(q4 (q4 (q4 (q4 av)))).2.2.1/\(q4 (q4 (q4 (q4 av)))).2.2.2.1=(q4 (q4 (q4 (q4 av)))).2.2.2.1/\(q4 (q4 (q4 (q4 (q4 av))))).1=(q4 (q4 (q4 (q4 (q4 av))))).1/\nS)/\(q4 (q4 (q4 (q4 (q4 av))))).2.1=(q4 (q4 (q4 (q4 (q4 av))))).2.1/\nS)/\((q4 (q4 (q4 (q4 (q4 av))))).2.2.1=(q4 (q4 (q4 (q4 (q4 av))))).2.2.1/\(q4 (q4 (q4 (q4 (q4 av))))).2.2.2.1=(q4 (q4 (q4 (q4 (q4 av))))).2.2.2.1/\(q4 (q4 (q4 (q4 (q4 (q4 av)))))).1=(q4 (q4 (q4 (q4 (q4 (q4 av)))))).1/\nS)/\(q4 (q4 (q4 (q4 (q4 (q4 av)))))).2.1=(q4 (q4 (q4 (q4 (q4 (q4 av)))))).2.1/\(q4 (q4 (q4 (q4 (q4 (q4 av)))))).2.2.1=(q4 (q4 (q4 (q4 (q4 (q4 av)))))).2.2.1/\True/\True/\True/\True/\(q4 (q4 (q4 (q4 (q4 (q4 av)))))).2.2.2.1=(q4 (q4 (q4 (q4 (q4 (q4 av)))))).2.2.2.1/\Va/\True/\True/\True/\True/\True/\True/\True/\True/\True/\True/\True/\True/\True/\True/\True/\nS))/\((q4 av).1=(q4 av).1/\(q4 av).2.1=(q4 av).2.1/\nS)/\((q4 av).2.2.1=(q4 av).2.2.1/\True/\nS)/\((q4 (q4 av)).1=(q4 (q4 av)).1/\(q4 (q4 av)).2.1=(q4 (q4 av)).2.1/\(q4 (q4 av)).2.2.1=(q4 (q4 av)).2.2.1/\nS)/\((q4 (q4 (q4 (q4 (q4 (q4 (q4 av))))))).1=(q4 (q4 (q4 (q4 (q4 (q4 (q4 av))))))).1/\nS)/\((q4 (q4 (q4 (q4 (q4 (q4 (q4 av))))))).2.2.1=(q4 (q4 (q4 (q4 (q4 (q4 (q4 av))))))).2.2.1/\Fl)/\((q4 (q4 (q4 (q4 (q4 (q4 (q4 av))))))).2.2.2.1=(q4 (q4 (q4 (q4 (q4 (q4 (q4 av))))))).2.2.2.1/\FJ)/\((q4 (q4 (q4 (q4 (q4 (q4 (q4 (q4 av))))))))=(q4 (q4 (q4 (q4 (q4 (q4 (q4 (q4 av))))))))/\FL)/\(True/\nS)/\((d15.2++[((gD av.1 d15.1 (0,(0,false))).1,((gD av.1 d15.1 (0,(0,false))).2.1,(gD av.1 d15.1 (0,(0,false))).2.2))])=d19.2/\false=d19.2.isEmpty)/\True))/\ri d19))) /\
         ((decide (d15.1<av.2.1))=false ->
          (q4 (q4 (q4 (q4 (q4 (q4 (q4 (q4 av))))))))=lU/\(q4 (q4 (q4 (q4 (q4 (q4 (q4 av))))))).2.2.2.1=oo/\(q4 (q4 (q4 (q4 (q4 (q4 (q4 av))))))).2.2.1=w9/\(d15.2.length<=12/\(∀ x∈d15.2,∀ y∈d15.2,(λ(x2:(Int×Int×Bool)×(Int×Int×Bool))=>True) (x,y)))/\(q4 (q4 (q4 (q4 (q4 (q4 (q4 av))))))).2.1=w8/\∃ (ot:Int) (jG:(List (Int×Int×Bool))×Int),((True/\True/\(lI (SL FW d15.2 0 d15.2.length))=ot/\(0:Int)=jG.2/\True)/\(((q4 av).1=hk/\True/\nS)/\((SL FW d15.2 0 d15.2.length)=jG.1/\d15.2.isEmpty=(List.isEmpty jG.1))/\((q4 av).2.2.1=(0:Int)/\True/\nS)/\True)) /\
          LoopP (λ(d22:(List (Int×Int×Bool))×Int) (vt:((List (Int×Int×Bool))×Int)->Prop) =>
           ((decide (d22.2<ot))=true ->
            (0<=d22.2)/\(d22.2<d22.1.length)/\(I64 (d22.2+(1:Int)))/\(∃ d23:(List (Int×Int×Bool))×Int,((True/\True/\ot=ot/\(d22.2+(1:Int))=d23.2/\True)/\((hk=hk/\True/\nS)/\((sT d22.1 d22.2 ((gD d22.1 d22.2 (0,(0,false))).1,((gD d22.1 d22.2 (0,(0,false))).2.1,false)))=d23.1/\d22.1.isEmpty=d23.1.isEmpty)/\((0:Int)=(0:Int)/\True/\nS)/\True))/\vt d23)) /\
           ((decide (d22.2<ot))=false ->
            (((hk=(H7 hk cs)/\True/\nS)/\(0:Int)=(QL hk cs)/\nS)/\((d22.1=(Ua hk cs)/\d22.1.isEmpty=(Ua hk cs).isEmpty)/\True)))) jG)) d150)))) d50))))
def Xw:Cx:=⟨[(1000018,(.pair (.i .i64) .bo))],[(55,QA),(106,QK)],43,[3000015],0,[(64,KD)],[],[],[],false,[],[],[15],[]⟩
def Xs:List (Nat×LoopAnn):=[(0,⟨Int×(List (Int×Int×Bool))×Int×Int×Int×(List (Int×Int×Bool))×Int×(List (Int×Int×Bool))×Int×Int×(List (Int×Int×Bool))×Int×(List (Int×Int×Bool))×Int×Int×Int×(List (Int×Int×Bool))×(List Value),(List (Int×Bool))×Int,[1,2,4,6,20,21,22],λe x=>[.box 1000001 0,.box 1000002 0,.box 1000004 0,.map 1000018,.val (.list (.pair (.i .i64) (.pair (.i .i64) .bo))) (rb e).2.2.2.1,.val (.i .i64) (rg e).1,.val (.i .i64) x.2],λe x=>[(1000001,.slot 1,.cells [.val (.i .i64) e.1,.val (.list (.pair (.i .i64) (.pair (.i .i64) .bo))) e.2.1] (some 66)),(1000002,.slot 2,.cells [.val (.i .i64) e.2.2.1,.nilS,.val (.i .i64) e.2.2.2.1] (some 131)),(1000004,.slot 4,.cells [.val (.i .i64) (rb e).1,.val (.list (.pair (.i .i64) (.pair (.i .i64) .bo))) (rb e).2.1,.val (.i .i64) (rb e).2.2.1] (some 131)),(1000018,.slot 6,.map (.i .i64) .bo x.1),(999999,.key 999999,.stk [.agg [.val (.i .i64) (rg e).2.1,.val (.list (.pair (.i .i64) (.pair (.i .i64) .bo))) (rg e).2.2.1],.box 1 0,.box 2 0,.val (.i .i64) (rb (rg e)).2.2.1,.any,.any,.any,.any,.agg [.val (.i .i64) (rb (rg e)).2.2.2.1,.val (.list (.pair (.i .i64) (.pair (.i .i64) .bo))) (Z6 e).1],.any,.any,.any,.any,.any,.any,.any,.any,.any,.any,.any,.any,.any,.any,.any,.any,.any,.any,.any,.any,.any,.any,.any,.any,.any] (Z6 e).2),(1,.key 1,.cells [.val (.i .i64) (rg e).2.2.2.1,.val (.list (.pair (.i .i64) (.pair (.i .i64) .bo))) (rb (rg e)).1] (some 66)),(2,.key 2,.cells [.val (.i .i64) (rb (rg e)).2.1,.nilS] (some 66))]⟩)]
def QG:Cx:=⟨[],[],4,[],0,[],[],[],[],false,[],[],[],[]⟩
def QI:List (Nat×LoopAnn):=[]
def Q3:Cx:=⟨[],[],16,[],0,[],[],[],[],false,[],[],[],[]⟩
def Q2:List (Nat×LoopAnn):=[(0,⟨(List (Int×Int×Bool))×Int×Int×(List (Int×Int×Bool))×Int×(List (Int×Int×Bool))×Int×Int×Int×(List (Int×Int×Bool))×Int×Int×Int×(List (Int×Int×Bool))×Int×Int×Int×(List (Int×Int×Bool))×Int×(List (Int×Int×Bool))×Int×Int×Int×(List (Int×Int×Bool))×Int×Int×Int×(List (Int×Int×Bool))×(List (Int×Int×Bool))×(List Value)×(List Value)×(List Value)×LpD,Int×(List (Int×Int×Bool)),[0,5,6,7],λe x=>[.dd 20000080002500000 .yv,.val (.list (.pair (.i .i64) (.pair (.i .i64) .bo))) e.1,.val (.i .i64) e.2.1,.val (.i .i64) x.1],λe x=>[(1999999,.key 1999999,.stk [.agg [.val (.i .i64) e.2.2.1,.val (.list (.pair (.i .i64) (.pair (.i .i64) .bo))) e.2.2.2.1],.box 1 0,.box 2 0,.val (.i .i64) (rb e).2.2.2.1,.box 4 0,.val (.i .i64) (rg e).2.2.2.1,.any,.tup [.agg [.val (.i .i64) (rb (rg e)).1,.val (.list (.pair (.i .i64) (.pair (.i .i64) .bo))) (rb (rg e)).2.1,.val (.i .i64) (rb (rg e)).2.2.1],.val (.i .i64) (rb (rg e)).2.2.2.1],.agg [.val (.i .i64) (Z6 e).1,.val (.list (.pair (.i .i64) (.pair (.i .i64) .bo))) (Z6 e).2.1],.tup [.agg [.val (.i .i64) (Z6 e).2.2.1,.val (.list (.pair (.i .i64) (.pair (.i .i64) .bo))) (Z6 e).2.2.2.1,.val (.i .i64) (rb (Z6 e)).1],.val (.i .i64) (rb (Z6 e)).2.1],.agg [.val (.i .i64) (rb (Z6 e)).2.2.1,.val (.list (.pair (.i .i64) (.pair (.i .i64) .bo))) (rb (Z6 e)).2.2.2.1,.val (.i .i64) (rg (Z6 e)).1],.val (.i .i64) (rg (Z6 e)).2.1,.val (.i .i64) (rg (Z6 e)).2.2.1,.any,.any,.any,.box 1 1,.val (.list (.pair (.i .i64) (.pair (.i .i64) .bo))) (rg (Z6 e)).2.2.2.1,.fn 104 [] [.box 1900001 0],.any,.any,.any,.any,.any,.any,.any,.any,.any,.any,.any,.any,.any,.any,.any] (rb (rg (Z6 e))).2.1),(1,.key 1,.cells [.val (.i .i64) (rb e).1,.val (.list (.pair (.i .i64) (.pair (.i .i64) .bo))) (rb e).2.1] (some 66)),(2,.key 2,.cells [.val (.i .i64) (rb e).2.2.1,.nilS] (some 66)),(4,.key 4,.cells [.val (.i .i64) (rg e).1,.val (.list (.pair (.i .i64) (.pair (.i .i64) .bo))) (rg e).2.1,.val (.i .i64) (rg e).2.2.1] (some 131)),(1900001,.key 1900001,.cells [.val (.list (.pair (.i .i64) (.pair (.i .i64) .bo))) (rb (rg (Z6 e))).1] (some 64)),(200000799999,.key 200000799999,.stk [.fn 104 [] [.box 1900001 0],.fn 60 [] [],.any,.any,.nilS,.any,.fn 104 [] [.box 1900001 0],.any,.any,.any,.any,.any] (rb (rg (Z6 e))).2.2.1),(20000080000499999,.key 20000080000499999,.stk [.fn 104 [] [.box 1900001 0],.any,.nilS,.fn 104 [] [.box 1900001 0],.any] (rb (rg (Z6 e))).2.2.2.1),(20000080002500000,.key 20000080002500000,.lpf [.nilS,.fn 104 [] [.box 1900001 0],.box 20000080000500002 0,.any,.nilS,.any,.fn 104 [] [.box 1900001 0],.any,.any,.any,.any,.any,.any] (Z6 (Z6 e)) .rdy),(20000080000500002,.key 20000080000500002,.cells [.lst 20000080000500011] (some 64)),(20000080000500011,.cell 20000080000500002 0,.lst 129 (.pair (.i .i64) (.pair (.i .i64) .bo)) x.2 (List.isEmpty x.2))]⟩)]
def Q7:Cx:=⟨[(129,(.pair (.i .i64) (.pair (.i .i64) .bo)))],[],13,[],0,[],[],[],[],false,[],[(104,J19 Q3 Q2 J29 16)],[],[]⟩
def Q6:List (Nat×LoopAnn):=[]
def Qj:Cx:=⟨[],[],5,[],0,[(132,Q5i Q7 (λ_=>Q6) J2h [.tmp 4] 13)],[],[],[],false,[],[],[],[]⟩
def Qk:List (Nat×LoopAnn):=[]
def Zb:Cx:=⟨[],[(60,Kc)],12,[],0,[(102,Q5i Qj (λ_=>Qk) J09 [.tmp 2] 5),(103,Qz)],[],[],[],false,[],[],[],[]⟩
def Z9:List (Nat×LoopAnn):=[]
def PE:Cx:=⟨[],[],34,[3000013],0,[(57,Q5i Xw (λ_=>Xs) c57 [.cell 2 true 3,.tmp 3] 43),(59,Q5i QG (λ_=>QI) c59 [.tmp 2] 4),(58,Q5i Zb (λ_=>Z9) c58 [.tmp 4] 12)],[],[],[],false,[],[],[13],[]⟩
def Fs (hk:Int) (cs:List (Int×Int×Bool)):List (Nat×LoopAnn):=[(0,⟨Int,(List (Int×Int×Bool))×Int,[1,2,23,24],λe x=>[.box 1 0,.box 2 0,.val (.i .i64) e,.val (.i .i64) x.2],λe x=>[(1,.slot 1,.cells [.val (.i .i64) hk,.lst 20000080000500011] (some 66)),(20000080000500011,.cell 1 1,.lst 129 (.pair (.i .i64) (.pair (.i .i64) .bo)) x.1 (List.isEmpty x.1)),(2,.slot 2,.cells [.val (.i .i64) (0:Int),.nilS] (some 66))]⟩)]
theorem Ij (d:Int×List (Int×Int×Bool)):gwp (PE) (Fs d.1 d.2) c23 0 (WB [.cell 2 true 2,.tmp 3] (BP d) (Bp d)) (Qn 34 (AL.can HH d))=Vf d.1 d.2:=by kernel_rfl
abbrev Ik:Prop:=OkC Tryz.prog 23 Dc
theorem Im (h:∀ (hk:Int) (cs:List (Int×Int×Bool)),(cs.length<=1000/\(QL hk cs=0->cs.length<=12))->Vf hk cs):OkC Tryz.prog 23 Dc :=
 Qr Z6h mixed (C:=PE) (V:=λ(d:Int×List (Int×Int×Bool))=>Vf d.1 d.2) ⟨.nil,(XsOk.cons (U4 Z4l mixed (C:=Xw) ⟨(.cons QY (.cons Zk .nil)),(XsOk.cons Kf XsOk.nil),ItsOk.nil,YlOk.nil,IysOk.nil,XfOk.nil⟩ (λ_=>Xs)) (XsOk.cons (U4 Z8p mixed (C:=QG) ⟨.nil,XsOk.nil,ItsOk.nil,YlOk.nil,IysOk.nil,XfOk.nil⟩ (λ_=>QI)) (XsOk.cons (U4 Z6s mixed (C:=Zb) ⟨(.cons Dj .nil),(XsOk.cons (U4 Z3b mixed (C:=Qj) ⟨.nil,(XsOk.cons (U4 Z22 mixed (C:=Q7) ⟨.nil,XsOk.nil,ItsOk.nil,YlOk.nil,(IysOk.cons (Q8b Z1s mixed (C:=Q3) ⟨.nil,XsOk.nil,ItsOk.nil,YlOk.nil,IysOk.nil,XfOk.nil⟩ Q2) IysOk.nil),XfOk.nil⟩ (λ_=>Q6)) XsOk.nil),ItsOk.nil,YlOk.nil,IysOk.nil,XfOk.nil⟩ (λ_=>Qk)) (XsOk.cons Jv XsOk.nil)),ItsOk.nil,YlOk.nil,IysOk.nil,XfOk.nil⟩ (λ_=>Z9)) XsOk.nil))),ItsOk.nil,YlOk.nil,IysOk.nil,XfOk.nil⟩ (Ij) λd hp=>h d.1 d.2 hp
end Go.Proofs.Tryz
namespace Go.Proofs.Tryz
open Go Go.V Go.Proofs
set_option maxHeartbeats 2000000 in
theorem Fe:Ik:=Im λhk cs h=>by
 obtain⟨h,lq⟩:=h;have gO:∀ e:Int,QL hk cs=e->e≠0->0=H7 hk cs/\(e=QL hk cs)/\Ua hk cs=[]/\(Ua hk cs).isEmpty=true:=λe h1 h2=>by
  have:Ua hk cs=[]:=by unfold Ua;rw[z7 (by omega)]
  exact⟨by unfold H7;rw[z7 (by omega)],h1.symm,this,by rw[this];rfl⟩
 have bw:∀ e:Int,QJ hk cs=e->e≠0->QL hk cs=e:=λe h1 h2=>by unfold QL;rw[z6 (by omega)];exact h1
 unfold Vf
 (try delta Va Fl DQ Bc FL Fg FW FJ q4)
 (try delta lI gD sT I64 Z6 rg rb zD nS)
 intro w1 w2;repeat (first|refine⟨trivial,?_⟩|refine⟨rfl,?_⟩)
 refine⟨λc1=>?_,λc1=>?_⟩
 .have e:QJ hk cs=3:=by unfold QJ;rw[z6 c1]
  obtain⟨t,u,v,w⟩:=gO 3 (bw 3 e (by decide)) (by decide);and_intros<;>first|rfl|trivial|assumption
 repeat (first|refine⟨trivial,?_⟩|refine⟨rfl,?_⟩)
 refine⟨λc2=>?_,λc2=>?_⟩
 .have c2:60<cs.length:=by have:=zu c2;omega
  have e:QJ hk cs=5:=by unfold QJ;rw[z7 (by rw[c1];decide),z6 c2]
  obtain⟨t,u,v,w⟩:=gO 5 (bw 5 e (by decide)) (by decide);and_intros<;>first|rfl|trivial|assumption
 have c2:cs.length<=60:=by have:=zC c2;omega
 obtain⟨i1,i2⟩:=EG c1;repeat (first|refine⟨trivial,?_⟩|refine⟨rfl,?_⟩)
 refine⟨⟨i1,i2,by omega⟩,λc3=>?_,λc3=>?_⟩
 .obtain⟨t,u,v,w⟩:=gO 2 (bw 2 (I5 c1 c2 c3) (by decide)) (by decide);and_intros<;>first|rfl|trivial|assumption
 obtain⟨be,b3,ak⟩:=L9 c1 c2 c3;repeat (first|refine⟨trivial,?_⟩|refine⟨rfl,?_⟩)
 refine⟨(hk,cs,0,0,hk,cs,hk,cs,(cs.length:Int),hk,cs,hk,cs,0,0,hk,cs,w1),([],0),by and_intros<;>first|rfl|trivial,?_⟩;refine⟨λd=>∃ k:Nat,k<=cs.length/\d.2=(k:Int)/\SeenI (cs.map (·.1)) d.1 k,λd=>cs.length-d.2.toNat,⟨0,by omega,rfl,SeenI.nil _⟩,?_⟩;rintro⟨mm,_⟩ ⟨k,bp,rfl,hS⟩;dsimp only at hS |-;refine⟨λc=>?_,λc=>?_⟩
 .have aj:k<cs.length:=by have:=zu c;omega
  have hp:=hS.put (by simpa using aj);have eg:(cs.map (·.1)).getD k 0=(cs.getD k (0,(0,false))).1:=by
   rw[Qf (by simpa using aj),Qf aj,xN]
  rw[eg] at hp;simp only[zd];exact⟨by omega,by omega,by rw[Qc];omega,(P3 (.i .i64) mm (cs.getD k (0,(0,false))).1 true,(k:Int)+1),by and_intros<;>first|rfl|trivial,⟨k+1,aj,rfl,hp⟩,by dsimp only;omega⟩
 .have aw:k=cs.length:=by have:=zC c;omega
  subst aw;have hl:(cs.map (·.1)).length=cs.length:=xG ..;rw[<-hl] at hS;obtain⟨f1,f2⟩:=hS.full;rw[hl] at f2;refine⟨λc4=>?_,λc4=>?_⟩
  .rw[f1] at c4;have e:QL hk cs=9:=by unfold QL;rw[z7 (by omega),z6 (zu c4)]
   obtain⟨t,u,v,w⟩:=gO 9 e (by decide);and_intros<;>first|rfl|trivial|assumption
  rw[f1] at c4;have c4:=zC c4;refine⟨λc5=>?_,λc5=>?_⟩
  .rw[f2] at c5;have e:QL hk cs=6:=by unfold QL;rw[z7 (by omega),z7 c4,z7 (zu c5)]
   obtain⟨t,u,v,w⟩:=gO 6 e (by decide);and_intros<;>first|rfl|trivial|assumption
  rw[f2] at c5;have ef:(cs.map (·.1)).Nodup:=Decidable.not_not.1 (zC c5);have en:QL hk cs=0:=by unfold QL;rw[z7 (by omega),z7 c4,z6 ef]
  have em:Ua hk cs=Q8e cs:=by unfold Ua;rw[z6 en]
  have eh:H7 hk cs=hk:=by unfold H7;rw[z6 en]
  have lq:=lq en;rw[en,em,eh];clear hS f1 f2;repeat (first|refine⟨trivial,?_⟩|refine⟨rfl,?_⟩)
  intro w7;repeat (first|refine⟨trivial,?_⟩|refine⟨rfl,?_⟩)
  intro w8 w9 oo lU;refine⟨(cs,(cs.length:Int),hk,cs,hk,cs,0,0,hk,cs,hk,0,hk,cs,hk,0,hk,cs,hk,cs,hk,0,hk,cs,hk,0,0,cs,cs,w8,w9,oo,lU),(0,[]),by and_intros<;>first|rfl|trivial,?_⟩;refine⟨λd=>∃ k:Nat,k<=cs.length/\d=((k:Int),cs.take k),λd=>cs.length-d.1.toNat,⟨0,by omega,rfl⟩,?_⟩;rintro _ ⟨k,bp,rfl⟩;refine⟨λc=>?_,λc=>?_⟩
  .have aj:k<cs.length:=by have:=zu c;dsimp only at this;omega
   refine⟨by show (0:Int)<=(k:Int);omega,by show (k:Int)<(cs.length:Int);omega,rfl,?_⟩;intro vu;refine⟨by show ((cs.take k).length+1)*24<=70368744177664;rw[xP];omega,?_⟩;repeat (first|refine⟨rfl,?_⟩|refine⟨trivial,?_⟩)
   refine⟨(λc=>by simp at c),λ_=>?_⟩;refine⟨by rw[Qc];show _<=(k:Int)+1/\(k:Int)+1<=_;omega,((k:Int)+1,cs.take (k+1)),?_,⟨k+1,aj,rfl⟩,by show cs.length-((k:Int)+1).toNat<cs.length-(k:Int).toNat;omega⟩;have e2:cs.take (k+1)=cs.take k++[cs.getD k (0,(0,false))]:=by rw[QV aj,Qf aj]
   rw[e2];and_intros<;>first|rfl|trivial|simp
  .have aw:k=cs.length:=by have:=zC c;dsimp only at this;omega
   subst aw;rw[List.take_length];have hp:=LC (f:=Q5k) (a:=0) (z9 cs.length);have gi:=hp.length_eq;have gV:Q8e cs=(SL Q5k cs 0 cs.length).map λc=>((c.1,(c.2.1,false)):YB):=rfl;repeat (first|refine⟨rfl,?_⟩|refine⟨trivial,?_⟩)
   refine⟨⟨lq,λ_ _ _ _=>trivial⟩,?_⟩;repeat (first|refine⟨rfl,?_⟩|refine⟨trivial,?_⟩)
   have aG:cs.isEmpty=false:=by cases cs with
    |nil=>exact(b3 rfl).elim
    |cons _ _=>rfl
   have ou:(SL Q5k cs 0 cs.length).isEmpty=false:=by rw[<-aG];exact Bool.eq_iff_iff.2 (by rw[List.isEmpty_iff,List.isEmpty_iff,<-x5,<-x5,gi])
   refine⟨((SL Q5k cs 0 cs.length).length:Int),(SL Q5k cs 0 cs.length,0),by and_intros<;>first|rfl|trivial|exact aG.trans ou.symm,?_⟩;generalize hS:SL Q5k cs 0 cs.length=S at *
   refine⟨λd=>∃ k:Nat,k<=S.length/\d=((S.take k).map (λc=>((c.1,(c.2.1,false)):YB))++S.drop k,(k:Int)),λd=>S.length-d.2.toNat,⟨0,by omega,by simp⟩,?_⟩;rintro _ ⟨k,bp,rfl⟩;have ov:((S.take k).map (λc=>((c.1,(c.2.1,false)):YB))++S.drop k).length=S.length:=by simp;omega
   refine⟨λc=>?_,λc=>?_⟩
   .have aj:k<S.length:=by have:=zu c;dsimp only at this;omega
    have vw:((S.take k).map (λc=>((c.1,(c.2.1,false)):YB))++S.drop k).getD k (0,(0,false))=S[k]:=by rw[Qf (by omega),List.getElem_append_right (by simp;omega)];simp[xJ (Nat.le_of_lt aj)]
    have a9:((S.take k).map (λc=>((c.1,(c.2.1,false)):YB))++S.drop k).set k (S[k].1,(S[k].2.1,false))=(S.take (k+1)).map (λc=>((c.1,(c.2.1,false)):YB))++S.drop (k+1):=by rw[List.set_append_right _ _ (by simp;omega),QV aj,xS,x9,xR aj];simp[xJ (Nat.le_of_lt aj)];rw[xR aj,List.set_cons_zero]
    generalize hL:(S.take k).map (λc=>((c.1,(c.2.1,false)):YB))++S.drop k=L at *
    generalize vz:(S.take (k+1)).map (λc=>((c.1,(c.2.1,false)):YB))++S.drop (k+1)=L' at *
    have e1:L.set k ((L.getD k (0,(0,false))).1,((L.getD k (0,(0,false))).2.1,false))=L':=by rw[vw];exact a9
    have l1:L'.length=S.length:=by rw[<-a9,zE];exact ov
    have e2:L.isEmpty=L'.isEmpty:=Bool.eq_iff_iff.2 (by rw[List.isEmpty_iff,List.isEmpty_iff,<-x5,<-x5,ov,l1]);exact⟨by show (0:Int)<=(k:Int);omega,by show (k:Int)<(L.length:Int);omega,by rw[Qc];show _<=(k:Int)+1/\(k:Int)+1<=_;omega,(L',(k:Int)+1),by and_intros<;>first|rfl|trivial|exact e1|exact e2,⟨k+1,aj,by rw[vz];rfl⟩,by show S.length-((k:Int)+1).toNat<S.length-(k:Int).toNat;omega⟩
   .have aw:k=S.length:=by have:=zC c;dsimp only at this;omega
    subst aw;rw[List.take_length,List.drop_length,xC,<-gV];have mq:(Q8e cs).isEmpty=false:=by rw[gV,List.isEmpty_map];exact ou
    and_intros<;>first|rfl|trivial|exact mq
def VG:AL ((Int×(List (Int×Int×Bool))×Int)×Int):=(.cons (.agg (.cons (.k (.i .i64)) (.cons (.k (.list (.pair (.i .i64) (.pair (.i .i64) .bo)))) (.one (.k (.i .i64)))))) (.one (.k (.i .i64))))
def Hj (m:List (Int×Bool)) (a:(Int×(List (Int×Int×Bool))×Int)×Int):Prop:=0<=a.2/\a.2<a.1.2.1.length/\a.1.2.1.length<=1000
def VR (m:List (Int×Bool)) (a:(Int×(List (Int×Int×Bool))×Int)×Int):SV:=.val (.i .i64) (IV (nmC a.1.2.1) (woM m) a.1.2.1.length a.2.toNat a.1.2.1.length)
def KR (m:List (Int×Bool)) (a:(Int×(List (Int×Int×Bool))×Int)×Int) (m2:List (Int×Bool)):Prop:=m2=m
def K7:XSp:=Q4l EF 2 (.i .i64) .bo (Z6d VG Hj VR KR)
def Xv (m:List (Int×Bool)) (hk:Int) (cs:List (Int×Int×Bool)) (f:Int) (fi:Int):Prop:=∀ vals:List Value,
 (0<=(lI cs))/\((lI cs)<=(lI cs))/\((lI cs)*8<=70368744177664)/\((lI cs)<=70368744177664)/\(0<=fi)/\(fi<(List.length (List.replicate (Int.toNat (lI cs)) (0:Int))))/\∀ w1:List Value,w1=w1/\∀ w2:LpD,∃ (e5:Int×(List (Int×Int×Bool))×Int×Int×Int×Int×(List (Int×Int×Bool))×Int×Int×(List (Int×Bool))×Int×(List (Int×Int×Bool))×Int×(List (Int×Int×Bool))×Int×Int×Int×(List (Int×Int×Bool))×Int×Int×LpD×(List Value)) (d50:Int×Int×(List Int)),((True/\True/\True/\(lI cs)=(rb e5).1/\(0:Int)=d50.1/\True)/\((hk=e5.1/\cs=e5.2.1/\f=e5.2.2.1/\nS)/\(fi=e5.2.2.2.1/\nS)/\((rb (Z6 e5)).1=w2/\((hk=(rb e5).2.1/\cs=(rb e5).2.2.1/\f=(rb e5).2.2.2.1/\nS)/\fi=(rg e5).1/\True/\True/\True/\True/\True/\True/\True/\True/\True/\True/\True/\cs=(rb (rg e5)).2.1/\(lI cs)=(rb (rg e5)).2.2.1/\True/\True/\fi=(rb (rg e5)).2.2.2.1/\True/\(hk=(Z6 e5).1/\cs=(Z6 e5).2.1/\f=(Z6 e5).2.2.1/\nS)/\fi=(Z6 e5).2.2.2.1/\((nS)/\(True/\True/\nS))/\True/\True/\True/\True/\True/\True/\True/\True/\True/\True/\True/\True/\True/\True/\True/\True/\True/\True/\True/\True/\True/\True/\True/\True/\True/\True/\True/\True/\True/\True/\True/\True/\True/\True/\True/\True/\True/\True/\True/\True/\True/\True/\True/\True/\True/\True/\True/\True/\True/\True/\True/\nS))/\(m=(rg e5).2.1)/\(hk=(rg e5).2.2.1/\cs=(rg e5).2.2.2.1/\f=(rb (rg e5)).1/\nS)/\(True/\nS)/\((0:Int)=d50.2.1/\nS)/\(True/\nS)/\((sT (List.replicate (Int.toNat (lI cs)) (0:Int)) fi (1:Int))=d50.2.2/\false=false)/\((rb (Z6 e5)).2=vals/\(True/\nS))/\True)) /\
 LoopP (λ(d5:Int×Int×(List Int)) (q5:(Int×Int×(List Int))->Prop) =>
  ((decide (d5.1<(rb e5).1))=true ->
   (e5.2.1≠[]/\e5.2.1.length<=1000/\-1000000<=e5.2.2.2.1/\e5.2.2.2.1<=1000000/\-1000000<=d5.1/\d5.1<=1000000)/\(rb (Z6 e5)).1=w2/\∀ w6:List Value,∃ (e9:Int×Int×Int×LpD×Int×Int×Bool×Int×Int×Int×(List Value)) (d90:(List Int)×Int),((True/\True/\True/\True/\(Int.tmod (e5.2.2.2.1+d5.1) e5.2.1.length)=e9.2.1/\True/\(lI d5.2.2)=e9.2.2.1/\(0:Int)=d90.2/\True)/\(((rg e5).2.2.1=hk/\(rg e5).2.2.2.1=cs/\(rb (rg e5)).1=f/\nS)/\(True/\nS)/\((rg e5).2.1=m)/\(d5.2.1=e9.1/\nS)/\(True/\nS)/\(d5.2.2=d90.1/\false=false)/\(e9.2.2.2.1=(rb (Z6 e5)).1/\(((rb e5).2.1=hk/\(rb e5).2.2.1=cs/\(rb e5).2.2.2.1=f/\nS)/\(rg e5).1=fi/\True/\True/\True/\True/\True/\True/\True/\True/\True/\True/\True/\(rb (rg e5)).2.1=cs/\(rb (rg e5)).2.2.1=(lI cs)/\True/\True/\(rb (rg e5)).2.2.2.1=fi/\True/\((Z6 e5).1=hk/\(Z6 e5).2.1=cs/\(Z6 e5).2.2.1=f/\nS)/\(Z6 e5).2.2.2.1=fi/\((nS)/\(True/\True/\nS))/\True/\True/\True/\True/\True/\True/\True/\True/\True/\True/\True/\True/\True/\True/\True/\True/\True/\True/\True/\True/\True/\True/\True/\True/\True/\True/\True/\True/\True/\True/\True/\True/\True/\True/\True/\True/\True/\True/\True/\True/\True/\True/\True/\True/\True/\True/\True/\True/\True/\True/\True/\nS))/\(e5.1=hk/\e5.2.1=cs/\e5.2.2.1=f/\nS)/\(e5.2.2.2.1=fi/\nS)/\(vals=(rb (Z6 e5)).2/\(True/\nS))/\((rg e9).2.2=w6/\(True/\True/\True/\True/\d5.1=(rb e9).1/\True/\True/\True/\(rb e5).1=(lI cs)/\d5.1=(rb e9).2.1/\(decide (d5.1<(rb e5).1))=(rb e9).2.2.1/\d5.1=(rb e9).2.2.2.1/\True/\(e5.1=hk/\e5.2.1=cs/\e5.2.2.1=f/\nS)/\e5.2.2.2.1=fi/\d5.1=(rg e9).1/\(Int.tmod (e5.2.2.2.1+d5.1) e5.2.1.length)=(rg e9).2.1/\True/\True/\True/\nS))/\True)) /\
   LoopP (λ(d9:(List Int)×Int) (q9:((List Int)×Int)->Prop) =>
    ((decide (d9.2<e9.2.2.1))=true ->
     (0<=d9.2)/\(d9.2<d9.1.length)/\(((decide ((gD d9.1 d9.2 0) > (0:Int)))&&(!(gq.aget (.i .i64) m e9.2.1 false)))=true->0<=e9.2.1)/\(((decide ((gD d9.1 d9.2 0) > (0:Int)))&&(!(gq.aget (.i .i64) m e9.2.1 false)))=true->e9.2.1<cs.length)/\(((decide ((gD d9.1 d9.2 0) > (0:Int)))&&(!(gq.aget (.i .i64) m e9.2.1 false)))=true->0<=d9.2)/\(((decide ((gD d9.1 d9.2 0) > (0:Int)))&&(!(gq.aget (.i .i64) m e9.2.1 false)))=true->d9.2<cs.length)/\((((decide ((gD d9.1 d9.2 0) > (0:Int)))&&(!(gq.aget (.i .i64) m e9.2.1 false)))&&(decide ((gD cs e9.2.1 (0,(0,false))).1 > (gD cs d9.2 (0,(0,false))).1)))=true ->
      (0<=e9.2.1)/\(e9.2.1<d9.1.length)/\(I64 ((gD d9.1 d9.2 0)+(1:Int)))/\(0<=e9.2.1)/\(e9.2.1<d9.1.length)/\(I64 (d9.2+(1:Int)))/\(∃ d10:(List Int)×Int,((True/\True/\True/\True/\e9.2.1=e9.2.1/\True/\e9.2.2.1=e9.2.2.1/\(d9.2+(1:Int))=d10.2/\True)/\((hk=hk/\cs=cs/\f=f/\nS)/\(True/\nS)/\(m=m)/\(e9.1=e9.1/\nS)/\(True/\nS)/\((sT d9.1 e9.2.1 (Iu (gD d9.1 e9.2.1 0) ((gD d9.1 d9.2 0)+(1:Int))))=d10.1/\false=false)/\(e9.2.2.2.1=e9.2.2.2.1/\((hk=hk/\cs=cs/\f=f/\nS)/\fi=fi/\True/\True/\True/\True/\True/\True/\True/\True/\True/\True/\True/\cs=cs/\(lI cs)=(lI cs)/\True/\True/\fi=fi/\True/\(hk=hk/\cs=cs/\f=f/\nS)/\fi=fi/\((nS)/\(True/\True/\nS))/\True/\True/\True/\True/\True/\True/\True/\True/\True/\True/\True/\True/\True/\True/\True/\True/\True/\True/\True/\True/\True/\True/\True/\True/\True/\True/\True/\True/\True/\True/\True/\True/\True/\True/\True/\True/\True/\True/\True/\True/\True/\True/\True/\True/\True/\True/\True/\True/\True/\True/\True/\nS))/\(hk=hk/\cs=cs/\f=f/\nS)/\(fi=fi/\nS)/\(vals=vals/\(True/\nS))/\((rg e9).2.2=(rg e9).2.2/\(True/\True/\True/\True/\(rb e9).1=(rb e9).1/\True/\True/\True/\(lI cs)=(lI cs)/\(rb e9).2.1=(rb e9).2.1/\(rb e9).2.2.1=(rb e9).2.2.1/\(rb e9).2.2.2.1=(rb e9).2.2.2.1/\True/\(hk=hk/\cs=cs/\f=f/\nS)/\fi=fi/\(rg e9).1=(rg e9).1/\(rg e9).2.1=(rg e9).2.1/\True/\True/\True/\nS))/\True))/\q9 d10)) /\
     ((((decide ((gD d9.1 d9.2 0) > (0:Int)))&&(!(gq.aget (.i .i64) m e9.2.1 false)))&&(decide ((gD cs e9.2.1 (0,(0,false))).1 > (gD cs d9.2 (0,(0,false))).1)))=false ->
      (I64 (d9.2+(1:Int)))/\(∃ d11:(List Int)×Int,((True/\True/\True/\True/\e9.2.1=e9.2.1/\True/\e9.2.2.1=e9.2.2.1/\(d9.2+(1:Int))=d11.2/\True)/\((hk=hk/\cs=cs/\f=f/\nS)/\(True/\nS)/\(m=m)/\(e9.1=e9.1/\nS)/\(True/\nS)/\(d9.1=d11.1/\false=false)/\(e9.2.2.2.1=e9.2.2.2.1/\((hk=hk/\cs=cs/\f=f/\nS)/\fi=fi/\True/\True/\True/\True/\True/\True/\True/\True/\True/\True/\True/\cs=cs/\(lI cs)=(lI cs)/\True/\True/\fi=fi/\True/\(hk=hk/\cs=cs/\f=f/\nS)/\fi=fi/\((nS)/\(True/\True/\nS))/\True/\True/\True/\True/\True/\True/\True/\True/\True/\True/\True/\True/\True/\True/\True/\True/\True/\True/\True/\True/\True/\True/\True/\True/\True/\True/\True/\True/\True/\True/\True/\True/\True/\True/\True/\True/\True/\True/\True/\True/\True/\True/\True/\True/\True/\True/\True/\True/\True/\True/\True/\nS))/\(hk=hk/\cs=cs/\f=f/\nS)/\(fi=fi/\nS)/\(vals=vals/\(True/\nS))/\((rg e9).2.2=(rg e9).2.2/\(True/\True/\True/\True/\(rb e9).1=(rb e9).1/\True/\True/\True/\(lI cs)=(lI cs)/\(rb e9).2.1=(rb e9).2.1/\(rb e9).2.2.1=(rb e9).2.2.1/\(rb e9).2.2.2.1=(rb e9).2.2.2.1/\True/\(hk=hk/\cs=cs/\f=f/\nS)/\fi=fi/\(rg e9).1=(rg e9).1/\(rg e9).2.1=(rg e9).2.1/\True/\True/\True/\nS))/\True))/\q9 d11))) /\
    ((decide (d9.2<e9.2.2.1))=false ->
     (0<=e9.2.1)/\(e9.2.1<d9.1.length)/\(rg e9).2.2=w6/\e9.2.2.2.1=w2/\((!true)=true ->
      e9.2.2.2.1=w2/\(vals=vals/\(True/\nS)/\(Iu e9.1 (gD d9.1 e9.2.1 0))=(IV (nmC cs) (woM m) cs.length fi.toNat cs.length)/\(m=m))) /\
     ((!true)=false ->
      (I64 ((rb e9).2.1+(1:Int)))/\(∃ d12:Int×Int×(List Int),((True/\True/\True/\(lI cs)=(rb e5).1/\((rb e9).2.1+(1:Int))=d12.1/\True)/\((hk=e5.1/\cs=e5.2.1/\f=e5.2.2.1/\nS)/\(fi=e5.2.2.2.1/\nS)/\((rb (Z6 e5)).1=e9.2.2.2.1/\((hk=(rb e5).2.1/\cs=(rb e5).2.2.1/\f=(rb e5).2.2.2.1/\nS)/\fi=(rg e5).1/\True/\True/\True/\True/\True/\True/\True/\True/\True/\True/\True/\cs=(rb (rg e5)).2.1/\(lI cs)=(rb (rg e5)).2.2.1/\True/\True/\fi=(rb (rg e5)).2.2.2.1/\True/\(hk=(Z6 e5).1/\cs=(Z6 e5).2.1/\f=(Z6 e5).2.2.1/\nS)/\fi=(Z6 e5).2.2.2.1/\((nS)/\(True/\True/\nS))/\True/\True/\True/\True/\True/\True/\True/\True/\True/\True/\True/\True/\True/\True/\True/\True/\True/\True/\True/\True/\True/\True/\True/\True/\True/\True/\True/\True/\True/\True/\True/\True/\True/\True/\True/\True/\True/\True/\True/\True/\True/\True/\True/\True/\True/\True/\True/\True/\True/\True/\True/\nS))/\(m=(rg e5).2.1)/\(hk=(rg e5).2.2.1/\cs=(rg e5).2.2.2.1/\f=(rb (rg e5)).1/\nS)/\(True/\nS)/\((Iu e9.1 (gD d9.1 e9.2.1 0))=d12.2.1/\nS)/\(True/\nS)/\(d9.1=d12.2.2/\false=false)/\((rb (Z6 e5)).2=vals/\(True/\nS))/\True))/\q5 d12)))) d90) /\
  ((decide (d5.1<(rb e5).1))=false ->
   (rb (Z6 e5)).1=w2/\((rb (Z6 e5)).2=vals/\(True/\nS)/\d5.2.1=(IV (nmC cs) (woM m) cs.length fi.toNat cs.length)/\((rg e5).2.1=m)))) d50
def ZW:Cx:=⟨[],[],6,[],0,[],[],[],[],false,[],[],[],[]⟩
def ZU:List (Nat×LoopAnn):=[]
def ZM:Cx:=⟨[],[(67,Ji)],20,[],0,[],[],[],[],false,[],[],[],[]⟩
def ZI:List (Nat×LoopAnn):=[(0,⟨Int×(List (Int×Int×Bool))×Int×Int×Int×Int×(List (Int×Int×Bool))×Int×Int×(List (Int×Bool))×Int×(List (Int×Int×Bool))×Int×(List (Int×Int×Bool))×Int×Int×Int×(List (Int×Int×Bool))×Int×Int×LpD×(List Value),Int×Int×(List Int),[0,1,2,8,9],λe x=>[.dd 2000000 .yv,.box 2200002 0,.box 2200003 0,.val (.i .i64) (rb e).1,.val (.i .i64) x.1],λe x=>[(2200002,.slot 1,.cells [.val (.i .i64) e.1,.val (.list (.pair (.i .i64) (.pair (.i .i64) .bo))) e.2.1,.val (.i .i64) e.2.2.1] (some 131)),(2200003,.slot 2,.cells [.val (.i .i64) e.2.2.2.1] (some 3)),(2000000,.key 2000000,.lpf [.agg [.val (.i .i64) (rb e).2.1,.val (.list (.pair (.i .i64) (.pair (.i .i64) .bo))) (rb e).2.2.1,.val (.i .i64) (rb e).2.2.2.1],.val (.i .i64) (rg e).1,.map 0,.box 3 0,.any,.box 5 0,.box 6 0,.box 7 0,.any,.any,.any,.box 3 0,.box 3 1,.val (.list (.pair (.i .i64) (.pair (.i .i64) .bo))) (rb (rg e)).2.1,.val (.i .i64) (rb (rg e)).2.2.1,.lst 15,.lst 15,.val (.i .i64) (rb (rg e)).2.2.2.1,.any,.agg [.val (.i .i64) (Z6 e).1,.val (.list (.pair (.i .i64) (.pair (.i .i64) .bo))) (Z6 e).2.1,.val (.i .i64) (Z6 e).2.2.1],.val (.i .i64) (Z6 e).2.2.2.1,.fn 172 [] [.box 2200002 0,.box 2200003 0],.any,.any,.any,.any,.any,.any,.any,.any,.any,.any,.any,.any,.any,.any,.any,.any,.any,.any,.any,.any,.any,.any,.any,.any,.any,.any,.any,.any,.any,.any,.any,.any,.any,.any,.any,.any,.any,.any,.any,.any,.any,.any,.any,.any,.any,.any,.any,.any,.any,.any,.any] (rb (Z6 e)).1 .rdy),(0,.key 0,.map (.i .i64) .bo (rg e).2.1),(3,.key 3,.cells [.val (.i .i64) (rg e).2.2.1,.val (.list (.pair (.i .i64) (.pair (.i .i64) .bo))) (rg e).2.2.2.1,.val (.i .i64) (rb (rg e)).1] (some 131)),(5,.key 5,.cells [.map 0] (some 152)),(6,.key 6,.cells [.val (.i .i64) x.2.1] (some 3)),(7,.key 7,.cells [.lst 15] (some 24)),(15,.cell 7 0,.lst 3 (.i .i64) x.2.2 false),(4000000,.key 4000000,.stk [.map 0] (rb (Z6 e)).2)]⟩)]
def Uw:Cx:=⟨[(3,(.i .i64))],[],73,[],0,[(162,Q5i ZW (λ_=>ZU) J1p [.tmp 4] 6)],[],[],[],false,[],[(172,J19 ZM ZI J1z 20)],[],[]⟩
def Ug (m:List (Int×Bool)) (hk:Int) (cs:List (Int×Int×Bool)) (f:Int) (fi:Int) (vals:List Value):List (Nat×LoopAnn):=[(2,⟨Int×Int×Int×LpD×Int×Int×Bool×Int×Int×Int×(List Value),(List Int)×Int,[3,5,6,7,8,23,24,25],λe x=>[.box 3 0,.box 5 0,.box 6 0,.box 7 0,.val (.i .i64) e.2.1,.lst 15,.val (.i .i64) e.2.2.1,.val (.i .i64) x.2],λe x=>[(3,.slot 3,.cells [.val (.i .i64) hk,.val (.list (.pair (.i .i64) (.pair (.i .i64) .bo))) cs,.val (.i .i64) f] (some 131)),(5,.slot 5,.cells [.map 0] (some 152)),(0,.cell 5 0,.map (.i .i64) .bo m),(6,.slot 6,.cells [.val (.i .i64) e.1] (some 3)),(7,.slot 7,.cells [.lst 15] (some 24)),(15,.cell 7 0,.lst 3 (.i .i64) x.1 false),(2000000,.key 2000000,.lpf [.agg [.val (.i .i64) hk,.val (.list (.pair (.i .i64) (.pair (.i .i64) .bo))) cs,.val (.i .i64) f],.val (.i .i64) fi,.map 0,.box 3 0,.any,.box 5 0,.box 6 0,.box 7 0,.any,.any,.any,.box 3 0,.box 3 1,.val (.list (.pair (.i .i64) (.pair (.i .i64) .bo))) cs,.val (.i .i64) ((cs.length:Nat):Int),.lst 15,.lst 15,.val (.i .i64) fi,.any,.agg [.val (.i .i64) hk,.val (.list (.pair (.i .i64) (.pair (.i .i64) .bo))) cs,.val (.i .i64) f],.val (.i .i64) fi,.fn 172 [] [.box 2200002 0,.box 2200003 0],.any,.any,.any,.any,.any,.any,.any,.any,.any,.any,.any,.any,.any,.any,.any,.any,.any,.any,.any,.any,.any,.any,.any,.any,.any,.any,.any,.any,.any,.any,.any,.any,.any,.any,.any,.any,.any,.any,.any,.any,.any,.any,.any,.any,.any,.any,.any,.any,.any,.any,.any] e.2.2.2.1 .busy),(2200002,.key 2200002,.cells [.val (.i .i64) hk,.val (.list (.pair (.i .i64) (.pair (.i .i64) .bo))) cs,.val (.i .i64) f] (some 131)),(2200003,.key 2200003,.cells [.val (.i .i64) fi] (some 3)),(4000000,.key 4000000,.stk [.map 0] vals),(200000099999,.key 200000099999,.stk [.dd 2000000 .yv,.box 2200002 0,.box 2200003 0,.any,.val (.i .i64) (rb e).1,.any,.any,.any,.val (.i .i64) ((cs.length:Nat):Int),.val (.i .i64) (rb e).2.1,.val .bo (rb e).2.2.1,.val (.i .i64) (rb e).2.2.2.1,.dd 2000000 .yv,.agg [.val (.i .i64) hk,.val (.list (.pair (.i .i64) (.pair (.i .i64) .bo))) cs,.val (.i .i64) f],.val (.i .i64) fi,.val (.i .i64) (rg e).1,.val (.i .i64) (rg e).2.1,.any,.any,.any] (rg e).2.2)]⟩)]
theorem HM (m:List (Int×Bool)) (a:(Int×(List (Int×Int×Bool))×Int)×Int):(∀ vals,gwp Uw (Ug m a.1.1 a.1.2.1 a.1.2.2 a.2 vals) J03 0 (Q8f vals [.cell 6 false 1] (VR m a) (.i .i64) .bo (KR m a)) (Dp 73 2 (.i .i64) .bo m vals (AL.can VG a)))=Xv m a.1.1 a.1.2.1 a.1.2.2 a.2:=by kernel_rfl
abbrev T0:Prop:=XOk Tryz.prog 138 K7
theorem Ph (h:∀ (m:List (Int×Bool)) (hk:Int) (cs:List (Int×Int×Bool)) (f:Int) (fi:Int),(0<=fi/\fi<cs.length/\cs.length<=1000)->Xv m hk cs f fi):XOk Tryz.prog 138 K7 :=
 Ia Z36 mixed Du rfl (C:=Uw) ⟨.nil,(XsOk.cons (U4 Z2h mixed (C:=ZW) ⟨.nil,XsOk.nil,ItsOk.nil,YlOk.nil,IysOk.nil,XfOk.nil⟩ (λ_=>ZU)) XsOk.nil),ItsOk.nil,YlOk.nil,(IysOk.cons (Q8b Z1m mixed (C:=ZM) ⟨(.cons Wy .nil),XsOk.nil,ItsOk.nil,YlOk.nil,IysOk.nil,XfOk.nil⟩ ZI) IysOk.nil),XfOk.nil⟩ (L:=λm (a:(Int×(List (Int×Int×Bool))×Int)×Int) vals=>Ug m a.1.1 a.1.2.1 a.1.2.2 a.2 vals) (V:=λm (a:(Int×(List (Int×Int×Bool))×Int)×Int)=>Xv m a.1.1 a.1.2.1 a.1.2.2 a.2) HM λm a hp=>h m a.1.1 a.1.2.1 a.1.2.2 a.2 hp
set_option maxHeartbeats 1000000 in
theorem Hy:T0:=Ph λm hk cs f fi h=>by
 obtain⟨h1,h2,h3⟩:=h;unfold Xv;(try delta lI gD sT I64 Z6 rg rb zD nS);intro vals;obtain⟨a,rfl⟩:=zJ h1;have ha:a<cs.length:=by omega
 have gx:0<cs.length:=by omega
 have aG:cs≠[]:=zW.1 gx;repeat (first|(refine And.intro (by first|omega|(simp;omega)|rfl|trivial) ?_))
 intro w1;repeat (first|refine⟨trivial,?_⟩|refine⟨rfl,?_⟩)
 intro w2;refine⟨(hk,cs,f,(a:Int),(cs.length:Int),hk,cs,f,(a:Int),m,hk,cs,f,cs,(cs.length:Int),(a:Int),hk,cs,f,(a:Int),w2,vals),(0,0,(List.replicate cs.length 0).set a 1),by and_intros<;>first|rfl|trivial,?_⟩;refine⟨λd=>∃ k:Nat,k<=cs.length/\d=((k:Int),IV (nmC cs) (woM m) cs.length a k,BO (nmC cs) (woM m) cs.length a k),λd=>cs.length-d.1.toNat,⟨0,by omega,rfl⟩,?_⟩;rintro _ ⟨k,bp,rfl⟩;dsimp only;refine⟨λc=>?_,λc=>?_⟩
 .have aj:k<cs.length:=by have:=zu c;omega
  have vA:Int.tmod ((a:Int)+(k:Int)) (cs.length:Int)=((arP cs.length a k:Nat):Int):=by rw[Int.tmod_eq_emod_of_nonneg (by omega)];rfl
  have dh:=Ra gx a k;have dQ:=(Q1i ha k bp (nm:=nmC cs) (wo:=woM m)).1;rw[vA];refine⟨⟨aG,h3,by omega,by omega,by omega,by omega⟩,?_⟩;repeat (first|refine⟨trivial,?_⟩|refine⟨rfl,?_⟩)
  intro w6;generalize hA:arP cs.length a k=A at *
  refine⟨(IV (nmC cs) (woM m) cs.length a k,(A:Int),((BO (nmC cs) (woM m) cs.length a k).length:Int),w2,(k:Int),(k:Int),true,(k:Int),(k:Int),(A:Int),w6),(BO (nmC cs) (woM m) cs.length a k,0),?_,?_⟩
  .and_intros<;>first|rfl|trivial|exact c
  refine⟨λd=>∃ b:Nat,b<=cs.length/\d=(inR (nmC cs) (woM m) A (BO (nmC cs) (woM m) cs.length a k) b,(b:Int)),λd=>cs.length-d.2.toNat,⟨0,by omega,rfl⟩,?_⟩;rintro _ ⟨b,bM,rfl⟩;dsimp only;obtain⟨il,ib⟩:=Z92 (nm:=nmC cs) (wo:=woM m) (m:=b) ha aj bM;rw[hA] at il ib;refine⟨λc2=>?_,λc2=>?_⟩
  .have ox:b<cs.length:=by have:=zu c2;omega
   have ji:=Q3e (nm:=nmC cs) (wo:=woM m) (at_:=A) (r:=BO (nmC cs) (woM m) cs.length a k) (m:=b);generalize inR (nmC cs) (woM m) A (BO (nmC cs) (woM m) cs.length a k) b=r at *
   have mJ:=ib b;simp only[zd];have ah:(((decide (r.getD b 0 > 0)&&!(gq.aget (.i .i64) m (A:Int) false))&&decide ((cs.getD A (0,(0,false))).1 > (cs.getD b (0,(0,false))).1))=true)<->(0<r.getD b 0/\woM m A=false/\nmC cs b<nmC cs A):=by
    simp only[z0,zh,Bool.not_eq_true',gt_iff_lt];unfold woM nmC WY;constructor
    .rintro⟨⟨p,q⟩,s⟩;exact⟨p,q,s⟩
    .rintro⟨p,q,s⟩;exact⟨⟨p,q⟩,s⟩
   repeat (first|(refine And.intro (by first|omega|rfl|trivial|(intro _;omega)) ?_))
   refine⟨λc3=>?_,λc3=>?_⟩
   .have c4:=ah.1 c3;rw[z6 c4] at ji;repeat (first|(refine And.intro (by first|omega|(rw[Qc];omega)|rfl|trivial) ?_))
    refine⟨(r.set A (Iu (r.getD A 0) (r.getD b 0+1)),(b:Int)+1),by and_intros<;>first|rfl|trivial,⟨b+1,ox,by rw[ji];rfl⟩,by dsimp only;omega⟩
   .have c4:¬ (0<r.getD b 0/\woM m A=false/\nmC cs b<nmC cs A):=λc4=>by
     rw[ah.2 c4] at c3;cases c3
    rw[z7 c4] at ji;repeat (first|(refine And.intro (by first|omega|(rw[Qc];omega)|rfl|trivial) ?_))
    refine⟨(r,(b:Int)+1),by and_intros<;>first|rfl|trivial,⟨b+1,ox,by rw[ji];rfl⟩,by dsimp only;omega⟩
  .have bw:b=cs.length:=by have:=zC c2;omega
   subst bw;have er:inR (nmC cs) (woM m) A (BO (nmC cs) (woM m) cs.length a k) cs.length=BO (nmC cs) (woM m) cs.length a (k+1):=by rw[<-hA];rfl
   have em:IV (nmC cs) (woM m) cs.length a (k+1)=Iu (IV (nmC cs) (woM m) cs.length a k) ((BO (nmC cs) (woM m) cs.length a (k+1)).getD A 0):=by rw[<-hA];rfl
   grind [Int.toNat_natCast,Qc]
 grind
def VW:AL (Int×(List (Int×Int×Bool))×Int):=(.one (.agg (.cons (.k (.i .i64)) (.cons (.k (.list (.pair (.i .i64) (.pair (.i .i64) .bo)))) (.one (.k (.i .i64)))))))
def Hd (m:List (Int×Bool)) (a:Int×(List (Int×Int×Bool))×Int):Prop:=a.2.1.length<=1000
def VN (m:List (Int×Bool)) (a:Int×(List (Int×Int×Bool))×Int):SV:=.val (.i .i64) (Yc (nmC a.2.1) (woM m) a.2.1.length a.2.1.length)
def KT (m:List (Int×Bool)) (a:Int×(List (Int×Int×Bool))×Int) (m2:List (Int×Bool)):Prop:=m2=m
def YZ:XSp:=Q4l EF 1 (.i .i64) .bo (Z6d VW Hd VN KT)
def Xz (m:List (Int×Bool)) (hk:Int) (cs:List (Int×Int×Bool)) (f:Int):Prop:=∀ vals:List Value,
 ∃ (e3:Unit) (d30:(List (Int×Bool))×Int×Int),((True/\True/\(0:Int)=d30.2.1/\(lI cs)=(lI cs)/\(0:Int)=d30.2.2/\True)/\((m=d30.1)/\(hk=hk/\cs=cs/\f=f/\nS)/\(vals=vals/\(True/\nS))/\True)) /\
 LoopP (λ(d3:(List (Int×Bool))×Int×Int) (q3:((List (Int×Bool))×Int×Int)->Prop) =>
  ((decide (d3.2.2<(lI cs)))=true ->
   ((!(gq.aget (.i .i64) d3.1 d3.2.2 false))=true ->
    (0<=d3.2.2/\d3.2.2<cs.length/\cs.length<=1000)/\(∀ m4:List (Int×Bool),(m4=d3.1)->(I64 (d3.2.2+(1:Int)))/\(∃ d5:(List (Int×Bool))×Int×Int,((True/\True/\(Iu d3.2.1 (IV (nmC cs) (woM d3.1) cs.length d3.2.2.toNat cs.length))=d5.2.1/\(lI cs)=(lI cs)/\(d3.2.2+(1:Int))=d5.2.2/\True)/\((m4=d5.1)/\(hk=hk/\cs=cs/\f=f/\nS)/\(vals=vals/\(True/\nS))/\True))/\q3 d5))) /\
   ((!(gq.aget (.i .i64) d3.1 d3.2.2 false))=false ->
    (I64 (d3.2.2+(1:Int)))/\(∃ d6:(List (Int×Bool))×Int×Int,((True/\True/\d3.2.1=d6.2.1/\(lI cs)=(lI cs)/\(d3.2.2+(1:Int))=d6.2.2/\True)/\((d3.1=d6.1)/\(hk=hk/\cs=cs/\f=f/\nS)/\(vals=vals/\(True/\nS))/\True))/\q3 d6))) /\
  ((decide (d3.2.2<(lI cs)))=false ->
   (vals=vals/\(True/\nS)/\d3.2.1=(Yc (nmC cs) (woM m) cs.length cs.length)/\(d3.1=m)))) d30
def Ut:Cx:=⟨[],[],25,[],0,[(138,K7)],[],[],[],false,[],[],[],[]⟩
def Ux (m:List (Int×Bool)) (hk:Int) (cs:List (Int×Int×Bool)) (f:Int) (vals:List Value):List (Nat×LoopAnn):=[(0,⟨Unit,(List (Int×Bool))×Int×Int,[1,2,4,9,10],λe x=>[.map 0,.box 2 0,.val (.i .i64) x.2.1,.val (.i .i64) ((cs.length:Nat):Int),.val (.i .i64) x.2.2],λe x=>[(0,.slot 1,.map (.i .i64) .bo x.1),(2,.slot 2,.cells [.val (.i .i64) hk,.val (.list (.pair (.i .i64) (.pair (.i .i64) .bo))) cs,.val (.i .i64) f] (some 131)),(4000000,.key 4000000,.stk [.map 0] vals)]⟩)]
theorem Py (m:List (Int×Bool)) (a:Int×(List (Int×Int×Bool))×Int):(∀ vals,gwp Ut (Ux m a.1 a.2.1 a.2.2 vals) J1j 0 (Q8f vals [.tmp 4] (VN m a) (.i .i64) .bo (KT m a)) (Dp 25 1 (.i .i64) .bo m vals (AL.can VW a)))=Xz m a.1 a.2.1 a.2.2:=by kernel_rfl
abbrev PM:Prop:=XOk Tryz.prog 109 YZ
theorem T3 (h:∀ (m:List (Int×Bool)) (hk:Int) (cs:List (Int×Int×Bool)) (f:Int),(cs.length<=1000)->Xz m hk cs f):XOk Tryz.prog 109 YZ :=
 Ia Z3d mixed Du rfl (C:=Ut) ⟨.nil,(XsOk.cons Hy XsOk.nil),ItsOk.nil,YlOk.nil,IysOk.nil,XfOk.nil⟩ (L:=λm (a:Int×(List (Int×Int×Bool))×Int) vals=>Ux m a.1 a.2.1 a.2.2 vals) (V:=λm (a:Int×(List (Int×Int×Bool))×Int)=>Xz m a.1 a.2.1 a.2.2) Py λm a hp=>h m a.1 a.2.1 a.2.2 hp
theorem Hs:PM:=T3 λm hk cs f h=>by
 unfold Xz;(try delta lI gD sT I64 Z6 rg rb zD nS);intro vals;refine⟨(),(m,0,0),by and_intros<;>first|rfl|trivial,?_⟩;refine⟨λd=>∃ k:Nat,k<=cs.length/\d=(m,Yc (nmC cs) (woM m) cs.length k,(k:Int)),λd=>cs.length-d.2.2.toNat,⟨0,by omega,rfl⟩,?_⟩;rintro _ ⟨k,bp,rfl⟩;dsimp only;refine⟨λc=>?_,λc=>?_⟩
 .have aj:k<cs.length:=by have:=zu c;omega
  refine⟨λc2=>?_,λc2=>?_⟩
  .have hw:woM m k=false:=by
    show gq.aget (.i .i64) m (k:Int) false=false;simpa using c2
   refine⟨⟨by omega,by omega,h⟩,λm4 hm=>?_⟩;subst hm;have e:Yc (nmC cs) (woM m4) cs.length (k+1)=Iu (Yc (nmC cs) (woM m4) cs.length k) (IV (nmC cs) (woM m4) cs.length k cs.length):=by show (if woM m4 k=true then _ else _)=_;rw[hw,z7 (by decide)]
   grind [Qc,Int.toNat_natCast]
  .have hw:woM m k=true:=by
    show gq.aget (.i .i64) m (k:Int) false=true;simpa using c2
   have e:Yc (nmC cs) (woM m) cs.length (k+1)=Yc (nmC cs) (woM m) cs.length k:=by show (if woM m k=true then _ else _)=_;rw[z6 hw]
   refine⟨by rw[Qc];omega,(m,Yc (nmC cs) (woM m) cs.length (k+1),(k:Int)+1),?_,⟨k+1,aj,rfl⟩,by dsimp only;omega⟩;simp_all
 grind
def BN:AL (Int×List (Int×Int×Bool)):=(.one (.agg (.cons (.k (.i .i64)) (.one (.k (.list (.pair (.i .i64) (.pair (.i .i64) .bo))))))))
def Lb (d:Int×List (Int×Int×Bool)):Prop:=d.2.length<=1000
def GM (d:Int×List (Int×Int×Bool)):SV:=.tup [.lst 0,.val (.i .i64) (QL d.1 d.2)]
def DA (d:Int×List (Int×Int×Bool)):List OB:=[.lst 3 (.i .i64) (Q09 d.1 d.2) ((Q09 d.1 d.2).isEmpty)]
def NH:CSp:=Wt BN Lb GM DA
abbrev Yf (cs:List (Int×Int×Bool)):=(Yc (nmC cs) (woM ([]:List (Int×Bool))) cs.length cs.length)
abbrev Bd (hk:Int) (cs:List (Int×Int×Bool)):=(((Q09 hk cs)=[]/\(Q09 hk cs).isEmpty=true)/\True)
def Kb (hk:Int) (cs:List (Int×Int×Bool)):Prop :=
 ∀ w1:List Value,∀ w2:List Value,(True)/\((!(inI hk 1 24))=true ->
  w2=w2/\w1=w1/\((True/\(3:Int)=(QL hk cs)/\nS)/\(Bd hk cs))) /\
 ((!(inI hk 1 24))=false ->
  (((decide ((lI cs) > (60:Int)))=true ->
   w2=w2/\w1=w1/\((True/\(5:Int)=(QL hk cs)/\nS)/\(Bd hk cs))) /\
  ((decide ((lI cs) > (60:Int)))=false ->
   (1<=hk/\hk<=24/\cs.length<=1000000)/\((!(!cs.isEmpty&&!(cs.any λc=>!Zv hk c)))=true ->
    w2=w2/\w1=w1/\((True/\(2:Int)=(QL hk cs)/\nS)/\(Bd hk cs))) /\
   ((!(!cs.isEmpty&&!(cs.any λc=>!Zv hk c)))=false ->
    w2=w2/\∃ (e5:Int×(List (Int×Int×Bool))×Int×Int×Int×(List (Int×Int×Bool))×Int×(List (Int×Int×Bool))×Int×Int×(List (Int×Int×Bool))×Int×(List (Int×Int×Bool))×Int×Int×(List (Int×Int×Bool))×(List Value)) (d50:(List (Int×Bool))×Int),((True/\True/\True/\True/\cs=(rb e5).2.2.2.1/\(lI cs)=(rg e5).1/\(0:Int)=d50.2/\True)/\((hk=e5.1/\cs=e5.2.1/\nS)/\((0:Int)=e5.2.2.1/\True/\(0:Int)=e5.2.2.2.1/\nS)/\(hk=(rb e5).1/\cs=(rb e5).2.1/\hk=(rb e5).2.2.1/\nS)/\(([]:List (Int×Bool))=d50.1)/\((Z6 e5)=w1/\((hk=(rg e5).2.1/\cs=(rg e5).2.2.1/\nS)/\True/\True/\(0:Int)=(rb (rg e5)).2.1/\True/\True/\True/\True/\True/\(hk=(rb (rg e5)).2.2.1/\cs=(rb (rg e5)).2.2.2.1/\nS)/\True/\True/\True/\True/\True/\True/\True/\True/\True/\True/\True/\True/\True/\True/\True/\True/\True/\True/\True/\True/\True/\True/\True/\True/\True/\True/\True/\True/\True/\True/\True/\True/\True/\True/\True/\True/\True/\True/\True/\nS))/\(hk=(rg e5).2.2.2.1/\cs=(rb (rg e5)).1/\nS)/\True)) /\
    LoopP (λ(d5:(List (Int×Bool))×Int) (q5:((List (Int×Bool))×Int)->Prop) =>
     ((decide (d5.2<(rg e5).1))=true ->
      (0<=d5.2)/\(d5.2<(rb e5).2.2.2.1.length)/\(I64 (d5.2+(1:Int)))/\(∃ d6:(List (Int×Bool))×Int,((True/\True/\True/\True/\(rb e5).2.2.2.1=(rb e5).2.2.2.1/\(rg e5).1=(rg e5).1/\(d5.2+(1:Int))=d6.2/\True)/\((e5.1=e5.1/\e5.2.1=e5.2.1/\nS)/\(e5.2.2.1=e5.2.2.1/\True/\e5.2.2.2.1=e5.2.2.2.1/\nS)/\((rb e5).1=(rb e5).1/\(rb e5).2.1=(rb e5).2.1/\(rb e5).2.2.1=(rb e5).2.2.1/\nS)/\((P3 (.i .i64) d5.1 (gD (rb e5).2.2.2.1 d5.2 (0,(0,false))).1 true)=d6.1)/\((Z6 e5)=(Z6 e5)/\(((rg e5).2.1=(rg e5).2.1/\(rg e5).2.2.1=(rg e5).2.2.1/\nS)/\True/\True/\(rb (rg e5)).2.1=(rb (rg e5)).2.1/\True/\True/\True/\True/\True/\((rb (rg e5)).2.2.1=(rb (rg e5)).2.2.1/\(rb (rg e5)).2.2.2.1=(rb (rg e5)).2.2.2.1/\nS)/\True/\True/\True/\True/\True/\True/\True/\True/\True/\True/\True/\True/\True/\True/\True/\True/\True/\True/\True/\True/\True/\True/\True/\True/\True/\True/\True/\True/\True/\True/\True/\True/\True/\True/\True/\True/\True/\True/\True/\nS))/\((rg e5).2.2.2.1=(rg e5).2.2.2.1/\(rb (rg e5)).1=(rb (rg e5)).1/\nS)/\True))/\q5 d6)) /\
     ((decide (d5.2<(rg e5).1))=false ->
      ((gq.aget (.i .i64) d5.1 (-1:Int) false)=true ->
       (Z6 e5)=w1/\((True/\(9:Int)=(QL hk cs)/\nS)/\(Bd hk cs))) /\
      ((gq.aget (.i .i64) d5.1 (-1:Int) false)=false ->
       ((decide ((lI d5.1)<(lI e5.2.1)))=true ->
        (Z6 e5)=w1/\((True/\(6:Int)=(QL hk cs)/\nS)/\(Bd hk cs))) /\
       ((decide ((lI d5.1)<(lI e5.2.1)))=false ->
        (Z6 e5)=w1/\((rb e5).2.1.length<=1000)/\(∀ m7:List (Int×Bool),(m7=([]:List (Int×Bool)))->∃ (wI:Unit) (d110:(List Int)×(List (Int×Bool))×Int),((True/\True/\True/\True/\(Yc (nmC (rb e5).2.1) (woM ([]:List (Int×Bool))) (rb e5).2.1.length (rb e5).2.1.length)=(Yf cs)/\(lI (rb (rg e5)).1)=(lI cs)/\(0:Int)=d110.2.2/\True)/\(((rg e5).2.2.2.1=hk/\(rb (rg e5)).1=cs/\nS)/\(d110.1=[]/\d110.1.isEmpty=true)/\((rb e5).1=hk/\(rb e5).2.1=cs/\(rb e5).2.2.1=hk/\nS)/\(m7=d110.2.1)/\True)) /\
        LoopP (λ(d11:(List Int)×(List (Int×Bool))×Int) (sL:((List Int)×(List (Int×Bool))×Int)->Prop) =>
         ((decide (d11.2.2<(lI cs)))=true ->
          (cs.length<=1000)/\(∀ lW:List (Int×Bool),(lW=(P3 (.i .i64) d11.2.1 d11.2.2 true))->((decide ((Yc (nmC cs) (woM (P3 (.i .i64) d11.2.1 d11.2.2 true)) cs.length cs.length)<(Yf cs)))=true ->
           (I64 (d11.2.2+(1:Int)))/\(∃ d13:(List Int)×(List (Int×Bool))×Int,((True/\True/\True/\True/\(Yf cs)=(Yf cs)/\(lI cs)=(lI cs)/\(d11.2.2+(1:Int))=d13.2.2/\True)/\((hk=hk/\cs=cs/\nS)/\(d11.1=d13.1/\d11.1.isEmpty=d13.1.isEmpty)/\(hk=hk/\cs=cs/\hk=hk/\nS)/\((Q9d (.i .i64) lW d11.2.2)=d13.2.1)/\True))/\sL d13)) /\
          ((decide ((Yc (nmC cs) (woM (P3 (.i .i64) d11.2.1 d11.2.2 true)) cs.length cs.length)<(Yf cs)))=false ->
           ((d11.1.length+(List.length [d11.2.2]))*8<=70368744177664)/\(I64 ((lI (d11.1++[d11.2.2]))+(Yf cs)))/\((((lI (d11.1++[d11.2.2]))+(Yf cs))==(lI cs))=true ->
            ((True/\(0:Int)=(QL hk cs)/\nS)/\(((d11.1++[d11.2.2])=(Q09 hk cs)/\false=(Q09 hk cs).isEmpty)/\True))) /\
           ((((lI (d11.1++[d11.2.2]))+(Yf cs))==(lI cs))=false ->
            (I64 (d11.2.2+(1:Int)))/\(∃ d14:(List Int)×(List (Int×Bool))×Int,((True/\True/\True/\True/\(Yf cs)=(Yf cs)/\(lI cs)=(lI cs)/\(d11.2.2+(1:Int))=d14.2.2/\True)/\((hk=hk/\cs=cs/\nS)/\((d11.1++[d11.2.2])=d14.1/\false=d14.1.isEmpty)/\(hk=hk/\cs=cs/\hk=hk/\nS)/\(lW=d14.2.1)/\True))/\sL d14))))) /\
         ((decide (d11.2.2<(lI cs)))=false ->
          ((True/\(0:Int)=(QL hk cs)/\nS)/\((d11.1=(Q09 hk cs)/\d11.1.isEmpty=(Q09 hk cs).isEmpty)/\True)))) d110))))) d50))))
def Xc:Cx:=⟨[(1000018,(.pair (.i .i64) .bo))],[(55,QA),(106,QK)],43,[3000015],0,[(64,KD)],[],[],[],false,[],[],[15],[]⟩
def Xf:List (Nat×LoopAnn):=[(0,⟨Int×(List (Int×Int×Bool))×Int×Int×Int×(List (Int×Int×Bool))×Int×(List (Int×Int×Bool))×Int×Int×(List (Int×Int×Bool))×Int×(List (Int×Int×Bool))×Int×Int×(List (Int×Int×Bool))×(List Value),(List (Int×Bool))×Int,[1,2,4,6,20,21,22],λe x=>[.box 1100001 0,.box 1100002 0,.box 1100004 0,.map 1100018,.val (.list (.pair (.i .i64) (.pair (.i .i64) .bo))) (rb e).2.2.2.1,.val (.i .i64) (rg e).1,.val (.i .i64) x.2],λe x=>[(1100001,.slot 1,.cells [.val (.i .i64) e.1,.val (.list (.pair (.i .i64) (.pair (.i .i64) .bo))) e.2.1] (some 66)),(1100002,.slot 2,.cells [.val (.i .i64) e.2.2.1,.nilS,.val (.i .i64) e.2.2.2.1] (some 131)),(1100004,.slot 4,.cells [.val (.i .i64) (rb e).1,.val (.list (.pair (.i .i64) (.pair (.i .i64) .bo))) (rb e).2.1,.val (.i .i64) (rb e).2.2.1] (some 131)),(1100018,.slot 6,.map (.i .i64) .bo x.1),(1099999,.key 1099999,.stk [.agg [.val (.i .i64) (rg e).2.1,.val (.list (.pair (.i .i64) (.pair (.i .i64) .bo))) (rg e).2.2.1],.box 1 0,.nilS,.val (.i .i64) (rb (rg e)).2.1,.any,.any,.any,.any,.any,.agg [.val (.i .i64) (rb (rg e)).2.2.1,.val (.list (.pair (.i .i64) (.pair (.i .i64) .bo))) (rb (rg e)).2.2.2.1],.any,.any,.any,.any,.any,.any,.any,.any,.any,.any,.any,.any,.any,.any,.any,.any,.any,.any,.any,.any,.any,.any,.any,.any,.any,.any,.any,.any,.any,.any,.any,.any,.any,.any,.any,.any,.any,.any,.any] (Z6 e)),(1,.key 1,.cells [.val (.i .i64) (rg e).2.2.2.1,.val (.list (.pair (.i .i64) (.pair (.i .i64) .bo))) (rb (rg e)).1] (some 66))]⟩)]
def BU:Cx:=⟨[(3,(.i .i64)),(1000016,(.pair (.i .i64) .bo))],[],49,[3000014],0,[(57,Q5i Xc (λ_=>Xf) c57 [.cell 2 true 3,.tmp 3] 43),(109,YZ)],[],[],[],false,[],[],[14],[]⟩
def Aa (hk:Int) (cs:List (Int×Int×Bool)):List (Nat×LoopAnn):=[(0,⟨Unit,(List Int)×(List (Int×Bool))×Int,[1,2,4,5,6,22,23],λe x=>[.box 1 0,.lst 38,.box 4 0,.map 16,.val (.i .i64) (Yc (nmC cs) (woM ([]:List (Int×Bool))) cs.length cs.length),.val (.i .i64) ((cs.length:Nat):Int),.val (.i .i64) x.2.2],λe x=>[(1,.slot 1,.cells [.val (.i .i64) hk,.val (.list (.pair (.i .i64) (.pair (.i .i64) .bo))) cs] (some 66)),(38,.slot 2,.lst 3 (.i .i64) x.1 (List.isEmpty x.1)),(4,.slot 4,.cells [.val (.i .i64) hk,.val (.list (.pair (.i .i64) (.pair (.i .i64) .bo))) cs,.val (.i .i64) hk] (some 131)),(16,.slot 5,.map (.i .i64) .bo x.2.1)]⟩)]
theorem CX (d:Int×List (Int×Int×Bool)):gwp (BU) (Aa d.1 d.2) c70 0 (WB [.tmp 2,.tmp 3] (GM d) (DA d)) (Qn 49 (AL.can BN d))=Kb d.1 d.2:=by kernel_rfl
abbrev CI:Prop:=OkC Tryz.prog 70 NH
theorem AM (h:∀ (hk:Int) (cs:List (Int×Int×Bool)),(cs.length<=1000)->Kb hk cs):OkC Tryz.prog 70 NH :=
 Qr Z77 mixed (C:=BU) (V:=λ(d:Int×List (Int×Int×Bool))=>Kb d.1 d.2) ⟨.nil,(XsOk.cons (U4 Z4l mixed (C:=Xc) ⟨(.cons QY (.cons Zk .nil)),(XsOk.cons Kf XsOk.nil),ItsOk.nil,YlOk.nil,IysOk.nil,XfOk.nil⟩ (λ_=>Xf)) (XsOk.cons Hs XsOk.nil)),ItsOk.nil,YlOk.nil,IysOk.nil,XfOk.nil⟩ (CX) λd hp=>h d.1 d.2 hp
set_option maxHeartbeats 1000000 in
theorem Ax:CI:=AM λhk cs h=>by
 have gO:∀ e:Int,QL hk cs=e->e≠0->(e=QL hk cs)/\Q09 hk cs=[]/\(Q09 hk cs).isEmpty=true:=λe h1 h2=>by
  have:Q09 hk cs=[]:=by unfold Q09;rw[z7 (by omega)]
  simp_all
 have bw:∀ e:Int,QJ hk cs=e->e≠0->QL hk cs=e:=λe h1 h2=>by unfold QL;rw[z6 (by omega)];exact h1
 unfold Kb;(try delta Yf Bd);(try delta lI gD sT I64 Z6 rg rb zD nS);intro w1 w2;repeat (first|refine⟨trivial,?_⟩|refine⟨rfl,?_⟩)
 refine⟨λc1=>?_,λc1=>?_⟩
 .repeat (first|refine⟨trivial,?_⟩|refine⟨rfl,?_⟩)
  have e:QJ hk cs=3:=by unfold QJ;rw[z6 c1]
  simp_all
 repeat (first|refine⟨trivial,?_⟩|refine⟨rfl,?_⟩)
 refine⟨λc2=>?_,λc2=>?_⟩
 .have c2:60<cs.length:=by have:=zu c2;omega
  have e:QJ hk cs=5:=by unfold QJ;simp_all
  simp_all
 have c2:cs.length<=60:=by have:=zC c2;omega
 obtain⟨i1,i2⟩:=EG c1;repeat (first|refine⟨trivial,?_⟩|refine⟨rfl,?_⟩)
 refine⟨⟨i1,i2,by omega⟩,λc3=>?_,λc3=>?_⟩
 .grind [I5]
 obtain⟨be,aG,ak⟩:=L9 c1 c2 c3;repeat (first|refine⟨trivial,?_⟩|refine⟨rfl,?_⟩)
 refine⟨(hk,cs,0,0,hk,cs,hk,cs,(cs.length:Int),hk,cs,hk,cs,0,hk,cs,w1),([],0),by and_intros<;>first|rfl|trivial,?_⟩;refine⟨λd=>∃ k:Nat,k<=cs.length/\d.2=(k:Int)/\SeenI (cs.map (·.1)) d.1 k,λd=>cs.length-d.2.toNat,⟨0,by omega,rfl,SeenI.nil _⟩,?_⟩;rintro⟨mm,_⟩ ⟨k,bp,rfl,hS⟩;dsimp only at hS |-;refine⟨λc=>?_,λc=>?_⟩
 .have aj:k<cs.length:=by have:=zu c;omega
  have hp:=hS.put (by simpa using aj);have eg:(cs.map (·.1)).getD k 0=(cs.getD k (0,(0,false))).1:=by
   simp_all
  rw[eg] at hp;simp only[zd];exact⟨by omega,by omega,by rw[Qc];omega,(P3 (.i .i64) mm (cs.getD k (0,(0,false))).1 true,(k:Int)+1),by and_intros<;>first|rfl|trivial,⟨k+1,aj,rfl,hp⟩,by dsimp only;omega⟩
 .have aw:k=cs.length:=by have:=zC c;omega
  subst aw;have hl:(cs.map (·.1)).length=cs.length:=xG ..;rw[<-hl] at hS;obtain⟨f1,f2⟩:=hS.full;rw[hl] at f2;refine⟨λc4=>?_,λc4=>?_⟩
  .rw[f1] at c4;have e:QL hk cs=9:=by unfold QL;simp_all
   simp_all
  rw[f1] at c4;have c4:=zC c4;refine⟨λc5=>?_,λc5=>?_⟩
  .rw[f2] at c5;have e:QL hk cs=6:=by unfold QL;simp_all
   simp_all
  rw[f2] at c5;have ef:(cs.map (·.1)).Nodup:=(by simp_all);have en:QL hk cs=0:=by unfold QL;simp_all
  have em:Q09 hk cs=mvK (nmC cs) cs.length cs.length:=by unfold Q09;rw[z6 en]
  rw[en,em];have kF:Yc (nmC cs) (woM ([]:List (Int×Bool))) cs.length cs.length=Ha (nmC cs) cs.length:=rfl;rw[kF];obtain⟨b1,b2,_⟩:=Q6a (nmC cs) (λ_=>false) cs.length;have b1:0<=Ha (nmC cs) cs.length:=b1;have b2:Ha (nmC cs) cs.length<=cs.length:=b2;clear kF hS f1 f2;repeat (first|refine⟨trivial,?_⟩|refine⟨rfl,?_⟩)
  refine⟨h,λm7 vB=>?_⟩;subst vB;refine⟨(),([],[],0),by and_intros<;>first|rfl|trivial,?_⟩;refine⟨λd=>∃ k:Nat,k<=cs.length/\d=(mvK (nmC cs) cs.length k,(mvK (nmC cs) cs.length k).map (λx=>(x,true)),(k:Int))/\(((mvK (nmC cs) cs.length k).length:Int)+Ha (nmC cs) cs.length≠cs.length\/Ha (nmC cs) cs.length=cs.length),λd=>cs.length-d.2.2.toNat,⟨0,by omega,rfl,?_⟩,?_⟩
  .by_cases q:Ha (nmC cs) cs.length=cs.length
   .exact .inr q
   .left;show ((([]:List Int).length:Nat):Int)+_≠_;simpa using q
  rintro _ ⟨k,bp,rfl,hq⟩;dsimp only;have mg:(k:Int)∉mvK (nmC cs) cs.length k:=λhm=>by have:=Q2k _ _ _ _ hm;omega
  have dF:=Q83 mg;have hlen:=Q7n (nmC cs) cs.length k;have kG:mvK (nmC cs) cs.length (k+1)=if ((mvK (nmC cs) cs.length k).length:Int)+Ha (nmC cs) cs.length=cs.length then mvK (nmC cs) cs.length k else if Yc (nmC cs) (woL (mvK (nmC cs) cs.length k++[(k:Int)])) cs.length cs.length<Ha (nmC cs) cs.length then mvK (nmC cs) cs.length k else mvK (nmC cs) cs.length k++[(k:Int)]:=rfl
  refine⟨λc=>?_,λc=>?_⟩
  .have aj:k<cs.length:=by have:=zu c;omega
   have vC:woL (mvK (nmC cs) cs.length k++[(k:Int)]) k=true:=x3 (by simp_all);obtain⟨_,_,b3⟩:=Q6a (nmC cs) (woL (mvK (nmC cs) cs.length k++[(k:Int)])) cs.length;have b3:=b3 k aj vC;refine⟨h,λlW oy=>?_⟩;rw[dF] at oy;subst oy;rw[dF,Z4m,Q6b mg];refine⟨λc6=>?_,λc6=>?_⟩
   .have c6:=zu c6;have es:mvK (nmC cs) cs.length (k+1)=mvK (nmC cs) cs.length k:=by
     rw[kG,z6 c6,ite_self]
    refine⟨by rw[Qc];omega,(mvK (nmC cs) cs.length (k+1),(mvK (nmC cs) cs.length (k+1)).map (λx=>(x,true)),(k:Int)+1),?_,(by grind),by dsimp only;omega⟩;simp_all
   .have c6:=zC c6;have sM:((mvK (nmC cs) cs.length k).length:Int)+Ha (nmC cs) cs.length≠cs.length:=by
     omega
    have es:mvK (nmC cs) cs.length (k+1)=mvK (nmC cs) cs.length k++[(k:Int)]:=by rw[kG,z7 sM,z7 c6]
    have cN:(mvK (nmC cs) cs.length k++[(k:Int)]).length=(mvK (nmC cs) cs.length k).length+1:=by simp
    have me:(mvK (nmC cs) cs.length k++[(k:Int)]).isEmpty=false:=by simp
    rw[<-es] at cN me |-;refine⟨by simp;omega,by rw[Qc];omega,λc7=>?_,λc7=>?_⟩
    .have c7:((mvK (nmC cs) cs.length (k+1)).length:Int)+Ha (nmC cs) cs.length=cs.length:=by simpa using c7
     have a9:=Q1z c7 (cs.length-(k+1))
     grind
    .have c7:((mvK (nmC cs) cs.length (k+1)).length:Int)+Ha (nmC cs) cs.length≠cs.length:=by simpa using c7
     refine⟨by rw[Qc];omega,(mvK (nmC cs) cs.length (k+1),(mvK (nmC cs) cs.length (k+1)).map (λx=>(x,true)),(k:Int)+1),?_,⟨k+1,aj,rfl,.inl c7⟩,by dsimp only;omega⟩;simp_all
  grind
def Xj (n mo:Nat):List (Int×Int):=(List.range n).flatMap λ(a:Nat)=>(List.range (mo+1)).map λ(f:Nat)=>((a:Int),(f:Int))
def Pj (n:Int) (p:Int×Int) (s:Int):Int×Int:=(Int.tmod (p.1+s) n,p.2+if s=1 then 0 else 1)
def Rb (n mo:Int) (p:Int×Int) (w:Int) (q:Int×Int) (s:Int):Int:=if Pj n p s=q/\q.2<=mo then w else 0
def OL (n mo:Int) (wv:Int->Bool) (p:Int×Int) (w:Int) (q:Int×Int):Int:=if wv p.1=true then Rb n mo p w q 0+Rb n mo p w q 1+Rb n mo p w q 2 else 0
def wyK (n mo:Nat) (wv:Nat->Int->Bool):Nat->Int×Int->Int
 |0,q=>if 0<=q.1/\q.1<(n:Int)/\q.2=0 then 1 else 0
 |k+1,q=>((Xj n mo).map λp=>OL n mo (wv k) p (wyK n mo wv k p) q).sum
def MapW (n mo:Nat) (m:List ((Int×Int)×Int)) (W:Int×Int->Int):Prop:=(m.map (·.1)).Nodup/\(∀ e∈m,e.2=W e.1/\0<e.2/\e.1∈Xj n mo)/\∀ q,W q≠0->∃ e∈m,e.1=q
theorem Kh {n mo:Nat}{q:Int×Int}:q∈Xj n mo<->(0<=q.1/\q.1<n)/\0<=q.2/\q.2<=mo:=by
 unfold Xj;simp only[List.mem_flatMap,xk,zS];constructor
 .grind
 .intro h;exact⟨q.1.toNat,by omega,q.2.toNat,by omega,by ext<;>dsimp only<;>omega⟩
theorem Ba (n mo:Nat):(Xj n mo).Nodup:=by
 unfold Xj
 grind [List.nodup_range,Prod.ext_iff]
theorem Q3k {l l':List Int}(h:l.Perm l'):l.sum=l'.sum:=by
 induction h with
 |nil=>rfl
 |cons x _ ih=>simp only[xV];omega
 |swap x y l=>simp only[xV];omega
 |trans _ _ h1 h2=>exact h1.trans h2
theorem Sq {α:Type}{f:α->Int}:∀ {l:List α},(∀ x∈l,f x=0)->(l.map f).sum=0
 |[],_=>rfl
 |x::l,h=>by rw[zO,xV,h x (zn ..),Sq (by simp_all)];rfl
theorem Nd {α:Type}{f:α->Int}:∀ {l:List α},(∀ x∈l,0<=f x)->0<=(l.map f).sum
 |[],_=>Int.le_refl _
 |x::l,h=>by have h1:=h x (zn ..);have h2:=Nd (l:=l) λy hy=>h y (zB _ hy);rw[zO,xV];omega
theorem F6 {α:Type}(f:α->Int) (a b:List α):((a++b).map f).sum=(a.map f).sum+(b.map f).sum:=by simp_all
theorem L8 {n mo:Nat}{m:List ((Int×Int)×Int)}{W:Int×Int->Int}(h:MapW n mo m W) (G:Int×Int->Int->Int) (h0:∀ p,G p 0=0):(m.map λe=>G e.1 e.2).sum=((Xj n mo).map λp=>G p (W p)).sum:=by
 obtain⟨h1,h2,h3⟩:=h;have e1:(m.map λe=>G e.1 e.2)=(m.map (·.1)).map λp=>G p (W p):=by
  grind [List.map_map,List.map_congr_left]
 have hp:((m.map (·.1))++(Xj n mo).filter λp=>!(m.map (·.1)).contains p).Perm (Xj n mo):=by
  refine (xZ (List.nodup_append.2 ⟨h1,(Ba n mo).filter _,λa ha b hb e=>?_⟩) (Ba n mo)).2 λa=>?_
  .simp_all
  grind
 rw[e1,<-Q3k (hp.map λp=>G p (W p)),F6]
 grind [Sq]
def WX (m:List ((Int×Int)×Int)) (k:Int×Int):Int:=gq.aget (.pair (.i .i64) (.i .i64)) m k 0
def Gy (m:List ((Int×Int)×Int)) (k:Int×Int) (v:Int):List ((Int×Int)×Int):=P3 (.pair (.i .i64) (.i .i64)) m k v
theorem Z9k {a b:Int×Int}:gq.keq (.pair (.i .i64) (.i .i64)) a b=true<->a=b:=by
 show ((a.1==b.1)&&(a.2==b.2))=true<->_
 grind
theorem VZ (a:Int×Int) (b:Int) (m:List ((Int×Int)×Int)) (k:Int×Int):WX ((a,b)::m) k=if k=a then b else WX m k:=by
 show (if gq.keq (.pair (.i .i64) (.i .i64)) k a=true then b else gq.aget (.pair (.i .i64) (.i .i64)) m k 0)=_;by_cases h:k=a
 .rw[z6 (Z9k.2 h),z6 h]
 .rw[z7 (λe=>h (Z9k.1 e)),z7 h];rfl
theorem Vy (a:Int×Int) (b:Int) (m:List ((Int×Int)×Int)) (k:Int×Int) (v:Int):Gy ((a,b)::m) k v=if k=a then (k,v)::m else (a,b)::Gy m k v:=by
 show (if gq.keq (.pair (.i .i64) (.i .i64)) k a=true then (k,v)::m else (a,b)::P3 (.pair (.i .i64) (.i .i64)) m k v)=_;by_cases h:k=a
 .rw[z6 (Z9k.2 h),z6 h]
 .rw[z7 (λe=>h (Z9k.1 e)),z7 h];rfl
theorem Q5q {m:List ((Int×Int)×Int)}(hn:(m.map (·.1)).Nodup) {e:(Int×Int)×Int}(he:e∈m):WX m e.1=e.2:=by
 induction m with
 |nil=>cases he
 |cons x m ih =>
  obtain⟨a,b⟩:=x;rw[zO,x8] at hn;rw[VZ];rcases zN.1 he with rfl|he
  .rw[z6 rfl]
  .grind
theorem Q05 {k:Int×Int}:∀ {m:List ((Int×Int)×Int)},(∀ e∈m,e.1≠k)->WX m k=0
 |[],_=>rfl
 |(a,b)::m,h=>by rw[VZ,z7 (by grind [List.mem_cons_self])];exact Q05 (by grind)
theorem MapW.get {n mo:Nat}{m:List ((Int×Int)×Int)}{W:Int×Int->Int}(h:MapW n mo m W) (q:Int×Int):WX m q=W q:=by
 by_cases hz:W q=0
 .rw[hz];refine Q05 λe he hq=>?_;have:=h.2.1 e he;rw[hq,hz] at this;omega
 .obtain⟨e,he,rfl⟩:=h.2.2 q hz;rw[Q5q h.1 he];exact(h.2.1 e he).1
theorem Q3h (k:Int×Int) (v:Int):∀ (m:List ((Int×Int)×Int)),(m.map (·.1)).Nodup->(∀ e∈Gy m k v,e=(k,v)\/e∈m/\e.1≠k)/\(k,v)∈Gy m k v/\(∀ e∈m,e.1≠k->e∈Gy m k v)/\((Gy m k v).map (·.1)).Nodup
 |[],_=>⟨λe he=>.inl (zK.1 he),zK.2 rfl,λe he=>(by cases he),List.pairwise_singleton _ _⟩
 |(a,b)::m,hn=>by
  rw[zO,x8] at hn;obtain⟨h1,h2,h3,h4⟩:=Q3h k v m hn.2;rw[Vy]
  grind
theorem MapW.add {n mo:Nat}{m:List ((Int×Int)×Int)}{W:Int×Int->Int}(h:MapW n mo m W) (hW:∀ q,0<=W q) {k:Int×Int}{w:Int}(hw:0<w) (hk:k∈Xj n mo):MapW n mo (Gy m k (WX m k+w)) (λq=>W q+if q=k then w else 0):=by
 obtain⟨p1,p2,p3,p4⟩:=Q3h k (WX m k+w) m h.1;have hg:=h.get k;have wJ:=hW k;refine⟨p4,λe he=>?_,λq hq=>?_⟩
 .rcases p1 e he with rfl|⟨h1,h2⟩
  .grind
  .dsimp only;rw[z7 h2];have:=h.2.1 e h1;exact⟨by omega,this.2⟩
 .by_cases e:q=k
  .exact⟨_,p2,e.symm⟩
  .dsimp only at hq;rw[z7 e] at hq;obtain⟨x,hx,rfl⟩:=h.2.2 q (by omega);exact⟨x,p3 x hx e,rfl⟩
theorem MapW.congr {n mo:Nat}{m:List ((Int×Int)×Int)}{W W':Int×Int->Int}(h:MapW n mo m W) (e:∀ q,W q=W' q):MapW n mo m W':=by have:W=W':=funext e;rw[<-this];exact h
theorem MapW.nil (n mo:Nat):MapW n mo [] λ_=>0:=⟨List.nodup_nil,(λe he=>by cases he),λq hq=>(hq rfl).elim⟩
theorem NU {n mo:Int}{p:Int×Int}{w:Int}{q:Int×Int}{s:Int}(hw:0<=w):0<=Rb n mo p w q s/\Rb n mo p w q s<=w:=by unfold Rb;split<;>omega
theorem SC {n mo:Int}{wv:Int->Bool}{p:Int×Int}{w:Int}{q:Int×Int}(hw:0<=w):0<=OL n mo wv p w q:=by have h0:=(NU (n:=n) (mo:=mo) (p:=p) (q:=q) (s:=0) hw).1;have h1:=(NU (n:=n) (mo:=mo) (p:=p) (q:=q) (s:=1) hw).1;have h2:=(NU (n:=n) (mo:=mo) (p:=p) (q:=q) (s:=2) hw).1;unfold OL;split<;>omega
theorem T6 (n mo:Nat) (wv:Nat->Int->Bool):∀ k q,0<=wyK n mo wv k q
 |0,q=>by simp only[wyK];split<;>omega
 |k+1,q=>Nd λp _=>SC (T6 n mo wv k p)
theorem Z0c (n mo:Nat) (wv:Nat->Int->Bool) (hn:0<n):∀ k q,wyK n mo wv k q≠0->q∈Xj n mo
 |0,q,h=>by
  simp only[wyK] at h
  grind [Kh]
 |k+1,q,h=>by
  simp only[wyK] at h;by_cases hq:q∈Xj n mo
  .exact hq
  .exfalso;refine h (Sq λp hp=>?_);rw[Kh] at hp hq;have z:∀ s:Int,0<=s->Rb n mo p (wyK n mo wv k p) q s=0:=λs hs=>by
    unfold Rb;rw[z7];rintro⟨h1,h2⟩;apply hq;have e1:=(Prod.ext_iff.1 h1).1;have e2:=(Prod.ext_iff.1 h1).2;unfold Pj at e1 e2;dsimp only at e1 e2;rw[Int.tmod_eq_emod_of_nonneg (by omega)] at e1;have b1:=Int.emod_nonneg (p.1+s) (show (n:Int)≠0 by omega);have b2:=Int.emod_lt_of_pos (p.1+s) (show (0:Int)<n by omega);split at e2<;>omega
   unfold OL;simp_all
theorem Q7o {α:Type}{f:α->Int}{B:Int}(hB:0<=B):∀ {l:List α},l.Nodup->(∀ x∈l,0<=f x/\f x<=B)->(∀ x∈l,∀ y∈l,f x≠0->f y≠0->x=y)->(l.map f).sum<=B
 |[],_,_,_=>hB
 |x::l,hn,hb,h1=>by
  rw[x8] at hn;rw[zO,xV];by_cases hx:f x=0
  .have:=Q7o hB hn.2 (λy hy=>hb y (zB _ hy)) λy hy z hz=>h1 y (zB _ hy) z (zB _ hz);omega
  grind [Sq,List.mem_cons_self,List.mem_cons_of_mem]
theorem Z4w {n:Int}{p p':Int×Int}{s:Int}(hs:0<=s) (h1:0<=p.1/\p.1<n) (h2:0<=p'.1/\p'.1<n) (h:Pj n p s=Pj n p' s):p=p':=by
 have e1:=(Prod.ext_iff.1 h).1;have e2:=(Prod.ext_iff.1 h).2;unfold Pj at e1 e2;dsimp only at e1 e2;rw[Int.tmod_eq_emod_of_nonneg (by omega),Int.tmod_eq_emod_of_nonneg (by omega)] at e1;have h3:p.1=p'.1:=by
  have a1:=Int.emod_add_emod p.1 n s;have:=Int.emod_emod_of_dvd;have d:(p.1-p'.1) % n=0:=by
   grind [Int.emod_eq_emod_iff_emod_sub_eq_zero]
  obtain⟨c,hc⟩:=Int.dvd_of_emod_eq_zero d;have c1:c<1:=by
   by_cases h:1<=c
   .have:=Int.mul_le_mul_of_nonneg_left h (show 0<=n by omega);omega
   .omega
  have c2:-1<c:=by
   by_cases h:c<=-1
   .have:=Int.mul_le_mul_of_nonneg_left h (show 0<=n by omega);omega
   .omega
  grind
 exact Prod.ext h3 (by omega)
theorem Z2b {α:Type}{f g:α->Int}:∀ {l:List α},(∀ x∈l,f x<=g x)->(l.map f).sum<=(l.map g).sum
 |[],_=>Int.le_refl _
 |x::l,h=>by have h1:=h x (zn ..);have h2:=Z2b (l:=l) λy hy=>h y (zB _ hy);rw[zO,zO,xV,xV];omega
theorem Q1f {α:Type}(f g:α->Int):∀ (l:List α),(l.map λx=>f x+g x).sum=(l.map f).sum+(l.map g).sum
 |[]=>rfl
 |x::l=>by
  have:=Q1f f g l
  grind
theorem Q8i {n mo:Nat}{V:Int×Int->Int}{q:Int×Int}{s B:Int}(hs:0<=s) (hB:0<=B) (hV:∀ p,0<=V p) (hb:∀ p∈Xj n mo,Pj n p s=q->V p<=B):((Xj n mo).map λp=>Rb n mo p (V p) q s).sum<=B:=by
 refine Q7o hB (Ba n mo) (λp hp=>?_) λp hp p' bE h1 h2=>?_
 .have:=NU (n:=n) (mo:=mo) (p:=p) (q:=q) (s:=s) (hV p);refine⟨this.1,?_⟩;by_cases hq:Pj n p s=q
  .have:=hb p hp hq;omega
  .unfold Rb;rw[z7 λh=>hq h.1];exact hB
 .rw[Kh] at hp bE;have e1:Pj n p s=q:=by
   by_cases h:Pj n p s=q
   .exact h
   .unfold Rb at h1;simp_all
  have e2:Pj n p' s=q:=by
   by_cases h:Pj n p' s=q
   .exact h
   .unfold Rb at h2;simp_all
  grind [Z4w]
theorem Q2p {n mo:Nat}(wv:Nat->Int->Bool) (hn:0<n):∀ (k:Nat) (q:Int×Int),0<=q.2->wyK n mo wv k q<=((2*k+1) ^ q.2.toNat:Nat)
 |0,q,hq=>by
  simp only[wyK]
  grind
 |k+1,q,hq=>by
  have dU:=T6 n mo wv k;have h0:wyK n mo wv (k+1) q<=((Xj n mo).map λp=>(Rb n mo p (wyK n mo wv k p) q 0+Rb n mo p (wyK n mo wv k p) q 1)+Rb n mo p (wyK n mo wv k p) q 2).sum:=Z2b λp _=>by have a0:=(NU (n:=n) (mo:=mo) (p:=p) (q:=q) (s:=0) (dU p)).1;have a1:=(NU (n:=n) (mo:=mo) (p:=p) (q:=q) (s:=1) (dU p)).1;have a2:=(NU (n:=n) (mo:=mo) (p:=p) (q:=q) (s:=2) (dU p)).1;unfold OL;split<;>omega
  rw[Q1f,Q1f] at h0;obtain⟨f,hf⟩:∃ f:Nat,q.2=f:=⟨q.2.toNat,by omega⟩;have b1:((Xj n mo).map λp=>Rb n mo p (wyK n mo wv k p) q 1).sum<=((2*k+1) ^ f:Nat):=Q8i (by omega) (by omega) dU λp hp he=>by rw[Kh] at hp;have e2:=(Prod.ext_iff.1 he).2;unfold Pj at e2;dsimp only at e2;rw[z6 rfl] at e2;have:=Q2p (n:=n) (mo:=mo) wv hn k p hp.2.1;simp_all
  have bs:∀ s:Int,0<=s->s≠1->((Xj n mo).map λp=>Rb n mo p (wyK n mo wv k p) q s).sum<=((if f=0 then 0 else (2*k+1) ^ (f-1):Nat):Int):=λs hs fh=>Q8i hs (by omega) dU λp hp he=>by
   rw[Kh] at hp;have e2:=(Prod.ext_iff.1 he).2;unfold Pj at e2;dsimp only at e2;rw[z7 fh] at e2;have:=Q2p (n:=n) (mo:=mo) wv hn k p hp.2.1
   grind
  have b0:=bs 0 (by omega) (by omega);have b2:=bs 2 (by omega) (by omega);rw[hf,zd];have key:(2*k+1) ^ f+2*(if f=0 then 0 else (2*k+1) ^ (f-1))<=(2*(k+1)+1) ^ f:=by
   cases f with
   |zero=>simp
   |succ g =>
    rw[z7 (by omega),Nat.add_sub_cancel];have hp:(2*k+1) ^ g<=(2*(k+1)+1) ^ g:=Nat.pow_le_pow_left (by omega) g;have h1:(2*k+1) ^ (g+1)+2*(2*k+1) ^ g=(2*k+1) ^ g*(2*(k+1)+1):=by
     grind
    rw[h1,Nat.pow_succ];exact zk _ hp
  omega
theorem Q2m {α:Type}{d:α}{m:List α}{F:α->Int}{dn:List Nat}(hn:dn.Nodup) (aj:∀ r∈dn,r<m.length) (hF:∀ x∈m,0<=F x):(dn.map λr=>F (m.getD r d)).sum<=(m.map F).sum/\((∀ r,r<m.length->r∈dn)->(dn.map λr=>F (m.getD r d)).sum=(m.map F).sum):=by
 have e:m.map F=(List.range m.length).map λr=>F (m.getD r d):=by
  refine List.ext_getElem (by simp) λi h1 h2=>?_
  grind
 have hp:(dn++(List.range m.length).filter λr=>!dn.contains r).Perm (List.range m.length):=by
  grind [List.perm_ext_iff_of_nodup,List.nodup_append,List.nodup_range]
 rw[e,<-Q3k (hp.map λr=>F (m.getD r d)),F6];constructor
 .have:0<=(((List.range m.length).filter λr=>!dn.contains r).map λr=>F (m.getD r d)).sum:=Nd (by simp_all);omega
 grind [List.filter_eq_nil_iff]
def wvB (hk:Int) (cs:List YB) (cl:List Int) (k:Nat) (a:Int):Bool:=(cl.getD k 0==-1)||(cl.getD k 0==Dy hk (cs.getD a.toNat WY))
theorem IZ (k:Int×Int) (a b:Int):∀ m:List ((Int×Int)×Int),Gy (Gy m k a) k b=Gy m k b
 |[]=>by show Gy [(k,a)] k b=[(k,b)];rw[Vy,z6 rfl]
 |(x,v)::m=>by
  rw[Vy,Vy];by_cases h:k=x
  .rw[z6 h,z6 h,Vy,z6 rfl]
  .rw[z7 h,z7 h,Vy,z7 h,IZ k a b m]
theorem IA (k q:Int×Int) (v:Int):∀ m:List ((Int×Int)×Int),WX (Gy m k v) q=if q=k then v else WX m q
 |[]=>by show WX [(k,v)] q=_;rw[VZ]
 |(x,w)::m=>by
  rw[Vy];by_cases h:k=x
  .subst h;rw[z6 rfl,VZ,VZ];split<;>rfl
  .rw[z7 h,VZ,IA k q v m,VZ]
   grind
def Q51 (n mo:Int) (p:Int×Int) (w:Int) (m:List ((Int×Int)×Int)) (s:Int):List ((Int×Int)×Int):=if (Pj n p s).2<=mo then Gy m (Pj n p s) (WX m (Pj n p s)+w) else m
def Z5o (n mo:Int) (p:Int×Int) (w:Int) (m:List ((Int×Int)×Int)):List ((Int×Int)×Int):=Q51 n mo p w (Q51 n mo p w (Q51 n mo p w m 0) 1) 2
theorem Z0v (n mo:Int) (p:Int×Int) (w:Int) (m:List ((Int×Int)×Int)) (s:Int) (q:Int×Int):WX (Q51 n mo p w m s) q=WX m q+Rb n mo p w q s:=by
 unfold Q51 Rb;by_cases h:(Pj n p s).2<=mo
 .rw[z6 h,IA]
  grind
 grind
theorem Q8w {n mo:Nat}{m:List ((Int×Int)×Int)}{W:Int×Int->Int}(h:MapW n mo m W) (hW:∀ q,0<=W q) {p:Int×Int}{w s:Int}(hw:0<w) (hn:0<n) (hp:0<=p.1/\0<=p.2) (hs:0<=s):MapW n mo (Q51 n mo p w m s) (λq=>W q+Rb n mo p w q s):=by
 unfold Q51;by_cases hc:(Pj n p s).2<=mo
 .rw[z6 hc];refine (h.add hW hw (k:=Pj n p s) ?_).congr λq=>?_
  .rw[Kh];have b1:=Int.emod_nonneg (p.1+s) (show (n:Int)≠0 by omega);have b2:=Int.emod_lt_of_pos (p.1+s) (show (0:Int)<n by omega);refine⟨?_,?_,hc⟩
   .unfold Pj
    grind
   .unfold Pj;dsimp only;split<;>omega
  .unfold Rb
   grind
 .rw[z7 hc];exact h.congr λq=>by
   unfold Rb
   grind
theorem Z6m {n mo:Nat}{m:List ((Int×Int)×Int)}{W:Int×Int->Int}(h:MapW n mo m W) (hW:∀ q,0<=W q) {p:Int×Int}{w:Int}(hw:0<w) (hn:0<n) (hp:0<=p.1/\0<=p.2):MapW n mo (Z5o n mo p w m) (λq=>W q+(Rb n mo p w q 0+Rb n mo p w q 1+Rb n mo p w q 2)):=by have z:=λq s=>(NU (n:=n) (mo:=mo) (p:=p) (q:=q) (s:=s) (Int.le_of_lt hw)).1;have h1:=Q8w h hW hw hn hp (s:=0) (by omega);have h2:=Q8w h1 (λq=>by have:=hW q;have:=z q 0;omega) hw hn hp (s:=1) (by omega);have h3:=Q8w h2 (λq=>by have:=hW q;have:=z q 0;have:=z q 1;omega) hw hn hp (s:=2) (by omega);exact h3.congr λq=>by omega
def YO:AL (Int×Int×(List (Int×Int×Bool))×Int):=(.cons (.k (.i .i64)) (.one (.ptr (.cons (.k (.i .i64)) (.cons (.k (.list (.pair (.i .i64) (.pair (.i .i64) .bo)))) (.one (.k (.i .i64))))))))
def Mg (d:Int×Int×(List (Int×Int×Bool))×Int):Prop:=1<=d.2.2.2/\d.2.2.2<=24
def Yi (d:Int×Int×(List (Int×Int×Bool))×Int):SV:=.val .bo (decide (d.1≠-1)&&!inI d.1 0 (2 ^ d.2.2.2.toNat-1))
def WZ (d:Int×Int×(List (Int×Int×Bool))×Int):List OB:=[]
def XP:CSp:=Wt YO Mg Yi WZ
def J6 (r:Int) (hk:Int) (cs:List (Int×Int×Bool)) (f:Int):Prop :=
 ((r != (-1:Int))=true->True)/\((r != (-1:Int))=true->1<=f/\f<=24/\[r].length<=1000000)/\(((r != (-1:Int))&&(!(!([r].any λn=>!inI n 0 (2 ^ f.toNat-1)))))=(decide (r≠-1)&&!inI r 0 (2 ^ f.toNat-1))/\(True))
def YJ:Cx:=⟨[(3,(.i .i64))],[(56,ZE)],14,[],0,[],[],[],[],false,[],[],[],[]⟩
def G1 (r:Int) (hk:Int) (cs:List (Int×Int×Bool)) (f:Int):List (Nat×LoopAnn):=[]
theorem MV (d:Int×Int×(List (Int×Int×Bool))×Int):gwp (YJ) (G1 d.1 d.2.1 d.2.2.1 d.2.2.2) J0c 0 (WB [.tmp 3] (Yi d) (WZ d)) (Qn 14 (AL.can YO d))=J6 d.1 d.2.1 d.2.2.1 d.2.2.2:=by kernel_rfl
abbrev Ga:Prop:=OkC Tryz.prog 163 XP
theorem G7 (h:∀ (r:Int) (hk:Int) (cs:List (Int×Int×Bool)) (f:Int),(1<=f/\f<=24)->J6 r hk cs f):OkC Tryz.prog 163 XP :=
 Qr Z25 mixed (C:=YJ) (V:=λ(d:Int×Int×(List (Int×Int×Bool))×Int)=>J6 d.1 d.2.1 d.2.2.1 d.2.2.2) ⟨(.cons Xm .nil),XsOk.nil,ItsOk.nil,YlOk.nil,IysOk.nil,XfOk.nil⟩ (MV) λd hp=>h d.1 d.2.1 d.2.2.1 d.2.2.2 hp
theorem MT:Ga:=G7 λr hk cs f h=>by unfold J6;grind
def Bw:AL (Int):=(.one (.k (.i .i64)))
def SA (d:Int):Prop:=True
def GU (d:Int):SV:=.val (.i .i64) (if d=1 then 0 else 1)
def D7 (d:Int):List OB:=[]
def Mc:CSp:=Wt Bw SA GU D7
def Kg (s:Int):Prop :=
 ((s==(1:Int))=true ->
  ((0:Int)=(if s=1 then 0 else 1)/\(True))) /\
 ((s==(1:Int))=false ->
  ((1:Int)=(if s=1 then 0 else 1)/\(True)))
def Bz:Cx:=⟨[],[],5,[],0,[],[],[],[],false,[],[],[],[]⟩
def CF (s:Int):List (Nat×LoopAnn):=[]
theorem Az (d:Int):gwp (Bz) (CF d) J2d 0 (WB [.tmp 2] (GU d) (D7 d)) (Qn 5 (AL.can Bw d))=Kg d:=by kernel_rfl
abbrev Ay:Prop:=OkC Tryz.prog 173 Mc
theorem CT (h:∀ (s:Int),(True)->Kg s):OkC Tryz.prog 173 Mc :=
 Qr Z2p mixed (C:=Bz) (V:=λ(d:Int)=>Kg d) ⟨.nil,XsOk.nil,ItsOk.nil,YlOk.nil,IysOk.nil,XfOk.nil⟩ (Az) λd hp=>h d hp
theorem AJ:Ay:=CT λs _=>by unfold Kg;simp_all
def WI:AL ((Int×(List (Int×Int×Bool))×Int×List Int)×Int×Int):=(.cons (.agg (.cons (.k (.i .i64)) (.cons (.k (.list (.pair (.i .i64) (.pair (.i .i64) .bo)))) (.cons (.k (.i .i64)) (.one (.k (.list (.i .i64)))))))) (.cons (.k (.i .i64)) (.one (.k (.i .i64)))))
def UW (d:(Int×(List (Int×Int×Bool))×Int×List Int)×Int×Int):Prop:=1<=d.1.2.2.1/\d.1.2.2.1<=24/\0<=d.2.1/\d.2.1<d.1.2.2.2.length/\0<=d.2.2/\d.2.2<d.1.2.1.length/\∀ c∈d.1.2.1,Zv d.1.2.2.1 c=true
def Wd (d:(Int×(List (Int×Int×Bool))×Int×List Int)×Int×Int):SV:=.val .bo (wvB d.1.2.2.1 d.1.2.1 d.1.2.2.2 d.2.1.toNat d.2.2)
def We (d:(Int×(List (Int×Int×Bool))×Int×List Int)×Int×Int):List OB:=[]
def X6:CSp:=Wt WI UW Wd We
def ZG (hk:Int) (cs:List (Int×Int×Bool)) (f:Int) (cl:List Int) (pk:Int) (at_:Int):Prop :=
 (0<=pk)/\(pk<cl.length)/\(((gD cl pk 0)==(-1:Int))=false->0<=pk)/\(((gD cl pk 0)==(-1:Int))=false->pk<cl.length)/\(((gD cl pk 0)==(-1:Int))=false->1<=f/\f<=24/\0<=at_/\at_<cs.length/\∀ c∈cs,Zv f c=true)/\((((gD cl pk 0)==(-1:Int))||((gD cl pk 0)==(Dy f (cs.getD at_.toNat WY))))=(wvB f cs cl pk.toNat at_)/\(True))
def WQ:Cx:=⟨[],[(66,XB)],25,[],0,[],[],[],[],false,[],[],[],[]⟩
def N0 (hk:Int) (cs:List (Int×Int×Bool)) (f:Int) (cl:List Int) (pk:Int) (at_:Int):List (Nat×LoopAnn):=[]
theorem Nm (d:(Int×(List (Int×Int×Bool))×Int×List Int)×Int×Int):gwp (WQ) (N0 d.1.1 d.1.2.1 d.1.2.2.1 d.1.2.2.2 d.2.1 d.2.2) J0j 0 (WB [.tmp 6] (Wd d) (We d)) (Qn 25 (AL.can WI d))=ZG d.1.1 d.1.2.1 d.1.2.2.1 d.1.2.2.2 d.2.1 d.2.2:=by kernel_rfl
abbrev UZ:Prop:=OkC Tryz.prog 164 X6
theorem Nb (h:∀ (hk:Int) (cs:List (Int×Int×Bool)) (f:Int) (cl:List Int) (pk:Int) (at_:Int),(1<=f/\f<=24/\0<=pk/\pk<cl.length/\0<=at_/\at_<cs.length/\∀ c∈cs,Zv f c=true)->ZG hk cs f cl pk at_):OkC Tryz.prog 164 X6 :=
 Qr Z2g mixed (C:=WQ) (V:=λ(d:(Int×(List (Int×Int×Bool))×Int×List Int)×Int×Int)=>ZG d.1.1 d.1.2.1 d.1.2.2.1 d.1.2.2.2 d.2.1 d.2.2) ⟨(.cons Vs .nil),XsOk.nil,ItsOk.nil,YlOk.nil,IysOk.nil,XfOk.nil⟩ (Nm) λd hp=>h d.1.1 d.1.2.1 d.1.2.2.1 d.1.2.2.2 d.2.1 d.2.2 hp
theorem Np:UZ:=Nb λhk cs f cl pk at_ h=>by obtain⟨h1,h2,h3,h4,h5,h6,h7⟩:=h;unfold ZG;(try delta lI gD sT I64 Z6 rg rb zD nS);exact⟨h3,h4,λ_=>h3,λ_=>h4,λ_=>⟨h1,h2,h5,h6,h7⟩,(by and_intros<;>first|rfl|trivial|simp)⟩
def Ym:AL ((Int×(List (Int×Int×Bool))×Int×List Int)×(Int×Int)×Int×Int):=(.cons (.agg (.cons (.k (.i .i64)) (.cons (.k (.list (.pair (.i .i64) (.pair (.i .i64) .bo)))) (.cons (.k (.i .i64)) (.one (.k (.list (.i .i64)))))))) (.cons (.agg (.cons (.k (.i .i64)) (.one (.k (.i .i64))))) (.cons (.k (.i .i64)) (.one (.k (.i .i64))))))
def NI (m:List ((Int×Int)×Int)) (a:(Int×(List (Int×Int×Bool))×Int×List Int)×(Int×Int)×Int×Int):Prop:=0<=a.2.1.1/\a.2.1.1<a.1.2.1.length/\a.1.2.1.length<=60/\0<=a.2.1.2/\a.2.1.2<=6/\0<=a.2.2.2/\a.2.2.2<=6/\0<=a.2.2.1/\a.2.2.1<=4000000000000000/\∀ q,0<=WX m q/\WX m q<=4000000000000000
def Yn (m:List ((Int×Int)×Int)) (a:(Int×(List (Int×Int×Bool))×Int×List Int)×(Int×Int)×Int×Int):SV:=.tup []
def WS (m:List ((Int×Int)×Int)) (a:(Int×(List (Int×Int×Bool))×Int×List Int)×(Int×Int)×Int×Int) (m2:List ((Int×Int)×Int)):Prop:=m2=Z5o a.1.2.1.length a.2.2.2 (a.2.1.1,a.2.1.2) a.2.2.1 m
def XL:XSp:=Q4l EF 1 (.pair (.i .i64) (.i .i64)) (.i .i64) (Z6d Ym NI Yn WS)
def J2 (m:List ((Int×Int)×Int)) (hk:Int) (cs:List (Int×Int×Bool)) (f:Int) (cl:List Int) (sa:Int) (sf:Int) (wy:Int) (mo:Int):Prop:=∀ vals:List Value,
 ∃ (e3:Unit) (d30:(List ((Int×Int)×Int))×Int),((True/\wy=wy/\mo=mo/\True/\True/\(0:Int)=d30.2/\True)/\((m=d30.1)/\(hk=hk/\cs=cs/\f=f/\cl=cl/\nS)/\(sa=sa/\sf=sf/\nS)/\(vals=vals/\(True/\nS))/\True)) /\
 LoopP (λ(d3:(List ((Int×Int)×Int))×Int) (q3:((List ((Int×Int)×Int))×Int)->Prop) =>
  ((decide (d3.2<(3:Int)))=true ->
   (cs≠[]/\cs.length<=1000/\-1000000<=sa/\sa<=1000000/\-1000000<=d3.2/\d3.2<=1000000)/\(True)/\(I64 (sf+(if d3.2=1 then 0 else 1)))/\((True/\wy=wy/\mo=mo/\True/\True/\True/\d3.2=d3.2/\((Int.tmod (sa+d3.2) cs.length)=(Int.tmod (sa+d3.2) cs.length)/\(sf+(if d3.2=1 then 0 else 1))=(sf+(if d3.2=1 then 0 else 1))/\nS)/\True)/\((d3.1=d3.1)/\(hk=hk/\cs=cs/\f=f/\cl=cl/\nS)/\(sa=sa/\sf=sf/\nS)/\((0:Int)=(0:Int)/\(0:Int)=(0:Int)/\nS)/\(vals=vals/\(True/\nS))/\True))/\((cs≠[]/\cs.length<=1000/\-1000000<=sa/\sa<=1000000/\-1000000<=d3.2/\d3.2<=1000000)/\(True)/\(I64 (sf+(if d3.2=1 then 0 else 1)))/\((True/\wy=wy/\mo=mo/\True/\True/\True/\d3.2=d3.2/\((Int.tmod (sa+d3.2) cs.length)=(Int.tmod (sa+d3.2) cs.length)/\(sf+(if d3.2=1 then 0 else 1))=(sf+(if d3.2=1 then 0 else 1))/\nS)/\True)/\((d3.1=d3.1)/\(hk=hk/\cs=cs/\f=f/\cl=cl/\nS)/\(sa=sa/\sf=sf/\nS)/\((0:Int)=(0:Int)/\(0:Int)=(0:Int)/\nS)/\(vals=vals/\(True/\nS))/\True)))/\((cs≠[]/\cs.length<=1000/\-1000000<=sa/\sa<=1000000/\-1000000<=d3.2/\d3.2<=1000000)/\(True)/\(I64 (sf+(if d3.2=1 then 0 else 1)))/\((True/\wy=wy/\mo=mo/\True/\True/\True/\d3.2=d3.2/\((Int.tmod (sa+d3.2) cs.length)=(Int.tmod (sa+d3.2) cs.length)/\(sf+(if d3.2=1 then 0 else 1))=(sf+(if d3.2=1 then 0 else 1))/\nS)/\True)/\((d3.1=d3.1)/\(hk=hk/\cs=cs/\f=f/\cl=cl/\nS)/\(sa=sa/\sf=sf/\nS)/\((0:Int)=(0:Int)/\(0:Int)=(0:Int)/\nS)/\(vals=vals/\(True/\nS))/\True)))/\((decide ((sf+(if d3.2=1 then 0 else 1))<=mo))=true ->
    (I64 ((gq.aget (.pair (.i .i64) (.i .i64)) d3.1 ((Int.tmod (sa+d3.2) cs.length),(sf+(if d3.2=1 then 0 else 1))) 0)+wy))/\∀ n4:Int,
     n4=n4 /\
     (I64 (d3.2+(1:Int)))/\(∃ d5:(List ((Int×Int)×Int))×Int,((True/\wy=wy/\mo=mo/\True/\True/\(d3.2+(1:Int))=d5.2/\True)/\(((P3 (.pair (.i .i64) (.i .i64)) (P3 (.pair (.i .i64) (.i .i64)) d3.1 ((Int.tmod (sa+d3.2) cs.length),(sf+(if d3.2=1 then 0 else 1))) (gq.aget (.pair (.i .i64) (.i .i64)) d3.1 ((Int.tmod (sa+d3.2) cs.length),(sf+(if d3.2=1 then 0 else 1))) 0)) ((Int.tmod (sa+d3.2) cs.length),(sf+(if d3.2=1 then 0 else 1))) ((gq.aget (.pair (.i .i64) (.i .i64)) d3.1 ((Int.tmod (sa+d3.2) cs.length),(sf+(if d3.2=1 then 0 else 1))) 0)+wy))=d5.1)/\(hk=hk/\cs=cs/\f=f/\cl=cl/\nS)/\(sa=sa/\sf=sf/\nS)/\(vals=vals/\(True/\nS))/\True))/\q3 d5)) /\
   ((decide ((sf+(if d3.2=1 then 0 else 1))<=mo))=false ->
    (I64 (d3.2+(1:Int)))/\(∃ d6:(List ((Int×Int)×Int))×Int,((True/\wy=wy/\mo=mo/\True/\True/\(d3.2+(1:Int))=d6.2/\True)/\((d3.1=d6.1)/\(hk=hk/\cs=cs/\f=f/\cl=cl/\nS)/\(sa=sa/\sf=sf/\nS)/\(vals=vals/\(True/\nS))/\True))/\q3 d6))) /\
  ((decide (d3.2<(3:Int)))=false ->
   (vals=vals/\(True/\nS)/\(nS)/\(d3.1=Z5o cs.length mo (sa,sf) wy m)))) d30
def YT:Cx:=⟨[],[(67,Ji),(173,Mc)],39,[],0,[],[],[],[1,3,4,5,7,11,12,26],false,[],[],[],[]⟩
def YV (m:List ((Int×Int)×Int)) (hk:Int) (cs:List (Int×Int×Bool)) (f:Int) (cl:List Int) (sa:Int) (sf:Int) (wy:Int) (mo:Int) (vals:List Value):List (Nat×LoopAnn):=[(0,⟨Unit,(List ((Int×Int)×Int))×Int,[1,3,4,5,7,12],λe x=>[.map 0,.val (.i .i64) wy,.val (.i .i64) mo,.box 5 0,.box 7 0,.val (.i .i64) x.2],λe x=>[(0,.slot 1,.map (.pair (.i .i64) (.i .i64)) (.i .i64) x.1),(5,.slot 5,.cells [.val (.i .i64) hk,.val (.list (.pair (.i .i64) (.pair (.i .i64) .bo))) cs,.val (.i .i64) f,.val (.list (.i .i64)) cl] (some 218)),(7,.slot 7,.cells [.val (.i .i64) sa,.val (.i .i64) sf] (some 194)),(4000000,.key 4000000,.stk [.map 0] vals)]⟩)]
theorem MU (m:List ((Int×Int)×Int)) (a:(Int×(List (Int×Int×Bool))×Int×List Int)×(Int×Int)×Int×Int):(∀ vals,gwp YT (YV m a.1.1 a.1.2.1 a.1.2.2.1 a.1.2.2.2 a.2.1.1 a.2.1.2 a.2.2.1 a.2.2.2 vals) J0a 0 (Q8f vals [] (Yn m a) (.pair (.i .i64) (.i .i64)) (.i .i64) (WS m a)) (Dp 39 1 (.pair (.i .i64) (.i .i64)) (.i .i64) m vals (AL.can Ym a)))=J2 m a.1.1 a.1.2.1 a.1.2.2.1 a.1.2.2.2 a.2.1.1 a.2.1.2 a.2.2.1 a.2.2.2:=by kernel_rfl
abbrev Gi:Prop:=XOk Tryz.prog 165 XL
theorem Gc (h:∀ (m:List ((Int×Int)×Int)) (hk:Int) (cs:List (Int×Int×Bool)) (f:Int) (cl:List Int) (sa:Int) (sf:Int) (wy:Int) (mo:Int),(0<=sa/\sa<cs.length/\cs.length<=60/\0<=sf/\sf<=6/\0<=mo/\mo<=6/\0<=wy/\wy<=4000000000000000/\∀ q,0<=WX m q/\WX m q<=4000000000000000)->J2 m hk cs f cl sa sf wy mo):XOk Tryz.prog 165 XL :=
 Ia Z2q mixed Du rfl (C:=YT) ⟨(.cons Wy (.cons AJ .nil)),XsOk.nil,ItsOk.nil,YlOk.nil,IysOk.nil,XfOk.nil⟩ (L:=λm (a:(Int×(List (Int×Int×Bool))×Int×List Int)×(Int×Int)×Int×Int) vals=>YV m a.1.1 a.1.2.1 a.1.2.2.1 a.1.2.2.2 a.2.1.1 a.2.1.2 a.2.2.1 a.2.2.2 vals) (V:=λm (a:(Int×(List (Int×Int×Bool))×Int×List Int)×(Int×Int)×Int×Int)=>J2 m a.1.1 a.1.2.1 a.1.2.2.1 a.1.2.2.2 a.2.1.1 a.2.1.2 a.2.2.1 a.2.2.2) MU λm a hp=>h m a.1.1 a.1.2.1 a.1.2.2.1 a.1.2.2.2 a.2.1.1 a.2.1.2 a.2.2.1 a.2.2.2 hp
theorem NM:Gi:=Gc λm hk cs f cl sa sf wy mo h=>by
 obtain⟨h1,h2,h3,h4,h5,h6,h7,h8,h9,bW⟩:=h;unfold J2;(try delta lI gD sT I64 Z6 rg rb zD nS);intro vals;have aG:cs≠[]:=(by grind);refine⟨(),(m,0),(by and_intros<;>first|rfl|trivial),?_⟩
 let P:Nat->List ((Int×Int)×Int):=λk=>match k with
  |0=>m
  |1=>Q51 cs.length mo (sa,sf) wy m 0
  |2=>Q51 cs.length mo (sa,sf) wy (Q51 cs.length mo (sa,sf) wy m 0) 1
  |_=>Z5o cs.length mo (sa,sf) wy m
 have hP:∀ k:Nat,k<3->P (k+1)=Q51 cs.length mo (sa,sf) wy (P k) k:=λk hk=>by
  match k,hk with
  |0,_=>rfl
  |1,_=>rfl
  |2,_=>rfl
 have hb:∀ k:Nat,k<=3->∀ q,0<=WX (P k) q/\WX (P k) q<=4000000000000000+k*4000000000000000:=λk=>by
  induction k with
  |zero=>intro _ q;have:=bW q;exact(by grind)
  |succ k ih =>intro hk q;rw[hP k (by omega),Z0v];have a1:=ih (by omega) q;have a2:=NU (n:=cs.length) (mo:=mo) (p:=(sa,sf)) (q:=q) (s:=(k:Int)) h8;omega
 refine LoopP.count2 3 (λk d=>d=P k) rfl ?_;intro k d o7 hd q hq;subst hd;dsimp only;refine⟨λg=>?_,λg=>?_⟩
 .have g:k<3:=by have:=zu g;omega
  have cD:=λx'=>hq x' g;have hs:I64 (sf+(if (k:Int)=1 then 0 else 1)):=by grind [Qc]
  have rj:cs≠[]/\cs.length<=1000/\-1000000<=sa/\sa<=1000000/\-1000000<=(k:Int)/\(k:Int)<=1000000:=(by grind);refine⟨rj,trivial,hs,by and_intros<;>first|rfl|trivial,(by simp_all),(by simp_all),λc=>?_,λc=>?_⟩
  .have c:=zu c;have wK:=hb k (by omega) (Pj cs.length (sa,sf) k);have e1:gq.aget (.pair (.i .i64) (.i .i64)) (P k) ((Int.tmod (sa+(k:Int)) cs.length),(sf+(if (k:Int)=1 then 0 else 1))) (0:Int)=WX (P k) (Pj cs.length (sa,sf) k):=rfl;refine⟨?_,λn4=>⟨rfl,?_,?_⟩⟩
   .grind [Qc]
   .simp only[Qc];omega
   .refine⟨(P (k+1),(k:Int)+1),?_,cD _ rfl⟩;have e2:P (k+1)=Gy (Gy (P k) (Pj cs.length (sa,sf) k) (WX (P k) (Pj cs.length (sa,sf) k))) (Pj cs.length (sa,sf) k) (WX (P k) (Pj cs.length (sa,sf) k)+wy):=by
     rw[IZ,hP k g];unfold Q51;rw[z6 (show (Pj cs.length (sa,sf) k).2<=mo from c)]
    refine⟨by and_intros<;>first|rfl|trivial,?_⟩;refine⟨e2.symm,?_⟩;and_intros<;>first|rfl|trivial
  .have c:=zC c;refine⟨by simp only[Qc];omega,(P (k+1),(k:Int)+1),⟨by and_intros<;>first|rfl|trivial,?_⟩,cD _ rfl⟩;refine⟨?_,by and_intros<;>first|rfl|trivial⟩;show P k=P (k+1);rw[hP k g];unfold Q51;rw[z7 (show ¬ (Pj cs.length (sa,sf) k).2<=mo from c)]
 grind
theorem EE:∀ {l m:List Nat},l.Nodup->(∀ x∈l,x∈m)->l.length<=m.length
 |[],_,_,_=>Nat.zero_le _
 |x::l,m,hn,hs=>by
  rw[x8] at hn;have hx:x∈m:=hs x (zn ..);have:=EE (l:=l) (m:=m.erase x) hn.2 (by grind)
  grind
theorem E5 {dn:List Nat}{r:Nat}(h:dn.Nodup) (hr:r∉dn):(dn++[r]).Nodup :=
 (by grind)
theorem LoopP.rng {X:Type}{F:X×List Nat->(X×List Nat->Prop)->Prop}(n:Nat) (J:X->List Nat->Prop) {x0:X}(h0:J x0 [])
  (hr:∀ (x:X) (dn:List Nat),dn.Nodup->(∀ r∈dn,r<n)->J x dn->∀ q:X×List Nat->Prop,(∀ (r:Nat) (x':X),r<n->r∉dn->J x' (dn++[r])->q (x',dn++[r]))->F (x,dn) q):LoopP F (x0,[]):=by
 refine⟨λd=>d.2.Nodup/\(∀ r∈d.2,r<n)/\J d.1 d.2,λd=>n-d.2.length,(by simp_all),λ⟨x,dn⟩ ⟨h1,h2,h3⟩=>?_⟩;have h1:dn.Nodup:=h1;refine hr x dn h1 h2 h3 _ λr x' aj jJ hJ=>?_;have hn:=E5 h1 jJ;have hb:∀ y∈dn++[r],y<n:=(by grind);refine⟨⟨hn,hb,hJ⟩,?_⟩;have:=EE hn (m:=List.range n) λy hy=>xk.2 (hb y hy)
 grind
theorem J34 {b e:Nat}(hb:b<=121) (he:e<=6):b ^ e<=3138428376721:=by have h1:b ^ e<=121 ^ e:=Nat.pow_le_pow_left hb e;have h2:121 ^ e<=121 ^ 6:=Nat.pow_le_pow_right (by omega) he;omega
theorem Z6z {n mo:Nat}(wv:Nat->Int->Bool) (hn:0<n) (gP:mo<=6) {k:Nat}(hk:k<=60) (q:Int×Int):0<=wyK n mo wv k q/\wyK n mo wv k q<=4000000000000000:=by
 refine⟨T6 n mo wv k q,?_⟩;by_cases hz:wyK n mo wv k q=0
 .omega
 .have hg:=Kh.1 (Z0c n mo wv hn k q hz);have h1:=Q2p (n:=n) (mo:=mo) wv hn k q hg.2.1;have h2:=J34 (b:=2*k+1) (e:=q.2.toNat) (by omega) (by omega);omega
def Z3o (k:Nat) (q:Int×Int):Int:=if 0<=q.1/\q.1<(k:Int)/\q.2=0 then 1 else 0
theorem Z02 {n mo:Nat}{m:List ((Int×Int)×Int)}{k:Nat}(h:MapW n mo m (Z3o k)) (hk:k<n):MapW n mo (Gy m ((k:Int),0) 1) (Z3o (k+1)):=by
 have hg:WX m ((k:Int),0)=0:=by rw[h.get];unfold Z3o;rw[z7 (by dsimp only;omega)]
 have:=h.add (λq=>by unfold Z3o;split<;>omega) (k:=((k:Int),0)) (w:=1) (by omega) (by rw[Kh];dsimp only;omega);rw[hg] at this;refine this.congr λq=>?_;unfold Z3o
 grind
def Z5a (n mo:Nat) (wv:Int->Bool) (m:List ((Int×Int)×Int)) (dn:List Nat) (q:Int×Int):Int:=(dn.map λr=>OL n mo wv (m.getD r ((0,0),0)).1 (m.getD r ((0,0),0)).2 q).sum
theorem OU (n mo:Nat) (wv:Int->Bool) (m:List ((Int×Int)×Int)) (dn:List Nat) (r:Nat) (q:Int×Int):Z5a n mo wv m (dn++[r]) q=Z5a n mo wv m dn q+OL n mo wv (m.getD r ((0,0),0)).1 (m.getD r ((0,0),0)).2 q:=by unfold Z5a;rw[F6];simp
theorem Z2f {n mo:Nat}{wv:Nat->Int->Bool}{k:Nat}{m:List ((Int×Int)×Int)}(h:MapW n mo m (wyK n mo wv k)) {dn:List Nat}(hn:dn.Nodup) (aj:∀ r∈dn,r<m.length) (q:Int×Int) :
  0<=Z5a n mo (wv k) m dn q/\Z5a n mo (wv k) m dn q<=wyK n mo wv (k+1) q/\((∀ r,r<m.length->r∈dn)->Z5a n mo (wv k) m dn q=wyK n mo wv (k+1) q):=by
 have bh:∀ x∈m,0<=OL n mo (wv k) x.1 x.2 q:=λx hx=>SC (Int.le_of_lt (h.2.1 x hx).2.1);have h1:=Q2m (d:=(((0,0),0):(Int×Int)×Int)) (F:=λx=>OL n mo (wv k) x.1 x.2 q) hn aj bh;have h2:=L8 h (λp w=>OL n mo (wv k) p w q) λp=>by unfold OL Rb;omega
 have e:wyK n mo wv (k+1) q=((Xj n mo).map λp=>OL n mo (wv k) p (wyK n mo wv k p) q).sum:=rfl;rw[e,<-h2];refine⟨Nd λr hr=>?_,h1.1,h1.2⟩
 grind
def Yg:AL ((Int×(List (Int×Int×Bool))×Int×List Int)×Int):=(.cons (.agg (.cons (.k (.i .i64)) (.cons (.k (.list (.pair (.i .i64) (.pair (.i .i64) .bo)))) (.cons (.k (.i .i64)) (.one (.k (.list (.i .i64)))))))) (.one (.k (.i .i64))))
def NT (a:(Int×(List (Int×Int×Bool))×Int×List Int)×Int):Prop:=a.1.2.2.1=a.1.1/\QJ a.1.1 a.1.2.1=0/\a.1.2.2.2.length<=60/\(∀ r∈a.1.2.2.2,-1<=r/\r<2 ^ a.1.1.toNat)/\0<=a.2/\a.2<=6
def Mh (a:(Int×(List (Int×Int×Bool))×Int×List Int)×Int):List SV:=[]
def WO (a:(Int×(List (Int×Int×Bool))×Int×List Int)×Int) (m:List ((Int×Int)×Int)):Prop:=MapW a.1.2.1.length a.2.toNat m (wyK a.1.2.1.length a.2.toNat (λk=>wvB a.1.1 a.1.2.1 a.1.2.2.2 k) a.1.2.2.2.length)
def XO:XSp:=Q9w EF (.pair (.i .i64) (.i .i64)) (.i .i64) (Z5f Yg NT Mh WO)
abbrev Yk (hk:Int) (cs:List (Int×Int×Bool)) (f:Int) (cl:List Int):=(hk=hk/\cs=cs/\f=f/\cl=cl/\nS)
def J4 (hk:Int) (cs:List (Int×Int×Bool)) (f:Int) (cl:List Int) (mo:Int):Prop :=
 ∃ (e3:Unit) (d30:(List ((Int×Int)×Int))×Int),((mo=mo/\True/\True/\(lI cs)=(lI cs)/\(0:Int)=d30.2/\True)/\((Yk hk cs f cl)/\(([]:List ((Int×Int)×Int))=d30.1)/\True)) /\
 LoopP (λ(d3:(List ((Int×Int)×Int))×Int) (q3:((List ((Int×Int)×Int))×Int)->Prop) =>
  ((decide (d3.2<(lI cs)))=true ->
   (I64 (d3.2+(1:Int)))/\(∃ d4:(List ((Int×Int)×Int))×Int,((mo=mo/\True/\True/\(lI cs)=(lI cs)/\(d3.2+(1:Int))=d4.2/\True)/\((Yk hk cs f cl)/\((P3 (.pair (.i .i64) (.i .i64)) d3.1 (d3.2,(0:Int)) (1:Int))=d4.1)/\True))/\q3 d4)) /\
  ((decide (d3.2<(lI cs)))=false ->
   ∃ (e7:Unit) (d70:(List ((Int×Int)×Int))×Int),((mo=mo/\True/\True/\(lI cl)=(lI cl)/\(0:Int)=d70.2/\True)/\((Yk hk cs f cl)/\(d3.1=d70.1)/\True)) /\
   LoopP (λ(d7:(List ((Int×Int)×Int))×Int) (q7:((List ((Int×Int)×Int))×Int)->Prop) =>
    ((decide (d7.2<(lI cl)))=true ->
     ∃ (aV:Int×Int×(List ((Int×Int)×Int))) (d100:(List ((Int×Int)×Int))×(List Nat)),((mo=mo/\True/\d7.2=aV.1/\True/\(lI cl)=(lI cl)/\d7.2=aV.2.1/\True/\True)/\((Yk hk cs f cl)/\(([]:List ((Int×Int)×Int))=d100.1)/\(d7.1=aV.2.2/\([]:List Nat)=d100.2)/\True)) /\
     LoopP (λ(d10:(List ((Int×Int)×Int))×(List Nat)) (mB:((List ((Int×Int)×Int))×(List Nat))->Prop) =>
      ((∀ r:Nat,r<(List.length aV.2.2)->r∈d10.2) ->
       (false=true ->
        (d10.2≠[])/\(1<=f/\f<=24/\0<=aV.1/\aV.1<cl.length/\0<=((List.getD aV.2.2 (List.getLastD d10.2 0) ((0,0),0)).1.1)/\((List.getD aV.2.2 (List.getLastD d10.2 0) ((0,0),0)).1.1)<cs.length/\∀ c∈cs,Zv f c=true)/\((wvB f cs cl aV.1.toNat ((List.getD aV.2.2 (List.getLastD d10.2 0) ((0,0),0)).1.1))=true ->
         (0<=((List.getD aV.2.2 (List.getLastD d10.2 0) ((0,0),0)).1.1)/\((List.getD aV.2.2 (List.getLastD d10.2 0) ((0,0),0)).1.1)<cs.length/\cs.length<=60/\0<=((List.getD aV.2.2 (List.getLastD d10.2 0) ((0,0),0)).1.2)/\((List.getD aV.2.2 (List.getLastD d10.2 0) ((0,0),0)).1.2)<=6/\0<=mo/\mo<=6/\0<=((List.getD aV.2.2 (List.getLastD d10.2 0) ((0,0),0)).2)/\((List.getD aV.2.2 (List.getLastD d10.2 0) ((0,0),0)).2)<=4000000000000000/\∀ q,0<=WX d10.1 q/\WX d10.1 q<=4000000000000000)/\(∀ lW:List ((Int×Int)×Int),(lW=Z5o cs.length mo (((List.getD aV.2.2 (List.getLastD d10.2 0) ((0,0),0)).1.1),((List.getD aV.2.2 (List.getLastD d10.2 0) ((0,0),0)).1.2)) ((List.getD aV.2.2 (List.getLastD d10.2 0) ((0,0),0)).2) d10.1)->(∃ d13:(List ((Int×Int)×Int))×(List Nat),((mo=mo/\True/\aV.1=aV.1/\True/\(lI cl)=(lI cl)/\aV.2.1=aV.2.1/\True/\True)/\((Yk hk cs f cl)/\(lW=d13.1)/\(aV.2.2=aV.2.2/\d10.2=d13.2)/\True))/\mB d13))) /\
        ((wvB f cs cl aV.1.toNat ((List.getD aV.2.2 (List.getLastD d10.2 0) ((0,0),0)).1.1))=false ->
         (∃ d14:(List ((Int×Int)×Int))×(List Nat),((mo=mo/\True/\aV.1=aV.1/\True/\(lI cl)=(lI cl)/\aV.2.1=aV.2.1/\True/\True)/\((Yk hk cs f cl)/\(d10.1=d14.1)/\(aV.2.2=aV.2.2/\d10.2=d14.2)/\True))/\mB d14))) /\
       (false=false ->
        (I64 (aV.2.1+(1:Int)))/\(∃ d15:(List ((Int×Int)×Int))×Int,((mo=mo/\True/\True/\(lI cl)=(lI cl)/\(aV.2.1+(1:Int))=d15.2/\True)/\((Yk hk cs f cl)/\(d10.1=d15.1)/\True))/\q7 d15))) /\
      (∀ eU:Nat,eU<(List.length aV.2.2)->eU∉d10.2 ->
       (true=true ->
        ((d10.2++[eU])≠[])/\(1<=f/\f<=24/\0<=aV.1/\aV.1<cl.length/\0<=((List.getD aV.2.2 (List.getLastD (d10.2++[eU]) 0) ((0,0),0)).1.1)/\((List.getD aV.2.2 (List.getLastD (d10.2++[eU]) 0) ((0,0),0)).1.1)<cs.length/\∀ c∈cs,Zv f c=true)/\((wvB f cs cl aV.1.toNat ((List.getD aV.2.2 (List.getLastD (d10.2++[eU]) 0) ((0,0),0)).1.1))=true ->
         (0<=((List.getD aV.2.2 (List.getLastD (d10.2++[eU]) 0) ((0,0),0)).1.1)/\((List.getD aV.2.2 (List.getLastD (d10.2++[eU]) 0) ((0,0),0)).1.1)<cs.length/\cs.length<=60/\0<=((List.getD aV.2.2 (List.getLastD (d10.2++[eU]) 0) ((0,0),0)).1.2)/\((List.getD aV.2.2 (List.getLastD (d10.2++[eU]) 0) ((0,0),0)).1.2)<=6/\0<=mo/\mo<=6/\0<=((List.getD aV.2.2 (List.getLastD (d10.2++[eU]) 0) ((0,0),0)).2)/\((List.getD aV.2.2 (List.getLastD (d10.2++[eU]) 0) ((0,0),0)).2)<=4000000000000000/\∀ q,0<=WX d10.1 q/\WX d10.1 q<=4000000000000000)/\(∀ sN:List ((Int×Int)×Int),(sN=Z5o cs.length mo (((List.getD aV.2.2 (List.getLastD (d10.2++[eU]) 0) ((0,0),0)).1.1),((List.getD aV.2.2 (List.getLastD (d10.2++[eU]) 0) ((0,0),0)).1.2)) ((List.getD aV.2.2 (List.getLastD (d10.2++[eU]) 0) ((0,0),0)).2) d10.1)->(∃ d17:(List ((Int×Int)×Int))×(List Nat),((mo=mo/\True/\aV.1=aV.1/\True/\(lI cl)=(lI cl)/\aV.2.1=aV.2.1/\True/\True)/\((Yk hk cs f cl)/\(sN=d17.1)/\(aV.2.2=aV.2.2/\(d10.2++[eU])=d17.2)/\True))/\mB d17))) /\
        ((wvB f cs cl aV.1.toNat ((List.getD aV.2.2 (List.getLastD (d10.2++[eU]) 0) ((0,0),0)).1.1))=false ->
         (∃ d18:(List ((Int×Int)×Int))×(List Nat),((mo=mo/\True/\aV.1=aV.1/\True/\(lI cl)=(lI cl)/\aV.2.1=aV.2.1/\True/\True)/\((Yk hk cs f cl)/\(d10.1=d18.1)/\(aV.2.2=aV.2.2/\(d10.2++[eU])=d18.2)/\True))/\mB d18))) /\
       (true=false ->
        (I64 (aV.2.1+(1:Int)))/\(∃ d19:(List ((Int×Int)×Int))×Int,((mo=mo/\True/\True/\(lI cl)=(lI cl)/\(aV.2.1+(1:Int))=d19.2/\True)/\((Yk hk cs f cl)/\(d10.1=d19.1)/\True))/\q7 d19)))) d100) /\
    ((decide (d7.2<(lI cl)))=false ->
     (MapW cs.length mo.toNat d7.1 (wyK cs.length mo.toNat (λk=>wvB hk cs cl k) cl.length)))) d70)) d30
def YL:Cx:=⟨[(1000011,(.pair (.pair (.i .i64) (.i .i64)) (.i .i64))),(1000030,(.pair (.pair (.i .i64) (.i .i64)) (.i .i64)))],[(164,X6)],52,[],0,[(165,XL)],[],[],[],false,[],[],[],[]⟩
def YQ (hk:Int) (cs:List (Int×Int×Bool)) (f:Int) (cl:List Int) (mo:Int):List (Nat×LoopAnn):=[(0,⟨Unit,(List ((Int×Int)×Int))×Int,[1,2,5,16,17],λe x=>[.val (.i .i64) mo,.box 2 0,.map 11,.val (.i .i64) ((cs.length:Nat):Int),.val (.i .i64) x.2],λe x=>[(2,.slot 2,.cells [.val (.i .i64) hk,.val (.list (.pair (.i .i64) (.pair (.i .i64) .bo))) cs,.val (.i .i64) f,.val (.list (.i .i64)) cl] (some 218)),(11,.slot 5,.map (.pair (.i .i64) (.i .i64)) (.i .i64) x.1)]⟩),
 (2,⟨Unit,(List ((Int×Int)×Int))×Int,[1,2,5,26,27],λe x=>[.val (.i .i64) mo,.box 2 0,.map 11,.val (.i .i64) ((cl.length:Nat):Int),.val (.i .i64) x.2],λe x=>[(2,.slot 2,.cells [.val (.i .i64) hk,.val (.list (.pair (.i .i64) (.pair (.i .i64) .bo))) cs,.val (.i .i64) f,.val (.list (.i .i64)) cl] (some 218)),(11,.slot 5,.map (.pair (.i .i64) (.i .i64)) (.i .i64) x.1)]⟩),
 (4,⟨Int×Int×(List ((Int×Int)×Int)),(List ((Int×Int)×Int))×(List Nat),[1,2,7,8,26,27,32],λe x=>[.val (.i .i64) mo,.box 2 0,.val (.i .i64) e.1,.map 30,.val (.i .i64) ((cl.length:Nat):Int),.val (.i .i64) e.2.1,.box 32 0],λe x=>[(2,.slot 2,.cells [.val (.i .i64) hk,.val (.list (.pair (.i .i64) (.pair (.i .i64) .bo))) cs,.val (.i .i64) f,.val (.list (.i .i64)) cl] (some 218)),(30,.slot 8,.map (.pair (.i .i64) (.i .i64)) (.i .i64) x.1),(32,.slot 32,.iter (.pair (.i .i64) (.i .i64)) (.i .i64) e.2.2 x.2)]⟩)]
theorem G8 (a:(Int×(List (Int×Int×Bool))×Int×List Int)×Int):gwp YL (YQ a.1.1 a.1.2.1 a.1.2.2.1 a.1.2.2.2 a.2) J1h 0 (Z44 [.tmp 4] (.pair (.i .i64) (.i .i64)) (.i .i64) (WO a)) (KQ 52 (AL.can Yg a))=J4 a.1.1 a.1.2.1 a.1.2.2.1 a.1.2.2.2 a.2:=by kernel_rfl
abbrev G5:Prop:=XOk Tryz.prog 140 XO
theorem G2 (h:∀ (hk:Int) (cs:List (Int×Int×Bool)) (f:Int) (cl:List Int) (mo:Int),(f=hk/\QJ hk cs=0/\cl.length<=60/\(∀ r∈cl,-1<=r/\r<2 ^ hk.toNat)/\0<=mo/\mo<=6)->J4 hk cs f cl mo):XOk Tryz.prog 140 XO :=
 Z1e Z31 mixed Du rfl (C:=YL) ⟨(.cons Np .nil),(XsOk.cons NM XsOk.nil),ItsOk.nil,YlOk.nil,IysOk.nil,XfOk.nil⟩ (L:=λ(a:(Int×(List (Int×Int×Bool))×Int×List Int)×Int)=>YQ a.1.1 a.1.2.1 a.1.2.2.1 a.1.2.2.2 a.2) (V:=λ(a:(Int×(List (Int×Int×Bool))×Int×List Int)×Int)=>J4 a.1.1 a.1.2.1 a.1.2.2.1 a.1.2.2.2 a.2) G8 λa hp=>h a.1.1 a.1.2.1 a.1.2.2.1 a.1.2.2.2 a.2 hp
theorem Mi:G5:=G2 λhk cs f cl mo h=>by
 obtain⟨h1,h2,h3,h4,h5,h6⟩:=h;subst h1;obtain⟨hf,cu,aG,ak⟩:=LV h2;have bh:=zW.2 aG;unfold J4;(try delta Yk);(try delta lI gD sT I64 Z6 rg rb zD nS);refine⟨(),([],0),(by and_intros<;>first|rfl|trivial),?_⟩;refine LoopP.count2 cs.length (λk m=>MapW cs.length mo.toNat m (Z3o k)) ((MapW.nil _ _).congr λq=>by unfold Z3o;rw[z7 (by omega)]) ?_;intro k m hk hm q hq;dsimp only;refine⟨λg=>?_,λg=>?_⟩
 .have g:k<cs.length:=by have:=zu g;omega
  refine⟨by simp only[Qc];omega,(Gy m ((k:Int),0) 1,(k:Int)+1),(by and_intros<;>first|rfl|trivial),hq _ g (Z02 hm g)⟩
 .have g:k=cs.length:=by have:=zC g;omega
  subst g;refine⟨(),(m,0),(by and_intros<;>first|rfl|trivial),?_⟩;refine LoopP.count2 cl.length (λk m=>MapW cs.length mo.toNat m (wyK cs.length mo.toNat (λk=>wvB f cs cl k) k)) (hm.congr λq=>rfl) ?_;clear hm hq;intro k m hk hm q hq;dsimp only;refine⟨λg=>?_,λg=>?_⟩
  .have g:k<cl.length:=by have:=zu g;omega
   refine⟨((k:Int),(k:Int),m),([],[]),(by and_intros<;>first|rfl|trivial),?_⟩;refine LoopP.rng m.length (λx dn=>MapW cs.length mo.toNat x (Z5a cs.length mo.toNat (wvB f cs cl k) m dn)) ((MapW.nil _ _).congr λq=>rfl) ?_;intro x dn hn aj hx q' cD;dsimp only;refine⟨λhall=>⟨(λc=>by cases c),λ_=>⟨by simp only[Qc];omega,(x,(k:Int)+1),(by and_intros<;>first|rfl|trivial),hq _ g ?_⟩⟩,λr hr jJ=>⟨λ_=>?_,(λc=>by cases c)⟩⟩
   .exact hx.congr λq=>(Z2f (wv:=λk=>wvB f cs cl k) hm hn aj q).2.2 hall
   .have iT:List.getLastD (dn++[r]) 0=r:=by simp
    have aP:m[r]∈m:=zl hr;have he:=hm.2.1 _ aP;have oz:=Kh.1 he.2.2;have hW:=Z6z (n:=cs.length) (mo:=mo.toNat) (λk=>wvB f cs cl k) bh (by omega) (k:=k) (by omega) m[r].1;have rk:=λq=>Z2f (wv:=λk=>wvB f cs cl k) hm hn aj q;have wL:=λq=>Z6z (n:=cs.length) (mo:=mo.toNat) (λk=>wvB f cs cl k) bh (by omega) (k:=k+1) (by omega) q;simp only[iT,Qf hr,zd];refine⟨by simp,(by simp_all),λc=>⟨⟨oz.1.1,oz.1.2,cu,oz.2.1,by omega,h5,h6,by omega,by omega,λq=>?_⟩,λm' rf=>⟨(m',dn++[r]),(by and_intros<;>first|rfl|trivial),cD r m' hr jJ ?_⟩⟩,λc=>⟨(x,dn++[r]),(by and_intros<;>first|rfl|trivial),cD r x hr jJ ?_⟩⟩
    .rw[hx.get q]
     grind
    .subst rf;have gP:((mo.toNat:Nat):Int)=mo:=by omega
     have:=Z6m hx (λq=>(rk q).1) (p:=m[r].1) (w:=m[r].2) he.2.1 bh ⟨oz.1.1,oz.2.1⟩;rw[gP] at this;refine MapW.congr this λq=>?_;rw[OU,Qf hr];unfold OL;rw[z6 c,gP]
    .refine hx.congr λq=>?_;rw[OU,Qf hr];unfold OL;rw[z7 (by rw[c];decide)];omega
  grind
end Go.Proofs.Tryz