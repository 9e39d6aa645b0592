/- A framework for walks, contracts of functions, and their proofs: part 6 (11). -/
import Derived.ProofKit
import Derived.OpenShut
import Derived.LaidMore
import Derived.Carry
import Derived.Lib.SmallJoins
import Derived.Deep.Slices
import Derived.Test.YtfblnfcecfjbpaaGreatR6I
noncomputable section
set_option linter.unusedVariables false
set_option maxRecDepth 100000
namespace Go.Proofs.Tryz
open Go Go.V
theorem Q03:UJ Tryz.prog 43 mLost:=Gy mixed BX 300 rfl FD
end Go.Proofs.Tryz
namespace Go.V
open Go
theorem L7 {α:Type}:∀ (j:Nat) (x:α) (l:List α),(CO j x l).length=l.length+1
 |0,_,_=>rfl
 |j+1,x,[]=>rfl
 |j+1,x,a::l=>by simp only[CO,List.length_cons];rw[L7 j x l]
def OK (ap:Ap) (kk vk:Kind) (sp:PSp kk vk):XSp:=fun d args s K=>match sp ap (BG s.own args) with
 |some (c,_,post)=>c∧∀ m',post m'→K (.map d) (s.make d (.map kk vk m'))
 |none=>False
def Q64 (rs:List VResult) (kk vk:Kind) (post:List (kk.T×vk.T)→Prop):Exit→St→Prop:=fun e s =>
 let fin:=match JR s rs with
  |some (.map k)=>(match RS kk vk (Q9 s.own k) with
   |some m'=>post m'
   |none=>False)
  |_=>False
 match e with
 |.normal=>fin
 |.ret=>fin
 |_=>False
section
variable {P:Program}
theorem OU {f:Nat}{vc:VCode}{rs:List VResult}{nt:Nat}(h:Fun P f vc rs nt) (hm:P.follows .mixedOrders=true) {kk vk:Kind}(bz:(kk.flat&&vk.flat)=true) {sp:PSp kk vk}{ap:Ap}
  (hb:∀ fO c vs post,sp ap fO=some (c,vs,post)→c→∃ (C:Cx) (L:List (Nat×LoopAnn)) (eM:List SV),SVs.pure eM=true∧(∀ σ us,SRs P σ Jq ZF fO us→SRs P σ Jq ZF eM us)∧COk P C∧gwp C L vc 0 (Q64 rs kk vk post) (Yd nt eM)):XOk P f (OK ap kk vk sp):=by
 intro B F pl tb s env σ d args vals K R hG ha hx hK;unfold OK at hx;split at hx
 ·rename_i c vs post ep;obtain⟨hc,hx⟩:=hx;obtain⟨C,L,eM,de,ly,eL,hg⟩:=hb _ c vs post ep hc;have aw:=ly σ vals (XC (own:=s.own) hG.leB (pl:=pl) (tb:=tb) (fun d=>hG.obj d) ha);have bc:GRel P σ σ σ (Yd nt eM) (vals++List.replicate (nt-vals.length) undef) σ:=by
   refine⟨σ,σ,fun _=>poison,ZF,⟨.refl _,.refl _,fun _ _ _ h=>h,.refl _⟩,.refl _,.refl _,?_,fun k=>?_,fun k i' h1 h2=>?_,fun k k' i' lz h1 h2 h3 h4=>?_,fun _ _=>rfl⟩
   ·simp only[Yd];rw[aw.length];exact SRs.append (Z1 _ _ de aw) (MN _)
   ·simp only[Yd,Q9];trivial
   ·simp only[Yd,Q9] at h1;cases h1
   ·simp only[Yd,Q9] at h1;cases h1
  refine h.calls hm By ?_;refine Y_ eL vc 0 _ _ _ σ none _ trivial bc hg fun e s' af σ' h1 h2=>?_
  have main:(match JR s' rs with
   |some (.map k)=>(match RS kk vk (Q9 s'.own k) with
    |some m'=>post m'
    |none=>False)
   |_=>False)→QZ (ZQ af σ' rs) fun v=>∃ v' aC,DropTo σ v σ' v' aC∧R v' aC:=fun h=>by
   obtain⟨B',F',pl',tb',k1,k2⟩:=h2;split at h
   ·rename_i k hr;split at h
    ·rename_i m' kn;have g2:=h;have aK:=NQ kn;obtain⟨w,h3,h4⟩:=Jp k2 hr;rw[h3];simp only[SR] at h4;obtain⟨rfl,_⟩:=h4;have al:=k2.obj k;rw[aK] at al;have hle:σ.Le σ':=k1.f.trans k2.le;have lA:OR P B (Jo pl d (pl' k)) tb σ' (pl' k) (.map kk vk m'):=al.retd bz fun _ _=>rfl;have ao:(Q9 s'.own k).live=true:=by rw[aK];rfl
     have fe:∀ i,Oid (pl' k) i→σ.get i=none:=fun i hi=>by
      cases hg:σ.get i with
      |none=>rfl
      |some b =>have:=k2.fresh k i ao hi;have h9:=k1.f.2 _ _ hg;rw[this] at h9;cases h9
     have lB:Gam P B F (Jo pl d (pl' k)) tb (s.make d (.map kk vk m')) env σ':=by
      refine hG.make d _ (pl' k) (hG.le.trans hle) (fun j i _ hl hi=>?_) lA fun i _ hi=>⟨?_,fun j _ hl hj=>?_⟩
      ·cases hg:σ.get i with
       |none=>exact k1.d.2 i ((hG.obj j).id_lt hl hi) hg
       |some bb=>exact hle.2 _ _ hg
      ·cases hg:F.get i with
       |none=>rfl
       |some b=>have:=hG.le.2 _ _ hg;rw[fe i hi] at this;cases this
      ·have ai:=(hG.obj j).id_lt hl hj;have:=k1.d.2 i ai (fe i hi);obtain⟨id,es,clock,e1,e2,_⟩:=lA;rw[e1] at hi;obtain rfl:id=i:=osj hi;rw[this] at e2;cases e2
     refine⟨_,σ',.refl _ _ _,hK _ _ B F _ tb _ σ' (hx m' g2) (.of hG.bf k1.d) lB ?_⟩;obtain⟨id,es,clock,e1,_⟩:=lA;simp only[SR];exact⟨by simp[Jo],_,e1⟩
    ·exact h.elim
   ·exact h.elim
  cases e with
  |normal=>exact main h1
  |ret=>exact main h1
  |_=>exact h1.elim
 ·exact hx.elim
theorem Q0e {f:Nat}{vc:VCode}{rs:List VResult}{nt:Nat}(h:Fun P f vc rs nt) (hm:P.follows .mixedOrders=true) {ap:Ap}(dP:I1 P ap) {kk vk:Kind}(bz:(kk.flat&&vk.flat)=true) {D:Type}{la:AL D}{pre:D→Prop}{res:D→List SV}{post:D→List (kk.T×vk.T)→Prop}
  {C:Cx}(az:COk P C) {L:D→List (Nat×LoopAnn)}{V:D→Prop}
  (hq:∀ y,gwp C (L y) vc 0 (Q64 rs kk vk (post y)) (Yd nt (AL.can la y))=V y)
  (hb:∀ y,pre y→V y):XOk P f (OK ap kk vk (Q6i la pre res post)):=OU h hm bz fun fO c vs q hs hc=>by
 unfold Q6i at hs;split at hs
 ·rename_i y h2;obtain⟨rfl,rfl,rfl⟩:=(by simpa using hs:pre y=c∧res y=vs∧post y=q);exact⟨C,L y,AL.can la y,AL.can_pure la y,fun σ vs hv=>AL.dec_sound dP la h2 hv,az,(hq y).mpr (hb y hc)⟩
 ·cases hs
end
end Go.V
namespace Go.V
open Go
abbrev KSp (kk vk:Kind):=Ap→List (kk.T×vk.T)→List SV→Option (Prop×SV×(List (kk.T×vk.T)→Prop))
def OA (ap:Ap) (j:Nat) (kk vk:Kind) (sp:KSp kk vk):XSp:=fun _ args s K =>
 match args[j]? with
 |some (.map o)=>(match RS kk vk (Q9 s.own o) with
  |some m=>(match sp ap m (BG (oset s.own o .dead) (Ck j args)) with
   |some (c,v,post)=>bif v.ret 0 then c∧∀ m',post m'→K v ⟨s.env,oset s.own o (.map kk vk m'),s.nx⟩ else False
   |none=>False)
  |none=>False)
 |_=>False
def GK (nt j:Nat) (kk vk:Kind) (m:List (kk.T×vk.T)) (vals:List Value) (args:List SV):St:=⟨CO j (.map 0) args++List.replicate (nt-(args.length+1)) .any,[(0,.map kk vk m),(4000000,.stk [.map 0] vals)],0⟩
def Z1u {kk vk:Kind}{D:Type}(la:AL D) (pre:List (kk.T×vk.T)→D→Prop) (res:List (kk.T×vk.T)→D→SV) (post:List (kk.T×vk.T)→D→List (kk.T×vk.T)→Prop):KSp kk vk:=fun ap m fO=>match AL.dec ap la fO with
 |some a=>some (pre m a,res m a,post m a)
 |none=>none
section
variable {P:Program}
theorem OV {f:Nat}{vc:VCode}{rs:List VResult}{nt:Nat}(h:Fun P f vc rs nt) (hm:P.follows .mixedOrders=true) {kk vk:Kind}(bz:(kk.flat&&vk.flat)=true) {sp:KSp kk vk}{ap:Ap}{j:Nat}
  (hb:∀ m fO c v post,sp ap m fO=some (c,v,post)→c→∃ (C:Cx) (L:List Value→List (Nat×LoopAnn)) (eM:List SV),SVs.pure eM=true∧(∀ σ vs,SRs P σ Jq ZF fO vs→SRs P σ Jq ZF eM vs)∧COk P C∧∀ vals,gwp C (L vals) vc 0 (Q49 vals rs v kk vk post) (GK nt j kk vk m vals eM)):XOk P f (OA ap j kk vk sp):=by
 intro B F pl tb s env σ d args vs K R hG ha hx hK;unfold OA at hx;split at hx
 ·rename_i o gh;split at hx
  ·rename_i m aE;have aK:=NQ aE;split at hx
   ·rename_i c v post ep;cases cE:v.ret 0 with
    |false=>rw[cE] at hx;exact hx.elim
    |true =>
    rw[cE] at hx;obtain⟨hc,hx⟩:=hx;obtain⟨w,hw,qg,qh⟩:=FV j gh ha;simp only[SR] at hw;obtain rfl:w=pl o:=hw.1;have ao:(Q9 s.own o).live=true:=by rw[aK];rfl
    have al:=hG.obj o;rw[aK] at al;obtain⟨id,es,clock,gA,bj,ef⟩:=al;have nT:F.get id=none:=hG.fresh o id ao (by rw[gA];rfl);have lr:B.get id=none:=by
     cases hg:B.get id with
     |none=>rfl
     |some b=>have:=hG.bf.2 _ _ hg;rw[nT] at this;cases this
    obtain⟨C,L,eM,de,ly,eL,hg⟩:=hb _ _ c v post ep hc;have hg:=hg [pl o];have tD:oid (pl o)=some id:=by rw[gA];rfl
    let σc:=σ.kill id;have oC:B.Le σc:=hG.leB.kill' lr;have qa:F.Le σc:=hG.le.kill' nT;have qi:σc.Le σ:=Heap.kill_le _ _;have bN:∀ k,k≠id→σc.get k=σ.get k:=fun k hk=>Heap.get_kill_ne _ hk;have bJ:∀ d,OR P σc Jq ZF σc (pl d) ((Q9 (oset s.own o .dead) d).kill d)∨True:=fun _=>.inr trivial;have tE:∀ (xs:List SV) (vs:List Value),SRs P B pl tb xs vs→SRs P σc Jq ZF (BG (oset s.own o .dead) xs) vs:=fun xs vs bt=>by
     refine XC (own:=oset s.own o .dead) oC (pl:=pl) (tb:=tb) (fun d=>?_) bt;rw[Qh];by_cases e:d=o
     ·rw[if_pos e];trivial
     ·rw[if_neg e];exact(hG.obj d).mono (.refl _) (fun _ _ h=>h) fun hl i hi=>bN _ fun iV=>hG.sep d o i e hl ao hi (by rw[gA,iV];rfl)
    have aw:=ly σc _ (tE _ _ qg);let iC:Nat→Value:=fun k=>if k=0 then pl o else poison
    have j6:∀ (B:Heap) (tb':Nat→Option Bool),SR P B iC tb' (.map 0) (pl o):=fun B tb'=>by simp only[SR];exact⟨by simp[iC],_,gA⟩
    have bc:GRel P σc σc σ (GK nt j kk vk m [pl o] eM) (vs++List.replicate (nt-vs.length) undef) σ:=by
     refine⟨σc,σc,iC,ZF,⟨.refl _,.refl _,fun _ _ _ h=>h,.refl _⟩,.refl _,qi,?_,fun k=>?_,fun k i' h1 h2=>?_,fun k k' i' lz h1 h2 h3 h4=>?_,fun _ _=>rfl⟩
     ·have h0:=qh σc iC ZF eM (.map 0) (Z1 _ _ de aw) (j6 _ _);have hl:=h0.length;rw[L7] at hl;simp only[GK];rw[hl];exact SRs.append h0 (MN _)
     ·simp only[GK,Q9];by_cases e0:k=0
      ·subst e0;simp only[Nat.beq_refl,_root_.cond_true];exact⟨id,es,clock,by simp[iC,gA],bj,ef.mono oC⟩
      ·rw[Zl (fun e=>e0 e.symm),cond_false];by_cases e1:k=4000000
       ·subst e1;simp only[Nat.beq_refl,_root_.cond_true];exact⟨pl o,[],rfl,j6 _ _,rfl⟩
       ·rw[Zl (fun e=>e1 e.symm),cond_false];trivial
     ·simp only[GK,Q9] at h1;by_cases e0:k=0
      ·subst e0;have:Oid (pl o) i':=by simpa [iC] using h2
       rw[gA] at this;obtain rfl:id=i':=osj this;exact Heap.get_kill_self _ _
      ·rw[Zl (fun e=>e0 e.symm),cond_false] at h1;by_cases e1:k=4000000
       ·subst e1;cases h1
       ·rw[Zl (fun e=>e1 e.symm),cond_false] at h1;cases h1
     ·have z:∀ k,(Q9 (GK nt j kk vk m [pl o] eM).own k).live=true→k=0:=fun k h1=>by
       simp only[GK,Q9] at h1;by_cases e0:k=0
       ·exact e0
       ·rw[Zl (fun e=>e0 e.symm),cond_false] at h1;by_cases e1:k=4000000
        ·subst e1;cases h1
        ·rw[Zl (fun e=>e1 e.symm),cond_false] at h1;cases h1
      exact lz ((z k h1).trans (z k' h2).symm)
    refine h.calls hm By ?_;refine Y_ eL vc 0 _ _ _ σ none _ trivial bc hg fun e s' af σ' h1 h2=>?_
    have main:(match JR s' rs,Q9 s'.own 4000000,RS kk vk (Q9 s'.own 0) with
     |some r,.stk l vs,some m'=>vs=[pl o]∧V7 [(0,some 0)] [.map 0] l∧BB [] v r∧post m'
     |_,_,_=>False)→QZ (ZQ af σ' rs) fun v=>∃ v' aC,DropTo σ v σ' v' aC∧R v' aC:=fun h=>by
     obtain⟨B',F',pl',tb',k1,k2⟩:=h2;split at h
     ·rename_i r l' cJ m' hr fN qj;obtain⟨rfl,m1,m2,m3⟩:=h;have gO:=NQ qj;obtain⟨w,h3,h4⟩:=Jp k2 hr;rw[h3];have fj:=k2.obj 4000000;rw[fN] at fj;have lx:pl' 0=pl o:=by
       have:=Z2 [.map 0] l' [pl o] m1 fj;simp only[SRs,SR] at this;obtain⟨u',_,b_,⟨h5,_⟩,_⟩:=this;obtain rfl:pl o=u':=(List.cons.inj b_).1;simpa [UC,Qv] using h5.symm
      have hZ:=k2.obj 0;rw[gO,lx] at hZ;have cX:=(YF v r w m2 h4).retd (B':=B) (pl':=pl) (tb':=tb) (n:=0) (fun j hj=>by omega) _ _ cE;have hle:σc.Le σ':=k1.f.trans k2.le;have nU:∀ d,d≠o→(Q9 s.own d).live=true→∀ i,Oid (pl d) i→σ'.get i=σ.get i:=fun d e hl i hi=>by
       have ai:=(hG.obj d).id_lt hl hi;have tF:i≠id:=fun iV=>hG.sep d o i e hl ao hi (by rw[gA,iV];rfl);cases hg:σ.get i with
       |none=>exact k1.d.2 i ai hg
       |some bb=>exact hle.2 _ _ (by rw[bN i tF];exact hg)
      have bP:∀ d,(Q9 (oset s.own o (.map kk vk m')) d).live=(Q9 s.own d).live:=fun d=>by
       rw[Qh];by_cases e:d=o
       ·subst e;rw[if_pos rfl,ao];rfl
       ·rw[if_neg e]
      refine⟨w,σ',.refl _ _ _,hK v _ B F pl tb w σ' (hx m' m3) (.of hG.bf k1.d) ⟨hG.bf,qa.trans hle,hG.env,fun d=>?_,fun d i q1 q2=>hG.fresh d i (by rw[←bP d];exact q1) q2,fun d d' i aA q1 q2 q3 q4=>hG.sep d d' i aA (by rw[←bP d];exact q1) (by rw[←bP d'];exact q2) q3 q4,hG.free⟩ cX⟩
      ·simp only[Qh];by_cases e:d=o
       ·subst e;rw[if_pos rfl];exact hZ.retd bz fun _ _=>rfl
       ·rw[if_neg e];exact(hG.obj d).mono (.refl _) (fun _ _ h=>h) fun hl i hi=>nU d e hl i hi
     ·exact h.elim
    cases e with
    |normal=>exact main h1
    |ret=>exact main h1
    |_=>exact h1.elim
   ·exact hx.elim
  ·exact hx.elim
 ·exact hx.elim
theorem Oy {f:Nat}{vc:VCode}{rs:List VResult}{nt:Nat}(h:Fun P f vc rs nt) (hm:P.follows .mixedOrders=true) {ap:Ap}(dP:I1 P ap) {kk vk:Kind}(bz:(kk.flat&&vk.flat)=true) {j:Nat}{D:Type}{la:AL D}{pre:List (kk.T×vk.T)→D→Prop}{res:List (kk.T×vk.T)→D→SV}{post:List (kk.T×vk.T)→D→List (kk.T×vk.T)→Prop}
  {C:Cx}(az:COk P C) {L:List (kk.T×vk.T)→D→List Value→List (Nat×LoopAnn)}{V:List (kk.T×vk.T)→D→Prop}
  (hq:∀ m y,(∀ vals,gwp C (L m y vals) vc 0 (Q49 vals rs (res m y) kk vk (post m y)) (GK nt j kk vk m vals (AL.can la y)))=V m y)
  (hb:∀ m y,pre m y→V m y):XOk P f (OA ap j kk vk (Z1u la pre res post)):=OV h hm bz fun m fO c v q hs hc=>by
 unfold Z1u at hs;split at hs
 ·rename_i y h2;obtain⟨rfl,rfl,rfl⟩:=(by simpa using hs:pre m y=c∧res m y=v∧post m y=q);exact⟨C,L m y,AL.can la y,AL.can_pure la y,fun σ vs hv=>AL.dec_sound dP la h2 hv,az,(hq m y).mpr (hb m y hc)⟩
 ·cases hs
end
end Go.V
namespace Go.Proofs.Tryz
open Go Go.V Go.Proofs
def J9 (n mo:Nat):List (Int×Int):=(List.range n).flatMap fun (a:Nat)=>(List.range (mo+1)).map fun (f:Nat)=>((a:Int),(f:Int))
def G7 (n:Int) (p:Int×Int) (s:Int):Int×Int:=(Int.tmod (p.1+s) n,p.2+if s=1 then 0 else 1)
def DQ (n mo:Int) (p:Int×Int) (w:Int) (q:Int×Int) (s:Int):Int:=if G7 n p s=q∧q.2≤mo then w else 0
def L5 (n mo:Int) (wv:Int→Bool) (p:Int×Int) (w:Int) (q:Int×Int):Int:=if wv p.1=true then DQ n mo p w q 0+DQ n mo p w q 1+DQ n mo p w q 2 else 0
def wyK (n mo:Nat) (wv:Nat→Int→Bool):Nat→Int×Int→Int
 |0,q=>if 0≤q.1∧q.1<(n:Int)∧q.2=0 then 1 else 0
 |k+1,q=>((J9 n mo).map fun p=>L5 n mo (wv k) p (wyK n mo wv k p) q).sum
def MapW (n mo:Nat) (m:List ((Int×Int)×Int)) (W:Int×Int→Int):Prop:=(m.map (·.1)).Nodup∧(∀ e∈m,e.2=W e.1∧0<e.2∧e.1∈J9 n mo)∧∀ q,W q≠0→∃ e∈m,e.1=q
theorem Xf {n mo:Nat}{q:Int×Int}:q∈J9 n mo↔(0≤q.1∧q.1<n)∧0≤q.2∧q.2≤mo:=by
 unfold J9;simp only[List.mem_flatMap,List.mem_range,List.mem_map];constructor
 ·rintro⟨a,ha,f,hf,rfl⟩;dsimp only;omega
 ·intro h;exact⟨q.1.toNat,by omega,q.2.toNat,by omega,by ext<;>dsimp only<;>omega⟩
theorem NS (n mo:Nat):(J9 n mo).Nodup:=by unfold J9;refine List.pairwise_flatMap.2 ⟨fun a _=>List.pairwise_map.2 ((List.nodup_range (n:=mo+1)).imp fun h e=>h (by have:=(Prod.ext_iff.1 e).2;dsimp only at this;omega)),(List.nodup_range (n:=n)).imp fun {a b} h x hx y hy e=>?_⟩;obtain⟨f,_,rfl⟩:=List.mem_map.1 hx;obtain⟨g,_,rfl⟩:=List.mem_map.1 hy;have:=(Prod.ext_iff.1 e).1;dsimp only at this;omega
theorem Am {l l':List Int}(h:l.Perm l'):l.sum=l'.sum:=by
 induction h with
 |nil=>rfl
 |cons x _ ih=>simp only[List.sum_cons];omega
 |swap x y l=>simp only[List.sum_cons];omega
 |trans _ _ h1 h2=>exact h1.trans h2
theorem BL {α:Type}{f:α→Int}:∀ {l:List α},(∀ x∈l,f x=0)→(l.map f).sum=0
 |[],_=>rfl
 |x::l,h=>by rw[List.map_cons,List.sum_cons,h x (List.mem_cons_self ..),BL fun y hy=>h y (List.mem_cons_of_mem _ hy)];rfl
theorem V4 {α:Type}{f:α→Int}:∀ {l:List α},(∀ x∈l,0≤f x)→0≤(l.map f).sum
 |[],_=>Int.le_refl _
 |x::l,h=>by have h1:=h x (List.mem_cons_self ..);have h2:=V4 (l:=l) fun y hy=>h y (List.mem_cons_of_mem _ hy);rw[List.map_cons,List.sum_cons];omega
theorem RF {α:Type}(f:α→Int) (a b:List α):((a++b).map f).sum=(a.map f).sum+(b.map f).sum:=by rw[List.map_append,List.sum_append_int]
theorem Hw {n mo:Nat}{m:List ((Int×Int)×Int)}{W:Int×Int→Int}(h:MapW n mo m W) (G:Int×Int→Int→Int) (h0:∀ p,G p 0=0):(m.map fun e=>G e.1 e.2).sum=((J9 n mo).map fun p=>G p (W p)).sum:=by
 obtain⟨h1,h2,h3⟩:=h;have e1:(m.map fun e=>G e.1 e.2)=(m.map (·.1)).map fun p=>G p (W p):=by
  rw[List.map_map];exact List.map_congr_left fun e he=>by show G e.1 e.2=G e.1 (W e.1);rw[(h2 e he).1]
 have hp:((m.map (·.1))++(J9 n mo).filter fun p=>!(m.map (·.1)).contains p).Perm (J9 n mo):=by
  refine (List.perm_ext_iff_of_nodup (List.nodup_append.2 ⟨h1,(NS n mo).filter _,fun a ha b hb e=>?_⟩) (NS n mo)).2 fun a=>?_
  ·subst e;have:=(List.mem_filter.1 hb).2;simp at this;obtain⟨x,hx⟩:=List.mem_map.1 ha;exact this x.2 (by rw[←hx.2];exact hx.1)
  ·rw[List.mem_append,List.mem_filter];constructor
   ·rintro (h|h)
    ·obtain⟨e,he,rfl⟩:=List.mem_map.1 h;exact(h2 e he).2.2
    ·exact h.1
   ·intro h;by_cases hc:a∈m.map (·.1)
    ·exact .inl hc
    ·exact .inr ⟨h,by simpa using hc⟩
 rw[e1,←Am (hp.map fun p=>G p (W p)),RF];have:(((J9 n mo).filter fun p=>!(m.map (·.1)).contains p).map fun p=>G p (W p)).sum=0:=BL fun p hp=>by
  have hc:=(List.mem_filter.1 hp).2;have:W p=0:=by
   by_cases e:W p=0
   ·exact e
   ·obtain⟨x,hx,rfl⟩:=h3 p e;have:x.1∈m.map (·.1):=List.mem_map.2 ⟨x,hx,rfl⟩;simp[this] at hc
  rw[this,h0]
 rw[this];omega
def Xl (m:List ((Int×Int)×Int)) (k:Int×Int):Int:=gq.aget (.pair (.i .i64) (.i .i64)) m k 0
def UX (m:List ((Int×Int)×Int)) (k:Int×Int) (v:Int):List ((Int×Int)×Int):=T2 (.pair (.i .i64) (.i .i64)) m k v
theorem Z03 {a b:Int×Int}:gq.keq (.pair (.i .i64) (.i .i64)) a b=true↔a=b:=by show ((a.1==b.1)&&(a.2==b.2))=true↔_;simp only[Bool.and_eq_true,beq_iff_eq,Prod.ext_iff]
theorem Ka (a:Int×Int) (b:Int) (m:List ((Int×Int)×Int)) (k:Int×Int):Xl ((a,b)::m) k=if k=a then b else Xl m k:=by
 show (if gq.keq (.pair (.i .i64) (.i .i64)) k a=true then b else gq.aget (.pair (.i .i64) (.i .i64)) m k 0)=_;by_cases h:k=a
 ·rw[if_pos (Z03.2 h),if_pos h]
 ·rw[if_neg (fun e=>h (Z03.1 e)),if_neg h];rfl
theorem Kd (a:Int×Int) (b:Int) (m:List ((Int×Int)×Int)) (k:Int×Int) (v:Int):UX ((a,b)::m) k v=if k=a then (k,v)::m else (a,b)::UX m k v:=by
 show (if gq.keq (.pair (.i .i64) (.i .i64)) k a=true then (k,v)::m else (a,b)::T2 (.pair (.i .i64) (.i .i64)) m k v)=_;by_cases h:k=a
 ·rw[if_pos (Z03.2 h),if_pos h]
 ·rw[if_neg (fun e=>h (Z03.1 e)),if_neg h];rfl
theorem IF {m:List ((Int×Int)×Int)}(hn:(m.map (·.1)).Nodup) {e:(Int×Int)×Int}(he:e∈m):Xl m e.1=e.2:=by
 induction m with
 |nil=>cases he
 |cons x m ih =>
  obtain⟨a,b⟩:=x;rw[List.map_cons,List.nodup_cons] at hn;rw[Ka];rcases List.mem_cons.1 he with rfl|he
  ·rw[if_pos rfl]
  ·have:e.1≠a:=fun h=>hn.1 (by rw[←h];exact List.mem_map.2 ⟨e,he,rfl⟩);rw[if_neg this];exact ih hn.2 he
theorem Lc {k:Int×Int}:∀ {m:List ((Int×Int)×Int)},(∀ e∈m,e.1≠k)→Xl m k=0
 |[],_=>rfl
 |(a,b)::m,h=>by rw[Ka,if_neg fun e=>h (a,b) (List.mem_cons_self ..) e.symm];exact Lc fun e he=>h e (List.mem_cons_of_mem _ he)
theorem MapW.get {n mo:Nat}{m:List ((Int×Int)×Int)}{W:Int×Int→Int}(h:MapW n mo m W) (q:Int×Int):Xl m q=W q:=by
 by_cases hz:W q=0
 ·rw[hz];refine Lc fun e he hq=>?_;have:=h.2.1 e he;rw[hq,hz] at this;omega
 ·obtain⟨e,he,rfl⟩:=h.2.2 q hz;rw[IF h.1 he];exact(h.2.1 e he).1
theorem AJ (k:Int×Int) (v:Int):∀ (m:List ((Int×Int)×Int)),(m.map (·.1)).Nodup→(∀ e∈UX m k v,e=(k,v)∨e∈m∧e.1≠k)∧(k,v)∈UX m k v∧(∀ e∈m,e.1≠k→e∈UX m k v)∧((UX m k v).map (·.1)).Nodup
 |[],_=>⟨fun e he=>.inl (List.mem_singleton.1 he),List.mem_singleton.2 rfl,fun e he=>(by cases he),List.pairwise_singleton _ _⟩
 |(a,b)::m,hn=>by
  rw[List.map_cons,List.nodup_cons] at hn;obtain⟨h1,h2,h3,h4⟩:=AJ k v m hn.2;rw[Kd];by_cases hk:k=a
  ·subst hk;rw[if_pos rfl];refine⟨fun e he=>?_,List.mem_cons_self ..,fun e he aA=>?_,by rw[List.map_cons,List.nodup_cons];exact hn⟩
   ·rcases List.mem_cons.1 he with h|h
    ·exact .inl h
    ·exact .inr ⟨List.mem_cons_of_mem _ h,fun e2=>hn.1 (List.mem_map.2 ⟨e,h,e2⟩)⟩
   ·rcases List.mem_cons.1 he with h|h
    ·rw[h] at aA;exact(aA rfl).elim
    ·exact List.mem_cons_of_mem _ h
  ·rw[if_neg hk];refine⟨fun e he=>?_,List.mem_cons_of_mem _ h2,fun e he aA=>?_,?_⟩
   ·rcases List.mem_cons.1 he with h|h
    ·subst h;exact .inr ⟨List.mem_cons_self ..,fun e=>hk e.symm⟩
    ·rcases h1 e h with h|h
     ·exact .inl h
     ·exact .inr ⟨List.mem_cons_of_mem _ h.1,h.2⟩
   ·rcases List.mem_cons.1 he with h|h
    ·rw[h];exact List.mem_cons_self ..
    ·exact List.mem_cons_of_mem _ (h3 e h aA)
   ·rw[List.map_cons,List.nodup_cons];refine⟨fun hm=>?_,h4⟩;obtain⟨e,he,kD⟩:=List.mem_map.1 hm;rcases h1 e he with h|h
    ·rw[h] at kD;exact hk kD
    ·exact hn.1 (List.mem_map.2 ⟨e,h.1,kD⟩)
theorem MapW.add {n mo:Nat}{m:List ((Int×Int)×Int)}{W:Int×Int→Int}(h:MapW n mo m W) (hW:∀ q,0≤W q) {k:Int×Int}{w:Int}(hw:0<w) (hk:k∈J9 n mo):MapW n mo (UX m k (Xl m k+w)) (fun q=>W q+if q=k then w else 0):=by
 obtain⟨p1,p2,p3,p4⟩:=AJ k (Xl m k+w) m h.1;have hg:=h.get k;have ud:=hW k;refine⟨p4,fun e he=>?_,fun q hq=>?_⟩
 ·rcases p1 e he with rfl|⟨h1,h2⟩
  ·dsimp only;rw[if_pos rfl];exact⟨by omega,by omega,hk⟩
  ·dsimp only;rw[if_neg h2];have:=h.2.1 e h1;exact⟨by omega,this.2⟩
 ·by_cases e:q=k
  ·exact⟨_,p2,e.symm⟩
  ·dsimp only at hq;rw[if_neg e] at hq;obtain⟨x,hx,rfl⟩:=h.2.2 q (by omega);exact⟨x,p3 x hx e,rfl⟩
theorem MapW.congr {n mo:Nat}{m:List ((Int×Int)×Int)}{W W':Int×Int→Int}(h:MapW n mo m W) (e:∀ q,W q=W' q):MapW n mo m W':=by have:W=W':=funext e;rw[←this];exact h
theorem MapW.nil (n mo:Nat):MapW n mo [] fun _=>0:=⟨List.nodup_nil,(fun e he=>by cases he),fun q hq=>(hq rfl).elim⟩
theorem VF {n mo:Int}{p:Int×Int}{w:Int}{q:Int×Int}{s:Int}(hw:0≤w):0≤DQ n mo p w q s∧DQ n mo p w q s≤w:=by unfold DQ;split<;>omega
theorem Pg {n mo:Int}{wv:Int→Bool}{p:Int×Int}{w:Int}{q:Int×Int}(hw:0≤w):0≤L5 n mo wv p w q:=by have h0:=(VF (n:=n) (mo:=mo) (p:=p) (q:=q) (s:=0) hw).1;have h1:=(VF (n:=n) (mo:=mo) (p:=p) (q:=q) (s:=1) hw).1;have h2:=(VF (n:=n) (mo:=mo) (p:=p) (q:=q) (s:=2) hw).1;unfold L5;split<;>omega
theorem DA (n mo:Nat) (wv:Nat→Int→Bool):∀ k q,0≤wyK n mo wv k q
 |0,q=>by simp only[wyK];split<;>omega
 |k+1,q=>V4 fun p _=>Pg (DA n mo wv k p)
theorem Sm (n mo:Nat) (wv:Nat→Int→Bool) (hn:0<n):∀ k q,wyK n mo wv k q≠0→q∈J9 n mo
 |0,q,h=>by
  simp only[wyK] at h;split at h
  ·rename_i h2;rw[Xf];omega
  ·exact(h rfl).elim
 |k+1,q,h=>by
  simp only[wyK] at h;by_cases hq:q∈J9 n mo
  ·exact hq
  ·exfalso;refine h (BL fun p hp=>?_);rw[Xf] at hp hq;have z:∀ s:Int,0≤s→DQ n mo p (wyK n mo wv k p) q s=0:=fun s hs=>by
    unfold DQ;rw[if_neg];rintro⟨h1,h2⟩;apply hq;have e1:=(Prod.ext_iff.1 h1).1;have e2:=(Prod.ext_iff.1 h1).2;unfold G7 at e1 e2;dsimp only at e1 e2;rw[Int.tmod_eq_emod_of_nonneg (by omega)] at e1;have b1:=Int.emod_nonneg (p.1+s) (show (n:Int)≠0 by omega);have b2:=Int.emod_lt_of_pos (p.1+s) (show (0:Int)<n by omega);split at e2<;>omega
   unfold L5;rw[z 0 (by omega),z 1 (by omega),z 2 (by omega)];split<;>rfl
theorem FK {α:Type}{f:α→Int}{B:Int}(hB:0≤B):∀ {l:List α},l.Nodup→(∀ x∈l,0≤f x∧f x≤B)→(∀ x∈l,∀ y∈l,f x≠0→f y≠0→x=y)→(l.map f).sum≤B
 |[],_,_,_=>hB
 |x::l,hn,hb,h1=>by
  rw[List.nodup_cons] at hn;rw[List.map_cons,List.sum_cons];by_cases hx:f x=0
  ·have:=FK hB hn.2 (fun y hy=>hb y (List.mem_cons_of_mem _ hy)) fun y hy z hz=>h1 y (List.mem_cons_of_mem _ hy) z (List.mem_cons_of_mem _ hz);omega
  ·have hz:(l.map f).sum=0:=BL fun y hy=>by
    by_cases e:f y=0
    ·exact e
    ·exact(hn.1 (by rw[h1 x (List.mem_cons_self ..) y (List.mem_cons_of_mem _ hy) hx e];exact hy)).elim
   have:=hb x (List.mem_cons_self ..);omega
theorem Q4k {n:Int}{p p':Int×Int}{s:Int}(hs:0≤s) (h1:0≤p.1∧p.1<n) (h2:0≤p'.1∧p'.1<n) (h:G7 n p s=G7 n p' s):p=p':=by
 have e1:=(Prod.ext_iff.1 h).1;have e2:=(Prod.ext_iff.1 h).2;unfold G7 at e1 e2;dsimp only at e1 e2;rw[Int.tmod_eq_emod_of_nonneg (by omega),Int.tmod_eq_emod_of_nonneg (by omega)] at e1;have h3:p.1=p'.1:=by
  have a1:=Int.emod_add_emod p.1 n s;have:=Int.emod_emod_of_dvd;have d:(p.1-p'.1) % n=0:=by
   have:(p.1+s-(p'.1+s)) % n=0:=Int.emod_eq_emod_iff_emod_sub_eq_zero.1 e1
   rwa [show p.1+s-(p'.1+s)=p.1-p'.1 by omega] at this
  obtain⟨c,hc⟩:=Int.dvd_of_emod_eq_zero d;have c1:c<1:=by
   by_cases h:1≤c
   ·have:=Int.mul_le_mul_of_nonneg_left h (show 0≤n by omega);omega
   ·omega
  have c2:-1<c:=by
   by_cases h:c≤-1
   ·have:=Int.mul_le_mul_of_nonneg_left h (show 0≤n by omega);omega
   ·omega
  have:c=0:=by omega
  rw[this] at hc;omega
 exact Prod.ext h3 (by omega)
theorem Q1m {α:Type}{f g:α→Int}:∀ {l:List α},(∀ x∈l,f x≤g x)→(l.map f).sum≤(l.map g).sum
 |[],_=>Int.le_refl _
 |x::l,h=>by have h1:=h x (List.mem_cons_self ..);have h2:=Q1m (l:=l) fun y hy=>h y (List.mem_cons_of_mem _ hy);rw[List.map_cons,List.map_cons,List.sum_cons,List.sum_cons];omega
theorem CL {α:Type}(f g:α→Int):∀ (l:List α),(l.map fun x=>f x+g x).sum=(l.map f).sum+(l.map g).sum
 |[]=>rfl
 |x::l=>by have:=CL f g l;rw[List.map_cons,List.map_cons,List.map_cons,List.sum_cons,List.sum_cons,List.sum_cons];omega
theorem FB {n mo:Nat}{V:Int×Int→Int}{q:Int×Int}{s B:Int}(hs:0≤s) (hB:0≤B) (hV:∀ p,0≤V p) (hb:∀ p∈J9 n mo,G7 n p s=q→V p≤B):((J9 n mo).map fun p=>DQ n mo p (V p) q s).sum≤B:=by
 refine FK hB (NS n mo) (fun p hp=>?_) fun p hp p' bg h1 h2=>?_
 ·have:=VF (n:=n) (mo:=mo) (p:=p) (q:=q) (s:=s) (hV p);refine⟨this.1,?_⟩;by_cases hq:G7 n p s=q
  ·have:=hb p hp hq;omega
  ·unfold DQ;rw[if_neg fun h=>hq h.1];exact hB
 ·rw[Xf] at hp bg;have e1:G7 n p s=q:=by
   by_cases h:G7 n p s=q
   ·exact h
   ·unfold DQ at h1;rw[if_neg fun h'=>h h'.1] at h1;exact(h1 rfl).elim
  have e2:G7 n p' s=q:=by
   by_cases h:G7 n p' s=q
   ·exact h
   ·unfold DQ at h2;rw[if_neg fun h'=>h h'.1] at h2;exact(h2 rfl).elim
  exact Q4k hs hp.1 bg.1 (e1.trans e2.symm)
theorem AI {n mo:Nat}(wv:Nat→Int→Bool) (hn:0<n):∀ (k:Nat) (q:Int×Int),0≤q.2→wyK n mo wv k q≤((2*k+1) ^ q.2.toNat:Nat)
 |0,q,hq=>by simp only[wyK];have:0<(2*0+1) ^ q.2.toNat:=Nat.pow_pos (by omega);split<;>omega
 |k+1,q,hq=>by
  have jc:=DA n mo wv k;have h0:wyK n mo wv (k+1) q≤((J9 n mo).map fun p=>(DQ n mo p (wyK n mo wv k p) q 0+DQ n mo p (wyK n mo wv k p) q 1)+DQ n mo p (wyK n mo wv k p) q 2).sum:=Q1m fun p _=>by have a0:=(VF (n:=n) (mo:=mo) (p:=p) (q:=q) (s:=0) (jc p)).1;have a1:=(VF (n:=n) (mo:=mo) (p:=p) (q:=q) (s:=1) (jc p)).1;have a2:=(VF (n:=n) (mo:=mo) (p:=p) (q:=q) (s:=2) (jc p)).1;unfold L5;split<;>omega
  rw[CL,CL] at h0;obtain⟨f,hf⟩:∃ f:Nat,q.2=f:=⟨q.2.toNat,by omega⟩;have b1:((J9 n mo).map fun p=>DQ n mo p (wyK n mo wv k p) q 1).sum≤((2*k+1) ^ f:Nat):=FB (by omega) (by omega) jc fun p hp he=>by
   rw[Xf] at hp;have e2:=(Prod.ext_iff.1 he).2;unfold G7 at e2;dsimp only at e2;rw[if_pos rfl] at e2;have:=AI (n:=n) (mo:=mo) wv hn k p hp.2.1
   rwa [show p.2.toNat=f by omega] at this
  have bs:∀ s:Int,0≤s→s≠1→((J9 n mo).map fun p=>DQ n mo p (wyK n mo wv k p) q s).sum≤((if f=0 then 0 else (2*k+1) ^ (f-1):Nat):Int):=fun s hs ja=>FB hs (by omega) jc fun p hp he=>by
   rw[Xf] at hp;have e2:=(Prod.ext_iff.1 he).2;unfold G7 at e2;dsimp only at e2;rw[if_neg ja] at e2;have:=AI (n:=n) (mo:=mo) wv hn k p hp.2.1;rw[if_neg (by omega)]
   rwa [show p.2.toNat=f-1 by omega] at this
  have b0:=bs 0 (by omega) (by omega);have b2:=bs 2 (by omega) (by omega);rw[hf,Int.toNat_natCast];have key:(2*k+1) ^ f+2*(if f=0 then 0 else (2*k+1) ^ (f-1))≤(2*(k+1)+1) ^ f:=by
   cases f with
   |zero=>simp
   |succ g =>
    rw[if_neg (by omega),Nat.add_sub_cancel];have hp:(2*k+1) ^ g≤(2*(k+1)+1) ^ g:=Nat.pow_le_pow_left (by omega) g;have h1:(2*k+1) ^ (g+1)+2*(2*k+1) ^ g=(2*k+1) ^ g*(2*(k+1)+1):=by
     rw[Nat.pow_succ];generalize (2*k+1) ^ g=A;have:A*(2*(k+1)+1)=A*(2*k+1)+A*2:=by rw[←Nat.mul_add];congr 1
     omega
    rw[h1,Nat.pow_succ];exact Nat.mul_le_mul_right _ hp
  omega
theorem AE {α:Type}{d:α}{m:List α}{F:α→Int}{dn:List Nat}(hn:dn.Nodup) (ai:∀ r∈dn,r<m.length) (hF:∀ x∈m,0≤F x):(dn.map fun r=>F (m.getD r d)).sum≤(m.map F).sum∧((∀ r,r<m.length→r∈dn)→(dn.map fun r=>F (m.getD r d)).sum=(m.map F).sum):=by
 have e:m.map F=(List.range m.length).map fun r=>F (m.getD r d):=by
  refine List.ext_getElem (by simp) fun i h1 h2=>?_;have hi:i<m.length:=by simpa using h1
  rw[List.getElem_map,List.getElem_map,List.getElem_range,Qk hi]
 have hp:(dn++(List.range m.length).filter fun r=>!dn.contains r).Perm (List.range m.length):=by
  refine (List.perm_ext_iff_of_nodup (List.nodup_append.2 ⟨hn,(List.nodup_range (n:=m.length)).filter _,fun a ha b hb e=>?_⟩) List.nodup_range).2 fun a=>?_
  ·subst e;have:=(List.mem_filter.1 hb).2;simp[ha] at this
  ·rw[List.mem_append,List.mem_filter,List.mem_range];constructor
   ·rintro (h|h)
    ·exact ai a h
    ·exact h.1
   ·intro h;by_cases hc:a∈dn
    ·exact .inl hc
    ·exact .inr ⟨h,by simpa using hc⟩
 rw[e,←Am (hp.map fun r=>F (m.getD r d)),RF];constructor
 ·have:0≤(((List.range m.length).filter fun r=>!dn.contains r).map fun r=>F (m.getD r d)).sum:=V4 fun r hr=>by
   have hr:=List.mem_range.1 (List.mem_filter.1 hr).1;rw[Qk hr];exact hF _ (List.getElem_mem hr)
  omega
 ·intro h;have:(List.range m.length).filter (fun r=>!dn.contains r)=[]:=List.filter_eq_nil_iff.2 fun r hr=>by have:=h r (List.mem_range.1 hr);simp[this]
  rw[this];simp
def wvB (hk:Int) (cs:List DL) (cl:List Int) (k:Nat) (a:Int):Bool:=(cl.getD k 0==-1)||(cl.getD k 0==Ym hk (cs.getD a.toNat XG))
theorem LB (k:Int×Int) (a b:Int):∀ m:List ((Int×Int)×Int),UX (UX m k a) k b=UX m k b
 |[]=>by show UX [(k,a)] k b=[(k,b)];rw[Kd,if_pos rfl]
 |(x,v)::m=>by
  rw[Kd,Kd];by_cases h:k=x
  ·rw[if_pos h,if_pos h,Kd,if_pos rfl]
  ·rw[if_neg h,if_neg h,Kd,if_neg h,LB k a b m]
theorem L1 (k q:Int×Int) (v:Int):∀ m:List ((Int×Int)×Int),Xl (UX m k v) q=if q=k then v else Xl m q
 |[]=>by show Xl [(k,v)] q=_;rw[Ka]
 |(x,w)::m=>by
  rw[Kd];by_cases h:k=x
  ·subst h;rw[if_pos rfl,Ka,Ka];split<;>rfl
  ·rw[if_neg h,Ka,L1 k q v m,Ka];by_cases h2:q=x
   ·subst h2;rw[if_pos rfl,if_pos rfl,if_neg (fun e=>h e.symm)]
   ·rw[if_neg h2,if_neg h2]
def Ed (n mo:Int) (p:Int×Int) (w:Int) (m:List ((Int×Int)×Int)) (s:Int):List ((Int×Int)×Int):=if (G7 n p s).2≤mo then UX m (G7 n p s) (Xl m (G7 n p s)+w) else m
def Q6e (n mo:Int) (p:Int×Int) (w:Int) (m:List ((Int×Int)×Int)):List ((Int×Int)×Int):=Ed n mo p w (Ed n mo p w (Ed n mo p w m 0) 1) 2
theorem Q06 (n mo:Int) (p:Int×Int) (w:Int) (m:List ((Int×Int)×Int)) (s:Int) (q:Int×Int):Xl (Ed n mo p w m s) q=Xl m q+DQ n mo p w q s:=by
 unfold Ed DQ;by_cases h:(G7 n p s).2≤mo
 ·rw[if_pos h,L1];by_cases e:q=G7 n p s
  ·rw[if_pos e,if_pos ⟨e.symm,by rw[e];exact h⟩,e]
  ·rw[if_neg e,if_neg (fun x=>e x.1.symm)];omega
 ·rw[if_neg h,if_neg (fun x=>h (by rw[x.1];exact x.2))];omega
theorem Fz {n mo:Nat}{m:List ((Int×Int)×Int)}{W:Int×Int→Int}(h:MapW n mo m W) (hW:∀ q,0≤W q) {p:Int×Int}{w s:Int}(hw:0<w) (hn:0<n) (hp:0≤p.1∧0≤p.2) (hs:0≤s):MapW n mo (Ed n mo p w m s) (fun q=>W q+DQ n mo p w q s):=by
 unfold Ed;by_cases hc:(G7 n p s).2≤mo
 ·rw[if_pos hc];refine (h.add hW hw (k:=G7 n p s) ?_).congr fun q=>?_
  ·rw[Xf];have b1:=Int.emod_nonneg (p.1+s) (show (n:Int)≠0 by omega);have b2:=Int.emod_lt_of_pos (p.1+s) (show (0:Int)<n by omega);refine⟨?_,?_,hc⟩
   ·unfold G7;dsimp only;rw[Int.tmod_eq_emod_of_nonneg (by omega)];exact⟨b1,b2⟩
   ·unfold G7;dsimp only;split<;>omega
  ·unfold DQ;by_cases e:q=G7 n p s
   ·rw[if_pos e,if_pos ⟨e.symm,by rw[e];exact hc⟩]
   ·rw[if_neg e,if_neg (fun x=>e x.1.symm)]
 ·rw[if_neg hc];exact h.congr fun q=>by
   unfold DQ;rw[if_neg (fun x=>hc (by rw[x.1];exact x.2))];omega
theorem Q9n {n mo:Nat}{m:List ((Int×Int)×Int)}{W:Int×Int→Int}(h:MapW n mo m W) (hW:∀ q,0≤W q) {p:Int×Int}{w:Int}(hw:0<w) (hn:0<n) (hp:0≤p.1∧0≤p.2):MapW n mo (Q6e n mo p w m) (fun q=>W q+(DQ n mo p w q 0+DQ n mo p w q 1+DQ n mo p w q 2)):=by have z:=fun q s=>(VF (n:=n) (mo:=mo) (p:=p) (q:=q) (s:=s) (Int.le_of_lt hw)).1;have h1:=Fz h hW hw hn hp (s:=0) (by omega);have h2:=Fz h1 (fun q=>by have:=hW q;have:=z q 0;omega) hw hn hp (s:=1) (by omega);have h3:=Fz h2 (fun q=>by have:=hW q;have:=z q 0;have:=z q 1;omega) hw hn hp (s:=2) (by omega);exact h3.congr fun q=>by omega
def Wp:AL (Int×Int×(List (Int×Int×Bool))×Int):=(.cons (.k (.i .i64)) (.one (.ptr (.cons (.k (.i .i64)) (.cons (.k (.list (.pair (.i .i64) (.pair (.i .i64) .bo)))) (.one (.k (.i .i64))))))))
def VY (d:Int×Int×(List (Int×Int×Bool))×Int):Prop:=1≤d.2.2.2∧d.2.2.2≤24
def XL (d:Int×Int×(List (Int×Int×Bool))×Int):SV:=.val .bo (decide (d.1≠-1)&&!inI d.1 0 (2 ^ d.2.2.2.toNat-1))
def W2 (d:Int×Int×(List (Int×Int×Bool))×Int):List OB:=[]
def ZL:CSp:=YP Wp VY XL W2
def Zw (r:Int) (hk:Int) (cs:List (Int×Int×Bool)) (f:Int):Prop :=
 ((r != (-1:Int))=true→True)∧((r != (-1:Int))=true→1≤f∧f≤24∧[r].length≤1000000)∧(((r != (-1:Int))&&(!(!([r].any fun n=>!inI n 0 (2 ^ f.toNat-1)))))=(decide (r≠-1)&&!inI r 0 (2 ^ f.toNat-1))∧(True))
def Wi:Cx:=⟨[(3,(.i .i64))],[(102,Z8)],14,[],0,[],[],[],[],false,[],[],[],[]⟩
def Ux (r:Int) (hk:Int) (cs:List (Int×Int×Bool)) (f:Int):List (Nat×LoopAnn):=[]
theorem Uh (d:Int×Int×(List (Int×Int×Bool))×Int):gwp (Wi) (Ux d.1 d.2.1 d.2.2.1 d.2.2.2) Z06 0 (Kl [.tmp 3] (XL d) (W2 d)) (QC 14 (AL.can Wp d))=Zw d.1 d.2.1 d.2.2.1 d.2.2.2:=by kernel_rfl
abbrev Ub:Prop:=OkC Tryz.prog 112 ZL
theorem Ur (h:∀ (r:Int) (hk:Int) (cs:List (Int×Int×Bool)) (f:Int),(1≤f∧f≤24)→Zw r hk cs f):OkC Tryz.prog 112 ZL :=
 QP Ij mixed (C:=Wi) (V:=fun (d:Int×Int×(List (Int×Int×Bool))×Int)=>Zw d.1 d.2.1 d.2.2.1 d.2.2.2) ⟨(.cons Jt .nil),XsOk.nil,ItsOk.nil,YlOk.nil,IysOk.nil,XfOk.nil⟩ (Uh) fun d hp=>h d.1 d.2.1 d.2.2.1 d.2.2.2 hp
theorem Wc:Ub:=Ur fun r hk cs f h=>by
 unfold Zw;(try delta lI gD sT I64 Kq pj8 pj4);refine⟨fun _=>trivial,fun _=>⟨h.1,h.2,by simp⟩,?_,trivial⟩;simp only[List.any_cons,List.any_nil,Bool.or_false,Bool.not_not];congr 1;by_cases e:r=-1
 ·subst e;rfl
 ·simp[e]
def Mw:AL (Int):=(.one (.k (.i .i64)))
def BZ (d:Int):Prop:=True
def UQ (d:Int):SV:=.val (.i .i64) (if d=1 then 0 else 1)
def Nj (d:Int):List OB:=[]
def VC:CSp:=YP Mw BZ UQ Nj
def WD (s:Int):Prop :=
 ((s==(1:Int))=true →
  ((0:Int)=(if s=1 then 0 else 1)∧(True))) ∧
 ((s==(1:Int))=false →
  ((1:Int)=(if s=1 then 0 else 1)∧(True)))
def Mq:Cx:=⟨[],[],5,[],0,[],[],[],[],false,[],[],[],[]⟩
def Te (s:Int):List (Nat×LoopAnn):=[]
theorem Ps (d:Int):gwp (Mq) (Te d) c77 0 (Kl [.tmp 2] (UQ d) (Nj d)) (QC 5 (AL.can Mw d))=WD d:=by kernel_rfl
abbrev PW:Prop:=OkC Tryz.prog 77 VC
theorem Td (h:∀ (s:Int),(True)→WD s):OkC Tryz.prog 77 VC :=
 QP Q4l mixed (C:=Mq) (V:=fun (d:Int)=>WD d) ⟨.nil,XsOk.nil,ItsOk.nil,YlOk.nil,IysOk.nil,XfOk.nil⟩ (Ps) fun d hp=>h d hp
theorem PT:PW:=Td fun s _=>by
 unfold WD;(try delta lI gD sT I64 Kq pj8 pj4);refine⟨fun c=>⟨?_,trivial⟩,fun c=>⟨?_,trivial⟩⟩
 ·rw[if_pos (eq_of_beq c)]
 ·rw[if_neg (fun e=>by rw[e] at c;cases c)]
def Xw:AL ((Int×(List (Int×Int×Bool))×Int×List Int)×Int×Int):=(.cons (.agg (.cons (.k (.i .i64)) (.cons (.k (.list (.pair (.i .i64) (.pair (.i .i64) .bo)))) (.cons (.k (.i .i64)) (.one (.k (.list (.i .i64)))))))) (.cons (.k (.i .i64)) (.one (.k (.i .i64)))))
def KK (d:(Int×(List (Int×Int×Bool))×Int×List Int)×Int×Int):Prop:=1≤d.1.2.2.1∧d.1.2.2.1≤24∧0≤d.2.1∧d.2.1<d.1.2.2.2.length∧0≤d.2.2∧d.2.2<d.1.2.1.length∧∀ c∈d.1.2.1,QM d.1.2.2.1 c=true
def X2 (d:(Int×(List (Int×Int×Bool))×Int×List Int)×Int×Int):SV:=.val .bo (wvB d.1.2.2.1 d.1.2.1 d.1.2.2.2 d.2.1.toNat d.2.2)
def X1 (d:(Int×(List (Int×Int×Bool))×Int×List Int)×Int×Int):List OB:=[]
def Jj:CSp:=YP Xw KK X2 X1
def Za (hk:Int) (cs:List (Int×Int×Bool)) (f:Int) (cl:List Int) (pk:Int) (at_:Int):Prop :=
 (0≤pk)∧(pk<(List.length cl))∧(((gD cl pk 0)==(-1:Int))=false→0≤pk)∧(((gD cl pk 0)==(-1:Int))=false→pk<(List.length cl))∧(((gD cl pk 0)==(-1:Int))=false→1≤f∧f≤24∧0≤at_∧at_<cs.length∧∀ c∈cs,QM f c=true)∧((((gD cl pk 0)==(-1:Int))||((gD cl pk 0)==(Ym f (cs.getD at_.toNat XG))))=(wvB f cs cl pk.toNat at_)∧(True))
def Xy:Cx:=⟨[],[(104,JB)],25,[],0,[],[],[],[],false,[],[],[],[]⟩
def K_ (hk:Int) (cs:List (Int×Int×Bool)) (f:Int) (cl:List Int) (pk:Int) (at_:Int):List (Nat×LoopAnn):=[]
theorem Vd (d:(Int×(List (Int×Int×Bool))×Int×List Int)×Int×Int):gwp (Xy) (K_ d.1.1 d.1.2.1 d.1.2.2.1 d.1.2.2.2 d.2.1 d.2.2) Z0j 0 (Kl [.tmp 6] (X2 d) (X1 d)) (QC 25 (AL.can Xw d))=Za d.1.1 d.1.2.1 d.1.2.2.1 d.1.2.2.2 d.2.1 d.2.2:=by kernel_rfl
abbrev KT:Prop:=OkC Tryz.prog 116 Jj
theorem Vk (h:∀ (hk:Int) (cs:List (Int×Int×Bool)) (f:Int) (cl:List Int) (pk:Int) (at_:Int),(1≤f∧f≤24∧0≤pk∧pk<cl.length∧0≤at_∧at_<cs.length∧∀ c∈cs,QM f c=true)→Za hk cs f cl pk at_):OkC Tryz.prog 116 Jj :=
 QP I4 mixed (C:=Xy) (V:=fun (d:(Int×(List (Int×Int×Bool))×Int×List Int)×Int×Int)=>Za d.1.1 d.1.2.1 d.1.2.2.1 d.1.2.2.2 d.2.1 d.2.2) ⟨(.cons YX .nil),XsOk.nil,ItsOk.nil,YlOk.nil,IysOk.nil,XfOk.nil⟩ (Vd) fun d hp=>h d.1.1 d.1.2.1 d.1.2.2.1 d.1.2.2.2 d.2.1 d.2.2 hp
theorem Vi:KT:=Vk fun hk cs f cl pk at_ h=>by obtain⟨h1,h2,h3,h4,h5,h6,h7⟩:=h;unfold Za;(try delta lI gD sT I64 Kq pj8 pj4);exact⟨h3,h4,fun _=>h3,fun _=>h4,fun _=>⟨h1,h2,h5,h6,h7⟩,(by and_intros<;>first|rfl|trivial|simp)⟩
def XU:AL ((Int×(List (Int×Int×Bool))×Int×List Int)×(Int×Int)×Int×Int):=(.cons (.agg (.cons (.k (.i .i64)) (.cons (.k (.list (.pair (.i .i64) (.pair (.i .i64) .bo)))) (.cons (.k (.i .i64)) (.one (.k (.list (.i .i64)))))))) (.cons (.agg (.cons (.k (.i .i64)) (.one (.k (.i .i64))))) (.cons (.k (.i .i64)) (.one (.k (.i .i64))))))
def Vu (m:List ((Int×Int)×Int)) (a:(Int×(List (Int×Int×Bool))×Int×List Int)×(Int×Int)×Int×Int):Prop:=0≤a.2.1.1∧a.2.1.1<a.1.2.1.length∧a.1.2.1.length≤60∧0≤a.2.1.2∧a.2.1.2≤6∧0≤a.2.2.2∧a.2.2.2≤6∧0≤a.2.2.1∧a.2.2.1≤4000000000000000∧∀ q,0≤Xl m q∧Xl m q≤4000000000000000
def XV (m:List ((Int×Int)×Int)) (a:(Int×(List (Int×Int×Bool))×Int×List Int)×(Int×Int)×Int×Int):SV:=.tup []
def Xx (m:List ((Int×Int)×Int)) (a:(Int×(List (Int×Int×Bool))×Int×List Int)×(Int×Int)×Int×Int) (m2:List ((Int×Int)×Int)):Prop:=m2=Q6e a.1.2.1.length a.2.2.2 (a.2.1.1,a.2.1.2) a.2.2.1 m
def JP:XSp:=OA Nb 1 (.pair (.i .i64) (.i .i64)) (.i .i64) (Z1u XU Vu XV Xx)
def Zs (m:List ((Int×Int)×Int)) (hk:Int) (cs:List (Int×Int×Bool)) (f:Int) (cl:List Int) (sa:Int) (sf:Int) (wy:Int) (mo:Int):Prop:=∀ vals:List Value,
 ∃ (e3:Unit) (d30:(List ((Int×Int)×Int))×Int),((True∧wy=wy∧mo=mo∧True∧True∧(0:Int)=d30.2∧True)∧((m=d30.1)∧(hk=hk∧cs=cs∧f=f∧cl=cl∧(([]:List SV)=[]))∧(sa=sa∧sf=sf∧(([]:List SV)=[]))∧(vals=vals∧(True∧(([]:List SV)=[])))∧True)) ∧
 LoopP (fun (d3:(List ((Int×Int)×Int))×Int) (q3:((List ((Int×Int)×Int))×Int)→Prop) =>
  ((decide (d3.2<(3:Int)))=true →
   (cs≠[]∧cs.length≤1000∧-1000000≤sa∧sa≤1000000∧-1000000≤d3.2∧d3.2≤1000000)∧(True)∧(I64 (sf+(if d3.2=1 then 0 else 1)))∧((True∧wy=wy∧mo=mo∧True∧True∧True∧d3.2=d3.2∧((Int.tmod (sa+d3.2) cs.length)=(Int.tmod (sa+d3.2) cs.length)∧(sf+(if d3.2=1 then 0 else 1))=(sf+(if d3.2=1 then 0 else 1))∧(([]:List SV)=[]))∧True)∧((d3.1=d3.1)∧(hk=hk∧cs=cs∧f=f∧cl=cl∧(([]:List SV)=[]))∧(sa=sa∧sf=sf∧(([]:List SV)=[]))∧((0:Int)=(0:Int)∧(0:Int)=(0:Int)∧(([]:List SV)=[]))∧(vals=vals∧(True∧(([]:List SV)=[])))∧True))∧((cs≠[]∧cs.length≤1000∧-1000000≤sa∧sa≤1000000∧-1000000≤d3.2∧d3.2≤1000000)∧(True)∧(I64 (sf+(if d3.2=1 then 0 else 1)))∧((True∧wy=wy∧mo=mo∧True∧True∧True∧d3.2=d3.2∧((Int.tmod (sa+d3.2) cs.length)=(Int.tmod (sa+d3.2) cs.length)∧(sf+(if d3.2=1 then 0 else 1))=(sf+(if d3.2=1 then 0 else 1))∧(([]:List SV)=[]))∧True)∧((d3.1=d3.1)∧(hk=hk∧cs=cs∧f=f∧cl=cl∧(([]:List SV)=[]))∧(sa=sa∧sf=sf∧(([]:List SV)=[]))∧((0:Int)=(0:Int)∧(0:Int)=(0:Int)∧(([]:List SV)=[]))∧(vals=vals∧(True∧(([]:List SV)=[])))∧True)))∧((cs≠[]∧cs.length≤1000∧-1000000≤sa∧sa≤1000000∧-1000000≤d3.2∧d3.2≤1000000)∧(True)∧(I64 (sf+(if d3.2=1 then 0 else 1)))∧((True∧wy=wy∧mo=mo∧True∧True∧True∧d3.2=d3.2∧((Int.tmod (sa+d3.2) cs.length)=(Int.tmod (sa+d3.2) cs.length)∧(sf+(if d3.2=1 then 0 else 1))=(sf+(if d3.2=1 then 0 else 1))∧(([]:List SV)=[]))∧True)∧((d3.1=d3.1)∧(hk=hk∧cs=cs∧f=f∧cl=cl∧(([]:List SV)=[]))∧(sa=sa∧sf=sf∧(([]:List SV)=[]))∧((0:Int)=(0:Int)∧(0:Int)=(0:Int)∧(([]:List SV)=[]))∧(vals=vals∧(True∧(([]:List SV)=[])))∧True)))∧((decide ((sf+(if d3.2=1 then 0 else 1))≤mo))=true →
    (I64 ((gq.aget (.pair (.i .i64) (.i .i64)) d3.1 ((Int.tmod (sa+d3.2) cs.length),(sf+(if d3.2=1 then 0 else 1))) 0)+wy))∧∀ n4:Int,
     n4=n4 ∧
     (I64 (d3.2+(1:Int)))∧(∃ d5:(List ((Int×Int)×Int))×Int,((True∧wy=wy∧mo=mo∧True∧True∧(d3.2+(1:Int))=d5.2∧True)∧(((T2 (.pair (.i .i64) (.i .i64)) (T2 (.pair (.i .i64) (.i .i64)) d3.1 ((Int.tmod (sa+d3.2) cs.length),(sf+(if d3.2=1 then 0 else 1))) (gq.aget (.pair (.i .i64) (.i .i64)) d3.1 ((Int.tmod (sa+d3.2) cs.length),(sf+(if d3.2=1 then 0 else 1))) 0)) ((Int.tmod (sa+d3.2) cs.length),(sf+(if d3.2=1 then 0 else 1))) ((gq.aget (.pair (.i .i64) (.i .i64)) d3.1 ((Int.tmod (sa+d3.2) cs.length),(sf+(if d3.2=1 then 0 else 1))) 0)+wy))=d5.1)∧(hk=hk∧cs=cs∧f=f∧cl=cl∧(([]:List SV)=[]))∧(sa=sa∧sf=sf∧(([]:List SV)=[]))∧(vals=vals∧(True∧(([]:List SV)=[])))∧True))∧q3 d5)) ∧
   ((decide ((sf+(if d3.2=1 then 0 else 1))≤mo))=false →
    (I64 (d3.2+(1:Int)))∧(∃ d6:(List ((Int×Int)×Int))×Int,((True∧wy=wy∧mo=mo∧True∧True∧(d3.2+(1:Int))=d6.2∧True)∧((d3.1=d6.1)∧(hk=hk∧cs=cs∧f=f∧cl=cl∧(([]:List SV)=[]))∧(sa=sa∧sf=sf∧(([]:List SV)=[]))∧(vals=vals∧(True∧(([]:List SV)=[])))∧True))∧q3 d6))) ∧
  ((decide (d3.2<(3:Int)))=false →
   (vals=vals∧(True∧(([]:List SV)=[]))∧((([]:List SV)=[]))∧(d3.1=Q6e cs.length mo (sa,sf) wy m)))) d30
def Wg:Cx:=⟨[],[(78,JC),(77,VC)],39,[],0,[],[],[],[1,3,4,5,7,11,12,26],false,[],[],[],[]⟩
def Wh (m:List ((Int×Int)×Int)) (hk:Int) (cs:List (Int×Int×Bool)) (f:Int) (cl:List Int) (sa:Int) (sf:Int) (wy:Int) (mo:Int) (vals:List Value):List (Nat×LoopAnn):=[(0,⟨Unit,(List ((Int×Int)×Int))×Int,[1,3,4,5,7,12],fun e x=>[.map 0,.val (.i .i64) wy,.val (.i .i64) mo,.box 5 0,.box 7 0,.val (.i .i64) x.2],fun e x=>[(0,.slot 1,.map (.pair (.i .i64) (.i .i64)) (.i .i64) x.1),(5,.slot 5,.cells [.val (.i .i64) hk,.val (.list (.pair (.i .i64) (.pair (.i .i64) .bo))) cs,.val (.i .i64) f,.val (.list (.i .i64)) cl] (some 134)),(7,.slot 7,.cells [.val (.i .i64) sa,.val (.i .i64) sf] (some 145)),(4000000,.key 4000000,.stk [.map 0] vals)]⟩)]
theorem Ua (m:List ((Int×Int)×Int)) (a:(Int×(List (Int×Int×Bool))×Int×List Int)×(Int×Int)×Int×Int):(∀ vals,gwp Wg (Wh m a.1.1 a.1.2.1 a.1.2.2.1 a.1.2.2.2 a.2.1.1 a.2.1.2 a.2.2.1 a.2.2.2 vals) Q9r 0 (Q49 vals [] (XV m a) (.pair (.i .i64) (.i .i64)) (.i .i64) (Xx m a)) (GK 39 1 (.pair (.i .i64) (.i .i64)) (.i .i64) m vals (AL.can XU a)))=Zs m a.1.1 a.1.2.1 a.1.2.2.1 a.1.2.2.2 a.2.1.1 a.2.1.2 a.2.2.1 a.2.2.2:=by kernel_rfl
abbrev UA:Prop:=XOk Tryz.prog 145 JP
theorem U9 (h:∀ (m:List ((Int×Int)×Int)) (hk:Int) (cs:List (Int×Int×Bool)) (f:Int) (cl:List Int) (sa:Int) (sf:Int) (wy:Int) (mo:Int),(0≤sa∧sa<cs.length∧cs.length≤60∧0≤sf∧sf≤6∧0≤mo∧mo≤6∧0≤wy∧wy≤4000000000000000∧∀ q,0≤Xl m q∧Xl m q≤4000000000000000)→Zs m hk cs f cl sa sf wy mo):XOk Tryz.prog 145 JP :=
 Oy Ig mixed W_ rfl (C:=Wg) ⟨(.cons YL (.cons PT .nil)),XsOk.nil,ItsOk.nil,YlOk.nil,IysOk.nil,XfOk.nil⟩ (L:=fun m (a:(Int×(List (Int×Int×Bool))×Int×List Int)×(Int×Int)×Int×Int) vals=>Wh m a.1.1 a.1.2.1 a.1.2.2.1 a.1.2.2.2 a.2.1.1 a.2.1.2 a.2.2.1 a.2.2.2 vals) (V:=fun m (a:(Int×(List (Int×Int×Bool))×Int×List Int)×(Int×Int)×Int×Int)=>Zs m a.1.1 a.1.2.1 a.1.2.2.1 a.1.2.2.2 a.2.1.1 a.2.1.2 a.2.2.1 a.2.2.2) Ua fun m a hp=>h m a.1.1 a.1.2.1 a.1.2.2.1 a.1.2.2.2 a.2.1.1 a.2.1.2 a.2.2.1 a.2.2.2 hp
theorem Vz:UA:=U9 fun m hk cs f cl sa sf wy mo h=>by
 obtain⟨h1,h2,h3,h4,h5,h6,h7,h8,h9,bY⟩:=h;unfold Zs;(try delta lI gD sT I64 Kq pj8 pj4);intro vals;have aA:cs≠[]:=fun e=>by rw[e] at h2;simp at h2;omega
 refine⟨(),(m,0),(by and_intros<;>first|rfl|trivial),?_⟩
 let P:Nat→List ((Int×Int)×Int):=fun k=>match k with
  |0=>m
  |1=>Ed cs.length mo (sa,sf) wy m 0
  |2=>Ed cs.length mo (sa,sf) wy (Ed cs.length mo (sa,sf) wy m 0) 1
  |_=>Q6e cs.length mo (sa,sf) wy m
 have hP:∀ k:Nat,k<3→P (k+1)=Ed cs.length mo (sa,sf) wy (P k) k:=fun k hk=>by
  match k,hk with
  |0,_=>rfl
  |1,_=>rfl
  |2,_=>rfl
 have hb:∀ k:Nat,k≤3→∀ q,0≤Xl (P k) q∧Xl (P k) q≤4000000000000000+k*4000000000000000:=fun k=>by
  induction k with
  |zero=>intro _ q;have:=bY q;exact⟨this.1,by show Xl m q≤_;omega⟩
  |succ k ih =>intro hk q;rw[hP k (by omega),Q06];have a1:=ih (by omega) q;have a2:=VF (n:=cs.length) (mo:=mo) (p:=(sa,sf)) (q:=q) (s:=(k:Int)) h8;omega
 refine LoopP.count2 3 (fun k d=>d=P k) rfl ?_;intro k d mG hd q hq;subst hd;dsimp only;refine⟨fun g=>?_,fun g=>?_⟩
 ·have g:k<3:=by have:=of_decide_eq_true g;omega
  have cw:=fun x'=>hq x' g;have hs:I64 (sf+(if (k:Int)=1 then 0 else 1)):=by (try delta I64);simp only[Qx];split<;>omega
  have lD:cs≠[]∧cs.length≤1000∧-1000000≤sa∧sa≤1000000∧-1000000≤(k:Int)∧(k:Int)≤1000000:=⟨aA,by omega,by omega,by omega,by omega,by omega⟩;refine⟨lD,trivial,hs,by and_intros<;>first|rfl|trivial,⟨lD,trivial,hs,by and_intros<;>first|rfl|trivial⟩,⟨lD,trivial,hs,by and_intros<;>first|rfl|trivial⟩,fun c=>?_,fun c=>?_⟩
  ·have c:=of_decide_eq_true c;have uf:=hb k (by omega) (G7 cs.length (sa,sf) k);have e1:gq.aget (.pair (.i .i64) (.i .i64)) (P k) ((Int.tmod (sa+(k:Int)) cs.length),(sf+(if (k:Int)=1 then 0 else 1))) (0:Int)=Xl (P k) (G7 cs.length (sa,sf) k):=rfl;refine⟨?_,fun n4=>⟨rfl,?_,?_⟩⟩
   ·rw[e1];simp only[Qx];omega
   ·simp only[Qx];omega
   ·refine⟨(P (k+1),(k:Int)+1),?_,cw _ rfl⟩;have e2:P (k+1)=UX (UX (P k) (G7 cs.length (sa,sf) k) (Xl (P k) (G7 cs.length (sa,sf) k))) (G7 cs.length (sa,sf) k) (Xl (P k) (G7 cs.length (sa,sf) k)+wy):=by
     rw[LB,hP k g];unfold Ed;rw[if_pos (show (G7 cs.length (sa,sf) k).2≤mo from c)]
    refine⟨by and_intros<;>first|rfl|trivial,?_⟩;refine⟨e2.symm,?_⟩;and_intros<;>first|rfl|trivial
  ·have c:=of_decide_eq_false c;refine⟨by simp only[Qx];omega,(P (k+1),(k:Int)+1),⟨by and_intros<;>first|rfl|trivial,?_⟩,cw _ rfl⟩;refine⟨?_,by and_intros<;>first|rfl|trivial⟩;show P k=P (k+1);rw[hP k g];unfold Ed;rw[if_neg (show ¬ (G7 cs.length (sa,sf) k).2≤mo from c)]
 ·have g:k=3:=by have:=of_decide_eq_false g;omega
  subst g;and_intros<;>first|rfl|trivial
theorem NR:∀ {l m:List Nat},l.Nodup→(∀ x∈l,x∈m)→l.length≤m.length
 |[],_,_,_=>Nat.zero_le _
 |x::l,m,hn,hs=>by rw[List.nodup_cons] at hn;have hx:x∈m:=hs x (List.mem_cons_self ..);have:=NR (l:=l) (m:=m.erase x) hn.2 fun y hy=>(List.mem_erase_of_ne (by rintro rfl;exact hn.1 hy)).2 (hs y (List.mem_cons_of_mem _ hy));rw[List.length_erase_of_mem hx] at this;have:=List.length_pos_of_mem hx;rw[List.length_cons];omega
theorem Dx {dn:List Nat}{r:Nat}(h:dn.Nodup) (hr:r∉dn):(dn++[r]).Nodup :=
 List.nodup_append.2 ⟨h,List.pairwise_singleton _ _,fun a ha b hb e=>by rw[List.mem_singleton] at hb;subst hb;subst e;exact hr ha⟩
theorem LoopP.rng {X:Type}{F:X×List Nat→(X×List Nat→Prop)→Prop}(n:Nat) (J:X→List Nat→Prop) {x0:X}(h0:J x0 [])
  (hr:∀ (x:X) (dn:List Nat),dn.Nodup→(∀ r∈dn,r<n)→J x dn→∀ q:X×List Nat→Prop,(∀ (r:Nat) (x':X),r<n→r∉dn→J x' (dn++[r])→q (x',dn++[r]))→F (x,dn) q):LoopP F (x0,[]):=by
 refine⟨fun d=>d.2.Nodup∧(∀ r∈d.2,r<n)∧J d.1 d.2,fun d=>n-d.2.length,⟨List.nodup_nil,(fun r hr=>by cases hr),h0⟩,fun ⟨x,dn⟩ ⟨h1,h2,h3⟩=>?_⟩;have h1:dn.Nodup:=h1;refine hr x dn h1 h2 h3 _ fun r x' ai fy hJ=>?_;have hn:=Dx h1 fy;have hb:∀ y∈dn++[r],y<n:=fun y hy=>by
  rcases List.mem_append.1 hy with h|h
  ·exact h2 y h
  ·rw[List.mem_singleton] at h;omega
 refine⟨⟨hn,hb,hJ⟩,?_⟩;have:=NR hn (m:=List.range n) fun y hy=>List.mem_range.2 (hb y hy);rw[List.length_range,List.length_append,List.length_singleton] at this;have e:(dn++[r]).length=dn.length+1:=by simp
 show n-(dn++[r]).length<n-dn.length;omega
theorem Z3x {b e:Nat}(hb:b≤121) (he:e≤6):b ^ e≤3138428376721:=by
 have h1:b ^ e≤121 ^ e:=Nat.pow_le_pow_left hb e;have h2:121 ^ e≤121 ^ 6:=Nat.pow_le_pow_right (by omega) he;have h3:121 ^ 6=3138428376721:=by decide
 omega
theorem Q84 {n mo:Nat}(wv:Nat→Int→Bool) (hn:0<n) (l8:mo≤6) {k:Nat}(hk:k≤60) (q:Int×Int):0≤wyK n mo wv k q∧wyK n mo wv k q≤4000000000000000:=by
 refine⟨DA n mo wv k q,?_⟩;by_cases hz:wyK n mo wv k q=0
 ·omega
 ·have hg:=Xf.1 (Sm n mo wv hn k q hz);have h1:=AI (n:=n) (mo:=mo) wv hn k q hg.2.1;have h2:=Z3x (b:=2*k+1) (e:=q.2.toNat) (by omega) (by omega);omega
def Q5u (k:Nat) (q:Int×Int):Int:=if 0≤q.1∧q.1<(k:Int)∧q.2=0 then 1 else 0
theorem ON {n mo:Nat}{m:List ((Int×Int)×Int)}{k:Nat}(h:MapW n mo m (Q5u k)) (hk:k<n):MapW n mo (UX m ((k:Int),0) 1) (Q5u (k+1)):=by
 have hg:Xl m ((k:Int),0)=0:=by rw[h.get];unfold Q5u;rw[if_neg (by dsimp only;omega)]
 have:=h.add (fun q=>by unfold Q5u;split<;>omega) (k:=((k:Int),0)) (w:=1) (by omega) (by rw[Xf];dsimp only;omega);rw[hg] at this;refine this.congr fun q=>?_;unfold Q5u;by_cases e:q=((k:Int),0)
 ·subst e;rw[if_neg (by dsimp only;omega),if_pos rfl,if_pos (by dsimp only;omega)];rfl
 ·rw[if_neg e];have:¬ (q.1=k∧q.2=0):=fun h=>e (Prod.ext h.1 h.2);by_cases c:0≤q.1∧q.1<(k:Int)∧q.2=0
  ·rw[if_pos c,if_pos (by omega)];rfl
  ·rw[if_neg c,if_neg (by omega)];rfl
def Q5v (n mo:Nat) (wv:Int→Bool) (m:List ((Int×Int)×Int)) (dn:List Nat) (q:Int×Int):Int:=(dn.map fun r=>L5 n mo wv (m.getD r ((0,0),0)).1 (m.getD r ((0,0),0)).2 q).sum
theorem SN (n mo:Nat) (wv:Int→Bool) (m:List ((Int×Int)×Int)) (dn:List Nat) (r:Nat) (q:Int×Int):Q5v n mo wv m (dn++[r]) q=Q5v n mo wv m dn q+L5 n mo wv (m.getD r ((0,0),0)).1 (m.getD r ((0,0),0)).2 q:=by unfold Q5v;rw[RF];simp
theorem Q1e {n mo:Nat}{wv:Nat→Int→Bool}{k:Nat}{m:List ((Int×Int)×Int)}(h:MapW n mo m (wyK n mo wv k)) {dn:List Nat}(hn:dn.Nodup) (ai:∀ r∈dn,r<m.length) (q:Int×Int) :
  0≤Q5v n mo (wv k) m dn q∧Q5v n mo (wv k) m dn q≤wyK n mo wv (k+1) q∧((∀ r,r<m.length→r∈dn)→Q5v n mo (wv k) m dn q=wyK n mo wv (k+1) q):=by
 have bA:∀ x∈m,0≤L5 n mo (wv k) x.1 x.2 q:=fun x hx=>Pg (Int.le_of_lt (h.2.1 x hx).2.1);have h1:=AE (d:=(((0,0),0):(Int×Int)×Int)) (F:=fun x=>L5 n mo (wv k) x.1 x.2 q) hn ai bA;have h2:=Hw h (fun p w=>L5 n mo (wv k) p w q) fun p=>by
  unfold L5 DQ;split
  ·split<;>split<;>split<;>rfl
  ·rfl
 have e:wyK n mo wv (k+1) q=((J9 n mo).map fun p=>L5 n mo (wv k) p (wyK n mo wv k p) q).sum:=rfl;rw[e,←h2];refine⟨V4 fun r hr=>?_,h1.1,h1.2⟩;have:=ai r hr;rw[Qk this];exact bA _ (List.getElem_mem this)
def XI:AL ((Int×(List (Int×Int×Bool))×Int×List Int)×Int):=(.cons (.agg (.cons (.k (.i .i64)) (.cons (.k (.list (.pair (.i .i64) (.pair (.i .i64) .bo)))) (.cons (.k (.i .i64)) (.one (.k (.list (.i .i64)))))))) (.one (.k (.i .i64))))
def Vy (a:(Int×(List (Int×Int×Bool))×Int×List Int)×Int):Prop:=a.1.2.2.1=a.1.1∧Q7 a.1.1 a.1.2.1=0∧a.1.2.2.2.length≤60∧(∀ r∈a.1.2.2.2,-1≤r∧r<2 ^ a.1.1.toNat)∧0≤a.2∧a.2≤6
def Vr (a:(Int×(List (Int×Int×Bool))×Int×List Int)×Int):List SV:=[]
def Xs (a:(Int×(List (Int×Int×Bool))×Int×List Int)×Int) (m:List ((Int×Int)×Int)):Prop:=MapW a.1.2.1.length a.2.toNat m (wyK a.1.2.1.length a.2.toNat (fun k=>wvB a.1.1 a.1.2.1 a.1.2.2.2 k) a.1.2.2.2.length)
def JJ:XSp:=OK Nb (.pair (.i .i64) (.i .i64)) (.i .i64) (Q6i XI Vy Vr Xs)
def Zx (hk:Int) (cs:List (Int×Int×Bool)) (f:Int) (cl:List Int) (mo:Int):Prop :=
 ∃ (e3:Unit) (d30:(List ((Int×Int)×Int))×Int),((mo=mo∧True∧True∧(lI cs)=(lI cs)∧(0:Int)=d30.2∧True)∧((hk=hk∧cs=cs∧f=f∧cl=cl∧(([]:List SV)=[]))∧(([]:List ((Int×Int)×Int))=d30.1)∧True)) ∧
 LoopP (fun (d3:(List ((Int×Int)×Int))×Int) (q3:((List ((Int×Int)×Int))×Int)→Prop) =>
  ((decide (d3.2<(lI cs)))=true →
   (I64 (d3.2+(1:Int)))∧(∃ d4:(List ((Int×Int)×Int))×Int,((mo=mo∧True∧True∧(lI cs)=(lI cs)∧(d3.2+(1:Int))=d4.2∧True)∧((hk=hk∧cs=cs∧f=f∧cl=cl∧(([]:List SV)=[]))∧((T2 (.pair (.i .i64) (.i .i64)) d3.1 (d3.2,(0:Int)) (1:Int))=d4.1)∧True))∧q3 d4)) ∧
  ((decide (d3.2<(lI cs)))=false →
   ∃ (e7:Unit) (d70:(List ((Int×Int)×Int))×Int),((mo=mo∧True∧True∧(lI cl)=(lI cl)∧(0:Int)=d70.2∧True)∧((hk=hk∧cs=cs∧f=f∧cl=cl∧(([]:List SV)=[]))∧(d3.1=d70.1)∧True)) ∧
   LoopP (fun (d7:(List ((Int×Int)×Int))×Int) (q7:((List ((Int×Int)×Int))×Int)→Prop) =>
    ((decide (d7.2<(lI cl)))=true →
     ∃ (aU:Int×Int×(List ((Int×Int)×Int))) (d100:(List ((Int×Int)×Int))×(List Nat)),((mo=mo∧True∧d7.2=aU.1∧True∧(lI cl)=(lI cl)∧d7.2=aU.2.1∧True∧True)∧((hk=hk∧cs=cs∧f=f∧cl=cl∧(([]:List SV)=[]))∧(([]:List ((Int×Int)×Int))=d100.1)∧(d7.1=aU.2.2∧([]:List Nat)=d100.2)∧True)) ∧
     LoopP (fun (d10:(List ((Int×Int)×Int))×(List Nat)) (l7:((List ((Int×Int)×Int))×(List Nat))→Prop) =>
      ((∀ r:Nat,r<(List.length aU.2.2)→r∈d10.2) →
       (false=true →
        (d10.2≠[])∧(1≤f∧f≤24∧0≤aU.1∧aU.1<cl.length∧0≤((List.getD aU.2.2 (List.getLastD d10.2 0) ((0,0),0)).1.1)∧((List.getD aU.2.2 (List.getLastD d10.2 0) ((0,0),0)).1.1)<cs.length∧∀ c∈cs,QM f c=true)∧((wvB f cs cl aU.1.toNat ((List.getD aU.2.2 (List.getLastD d10.2 0) ((0,0),0)).1.1))=true →
         (0≤((List.getD aU.2.2 (List.getLastD d10.2 0) ((0,0),0)).1.1)∧((List.getD aU.2.2 (List.getLastD d10.2 0) ((0,0),0)).1.1)<cs.length∧cs.length≤60∧0≤((List.getD aU.2.2 (List.getLastD d10.2 0) ((0,0),0)).1.2)∧((List.getD aU.2.2 (List.getLastD d10.2 0) ((0,0),0)).1.2)≤6∧0≤mo∧mo≤6∧0≤((List.getD aU.2.2 (List.getLastD d10.2 0) ((0,0),0)).2)∧((List.getD aU.2.2 (List.getLastD d10.2 0) ((0,0),0)).2)≤4000000000000000∧∀ q,0≤Xl d10.1 q∧Xl d10.1 q≤4000000000000000)∧(∀ nV:List ((Int×Int)×Int),(nV=Q6e cs.length mo (((List.getD aU.2.2 (List.getLastD d10.2 0) ((0,0),0)).1.1),((List.getD aU.2.2 (List.getLastD d10.2 0) ((0,0),0)).1.2)) ((List.getD aU.2.2 (List.getLastD d10.2 0) ((0,0),0)).2) d10.1)→(∃ d13:(List ((Int×Int)×Int))×(List Nat),((mo=mo∧True∧aU.1=aU.1∧True∧(lI cl)=(lI cl)∧aU.2.1=aU.2.1∧True∧True)∧((hk=hk∧cs=cs∧f=f∧cl=cl∧(([]:List SV)=[]))∧(nV=d13.1)∧(aU.2.2=aU.2.2∧d10.2=d13.2)∧True))∧l7 d13))) ∧
        ((wvB f cs cl aU.1.toNat ((List.getD aU.2.2 (List.getLastD d10.2 0) ((0,0),0)).1.1))=false →
         (∃ d14:(List ((Int×Int)×Int))×(List Nat),((mo=mo∧True∧aU.1=aU.1∧True∧(lI cl)=(lI cl)∧aU.2.1=aU.2.1∧True∧True)∧((hk=hk∧cs=cs∧f=f∧cl=cl∧(([]:List SV)=[]))∧(d10.1=d14.1)∧(aU.2.2=aU.2.2∧d10.2=d14.2)∧True))∧l7 d14))) ∧
       (false=false →
        (I64 (aU.2.1+(1:Int)))∧(∃ d15:(List ((Int×Int)×Int))×Int,((mo=mo∧True∧True∧(lI cl)=(lI cl)∧(aU.2.1+(1:Int))=d15.2∧True)∧((hk=hk∧cs=cs∧f=f∧cl=cl∧(([]:List SV)=[]))∧(d10.1=d15.1)∧True))∧q7 d15))) ∧
      (∀ eS:Nat,eS<(List.length aU.2.2)→eS∉d10.2 →
       (true=true →
        ((d10.2++[eS])≠[])∧(1≤f∧f≤24∧0≤aU.1∧aU.1<cl.length∧0≤((List.getD aU.2.2 (List.getLastD (d10.2++[eS]) 0) ((0,0),0)).1.1)∧((List.getD aU.2.2 (List.getLastD (d10.2++[eS]) 0) ((0,0),0)).1.1)<cs.length∧∀ c∈cs,QM f c=true)∧((wvB f cs cl aU.1.toNat ((List.getD aU.2.2 (List.getLastD (d10.2++[eS]) 0) ((0,0),0)).1.1))=true →
         (0≤((List.getD aU.2.2 (List.getLastD (d10.2++[eS]) 0) ((0,0),0)).1.1)∧((List.getD aU.2.2 (List.getLastD (d10.2++[eS]) 0) ((0,0),0)).1.1)<cs.length∧cs.length≤60∧0≤((List.getD aU.2.2 (List.getLastD (d10.2++[eS]) 0) ((0,0),0)).1.2)∧((List.getD aU.2.2 (List.getLastD (d10.2++[eS]) 0) ((0,0),0)).1.2)≤6∧0≤mo∧mo≤6∧0≤((List.getD aU.2.2 (List.getLastD (d10.2++[eS]) 0) ((0,0),0)).2)∧((List.getD aU.2.2 (List.getLastD (d10.2++[eS]) 0) ((0,0),0)).2)≤4000000000000000∧∀ q,0≤Xl d10.1 q∧Xl d10.1 q≤4000000000000000)∧(∀ nW:List ((Int×Int)×Int),(nW=Q6e cs.length mo (((List.getD aU.2.2 (List.getLastD (d10.2++[eS]) 0) ((0,0),0)).1.1),((List.getD aU.2.2 (List.getLastD (d10.2++[eS]) 0) ((0,0),0)).1.2)) ((List.getD aU.2.2 (List.getLastD (d10.2++[eS]) 0) ((0,0),0)).2) d10.1)→(∃ d17:(List ((Int×Int)×Int))×(List Nat),((mo=mo∧True∧aU.1=aU.1∧True∧(lI cl)=(lI cl)∧aU.2.1=aU.2.1∧True∧True)∧((hk=hk∧cs=cs∧f=f∧cl=cl∧(([]:List SV)=[]))∧(nW=d17.1)∧(aU.2.2=aU.2.2∧(d10.2++[eS])=d17.2)∧True))∧l7 d17))) ∧
        ((wvB f cs cl aU.1.toNat ((List.getD aU.2.2 (List.getLastD (d10.2++[eS]) 0) ((0,0),0)).1.1))=false →
         (∃ d18:(List ((Int×Int)×Int))×(List Nat),((mo=mo∧True∧aU.1=aU.1∧True∧(lI cl)=(lI cl)∧aU.2.1=aU.2.1∧True∧True)∧((hk=hk∧cs=cs∧f=f∧cl=cl∧(([]:List SV)=[]))∧(d10.1=d18.1)∧(aU.2.2=aU.2.2∧(d10.2++[eS])=d18.2)∧True))∧l7 d18))) ∧
       (true=false →
        (I64 (aU.2.1+(1:Int)))∧(∃ d19:(List ((Int×Int)×Int))×Int,((mo=mo∧True∧True∧(lI cl)=(lI cl)∧(aU.2.1+(1:Int))=d19.2∧True)∧((hk=hk∧cs=cs∧f=f∧cl=cl∧(([]:List SV)=[]))∧(d10.1=d19.1)∧True))∧q7 d19)))) d100) ∧
    ((decide (d7.2<(lI cl)))=false →
     (MapW cs.length mo.toNat d7.1 (wyK cs.length mo.toNat (fun k=>wvB hk cs cl k) cl.length)))) d70)) d30
def Wq:Cx:=⟨[(1000011,(.pair (.pair (.i .i64) (.i .i64)) (.i .i64))),(1000030,(.pair (.pair (.i .i64) (.i .i64)) (.i .i64)))],[(116,Jj)],52,[],0,[(145,JP)],[],[],[],false,[],[],[],[]⟩
def Wj (hk:Int) (cs:List (Int×Int×Bool)) (f:Int) (cl:List Int) (mo:Int):List (Nat×LoopAnn):=[(0,⟨Unit,(List ((Int×Int)×Int))×Int,[1,2,5,16,17],fun e x=>[.val (.i .i64) mo,.box 2 0,.map 11,.val (.i .i64) (((List.length cs):Nat):Int),.val (.i .i64) x.2],fun e x=>[(2,.slot 2,.cells [.val (.i .i64) hk,.val (.list (.pair (.i .i64) (.pair (.i .i64) .bo))) cs,.val (.i .i64) f,.val (.list (.i .i64)) cl] (some 134)),(11,.slot 5,.map (.pair (.i .i64) (.i .i64)) (.i .i64) x.1)]⟩),
 (2,⟨Unit,(List ((Int×Int)×Int))×Int,[1,2,5,26,27],fun e x=>[.val (.i .i64) mo,.box 2 0,.map 11,.val (.i .i64) (((List.length cl):Nat):Int),.val (.i .i64) x.2],fun e x=>[(2,.slot 2,.cells [.val (.i .i64) hk,.val (.list (.pair (.i .i64) (.pair (.i .i64) .bo))) cs,.val (.i .i64) f,.val (.list (.i .i64)) cl] (some 134)),(11,.slot 5,.map (.pair (.i .i64) (.i .i64)) (.i .i64) x.1)]⟩),
 (4,⟨Int×Int×(List ((Int×Int)×Int)),(List ((Int×Int)×Int))×(List Nat),[1,2,7,8,26,27,32],fun e x=>[.val (.i .i64) mo,.box 2 0,.val (.i .i64) e.1,.map 30,.val (.i .i64) (((List.length cl):Nat):Int),.val (.i .i64) e.2.1,.box 32 0],fun e x=>[(2,.slot 2,.cells [.val (.i .i64) hk,.val (.list (.pair (.i .i64) (.pair (.i .i64) .bo))) cs,.val (.i .i64) f,.val (.list (.i .i64)) cl] (some 134)),(30,.slot 8,.map (.pair (.i .i64) (.i .i64)) (.i .i64) x.1),(32,.slot 32,.iter (.pair (.i .i64) (.i .i64)) (.i .i64) e.2.2 x.2)]⟩)]
theorem Uu (a:(Int×(List (Int×Int×Bool))×Int×List Int)×Int):gwp Wq (Wj a.1.1 a.1.2.1 a.1.2.2.1 a.1.2.2.2 a.2) Z0r 0 (Q64 [.tmp 4] (.pair (.i .i64) (.i .i64)) (.i .i64) (Xs a)) (Yd 52 (AL.can XI a))=Zx a.1.1 a.1.2.1 a.1.2.2.1 a.1.2.2.2 a.2:=by kernel_rfl
abbrev Uk:Prop:=XOk Tryz.prog 118 JJ
theorem Uo (h:∀ (hk:Int) (cs:List (Int×Int×Bool)) (f:Int) (cl:List Int) (mo:Int),(f=hk∧Q7 hk cs=0∧cl.length≤60∧(∀ r∈cl,-1≤r∧r<2 ^ hk.toNat)∧0≤mo∧mo≤6)→Zx hk cs f cl mo):XOk Tryz.prog 118 JJ :=
 Q0e O8 mixed W_ rfl (C:=Wq) ⟨(.cons Vi .nil),(XsOk.cons Vz XsOk.nil),ItsOk.nil,YlOk.nil,IysOk.nil,XfOk.nil⟩ (L:=fun (a:(Int×(List (Int×Int×Bool))×Int×List Int)×Int)=>Wj a.1.1 a.1.2.1 a.1.2.2.1 a.1.2.2.2 a.2) (V:=fun (a:(Int×(List (Int×Int×Bool))×Int×List Int)×Int)=>Zx a.1.1 a.1.2.1 a.1.2.2.1 a.1.2.2.2 a.2) Uu fun a hp=>h a.1.1 a.1.2.1 a.1.2.2.1 a.1.2.2.2 a.2 hp
theorem Vq:Uk:=Uo fun hk cs f cl mo h=>by
 obtain⟨h1,h2,h3,h4,h5,h6⟩:=h;subst h1;obtain⟨hf,cy,aA,ah⟩:=UY h2;have bA:=List.length_pos_iff.2 aA;unfold Zx;(try delta lI gD sT I64 Kq pj8 pj4);refine⟨(),([],0),(by and_intros<;>first|rfl|trivial),?_⟩;refine LoopP.count2 cs.length (fun k m=>MapW cs.length mo.toNat m (Q5u k)) ((MapW.nil _ _).congr fun q=>by unfold Q5u;rw[if_neg (by omega)]) ?_;intro k m hk hm q hq;dsimp only;refine⟨fun g=>?_,fun g=>?_⟩
 ·have g:k<cs.length:=by have:=of_decide_eq_true g;omega
  refine⟨by simp only[Qx];omega,(UX m ((k:Int),0) 1,(k:Int)+1),(by and_intros<;>first|rfl|trivial),hq _ g (ON hm g)⟩
 ·have g:k=cs.length:=by have:=of_decide_eq_false g;omega
  subst g;refine⟨(),(m,0),(by and_intros<;>first|rfl|trivial),?_⟩;refine LoopP.count2 cl.length (fun k m=>MapW cs.length mo.toNat m (wyK cs.length mo.toNat (fun k=>wvB f cs cl k) k)) (hm.congr fun q=>rfl) ?_;clear hm hq;intro k m hk hm q hq;dsimp only;refine⟨fun g=>?_,fun g=>?_⟩
  ·have g:k<cl.length:=by have:=of_decide_eq_true g;omega
   refine⟨((k:Int),(k:Int),m),([],[]),(by and_intros<;>first|rfl|trivial),?_⟩;refine LoopP.rng m.length (fun x dn=>MapW cs.length mo.toNat x (Q5v cs.length mo.toNat (wvB f cs cl k) m dn)) ((MapW.nil _ _).congr fun q=>rfl) ?_;intro x dn hn ai hx q' cw;dsimp only;refine⟨fun ae=>⟨(fun c=>by cases c),fun _=>⟨by simp only[Qx];omega,(x,(k:Int)+1),(by and_intros<;>first|rfl|trivial),hq _ g ?_⟩⟩,fun r hr fy=>⟨fun _=>?_,(fun c=>by cases c)⟩⟩
   ·exact hx.congr fun q=>(Q1e (wv:=fun k=>wvB f cs cl k) hm hn ai q).2.2 ae
   ·have dQ:List.getLastD (dn++[r]) 0=r:=by simp
    have aL:m[r]∈m:=List.getElem_mem hr;have he:=hm.2.1 _ aL;have lE:=Xf.1 he.2.2;have hW:=Q84 (n:=cs.length) (mo:=mo.toNat) (fun k=>wvB f cs cl k) bA (by omega) (k:=k) (by omega) m[r].1;have nX:=fun q=>Q1e (wv:=fun k=>wvB f cs cl k) hm hn ai q;have tG:=fun q=>Q84 (n:=cs.length) (mo:=mo.toNat) (fun k=>wvB f cs cl k) bA (by omega) (k:=k+1) (by omega) q;simp only[dQ,Qk hr,Int.toNat_natCast];refine⟨by simp,⟨hf.1,hf.2,by omega,by omega,lE.1.1,lE.1.2,ah⟩,fun c=>⟨⟨lE.1.1,lE.1.2,cy,lE.2.1,by omega,h5,h6,by omega,by omega,fun q=>?_⟩,fun m' qj=>⟨(m',dn++[r]),(by and_intros<;>first|rfl|trivial),cw r m' hr fy ?_⟩⟩,fun c=>⟨(x,dn++[r]),(by and_intros<;>first|rfl|trivial),cw r x hr fy ?_⟩⟩
    ·rw[hx.get q];have:=nX q;have:=tG q;omega
    ·subst qj;have l8:((mo.toNat:Nat):Int)=mo:=by omega
     have:=Q9n hx (fun q=>(nX q).1) (p:=m[r].1) (w:=m[r].2) he.2.1 bA ⟨lE.1.1,lE.2.1⟩;rw[l8] at this;refine MapW.congr this fun q=>?_;rw[SN,Qk hr];unfold L5;rw[if_pos c,l8]
    ·refine hx.congr fun q=>?_;rw[SN,Qk hr];unfold L5;rw[if_neg (by rw[c];decide)];omega
  ·have g:k=cl.length:=by have:=of_decide_eq_false g;omega
   subst g;exact hm
def Cw (hk:Int) (cs:List DL) (cl:List Int) (fa:Int):Int:=((J9 cs.length fa.toNat).map (wyK cs.length fa.toNat (fun k=>wvB hk cs cl k) cl.length)).sum
theorem Q02 (n mo:Nat):(J9 n mo).length=n*(mo+1):=by
 unfold J9;rw[List.length_flatMap];have:(fun (a:Nat)=>((List.range (mo+1)).map fun (f:Nat)=>(((a:Int),(f:Int)):Int×Int)).length)=fun _=>mo+1:=by funext a;simp
 rw[this];induction n with
 |zero=>simp
 |succ n ih=>rw[List.range_succ,List.map_append,List.sum_append,ih];simp[Nat.succ_mul]
theorem Fa {α:Type}{f:α→Int}{B:Int}:∀ {l:List α},(∀ x∈l,f x≤B)→(l.map f).sum≤l.length*B
 |[],_=>by simp
 |x::l,h=>by
  have h1:=h x (List.mem_cons_self ..);have h2:=Fa (l:=l) fun y hy=>h y (List.mem_cons_of_mem _ hy);rw[List.map_cons,List.sum_cons,List.length_cons];have:((l.length+1:Nat):Int)*B=l.length*B+B:=by rw[Int.natCast_add,Int.add_mul];simp
  omega
theorem Q7x {n mo:Nat}(wv:Nat→Int→Bool) (hn:0<n) (dW:n≤60) (l8:mo≤6) {k:Nat}(hk:k≤60):((J9 n mo).map (wyK n mo wv k)).sum≤420*3138428376721:=by
 have h1:=Fa (l:=J9 n mo) (f:=wyK n mo wv k) (B:=3138428376721) fun q hq=>by have hg:=Xf.1 hq;have h1:=AI (n:=n) (mo:=mo) wv hn k q hg.2.1;have h2:=Z3x (b:=2*k+1) (e:=q.2.toNat) (by omega) (by omega);omega
 rw[Q02] at h1;have:n*(mo+1)≤60*7:=Nat.mul_le_mul dW (by omega);have:((n*(mo+1):Nat):Int)*3138428376721≤420*3138428376721:=Int.mul_le_mul_of_nonneg_right (by omega) (by omega);omega
def Yc:Cx:=⟨[],[(112,ZL),(113,Qr)],33,[],0,[(103,Y5)],[],[],[],false,[],[],[],[]⟩
def K6:XSp:=Q44 Yc (fun _=>[]) c73 [.cell 4 true 4,.tmp 5] 33
theorem Ng:XOk Tryz.prog 73 K6:=Dk Q60 mixed (C:=Yc) ⟨(.cons Wc (.cons Z6 .nil)),(XsOk.cons WN XsOk.nil),ItsOk.nil,YlOk.nil,IysOk.nil,XfOk.nil⟩ _
def Nk:AL ((Int×List (Int×Int×Bool))×List Int×Int):=(.cons (.agg (.cons (.k (.i .i64)) (.one (.k (.list (.pair (.i .i64) (.pair (.i .i64) .bo))))))) (.cons (.k (.list (.i .i64))) (.one (.k (.i .i64)))))
def HO (a:(Int×List (Int×Int×Bool))×List Int×Int):Prop:=Q7 a.1.1 a.1.2=0∧a.2.1.length≤60∧(∀ r∈a.2.1,-1≤r∧r<2 ^ a.1.1.toNat)∧0≤a.2.2∧a.2.2≤6
def Ni (a:(Int×List (Int×Int×Bool))×List Int×Int):List SV:=[.val (.i .i64) (0:Int)]
def U3 (a:(Int×List (Int×Int×Bool))×List Int×Int) (m:List ((Int×Int)×Int)):Prop:=MapW a.1.2.length a.2.2.toNat m (wyK a.1.2.length a.2.2.toNat (fun k=>wvB a.1.1 a.1.2 a.2.1 k) a.2.1.length)
def Yo:XSp:=OZ Nb (.pair (.i .i64) (.i .i64)) (.i .i64) (Q6i Nk HO Ni U3)
def WO (hk:Int) (cs:List (Int×Int×Bool)) (cl:List Int) (fa:Int):Prop :=
 ∀ w1:List Value,∀ w2:List Value,(True)∧((!(inI hk 1 24))=true →
  w2=w2∧(((3:Int) != (0:Int))=true →
   w1=w1∧(((3:Int) != (0:Int))=true →
    False) ∧
   (((3:Int) != (0:Int))=false →
    ([fa].length≤1000000)∧((!(!([fa].any fun n=>decide (n<(0:Int))||decide ((6:Int)<n))))=true →
     False) ∧
    ((!(!([fa].any fun n=>decide (n<(0:Int))||decide ((6:Int)<n))))=false →
     (hk=hk∧Q7 hk cs=0∧cl.length≤60∧(∀ r∈cl,-1≤r∧r<2 ^ hk.toNat)∧0≤fa∧fa≤6)∧(∀ m3:List ((Int×Int)×Int),(MapW cs.length fa.toNat m3 (wyK cs.length fa.toNat (fun k=>wvB hk cs cl k) cl.length))→(((0:Int)=(0:Int)∧(([]:List SV)=[]))∧(MapW cs.length fa.toNat m3 (wyK cs.length fa.toNat (fun k=>wvB hk cs cl k) cl.length))))))) ∧
  (((3:Int) != (0:Int))=false →
   ((decide ((lI cl) > (60:Int)))=true →
    w1=w1∧(((5:Int) != (0:Int))=true →
     False) ∧
    (((5:Int) != (0:Int))=false →
     ([fa].length≤1000000)∧((!(!([fa].any fun n=>decide (n<(0:Int))||decide ((6:Int)<n))))=true →
      False) ∧
     ((!(!([fa].any fun n=>decide (n<(0:Int))||decide ((6:Int)<n))))=false →
      (hk=hk∧Q7 hk cs=0∧cl.length≤60∧(∀ r∈cl,-1≤r∧r<2 ^ hk.toNat)∧0≤fa∧fa≤6)∧(∀ m4:List ((Int×Int)×Int),(MapW cs.length fa.toNat m4 (wyK cs.length fa.toNat (fun k=>wvB hk cs cl k) cl.length))→(((0:Int)=(0:Int)∧(([]:List SV)=[]))∧(MapW cs.length fa.toNat m4 (wyK cs.length fa.toNat (fun k=>wvB hk cs cl k) cl.length))))))) ∧
   ((decide ((lI cl) > (60:Int)))=false →
    (cl.length≤1000000∧∀ x∈cl,(fun (x1:Int)=>1≤hk∧hk≤24) x)∧((cl.any (fun (x1:Int)=>(decide (x1≠-1)&&!inI x1 0 (2 ^ hk.toNat-1))))=true →
     w1=w1∧(((2:Int) != (0:Int))=true →
      False) ∧
     (((2:Int) != (0:Int))=false →
      ([fa].length≤1000000)∧((!(!([fa].any fun n=>decide (n<(0:Int))||decide ((6:Int)<n))))=true →
       False) ∧
      ((!(!([fa].any fun n=>decide (n<(0:Int))||decide ((6:Int)<n))))=false →
       (hk=hk∧Q7 hk cs=0∧cl.length≤60∧(∀ r∈cl,-1≤r∧r<2 ^ hk.toNat)∧0≤fa∧fa≤6)∧(∀ m5:List ((Int×Int)×Int),(MapW cs.length fa.toNat m5 (wyK cs.length fa.toNat (fun k=>wvB hk cs cl k) cl.length))→(((0:Int)=(0:Int)∧(([]:List SV)=[]))∧(MapW cs.length fa.toNat m5 (wyK cs.length fa.toNat (fun k=>wvB hk cs cl k) cl.length))))))) ∧
    ((cl.any (fun (x1:Int)=>(decide (x1≠-1)&&!inI x1 0 (2 ^ hk.toNat-1))))=false →
     w1=w1∧(((0:Int) != (0:Int))=true →
      False) ∧
     (((0:Int) != (0:Int))=false →
      ([fa].length≤1000000)∧((!(!([fa].any fun n=>decide (n<(0:Int))||decide ((6:Int)<n))))=true →
       False) ∧
      ((!(!([fa].any fun n=>decide (n<(0:Int))||decide ((6:Int)<n))))=false →
       (hk=hk∧Q7 hk cs=0∧cl.length≤60∧(∀ r∈cl,-1≤r∧r<2 ^ hk.toNat)∧0≤fa∧fa≤6)∧(∀ m6:List ((Int×Int)×Int),(MapW cs.length fa.toNat m6 (wyK cs.length fa.toNat (fun k=>wvB hk cs cl k) cl.length))→(((0:Int)=(0:Int)∧(([]:List SV)=[]))∧(MapW cs.length fa.toNat m6 (wyK cs.length fa.toNat (fun k=>wvB hk cs cl k) cl.length)))))))))) ∧
 ((!(inI hk 1 24))=false →
  ((decide ((lI cs) > (60:Int)))=true →
   w2=w2∧(((5:Int) != (0:Int))=true →
    w1=w1∧(((5:Int) != (0:Int))=true →
     False) ∧
    (((5:Int) != (0:Int))=false →
     ([fa].length≤1000000)∧((!(!([fa].any fun n=>decide (n<(0:Int))||decide ((6:Int)<n))))=true →
      False) ∧
     ((!(!([fa].any fun n=>decide (n<(0:Int))||decide ((6:Int)<n))))=false →
      (hk=hk∧Q7 hk cs=0∧cl.length≤60∧(∀ r∈cl,-1≤r∧r<2 ^ hk.toNat)∧0≤fa∧fa≤6)∧(∀ m7:List ((Int×Int)×Int),(MapW cs.length fa.toNat m7 (wyK cs.length fa.toNat (fun k=>wvB hk cs cl k) cl.length))→(((0:Int)=(0:Int)∧(([]:List SV)=[]))∧(MapW cs.length fa.toNat m7 (wyK cs.length fa.toNat (fun k=>wvB hk cs cl k) cl.length))))))) ∧
   (((5:Int) != (0:Int))=false →
    ((decide ((lI cl) > (60:Int)))=true →
     w1=w1∧(((5:Int) != (0:Int))=true →
      False) ∧
     (((5:Int) != (0:Int))=false →
      ([fa].length≤1000000)∧((!(!([fa].any fun n=>decide (n<(0:Int))||decide ((6:Int)<n))))=true →
       False) ∧
      ((!(!([fa].any fun n=>decide (n<(0:Int))||decide ((6:Int)<n))))=false →
       (hk=hk∧Q7 hk cs=0∧cl.length≤60∧(∀ r∈cl,-1≤r∧r<2 ^ hk.toNat)∧0≤fa∧fa≤6)∧(∀ m8:List ((Int×Int)×Int),(MapW cs.length fa.toNat m8 (wyK cs.length fa.toNat (fun k=>wvB hk cs cl k) cl.length))→(((0:Int)=(0:Int)∧(([]:List SV)=[]))∧(MapW cs.length fa.toNat m8 (wyK cs.length fa.toNat (fun k=>wvB hk cs cl k) cl.length))))))) ∧
    ((decide ((lI cl) > (60:Int)))=false →
     (cl.length≤1000000∧∀ x∈cl,(fun (x2:Int)=>1≤hk∧hk≤24) x)∧((cl.any (fun (x2:Int)=>(decide (x2≠-1)&&!inI x2 0 (2 ^ hk.toNat-1))))=true →
      w1=w1∧(((2:Int) != (0:Int))=true →
       False) ∧
      (((2:Int) != (0:Int))=false →
       ([fa].length≤1000000)∧((!(!([fa].any fun n=>decide (n<(0:Int))||decide ((6:Int)<n))))=true →
        False) ∧
       ((!(!([fa].any fun n=>decide (n<(0:Int))||decide ((6:Int)<n))))=false →
        (hk=hk∧Q7 hk cs=0∧cl.length≤60∧(∀ r∈cl,-1≤r∧r<2 ^ hk.toNat)∧0≤fa∧fa≤6)∧(∀ m9:List ((Int×Int)×Int),(MapW cs.length fa.toNat m9 (wyK cs.length fa.toNat (fun k=>wvB hk cs cl k) cl.length))→(((0:Int)=(0:Int)∧(([]:List SV)=[]))∧(MapW cs.length fa.toNat m9 (wyK cs.length fa.toNat (fun k=>wvB hk cs cl k) cl.length))))))) ∧
     ((cl.any (fun (x2:Int)=>(decide (x2≠-1)&&!inI x2 0 (2 ^ hk.toNat-1))))=false →
      w1=w1∧(((0:Int) != (0:Int))=true →
       False) ∧
      (((0:Int) != (0:Int))=false →
       ([fa].length≤1000000)∧((!(!([fa].any fun n=>decide (n<(0:Int))||decide ((6:Int)<n))))=true →
        False) ∧
       ((!(!([fa].any fun n=>decide (n<(0:Int))||decide ((6:Int)<n))))=false →
        (hk=hk∧Q7 hk cs=0∧cl.length≤60∧(∀ r∈cl,-1≤r∧r<2 ^ hk.toNat)∧0≤fa∧fa≤6)∧(∀ qU:List ((Int×Int)×Int),(MapW cs.length fa.toNat qU (wyK cs.length fa.toNat (fun k=>wvB hk cs cl k) cl.length))→(((0:Int)=(0:Int)∧(([]:List SV)=[]))∧(MapW cs.length fa.toNat qU (wyK cs.length fa.toNat (fun k=>wvB hk cs cl k) cl.length)))))))))) ∧
  ((decide ((lI cs) > (60:Int)))=false →
   (1≤hk∧hk≤24∧cs.length≤1000000)∧((!(!cs.isEmpty&&!(cs.any fun c=>!QM hk c)))=true →
    w2=w2∧(((2:Int) != (0:Int))=true →
     w1=w1∧(((2:Int) != (0:Int))=true →
      False) ∧
     (((2:Int) != (0:Int))=false →
      ([fa].length≤1000000)∧((!(!([fa].any fun n=>decide (n<(0:Int))||decide ((6:Int)<n))))=true →
       False) ∧
      ((!(!([fa].any fun n=>decide (n<(0:Int))||decide ((6:Int)<n))))=false →
       (hk=hk∧Q7 hk cs=0∧cl.length≤60∧(∀ r∈cl,-1≤r∧r<2 ^ hk.toNat)∧0≤fa∧fa≤6)∧(∀ qV:List ((Int×Int)×Int),(MapW cs.length fa.toNat qV (wyK cs.length fa.toNat (fun k=>wvB hk cs cl k) cl.length))→(((0:Int)=(0:Int)∧(([]:List SV)=[]))∧(MapW cs.length fa.toNat qV (wyK cs.length fa.toNat (fun k=>wvB hk cs cl k) cl.length))))))) ∧
    (((2:Int) != (0:Int))=false →
     ((decide ((lI cl) > (60:Int)))=true →
      w1=w1∧(((5:Int) != (0:Int))=true →
       False) ∧
      (((5:Int) != (0:Int))=false →
       ([fa].length≤1000000)∧((!(!([fa].any fun n=>decide (n<(0:Int))||decide ((6:Int)<n))))=true →
        False) ∧
       ((!(!([fa].any fun n=>decide (n<(0:Int))||decide ((6:Int)<n))))=false →
        (hk=hk∧Q7 hk cs=0∧cl.length≤60∧(∀ r∈cl,-1≤r∧r<2 ^ hk.toNat)∧0≤fa∧fa≤6)∧(∀ nV:List ((Int×Int)×Int),(MapW cs.length fa.toNat nV (wyK cs.length fa.toNat (fun k=>wvB hk cs cl k) cl.length))→(((0:Int)=(0:Int)∧(([]:List SV)=[]))∧(MapW cs.length fa.toNat nV (wyK cs.length fa.toNat (fun k=>wvB hk cs cl k) cl.length))))))) ∧
     ((decide ((lI cl) > (60:Int)))=false →
      (cl.length≤1000000∧∀ x∈cl,(fun (x3:Int)=>1≤hk∧hk≤24) x)∧((cl.any (fun (x3:Int)=>(decide (x3≠-1)&&!inI x3 0 (2 ^ hk.toNat-1))))=true →
       w1=w1∧(((2:Int) != (0:Int))=true →
        False) ∧
       (((2:Int) != (0:Int))=false →
        ([fa].length≤1000000)∧((!(!([fa].any fun n=>decide (n<(0:Int))||decide ((6:Int)<n))))=true →
         False) ∧
        ((!(!([fa].any fun n=>decide (n<(0:Int))||decide ((6:Int)<n))))=false →
         (hk=hk∧Q7 hk cs=0∧cl.length≤60∧(∀ r∈cl,-1≤r∧r<2 ^ hk.toNat)∧0≤fa∧fa≤6)∧(∀ qW:List ((Int×Int)×Int),(MapW cs.length fa.toNat qW (wyK cs.length fa.toNat (fun k=>wvB hk cs cl k) cl.length))→(((0:Int)=(0:Int)∧(([]:List SV)=[]))∧(MapW cs.length fa.toNat qW (wyK cs.length fa.toNat (fun k=>wvB hk cs cl k) cl.length))))))) ∧
      ((cl.any (fun (x3:Int)=>(decide (x3≠-1)&&!inI x3 0 (2 ^ hk.toNat-1))))=false →
       w1=w1∧(((0:Int) != (0:Int))=true →
        False) ∧
       (((0:Int) != (0:Int))=false →
        ([fa].length≤1000000)∧((!(!([fa].any fun n=>decide (n<(0:Int))||decide ((6:Int)<n))))=true →
         False) ∧
        ((!(!([fa].any fun n=>decide (n<(0:Int))||decide ((6:Int)<n))))=false →
         (hk=hk∧Q7 hk cs=0∧cl.length≤60∧(∀ r∈cl,-1≤r∧r<2 ^ hk.toNat)∧0≤fa∧fa≤6)∧(∀ qX:List ((Int×Int)×Int),(MapW cs.length fa.toNat qX (wyK cs.length fa.toNat (fun k=>wvB hk cs cl k) cl.length))→(((0:Int)=(0:Int)∧(([]:List SV)=[]))∧(MapW cs.length fa.toNat qX (wyK cs.length fa.toNat (fun k=>wvB hk cs cl k) cl.length)))))))))) ∧
   ((!(!cs.isEmpty&&!(cs.any fun c=>!QM hk c)))=false →
    w2=w2∧(((0:Int) != (0:Int))=true →
     w1=w1∧(((0:Int) != (0:Int))=true →
      False) ∧
     (((0:Int) != (0:Int))=false →
      ([fa].length≤1000000)∧((!(!([fa].any fun n=>decide (n<(0:Int))||decide ((6:Int)<n))))=true →
       False) ∧
      ((!(!([fa].any fun n=>decide (n<(0:Int))||decide ((6:Int)<n))))=false →
       (hk=hk∧Q7 hk cs=0∧cl.length≤60∧(∀ r∈cl,-1≤r∧r<2 ^ hk.toNat)∧0≤fa∧fa≤6)∧(∀ qY:List ((Int×Int)×Int),(MapW cs.length fa.toNat qY (wyK cs.length fa.toNat (fun k=>wvB hk cs cl k) cl.length))→(((0:Int)=(0:Int)∧(([]:List SV)=[]))∧(MapW cs.length fa.toNat qY (wyK cs.length fa.toNat (fun k=>wvB hk cs cl k) cl.length))))))) ∧
    (((0:Int) != (0:Int))=false →
     ((decide ((lI cl) > (60:Int)))=true →
      w1=w1∧(((5:Int) != (0:Int))=true →
       False) ∧
      (((5:Int) != (0:Int))=false →
       ([fa].length≤1000000)∧((!(!([fa].any fun n=>decide (n<(0:Int))||decide ((6:Int)<n))))=true →
        False) ∧
       ((!(!([fa].any fun n=>decide (n<(0:Int))||decide ((6:Int)<n))))=false →
        (hk=hk∧Q7 hk cs=0∧cl.length≤60∧(∀ r∈cl,-1≤r∧r<2 ^ hk.toNat)∧0≤fa∧fa≤6)∧(∀ nW:List ((Int×Int)×Int),(MapW cs.length fa.toNat nW (wyK cs.length fa.toNat (fun k=>wvB hk cs cl k) cl.length))→(((0:Int)=(0:Int)∧(([]:List SV)=[]))∧(MapW cs.length fa.toNat nW (wyK cs.length fa.toNat (fun k=>wvB hk cs cl k) cl.length))))))) ∧
     ((decide ((lI cl) > (60:Int)))=false →
      (cl.length≤1000000∧∀ x∈cl,(fun (x4:Int)=>1≤hk∧hk≤24) x)∧((cl.any (fun (x4:Int)=>(decide (x4≠-1)&&!inI x4 0 (2 ^ hk.toNat-1))))=true →
       w1=w1∧(((2:Int) != (0:Int))=true →
        False) ∧
       (((2:Int) != (0:Int))=false →
        ([fa].length≤1000000)∧((!(!([fa].any fun n=>decide (n<(0:Int))||decide ((6:Int)<n))))=true →
         False) ∧
        ((!(!([fa].any fun n=>decide (n<(0:Int))||decide ((6:Int)<n))))=false →
         (hk=hk∧Q7 hk cs=0∧cl.length≤60∧(∀ r∈cl,-1≤r∧r<2 ^ hk.toNat)∧0≤fa∧fa≤6)∧(∀ qZ:List ((Int×Int)×Int),(MapW cs.length fa.toNat qZ (wyK cs.length fa.toNat (fun k=>wvB hk cs cl k) cl.length))→(((0:Int)=(0:Int)∧(([]:List SV)=[]))∧(MapW cs.length fa.toNat qZ (wyK cs.length fa.toNat (fun k=>wvB hk cs cl k) cl.length))))))) ∧
      ((cl.any (fun (x4:Int)=>(decide (x4≠-1)&&!inI x4 0 (2 ^ hk.toNat-1))))=false →
       w1=w1∧(((0:Int) != (0:Int))=true →
        False) ∧
       (((0:Int) != (0:Int))=false →
        ([fa].length≤1000000)∧((!(!([fa].any fun n=>decide (n<(0:Int))||decide ((6:Int)<n))))=true →
         False) ∧
        ((!(!([fa].any fun n=>decide (n<(0:Int))||decide ((6:Int)<n))))=false →
         (hk=hk∧Q7 hk cs=0∧cl.length≤60∧(∀ r∈cl,-1≤r∧r<2 ^ hk.toNat)∧0≤fa∧fa≤6)∧(∀ q6:List ((Int×Int)×Int),(MapW cs.length fa.toNat q6 (wyK cs.length fa.toNat (fun k=>wvB hk cs cl k) cl.length))→(((0:Int)=(0:Int)∧(([]:List SV)=[]))∧(MapW cs.length fa.toNat q6 (wyK cs.length fa.toNat (fun k=>wvB hk cs cl k) cl.length))))))))))))
def Mk:Cx:=⟨[(3,(.i .i64))],[(87,Qz),(88,ZR),(113,Qr),(112,ZL),(86,QI)],28,[],0,[(73,K6),(103,Y5),(118,JJ)],[],[],[],false,[],[],[],[]⟩
def Ml (hk:Int) (cs:List (Int×Int×Bool)) (cl:List Int) (fa:Int):List (Nat×LoopAnn):=[]
theorem Tj (a:(Int×List (Int×Int×Bool))×List Int×Int):gwp Mk (Ml a.1.1 a.1.2 a.2.1 a.2.2) c79 0 (Q5m [.tmp 6,.tmp 7] (.pair (.i .i64) (.i .i64)) (.i .i64) (Ni a) (U3 a)) (Yd 28 (AL.can Nk a))=WO a.1.1 a.1.2 a.2.1 a.2.2:=by kernel_rfl
abbrev Pw:Prop:=XOk Tryz.prog 79 Yo
theorem Pp (h:∀ (hk:Int) (cs:List (Int×Int×Bool)) (cl:List Int) (fa:Int),(Q7 hk cs=0∧cl.length≤60∧(∀ r∈cl,-1≤r∧r<2 ^ hk.toNat)∧0≤fa∧fa≤6)→WO hk cs cl fa):XOk Tryz.prog 79 Yo :=
 Q01 Q5c mixed W_ rfl (C:=Mk) ⟨(.cons Q_ (.cons JL (.cons Z6 (.cons Wc (.cons Zg .nil))))),(XsOk.cons Ng (XsOk.cons WN (XsOk.cons Vq XsOk.nil))),ItsOk.nil,YlOk.nil,IysOk.nil,XfOk.nil⟩ (L:=fun (a:(Int×List (Int×Int×Bool))×List Int×Int)=>Ml a.1.1 a.1.2 a.2.1 a.2.2) (V:=fun (a:(Int×List (Int×Int×Bool))×List Int×Int)=>WO a.1.1 a.1.2 a.2.1 a.2.2) Tj fun a hp=>h a.1.1 a.1.2 a.2.1 a.2.2 hp
theorem Nf:Pw:=Pp fun hk cs cl fa h=>by
 obtain⟨h1,h2,h3,h4,h5⟩:=h;obtain⟨hf,cy,aA,ah⟩:=UY h1;unfold WO;(try delta lI gD sT I64 Kq pj8 pj4);have c1:(!inI hk 1 24)=false:=by simp only[inI,Bool.not_eq_false',Bool.and_eq_true,decide_eq_true_eq];omega
 have c2:(!(!cs.isEmpty&&!(cs.any fun c=>!QM hk c)))=false:=by
  have e1:cs.isEmpty=false:=by cases cs with|nil=>exact(aA rfl).elim|cons _ _=>rfl
  have e2:(cs.any fun c=>!QM hk c)=false:=List.any_eq_false.2 fun c hc=>by rw[ah c hc];decide
  rw[e1,e2];rfl
 have c3:(cl.any fun x=>(decide (x≠-1)&&!inI x 0 (2 ^ hk.toNat-1)))=false:=List.any_eq_false.2 fun x hx=>by
  have:=h3 x hx;by_cases e:x=-1
  ·simp[e]
  ·have e2:inI x 0 (2 ^ hk.toNat-1)=true:=by
    simp only[inI,Bool.and_eq_true,decide_eq_true_eq];omega
   rw[e2];simp
 have c4:(!(!([fa].any fun n=>decide (n<(0:Int))||decide ((6:Int)<n))))=false:=by simp only[List.any_cons,List.any_nil,Bool.or_false,Bool.not_not,Bool.or_eq_false_iff,decide_eq_false_iff_not];omega
 have d1:decide ((((List.length cs):Nat):Int) > (60:Int))=false:=decide_eq_false (by omega);have d2:decide ((((List.length cl):Nat):Int) > (60:Int))=false:=decide_eq_false (by omega);intro w1 w2;rw[c1,c2,c3,c4,d1,d2];refine⟨trivial,(fun c=>by cases c),fun _=>⟨(fun c=>by cases c),fun _=>⟨⟨hf.1,hf.2,by omega⟩,(fun c=>by cases c),fun _=>⟨rfl,(fun c=>by simp at c),fun _=>⟨(fun c=>by cases c),fun _=>⟨⟨by omega,fun _ _=>hf⟩,(fun c=>by cases c),fun _=>⟨rfl,(fun c=>by simp at c),fun _=>⟨by simp,(fun c=>by cases c),fun _=>⟨⟨rfl,h1,h2,h3,h4,h5⟩,fun m hm=>⟨(by and_intros<;>first|rfl|trivial|simp),hm⟩⟩⟩⟩⟩⟩⟩⟩⟩⟩
def Gm:AL ((Int×List (Int×Int×Bool))×List Int×Int):=(.cons (.agg (.cons (.k (.i .i64)) (.one (.k (.list (.pair (.i .i64) (.pair (.i .i64) .bo))))))) (.cons (.k (.list (.i .i64))) (.one (.k (.i .i64)))))
def Pr (d:(Int×List (Int×Int×Bool))×List Int×Int):Prop:=Q7 d.1.1 d.1.2=0∧d.2.1.length≤60∧(∀ r∈d.2.1,-1≤r∧r<2 ^ d.1.1.toNat)∧0≤d.2.2∧d.2.2≤6
def Mj (d:(Int×List (Int×Int×Bool))×List Int×Int):SV:=.tup [.val (.i .i64) (Cw d.1.1 d.1.2 d.2.1 d.2.2),.val (.i .i64) (0:Int)]
def Mo (d:(Int×List (Int×Int×Bool))×List Int×Int):List OB:=[]
def NB:CSp:=YP Gm Pr Mj Mo
def Yn (hk:Int) (cs:List (Int×Int×Bool)) (cl:List Int) (fa:Int):Prop :=
 (Q7 hk cs=0∧cl.length≤60∧(∀ r∈cl,-1≤r∧r<2 ^ hk.toNat)∧0≤fa∧fa≤6)∧(∀ m1:List ((Int×Int)×Int),(MapW cs.length fa.toNat m1 (wyK cs.length fa.toNat (fun k=>wvB hk cs cl k) cl.length))→∃ (e4:(List ((Int×Int)×Int))) (d40:Int×(List Nat)),(((0:Int)=d40.1∧(0:Int)=(0:Int)∧True∧True)∧((m1=e4∧([]:List Nat)=d40.2)∧True)) ∧
 LoopP (fun (d4:Int×(List Nat)) (q4:(Int×(List Nat))→Prop) =>
  ((∀ r:Nat,r<(List.length e4)→r∈d4.2) →
   (false=true →
    (d4.2≠[])∧(I64 (d4.1+(List.getD e4 (List.getLastD d4.2 0) ((0,0),0)).2))∧(∃ d6:Int×(List Nat),(((d4.1+(List.getD e4 (List.getLastD d4.2 0) ((0,0),0)).2)=d6.1∧(0:Int)=(0:Int)∧True∧True)∧((e4=e4∧d4.2=d6.2)∧True))∧q4 d6)) ∧
   (false=false →
    ((d4.1=(Cw hk cs cl fa)∧(0:Int)=(0:Int)∧(([]:List SV)=[]))∧(True)))) ∧
  (∀ r5:Nat,r5<(List.length e4)→r5∉d4.2 →
   (true=true →
    ((d4.2++[r5])≠[])∧(I64 (d4.1+(List.getD e4 (List.getLastD (d4.2++[r5]) 0) ((0,0),0)).2))∧(∃ d7:Int×(List Nat),(((d4.1+(List.getD e4 (List.getLastD (d4.2++[r5]) 0) ((0,0),0)).2)=d7.1∧(0:Int)=(0:Int)∧True∧True)∧((e4=e4∧(d4.2++[r5])=d7.2)∧True))∧q4 d7)) ∧
   (true=false →
    ((d4.1=(Cw hk cs cl fa)∧(0:Int)=(0:Int)∧(([]:List SV)=[]))∧(True))))) d40)
def D7:Cx:=⟨[],[],29,[],0,[(79,Yo)],[],[],[],false,[],[],[],[]⟩
def Ss (hk:Int) (cs:List (Int×Int×Bool)) (cl:List Int) (fa:Int):List (Nat×LoopAnn):=[(0,⟨(List ((Int×Int)×Int)),Int×(List Nat),[6,7,19],fun e x=>[.val (.i .i64) x.1,.val (.i .i64) (0:Int),.box 19 0],fun e x=>[(19,.slot 19,.iter (.pair (.i .i64) (.i .i64)) (.i .i64) e x.2)]⟩)]
theorem RM (d:(Int×List (Int×Int×Bool))×List Int×Int):gwp (D7) (Ss d.1.1 d.1.2 d.2.1 d.2.2) c27 0 (Kl [.tmp 6,.tmp 7] (Mj d) (Mo d)) (QC 29 (AL.can Gm d))=Yn d.1.1 d.1.2 d.2.1 d.2.2:=by kernel_rfl
abbrev RT:Prop:=OkC Tryz.prog 27 NB
theorem RR (h:∀ (hk:Int) (cs:List (Int×Int×Bool)) (cl:List Int) (fa:Int),(Q7 hk cs=0∧cl.length≤60∧(∀ r∈cl,-1≤r∧r<2 ^ hk.toNat)∧0≤fa∧fa≤6)→Yn hk cs cl fa):OkC Tryz.prog 27 NB :=
 QP Q4c mixed (C:=D7) (V:=fun (d:(Int×List (Int×Int×Bool))×List Int×Int)=>Yn d.1.1 d.1.2 d.2.1 d.2.2) ⟨.nil,(XsOk.cons Nf XsOk.nil),ItsOk.nil,YlOk.nil,IysOk.nil,XfOk.nil⟩ (RM) fun d hp=>h d.1.1 d.1.2 d.2.1 d.2.2 hp
theorem RD:RT:=RR fun hk cs cl fa h=>by
 obtain⟨h1,h2,h3,h4,h5⟩:=id h;obtain⟨hf,cy,aA,ah⟩:=UY h1;have bA:=List.length_pos_iff.2 aA;unfold Yn;(try delta lI gD sT I64 Kq pj8 pj4);refine⟨h,fun m hm=>⟨m,(0,[]),(by and_intros<;>first|rfl|trivial),?_⟩⟩;refine LoopP.rng m.length (fun s dn=>s=(dn.map fun r=>(m.getD r ((0,0),0)).2).sum) rfl ?_;intro s dn hn ai hs q hq;dsimp only;have hp:∀ x∈m,0≤(fun x:(Int×Int)×Int=>x.2) x:=fun x hx=>Int.le_of_lt (hm.2.1 x hx).2.1;have qk:=Hw hm (fun _ w=>w) fun _=>rfl;have hb:=Q7x (n:=cs.length) (mo:=fa.toNat) (fun k=>wvB hk cs cl k) bA (by omega) (by omega) (k:=cl.length) (by omega);have hV:(m.map fun x=>x.2).sum=Cw hk cs cl fa:=qk;have ug:Cw hk cs cl fa≤420*3138428376721:=hb;have dT:=fun (dn:List Nat) (hn:dn.Nodup) (ai:∀ r∈dn,r<m.length)=>AE (d:=(((0,0),0):(Int×Int)×Int)) (F:=fun x=>x.2) hn ai hp;refine⟨fun ae=>⟨(fun c=>by cases c),fun _=>⟨⟨?_,rfl,rfl⟩,trivial⟩⟩,fun r hr fy=>⟨fun _=>?_,(fun c=>by cases c)⟩⟩
 ·rw[hs,←hV];exact(dT dn hn ai).2 ae
 ·have dQ:List.getLastD (dn++[r]) 0=r:=by simp
  have aZ:s+(m.getD r ((0,0),0)).2=((dn++[r]).map fun r=>(m.getD r ((0,0),0)).2).sum:=by rw[hs,RF];simp
  simp only[dQ];have aL:=fun y (hy:y∈dn++[r])=>show y<m.length from (List.mem_append.1 hy).elim (ai y) fun h=>by rw[List.mem_singleton] at h;omega
  have hle:=(dT (dn++[r]) (Dx hn fy) aL).1;have bI:0≤((dn++[r]).map fun r=>(m.getD r ((0,0),0)).2).sum:=V4 fun y hy=>by have:=aL y hy;rw[Qk this];exact hp _ (List.getElem_mem this)
  refine⟨by simp,?_,(s+(m.getD r ((0,0),0)).2,dn++[r]),(by and_intros<;>first|rfl|trivial),hq r _ hr fy aZ⟩;simp only[Qx];rw[aZ];omega
def Z43 (a b:Int):Int:=if a<b then -1 else if b<a then 1 else 0
def Q04:XSp:=fun _ _ _ _=>False
theorem S4 {P:Program}{f:Nat}:XOk P f Q04:=fun _ _ _ _ _ _ _ _ _ _ _ _ _ _ hx _=>hx.elim
def len8T:List UInt8:=[0,1,2,2,3,3,3,3,4,4,4,4,4,4,4,4,5,5,5,5,5,5,5,5,5,5,5,5,5,5,5,5,6,6,6,6,6,6,6,6,6,6,6,6,6,6,6,6,6,6,6,6,6,6,6,6,6,6,6,6,6,6,6,6,7,7,7,7,7,7,7,7,7,7,7,7,7,7,7,7,7,7,7,7,7,7,7,7,7,7,7,7,7,7,7,7,7,7,7,7,7,7,7,7,7,7,7,7,7,7,7,7,7,7,7,7,7,7,7,7,7,7,7,7,7,7,7,7,8,8,8,8,8,8,8,8,8,8,8,8,8,8,8,8,8,8,8,8,8,8,8,8,8,8,8,8,8,8,8,8,8,8,8,8,8,8,8,8,8,8,8,8,8,8,8,8,8,8,8,8,8,8,8,8,8,8,8,8,8,8,8,8,8,8,8,8,8,8,8,8,8,8,8,8,8,8,8,8,8,8,8,8,8,8,8,8,8,8,8,8,8,8,8,8,8,8,8,8,8,8,8,8,8,8,8,8,8,8,8,8,8,8,8,8,8,8,8,8,8,8,8,8,8,8,8,8]
def T_ (x:Int):Int:=((UInt8.toNat (List.getD len8T (Int.toNat x) 0):Nat):Int)
def W4 (p:Int×Int):Int:=Z43 p.1 p.2
def L_ {α:Type}[Inhabited α] (lt:α→α→Bool) (a:Nat):Nat→List α→List α
 |0,xs=>xs
 |j+1,xs=>if a<j+1∧lt (xs.getD (j+1) default) (xs.getD j default)=true then L_ lt a j ((xs.set (j+1) (xs.getD j default)).set j (xs.getD (j+1) default)) else xs
def Om {α:Type}[Inhabited α] (lt:α→α→Bool) (a:Nat):Nat→List α→List α
 |0,xs=>xs
 |n+1,xs=>L_ lt a (a+1+n) (Om lt a n xs)
def Pf {α:Type}[Inhabited α] (f:α×α→Int) (xs:List α) (a b:Nat):List α:=Om (fun x y=>decide (f (x,y)<0)) a (b-a-1) xs
section
variable {α:Type}[Inhabited α] {lt:α→α→Bool}
theorem Lv {xs:List α}{j:Nat}(h:j+1<xs.length):((xs.set (j+1) (xs.getD j default)).set j (xs.getD (j+1) default)).Perm xs:=by rw[Qk (show j<xs.length by omega),Qk h];exact List.set_set_perm h (by omega)
theorem L6 {a:Nat}:∀ j {xs:List α},j<xs.length→(L_ lt a j xs).Perm xs
 |0,_,_=>.refl _
 |j+1,xs,h=>by
  unfold L_;split
  ·exact(L6 j (by simp;omega)).trans (Lv h)
  ·exact .refl _
theorem GC {a:Nat}{xs:List α}:∀ n,a+n<xs.length∨n=0→(Om lt a n xs).Perm xs
 |0,_=>.refl _
 |n+1,h=>by have ih:=GC (a:=a) (xs:=xs) n (by omega);unfold Om;exact(L6 _ (by rw[ih.length_eq];omega)).trans ih
theorem Gw {f:α×α→Int}{xs:List α}{a b:Nat}(h:b≤xs.length):(Pf f xs a b).Perm xs:=GC _ (by omega)
theorem I2 {a j:Nat}{xs:List α}(hj:a<j) (h:lt (xs.getD j default) (xs.getD (j-1) default)=true):L_ lt a j xs=L_ lt a (j-1) ((xs.set j (xs.getD (j-1) default)).set (j-1) (xs.getD j default)):=by obtain⟨k,rfl⟩:∃ k,j=k+1:=⟨j-1,by omega⟩;rw[Nat.add_sub_cancel] at h ⊢;rw[L_,if_pos ⟨hj,h⟩]
theorem F9 {a j:Nat}{xs:List α}(h:¬ (a<j∧lt (xs.getD j default) (xs.getD (j-1) default)=true)):L_ lt a j xs=xs:=by
 cases j with
 |zero=>rfl
 |succ k=>rw[Nat.add_sub_cancel] at h;rw[L_,if_neg h]
theorem A9 {xs:List α}{j q:Nat}(h:j+1<xs.length):((xs.set (j+1) (xs.getD j default)).set j (xs.getD (j+1) default)).getD q default=if q=j then xs.getD (j+1) default else if q=j+1 then xs.getD j default else xs.getD q default:=by
 simp only[List.getD_eq_getElem?_getD,List.getElem?_set,List.length_set];by_cases h1:j=q
 ·subst h1;rw[if_pos rfl,if_pos (by omega),if_pos rfl];rfl
 ·rw[if_neg h1,if_neg (show ¬ q=j from fun e=>h1 e.symm)];by_cases h2:j+1=q
  ·subst h2;rw[if_pos rfl,if_pos h,if_pos rfl];rfl
  ·rw[if_neg h2,if_neg (show ¬ q=j+1 from fun e=>h2 e.symm)]
def Q1k (lt:α→α→Bool) (i:Nat) (xs:List α):Prop:=∀ p q,p<q→q≤i→lt (xs.getD q default) (xs.getD p default)=false
theorem Lk (has:∀ x y,lt x y=true→lt y x=false) (lF:∀ x y z,lt y x=false→lt z y=false→lt z x=false) {i:Nat}:∀ j {xs:List α},j≤i→i<xs.length→(∀ p q,p<q→q≤i→q≠j→lt (xs.getD q default) (xs.getD p default)=false)→Q1k lt i (L_ lt 0 j xs)
 |0,xs,_,_,h=>fun p q h1 h2=>by rw[L_];exact h p q h1 h2 (by omega)
 |j+1,xs,hj,hi,h=>by
  rw[L_];split
  ·rename_i hc;refine Lk has lF j (by omega) (by simp;exact hi) fun p q h1 h2 h3=>?_;rw[A9 (by omega),A9 (by omega),if_neg h3];by_cases hq:q=j+1
   ·rw[if_pos hq];by_cases hp:p=j
    ·rw[if_pos hp];exact has _ _ hc.2
    ·rw[if_neg hp,if_neg (by omega)];exact h p j (by omega) (by omega) (by omega)
   ·rw[if_neg hq];by_cases hp:p=j
    ·rw[if_pos hp];exact h (j+1) q (by omega) h2 (by omega)
    ·rw[if_neg hp];by_cases de:p=j+1
     ·rw[if_pos de];exact h j q (by omega) h2 (by omega)
     ·rw[if_neg de];exact h p q h1 h2 (by omega)
  ·rename_i hc;have hc:lt (xs.getD (j+1) default) (xs.getD j default)=false:=by
    cases h5:lt (xs.getD (j+1) default) (xs.getD j default) with
    |false=>rfl
    |true=>exact(hc ⟨by omega,h5⟩).elim
   intro p q h1 h2;by_cases hq:q=j+1
   ·subst hq;by_cases hp:p=j
    ·subst hp;exact hc
    ·exact lF _ _ _ (h p j (by omega) (by omega) (by omega)) hc
   ·exact h p q h1 h2 hq
theorem L4 (has:∀ x y,lt x y=true→lt y x=false) (lF:∀ x y z,lt y x=false→lt z y=false→lt z x=false) {xs:List α}:∀ n,n<xs.length→Q1k lt n (Om lt 0 n xs)
 |0,_=>fun p q h1 h2=>by omega
 |n+1,h=>by have ih:=L4 has lF (xs:=xs) n (by omega);have hp:=GC (lt:=lt) (a:=0) (xs:=xs) n (by omega);unfold Om;rw[show 0+1+n=n+1 by omega];exact Lk has lF (n+1) (Nat.le_refl _) (by rw[hp.length_eq];omega) fun p q h1 h2 h3=>ih p q h1 (by omega)
theorem Iq {f:α×α→Int}(has:∀ x y,f (x,y)<0→¬ f (y,x)<0) (lF:∀ x y z,¬ f (y,x)<0→¬ f (z,y)<0→¬ f (z,x)<0) (xs:List α):(Pf f xs 0 xs.length).Pairwise fun x y=>¬ f (y,x)<0:=by
 cases hx:xs with
 |nil=>exact List.Pairwise.nil
 |cons x0 t =>
  have hlen:0<xs.length:=by rw[hx];simp
  rw[←hx];have h:=L4 (lt:=fun x y=>decide (f (x,y)<0)) (fun x y h=>by simpa using has x y (by simpa using h)) (fun x y z h1 h2=>by simpa using lF x y z (by simpa using h1) (by simpa using h2)) (xs:=xs) (xs.length-0-1) (by omega);have hl:=(Gw (f:=f) (a:=0) (Nat.le_refl xs.length)).length_eq;refine List.pairwise_iff_getElem.2 fun p q hp hq tH=>?_;have:=h p q tH (by omega);have cw:(Om (fun x y=>decide (f (x,y)<0)) 0 (xs.length-0-1) xs).getD q default=(Pf f xs 0 xs.length)[q]:=Qk hq;have bg:(Om (fun x y=>decide (f (x,y)<0)) 0 (xs.length-0-1) xs).getD p default=(Pf f xs 0 xs.length)[p]:=Qk hp;rw[cw,bg] at this;simpa using this
end
theorem Gk {x y:Int}:W4 (x,y)<0↔x<y:=by unfold W4 Z43;dsimp only;split<;>(try split)<;>omega
theorem Z24 (xs:List Int):(Pf W4 xs 0 xs.length).Pairwise (·≤·) :=
 (Iq (f:=W4) (fun x y h h2=>by rw[Gk] at h h2;omega) (fun x y z h1 h2 h3=>by rw[Gk] at h1 h2 h3;omega) xs).imp fun h=>by rw[Gk] at h;omega
theorem Z1b {xs:List Int}(h:xs.Nodup):(Pf W4 xs 0 xs.length).Pairwise (·<·):=by
 have h2:=(Gw (f:=W4) (a:=0) (Nat.le_refl xs.length)).nodup_iff.2 h;exact((Z24 xs).and h2).imp fun h=>by have:=h.1;have:=h.2;omega
theorem Q4d {a j:Nat}{α:Type}[Inhabited α] {f:α×α→Int}{ys T:List α}(e:L_ (fun x y=>decide (f (x,y)<0)) a j ys=T) (h:¬ (a<j∧f (ys.getD j default,ys.getD (j-1) default)<0)):ys=T:=by rw[←e,F9];intro hh;exact h ⟨hh.1,by simpa using hh.2⟩
theorem Q11 {a j:Nat}{α:Type}[Inhabited α] {f:α×α→Int}{ys T:List α}(e:L_ (fun x y=>decide (f (x,y)<0)) a j ys=T) (hj:a<j) (h:f (ys.getD j default,ys.getD (j-1) default)<0):L_ (fun x y=>decide (f (x,y)<0)) a (j-1) ((ys.set j (ys.getD (j-1) default)).set (j-1) (ys.getD j default))=T:=by rw[←e,I2 hj (by simpa using h)]
theorem Eh {α:Type}[Inhabited α] {xs:List α}{j:Nat}(h0:0<j) (h:j<xs.length):((xs.set j (xs.getD (j-1) default)).set (j-1) (xs.getD j default)).Perm xs:=by obtain⟨k,rfl⟩:∃ k,j=k+1:=⟨j-1,by omega⟩;exact Lv h
def U1:AL (Int):=(.one (.k (.i .i64)))
def DI (d:Int):Prop:=True
def Vf (d:Int):SV:=.val .bo false
def V5 (d:Int):List OB:=[]
def Ki:CSp:=YP U1 DI Vf V5
def Xc (a:Int):Prop :=
 ((a != a)=false∧(True))
def VZ:Cx:=⟨[],[],6,[],0,[],[],[],[],false,[],[],[],[]⟩
def BA (a:Int):List (Nat×LoopAnn):=[]
theorem Bw (d:Int):gwp (VZ) (BA d) Z0s 0 (Kl [.tmp 2] (Vf d) (V5 d)) (QC 6 (AL.can U1 d))=Xc d:=by kernel_rfl
abbrev Bp:Prop:=OkC Tryz.prog 111 Ki
theorem Bq (h:∀ (a:Int),(True)→Xc a):OkC Tryz.prog 111 Ki :=
 QP IX mixed (C:=VZ) (V:=fun (d:Int)=>Xc d) ⟨.nil,XsOk.nil,ItsOk.nil,YlOk.nil,IysOk.nil,XfOk.nil⟩ (Bw) fun d hp=>h d hp
theorem Bx:Bp:=Bq fun a _=>by unfold Xc;(try delta lI gD sT I64 Kq pj8 pj4);simp
def KE:AL (Int):=(.one (.k (.i .u32)))
def MW (d:Int):Prop:=False
def K7 (d:Int):SV:=.val (.i .i64) (T_ d)
def Kb (d:Int):List OB:=[]
def Wu:CSp:=YP KE MW K7 Kb
def XJ (x:Int):Prop :=
 ((decide (x≥(65536:Int)))=true →
  (0≤(16:Int))∧((decide ((Qp .u32 x (16:Int))≥(256:Int)))=true →
   (0≤(8:Int))∧(I64 ((16:Int)+(8:Int)))∧(InK .u8 (Qp .u32 (Qp .u32 x (16:Int)) (8:Int)))∧(0≤(Qp .u32 (Qp .u32 x (16:Int)) (8:Int)))∧((Qp .u32 (Qp .u32 x (16:Int)) (8:Int))<(List.length len8T))∧(I64 ((UInt8.toNat (gD len8T (Qp .u32 (Qp .u32 x (16:Int)) (8:Int)) 0):Nat):Int))∧(I64 (((16:Int)+(8:Int))+((UInt8.toNat (gD len8T (Qp .u32 (Qp .u32 x (16:Int)) (8:Int)) 0):Nat):Int)))∧((((16:Int)+(8:Int))+((UInt8.toNat (gD len8T (Qp .u32 (Qp .u32 x (16:Int)) (8:Int)) 0):Nat):Int))=(T_ x)∧(True))) ∧
  ((decide ((Qp .u32 x (16:Int))≥(256:Int)))=false →
   (InK .u8 (Qp .u32 x (16:Int)))∧(0≤(Qp .u32 x (16:Int)))∧((Qp .u32 x (16:Int))<(List.length len8T))∧(I64 ((UInt8.toNat (gD len8T (Qp .u32 x (16:Int)) 0):Nat):Int))∧(I64 ((16:Int)+((UInt8.toNat (gD len8T (Qp .u32 x (16:Int)) 0):Nat):Int)))∧(((16:Int)+((UInt8.toNat (gD len8T (Qp .u32 x (16:Int)) 0):Nat):Int))=(T_ x)∧(True)))) ∧
 ((decide (x≥(65536:Int)))=false →
  ((decide (x≥(256:Int)))=true →
   (0≤(8:Int))∧(I64 ((0:Int)+(8:Int)))∧(InK .u8 (Qp .u32 x (8:Int)))∧(0≤(Qp .u32 x (8:Int)))∧((Qp .u32 x (8:Int))<(List.length len8T))∧(I64 ((UInt8.toNat (gD len8T (Qp .u32 x (8:Int)) 0):Nat):Int))∧(I64 (((0:Int)+(8:Int))+((UInt8.toNat (gD len8T (Qp .u32 x (8:Int)) 0):Nat):Int)))∧((((0:Int)+(8:Int))+((UInt8.toNat (gD len8T (Qp .u32 x (8:Int)) 0):Nat):Int))=(T_ x)∧(True))) ∧
  ((decide (x≥(256:Int)))=false →
   (InK .u8 x)∧(0≤x)∧(x<(List.length len8T))∧(I64 ((UInt8.toNat (gD len8T x 0):Nat):Int))∧(I64 ((0:Int)+((UInt8.toNat (gD len8T x 0):Nat):Int)))∧(((0:Int)+((UInt8.toNat (gD len8T x 0):Nat):Int))=(T_ x)∧(True))))
def Kz:Cx:=⟨[],[],19,[],0,[],[],[],[],false,[],[],[],[]⟩
def D5 (x:Int):List (Nat×LoopAnn):=[]
theorem Gl (d:Int):gwp (Kz) (D5 d) Q9x 0 (Kl [.tmp 2] (K7 d) (Kb d)) (QC 19 (AL.can KE d))=XJ d:=by kernel_rfl
abbrev Db:Prop:=OkC Tryz.prog 163 Wu
theorem GU (h:∀ (x:Int),(False)→XJ x):OkC Tryz.prog 163 Wu :=
 QP I3 mixed (C:=Kz) (V:=fun (d:Int)=>XJ d) ⟨.nil,XsOk.nil,ItsOk.nil,YlOk.nil,IysOk.nil,XfOk.nil⟩ (Gl) fun d hp=>h d hp
theorem GI:Db:=GU fun x h=>h.elim
def KD:AL (Int):=(.one (.k (.i .u64)))
def MY (d:Int):Prop:=0≤d∧d≤255
def YT (d:Int):SV:=.val (.i .i64) (T_ d)
def YV (d:Int):List OB:=[]
def Wz:CSp:=YP KD MY YT YV
def Jw (x:Int):Prop :=
 ((decide (x≥(4294967296:Int)))=true →
  (0≤(32:Int))∧((decide ((Qp .u64 x (32:Int))≥(65536:Int)))=true →
   (0≤(16:Int))∧(I64 ((32:Int)+(16:Int)))∧((decide ((Qp .u64 (Qp .u64 x (32:Int)) (16:Int))≥(256:Int)))=true →
    (0≤(8:Int))∧(I64 (((32:Int)+(16:Int))+(8:Int)))∧(InK .u8 (Qp .u64 (Qp .u64 (Qp .u64 x (32:Int)) (16:Int)) (8:Int)))∧(0≤(Qp .u64 (Qp .u64 (Qp .u64 x (32:Int)) (16:Int)) (8:Int)))∧((Qp .u64 (Qp .u64 (Qp .u64 x (32:Int)) (16:Int)) (8:Int))<(List.length len8T))∧(I64 ((UInt8.toNat (gD len8T (Qp .u64 (Qp .u64 (Qp .u64 x (32:Int)) (16:Int)) (8:Int)) 0):Nat):Int))∧(I64 ((((32:Int)+(16:Int))+(8:Int))+((UInt8.toNat (gD len8T (Qp .u64 (Qp .u64 (Qp .u64 x (32:Int)) (16:Int)) (8:Int)) 0):Nat):Int)))∧(((((32:Int)+(16:Int))+(8:Int))+((UInt8.toNat (gD len8T (Qp .u64 (Qp .u64 (Qp .u64 x (32:Int)) (16:Int)) (8:Int)) 0):Nat):Int))=(T_ x)∧(True))) ∧
   ((decide ((Qp .u64 (Qp .u64 x (32:Int)) (16:Int))≥(256:Int)))=false →
    (InK .u8 (Qp .u64 (Qp .u64 x (32:Int)) (16:Int)))∧(0≤(Qp .u64 (Qp .u64 x (32:Int)) (16:Int)))∧((Qp .u64 (Qp .u64 x (32:Int)) (16:Int))<(List.length len8T))∧(I64 ((UInt8.toNat (gD len8T (Qp .u64 (Qp .u64 x (32:Int)) (16:Int)) 0):Nat):Int))∧(I64 (((32:Int)+(16:Int))+((UInt8.toNat (gD len8T (Qp .u64 (Qp .u64 x (32:Int)) (16:Int)) 0):Nat):Int)))∧((((32:Int)+(16:Int))+((UInt8.toNat (gD len8T (Qp .u64 (Qp .u64 x (32:Int)) (16:Int)) 0):Nat):Int))=(T_ x)∧(True)))) ∧
  ((decide ((Qp .u64 x (32:Int))≥(65536:Int)))=false →
   ((decide ((Qp .u64 x (32:Int))≥(256:Int)))=true →
    (0≤(8:Int))∧(I64 ((32:Int)+(8:Int)))∧(InK .u8 (Qp .u64 (Qp .u64 x (32:Int)) (8:Int)))∧(0≤(Qp .u64 (Qp .u64 x (32:Int)) (8:Int)))∧((Qp .u64 (Qp .u64 x (32:Int)) (8:Int))<(List.length len8T))∧(I64 ((UInt8.toNat (gD len8T (Qp .u64 (Qp .u64 x (32:Int)) (8:Int)) 0):Nat):Int))∧(I64 (((32:Int)+(8:Int))+((UInt8.toNat (gD len8T (Qp .u64 (Qp .u64 x (32:Int)) (8:Int)) 0):Nat):Int)))∧((((32:Int)+(8:Int))+((UInt8.toNat (gD len8T (Qp .u64 (Qp .u64 x (32:Int)) (8:Int)) 0):Nat):Int))=(T_ x)∧(True))) ∧
   ((decide ((Qp .u64 x (32:Int))≥(256:Int)))=false →
    (InK .u8 (Qp .u64 x (32:Int)))∧(0≤(Qp .u64 x (32:Int)))∧((Qp .u64 x (32:Int))<(List.length len8T))∧(I64 ((UInt8.toNat (gD len8T (Qp .u64 x (32:Int)) 0):Nat):Int))∧(I64 ((32:Int)+((UInt8.toNat (gD len8T (Qp .u64 x (32:Int)) 0):Nat):Int)))∧(((32:Int)+((UInt8.toNat (gD len8T (Qp .u64 x (32:Int)) 0):Nat):Int))=(T_ x)∧(True))))) ∧
 ((decide (x≥(4294967296:Int)))=false →
  ((decide (x≥(65536:Int)))=true →
   (0≤(16:Int))∧(I64 ((0:Int)+(16:Int)))∧((decide ((Qp .u64 x (16:Int))≥(256:Int)))=true →
    (0≤(8:Int))∧(I64 (((0:Int)+(16:Int))+(8:Int)))∧(InK .u8 (Qp .u64 (Qp .u64 x (16:Int)) (8:Int)))∧(0≤(Qp .u64 (Qp .u64 x (16:Int)) (8:Int)))∧((Qp .u64 (Qp .u64 x (16:Int)) (8:Int))<(List.length len8T))∧(I64 ((UInt8.toNat (gD len8T (Qp .u64 (Qp .u64 x (16:Int)) (8:Int)) 0):Nat):Int))∧(I64 ((((0:Int)+(16:Int))+(8:Int))+((UInt8.toNat (gD len8T (Qp .u64 (Qp .u64 x (16:Int)) (8:Int)) 0):Nat):Int)))∧(((((0:Int)+(16:Int))+(8:Int))+((UInt8.toNat (gD len8T (Qp .u64 (Qp .u64 x (16:Int)) (8:Int)) 0):Nat):Int))=(T_ x)∧(True))) ∧
   ((decide ((Qp .u64 x (16:Int))≥(256:Int)))=false →
    (InK .u8 (Qp .u64 x (16:Int)))∧(0≤(Qp .u64 x (16:Int)))∧((Qp .u64 x (16:Int))<(List.length len8T))∧(I64 ((UInt8.toNat (gD len8T (Qp .u64 x (16:Int)) 0):Nat):Int))∧(I64 (((0:Int)+(16:Int))+((UInt8.toNat (gD len8T (Qp .u64 x (16:Int)) 0):Nat):Int)))∧((((0:Int)+(16:Int))+((UInt8.toNat (gD len8T (Qp .u64 x (16:Int)) 0):Nat):Int))=(T_ x)∧(True)))) ∧
  ((decide (x≥(65536:Int)))=false →
   ((decide (x≥(256:Int)))=true →
    (0≤(8:Int))∧(I64 ((0:Int)+(8:Int)))∧(InK .u8 (Qp .u64 x (8:Int)))∧(0≤(Qp .u64 x (8:Int)))∧((Qp .u64 x (8:Int))<(List.length len8T))∧(I64 ((UInt8.toNat (gD len8T (Qp .u64 x (8:Int)) 0):Nat):Int))∧(I64 (((0:Int)+(8:Int))+((UInt8.toNat (gD len8T (Qp .u64 x (8:Int)) 0):Nat):Int)))∧((((0:Int)+(8:Int))+((UInt8.toNat (gD len8T (Qp .u64 x (8:Int)) 0):Nat):Int))=(T_ x)∧(True))) ∧
   ((decide (x≥(256:Int)))=false →
    (InK .u8 x)∧(0≤x)∧(x<(List.length len8T))∧(I64 ((UInt8.toNat (gD len8T x 0):Nat):Int))∧(I64 ((0:Int)+((UInt8.toNat (gD len8T x 0):Nat):Int)))∧(((0:Int)+((UInt8.toNat (gD len8T x 0):Nat):Int))=(T_ x)∧(True)))))
def Kt:Cx:=⟨[],[],25,[],0,[],[],[],[],false,[],[],[],[]⟩
def GS (x:Int):List (Nat×LoopAnn):=[]
theorem Gf (d:Int):gwp (Kt) (GS d) Z09 0 (Kl [.tmp 2] (YT d) (YV d)) (QC 25 (AL.can KD d))=Jw d:=by kernel_rfl
abbrev D3:Prop:=OkC Tryz.prog 164 Wz
theorem GP (h:∀ (x:Int),(0≤x∧x≤255)→Jw x):OkC Tryz.prog 164 Wz :=
 QP Od mixed (C:=Kt) (V:=fun (d:Int)=>Jw d) ⟨.nil,XsOk.nil,ItsOk.nil,YlOk.nil,IysOk.nil,XfOk.nil⟩ (Gf) fun d hp=>h d hp
theorem Gu:D3:=GP fun x h=>by
 obtain⟨h1,h2⟩:=h;unfold Jw;(try delta lI gD sT I64 Kq pj8 pj4);have ai:(UInt8.toNat (List.getD len8T (Int.toNat x) 0):Int)≤255:=by have:=(List.getD len8T (Int.toNat x) 0).toNat_lt;omega
 refine⟨fun c=>by simp at c;omega,fun _=>⟨fun c=>by simp at c;omega,fun _=>⟨fun c=>by simp at c;omega,fun _=>?_⟩⟩⟩;have hl:len8T.length=256:=by decide +kernel
 rw[hl];simp only[Q95,Qx];refine⟨by omega,h1,by omega,by omega,by omega,?_⟩;unfold T_;rw[Int.zero_add];exact(by and_intros<;>first|rfl|trivial|simp)
def U0:AL (Int):=(.one (.k (.i .u64)))
def DD (d:Int):Prop:=0≤d∧d≤255
def V1 (d:Int):SV:=.val (.i .i64) (T_ d)
def Vh (d:Int):List OB:=[]
def YJ:CSp:=YP U0 DD V1 Vh
def Xe (x:Int):Prop :=
 (false=true →
  (InK .u32 x)∧(False)∧((T_ x)=(T_ x)∧(True))) ∧
 (false=false →
  (0≤x∧x≤255)∧((T_ x)=(T_ x)∧(True)))
def U5:Cx:=⟨[],[(163,Wu),(164,Wz)],8,[],0,[],[],[],[],false,[],[],[],[]⟩
def Bv (x:Int):List (Nat×LoopAnn):=[]
theorem BD (d:Int):gwp (U5) (Bv d) Z0a 0 (Kl [.tmp 2] (V1 d) (Vh d)) (QC 8 (AL.can U0 d))=Xe d:=by kernel_rfl
abbrev BC:Prop:=OkC Tryz.prog 141 YJ
theorem Bm (h:∀ (x:Int),(0≤x∧x≤255)→Xe x):OkC Tryz.prog 141 YJ :=
 QP Iu mixed (C:=U5) (V:=fun (d:Int)=>Xe d) ⟨(.cons GI (.cons Gu .nil)),XsOk.nil,ItsOk.nil,YlOk.nil,IysOk.nil,XfOk.nil⟩ (BD) fun d hp=>h d hp
theorem BF:BC:=Bm fun x h=>by unfold Xe;(try delta lI gD sT I64 Kq pj8 pj4);exact⟨(fun c=>by cases c),fun _=>⟨h,(by and_intros<;>first|rfl|trivial|simp)⟩⟩
def Ny:AL (Int×Int):=(.cons (.k (.i .i64)) (.one (.k (.i .i64))))
def Bs (d:Int×Int):Prop:=True
def U8 (d:Int×Int):SV:=.val .bo (decide (d.1<d.2))
def U7 (d:Int×Int):List OB:=[]
def KR:CSp:=YP Ny Bs U8 U7
def XT (a:Int) (b:Int):Prop :=
 (True)∧(false=true→True)∧(((false&&(!false))||(decide (a<b)))=(decide (a<b))∧(True))
def Nx:Cx:=⟨[],[(111,Ki)],17,[],0,[],[],[],[],false,[],[],[],[]⟩
def H7 (a:Int) (b:Int):List (Nat×LoopAnn):=[]
theorem H4 (d:Int×Int):gwp (Nx) (H7 d.1 d.2) Z04 0 (Kl [.tmp 4] (U8 d) (U7 d)) (QC 17 (AL.can Ny d))=XT d.1 d.2:=by kernel_rfl
abbrev H5:Prop:=OkC Tryz.prog 173 KR
theorem BW (h:∀ (a:Int) (b:Int),(True)→XT a b):OkC Tryz.prog 173 KR :=
 QP IW mixed (C:=Nx) (V:=fun (d:Int×Int)=>XT d.1 d.2) ⟨(.cons Bx .nil),XsOk.nil,ItsOk.nil,YlOk.nil,IysOk.nil,XfOk.nil⟩ (H4) fun d hp=>h d.1 d.2 hp
theorem Hx:H5:=BW fun a b=>by unfold XT;(try delta lI gD sT I64 Kq pj8 pj4);simp
def ZH:AL (Int×Int):=(.cons (.k (.i .i64)) (.one (.k (.i .i64))))
def Xo (xs:List Int) (nl:Bool) (d:Int×Int):Prop:=0≤d.1∧d.1≤d.2∧d.2≤xs.length∧xs.length≤12
def Zo (xs:List Int) (nl:Bool) (d:Int×Int):SV:=.tup []
def Zh (xs:List Int) (nl:Bool) (d:Int×Int):List Int:=(Pf W4 xs d.1.toNat d.2.toNat)
def QU:XSp:=Ef Nb (O3 3 (.i .i64) ZH Xo Zo Zh)
def Qs (xs:List Int) (nl:Bool) (a:Int) (b:Int):Prop:=∀ vals:List Value,
 (I64 (a+(1:Int)))∧∃ (e2:Unit) (d20:(List Int)×Bool×Int),((True∧a=a∧b=b∧(a+(1:Int))=d20.2.2∧True)∧((xs=d20.1∧nl=d20.2.1)∧(vals=vals∧(True∧(([]:List SV)=[])))∧True)) ∧
 LoopP (fun (d2:(List Int)×Bool×Int) (q2:((List Int)×Bool×Int)→Prop) =>
  ((decide (d2.2.2<b))=true →
   ∃ (e5:Bool×Int) (d50:(List Int)×Int),((True∧a=a∧b=b∧d2.2.2=e5.2∧d2.2.2=d50.2∧True)∧((d2.1=d50.1∧d2.2.1=e5.1)∧(vals=vals∧(True∧(([]:List SV)=[])))∧True)) ∧
   LoopP (fun (d5:(List Int)×Int) (q5:((List Int)×Int)→Prop) =>
    ((decide (d5.2 > a))=true→0≤d5.2)∧((decide (d5.2 > a))=true→d5.2<(List.length d5.1))∧((decide (d5.2 > a))=true→InK .i64 (d5.2-(1:Int)))∧((decide (d5.2 > a))=true→0≤(d5.2-(1:Int)))∧((decide (d5.2 > a))=true→(d5.2-(1:Int))<(List.length d5.1))∧((decide (d5.2 > a))=true→True)∧(((decide (d5.2 > a))&&(decide ((gD d5.1 d5.2 0)<(gD d5.1 (d5.2-(1:Int)) 0))))=true →
     (I64 (d5.2-(1:Int)))∧(I64 (d5.2-(1:Int)))∧(0≤(d5.2-(1:Int)))∧((d5.2-(1:Int))<(List.length d5.1))∧(0≤d5.2)∧(d5.2<(List.length d5.1))∧(0≤d5.2)∧(d5.2<(List.length d5.1))∧(0≤(d5.2-(1:Int)))∧((d5.2-(1:Int))<(List.length (sT d5.1 d5.2 (gD d5.1 (d5.2-(1:Int)) 0))))∧(I64 (d5.2-(1:Int)))∧(∃ d6:(List Int)×Int,((True∧a=a∧b=b∧e5.2=e5.2∧(d5.2-(1:Int))=d6.2∧True)∧(((sT (sT d5.1 d5.2 (gD d5.1 (d5.2-(1:Int)) 0)) (d5.2-(1:Int)) (gD d5.1 d5.2 0))=d6.1∧e5.1=e5.1)∧(vals=vals∧(True∧(([]:List SV)=[])))∧True))∧q5 d6)) ∧
    (((decide (d5.2 > a))&&(decide ((gD d5.1 d5.2 0)<(gD d5.1 (d5.2-(1:Int)) 0))))=false →
     (I64 (e5.2+(1:Int)))∧(∃ d7:(List Int)×Bool×Int,((True∧a=a∧b=b∧(e5.2+(1:Int))=d7.2.2∧True)∧((d5.1=d7.1∧e5.1=d7.2.1)∧(vals=vals∧(True∧(([]:List SV)=[])))∧True))∧q2 d7))) d50) ∧
  ((decide (d2.2.2<b))=false →
   (vals=vals∧(True∧(([]:List SV)=[]))∧((([]:List SV)=[]))∧(d2.1=(Pf W4 xs a.toNat b.toNat)∧d2.2.1=nl)))) d20
def ZE:Cx:=⟨[],[(173,KR)],49,[],0,[],[],[],[],false,[],[],[],[]⟩
def ZG (xs:List Int) (nl:Bool) (a:Int) (b:Int) (vals:List Value):List (Nat×LoopAnn):=[(0,⟨Unit,(List Int)×Bool×Int,[0,1,2,6],fun e x=>[.lst 0,.val (.i .i64) a,.val (.i .i64) b,.val (.i .i64) x.2.2],fun e x=>[(0,.slot 0,.lst 3 (.i .i64) x.1 x.2.1),(4000000,.key 4000000,.stk [.lst 0] vals)]⟩),
 (2,⟨Bool×Int,(List Int)×Int,[0,1,2,6,7],fun e x=>[.lst 0,.val (.i .i64) a,.val (.i .i64) b,.val (.i .i64) e.2,.val (.i .i64) x.2],fun e x=>[(0,.slot 0,.lst 3 (.i .i64) x.1 e.1),(4000000,.key 4000000,.stk [.lst 0] vals)]⟩)]
theorem XE (xs:List Int) (nl:Bool) (d:Int×Int):(∀ vals,gwp ZE (ZG xs nl d.1 d.2 vals) Q9y 0 (Iv vals [] (Zo xs nl d) (.lst 3 (.i .i64) (Zh xs nl d) nl) (.lst 0)) (Ns 49 (.lst 0) (.lst 3 (.i .i64) xs nl) vals (AL.can ZH d)))=Qs xs nl d.1 d.2:=by kernel_rfl
abbrev XF:Prop:=XOk Tryz.prog 167 QU
theorem XH (h:∀ (xs:List Int) (nl:Bool) (a:Int) (b:Int),(0≤a∧a≤b∧b≤xs.length∧xs.length≤12)→Qs xs nl a b):XOk Tryz.prog 167 QU :=
 Sb Ir mixed W_ (C:=ZE) ⟨(.cons Hx .nil),XsOk.nil,ItsOk.nil,YlOk.nil,IysOk.nil,XfOk.nil⟩ (L:=fun xs nl (d:Int×Int) vals=>ZG xs nl d.1 d.2 vals) (V:=fun xs nl (d:Int×Int)=>Qs xs nl d.1 d.2) XE fun xs nl d hp=>h xs nl d.1 d.2 hp
theorem Xi:XF:=XH fun xs nl a b h=>by
 obtain⟨h1,h2,h3,h4⟩:=h;unfold Qs;(try delta lI gD sT I64 Kq pj8 pj4);intro vals;have hI:∀ e:Int,-1000≤e→e≤1000→InK .i64 e:=fun e _ _=>by simp only[Qx];omega
 obtain⟨a,rfl⟩:∃ n:Nat,a=n:=⟨a.toNat,by omega⟩;obtain⟨b,rfl⟩:∃ n:Nat,b=n:=⟨b.toNat,by omega⟩;simp only[Int.toNat_natCast];refine⟨hI _ (by omega) (by omega),(),(xs,nl,(a:Int)+1),(by and_intros<;>first|rfl|trivial|simp),?_⟩;refine⟨fun d=>∃ n:Nat,d.2.2=(a:Int)+1+n∧(n=0∨a+1+n≤b)∧nl=d.2.1∧d.1=Om (fun x y=>decide (W4 (x,y)<0)) a n xs,fun d=>(1000-d.2.2).toNat,⟨0,by simp,.inl rfl,rfl,rfl⟩,?_⟩;rintro⟨ys,jP,i⟩ ⟨n,e1,e2,e3,e4⟩;dsimp only at e1 e2 e3 e4 ⊢;subst e1 e3;refine⟨fun c=>?_,fun c=>?_⟩
 ·have c:a+1+n<b:=by simp at c;omega
  have hp:ys.Perm xs:=by rw[e4];exact GC _ (by omega)
  have hlen:=hp.length_eq;refine⟨(nl,(a:Int)+1+n),(ys,(a:Int)+1+n),(by and_intros<;>first|rfl|trivial|simp),?_⟩;dsimp only;refine⟨fun d=>∃ j:Nat,d.2=j∧j≤a+1+n∧d.1.Perm xs∧L_ (fun x y=>decide (W4 (x,y)<0)) a j d.1=Om (fun x y=>decide (W4 (x,y)<0)) a (n+1) xs,fun d=>d.2.toNat,⟨a+1+n,by simp,Nat.le_refl _,hp,by rw[e4];rfl⟩,?_⟩;rintro⟨zs,j'⟩ ⟨j,f1,f2,f3,f4⟩;dsimp only at f1 f3 f4 ⊢;subst f1;have uh:=f3.length_eq;have mY:((j:Int)-1).toNat=j-1:=by omega
  simp only[Int.toNat_natCast,mY];refine⟨fun g=>by omega,fun g=>by omega,fun g=>hI _ (by omega) (by omega),fun g=>by simp at g;omega,fun g=>by omega,fun _=>trivial,fun g=>?_,fun g=>?_⟩
  ·have g:a<j∧zs.getD j 0<zs.getD (j-1) 0:=by simpa using g
   refine⟨hI _ (by omega) (by omega),hI _ (by omega) (by omega),by omega,by omega,by omega,by omega,by omega,by omega,by omega,by rw[List.length_set];omega,hI _ (by omega) (by omega),((zs.set j (zs.getD (j-1) 0)).set (j-1) (zs.getD j 0),(j:Int)-1),(by and_intros<;>first|rfl|trivial|simp),⟨j-1,by omega,by omega,(Eh (by omega) (by omega)).trans f3,Q11 f4 g.1 (Gk.2 g.2)⟩,by dsimp only;omega⟩
  ·refine⟨hI _ (by omega) (by omega),(zs,nl,(a:Int)+1+n+1),(by and_intros<;>first|rfl|trivial|simp),⟨n+1,by simp;omega,by omega,rfl,Q4d f4 fun hh=>?_⟩,by dsimp only;omega⟩;have h7:zs.getD j 0<zs.getD (j-1) 0:=Gk.1 hh.2;have h8:a<j:=hh.1;rw[decide_eq_true (show (j:Int) > a by omega),decide_eq_true h7] at g;cases g
 ·have hn:n=b-a-1:=by simp at c;omega
  rw[e4,hn];exact(by and_intros<;>first|rfl|trivial|simp)
def Ju:AL (Int×Int×Int):=(.cons (.k (.i .i64)) (.cons (.k (.i .i64)) (.one (.k (.i .i64)))))
def Y7 (xs:List Int) (nl:Bool) (d:Int×Int×Int):Prop:=d.1=0∧d.2.1=xs.length∧xs.length≤12
def Jn (xs:List Int) (nl:Bool) (d:Int×Int×Int):SV:=.tup []
def Jd (xs:List Int) (nl:Bool) (d:Int×Int×Int):List Int:=(Pf W4 xs 0 xs.length)
def Zn:XSp:=Ef Nb (O3 3 (.i .i64) Ju Y7 Jn Jd)
def QR (xs:List Int) (nl:Bool) (a:Int) (b:Int) (li:Int):Prop:=∀ vals:List Value,
 ∃ (e3:Unit) (d30:Unit),((True∧a=a∧b=b∧li=li∧true=true∧true=true∧True)∧((xs=xs∧nl=nl)∧(vals=vals∧(True∧(([]:List SV)=[])))∧True)) ∧
 LoopP (fun (d3:Unit) (q3:(Unit)→Prop) =>
  (I64 (b-a))∧((decide ((b-a)≤(12:Int)))=true →
   (0≤a∧a≤b∧b≤xs.length∧xs.length≤12)∧(vals=vals∧(True∧(([]:List SV)=[]))∧((([]:List SV)=[]))∧((Pf W4 xs a.toNat b.toNat)=(Pf W4 xs 0 xs.length)∧nl=nl))) ∧
  ((decide ((b-a)≤(12:Int)))=false →
   ((li==(0:Int))=true →
    False) ∧
   ((li==(0:Int))=false →
    ((!true)=true →
     False) ∧
    ((!true)=false →
     False)))) d30
def Jv:Cx:=⟨[],[],134,[],0,[(167,QU),(168,Q04),(169,Q04),(170,Q04)],[],[],[],false,[],[],[],[]⟩
def JA (xs:List Int) (nl:Bool) (a:Int) (b:Int) (li:Int) (vals:List Value):List (Nat×LoopAnn):=[(0,⟨Unit,Unit,[0,1,2,3,8,9],fun e x=>[.lst 0,.val (.i .i64) a,.val (.i .i64) b,.val (.i .i64) li,.val .bo true,.val .bo true],fun e x=>[(0,.slot 0,.lst 3 (.i .i64) xs nl),(4000000,.key 4000000,.stk [.lst 0] vals)]⟩)]
theorem Yk (xs:List Int) (nl:Bool) (d:Int×Int×Int):(∀ vals,gwp Jv (JA xs nl d.1 d.2.1 d.2.2 vals) Q9s 0 (Iv vals [] (Jn xs nl d) (.lst 3 (.i .i64) (Jd xs nl d) nl) (.lst 0)) (Ns 134 (.lst 0) (.lst 3 (.i .i64) xs nl) vals (AL.can Ju d)))=QR xs nl d.1 d.2.1 d.2.2:=by kernel_rfl
abbrev Yl:Prop:=XOk Tryz.prog 147 Zn
theorem Yy (h:∀ (xs:List Int) (nl:Bool) (a:Int) (b:Int) (li:Int),(a=0∧b=xs.length∧xs.length≤12)→QR xs nl a b li):XOk Tryz.prog 147 Zn :=
 Sb Fe mixed W_ (C:=Jv) ⟨.nil,(XsOk.cons Xi (XsOk.cons S4 (XsOk.cons S4 (XsOk.cons S4 XsOk.nil)))),ItsOk.nil,YlOk.nil,IysOk.nil,XfOk.nil⟩ (L:=fun xs nl (d:Int×Int×Int) vals=>JA xs nl d.1 d.2.1 d.2.2 vals) (V:=fun xs nl (d:Int×Int×Int)=>QR xs nl d.1 d.2.1 d.2.2) Yk fun xs nl d hp=>h xs nl d.1 d.2.1 d.2.2 hp
theorem Ya:Yl:=Yy fun xs nl a b li h=>by
 obtain⟨rfl,rfl,h2⟩:=h;unfold QR;(try delta lI gD sT I64 Kq pj8 pj4);intro vals;refine⟨(),(),(by and_intros<;>first|rfl|trivial|simp),?_⟩;refine⟨fun _=>True,fun _=>0,trivial,?_⟩;rintro⟨⟩ -
 refine⟨by simp only[Qx];omega,fun _=>⟨⟨by omega,by omega,by omega,h2⟩,(by and_intros<;>first|rfl|trivial|simp)⟩,fun c=>by simp at c;omega⟩
def W7:AL (Unit):=.nil
def VT (xs:List Int) (nl:Bool) (d:Unit):Prop:=xs.length≤12
def XY (xs:List Int) (nl:Bool) (d:Unit):SV:=.tup []
def Xp (xs:List Int) (nl:Bool) (d:Unit):List Int:=(Pf W4 xs 0 xs.length)
def JK:XSp:=Ef Nb (O3 3 (.i .i64) W7 VT XY Xp)
def Zv (xs:List Int) (nl:Bool) :Prop:=∀ vals:List Value,
 (InK .u64 (lI xs))∧(0≤(lI xs)∧(lI xs)≤255)∧((0:Int)=0∧(lI xs)=xs.length∧xs.length≤12)∧(vals=vals∧(True∧(([]:List SV)=[]))∧((([]:List SV)=[]))∧((Pf W4 xs 0 xs.length)=(Pf W4 xs 0 xs.length)∧nl=nl))
def Wm:Cx:=⟨[],[(141,YJ)],11,[],0,[(147,Zn)],[],[],[],false,[],[],[],[]⟩
def Wd (xs:List Int) (nl:Bool)  (vals:List Value):List (Nat×LoopAnn):=[]
theorem Uy (xs:List Int) (nl:Bool) (d:Unit):(∀ vals,gwp Wm (Wd xs nl  vals) Z0f 0 (Iv vals [] (XY xs nl d) (.lst 3 (.i .i64) (Xp xs nl d) nl) (.lst 0)) (Ns 11 (.lst 0) (.lst 3 (.i .i64) xs nl) vals (AL.can W7 d)))=Zv xs nl :=by kernel_rfl
abbrev Ue:Prop:=XOk Tryz.prog 120 JK
theorem Uf (h:∀ (xs:List Int) (nl:Bool) ,(xs.length≤12)→Zv xs nl ):XOk Tryz.prog 120 JK :=
 Sb I5 mixed W_ (C:=Wm) ⟨(.cons BF .nil),(XsOk.cons Ya XsOk.nil),ItsOk.nil,YlOk.nil,IysOk.nil,XfOk.nil⟩ (L:=fun xs nl (d:Unit) vals=>Wd xs nl  vals) (V:=fun xs nl (d:Unit)=>Zv xs nl ) Uy fun xs nl d hp=>h xs nl  hp
theorem VH:Ue:=Uf fun xs nl h=>by unfold Zv;(try delta lI gD sT I64 Kq pj8 pj4);intro vals;refine⟨by simp only[NI];omega,⟨by omega,by omega⟩,⟨rfl,rfl,h⟩,?_⟩;exact(by and_intros<;>first|rfl|trivial|simp)
end Go.Proofs.Tryz
namespace Go.Proofs.Tryz
open Go Go.V Go.Proofs
def J4 (hk:Int) (cs:List DL) (cl:List Int) (fa:Int):List Int :=
 ((List.range cs.length).map fun (a:Nat)=>(a:Int)).filter fun a=>(List.range (fa.toNat+1)).any fun f=>!(wyK cs.length fa.toNat (fun k=>wvB hk cs cl k) cl.length (a,(f:Int))==0)
theorem TL {hk:Int}{cs:List DL}{cl:List Int}{fa:Int}(hn:0<cs.length) {a:Int}:a∈J4 hk cs cl fa↔∃ f,wyK cs.length fa.toNat (fun k=>wvB hk cs cl k) cl.length (a,f)≠0:=by
 unfold J4;rw[List.mem_filter,List.mem_map,List.any_eq_true];constructor
 ·rintro⟨_,f,_,h⟩;exact⟨(f:Int),by simpa using h⟩
 ·rintro⟨f,h⟩;have hg:=Xf.1 (Sm _ _ _ hn _ _ h);dsimp only at hg;refine⟨⟨a.toNat,List.mem_range.2 (by omega),by omega⟩,f.toNat,List.mem_range.2 (by omega),?_⟩;rw[show ((f.toNat:Nat):Int)=f by omega];simpa using h
theorem Gr (hk:Int) (cs:List DL) (cl:List Int) (fa:Int):(J4 hk cs cl fa).Pairwise (·<·):=by
 unfold J4;refine List.Pairwise.filter _ (List.pairwise_map.2 (List.pairwise_lt_range.imp fun h=>by omega))
theorem DJ:∀ {l m:List Int},l.Pairwise (·<·)→m.Pairwise (·<·)→(∀ x,x∈l↔x∈m)→l=m
 |[],[],_,_,_=>rfl
 |[],y::m,_,_,h=>by have:=(h y).2 (List.mem_cons_self ..);cases this
 |x::l,[],_,_,h=>by have:=(h x).1 (List.mem_cons_self ..);cases this
 |x::l,y::m,hl,hm,h=>by
  rw[List.pairwise_cons] at hl hm;have e:x=y:=by
   rcases List.mem_cons.1 ((h x).1 (List.mem_cons_self ..)) with e|e
   ·exact e
   ·rcases List.mem_cons.1 ((h y).2 (List.mem_cons_self ..)) with e2|e2
    ·exact e2.symm
    ·have:=hm.1 x e;have:=hl.1 y e2;omega
  subst e;have:l=m:=DJ hl.2 hm.2 fun z=>by
   have hz:=h z;rw[List.mem_cons,List.mem_cons] at hz;constructor
   ·intro eW;rcases hz.1 (.inr eW) with e|e
    ·have:=hl.1 z eW;omega
    ·exact e
   ·intro q8;rcases hz.2 (.inr q8) with e|e
    ·have:=hm.1 z q8;omega
    ·exact e
  rw[this]
theorem SU (k:Int):∀ (m:List (Int×Bool)),(m.map (·.1)).Nodup→((T2 (.i .i64) m k true).map (·.1)).Nodup∧∀ x,x∈(T2 (.i .i64) m k true).map (·.1)↔x=k∨x∈m.map (·.1)
 |[],_=>⟨List.pairwise_singleton _ _,fun x=>by show x∈[k]↔_;simp⟩
 |(a,b)::m,hn=>by
  rw[List.map_cons,List.nodup_cons] at hn;obtain⟨h1,h2⟩:=SU k m hn.2;by_cases hk:k=a
  ·subst hk;have e:T2 (.i .i64) ((k,b)::m) k true=(k,true)::m:=by
    show (if gq.keq (.i .i64) k k=true then (k,true)::m else _)=_;rw[if_pos (show gq.keq (.i .i64) k k=true from by show ((k:Int)==k)=true;simp)]
   rw[e,List.map_cons,List.map_cons];refine⟨List.nodup_cons.2 hn,fun x=>?_⟩;simp only[List.mem_cons];constructor
   ·rintro (h|h)
    ·exact .inl h
    ·exact .inr (.inr h)
   ·rintro (h|h|h)
    ·exact .inl h
    ·exact .inl h
    ·exact .inr h
  ·have e:T2 (.i .i64) ((a,b)::m) k true=(a,b)::T2 (.i .i64) m k true:=by
    show (if gq.keq (.i .i64) k a=true then _ else (a,b)::T2 (.i .i64) m k true)=_;rw[if_neg (show ¬ gq.keq (.i .i64) k a=true from fun h=>hk (by have h:((k:Int)==a)=true:=h;exact eq_of_beq h))]
   rw[e,List.map_cons,List.map_cons];refine⟨List.nodup_cons.2 ⟨fun hm=>?_,h1⟩,fun x=>?_⟩
   ·rcases (h2 a).1 hm with h|h
    ·exact hk h.symm
    ·exact hn.1 h
   ·rw[List.mem_cons,h2 x,List.mem_cons];constructor
    ·rintro (h|h|h)
     ·exact .inr (.inl h)
     ·exact .inl h
     ·exact .inr (.inr h)
    ·rintro (h|h|h)
     ·exact .inr (.inl h)
     ·exact .inl h
     ·exact .inr (.inr h)
theorem TM {α:Type}[BEq α] [LawfulBEq α]:∀ {l m:List α},l.Nodup→(∀ x∈l,x∈m)→l.length≤m.length
 |[],_,_,_=>Nat.zero_le _
 |x::l,m,hn,hs=>by rw[List.nodup_cons] at hn;have hx:x∈m:=hs x (List.mem_cons_self ..);have:=TM (l:=l) (m:=m.erase x) hn.2 fun y hy=>(List.mem_erase_of_ne (by rintro rfl;exact hn.1 hy)).2 (hs y (List.mem_cons_of_mem _ hy));rw[List.length_erase_of_mem hx] at this;have:=List.length_pos_of_mem hx;rw[List.length_cons];omega
theorem LoopP.rng2 {X:Type}{F:List Nat×X→(List Nat×X→Prop)→Prop}(n:Nat) (J:X→List Nat→Prop) {x0:X}(h0:J x0 [])
  (hr:∀ (x:X) (dn:List Nat),dn.Nodup→(∀ r∈dn,r<n)→J x dn→∀ q:List Nat×X→Prop,(∀ (r:Nat) (x':X),r<n→r∉dn→J x' (dn++[r])→q (dn++[r],x'))→F (dn,x) q):LoopP F ([],x0):=by
 refine⟨fun d=>d.1.Nodup∧(∀ r∈d.1,r<n)∧J d.2 d.1,fun d=>n-d.1.length,⟨List.nodup_nil,(fun r hr=>by cases hr),h0⟩,fun ⟨dn,x⟩ ⟨h1,h2,h3⟩=>?_⟩;have h1:dn.Nodup:=h1;have h2:∀ r∈dn,r<n:=h2;refine hr x dn h1 h2 h3 _ fun r x' ai fy hJ=>?_;have hn:=Dx h1 fy;have hb:∀ y∈dn++[r],y<n:=fun y hy=>by
  rcases List.mem_append.1 hy with h|h
  ·exact h2 y h
  ·rw[List.mem_singleton] at h;omega
 refine⟨⟨hn,hb,hJ⟩,?_⟩;have:=NR hn (m:=List.range n) fun y hy=>List.mem_range.2 (hb y hy);rw[List.length_range,List.length_append,List.length_singleton] at this;have e:(dn++[r]).length=dn.length+1:=by simp
 show n-(dn++[r]).length<n-dn.length;omega
def KeyW (n:Nat) (m:List ((Int×Int)×Int)) (x:List (Int×Bool)) (dn:List Nat):Prop:=(x.map (·.1)).Nodup∧∀ a,a∈x.map (·.1)↔∃ r∈dn,(m.getD r ((0,0),0)).1.1=a
theorem KeyW.snoc {n:Nat}{m:List ((Int×Int)×Int)}{x:List (Int×Bool)}{dn:List Nat}(h:KeyW n m x dn) (r:Nat):KeyW n m (T2 (.i .i64) x (m.getD r ((0,0),0)).1.1 true) (dn++[r]):=by
 obtain⟨h1,h2⟩:=SU (m.getD r ((0,0),0)).1.1 x h.1;refine⟨h1,fun a=>?_⟩;rw[h2 a,h.2 a];constructor
 ·rintro (rfl|⟨s,hs,rfl⟩)
  ·exact⟨r,by simp,rfl⟩
  ·exact⟨s,List.mem_append_left _ hs,rfl⟩
 ·rintro⟨s,hs,rfl⟩;rcases List.mem_append.1 hs with hs|hs
  ·exact .inr ⟨s,hs,rfl⟩
  ·rw[List.mem_singleton] at hs;subst hs;exact .inl rfl
theorem KeyW.len {n mo:Nat}{m:List ((Int×Int)×Int)}{W:Int×Int→Int}(hm:MapW n mo m W) {x:List (Int×Bool)}{dn:List Nat}(ai:∀ r∈dn,r<m.length) (h:KeyW n m x dn):x.length≤n:=by
 have:=TM (l:=x.map (·.1)) (m:=(List.range n).map fun (a:Nat)=>(a:Int)) h.1 fun a ha=>by
  obtain⟨r,hr,rfl⟩:=(h.2 a).1 ha;have dm:=ai r hr;rw[Qk dm];have hg:=Xf.1 (hm.2.1 _ (List.getElem_mem dm)).2.2;exact List.mem_map.2 ⟨(m[r].1.1).toNat,List.mem_range.2 (by omega),by omega⟩
 simpa using this
theorem KeyW.all {hk:Int}{cs:List DL}{cl:List Int}{fa:Int}(hn:0<cs.length) {m:List ((Int×Int)×Int)}(hm:MapW cs.length fa.toNat m (wyK cs.length fa.toNat (fun k=>wvB hk cs cl k) cl.length)) {x:List (Int×Bool)}{dn:List Nat}(ai:∀ r∈dn,r<m.length) (h:KeyW cs.length m x dn) (ae:∀ r,r<m.length→r∈dn) (a:Int):a∈x.map (·.1)↔a∈J4 hk cs cl fa:=by
 rw[h.2 a,TL hn];constructor
 ·rintro⟨r,hr,rfl⟩;have dm:=ai r hr;rw[Qk dm];have he:=hm.2.1 _ (List.getElem_mem dm);refine⟨m[r].1.2,?_⟩;have:(m[r].1.1,m[r].1.2)=m[r].1:=rfl;rw[this,←he.1];omega
 ·rintro⟨f,hf⟩;obtain⟨e,he,hq⟩:=hm.2.2 (a,f) hf;obtain⟨r,hr,rfl⟩:=List.getElem_of_mem he;exact⟨r,ae r hr,by rw[Qk hr,hq]⟩
theorem KeyW.sorted {hk:Int}{cs:List DL}{cl:List Int}{fa:Int}(hn:0<cs.length) {m:List ((Int×Int)×Int)}(hm:MapW cs.length fa.toNat m (wyK cs.length fa.toNat (fun k=>wvB hk cs cl k) cl.length)) {x:List (Int×Bool)}{dn:List Nat}(ai:∀ r∈dn,r<m.length) (h:KeyW cs.length m x dn) (ae:∀ r,r<m.length→r∈dn)
  {d2:List Nat}(oF:d2.Nodup) (j7:∀ r∈d2,r<x.length) (ql:∀ r,r<x.length→r∈d2):Pf W4 (d2.map fun r=>(x.getD r (0,false)).1) 0 (d2.map fun r=>(x.getD r (0,false)).1).length=J4 hk cs cl fa:=by
 have hx:∀ r,r<x.length→(x.getD r (0,false)).1=(x.map (·.1)).getD r 0:=fun r hr=>by
  rw[Qk hr,Qk (by simpa using hr),List.getElem_map]
 have nY:(d2.map fun r=>(x.getD r (0,false)).1).Nodup:=List.pairwise_map.2 (List.Pairwise.imp_of_mem (fun {a b} ha hb aA e=>by
  rw[hx a (j7 a ha),hx b (j7 b hb)] at e;have la:a<(x.map (·.1)).length:=by simpa using j7 a ha
  have lb:b<(x.map (·.1)).length:=by simpa using j7 b hb
  rw[Qk la,Qk lb] at e;exact aA ((List.getElem_inj h.1).1 e)) oF)
 refine DJ (Z1b nY) (Gr ..) fun z=>?_;rw[(Gw (f:=W4) (a:=0) (Nat.le_refl _)).mem_iff,←KeyW.all hn hm ai h ae z,List.mem_map,List.mem_map];constructor
 ·rintro⟨r,hr,rfl⟩;have:=j7 r hr;exact⟨x[r],List.getElem_mem this,by rw[Qk this]⟩
 ·rintro⟨e,he,rfl⟩;obtain⟨r,hr,rfl⟩:=List.getElem_of_mem he;exact⟨r,ql r hr,by rw[Qk hr]⟩
def MM:AL ((Int×List (Int×Int×Bool))×List Int×Int):=(.cons (.agg (.cons (.k (.i .i64)) (.one (.k (.list (.pair (.i .i64) (.pair (.i .i64) .bo))))))) (.cons (.k (.list (.i .i64))) (.one (.k (.i .i64)))))
def Pc (d:(Int×List (Int×Int×Bool))×List Int×Int):Prop:=Q7 d.1.1 d.1.2=0∧d.2.1.length≤60∧(∀ r∈d.2.1,-1≤r∧r<2 ^ d.1.1.toNat)∧0≤d.2.2∧d.2.2≤6∧d.1.2.length≤12
def Nw (d:(Int×List (Int×Int×Bool))×List Int×Int):SV:=.tup [.lst 0,.val (.i .i64) (0:Int)]
def N3 (d:(Int×List (Int×Int×Bool))×List Int×Int):List OB:=[.lst 3 (.i .i64) (J4 d.1.1 d.1.2 d.2.1 d.2.2) ((J4 d.1.1 d.1.2 d.2.1 d.2.2).isEmpty)]
def Vt:CSp:=YP MM Pc Nw N3
def WS (hk:Int) (cs:List (Int×Int×Bool)) (cl:List Int) (fa:Int):Prop :=
 (Q7 hk cs=0∧cl.length≤60∧(∀ r∈cl,-1≤r∧r<2 ^ hk.toNat)∧0≤fa∧fa≤6)∧(∀ m1:List ((Int×Int)×Int),(MapW cs.length fa.toNat m1 (wyK cs.length fa.toNat (fun k=>wvB hk cs cl k) cl.length))→∃ (e4:(List ((Int×Int)×Int))) (d40:(List (Int×Bool))×(List Nat)),(((0:Int)=(0:Int)∧True∧True∧True)∧((([]:List (Int×Bool))=d40.1)∧(m1=e4∧([]:List Nat)=d40.2)∧True)) ∧
 LoopP (fun (d4:(List (Int×Bool))×(List Nat)) (q4:((List (Int×Bool))×(List Nat))→Prop) =>
  ((∀ r:Nat,r<(List.length e4)→r∈d4.2) →
   (false=true →
    (d4.2≠[])∧(∃ d6:(List (Int×Bool))×(List Nat),(((0:Int)=(0:Int)∧True∧True∧True)∧(((T2 (.i .i64) d4.1 (List.getD e4 (List.getLastD d4.2 0) ((0,0),0)).1.1 true)=d6.1)∧(e4=e4∧d4.2=d6.2)∧True))∧q4 d6)) ∧
   (false=false →
    ∀ w7:List Value,w7=w7∧∀ w8:List Value,∀ w9:List Value,∀ lG:List Value,∀ h_:LpD,∃ (aN:(List (Int×Bool))×Int×(List ((Int×Int)×Int))×(List Nat)×Bool×(List Value)×(List Value)×(List Value)×LpD) (d150:(List Nat)×(List Int)),((True∧True∧True)∧((d4.1=aN.1∧([]:List Nat)=d150.1)∧((pj4 aN).2.1=w8∧(True∧True∧True∧True∧True∧True∧True∧True∧True∧(0:Int)=aN.2.1∧True∧True∧True∧True∧True∧True∧True∧True∧True∧True∧True∧True∧True∧false=(pj4 aN).1∧True∧True∧True∧True∧True∧True∧(((([]:List SV)=[]))∧(True∧(([]:List SV)=[])))∧True∧True∧(([]:List SV)=[])))∧(e4=aN.2.2.1∧d4.2=aN.2.2.2.1)∧(True∧(([]:List SV)=[]))∧((pj4 aN).2.2.1=w9∧((((([]:List SV)=[]))∧(True∧(([]:List SV)=[])))∧True∧True∧True∧(((([]:List SV)=[]))∧(True∧(([]:List SV)=[])))∧True∧True∧True∧True∧(([]:List SV)=[])))∧((pj4 aN).2.2.2.1=lG∧((((([]:List SV)=[]))∧(True∧(([]:List SV)=[])))∧True∧True∧(((([]:List SV)=[]))∧(True∧(([]:List SV)=[])))∧True∧(([]:List SV)=[])))∧((pj8 aN)=h_∧(True∧(((([]:List SV)=[]))∧(True∧(([]:List SV)=[])))∧True∧True∧True∧True∧(((([]:List SV)=[]))∧(True∧(([]:List SV)=[])))∧True∧True∧True∧True∧True∧True∧(([]:List SV)=[])))∧(True∧(([]:List SV)=[]))∧(d150.2=[]∧(List.isEmpty d150.2)=true)∧True)) ∧
    LoopP (fun (d15:(List Nat)×(List Int)) (oE:((List Nat)×(List Int))→Prop) =>
     ((∀ r:Nat,r<(List.length aN.1)→r∈d15.1) →
      (false=true →
       (d15.1≠[])∧(pj8 aN)=h_∧∀ q9:List Value,(((List.length d15.2)+(List.length [(List.getD aN.1 (List.getLastD d15.1 0) (0,false)).1]))*8≤70368744177664)∧q9=q9∧(pj8 aN)=h_∧((!true)=true →
        (pj8 aN)=h_∧(pj4 aN).2.2.2.1=lG∧(pj4 aN).2.2.1=w9∧((d15.2++[(List.getD aN.1 (List.getLastD d15.1 0) (0,false)).1]).length≤12)∧(pj4 aN).2.1=w8∧((True∧aN.2.1=(0:Int)∧(([]:List SV)=[]))∧(((Pf W4 (d15.2++[(List.getD aN.1 (List.getLastD d15.1 0) (0,false)).1]) 0 (d15.2++[(List.getD aN.1 (List.getLastD d15.1 0) (0,false)).1]).length)=(J4 hk cs cl fa)∧false=(J4 hk cs cl fa).isEmpty)∧True))) ∧
       ((!true)=false →
        (∃ d18:(List Nat)×(List Int),((True∧True∧True)∧((aN.1=aN.1∧d15.1=d18.1)∧((pj4 aN).2.1=(pj4 aN).2.1∧(True∧True∧True∧True∧True∧True∧True∧True∧True∧aN.2.1=aN.2.1∧True∧True∧True∧True∧True∧True∧True∧True∧True∧True∧True∧True∧True∧(pj4 aN).1=(pj4 aN).1∧True∧True∧True∧True∧True∧True∧(((([]:List SV)=[]))∧(True∧(([]:List SV)=[])))∧True∧True∧(([]:List SV)=[])))∧(aN.2.2.1=aN.2.2.1∧aN.2.2.2.1=aN.2.2.2.1)∧(True∧(([]:List SV)=[]))∧((pj4 aN).2.2.1=(pj4 aN).2.2.1∧((((([]:List SV)=[]))∧(True∧(([]:List SV)=[])))∧True∧True∧True∧(((([]:List SV)=[]))∧(True∧(([]:List SV)=[])))∧True∧True∧True∧True∧(([]:List SV)=[])))∧((pj4 aN).2.2.2.1=(pj4 aN).2.2.2.1∧((((([]:List SV)=[]))∧(True∧(([]:List SV)=[])))∧True∧True∧(((([]:List SV)=[]))∧(True∧(([]:List SV)=[])))∧True∧(([]:List SV)=[])))∧((pj8 aN)=(pj8 aN)∧(True∧(((([]:List SV)=[]))∧(True∧(([]:List SV)=[])))∧True∧True∧True∧True∧(((([]:List SV)=[]))∧(True∧(([]:List SV)=[])))∧True∧True∧True∧True∧True∧True∧(([]:List SV)=[])))∧(True∧(([]:List SV)=[]))∧((d15.2++[(List.getD aN.1 (List.getLastD d15.1 0) (0,false)).1])=d18.2∧false=(List.isEmpty d18.2))∧True))∧oE d18))) ∧
      (false=false →
       (pj8 aN)=h_∧(pj4 aN).2.2.2.1=lG∧(pj4 aN).2.2.1=w9∧(d15.2.length≤12)∧(pj4 aN).2.1=w8∧((True∧aN.2.1=(0:Int)∧(([]:List SV)=[]))∧(((Pf W4 d15.2 0 d15.2.length)=(J4 hk cs cl fa)∧(List.isEmpty d15.2)=(J4 hk cs cl fa).isEmpty)∧True)))) ∧
     (∀ jh:Nat,jh<(List.length aN.1)→jh∉d15.1 →
      (true=true →
       ((d15.1++[jh])≠[])∧(pj8 aN)=h_∧∀ q_:List Value,(((List.length d15.2)+(List.length [(List.getD aN.1 (List.getLastD (d15.1++[jh]) 0) (0,false)).1]))*8≤70368744177664)∧q_=q_∧(pj8 aN)=h_∧((!true)=true →
        (pj8 aN)=h_∧(pj4 aN).2.2.2.1=lG∧(pj4 aN).2.2.1=w9∧((d15.2++[(List.getD aN.1 (List.getLastD (d15.1++[jh]) 0) (0,false)).1]).length≤12)∧(pj4 aN).2.1=w8∧((True∧aN.2.1=(0:Int)∧(([]:List SV)=[]))∧(((Pf W4 (d15.2++[(List.getD aN.1 (List.getLastD (d15.1++[jh]) 0) (0,false)).1]) 0 (d15.2++[(List.getD aN.1 (List.getLastD (d15.1++[jh]) 0) (0,false)).1]).length)=(J4 hk cs cl fa)∧false=(J4 hk cs cl fa).isEmpty)∧True))) ∧
       ((!true)=false →
        (∃ d20:(List Nat)×(List Int),((True∧True∧True)∧((aN.1=aN.1∧(d15.1++[jh])=d20.1)∧((pj4 aN).2.1=(pj4 aN).2.1∧(True∧True∧True∧True∧True∧True∧True∧True∧True∧aN.2.1=aN.2.1∧True∧True∧True∧True∧True∧True∧True∧True∧True∧True∧True∧True∧True∧(pj4 aN).1=(pj4 aN).1∧True∧True∧True∧True∧True∧True∧(((([]:List SV)=[]))∧(True∧(([]:List SV)=[])))∧True∧True∧(([]:List SV)=[])))∧(aN.2.2.1=aN.2.2.1∧aN.2.2.2.1=aN.2.2.2.1)∧(True∧(([]:List SV)=[]))∧((pj4 aN).2.2.1=(pj4 aN).2.2.1∧((((([]:List SV)=[]))∧(True∧(([]:List SV)=[])))∧True∧True∧True∧(((([]:List SV)=[]))∧(True∧(([]:List SV)=[])))∧True∧True∧True∧True∧(([]:List SV)=[])))∧((pj4 aN).2.2.2.1=(pj4 aN).2.2.2.1∧((((([]:List SV)=[]))∧(True∧(([]:List SV)=[])))∧True∧True∧(((([]:List SV)=[]))∧(True∧(([]:List SV)=[])))∧True∧(([]:List SV)=[])))∧((pj8 aN)=(pj8 aN)∧(True∧(((([]:List SV)=[]))∧(True∧(([]:List SV)=[])))∧True∧True∧True∧True∧(((([]:List SV)=[]))∧(True∧(([]:List SV)=[])))∧True∧True∧True∧True∧True∧True∧(([]:List SV)=[])))∧(True∧(([]:List SV)=[]))∧((d15.2++[(List.getD aN.1 (List.getLastD (d15.1++[jh]) 0) (0,false)).1])=d20.2∧false=(List.isEmpty d20.2))∧True))∧oE d20))) ∧
      (true=false →
       (pj8 aN)=h_∧(pj4 aN).2.2.2.1=lG∧(pj4 aN).2.2.1=w9∧(d15.2.length≤12)∧(pj4 aN).2.1=w8∧((True∧aN.2.1=(0:Int)∧(([]:List SV)=[]))∧(((Pf W4 d15.2 0 d15.2.length)=(J4 hk cs cl fa)∧(List.isEmpty d15.2)=(J4 hk cs cl fa).isEmpty)∧True))))) d150)) ∧
  (∀ r5:Nat,r5<(List.length e4)→r5∉d4.2 →
   (true=true →
    ((d4.2++[r5])≠[])∧(∃ d21:(List (Int×Bool))×(List Nat),(((0:Int)=(0:Int)∧True∧True∧True)∧(((T2 (.i .i64) d4.1 (List.getD e4 (List.getLastD (d4.2++[r5]) 0) ((0,0),0)).1.1 true)=d21.1)∧(e4=e4∧(d4.2++[r5])=d21.2)∧True))∧q4 d21)) ∧
   (true=false →
    ∀ ra:List Value,ra=ra∧∀ nZ:List Value,∀ n6:List Value,∀ n7:List Value,∀ ji:LpD,∃ (aO:(List (Int×Bool))×Int×(List ((Int×Int)×Int))×(List Nat)×Bool×(List Value)×(List Value)×(List Value)×LpD) (jj:(List Nat)×(List Int)),((True∧True∧True)∧((d4.1=aO.1∧([]:List Nat)=jj.1)∧((pj4 aO).2.1=nZ∧(True∧True∧True∧True∧True∧True∧True∧True∧True∧(0:Int)=aO.2.1∧True∧True∧True∧True∧True∧True∧True∧True∧True∧True∧True∧True∧True∧true=(pj4 aO).1∧True∧True∧True∧True∧True∧True∧(((([]:List SV)=[]))∧(True∧(([]:List SV)=[])))∧True∧True∧(([]:List SV)=[])))∧(e4=aO.2.2.1∧(d4.2++[r5])=aO.2.2.2.1)∧(True∧(([]:List SV)=[]))∧((pj4 aO).2.2.1=n6∧((((([]:List SV)=[]))∧(True∧(([]:List SV)=[])))∧True∧True∧True∧(((([]:List SV)=[]))∧(True∧(([]:List SV)=[])))∧True∧True∧True∧True∧(([]:List SV)=[])))∧((pj4 aO).2.2.2.1=n7∧((((([]:List SV)=[]))∧(True∧(([]:List SV)=[])))∧True∧True∧(((([]:List SV)=[]))∧(True∧(([]:List SV)=[])))∧True∧(([]:List SV)=[])))∧((pj8 aO)=ji∧(True∧(((([]:List SV)=[]))∧(True∧(([]:List SV)=[])))∧True∧True∧True∧True∧(((([]:List SV)=[]))∧(True∧(([]:List SV)=[])))∧True∧True∧True∧True∧True∧True∧(([]:List SV)=[])))∧(True∧(([]:List SV)=[]))∧(jj.2=[]∧(List.isEmpty jj.2)=true)∧True)) ∧
    LoopP (fun (d30:(List Nat)×(List Int)) (rb:((List Nat)×(List Int))→Prop) =>
     ((∀ r:Nat,r<(List.length aO.1)→r∈d30.1) →
      (false=true →
       (d30.1≠[])∧(pj8 aO)=ji∧∀ rf:List Value,(((List.length d30.2)+(List.length [(List.getD aO.1 (List.getLastD d30.1 0) (0,false)).1]))*8≤70368744177664)∧rf=rf∧(pj8 aO)=ji∧((!true)=true →
        (pj8 aO)=ji∧(pj4 aO).2.2.2.1=n7∧(pj4 aO).2.2.1=n6∧((d30.2++[(List.getD aO.1 (List.getLastD d30.1 0) (0,false)).1]).length≤12)∧(pj4 aO).2.1=nZ∧((True∧aO.2.1=(0:Int)∧(([]:List SV)=[]))∧(((Pf W4 (d30.2++[(List.getD aO.1 (List.getLastD d30.1 0) (0,false)).1]) 0 (d30.2++[(List.getD aO.1 (List.getLastD d30.1 0) (0,false)).1]).length)=(J4 hk cs cl fa)∧false=(J4 hk cs cl fa).isEmpty)∧True))) ∧
       ((!true)=false →
        (∃ d33:(List Nat)×(List Int),((True∧True∧True)∧((aO.1=aO.1∧d30.1=d33.1)∧((pj4 aO).2.1=(pj4 aO).2.1∧(True∧True∧True∧True∧True∧True∧True∧True∧True∧aO.2.1=aO.2.1∧True∧True∧True∧True∧True∧True∧True∧True∧True∧True∧True∧True∧True∧(pj4 aO).1=(pj4 aO).1∧True∧True∧True∧True∧True∧True∧(((([]:List SV)=[]))∧(True∧(([]:List SV)=[])))∧True∧True∧(([]:List SV)=[])))∧(aO.2.2.1=aO.2.2.1∧aO.2.2.2.1=aO.2.2.2.1)∧(True∧(([]:List SV)=[]))∧((pj4 aO).2.2.1=(pj4 aO).2.2.1∧((((([]:List SV)=[]))∧(True∧(([]:List SV)=[])))∧True∧True∧True∧(((([]:List SV)=[]))∧(True∧(([]:List SV)=[])))∧True∧True∧True∧True∧(([]:List SV)=[])))∧((pj4 aO).2.2.2.1=(pj4 aO).2.2.2.1∧((((([]:List SV)=[]))∧(True∧(([]:List SV)=[])))∧True∧True∧(((([]:List SV)=[]))∧(True∧(([]:List SV)=[])))∧True∧(([]:List SV)=[])))∧((pj8 aO)=(pj8 aO)∧(True∧(((([]:List SV)=[]))∧(True∧(([]:List SV)=[])))∧True∧True∧True∧True∧(((([]:List SV)=[]))∧(True∧(([]:List SV)=[])))∧True∧True∧True∧True∧True∧True∧(([]:List SV)=[])))∧(True∧(([]:List SV)=[]))∧((d30.2++[(List.getD aO.1 (List.getLastD d30.1 0) (0,false)).1])=d33.2∧false=(List.isEmpty d33.2))∧True))∧rb d33))) ∧
      (false=false →
       (pj8 aO)=ji∧(pj4 aO).2.2.2.1=n7∧(pj4 aO).2.2.1=n6∧(d30.2.length≤12)∧(pj4 aO).2.1=nZ∧((True∧aO.2.1=(0:Int)∧(([]:List SV)=[]))∧(((Pf W4 d30.2 0 d30.2.length)=(J4 hk cs cl fa)∧(List.isEmpty d30.2)=(J4 hk cs cl fa).isEmpty)∧True)))) ∧
     (∀ jk:Nat,jk<(List.length aO.1)→jk∉d30.1 →
      (true=true →
       ((d30.1++[jk])≠[])∧(pj8 aO)=ji∧∀ rh:List Value,(((List.length d30.2)+(List.length [(List.getD aO.1 (List.getLastD (d30.1++[jk]) 0) (0,false)).1]))*8≤70368744177664)∧rh=rh∧(pj8 aO)=ji∧((!true)=true →
        (pj8 aO)=ji∧(pj4 aO).2.2.2.1=n7∧(pj4 aO).2.2.1=n6∧((d30.2++[(List.getD aO.1 (List.getLastD (d30.1++[jk]) 0) (0,false)).1]).length≤12)∧(pj4 aO).2.1=nZ∧((True∧aO.2.1=(0:Int)∧(([]:List SV)=[]))∧(((Pf W4 (d30.2++[(List.getD aO.1 (List.getLastD (d30.1++[jk]) 0) (0,false)).1]) 0 (d30.2++[(List.getD aO.1 (List.getLastD (d30.1++[jk]) 0) (0,false)).1]).length)=(J4 hk cs cl fa)∧false=(J4 hk cs cl fa).isEmpty)∧True))) ∧
       ((!true)=false →
        (∃ d35:(List Nat)×(List Int),((True∧True∧True)∧((aO.1=aO.1∧(d30.1++[jk])=d35.1)∧((pj4 aO).2.1=(pj4 aO).2.1∧(True∧True∧True∧True∧True∧True∧True∧True∧True∧aO.2.1=aO.2.1∧True∧True∧True∧True∧True∧True∧True∧True∧True∧True∧True∧True∧True∧(pj4 aO).1=(pj4 aO).1∧True∧True∧True∧True∧True∧True∧(((([]:List SV)=[]))∧(True∧(([]:List SV)=[])))∧True∧True∧(([]:List SV)=[])))∧(aO.2.2.1=aO.2.2.1∧aO.2.2.2.1=aO.2.2.2.1)∧(True∧(([]:List SV)=[]))∧((pj4 aO).2.2.1=(pj4 aO).2.2.1∧((((([]:List SV)=[]))∧(True∧(([]:List SV)=[])))∧True∧True∧True∧(((([]:List SV)=[]))∧(True∧(([]:List SV)=[])))∧True∧True∧True∧True∧(([]:List SV)=[])))∧((pj4 aO).2.2.2.1=(pj4 aO).2.2.2.1∧((((([]:List SV)=[]))∧(True∧(([]:List SV)=[])))∧True∧True∧(((([]:List SV)=[]))∧(True∧(([]:List SV)=[])))∧True∧(([]:List SV)=[])))∧((pj8 aO)=(pj8 aO)∧(True∧(((([]:List SV)=[]))∧(True∧(([]:List SV)=[])))∧True∧True∧True∧True∧(((([]:List SV)=[]))∧(True∧(([]:List SV)=[])))∧True∧True∧True∧True∧True∧True∧(([]:List SV)=[])))∧(True∧(([]:List SV)=[]))∧((d30.2++[(List.getD aO.1 (List.getLastD (d30.1++[jk]) 0) (0,false)).1])=d35.2∧false=(List.isEmpty d35.2))∧True))∧rb d35))) ∧
      (true=false →
       (pj8 aO)=ji∧(pj4 aO).2.2.2.1=n7∧(pj4 aO).2.2.1=n6∧(d30.2.length≤12)∧(pj4 aO).2.1=nZ∧((True∧aO.2.1=(0:Int)∧(([]:List SV)=[]))∧(((Pf W4 d30.2 0 d30.2.length)=(J4 hk cs cl fa)∧(List.isEmpty d30.2)=(J4 hk cs cl fa).isEmpty)∧True))))) jj))) d40)
def QO:Cx:=⟨[],[],4,[],0,[],[],[],[],false,[],[],[],[]⟩
def QN:List (Nat×LoopAnn):=[]
def Q4:Cx:=⟨[],[],14,[],0,[],[],[],[],false,[],[],[],[]⟩
def Q5:List (Nat×LoopAnn):=[(0,⟨(List (Int×Bool))×Int×(List ((Int×Int)×Int))×(List Nat)×Bool×(List Value)×(List Value)×(List Value)×LpD,(List Nat)×(List Int),[0,5],fun e x=>[.dd 32000060002500000 .yv,.box 3200006000250000100005 0],fun e x=>[(3200006000250000100005,.slot 5,.iter (.i .i64) .bo e.1 x.1),(3199999,.key 3199999,.stk [.any,.any,.any,.any,.any,.any,.any,.any,.any,.val (.i .i64) e.2.1,.any,.any,.any,.any,.any,.any,.any,.any,.any,.any,.any,.box 21 0,.any,.val .bo e.2.2.2.2.1,.any,.any,.any,.any,.any,.any,.fn 121 [] [.box 3100001 0],.any,.any] e.2.2.2.2.2.1),(21,.key 21,.iter (.pair (.i .i64) (.i .i64)) (.i .i64) e.2.2.1 e.2.2.2.1),(3100001,.key 3100001,.cells [.any] (some 122)),(320000599999,.key 320000599999,.stk [.fn 121 [] [.box 3100001 0],.any,.nilS,.any,.fn 121 [] [.box 3100001 0],.any,.any,.any,.any] e.2.2.2.2.2.2.1),(32000060000499999,.key 32000060000499999,.stk [.fn 121 [] [.box 3100001 0],.any,.nilS,.fn 121 [] [.box 3100001 0],.any] e.2.2.2.2.2.2.2.1),(32000060002500000,.key 32000060002500000,.lpf [.nilS,.fn 121 [] [.box 3100001 0],.box 32000060000500002 0,.any,.nilS,.any,.fn 121 [] [.box 3100001 0],.any,.any,.any,.any,.any,.any] e.2.2.2.2.2.2.2.2 .rdy),(32000060000500002,.key 32000060000500002,.cells [.lst 32000060000500011] (some 27)),(32000060000500011,.cell 32000060000500002 0,.lst 3 (.i .i64) x.2 (List.isEmpty x.2))]⟩)]
def Qd:Cx:=⟨[(3,(.i .i64))],[],13,[],0,[],[],[],[],false,[],[(121,Z3v Q4 Q5 Z0i 14)],[],[]⟩
def Qc:List (Nat×LoopAnn):=[]
def QA:Cx:=⟨[],[],5,[],0,[(146,Q44 Qd (fun _=>Qc) Z01 [.tmp 4] 13)],[],[],[],false,[],[],[],[]⟩
def Qy:List (Nat×LoopAnn):=[]
def ZZ:Cx:=⟨[],[],9,[],0,[(119,Q44 QA (fun _=>Qy) Z0k [.tmp 2] 5),(120,JK)],[],[],[],false,[],[],[],[]⟩
def ZY:List (Nat×LoopAnn):=[]
def Mg:Cx:=⟨[(1000019,(.pair (.i .i64) .bo))],[],33,[],0,[(79,Yo),(81,Q44 QO (fun _=>QN) c81 [.tmp 2] 4),(80,Q44 ZZ (fun _=>ZY) c80 [.tmp 2] 9)],[],[],[],false,[],[],[],[]⟩
def Tr (hk:Int) (cs:List (Int×Int×Bool)) (cl:List Int) (fa:Int):List (Nat×LoopAnn):=[(0,⟨(List ((Int×Int)×Int)),(List (Int×Bool))×(List Nat),[9,10,21],fun e x=>[.val (.i .i64) (0:Int),.map 19,.box 21 0],fun e x=>[(19,.slot 10,.map (.i .i64) .bo x.1),(21,.slot 21,.iter (.pair (.i .i64) (.i .i64)) (.i .i64) e x.2)]⟩)]
theorem T7 (d:(Int×List (Int×Int×Bool))×List Int×Int):gwp (Mg) (Tr d.1.1 d.1.2 d.2.1 d.2.2) c28 0 (Kl [.tmp 6,.tmp 7] (Nw d) (N3 d)) (QC 33 (AL.can MM d))=WS d.1.1 d.1.2 d.2.1 d.2.2:=by kernel_rfl
abbrev T6:Prop:=OkC Tryz.prog 28 Vt
theorem Ti (h:∀ (hk:Int) (cs:List (Int×Int×Bool)) (cl:List Int) (fa:Int),(Q7 hk cs=0∧cl.length≤60∧(∀ r∈cl,-1≤r∧r<2 ^ hk.toNat)∧0≤fa∧fa≤6∧cs.length≤12)→WS hk cs cl fa):OkC Tryz.prog 28 Vt :=
 QP Q5y mixed (C:=Mg) (V:=fun (d:(Int×List (Int×Int×Bool))×List Int×Int)=>WS d.1.1 d.1.2 d.2.1 d.2.2) ⟨.nil,(XsOk.cons Nf (XsOk.cons (Dk Q4g mixed (C:=QO) ⟨.nil,XsOk.nil,ItsOk.nil,YlOk.nil,IysOk.nil,XfOk.nil⟩ (fun _=>QN)) (XsOk.cons (Dk Q5z mixed (C:=ZZ) ⟨.nil,(XsOk.cons (Dk O7 mixed (C:=QA) ⟨.nil,(XsOk.cons (Dk Ie mixed (C:=Qd) ⟨.nil,XsOk.nil,ItsOk.nil,YlOk.nil,(IysOk.cons (Q4q Oi mixed (C:=Q4) ⟨.nil,XsOk.nil,ItsOk.nil,YlOk.nil,IysOk.nil,XfOk.nil⟩ Q5) IysOk.nil),XfOk.nil⟩ (fun _=>Qc)) XsOk.nil),ItsOk.nil,YlOk.nil,IysOk.nil,XfOk.nil⟩ (fun _=>Qy)) (XsOk.cons VH XsOk.nil)),ItsOk.nil,YlOk.nil,IysOk.nil,XfOk.nil⟩ (fun _=>ZY)) XsOk.nil))),ItsOk.nil,YlOk.nil,IysOk.nil,XfOk.nil⟩ (T7) fun d hp=>h d.1.1 d.1.2 d.2.1 d.2.2 hp
theorem PD:T6:=Ti fun hk cs cl fa h=>by
 obtain⟨h1,h2,h3,h4,h5,h6⟩:=h;obtain⟨hf,cy,aA,ah⟩:=UY h1;have bA:=List.length_pos_iff.2 aA;unfold WS;(try delta lI gD sT I64 Kq pj8 pj4);refine⟨⟨h1,h2,h3,h4,h5⟩,fun m hm=>⟨m,([],[]),(by and_intros<;>first|rfl|trivial),?_⟩⟩;refine LoopP.rng m.length (fun x dn=>KeyW cs.length m x dn) ⟨List.nodup_nil,fun a=>⟨(fun h=>by cases h),(fun ⟨r,hr,_⟩=>by cases hr)⟩⟩ ?_;intro x dn hn ai hx q hq;dsimp only;refine⟨fun ae=>⟨(fun c=>by cases c),fun _=>?_⟩,fun r hr fy=>⟨fun _=>?_,(fun c=>by cases c)⟩⟩
 ·intro w7;refine⟨rfl,fun w8 w9 lG h_=>⟨(x,0,m,dn,false,w8,w9,lG,h_),([],[]),(by and_intros<;>first|rfl|trivial),?_⟩⟩;dsimp only;have gv:=KeyW.len hm ai hx;refine LoopP.rng2 x.length (fun ys d2=>ys=d2.map fun r=>(x.getD r (0,false)).1) rfl ?_;intro ys d2 oF j7 nY q2 pE;dsimp only;have hlen:ys.length=d2.length:=by rw[nY];simp
  have n8:=NR oF (m:=List.range x.length) fun y hy=>List.mem_range.2 (j7 y hy);rw[List.length_range] at n8;refine⟨fun ql=>⟨(fun c=>by cases c),fun _=>?_⟩,fun r hr fy=>⟨fun _=>?_,(fun c=>by cases c)⟩⟩
  ·have hs:=KeyW.sorted bA hm ai hx ae oF j7 ql;rw[←nY] at hs;have hl:=(Gw (f:=W4) (a:=0) (Nat.le_refl ys.length)).length_eq;rw[hs] at hl;refine⟨rfl,rfl,rfl,by omega,rfl,⟨by and_intros<;>first|rfl|trivial,⟨hs,?_⟩,trivial⟩⟩;rw[Bool.eq_iff_iff,List.isEmpty_iff,List.isEmpty_iff,←List.length_eq_zero_iff,←List.length_eq_zero_iff,hl]
  ·have dQ:List.getLastD (d2++[r]) 0=r:=by simp
   rw[dQ];refine⟨by simp,rfl,fun w=>⟨by simp only[List.length_singleton];omega,rfl,rfl,(fun c=>by cases c),fun _=>?_⟩⟩;refine⟨(d2++[r],ys++[(x.getD r (0,false)).1]),⟨⟨trivial,trivial,trivial⟩,?_⟩,pE r _ hr fy (by rw[nY];simp)⟩;and_intros<;>first|rfl|trivial|simp
 ·have dQ:List.getLastD (dn++[r]) 0=r:=by simp
  rw[dQ];refine⟨by simp,(T2 (.i .i64) x (m.getD r ((0,0),0)).1.1 true,dn++[r]),(by and_intros<;>first|rfl|trivial),hq r _ hr fy (hx.snoc r)⟩
theorem Hn {n mo:Nat}{wv:Nat→Int→Bool}{k:Nat}{L L':List ((Int×Int)×Int)}(h:(J9 n mo).map (fun q=>(q,wyK n mo wv k q))=L)
  (h':(J9 n mo).map (fun q=>(q,((J9 n mo).map fun p=>L5 n mo (wv k) p (Xl L p) q).sum))=L'):(J9 n mo).map (fun q=>(q,wyK n mo wv (k+1) q))=L':=by
 have hL:∀ p∈J9 n mo,Xl L p=wyK n mo wv k p:=fun p hp=>by
  have hn:(L.map (·.1)).Nodup:=by
   rw[←h,List.map_map];have:((fun x:(Int×Int)×Int=>x.1) ∘ fun q=>(q,wyK n mo wv k q))=id:=rfl;rw[this,List.map_id];exact NS n mo
  have hm:(p,wyK n mo wv k p)∈L:=by rw[←h];exact List.mem_map.2 ⟨p,hp,rfl⟩
  exact IF hn hm
 rw[←h'];refine List.map_congr_left fun q _=>?_;have:((J9 n mo).map fun p=>L5 n mo (wv k) p (Xl L p) q)=(J9 n mo).map fun p=>L5 n mo (wv k) p (wyK n mo wv k p) q:=List.map_congr_left fun p hp=>by rw[hL p hp]
 rw[this];rfl
def five:List DL:=[(0,1,false),(3,8,false),(1,2,false),(2,4,false),(4,15,false)]
def clo5:List Int:=[8,2,2,-1,1]
theorem Q8u:(J9 5 2).map (fun q=>(q,wyK 5 2 (fun k=>wvB 4 five clo5 k) 0 q))=[((0,0),1),((0,1),0),((0,2),0),((1,0),1),((1,1),0),((1,2),0),((2,0),1),((2,1),0),((2,2),0),((3,0),1),((3,1),0),((3,2),0),((4,0),1),((4,1),0),((4,2),0)]:=by kernel_rfl
theorem Q8m:(J9 5 2).map (fun q=>(q,wyK 5 2 (fun k=>wvB 4 five clo5 k) 1 q))=[((0,0),0),((0,1),0),((0,2),0),((1,0),0),((1,1),1),((1,2),0),((2,0),1),((2,1),0),((2,2),0),((3,0),0),((3,1),1),((3,2),0),((4,0),0),((4,1),0),((4,2),0)]:=Hn Q8u (by kernel_rfl)
theorem Q9c:(J9 5 2).map (fun q=>(q,wyK 5 2 (fun k=>wvB 4 five clo5 k) 2 q))=[((0,0),0),((0,1),0),((0,2),0),((1,0),0),((1,1),0),((1,2),0),((2,0),0),((2,1),1),((2,2),0),((3,0),1),((3,1),0),((3,2),0),((4,0),0),((4,1),1),((4,2),0)]:=Hn Q8m (by kernel_rfl)
theorem Q8d:(J9 5 2).map (fun q=>(q,wyK 5 2 (fun k=>wvB 4 five clo5 k) 3 q))=[((0,0),0),((0,1),0),((0,2),0),((1,0),0),((1,1),0),((1,2),0),((2,0),0),((2,1),0),((2,2),1),((3,0),0),((3,1),1),((3,2),0),((4,0),0),((4,1),0),((4,2),1)]:=Hn Q9c (by kernel_rfl)
theorem Q7l:(J9 5 2).map (fun q=>(q,wyK 5 2 (fun k=>wvB 4 five clo5 k) 4 q))=[((0,0),0),((0,1),0),((0,2),2),((1,0),0),((1,1),0),((1,2),0),((2,0),0),((2,1),0),((2,2),0),((3,0),0),((3,1),0),((3,2),2),((4,0),0),((4,1),1),((4,2),0)]:=Hn Q8d (by kernel_rfl)
theorem Oc:(J9 5 2).map (fun q=>(q,wyK 5 2 (fun k=>wvB 4 five clo5 k) 5 q))=[((0,0),0),((0,1),0),((0,2),0),((1,0),0),((1,1),0),((1,2),2),((2,0),0),((2,1),0),((2,2),0),((3,0),0),((3,1),0),((3,2),0),((4,0),0),((4,1),0),((4,2),0)]:=Hn Q7l (by kernel_rfl)
theorem IA:Cw 4 five clo5 2=2:=by
 have h:(((J9 5 2).map (fun q=>(q,wyK 5 2 (fun k=>wvB 4 five clo5 k) 5 q))).map fun x=>x.2).sum=2:=by rw[Oc];rfl
 rw[List.map_map] at h;exact h
theorem F2:J4 4 five clo5 2=[1]:=by
 refine DJ (Gr ..) (by simp) fun z=>?_;rw[TL (by decide)];have ae:∀ q∈J9 5 2,(q,wyK 5 2 (fun k=>wvB 4 five clo5 k) 5 q)∈([((0,0),0),((0,1),0),((0,2),0),((1,0),0),((1,1),0),((1,2),2),((2,0),0),((2,1),0),((2,2),0),((3,0),0),((3,1),0),((3,2),0),((4,0),0),((4,1),0),((4,2),0)]:List ((Int×Int)×Int)):=fun q hq=>by rw[←Oc];exact List.mem_map.2 ⟨q,hq,rfl⟩
 constructor
 ·rintro⟨f,hf⟩;have hg:=Sm 5 2 (fun k=>wvB 4 five clo5 k) (by decide) 5 (z,f) hf;have h:=ae _ hg;have hf:wyK 5 2 (fun k=>wvB 4 five clo5 k) 5 (z,f)≠0:=hf;generalize wyK 5 2 (fun k=>wvB 4 five clo5 k) 5 (z,f)=w at h hf;simp only[List.mem_cons,List.not_mem_nil,or_false,Prod.mk.injEq] at h;simp only[List.mem_cons,List.not_mem_nil,or_false];omega
 ·intro hz;simp only[List.mem_cons,List.not_mem_nil,or_false] at hz;rcases hz with rfl
  ·refine⟨2,?_⟩;have hm:(((1,2),2):(Int×Int)×Int)∈(J9 5 2).map (fun q=>(q,wyK 5 2 (fun k=>wvB 4 five clo5 k) 5 q)):=by rw[Oc];simp
   obtain⟨q,_,hq⟩:=List.mem_map.1 hm;have h1:q=(1,2):=congrArg (fun x:(Int×Int)×Int=>x.1) hq;have h2:wyK 5 2 (fun k=>wvB 4 five clo5 k) 5 q=2:=congrArg (fun x:(Int×Int)×Int=>x.2) hq;rw[h1] at h2;show wyK 5 2 (fun k=>wvB 4 five clo5 k) 5 (1,2)≠0;rw[h2];decide
theorem TG {bl:List PB}{i:Nat}{k:Kind}(hk:k.flat=true) (xs:List k.T) {b:PB}(hb:bl[i]?=some b) (hc:b.c=(xs.map (Sv k)).flatten) (hs:b.esz.sz=k.size):SlRel (Qt bl []) k.size (fun x c=>KC (Qt bl []) k x c) xs (.slice (some ⟨i,0,none⟩) xs.length xs.length):=by
 have hr:=Rows.ofEnc (h:=Qt bl []) hk xs;have hl:=hr.length KC.rows_len;refine .inr ⟨i,0,xs.length,b.c,b.esz,false,b.tight,rfl,Nat.le_refl _,?_,hs,?_,?_⟩
 ·have hi:=(List.getElem?_eq_some_iff.1 hb).1;show (if i<bl.length then (bl[i]?).map (PB.blk false) else _)=_;rw[if_pos hi,hb];rfl
 ·rw[hc,hl];omega
 ·rw[List.drop_zero,hc,List.take_of_length_le (by rw[hl];exact Nat.le_refl _)];exact hr
theorem Rg {bl fr:List PB}{bs:List OB}(h:bs.map It=fr.map fun b=>some (b.blk true)):Bz (Qt bl []) bs=Qt bl fr:=by
 have hl:bs.length=fr.length:=by have:=congrArg List.length h;simpa using this
 have hg:(Bz (Qt bl []) bs).get=(Qt bl fr).get:=by
  funext i
  show (if i<(Qt bl []).n then (Qt bl []).get i else (bs[i-(Qt bl []).n]?).bind It)=if i<bl.length then (bl[i]?).map (PB.blk false) else (fr[i-bl.length]?).map (PB.blk true)
  have hn:(Qt bl []).n=bl.length:=by show bl.length+0=_;omega
  rw[hn];by_cases hi:i<bl.length
  ·rw[if_pos hi,if_pos hi];show (if i<bl.length then (bl[i]?).map (PB.blk false) else _)=_;rw[if_pos hi]
  ·rw[if_neg hi,if_neg hi];have:=congrArg (fun l:List (Option Blk)=>l[i-bl.length]?) h;simp only[List.getElem?_map] at this;cases e1:bs[i-bl.length]? with
   |none =>
    rw[e1] at this;cases e2:fr[i-bl.length]? with
    |none=>rfl
    |some b=>rw[e2] at this;simp at this
   |some b =>
    rw[e1] at this;cases e2:fr[i-bl.length]? with
    |none=>rw[e2] at this;simp at this
    |some b2 =>rw[e2] at this;simp only[Option.map_some,Option.some.injEq] at this;simp only[Option.bind_some,Option.map_some];exact this
 have hn:(Bz (Qt bl []) bs).n=(Qt bl fr).n:=by show bl.length+0+bs.length=bl.length+fr.length;omega
 cases hA:Bz (Qt bl []) bs with
 |mk g n w =>
  cases hB:Qt bl fr with
  |mk g' n' w' =>rw[hA,hB] at hg hn;subst hg;subst hn;rfl
abbrev Q6a:Kind:=.pair (.i .i64) (.pair (.i .i64) .bo)
def HB5:List PB:=[⟨[.int .i64 0,.int .i64 1,.bool false,.int .i64 3,.int .i64 8,.bool false,.int .i64 1,.int .i64 2,.bool false,.int .i64 2,.int .i64 4,.bool false,.int .i64 4,.int .i64 15,.bool false],⟨3,87⟩,true⟩,⟨[.int .i64 8,.int .i64 2,.int .i64 2,.int .i64 (-1),.int .i64 1],⟨1,3⟩,true⟩]
def IC:List Value:=[.agg #[.int .i64 4,.slice (some ⟨0,0,none⟩) 5 5],.slice (some ⟨1,0,none⟩) 5 5,.int .i64 2]
def SW:List SV:=[.agg [.val (.i .i64) (4:Int),.val (.list Q6a) five],.val (.list (.i .i64)) clo5,.val (.i .i64) (2:Int)]
theorem HP:SRs Tryz.prog (Qt HB5 []) Jq ZF SW IC:=by
 have h1:SlRel (Qt HB5 []) (Kind.size Q6a) (fun x c=>KC (Qt HB5 []) Q6a x c) five (.slice (some ⟨0,0,none⟩) 5 5):=TG (bl:=HB5) (i:=0) (k:=Q6a) rfl five (b:=HB5[0]'(by decide)) rfl rfl rfl;have h2:SlRel (Qt HB5 []) (Kind.size (.i .i64)) (fun x c=>KC (Qt HB5 []) (.i .i64) x c) clo5 (.slice (some ⟨1,0,none⟩) 5 5):=TG (bl:=HB5) (i:=1) (k:=.i .i64) rfl clo5 (b:=HB5[1]'(by decide)) rfl rfl rfl;have s1:SR Tryz.prog (Qt HB5 []) Jq ZF (.val (.list Q6a) five) (.slice (some ⟨0,0,none⟩) 5 5):=by simp only[SR,KC];exact⟨_,rfl,h1⟩
 have s2:SR Tryz.prog (Qt HB5 []) Jq ZF (.val (.list (.i .i64)) clo5) (.slice (some ⟨1,0,none⟩) 5 5):=by simp only[SR,KC];exact⟨_,rfl,h2⟩
 have s3:∀ n:Int,SR Tryz.prog (Qt HB5 []) Jq ZF (.val (.i .i64) n) (.int .i64 n):=fun n=>Xb _ _;have s0:SR Tryz.prog (Qt HB5 []) Jq ZF (.agg [.val (.i .i64) (4:Int),.val (.list Q6a) five]) (.agg #[.int .i64 4,.slice (some ⟨0,0,none⟩) 5 5]):=by simp only[SR,SRs];exact⟨_,rfl,_,_,rfl,s3 4,_,_,rfl,s1,rfl⟩
 show SRs Tryz.prog (Qt HB5 []) Jq ZF [_,_,_] [_,_,_];simp only[SRs];exact⟨_,_,rfl,s0,_,_,rfl,s2,_,_,rfl,s3 2,rfl⟩
theorem M0:Q7 4 five=0∧clo5.length≤60∧(∀ r∈clo5,-1≤r∧r<2 ^ (4:Int).toNat)∧(0:Int)≤2∧(2:Int)≤6:=by refine⟨by decide,by decide,fun r hr=>?_,by decide,by decide⟩;simp only[clo5,List.mem_cons,List.not_mem_nil,or_false] at hr;have:(2:Int) ^ (4:Int).toNat=16:=rfl;omega
def Q9f:Memo:=⟨IC,HB5,.tuple #[.int .i64 2,.int .i64 0],[]⟩
def Q3t:Memo:=⟨IC,HB5,.tuple #[.slice (some ⟨2,0,none⟩) 1 1,.int .i64 0],[⟨[.int .i64 1],⟨1,3⟩,false⟩]⟩
theorem Q0b:UJ Tryz.prog 27 Q9f:=by refine⟨?_,by decide⟩;have h:=(RD Nb W_ (Qt HB5 []) SW IC _ _ [] HP (show NB Nb SW=some (_,.tup [.val (.i .i64) (Cw 4 five clo5 2),.val (.i .i64) (0:Int)],[]) from rfl) rfl rfl M0).2 rfl rfl;refine VCalled.mono h fun u τ hu=>?_;obtain⟨rfl,rfl⟩:=hu;rw[IA];exact⟨rfl,Rg (bl:=HB5) (fr:=[]) rfl⟩
theorem Ic:UJ Tryz.prog 28 Q3t:=by refine⟨?_,by decide⟩;have h:=(PD Nb W_ (Qt HB5 []) SW IC _ _ [.lst 3 (.i .i64) (J4 4 five clo5 2) (J4 4 five clo5 2).isEmpty] HP (show Vt Nb SW=some (_,.tup [.lst 0,.val (.i .i64) (0:Int)],_) from rfl) rfl rfl ⟨M0.1,M0.2.1,M0.2.2.1,M0.2.2.2.1,M0.2.2.2.2,by decide⟩).2 rfl rfl;refine VCalled.mono h fun u τ hu=>?_;obtain⟨rfl,rfl⟩:=hu;rw[F2];exact⟨rfl,Rg (bl:=HB5) (fr:=[⟨[.int .i64 1],⟨1,3⟩,false⟩]) rfl⟩
end Go.Proofs.Tryz
namespace Go.Proofs.Tryz
open Go Go.V
def Z3w:List (Option FEnt):=[
 none,
 none,
 some (.code c2 [] 1),
 some (.code c3 [.tmp 2] 84),
 some (.code c4 [.tmp 4] 203),
 some (.code c5 [.tmp 2] 92),
 some (.code c6 [.tmp 6] 129),
 some (.code c7 [.tmp 4] 283),
 some (.code c8 [.tmp 6] 207),
 some (.code c9 [.tmp 2] 249),
 some (.code c10 [.tmp 6] 205),
 some (.code c11 [.tmp 2] 265),
 some (.code c12 [.tmp 4] 132),
 some (.code c13 [.tmp 4] 228),
 some (.code c14 [.tmp 6] 133),
 some (.code c15 [.tmp 0] 226),
 some (.code c16 [.cell 2 true 2] 9),
 some (.codeM c17 [.tmp 2,.tmp 3] 49 [mMoved]),
 some (.codeJ c18 [.cell 2 true 2,.tmp 3] 34),
 some (.code c19 [.tmp 2] 32),
 some (.code c20 [.tmp 2] 45),
 some (.code c21 [.tmp 4] 17),
 some (.code c22 [.tmp 4] 26),
 some (.code c23 [.tmp 2] 74),
 some (.code c24 [.cell 2 true 2] 44),
 some (.code c25 [.tmp 2] 6),
 some (.codeM c26 [.tmp 4,.tmp 5,.tmp 6,.tmp 7] 79 [mCourse]),
 some (.codeM c27 [.tmp 6,.tmp 7] 29 [Q9f]),
 some (.codeM c28 [.tmp 6,.tmp 7] 33 [Q3t]),
 some (.code c29 [.tmp 4] 15),
 some (.code c30 [.tmp 6] 15),
 some (.code c31 [.cell 4 true 4,.tmp 5] 41),
 some (.code c32 [.tmp 6,.tmp 7] 60),
 some (.code c33 [.tmp 2] 37),
 some (.code c34 [.cell 2 true 3] 34),
 some (.code c35 [.tmp 2] 36),
 some (.codeM c36 [.tmp 2,.tmp 3] 34 [mCount]),
 some (.codeJ c37 [.cell 2 false 1,.tmp 3] 44),
 some (.code c38 [.tmp 2] 78),
 some (.code c39 [.tmp 4] 63),
 some (.code c40 [.tmp 2] 5),
 some (.code c41 [.tmp 4] 27),
 some (.codeM c42 [.tmp 6,.tmp 7] 57 [mPlaces]),
 some (.codeM c43 [.tmp 2,.tmp 3] 45 [mLost]),
 some (.code c44 [.tmp 8] 46),
 some (.code c45 [.tmp 4] 66),
 some (.code c46 [.cell 2 true 2] 50),
 some (.codeJ c47 [.cell 2 true 2,.tmp 3] 54),
 some (.codeJ c48 [.tmp 6,.tmp 7,.tmp 8] 58),
 some (.code c49 [.tmp 4] 20),
 some (.code c50 [.tmp 4] 16),
 some (.code c51 [.cell 2 true 2] 74),
 some (.code c52 [.tmp 4] 52),
 some (.code c53 [.cell 2 true 2] 37),
 some (.code c54 [.tmp 4,.tmp 5,.tmp 6,.tmp 7,.tmp 8] 91),
 some (.code c55 [.cell 2 true 3,.tmp 3] 165),
 some (.code c56 [.tmp 4] 37),
 some (.code c57 [.tmp 2] 11),
 some (.code c58 [.cell 2 true 2,.tmp 3] 54),
 some (.code c59 [.tmp 6,.tmp 7,.tmp 8] 65),
 some (.code c60 [.cell 0 true 2] 8),
 some (.code c61 [.cell 2 true 3] 23),
 some (.code c62 [.cell 2 true 3,.tmp 3] 43),
 some (.code c63 [.tmp 4] 25),
 some (.code c64 [.tmp 4] 12),
 some (.code c65 [.tmp 2] 4),
 some (.code c66 [.tmp 4] 10),
 some (.code c67 [.tmp 4] 20),
 some (.code c68 [.tmp 4] 14),
 some (.code c69 [.tmp 4] 26),
 some (.code c70 [.tmp 4] 55),
 some (.code c71 [.tmp 4] 41),
 some (.code c72 [.tmp 4] 33),
 some (.code c73 [.cell 4 true 4,.tmp 5] 33),
 some (.code c74 [.tmp 2] 70),
 some (.code c75 [.tmp 2] 25),
 some (.code c76 [.tmp 4] 19),
 some (.code c77 [.tmp 2] 5),
 some (.code c78 [.tmp 6] 15),
 some (.code c79 [.tmp 6,.tmp 7] 28),
 some (.code c80 [.tmp 2] 9),
 some (.code c81 [.tmp 2] 4),
 some (.code c82 [.tmp 4] 30),
 some (.code c83 [.tmp 4] 24),
 some (.code c84 [.tmp 2] 7),
 some (.code c85 [.tmp 3] 9),
 some (.code c86 [.tmp 4] 16),
 some (.code c87 [.tmp 2] 6),
 some (.code c88 [.tmp 6] 11),
 some (.code c89 [.tmp 4] 9),
 some (.code c90 [.cell 4 false 1] 39),
 some (.code c91 [.tmp 4] 76),
 some (.code c92 [.cell 6 false 1] 110),
 some (.code c93 [.tmp 4] 26),
 some (.code c94 [.tmp 4] 19),
 some (.code c95 [.tmp 6] 29),
 some (.code c96 [.tmp 4] 9),
 some (.code c97 [.tmp 2] 9),
 some (.code c98 [.tmp 6] 88),
 some (.code c99 [.tmp 4] 6),
 some (.code Z1y [.tmp 4] 9),
 some (.code Z1k [.tmp 4] 23),
 some (.code Z0l [.tmp 4] 10),
 some (.code Z0b [.cell 2 true 3,.tmp 3] 30),
 some (.code Q9v [.tmp 4] 26),
 some (.code Q9u [.tmp 4] 11),
 some (.code Z1h [.cell 2 true 3] 5),
 some (.code Z3m [.cell 6 false 1] 73),
 some (.code Z2b [.tmp 2] 5),
 some (.code Z2z [] 14),
 some (.code Z3b [] 16),
 some (.code Z0s [.tmp 2] 6),
 some (.code Z06 [.tmp 3] 14),
 some (.code Q9t [.tmp 4] 9),
 some (.code Z2n [.tmp 2] 4),
 some (.code Z1q [.tmp 4] 48),
 some (.code Z0j [.tmp 6] 25),
 some (.code Z3i [] 28),
 some (.code Z0r [.tmp 4] 52),
 some (.code Z0k [.tmp 2] 5),
 some (.code Z0f [] 11),
 some (.code Z0i [] 14),
 some (.code Z0y [.tmp 6] 79),
 some (.code Z0g [.tmp 3] 17),
 some (.code Z0q [.tmp 4] 9),
 some (.code Z0d [.tmp 4] 13),
 some (.code Z1w [.tmp 4] 19),
 some (.code Z17 [.tmp 6] 8),
 some (.code Z33 [] 14),
 some (.code Z26 [.tmp 4] 36),
 some (.code Z3h [.tmp 4] 66),
 some (.code Z2v [.tmp 4] 26),
 some (.code Z2o [.tmp 6] 22),
 some (.code Z0x [.tmp 3] 12),
 some (.code Z3d [.tmp 4] 143),
 some (.code Z1n [] 31),
 some (.code Z15 [.tmp 4] 19),
 some (.code Z0p [.tmp 4] 13),
 some (.code Z10 [.tmp 4] 6),
 some (.code Z1o [.tmp 4] 13),
 some (.code Z1m [] 148),
 some (.code Z0a [.tmp 2] 8),
 some (.code Q9z [.tmp 4] 19),
 some (.code Z2c [] 19),
 some (.code Z23 [.tmp 4,.tmp 5] 30),
 some (.code Q9r [] 39),
 some (.code Z01 [.tmp 4] 13),
 some (.code Q9s [] 134),
 some (.code Z02 [.tmp 4] 19),
 some (.code Z12 [] 45),
 some (.code Z29 [.tmp 8] 55),
 some (.code Z32 [] 148),
 some (.code Z3f [.tmp 4] 18),
 some (.code Z0h [.tmp 2] 26),
 some (.code Z0w [] 20),
 some (.code Z1c [] 53),
 some (.code Z2a [] 60),
 some (.code Z11 [] 67),
 some (.code Z16 [.tmp 8,.tmp 9] 63),
 some (.code Z35 [] 34),
 some (.code Z2y [.tmp 8] 141),
 some (.code Z1p [.tmp 10] 90),
 some (.code Z25 [.tmp 10,.tmp 11] 178),
 some (.code Q9x [.tmp 2] 19),
 some (.code Z09 [.tmp 2] 25),
 some (.code Z28 [.tmp 4,.tmp 5] 17),
 some (.code Z2q [.tmp 4,.tmp 5] 51),
 some (.code Q9y [] 49),
 some (.code Z3g [] 56),
 some (.code Z1e [] 65),
 some (.code Z0t [.tmp 6,.tmp 7] 57),
 some (.code Z2s [] 32),
 some (.code Z1x [.tmp 6] 133),
 some (.code Z04 [.tmp 4] 17),
 some (.code Z18 [.tmp 8] 84),
 some (.code Z14 [.tmp 8,.tmp 9] 168),
 some (.code Z1i [] 53),
 some (.code Z0z [] 60),
 some (.code Z2t [] 67),
 some (.code Z19 [.tmp 8,.tmp 9] 63),
 some (.code Z21 [] 34),
 some (.code Z27 [.tmp 8] 141),
 some (.code Z2w [.tmp 10] 90),
 some (.code Z2u [.tmp 10,.tmp 11] 178),
 some (.code Z07 [.tmp 2] 22),
 some (.code Z2g [] 82),
 some (.code Z20 [.tmp 2] 7),
 some (.code Z3e [.tmp 2] 33),
 some (.code Z31 [.tmp 8] 18),
 some (.code Z1l [.tmp 12] 41),
 some (.code Z3j [] 76),
 some (.code Z2i [.tmp 6] 15),
 some (.code Z1t [.tmp 10] 36),
 some (.code Z1g [] 82),
 some (.code Z30 [.tmp 8] 18),
 some (.code Z2r [.tmp 12] 41),
 some (.code Z34 [.tmp 10,.tmp 11] 32),
 some (.code Z2m [.tmp 8,.tmp 9] 28),
 some (.code Z2e [.tmp 10,.tmp 11] 32)]
def tab:Tab:=fun f=>(Z3w[f]?).join
theorem Q3x:EntsOk Tryz.prog 0 Z3w:=⟨trivial,trivial,Z3p,Z4j,Z41,Z4c,Z3z,Z3y,Z4m,Z3r,Q8j,Q7o,Q6y,Q6q,fun14,Q3z,Q62,⟨Q90,fun m hm=>by rw[List.mem_singleton] at hm;subst hm;exact Fy⟩,Q7w,Q52,Q8c,Q5h,Q5f,Q7p,Q87,Q4a,⟨Q7b,fun m hm=>by rw[List.mem_singleton] at hm;subst hm;exact Er⟩,⟨Q4c,fun m hm=>by rw[List.mem_singleton] at hm;subst hm;exact Q0b⟩,⟨Q5y,fun m hm=>by rw[List.mem_singleton] at hm;subst hm;exact Ic⟩,Q9a,Q5w,Q7u,Q9o,Q8i,Q93,Q6z,⟨Q9i,fun m hm=>by rw[List.mem_singleton] at hm;subst hm;exact Og⟩,Q7m,Q9j,Q81,Q85,Q98,⟨Q7n,fun m hm=>by rw[List.mem_singleton] at hm;subst hm;exact Ep⟩,⟨Q8f,fun m hm=>by rw[List.mem_singleton] at hm;subst hm;exact Q03⟩,Q89,Q91,Q88,Q4z,Q5x,Q8n,Q7d,Q8e,Q8a,Q8v,Q8l,Q82,Q7v,Q46,Q5b,Q5i,Q99,Q6n,Q6u,Q7a,Q8s,Q73,Q7e,Q7g,Q5l,Q4m,Q6v,Q86,Q41,Q60,Q9l,Q9q,Q8x,Q4l,Q4b,Q5c,Q5z,Q4g,Q6p,Q6t,Q9g,Q9d,Q5o,Q43,Q4i,Q75,Q7r,Q79,Q7t,Q77,Q8q,Q7z,Q92,Q6m,Q7j,Q7c,Q2g,Q15,FA,Fq,F7,FL,Q2m,Q2b,Q1j,Q1v,Q36,IX,Ij,FY,Q28,Q23,I4,Q3q,O8,O7,I5,Oi,Q2w,Oj,IH,O5,Q2d,Q2p,Q1n,Q2u,Q2s,Q3u,Q35,Q2f,Q3o,Q1l,Q38,IQ,Q3a,Q27,Q18,Iu,Ib,Q1g,Q2n,Ig,Ie,Fe,Is,Q1r,Q26,Q20,Q30,O2,Q3p,Q1z,Q2z,Q3h,Q3b,Q3m,Q1y,Q1s,Q3r,I3,Od,Q3g,Q1i,Ir,Q1a,Q2q,Q1f,Q3k,Q21,IW,Q3e,Q3i,Q29,Q1w,Q2k,Q2c,Q1p,Q25,Q2v,Q31,Oh,Q16,Q1x,Q3f,Q3j,Q2h,Q3l,Q3v,Q3c,Q1t,Q1d,Q39,Q3s,Q1c,Q22,trivial⟩
theorem Q9p:TabOk Tryz.prog tab:=Ax Q3x
end Go.Proofs.Tryz
