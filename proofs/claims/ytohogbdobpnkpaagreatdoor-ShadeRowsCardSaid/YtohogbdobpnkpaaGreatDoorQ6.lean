/- A framework for walks, contracts of functions, and their proofs: part 6. -/
import Derived.Test.YtohogbdobpnkpaaGreatDoorQ5
namespace Go.V
open Go
def Bv (ap:Ap) (j:Nat) (sp:LSp):XSp:=fun _ args s K =>
 match args[j]? with
 |some (.lst o) =>
  let s1:=(⟨s.env++Ym j args,s.own,s.nx⟩:St).frzs (Yp (Ym j args));let a1:=s1.env.drop s.env.length
  bif SVs.pure a1&&(Q8 s1.own o).isL then (match sp ap (Q8 s1.own o) a1 with
   |some (c,v,b)=>bif v.pure&&b.isL then c∧K v ⟨s1.env.take s.env.length,oset s1.own o b,s1.nx⟩ else False
   |none=>False) else False
 |_=>False
def Vl (nt j:Nat) (b:OB) (vals:List Value) (args:List SV):St:=⟨NG j (.lst 0) args++List.replicate (nt-(args.length+1)) .any,[(0,b),(4000000,.stk [.lst 0] vals)],0⟩
theorem PX {α:Type}:∀ (j:Nat) (x:α) (l:List α),(NG j x l).length=l.length+1
 |0,_,_=>rfl
 |j+1,x,[]=>rfl
 |j+1,x,a::l=>by simp only[NG,List.length_cons];rw[PX j x l]
section
variable {P:Program}
theorem Gam.frzs {B F:Heap}{pl:Nat→Value}{tb:Nat→Option Bool}{env:Env}{σ:Heap}:∀ (l:List Nat) {s:St},Gam P B F pl tb s env σ→∃ B' F',GBase B F σ B' F' σ∧Gam P B' F' pl tb (s.frzs l) env σ
 |[],_,h=>⟨B,F,.of h.bf (.refl _),h⟩
 |o::r,s,h=>by obtain⟨B1,F1,g1,g2⟩:=h.frz o;obtain⟨B2,F2,g3,g4⟩:=Gam.frzs r g2;exact⟨B2,F2,g1.trans g3,g4⟩
theorem RM {f:Nat}{vc:VCode}{rs:List VResult}{nt:Nat}(h:Fun P f vc rs nt) (hm:P.follows .mixedOrders=true) {B F:Heap}{pl:Nat→Value}{tb:Nat→Option Bool}{s:St}{env:Env}{σ:Heap}{j o:Nat}{args bm:List SV}{us vs:List Value}{ty:Nat}{k:Kind}{xs:List k.T}{nl:Bool}{v:SV}{b':OB}{C:Cx}{L:List Value→List (Nat×LoopAnn)}{K:SV→St→Prop}{R:Value→Heap→Prop}
  (hG:Gam P B F pl tb s env σ) (p7:SVs.pure args=true) (dL:SRs P B pl tb args us) (ld:SR P B pl tb (.lst o) (pl o))
  (g6:∀ (B':Heap) (pl':Nat→Value) (tb':Nat→Option Bool) (l':List SV) (x:SV),SRs P B' pl' tb' l' us→SR P B' pl' tb' x (pl o)→SRs P B' pl' tb' (NG j x l') vs) (aF:Q8 s.own o=.lst ty k xs nl)
  (g_:SVs.pure bm=true) (lr:∀ σ vs,SRs P σ ZK Z8 args vs→SRs P σ ZK Z8 bm vs) (av:COk P C) (hg:∀ vals,gwp C (L vals) vc 0 (AZ vals rs v b' (.lst 0)) (Vl nt j (.lst ty k xs nl) vals bm)) (cA:v.pure=true∧b'.isL=true)
  (hx:K v ⟨s.env,oset s.own o b',s.nx⟩) (hK:∀ v s' B' F' pl' tb' u σ',K v s'→GBase B F σ B' F' σ'→Gam P B' F' pl' tb' s' env σ'→SR P B' pl' tb' v u→R u σ'):VCalled P f vs σ R:=by
 have aq:(Q8 s.own o).live=true:=by rw[aF];rfl
 have aj:=hG.obj o;rw[aF] at aj;simp only[SR] at ld;obtain⟨-,hs⟩:=ld;have aZ:∀ i,oid (pl o)=some i→F.get i=none:=fun i hi=>hG.fresh o i aq (Mq hi);have lh:∀ i,oid (pl o)=some i→B.get i=none:=fun i hi=>by
  cases hg:B.get i with
  |none=>rfl
  |some b=>have:=hG.bf.2 _ _ hg;rw[aZ i hi] at this;cases this
 have dm:∀ l,pl o≠.tuple l:=fun l he=>by obtain⟨_,_,_,hs⟩:=hs;rw[he] at hs;cases hs
 have lu:∀ (B:Heap) (pl':Nat→Value) (tb':Nat→Option Bool),(SR P B pl' tb' (.lst 0) (pl o)↔pl' 0=pl o):=fun B pl' tb'=>by simp only[SR];exact⟨fun h=>h.1.symm,fun h=>⟨h.symm,hs⟩⟩
 have hg:=hg [pl o];let σc:=BQ σ (pl o);have oq:B.Le σc:=TZ hG.leB lh;have ot:F.Le σc:=TZ hG.le aZ;have au:SRs P B ZK Z8 bm us:=lr B us (QG _ _ p7 dL);let iw:Nat→Value:=fun q=>if q=0 then pl o else poison
 have bC:GRel P B σc σ (Vl nt j (.lst ty k xs nl) [pl o] bm) (vs++List.replicate (nt-vs.length) undef) σ:=by
  refine⟨B,σc,iw,Z8,⟨.refl _,.refl _,fun _ _ _ h=>h,.refl _⟩,oq,Ar _ _,?_,fun j=>?_,fun j i h1 h2=>?_,fun j j' i aB h1 h2 h3 h4=>?_,fun _ _=>rfl⟩
  ·have h0:=g6 B iw Z8 bm (.lst 0) (QG _ _ g_ au) ((lu _ _ _).2 (by simp[iw]));have hl:=h0.length;rw[PX] at hl;simp only[Vl];rw[hl];exact SRs.append h0 (Bw _)
  ·simp only[Vl,Q8];by_cases e0:j=0
   ·subst e0;simp only[Nat.beq_refl,_root_.cond_true];exact aj
   ·rw[QW (fun e=>e0 e.symm),cond_false];by_cases e1:j=4000000
    ·subst e1;simp only[Nat.beq_refl,_root_.cond_true];exact⟨pl o,[],rfl,(lu _ _ _).2 (by simp[iw]),rfl⟩
    ·rw[QW (fun e=>e1 e.symm),cond_false];trivial
  ·simp only[Vl,Q8] at h1;by_cases e0:j=0
   ·subst e0;exact SO (Ic dm h2)
   ·rw[QW (fun e=>e0 e.symm),cond_false] at h1;by_cases e1:j=4000000
    ·subst e1;cases h1
    ·rw[QW (fun e=>e1 e.symm),cond_false] at h1;cases h1
  ·have z:∀ j,(Q8 (Vl nt j (.lst ty k xs nl) [pl o] bm).own j).live=true→j=0:=fun j h1=>by
    simp only[Vl,Q8] at h1;by_cases e0:j=0
    ·exact e0
    ·rw[QW (fun e=>e0 e.symm),cond_false] at h1;by_cases e1:j=4000000
     ·subst e1;cases h1
     ·rw[QW (fun e=>e1 e.symm),cond_false] at h1;cases h1
   exact aB ((z j h1).trans (z j' h2).symm)
 refine h.calls hm Gt ?_;refine VN av vc 0 _ _ _ σ none _ trivial bC hg fun e s' ae σ' h1 h2=>?_
 have main:(match XC s' rs,Q8 s'.own 4000000 with
  |some r,.stk l vs=>vs=[pl o]∧YO [(0,some 0)] [.lst 0] l∧NB [] v r∧Cf s' [(0,some 0)] 0 b'
  |_,_=>False)→Qz (ZN ae σ' rs) fun v=>∃ v' aD,DropTo σ v σ' v' aD∧R v' aD:=fun h=>by
  obtain⟨B',F',pl',tb',k1,k2⟩:=h2;split at h
  ·rename_i r l cB hr fB;obtain⟨rfl,m1,m2,m3⟩:=h;obtain⟨w,h3,h4⟩:=X3 k2 hr;rw[h3];have eX:=k2.obj 4000000;rw[fB] at eX;have lk:pl' 0=pl o:=by
    have:=QM [.lst 0] l [pl o] m1 eX;simp only[SRs] at this;obtain⟨u',_,bZ,h5,_⟩:=this;obtain rfl:pl o=u':=(List.cons.inj bZ).1;have:=(lu _ _ _).1 h5;simpa [YP,Qj] using this
   obtain⟨g7,nK⟩:=QC k2 m3;have kV:YP pl' [(0,some 0)] 0=pl o:=by simpa [YP,Qj] using lk
   rw[kV] at g7 nK;have df:=UT (pl':=pl) (tb':=tb) v w cA.1 (XR v r w m2 h4);have hle:σc.Le σ':=k1.f.trans k2.le;have g8:B'.Le σ':=k2.leB;obtain⟨gg,gR,bN,fW,rfl⟩:=OB.isL_lst cA.2;have bw:∀ d,d≠o→(Q8 s.own d).live=true→∀ i,Oid (pl d) i→B'.get i=none∧σ'.get i=σ.get i:=fun d e hl i hi=>by
    have ai:=(hG.obj d).id_lt hl hi;have iP:oid (pl o)≠some i:=fun iP=>hG.sep d o i e hl aq hi (Mq iP);cases hg:σ.get i with
    |none =>
     have hn:=k1.d.2 i ai hg;refine⟨?_,hn⟩;cases bK:B'.get i with
     |none=>rfl
     |some bb=>have:=g8.2 _ _ bK;rw[hn] at this;cases this
    |some bb =>
     have b8:σc.get i=some bb:=by rw[Cw iP];exact hg
     refine⟨k1.x i bb b8 ?_,hle.2 _ _ b8⟩;cases bK:B.get i with
     |none=>rfl
     |some b2=>have:=hG.bf.2 _ _ bK;rw[hG.fresh d i hl hi] at this;cases this
   have nL:∀ i,Oid (pl o) i→B'.get i=none:=fun i hi=>by
    obtain⟨a,_,e2,e3⟩:=nK rfl i hi;have:=k2.fresh a i e2 e3;cases bK:B'.get i with
    |none=>rfl
    |some b2=>have h9:=k2.bf.2 _ _ bK;rw[this] at h9;cases h9
   have nM:F.Le σ':=ot.trans hle;refine⟨w,σ',.refl _ _ _,hK v _ B' (B'.over F) pl tb w σ' hx (.over k1.b g8 nM (fun i b e1 e2=>k1.x i b (ot.2 _ _ e1) e2) k1.d) ⟨Heap.over_left,Heap.over_le g8 nM,SRs.mono k1.b (fun _ _ h=>h) _ _ hG.env,fun d=>?_,fun d i q1 q2=>?_,fun d d' i aB q1 q2 q3 q4=>?_,hG.free⟩ df⟩
   ·simp only[Qf];by_cases e:d=o
    ·subst e;rw[if_pos rfl];exact g7
    ·rw[if_neg e];exact(hG.obj d).mono k1.b (fun _ _ h=>h) fun hl i hi=>(bw d e hl i hi).2
   ·simp only[Qf] at q1;by_cases e:d=o
    ·subst e;exact Heap.over_none (nL i q2) (hG.fresh d i aq q2)
    ·rw[if_neg e] at q1;exact Heap.over_none (bw d e q1 i q2).1 (hG.fresh d i q1 q2)
   ·have lv:∀ d,(Q8 (oset s.own o (.lst gg gR bN fW)) d).live=true→(Q8 s.own d).live=true:=fun d h=>by
     rw[Qf] at h;by_cases e:d=o
     ·subst e;exact aq
     ·rwa [if_neg e] at h
    exact hG.sep d d' i aB (lv d q1) (lv d' q2) q3 q4
  ·exact h.elim
 cases e with
 |normal=>exact main h1
 |ret=>exact main h1
 |_=>exact h1.elim
theorem TK:∀ (j:Nat) {l:List SV}{c:List Value}{o:Nat}{B:Heap}{pl:Nat→Value}{tb:Nat→Option Bool},l[j]?=some (.lst o)→SRs P B pl tb l c →
  ∃ w,SR P B pl tb (.lst o) w∧SRs P B pl tb (Ym j l) (Ym j c)∧∀ (B':Heap) (pl':Nat→Value) (tb':Nat→Option Bool) (l':List SV) (x:SV),SRs P B' pl' tb' l' (Ym j c)→SR P B' pl' tb' x w→SRs P B' pl' tb' (NG j x l') c
 |j,[],c,o,B,pl,tb,h,_=>by simp at h
 |0,a::l,c,o,B,pl,tb,h,hs=>by
  obtain rfl:a=.lst o:=by simpa using h
  simp only[SRs] at hs;obtain⟨w,us,rfl,h1,h2⟩:=hs;exact⟨w,h1,h2,fun B' pl' tb' l' x h3 h4=>by simp only[NG,SRs];exact⟨w,us,rfl,h4,h3⟩⟩
 |j+1,a::l,c,o,B,pl,tb,h,hs=>by
  simp only[SRs] at hs;obtain⟨u,us,rfl,h1,h2⟩:=hs;obtain⟨w,g1,g2,g3⟩:=TK j (by simpa using h) h2;refine⟨w,g1,?_,fun B' pl' tb' l' x h3 h4=>?_⟩
  ·simp only[Ym,SRs];exact⟨u,_,rfl,h1,g2⟩
  ·simp only[Ym] at h3
   match l',h3 with
   |[],h3=>simp only[SRs] at h3;cases h3
   |y::l',h3 =>simp only[SRs] at h3;obtain⟨u',jE,e,h5,h6⟩:=h3;obtain⟨rfl,rfl⟩:=List.cons.inj e;simp only[NG,SRs];exact⟨u,us,rfl,h5,g3 B' pl' tb' l' x h6 h4⟩
theorem R5 {f:Nat}{vc:VCode}{rs:List VResult}{nt:Nat}(h:Fun P f vc rs nt) (hm:P.follows .mixedOrders=true) {sp:LSp}{ap:Ap}{j:Nat}
  (hb:∀ b args c v b',sp ap b args=some (c,v,b')→b.isL=true→c→∃ (C:Cx) (L:List Value→List (Nat×LoopAnn)) (bm:List SV),SVs.pure bm=true∧(∀ σ vs,SRs P σ ZK Z8 args vs→SRs P σ ZK Z8 bm vs)∧COk P C∧∀ vals,gwp C (L vals) vc 0 (AZ vals rs v b' (.lst 0)) (Vl nt j b vals bm)):XOk P f (Bv ap j sp):=by
 intro B F pl tb s env σ d args vs K R hG ha hx hK;unfold Bv at hx;split at hx
 ·rename_i o eD;obtain⟨w,hw,lj,g6⟩:=TK j eD ha;have tB:Gam P B F pl tb ⟨s.env++Ym j args,s.own,s.nx⟩ (env++Ym j vs) σ:=⟨hG.bf,hG.le,hG.env.append lj,hG.obj,hG.fresh,hG.sep,hG.free⟩;obtain⟨B1,F1,qQ,fP⟩:=Gam.frzs (Yp (Ym j args)) tB;generalize ((⟨s.env++Ym j args,s.own,s.nx⟩:St).frzs (Yp (Ym j args)))=s1 at hx fP;dsimp only at hx;have hlen:s.env.length=env.length:=hG.env.length;obtain⟨ic,ga⟩:=SRs.split fP.env;rw[hlen] at hx;have tC:Gam P B1 F1 pl tb ⟨s1.env.take env.length,s1.own,s1.nx⟩ env σ:=⟨fP.bf,fP.le,ic,fP.obj,fP.fresh,fP.sep,fP.free⟩;generalize s1.env.drop env.length=a1 at hx ga;cases kN:(SVs.pure a1&&(Q8 s1.own o).isL) with
  |false=>rw[kN] at hx;exact hx.elim
  |true =>
  rw[kN] at hx;simp only[_root_.cond_true] at hx;simp only[Bool.and_eq_true] at kN;obtain⟨p7,nN⟩:=kN;split at hx
  ·rename_i c v b' ff;cases cA:(v.pure&&b'.isL) with
   |false=>rw[cA] at hx;exact hx.elim
   |true =>
   rw[cA] at hx;obtain⟨hc,hx⟩:=hx;simp only[Bool.and_eq_true] at cA;obtain⟨C,L,bm,g_,lr,av,hg⟩:=hb _ _ c v b' ff nN hc;obtain⟨ty,k,xs,nl,aF⟩:=OB.isL_lst nN;rw[aF] at hg;have mr:SR P B1 pl tb (.lst o) w:=SR.mono qQ.b (fun _ _ h=>h) _ _ hw;obtain rfl:w=pl o:=by simp only[SR] at hw;exact hw.1
   exact RM h hm tC p7 ga mr g6 aF g_ lr av hg cA hx fun v s' B' F' pl' tb' u σ' k1 k2=>hK v s' B' F' pl' tb' u σ' k1 (qQ.trans k2)
  ·exact hx.elim
 ·exact hx.elim
theorem DA {ap:Ap}{ty:Nat}{k:Kind}{D:Type}{l:AL D}{pre:List k.T→Bool→D→Prop}{res:List k.T→Bool→D→SV}{post:List k.T→Bool→D→List k.T}{b:OB}{args:List SV}{c:Prop}{v:SV}{b':OB}
  (h:BH ty k l pre res post ap b args=some (c,v,b')):∃ xs nl d,b=.lst ty k xs nl∧AL.dec ap l args=some d∧c=pre xs nl d∧v=res xs nl d∧b'=.lst ty k (post xs nl d) nl:=by
 unfold BH at h;split at h
 ·rename_i gg k' xs nl;split at h
  ·rename_i e;subst e;split at h
   ·rename_i ys d h1 h2;obtain⟨rfl,rfl,rfl⟩:=(by simpa using h:pre ys nl d=c∧res ys nl d=v∧OB.lst gg k (post ys nl d) nl=b');unfold K2 at h1;split at h1
    ·rename_i e;subst e;obtain rfl:=osj h1;exact⟨xs,nl,d,rfl,h2,rfl,rfl,rfl⟩
    ·cases h1
   ·cases h
  ·cases h
 ·cases h
theorem CN {f:Nat}{vc:VCode}{rs:List VResult}{nt:Nat}(h:Fun P f vc rs nt) (hm:P.follows .mixedOrders=true) {ap:Ap}(dg:AJ P ap) {ty j:Nat}{k:Kind}{D:Type}{l:AL D}{pre:List k.T→Bool→D→Prop}{res:List k.T→Bool→D→SV}{post:List k.T→Bool→D→List k.T}{μ:List k.T→D→Nat}
  {C:Cx}(av:COk P C) (kR:Qj C.xf f=none) {L:List k.T→Bool→D→List Value→List (Nat×LoopAnn)}{V:Nat→List k.T→Bool→D→Prop}
  (hq:∀ n xs nl d,(∀ vals,gwp {C with xs:=(f,Bv ap j (BH ty k l (fun xs nl d=>pre xs nl d∧μ xs d<n) res post))::C.xs} (L xs nl d vals) vc 0 (AZ vals rs (res xs nl d) (.lst ty k (post xs nl d) nl) (.lst 0)) (Vl nt j (.lst ty k xs nl) vals (AL.can l d)))=V n xs nl d)
  (hb:∀ n xs nl d,pre xs nl d→μ xs d=n→V n xs nl d):XOk P f (Bv ap j (BH ty k l pre res post)):=by
 have nF:∀ (x:XSp) g q,Qj C.xf g=some q→∀ y,Qj ((f,x)::C.xs) g=some y→Ac P g y q:=fun x g q hg y hy=>by
  simp only[Qj] at hy;cases hb:Nat.beq f g with
  |true=>obtain rfl:=Nat.eq_of_beq_eq_true hb;rw[kR] at hg;cases hg
  |false=>rw[hb] at hy;exact av.xf g q hg y hy
 have key:∀ n,XOk P f (Bv ap j (BH ty k l (fun xs nl d=>pre xs nl d∧μ xs d<n) res post)):=by
  intro n;induction n using Nat.strongRecOn with
  |ind n ih =>refine R5 h hm fun b args c v b' hs _ hc=>?_;obtain⟨xs,nl,d,rfl,h2,rfl,rfl,rfl⟩:=DA hs;obtain⟨hp,hn⟩:=hc;exact⟨{C with xs:=(f,Bv ap j (BH ty k l (fun bN fW d'=>pre bN fW d'∧μ bN d'<μ xs d) res post))::C.xs},L xs nl d,AL.can l d,AL.can_pure l d,fun σ vs hv=>AL.dec_sound dg l h2 hv,⟨av.cs,XsOk.cons (ih _ hn) av.xs,av.it,av.yl,av.iy,nF _⟩,(hq (μ xs d) xs nl d).mpr (hb _ xs nl d hp rfl)⟩
 refine R5 h hm fun b args c v b' hs _ hc=>?_;obtain⟨xs,nl,d,rfl,h2,rfl,rfl,rfl⟩:=DA hs;exact⟨{C with xs:=(f,Bv ap j (BH ty k l (fun bN fW d'=>pre bN fW d'∧μ bN d'<μ xs d) res post))::C.xs},L xs nl d,AL.can l d,AL.can_pure l d,fun σ vs hv=>AL.dec_sound dg l h2 hv,⟨av.cs,XsOk.cons (key (μ xs d)) av.xs,av.it,av.yl,av.iy,nF _⟩,(hq (μ xs d) xs nl d).mpr (hb _ xs nl d hc rfl)⟩
end
end Go.V
set_option linter.unusedVariables false
namespace Go.Proofs.Tryz
open Go Go.V Go.Proofs
def smP (l:List Lot) (tl a b:Int):Int:=if decide (a<0)||alP l tl a b then 0 else 1
def VK (l:List Lot) (tl:Int):Nat→List Int→List Bool→List Int×Int
 |0,row,_=>(row,Xq (smP l tl) (-1) row)
 |f+1,row,us=>(List.range l.length).foldl (fun b (i:Nat)=>if us.getD i false=true then b else if (VK l tl f (row++[(i:Int)]) (us.set i true)).2<b.2 then VK l tl f (row++[(i:Int)]) (us.set i true) else b) ([],(l.length:Int)+1)
def HM (l:List Lot) (tl:Int) (f:Nat) (row:List Int) (us:List Bool) (k:Nat):List Int×Int:=(List.range k).foldl (fun b (i:Nat)=>if us.getD i false=true then b else if (VK l tl f (row++[(i:Int)]) (us.set i true)).2<b.2 then VK l tl f (row++[(i:Int)]) (us.set i true) else b) ([],(l.length:Int)+1)
theorem RW {l:List Lot}{tl:Int}{f:Nat}{row:List Int}{us:List Bool}{k:Nat}:HM l tl f row us (k+1)=if us.getD k false=true then HM l tl f row us k else if (VK l tl f (row++[(k:Int)]) (us.set k true)).2<(HM l tl f row us k).2 then VK l tl f (row++[(k:Int)]) (us.set k true) else HM l tl f row us k:=by unfold HM;rw[List.range_succ,List.foldl_append];rfl
theorem PG (l:List Lot) (tl a b:Int):0≤smP l tl a b∧smP l tl a b≤1:=by unfold smP;split<;>omega
theorem Pp (G:Int→List Int×Int):∀ (L:List Int) (b:List Int×Int),(∀ j∈L,b.2≤(G j).2)→L.foldl (fun b i=>if (G i).2<b.2 then G i else b) b=b
 |[],_,_=>rfl
 |x::t,b,h=>by have:=h x (List.mem_cons_self ..);rw[List.foldl_cons,if_neg (by omega)];exact Pp G t b fun j hj=>h j (List.mem_cons_of_mem _ hj)
theorem Dc (G:Int→List Int×Int) (m:Int):∀ (L:List Int) (b:List Int×Int) (i:Int),(∀ j∈L,m≤(G j).2)→m<b.2→L.find? (fun i=>(G i).2==m)=some i→L.foldl (fun b i=>if (G i).2<b.2 then G i else b) b=G i
 |[],_,_,_,_,hf=>by cases hf
 |x::t,b,i,h,hb,hf=>by
  rw[List.foldl_cons];by_cases hx:(G x).2=m
  ·rw[List.find?_cons_of_pos (by simpa using hx)] at hf;obtain rfl:=osj hf;rw[if_pos (by omega)];exact Pp G t _ fun j hj=>by have:=h j (List.mem_cons_of_mem _ hj);omega
  ·rw[List.find?_cons_of_neg (by simpa using hx)] at hf;have hm:=h x (List.mem_cons_self ..);exact Dc G m t _ i (fun j hj=>h j (List.mem_cons_of_mem _ hj)) (by split<;>omega) hf
theorem Dj (sm:Int→Int→Int):∀ (r:List Int) (la x:Int),Xq sm la (r++[x])=Xq sm la r+sm (r.getLastD la) x
 |[],la,x=>by simp[Xq]
 |y::r,la,x=>by rw[List.cons_append];simp only[Xq];rw[Dj sm r y x,List.getLastD_cons];omega
theorem NX {sm:Int→Int→Int}(h:∀ a b,0≤sm a b∧sm a b≤1):∀ (r:List Int) (la:Int),0≤Xq sm la r∧Xq sm la r≤r.length
 |[],_=>⟨Int.le_refl _,Int.le_refl _⟩
 |x::r,la=>by have:=NX h r x;have:=h la x;simp only[Xq,List.length_cons];omega
def MD (n:Nat) (row:List Int):List Int:=((List.range n).map fun (k:Nat)=>(k:Int)).filter fun i=>!row.contains i
theorem Bt {n:Nat}{row:List Int}{i:Int}:i∈MD n row↔(0≤i∧i<n)∧i∉row:=by
 unfold MD;simp only[List.mem_filter,List.mem_map,List.mem_range,Bool.not_eq_true',List.contains_eq_mem,decide_eq_false_iff_not];constructor
 ·rintro⟨⟨k,hk,rfl⟩,h⟩;exact⟨by omega,h⟩
 ·rintro⟨h1,h2⟩;exact⟨⟨i.toNat,by omega,by omega⟩,h2⟩
theorem HA (n:Nat):((List.range n).map fun (k:Nat)=>(k:Int)).Nodup:=List.pairwise_map.2 ((List.nodup_range (n:=n)).imp fun h e=>h (by omega))
theorem Dv (n:Nat) (row:List Int):(MD n row).Nodup:=(HA n).filter _
theorem Ee {n:Nat}{row:List Int}(hn:row.Nodup) (aJ:∀ i∈row,0≤i∧i<(n:Int)):row.length+(MD n row).length=n:=by
 have hp:(row++MD n row).Perm ((List.range n).map fun (k:Nat)=>(k:Int)):=by
  refine (List.perm_ext_iff_of_nodup ?_ (HA n)).2 fun a=>?_
  ·refine List.nodup_append.2 ⟨hn,Dv n row,fun a ha b hb e=>?_⟩;subst e;exact(Bt.1 hb).2 ha
  ·simp only[List.mem_append,Bt,List.mem_map,List.mem_range];constructor
   ·rintro (h|h)
    ·have:=aJ a h;exact⟨a.toNat,by omega,by omega⟩
    ·exact⟨a.toNat,by omega,by omega⟩
   ·rintro⟨k,hk,rfl⟩;by_cases h:(k:Int)∈row
    ·exact .inl h
    ·exact .inr ⟨by omega,h⟩
 have:=hp.length_eq;rw[List.length_append] at this;simpa using this
theorem CZ {n:Nat}{row:List Int}{i:Int}:MD n (row++[i])=(MD n row).erase i:=by
 rw[(Dv n row).erase_eq_filter];unfold MD;rw[List.filter_filter];refine List.filter_congr fun x _=>?_;simp only[List.contains_eq_mem,List.mem_append,List.mem_singleton];by_cases h:x=i
 ·subst h;simp
 ·by_cases h2:x∈row<;>simp[h,h2]
theorem UP {α:Type}{p q:α→Bool}:∀ {L:List α},(∀ x∈L,p x=q x)→L.find? p=L.find? q
 |[],_=>rfl
 |x::t,h=>by
  have hx:=h x (List.mem_cons_self ..);cases hq:q x with
  |true=>rw[List.find?_cons_of_pos (hx.trans hq),List.find?_cons_of_pos hq]
  |false=>rw[List.find?_cons_of_neg (by rw[hx,hq];decide),List.find?_cons_of_neg (by rw[hq];decide)];exact UP fun y hy=>h y (List.mem_cons_of_mem _ hy)
theorem Ca {l:List Lot}{tl:Int}:∀ f (row:List Int) (us:List Bool),row.length+f=l.length→us.length=l.length→(∀ i,i<l.length→us.getD i false=decide ((i:Int)∈row))→row.Nodup→(∀ i∈row,0≤i∧i<(l.length:Int)) →
  VK l tl f row us=(row++PT (smP l tl) l.length f (MD l.length row) (row.getLastD (-1)),Xq (smP l tl) (-1) row+WR (smP l tl) l.length f (MD l.length row) (row.getLastD (-1)))
 |0,row,us,_,_,_,_,_=>by simp[VK,PT,WR]
 |f+1,row,us,h1,h2,h3,h4,h5=>by
  have hlen:=Ee h4 h5;have p8:(MD l.length row).length=f+1:=by omega
  obtain⟨ka,_⟩:=Rj (N:=(l.length:Int)) (la:=row.getLastD (-1)) (PG l tl) p8 (by omega);obtain⟨i,hi,iD,he,ho⟩:=Mc (N:=(l.length:Int)) (la:=row.getLastD (-1)) (PG l tl) p8 (by omega);have hS:=NX (PG l tl) row (-1);have gX:=NU (N:=(l.length:Int)) (PG l tl) (f+1) (MD l.length row) (row.getLastD (-1)) p8 (by omega);let G:Int→List Int×Int:=fun i=>(row++[i]++PT (smP l tl) l.length f ((MD l.length row).erase i) i,Xq (smP l tl) (-1) row+(smP l tl (row.getLastD (-1)) i+WR (smP l tl) l.length f ((MD l.length row).erase i) i));have nO:∀ k,k<l.length→us.getD k false=false→VK l tl f (row++[(k:Int)]) (us.set k true)=G (k:Int):=fun k hk hu=>by
   have tD:(k:Int)∉row:=by rw[h3 k hk] at hu;exact of_decide_eq_false hu
   rw[Ca f (row++[(k:Int)]) (us.set k true) (by simp;omega) (by simpa using h2) (fun j hj=>?_) (List.nodup_append.2 ⟨h4,by simp,fun a ha b hb e=>tD (by rw[←List.mem_singleton.1 hb,←e];exact ha)⟩) (fun j hj=>?_)]
   ·show _=(row++[(k:Int)]++_,_);have gX:(row++[(k:Int)]).getLastD (-1)=(k:Int):=by simp
    rw[CZ,Dj,gX,Int.add_assoc]
   ·rw[List.getD_eq_getElem?_getD,List.getElem?_set];by_cases e:k=j
    ·subst e;rw[if_pos rfl,if_pos (by omega)];simp
    ·rw[if_neg e,←List.getD_eq_getElem?_getD,h3 j hj];simp only[List.mem_append,List.mem_singleton];rw[decide_eq_decide];constructor
     ·exact .inl
     ·rintro (h|h)
      ·exact h
      ·omega
   ·rcases List.mem_append.1 hj with h|h
    ·exact h5 j h
    ·rw[List.mem_singleton.1 h];omega
  have g9:VK l tl (f+1) row us=(MD l.length row).foldl (fun b i=>if (G i).2<b.2 then G i else b) ([],(l.length:Int)+1):=by
   unfold MD;rw[List.foldl_filter,List.foldl_map];show List.foldl _ _ _=_;have:∀ (L:List Nat) (b:List Int×Int),(∀ k∈L,k<l.length)→L.foldl (fun b (i:Nat)=>if us.getD i false=true then b else if (VK l tl f (row++[(i:Int)]) (us.set i true)).2<b.2 then VK l tl f (row++[(i:Int)]) (us.set i true) else b) b=L.foldl (fun b (i:Nat)=>if (!row.contains (i:Int))=true then (if (G (i:Int)).2<b.2 then G (i:Int) else b) else b) b:=by
    intro L;induction L with
    |nil=>intro b _;rfl
    |cons k t ih =>
     intro b hb;have hk:=hb k (List.mem_cons_self ..);rw[List.foldl_cons,List.foldl_cons];have hc:row.contains (k:Int)=us.getD k false:=by rw[h3 k hk,List.contains_eq_mem]
     cases hu:us.getD k false with
     |true=>rw[hc,hu,if_pos rfl,if_neg (by decide)];exact ih b fun j hj=>hb j (List.mem_cons_of_mem _ hj)
     |false=>rw[hc,hu,if_neg (show ¬ (false=true) by decide),if_pos (show (!false)=true by decide),nO k hk hu];exact ih _ fun j hj=>hb j (List.mem_cons_of_mem _ hj)
   exact this _ _ fun k hk=>List.mem_range.1 hk
  have e:=Dc G (Xq (smP l tl) (-1) row+WR (smP l tl) l.length (f+1) (MD l.length row) (row.getLastD (-1))) (MD l.length row) ([],(l.length:Int)+1) i (fun j hj=>by
   have:=ka j hj;show _≤Xq (smP l tl) (-1) row+(smP l tl (row.getLastD (-1)) j+WR (smP l tl) l.length f ((MD l.length row).erase j) j);omega) (by show _<(l.length:Int)+1;omega) (by
   rw[←iD];refine UP fun x _=>?_;show (Xq (smP l tl) (-1) row+(smP l tl (row.getLastD (-1)) x+WR (smP l tl) l.length f ((MD l.length row).erase x) x)==_)=_;rw[Bool.eq_iff_iff,beq_iff_eq,beq_iff_eq];omega)
  rw[g9,e];show (row++[i]++_,_+(_+_))=_;rw[ho,he,List.append_assoc];rfl
theorem HR {sm sm':Int→Int→Int}{N:Int}{P:Int→Prop}(h:∀ a b,(a=-1∨P a)→P b→sm a b=sm' a b):∀ f (L:List Int) (la:Int),(∀ i∈L,P i)→(la=-1∨P la)→WR sm N f L la=WR sm' N f L la∧PT sm N f L la=PT sm' N f L la
 |0,_,_,_,_=>⟨rfl,rfl⟩
 |f+1,L,la,hL,jj=>by
  have ih:∀ i∈L,WR sm N f (L.erase i) i=WR sm' N f (L.erase i) i∧PT sm N f (L.erase i) i=PT sm' N f (L.erase i) i:=fun i hi=>HR h f _ i (fun j hj=>hL j (List.mem_of_mem_erase hj)) (.inr (hL i hi));have hG:WR sm N (f+1) L la=WR sm' N (f+1) L la:=K3 fun i hi=>by rw[(ih i hi).1,h la i jj (hL i hi)]
  refine⟨hG,?_⟩;rw[N_,N_];have hf:L.find? (fun i=>sm la i+WR sm N f (L.erase i) i==WR sm N (f+1) L la)=L.find? (fun i=>sm' la i+WR sm' N f (L.erase i) i==WR sm' N (f+1) L la):=UP fun i hi=>by rw[(ih i hi).1,h la i jj (hL i hi),hG]
  rw[hf];cases hq:L.find? (fun i=>sm' la i+WR sm' N f (L.erase i) i==WR sm' N (f+1) L la) with
  |none=>rfl
  |some i=>dsimp only;rw[(ih i (List.mem_of_find?_eq_some hq)).2]
theorem I0 {l:List Lot}{tl:Int}(hl:l.length≤12):VK l tl l.length [] (List.replicate l.length false)=(KL l tl (2 ^ l.length-1) (-1),ZR l tl (2 ^ l.length-1) (-1)):=by
 rw[Ca l.length [] (List.replicate l.length false) (by simp) (by simp) (fun i hi=>by rw[Ql (by simpa using hi)];simp) List.nodup_nil (fun i hi=>by cases hi)];have a8:Q7 (2 ^ l.length-1)=MD l.length []:=by rw[R3 (by omega)];unfold MD;exact(List.filter_eq_self.2 fun x _=>rfl).symm
 have hlen:(Q7 (2 ^ l.length-1)).length=l.length:=by rw[R3 (by omega)];simp
 obtain⟨c1,c2⟩:=HR (sm:=smP l tl) (sm':=ZI l tl) (N:=(l.length:Int)) (P:=fun i=>0≤i∧i<(l.length:Int)) (fun a b ha hb=>by
  rcases ha with rfl|ha
  ·rfl
  ·rw[Ol hl ha hb];unfold smP;rw[decide_eq_false (by omega),Bool.false_or]) l.length (MD l.length []) (-1) (fun i hi=>(Bt.1 hi).1) (.inl rfl)
 unfold KL ZR;rw[hlen,a8];simp only[List.getLastD_nil,List.nil_append,Xq,Int.zero_add];rw[c1,c2]
end Go.Proofs.Tryz
set_option linter.unusedVariables false
namespace Go.Proofs.Tryz
open Go Go.V Go.Proofs
def KW:AL ((List (Int×(Int×Int)×Int))×Int×List Int):=(.cons (.k (.list (.pair (.i .i64) (.pair (.pair (.i .i64) (.i .i64)) (.i .i64))))) (.cons (.k (.i .i64)) (.one (.k (.list (.i .i64))))))
def MH (d:(List (Int×(Int×Int)×Int))×Int×List Int):Prop:=d.1.length≤12∧(∀ y∈d.1,QP y=true)∧d.2.2.length≤12∧∀ i∈d.2.2,0≤i∧i<d.1.length
def Ka (d:(List (Int×(Int×Int)×Int))×Int×List Int):SV:=.val (.i .i64) (Xq (smP d.1 d.2.1) (-1) d.2.2)
def K9 (d:(List (Int×(Int×Int)×Int))×Int×List Int):List OB:=[]
def Yx:CSp:=YC KW MH Ka K9
def JZ (l:List (Int×(Int×Int)×Int)) (tl:Int) (row:List Int):Prop :=
 ∃ (e2:Unit) (d20:Int×Int),((l=l∧tl=tl∧row=row∧(0:Int)=d20.1∧(1:Int)=d20.2∧True)∧(True)) ∧
 LoopP (fun (d2:Int×Int) (q2:(Int×Int)→Prop) =>
  ((decide (d2.2<(lI row)))=true →
   (I64 (d2.2-(1:Int)))∧(0≤(d2.2-(1:Int)))∧((d2.2-(1:Int))<(List.length row))∧(0≤d2.2)∧(d2.2<(List.length row))∧((∀ y∈l,QP y=true)∧0≤(gD row (d2.2-(1:Int)) 0)∧(gD row (d2.2-(1:Int)) 0)<l.length∧0≤(gD row d2.2 0)∧(gD row d2.2 0)<l.length)∧((!(Ns (l.getD (gD row (d2.2-(1:Int)) 0).toNat Zs) (l.getD (gD row d2.2 0).toNat Zs) tl))=true →
    (I64 (d2.1+(1:Int)))∧(I64 (d2.2+(1:Int)))∧(∃ d3:Int×Int,((l=l∧tl=tl∧row=row∧(d2.1+(1:Int))=d3.1∧(d2.2+(1:Int))=d3.2∧True)∧(True))∧q2 d3)) ∧
   ((!(Ns (l.getD (gD row (d2.2-(1:Int)) 0).toNat Zs) (l.getD (gD row d2.2 0).toNat Zs) tl))=false →
    (I64 (d2.2+(1:Int)))∧(∃ d4:Int×Int,((l=l∧tl=tl∧row=row∧d2.1=d4.1∧(d2.2+(1:Int))=d4.2∧True)∧(True))∧q2 d4))) ∧
  ((decide (d2.2<(lI row)))=false →
   (d2.1=(Xq (smP l tl) (-1) row)∧(True)))) d20
def V6:Cx:=⟨[],[(44,YR)],31,[],0,[],[],[],[],false,[],[],[],[]⟩
def GR (l:List (Int×(Int×Int)×Int)) (tl:Int) (row:List Int):List (Nat×LoopAnn):=[(0,⟨Unit,Int×Int,[0,1,2,7,8],fun e x=>[.val (.list (.pair (.i .i64) (.pair (.pair (.i .i64) (.i .i64)) (.i .i64)))) l,.val (.i .i64) tl,.val (.list (.i .i64)) row,.val (.i .i64) x.1,.val (.i .i64) x.2],fun e x=>[]⟩)]
set_option maxRecDepth 100000 in
theorem GA (d:(List (Int×(Int×Int)×Int))×Int×List Int):gwp (V6) (GR d.1 d.2.1 d.2.2) c58 0 (VJ [.tmp 6] (Ka d) (K9 d)) (QX 31 (AL.can KW d))=JZ d.1 d.2.1 d.2.2:=by kernel_rfl
abbrev GC:Prop:=OkC Tryz.prog 58 Yx
theorem GB (h:∀ (l:List (Int×(Int×Int)×Int)) (tl:Int) (row:List Int),(l.length≤12∧(∀ y∈l,QP y=true)∧row.length≤12∧∀ i∈row,0≤i∧i<l.length)→JZ l tl row):OkC Tryz.prog 58 Yx :=
 Zx Oh mixed (C:=V6) (V:=fun (d:(List (Int×(Int×Int)×Int))×Int×List Int)=>JZ d.1 d.2.1 d.2.2) ⟨(.cons BR .nil),XsOk.nil,ItsOk.nil,YlOk.nil,IysOk.nil,XfOk.nil⟩ (GA) fun d hp=>h d.1 d.2.1 d.2.2 hp
theorem GN:GC:=GB fun l tl row h=>by
 obtain⟨h1,h2,h3,h4⟩:=h;unfold JZ;(try delta lI gD sT I64);simp only[true_and,and_true];have hb:=NX (PG l tl);refine⟨(),(0,1),(by and_intros<;>first|rfl|trivial),?_⟩;refine⟨fun d=>∃ k:Nat,d.2=k∧1≤k∧(k≤row.length∨k=1)∧d.1=Xq (smP l tl) (-1) (row.take k),fun d=>row.length-d.2.toNat,⟨1,rfl,by omega,.inr rfl,?_⟩,?_⟩
 ·cases row with
  |nil=>rfl
  |cons x t=>rfl
 rintro⟨n,k'⟩ ⟨k,f1,f2,f3,f4⟩;dsimp only at f1 f4 ⊢;subst f1;have e5:((k:Int)-1).toNat=k-1:=by omega
 simp only[Int.toNat_natCast,e5];refine⟨fun g=>?_,fun g=>?_⟩
 ·have g:k<row.length:=by have:=of_decide_eq_true g;omega
  have bC:=Dr (sm:=smP l tl) row (-1) k g;have tF:=hb (row.take k) (-1);rw[List.length_take] at tF;have hx:row.getD k 0∈row:=by rw[Ql g];exact List.getElem_mem g
  have hy:row.getD (k-1) 0∈row:=by rw[Ql (show k-1<row.length by omega)];exact List.getElem_mem _
  have lS:=h4 _ hx;have qR:=h4 _ hy;rw[if_neg (by omega),←f4] at bC;have iq:smP l tl (row.getD (k-1) 0) (row.getD k 0)=if Ns (l.getD (row.getD (k-1) 0).toNat Zs) (l.getD (row.getD k 0).toNat Zs) tl=true then 0 else 1:=by unfold smP alP;rw[decide_eq_false (by omega),Bool.false_or]
  rw[iq] at bC;refine⟨by simp only[QR];omega,by omega,by omega,by omega,by omega,⟨h2,qR.1,qR.2,lS.1,lS.2⟩,fun c=>?_,fun c=>?_⟩
  ·have c:Ns (l.getD (row.getD (k-1) 0).toNat Zs) (l.getD (row.getD k 0).toNat Zs) tl=false:=by simpa using c
   rw[if_neg (by rw[c];decide)] at bC;exact⟨by simp only[QR];omega,by simp only[QR];omega,(n+1,(k:Int)+1),(by and_intros<;>first|rfl|trivial),⟨k+1,by simp,by omega,.inl (by omega),bC.symm⟩,by dsimp only;omega⟩
  ·have c:Ns (l.getD (row.getD (k-1) 0).toNat Zs) (l.getD (row.getD k 0).toNat Zs) tl=true:=by simpa using c
   rw[if_pos c] at bC;exact⟨by simp only[QR];omega,(n,(k:Int)+1),(by and_intros<;>first|rfl|trivial),⟨k+1,by simp,by omega,.inl (by omega),by rw[bC];dsimp only;omega⟩,by dsimp only;omega⟩
 ·have g:row.length≤k:=by have:=of_decide_eq_false g;omega
  rw[f4,List.take_of_length_le g]
def K5:AL ((List (Int×(Int×Int)×Int))×Int×List Int):=(.cons (.k (.list (.pair (.i .i64) (.pair (.pair (.i .i64) (.i .i64)) (.i .i64))))) (.cons (.k (.i .i64)) (.one (.k (.list (.i .i64))))))
def U5 (us:List Bool) (nl:Bool) (d:(List (Int×(Int×Int)×Int))×Int×List Int):Prop:=d.1.length≤12∧(∀ y∈d.1,QP y=true)∧d.2.2.length≤d.1.length∧us.length=d.1.length∧∀ i∈d.2.2,0≤i∧i<d.1.length
def Yq (us:List Bool) (nl:Bool) (d:(List (Int×(Int×Int)×Int))×Int×List Int):SV:=.tup [.val (.list (.i .i64)) ((VK d.1 d.2.1 (d.1.length-d.2.2.length) d.2.2 us).1),.val (.i .i64) ((VK d.1 d.2.1 (d.1.length-d.2.2.length) d.2.2 us).2)]
def WL (us:List Bool) (nl:Bool) (d:(List (Int×(Int×Int)×Int))×Int×List Int):List Bool:=us
def UY (us:List Bool) (d:(List (Int×(Int×Int)×Int))×Int×List Int):Nat:=d.1.length-d.2.2.length
def Vx:XSp:=Bv Pb 3 (BH 4 .bo K5 U5 Yq WL)
def WB (bI:Nat) (us:List Bool) (nl:Bool) (l:List (Int×(Int×Int)×Int)) (tl:Int) (row:List Int):Prop:=∀ vals:List Value,
 (((lI row)==(lI l))=true →
  (l.length≤12∧(∀ y∈l,QP y=true)∧row.length≤12∧∀ i∈row,0≤i∧i<l.length)∧(vals=vals∧(True∧(([]:List SV)=[]))∧(row=(VK l tl (l.length-row.length) row us).1∧(Xq (smP l tl) (-1) row)=((VK l tl (l.length-row.length) row us).2)∧(([]:List SV)=[]))∧(us=us∧nl=nl))) ∧
 (((lI row)==(lI l))=false →
  (I64 ((lI l)+(1:Int)))∧∃ (e3:Unit) (d30:(List Bool)×(List Int)×Int×Int),((l=l∧tl=tl∧row=row∧True∧([]:List Int)=d30.2.1∧((lI l)+(1:Int))=d30.2.2.1∧(0:Int)=d30.2.2.2∧True)∧((us=d30.1∧nl=nl)∧(vals=vals∧(True∧(([]:List SV)=[])))∧True)) ∧
  LoopP (fun (d3:(List Bool)×(List Int)×Int×Int) (q3:((List Bool)×(List Int)×Int×Int)→Prop) =>
   ((decide (d3.2.2.2<(lI l)))=true →
    (0≤d3.2.2.2)∧(d3.2.2.2<(List.length d3.1))∧((gD d3.1 d3.2.2.2 false)=true →
     (I64 (d3.2.2.2+(1:Int)))∧(∃ d4:(List Bool)×(List Int)×Int×Int,((l=l∧tl=tl∧row=row∧True∧d3.2.1=d4.2.1∧d3.2.2.1=d4.2.2.1∧(d3.2.2.2+(1:Int))=d4.2.2.2∧True)∧((d3.1=d4.1∧nl=nl)∧(vals=vals∧(True∧(([]:List SV)=[])))∧True))∧q3 d4)) ∧
    ((gD d3.1 d3.2.2.2 false)=false →
     (0≤d3.2.2.2)∧(d3.2.2.2<(List.length d3.1))∧(((List.length ([]:List Int))+(List.length row))*8≤70368744177664)∧(((List.length (([]:List Int)++row))+(List.length [d3.2.2.2]))*8≤70368744177664)∧((l.length≤12∧(∀ y∈l,QP y=true)∧((([]:List Int)++row)++[d3.2.2.2]).length≤l.length∧(sT d3.1 d3.2.2.2 true).length=l.length∧∀ i∈((([]:List Int)++row)++[d3.2.2.2]),0≤i∧i<l.length)∧(l.length-((([]:List Int)++row)++[d3.2.2.2]).length)<bI)∧(0≤d3.2.2.2)∧(d3.2.2.2<(List.length (sT d3.1 d3.2.2.2 true)))∧((decide (((VK l tl (l.length-((([]:List Int)++row)++[d3.2.2.2]).length) ((([]:List Int)++row)++[d3.2.2.2]) (sT d3.1 d3.2.2.2 true)).2)<d3.2.2.1))=true →
      (I64 (d3.2.2.2+(1:Int)))∧(∃ d5:(List Bool)×(List Int)×Int×Int,((l=l∧tl=tl∧row=row∧True∧(VK l tl (l.length-((([]:List Int)++row)++[d3.2.2.2]).length) ((([]:List Int)++row)++[d3.2.2.2]) (sT d3.1 d3.2.2.2 true)).1=d5.2.1∧((VK l tl (l.length-((([]:List Int)++row)++[d3.2.2.2]).length) ((([]:List Int)++row)++[d3.2.2.2]) (sT d3.1 d3.2.2.2 true)).2)=d5.2.2.1∧(d3.2.2.2+(1:Int))=d5.2.2.2∧True)∧(((sT (sT d3.1 d3.2.2.2 true) d3.2.2.2 false)=d5.1∧nl=nl)∧(vals=vals∧(True∧(([]:List SV)=[])))∧True))∧q3 d5)) ∧
     ((decide (((VK l tl (l.length-((([]:List Int)++row)++[d3.2.2.2]).length) ((([]:List Int)++row)++[d3.2.2.2]) (sT d3.1 d3.2.2.2 true)).2)<d3.2.2.1))=false →
      (I64 (d3.2.2.2+(1:Int)))∧(∃ d6:(List Bool)×(List Int)×Int×Int,((l=l∧tl=tl∧row=row∧True∧d3.2.1=d6.2.1∧d3.2.2.1=d6.2.2.1∧(d3.2.2.2+(1:Int))=d6.2.2.2∧True)∧(((sT (sT d3.1 d3.2.2.2 true) d3.2.2.2 false)=d6.1∧nl=nl)∧(vals=vals∧(True∧(([]:List SV)=[])))∧True))∧q3 d6)))) ∧
   ((decide (d3.2.2.2<(lI l)))=false →
    (vals=vals∧(True∧(([]:List SV)=[]))∧(d3.2.1=(VK l tl (l.length-row.length) row us).1∧d3.2.2.1=((VK l tl (l.length-row.length) row us).2)∧(([]:List SV)=[]))∧(d3.1=us∧nl=nl)))) d30)
def cx_ref09_Row:Cx:=⟨[(3,(.i .i64))],[(58,Yx)],65,[2000010],0,[],[],[],[],false,[],[],[],[]⟩
def Nh (us:List Bool) (nl:Bool) (l:List (Int×(Int×Int)×Int)) (tl:Int) (row:List Int) (vals:List Value):List (Nat×LoopAnn):=[(0,⟨Unit,(List Bool)×(List Int)×Int×Int,[0,1,2,3,10,11,12],fun e x=>[.val (.list (.pair (.i .i64) (.pair (.pair (.i .i64) (.i .i64)) (.i .i64)))) l,.val (.i .i64) tl,.val (.list (.i .i64)) row,.lst 0,.val (.list (.i .i64)) x.2.1,.val (.i .i64) x.2.2.1,.val (.i .i64) x.2.2.2],fun e x=>[(0,.slot 3,.lst 4 .bo x.1 nl),(4000000,.key 4000000,.stk [.lst 0] vals)]⟩)]
set_option maxRecDepth 100000 in
theorem Pa (bI:Nat) (us:List Bool) (nl:Bool) (d:(List (Int×(Int×Int)×Int))×Int×List Int):(∀ vals,gwp {cx_ref09_Row with xs:=(28,Bv Pb 3 (BH 4 .bo K5 (fun us nl d=>U5 us nl d∧UY us d<bI) Yq WL))::cx_ref09_Row.xs} (Nh us nl d.1 d.2.1 d.2.2 vals) c28 0 (AZ vals [.tmp 8,.tmp 9] (Yq us nl d) (.lst 4 .bo (WL us nl d) nl) (.lst 0)) (Vl 65 3 (.lst 4 .bo us nl) vals (AL.can K5 d)))=WB bI us nl d.1 d.2.1 d.2.2:=by kernel_rfl
abbrev Py:Prop:=XOk Tryz.prog 28 Vx
theorem P8 (h:∀ (bI:Nat) (us:List Bool) (nl:Bool) (l:List (Int×(Int×Int)×Int)) (tl:Int) (row:List Int),(l.length≤12∧(∀ y∈l,QP y=true)∧row.length≤l.length∧us.length=l.length∧∀ i∈row,0≤i∧i<l.length)→(l.length-row.length)=bI→WB bI us nl l tl row):XOk Tryz.prog 28 Vx :=
 CN IL mixed PI (μ:=UY) (C:=cx_ref09_Row) ⟨(.cons GN .nil),XsOk.nil,ItsOk.nil,YlOk.nil,IysOk.nil,XfOk.nil⟩ rfl (L:=fun us nl (d:(List (Int×(Int×Int)×Int))×Int×List Int) vals=>Nh us nl d.1 d.2.1 d.2.2 vals) (V:=fun bI us nl (d:(List (Int×(Int×Int)×Int))×Int×List Int)=>WB bI us nl d.1 d.2.1 d.2.2) Pa fun n us nl d hp hn=>h n us nl d.1 d.2.1 d.2.2 hp hn
end Go.Proofs.Tryz
set_option linter.unusedVariables false
namespace Go.Proofs.Tryz
open Go Go.V Go.Proofs
theorem B_:Py:=P8 fun bI us nl l tl row h hn=>by
 obtain⟨⟨h1,h2⟩,h3,h4,h5⟩:(l.length≤12∧∀ y∈l,QP y=true)∧row.length≤l.length∧us.length=l.length∧∀ i∈row,0≤i∧i<(l.length:Int):=⟨⟨h.1,h.2.1⟩,h.2.2⟩;unfold WB;(try delta lI gD sT I64);intro vals;simp only[true_and,and_true];refine⟨fun c=>?_,fun c=>?_⟩
 ·have c:row.length=l.length:=by have:=of_decide_eq_true c;omega
  rw[c,Nat.sub_self];exact⟨⟨h1,h2,by omega,h5⟩,rfl,rfl⟩
 ·have c:row.length<l.length:=by have:=of_decide_eq_false c;omega
  obtain⟨f,hf⟩:∃ f,l.length-row.length=f+1:=⟨l.length-row.length-1,by omega⟩;refine⟨by simp only[QR];omega,(),(us,[],(l.length:Int)+1,0),(by and_intros<;>first|rfl|trivial),?_⟩;refine⟨fun d=>∃ k:Nat,d.2.2.2=k∧k≤l.length∧d.1=us∧(d.2.1,d.2.2.1)=HM l tl f row us k,fun d=>l.length-d.2.2.2.toNat,⟨0,rfl,by omega,rfl,rfl⟩,?_⟩;rintro⟨u,b,s,k'⟩ ⟨k,f1,f2,f3,f4⟩;dsimp only at f1 f3 f4 ⊢;subst f1;subst f3;simp only[Int.toNat_natCast,List.nil_append,List.length_append,List.length_cons,List.length_nil];have tH:l.length-(row.length+(0+1))=f:=by omega
  simp only[tH];refine⟨fun g=>?_,fun g=>?_⟩
  ·have g:k<l.length:=by have:=of_decide_eq_true g;omega
   have dR:=RW (l:=l) (tl:=tl) (f:=f) (row:=row) (us:=u) (k:=k);refine⟨by omega,by omega,fun c2=>?_,fun c2=>?_⟩
   ·rw[if_pos c2] at dR;exact⟨by simp only[QR];omega,(u,b,s,(k:Int)+1),(by and_intros<;>first|rfl|trivial),⟨k+1,by simp,by omega,rfl,by rw[dR];exact f4⟩,by dsimp only;omega⟩
   ·rw[if_neg (by rw[c2];decide)] at dR;have a8:(u.set k true).set k false=u:=by
     rw[List.set_set];have hg:u[k]'(by omega)=false:=by rw[←Ql (d:=false)];exact c2
     rw[←hg];exact List.set_getElem_self _
    have dj:s=(HM l tl f row u k).2:=by rw[←f4]
    refine⟨by omega,by omega,by omega,by omega,⟨⟨h1,h2,by omega,by rw[List.length_set];exact h4,fun i hi=>?_⟩,by omega⟩,by omega,by rw[List.length_set];omega,fun c3=>?_,fun c3=>?_⟩
    ·rcases List.mem_append.1 hi with hi|hi
     ·exact h5 i hi
     ·rw[List.mem_singleton.1 hi];omega
    ·have c3:=of_decide_eq_true c3;rw[if_pos (by rw[←dj];exact c3)] at dR;rw[a8];exact⟨by simp only[QR];omega,(u,(VK l tl f (row++[(k:Int)]) (u.set k true)).1,(VK l tl f (row++[(k:Int)]) (u.set k true)).2,(k:Int)+1),(by and_intros<;>first|rfl|trivial),⟨k+1,by simp,by omega,rfl,by rw[dR]⟩,by dsimp only;omega⟩
    ·have c3:=of_decide_eq_false c3;rw[if_neg (by rw[←dj];exact c3)] at dR;rw[a8];exact⟨by simp only[QR];omega,(u,b,s,(k:Int)+1),(by and_intros<;>first|rfl|trivial),⟨k+1,by simp,by omega,rfl,by rw[dR];exact f4⟩,by dsimp only;omega⟩
  ·have hk:k=l.length:=by have:=of_decide_eq_false g;omega
   subst hk;have e:VK l tl (l.length-row.length) row u=HM l tl f row u l.length:=by rw[hf];rfl
   rw[e,←f4];exact(by and_intros<;>first|rfl|trivial|simp)
end Go.Proofs.Tryz
set_option linter.unusedVariables false
namespace Go.Proofs.Tryz
open Go Go.V Go.Proofs
def Wq:AL ((List (Int×(Int×Int)×Int))×Int):=(.cons (.k (.list (.pair (.i .i64) (.pair (.pair (.i .i64) (.i .i64)) (.i .i64))))) (.one (.k (.i .i64))))
def VF (d:(List (Int×(Int×Int)×Int))×Int):Prop:=d.1.length≤9223372036854775807
def W1 (d:(List (Int×(Int×Int)×Int))×Int):SV:=.val .bo true
def W7 (d:(List (Int×(Int×Int)×Int))×Int):List OB:=[]
def Y4:CSp:=YC Wq VF W1 W7
def ZP (l:List (Int×(Int×Int)×Int)) (tl:Int):Prop :=
 (l.length≤9223372036854775807)∧(((decide ((lI l) > (20:Int)))||(((Qn l tl)==(0:Int))&&(decide ((lI l) > (6:Int)))))=true →
  (True)∧(true=true∧(True))) ∧
 (((decide ((lI l) > (20:Int)))||(((Qn l tl)==(0:Int))&&(decide ((lI l) > (6:Int)))))=false →
  (l.length≤1000)∧(l.length≤1000)∧(l.length≤1000)∧((!(l==l))=true →
   (false=true∧(True))) ∧
  ((!(l==l))=false →
   (((Qn l tl) != (0:Int))=true →
    (((((Qn l tl)==(Qn l tl))&&((lI (GY l tl))==(0:Int)))&&((Vv l tl)==(0:Int)))=true→True)∧((((((Qn l tl)==(Qn l tl))&&((lI (GY l tl))==(0:Int)))&&((Vv l tl)==(0:Int)))&&true)=true∧(True))) ∧
   (((Qn l tl) != (0:Int))=false →
    (0≤(lI l))∧((lI l)≤(lI l))∧((lI l)*1≤70368744177664)∧((lI l)≤70368744177664)∧(l.length≤12∧(∀ y∈l,QP y=true)∧([]:List Int).length≤l.length∧(List.replicate (Int.toNat (lI l)) (false:Bool)).length=l.length∧∀ i∈([]:List Int),0≤i∧i<l.length)∧(((Qn l tl)==(0:Int))=true→(GY l tl).length≤1000)∧(((((Qn l tl)==(0:Int))&&((GY l tl)==((VK l tl (l.length-([]:List Int).length) ([]:List Int) (List.replicate (Int.toNat (lI l)) (false:Bool))).1)))&&((Vv l tl)==((VK l tl (l.length-([]:List Int).length) ([]:List Int) (List.replicate (Int.toNat (lI l)) (false:Bool))).2)))=true→True)∧((((((Qn l tl)==(0:Int))&&((GY l tl)==((VK l tl (l.length-([]:List Int).length) ([]:List Int) (List.replicate (Int.toNat (lI l)) (false:Bool))).1)))&&((Vv l tl)==((VK l tl (l.length-([]:List Int).length) ([]:List Int) (List.replicate (Int.toNat (lI l)) (false:Bool))).2)))&&true)=true∧(True)))))
def Wp:Cx:=⟨[(4,.bo)],[(11,Kn),(13,VR),(14,Vr),(27,VC),(17,K4),(26,Kv)],82,[],0,[(28,Vx)],[],[],[],false,[],[],[],[]⟩
def Uj (l:List (Int×(Int×Int)×Int)) (tl:Int):List (Nat×LoopAnn):=[]
set_option maxRecDepth 100000 in
theorem VP (d:(List (Int×(Int×Int)×Int))×Int):gwp (Wp) (Uj d.1 d.2) c5 0 (VJ [.tmp 4] (W1 d) (W7 d)) (QX 82 (AL.can Wq d))=ZP d.1 d.2:=by kernel_rfl
abbrev Us:Prop:=OkC Tryz.prog 5 Y4
theorem Ud (h:∀ (l:List (Int×(Int×Int)×Int)) (tl:Int),(l.length≤9223372036854775807)→ZP l tl):OkC Tryz.prog 5 Y4 :=
 Zx fun5 mixed (C:=Wp) (V:=fun (d:(List (Int×(Int×Int)×Int))×Int)=>ZP d.1 d.2) ⟨(.cons Bj (.cons D1 (.cons Pd (.cons HU (.cons DZ (.cons BX .nil)))))),(XsOk.cons B_ XsOk.nil),ItsOk.nil,YlOk.nil,IysOk.nil,XfOk.nil⟩ (VP) fun d hp=>h d.1 d.2 hp
theorem ok_law09_ShadeRows:Us:=Ud fun l tl h=>by
 unfold ZP;(try delta lI gD sT I64);simp only[and_true];refine⟨h,fun _=>trivial,fun c=>?_⟩;simp only[Bool.or_eq_false_iff,Bool.and_eq_false_iff,decide_eq_false_iff_not,beq_eq_false_iff_ne] at c;refine⟨by omega,by omega,by omega,(fun d=>by simp at d),fun _=>⟨fun d=>?_,fun d=>?_⟩⟩
 ·have d:Qn l tl≠0:=by simpa using d
  have e1:GY l tl=[]:=by unfold GY;rw[if_neg d]
  have e2:Vv l tl=0:=by unfold Vv;rw[if_neg d]
  rw[e1,e2];simp
 ·have d:Qn l tl=0:=by simpa using d
  have hz:Qo l=0:=by
   unfold Qn at d;split at d
   ·omega
   ·rename_i h2;omega
  obtain⟨h1,h2⟩:=P6 hz;obtain⟨q1,q2⟩:=TL h1 h2 d;have p9:=I0 (tl:=tl) h1;have hlen:(KL l tl (2 ^ l.length-1) (-1)).length≤12:=by have hp:=Nat.two_pow_pos l.length;have hs:=Jx (n:=2 ^ l.length-1) (m:=l.length) (by omega) (by omega);have:=(M6 (N:=(l.length:Int)) (KD l tl) (Q7 (2 ^ l.length-1)).length (Q7 (2 ^ l.length-1)) (-1) rfl (by omega)).1.length_eq;unfold KL;omega
  simp only[Int.toNat_natCast,List.length_nil,Nat.sub_zero,p9,q1,q2,d];refine⟨by omega,by omega,by omega,by omega,⟨h1,h2,by omega,by simp,(fun i hi=>by cases hi)⟩,fun _=>by omega,fun _=>trivial,?_⟩;simp
end Go.Proofs.Tryz