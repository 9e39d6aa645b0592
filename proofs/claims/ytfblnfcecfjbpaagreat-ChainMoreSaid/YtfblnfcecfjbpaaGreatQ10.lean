/- A framework for walks, contracts of functions, and their proofs: part 10. -/
import Derived.Test.YtfblnfcecfjbpaaGreatQ9
set_option linter.unusedVariables false
namespace Go.V
open Go
section
variable {P:Program}{B F:Heap}{pl:Nat->Value}{tb:Nat->Option Bool}{own:Own}{U:Heap}
mutual
theorem Ao {bx:List SV->Nat->SV}(hle:B.Le U) (az:∀ d,OR P B pl tb U (pl d) (Q8 own d))
  (lD:∀ l off b c e t,U.get b=some (.cells c e true t)->SRs P B pl tb l c->SR P U Jg Zh (bx l off) (.pointer (some ⟨b,off,none⟩))) :
  ∀ (s:SV) (v:Value),SR P B pl tb s v->SR P U Jg Zh (PM own bx s) v
 |.any,v,h=>by simp[PM,SR]
 |.val k x,v,h=>by simp only[PM,SR] at h |-;exact h.mono hle
 |.bid n c,v,h=>by simp only[PM,SR] at h |-;obtain⟨rfl,_⟩:=h;rfl
 |.grd gs s,v,h=>by simp[PM,SR]
 |.nilS,v,h=>by simp only[PM,SR] at h |-;exact h
 |.nilP,v,h=>by simp only[PM,SR] at h |-;exact h
 |.nilM,v,h=>by simp only[PM,SR] at h |-;exact h
 |.nilF,v,h=>by simp only[PM,SR] at h |-;exact h
 |.lst o,v,h=>by
  simp only[PM];split
  .rename_i ty k xs nl ho;have:view own k (.lst o)=some xs:=by simp[view,ho,Vu]
   simp only[SR,KC];exact⟨v,rfl,(WZ hle az this h).mono (Heap.Le.refl _) λ_ _ e=>e.mono hle⟩
  .simp[SR]
 |.sub o lo n sz,v,h=>by
  simp only[PM];split
  .rename_i ty k xs nl ho;split
   .rename_i aF;have:view own k (.sub o lo n sz)=some ((xs.drop lo).take n):=by simp[view,ho,Vu,aF]
    simp only[SR,KC];exact⟨v,rfl,(WZ hle az this h).mono (Heap.Le.refl _) λ_ _ e=>e.mono hle⟩
   .simp[SR]
  .simp[SR]
 |.elp o i off sz,v,h=>by simp[PM,SR]
 |.dd o w,v,h=>by
  simp only[PM];simp only[SR] at h;split
  .rename_i ty q k xs nl hole ho;have ao:=az o;rw[ho] at ao;have dA:=DP.le ao;split
   .split
    .obtain⟨h1,_⟩:=h;simp only[SR,KC];refine⟨v,rfl,?_⟩;rw[h1];exact(DP.sl ao).mono dA λ_ _ e=>e.mono dA
    .simp[SR]
   .simp only[SR];exact KC.mono dA h
   .simp only[SR];exact KC.mono dA h.1
   .simp[SR]
  .simp[SR]
 |.map o,v,h=>by simp[PM,SR]
 |.tup l,v,h=>by simp[PM,SR]
 |.box o off,v,h=>by
  simp only[PM];split
  .rename_i l _ ho;have ao:=az o;rw[ho] at ao;obtain⟨i,c,e,t,h1,h2,h3,_⟩:=ao;simp only[SR] at h;obtain⟨b,h4,rfl⟩:=h;rw[h4] at h1;obtain rfl:=(by simpa using h1:b=i);exact lD l off b c e t h2 h3
  .simp[SR]
 |.rop k l i off,v,h=>by simp only[PM];exact SR.mono (tb:=tb) hle (λn c hn=>hn) (.rop k l i off) v h |> λh=>by simp only[SR] at h |-;exact h
 |.cp l off,v,h=>by simp only[PM,SR] at h |-;obtain⟨b,c,e,wr,t,h1,h2,h3⟩:=h;exact⟨b,c,e,wr,t,hle.2 _ _ h1,h2,JM hle az lD l c h3⟩
 |.agg l,v,h=>by simp only[PM,SR] at h |-;obtain⟨cs,h1,h2⟩:=h;exact⟨cs,h1,JM hle az lD l cs h2⟩
 |.fn f a b,v,h=>by simp only[PM,SR] at h |-;obtain⟨x,y,h1,h2,h3⟩:=h;exact⟨x,y,h1,JM hle az lD a x h2,JM hle az lD b y h3⟩
 |.pf ks r c_ p,v,h=>by simp only[PM,SR] at h |-;exact h.mono hle
theorem JM {bx:List SV->Nat->SV}(hle:B.Le U) (az:∀ d,OR P B pl tb U (pl d) (Q8 own d))
  (lD:∀ l off b c e t,U.get b=some (.cells c e true t)->SRs P B pl tb l c->SR P U Jg Zh (bx l off) (.pointer (some ⟨b,off,none⟩))) :
  ∀ (s:List SV) (v:List Value),SRs P B pl tb s v->SRs P U Jg Zh (BV own bx s) v
 |[],v,h=>by simp only[BV,SRs] at h |-;exact h
 |s::ss,v,h=>by simp only[BV,SRs] at h |-;obtain⟨x,y,h1,h2,h3⟩:=h;exact⟨x,y,h1,Ao hle az lD s x h2,JM hle az lD ss y h3⟩
end
theorem Y0 (hle:B.Le U) (az:∀ d,OR P B pl tb U (pl d) (Q8 own d)) {l:List SV}{v:List Value}(h:SRs P B pl tb l v):SRs P U Jg Zh (Bv own l) v:=by
 have h0:∀ {l v},SRs P B pl tb l v->SRs P U Jg Zh (Z4d own l) v:=λh=>JM hle az (λ_ _ _ _ _ _ _ _=>by simp[SR]) _ _ h;have h1:∀ {l v},SRs P B pl tb l v->SRs P U Jg Zh (Z44 own l) v:=λh=>JM hle az (λl off b c e t hg hs=>by
  simp only[SR];exact⟨b,c,e,true,t,hg,rfl,h0 hs⟩) _ _ h
 exact JM hle az (λl off b c e t hg hs=>by
  simp only[SR];exact⟨b,c,e,true,t,hg,rfl,h1 hs⟩) _ _ h
mutual
theorem EE {p q:Nat->Value}{n:Nat}(h:∀ j,j<n->p j=q j):∀ (s:SV),s.ret n=true->Vm p s=Vm q s
 |.val _ _,_|.nilS,_|.nilP,_|.nilM,_|.nilF,_=>by simp[Vm]
 |.lst j,hr=>by simp only[Vm];exact h j (by simpa [SV.ret,zM] using hr)
 |.agg l,hr=>by simp only[Vm];rw[Ri h l hr]
 |.tup l,hr=>by simp only[Vm];rw[Ri h l hr]
 |.box _ _,_|.map _,_=>by simp[Vm]
 |.dd _ _,_=>by simp[Vm]
 |.any,h|.bid _ _,h|.grd _ _,h|.sub _ _ _ _,h|.elp _ _ _ _,h|.rop _ _ _ _,h|.cp _ _,h|.fn _ _ _,h|.pf _ _ _ _,h=>by cases h
theorem Ri {p q:Nat->Value}{n:Nat}(h:∀ j,j<n->p j=q j):∀ (s:List SV),SVs.ret n s=true->YG p s=YG q s
 |[],_=>rfl
 |s::ss,hr=>by simp only[SVs.ret,z7] at hr;simp only[YG];rw[EE h s hr.1,Ri h ss hr.2]
end
theorem ZL {cs:List (Nat×CSp)}(aA:CsOk P cs) {f:SV}{args:List SV}{c:Prop}{v:SV}{bs:List OB}{fV:Value}{vs:List Value}(hf:SR P U Jg Zh f fV) (ha:SRs P U Jg Zh args vs)
  (h:Vc cs f args=some (c,v,bs)) (hv:v.ret bs.length=true) (hb:bs.all OB.ret=true) (hc:c):∃ g a b,fV=.func (.func g) a b/\(VCalled P g (a.toList++vs++b.toList) U λu U'=>Ret P U v bs u U') /\
  (bs.all OB.isL=true->Vk v=true->VCalled P g (a.toList++vs++b.toList) U λu U'=>u=Vm (Tl U bs) v/\U'=BW U bs):=by
 have gen:(gap cs 3 f args).map (λx=>(x.1,x.2,([]:List OB)))=some (c,v,bs)->∃ g a b,fV=.func (.func g) a b/\(VCalled P g (a.toList++vs++b.toList) U λu U'=>Ret P U v bs u U') /\
   (bs.all OB.isL=true->Vk v=true->VCalled P g (a.toList++vs++b.toList) U λu U'=>u=Vm (Tl U bs) v/\U'=BW U bs):=λh=>by
  simp only[zx] at h;obtain⟨⟨c',v'⟩,h1,h2⟩:=h;simp only[Prod.mk.injEq] at h2;obtain⟨rfl,rfl,rfl⟩:=h2;obtain⟨h3,g,a,b,rfl,h4⟩:=I2 aA 3 U f args c' v' fV vs hf ha h1 hc;refine⟨g,a,b,rfl,h4.mono λu U' hu=>?_,λ_ cR=>h4.mono λu U' hu=>?_⟩
  .obtain⟨rfl,hu⟩:=hu;exact⟨⟨Heap.Le.refl _,Dead.refl _⟩,λ_=>rfl,Jg,(λj b hj=>by simp at hj),(λj j' i hj=>by simp at hj),hu⟩
  .obtain⟨rfl,hu⟩:=hu;have hz:BW U' []=U':=(Li (P:=P) U' (v:=v') (bs:=[]) h3 cR rfl rfl (λb hb=>by cases hb)).2.1 rfl;refine⟨?_,hz.symm⟩;rw[VW v' u h3 cR hu];exact EE (λj hj=>by omega) v' h3
 cases f with
 |fn g a b =>
  simp only[Vc] at h;split at h
  .rename_i sp cy;simp only[SR] at hf;obtain⟨x,y,rfl,h1,h2⟩:=hf;refine⟨g,x.toArray,y.toArray,rfl,?_⟩;simpa using aA g sp cy (gap cs 3) (I2 aA 3) U (a++args++b) (x++vs++y) c v bs ((h1.append ha).append h2) h hv hb hc
  .cases h
 |_=>exact gen h
theorem Gam.q1s {s:St}{env:Env}{U':Heap}(h:Gam P B F pl tb s env U) (hl:U.Le U') {d:Nat}(aq:(Q8 s.own d).live=true) {i:Nat}(hi:Oid (pl d) i):U'.get i=U.get i:=by
  have ah:=(h.obj d).q0w aq hi;cases hb:U.get i with
  |none =>
   have ao:=h.obj d;cases ho:Q8 s.own d with
   |dead=>rw[ho] at aq;cases aq
   |lst ty k xs nl =>
    rw[ho] at ao;rcases ao with⟨_,_,h2⟩|⟨_,i',cap,c,t,h2,_,h3,_⟩
    .rw[h2] at hi;cases hi
    .rw[h2] at hi;obtain rfl:=osj hi;rw[h3] at hb;cases hb
   |cells l u=>rw[ho] at ao;obtain⟨i',c,e,t,h2,h3,_⟩:=ao;rw[h2] at hi;obtain rfl:=osj hi;rw[h3] at hb;cases hb
   |mapE kk vk m key n=>rw[ho] at ao;obtain⟨i',es,cl,r,e,h2,h3,_⟩:=ao;rw[h2] at hi;obtain rfl:=osj hi;rw[h3] at hb;cases hb
   |map kk vk m=>rw[ho] at ao;obtain⟨i',es,cl,h2,h3,_⟩:=ao;rw[h2] at hi;obtain rfl:=osj hi;rw[h3] at hb;cases hb
   |stk l vals=>rw[ho] at aq;cases aq
   |lpf l q s=>rw[ho] at ao aq;obtain⟨h2,_,h3⟩:=ao;rw[h2] at hi;obtain rfl:=osj hi;have h3:=h3 aq;rw[hb] at h3;cases h3
   |iter kk vk m dn=>rw[ho] at ao;obtain⟨j',i',es,cl,wr,seen,h2,h3,_⟩:=ao;rw[h2] at hi;obtain rfl:=osj hi;rw[h3] at hb;cases hb
   |deep ty q k xs nl hh =>rw[ho] at ao;obtain⟨is,_,d2,d3,_⟩:=DP.open ao;obtain⟨c,e,t,h⟩:=d2.cells i ((d3 i).1 hi);rw[h] at hb;cases hb
  |some b=>rw[hl.2 i b hb]
theorem Gam.heap {s:St}{env:Env}{U':Heap}(h:Gam P B F pl tb s env U) (hl:U.Le U'):Gam P B F pl tb s env U' :=
 ⟨h.bf,h.le.trans hl,h.env,λd=>(h.obj d).mono (Heap.Le.refl _) (λ_ _ h=>h) λaq _i hi=>h.q1s hl aq hi,h.fresh,h.sep,h.free⟩
theorem Pt {env:Env}{σ0:Heap}{d nt:Nat}(dz:0<nt) (dC:Nat->Value) (bs:List OB) (hB:F.Le σ0)
  (ao:∀ j b,bs[j]?=some b->b.ret=true/\OR P hNil dC Zh U (dC j) b/\∀ i,Oid (dC j) i->σ0.n<=i)
  (dB:∀ j j' i,j<bs.length->j'<bs.length->j≠j'->Oid (dC j) i->Oid (dC j') i->False) :
  ∀ (r:List OB) (j:Nat) (pl:Nat->Value) (s:St),bs.drop j=r->Gam P B F pl tb s env U->(∀ k i,(Q8 s.own k).live=true->Oid (pl k) i->i<σ0.n\/∃ j'<j,j'<bs.length/\Oid (dC j') i/\k=d+j'*nt)->(∀ j'<j,j'<bs.length->pl (d+j'*nt)=dC j') ->
   ∃ pl',Gam P B F pl' tb (s.makes d nt j r) env U/\(∀ j'<bs.length,pl' (d+j'*nt)=dC j')/\∀ q,(∀ j'<bs.length,q≠d+j'*nt)->pl' q=pl q/\(Q8 (s.makes d nt j r).own q).live=(Q8 s.own q).live
 |[],j,pl,s,hr,hG,_,hp=>⟨pl,hG,λj' cC=>hp j' (by
   have:=congrArg List.length hr;simp at this;omega) cC,λq _=>⟨rfl,rfl⟩⟩
 |b::r,j,pl,s,hr,hG,hinv,hp=>by
  have bX:j<bs.length:=by
   rcases zn j bs.length with h|h
   .exact h
   .rw[List.drop_eq_nil_of_le h] at hr;cases hr
  have b9:bs[j]?=some b:=by
   have:(bs.drop j)[0]?=some b:=by rw[hr];rfl
   simpa using this
  have jX:bs.drop (j+1)=r:=by
   have:(bs.drop j).drop 1=r:=by rw[hr];rfl
   simpa [List.drop_drop,xR] using this
  obtain⟨h1,h2,h3⟩:=ao j b b9;have bI:∀ j' ,j'≠j->d+j'*nt≠d+j*nt:=λj' aB e=>aB (Nat.eq_of_mul_eq_mul_right dz (by omega));obtain⟨pl',k1,k2,k3⟩:∃ pl',Gam P B F pl' tb ((s.make (d+j*nt) b).makes d nt (j+1) r) env U/\(∀ j'<bs.length,pl' (d+j'*nt)=dC j')/\∀ q,(∀ j'<bs.length,q≠d+j'*nt)->pl' q=Jf pl (d+j*nt) (dC j) q/\(Q8 ((s.make (d+j*nt) b).makes d nt (j+1) r).own q).live=(Q8 (s.make (d+j*nt) b).own q).live:=by
   refine Pt dz dC bs hB ao dB r (j+1) (Jf pl (d+j*nt) (dC j)) _ jX (hG.make (d+j*nt) b (dC j) hG.le (λ_ _ _ _ _=>rfl) (h2.retd h1 λ_ _=>rfl) λi _ hi=>⟨F.wf _ (by have:=h3 i hi;have:=hB.1;omega),λk hk hl e=>?_⟩) (λk i hl hi=>?_) λj' cC mq=>?_
   .rcases hinv k i hl e with h|⟨j',cC,dD,he,_⟩
    .have:=h3 i hi;omega
    .exact dB j j' i bX dD (by omega) hi he
   .by_cases hk:k=d+j*nt
    .subst hk;simp only[Jf,zB] at hi;exact .inr ⟨j,by omega,bX,hi,rfl⟩
    .have cw:(Q8 s.own k).live=true:=by
      simp only[St.make,St.kill,Qi,YX,zd hk] at hl
      rwa [OB.q0q] at hl
     simp only[Jf,zd hk] at hi;rcases hinv k i cw hi with h|⟨j',cC,h5⟩
     .exact .inl h
     .exact .inr ⟨j',by omega,h5⟩
   .by_cases e:j'=j
    .subst e;simp[Jf]
    .simp only[Jf,zd (bI j' e)];exact hp j' (by omega) mq
  refine⟨pl',k1,k2,λq hq=>?_⟩;obtain⟨e1,e2⟩:=k3 q hq;refine⟨by rw[e1];simp[Jf,hq j bX],?_⟩;show (Q8 ((s.make (d+j*nt) b).makes d nt (j+1) r).own q).live=_;rw[e2];simp only[St.make,St.kill,Qi,YX,zd (hq j bX),OB.q0q]
theorem Ret.gamF {s:St}{env:Env}{d nt:Nat}(dz:0<nt) (hG:Gam P B F pl tb s env U) {v:SV}{bs:List OB}{u:Value}{U':Heap}(hv:v.ret bs.length=true) (hb:bs.all OB.ret=true) (h:Ret P U v bs u U') :
  ∃ pl',Gam P B F pl' tb (s.makes d nt 0 bs) env U'/\SR P B pl' tb (v.ren d nt) u/\∀ q,(∀ j'<bs.length,q≠d+j'*nt)->(Q8 (s.makes d nt 0 bs).own q).live=(Q8 s.own q).live/\pl' q=pl q/\((Q8 s.own q).live=true->∀ i,Oid (pl q) i->U'.get i=U.get i):=by
 obtain⟨⟨h1,_⟩,_,dC,h2,h3,h4⟩:=h
 obtain⟨pl',h5,h6,h7⟩:=Pt (tb:=tb) (d:=d) dz dC bs hG.le (λj b hj=>⟨zg.1 hb b (zH hj),(h2 j b hj).1,λi hi=>((h2 j b hj).2 i hi).2⟩) h3 bs 0 pl s rfl (hG.heap h1)
  (λk i hl hi=>.inl ((hG.obj k).q0w hl hi)) (λj' cC=>by omega)
 exact⟨pl',h5,SR.ren (tb:=Zh) (λj hj=>h6 j hj) _ _ hv (SR.mono (tb:=Zh) (tb':=Zh) (C_ B) (λ_ _ h=>h) _ _ h4),λq hq=>⟨(h7 q hq).2,(h7 q hq).1,λhl i hi=>hG.q1s h1 hl hi⟩⟩
theorem Ret.gam {s:St}{env:Env}{d nt:Nat}(dz:0<nt) (hG:Gam P B F pl tb s env U) {v:SV}{bs:List OB}{u:Value}{U':Heap}(hv:v.ret bs.length=true) (hb:bs.all OB.ret=true) (h:Ret P U v bs u U') :
  ∃ pl',Gam P B F pl' tb (s.makes d nt 0 bs) env U'/\SR P B pl' tb (v.ren d nt) u:=by
 obtain⟨pl',h1,h2,_⟩:=h.gamF dz hG hv hb;exact⟨pl',h1,h2⟩
end
end Go.V
namespace Go.V
open Go
section
variable {P:Program}
structure GBase (B0 F0 D0 B F U:Heap):Prop where
 b:B0.Le B
 f:F0.Le F
 x:∀ i b,F0.get i=some b->B0.get i=none->B.get i=none
 d:Dead D0 U
theorem GBase.of {B F U:Heap}{U':Heap}(_hB:B.Le F) (h:Dead U U'):GBase B F U B F U':=⟨.refl _,.refl _,λ_ _ _ h=>h,h⟩
theorem GBase.trans {B0 F0 D0 B F U B' F' U':Heap}(h:GBase B0 F0 D0 B F U) (h':GBase B F U B' F' U'):GBase B0 F0 D0 B' F' U' :=
 ⟨h.b.trans h'.b,h.f.trans h'.f,λi b h1 h2=>h'.x i b (h.f.2 _ _ h1) (h.x i b h1 h2),h.d.trans h'.d⟩
def GRel (P:Program) (B0 F0 D0:Heap) (s:St) (env:Env) (U:Heap):Prop:=∃ B F pl tb,GBase B0 F0 D0 B F U/\Gam P B F pl tb s env U
theorem MI {B0 F0 D0 B F:Heap}{U U':Heap}(hB:GBase B0 F0 D0 B F U) (h:Dead U U'):GBase B0 F0 D0 B F U':=⟨hB.b,hB.f,hB.x,hB.d.trans h⟩
theorem Gam.evs {B F:Heap}{pl:Nat->Value}{tb:Nat->Option Bool}{s:St}{env:Env}{U:Heap}(h:Gam P B F pl tb s env U) {gs:List Gd}(hg:Gds tb gs) (x:Operand):SR P B pl tb (gev gs s.env x) (Q3 env x):=Iz hg h.env x
theorem Gds.nil {tb:Nat->Option Bool}:Gds tb []:=λ_ h=>by cases h
theorem Eg {gs:List Gd}{c:Prop}(h:Q65 gs c) (hg:∀ g∈gs,g.c=g.want):c:=by
 induction gs with
 |nil=>exact h
 |cons g gs ih=>exact ih (h (hg g (by simp))) λg' dV=>hg g' (by simp[dV])
theorem Zl {gs:List Gd}{cs:List Prop}{q:Prop}(h:Ls gs cs q):q/\((∀ g∈gs,g.c=g.want)->∀ c∈cs,c):=by
 induction cs with
 |nil=>exact⟨h,λ_ c hc=>by cases hc⟩
 |cons c cs ih =>
  obtain⟨h1,h2⟩:=h;obtain⟨h3,h4⟩:=ih h2;exact⟨h3,λhg c' cL=>by
   rcases zo.1 cL with rfl|cL
   .exact Eg h1 hg
   .exact h4 hg c' cL⟩
theorem Dead.push (U:Heap) (b:Blk):Dead U (U.push b):=⟨by simp,λi hi h=>by rw[Heap.q0i _ _ hi];exact h⟩
theorem Dead.upd (U:Heap) (j:Nat) (b:Blk) (hj:(U.get j).isSome=true):Dead U (U.upd j b):=⟨by simp,λi hi h=>by
 have:i≠j:=λe=>by subst e;rw[h] at hj;cases hj
 rw[Heap.q0b _ _ this];exact h⟩
theorem Dead.kill (U:Heap) (j:Nat):Dead U (U.kill j):=⟨by simp,λi hi h=>by
 by_cases e:i=j
 .subst e;exact Heap.q0g _ _
 .rw[Heap.q0d _ e];exact h⟩
theorem Sl {e:El}{bytes m:Nat}{U U':Heap}{s u:Value}{xs:List Value}(h:Yt e bytes U s m xs=some (u,U')):Dead U U':=by
 unfold Yt at h;split at h
 .split at h
  .obtain⟨rfl,rfl⟩:=QP h;exact Dead.refl _
  .split at h
   .obtain⟨rfl,rfl⟩:=QP h;exact Dead.push _ _
   .cases h
 .split at h
  .rename_i hg;split at h
   .split at h
    .obtain⟨rfl,rfl⟩:=QP h;exact Dead.refl _
    .split at h
     .split at h
      .obtain⟨rfl,rfl⟩:=QP h;exact Dead.upd _ _ _ (by rw[hg];rfl)
      .cases h
     .split at h
      .split at h
       .obtain⟨rfl,rfl⟩:=QP h;exact Dead.push _ _
       .split at h
        .obtain⟨rfl,rfl⟩:=QP h;exact(Dead.kill _ _).trans (Dead.push _ _)
        .cases h
      .cases h
   .cases h
  .cases h
 .split at h
  .split at h
   .obtain⟨rfl,rfl⟩:=QP h;exact Dead.push _ _
   .cases h
  .cases h
 .cases h
theorem Ki {o:VOp}{ev:Operand->Value}{U U':Heap}{u:Value}(h:Q6 o ev U=some (u,U')):Dead U U':=by
 by_cases hk:o.kind=2
 .cases o<;>first|(cases hk;done)|skip
  case alloc t z=>obtain⟨rfl,rfl⟩:=QP h;exact Dead.push _ _
  case box t x =>
   simp only[Q6] at h;split at h
   .obtain⟨rfl,rfl⟩:=QP h;exact Dead.push _ _
   .cases h
  case buildSlice e z n ps =>
   simp only[Q6] at h;split at h
   .obtain⟨rfl,rfl⟩:=QP h;exact Dead.push _ _
   .cases h
  case makeSlice e b z l c =>
   simp only[Q6] at h;split at h
   .split at h
    .obtain⟨rfl,rfl⟩:=QP h;exact Dead.push _ _
    .cases h
   .cases h
  case store size a x =>
   simp only[Q6] at h;split at h
   .split at h
    .rename_i hg;split at h
     .obtain⟨rfl,rfl⟩:=QP h;exact Dead.upd _ _ _ (by rw[hg];rfl)
     .cases h
    .cases h
   .cases h
  case append e b x y =>
   simp only[Q6] at h;split at h
   .split at h
    .exact Sl h
    .cases h
   .cases h
  case slice size x lo hi mx =>
   simp only[Q6] at h;split at h
   .have sl:∀ {l hh:Nat}{m:Option Nat}{v:Value},Wv size U v l hh m=some (u,U')->Dead U U':=λ{l hh m v} h=>by
     unfold Wv at h;split at h
     .split at h
      .obtain⟨rfl,rfl⟩:=QP h;exact Dead.refl _
      .cases h
     .split at h
      .split at h
       .split at h
        .obtain⟨rfl,rfl⟩:=QP h;exact Dead.refl _
        .cases h
       .split at h
        .split at h
         .obtain⟨rfl,rfl⟩:=QP h;exact Dead.push _ _
         .split at h<;>(obtain⟨rfl,rfl⟩:=QP h;exact Dead.refl _)
        .cases h
      .cases h
     .cases h
    split at h
    .exact sl h
    .split at h
     .exact sl h
     .cases h
    .cases h
   .cases h
  case callF f a=>cases h
  case callV f a=>cases h
  case ext x =>
   cases x<;>first|(cases hk;done)|skip
   case makeMap=>obtain⟨rfl,rfl⟩:=QP h;exact Dead.push _ _
   case mapUpdate mk m k v =>
    simp only[Q6,Zc] at h;split at h
    .split at h
     .rename_i hm;split at h
      .obtain⟨rfl,rfl⟩:=QP h;refine Dead.upd _ _ _ ?_;unfold Heap.mapAt at hm;split at hm
       .rename_i hg;rw[hg];rfl
       .cases hm
      .cases h
     .cases h
    .cases h
   case mapEntry mk z m k =>
    simp only[Q6,Zc] at h;split at h
    .split at h
     .rename_i hm;split at h
      .split at h
       all_goals
        obtain⟨rfl,rfl⟩:=QP h;refine Dead.upd _ _ _ ?_;unfold Heap.mapAt at hm;split at hm
        .rename_i hg;rw[hg];rfl
        .cases hm
      .cases h
     .cases h
    .cases h
   case entryStore m s v =>
    simp only[Q6,Zc] at h;split at h
    .split at h
     .rename_i hm;split at h
      .split at h
       .obtain⟨rfl,rfl⟩:=QP h;refine Dead.upd _ _ _ ?_;unfold Heap.mapAt at hm;split at hm
        .rename_i hg;rw[hg];rfl
        .cases hm
       .cases h
      .cases h
     .cases h
    .cases h
   case delete mk m k =>
    simp only[Q6,Zc] at h;split at h
    .split at h
     .rename_i hm;split at h
      .obtain⟨rfl,rfl⟩:=QP h;refine Dead.upd _ _ _ ?_;unfold Heap.mapAt at hm;split at hm
       .rename_i hg;rw[hg];rfl
       .cases hm
      .cases h
     .cases h
    .cases h
   case rangeMap x =>
    simp only[Q6,Zc] at h;split at h
    .split at h
     .obtain⟨rfl,rfl⟩:=QP h;exact Dead.push _ _
     .cases h
    .cases h
   case nextMap x=>cases h
   case copy size a b =>
    simp only[Q6,Zc] at h;split at h
    .split at h
     .obtain⟨rfl,rfl⟩:=QP h;exact Dead.refl _
     .split at h
      .split at h
       .rename_i hg;split at h
        .obtain⟨rfl,rfl⟩:=QP h;exact Dead.upd _ _ _ (by rw[hg];rfl)
        .cases h
       .cases h
      .cases h
    .cases h
   case clear z x =>
    simp only[Q6,Zc] at h;split at h
    .split at h
     .obtain⟨rfl,rfl⟩:=QP h;exact Dead.refl _
     .split at h
      .split at h
       .rename_i hg;split at h
        .obtain⟨rfl,rfl⟩:=QP h;exact Dead.upd _ _ _ (by rw[hg];rfl)
        .cases h
       .cases h
      .cases h
    .cases h
   case strBytes e x =>
    simp only[Q6,Zc] at h;split at h
    .split at h
     .obtain⟨rfl,rfl⟩:=QP h;exact Dead.push _ _
     .cases h
    .cases h
   case unsafeStr e x n =>
    simp only[Q6,Zc] at h;split at h
    .split at h
     .obtain⟨rfl,rfl⟩:=QP h;exact Dead.refl _
     .split at h
      .split at h
       .rename_i hg;split at h
        .split at h
         .obtain⟨rfl,rfl⟩:=QP h;exact Dead.upd _ _ _ (by rw[hg];rfl)
         .cases h
        .cases h
       .cases h
      .cases h
    .cases h
 .obtain rfl:=Db hk h;exact Dead.refl _
theorem NM {B F:Heap}{pl:Nat->Value}{tb:Nat->Option Bool}{s:St}{env:Env}{U:Heap}(hG:Gam P B F pl tb s env U) {x:Operand}{b:Bool}(h:La s.env x=some b):Q3 env x=.bool b:=by
 unfold La at h;split at h
 .rename_i j;split at h
  .rename_i gs v he;split at h
   .split at h
    .rename_i k y;split at h
     .obtain rfl:=osj h;have:=hG.env.getD j undef;rw[he] at this;simp only[SR] at this;have h2:=this.2.1 (λg hg=>by cases hg);have h3:[env.getD j undef]=[Value.bool _]:=h2;exact(zR h3).1
     .cases h
    .cases h
   .cases h
  .cases h
 .cases h
theorem KG {B F:Heap}{pl:Nat->Value}{tb:Nat->Option Bool}{s:St}{env:Env}{U:Heap}(hG:Gam P B F pl tb s env U) {g:Option (Nat×Bool)}{t:Bool}(h:EH s.env g=some t):J3 env g=some t:=by
 unfold EH at h;split at h
 .cases h
 .rename_i j want;split at h
  .rename_i b hb;obtain rfl:=osj h;have:=NM hG hb;simp only[Q3] at this;simp only[J3,this]
  .cases h
theorem U9 {B F:Heap}{pl:Nat->Value}{tb:Nat->Option Bool}{s:St}{env:Env}{U:Heap}(hG:Gam P B F pl tb s env U) {gs:List Gd}(hg:Gds tb gs) {c a b:Operand}{v:SV}(h:Eu gs s.env c a b=some v) :
  ∃ u,Q6 (.pick c a b) (Q3 env) U=some (u,U)/\SR P B pl tb v u:=by
 unfold Eu at h;split at h
 .rename_i t ht;have e:=NM hG ht;obtain rfl:=osj h;cases t with
  |true=>exact⟨Q3 env a,by simp only[Q6,e];rfl,hG.evs hg a⟩
  |false=>exact⟨Q3 env b,by simp only[Q6,e];rfl,hG.evs hg b⟩
 have hc:=hG.evs hg c;unfold Q21 at h;split at h
 .rename_i n t heq;rw[heq] at hc;simp only[SR] at hc;obtain⟨e,de⟩:=hc;have ht:∀ w,t=w->Gds tb (gs++[⟨n,w,t⟩]):=λw hw g dV=>by
   rcases zQ.1 dV with h1|h1
   .exact hg g h1
   .obtain rfl:=zp.1 h1;exact⟨hw,de⟩
  have hv:∀ u,(if t then Q3 env a else Q3 env b)=u->Q6 (.pick c a b) (Q3 env) U=some (u,U):=λu hu=>by simp only[Q6,e];rw[<-hu]
  split at h
  .rename_i b';simp only[zx] at h;obtain⟨y,h1,rfl⟩:=h;refine⟨.bool (t||y),hv _ ?_,ZW _⟩;cases t with
   |true=>rfl
   |false=>simpa using Xz h1 (hG.evs (ht false rfl) _)
  .rename_i a' aB;simp only[zx] at h;obtain⟨x,h1,rfl⟩:=h;refine⟨.bool (t&&x),hv _ ?_,ZW _⟩;cases t with
   |true=>simpa using Xz h1 (hG.evs (ht true rfl) _)
   |false=>rfl
  .split at h
   .rename_i k x k' y h1 h2;split at h
    .rename_i hk;subst hk;obtain rfl:=osj h;refine⟨.int k (if t then x else y),hv _ ?_,JR _ _⟩;cases t with
     |true=>have:=hG.evs (ht true rfl) a;rw[h1] at this;exact Ja rfl this
     |false=>have:=hG.evs (ht false rfl) b;rw[h2] at this;exact Ja rfl this
    .cases h
   .rename_i x y h1 h2;obtain rfl:=osj h;refine⟨.bool (if t then x else y),hv _ ?_,ZW _⟩;cases t with
    |true=>have:=hG.evs (ht true rfl) a;rw[h1] at this;exact Xz rfl this
    |false=>have:=hG.evs (ht false rfl) b;rw[h2] at this;exact Xz rfl this
   .cases h
 .cases h
theorem Gam.bid {B F:Heap}{pl:Nat->Value}{tb:Nat->Option Bool}{s:St}{env:Env}{U:Heap}(hG:Gam P B F pl tb s env U) {j:Nat}{v:SV}{c:Bool}(hv:∀ tb',(∀ n c,tb n=some c->tb' n=some c)->tb' s.nx=some c->SR P B pl tb' v (env.getD j undef)) :
  ∃ tb',(∀ n c,tb n=some c->tb' n=some c)/\tb' s.nx=some c/\Gam P B F pl tb' ⟨s.env.set j v,s.own,s.nx+1⟩ env U:=by
 refine⟨λn=>if n=s.nx then some c else tb n,?_,by simp,?_⟩
 .intro n c' hn;by_cases e:n=s.nx
  .rw[e,hG.free _ (zf _)] at hn;cases hn
  .simp only[zd e];exact hn
 .have hm:∀ n c',tb n=some c'->(λn=>if n=s.nx then some c else tb n) n=some c':=λn c' hn=>by
   by_cases e:n=s.nx
   .rw[e,hG.free _ (zf _)] at hn;cases hn
   .simp only[zd e];exact hn
  refine⟨hG.bf,hG.le,?_,λd=>(hG.obj d).mono (Heap.Le.refl _) hm λ_ _ _=>rfl,hG.fresh,hG.sep,λn hn=>?_⟩
  .have h1:=SRs.mono (Heap.Le.refl B) hm _ _ hG.env;by_cases hj:j<env.length
   .have:=h1.set j (hv _ hm (by simp))
    rwa [ze,z6 hj,Option.getD_some,List.set_getElem_self] at this
   .have:s.env.set j v=s.env:=List.set_eq_of_length_le (by rw[hG.env.length];omega);rw[this];exact h1
  .have:n≠s.nx:=by simp only at hn;omega
   simp only[zd this];exact hG.free n (by simp only at hn;omega)
theorem EO {gs:List Gd}(h:¬ ∀ g∈gs,g.c=g.want):∃ g∈gs,g.c≠g.want:=by
 rcases Classical.em (∃ g∈gs,g.c≠g.want) with h'|h'
 .exact h'
 .exact absurd (λg hg=>Classical.byContradiction λaB=>h' ⟨g,hg,aB⟩) h
theorem XO {B F:Heap}{pl:Nat->Value}{tb:Nat->Option Bool}{s:St}{env:Env}{U:Heap}(hG:Gam P B F pl tb s env U) {j:Nat}{want:Bool}{gs:List Gd}{s':St}(h:BG s j want=some (gs,s')) :
  ∃ tb',Gam P B F pl tb' s' env U/\(∀ g∈gs,tb' g.id=some g.c)/\∃ b,J3 env (some (j,want))=some b/\(b=true->∀ g∈gs,g.c=g.want)/\(b=false->∃ g∈gs,g.c≠g.want):=by
 have hj:=hG.env.getD j undef;unfold BG at h;split at h
 .rename_i c heq;obtain⟨rfl,rfl⟩:=QP h;rw[heq] at hj;have hb:env.getD j undef=.bool c:=Xz (s:=.val .bo c) rfl hj;obtain⟨tb',h1,h2,h3⟩:=hG.bid (j:=j) (v:=.bid s.nx c) (c:=c) λtb' _ h=>by simp only[SR];exact⟨hb,h⟩
  refine⟨tb',h3,λg hg=>by obtain rfl:=zp.1 hg;exact h2,c==want,by simp only[J3,hb],λe g hg=>?_,λe=>⟨_,zp.2 rfl,?_⟩⟩
  .obtain rfl:=zp.1 hg;simpa using e
  .simpa using e
 .rename_i n c heq;obtain⟨rfl,rfl⟩:=QP h;rw[heq] at hj;simp only[SR] at hj;refine⟨tb,hG,λg hg=>by obtain rfl:=zp.1 hg;exact hj.2,c==want,by simp only[J3,hj.1],λe g hg=>?_,λe=>⟨_,zp.2 rfl,?_⟩⟩
  .obtain rfl:=zp.1 hg;simpa using e
  .simpa using e
 .rename_i pP c heq;obtain⟨rfl,rfl⟩:=QP h;rw[heq] at hj;simp only[SR] at hj;obtain⟨⟨k1,k0⟩,k2,k3⟩:=hj;obtain⟨tb',h1,h2,h3⟩:=hG.bid (j:=j) (v:=.grd pP (.bid s.nx c)) (c:=c) λtb' hm h=>by
   simp only[SR];exact⟨⟨λg hg=>hm _ _ (k1 g hg),h⟩,λae=>⟨Xz (s:=.val .bo c) (P:=P) (B:=B) (pl:=pl) (tb:=tb) rfl (by simpa only [SR] using k2 ae),h⟩,k3⟩
  refine⟨tb',h3,λg hg=>?_,?_⟩
  .rcases zQ.1 hg with h4|h4
   .exact h1 _ _ (k1 g h4)
   .obtain rfl:=zp.1 h4;exact h2
  .by_cases ae:∀ g∈pP,g.c=g.want
   .have hb:env.getD j undef=.bool c:=Xz (s:=.val .bo c) (P:=P) (B:=B) (pl:=pl) (tb:=tb) rfl (by simpa only [SR] using k2 ae);refine⟨c==want,by simp only[J3,hb],λe g hg=>?_,λe=>⟨_,zQ.2 (.inr (zp.2 rfl)),by simpa using e⟩⟩;rcases zQ.1 hg with h4|h4
    .exact ae g h4
    .obtain rfl:=zp.1 h4;simpa using e
   .have hex:=EO ae;refine⟨false,by simp only[J3,k3 hex];rfl,(λe=>by cases e),λ_=>?_⟩;obtain⟨g,hg,aB⟩:=hex;exact⟨g,zQ.2 (.inl hg),aB⟩
 .rename_i pP n c heq;obtain⟨rfl,rfl⟩:=QP h;rw[heq] at hj;simp only[SR] at hj;obtain⟨⟨k1,k0⟩,k2,k3⟩:=hj;refine⟨tb,hG,λg hg=>?_,?_⟩
  .rcases zQ.1 hg with h4|h4
   .exact k1 g h4
   .obtain rfl:=zp.1 h4;exact k0
  .by_cases ae:∀ g∈pP,g.c=g.want
   .obtain⟨hb,de⟩:=k2 ae;refine⟨c==want,by simp only[J3,hb],λe g hg=>?_,λe=>⟨_,zQ.2 (.inr (zp.2 rfl)),by simpa using e⟩⟩;rcases zQ.1 hg with h4|h4
    .exact ae g h4
    .obtain rfl:=zp.1 h4;simpa using e
   .have hex:=EO ae;refine⟨false,by simp only[J3,k3 hex];rfl,(λe=>by cases e),λ_=>?_⟩;obtain⟨g,hg,aB⟩:=hex;exact⟨g,zQ.2 (.inl hg),aB⟩
 .cases h
theorem Gam.gcall {B F:Heap}{pl:Nat->Value}{tb:Nat->Option Bool}{s:St}{env:Env}{U:Heap}(hG:Gam P B F pl tb s env U) {gs:List Gd}(hg:Gds tb gs) (args:List Operand):SRs P U Jg Zh (Bv s.own (args.map (gev gs s.env))) (args.map (Q3 env)) :=
 Y0 hG.leB hG.obj (SRs.map λx _=>hG.evs hg x)
theorem Gam.gfun {B F:Heap}{pl:Nat->Value}{tb:Nat->Option Bool}{s:St}{env:Env}{U:Heap}(hG:Gam P B F pl tb s env U) {gs:List Gd}(hg:Gds tb gs) (f:Operand):SR P U Jg Zh ((Bv s.own [gev gs s.env f]).getD 0 .any) (Q3 env f):=by have:=(Y0 hG.leB hG.obj (show SRs P B pl tb [gev gs s.env f] [Q3 env f] by simp only[SRs];exact⟨_,[],rfl,hG.evs hg f,rfl⟩)).getD 0 poison;simpa using this
theorem NN {env:Env}{f:Operand}{args:List Operand}{U:Heap}{K:Value->Heap->Prop}{g:FuncId}{a b:Array Value}(e:Q3 env f=.func (.func g) a b) (h:VCalled P g (a.toList++args.map (Q3 env)++b.toList) U K) :
  vop (Q2 P) (.callV f args) env U K:=by
 simp only[vop,e];exact h
def XOk (P:Program) (f:Nat) (x:XSp):Prop :=
 ∀ (B F:Heap) (pl:Nat->Value) (tb:Nat->Option Bool) (s:St) (env:Env) (U:Heap) (d:Nat) (args:List SV) (vs:List Value) (K:SV->St->Prop) (R:Value->Heap->Prop),
  Gam P B F pl tb s env U->SRs P B pl tb args vs->x d args s K ->
  (∀ v s' B' F' pl' tb' u U',K v s'->GBase B F U B' F' U'->Gam P B' F' pl' tb' s' env U'->SR P B' pl' tb' v u->R u U')->VCalled P f vs U R
def Q9b (P:Program) (f:Nat) (x:XSp) (j:Nat):Prop :=
 ∀ (B F:Heap) (pl:Nat->Value) (tb:Nat->Option Bool) (s:St) (env:Env) (U:Heap) (d:Nat) (args:List SV) (vs:List Value) (K:SV->St->Prop) (R:Value->Heap->Prop) (t:Nat),
  Gam P B F pl tb s env U->SRs P B pl tb args vs->Q2h s.own j args=some t->x d args s K ->
  (∀ v s' u U',K v s'->Dead U U'->Gam P B F pl tb s' env U'->SR P B pl tb v u->FrL [t] s s' pl pl U U'->R u U')->VCalled P f vs U R
def Q63 (P:Program) (f:Nat) (it:ISp):Prop:=J8 P f /\
 ∀ (B:Heap) (args:List SV) (vs:List Value) (c:Prop) (m ar:Nat) (xs:Nat->List SV),SRs P B Jg Zh args vs->it args=some (c,m,ar,xs)->c ->
  (∀ k,(xs k).length=ar/\SVs.pure (xs k)=true)/\∀ (i:Nat) (Y:HD) (J:Nat->Heap->Prop) (E:Heap->Prop) (τ0:Heap),Ke P i Y->(∀ k Z,J k Z->B.Le Z) ->
   (∀ k us Z,k<m->J k Z->SRs P B Jg Zh (xs k) us->Y us Z λv Z'=>(v=.bool true/\J (k+1) Z')\/(v=.bool false/\E Z')) ->
   J 0 τ0->VCallsTo P f (.func (.yield i) #[] #[]::vs) τ0 λ_ Z=>J m Z\/E Z
def Ov (P:Program) (o:Nat) (y:YSp):Prop :=
 ∀ (B F:Heap) (pl:Nat->Value) (tb:Nat->Option Bool) (s:St) (env:Env) (U:Heap) (args:List SV) (us:List Value) (K:SV->St->Prop) (R:Value->Heap->Prop) (i:Nat),
  Gam P B F pl tb s env U->SRs P B pl tb args us->y args s K->pl o=.pointer (some ⟨i,0,none⟩) ->
  (∀ v s' B' F' pl' tb' u U',K v s'->GBase B F U B' F' U'->Gam P B' F' pl' tb' s' env U'->SR P B' pl' tb' v u->R u U')->VYields P i us U R
def Q6g (P:Program) (f:Nat) (x:Q62):Prop:=J8 P f /\
 ∀ (B F:Heap) (pl:Nat->Value) (tb:Nat->Option Bool) (s:St) (env:Env) (U:Heap) (o:Nat) (args:List SV) (vs:List Value) (y:YSp) (K:St->Prop) (R:Heap->Prop),
  Gam P B F pl tb s env U->SRs P B pl tb args vs->Ov P o y->x o args (o,y) s K ->
  (∀ s' B' F' pl' tb' af U',K s'->GBase B F U B' F' U'->Gam P B' F' pl' tb' s' af U'->R U')->VCallsTo P f vs U λ_=>R
structure COk (P:Program) (C:Cx):Prop where
 cs:CsOk P C.cs
 xs:∀ f x,Qq C.xs f=some x->XOk P f x
 it:∀ f x,Qq C.it f=some x->Q63 P f x
 yl:∀ o y,Qq C.yl o=some y->Ov P o y
 iy:∀ f x,Qq C.iy f=some x->Q6g P f x
 xf:∀ f j,Qq C.xf f=some j->∀ x,Qq C.xs f=some x->Q9b P f x j
theorem Pz {C:Cx}(aA:CsOk P C.cs) {B F:Heap}{pl:Nat->Value}{tb:Nat->Option Bool}{s:St}{env:Env}{U:Heap}(hG:Gam P B F pl tb s env U) {gs:List Gd}(hg:Gds tb gs) {raw:Bool}{o:VOp}{cs:List Prop}{v:SV}
  (h:gqc C raw o (gev gs s.env) s.own=some (cs,v)) (hc:∀ c∈cs,c) {K:Value->Heap->Prop}(hK:∀ u,SR P B pl tb v u->K u U):vop (Q2 P) o env U K:=by
 have flat:∀ {c:Prop}{v':SV},(bif v'.ret 0 then some ([c],v') else none)=some (cs,v)->v'.ret 0=true/\c/\v'=v:=λ{c v'} h=>by
  cases hv:v'.ret 0 with
  |false=>rw[hv] at h;cases h
  |true =>rw[hv] at h;obtain⟨rfl,rfl⟩:=QP h;exact⟨rfl,hc _ (by simp),rfl⟩
 have quiet:∀ o,gq C.kt raw o (gev gs s.env) s.own=some (cs,v)->(∀ K,QS (Q6 o (Q3 env) U) (λp=>K p.1 p.2)->vop (Q2 P) o env U K)->vop (Q2 P) o env U K:=λo h hv=>by obtain⟨u,h1,h2⟩:=Rv (hG.evs hg) (λ_=>rfl) hG.leB hG.obj h hc;exact hv K (by rw[h1];exact hK u h2)
 cases o
 case callF f args =>
  simp only[gqc] at h;split at h
  .rename_i c v' heq;obtain⟨h1,h2,rfl⟩:=flat h;obtain⟨g,a,b,h3,h4,_⟩:=ZL aA (show SR P U Jg Zh (.fn f [] []) (.func (.func f) #[] #[]) by simp only[SR,SRs];exact⟨[],[],rfl,rfl,rfl⟩) (hG.gcall hg args) heq h1 rfl h2;obtain⟨rfl,rfl,rfl⟩:=(by simpa using h3:f=g/\#[]=a/\#[]=b);have:=h4.mono (R':=K) λu U' hr=>by
    obtain⟨rfl,hu⟩:=hr.flat h1;exact hK u (hu.retd (λj hj=>by omega) _ _ h1)
   show VCalled P f (args.map (Q3 env)) U K;simpa using this
  .cases h
 case callV f args =>
  simp only[gqc] at h;split at h
  .rename_i c v' heq;obtain⟨h1,h2,rfl⟩:=flat h;obtain⟨g,a,b,h3,h4,_⟩:=ZL aA (hG.gfun hg f) (hG.gcall hg args) heq h1 rfl h2;exact NN h3 (h4.mono λu U' hr=>by
    obtain⟨rfl,hu⟩:=hr.flat h1;exact hK u (hu.retd (λj hj=>by omega) _ _ h1))
  .cases h
 case ext x =>
  cases x
  case nextMap x=>cases h
  all_goals exact quiet _ h λ_ h=>h
 all_goals exact quiet _ h λ_ h=>h
end
end Go.V
namespace Go.V
open Go
section
variable {P:Program}
mutual
theorem CD:∀ (v:SV) {K:SV->Prop},nmV v K->K v
 |.val k x,K,h=>by simp only[nmV] at h;exact h x rfl
 |.agg l,K,h=>by simp only[nmV] at h;exact Pb l h
 |.tup l,K,h=>by simp only[nmV] at h;exact Pb l h
 |.any,_,h|.dd _ _,_,h|.bid _ _,_,h|.grd _ _,_,h|.nilS,_,h|.nilP,_,h|.nilM,_,h|.nilF,_,h|.lst _,_,h|.sub _ _ _ _,_,h|.elp _ _ _ _,_,h|.rop _ _ _ _,_,h|.box _ _,_,h|.cp _ _,_,h|.map _,_,h|.fn _ _ _,_,h|.pf _ _ _ _,_,h=>by simp only[nmV] at h;exact h
theorem Pb:∀ (l:List SV) {K:List SV->Prop},Q6e l K->K l
 |[],K,h=>by simp only[Q6e] at h;exact h
 |v::r,K,h=>by simp only[Q6e] at h;exact Pb r (CD v h)
end
theorem Zg {C:Cx}{o:VOp}{ev:Operand->SV}{v:SV}{K:SV->Prop}(h:gnm C o ev v K):K v:=by
 unfold gnm at h;cases hb:(C.nm&&Z49 o ev) with
 |true=>rw[hb] at h;exact CD v h
 |false=>rw[hb] at h;exact h
theorem H6 {B:Heap}{pl:Nat->Value}{tb:Nat->Option Bool}{v:SV}{u:Value}(h:SR P B pl tb v u):SR P B pl tb (Dp v) u/\gtb tb (Dp v):=by
 cases v with
 |bid n c=>simp only[SR] at h;obtain⟨rfl,_⟩:=h;exact⟨ZW _,trivial⟩
 |_=>exact⟨h,trivial⟩
theorem H3 {tb:Nat->Option Bool}(v:SV):gtb tb (Dp v):=by cases v<;>trivial
theorem Bq {C:Cx}(aA:COk P C) {B F:Heap}{pl:Nat->Value}{tb:Nat->Option Bool}{s:St}{env:Env}{U:Heap}(hG:Gam P B F pl tb s env U) {d:Nat}{f:SV}{args:List SV}{fV:Value}{vs:List Value}(hf:SR P B pl tb f fV) (ha:SRs P B pl tb args vs) {K:SV->St->Prop}(h:Cv C d f args s K) {R:Value->Heap->Prop}
  (hK:∀ v s' B' F' pl' tb' u U',K v s'->GBase B F U B' F' U'->Gam P B' F' pl' tb' s' env U'->SR P B' pl' tb' v u->R u U'):∃ g a b,fV=.func (.func g) a b/\VCalled P g (a.toList++vs++b.toList) U R:=by
 unfold Cv at h;have ma:SR P U Jg Zh ((Bv s.own [f]).getD 0 .any) fV:=by have:=(Y0 hG.leB hG.obj (show SRs P B pl tb [f] [fV] by simp only[SRs];exact⟨_,[],rfl,hf,rfl⟩)).getD 0 poison;simpa using this
 have kQ:=Y0 hG.leB hG.obj ha;split at h
 .rename_i c v bs heq;cases hb:(v.ret bs.length&&(bs.all OB.ret&&Nat.blt 0 C.nt)) with
  |false=>rw[hb] at h;exact h.elim
  |true =>rw[hb] at h;obtain⟨h1,h2⟩:=h;simp only[z7] at hb;obtain⟨g,a,b,e,aG,_⟩:=ZL aA.cs ma kQ heq hb.1 hb.2.1 h1;refine⟨g,a,b,e,aG.mono λu U' hr=>?_⟩;obtain⟨pl',h3,h4⟩:=hr.gam (nt:=C.nt) (d:=d) (by simpa [zM] using hb.2.2) hG hb.1 hb.2.1;exact hK _ _ B F pl' tb u U' h2 (.of hG.bf hr.1.2) h3 h4
 .exact h.elim
theorem Bi {C:Cx}(aA:COk P C) {B F:Heap}{pl:Nat->Value}{tb:Nat->Option Bool}{s:St}{env:Env}{U:Heap}(hG:Gam P B F pl tb s env U) {d:Nat}{f:SV}{args:List SV}{fV:Value}{vs:List Value}(hf:SR P B pl tb f fV) (ha:SRs P B pl tb args vs) {K:SV->St->Prop}(h:TE C d f args s K) (uL:∀ o,f≠.dd o .yv) {R:Value->Heap->Prop}
  (hK:∀ v s' B' F' pl' tb' u U',K v s'->GBase B F U B' F' U'->Gam P B' F' pl' tb' s' env U'->SR P B' pl' tb' v u->R u U'):∃ g a b,fV=.func (.func g) a b/\VCalled P g (a.toList++vs++b.toList) U R:=by
 unfold TE at h;split at h
 .rename_i g a b;split at h
  .rename_i x hx;have pQ:=hf;simp only[SR] at hf;obtain⟨a',b',rfl,h1,h2⟩:=hf;refine⟨g,a'.toArray,b'.toArray,rfl,?_⟩;have:=aA.xs g x hx B F pl tb s env U d _ _ K R hG (h1.append (ha.append h2)) h hK;simpa using this
  .exact Bq aA hG hf ha h hK
 .exact(uL _ rfl).elim
 .exact Bq aA hG hf ha h hK
theorem En {C:Cx}{B F:Heap}{pl:Nat->Value}{tb:Nat->Option Bool}{s:St}{env:Env}{U:Heap}(hG:Gam P B F pl tb s env U) {d:Nat}{o:VOp}{K:SV->St->Prop}(h:gnd C d o (gev [] s.env) s K) {R:Value->Heap->Prop}
  (hK:∀ v s' B' F' pl' tb' u U',K v s'->GBase B F U B' F' U'->Gam P B' F' pl' tb' s' env U'->SR P B' pl' tb' v u->R u U'):vop (Q2 P) o env U R:=by
 obtain⟨u,U',pl',v,s',h1,h2,h3,h4⟩:=Pc (λx=>hG.evs (Gds.nil (tb:=tb)) x) hG h;have fin:QS (Q6 o (Q3 env) U) (λp=>R p.1 p.2):=by rw[h1];exact hK v s' B F pl' tb u U' h2 (.of hG.bf (Ki h1)) h3.1 h4
 cases o
 case buildSlice e z n ps=>exact fin
 case makeSlice e b z l c=>exact fin
 case append e b x y=>exact fin
 case store size a x=>exact fin
 all_goals exact h.elim
section
variable {B F:Heap}{pl:Nat->Value}{tb:Nat->Option Bool}{s:St}{env:Env}{U:Heap}
def Heap.ins (B U:Heap) (i:Nat) (h:B.n<=U.n):Heap where
 get j:=if j=i then U.get i else B.get j
 n:=U.n
 wf j hj:=by
  by_cases e:j=i
  .simp only[z8 e];subst e;exact U.wf j hj
  .simp only[zd e];exact B.wf j (zX h hj)
theorem Heap.q0n (B U:Heap) (i:Nat) (h:B.n<=U.n):(B.ins U i h).get i=U.get i:=by simp[Heap.ins]
theorem Heap.q1c (B U:Heap) {i j:Nat}(h:B.n<=U.n) (e:j≠i):(B.ins U i h).get j=B.get j:=by simp[Heap.ins,e]
theorem Heap.Le.ins {B U:Heap}(h:B.Le U) (i:Nat):B.Le (B.ins U i h.1):=⟨h.1,λj b hb=>by
 by_cases e:j=i
 .subst e;rw[Heap.q0n];exact h.2 _ _ hb
 .rw[Heap.q1c _ _ _ e];exact hb⟩
theorem Heap.Le.q2a {B U:Heap}(h:B.Le U) (i:Nat):(B.ins U i h.1).Le U:=⟨zf _,λj b hb=>by
 by_cases e:j=i
 .subst e;rw[Heap.q0n] at hb;exact hb
 .rw[Heap.q1c _ _ _ e] at hb;exact h.2 _ _ hb⟩
theorem Heap.q2d {B F U:Heap}(h:B.Le F) (i:Nat) (hB:B.n<=U.n) (hF:F.n<=U.n):(B.ins U i hB).Le (F.ins U i hF):=⟨zf _,λj b hb=>by
 by_cases e:j=i
 .subst e;rw[Heap.q0n] at hb |-;exact hb
 .rw[Heap.q1c _ _ _ e] at hb |-;exact h.2 _ _ hb⟩
theorem Gam.freeze (hG:Gam P B F pl tb s env U) {o i:Nat}(hl:(Q8 s.own o).live=true) (hi:Oid (pl o) i) :
  GBase B F U (B.ins U i hG.leB.1) (F.ins U i hG.le.1) U/\Gam P (B.ins U i hG.leB.1) (F.ins U i hG.le.1) pl tb ⟨s.env,oset s.own o .dead,s.nx⟩ env U:=by
 have nq:=hG.fresh o i hl hi;have lv:∀ d,(Q8 (oset s.own o .dead) d).live=true->d≠o/\(Q8 s.own d).live=true:=λd h=>by
  rw[Qi] at h;by_cases e:d=o
  .rw[z8 e] at h;cases h
  .rw[zd e] at h;exact⟨e,h⟩
 refine⟨⟨hG.leB.ins i,hG.le.ins i,λj b h1 h2=>?_,.refl _⟩,⟨Heap.q2d hG.bf i _ _,hG.le.q2a i,SRs.mono (hG.leB.ins i) (λ_ _ h=>h) _ _ hG.env,λd=>?_,λd j h1 h2=>?_,λd d' j aB h1 h2 h3 h4=>hG.sep d d' j aB (lv d h1).2 (lv d' h2).2 h3 h4,hG.free⟩⟩
 .have e:j≠i:=by rintro rfl;rw[nq] at h1;cases h1
  rw[Heap.q1c _ _ _ e];exact h2
 .simp only[Qi];by_cases e:d=o
  .rw[z8 e];trivial
  .rw[zd e];exact(hG.obj d).mono (hG.leB.ins i) (λ_ _ h=>h) λ_ _ _=>rfl
 .obtain⟨aB,bW⟩:=lv d h1;have e:j≠i:=by rintro rfl;exact hG.sep d o j aB bW hl h2 hi
  rw[Heap.q1c _ _ _ e];exact hG.fresh d j bW h2
theorem Gam.own {s':St}(hG:Gam P B F pl tb s env U) (h1:s'.env=s.env) (h2:∀ d,Q8 s'.own d=Q8 s.own d) (h3:s'.nx=s.nx):Gam P B F pl tb s' env U :=
 ⟨hG.bf,hG.le,by rw[h1];exact hG.env,λd=>by rw[h2];exact hG.obj d,λd i=>by rw[h2];exact hG.fresh d i,λd d' i aB=>by rw[h2,h2];exact hG.sep d d' i aB,λn hn=>hG.free n (by rw[<-h3];exact hn)⟩
theorem Gam.drop (hG:Gam P B F pl tb s env U) (o:Nat):Gam P B F pl tb ⟨s.env,oset s.own o .dead,s.nx⟩ env U:=by
 have lv:∀ d,(Q8 (oset s.own o .dead) d).live=true->d≠o/\(Q8 s.own d).live=true:=λd h=>by
  rw[Qi] at h;by_cases e:d=o
  .rw[z8 e] at h;cases h
  .rw[zd e] at h;exact⟨e,h⟩
 refine⟨hG.bf,hG.le,hG.env,λd=>?_,λd j h1 h2=>hG.fresh d j (lv d h1).2 h2,λd d' j aB h1 h2 h3 h4=>hG.sep d d' j aB (lv d h1).2 (lv d' h2).2 h3 h4,hG.free⟩;simp only[Qi];by_cases e:d=o
 .rw[z8 e];trivial
 .rw[zd e];exact hG.obj d
theorem SD (s:St) (d:Nat) (b:OB) (q:Nat):Q8 (s.make d .dead).own q=Q8 (oset (s.make d b).own d .dead) q:=by
 simp only[St.make,Qi];by_cases e:q=d
 .rw[z8 e,z8 e]
 .rw[zd e,zd e,zd e]
theorem Af {C:Cx}(hG:Gam P B F pl tb s env U) {d:Nat}{x:Operand}{K:SV->St->Prop}(h:gn C d (.ext (.rangeMap x)) (gev [] s.env) s K) {R:Value->Heap->Prop}
  (hK:∀ v s' B' F' pl' tb' u U',K v s'->GBase B F U B' F' U'->Gam P B' F' pl' tb' s' env U'->SR P B' pl' tb' v u->R u U'):vop (Q2 P) (.ext (.rangeMap x)) env U R:=by
 have ha:=hG.evs (Gds.nil (tb:=tb)) x;simp only[gn] at h;split at h
 .rename_i o h1;rw[h1] at ha;simp only[SR] at ha;split at h
  .rename_i kk vk m ho;split at h
   .have ao:=hG.obj o;rw[ho] at ao;obtain⟨i,es,clock,h2,h3,h4⟩:=ao;obtain⟨g1,g2⟩:=hG.freeze (o:=o) (i:=i) (by rw[ho];rfl) (by rw[h2];rfl)
    have jl:=g2.push d (.iter kk vk m []) (.pointer (some ⟨U.n,0,none⟩)) (.obj (.iter i clock [] clock) true) rfl
     ⟨U.n,i,es,clock,true,[],rfl,Heap.q0a _ _,by rw[Heap.q0n];exact h3,h4.mono g1.b,rfl,λt r h=>by simp at h⟩
    show QS (Q6 (.ext (.rangeMap x)) (Q3 env) U) _;have hv:Q6 (.ext (.rangeMap x)) (Q3 env) U=some (.pointer (some ⟨U.n,0,none⟩),U.push (.obj (.iter i clock [] clock) true)):=by simp only[Q6,Zc,ha.1,h2,Heap.mapAt,h3]
    rw[hv];exact hK _ _ _ _ _ _ _ _ h (g1.trans (.of g2.bf (Dead.push _ _))) jl (by simp only[SR,W2];exact⟨_,rfl,rfl⟩)
   .exact h.elim
  .exact h.elim
 .exact h.elim
theorem I6 {C:Cx}(hG:Gam P B F pl tb s env U) {d:Nat}{x:Operand}{K:SV->St->Prop}(h:gn C d (.ext (.nextMap x)) (gev [] s.env) s K) {R:Value->Heap->Prop}
  (hK:∀ v s' B' F' pl' tb' u U',K v s'->GBase B F U B' F' U'->Gam P B' F' pl' tb' s' env U'->SR P B' pl' tb' v u->R u U'):vop (Q2 P) (.ext (.nextMap x)) env U R:=by
 have ha:=hG.evs (Gds.nil (tb:=tb)) x;simp only[gn] at h;split at h
 .rename_i o f h1;rw[h1] at ha;simp only[SR] at ha;split at h
  .rename_i kk vk m dn ho;split at h
   .rename_i hf;obtain⟨rfl,oJ⟩:=hf;have aq:(Q8 s.own o).live=true:=by rw[ho];rfl
    have ao:=hG.obj o;rw[ho] at ao;obtain⟨j,i,es,clock,wr,seen,h2,h3,h4,h5,h6⟩:=ao;obtain⟨b,e2,e3⟩:=ha;rw[h2] at e2;obtain rfl:j=b:=by simpa using e2
    have aH:U.mapAt i=some (es,clock,wr):=by simp[Heap.mapAt,hG.leB.2 _ _ h4]
    have hlen:=h5.1.length;obtain⟨hA,hB⟩:=h;have bh:F.get j=none:=hG.fresh o j aq (by rw[h2];rfl);have a_:∀ q i',q≠o->(Q8 s.own q).live=true->Oid (pl q) i'->i'≠j:=λq i' hq hl hi e=>by subst e;exact hG.sep q o i' hq hl aq hi (by rw[h2];rfl)
    show C6 (Q3 env x) U R;unfold C6;rw[e3];simp only[h3,aH];refine⟨?_,?_,λae=>?_,λe he mg=>?_⟩
    .cases es with
     |nil=>simp
     |cons e es=>simp[h5.2.2 e (by simp)]
    .rw[zg];intro e he;obtain⟨r,hr⟩:=xn.1 he;obtain⟨_,k1,_⟩:=MR.at h5.1 hr;exact SP oJ k1
    .refine hK _ _ _ _ _ _ _ _ (hA λr hr=>?_) (.of hG.bf (Dead.refl U)) hG (by simp only[SR,SRs];exact⟨[.bool false],rfl,_,[],rfl,rfl,rfl⟩);have dH:r<es.length:=by omega
     have he:=z6 dH;have:=zg.1 ae es[r] (zr dH);have ah:=h5.2.2 _ (zr dH);rw[zC,zk] at this;rcases this with this|this
     .rw[List.contains_iff_mem] at this;obtain⟨t,ht⟩:=xn.1 this;have v7:t<seen.length:=(zh.1 ht).1;have sL:t<dn.length:=by have:=h6.1;omega
      obtain⟨e',k1,k2⟩:=h6.2 t dn[t] (z6 sL);rw[ht] at k2;have:=GF h5.2 he k1 (osj k2);rw[this];exact zr sL
     .omega
    .obtain⟨r,hr⟩:=xn.1 he;have dH:r<es.length:=(zh.1 hr).1;have uM:r∉dn:=λhm=>by
      obtain⟨t,ht⟩:=xn.1 hm;obtain⟨e',k1,k2⟩:=h6.2 t r ht;rw[hr] at k1;obtain rfl:=osj k1;have:seen.contains e.2.2=true:=by rw[List.contains_iff_mem];exact zH k2
      rw[this] at mg;cases mg
     refine hK _ _ _ _ _ _ _ _ (hB r (by omega) uM) (.of hG.bf (Dead.upd _ _ _ (by rw[h3];rfl))) (hG.write o _ (hG.le.upd bh _) aq (λq i' hq hl hi=>Heap.q0b _ _ (a_ q i' hq hl hi)) ⟨j,i,es,clock,wr,seen++[e.2.2],h2,Heap.q0c _ _ (U.lt h3),h4,h5,?_,λt r' ht=>?_⟩) (by simp only[SR,SRs];exact⟨[.bool true,e.1,e.2.1],rfl,_,_,rfl,rfl,_,_,rfl,trivial,_,_,rfl,trivial,rfl⟩)
     .simp[h6.1]
     .rw[List.getElem?_append] at ht;split at ht
      .rename_i ah;obtain⟨e',k1,k2⟩:=h6.2 t r' ht;refine⟨e',k1,?_⟩;rw[xe (by have:=h6.1;omega)];exact k2
      .rename_i bn;have h0:t-dn.length=0:=by
        cases hz:t-dn.length with
        |zero=>rfl
        |succ n=>rw[hz] at ht;simp at ht
       rw[h0] at ht;obtain rfl:r=r':=by simpa using ht
       refine⟨e,hr,?_⟩;rw[xk (by have:=h6.1;omega),show t-seen.length=0 by have:=h6.1;omega];rfl
   .exact h.elim
  .exact h.elim
 .exact h.elim
theorem RR {d:Nat}(iI:B.Le F) {ty:Nat}{k:Kind}{xs:List k.T}{nl:Bool}(hk:k.flat=true) {pl':Nat->Value}{u:Value}{U':Heap}(h1:Gam P B F pl' tb (s.make d (.lst ty k xs nl)) env U') (h2:SR P B pl' tb (.lst d) u) (hd:Dead U U') :
  ∃ B' F',GBase B F U B' F' U'/\Gam P B' F' pl' tb (s.make d .dead) env U'/\SR P B' pl' tb (.val (.list k) xs) u:=by
 have ao:=h1.obj d;have bV:Q8 (s.make d (.lst ty k xs nl)).own d=.lst ty k xs nl:=by simp only[St.make,Qi,zB]
 rw[bV] at ao;simp only[SR] at h2;obtain⟨rfl,_⟩:=h2;rcases ao with⟨_,hx,hp⟩|⟨_,i,cap,c,t,hp,cQ,hg,hlen,dm⟩
 .refine⟨B,F,.of iI hd,(h1.drop d).own rfl (SD s d _) rfl,?_⟩;simp only[SR];exact⟨_,rfl,.inl ⟨hx,hp⟩⟩
 .obtain⟨g1,g2⟩:=h1.freeze (o:=d) (i:=i) (by rw[bV];rfl) (by rw[hp];rfl);refine⟨_,_,(GBase.of iI hd).trans g1,g2.own rfl (SD s d _) rfl,?_⟩;simp only[SR];refine⟨_,rfl,.inr ⟨i,0,cap,c,⟨k.size,ty⟩,true,t,hp,cQ,by rw[Heap.q0n];exact hg,rfl,by have:=zt k.size cQ;omega,?_⟩⟩;rw[x5];exact dm.mono λ_ _ e=>KC.flat hk e
theorem CT {d nt:Nat}(dz:0<nt) (hG:Gam P B F pl tb s env U) {ty:Nat}{k:Kind}{xs:List k.T}{nl:Bool}(hk:k.flat=true) {u:Value}{U':Heap}(h:Ret P U (.lst 0) [.lst ty k xs nl] u U') :
  ∃ B' F' pl',GBase B F U B' F' U'/\Gam P B' F' pl' tb (s.make d .dead) env U'/\SR P B' pl' tb (.val (.list k) xs) u:=by
 obtain⟨pl',h1,h2⟩:=h.gam (d:=d) dz hG (by rfl) (by simp only[zW,List.all_nil,xZ,OB.ret];exact hk);simp only[St.makes,Nat.zero_mul,zL,SV.ren] at h1 h2;obtain⟨B',F',k⟩:=RR hG.bf hk h1 h2 h.1.2;exact⟨B',F',pl',k⟩
theorem Mj {nt:Nat}{r:Option (Prop×SV×List OB)}{c:Prop}{v:SV}(h:Ch nt r=some (c,v)):∃ ty k xs nl,r=some (c,.lst 0,[.lst ty k xs nl])/\v=.val (.list k) xs/\k.flat=true/\0<nt:=by
 unfold Ch at h;split at h
 .split at h
  .rename_i k xs _;cases hc:(k.flat&&Nat.blt 0 nt) with
   |false=>rw[hc] at h;cases h
   |true =>rw[hc] at h;obtain⟨rfl,rfl⟩:=QP h;simp only[z7,zM] at hc;exact⟨_,_,_,_,rfl,rfl,hc.1,hc.2⟩
  .cases h
 .cases h
theorem Cd {C:Cx}(aA:CsOk P C.cs) (hG:Gam P B F pl tb s env U) {gs:List Gd}(hg:Gds tb gs) {o:VOp}{c:Prop}{v:SV}{d:Nat}(h:Ro C o (gev gs s.env) s.own=some (c,v)) (hc:c) {K:Value->Heap->Prop}
  (hK:∀ u U' B' F' pl',GBase B F U B' F' U'->Gam P B' F' pl' tb (s.make d .dead) env U'->SR P B' pl' tb v u->K u U'):vop (Q2 P) o env U K:=by
 cases o<;>first|(cases h;done)|skip
 case callF f args =>
  simp only[Ro] at h;obtain⟨ty,k,xs,nl,heq,rfl,hk,dz⟩:=Mj h;obtain⟨g,a,b,h3,h4,_⟩:=ZL aA (show SR P U Jg Zh (.fn f [] []) (.func (.func f) #[] #[]) by simp only[SR,SRs];exact⟨[],[],rfl,rfl,rfl⟩) (hG.gcall hg args) heq (by rfl) (by simp only[zW,List.all_nil,xZ,OB.ret];exact hk) hc;obtain⟨rfl,rfl,rfl⟩:=(by simpa using h3:f=g/\#[]=a/\#[]=b);have:=h4.mono (R':=K) λu U' hr=>by obtain⟨B',F',pl',k1,k2,k3⟩:=CT (d:=d) dz hG hk hr;exact hK u U' B' F' pl' k1 k2 k3
  show VCalled P f (args.map (Q3 env)) U K;simpa using this
 case callV f args =>
  simp only[Ro] at h;obtain⟨ty,k,xs,nl,heq,rfl,hk,dz⟩:=Mj h;obtain⟨g,a,b,h3,h4,_⟩:=ZL aA (hG.gfun hg f) (hG.gcall hg args) heq (by rfl) (by simp only[zW,List.all_nil,xZ,OB.ret];exact hk) hc;exact NN h3 (h4.mono λu U' hr=>by
   obtain⟨B',F',pl',k1,k2,k3⟩:=CT (d:=d) dz hG hk hr;exact hK u U' B' F' pl' k1 k2 k3)
 case buildSlice e z n ps =>
  simp only[Ro] at h;split at h
  .rename_i k uN;split at h
   .rename_i dE;split at h
    .rename_i xs hx;obtain⟨rfl,rfl⟩:=QP h;have uO:gn C d (.buildSlice e z n ps) (gev gs s.env) s (λv s'=>v=.lst d/\s'=s.make d (.lst e.ty k xs false)):=by
      simp only[gn,uN,hx];rw[z8 ⟨dE.1,dE.2.1⟩];simp
     obtain⟨u,U',pl',v,s',h1,⟨rfl,rfl⟩,⟨h3,_⟩,h4⟩:=M4 (λx=>hG.evs hg x) hG uO;obtain⟨B',F',k1,k2,k3⟩:=RR hG.bf dE.2.2 h3 h4 (Ki h1);show QS (Q6 (.buildSlice e z n ps) (Q3 env) U) _;rw[h1];exact hK u U' B' F' pl' k1 k2 k3
    .cases h
   .cases h
  .cases h
theorem S8 {C:Cx}{o:VOp}{ev:Operand->SV}{own:Own}{c:Prop}{v:SV}(h:Ro C o ev own=some (c,v)):∃ (k:Kind) (xs:List k.T),v=.val (.list k) xs:=by
 cases o<;>first|(cases h;done)|skip
 case callF=>simp only[Ro] at h;obtain⟨ty,k,xs,nl,_,hv,_⟩:=Mj h;exact⟨k,xs,hv⟩
 case callV=>simp only[Ro] at h;obtain⟨ty,k,xs,nl,_,hv,_⟩:=Mj h;exact⟨k,xs,hv⟩
 case buildSlice e z n ps =>
  simp only[Ro] at h;split at h
  .split at h
   .split at h
    .obtain⟨_,rfl⟩:=QP h;exact⟨_,_,rfl⟩
    .cases h
   .cases h
  .cases h
theorem OQ {C:Cx}(aA:COk P C) {B F:Heap}{pl:Nat->Value}{tb:Nat->Option Bool}{s:St}{env:Env}{U:Heap}(hG:Gam P B F pl tb s env U) {d:Nat}{o:VOp}{K:SV->St->Prop}(h:gn C d o (gev [] s.env) s K) {R:Value->Heap->Prop}
  (hK:∀ v s' B' F' pl' tb' u U',K v s'->GBase B F U B' F' U'->Gam P B' F' pl' tb' s' env U'->SR P B' pl' tb' v u->R u U'):vop (Q2 P) o env U R:=by
 have aj:=hG.evs (Gds.nil (tb:=tb));have act:∀ o {T:Nat},NOk P B F tb o (Q3 env) env U K T s pl->(∀ R',QS (Q6 o (Q3 env) U) (λp=>R' p.1 p.2)->vop (Q2 P) o env U R')->vop (Q2 P) o env U R:=λo _ ⟨u,U',pl',v,s',h1,h2,h3,h4⟩ hv=>hv R (by rw[h1];exact hK v s' B F pl' tb u U' h2 (.of hG.bf (Ki h1)) h3.1 h4);have ax:∀ args:List Operand,SRs P B pl tb (args.map (gev [] s.env)) (args.map (Q3 env)):=λargs=>SRs.map λx _=>hG.evs Gds.nil x;cases o
 case alloc t z=>exact act _ (ES aj hG h) λ_ h=>h
 case box t x=>exact act _ (Q6i aj hG h) λ_ h=>h
 case buildSlice e z n ps=>exact act _ (M4 aj hG h) λ_ h=>h
 case makeSlice e b z l c=>exact act _ (Ho aj hG h) λ_ h=>h
 case append e b x y=>exact act _ (Ab aj hG h) λ_ h=>h
 case store size a x=>exact act _ (EK aj hG h) λ_ h=>h
 case callF f args =>
  simp only[gn] at h;obtain⟨g,a,b,h3,h4⟩:=Bi aA hG (show SR P B pl tb (.fn f [] []) (.func (.func f) #[] #[]) by simp only[SR,SRs];exact⟨[],[],rfl,rfl,rfl⟩) (ax args) h (λ_ e=>by cases e) hK;obtain⟨rfl,rfl,rfl⟩:=(by simpa using h3:f=g/\#[]=a/\#[]=b);show VCalled P f (args.map (Q3 env)) U R;simpa using h4
 case callV f args =>
  simp only[gn] at h;by_cases hy:∃ o,gev [] s.env f=.dd o .yv
  .obtain⟨o,hy⟩:=hy;have hf:=hG.evs (Gds.nil (tb:=tb)) f;have h':TE C d (gev [] s.env f) (args.map (gev [] s.env)) s K:=h;rw[hy] at hf h';simp only[SR,DR] at hf;obtain⟨i,hp,hv⟩:=hf;simp only[TE] at h';split at h'
   .rename_i y uP;have:=aA.yl o y uP B F pl tb s env U _ _ K R i hG (ax args) h' hp hK;simp only[vop,hv];exact this
   .exact h'.elim
  obtain⟨g,a,b,h3,h4⟩:=Bi aA hG (hG.evs Gds.nil f) (ax args) h (λo e=>hy ⟨o,e⟩) hK;exact NN h3 h4
 case ext x =>
  cases x
  case mapUpdate mk m k v=>exact act _ (Pg aj hG h) λ_ h=>h
  case delete mk m k=>exact False.elim h
  case mapEntry mk z m k=>exact act _ (TC aj hG h) λ_ h=>h
  case entryStore m s v=>exact act _ (Bt aj hG h) λ_ h=>h
  case copy size a b=>exact act _ (Q1t aj hG h) λ_ h=>h
  case unsafeStr e a n=>exact False.elim h
  case strBytes e a=>exact False.elim h
  case rangeMap a=>exact Af hG h hK
  case nextMap a=>exact I6 hG h hK
  all_goals exact h.elim
 all_goals exact h.elim
theorem Gam.frz (hG:Gam P B F pl tb s env U) (o:Nat):∃ B' F',GBase B F U B' F' U/\Gam P B' F' pl tb (s.frz o) env U:=by
 unfold St.frz;split
 .rename_i ty k xs nl ho;have fin:∀ {B' F':Heap},Gam P B' F' pl tb ⟨s.env,oset s.own o .dead,s.nx⟩ env U->KC B' (.list k) xs [pl o]->Gam P B' F' pl tb ⟨SVs.frz o k xs s.env,Q0c o k xs s.own,s.nx⟩ env U:=λ{B' F'} h hk=>by
   have e1:∀ d,Q8 (Q0c o k xs s.own) d=(Q8 (oset s.own o .dead) d).frz o k xs:=λd=>by
    rw[IM,Qi];by_cases e:d=o
    .rw[z8 e,z8 e];rfl
    .rw[zd e,zd e]
   have lv:∀ d,(Q8 (Q0c o k xs s.own) d).live=(Q8 (oset s.own o .dead) d).live:=λd=>by rw[e1,OB.q2i]
   refine⟨h.bf,h.le,SRs.frz hk _ _ h.env,λd=>?_,λd i h1 h2=>?_,λd d' i aB h1 h2=>?_,h.free⟩
   .simp only[e1];exact(h.obj d).frz hk
   .simp only[lv] at h1;exact h.fresh d i h1 h2
   .simp only[lv] at h1 h2;exact h.sep d d' i aB h1 h2
  have ao:=hG.obj o;rw[ho] at ao;rcases ao with⟨_,hx,hp⟩|⟨_,i,cap,c,t,hp,cQ,hg,hlen,dm⟩
  .exact⟨B,F,.of hG.bf (.refl _),fin (hG.drop o) ⟨_,rfl,.inl ⟨hx,hp⟩⟩⟩
  .obtain⟨g1,g2⟩:=hG.freeze (o:=o) (i:=i) (by rw[ho];rfl) (by rw[hp];rfl);refine⟨_,_,g1,fin g2 ⟨_,rfl,.inr ⟨i,0,cap,c,⟨k.size,ty⟩,true,t,hp,cQ,by rw[Heap.q0n];exact hg,rfl,by have:=zt k.size cQ;omega,?_⟩⟩⟩;rw[x5];exact dm.mono λ_ _ e=>KC.mono g1.b e
 .exact⟨B,F,.of hG.bf (.refl _),hG⟩
theorem GRel.frzs {B0 F0 D0:Heap}:∀ (l:List Nat) {s:St},GRel P B0 F0 D0 s env U->GRel P B0 F0 D0 (s.frzs l) env U
 |[],_,h=>h
 |o::r,s,⟨B,F,pl,tb,hB,hG⟩=>by obtain⟨B',F',g1,g2⟩:=hG.frz o;exact GRel.frzs r ⟨B',F',pl,tb,hB.trans g1,g2⟩
end
theorem L9 {j:Nat}{f:Nat->Prop}:∀ {n i:Nat},Fo (j:Int) f n i->i<=j->j<i+n->f j
 |0,i,_,h1,h2=>by omega
 |n+1,i,h,h1,h2=>by
  rcases zn i j with h3|h3
  .exact L9 h.2 h3 (by omega)
  .have:j=i:=by omega
   subst this;exact h.1 rfl
theorem FL {o:VOp}{len i:Nat}{f:Nat->VOp}(h:Q9u o=some (len,i,f)) {n:Nat}:(∃ size x,f n=.indexAddrArr len size x (.const (.int .i64 (Int.ofNat n))))\/∃ agg size x,f n=.indexArr len agg size x (.const (.int .i64 (Int.ofNat n))):=by
 unfold Q9u at h;split at h
 .cases h;exact .inl ⟨_,_,rfl⟩
 .cases h;exact .inr ⟨_,_,_,rfl⟩
 .cases h
theorem O1 {o:VOp}{len i:Nat}{f:Nat->VOp}(h:Q9u o=some (len,i,f)) {S:VSpecs}{env:Env}{U:Heap}{k:IntKind}{n:Nat}(he:Q3 env (.tmp i)=.int k (n:Int)) {R:Value->Heap->Prop}(hv:vop S (f n) env U R):vop S o env U R:=by
 have hc:Q3 env (.const (.int .i64 (Int.ofNat n)))=.int .i64 (n:Int):=rfl;unfold Q9u at h;split at h
 .rename_i len size x t;cases h;change QS (Q6 _ (Q3 env) U) _ at hv;change QS (Q6 _ (Q3 env) U) _;simp only[Q6,he,hc] at hv |-;generalize Q3 env x=u at hv |-;cases u<;>first|exact hv|skip
  rename_i p;cases p<;>first|exact hv|skip
  rename_i a;obtain⟨b,o,sp⟩:=a;cases sp<;>exact hv
 .rename_i len agg size x t;cases h;change QS (Q6 _ (Q3 env) U) _ at hv;change QS (Q6 _ (Q3 env) U) _;simp only[Q6,he,hc] at hv |-;generalize Q3 env x=u at hv |-;cases u<;>exact hv
 .cases h
theorem Tf {C:Cx}(aA:COk P C) {B0 F0 D0:Heap}{s:St}{env:Env}{U:Heap}(hR:GRel P B0 F0 D0 s env U) {o:VOper}{K:St->Prop}(h:Z0s C o s K) {R:Env->Heap->Prop}(hK:∀ s' af U',K s'->GRel P B0 F0 D0 s' af U'->R af U') :
  QS (J3 env o.guard) λb=>vif b (vop (Q2 P) o.op env U λv U'=>R (X0 env o.dst v) U') (R (X0 env o.dst undef) U):=by
 unfold Z0s at h;split at h
 .rename_i hg;rw[hg];refine⟨λ_=>?_,λe=>by cases e⟩
  replace hR:=hR.frzs (Q57 C (o.dst.getD 0) o.op (gev [] s.env) s.own)
  generalize s.frzs (Q57 C (o.dst.getD 0) o.op (gev [] s.env) s.own)=s at h hR;obtain⟨B,F,pl,tb,hB,hG⟩:=hR;unfold Z48 at h;split at h
  .rename_i len i f sM;split at h
   .rename_i k j hj;obtain⟨h1,h2,h3⟩:=h;obtain⟨n,rfl⟩:=xm h1;have hn:n<len:=by omega
    have h4:=L9 h3 (Nat.zero_le n) (by omega);have he:=Ja hj (hG.evs (Gds.nil (tb:=tb)) (.tmp i));split at h4
    .rename_i cs v dQ;obtain⟨k1,k2⟩:=Zl h4
     replace k1:=Zg k1
     have hv:=Pz (C:=C) aA.cs hG Gds.nil (o:=f n) (raw:=C.raw.contains (o.dst.getD 0)) (cs:=cs) (v:=v) (by
      rw[<-dQ];obtain⟨size,x,hf⟩|⟨agg,size,x,hf⟩:=FL sM<;>rw[hf];rfl;rfl) (k2 λg hg=>by cases hg) λu hu=>hK _ _ _ k1 ⟨B,F,pl,tb,hB,hG.put o.dst hu⟩
     exact O1 sM he hv
    .exact h4.elim
   .exact h.elim
  unfold Z3q at h;split at h
  .rename_i c a b bL;split at h
   .rename_i v hv;obtain⟨u,h1,h2⟩:=U9 hG Gds.nil hv;rw[bL];show QS (Q6 (.pick c a b) (Q3 env) U) _;rw[h1];exact hK _ _ _ (Zg h) ⟨B,F,pl,tb,hB,hG.put o.dst h2⟩
   .exact h.elim
  .rename_i v8;cases hq:EN o.op with
   |true =>
    rw[hq] at h;simp only[zl] at h;split at h
    .rename_i cs v dQ;obtain⟨h1,h2⟩:=Zl h
     replace h1:=Zg h1
     refine Pz (C:=C) aA.cs hG Gds.nil (raw:=C.raw.contains (o.dst.getD 0)) (cs:=cs) (v:=v) ?_ (h2 λg hg=>by cases hg) λu hu=>hK _ _ _ h1 ⟨B,F,pl,tb,hB,hG.put o.dst hu⟩;rw[<-dQ];cases ho:o.op<;>first|rfl|(rw[ho] at hq;cases hq)
    .exact h.elim
   |false =>
    rw[hq] at h;simp only[zS] at h;split at h
    .rename_i bL;split at h
     .rename_i kk vk _;obtain⟨h1,h2⟩:=Fq hG (C.off+o.dst.getD 0) kk vk;rw[bL];change R (X0 env o.dst (.map (some U.n))) (U.push (.obj (.map [] 0) true));exact hK _ _ _ h ⟨B,F,_,tb,MI hB (Dead.push _ _),h1.put o.dst h2⟩
     .exact h.elim
    .rename_i bL;cases lE:L3 C (o.dst.getD 0) o.op (gev [] s.env) with
     |true =>rw[lE] at h;simp only[zl] at h;exact En hG h λv s' B' F' pl' tb' u U' h1 hd h2 h3=>hK _ _ _ h1 ⟨B',F',pl',tb',hB.trans hd,h2.put o.dst h3⟩
     |false =>rw[lE] at h;simp only[zS] at h;exact OQ aA hG h λv s' B' F' pl' tb' u U' h1 hd h2 h3=>hK _ _ _ h1 ⟨B',F',pl',tb',hB.trans hd,h2.put o.dst h3⟩
 .rename_i j want hg;obtain⟨B,F,pl,tb,hB,hG⟩:=hR;rw[hg];split at h
  .exact h.elim
  .rename_i gs s' eu;obtain⟨tb',bq,de,b,hw,bB,cA⟩:=XO hG eu;rw[hw];refine⟨λe=>?_,λe=>?_⟩
   .have hU:Gds tb' gs:=λg hg=>⟨bB e g hg,de g hg⟩;have fin:∀ {v u},SR P B pl tb' v u->SR P B pl tb' (.grd gs (Dp v)) u:=λ{v u} hs=>by
     simp only[SR];obtain⟨h1,h2⟩:=H6 hs;exact⟨⟨de,h2⟩,λ_=>h1,λ⟨g,hg,aB⟩=>absurd (bB e g hg) aB⟩
    split at h
    .rename_i c a b' bL;split at h
     .rename_i v hv;obtain⟨u,h1,h2⟩:=U9 bq hU hv;rw[bL];show QS (Q6 (.pick c a b') (Q3 env) U) _;rw[h1];exact hK _ _ _ (Zg h) ⟨B,F,pl,tb',hB,bq.put o.dst (fin h2)⟩
     .exact h.elim
    .split at h
     .rename_i cs v dQ;obtain⟨h1,h2⟩:=Zl h
      replace h1:=Zg h1
      exact Pz aA.cs bq hU dQ (h2 (bB e)) λu hu=>hK _ _ _ h1 ⟨B,F,pl,tb',hB,bq.put o.dst (fin hu)⟩
     .split at h
      .rename_i c v lF;obtain⟨h1,h2⟩:=Zl h
       replace h1:=Zg h1
       refine Cd aA.cs bq hU (d:=C.off+o.dst.getD 0) lF (h2 (bB e) c (by simp)) λu U' B' F' pl' k1 k2 k3=>hK _ _ _ h1 ⟨B',F',pl',tb',hB.trans k1,k2.put o.dst ?_⟩;simp only[SR];refine⟨⟨de,?_⟩,λ_=>k3,λ⟨g,hg,aB⟩=>absurd (bB e g hg) aB⟩;obtain⟨k,xs,rfl⟩:=S8 lF;trivial
      .exact h.elim
   .have fin:∀ v,SR P B pl tb' (.grd gs (Dp v)) undef:=λv=>by
     simp only[SR];obtain⟨g,hg,aB⟩:=cA e;exact⟨⟨de,H3 v⟩,λae=>absurd (ae g hg) aB,λ_=>trivial⟩
    split at h
    .split at h
     .exact hK _ _ _ (Zg h) ⟨B,F,pl,tb',hB,bq.put o.dst (fin _)⟩
     .exact h.elim
    .split at h
     .exact hK _ _ _ (Zg (Zl h).1) ⟨B,F,pl,tb',hB,bq.put o.dst (fin _)⟩
     .split at h
      .rename_i c v lF;refine hK _ _ _ (Zg (Zl h).1) ⟨B,F,_,tb',hB,(bq.make (C.off+o.dst.getD 0) .dead undef bq.le (λ_ _ _ _ _=>rfl) trivial (λi hl _=>by cases hl)).put o.dst ?_⟩;simp only[SR];obtain⟨g,hg,aB⟩:=cA e;refine⟨⟨de,?_⟩,λae=>absurd (ae g hg) aB,λ_=>trivial⟩;obtain⟨k,xs,rfl⟩:=S8 lF;trivial
      .exact h.elim
theorem IT {C:Cx}(aA:COk P C) {B0 F0 D0:Heap}{s:St}{env:Env}{U:Heap}(hR:GRel P B0 F0 D0 s env U) {o:VOper}{K:St->Prop}(h:gop C o s K) {R:Env->Heap->Prop}(hK:∀ s' af U',K s'->GRel P B0 F0 D0 s' af U'->R af U') :
  QS (J3 env o.guard) λb=>vif b (vop (Q2 P) o.op env U λv U'=>R (X0 env o.dst v) U') (R (X0 env o.dst undef) U):=by
 unfold gop at h;split at h
 .rename_i t ht;have oK:=hR;obtain⟨B,F,pl,tb,hB,hG⟩:=hR;rw[KG hG ht];cases t with
  |true =>simp only[zl] at h;exact Tf aA oK (o:=⟨o.dst,o.op,none⟩) h hK
  |false =>simp only[zS] at h;exact⟨(λe=>by cases e),λ_=>hK _ _ _ h ⟨B,F,pl,tb,hB,hG.put o.dst (by simp[SR])⟩⟩
 .exact Tf aA hR h hK
theorem LI {B0 F0 D0:Heap}{s s':St}{env:Env}{U:Heap}(hR:GRel P B0 F0 D0 s env U) {d:Nat}(h:Q4r d s=some s'):GRel P B0 F0 D0 s' env U:=by
 unfold Q4r at h;split at h
 .rename_i o off hd;cases hz:Nat.beq off 0 with
  |false=>rw[hz] at h;cases h
  |true =>
   rw[hz] at h;simp only[zl] at h;have hz:off=0:=zN hz;subst hz;split at h
   .rename_i l _ ho;simp only[x6] at h;subst h;obtain⟨B,F,pl,tb,hB,hG⟩:=hR;have ao:=hG.obj o;rw[ho] at ao;obtain⟨i,c,e,t,e1,e2,e3,_⟩:=ao;obtain⟨k1,k2⟩:=hG.freeze (o:=o) (i:=i) (by rw[ho];rfl) (by rw[e1];rfl);have h1:=hG.env.getD d undef;rw[hd] at h1;have sr:SR P (B.ins U i hG.leB.1) pl tb (.cp l 0) (env.getD d undef):=by
     simp only[SR] at h1 |-;obtain⟨b,q1,q2⟩:=h1;rw[e1] at q1;obtain rfl:i=b:=by simpa using q1
     refine⟨i,c,e,true,t,?_,q2,SRs.mono k1.b (λ_ _ h=>h) _ _ e3⟩;rw[Heap.q0n];exact e2
    have:=k2.put (some d) sr;refine⟨_,_,pl,tb,hB.trans k1,?_⟩;have e2:X0 env (some d) (env.getD d undef)=env:=by
     show env.set d _=env;rcases zn d env.length with h|h
     .rw[ze,z6 h];simp
     .rw[List.set_eq_of_length_le h]
    rw[e2] at this;exact this
   .cases h
 .cases h
theorem Eb {C:Cx}{B0 F0 D0:Heap}{s:St}{env:Env}{U:Heap}(hR:GRel P B0 F0 D0 s env U) {d:Option Nat}{K:St->Prop}(h:Z08 C d K s):∃ s2,K s2/\GRel P B0 F0 D0 s2 env U:=by
 unfold Z08 at h;split at h
 .exact⟨s,h,hR⟩
 .rename_i d;cases hb:C.spl.contains d with
  |false=>rw[hb] at h;exact⟨s,h,hR⟩
  |true =>
   rw[hb] at h;simp only[zl] at h;split at h
   .rename_i t ht;obtain⟨B,F,pl,tb,hB,hG⟩:=hR;have he:=Xz ht (hG.env.getD d undef);have bm:∀ v,SR P B pl tb v (env.getD d undef)->GRel P B0 F0 D0 (s.put (some d) v) env U:=λv hv=>by
     have:=hG.put (some d) hv;refine⟨B,F,pl,tb,hB,?_⟩;have e2:X0 env (some d) (env.getD d undef)=env:=by
      show env.set d _=env;rcases zn d env.length with h|h
      .rw[ze,z6 h];simp
      .rw[List.set_eq_of_length_le h]
     rw[e2] at this;exact this
    have sr:SR P B pl tb (.grd [] (.val .bo t)) (env.getD d undef):=by simp only[SR];exact⟨⟨(λg hg=>by cases hg),trivial⟩,(λ_=>by rw[he];simp[KC]),λ⟨g,hg,_⟩=>by cases hg⟩
    cases hc:C.raw.contains (3000000+d) with
    |true =>
     rw[hc] at h;cases t with
     |true=>exact⟨_,h,bm _ sr⟩
     |false=>exact⟨_,h,bm _ sr⟩
    |false =>
     rw[hc] at h;cases t with
     |true=>exact⟨_,h.1 rfl,bm _ sr⟩
     |false=>exact⟨_,h.2 rfl,bm _ sr⟩
   .split at h
    .rename_i s' hf;exact⟨s',h,LI hR hf⟩
    .exact h.elim
theorem Mn {C:Cx}(aA:COk P C) {B0 F0 D0:Heap}:∀ (ops:List VOper) {s:St}{env:Env}{U:Heap},GRel P B0 F0 D0 s env U->∀ {K:St->Prop},Z02 C ops s K->∀ {R:Env->Heap->Prop},(∀ s' af U',K s'->GRel P B0 F0 D0 s' af U'->R af U')->DT (Q2 P) ops env U R
 |[],s,env,U,hR,_K,h,_R,hK=>hK s env U h hR
 |_o::r,_s,_env,_σ,hR,_K,h,_R,hK=>IT (R:=λenv U=>DT (Q2 P) r env U _R) aA hR h λ_ _ _ h1 h2=>by obtain⟨s2,k1,k2⟩:=Eb h2 h1;exact Mn aA r k2 k1 hK
theorem Fg {S:VSpecs}{l:List DOper}{rest:List DSeg}{env:Env}{U:Heap}{K:Env->Heap->Prop}(h:l.all (λo=>!(o.kind==2)&&!(o.op.kind==2))=true) (hv:DT S (l.map dv) env U λenv U=>Mt S rest env U K):Mt S (.alts [l]::rest) env U K:=by
 intro ops ho;obtain rfl:=zp.1 ho;have key:∀ (l:List DOper) (env:Env) (pend:List (Nat×(Heap->Prop))) (K':Env->Heap->Prop),l.all (λo=>!(o.kind==2)&&!(o.op.kind==2))=true->DT S (l.map dv) env U K'->Zp S l env [U] U pend K':=by
  intro l;induction l with
  |nil=>intro env pend K' _ h;exact h
  |cons o rest ih =>
   intro env pend K' hk h;simp only[zW,z7,Bool.not_eq_true',xH] at hk;obtain⟨⟨bw,av⟩,hr⟩:=hk;have hr:rest.all (λo=>!(o.kind==2)&&!(o.op.kind==2))=true:=by simpa using hr
   simp only[zE,DT,dv] at h;simp only[Zp];cases hw:J3 env o.guard with
   |none=>rw[hw] at h;exact h.elim
   |some b =>
    rw[hw] at h;obtain⟨ht,hf⟩:=h;refine⟨λe=>?_,λe=>?_⟩
    .have ht:=ht e;obtain⟨p,hp,jX⟩:∃ p,Q6 o.op (Q3 env) U=some p/\DT S (rest.map dv) (X0 env o.dst p.1) p.2 K':=by
      have:=ht;unfold vop at this;split at this
      .rename_i f bT heq;rw[heq] at av;exact absurd rfl av
      .rename_i f bT heq;rw[heq] at av;exact absurd rfl av
      .rename_i x heq;rw[heq] at av;exact absurd rfl av
      .cases d_:Q6 o.op (Q3 env) U with
       |none=>rw[d_] at this;exact this.elim
       |some p=>rw[d_] at this;exact⟨p,rfl,this⟩
     have hq:p.2=U:=Db av (v:=p.1) (U':=p.2) hp;rw[hq] at jX;rw[zd bw];split
     .rw[hp];refine⟨λZ hτ=>?_,ih _ _ _ hr jX⟩;have:Z=U:=by
       have:=List.mem_of_mem_drop hτ;simpa using this
      subst this;show QS (Q6 o.op (Q3 env) Z) _;rw[hp];rfl
     .rw[hp];exact ih _ _ _ hr jX
    .rw[zd bw];exact ih _ _ _ hr (hf e)
 have:=key ops env [] _ h hv;have mono:∀ (l:List DOper) (env:Env) (hs:List Heap) (Z:Heap) (pend:List (Nat×(Heap->Prop))) (A B:Env->Heap->Prop),l.all (λo=>!(o.kind==2)&&!(o.op.kind==2))=true->(∀ e s,A e s->B e s)->Zp S l env hs Z pend A->Zp S l env hs Z pend B:=by
  intro l;induction l with
  |nil=>intro env hs Z pend A B _ l7 h;exact l7 _ _ h
  |cons o rest ih =>
   intro env hs Z pend A B hk l7 h;simp only[zW,z7,Bool.not_eq_true',xH] at hk;obtain⟨⟨bw,av⟩,hr⟩:=hk;have hr:rest.all (λo=>!(o.kind==2)&&!(o.op.kind==2))=true:=by simpa using hr
   simp only[Zp] at h |-;cases hw:J3 env o.guard with
   |none=>rw[hw] at h;exact h.elim
   |some b =>
    rw[hw] at h;obtain⟨ht,hf⟩:=h;refine⟨λe=>?_,λe=>?_⟩
    .have ht:=ht e;rw[zd bw] at ht |-;by_cases nY:o.kind=1
     .rw[z8 nY] at ht |-;cases d_:Q6 o.op (Q3 env) Z with
      |none=>rw[d_] at ht;exact ht.elim
      |some p=>rw[d_] at ht;exact⟨ht.1,ih _ _ _ _ _ _ hr l7 ht.2⟩
     .rw[zd nY] at ht |-;cases d_:Q6 o.op (Q3 env) Z with
      |none=>rw[d_] at ht;exact ht.elim
      |some p=>rw[d_] at ht;exact ih _ _ _ _ _ _ hr l7 ht
    .have hf:=hf e;rw[zd bw] at hf |-;exact ih _ _ _ _ _ _ hr l7 hf
 exact mono ops env _ _ _ _ _ h (λe s hs=>⟨e,s,.refl _ _ _,hs⟩) this
theorem ZM {op:VOp}{ev:Operand->Value}{u:Value}{Z Z':Heap}(h:Q6 op ev Z=some (u,Z')):JV op ev u Z:=by unfold JV;rw[h];rfl
theorem Z8 (s:St) (d:Option Nat) (v:SV):(s.put d v).own=s.own:=by cases d<;>rfl
theorem Y_ {s s':St}{j:Nat}{want:Bool}{gs:List Gd}(h:BG s j want=some (gs,s')):s'.own=s.own:=by unfold BG at h;split at h<;>first|(cases h;done)|(obtain⟨_,rfl⟩:=QP h;rfl)
theorem VT {C:Cx}{B F:Heap}{pl:Nat->Value}{tb:Nat->Option Bool}{s:St}{env:Env}{U:Heap}(hG:Gam P B F pl tb s env U) {o:DOper}{K:St->Prop}(h:gd1 C o s K) :
  ∃ b,J3 env o.guard=some b/\(b=true->∃ u s' tb',Q6 o.op (Q3 env) U=some (u,U)/\K s'/\s'.own=s.own/\Gam P B F pl tb' s' (X0 env o.dst u) U)/\(b=false->∃ s' tb',K s'/\s'.own=s.own/\Gam P B F pl tb' s' (X0 env o.dst undef) U):=by
 unfold gd1 at h;split at h
 .rename_i hg;rw[hg];refine⟨true,rfl,λ_=>?_,λe=>by cases e⟩;split at h
  .rename_i c a b bL;split at h
   .rename_i v hv;obtain⟨u,h1,h2⟩:=U9 hG Gds.nil hv;exact⟨u,_,tb,by rw[bL];exact h1,Zg h,Z8 _ _ _,hG.put o.dst h2⟩
   .exact h.elim
  .split at h
   .rename_i cs v dQ;obtain⟨h1,h2⟩:=Zl h;obtain⟨u,h3,h4⟩:=Rv (hG.evs (Gds.nil (tb:=tb))) (λ_=>rfl) hG.leB hG.obj dQ (h2 λg hg=>by cases hg);exact⟨u,_,tb,h3,Zg h1,Z8 _ _ _,hG.put o.dst h4⟩
   .exact h.elim
 .rename_i j want hg;rw[hg];split at h
  .exact h.elim
  .rename_i gs s' eu;obtain⟨tb',bq,de,b,hw,bB,cA⟩:=XO hG eu;refine⟨b,hw,λe=>?_,λe=>?_⟩
   .have hU:Gds tb' gs:=λg hg=>⟨bB e g hg,de g hg⟩;have fin:∀ {v u},SR P B pl tb' v u->SR P B pl tb' (.grd gs (Dp v)) u:=λ{v u} hs=>by
     simp only[SR];obtain⟨h1,h2⟩:=H6 hs;exact⟨⟨de,h2⟩,λ_=>h1,λ⟨g,hg,aB⟩=>absurd (bB e g hg) aB⟩
    split at h
    .rename_i c a b' bL;split at h
     .rename_i v hv;obtain⟨u,h1,h2⟩:=U9 bq hU hv;exact⟨u,_,tb',by rw[bL];exact h1,Zg h,(Z8 _ _ _).trans (Y_ eu),bq.put o.dst (fin h2)⟩
     .exact h.elim
    .split at h
     .rename_i cs v dQ;obtain⟨h1,h2⟩:=Zl h;obtain⟨u,h3,h4⟩:=Rv (bq.evs hU) (λ_=>rfl) bq.leB bq.obj dQ (h2 (bB e));exact⟨u,_,tb',h3,Zg h1,(Z8 _ _ _).trans (Y_ eu),bq.put o.dst (fin h4)⟩
     .exact h.elim
   .have fin:∀ v,SR P B pl tb' (.grd gs (Dp v)) undef:=λv=>by
     simp only[SR];obtain⟨g,hg,aB⟩:=cA e;exact⟨⟨de,H3 v⟩,λae=>absurd (ae g hg) aB,λ_=>trivial⟩
    split at h
    .split at h
     .exact⟨_,tb',Zg h,(Z8 _ _ _).trans (Y_ eu),bq.put o.dst (fin _)⟩
     .exact h.elim
    .split at h
     .exact⟨_,tb',Zg (Zl h).1,(Z8 _ _ _).trans (Y_ eu),bq.put o.dst (fin _)⟩
     .exact h.elim
theorem LR {bs:List OB}{q:Prop}(h:FB bs q):(∀ b∈bs,b.wf)/\q:=by
 induction bs with
 |nil=>exact⟨(λb hb=>by cases hb),h⟩
 |cons b r ih =>
  obtain⟨h1,h2⟩:=h;obtain⟨h3,h4⟩:=ih h2;exact⟨λb' bP=>by
   rcases zo.1 bP with rfl|bP
   .exact h1
   .exact h3 b' bP,h4⟩
mutual
theorem A8 {d nt:Nat}:∀ (v:SV),v.ret 0=true->(v.ren d nt).ret 0=true
 |.val k x,h=>h
 |.nilS,_|.nilP,_|.nilM,_|.nilF,_=>rfl
 |.lst j,h|.box j _,h|.map j,h=>by simp[SV.ret,Nat.blt] at h
 |.agg l,h=>by simp only[SV.ren,SV.ret] at h |-;exact Hm l h
 |.tup l,h=>by simp only[SV.ren,SV.ret] at h |-;exact Hm l h
 |.any,h|.bid _ _,h|.grd _ _,h|.sub _ _ _ _,h|.elp _ _ _ _,h|.rop _ _ _ _,h|.cp _ _,h|.fn _ _ _,h|.pf _ _ _ _,h=>by cases h
theorem Hm {d nt:Nat}:∀ (v:List SV),SVs.ret 0 v=true->SVs.ret 0 (SVs.ren d nt v)=true
 |[],_=>rfl
 |s::ss,h=>by simp only[SVs.ret,SVs.ren,z7] at h |-;exact⟨A8 s h.1,Hm ss h.2⟩
end
theorem XW {C:Cx}(aA:COk P C) {B F:Heap}{pl:Nat->Value}{tb:Nat->Option Bool}{s:St}{env:Env}{U:Heap}(hG:Gam P B F pl tb s env U) {d:Nat}{f:SV}{args:List SV}{K:List Nat->SV->St->Prop}(h:MF C d f args s K) {fV:Value}{vs:List Value}
  (hf:SR P U Jg Zh f fV) (ha:SRs P U Jg Zh args vs):∃ g a b u U' ts v s' pl',fV=.func (.func g) a b/\(VCalled P g (a.toList++vs++b.toList) U λu' aE=>u'=u/\aE=U')/\K ts v s'/\Gam P B F pl' tb s' env U'/\SR P B pl' tb v u/\(ts=[]->U'=U/\pl'=pl/\s'=s)/\U.Le U'/\Dead U U'/\FrL ts s s' pl pl' U U':=by
 unfold MF at h;split at h
 .rename_i c v bs heq;cases hb:(v.ret bs.length&&(bs.all OB.ret&&(Nat.blt 0 C.nt&&(bs.all OB.isL&&Vk v)))) with
  |false=>rw[hb] at h;exact h.elim
  |true =>
   rw[hb] at h;obtain⟨h1,h2⟩:=h;obtain⟨h3,h4⟩:=LR h2;simp only[z7] at hb;obtain⟨hv,oL,dz,hl,cR⟩:=hb;obtain⟨g,a,b,e,_,hx⟩:=ZL aA.cs hf ha heq hv oL h1;have dP:=Li (P:=P) U hv cR oL hl (λb hb=>by have:=h3 b hb;cases b<;>exact this);by_cases cj:bs=[]
   .subst cj;obtain⟨k1,k2⟩:=dP.flat hv;refine⟨g,a,b,_,_,_,_,_,pl,e,hx hl cR,h4,?_,?_,λ_=>⟨k1,rfl,rfl⟩,dP.1.1,dP.1.2,λq _=>⟨rfl,rfl,λ_ _ _=>by rw[k1]⟩⟩
    .rw[k1];exact hG
    .exact SR.retd (B:=hNil) (pl:=pl) (tb:=Zh) (n:=0) (λj hj=>by omega) _ _ (A8 v hv) (SR.ren (pl:=Jg) (tb:=Zh) (n:=0) (λj hj=>by omega) v _ hv k2)
   .obtain⟨pl',h5,h6,h7⟩:=dP.gamF (nt:=C.nt) (d:=d) (by simpa [zM] using dz) hG hv oL;refine⟨g,a,b,_,_,_,_,_,pl',e,hx hl cR,h4,h5,h6,λhe=>absurd (by simpa using he) cj,dP.1.1,dP.1.2,λq hq=>h7 q λj hj e=>hq ?_⟩;exact zI.2 ⟨j,zF.2 hj,e.symm⟩
 .exact h.elim
def A9:VOp->Bool
 |.callF ..|.callV ..=>true
 |.ext (.rangeMap _)|.ext (.nextMap _)=>true
 |_=>false
theorem Q92 {C:Cx}{B F:Heap}{pl:Nat->Value}{tb:Nat->Option Bool}{s:St}{env:Env}{U:Heap}(hG:Gam P B F pl tb s env U) {d:Nat}{o:VOp}{K:SV->St->Prop}(h:gn C d o (gev [] s.env) s K) (hc:A9 o=false) :
  NOk P B F tb o (Q3 env) env U K (QE d o (gev [] s.env)) s pl:=by
 have aj:=hG.evs (Gds.nil (tb:=tb));cases o
 case alloc t z=>exact ES aj hG h
 case box t x=>exact Q6i aj hG h
 case buildSlice e z n ps=>exact M4 aj hG h
 case makeSlice e b z l c=>exact Ho aj hG h
 case append e b x y=>exact Ab aj hG h
 case store size a x=>exact EK aj hG h
 case callF=>cases hc
 case callV=>cases hc
 case ext x =>
  cases x
  case mapUpdate mk m k v=>exact Pg aj hG h
  case delete mk m k=>exact False.elim h
  case mapEntry mk z m k=>exact TC aj hG h
  case entryStore m s v=>exact Bt aj hG h
  case copy size a b=>exact Q1t aj hG h
  case unsafeStr e a n=>exact False.elim h
  case strBytes e a=>exact False.elim h
  case rangeMap=>cases hc
  case nextMap=>cases hc
  all_goals exact h.elim
 all_goals exact h.elim
theorem Rk {o:VOp}{ev:Operand->Value}{U U':Heap}{u:Value}(hm:P0 o=true) (h:Q6 o ev U=some (u,U')):U.Le U':=by
 have push:∀ b:Blk,U.Le (U.push b):=λb=>(Heap.Le.refl U).push b;cases o<;>first|(cases hm;done)|skip
 case alloc t z=>obtain⟨rfl,rfl⟩:=QP h;exact push _
 case box t x =>
  simp only[Q6] at h;split at h
  .obtain⟨rfl,rfl⟩:=QP h;exact push _
  .cases h
 case buildSlice e z n ps =>
  simp only[Q6] at h;split at h
  .obtain⟨rfl,rfl⟩:=QP h;exact push _
  .cases h
 case makeSlice e b z l c =>
  simp only[Q6] at h;split at h
  .split at h
   .obtain⟨rfl,rfl⟩:=QP h;exact push _
   .cases h
  .cases h
def stM:MK:=.agg [.int .i64,.int .i64]
def Q5v:Option Jx->Value
 |some e=>e.2.1
 |none=>.int .i64 0
def LkE (es b7:List Jx):Prop:=(es.all (λe=>Zm stM e.1)=true->b7.all (λe=>Zm stM e.1)=true)/\(es.all (λe=>Zm stM e.1)=true->∀ k,Zm stM k=true->Q5v (Qg k b7)=Q5v (Qg k es))
theorem LkE.trans {a b c:List Jx}(h:LkE a b) (h':LkE b c):LkE a c:=⟨λk=>h'.1 (h.1 k),λk x hx=>(h'.2 (h.1 k) x hx).trans (h.2 k x hx)⟩
theorem LY {v:Value}(h:Zm stM v=true):∃ a b,v=.agg #[.int .i64 a,.int .i64 b]:=by
 cases v with
 |agg l =>
  simp only[Zm,stM] at h;obtain⟨l⟩:=l
  match l,h with
  |[],h=>simp[fits] at h
  |[x],h=>cases x<;>simp[fits,Eo] at h
  |[x,y],h =>simp only[fits,z7] at h;obtain⟨hx,hy,_⟩:=h;cases x<;>simp[Eo] at hx;cases y<;>simp[Eo] at hy;subst hx;subst hy;exact⟨_,_,rfl⟩
  |x::y::z::r,h=>simp[fits] at h
 |_=>simp[Zm,stM] at h
theorem Q20 {a b c e:Int}:Xw (.agg #[.int .i64 a,.int .i64 b]) (.agg #[.int .i64 c,.int .i64 e])=(a==c&&b==e):=by simp[Xw,Ql,Kd]
theorem Iw {k0:Value}{clock:Nat}(jA:Zm stM k0=true):∀ {es:List Jx},LkE es (Qs k0 (Q5v (Qg k0 es)) clock es).1
 |[]=>by refine⟨λ_=>by simp[Qs,jA],λ_ k hk=>?_⟩;simp only[Qs,Qg];cases Xw k k0<;>rfl
 |e::es=>by
  have ih:=Iw (clock:=clock) jA (es:=es);simp only[Qs,Qg];cases he:Xw k0 e.1 with
  |true =>
   simp only[zB];refine⟨λh=>?_,λh k hk=>?_⟩
   .simp only[zW,z7] at h |-;exact⟨jA,h.2⟩
   .simp only[zW,z7] at h;obtain⟨a,b,rfl⟩:=LY jA;obtain⟨a1,b1,h1⟩:=LY h.1;obtain⟨a2,b2,rfl⟩:=LY hk;have heq:(a==a1&&b==b1)=true:=by rw[<-Q20,<-h1];exact he
    simp only[z7,zT] at heq;obtain⟨rfl,rfl⟩:=heq;simp only[Qg,h1,Q20];cases (a2==a&&b2==b)<;>rfl
  |false =>
   simp only[zD,if_false];refine⟨λh=>?_,λh k hk=>?_⟩
   .simp only[zW,z7] at h |-;exact⟨h.1,ih.1 h.2⟩
   .simp only[zW,z7] at h;simp only[Qg];cases Xw k e.1 with
    |true=>rfl
    |false=>exact ih.2 h.2 k hk
theorem I8 {mk:MK}{z:Value}(h:stP mk z=true):mk=stM/\z=.int .i64 0:=by
 unfold stP at h;split at h
 .exact⟨rfl,by rw[eq_of_beq h]⟩
 .cases h
def AJ (U:Heap) (own:Own) (pl:Nat->Value) (Q:Heap->Prop):Option Nat->Prop
 |none=>∀ Z,U.Le Z->Q Z
 |some q=>(Q8 own (q / 2)).live=true/\∃ i b,Oid (pl (q / 2)) i/\U.get i=some b/\(∀ Z,Z.get i=some b->Q Z)/\(q % 2=1->∃ es c wr,b=.obj (.map es c) wr/\∀ Z b7 c',LkE es b7->Z.get i=some (.obj (.map b7 c') wr)->Q Z)
structure DSt (hs:List Heap) (U:Heap) (pend:List (Nat×(Heap->Prop))) (hl chg:Nat) (A R:List (Nat×Option Nat)) (own:Own) (pl:Nat->Value):Prop where
 len:hs.length=hl
 same:∀ j Z,chg<=j->hs[j]?=some Z->Z=U
 pend:∀ c∈pend,c.1<hl\/∃ r∈R,c.1<=r.1/\AJ U own pl c.2 r.2
 fr:∀ j Z q i,hs[j]?=some Z->Z9 A j q=true->(Q8 own q).live=true->Oid (pl q) i->Z.get i=U.get i
theorem YP {r:Nat}{U:Heap}:∀ {l:List (Nat×(Heap->Prop))},(∀ c∈l,r<=c.1->c.2 U)->JP r U l
 |[],_=>trivial
 |c::l,h=>⟨h c (by simp),YP λc' cL=>h c' (by simp[cL])⟩
theorem Jr {hs:List Heap}{U' Z:Heap}{j:Nat}(h:(hs++[U'])[j]?=some Z):(j<hs.length/\hs[j]?=some Z)\/(j=hs.length/\Z=U'):=by
 rw[List.getElem?_append] at h;split at h
 .rename_i ah;exact .inl ⟨ah,h⟩
 .have:j-hs.length=0:=by
   cases hz:j-hs.length with
   |zero=>rfl
   |succ n=>rw[hz] at h;simp at h
  rw[this] at h;exact .inr ⟨by omega,by simpa using h.symm⟩
theorem T0 {a:Nat×Option Nat}{A:List (Nat×Option Nat)}{j q:Nat}(h:Z9 (a::A) j q=true) (hj:j<=a.1):(∃ t,a.2=some t/\t≠q)/\Z9 A j q=true:=by
 simp only[Z9,zW,z7,zC,zM] at h;refine⟨?_,h.2⟩;rcases h.1 with h|h
 .omega
 .split at h
  .rename_i t ht;exact⟨t,ht,λe=>by subst e;simp at h⟩
  .cases h
theorem DSt.stay {hs:List Heap}{U:Heap}{pend:List (Nat×(Heap->Prop))}{hl chg:Nat}{A R:List (Nat×Option Nat)}{own:Own}{pl:Nat->Value}(h:DSt hs U pend hl chg A R own pl) :
  JP hs.length U pend/\DSt (hs++[U]) U pend (hl+1) chg A R own pl:=by
 have hr:∀ c∈pend,∀ r∈R,AJ U own pl c.2 r.2->c.2 U:=λc _ r _ ai=>by
  unfold AJ at ai;split at ai
  .exact ai U (.refl _)
  .obtain⟨_,i,b,_,h2,h3,_⟩:=ai;exact h3 U h2
 refine⟨YP λc hc hle=>?_,⟨by simp[h.len],λj Z hj ht=>?_,λc hc=>?_,λj Z q i ht hu hl hi=>?_⟩⟩
 .rcases h.pend c hc with h1|⟨r,h1,_,h2⟩
  .rw[h.len] at hle;omega
  .exact hr c hc r h1 h2
 .rcases Jr ht with⟨_,h1⟩|⟨_,h1⟩
  .exact h.same j Z hj h1
  .exact h1
 .rcases h.pend c hc with h1|h1
  .exact .inl (by omega)
  .exact .inr h1
 .rcases Jr ht with⟨_,h1⟩|⟨_,rfl⟩
  .exact h.fr j Z q i h1 hu hl hi
  .rfl
theorem DSt.write {hs:List Heap}{U U':Heap}{pend:List (Nat×(Heap->Prop))}{hl chg:Nat}{A R:List (Nat×Option Nat)}{s s':St}{pl pl':Nat->Value}(h:DSt hs U pend hl chg A R s.own pl) {T:Nat}(hf:Fr T s s' pl pl' U U') {mk ext:Bool}(hm:mk=true->U.Le U')
  (hE:ext=true->(Q8 s'.own T).live=true/\pl' T=pl T/\∃ i es c b7 c',pl T=.map (some i)/\U.get i=some (.obj (.map es c) true)/\U'.get i=some (.obj (.map b7 c') true)/\LkE es b7)
  (hc:((mk&&Lm R hl T)||Tk R hl T||(ext&&Q61 R hl T))=true) (aR:0<hl):JP hs.length U' pend/\DSt (hs++[U']) U' pend (hl+1) hl ((hl-1,some T)::A) R s'.own pl':=by
 have hr:∀ Q:Heap->Prop,∀ r∈R,hl<=r.1->AJ U s.own pl Q r.2->AJ U' s'.own pl' Q r.2:=λQ r mr bn ai=>by
  have hq:∀ q,r.2=some q->q / 2=T->q % 2=1/\ext=true:=λq hq e=>by
   subst e;simp only[zC,z7,Lm,Tk,Q61] at hc;rcases hc with (⟨_,hc⟩|hc)|⟨he,hc⟩
   .have:=zg.1 hc r mr;rw[hq] at this;simp only[zC,zM,Nat.beq_refl,wu,zD,or_false] at this;omega
   .have:=zg.1 hc r mr;rw[hq] at this;simp only[zC,zM,Nat.beq_refl,wu,zD,or_false] at this;omega
   .have:=zg.1 hc r mr;rw[hq] at this;simp only[zC,zM,Nat.beq_refl,wu,zD,false_or] at this;rcases this with h|h
    .omega
    .exact⟨zN h,he⟩
  cases e:r.2 with
  |none =>
   rw[e] at ai;have cF:mk=true:=by
    simp only[zC,z7,Tk,Q61] at hc;rcases hc with (⟨hc,_⟩|hc)|⟨_,hc⟩
    .exact hc
    .have:=zg.1 hc r mr;rw[e] at this;simp only[zC,zM,zD,or_false] at this;omega
    .have:=zg.1 hc r mr;rw[e] at this;simp only[zC,zM,zD,or_false] at this;omega
   exactλZ ht=>ai Z ((hm cF).trans ht)
  |some q =>
   rw[e] at ai;obtain⟨k1,i,b,k2,k3,k4⟩:=ai;by_cases oM:q / 2=T
   .obtain⟨ho,he⟩:=hq q e oM;obtain⟨g1,g2,i',es,c,b7,c',g3,g4,g5,g6⟩:=hE he;obtain⟨k5,k6⟩:=k4;obtain⟨v_,c0,wr,rfl,k7⟩:=k6 ho;rw[oM] at k1 k2;have hi:i=i':=Fi (by rw[g3];rfl) k2;subst hi;rw[g4] at k3;cases k3;refine⟨by rw[oM];exact g1,i,_,by rw[oM,g2];exact k2,g5,λZ hτ=>k7 Z _ _ g6 hτ,λ_=>⟨_,_,_,rfl,λZ uQ wa hl hτ=>k7 Z _ _ (g6.trans hl) hτ⟩⟩
   .obtain⟨f1,f2,f3⟩:=hf (q / 2) oM;exact⟨by rw[f1];exact k1,i,b,by rw[f2];exact k2,by rw[f3 k1 i k2];exact k3,k4⟩
 have now:∀ Q:Heap->Prop,∀ r,AJ U' s'.own pl' Q r->Q U':=λQ r ai=>by
  unfold AJ at ai;split at ai
  .exact ai U' (.refl _)
  .obtain⟨_,i,b,_,h2,h3,_⟩:=ai;exact h3 U' h2
 refine⟨YP λc hc hle=>?_,⟨by simp[h.len],λj Z hj ht=>?_,λc hc=>?_,λj Z q i ht hu cw hi=>?_⟩⟩
 .rw[h.len] at hle;rcases h.pend c hc with h1|⟨r,h1,h2,h3⟩
  .omega
  .exact now _ _ (hr _ r h1 (by omega) h3)
 .rcases Jr ht with⟨h1,_⟩|⟨_,h1⟩
  .rw[h.len] at h1;omega
  .exact h1
 .rcases h.pend c hc with h1|⟨r,h1,h2,h3⟩
  .exact .inl (by omega)
  .by_cases bn:hl<=r.1
   .exact .inr ⟨r,h1,h2,hr _ r h1 bn h3⟩
   .exact .inl (by omega)
 .rcases Jr ht with⟨h1,h2⟩|⟨_,rfl⟩
  .rw[h.len] at h1;obtain⟨⟨t,ht,uR⟩,cB⟩:=T0 hu (by simp only;omega);obtain rfl:=osj ht;obtain⟨f1,f2,f3⟩:=hf q (Ne.symm uR);rw[f1] at cw;rw[f2] at hi;rw[f3 cw i hi];exact h.fr j Z q i h2 cB cw hi
  .rfl
theorem D9 {ts:List Nat}{hl j q:Nat}{A:List (Nat×Option Nat)}(h:Z9 (ts.map (λt=>(hl,some t))++A) j q=true) (hj:j<=hl):q∉ts/\Z9 A j q=true:=by simp only[Z9,List.all_append,z7] at h |-;refine⟨λhm=>?_,h.2⟩;have:=zg.1 h.1 (hl,some q) (zI.2 ⟨q,hm,rfl⟩);simp only[zC,zM,Nat.beq_refl,wu,zD,or_false] at this;omega
theorem DSt.call {hs:List Heap}{U U':Heap}{pend:List (Nat×(Heap->Prop))}{hl chg:Nat}{A R:List (Nat×Option Nat)}{s s':St}{pl pl':Nat->Value}(h:DSt hs U pend hl chg A R s.own pl) (hle:U.Le U') {Ts:List Nat}(hf:FrL Ts s s' pl pl' U U') (aR:0<hl) :
  JP hs.length U' pend/\DSt (hs++[U']) U' pend (hl+1) hl (Ts.map (λt=>(hl-1,some t))++A) (R.map λr=>(r.1,none)) s'.own pl':=by
 have hr:∀ Q r,AJ U s.own pl Q r->∀ Z,U'.Le Z->Q Z:=λQ r ai Z ht=>by
  unfold AJ at ai;split at ai
  .exact ai Z (hle.trans ht)
  .obtain⟨_,i,b,_,h2,h3,_⟩:=ai;exact h3 Z (ht.2 _ _ (hle.2 _ _ h2))
 refine⟨YP λc hc hle=>?_,⟨by simp[h.len],λj Z hj ht=>?_,λc hc=>?_,λj Z q i ht hu cw hi=>?_⟩⟩
 .rcases h.pend c hc with h1|⟨r,h1,_,h2⟩
  .rw[h.len] at hle;omega
  .exact hr _ _ h2 _ (.refl _)
 .rcases Jr ht with⟨h1,_⟩|⟨_,h1⟩
  .rw[h.len] at h1;omega
  .exact h1
 .rcases h.pend c hc with h1|⟨r,h1,h2,h3⟩
  .exact .inl (by omega)
  .exact .inr ⟨(r.1,none),zI.2 ⟨r,h1,rfl⟩,h2,hr _ _ h3⟩
 .rcases Jr ht with⟨h1,h2⟩|⟨_,rfl⟩
  .rw[h.len] at h1;obtain⟨hq,cB⟩:=D9 hu (by omega);obtain⟨f1,f2,f3⟩:=hf q hq;rw[f1] at cw;rw[f2] at hi;rw[f3 cw i hi];exact h.fr j Z q i h2 cB cw hi
  .rfl
theorem DSt.writeD {hs:List Heap}{U U':Heap}{pend:List (Nat×(Heap->Prop))}{hl chg:Nat}{A R:List (Nat×Option Nat)}{s s':St}{pl pl':Nat->Value}(h:DSt hs U pend hl chg A R s.own pl) {Ts:List Nat}(hf:FrL Ts s s' pl pl' U U') {mk:Bool}(hm:mk=true->U.Le U')
  (hc:Aq mk R hl Ts=true) (aR:0<hl):JP hs.length U' pend/\DSt (hs++[U']) U' pend (hl+1) hl (Ts.map (λt=>(hl-1,some t))++A) R s'.own pl':=by
 have hr:∀ Q:Heap->Prop,∀ r∈R,hl<=r.1->AJ U s.own pl Q r.2->AJ U' s'.own pl' Q r.2:=λQ r mr bn ai=>by
  have mu:=zg.1 hc r mr;have mu:(match r.2 with|some q=>Ts.all (λt=>!(Nat.beq (q / 2) t))|none=>mk)=true:=by rw[zC,zM] at mu;exact mu.resolve_left (by omega)
  cases e:r.2 with
  |none =>rw[e] at ai mu;exactλZ ht=>ai Z ((hm mu).trans ht)
  |some q =>
   rw[e] at ai mu;obtain⟨k1,i,b,k2,k3,k4⟩:=ai;obtain⟨f1,f2,f3⟩:=hf (q / 2) λhq=>by have:=zg.1 mu (q / 2) hq;simp at this
   exact⟨by rw[f1];exact k1,i,b,by rw[f2];exact k2,by rw[f3 k1 i k2];exact k3,k4⟩
 have now:∀ Q:Heap->Prop,∀ r,AJ U' s'.own pl' Q r->Q U':=λQ r ai=>by
  unfold AJ at ai;split at ai
  .exact ai U' (.refl _)
  .obtain⟨_,i,b,_,h2,h3,_⟩:=ai;exact h3 U' h2
 refine⟨YP λc hc hle=>?_,⟨by simp[h.len],λj Z hj ht=>?_,λc hc=>?_,λj Z q i ht hu cw hi=>?_⟩⟩
 .rw[h.len] at hle;rcases h.pend c hc with h1|⟨r,h1,h2,h3⟩
  .omega
  .exact now _ _ (hr _ r h1 (by omega) h3)
 .rcases Jr ht with⟨h1,_⟩|⟨_,h1⟩
  .rw[h.len] at h1;omega
  .exact h1
 .rcases h.pend c hc with h1|⟨r,h1,h2,h3⟩
  .exact .inl (by omega)
  .by_cases bn:hl<=r.1
   .exact .inr ⟨r,h1,h2,hr _ r h1 bn h3⟩
   .exact .inl (by omega)
 .rcases Jr ht with⟨h1,h2⟩|⟨_,rfl⟩
  .rw[h.len] at h1;obtain⟨hq,cB⟩:=D9 hu (by omega);obtain⟨f1,f2,f3⟩:=hf q hq;rw[f1] at cw;rw[f2] at hi;rw[f3 cw i hi];exact h.fr j Z q i h2 cB cw hi
  .rfl
theorem PZ {hl d j q:Nat}{A:List (Nat×Option Nat)}(h:Z9 ((hl,none)::A) j q=true):Z9 ([d].map (λt=>(hl,some t))++A) j q=true:=by simp only[Z9,zW,z7,zC,zD,or_false,zE,List.map_nil,xA,xl] at h |-;exact⟨.inl h.1,h.2⟩
theorem DSt.frozen {hs:List Heap}{U:Heap}{pend:List (Nat×(Heap->Prop))}{hl chg m d:Nat}{A R:List (Nat×Option Nat)}{own:Own}{pl:Nat->Value}(h:DSt hs U pend hl chg ([d].map (λt=>(m,some t))++A) R own pl):DSt hs U pend hl chg ((m,none)::A) R own pl :=
 ⟨h.len,h.same,h.pend,λj Z q i ht hu=>h.fr j Z q i ht (PZ hu)⟩
theorem Hf {ts:List Nat}{m j:Nat}{A:List (Nat×Option Nat)}(h:Dv (ts.map (λt=>(m,some t))++A) j=true):Dv A j=true:=by simp only[Dv,List.all_append,z7] at h;exact h.2
theorem Hq {a:Nat×Option Nat}{j:Nat}{A:List (Nat×Option Nat)}(h:Dv (a::A) j=true):Dv A j=true:=by simp only[Dv,zW,z7] at h;exact h.2
theorem Th {C:Cx}{f:SV}{args:List SV}{cs:List Prop}{v:SV}(h:Il C f args=some (cs,v)):∃ c ty k xs nl,Vc C.cs f args=some (c,.lst 0,[.lst ty k xs nl])/\cs=[c,nl=true->xs=[]]/\v=.val (.list k) xs/\k.flat=true/\0<C.nt:=by
 unfold Il at h;split at h
 .rename_i heq;split at h
  .rename_i k xs nl;cases hc:(k.flat&&Nat.blt 0 C.nt) with
   |false=>rw[hc] at h;cases h
   |true =>rw[hc] at h;obtain⟨rfl,rfl⟩:=QP h;simp only[z7,zM] at hc;exact⟨_,_,_,_,_,heq,rfl,rfl,hc.1,hc.2⟩
  .cases h
 .cases h
theorem Sp {b:OB}(h:b.here=true):b.live=true:=by cases b<;>first|rfl|cases h
theorem YD {B F:Heap}{pl:Nat->Value}{tb:Nat->Option Bool}{s:St}{env:Env}{U:Heap}(hG:Gam P B F pl tb s env U) {o:VOp}{q:Nat}(h:NK o (gev [] s.env) s.own=some q) {u:Value}{σ2:Heap}(hv:Q6 o (Q3 env) U=some (u,σ2)) :
  (Q8 s.own (q / 2)).live=true/\∃ i b,Oid (pl (q / 2)) i/\U.get i=some b/\(∀ Z,Z.get i=some b->Q6 o (Q3 env) Z=some (u,Z))/\(q % 2=1->∃ es c wr,b=.obj (.map es c) wr/\∀ Z b7 c',LkE es b7->Z.get i=some (.obj (.map b7 c') wr)->Q6 o (Q3 env) Z=some (u,Z)):=by
 have two:∀ q,2*q / 2=q:=λq=>by omega
 have oN:∀ q,(2*q+1) / 2=q:=λq=>by omega
 have odd:∀ {q} {X:Prop},2*q % 2=1->X:=λ{q X} h=>by omega
 unfold NK at h;split at h
 .rename_i agg size a;have ha:=hG.evs (Gds.nil (tb:=tb)) a;have key:∀ q i off,(Q8 s.own q).live=true->Oid (pl q) i->Q3 env a=.pointer (some ⟨i,off,none⟩)->(Q8 s.own q).live=true/\∃ i b,Oid (pl q) i/\U.get i=some b/\∀ Z,Z.get i=some b->Q6 (.load agg size a) (Q3 env) Z=some (u,Z):=λq i off hl hi he=>by
   simp only[Q6,he] at hv;cases hb:U.get i with
   |none=>rw[hb] at hv;cases hv
   |some b =>
    refine⟨hl,i,b,hi,hb,λZ ht=>?_⟩;rw[hb] at hv;simp only[Q6,he,ht];cases b with
    |obj o wr=>cases hv
    |cells c e wr t =>
     simp only at hv |-;split at hv
     .obtain⟨rfl,rfl⟩:=QP hv;rfl
     .cases hv
  split at h
  .rename_i q' off hx;rw[hx] at ha;simp only[SR] at ha;obtain⟨b,h1,h2⟩:=ha;cases hh:(Q8 s.own q').here with
   |false=>rw[hh] at h;cases h
   |true =>rw[hh] at h;obtain rfl:=osj h;obtain⟨x1,y1,y2,y3,y4,y5⟩:=key q' b off (Sp hh) (by rw[h1];rfl) h2;exact⟨by rw[two];exact x1,y1,y2,by rw[two];exact y3,y4,y5,odd⟩
  .rename_i q' i off sz hx;rw[hx] at ha;simp only[SR] at ha;obtain⟨b,len,cap,h1,h2,h3,h4⟩:=ha;cases hh:(Q8 s.own q').here with
   |false=>rw[hh] at h;cases h
   |true =>rw[hh] at h;obtain rfl:=osj h;obtain⟨x1,y1,y2,y3,y4,y5⟩:=key q' b _ (Sp hh) (by rw[h1];rfl) h4;exact⟨by rw[two];exact x1,y1,y2,by rw[two];exact y3,y4,y5,odd⟩
  .cases h
 .rename_i mk z x y;cases bg:stP mk z with
  |false=>rw[bg] at h;cases h
  |true =>
   rw[bg] at h;simp only[zl] at h;obtain⟨rfl,rfl⟩:=I8 bg;split at h
   .rename_i q' hx;split at h
    .rename_i kk vk l ho;obtain rfl:=osj h;have ha:=hG.evs (Gds.nil (tb:=tb)) x;rw[hx] at ha;simp only[SR] at ha;have ao:=hG.obj q';rw[ho] at ao;obtain⟨id,es,c,h2,h3,_⟩:=ao;have aH:∀ (Z:Heap) b7 c' wr,Z.get id=some (.obj (.map b7 c') wr)->Z.mapAt id=some (b7,c',wr):=λZ b7 c' wr hτ=>by simp[Heap.mapAt,hτ]
     simp only[Q6,Zc,ha.1,h2,aH _ _ _ _ h3] at hv;refine⟨by rw[oN,ho];rfl,id,_,by rw[oN,h2];rfl,h3,λZ hτ=>?_,λ_=>⟨es,c,true,rfl,λZ b7 c' hl hτ=>?_⟩⟩
     .simp only[Q6,Zc,ha.1,h2,aH _ _ _ _ hτ];split at hv
      .rename_i fZ;split at hv
       .rename_i iF;rw[z8 fZ,z8 iF];cases he:Qg (Q3 env y) es with
        |some e=>rw[he] at hv;obtain⟨rfl,rfl⟩:=QP hv;rfl
        |none=>rw[he] at hv;obtain⟨rfl,rfl⟩:=QP hv;rfl
       .cases hv
      .cases hv
     .simp only[Q6,Zc,ha.1,h2,aH _ _ _ _ hτ];split at hv
      .rename_i fZ;split at hv
       .rename_i iF;rw[z8 fZ,z8 (hl.1 iF)];have cu:=hl.2 iF _ fZ;cases he:Qg (Q3 env y) es with
        |some e =>
         rw[he] at hv cu;obtain⟨rfl,rfl⟩:=QP hv;cases hm:Qg (Q3 env y) b7 with
         |some e'=>rw[hm] at cu;simp only[Q5v] at cu;simp[cu]
         |none=>rw[hm] at cu;simp only[Q5v] at cu;simp[<-cu]
        |none =>
         rw[he] at hv cu;obtain⟨rfl,rfl⟩:=QP hv;cases hm:Qg (Q3 env y) b7 with
         |some e'=>rw[hm] at cu;simp only[Q5v] at cu;simp[cu]
         |none=>rfl
       .cases hv
      .cases hv
    .cases h
   .cases h
 .rename_i sz x lo hi;split at h
  .rename_i q' hx;split at h
   .rename_i ty k xs nl ho;cases nl with
    |true=>cases h
    |false =>
     obtain rfl:=osj h;have ha:=hG.evs (Gds.nil (tb:=tb)) x;rw[hx] at ha;simp only[SR] at ha;have ao:=hG.obj q';rw[ho] at ao;rcases ao with⟨h0,_⟩|⟨_,i,cap,c,t,h3,h4,h5,h6,h7⟩
     .cases h0
     .refine⟨by rw[two,ho];rfl,i,_,by rw[two,h3];rfl,h5,λZ hτ=>?_,odd⟩;simp only[Q6,ha.1,h3] at hv |-;cases e1:Z_ (Q3 env) lo 0 with
      |none=>rw[e1] at hv;cases hv
      |some a =>
       cases e2:Z_ (Q3 env) hi xs.length with
       |none=>rw[e1,e2] at hv;cases hv
       |some b =>
        rw[e1,e2] at hv;simp only[Wv,h5] at hv;simp only[Wv,hτ];split at hv
        .rename_i dE;rw[z8 dE];obtain⟨rfl,rfl⟩:=QP hv;rfl
        .cases hv
   .cases h
  .cases h
 .cases h
theorem Mh {r:Nat}{U:Heap}:∀ {l:List (Nat×(Heap->Prop))},JP r U l->∀ {c},c∈l->r<=c.1->c.2 U
 |c::l,h,c',hc,hr=>by
  rcases zo.1 hc with rfl|hc
  .exact h.1 hr
  .exact Mh h.2 hc hr
theorem Mf {B F:Heap}{pl:Nat->Value}{tb:Nat->Option Bool}{s:St}{env:Env}{U:Heap}(hG:Gam P B F pl tb s env U) {gs:List Gd}(hg:Gds tb gs) {o:VOp}(h:Q67 o (gev gs s.env)=true) {u:Value}{σ2:Heap}(hv:Q6 o (Q3 env) U=some (u,σ2)) :
  ∀ Z,B.Le Z->Q6 o (Q3 env) Z=some (u,Z):=by
 unfold Q67 at h;split at h
 .rename_i agg size a;have ha:=hG.evs hg a;have key:∀ i off,(∃ b,B.get i=some b)->Q3 env a=.pointer (some ⟨i,off,none⟩)->∀ Z,B.Le Z->Q6 (.load agg size a) (Q3 env) Z=some (u,Z):=λi off ⟨b,hb⟩ he Z hτ=>by
   simp only[Q6,he,hG.leB.2 _ _ hb] at hv;simp only[Q6,he,hτ.2 _ _ hb];cases b with
   |obj o wr=>cases hv
   |cells c e wr t =>
    simp only at hv |-;split at hv
    .obtain⟨rfl,rfl⟩:=QP hv;rfl
    .cases hv
  split at h
  .rename_i k l i off hx;rw[hx] at ha;simp only[SR] at ha;obtain⟨b,o,c,e,wr,t,_,_,h3,h4,_⟩:=ha;exact key b _ ⟨_,h3⟩ h4
  .rename_i l off hx;rw[hx] at ha;simp only[SR] at ha;obtain⟨b,c,e,wr,t,h3,h4,_⟩:=ha;exact key b _ ⟨_,h3⟩ h4
  .cases h
 .cases h
theorem FG {C:Cx}{B F:Heap}{pl:Nat->Value}{tb:Nat->Option Bool}{s:St}{env:Env}{U:Heap}(hG:Gam P B F pl tb s env U) {d:Nat}{o:VOp}{K:SV->St->Prop}(h:gn C d o (gev [] s.env) s K) (hc:A9 o=false) :
  ∃ u U' pl' v s',Q6 o (Q3 env) U=some (u,U')/\K v s'/\(Gam P B F pl' tb s' env U'/\Fr (QE d o (gev [] s.env)) s s' pl pl' U U')/\SR P B pl' tb v u /\
  (Tn o=true->(Q8 s'.own (QE d o (gev [] s.env))).live=true/\pl' (QE d o (gev [] s.env))=pl (QE d o (gev [] s.env))/\∃ i es c b7 c',pl (QE d o (gev [] s.env))=.map (some i)/\U.get i=some (.obj (.map es c) true)/\U'.get i=some (.obj (.map b7 c') true)/\LkE es b7):=by
 cases he:Tn o with
 |false =>obtain⟨u,U',pl',v,s',h1,h2,h3,h4⟩:=Q92 hG h hc;exact⟨u,U',pl',v,s',h1,h2,h3,h4,λh=>by cases h⟩
 |true =>
  unfold Tn at he;split at he
  .rename_i mk z m kx;obtain⟨rfl,rfl⟩:=I8 he;obtain⟨u,U',v,s',T,kv,aX,i,es,c,rfl,h1,h2,h3,h4,h5,h6,h7,h8,h9,bS,ft⟩:=P2 (hG.evs (Gds.nil (tb:=tb))) hG h;refine⟨u,U',pl,v,s',h1,h2,h3,h4,λ_=>⟨h5,rfl,i,es,c,_,_,h6,h7,h8,?_⟩⟩;have:aX=Q5v (Qg kv es):=by rw[ft];cases Qg kv es<;>rfl
   rw[this];exact Iw h9
  .cases he
def Jc (S:VSpecs):List DOper->Env->List Heap->Heap->List (Nat×(Heap->Prop))->(Env->Heap->Prop)->Prop
 |[],env,_,U,_,K=>K env U
 |o::rest,env,hs,U,pend,K=>QS (J3 env o.guard) λb =>
   vif b (if o.kind=2 then Gx (λR=>vop S o.op env U R) λv U'=>JP hs.length U' pend/\Jc S rest (X0 env o.dst v) (hs++[U']) U' pend K
     else if o.kind=1 then QS (Q6 o.op (Q3 env) U) λp=>(∀ Z∈hs.drop o.kmin,JV o.op (Q3 env) p.1 Z) /\
      Jc S rest (X0 env o.dst p.1) hs U (if hs.length<=o.kmax then (o.kmax,JV o.op (Q3 env) p.1)::pend else pend) K
     else QS (Q6 o.op (Q3 env) U) λp=>Jc S rest (X0 env o.dst p.1) hs U pend K)
    (if o.kind=2 then JP hs.length U pend/\Jc S rest (X0 env o.dst undef) (hs++[U]) U pend K else Jc S rest (X0 env o.dst undef) hs U pend K)
theorem HQ {α:Type}{o:Option α}{f g:α->Prop}(h:QS o f) (uS:∀ a,f a->g a):QS o g:=by
 cases o with
 |none=>exact h.elim
 |some a=>exact uS a h
theorem WY {S:VSpecs}{K:Env->Heap->Prop}:∀ {ops:List DOper}{env:Env}{hs:List Heap}{U:Heap}{pend:List (Nat×(Heap->Prop))},Jc S ops env hs U pend K->Zp S ops env hs U pend K
 |[],_,_,_,_,h=>h
 |o::r,env,hs,U,pend,h=>by
  simp only[Jc] at h;simp only[Zp];refine HQ h λb h=>⟨λe=>?_,λe=>?_⟩
  .have h:=h.1 e;split at h
   .rename_i hk;rw[z8 hk];obtain⟨v,U',h1,h2,h3⟩:=h;exact .inl ⟨v,U',h1,h2,WY h3⟩
   .rename_i hk;rw[zd hk];split at h
    .rename_i bw;rw[z8 bw];exact HQ h λp h=>⟨h.1,WY h.2⟩
    .rename_i bw;rw[zd bw];exact HQ h λp h=>WY h
  .have h:=h.2 e;split at h
   .rename_i hk;rw[z8 hk];exact⟨h.1,WY h.2⟩
   .rename_i hk;rw[zd hk];exact WY h
theorem Qo {C:Cx}(aA:COk P C) (bu:C.xs=[]) {B0 F0 D0:Heap}:∀ (ops:List DOper),(∀ o∈ops,o.kind=o.op.kind)->∀ {s:St}{env:Env}{U:Heap}{B F:Heap}{pl:Nat->Value}{tb:Nat->Option Bool},GBase B0 F0 D0 B F U->Gam P B F pl tb s env U->∀ {hl chg:Nat}{A Rd:List (Nat×Option Nat)}{hs:List Heap}{pend pd:List (Nat×(Heap->Prop))},DSt hs U pd hl chg A Rd s.own pl->(∀ c∈pend,(∀ Z,B.Le Z->c.2 Z)\/c∈pd)->(∀ j Z,hs[j]?=some Z->Dv A j=true->B.Le Z)->chg<=hl->0<hl ->
  ∀ {K:St->Prop},Xg C ops s hl chg A Rd K->∀ {R:Env->Heap->Prop},(∀ s' af U',K s'->GRel P B0 F0 D0 s' af U'->R af U')->Jc (Q2 P) ops env hs U pend R
 |[],_,s,env,U,B,F,pl,tb,hB,hG,_,_,_,_,_,_,_,_,_,_,_,_,K,h,R,hK=>hK s env U h ⟨B,F,pl,tb,hB,hG⟩
 |o0::r,fT,s,env,U,B,F,pl,tb,hB,hG,hl,chg,A,Rd,hs,pend,pd,hD,hp,cj,fk,aR,K,h,R,hK=>by
  have fb:∀ {n:Nat}{Z:Heap},B.Le Z->JP n Z pd->JP n Z pend:=λ{n Z} hb hv=>YP λc hc hn=>(hp c hc).elim (λh=>h Z hb) λh=>Mh hv h hn;have snoc:∀ {Z:Heap}{A':List (Nat×Option Nat)},B.Le Z->(∀ j,Dv A' j=true->Dv A j=true)->∀ j Z',(hs++[Z])[j]?=some Z'->Dv A' j=true->B.Le Z':=λ{Z A'} hb hA j Z' hm hn=>by
   rcases Jr hm with⟨_,h1⟩|⟨_,rfl⟩
   .exact cj j Z' h1 (hA j hn)
   .exact hb
  have cz:∀ o∈r,o.kind=o.op.kind:=λo' fg=>fT o' (zi _ fg);have mw:=fT o0 zq;unfold Xg at h;split at h
  .rename_i bg;have hw:=KG hG bg;simp only[Jc];rw[hw];refine⟨λe=>(by cases e),λ_=>?_⟩;have bm:=hG.put o0.dst (show SR P B pl tb .any undef by simp[SR]);by_cases av:o0.kind=2
   .rw[z8 av] at h |-;obtain⟨k1,k2⟩:=hD.stay;exact⟨fb hG.leB k1,Qo aA bu r cz hB bm (by rw[Z8];exact k2) hp (snoc hG.leB λ_ h=>h) (by omega) (by omega) h hK⟩
   .rw[zd av] at h |-;exact Qo aA bu r cz hB bm (by rw[Z8];exact hD) hp cj fk aR h hK
  have bU:(AX s.env o0).kind=(AX s.env o0).op.kind:=by unfold AX;split<;>exact mw
  have dp:Jc (Q2 P) (AX s.env o0::r) env hs U pend R->Jc (Q2 P) (o0::r) env hs U pend R:=λhv=>by
   unfold AX at hv;split at hv
   .rename_i bg;simp only[Jc] at hv |-;rw[KG hG bg];exact hv
   .exact hv
  refine dp ?_;clear dp;generalize AX s.env o0=o at h bU |-
  replace h:=id h
  simp only[Jc];by_cases av:o.kind=2
  .rw[z8 av] at h
   have fin:∀ {u:Value}{U':Heap}{ts:List Nat}{v:SV}{s':St}{pl':Nat->Value},(∀ R',R' u U'->vop (Q2 P) o.op env U R')->Xg C r (s'.put o.dst v) (hl+1) (bif ts.isEmpty then chg else hl) (ts.map (λt=>(hl-1,some t))++A) (bif ts.isEmpty then Rd else Rd.map λr=>(r.1,none)) K->Gam P B F pl' tb s' env U'->SR P B pl' tb v u->(ts=[]->U'=U/\pl'=pl/\s'=s)->U.Le U'->Dead U U'->FrL ts s s' pl pl' U U' ->
     Gx (λR=>vop (Q2 P) o.op env U R) λv U'=>JP hs.length U' pend/\Jc (Q2 P) r (X0 env o.dst v) (hs++[U']) U' pend R:=λ{u U' ts v s' pl'} bL oO bq iJ he hle hd cY=>by
    cases ts with
    |nil =>obtain⟨rfl,rfl,rfl⟩:=he rfl;obtain⟨k1,k2⟩:=hD.stay;exact⟨u,U',bL _ ⟨rfl,rfl⟩,fb bq.leB k1,Qo aA bu r cz (MI hB hd) (bq.put o.dst iJ) (by rw[Z8];exact k2) hp (snoc bq.leB λ_ h=>h) (by simp only[List.isEmpty,zl] at *;omega) (by omega) oO hK⟩
    |cons t ts =>obtain⟨k1,k2⟩:=hD.call hle cY aR;exact⟨u,U',bL _ ⟨rfl,rfl⟩,fb bq.leB k1,Qo aA bu r cz (MI hB hd) (bq.put o.dst iJ) (by rw[Z8];exact k2) hp (snoc bq.leB λ_ h=>Hf h) (by simp only[List.isEmpty,zS] at *;omega) (by omega) oO hK⟩
   split at h
   .rename_i f args bL;split at h
    .rename_i hg;rw[hg];refine⟨λ_=>?_,λe=>by cases e⟩;rw[z8 av];rw[bu] at h;simp only[Qq] at h;obtain⟨g,a,b,u,U',e,v,s',pl',h1,h2,h3,h4,h5,h6,h7,h8,h9⟩:=XW aA hG h (show SR P U Jg Zh (.fn f [] []) (.func (.func f) #[] #[]) by simp only[SR,SRs];exact⟨[],[],rfl,rfl,rfl⟩) (hG.gcall Gds.nil args);obtain⟨rfl,rfl,rfl⟩:=(by simpa using h1:f=g/\#[]=a/\#[]=b);refine fin (u:=u) (U':=U') (λR' hr=>?_) h3 h4 h5 h6 h7 h8 h9;rw[bL];show VCalled P f (args.map (Q3 env)) U R';have:=h2.mono (R':=R') λu' aE ⟨e1,e2⟩=>by subst e1;subst e2;exact hr
     simpa using this
    .rename_i j want hg;rw[hg];split at h
     .exact h.elim
     .rename_i gs s1 eu;obtain⟨tb',bq,de,b,hw,bB,cA⟩:=XO hG eu;have aJ:=Y_ eu;rw[hw];split at h
      .rename_i cs v dQ;cases cR:Vk v with
       |false=>rw[cR] at h;exact h.elim
       |true =>
       rw[cR] at h;simp only[zl] at h;obtain⟨h1,h2⟩:=Zl h;obtain⟨k1,k2⟩:=hD.stay;have mn:∀ x,DSt (hs++[U]) U pd (hl+1) chg A Rd (s1.put o.dst x).own pl:=λx=>by rw[Z8,aJ];exact k2
       refine⟨λe=>?_,λe=>?_⟩
       .rw[z8 av];have hU:Gds tb' gs:=λg hg=>⟨bB e g hg,de g hg⟩;have my:∀ {v u},SR P B pl tb' v u->SR P B pl tb' (.grd gs (Dp v)) u:=λ{v u} hs=>by
         simp only[SR];obtain⟨h1,h2⟩:=H6 hs;exact⟨⟨de,h2⟩,λ_=>h1,λ⟨g,hg,aB⟩=>absurd (bB e g hg) aB⟩
        simp only[gqc] at dQ;split at dQ
        .rename_i c v' heq;cases bY:v'.ret 0 with
         |false=>rw[bY] at dQ;cases dQ
         |true =>
          rw[bY] at dQ;obtain⟨rfl,rfl⟩:=QP dQ;obtain⟨g,a,b',h3,h4,_⟩:=ZL aA.cs (show SR P U Jg Zh (.fn f [] []) (.func (.func f) #[] #[]) by simp only[SR,SRs];exact⟨[],[],rfl,rfl,rfl⟩) (bq.gcall hU args) heq bY rfl (h2 (bB e) _ (by simp));obtain⟨rfl,rfl,rfl⟩:=(by simpa using h3:f=g/\#[]=a/\#[]=b');refine⟨Vm Jg v',U,?_,fb hG.leB k1,Qo aA bu r cz hB (bq.put o.dst (my ?_)) (mn _) hp (snoc hG.leB λ_ h=>h) (by omega) (by omega) (Zg h1) hK⟩
          .rw[bL];show VCalled P f (args.map (Q3 env)) U _;have:=h4.mono (R':=λu U'=>u=Vm Jg v'/\U'=U) λu U' hr=>by
            obtain⟨rfl,hu⟩:=hr.flat bY;exact⟨VW v' u bY cR hu,rfl⟩
           simpa using this
          .exact SR.retd (λj hj=>by omega) _ _ bY (Re (P:=P) (pl:=Jg) (m:=0) (λj hj=>by omega) v' bY cR)
        .cases dQ
       .rw[z8 av];obtain⟨g,dV,aB⟩:=cA e;exact⟨fb hG.leB k1,Qo aA bu r cz hB (bq.put o.dst (by simp only[SR];exact⟨⟨de,H3 v⟩,λae=>absurd (ae g dV) aB,λ_=>trivial⟩)) (mn _) hp (snoc hG.leB λ_ h=>h) (by omega) (by omega) (Zg h1) hK⟩
      .split at h
       .rename_i cs v lF;obtain⟨c,ty,k,xs,nl,heq,rfl,rfl,hk,dz⟩:=Th lF;obtain⟨h1,h2⟩:=Zl h;have frz:∀ {B' U':Heap},B'.Le U'->∀ j Z',(hs++[U'])[j]?=some Z'->Dv ((hl-1,none)::A) j=true->B'.Le Z':=λ{B' U'} hb j Z' hm hn=>by
         rcases Jr hm with⟨h1,_⟩|⟨_,rfl⟩
         .simp only[Dv,zW,z7,zC,zM,Option.isSome_none,zD,or_false] at hn;have:=hD.len;omega
         .exact hb
        refine⟨λe=>?_,λe=>?_⟩
        .rw[z8 av];have hU:Gds tb' gs:=λg hg=>⟨bB e g hg,de g hg⟩;have fZ:=h2 (bB e) c (by simp);have iF:=h2 (bB e) (nl=true->xs=[]) (by simp);have eu:MF C (C.off+o.dst.getD 0) (.fn f [] []) (Bv s1.own (args.map (gev gs s1.env))) s1 (λts v' s'=>ts=[C.off+o.dst.getD 0]/\v'=.lst (C.off+o.dst.getD 0)/\s'=s1.make (C.off+o.dst.getD 0) (.lst ty k xs nl)):=by
          unfold MF;rw[heq];dsimp only;have ak:(SV.ret [OB.lst ty k xs nl].length (.lst 0)&&([OB.lst ty k xs nl].all OB.ret&&(Nat.blt 0 C.nt&&([OB.lst ty k xs nl].all OB.isL&&Vk (.lst 0)))))=true:=by simp only[SV.ret,xp,zW,List.all_nil,xZ,OB.ret,hk,Bool.true_and,OB.isL,Vk];rw[z7];exact⟨rfl,by rw[zM];exact dz⟩
          rw[ak];simp only[zl,FB,OB.wf];refine⟨fZ,iF,?_,?_,?_⟩
          .simp[List.range_succ]
          .simp[SV.ren]
          .simp[St.makes]
         obtain⟨g,a,b',u,U',ts,v',s',pl',h3,h4,⟨rfl,rfl,rfl⟩,h5,h6,_,h7,h8,h9⟩:=XW aA bq eu (show SR P U Jg Zh (.fn f [] []) (.func (.func f) #[] #[]) by simp only[SR,SRs];exact⟨[],[],rfl,rfl,rfl⟩) (bq.gcall hU args);obtain⟨rfl,rfl,rfl⟩:=(by simpa using h3:f=g/\#[]=a/\#[]=b');obtain⟨B',F',m1,m2,m3⟩:=RR bq.bf hk h5 h6 h8;have cY:FrL [C.off+o.dst.getD 0] s ((s1.make (C.off+o.dst.getD 0) .dead).put o.dst (.grd gs (.val (.list k) xs))) pl pl' U U':=λq hq=>by obtain⟨f1,f2,f3⟩:=h9 q hq;rw[aJ] at f3;refine⟨?_,f2,f3⟩;rw[Z8,Vw _ _ _ (by simpa using hq),aJ]
         obtain⟨k1,k2⟩:=hD.call h7 cY aR;refine⟨u,U',?_,fb (m1.b.trans m2.leB) k1,Qo aA bu r cz (hB.trans m1) (m2.put o.dst ?_) k2.frozen (λc hc=>(hp c hc).imp (λh Z hτ=>h Z (m1.b.trans hτ)) id) (frz m2.leB) (by omega) (by omega) h1 hK⟩
         .rw[bL];show VCalled P f (args.map (Q3 env)) U _;simpa using h4
         .simp only[SR];exact⟨⟨de,trivial⟩,λ_=>m3,λ⟨g,hg,aB⟩=>absurd (bB e g hg) aB⟩
        .rw[z8 av];obtain⟨g,dV,aB⟩:=cA e;have cY:FrL [C.off+o.dst.getD 0] s ((s1.make (C.off+o.dst.getD 0) .dead).put o.dst (.grd gs (.val (.list k) xs))) pl (Jf pl (C.off+o.dst.getD 0) undef) U U:=λq hq=>by
          have cS:q≠C.off+o.dst.getD 0:=by simpa using hq
          refine⟨?_,by simp[Jf,cS],λ_ _ _=>rfl⟩;rw[Z8,Vw _ _ _ cS,aJ]
         obtain⟨k1,k2⟩:=hD.call (.refl U) cY aR;refine⟨fb hG.leB k1,Qo aA bu r cz hB ((bq.make (C.off+o.dst.getD 0) .dead undef bq.le (λ_ _ _ _ _=>rfl) trivial (λi hl _=>by cases hl)).put o.dst ?_) k2.frozen hp (frz hG.leB) (by omega) (by omega) h1 hK⟩;simp only[SR];exact⟨⟨de,trivial⟩,λae=>absurd (ae g dV) aB,λ_=>trivial⟩
       .exact h.elim
   .rename_i f args bL;split at h
    .rename_i hg;rw[hg];refine⟨λ_=>?_,λe=>by cases e⟩;rw[z8 av];obtain⟨g,a,b,u,U',e,v,s',pl',h1,h2,h3,h4,h5,h6,h7,h8,h9⟩:=XW aA hG h (hG.gfun Gds.nil f) (hG.gcall Gds.nil args);refine fin (u:=u) (U':=U') (λR' hr=>?_) h3 h4 h5 h6 h7 h8 h9;rw[bL];exact NN h1 (h2.mono (R':=R') λu' aE ⟨e1,e2⟩=>by subst e1;subst e2;exact hr)
    .exact h.elim
   .exact h.elim
   .exact h.elim
   .rename_i ra nU rb iu;split at h
    .rename_i hg;rw[hg];refine⟨λ_=>?_,λe=>by cases e⟩;rw[z8 av];have aG:A9 o.op=false:=by
      cases ho:o.op<;>first|rfl|(exact absurd ho (ra _ _))|(exact absurd ho (nU _ _))|skip
      case ext x=>cases x<;>first|rfl|(exact absurd ho (rb _))|(exact absurd ho (iu _))
     cases lE:L3 C (o.dst.getD 0) o.op (gev [] s.env) with
     |true =>
      rw[lE] at h;simp only[zl] at h;cases hm:Aq (P0 o.op) Rd hl (S7 (C.off+o.dst.getD 0) o.op (gev [] s.env)) with
      |false=>rw[hm] at h;exact h.elim
      |true =>
       rw[hm] at h;simp only[zl] at h;obtain⟨u,U',pl',v,s',h1,h2,⟨h3,lC⟩,h4⟩:=Pc (λx=>hG.evs (Gds.nil (tb:=tb)) x) hG h;have gP:∀ R',R' u U'->vop (Q2 P) o.op env U R':=λR' hr=>by
        have:vop (Q2 P) o.op env U R'=QS (Q6 o.op (Q3 env) U) λp=>R' p.1 p.2:=by
         cases ho:o.op with
         |callF f a=>rw[ho] at aG;cases aG
         |callV f a=>rw[ho] at aG;cases aG
         |ext x =>
          cases x with
          |nextMap y=>rw[ho] at h1;cases h1
          |_=>rfl
         |_=>rfl
        rw[this,h1];exact hr
       obtain⟨k1,k2⟩:=hD.writeD lC (λcF=>Rk cF h1) hm aR;exact⟨u,U',gP _ ⟨rfl,rfl⟩,fb h3.leB k1,Qo aA bu r cz (MI hB (Ki h1)) (h3.put o.dst h4) (by rw[Z8];exact k2) hp (snoc h3.leB λ_ h=>Hf h) (by omega) (by omega) h2 hK⟩
     |false =>
     rw[lE] at h;simp only[zS] at h;cases hm:((P0 o.op&&Lm Rd hl (QE (C.off+o.dst.getD 0) o.op (gev [] s.env)))||Tk Rd hl (QE (C.off+o.dst.getD 0) o.op (gev [] s.env))||(Tn o.op&&Q61 Rd hl (QE (C.off+o.dst.getD 0) o.op (gev [] s.env)))) with
     |false=>rw[hm] at h;exact h.elim
     |true =>
      rw[hm] at h;simp only[zl] at h;obtain⟨u,U',pl',v,s',h1,h2,⟨h3,lC⟩,h4,hE⟩:=FG hG h aG;have gP:∀ R',R' u U'->vop (Q2 P) o.op env U R':=λR' hr=>by
       have:vop (Q2 P) o.op env U R'=QS (Q6 o.op (Q3 env) U) λp=>R' p.1 p.2:=by
        cases ho:o.op with
        |callF f a=>rw[ho] at aG;cases aG
        |callV f a=>rw[ho] at aG;cases aG
        |ext x =>
         cases x with
         |nextMap y=>rw[ho] at h1;cases h1
         |_=>rfl
        |_=>rfl
       rw[this,h1];exact hr
      obtain⟨k1,k2⟩:=hD.write lC (λcF=>Rk cF h1) hE hm aR;exact⟨u,U',gP _ ⟨rfl,rfl⟩,fb h3.leB k1,Qo aA bu r cz (MI hB (Ki h1)) (h3.put o.dst h4) (by rw[Z8];exact k2) hp (snoc h3.leB λ_ h=>Hq h) (by omega) (by omega) h2 hK⟩
    .exact h.elim
  .rw[zd av] at h;have mz:o.op.kind≠2:=by rw[<-bU];exact av
   by_cases bw:o.kind=1
   .rw[z8 bw] at h
    have rd:∀ (rq:Option Nat),(∀ q,rq=some q->NK o.op (gev [] s.env) s.own=some q)->(Nat.ble chg o.kmin||Pn A o.kmin rq)=true->gd1 C o s (λs'=>Xg C r s' hl chg A ((o.kmax,rq)::Rd) K) ->
      QS (J3 env o.guard) λb=>vif b (if o.kind=2 then Gx (λR=>vop (Q2 P) o.op env U R) λv U'=>JP hs.length U' pend/\Jc (Q2 P) r (X0 env o.dst v) (hs++[U']) U' pend R
       else if o.kind=1 then QS (Q6 o.op (Q3 env) U) λp=>(∀ Z∈hs.drop o.kmin,JV o.op (Q3 env) p.1 Z) /\
        Jc (Q2 P) r (X0 env o.dst p.1) hs U (if hs.length<=o.kmax then (o.kmax,JV o.op (Q3 env) p.1)::pend else pend) R
       else QS (Q6 o.op (Q3 env) U) λp=>Jc (Q2 P) r (X0 env o.dst p.1) hs U pend R)
      (if o.kind=2 then JP hs.length U pend/\Jc (Q2 P) r (X0 env o.dst undef) (hs++[U]) U pend R else Jc (Q2 P) r (X0 env o.dst undef) hs U pend R):=λrq oP hc h=>by
     obtain⟨b,hw,h1,h2⟩:=VT hG h;rw[hw];have mA:DSt hs U pd hl chg A ((o.kmax,rq)::Rd) s.own pl:=⟨hD.len,hD.same,λc hc=>(hD.pend c hc).imp id λ⟨r,k1,k2⟩=>⟨r,zi _ k1,k2⟩,hD.fr⟩;refine⟨λe=>?_,λe=>?_⟩
     .obtain⟨u,s',tb',h3,h4,aJ,h5⟩:=h1 e;rw[zd av,z8 bw,h3];refine⟨λZ hτ=>?_,?_⟩
      .obtain⟨j,hj⟩:=xn.1 hτ;rw[zz] at hj;rw[zC] at hc;rcases hc with hc|hc
       .have:=hD.same (o.kmin+j) Z (by have:=zG hc;omega) hj;subst this;exact ZM h3
       .unfold Pn at hc;split at hc
        .rename_i q;obtain⟨k1,i,bl,k2,k3,k4,k5⟩:=YD hG (oP q rfl) h3;have hu:Z9 A (o.kmin+j) (q / 2)=true:=by
          simp only[Z9,zg,zC,zM] at hc |-;exactλa ha=>(hc a ha).imp (λh=>by omega) id
         have:=hD.fr (o.kmin+j) Z (q / 2) i hj hu k1 k2;exact ZM (k4 Z (by rw[this];exact k3))
        .cases hc
      .by_cases hle:hs.length<=o.kmax
       .rw[z8 hle];refine Qo aA bu r cz hB h5 (A:=A) (Rd:=(o.kmax,rq)::Rd) (hl:=hl) (chg:=chg) (pd:=(o.kmax,JV o.op (Q3 env) u)::pd) ?_ (λc hc=>?_) cj fk aR h4 hK
        .rw[aJ];refine⟨hD.len,hD.same,λc hc=>?_,hD.fr⟩;rcases zo.1 hc with rfl|hc
         .refine .inr ⟨_,zq,zf _,?_⟩;cases rq with
          |none=>exactλZ hτ=>ZM (Pr mz h3 hτ)
          |some q =>obtain⟨k1,i,bl,k2,k3,k4,k5⟩:=YD hG (oP q rfl) h3;exact⟨k1,i,bl,k2,k3,λZ ht=>ZM (k4 Z ht),λho=>(let ⟨es,c,wr,x1,x2⟩:=k5 ho;⟨es,c,wr,x1,λZ b7 c' hl ht=>ZM (x2 Z b7 c' hl ht)⟩)⟩
         .exact mA.pend c hc
        .rcases zo.1 hc with rfl|hc
         .exact .inr zq
         .exact(hp c hc).imp id λh=>zi _ h
       .rw[zd hle];exact Qo aA bu r cz hB h5 (A:=A) (Rd:=(o.kmax,rq)::Rd) (hl:=hl) (chg:=chg) (pd:=pd) (by rw[aJ];exact mA) hp cj fk aR h4 hK
     .obtain⟨s',tb',h4,aJ,h5⟩:=h2 e;rw[zd av];exact Qo aA bu r cz hB h5 (by rw[aJ];exact mA) hp cj fk aR h4 hK
    have ro:Dv A o.kmin=true->(∀ u,Q6 o.op (Q3 env) U=some (u,U)->(J3 env o.guard=some true)->∀ Z,B.Le Z->Q6 o.op (Q3 env) Z=some (u,Z))->gd1 C o s (λs'=>Xg C r s' hl chg A Rd K) ->
      QS (J3 env o.guard) λb=>vif b (if o.kind=2 then Gx (λR=>vop (Q2 P) o.op env U R) λv U'=>JP hs.length U' pend/\Jc (Q2 P) r (X0 env o.dst v) (hs++[U']) U' pend R
       else if o.kind=1 then QS (Q6 o.op (Q3 env) U) λp=>(∀ Z∈hs.drop o.kmin,JV o.op (Q3 env) p.1 Z) /\
        Jc (Q2 P) r (X0 env o.dst p.1) hs U (if hs.length<=o.kmax then (o.kmax,JV o.op (Q3 env) p.1)::pend else pend) R
       else QS (Q6 o.op (Q3 env) U) λp=>Jc (Q2 P) r (X0 env o.dst p.1) hs U pend R)
      (if o.kind=2 then JP hs.length U pend/\Jc (Q2 P) r (X0 env o.dst undef) (hs++[U]) U pend R else Jc (Q2 P) r (X0 env o.dst undef) hs U pend R):=λkB bQ h=>by
     obtain⟨b,hw,h1,h2⟩:=VT hG h;rw[hw];refine⟨λe=>?_,λe=>?_⟩
     .obtain⟨u,s',tb',h3,h4,aJ,h5⟩:=h1 e;have bQ:=bQ u h3 (by rw[hw,e]);rw[zd av,z8 bw,h3];refine⟨λZ hτ=>?_,?_⟩
      .obtain⟨j,hj⟩:=xn.1 hτ;rw[zz] at hj;refine ZM (bQ Z (cj _ Z hj ?_));simp only[Dv,zg,zC,zM] at kB |-;exactλa ha=>(kB a ha).imp (λh=>by omega) id
      refine Qo aA bu r cz hB h5 (A:=A) (Rd:=Rd) (hl:=hl) (chg:=chg) (pd:=pd) (by rw[aJ];exact hD) (λc hc=>?_) cj fk aR h4 hK;split at hc
      .rcases zo.1 hc with rfl|hc
       .exact .inl λZ hτ=>ZM (bQ Z hτ)
       .exact hp c hc
      .exact hp c hc
     .obtain⟨s',tb',h4,aJ,h5⟩:=h2 e;rw[zd av];exact Qo aA bu r cz hB h5 (by rw[aJ];exact hD) hp cj fk aR h4 hK
    split at h
    .rename_i hg;cases hr:(Q67 o.op (gev [] s.env)&&Dv A o.kmin) with
     |true =>rw[hr] at h;rw[z7] at hr;exact ro hr.2 (λu hu _=>Mf hG Gds.nil hr.1 hu) h
     |false =>
     rw[hr] at h;simp only[zS] at h;cases hb:(Nat.ble chg o.kmin||Pn A o.kmin (NK o.op (gev [] s.env) s.own)) with
     |false=>rw[hb] at h;exact h.elim
     |true =>rw[hb] at h;exact rd _ (λq hq=>hq) hb h
    .rename_i j want hg;cases hr:(FI s j want o.op&&Dv A o.kmin) with
     |true =>
      rw[hr] at h;rw[z7] at hr;obtain⟨hr,kB⟩:=hr;refine ro kB (λu hu hw=>?_) h;unfold FI at hr;split at hr
      .rename_i gs s1 eu;obtain⟨tb',bq,de,b,dw,bB,cA⟩:=XO hG eu;rw[hg,dw] at hw;have e:=osj hw;exact Mf bq (λg hg=>⟨bB e g hg,de g hg⟩) hr hu
      .cases hr
     |false =>
     rw[hr] at h;simp only[zS] at h;cases hb:Nat.ble chg o.kmin with
     |false=>rw[hb] at h;exact h.elim
     |true =>rw[hb] at h;exact rd none (λq hq=>by cases hq) (by rw[hb];rfl) h
   .rw[zd bw] at h;obtain⟨b,hw,h1,h2⟩:=VT hG h;rw[hw];refine⟨λe=>?_,λe=>?_⟩
    .obtain⟨u,s',tb',h3,h4,aJ,h5⟩:=h1 e;rw[zd av,zd bw,h3];exact Qo aA bu r cz hB h5 (by rw[aJ];exact hD) hp cj fk aR h4 hK
    .obtain⟨s',tb',h4,aJ,h5⟩:=h2 e;rw[zd av];exact Qo aA bu r cz hB h5 (by rw[aJ];exact hD) hp cj fk aR h4 hK
theorem Qp {C:Cx}(aA:COk P C) {B0 F0 D0:Heap}:∀ (ops:List DOper),(∀ o∈ops,o.kind=o.op.kind)->∀ {s:St}{env:Env}{U:Heap}{B F:Heap}{pl:Nat->Value}{tb:Nat->Option Bool},GBase B0 F0 D0 B F U->Gam P B F pl tb s env U->∀ {hl chg:Nat}{A Rd:List (Nat×Option Nat)}{hs:List Heap}{pend pd:List (Nat×(Heap->Prop))},DSt hs U pd hl chg A Rd s.own pl->(∀ c∈pend,(∀ Z,B.Le Z->c.2 Z)\/c∈pd)->(∀ j Z,hs[j]?=some Z->Dv A j=true->B.Le Z)->chg<=hl->0<hl ->
  ∀ {K:St->Prop},Xg C ops s hl chg A Rd K->∀ {R:Env->Heap->Prop},(∀ s' af U',K s'->GRel P B0 F0 D0 s' af U'->R af U')->Zp (Q2 P) ops env hs U pend R
 |[],_,s,env,U,B,F,pl,tb,hB,hG,_,_,_,_,_,_,_,_,_,_,_,_,K,h,R,hK=>hK s env U h ⟨B,F,pl,tb,hB,hG⟩
 |o0::r,fT,s,env,U,B,F,pl,tb,hB,hG,hl,chg,A,Rd,hs,pend,pd,hD,hp,cj,fk,aR,K,h,R,hK=>by
  have fb:∀ {n:Nat}{Z:Heap},B.Le Z->JP n Z pd->JP n Z pend:=λ{n Z} hb hv=>YP λc hc hn=>(hp c hc).elim (λh=>h Z hb) λh=>Mh hv h hn;have snoc:∀ {Z:Heap}{A':List (Nat×Option Nat)},B.Le Z->(∀ j,Dv A' j=true->Dv A j=true)->∀ j Z',(hs++[Z])[j]?=some Z'->Dv A' j=true->B.Le Z':=λ{Z A'} hb hA j Z' hm hn=>by
   rcases Jr hm with⟨_,h1⟩|⟨_,rfl⟩
   .exact cj j Z' h1 (hA j hn)
   .exact hb
  have cz:∀ o∈r,o.kind=o.op.kind:=λo' fg=>fT o' (zi _ fg);have mw:=fT o0 zq;unfold Xg at h;split at h
  .rename_i bg;have hw:=KG hG bg;simp only[Zp];rw[hw];refine⟨λe=>(by cases e),λ_=>?_⟩;have bm:=hG.put o0.dst (show SR P B pl tb .any undef by simp[SR]);by_cases av:o0.kind=2
   .rw[z8 av] at h |-;obtain⟨k1,k2⟩:=hD.stay;exact⟨fb hG.leB k1,Qp aA r cz hB bm (by rw[Z8];exact k2) hp (snoc hG.leB λ_ h=>h) (by omega) (by omega) h hK⟩
   .rw[zd av] at h |-;exact Qp aA r cz hB bm (by rw[Z8];exact hD) hp cj fk aR h hK
  have bU:(AX s.env o0).kind=(AX s.env o0).op.kind:=by unfold AX;split<;>exact mw
  have dp:Zp (Q2 P) (AX s.env o0::r) env hs U pend R->Zp (Q2 P) (o0::r) env hs U pend R:=λhv=>by
   unfold AX at hv;split at hv
   .rename_i bg;simp only[Zp] at hv |-;rw[KG hG bg];exact hv
   .exact hv
  refine dp ?_;clear dp;generalize AX s.env o0=o at h bU |-
  replace h:=id h
  simp only[Zp];by_cases av:o.kind=2
  .rw[z8 av] at h
   have fin:∀ {u:Value}{U':Heap}{ts:List Nat}{v:SV}{s':St}{pl':Nat->Value},(∀ R',R' u U'->vop (Q2 P) o.op env U R')->Xg C r (s'.put o.dst v) (hl+1) (bif ts.isEmpty then chg else hl) (ts.map (λt=>(hl-1,some t))++A) (bif ts.isEmpty then Rd else Rd.map λr=>(r.1,none)) K->Gam P B F pl' tb s' env U'->SR P B pl' tb v u->(ts=[]->U'=U/\pl'=pl/\s'=s)->U.Le U'->Dead U U'->FrL ts s s' pl pl' U U' ->
     Gx (λR=>vop (Q2 P) o.op env U R) λv U'=>JP hs.length U' pend/\Zp (Q2 P) r (X0 env o.dst v) (hs++[U']) U' pend R:=λ{u U' ts v s' pl'} bL oO bq iJ he hle hd cY=>by
    cases ts with
    |nil =>obtain⟨rfl,rfl,rfl⟩:=he rfl;obtain⟨k1,k2⟩:=hD.stay;exact⟨u,U',bL _ ⟨rfl,rfl⟩,fb bq.leB k1,Qp aA r cz (MI hB hd) (bq.put o.dst iJ) (by rw[Z8];exact k2) hp (snoc bq.leB λ_ h=>h) (by simp only[List.isEmpty,zl] at *;omega) (by omega) oO hK⟩
    |cons t ts =>obtain⟨k1,k2⟩:=hD.call hle cY aR;exact⟨u,U',bL _ ⟨rfl,rfl⟩,fb bq.leB k1,Qp aA r cz (MI hB hd) (bq.put o.dst iJ) (by rw[Z8];exact k2) hp (snoc bq.leB λ_ h=>Hf h) (by simp only[List.isEmpty,zS] at *;omega) (by omega) oO hK⟩
   split at h
   .rename_i f args bL;split at h
    .rename_i hg;rw[hg];refine⟨λ_=>?_,λe=>by cases e⟩;rw[z8 av]
     have oQ:∀ {K':List Nat->SV->St->Prop},MF C (C.off+o.dst.getD 0) (.fn f [] []) (Bv s.own (args.map (gev [] s.env))) s K'->(∀ ts v s',K' ts v s'->Xg C r (s'.put o.dst v) (hl+1) (bif ts.isEmpty then chg else hl) (ts.map (λt=>(hl-1,some t))++A) (bif ts.isEmpty then Rd else Rd.map λr=>(r.1,none)) K) ->
       Gx (λR=>vop (Q2 P) o.op env U R) λv U'=>JP hs.length U' pend/\Zp (Q2 P) r (X0 env o.dst v) (hs++[U']) U' pend R:=λ{K'} h rf=>by
      obtain⟨g,a,b,u,U',e,v,s',pl',h1,h2,h3,h4,h5,h6,h7,h8,h9⟩:=XW aA hG h (show SR P U Jg Zh (.fn f [] []) (.func (.func f) #[] #[]) by simp only[SR,SRs];exact⟨[],[],rfl,rfl,rfl⟩) (hG.gcall Gds.nil args);obtain⟨rfl,rfl,rfl⟩:=(by simpa using h1:f=g/\#[]=a/\#[]=b);refine fin (u:=u) (U':=U') (λR' hr=>?_) (rf _ _ _ h3) h4 h5 h6 h7 h8 h9;rw[bL];show VCalled P f (args.map (Q3 env)) U R';have:=h2.mono (R':=R') λu' aE ⟨e1,e2⟩=>by subst e1;subst e2;exact hr
      simpa using this
     split at h
     .rename_i x hx;split at h
      .rename_i jf uT;split at h
       .rename_i tt uU;cases ie:(waits o.dst.toList r&&Aq false Rd hl [tt]) with
        |false=>rw[ie] at h;exact h.elim
        |true =>rw[ie] at h;simp only[zl] at h;rw[z7] at ie;refine .inr ⟨ie.1,?_⟩;rw[bL];show VCalled P f (args.map (Q3 env)) U _;refine aA.xf f jf uT x hx B F pl tb s env U _ _ _ _ _ tt hG (SRs.map λx _=>hG.evs Gds.nil x) uU h λv s' u U' k1 k2 k3 k4 k5=>?_;obtain⟨q1,q2⟩:=hD.writeD k5 (mk:=false) (λh=>by cases h) ie.2 aR;exact⟨fb k3.leB q1,Qp aA r cz (MI hB k2) (k3.put o.dst k4) (by rw[Z8];exact q2) hp (snoc k3.leB λ_ h=>Hq h) (by omega) (by omega) k1 hK⟩
       .exact h.elim
      .cases ie:(waits o.dst.toList r&&Rd.all (λq=>Nat.blt q.1 hl)) with
       |false=>rw[ie] at h;simp only[zS] at h;exact .inl (oQ h λ_ _ _ h=>h)
       |true =>
        rw[ie] at h;simp only[zl] at h;rw[z7] at ie;refine .inr ⟨ie.1,?_⟩;rw[bL];show VCalled P f (args.map (Q3 env)) U _;have ax:∀ args:List Operand,SRs P B pl tb (args.map (gev [] s.env)) (args.map (Q3 env)):=λargs=>SRs.map λx _=>hG.evs Gds.nil x;refine aA.xs f x hx B F pl tb s env U _ _ _ _ _ hG (ax args) h λv s' B' F' pl' tb' u U' k1 k2 k3 k4=>?_;have ae:∀ c∈pd,c.1<hl:=λc hc=>by
         rcases hD.pend c hc with h1|⟨q,h1,h2,_⟩
         .exact h1
         .have:=zg.1 ie.2 q h1;rw[zM] at this;omega
        have lh:JP hs.length U' pd:=YP λc hc hle=>by have:=ae c hc;have:=hD.len;omega
        have rh:JP hs.length U' pend:=YP λc hc hn=>(hp c hc).elim (λh=>h U' (k2.b.trans k3.leB)) λh=>Mh lh h hn;refine⟨rh,Qp aA r cz (hB.trans k2) (k3.put o.dst k4) (pd:=pd) ⟨by simp[hD.len],λj Z hj ht=>?_,λc hc=>.inl (by have:=ae c hc;omega),λj Z q i ht hu cw hi=>?_⟩ (λc hc=>(hp c hc).imp (λh Z hτ=>h Z (k2.b.trans hτ)) id) (λj Z ht hn=>?_) (by omega) (by omega) k1 hK⟩
        .rcases Jr ht with⟨h1,_⟩|⟨_,h1⟩
         .rw[hD.len] at h1;omega
         .exact h1
        .rcases Jr ht with⟨h1,_⟩|⟨_,h1⟩
         .exfalso;rw[hD.len] at h1;simp only[Z9,zW,z7,zC,zM,zD,or_false] at hu;omega
         .rw[h1]
        .rcases Jr ht with⟨h1,_⟩|⟨_,h1⟩
         .exfalso;rw[hD.len] at h1;simp only[Dv,zW,z7,zC,zM,Option.isSome_none,zD,or_false] at hn;omega
         .rw[h1];exact k3.leB
     .exact .inl (oQ h λ_ _ _ h=>h)
    .rename_i j want hg;rw[hg];split at h
     .exact h.elim
     .rename_i gs s1 eu;obtain⟨tb',bq,de,b,hw,bB,cA⟩:=XO hG eu;have aJ:=Y_ eu;rw[hw];split at h
      .rename_i cs v dQ;cases cR:Vk v with
       |false=>rw[cR] at h;exact h.elim
       |true =>
       rw[cR] at h;simp only[zl] at h;obtain⟨h1,h2⟩:=Zl h;obtain⟨k1,k2⟩:=hD.stay;have mn:∀ x,DSt (hs++[U]) U pd (hl+1) chg A Rd (s1.put o.dst x).own pl:=λx=>by rw[Z8,aJ];exact k2
       refine⟨λe=>?_,λe=>?_⟩
       .rw[z8 av];have hU:Gds tb' gs:=λg hg=>⟨bB e g hg,de g hg⟩;have my:∀ {v u},SR P B pl tb' v u->SR P B pl tb' (.grd gs (Dp v)) u:=λ{v u} hs=>by
         simp only[SR];obtain⟨h1,h2⟩:=H6 hs;exact⟨⟨de,h2⟩,λ_=>h1,λ⟨g,hg,aB⟩=>absurd (bB e g hg) aB⟩
        simp only[gqc] at dQ;split at dQ
        .rename_i c v' heq;cases bY:v'.ret 0 with
         |false=>rw[bY] at dQ;cases dQ
         |true =>
          rw[bY] at dQ;obtain⟨rfl,rfl⟩:=QP dQ;obtain⟨g,a,b',h3,h4,_⟩:=ZL aA.cs (show SR P U Jg Zh (.fn f [] []) (.func (.func f) #[] #[]) by simp only[SR,SRs];exact⟨[],[],rfl,rfl,rfl⟩) (bq.gcall hU args) heq bY rfl (h2 (bB e) _ (by simp));obtain⟨rfl,rfl,rfl⟩:=(by simpa using h3:f=g/\#[]=a/\#[]=b');refine .inl ⟨Vm Jg v',U,?_,fb hG.leB k1,Qp aA r cz hB (bq.put o.dst (my ?_)) (mn _) hp (snoc hG.leB λ_ h=>h) (by omega) (by omega) (Zg h1) hK⟩
          .rw[bL];show VCalled P f (args.map (Q3 env)) U _;have:=h4.mono (R':=λu U'=>u=Vm Jg v'/\U'=U) λu U' hr=>by
            obtain⟨rfl,hu⟩:=hr.flat bY;exact⟨VW v' u bY cR hu,rfl⟩
           simpa using this
          .exact SR.retd (λj hj=>by omega) _ _ bY (Re (P:=P) (pl:=Jg) (m:=0) (λj hj=>by omega) v' bY cR)
        .cases dQ
       .rw[z8 av];obtain⟨g,dV,aB⟩:=cA e;exact⟨fb hG.leB k1,Qp aA r cz hB (bq.put o.dst (by simp only[SR];exact⟨⟨de,H3 v⟩,λae=>absurd (ae g dV) aB,λ_=>trivial⟩)) (mn _) hp (snoc hG.leB λ_ h=>h) (by omega) (by omega) (Zg h1) hK⟩
      .split at h
       .rename_i cs v lF;obtain⟨c,ty,k,xs,nl,heq,rfl,rfl,hk,dz⟩:=Th lF;obtain⟨h1,h2⟩:=Zl h;have frz:∀ {B' U':Heap},B'.Le U'->∀ j Z',(hs++[U'])[j]?=some Z'->Dv ((hl-1,none)::A) j=true->B'.Le Z':=λ{B' U'} hb j Z' hm hn=>by
         rcases Jr hm with⟨h1,_⟩|⟨_,rfl⟩
         .simp only[Dv,zW,z7,zC,zM,Option.isSome_none,zD,or_false] at hn;have:=hD.len;omega
         .exact hb
        refine⟨λe=>?_,λe=>?_⟩
        .rw[z8 av];have hU:Gds tb' gs:=λg hg=>⟨bB e g hg,de g hg⟩;have fZ:=h2 (bB e) c (by simp);have iF:=h2 (bB e) (nl=true->xs=[]) (by simp);have eu:MF C (C.off+o.dst.getD 0) (.fn f [] []) (Bv s1.own (args.map (gev gs s1.env))) s1 (λts v' s'=>ts=[C.off+o.dst.getD 0]/\v'=.lst (C.off+o.dst.getD 0)/\s'=s1.make (C.off+o.dst.getD 0) (.lst ty k xs nl)):=by
          unfold MF;rw[heq];dsimp only;have ak:(SV.ret [OB.lst ty k xs nl].length (.lst 0)&&([OB.lst ty k xs nl].all OB.ret&&(Nat.blt 0 C.nt&&([OB.lst ty k xs nl].all OB.isL&&Vk (.lst 0)))))=true:=by simp only[SV.ret,xp,zW,List.all_nil,xZ,OB.ret,hk,Bool.true_and,OB.isL,Vk];rw[z7];exact⟨rfl,by rw[zM];exact dz⟩
          rw[ak];simp only[zl,FB,OB.wf];refine⟨fZ,iF,?_,?_,?_⟩
          .simp[List.range_succ]
          .simp[SV.ren]
          .simp[St.makes]
         obtain⟨g,a,b',u,U',ts,v',s',pl',h3,h4,⟨rfl,rfl,rfl⟩,h5,h6,_,h7,h8,h9⟩:=XW aA bq eu (show SR P U Jg Zh (.fn f [] []) (.func (.func f) #[] #[]) by simp only[SR,SRs];exact⟨[],[],rfl,rfl,rfl⟩) (bq.gcall hU args);obtain⟨rfl,rfl,rfl⟩:=(by simpa using h3:f=g/\#[]=a/\#[]=b');obtain⟨B',F',m1,m2,m3⟩:=RR bq.bf hk h5 h6 h8;have cY:FrL [C.off+o.dst.getD 0] s ((s1.make (C.off+o.dst.getD 0) .dead).put o.dst (.grd gs (.val (.list k) xs))) pl pl' U U':=λq hq=>by obtain⟨f1,f2,f3⟩:=h9 q hq;rw[aJ] at f3;refine⟨?_,f2,f3⟩;rw[Z8,Vw _ _ _ (by simpa using hq),aJ]
         obtain⟨k1,k2⟩:=hD.call h7 cY aR;refine .inl ⟨u,U',?_,fb (m1.b.trans m2.leB) k1,Qp aA r cz (hB.trans m1) (m2.put o.dst ?_) k2.frozen (λc hc=>(hp c hc).imp (λh Z hτ=>h Z (m1.b.trans hτ)) id) (frz m2.leB) (by omega) (by omega) h1 hK⟩
         .rw[bL];show VCalled P f (args.map (Q3 env)) U _;simpa using h4
         .simp only[SR];exact⟨⟨de,trivial⟩,λ_=>m3,λ⟨g,hg,aB⟩=>absurd (bB e g hg) aB⟩
        .rw[z8 av];obtain⟨g,dV,aB⟩:=cA e;have cY:FrL [C.off+o.dst.getD 0] s ((s1.make (C.off+o.dst.getD 0) .dead).put o.dst (.grd gs (.val (.list k) xs))) pl (Jf pl (C.off+o.dst.getD 0) undef) U U:=λq hq=>by
          have cS:q≠C.off+o.dst.getD 0:=by simpa using hq
          refine⟨?_,by simp[Jf,cS],λ_ _ _=>rfl⟩;rw[Z8,Vw _ _ _ cS,aJ]
         obtain⟨k1,k2⟩:=hD.call (.refl U) cY aR;refine⟨fb hG.leB k1,Qp aA r cz hB ((bq.make (C.off+o.dst.getD 0) .dead undef bq.le (λ_ _ _ _ _=>rfl) trivial (λi hl _=>by cases hl)).put o.dst ?_) k2.frozen hp (frz hG.leB) (by omega) (by omega) h1 hK⟩;simp only[SR];exact⟨⟨de,trivial⟩,λae=>absurd (ae g dV) aB,λ_=>trivial⟩
       .exact h.elim
   .rename_i f args bL;split at h
    .rename_i hg;rw[hg];refine⟨λ_=>?_,λe=>by cases e⟩;rw[z8 av];refine .inl ?_;obtain⟨g,a,b,u,U',e,v,s',pl',h1,h2,h3,h4,h5,h6,h7,h8,h9⟩:=XW aA hG h (hG.gfun Gds.nil f) (hG.gcall Gds.nil args);refine fin (u:=u) (U':=U') (λR' hr=>?_) h3 h4 h5 h6 h7 h8 h9;rw[bL];exact NN h1 (h2.mono (R':=R') λu' aE ⟨e1,e2⟩=>by subst e1;subst e2;exact hr)
    .exact h.elim
   .exact h.elim
   .exact h.elim
   .rename_i ra nU rb iu;split at h
    .rename_i hg;rw[hg];refine⟨λ_=>?_,λe=>by cases e⟩;rw[z8 av];have aG:A9 o.op=false:=by
      cases ho:o.op<;>first|rfl|(exact absurd ho (ra _ _))|(exact absurd ho (nU _ _))|skip
      case ext x=>cases x<;>first|rfl|(exact absurd ho (rb _))|(exact absurd ho (iu _))
     cases lE:L3 C (o.dst.getD 0) o.op (gev [] s.env) with
     |true =>
      rw[lE] at h;simp only[zl] at h;cases hm:Aq (P0 o.op) Rd hl (S7 (C.off+o.dst.getD 0) o.op (gev [] s.env)) with
      |false=>rw[hm] at h;exact h.elim
      |true =>
       rw[hm] at h;simp only[zl] at h;obtain⟨u,U',pl',v,s',h1,h2,⟨h3,lC⟩,h4⟩:=Pc (λx=>hG.evs (Gds.nil (tb:=tb)) x) hG h;have gP:∀ R',R' u U'->vop (Q2 P) o.op env U R':=λR' hr=>by
        have:vop (Q2 P) o.op env U R'=QS (Q6 o.op (Q3 env) U) λp=>R' p.1 p.2:=by
         cases ho:o.op with
         |callF f a=>rw[ho] at aG;cases aG
         |callV f a=>rw[ho] at aG;cases aG
         |ext x =>
          cases x with
          |nextMap y=>rw[ho] at h1;cases h1
          |_=>rfl
         |_=>rfl
        rw[this,h1];exact hr
       obtain⟨k1,k2⟩:=hD.writeD lC (λcF=>Rk cF h1) hm aR;exact .inl ⟨u,U',gP _ ⟨rfl,rfl⟩,fb h3.leB k1,Qp aA r cz (MI hB (Ki h1)) (h3.put o.dst h4) (by rw[Z8];exact k2) hp (snoc h3.leB λ_ h=>Hf h) (by omega) (by omega) h2 hK⟩
     |false =>
     rw[lE] at h;simp only[zS] at h;cases hm:((P0 o.op&&Lm Rd hl (QE (C.off+o.dst.getD 0) o.op (gev [] s.env)))||Tk Rd hl (QE (C.off+o.dst.getD 0) o.op (gev [] s.env))||(Tn o.op&&Q61 Rd hl (QE (C.off+o.dst.getD 0) o.op (gev [] s.env)))) with
     |false=>rw[hm] at h;exact h.elim
     |true =>
      rw[hm] at h;simp only[zl] at h;obtain⟨u,U',pl',v,s',h1,h2,⟨h3,lC⟩,h4,hE⟩:=FG hG h aG;have gP:∀ R',R' u U'->vop (Q2 P) o.op env U R':=λR' hr=>by
       have:vop (Q2 P) o.op env U R'=QS (Q6 o.op (Q3 env) U) λp=>R' p.1 p.2:=by
        cases ho:o.op with
        |callF f a=>rw[ho] at aG;cases aG
        |callV f a=>rw[ho] at aG;cases aG
        |ext x =>
         cases x with
         |nextMap y=>rw[ho] at h1;cases h1
         |_=>rfl
        |_=>rfl
       rw[this,h1];exact hr
      obtain⟨k1,k2⟩:=hD.write lC (λcF=>Rk cF h1) hE hm aR;exact .inl ⟨u,U',gP _ ⟨rfl,rfl⟩,fb h3.leB k1,Qp aA r cz (MI hB (Ki h1)) (h3.put o.dst h4) (by rw[Z8];exact k2) hp (snoc h3.leB λ_ h=>Hq h) (by omega) (by omega) h2 hK⟩
    .exact h.elim
  .rw[zd av] at h;have mz:o.op.kind≠2:=by rw[<-bU];exact av
   by_cases bw:o.kind=1
   .rw[z8 bw] at h
    have rd:∀ (rq:Option Nat),(∀ q,rq=some q->NK o.op (gev [] s.env) s.own=some q)->(Nat.ble chg o.kmin||Pn A o.kmin rq)=true->gd1 C o s (λs'=>Xg C r s' hl chg A ((o.kmax,rq)::Rd) K) ->
      QS (J3 env o.guard) λb=>vif b (if o.kind=2 then (Gx (λR=>vop (Q2 P) o.op env U R) λv U'=>JP hs.length U' pend/\Zp (Q2 P) r (X0 env o.dst v) (hs++[U']) U' pend R)\/(waits o.dst.toList r=true/\vop (Q2 P) o.op env U λv U'=>JP hs.length U' pend/\Zp (Q2 P) r (X0 env o.dst v) (hs++[U']) U' pend R)
       else if o.kind=1 then QS (Q6 o.op (Q3 env) U) λp=>(∀ Z∈hs.drop o.kmin,JV o.op (Q3 env) p.1 Z) /\
        Zp (Q2 P) r (X0 env o.dst p.1) hs U (if hs.length<=o.kmax then (o.kmax,JV o.op (Q3 env) p.1)::pend else pend) R
       else QS (Q6 o.op (Q3 env) U) λp=>Zp (Q2 P) r (X0 env o.dst p.1) hs U pend R)
      (if o.kind=2 then JP hs.length U pend/\Zp (Q2 P) r (X0 env o.dst undef) (hs++[U]) U pend R else Zp (Q2 P) r (X0 env o.dst undef) hs U pend R):=λrq oP hc h=>by
     obtain⟨b,hw,h1,h2⟩:=VT hG h;rw[hw];have mA:DSt hs U pd hl chg A ((o.kmax,rq)::Rd) s.own pl:=⟨hD.len,hD.same,λc hc=>(hD.pend c hc).imp id λ⟨r,k1,k2⟩=>⟨r,zi _ k1,k2⟩,hD.fr⟩;refine⟨λe=>?_,λe=>?_⟩
     .obtain⟨u,s',tb',h3,h4,aJ,h5⟩:=h1 e;rw[zd av,z8 bw,h3];refine⟨λZ hτ=>?_,?_⟩
      .obtain⟨j,hj⟩:=xn.1 hτ;rw[zz] at hj;rw[zC] at hc;rcases hc with hc|hc
       .have:=hD.same (o.kmin+j) Z (by have:=zG hc;omega) hj;subst this;exact ZM h3
       .unfold Pn at hc;split at hc
        .rename_i q;obtain⟨k1,i,bl,k2,k3,k4,k5⟩:=YD hG (oP q rfl) h3;have hu:Z9 A (o.kmin+j) (q / 2)=true:=by
          simp only[Z9,zg,zC,zM] at hc |-;exactλa ha=>(hc a ha).imp (λh=>by omega) id
         have:=hD.fr (o.kmin+j) Z (q / 2) i hj hu k1 k2;exact ZM (k4 Z (by rw[this];exact k3))
        .cases hc
      .by_cases hle:hs.length<=o.kmax
       .rw[z8 hle];refine Qp aA r cz hB h5 (A:=A) (Rd:=(o.kmax,rq)::Rd) (hl:=hl) (chg:=chg) (pd:=(o.kmax,JV o.op (Q3 env) u)::pd) ?_ (λc hc=>?_) cj fk aR h4 hK
        .rw[aJ];refine⟨hD.len,hD.same,λc hc=>?_,hD.fr⟩;rcases zo.1 hc with rfl|hc
         .refine .inr ⟨_,zq,zf _,?_⟩;cases rq with
          |none=>exactλZ hτ=>ZM (Pr mz h3 hτ)
          |some q =>obtain⟨k1,i,bl,k2,k3,k4,k5⟩:=YD hG (oP q rfl) h3;exact⟨k1,i,bl,k2,k3,λZ ht=>ZM (k4 Z ht),λho=>(let ⟨es,c,wr,x1,x2⟩:=k5 ho;⟨es,c,wr,x1,λZ b7 c' hl ht=>ZM (x2 Z b7 c' hl ht)⟩)⟩
         .exact mA.pend c hc
        .rcases zo.1 hc with rfl|hc
         .exact .inr zq
         .exact(hp c hc).imp id λh=>zi _ h
       .rw[zd hle];exact Qp aA r cz hB h5 (A:=A) (Rd:=(o.kmax,rq)::Rd) (hl:=hl) (chg:=chg) (pd:=pd) (by rw[aJ];exact mA) hp cj fk aR h4 hK
     .obtain⟨s',tb',h4,aJ,h5⟩:=h2 e;rw[zd av];exact Qp aA r cz hB h5 (by rw[aJ];exact mA) hp cj fk aR h4 hK
    have ro:Dv A o.kmin=true->(∀ u,Q6 o.op (Q3 env) U=some (u,U)->(J3 env o.guard=some true)->∀ Z,B.Le Z->Q6 o.op (Q3 env) Z=some (u,Z))->gd1 C o s (λs'=>Xg C r s' hl chg A Rd K) ->
      QS (J3 env o.guard) λb=>vif b (if o.kind=2 then (Gx (λR=>vop (Q2 P) o.op env U R) λv U'=>JP hs.length U' pend/\Zp (Q2 P) r (X0 env o.dst v) (hs++[U']) U' pend R)\/(waits o.dst.toList r=true/\vop (Q2 P) o.op env U λv U'=>JP hs.length U' pend/\Zp (Q2 P) r (X0 env o.dst v) (hs++[U']) U' pend R)
       else if o.kind=1 then QS (Q6 o.op (Q3 env) U) λp=>(∀ Z∈hs.drop o.kmin,JV o.op (Q3 env) p.1 Z) /\
        Zp (Q2 P) r (X0 env o.dst p.1) hs U (if hs.length<=o.kmax then (o.kmax,JV o.op (Q3 env) p.1)::pend else pend) R
       else QS (Q6 o.op (Q3 env) U) λp=>Zp (Q2 P) r (X0 env o.dst p.1) hs U pend R)
      (if o.kind=2 then JP hs.length U pend/\Zp (Q2 P) r (X0 env o.dst undef) (hs++[U]) U pend R else Zp (Q2 P) r (X0 env o.dst undef) hs U pend R):=λkB bQ h=>by
     obtain⟨b,hw,h1,h2⟩:=VT hG h;rw[hw];refine⟨λe=>?_,λe=>?_⟩
     .obtain⟨u,s',tb',h3,h4,aJ,h5⟩:=h1 e;have bQ:=bQ u h3 (by rw[hw,e]);rw[zd av,z8 bw,h3];refine⟨λZ hτ=>?_,?_⟩
      .obtain⟨j,hj⟩:=xn.1 hτ;rw[zz] at hj;refine ZM (bQ Z (cj _ Z hj ?_));simp only[Dv,zg,zC,zM] at kB |-;exactλa ha=>(kB a ha).imp (λh=>by omega) id
      refine Qp aA r cz hB h5 (A:=A) (Rd:=Rd) (hl:=hl) (chg:=chg) (pd:=pd) (by rw[aJ];exact hD) (λc hc=>?_) cj fk aR h4 hK;split at hc
      .rcases zo.1 hc with rfl|hc
       .exact .inl λZ hτ=>ZM (bQ Z hτ)
       .exact hp c hc
      .exact hp c hc
     .obtain⟨s',tb',h4,aJ,h5⟩:=h2 e;rw[zd av];exact Qp aA r cz hB h5 (by rw[aJ];exact hD) hp cj fk aR h4 hK
    split at h
    .rename_i hg;cases hr:(Q67 o.op (gev [] s.env)&&Dv A o.kmin) with
     |true =>rw[hr] at h;rw[z7] at hr;exact ro hr.2 (λu hu _=>Mf hG Gds.nil hr.1 hu) h
     |false =>
     rw[hr] at h;simp only[zS] at h;cases hb:(Nat.ble chg o.kmin||Pn A o.kmin (NK o.op (gev [] s.env) s.own)) with
     |false=>rw[hb] at h;exact h.elim
     |true =>rw[hb] at h;exact rd _ (λq hq=>hq) hb h
    .rename_i j want hg;cases hr:(FI s j want o.op&&Dv A o.kmin) with
     |true =>
      rw[hr] at h;rw[z7] at hr;obtain⟨hr,kB⟩:=hr;refine ro kB (λu hu hw=>?_) h;unfold FI at hr;split at hr
      .rename_i gs s1 eu;obtain⟨tb',bq,de,b,dw,bB,cA⟩:=XO hG eu;rw[hg,dw] at hw;have e:=osj hw;exact Mf bq (λg hg=>⟨bB e g hg,de g hg⟩) hr hu
      .cases hr
     |false =>
     rw[hr] at h;simp only[zS] at h;cases hb:Nat.ble chg o.kmin with
     |false=>rw[hb] at h;exact h.elim
     |true =>rw[hb] at h;exact rd none (λq hq=>by cases hq) (by rw[hb];rfl) h
   .rw[zd bw] at h;obtain⟨b,hw,h1,h2⟩:=VT hG h;rw[hw];refine⟨λe=>?_,λe=>?_⟩
    .obtain⟨u,s',tb',h3,h4,aJ,h5⟩:=h1 e;rw[zd av,zd bw,h3];exact Qp aA r cz hB h5 (by rw[aJ];exact hD) hp cj fk aR h4 hK
    .obtain⟨s',tb',h4,aJ,h5⟩:=h2 e;rw[zd av];exact Qp aA r cz hB h5 (by rw[aJ];exact hD) hp cj fk aR h4 hK
def Vl (pl:Nat->Value) (mp:List (Nat×Option Nat)):Nat->Value:=λt=>match Qq mp t with
 |some (some a)=>pl a
 |_=>.slice none 0 0
theorem Sm {h:Heap}{k k':Kind}{x:k.T}{y:k'.T}(e:MO x y) {cs:List Value}(hk:KC h k' y cs):KC h k x cs:=by
 unfold MO at e;split at e
 .rename_i z hz;obtain rfl:=TS hz;obtain rfl:=Tg hz;subst e;exact hk
 .exact e.elim
mutual
theorem WV {B:Heap}{pl:Nat->Value}{tb:Nat->Option Bool}{mp:List (Nat×Option Nat)}:∀ (p a:SV) (v:Value),Bo mp p a->SR P B pl tb a v->SR P B (Vl pl mp) Zh p v
 |.any,a,v,_,_=>trivial
 |.val k x,a,v,h,hs=>by
  simp only[Bo] at h;split at h
  .simp only[SR] at hs |-;exact Sm h hs
  .simp only[SR] at hs |-;exact Sm h (by simp[KC,hs.1])
  .split at h
   .subst h;simp only[SR] at hs |-;subst hs;exact⟨_,rfl,.inl ⟨rfl,rfl⟩⟩
   .exact h.elim
  .exact h.elim
 |.lst t,a,v,h,hs=>by
  simp only[Bo] at h;split at h
  .split at h
   .rename_i e;simp only[SR,Vl,e] at hs |-;exact hs
   .exact h.elim
  .split at h
   .rename_i e;simp only[SR,Vl,e] at hs |-;exact⟨hs,_,_,_,hs⟩
   .exact h.elim
  .exact h.elim
 |.box t off,a,v,h,hs=>by
  simp only[Bo] at h;split at h
  .split at h
   .rename_i e;obtain⟨e,rfl⟩:=e;simp only[SR,Vl,e] at hs |-;exact hs
   .exact h.elim
  .exact h.elim
 |.map t,a,v,h,hs=>by
  simp only[Bo] at h;split at h
  .split at h
   .rename_i e;simp only[SR,Vl,e] at hs |-;exact hs
   .exact h.elim
  .exact h.elim
 |.dd t w,a,v,h,hs=>by
  simp only[Bo] at h;split at h
  .split at h
   .simp only[SR] at hs |-;simp only[DR];exact .inl ⟨h,hs⟩
   .split at h
    .rename_i e;obtain⟨e,rfl⟩:=e;simp only[SR,DR,Vl,e] at hs |-;obtain⟨b,h1,h2⟩:=hs;exact .inr ⟨h,b,by rw[h1];rfl,h2⟩
    .exact h.elim
   .split at h
    .split at h
     .rename_i e;subst h;simp only[SR,DR,Vl,e] at hs |-;exact hs
     .exact h.elim
    .exact h.elim
   .exact h.elim
  .split at h
   .split at h
    .split at h
     .rename_i e;simp only[SR,Vl,e] at hs |-;exact hs
     .exact h.elim
    .exact h.elim
   .exact h.elim
  .split at h
   .split at h
    .split at h
     .rename_i e;simp only[SR,Vl,e] at hs |-;exact hs
     .exact h.elim
    .exact h.elim
   .split at h
    .rename_i e;simp only[SR,Vl,e] at hs |-;exact⟨hs,_,_,_,hs⟩
    .exact h.elim
   .exact h.elim
  .exact h.elim
 |.agg l,a,v,h,hs=>by
  simp only[Bo] at h;split at h
  .rename_i l';simp only[SR] at hs |-;obtain⟨cs,h1,h2⟩:=hs;exact⟨cs,h1,QV l l' cs h h2⟩
  .exact h.elim
 |.tup l,a,v,h,hs=>by
  simp only[Bo] at h;split at h
  .rename_i l';simp only[SR] at hs |-;obtain⟨cs,h1,h2⟩:=hs;exact⟨cs,h1,QV l l' cs h h2⟩
  .exact h.elim
 |.fn f x y,a,v,h,hs=>by
  simp only[Bo] at h;split at h
  .split at h
   .rename_i e;subst e;simp only[SR] at hs |-;obtain⟨cs,ds,h1,h2,h3⟩:=hs;exact⟨cs,ds,h1,QV x _ cs h.1 h2,QV y _ ds h.2 h3⟩
   .exact h.elim
  .exact h.elim
 |.nilS,a,v,h,hs=>by
  simp only[Bo] at h;split at h
  .simp only[SR] at hs |-;exact hs
  .exact h.elim
 |.nilP,a,v,h,hs=>by
  simp only[Bo] at h;split at h
  .simp only[SR] at hs |-;exact hs
  .exact h.elim
 |.nilM,a,v,h,hs=>by
  simp only[Bo] at h;split at h
  .simp only[SR] at hs |-;exact hs
  .exact h.elim
 |.nilF,a,v,h,hs=>by
  simp only[Bo] at h;split at h
  .simp only[SR] at hs |-;exact hs
  .exact h.elim
 |.cp l off,a,v,h,hs=>by
  simp only[Bo] at h;cases ri:SVs.pure l with
  |true =>rw[ri] at h;simp only[zl] at h;obtain⟨rfl,_⟩:=h;simp only[SR] at hs |-;obtain⟨b,c,e,wr,t,h1,h2,h3⟩:=hs;exact⟨b,c,e,wr,t,h1,h2,QF l c ri h3⟩
  |false =>
   rw[ri] at h;simp only[zS] at h;split at h
   .split at h
    .rename_i l' dO he;subst he;simp only[SR] at hs |-;obtain⟨b,c,e,wr,t,h1,h2,h3⟩:=hs;exact⟨b,c,e,wr,t,h1,h2,QV l l' c h h3⟩
    .exact h.elim
   .exact h.elim
 |.pf ks r c_ p,a,v,h,hs=>by simp only[Bo] at h;subst h;simp only[SR] at hs |-;exact hs
 |.sub t lo n sz,a,v,h,hs=>by
  simp only[Bo] at h;split at h
  .split at h
   .rename_i e;obtain⟨rfl,rfl,rfl⟩:=h;simp only[SR,Vl,e] at hs |-;exact hs
   .exact h.elim
  .exact h.elim
 |.elp _ _ _ _,_,_,h,_|.grd _ _,_,_,h,_|.bid _ _,_,_,h,_|.rop _ _ _ _,_,_,h,_=>by simp only[Bo] at h
theorem QV {B:Heap}{pl:Nat->Value}{tb:Nat->Option Bool}{mp:List (Nat×Option Nat)}:∀ (p a:List SV) (v:List Value),VO mp p a->SRs P B pl tb a v->SRs P B (Vl pl mp) Zh p v
 |[],a,v,h,hs=>by simp only[VO] at h;subst h;exact hs
 |s::ss,[],v,h,hs=>by simp only[VO] at h
 |s::ss,a::bT,v,h,hs=>by simp only[VO] at h;simp only[SRs] at hs |-;obtain⟨x,y,h1,h2,h3⟩:=hs;exact⟨x,y,h1,WV s a x h.1 h2,QV ss bT y h.2 h3⟩
theorem Ty {B:Heap}{pl pl':Nat->Value}{tb tb':Nat->Option Bool}:∀ (s:SV) (v:Value),s.pure=true->SR P B pl tb s v->SR P B pl' tb' s v
 |.any,v,_,_=>trivial
 |.val k x,v,_,h=>by simp only[SR] at h |-;exact h
 |.nilS,v,_,h|.nilP,v,_,h|.nilM,v,_,h|.nilF,v,_,h=>by simp only[SR] at h |-;exact h
 |.rop k l i off,v,_,h=>by simp only[SR] at h |-;exact h
 |.pf ks r c_ p,v,_,h=>by simp only[SR] at h |-;exact h
 |.agg l,v,hp,h=>by simp only[SR] at h |-;obtain⟨cs,h1,h2⟩:=h;exact⟨cs,h1,QF l cs hp h2⟩
 |.tup l,v,hp,h=>by simp only[SR] at h |-;obtain⟨cs,h1,h2⟩:=h;exact⟨cs,h1,QF l cs hp h2⟩
 |.cp l off,v,hp,h=>by simp only[SR] at h |-;obtain⟨b,c,e,wr,t,h1,h2,h3⟩:=h;exact⟨b,c,e,wr,t,h1,h2,QF l c hp h3⟩
 |.fn f a b,v,hp,h=>by simp only[SV.pure,z7] at hp;simp only[SR] at h |-;obtain⟨x,y,h1,h2,h3⟩:=h;exact⟨x,y,h1,QF a x hp.1 h2,QF b y hp.2 h3⟩
 |.lst _,_,h,_|.sub _ _ _ _,_,h,_|.elp _ _ _ _,_,h,_|.box _ _,_,h,_|.map _,_,h,_|.grd _ _,_,h,_|.bid _ _,_,h,_=>by cases h
theorem QF {B:Heap}{pl pl':Nat->Value}{tb tb':Nat->Option Bool}:∀ (s:List SV) (v:List Value),SVs.pure s=true->SRs P B pl tb s v->SRs P B pl' tb' s v
 |[],v,_,h=>by simp only[SRs] at h |-;exact h
 |s::ss,v,hp,h=>by simp only[SVs.pure,z7] at hp;simp only[SRs] at h |-;obtain⟨x,y,h1,h2,h3⟩:=h;exact⟨x,y,h1,Ty s x hp.1 h2,QF ss y hp.2 h3⟩
end
end
end Go.V
namespace Go.V
open Go
section
variable {P:Program}{B F:Heap}{pl:Nat->Value}{tb:Nat->Option Bool}{s:St}{env:Env}{U:Heap}
theorem Uo {k k':Kind}{xs:List k.T}{ys:List k'.T}(h:MO (k:=.list k) xs (k':=.list k') ys):∃ e:k'=k,e▸ys=xs:=by
 unfold MO at h;split at h
 .rename_i z hz;have e:=TS hz;obtain rfl:=Kind.list.inj e;obtain rfl:=Tg hz;exact⟨rfl,h⟩
 .exact h.elim
theorem QC (hG:Gam P B F pl tb s env U) {mp:List (Nat×Option Nat)}{t:Nat}{b:OB}(h:EA s mp t b) :
  OR P B (Vl pl mp) Zh U (Vl pl mp t) b/\(b.live=true->∀ i,Oid (Vl pl mp t) i->∃ a,Qq mp t=some (some a)/\(Q8 s.own a).live=true/\Oid (pl a) i):=by
 unfold EA at h;split at h
 .rename_i a ha;have aQ:Vl pl mp t=pl a:=by simp[Vl,ha]
  rw[aQ];have ao:=hG.obj a;split at h
  .exact⟨trivial,λh=>by cases h⟩
  .rename_i ty k xs nl gj k' cH kA ho;split at h
   .rename_i e;subst e;obtain⟨h1,rfl⟩:=h;obtain⟨rfl,rfl⟩:=Uo h1;rw[ho] at ao;exact⟨ao,λ_ i hi=>⟨a,ha,by rw[ho];rfl,hi⟩⟩
   .exact h.elim
  .rename_i l u l' u' ho;split at h
   .rename_i e0;subst e0;rw[ho] at ao;obtain⟨i,c,e,t',h1,h2,h3,h4⟩:=ao;exact⟨⟨i,c,e,t',h1,h2,QV l l' c h h3,h4⟩,λ_ i hi=>⟨a,ha,by rw[ho];rfl,hi⟩⟩
   .exact h.elim
  .rename_i kk vk m je ml m' ho;split at h
   .obtain⟨e,h1⟩:=Uo h;obtain⟨rfl,rfl⟩:=Kind.pair.inj e;subst h1;rw[ho] at ao;exact⟨ao,λ_ i hi=>⟨a,ha,by rw[ho];rfl,hi⟩⟩
   .exact h.elim
  .rename_i l vals l' lz ho;rw[ho] at ao;obtain⟨rfl,h⟩:=h;exact⟨QV l l' vals h ao,λh=>by cases h⟩
  .rename_i l q u l' q' u' ho;rw[ho] at ao;split at h
   .obtain⟨rfl,h⟩:=h;exact⟨⟨ao.1,QV l l' q.vals h ao.2.1,ao.2.2⟩,λ_ i hi=>⟨a,ha,by rw[ho];rfl,hi⟩⟩
   .obtain⟨rfl,h⟩:=h;exact⟨⟨ao.1,QV l l' q.vals h ao.2.1,ao.2.2⟩,λh=>by cases h⟩
   .exact h.elim
  .rename_i kk vk m dn je ml m' sE ho;split at h
   .obtain⟨h,rfl⟩:=h;obtain⟨e,h1⟩:=Uo h;obtain⟨rfl,rfl⟩:=Kind.pair.inj e;subst h1;rw[ho] at ao;exact⟨ao,λ_ i hi=>⟨a,ha,by rw[ho];rfl,hi⟩⟩
   .exact h.elim
  .rename_i ty q k xs nl h0 gj q' k' cH kA sg ho;split at h
   .rename_i e;obtain⟨rfl,rfl⟩:=e;split at h
    .obtain⟨h1,rfl⟩:=h;obtain⟨rfl,rfl⟩:=Uo h1;rw[ho] at ao;exact⟨ao,λ_ i hi=>⟨a,ha,by rw[ho];rfl,hi⟩⟩
    .exact h.elim
   .exact h.elim
  .exact h.elim
 .rename_i ha;have aQ:Vl pl mp t=.slice none 0 0:=by simp[Vl,ha]
  rw[aQ];split at h
  .exact⟨.inl ⟨h.2,h.1,rfl⟩,λ_ i hi=>by cases hi⟩
  .split at h
   .obtain⟨rfl,rfl⟩:=h;refine⟨⟨[],λi=>⟨λh=>(by cases h),λ⟨b,h⟩=>(by cases h)⟩,List.nodup_nil,.inl ⟨rfl,rfl,rfl⟩,λi=>⟨λ⟨b,h⟩=>(by cases h),λh=>(by cases h)⟩,(λi b h=>by cases h),by simp[phd]⟩,λ_ i hi=>by cases hi⟩
   .exact h.elim
  .exact h.elim
 .exact h.elim
theorem KY {α:Type _}(l:List (Nat×α)) (t:Nat) (x:α) (d:Nat):Qq (l++[(t,x)]) d=match Qq l d with|some y=>some y|none=>if t=d then some x else none:=by
 induction l with
 |nil =>
  simp only[xl,Qq];by_cases h:t=d
  .subst h;simp
  .rw[Zo h];simp[h]
 |cons p l ih =>obtain⟨k,y⟩:=p;simp only[xA,Qq,ih];cases Nat.beq k d<;>rfl
theorem Ln {α:Type _}{l:List (Nat×α)}{d:Nat}{x:α}(h:Qq l d=some x):∃ p∈l,p.1=d/\p.2=x:=by
 induction l with
 |nil=>cases h
 |cons p l ih =>
  obtain⟨k,y⟩:=p;simp only[Qq] at h;cases hb:Nat.beq k d with
  |true=>rw[hb] at h;obtain rfl:=osj h;exact⟨_,zq,zN hb,rfl⟩
  |false =>rw[hb] at h;obtain⟨p,h1,h2⟩:=ih h;exact⟨p,zi _ h1,h2⟩
def Inj (mp:List (Nat×Option Nat)):Prop:=∀ t t' a,Qq mp t=some (some a)->Qq mp t'=some (some a)->t=t'
theorem H4:∀ (l:List (Nat×Src)) (mp cm:List (Nat×Option Nat)),Q9h s l mp=some cm->Inj mp->Inj cm
 |[],mp,cm,h,hi=>by obtain rfl:=osj h;exact hi
 |(t,src)::r,mp,cm,h,hi=>by
  simp only[Q9h] at h;split at h
  .rename_i a _;split at h
   .cases h
   .rename_i hc;refine H4 r _ _ h ?_;have cY:∀ d,Qq mp d≠some (some a):=λd hd=>by
     obtain⟨p,h1,h2,h3⟩:=Ln hd;apply hc;simp only[zC];exact .inl (xF.2 ⟨p,h1,by rw[h3];simp⟩)
    intro t1 t2 a' h1 h2;rw[KY] at h1 h2;split at h1
    .rename_i y1 e1;split at h2
     .rename_i y2 e2;obtain rfl:=osj h1;obtain rfl:=osj h2;exact hi t1 t2 a' e1 e2
     .split at h2
      .obtain rfl:=osj (osj h2);obtain rfl:=osj h1;exact absurd e1 (cY t1)
      .cases h2
    .split at h1
     .rename_i e1;obtain rfl:=osj (osj h1);split at h2
      .rename_i y2 e2;obtain rfl:=osj h2;exact absurd e2 (cY t2)
      .split at h2
       .rename_i e2;omega
       .cases h2
     .cases h1
  .split at h
   .cases h
   .refine H4 r _ _ h ?_;intro t1 t2 a' h1 h2;rw[KY] at h1 h2;split at h1
    .rename_i y1 e1;split at h2
     .rename_i y2 e2;obtain rfl:=osj h1;obtain rfl:=osj h2;exact hi t1 t2 a' e1 e2
     .split at h2<;>cases h2
    .split at h1<;>cases h1
  .cases h
theorem RQ {mp:List (Nat×Option Nat)}:∀ {ow:List (Nat×Src×OB)},gmatch.obs s mp ow->∀ p∈ow,EA s mp p.1 p.2.2
 |[],_,p,hp=>by cases hp
 |(t,src,b)::r,h,p,hp=>by
  simp only[gmatch.obs] at h;rcases zo.1 hp with rfl|hp
  .exact h.1
  .exact RQ h.2 p hp
theorem VU {f:List (Nat×Src×OB)}:∀ (own:Own) (t:Nat),(∃ p∈f,p.1=t/\Q8 (f.foldl (λo p=>oset o p.1 p.2.2) own) t=p.2.2)\/Q8 (f.foldl (λo p=>oset o p.1 p.2.2) own) t=Q8 own t:=by
 induction f with
 |nil=>intro own t;exact .inr rfl
 |cons p f ih =>
  intro own t;simp only[w6];rcases ih (oset own p.1 p.2.2) t with⟨q,h1,h2⟩|h
  .exact .inl ⟨q,zi _ h1,h2⟩
  .rw[h,Qi];by_cases e:t=p.1
   .rw[z8 e];exact .inl ⟨p,zq,e.symm,rfl⟩
   .rw[zd e];exact .inr rfl
theorem HV (hG:Gam P B F pl tb s env U) {mp:List (Nat×Option Nat)}:∀ (st:List (Nat×SV)) {e:List SV}{eV:Env},gmatch.slots s mp st->SRs P B (Vl pl mp) Zh e eV->SRs P B (Vl pl mp) Zh (st.foldl (λe p=>e.set p.1 p.2) e) (Xe (st.map (·.1)) (GH (st.map (·.1)) env) eV)
 |[],e,eV,_,h=>h
 |(j,v)::r,e,eV,hs,h=>by simp only[gmatch.slots] at hs;simp only[w6,zE,GH,Xe];exact HV hG r hs.2 (h.set j (WV v _ _ hs.1 (hG.env.getD j poison)))
theorem ER {B:Heap}{pl:Nat->Value}{tb:Nat->Option Bool}:∀ n,SRs P B pl tb (List.replicate n .any) (List.replicate n poison)
 |0=>by simp[SRs]
 |n+1=>by simp only[xw,SRs];exact⟨_,_,rfl,by simp[SR],ER n⟩
theorem Bm {B0 F0 D0:Heap}(hR:GRel P B0 F0 D0 s env U) {st:List (Nat×SV)}{ow:List (Nat×Src×OB)}(h:gmatch s st ow) (len:Nat):GRel P B0 F0 D0 (Z6 len st ow) (Xe (st.map (·.1)) (GH (st.map (·.1)) env) (List.replicate len poison)) U:=by
 obtain⟨B,F,pl,tb,hB,hG⟩:=hR;unfold gmatch at h;split at h
 .rename_i mp kC;obtain⟨h1,h2⟩:=h;have eo:=H4 _ _ _ kC (λt t' a h=>by cases h);have aN:=RQ h2;have ao:∀ t,(Q8 (Z6 len st ow).own t).live=true->EA s mp t (Q8 (Z6 len st ow).own t):=λt hl=>by
   rcases VU (f:=ow) [] t with⟨p,h3,h4,h5⟩|h3
   .have:=aN p h3;rw[h4,<-h5] at this;exact this
   .simp only[Z6] at hl;rw[h3] at hl;cases hl
  refine⟨B,F,Vl pl mp,Zh,hB,hG.bf,hG.le,HV hG st h1 (ER len),λt=>?_,λt i hl hi=>?_,λt t' i aB hl cw hi cD=>?_,λ_ _=>rfl⟩
  .cases hl:(Q8 (Z6 len st ow).own t).live with
   |true=>exact(QC hG (ao t hl)).1
   |false =>
    cases ho:Q8 (Z6 len st ow).own t with
    |dead=>trivial
    |stk l vals =>
     rcases VU (f:=ow) [] t with⟨p,h3,h4,h5⟩|h3
     .have:=aN p h3;simp only[Z6] at ho;rw[<-h5,ho] at this;have h6:=(QC hG this).1;rw[h4] at h6;exact h6
     .simp only[Z6] at ho;rw[h3] at ho;cases ho
    |lpf l q u =>
     rcases VU (f:=ow) [] t with⟨p,h3,h4,h5⟩|h3
     .have:=aN p h3;simp only[Z6] at ho;rw[<-h5,ho] at this;have h6:=(QC hG this).1;rw[h4] at h6;exact h6
     .simp only[Z6] at ho;rw[h3] at ho;cases ho
    |_=>rw[ho] at hl;cases hl
  .obtain⟨a,_,h4,h5⟩:=(QC hG (ao t hl)).2 hl i hi;exact hG.fresh a i h4 h5
  .obtain⟨a,e1,h4,h5⟩:=(QC hG (ao t hl)).2 hl i hi;obtain⟨a',e2,h_,rj⟩:=(QC hG (ao t' cw)).2 cw i cD;by_cases e:a=a'
   .subst e;exact aB (eo t t' a e1 e2)
   .exact hG.sep a a' i e h4 h_ h5 rj
 .exact h.elim
theorem DI:∀ {dN cT:List SV}{vs:List Value}{B F:Heap}{s s':St},Gam P B F pl tb s env U->SRs P B pl tb dN vs->Q5t s dN=some (s',cT) ->
  ∃ B' F',GBase B F U B' F' U/\Gam P B' F' pl tb s' env U/\SRs P B' Jg Zh cT vs/\s'.env=s.env
 |[],cT,vs,B,F,s,s',hG,hs,h=>by simp only[Q5t,x6,Prod.mk.injEq] at h;obtain⟨rfl,rfl⟩:=h;exact⟨B,F,.of hG.bf (.refl _),hG,hs,rfl⟩
 |v::dN,cT,vs,B,F,s,s',hG,hs,h=>by
  simp only[SRs] at hs;obtain⟨u,us,rfl,h1,h2⟩:=hs
  have oR:∀ w:SV,SR P B pl tb w u->(bif w.pure then (match Q5t s dN with|some (s',r)=>some (s',w::r)|none=>none) else none)=some (s',cT) ->
    ∃ B' F',GBase B F U B' F' U/\Gam P B' F' pl tb s' env U/\SRs P B' Jg Zh cT (u::us)/\s'.env=s.env:=λw hw h=>by
   cases hp:w.pure with
   |false=>rw[hp] at h;cases h
   |true =>
    rw[hp] at h;simp only[zl] at h;split at h
    .rename_i s1 r heq;simp only[x6,Prod.mk.injEq] at h;obtain⟨rfl,rfl⟩:=h;obtain⟨B',F',k1,k2,k3,k4⟩:=DI hG h2 heq;exact⟨B',F',k1,k2,by simp only[SRs];exact⟨u,us,rfl,SR.mono k1.b (λ_ _ h=>h) _ _ (Ty w u hp hw),k3⟩,k4⟩
    .cases h
  simp only[Q5t] at h;split at h
  .rename_i o;split at h
   .rename_i l _ ho;cases hp:SVs.pure l with
    |false=>rw[hp] at h;cases h
    |true =>
     rw[hp] at h;simp only[zl] at h;split at h
     .rename_i s1 r heq;simp only[x6,Prod.mk.injEq] at h;obtain⟨rfl,rfl⟩:=h;have ao:=hG.obj o;rw[ho] at ao;obtain⟨i,c,e,t,e1,e2,e3,_⟩:=ao;obtain⟨k1,k2⟩:=hG.freeze (o:=o) (i:=i) (by rw[ho];rfl) (by rw[e1];rfl);obtain⟨B',F',j1,j2,j3,j4⟩:=DI k2 (SRs.mono k1.b (λ_ _ h=>h) _ _ h2) heq;refine⟨B',F',k1.trans j1,j2,?_,j4⟩;simp only[SRs];refine⟨u,us,rfl,?_,j3⟩;simp only[SR] at h1 |-;obtain⟨b,q1,q2⟩:=h1;rw[e1] at q1;obtain rfl:i=b:=by simpa using q1
      refine⟨i,c,e,true,t,j1.b.2 _ _ ?_,q2,SRs.mono (k1.trans j1).b (λ_ _ h=>h) _ _ (QF l c hp e3)⟩;rw[Heap.q0n];exact e2
     .cases h
   .cases h
  .exact oR _ h1 h
theorem Gam.lpUpd (hG:Gam P B F pl tb s env U) {n:Nat}{b b0:Blk}(hF:F.get n=some b0) (hB:B.get n=none):Gam P B (F.upd n b) pl tb s env (U.upd n b):=by
 have aB:∀ {d i},(Q8 s.own d).live=true->Oid (pl d) i->i≠n:=λh1 h2 e=>by have:=hG.fresh _ _ h1 h2;subst e;rw[hF] at this;cases this
 refine⟨⟨hG.bf.1,λi c hc=>?_⟩,⟨hG.le.1,λi c hc=>?_⟩,hG.env,λd=>(hG.obj d).mono (.refl _) (λ_ _ h=>h) λh1 i h2=>Heap.q0b _ _ (aB h1 h2),λd i h1 h2=>?_,hG.sep,hG.free⟩
 .have:i≠n:=by rintro rfl;rw[hB] at hc;cases hc
  rw[Heap.q0b _ _ this];exact hG.bf.2 _ _ hc
 .by_cases e:i=n
  .subst e;rw[Heap.q0c _ _ (F.lt hF)] at hc;rw[Heap.q0c _ _ (xj (F.lt hF) hG.le.1)];exact hc
  .rw[Heap.q0b _ _ e] at hc |-;exact hG.le.2 _ _ hc
 .rw[Heap.q0b _ _ (aB h1 h2)];exact hG.fresh _ _ h1 h2
theorem Gam.lpKill (hG:Gam P B F pl tb s env U) {n:Nat}{b0:Blk}(hF:F.get n=some b0) (hB:B.get n=none):Gam P B (F.kill n) pl tb s env (U.kill n):=by
 have aB:∀ {d i},(Q8 s.own d).live=true->Oid (pl d) i->i≠n:=λh1 h2 e=>by have:=hG.fresh _ _ h1 h2;subst e;rw[hF] at this;cases this
 refine⟨⟨hG.bf.1,λi c hc=>?_⟩,⟨hG.le.1,λi c hc=>?_⟩,hG.env,λd=>(hG.obj d).mono (.refl _) (λ_ _ h=>h) λh1 i h2=>Heap.q0d _ (aB h1 h2),λd i h1 h2=>?_,hG.sep,hG.free⟩
 .have:i≠n:=by rintro rfl;rw[hB] at hc;cases hc
  rw[Heap.q0d _ this];exact hG.bf.2 _ _ hc
 .by_cases e:i=n
  .subst e;rw[Heap.q0g] at hc;cases hc
  .rw[Heap.q0d _ e] at hc |-;exact hG.le.2 _ _ hc
 .rw[Heap.q0d _ (aB h1 h2)];exact hG.fresh _ _ h1 h2
theorem GRel.lpUpd {B1 F1 D0:Heap}(h:GRel P B1 F1 D0 s env U) {n:Nat}{b b0:Blk}(hF:F1.get n=some b0) (hB:B1.get n=none):GRel P B1 (F1.upd n b) D0 s env (U.upd n b):=by
 obtain⟨B,F,pl,tb,dK,hG⟩:=h;have jJ:=dK.f.2 _ _ hF;have oS:=dK.x _ _ hF hB;refine⟨B,F.upd n b,pl,tb,⟨dK.b,⟨dK.f.1,λi c hc=>?_⟩,λi c h1 h2=>?_,⟨dK.d.1,λi h1 h2=>?_⟩⟩,hG.lpUpd jJ oS⟩
 .by_cases e:i=n
  .subst e;rw[Heap.q0c _ _ (F1.lt hF)] at hc;rw[Heap.q0c _ _ (F.lt jJ)];exact hc
  .rw[Heap.q0b _ _ e] at hc |-;exact dK.f.2 _ _ hc
 .by_cases e:i=n
  .subst e;exact oS
  .rw[Heap.q0b _ _ e] at h1;exact dK.x _ _ h1 h2
 .have hd:=dK.d.2 i h1 h2;have:i≠n:=by rintro rfl;rw[hG.le.2 _ _ jJ] at hd;cases hd
  rw[Heap.q0b _ _ this];exact hd
theorem GRel.lpKill {B1 F1 D0:Heap}(h:GRel P B1 F1 D0 s env U) {n:Nat}{b0:Blk}(hF:F1.get n=some b0) (hB:B1.get n=none):GRel P B1 (F1.kill n) D0 s env (U.kill n):=by
 obtain⟨B,F,pl,tb,dK,hG⟩:=h;have jJ:=dK.f.2 _ _ hF;have oS:=dK.x _ _ hF hB;refine⟨B,F.kill n,pl,tb,⟨dK.b,⟨dK.f.1,λi c hc=>?_⟩,λi c h1 h2=>?_,⟨dK.d.1,λi h1 h2=>?_⟩⟩,hG.lpKill jJ oS⟩
 .by_cases e:i=n
  .subst e;rw[Heap.q0g] at hc;cases hc
  .rw[Heap.q0d _ e] at hc |-;exact dK.f.2 _ _ hc
 .by_cases e:i=n
  .subst e;exact oS
  .rw[Heap.q0d _ e] at h1;exact dK.x _ _ h1 h2
 .have hd:=dK.d.2 i h1 h2;by_cases e:i=n
  .subst e;exact Heap.q0g _ _
  .rw[Heap.q0d _ e];exact hd
theorem GRel.base {B0 F0 B1 F1 D0:Heap}(h:GRel P B1 F1 D0 s env U) (hb:B0.Le B1) (hf:F0.Le F1) (hx:∀ i b,F0.get i=some b->B0.get i=none->B1.get i=none):GRel P B0 F0 D0 s env U:=by obtain⟨B,F,pl,tb,dK,hG⟩:=h;exact⟨B,F,pl,tb,⟨hb.trans dK.b,hf.trans dK.f,λi b h1 h2=>dK.x i b (hf.2 _ _ h1) (hx i b h1 h2),dK.d⟩,hG⟩
theorem Bj (hG:Gam P B F pl tb s env U) {mp:List (Nat×Option Nat)}:∀ (st:List (Nat×SV)) {e:List SV},gmatch.slots s mp st->SRs P B (Vl pl mp) Zh e env->SRs P B (Vl pl mp) Zh (st.foldl (λe p=>e.set p.1 p.2) e) env
 |[],e,_,h=>h
 |(j,v)::r,e,hs,h=>by
  simp only[gmatch.slots] at hs;simp only[w6];refine Bj hG r hs.2 ?_;have:=h.set j (WV v _ _ hs.1 (hG.env.getD j poison));by_cases hj:j<env.length
  .rwa [ze,z6 hj,Option.getD_some,List.set_getElem_self] at this
  .rw[List.set_eq_of_length_le (by rw[h.length];omega)];exact h
theorem CI {B:Heap}{pl:Nat->Value}{tb:Nat->Option Bool}:∀ (env:Env),SRs P B pl tb (List.replicate (List.length env) .any) env
 |[]=>by simp[SRs]
 |v::env=>by simp only[xi,xw,SRs];exact⟨_,_,rfl,by simp[SR],CI env⟩
theorem Ua {B0 F0 D0:Heap}(hR:GRel P B0 F0 D0 s env U) {st:List (Nat×SV)}{ow:List (Nat×Src×OB)}(h:gmatch s st ow):GRel P B0 F0 D0 (Z6 (List.length env) st ow) env U:=by
 obtain⟨B,F,pl,tb,hB,hG⟩:=hR;unfold gmatch at h;split at h
 .rename_i mp kC;obtain⟨h1,h2⟩:=h;have eo:=H4 _ _ _ kC (λt t' a h=>by cases h);have aN:=RQ h2;have ao:∀ t,(Q8 (Z6 (List.length env) st ow).own t).live=true->EA s mp t (Q8 (Z6 (List.length env) st ow).own t):=λt hl=>by
   rcases VU (f:=ow) [] t with⟨p,h3,h4,h5⟩|h3
   .have:=aN p h3;rw[h4,<-h5] at this;exact this
   .simp only[Z6] at hl;rw[h3] at hl;cases hl
  refine⟨B,F,Vl pl mp,Zh,hB,hG.bf,hG.le,Bj hG st h1 (CI env),λt=>?_,λt i hl hi=>?_,λt t' i aB hl cw hi cD=>?_,λ_ _=>rfl⟩
  .cases hl:(Q8 (Z6 (List.length env) st ow).own t).live with
   |true=>exact(QC hG (ao t hl)).1
   |false =>
    cases ho:Q8 (Z6 (List.length env) st ow).own t with
    |dead=>trivial
    |stk l vals =>
     rcases VU (f:=ow) [] t with⟨p,h3,h4,h5⟩|h3
     .have:=aN p h3;simp only[Z6] at ho;rw[<-h5,ho] at this;have h6:=(QC hG this).1;rw[h4] at h6;exact h6
     .simp only[Z6] at ho;rw[h3] at ho;cases ho
    |lpf l q u =>
     rcases VU (f:=ow) [] t with⟨p,h3,h4,h5⟩|h3
     .have:=aN p h3;simp only[Z6] at ho;rw[<-h5,ho] at this;have h6:=(QC hG this).1;rw[h4] at h6;exact h6
     .simp only[Z6] at ho;rw[h3] at ho;cases ho
    |_=>rw[ho] at hl;cases hl
  .obtain⟨a,_,h4,h5⟩:=(QC hG (ao t hl)).2 hl i hi;exact hG.fresh a i h4 h5
  .obtain⟨a,e1,h4,h5⟩:=(QC hG (ao t hl)).2 hl i hi;obtain⟨a',e2,h_,rj⟩:=(QC hG (ao t' cw)).2 cw i cD;by_cases e:a=a'
   .subst e;exact aB (eo t t' a e1 e2)
   .exact hG.sep a a' i e h4 h_ h5 rj
 .exact h.elim
theorem RT {α:Type}{o:Option α}{f:α->Prop}(h:QS o f):∃ a,f a:=by
 cases o with
 |none=>exact h.elim
 |some a=>exact⟨a,h⟩
theorem COk.nx {C:Cx}(h:COk P C):COk P C.nx:=⟨h.cs,λf x hx=>(by cases hx),h.it,h.yl,h.iy,λf j _ x hx=>(by cases hx)⟩
theorem W_ {S:VSpecs}{Q:Prop}:∀ {ops:List DOper}{env:Env}{hs:List Heap}{U:Heap}{pend:List (Nat×(Heap->Prop))},Jc S ops env hs U pend (λ_ _=>Q)->Q
 |[],_,_,_,_,h=>h
 |o::r,env,hs,U,pend,h=>by
  simp only[Jc] at h;obtain⟨b,h⟩:=RT h;cases b with
  |true =>
   have h:=h.1 rfl;split at h
   .obtain⟨v,U',_,_,h⟩:=h;exact W_ h
   .split at h
    .obtain⟨p,_,h⟩:=RT h;exact W_ h
    .obtain⟨p,h⟩:=RT h;exact W_ h
  |false =>
   have h:=h.2 rfl;split at h
   .exact W_ h.2
   .exact W_ h
theorem PL {C:Cx}{s:St}{st:List (Nat×SV)}{ow:List (Nat×Src×OB)}{Q:Prop}:∀ (ls:List (List DOper)),Q5k C ls s st ow Q->(∀ l∈ls,Xg C.nx l s 1 0 [] [] λs'=>Bb s.env.length s' st ow)/\Q
 |[],h=>⟨λl hl=>(by cases hl),h⟩
 |l::ls,h=>by obtain⟨h1,h2⟩:=h;obtain⟨h3,h4⟩:=PL ls h2;exact⟨λl' cw=>(zo.1 cw).elim (λe=>e▸h1) (h3 l'),h4⟩
theorem Un {B0 F0 D0:Heap}{s:St}{env:Env}{U:Heap}{n:Nat}(hR:GRel P B0 F0 D0 s env U) {st:List (Nat×SV)}{ow:List (Nat×Src×OB)}(h:Bb n s st ow):GRel P B0 F0 D0 (Z6 n st ow) env U:=by
 unfold Bb at h;cases hb:Nat.beq s.env.length n with
 |false=>rw[hb] at h;exact h.elim
 |true =>
  rw[hb] at h;have hl:env.length=n:=by rw[<-zN hb];obtain⟨_,_,_,_,_,hG⟩:=hR;exact hG.env.length.symm
  rw[<-hl];exact Ua hR h
theorem WS {C:Cx}(aA:COk P C) {B0 F0 D0:Heap}:∀ (aS:List DSeg) {s:St}{env:Env}{U:Heap},GRel P B0 F0 D0 s env U->∀ {K:St->Prop},TV C aS s K->∀ {R:Env->Heap->Prop},(∀ s' af U',K s'->GRel P B0 F0 D0 s' af U'->R af U')->Mt (Q2 P) aS env U R
 |[],s,env,U,hR,K,h,R,hK=>hK s env U h hR
 |.one o::r,s,env,U,hR,K,h,R,hK=>by refine Mn aA [o] hR (K:=λs'=>TV C r s' K) h λs' af U' h1 h2=>?_;exact WS aA r h2 h1 hK
 |.alts [l]::r,s,env,U,hR,K,h,R,hK=>by
  simp only[TV] at h;cases hd:Q1u l with
  |false =>
   rw[hd] at h;simp only[zS] at h;cases hk:l.all (λo=>o.kind==o.op.kind) with
   |false=>rw[hk] at h;exact h.elim
   |true =>
    rw[hk] at h;simp only[zl] at h;intro ops ho;obtain rfl:=zp.1 ho;obtain⟨B,F,pl,tb,hB,hG⟩:=hR;have one:∀ (j:Nat) (Z:Heap),([U]:List Heap)[j]?=some Z->Z=U:=λj Z ht=>by
     cases j with
     |zero=>simpa using ht.symm
     |succ j=>simp at ht
    exact Qp aA ops (λo ho=>by simpa using zg.1 hk o ho) hB hG (hl:=1) (chg:=0) (A:=[]) (Rd:=[]) ⟨rfl,λj Z _ ht=>one j Z ht,(λc hc=>absurd hc (by simp)),λj Z q i ht _ _ _=>by rw[one j Z ht]⟩ (pend:=[]) (pd:=[]) (λc hc=>absurd hc (by simp)) (λj Z ht _=>by rw[one j Z ht];exact hG.leB) (Nat.zero_le _) (Nat.succ_pos _) h λs' af U' h1 h2=>⟨af,U',.refl _ _ _,WS aA r h2 h1 hK⟩
  |true =>rw[hd] at h;refine Fg (l:=l) hd ?_;exact Mn aA _ hR h λs' af U' h1 h2=>WS aA r h2 h1 hK
 |.alts []::r,s,env,U,hR,K,h,R,hK=>h.elim
 |.alts (l::l2::ls)::r,s,env,U,hR,K,h,R,hK=>by
  simp only[TV] at h;cases hk:(l::l2::ls).all (λl=>l.all λo=>o.kind==o.op.kind) with
  |false=>rw[hk] at h;exact h.elim
  |true =>
   rw[hk] at h;simp only[zl] at h;obtain⟨B,F,pl,tb,hB,hG⟩:=hR;have one:∀ (j:Nat) (Z:Heap),([U]:List Heap)[j]?=some Z->Z=U:=λj Z ht=>by
    cases j with
    |zero=>simpa using ht.symm
    |succ j=>simp at ht
   have run:∀ l'∈l::l2::ls,∀ {K':St->Prop},Xg C.nx l' s 1 0 [] [] K'->∀ {R':Env->Heap->Prop},(∀ s' af U',K' s'->GRel P B0 F0 D0 s' af U'->R' af U')->Jc (Q2 P) l' env [U] U [] R':=λl' cw K' h' R' rf =>
    Qo aA.nx rfl l' (λo ho=>by simpa using zg.1 (zg.1 hk l' cw) o ho) hB hG (hl:=1) (chg:=0) (A:=[]) (Rd:=[]) ⟨rfl,λj Z _ ht=>one j Z ht,(λc hc=>absurd hc (by simp)),λj Z q i ht _ _ _=>by rw[one j Z ht]⟩ (pend:=[]) (pd:=[]) (λc hc=>absurd hc (by simp)) (λj Z ht _=>by rw[one j Z ht];exact hG.leB) (Nat.zero_le _) (Nat.succ_pos _) h' rf
   obtain⟨s0,h0,h1⟩:=W_ (run l zq h (R':=λ_ _=>∃ s0:St,_) λs' _ _ h' _=>⟨s',h'⟩);obtain⟨h2,h3⟩:=PL _ h1;intro ops ho;rcases zo.1 ho with rfl|fg
   .refine WY ?_;exact run ops ho h λs' af U' h' rk=>⟨af,U',.refl _ _ _,by
     obtain⟨k1,k2⟩:=h';exact WS aA r (Un rk k1) (PL _ k2).2 hK⟩
   .refine WY ?_;exact run ops ho (h2 ops fg) λs' af U' h' rk=>⟨af,U',.refl _ _ _,WS aA r (Un rk h') h3 hK⟩
theorem Hj:∀ (l:List Nat) (vs:List SV),(Q6b l vs).map (·.1)=l
 |[],_=>rfl
 |j::js,[]=>by simp[Q6b,Hj js []]
 |j::js,v::vs=>by simp[Q6b,Hj js vs]
theorem Nu {B:Heap}{pl:Nat->Value}{tb:Nat->Option Bool}:∀ {ps:List Nat}{xs:List SV}{us:List Value}{e:List SV}{env:Env},SRs P B pl tb xs us->SRs P B pl tb e env->SRs P B pl tb (Dt e ps xs) (Pf env ps us)
 |[],xs,us,e,env,_,h=>by simpa [Dt,Pf] using h
 |p::ps,[],us,e,env,hx,h=>by simp only[SRs] at hx;subst hx;simpa [Dt,Pf] using h
 |p::ps,x::xs,us,e,env,hx,h=>by simp only[SRs] at hx;obtain⟨u,jH,rfl,h1,h2⟩:=hx;simp only[Dt,Pf];exact Nu h2 (h.set p h1)
def Z2m (F0:Heap):Option Nat->Prop
 |none=>True
 |some i=>∃ env r st pend,F0.get i=some (.obj (.lp env r st pend) true)
theorem Gam.dropLp {B F:Heap}{pl:Nat->Value}{tb:Nat->Option Bool}{s:St}{env:Env}{U:Heap}(hG:Gam P B F pl tb s env U) {o:Nat}{l:List SV}{q:LpD}{u:LpS}(ho:Q8 s.own o=.lpf l q u) (hl:u.live=true) :
  Gam P B F pl tb ⟨l,oset s.own o .dead,s.nx⟩ q.vals (U.kill q.i)/\U.get q.i=some (.obj (.lp q.vals q.r u.st u.pend) true):=by
 have ao:=hG.obj o;rw[ho] at ao;obtain⟨h1,h2,h3⟩:=ao;have jW:(Q8 s.own o).live=true:=by rw[ho];exact hl
 have kD:Oid (pl o) q.i:=by rw[h1];rfl
 have hF:=hG.fresh o q.i jW kD;have lv:∀ d,(Q8 (oset s.own o .dead) d).live=true->d≠o/\(Q8 s.own d).live=true:=λd h=>by
  rw[Qi] at h;by_cases e:d=o
  .rw[z8 e] at h;cases h
  .rw[zd e] at h;exact⟨e,h⟩
 refine⟨⟨hG.bf,⟨hG.le.1,λj b hb=>?_⟩,h2,λd=>?_,λd i hd hi=>hG.fresh d i (lv d hd).2 hi,λd d' i e h h'=>hG.sep d d' i e (lv d h).2 (lv d' h').2,hG.free⟩,h3 hl⟩
 .have e:j≠q.i:=by rintro rfl;rw[hF] at hb;cases hb
  rw[Heap.q0d _ e];exact hG.le.2 _ _ hb
 .rw[Qi];by_cases e:d=o
  .rw[z8 e];trivial
  .rw[zd e];refine (hG.obj d).mono (.refl _) (λ_ _ h=>h) λhd i hi=>?_;have:i≠q.i:=by rintro rfl;exact hG.sep d o q.i e hd jW hi kD
   exact Heap.q0d _ this
theorem I0 (s:St) (o:Nat) (b:OB) (j:Nat):Q8 (s.make o b).own j=if j=o then b else (Q8 s.own j).kill o:=by
 simp only[St.make,Qi];by_cases h:j=o
 .subst h;simp
 .simp only[h,if_false,St.kill,YX]
theorem Gam.enterLp {B F:Heap}{pl:Nat->Value}{tb:Nat->Option Bool}{s:St}{env:Env}{U:Heap}(hG:Gam P B F pl tb s env U) {o aL:Nat}{l:List SV}{q:LpD}(ho:Q8 s.own o=.lpf l q .rdy) (aB:o≠aL)
  {args:List SV}{us:List Value}(ax:SRs P B pl tb args us) (ps:List Nat) :
  Gam P B (F.ins U q.i hG.le.1) (Jf pl aL poison) tb ⟨Dt (SVs.kill aL l) ps (SVs.kill aL args),oset (Lt aL env s).own o (.lpf (SVs.kill aL l) q .busy),s.nx⟩ (Pf q.vals ps us) U:=by
 have q3:Gam P B F (Jf pl aL poison) tb (Lt aL env s) env U:=by refine hG.make aL _ poison hG.le (λ_ _ _ _ _=>rfl) ?_ (λi hl _=>by cases hl);exact SRs.upd (.refl _) (λ_ _ h=>h) (λj hj=>by simp[Jf,hj]) _ _ hG.env
 have ao:=hG.obj o;rw[ho] at ao;obtain⟨h1,h2,h3⟩:=ao;have jW:(Q8 s.own o).live=true:=by rw[ho];rfl
 have iK:Jf pl aL poison o=.pointer (some ⟨q.i,0,none⟩):=by simp[Jf,aB,h1]
 have uV:Q8 (Lt aL env s).own o=.lpf (SVs.kill aL l) q .rdy:=by have:=I0 s aL (.stk (SVs.kill aL s.env) env) o;unfold Lt;rw[this,zd aB,ho];rfl
 have oT:(Q8 (Lt aL env s).own o).live=true:=by rw[uV];rfl
 have kD:Oid (Jf pl aL poison o) q.i:=by rw[iK];rfl
 have hF:=q3.fresh o q.i oT kD;have cu:SRs P B (Jf pl aL poison) tb (SVs.kill aL l) q.vals:=SRs.upd (.refl _) (λ_ _ h=>h) (λj hj=>by simp[Jf,hj]) _ _ h2;have uW:SRs P B (Jf pl aL poison) tb (SVs.kill aL args) us:=SRs.upd (.refl _) (λ_ _ h=>h) (λj hj=>by simp[Jf,hj]) _ _ ax;have lv:∀ d,(Q8 (oset (Lt aL env s).own o (.lpf (SVs.kill aL l) q .busy)) d).live=true->d≠o/\(Q8 (Lt aL env s).own d).live=true:=λd h=>by
  rw[Qi] at h;by_cases e:d=o
  .rw[z8 e] at h;cases h
  .rw[zd e] at h;exact⟨e,h⟩
 refine⟨q3.bf.trans (hG.le.ins _),hG.le.q2a _,Nu uW cu,λd=>?_,λd i hd hi=>?_,λd d' i e h h'=>q3.sep d d' i e (lv d h).2 (lv d' h').2,q3.free⟩
 .show OR P B _ tb U _ (Q8 (oset _ o _) d);rw[Qi];by_cases e:d=o
  .subst e;rw[z8 rfl];exact⟨iK,cu,λh=>by cases h⟩
  .rw[zd e];exact q3.obj d
 .obtain⟨e,sN⟩:=lv d hd;have:i≠q.i:=by rintro rfl;exact q3.sep d o q.i e sN oT hi kD
  rw[Heap.q1c _ _ _ this];exact q3.fresh d i sN hi
theorem Gam.leaveLp {B F:Heap}{pl:Nat->Value}{tb:Nat->Option Bool}{s:St}{env:Env}{U:Heap}(hG:Gam P B F pl tb s env U) {o aL:Nat}{l l2:List SV}{lA:List Value}{q:LpD}{b0:Blk}(hF:F.get q.i=some b0) (hB:B.get q.i=none)
  (h2:Q8 s.own aL=.stk l2 lA) (ho:Q8 s.own o=.lpf l q .busy) (u:LpS) :
  Gam P B (F.kill q.i) pl tb ⟨l2,oset (oset s.own aL .dead) o (.lpf l q u),s.nx⟩ lA (U.upd q.i (.obj (.lp q.vals q.r u.st u.pend) true)):=by
 have ao:=hG.obj o;rw[ho] at ao;obtain⟨k1,k2,_⟩:=ao;have hk:=hG.obj aL;rw[h2] at hk;have hi:q.i<U.n:=U.lt (hG.le.2 _ _ hF);have aB:∀ {d i},(Q8 s.own d).live=true->Oid (pl d) i->i≠q.i:=λh1 h2 e=>by have:=hG.fresh _ _ h1 h2;subst e;rw[hF] at this;cases this
 have kD:∀ i,Oid (pl o) i->i=q.i:=λi h=>by rw[k1] at h;exact(osj h).symm
 have hg:∀ d,Q8 (oset (oset s.own aL .dead) o (.lpf l q u)) d=if d=o then .lpf l q u else if d=aL then .dead else Q8 s.own d:=λd=>by rw[Qi,Qi]
 have lv:∀ d,d≠o->(Q8 (oset (oset s.own aL .dead) o (.lpf l q u)) d).live=true->(Q8 s.own d).live=true:=λd e h=>by
  rw[hg,zd e] at h;split at h
  .cases h
  .exact h
 refine⟨⟨hG.bf.1,λj b hb=>?_⟩,⟨hG.le.1,λj b hb=>?_⟩,hk,λd=>?_,λd i hd cD=>?_,λd d' i e h h' h1 jG=>?_,hG.free⟩
 .have e:j≠q.i:=by rintro rfl;rw[hB] at hb;cases hb
  rw[Heap.q0d _ e];exact hG.bf.2 _ _ hb
 .by_cases e:j=q.i
  .subst e;rw[Heap.q0g] at hb;cases hb
  .rw[Heap.q0d _ e] at hb;rw[Heap.q0b _ _ e];exact hG.le.2 _ _ hb
 .show OR P B pl tb _ _ (Q8 (oset _ o _) d);rw[hg];by_cases e:d=o
  .subst e;rw[z8 rfl];exact⟨k1,k2,λ_=>Heap.q0c _ _ hi⟩
  .rw[zd e];split
   .trivial
   .exact(hG.obj d).mono (.refl _) (λ_ _ h=>h) λhd i hi=>Heap.q0b _ _ (aB hd hi)
 .by_cases e:d=o
  .subst e;rw[kD i cD];exact Heap.q0g _ _
  .rw[Heap.q0d _ (aB (lv d e hd) cD)];exact hG.fresh d i (lv d e hd) cD
 .by_cases e1:d=o
  .subst e1;have e2:d'≠d:=λh=>e h.symm;exact aB (lv d' e2 h') jG (kD i h1)
  .by_cases e2:d'=o
   .subst e2;exact aB (lv d e1 h) h1 (kD i jG)
   .exact hG.sep d d' i e (lv d e1 h) (lv d' e2 h') h1 jG
theorem Ye {C:Cx}(aA:COk P C) {L:List (Nat×LoopAnn)}(vc:VCode):∀ {B0 F0 D0:Heap}(n:Nat) (K:Exit->St->Prop) (s:St) (env:Env) (U:Heap) (ro:Option Nat) (Q:Exit->Env->Heap->Prop),Z2m F0 ro->GRel P B0 F0 D0 s env U->gwp C L vc n K s->(∀ e s' af U',K e s'->GRel P B0 F0 D0 s' af U'->Q e af U')->vwp (Q2 P) vc ro Q env U:=by
 induction vc with
 |skip=>intro B0 F0 D0 n K s env U ro Q bQ hR h hK;exact hK _ _ _ _ h hR
 |region ops=>intro B0 F0 D0 n K s env U ro Q bQ hR h hK;exact Mn aA ops hR h λs' af U' h1 h2=>hK _ _ _ _ h1 h2
 |regionD aS=>intro B0 F0 D0 n K s env U ro Q bQ hR h hK;exact WS aA aS hR h λs' af U' h1 h2=>hK _ _ _ _ h1 h2
 |rangeF g ps a b fp eK =>
  intro B0 F0 D0 n K s env U ro Q bQ hR h hK;simp only[gwp] at h;split at h
  .rename_i f first dN hg
   split at h
   .
    rename_i x hx;obtain⟨B,F,pl,tb,hB,hG⟩:=hR;have gH:=hG.evs (Gds.nil (tb:=tb)) g;rw[hg] at gH;simp only[SR] at gH;obtain⟨x',y',bn,mB,oU⟩:=gH;obtain⟨iT,ni⟩:=aA.iy f x hx;show vwp (Q2 P) (.rangeF g ps a b) ro Q env U;simp only[vwp,Lk,bn];have mC:(Q2 P).it f=some λi Y args U K=>Ke P i Y->VCallsTo P f args U K:=by simp only[Q2];rw[z8 iT]
    rw[mC];refine⟨?_,λr hY=>?_⟩
    .cases ro with
     |none=>trivial
     |some i =>obtain⟨e1,r1,st1,rn,hi⟩:=bQ;exact⟨e1,r1,st1,rn,hG.le.2 _ _ (hB.f.2 _ _ hi)⟩
    generalize kR:C.off+2000000+n=o at h;generalize gd:100000*(o+1)-1=aL at h;have ai:o≠aL:=by omega
    let q:LpD:=⟨U.n,env,r⟩;let rdy:Blk:=.obj (.lp env r .ready none) true;let fF:Blk:=.obj (.lp env r .busy none) true;let p0:Value:=.pointer (some ⟨U.n,0,none⟩);have jl:Gam P B F (Jf pl o p0) tb (Z4b o q s) env (U.push rdy):=by refine hG.push o (.lpf (SVs.kill o s.env) q .rdy) p0 rdy rfl ⟨rfl,SRs.upd (.refl _) (λ_ _ h=>h) (λj hj=>by simp[Jf,hj]) _ _ hG.env,λ_=>Heap.q0a _ _⟩
    have kl:∀ {xs us},SRs P B pl tb xs us->SRs P B (Jf pl o p0) tb (SVs.kill o xs) us:=λh=>SRs.upd (.refl _) (λ_ _ h=>h) (λj hj=>by simp[Jf,hj]) _ _ h;have ax:SRs P B (Jf pl o p0) tb (SVs.kill o first++(.dd o .yv::SVs.kill o dN)) (x'++(.func (.yield U.n) #[] #[]::y')):=by refine (kl mB).append ?_;simp only[SRs,SR,DR];exact⟨_,_,rfl,⟨U.n,by simp[Jf,p0],rfl⟩,kl oU⟩
    have uX:Ov P o (I7 o aL ps.length q (λK' s'=>gwp C L a n (On (λs3=>gwp C L b n K' s3) λ_ _=>False) s') ps):=by
     intro B F pl tb s af U args us K R i hG ha hy iK hK;unfold I7 at hy;split at hy
     .rename_i l q' u ho;split at hy
      .cases hlen:Nat.beq args.length ps.length with
       |false=>rw[hlen] at hy;exact hy.elim
       |true =>
       rw[hlen] at hy;simp only[zl] at hy;obtain⟨rfl,hy⟩:=hy;have ao:=hG.obj o;rw[ho] at ao;have hi:i=q.i:=by have h1:=ao.1;rw[iK] at h1;have:=osj (Value.pointer.inj h1);exact(Addr.mk.inj this).1
       subst hi;have mD:U.get q.i=some rdy:=ao.2.2 rfl;have jW:(Q8 s.own o).live=true:=by rw[ho];rfl
       have nq:F.get q.i=none:=hG.fresh o q.i jW (by rw[ao.1];rfl);have sO:B.get q.i=none:=by
        cases hb:B.get q.i with
        |none=>rfl
        |some b=>rw[hG.bf.2 _ _ hb] at nq;cases nq
       have lG:=hG.enterLp ho ai ha ps;have jm:(F.ins U q.i hG.le.1).get q.i=some rdy:=by rw[Heap.q0n];exact mD
       have fU:(F.ins U q.i hG.le.1).n=U.n:=rfl;have aO:q.i<U.n:=U.lt mD;refine hY us U R ⟨mD,by rw[<-ha.length];exact(zN hlen),?_⟩;refine fp (B0:=B) (F0:=F.ins U q.i hG.le.1) (D0:=U) n _ _ _ U (some q.i) _ ⟨env,r,_,_,jm⟩ ⟨B,_,_,tb,.of lG.bf (Dead.refl _),lG⟩ (hy af) λe s3 rp σ3 h7 h8=>?_;cases e with
       |normal =>
        have j9:σ3.get q.i=some rdy:=by obtain⟨B',F',pl',tb',q1,q2⟩:=h8;exact q2.le.2 _ _ (q1.f.2 _ _ jm)
        refine⟨j9,?_⟩;have h9:=h8.lpUpd (b:=fF) jm sO;have nr:((F.ins U q.i hG.le.1).upd q.i fF).get q.i=some fF:=Heap.q0c _ _ (by rw[fU];exact aO);refine eK (B0:=B) (F0:=(F.ins U q.i hG.le.1).upd q.i fF) (D0:=U) n _ _ _ _ (some q.i) _ ⟨env,r,_,_,nr⟩ h9 h7 λe s4 rr σ4 bS ft=>?_;obtain⟨B',F',pl',tb',q1,q2⟩:=ft;have pR:=q1.f.2 _ _ nr;have ru:=q1.x _ _ nr sO;have oV:σ4.get q.i=some fF:=q2.le.2 _ _ pR;unfold gyK at bS;split at bS
        .rename_i l2 lA l3 q3 u3 av rv;split at bS
         .obtain⟨rfl,rfl,bS⟩:=bS;have base:∀ b,GBase B F U B' (F'.kill q.i) (σ4.upd q.i b):=λb=>by
           refine⟨q1.b,⟨?_,λj c hc=>?_⟩,λj c h1 h2=>?_,q1.d.trans (Dead.upd _ _ _ (by rw[oV];rfl))⟩
           .have h1:=q1.f.1;have h2:=hG.le.1;show F.n<=F'.n;have h3:((F.ins U q.i hG.le.1).upd q.i fF).n=U.n:=rfl;omega
           .have e:j≠q.i:=by rintro rfl;rw[nq] at hc;cases hc
            rw[Heap.q0d _ e];refine q1.f.2 _ _ ?_;rw[Heap.q0b _ _ e,Heap.q1c _ _ _ e];exact hc
           .have e:j≠q.i:=by rintro rfl;rw[nq] at h1;cases h1
            refine q1.x j c ?_ h2;rw[Heap.q0b _ _ e,Heap.q1c _ _ _ e];exact h1
          refine⟨oV,?_⟩;cases e with
          |normal=>exact hK _ _ B' _ pl' tb' _ _ bS (base _) (q2.leaveLp pR ru av rv .rdy) (by simp[SR,KC])
          |ret=>exact hK _ _ B' _ pl' tb' _ _ bS (base _) (q2.leaveLp pR ru av rv .ret) (by simp[SR,KC])
          |exit id=>exact hK _ _ B' _ pl' tb' _ _ bS (base _) (q2.leaveLp pR ru av rv (.exit id)) (by simp[SR,KC])
          |_=>exact bS.elim
         .exact bS.elim
        .exact bS.elim
       |_=>exact h7.elim
      .exact hy.elim
     .exact hy.elim
    have aT:=ni B F _ tb _ env (U.push rdy) o _ _ _ (Q58 o q K) (λZ=>Om Q env U.n poison Z) jl ax uX (h q) λs' B' F' pl' tb' af U' hk hb dV=>by
     unfold Q58 at hk;split at hk
     .rename_i l q' u ho;have fin:∀ {e:Exit},u.live=true->q'=q->K e ⟨l,oset s'.own o .dead,s'.nx⟩->Q e env (U'.kill U.n)/\U'.get U.n=some (.obj (.lp env r u.st u.pend) true):=λ{e} hu hq uY=>by
       subst hq;obtain⟨g1,g2⟩:=dV.dropLp ho hu;refine⟨hK _ _ _ _ uY ⟨B',F',pl',tb',⟨hB.b.trans hb.b,hB.f.trans hb.f,λj c h1 h2=>hb.x j c (hB.f.2 _ _ h1) (hB.x j c h1 h2),hB.d.trans ((Dead.push _ _).trans (hb.d.trans (Dead.kill _ _)))⟩,g1⟩,g2⟩
      cases u with
      |busy=>exact hk.elim
      |rdy =>obtain⟨hq,hk⟩:=hk;obtain⟨k1,k2⟩:=fin rfl hq hk;unfold Om;rw[k2];exact⟨(by intro h;cases h),k1⟩
      |ret =>obtain⟨hq,hk⟩:=hk;obtain⟨k1,k2⟩:=fin rfl hq hk;unfold Om;rw[k2];exact⟨(by intro h;cases h),k1⟩
      |exit id =>obtain⟨hq,hk⟩:=hk;obtain⟨k1,k2⟩:=fin rfl hq hk;unfold Om;rw[k2];exact⟨(by intro h;cases h),k1⟩
     .exact hk.elim
    refine VCallsTo.mono (R:=λ_ Z=>Om Q env U.n poison Z) (by simpa using aT) λv Z h=>h
   split at h
   rotate_left
   .exact h.elim
   split at h
   .rename_i it s1 cT A gX ry hA;split at h
    .rename_i c m ar xs hc;cases eD:Nat.beq ps.length ar with
     |false=>rw[eD] at h;exact h.elim
     |true =>
     rw[eD] at h;simp only[zl] at h;obtain⟨dE,p,d0,eQ,I,uZ,sP,sQ⟩:=h;have eD:=zN eD;have hlen:s.env.length=env.length:=by obtain⟨B,F,pl,tb,_,hG⟩:=hR;exact hG.env.length
     rw[hlen] at sP sQ;have oK:=hR;obtain⟨B,F,pl,tb,hB,hG⟩:=hR;have gH:=hG.evs Gds.nil g;rw[hg] at gH;simp only[SR] at gH;obtain⟨x,y,bn,hx,hy⟩:=gH;simp only[SRs] at hx;subst hx;obtain⟨B1,F1,oW,hZ,u1,iD⟩:=DI hG hy ry;obtain⟨iT,rz⟩:=aA.it f it gX;obtain⟨oX,rA⟩:=rz B1 cT y c m ar xs u1 hc dE;have u2:GRel P B1 F1 D0 (Z6 (List.length env) (A.st p d0) (A.own p d0)) env U:=Ua ⟨B1,F1,pl,tb,⟨.refl _,.refl _,λ_ _ _ h=>h,(hB.trans oW).d⟩,hZ⟩ eQ;have lH:B1.get U.n=none:=B1.wf _ hZ.leB.1;have pS:F1.get U.n=none:=F1.wf _ hZ.le.1;show vwp (Q2 P) (.rangeF g ps a b) ro Q env U;simp only[vwp,Lk,bn];have mC:(Q2 P).it f=some λi Y args U K=>Ke P i Y->VCallsTo P f args U K:=by simp only[Q2];rw[z8 iT]
     rw[mC];refine⟨?_,λr hY=>?_⟩
     .cases ro with
      |none=>trivial
      |some i =>obtain⟨e1,r1,st1,rn,hi⟩:=bQ;exact⟨e1,r1,st1,rn,hG.le.2 _ _ (hB.f.2 _ _ hi)⟩
     .let rdy:Blk:=.obj (.lp env r .ready none) true;let fF:Blk:=.obj (.lp env r .busy none) true;have lJ:F1.Le (U.push rdy):=hZ.le.push rdy;let Fr:=F1.ins (U.push rdy) U.n lJ.1;have jm:Fr.get U.n=some rdy:=by
       show (F1.ins _ _ _).get U.n=_;rw[Heap.q0n,Heap.q0a]
      have fU:Fr.n=U.n+1:=rfl;have u4:F1.Le Fr:=lJ.ins U.n;let J:Nat->Heap->Prop:=λk Z=>∃ d,I k d/\GRel P B1 Fr D0 (Z6 (List.length env) (A.st p d) (A.own p d)) env Z;let E:Heap->Prop:=λZ=>∃ cd e,Z.get U.n=some (.obj (.lp env r .done (some cd)) true)/\((cd=.ret/\e=Exit.ret)\/∃ id,cd=.exit id/\e=Exit.exit id)/\Q e env (Z.kill U.n);have back:∀ {s':St}{Z:Heap},GRel P B1 (Fr.upd U.n fF) D0 s' env Z->∀ b,GRel P B1 ((Fr.upd U.n fF).upd U.n b) D0 s' env (Z.upd U.n b):=λh b =>
       h.lpUpd (b0:=fF) (Heap.q0c _ _ (by rw[fU];omega)) lH
      have jo:∀ {Fx:Heap}{b0:Blk}{s':St}{Z:Heap},Fx.get U.n=some b0->(∀ i,i≠U.n->Fx.get i=F1.get i)->Fx.n=U.n+1->GRel P B1 Fx D0 s' env Z->GRel P B0 F0 D0 s' env (Z.kill U.n):=λ{Fx b0 s' Z} h1 h2 h3 h4=>by
       refine (h4.lpKill h1 lH).base (hB.b.trans oW.b) ⟨?_,λi b hb=>?_⟩ λi b k1 k2=>(hB.trans oW).x i b k1 k2
       .show F0.n<=Fx.n;rw[h3];have:=(hB.trans oW).f.1;have:=hZ.le.1;omega
       .have bB:=(hB.trans oW).f.2 _ _ hb;have e:i≠U.n:=by rintro rfl;rw[pS] at bB;cases bB
        rw[Heap.q0d _ e,h2 i e];exact bB
      have kE:∀ i,i≠U.n->Fr.get i=F1.get i:=λi e=>Heap.q1c _ _ _ e;have aT:=rA U.n _ J E (U.push rdy) hY (λk Z ⟨d,_,hd⟩=>?_) (λk us Z hk ⟨d,rB,hd⟩ du=>?_) ⟨d0,uZ,?_⟩
      .refine VCallsTo.mono (R:=λ_ Z=>J m Z\/E Z) (by simpa using aT) λv Z n_=>?_;unfold Om;rcases n_ with⟨d,rB,hd⟩|⟨cd,e,h1,h2,h3⟩
       .have mD:Z.get U.n=some rdy:=by
         obtain⟨B',F',pl',tb',q1,q2⟩:=hd;exact q2.le.2 _ _ (q1.f.2 _ _ jm)
        rw[mD];exact⟨(by intro h;cases h),hK _ _ _ _ (sQ d rB) (jo jm kE fU hd)⟩
       .rw[h1];refine⟨(by intro h;cases h),?_⟩;rcases h2 with⟨rfl,rfl⟩|⟨id,rfl,rfl⟩<;>exact h3
      .obtain⟨B',F',pl',tb',q1,q2⟩:=hd;exact q1.b.trans q2.leB
      .
       have mD:Z.get U.n=some rdy:=by obtain⟨B',F',pl',tb',q1,q2⟩:=hd;exact q2.le.2 _ _ (q1.f.2 _ _ jm)
       refine⟨mD,by rw[eD,<-(oX k).1,du.length],?_⟩;have hF:=sP k d hk rB env;have bg:GRel P B1 Fr D0 ⟨Dt (Lt (2000000+n) env (Z6 (List.length env) (A.st p d) (A.own p d))).env ps (xs k),(Lt (2000000+n) env (Z6 (List.length env) (A.st p d) (A.own p d))).own,0⟩ (Pf env ps us) Z:=by
        obtain⟨B',F',pl',tb',q1,q2⟩:=hd;have q3:Gam P B' F' (Jf pl' (2000000+n) poison) tb' (Lt (2000000+n) env (Z6 (List.length env) (A.st p d) (A.own p d))) env Z:=by refine q2.make (2000000+n) _ poison q2.le (λ_ _ _ _ _=>rfl) ?_ (λi hl _=>by cases hl);exact SRs.upd (.refl _) (λ_ _ h=>h) (λj hj=>by simp[Jf,hj]) _ _ q2.env
        refine⟨B',F',Jf pl' (2000000+n) poison,tb',q1,⟨q3.bf,q3.le,Nu ?_ q3.env,q3.obj,q3.fresh,q3.sep,?_⟩⟩
        .exact SRs.mono q1.b (λ_ _ h=>h) _ _ (QF _ _ (oX k).2 du)
        .exact q3.free
       refine fp (B0:=B1) (F0:=Fr) n _ _ _ Z (some U.n) _ ⟨env,r,_,_,jm⟩ bg hF λe s3 rp σ3 h7 h8=>?_;cases e with
       |normal =>
        have j9:σ3.get U.n=some rdy:=by obtain⟨B',F',pl',tb',q1,q2⟩:=h8;exact q2.le.2 _ _ (q1.f.2 _ _ jm)
        refine⟨j9,?_⟩;have h9:=h8.lpUpd (b:=fF) jm lH;have nr:(Fr.upd U.n fF).get U.n=some fF:=Heap.q0c _ _ (by rw[fU];omega);refine eK (B0:=B1) (F0:=Fr.upd U.n fF) n _ _ _ _ (some U.n) _ ⟨env,r,_,_,nr⟩ h9 h7 λe s4 rr σ4 bS ft=>?_;have oV:σ4.get U.n=some fF:=by obtain⟨B',F',pl',tb',q1,q2⟩:=ft;exact q2.le.2 _ _ (q1.f.2 _ _ nr)
        have sR:U.n<σ4.n:=σ4.lt oV;unfold Is at bS;split at bS
        .rename_i l vs gQ;obtain⟨rfl,bS⟩:=bS;have cY:GRel P B1 (Fr.upd U.n fF) D0 ⟨l,s4.own,s4.nx⟩ vs σ4:=by
          obtain⟨B',F',pl',tb',q1,q2⟩:=ft;have:=q2.obj (2000000+n);rw[gQ] at this;exact⟨B',F',pl',tb',q1,q2.bf,q2.le,this,q2.obj,q2.fresh,q2.sep,q2.free⟩
         have mE:∀ b,((Fr.upd U.n fF).upd U.n b).get U.n=some b:=λb=>Heap.q0c _ _ (by show U.n<Fr.n;rw[fU];omega);have rC:∀ b i,i≠U.n->((Fr.upd U.n fF).upd U.n b).get i=F1.get i:=λb i e=>by rw[Heap.q0b _ _ e,Heap.q0b _ _ e,kE i e]
         refine⟨oV,?_⟩;cases e with
         |normal =>
          obtain⟨d',nj,pO⟩:=bS;refine .inl ⟨rfl,d',pO,?_⟩;have:=(back (Ua cY nj) rdy).base (B0:=B1) (F0:=Fr) (.refl _) ⟨zf _,λi b hb=>?_⟩ λi b k1 k2=>k2
          .exact this
          .by_cases e:i=U.n
           .subst e;rw[jm] at hb;rw[mE];exact hb
           .rw[rC _ _ e,<-kE i e];exact hb
         |ret =>refine .inr ⟨rfl,_,_,Heap.q0c _ _ sR,.inl ⟨rfl,rfl⟩,hK _ _ _ _ bS (jo (mE _) (rC _) (by show Fr.n=_;exact fU) (back cY _))⟩
         |exit id =>refine .inr ⟨rfl,_,_,Heap.q0c _ _ sR,.inr ⟨id,rfl,rfl⟩,hK _ _ _ _ bS (jo (mE _) (rC _) (by show Fr.n=_;exact fU) (back cY _))⟩
         |_=>exact bS.elim
        .exact bS.elim
       |_=>exact h7.elim
      .
       obtain⟨B',F',pl',tb',q1,q2⟩:=u2;have hle:F'.Le (U.push rdy):=q2.le.push rdy;have u5:F'.get U.n=none:=F'.wf _ q2.le.1;have ao:∀ d i,(Q8 (Z6 (List.length env) (A.st p d0) (A.own p d0)).own d).live=true->Oid (pl' d) i->i<U.n:=λd i h1 h2=>(q2.obj d).q0w h1 h2;refine⟨B',F'.ins (U.push rdy) U.n hle.1,pl',tb',⟨q1.b,Heap.q2d q1.f _ _ _,λi b k1 k2=>?_,q1.d.trans (Dead.push _ _)⟩,⟨q2.bf.trans (hle.ins _),hle.q2a _,q2.env,λd=>(q2.obj d).mono (.refl _) (λ_ _ h=>h) λh1 i h2=>Heap.q0i _ _ (ao d i h1 h2),λd i h1 h2=>?_,q2.sep,q2.free⟩⟩
       .by_cases e:i=U.n
        .subst e;exact B'.wf _ q2.leB.1
        .rw[kE i e] at k1;exact q1.x i b k1 k2
       .rw[Heap.q1c _ _ _ (Nat.ne_of_lt (ao d i h1 h2))];exact q2.fresh d i h1 h2
    .exact h.elim
   .exact h.elim
  .exact h.elim
 |bad=>intro B0 F0 D0 n K s env U ro Q bQ hR h hK;exact h.elim
 |ret=>intro B0 F0 D0 n K s env U ro Q bQ hR h hK;exact hK _ _ _ _ h hR
 |exit id=>intro B0 F0 D0 n K s env U ro Q bQ hR h hK;exact hK _ _ _ _ h hR
 |seq a b fp eK =>
  intro B0 F0 D0 n K s env U ro Q bQ hR h hK;refine fp n _ s env U ro _ bQ hR h λe s' af U' h1 h2=>?_;cases e with
  |normal=>exact eK n K s' af U' ro Q bQ h2 h1 hK
  |_=>exact hK _ _ _ _ h1 h2
 |cond c a b fp eK =>
  intro B0 F0 D0 n K s env U ro Q bQ hR h hK;simp only[gwp] at h;split at h
  .rename_i t ht;have oK:=hR;obtain⟨B,F,pl,tb,hB,hG⟩:=hR;have:=NM hG ht;simp only[vwp,this,SO];cases t with
   |true=>exact⟨λ_=>fp n K s env U ro Q bQ oK h hK,λe=>by cases e⟩
   |false=>exact⟨(λe=>by cases e),λ_=>eK n K s env U ro Q bQ oK h hK⟩
  split at h
  .rename_i t ht;obtain⟨B,F,pl,tb,hB,hG⟩:=hR;have:=Xz ht (hG.evs Gds.nil c);simp only[vwp,this,SO];split at h
   .rename_i A hA;obtain⟨p,I,hF,hI⟩:=h;have fin:∀ e s' af U',Q40 s.env.length A p I K e s'->GRel P B0 F0 D0 s' af U'->Q e af U':=λe s' af U' h1 h2=>by
     cases e with
     |normal =>obtain⟨d,h3,h4⟩:=h1;exact hK _ _ _ _ (hI d h4) (Un h2 h3)
     |_=>exact hK _ _ _ _ h1 h2
    exact⟨λe=>fp n _ s env U ro Q bQ ⟨B,F,pl,tb,hB,hG⟩ (hF.1 e) fin,λe=>eK n _ s env U ro Q bQ ⟨B,F,pl,tb,hB,hG⟩ (hF.2 e) fin⟩
   exact⟨λe=>fp n K s env U ro Q bQ ⟨B,F,pl,tb,hB,hG⟩ (h.1 e) hK,λe=>eK n K s env U ro Q bQ ⟨B,F,pl,tb,hB,hG⟩ (h.2 e) hK⟩
  .exact h.elim
 |block id b ih =>
  intro B0 F0 D0 n K s env U ro Q bQ hR h hK;refine ih id _ s env U ro _ bQ hR h λe s' af U' h1 h2=>?_;cases e with
  |exit iM =>
   simp only[Iq] at h1;simp only[Ss];split
   .rename_i e;rw[z8 e] at h1;exact hK _ _ _ _ h1 h2
   .rename_i e;rw[zd e] at h1;exact hK _ _ _ _ h1 h2
  |_=>exact hK _ _ _ _ h1 h2
 |loop b ih =>
  intro B0 F0 D0 n K s env U ro Q bQ hR h hK;simp only[gwp] at h;split at h
  .rename_i A hA;obtain⟨p,d0,h1,I,μ,h2,h3⟩:=h;have hlen:s.env.length=env.length:=by obtain⟨B,F,pl,tb,_,hG⟩:=hR;exact hG.env.length
   have hk:∀ d,(A.st p d).map (·.1)=A.sl:=λd=>Hj _ _;refine⟨A.sl,λm vs U'=>∃ d,I d/\μ d=m/\GRel P B0 F0 D0 (Z6 s.env.length (A.st p d) (A.own p d)) (Xe A.sl vs (List.replicate env.length poison)) U',μ d0,⟨d0,h2,rfl,?_⟩,λm vs U' ⟨d,h4,h5,h6⟩=>?_⟩
   .have:=Bm hR h1 s.env.length;rw[hk d0,hlen] at this;rw[hlen];exact this
   .refine ih n _ _ _ U' ro _ bQ h6 (h3 d h4) λe s' af aE h7 h8=>?_;cases e with
    |normal =>
     simp only[Q2p] at h7;cases oq:Z0y s'.own with
     |false=>rw[oq] at h7;exact h7.elim
     |true =>
     rw[oq] at h7;obtain⟨d',h9,bS,ft⟩:=h7;refine⟨μ d',by omega,d',bS,rfl,?_⟩;have:=Bm h8 h9 s.env.length;rw[hk d',hlen] at this;rw[hlen];exact this
    |_=>exact hK _ _ _ _ h7 h8
  .exact h.elim
end
end Go.V
namespace Go.V
open Go
def L1 (s:St):VResult->Option SV
 |.tmp t=>some (s.env.getD t .any)
 |.cell a agg size=>bif Nat.blt 0 size then Od s.own agg size (s.env.getD a .any) else none
def JJ (s:St) (rs:List VResult):Option SV :=
 match rs with
 |[r]=>L1 s r
 |rs=>(rs.mapM (L1 s)).map .tup
def Q30 (mp:List (Nat×Option Nat)) (j:Nat) (a:Option Nat):Option (List (Nat×Option Nat)) :=
 if (Qq mp j).isSome then none else match a with
 |some x=>if mp.any λp=>p.2==some x then none else some (mp++[(j,a)])
 |none=>some (mp++[(j,a)])
mutual
def EC:SV->SV->List (Nat×Option Nat)->Option (List (Nat×Option Nat))
 |.lst j,v,mp=>match v with|.lst a=>Q30 mp j (some a)|.nilS=>Q30 mp j none|_=>none
 |.map j,v,mp=>match v with|.map a=>Q30 mp j (some a)|_=>none
 |.dd j w,v,mp=>match w with
  |.out=>(match v with
   |.dd a w'=>(match w' with|.out=>Q30 mp j (some a)|_=>none)
   |.nilS=>Q30 mp j none
   |_=>none)
  |_=>none
 |.box j _,v,mp=>match v with|.box a _=>Q30 mp j (some a)|_=>none
 |.agg l,v,mp=>match v with|.agg l'=>AV l l' mp|_=>none
 |.tup l,v,mp=>match v with|.tup l'=>AV l l' mp|_=>none
 |.any,_,mp=>some mp
 |.val _ _,_,mp=>some mp
 |.nilS,_,mp=>some mp
 |.nilP,_,mp=>some mp
 |.nilM,_,mp=>some mp
 |.nilF,_,mp=>some mp
 |.sub _ _ _ _,_,_|.elp _ _ _ _,_,_|.grd _ _,_,_|.cp _ _,_,_|.fn _ _ _,_,_|.rop _ _ _ _,_,_|.pf _ _ _ _,_,_|.bid _ _,_,_=>none
def AV:List SV->List SV->List (Nat×Option Nat)->Option (List (Nat×Option Nat))
 |[],_,mp=>some mp
 |s::ss,l,mp=>match l with
  |v::vs=>match EC s v mp with|some mp=>AV ss vs mp|none=>none
  |[]=>none
end
def Ig (s:St) (mp:List (Nat×Option Nat)):Nat->List OB->Prop
 |_,[]=>True
 |j,b::r=>EA s mp j b/\Ig s mp (j+1) r
def Vv (rs:List VResult) (v:SV) (bs:List OB):Exit->St->Prop:=λe s =>
 let fin:=match JJ s rs with
  |some r=>(match EC v r [] with
   |some mp=>Bo mp v r/\Ig s mp 0 bs
   |none=>False)
  |none=>False
 match e with
 |.normal=>fin
 |.ret=>fin
 |_=>False
section
variable {P:Program}{B F:Heap}{pl:Nat->Value}{tb:Nat->Option Bool}{s:St}{env:Env}{U:Heap}
theorem PE (hG:Gam P B F pl tb s env U) {r:VResult}{v:SV}(h:L1 s r=some v):∃ u,Jq env U r=some u/\SR P B pl tb v u:=by
 cases r with
 |tmp t=>obtain rfl:=osj h;exact⟨_,rfl,hG.env.getD t undef⟩
 |cell a agg size =>
  simp only[L1] at h;cases hb:Nat.blt 0 size with
  |false=>rw[hb] at h;cases h
  |true =>rw[hb] at h;obtain⟨i,o,c,e,wr,t,u,h1,h2,h3,h4⟩:=Pm hG.leB hG.obj (by simpa [zM] using hb) h (hG.env.getD a undef);refine⟨u,?_,h4⟩;simp only[Jq,Q6,Q3,h1,h2,h3];rfl
theorem ZV (hG:Gam P B F pl tb s env U) {rs:List VResult}{v:SV}(h:JJ s rs=some v):∃ u,Zu env U rs=some u/\SR P B pl tb v u:=by
 have all:∀ (rs:List VResult) (l:List SV),rs.mapM (L1 s)=some l->∃ us,rs.mapM (Jq env U)=some us/\SRs P B pl tb l us:=by
  intro rs;induction rs with
  |nil=>intro l h;simp at h;subst h;exact⟨[],rfl,rfl⟩
  |cons r rs ih =>
   intro l h;rw[xt] at h;cases h1:L1 s r with
   |none=>simp[h1] at h
   |some a =>
    cases h2:rs.mapM (L1 s) with
    |none=>simp[h1,h2] at h
    |some l' =>simp[h1,h2] at h;subst h;obtain⟨u,h3,h4⟩:=PE hG h1;obtain⟨us,h5,h6⟩:=ih l' h2;exact⟨u::us,by rw[xt];simp[h3,h5],by simp only[SRs];exact⟨u,us,rfl,h4,h6⟩⟩
 have tup:(rs.mapM (L1 s)).map SV.tup=some v->∃ u,(rs.mapM (Jq env U)).map (λvs=>Value.tuple vs.toArray)=some u/\SR P B pl tb v u:=λh=>by simp only[zx] at h;obtain⟨l,h1,rfl⟩:=h;obtain⟨us,h2,h3⟩:=all rs l h1;exact⟨.tuple us.toArray,by rw[h2];rfl,by simp only[SR];exact⟨us,rfl,h3⟩⟩
 match rs,h,tup with
 |[r],h,_=>exact PE hG h
 |[],h,tup=>exact tup h
 |_::_::_,h,tup=>exact tup h
theorem Mm {mp cm:List (Nat×Option Nat)}{j:Nat}{a:Option Nat}(h:Q30 mp j a=some cm) (hi:Inj mp):Inj cm:=by
 unfold Q30 at h;split at h
 .cases h
 .split at h
  .rename_i x;split at h
   .cases h
   .rename_i hc;obtain rfl:=osj h;have cY:∀ d,Qq mp d≠some (some x):=λd hd=>by
     obtain⟨p,h1,h2,h3⟩:=Ln hd;exact hc (xF.2 ⟨p,h1,by rw[h3];simp⟩)
    intro t1 t2 a' h1 h2;rw[KY] at h1 h2;split at h1
    .rename_i y1 e1;split at h2
     .rename_i y2 e2;obtain rfl:=osj h1;obtain rfl:=osj h2;exact hi t1 t2 a' e1 e2
     .split at h2
      .obtain rfl:=osj (osj h2);obtain rfl:=osj h1;exact absurd e1 (cY t1)
      .cases h2
    .split at h1
     .obtain rfl:=osj (osj h1);split at h2
      .rename_i y2 e2;obtain rfl:=osj h2;exact absurd e2 (cY t2)
      .split at h2
       .omega
       .cases h2
     .cases h1
  .obtain rfl:=osj h;intro t1 t2 a' h1 h2;rw[KY] at h1 h2;split at h1
   .rename_i y1 e1;split at h2
    .rename_i y2 e2;obtain rfl:=osj h1;obtain rfl:=osj h2;exact hi t1 t2 a' e1 e2
    .split at h2<;>cases h2
   .split at h1<;>cases h1
mutual
theorem Rh:∀ (v r:SV) (mp cm:List (Nat×Option Nat)),EC v r mp=some cm->Inj mp->Inj cm
 |.lst j,r,mp,cm,h,hi=>by
  simp only[EC] at h;split at h
  .exact Mm h hi
  .exact Mm h hi
  .cases h
 |.map j,r,mp,cm,h,hi=>by
  simp only[EC] at h;split at h
  .exact Mm h hi
  .cases h
 |.dd j w,r,mp,cm,h,hi=>by
  simp only[EC] at h;split at h
  .split at h
   .split at h
    .exact Mm h hi
    .cases h
   .exact Mm h hi
   .cases h
  .cases h
 |.box j _,r,mp,cm,h,hi=>by
  simp only[EC] at h;split at h
  .exact Mm h hi
  .cases h
 |.agg l,r,mp,cm,h,hi=>by
  simp only[EC] at h;split at h
  .exact HI l _ mp cm h hi
  .cases h
 |.tup l,r,mp,cm,h,hi=>by
  simp only[EC] at h;split at h
  .exact HI l _ mp cm h hi
  .cases h
 |.any,r,mp,cm,h,hi|.val _ _,r,mp,cm,h,hi|.nilS,r,mp,cm,h,hi|.nilP,r,mp,cm,h,hi|.nilM,r,mp,cm,h,hi|.nilF,r,mp,cm,h,hi=>by simp only[EC] at h;obtain rfl:=osj h;exact hi
 |.sub _ _ _ _,r,mp,cm,h,hi|.elp _ _ _ _,r,mp,cm,h,hi|.grd _ _,r,mp,cm,h,hi|.cp _ _,r,mp,cm,h,hi|.fn _ _ _,r,mp,cm,h,hi|.rop _ _ _ _,r,mp,cm,h,hi|.pf _ _ _ _,r,mp,cm,h,hi|.bid _ _,r,mp,cm,h,hi=>by cases h
theorem HI:∀ (v r:List SV) (mp cm:List (Nat×Option Nat)),AV v r mp=some cm->Inj mp->Inj cm
 |[],r,mp,cm,h,hi=>by simp only[AV] at h;obtain rfl:=osj h;exact hi
 |s::ss,[],mp,cm,h,hi=>by cases h
 |s::ss,r::rs,mp,cm,h,hi=>by
  simp only[AV] at h;split at h
  .rename_i sS h1;exact HI ss rs sS cm h (Rh s r mp sS h1 hi)
  .cases h
end
theorem Ph {mp:List (Nat×Option Nat)}:∀ (bs:List OB) (n:Nat),Ig s mp n bs->∀ j b,bs[j]?=some b->EA s mp (n+j) b
 |[],n,_,j,b,hj=>by simp at hj
 |b0::r,n,h,j,b,hj=>by
  obtain⟨h1,h2⟩:=h;cases j with
  |zero=>simp at hj;subst hj;exact h1
  |succ j =>
   have:=Ph r (n+1) h2 j b (by simpa using hj)
   rwa [zu,xR 1 j] at this
mutual
theorem Ct {n:Nat}{π:Nat->Nat}:∀ (v:SV) (u:Value),v.ret 0=true->SR P B pl tb v u->Ren n π u u
 |.val k x,u,h,hs=>by
  simp only[SR] at hs;cases k with
  |i ik=>simp only[KC] at hs;obtain rfl:=(zR hs).1;exact .plain _ rfl
  |bo=>simp only[KC] at hs;obtain rfl:=(zR hs).1;exact .plain _ rfl
  |st=>simp only[KC] at hs;obtain rfl:=(zR hs).1;exact .plain _ rfl
  |list k=>cases h
  |pair a b =>have h1:=KC.length hs;have h2:=a.size_pos;have h3:=b.size_pos;simp only[Kind.size,xp] at h1;omega
 |.nilS,u,_,hs|.nilP,u,_,hs|.nilM,u,_,hs|.nilF,u,_,hs=>by simp only[SR] at hs;subst hs;exact .plain _ rfl
 |.lst j,u,h,_|.box j _,u,h,_|.map j,u,h,_=>by simp[SV.ret,zM] at h
 |.dd j w,u,h,_=>by cases w<;>simp[SV.ret,zM] at h
 |.agg l,u,h,hs=>by simp only[SR] at hs;obtain⟨cs,rfl,h2⟩:=hs;have:=Hk (n:=n) (π:=π) l cs h h2;exact .agg _ _ rfl λi h3 _=>this _ (by simp)
 |.tup l,u,h,hs=>by simp only[SR] at hs;obtain⟨cs,rfl,h2⟩:=hs;have:=Hk (n:=n) (π:=π) l cs h h2;exact .tuple _ _ rfl λi h3 _=>this _ (by simp)
 |.any,_,h,_|.bid _ _,_,h,_|.grd _ _,_,h,_|.sub _ _ _ _,_,h,_|.elp _ _ _ _,_,h,_|.rop _ _ _ _,_,h,_|.cp _ _,_,h,_|.fn _ _ _,_,h,_|.pf _ _ _ _,_,h,_=>by cases h
theorem Hk {n:Nat}{π:Nat->Nat}:∀ (v:List SV) (u:List Value),SVs.ret 0 v=true->SRs P B pl tb v u->∀ x∈u,Ren n π x x
 |[],u,_,hs=>by simp only[SRs] at hs;subst hs;intro x hx;cases hx
 |s::ss,u,h,hs=>by
  simp only[SVs.ret,z7] at h;simp only[SRs] at hs;obtain⟨x,y,rfl,h1,h2⟩:=hs;intro z hz;rcases zo.1 hz with rfl|hz
  .exact Ct s z h.1 h1
  .exact Hk ss y h.2 h2 z hz
end
theorem E6 (exact:Bool) {σ0:Heap}{sf:St}{mF:Env}{σf:Heap}(hR:GRel P σ0 σ0 σ0 sf mF σf) {rs:List VResult}{v:SV}{bs:List OB}{e:Exit}(hv:v.ret bs.length=true) (hb:bs.all OB.ret=true) (h:Vv rs v bs e sf) (hx:exact=true->bs.all OB.isL=true/\Vk v=true) :
  Z0o σ0 rs (λu U'=>if exact then u=Vm (Tl σ0 bs) v/\U'=BW σ0 bs else Ret P σ0 v bs u U') e mF σf:=by
 have main:(match JJ sf rs with
  |some r=>(match EC v r [] with
   |some mp=>Bo mp v r/\Ig sf mp 0 bs
   |none=>False)
  |none=>False)->QS (Zu mF σf rs) λu=>∃ v' U',DropTo σ0 u σf v' U'/\(if exact then v'=Vm (Tl σ0 bs) v/\U'=BW σ0 bs else Ret P σ0 v bs v' U'):=λh=>by
  split at h
  .rename_i r hr;split at h
   .rename_i mp kC;obtain⟨h1,h2⟩:=h;obtain⟨B,F,pl,tb,⟨hB,hF,_,hd⟩,hG⟩:=hR;obtain⟨u,h3,h4⟩:=ZV hG hr;have iJ:=WV v r u h1 h4;have eo:=Rh v r [] mp kC (λt t' a h=>by cases h);have ao:∀ j b,bs[j]?=some b->EA sf mp j b:=λj b hj=>by have:=Ph bs 0 h2 j b hj;rwa [x3] at this
    rw[h3];have hle:σ0.Le σf:=hF.trans hG.le;have hA:Agree σ0 σf:=λi hi=>by
     cases hg:σ0.get i with
     |none=>exact hd.2 i hi hg
     |some b=>exact hle.2 i b hg
    have aQ:∀ j b,bs[j]?=some b->OR P hNil (Vl pl mp) Zh σf (Vl pl mp j) b/\∀ i,Oid (Vl pl mp j) i->σ0.get i=none/\σ0.n<=i:=λj b hj=>by
     obtain⟨k1,k2⟩:=QC hG (ao j b hj);have dP:=zg.1 hb b (zH hj);have aq:b.live=true:=by cases b<;>first|rfl|cases dP
     refine⟨k1.retd dP λ_ _=>rfl,λi hi=>?_⟩;obtain⟨a,e1,e2,e3⟩:=k2 aq i hi;have lH:=hG.fresh a i e2 e3;have hn:σ0.get i=none:=by
      cases hg:σ0.get i with
      |none=>rfl
      |some b=>rw[hF.2 i b hg] at lH;cases lH
     refine⟨hn,Nat.le_of_not_lt λah=>?_⟩;have bG:=hd.2 i ah hn;have ao:=hG.obj a;cases ho:Q8 sf.own a with
     |dead=>rw[ho] at e2;cases e2
     |lst ty k xs nl =>
      rw[ho] at ao;rcases ao with⟨_,_,h2⟩|⟨_,i',cap,c,t,h2,_,h3,_⟩
      .rw[h2] at e3;cases e3
      .rw[h2] at e3;obtain rfl:=osj e3;rw[h3] at bG;cases bG
     |cells l u=>rw[ho] at ao;obtain⟨i',c,e,t,h2,h3,_⟩:=ao;rw[h2] at e3;obtain rfl:=osj e3;rw[h3] at bG;cases bG
     |mapE kk vk m key n=>rw[ho] at ao;obtain⟨i',es,cl,r,e,h2,h3,_⟩:=ao;rw[h2] at e3;obtain rfl:=osj e3;rw[h3] at bG;cases bG
     |map kk vk m=>rw[ho] at ao;obtain⟨i',es,cl,h2,h3,_⟩:=ao;rw[h2] at e3;obtain rfl:=osj e3;rw[h3] at bG;cases bG
     |stk l vals=>rw[ho] at e2;cases e2
     |lpf l q s=>rw[ho] at ao e2;obtain⟨h2,_,h3⟩:=ao;rw[h2] at e3;obtain rfl:=osj e3;have h3:=h3 e2;rw[bG] at h3;cases h3
     |iter kk vk m dn=>rw[ho] at ao;obtain⟨j',i',es,cl,wr,seen,h2,h3,_⟩:=ao;rw[h2] at e3;obtain rfl:=osj e3;rw[h3] at bG;cases bG
     |deep ty q k xs nl hh =>rw[ho] at ao;obtain⟨is,_,d2,d3,_⟩:=DP.open ao;obtain⟨c,e,t,h⟩:=d2.cells i ((d3 i).1 e3);rw[h] at bG;cases bG
    have dB:∀ j j' i,j<bs.length->j'<bs.length->j≠j'->Oid (Vl pl mp j) i->Oid (Vl pl mp j') i->False:=λj j' i hj cC aB hi cD=>by
     have bB:=z6 hj;have cA:=z6 cC;have r1:=zg.1 hb _ (zr hj);have r2:=zg.1 hb _ (zr cC);have l1:(bs[j]).live=true:=by cases kV:bs[j]<;>first|rfl|(rw[kV] at r1;cases r1)
     have l2:(bs[j']).live=true:=by cases kV:bs[j']<;>first|rfl|(rw[kV] at r2;cases r2)
     obtain⟨a,e1,e2,e3⟩:=(QC hG (ao j _ bB)).2 l1 i hi;obtain⟨a',rD,jI,rE⟩:=(QC hG (ao j' _ cA)).2 l2 i cD;by_cases e:a=a'
     .subst e;exact aB (eo j j' a e1 rD)
     .exact hG.sep a a' i e e2 jI e3 rE
    cases hex:exact with
    |true =>obtain⟨hl,cR⟩:=hx hex;have oY:=Aj (P:=P) hA hle.1 hv cR hb hl (pl:=Vl pl mp) (u:=u) (λj b hj=>⟨(aQ j b hj).1,λi hi=>((aQ j b hj).2 i (HZ hi)).2⟩) (λj j' i a b c d e=>dB j j' i a b c (HZ d) (HZ e)) (iJ.retd (λj hj=>rfl) _ _ hv);exact⟨_,_,oY,by simp⟩
    |false =>
     simp only[zD,if_false];by_cases cj:bs=[]
     .subst cj;refine⟨u,σ0,.rename (λi=>i) (zf _) (λi hi=>⟨rfl,(hA i hi).symm,.inl (hA i hi)⟩) (λi k1 k2=>by omega) (λ_ _ _ _ _ _ h=>h) (Ct v u hv iJ),?_⟩;exact⟨⟨Heap.Le.refl _,Dead.refl _⟩,λ_=>rfl,Jg,(λj b hj=>by simp at hj),(λj j' i hj=>by simp at hj),iJ.retd (λj hj=>by simp at hj) _ _ hv⟩
     .exact⟨u,σf,.refl _ _ _,⟨hle,hd⟩,λe=>absurd e cj,Vl pl mp,aQ,dB,iJ.retd (λj hj=>rfl) _ _ hv⟩
   .exact h.elim
  .exact h.elim
 cases e with
 |normal=>exact main h
 |ret=>exact main h
 |_=>exact h.elim
def Qw (nt:Nat) (args:List SV):St:=⟨args++List.replicate (nt-args.length) .any,[],0⟩
theorem AB {args:List SV}{vs:List Value}(h:SRs P U Jg Zh args vs) (nt:Nat):GRel P U U U (Qw nt args) (vs++List.replicate (nt-vs.length) undef) U:=by
 have u6:∀ n,SRs P U Jg Zh (List.replicate n .any) (List.replicate n undef):=by
  intro n;induction n with
  |zero=>simp[SRs]
  |succ n ih=>simp only[xw,SRs];exact⟨_,_,rfl,by simp[SR],ih⟩
 refine⟨U,U,Jg,Zh,⟨Heap.Le.refl _,Heap.Le.refl _,(λi b h1 h2=>by rw[h2] at h1;cases h1),Dead.refl _⟩,Heap.Le.refl _,Heap.Le.refl _,?_,λd=>trivial,(λd i hl=>by cases hl),(λd d' i _ hl=>by cases hl),λ_ _=>rfl⟩;have:=h.length;simp only[Qw,this];exact h.append (u6 _)
theorem Fun.okC {f:Nat}{vc:VCode}{rs:List VResult}{nt:Nat}(h:Fun P f vc rs nt) (hm:P.follows .mixedOrders=true) {sp:CSp}
  (hb:∀ ap,Ey P ap->∀ args c v bs,sp ap args=some (c,v,bs)->c->∃ (C:Cx) (L:List (Nat×LoopAnn)) (cI:List SV),(∀ U vs,SRs P U Jg Zh args vs->SRs P U Jg Zh cI vs)/\COk P C/\gwp C L vc 0 (Vv rs v bs) (Qw nt cI)):OkC P f sp:=by
 intro ap dR U args vs c v bs ax cy hv cj hc;obtain⟨C,L,cI,h1,h2,h3⟩:=hb ap dR args c v bs cy hc;have main:∀ exact:Bool,(exact=true->bs.all OB.isL=true/\Vk v=true)->VCalled P f vs U λu U'=>if exact then u=Vm (Tl U bs) v/\U'=BW U bs else Ret P U v bs u U':=λexact hx=>by refine h.calls hm GC ?_;exact Ye h2 vc 0 _ _ _ U none _ trivial (AB (h1 U vs ax) nt) h3 λe s' af U' k1 k2=>E6 exact k2 hv cj k1 hx
 refine⟨(main false λe=>by cases e).mono λu U' hr=>by simpa using hr,λhl cR=>(main true λ_=>⟨hl,cR⟩).mono λu U' hr=>by simpa using hr⟩
theorem OkC.true {f:Nat}{sp:CSp}(h:OkC P f sp) (he:J8 P f) {U:Heap}{args:List SV}{vs:List Value}(ha:SRs P U Jg Zh args vs) {c:Prop}(hs:sp (λ_ _=>none) args=some (c,.val .bo true,[])) (hc:c) :
  VCallsTo P f vs U λv _=>v=.bool true:=by
 have:=(h (λ_ _=>none) (λ_ _ _ _ _ _ _ _ _ h=>by cases h) U args vs c _ [] ha hs rfl rfl hc).1;intro ρ w aw hH hL;rcases this ρ w aw hH hL with⟨_,h2⟩|⟨c',_,h2⟩
 .refine h2.mono λe w' ⟨c',h3,h4⟩=>⟨c',h3,h4.mono λu U' hr=>?_⟩;have:=(hr.flat rfl).2;simpa only [SR,KC,List.cons.injEq,and_true] using this
 .have:=h2 w (Like.refl ρ w);rw[Yl he aw w] at this;cases this
end
end Go.V
namespace Go.V
open Go
mutual
inductive AP:Type->Type 1 where
 |k (k:Kind):AP k.T
 |agg {D:Type}(l:AL D):AP D
 |ptr {D:Type}(l:AL D):AP D
 |fn (ks:List Kind) (r:Kind):AP ((AT ks->Prop)×(AT ks->r.T))
 |nilS:AP Unit
 |any:AP Unit
 |int (k:IntKind) (n:Int):AP Unit
inductive AL:Type->Type 1 where
 |nil:AL Unit
 |one {D:Type}(a:AP D):AL D
 |cons {D E:Type}(a:AP D) (r:AL E):AL (D×E)
end
def RP:(ks:List Kind)->AT ks->List SV
 |[],_=>[]
 |[k],x=>[LN k x]
 |k::k'::ks,x=>LN k x.1::RP (k'::ks) x.2
abbrev Ap:=SV->List SV->Option (Prop×SV)
def Q03 (ap:Ap) (f:SV) (ks:List Kind) (r:Kind) (x:AT ks):Prop:=match ap f (RP ks x) with
 |some (c,v)=>(match gap.asV r v with|some _=>c|none=>False)
 |none=>False
def fnP (ap:Ap) (f:SV) (ks:List Kind) (r:Kind) (x:AT ks):r.T:=match ap f (RP ks x) with
 |some (_,v)=>(match gap.asV r v with|some y=>y|none=>r.dflt)
 |none=>r.dflt
mutual
def AP.dec (ap:Ap):{D:Type}->(p:AP D)->SV->Option D
 |_,.k k,v=>match k with
  |.list k=>view [] k v
  |.i ik=>PY (.i ik) [v]
  |.bo=>PY .bo [v]
  |.st=>PY .st [v]
  |.pair _ _=>none
 |_,.agg l,v=>match v with|.agg vs=>AL.dec ap l vs|_=>none
 |_,.nilS,v=>match v with|.nilS=>some ()|_=>none
 |_,.any,_=>some ()
 |_,.int k n,v=>match PY (.i k) [v] with|some x=>if (show Int from x)=n then some () else none|none=>none
 |_,.ptr l,v=>match v with|.cp vs 0=>AL.dec ap l vs|_=>none
 |_,.fn ks r,v=>match v with
  |.fn g a b=>some (Q03 ap (.fn g a b) ks r,fnP ap (.fn g a b) ks r)
  |.pf sU r' c_ p=>some (Q03 ap (.pf sU r' c_ p) ks r,fnP ap (.pf sU r' c_ p) ks r)
  |_=>none
def AL.dec (ap:Ap):{D:Type}->(l:AL D)->List SV->Option D
 |_,.nil,vs=>match vs with|[]=>some ()|_=>none
 |_,.one a,vs=>match vs with|[v]=>AP.dec ap a v|_=>none
 |_,.cons a r,vs=>match vs with
  |v::vs=>(match AP.dec ap a v,AL.dec ap r vs with|some x,some y=>some (x,y)|_,_=>none)
  |[]=>none
end
mutual
def AP.can:{D:Type}->(p:AP D)->D->SV
 |_,.k k,x=>.val k x
 |_,.agg l,x=>.agg (AL.can l x)
 |_,.nilS,_=>.nilS
 |_,.any,_=>.any
 |_,.int k n,_=>.val (.i k) n
 |_,.ptr l,x=>.cp (AL.can l x) 0
 |_,.fn ks r,x=>.pf ks r x.1 x.2
def AL.can:{D:Type}->(l:AL D)->D->List SV
 |_,.nil,_=>[]
 |_,.one a,x=>[AP.can a x]
 |_,.cons a r,x=>AP.can a x.1::AL.can r x.2
end
def V7 {D:Type}(l:AL D) (pre:D->Prop) (res:D->SV) (obs:D->List OB):CSp:=λap args=>match AL.dec ap l args with
 |some d=>some (pre d,res d,obs d)
 |none=>none
section
variable {P:Program}{U:Heap}
theorem Gl:∀ {ks:List Kind}{x:AT ks}{vs:List Value},TH U ks x vs->SRs P U Jg Zh (RP ks x) vs
 |[],x,vs,h=>by simp only[TH] at h;subst h;simp[RP,SRs]
 |[k],x,vs,h=>by obtain⟨v,rfl,h1⟩:=h;simp only[RP,SRs];exact⟨v,[],rfl,Jw h1,rfl⟩
 |k::k'::ks,x,vs,h=>by obtain⟨v,cW,rfl,h1,h2⟩:=h;simp only[RP,SRs];exact⟨v,cW,rfl,Jw h1,Gl h2⟩
theorem Cr {ap:Ap}(dR:Ey P ap) {f:SV}{v:Value}(hf:SR P U Jg Zh f v) (hv:∃ g a b,v=.func (.func g) a b) (ks:List Kind) (r:Kind):SR P U Jg Zh (.pf ks r (Q03 ap f ks r) (fnP ap f ks r)) v:=by
 obtain⟨g,a,b,rfl⟩:=hv;simp only[SR];refine⟨g,a,b,rfl,λx hd Z vs hle cN=>?_⟩;unfold Q03 at hd;split at hd
 .rename_i c u oZ;split at hd
  .rename_i y hy;obtain⟨h1,g',a',b',h2,h3⟩:=dR Z f (RP ks x) c u (.func (.func g) a b) vs (SR.mono hle (λ_ _ h=>h) _ _ hf) (Gl cN) oZ hd;obtain⟨rfl,rfl,rfl⟩:=(by simpa using h2:g=g'/\a=a'/\b=b');have hp:fnP ap f ks r x=y:=by simp[fnP,oZ,hy]
   rw[hp];exact h3.mono λu' U' hu=>⟨hu.1,(Pd hy hu.2).vcall (C_ _)⟩
  .exact hd.elim
 .exact hd.elim
mutual
theorem AP.q0k {ap:Ap}(dR:Ey P ap):∀ {D:Type}(p:AP D) {v:SV}{x:D}{u:Value},AP.dec ap p v=some x->SR P U Jg Zh v u->SR P U Jg Zh (AP.can p x) u
 |_,.k k,v,x,u,h,hs=>by
  have one:SRs P U Jg Zh [v] [u]:=by simp only[SRs];exact⟨u,[],rfl,hs,rfl⟩
  simp only[AP.can,SR];cases k with
  |list k =>have:=WZ (own:=[]) (Heap.Le.refl U) (λd=>(trivial:OR P U Jg Zh U (Jg d) .dead)) (show view [] k v=some x from h) hs;exact⟨u,rfl,this⟩
  |i ik=>exact QD (k:=.i ik) h one
  |bo=>exact QD (k:=.bo) h one
  |st=>exact QD (k:=.st) h one
  |pair a b=>cases h
 |_,.agg l,v,x,u,h,hs=>by
  simp only[AP.dec] at h;split at h
  .simp only[SR] at hs;obtain⟨cs,rfl,hs⟩:=hs;simp only[AP.can,SR];exact⟨cs,rfl,AL.q0k dR l h hs⟩
  .cases h
 |_,.any,v,x,u,h,hs=>by simp only[AP.can,SR]
 |_,.int k n,v,x,u,h,hs=>by
  have one:SRs P U Jg Zh [v] [u]:=by simp only[SRs];exact⟨u,[],rfl,hs,rfl⟩
  simp only[AP.dec] at h;split at h
  .rename_i y hy;split at h
   .rename_i e;subst e;simp only[AP.can,SR];exact QD (k:=.i k) hy one
   .cases h
  .cases h
 |_,.nilS,v,x,u,h,hs=>by
  simp only[AP.dec] at h;split at h
  .simp only[AP.can];exact hs
  .cases h
 |_,.ptr l,v,x,u,h,hs=>by
  simp only[AP.dec] at h;split at h
  .simp only[SR] at hs;obtain⟨b,c,e,wr,t,h1,rfl,h3⟩:=hs;simp only[AP.can,SR];exact⟨b,c,e,wr,t,h1,rfl,AL.q0k dR l h h3⟩
  .cases h
 |_,.fn ks r,v,x,u,h,hs=>by
  simp only[AP.dec] at h;split at h
  .obtain rfl:=osj h;exact Cr dR hs (by simp only[SR] at hs;obtain⟨x,y,rfl,_⟩:=hs;exact⟨_,_,_,rfl⟩) ks r
  .obtain rfl:=osj h;exact Cr dR hs (by simp only[SR] at hs;obtain⟨g,x,y,rfl,_⟩:=hs;exact⟨_,_,_,rfl⟩) ks r
  .cases h
theorem AL.q0k {ap:Ap}(dR:Ey P ap):∀ {D:Type}(l:AL D) {vs:List SV}{x:D}{us:List Value},AL.dec ap l vs=some x->SRs P U Jg Zh vs us->SRs P U Jg Zh (AL.can l x) us
 |_,.nil,vs,x,us,h,hs=>by
  simp only[AL.dec] at h;split at h
  .exact hs
  .cases h
 |_,.one a,vs,x,us,h,hs=>by
  simp only[AL.dec] at h;split at h
  .obtain⟨u,rfl,h1⟩:=hs.one;simp only[AL.can,SRs];exact⟨u,[],rfl,AP.q0k dR a h h1,rfl⟩
  .cases h
 |_,.cons a r,vs,x,us,h,hs=>by
  simp only[AL.dec] at h;split at h
  .rename_i v cW;split at h
   .rename_i y z h1 h2;obtain rfl:=osj h;simp only[SRs] at hs;obtain⟨u,jH,rfl,h3,h4⟩:=hs;simp only[AL.can,SRs];exact⟨u,jH,rfl,AP.q0k dR a h1 h3,AL.q0k dR r h2 h4⟩
   .cases h
  .cases h
end
theorem CsOk.nil:CsOk P []:=λf sp h=>by cases h
theorem CsOk.cons {f:Nat}{sp:CSp}{cs:List (Nat×CSp)}(h:OkC P f sp) (t:CsOk P cs):CsOk P ((f,sp)::cs):=λg u7 hg=>by
 simp only[Qq] at hg;cases hb:Nat.beq f g with
 |true=>rw[hb] at hg;obtain rfl:=zN hb;obtain rfl:=osj hg;exact h
 |false=>rw[hb] at hg;exact t g u7 hg
theorem COk.cons {C:Cx}{f:Nat}{sp:CSp}(h:OkC P f sp) (t:COk P C):COk P {C with cs:=(f,sp)::C.cs}:=⟨CsOk.cons h t.cs,t.xs,t.it,t.yl,t.iy,t.xf⟩
theorem Q8i {f:Nat}{vc:VCode}{rs:List VResult}{nt:Nat}(h:Fun P f vc rs nt) (hm:P.follows .mixedOrders=true) {D:Type}{l:AL D}{pre:D->Prop}{res:D->SV}{obs:D->List OB}
  {C:Cx}(aA:COk P C) (L:D->List (Nat×LoopAnn)) (hb:∀ d,pre d->gwp C (L d) vc 0 (Vv rs (res d) (obs d)) (Qw nt (AL.can l d))):OkC P f (V7 l pre res obs):=by
 refine h.okC hm λap dR args c v bs hs hc=>?_;unfold V7 at hs;split at hs
 .rename_i d hd;obtain⟨rfl,rfl,rfl⟩:=(by simpa using hs:pre d=c/\res d=v/\obs d=bs);exact⟨C,L d,AL.can l d,λU vs hv=>AL.q0k dR l hd hv,aA,hb d hc⟩
 .cases hs
theorem Z4 {f:Nat}{vc:VCode}{rs:List VResult}{nt:Nat}(h:Fun P f vc rs nt) (hm:P.follows .mixedOrders=true) {D:Type}{l:AL D}{pre:D->Prop}{res:D->SV}{obs:D->List OB}
  {C:Cx}(aA:COk P C) {L:D->List (Nat×LoopAnn)}{V:D->Prop}(hq:∀ d,gwp C (L d) vc 0 (Vv rs (res d) (obs d)) (Qw nt (AL.can l d))=V d) (hb:∀ d,pre d->V d):OkC P f (V7 l pre res obs) :=
 Q8i h hm aA L λd hp=>(hq d).mpr (hb d hp)
end
end Go.V
namespace Go.V
open Go
def Z2s (key:Nat) (vals:List Value) (rs:List VResult) (K:SV->St->Prop):Exit->St->Prop:=λe s =>
 let fin:=match JJ s rs,Q8 s.own key with
  |some r,.stk l vs=>vs=vals/\K r ⟨l,s.own,s.nx⟩
  |_,_=>False
 match e with
 |.normal=>fin
 |.ret=>fin
 |_=>False
def Q0j (C:Cx) (L:List Value->List (Nat×LoopAnn)) (vc:VCode) (rs:List VResult) (nt:Nat):XSp:=λd args s K =>
 ∀ vals,gwp {C with off:=100000*(d+1)} (L vals) vc 0 (Z2s (100000*(d+1)-1) vals rs K) ⟨SVs.kill (100000*(d+1)-1) args++List.replicate (nt-args.length) .any,(Lt (100000*(d+1)-1) vals s).own,s.nx⟩
def Z43 (C:Cx) (L:List (Nat×LoopAnn)) (vc:VCode) (nt:Nat):Q62:=λo args y s K =>
 gwp {C with off:=100000*(o+1),yl:=[y]} L vc 0 (λe s'=>match e with|.normal=>K s'|.ret=>K s'|_=>False) ⟨args++List.replicate (nt-args.length) .any,s.own,s.nx⟩
section
variable {P:Program}
theorem Ni {B:Heap}{pl:Nat->Value}{tb:Nat->Option Bool}:∀ n,SRs P B pl tb (List.replicate n .any) (List.replicate n undef)
 |0=>by simp[SRs]
 |n+1=>by simp only[xw,SRs];exact⟨_,_,rfl,by simp[SR],Ni n⟩
theorem NV {f:Nat}{vc:VCode}{rs:List VResult}{nt:Nat}(h:Fun P f vc rs nt) (hm:P.follows .mixedOrders=true) {C:Cx}(aA:COk P C) (L:List Value->List (Nat×LoopAnn)):XOk P f (Q0j C L vc rs nt):=by
 intro B F pl tb s env U d args vs K R hG ha hx hK;have hx:=hx env;refine h.calls hm GC ?_;have q3:Gam P B F (Jf pl (100000*(d+1)-1) poison) tb (Lt (100000*(d+1)-1) env s) env U:=by refine hG.make _ _ poison hG.le (λ_ _ _ _ _=>rfl) ?_ (λi hl _=>by cases hl);exact SRs.upd (.refl _) (λ_ _ h=>h) (λj hj=>by simp[Jf,hj]) _ _ hG.env
 have ew:COk P {C with off:=100000*(d+1)}:=⟨aA.cs,aA.xs,aA.it,aA.yl,aA.iy,aA.xf⟩;have ax:=SRs.upd (P:=P) (Heap.Le.refl B) (λ_ _ h=>h) (pl':=Jf pl (100000*(d+1)-1) poison) (tb':=tb) (o:=100000*(d+1)-1) (λj hj=>by simp[Jf,hj]) _ _ ha;have bg:GRel P B F U ⟨SVs.kill (100000*(d+1)-1) args++List.replicate (nt-args.length) .any,(Lt (100000*(d+1)-1) env s).own,s.nx⟩ (vs++List.replicate (nt-vs.length) undef) U:=by refine⟨B,F,_,tb,.of hG.bf (.refl _),⟨q3.bf,q3.le,?_,q3.obj,q3.fresh,q3.sep,q3.free⟩⟩;rw[ha.length];exact ax.append (Ni _)
 refine Ye ew vc 0 _ _ _ U none _ trivial bg hx λe s' af U' h1 h2=>?_
 .have main:(match JJ s' rs,Q8 s'.own (100000*(d+1)-1) with
   |some r,.stk l vs=>vs=env/\K r ⟨l,s'.own,s'.nx⟩
   |_,_=>False)->QS (Zu af U' rs) λv=>∃ v' aE,DropTo U v U' v' aE/\R v' aE:=λh=>by
   obtain⟨B',F',pl',tb',k1,k2⟩:=h2;split at h
   .rename_i r l cW hr gQ;obtain⟨rfl,h⟩:=h;obtain⟨u,h3,h4⟩:=ZV k2 hr;rw[h3];have ao:=k2.obj (100000*(d+1)-1);rw[gQ] at ao;exact⟨u,U',.refl _ _ _,hK r _ B' F' pl' tb' u U' h k1 ⟨k2.bf,k2.le,ao,k2.obj,k2.fresh,k2.sep,k2.free⟩ h4⟩
   .exact h.elim
  cases e with
  |normal=>exact main h1
  |ret=>exact main h1
  |_=>exact h1.elim
theorem Q4e {f:Nat}{vc:VCode}{nt:Nat}(h:Fun P f vc [] nt) (hm:P.follows .mixedOrders=true) {C:Cx}(aA:COk P C) (L:List (Nat×LoopAnn)):Q6g P f (Z43 C L vc nt):=by
 refine⟨h.enterable,λB F pl tb s env U o args vs y K R hG ha hy hx hK=>h.callsTo hm GC ?_⟩;have ew:COk P {C with off:=100000*(o+1),yl:=[(o,y)]}:=⟨aA.cs,aA.xs,aA.it,λo' y' h'=>by
  simp only[Qq] at h';cases hb:Nat.beq o o' with
  |true=>rw[hb] at h';obtain rfl:=zN hb;obtain rfl:=osj h';exact hy
  |false=>rw[hb] at h';exact(by cases h'),aA.iy,aA.xf⟩
 have bg:GRel P B F U ⟨args++List.replicate (nt-args.length) .any,s.own,s.nx⟩ (vs++List.replicate (nt-vs.length) undef) U:=by refine⟨B,F,pl,tb,.of hG.bf (Dead.refl _),⟨hG.bf,hG.le,?_,hG.obj,hG.fresh,hG.sep,hG.free⟩⟩;rw[ha.length];exact ha.append (Ni _)
 refine Ye ew vc 0 _ _ _ U none _ trivial bg hx λe s' af U' h1 h2=>?_;have main:K s'->QS (Zu af U' []) λv=>∃ v' aE,DropTo U v U' v' aE/\R aE:=λh=>by obtain⟨B',F',pl',tb',k1,k2⟩:=h2;exact⟨_,U',.refl _ _ _,hK s' B' F' pl' tb' af U' h k1 k2⟩
 cases e with
 |normal=>exact main h1
 |ret=>exact main h1
 |_=>exact h1.elim
end
end Go.V
namespace Go.V
open Go
def Z3u:SV->Option Nat
 |.lst o=>some o
 |.box o off=>bif Nat.beq off 0 then some o else none
 |_=>none
def lsv:OB->SV
 |.lst _ _ _ _=>.lst 0
 |_=>.box 0 0
def Z41:SV->OB->Bool
 |.lst _,.lst _ _ _ _=>true
 |.box _ _,.cells _ _=>true
 |_,_=>false
abbrev LSp:=Ap->OB->List SV->Option (Prop×SV×OB)
def Q4z (ap:Ap) (sp:LSp):XSp:=λ_ args s K =>
 match args with
 |a::args=>(match Z3u a with
  |some o=>bif (Q8 s.own o).ret&&Z41 a (Q8 s.own o) then (match sp ap (Q8 s.own o) (Bv (oset s.own o .dead) args) with
    |some (c,v,b)=>bif v.ret 0&&b.ret then c/\K v ⟨s.env,oset s.own o b,s.nx⟩ else False
    |none=>False) else False
  |none=>False)
 |[]=>False
def D4 (nt:Nat) (a0:SV) (b:OB) (vals:List Value) (args:List SV):St:=⟨a0::(args++List.replicate (nt-(args.length+1)) .any),[(0,b),(4000000,.stk [a0] vals)],0⟩
def Q3y (vals:List Value) (rs:List VResult) (v:SV) (b:OB) (a0:SV):Exit->St->Prop:=λe s =>
 let fin:=match JJ s rs,Q8 s.own 4000000 with
  |some r,.stk l vs=>vs=vals/\VO [(0,some 0)] [a0] l/\Bo [] v r/\EA s [(0,some 0)] 0 b
  |_,_=>False
 match e with
 |.normal=>fin
 |.ret=>fin
 |_=>False
section
variable {P:Program}
theorem Heap.Le.kill' {B U:Heap}(h:B.Le U) {i:Nat}(hi:B.get i=none):B.Le (U.kill i):=⟨h.1,λj b hb=>by
 have:j≠i:=by rintro rfl;rw[hi] at hb;cases hb
 rw[Heap.q0d _ this];exact h.2 _ _ hb⟩
theorem Heap.q2c (U:Heap) (i:Nat):(U.kill i).Le U:=⟨zf _,λj b hb=>by
 by_cases e:j=i
 .subst e;rw[Heap.q0g] at hb;cases hb
 .rwa [Heap.q0d _ e] at hb⟩
def Ru (U:Heap) (p:Value):Heap:=match oid p with|some i=>U.kill i|none=>U
theorem Oe (U:Heap) (p:Value):(Ru U p).Le U:=by
 unfold Ru;split
 .exact Heap.q2c _ _
 .exact .refl _
theorem CV {B U:Heap}{p:Value}(h:B.Le U) (hi:∀ i,oid p=some i->B.get i=none):B.Le (Ru U p):=by
 unfold Ru;split
 .rename_i i e;exact h.kill' (hi i e)
 .exact h
theorem AH {U:Heap}{p:Value}{i:Nat}(h:oid p=some i):(Ru U p).get i=none:=by unfold Ru;rw[h];exact Heap.q0g _ _
theorem Iv {U:Heap}{p:Value}{i:Nat}(h:oid p≠some i):(Ru U p).get i=U.get i:=by
 unfold Ru;split
 .rename_i j e;exact Heap.q0d _ (by rintro rfl;exact h e)
 .rfl
theorem Q3v {p:Value}{i:Nat}(hp:∀ l,p≠.tuple l) (h:Oid p i):oid p=some i:=by cases p<;>first|exact h|exact absurd rfl (hp _)
theorem OB.q2g {b:OB}(h:b.ret=true):b.live=true:=by cases b<;>first|rfl|cases h
mutual
theorem AP.q0l:∀ {D:Type}(p:AP D) (x:D),(AP.can p x).pure=true
 |_,.k k,x=>rfl
 |_,.agg l,x=>by simp only[AP.can,SV.pure];exact AL.q0l l x
 |_,.nilS,x=>rfl
 |_,.any,x=>rfl
 |_,.int k n,x=>rfl
 |_,.ptr l,x=>by simp only[AP.can,SV.pure];exact AL.q0l l x
 |_,.fn ks r,x=>rfl
theorem AL.q0l:∀ {D:Type}(l:AL D) (x:D),SVs.pure (AL.can l x)=true
 |_,.nil,x=>rfl
 |_,.one a,x=>by simp only[AL.can,SVs.pure,AP.q0l a x];rfl
 |_,.cons a r,x=>by simp only[AL.can,SVs.pure,AP.q0l a x.1,AL.q0l r x.2];rfl
end
def AU (ty:Nat) (k:Kind) {D:Type}(l:AL D) (pre:List k.T->Bool->D->Prop) (res:List k.T->Bool->D->SV) (post:List k.T->Bool->D->List k.T):LSp:=λap b args=>match b with
 |.lst gj _k' xs nl=>if gj=ty then (match Vu xs k,AL.dec ap l args with
  |some xs,some d=>some (pre xs nl d,res xs nl d,.lst ty k (post xs nl d) nl)
  |_,_=>none) else none
 |_=>none
end
end Go.V
namespace Go.V
open Go
abbrev lI {α:Type}(l:List α):Int:=(l.length:Int)
abbrev gD {α:Type}(l:List α) (i:Int) (d:α):α:=l.getD i.toNat d
abbrev sT {α:Type}(l:List α) (i:Int) (x:α):List α:=l.set i.toNat x
abbrev I64 (x:Int):Prop:=InK .i64 x
theorem Qm (x:Int):InK .i64 x<->-9223372036854775808<=x/\x<=9223372036854775807:=by simp[InK,IntKind.min,IntKind.max,IntKind.bits,IntKind.signed]
theorem Cs (x:Int):InK .u8 x<->0<=x/\x<=255:=by simp[InK,IntKind.min,IntKind.max,IntKind.bits,IntKind.signed]
theorem DU (x:Int):InK .u64 x<->0<=x/\x<=18446744073709551615:=by simp[InK,IntKind.min,IntKind.max,IntKind.bits,IntKind.signed]
theorem LoopP.count {F:Int->(Int->Prop)->Prop}(n:Nat) (J:Nat->Prop) (h0:J 0) (hr:∀ k:Nat,k<=n->J k->∀ q:Int->Prop,(k<n->J (k+1)->q ((k:Int)+1))->F k q):LoopP F 0:=by refine⟨λd=>∃ k:Nat,d=k/\k<=n/\J k,λd=>n-d.toNat,⟨0,rfl,Nat.zero_le _,h0⟩,λd ⟨k,hd,hk,hJ⟩=>?_⟩;subst hd;refine hr k hk hJ _ λah o3=>⟨⟨k+1,by simp,ah,o3⟩,?_⟩;simp;omega
theorem LoopP.count2 {X:Type}{F:X×Int->(X×Int->Prop)->Prop}(n:Nat) (J:Nat->X->Prop) {x0:X}(h0:J 0 x0) (hr:∀ (k:Nat) (x:X),k<=n->J k x->∀ q:X×Int->Prop,(∀ x',k<n->J (k+1) x'->q (x',(k:Int)+1))->F (x,(k:Int)) q):LoopP F (x0,0):=by refine⟨λd=>∃ k:Nat,d.2=k/\k<=n/\J k d.1,λd=>n-d.2.toNat,⟨0,rfl,Nat.zero_le _,h0⟩,λ⟨x,d⟩ ⟨k,hd,hk,hJ⟩=>?_⟩;simp only at hd hJ;subst hd;refine hr k x hk hJ _ λx' ah o3=>⟨⟨k+1,by simp,ah,o3⟩,?_⟩;simp;omega
theorem Qh {α:Type}{l:List α}{k:Nat}{d:α}(h:k<l.length):l.getD k d=l[k]:=by simp[ze,z6 h]
theorem KX {α:Type}{l:List α}{k:Nat}(h:k<l.length):l.take (k+1)=l.take k++[l[k]]:=by rw[List.take_succ_eq_append_getElem h]
def Q37 (agg:Bool) (sz:Nat):VCode :=
 .seq (.region [
  ⟨(some 4),.load false 1 (.tmp 1),none⟩,
  ⟨(some 5),.len (.tmp 4),none⟩,
  ⟨(some 6),.arith .sub (.tmp 5) (.const (.int .i64 (1))),none⟩,
  ⟨(some 3),.move (.tmp 6),none⟩])
 (.block 0 (.loop (.seq (.seq (.region [
    ⟨(some 7),.move (.tmp 3),none⟩,
    ⟨(some 8),.cmp .geq (.tmp 7) (.const (.int .i64 (0))),none⟩])
   (.cond (.tmp 8) (.skip)
    (.exit 0)))
   (.seq (.block 1 (.seq (.region [
     ⟨(some 11),.move (.tmp 0),none⟩,
     ⟨(some 12),.move (.tmp 3),none⟩,
     ⟨(some 13),.load false 1 (.tmp 1),none⟩,
     ⟨(some 14),.move (.tmp 3),none⟩,
     ⟨(some 15),.indexAddr sz (.tmp 13) (.tmp 14),none⟩,
     ⟨(some 16),.load agg sz (.tmp 15),none⟩,
     ⟨(some 17),.callV (.tmp 11) [.tmp 12,.tmp 16],none⟩,
     ⟨(some 18),.un .not (.tmp 17),none⟩])
    (.cond (.tmp 18) (.ret)
     (.skip))))
   (.region [
    ⟨(some 9),.move (.tmp 3),none⟩,
    ⟨(some 10),.arith .sub (.tmp 9) (.const (.int .i64 (1))),none⟩,
    ⟨(some 3),.move (.tmp 10),none⟩])))))
def Z1r (k:Kind):ISp:=λargs=>match args with
 |[.cp l 0]=>(match l with
  |[.val (.list _k') l]=>(match Vu l k with
   |some l=>some (l.length<4611686018427387904,l.length,2,λj=>[.val (.i .i64) ((l.length:Int)-1-j),LN k (l.getD (l.length-1-j) k.dflt)])
   |none=>none)
  |_=>none)
 |_=>none
section
variable {P:Program}
theorem Ip:∀ (k:Kind) (x:k.T),(LN k x).pure=true
 |.i _,_|.bo,_|.st,_|.list _,_=>rfl
 |.pair a b,x=>by
  have app:∀ l m:List SV,SVs.pure l=true->SVs.pure m=true->SVs.pure (l++m)=true:=by
   intro l m hl hm;induction l with
   |nil=>exact hm
   |cons s l ih =>simp only[SVs.pure,z7,xA] at hl |-;exact⟨hl.1,ih hl.2⟩
  have cells:∀ (k:Kind) (x:k.T),SVs.pure (UD k x)=true:=by
   intro k;induction k with
   |pair a b fp eK=>intro x;exact app _ _ (fp x.1) (eK x.2)
   |_=>intro x;rfl
  simp only[LN,SV.pure];exact cells (.pair a b) x
theorem st1 {S:VSpecs}{d:Nat}{op:VOp}{rest:List VOper}{env:Env}{U:Heap}{K:Env->Heap->Prop}{v:Value}(hv:∀ K',vop S op env U K'=QS (Q6 op (Q3 env) U) λp=>K' p.1 p.2) (h:Q6 op (Q3 env) U=some (v,U)) (hr:DT S rest (env.set d v) U K):DT S (⟨some d,op,none⟩::rest) env U K:=by show QS (some true) _;refine⟨λ_=>?_,λe=>by cases e⟩;rw[hv,h];exact hr
theorem Q4u {B Z:Heap}(hle:B.Le Z) {k:Kind}{l:List k.T}{x:Value}(hs:SlRel B k.size (λx c=>KC B k x c) l x) {n:Nat}(hn:n<l.length) :
  ∃ i o cap c e wr t w,x=.slice (some ⟨i,o,none⟩) l.length cap/\Z.get i=some (.cells c e wr t)/\Xb (!k.one) k.size c (o+n*k.size)=some w/\KV B k l[n] w:=by
 rcases hs with⟨rfl,_⟩|⟨i,o,cap,c,e,wr,t,h1,h2,h3,h4,h5,h6⟩
 .simp at hn
 .have hmul:n*k.size+k.size<=l.length*k.size:=by
   have:=zt k.size (show n+1<=l.length from hn)
   rwa [zK,xG] at this
  have cP:=h6.at (n:=k.size) (λx c hx=>KC.length hx) hn;have e1:(((c.drop o).take (l.length*k.size)).drop (n*k.size)).take k.size=(c.drop (o+n*k.size)).take k.size:=by rw[List.drop_take,List.drop_drop,List.take_take,xL (by omega)]
  rw[e1] at cP;have hlen:=KC.length cP;cases bF:k.one with
  |true =>
   have aF:=Kind.q1o bF;rw[aF] at cP hlen hmul h5 |-;have ah:o+n*1<c.length:=by omega
   refine⟨i,o,cap,c,e,wr,t,c[o+n*1],h1,hle.2 _ _ h3,?_,.inl ⟨bF,?_⟩⟩
   .simp[Xb]
   .have:(c.drop (o+n*1)).take 1=[c[o+n*1]]:=by
     rw[wE ah];rfl
    rw[this] at cP;exact cP
  |false =>refine⟨i,o,cap,c,e,wr,t,_,h1,hle.2 _ _ h3,?_,.inr ⟨bF,_,rfl,cP⟩⟩;simp only[Xb,Bool.not_false,zB];rw[z8 (by omega)]
theorem VYields.mono {i:Nat}{args:List Value}{U:Heap}{R R':Value->Heap->Prop}(h:VYields P i args U R) (hr:∀ v U',R v U'->R' v U'):VYields P i args U R':=by intro ρ w aw hH hL;obtain⟨p,h1,fn,tmps,eX,body,h2,h3⟩:=h ρ w aw hH hL;exact⟨p,h1,fn,tmps,eX,body,h2,h3.mono λe w' ⟨c,he,hg⟩=>⟨c,he,hg.mono hr⟩⟩
set_option maxHeartbeats 4000000 in
theorem Q0k {B Z:Heap}{k:Kind}{l1:List k.T}{x:Value}{i b j:Nat}{Y:HD}{J:Nat->Heap->Prop}{E:Heap->Prop}(hY:Ke P i Y)
  (pT:∀ (env:Env) (j:Nat),Q3 env (.tmp j)=.pointer (some ⟨b,0,none⟩)->Q6 (.load false 1 (.tmp j)) (Q3 env) Z=some (x,Z)) (fh:SlRel B k.size (λx c=>KC B k x c) l1 x) (kF:B.Le Z) (ky:j<=l1.length) (hc:l1.length<4611686018427387904)
  (en:j<l1.length->∀ us,SRs P B Jg Zh [.val (.i .i64) ((l1.length:Int)-1-j),LN k (l1[l1.length-1-j]?.getD k.dflt)] us->Y us Z λv Z'=>(v=.bool true/\J (j+1) Z')\/(v=.bool false/\E Z'))
  {Q:Exit->Env->Heap->Prop}(u9:J l1.length Z->∀ env,Q .normal env Z) (u_:∀ Z,E Z->∀ env,Q .ret env Z) (hJ:J j Z) {n:Nat}(dD:n=l1.length-j) (len:Nat) (hlen:len=19) :
  vwp (Q2 P) (.seq (.seq (.region [
    ⟨(some 7),.move (.tmp 3),none⟩,
    ⟨(some 8),.cmp .geq (.tmp 7) (.const (.int .i64 (0))),none⟩])
   (.cond (.tmp 8) (.skip)
    (.exit 0)))
   (.seq (.block 1 (.seq (.region [
     ⟨(some 11),.move (.tmp 0),none⟩,
     ⟨(some 12),.move (.tmp 3),none⟩,
     ⟨(some 13),.load false 1 (.tmp 1),none⟩,
     ⟨(some 14),.move (.tmp 3),none⟩,
     ⟨(some 15),.indexAddr k.size (.tmp 13) (.tmp 14),none⟩,
     ⟨(some 16),.load (!k.one) k.size (.tmp 15),none⟩,
     ⟨(some 17),.callV (.tmp 11) [.tmp 12,.tmp 16],none⟩,
     ⟨(some 18),.un .not (.tmp 17),none⟩])
    (.cond (.tmp 18) (.ret)
     (.skip))))
   (.region [
    ⟨(some 9),.move (.tmp 3),none⟩,
    ⟨(some 10),.arith .sub (.tmp 9) (.const (.int .i64 (1))),none⟩,
    ⟨(some 3),.move (.tmp 10),none⟩]))) none (λe af aE=>match e with
   |.normal=>∃ n',n'<n/\∃ j,j<=l1.length/\n'=l1.length-j/\GH [0,1,3] af=[.func (.yield i) #[] #[],.pointer (some ⟨b,0,none⟩),.int .i64 ((l1.length:Int)-1-j)]/\J j aE
   |e=>Ss 0 Q e af aE) (Xe [0,1,3] [.func (.yield i) #[] #[],.pointer (some ⟨b,0,none⟩),.int .i64 ((l1.length:Int)-1-j)] (List.replicate len poison)) Z:=by
 subst hlen;show DT _ _ [.func (.yield i) #[] #[],.pointer (some ⟨b,0,none⟩),poison,.int .i64 ((l1.length:Int)-1-j),poison,poison,poison,poison,poison,poison,poison,poison,poison,poison,poison,poison,poison,poison,poison] _ _;refine st1 (λ_=>rfl) rfl ?_;refine st1 (v:=.bool (decide ((0:Int)<=(l1.length:Int)-1-j))) (λ_=>rfl) rfl ?_;show SO (.bool _) _ _;refine⟨λbn=>?_,λah=>?_⟩
 .have bn:(0:Int)<=(l1.length:Int)-1-j:=by simpa using bn
  have jB:l1.length-1-j<l1.length:=by omega
  obtain⟨i',o',au,c',e',kX,t',w,q1,q2,q3,q4⟩:=Q4u kF fh jB;show DT _ _ _ _ _;refine st1 (λ_=>rfl) rfl ?_;refine st1 (λ_=>rfl) rfl ?_;refine st1 (λ_=>rfl) (pT _ _ rfl) ?_;refine st1 (λ_=>rfl) rfl ?_;refine st1 (v:=.pointer (some ⟨i',o'+(l1.length-1-j)*k.size,none⟩)) (λ_=>rfl) ?_ ?_
  .rw[q1];show (if 0<=(l1.length:Int)-1-j/\(l1.length:Int)-1-j<l1.length then some (Value.pointer (some ⟨i',o'+((l1.length:Int)-1-j).toNat*k.size,none⟩),Z) else none)=_;rw[z8 ⟨bn,by omega⟩];have:((l1.length:Int)-1-j).toNat=l1.length-1-j:=by omega
   rw[this]
  refine st1 (v:=w) (λ_=>rfl) ?_ ?_
  .show (match Z.get i' with|some (.cells c _ _ _)=>(match Xb (!k.one) k.size c (o'+(l1.length-1-j)*k.size) with|some v=>some (v,Z)|none=>none)|_=>none)=_;rw[q2];simp only[q3]
  show QS (some true) _;refine⟨λ_=>?_,λe=>by cases e⟩;show VYields P i [.int .i64 ((l1.length:Int)-1-j),w] Z _;refine VYields.mono (hY _ _ _ (en (by omega) [.int .i64 ((l1.length:Int)-1-j),w] ?_)) ?_
  .simp only[SRs];refine⟨_,_,rfl,rfl,w,[],rfl,?_,rfl⟩;rw[z6 jB];exact Jw q4
  .rintro v Z' (⟨rfl,o3⟩|⟨rfl,hE⟩)
   .show DT _ _ _ _ _;refine st1 (v:=.bool false) (λ_=>rfl) rfl ?_;show SO (.bool false) _ _;refine⟨(λe=>by cases e),λ_=>?_⟩;show DT _ _ _ _ _;refine st1 (λ_=>rfl) rfl ?_;refine st1 (v:=.int .i64 ((l1.length:Int)-1-(j+1:Nat))) (λ_=>rfl) ?_ ?_
    .show (if IntKind.i64=IntKind.i64 then some (Value.int .i64 (IntKind.i64.wrap ((l1.length:Int)-1-j-1)),Z') else none)=_;rw[z8 rfl,Se (by omega)];simp only[x6,Prod.mk.injEq,Value.int.injEq,true_and,and_true];omega
    refine st1 (λ_=>rfl) rfl ?_;exact⟨l1.length-(j+1),by omega,j+1,by omega,rfl,rfl,o3⟩
   .show DT _ _ _ _ _;refine st1 (v:=.bool true) (λ_=>rfl) rfl ?_;show SO (.bool true) _ _;refine⟨λ_=>?_,λe=>by cases e⟩;exact u_ _ hE _
 .have ah:¬ (0:Int)<=(l1.length:Int)-1-j:=by simpa using ah
  have hj:j=l1.length:=by omega
  subst hj;exact u9 hJ _
theorem Z3j {f:Nat}{k:Kind}(h:Fun P f (Q37 (!k.one) k.size) [] 19) (hm:P.follows .mixedOrders=true):Q63 P f (Z1r k):=by
 refine⟨h.enterable,λB args vs c m ar xs hs gX hc=>?_⟩;unfold Z1r at gX;split at gX
 .rename_i l0;split at gX
  .rename_i k' l1;split at gX
   .rename_i l hl;unfold Vu at hl;split at hl
    .rename_i e;subst e;obtain rfl:=osj hl;obtain⟨rfl,rfl,rfl,rfl⟩:=(by simpa using gX:(l1.length<4611686018427387904)=c/\l1.length=m/\2=ar/\_=xs);refine⟨λj=>⟨rfl,by simp only[SVs.pure,SV.pure,Ip];rfl⟩,λi Y J E τ0 hY hle en h0=>?_⟩;simp only[SRs,SR] at hs;obtain⟨cap,_,rfl,⟨b,cc,e,wr,t,hb,rfl,x,_,rfl,⟨y,hy,fh⟩,rfl⟩,rfl⟩:=hs;obtain rfl:x=y:=by simpa using hy
     have cell:∀ Z,B.Le Z->Z.get b=some (.cells [x] e wr t):=λZ hτ=>hτ.2 _ _ hb;obtain⟨xa,vd,bu⟩:=SlRel.len fh;have fC:∀ (env:Env) (U:Heap) (j:Nat),Q3 env (.tmp j)=x->Q6 (.len (.tmp j)) (Q3 env) U=some (.int .i64 l1.length,U):=λenv U j hj=>by simp only[Q6,hj,bu]
     refine h.callsTo hm GC ?_;have pT:∀ (env:Env) (U:Heap) (j:Nat),B.Le U->Q3 env (.tmp j)=.pointer (some ⟨b,0,none⟩)->Q6 (.load false 1 (.tmp j)) (Q3 env) U=some (x,U):=λenv U j hσ hj=>by simp only[Q6,hj,cell U hσ,Xb];rfl
     have rF:=hle 0 τ0 h0;show DT _ _ _ _ _;refine st1 (λ_=>rfl) (pT _ _ _ rF rfl) ?_;refine st1 (λ_=>rfl) (fC _ _ _ rfl) ?_;refine st1 (v:=.int .i64 ((l1.length:Int)-1)) (λ_=>rfl) ?_ ?_
     .show (if IntKind.i64=IntKind.i64 then some (Value.int .i64 (IntKind.i64.wrap ((l1.length:Int)-1)),τ0) else none)=_;rw[z8 rfl,Se (by omega)]
     refine st1 (v:=.int .i64 ((l1.length:Int)-1)) (λ_=>rfl) rfl ?_;show Q75 _ _ _ _;refine⟨[0,1,3],λn vs Z=>∃ j,j<=l1.length/\n=l1.length-j/\vs=[.func (.yield i) #[] #[],.pointer (some ⟨b,0,none⟩),.int .i64 ((l1.length:Int)-1-j)]/\J j Z,l1.length,⟨0,Nat.zero_le _,rfl,?_,h0⟩,λn vs Z ⟨j,ky,dD,ve,hJ⟩=>?_⟩
     .simp[GH]
     .subst ve;have kF:=hle j Z hJ;refine Q0k (J:=J) (E:=E) hY (λenv jj h=>pT _ _ _ kF h) fh kF ky hc (λah us du=>en j us Z ah hJ du) ?_ ?_ hJ dD _ rfl
      .exact λhJ env=>⟨_,_,.refl _ _ _,.inl hJ⟩
      .exact λZ hE env=>⟨_,_,.refl _ _ _,.inr hE⟩
    .cases hl
   .cases gX
  .cases gX
 .cases gX
theorem YlOk.nil:∀ o y,Qq ([]:List (Nat×YSp)) o=some y->Ov P o y:=λo y h=>by cases h
theorem IysOk.nil:∀ f x,Qq ([]:List (Nat×Q62)) f=some x->Q6g P f x:=λf x h=>by cases h
theorem IysOk.cons {f:Nat}{x:Q62}{l:List (Nat×Q62)}(h:Q6g P f x) (t:∀ g y,Qq l g=some y->Q6g P g y):∀ g y,Qq ((f,x)::l) g=some y->Q6g P g y:=λg y hg=>by
 simp only[Qq] at hg;cases hb:Nat.beq f g with
 |true=>rw[hb] at hg;obtain rfl:=zN hb;obtain rfl:=osj hg;exact h
 |false=>rw[hb] at hg;exact t g y hg
theorem XsOk.nil:∀ f x,Qq ([]:List (Nat×XSp)) f=some x->XOk P f x:=λf x h=>by cases h
theorem XsOk.cons {f:Nat}{x:XSp}{l:List (Nat×XSp)}(h:XOk P f x) (t:∀ g y,Qq l g=some y->XOk P g y):∀ g y,Qq ((f,x)::l) g=some y->XOk P g y:=λg y hg=>by
 simp only[Qq] at hg;cases hb:Nat.beq f g with
 |true=>rw[hb] at hg;obtain rfl:=zN hb;obtain rfl:=osj hg;exact h
 |false=>rw[hb] at hg;exact t g y hg
theorem ItsOk.nil:∀ f x,Qq ([]:List (Nat×ISp)) f=some x->Q63 P f x:=λf x h=>by cases h
theorem ItsOk.cons {f:Nat}{x:ISp}{l:List (Nat×ISp)}(h:Q63 P f x) (t:∀ g y,Qq l g=some y->Q63 P g y):∀ g y,Qq ((f,x)::l) g=some y->Q63 P g y:=λg y hg=>by
 simp only[Qq] at hg;cases hb:Nat.beq f g with
 |true=>rw[hb] at hg;obtain rfl:=zN hb;obtain rfl:=osj hg;exact h
 |false=>rw[hb] at hg;exact t g y hg
def Nj:Ap:=λ_ _=>none
theorem Ku:Ey P Nj:=λ_ _ _ _ _ _ _ _ _ h=>by cases h
end
end Go.V
namespace Go.Proofs.Tryz
open Go Go.V Go.Proofs
theorem OH:Fun Tryz.prog 143 (Q37 false 1) [] 19:=⟨Tryz.f143,Tryz.func143,by kernel_rfl,by kernel_rfl,rfl,rfl⟩
end Go.Proofs.Tryz
namespace Go.V
open Go
def LZ {α:Type}:Nat->α->List α->List α
 |0,x,l=>x::l
 |j+1,x,a::l=>a::LZ j x l
 |_+1,x,[]=>[x]
def Lx {α:Type}:Nat->List α->List α
 |0,_::l=>l
 |j+1,a::l=>a::Lx j l
 |_,[]=>[]
def R5 (kk vk:Kind):OB->Option (List (kk.T×vk.T))
 |.map je ml m=>if h:je=kk/\ml=vk then some (h.1▸h.2▸m) else none
 |_=>none
def Q5y (vals:List Value) (rs:List VResult) (v:SV) (kk vk:Kind) (post:List (kk.T×vk.T)->Prop):Exit->St->Prop:=λe s =>
 let fin:=match JJ s rs,Q8 s.own 4000000,R5 kk vk (Q8 s.own 0) with
  |some r,.stk l vs,some m'=>vs=vals/\VO [(0,some 0)] [.map 0] l/\Bo [] v r/\post m'
  |_,_,_=>False
 match e with
 |.normal=>fin
 |.ret=>fin
 |_=>False
section
variable {P:Program}
theorem Mp {kk vk:Kind}{b:OB}{m:List (kk.T×vk.T)}(h:R5 kk vk b=some m):b=.map kk vk m:=by
 unfold R5 at h;split at h
 .split at h
  .rename_i e;obtain⟨rfl,rfl⟩:=e;obtain rfl:=osj h;rfl
  .cases h
 .cases h
theorem IB:∀ (j:Nat) {l:List SV}{c:List Value}{o:Nat}{B:Heap}{pl:Nat->Value}{tb:Nat->Option Bool},l[j]?=some (.map o)->SRs P B pl tb l c ->
  ∃ w,SR P B pl tb (.map o) w/\SRs P B pl tb (Lx j l) (Lx j c)/\∀ (B':Heap) (pl':Nat->Value) (tb':Nat->Option Bool) (l':List SV) (x:SV),SRs P B' pl' tb' l' (Lx j c)->SR P B' pl' tb' x w->SRs P B' pl' tb' (LZ j x l') c
 |j,[],c,o,B,pl,tb,h,_=>by simp at h
 |0,a::l,c,o,B,pl,tb,h,hs=>by
  obtain rfl:a=.map o:=by simpa using h
  simp only[SRs] at hs;obtain⟨w,us,rfl,h1,h2⟩:=hs;exact⟨w,h1,h2,λB' pl' tb' l' x h3 h4=>by simp only[LZ,SRs];exact⟨w,us,rfl,h4,h3⟩⟩
 |j+1,a::l,c,o,B,pl,tb,h,hs=>by
  simp only[SRs] at hs;obtain⟨u,us,rfl,h1,h2⟩:=hs;obtain⟨w,g1,g2,g3⟩:=IB j (by simpa using h) h2;refine⟨w,g1,?_,λB' pl' tb' l' x h3 h4=>?_⟩
  .simp only[Lx,SRs];exact⟨u,_,rfl,h1,g2⟩
  .simp only[Lx] at h3
   match l',h3 with
   |[],h3=>simp only[SRs] at h3;cases h3
   |y::l',h3 =>simp only[SRs] at h3;obtain⟨u',jH,e,h5,h6⟩:=h3;obtain⟨rfl,rfl⟩:=zR e;simp only[LZ,SRs];exact⟨u,us,rfl,h5,g3 B' pl' tb' l' x h6 h4⟩
theorem XfOk.nil {xs:List (Nat×XSp)}:∀ f j,Qq ([]:List (Nat×Nat)) f=some j->∀ x,Qq xs f=some x->Q9b P f x j:=λf j h=>by cases h
theorem XfOk.cons {xs:List (Nat×XSp)}{g k:Nat}{y:XSp}{l:List (Nat×Nat)}(hy:Qq xs g=some y) (h:Q9b P g y k) (t:∀ f j,Qq l f=some j->∀ x,Qq xs f=some x->Q9b P f x j):∀ f j,Qq ((g,k)::l) f=some j->∀ x,Qq xs f=some x->Q9b P f x j:=λf j hf x hx=>by
 simp only[Qq] at hf;cases hb:Nat.beq g f with
 |true =>rw[hb] at hf;obtain rfl:=zN hb;obtain rfl:=osj hf;obtain rfl:=osj (hy.symm.trans hx);exact h
 |false=>rw[hb] at hf;exact t f j hf x hx
end
end Go.V
namespace Go.V
open Go
abbrev PSp (kk vk:Kind):=Ap->List SV->Option (Prop×List SV×(List (kk.T×vk.T)->Prop))
def OK (ap:Ap) (kk vk:Kind) (sp:PSp kk vk):XSp:=λd args s K=>match sp ap (Bv s.own args) with
 |some (c,vs,post)=>bif SVs.ret 0 vs then c/\∀ m',post m'->K (.tup (.map d::vs)) (s.make d (.map kk vk m')) else False
 |none=>False
def Yz (nt:Nat) (args:List SV):St:=⟨args++List.replicate (nt-args.length) .any,[],0⟩
def Q4p (rs:List VResult) (kk vk:Kind) (vs:List SV) (post:List (kk.T×vk.T)->Prop):Exit->St->Prop:=λe s =>
 let fin:=match JJ s rs with
  |some (.tup (.map k::r))=>(match R5 kk vk (Q8 s.own k) with
   |some m'=>VO [] vs r/\post m'
   |none=>False)
  |_=>False
 match e with
 |.normal=>fin
 |.ret=>fin
 |_=>False
section
variable {P:Program}
theorem SRs.retd0 {B B':Heap}{pl pl':Nat->Value}{tb tb':Nat->Option Bool}:∀ (l:List SV) (us:List Value),SVs.ret 0 l=true->SRs P B pl tb l us->SRs P B' pl' tb' l us
 |[],us,_,h=>by simpa [SRs] using h
 |s::l,us,hr,h=>by simp only[SVs.ret,z7] at hr;simp only[SRs] at h |-;obtain⟨u,jH,rfl,h1,h2⟩:=h;exact⟨u,jH,rfl,h1.retd (n:=0) (λj hj=>by omega) _ _ hr.1,SRs.retd0 l jH hr.2 h2⟩
theorem Oh {f:Nat}{vc:VCode}{rs:List VResult}{nt:Nat}(h:Fun P f vc rs nt) (hm:P.follows .mixedOrders=true) {kk vk:Kind}(bH:(kk.flat&&vk.flat)=true) {sp:PSp kk vk}{ap:Ap}
  (hb:∀ fv c vs post,sp ap fv=some (c,vs,post)->c->∃ (C:Cx) (L:List (Nat×LoopAnn)) (dS:List SV),SVs.pure dS=true/\(∀ U us,SRs P U Jg Zh fv us->SRs P U Jg Zh dS us)/\COk P C/\gwp C L vc 0 (Q4p rs kk vk vs post) (Yz nt dS)):XOk P f (OK ap kk vk sp):=by
 intro B F pl tb s env U d args vals K R hG ha hx hK;unfold OK at hx;split at hx
 .rename_i c vs post cy;cases bY:SVs.ret 0 vs with
  |false=>rw[bY] at hx;exact hx.elim
  |true =>
  rw[bY] at hx;obtain⟨hc,hx⟩:=hx;obtain⟨C,L,dS,dG,kG,ew,hg⟩:=hb _ c vs post cy hc;have ax:=kG U vals (Y0 (own:=s.own) hG.leB (pl:=pl) (tb:=tb) (λd=>hG.obj d) ha);have bg:GRel P U U U (Yz nt dS) (vals++List.replicate (nt-vals.length) undef) U:=by
   refine⟨U,U,λ_=>poison,Zh,⟨.refl _,.refl _,λ_ _ _ h=>h,.refl _⟩,.refl _,.refl _,?_,λk=>?_,λk i' h1 h2=>?_,λk k' i' kH h1 h2 h3 h4=>?_,λ_ _=>rfl⟩
   .simp only[Yz];rw[ax.length];exact SRs.append (QF _ _ dG ax) (Ni _)
   .simp only[Yz,Q8];trivial
   .simp only[Yz,Q8] at h1;cases h1
   .simp only[Yz,Q8] at h1;cases h1
  refine h.calls hm GC ?_;refine Ye ew vc 0 _ _ _ U none _ trivial bg hg λe s' af U' h1 h2=>?_
  have main:(match JJ s' rs with
   |some (.tup (.map k::r))=>(match R5 kk vk (Q8 s'.own k) with
    |some m'=>VO [] vs r/\post m'
    |none=>False)
   |_=>False)->QS (Zu af U' rs) λv=>∃ v' aE,DropTo U v U' v' aE/\R v' aE:=λh=>by
   obtain⟨B',F',pl',tb',k1,k2⟩:=h2;split at h
   .rename_i k r hr;split at h
    .rename_i m' lU;obtain⟨g1,g2⟩:=h;have aJ:=Mp lU;obtain⟨w,h3,h4⟩:=ZV k2 hr;rw[h3];simp only[SR,SRs] at h4;obtain⟨cs,rfl,mv,ws,rfl,⟨rfl,_⟩,h5⟩:=h4;have dp:=SRs.retd0 (B':=B) (pl':=Jf pl d (pl' k)) (tb':=tb) vs ws bY (QV vs r ws g1 h5);have ao:=k2.obj k;rw[aJ] at ao;have hle:U.Le U':=k1.f.trans k2.le;have mG:OR P B (Jf pl d (pl' k)) tb U' (pl' k) (.map kk vk m'):=ao.retd bH λ_ _=>rfl;have aq:(Q8 s'.own k).live=true:=by rw[aJ];rfl
     have fS:∀ i,Oid (pl' k) i->U.get i=none:=λi hi=>by
      cases hg:U.get i with
      |none=>rfl
      |some b =>have:=k2.fresh k i aq hi;have h9:=k1.f.2 _ _ hg;rw[this] at h9;cases h9
     have mH:Gam P B F (Jf pl d (pl' k)) tb (s.make d (.map kk vk m')) env U':=by
      refine hG.make d _ (pl' k) (hG.le.trans hle) (λj i _ hl hi=>?_) mG λi _ hi=>⟨?_,λj _ hl hj=>?_⟩
      .cases hg:U.get i with
       |none=>exact k1.d.2 i ((hG.obj j).q0w hl hi) hg
       |some bb=>exact hle.2 _ _ hg
      .cases hg:F.get i with
       |none=>rfl
       |some b=>have:=hG.le.2 _ _ hg;rw[fS i hi] at this;cases this
      .have ah:=(hG.obj j).q0w hl hj;have:=k1.d.2 i ah (fS i hi);obtain⟨id,es,clock,e1,e2,_⟩:=mG;rw[e1] at hi;obtain rfl:id=i:=osj hi;rw[this] at e2;cases e2
     refine⟨_,U',.refl _ _ _,hK _ _ B F _ tb _ U' (hx m' g2) (.of hG.bf k1.d) mH ?_⟩;obtain⟨id,es,clock,e1,_⟩:=mG;simp only[SR,SRs];exact⟨_,rfl,_,_,rfl,⟨by simp[Jf],_,e1⟩,dp⟩
    .exact h.elim
   .exact h.elim
  cases e with
  |normal=>exact main h1
  |ret=>exact main h1
  |_=>exact h1.elim
 .exact hx.elim
def Q6f {kk vk:Kind}{D:Type}(la:AL D) (pre:D->Prop) (res:D->List SV) (post:D->List (kk.T×vk.T)->Prop):PSp kk vk:=λap fv=>match AL.dec ap la fv with
 |some a=>some (pre a,res a,post a)
 |none=>none
theorem ON {f:Nat}{vc:VCode}{rs:List VResult}{nt:Nat}(h:Fun P f vc rs nt) (hm:P.follows .mixedOrders=true) {ap:Ap}(dR:Ey P ap) {kk vk:Kind}(bH:(kk.flat&&vk.flat)=true) {D:Type}{la:AL D}{pre:D->Prop}{res:D->List SV}{post:D->List (kk.T×vk.T)->Prop}
  {C:Cx}(aA:COk P C) {L:D->List (Nat×LoopAnn)}{V:D->Prop}
  (hq:∀ y,gwp C (L y) vc 0 (Q4p rs kk vk (res y) (post y)) (Yz nt (AL.can la y))=V y)
  (hb:∀ y,pre y->V y):XOk P f (OK ap kk vk (Q6f la pre res post)):=Oh h hm bH λfv c vs q hs hc=>by
 unfold Q6f at hs;split at hs
 .rename_i y h2;obtain⟨rfl,rfl,rfl⟩:=(by simpa using hs:pre y=c/\res y=vs/\post y=q);exact⟨C,L y,AL.can la y,AL.q0l la y,λU vs hv=>AL.q0k dR la h2 hv,aA,(hq y).mpr (hb y hc)⟩
 .cases hs
end
end Go.V
namespace Go.V
open Go
def Heap.over (B F:Heap):Heap where
 get i:=match B.get i with|some b=>some b|none=>F.get i
 n:=Nat.max B.n F.n
 wf i h:=by have h1:B.n<=i:=zX (Nat.le_max_left _ _) h;have h2:F.n<=i:=zX (Nat.le_max_right _ _) h;rw[B.wf i h1];exact F.wf i h2
theorem Heap.q1l {B F:Heap}{i:Nat}(h1:B.get i=none) (h2:F.get i=none):(B.over F).get i=none:=by show (match B.get i with|some b=>some b|none=>F.get i)=none;rw[h1];exact h2
theorem Heap.q1v {B F:Heap}:B.Le (B.over F):=⟨Nat.le_max_left _ _,λi b h=>by
 show (match B.get i with|some b=>some b|none=>F.get i)=some b;rw[h]⟩
theorem Heap.q2b {B F U:Heap}(hB:B.Le U) (hF:F.Le U):F.Le (B.over F):=⟨Nat.le_max_right _ _,λi b h=>by
 show (match B.get i with|some b=>some b|none=>F.get i)=some b;cases hb:B.get i with
 |none=>exact h
 |some b' =>
  have h1:=hB.2 _ _ hb;have h2:=hF.2 _ _ h;rw[h1] at h2;exact h2⟩
theorem Heap.q1x {B F U:Heap}(hB:B.Le U) (hF:F.Le U):(B.over F).Le U:=⟨Nat.max_le.2 ⟨hB.1,hF.1⟩,λi b h=>by
 have h:(match B.get i with|some b=>some b|none=>F.get i)=some b:=h;cases hb:B.get i with
 |none=>rw[hb] at h;exact hF.2 _ _ h
 |some b'=>rw[hb] at h;rw[<-h];exact hB.2 _ _ hb⟩
theorem GBase.over {B F U B' U':Heap}(hB:B.Le B') (eM:B'.Le U') (hF:F.Le U') (hx:∀ i b,F.get i=some b->B.get i=none->B'.get i=none) (hd:Dead U U'):GBase B F U B' (B'.over F) U' :=
 ⟨hB,Heap.q2b eM hF,hx,hd⟩
def Q0d (ap:Ap) (sp:LSp):XSp:=λ_ args s K =>
 match args with
 |.lst o::args=>bif SVs.pure args&&(Q8 s.own o).isL then (match sp ap (Q8 s.own o) args with
   |some (c,v,b)=>bif v.ret 0&&b.isL then c/\K v ⟨s.env,oset s.own o b,s.nx⟩ else False
   |none=>False) else False
 |_=>False
def callV (ap:Ap) (sp:CSp):XSp:=λd args s K =>
 let s1:=(⟨s.env++args,s.own,s.nx⟩:St).frzs (Nk args);let a1:=s1.env.drop s.env.length
 bif SVs.pure a1 then (match sp ap a1 with
  |some (c,v,bs)=>bif v.ret bs.length&&bs.all OB.isL then c/\K (v.ren d 500000) ((⟨s1.env.take s.env.length,s1.own,s1.nx⟩:St).makes d 500000 0 bs) else False
  |none=>False) else False
section
variable {P:Program}
theorem OB.q1r {b:OB}(h:b.isL=true):∃ ty k xs nl,b=.lst ty k xs nl:=by cases b<;>first|exact⟨_,_,_,_,rfl⟩|cases h
theorem Oo {f:Nat}{vc:VCode}{rs:List VResult}{nt:Nat}(h:Fun P f vc rs nt) (hm:P.follows .mixedOrders=true) {sp:LSp}{ap:Ap}
  (hb:∀ b args c v b',sp ap b args=some (c,v,b')->c->∃ (C:Cx) (L:List Value->List (Nat×LoopAnn)) (cI:List SV),SVs.pure cI=true/\(∀ U vs,SRs P U Jg Zh args vs->SRs P U Jg Zh cI vs)/\COk P C/\∀ vals,gwp C (L vals) vc 0 (Q3y vals rs v b' (lsv b)) (D4 nt (lsv b) b vals cI)):XOk P f (Q0d ap sp):=by
 intro B F pl tb s env U d args vs K R hG ha hx hK;unfold Q0d at hx;split at hx
 .rename_i o args;cases iI:(SVs.pure args&&(Q8 s.own o).isL) with
  |false=>rw[iI] at hx;exact hx.elim
  |true =>
  rw[iI] at hx;simp only[zl] at hx;simp only[z7] at iI;obtain⟨o4,rG⟩:=iI;obtain⟨ty,k,xs,nl,aJ⟩:=OB.q1r rG;rw[aJ] at hx;split at hx
  .rename_i c v b' cy;cases bY:(v.ret 0&&b'.isL) with
   |false=>rw[bY] at hx;exact hx.elim
   |true =>
   rw[bY] at hx;obtain⟨hc,hx⟩:=hx;simp only[z7] at bY;simp only[SRs] at ha;obtain⟨u,us,rfl,pU,du⟩:=ha;have aq:(Q8 s.own o).live=true:=by rw[aJ];rfl
   have ao:=hG.obj o;rw[aJ] at ao;simp only[SR] at pU;obtain⟨rfl,hs⟩:=pU;have bh:∀ i,oid (pl o)=some i->F.get i=none:=λi hi=>hG.fresh o i aq (HZ hi);have mI:∀ i,oid (pl o)=some i->B.get i=none:=λi hi=>by
    cases hg:B.get i with
    |none=>rfl
    |some b=>have:=hG.bf.2 _ _ hg;rw[bh i hi] at this;cases this
   have dz:∀ l,pl o≠.tuple l:=λl he=>by obtain⟨_,_,_,hs⟩:=hs;rw[he] at hs;cases hs
   have mJ:∀ (B:Heap) (pl':Nat->Value) (tb':Nat->Option Bool),(SR P B pl' tb' (.lst 0) (pl o)<->pl' 0=pl o):=λB pl' tb'=>by simp only[SR];exact⟨λh=>h.1.symm,λh=>⟨h.symm,hs⟩⟩
   obtain⟨C,L,cI,o5,rH,aA,hg⟩:=hb _ _ c v b' cy hc;have hg:=hg [pl o];let σc:=Ru U (pl o);have pV:B.Le σc:=CV hG.leB mI;have pW:F.Le σc:=CV hG.le bh;have ax:SRs P B Jg Zh cI us:=rH B us (QF _ _ o4 du);let jK:Nat->Value:=λj=>if j=0 then pl o else poison
   have bg:GRel P B σc U (D4 nt (.lst 0) (.lst ty k xs nl) [pl o] cI) (pl o::us++List.replicate (nt-(pl o::us).length) undef) U:=by
    refine⟨B,σc,jK,Zh,⟨.refl _,.refl _,λ_ _ _ h=>h,.refl _⟩,pV,Oe _ _,?_,λj=>?_,λj i h1 h2=>?_,λj j' i aB h1 h2 h3 h4=>?_,λ_ _=>rfl⟩
    .simp only[D4,SRs,xA];refine⟨pl o,_,rfl,(mJ _ _ _).2 (by simp[jK]),?_⟩;rw[ax.length,xi];refine SRs.append ?_ (Ni _);exact QF _ _ o5 ax
    .simp only[D4,Q8];by_cases e0:j=0
     .subst e0;simp only[Nat.beq_refl,zl];exact ao
     .rw[Zo (λe=>e0 e.symm),cond_false];by_cases e1:j=4000000
      .subst e1;simp only[Nat.beq_refl,zl];exact⟨pl o,[],rfl,(mJ _ _ _).2 (by simp[jK]),rfl⟩
      .rw[Zo (λe=>e1 e.symm),cond_false];trivial
    .simp only[D4,Q8] at h1;by_cases e0:j=0
     .subst e0;exact AH (Q3v dz h2)
     .rw[Zo (λe=>e0 e.symm),cond_false] at h1;by_cases e1:j=4000000
      .subst e1;cases h1
      .rw[Zo (λe=>e1 e.symm),cond_false] at h1;cases h1
    .have z:∀ j,(Q8 (D4 nt (.lst 0) (.lst ty k xs nl) [pl o] cI).own j).live=true->j=0:=λj h1=>by
      simp only[D4,Q8] at h1;by_cases e0:j=0
      .exact e0
      .rw[Zo (λe=>e0 e.symm),cond_false] at h1;by_cases e1:j=4000000
       .subst e1;cases h1
       .rw[Zo (λe=>e1 e.symm),cond_false] at h1;cases h1
     exact aB ((z j h1).trans (z j' h2).symm)
   refine h.calls hm GC ?_;refine Ye aA vc 0 _ _ _ U none _ trivial bg hg λe s' af U' h1 h2=>?_
   have main:(match JJ s' rs,Q8 s'.own 4000000 with
    |some r,.stk l vs=>vs=[pl o]/\VO [(0,some 0)] [.lst 0] l/\Bo [] v r/\EA s' [(0,some 0)] 0 b'
    |_,_=>False)->QS (Zu af U' rs) λv=>∃ v' aE,DropTo U v U' v' aE/\R v' aE:=λh=>by
    obtain⟨B',F',pl',tb',k1,k2⟩:=h2;split at h
    .rename_i r l cW hr gQ;obtain⟨rfl,m1,m2,m3⟩:=h;obtain⟨w,h3,h4⟩:=ZV k2 hr;rw[h3];have fW:=k2.obj 4000000;rw[gQ] at fW;have mK:pl' 0=pl o:=by
      have:=QV [.lst 0] l [pl o] m1 fW;simp only[SRs] at this;obtain⟨u',_,cB,h5,_⟩:=this;obtain rfl:pl o=u':=(zR cB).1;have:=(mJ _ _ _).1 h5;simpa [Vl,Qq] using this
     obtain⟨jq,o6⟩:=QC k2 m3;have kC:Vl pl' [(0,some 0)] 0=pl o:=by simpa [Vl,Qq] using mK
     rw[kC] at jq o6;have dp:=(WV v r w m2 h4).retd (B':=B') (pl':=pl) (tb':=tb) (n:=0) (λj hj=>by omega) _ _ bY.1;have hle:σc.Le U':=k1.f.trans k2.le;have eM:B'.Le U':=k2.leB;obtain⟨gj,je,cH,kA,rfl⟩:=OB.q1r bY.2;have a_:∀ d,d≠o->(Q8 s.own d).live=true->∀ i,Oid (pl d) i->B'.get i=none/\U'.get i=U.get i:=λd e hl i hi=>by
      have ah:=(hG.obj d).q0w hl hi;have kf:oid (pl o)≠some i:=λkf=>hG.sep d o i e hl aq hi (HZ kf);cases hg:U.get i with
      |none =>
       have hn:=k1.d.2 i ah hg;refine⟨?_,hn⟩;cases bP:B'.get i with
       |none=>rfl
       |some bb=>have:=eM.2 _ _ bP;rw[hn] at this;cases this
      |some bb =>
       have cL:σc.get i=some bb:=by rw[Iv kf];exact hg
       refine⟨k1.x i bb cL ?_,hle.2 _ _ cL⟩;cases bP:B.get i with
       |none=>rfl
       |some b2=>have:=hG.bf.2 _ _ bP;rw[hG.fresh d i hl hi] at this;cases this
     have o7:∀ i,Oid (pl o) i->B'.get i=none:=λi hi=>by
      obtain⟨a,_,e2,e3⟩:=o6 rfl i hi;have:=k2.fresh a i e2 e3;cases bP:B'.get i with
      |none=>rfl
      |some b2=>have h9:=k2.bf.2 _ _ bP;rw[this] at h9;cases h9
     have iv:F.Le U':=pW.trans hle;refine⟨w,U',.refl _ _ _,hK v _ B' (B'.over F) pl tb w U' hx (.over k1.b eM iv (λi b e1 e2=>k1.x i b (pW.2 _ _ e1) e2) k1.d) ⟨Heap.q1v,Heap.q1x eM iv,SRs.mono k1.b (λ_ _ h=>h) _ _ hG.env,λd=>?_,λd i q1 q2=>?_,λd d' i aB q1 q2 q3 q4=>?_,hG.free⟩ dp⟩
     .simp only[Qi];by_cases e:d=o
      .subst e;rw[z8 rfl];exact jq
      .rw[zd e];exact(hG.obj d).mono k1.b (λ_ _ h=>h) λhl i hi=>(a_ d e hl i hi).2
     .simp only[Qi] at q1;by_cases e:d=o
      .subst e;exact Heap.q1l (o7 i q2) (hG.fresh d i aq q2)
      .rw[zd e] at q1;exact Heap.q1l (a_ d e q1 i q2).1 (hG.fresh d i q1 q2)
     .have lv:∀ d,(Q8 (oset s.own o (.lst gj je cH kA)) d).live=true->(Q8 s.own d).live=true:=λd h=>by
       rw[Qi] at h;by_cases e:d=o
       .subst e;exact aq
       .rwa [zd e] at h
      exact hG.sep d d' i aB (lv d q1) (lv d' q2) q3 q4
    .exact h.elim
   cases e with
   |normal=>exact main h1
   |ret=>exact main h1
   |_=>exact h1.elim
  .exact hx.elim
 .exact hx.elim
theorem Ie {f:Nat}{vc:VCode}{rs:List VResult}{nt:Nat}(h:Fun P f vc rs nt) (hm:P.follows .mixedOrders=true) {ap:Ap}(dR:Ey P ap) {ty:Nat}{k:Kind}{D:Type}{l:AL D}{pre:List k.T->Bool->D->Prop}{res:List k.T->Bool->D->SV}{post:List k.T->Bool->D->List k.T}
  {C:Cx}(aA:COk P C) {L:List k.T->Bool->D->List Value->List (Nat×LoopAnn)}{V:List k.T->Bool->D->Prop}
  (hq:∀ xs nl d,(∀ vals,gwp C (L xs nl d vals) vc 0 (Q3y vals rs (res xs nl d) (.lst ty k (post xs nl d) nl) (.lst 0)) (D4 nt (.lst 0) (.lst ty k xs nl) vals (AL.can l d)))=V xs nl d)
  (hb:∀ xs nl d,pre xs nl d->V xs nl d):XOk P f (Q0d ap (AU ty k l pre res post)):=by
 refine Oo h hm λb args c v b' hs hc=>?_;unfold AU at hs;split at hs
 .rename_i gj k' xs nl;split at hs
  .rename_i e;subst e;split at hs
   .rename_i ys d h1 h2;obtain⟨rfl,rfl,rfl⟩:=(by simpa using hs:pre ys nl d=c/\res ys nl d=v/\OB.lst gj k (post ys nl d) nl=b');unfold Vu at h1;split at h1
    .rename_i e;subst e;obtain rfl:=osj h1;exact⟨C,L xs nl d,AL.can l d,AL.q0l l d,λU vs hv=>AL.q0k dR l h2 hv,aA,(hq xs nl d).mpr (hb xs nl d hc)⟩
    .cases h1
   .cases hs
  .cases hs
 .cases hs
theorem SRs.split {B:Heap}{pl:Nat->Value}{tb:Nat->Option Bool}:∀ {a:List SV}{u v:List Value},SRs P B pl tb a (u++v)->SRs P B pl tb (a.take u.length) u/\SRs P B pl tb (a.drop u.length) v
 |a,[],v,h=>⟨by simp[SRs],by simpa using h⟩
 |[],x::u,v,h=>by simp only[SRs] at h;cases h
 |s::a,x::u,v,h=>by simp only[SRs,xA] at h;obtain⟨y,ys,e,h1,h2⟩:=h;obtain⟨rfl,rfl⟩:=zR e;obtain⟨h3,h4⟩:=SRs.split h2;simp only[xi,wz,wD,SRs];exact⟨⟨_,_,rfl,h1,h3⟩,h4⟩
theorem BB {B F U:Heap}{tb tbc:Nat->Option Bool}{env:Env}{σ0:Heap}{d nt:Nat}(dz:0<nt) (dC:Nat->Value) (bs:List OB) (hF:F.Le U)
  (ao:∀ j b,bs[j]?=some b->b.isL=true/\OR P B dC tbc U (dC j) b/\∀ i,Oid (dC j) i->σ0.n<=i/\F.get i=none)
  (dB:∀ j j' i,j<bs.length->j'<bs.length->j≠j'->Oid (dC j) i->Oid (dC j') i->False) :
  ∀ (r:List OB) (j:Nat) (pl:Nat->Value) (s:St),bs.drop j=r->Gam P B F pl tb s env U->(∀ k i,(Q8 s.own k).live=true->Oid (pl k) i->i<σ0.n\/∃ j'<j,j'<bs.length/\Oid (dC j') i/\k=d+j'*nt)->(∀ j'<j,j'<bs.length->pl (d+j'*nt)=dC j') ->
   ∃ pl',Gam P B F pl' tb (s.makes d nt j r) env U/\(∀ j'<bs.length,pl' (d+j'*nt)=dC j')
 |[],j,pl,s,hr,hG,_,hp=>⟨pl,hG,λj' cC=>hp j' (by
   have:=congrArg List.length hr;simp at this;omega) cC⟩
 |b::r,j,pl,s,hr,hG,hinv,hp=>by
  have bX:j<bs.length:=by
   rcases zn j bs.length with h|h
   .exact h
   .rw[List.drop_eq_nil_of_le h] at hr;cases hr
  have b9:bs[j]?=some b:=by
   have:(bs.drop j)[0]?=some b:=by rw[hr];rfl
   simpa using this
  have jX:bs.drop (j+1)=r:=by
   have:(bs.drop j).drop 1=r:=by rw[hr];rfl
   simpa [List.drop_drop,xR] using this
  obtain⟨h1,h2,h3⟩:=ao j b b9;obtain⟨ty,k,xs,nl,rfl⟩:=OB.q1r h1;have bI:∀ j' ,j'≠j->d+j'*nt≠d+j*nt:=λj' aB e=>aB (Nat.eq_of_mul_eq_mul_right dz (by omega));refine BB dz dC bs hF ao dB r (j+1) (Jf pl (d+j*nt) (dC j)) (s.make (d+j*nt) (.lst ty k xs nl)) jX (hG.make (d+j*nt) (.lst ty k xs nl) (dC j) hF (λ_ _ _ _ _=>rfl) h2 λi _ hi=>⟨(h3 i hi).2,λk' hk hl e=>?_⟩) (λk' i hl hi=>?_) λj' cC mq=>?_
  .rcases hinv k' i hl e with h|⟨j',cC,dD,he,_⟩
   .have:=(h3 i hi).1;omega
   .exact dB j j' i bX dD (by omega) hi he
  .by_cases hk:k'=d+j*nt
   .subst hk;simp only[Jf,zB] at hi;exact .inr ⟨j,by omega,bX,hi,rfl⟩
   .have cw:(Q8 s.own k').live=true:=by
     simp only[St.make,St.kill,Qi,YX,zd hk] at hl
     rwa [OB.q0q] at hl
    simp only[Jf,zd hk] at hi;rcases hinv k' i cw hi with h|⟨j',cC,h5⟩
    .exact .inl h
    .exact .inr ⟨j',by omega,h5⟩
  .by_cases e:j'=j
   .subst e;simp[Jf]
   .simp only[Jf,zd (bI j' e)];exact hp j' (by omega) mq
theorem OD {f:Nat}{vc:VCode}{rs:List VResult}{nt:Nat}(h:Fun P f vc rs nt) (hm:P.follows .mixedOrders=true) {sp:CSp}{ap:Ap}
  (hb:∀ fv c v bs,sp ap fv=some (c,v,bs)->c->∃ (C:Cx) (L:List (Nat×LoopAnn)) (dS:List SV),SVs.pure dS=true/\(∀ U vs,SRs P U Jg Zh fv vs->SRs P U Jg Zh dS vs)/\COk P C/\gwp C L vc 0 (Vv rs v bs) (Qw nt dS)):XOk P f (callV ap sp):=by
 intro B F pl tb s env U d args vals K R hG ha hx hK;unfold callV at hx;have vf:Gam P B F pl tb ⟨s.env++args,s.own,s.nx⟩ (env++vals) U:=⟨hG.bf,hG.le,hG.env.append ha,hG.obj,hG.fresh,hG.sep,hG.free⟩;obtain⟨B1,F1,pX,rI,vg,hZ⟩:GRel P B F U ((⟨s.env++args,s.own,s.nx⟩:St).frzs (Nk args)) (env++vals) U:=GRel.frzs _ ⟨B,F,pl,tb,.of hG.bf (.refl _),vf⟩;generalize ((⟨s.env++args,s.own,s.nx⟩:St).frzs (Nk args))=s1 at hx hZ;dsimp only at hx;have hlen:s.env.length=env.length:=hG.env.length;obtain⟨iD,gV⟩:=SRs.split hZ.env;rw[hlen] at hx;have gR:Gam P B1 F1 pX rI ⟨s1.env.take env.length,s1.own,s1.nx⟩ env U:=⟨hZ.bf,hZ.le,iD,hZ.obj,hZ.fresh,hZ.sep,hZ.free⟩;generalize s1.env.drop env.length=a1 at hx gV;generalize (⟨s1.env.take env.length,s1.own,s1.nx⟩:St)=s2 at hx gR;cases o4:SVs.pure a1 with
 |false=>rw[o4] at hx;exact hx.elim
 |true =>
 rw[o4] at hx;simp only[zl] at hx;split at hx
 .rename_i c v bs cy;cases bY:(v.ret bs.length&&bs.all OB.isL) with
  |false=>rw[bY] at hx;exact hx.elim
  |true =>
  rw[bY] at hx;obtain⟨hc,hx⟩:=hx;simp only[z7] at bY;obtain⟨hv,jv⟩:=bY;obtain⟨C,L,dS,dG,kG,ew,hg⟩:=hb _ c v bs cy hc;have ax:=kG B1 vals (QF _ _ o4 gV);have bg:GRel P B1 U U (Qw nt dS) (vals++List.replicate (nt-vals.length) undef) U:=by
   refine⟨B1,U,Jg,Zh,⟨.refl _,.refl _,λ_ _ _ h=>h,.refl _⟩,gR.leB,.refl _,?_,λk=>?_,λk i' h1 h2=>?_,λk k' i' kH h1 h2 h3 h4=>?_,λ_ _=>rfl⟩
   .simp only[Qw];rw[ax.length];exact SRs.append (QF _ _ dG ax) (Ni _)
   .simp only[Qw,Q8];trivial
   .simp only[Qw,Q8] at h1;cases h1
   .simp only[Qw,Q8] at h1;cases h1
  refine h.calls hm GC ?_;refine Ye ew vc 0 _ _ _ U none _ trivial bg hg λe s' af U' h1 h2=>?_
  have main:(match JJ s' rs with
   |some r=>(match EC v r [] with
    |some mp=>Bo mp v r/\Ig s' mp 0 bs
    |none=>False)
   |none=>False)->QS (Zu af U' rs) λv=>∃ v' aE,DropTo U v U' v' aE/\R v' aE:=λh=>by
   obtain⟨B',F',pl',tb',k1,k2⟩:=h2;split at h
   .rename_i r hr;split at h
    .rename_i mp kC;obtain⟨g1,g2⟩:=h;obtain⟨u,h3,h4⟩:=ZV k2 hr;have iJ:=WV v r u g1 h4;have eo:=Rh v r [] mp kC (λt t' a h=>by cases h);have ao:∀ j b,bs[j]?=some b->EA s' mp j b:=λj b hj=>by have:=Ph bs 0 g2 j b hj;rwa [x3] at this
     rw[h3];have hle:U.Le U':=k1.f.trans k2.le;have eM:B'.Le U':=k2.leB;have aQ:∀ j b,bs[j]?=some b->b.isL=true/\OR P B' (Vl pl' mp) Zh U' (Vl pl' mp j) b/\∀ i,Oid (Vl pl' mp j) i->U.n<=i/\(B'.over F1).get i=none:=λj b hj=>by
      obtain⟨m1,m2⟩:=QC k2 (ao j b hj);have hl:=zg.1 jv b (zH hj);obtain⟨ty,k,xs,nl,rfl⟩:=OB.q1r hl;refine⟨hl,m1,λi hi=>?_⟩;obtain⟨a,_,e2,e3⟩:=m2 rfl i hi;have pS:=k2.fresh a i e2 e3;have o8:U.get i=none:=by
       cases hg:U.get i with
       |none=>rfl
       |some b=>have h9:=k1.f.2 _ _ hg;rw[pS] at h9;cases h9
      have lH:B'.get i=none:=by
       cases hg:B'.get i with
       |none=>rfl
       |some b=>have h9:=k2.bf.2 _ _ hg;rw[pS] at h9;cases h9
      have rJ:F1.get i=none:=by
       cases hg:F1.get i with
       |none=>rfl
       |some b=>have h9:=gR.le.2 _ _ hg;rw[o8] at h9;cases h9
      refine⟨Nat.le_of_not_lt λah=>?_,Heap.q1l lH rJ⟩;have bG:=k1.d.2 i ah o8;rcases m1 with⟨_,_,h2⟩|⟨_,i',cap,c,t,h2,_,h3,_⟩
      .rw[h2] at hi;cases hi
      .rw[h2] at hi;obtain rfl:=osj hi;rw[h3] at bG;cases bG
     have dB:∀ j j' i,j<bs.length->j'<bs.length->j≠j'->Oid (Vl pl' mp j) i->Oid (Vl pl' mp j') i->False:=λj j' i hj cC aB hi cD=>by
      have bB:=z6 hj;have cA:=z6 cC;have r1:=zg.1 jv _ (zr hj);have r2:=zg.1 jv _ (zr cC);have l1:(bs[j]).live=true:=by cases kV:bs[j]<;>first|rfl|(rw[kV] at r1;cases r1)
      have l2:(bs[j']).live=true:=by cases kV:bs[j']<;>first|rfl|(rw[kV] at r2;cases r2)
      obtain⟨a,e1,e2,e3⟩:=(QC k2 (ao j _ bB)).2 l1 i hi;obtain⟨a',rD,jI,rE⟩:=(QC k2 (ao j' _ cA)).2 l2 i cD;by_cases e:a=a'
      .subst e;exact aB (eo j j' a e1 rD)
      .exact k2.sep a a' i e e2 jI e3 rE
     have iv:F1.Le U':=gR.le.trans hle;have a_:∀ d,(Q8 s2.own d).live=true->∀ i,Oid (pX d) i->B'.get i=none/\U'.get i=U.get i:=λd hl i hi=>by
      refine⟨?_,gR.q1s hle hl hi⟩;have ah:=(gR.obj d).q0w hl hi;cases hg:U.get i with
      |none =>
       have hn:=k1.d.2 i ah hg;cases bP:B'.get i with
       |none=>rfl
       |some bb=>have:=eM.2 _ _ bP;rw[hn] at this;cases this
      |some bb =>
       refine k1.x i bb hg ?_;cases bP:B1.get i with
       |none=>rfl
       |some b2=>have:=gR.bf.2 _ _ bP;rw[gR.fresh d i hl hi] at this;cases this
     have vh:Gam P B' (B'.over F1) pX rI s2 env U':=⟨Heap.q1v,Heap.q1x eM iv,SRs.mono k1.b (λ_ _ h=>h) _ _ gR.env,λd=>(gR.obj d).mono k1.b (λ_ _ h=>h) λhl i hi=>(a_ d hl i hi).2,λd i q1 q2=>Heap.q1l (a_ d q1 i q2).1 (gR.fresh d i q1 q2),gR.sep,gR.free⟩;obtain⟨vi,h5,h6⟩:=BB (d:=d) (nt:=500000) (σ0:=U) (tbc:=Zh) (by omega) (Vl pl' mp) bs (Heap.q1x eM iv) aQ dB bs 0 pX s2 rfl vh (λk i hl hi=>.inl ((gR.obj k).q0w hl hi)) (λj' cC=>by omega);refine⟨u,U',.refl _ _ _,hK _ _ B' (B'.over F1) vi rI u U' hx (vg.trans (.over k1.b eM iv (λi b e1 e2=>k1.x i b (gR.le.2 _ _ e1) e2) k1.d)) h5 ?_⟩;exact SR.ren (tb:=Zh) (λj hj=>h6 j hj) _ _ hv iJ
    .exact h.elim
   .exact h.elim
  cases e with
  |normal=>exact main h1
  |ret=>exact main h1
  |_=>exact h1.elim
 .exact hx.elim
theorem OV {f:Nat}{vc:VCode}{rs:List VResult}{nt:Nat}(h:Fun P f vc rs nt) (hm:P.follows .mixedOrders=true) {ap:Ap}(dR:Ey P ap) {D:Type}{la:AL D}{pre:D->Prop}{res:D->SV}{obs:D->List OB}
  {C:Cx}(aA:COk P C) {L:D->List (Nat×LoopAnn)}{V:D->Prop}
  (hq:∀ y,gwp C (L y) vc 0 (Vv rs (res y) (obs y)) (Qw nt (AL.can la y))=V y)
  (hb:∀ y,pre y->V y):XOk P f (callV ap (V7 la pre res obs)):=OD h hm λfv c v bs hs hc=>by
 unfold V7 at hs;split at hs
 .rename_i y h2;obtain⟨rfl,rfl,rfl⟩:=(by simpa using hs:pre y=c/\res y=v/\obs y=bs);exact⟨C,L y,AL.can la y,AL.q0l la y,λU vs hv=>AL.q0k dR la h2 hv,aA,(hq y).mpr (hb y hc)⟩
 .cases hs
end
end Go.V
namespace Go.V
open Go
def pj4 {A B C D E:Type}(x:A×B×C×D×E):E:=x.2.2.2.2
def pj8 {A B C D A' B' C' D' E:Type}(x:A×B×C×D×A'×B'×C'×D'×E):E:=x.2.2.2.2.2.2.2.2
def NF {A B C D A' B' C' D' A1 B1 C1 D1 A2 B2 C2 D2 E:Type}(x:A×B×C×D×A'×B'×C'×D'×A1×B1×C1×D1×A2×B2×C2×D2×E):E:=x.2.2.2.2.2.2.2.2.2.2.2.2.2.2.2.2
theorem Sf (x:Nat):BitVec.ofInt 64 (x:Int)=BitVec.ofNat 64 x:=by apply BitVec.eq_of_toNat_eq;simp
theorem HR {x:Nat}(h:x<9223372036854775808):(BitVec.ofInt 64 (x:Int)).toNat=x:=by rw[Sf,BitVec.toNat_ofNat,xS (by omega)]
theorem Q4g {x i:Nat}(hi:i<=64):Xr .i64 x i=((x <<< i:Nat):Int):=by have:Nat.min i 64=i:=xL hi;simp only[Xr,zw,IntKind.bits,this,Nat.shiftLeft_eq];norm_cast
end Go.V
namespace Go.Proofs.Tryz
open Go Go.V Go.Proofs
def inI (n a b:Int):Bool:=decide (a<=n)&&decide (n<=b)
theorem nI (n a b:Int):(!inI n a b)=(decide (n<a)||decide (b<n)):=by simp only[inI,Bool.not_and];by_cases h1:a<=n<;>by_cases h2:n<=b<;>simp[h1,h2]<;>omega
def Gt {α:Type}(l:List α) (p:α->Bool):Int:=match l.findIdx? p with|some i=>(i:Int)|none=>-1
def IX (l:List Int) (p:Int->Bool):Int:=match l.findIdx? p with|some i=>(i:Int)|none=>-1
theorem SB {α:Type}{l:List α}{p:α->Bool}{k:Nat}(hk:k<l.length) (h:p l[k]=true) (hJ:(l.take k).any p=false):Gt l p=k:=by
 have:l.findIdx? p=some k:=by rw[List.findIdx?_eq_some_iff_getElem];refine⟨hk,h,λj hj=>?_⟩;have hn:=xN.1 hJ l[j] (List.mem_take_iff_getElem.2 ⟨j,by omega,rfl⟩);simpa using hn
 simp[Gt,this]
theorem Hw {α:Type}{l:List α}{p:α->Bool}(hJ:l.any p=false):Gt l p=-1:=by
 have:l.findIdx? p=none:=by rw[List.findIdx?_eq_none_iff];intro x hx;have:=xN.1 hJ x hx;simpa using this
 simp[Gt,this]
theorem Q0l {α:Type}(l:List α) (p:α->Bool):(decide (Gt l p>=0))=l.any p:=by
 cases h:l.any p with
 |false=>rw[Hw h];rfl
 |true =>
  have:(l.findIdx? p).isSome=true:=by rw[List.findIdx?_isSome,h]
  obtain⟨i,hi⟩:=Option.isSome_iff_exists.1 this;have e:Gt l p=(i:Int):=by simp[Gt,hi]
  rw[e];exact wQ (Int.natCast_nonneg i)
def Bc:Nat->Nat->Nat
 |0,_=>0
 |h+1,n=>2*Bc h n+(n / 2 ^ h) % 2
theorem Rj:∀ h n,Bc h n<2 ^ h
 |0,_=>by simp[Bc]
 |h+1,n=>by have:=Rj h n;have h2:(n / 2 ^ h) % 2<2:=wA _ (by omega);simp only[Bc];rw[Nat.pow_succ];omega
theorem He:∀ h n i,(Bc h n).testBit i=(decide (i<h)&&n.testBit (h-1-i))
 |0,n,i=>by simp[Bc]
 |h+1,n,0=>by simp only[Bc];rw[Nat.testBit_zero,Nat.testBit_eq_decide_div_mod_eq];simp
 |h+1,n,i+1=>by have h2:(n / 2 ^ h) % 2<2:=wA _ (by omega);simp only[Bc];rw[Nat.testBit_succ,show (2*Bc h n+n / 2 ^ h % 2) / 2=Bc h n by omega,He h n i];rw[show h+1-1-(i+1)=h-1-i by omega];congr 1;rw[decide_eq_decide];omega
def VY (s m x:Nat):Nat:=((x >>> s) &&& m) ||| ((x &&& m) <<< s)
theorem OC (s m x i:Nat):(VY s m x).testBit i=((x.testBit (s+i)&&m.testBit i)||(decide (s<=i)&&(x.testBit (i-s)&&m.testBit (i-s)))):=by unfold VY;rw[Nat.testBit_or,Nat.testBit_and,Nat.testBit_shiftRight,Nat.testBit_shiftLeft,Nat.testBit_and]
def V_ (s i:Nat):Nat:=if i / s % 2=0 then i+s else i-s
def Z37 (s m:Nat):Bool:=(List.range 64).all λi=>m.testBit i==(i / s % 2==0)
theorem S1 {s m x i:Nat}(hs:s=1\/s=2\/s=4\/s=8\/s=16\/s=32) (hm:Z37 s m=true) (hx:x<2 ^ 64) (hi:i<64):(VY s m x).testBit i=x.testBit (V_ s i):=by
 have rK:∀ j,j<64->m.testBit j=(j / s % 2==0):=λj hj=>by have:=zg.1 hm j (zF.2 hj);simpa using this
 have hb:∀ j,64<=j->x.testBit j=false:=λj hj=>Nat.testBit_lt_two_pow (xj hx (Nat.pow_le_pow_right (by omega) hj));rw[OC,rK i hi];unfold V_;by_cases h0:i / s % 2=0
 .rw[z8 h0,h0];simp only[beq_self_eq_true,xZ];have hz:(decide (s<=i)&&(x.testBit (i-s)&&m.testBit (i-s)))=false:=by
   by_cases h1:s<=i
   .rw[rK (i-s) (by omega)];have:¬ ((i-s) / s % 2=0):=by rcases hs with rfl|rfl|rfl|rfl|rfl|rfl<;>omega
    simp[this]
   .simp[h1]
  rw[hz,wC,xR]
 .rw[zd h0];have h1:s<=i:=by rcases hs with rfl|rfl|rfl|rfl|rfl|rfl<;>omega
  have h2:(i-s) / s % 2=0:=by rcases hs with rfl|rfl|rfl|rfl|rfl|rfl<;>omega
  rw[rK (i-s) (by omega),h2];simp[h0,h1]
theorem NZ {s m x:Nat}(hs:s=1\/s=2\/s=4\/s=8\/s=16\/s=32) (hx:x<2 ^ 64) (hm:m<2 ^ (64-s)):VY s m x<2 ^ 64:=by
 unfold VY;refine Nat.or_lt_two_pow ?_ ?_
 .exact xM Nat.and_le_left (xM (by rw[xX];exact Nat.div_le_self _ _) hx)
 .have h1:x &&& m<2 ^ (64-s):=xM Nat.and_le_right hm;rw[Nat.shiftLeft_eq];have h2:2 ^ 64=2 ^ (64-s)*2 ^ s:=by rw[<-Nat.pow_add];congr 1;omega
  rw[h2];exact Nat.mul_lt_mul_of_pos_right h1 (Nat.two_pow_pos s)
def rev8 (x:Nat):Nat:=VY 4 1085102592571150095 (VY 2 3689348814741910323 (VY 1 6148914691236517205 x))
def OF (x:Nat):Nat:=(VY 16 281470681808895 (VY 8 71777214294589695 x)) >>> 32 ||| ((VY 16 281470681808895 (VY 8 71777214294589695 x)) <<< 32) % 2 ^ 64
theorem CU {x i:Nat}(hx:x<2 ^ 64) (hi:i<64):(rev8 x).testBit i=x.testBit (V_ 1 (V_ 2 (V_ 4 i)))/\rev8 x<2 ^ 64:=by
 have b1:VY 1 6148914691236517205 x<2 ^ 64:=NZ (.inl rfl) hx (by decide);have b2:VY 2 3689348814741910323 (VY 1 6148914691236517205 x)<2 ^ 64:=NZ (.inr (.inl rfl)) b1 (by decide);have b3:=NZ (s:=4) (m:=1085102592571150095) (by omega) b2 (by decide);refine⟨?_,b3⟩;unfold rev8;have e4:V_ 4 i<64:=by unfold V_;split<;>omega
 have e2:V_ 2 (V_ 4 i)<64:=by generalize V_ 4 i=j at e4;unfold V_;split<;>omega
 rw[S1 (by omega) (by decide) b2 hi,S1 (by omega) (by decide) b1 e4,S1 (by omega) (by decide) hx e2]
theorem Oy {x i:Nat}(hx:x<2 ^ 64) (hi:i<64):(OF x).testBit i=x.testBit (V_ 8 (V_ 16 (V_ 32 i))):=by
 have b1:VY 8 71777214294589695 x<2 ^ 64:=NZ (by omega) hx (by decide);have b2:VY 16 281470681808895 (VY 8 71777214294589695 x)<2 ^ 64:=NZ (by omega) b1 (by decide);have vj:(OF x).testBit i=(VY 16 281470681808895 (VY 8 71777214294589695 x)).testBit (V_ 32 i):=by
  unfold OF;generalize VY 16 281470681808895 (VY 8 71777214294589695 x)=y at b2;rw[Nat.testBit_or,Nat.testBit_shiftRight,Nat.testBit_mod_two_pow,Nat.testBit_shiftLeft];unfold V_;by_cases h:i / 32 % 2=0
  .rw[z8 h,xR];have:¬ 32<=i:=by omega
   simp[this]
  .rw[zd h];have h1:32<=i:=by omega
   have h2:y.testBit (32+i)=false:=Nat.testBit_lt_two_pow (xj b2 (Nat.pow_le_pow_right (by omega) (by omega)));rw[h2];simp[h1,hi]
 have pY:V_ 32 i<64:=by unfold V_;split<;>omega
 have rL:V_ 16 (V_ 32 i)<64:=by generalize V_ 32 i=j at pY;unfold V_;split<;>omega
 rw[vj,S1 (by omega) (by decide) b1 pY,S1 (by omega) (by decide) hx rL]
theorem Q4m {x:Nat}(hx:x<2 ^ 64):OF x<2 ^ 64:=by unfold OF;have b1:VY 8 71777214294589695 x<2 ^ 64:=NZ (by omega) hx (by decide);have b2:VY 16 281470681808895 (VY 8 71777214294589695 x)<2 ^ 64:=NZ (by omega) b1 (by decide);refine Nat.or_lt_two_pow (xM (by rw[xX];exact Nat.div_le_self _ _) b2) (wA _ (by decide))
theorem Q46:∀ i,i<64->V_ 1 (V_ 2 (V_ 4 (V_ 8 (V_ 16 (V_ 32 i)))))=63-i:=by decide
theorem Z16 {x:Nat}(hx:x<2 ^ 64):OF (rev8 x)=Bc 64 x:=by
 refine Nat.eq_of_testBit_eq λi=>?_;have h8:=(CU (i:=0) hx (by omega)).2;rw[He];by_cases hi:i<64
 .rw[Oy h8 hi];have pY:V_ 32 i<64:=by unfold V_;split<;>omega
  have rL:V_ 16 (V_ 32 i)<64:=by generalize V_ 32 i=j at pY;unfold V_;split<;>omega
  have e8:V_ 8 (V_ 16 (V_ 32 i))<64:=by generalize V_ 16 (V_ 32 i)=j at rL;unfold V_;split<;>omega
  rw[(CU hx e8).1,Q46 i hi];simp[hi]
 .rw[Nat.testBit_lt_two_pow (xj (Q4m h8) (Nat.pow_le_pow_right (by omega) (by omega)))];simp[hi]
theorem Em {f n:Nat}(hf:f<=64) (hn:n<2 ^ f):Bc 64 n >>> (64-f)=Bc f n:=by
 refine Nat.eq_of_testBit_eq λi=>?_;rw[Nat.testBit_shiftRight,He,He];by_cases hi:i<f
 .rw[wQ hi,wQ (show 64-f+i<64 by omega),Bool.true_and,Bool.true_and];congr 1;omega
 .rw[xO hi,xO (show ¬ 64-f+i<64 by omega)];rfl
theorem OJ {x:Nat}(hx:x<2 ^ 64):(BitVec.ofInt 64 (x:Int)).toNat=x:=by rw[Sf,BitVec.toNat_ofNat,xS hx]
theorem Q4j (x:Nat):IntKind.wrap .u64 (x:Int)=((x % 2 ^ 64:Nat):Int):=by show (x:Int) % 18446744073709551616=_;omega
theorem Z4a {a b:Nat}(ha:a<2 ^ 64) (hb:b<2 ^ 64):Q7 .and .u64 (a:Int) (b:Int)=((a &&& b:Nat):Int):=by
 have e:(BitVec.ofInt 64 (a:Int) &&& BitVec.ofInt 64 (b:Int)).toNat=a &&& b:=by rw[BitVec.toNat_and,OJ ha,OJ hb]
 show IntKind.wrap .u64 ((BitVec.ofInt 64 (a:Int) &&& BitVec.ofInt 64 (b:Int)).toNat:Int)=_;rw[e,Q4j,xS (xM Nat.and_le_left ha)]
theorem orU {a b:Nat}(ha:a<2 ^ 64) (hb:b<2 ^ 64):Q7 .or .u64 (a:Int) (b:Int)=((a ||| b:Nat):Int):=by
 have e:(BitVec.ofInt 64 (a:Int) ||| BitVec.ofInt 64 (b:Int)).toNat=a ||| b:=by rw[BitVec.toNat_or,OJ ha,OJ hb]
 show IntKind.wrap .u64 ((BitVec.ofInt 64 (a:Int) ||| BitVec.ofInt 64 (b:Int)).toNat:Int)=_;rw[e,Q4j,xS (Nat.or_lt_two_pow ha hb)]
theorem Z32 {x i:Nat}(hi:i<=64):X7 .u64 (x:Int) (i:Int)=((x >>> i:Nat):Int):=by have:Nat.min i 64=i:=xL hi;simp only[X7,zw,IntKind.bits,this];rw[xX,Int.fdiv_eq_ediv_of_nonneg _ (Int.le_of_lt (Int.pow_pos (by omega)))];norm_cast
theorem Z4l {x i:Nat}(hi:i<=64):Xr .u64 (x:Int) (i:Int)=((x <<< i:Nat):Int):=by have:Nat.min i 64=i:=xL hi;simp only[Xr,zw,IntKind.bits,this,Nat.shiftLeft_eq];norm_cast
theorem Q83 {s m x:Nat}(hs:s=1\/s=2\/s=4\/s=8\/s=16\/s=32) (hx:x<2 ^ 64) (hm:m<2 ^ (64-s)) :
  Q7 .or .u64 (Q7 .and .u64 (X7 .u64 (x:Int) (s:Int)) (m:Int)) (Xr .u64 (Q7 .and .u64 (x:Int) (m:Int)) (s:Int))=((VY s m x:Nat):Int)/\InK .u64 (Xr .u64 (Q7 .and .u64 (x:Int) (m:Int)) (s:Int))/\VY s m x<2 ^ 64:=by
 have o9:m<2 ^ 64:=xj hm (Nat.pow_le_pow_right (by omega) (by omega));have bu:x >>> s<2 ^ 64:=xM (by rw[xX];exact Nat.div_le_self _ _) hx;have hl:(x &&& m) <<< s<2 ^ 64:=by
  have h1:x &&& m<2 ^ (64-s):=xM Nat.and_le_right hm;rw[Nat.shiftLeft_eq];have h2:2 ^ 64=2 ^ (64-s)*2 ^ s:=by rw[<-Nat.pow_add];congr 1;omega
  rw[h2];exact Nat.mul_lt_mul_of_pos_right h1 (Nat.two_pow_pos s)
 rw[Z32 (by omega),Z4a bu o9,Z4a hx o9,Z4l (by omega),orU (xM Nat.and_le_left bu) hl];refine⟨rfl,?_,NZ hs hx hm⟩;rw[DU];generalize (x &&& m) <<< s=z at hl;omega
theorem sw1 {x:Nat}(hx:x<2 ^ 64):Q7 .or .u64 (Q7 .and .u64 (X7 .u64 (x:Int) 1) 6148914691236517205) (Xr .u64 (Q7 .and .u64 (x:Int) 6148914691236517205) 1)=((VY 1 6148914691236517205 x:Nat):Int)/\InK .u64 (Xr .u64 (Q7 .and .u64 (x:Int) 6148914691236517205) 1)/\VY 1 6148914691236517205 x<2 ^ 64:=Q83 (s:=1) (m:=6148914691236517205) (by omega) hx (by decide)
theorem sw2 {x:Nat}(hx:x<2 ^ 64):Q7 .or .u64 (Q7 .and .u64 (X7 .u64 (x:Int) 2) 3689348814741910323) (Xr .u64 (Q7 .and .u64 (x:Int) 3689348814741910323) 2)=((VY 2 3689348814741910323 x:Nat):Int)/\InK .u64 (Xr .u64 (Q7 .and .u64 (x:Int) 3689348814741910323) 2)/\VY 2 3689348814741910323 x<2 ^ 64:=Q83 (s:=2) (m:=3689348814741910323) (by omega) hx (by decide)
theorem sw4 {x:Nat}(hx:x<2 ^ 64):Q7 .or .u64 (Q7 .and .u64 (X7 .u64 (x:Int) 4) 1085102592571150095) (Xr .u64 (Q7 .and .u64 (x:Int) 1085102592571150095) 4)=((VY 4 1085102592571150095 x:Nat):Int)/\InK .u64 (Xr .u64 (Q7 .and .u64 (x:Int) 1085102592571150095) 4)/\VY 4 1085102592571150095 x<2 ^ 64:=Q83 (s:=4) (m:=1085102592571150095) (by omega) hx (by decide)
theorem sw8 {x:Nat}(hx:x<2 ^ 64):Q7 .or .u64 (Q7 .and .u64 (X7 .u64 (x:Int) 8) 71777214294589695) (Xr .u64 (Q7 .and .u64 (x:Int) 71777214294589695) 8)=((VY 8 71777214294589695 x:Nat):Int)/\InK .u64 (Xr .u64 (Q7 .and .u64 (x:Int) 71777214294589695) 8)/\VY 8 71777214294589695 x<2 ^ 64:=Q83 (s:=8) (m:=71777214294589695) (by omega) hx (by decide)
theorem Z4p {x:Nat}(hx:x<2 ^ 64):Q7 .or .u64 (Q7 .and .u64 (X7 .u64 (x:Int) 16) 281470681808895) (Xr .u64 (Q7 .and .u64 (x:Int) 281470681808895) 16)=((VY 16 281470681808895 x:Nat):Int)/\InK .u64 (Xr .u64 (Q7 .and .u64 (x:Int) 281470681808895) 16)/\VY 16 281470681808895 x<2 ^ 64:=Q83 (s:=16) (m:=281470681808895) (by omega) hx (by decide)
theorem Z4t {x:Nat}(hx:x<2 ^ 64):Q7 .or .u64 (X7 .u64 (x:Int) 32) (IntKind.wrap .u64 (Xr .u64 (x:Int) 32))=((x >>> 32 ||| (x <<< 32) % 2 ^ 64:Nat):Int):=by have h1:X7 .u64 (x:Int) 32=((x >>> 32:Nat):Int):=Z32 (i:=32) (by omega);have h2:Xr .u64 (x:Int) 32=((x <<< 32:Nat):Int):=Z4l (i:=32) (by omega);rw[h1,h2,Q4j,orU (xM (by rw[xX];exact Nat.div_le_self _ _) hx) (wA _ (by decide))]
abbrev UC:=Int×Int×Bool
def Dd:UC:=(0,(0,false))
def Zk (hk:Int) (c:UC):Bool:=inI c.1 (-1) 59&&inI c.2.1 0 (2 ^ hk.toNat-1)
def Z1 (hk:Int) (cs:List UC):Int:=if !inI hk 1 24 then 3 else if 60<cs.length then 5 else if cs=[]\/(cs.any λc=>!Zk hk c)=true then 2 else 0
def EM (f row:Int):Int:=((Bc f.toNat row.toNat:Nat):Int)
def Ga (hk:Int) (c:UC):Int:=if c.2.2 then EM hk c.2.1 else c.2.1
def atK (n a:Int) (st:List Int):Nat->Int
 |0=>a
 |k+1=>Int.tmod (atK n a st k+st.getD k 0) n
theorem Q7y {n a b:Int}(h:(!inI n a b)=false):a<=n/\n<=b:=by unfold inI at h;simp at h;omega
theorem Z4n {k:Nat}(h:k<=62):Xr .i64 1 (k:Int)=((2 ^ k:Nat):Int):=by have:=Q4g (x:=1) (i:=k) (by omega);rw[Nat.shiftLeft_eq,xG] at this;exact this
theorem Ha (k:Nat):(2:Int) ^ k=((2 ^ k:Nat):Int):=by simp
theorem OL {k:Nat}(h:k<=24):0<2 ^ k/\2 ^ k<=16777216:=⟨Nat.two_pow_pos k,Nat.pow_le_pow_right (n:=2) (by omega) h⟩
theorem DX {f:Int}{c:UC}(h:Zk f c=true):0<=c.2.1/\c.2.1<2 ^ f.toNat:=by unfold Zk inI at h;simp only[z7,zk] at h;omega
theorem Vp {hk:Int}{cs:List UC}(h:Z1 hk cs=0):(1<=hk/\hk<=24)/\cs.length<=60/\cs≠[]/\∀ c∈cs,Zk hk c=true:=by
 unfold Z1 at h;split at h
 .cases h
 .rename_i h1;have h1:(!inI hk 1 24)=false:=by simpa using h1
  split at h
  .cases h
  .split at h
   .cases h
   .rename_i h2 h3;refine⟨Q7y h1,by omega,λe=>h3 (.inl e),λc hc=>?_⟩;cases av:Zk hk c with
    |true=>rfl
    |false=>exact(h3 (.inr (xF.2 ⟨c,hc,by rw[av];rfl⟩))).elim
theorem F3 {n:Nat}{a:Int}{st:List Int}(hn:0<n) (h0:0<=a) (h1:a<n):∀ k,(∀ j,j<k->0<=st.getD j 0)->0<=atK n a st k/\atK n a st k<n
 |0,_=>⟨h0,h1⟩
 |k+1,hs=>by have ih:=F3 hn h0 h1 k λj hj=>hs j (by omega);have hg:=hs k (by omega);simp only[atK];rw[Int.tmod_eq_emod_of_nonneg (by omega)];exact⟨Int.emod_nonneg _ (by omega),Int.emod_lt_of_pos _ (by omega)⟩
end Go.Proofs.Tryz