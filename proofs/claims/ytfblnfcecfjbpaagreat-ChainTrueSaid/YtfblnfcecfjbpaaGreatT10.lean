/- A framework for walks, contracts of functions, and their proofs: part 10. -/
import Derived.Test.YtfblnfcecfjbpaaGreatT9
set_option linter.unusedVariables false
namespace Go.V
open Go
section
variable {P:Program}{B F:Heap}{pl:Nat->Value}{tb:Nat->Option Bool}{own:Own}{M:Heap}
mutual
theorem EJ {bx:List SV->Nat->SV}(hle:B.Le M) (aA:∀ d,OR P B pl tb M (pl d) (Q9 own d))
  (lz:∀ l off b c e t,M.get b=some (.cells c e true t)->SRs P B pl tb l c->SR P M Jo Zf (bx l off) (.pointer (some ⟨b,off,none⟩))) :
  ∀ (s:SV) (v:Value),SR P B pl tb s v->SR P M Jo Zf (Td own bx s) v
 |.any,v,h=>by simp[Td,SR]
 |.val k x,v,h=>by simp only[Td,SR] at h |-;exact h.mono hle
 |.bid n c,v,h=>by simp only[Td,SR] at h |-;obtain⟨rfl,_⟩:=h;rfl
 |.grd gs s,v,h=>by simp[Td,SR]
 |.nilS,v,h=>by simp only[Td,SR] at h |-;exact h
 |.nilP,v,h=>by simp only[Td,SR] at h |-;exact h
 |.nilM,v,h=>by simp only[Td,SR] at h |-;exact h
 |.nilF,v,h=>by simp only[Td,SR] at h |-;exact h
 |.lst o,v,h=>by
  simp only[Td];split
  .rename_i ty k xs nl ho;have:view own k (.lst o)=some xs:=by simp[view,ho,Ue]
   simp only[SR,KC];exact⟨v,rfl,(Y1 hle aA this h).mono (Heap.Le.refl _) λ_ _ e=>e.mono hle⟩
  .simp[SR]
 |.sub o lo n sz,v,h=>by
  simp only[Td];split
  .rename_i ty k xs nl ho;split
   .rename_i aF;have:view own k (.sub o lo n sz)=some ((xs.drop lo).take n):=by simp[view,ho,Ue,aF]
    simp only[SR,KC];exact⟨v,rfl,(Y1 hle aA this h).mono (Heap.Le.refl _) λ_ _ e=>e.mono hle⟩
   .simp[SR]
  .simp[SR]
 |.elp o i off sz,v,h=>by simp[Td,SR]
 |.dd o w,v,h=>by
  simp only[Td];simp only[SR] at h;split
  .rename_i ty q k xs nl hole ho;have ao:=aA o;rw[ho] at ao;have dx:=DP.le ao;split
   .split
    .obtain⟨h1,_⟩:=h;simp only[SR,KC];refine⟨v,rfl,?_⟩;rw[h1];exact(DP.sl ao).mono dx λ_ _ e=>e.mono dx
    .simp[SR]
   .simp only[SR];exact KC.mono dx h
   .simp only[SR];exact KC.mono dx h.1
   .simp[SR]
  .simp[SR]
 |.map o,v,h=>by simp[Td,SR]
 |.tup l,v,h=>by simp[Td,SR]
 |.box o off,v,h=>by
  simp only[Td];split
  .rename_i l _ ho;have ao:=aA o;rw[ho] at ao;obtain⟨i,c,e,t,h1,h2,h3,_⟩:=ao;simp only[SR] at h;obtain⟨b,h4,rfl⟩:=h;rw[h4] at h1;obtain rfl:=(by simpa using h1:b=i);exact lz l off b c e t h2 h3
  .simp[SR]
 |.rop k l i off,v,h=>by simp only[Td];exact SR.mono (tb:=tb) hle (λn c hn=>hn) (.rop k l i off) v h |> λh=>by simp only[SR] at h |-;exact h
 |.cp l off,v,h=>by simp only[Td,SR] at h |-;obtain⟨b,c,e,wr,t,h1,h2,h3⟩:=h;exact⟨b,c,e,wr,t,hle.2 _ _ h1,h2,X4 hle aA lz l c h3⟩
 |.agg l,v,h=>by simp only[Td,SR] at h |-;obtain⟨cs,h1,h2⟩:=h;exact⟨cs,h1,X4 hle aA lz l cs h2⟩
 |.fn f a b,v,h=>by simp only[Td,SR] at h |-;obtain⟨x,y,h1,h2,h3⟩:=h;exact⟨x,y,h1,X4 hle aA lz a x h2,X4 hle aA lz b y h3⟩
 |.pf ks r cX p,v,h=>by simp only[Td,SR] at h |-;exact h.mono hle
theorem X4 {bx:List SV->Nat->SV}(hle:B.Le M) (aA:∀ d,OR P B pl tb M (pl d) (Q9 own d))
  (lz:∀ l off b c e t,M.get b=some (.cells c e true t)->SRs P B pl tb l c->SR P M Jo Zf (bx l off) (.pointer (some ⟨b,off,none⟩))) :
  ∀ (s:List SV) (v:List Value),SRs P B pl tb s v->SRs P M Jo Zf (He own bx s) v
 |[],v,h=>by simp only[He,SRs] at h |-;exact h
 |s::ss,v,h=>by simp only[He,SRs] at h |-;obtain⟨x,y,h1,h2,h3⟩:=h;exact⟨x,y,h1,EJ hle aA lz s x h2,X4 hle aA lz ss y h3⟩
end
theorem Y0 (hle:B.Le M) (aA:∀ d,OR P B pl tb M (pl d) (Q9 own d)) {l:List SV}{v:List Value}(h:SRs P B pl tb l v):SRs P M Jo Zf (BM own l) v:=by
 have h0:∀ {l v},SRs P B pl tb l v->SRs P M Jo Zf (Z5k own l) v:=λh=>X4 hle aA (λ_ _ _ _ _ _ _ _=>by simp[SR]) _ _ h;have h1:∀ {l v},SRs P B pl tb l v->SRs P M Jo Zf (Z5a own l) v:=λh=>X4 hle aA (λl off b c e t hg hs=>by
  simp only[SR];exact⟨b,c,e,true,t,hg,rfl,h0 hs⟩) _ _ h
 exact X4 hle aA (λl off b c e t hg hs=>by
  simp only[SR];exact⟨b,c,e,true,t,hg,rfl,h1 hs⟩) _ _ h
mutual
theorem Oq {p q:Nat->Value}{n:Nat}(h:∀ j,j<n->p j=q j):∀ (s:SV),s.ret n=true->VG p s=VG q s
 |.val _ _,_|.nilS,_|.nilP,_|.nilM,_|.nilF,_=>by simp[VG]
 |.lst j,hr=>by simp only[VG];exact h j (by simpa [SV.ret,zL] using hr)
 |.agg l,hr=>by simp only[VG];rw[Rr h l hr]
 |.tup l,hr=>by simp only[VG];rw[Rr h l hr]
 |.box _ _,_|.map _,_=>by simp[VG]
 |.dd _ _,_=>by simp[VG]
 |.any,h|.bid _ _,h|.grd _ _,h|.sub _ _ _ _,h|.elp _ _ _ _,h|.rop _ _ _ _,h|.cp _ _,h|.fn _ _ _,h|.pf _ _ _ _,h=>by cases h
theorem Rr {p q:Nat->Value}{n:Nat}(h:∀ j,j<n->p j=q j):∀ (s:List SV),SVs.ret n s=true->Y_ p s=Y_ q s
 |[],_=>rfl
 |s::ss,hr=>by simp only[SVs.ret,z6] at hr;simp only[Y_];rw[Oq h s hr.1,Rr h ss hr.2]
end
theorem ZM {cs:List (Nat×CSp)}(aB:CsOk P cs) {f:SV}{args:List SV}{c:Prop}{v:SV}{bs:List OB}{fV:Value}{vs:List Value}(hf:SR P M Jo Zf f fV) (ha:SRs P M Jo Zf args vs)
  (h:VD cs f args=some (c,v,bs)) (hv:v.ret bs.length=true) (hb:bs.all OB.ret=true) (hc:c):∃ g a b,fV=.func (.func g) a b/\(VCalled P g (a.toList++vs++b.toList) M λu M'=>Ret P M v bs u M') /\
  (bs.all OB.isL=true->VB v=true->VCalled P g (a.toList++vs++b.toList) M λu M'=>u=VG (R0 M bs) v/\M'=Hr M bs):=by
 have gen:(gap cs 3 f args).map (λx=>(x.1,x.2,([]:List OB)))=some (c,v,bs)->∃ g a b,fV=.func (.func g) a b/\(VCalled P g (a.toList++vs++b.toList) M λu M'=>Ret P M v bs u M') /\
   (bs.all OB.isL=true->VB v=true->VCalled P g (a.toList++vs++b.toList) M λu M'=>u=VG (R0 M bs) v/\M'=Hr M bs):=λh=>by
  simp only[zw] at h;obtain⟨⟨c',v'⟩,h1,h2⟩:=h;simp only[Prod.mk.injEq] at h2;obtain⟨rfl,rfl,rfl⟩:=h2;obtain⟨h3,g,a,b,rfl,h4⟩:=ID aB 3 M f args c' v' fV vs hf ha h1 hc;refine⟨g,a,b,rfl,h4.mono λu M' hu=>?_,λ_ cN=>h4.mono λu M' hu=>?_⟩
  .obtain⟨rfl,hu⟩:=hu;exact⟨⟨Heap.Le.refl _,Dead.refl _⟩,λ_=>rfl,Jo,(λj b hj=>by simp at hj),(λj j' i hj=>by simp at hj),hu⟩
  .obtain⟨rfl,hu⟩:=hu;have hz:Hr M' []=M':=(Lf (P:=P) M' (v:=v') (bs:=[]) h3 cN rfl rfl (λb hb=>by cases hb)).2.1 rfl;refine⟨?_,hz.symm⟩;rw[Ud v' u h3 cN hu];exact Oq (λj hj=>by omega) v' h3
 cases f with
 |fn g a b =>
  simp only[VD] at h;split at h
  .rename_i sp cq;simp only[SR] at hf;obtain⟨x,y,rfl,h1,h2⟩:=hf;refine⟨g,x.toArray,y.toArray,rfl,?_⟩;simpa using aB g sp cq (gap cs 3) (ID aB 3) M (a++args++b) (x++vs++y) c v bs ((h1.append ha).append h2) h hv hb hc
  .cases h
 |_=>exact gen h
theorem Gam.q1t {s:St}{env:Env}{M':Heap}(h:Gam P B F pl tb s env M) (hl:M.Le M') {d:Nat}(aq:(Q9 s.own d).live=true) {i:Nat}(hi:Oid (pl d) i):M'.get i=M.get i:=by
  have ah:=(h.obj d).q0w aq hi;cases hb:M.get i with
  |none =>
   have ao:=h.obj d;cases ho:Q9 s.own d with
   |dead=>rw[ho] at aq;cases aq
   |lst ty k xs nl =>
    rw[ho] at ao;rcases ao with⟨_,_,h2⟩|⟨_,i',cap,c,t,h2,_,h3,_⟩
    .rw[h2] at hi;cases hi
    .rw[h2] at hi;obtain rfl:=osj hi;rw[h3] at hb;cases hb
   |cells l u=>rw[ho] at ao;obtain⟨i',c,e,t,h2,h3,_⟩:=ao;rw[h2] at hi;obtain rfl:=osj hi;rw[h3] at hb;cases hb
   |mapE kk vk m key n=>rw[ho] at ao;obtain⟨i',es,cl,r,e,h2,h3,_⟩:=ao;rw[h2] at hi;obtain rfl:=osj hi;rw[h3] at hb;cases hb
   |map kk vk m=>rw[ho] at ao;obtain⟨i',es,cl,h2,h3,_⟩:=ao;rw[h2] at hi;obtain rfl:=osj hi;rw[h3] at hb;cases hb
   |stk l vals=>rw[ho] at aq;cases aq
   |lpf l q s=>rw[ho] at ao aq;obtain⟨h2,_,h3⟩:=ao;rw[h2] at hi;obtain rfl:=osj hi;have h3:=h3 aq;rw[hb] at h3;cases h3
   |iter kk vk m dn=>rw[ho] at ao;obtain⟨j',i',es,cl,wr,seen,h2,h3,_⟩:=ao;rw[h2] at hi;obtain rfl:=osj hi;rw[h3] at hb;cases hb
   |deep ty q k xs nl hh =>rw[ho] at ao;obtain⟨is,_,d2,d3,_⟩:=DP.open ao;obtain⟨c,e,t,h⟩:=d2.cells i ((d3 i).1 hi);rw[h] at hb;cases hb
  |some b=>rw[hl.2 i b hb]
theorem Gam.heap {s:St}{env:Env}{M':Heap}(h:Gam P B F pl tb s env M) (hl:M.Le M'):Gam P B F pl tb s env M' :=
 ⟨h.bf,h.le.trans hl,h.env,λd=>(h.obj d).mono (Heap.Le.refl _) (λ_ _ h=>h) λaq _i hi=>h.q1t hl aq hi,h.fresh,h.sep,h.free⟩
theorem Py {env:Env}{σ0:Heap}{d nt:Nat}(dw:0<nt) (dz:Nat->Value) (bs:List OB) (hB:F.Le σ0)
  (ao:∀ j b,bs[j]?=some b->b.ret=true/\OR P hNil dz Zf M (dz j) b/\∀ i,Oid (dz j) i->σ0.n<=i)
  (dy:∀ j j' i,j<bs.length->j'<bs.length->j≠j'->Oid (dz j) i->Oid (dz j') i->False) :
  ∀ (r:List OB) (j:Nat) (pl:Nat->Value) (s:St),bs.drop j=r->Gam P B F pl tb s env M->(∀ k i,(Q9 s.own k).live=true->Oid (pl k) i->i<σ0.n\/∃ j'<j,j'<bs.length/\Oid (dz j') i/\k=d+j'*nt)->(∀ j'<j,j'<bs.length->pl (d+j'*nt)=dz j') ->
   ∃ pl',Gam P B F pl' tb (s.makes d nt j r) env M/\(∀ j'<bs.length,pl' (d+j'*nt)=dz j')/\∀ q,(∀ j'<bs.length,q≠d+j'*nt)->pl' q=pl q/\(Q9 (s.makes d nt j r).own q).live=(Q9 s.own q).live
 |[],j,pl,s,hr,hG,_,hp=>⟨pl,hG,λj' cA=>hp j' (by
   have:=congrArg List.length hr;simp at this;omega) cA,λq _=>⟨rfl,rfl⟩⟩
 |b::r,j,pl,s,hr,hG,hinv,hp=>by
  have bV:j<bs.length:=by
   rcases zl j bs.length with h|h
   .exact h
   .rw[List.drop_eq_nil_of_le h] at hr;cases hr
  have b6:bs[j]?=some b:=by
   have:(bs.drop j)[0]?=some b:=by rw[hr];rfl
   simpa using this
  have jS:bs.drop (j+1)=r:=by
   have:(bs.drop j).drop 1=r:=by rw[hr];rfl
   simpa [List.drop_drop,xP] using this
  obtain⟨h1,h2,h3⟩:=ao j b b6;have bG:∀ j' ,j'≠j->d+j'*nt≠d+j*nt:=λj' az e=>az (Nat.eq_of_mul_eq_mul_right dw (by omega));obtain⟨pl',k1,k2,k3⟩:∃ pl',Gam P B F pl' tb ((s.make (d+j*nt) b).makes d nt (j+1) r) env M/\(∀ j'<bs.length,pl' (d+j'*nt)=dz j')/\∀ q,(∀ j'<bs.length,q≠d+j'*nt)->pl' q=Jm pl (d+j*nt) (dz j) q/\(Q9 ((s.make (d+j*nt) b).makes d nt (j+1) r).own q).live=(Q9 (s.make (d+j*nt) b).own q).live:=by
   refine Py dw dz bs hB ao dy r (j+1) (Jm pl (d+j*nt) (dz j)) _ jS (hG.make (d+j*nt) b (dz j) hG.le (λ_ _ _ _ _=>rfl) (h2.retd h1 λ_ _=>rfl) λi _ hi=>⟨F.wf _ (by have:=h3 i hi;have:=hB.1;omega),λk hk hl e=>?_⟩) (λk i hl hi=>?_) λj' cA mj=>?_
   .rcases hinv k i hl e with h|⟨j',cA,dA,he,_⟩
    .have:=h3 i hi;omega
    .exact dy j j' i bV dA (by omega) hi he
   .by_cases hk:k=d+j*nt
    .subst hk;simp only[Jm,zB] at hi;exact .inr ⟨j,by omega,bV,hi,rfl⟩
    .have cm:(Q9 s.own k).live=true:=by
      simp only[St.make,St.kill,Qk,Kb,z8 hk] at hl
      rwa [OB.q0q] at hl
     simp only[Jm,z8 hk] at hi;rcases hinv k i cm hi with h|⟨j',cA,h5⟩
     .exact .inl h
     .exact .inr ⟨j',by omega,h5⟩
   .by_cases e:j'=j
    .subst e;simp[Jm]
    .simp only[Jm,z8 (bG j' e)];exact hp j' (by omega) mj
  refine⟨pl',k1,k2,λq hq=>?_⟩;obtain⟨e1,e2⟩:=k3 q hq;refine⟨by rw[e1];simp[Jm,hq j bV],?_⟩;show (Q9 ((s.make (d+j*nt) b).makes d nt (j+1) r).own q).live=_;rw[e2];simp only[St.make,St.kill,Qk,Kb,z8 (hq j bV),OB.q0q]
theorem Ret.gamF {s:St}{env:Env}{d nt:Nat}(dw:0<nt) (hG:Gam P B F pl tb s env M) {v:SV}{bs:List OB}{u:Value}{M':Heap}(hv:v.ret bs.length=true) (hb:bs.all OB.ret=true) (h:Ret P M v bs u M') :
  ∃ pl',Gam P B F pl' tb (s.makes d nt 0 bs) env M'/\SR P B pl' tb (v.ren d nt) u/\∀ q,(∀ j'<bs.length,q≠d+j'*nt)->(Q9 (s.makes d nt 0 bs).own q).live=(Q9 s.own q).live/\pl' q=pl q/\((Q9 s.own q).live=true->∀ i,Oid (pl q) i->M'.get i=M.get i):=by
 obtain⟨⟨h1,_⟩,_,dz,h2,h3,h4⟩:=h
 obtain⟨pl',h5,h6,h7⟩:=Py (tb:=tb) (d:=d) dw dz bs hG.le (λj b hj=>⟨zf.1 hb b (zF hj),(h2 j b hj).1,λi hi=>((h2 j b hj).2 i hi).2⟩) h3 bs 0 pl s rfl (hG.heap h1)
  (λk i hl hi=>.inl ((hG.obj k).q0w hl hi)) (λj' cA=>by omega)
 exact⟨pl',h5,SR.ren (tb:=Zf) (λj hj=>h6 j hj) _ _ hv (SR.mono (tb:=Zf) (tb':=Zf) (AV B) (λ_ _ h=>h) _ _ h4),λq hq=>⟨(h7 q hq).2,(h7 q hq).1,λhl i hi=>hG.q1t h1 hl hi⟩⟩
theorem Ret.gam {s:St}{env:Env}{d nt:Nat}(dw:0<nt) (hG:Gam P B F pl tb s env M) {v:SV}{bs:List OB}{u:Value}{M':Heap}(hv:v.ret bs.length=true) (hb:bs.all OB.ret=true) (h:Ret P M v bs u M') :
  ∃ pl',Gam P B F pl' tb (s.makes d nt 0 bs) env M'/\SR P B pl' tb (v.ren d nt) u:=by
 obtain⟨pl',h1,h2,_⟩:=h.gamF dw hG hv hb;exact⟨pl',h1,h2⟩
end
end Go.V
namespace Go.V
open Go
section
variable {P:Program}
structure GBase (B0 F0 D0 B F M:Heap):Prop where
 b:B0.Le B
 f:F0.Le F
 x:∀ i b,F0.get i=some b->B0.get i=none->B.get i=none
 d:Dead D0 M
theorem GBase.of {B F M:Heap}{M':Heap}(_hB:B.Le F) (h:Dead M M'):GBase B F M B F M':=⟨.refl _,.refl _,λ_ _ _ h=>h,h⟩
theorem GBase.trans {B0 F0 D0 B F M B' F' M':Heap}(h:GBase B0 F0 D0 B F M) (h':GBase B F M B' F' M'):GBase B0 F0 D0 B' F' M' :=
 ⟨h.b.trans h'.b,h.f.trans h'.f,λi b h1 h2=>h'.x i b (h.f.2 _ _ h1) (h.x i b h1 h2),h.d.trans h'.d⟩
def GRel (P:Program) (B0 F0 D0:Heap) (s:St) (env:Env) (M:Heap):Prop:=∃ B F pl tb,GBase B0 F0 D0 B F M/\Gam P B F pl tb s env M
theorem Gl {B0 F0 D0 B F:Heap}{M M':Heap}(hB:GBase B0 F0 D0 B F M) (h:Dead M M'):GBase B0 F0 D0 B F M':=⟨hB.b,hB.f,hB.x,hB.d.trans h⟩
theorem Gam.evs {B F:Heap}{pl:Nat->Value}{tb:Nat->Option Bool}{s:St}{env:Env}{M:Heap}(h:Gam P B F pl tb s env M) {gs:List Gd}(hg:Gds tb gs) (x:Operand):SR P B pl tb (gev gs s.env x) (Q3 env x):=Ic hg h.env x
theorem Gds.nil {tb:Nat->Option Bool}:Gds tb []:=λ_ h=>by cases h
theorem Ec {gs:List Gd}{c:Prop}(h:Q7e gs c) (hg:∀ g∈gs,g.c=g.want):c:=by
 induction gs with
 |nil=>exact h
 |cons g gs ih=>exact ih (h (hg g (by simp))) λg' dS=>hg g' (by simp[dS])
theorem Zm {gs:List Gd}{cs:List Prop}{q:Prop}(h:C5 gs cs q):q/\((∀ g∈gs,g.c=g.want)->∀ c∈cs,c):=by
 induction cs with
 |nil=>exact⟨h,λ_ c hc=>by cases hc⟩
 |cons c cs ih =>
  obtain⟨h1,h2⟩:=h;obtain⟨h3,h4⟩:=ih h2;exact⟨h3,λhg c' cI=>by
   rcases zn.1 cI with rfl|cI
   .exact Ec h1 hg
   .exact h4 hg c' cI⟩
theorem Dead.push (M:Heap) (b:Blk):Dead M (M.push b):=⟨by simp,λi hi h=>by rw[Heap.q0i _ _ hi];exact h⟩
theorem Dead.upd (M:Heap) (j:Nat) (b:Blk) (hj:(M.get j).isSome=true):Dead M (M.upd j b):=⟨by simp,λi hi h=>by
 have:i≠j:=λe=>by subst e;rw[h] at hj;cases hj
 rw[Heap.q0b _ _ this];exact h⟩
theorem Dead.kill (M:Heap) (j:Nat):Dead M (M.kill j):=⟨by simp,λi hi h=>by
 by_cases e:i=j
 .subst e;exact Heap.q0g _ _
 .rw[Heap.q0d _ e];exact h⟩
theorem SS {e:El}{bytes m:Nat}{M M':Heap}{s u:Value}{xs:List Value}(h:YD e bytes M s m xs=some (u,M')):Dead M M':=by
 unfold YD at h;split at h
 .split at h
  .obtain⟨rfl,rfl⟩:=QV h;exact Dead.refl _
  .split at h
   .obtain⟨rfl,rfl⟩:=QV h;exact Dead.push _ _
   .cases h
 .split at h
  .rename_i hg;split at h
   .split at h
    .obtain⟨rfl,rfl⟩:=QV h;exact Dead.refl _
    .split at h
     .split at h
      .obtain⟨rfl,rfl⟩:=QV h;exact Dead.upd _ _ _ (by rw[hg];rfl)
      .cases h
     .split at h
      .split at h
       .obtain⟨rfl,rfl⟩:=QV h;exact Dead.push _ _
       .split at h
        .obtain⟨rfl,rfl⟩:=QV h;exact(Dead.kill _ _).trans (Dead.push _ _)
        .cases h
      .cases h
   .cases h
  .cases h
 .split at h
  .split at h
   .obtain⟨rfl,rfl⟩:=QV h;exact Dead.push _ _
   .cases h
  .cases h
 .cases h
theorem Km {o:VOp}{ev:Operand->Value}{M M':Heap}{u:Value}(h:Q7 o ev M=some (u,M')):Dead M M':=by
 by_cases hk:o.kind=2
 .cases o<;>first|(cases hk;done)|skip
  case alloc t z=>obtain⟨rfl,rfl⟩:=QV h;exact Dead.push _ _
  case box t x =>
   simp only[Q7] at h;split at h
   .obtain⟨rfl,rfl⟩:=QV h;exact Dead.push _ _
   .cases h
  case buildSlice e z n ps =>
   simp only[Q7] at h;split at h
   .obtain⟨rfl,rfl⟩:=QV h;exact Dead.push _ _
   .cases h
  case makeSlice e b z l c =>
   simp only[Q7] at h;split at h
   .split at h
    .obtain⟨rfl,rfl⟩:=QV h;exact Dead.push _ _
    .cases h
   .cases h
  case store size a x =>
   simp only[Q7] at h;split at h
   .split at h
    .rename_i hg;split at h
     .obtain⟨rfl,rfl⟩:=QV h;exact Dead.upd _ _ _ (by rw[hg];rfl)
     .cases h
    .cases h
   .cases h
  case append e b x y =>
   simp only[Q7] at h;split at h
   .split at h
    .exact SS h
    .cases h
   .cases h
  case slice size x lo hi mx =>
   simp only[Q7] at h;split at h
   .have sl:∀ {l hh:Nat}{m:Option Nat}{v:Value},WU size M v l hh m=some (u,M')->Dead M M':=λ{l hh m v} h=>by
     unfold WU at h;split at h
     .split at h
      .obtain⟨rfl,rfl⟩:=QV h;exact Dead.refl _
      .cases h
     .split at h
      .split at h
       .split at h
        .obtain⟨rfl,rfl⟩:=QV h;exact Dead.refl _
        .cases h
       .split at h
        .split at h
         .obtain⟨rfl,rfl⟩:=QV h;exact Dead.push _ _
         .split at h<;>(obtain⟨rfl,rfl⟩:=QV h;exact Dead.refl _)
        .cases h
      .cases h
     .cases h
    split at h
    .exact sl h
    .split at h
     .exact sl h
     .cases h
    .cases h
   .cases h
  case callF f a=>cases h
  case callV f a=>cases h
  case ext x =>
   cases x<;>first|(cases hk;done)|skip
   case makeMap=>obtain⟨rfl,rfl⟩:=QV h;exact Dead.push _ _
   case mapUpdate mk m k v =>
    simp only[Q7,Zg] at h;split at h
    .split at h
     .rename_i hm;split at h
      .obtain⟨rfl,rfl⟩:=QV h;refine Dead.upd _ _ _ ?_;unfold Heap.mapAt at hm;split at hm
       .rename_i hg;rw[hg];rfl
       .cases hm
      .cases h
     .cases h
    .cases h
   case mapEntry mk z m k =>
    simp only[Q7,Zg] at h;split at h
    .split at h
     .rename_i hm;split at h
      .split at h
       all_goals
        obtain⟨rfl,rfl⟩:=QV h;refine Dead.upd _ _ _ ?_;unfold Heap.mapAt at hm;split at hm
        .rename_i hg;rw[hg];rfl
        .cases hm
      .cases h
     .cases h
    .cases h
   case entryStore m s v =>
    simp only[Q7,Zg] at h;split at h
    .split at h
     .rename_i hm;split at h
      .split at h
       .obtain⟨rfl,rfl⟩:=QV h;refine Dead.upd _ _ _ ?_;unfold Heap.mapAt at hm;split at hm
        .rename_i hg;rw[hg];rfl
        .cases hm
       .cases h
      .cases h
     .cases h
    .cases h
   case delete mk m k =>
    simp only[Q7,Zg] at h;split at h
    .split at h
     .rename_i hm;split at h
      .obtain⟨rfl,rfl⟩:=QV h;refine Dead.upd _ _ _ ?_;unfold Heap.mapAt at hm;split at hm
       .rename_i hg;rw[hg];rfl
       .cases hm
      .cases h
     .cases h
    .cases h
   case rangeMap x =>
    simp only[Q7,Zg] at h;split at h
    .split at h
     .obtain⟨rfl,rfl⟩:=QV h;exact Dead.push _ _
     .cases h
    .cases h
   case nextMap x=>cases h
   case copy size a b =>
    simp only[Q7,Zg] at h;split at h
    .split at h
     .obtain⟨rfl,rfl⟩:=QV h;exact Dead.refl _
     .split at h
      .split at h
       .rename_i hg;split at h
        .obtain⟨rfl,rfl⟩:=QV h;exact Dead.upd _ _ _ (by rw[hg];rfl)
        .cases h
       .cases h
      .cases h
    .cases h
   case clear z x =>
    simp only[Q7,Zg] at h;split at h
    .split at h
     .obtain⟨rfl,rfl⟩:=QV h;exact Dead.refl _
     .split at h
      .split at h
       .rename_i hg;split at h
        .obtain⟨rfl,rfl⟩:=QV h;exact Dead.upd _ _ _ (by rw[hg];rfl)
        .cases h
       .cases h
      .cases h
    .cases h
   case strBytes e x =>
    simp only[Q7,Zg] at h;split at h
    .split at h
     .obtain⟨rfl,rfl⟩:=QV h;exact Dead.push _ _
     .cases h
    .cases h
   case unsafeStr e x n =>
    simp only[Q7,Zg] at h;split at h
    .split at h
     .obtain⟨rfl,rfl⟩:=QV h;exact Dead.refl _
     .split at h
      .split at h
       .rename_i hg;split at h
        .split at h
         .obtain⟨rfl,rfl⟩:=QV h;exact Dead.upd _ _ _ (by rw[hg];rfl)
         .cases h
        .cases h
       .cases h
      .cases h
    .cases h
 .obtain rfl:=Dv hk h;exact Dead.refl _
theorem NT {B F:Heap}{pl:Nat->Value}{tb:Nat->Option Bool}{s:St}{env:Env}{M:Heap}(hG:Gam P B F pl tb s env M) {x:Operand}{b:Bool}(h:LO s.env x=some b):Q3 env x=.bool b:=by
 unfold LO at h;split at h
 .rename_i j;split at h
  .rename_i gs v he;split at h
   .split at h
    .rename_i k y;split at h
     .obtain rfl:=osj h;have:=hG.env.getD j undef;rw[he] at this;simp only[SR] at this;have h2:=this.2.1 (λg hg=>by cases hg);have h3:[env.getD j undef]=[Value.bool _]:=h2;exact(zR h3).1
     .cases h
    .cases h
   .cases h
  .cases h
 .cases h
theorem Kg {B F:Heap}{pl:Nat->Value}{tb:Nat->Option Bool}{s:St}{env:Env}{M:Heap}(hG:Gam P B F pl tb s env M) {g:Option (Nat×Bool)}{t:Bool}(h:FL s.env g=some t):Ja env g=some t:=by
 unfold FL at h;split at h
 .cases h
 .rename_i j want;split at h
  .rename_i b hb;obtain rfl:=osj h;have:=NT hG hb;simp only[Q3] at this;simp only[Ja,this]
  .cases h
theorem Ut {B F:Heap}{pl:Nat->Value}{tb:Nat->Option Bool}{s:St}{env:Env}{M:Heap}(hG:Gam P B F pl tb s env M) {gs:List Gd}(hg:Gds tb gs) {c a b:Operand}{v:SV}(h:Ea gs s.env c a b=some v) :
  ∃ u,Q7 (.pick c a b) (Q3 env) M=some (u,M)/\SR P B pl tb v u:=by
 unfold Ea at h;split at h
 .rename_i t ht;have e:=NT hG ht;obtain rfl:=osj h;cases t with
  |true=>exact⟨Q3 env a,by simp only[Q7,e];rfl,hG.evs hg a⟩
  |false=>exact⟨Q3 env b,by simp only[Q7,e];rfl,hG.evs hg b⟩
 have hc:=hG.evs hg c;unfold Q51 at h;split at h
 .rename_i n t heq;rw[heq] at hc;simp only[SR] at hc;obtain⟨e,cY⟩:=hc;have ht:∀ w,t=w->Gds tb (gs++[⟨n,w,t⟩]):=λw hw g dS=>by
   rcases zQ.1 dS with h1|h1
   .exact hg g h1
   .obtain rfl:=zo.1 h1;exact⟨hw,cY⟩
  have hv:∀ u,(if t then Q3 env a else Q3 env b)=u->Q7 (.pick c a b) (Q3 env) M=some (u,M):=λu hu=>by simp only[Q7,e];rw[<-hu]
  split at h
  .rename_i b';simp only[zw] at h;obtain⟨y,h1,rfl⟩:=h;refine⟨.bool (t||y),hv _ ?_,ZZ _⟩;cases t with
   |true=>rfl
   |false=>simpa using XH h1 (hG.evs (ht false rfl) _)
  .rename_i a' az;simp only[zw] at h;obtain⟨x,h1,rfl⟩:=h;refine⟨.bool (t&&x),hv _ ?_,ZZ _⟩;cases t with
   |true=>simpa using XH h1 (hG.evs (ht true rfl) _)
   |false=>rfl
  .split at h
   .rename_i k x k' y h1 h2;split at h
    .rename_i hk;subst hk;obtain rfl:=osj h;refine⟨.int k (if t then x else y),hv _ ?_,X5 _ _⟩;cases t with
     |true=>have:=hG.evs (ht true rfl) a;rw[h1] at this;exact Jg rfl this
     |false=>have:=hG.evs (ht false rfl) b;rw[h2] at this;exact Jg rfl this
    .cases h
   .rename_i x y h1 h2;obtain rfl:=osj h;refine⟨.bool (if t then x else y),hv _ ?_,ZZ _⟩;cases t with
    |true=>have:=hG.evs (ht true rfl) a;rw[h1] at this;exact XH rfl this
    |false=>have:=hG.evs (ht false rfl) b;rw[h2] at this;exact XH rfl this
   .cases h
 .cases h
theorem Gam.bid {B F:Heap}{pl:Nat->Value}{tb:Nat->Option Bool}{s:St}{env:Env}{M:Heap}(hG:Gam P B F pl tb s env M) {j:Nat}{v:SV}{c:Bool}(hv:∀ tb',(∀ n c,tb n=some c->tb' n=some c)->tb' s.nx=some c->SR P B pl tb' v (env.getD j undef)) :
  ∃ tb',(∀ n c,tb n=some c->tb' n=some c)/\tb' s.nx=some c/\Gam P B F pl tb' ⟨s.env.set j v,s.own,s.nx+1⟩ env M:=by
 refine⟨λn=>if n=s.nx then some c else tb n,?_,by simp,?_⟩
 .intro n c' hn;by_cases e:n=s.nx
  .rw[e,hG.free _ (ze _)] at hn;cases hn
  .simp only[z8 e];exact hn
 .have hm:∀ n c',tb n=some c'->(λn=>if n=s.nx then some c else tb n) n=some c':=λn c' hn=>by
   by_cases e:n=s.nx
   .rw[e,hG.free _ (ze _)] at hn;cases hn
   .simp only[z8 e];exact hn
  refine⟨hG.bf,hG.le,?_,λd=>(hG.obj d).mono (Heap.Le.refl _) hm λ_ _ _=>rfl,hG.fresh,hG.sep,λn hn=>?_⟩
  .have h1:=SRs.mono (Heap.Le.refl B) hm _ _ hG.env;by_cases hj:j<env.length
   .have:=h1.set j (hv _ hm (by simp))
    rwa [zd,z1 hj,Option.getD_some,List.set_getElem_self] at this
   .have:s.env.set j v=s.env:=List.set_eq_of_length_le (by rw[hG.env.length];omega);rw[this];exact h1
  .have:n≠s.nx:=by simp only at hn;omega
   simp only[z8 this];exact hG.free n (by simp only at hn;omega)
theorem I6 {gs:List Gd}(h:¬ ∀ g∈gs,g.c=g.want):∃ g∈gs,g.c≠g.want:=by
 rcases Classical.em (∃ g∈gs,g.c≠g.want) with h'|h'
 .exact h'
 .exact absurd (λg hg=>Classical.byContradiction λaz=>h' ⟨g,hg,az⟩) h
theorem XY {B F:Heap}{pl:Nat->Value}{tb:Nat->Option Bool}{s:St}{env:Env}{M:Heap}(hG:Gam P B F pl tb s env M) {j:Nat}{want:Bool}{gs:List Gd}{s':St}(h:H0 s j want=some (gs,s')) :
  ∃ tb',Gam P B F pl tb' s' env M/\(∀ g∈gs,tb' g.id=some g.c)/\∃ b,Ja env (some (j,want))=some b/\(b=true->∀ g∈gs,g.c=g.want)/\(b=false->∃ g∈gs,g.c≠g.want):=by
 have hj:=hG.env.getD j undef;unfold H0 at h;split at h
 .rename_i c heq;obtain⟨rfl,rfl⟩:=QV h;rw[heq] at hj;have hb:env.getD j undef=.bool c:=XH (s:=.val .bo c) rfl hj;obtain⟨tb',h1,h2,h3⟩:=hG.bid (j:=j) (v:=.bid s.nx c) (c:=c) λtb' _ h=>by simp only[SR];exact⟨hb,h⟩
  refine⟨tb',h3,λg hg=>by obtain rfl:=zo.1 hg;exact h2,c==want,by simp only[Ja,hb],λe g hg=>?_,λe=>⟨_,zo.2 rfl,?_⟩⟩
  .obtain rfl:=zo.1 hg;simpa using e
  .simpa using e
 .rename_i n c heq;obtain⟨rfl,rfl⟩:=QV h;rw[heq] at hj;simp only[SR] at hj;refine⟨tb,hG,λg hg=>by obtain rfl:=zo.1 hg;exact hj.2,c==want,by simp only[Ja,hj.1],λe g hg=>?_,λe=>⟨_,zo.2 rfl,?_⟩⟩
  .obtain rfl:=zo.1 hg;simpa using e
  .simpa using e
 .rename_i pL c heq;obtain⟨rfl,rfl⟩:=QV h;rw[heq] at hj;simp only[SR] at hj;obtain⟨⟨k1,k0⟩,k2,k3⟩:=hj;obtain⟨tb',h1,h2,h3⟩:=hG.bid (j:=j) (v:=.grd pL (.bid s.nx c)) (c:=c) λtb' hm h=>by
   simp only[SR];exact⟨⟨λg hg=>hm _ _ (k1 g hg),h⟩,λae=>⟨XH (s:=.val .bo c) (P:=P) (B:=B) (pl:=pl) (tb:=tb) rfl (by simpa only [SR] using k2 ae),h⟩,k3⟩
  refine⟨tb',h3,λg hg=>?_,?_⟩
  .rcases zQ.1 hg with h4|h4
   .exact h1 _ _ (k1 g h4)
   .obtain rfl:=zo.1 h4;exact h2
  .by_cases ae:∀ g∈pL,g.c=g.want
   .have hb:env.getD j undef=.bool c:=XH (s:=.val .bo c) (P:=P) (B:=B) (pl:=pl) (tb:=tb) rfl (by simpa only [SR] using k2 ae);refine⟨c==want,by simp only[Ja,hb],λe g hg=>?_,λe=>⟨_,zQ.2 (.inr (zo.2 rfl)),by simpa using e⟩⟩;rcases zQ.1 hg with h4|h4
    .exact ae g h4
    .obtain rfl:=zo.1 h4;simpa using e
   .have hex:=I6 ae;refine⟨false,by simp only[Ja,k3 hex];rfl,(λe=>by cases e),λ_=>?_⟩;obtain⟨g,hg,az⟩:=hex;exact⟨g,zQ.2 (.inl hg),az⟩
 .rename_i pL n c heq;obtain⟨rfl,rfl⟩:=QV h;rw[heq] at hj;simp only[SR] at hj;obtain⟨⟨k1,k0⟩,k2,k3⟩:=hj;refine⟨tb,hG,λg hg=>?_,?_⟩
  .rcases zQ.1 hg with h4|h4
   .exact k1 g h4
   .obtain rfl:=zo.1 h4;exact k0
  .by_cases ae:∀ g∈pL,g.c=g.want
   .obtain⟨hb,cY⟩:=k2 ae;refine⟨c==want,by simp only[Ja,hb],λe g hg=>?_,λe=>⟨_,zQ.2 (.inr (zo.2 rfl)),by simpa using e⟩⟩;rcases zQ.1 hg with h4|h4
    .exact ae g h4
    .obtain rfl:=zo.1 h4;simpa using e
   .have hex:=I6 ae;refine⟨false,by simp only[Ja,k3 hex];rfl,(λe=>by cases e),λ_=>?_⟩;obtain⟨g,hg,az⟩:=hex;exact⟨g,zQ.2 (.inl hg),az⟩
 .cases h
theorem Gam.gcall {B F:Heap}{pl:Nat->Value}{tb:Nat->Option Bool}{s:St}{env:Env}{M:Heap}(hG:Gam P B F pl tb s env M) {gs:List Gd}(hg:Gds tb gs) (args:List Operand):SRs P M Jo Zf (BM s.own (args.map (gev gs s.env))) (args.map (Q3 env)) :=
 Y0 hG.leB hG.obj (SRs.map λx _=>hG.evs hg x)
theorem Gam.gfun {B F:Heap}{pl:Nat->Value}{tb:Nat->Option Bool}{s:St}{env:Env}{M:Heap}(hG:Gam P B F pl tb s env M) {gs:List Gd}(hg:Gds tb gs) (f:Operand):SR P M Jo Zf ((BM s.own [gev gs s.env f]).getD 0 .any) (Q3 env f):=by have:=(Y0 hG.leB hG.obj (show SRs P B pl tb [gev gs s.env f] [Q3 env f] by simp only[SRs];exact⟨_,[],rfl,hG.evs hg f,rfl⟩)).getD 0 poison;simpa using this
theorem M0 {env:Env}{f:Operand}{args:List Operand}{M:Heap}{K:Value->Heap->Prop}{g:FuncId}{a b:Array Value}(e:Q3 env f=.func (.func g) a b) (h:VCalled P g (a.toList++args.map (Q3 env)++b.toList) M K) :
  vop (Q2 P) (.callV f args) env M K:=by
 simp only[vop,e];exact h
def XOk (P:Program) (f:Nat) (x:XSp):Prop :=
 ∀ (B F:Heap) (pl:Nat->Value) (tb:Nat->Option Bool) (s:St) (env:Env) (M:Heap) (d:Nat) (args:List SV) (vs:List Value) (K:SV->St->Prop) (R:Value->Heap->Prop),
  Gam P B F pl tb s env M->SRs P B pl tb args vs->x d args s K ->
  (∀ v s' B' F' pl' tb' u M',K v s'->GBase B F M B' F' M'->Gam P B' F' pl' tb' s' env M'->SR P B' pl' tb' v u->R u M')->VCalled P f vs M R
def Q87 (P:Program) (f:Nat) (x:XSp) (j:Nat):Prop :=
 ∀ (B F:Heap) (pl:Nat->Value) (tb:Nat->Option Bool) (s:St) (env:Env) (M:Heap) (d:Nat) (args:List SV) (vs:List Value) (K:SV->St->Prop) (R:Value->Heap->Prop) (t:Nat),
  Gam P B F pl tb s env M->SRs P B pl tb args vs->Q2f s.own j args=some t->x d args s K ->
  (∀ v s' u M',K v s'->Dead M M'->Gam P B F pl tb s' env M'->SR P B pl tb v u->FrL [t] s s' pl pl M M'->R u M')->VCalled P f vs M R
def Q7i (P:Program) (f:Nat) (it:ISp):Prop:=Jh P f /\
 ∀ (B:Heap) (args:List SV) (vs:List Value) (c:Prop) (m ar:Nat) (xs:Nat->List SV),SRs P B Jo Zf args vs->it args=some (c,m,ar,xs)->c ->
  (∀ k,(xs k).length=ar/\SVs.pure (xs k)=true)/\∀ (i:Nat) (Y:HX) (J:Nat->Heap->Prop) (E:Heap->Prop) (τ0:Heap),KE P i Y->(∀ k U,J k U->B.Le U) ->
   (∀ k us U,k<m->J k U->SRs P B Jo Zf (xs k) us->Y us U λv U'=>(v=.bool true/\J (k+1) U')\/(v=.bool false/\E U')) ->
   J 0 τ0->VCallsTo P f (.func (.yield i) #[] #[]::vs) τ0 λ_ U=>J m U\/E U
def Q20 (P:Program) (o:Nat) (y:YSp):Prop :=
 ∀ (B F:Heap) (pl:Nat->Value) (tb:Nat->Option Bool) (s:St) (env:Env) (M:Heap) (args:List SV) (us:List Value) (K:SV->St->Prop) (R:Value->Heap->Prop) (i:Nat),
  Gam P B F pl tb s env M->SRs P B pl tb args us->y args s K->pl o=.pointer (some ⟨i,0,none⟩) ->
  (∀ v s' B' F' pl' tb' u M',K v s'->GBase B F M B' F' M'->Gam P B' F' pl' tb' s' env M'->SR P B' pl' tb' v u->R u M')->VYields P i us M R
def Q7l (P:Program) (f:Nat) (x:Q7g):Prop:=Jh P f /\
 ∀ (B F:Heap) (pl:Nat->Value) (tb:Nat->Option Bool) (s:St) (env:Env) (M:Heap) (o:Nat) (args:List SV) (vs:List Value) (y:YSp) (K:St->Prop) (R:Heap->Prop),
  Gam P B F pl tb s env M->SRs P B pl tb args vs->Q20 P o y->x o args (o,y) s K ->
  (∀ s' B' F' pl' tb' af M',K s'->GBase B F M B' F' M'->Gam P B' F' pl' tb' s' af M'->R M')->VCallsTo P f vs M λ_=>R
structure COk (P:Program) (C:Cx):Prop where
 cs:CsOk P C.cs
 xs:∀ f x,Qs C.xs f=some x->XOk P f x
 it:∀ f x,Qs C.it f=some x->Q7i P f x
 yl:∀ o y,Qs C.yl o=some y->Q20 P o y
 iy:∀ f x,Qs C.iy f=some x->Q7l P f x
 xf:∀ f j,Qs C.xf f=some j->∀ x,Qs C.xs f=some x->Q87 P f x j
theorem HO {C:Cx}(aB:CsOk P C.cs) {B F:Heap}{pl:Nat->Value}{tb:Nat->Option Bool}{s:St}{env:Env}{M:Heap}(hG:Gam P B F pl tb s env M) {gs:List Gd}(hg:Gds tb gs) {raw:Bool}{o:VOp}{cs:List Prop}{v:SV}
  (h:gqc C raw o (gev gs s.env) s.own=some (cs,v)) (hc:∀ c∈cs,c) {K:Value->Heap->Prop}(hK:∀ u,SR P B pl tb v u->K u M):vop (Q2 P) o env M K:=by
 have flat:∀ {c:Prop}{v':SV},(bif v'.ret 0 then some ([c],v') else none)=some (cs,v)->v'.ret 0=true/\c/\v'=v:=λ{c v'} h=>by
  cases hv:v'.ret 0 with
  |false=>rw[hv] at h;cases h
  |true =>rw[hv] at h;obtain⟨rfl,rfl⟩:=QV h;exact⟨rfl,hc _ (by simp),rfl⟩
 have quiet:∀ o,gq C.kt raw o (gev gs s.env) s.own=some (cs,v)->(∀ K,QX (Q7 o (Q3 env) M) (λp=>K p.1 p.2)->vop (Q2 P) o env M K)->vop (Q2 P) o env M K:=λo h hv=>by obtain⟨u,h1,h2⟩:=S1 (hG.evs hg) (λ_=>rfl) hG.leB hG.obj h hc;exact hv K (by rw[h1];exact hK u h2)
 cases o
 case callF f args =>
  simp only[gqc] at h;split at h
  .rename_i c v' heq;obtain⟨h1,h2,rfl⟩:=flat h;obtain⟨g,a,b,h3,h4,_⟩:=ZM aB (show SR P M Jo Zf (.fn f [] []) (.func (.func f) #[] #[]) by simp only[SR,SRs];exact⟨[],[],rfl,rfl,rfl⟩) (hG.gcall hg args) heq h1 rfl h2;obtain⟨rfl,rfl,rfl⟩:=(by simpa using h3:f=g/\#[]=a/\#[]=b);have:=h4.mono (R':=K) λu M' hr=>by
    obtain⟨rfl,hu⟩:=hr.flat h1;exact hK u (hu.retd (λj hj=>by omega) _ _ h1)
   show VCalled P f (args.map (Q3 env)) M K;simpa using this
  .cases h
 case callV f args =>
  simp only[gqc] at h;split at h
  .rename_i c v' heq;obtain⟨h1,h2,rfl⟩:=flat h;obtain⟨g,a,b,h3,h4,_⟩:=ZM aB (hG.gfun hg f) (hG.gcall hg args) heq h1 rfl h2;exact M0 h3 (h4.mono λu M' hr=>by
    obtain⟨rfl,hu⟩:=hr.flat h1;exact hK u (hu.retd (λj hj=>by omega) _ _ h1))
  .cases h
 case ext x =>
  cases x
  case nextMap x=>cases h
  all_goals exact quiet _ h λ_ h=>h
 all_goals exact quiet _ h λ_ h=>h
end
end Go.V
namespace Go.V
open Go
section
variable {P:Program}
mutual
theorem Ao:∀ (v:SV) {K:SV->Prop},nmV v K->K v
 |.val k x,K,h=>by simp only[nmV] at h;exact h x rfl
 |.agg l,K,h=>by simp only[nmV] at h;exact Pt l h
 |.tup l,K,h=>by simp only[nmV] at h;exact Pt l h
 |.any,_,h|.dd _ _,_,h|.bid _ _,_,h|.grd _ _,_,h|.nilS,_,h|.nilP,_,h|.nilM,_,h|.nilF,_,h|.lst _,_,h|.sub _ _ _ _,_,h|.elp _ _ _ _,_,h|.rop _ _ _ _,_,h|.box _ _,_,h|.cp _ _,_,h|.map _,_,h|.fn _ _ _,_,h|.pf _ _ _ _,_,h=>by simp only[nmV] at h;exact h
theorem Pt:∀ (l:List SV) {K:List SV->Prop},Q7m l K->K l
 |[],K,h=>by simp only[Q7m] at h;exact h
 |v::r,K,h=>by simp only[Q7m] at h;exact Pt r (Ao v h)
end
theorem Zk {C:Cx}{o:VOp}{ev:Operand->SV}{v:SV}{K:SV->Prop}(h:gnm C o ev v K):K v:=by
 unfold gnm at h;cases hb:(C.nm&&Z52 o ev) with
 |true=>rw[hb] at h;exact Ao v h
 |false=>rw[hb] at h;exact h
theorem Hu {B:Heap}{pl:Nat->Value}{tb:Nat->Option Bool}{v:SV}{u:Value}(h:SR P B pl tb v u):SR P B pl tb (DF v) u/\gtb tb (DF v):=by
 cases v with
 |bid n c=>simp only[SR] at h;obtain⟨rfl,_⟩:=h;exact⟨ZZ _,trivial⟩
 |_=>exact⟨h,trivial⟩
theorem HC {tb:Nat->Option Bool}(v:SV):gtb tb (DF v):=by cases v<;>trivial
theorem H6 {C:Cx}(aB:COk P C) {B F:Heap}{pl:Nat->Value}{tb:Nat->Option Bool}{s:St}{env:Env}{M:Heap}(hG:Gam P B F pl tb s env M) {d:Nat}{f:SV}{args:List SV}{fV:Value}{vs:List Value}(hf:SR P B pl tb f fV) (ha:SRs P B pl tb args vs) {K:SV->St->Prop}(h:A4 C d f args s K) {R:Value->Heap->Prop}
  (hK:∀ v s' B' F' pl' tb' u M',K v s'->GBase B F M B' F' M'->Gam P B' F' pl' tb' s' env M'->SR P B' pl' tb' v u->R u M'):∃ g a b,fV=.func (.func g) a b/\VCalled P g (a.toList++vs++b.toList) M R:=by
 unfold A4 at h;have l8:SR P M Jo Zf ((BM s.own [f]).getD 0 .any) fV:=by have:=(Y0 hG.leB hG.obj (show SRs P B pl tb [f] [fV] by simp only[SRs];exact⟨_,[],rfl,hf,rfl⟩)).getD 0 poison;simpa using this
 have kM:=Y0 hG.leB hG.obj ha;split at h
 .rename_i c v bs heq;cases hb:(v.ret bs.length&&(bs.all OB.ret&&Nat.blt 0 C.nt)) with
  |false=>rw[hb] at h;exact h.elim
  |true =>rw[hb] at h;obtain⟨h1,h2⟩:=h;simp only[z6] at hb;obtain⟨g,a,b,e,aG,_⟩:=ZM aB.cs l8 kM heq hb.1 hb.2.1 h1;refine⟨g,a,b,e,aG.mono λu M' hr=>?_⟩;obtain⟨pl',h3,h4⟩:=hr.gam (nt:=C.nt) (d:=d) (by simpa [zL] using hb.2.2) hG hb.1 hb.2.1;exact hK _ _ B F pl' tb u M' h2 (.of hG.bf hr.1.2) h3 h4
 .exact h.elim
theorem BQ {C:Cx}(aB:COk P C) {B F:Heap}{pl:Nat->Value}{tb:Nat->Option Bool}{s:St}{env:Env}{M:Heap}(hG:Gam P B F pl tb s env M) {d:Nat}{f:SV}{args:List SV}{fV:Value}{vs:List Value}(hf:SR P B pl tb f fV) (ha:SRs P B pl tb args vs) {K:SV->St->Prop}(h:Rc C d f args s K) (uO:∀ o,f≠.dd o .yv) {R:Value->Heap->Prop}
  (hK:∀ v s' B' F' pl' tb' u M',K v s'->GBase B F M B' F' M'->Gam P B' F' pl' tb' s' env M'->SR P B' pl' tb' v u->R u M'):∃ g a b,fV=.func (.func g) a b/\VCalled P g (a.toList++vs++b.toList) M R:=by
 unfold Rc at h;split at h
 .rename_i g a b;split at h
  .rename_i x hx;have pM:=hf;simp only[SR] at hf;obtain⟨a',b',rfl,h1,h2⟩:=hf;refine⟨g,a'.toArray,b'.toArray,rfl,?_⟩;have:=aB.xs g x hx B F pl tb s env M d _ _ K R hG (h1.append (ha.append h2)) h hK;simpa using this
  .exact H6 aB hG hf ha h hK
 .exact(uO _ rfl).elim
 .exact H6 aB hG hf ha h hK
theorem Em {C:Cx}{B F:Heap}{pl:Nat->Value}{tb:Nat->Option Bool}{s:St}{env:Env}{M:Heap}(hG:Gam P B F pl tb s env M) {d:Nat}{o:VOp}{K:SV->St->Prop}(h:gnd C d o (gev [] s.env) s K) {R:Value->Heap->Prop}
  (hK:∀ v s' B' F' pl' tb' u M',K v s'->GBase B F M B' F' M'->Gam P B' F' pl' tb' s' env M'->SR P B' pl' tb' v u->R u M'):vop (Q2 P) o env M R:=by
 obtain⟨u,M',pl',v,s',h1,h2,h3,h4⟩:=HI (λx=>hG.evs (Gds.nil (tb:=tb)) x) hG h;have fin:QX (Q7 o (Q3 env) M) (λp=>R p.1 p.2):=by rw[h1];exact hK v s' B F pl' tb u M' h2 (.of hG.bf (Km h1)) h3.1 h4
 cases o
 case buildSlice e z n ps=>exact fin
 case makeSlice e b z l c=>exact fin
 case append e b x y=>exact fin
 case store size a x=>exact fin
 all_goals exact h.elim
section
variable {B F:Heap}{pl:Nat->Value}{tb:Nat->Option Bool}{s:St}{env:Env}{M:Heap}
def Heap.ins (B M:Heap) (i:Nat) (h:B.n<=M.n):Heap where
 get j:=if j=i then M.get i else B.get j
 n:=M.n
 wf j hj:=by
  by_cases e:j=i
  .simp only[z7 e];subst e;exact M.wf j hj
  .simp only[z8 e];exact B.wf j (zY h hj)
theorem Heap.q0n (B M:Heap) (i:Nat) (h:B.n<=M.n):(B.ins M i h).get i=M.get i:=by simp[Heap.ins]
theorem Heap.q1c (B M:Heap) {i j:Nat}(h:B.n<=M.n) (e:j≠i):(B.ins M i h).get j=B.get j:=by simp[Heap.ins,e]
theorem Heap.Le.ins {B M:Heap}(h:B.Le M) (i:Nat):B.Le (B.ins M i h.1):=⟨h.1,λj b hb=>by
 by_cases e:j=i
 .subst e;rw[Heap.q0n];exact h.2 _ _ hb
 .rw[Heap.q1c _ _ _ e];exact hb⟩
theorem Heap.Le.q2b {B M:Heap}(h:B.Le M) (i:Nat):(B.ins M i h.1).Le M:=⟨ze _,λj b hb=>by
 by_cases e:j=i
 .subst e;rw[Heap.q0n] at hb;exact hb
 .rw[Heap.q1c _ _ _ e] at hb;exact h.2 _ _ hb⟩
theorem Heap.q2c {B F M:Heap}(h:B.Le F) (i:Nat) (hB:B.n<=M.n) (hF:F.n<=M.n):(B.ins M i hB).Le (F.ins M i hF):=⟨ze _,λj b hb=>by
 by_cases e:j=i
 .subst e;rw[Heap.q0n] at hb |-;exact hb
 .rw[Heap.q1c _ _ _ e] at hb |-;exact h.2 _ _ hb⟩
theorem Gam.freeze (hG:Gam P B F pl tb s env M) {o i:Nat}(hl:(Q9 s.own o).live=true) (hi:Oid (pl o) i) :
  GBase B F M (B.ins M i hG.leB.1) (F.ins M i hG.le.1) M/\Gam P (B.ins M i hG.leB.1) (F.ins M i hG.le.1) pl tb ⟨s.env,oset s.own o .dead,s.nx⟩ env M:=by
 have nh:=hG.fresh o i hl hi;have lv:∀ d,(Q9 (oset s.own o .dead) d).live=true->d≠o/\(Q9 s.own d).live=true:=λd h=>by
  rw[Qk] at h;by_cases e:d=o
  .rw[z7 e] at h;cases h
  .rw[z8 e] at h;exact⟨e,h⟩
 refine⟨⟨hG.leB.ins i,hG.le.ins i,λj b h1 h2=>?_,.refl _⟩,⟨Heap.q2c hG.bf i _ _,hG.le.q2b i,SRs.mono (hG.leB.ins i) (λ_ _ h=>h) _ _ hG.env,λd=>?_,λd j h1 h2=>?_,λd d' j az h1 h2 h3 h4=>hG.sep d d' j az (lv d h1).2 (lv d' h2).2 h3 h4,hG.free⟩⟩
 .have e:j≠i:=by rintro rfl;rw[nh] at h1;cases h1
  rw[Heap.q1c _ _ _ e];exact h2
 .simp only[Qk];by_cases e:d=o
  .rw[z7 e];trivial
  .rw[z8 e];exact(hG.obj d).mono (hG.leB.ins i) (λ_ _ h=>h) λ_ _ _=>rfl
 .obtain⟨az,bU⟩:=lv d h1;have e:j≠i:=by rintro rfl;exact hG.sep d o j az bU hl h2 hi
  rw[Heap.q1c _ _ _ e];exact hG.fresh d j bU h2
theorem Gam.own {s':St}(hG:Gam P B F pl tb s env M) (h1:s'.env=s.env) (h2:∀ d,Q9 s'.own d=Q9 s.own d) (h3:s'.nx=s.nx):Gam P B F pl tb s' env M :=
 ⟨hG.bf,hG.le,by rw[h1];exact hG.env,λd=>by rw[h2];exact hG.obj d,λd i=>by rw[h2];exact hG.fresh d i,λd d' i az=>by rw[h2,h2];exact hG.sep d d' i az,λn hn=>hG.free n (by rw[<-h3];exact hn)⟩
theorem Gam.drop (hG:Gam P B F pl tb s env M) (o:Nat):Gam P B F pl tb ⟨s.env,oset s.own o .dead,s.nx⟩ env M:=by
 have lv:∀ d,(Q9 (oset s.own o .dead) d).live=true->d≠o/\(Q9 s.own d).live=true:=λd h=>by
  rw[Qk] at h;by_cases e:d=o
  .rw[z7 e] at h;cases h
  .rw[z8 e] at h;exact⟨e,h⟩
 refine⟨hG.bf,hG.le,hG.env,λd=>?_,λd j h1 h2=>hG.fresh d j (lv d h1).2 h2,λd d' j az h1 h2 h3 h4=>hG.sep d d' j az (lv d h1).2 (lv d' h2).2 h3 h4,hG.free⟩;simp only[Qk];by_cases e:d=o
 .rw[z7 e];trivial
 .rw[z8 e];exact hG.obj d
theorem LB (s:St) (d:Nat) (b:OB) (q:Nat):Q9 (s.make d .dead).own q=Q9 (oset (s.make d b).own d .dead) q:=by
 simp only[St.make,Qk];by_cases e:q=d
 .rw[z7 e,z7 e]
 .rw[z8 e,z8 e,z8 e]
theorem Ed {C:Cx}(hG:Gam P B F pl tb s env M) {d:Nat}{x:Operand}{K:SV->St->Prop}(h:gn C d (.ext (.rangeMap x)) (gev [] s.env) s K) {R:Value->Heap->Prop}
  (hK:∀ v s' B' F' pl' tb' u M',K v s'->GBase B F M B' F' M'->Gam P B' F' pl' tb' s' env M'->SR P B' pl' tb' v u->R u M'):vop (Q2 P) (.ext (.rangeMap x)) env M R:=by
 have ha:=hG.evs (Gds.nil (tb:=tb)) x;simp only[gn] at h;split at h
 .rename_i o h1;rw[h1] at ha;simp only[SR] at ha;split at h
  .rename_i kk vk m ho;split at h
   .have ao:=hG.obj o;rw[ho] at ao;obtain⟨i,es,clock,h2,h3,h4⟩:=ao;obtain⟨g1,g2⟩:=hG.freeze (o:=o) (i:=i) (by rw[ho];rfl) (by rw[h2];rfl)
    have je:=g2.push d (.iter kk vk m []) (.pointer (some ⟨M.n,0,none⟩)) (.obj (.iter i clock [] clock) true) rfl
     ⟨M.n,i,es,clock,true,[],rfl,Heap.q0a _ _,by rw[Heap.q0n];exact h3,h4.mono g1.b,rfl,λt r h=>by simp at h⟩
    show QX (Q7 (.ext (.rangeMap x)) (Q3 env) M) _;have hv:Q7 (.ext (.rangeMap x)) (Q3 env) M=some (.pointer (some ⟨M.n,0,none⟩),M.push (.obj (.iter i clock [] clock) true)):=by simp only[Q7,Zg,ha.1,h2,Heap.mapAt,h3]
    rw[hv];exact hK _ _ _ _ _ _ _ _ h (g1.trans (.of g2.bf (Dead.push _ _))) je (by simp only[SR,Wg];exact⟨_,rfl,rfl⟩)
   .exact h.elim
  .exact h.elim
 .exact h.elim
theorem OC {C:Cx}(hG:Gam P B F pl tb s env M) {d:Nat}{x:Operand}{K:SV->St->Prop}(h:gn C d (.ext (.nextMap x)) (gev [] s.env) s K) {R:Value->Heap->Prop}
  (hK:∀ v s' B' F' pl' tb' u M',K v s'->GBase B F M B' F' M'->Gam P B' F' pl' tb' s' env M'->SR P B' pl' tb' v u->R u M'):vop (Q2 P) (.ext (.nextMap x)) env M R:=by
 have ha:=hG.evs (Gds.nil (tb:=tb)) x;simp only[gn] at h;split at h
 .rename_i o f h1;rw[h1] at ha;simp only[SR] at ha;split at h
  .rename_i kk vk m dn ho;split at h
   .rename_i hf;obtain⟨rfl,oH⟩:=hf;have aq:(Q9 s.own o).live=true:=by rw[ho];rfl
    have ao:=hG.obj o;rw[ho] at ao;obtain⟨j,i,es,clock,wr,seen,h2,h3,h4,h5,h6⟩:=ao;obtain⟨b,e2,e3⟩:=ha;rw[h2] at e2;obtain rfl:j=b:=by simpa using e2
    have aH:M.mapAt i=some (es,clock,wr):=by simp[Heap.mapAt,hG.leB.2 _ _ h4]
    have hlen:=h5.1.length;obtain⟨hA,hB⟩:=h;have bc:F.get j=none:=hG.fresh o j aq (by rw[h2];rfl);have aZ:∀ q i',q≠o->(Q9 s.own q).live=true->Oid (pl q) i'->i'≠j:=λq i' hq hl hi e=>by subst e;exact hG.sep q o i' hq hl aq hi (by rw[h2];rfl)
    show Cg (Q3 env x) M R;unfold Cg;rw[e3];simp only[h3,aH];refine⟨?_,?_,λae=>?_,λe he mc=>?_⟩
    .cases es with
     |nil=>simp
     |cons e es=>simp[h5.2.2 e (by simp)]
    .rw[zf];intro e he;obtain⟨r,hr⟩:=xl.1 he;obtain⟨_,k1,_⟩:=MR.at h5.1 hr;exact Lb oH k1
    .refine hK _ _ _ _ _ _ _ _ (hA λr hr=>?_) (.of hG.bf (Dead.refl M)) hG (by simp only[SR,SRs];exact⟨[.bool false],rfl,_,[],rfl,rfl,rfl⟩);have dE:r<es.length:=by omega
     have he:=z1 dE;have:=zf.1 ae es[r] (zp dE);have ah:=h5.2.2 _ (zp dE);rw[zy,zm] at this;rcases this with this|this
     .rw[List.contains_iff_mem] at this;obtain⟨t,ht⟩:=xl.1 this;have v8:t<seen.length:=(zg.1 ht).1;have sI:t<dn.length:=by have:=h6.1;omega
      obtain⟨e',k1,k2⟩:=h6.2 t dn[t] (z1 sI);rw[ht] at k2;have:=Df h5.2 he k1 (osj k2);rw[this];exact zp sI
     .omega
    .obtain⟨r,hr⟩:=xl.1 he;have dE:r<es.length:=(zg.1 hr).1;have uP:r∉dn:=λhm=>by
      obtain⟨t,ht⟩:=xl.1 hm;obtain⟨e',k1,k2⟩:=h6.2 t r ht;rw[hr] at k1;obtain rfl:=osj k1;have:seen.contains e.2.2=true:=by rw[List.contains_iff_mem];exact zF k2
      rw[this] at mc;cases mc
     refine hK _ _ _ _ _ _ _ _ (hB r (by omega) uP) (.of hG.bf (Dead.upd _ _ _ (by rw[h3];rfl))) (hG.write o _ (hG.le.upd bc _) aq (λq i' hq hl hi=>Heap.q0b _ _ (aZ q i' hq hl hi)) ⟨j,i,es,clock,wr,seen++[e.2.2],h2,Heap.q0c _ _ (M.lt h3),h4,h5,?_,λt r' ht=>?_⟩) (by simp only[SR,SRs];exact⟨[.bool true,e.1,e.2.1],rfl,_,_,rfl,rfl,_,_,rfl,trivial,_,_,rfl,trivial,rfl⟩)
     .simp[h6.1]
     .rw[List.getElem?_append] at ht;split at ht
      .rename_i ah;obtain⟨e',k1,k2⟩:=h6.2 t r' ht;refine⟨e',k1,?_⟩;rw[xn (by have:=h6.1;omega)];exact k2
      .rename_i bj;have h0:t-dn.length=0:=by
        cases hz:t-dn.length with
        |zero=>rfl
        |succ n=>rw[hz] at ht;simp at ht
       rw[h0] at ht;obtain rfl:r=r':=by simpa using ht
       refine⟨e,hr,?_⟩;rw[xq (by have:=h6.1;omega),show t-seen.length=0 by have:=h6.1;omega];rfl
   .exact h.elim
  .exact h.elim
 .exact h.elim
theorem RB {d:Nat}(iB:B.Le F) {ty:Nat}{k:Kind}{xs:List k.T}{nl:Bool}(hk:k.flat=true) {pl':Nat->Value}{u:Value}{M':Heap}(h1:Gam P B F pl' tb (s.make d (.lst ty k xs nl)) env M') (h2:SR P B pl' tb (.lst d) u) (hd:Dead M M') :
  ∃ B' F',GBase B F M B' F' M'/\Gam P B' F' pl' tb (s.make d .dead) env M'/\SR P B' pl' tb (.val (.list k) xs) u:=by
 have ao:=h1.obj d;have bS:Q9 (s.make d (.lst ty k xs nl)).own d=.lst ty k xs nl:=by simp only[St.make,Qk,zB]
 rw[bS] at ao;simp only[SR] at h2;obtain⟨rfl,_⟩:=h2;rcases ao with⟨_,hx,hp⟩|⟨_,i,cap,c,t,hp,cM,hg,hlen,di⟩
 .refine⟨B,F,.of iB hd,(h1.drop d).own rfl (LB s d _) rfl,?_⟩;simp only[SR];exact⟨_,rfl,.inl ⟨hx,hp⟩⟩
 .obtain⟨g1,g2⟩:=h1.freeze (o:=d) (i:=i) (by rw[bS];rfl) (by rw[hp];rfl);refine⟨_,_,(GBase.of iB hd).trans g1,g2.own rfl (LB s d _) rfl,?_⟩;simp only[SR];refine⟨_,rfl,.inr ⟨i,0,cap,c,⟨k.size,ty⟩,true,t,hp,cM,by rw[Heap.q0n];exact hg,rfl,by have:=zr k.size cM;omega,?_⟩⟩;rw[x5];exact di.mono λ_ _ e=>KC.flat hk e
theorem AI {d nt:Nat}(dw:0<nt) (hG:Gam P B F pl tb s env M) {ty:Nat}{k:Kind}{xs:List k.T}{nl:Bool}(hk:k.flat=true) {u:Value}{M':Heap}(h:Ret P M (.lst 0) [.lst ty k xs nl] u M') :
  ∃ B' F' pl',GBase B F M B' F' M'/\Gam P B' F' pl' tb (s.make d .dead) env M'/\SR P B' pl' tb (.val (.list k) xs) u:=by
 obtain⟨pl',h1,h2⟩:=h.gam (d:=d) dw hG (by rfl) (by simp only[zW,List.all_nil,xO,OB.ret];exact hk);simp only[St.makes,Nat.zero_mul,zK,SV.ren] at h1 h2;obtain⟨B',F',k⟩:=RB hG.bf hk h1 h2 h.1.2;exact⟨B',F',pl',k⟩
theorem MD {nt:Nat}{r:Option (Prop×SV×List OB)}{c:Prop}{v:SV}(h:Ak nt r=some (c,v)):∃ ty k xs nl,r=some (c,.lst 0,[.lst ty k xs nl])/\v=.val (.list k) xs/\k.flat=true/\0<nt:=by
 unfold Ak at h;split at h
 .split at h
  .rename_i k xs _;cases hc:(k.flat&&Nat.blt 0 nt) with
   |false=>rw[hc] at h;cases h
   |true =>rw[hc] at h;obtain⟨rfl,rfl⟩:=QV h;simp only[z6,zL] at hc;exact⟨_,_,_,_,rfl,rfl,hc.1,hc.2⟩
  .cases h
 .cases h
theorem CD {C:Cx}(aB:CsOk P C.cs) (hG:Gam P B F pl tb s env M) {gs:List Gd}(hg:Gds tb gs) {o:VOp}{c:Prop}{v:SV}{d:Nat}(h:S6 C o (gev gs s.env) s.own=some (c,v)) (hc:c) {K:Value->Heap->Prop}
  (hK:∀ u M' B' F' pl',GBase B F M B' F' M'->Gam P B' F' pl' tb (s.make d .dead) env M'->SR P B' pl' tb v u->K u M'):vop (Q2 P) o env M K:=by
 cases o<;>first|(cases h;done)|skip
 case callF f args =>
  simp only[S6] at h;obtain⟨ty,k,xs,nl,heq,rfl,hk,dw⟩:=MD h;obtain⟨g,a,b,h3,h4,_⟩:=ZM aB (show SR P M Jo Zf (.fn f [] []) (.func (.func f) #[] #[]) by simp only[SR,SRs];exact⟨[],[],rfl,rfl,rfl⟩) (hG.gcall hg args) heq (by rfl) (by simp only[zW,List.all_nil,xO,OB.ret];exact hk) hc;obtain⟨rfl,rfl,rfl⟩:=(by simpa using h3:f=g/\#[]=a/\#[]=b);have:=h4.mono (R':=K) λu M' hr=>by obtain⟨B',F',pl',k1,k2,k3⟩:=AI (d:=d) dw hG hk hr;exact hK u M' B' F' pl' k1 k2 k3
  show VCalled P f (args.map (Q3 env)) M K;simpa using this
 case callV f args =>
  simp only[S6] at h;obtain⟨ty,k,xs,nl,heq,rfl,hk,dw⟩:=MD h;obtain⟨g,a,b,h3,h4,_⟩:=ZM aB (hG.gfun hg f) (hG.gcall hg args) heq (by rfl) (by simp only[zW,List.all_nil,xO,OB.ret];exact hk) hc;exact M0 h3 (h4.mono λu M' hr=>by
   obtain⟨B',F',pl',k1,k2,k3⟩:=AI (d:=d) dw hG hk hr;exact hK u M' B' F' pl' k1 k2 k3)
 case buildSlice e z n ps =>
  simp only[S6] at h;split at h
  .rename_i k uQ;split at h
   .rename_i dB;split at h
    .rename_i xs hx;obtain⟨rfl,rfl⟩:=QV h;have uR:gn C d (.buildSlice e z n ps) (gev gs s.env) s (λv s'=>v=.lst d/\s'=s.make d (.lst e.ty k xs false)):=by
      simp only[gn,uQ,hx];rw[z7 ⟨dB.1,dB.2.1⟩];simp
     obtain⟨u,M',pl',v,s',h1,⟨rfl,rfl⟩,⟨h3,_⟩,h4⟩:=Mt (λx=>hG.evs hg x) hG uR;obtain⟨B',F',k1,k2,k3⟩:=RB hG.bf dB.2.2 h3 h4 (Km h1);show QX (Q7 (.buildSlice e z n ps) (Q3 env) M) _;rw[h1];exact hK u M' B' F' pl' k1 k2 k3
    .cases h
   .cases h
  .cases h
theorem Lu {C:Cx}{o:VOp}{ev:Operand->SV}{own:Own}{c:Prop}{v:SV}(h:S6 C o ev own=some (c,v)):∃ (k:Kind) (xs:List k.T),v=.val (.list k) xs:=by
 cases o<;>first|(cases h;done)|skip
 case callF=>simp only[S6] at h;obtain⟨ty,k,xs,nl,_,hv,_⟩:=MD h;exact⟨k,xs,hv⟩
 case callV=>simp only[S6] at h;obtain⟨ty,k,xs,nl,_,hv,_⟩:=MD h;exact⟨k,xs,hv⟩
 case buildSlice e z n ps =>
  simp only[S6] at h;split at h
  .split at h
   .split at h
    .obtain⟨_,rfl⟩:=QV h;exact⟨_,_,rfl⟩
    .cases h
   .cases h
  .cases h
theorem Q0o {C:Cx}(aB:COk P C) {B F:Heap}{pl:Nat->Value}{tb:Nat->Option Bool}{s:St}{env:Env}{M:Heap}(hG:Gam P B F pl tb s env M) {d:Nat}{o:VOp}{K:SV->St->Prop}(h:gn C d o (gev [] s.env) s K) {R:Value->Heap->Prop}
  (hK:∀ v s' B' F' pl' tb' u M',K v s'->GBase B F M B' F' M'->Gam P B' F' pl' tb' s' env M'->SR P B' pl' tb' v u->R u M'):vop (Q2 P) o env M R:=by
 have aj:=hG.evs (Gds.nil (tb:=tb));have act:∀ o {T:Nat},NOk P B F tb o (Q3 env) env M K T s pl->(∀ R',QX (Q7 o (Q3 env) M) (λp=>R' p.1 p.2)->vop (Q2 P) o env M R')->vop (Q2 P) o env M R:=λo _ ⟨u,M',pl',v,s',h1,h2,h3,h4⟩ hv=>hv R (by rw[h1];exact hK v s' B F pl' tb u M' h2 (.of hG.bf (Km h1)) h3.1 h4);have ax:∀ args:List Operand,SRs P B pl tb (args.map (gev [] s.env)) (args.map (Q3 env)):=λargs=>SRs.map λx _=>hG.evs Gds.nil x;cases o
 case alloc t z=>exact act _ (O8 aj hG h) λ_ h=>h
 case box t x=>exact act _ (Q9z aj hG h) λ_ h=>h
 case buildSlice e z n ps=>exact act _ (Mt aj hG h) λ_ h=>h
 case makeSlice e b z l c=>exact act _ (HY aj hG h) λ_ h=>h
 case append e b x y=>exact act _ (Av aj hG h) λ_ h=>h
 case store size a x=>exact act _ (IN aj hG h) λ_ h=>h
 case callF f args =>
  simp only[gn] at h;obtain⟨g,a,b,h3,h4⟩:=BQ aB hG (show SR P B pl tb (.fn f [] []) (.func (.func f) #[] #[]) by simp only[SR,SRs];exact⟨[],[],rfl,rfl,rfl⟩) (ax args) h (λ_ e=>by cases e) hK;obtain⟨rfl,rfl,rfl⟩:=(by simpa using h3:f=g/\#[]=a/\#[]=b);show VCalled P f (args.map (Q3 env)) M R;simpa using h4
 case callV f args =>
  simp only[gn] at h;by_cases hy:∃ o,gev [] s.env f=.dd o .yv
  .obtain⟨o,hy⟩:=hy;have hf:=hG.evs (Gds.nil (tb:=tb)) f;have h':Rc C d (gev [] s.env f) (args.map (gev [] s.env)) s K:=h;rw[hy] at hf h';simp only[SR,DR] at hf;obtain⟨i,hp,hv⟩:=hf;simp only[Rc] at h';split at h'
   .rename_i y uS;have:=aB.yl o y uS B F pl tb s env M _ _ K R i hG (ax args) h' hp hK;simp only[vop,hv];exact this
   .exact h'.elim
  obtain⟨g,a,b,h3,h4⟩:=BQ aB hG (hG.evs Gds.nil f) (ax args) h (λo e=>hy ⟨o,e⟩) hK;exact M0 h3 h4
 case ext x =>
  cases x
  case mapUpdate mk m k v=>exact act _ (HW aj hG h) λ_ h=>h
  case delete mk m k=>exact False.elim h
  case mapEntry mk z m k=>exact act _ (Rj aj hG h) λ_ h=>h
  case entryStore m s v=>exact act _ (BS aj hG h) λ_ h=>h
  case copy size a b=>exact act _ (Q4j aj hG h) λ_ h=>h
  case unsafeStr e a n=>exact False.elim h
  case strBytes e a=>exact False.elim h
  case rangeMap a=>exact Ed hG h hK
  case nextMap a=>exact OC hG h hK
  all_goals exact h.elim
 all_goals exact h.elim
theorem Gam.frz (hG:Gam P B F pl tb s env M) (o:Nat):∃ B' F',GBase B F M B' F' M/\Gam P B' F' pl tb (s.frz o) env M:=by
 unfold St.frz;split
 .rename_i ty k xs nl ho;have fin:∀ {B' F':Heap},Gam P B' F' pl tb ⟨s.env,oset s.own o .dead,s.nx⟩ env M->KC B' (.list k) xs [pl o]->Gam P B' F' pl tb ⟨SVs.frz o k xs s.env,OX o k xs s.own,s.nx⟩ env M:=λ{B' F'} h hk=>by
   have e1:∀ d,Q9 (OX o k xs s.own) d=(Q9 (oset s.own o .dead) d).frz o k xs:=λd=>by
    rw[O7,Qk];by_cases e:d=o
    .rw[z7 e,z7 e];rfl
    .rw[z8 e,z8 e]
   have lv:∀ d,(Q9 (OX o k xs s.own) d).live=(Q9 (oset s.own o .dead) d).live:=λd=>by rw[e1,OB.q2i]
   refine⟨h.bf,h.le,SRs.frz hk _ _ h.env,λd=>?_,λd i h1 h2=>?_,λd d' i az h1 h2=>?_,h.free⟩
   .simp only[e1];exact(h.obj d).frz hk
   .simp only[lv] at h1;exact h.fresh d i h1 h2
   .simp only[lv] at h1 h2;exact h.sep d d' i az h1 h2
  have ao:=hG.obj o;rw[ho] at ao;rcases ao with⟨_,hx,hp⟩|⟨_,i,cap,c,t,hp,cM,hg,hlen,di⟩
  .exact⟨B,F,.of hG.bf (.refl _),fin (hG.drop o) ⟨_,rfl,.inl ⟨hx,hp⟩⟩⟩
  .obtain⟨g1,g2⟩:=hG.freeze (o:=o) (i:=i) (by rw[ho];rfl) (by rw[hp];rfl);refine⟨_,_,g1,fin g2 ⟨_,rfl,.inr ⟨i,0,cap,c,⟨k.size,ty⟩,true,t,hp,cM,by rw[Heap.q0n];exact hg,rfl,by have:=zr k.size cM;omega,?_⟩⟩⟩;rw[x5];exact di.mono λ_ _ e=>KC.mono g1.b e
 .exact⟨B,F,.of hG.bf (.refl _),hG⟩
theorem GRel.frzs {B0 F0 D0:Heap}:∀ (l:List Nat) {s:St},GRel P B0 F0 D0 s env M->GRel P B0 F0 D0 (s.frzs l) env M
 |[],_,h=>h
 |o::r,s,⟨B,F,pl,tb,hB,hG⟩=>by obtain⟨B',F',g1,g2⟩:=hG.frz o;exact GRel.frzs r ⟨B',F',pl,tb,hB.trans g1,g2⟩
end
theorem SI {j:Nat}{f:Nat->Prop}:∀ {n i:Nat},Ft (j:Int) f n i->i<=j->j<i+n->f j
 |0,i,_,h1,h2=>by omega
 |n+1,i,h,h1,h2=>by
  rcases zl i j with h3|h3
  .exact SI h.2 h3 (by omega)
  .have:j=i:=by omega
   subst this;exact h.1 rfl
theorem Oh {o:VOp}{len i:Nat}{f:Nat->VOp}(h:Q91 o=some (len,i,f)) {n:Nat}:(∃ size x,f n=.indexAddrArr len size x (.const (.int .i64 (Int.ofNat n))))\/∃ agg size x,f n=.indexArr len agg size x (.const (.int .i64 (Int.ofNat n))):=by
 unfold Q91 at h;split at h
 .cases h;exact .inl ⟨_,_,rfl⟩
 .cases h;exact .inr ⟨_,_,_,rfl⟩
 .cases h
theorem OW {o:VOp}{len i:Nat}{f:Nat->VOp}(h:Q91 o=some (len,i,f)) {S:VSpecs}{env:Env}{M:Heap}{k:IntKind}{n:Nat}(he:Q3 env (.tmp i)=.int k (n:Int)) {R:Value->Heap->Prop}(hv:vop S (f n) env M R):vop S o env M R:=by
 have hc:Q3 env (.const (.int .i64 (Int.ofNat n)))=.int .i64 (n:Int):=rfl;unfold Q91 at h;split at h
 .rename_i len size x t;cases h;change QX (Q7 _ (Q3 env) M) _ at hv;change QX (Q7 _ (Q3 env) M) _;simp only[Q7,he,hc] at hv |-;generalize Q3 env x=u at hv |-;cases u<;>first|exact hv|skip
  rename_i p;cases p<;>first|exact hv|skip
  rename_i a;obtain⟨b,o,sp⟩:=a;cases sp<;>exact hv
 .rename_i len agg size x t;cases h;change QX (Q7 _ (Q3 env) M) _ at hv;change QX (Q7 _ (Q3 env) M) _;simp only[Q7,he,hc] at hv |-;generalize Q3 env x=u at hv |-;cases u<;>exact hv
 .cases h
theorem Rb {C:Cx}(aB:COk P C) {B0 F0 D0:Heap}{s:St}{env:Env}{M:Heap}(hR:GRel P B0 F0 D0 s env M) {o:VOper}{K:St->Prop}(h:Z1u C o s K) {R:Env->Heap->Prop}(hK:∀ s' af M',K s'->GRel P B0 F0 D0 s' af M'->R af M') :
  QX (Ja env o.guard) λb=>vif b (vop (Q2 P) o.op env M λv M'=>R (Xe env o.dst v) M') (R (Xe env o.dst undef) M):=by
 unfold Z1u at h;split at h
 .rename_i hg;rw[hg];refine⟨λ_=>?_,λe=>by cases e⟩
  replace hR:=hR.frzs (Q6t C (o.dst.getD 0) o.op (gev [] s.env) s.own)
  generalize s.frzs (Q6t C (o.dst.getD 0) o.op (gev [] s.env) s.own)=s at h hR;obtain⟨B,F,pl,tb,hB,hG⟩:=hR;unfold Z5t at h;split at h
  .rename_i len i f sJ;split at h
   .rename_i k j hj;obtain⟨h1,h2,h3⟩:=h;obtain⟨n,rfl⟩:=xk h1;have hn:n<len:=by omega
    have h4:=SI h3 (Nat.zero_le n) (by omega);have he:=Jg hj (hG.evs (Gds.nil (tb:=tb)) (.tmp i));split at h4
    .rename_i cs v dN;obtain⟨k1,k2⟩:=Zm h4
     replace k1:=Zk k1
     have hv:=HO (C:=C) aB.cs hG Gds.nil (o:=f n) (raw:=C.raw.contains (o.dst.getD 0)) (cs:=cs) (v:=v) (by
      rw[<-dN];obtain⟨size,x,hf⟩|⟨agg,size,x,hf⟩:=Oh sJ<;>rw[hf];rfl;rfl) (k2 λg hg=>by cases hg) λu hu=>hK _ _ _ k1 ⟨B,F,pl,tb,hB,hG.put o.dst hu⟩
     exact OW sJ he hv
    .exact h4.elim
   .exact h.elim
  unfold Z5y at h;split at h
  .rename_i c a b bJ;split at h
   .rename_i v hv;obtain⟨u,h1,h2⟩:=Ut hG Gds.nil hv;rw[bJ];show QX (Q7 (.pick c a b) (Q3 env) M) _;rw[h1];exact hK _ _ _ (Zk h) ⟨B,F,pl,tb,hB,hG.put o.dst h2⟩
   .exact h.elim
  .rename_i v_;cases hq:IX o.op with
   |true =>
    rw[hq] at h;simp only[zj] at h;split at h
    .rename_i cs v dN;obtain⟨h1,h2⟩:=Zm h
     replace h1:=Zk h1
     refine HO (C:=C) aB.cs hG Gds.nil (raw:=C.raw.contains (o.dst.getD 0)) (cs:=cs) (v:=v) ?_ (h2 λg hg=>by cases hg) λu hu=>hK _ _ _ h1 ⟨B,F,pl,tb,hB,hG.put o.dst hu⟩;rw[<-dN];cases ho:o.op<;>first|rfl|(rw[ho] at hq;cases hq)
    .exact h.elim
   |false =>
    rw[hq] at h;simp only[zS] at h;split at h
    .rename_i bJ;split at h
     .rename_i kk vk _;obtain⟨h1,h2⟩:=Oo hG (C.off+o.dst.getD 0) kk vk;rw[bJ];change R (Xe env o.dst (.map (some M.n))) (M.push (.obj (.map [] 0) true));exact hK _ _ _ h ⟨B,F,_,tb,Gl hB (Dead.push _ _),h1.put o.dst h2⟩
     .exact h.elim
    .rename_i bJ;cases lA:SU C (o.dst.getD 0) o.op (gev [] s.env) with
     |true =>rw[lA] at h;simp only[zj] at h;exact Em hG h λv s' B' F' pl' tb' u M' h1 hd h2 h3=>hK _ _ _ h1 ⟨B',F',pl',tb',hB.trans hd,h2.put o.dst h3⟩
     |false =>rw[lA] at h;simp only[zS] at h;exact Q0o aB hG h λv s' B' F' pl' tb' u M' h1 hd h2 h3=>hK _ _ _ h1 ⟨B',F',pl',tb',hB.trans hd,h2.put o.dst h3⟩
 .rename_i j want hg;obtain⟨B,F,pl,tb,hB,hG⟩:=hR;rw[hg];split at h
  .exact h.elim
  .rename_i gs s' en;obtain⟨tb',bm,cY,b,hw,bz,cw⟩:=XY hG en;rw[hw];refine⟨λe=>?_,λe=>?_⟩
   .have gY:Gds tb' gs:=λg hg=>⟨bz e g hg,cY g hg⟩;have fin:∀ {v u},SR P B pl tb' v u->SR P B pl tb' (.grd gs (DF v)) u:=λ{v u} hs=>by
     simp only[SR];obtain⟨h1,h2⟩:=Hu hs;exact⟨⟨cY,h2⟩,λ_=>h1,λ⟨g,hg,az⟩=>absurd (bz e g hg) az⟩
    split at h
    .rename_i c a b' bJ;split at h
     .rename_i v hv;obtain⟨u,h1,h2⟩:=Ut bm gY hv;rw[bJ];show QX (Q7 (.pick c a b') (Q3 env) M) _;rw[h1];exact hK _ _ _ (Zk h) ⟨B,F,pl,tb',hB,bm.put o.dst (fin h2)⟩
     .exact h.elim
    .split at h
     .rename_i cs v dN;obtain⟨h1,h2⟩:=Zm h
      replace h1:=Zk h1
      exact HO aB.cs bm gY dN (h2 (bz e)) λu hu=>hK _ _ _ h1 ⟨B,F,pl,tb',hB,bm.put o.dst (fin hu)⟩
     .split at h
      .rename_i c v lB;obtain⟨h1,h2⟩:=Zm h
       replace h1:=Zk h1
       refine CD aB.cs bm gY (d:=C.off+o.dst.getD 0) lB (h2 (bz e) c (by simp)) λu M' B' F' pl' k1 k2 k3=>hK _ _ _ h1 ⟨B',F',pl',tb',hB.trans k1,k2.put o.dst ?_⟩;simp only[SR];refine⟨⟨cY,?_⟩,λ_=>k3,λ⟨g,hg,az⟩=>absurd (bz e g hg) az⟩;obtain⟨k,xs,rfl⟩:=Lu lB;trivial
      .exact h.elim
   .have fin:∀ v,SR P B pl tb' (.grd gs (DF v)) undef:=λv=>by
     simp only[SR];obtain⟨g,hg,az⟩:=cw e;exact⟨⟨cY,HC v⟩,λae=>absurd (ae g hg) az,λ_=>trivial⟩
    split at h
    .split at h
     .exact hK _ _ _ (Zk h) ⟨B,F,pl,tb',hB,bm.put o.dst (fin _)⟩
     .exact h.elim
    .split at h
     .exact hK _ _ _ (Zk (Zm h).1) ⟨B,F,pl,tb',hB,bm.put o.dst (fin _)⟩
     .split at h
      .rename_i c v lB;refine hK _ _ _ (Zk (Zm h).1) ⟨B,F,_,tb',hB,(bm.make (C.off+o.dst.getD 0) .dead undef bm.le (λ_ _ _ _ _=>rfl) trivial (λi hl _=>by cases hl)).put o.dst ?_⟩;simp only[SR];obtain⟨g,hg,az⟩:=cw e;refine⟨⟨cY,?_⟩,λae=>absurd (ae g hg) az,λ_=>trivial⟩;obtain⟨k,xs,rfl⟩:=Lu lB;trivial
      .exact h.elim
theorem OA {C:Cx}(aB:COk P C) {B0 F0 D0:Heap}{s:St}{env:Env}{M:Heap}(hR:GRel P B0 F0 D0 s env M) {o:VOper}{K:St->Prop}(h:gop C o s K) {R:Env->Heap->Prop}(hK:∀ s' af M',K s'->GRel P B0 F0 D0 s' af M'->R af M') :
  QX (Ja env o.guard) λb=>vif b (vop (Q2 P) o.op env M λv M'=>R (Xe env o.dst v) M') (R (Xe env o.dst undef) M):=by
 unfold gop at h;split at h
 .rename_i t ht;have oI:=hR;obtain⟨B,F,pl,tb,hB,hG⟩:=hR;rw[Kg hG ht];cases t with
  |true =>simp only[zj] at h;exact Rb aB oI (o:=⟨o.dst,o.op,none⟩) h hK
  |false =>simp only[zS] at h;exact⟨(λe=>by cases e),λ_=>hK _ _ _ h ⟨B,F,pl,tb,hB,hG.put o.dst (by simp[SR])⟩⟩
 .exact Rb aB hR h hK
theorem Cn {B0 F0 D0:Heap}{s s':St}{env:Env}{M:Heap}(hR:GRel P B0 F0 D0 s env M) {d:Nat}(h:Q5x d s=some s'):GRel P B0 F0 D0 s' env M:=by
 unfold Q5x at h;split at h
 .rename_i o off hd;cases hz:Nat.beq off 0 with
  |false=>rw[hz] at h;cases h
  |true =>
   rw[hz] at h;simp only[zj] at h;have hz:off=0:=zM hz;subst hz;split at h
   .rename_i l _ ho;simp only[x6] at h;subst h;obtain⟨B,F,pl,tb,hB,hG⟩:=hR;have ao:=hG.obj o;rw[ho] at ao;obtain⟨i,c,e,t,e1,e2,e3,_⟩:=ao;obtain⟨k1,k2⟩:=hG.freeze (o:=o) (i:=i) (by rw[ho];rfl) (by rw[e1];rfl);have h1:=hG.env.getD d undef;rw[hd] at h1;have sr:SR P (B.ins M i hG.leB.1) pl tb (.cp l 0) (env.getD d undef):=by
     simp only[SR] at h1 |-;obtain⟨b,q1,q2⟩:=h1;rw[e1] at q1;obtain rfl:i=b:=by simpa using q1
     refine⟨i,c,e,true,t,?_,q2,SRs.mono k1.b (λ_ _ h=>h) _ _ e3⟩;rw[Heap.q0n];exact e2
    have:=k2.put (some d) sr;refine⟨_,_,pl,tb,hB.trans k1,?_⟩;have e2:Xe env (some d) (env.getD d undef)=env:=by
     show env.set d _=env;rcases zl d env.length with h|h
     .rw[zd,z1 h];simp
     .rw[List.set_eq_of_length_le h]
    rw[e2] at this;exact this
   .cases h
 .cases h
theorem E6 {C:Cx}{B0 F0 D0:Heap}{s:St}{env:Env}{M:Heap}(hR:GRel P B0 F0 D0 s env M) {d:Option Nat}{K:St->Prop}(h:Z21 C d K s):∃ s2,K s2/\GRel P B0 F0 D0 s2 env M:=by
 unfold Z21 at h;split at h
 .exact⟨s,h,hR⟩
 .rename_i d;cases hb:C.spl.contains d with
  |false=>rw[hb] at h;exact⟨s,h,hR⟩
  |true =>
   rw[hb] at h;simp only[zj] at h;split at h
   .rename_i t ht;obtain⟨B,F,pl,tb,hB,hG⟩:=hR;have he:=XH ht (hG.env.getD d undef);have bh:∀ v,SR P B pl tb v (env.getD d undef)->GRel P B0 F0 D0 (s.put (some d) v) env M:=λv hv=>by
     have:=hG.put (some d) hv;refine⟨B,F,pl,tb,hB,?_⟩;have e2:Xe env (some d) (env.getD d undef)=env:=by
      show env.set d _=env;rcases zl d env.length with h|h
      .rw[zd,z1 h];simp
      .rw[List.set_eq_of_length_le h]
     rw[e2] at this;exact this
    have sr:SR P B pl tb (.grd [] (.val .bo t)) (env.getD d undef):=by simp only[SR];exact⟨⟨(λg hg=>by cases hg),trivial⟩,(λ_=>by rw[he];simp[KC]),λ⟨g,hg,_⟩=>by cases hg⟩
    cases hc:C.raw.contains (3000000+d) with
    |true =>
     rw[hc] at h;cases t with
     |true=>exact⟨_,h,bh _ sr⟩
     |false=>exact⟨_,h,bh _ sr⟩
    |false =>
     rw[hc] at h;cases t with
     |true=>exact⟨_,h.1 rfl,bh _ sr⟩
     |false=>exact⟨_,h.2 rfl,bh _ sr⟩
   .split at h
    .rename_i s' hf;exact⟨s',h,Cn hR hf⟩
    .exact h.elim
theorem MI {C:Cx}(aB:COk P C) {B0 F0 D0:Heap}:∀ (ops:List VOper) {s:St}{env:Env}{M:Heap},GRel P B0 F0 D0 s env M->∀ {K:St->Prop},Z1c C ops s K->∀ {R:Env->Heap->Prop},(∀ s' af M',K s'->GRel P B0 F0 D0 s' af M'->R af M')->BH (Q2 P) ops env M R
 |[],s,env,M,hR,_K,h,_R,hK=>hK s env M h hR
 |_o::r,_s,_env,_σ,hR,_K,h,_R,hK=>OA (R:=λenv M=>BH (Q2 P) r env M _R) aB hR h λ_ _ _ h1 h2=>by obtain⟨s2,k1,k2⟩:=E6 h2 h1;exact MI aB r k2 k1 hK
theorem O5 {S:VSpecs}{l:List DOper}{rest:List DSeg}{env:Env}{M:Heap}{K:Env->Heap->Prop}(h:l.all (λo=>!(o.kind==2)&&!(o.op.kind==2))=true) (hv:BH S (l.map dv) env M λenv M=>M_ S rest env M K):M_ S (.alts [l]::rest) env M K:=by
 intro ops ho;obtain rfl:=zo.1 ho;have key:∀ (l:List DOper) (env:Env) (pend:List (Nat×(Heap->Prop))) (K':Env->Heap->Prop),l.all (λo=>!(o.kind==2)&&!(o.op.kind==2))=true->BH S (l.map dv) env M K'->Zq S l env [M] M pend K':=by
  intro l;induction l with
  |nil=>intro env pend K' _ h;exact h
  |cons o rest ih =>
   intro env pend K' hk h;simp only[zW,z6,Bool.not_eq_true',xG] at hk;obtain⟨⟨bt,av⟩,hr⟩:=hk;have hr:rest.all (λo=>!(o.kind==2)&&!(o.op.kind==2))=true:=by simpa using hr
   simp only[zJ,BH,dv] at h;simp only[Zq];cases hw:Ja env o.guard with
   |none=>rw[hw] at h;exact h.elim
   |some b =>
    rw[hw] at h;obtain⟨ht,hf⟩:=h;refine⟨λe=>?_,λe=>?_⟩
    .have ht:=ht e;obtain⟨p,hp,jS⟩:∃ p,Q7 o.op (Q3 env) M=some p/\BH S (rest.map dv) (Xe env o.dst p.1) p.2 K':=by
      have:=ht;unfold vop at this;split at this
      .rename_i f bQ heq;rw[heq] at av;exact absurd rfl av
      .rename_i f bQ heq;rw[heq] at av;exact absurd rfl av
      .rename_i x heq;rw[heq] at av;exact absurd rfl av
      .cases dX:Q7 o.op (Q3 env) M with
       |none=>rw[dX] at this;exact this.elim
       |some p=>rw[dX] at this;exact⟨p,rfl,this⟩
     have hq:p.2=M:=Dv av (v:=p.1) (M':=p.2) hp;rw[hq] at jS;rw[z8 bt];split
     .rw[hp];refine⟨λU hτ=>?_,ih _ _ _ hr jS⟩;have:U=M:=by
       have:=List.mem_of_mem_drop hτ;simpa using this
      subst this;show QX (Q7 o.op (Q3 env) U) _;rw[hp];rfl
     .rw[hp];exact ih _ _ _ hr jS
    .rw[z8 bt];exact ih _ _ _ hr (hf e)
 have:=key ops env [] _ h hv;have mono:∀ (l:List DOper) (env:Env) (hs:List Heap) (U:Heap) (pend:List (Nat×(Heap->Prop))) (A B:Env->Heap->Prop),l.all (λo=>!(o.kind==2)&&!(o.op.kind==2))=true->(∀ e s,A e s->B e s)->Zq S l env hs U pend A->Zq S l env hs U pend B:=by
  intro l;induction l with
  |nil=>intro env hs U pend A B _ l5 h;exact l5 _ _ h
  |cons o rest ih =>
   intro env hs U pend A B hk l5 h;simp only[zW,z6,Bool.not_eq_true',xG] at hk;obtain⟨⟨bt,av⟩,hr⟩:=hk;have hr:rest.all (λo=>!(o.kind==2)&&!(o.op.kind==2))=true:=by simpa using hr
   simp only[Zq] at h |-;cases hw:Ja env o.guard with
   |none=>rw[hw] at h;exact h.elim
   |some b =>
    rw[hw] at h;obtain⟨ht,hf⟩:=h;refine⟨λe=>?_,λe=>?_⟩
    .have ht:=ht e;rw[z8 bt] at ht |-;by_cases nU:o.kind=1
     .rw[z7 nU] at ht |-;cases dX:Q7 o.op (Q3 env) U with
      |none=>rw[dX] at ht;exact ht.elim
      |some p=>rw[dX] at ht;exact⟨ht.1,ih _ _ _ _ _ _ hr l5 ht.2⟩
     .rw[z8 nU] at ht |-;cases dX:Q7 o.op (Q3 env) U with
      |none=>rw[dX] at ht;exact ht.elim
      |some p=>rw[dX] at ht;exact ih _ _ _ _ _ _ hr l5 ht
    .have hf:=hf e;rw[z8 bt] at hf |-;exact ih _ _ _ _ _ _ hr l5 hf
 exact mono ops env _ _ _ _ _ h (λe s hs=>⟨e,s,.refl _ _ _,hs⟩) this
theorem ZT {op:VOp}{ev:Operand->Value}{u:Value}{U U':Heap}(h:Q7 op ev U=some (u,U')):JW op ev u U:=by unfold JW;rw[h];rfl
theorem Zb (s:St) (d:Option Nat) (v:SV):(s.put d v).own=s.own:=by cases d<;>rfl
theorem Ka {s s':St}{j:Nat}{want:Bool}{gs:List Gd}(h:H0 s j want=some (gs,s')):s'.own=s.own:=by unfold H0 at h;split at h<;>first|(cases h;done)|(obtain⟨_,rfl⟩:=QV h;rfl)
theorem VU {C:Cx}{B F:Heap}{pl:Nat->Value}{tb:Nat->Option Bool}{s:St}{env:Env}{M:Heap}(hG:Gam P B F pl tb s env M) {o:DOper}{K:St->Prop}(h:gd1 C o s K) :
  ∃ b,Ja env o.guard=some b/\(b=true->∃ u s' tb',Q7 o.op (Q3 env) M=some (u,M)/\K s'/\s'.own=s.own/\Gam P B F pl tb' s' (Xe env o.dst u) M)/\(b=false->∃ s' tb',K s'/\s'.own=s.own/\Gam P B F pl tb' s' (Xe env o.dst undef) M):=by
 unfold gd1 at h;split at h
 .rename_i hg;rw[hg];refine⟨true,rfl,λ_=>?_,λe=>by cases e⟩;split at h
  .rename_i c a b bJ;split at h
   .rename_i v hv;obtain⟨u,h1,h2⟩:=Ut hG Gds.nil hv;exact⟨u,_,tb,by rw[bJ];exact h1,Zk h,Zb _ _ _,hG.put o.dst h2⟩
   .exact h.elim
  .split at h
   .rename_i cs v dN;obtain⟨h1,h2⟩:=Zm h;obtain⟨u,h3,h4⟩:=S1 (hG.evs (Gds.nil (tb:=tb))) (λ_=>rfl) hG.leB hG.obj dN (h2 λg hg=>by cases hg);exact⟨u,_,tb,h3,Zk h1,Zb _ _ _,hG.put o.dst h4⟩
   .exact h.elim
 .rename_i j want hg;rw[hg];split at h
  .exact h.elim
  .rename_i gs s' en;obtain⟨tb',bm,cY,b,hw,bz,cw⟩:=XY hG en;refine⟨b,hw,λe=>?_,λe=>?_⟩
   .have gY:Gds tb' gs:=λg hg=>⟨bz e g hg,cY g hg⟩;have fin:∀ {v u},SR P B pl tb' v u->SR P B pl tb' (.grd gs (DF v)) u:=λ{v u} hs=>by
     simp only[SR];obtain⟨h1,h2⟩:=Hu hs;exact⟨⟨cY,h2⟩,λ_=>h1,λ⟨g,hg,az⟩=>absurd (bz e g hg) az⟩
    split at h
    .rename_i c a b' bJ;split at h
     .rename_i v hv;obtain⟨u,h1,h2⟩:=Ut bm gY hv;exact⟨u,_,tb',by rw[bJ];exact h1,Zk h,(Zb _ _ _).trans (Ka en),bm.put o.dst (fin h2)⟩
     .exact h.elim
    .split at h
     .rename_i cs v dN;obtain⟨h1,h2⟩:=Zm h;obtain⟨u,h3,h4⟩:=S1 (bm.evs gY) (λ_=>rfl) bm.leB bm.obj dN (h2 (bz e));exact⟨u,_,tb',h3,Zk h1,(Zb _ _ _).trans (Ka en),bm.put o.dst (fin h4)⟩
     .exact h.elim
   .have fin:∀ v,SR P B pl tb' (.grd gs (DF v)) undef:=λv=>by
     simp only[SR];obtain⟨g,hg,az⟩:=cw e;exact⟨⟨cY,HC v⟩,λae=>absurd (ae g hg) az,λ_=>trivial⟩
    split at h
    .split at h
     .exact⟨_,tb',Zk h,(Zb _ _ _).trans (Ka en),bm.put o.dst (fin _)⟩
     .exact h.elim
    .split at h
     .exact⟨_,tb',Zk (Zm h).1,(Zb _ _ _).trans (Ka en),bm.put o.dst (fin _)⟩
     .exact h.elim
theorem CO {bs:List OB}{q:Prop}(h:O1 bs q):(∀ b∈bs,b.wf)/\q:=by
 induction bs with
 |nil=>exact⟨(λb hb=>by cases hb),h⟩
 |cons b r ih =>
  obtain⟨h1,h2⟩:=h;obtain⟨h3,h4⟩:=ih h2;exact⟨λb' bM=>by
   rcases zn.1 bM with rfl|bM
   .exact h1
   .exact h3 b' bM,h4⟩
mutual
theorem AK {d nt:Nat}:∀ (v:SV),v.ret 0=true->(v.ren d nt).ret 0=true
 |.val k x,h=>h
 |.nilS,_|.nilP,_|.nilM,_|.nilF,_=>rfl
 |.lst j,h|.box j _,h|.map j,h=>by simp[SV.ret,Nat.blt] at h
 |.agg l,h=>by simp only[SV.ren,SV.ret] at h |-;exact P2 l h
 |.tup l,h=>by simp only[SV.ren,SV.ret] at h |-;exact P2 l h
 |.any,h|.bid _ _,h|.grd _ _,h|.sub _ _ _ _,h|.elp _ _ _ _,h|.rop _ _ _ _,h|.cp _ _,h|.fn _ _ _,h|.pf _ _ _ _,h=>by cases h
theorem P2 {d nt:Nat}:∀ (v:List SV),SVs.ret 0 v=true->SVs.ret 0 (SVs.ren d nt v)=true
 |[],_=>rfl
 |s::ss,h=>by simp only[SVs.ret,SVs.ren,z6] at h |-;exact⟨AK s h.1,P2 ss h.2⟩
end
theorem X_ {C:Cx}(aB:COk P C) {B F:Heap}{pl:Nat->Value}{tb:Nat->Option Bool}{s:St}{env:Env}{M:Heap}(hG:Gam P B F pl tb s env M) {d:Nat}{f:SV}{args:List SV}{K:List Nat->SV->St->Prop}(h:Gh C d f args s K) {fV:Value}{vs:List Value}
  (hf:SR P M Jo Zf f fV) (ha:SRs P M Jo Zf args vs):∃ g a b u M' ts v s' pl',fV=.func (.func g) a b/\(VCalled P g (a.toList++vs++b.toList) M λu' aE=>u'=u/\aE=M')/\K ts v s'/\Gam P B F pl' tb s' env M'/\SR P B pl' tb v u/\(ts=[]->M'=M/\pl'=pl/\s'=s)/\M.Le M'/\Dead M M'/\FrL ts s s' pl pl' M M':=by
 unfold Gh at h;split at h
 .rename_i c v bs heq;cases hb:(v.ret bs.length&&(bs.all OB.ret&&(Nat.blt 0 C.nt&&(bs.all OB.isL&&VB v)))) with
  |false=>rw[hb] at h;exact h.elim
  |true =>
   rw[hb] at h;obtain⟨h1,h2⟩:=h;obtain⟨h3,h4⟩:=CO h2;simp only[z6] at hb;obtain⟨hv,oJ,dw,hl,cN⟩:=hb;obtain⟨g,a,b,e,_,hx⟩:=ZM aB.cs hf ha heq hv oJ h1;have dM:=Lf (P:=P) M hv cN oJ hl (λb hb=>by have:=h3 b hb;cases b<;>exact this);by_cases b_:bs=[]
   .subst b_;obtain⟨k1,k2⟩:=dM.flat hv;refine⟨g,a,b,_,_,_,_,_,pl,e,hx hl cN,h4,?_,?_,λ_=>⟨k1,rfl,rfl⟩,dM.1.1,dM.1.2,λq _=>⟨rfl,rfl,λ_ _ _=>by rw[k1]⟩⟩
    .rw[k1];exact hG
    .exact SR.retd (B:=hNil) (pl:=pl) (tb:=Zf) (n:=0) (λj hj=>by omega) _ _ (AK v hv) (SR.ren (pl:=Jo) (tb:=Zf) (n:=0) (λj hj=>by omega) v _ hv k2)
   .obtain⟨pl',h5,h6,h7⟩:=dM.gamF (nt:=C.nt) (d:=d) (by simpa [zL] using dw) hG hv oJ;refine⟨g,a,b,_,_,_,_,_,pl',e,hx hl cN,h4,h5,h6,λhe=>absurd (by simpa using he) b_,dM.1.1,dM.1.2,λq hq=>h7 q λj hj e=>hq ?_⟩;exact zE.2 ⟨j,zD.2 hj,e.symm⟩
 .exact h.elim
def AH:VOp->Bool
 |.callF ..|.callV ..=>true
 |.ext (.rangeMap _)|.ext (.nextMap _)=>true
 |_=>false
theorem Q8b {C:Cx}{B F:Heap}{pl:Nat->Value}{tb:Nat->Option Bool}{s:St}{env:Env}{M:Heap}(hG:Gam P B F pl tb s env M) {d:Nat}{o:VOp}{K:SV->St->Prop}(h:gn C d o (gev [] s.env) s K) (hc:AH o=false) :
  NOk P B F tb o (Q3 env) env M K (QH d o (gev [] s.env)) s pl:=by
 have aj:=hG.evs (Gds.nil (tb:=tb));cases o
 case alloc t z=>exact O8 aj hG h
 case box t x=>exact Q9z aj hG h
 case buildSlice e z n ps=>exact Mt aj hG h
 case makeSlice e b z l c=>exact HY aj hG h
 case append e b x y=>exact Av aj hG h
 case store size a x=>exact IN aj hG h
 case callF=>cases hc
 case callV=>cases hc
 case ext x =>
  cases x
  case mapUpdate mk m k v=>exact HW aj hG h
  case delete mk m k=>exact False.elim h
  case mapEntry mk z m k=>exact Rj aj hG h
  case entryStore m s v=>exact BS aj hG h
  case copy size a b=>exact Q4j aj hG h
  case unsafeStr e a n=>exact False.elim h
  case strBytes e a=>exact False.elim h
  case rangeMap=>cases hc
  case nextMap=>cases hc
  all_goals exact h.elim
 all_goals exact h.elim
theorem Sr {o:VOp}{ev:Operand->Value}{M M':Heap}{u:Value}(hm:P3 o=true) (h:Q7 o ev M=some (u,M')):M.Le M':=by
 have push:∀ b:Blk,M.Le (M.push b):=λb=>(Heap.Le.refl M).push b;cases o<;>first|(cases hm;done)|skip
 case alloc t z=>obtain⟨rfl,rfl⟩:=QV h;exact push _
 case box t x =>
  simp only[Q7] at h;split at h
  .obtain⟨rfl,rfl⟩:=QV h;exact push _
  .cases h
 case buildSlice e z n ps =>
  simp only[Q7] at h;split at h
  .obtain⟨rfl,rfl⟩:=QV h;exact push _
  .cases h
 case makeSlice e b z l c =>
  simp only[Q7] at h;split at h
  .split at h
   .obtain⟨rfl,rfl⟩:=QV h;exact push _
   .cases h
  .cases h
def stM:MK:=.agg [.int .i64,.int .i64]
def Q7c:Option JD->Value
 |some e=>e.2.1
 |none=>.int .i64 0
def LkE (es bZ:List JD):Prop:=(es.all (λe=>Zn stM e.1)=true->bZ.all (λe=>Zn stM e.1)=true)/\(es.all (λe=>Zn stM e.1)=true->∀ k,Zn stM k=true->Q7c (Qj k bZ)=Q7c (Qj k es))
theorem LkE.trans {a b c:List JD}(h:LkE a b) (h':LkE b c):LkE a c:=⟨λk=>h'.1 (h.1 k),λk x hx=>(h'.2 (h.1 k) x hx).trans (h.2 k x hx)⟩
theorem C8 {v:Value}(h:Zn stM v=true):∃ a b,v=.agg #[.int .i64 a,.int .i64 b]:=by
 cases v with
 |agg l =>
  simp only[Zn,stM] at h;obtain⟨l⟩:=l
  match l,h with
  |[],h=>simp[fits] at h
  |[x],h=>cases x<;>simp[fits,Eo] at h
  |[x,y],h =>simp only[fits,z6] at h;obtain⟨hx,hy,_⟩:=h;cases x<;>simp[Eo] at hx;cases y<;>simp[Eo] at hy;subst hx;subst hy;exact⟨_,_,rfl⟩
  |x::y::z::r,h=>simp[fits] at h
 |_=>simp[Zn,stM] at h
theorem Q27 {a b c e:Int}:XF (.agg #[.int .i64 a,.int .i64 b]) (.agg #[.int .i64 c,.int .i64 e])=(a==c&&b==e):=by simp[XF,Qo,Kq]
theorem Ip {k0:Value}{clock:Nat}(jv:Zn stM k0=true):∀ {es:List JD},LkE es (Qu k0 (Q7c (Qj k0 es)) clock es).1
 |[]=>by refine⟨λ_=>by simp[Qu,jv],λ_ k hk=>?_⟩;simp only[Qu,Qj];cases XF k k0<;>rfl
 |e::es=>by
  have ih:=Ip (clock:=clock) jv (es:=es);simp only[Qu,Qj];cases he:XF k0 e.1 with
  |true =>
   simp only[zB];refine⟨λh=>?_,λh k hk=>?_⟩
   .simp only[zW,z6] at h |-;exact⟨jv,h.2⟩
   .simp only[zW,z6] at h;obtain⟨a,b,rfl⟩:=C8 jv;obtain⟨a1,b1,h1⟩:=C8 h.1;obtain⟨a2,b2,rfl⟩:=C8 hk;have heq:(a==a1&&b==b1)=true:=by rw[<-Q27,<-h1];exact he
    simp only[z6,zT] at heq;obtain⟨rfl,rfl⟩:=heq;simp only[Qj,h1,Q27];cases (a2==a&&b2==b)<;>rfl
  |false =>
   simp only[zC,if_false];refine⟨λh=>?_,λh k hk=>?_⟩
   .simp only[zW,z6] at h |-;exact⟨h.1,ih.1 h.2⟩
   .simp only[zW,z6] at h;simp only[Qj];cases XF k e.1 with
    |true=>rfl
    |false=>exact ih.2 h.2 k hk
theorem Oa {mk:MK}{z:Value}(h:stP mk z=true):mk=stM/\z=.int .i64 0:=by
 unfold stP at h;split at h
 .exact⟨rfl,by rw[eq_of_beq h]⟩
 .cases h
def E5 (M:Heap) (own:Own) (pl:Nat->Value) (Q:Heap->Prop):Option Nat->Prop
 |none=>∀ U,M.Le U->Q U
 |some q=>(Q9 own (q / 2)).live=true/\∃ i b,Oid (pl (q / 2)) i/\M.get i=some b/\(∀ U,U.get i=some b->Q U)/\(q % 2=1->∃ es c wr,b=.obj (.map es c) wr/\∀ U bZ c',LkE es bZ->U.get i=some (.obj (.map bZ c') wr)->Q U)
structure DSt (hs:List Heap) (M:Heap) (pend:List (Nat×(Heap->Prop))) (hl chg:Nat) (A R:List (Nat×Option Nat)) (own:Own) (pl:Nat->Value):Prop where
 len:hs.length=hl
 same:∀ j U,chg<=j->hs[j]?=some U->U=M
 pend:∀ c∈pend,c.1<hl\/∃ r∈R,c.1<=r.1/\E5 M own pl c.2 r.2
 fr:∀ j U q i,hs[j]?=some U->Zc A j q=true->(Q9 own q).live=true->Oid (pl q) i->U.get i=M.get i
theorem YQ {r:Nat}{M:Heap}:∀ {l:List (Nat×(Heap->Prop))},(∀ c∈l,r<=c.1->c.2 M)->JX r M l
 |[],_=>trivial
 |c::l,h=>⟨h c (by simp),YQ λc' cI=>h c' (by simp[cI])⟩
theorem Jy {hs:List Heap}{M' U:Heap}{j:Nat}(h:(hs++[M'])[j]?=some U):(j<hs.length/\hs[j]?=some U)\/(j=hs.length/\U=M'):=by
 rw[List.getElem?_append] at h;split at h
 .rename_i ah;exact .inl ⟨ah,h⟩
 .have:j-hs.length=0:=by
   cases hz:j-hs.length with
   |zero=>rfl
   |succ n=>rw[hz] at h;simp at h
  rw[this] at h;exact .inr ⟨by omega,by simpa using h.symm⟩
theorem TK {a:Nat×Option Nat}{A:List (Nat×Option Nat)}{j q:Nat}(h:Zc (a::A) j q=true) (hj:j<=a.1):(∃ t,a.2=some t/\t≠q)/\Zc A j q=true:=by
 simp only[Zc,zW,z6,zy,zL] at h;refine⟨?_,h.2⟩;rcases h.1 with h|h
 .omega
 .split at h
  .rename_i t ht;exact⟨t,ht,λe=>by subst e;simp at h⟩
  .cases h
theorem DSt.stay {hs:List Heap}{M:Heap}{pend:List (Nat×(Heap->Prop))}{hl chg:Nat}{A R:List (Nat×Option Nat)}{own:Own}{pl:Nat->Value}(h:DSt hs M pend hl chg A R own pl) :
  JX hs.length M pend/\DSt (hs++[M]) M pend (hl+1) chg A R own pl:=by
 have hr:∀ c∈pend,∀ r∈R,E5 M own pl c.2 r.2->c.2 M:=λc _ r _ ai=>by
  unfold E5 at ai;split at ai
  .exact ai M (.refl _)
  .obtain⟨_,i,b,_,h2,h3,_⟩:=ai;exact h3 M h2
 refine⟨YQ λc hc hle=>?_,⟨by simp[h.len],λj U hj ht=>?_,λc hc=>?_,λj U q i ht hu hl hi=>?_⟩⟩
 .rcases h.pend c hc with h1|⟨r,h1,_,h2⟩
  .rw[h.len] at hle;omega
  .exact hr c hc r h1 h2
 .rcases Jy ht with⟨_,h1⟩|⟨_,h1⟩
  .exact h.same j U hj h1
  .exact h1
 .rcases h.pend c hc with h1|h1
  .exact .inl (by omega)
  .exact .inr h1
 .rcases Jy ht with⟨_,h1⟩|⟨_,rfl⟩
  .exact h.fr j U q i h1 hu hl hi
  .rfl
theorem DSt.write {hs:List Heap}{M M':Heap}{pend:List (Nat×(Heap->Prop))}{hl chg:Nat}{A R:List (Nat×Option Nat)}{s s':St}{pl pl':Nat->Value}(h:DSt hs M pend hl chg A R s.own pl) {T:Nat}(hf:Fr T s s' pl pl' M M') {mk ext:Bool}(hm:mk=true->M.Le M')
  (hE:ext=true->(Q9 s'.own T).live=true/\pl' T=pl T/\∃ i es c bZ c',pl T=.map (some i)/\M.get i=some (.obj (.map es c) true)/\M'.get i=some (.obj (.map bZ c') true)/\LkE es bZ)
  (hc:((mk&&SK R hl T)||R2 R hl T||(ext&&Q7f R hl T))=true) (aR:0<hl):JX hs.length M' pend/\DSt (hs++[M']) M' pend (hl+1) hl ((hl-1,some T)::A) R s'.own pl':=by
 have hr:∀ Q:Heap->Prop,∀ r∈R,hl<=r.1->E5 M s.own pl Q r.2->E5 M' s'.own pl' Q r.2:=λQ r ml bj ai=>by
  have hq:∀ q,r.2=some q->q / 2=T->q % 2=1/\ext=true:=λq hq e=>by
   subst e;simp only[zy,z6,SK,R2,Q7f] at hc;rcases hc with (⟨_,hc⟩|hc)|⟨he,hc⟩
   .have:=zf.1 hc r ml;rw[hq] at this;simp only[zy,zL,Nat.beq_refl,wA,zC,or_false] at this;omega
   .have:=zf.1 hc r ml;rw[hq] at this;simp only[zy,zL,Nat.beq_refl,wA,zC,or_false] at this;omega
   .have:=zf.1 hc r ml;rw[hq] at this;simp only[zy,zL,Nat.beq_refl,wA,zC,false_or] at this;rcases this with h|h
    .omega
    .exact⟨zM h,he⟩
  cases e:r.2 with
  |none =>
   rw[e] at ai;have cD:mk=true:=by
    simp only[zy,z6,R2,Q7f] at hc;rcases hc with (⟨hc,_⟩|hc)|⟨_,hc⟩
    .exact hc
    .have:=zf.1 hc r ml;rw[e] at this;simp only[zy,zL,zC,or_false] at this;omega
    .have:=zf.1 hc r ml;rw[e] at this;simp only[zy,zL,zC,or_false] at this;omega
   exactλU ht=>ai U ((hm cD).trans ht)
  |some q =>
   rw[e] at ai;obtain⟨k1,i,b,k2,k3,k4⟩:=ai;by_cases oK:q / 2=T
   .obtain⟨ho,he⟩:=hq q e oK;obtain⟨g1,g2,i',es,c,bZ,c',g3,g4,g5,g6⟩:=hE he;obtain⟨k5,k6⟩:=k4;obtain⟨wa,c0,wr,rfl,k7⟩:=k6 ho;rw[oK] at k1 k2;have hi:i=i':=Iy (by rw[g3];rfl) k2;subst hi;rw[g4] at k3;cases k3;refine⟨by rw[oK];exact g1,i,_,by rw[oK,g2];exact k2,g5,λU hτ=>k7 U _ _ g6 hτ,λ_=>⟨_,_,_,rfl,λU uT wb hl hτ=>k7 U _ _ (g6.trans hl) hτ⟩⟩
   .obtain⟨f1,f2,f3⟩:=hf (q / 2) oK;exact⟨by rw[f1];exact k1,i,b,by rw[f2];exact k2,by rw[f3 k1 i k2];exact k3,k4⟩
 have now:∀ Q:Heap->Prop,∀ r,E5 M' s'.own pl' Q r->Q M':=λQ r ai=>by
  unfold E5 at ai;split at ai
  .exact ai M' (.refl _)
  .obtain⟨_,i,b,_,h2,h3,_⟩:=ai;exact h3 M' h2
 refine⟨YQ λc hc hle=>?_,⟨by simp[h.len],λj U hj ht=>?_,λc hc=>?_,λj U q i ht hu cm hi=>?_⟩⟩
 .rw[h.len] at hle;rcases h.pend c hc with h1|⟨r,h1,h2,h3⟩
  .omega
  .exact now _ _ (hr _ r h1 (by omega) h3)
 .rcases Jy ht with⟨h1,_⟩|⟨_,h1⟩
  .rw[h.len] at h1;omega
  .exact h1
 .rcases h.pend c hc with h1|⟨r,h1,h2,h3⟩
  .exact .inl (by omega)
  .by_cases bj:hl<=r.1
   .exact .inr ⟨r,h1,h2,hr _ r h1 bj h3⟩
   .exact .inl (by omega)
 .rcases Jy ht with⟨h1,h2⟩|⟨_,rfl⟩
  .rw[h.len] at h1;obtain⟨⟨t,ht,uU⟩,cy⟩:=TK hu (by simp only;omega);obtain rfl:=osj ht;obtain⟨f1,f2,f3⟩:=hf q (Ne.symm uU);rw[f1] at cm;rw[f2] at hi;rw[f3 cm i hi];exact h.fr j U q i h2 cy cm hi
  .rfl
theorem B4 {ts:List Nat}{hl j q:Nat}{A:List (Nat×Option Nat)}(h:Zc (ts.map (λt=>(hl,some t))++A) j q=true) (hj:j<=hl):q∉ts/\Zc A j q=true:=by simp only[Zc,List.all_append,z6] at h |-;refine⟨λhm=>?_,h.2⟩;have:=zf.1 h.1 (hl,some q) (zE.2 ⟨q,hm,rfl⟩);simp only[zy,zL,Nat.beq_refl,wA,zC,or_false] at this;omega
theorem DSt.call {hs:List Heap}{M M':Heap}{pend:List (Nat×(Heap->Prop))}{hl chg:Nat}{A R:List (Nat×Option Nat)}{s s':St}{pl pl':Nat->Value}(h:DSt hs M pend hl chg A R s.own pl) (hle:M.Le M') {Ts:List Nat}(hf:FrL Ts s s' pl pl' M M') (aR:0<hl) :
  JX hs.length M' pend/\DSt (hs++[M']) M' pend (hl+1) hl (Ts.map (λt=>(hl-1,some t))++A) (R.map λr=>(r.1,none)) s'.own pl':=by
 have hr:∀ Q r,E5 M s.own pl Q r->∀ U,M'.Le U->Q U:=λQ r ai U ht=>by
  unfold E5 at ai;split at ai
  .exact ai U (hle.trans ht)
  .obtain⟨_,i,b,_,h2,h3,_⟩:=ai;exact h3 U (ht.2 _ _ (hle.2 _ _ h2))
 refine⟨YQ λc hc hle=>?_,⟨by simp[h.len],λj U hj ht=>?_,λc hc=>?_,λj U q i ht hu cm hi=>?_⟩⟩
 .rcases h.pend c hc with h1|⟨r,h1,_,h2⟩
  .rw[h.len] at hle;omega
  .exact hr _ _ h2 _ (.refl _)
 .rcases Jy ht with⟨h1,_⟩|⟨_,h1⟩
  .rw[h.len] at h1;omega
  .exact h1
 .rcases h.pend c hc with h1|⟨r,h1,h2,h3⟩
  .exact .inl (by omega)
  .exact .inr ⟨(r.1,none),zE.2 ⟨r,h1,rfl⟩,h2,hr _ _ h3⟩
 .rcases Jy ht with⟨h1,h2⟩|⟨_,rfl⟩
  .rw[h.len] at h1;obtain⟨hq,cy⟩:=B4 hu (by omega);obtain⟨f1,f2,f3⟩:=hf q hq;rw[f1] at cm;rw[f2] at hi;rw[f3 cm i hi];exact h.fr j U q i h2 cy cm hi
  .rfl
theorem DSt.writeD {hs:List Heap}{M M':Heap}{pend:List (Nat×(Heap->Prop))}{hl chg:Nat}{A R:List (Nat×Option Nat)}{s s':St}{pl pl':Nat->Value}(h:DSt hs M pend hl chg A R s.own pl) {Ts:List Nat}(hf:FrL Ts s s' pl pl' M M') {mk:Bool}(hm:mk=true->M.Le M')
  (hc:AZ mk R hl Ts=true) (aR:0<hl):JX hs.length M' pend/\DSt (hs++[M']) M' pend (hl+1) hl (Ts.map (λt=>(hl-1,some t))++A) R s'.own pl':=by
 have hr:∀ Q:Heap->Prop,∀ r∈R,hl<=r.1->E5 M s.own pl Q r.2->E5 M' s'.own pl' Q r.2:=λQ r ml bj ai=>by
  have mn:=zf.1 hc r ml;have mn:(match r.2 with|some q=>Ts.all (λt=>!(Nat.beq (q / 2) t))|none=>mk)=true:=by rw[zy,zL] at mn;exact mn.resolve_left (by omega)
  cases e:r.2 with
  |none =>rw[e] at ai mn;exactλU ht=>ai U ((hm mn).trans ht)
  |some q =>
   rw[e] at ai mn;obtain⟨k1,i,b,k2,k3,k4⟩:=ai;obtain⟨f1,f2,f3⟩:=hf (q / 2) λhq=>by have:=zf.1 mn (q / 2) hq;simp at this
   exact⟨by rw[f1];exact k1,i,b,by rw[f2];exact k2,by rw[f3 k1 i k2];exact k3,k4⟩
 have now:∀ Q:Heap->Prop,∀ r,E5 M' s'.own pl' Q r->Q M':=λQ r ai=>by
  unfold E5 at ai;split at ai
  .exact ai M' (.refl _)
  .obtain⟨_,i,b,_,h2,h3,_⟩:=ai;exact h3 M' h2
 refine⟨YQ λc hc hle=>?_,⟨by simp[h.len],λj U hj ht=>?_,λc hc=>?_,λj U q i ht hu cm hi=>?_⟩⟩
 .rw[h.len] at hle;rcases h.pend c hc with h1|⟨r,h1,h2,h3⟩
  .omega
  .exact now _ _ (hr _ r h1 (by omega) h3)
 .rcases Jy ht with⟨h1,_⟩|⟨_,h1⟩
  .rw[h.len] at h1;omega
  .exact h1
 .rcases h.pend c hc with h1|⟨r,h1,h2,h3⟩
  .exact .inl (by omega)
  .by_cases bj:hl<=r.1
   .exact .inr ⟨r,h1,h2,hr _ r h1 bj h3⟩
   .exact .inl (by omega)
 .rcases Jy ht with⟨h1,h2⟩|⟨_,rfl⟩
  .rw[h.len] at h1;obtain⟨hq,cy⟩:=B4 hu (by omega);obtain⟨f1,f2,f3⟩:=hf q hq;rw[f1] at cm;rw[f2] at hi;rw[f3 cm i hi];exact h.fr j U q i h2 cy cm hi
  .rfl
theorem TH {hl d j q:Nat}{A:List (Nat×Option Nat)}(h:Zc ((hl,none)::A) j q=true):Zc ([d].map (λt=>(hl,some t))++A) j q=true:=by simp only[Zc,zW,z6,zy,zC,or_false,zJ,List.map_nil,xB,xj] at h |-;exact⟨.inl h.1,h.2⟩
theorem DSt.frozen {hs:List Heap}{M:Heap}{pend:List (Nat×(Heap->Prop))}{hl chg m d:Nat}{A R:List (Nat×Option Nat)}{own:Own}{pl:Nat->Value}(h:DSt hs M pend hl chg ([d].map (λt=>(m,some t))++A) R own pl):DSt hs M pend hl chg ((m,none)::A) R own pl :=
 ⟨h.len,h.same,h.pend,λj U q i ht hu=>h.fr j U q i ht (TH hu)⟩
theorem Hx {ts:List Nat}{m j:Nat}{A:List (Nat×Option Nat)}(h:DL (ts.map (λt=>(m,some t))++A) j=true):DL A j=true:=by simp only[DL,List.all_append,z6] at h;exact h.2
theorem Pv {a:Nat×Option Nat}{j:Nat}{A:List (Nat×Option Nat)}(h:DL (a::A) j=true):DL A j=true:=by simp only[DL,zW,z6] at h;exact h.2
theorem Rl {C:Cx}{f:SV}{args:List SV}{cs:List Prop}{v:SV}(h:Fy C f args=some (cs,v)):∃ c ty k xs nl,VD C.cs f args=some (c,.lst 0,[.lst ty k xs nl])/\cs=[c,nl=true->xs=[]]/\v=.val (.list k) xs/\k.flat=true/\0<C.nt:=by
 unfold Fy at h;split at h
 .rename_i heq;split at h
  .rename_i k xs nl;cases hc:(k.flat&&Nat.blt 0 C.nt) with
   |false=>rw[hc] at h;cases h
   |true =>rw[hc] at h;obtain⟨rfl,rfl⟩:=QV h;simp only[z6,zL] at hc;exact⟨_,_,_,_,_,heq,rfl,rfl,hc.1,hc.2⟩
  .cases h
 .cases h
theorem LF {b:OB}(h:b.here=true):b.live=true:=by cases b<;>first|rfl|cases h
theorem YU {B F:Heap}{pl:Nat->Value}{tb:Nat->Option Bool}{s:St}{env:Env}{M:Heap}(hG:Gam P B F pl tb s env M) {o:VOp}{q:Nat}(h:NR o (gev [] s.env) s.own=some q) {u:Value}{M2:Heap}(hv:Q7 o (Q3 env) M=some (u,M2)) :
  (Q9 s.own (q / 2)).live=true/\∃ i b,Oid (pl (q / 2)) i/\M.get i=some b/\(∀ U,U.get i=some b->Q7 o (Q3 env) U=some (u,U))/\(q % 2=1->∃ es c wr,b=.obj (.map es c) wr/\∀ U bZ c',LkE es bZ->U.get i=some (.obj (.map bZ c') wr)->Q7 o (Q3 env) U=some (u,U)):=by
 have two:∀ q,2*q / 2=q:=λq=>by omega
 have oL:∀ q,(2*q+1) / 2=q:=λq=>by omega
 have odd:∀ {q} {X:Prop},2*q % 2=1->X:=λ{q X} h=>by omega
 unfold NR at h;split at h
 .rename_i agg size a;have ha:=hG.evs (Gds.nil (tb:=tb)) a;have key:∀ q i off,(Q9 s.own q).live=true->Oid (pl q) i->Q3 env a=.pointer (some ⟨i,off,none⟩)->(Q9 s.own q).live=true/\∃ i b,Oid (pl q) i/\M.get i=some b/\∀ U,U.get i=some b->Q7 (.load agg size a) (Q3 env) U=some (u,U):=λq i off hl hi he=>by
   simp only[Q7,he] at hv;cases hb:M.get i with
   |none=>rw[hb] at hv;cases hv
   |some b =>
    refine⟨hl,i,b,hi,hb,λU ht=>?_⟩;rw[hb] at hv;simp only[Q7,he,ht];cases b with
    |obj o wr=>cases hv
    |cells c e wr t =>
     simp only at hv |-;split at hv
     .obtain⟨rfl,rfl⟩:=QV hv;rfl
     .cases hv
  split at h
  .rename_i q' off hx;rw[hx] at ha;simp only[SR] at ha;obtain⟨b,h1,h2⟩:=ha;cases hh:(Q9 s.own q').here with
   |false=>rw[hh] at h;cases h
   |true =>rw[hh] at h;obtain rfl:=osj h;obtain⟨x1,y1,y2,y3,y4,y5⟩:=key q' b off (LF hh) (by rw[h1];rfl) h2;exact⟨by rw[two];exact x1,y1,y2,by rw[two];exact y3,y4,y5,odd⟩
  .rename_i q' i off sz hx;rw[hx] at ha;simp only[SR] at ha;obtain⟨b,len,cap,h1,h2,h3,h4⟩:=ha;cases hh:(Q9 s.own q').here with
   |false=>rw[hh] at h;cases h
   |true =>rw[hh] at h;obtain rfl:=osj h;obtain⟨x1,y1,y2,y3,y4,y5⟩:=key q' b _ (LF hh) (by rw[h1];rfl) h4;exact⟨by rw[two];exact x1,y1,y2,by rw[two];exact y3,y4,y5,odd⟩
  .cases h
 .rename_i mk z x y;cases a_:stP mk z with
  |false=>rw[a_] at h;cases h
  |true =>
   rw[a_] at h;simp only[zj] at h;obtain⟨rfl,rfl⟩:=Oa a_;split at h
   .rename_i q' hx;split at h
    .rename_i kk vk l ho;obtain rfl:=osj h;have ha:=hG.evs (Gds.nil (tb:=tb)) x;rw[hx] at ha;simp only[SR] at ha;have ao:=hG.obj q';rw[ho] at ao;obtain⟨id,es,c,h2,h3,_⟩:=ao;have aH:∀ (U:Heap) bZ c' wr,U.get id=some (.obj (.map bZ c') wr)->U.mapAt id=some (bZ,c',wr):=λU bZ c' wr hτ=>by simp[Heap.mapAt,hτ]
     simp only[Q7,Zg,ha.1,h2,aH _ _ _ _ h3] at hv;refine⟨by rw[oL,ho];rfl,id,_,by rw[oL,h2];rfl,h3,λU hτ=>?_,λ_=>⟨es,c,true,rfl,λU bZ c' hl hτ=>?_⟩⟩
     .simp only[Q7,Zg,ha.1,h2,aH _ _ _ _ hτ];split at hv
      .rename_i fU;split at hv
       .rename_i iz;rw[z7 fU,z7 iz];cases he:Qj (Q3 env y) es with
        |some e=>rw[he] at hv;obtain⟨rfl,rfl⟩:=QV hv;rfl
        |none=>rw[he] at hv;obtain⟨rfl,rfl⟩:=QV hv;rfl
       .cases hv
      .cases hv
     .simp only[Q7,Zg,ha.1,h2,aH _ _ _ _ hτ];split at hv
      .rename_i fU;split at hv
       .rename_i iz;rw[z7 fU,z7 (hl.1 iz)];have ck:=hl.2 iz _ fU;cases he:Qj (Q3 env y) es with
        |some e =>
         rw[he] at hv ck;obtain⟨rfl,rfl⟩:=QV hv;cases hm:Qj (Q3 env y) bZ with
         |some e'=>rw[hm] at ck;simp only[Q7c] at ck;simp[ck]
         |none=>rw[hm] at ck;simp only[Q7c] at ck;simp[<-ck]
        |none =>
         rw[he] at hv ck;obtain⟨rfl,rfl⟩:=QV hv;cases hm:Qj (Q3 env y) bZ with
         |some e'=>rw[hm] at ck;simp only[Q7c] at ck;simp[ck]
         |none=>rfl
       .cases hv
      .cases hv
    .cases h
   .cases h
 .rename_i sz x lo hi;split at h
  .rename_i q' hx;split at h
   .rename_i ty k xs nl ho;cases nl with
    |true=>cases h
    |false =>
     obtain rfl:=osj h;have ha:=hG.evs (Gds.nil (tb:=tb)) x;rw[hx] at ha;simp only[SR] at ha;have ao:=hG.obj q';rw[ho] at ao;rcases ao with⟨h0,_⟩|⟨_,i,cap,c,t,h3,h4,h5,h6,h7⟩
     .cases h0
     .refine⟨by rw[two,ho];rfl,i,_,by rw[two,h3];rfl,h5,λU hτ=>?_,odd⟩;simp only[Q7,ha.1,h3] at hv |-;cases e1:J8 (Q3 env) lo 0 with
      |none=>rw[e1] at hv;cases hv
      |some a =>
       cases e2:J8 (Q3 env) hi xs.length with
       |none=>rw[e1,e2] at hv;cases hv
       |some b =>
        rw[e1,e2] at hv;simp only[WU,h5] at hv;simp only[WU,hτ];split at hv
        .rename_i dB;rw[z7 dB];obtain⟨rfl,rfl⟩:=QV hv;rfl
        .cases hv
   .cases h
  .cases h
 .cases h
theorem MF {r:Nat}{M:Heap}:∀ {l:List (Nat×(Heap->Prop))},JX r M l->∀ {c},c∈l->r<=c.1->c.2 M
 |c::l,h,c',hc,hr=>by
  rcases zn.1 hc with rfl|hc
  .exact h.1 hr
  .exact MF h.2 hc hr
theorem Mz {B F:Heap}{pl:Nat->Value}{tb:Nat->Option Bool}{s:St}{env:Env}{M:Heap}(hG:Gam P B F pl tb s env M) {gs:List Gd}(hg:Gds tb gs) {o:VOp}(h:Q7p o (gev gs s.env)=true) {u:Value}{M2:Heap}(hv:Q7 o (Q3 env) M=some (u,M2)) :
  ∀ U,B.Le U->Q7 o (Q3 env) U=some (u,U):=by
 unfold Q7p at h;split at h
 .rename_i agg size a;have ha:=hG.evs hg a;have key:∀ i off,(∃ b,B.get i=some b)->Q3 env a=.pointer (some ⟨i,off,none⟩)->∀ U,B.Le U->Q7 (.load agg size a) (Q3 env) U=some (u,U):=λi off ⟨b,hb⟩ he U hτ=>by
   simp only[Q7,he,hG.leB.2 _ _ hb] at hv;simp only[Q7,he,hτ.2 _ _ hb];cases b with
   |obj o wr=>cases hv
   |cells c e wr t =>
    simp only at hv |-;split at hv
    .obtain⟨rfl,rfl⟩:=QV hv;rfl
    .cases hv
  split at h
  .rename_i k l i off hx;rw[hx] at ha;simp only[SR] at ha;obtain⟨b,o,c,e,wr,t,_,_,h3,h4,_⟩:=ha;exact key b _ ⟨_,h3⟩ h4
  .rename_i l off hx;rw[hx] at ha;simp only[SR] at ha;obtain⟨b,c,e,wr,t,h3,h4,_⟩:=ha;exact key b _ ⟨_,h3⟩ h4
  .cases h
 .cases h
theorem IC {C:Cx}{B F:Heap}{pl:Nat->Value}{tb:Nat->Option Bool}{s:St}{env:Env}{M:Heap}(hG:Gam P B F pl tb s env M) {d:Nat}{o:VOp}{K:SV->St->Prop}(h:gn C d o (gev [] s.env) s K) (hc:AH o=false) :
  ∃ u M' pl' v s',Q7 o (Q3 env) M=some (u,M')/\K v s'/\(Gam P B F pl' tb s' env M'/\Fr (QH d o (gev [] s.env)) s s' pl pl' M M')/\SR P B pl' tb v u /\
  (Rk o=true->(Q9 s'.own (QH d o (gev [] s.env))).live=true/\pl' (QH d o (gev [] s.env))=pl (QH d o (gev [] s.env))/\∃ i es c bZ c',pl (QH d o (gev [] s.env))=.map (some i)/\M.get i=some (.obj (.map es c) true)/\M'.get i=some (.obj (.map bZ c') true)/\LkE es bZ):=by
 cases he:Rk o with
 |false =>obtain⟨u,M',pl',v,s',h1,h2,h3,h4⟩:=Q8b hG h hc;exact⟨u,M',pl',v,s',h1,h2,h3,h4,λh=>by cases h⟩
 |true =>
  unfold Rk at he;split at he
  .rename_i mk z m kx;obtain⟨rfl,rfl⟩:=Oa he;obtain⟨u,M',v,s',T,kv,aW,i,es,c,rfl,h1,h2,h3,h4,h5,h6,h7,h8,h9,bT,gg⟩:=P7 (hG.evs (Gds.nil (tb:=tb))) hG h;refine⟨u,M',pl,v,s',h1,h2,h3,h4,λ_=>⟨h5,rfl,i,es,c,_,_,h6,h7,h8,?_⟩⟩;have:aW=Q7c (Qj kv es):=by rw[gg];cases Qj kv es<;>rfl
   rw[this];exact Ip h9
  .cases he
def Jl (S:VSpecs):List DOper->Env->List Heap->Heap->List (Nat×(Heap->Prop))->(Env->Heap->Prop)->Prop
 |[],env,_,M,_,K=>K env M
 |o::rest,env,hs,M,pend,K=>QX (Ja env o.guard) λb =>
   vif b (if o.kind=2 then Dq (λR=>vop S o.op env M R) λv M'=>JX hs.length M' pend/\Jl S rest (Xe env o.dst v) (hs++[M']) M' pend K
     else if o.kind=1 then QX (Q7 o.op (Q3 env) M) λp=>(∀ U∈hs.drop o.kmin,JW o.op (Q3 env) p.1 U) /\
      Jl S rest (Xe env o.dst p.1) hs M (if hs.length<=o.kmax then (o.kmax,JW o.op (Q3 env) p.1)::pend else pend) K
     else QX (Q7 o.op (Q3 env) M) λp=>Jl S rest (Xe env o.dst p.1) hs M pend K)
    (if o.kind=2 then JX hs.length M pend/\Jl S rest (Xe env o.dst undef) (hs++[M]) M pend K else Jl S rest (Xe env o.dst undef) hs M pend K)
theorem T0 {α:Type}{o:Option α}{f g:α->Prop}(h:QX o f) (uV:∀ a,f a->g a):QX o g:=by
 cases o with
 |none=>exact h.elim
 |some a=>exact uV a h
theorem Y5 {S:VSpecs}{K:Env->Heap->Prop}:∀ {ops:List DOper}{env:Env}{hs:List Heap}{M:Heap}{pend:List (Nat×(Heap->Prop))},Jl S ops env hs M pend K->Zq S ops env hs M pend K
 |[],_,_,_,_,h=>h
 |o::r,env,hs,M,pend,h=>by
  simp only[Jl] at h;simp only[Zq];refine T0 h λb h=>⟨λe=>?_,λe=>?_⟩
  .have h:=h.1 e;split at h
   .rename_i hk;rw[z7 hk];obtain⟨v,M',h1,h2,h3⟩:=h;exact .inl ⟨v,M',h1,h2,Y5 h3⟩
   .rename_i hk;rw[z8 hk];split at h
    .rename_i bt;rw[z7 bt];exact T0 h λp h=>⟨h.1,Y5 h.2⟩
    .rename_i bt;rw[z8 bt];exact T0 h λp h=>Y5 h
  .have h:=h.2 e;split at h
   .rename_i hk;rw[z7 hk];exact⟨h.1,Y5 h.2⟩
   .rename_i hk;rw[z8 hk];exact Y5 h
theorem Qq {C:Cx}(aB:COk P C) (br:C.xs=[]) {B0 F0 D0:Heap}:∀ (ops:List DOper),(∀ o∈ops,o.kind=o.op.kind)->∀ {s:St}{env:Env}{M:Heap}{B F:Heap}{pl:Nat->Value}{tb:Nat->Option Bool},GBase B0 F0 D0 B F M->Gam P B F pl tb s env M->∀ {hl chg:Nat}{A Rd:List (Nat×Option Nat)}{hs:List Heap}{pend pd:List (Nat×(Heap->Prop))},DSt hs M pd hl chg A Rd s.own pl->(∀ c∈pend,(∀ U,B.Le U->c.2 U)\/c∈pd)->(∀ j U,hs[j]?=some U->DL A j=true->B.Le U)->chg<=hl->0<hl ->
  ∀ {K:St->Prop},Xp C ops s hl chg A Rd K->∀ {R:Env->Heap->Prop},(∀ s' af M',K s'->GRel P B0 F0 D0 s' af M'->R af M')->Jl (Q2 P) ops env hs M pend R
 |[],_,s,env,M,B,F,pl,tb,hB,hG,_,_,_,_,_,_,_,_,_,_,_,_,K,h,R,hK=>hK s env M h ⟨B,F,pl,tb,hB,hG⟩
 |o0::r,fP,s,env,M,B,F,pl,tb,hB,hG,hl,chg,A,Rd,hs,pend,pd,hD,hp,b_,fg,aR,K,h,R,hK=>by
  have eY:∀ {n:Nat}{U:Heap},B.Le U->JX n U pd->JX n U pend:=λ{n U} hb hv=>YQ λc hc hn=>(hp c hc).elim (λh=>h U hb) λh=>MF hv h hn;have snoc:∀ {U:Heap}{A':List (Nat×Option Nat)},B.Le U->(∀ j,DL A' j=true->DL A j=true)->∀ j U',(hs++[U])[j]?=some U'->DL A' j=true->B.Le U':=λ{U A'} hb hA j U' hm hn=>by
   rcases Jy hm with⟨_,h1⟩|⟨_,rfl⟩
   .exact b_ j U' h1 (hA j hn)
   .exact hb
  have cu:∀ o∈r,o.kind=o.op.kind:=λo' fc=>fP o' (zi _ fc);have mq:=fP o0 zu;unfold Xp at h;split at h
  .rename_i a_;have hw:=Kg hG a_;simp only[Jl];rw[hw];refine⟨λe=>(by cases e),λ_=>?_⟩;have bh:=hG.put o0.dst (show SR P B pl tb .any undef by simp[SR]);by_cases av:o0.kind=2
   .rw[z7 av] at h |-;obtain⟨k1,k2⟩:=hD.stay;exact⟨eY hG.leB k1,Qq aB br r cu hB bh (by rw[Zb];exact k2) hp (snoc hG.leB λ_ h=>h) (by omega) (by omega) h hK⟩
   .rw[z8 av] at h |-;exact Qq aB br r cu hB bh (by rw[Zb];exact hD) hp b_ fg aR h hK
  have bR:(Ek s.env o0).kind=(Ek s.env o0).op.kind:=by unfold Ek;split<;>exact mq
  have dj:Jl (Q2 P) (Ek s.env o0::r) env hs M pend R->Jl (Q2 P) (o0::r) env hs M pend R:=λhv=>by
   unfold Ek at hv;split at hv
   .rename_i a_;simp only[Jl] at hv |-;rw[Kg hG a_];exact hv
   .exact hv
  refine dj ?_;clear dj;generalize Ek s.env o0=o at h bR |-
  replace h:=id h
  simp only[Jl];by_cases av:o.kind=2
  .rw[z7 av] at h
   have fin:∀ {u:Value}{M':Heap}{ts:List Nat}{v:SV}{s':St}{pl':Nat->Value},(∀ R',R' u M'->vop (Q2 P) o.op env M R')->Xp C r (s'.put o.dst v) (hl+1) (bif ts.isEmpty then chg else hl) (ts.map (λt=>(hl-1,some t))++A) (bif ts.isEmpty then Rd else Rd.map λr=>(r.1,none)) K->Gam P B F pl' tb s' env M'->SR P B pl' tb v u->(ts=[]->M'=M/\pl'=pl/\s'=s)->M.Le M'->Dead M M'->FrL ts s s' pl pl' M M' ->
     Dq (λR=>vop (Q2 P) o.op env M R) λv M'=>JX hs.length M' pend/\Jl (Q2 P) r (Xe env o.dst v) (hs++[M']) M' pend R:=λ{u M' ts v s' pl'} bJ oM bm iC he hle hd cU=>by
    cases ts with
    |nil =>obtain⟨rfl,rfl,rfl⟩:=he rfl;obtain⟨k1,k2⟩:=hD.stay;exact⟨u,M',bJ _ ⟨rfl,rfl⟩,eY bm.leB k1,Qq aB br r cu (Gl hB hd) (bm.put o.dst iC) (by rw[Zb];exact k2) hp (snoc bm.leB λ_ h=>h) (by simp only[List.isEmpty,zj] at *;omega) (by omega) oM hK⟩
    |cons t ts =>obtain⟨k1,k2⟩:=hD.call hle cU aR;exact⟨u,M',bJ _ ⟨rfl,rfl⟩,eY bm.leB k1,Qq aB br r cu (Gl hB hd) (bm.put o.dst iC) (by rw[Zb];exact k2) hp (snoc bm.leB λ_ h=>Hx h) (by simp only[List.isEmpty,zS] at *;omega) (by omega) oM hK⟩
   split at h
   .rename_i f args bJ;split at h
    .rename_i hg;rw[hg];refine⟨λ_=>?_,λe=>by cases e⟩;rw[z7 av];rw[br] at h;simp only[Qs] at h;obtain⟨g,a,b,u,M',e,v,s',pl',h1,h2,h3,h4,h5,h6,h7,h8,h9⟩:=X_ aB hG h (show SR P M Jo Zf (.fn f [] []) (.func (.func f) #[] #[]) by simp only[SR,SRs];exact⟨[],[],rfl,rfl,rfl⟩) (hG.gcall Gds.nil args);obtain⟨rfl,rfl,rfl⟩:=(by simpa using h1:f=g/\#[]=a/\#[]=b);refine fin (u:=u) (M':=M') (λR' hr=>?_) h3 h4 h5 h6 h7 h8 h9;rw[bJ];show VCalled P f (args.map (Q3 env)) M R';have:=h2.mono (R':=R') λu' aE ⟨e1,e2⟩=>by subst e1;subst e2;exact hr
     simpa using this
    .rename_i j want hg;rw[hg];split at h
     .exact h.elim
     .rename_i gs s1 en;obtain⟨tb',bm,cY,b,hw,bz,cw⟩:=XY hG en;have aJ:=Ka en;rw[hw];split at h
      .rename_i cs v dN;cases cN:VB v with
       |false=>rw[cN] at h;exact h.elim
       |true =>
       rw[cN] at h;simp only[zj] at h;obtain⟨h1,h2⟩:=Zm h;obtain⟨k1,k2⟩:=hD.stay;have mi:∀ x,DSt (hs++[M]) M pd (hl+1) chg A Rd (s1.put o.dst x).own pl:=λx=>by rw[Zb,aJ];exact k2
       refine⟨λe=>?_,λe=>?_⟩
       .rw[z7 av];have gY:Gds tb' gs:=λg hg=>⟨bz e g hg,cY g hg⟩;have mr:∀ {v u},SR P B pl tb' v u->SR P B pl tb' (.grd gs (DF v)) u:=λ{v u} hs=>by
         simp only[SR];obtain⟨h1,h2⟩:=Hu hs;exact⟨⟨cY,h2⟩,λ_=>h1,λ⟨g,hg,az⟩=>absurd (bz e g hg) az⟩
        simp only[gqc] at dN;split at dN
        .rename_i c v' heq;cases bW:v'.ret 0 with
         |false=>rw[bW] at dN;cases dN
         |true =>
          rw[bW] at dN;obtain⟨rfl,rfl⟩:=QV dN;obtain⟨g,a,b',h3,h4,_⟩:=ZM aB.cs (show SR P M Jo Zf (.fn f [] []) (.func (.func f) #[] #[]) by simp only[SR,SRs];exact⟨[],[],rfl,rfl,rfl⟩) (bm.gcall gY args) heq bW rfl (h2 (bz e) _ (by simp));obtain⟨rfl,rfl,rfl⟩:=(by simpa using h3:f=g/\#[]=a/\#[]=b');refine⟨VG Jo v',M,?_,eY hG.leB k1,Qq aB br r cu hB (bm.put o.dst (mr ?_)) (mi _) hp (snoc hG.leB λ_ h=>h) (by omega) (by omega) (Zk h1) hK⟩
          .rw[bJ];show VCalled P f (args.map (Q3 env)) M _;have:=h4.mono (R':=λu M'=>u=VG Jo v'/\M'=M) λu M' hr=>by
            obtain⟨rfl,hu⟩:=hr.flat bW;exact⟨Ud v' u bW cN hu,rfl⟩
           simpa using this
          .exact SR.retd (λj hj=>by omega) _ _ bW (Rs (P:=P) (pl:=Jo) (m:=0) (λj hj=>by omega) v' bW cN)
        .cases dN
       .rw[z7 av];obtain⟨g,dS,az⟩:=cw e;exact⟨eY hG.leB k1,Qq aB br r cu hB (bm.put o.dst (by simp only[SR];exact⟨⟨cY,HC v⟩,λae=>absurd (ae g dS) az,λ_=>trivial⟩)) (mi _) hp (snoc hG.leB λ_ h=>h) (by omega) (by omega) (Zk h1) hK⟩
      .split at h
       .rename_i cs v lB;obtain⟨c,ty,k,xs,nl,heq,rfl,rfl,hk,dw⟩:=Rl lB;obtain⟨h1,h2⟩:=Zm h;have frz:∀ {B' M':Heap},B'.Le M'->∀ j U',(hs++[M'])[j]?=some U'->DL ((hl-1,none)::A) j=true->B'.Le U':=λ{B' M'} hb j U' hm hn=>by
         rcases Jy hm with⟨h1,_⟩|⟨_,rfl⟩
         .simp only[DL,zW,z6,zy,zL,Option.isSome_none,zC,or_false] at hn;have:=hD.len;omega
         .exact hb
        refine⟨λe=>?_,λe=>?_⟩
        .rw[z7 av];have gY:Gds tb' gs:=λg hg=>⟨bz e g hg,cY g hg⟩;have fU:=h2 (bz e) c (by simp);have iz:=h2 (bz e) (nl=true->xs=[]) (by simp);have en:Gh C (C.off+o.dst.getD 0) (.fn f [] []) (BM s1.own (args.map (gev gs s1.env))) s1 (λts v' s'=>ts=[C.off+o.dst.getD 0]/\v'=.lst (C.off+o.dst.getD 0)/\s'=s1.make (C.off+o.dst.getD 0) (.lst ty k xs nl)):=by
          unfold Gh;rw[heq];dsimp only;have ak:(SV.ret [OB.lst ty k xs nl].length (.lst 0)&&([OB.lst ty k xs nl].all OB.ret&&(Nat.blt 0 C.nt&&([OB.lst ty k xs nl].all OB.isL&&VB (.lst 0)))))=true:=by simp only[SV.ret,xr,zW,List.all_nil,xO,OB.ret,hk,Bool.true_and,OB.isL,VB];rw[z6];exact⟨rfl,by rw[zL];exact dw⟩
          rw[ak];simp only[zj,O1,OB.wf];refine⟨fU,iz,?_,?_,?_⟩
          .simp[List.range_succ]
          .simp[SV.ren]
          .simp[St.makes]
         obtain⟨g,a,b',u,M',ts,v',s',pl',h3,h4,⟨rfl,rfl,rfl⟩,h5,h6,_,h7,h8,h9⟩:=X_ aB bm en (show SR P M Jo Zf (.fn f [] []) (.func (.func f) #[] #[]) by simp only[SR,SRs];exact⟨[],[],rfl,rfl,rfl⟩) (bm.gcall gY args);obtain⟨rfl,rfl,rfl⟩:=(by simpa using h3:f=g/\#[]=a/\#[]=b');obtain⟨B',F',m1,m2,m3⟩:=RB bm.bf hk h5 h6 h8;have cU:FrL [C.off+o.dst.getD 0] s ((s1.make (C.off+o.dst.getD 0) .dead).put o.dst (.grd gs (.val (.list k) xs))) pl pl' M M':=λq hq=>by obtain⟨f1,f2,f3⟩:=h9 q hq;rw[aJ] at f3;refine⟨?_,f2,f3⟩;rw[Zb,VW _ _ _ (by simpa using hq),aJ]
         obtain⟨k1,k2⟩:=hD.call h7 cU aR;refine⟨u,M',?_,eY (m1.b.trans m2.leB) k1,Qq aB br r cu (hB.trans m1) (m2.put o.dst ?_) k2.frozen (λc hc=>(hp c hc).imp (λh U hτ=>h U (m1.b.trans hτ)) id) (frz m2.leB) (by omega) (by omega) h1 hK⟩
         .rw[bJ];show VCalled P f (args.map (Q3 env)) M _;simpa using h4
         .simp only[SR];exact⟨⟨cY,trivial⟩,λ_=>m3,λ⟨g,hg,az⟩=>absurd (bz e g hg) az⟩
        .rw[z7 av];obtain⟨g,dS,az⟩:=cw e;have cU:FrL [C.off+o.dst.getD 0] s ((s1.make (C.off+o.dst.getD 0) .dead).put o.dst (.grd gs (.val (.list k) xs))) pl (Jm pl (C.off+o.dst.getD 0) undef) M M:=λq hq=>by
          have cO:q≠C.off+o.dst.getD 0:=by simpa using hq
          refine⟨?_,by simp[Jm,cO],λ_ _ _=>rfl⟩;rw[Zb,VW _ _ _ cO,aJ]
         obtain⟨k1,k2⟩:=hD.call (.refl M) cU aR;refine⟨eY hG.leB k1,Qq aB br r cu hB ((bm.make (C.off+o.dst.getD 0) .dead undef bm.le (λ_ _ _ _ _=>rfl) trivial (λi hl _=>by cases hl)).put o.dst ?_) k2.frozen hp (frz hG.leB) (by omega) (by omega) h1 hK⟩;simp only[SR];exact⟨⟨cY,trivial⟩,λae=>absurd (ae g dS) az,λ_=>trivial⟩
       .exact h.elim
   .rename_i f args bJ;split at h
    .rename_i hg;rw[hg];refine⟨λ_=>?_,λe=>by cases e⟩;rw[z7 av];obtain⟨g,a,b,u,M',e,v,s',pl',h1,h2,h3,h4,h5,h6,h7,h8,h9⟩:=X_ aB hG h (hG.gfun Gds.nil f) (hG.gcall Gds.nil args);refine fin (u:=u) (M':=M') (λR' hr=>?_) h3 h4 h5 h6 h7 h8 h9;rw[bJ];exact M0 h1 (h2.mono (R':=R') λu' aE ⟨e1,e2⟩=>by subst e1;subst e2;exact hr)
    .exact h.elim
   .exact h.elim
   .exact h.elim
   .rename_i qZ nQ q_ iD;split at h
    .rename_i hg;rw[hg];refine⟨λ_=>?_,λe=>by cases e⟩;rw[z7 av];have aG:AH o.op=false:=by
      cases ho:o.op<;>first|rfl|(exact absurd ho (qZ _ _))|(exact absurd ho (nQ _ _))|skip
      case ext x=>cases x<;>first|rfl|(exact absurd ho (q_ _))|(exact absurd ho (iD _))
     cases lA:SU C (o.dst.getD 0) o.op (gev [] s.env) with
     |true =>
      rw[lA] at h;simp only[zj] at h;cases hm:AZ (P3 o.op) Rd hl (SG (C.off+o.dst.getD 0) o.op (gev [] s.env)) with
      |false=>rw[hm] at h;exact h.elim
      |true =>
       rw[hm] at h;simp only[zj] at h;obtain⟨u,M',pl',v,s',h1,h2,⟨h3,ly⟩,h4⟩:=HI (λx=>hG.evs (Gds.nil (tb:=tb)) x) hG h;have gM:∀ R',R' u M'->vop (Q2 P) o.op env M R':=λR' hr=>by
        have:vop (Q2 P) o.op env M R'=QX (Q7 o.op (Q3 env) M) λp=>R' p.1 p.2:=by
         cases ho:o.op with
         |callF f a=>rw[ho] at aG;cases aG
         |callV f a=>rw[ho] at aG;cases aG
         |ext x =>
          cases x with
          |nextMap y=>rw[ho] at h1;cases h1
          |_=>rfl
         |_=>rfl
        rw[this,h1];exact hr
       obtain⟨k1,k2⟩:=hD.writeD ly (λcD=>Sr cD h1) hm aR;exact⟨u,M',gM _ ⟨rfl,rfl⟩,eY h3.leB k1,Qq aB br r cu (Gl hB (Km h1)) (h3.put o.dst h4) (by rw[Zb];exact k2) hp (snoc h3.leB λ_ h=>Hx h) (by omega) (by omega) h2 hK⟩
     |false =>
     rw[lA] at h;simp only[zS] at h;cases hm:((P3 o.op&&SK Rd hl (QH (C.off+o.dst.getD 0) o.op (gev [] s.env)))||R2 Rd hl (QH (C.off+o.dst.getD 0) o.op (gev [] s.env))||(Rk o.op&&Q7f Rd hl (QH (C.off+o.dst.getD 0) o.op (gev [] s.env)))) with
     |false=>rw[hm] at h;exact h.elim
     |true =>
      rw[hm] at h;simp only[zj] at h;obtain⟨u,M',pl',v,s',h1,h2,⟨h3,ly⟩,h4,hE⟩:=IC hG h aG;have gM:∀ R',R' u M'->vop (Q2 P) o.op env M R':=λR' hr=>by
       have:vop (Q2 P) o.op env M R'=QX (Q7 o.op (Q3 env) M) λp=>R' p.1 p.2:=by
        cases ho:o.op with
        |callF f a=>rw[ho] at aG;cases aG
        |callV f a=>rw[ho] at aG;cases aG
        |ext x =>
         cases x with
         |nextMap y=>rw[ho] at h1;cases h1
         |_=>rfl
        |_=>rfl
       rw[this,h1];exact hr
      obtain⟨k1,k2⟩:=hD.write ly (λcD=>Sr cD h1) hE hm aR;exact⟨u,M',gM _ ⟨rfl,rfl⟩,eY h3.leB k1,Qq aB br r cu (Gl hB (Km h1)) (h3.put o.dst h4) (by rw[Zb];exact k2) hp (snoc h3.leB λ_ h=>Pv h) (by omega) (by omega) h2 hK⟩
    .exact h.elim
  .rw[z8 av] at h;have mu:o.op.kind≠2:=by rw[<-bR];exact av
   by_cases bt:o.kind=1
   .rw[z7 bt] at h
    have rd:∀ (rq:Option Nat),(∀ q,rq=some q->NR o.op (gev [] s.env) s.own=some q)->(Nat.ble chg o.kmin||PT A o.kmin rq)=true->gd1 C o s (λs'=>Xp C r s' hl chg A ((o.kmax,rq)::Rd) K) ->
      QX (Ja env o.guard) λb=>vif b (if o.kind=2 then Dq (λR=>vop (Q2 P) o.op env M R) λv M'=>JX hs.length M' pend/\Jl (Q2 P) r (Xe env o.dst v) (hs++[M']) M' pend R
       else if o.kind=1 then QX (Q7 o.op (Q3 env) M) λp=>(∀ U∈hs.drop o.kmin,JW o.op (Q3 env) p.1 U) /\
        Jl (Q2 P) r (Xe env o.dst p.1) hs M (if hs.length<=o.kmax then (o.kmax,JW o.op (Q3 env) p.1)::pend else pend) R
       else QX (Q7 o.op (Q3 env) M) λp=>Jl (Q2 P) r (Xe env o.dst p.1) hs M pend R)
      (if o.kind=2 then JX hs.length M pend/\Jl (Q2 P) r (Xe env o.dst undef) (hs++[M]) M pend R else Jl (Q2 P) r (Xe env o.dst undef) hs M pend R):=λrq oN hc h=>by
     obtain⟨b,hw,h1,h2⟩:=VU hG h;rw[hw];have mw:DSt hs M pd hl chg A ((o.kmax,rq)::Rd) s.own pl:=⟨hD.len,hD.same,λc hc=>(hD.pend c hc).imp id λ⟨r,k1,k2⟩=>⟨r,zi _ k1,k2⟩,hD.fr⟩;refine⟨λe=>?_,λe=>?_⟩
     .obtain⟨u,s',tb',h3,h4,aJ,h5⟩:=h1 e;rw[z8 av,z7 bt,h3];refine⟨λU hτ=>?_,?_⟩
      .obtain⟨j,hj⟩:=xl.1 hτ;rw[zz] at hj;rw[zy] at hc;rcases hc with hc|hc
       .have:=hD.same (o.kmin+j) U (by have:=zG hc;omega) hj;subst this;exact ZT h3
       .unfold PT at hc;split at hc
        .rename_i q;obtain⟨k1,i,bl,k2,k3,k4,k5⟩:=YU hG (oN q rfl) h3;have hu:Zc A (o.kmin+j) (q / 2)=true:=by
          simp only[Zc,zf,zy,zL] at hc |-;exactλa ha=>(hc a ha).imp (λh=>by omega) id
         have:=hD.fr (o.kmin+j) U (q / 2) i hj hu k1 k2;exact ZT (k4 U (by rw[this];exact k3))
        .cases hc
      .by_cases hle:hs.length<=o.kmax
       .rw[z7 hle];refine Qq aB br r cu hB h5 (A:=A) (Rd:=(o.kmax,rq)::Rd) (hl:=hl) (chg:=chg) (pd:=(o.kmax,JW o.op (Q3 env) u)::pd) ?_ (λc hc=>?_) b_ fg aR h4 hK
        .rw[aJ];refine⟨hD.len,hD.same,λc hc=>?_,hD.fr⟩;rcases zn.1 hc with rfl|hc
         .refine .inr ⟨_,zu,ze _,?_⟩;cases rq with
          |none=>exactλU hτ=>ZT (HL mu h3 hτ)
          |some q =>obtain⟨k1,i,bl,k2,k3,k4,k5⟩:=YU hG (oN q rfl) h3;exact⟨k1,i,bl,k2,k3,λU ht=>ZT (k4 U ht),λho=>(let ⟨es,c,wr,x1,x2⟩:=k5 ho;⟨es,c,wr,x1,λU bZ c' hl ht=>ZT (x2 U bZ c' hl ht)⟩)⟩
         .exact mw.pend c hc
        .rcases zn.1 hc with rfl|hc
         .exact .inr zu
         .exact(hp c hc).imp id λh=>zi _ h
       .rw[z8 hle];exact Qq aB br r cu hB h5 (A:=A) (Rd:=(o.kmax,rq)::Rd) (hl:=hl) (chg:=chg) (pd:=pd) (by rw[aJ];exact mw) hp b_ fg aR h4 hK
     .obtain⟨s',tb',h4,aJ,h5⟩:=h2 e;rw[z8 av];exact Qq aB br r cu hB h5 (by rw[aJ];exact mw) hp b_ fg aR h4 hK
    have ro:DL A o.kmin=true->(∀ u,Q7 o.op (Q3 env) M=some (u,M)->(Ja env o.guard=some true)->∀ U,B.Le U->Q7 o.op (Q3 env) U=some (u,U))->gd1 C o s (λs'=>Xp C r s' hl chg A Rd K) ->
      QX (Ja env o.guard) λb=>vif b (if o.kind=2 then Dq (λR=>vop (Q2 P) o.op env M R) λv M'=>JX hs.length M' pend/\Jl (Q2 P) r (Xe env o.dst v) (hs++[M']) M' pend R
       else if o.kind=1 then QX (Q7 o.op (Q3 env) M) λp=>(∀ U∈hs.drop o.kmin,JW o.op (Q3 env) p.1 U) /\
        Jl (Q2 P) r (Xe env o.dst p.1) hs M (if hs.length<=o.kmax then (o.kmax,JW o.op (Q3 env) p.1)::pend else pend) R
       else QX (Q7 o.op (Q3 env) M) λp=>Jl (Q2 P) r (Xe env o.dst p.1) hs M pend R)
      (if o.kind=2 then JX hs.length M pend/\Jl (Q2 P) r (Xe env o.dst undef) (hs++[M]) M pend R else Jl (Q2 P) r (Xe env o.dst undef) hs M pend R):=λkp bO h=>by
     obtain⟨b,hw,h1,h2⟩:=VU hG h;rw[hw];refine⟨λe=>?_,λe=>?_⟩
     .obtain⟨u,s',tb',h3,h4,aJ,h5⟩:=h1 e;have bO:=bO u h3 (by rw[hw,e]);rw[z8 av,z7 bt,h3];refine⟨λU hτ=>?_,?_⟩
      .obtain⟨j,hj⟩:=xl.1 hτ;rw[zz] at hj;refine ZT (bO U (b_ _ U hj ?_));simp only[DL,zf,zy,zL] at kp |-;exactλa ha=>(kp a ha).imp (λh=>by omega) id
      refine Qq aB br r cu hB h5 (A:=A) (Rd:=Rd) (hl:=hl) (chg:=chg) (pd:=pd) (by rw[aJ];exact hD) (λc hc=>?_) b_ fg aR h4 hK;split at hc
      .rcases zn.1 hc with rfl|hc
       .exact .inl λU hτ=>ZT (bO U hτ)
       .exact hp c hc
      .exact hp c hc
     .obtain⟨s',tb',h4,aJ,h5⟩:=h2 e;rw[z8 av];exact Qq aB br r cu hB h5 (by rw[aJ];exact hD) hp b_ fg aR h4 hK
    split at h
    .rename_i hg;cases hr:(Q7p o.op (gev [] s.env)&&DL A o.kmin) with
     |true =>rw[hr] at h;rw[z6] at hr;exact ro hr.2 (λu hu _=>Mz hG Gds.nil hr.1 hu) h
     |false =>
     rw[hr] at h;simp only[zS] at h;cases hb:(Nat.ble chg o.kmin||PT A o.kmin (NR o.op (gev [] s.env) s.own)) with
     |false=>rw[hb] at h;exact h.elim
     |true =>rw[hb] at h;exact rd _ (λq hq=>hq) hb h
    .rename_i j want hg;cases hr:(IM s j want o.op&&DL A o.kmin) with
     |true =>
      rw[hr] at h;rw[z6] at hr;obtain⟨hr,kp⟩:=hr;refine ro kp (λu hu hw=>?_) h;unfold IM at hr;split at hr
      .rename_i gs s1 en;obtain⟨tb',bm,cY,b,dq,bz,cw⟩:=XY hG en;rw[hg,dq] at hw;have e:=osj hw;exact Mz bm (λg hg=>⟨bz e g hg,cY g hg⟩) hr hu
      .cases hr
     |false =>
     rw[hr] at h;simp only[zS] at h;cases hb:Nat.ble chg o.kmin with
     |false=>rw[hb] at h;exact h.elim
     |true =>rw[hb] at h;exact rd none (λq hq=>by cases hq) (by rw[hb];rfl) h
   .rw[z8 bt] at h;obtain⟨b,hw,h1,h2⟩:=VU hG h;rw[hw];refine⟨λe=>?_,λe=>?_⟩
    .obtain⟨u,s',tb',h3,h4,aJ,h5⟩:=h1 e;rw[z8 av,z8 bt,h3];exact Qq aB br r cu hB h5 (by rw[aJ];exact hD) hp b_ fg aR h4 hK
    .obtain⟨s',tb',h4,aJ,h5⟩:=h2 e;rw[z8 av];exact Qq aB br r cu hB h5 (by rw[aJ];exact hD) hp b_ fg aR h4 hK
theorem Qr {C:Cx}(aB:COk P C) {B0 F0 D0:Heap}:∀ (ops:List DOper),(∀ o∈ops,o.kind=o.op.kind)->∀ {s:St}{env:Env}{M:Heap}{B F:Heap}{pl:Nat->Value}{tb:Nat->Option Bool},GBase B0 F0 D0 B F M->Gam P B F pl tb s env M->∀ {hl chg:Nat}{A Rd:List (Nat×Option Nat)}{hs:List Heap}{pend pd:List (Nat×(Heap->Prop))},DSt hs M pd hl chg A Rd s.own pl->(∀ c∈pend,(∀ U,B.Le U->c.2 U)\/c∈pd)->(∀ j U,hs[j]?=some U->DL A j=true->B.Le U)->chg<=hl->0<hl ->
  ∀ {K:St->Prop},Xp C ops s hl chg A Rd K->∀ {R:Env->Heap->Prop},(∀ s' af M',K s'->GRel P B0 F0 D0 s' af M'->R af M')->Zq (Q2 P) ops env hs M pend R
 |[],_,s,env,M,B,F,pl,tb,hB,hG,_,_,_,_,_,_,_,_,_,_,_,_,K,h,R,hK=>hK s env M h ⟨B,F,pl,tb,hB,hG⟩
 |o0::r,fP,s,env,M,B,F,pl,tb,hB,hG,hl,chg,A,Rd,hs,pend,pd,hD,hp,b_,fg,aR,K,h,R,hK=>by
  have eY:∀ {n:Nat}{U:Heap},B.Le U->JX n U pd->JX n U pend:=λ{n U} hb hv=>YQ λc hc hn=>(hp c hc).elim (λh=>h U hb) λh=>MF hv h hn;have snoc:∀ {U:Heap}{A':List (Nat×Option Nat)},B.Le U->(∀ j,DL A' j=true->DL A j=true)->∀ j U',(hs++[U])[j]?=some U'->DL A' j=true->B.Le U':=λ{U A'} hb hA j U' hm hn=>by
   rcases Jy hm with⟨_,h1⟩|⟨_,rfl⟩
   .exact b_ j U' h1 (hA j hn)
   .exact hb
  have cu:∀ o∈r,o.kind=o.op.kind:=λo' fc=>fP o' (zi _ fc);have mq:=fP o0 zu;unfold Xp at h;split at h
  .rename_i a_;have hw:=Kg hG a_;simp only[Zq];rw[hw];refine⟨λe=>(by cases e),λ_=>?_⟩;have bh:=hG.put o0.dst (show SR P B pl tb .any undef by simp[SR]);by_cases av:o0.kind=2
   .rw[z7 av] at h |-;obtain⟨k1,k2⟩:=hD.stay;exact⟨eY hG.leB k1,Qr aB r cu hB bh (by rw[Zb];exact k2) hp (snoc hG.leB λ_ h=>h) (by omega) (by omega) h hK⟩
   .rw[z8 av] at h |-;exact Qr aB r cu hB bh (by rw[Zb];exact hD) hp b_ fg aR h hK
  have bR:(Ek s.env o0).kind=(Ek s.env o0).op.kind:=by unfold Ek;split<;>exact mq
  have dj:Zq (Q2 P) (Ek s.env o0::r) env hs M pend R->Zq (Q2 P) (o0::r) env hs M pend R:=λhv=>by
   unfold Ek at hv;split at hv
   .rename_i a_;simp only[Zq] at hv |-;rw[Kg hG a_];exact hv
   .exact hv
  refine dj ?_;clear dj;generalize Ek s.env o0=o at h bR |-
  replace h:=id h
  simp only[Zq];by_cases av:o.kind=2
  .rw[z7 av] at h
   have fin:∀ {u:Value}{M':Heap}{ts:List Nat}{v:SV}{s':St}{pl':Nat->Value},(∀ R',R' u M'->vop (Q2 P) o.op env M R')->Xp C r (s'.put o.dst v) (hl+1) (bif ts.isEmpty then chg else hl) (ts.map (λt=>(hl-1,some t))++A) (bif ts.isEmpty then Rd else Rd.map λr=>(r.1,none)) K->Gam P B F pl' tb s' env M'->SR P B pl' tb v u->(ts=[]->M'=M/\pl'=pl/\s'=s)->M.Le M'->Dead M M'->FrL ts s s' pl pl' M M' ->
     Dq (λR=>vop (Q2 P) o.op env M R) λv M'=>JX hs.length M' pend/\Zq (Q2 P) r (Xe env o.dst v) (hs++[M']) M' pend R:=λ{u M' ts v s' pl'} bJ oM bm iC he hle hd cU=>by
    cases ts with
    |nil =>obtain⟨rfl,rfl,rfl⟩:=he rfl;obtain⟨k1,k2⟩:=hD.stay;exact⟨u,M',bJ _ ⟨rfl,rfl⟩,eY bm.leB k1,Qr aB r cu (Gl hB hd) (bm.put o.dst iC) (by rw[Zb];exact k2) hp (snoc bm.leB λ_ h=>h) (by simp only[List.isEmpty,zj] at *;omega) (by omega) oM hK⟩
    |cons t ts =>obtain⟨k1,k2⟩:=hD.call hle cU aR;exact⟨u,M',bJ _ ⟨rfl,rfl⟩,eY bm.leB k1,Qr aB r cu (Gl hB hd) (bm.put o.dst iC) (by rw[Zb];exact k2) hp (snoc bm.leB λ_ h=>Hx h) (by simp only[List.isEmpty,zS] at *;omega) (by omega) oM hK⟩
   split at h
   .rename_i f args bJ;split at h
    .rename_i hg;rw[hg];refine⟨λ_=>?_,λe=>by cases e⟩;rw[z7 av]
     have oO:∀ {K':List Nat->SV->St->Prop},Gh C (C.off+o.dst.getD 0) (.fn f [] []) (BM s.own (args.map (gev [] s.env))) s K'->(∀ ts v s',K' ts v s'->Xp C r (s'.put o.dst v) (hl+1) (bif ts.isEmpty then chg else hl) (ts.map (λt=>(hl-1,some t))++A) (bif ts.isEmpty then Rd else Rd.map λr=>(r.1,none)) K) ->
       Dq (λR=>vop (Q2 P) o.op env M R) λv M'=>JX hs.length M' pend/\Zq (Q2 P) r (Xe env o.dst v) (hs++[M']) M' pend R:=λ{K'} h ra=>by
      obtain⟨g,a,b,u,M',e,v,s',pl',h1,h2,h3,h4,h5,h6,h7,h8,h9⟩:=X_ aB hG h (show SR P M Jo Zf (.fn f [] []) (.func (.func f) #[] #[]) by simp only[SR,SRs];exact⟨[],[],rfl,rfl,rfl⟩) (hG.gcall Gds.nil args);obtain⟨rfl,rfl,rfl⟩:=(by simpa using h1:f=g/\#[]=a/\#[]=b);refine fin (u:=u) (M':=M') (λR' hr=>?_) (ra _ _ _ h3) h4 h5 h6 h7 h8 h9;rw[bJ];show VCalled P f (args.map (Q3 env)) M R';have:=h2.mono (R':=R') λu' aE ⟨e1,e2⟩=>by subst e1;subst e2;exact hr
      simpa using this
     split at h
     .rename_i x hx;split at h
      .rename_i jf uW;split at h
       .rename_i tt uX;cases h_:(waits o.dst.toList r&&AZ false Rd hl [tt]) with
        |false=>rw[h_] at h;exact h.elim
        |true =>rw[h_] at h;simp only[zj] at h;rw[z6] at h_;refine .inr ⟨h_.1,?_⟩;rw[bJ];show VCalled P f (args.map (Q3 env)) M _;refine aB.xf f jf uW x hx B F pl tb s env M _ _ _ _ _ tt hG (SRs.map λx _=>hG.evs Gds.nil x) uX h λv s' u M' k1 k2 k3 k4 k5=>?_;obtain⟨q1,q2⟩:=hD.writeD k5 (mk:=false) (λh=>by cases h) h_.2 aR;exact⟨eY k3.leB q1,Qr aB r cu (Gl hB k2) (k3.put o.dst k4) (by rw[Zb];exact q2) hp (snoc k3.leB λ_ h=>Pv h) (by omega) (by omega) k1 hK⟩
       .exact h.elim
      .cases h_:(waits o.dst.toList r&&Rd.all (λq=>Nat.blt q.1 hl)) with
       |false=>rw[h_] at h;simp only[zS] at h;exact .inl (oO h λ_ _ _ h=>h)
       |true =>
        rw[h_] at h;simp only[zj] at h;rw[z6] at h_;refine .inr ⟨h_.1,?_⟩;rw[bJ];show VCalled P f (args.map (Q3 env)) M _;have ax:∀ args:List Operand,SRs P B pl tb (args.map (gev [] s.env)) (args.map (Q3 env)):=λargs=>SRs.map λx _=>hG.evs Gds.nil x;refine aB.xs f x hx B F pl tb s env M _ _ _ _ _ hG (ax args) h λv s' B' F' pl' tb' u M' k1 k2 k3 k4=>?_;have ae:∀ c∈pd,c.1<hl:=λc hc=>by
         rcases hD.pend c hc with h1|⟨q,h1,h2,_⟩
         .exact h1
         .have:=zf.1 h_.2 q h1;rw[zL] at this;omega
        have k_:JX hs.length M' pd:=YQ λc hc hle=>by have:=ae c hc;have:=hD.len;omega
        have rb:JX hs.length M' pend:=YQ λc hc hn=>(hp c hc).elim (λh=>h M' (k2.b.trans k3.leB)) λh=>MF k_ h hn;refine⟨rb,Qr aB r cu (hB.trans k2) (k3.put o.dst k4) (pd:=pd) ⟨by simp[hD.len],λj U hj ht=>?_,λc hc=>.inl (by have:=ae c hc;omega),λj U q i ht hu cm hi=>?_⟩ (λc hc=>(hp c hc).imp (λh U hτ=>h U (k2.b.trans hτ)) id) (λj U ht hn=>?_) (by omega) (by omega) k1 hK⟩
        .rcases Jy ht with⟨h1,_⟩|⟨_,h1⟩
         .rw[hD.len] at h1;omega
         .exact h1
        .rcases Jy ht with⟨h1,_⟩|⟨_,h1⟩
         .exfalso;rw[hD.len] at h1;simp only[Zc,zW,z6,zy,zL,zC,or_false] at hu;omega
         .rw[h1]
        .rcases Jy ht with⟨h1,_⟩|⟨_,h1⟩
         .exfalso;rw[hD.len] at h1;simp only[DL,zW,z6,zy,zL,Option.isSome_none,zC,or_false] at hn;omega
         .rw[h1];exact k3.leB
     .exact .inl (oO h λ_ _ _ h=>h)
    .rename_i j want hg;rw[hg];split at h
     .exact h.elim
     .rename_i gs s1 en;obtain⟨tb',bm,cY,b,hw,bz,cw⟩:=XY hG en;have aJ:=Ka en;rw[hw];split at h
      .rename_i cs v dN;cases cN:VB v with
       |false=>rw[cN] at h;exact h.elim
       |true =>
       rw[cN] at h;simp only[zj] at h;obtain⟨h1,h2⟩:=Zm h;obtain⟨k1,k2⟩:=hD.stay;have mi:∀ x,DSt (hs++[M]) M pd (hl+1) chg A Rd (s1.put o.dst x).own pl:=λx=>by rw[Zb,aJ];exact k2
       refine⟨λe=>?_,λe=>?_⟩
       .rw[z7 av];have gY:Gds tb' gs:=λg hg=>⟨bz e g hg,cY g hg⟩;have mr:∀ {v u},SR P B pl tb' v u->SR P B pl tb' (.grd gs (DF v)) u:=λ{v u} hs=>by
         simp only[SR];obtain⟨h1,h2⟩:=Hu hs;exact⟨⟨cY,h2⟩,λ_=>h1,λ⟨g,hg,az⟩=>absurd (bz e g hg) az⟩
        simp only[gqc] at dN;split at dN
        .rename_i c v' heq;cases bW:v'.ret 0 with
         |false=>rw[bW] at dN;cases dN
         |true =>
          rw[bW] at dN;obtain⟨rfl,rfl⟩:=QV dN;obtain⟨g,a,b',h3,h4,_⟩:=ZM aB.cs (show SR P M Jo Zf (.fn f [] []) (.func (.func f) #[] #[]) by simp only[SR,SRs];exact⟨[],[],rfl,rfl,rfl⟩) (bm.gcall gY args) heq bW rfl (h2 (bz e) _ (by simp));obtain⟨rfl,rfl,rfl⟩:=(by simpa using h3:f=g/\#[]=a/\#[]=b');refine .inl ⟨VG Jo v',M,?_,eY hG.leB k1,Qr aB r cu hB (bm.put o.dst (mr ?_)) (mi _) hp (snoc hG.leB λ_ h=>h) (by omega) (by omega) (Zk h1) hK⟩
          .rw[bJ];show VCalled P f (args.map (Q3 env)) M _;have:=h4.mono (R':=λu M'=>u=VG Jo v'/\M'=M) λu M' hr=>by
            obtain⟨rfl,hu⟩:=hr.flat bW;exact⟨Ud v' u bW cN hu,rfl⟩
           simpa using this
          .exact SR.retd (λj hj=>by omega) _ _ bW (Rs (P:=P) (pl:=Jo) (m:=0) (λj hj=>by omega) v' bW cN)
        .cases dN
       .rw[z7 av];obtain⟨g,dS,az⟩:=cw e;exact⟨eY hG.leB k1,Qr aB r cu hB (bm.put o.dst (by simp only[SR];exact⟨⟨cY,HC v⟩,λae=>absurd (ae g dS) az,λ_=>trivial⟩)) (mi _) hp (snoc hG.leB λ_ h=>h) (by omega) (by omega) (Zk h1) hK⟩
      .split at h
       .rename_i cs v lB;obtain⟨c,ty,k,xs,nl,heq,rfl,rfl,hk,dw⟩:=Rl lB;obtain⟨h1,h2⟩:=Zm h;have frz:∀ {B' M':Heap},B'.Le M'->∀ j U',(hs++[M'])[j]?=some U'->DL ((hl-1,none)::A) j=true->B'.Le U':=λ{B' M'} hb j U' hm hn=>by
         rcases Jy hm with⟨h1,_⟩|⟨_,rfl⟩
         .simp only[DL,zW,z6,zy,zL,Option.isSome_none,zC,or_false] at hn;have:=hD.len;omega
         .exact hb
        refine⟨λe=>?_,λe=>?_⟩
        .rw[z7 av];have gY:Gds tb' gs:=λg hg=>⟨bz e g hg,cY g hg⟩;have fU:=h2 (bz e) c (by simp);have iz:=h2 (bz e) (nl=true->xs=[]) (by simp);have en:Gh C (C.off+o.dst.getD 0) (.fn f [] []) (BM s1.own (args.map (gev gs s1.env))) s1 (λts v' s'=>ts=[C.off+o.dst.getD 0]/\v'=.lst (C.off+o.dst.getD 0)/\s'=s1.make (C.off+o.dst.getD 0) (.lst ty k xs nl)):=by
          unfold Gh;rw[heq];dsimp only;have ak:(SV.ret [OB.lst ty k xs nl].length (.lst 0)&&([OB.lst ty k xs nl].all OB.ret&&(Nat.blt 0 C.nt&&([OB.lst ty k xs nl].all OB.isL&&VB (.lst 0)))))=true:=by simp only[SV.ret,xr,zW,List.all_nil,xO,OB.ret,hk,Bool.true_and,OB.isL,VB];rw[z6];exact⟨rfl,by rw[zL];exact dw⟩
          rw[ak];simp only[zj,O1,OB.wf];refine⟨fU,iz,?_,?_,?_⟩
          .simp[List.range_succ]
          .simp[SV.ren]
          .simp[St.makes]
         obtain⟨g,a,b',u,M',ts,v',s',pl',h3,h4,⟨rfl,rfl,rfl⟩,h5,h6,_,h7,h8,h9⟩:=X_ aB bm en (show SR P M Jo Zf (.fn f [] []) (.func (.func f) #[] #[]) by simp only[SR,SRs];exact⟨[],[],rfl,rfl,rfl⟩) (bm.gcall gY args);obtain⟨rfl,rfl,rfl⟩:=(by simpa using h3:f=g/\#[]=a/\#[]=b');obtain⟨B',F',m1,m2,m3⟩:=RB bm.bf hk h5 h6 h8;have cU:FrL [C.off+o.dst.getD 0] s ((s1.make (C.off+o.dst.getD 0) .dead).put o.dst (.grd gs (.val (.list k) xs))) pl pl' M M':=λq hq=>by obtain⟨f1,f2,f3⟩:=h9 q hq;rw[aJ] at f3;refine⟨?_,f2,f3⟩;rw[Zb,VW _ _ _ (by simpa using hq),aJ]
         obtain⟨k1,k2⟩:=hD.call h7 cU aR;refine .inl ⟨u,M',?_,eY (m1.b.trans m2.leB) k1,Qr aB r cu (hB.trans m1) (m2.put o.dst ?_) k2.frozen (λc hc=>(hp c hc).imp (λh U hτ=>h U (m1.b.trans hτ)) id) (frz m2.leB) (by omega) (by omega) h1 hK⟩
         .rw[bJ];show VCalled P f (args.map (Q3 env)) M _;simpa using h4
         .simp only[SR];exact⟨⟨cY,trivial⟩,λ_=>m3,λ⟨g,hg,az⟩=>absurd (bz e g hg) az⟩
        .rw[z7 av];obtain⟨g,dS,az⟩:=cw e;have cU:FrL [C.off+o.dst.getD 0] s ((s1.make (C.off+o.dst.getD 0) .dead).put o.dst (.grd gs (.val (.list k) xs))) pl (Jm pl (C.off+o.dst.getD 0) undef) M M:=λq hq=>by
          have cO:q≠C.off+o.dst.getD 0:=by simpa using hq
          refine⟨?_,by simp[Jm,cO],λ_ _ _=>rfl⟩;rw[Zb,VW _ _ _ cO,aJ]
         obtain⟨k1,k2⟩:=hD.call (.refl M) cU aR;refine⟨eY hG.leB k1,Qr aB r cu hB ((bm.make (C.off+o.dst.getD 0) .dead undef bm.le (λ_ _ _ _ _=>rfl) trivial (λi hl _=>by cases hl)).put o.dst ?_) k2.frozen hp (frz hG.leB) (by omega) (by omega) h1 hK⟩;simp only[SR];exact⟨⟨cY,trivial⟩,λae=>absurd (ae g dS) az,λ_=>trivial⟩
       .exact h.elim
   .rename_i f args bJ;split at h
    .rename_i hg;rw[hg];refine⟨λ_=>?_,λe=>by cases e⟩;rw[z7 av];refine .inl ?_;obtain⟨g,a,b,u,M',e,v,s',pl',h1,h2,h3,h4,h5,h6,h7,h8,h9⟩:=X_ aB hG h (hG.gfun Gds.nil f) (hG.gcall Gds.nil args);refine fin (u:=u) (M':=M') (λR' hr=>?_) h3 h4 h5 h6 h7 h8 h9;rw[bJ];exact M0 h1 (h2.mono (R':=R') λu' aE ⟨e1,e2⟩=>by subst e1;subst e2;exact hr)
    .exact h.elim
   .exact h.elim
   .exact h.elim
   .rename_i qZ nQ q_ iD;split at h
    .rename_i hg;rw[hg];refine⟨λ_=>?_,λe=>by cases e⟩;rw[z7 av];have aG:AH o.op=false:=by
      cases ho:o.op<;>first|rfl|(exact absurd ho (qZ _ _))|(exact absurd ho (nQ _ _))|skip
      case ext x=>cases x<;>first|rfl|(exact absurd ho (q_ _))|(exact absurd ho (iD _))
     cases lA:SU C (o.dst.getD 0) o.op (gev [] s.env) with
     |true =>
      rw[lA] at h;simp only[zj] at h;cases hm:AZ (P3 o.op) Rd hl (SG (C.off+o.dst.getD 0) o.op (gev [] s.env)) with
      |false=>rw[hm] at h;exact h.elim
      |true =>
       rw[hm] at h;simp only[zj] at h;obtain⟨u,M',pl',v,s',h1,h2,⟨h3,ly⟩,h4⟩:=HI (λx=>hG.evs (Gds.nil (tb:=tb)) x) hG h;have gM:∀ R',R' u M'->vop (Q2 P) o.op env M R':=λR' hr=>by
        have:vop (Q2 P) o.op env M R'=QX (Q7 o.op (Q3 env) M) λp=>R' p.1 p.2:=by
         cases ho:o.op with
         |callF f a=>rw[ho] at aG;cases aG
         |callV f a=>rw[ho] at aG;cases aG
         |ext x =>
          cases x with
          |nextMap y=>rw[ho] at h1;cases h1
          |_=>rfl
         |_=>rfl
        rw[this,h1];exact hr
       obtain⟨k1,k2⟩:=hD.writeD ly (λcD=>Sr cD h1) hm aR;exact .inl ⟨u,M',gM _ ⟨rfl,rfl⟩,eY h3.leB k1,Qr aB r cu (Gl hB (Km h1)) (h3.put o.dst h4) (by rw[Zb];exact k2) hp (snoc h3.leB λ_ h=>Hx h) (by omega) (by omega) h2 hK⟩
     |false =>
     rw[lA] at h;simp only[zS] at h;cases hm:((P3 o.op&&SK Rd hl (QH (C.off+o.dst.getD 0) o.op (gev [] s.env)))||R2 Rd hl (QH (C.off+o.dst.getD 0) o.op (gev [] s.env))||(Rk o.op&&Q7f Rd hl (QH (C.off+o.dst.getD 0) o.op (gev [] s.env)))) with
     |false=>rw[hm] at h;exact h.elim
     |true =>
      rw[hm] at h;simp only[zj] at h;obtain⟨u,M',pl',v,s',h1,h2,⟨h3,ly⟩,h4,hE⟩:=IC hG h aG;have gM:∀ R',R' u M'->vop (Q2 P) o.op env M R':=λR' hr=>by
       have:vop (Q2 P) o.op env M R'=QX (Q7 o.op (Q3 env) M) λp=>R' p.1 p.2:=by
        cases ho:o.op with
        |callF f a=>rw[ho] at aG;cases aG
        |callV f a=>rw[ho] at aG;cases aG
        |ext x =>
         cases x with
         |nextMap y=>rw[ho] at h1;cases h1
         |_=>rfl
        |_=>rfl
       rw[this,h1];exact hr
      obtain⟨k1,k2⟩:=hD.write ly (λcD=>Sr cD h1) hE hm aR;exact .inl ⟨u,M',gM _ ⟨rfl,rfl⟩,eY h3.leB k1,Qr aB r cu (Gl hB (Km h1)) (h3.put o.dst h4) (by rw[Zb];exact k2) hp (snoc h3.leB λ_ h=>Pv h) (by omega) (by omega) h2 hK⟩
    .exact h.elim
  .rw[z8 av] at h;have mu:o.op.kind≠2:=by rw[<-bR];exact av
   by_cases bt:o.kind=1
   .rw[z7 bt] at h
    have rd:∀ (rq:Option Nat),(∀ q,rq=some q->NR o.op (gev [] s.env) s.own=some q)->(Nat.ble chg o.kmin||PT A o.kmin rq)=true->gd1 C o s (λs'=>Xp C r s' hl chg A ((o.kmax,rq)::Rd) K) ->
      QX (Ja env o.guard) λb=>vif b (if o.kind=2 then (Dq (λR=>vop (Q2 P) o.op env M R) λv M'=>JX hs.length M' pend/\Zq (Q2 P) r (Xe env o.dst v) (hs++[M']) M' pend R)\/(waits o.dst.toList r=true/\vop (Q2 P) o.op env M λv M'=>JX hs.length M' pend/\Zq (Q2 P) r (Xe env o.dst v) (hs++[M']) M' pend R)
       else if o.kind=1 then QX (Q7 o.op (Q3 env) M) λp=>(∀ U∈hs.drop o.kmin,JW o.op (Q3 env) p.1 U) /\
        Zq (Q2 P) r (Xe env o.dst p.1) hs M (if hs.length<=o.kmax then (o.kmax,JW o.op (Q3 env) p.1)::pend else pend) R
       else QX (Q7 o.op (Q3 env) M) λp=>Zq (Q2 P) r (Xe env o.dst p.1) hs M pend R)
      (if o.kind=2 then JX hs.length M pend/\Zq (Q2 P) r (Xe env o.dst undef) (hs++[M]) M pend R else Zq (Q2 P) r (Xe env o.dst undef) hs M pend R):=λrq oN hc h=>by
     obtain⟨b,hw,h1,h2⟩:=VU hG h;rw[hw];have mw:DSt hs M pd hl chg A ((o.kmax,rq)::Rd) s.own pl:=⟨hD.len,hD.same,λc hc=>(hD.pend c hc).imp id λ⟨r,k1,k2⟩=>⟨r,zi _ k1,k2⟩,hD.fr⟩;refine⟨λe=>?_,λe=>?_⟩
     .obtain⟨u,s',tb',h3,h4,aJ,h5⟩:=h1 e;rw[z8 av,z7 bt,h3];refine⟨λU hτ=>?_,?_⟩
      .obtain⟨j,hj⟩:=xl.1 hτ;rw[zz] at hj;rw[zy] at hc;rcases hc with hc|hc
       .have:=hD.same (o.kmin+j) U (by have:=zG hc;omega) hj;subst this;exact ZT h3
       .unfold PT at hc;split at hc
        .rename_i q;obtain⟨k1,i,bl,k2,k3,k4,k5⟩:=YU hG (oN q rfl) h3;have hu:Zc A (o.kmin+j) (q / 2)=true:=by
          simp only[Zc,zf,zy,zL] at hc |-;exactλa ha=>(hc a ha).imp (λh=>by omega) id
         have:=hD.fr (o.kmin+j) U (q / 2) i hj hu k1 k2;exact ZT (k4 U (by rw[this];exact k3))
        .cases hc
      .by_cases hle:hs.length<=o.kmax
       .rw[z7 hle];refine Qr aB r cu hB h5 (A:=A) (Rd:=(o.kmax,rq)::Rd) (hl:=hl) (chg:=chg) (pd:=(o.kmax,JW o.op (Q3 env) u)::pd) ?_ (λc hc=>?_) b_ fg aR h4 hK
        .rw[aJ];refine⟨hD.len,hD.same,λc hc=>?_,hD.fr⟩;rcases zn.1 hc with rfl|hc
         .refine .inr ⟨_,zu,ze _,?_⟩;cases rq with
          |none=>exactλU hτ=>ZT (HL mu h3 hτ)
          |some q =>obtain⟨k1,i,bl,k2,k3,k4,k5⟩:=YU hG (oN q rfl) h3;exact⟨k1,i,bl,k2,k3,λU ht=>ZT (k4 U ht),λho=>(let ⟨es,c,wr,x1,x2⟩:=k5 ho;⟨es,c,wr,x1,λU bZ c' hl ht=>ZT (x2 U bZ c' hl ht)⟩)⟩
         .exact mw.pend c hc
        .rcases zn.1 hc with rfl|hc
         .exact .inr zu
         .exact(hp c hc).imp id λh=>zi _ h
       .rw[z8 hle];exact Qr aB r cu hB h5 (A:=A) (Rd:=(o.kmax,rq)::Rd) (hl:=hl) (chg:=chg) (pd:=pd) (by rw[aJ];exact mw) hp b_ fg aR h4 hK
     .obtain⟨s',tb',h4,aJ,h5⟩:=h2 e;rw[z8 av];exact Qr aB r cu hB h5 (by rw[aJ];exact mw) hp b_ fg aR h4 hK
    have ro:DL A o.kmin=true->(∀ u,Q7 o.op (Q3 env) M=some (u,M)->(Ja env o.guard=some true)->∀ U,B.Le U->Q7 o.op (Q3 env) U=some (u,U))->gd1 C o s (λs'=>Xp C r s' hl chg A Rd K) ->
      QX (Ja env o.guard) λb=>vif b (if o.kind=2 then (Dq (λR=>vop (Q2 P) o.op env M R) λv M'=>JX hs.length M' pend/\Zq (Q2 P) r (Xe env o.dst v) (hs++[M']) M' pend R)\/(waits o.dst.toList r=true/\vop (Q2 P) o.op env M λv M'=>JX hs.length M' pend/\Zq (Q2 P) r (Xe env o.dst v) (hs++[M']) M' pend R)
       else if o.kind=1 then QX (Q7 o.op (Q3 env) M) λp=>(∀ U∈hs.drop o.kmin,JW o.op (Q3 env) p.1 U) /\
        Zq (Q2 P) r (Xe env o.dst p.1) hs M (if hs.length<=o.kmax then (o.kmax,JW o.op (Q3 env) p.1)::pend else pend) R
       else QX (Q7 o.op (Q3 env) M) λp=>Zq (Q2 P) r (Xe env o.dst p.1) hs M pend R)
      (if o.kind=2 then JX hs.length M pend/\Zq (Q2 P) r (Xe env o.dst undef) (hs++[M]) M pend R else Zq (Q2 P) r (Xe env o.dst undef) hs M pend R):=λkp bO h=>by
     obtain⟨b,hw,h1,h2⟩:=VU hG h;rw[hw];refine⟨λe=>?_,λe=>?_⟩
     .obtain⟨u,s',tb',h3,h4,aJ,h5⟩:=h1 e;have bO:=bO u h3 (by rw[hw,e]);rw[z8 av,z7 bt,h3];refine⟨λU hτ=>?_,?_⟩
      .obtain⟨j,hj⟩:=xl.1 hτ;rw[zz] at hj;refine ZT (bO U (b_ _ U hj ?_));simp only[DL,zf,zy,zL] at kp |-;exactλa ha=>(kp a ha).imp (λh=>by omega) id
      refine Qr aB r cu hB h5 (A:=A) (Rd:=Rd) (hl:=hl) (chg:=chg) (pd:=pd) (by rw[aJ];exact hD) (λc hc=>?_) b_ fg aR h4 hK;split at hc
      .rcases zn.1 hc with rfl|hc
       .exact .inl λU hτ=>ZT (bO U hτ)
       .exact hp c hc
      .exact hp c hc
     .obtain⟨s',tb',h4,aJ,h5⟩:=h2 e;rw[z8 av];exact Qr aB r cu hB h5 (by rw[aJ];exact hD) hp b_ fg aR h4 hK
    split at h
    .rename_i hg;cases hr:(Q7p o.op (gev [] s.env)&&DL A o.kmin) with
     |true =>rw[hr] at h;rw[z6] at hr;exact ro hr.2 (λu hu _=>Mz hG Gds.nil hr.1 hu) h
     |false =>
     rw[hr] at h;simp only[zS] at h;cases hb:(Nat.ble chg o.kmin||PT A o.kmin (NR o.op (gev [] s.env) s.own)) with
     |false=>rw[hb] at h;exact h.elim
     |true =>rw[hb] at h;exact rd _ (λq hq=>hq) hb h
    .rename_i j want hg;cases hr:(IM s j want o.op&&DL A o.kmin) with
     |true =>
      rw[hr] at h;rw[z6] at hr;obtain⟨hr,kp⟩:=hr;refine ro kp (λu hu hw=>?_) h;unfold IM at hr;split at hr
      .rename_i gs s1 en;obtain⟨tb',bm,cY,b,dq,bz,cw⟩:=XY hG en;rw[hg,dq] at hw;have e:=osj hw;exact Mz bm (λg hg=>⟨bz e g hg,cY g hg⟩) hr hu
      .cases hr
     |false =>
     rw[hr] at h;simp only[zS] at h;cases hb:Nat.ble chg o.kmin with
     |false=>rw[hb] at h;exact h.elim
     |true =>rw[hb] at h;exact rd none (λq hq=>by cases hq) (by rw[hb];rfl) h
   .rw[z8 bt] at h;obtain⟨b,hw,h1,h2⟩:=VU hG h;rw[hw];refine⟨λe=>?_,λe=>?_⟩
    .obtain⟨u,s',tb',h3,h4,aJ,h5⟩:=h1 e;rw[z8 av,z8 bt,h3];exact Qr aB r cu hB h5 (by rw[aJ];exact hD) hp b_ fg aR h4 hK
    .obtain⟨s',tb',h4,aJ,h5⟩:=h2 e;rw[z8 av];exact Qr aB r cu hB h5 (by rw[aJ];exact hD) hp b_ fg aR h4 hK
def VE (pl:Nat->Value) (mp:List (Nat×Option Nat)):Nat->Value:=λt=>match Qs mp t with
 |some (some a)=>pl a
 |_=>.slice none 0 0
theorem L5 {h:Heap}{k k':Kind}{x:k.T}{y:k'.T}(e:Gk x y) {cs:List Value}(hk:KC h k' y cs):KC h k x cs:=by
 unfold Gk at e;split at e
 .rename_i z hz;obtain rfl:=TX hz;obtain rfl:=TP hz;subst e;exact hk
 .exact e.elim
mutual
theorem Y6 {B:Heap}{pl:Nat->Value}{tb:Nat->Option Bool}{mp:List (Nat×Option Nat)}:∀ (p a:SV) (v:Value),BK mp p a->SR P B pl tb a v->SR P B (VE pl mp) Zf p v
 |.any,a,v,_,_=>trivial
 |.val k x,a,v,h,hs=>by
  simp only[BK] at h;split at h
  .simp only[SR] at hs |-;exact L5 h hs
  .simp only[SR] at hs |-;exact L5 h (by simp[KC,hs.1])
  .split at h
   .subst h;simp only[SR] at hs |-;subst hs;exact⟨_,rfl,.inl ⟨rfl,rfl⟩⟩
   .exact h.elim
  .exact h.elim
 |.lst t,a,v,h,hs=>by
  simp only[BK] at h;split at h
  .split at h
   .rename_i e;simp only[SR,VE,e] at hs |-;exact hs
   .exact h.elim
  .split at h
   .rename_i e;simp only[SR,VE,e] at hs |-;exact⟨hs,_,_,_,hs⟩
   .exact h.elim
  .exact h.elim
 |.box t off,a,v,h,hs=>by
  simp only[BK] at h;split at h
  .split at h
   .rename_i e;obtain⟨e,rfl⟩:=e;simp only[SR,VE,e] at hs |-;exact hs
   .exact h.elim
  .exact h.elim
 |.map t,a,v,h,hs=>by
  simp only[BK] at h;split at h
  .split at h
   .rename_i e;simp only[SR,VE,e] at hs |-;exact hs
   .exact h.elim
  .exact h.elim
 |.dd t w,a,v,h,hs=>by
  simp only[BK] at h;split at h
  .split at h
   .simp only[SR] at hs |-;simp only[DR];exact .inl ⟨h,hs⟩
   .split at h
    .rename_i e;obtain⟨e,rfl⟩:=e;simp only[SR,DR,VE,e] at hs |-;obtain⟨b,h1,h2⟩:=hs;exact .inr ⟨h,b,by rw[h1];rfl,h2⟩
    .exact h.elim
   .split at h
    .split at h
     .rename_i e;subst h;simp only[SR,DR,VE,e] at hs |-;exact hs
     .exact h.elim
    .exact h.elim
   .exact h.elim
  .split at h
   .split at h
    .split at h
     .rename_i e;simp only[SR,VE,e] at hs |-;exact hs
     .exact h.elim
    .exact h.elim
   .exact h.elim
  .split at h
   .split at h
    .split at h
     .rename_i e;simp only[SR,VE,e] at hs |-;exact hs
     .exact h.elim
    .exact h.elim
   .split at h
    .rename_i e;simp only[SR,VE,e] at hs |-;exact⟨hs,_,_,_,hs⟩
    .exact h.elim
   .exact h.elim
  .exact h.elim
 |.agg l,a,v,h,hs=>by
  simp only[BK] at h;split at h
  .rename_i l';simp only[SR] at hs |-;obtain⟨cs,h1,h2⟩:=hs;exact⟨cs,h1,Z0 l l' cs h h2⟩
  .exact h.elim
 |.tup l,a,v,h,hs=>by
  simp only[BK] at h;split at h
  .rename_i l';simp only[SR] at hs |-;obtain⟨cs,h1,h2⟩:=hs;exact⟨cs,h1,Z0 l l' cs h h2⟩
  .exact h.elim
 |.fn f x y,a,v,h,hs=>by
  simp only[BK] at h;split at h
  .split at h
   .rename_i e;subst e;simp only[SR] at hs |-;obtain⟨cs,ds,h1,h2,h3⟩:=hs;exact⟨cs,ds,h1,Z0 x _ cs h.1 h2,Z0 y _ ds h.2 h3⟩
   .exact h.elim
  .exact h.elim
 |.nilS,a,v,h,hs=>by
  simp only[BK] at h;split at h
  .simp only[SR] at hs |-;exact hs
  .exact h.elim
 |.nilP,a,v,h,hs=>by
  simp only[BK] at h;split at h
  .simp only[SR] at hs |-;exact hs
  .exact h.elim
 |.nilM,a,v,h,hs=>by
  simp only[BK] at h;split at h
  .simp only[SR] at hs |-;exact hs
  .exact h.elim
 |.nilF,a,v,h,hs=>by
  simp only[BK] at h;split at h
  .simp only[SR] at hs |-;exact hs
  .exact h.elim
 |.cp l off,a,v,h,hs=>by
  simp only[BK] at h;cases rf:SVs.pure l with
  |true =>rw[rf] at h;simp only[zj] at h;obtain⟨rfl,_⟩:=h;simp only[SR] at hs |-;obtain⟨b,c,e,wr,t,h1,h2,h3⟩:=hs;exact⟨b,c,e,wr,t,h1,h2,QI l c rf h3⟩
  |false =>
   rw[rf] at h;simp only[zS] at h;split at h
   .split at h
    .rename_i l' dL he;subst he;simp only[SR] at hs |-;obtain⟨b,c,e,wr,t,h1,h2,h3⟩:=hs;exact⟨b,c,e,wr,t,h1,h2,Z0 l l' c h h3⟩
    .exact h.elim
   .exact h.elim
 |.pf ks r cX p,a,v,h,hs=>by simp only[BK] at h;subst h;simp only[SR] at hs |-;exact hs
 |.sub t lo n sz,a,v,h,hs=>by
  simp only[BK] at h;split at h
  .split at h
   .rename_i e;obtain⟨rfl,rfl,rfl⟩:=h;simp only[SR,VE,e] at hs |-;exact hs
   .exact h.elim
  .exact h.elim
 |.elp _ _ _ _,_,_,h,_|.grd _ _,_,_,h,_|.bid _ _,_,_,h,_|.rop _ _ _ _,_,_,h,_=>by simp only[BK] at h
theorem Z0 {B:Heap}{pl:Nat->Value}{tb:Nat->Option Bool}{mp:List (Nat×Option Nat)}:∀ (p a:List SV) (v:List Value),U4 mp p a->SRs P B pl tb a v->SRs P B (VE pl mp) Zf p v
 |[],a,v,h,hs=>by simp only[U4] at h;subst h;exact hs
 |s::ss,[],v,h,hs=>by simp only[U4] at h
 |s::ss,a::bQ,v,h,hs=>by simp only[U4] at h;simp only[SRs] at hs |-;obtain⟨x,y,h1,h2,h3⟩:=hs;exact⟨x,y,h1,Y6 s a x h.1 h2,Z0 ss bQ y h.2 h3⟩
theorem R4 {B:Heap}{pl pl':Nat->Value}{tb tb':Nat->Option Bool}:∀ (s:SV) (v:Value),s.pure=true->SR P B pl tb s v->SR P B pl' tb' s v
 |.any,v,_,_=>trivial
 |.val k x,v,_,h=>by simp only[SR] at h |-;exact h
 |.nilS,v,_,h|.nilP,v,_,h|.nilM,v,_,h|.nilF,v,_,h=>by simp only[SR] at h |-;exact h
 |.rop k l i off,v,_,h=>by simp only[SR] at h |-;exact h
 |.pf ks r cX p,v,_,h=>by simp only[SR] at h |-;exact h
 |.agg l,v,hp,h=>by simp only[SR] at h |-;obtain⟨cs,h1,h2⟩:=h;exact⟨cs,h1,QI l cs hp h2⟩
 |.tup l,v,hp,h=>by simp only[SR] at h |-;obtain⟨cs,h1,h2⟩:=h;exact⟨cs,h1,QI l cs hp h2⟩
 |.cp l off,v,hp,h=>by simp only[SR] at h |-;obtain⟨b,c,e,wr,t,h1,h2,h3⟩:=h;exact⟨b,c,e,wr,t,h1,h2,QI l c hp h3⟩
 |.fn f a b,v,hp,h=>by simp only[SV.pure,z6] at hp;simp only[SR] at h |-;obtain⟨x,y,h1,h2,h3⟩:=h;exact⟨x,y,h1,QI a x hp.1 h2,QI b y hp.2 h3⟩
 |.lst _,_,h,_|.sub _ _ _ _,_,h,_|.elp _ _ _ _,_,h,_|.box _ _,_,h,_|.map _,_,h,_|.grd _ _,_,h,_|.bid _ _,_,h,_=>by cases h
theorem QI {B:Heap}{pl pl':Nat->Value}{tb tb':Nat->Option Bool}:∀ (s:List SV) (v:List Value),SVs.pure s=true->SRs P B pl tb s v->SRs P B pl' tb' s v
 |[],v,_,h=>by simp only[SRs] at h |-;exact h
 |s::ss,v,hp,h=>by simp only[SVs.pure,z6] at hp;simp only[SRs] at h |-;obtain⟨x,y,h1,h2,h3⟩:=h;exact⟨x,y,h1,R4 s x hp.1 h2,QI ss y hp.2 h3⟩
end
end
end Go.V
namespace Go.V
open Go
section
variable {P:Program}{B F:Heap}{pl:Nat->Value}{tb:Nat->Option Bool}{s:St}{env:Env}{M:Heap}
theorem Uq {k k':Kind}{xs:List k.T}{ys:List k'.T}(h:Gk (k:=.list k) xs (k':=.list k') ys):∃ e:k'=k,e▸ys=xs:=by
 unfold Gk at h;split at h
 .rename_i z hz;have e:=TX hz;obtain rfl:=Kind.list.inj e;obtain rfl:=TP hz;exact⟨rfl,h⟩
 .exact h.elim
theorem QG (hG:Gam P B F pl tb s env M) {mp:List (Nat×Option Nat)}{t:Nat}{b:OB}(h:Fm s mp t b) :
  OR P B (VE pl mp) Zf M (VE pl mp t) b/\(b.live=true->∀ i,Oid (VE pl mp t) i->∃ a,Qs mp t=some (some a)/\(Q9 s.own a).live=true/\Oid (pl a) i):=by
 unfold Fm at h;split at h
 .rename_i a ha;have aQ:VE pl mp t=pl a:=by simp[VE,ha]
  rw[aQ];have ao:=hG.obj a;split at h
  .exact⟨trivial,λh=>by cases h⟩
  .rename_i ty k xs nl gf k' cF kn ho;split at h
   .rename_i e;subst e;obtain⟨h1,rfl⟩:=h;obtain⟨rfl,rfl⟩:=Uq h1;rw[ho] at ao;exact⟨ao,λ_ i hi=>⟨a,ha,by rw[ho];rfl,hi⟩⟩
   .exact h.elim
  .rename_i l u l' u' ho;split at h
   .rename_i e0;subst e0;rw[ho] at ao;obtain⟨i,c,e,t',h1,h2,h3,h4⟩:=ao;exact⟨⟨i,c,e,t',h1,h2,Z0 l l' c h h3,h4⟩,λ_ i hi=>⟨a,ha,by rw[ho];rfl,hi⟩⟩
   .exact h.elim
  .rename_i kk vk m i_ mh m' ho;split at h
   .obtain⟨e,h1⟩:=Uq h;obtain⟨rfl,rfl⟩:=Kind.pair.inj e;subst h1;rw[ho] at ao;exact⟨ao,λ_ i hi=>⟨a,ha,by rw[ho];rfl,hi⟩⟩
   .exact h.elim
  .rename_i l vals l' lr ho;rw[ho] at ao;obtain⟨rfl,h⟩:=h;exact⟨Z0 l l' vals h ao,λh=>by cases h⟩
  .rename_i l q u l' q' u' ho;rw[ho] at ao;split at h
   .obtain⟨rfl,h⟩:=h;exact⟨⟨ao.1,Z0 l l' q.vals h ao.2.1,ao.2.2⟩,λ_ i hi=>⟨a,ha,by rw[ho];rfl,hi⟩⟩
   .obtain⟨rfl,h⟩:=h;exact⟨⟨ao.1,Z0 l l' q.vals h ao.2.1,ao.2.2⟩,λh=>by cases h⟩
   .exact h.elim
  .rename_i kk vk m dn i_ mh m' sB ho;split at h
   .obtain⟨h,rfl⟩:=h;obtain⟨e,h1⟩:=Uq h;obtain⟨rfl,rfl⟩:=Kind.pair.inj e;subst h1;rw[ho] at ao;exact⟨ao,λ_ i hi=>⟨a,ha,by rw[ho];rfl,hi⟩⟩
   .exact h.elim
  .rename_i ty q k xs nl h0 gf q' k' cF kn r9 ho;split at h
   .rename_i e;obtain⟨rfl,rfl⟩:=e;split at h
    .obtain⟨h1,rfl⟩:=h;obtain⟨rfl,rfl⟩:=Uq h1;rw[ho] at ao;exact⟨ao,λ_ i hi=>⟨a,ha,by rw[ho];rfl,hi⟩⟩
    .exact h.elim
   .exact h.elim
  .exact h.elim
 .rename_i ha;have aQ:VE pl mp t=.slice none 0 0:=by simp[VE,ha]
  rw[aQ];split at h
  .exact⟨.inl ⟨h.2,h.1,rfl⟩,λ_ i hi=>by cases hi⟩
  .split at h
   .obtain⟨rfl,rfl⟩:=h;refine⟨⟨[],λi=>⟨λh=>(by cases h),λ⟨b,h⟩=>(by cases h)⟩,List.nodup_nil,.inl ⟨rfl,rfl,rfl⟩,λi=>⟨λ⟨b,h⟩=>(by cases h),λh=>(by cases h)⟩,(λi b h=>by cases h),by simp[phd]⟩,λ_ i hi=>by cases hi⟩
   .exact h.elim
  .exact h.elim
 .exact h.elim
theorem Vl {α:Type _}(l:List (Nat×α)) (t:Nat) (x:α) (d:Nat):Qs (l++[(t,x)]) d=match Qs l d with|some y=>some y|none=>if t=d then some x else none:=by
 induction l with
 |nil =>
  simp only[xj,Qs];by_cases h:t=d
  .subst h;simp
  .rw[Zo h];simp[h]
 |cons p l ih =>obtain⟨k,y⟩:=p;simp only[xB,Qs,ih];cases Nat.beq k d<;>rfl
theorem Lw {α:Type _}{l:List (Nat×α)}{d:Nat}{x:α}(h:Qs l d=some x):∃ p∈l,p.1=d/\p.2=x:=by
 induction l with
 |nil=>cases h
 |cons p l ih =>
  obtain⟨k,y⟩:=p;simp only[Qs] at h;cases hb:Nat.beq k d with
  |true=>rw[hb] at h;obtain rfl:=osj h;exact⟨_,zu,zM hb,rfl⟩
  |false =>rw[hb] at h;obtain⟨p,h1,h2⟩:=ih h;exact⟨p,zi _ h1,h2⟩
def Inj (mp:List (Nat×Option Nat)):Prop:=∀ t t' a,Qs mp t=some (some a)->Qs mp t'=some (some a)->t=t'
theorem Hy:∀ (l:List (Nat×Src)) (mp cg:List (Nat×Option Nat)),Q9m s l mp=some cg->Inj mp->Inj cg
 |[],mp,cg,h,hi=>by obtain rfl:=osj h;exact hi
 |(t,src)::r,mp,cg,h,hi=>by
  simp only[Q9m] at h;split at h
  .rename_i a _;split at h
   .cases h
   .rename_i hc;refine Hy r _ _ h ?_;have cU:∀ d,Qs mp d≠some (some a):=λd hd=>by
     obtain⟨p,h1,h2,h3⟩:=Lw hd;apply hc;simp only[zy];exact .inl (xu.2 ⟨p,h1,by rw[h3];simp⟩)
    intro t1 t2 a' h1 h2;rw[Vl] at h1 h2;split at h1
    .rename_i y1 e1;split at h2
     .rename_i y2 e2;obtain rfl:=osj h1;obtain rfl:=osj h2;exact hi t1 t2 a' e1 e2
     .split at h2
      .obtain rfl:=osj (osj h2);obtain rfl:=osj h1;exact absurd e1 (cU t1)
      .cases h2
    .split at h1
     .rename_i e1;obtain rfl:=osj (osj h1);split at h2
      .rename_i y2 e2;obtain rfl:=osj h2;exact absurd e2 (cU t2)
      .split at h2
       .rename_i e2;omega
       .cases h2
     .cases h1
  .split at h
   .cases h
   .refine Hy r _ _ h ?_;intro t1 t2 a' h1 h2;rw[Vl] at h1 h2;split at h1
    .rename_i y1 e1;split at h2
     .rename_i y2 e2;obtain rfl:=osj h1;obtain rfl:=osj h2;exact hi t1 t2 a' e1 e2
     .split at h2<;>cases h2
    .split at h1<;>cases h1
  .cases h
theorem RX {mp:List (Nat×Option Nat)}:∀ {ow:List (Nat×Src×OB)},gmatch.obs s mp ow->∀ p∈ow,Fm s mp p.1 p.2.2
 |[],_,p,hp=>by cases hp
 |(t,src,b)::r,h,p,hp=>by
  simp only[gmatch.obs] at h;rcases zn.1 hp with rfl|hp
  .exact h.1
  .exact RX h.2 p hp
theorem VK {f:List (Nat×Src×OB)}:∀ (own:Own) (t:Nat),(∃ p∈f,p.1=t/\Q9 (f.foldl (λo p=>oset o p.1 p.2.2) own) t=p.2.2)\/Q9 (f.foldl (λo p=>oset o p.1 p.2.2) own) t=Q9 own t:=by
 induction f with
 |nil=>intro own t;exact .inr rfl
 |cons p f ih =>
  intro own t;simp only[w5];rcases ih (oset own p.1 p.2.2) t with⟨q,h1,h2⟩|h
  .exact .inl ⟨q,zi _ h1,h2⟩
  .rw[h,Qk];by_cases e:t=p.1
   .rw[z7 e];exact .inl ⟨p,zu,e.symm,rfl⟩
   .rw[z8 e];exact .inr rfl
theorem Ta (hG:Gam P B F pl tb s env M) {mp:List (Nat×Option Nat)}:∀ (st:List (Nat×SV)) {e:List SV}{eV:Env},gmatch.slots s mp st->SRs P B (VE pl mp) Zf e eV->SRs P B (VE pl mp) Zf (st.foldl (λe p=>e.set p.1 p.2) e) (Xj (st.map (·.1)) (D8 (st.map (·.1)) env) eV)
 |[],e,eV,_,h=>h
 |(j,v)::r,e,eV,hs,h=>by simp only[gmatch.slots] at hs;simp only[w5,zJ,D8,Xj];exact Ta hG r hs.2 (h.set j (Y6 v _ _ hs.1 (hG.env.getD j poison)))
theorem Oc {B:Heap}{pl:Nat->Value}{tb:Nat->Option Bool}:∀ n,SRs P B pl tb (List.replicate n .any) (List.replicate n poison)
 |0=>by simp[SRs]
 |n+1=>by simp only[xy,SRs];exact⟨_,_,rfl,by simp[SR],Oc n⟩
theorem H5 {B0 F0 D0:Heap}(hR:GRel P B0 F0 D0 s env M) {st:List (Nat×SV)}{ow:List (Nat×Src×OB)}(h:gmatch s st ow) (len:Nat):GRel P B0 F0 D0 (Za len st ow) (Xj (st.map (·.1)) (D8 (st.map (·.1)) env) (List.replicate len poison)) M:=by
 obtain⟨B,F,pl,tb,hB,hG⟩:=hR;unfold gmatch at h;split at h
 .rename_i mp ku;obtain⟨h1,h2⟩:=h;have eg:=Hy _ _ _ ku (λt t' a h=>by cases h);have aN:=RX h2;have ao:∀ t,(Q9 (Za len st ow).own t).live=true->Fm s mp t (Q9 (Za len st ow).own t):=λt hl=>by
   rcases VK (f:=ow) [] t with⟨p,h3,h4,h5⟩|h3
   .have:=aN p h3;rw[h4,<-h5] at this;exact this
   .simp only[Za] at hl;rw[h3] at hl;cases hl
  refine⟨B,F,VE pl mp,Zf,hB,hG.bf,hG.le,Ta hG st h1 (Oc len),λt=>?_,λt i hl hi=>?_,λt t' i az hl cm hi cB=>?_,λ_ _=>rfl⟩
  .cases hl:(Q9 (Za len st ow).own t).live with
   |true=>exact(QG hG (ao t hl)).1
   |false =>
    cases ho:Q9 (Za len st ow).own t with
    |dead=>trivial
    |stk l vals =>
     rcases VK (f:=ow) [] t with⟨p,h3,h4,h5⟩|h3
     .have:=aN p h3;simp only[Za] at ho;rw[<-h5,ho] at this;have h6:=(QG hG this).1;rw[h4] at h6;exact h6
     .simp only[Za] at ho;rw[h3] at ho;cases ho
    |lpf l q u =>
     rcases VK (f:=ow) [] t with⟨p,h3,h4,h5⟩|h3
     .have:=aN p h3;simp only[Za] at ho;rw[<-h5,ho] at this;have h6:=(QG hG this).1;rw[h4] at h6;exact h6
     .simp only[Za] at ho;rw[h3] at ho;cases ho
    |_=>rw[ho] at hl;cases hl
  .obtain⟨a,_,h4,h5⟩:=(QG hG (ao t hl)).2 hl i hi;exact hG.fresh a i h4 h5
  .obtain⟨a,e1,h4,h5⟩:=(QG hG (ao t hl)).2 hl i hi;obtain⟨a',e2,g_,rh⟩:=(QG hG (ao t' cm)).2 cm i cB;by_cases e:a=a'
   .subst e;exact az (eg t t' a e1 e2)
   .exact hG.sep a a' i e h4 g_ h5 rh
 .exact h.elim
theorem Bz:∀ {dK cP:List SV}{vs:List Value}{B F:Heap}{s s':St},Gam P B F pl tb s env M->SRs P B pl tb dK vs->Q75 s dK=some (s',cP) ->
  ∃ B' F',GBase B F M B' F' M/\Gam P B' F' pl tb s' env M/\SRs P B' Jo Zf cP vs/\s'.env=s.env
 |[],cP,vs,B,F,s,s',hG,hs,h=>by simp only[Q75,x6,Prod.mk.injEq] at h;obtain⟨rfl,rfl⟩:=h;exact⟨B,F,.of hG.bf (.refl _),hG,hs,rfl⟩
 |v::dK,cP,vs,B,F,s,s',hG,hs,h=>by
  simp only[SRs] at hs;obtain⟨u,us,rfl,h1,h2⟩:=hs
  have oP:∀ w:SV,SR P B pl tb w u->(bif w.pure then (match Q75 s dK with|some (s',r)=>some (s',w::r)|none=>none) else none)=some (s',cP) ->
    ∃ B' F',GBase B F M B' F' M/\Gam P B' F' pl tb s' env M/\SRs P B' Jo Zf cP (u::us)/\s'.env=s.env:=λw hw h=>by
   cases hp:w.pure with
   |false=>rw[hp] at h;cases h
   |true =>
    rw[hp] at h;simp only[zj] at h;split at h
    .rename_i s1 r heq;simp only[x6,Prod.mk.injEq] at h;obtain⟨rfl,rfl⟩:=h;obtain⟨B',F',k1,k2,k3,k4⟩:=Bz hG h2 heq;exact⟨B',F',k1,k2,by simp only[SRs];exact⟨u,us,rfl,SR.mono k1.b (λ_ _ h=>h) _ _ (R4 w u hp hw),k3⟩,k4⟩
    .cases h
  simp only[Q75] at h;split at h
  .rename_i o;split at h
   .rename_i l _ ho;cases hp:SVs.pure l with
    |false=>rw[hp] at h;cases h
    |true =>
     rw[hp] at h;simp only[zj] at h;split at h
     .rename_i s1 r heq;simp only[x6,Prod.mk.injEq] at h;obtain⟨rfl,rfl⟩:=h;have ao:=hG.obj o;rw[ho] at ao;obtain⟨i,c,e,t,e1,e2,e3,_⟩:=ao;obtain⟨k1,k2⟩:=hG.freeze (o:=o) (i:=i) (by rw[ho];rfl) (by rw[e1];rfl);obtain⟨B',F',j1,j2,j3,j4⟩:=Bz k2 (SRs.mono k1.b (λ_ _ h=>h) _ _ h2) heq;refine⟨B',F',k1.trans j1,j2,?_,j4⟩;simp only[SRs];refine⟨u,us,rfl,?_,j3⟩;simp only[SR] at h1 |-;obtain⟨b,q1,q2⟩:=h1;rw[e1] at q1;obtain rfl:i=b:=by simpa using q1
      refine⟨i,c,e,true,t,j1.b.2 _ _ ?_,q2,SRs.mono (k1.trans j1).b (λ_ _ h=>h) _ _ (QI l c hp e3)⟩;rw[Heap.q0n];exact e2
     .cases h
   .cases h
  .exact oP _ h1 h
theorem Gam.lpUpd (hG:Gam P B F pl tb s env M) {n:Nat}{b b0:Blk}(hF:F.get n=some b0) (hB:B.get n=none):Gam P B (F.upd n b) pl tb s env (M.upd n b):=by
 have az:∀ {d i},(Q9 s.own d).live=true->Oid (pl d) i->i≠n:=λh1 h2 e=>by have:=hG.fresh _ _ h1 h2;subst e;rw[hF] at this;cases this
 refine⟨⟨hG.bf.1,λi c hc=>?_⟩,⟨hG.le.1,λi c hc=>?_⟩,hG.env,λd=>(hG.obj d).mono (.refl _) (λ_ _ h=>h) λh1 i h2=>Heap.q0b _ _ (az h1 h2),λd i h1 h2=>?_,hG.sep,hG.free⟩
 .have:i≠n:=by rintro rfl;rw[hB] at hc;cases hc
  rw[Heap.q0b _ _ this];exact hG.bf.2 _ _ hc
 .by_cases e:i=n
  .subst e;rw[Heap.q0c _ _ (F.lt hF)] at hc;rw[Heap.q0c _ _ (xi (F.lt hF) hG.le.1)];exact hc
  .rw[Heap.q0b _ _ e] at hc |-;exact hG.le.2 _ _ hc
 .rw[Heap.q0b _ _ (az h1 h2)];exact hG.fresh _ _ h1 h2
theorem Gam.lpKill (hG:Gam P B F pl tb s env M) {n:Nat}{b0:Blk}(hF:F.get n=some b0) (hB:B.get n=none):Gam P B (F.kill n) pl tb s env (M.kill n):=by
 have az:∀ {d i},(Q9 s.own d).live=true->Oid (pl d) i->i≠n:=λh1 h2 e=>by have:=hG.fresh _ _ h1 h2;subst e;rw[hF] at this;cases this
 refine⟨⟨hG.bf.1,λi c hc=>?_⟩,⟨hG.le.1,λi c hc=>?_⟩,hG.env,λd=>(hG.obj d).mono (.refl _) (λ_ _ h=>h) λh1 i h2=>Heap.q0d _ (az h1 h2),λd i h1 h2=>?_,hG.sep,hG.free⟩
 .have:i≠n:=by rintro rfl;rw[hB] at hc;cases hc
  rw[Heap.q0d _ this];exact hG.bf.2 _ _ hc
 .by_cases e:i=n
  .subst e;rw[Heap.q0g] at hc;cases hc
  .rw[Heap.q0d _ e] at hc |-;exact hG.le.2 _ _ hc
 .rw[Heap.q0d _ (az h1 h2)];exact hG.fresh _ _ h1 h2
theorem GRel.lpUpd {B1 F1 D0:Heap}(h:GRel P B1 F1 D0 s env M) {n:Nat}{b b0:Blk}(hF:F1.get n=some b0) (hB:B1.get n=none):GRel P B1 (F1.upd n b) D0 s env (M.upd n b):=by
 obtain⟨B,F,pl,tb,dH,hG⟩:=h;have jG:=dH.f.2 _ _ hF;have oQ:=dH.x _ _ hF hB;refine⟨B,F.upd n b,pl,tb,⟨dH.b,⟨dH.f.1,λi c hc=>?_⟩,λi c h1 h2=>?_,⟨dH.d.1,λi h1 h2=>?_⟩⟩,hG.lpUpd jG oQ⟩
 .by_cases e:i=n
  .subst e;rw[Heap.q0c _ _ (F1.lt hF)] at hc;rw[Heap.q0c _ _ (F.lt jG)];exact hc
  .rw[Heap.q0b _ _ e] at hc |-;exact dH.f.2 _ _ hc
 .by_cases e:i=n
  .subst e;exact oQ
  .rw[Heap.q0b _ _ e] at h1;exact dH.x _ _ h1 h2
 .have hd:=dH.d.2 i h1 h2;have:i≠n:=by rintro rfl;rw[hG.le.2 _ _ jG] at hd;cases hd
  rw[Heap.q0b _ _ this];exact hd
theorem GRel.lpKill {B1 F1 D0:Heap}(h:GRel P B1 F1 D0 s env M) {n:Nat}{b0:Blk}(hF:F1.get n=some b0) (hB:B1.get n=none):GRel P B1 (F1.kill n) D0 s env (M.kill n):=by
 obtain⟨B,F,pl,tb,dH,hG⟩:=h;have jG:=dH.f.2 _ _ hF;have oQ:=dH.x _ _ hF hB;refine⟨B,F.kill n,pl,tb,⟨dH.b,⟨dH.f.1,λi c hc=>?_⟩,λi c h1 h2=>?_,⟨dH.d.1,λi h1 h2=>?_⟩⟩,hG.lpKill jG oQ⟩
 .by_cases e:i=n
  .subst e;rw[Heap.q0g] at hc;cases hc
  .rw[Heap.q0d _ e] at hc |-;exact dH.f.2 _ _ hc
 .by_cases e:i=n
  .subst e;exact oQ
  .rw[Heap.q0d _ e] at h1;exact dH.x _ _ h1 h2
 .have hd:=dH.d.2 i h1 h2;by_cases e:i=n
  .subst e;exact Heap.q0g _ _
  .rw[Heap.q0d _ e];exact hd
theorem GRel.base {B0 F0 B1 F1 D0:Heap}(h:GRel P B1 F1 D0 s env M) (hb:B0.Le B1) (hf:F0.Le F1) (hx:∀ i b,F0.get i=some b->B0.get i=none->B1.get i=none):GRel P B0 F0 D0 s env M:=by obtain⟨B,F,pl,tb,dH,hG⟩:=h;exact⟨B,F,pl,tb,⟨hb.trans dH.b,hf.trans dH.f,λi b h1 h2=>dH.x i b (hf.2 _ _ h1) (hx i b h1 h2),dH.d⟩,hG⟩
theorem H8 (hG:Gam P B F pl tb s env M) {mp:List (Nat×Option Nat)}:∀ (st:List (Nat×SV)) {e:List SV},gmatch.slots s mp st->SRs P B (VE pl mp) Zf e env->SRs P B (VE pl mp) Zf (st.foldl (λe p=>e.set p.1 p.2) e) env
 |[],e,_,h=>h
 |(j,v)::r,e,hs,h=>by
  simp only[gmatch.slots] at hs;simp only[w5];refine H8 hG r hs.2 ?_;have:=h.set j (Y6 v _ _ hs.1 (hG.env.getD j poison));by_cases hj:j<env.length
  .rwa [zd,z1 hj,Option.getD_some,List.set_getElem_self] at this
  .rw[List.set_eq_of_length_le (by rw[h.length];omega)];exact h
theorem Af {B:Heap}{pl:Nat->Value}{tb:Nat->Option Bool}:∀ (env:Env),SRs P B pl tb (List.replicate (List.length env) .any) env
 |[]=>by simp[SRs]
 |v::env=>by simp only[xh,xy,SRs];exact⟨_,_,rfl,by simp[SR],Af env⟩
theorem Un {B0 F0 D0:Heap}(hR:GRel P B0 F0 D0 s env M) {st:List (Nat×SV)}{ow:List (Nat×Src×OB)}(h:gmatch s st ow):GRel P B0 F0 D0 (Za (List.length env) st ow) env M:=by
 obtain⟨B,F,pl,tb,hB,hG⟩:=hR;unfold gmatch at h;split at h
 .rename_i mp ku;obtain⟨h1,h2⟩:=h;have eg:=Hy _ _ _ ku (λt t' a h=>by cases h);have aN:=RX h2;have ao:∀ t,(Q9 (Za (List.length env) st ow).own t).live=true->Fm s mp t (Q9 (Za (List.length env) st ow).own t):=λt hl=>by
   rcases VK (f:=ow) [] t with⟨p,h3,h4,h5⟩|h3
   .have:=aN p h3;rw[h4,<-h5] at this;exact this
   .simp only[Za] at hl;rw[h3] at hl;cases hl
  refine⟨B,F,VE pl mp,Zf,hB,hG.bf,hG.le,H8 hG st h1 (Af env),λt=>?_,λt i hl hi=>?_,λt t' i az hl cm hi cB=>?_,λ_ _=>rfl⟩
  .cases hl:(Q9 (Za (List.length env) st ow).own t).live with
   |true=>exact(QG hG (ao t hl)).1
   |false =>
    cases ho:Q9 (Za (List.length env) st ow).own t with
    |dead=>trivial
    |stk l vals =>
     rcases VK (f:=ow) [] t with⟨p,h3,h4,h5⟩|h3
     .have:=aN p h3;simp only[Za] at ho;rw[<-h5,ho] at this;have h6:=(QG hG this).1;rw[h4] at h6;exact h6
     .simp only[Za] at ho;rw[h3] at ho;cases ho
    |lpf l q u =>
     rcases VK (f:=ow) [] t with⟨p,h3,h4,h5⟩|h3
     .have:=aN p h3;simp only[Za] at ho;rw[<-h5,ho] at this;have h6:=(QG hG this).1;rw[h4] at h6;exact h6
     .simp only[Za] at ho;rw[h3] at ho;cases ho
    |_=>rw[ho] at hl;cases hl
  .obtain⟨a,_,h4,h5⟩:=(QG hG (ao t hl)).2 hl i hi;exact hG.fresh a i h4 h5
  .obtain⟨a,e1,h4,h5⟩:=(QG hG (ao t hl)).2 hl i hi;obtain⟨a',e2,g_,rh⟩:=(QG hG (ao t' cm)).2 cm i cB;by_cases e:a=a'
   .subst e;exact az (eg t t' a e1 e2)
   .exact hG.sep a a' i e h4 g_ h5 rh
 .exact h.elim
theorem Ss {α:Type}{o:Option α}{f:α->Prop}(h:QX o f):∃ a,f a:=by
 cases o with
 |none=>exact h.elim
 |some a=>exact⟨a,h⟩
theorem COk.nx {C:Cx}(h:COk P C):COk P C.nx:=⟨h.cs,λf x hx=>(by cases hx),h.it,h.yl,h.iy,λf j _ x hx=>(by cases hx)⟩
theorem W_ {S:VSpecs}{Q:Prop}:∀ {ops:List DOper}{env:Env}{hs:List Heap}{M:Heap}{pend:List (Nat×(Heap->Prop))},Jl S ops env hs M pend (λ_ _=>Q)->Q
 |[],_,_,_,_,h=>h
 |o::r,env,hs,M,pend,h=>by
  simp only[Jl] at h;obtain⟨b,h⟩:=Ss h;cases b with
  |true =>
   have h:=h.1 rfl;split at h
   .obtain⟨v,M',_,_,h⟩:=h;exact W_ h
   .split at h
    .obtain⟨p,_,h⟩:=Ss h;exact W_ h
    .obtain⟨p,h⟩:=Ss h;exact W_ h
  |false =>
   have h:=h.2 rfl;split at h
   .exact W_ h.2
   .exact W_ h
theorem Pq {C:Cx}{s:St}{st:List (Nat×SV)}{ow:List (Nat×Src×OB)}{Q:Prop}:∀ (ls:List (List DOper)),Q5e C ls s st ow Q->(∀ l∈ls,Xp C.nx l s 1 0 [] [] λs'=>BG s.env.length s' st ow)/\Q
 |[],h=>⟨λl hl=>(by cases hl),h⟩
 |l::ls,h=>by obtain⟨h1,h2⟩:=h;obtain⟨h3,h4⟩:=Pq ls h2;exact⟨λl' cm=>(zn.1 cm).elim (λe=>e▸h1) (h3 l'),h4⟩
theorem UX {B0 F0 D0:Heap}{s:St}{env:Env}{M:Heap}{n:Nat}(hR:GRel P B0 F0 D0 s env M) {st:List (Nat×SV)}{ow:List (Nat×Src×OB)}(h:BG n s st ow):GRel P B0 F0 D0 (Za n st ow) env M:=by
 unfold BG at h;cases hb:Nat.beq s.env.length n with
 |false=>rw[hb] at h;exact h.elim
 |true =>
  rw[hb] at h;have hl:env.length=n:=by rw[<-zM hb];obtain⟨_,_,_,_,_,hG⟩:=hR;exact hG.env.length.symm
  rw[<-hl];exact Un hR h
theorem WY {C:Cx}(aB:COk P C) {B0 F0 D0:Heap}:∀ (aS:List DSeg) {s:St}{env:Env}{M:Heap},GRel P B0 F0 D0 s env M->∀ {K:St->Prop},Sm C aS s K->∀ {R:Env->Heap->Prop},(∀ s' af M',K s'->GRel P B0 F0 D0 s' af M'->R af M')->M_ (Q2 P) aS env M R
 |[],s,env,M,hR,K,h,R,hK=>hK s env M h hR
 |.one o::r,s,env,M,hR,K,h,R,hK=>by refine MI aB [o] hR (K:=λs'=>Sm C r s' K) h λs' af M' h1 h2=>?_;exact WY aB r h2 h1 hK
 |.alts [l]::r,s,env,M,hR,K,h,R,hK=>by
  simp only[Sm] at h;cases hd:Q3o l with
  |false =>
   rw[hd] at h;simp only[zS] at h;cases hk:l.all (λo=>o.kind==o.op.kind) with
   |false=>rw[hk] at h;exact h.elim
   |true =>
    rw[hk] at h;simp only[zj] at h;intro ops ho;obtain rfl:=zo.1 ho;obtain⟨B,F,pl,tb,hB,hG⟩:=hR;have one:∀ (j:Nat) (U:Heap),([M]:List Heap)[j]?=some U->U=M:=λj U ht=>by
     cases j with
     |zero=>simpa using ht.symm
     |succ j=>simp at ht
    exact Qr aB ops (λo ho=>by simpa using zf.1 hk o ho) hB hG (hl:=1) (chg:=0) (A:=[]) (Rd:=[]) ⟨rfl,λj U _ ht=>one j U ht,(λc hc=>absurd hc (by simp)),λj U q i ht _ _ _=>by rw[one j U ht]⟩ (pend:=[]) (pd:=[]) (λc hc=>absurd hc (by simp)) (λj U ht _=>by rw[one j U ht];exact hG.leB) (Nat.zero_le _) (Nat.succ_pos _) h λs' af M' h1 h2=>⟨af,M',.refl _ _ _,WY aB r h2 h1 hK⟩
  |true =>rw[hd] at h;refine O5 (l:=l) hd ?_;exact MI aB _ hR h λs' af M' h1 h2=>WY aB r h2 h1 hK
 |.alts []::r,s,env,M,hR,K,h,R,hK=>h.elim
 |.alts (l::l2::ls)::r,s,env,M,hR,K,h,R,hK=>by
  simp only[Sm] at h;cases hk:(l::l2::ls).all (λl=>l.all λo=>o.kind==o.op.kind) with
  |false=>rw[hk] at h;exact h.elim
  |true =>
   rw[hk] at h;simp only[zj] at h;obtain⟨B,F,pl,tb,hB,hG⟩:=hR;have one:∀ (j:Nat) (U:Heap),([M]:List Heap)[j]?=some U->U=M:=λj U ht=>by
    cases j with
    |zero=>simpa using ht.symm
    |succ j=>simp at ht
   have run:∀ l'∈l::l2::ls,∀ {K':St->Prop},Xp C.nx l' s 1 0 [] [] K'->∀ {R':Env->Heap->Prop},(∀ s' af M',K' s'->GRel P B0 F0 D0 s' af M'->R' af M')->Jl (Q2 P) l' env [M] M [] R':=λl' cm K' h' R' ra =>
    Qq aB.nx rfl l' (λo ho=>by simpa using zf.1 (zf.1 hk l' cm) o ho) hB hG (hl:=1) (chg:=0) (A:=[]) (Rd:=[]) ⟨rfl,λj U _ ht=>one j U ht,(λc hc=>absurd hc (by simp)),λj U q i ht _ _ _=>by rw[one j U ht]⟩ (pend:=[]) (pd:=[]) (λc hc=>absurd hc (by simp)) (λj U ht _=>by rw[one j U ht];exact hG.leB) (Nat.zero_le _) (Nat.succ_pos _) h' ra
   obtain⟨s0,h0,h1⟩:=W_ (run l zu h (R':=λ_ _=>∃ s0:St,_) λs' _ _ h' _=>⟨s',h'⟩);obtain⟨h2,h3⟩:=Pq _ h1;intro ops ho;rcases zn.1 ho with rfl|fc
   .refine Y5 ?_;exact run ops ho h λs' af M' h' ri=>⟨af,M',.refl _ _ _,by
     obtain⟨k1,k2⟩:=h';exact WY aB r (UX ri k1) (Pq _ k2).2 hK⟩
   .refine Y5 ?_;exact run ops ho (h2 ops fc) λs' af M' h' ri=>⟨af,M',.refl _ _ _,WY aB r (UX ri h') h3 hK⟩
theorem P1:∀ (l:List Nat) (vs:List SV),(Q7k l vs).map (·.1)=l
 |[],_=>rfl
 |j::js,[]=>by simp[Q7k,P1 js []]
 |j::js,v::vs=>by simp[Q7k,P1 js vs]
theorem NU {B:Heap}{pl:Nat->Value}{tb:Nat->Option Bool}:∀ {ps:List Nat}{xs:List SV}{us:List Value}{e:List SV}{env:Env},SRs P B pl tb xs us->SRs P B pl tb e env->SRs P B pl tb (Dj e ps xs) (PA env ps us)
 |[],xs,us,e,env,_,h=>by simpa [Dj,PA] using h
 |p::ps,[],us,e,env,hx,h=>by simp only[SRs] at hx;subst hx;simpa [Dj,PA] using h
 |p::ps,x::xs,us,e,env,hx,h=>by simp only[SRs] at hx;obtain⟨u,jE,rfl,h1,h2⟩:=hx;simp only[Dj,PA];exact NU h2 (h.set p h1)
def Z2x (F0:Heap):Option Nat->Prop
 |none=>True
 |some i=>∃ env r st pend,F0.get i=some (.obj (.lp env r st pend) true)
theorem Gam.dropLp {B F:Heap}{pl:Nat->Value}{tb:Nat->Option Bool}{s:St}{env:Env}{M:Heap}(hG:Gam P B F pl tb s env M) {o:Nat}{l:List SV}{q:LpD}{u:LpS}(ho:Q9 s.own o=.lpf l q u) (hl:u.live=true) :
  Gam P B F pl tb ⟨l,oset s.own o .dead,s.nx⟩ q.vals (M.kill q.i)/\M.get q.i=some (.obj (.lp q.vals q.r u.st u.pend) true):=by
 have ao:=hG.obj o;rw[ho] at ao;obtain⟨h1,h2,h3⟩:=ao;have jR:(Q9 s.own o).live=true:=by rw[ho];exact hl
 have ky:Oid (pl o) q.i:=by rw[h1];rfl
 have hF:=hG.fresh o q.i jR ky;have lv:∀ d,(Q9 (oset s.own o .dead) d).live=true->d≠o/\(Q9 s.own d).live=true:=λd h=>by
  rw[Qk] at h;by_cases e:d=o
  .rw[z7 e] at h;cases h
  .rw[z8 e] at h;exact⟨e,h⟩
 refine⟨⟨hG.bf,⟨hG.le.1,λj b hb=>?_⟩,h2,λd=>?_,λd i hd hi=>hG.fresh d i (lv d hd).2 hi,λd d' i e h h'=>hG.sep d d' i e (lv d h).2 (lv d' h').2,hG.free⟩,h3 hl⟩
 .have e:j≠q.i:=by rintro rfl;rw[hF] at hb;cases hb
  rw[Heap.q0d _ e];exact hG.le.2 _ _ hb
 .rw[Qk];by_cases e:d=o
  .rw[z7 e];trivial
  .rw[z8 e];refine (hG.obj d).mono (.refl _) (λ_ _ h=>h) λhd i hi=>?_;have:i≠q.i:=by rintro rfl;exact hG.sep d o q.i e hd jR hi ky
   exact Heap.q0d _ this
theorem Ih (s:St) (o:Nat) (b:OB) (j:Nat):Q9 (s.make o b).own j=if j=o then b else (Q9 s.own j).kill o:=by
 simp only[St.make,Qk];by_cases h:j=o
 .subst h;simp
 .simp only[h,if_false,St.kill,Kb]
theorem Gam.enterLp {B F:Heap}{pl:Nat->Value}{tb:Nat->Option Bool}{s:St}{env:Env}{M:Heap}(hG:Gam P B F pl tb s env M) {o aL:Nat}{l:List SV}{q:LpD}(ho:Q9 s.own o=.lpf l q .rdy) (az:o≠aL)
  {args:List SV}{us:List Value}(ax:SRs P B pl tb args us) (ps:List Nat) :
  Gam P B (F.ins M q.i hG.le.1) (Jm pl aL poison) tb ⟨Dj (SVs.kill aL l) ps (SVs.kill aL args),oset (C3 aL env s).own o (.lpf (SVs.kill aL l) q .busy),s.nx⟩ (PA q.vals ps us) M:=by
 have q3:Gam P B F (Jm pl aL poison) tb (C3 aL env s) env M:=by refine hG.make aL _ poison hG.le (λ_ _ _ _ _=>rfl) ?_ (λi hl _=>by cases hl);exact SRs.upd (.refl _) (λ_ _ h=>h) (λj hj=>by simp[Jm,hj]) _ _ hG.env
 have ao:=hG.obj o;rw[ho] at ao;obtain⟨h1,h2,h3⟩:=ao;have jR:(Q9 s.own o).live=true:=by rw[ho];rfl
 have iE:Jm pl aL poison o=.pointer (some ⟨q.i,0,none⟩):=by simp[Jm,az,h1]
 have uY:Q9 (C3 aL env s).own o=.lpf (SVs.kill aL l) q .rdy:=by have:=Ih s aL (.stk (SVs.kill aL s.env) env) o;unfold C3;rw[this,z8 az,ho];rfl
 have oR:(Q9 (C3 aL env s).own o).live=true:=by rw[uY];rfl
 have ky:Oid (Jm pl aL poison o) q.i:=by rw[iE];rfl
 have hF:=q3.fresh o q.i oR ky;have ck:SRs P B (Jm pl aL poison) tb (SVs.kill aL l) q.vals:=SRs.upd (.refl _) (λ_ _ h=>h) (λj hj=>by simp[Jm,hj]) _ _ h2;have uZ:SRs P B (Jm pl aL poison) tb (SVs.kill aL args) us:=SRs.upd (.refl _) (λ_ _ h=>h) (λj hj=>by simp[Jm,hj]) _ _ ax;have lv:∀ d,(Q9 (oset (C3 aL env s).own o (.lpf (SVs.kill aL l) q .busy)) d).live=true->d≠o/\(Q9 (C3 aL env s).own d).live=true:=λd h=>by
  rw[Qk] at h;by_cases e:d=o
  .rw[z7 e] at h;cases h
  .rw[z8 e] at h;exact⟨e,h⟩
 refine⟨q3.bf.trans (hG.le.ins _),hG.le.q2b _,NU uZ ck,λd=>?_,λd i hd hi=>?_,λd d' i e h h'=>q3.sep d d' i e (lv d h).2 (lv d' h').2,q3.free⟩
 .show OR P B _ tb M _ (Q9 (oset _ o _) d);rw[Qk];by_cases e:d=o
  .subst e;rw[z7 rfl];exact⟨iE,ck,λh=>by cases h⟩
  .rw[z8 e];exact q3.obj d
 .obtain⟨e,sK⟩:=lv d hd;have:i≠q.i:=by rintro rfl;exact q3.sep d o q.i e sK oR hi ky
  rw[Heap.q1c _ _ _ this];exact q3.fresh d i sK hi
theorem Gam.leaveLp {B F:Heap}{pl:Nat->Value}{tb:Nat->Option Bool}{s:St}{env:Env}{M:Heap}(hG:Gam P B F pl tb s env M) {o aL:Nat}{l l2:List SV}{lu:List Value}{q:LpD}{b0:Blk}(hF:F.get q.i=some b0) (hB:B.get q.i=none)
  (h2:Q9 s.own aL=.stk l2 lu) (ho:Q9 s.own o=.lpf l q .busy) (u:LpS) :
  Gam P B (F.kill q.i) pl tb ⟨l2,oset (oset s.own aL .dead) o (.lpf l q u),s.nx⟩ lu (M.upd q.i (.obj (.lp q.vals q.r u.st u.pend) true)):=by
 have ao:=hG.obj o;rw[ho] at ao;obtain⟨k1,k2,_⟩:=ao;have hk:=hG.obj aL;rw[h2] at hk;have hi:q.i<M.n:=M.lt (hG.le.2 _ _ hF);have az:∀ {d i},(Q9 s.own d).live=true->Oid (pl d) i->i≠q.i:=λh1 h2 e=>by have:=hG.fresh _ _ h1 h2;subst e;rw[hF] at this;cases this
 have ky:∀ i,Oid (pl o) i->i=q.i:=λi h=>by rw[k1] at h;exact(osj h).symm
 have hg:∀ d,Q9 (oset (oset s.own aL .dead) o (.lpf l q u)) d=if d=o then .lpf l q u else if d=aL then .dead else Q9 s.own d:=λd=>by rw[Qk,Qk]
 have lv:∀ d,d≠o->(Q9 (oset (oset s.own aL .dead) o (.lpf l q u)) d).live=true->(Q9 s.own d).live=true:=λd e h=>by
  rw[hg,z8 e] at h;split at h
  .cases h
  .exact h
 refine⟨⟨hG.bf.1,λj b hb=>?_⟩,⟨hG.le.1,λj b hb=>?_⟩,hk,λd=>?_,λd i hd cB=>?_,λd d' i e h h' h1 jC=>?_,hG.free⟩
 .have e:j≠q.i:=by rintro rfl;rw[hB] at hb;cases hb
  rw[Heap.q0d _ e];exact hG.bf.2 _ _ hb
 .by_cases e:j=q.i
  .subst e;rw[Heap.q0g] at hb;cases hb
  .rw[Heap.q0d _ e] at hb;rw[Heap.q0b _ _ e];exact hG.le.2 _ _ hb
 .show OR P B pl tb _ _ (Q9 (oset _ o _) d);rw[hg];by_cases e:d=o
  .subst e;rw[z7 rfl];exact⟨k1,k2,λ_=>Heap.q0c _ _ hi⟩
  .rw[z8 e];split
   .trivial
   .exact(hG.obj d).mono (.refl _) (λ_ _ h=>h) λhd i hi=>Heap.q0b _ _ (az hd hi)
 .by_cases e:d=o
  .subst e;rw[ky i cB];exact Heap.q0g _ _
  .rw[Heap.q0d _ (az (lv d e hd) cB)];exact hG.fresh d i (lv d e hd) cB
 .by_cases e1:d=o
  .subst e1;have e2:d'≠d:=λh=>e h.symm;exact az (lv d' e2 h') jC (ky i h1)
  .by_cases e2:d'=o
   .subst e2;exact az (lv d e1 h) h1 (ky i jC)
   .exact hG.sep d d' i e (lv d e1 h) (lv d' e2 h') h1 jC
theorem Yj {C:Cx}(aB:COk P C) {L:List (Nat×LoopAnn)}(vc:VCode):∀ {B0 F0 D0:Heap}(n:Nat) (K:Exit->St->Prop) (s:St) (env:Env) (M:Heap) (ro:Option Nat) (Q:Exit->Env->Heap->Prop),Z2x F0 ro->GRel P B0 F0 D0 s env M->gwp C L vc n K s->(∀ e s' af M',K e s'->GRel P B0 F0 D0 s' af M'->Q e af M')->vwp (Q2 P) vc ro Q env M:=by
 induction vc with
 |skip=>intro B0 F0 D0 n K s env M ro Q bO hR h hK;exact hK _ _ _ _ h hR
 |region ops=>intro B0 F0 D0 n K s env M ro Q bO hR h hK;exact MI aB ops hR h λs' af M' h1 h2=>hK _ _ _ _ h1 h2
 |regionD aS=>intro B0 F0 D0 n K s env M ro Q bO hR h hK;exact WY aB aS hR h λs' af M' h1 h2=>hK _ _ _ _ h1 h2
 |rangeF g ps a b fk eG =>
  intro B0 F0 D0 n K s env M ro Q bO hR h hK;simp only[gwp] at h;split at h
  .rename_i f first dK hg
   split at h
   .
    rename_i x hx;obtain⟨B,F,pl,tb,hB,hG⟩:=hR;have gC:=hG.evs (Gds.nil (tb:=tb)) g;rw[hg] at gC;simp only[SR] at gC;obtain⟨x',y',bj,my,oS⟩:=gC;obtain⟨iN,nc⟩:=aB.iy f x hx;show vwp (Q2 P) (.rangeF g ps a b) ro Q env M;simp only[vwp,Lc,bj];have mz:(Q2 P).it f=some λi Y args M K=>KE P i Y->VCallsTo P f args M K:=by simp only[Q2];rw[z7 iN]
    rw[mz];refine⟨?_,λr hY=>?_⟩
    .cases ro with
     |none=>trivial
     |some i =>obtain⟨e1,r1,st1,rj,hi⟩:=bO;exact⟨e1,r1,st1,rj,hG.le.2 _ _ (hB.f.2 _ _ hi)⟩
    generalize kN:C.off+2000000+n=o at h;generalize fZ:100000*(o+1)-1=aL at h;have ai:o≠aL:=by omega
    let q:LpD:=⟨M.n,env,r⟩;let rdy:Blk:=.obj (.lp env r .ready none) true;let fB:Blk:=.obj (.lp env r .busy none) true;let p0:Value:=.pointer (some ⟨M.n,0,none⟩);have je:Gam P B F (Jm pl o p0) tb (Z5n o q s) env (M.push rdy):=by refine hG.push o (.lpf (SVs.kill o s.env) q .rdy) p0 rdy rfl ⟨rfl,SRs.upd (.refl _) (λ_ _ h=>h) (λj hj=>by simp[Jm,hj]) _ _ hG.env,λ_=>Heap.q0a _ _⟩
    have kl:∀ {xs us},SRs P B pl tb xs us->SRs P B (Jm pl o p0) tb (SVs.kill o xs) us:=λh=>SRs.upd (.refl _) (λ_ _ h=>h) (λj hj=>by simp[Jm,hj]) _ _ h;have ax:SRs P B (Jm pl o p0) tb (SVs.kill o first++(.dd o .yv::SVs.kill o dK)) (x'++(.func (.yield M.n) #[] #[]::y')):=by refine (kl my).append ?_;simp only[SRs,SR,DR];exact⟨_,_,rfl,⟨M.n,by simp[Jm,p0],rfl⟩,kl oS⟩
    have u1:Q20 P o (Oi o aL ps.length q (λK' s'=>gwp C L a n (Q14 (λs3=>gwp C L b n K' s3) λ_ _=>False) s') ps):=by
     intro B F pl tb s af M args us K R i hG ha hy iE hK;unfold Oi at hy;split at hy
     .rename_i l q' u ho;split at hy
      .cases hlen:Nat.beq args.length ps.length with
       |false=>rw[hlen] at hy;exact hy.elim
       |true =>
       rw[hlen] at hy;simp only[zj] at hy;obtain⟨rfl,hy⟩:=hy;have ao:=hG.obj o;rw[ho] at ao;have hi:i=q.i:=by have h1:=ao.1;rw[iE] at h1;have:=osj (Value.pointer.inj h1);exact(Addr.mk.inj this).1
       subst hi;have mA:M.get q.i=some rdy:=ao.2.2 rfl;have jR:(Q9 s.own o).live=true:=by rw[ho];rfl
       have nh:F.get q.i=none:=hG.fresh o q.i jR (by rw[ao.1];rfl);have sL:B.get q.i=none:=by
        cases hb:B.get q.i with
        |none=>rfl
        |some b=>rw[hG.bf.2 _ _ hb] at nh;cases nh
       have lC:=hG.enterLp ho ai ha ps;have jg:(F.ins M q.i hG.le.1).get q.i=some rdy:=by rw[Heap.q0n];exact mA
       have fQ:(F.ins M q.i hG.le.1).n=M.n:=rfl;have aO:q.i<M.n:=M.lt mA;refine hY us M R ⟨mA,by rw[<-ha.length];exact(zM hlen),?_⟩;refine fk (B0:=B) (F0:=F.ins M q.i hG.le.1) (D0:=M) n _ _ _ M (some q.i) _ ⟨env,r,_,_,jg⟩ ⟨B,_,_,tb,.of lC.bf (Dead.refl _),lC⟩ (hy af) λe s3 rk σ3 h7 h8=>?_;cases e with
       |normal =>
        have jZ:σ3.get q.i=some rdy:=by obtain⟨B',F',pl',tb',q1,q2⟩:=h8;exact q2.le.2 _ _ (q1.f.2 _ _ jg)
        refine⟨jZ,?_⟩;have h9:=h8.lpUpd (b:=fB) jg sL;have ni:((F.ins M q.i hG.le.1).upd q.i fB).get q.i=some fB:=Heap.q0c _ _ (by rw[fQ];exact aO);refine eG (B0:=B) (F0:=(F.ins M q.i hG.le.1).upd q.i fB) (D0:=M) n _ _ _ _ (some q.i) _ ⟨env,r,_,_,ni⟩ h9 h7 λe s4 rn σ4 bT gg=>?_;obtain⟨B',F',pl',tb',q1,q2⟩:=gg;have pN:=q1.f.2 _ _ ni;have rp:=q1.x _ _ ni sL;have oT:σ4.get q.i=some fB:=q2.le.2 _ _ pN;unfold gyK at bT;split at bT
        .rename_i l2 lu l3 q3 u3 av rr;split at bT
         .obtain⟨rfl,rfl,bT⟩:=bT;have base:∀ b,GBase B F M B' (F'.kill q.i) (σ4.upd q.i b):=λb=>by
           refine⟨q1.b,⟨?_,λj c hc=>?_⟩,λj c h1 h2=>?_,q1.d.trans (Dead.upd _ _ _ (by rw[oT];rfl))⟩
           .have h1:=q1.f.1;have h2:=hG.le.1;show F.n<=F'.n;have h3:((F.ins M q.i hG.le.1).upd q.i fB).n=M.n:=rfl;omega
           .have e:j≠q.i:=by rintro rfl;rw[nh] at hc;cases hc
            rw[Heap.q0d _ e];refine q1.f.2 _ _ ?_;rw[Heap.q0b _ _ e,Heap.q1c _ _ _ e];exact hc
           .have e:j≠q.i:=by rintro rfl;rw[nh] at h1;cases h1
            refine q1.x j c ?_ h2;rw[Heap.q0b _ _ e,Heap.q1c _ _ _ e];exact h1
          refine⟨oT,?_⟩;cases e with
          |normal=>exact hK _ _ B' _ pl' tb' _ _ bT (base _) (q2.leaveLp pN rp av rr .rdy) (by simp[SR,KC])
          |ret=>exact hK _ _ B' _ pl' tb' _ _ bT (base _) (q2.leaveLp pN rp av rr .ret) (by simp[SR,KC])
          |exit id=>exact hK _ _ B' _ pl' tb' _ _ bT (base _) (q2.leaveLp pN rp av rr (.exit id)) (by simp[SR,KC])
          |_=>exact bT.elim
         .exact bT.elim
        .exact bT.elim
       |_=>exact h7.elim
      .exact hy.elim
     .exact hy.elim
    have aT:=nc B F _ tb _ env (M.push rdy) o _ _ _ (Q6c o q K) (λU=>Q0d Q env M.n poison U) je ax u1 (h q) λs' B' F' pl' tb' af M' hk hb dS=>by
     unfold Q6c at hk;split at hk
     .rename_i l q' u ho;have fin:∀ {e:Exit},u.live=true->q'=q->K e ⟨l,oset s'.own o .dead,s'.nx⟩->Q e env (M'.kill M.n)/\M'.get M.n=some (.obj (.lp env r u.st u.pend) true):=λ{e} hu hq u2=>by
       subst hq;obtain⟨g1,g2⟩:=dS.dropLp ho hu;refine⟨hK _ _ _ _ u2 ⟨B',F',pl',tb',⟨hB.b.trans hb.b,hB.f.trans hb.f,λj c h1 h2=>hb.x j c (hB.f.2 _ _ h1) (hB.x j c h1 h2),hB.d.trans ((Dead.push _ _).trans (hb.d.trans (Dead.kill _ _)))⟩,g1⟩,g2⟩
      cases u with
      |busy=>exact hk.elim
      |rdy =>obtain⟨hq,hk⟩:=hk;obtain⟨k1,k2⟩:=fin rfl hq hk;unfold Q0d;rw[k2];exact⟨(by intro h;cases h),k1⟩
      |ret =>obtain⟨hq,hk⟩:=hk;obtain⟨k1,k2⟩:=fin rfl hq hk;unfold Q0d;rw[k2];exact⟨(by intro h;cases h),k1⟩
      |exit id =>obtain⟨hq,hk⟩:=hk;obtain⟨k1,k2⟩:=fin rfl hq hk;unfold Q0d;rw[k2];exact⟨(by intro h;cases h),k1⟩
     .exact hk.elim
    refine VCallsTo.mono (R:=λ_ U=>Q0d Q env M.n poison U) (by simpa using aT) λv U h=>h
   split at h
   rotate_left
   .exact h.elim
   split at h
   .rename_i it s1 cP A gU ru hA;split at h
    .rename_i c m ar xs hc;cases ez:Nat.beq ps.length ar with
     |false=>rw[ez] at h;exact h.elim
     |true =>
     rw[ez] at h;simp only[zj] at h;obtain⟨dB,p,d0,eN,I,u4,sM,sN⟩:=h;have ez:=zM ez;have hlen:s.env.length=env.length:=by obtain⟨B,F,pl,tb,_,hG⟩:=hR;exact hG.env.length
     rw[hlen] at sM sN;have oI:=hR;obtain⟨B,F,pl,tb,hB,hG⟩:=hR;have gC:=hG.evs Gds.nil g;rw[hg] at gC;simp only[SR] at gC;obtain⟨x,y,bj,hx,hy⟩:=gC;simp only[SRs] at hx;subst hx;obtain⟨B1,F1,oU,gZ,u5,iv⟩:=Bz hG hy ru;obtain⟨iN,rv⟩:=aB.it f it gU;obtain⟨oV,ry⟩:=rv B1 cP y c m ar xs u5 hc dB;have u6:GRel P B1 F1 D0 (Za (List.length env) (A.st p d0) (A.own p d0)) env M:=Un ⟨B1,F1,pl,tb,⟨.refl _,.refl _,λ_ _ _ h=>h,(hB.trans oU).d⟩,gZ⟩ eN;have lD:B1.get M.n=none:=B1.wf _ gZ.leB.1;have pO:F1.get M.n=none:=F1.wf _ gZ.le.1;show vwp (Q2 P) (.rangeF g ps a b) ro Q env M;simp only[vwp,Lc,bj];have mz:(Q2 P).it f=some λi Y args M K=>KE P i Y->VCallsTo P f args M K:=by simp only[Q2];rw[z7 iN]
     rw[mz];refine⟨?_,λr hY=>?_⟩
     .cases ro with
      |none=>trivial
      |some i =>obtain⟨e1,r1,st1,rj,hi⟩:=bO;exact⟨e1,r1,st1,rj,hG.le.2 _ _ (hB.f.2 _ _ hi)⟩
     .let rdy:Blk:=.obj (.lp env r .ready none) true;let fB:Blk:=.obj (.lp env r .busy none) true;have lE:F1.Le (M.push rdy):=gZ.le.push rdy;let Fr:=F1.ins (M.push rdy) M.n lE.1;have jg:Fr.get M.n=some rdy:=by
       show (F1.ins _ _ _).get M.n=_;rw[Heap.q0n,Heap.q0a]
      have fQ:Fr.n=M.n+1:=rfl;have u7:F1.Le Fr:=lE.ins M.n;let J:Nat->Heap->Prop:=λk U=>∃ d,I k d/\GRel P B1 Fr D0 (Za (List.length env) (A.st p d) (A.own p d)) env U;let E:Heap->Prop:=λU=>∃ cd e,U.get M.n=some (.obj (.lp env r .done (some cd)) true)/\((cd=.ret/\e=Exit.ret)\/∃ id,cd=.exit id/\e=Exit.exit id)/\Q e env (U.kill M.n);have back:∀ {s':St}{U:Heap},GRel P B1 (Fr.upd M.n fB) D0 s' env U->∀ b,GRel P B1 ((Fr.upd M.n fB).upd M.n b) D0 s' env (U.upd M.n b):=λh b =>
       h.lpUpd (b0:=fB) (Heap.q0c _ _ (by rw[fQ];omega)) lD
      have jh:∀ {Fx:Heap}{b0:Blk}{s':St}{U:Heap},Fx.get M.n=some b0->(∀ i,i≠M.n->Fx.get i=F1.get i)->Fx.n=M.n+1->GRel P B1 Fx D0 s' env U->GRel P B0 F0 D0 s' env (U.kill M.n):=λ{Fx b0 s' U} h1 h2 h3 h4=>by
       refine (h4.lpKill h1 lD).base (hB.b.trans oU.b) ⟨?_,λi b hb=>?_⟩ λi b k1 k2=>(hB.trans oU).x i b k1 k2
       .show F0.n<=Fx.n;rw[h3];have:=(hB.trans oU).f.1;have:=gZ.le.1;omega
       .have bz:=(hB.trans oU).f.2 _ _ hb;have e:i≠M.n:=by rintro rfl;rw[pO] at bz;cases bz
        rw[Heap.q0d _ e,h2 i e];exact bz
      have kz:∀ i,i≠M.n->Fr.get i=F1.get i:=λi e=>Heap.q1c _ _ _ e;have aT:=ry M.n _ J E (M.push rdy) hY (λk U ⟨d,_,hd⟩=>?_) (λk us U hk ⟨d,rz,hd⟩ dp=>?_) ⟨d0,u4,?_⟩
      .refine VCallsTo.mono (R:=λ_ U=>J m U\/E U) (by simpa using aT) λv U n7=>?_;unfold Q0d;rcases n7 with⟨d,rz,hd⟩|⟨cd,e,h1,h2,h3⟩
       .have mA:U.get M.n=some rdy:=by
         obtain⟨B',F',pl',tb',q1,q2⟩:=hd;exact q2.le.2 _ _ (q1.f.2 _ _ jg)
        rw[mA];exact⟨(by intro h;cases h),hK _ _ _ _ (sN d rz) (jh jg kz fQ hd)⟩
       .rw[h1];refine⟨(by intro h;cases h),?_⟩;rcases h2 with⟨rfl,rfl⟩|⟨id,rfl,rfl⟩<;>exact h3
      .obtain⟨B',F',pl',tb',q1,q2⟩:=hd;exact q1.b.trans q2.leB
      .
       have mA:U.get M.n=some rdy:=by obtain⟨B',F',pl',tb',q1,q2⟩:=hd;exact q2.le.2 _ _ (q1.f.2 _ _ jg)
       refine⟨mA,by rw[ez,<-(oV k).1,dp.length],?_⟩;have hF:=sM k d hk rz env;have a_:GRel P B1 Fr D0 ⟨Dj (C3 (2000000+n) env (Za (List.length env) (A.st p d) (A.own p d))).env ps (xs k),(C3 (2000000+n) env (Za (List.length env) (A.st p d) (A.own p d))).own,0⟩ (PA env ps us) U:=by
        obtain⟨B',F',pl',tb',q1,q2⟩:=hd;have q3:Gam P B' F' (Jm pl' (2000000+n) poison) tb' (C3 (2000000+n) env (Za (List.length env) (A.st p d) (A.own p d))) env U:=by refine q2.make (2000000+n) _ poison q2.le (λ_ _ _ _ _=>rfl) ?_ (λi hl _=>by cases hl);exact SRs.upd (.refl _) (λ_ _ h=>h) (λj hj=>by simp[Jm,hj]) _ _ q2.env
        refine⟨B',F',Jm pl' (2000000+n) poison,tb',q1,⟨q3.bf,q3.le,NU ?_ q3.env,q3.obj,q3.fresh,q3.sep,?_⟩⟩
        .exact SRs.mono q1.b (λ_ _ h=>h) _ _ (QI _ _ (oV k).2 dp)
        .exact q3.free
       refine fk (B0:=B1) (F0:=Fr) n _ _ _ U (some M.n) _ ⟨env,r,_,_,jg⟩ a_ hF λe s3 rk σ3 h7 h8=>?_;cases e with
       |normal =>
        have jZ:σ3.get M.n=some rdy:=by obtain⟨B',F',pl',tb',q1,q2⟩:=h8;exact q2.le.2 _ _ (q1.f.2 _ _ jg)
        refine⟨jZ,?_⟩;have h9:=h8.lpUpd (b:=fB) jg lD;have ni:(Fr.upd M.n fB).get M.n=some fB:=Heap.q0c _ _ (by rw[fQ];omega);refine eG (B0:=B1) (F0:=Fr.upd M.n fB) n _ _ _ _ (some M.n) _ ⟨env,r,_,_,ni⟩ h9 h7 λe s4 rn σ4 bT gg=>?_;have oT:σ4.get M.n=some fB:=by obtain⟨B',F',pl',tb',q1,q2⟩:=gg;exact q2.le.2 _ _ (q1.f.2 _ _ ni)
        have sO:M.n<σ4.n:=σ4.lt oT;unfold IH at bT;split at bT
        .rename_i l vs gN;obtain⟨rfl,bT⟩:=bT;have cU:GRel P B1 (Fr.upd M.n fB) D0 ⟨l,s4.own,s4.nx⟩ vs σ4:=by
          obtain⟨B',F',pl',tb',q1,q2⟩:=gg;have:=q2.obj (2000000+n);rw[gN] at this;exact⟨B',F',pl',tb',q1,q2.bf,q2.le,this,q2.obj,q2.fresh,q2.sep,q2.free⟩
         have mB:∀ b,((Fr.upd M.n fB).upd M.n b).get M.n=some b:=λb=>Heap.q0c _ _ (by show M.n<Fr.n;rw[fQ];omega);have rA:∀ b i,i≠M.n->((Fr.upd M.n fB).upd M.n b).get i=F1.get i:=λb i e=>by rw[Heap.q0b _ _ e,Heap.q0b _ _ e,kz i e]
         refine⟨oT,?_⟩;cases e with
         |normal =>
          obtain⟨d',ov,pJ⟩:=bT;refine .inl ⟨rfl,d',pJ,?_⟩;have:=(back (Un cU ov) rdy).base (B0:=B1) (F0:=Fr) (.refl _) ⟨ze _,λi b hb=>?_⟩ λi b k1 k2=>k2
          .exact this
          .by_cases e:i=M.n
           .subst e;rw[jg] at hb;rw[mB];exact hb
           .rw[rA _ _ e,<-kz i e];exact hb
         |ret =>refine .inr ⟨rfl,_,_,Heap.q0c _ _ sO,.inl ⟨rfl,rfl⟩,hK _ _ _ _ bT (jh (mB _) (rA _) (by show Fr.n=_;exact fQ) (back cU _))⟩
         |exit id =>refine .inr ⟨rfl,_,_,Heap.q0c _ _ sO,.inr ⟨id,rfl,rfl⟩,hK _ _ _ _ bT (jh (mB _) (rA _) (by show Fr.n=_;exact fQ) (back cU _))⟩
         |_=>exact bT.elim
        .exact bT.elim
       |_=>exact h7.elim
      .
       obtain⟨B',F',pl',tb',q1,q2⟩:=u6;have hle:F'.Le (M.push rdy):=q2.le.push rdy;have u9:F'.get M.n=none:=F'.wf _ q2.le.1;have ao:∀ d i,(Q9 (Za (List.length env) (A.st p d0) (A.own p d0)).own d).live=true->Oid (pl' d) i->i<M.n:=λd i h1 h2=>(q2.obj d).q0w h1 h2;refine⟨B',F'.ins (M.push rdy) M.n hle.1,pl',tb',⟨q1.b,Heap.q2c q1.f _ _ _,λi b k1 k2=>?_,q1.d.trans (Dead.push _ _)⟩,⟨q2.bf.trans (hle.ins _),hle.q2b _,q2.env,λd=>(q2.obj d).mono (.refl _) (λ_ _ h=>h) λh1 i h2=>Heap.q0i _ _ (ao d i h1 h2),λd i h1 h2=>?_,q2.sep,q2.free⟩⟩
       .by_cases e:i=M.n
        .subst e;exact B'.wf _ q2.leB.1
        .rw[kz i e] at k1;exact q1.x i b k1 k2
       .rw[Heap.q1c _ _ _ (Nat.ne_of_lt (ao d i h1 h2))];exact q2.fresh d i h1 h2
    .exact h.elim
   .exact h.elim
  .exact h.elim
 |bad=>intro B0 F0 D0 n K s env M ro Q bO hR h hK;exact h.elim
 |ret=>intro B0 F0 D0 n K s env M ro Q bO hR h hK;exact hK _ _ _ _ h hR
 |exit id=>intro B0 F0 D0 n K s env M ro Q bO hR h hK;exact hK _ _ _ _ h hR
 |seq a b fk eG =>
  intro B0 F0 D0 n K s env M ro Q bO hR h hK;refine fk n _ s env M ro _ bO hR h λe s' af M' h1 h2=>?_;cases e with
  |normal=>exact eG n K s' af M' ro Q bO h2 h1 hK
  |_=>exact hK _ _ _ _ h1 h2
 |cond c a b fk eG =>
  intro B0 F0 D0 n K s env M ro Q bO hR h hK;simp only[gwp] at h;split at h
  .rename_i t ht;have oI:=hR;obtain⟨B,F,pl,tb,hB,hG⟩:=hR;have:=NT hG ht;simp only[vwp,this,Ln];cases t with
   |true=>exact⟨λ_=>fk n K s env M ro Q bO oI h hK,λe=>by cases e⟩
   |false=>exact⟨(λe=>by cases e),λ_=>eG n K s env M ro Q bO oI h hK⟩
  split at h
  .rename_i t ht;obtain⟨B,F,pl,tb,hB,hG⟩:=hR;have:=XH ht (hG.evs Gds.nil c);simp only[vwp,this,Ln];split at h
   .rename_i A hA;obtain⟨p,I,hF,hI⟩:=h;have fin:∀ e s' af M',Q6j s.env.length A p I K e s'->GRel P B0 F0 D0 s' af M'->Q e af M':=λe s' af M' h1 h2=>by
     cases e with
     |normal =>obtain⟨d,h3,h4⟩:=h1;exact hK _ _ _ _ (hI d h4) (UX h2 h3)
     |_=>exact hK _ _ _ _ h1 h2
    exact⟨λe=>fk n _ s env M ro Q bO ⟨B,F,pl,tb,hB,hG⟩ (hF.1 e) fin,λe=>eG n _ s env M ro Q bO ⟨B,F,pl,tb,hB,hG⟩ (hF.2 e) fin⟩
   exact⟨λe=>fk n K s env M ro Q bO ⟨B,F,pl,tb,hB,hG⟩ (h.1 e) hK,λe=>eG n K s env M ro Q bO ⟨B,F,pl,tb,hB,hG⟩ (h.2 e) hK⟩
  .exact h.elim
 |block id b ih =>
  intro B0 F0 D0 n K s env M ro Q bO hR h hK;refine ih id _ s env M ro _ bO hR h λe s' af M' h1 h2=>?_;cases e with
  |exit iG =>
   simp only[I9] at h1;simp only[SC];split
   .rename_i e;rw[z7 e] at h1;exact hK _ _ _ _ h1 h2
   .rename_i e;rw[z8 e] at h1;exact hK _ _ _ _ h1 h2
  |_=>exact hK _ _ _ _ h1 h2
 |loop b ih =>
  intro B0 F0 D0 n K s env M ro Q bO hR h hK;simp only[gwp] at h;split at h
  .rename_i A hA;obtain⟨p,d0,h1,I,μ,h2,h3⟩:=h;have hlen:s.env.length=env.length:=by obtain⟨B,F,pl,tb,_,hG⟩:=hR;exact hG.env.length
   have hk:∀ d,(A.st p d).map (·.1)=A.sl:=λd=>P1 _ _;refine⟨A.sl,λm vs M'=>∃ d,I d/\μ d=m/\GRel P B0 F0 D0 (Za s.env.length (A.st p d) (A.own p d)) (Xj A.sl vs (List.replicate env.length poison)) M',μ d0,⟨d0,h2,rfl,?_⟩,λm vs M' ⟨d,h4,h5,h6⟩=>?_⟩
   .have:=H5 hR h1 s.env.length;rw[hk d0,hlen] at this;rw[hlen];exact this
   .refine ih n _ _ _ M' ro _ bO h6 (h3 d h4) λe s' af aE h7 h8=>?_;cases e with
    |normal =>
     simp only[Q3d] at h7;cases oi:Z49 s'.own with
     |false=>rw[oi] at h7;exact h7.elim
     |true =>
     rw[oi] at h7;obtain⟨d',h9,bT,gg⟩:=h7;refine⟨μ d',by omega,d',bT,rfl,?_⟩;have:=H5 h8 h9 s.env.length;rw[hk d',hlen] at this;rw[hlen];exact this
    |_=>exact hK _ _ _ _ h7 h8
  .exact h.elim
end
end Go.V
namespace Go.V
open Go
def LX (s:St):VResult->Option SV
 |.tmp t=>some (s.env.getD t .any)
 |.cell a agg size=>bif Nat.blt 0 size then Q1x s.own agg size (s.env.getD a .any) else none
def JJ (s:St) (rs:List VResult):Option SV :=
 match rs with
 |[r]=>LX s r
 |rs=>(rs.mapM (LX s)).map .tup
def Q3b (mp:List (Nat×Option Nat)) (j:Nat) (a:Option Nat):Option (List (Nat×Option Nat)) :=
 if (Qs mp j).isSome then none else match a with
 |some x=>if mp.any λp=>p.2==some x then none else some (mp++[(j,a)])
 |none=>some (mp++[(j,a)])
mutual
def Fj:SV->SV->List (Nat×Option Nat)->Option (List (Nat×Option Nat))
 |.lst j,v,mp=>match v with|.lst a=>Q3b mp j (some a)|.nilS=>Q3b mp j none|_=>none
 |.map j,v,mp=>match v with|.map a=>Q3b mp j (some a)|_=>none
 |.dd j w,v,mp=>match w with
  |.out=>(match v with
   |.dd a w'=>(match w' with|.out=>Q3b mp j (some a)|_=>none)
   |.nilS=>Q3b mp j none
   |_=>none)
  |_=>none
 |.box j _,v,mp=>match v with|.box a _=>Q3b mp j (some a)|_=>none
 |.agg l,v,mp=>match v with|.agg l'=>EI l l' mp|_=>none
 |.tup l,v,mp=>match v with|.tup l'=>EI l l' mp|_=>none
 |.any,_,mp=>some mp
 |.val _ _,_,mp=>some mp
 |.nilS,_,mp=>some mp
 |.nilP,_,mp=>some mp
 |.nilM,_,mp=>some mp
 |.nilF,_,mp=>some mp
 |.sub _ _ _ _,_,_|.elp _ _ _ _,_,_|.grd _ _,_,_|.cp _ _,_,_|.fn _ _ _,_,_|.rop _ _ _ _,_,_|.pf _ _ _ _,_,_|.bid _ _,_,_=>none
def EI:List SV->List SV->List (Nat×Option Nat)->Option (List (Nat×Option Nat))
 |[],_,mp=>some mp
 |s::ss,l,mp=>match l with
  |v::vs=>match Fj s v mp with|some mp=>EI ss vs mp|none=>none
  |[]=>none
end
def Fo (s:St) (mp:List (Nat×Option Nat)):Nat->List OB->Prop
 |_,[]=>True
 |j,b::r=>Fm s mp j b/\Fo s mp (j+1) r
def VF (rs:List VResult) (v:SV) (bs:List OB):Exit->St->Prop:=λe s =>
 let fin:=match JJ s rs with
  |some r=>(match Fj v r [] with
   |some mp=>BK mp v r/\Fo s mp 0 bs
   |none=>False)
  |none=>False
 match e with
 |.normal=>fin
 |.ret=>fin
 |_=>False
section
variable {P:Program}{B F:Heap}{pl:Nat->Value}{tb:Nat->Option Bool}{s:St}{env:Env}{M:Heap}
theorem Pc (hG:Gam P B F pl tb s env M) {r:VResult}{v:SV}(h:LX s r=some v):∃ u,Ju env M r=some u/\SR P B pl tb v u:=by
 cases r with
 |tmp t=>obtain rfl:=osj h;exact⟨_,rfl,hG.env.getD t undef⟩
 |cell a agg size =>
  simp only[LX] at h;cases hb:Nat.blt 0 size with
  |false=>rw[hb] at h;cases h
  |true =>rw[hb] at h;obtain⟨i,o,c,e,wr,t,u,h1,h2,h3,h4⟩:=HQ hG.leB hG.obj (by simpa [zL] using hb) h (hG.env.getD a undef);refine⟨u,?_,h4⟩;simp only[Ju,Q7,Q3,h1,h2,h3];rfl
theorem Z_ (hG:Gam P B F pl tb s env M) {rs:List VResult}{v:SV}(h:JJ s rs=some v):∃ u,Zv env M rs=some u/\SR P B pl tb v u:=by
 have all:∀ (rs:List VResult) (l:List SV),rs.mapM (LX s)=some l->∃ us,rs.mapM (Ju env M)=some us/\SRs P B pl tb l us:=by
  intro rs;induction rs with
  |nil=>intro l h;simp at h;subst h;exact⟨[],rfl,rfl⟩
  |cons r rs ih =>
   intro l h;rw[xp] at h;cases h1:LX s r with
   |none=>simp[h1] at h
   |some a =>
    cases h2:rs.mapM (LX s) with
    |none=>simp[h1,h2] at h
    |some l' =>simp[h1,h2] at h;subst h;obtain⟨u,h3,h4⟩:=Pc hG h1;obtain⟨us,h5,h6⟩:=ih l' h2;exact⟨u::us,by rw[xp];simp[h3,h5],by simp only[SRs];exact⟨u,us,rfl,h4,h6⟩⟩
 have tup:(rs.mapM (LX s)).map SV.tup=some v->∃ u,(rs.mapM (Ju env M)).map (λvs=>Value.tuple vs.toArray)=some u/\SR P B pl tb v u:=λh=>by simp only[zw] at h;obtain⟨l,h1,rfl⟩:=h;obtain⟨us,h2,h3⟩:=all rs l h1;exact⟨.tuple us.toArray,by rw[h2];rfl,by simp only[SR];exact⟨us,rfl,h3⟩⟩
 match rs,h,tup with
 |[r],h,_=>exact Pc hG h
 |[],h,tup=>exact tup h
 |_::_::_,h,tup=>exact tup h
theorem MQ {mp cg:List (Nat×Option Nat)}{j:Nat}{a:Option Nat}(h:Q3b mp j a=some cg) (hi:Inj mp):Inj cg:=by
 unfold Q3b at h;split at h
 .cases h
 .split at h
  .rename_i x;split at h
   .cases h
   .rename_i hc;obtain rfl:=osj h;have cU:∀ d,Qs mp d≠some (some x):=λd hd=>by
     obtain⟨p,h1,h2,h3⟩:=Lw hd;exact hc (xu.2 ⟨p,h1,by rw[h3];simp⟩)
    intro t1 t2 a' h1 h2;rw[Vl] at h1 h2;split at h1
    .rename_i y1 e1;split at h2
     .rename_i y2 e2;obtain rfl:=osj h1;obtain rfl:=osj h2;exact hi t1 t2 a' e1 e2
     .split at h2
      .obtain rfl:=osj (osj h2);obtain rfl:=osj h1;exact absurd e1 (cU t1)
      .cases h2
    .split at h1
     .obtain rfl:=osj (osj h1);split at h2
      .rename_i y2 e2;obtain rfl:=osj h2;exact absurd e2 (cU t2)
      .split at h2
       .omega
       .cases h2
     .cases h1
  .obtain rfl:=osj h;intro t1 t2 a' h1 h2;rw[Vl] at h1 h2;split at h1
   .rename_i y1 e1;split at h2
    .rename_i y2 e2;obtain rfl:=osj h1;obtain rfl:=osj h2;exact hi t1 t2 a' e1 e2
    .split at h2<;>cases h2
   .split at h1<;>cases h1
mutual
theorem RM:∀ (v r:SV) (mp cg:List (Nat×Option Nat)),Fj v r mp=some cg->Inj mp->Inj cg
 |.lst j,r,mp,cg,h,hi=>by
  simp only[Fj] at h;split at h
  .exact MQ h hi
  .exact MQ h hi
  .cases h
 |.map j,r,mp,cg,h,hi=>by
  simp only[Fj] at h;split at h
  .exact MQ h hi
  .cases h
 |.dd j w,r,mp,cg,h,hi=>by
  simp only[Fj] at h;split at h
  .split at h
   .split at h
    .exact MQ h hi
    .cases h
   .exact MQ h hi
   .cases h
  .cases h
 |.box j _,r,mp,cg,h,hi=>by
  simp only[Fj] at h;split at h
  .exact MQ h hi
  .cases h
 |.agg l,r,mp,cg,h,hi=>by
  simp only[Fj] at h;split at h
  .exact PK l _ mp cg h hi
  .cases h
 |.tup l,r,mp,cg,h,hi=>by
  simp only[Fj] at h;split at h
  .exact PK l _ mp cg h hi
  .cases h
 |.any,r,mp,cg,h,hi|.val _ _,r,mp,cg,h,hi|.nilS,r,mp,cg,h,hi|.nilP,r,mp,cg,h,hi|.nilM,r,mp,cg,h,hi|.nilF,r,mp,cg,h,hi=>by simp only[Fj] at h;obtain rfl:=osj h;exact hi
 |.sub _ _ _ _,r,mp,cg,h,hi|.elp _ _ _ _,r,mp,cg,h,hi|.grd _ _,r,mp,cg,h,hi|.cp _ _,r,mp,cg,h,hi|.fn _ _ _,r,mp,cg,h,hi|.rop _ _ _ _,r,mp,cg,h,hi|.pf _ _ _ _,r,mp,cg,h,hi|.bid _ _,r,mp,cg,h,hi=>by cases h
theorem PK:∀ (v r:List SV) (mp cg:List (Nat×Option Nat)),EI v r mp=some cg->Inj mp->Inj cg
 |[],r,mp,cg,h,hi=>by simp only[EI] at h;obtain rfl:=osj h;exact hi
 |s::ss,[],mp,cg,h,hi=>by cases h
 |s::ss,r::rs,mp,cg,h,hi=>by
  simp only[EI] at h;split at h
  .rename_i sP h1;exact PK ss rs sP cg h (RM s r mp sP h1 hi)
  .cases h
end
theorem Pd {mp:List (Nat×Option Nat)}:∀ (bs:List OB) (n:Nat),Fo s mp n bs->∀ j b,bs[j]?=some b->Fm s mp (n+j) b
 |[],n,_,j,b,hj=>by simp at hj
 |b0::r,n,h,j,b,hj=>by
  obtain⟨h1,h2⟩:=h;cases j with
  |zero=>simp at hj;subst hj;exact h1
  |succ j =>
   have:=Pd r (n+1) h2 j b (by simpa using hj)
   rwa [zt,xP 1 j] at this
mutual
theorem AB {n:Nat}{π:Nat->Nat}:∀ (v:SV) (u:Value),v.ret 0=true->SR P B pl tb v u->Ren n π u u
 |.val k x,u,h,hs=>by
  simp only[SR] at hs;cases k with
  |i ik=>simp only[KC] at hs;obtain rfl:=(zR hs).1;exact .plain _ rfl
  |bo=>simp only[KC] at hs;obtain rfl:=(zR hs).1;exact .plain _ rfl
  |st=>simp only[KC] at hs;obtain rfl:=(zR hs).1;exact .plain _ rfl
  |list k=>cases h
  |pair a b =>have h1:=KC.length hs;have h2:=a.size_pos;have h3:=b.size_pos;simp only[Kind.size,xr] at h1;omega
 |.nilS,u,_,hs|.nilP,u,_,hs|.nilM,u,_,hs|.nilF,u,_,hs=>by simp only[SR] at hs;subst hs;exact .plain _ rfl
 |.lst j,u,h,_|.box j _,u,h,_|.map j,u,h,_=>by simp[SV.ret,zL] at h
 |.dd j w,u,h,_=>by cases w<;>simp[SV.ret,zL] at h
 |.agg l,u,h,hs=>by simp only[SR] at hs;obtain⟨cs,rfl,h2⟩:=hs;have:=HU (n:=n) (π:=π) l cs h h2;exact .agg _ _ rfl λi h3 _=>this _ (by simp)
 |.tup l,u,h,hs=>by simp only[SR] at hs;obtain⟨cs,rfl,h2⟩:=hs;have:=HU (n:=n) (π:=π) l cs h h2;exact .tuple _ _ rfl λi h3 _=>this _ (by simp)
 |.any,_,h,_|.bid _ _,_,h,_|.grd _ _,_,h,_|.sub _ _ _ _,_,h,_|.elp _ _ _ _,_,h,_|.rop _ _ _ _,_,h,_|.cp _ _,_,h,_|.fn _ _ _,_,h,_|.pf _ _ _ _,_,h,_=>by cases h
theorem HU {n:Nat}{π:Nat->Nat}:∀ (v:List SV) (u:List Value),SVs.ret 0 v=true->SRs P B pl tb v u->∀ x∈u,Ren n π x x
 |[],u,_,hs=>by simp only[SRs] at hs;subst hs;intro x hx;cases hx
 |s::ss,u,h,hs=>by
  simp only[SVs.ret,z6] at h;simp only[SRs] at hs;obtain⟨x,y,rfl,h1,h2⟩:=hs;intro z hz;rcases zn.1 hz with rfl|hz
  .exact AB s z h.1 h1
  .exact HU ss y h.2 h2 z hz
end
theorem Ez (exact:Bool) {σ0:Heap}{sf:St}{mC:Env}{σf:Heap}(hR:GRel P σ0 σ0 σ0 sf mC σf) {rs:List VResult}{v:SV}{bs:List OB}{e:Exit}(hv:v.ret bs.length=true) (hb:bs.all OB.ret=true) (h:VF rs v bs e sf) (hx:exact=true->bs.all OB.isL=true/\VB v=true) :
  Z20 σ0 rs (λu M'=>if exact then u=VG (R0 σ0 bs) v/\M'=Hr σ0 bs else Ret P σ0 v bs u M') e mC σf:=by
 have main:(match JJ sf rs with
  |some r=>(match Fj v r [] with
   |some mp=>BK mp v r/\Fo sf mp 0 bs
   |none=>False)
  |none=>False)->QX (Zv mC σf rs) λu=>∃ v' M',DropTo σ0 u σf v' M'/\(if exact then v'=VG (R0 σ0 bs) v/\M'=Hr σ0 bs else Ret P σ0 v bs v' M'):=λh=>by
  split at h
  .rename_i r hr;split at h
   .rename_i mp ku;obtain⟨h1,h2⟩:=h;obtain⟨B,F,pl,tb,⟨hB,hF,_,hd⟩,hG⟩:=hR;obtain⟨u,h3,h4⟩:=Z_ hG hr;have iC:=Y6 v r u h1 h4;have eg:=RM v r [] mp ku (λt t' a h=>by cases h);have ao:∀ j b,bs[j]?=some b->Fm sf mp j b:=λj b hj=>by have:=Pd bs 0 h2 j b hj;rwa [x3] at this
    rw[h3];have hle:σ0.Le σf:=hF.trans hG.le;have hA:Agree σ0 σf:=λi hi=>by
     cases hg:σ0.get i with
     |none=>exact hd.2 i hi hg
     |some b=>exact hle.2 i b hg
    have aQ:∀ j b,bs[j]?=some b->OR P hNil (VE pl mp) Zf σf (VE pl mp j) b/\∀ i,Oid (VE pl mp j) i->σ0.get i=none/\σ0.n<=i:=λj b hj=>by
     obtain⟨k1,k2⟩:=QG hG (ao j b hj);have dM:=zf.1 hb b (zF hj);have aq:b.live=true:=by cases b<;>first|rfl|cases dM
     refine⟨k1.retd dM λ_ _=>rfl,λi hi=>?_⟩;obtain⟨a,e1,e2,e3⟩:=k2 aq i hi;have lD:=hG.fresh a i e2 e3;have hn:σ0.get i=none:=by
      cases hg:σ0.get i with
      |none=>rfl
      |some b=>rw[hF.2 i b hg] at lD;cases lD
     refine⟨hn,Nat.le_of_not_lt λah=>?_⟩;have bE:=hd.2 i ah hn;have ao:=hG.obj a;cases ho:Q9 sf.own a with
     |dead=>rw[ho] at e2;cases e2
     |lst ty k xs nl =>
      rw[ho] at ao;rcases ao with⟨_,_,h2⟩|⟨_,i',cap,c,t,h2,_,h3,_⟩
      .rw[h2] at e3;cases e3
      .rw[h2] at e3;obtain rfl:=osj e3;rw[h3] at bE;cases bE
     |cells l u=>rw[ho] at ao;obtain⟨i',c,e,t,h2,h3,_⟩:=ao;rw[h2] at e3;obtain rfl:=osj e3;rw[h3] at bE;cases bE
     |mapE kk vk m key n=>rw[ho] at ao;obtain⟨i',es,cl,r,e,h2,h3,_⟩:=ao;rw[h2] at e3;obtain rfl:=osj e3;rw[h3] at bE;cases bE
     |map kk vk m=>rw[ho] at ao;obtain⟨i',es,cl,h2,h3,_⟩:=ao;rw[h2] at e3;obtain rfl:=osj e3;rw[h3] at bE;cases bE
     |stk l vals=>rw[ho] at e2;cases e2
     |lpf l q s=>rw[ho] at ao e2;obtain⟨h2,_,h3⟩:=ao;rw[h2] at e3;obtain rfl:=osj e3;have h3:=h3 e2;rw[bE] at h3;cases h3
     |iter kk vk m dn=>rw[ho] at ao;obtain⟨j',i',es,cl,wr,seen,h2,h3,_⟩:=ao;rw[h2] at e3;obtain rfl:=osj e3;rw[h3] at bE;cases bE
     |deep ty q k xs nl hh =>rw[ho] at ao;obtain⟨is,_,d2,d3,_⟩:=DP.open ao;obtain⟨c,e,t,h⟩:=d2.cells i ((d3 i).1 e3);rw[h] at bE;cases bE
    have dy:∀ j j' i,j<bs.length->j'<bs.length->j≠j'->Oid (VE pl mp j) i->Oid (VE pl mp j') i->False:=λj j' i hj cA az hi cB=>by
     have bz:=z1 hj;have cw:=z1 cA;have r1:=zf.1 hb _ (zp hj);have r2:=zf.1 hb _ (zp cA);have l1:(bs[j]).live=true:=by cases kR:bs[j]<;>first|rfl|(rw[kR] at r1;cases r1)
     have l2:(bs[j']).live=true:=by cases kR:bs[j']<;>first|rfl|(rw[kR] at r2;cases r2)
     obtain⟨a,e1,e2,e3⟩:=(QG hG (ao j _ bz)).2 l1 i hi;obtain⟨a',rB,jF,rC⟩:=(QG hG (ao j' _ cw)).2 l2 i cB;by_cases e:a=a'
     .subst e;exact az (eg j j' a e1 rB)
     .exact hG.sep a a' i e e2 jF e3 rC
    cases hex:exact with
    |true =>obtain⟨hl,cN⟩:=hx hex;have oW:=Fc (P:=P) hA hle.1 hv cN hb hl (pl:=VE pl mp) (u:=u) (λj b hj=>⟨(aQ j b hj).1,λi hi=>((aQ j b hj).2 i (PL hi)).2⟩) (λj j' i a b c d e=>dy j j' i a b c (PL d) (PL e)) (iC.retd (λj hj=>rfl) _ _ hv);exact⟨_,_,oW,by simp⟩
    |false =>
     simp only[zC,if_false];by_cases b_:bs=[]
     .subst b_;refine⟨u,σ0,.rename (λi=>i) (ze _) (λi hi=>⟨rfl,(hA i hi).symm,.inl (hA i hi)⟩) (λi k1 k2=>by omega) (λ_ _ _ _ _ _ h=>h) (AB v u hv iC),?_⟩;exact⟨⟨Heap.Le.refl _,Dead.refl _⟩,λ_=>rfl,Jo,(λj b hj=>by simp at hj),(λj j' i hj=>by simp at hj),iC.retd (λj hj=>by simp at hj) _ _ hv⟩
     .exact⟨u,σf,.refl _ _ _,⟨hle,hd⟩,λe=>absurd e b_,VE pl mp,aQ,dy,iC.retd (λj hj=>rfl) _ _ hv⟩
   .exact h.elim
  .exact h.elim
 cases e with
 |normal=>exact main h
 |ret=>exact main h
 |_=>exact h.elim
def Qx (nt:Nat) (args:List SV):St:=⟨args++List.replicate (nt-args.length) .any,[],0⟩
theorem F9 {args:List SV}{vs:List Value}(h:SRs P M Jo Zf args vs) (nt:Nat):GRel P M M M (Qx nt args) (vs++List.replicate (nt-vs.length) undef) M:=by
 have u_:∀ n,SRs P M Jo Zf (List.replicate n .any) (List.replicate n undef):=by
  intro n;induction n with
  |zero=>simp[SRs]
  |succ n ih=>simp only[xy,SRs];exact⟨_,_,rfl,by simp[SR],ih⟩
 refine⟨M,M,Jo,Zf,⟨Heap.Le.refl _,Heap.Le.refl _,(λi b h1 h2=>by rw[h2] at h1;cases h1),Dead.refl _⟩,Heap.Le.refl _,Heap.Le.refl _,?_,λd=>trivial,(λd i hl=>by cases hl),(λd d' i _ hl=>by cases hl),λ_ _=>rfl⟩;have:=h.length;simp only[Qx,this];exact h.append (u_ _)
theorem Fun.okC {f:Nat}{vc:VCode}{rs:List VResult}{nt:Nat}(h:Fun P f vc rs nt) (hm:P.follows .mixedOrders=true) {sp:CSp}
  (hb:∀ ap,Fk P ap->∀ args c v bs,sp ap args=some (c,v,bs)->c->∃ (C:Cx) (L:List (Nat×LoopAnn)) (cG:List SV),(∀ M vs,SRs P M Jo Zf args vs->SRs P M Jo Zf cG vs)/\COk P C/\gwp C L vc 0 (VF rs v bs) (Qx nt cG)):OkC P f sp:=by
 intro ap dO M args vs c v bs ax cq hv b_ hc;obtain⟨C,L,cG,h1,h2,h3⟩:=hb ap dO args c v bs cq hc;have main:∀ exact:Bool,(exact=true->bs.all OB.isL=true/\VB v=true)->VCalled P f vs M λu M'=>if exact then u=VG (R0 M bs) v/\M'=Hr M bs else Ret P M v bs u M':=λexact hx=>by refine h.calls hm Dw ?_;exact Yj h2 vc 0 _ _ _ M none _ trivial (F9 (h1 M vs ax) nt) h3 λe s' af M' k1 k2=>Ez exact k2 hv b_ k1 hx
 refine⟨(main false λe=>by cases e).mono λu M' hr=>by simpa using hr,λhl cN=>(main true λ_=>⟨hl,cN⟩).mono λu M' hr=>by simpa using hr⟩
theorem OkC.true {f:Nat}{sp:CSp}(h:OkC P f sp) (he:Jh P f) {M:Heap}{args:List SV}{vs:List Value}(ha:SRs P M Jo Zf args vs) {c:Prop}(hs:sp (λ_ _=>none) args=some (c,.val .bo true,[])) (hc:c) :
  VCallsTo P f vs M λv _=>v=.bool true:=by
 have:=(h (λ_ _=>none) (λ_ _ _ _ _ _ _ _ _ h=>by cases h) M args vs c _ [] ha hs rfl rfl hc).1;intro ρ w aw hH hL;rcases this ρ w aw hH hL with⟨_,h2⟩|⟨c',_,h2⟩
 .refine h2.mono λe w' ⟨c',h3,h4⟩=>⟨c',h3,h4.mono λu M' hr=>?_⟩;have:=(hr.flat rfl).2;simpa only [SR,KC,List.cons.injEq,and_true] using this
 .have:=h2 w (Like.refl ρ w);rw[Yp he aw w] at this;cases this
end
end Go.V
namespace Go.V
open Go
mutual
inductive AP:Type->Type 1 where
 |k (k:Kind):AP k.T
 |agg {D:Type}(l:AL D):AP D
 |ptr {D:Type}(l:AL D):AP D
 |fn (ks:List Kind) (r:Kind):AP ((AT ks->Prop)×(AT ks->r.T))
 |nilS:AP Unit
 |any:AP Unit
 |int (k:IntKind) (n:Int):AP Unit
inductive AL:Type->Type 1 where
 |nil:AL Unit
 |one {D:Type}(a:AP D):AL D
 |cons {D E:Type}(a:AP D) (r:AL E):AL (D×E)
end
def RG:(ks:List Kind)->AT ks->List SV
 |[],_=>[]
 |[k],x=>[C6 k x]
 |k::k'::ks,x=>C6 k x.1::RG (k'::ks) x.2
abbrev Ap:=SV->List SV->Option (Prop×SV)
def Q1w (ap:Ap) (f:SV) (ks:List Kind) (r:Kind) (x:AT ks):Prop:=match ap f (RG ks x) with
 |some (c,v)=>(match gap.asV r v with|some _=>c|none=>False)
 |none=>False
def fnP (ap:Ap) (f:SV) (ks:List Kind) (r:Kind) (x:AT ks):r.T:=match ap f (RG ks x) with
 |some (_,v)=>(match gap.asV r v with|some y=>y|none=>r.dflt)
 |none=>r.dflt
mutual
def AP.dec (ap:Ap):{D:Type}->(p:AP D)->SV->Option D
 |_,.k k,v=>match k with
  |.list k=>view [] k v
  |.i ik=>Tm (.i ik) [v]
  |.bo=>Tm .bo [v]
  |.st=>Tm .st [v]
  |.pair _ _=>none
 |_,.agg l,v=>match v with|.agg vs=>AL.dec ap l vs|_=>none
 |_,.nilS,v=>match v with|.nilS=>some ()|_=>none
 |_,.any,_=>some ()
 |_,.int k n,v=>match Tm (.i k) [v] with|some x=>if (show Int from x)=n then some () else none|none=>none
 |_,.ptr l,v=>match v with|.cp vs 0=>AL.dec ap l vs|_=>none
 |_,.fn ks r,v=>match v with
  |.fn g a b=>some (Q1w ap (.fn g a b) ks r,fnP ap (.fn g a b) ks r)
  |.pf sQ r' cX p=>some (Q1w ap (.pf sQ r' cX p) ks r,fnP ap (.pf sQ r' cX p) ks r)
  |_=>none
def AL.dec (ap:Ap):{D:Type}->(l:AL D)->List SV->Option D
 |_,.nil,vs=>match vs with|[]=>some ()|_=>none
 |_,.one a,vs=>match vs with|[v]=>AP.dec ap a v|_=>none
 |_,.cons a r,vs=>match vs with
  |v::vs=>(match AP.dec ap a v,AL.dec ap r vs with|some x,some y=>some (x,y)|_,_=>none)
  |[]=>none
end
mutual
def AP.can:{D:Type}->(p:AP D)->D->SV
 |_,.k k,x=>.val k x
 |_,.agg l,x=>.agg (AL.can l x)
 |_,.nilS,_=>.nilS
 |_,.any,_=>.any
 |_,.int k n,_=>.val (.i k) n
 |_,.ptr l,x=>.cp (AL.can l x) 0
 |_,.fn ks r,x=>.pf ks r x.1 x.2
def AL.can:{D:Type}->(l:AL D)->D->List SV
 |_,.nil,_=>[]
 |_,.one a,x=>[AP.can a x]
 |_,.cons a r,x=>AP.can a x.1::AL.can r x.2
end
def V5 {D:Type}(l:AL D) (pre:D->Prop) (res:D->SV) (obs:D->List OB):CSp:=λap args=>match AL.dec ap l args with
 |some d=>some (pre d,res d,obs d)
 |none=>none
section
variable {P:Program}{M:Heap}
theorem GS:∀ {ks:List Kind}{x:AT ks}{vs:List Value},TU M ks x vs->SRs P M Jo Zf (RG ks x) vs
 |[],x,vs,h=>by simp only[TU] at h;subst h;simp[RG,SRs]
 |[k],x,vs,h=>by obtain⟨v,rfl,h1⟩:=h;simp only[RG,SRs];exact⟨v,[],rfl,JE h1,rfl⟩
 |k::k'::ks,x,vs,h=>by obtain⟨v,cS,rfl,h1,h2⟩:=h;simp only[RG,SRs];exact⟨v,cS,rfl,JE h1,GS h2⟩
theorem Ax {ap:Ap}(dO:Fk P ap) {f:SV}{v:Value}(hf:SR P M Jo Zf f v) (hv:∃ g a b,v=.func (.func g) a b) (ks:List Kind) (r:Kind):SR P M Jo Zf (.pf ks r (Q1w ap f ks r) (fnP ap f ks r)) v:=by
 obtain⟨g,a,b,rfl⟩:=hv;simp only[SR];refine⟨g,a,b,rfl,λx hd U vs hle cK=>?_⟩;unfold Q1w at hd;split at hd
 .rename_i c u oX;split at hd
  .rename_i y hy;obtain⟨h1,g',a',b',h2,h3⟩:=dO U f (RG ks x) c u (.func (.func g) a b) vs (SR.mono hle (λ_ _ h=>h) _ _ hf) (GS cK) oX hd;obtain⟨rfl,rfl,rfl⟩:=(by simpa using h2:g=g'/\a=a'/\b=b');have hp:fnP ap f ks r x=y:=by simp[fnP,oX,hy]
   rw[hp];exact h3.mono λu' M' hu=>⟨hu.1,(PV hy hu.2).vcall (AV _)⟩
  .exact hd.elim
 .exact hd.elim
mutual
theorem AP.q0k {ap:Ap}(dO:Fk P ap):∀ {D:Type}(p:AP D) {v:SV}{x:D}{u:Value},AP.dec ap p v=some x->SR P M Jo Zf v u->SR P M Jo Zf (AP.can p x) u
 |_,.k k,v,x,u,h,hs=>by
  have one:SRs P M Jo Zf [v] [u]:=by simp only[SRs];exact⟨u,[],rfl,hs,rfl⟩
  simp only[AP.can,SR];cases k with
  |list k =>have:=Y1 (own:=[]) (Heap.Le.refl M) (λd=>(trivial:OR P M Jo Zf M (Jo d) .dead)) (show view [] k v=some x from h) hs;exact⟨u,rfl,this⟩
  |i ik=>exact QE (k:=.i ik) h one
  |bo=>exact QE (k:=.bo) h one
  |st=>exact QE (k:=.st) h one
  |pair a b=>cases h
 |_,.agg l,v,x,u,h,hs=>by
  simp only[AP.dec] at h;split at h
  .simp only[SR] at hs;obtain⟨cs,rfl,hs⟩:=hs;simp only[AP.can,SR];exact⟨cs,rfl,AL.q0k dO l h hs⟩
  .cases h
 |_,.any,v,x,u,h,hs=>by simp only[AP.can,SR]
 |_,.int k n,v,x,u,h,hs=>by
  have one:SRs P M Jo Zf [v] [u]:=by simp only[SRs];exact⟨u,[],rfl,hs,rfl⟩
  simp only[AP.dec] at h;split at h
  .rename_i y hy;split at h
   .rename_i e;subst e;simp only[AP.can,SR];exact QE (k:=.i k) hy one
   .cases h
  .cases h
 |_,.nilS,v,x,u,h,hs=>by
  simp only[AP.dec] at h;split at h
  .simp only[AP.can];exact hs
  .cases h
 |_,.ptr l,v,x,u,h,hs=>by
  simp only[AP.dec] at h;split at h
  .simp only[SR] at hs;obtain⟨b,c,e,wr,t,h1,rfl,h3⟩:=hs;simp only[AP.can,SR];exact⟨b,c,e,wr,t,h1,rfl,AL.q0k dO l h h3⟩
  .cases h
 |_,.fn ks r,v,x,u,h,hs=>by
  simp only[AP.dec] at h;split at h
  .obtain rfl:=osj h;exact Ax dO hs (by simp only[SR] at hs;obtain⟨x,y,rfl,_⟩:=hs;exact⟨_,_,_,rfl⟩) ks r
  .obtain rfl:=osj h;exact Ax dO hs (by simp only[SR] at hs;obtain⟨g,x,y,rfl,_⟩:=hs;exact⟨_,_,_,rfl⟩) ks r
  .cases h
theorem AL.q0k {ap:Ap}(dO:Fk P ap):∀ {D:Type}(l:AL D) {vs:List SV}{x:D}{us:List Value},AL.dec ap l vs=some x->SRs P M Jo Zf vs us->SRs P M Jo Zf (AL.can l x) us
 |_,.nil,vs,x,us,h,hs=>by
  simp only[AL.dec] at h;split at h
  .exact hs
  .cases h
 |_,.one a,vs,x,us,h,hs=>by
  simp only[AL.dec] at h;split at h
  .obtain⟨u,rfl,h1⟩:=hs.one;simp only[AL.can,SRs];exact⟨u,[],rfl,AP.q0k dO a h h1,rfl⟩
  .cases h
 |_,.cons a r,vs,x,us,h,hs=>by
  simp only[AL.dec] at h;split at h
  .rename_i v cS;split at h
   .rename_i y z h1 h2;obtain rfl:=osj h;simp only[SRs] at hs;obtain⟨u,jE,rfl,h3,h4⟩:=hs;simp only[AL.can,SRs];exact⟨u,jE,rfl,AP.q0k dO a h1 h3,AL.q0k dO r h2 h4⟩
   .cases h
  .cases h
end
theorem CsOk.nil:CsOk P []:=λf sp h=>by cases h
theorem CsOk.cons {f:Nat}{sp:CSp}{cs:List (Nat×CSp)}(h:OkC P f sp) (t:CsOk P cs):CsOk P ((f,sp)::cs):=λg vd hg=>by
 simp only[Qs] at hg;cases hb:Nat.beq f g with
 |true=>rw[hb] at hg;obtain rfl:=zM hb;obtain rfl:=osj hg;exact h
 |false=>rw[hb] at hg;exact t g vd hg
theorem COk.cons {C:Cx}{f:Nat}{sp:CSp}(h:OkC P f sp) (t:COk P C):COk P {C with cs:=(f,sp)::C.cs}:=⟨CsOk.cons h t.cs,t.xs,t.it,t.yl,t.iy,t.xf⟩
theorem Q9f {f:Nat}{vc:VCode}{rs:List VResult}{nt:Nat}(h:Fun P f vc rs nt) (hm:P.follows .mixedOrders=true) {D:Type}{l:AL D}{pre:D->Prop}{res:D->SV}{obs:D->List OB}
  {C:Cx}(aB:COk P C) (L:D->List (Nat×LoopAnn)) (hb:∀ d,pre d->gwp C (L d) vc 0 (VF rs (res d) (obs d)) (Qx nt (AL.can l d))):OkC P f (V5 l pre res obs):=by
 refine h.okC hm λap dO args c v bs hs hc=>?_;unfold V5 at hs;split at hs
 .rename_i d hd;obtain⟨rfl,rfl,rfl⟩:=(by simpa using hs:pre d=c/\res d=v/\obs d=bs);exact⟨C,L d,AL.can l d,λM vs hv=>AL.q0k dO l hd hv,aB,hb d hc⟩
 .cases hs
theorem Z5 {f:Nat}{vc:VCode}{rs:List VResult}{nt:Nat}(h:Fun P f vc rs nt) (hm:P.follows .mixedOrders=true) {D:Type}{l:AL D}{pre:D->Prop}{res:D->SV}{obs:D->List OB}
  {C:Cx}(aB:COk P C) {L:D->List (Nat×LoopAnn)}{V:D->Prop}(hq:∀ d,gwp C (L d) vc 0 (VF rs (res d) (obs d)) (Qx nt (AL.can l d))=V d) (hb:∀ d,pre d->V d):OkC P f (V5 l pre res obs) :=
 Q9f h hm aB L λd hp=>(hq d).mpr (hb d hp)
end
end Go.V
namespace Go.V
open Go
def Z4f (key:Nat) (vals:List Value) (rs:List VResult) (K:SV->St->Prop):Exit->St->Prop:=λe s =>
 let fin:=match JJ s rs,Q9 s.own key with
  |some r,.stk l vs=>vs=vals/\K r ⟨l,s.own,s.nx⟩
  |_,_=>False
 match e with
 |.normal=>fin
 |.ret=>fin
 |_=>False
def Q0f (C:Cx) (L:List Value->List (Nat×LoopAnn)) (vc:VCode) (rs:List VResult) (nt:Nat):XSp:=λd args s K =>
 ∀ vals,gwp {C with off:=100000*(d+1)} (L vals) vc 0 (Z4f (100000*(d+1)-1) vals rs K) ⟨SVs.kill (100000*(d+1)-1) args++List.replicate (nt-args.length) .any,(C3 (100000*(d+1)-1) vals s).own,s.nx⟩
def Z5f (C:Cx) (L:List (Nat×LoopAnn)) (vc:VCode) (nt:Nat):Q7g:=λo args y s K =>
 gwp {C with off:=100000*(o+1),yl:=[y]} L vc 0 (λe s'=>match e with|.normal=>K s'|.ret=>K s'|_=>False) ⟨args++List.replicate (nt-args.length) .any,s.own,s.nx⟩
section
variable {P:Program}
theorem NX {B:Heap}{pl:Nat->Value}{tb:Nat->Option Bool}:∀ n,SRs P B pl tb (List.replicate n .any) (List.replicate n undef)
 |0=>by simp[SRs]
 |n+1=>by simp only[xy,SRs];exact⟨_,_,rfl,by simp[SR],NX n⟩
theorem M1 {f:Nat}{vc:VCode}{rs:List VResult}{nt:Nat}(h:Fun P f vc rs nt) (hm:P.follows .mixedOrders=true) {C:Cx}(aB:COk P C) (L:List Value->List (Nat×LoopAnn)):XOk P f (Q0f C L vc rs nt):=by
 intro B F pl tb s env M d args vs K R hG ha hx hK;have hx:=hx env;refine h.calls hm Dw ?_;have q3:Gam P B F (Jm pl (100000*(d+1)-1) poison) tb (C3 (100000*(d+1)-1) env s) env M:=by refine hG.make _ _ poison hG.le (λ_ _ _ _ _=>rfl) ?_ (λi hl _=>by cases hl);exact SRs.upd (.refl _) (λ_ _ h=>h) (λj hj=>by simp[Jm,hj]) _ _ hG.env
 have eo:COk P {C with off:=100000*(d+1)}:=⟨aB.cs,aB.xs,aB.it,aB.yl,aB.iy,aB.xf⟩;have ax:=SRs.upd (P:=P) (Heap.Le.refl B) (λ_ _ h=>h) (pl':=Jm pl (100000*(d+1)-1) poison) (tb':=tb) (o:=100000*(d+1)-1) (λj hj=>by simp[Jm,hj]) _ _ ha;have a_:GRel P B F M ⟨SVs.kill (100000*(d+1)-1) args++List.replicate (nt-args.length) .any,(C3 (100000*(d+1)-1) env s).own,s.nx⟩ (vs++List.replicate (nt-vs.length) undef) M:=by refine⟨B,F,_,tb,.of hG.bf (.refl _),⟨q3.bf,q3.le,?_,q3.obj,q3.fresh,q3.sep,q3.free⟩⟩;rw[ha.length];exact ax.append (NX _)
 refine Yj eo vc 0 _ _ _ M none _ trivial a_ hx λe s' af M' h1 h2=>?_
 .have main:(match JJ s' rs,Q9 s'.own (100000*(d+1)-1) with
   |some r,.stk l vs=>vs=env/\K r ⟨l,s'.own,s'.nx⟩
   |_,_=>False)->QX (Zv af M' rs) λv=>∃ v' aE,DropTo M v M' v' aE/\R v' aE:=λh=>by
   obtain⟨B',F',pl',tb',k1,k2⟩:=h2;split at h
   .rename_i r l cS hr gN;obtain⟨rfl,h⟩:=h;obtain⟨u,h3,h4⟩:=Z_ k2 hr;rw[h3];have ao:=k2.obj (100000*(d+1)-1);rw[gN] at ao;exact⟨u,M',.refl _ _ _,hK r _ B' F' pl' tb' u M' h k1 ⟨k2.bf,k2.le,ao,k2.obj,k2.fresh,k2.sep,k2.free⟩ h4⟩
   .exact h.elim
  cases e with
  |normal=>exact main h1
  |ret=>exact main h1
  |_=>exact h1.elim
theorem Q5n {f:Nat}{vc:VCode}{nt:Nat}(h:Fun P f vc [] nt) (hm:P.follows .mixedOrders=true) {C:Cx}(aB:COk P C) (L:List (Nat×LoopAnn)):Q7l P f (Z5f C L vc nt):=by
 refine⟨h.enterable,λB F pl tb s env M o args vs y K R hG ha hy hx hK=>h.callsTo hm Dw ?_⟩;have eo:COk P {C with off:=100000*(o+1),yl:=[(o,y)]}:=⟨aB.cs,aB.xs,aB.it,λo' y' h'=>by
  simp only[Qs] at h';cases hb:Nat.beq o o' with
  |true=>rw[hb] at h';obtain rfl:=zM hb;obtain rfl:=osj h';exact hy
  |false=>rw[hb] at h';exact(by cases h'),aB.iy,aB.xf⟩
 have a_:GRel P B F M ⟨args++List.replicate (nt-args.length) .any,s.own,s.nx⟩ (vs++List.replicate (nt-vs.length) undef) M:=by refine⟨B,F,pl,tb,.of hG.bf (Dead.refl _),⟨hG.bf,hG.le,?_,hG.obj,hG.fresh,hG.sep,hG.free⟩⟩;rw[ha.length];exact ha.append (NX _)
 refine Yj eo vc 0 _ _ _ M none _ trivial a_ hx λe s' af M' h1 h2=>?_;have main:K s'->QX (Zv af M' []) λv=>∃ v' aE,DropTo M v M' v' aE/\R aE:=λh=>by obtain⟨B',F',pl',tb',k1,k2⟩:=h2;exact⟨_,M',.refl _ _ _,hK s' B' F' pl' tb' af M' h k1 k2⟩
 cases e with
 |normal=>exact main h1
 |ret=>exact main h1
 |_=>exact h1.elim
end
end Go.V
namespace Go.V
open Go
def Z5x:SV->Option Nat
 |.lst o=>some o
 |.box o off=>bif Nat.beq off 0 then some o else none
 |_=>none
def lsv:OB->SV
 |.lst _ _ _ _=>.lst 0
 |_=>.box 0 0
def Z5p:SV->OB->Bool
 |.lst _,.lst _ _ _ _=>true
 |.box _ _,.cells _ _=>true
 |_,_=>false
abbrev LSp:=Ap->OB->List SV->Option (Prop×SV×OB)
def Q57 (ap:Ap) (sp:LSp):XSp:=λ_ args s K =>
 match args with
 |a::args=>(match Z5x a with
  |some o=>bif (Q9 s.own o).ret&&Z5p a (Q9 s.own o) then (match sp ap (Q9 s.own o) (BM (oset s.own o .dead) args) with
    |some (c,v,b)=>bif v.ret 0&&b.ret then c/\K v ⟨s.env,oset s.own o b,s.nx⟩ else False
    |none=>False) else False
  |none=>False)
 |[]=>False
def DH (nt:Nat) (a0:SV) (b:OB) (vals:List Value) (args:List SV):St:=⟨a0::(args++List.replicate (nt-(args.length+1)) .any),[(0,b),(4000000,.stk [a0] vals)],0⟩
def Q7b (vals:List Value) (rs:List VResult) (v:SV) (b:OB) (a0:SV):Exit->St->Prop:=λe s =>
 let fin:=match JJ s rs,Q9 s.own 4000000 with
  |some r,.stk l vs=>vs=vals/\U4 [(0,some 0)] [a0] l/\BK [] v r/\Fm s [(0,some 0)] 0 b
  |_,_=>False
 match e with
 |.normal=>fin
 |.ret=>fin
 |_=>False
section
variable {P:Program}
theorem Heap.Le.kill' {B M:Heap}(h:B.Le M) {i:Nat}(hi:B.get i=none):B.Le (M.kill i):=⟨h.1,λj b hb=>by
 have:j≠i:=by rintro rfl;rw[hi] at hb;cases hb
 rw[Heap.q0d _ this];exact h.2 _ _ hb⟩
theorem Heap.q2d (M:Heap) (i:Nat):(M.kill i).Le M:=⟨ze _,λj b hb=>by
 by_cases e:j=i
 .subst e;rw[Heap.q0g] at hb;cases hb
 .rwa [Heap.q0d _ e] at hb⟩
def RE (M:Heap) (p:Value):Heap:=match oid p with|some i=>M.kill i|none=>M
theorem Q1j (M:Heap) (p:Value):(RE M p).Le M:=by
 unfold RE;split
 .exact Heap.q2d _ _
 .exact .refl _
theorem AG {B M:Heap}{p:Value}(h:B.Le M) (hi:∀ i,oid p=some i->B.get i=none):B.Le (RE M p):=by
 unfold RE;split
 .rename_i i e;exact h.kill' (hi i e)
 .exact h
theorem F3 {M:Heap}{p:Value}{i:Nat}(h:oid p=some i):(RE M p).get i=none:=by unfold RE;rw[h];exact Heap.q0g _ _
theorem IY {M:Heap}{p:Value}{i:Nat}(h:oid p≠some i):(RE M p).get i=M.get i:=by
 unfold RE;split
 .rename_i j e;exact Heap.q0d _ (by rintro rfl;exact h e)
 .rfl
theorem Q5b {p:Value}{i:Nat}(hp:∀ l,p≠.tuple l) (h:Oid p i):oid p=some i:=by cases p<;>first|exact h|exact absurd rfl (hp _)
theorem OB.q2j {b:OB}(h:b.ret=true):b.live=true:=by cases b<;>first|rfl|cases h
mutual
theorem AP.q0l:∀ {D:Type}(p:AP D) (x:D),(AP.can p x).pure=true
 |_,.k k,x=>rfl
 |_,.agg l,x=>by simp only[AP.can,SV.pure];exact AL.q0l l x
 |_,.nilS,x=>rfl
 |_,.any,x=>rfl
 |_,.int k n,x=>rfl
 |_,.ptr l,x=>by simp only[AP.can,SV.pure];exact AL.q0l l x
 |_,.fn ks r,x=>rfl
theorem AL.q0l:∀ {D:Type}(l:AL D) (x:D),SVs.pure (AL.can l x)=true
 |_,.nil,x=>rfl
 |_,.one a,x=>by simp only[AL.can,SVs.pure,AP.q0l a x];rfl
 |_,.cons a r,x=>by simp only[AL.can,SVs.pure,AP.q0l a x.1,AL.q0l r x.2];rfl
end
def Fb (ty:Nat) (k:Kind) {D:Type}(l:AL D) (pre:List k.T->Bool->D->Prop) (res:List k.T->Bool->D->SV) (post:List k.T->Bool->D->List k.T):LSp:=λap b args=>match b with
 |.lst gf _k' xs nl=>if gf=ty then (match Ue xs k,AL.dec ap l args with
  |some xs,some d=>some (pre xs nl d,res xs nl d,.lst ty k (post xs nl d) nl)
  |_,_=>none) else none
 |_=>none
end
end Go.V
namespace Go.V
open Go
abbrev lI {α:Type}(l:List α):Int:=(l.length:Int)
abbrev gD {α:Type}(l:List α) (i:Int) (d:α):α:=l.getD i.toNat d
abbrev sT {α:Type}(l:List α) (i:Int) (x:α):List α:=l.set i.toNat x
abbrev I64 (x:Int):Prop:=InK .i64 x
theorem Qn (x:Int):InK .i64 x<->-9223372036854775808<=x/\x<=9223372036854775807:=by simp[InK,IntKind.min,IntKind.max,IntKind.bits,IntKind.signed]
theorem Q43 (x:Int):InK .u8 x<->0<=x/\x<=255:=by simp[InK,IntKind.min,IntKind.max,IntKind.bits,IntKind.signed]
theorem Bb (x:Int):InK .u64 x<->0<=x/\x<=18446744073709551615:=by simp[InK,IntKind.min,IntKind.max,IntKind.bits,IntKind.signed]
theorem LoopP.count {F:Int->(Int->Prop)->Prop}(n:Nat) (J:Nat->Prop) (h0:J 0) (hr:∀ k:Nat,k<=n->J k->∀ q:Int->Prop,(k<n->J (k+1)->q ((k:Int)+1))->F k q):LoopP F 0:=by refine⟨λd=>∃ k:Nat,d=k/\k<=n/\J k,λd=>n-d.toNat,⟨0,rfl,Nat.zero_le _,h0⟩,λd ⟨k,hd,hk,hJ⟩=>?_⟩;subst hd;refine hr k hk hJ _ λah oY=>⟨⟨k+1,by simp,ah,oY⟩,?_⟩;simp;omega
theorem LoopP.count2 {X:Type}{F:X×Int->(X×Int->Prop)->Prop}(n:Nat) (J:Nat->X->Prop) {x0:X}(h0:J 0 x0) (hr:∀ (k:Nat) (x:X),k<=n->J k x->∀ q:X×Int->Prop,(∀ x',k<n->J (k+1) x'->q (x',(k:Int)+1))->F (x,(k:Int)) q):LoopP F (x0,0):=by refine⟨λd=>∃ k:Nat,d.2=k/\k<=n/\J k d.1,λd=>n-d.2.toNat,⟨0,rfl,Nat.zero_le _,h0⟩,λ⟨x,d⟩ ⟨k,hd,hk,hJ⟩=>?_⟩;simp only at hd hJ;subst hd;refine hr k x hk hJ _ λx' ah oY=>⟨⟨k+1,by simp,ah,oY⟩,?_⟩;simp;omega
theorem Qh {α:Type}{l:List α}{k:Nat}{d:α}(h:k<l.length):l.getD k d=l[k]:=by simp[zd,z1 h]
theorem XQ {α:Type}{l:List α}{k:Nat}(h:k<l.length):l.take (k+1)=l.take k++[l[k]]:=by rw[List.take_succ_eq_append_getElem h]
def Q4h (agg:Bool) (sz:Nat):VCode :=
 .seq (.region [
  ⟨(some 4),.load false 1 (.tmp 1),none⟩,
  ⟨(some 5),.len (.tmp 4),none⟩,
  ⟨(some 6),.arith .sub (.tmp 5) (.const (.int .i64 (1))),none⟩,
  ⟨(some 3),.move (.tmp 6),none⟩])
 (.block 0 (.loop (.seq (.seq (.region [
    ⟨(some 7),.move (.tmp 3),none⟩,
    ⟨(some 8),.cmp .geq (.tmp 7) (.const (.int .i64 (0))),none⟩])
   (.cond (.tmp 8) (.skip)
    (.exit 0)))
   (.seq (.block 1 (.seq (.region [
     ⟨(some 11),.move (.tmp 0),none⟩,
     ⟨(some 12),.move (.tmp 3),none⟩,
     ⟨(some 13),.load false 1 (.tmp 1),none⟩,
     ⟨(some 14),.move (.tmp 3),none⟩,
     ⟨(some 15),.indexAddr sz (.tmp 13) (.tmp 14),none⟩,
     ⟨(some 16),.load agg sz (.tmp 15),none⟩,
     ⟨(some 17),.callV (.tmp 11) [.tmp 12,.tmp 16],none⟩,
     ⟨(some 18),.un .not (.tmp 17),none⟩])
    (.cond (.tmp 18) (.ret)
     (.skip))))
   (.region [
    ⟨(some 9),.move (.tmp 3),none⟩,
    ⟨(some 10),.arith .sub (.tmp 9) (.const (.int .i64 (1))),none⟩,
    ⟨(some 3),.move (.tmp 10),none⟩])))))
def Z3y (k:Kind):ISp:=λargs=>match args with
 |[.cp l 0]=>(match l with
  |[.val (.list _k') l]=>(match Ue l k with
   |some l=>some (l.length<4611686018427387904,l.length,2,λj=>[.val (.i .i64) ((l.length:Int)-1-j),C6 k (l.getD (l.length-1-j) k.dflt)])
   |none=>none)
  |_=>none)
 |_=>none
section
variable {P:Program}
theorem FW:∀ (k:Kind) (x:k.T),(C6 k x).pure=true
 |.i _,_|.bo,_|.st,_|.list _,_=>rfl
 |.pair a b,x=>by
  have app:∀ l m:List SV,SVs.pure l=true->SVs.pure m=true->SVs.pure (l++m)=true:=by
   intro l m hl hm;induction l with
   |nil=>exact hm
   |cons s l ih =>simp only[SVs.pure,z6,xB] at hl |-;exact⟨hl.1,ih hl.2⟩
  have cells:∀ (k:Kind) (x:k.T),SVs.pure (N0 k x)=true:=by
   intro k;induction k with
   |pair a b fk eG=>intro x;exact app _ _ (fk x.1) (eG x.2)
   |_=>intro x;rfl
  simp only[C6,SV.pure];exact cells (.pair a b) x
theorem st1 {S:VSpecs}{d:Nat}{op:VOp}{rest:List VOper}{env:Env}{M:Heap}{K:Env->Heap->Prop}{v:Value}(hv:∀ K',vop S op env M K'=QX (Q7 op (Q3 env) M) λp=>K' p.1 p.2) (h:Q7 op (Q3 env) M=some (v,M)) (hr:BH S rest (env.set d v) M K):BH S (⟨some d,op,none⟩::rest) env M K:=by show QX (some true) _;refine⟨λ_=>?_,λe=>by cases e⟩;rw[hv,h];exact hr
theorem Q6a {B U:Heap}(hle:B.Le U) {k:Kind}{l:List k.T}{x:Value}(hs:SlRel B k.size (λx c=>KC B k x c) l x) {n:Nat}(hn:n<l.length) :
  ∃ i o cap c e wr t w,x=.slice (some ⟨i,o,none⟩) l.length cap/\U.get i=some (.cells c e wr t)/\Xl (!k.one) k.size c (o+n*k.size)=some w/\KV B k l[n] w:=by
 rcases hs with⟨rfl,_⟩|⟨i,o,cap,c,e,wr,t,h1,h2,h3,h4,h5,h6⟩
 .simp at hn
 .have hmul:n*k.size+k.size<=l.length*k.size:=by
   have:=zr k.size (show n+1<=l.length from hn)
   rwa [zH,xF] at this
  have cL:=h6.at (n:=k.size) (λx c hx=>KC.length hx) hn;have e1:(((c.drop o).take (l.length*k.size)).drop (n*k.size)).take k.size=(c.drop (o+n*k.size)).take k.size:=by rw[List.drop_take,List.drop_drop,List.take_take,xL (by omega)]
  rw[e1] at cL;have hlen:=KC.length cL;cases bD:k.one with
  |true =>
   have aF:=Kind.q1p bD;rw[aF] at cL hlen hmul h5 |-;have ah:o+n*1<c.length:=by omega
   refine⟨i,o,cap,c,e,wr,t,c[o+n*1],h1,hle.2 _ _ h3,?_,.inl ⟨bD,?_⟩⟩
   .simp[Xl]
   .have:(c.drop (o+n*1)).take 1=[c[o+n*1]]:=by
     rw[wH ah];rfl
    rw[this] at cL;exact cL
  |false =>refine⟨i,o,cap,c,e,wr,t,_,h1,hle.2 _ _ h3,?_,.inr ⟨bD,_,rfl,cL⟩⟩;simp only[Xl,Bool.not_false,zB];rw[z7 (by omega)]
theorem VYields.mono {i:Nat}{args:List Value}{M:Heap}{R R':Value->Heap->Prop}(h:VYields P i args M R) (hr:∀ v M',R v M'->R' v M'):VYields P i args M R':=by intro ρ w aw hH hL;obtain⟨p,h1,fn,tmps,eS,body,h2,h3⟩:=h ρ w aw hH hL;exact⟨p,h1,fn,tmps,eS,body,h2,h3.mono λe w' ⟨c,he,hg⟩=>⟨c,he,hg.mono hr⟩⟩
set_option maxHeartbeats 4000000 in
theorem Q08 {B U:Heap}{k:Kind}{l1:List k.T}{x:Value}{i b j:Nat}{Y:HX}{J:Nat->Heap->Prop}{E:Heap->Prop}(hY:KE P i Y)
  (pP:∀ (env:Env) (j:Nat),Q3 env (.tmp j)=.pointer (some ⟨b,0,none⟩)->Q7 (.load false 1 (.tmp j)) (Q3 env) U=some (x,U)) (fe:SlRel B k.size (λx c=>KC B k x c) l1 x) (kA:B.Le U) (ki:j<=l1.length) (hc:l1.length<4611686018427387904)
  (ef:j<l1.length->∀ us,SRs P B Jo Zf [.val (.i .i64) ((l1.length:Int)-1-j),C6 k (l1[l1.length-1-j]?.getD k.dflt)] us->Y us U λv U'=>(v=.bool true/\J (j+1) U')\/(v=.bool false/\E U'))
  {Q:Exit->Env->Heap->Prop}(ve:J l1.length U->∀ env,Q .normal env U) (vf:∀ U,E U->∀ env,Q .ret env U) (hJ:J j U) {n:Nat}(dA:n=l1.length-j) (len:Nat) (hlen:len=19) :
  vwp (Q2 P) (.seq (.seq (.region [
    ⟨(some 7),.move (.tmp 3),none⟩,
    ⟨(some 8),.cmp .geq (.tmp 7) (.const (.int .i64 (0))),none⟩])
   (.cond (.tmp 8) (.skip)
    (.exit 0)))
   (.seq (.block 1 (.seq (.region [
     ⟨(some 11),.move (.tmp 0),none⟩,
     ⟨(some 12),.move (.tmp 3),none⟩,
     ⟨(some 13),.load false 1 (.tmp 1),none⟩,
     ⟨(some 14),.move (.tmp 3),none⟩,
     ⟨(some 15),.indexAddr k.size (.tmp 13) (.tmp 14),none⟩,
     ⟨(some 16),.load (!k.one) k.size (.tmp 15),none⟩,
     ⟨(some 17),.callV (.tmp 11) [.tmp 12,.tmp 16],none⟩,
     ⟨(some 18),.un .not (.tmp 17),none⟩])
    (.cond (.tmp 18) (.ret)
     (.skip))))
   (.region [
    ⟨(some 9),.move (.tmp 3),none⟩,
    ⟨(some 10),.arith .sub (.tmp 9) (.const (.int .i64 (1))),none⟩,
    ⟨(some 3),.move (.tmp 10),none⟩]))) none (λe af aE=>match e with
   |.normal=>∃ n',n'<n/\∃ j,j<=l1.length/\n'=l1.length-j/\D8 [0,1,3] af=[.func (.yield i) #[] #[],.pointer (some ⟨b,0,none⟩),.int .i64 ((l1.length:Int)-1-j)]/\J j aE
   |e=>SC 0 Q e af aE) (Xj [0,1,3] [.func (.yield i) #[] #[],.pointer (some ⟨b,0,none⟩),.int .i64 ((l1.length:Int)-1-j)] (List.replicate len poison)) U:=by
 subst hlen;show BH _ _ [.func (.yield i) #[] #[],.pointer (some ⟨b,0,none⟩),poison,.int .i64 ((l1.length:Int)-1-j),poison,poison,poison,poison,poison,poison,poison,poison,poison,poison,poison,poison,poison,poison,poison] _ _;refine st1 (λ_=>rfl) rfl ?_;refine st1 (v:=.bool (decide ((0:Int)<=(l1.length:Int)-1-j))) (λ_=>rfl) rfl ?_;show Ln (.bool _) _ _;refine⟨λbj=>?_,λah=>?_⟩
 .have bj:(0:Int)<=(l1.length:Int)-1-j:=by simpa using bj
  have jx:l1.length-1-j<l1.length:=by omega
  obtain⟨i',o',au,c',e',kT,t',w,q1,q2,q3,q4⟩:=Q6a kA fe jx;show BH _ _ _ _ _;refine st1 (λ_=>rfl) rfl ?_;refine st1 (λ_=>rfl) rfl ?_;refine st1 (λ_=>rfl) (pP _ _ rfl) ?_;refine st1 (λ_=>rfl) rfl ?_;refine st1 (v:=.pointer (some ⟨i',o'+(l1.length-1-j)*k.size,none⟩)) (λ_=>rfl) ?_ ?_
  .rw[q1];show (if 0<=(l1.length:Int)-1-j/\(l1.length:Int)-1-j<l1.length then some (Value.pointer (some ⟨i',o'+((l1.length:Int)-1-j).toNat*k.size,none⟩),U) else none)=_;rw[z7 ⟨bj,by omega⟩];have:((l1.length:Int)-1-j).toNat=l1.length-1-j:=by omega
   rw[this]
  refine st1 (v:=w) (λ_=>rfl) ?_ ?_
  .show (match U.get i' with|some (.cells c _ _ _)=>(match Xl (!k.one) k.size c (o'+(l1.length-1-j)*k.size) with|some v=>some (v,U)|none=>none)|_=>none)=_;rw[q2];simp only[q3]
  show QX (some true) _;refine⟨λ_=>?_,λe=>by cases e⟩;show VYields P i [.int .i64 ((l1.length:Int)-1-j),w] U _;refine VYields.mono (hY _ _ _ (ef (by omega) [.int .i64 ((l1.length:Int)-1-j),w] ?_)) ?_
  .simp only[SRs];refine⟨_,_,rfl,rfl,w,[],rfl,?_,rfl⟩;rw[z1 jx];exact JE q4
  .rintro v U' (⟨rfl,oY⟩|⟨rfl,hE⟩)
   .show BH _ _ _ _ _;refine st1 (v:=.bool false) (λ_=>rfl) rfl ?_;show Ln (.bool false) _ _;refine⟨(λe=>by cases e),λ_=>?_⟩;show BH _ _ _ _ _;refine st1 (λ_=>rfl) rfl ?_;refine st1 (v:=.int .i64 ((l1.length:Int)-1-(j+1:Nat))) (λ_=>rfl) ?_ ?_
    .show (if IntKind.i64=IntKind.i64 then some (Value.int .i64 (IntKind.i64.wrap ((l1.length:Int)-1-j-1)),U') else none)=_;rw[z7 rfl,SW (by omega)];simp only[x6,Prod.mk.injEq,Value.int.injEq,true_and,and_true];omega
    refine st1 (λ_=>rfl) rfl ?_;exact⟨l1.length-(j+1),by omega,j+1,by omega,rfl,rfl,oY⟩
   .show BH _ _ _ _ _;refine st1 (v:=.bool true) (λ_=>rfl) rfl ?_;show Ln (.bool true) _ _;refine⟨λ_=>?_,λe=>by cases e⟩;exact vf _ hE _
 .have ah:¬ (0:Int)<=(l1.length:Int)-1-j:=by simpa using ah
  have hj:j=l1.length:=by omega
  subst hj;exact ve hJ _
theorem Z2q {f:Nat}{k:Kind}(h:Fun P f (Q4h (!k.one) k.size) [] 19) (hm:P.follows .mixedOrders=true):Q7i P f (Z3y k):=by
 refine⟨h.enterable,λB args vs c m ar xs hs gU hc=>?_⟩;unfold Z3y at gU;split at gU
 .rename_i l0;split at gU
  .rename_i k' l1;split at gU
   .rename_i l hl;unfold Ue at hl;split at hl
    .rename_i e;subst e;obtain rfl:=osj hl;obtain⟨rfl,rfl,rfl,rfl⟩:=(by simpa using gU:(l1.length<4611686018427387904)=c/\l1.length=m/\2=ar/\_=xs);refine⟨λj=>⟨rfl,by simp only[SVs.pure,SV.pure,FW];rfl⟩,λi Y J E τ0 hY hle ef h0=>?_⟩;simp only[SRs,SR] at hs;obtain⟨cap,_,rfl,⟨b,cc,e,wr,t,hb,rfl,x,_,rfl,⟨y,hy,fe⟩,rfl⟩,rfl⟩:=hs;obtain rfl:x=y:=by simpa using hy
     have cell:∀ U,B.Le U->U.get b=some (.cells [x] e wr t):=λU hτ=>hτ.2 _ _ hb;obtain⟨xa,vg,br⟩:=SlRel.len fe;have fy:∀ (env:Env) (M:Heap) (j:Nat),Q3 env (.tmp j)=x->Q7 (.len (.tmp j)) (Q3 env) M=some (.int .i64 l1.length,M):=λenv M j hj=>by simp only[Q7,hj,br]
     refine h.callsTo hm Dw ?_;have pP:∀ (env:Env) (M:Heap) (j:Nat),B.Le M->Q3 env (.tmp j)=.pointer (some ⟨b,0,none⟩)->Q7 (.load false 1 (.tmp j)) (Q3 env) M=some (x,M):=λenv M j hσ hj=>by simp only[Q7,hj,cell M hσ,Xl];rfl
     have rD:=hle 0 τ0 h0;show BH _ _ _ _ _;refine st1 (λ_=>rfl) (pP _ _ _ rD rfl) ?_;refine st1 (λ_=>rfl) (fy _ _ _ rfl) ?_;refine st1 (v:=.int .i64 ((l1.length:Int)-1)) (λ_=>rfl) ?_ ?_
     .show (if IntKind.i64=IntKind.i64 then some (Value.int .i64 (IntKind.i64.wrap ((l1.length:Int)-1)),τ0) else none)=_;rw[z7 rfl,SW (by omega)]
     refine st1 (v:=.int .i64 ((l1.length:Int)-1)) (λ_=>rfl) rfl ?_;show Q9h _ _ _ _;refine⟨[0,1,3],λn vs U=>∃ j,j<=l1.length/\n=l1.length-j/\vs=[.func (.yield i) #[] #[],.pointer (some ⟨b,0,none⟩),.int .i64 ((l1.length:Int)-1-j)]/\J j U,l1.length,⟨0,Nat.zero_le _,rfl,?_,h0⟩,λn vs U ⟨j,ki,dA,vh,hJ⟩=>?_⟩
     .simp[D8]
     .subst vh;have kA:=hle j U hJ;refine Q08 (J:=J) (E:=E) hY (λenv jj h=>pP _ _ _ kA h) fe kA ki hc (λah us dp=>ef j us U ah hJ dp) ?_ ?_ hJ dA _ rfl
      .exact λhJ env=>⟨_,_,.refl _ _ _,.inl hJ⟩
      .exact λU hE env=>⟨_,_,.refl _ _ _,.inr hE⟩
    .cases hl
   .cases gU
  .cases gU
 .cases gU
theorem YlOk.nil:∀ o y,Qs ([]:List (Nat×YSp)) o=some y->Q20 P o y:=λo y h=>by cases h
theorem IysOk.nil:∀ f x,Qs ([]:List (Nat×Q7g)) f=some x->Q7l P f x:=λf x h=>by cases h
theorem IysOk.cons {f:Nat}{x:Q7g}{l:List (Nat×Q7g)}(h:Q7l P f x) (t:∀ g y,Qs l g=some y->Q7l P g y):∀ g y,Qs ((f,x)::l) g=some y->Q7l P g y:=λg y hg=>by
 simp only[Qs] at hg;cases hb:Nat.beq f g with
 |true=>rw[hb] at hg;obtain rfl:=zM hb;obtain rfl:=osj hg;exact h
 |false=>rw[hb] at hg;exact t g y hg
theorem XsOk.nil:∀ f x,Qs ([]:List (Nat×XSp)) f=some x->XOk P f x:=λf x h=>by cases h
theorem XsOk.cons {f:Nat}{x:XSp}{l:List (Nat×XSp)}(h:XOk P f x) (t:∀ g y,Qs l g=some y->XOk P g y):∀ g y,Qs ((f,x)::l) g=some y->XOk P g y:=λg y hg=>by
 simp only[Qs] at hg;cases hb:Nat.beq f g with
 |true=>rw[hb] at hg;obtain rfl:=zM hb;obtain rfl:=osj hg;exact h
 |false=>rw[hb] at hg;exact t g y hg
theorem ItsOk.nil:∀ f x,Qs ([]:List (Nat×ISp)) f=some x->Q7i P f x:=λf x h=>by cases h
theorem ItsOk.cons {f:Nat}{x:ISp}{l:List (Nat×ISp)}(h:Q7i P f x) (t:∀ g y,Qs l g=some y->Q7i P g y):∀ g y,Qs ((f,x)::l) g=some y->Q7i P g y:=λg y hg=>by
 simp only[Qs] at hg;cases hb:Nat.beq f g with
 |true=>rw[hb] at hg;obtain rfl:=zM hb;obtain rfl:=osj hg;exact h
 |false=>rw[hb] at hg;exact t g y hg
def NF:Ap:=λ_ _=>none
theorem Kv:Fk P NF:=λ_ _ _ _ _ _ _ _ _ h=>by cases h
end
end Go.V
namespace Go.Proofs.Tryz
open Go Go.V Go.Proofs
theorem Q1i:Fun Tryz.prog 143 (Q4h false 1) [] 19:=⟨Tryz.f143,Tryz.func143,by kernel_rfl,by kernel_rfl,rfl,rfl⟩
end Go.Proofs.Tryz
namespace Go.V
open Go
def Cw {α:Type}:Nat->α->List α->List α
 |0,x,l=>x::l
 |j+1,x,a::l=>a::Cw j x l
 |_+1,x,[]=>[x]
def Ca {α:Type}:Nat->List α->List α
 |0,_::l=>l
 |j+1,a::l=>a::Ca j l
 |_,[]=>[]
def S9 (kk vk:Kind):OB->Option (List (kk.T×vk.T))
 |.map i_ mh m=>if h:i_=kk/\mh=vk then some (h.1▸h.2▸m) else none
 |_=>none
def Q5r (vals:List Value) (rs:List VResult) (v:SV) (kk vk:Kind) (post:List (kk.T×vk.T)->Prop):Exit->St->Prop:=λe s =>
 let fin:=match JJ s rs,Q9 s.own 4000000,S9 kk vk (Q9 s.own 0) with
  |some r,.stk l vs,some m'=>vs=vals/\U4 [(0,some 0)] [.map 0] l/\BK [] v r/\post m'
  |_,_,_=>False
 match e with
 |.normal=>fin
 |.ret=>fin
 |_=>False
section
variable {P:Program}
theorem ME {kk vk:Kind}{b:OB}{m:List (kk.T×vk.T)}(h:S9 kk vk b=some m):b=.map kk vk m:=by
 unfold S9 at h;split at h
 .split at h
  .rename_i e;obtain⟨rfl,rfl⟩:=e;obtain rfl:=osj h;rfl
  .cases h
 .cases h
theorem I5:∀ (j:Nat) {l:List SV}{c:List Value}{o:Nat}{B:Heap}{pl:Nat->Value}{tb:Nat->Option Bool},l[j]?=some (.map o)->SRs P B pl tb l c ->
  ∃ w,SR P B pl tb (.map o) w/\SRs P B pl tb (Ca j l) (Ca j c)/\∀ (B':Heap) (pl':Nat->Value) (tb':Nat->Option Bool) (l':List SV) (x:SV),SRs P B' pl' tb' l' (Ca j c)->SR P B' pl' tb' x w->SRs P B' pl' tb' (Cw j x l') c
 |j,[],c,o,B,pl,tb,h,_=>by simp at h
 |0,a::l,c,o,B,pl,tb,h,hs=>by
  obtain rfl:a=.map o:=by simpa using h
  simp only[SRs] at hs;obtain⟨w,us,rfl,h1,h2⟩:=hs;exact⟨w,h1,h2,λB' pl' tb' l' x h3 h4=>by simp only[Cw,SRs];exact⟨w,us,rfl,h4,h3⟩⟩
 |j+1,a::l,c,o,B,pl,tb,h,hs=>by
  simp only[SRs] at hs;obtain⟨u,us,rfl,h1,h2⟩:=hs;obtain⟨w,g1,g2,g3⟩:=I5 j (by simpa using h) h2;refine⟨w,g1,?_,λB' pl' tb' l' x h3 h4=>?_⟩
  .simp only[Ca,SRs];exact⟨u,_,rfl,h1,g2⟩
  .simp only[Ca] at h3
   match l',h3 with
   |[],h3=>simp only[SRs] at h3;cases h3
   |y::l',h3 =>simp only[SRs] at h3;obtain⟨u',jE,e,h5,h6⟩:=h3;obtain⟨rfl,rfl⟩:=zR e;simp only[Cw,SRs];exact⟨u,us,rfl,h5,g3 B' pl' tb' l' x h6 h4⟩
theorem XfOk.nil {xs:List (Nat×XSp)}:∀ f j,Qs ([]:List (Nat×Nat)) f=some j->∀ x,Qs xs f=some x->Q87 P f x j:=λf j h=>by cases h
theorem XfOk.cons {xs:List (Nat×XSp)}{g k:Nat}{y:XSp}{l:List (Nat×Nat)}(hy:Qs xs g=some y) (h:Q87 P g y k) (t:∀ f j,Qs l f=some j->∀ x,Qs xs f=some x->Q87 P f x j):∀ f j,Qs ((g,k)::l) f=some j->∀ x,Qs xs f=some x->Q87 P f x j:=λf j hf x hx=>by
 simp only[Qs] at hf;cases hb:Nat.beq g f with
 |true =>rw[hb] at hf;obtain rfl:=zM hb;obtain rfl:=osj hf;obtain rfl:=osj (hy.symm.trans hx);exact h
 |false=>rw[hb] at hf;exact t f j hf x hx
end
end Go.V
namespace Go.V
open Go
abbrev PSp (kk vk:Kind):=Ap->List SV->Option (Prop×List SV×(List (kk.T×vk.T)->Prop))
def Q05 (ap:Ap) (kk vk:Kind) (sp:PSp kk vk):XSp:=λd args s K=>match sp ap (BM s.own args) with
 |some (c,vs,post)=>bif SVs.ret 0 vs then c/\∀ m',post m'->K (.tup (.map d::vs)) (s.make d (.map kk vk m')) else False
 |none=>False
def YJ (nt:Nat) (args:List SV):St:=⟨args++List.replicate (nt-args.length) .any,[],0⟩
def Q5p (rs:List VResult) (kk vk:Kind) (vs:List SV) (post:List (kk.T×vk.T)->Prop):Exit->St->Prop:=λe s =>
 let fin:=match JJ s rs with
  |some (.tup (.map k::r))=>(match S9 kk vk (Q9 s.own k) with
   |some m'=>U4 [] vs r/\post m'
   |none=>False)
  |_=>False
 match e with
 |.normal=>fin
 |.ret=>fin
 |_=>False
section
variable {P:Program}
theorem SRs.retd0 {B B':Heap}{pl pl':Nat->Value}{tb tb':Nat->Option Bool}:∀ (l:List SV) (us:List Value),SVs.ret 0 l=true->SRs P B pl tb l us->SRs P B' pl' tb' l us
 |[],us,_,h=>by simpa [SRs] using h
 |s::l,us,hr,h=>by simp only[SVs.ret,z6] at hr;simp only[SRs] at h |-;obtain⟨u,jE,rfl,h1,h2⟩:=h;exact⟨u,jE,rfl,h1.retd (n:=0) (λj hj=>by omega) _ _ hr.1,SRs.retd0 l jE hr.2 h2⟩
theorem Q17 {f:Nat}{vc:VCode}{rs:List VResult}{nt:Nat}(h:Fun P f vc rs nt) (hm:P.follows .mixedOrders=true) {kk vk:Kind}(bF:(kk.flat&&vk.flat)=true) {sp:PSp kk vk}{ap:Ap}
  (hb:∀ fm c vs post,sp ap fm=some (c,vs,post)->c->∃ (C:Cx) (L:List (Nat×LoopAnn)) (dP:List SV),SVs.pure dP=true/\(∀ M us,SRs P M Jo Zf fm us->SRs P M Jo Zf dP us)/\COk P C/\gwp C L vc 0 (Q5p rs kk vk vs post) (YJ nt dP)):XOk P f (Q05 ap kk vk sp):=by
 intro B F pl tb s env M d args vals K R hG ha hx hK;unfold Q05 at hx;split at hx
 .rename_i c vs post cq;cases bW:SVs.ret 0 vs with
  |false=>rw[bW] at hx;exact hx.elim
  |true =>
  rw[bW] at hx;obtain⟨hc,hx⟩:=hx;obtain⟨C,L,dP,dD,kB,eo,hg⟩:=hb _ c vs post cq hc;have ax:=kB M vals (Y0 (own:=s.own) hG.leB (pl:=pl) (tb:=tb) (λd=>hG.obj d) ha);have a_:GRel P M M M (YJ nt dP) (vals++List.replicate (nt-vals.length) undef) M:=by
   refine⟨M,M,λ_=>poison,Zf,⟨.refl _,.refl _,λ_ _ _ h=>h,.refl _⟩,.refl _,.refl _,?_,λk=>?_,λk i' h1 h2=>?_,λk k' i' kC h1 h2 h3 h4=>?_,λ_ _=>rfl⟩
   .simp only[YJ];rw[ax.length];exact SRs.append (QI _ _ dD ax) (NX _)
   .simp only[YJ,Q9];trivial
   .simp only[YJ,Q9] at h1;cases h1
   .simp only[YJ,Q9] at h1;cases h1
  refine h.calls hm Dw ?_;refine Yj eo vc 0 _ _ _ M none _ trivial a_ hg λe s' af M' h1 h2=>?_
  have main:(match JJ s' rs with
   |some (.tup (.map k::r))=>(match S9 kk vk (Q9 s'.own k) with
    |some m'=>U4 [] vs r/\post m'
    |none=>False)
   |_=>False)->QX (Zv af M' rs) λv=>∃ v' aE,DropTo M v M' v' aE/\R v' aE:=λh=>by
   obtain⟨B',F',pl',tb',k1,k2⟩:=h2;split at h
   .rename_i k r hr;split at h
    .rename_i m' lS;obtain⟨g1,g2⟩:=h;have aJ:=ME lS;obtain⟨w,h3,h4⟩:=Z_ k2 hr;rw[h3];simp only[SR,SRs] at h4;obtain⟨cs,rfl,mv,ws,rfl,⟨rfl,_⟩,h5⟩:=h4;have dj:=SRs.retd0 (B':=B) (pl':=Jm pl d (pl' k)) (tb':=tb) vs ws bW (Z0 vs r ws g1 h5);have ao:=k2.obj k;rw[aJ] at ao;have hle:M.Le M':=k1.f.trans k2.le;have mD:OR P B (Jm pl d (pl' k)) tb M' (pl' k) (.map kk vk m'):=ao.retd bF λ_ _=>rfl;have aq:(Q9 s'.own k).live=true:=by rw[aJ];rfl
     have fO:∀ i,Oid (pl' k) i->M.get i=none:=λi hi=>by
      cases hg:M.get i with
      |none=>rfl
      |some b =>have:=k2.fresh k i aq hi;have h9:=k1.f.2 _ _ hg;rw[this] at h9;cases h9
     have mE:Gam P B F (Jm pl d (pl' k)) tb (s.make d (.map kk vk m')) env M':=by
      refine hG.make d _ (pl' k) (hG.le.trans hle) (λj i _ hl hi=>?_) mD λi _ hi=>⟨?_,λj _ hl hj=>?_⟩
      .cases hg:M.get i with
       |none=>exact k1.d.2 i ((hG.obj j).q0w hl hi) hg
       |some bb=>exact hle.2 _ _ hg
      .cases hg:F.get i with
       |none=>rfl
       |some b=>have:=hG.le.2 _ _ hg;rw[fO i hi] at this;cases this
      .have ah:=(hG.obj j).q0w hl hj;have:=k1.d.2 i ah (fO i hi);obtain⟨id,es,clock,e1,e2,_⟩:=mD;rw[e1] at hi;obtain rfl:id=i:=osj hi;rw[this] at e2;cases e2
     refine⟨_,M',.refl _ _ _,hK _ _ B F _ tb _ M' (hx m' g2) (.of hG.bf k1.d) mE ?_⟩;obtain⟨id,es,clock,e1,_⟩:=mD;simp only[SR,SRs];exact⟨_,rfl,_,_,rfl,⟨by simp[Jm],_,e1⟩,dj⟩
    .exact h.elim
   .exact h.elim
  cases e with
  |normal=>exact main h1
  |ret=>exact main h1
  |_=>exact h1.elim
 .exact hx.elim
def Q7h {kk vk:Kind}{D:Type}(la:AL D) (pre:D->Prop) (res:D->List SV) (post:D->List (kk.T×vk.T)->Prop):PSp kk vk:=λap fm=>match AL.dec ap la fm with
 |some a=>some (pre a,res a,post a)
 |none=>none
theorem OS {f:Nat}{vc:VCode}{rs:List VResult}{nt:Nat}(h:Fun P f vc rs nt) (hm:P.follows .mixedOrders=true) {ap:Ap}(dO:Fk P ap) {kk vk:Kind}(bF:(kk.flat&&vk.flat)=true) {D:Type}{la:AL D}{pre:D->Prop}{res:D->List SV}{post:D->List (kk.T×vk.T)->Prop}
  {C:Cx}(aB:COk P C) {L:D->List (Nat×LoopAnn)}{V:D->Prop}
  (hq:∀ y,gwp C (L y) vc 0 (Q5p rs kk vk (res y) (post y)) (YJ nt (AL.can la y))=V y)
  (hb:∀ y,pre y->V y):XOk P f (Q05 ap kk vk (Q7h la pre res post)):=Q17 h hm bF λfm c vs q hs hc=>by
 unfold Q7h at hs;split at hs
 .rename_i y h2;obtain⟨rfl,rfl,rfl⟩:=(by simpa using hs:pre y=c/\res y=vs/\post y=q);exact⟨C,L y,AL.can la y,AL.q0l la y,λM vs hv=>AL.q0k dO la h2 hv,aB,(hq y).mpr (hb y hc)⟩
 .cases hs
end
end Go.V
namespace Go.V
open Go
def Heap.over (B F:Heap):Heap where
 get i:=match B.get i with|some b=>some b|none=>F.get i
 n:=Nat.max B.n F.n
 wf i h:=by have h1:B.n<=i:=zY (Nat.le_max_left _ _) h;have h2:F.n<=i:=zY (Nat.le_max_right _ _) h;rw[B.wf i h1];exact F.wf i h2
theorem Heap.q1k {B F:Heap}{i:Nat}(h1:B.get i=none) (h2:F.get i=none):(B.over F).get i=none:=by show (match B.get i with|some b=>some b|none=>F.get i)=none;rw[h1];exact h2
theorem Heap.q1v {B F:Heap}:B.Le (B.over F):=⟨Nat.le_max_left _ _,λi b h=>by
 show (match B.get i with|some b=>some b|none=>F.get i)=some b;rw[h]⟩
theorem Heap.q2a {B F M:Heap}(hB:B.Le M) (hF:F.Le M):F.Le (B.over F):=⟨Nat.le_max_right _ _,λi b h=>by
 show (match B.get i with|some b=>some b|none=>F.get i)=some b;cases hb:B.get i with
 |none=>exact h
 |some b' =>
  have h1:=hB.2 _ _ hb;have h2:=hF.2 _ _ h;rw[h1] at h2;exact h2⟩
theorem Heap.q1x {B F M:Heap}(hB:B.Le M) (hF:F.Le M):(B.over F).Le M:=⟨Nat.max_le.2 ⟨hB.1,hF.1⟩,λi b h=>by
 have h:(match B.get i with|some b=>some b|none=>F.get i)=some b:=h;cases hb:B.get i with
 |none=>rw[hb] at h;exact hF.2 _ _ h
 |some b'=>rw[hb] at h;rw[<-h];exact hB.2 _ _ hb⟩
theorem GBase.over {B F M B' M':Heap}(hB:B.Le B') (eJ:B'.Le M') (hF:F.Le M') (hx:∀ i b,F.get i=some b->B.get i=none->B'.get i=none) (hd:Dead M M'):GBase B F M B' (B'.over F) M' :=
 ⟨hB,Heap.q2a eJ hF,hx,hd⟩
def Q0j (ap:Ap) (sp:LSp):XSp:=λ_ args s K =>
 match args with
 |.lst o::args=>bif SVs.pure args&&(Q9 s.own o).isL then (match sp ap (Q9 s.own o) args with
   |some (c,v,b)=>bif v.ret 0&&b.isL then c/\K v ⟨s.env,oset s.own o b,s.nx⟩ else False
   |none=>False) else False
 |_=>False
def callV (ap:Ap) (sp:CSp):XSp:=λd args s K =>
 let s1:=(⟨s.env++args,s.own,s.nx⟩:St).frzs (Ml args);let a1:=s1.env.drop s.env.length
 bif SVs.pure a1 then (match sp ap a1 with
  |some (c,v,bs)=>bif v.ret bs.length&&bs.all OB.isL then c/\K (v.ren d 500000) ((⟨s1.env.take s.env.length,s1.own,s1.nx⟩:St).makes d 500000 0 bs) else False
  |none=>False) else False
section
variable {P:Program}
theorem OB.q1r {b:OB}(h:b.isL=true):∃ ty k xs nl,b=.lst ty k xs nl:=by cases b<;>first|exact⟨_,_,_,_,rfl⟩|cases h
theorem Q0c {f:Nat}{vc:VCode}{rs:List VResult}{nt:Nat}(h:Fun P f vc rs nt) (hm:P.follows .mixedOrders=true) {sp:LSp}{ap:Ap}
  (hb:∀ b args c v b',sp ap b args=some (c,v,b')->c->∃ (C:Cx) (L:List Value->List (Nat×LoopAnn)) (cG:List SV),SVs.pure cG=true/\(∀ M vs,SRs P M Jo Zf args vs->SRs P M Jo Zf cG vs)/\COk P C/\∀ vals,gwp C (L vals) vc 0 (Q7b vals rs v b' (lsv b)) (DH nt (lsv b) b vals cG)):XOk P f (Q0j ap sp):=by
 intro B F pl tb s env M d args vs K R hG ha hx hK;unfold Q0j at hx;split at hx
 .rename_i o args;cases iB:(SVs.pure args&&(Q9 s.own o).isL) with
  |false=>rw[iB] at hx;exact hx.elim
  |true =>
  rw[iB] at hx;simp only[zj] at hx;simp only[z6] at iB;obtain⟨oZ,rE⟩:=iB;obtain⟨ty,k,xs,nl,aJ⟩:=OB.q1r rE;rw[aJ] at hx;split at hx
  .rename_i c v b' cq;cases bW:(v.ret 0&&b'.isL) with
   |false=>rw[bW] at hx;exact hx.elim
   |true =>
   rw[bW] at hx;obtain⟨hc,hx⟩:=hx;simp only[z6] at bW;simp only[SRs] at ha;obtain⟨u,us,rfl,pQ,dp⟩:=ha;have aq:(Q9 s.own o).live=true:=by rw[aJ];rfl
   have ao:=hG.obj o;rw[aJ] at ao;simp only[SR] at pQ;obtain⟨rfl,hs⟩:=pQ;have bc:∀ i,oid (pl o)=some i->F.get i=none:=λi hi=>hG.fresh o i aq (PL hi);have mF:∀ i,oid (pl o)=some i->B.get i=none:=λi hi=>by
    cases hg:B.get i with
    |none=>rfl
    |some b=>have:=hG.bf.2 _ _ hg;rw[bc i hi] at this;cases this
   have dw:∀ l,pl o≠.tuple l:=λl he=>by obtain⟨_,_,_,hs⟩:=hs;rw[he] at hs;cases hs
   have mG:∀ (B:Heap) (pl':Nat->Value) (tb':Nat->Option Bool),(SR P B pl' tb' (.lst 0) (pl o)<->pl' 0=pl o):=λB pl' tb'=>by simp only[SR];exact⟨λh=>h.1.symm,λh=>⟨h.symm,hs⟩⟩
   obtain⟨C,L,cG,o3,rF,aB,hg⟩:=hb _ _ c v b' cq hc;have hg:=hg [pl o];let σc:=RE M (pl o);have pR:B.Le σc:=AG hG.leB mF;have pS:F.Le σc:=AG hG.le bc;have ax:SRs P B Jo Zf cG us:=rF B us (QI _ _ oZ dp);let jH:Nat->Value:=λj=>if j=0 then pl o else poison
   have a_:GRel P B σc M (DH nt (.lst 0) (.lst ty k xs nl) [pl o] cG) (pl o::us++List.replicate (nt-(pl o::us).length) undef) M:=by
    refine⟨B,σc,jH,Zf,⟨.refl _,.refl _,λ_ _ _ h=>h,.refl _⟩,pR,Q1j _ _,?_,λj=>?_,λj i h1 h2=>?_,λj j' i az h1 h2 h3 h4=>?_,λ_ _=>rfl⟩
    .simp only[DH,SRs,xB];refine⟨pl o,_,rfl,(mG _ _ _).2 (by simp[jH]),?_⟩;rw[ax.length,xh];refine SRs.append ?_ (NX _);exact QI _ _ o3 ax
    .simp only[DH,Q9];by_cases e0:j=0
     .subst e0;simp only[Nat.beq_refl,zj];exact ao
     .rw[Zo (λe=>e0 e.symm),cond_false];by_cases e1:j=4000000
      .subst e1;simp only[Nat.beq_refl,zj];exact⟨pl o,[],rfl,(mG _ _ _).2 (by simp[jH]),rfl⟩
      .rw[Zo (λe=>e1 e.symm),cond_false];trivial
    .simp only[DH,Q9] at h1;by_cases e0:j=0
     .subst e0;exact F3 (Q5b dw h2)
     .rw[Zo (λe=>e0 e.symm),cond_false] at h1;by_cases e1:j=4000000
      .subst e1;cases h1
      .rw[Zo (λe=>e1 e.symm),cond_false] at h1;cases h1
    .have z:∀ j,(Q9 (DH nt (.lst 0) (.lst ty k xs nl) [pl o] cG).own j).live=true->j=0:=λj h1=>by
      simp only[DH,Q9] at h1;by_cases e0:j=0
      .exact e0
      .rw[Zo (λe=>e0 e.symm),cond_false] at h1;by_cases e1:j=4000000
       .subst e1;cases h1
       .rw[Zo (λe=>e1 e.symm),cond_false] at h1;cases h1
     exact az ((z j h1).trans (z j' h2).symm)
   refine h.calls hm Dw ?_;refine Yj aB vc 0 _ _ _ M none _ trivial a_ hg λe s' af M' h1 h2=>?_
   have main:(match JJ s' rs,Q9 s'.own 4000000 with
    |some r,.stk l vs=>vs=[pl o]/\U4 [(0,some 0)] [.lst 0] l/\BK [] v r/\Fm s' [(0,some 0)] 0 b'
    |_,_=>False)->QX (Zv af M' rs) λv=>∃ v' aE,DropTo M v M' v' aE/\R v' aE:=λh=>by
    obtain⟨B',F',pl',tb',k1,k2⟩:=h2;split at h
    .rename_i r l cS hr gN;obtain⟨rfl,m1,m2,m3⟩:=h;obtain⟨w,h3,h4⟩:=Z_ k2 hr;rw[h3];have fR:=k2.obj 4000000;rw[gN] at fR;have mH:pl' 0=pl o:=by
      have:=Z0 [.lst 0] l [pl o] m1 fR;simp only[SRs] at this;obtain⟨u',_,cy,h5,_⟩:=this;obtain rfl:pl o=u':=(zR cy).1;have:=(mG _ _ _).1 h5;simpa [VE,Qs] using this
     obtain⟨ji,o4⟩:=QG k2 m3;have ku:VE pl' [(0,some 0)] 0=pl o:=by simpa [VE,Qs] using mH
     rw[ku] at ji o4;have dj:=(Y6 v r w m2 h4).retd (B':=B') (pl':=pl) (tb':=tb) (n:=0) (λj hj=>by omega) _ _ bW.1;have hle:σc.Le M':=k1.f.trans k2.le;have eJ:B'.Le M':=k2.leB;obtain⟨gf,i_,cF,kn,rfl⟩:=OB.q1r bW.2;have aZ:∀ d,d≠o->(Q9 s.own d).live=true->∀ i,Oid (pl d) i->B'.get i=none/\M'.get i=M.get i:=λd e hl i hi=>by
      have ah:=(hG.obj d).q0w hl hi;have j8:oid (pl o)≠some i:=λj8=>hG.sep d o i e hl aq hi (PL j8);cases hg:M.get i with
      |none =>
       have hn:=k1.d.2 i ah hg;refine⟨?_,hn⟩;cases bM:B'.get i with
       |none=>rfl
       |some bb=>have:=eJ.2 _ _ bM;rw[hn] at this;cases this
      |some bb =>
       have cI:σc.get i=some bb:=by rw[IY j8];exact hg
       refine⟨k1.x i bb cI ?_,hle.2 _ _ cI⟩;cases bM:B.get i with
       |none=>rfl
       |some b2=>have:=hG.bf.2 _ _ bM;rw[hG.fresh d i hl hi] at this;cases this
     have o5:∀ i,Oid (pl o) i->B'.get i=none:=λi hi=>by
      obtain⟨a,_,e2,e3⟩:=o4 rfl i hi;have:=k2.fresh a i e2 e3;cases bM:B'.get i with
      |none=>rfl
      |some b2=>have h9:=k2.bf.2 _ _ bM;rw[this] at h9;cases h9
     have ie:F.Le M':=pS.trans hle;refine⟨w,M',.refl _ _ _,hK v _ B' (B'.over F) pl tb w M' hx (.over k1.b eJ ie (λi b e1 e2=>k1.x i b (pS.2 _ _ e1) e2) k1.d) ⟨Heap.q1v,Heap.q1x eJ ie,SRs.mono k1.b (λ_ _ h=>h) _ _ hG.env,λd=>?_,λd i q1 q2=>?_,λd d' i az q1 q2 q3 q4=>?_,hG.free⟩ dj⟩
     .simp only[Qk];by_cases e:d=o
      .subst e;rw[z7 rfl];exact ji
      .rw[z8 e];exact(hG.obj d).mono k1.b (λ_ _ h=>h) λhl i hi=>(aZ d e hl i hi).2
     .simp only[Qk] at q1;by_cases e:d=o
      .subst e;exact Heap.q1k (o5 i q2) (hG.fresh d i aq q2)
      .rw[z8 e] at q1;exact Heap.q1k (aZ d e q1 i q2).1 (hG.fresh d i q1 q2)
     .have lv:∀ d,(Q9 (oset s.own o (.lst gf i_ cF kn)) d).live=true->(Q9 s.own d).live=true:=λd h=>by
       rw[Qk] at h;by_cases e:d=o
       .subst e;exact aq
       .rwa [z8 e] at h
      exact hG.sep d d' i az (lv d q1) (lv d' q2) q3 q4
    .exact h.elim
   cases e with
   |normal=>exact main h1
   |ret=>exact main h1
   |_=>exact h1.elim
  .exact hx.elim
 .exact hx.elim
theorem Od {f:Nat}{vc:VCode}{rs:List VResult}{nt:Nat}(h:Fun P f vc rs nt) (hm:P.follows .mixedOrders=true) {ap:Ap}(dO:Fk P ap) {ty:Nat}{k:Kind}{D:Type}{l:AL D}{pre:List k.T->Bool->D->Prop}{res:List k.T->Bool->D->SV}{post:List k.T->Bool->D->List k.T}
  {C:Cx}(aB:COk P C) {L:List k.T->Bool->D->List Value->List (Nat×LoopAnn)}{V:List k.T->Bool->D->Prop}
  (hq:∀ xs nl d,(∀ vals,gwp C (L xs nl d vals) vc 0 (Q7b vals rs (res xs nl d) (.lst ty k (post xs nl d) nl) (.lst 0)) (DH nt (.lst 0) (.lst ty k xs nl) vals (AL.can l d)))=V xs nl d)
  (hb:∀ xs nl d,pre xs nl d->V xs nl d):XOk P f (Q0j ap (Fb ty k l pre res post)):=by
 refine Q0c h hm λb args c v b' hs hc=>?_;unfold Fb at hs;split at hs
 .rename_i gf k' xs nl;split at hs
  .rename_i e;subst e;split at hs
   .rename_i ys d h1 h2;obtain⟨rfl,rfl,rfl⟩:=(by simpa using hs:pre ys nl d=c/\res ys nl d=v/\OB.lst gf k (post ys nl d) nl=b');unfold Ue at h1;split at h1
    .rename_i e;subst e;obtain rfl:=osj h1;exact⟨C,L xs nl d,AL.can l d,AL.q0l l d,λM vs hv=>AL.q0k dO l h2 hv,aB,(hq xs nl d).mpr (hb xs nl d hc)⟩
    .cases h1
   .cases hs
  .cases hs
 .cases hs
theorem SRs.split {B:Heap}{pl:Nat->Value}{tb:Nat->Option Bool}:∀ {a:List SV}{u v:List Value},SRs P B pl tb a (u++v)->SRs P B pl tb (a.take u.length) u/\SRs P B pl tb (a.drop u.length) v
 |a,[],v,h=>⟨by simp[SRs],by simpa using h⟩
 |[],x::u,v,h=>by simp only[SRs] at h;cases h
 |s::a,x::u,v,h=>by simp only[SRs,xB] at h;obtain⟨y,ys,e,h1,h2⟩:=h;obtain⟨rfl,rfl⟩:=zR e;obtain⟨h3,h4⟩:=SRs.split h2;simp only[xh,wC,wG,SRs];exact⟨⟨_,_,rfl,h1,h3⟩,h4⟩
theorem BX {B F M:Heap}{tb tbc:Nat->Option Bool}{env:Env}{σ0:Heap}{d nt:Nat}(dw:0<nt) (dz:Nat->Value) (bs:List OB) (hF:F.Le M)
  (ao:∀ j b,bs[j]?=some b->b.isL=true/\OR P B dz tbc M (dz j) b/\∀ i,Oid (dz j) i->σ0.n<=i/\F.get i=none)
  (dy:∀ j j' i,j<bs.length->j'<bs.length->j≠j'->Oid (dz j) i->Oid (dz j') i->False) :
  ∀ (r:List OB) (j:Nat) (pl:Nat->Value) (s:St),bs.drop j=r->Gam P B F pl tb s env M->(∀ k i,(Q9 s.own k).live=true->Oid (pl k) i->i<σ0.n\/∃ j'<j,j'<bs.length/\Oid (dz j') i/\k=d+j'*nt)->(∀ j'<j,j'<bs.length->pl (d+j'*nt)=dz j') ->
   ∃ pl',Gam P B F pl' tb (s.makes d nt j r) env M/\(∀ j'<bs.length,pl' (d+j'*nt)=dz j')
 |[],j,pl,s,hr,hG,_,hp=>⟨pl,hG,λj' cA=>hp j' (by
   have:=congrArg List.length hr;simp at this;omega) cA⟩
 |b::r,j,pl,s,hr,hG,hinv,hp=>by
  have bV:j<bs.length:=by
   rcases zl j bs.length with h|h
   .exact h
   .rw[List.drop_eq_nil_of_le h] at hr;cases hr
  have b6:bs[j]?=some b:=by
   have:(bs.drop j)[0]?=some b:=by rw[hr];rfl
   simpa using this
  have jS:bs.drop (j+1)=r:=by
   have:(bs.drop j).drop 1=r:=by rw[hr];rfl
   simpa [List.drop_drop,xP] using this
  obtain⟨h1,h2,h3⟩:=ao j b b6;obtain⟨ty,k,xs,nl,rfl⟩:=OB.q1r h1;have bG:∀ j' ,j'≠j->d+j'*nt≠d+j*nt:=λj' az e=>az (Nat.eq_of_mul_eq_mul_right dw (by omega));refine BX dw dz bs hF ao dy r (j+1) (Jm pl (d+j*nt) (dz j)) (s.make (d+j*nt) (.lst ty k xs nl)) jS (hG.make (d+j*nt) (.lst ty k xs nl) (dz j) hF (λ_ _ _ _ _=>rfl) h2 λi _ hi=>⟨(h3 i hi).2,λk' hk hl e=>?_⟩) (λk' i hl hi=>?_) λj' cA mj=>?_
  .rcases hinv k' i hl e with h|⟨j',cA,dA,he,_⟩
   .have:=(h3 i hi).1;omega
   .exact dy j j' i bV dA (by omega) hi he
  .by_cases hk:k'=d+j*nt
   .subst hk;simp only[Jm,zB] at hi;exact .inr ⟨j,by omega,bV,hi,rfl⟩
   .have cm:(Q9 s.own k').live=true:=by
     simp only[St.make,St.kill,Qk,Kb,z8 hk] at hl
     rwa [OB.q0q] at hl
    simp only[Jm,z8 hk] at hi;rcases hinv k' i cm hi with h|⟨j',cA,h5⟩
    .exact .inl h
    .exact .inr ⟨j',by omega,h5⟩
  .by_cases e:j'=j
   .subst e;simp[Jm]
   .simp only[Jm,z8 (bG j' e)];exact hp j' (by omega) mj
theorem Q07 {f:Nat}{vc:VCode}{rs:List VResult}{nt:Nat}(h:Fun P f vc rs nt) (hm:P.follows .mixedOrders=true) {sp:CSp}{ap:Ap}
  (hb:∀ fm c v bs,sp ap fm=some (c,v,bs)->c->∃ (C:Cx) (L:List (Nat×LoopAnn)) (dP:List SV),SVs.pure dP=true/\(∀ M vs,SRs P M Jo Zf fm vs->SRs P M Jo Zf dP vs)/\COk P C/\gwp C L vc 0 (VF rs v bs) (Qx nt dP)):XOk P f (callV ap sp):=by
 intro B F pl tb s env M d args vals K R hG ha hx hK;unfold callV at hx;have vi:Gam P B F pl tb ⟨s.env++args,s.own,s.nx⟩ (env++vals) M:=⟨hG.bf,hG.le,hG.env.append ha,hG.obj,hG.fresh,hG.sep,hG.free⟩;obtain⟨B1,F1,pT,rG,vj,gZ⟩:GRel P B F M ((⟨s.env++args,s.own,s.nx⟩:St).frzs (Ml args)) (env++vals) M:=GRel.frzs _ ⟨B,F,pl,tb,.of hG.bf (.refl _),vi⟩;generalize ((⟨s.env++args,s.own,s.nx⟩:St).frzs (Ml args))=s1 at hx gZ;dsimp only at hx;have hlen:s.env.length=env.length:=hG.env.length;obtain⟨iv,gS⟩:=SRs.split gZ.env;rw[hlen] at hx;have gO:Gam P B1 F1 pT rG ⟨s1.env.take env.length,s1.own,s1.nx⟩ env M:=⟨gZ.bf,gZ.le,iv,gZ.obj,gZ.fresh,gZ.sep,gZ.free⟩;generalize s1.env.drop env.length=a1 at hx gS;generalize (⟨s1.env.take env.length,s1.own,s1.nx⟩:St)=s2 at hx gO;cases oZ:SVs.pure a1 with
 |false=>rw[oZ] at hx;exact hx.elim
 |true =>
 rw[oZ] at hx;simp only[zj] at hx;split at hx
 .rename_i c v bs cq;cases bW:(v.ret bs.length&&bs.all OB.isL) with
  |false=>rw[bW] at hx;exact hx.elim
  |true =>
  rw[bW] at hx;obtain⟨hc,hx⟩:=hx;simp only[z6] at bW;obtain⟨hv,jq⟩:=bW;obtain⟨C,L,dP,dD,kB,eo,hg⟩:=hb _ c v bs cq hc;have ax:=kB B1 vals (QI _ _ oZ gS);have a_:GRel P B1 M M (Qx nt dP) (vals++List.replicate (nt-vals.length) undef) M:=by
   refine⟨B1,M,Jo,Zf,⟨.refl _,.refl _,λ_ _ _ h=>h,.refl _⟩,gO.leB,.refl _,?_,λk=>?_,λk i' h1 h2=>?_,λk k' i' kC h1 h2 h3 h4=>?_,λ_ _=>rfl⟩
   .simp only[Qx];rw[ax.length];exact SRs.append (QI _ _ dD ax) (NX _)
   .simp only[Qx,Q9];trivial
   .simp only[Qx,Q9] at h1;cases h1
   .simp only[Qx,Q9] at h1;cases h1
  refine h.calls hm Dw ?_;refine Yj eo vc 0 _ _ _ M none _ trivial a_ hg λe s' af M' h1 h2=>?_
  have main:(match JJ s' rs with
   |some r=>(match Fj v r [] with
    |some mp=>BK mp v r/\Fo s' mp 0 bs
    |none=>False)
   |none=>False)->QX (Zv af M' rs) λv=>∃ v' aE,DropTo M v M' v' aE/\R v' aE:=λh=>by
   obtain⟨B',F',pl',tb',k1,k2⟩:=h2;split at h
   .rename_i r hr;split at h
    .rename_i mp ku;obtain⟨g1,g2⟩:=h;obtain⟨u,h3,h4⟩:=Z_ k2 hr;have iC:=Y6 v r u g1 h4;have eg:=RM v r [] mp ku (λt t' a h=>by cases h);have ao:∀ j b,bs[j]?=some b->Fm s' mp j b:=λj b hj=>by have:=Pd bs 0 g2 j b hj;rwa [x3] at this
     rw[h3];have hle:M.Le M':=k1.f.trans k2.le;have eJ:B'.Le M':=k2.leB;have aQ:∀ j b,bs[j]?=some b->b.isL=true/\OR P B' (VE pl' mp) Zf M' (VE pl' mp j) b/\∀ i,Oid (VE pl' mp j) i->M.n<=i/\(B'.over F1).get i=none:=λj b hj=>by
      obtain⟨m1,m2⟩:=QG k2 (ao j b hj);have hl:=zf.1 jq b (zF hj);obtain⟨ty,k,xs,nl,rfl⟩:=OB.q1r hl;refine⟨hl,m1,λi hi=>?_⟩;obtain⟨a,_,e2,e3⟩:=m2 rfl i hi;have pO:=k2.fresh a i e2 e3;have o6:M.get i=none:=by
       cases hg:M.get i with
       |none=>rfl
       |some b=>have h9:=k1.f.2 _ _ hg;rw[pO] at h9;cases h9
      have lD:B'.get i=none:=by
       cases hg:B'.get i with
       |none=>rfl
       |some b=>have h9:=k2.bf.2 _ _ hg;rw[pO] at h9;cases h9
      have rH:F1.get i=none:=by
       cases hg:F1.get i with
       |none=>rfl
       |some b=>have h9:=gO.le.2 _ _ hg;rw[o6] at h9;cases h9
      refine⟨Nat.le_of_not_lt λah=>?_,Heap.q1k lD rH⟩;have bE:=k1.d.2 i ah o6;rcases m1 with⟨_,_,h2⟩|⟨_,i',cap,c,t,h2,_,h3,_⟩
      .rw[h2] at hi;cases hi
      .rw[h2] at hi;obtain rfl:=osj hi;rw[h3] at bE;cases bE
     have dy:∀ j j' i,j<bs.length->j'<bs.length->j≠j'->Oid (VE pl' mp j) i->Oid (VE pl' mp j') i->False:=λj j' i hj cA az hi cB=>by
      have bz:=z1 hj;have cw:=z1 cA;have r1:=zf.1 jq _ (zp hj);have r2:=zf.1 jq _ (zp cA);have l1:(bs[j]).live=true:=by cases kR:bs[j]<;>first|rfl|(rw[kR] at r1;cases r1)
      have l2:(bs[j']).live=true:=by cases kR:bs[j']<;>first|rfl|(rw[kR] at r2;cases r2)
      obtain⟨a,e1,e2,e3⟩:=(QG k2 (ao j _ bz)).2 l1 i hi;obtain⟨a',rB,jF,rC⟩:=(QG k2 (ao j' _ cw)).2 l2 i cB;by_cases e:a=a'
      .subst e;exact az (eg j j' a e1 rB)
      .exact k2.sep a a' i e e2 jF e3 rC
     have ie:F1.Le M':=gO.le.trans hle;have aZ:∀ d,(Q9 s2.own d).live=true->∀ i,Oid (pT d) i->B'.get i=none/\M'.get i=M.get i:=λd hl i hi=>by
      refine⟨?_,gO.q1t hle hl hi⟩;have ah:=(gO.obj d).q0w hl hi;cases hg:M.get i with
      |none =>
       have hn:=k1.d.2 i ah hg;cases bM:B'.get i with
       |none=>rfl
       |some bb=>have:=eJ.2 _ _ bM;rw[hn] at this;cases this
      |some bb =>
       refine k1.x i bb hg ?_;cases bM:B1.get i with
       |none=>rfl
       |some b2=>have:=gO.bf.2 _ _ bM;rw[gO.fresh d i hl hi] at this;cases this
     have vl:Gam P B' (B'.over F1) pT rG s2 env M':=⟨Heap.q1v,Heap.q1x eJ ie,SRs.mono k1.b (λ_ _ h=>h) _ _ gO.env,λd=>(gO.obj d).mono k1.b (λ_ _ h=>h) λhl i hi=>(aZ d hl i hi).2,λd i q1 q2=>Heap.q1k (aZ d q1 i q2).1 (gO.fresh d i q1 q2),gO.sep,gO.free⟩;obtain⟨vn,h5,h6⟩:=BX (d:=d) (nt:=500000) (σ0:=M) (tbc:=Zf) (by omega) (VE pl' mp) bs (Heap.q1x eJ ie) aQ dy bs 0 pT s2 rfl vl (λk i hl hi=>.inl ((gO.obj k).q0w hl hi)) (λj' cA=>by omega);refine⟨u,M',.refl _ _ _,hK _ _ B' (B'.over F1) vn rG u M' hx (vj.trans (.over k1.b eJ ie (λi b e1 e2=>k1.x i b (gO.le.2 _ _ e1) e2) k1.d)) h5 ?_⟩;exact SR.ren (tb:=Zf) (λj hj=>h6 j hj) _ _ hv iC
    .exact h.elim
   .exact h.elim
  cases e with
  |normal=>exact main h1
  |ret=>exact main h1
  |_=>exact h1.elim
 .exact hx.elim
theorem Q0s {f:Nat}{vc:VCode}{rs:List VResult}{nt:Nat}(h:Fun P f vc rs nt) (hm:P.follows .mixedOrders=true) {ap:Ap}(dO:Fk P ap) {D:Type}{la:AL D}{pre:D->Prop}{res:D->SV}{obs:D->List OB}
  {C:Cx}(aB:COk P C) {L:D->List (Nat×LoopAnn)}{V:D->Prop}
  (hq:∀ y,gwp C (L y) vc 0 (VF rs (res y) (obs y)) (Qx nt (AL.can la y))=V y)
  (hb:∀ y,pre y->V y):XOk P f (callV ap (V5 la pre res obs)):=Q07 h hm λfm c v bs hs hc=>by
 unfold V5 at hs;split at hs
 .rename_i y h2;obtain⟨rfl,rfl,rfl⟩:=(by simpa using hs:pre y=c/\res y=v/\obs y=bs);exact⟨C,L y,AL.can la y,AL.q0l la y,λM vs hv=>AL.q0k dO la h2 hv,aB,(hq y).mpr (hb y hc)⟩
 .cases hs
end
end Go.V
namespace Go.V
open Go
def pj4 {A B C D E:Type}(x:A×B×C×D×E):E:=x.2.2.2.2
def pj8 {A B C D A' B' C' D' E:Type}(x:A×B×C×D×A'×B'×C'×D'×E):E:=x.2.2.2.2.2.2.2.2
def ND {A B C D A' B' C' D' A1 B1 C1 D1 A2 B2 C2 D2 E:Type}(x:A×B×C×D×A'×B'×C'×D'×A1×B1×C1×D1×A2×B2×C2×D2×E):E:=x.2.2.2.2.2.2.2.2.2.2.2.2.2.2.2.2
theorem L3 (x:Nat):BitVec.ofInt 64 (x:Int)=BitVec.ofNat 64 x:=by apply BitVec.eq_of_toNat_eq;simp
theorem PR {x:Nat}(h:x<9223372036854775808):(BitVec.ofInt 64 (x:Int)).toNat=x:=by rw[L3,BitVec.toNat_ofNat,xR (by omega)]
theorem Q5y {x i:Nat}(hi:i<=64):XA .i64 x i=((x <<< i:Nat):Int):=by have:Nat.min i 64=i:=xL hi;simp only[XA,zq,IntKind.bits,this,Nat.shiftLeft_eq];norm_cast
end Go.V
namespace Go.Proofs.Tryz
open Go Go.V Go.Proofs
def inI (n a b:Int):Bool:=decide (a<=n)&&decide (n<=b)
theorem nI (n a b:Int):(!inI n a b)=(decide (n<a)||decide (b<n)):=by simp only[inI,Bool.not_and];by_cases h1:a<=n<;>by_cases h2:n<=b<;>simp[h1,h2]<;>omega
def GX {α:Type}(l:List α) (p:α->Bool):Int:=match l.findIdx? p with|some i=>(i:Int)|none=>-1
def ON (l:List Int) (p:Int->Bool):Int:=match l.findIdx? p with|some i=>(i:Int)|none=>-1
theorem Ly {α:Type}{l:List α}{p:α->Bool}{k:Nat}(hk:k<l.length) (h:p l[k]=true) (hJ:(l.take k).any p=false):GX l p=k:=by
 have:l.findIdx? p=some k:=by rw[List.findIdx?_eq_some_iff_getElem];refine⟨hk,h,λj hj=>?_⟩;have hn:=xD.1 hJ l[j] (List.mem_take_iff_getElem.2 ⟨j,by omega,rfl⟩);simpa using hn
 simp[GX,this]
theorem PW {α:Type}{l:List α}{p:α->Bool}(hJ:l.any p=false):GX l p=-1:=by
 have:l.findIdx? p=none:=by rw[List.findIdx?_eq_none_iff];intro x hx;have:=xD.1 hJ x hx;simpa using this
 simp[GX,this]
theorem Q1e {α:Type}(l:List α) (p:α->Bool):(decide (GX l p>=0))=l.any p:=by
 cases h:l.any p with
 |false=>rw[PW h];rfl
 |true =>
  have:(l.findIdx? p).isSome=true:=by rw[List.findIdx?_isSome,h]
  obtain⟨i,hi⟩:=Option.isSome_iff_exists.1 this;have e:GX l p=(i:Int):=by simp[GX,hi]
  rw[e];exact wJ (Int.natCast_nonneg i)
def Bm:Nat->Nat->Nat
 |0,_=>0
 |h+1,n=>2*Bm h n+(n / 2 ^ h) % 2
theorem RA:∀ h n,Bm h n<2 ^ h
 |0,_=>by simp[Bm]
 |h+1,n=>by have:=RA h n;have h2:(n / 2 ^ h) % 2<2:=wE _ (by omega);simp only[Bm];rw[Nat.pow_succ];omega
theorem HH:∀ h n i,(Bm h n).testBit i=(decide (i<h)&&n.testBit (h-1-i))
 |0,n,i=>by simp[Bm]
 |h+1,n,0=>by simp only[Bm];rw[Nat.testBit_zero,Nat.testBit_eq_decide_div_mod_eq];simp
 |h+1,n,i+1=>by have h2:(n / 2 ^ h) % 2<2:=wE _ (by omega);simp only[Bm];rw[Nat.testBit_succ,show (2*Bm h n+n / 2 ^ h % 2) / 2=Bm h n by omega,HH h n i];rw[show h+1-1-(i+1)=h-1-i by omega];congr 1;rw[decide_eq_decide];omega
def Uj (s m x:Nat):Nat:=((x >>> s) &&& m) ||| ((x &&& m) <<< s)
theorem Q1c (s m x i:Nat):(Uj s m x).testBit i=((x.testBit (s+i)&&m.testBit i)||(decide (s<=i)&&(x.testBit (i-s)&&m.testBit (i-s)))):=by unfold Uj;rw[Nat.testBit_or,Nat.testBit_and,Nat.testBit_shiftRight,Nat.testBit_shiftLeft,Nat.testBit_and]
def Uk (s i:Nat):Nat:=if i / s % 2=0 then i+s else i-s
def Z28 (s m:Nat):Bool:=(List.range 64).all λi=>m.testBit i==(i / s % 2==0)
theorem Li {s m x i:Nat}(hs:s=1\/s=2\/s=4\/s=8\/s=16\/s=32) (hm:Z28 s m=true) (hx:x<2 ^ 64) (hi:i<64):(Uj s m x).testBit i=x.testBit (Uk s i):=by
 have rI:∀ j,j<64->m.testBit j=(j / s % 2==0):=λj hj=>by have:=zf.1 hm j (zD.2 hj);simpa using this
 have hb:∀ j,64<=j->x.testBit j=false:=λj hj=>Nat.testBit_lt_two_pow (xi hx (Nat.pow_le_pow_right (by omega) hj));rw[Q1c,rI i hi];unfold Uk;by_cases h0:i / s % 2=0
 .rw[z7 h0,h0];simp only[beq_self_eq_true,xO];have hz:(decide (s<=i)&&(x.testBit (i-s)&&m.testBit (i-s)))=false:=by
   by_cases h1:s<=i
   .rw[rI (i-s) (by omega)];have:¬ ((i-s) / s % 2=0):=by rcases hs with rfl|rfl|rfl|rfl|rfl|rfl<;>omega
    simp[this]
   .simp[h1]
  rw[hz,xY,xP]
 .rw[z8 h0];have h1:s<=i:=by rcases hs with rfl|rfl|rfl|rfl|rfl|rfl<;>omega
  have h2:(i-s) / s % 2=0:=by rcases hs with rfl|rfl|rfl|rfl|rfl|rfl<;>omega
  rw[rI (i-s) (by omega),h2];simp[h0,h1]
theorem Mk {s m x:Nat}(hs:s=1\/s=2\/s=4\/s=8\/s=16\/s=32) (hx:x<2 ^ 64) (hm:m<2 ^ (64-s)):Uj s m x<2 ^ 64:=by
 unfold Uj;refine Nat.or_lt_two_pow ?_ ?_
 .exact xM Nat.and_le_left (xM (by rw[xW];exact Nat.div_le_self _ _) hx)
 .have h1:x &&& m<2 ^ (64-s):=xM Nat.and_le_right hm;rw[Nat.shiftLeft_eq];have h2:2 ^ 64=2 ^ (64-s)*2 ^ s:=by rw[<-Nat.pow_add];congr 1;omega
  rw[h2];exact Nat.mul_lt_mul_of_pos_right h1 (Nat.two_pow_pos s)
def rev8 (x:Nat):Nat:=Uj 4 1085102592571150095 (Uj 2 3689348814741910323 (Uj 1 6148914691236517205 x))
def Q02 (x:Nat):Nat:=(Uj 16 281470681808895 (Uj 8 71777214294589695 x)) >>> 32 ||| ((Uj 16 281470681808895 (Uj 8 71777214294589695 x)) <<< 32) % 2 ^ 64
theorem AY {x i:Nat}(hx:x<2 ^ 64) (hi:i<64):(rev8 x).testBit i=x.testBit (Uk 1 (Uk 2 (Uk 4 i)))/\rev8 x<2 ^ 64:=by
 have b1:Uj 1 6148914691236517205 x<2 ^ 64:=Mk (.inl rfl) hx (by decide);have b2:Uj 2 3689348814741910323 (Uj 1 6148914691236517205 x)<2 ^ 64:=Mk (.inr (.inl rfl)) b1 (by decide);have b3:=Mk (s:=4) (m:=1085102592571150095) (by omega) b2 (by decide);refine⟨?_,b3⟩;unfold rev8;have e4:Uk 4 i<64:=by unfold Uk;split<;>omega
 have e2:Uk 2 (Uk 4 i)<64:=by generalize Uk 4 i=j at e4;unfold Uk;split<;>omega
 rw[Li (by omega) (by decide) b2 hi,Li (by omega) (by decide) b1 e4,Li (by omega) (by decide) hx e2]
theorem Q03 {x i:Nat}(hx:x<2 ^ 64) (hi:i<64):(Q02 x).testBit i=x.testBit (Uk 8 (Uk 16 (Uk 32 i))):=by
 have b1:Uj 8 71777214294589695 x<2 ^ 64:=Mk (by omega) hx (by decide);have b2:Uj 16 281470681808895 (Uj 8 71777214294589695 x)<2 ^ 64:=Mk (by omega) b1 (by decide);have vp:(Q02 x).testBit i=(Uj 16 281470681808895 (Uj 8 71777214294589695 x)).testBit (Uk 32 i):=by
  unfold Q02;generalize Uj 16 281470681808895 (Uj 8 71777214294589695 x)=y at b2;rw[Nat.testBit_or,Nat.testBit_shiftRight,Nat.testBit_mod_two_pow,Nat.testBit_shiftLeft];unfold Uk;by_cases h:i / 32 % 2=0
  .rw[z7 h,xP];have:¬ 32<=i:=by omega
   simp[this]
  .rw[z8 h];have h1:32<=i:=by omega
   have h2:y.testBit (32+i)=false:=Nat.testBit_lt_two_pow (xi b2 (Nat.pow_le_pow_right (by omega) (by omega)));rw[h2];simp[h1,hi]
 have pU:Uk 32 i<64:=by unfold Uk;split<;>omega
 have rJ:Uk 16 (Uk 32 i)<64:=by generalize Uk 32 i=j at pU;unfold Uk;split<;>omega
 rw[vp,Li (by omega) (by decide) b1 pU,Li (by omega) (by decide) hx rJ]
theorem Q6s {x:Nat}(hx:x<2 ^ 64):Q02 x<2 ^ 64:=by unfold Q02;have b1:Uj 8 71777214294589695 x<2 ^ 64:=Mk (by omega) hx (by decide);have b2:Uj 16 281470681808895 (Uj 8 71777214294589695 x)<2 ^ 64:=Mk (by omega) b1 (by decide);refine Nat.or_lt_two_pow (xM (by rw[xW];exact Nat.div_le_self _ _) b2) (wE _ (by decide))
theorem Q6k:∀ i,i<64->Uk 1 (Uk 2 (Uk 4 (Uk 8 (Uk 16 (Uk 32 i)))))=63-i:=by decide
theorem Z3v {x:Nat}(hx:x<2 ^ 64):Q02 (rev8 x)=Bm 64 x:=by
 refine Nat.eq_of_testBit_eq λi=>?_;have h8:=(AY (i:=0) hx (by omega)).2;rw[HH];by_cases hi:i<64
 .rw[Q03 h8 hi];have pU:Uk 32 i<64:=by unfold Uk;split<;>omega
  have rJ:Uk 16 (Uk 32 i)<64:=by generalize Uk 32 i=j at pU;unfold Uk;split<;>omega
  have e8:Uk 8 (Uk 16 (Uk 32 i))<64:=by generalize Uk 16 (Uk 32 i)=j at rJ;unfold Uk;split<;>omega
  rw[(AY hx e8).1,Q6k i hi];simp[hi]
 .rw[Nat.testBit_lt_two_pow (xi (Q6s h8) (Nat.pow_le_pow_right (by omega) (by omega)))];simp[hi]
theorem Fh {f n:Nat}(hf:f<=64) (hn:n<2 ^ f):Bm 64 n >>> (64-f)=Bm f n:=by
 refine Nat.eq_of_testBit_eq λi=>?_;rw[Nat.testBit_shiftRight,HH,HH];by_cases hi:i<f
 .rw[wJ hi,wJ (show 64-f+i<64 by omega),Bool.true_and,Bool.true_and];congr 1;omega
 .rw[xK hi,xK (show ¬ 64-f+i<64 by omega)];rfl
theorem Q0b {x:Nat}(hx:x<2 ^ 64):(BitVec.ofInt 64 (x:Int)).toNat=x:=by rw[L3,BitVec.toNat_ofNat,xR hx]
theorem Q5a (x:Nat):IntKind.wrap .u64 (x:Int)=((x % 2 ^ 64:Nat):Int):=by show (x:Int) % 18446744073709551616=_;omega
theorem Z5l {a b:Nat}(ha:a<2 ^ 64) (hb:b<2 ^ 64):Q8 .and .u64 (a:Int) (b:Int)=((a &&& b:Nat):Int):=by
 have e:(BitVec.ofInt 64 (a:Int) &&& BitVec.ofInt 64 (b:Int)).toNat=a &&& b:=by rw[BitVec.toNat_and,Q0b ha,Q0b hb]
 show IntKind.wrap .u64 ((BitVec.ofInt 64 (a:Int) &&& BitVec.ofInt 64 (b:Int)).toNat:Int)=_;rw[e,Q5a,xR (xM Nat.and_le_left ha)]
theorem orU {a b:Nat}(ha:a<2 ^ 64) (hb:b<2 ^ 64):Q8 .or .u64 (a:Int) (b:Int)=((a ||| b:Nat):Int):=by
 have e:(BitVec.ofInt 64 (a:Int) ||| BitVec.ofInt 64 (b:Int)).toNat=a ||| b:=by rw[BitVec.toNat_or,Q0b ha,Q0b hb]
 show IntKind.wrap .u64 ((BitVec.ofInt 64 (a:Int) ||| BitVec.ofInt 64 (b:Int)).toNat:Int)=_;rw[e,Q5a,xR (Nat.or_lt_two_pow ha hb)]
theorem Z39 {x i:Nat}(hi:i<=64):Xf .u64 (x:Int) (i:Int)=((x >>> i:Nat):Int):=by have:Nat.min i 64=i:=xL hi;simp only[Xf,zq,IntKind.bits,this];rw[xW,Int.fdiv_eq_ediv_of_nonneg _ (Int.le_of_lt (Int.pow_pos (by omega)))];norm_cast
theorem Z51 {x i:Nat}(hi:i<=64):XA .u64 (x:Int) (i:Int)=((x <<< i:Nat):Int):=by have:Nat.min i 64=i:=xL hi;simp only[XA,zq,IntKind.bits,this,Nat.shiftLeft_eq];norm_cast
theorem Q8t {s m x:Nat}(hs:s=1\/s=2\/s=4\/s=8\/s=16\/s=32) (hx:x<2 ^ 64) (hm:m<2 ^ (64-s)) :
  Q8 .or .u64 (Q8 .and .u64 (Xf .u64 (x:Int) (s:Int)) (m:Int)) (XA .u64 (Q8 .and .u64 (x:Int) (m:Int)) (s:Int))=((Uj s m x:Nat):Int)/\InK .u64 (XA .u64 (Q8 .and .u64 (x:Int) (m:Int)) (s:Int))/\Uj s m x<2 ^ 64:=by
 have o7:m<2 ^ 64:=xi hm (Nat.pow_le_pow_right (by omega) (by omega));have br:x >>> s<2 ^ 64:=xM (by rw[xW];exact Nat.div_le_self _ _) hx;have hl:(x &&& m) <<< s<2 ^ 64:=by
  have h1:x &&& m<2 ^ (64-s):=xM Nat.and_le_right hm;rw[Nat.shiftLeft_eq];have h2:2 ^ 64=2 ^ (64-s)*2 ^ s:=by rw[<-Nat.pow_add];congr 1;omega
  rw[h2];exact Nat.mul_lt_mul_of_pos_right h1 (Nat.two_pow_pos s)
 rw[Z39 (by omega),Z5l br o7,Z5l hx o7,Z51 (by omega),orU (xM Nat.and_le_left br) hl];refine⟨rfl,?_,Mk hs hx hm⟩;rw[Bb];generalize (x &&& m) <<< s=z at hl;omega
theorem sw1 {x:Nat}(hx:x<2 ^ 64):Q8 .or .u64 (Q8 .and .u64 (Xf .u64 (x:Int) 1) 6148914691236517205) (XA .u64 (Q8 .and .u64 (x:Int) 6148914691236517205) 1)=((Uj 1 6148914691236517205 x:Nat):Int)/\InK .u64 (XA .u64 (Q8 .and .u64 (x:Int) 6148914691236517205) 1)/\Uj 1 6148914691236517205 x<2 ^ 64:=Q8t (s:=1) (m:=6148914691236517205) (by omega) hx (by decide)
theorem sw2 {x:Nat}(hx:x<2 ^ 64):Q8 .or .u64 (Q8 .and .u64 (Xf .u64 (x:Int) 2) 3689348814741910323) (XA .u64 (Q8 .and .u64 (x:Int) 3689348814741910323) 2)=((Uj 2 3689348814741910323 x:Nat):Int)/\InK .u64 (XA .u64 (Q8 .and .u64 (x:Int) 3689348814741910323) 2)/\Uj 2 3689348814741910323 x<2 ^ 64:=Q8t (s:=2) (m:=3689348814741910323) (by omega) hx (by decide)
theorem sw4 {x:Nat}(hx:x<2 ^ 64):Q8 .or .u64 (Q8 .and .u64 (Xf .u64 (x:Int) 4) 1085102592571150095) (XA .u64 (Q8 .and .u64 (x:Int) 1085102592571150095) 4)=((Uj 4 1085102592571150095 x:Nat):Int)/\InK .u64 (XA .u64 (Q8 .and .u64 (x:Int) 1085102592571150095) 4)/\Uj 4 1085102592571150095 x<2 ^ 64:=Q8t (s:=4) (m:=1085102592571150095) (by omega) hx (by decide)
theorem sw8 {x:Nat}(hx:x<2 ^ 64):Q8 .or .u64 (Q8 .and .u64 (Xf .u64 (x:Int) 8) 71777214294589695) (XA .u64 (Q8 .and .u64 (x:Int) 71777214294589695) 8)=((Uj 8 71777214294589695 x:Nat):Int)/\InK .u64 (XA .u64 (Q8 .and .u64 (x:Int) 71777214294589695) 8)/\Uj 8 71777214294589695 x<2 ^ 64:=Q8t (s:=8) (m:=71777214294589695) (by omega) hx (by decide)
theorem Z64 {x:Nat}(hx:x<2 ^ 64):Q8 .or .u64 (Q8 .and .u64 (Xf .u64 (x:Int) 16) 281470681808895) (XA .u64 (Q8 .and .u64 (x:Int) 281470681808895) 16)=((Uj 16 281470681808895 x:Nat):Int)/\InK .u64 (XA .u64 (Q8 .and .u64 (x:Int) 281470681808895) 16)/\Uj 16 281470681808895 x<2 ^ 64:=Q8t (s:=16) (m:=281470681808895) (by omega) hx (by decide)
theorem Z63 {x:Nat}(hx:x<2 ^ 64):Q8 .or .u64 (Xf .u64 (x:Int) 32) (IntKind.wrap .u64 (XA .u64 (x:Int) 32))=((x >>> 32 ||| (x <<< 32) % 2 ^ 64:Nat):Int):=by have h1:Xf .u64 (x:Int) 32=((x >>> 32:Nat):Int):=Z39 (i:=32) (by omega);have h2:XA .u64 (x:Int) 32=((x <<< 32:Nat):Int):=Z51 (i:=32) (by omega);rw[h1,h2,Q5a,orU (xM (by rw[xW];exact Nat.div_le_self _ _) hx) (wE _ (by decide))]
abbrev V8:=Int×Int×Bool
def YB:V8:=(0,(0,false))
def QT (hk:Int) (c:V8):Bool:=inI c.1 (-1) 59&&inI c.2.1 0 (2 ^ hk.toNat-1)
def QF (hk:Int) (cs:List V8):Int:=if !inI hk 1 24 then 3 else if 60<cs.length then 5 else if cs=[]\/(cs.any λc=>!QT hk c)=true then 2 else 0
def IB (f row:Int):Int:=((Bm f.toNat row.toNat:Nat):Int)
def Yh (hk:Int) (c:V8):Int:=if c.2.2 then IB hk c.2.1 else c.2.1
def atK (n a:Int) (st:List Int):Nat->Int
 |0=>a
 |k+1=>Int.tmod (atK n a st k+st.getD k 0) n
def Hd (hk:Int) (cs:List V8) (a:Int) (st:List Int) (k:Nat):List Int:=(List.range k).map λi=>Yh hk (cs.getD (atK cs.length a st i).toNat YB)
def J4 (hk:Int) (cs:List V8) (a:Int) (st:List Int):Int:=if QF hk cs≠0 then QF hk cs else if !inI a 0 ((cs.length:Int)-1) then 7 else if 60<st.length then 5 else if (st.any λs=>!inI s 0 2)=true then 2 else 0
def GY (hk:Int) (cs:List V8) (a:Int) (st:List Int):List Int:=if J4 hk cs a st=0 then Hd hk cs a st st.length else []
def Vz (hk:Int) (cs:List V8) (a:Int) (st:List Int):Int:=if J4 hk cs a st=0 then atK cs.length a st st.length else 0
theorem LN {n a b:Int}(h:(!inI n a b)=false):a<=n/\n<=b:=by unfold inI at h;simp at h;omega
theorem Z65 {k:Nat}(h:k<=62):XA .i64 1 (k:Int)=((2 ^ k:Nat):Int):=by have:=Q5y (x:=1) (i:=k) (by omega);rw[Nat.shiftLeft_eq,xF] at this;exact this
theorem HB (k:Nat):(2:Int) ^ k=((2 ^ k:Nat):Int):=by simp
theorem Q1v {k:Nat}(h:k<=24):0<2 ^ k/\2 ^ k<=16777216:=⟨Nat.two_pow_pos k,Nat.pow_le_pow_right (n:=2) (by omega) h⟩
theorem Bd {f:Int}{c:V8}(h:QT f c=true):0<=c.2.1/\c.2.1<2 ^ f.toNat:=by unfold QT inI at h;simp only[z6,zm] at h;omega
theorem Q0x {hk:Int}{cs:List V8}(h1:(!inI hk 1 24)=false) (h2:cs.length<=60) (h3:(!(!cs.isEmpty&&!(cs.any λc=>!QT hk c)))=true):QF hk cs=2:=by unfold QF;rw[z8 (by rw[h1];decide),z8 (by omega),z7];simp only[Bool.not_and,Bool.not_not,zy,List.isEmpty_iff] at h3;exact h3
theorem IA {hk:Int}{cs:List V8}(h1:(!inI hk 1 24)=false) (h2:cs.length<=60) (h3:(!(!cs.isEmpty&&!(cs.any λc=>!QT hk c)))=false):QF hk cs=0/\cs≠[]/\∀ c∈cs,QT hk c=true:=by
 simp only[Bool.not_and,Bool.not_not,Bool.or_eq_false_iff] at h3;have az:cs≠[]:=λe=>by rw[e] at h3;cases h3.1
 refine⟨?_,az,λc hc=>?_⟩
 .unfold QF;rw[z8 (by rw[h1];decide),z8 (by omega),z8];rintro (h|h)
  .exact az h
  .rw[h3.2] at h;cases h
 .have:=xD.1 h3.2 c hc;simpa using this
theorem VP {hk a:Int}{cs:List V8}{st:List Int}{e:Int}(h:J4 hk cs a st=e) (h0:e≠0):(0=Vz hk cs a st/\e=J4 hk cs a st)/\GY hk cs a st=[]/\(GY hk cs a st).isEmpty=true:=by
 have h1:J4 hk cs a st≠0:=by omega
 have h2:GY hk cs a st=[]:=by unfold GY;rw[z8 h1]
 have h3:Vz hk cs a st=0:=by unfold Vz;rw[z8 h1]
 rw[h2,h3];exact⟨⟨rfl,h.symm⟩,rfl,rfl⟩
theorem En (hk:Int) (cs:List V8) (a:Int) (st:List Int) (k:Nat):Hd hk cs a st (k+1)=Hd hk cs a st k++[Yh hk (cs.getD (atK cs.length a st k).toNat YB)]:=by unfold Hd;rw[List.range_succ,xN];rfl
theorem Pp (hk:Int) (cs:List V8) (a:Int) (st:List Int) (k:Nat):(Hd hk cs a st k).length=k:=by simp[Hd]
theorem Q4e {n:Nat}{a:Int}{st:List Int}(hn:0<n) (h0:0<=a) (h1:a<n) (hs:∀ s∈st,0<=s):∀ k,0<=atK n a st k/\atK n a st k<n
 |0=>⟨h0,h1⟩
 |k+1=>by
  have ih:=Q4e hn h0 h1 hs k;have hg:0<=st.getD k 0:=by
   rw[zd];cases h:st[k]? with
   |none=>exact Int.le_refl _
   |some x=>exact hs x (zF h)
  simp only[atK];rw[Int.tmod_eq_emod_of_nonneg (by omega)];exact⟨Int.emod_nonneg _ (by omega),Int.emod_lt_of_pos _ (by omega)⟩
theorem Ua {hk:Int}{cs:List V8}(h:QF hk cs=0):(1<=hk/\hk<=24)/\cs.length<=60/\cs≠[]/\∀ c∈cs,QT hk c=true:=by
 unfold QF at h;split at h
 .cases h
 .rename_i h1;have h1:(!inI hk 1 24)=false:=by simpa using h1
  split at h
  .cases h
  .split at h
   .cases h
   .rename_i h2 h3;refine⟨LN h1,by omega,λe=>h3 (.inl e),λc hc=>?_⟩;cases av:QT hk c with
    |true=>rfl
    |false=>exact(h3 (.inr (xu.2 ⟨c,hc,by rw[av];rfl⟩))).elim
theorem FZ {n:Nat}{a:Int}{st:List Int}(hn:0<n) (h0:0<=a) (h1:a<n):∀ k,(∀ j,j<k->0<=st.getD j 0)->0<=atK n a st k/\atK n a st k<n
 |0,_=>⟨h0,h1⟩
 |k+1,hs=>by have ih:=FZ hn h0 h1 k λj hj=>hs j (by omega);have hg:=hs k (by omega);simp only[atK];rw[Int.tmod_eq_emod_of_nonneg (by omega)];exact⟨Int.emod_nonneg _ (by omega),Int.emod_lt_of_pos _ (by omega)⟩
end Go.Proofs.Tryz