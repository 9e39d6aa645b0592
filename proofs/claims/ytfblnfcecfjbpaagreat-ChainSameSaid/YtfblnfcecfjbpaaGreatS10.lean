/- A framework for walks, contracts of functions, and their proofs: part 10. -/
import Derived.Test.YtfblnfcecfjbpaaGreatS9
set_option linter.unusedVariables false
set_option maxRecDepth 100000
namespace Go.V
open Go
section
variable {P:Program}{B F:Heap}{pl:Nat->Value}{tb:Nat->Option Bool}{own:Own}{U:Heap}
mutual
theorem F4 {bx:List SV->Nat->SV}(hle:B.Le U) (aA:∀ d,OR P B pl tb U (pl d) (Qf own d))
  (kW:∀ l off b c e t,U.get b=some (.cells c e true t)->SRs P B pl tb l c->SR P U X1 J3 (bx l off) (.pointer (some ⟨b,off,none⟩))) :
  ∀ (s:SV) (v:Value),SR P B pl tb s v->SR P U X1 J3 (PX own bx s) v
 |.any,v,h=>by simp[PX,SR]
 |.val k x,v,h=>by simp only[PX,SR] at h |-;exact h.mono hle
 |.bid n c,v,h=>by simp only[PX,SR] at h |-;obtain⟨rfl,_⟩:=h;rfl
 |.grd gs s,v,h=>by simp[PX,SR]
 |.nilS,v,h=>by simp only[PX,SR] at h |-;exact h
 |.nilP,v,h=>by simp only[PX,SR] at h |-;exact h
 |.nilM,v,h=>by simp only[PX,SR] at h |-;exact h
 |.nilF,v,h=>by simp only[PX,SR] at h |-;exact h
 |.lst o,v,h=>by
  simp only[PX];split
  .rename_i ty k xs nl ho;have:view own k (.lst o)=some xs:=by simp[view,ho,UC]
   simp only[SR,KC];exact⟨v,rfl,(VC hle aA this h).mono (Heap.Le.refl _) λ_ _ e=>e.mono hle⟩
  .simp[SR]
 |.sub o lo n sz,v,h=>by
  simp only[PX];split
  .rename_i ty k xs nl ho;split
   .rename_i aG;have:view own k (.sub o lo n sz)=some ((xs.drop lo).take n):=by simp[view,ho,UC,aG]
    simp only[SR,KC];exact⟨v,rfl,(VC hle aA this h).mono (Heap.Le.refl _) λ_ _ e=>e.mono hle⟩
   .simp[SR]
  .simp[SR]
 |.elp o i off sz,v,h=>by simp[PX,SR]
 |.dd o w,v,h=>by
  simp only[PX];simp only[SR] at h;split
  .rename_i ty q k xs nl hole ho;have aq:=aA o;rw[ho] at aq;have dx:=DP.le aq;split
   .split
    .obtain⟨h1,_⟩:=h;simp only[SR,KC];refine⟨v,rfl,?_⟩;rw[h1];exact(DP.sl aq).mono dx λ_ _ e=>e.mono dx
    .simp[SR]
   .simp only[SR];exact KC.mono dx h
   .simp only[SR];exact KC.mono dx h.1
   .simp[SR]
  .simp[SR]
 |.map o,v,h=>by simp[PX,SR]
 |.tup l,v,h=>by simp[PX,SR]
 |.box o off,v,h=>by
  simp only[PX];split
  .rename_i l _ ho;have aq:=aA o;rw[ho] at aq;obtain⟨i,c,e,t,h1,h2,h3,_⟩:=aq;simp only[SR] at h;obtain⟨b,h4,rfl⟩:=h;rw[h4] at h1;obtain rfl:=(by simpa using h1:b=i);exact kW l off b c e t h2 h3
  .simp[SR]
 |.rop k l i off,v,h=>by simp only[PX];exact SR.mono (tb:=tb) hle (λn c hn=>hn) (.rop k l i off) v h |> λh=>by simp only[SR] at h |-;exact h
 |.cp l off,v,h=>by simp only[PX,SR] at h |-;obtain⟨b,c,e,wr,t,h1,h2,h3⟩:=h;exact⟨b,c,e,wr,t,hle.2 _ _ h1,h2,Xg hle aA kW l c h3⟩
 |.agg l,v,h=>by simp only[PX,SR] at h |-;obtain⟨cs,h1,h2⟩:=h;exact⟨cs,h1,Xg hle aA kW l cs h2⟩
 |.fn f a b,v,h=>by simp only[PX,SR] at h |-;obtain⟨x,y,h1,h2,h3⟩:=h;exact⟨x,y,h1,Xg hle aA kW a x h2,Xg hle aA kW b y h3⟩
 |.pf ks r cT p,v,h=>by simp only[PX,SR] at h |-;exact h.mono hle
theorem Xg {bx:List SV->Nat->SV}(hle:B.Le U) (aA:∀ d,OR P B pl tb U (pl d) (Qf own d))
  (kW:∀ l off b c e t,U.get b=some (.cells c e true t)->SRs P B pl tb l c->SR P U X1 J3 (bx l off) (.pointer (some ⟨b,off,none⟩))) :
  ∀ (s:List SV) (v:List Value),SRs P B pl tb s v->SRs P U X1 J3 (H3 own bx s) v
 |[],v,h=>by simp only[H3,SRs] at h |-;exact h
 |s::ss,v,h=>by simp only[H3,SRs] at h |-;obtain⟨x,y,h1,h2,h3⟩:=h;exact⟨x,y,h1,F4 hle aA kW s x h2,Xg hle aA kW ss y h3⟩
end
theorem Y4 (hle:B.Le U) (aA:∀ d,OR P B pl tb U (pl d) (Qf own d)) {l:List SV}{v:List Value}(h:SRs P B pl tb l v):SRs P U X1 J3 (BM own l) v:=by
 have h0:∀ {l v},SRs P B pl tb l v->SRs P U X1 J3 (Z5q own l) v:=λh=>Xg hle aA (λ_ _ _ _ _ _ _ _=>by simp[SR]) _ _ h;have h1:∀ {l v},SRs P B pl tb l v->SRs P U X1 J3 (Z5w own l) v:=λh=>Xg hle aA (λl off b c e t hg hs=>by
  simp only[SR];exact⟨b,c,e,true,t,hg,rfl,h0 hs⟩) _ _ h
 exact Xg hle aA (λl off b c e t hg hs=>by
  simp only[SR];exact⟨b,c,e,true,t,hg,rfl,h1 hs⟩) _ _ h
mutual
theorem FW {p q:Nat->Value}{n:Nat}(h:∀ j,j<n->p j=q j):∀ (s:SV),s.ret n=true->Vf p s=Vf q s
 |.val _ _,_|.nilS,_|.nilP,_|.nilM,_|.nilF,_=>by simp[Vf]
 |.lst j,hr=>by simp only[Vf];exact h j (by simpa [SV.ret,zR] using hr)
 |.agg l,hr=>by simp only[Vf];rw[RM h l hr]
 |.tup l,hr=>by simp only[Vf];rw[RM h l hr]
 |.box _ _,_|.map _,_=>by simp[Vf]
 |.dd _ _,_=>by simp[Vf]
 |.any,h|.bid _ _,h|.grd _ _,h|.sub _ _ _ _,h|.elp _ _ _ _,h|.rop _ _ _ _,h|.cp _ _,h|.fn _ _ _,h|.pf _ _ _ _,h=>by cases h
theorem RM {p q:Nat->Value}{n:Nat}(h:∀ j,j<n->p j=q j):∀ (s:List SV),SVs.ret n s=true->YW p s=YW q s
 |[],_=>rfl
 |s::ss,hr=>by simp only[SVs.ret,z8] at hr;simp only[YW];rw[FW h s hr.1,RM h ss hr.2]
end
theorem J0 {cs:List (Nat×CSp)}(aC:CsOk P cs) {f:SV}{args:List SV}{c:Prop}{v:SV}{bs:List OB}{fV:Value}{vs:List Value}(hf:SR P U X1 J3 f fV) (ha:SRs P U X1 J3 args vs)
  (h:Vb cs f args=some (c,v,bs)) (hv:v.ret bs.length=true) (hb:bs.all OB.ret=true) (hc:c):∃ g a b,fV=.func (.func g) a b/\(VCalled P g (a.toList++vs++b.toList) U λu U'=>Ret P U v bs u U') /\
  (bs.all OB.isL=true->V8 v=true->VCalled P g (a.toList++vs++b.toList) U λu U'=>u=Vf (Ro U bs) v/\U'=BQ U bs):=by
 have gen:(gap cs 3 f args).map (λx=>(x.1,x.2,([]:List OB)))=some (c,v,bs)->∃ g a b,fV=.func (.func g) a b/\(VCalled P g (a.toList++vs++b.toList) U λu U'=>Ret P U v bs u U') /\
   (bs.all OB.isL=true->V8 v=true->VCalled P g (a.toList++vs++b.toList) U λu U'=>u=Vf (Ro U bs) v/\U'=BQ U bs):=λh=>by
  simp only[zw] at h;obtain⟨⟨c',v'⟩,h1,h2⟩:=h;simp only[Prod.mk.injEq] at h2;obtain⟨rfl,rfl,rfl⟩:=h2;obtain⟨h3,g,a,b,rfl,h4⟩:=IP aC 3 U f args c' v' fV vs hf ha h1 hc;refine⟨g,a,b,rfl,h4.mono λu U' hu=>?_,λ_ cJ=>h4.mono λu U' hu=>?_⟩
  .obtain⟨rfl,hu⟩:=hu;exact⟨⟨Heap.Le.refl _,Dead.refl _⟩,λ_=>rfl,X1,(λj b hj=>by simp at hj),(λj j' i hj=>by simp at hj),hu⟩
  .obtain⟨rfl,hu⟩:=hu;have hz:BQ U' []=U':=(LR (P:=P) U' (v:=v') (bs:=[]) h3 cJ rfl rfl (λb hb=>by cases hb)).2.1 rfl;refine⟨?_,hz.symm⟩;rw[Vn v' u h3 cJ hu];exact FW (λj hj=>by omega) v' h3
 cases f with
 |fn g a b =>
  simp only[Vb] at h;split at h
  .rename_i sp bM;simp only[SR] at hf;obtain⟨x,y,rfl,h1,h2⟩:=hf;refine⟨g,x.toArray,y.toArray,rfl,?_⟩;simpa using aC g sp bM (gap cs 3) (IP aC 3) U (a++args++b) (x++vs++y) c v bs ((h1.append ha).append h2) h hv hb hc
  .cases h
 |_=>exact gen h
theorem Gam.q1x {s:St}{env:Env}{U':Heap}(h:Gam P B F pl tb s env U) (hl:U.Le U') {d:Nat}(ao:(Qf s.own d).live=true) {i:Nat}(hi:Oid (pl d) i):U'.get i=U.get i:=by
  have ah:=(h.obj d).q1d ao hi;cases hb:U.get i with
  |none =>
   have aq:=h.obj d;cases ho:Qf s.own d with
   |dead=>rw[ho] at ao;cases ao
   |lst ty k xs nl =>
    rw[ho] at aq;rcases aq with⟨_,_,h2⟩|⟨_,i',cap,c,t,h2,_,h3,_⟩
    .rw[h2] at hi;cases hi
    .rw[h2] at hi;obtain rfl:=osj hi;rw[h3] at hb;cases hb
   |cells l u=>rw[ho] at aq;obtain⟨i',c,e,t,h2,h3,_⟩:=aq;rw[h2] at hi;obtain rfl:=osj hi;rw[h3] at hb;cases hb
   |mapE kk vk m key n=>rw[ho] at aq;obtain⟨i',es,cl,r,e,h2,h3,_⟩:=aq;rw[h2] at hi;obtain rfl:=osj hi;rw[h3] at hb;cases hb
   |map kk vk m=>rw[ho] at aq;obtain⟨i',es,cl,h2,h3,_⟩:=aq;rw[h2] at hi;obtain rfl:=osj hi;rw[h3] at hb;cases hb
   |stk l vals=>rw[ho] at ao;cases ao
   |lpf l q s=>rw[ho] at aq ao;obtain⟨h2,_,h3⟩:=aq;rw[h2] at hi;obtain rfl:=osj hi;have h3:=h3 ao;rw[hb] at h3;cases h3
   |iter kk vk m dn=>rw[ho] at aq;obtain⟨j',i',es,cl,wr,seen,h2,h3,_⟩:=aq;rw[h2] at hi;obtain rfl:=osj hi;rw[h3] at hb;cases hb
   |deep ty q k xs nl hh =>rw[ho] at aq;obtain⟨is,_,d2,d3,_⟩:=DP.open aq;obtain⟨c,e,t,h⟩:=d2.cells i ((d3 i).1 hi);rw[h] at hb;cases hb
  |some b=>rw[hl.2 i b hb]
theorem Gam.heap {s:St}{env:Env}{U':Heap}(h:Gam P B F pl tb s env U) (hl:U.Le U'):Gam P B F pl tb s env U' :=
 ⟨h.bf,h.le.trans hl,h.env,λd=>(h.obj d).mono (Heap.Le.refl _) (λ_ _ h=>h) λao _i hi=>h.q1x hl ao hi,h.fresh,h.sep,h.free⟩
theorem Pk {env:Env}{σ0:Heap}{d nt:Nat}(eA:0<nt) (gF:Nat->Value) (bs:List OB) (hB:F.Le σ0)
  (aq:∀ j b,bs[j]?=some b->b.ret=true/\OR P hNil gF J3 U (gF j) b/\∀ i,Oid (gF j) i->σ0.n<=i)
  (fK:∀ j j' i,j<bs.length->j'<bs.length->j≠j'->Oid (gF j) i->Oid (gF j') i->False) :
  ∀ (r:List OB) (j:Nat) (pl:Nat->Value) (s:St),bs.drop j=r->Gam P B F pl tb s env U->(∀ k i,(Qf s.own k).live=true->Oid (pl k) i->i<σ0.n\/∃ j'<j,j'<bs.length/\Oid (gF j') i/\k=d+j'*nt)->(∀ j'<j,j'<bs.length->pl (d+j'*nt)=gF j') ->
   ∃ pl',Gam P B F pl' tb (s.makes d nt j r) env U/\(∀ j'<bs.length,pl' (d+j'*nt)=gF j')/\∀ q,(∀ j'<bs.length,q≠d+j'*nt)->pl' q=pl q/\(Qf (s.makes d nt j r).own q).live=(Qf s.own q).live
 |[],j,pl,s,hr,hG,_,hp=>⟨pl,hG,λj' dy=>hp j' (by
   have:=congrArg List.length hr;simp at this;omega) dy,λq _=>⟨rfl,rfl⟩⟩
 |b::r,j,pl,s,hr,hG,hinv,hp=>by
  have cm:j<bs.length:=by
   rcases zn j bs.length with h|h
   .exact h
   .rw[List.drop_eq_nil_of_le h] at hr;cases hr
  have ck:bs[j]?=some b:=by
   have:(bs.drop j)[0]?=some b:=by rw[hr];rfl
   simpa using this
  have lC:bs.drop (j+1)=r:=by
   have:(bs.drop j).drop 1=r:=by rw[hr];rfl
   simpa [List.drop_drop,xW] using this
  obtain⟨h1,h2,h3⟩:=aq j b ck;have a7:∀ j' ,j'≠j->d+j'*nt≠d+j*nt:=λj' az e=>az (Nat.eq_of_mul_eq_mul_right eA (by omega));obtain⟨pl',k1,k2,k3⟩:∃ pl',Gam P B F pl' tb ((s.make (d+j*nt) b).makes d nt (j+1) r) env U/\(∀ j'<bs.length,pl' (d+j'*nt)=gF j')/\∀ q,(∀ j'<bs.length,q≠d+j'*nt)->pl' q=JN pl (d+j*nt) (gF j) q/\(Qf ((s.make (d+j*nt) b).makes d nt (j+1) r).own q).live=(Qf (s.make (d+j*nt) b).own q).live:=by
   refine Pk eA gF bs hB aq fK r (j+1) (JN pl (d+j*nt) (gF j)) _ lC (hG.make (d+j*nt) b (gF j) hG.le (λ_ _ _ _ _=>rfl) (h2.retd h1 λ_ _=>rfl) λi _ hi=>⟨F.wf _ (by have:=h3 i hi;have:=hB.1;omega),λk hk hl e=>?_⟩) (λk i hl hi=>?_) λj' dy qL=>?_
   .rcases hinv k i hl e with h|⟨j',dy,dN,he,_⟩
    .have:=h3 i hi;omega
    .exact fK j j' i cm dN (by omega) hi he
   .by_cases hk:k=d+j*nt
    .subst hk;simp only[JN,zI] at hi;exact .inr ⟨j,by omega,cm,hi,rfl⟩
    .have cC:(Qf s.own k).live=true:=by
      simp only[St.make,St.kill,Qz,Vl,z1 hk] at hl
      rwa [OB.q0s] at hl
     simp only[JN,z1 hk] at hi;rcases hinv k i cC hi with h|⟨j',dy,h5⟩
     .exact .inl h
     .exact .inr ⟨j',by omega,h5⟩
   .by_cases e:j'=j
    .subst e;simp[JN]
    .simp only[JN,z1 (a7 j' e)];exact hp j' (by omega) qL
  refine⟨pl',k1,k2,λq hq=>?_⟩;obtain⟨e1,e2⟩:=k3 q hq;refine⟨by rw[e1];simp[JN,hq j cm],?_⟩;show (Qf ((s.make (d+j*nt) b).makes d nt (j+1) r).own q).live=_;rw[e2];simp only[St.make,St.kill,Qz,Vl,z1 (hq j cm),OB.q0s]
theorem Ret.gamF {s:St}{env:Env}{d nt:Nat}(eA:0<nt) (hG:Gam P B F pl tb s env U) {v:SV}{bs:List OB}{u:Value}{U':Heap}(hv:v.ret bs.length=true) (hb:bs.all OB.ret=true) (h:Ret P U v bs u U') :
  ∃ pl',Gam P B F pl' tb (s.makes d nt 0 bs) env U'/\SR P B pl' tb (v.ren d nt) u/\∀ q,(∀ j'<bs.length,q≠d+j'*nt)->(Qf (s.makes d nt 0 bs).own q).live=(Qf s.own q).live/\pl' q=pl q/\((Qf s.own q).live=true->∀ i,Oid (pl q) i->U'.get i=U.get i):=by
 obtain⟨⟨h1,_⟩,_,gF,h2,h3,h4⟩:=h
 obtain⟨pl',h5,h6,h7⟩:=Pk (tb:=tb) (d:=d) eA gF bs hG.le (λj b hj=>⟨zf.1 hb b (zK hj),(h2 j b hj).1,λi hi=>((h2 j b hj).2 i hi).2⟩) h3 bs 0 pl s rfl (hG.heap h1)
  (λk i hl hi=>.inl ((hG.obj k).q1d hl hi)) (λj' dy=>by omega)
 exact⟨pl',h5,SR.ren (tb:=J3) (λj hj=>h6 j hj) _ _ hv (SR.mono (tb:=J3) (tb':=J3) (Ao B) (λ_ _ h=>h) _ _ h4),λq hq=>⟨(h7 q hq).2,(h7 q hq).1,λhl i hi=>hG.q1x h1 hl hi⟩⟩
theorem Ret.gam {s:St}{env:Env}{d nt:Nat}(eA:0<nt) (hG:Gam P B F pl tb s env U) {v:SV}{bs:List OB}{u:Value}{U':Heap}(hv:v.ret bs.length=true) (hb:bs.all OB.ret=true) (h:Ret P U v bs u U') :
  ∃ pl',Gam P B F pl' tb (s.makes d nt 0 bs) env U'/\SR P B pl' tb (v.ren d nt) u:=by
 obtain⟨pl',h1,h2,_⟩:=h.gamF eA hG hv hb;exact⟨pl',h1,h2⟩
end
end Go.V
namespace Go.V
open Go
section
variable {P:Program}
structure GBase (B0 F0 D0 B F U:Heap):Prop where
 b:B0.Le B
 f:F0.Le F
 x:∀ i b,F0.get i=some b->B0.get i=none->B.get i=none
 d:Dead D0 U
theorem GBase.of {B F U:Heap}{U':Heap}(_hB:B.Le F) (h:Dead U U'):GBase B F U B F U':=⟨.refl _,.refl _,λ_ _ _ h=>h,h⟩
theorem GBase.trans {B0 F0 D0 B F U B' F' U':Heap}(h:GBase B0 F0 D0 B F U) (h':GBase B F U B' F' U'):GBase B0 F0 D0 B' F' U' :=
 ⟨h.b.trans h'.b,h.f.trans h'.f,λi b h1 h2=>h'.x i b (h.f.2 _ _ h1) (h.x i b h1 h2),h.d.trans h'.d⟩
def GRel (P:Program) (B0 F0 D0:Heap) (s:St) (env:Env) (U:Heap):Prop:=∃ B F pl tb,GBase B0 F0 D0 B F U/\Gam P B F pl tb s env U
theorem Mz {B0 F0 D0 B F:Heap}{U U':Heap}(hB:GBase B0 F0 D0 B F U) (h:Dead U U'):GBase B0 F0 D0 B F U':=⟨hB.b,hB.f,hB.x,hB.d.trans h⟩
theorem Gam.evs {B F:Heap}{pl:Nat->Value}{tb:Nat->Option Bool}{s:St}{env:Env}{U:Heap}(h:Gam P B F pl tb s env U) {gs:List Gd}(hg:Gds tb gs) (x:Operand):SR P B pl tb (gev gs s.env x) (Q6 env x):=Ih hg h.env x
theorem Gds.nil {tb:Nat->Option Bool}:Gds tb []:=λ_ h=>by cases h
theorem Fa {gs:List Gd}{c:Prop}(h:Q7s gs c) (hg:∀ g∈gs,g.c=g.want):c:=by
 induction gs with
 |nil=>exact h
 |cons g gs ih=>exact ih (h (hg g (by simp))) λg' dL=>hg g' (by simp[dL])
theorem ZD {gs:List Gd}{cs:List Prop}{q:Prop}(h:Cc gs cs q):q/\((∀ g∈gs,g.c=g.want)->∀ c∈cs,c):=by
 induction cs with
 |nil=>exact⟨h,λ_ c hc=>by cases hc⟩
 |cons c cs ih =>
  obtain⟨h1,h2⟩:=h;obtain⟨h3,h4⟩:=ih h2;exact⟨h3,λhg c' cO=>by
   rcases zk.1 cO with rfl|cO
   .exact Fa h1 hg
   .exact h4 hg c' cO⟩
theorem Dead.push (U:Heap) (b:Blk):Dead U (U.push b):=⟨by simp,λi hi h=>by rw[Heap.q0i _ _ hi];exact h⟩
theorem Dead.upd (U:Heap) (j:Nat) (b:Blk) (hj:(U.get j).isSome=true):Dead U (U.upd j b):=⟨by simp,λi hi h=>by
 have:i≠j:=λe=>by subst e;rw[h] at hj;cases hj
 rw[Heap.q0b _ _ this];exact h⟩
theorem Dead.kill (U:Heap) (j:Nat):Dead U (U.kill j):=⟨by simp,λi hi h=>by
 by_cases e:i=j
 .subst e;exact Heap.q0f _ _
 .rw[Heap.q0d _ e];exact h⟩
theorem Ld {e:El}{bytes m:Nat}{U U':Heap}{s u:Value}{xs:List Value}(h:Yz e bytes U s m xs=some (u,U')):Dead U U':=by
 unfold Yz at h;split at h
 .split at h
  .obtain⟨rfl,rfl⟩:=Z8 h;exact Dead.refl _
  .split at h
   .obtain⟨rfl,rfl⟩:=Z8 h;exact Dead.push _ _
   .cases h
 .split at h
  .rename_i hg;split at h
   .split at h
    .obtain⟨rfl,rfl⟩:=Z8 h;exact Dead.refl _
    .split at h
     .split at h
      .obtain⟨rfl,rfl⟩:=Z8 h;exact Dead.upd _ _ _ (by rw[hg];rfl)
      .cases h
     .split at h
      .split at h
       .obtain⟨rfl,rfl⟩:=Z8 h;exact Dead.push _ _
       .split at h
        .obtain⟨rfl,rfl⟩:=Z8 h;exact(Dead.kill _ _).trans (Dead.push _ _)
        .cases h
      .cases h
   .cases h
  .cases h
 .split at h
  .split at h
   .obtain⟨rfl,rfl⟩:=Z8 h;exact Dead.push _ _
   .cases h
  .cases h
 .cases h
theorem Kc {o:VOp}{ev:Operand->Value}{U U':Heap}{u:Value}(h:Qb o ev U=some (u,U')):Dead U U':=by
 by_cases hk:o.kind=2
 .cases o<;>first|(cases hk;done)|skip
  case alloc t z=>obtain⟨rfl,rfl⟩:=Z8 h;exact Dead.push _ _
  case box t x =>
   simp only[Qb] at h;split at h
   .obtain⟨rfl,rfl⟩:=Z8 h;exact Dead.push _ _
   .cases h
  case buildSlice e z n ps =>
   simp only[Qb] at h;split at h
   .obtain⟨rfl,rfl⟩:=Z8 h;exact Dead.push _ _
   .cases h
  case makeSlice e b z l c =>
   simp only[Qb] at h;split at h
   .split at h
    .obtain⟨rfl,rfl⟩:=Z8 h;exact Dead.push _ _
    .cases h
   .cases h
  case store size a x =>
   simp only[Qb] at h;split at h
   .split at h
    .rename_i hg;split at h
     .obtain⟨rfl,rfl⟩:=Z8 h;exact Dead.upd _ _ _ (by rw[hg];rfl)
     .cases h
    .cases h
   .cases h
  case append e b x y =>
   simp only[Qb] at h;split at h
   .split at h
    .exact Ld h
    .cases h
   .cases h
  case slice size x lo hi mx =>
   simp only[Qb] at h;split at h
   .have sl:∀ {l hh:Nat}{m:Option Nat}{v:Value},WM size U v l hh m=some (u,U')->Dead U U':=λ{l hh m v} h=>by
     unfold WM at h;split at h
     .split at h
      .obtain⟨rfl,rfl⟩:=Z8 h;exact Dead.refl _
      .cases h
     .split at h
      .split at h
       .split at h
        .obtain⟨rfl,rfl⟩:=Z8 h;exact Dead.refl _
        .cases h
       .split at h
        .split at h
         .obtain⟨rfl,rfl⟩:=Z8 h;exact Dead.push _ _
         .split at h<;>(obtain⟨rfl,rfl⟩:=Z8 h;exact Dead.refl _)
        .cases h
      .cases h
     .cases h
    split at h
    .exact sl h
    .split at h
     .exact sl h
     .cases h
    .cases h
   .cases h
  case callF f a=>cases h
  case callV f a=>cases h
  case ext x =>
   cases x<;>first|(cases hk;done)|skip
   case makeMap=>obtain⟨rfl,rfl⟩:=Z8 h;exact Dead.push _ _
   case mapUpdate mk m k v =>
    simp only[Qb,ZA] at h;split at h
    .split at h
     .rename_i hm;split at h
      .obtain⟨rfl,rfl⟩:=Z8 h;refine Dead.upd _ _ _ ?_;unfold Heap.mapAt at hm;split at hm
       .rename_i hg;rw[hg];rfl
       .cases hm
      .cases h
     .cases h
    .cases h
   case mapEntry mk z m k =>
    simp only[Qb,ZA] at h;split at h
    .split at h
     .rename_i hm;split at h
      .split at h
       all_goals
        obtain⟨rfl,rfl⟩:=Z8 h;refine Dead.upd _ _ _ ?_;unfold Heap.mapAt at hm;split at hm
        .rename_i hg;rw[hg];rfl
        .cases hm
      .cases h
     .cases h
    .cases h
   case entryStore m s v =>
    simp only[Qb,ZA] at h;split at h
    .split at h
     .rename_i hm;split at h
      .split at h
       .obtain⟨rfl,rfl⟩:=Z8 h;refine Dead.upd _ _ _ ?_;unfold Heap.mapAt at hm;split at hm
        .rename_i hg;rw[hg];rfl
        .cases hm
       .cases h
      .cases h
     .cases h
    .cases h
   case delete mk m k =>
    simp only[Qb,ZA] at h;split at h
    .split at h
     .rename_i hm;split at h
      .obtain⟨rfl,rfl⟩:=Z8 h;refine Dead.upd _ _ _ ?_;unfold Heap.mapAt at hm;split at hm
       .rename_i hg;rw[hg];rfl
       .cases hm
      .cases h
     .cases h
    .cases h
   case rangeMap x =>
    simp only[Qb,ZA] at h;split at h
    .split at h
     .obtain⟨rfl,rfl⟩:=Z8 h;exact Dead.push _ _
     .cases h
    .cases h
   case nextMap x=>cases h
   case copy size a b =>
    simp only[Qb,ZA] at h;split at h
    .split at h
     .obtain⟨rfl,rfl⟩:=Z8 h;exact Dead.refl _
     .split at h
      .split at h
       .rename_i hg;split at h
        .obtain⟨rfl,rfl⟩:=Z8 h;exact Dead.upd _ _ _ (by rw[hg];rfl)
        .cases h
       .cases h
      .cases h
    .cases h
   case clear z x =>
    simp only[Qb,ZA] at h;split at h
    .split at h
     .obtain⟨rfl,rfl⟩:=Z8 h;exact Dead.refl _
     .split at h
      .split at h
       .rename_i hg;split at h
        .obtain⟨rfl,rfl⟩:=Z8 h;exact Dead.upd _ _ _ (by rw[hg];rfl)
        .cases h
       .cases h
      .cases h
    .cases h
   case strBytes e x =>
    simp only[Qb,ZA] at h;split at h
    .split at h
     .obtain⟨rfl,rfl⟩:=Z8 h;exact Dead.push _ _
     .cases h
    .cases h
   case unsafeStr e x n =>
    simp only[Qb,ZA] at h;split at h
    .split at h
     .obtain⟨rfl,rfl⟩:=Z8 h;exact Dead.refl _
     .split at h
      .split at h
       .rename_i hg;split at h
        .split at h
         .obtain⟨rfl,rfl⟩:=Z8 h;exact Dead.upd _ _ _ (by rw[hg];rfl)
         .cases h
        .cases h
       .cases h
      .cases h
    .cases h
 .obtain rfl:=GU hk h;exact Dead.refl _
theorem NV {B F:Heap}{pl:Nat->Value}{tb:Nat->Option Bool}{s:St}{env:Env}{U:Heap}(hG:Gam P B F pl tb s env U) {x:Operand}{b:Bool}(h:La s.env x=some b):Q6 env x=.bool b:=by
 unfold La at h;split at h
 .rename_i j;split at h
  .rename_i gs v he;split at h
   .split at h
    .rename_i k y;split at h
     .obtain rfl:=osj h;have:=hG.env.getD j undef;rw[he] at this;simp only[SR] at this;have h2:=this.2.1 (λg hg=>by cases hg);have h3:[env.getD j undef]=[Value.bool _]:=h2;exact(zX h3).1
     .cases h
    .cases h
   .cases h
  .cases h
 .cases h
theorem Kx {B F:Heap}{pl:Nat->Value}{tb:Nat->Option Bool}{s:St}{env:Env}{U:Heap}(hG:Gam P B F pl tb s env U) {g:Option (Nat×Bool)}{t:Bool}(h:FH s.env g=some t):Jm env g=some t:=by
 unfold FH at h;split at h
 .cases h
 .rename_i j want;split at h
  .rename_i b hb;obtain rfl:=osj h;have:=NV hG hb;simp only[Q6] at this;simp only[Jm,this]
  .cases h
theorem VW {B F:Heap}{pl:Nat->Value}{tb:Nat->Option Bool}{s:St}{env:Env}{U:Heap}(hG:Gam P B F pl tb s env U) {gs:List Gd}(hg:Gds tb gs) {c a b:Operand}{v:SV}(h:Ez gs s.env c a b=some v) :
  ∃ u,Qb (.pick c a b) (Q6 env) U=some (u,U)/\SR P B pl tb v u:=by
 unfold Ez at h;split at h
 .rename_i t ht;have e:=NV hG ht;obtain rfl:=osj h;cases t with
  |true=>exact⟨Q6 env a,by simp only[Qb,e];rfl,hG.evs hg a⟩
  |false=>exact⟨Q6 env b,by simp only[Qb,e];rfl,hG.evs hg b⟩
 have hc:=hG.evs hg c;unfold Q38 at h;split at h
 .rename_i n t heq;rw[heq] at hc;simp only[SR] at hc;obtain⟨e,cU⟩:=hc;have ht:∀ w,t=w->Gds tb (gs++[⟨n,w,t⟩]):=λw hw g dL=>by
   rcases zF.1 dL with h1|h1
   .exact hg g h1
   .obtain rfl:=zh.1 h1;exact⟨hw,cU⟩
  have hv:∀ u,(if t then Q6 env a else Q6 env b)=u->Qb (.pick c a b) (Q6 env) U=some (u,U):=λu hu=>by simp only[Qb,e];rw[<-hu]
  split at h
  .rename_i b';simp only[zw] at h;obtain⟨y,h1,rfl⟩:=h;refine⟨.bool (t||y),hv _ ?_,J9 _⟩;cases t with
   |true=>rfl
   |false=>simpa using XT h1 (hG.evs (ht false rfl) _)
  .rename_i a' az;simp only[zw] at h;obtain⟨x,h1,rfl⟩:=h;refine⟨.bool (t&&x),hv _ ?_,J9 _⟩;cases t with
   |true=>simpa using XT h1 (hG.evs (ht true rfl) _)
   |false=>rfl
  .split at h
   .rename_i k x k' y h1 h2;split at h
    .rename_i hk;subst hk;obtain rfl:=osj h;refine⟨.int k (if t then x else y),hv _ ?_,XH _ _⟩;cases t with
     |true=>have:=hG.evs (ht true rfl) a;rw[h1] at this;exact Jq rfl this
     |false=>have:=hG.evs (ht false rfl) b;rw[h2] at this;exact Jq rfl this
    .cases h
   .rename_i x y h1 h2;obtain rfl:=osj h;refine⟨.bool (if t then x else y),hv _ ?_,J9 _⟩;cases t with
    |true=>have:=hG.evs (ht true rfl) a;rw[h1] at this;exact XT rfl this
    |false=>have:=hG.evs (ht false rfl) b;rw[h2] at this;exact XT rfl this
   .cases h
 .cases h
theorem Gam.bid {B F:Heap}{pl:Nat->Value}{tb:Nat->Option Bool}{s:St}{env:Env}{U:Heap}(hG:Gam P B F pl tb s env U) {j:Nat}{v:SV}{c:Bool}(hv:∀ tb',(∀ n c,tb n=some c->tb' n=some c)->tb' s.nx=some c->SR P B pl tb' v (env.getD j undef)) :
  ∃ tb',(∀ n c,tb n=some c->tb' n=some c)/\tb' s.nx=some c/\Gam P B F pl tb' ⟨s.env.set j v,s.own,s.nx+1⟩ env U:=by
 refine⟨λn=>if n=s.nx then some c else tb n,?_,by simp,?_⟩
 .intro n c' hn;by_cases e:n=s.nx
  .rw[e,hG.free _ (ze _)] at hn;cases hn
  .simp only[z1 e];exact hn
 .have hm:∀ n c',tb n=some c'->(λn=>if n=s.nx then some c else tb n) n=some c':=λn c' hn=>by
   by_cases e:n=s.nx
   .rw[e,hG.free _ (ze _)] at hn;cases hn
   .simp only[z1 e];exact hn
  refine⟨hG.bf,hG.le,?_,λd=>(hG.obj d).mono (Heap.Le.refl _) hm λ_ _ _=>rfl,hG.fresh,hG.sep,λn hn=>?_⟩
  .have h1:=SRs.mono (Heap.Le.refl B) hm _ _ hG.env;by_cases hj:j<env.length
   .have:=h1.set j (hv _ hm (by simp))
    rwa [zd,z6 hj,Option.getD_some,List.set_getElem_self] at this
   .have:s.env.set j v=s.env:=List.set_eq_of_length_le (by rw[hG.env.length];omega);rw[this];exact h1
  .have:n≠s.nx:=by simp only at hn;omega
   simp only[z1 this];exact hG.free n (by simp only at hn;omega)
theorem O8 {gs:List Gd}(h:¬ ∀ g∈gs,g.c=g.want):∃ g∈gs,g.c≠g.want:=by
 rcases Classical.em (∃ g∈gs,g.c≠g.want) with h'|h'
 .exact h'
 .exact absurd (λg hg=>Classical.byContradiction λaz=>h' ⟨g,hg,az⟩) h
theorem W4 {B F:Heap}{pl:Nat->Value}{tb:Nat->Option Bool}{s:St}{env:Env}{U:Heap}(hG:Gam P B F pl tb s env U) {j:Nat}{want:Bool}{gs:List Gd}{s':St}(h:Bv s j want=some (gs,s')) :
  ∃ tb',Gam P B F pl tb' s' env U/\(∀ g∈gs,tb' g.id=some g.c)/\∃ b,Jm env (some (j,want))=some b/\(b=true->∀ g∈gs,g.c=g.want)/\(b=false->∃ g∈gs,g.c≠g.want):=by
 have hj:=hG.env.getD j undef;unfold Bv at h;split at h
 .rename_i c heq;obtain⟨rfl,rfl⟩:=Z8 h;rw[heq] at hj;have hb:env.getD j undef=.bool c:=XT (s:=.val .bo c) rfl hj;obtain⟨tb',h1,h2,h3⟩:=hG.bid (j:=j) (v:=.bid s.nx c) (c:=c) λtb' _ h=>by simp only[SR];exact⟨hb,h⟩
  refine⟨tb',h3,λg hg=>by obtain rfl:=zh.1 hg;exact h2,c==want,by simp only[Jm,hb],λe g hg=>?_,λe=>⟨_,zh.2 rfl,?_⟩⟩
  .obtain rfl:=zh.1 hg;simpa using e
  .simpa using e
 .rename_i n c heq;obtain⟨rfl,rfl⟩:=Z8 h;rw[heq] at hj;simp only[SR] at hj;refine⟨tb,hG,λg hg=>by obtain rfl:=zh.1 hg;exact hj.2,c==want,by simp only[Jm,hj.1],λe g hg=>?_,λe=>⟨_,zh.2 rfl,?_⟩⟩
  .obtain rfl:=zh.1 hg;simpa using e
  .simpa using e
 .rename_i pE c heq;obtain⟨rfl,rfl⟩:=Z8 h;rw[heq] at hj;simp only[SR] at hj;obtain⟨⟨k1,k0⟩,k2,k3⟩:=hj;obtain⟨tb',h1,h2,h3⟩:=hG.bid (j:=j) (v:=.grd pE (.bid s.nx c)) (c:=c) λtb' hm h=>by
   simp only[SR];exact⟨⟨λg hg=>hm _ _ (k1 g hg),h⟩,λae=>⟨XT (s:=.val .bo c) (P:=P) (B:=B) (pl:=pl) (tb:=tb) rfl (by simpa only [SR] using k2 ae),h⟩,k3⟩
  refine⟨tb',h3,λg hg=>?_,?_⟩
  .rcases zF.1 hg with h4|h4
   .exact h1 _ _ (k1 g h4)
   .obtain rfl:=zh.1 h4;exact h2
  .by_cases ae:∀ g∈pE,g.c=g.want
   .have hb:env.getD j undef=.bool c:=XT (s:=.val .bo c) (P:=P) (B:=B) (pl:=pl) (tb:=tb) rfl (by simpa only [SR] using k2 ae);refine⟨c==want,by simp only[Jm,hb],λe g hg=>?_,λe=>⟨_,zF.2 (.inr (zh.2 rfl)),by simpa using e⟩⟩;rcases zF.1 hg with h4|h4
    .exact ae g h4
    .obtain rfl:=zh.1 h4;simpa using e
   .have hex:=O8 ae;refine⟨false,by simp only[Jm,k3 hex];rfl,(λe=>by cases e),λ_=>?_⟩;obtain⟨g,hg,az⟩:=hex;exact⟨g,zF.2 (.inl hg),az⟩
 .rename_i pE n c heq;obtain⟨rfl,rfl⟩:=Z8 h;rw[heq] at hj;simp only[SR] at hj;obtain⟨⟨k1,k0⟩,k2,k3⟩:=hj;refine⟨tb,hG,λg hg=>?_,?_⟩
  .rcases zF.1 hg with h4|h4
   .exact k1 g h4
   .obtain rfl:=zh.1 h4;exact k0
  .by_cases ae:∀ g∈pE,g.c=g.want
   .obtain⟨hb,cU⟩:=k2 ae;refine⟨c==want,by simp only[Jm,hb],λe g hg=>?_,λe=>⟨_,zF.2 (.inr (zh.2 rfl)),by simpa using e⟩⟩;rcases zF.1 hg with h4|h4
    .exact ae g h4
    .obtain rfl:=zh.1 h4;simpa using e
   .have hex:=O8 ae;refine⟨false,by simp only[Jm,k3 hex];rfl,(λe=>by cases e),λ_=>?_⟩;obtain⟨g,hg,az⟩:=hex;exact⟨g,zF.2 (.inl hg),az⟩
 .cases h
theorem Gam.gcall {B F:Heap}{pl:Nat->Value}{tb:Nat->Option Bool}{s:St}{env:Env}{U:Heap}(hG:Gam P B F pl tb s env U) {gs:List Gd}(hg:Gds tb gs) (args:List Operand):SRs P U X1 J3 (BM s.own (args.map (gev gs s.env))) (args.map (Q6 env)) :=
 Y4 hG.leB hG.obj (SRs.map λx _=>hG.evs hg x)
theorem Gam.gfun {B F:Heap}{pl:Nat->Value}{tb:Nat->Option Bool}{s:St}{env:Env}{U:Heap}(hG:Gam P B F pl tb s env U) {gs:List Gd}(hg:Gds tb gs) (f:Operand):SR P U X1 J3 ((BM s.own [gev gs s.env f]).getD 0 .any) (Q6 env f):=by have:=(Y4 hG.leB hG.obj (show SRs P B pl tb [gev gs s.env f] [Q6 env f] by simp only[SRs];exact⟨_,[],rfl,hG.evs hg f,rfl⟩)).getD 0 poison;simpa using this
theorem NL {env:Env}{f:Operand}{args:List Operand}{U:Heap}{K:Value->Heap->Prop}{g:FuncId}{a b:Array Value}(e:Q6 env f=.func (.func g) a b) (h:VCalled P g (a.toList++args.map (Q6 env)++b.toList) U K) :
  vop (Q5 P) (.callV f args) env U K:=by
 simp only[vop,e];exact h
def XOk (P:Program) (f:Nat) (x:XSp):Prop :=
 ∀ (B F:Heap) (pl:Nat->Value) (tb:Nat->Option Bool) (s:St) (env:Env) (U:Heap) (d:Nat) (args:List SV) (vs:List Value) (K:SV->St->Prop) (R:Value->Heap->Prop),
  Gam P B F pl tb s env U->SRs P B pl tb args vs->x d args s K ->
  (∀ v s' B' F' pl' tb' u U',K v s'->GBase B F U B' F' U'->Gam P B' F' pl' tb' s' env U'->SR P B' pl' tb' v u->R u U')->VCalled P f vs U R
def Z4x (P:Program) (f:Nat) (x:XSp) (j:Nat):Prop :=
 ∀ (B F:Heap) (pl:Nat->Value) (tb:Nat->Option Bool) (s:St) (env:Env) (U:Heap) (d:Nat) (args:List SV) (vs:List Value) (K:SV->St->Prop) (R:Value->Heap->Prop) (t:Nat),
  Gam P B F pl tb s env U->SRs P B pl tb args vs->Q32 s.own j args=some t->x d args s K ->
  (∀ v s' u U',K v s'->Dead U U'->Gam P B F pl tb s' env U'->SR P B pl tb v u->FrL [t] s s' pl pl U U'->R u U')->VCalled P f vs U R
def Z5e (P:Program) (f:Nat) (it:ISp):Prop:=ZI P f /\
 ∀ (B:Heap) (args:List SV) (vs:List Value) (c:Prop) (m ar:Nat) (xs:Nat->List SV),SRs P B X1 J3 args vs->it args=some (c,m,ar,xs)->c ->
  (∀ k,(xs k).length=ar/\SVs.pure (xs k)=true)/\∀ (i:Nat) (Y:Tq) (J:Nat->Heap->Prop) (E:Heap->Prop) (τ0:Heap),Va P i Y->(∀ k Z,J k Z->B.Le Z) ->
   (∀ k us Z,k<m->J k Z->SRs P B X1 J3 (xs k) us->Y us Z λv Z'=>(v=.bool true/\J (k+1) Z')\/(v=.bool false/\E Z')) ->
   J 0 τ0->VCallsTo P f (.func (.yield i) #[] #[]::vs) τ0 λ_ Z=>J m Z\/E Z
def Q1q (P:Program) (o:Nat) (y:YSp):Prop :=
 ∀ (B F:Heap) (pl:Nat->Value) (tb:Nat->Option Bool) (s:St) (env:Env) (U:Heap) (args:List SV) (us:List Value) (K:SV->St->Prop) (R:Value->Heap->Prop) (i:Nat),
  Gam P B F pl tb s env U->SRs P B pl tb args us->y args s K->pl o=.pointer (some ⟨i,0,none⟩) ->
  (∀ v s' B' F' pl' tb' u U',K v s'->GBase B F U B' F' U'->Gam P B' F' pl' tb' s' env U'->SR P B' pl' tb' v u->R u U')->HT P i us U R
def Q7r (P:Program) (f:Nat) (x:Q7p):Prop:=ZI P f /\
 ∀ (B F:Heap) (pl:Nat->Value) (tb:Nat->Option Bool) (s:St) (env:Env) (U:Heap) (o:Nat) (args:List SV) (vs:List Value) (y:YSp) (K:St->Prop) (R:Heap->Prop),
  Gam P B F pl tb s env U->SRs P B pl tb args vs->Q1q P o y->x o args (o,y) s K ->
  (∀ s' B' F' pl' tb' af U',K s'->GBase B F U B' F' U'->Gam P B' F' pl' tb' s' af U'->R U')->VCallsTo P f vs U λ_=>R
structure COk (P:Program) (C:Cx):Prop where
 cs:CsOk P C.cs
 xs:∀ f x,QO C.xs f=some x->XOk P f x
 it:∀ f x,QO C.it f=some x->Z5e P f x
 yl:∀ o y,QO C.yl o=some y->Q1q P o y
 iy:∀ f x,QO C.iy f=some x->Q7r P f x
 xf:∀ f j,QO C.xf f=some j->∀ x,QO C.xs f=some x->Z4x P f x j
theorem HH {C:Cx}(aC:CsOk P C.cs) {B F:Heap}{pl:Nat->Value}{tb:Nat->Option Bool}{s:St}{env:Env}{U:Heap}(hG:Gam P B F pl tb s env U) {gs:List Gd}(hg:Gds tb gs) {raw:Bool}{o:VOp}{cs:List Prop}{v:SV}
  (h:gqc C raw o (gev gs s.env) s.own=some (cs,v)) (hc:∀ c∈cs,c) {K:Value->Heap->Prop}(hK:∀ u,SR P B pl tb v u->K u U):vop (Q5 P) o env U K:=by
 have flat:∀ {c:Prop}{v':SV},(bif v'.ret 0 then some ([c],v') else none)=some (cs,v)->v'.ret 0=true/\c/\v'=v:=λ{c v'} h=>by
  cases hv:v'.ret 0 with
  |false=>rw[hv] at h;cases h
  |true =>rw[hv] at h;obtain⟨rfl,rfl⟩:=Z8 h;exact⟨rfl,hc _ (by simp),rfl⟩
 have quiet:∀ o,gq C.kt raw o (gev gs s.env) s.own=some (cs,v)->(∀ K,Zf (Qb o (Q6 env) U) (λp=>K p.1 p.2)->vop (Q5 P) o env U K)->vop (Q5 P) o env U K:=λo h hv=>by obtain⟨u,h1,h2⟩:=Ss (hG.evs hg) (λ_=>rfl) hG.leB hG.obj h hc;exact hv K (by rw[h1];exact hK u h2)
 cases o
 case callF f args =>
  simp only[gqc] at h;split at h
  .rename_i c v' heq;obtain⟨h1,h2,rfl⟩:=flat h;obtain⟨g,a,b,h3,h4,_⟩:=J0 aC (show SR P U X1 J3 (.fn f [] []) (.func (.func f) #[] #[]) by simp only[SR,SRs];exact⟨[],[],rfl,rfl,rfl⟩) (hG.gcall hg args) heq h1 rfl h2;obtain⟨rfl,rfl,rfl⟩:=(by simpa using h3:f=g/\#[]=a/\#[]=b);have:=h4.mono (R':=K) λu U' hr=>by
    obtain⟨rfl,hu⟩:=hr.flat h1;exact hK u (hu.retd (λj hj=>by omega) _ _ h1)
   show VCalled P f (args.map (Q6 env)) U K;simpa using this
  .cases h
 case callV f args =>
  simp only[gqc] at h;split at h
  .rename_i c v' heq;obtain⟨h1,h2,rfl⟩:=flat h;obtain⟨g,a,b,h3,h4,_⟩:=J0 aC (hG.gfun hg f) (hG.gcall hg args) heq h1 rfl h2;exact NL h3 (h4.mono λu U' hr=>by
    obtain⟨rfl,hu⟩:=hr.flat h1;exact hK u (hu.retd (λj hj=>by omega) _ _ h1))
  .cases h
 case ext x =>
  cases x
  case nextMap x=>cases h
  all_goals exact quiet _ h λ_ h=>h
 all_goals exact quiet _ h λ_ h=>h
end
end Go.V
namespace Go.V
open Go
section
variable {P:Program}
mutual
theorem Ar:∀ (v:SV) {K:SV->Prop},nmV v K->K v
 |.val k x,K,h=>by simp only[nmV] at h;exact h x rfl
 |.agg l,K,h=>by simp only[nmV] at h;exact PV l h
 |.tup l,K,h=>by simp only[nmV] at h;exact PV l h
 |.any,_,h|.dd _ _,_,h|.bid _ _,_,h|.grd _ _,_,h|.nilS,_,h|.nilP,_,h|.nilM,_,h|.nilF,_,h|.lst _,_,h|.sub _ _ _ _,_,h|.elp _ _ _ _,_,h|.rop _ _ _ _,_,h|.box _ _,_,h|.cp _ _,_,h|.map _,_,h|.fn _ _ _,_,h|.pf _ _ _ _,_,h=>by simp only[nmV] at h;exact h
theorem PV:∀ (l:List SV) {K:List SV->Prop},Q7m l K->K l
 |[],K,h=>by simp only[Q7m] at h;exact h
 |v::r,K,h=>by simp only[Q7m] at h;exact PV r (Ar v h)
end
theorem Zw {C:Cx}{o:VOp}{ev:Operand->SV}{v:SV}{K:SV->Prop}(h:gnm C o ev v K):K v:=by
 unfold gnm at h;cases hb:(C.nm&&Z55 o ev) with
 |true=>rw[hb] at h;exact Ar v h
 |false=>rw[hb] at h;exact h
theorem Hj {B:Heap}{pl:Nat->Value}{tb:Nat->Option Bool}{v:SV}{u:Value}(h:SR P B pl tb v u):SR P B pl tb (Dr v) u/\gtb tb (Dr v):=by
 cases v with
 |bid n c=>simp only[SR] at h;obtain⟨rfl,_⟩:=h;exact⟨J9 _,trivial⟩
 |_=>exact⟨h,trivial⟩
theorem H8 {tb:Nat->Option Bool}(v:SV):gtb tb (Dr v):=by cases v<;>trivial
theorem Bx {C:Cx}(aC:COk P C) {B F:Heap}{pl:Nat->Value}{tb:Nat->Option Bool}{s:St}{env:Env}{U:Heap}(hG:Gam P B F pl tb s env U) {d:Nat}{f:SV}{args:List SV}{fV:Value}{vs:List Value}(hf:SR P B pl tb f fV) (ha:SRs P B pl tb args vs) {K:SV->St->Prop}(h:Ay C d f args s K) {R:Value->Heap->Prop}
  (hK:∀ v s' B' F' pl' tb' u U',K v s'->GBase B F U B' F' U'->Gam P B' F' pl' tb' s' env U'->SR P B' pl' tb' v u->R u U'):∃ g a b,fV=.func (.func g) a b/\VCalled P g (a.toList++vs++b.toList) U R:=by
 unfold Ay at h;have lR:SR P U X1 J3 ((BM s.own [f]).getD 0 .any) fV:=by have:=(Y4 hG.leB hG.obj (show SRs P B pl tb [f] [fV] by simp only[SRs];exact⟨_,[],rfl,hf,rfl⟩)).getD 0 poison;simpa using this
 have ku:=Y4 hG.leB hG.obj ha;split at h
 .rename_i c v bs heq;cases hb:(v.ret bs.length&&(bs.all OB.ret&&Nat.blt 0 C.nt)) with
  |false=>rw[hb] at h;exact h.elim
  |true =>rw[hb] at h;obtain⟨h1,h2⟩:=h;simp only[z8] at hb;obtain⟨g,a,b,e,aD,_⟩:=J0 aC.cs lR ku heq hb.1 hb.2.1 h1;refine⟨g,a,b,e,aD.mono λu U' hr=>?_⟩;obtain⟨pl',h3,h4⟩:=hr.gam (nt:=C.nt) (d:=d) (by simpa [zR] using hb.2.2) hG hb.1 hb.2.1;exact hK _ _ B F pl' tb u U' h2 (.of hG.bf hr.1.2) h3 h4
 .exact h.elim
theorem Bm {C:Cx}(aC:COk P C) {B F:Heap}{pl:Nat->Value}{tb:Nat->Option Bool}{s:St}{env:Env}{U:Heap}(hG:Gam P B F pl tb s env U) {d:Nat}{f:SV}{args:List SV}{fV:Value}{vs:List Value}(hf:SR P B pl tb f fV) (ha:SRs P B pl tb args vs) {K:SV->St->Prop}(h:TY C d f args s K) (uk:∀ o,f≠.dd o .yv) {R:Value->Heap->Prop}
  (hK:∀ v s' B' F' pl' tb' u U',K v s'->GBase B F U B' F' U'->Gam P B' F' pl' tb' s' env U'->SR P B' pl' tb' v u->R u U'):∃ g a b,fV=.func (.func g) a b/\VCalled P g (a.toList++vs++b.toList) U R:=by
 unfold TY at h;split at h
 .rename_i g a b;split at h
  .rename_i x hx;have vN:=hf;simp only[SR] at hf;obtain⟨a',b',rfl,h1,h2⟩:=hf;refine⟨g,a'.toArray,b'.toArray,rfl,?_⟩;have:=aC.xs g x hx B F pl tb s env U d _ _ K R hG (h1.append (ha.append h2)) h hK;simpa using this
  .exact Bx aC hG hf ha h hK
 .exact(uk _ rfl).elim
 .exact Bx aC hG hf ha h hK
theorem Fs {C:Cx}{B F:Heap}{pl:Nat->Value}{tb:Nat->Option Bool}{s:St}{env:Env}{U:Heap}(hG:Gam P B F pl tb s env U) {d:Nat}{o:VOp}{K:SV->St->Prop}(h:gnd C d o (gev [] s.env) s K) {R:Value->Heap->Prop}
  (hK:∀ v s' B' F' pl' tb' u U',K v s'->GBase B F U B' F' U'->Gam P B' F' pl' tb' s' env U'->SR P B' pl' tb' v u->R u U'):vop (Q5 P) o env U R:=by
 obtain⟨u,U',pl',v,s',h1,h2,h3,h4⟩:=Hp (λx=>hG.evs (Gds.nil (tb:=tb)) x) hG h;have fin:Zf (Qb o (Q6 env) U) (λp=>R p.1 p.2):=by rw[h1];exact hK v s' B F pl' tb u U' h2 (.of hG.bf (Kc h1)) h3.1 h4
 cases o
 case buildSlice e z n ps=>exact fin
 case makeSlice e b z l c=>exact fin
 case append e b x y=>exact fin
 case store size a x=>exact fin
 all_goals exact h.elim
section
variable {B F:Heap}{pl:Nat->Value}{tb:Nat->Option Bool}{s:St}{env:Env}{U:Heap}
def Heap.ins (B U:Heap) (i:Nat) (h:B.n<=U.n):Heap where
 get j:=if j=i then U.get i else B.get j
 n:=U.n
 wf j hj:=by
  by_cases e:j=i
  .simp only[z7 e];subst e;exact U.wf j hj
  .simp only[z1 e];exact B.wf j (x4 h hj)
theorem Heap.q0m (B U:Heap) (i:Nat) (h:B.n<=U.n):(B.ins U i h).get i=U.get i:=by simp[Heap.ins]
theorem Heap.q1b (B U:Heap) {i j:Nat}(h:B.n<=U.n) (e:j≠i):(B.ins U i h).get j=B.get j:=by simp[Heap.ins,e]
theorem Heap.Le.ins {B U:Heap}(h:B.Le U) (i:Nat):B.Le (B.ins U i h.1):=⟨h.1,λj b hb=>by
 by_cases e:j=i
 .subst e;rw[Heap.q0m];exact h.2 _ _ hb
 .rw[Heap.q1b _ _ _ e];exact hb⟩
theorem Heap.Le.q2a {B U:Heap}(h:B.Le U) (i:Nat):(B.ins U i h.1).Le U:=⟨ze _,λj b hb=>by
 by_cases e:j=i
 .subst e;rw[Heap.q0m] at hb;exact hb
 .rw[Heap.q1b _ _ _ e] at hb;exact h.2 _ _ hb⟩
theorem Heap.q2b {B F U:Heap}(h:B.Le F) (i:Nat) (hB:B.n<=U.n) (hF:F.n<=U.n):(B.ins U i hB).Le (F.ins U i hF):=⟨ze _,λj b hb=>by
 by_cases e:j=i
 .subst e;rw[Heap.q0m] at hb |-;exact hb
 .rw[Heap.q1b _ _ _ e] at hb |-;exact h.2 _ _ hb⟩
theorem Gam.freeze (hG:Gam P B F pl tb s env U) {o i:Nat}(hl:(Qf s.own o).live=true) (hi:Oid (pl o) i) :
  GBase B F U (B.ins U i hG.leB.1) (F.ins U i hG.le.1) U/\Gam P (B.ins U i hG.leB.1) (F.ins U i hG.le.1) pl tb ⟨s.env,oset s.own o .dead,s.nx⟩ env U:=by
 have mU:=hG.fresh o i hl hi;have lv:∀ d,(Qf (oset s.own o .dead) d).live=true->d≠o/\(Qf s.own d).live=true:=λd h=>by
  rw[Qz] at h;by_cases e:d=o
  .rw[z7 e] at h;cases h
  .rw[z1 e] at h;exact⟨e,h⟩
 refine⟨⟨hG.leB.ins i,hG.le.ins i,λj b h1 h2=>?_,.refl _⟩,⟨Heap.q2b hG.bf i _ _,hG.le.q2a i,SRs.mono (hG.leB.ins i) (λ_ _ h=>h) _ _ hG.env,λd=>?_,λd j h1 h2=>?_,λd d' j az h1 h2 h3 h4=>hG.sep d d' j az (lv d h1).2 (lv d' h2).2 h3 h4,hG.free⟩⟩
 .have e:j≠i:=by rintro rfl;rw[mU] at h1;cases h1
  rw[Heap.q1b _ _ _ e];exact h2
 .simp only[Qz];by_cases e:d=o
  .rw[z7 e];trivial
  .rw[z1 e];exact(hG.obj d).mono (hG.leB.ins i) (λ_ _ h=>h) λ_ _ _=>rfl
 .obtain⟨az,bU⟩:=lv d h1;have e:j≠i:=by rintro rfl;exact hG.sep d o j az bU hl h2 hi
  rw[Heap.q1b _ _ _ e];exact hG.fresh d j bU h2
theorem Gam.own {s':St}(hG:Gam P B F pl tb s env U) (h1:s'.env=s.env) (h2:∀ d,Qf s'.own d=Qf s.own d) (h3:s'.nx=s.nx):Gam P B F pl tb s' env U :=
 ⟨hG.bf,hG.le,by rw[h1];exact hG.env,λd=>by rw[h2];exact hG.obj d,λd i=>by rw[h2];exact hG.fresh d i,λd d' i az=>by rw[h2,h2];exact hG.sep d d' i az,λn hn=>hG.free n (by rw[<-h3];exact hn)⟩
theorem Gam.drop (hG:Gam P B F pl tb s env U) (o:Nat):Gam P B F pl tb ⟨s.env,oset s.own o .dead,s.nx⟩ env U:=by
 have lv:∀ d,(Qf (oset s.own o .dead) d).live=true->d≠o/\(Qf s.own d).live=true:=λd h=>by
  rw[Qz] at h;by_cases e:d=o
  .rw[z7 e] at h;cases h
  .rw[z1 e] at h;exact⟨e,h⟩
 refine⟨hG.bf,hG.le,hG.env,λd=>?_,λd j h1 h2=>hG.fresh d j (lv d h1).2 h2,λd d' j az h1 h2 h3 h4=>hG.sep d d' j az (lv d h1).2 (lv d' h2).2 h3 h4,hG.free⟩;simp only[Qz];by_cases e:d=o
 .rw[z7 e];trivial
 .rw[z1 e];exact hG.obj d
theorem Lv (s:St) (d:Nat) (b:OB) (q:Nat):Qf (s.make d .dead).own q=Qf (oset (s.make d b).own d .dead) q:=by
 simp only[St.make,Qz];by_cases e:q=d
 .rw[z7 e,z7 e]
 .rw[z1 e,z1 e,z1 e]
theorem F5 {C:Cx}(hG:Gam P B F pl tb s env U) {d:Nat}{x:Operand}{K:SV->St->Prop}(h:gn C d (.ext (.rangeMap x)) (gev [] s.env) s K) {R:Value->Heap->Prop}
  (hK:∀ v s' B' F' pl' tb' u U',K v s'->GBase B F U B' F' U'->Gam P B' F' pl' tb' s' env U'->SR P B' pl' tb' v u->R u U'):vop (Q5 P) (.ext (.rangeMap x)) env U R:=by
 have ha:=hG.evs (Gds.nil (tb:=tb)) x;simp only[gn] at h;split at h
 .rename_i o h1;rw[h1] at ha;simp only[SR] at ha;split at h
  .rename_i kk vk m ho;split at h
   .have aq:=hG.obj o;rw[ho] at aq;obtain⟨i,es,clock,h2,h3,h4⟩:=aq;obtain⟨g1,g2⟩:=hG.freeze (o:=o) (i:=i) (by rw[ho];rfl) (by rw[h2];rfl)
    have jc:=g2.push d (.iter kk vk m []) (.pointer (some ⟨U.n,0,none⟩)) (.obj (.iter i clock [] clock) true) rfl
     ⟨U.n,i,es,clock,true,[],rfl,Heap.q0a _ _,by rw[Heap.q0m];exact h3,h4.mono g1.b,rfl,λt r h=>by simp at h⟩
    show Zf (Qb (.ext (.rangeMap x)) (Q6 env) U) _;have hv:Qb (.ext (.rangeMap x)) (Q6 env) U=some (.pointer (some ⟨U.n,0,none⟩),U.push (.obj (.iter i clock [] clock) true)):=by simp only[Qb,ZA,ha.1,h2,Heap.mapAt,h3]
    rw[hv];exact hK _ _ _ _ _ _ _ _ h (g1.trans (.of g2.bf (Dead.push _ _))) jc (by simp only[SR,Wt];exact⟨_,rfl,rfl⟩)
   .exact h.elim
  .exact h.elim
 .exact h.elim
theorem I6 {C:Cx}(hG:Gam P B F pl tb s env U) {d:Nat}{x:Operand}{K:SV->St->Prop}(h:gn C d (.ext (.nextMap x)) (gev [] s.env) s K) {R:Value->Heap->Prop}
  (hK:∀ v s' B' F' pl' tb' u U',K v s'->GBase B F U B' F' U'->Gam P B' F' pl' tb' s' env U'->SR P B' pl' tb' v u->R u U'):vop (Q5 P) (.ext (.nextMap x)) env U R:=by
 have ha:=hG.evs (Gds.nil (tb:=tb)) x;simp only[gn] at h;split at h
 .rename_i o f h1;rw[h1] at ha;simp only[SR] at ha;split at h
  .rename_i kk vk m dn ho;split at h
   .rename_i hf;obtain⟨rfl,oz⟩:=hf;have ao:(Qf s.own o).live=true:=by rw[ho];rfl
    have aq:=hG.obj o;rw[ho] at aq;obtain⟨j,i,es,clock,wr,seen,h2,h3,h4,h5,h6⟩:=aq;obtain⟨b,e2,e3⟩:=ha;rw[h2] at e2;obtain rfl:j=b:=by simpa using e2
    have aF:U.mapAt i=some (es,clock,wr):=by simp[Heap.mapAt,hG.leB.2 _ _ h4]
    have hlen:=h5.1.length;obtain⟨hA,hB⟩:=h;have bn:F.get j=none:=hG.fresh o j ao (by rw[h2];rfl);have a_:∀ q i',q≠o->(Qf s.own q).live=true->Oid (pl q) i'->i'≠j:=λq i' hq hl hi e=>by subst e;exact hG.sep q o i' hq hl ao hi (by rw[h2];rfl)
    show Cs (Q6 env x) U R;unfold Cs;rw[e3];simp only[h3,aF];refine⟨?_,?_,λae=>?_,λe he lX=>?_⟩
    .cases es with
     |nil=>simp
     |cons e es=>simp[h5.2.2 e (by simp)]
    .rw[zf];intro e he;obtain⟨r,hr⟩:=xp.1 he;obtain⟨_,k1,_⟩:=MR.at h5.1 hr;exact SI oz k1
    .refine hK _ _ _ _ _ _ _ _ (hA λr hr=>?_) (.of hG.bf (Dead.refl U)) hG (by simp only[SR,SRs];exact⟨[.bool false],rfl,_,[],rfl,rfl,rfl⟩);have dp:r<es.length:=by omega
     have he:=z6 dp;have:=zf.1 ae es[r] (zp dp);have ah:=h5.2.2 _ (zp dp);rw[zy,zC] at this;rcases this with this|this
     .rw[List.contains_iff_mem] at this;obtain⟨t,ht⟩:=xp.1 this;have vO:t<seen.length:=(zg.1 ht).1;have sg:t<dn.length:=by have:=h6.1;omega
      obtain⟨e',k1,k2⟩:=h6.2 t dn[t] (z6 sg);rw[ht] at k2;have:=GF h5.2 he k1 (osj k2);rw[this];exact zp sg
     .omega
    .obtain⟨r,hr⟩:=xp.1 he;have dp:r<es.length:=(zg.1 hr).1;have um:r∉dn:=λhm=>by
      obtain⟨t,ht⟩:=xp.1 hm;obtain⟨e',k1,k2⟩:=h6.2 t r ht;rw[hr] at k1;obtain rfl:=osj k1;have:seen.contains e.2.2=true:=by rw[List.contains_iff_mem];exact zK k2
      rw[this] at lX;cases lX
     refine hK _ _ _ _ _ _ _ _ (hB r (by omega) um) (.of hG.bf (Dead.upd _ _ _ (by rw[h3];rfl))) (hG.write o _ (hG.le.upd bn _) ao (λq i' hq hl hi=>Heap.q0b _ _ (a_ q i' hq hl hi)) ⟨j,i,es,clock,wr,seen++[e.2.2],h2,Heap.q0c _ _ (U.lt h3),h4,h5,?_,λt r' ht=>?_⟩) (by simp only[SR,SRs];exact⟨[.bool true,e.1,e.2.1],rfl,_,_,rfl,rfl,_,_,rfl,trivial,_,_,rfl,trivial,rfl⟩)
     .simp[h6.1]
     .rw[List.getElem?_append] at ht;split at ht
      .rename_i ah;obtain⟨e',k1,k2⟩:=h6.2 t r' ht;refine⟨e',k1,?_⟩;rw[xg (by have:=h6.1;omega)];exact k2
      .rename_i bG;have h0:t-dn.length=0:=by
        cases hz:t-dn.length with
        |zero=>rfl
        |succ n=>rw[hz] at ht;simp at ht
       rw[h0] at ht;obtain rfl:r=r':=by simpa using ht
       refine⟨e,hr,?_⟩;rw[xm (by have:=h6.1;omega),show t-seen.length=0 by have:=h6.1;omega];rfl
   .exact h.elim
  .exact h.elim
 .exact h.elim
theorem RN {d:Nat}(iA:B.Le F) {ty:Nat}{k:Kind}{xs:List k.T}{nl:Bool}(hk:k.flat=true) {pl':Nat->Value}{u:Value}{U':Heap}(h1:Gam P B F pl' tb (s.make d (.lst ty k xs nl)) env U') (h2:SR P B pl' tb (.lst d) u) (hd:Dead U U') :
  ∃ B' F',GBase B F U B' F' U'/\Gam P B' F' pl' tb (s.make d .dead) env U'/\SR P B' pl' tb (.val (.list k) xs) u:=by
 have aq:=h1.obj d;have bS:Qf (s.make d (.lst ty k xs nl)).own d=.lst ty k xs nl:=by simp only[St.make,Qz,zI]
 rw[bS] at aq;simp only[SR] at h2;obtain⟨rfl,_⟩:=h2;rcases aq with⟨_,hx,hp⟩|⟨_,i,cap,c,t,hp,cu,hg,hlen,dg⟩
 .refine⟨B,F,.of iA hd,(h1.drop d).own rfl (Lv s d _) rfl,?_⟩;simp only[SR];exact⟨_,rfl,.inl ⟨hx,hp⟩⟩
 .obtain⟨g1,g2⟩:=h1.freeze (o:=d) (i:=i) (by rw[bS];rfl) (by rw[hp];rfl);refine⟨_,_,(GBase.of iA hd).trans g1,g2.own rfl (Lv s d _) rfl,?_⟩;simp only[SR];refine⟨_,rfl,.inr ⟨i,0,cap,c,⟨k.size,ty⟩,true,t,hp,cu,by rw[Heap.q0m];exact hg,rfl,by have:=zx k.size cu;omega,?_⟩⟩;rw[x8];exact dg.mono λ_ _ e=>KC.flat hk e
theorem E6 {d nt:Nat}(eA:0<nt) (hG:Gam P B F pl tb s env U) {ty:Nat}{k:Kind}{xs:List k.T}{nl:Bool}(hk:k.flat=true) {u:Value}{U':Heap}(h:Ret P U (.lst 0) [.lst ty k xs nl] u U') :
  ∃ B' F' pl',GBase B F U B' F' U'/\Gam P B' F' pl' tb (s.make d .dead) env U'/\SR P B' pl' tb (.val (.list k) xs) u:=by
 obtain⟨pl',h1,h2⟩:=h.gam (d:=d) eA hG (by rfl) (by simp only[zZ,List.all_nil,xT,OB.ret];exact hk);simp only[St.makes,Nat.zero_mul,zU,SV.ren] at h1 h2;obtain⟨B',F',k⟩:=RN hG.bf hk h1 h2 h.1.2;exact⟨B',F',pl',k⟩
theorem Mo {nt:Nat}{r:Option (Prop×SV×List OB)}{c:Prop}{v:SV}(h:AU nt r=some (c,v)):∃ ty k xs nl,r=some (c,.lst 0,[.lst ty k xs nl])/\v=.val (.list k) xs/\k.flat=true/\0<nt:=by
 unfold AU at h;split at h
 .split at h
  .rename_i k xs _;cases hc:(k.flat&&Nat.blt 0 nt) with
   |false=>rw[hc] at h;cases h
   |true =>rw[hc] at h;obtain⟨rfl,rfl⟩:=Z8 h;simp only[z8,zR] at hc;exact⟨_,_,_,_,rfl,rfl,hc.1,hc.2⟩
  .cases h
 .cases h
theorem Ct {C:Cx}(aC:CsOk P C.cs) (hG:Gam P B F pl tb s env U) {gs:List Gd}(hg:Gds tb gs) {o:VOp}{c:Prop}{v:SV}{d:Nat}(h:Sw C o (gev gs s.env) s.own=some (c,v)) (hc:c) {K:Value->Heap->Prop}
  (hK:∀ u U' B' F' pl',GBase B F U B' F' U'->Gam P B' F' pl' tb (s.make d .dead) env U'->SR P B' pl' tb v u->K u U'):vop (Q5 P) o env U K:=by
 cases o<;>first|(cases h;done)|skip
 case callF f args =>
  simp only[Sw] at h;obtain⟨ty,k,xs,nl,heq,rfl,hk,eA⟩:=Mo h;obtain⟨g,a,b,h3,h4,_⟩:=J0 aC (show SR P U X1 J3 (.fn f [] []) (.func (.func f) #[] #[]) by simp only[SR,SRs];exact⟨[],[],rfl,rfl,rfl⟩) (hG.gcall hg args) heq (by rfl) (by simp only[zZ,List.all_nil,xT,OB.ret];exact hk) hc;obtain⟨rfl,rfl,rfl⟩:=(by simpa using h3:f=g/\#[]=a/\#[]=b);have:=h4.mono (R':=K) λu U' hr=>by obtain⟨B',F',pl',k1,k2,k3⟩:=E6 (d:=d) eA hG hk hr;exact hK u U' B' F' pl' k1 k2 k3
  show VCalled P f (args.map (Q6 env)) U K;simpa using this
 case callV f args =>
  simp only[Sw] at h;obtain⟨ty,k,xs,nl,heq,rfl,hk,eA⟩:=Mo h;obtain⟨g,a,b,h3,h4,_⟩:=J0 aC (hG.gfun hg f) (hG.gcall hg args) heq (by rfl) (by simp only[zZ,List.all_nil,xT,OB.ret];exact hk) hc;exact NL h3 (h4.mono λu U' hr=>by
   obtain⟨B',F',pl',k1,k2,k3⟩:=E6 (d:=d) eA hG hk hr;exact hK u U' B' F' pl' k1 k2 k3)
 case buildSlice e z n ps =>
  simp only[Sw] at h;split at h
  .rename_i k uo;split at h
   .rename_i dP;split at h
    .rename_i xs hx;obtain⟨rfl,rfl⟩:=Z8 h;have uq:gn C d (.buildSlice e z n ps) (gev gs s.env) s (λv s'=>v=.lst d/\s'=s.make d (.lst e.ty k xs false)):=by
      simp only[gn,uo,hx];rw[z7 ⟨dP.1,dP.2.1⟩];simp
     obtain⟨u,U',pl',v,s',h1,⟨rfl,rfl⟩,⟨h3,_⟩,h4⟩:=NU (λx=>hG.evs hg x) hG uq;obtain⟨B',F',k1,k2,k3⟩:=RN hG.bf dP.2.2 h3 h4 (Kc h1);show Zf (Qb (.buildSlice e z n ps) (Q6 env) U) _;rw[h1];exact hK u U' B' F' pl' k1 k2 k3
    .cases h
   .cases h
  .cases h
theorem SL {C:Cx}{o:VOp}{ev:Operand->SV}{own:Own}{c:Prop}{v:SV}(h:Sw C o ev own=some (c,v)):∃ (k:Kind) (xs:List k.T),v=.val (.list k) xs:=by
 cases o<;>first|(cases h;done)|skip
 case callF=>simp only[Sw] at h;obtain⟨ty,k,xs,nl,_,hv,_⟩:=Mo h;exact⟨k,xs,hv⟩
 case callV=>simp only[Sw] at h;obtain⟨ty,k,xs,nl,_,hv,_⟩:=Mo h;exact⟨k,xs,hv⟩
 case buildSlice e z n ps =>
  simp only[Sw] at h;split at h
  .split at h
   .split at h
    .obtain⟨_,rfl⟩:=Z8 h;exact⟨_,_,rfl⟩
    .cases h
   .cases h
  .cases h
theorem Q18 {C:Cx}(aC:COk P C) {B F:Heap}{pl:Nat->Value}{tb:Nat->Option Bool}{s:St}{env:Env}{U:Heap}(hG:Gam P B F pl tb s env U) {d:Nat}{o:VOp}{K:SV->St->Prop}(h:gn C d o (gev [] s.env) s K) {R:Value->Heap->Prop}
  (hK:∀ v s' B' F' pl' tb' u U',K v s'->GBase B F U B' F' U'->Gam P B' F' pl' tb' s' env U'->SR P B' pl' tb' v u->R u U'):vop (Q5 P) o env U R:=by
 have ak:=hG.evs (Gds.nil (tb:=tb));have act:∀ o {T:Nat},NOk P B F tb o (Q6 env) env U K T s pl->(∀ R',Zf (Qb o (Q6 env) U) (λp=>R' p.1 p.2)->vop (Q5 P) o env U R')->vop (Q5 P) o env U R:=λo _ ⟨u,U',pl',v,s',h1,h2,h3,h4⟩ hv=>hv R (by rw[h1];exact hK v s' B F pl' tb u U' h2 (.of hG.bf (Kc h1)) h3.1 h4);have aB:∀ args:List Operand,SRs P B pl tb (args.map (gev [] s.env)) (args.map (Q6 env)):=λargs=>SRs.map λx _=>hG.evs Gds.nil x;cases o
 case alloc t z=>exact act _ (OG ak hG h) λ_ h=>h
 case box t x=>exact act _ (Q9r ak hG h) λ_ h=>h
 case buildSlice e z n ps=>exact act _ (NU ak hG h) λ_ h=>h
 case makeSlice e b z l c=>exact act _ (Pt ak hG h) λ_ h=>h
 case append e b x y=>exact act _ (E7 ak hG h) λ_ h=>h
 case store size a x=>exact act _ (Iy ak hG h) λ_ h=>h
 case callF f args =>
  simp only[gn] at h;obtain⟨g,a,b,h3,h4⟩:=Bm aC hG (show SR P B pl tb (.fn f [] []) (.func (.func f) #[] #[]) by simp only[SR,SRs];exact⟨[],[],rfl,rfl,rfl⟩) (aB args) h (λ_ e=>by cases e) hK;obtain⟨rfl,rfl,rfl⟩:=(by simpa using h3:f=g/\#[]=a/\#[]=b);show VCalled P f (args.map (Q6 env)) U R;simpa using h4
 case callV f args =>
  simp only[gn] at h;by_cases hy:∃ o,gev [] s.env f=.dd o .yv
  .obtain⟨o,hy⟩:=hy;have hf:=hG.evs (Gds.nil (tb:=tb)) f;have h':TY C d (gev [] s.env f) (args.map (gev [] s.env)) s K:=h;rw[hy] at hf h';simp only[SR,DR] at hf;obtain⟨i,hp,hv⟩:=hf;simp only[TY] at h';split at h'
   .rename_i y ur;have:=aC.yl o y ur B F pl tb s env U _ _ K R i hG (aB args) h' hp hK;simp only[vop,hv];exact this
   .exact h'.elim
  obtain⟨g,a,b,h3,h4⟩:=Bm aC hG (hG.evs Gds.nil f) (aB args) h (λo e=>hy ⟨o,e⟩) hK;exact NL h3 h4
 case ext x =>
  cases x
  case mapUpdate mk m k v=>exact act _ (Po ak hG h) λ_ h=>h
  case delete mk m k=>exact act _ (Ad ak hG h) λ_ h=>h
  case mapEntry mk z m k=>exact act _ (TJ ak hG h) λ_ h=>h
  case entryStore m s v=>exact act _ (Bl ak hG h) λ_ h=>h
  case copy size a b=>exact False.elim h
  case unsafeStr e a n=>exact False.elim h
  case strBytes e a=>exact False.elim h
  case rangeMap a=>exact F5 hG h hK
  case nextMap a=>exact I6 hG h hK
  all_goals exact h.elim
 all_goals exact h.elim
theorem Gam.frz (hG:Gam P B F pl tb s env U) (o:Nat):∃ B' F',GBase B F U B' F' U/\Gam P B' F' pl tb (s.frz o) env U:=by
 unfold St.frz;split
 .rename_i ty k xs nl ho;have fin:∀ {B' F':Heap},Gam P B' F' pl tb ⟨s.env,oset s.own o .dead,s.nx⟩ env U->KC B' (.list k) xs [pl o]->Gam P B' F' pl tb ⟨SVs.frz o k xs s.env,Q10 o k xs s.own,s.nx⟩ env U:=λ{B' F'} h hk=>by
   have e1:∀ d,Qf (Q10 o k xs s.own) d=(Qf (oset s.own o .dead) d).frz o k xs:=λd=>by
    rw[I7,Qz];by_cases e:d=o
    .rw[z7 e,z7 e];rfl
    .rw[z1 e,z1 e]
   have lv:∀ d,(Qf (Q10 o k xs s.own) d).live=(Qf (oset s.own o .dead) d).live:=λd=>by rw[e1,OB.q2e]
   refine⟨h.bf,h.le,SRs.frz hk _ _ h.env,λd=>?_,λd i h1 h2=>?_,λd d' i az h1 h2=>?_,h.free⟩
   .simp only[e1];exact(h.obj d).frz hk
   .simp only[lv] at h1;exact h.fresh d i h1 h2
   .simp only[lv] at h1 h2;exact h.sep d d' i az h1 h2
  have aq:=hG.obj o;rw[ho] at aq;rcases aq with⟨_,hx,hp⟩|⟨_,i,cap,c,t,hp,cu,hg,hlen,dg⟩
  .exact⟨B,F,.of hG.bf (.refl _),fin (hG.drop o) ⟨_,rfl,.inl ⟨hx,hp⟩⟩⟩
  .obtain⟨g1,g2⟩:=hG.freeze (o:=o) (i:=i) (by rw[ho];rfl) (by rw[hp];rfl);refine⟨_,_,g1,fin g2 ⟨_,rfl,.inr ⟨i,0,cap,c,⟨k.size,ty⟩,true,t,hp,cu,by rw[Heap.q0m];exact hg,rfl,by have:=zx k.size cu;omega,?_⟩⟩⟩;rw[x8];exact dg.mono λ_ _ e=>KC.mono g1.b e
 .exact⟨B,F,.of hG.bf (.refl _),hG⟩
theorem GRel.frzs {B0 F0 D0:Heap}:∀ (l:List Nat) {s:St},GRel P B0 F0 D0 s env U->GRel P B0 F0 D0 (s.frzs l) env U
 |[],_,h=>h
 |o::r,s,⟨B,F,pl,tb,hB,hG⟩=>by obtain⟨B',F',g1,g2⟩:=hG.frz o;exact GRel.frzs r ⟨B',F',pl,tb,hB.trans g1,g2⟩
end
theorem SO {j:Nat}{f:Nat->Prop}:∀ {n i:Nat},IM (j:Int) f n i->i<=j->j<i+n->f j
 |0,i,_,h1,h2=>by omega
 |n+1,i,h,h1,h2=>by
  rcases zn i j with h3|h3
  .exact SO h.2 h3 (by omega)
  .have:j=i:=by omega
   subst this;exact h.1 rfl
theorem Im {o:VOp}{len i:Nat}{f:Nat->VOp}(h:Z02 o=some (len,i,f)) {n:Nat}:(∃ size x,f n=.indexAddrArr len size x (.const (.int .i64 (Int.ofNat n))))\/∃ agg size x,f n=.indexArr len agg size x (.const (.int .i64 (Int.ofNat n))):=by
 unfold Z02 at h;split at h
 .cases h;exact .inl ⟨_,_,rfl⟩
 .cases h;exact .inr ⟨_,_,_,rfl⟩
 .cases h
theorem Q0a {o:VOp}{len i:Nat}{f:Nat->VOp}(h:Z02 o=some (len,i,f)) {S:VSpecs}{env:Env}{U:Heap}{k:IntKind}{n:Nat}(he:Q6 env (.tmp i)=.int k (n:Int)) {R:Value->Heap->Prop}(hv:vop S (f n) env U R):vop S o env U R:=by
 have hc:Q6 env (.const (.int .i64 (Int.ofNat n)))=.int .i64 (n:Int):=rfl;unfold Z02 at h;split at h
 .rename_i len size x t;cases h;change Zf (Qb _ (Q6 env) U) _ at hv;change Zf (Qb _ (Q6 env) U) _;simp only[Qb,he,hc] at hv |-;generalize Q6 env x=u at hv |-;cases u<;>first|exact hv|skip
  rename_i p;cases p<;>first|exact hv|skip
  rename_i a;obtain⟨b,o,sp⟩:=a;cases sp<;>exact hv
 .rename_i len agg size x t;cases h;change Zf (Qb _ (Q6 env) U) _ at hv;change Zf (Qb _ (Q6 env) U) _;simp only[Qb,he,hc] at hv |-;generalize Q6 env x=u at hv |-;cases u<;>exact hv
 .cases h
theorem TV {C:Cx}(aC:COk P C) {B0 F0 D0:Heap}{s:St}{env:Env}{U:Heap}(hR:GRel P B0 F0 D0 s env U) {o:VOper}{K:St->Prop}(h:Z1d C o s K) {R:Env->Heap->Prop}(hK:∀ s' af U',K s'->GRel P B0 F0 D0 s' af U'->R af U') :
  Zf (Jm env o.guard) λb=>vif b (vop (Q5 P) o.op env U λv U'=>R (Xk env o.dst v) U') (R (Xk env o.dst undef) U):=by
 unfold Z1d at h;split at h
 .rename_i hg;rw[hg];refine⟨λ_=>?_,λe=>by cases e⟩
  replace hR:=hR.frzs (Q6g C (o.dst.getD 0) o.op (gev [] s.env) s.own)
  generalize s.frzs (Q6g C (o.dst.getD 0) o.op (gev [] s.env) s.own)=s at h hR;obtain⟨B,F,pl,tb,hB,hG⟩:=hR;unfold Z50 at h;split at h
  .rename_i len i f sh;split at h
   .rename_i k j hj;obtain⟨h1,h2,h3⟩:=h;obtain⟨n,rfl⟩:=xy h1;have hn:n<len:=by omega
    have h4:=SO h3 (Nat.zero_le n) (by omega);have he:=Jq hj (hG.evs (Gds.nil (tb:=tb)) (.tmp i));split at h4
    .rename_i cs v dH;obtain⟨k1,k2⟩:=ZD h4
     replace k1:=Zw k1
     have hv:=HH (C:=C) aC.cs hG Gds.nil (o:=f n) (raw:=C.raw.contains (o.dst.getD 0)) (cs:=cs) (v:=v) (by
      rw[<-dH];obtain⟨size,x,hf⟩|⟨agg,size,x,hf⟩:=Im sh<;>rw[hf];rfl;rfl) (k2 λg hg=>by cases hg) λu hu=>hK _ _ _ k1 ⟨B,F,pl,tb,hB,hG.put o.dst hu⟩
     exact Q0a sh he hv
    .exact h4.elim
   .exact h.elim
  unfold Z4y at h;split at h
  .rename_i c a b bJ;split at h
   .rename_i v hv;obtain⟨u,h1,h2⟩:=VW hG Gds.nil hv;rw[bJ];show Zf (Qb (.pick c a b) (Q6 env) U) _;rw[h1];exact hK _ _ _ (Zw h) ⟨B,F,pl,tb,hB,hG.put o.dst h2⟩
   .exact h.elim
  .rename_i vP;cases hq:Oj o.op with
   |true =>
    rw[hq] at h;simp only[zm] at h;split at h
    .rename_i cs v dH;obtain⟨h1,h2⟩:=ZD h
     replace h1:=Zw h1
     refine HH (C:=C) aC.cs hG Gds.nil (raw:=C.raw.contains (o.dst.getD 0)) (cs:=cs) (v:=v) ?_ (h2 λg hg=>by cases hg) λu hu=>hK _ _ _ h1 ⟨B,F,pl,tb,hB,hG.put o.dst hu⟩;rw[<-dH];cases ho:o.op<;>first|rfl|(rw[ho] at hq;cases hq)
    .exact h.elim
   |false =>
    rw[hq] at h;simp only[zW] at h;split at h
    .rename_i bJ;split at h
     .rename_i kk vk _;obtain⟨h1,h2⟩:=O7 hG (C.off+o.dst.getD 0) kk vk;rw[bJ];change R (Xk env o.dst (.map (some U.n))) (U.push (.obj (.map [] 0) true));exact hK _ _ _ h ⟨B,F,_,tb,Mz hB (Dead.push _ _),h1.put o.dst h2⟩
     .exact h.elim
    .rename_i bJ;cases kX:C5 C (o.dst.getD 0) o.op (gev [] s.env) with
     |true =>rw[kX] at h;simp only[zm] at h;exact Fs hG h λv s' B' F' pl' tb' u U' h1 hd h2 h3=>hK _ _ _ h1 ⟨B',F',pl',tb',hB.trans hd,h2.put o.dst h3⟩
     |false =>rw[kX] at h;simp only[zW] at h;exact Q18 aC hG h λv s' B' F' pl' tb' u U' h1 hd h2 h3=>hK _ _ _ h1 ⟨B',F',pl',tb',hB.trans hd,h2.put o.dst h3⟩
 .rename_i j want hg;obtain⟨B,F,pl,tb,hB,hG⟩:=hR;rw[hg];split at h
  .exact h.elim
  .rename_i gs s' eo;obtain⟨tb',bw,cU,b,hw,br,bB⟩:=W4 hG eo;rw[hw];refine⟨λe=>?_,λe=>?_⟩
   .have gU:Gds tb' gs:=λg hg=>⟨br e g hg,cU g hg⟩;have fin:∀ {v u},SR P B pl tb' v u->SR P B pl tb' (.grd gs (Dr v)) u:=λ{v u} hs=>by
     simp only[SR];obtain⟨h1,h2⟩:=Hj hs;exact⟨⟨cU,h2⟩,λ_=>h1,λ⟨g,hg,az⟩=>absurd (br e g hg) az⟩
    split at h
    .rename_i c a b' bJ;split at h
     .rename_i v hv;obtain⟨u,h1,h2⟩:=VW bw gU hv;rw[bJ];show Zf (Qb (.pick c a b') (Q6 env) U) _;rw[h1];exact hK _ _ _ (Zw h) ⟨B,F,pl,tb',hB,bw.put o.dst (fin h2)⟩
     .exact h.elim
    .split at h
     .rename_i cs v dH;obtain⟨h1,h2⟩:=ZD h
      replace h1:=Zw h1
      exact HH aC.cs bw gU dH (h2 (br e)) λu hu=>hK _ _ _ h1 ⟨B,F,pl,tb',hB,bw.put o.dst (fin hu)⟩
     .split at h
      .rename_i c v kY;obtain⟨h1,h2⟩:=ZD h
       replace h1:=Zw h1
       refine Ct aC.cs bw gU (d:=C.off+o.dst.getD 0) kY (h2 (br e) c (by simp)) λu U' B' F' pl' k1 k2 k3=>hK _ _ _ h1 ⟨B',F',pl',tb',hB.trans k1,k2.put o.dst ?_⟩;simp only[SR];refine⟨⟨cU,?_⟩,λ_=>k3,λ⟨g,hg,az⟩=>absurd (br e g hg) az⟩;obtain⟨k,xs,rfl⟩:=SL kY;trivial
      .exact h.elim
   .have fin:∀ v,SR P B pl tb' (.grd gs (Dr v)) undef:=λv=>by
     simp only[SR];obtain⟨g,hg,az⟩:=bB e;exact⟨⟨cU,H8 v⟩,λae=>absurd (ae g hg) az,λ_=>trivial⟩
    split at h
    .split at h
     .exact hK _ _ _ (Zw h) ⟨B,F,pl,tb',hB,bw.put o.dst (fin _)⟩
     .exact h.elim
    .split at h
     .exact hK _ _ _ (Zw (ZD h).1) ⟨B,F,pl,tb',hB,bw.put o.dst (fin _)⟩
     .split at h
      .rename_i c v kY;refine hK _ _ _ (Zw (ZD h).1) ⟨B,F,_,tb',hB,(bw.make (C.off+o.dst.getD 0) .dead undef bw.le (λ_ _ _ _ _=>rfl) trivial (λi hl _=>by cases hl)).put o.dst ?_⟩;simp only[SR];obtain⟨g,hg,az⟩:=bB e;refine⟨⟨cU,?_⟩,λae=>absurd (ae g hg) az,λ_=>trivial⟩;obtain⟨k,xs,rfl⟩:=SL kY;trivial
      .exact h.elim
theorem IE {C:Cx}(aC:COk P C) {B0 F0 D0:Heap}{s:St}{env:Env}{U:Heap}(hR:GRel P B0 F0 D0 s env U) {o:VOper}{K:St->Prop}(h:gop C o s K) {R:Env->Heap->Prop}(hK:∀ s' af U',K s'->GRel P B0 F0 D0 s' af U'->R af U') :
  Zf (Jm env o.guard) λb=>vif b (vop (Q5 P) o.op env U λv U'=>R (Xk env o.dst v) U') (R (Xk env o.dst undef) U):=by
 unfold gop at h;split at h
 .rename_i t ht;have jd:=hR;obtain⟨B,F,pl,tb,hB,hG⟩:=hR;rw[Kx hG ht];cases t with
  |true =>simp only[zm] at h;exact TV aC jd (o:=⟨o.dst,o.op,none⟩) h hK
  |false =>simp only[zW] at h;exact⟨(λe=>by cases e),λ_=>hK _ _ _ h ⟨B,F,pl,tb,hB,hG.put o.dst (by simp[SR])⟩⟩
 .exact TV aC hR h hK
theorem CY {B0 F0 D0:Heap}{s s':St}{env:Env}{U:Heap}(hR:GRel P B0 F0 D0 s env U) {d:Nat}(h:Q6c d s=some s'):GRel P B0 F0 D0 s' env U:=by
 unfold Q6c at h;split at h
 .rename_i o off hd;cases hz:Nat.beq off 0 with
  |false=>rw[hz] at h;cases h
  |true =>
   rw[hz] at h;simp only[zm] at h;have hz:off=0:=zV hz;subst hz;split at h
   .rename_i l _ ho;simp only[xi] at h;subst h;obtain⟨B,F,pl,tb,hB,hG⟩:=hR;have aq:=hG.obj o;rw[ho] at aq;obtain⟨i,c,e,t,e1,e2,e3,_⟩:=aq;obtain⟨k1,k2⟩:=hG.freeze (o:=o) (i:=i) (by rw[ho];rfl) (by rw[e1];rfl);have h1:=hG.env.getD d undef;rw[hd] at h1;have sr:SR P (B.ins U i hG.leB.1) pl tb (.cp l 0) (env.getD d undef):=by
     simp only[SR] at h1 |-;obtain⟨b,q1,q2⟩:=h1;rw[e1] at q1;obtain rfl:i=b:=by simpa using q1
     refine⟨i,c,e,true,t,?_,q2,SRs.mono k1.b (λ_ _ h=>h) _ _ e3⟩;rw[Heap.q0m];exact e2
    have:=k2.put (some d) sr;refine⟨_,_,pl,tb,hB.trans k1,?_⟩;have e2:Xk env (some d) (env.getD d undef)=env:=by
     show env.set d _=env;rcases zn d env.length with h|h
     .rw[zd,z6 h];simp
     .rw[List.set_eq_of_length_le h]
    rw[e2] at this;exact this
   .cases h
 .cases h
theorem EX {C:Cx}{B0 F0 D0:Heap}{s:St}{env:Env}{U:Heap}(hR:GRel P B0 F0 D0 s env U) {d:Option Nat}{K:St->Prop}(h:Z20 C d K s):∃ s2,K s2/\GRel P B0 F0 D0 s2 env U:=by
 unfold Z20 at h;split at h
 .exact⟨s,h,hR⟩
 .rename_i d;cases hb:C.spl.contains d with
  |false=>rw[hb] at h;exact⟨s,h,hR⟩
  |true =>
   rw[hb] at h;simp only[zm] at h;split at h
   .rename_i t ht;obtain⟨B,F,pl,tb,hB,hG⟩:=hR;have he:=XT ht (hG.env.getD d undef);have bq:∀ v,SR P B pl tb v (env.getD d undef)->GRel P B0 F0 D0 (s.put (some d) v) env U:=λv hv=>by
     have:=hG.put (some d) hv;refine⟨B,F,pl,tb,hB,?_⟩;have e2:Xk env (some d) (env.getD d undef)=env:=by
      show env.set d _=env;rcases zn d env.length with h|h
      .rw[zd,z6 h];simp
      .rw[List.set_eq_of_length_le h]
     rw[e2] at this;exact this
    have sr:SR P B pl tb (.grd [] (.val .bo t)) (env.getD d undef):=by simp only[SR];exact⟨⟨(λg hg=>by cases hg),trivial⟩,(λ_=>by rw[he];simp[KC]),λ⟨g,hg,_⟩=>by cases hg⟩
    cases hc:C.raw.contains (3000000+d) with
    |true =>
     rw[hc] at h;cases t with
     |true=>exact⟨_,h,bq _ sr⟩
     |false=>exact⟨_,h,bq _ sr⟩
    |false =>
     rw[hc] at h;cases t with
     |true=>exact⟨_,h.1 rfl,bq _ sr⟩
     |false=>exact⟨_,h.2 rfl,bq _ sr⟩
   .split at h
    .rename_i s' hf;exact⟨s',h,CY hR hf⟩
    .exact h.elim
theorem Mf {C:Cx}(aC:COk P C) {B0 F0 D0:Heap}:∀ (ops:List VOper) {s:St}{env:Env}{U:Heap},GRel P B0 F0 D0 s env U->∀ {K:St->Prop},Z1n C ops s K->∀ {R:Env->Heap->Prop},(∀ s' af U',K s'->GRel P B0 F0 D0 s' af U'->R af U')->TA (Q5 P) ops env U R
 |[],s,env,U,hR,_K,h,_R,hK=>hK s env U h hR
 |_o::r,_s,_env,_σ,hR,_K,h,_R,hK=>IE (R:=λenv U=>TA (Q5 P) r env U _R) aC hR h λ_ _ _ h1 h2=>by obtain⟨s2,k1,k2⟩:=EX h2 h1;exact Mf aC r k2 k1 hK
theorem Oz {S:VSpecs}{l:List DOper}{rest:List DSeg}{env:Env}{U:Heap}{K:Env->Heap->Prop}(h:l.all (λo=>!(o.kind==2)&&!(o.op.kind==2))=true) (hv:TA S (l.map dv) env U λenv U=>Mu S rest env U K):Mu S (.alts [l]::rest) env U K:=by
 intro ops ho;obtain rfl:=zh.1 ho;have key:∀ (l:List DOper) (env:Env) (pend:List (Nat×(Heap->Prop))) (K':Env->Heap->Prop),l.all (λo=>!(o.kind==2)&&!(o.op.kind==2))=true->TA S (l.map dv) env U K'->ZE S l env [U] U pend K':=by
  intro l;induction l with
  |nil=>intro env pend K' _ h;exact h
  |cons o rest ih =>
   intro env pend K' hk h;simp only[zZ,z8,Bool.not_eq_true',wq] at hk;obtain⟨⟨bp,av⟩,hr⟩:=hk;have hr:rest.all (λo=>!(o.kind==2)&&!(o.op.kind==2))=true:=by simpa using hr
   simp only[zG,TA,dv] at h;simp only[ZE];cases hw:Jm env o.guard with
   |none=>rw[hw] at h;exact h.elim
   |some b =>
    rw[hw] at h;obtain⟨ht,hf⟩:=h;refine⟨λe=>?_,λe=>?_⟩
    .have ht:=ht e;obtain⟨p,hp,lC⟩:∃ p,Qb o.op (Q6 env) U=some p/\TA S (rest.map dv) (Xk env o.dst p.1) p.2 K':=by
      have:=ht;unfold vop at this;split at this
      .rename_i f bQ heq;rw[heq] at av;exact absurd rfl av
      .rename_i f bQ heq;rw[heq] at av;exact absurd rfl av
      .rename_i x heq;rw[heq] at av;exact absurd rfl av
      .cases dX:Qb o.op (Q6 env) U with
       |none=>rw[dX] at this;exact this.elim
       |some p=>rw[dX] at this;exact⟨p,rfl,this⟩
     have hq:p.2=U:=GU av (v:=p.1) (U':=p.2) hp;rw[hq] at lC;rw[z1 bp];split
     .rw[hp];refine⟨λZ hτ=>?_,ih _ _ _ hr lC⟩;have:Z=U:=by
       have:=List.mem_of_mem_drop hτ;simpa using this
      subst this;show Zf (Qb o.op (Q6 env) Z) _;rw[hp];rfl
     .rw[hp];exact ih _ _ _ hr lC
    .rw[z1 bp];exact ih _ _ _ hr (hf e)
 have:=key ops env [] _ h hv;have mono:∀ (l:List DOper) (env:Env) (hs:List Heap) (Z:Heap) (pend:List (Nat×(Heap->Prop))) (A B:Env->Heap->Prop),l.all (λo=>!(o.kind==2)&&!(o.op.kind==2))=true->(∀ e s,A e s->B e s)->ZE S l env hs Z pend A->ZE S l env hs Z pend B:=by
  intro l;induction l with
  |nil=>intro env hs Z pend A B _ lM h;exact lM _ _ h
  |cons o rest ih =>
   intro env hs Z pend A B hk lM h;simp only[zZ,z8,Bool.not_eq_true',wq] at hk;obtain⟨⟨bp,av⟩,hr⟩:=hk;have hr:rest.all (λo=>!(o.kind==2)&&!(o.op.kind==2))=true:=by simpa using hr
   simp only[ZE] at h |-;cases hw:Jm env o.guard with
   |none=>rw[hw] at h;exact h.elim
   |some b =>
    rw[hw] at h;obtain⟨ht,hf⟩:=h;refine⟨λe=>?_,λe=>?_⟩
    .have ht:=ht e;rw[z1 bp] at ht |-;by_cases nM:o.kind=1
     .rw[z7 nM] at ht |-;cases dX:Qb o.op (Q6 env) Z with
      |none=>rw[dX] at ht;exact ht.elim
      |some p=>rw[dX] at ht;exact⟨ht.1,ih _ _ _ _ _ _ hr lM ht.2⟩
     .rw[z1 nM] at ht |-;cases dX:Qb o.op (Q6 env) Z with
      |none=>rw[dX] at ht;exact ht.elim
      |some p=>rw[dX] at ht;exact ih _ _ _ _ _ _ hr lM ht
    .have hf:=hf e;rw[z1 bp] at hf |-;exact ih _ _ _ _ _ _ hr lM hf
 exact mono ops env _ _ _ _ _ h (λe s hs=>⟨e,s,.refl _ _ _,hs⟩) this
theorem Z_ {op:VOp}{ev:Operand->Value}{u:Value}{Z Z':Heap}(h:Qb op ev Z=some (u,Z')):Xc op ev u Z:=by unfold Xc;rw[h];rfl
theorem Zs (s:St) (d:Option Nat) (v:SV):(s.put d v).own=s.own:=by cases d<;>rfl
theorem K2 {s s':St}{j:Nat}{want:Bool}{gs:List Gd}(h:Bv s j want=some (gs,s')):s'.own=s.own:=by unfold Bv at h;split at h<;>first|(cases h;done)|(obtain⟨_,rfl⟩:=Z8 h;rfl)
theorem VE {C:Cx}{B F:Heap}{pl:Nat->Value}{tb:Nat->Option Bool}{s:St}{env:Env}{U:Heap}(hG:Gam P B F pl tb s env U) {o:DOper}{K:St->Prop}(h:gd1 C o s K) :
  ∃ b,Jm env o.guard=some b/\(b=true->∃ u s' tb',Qb o.op (Q6 env) U=some (u,U)/\K s'/\s'.own=s.own/\Gam P B F pl tb' s' (Xk env o.dst u) U)/\(b=false->∃ s' tb',K s'/\s'.own=s.own/\Gam P B F pl tb' s' (Xk env o.dst undef) U):=by
 unfold gd1 at h;split at h
 .rename_i hg;rw[hg];refine⟨true,rfl,λ_=>?_,λe=>by cases e⟩;split at h
  .rename_i c a b bJ;split at h
   .rename_i v hv;obtain⟨u,h1,h2⟩:=VW hG Gds.nil hv;exact⟨u,_,tb,by rw[bJ];exact h1,Zw h,Zs _ _ _,hG.put o.dst h2⟩
   .exact h.elim
  .split at h
   .rename_i cs v dH;obtain⟨h1,h2⟩:=ZD h;obtain⟨u,h3,h4⟩:=Ss (hG.evs (Gds.nil (tb:=tb))) (λ_=>rfl) hG.leB hG.obj dH (h2 λg hg=>by cases hg);exact⟨u,_,tb,h3,Zw h1,Zs _ _ _,hG.put o.dst h4⟩
   .exact h.elim
 .rename_i j want hg;rw[hg];split at h
  .exact h.elim
  .rename_i gs s' eo;obtain⟨tb',bw,cU,b,hw,br,bB⟩:=W4 hG eo;refine⟨b,hw,λe=>?_,λe=>?_⟩
   .have gU:Gds tb' gs:=λg hg=>⟨br e g hg,cU g hg⟩;have fin:∀ {v u},SR P B pl tb' v u->SR P B pl tb' (.grd gs (Dr v)) u:=λ{v u} hs=>by
     simp only[SR];obtain⟨h1,h2⟩:=Hj hs;exact⟨⟨cU,h2⟩,λ_=>h1,λ⟨g,hg,az⟩=>absurd (br e g hg) az⟩
    split at h
    .rename_i c a b' bJ;split at h
     .rename_i v hv;obtain⟨u,h1,h2⟩:=VW bw gU hv;exact⟨u,_,tb',by rw[bJ];exact h1,Zw h,(Zs _ _ _).trans (K2 eo),bw.put o.dst (fin h2)⟩
     .exact h.elim
    .split at h
     .rename_i cs v dH;obtain⟨h1,h2⟩:=ZD h;obtain⟨u,h3,h4⟩:=Ss (bw.evs gU) (λ_=>rfl) bw.leB bw.obj dH (h2 (br e));exact⟨u,_,tb',h3,Zw h1,(Zs _ _ _).trans (K2 eo),bw.put o.dst (fin h4)⟩
     .exact h.elim
   .have fin:∀ v,SR P B pl tb' (.grd gs (Dr v)) undef:=λv=>by
     simp only[SR];obtain⟨g,hg,az⟩:=bB e;exact⟨⟨cU,H8 v⟩,λae=>absurd (ae g hg) az,λ_=>trivial⟩
    split at h
    .split at h
     .exact⟨_,tb',Zw h,(Zs _ _ _).trans (K2 eo),bw.put o.dst (fin _)⟩
     .exact h.elim
    .split at h
     .exact⟨_,tb',Zw (ZD h).1,(Zs _ _ _).trans (K2 eo),bw.put o.dst (fin _)⟩
     .exact h.elim
theorem Cv {bs:List OB}{q:Prop}(h:IB bs q):(∀ b∈bs,b.wf)/\q:=by
 induction bs with
 |nil=>exact⟨(λb hb=>by cases hb),h⟩
 |cons b r ih =>
  obtain⟨h1,h2⟩:=h;obtain⟨h3,h4⟩:=ih h2;exact⟨λb' cy=>by
   rcases zk.1 cy with rfl|cy
   .exact h1
   .exact h3 b' cy,h4⟩
mutual
theorem Aa {d nt:Nat}:∀ (v:SV),v.ret 0=true->(v.ren d nt).ret 0=true
 |.val k x,h=>h
 |.nilS,_|.nilP,_|.nilM,_|.nilF,_=>rfl
 |.lst j,h|.box j _,h|.map j,h=>by simp[SV.ret,Nat.blt] at h
 |.agg l,h=>by simp only[SV.ren,SV.ret] at h |-;exact Pf l h
 |.tup l,h=>by simp only[SV.ren,SV.ret] at h |-;exact Pf l h
 |.any,h|.bid _ _,h|.grd _ _,h|.sub _ _ _ _,h|.elp _ _ _ _,h|.rop _ _ _ _,h|.cp _ _,h|.fn _ _ _,h|.pf _ _ _ _,h=>by cases h
theorem Pf {d nt:Nat}:∀ (v:List SV),SVs.ret 0 v=true->SVs.ret 0 (SVs.ren d nt v)=true
 |[],_=>rfl
 |s::ss,h=>by simp only[SVs.ret,SVs.ren,z8] at h |-;exact⟨Aa s h.1,Pf ss h.2⟩
end
theorem W6 {C:Cx}(aC:COk P C) {B F:Heap}{pl:Nat->Value}{tb:Nat->Option Bool}{s:St}{env:Env}{U:Heap}(hG:Gam P B F pl tb s env U) {d:Nat}{f:SV}{args:List SV}{K:List Nat->SV->St->Prop}(h:MI C d f args s K) {fV:Value}{vs:List Value}
  (hf:SR P U X1 J3 f fV) (ha:SRs P U X1 J3 args vs):∃ g a b u U' ts v s' pl',fV=.func (.func g) a b/\(VCalled P g (a.toList++vs++b.toList) U λu' aH=>u'=u/\aH=U')/\K ts v s'/\Gam P B F pl' tb s' env U'/\SR P B pl' tb v u/\(ts=[]->U'=U/\pl'=pl/\s'=s)/\U.Le U'/\Dead U U'/\FrL ts s s' pl pl' U U':=by
 unfold MI at h;split at h
 .rename_i c v bs heq;cases hb:(v.ret bs.length&&(bs.all OB.ret&&(Nat.blt 0 C.nt&&(bs.all OB.isL&&V8 v)))) with
  |false=>rw[hb] at h;exact h.elim
  |true =>
   rw[hb] at h;obtain⟨h1,h2⟩:=h;obtain⟨h3,h4⟩:=Cv h2;simp only[z8] at hb;obtain⟨hv,l8,eA,hl,cJ⟩:=hb;obtain⟨g,a,b,e,_,hx⟩:=J0 aC.cs hf ha heq hv l8 h1;have dG:=LR (P:=P) U hv cJ l8 hl (λb hb=>by have:=h3 b hb;cases b<;>exact this);by_cases b_:bs=[]
   .subst b_;obtain⟨k1,k2⟩:=dG.flat hv;refine⟨g,a,b,_,_,_,_,_,pl,e,hx hl cJ,h4,?_,?_,λ_=>⟨k1,rfl,rfl⟩,dG.1.1,dG.1.2,λq _=>⟨rfl,rfl,λ_ _ _=>by rw[k1]⟩⟩
    .rw[k1];exact hG
    .exact SR.retd (B:=hNil) (pl:=pl) (tb:=J3) (n:=0) (λj hj=>by omega) _ _ (Aa v hv) (SR.ren (pl:=X1) (tb:=J3) (n:=0) (λj hj=>by omega) v _ hv k2)
   .obtain⟨pl',h5,h6,h7⟩:=dG.gamF (nt:=C.nt) (d:=d) (by simpa [zR] using eA) hG hv l8;refine⟨g,a,b,_,_,_,_,_,pl',e,hx hl cJ,h4,h5,h6,λhe=>absurd (by simpa using he) b_,dG.1.1,dG.1.2,λq hq=>h7 q λj hj e=>hq ?_⟩;exact zu.2 ⟨j,zz.2 hj,e.symm⟩
 .exact h.elim
def Ae:VOp->Bool
 |.callF ..|.callV ..=>true
 |.ext (.rangeMap _)|.ext (.nextMap _)=>true
 |_=>false
theorem Q9k {C:Cx}{B F:Heap}{pl:Nat->Value}{tb:Nat->Option Bool}{s:St}{env:Env}{U:Heap}(hG:Gam P B F pl tb s env U) {d:Nat}{o:VOp}{K:SV->St->Prop}(h:gn C d o (gev [] s.env) s K) (hc:Ae o=false) :
  NOk P B F tb o (Q6 env) env U K (QY d o (gev [] s.env)) s pl:=by
 have ak:=hG.evs (Gds.nil (tb:=tb));cases o
 case alloc t z=>exact OG ak hG h
 case box t x=>exact Q9r ak hG h
 case buildSlice e z n ps=>exact NU ak hG h
 case makeSlice e b z l c=>exact Pt ak hG h
 case append e b x y=>exact E7 ak hG h
 case store size a x=>exact Iy ak hG h
 case callF=>cases hc
 case callV=>cases hc
 case ext x =>
  cases x
  case mapUpdate mk m k v=>exact Po ak hG h
  case delete mk m k=>exact Ad ak hG h
  case mapEntry mk z m k=>exact TJ ak hG h
  case entryStore m s v=>exact Bl ak hG h
  case copy size a b=>exact False.elim h
  case unsafeStr e a n=>exact False.elim h
  case strBytes e a=>exact False.elim h
  case rangeMap=>cases hc
  case nextMap=>cases hc
  all_goals exact h.elim
 all_goals exact h.elim
theorem Rr {o:VOp}{ev:Operand->Value}{U U':Heap}{u:Value}(hm:HK o=true) (h:Qb o ev U=some (u,U')):U.Le U':=by
 have push:∀ b:Blk,U.Le (U.push b):=λb=>(Heap.Le.refl U).push b;cases o<;>first|(cases hm;done)|skip
 case alloc t z=>obtain⟨rfl,rfl⟩:=Z8 h;exact push _
 case box t x =>
  simp only[Qb] at h;split at h
  .obtain⟨rfl,rfl⟩:=Z8 h;exact push _
  .cases h
 case buildSlice e z n ps =>
  simp only[Qb] at h;split at h
  .obtain⟨rfl,rfl⟩:=Z8 h;exact push _
  .cases h
 case makeSlice e b z l c =>
  simp only[Qb] at h;split at h
  .split at h
   .obtain⟨rfl,rfl⟩:=Z8 h;exact push _
   .cases h
  .cases h
def stM:MK:=.agg [.int .i64,.int .i64]
def Q73:Option JD->Value
 |some e=>e.2.1
 |none=>.int .i64 0
def LkE (es bV:List JD):Prop:=(es.all (λe=>ZC stM e.1)=true->bV.all (λe=>ZC stM e.1)=true)/\(es.all (λe=>ZC stM e.1)=true->∀ k,ZC stM k=true->Q73 (Qp k bV)=Q73 (Qp k es))
theorem LkE.trans {a b c:List JD}(h:LkE a b) (h':LkE b c):LkE a c:=⟨λk=>h'.1 (h.1 k),λk x hx=>(h'.2 (h.1 k) x hx).trans (h.2 k x hx)⟩
theorem CP {v:Value}(h:ZC stM v=true):∃ a b,v=.agg #[.int .i64 a,.int .i64 b]:=by
 cases v with
 |agg l =>
  simp only[ZC,stM] at h;obtain⟨l⟩:=l
  match l,h with
  |[],h=>simp[fits] at h
  |[x],h=>cases x<;>simp[fits,Eg] at h
  |[x,y],h =>simp only[fits,z8] at h;obtain⟨hx,hy,_⟩:=h;cases x<;>simp[Eg] at hx;cases y<;>simp[Eg] at hy;subst hx;subst hy;exact⟨_,_,rfl⟩
  |x::y::z::r,h=>simp[fits] at h
 |_=>simp[ZC,stM] at h
theorem Q2p {a b c e:Int}:XN (.agg #[.int .i64 a,.int .i64 b]) (.agg #[.int .i64 c,.int .i64 e])=(a==c&&b==e):=by simp[XN,Qt,Ki]
theorem O0 {k0:Value}{clock:Nat}(ju:ZC stM k0=true):∀ {es:List JD},LkE es (QC k0 (Q73 (Qp k0 es)) clock es).1
 |[]=>by refine⟨λ_=>by simp[QC,ju],λ_ k hk=>?_⟩;simp only[QC,Qp];cases XN k k0<;>rfl
 |e::es=>by
  have ih:=O0 (clock:=clock) ju (es:=es);simp only[QC,Qp];cases he:XN k0 e.1 with
  |true =>
   simp only[zI];refine⟨λh=>?_,λh k hk=>?_⟩
   .simp only[zZ,z8] at h |-;exact⟨ju,h.2⟩
   .simp only[zZ,z8] at h;obtain⟨a,b,rfl⟩:=CP ju;obtain⟨a1,b1,h1⟩:=CP h.1;obtain⟨a2,b2,rfl⟩:=CP hk;have heq:(a==a1&&b==b1)=true:=by rw[<-Q2p,<-h1];exact he
    simp only[z8,z_] at heq;obtain⟨rfl,rfl⟩:=heq;simp only[Qp,h1,Q2p];cases (a2==a&&b2==b)<;>rfl
  |false =>
   simp only[zD,if_false];refine⟨λh=>?_,λh k hk=>?_⟩
   .simp only[zZ,z8] at h |-;exact⟨h.1,ih.1 h.2⟩
   .simp only[zZ,z8] at h;simp only[Qp];cases XN k e.1 with
    |true=>rfl
    |false=>exact ih.2 h.2 k hk
theorem It {mk:MK}{z:Value}(h:stP mk z=true):mk=stM/\z=.int .i64 0:=by
 unfold stP at h;split at h
 .exact⟨rfl,by rw[eq_of_beq h]⟩
 .cases h
def EG (U:Heap) (own:Own) (pl:Nat->Value) (Q:Heap->Prop):Option Nat->Prop
 |none=>∀ Z,U.Le Z->Q Z
 |some q=>(Qf own (q / 2)).live=true/\∃ i b,Oid (pl (q / 2)) i/\U.get i=some b/\(∀ Z,Z.get i=some b->Q Z)/\(q % 2=1->∃ es c wr,b=.obj (.map es c) wr/\∀ Z bV c',LkE es bV->Z.get i=some (.obj (.map bV c') wr)->Q Z)
structure DSt (hs:List Heap) (U:Heap) (pend:List (Nat×(Heap->Prop))) (hl chg:Nat) (A R:List (Nat×Option Nat)) (own:Own) (pl:Nat->Value):Prop where
 len:hs.length=hl
 same:∀ j Z,chg<=j->hs[j]?=some Z->Z=U
 pend:∀ c∈pend,c.1<hl\/∃ r∈R,c.1<=r.1/\EG U own pl c.2 r.2
 fr:∀ j Z q i,hs[j]?=some Z->Zu A j q=true->(Qf own q).live=true->Oid (pl q) i->Z.get i=U.get i
theorem YN {r:Nat}{U:Heap}:∀ {l:List (Nat×(Heap->Prop))},(∀ c∈l,r<=c.1->c.2 U)->X5 r U l
 |[],_=>trivial
 |c::l,h=>⟨h c (by simp),YN λc' cO=>h c' (by simp[cO])⟩
theorem JC {hs:List Heap}{U' Z:Heap}{j:Nat}(h:(hs++[U'])[j]?=some Z):(j<hs.length/\hs[j]?=some Z)\/(j=hs.length/\Z=U'):=by
 rw[List.getElem?_append] at h;split at h
 .rename_i ah;exact .inl ⟨ah,h⟩
 .have:j-hs.length=0:=by
   cases hz:j-hs.length with
   |zero=>rfl
   |succ n=>rw[hz] at h;simp at h
  rw[this] at h;exact .inr ⟨by omega,by simpa using h.symm⟩
theorem Ti {a:Nat×Option Nat}{A:List (Nat×Option Nat)}{j q:Nat}(h:Zu (a::A) j q=true) (hj:j<=a.1):(∃ t,a.2=some t/\t≠q)/\Zu A j q=true:=by
 simp only[Zu,zZ,z8,zy,zR] at h;refine⟨?_,h.2⟩;rcases h.1 with h|h
 .omega
 .split at h
  .rename_i t ht;exact⟨t,ht,λe=>by subst e;simp at h⟩
  .cases h
theorem DSt.stay {hs:List Heap}{U:Heap}{pend:List (Nat×(Heap->Prop))}{hl chg:Nat}{A R:List (Nat×Option Nat)}{own:Own}{pl:Nat->Value}(h:DSt hs U pend hl chg A R own pl) :
  X5 hs.length U pend/\DSt (hs++[U]) U pend (hl+1) chg A R own pl:=by
 have hr:∀ c∈pend,∀ r∈R,EG U own pl c.2 r.2->c.2 U:=λc _ r _ ai=>by
  unfold EG at ai;split at ai
  .exact ai U (.refl _)
  .obtain⟨_,i,b,_,h2,h3,_⟩:=ai;exact h3 U h2
 refine⟨YN λc hc hle=>?_,⟨by simp[h.len],λj Z hj ht=>?_,λc hc=>?_,λj Z q i ht hu hl hi=>?_⟩⟩
 .rcases h.pend c hc with h1|⟨r,h1,_,h2⟩
  .rw[h.len] at hle;omega
  .exact hr c hc r h1 h2
 .rcases JC ht with⟨_,h1⟩|⟨_,h1⟩
  .exact h.same j Z hj h1
  .exact h1
 .rcases h.pend c hc with h1|h1
  .exact .inl (by omega)
  .exact .inr h1
 .rcases JC ht with⟨_,h1⟩|⟨_,rfl⟩
  .exact h.fr j Z q i h1 hu hl hi
  .rfl
theorem DSt.write {hs:List Heap}{U U':Heap}{pend:List (Nat×(Heap->Prop))}{hl chg:Nat}{A R:List (Nat×Option Nat)}{s s':St}{pl pl':Nat->Value}(h:DSt hs U pend hl chg A R s.own pl) {T:Nat}(hf:Fr T s s' pl pl' U U') {mk ext:Bool}(hm:mk=true->U.Le U')
  (hE:ext=true->(Qf s'.own T).live=true/\pl' T=pl T/\∃ i es c bV c',pl T=.map (some i)/\U.get i=some (.obj (.map es c) true)/\U'.get i=some (.obj (.map bV c') true)/\LkE es bV)
  (hc:((mk&&Lu R hl T)||TX R hl T||(ext&&Q7u R hl T))=true) (aU:0<hl):X5 hs.length U' pend/\DSt (hs++[U']) U' pend (hl+1) hl ((hl-1,some T)::A) R s'.own pl':=by
 have hr:∀ Q:Heap->Prop,∀ r∈R,hl<=r.1->EG U s.own pl Q r.2->EG U' s'.own pl' Q r.2:=λQ r l9 bG ai=>by
  have hq:∀ q,r.2=some q->q / 2=T->q % 2=1/\ext=true:=λq hq e=>by
   subst e;simp only[zy,z8,Lu,TX,Q7u] at hc;rcases hc with (⟨_,hc⟩|hc)|⟨he,hc⟩
   .have:=zf.1 hc r l9;rw[hq] at this;simp only[zy,zR,Nat.beq_refl,xY,zD,or_false] at this;omega
   .have:=zf.1 hc r l9;rw[hq] at this;simp only[zy,zR,Nat.beq_refl,xY,zD,or_false] at this;omega
   .have:=zf.1 hc r l9;rw[hq] at this;simp only[zy,zR,Nat.beq_refl,xY,zD,false_or] at this;rcases this with h|h
    .omega
    .exact⟨zV h,he⟩
  cases e:r.2 with
  |none =>
   rw[e] at ai;have bX:mk=true:=by
    simp only[zy,z8,TX,Q7u] at hc;rcases hc with (⟨hc,_⟩|hc)|⟨_,hc⟩
    .exact hc
    .have:=zf.1 hc r l9;rw[e] at this;simp only[zy,zR,zD,or_false] at this;omega
    .have:=zf.1 hc r l9;rw[e] at this;simp only[zy,zR,zD,or_false] at this;omega
   exactλZ ht=>ai Z ((hm bX).trans ht)
  |some q =>
   rw[e] at ai;obtain⟨k1,i,b,k2,k3,k4⟩:=ai;by_cases oA:q / 2=T
   .obtain⟨ho,he⟩:=hq q e oA;obtain⟨g1,g2,i',es,c,bV,c',g3,g4,g5,g6⟩:=hE he;obtain⟨k5,k6⟩:=k4;obtain⟨vQ,c0,wr,rfl,k7⟩:=k6 ho;rw[oA] at k1 k2;have hi:i=i':=OT (by rw[g3];rfl) k2;subst hi;rw[g4] at k3;cases k3;refine⟨by rw[oA];exact g1,i,_,by rw[oA,g2];exact k2,g5,λZ hτ=>k7 Z _ _ g6 hτ,λ_=>⟨_,_,_,rfl,λZ uu vR hl hτ=>k7 Z _ _ (g6.trans hl) hτ⟩⟩
   .obtain⟨f1,f2,f3⟩:=hf (q / 2) oA;exact⟨by rw[f1];exact k1,i,b,by rw[f2];exact k2,by rw[f3 k1 i k2];exact k3,k4⟩
 have now:∀ Q:Heap->Prop,∀ r,EG U' s'.own pl' Q r->Q U':=λQ r ai=>by
  unfold EG at ai;split at ai
  .exact ai U' (.refl _)
  .obtain⟨_,i,b,_,h2,h3,_⟩:=ai;exact h3 U' h2
 refine⟨YN λc hc hle=>?_,⟨by simp[h.len],λj Z hj ht=>?_,λc hc=>?_,λj Z q i ht hu cC hi=>?_⟩⟩
 .rw[h.len] at hle;rcases h.pend c hc with h1|⟨r,h1,h2,h3⟩
  .omega
  .exact now _ _ (hr _ r h1 (by omega) h3)
 .rcases JC ht with⟨h1,_⟩|⟨_,h1⟩
  .rw[h.len] at h1;omega
  .exact h1
 .rcases h.pend c hc with h1|⟨r,h1,h2,h3⟩
  .exact .inl (by omega)
  .by_cases bG:hl<=r.1
   .exact .inr ⟨r,h1,h2,hr _ r h1 bG h3⟩
   .exact .inl (by omega)
 .rcases JC ht with⟨h1,h2⟩|⟨_,rfl⟩
  .rw[h.len] at h1;obtain⟨⟨t,ht,uv⟩,cD⟩:=Ti hu (by simp only;omega);obtain rfl:=osj ht;obtain⟨f1,f2,f3⟩:=hf q (Ne.symm uv);rw[f1] at cC;rw[f2] at hi;rw[f3 cC i hi];exact h.fr j Z q i h2 cD cC hi
  .rfl
theorem D3 {ts:List Nat}{hl j q:Nat}{A:List (Nat×Option Nat)}(h:Zu (ts.map (λt=>(hl,some t))++A) j q=true) (hj:j<=hl):q∉ts/\Zu A j q=true:=by simp only[Zu,List.all_append,z8] at h |-;refine⟨λhm=>?_,h.2⟩;have:=zf.1 h.1 (hl,some q) (zu.2 ⟨q,hm,rfl⟩);simp only[zy,zR,Nat.beq_refl,xY,zD,or_false] at this;omega
theorem DSt.call {hs:List Heap}{U U':Heap}{pend:List (Nat×(Heap->Prop))}{hl chg:Nat}{A R:List (Nat×Option Nat)}{s s':St}{pl pl':Nat->Value}(h:DSt hs U pend hl chg A R s.own pl) (hle:U.Le U') {Ts:List Nat}(hf:FrL Ts s s' pl pl' U U') (aU:0<hl) :
  X5 hs.length U' pend/\DSt (hs++[U']) U' pend (hl+1) hl (Ts.map (λt=>(hl-1,some t))++A) (R.map λr=>(r.1,none)) s'.own pl':=by
 have hr:∀ Q r,EG U s.own pl Q r->∀ Z,U'.Le Z->Q Z:=λQ r ai Z ht=>by
  unfold EG at ai;split at ai
  .exact ai Z (hle.trans ht)
  .obtain⟨_,i,b,_,h2,h3,_⟩:=ai;exact h3 Z (ht.2 _ _ (hle.2 _ _ h2))
 refine⟨YN λc hc hle=>?_,⟨by simp[h.len],λj Z hj ht=>?_,λc hc=>?_,λj Z q i ht hu cC hi=>?_⟩⟩
 .rcases h.pend c hc with h1|⟨r,h1,_,h2⟩
  .rw[h.len] at hle;omega
  .exact hr _ _ h2 _ (.refl _)
 .rcases JC ht with⟨h1,_⟩|⟨_,h1⟩
  .rw[h.len] at h1;omega
  .exact h1
 .rcases h.pend c hc with h1|⟨r,h1,h2,h3⟩
  .exact .inl (by omega)
  .exact .inr ⟨(r.1,none),zu.2 ⟨r,h1,rfl⟩,h2,hr _ _ h3⟩
 .rcases JC ht with⟨h1,h2⟩|⟨_,rfl⟩
  .rw[h.len] at h1;obtain⟨hq,cD⟩:=D3 hu (by omega);obtain⟨f1,f2,f3⟩:=hf q hq;rw[f1] at cC;rw[f2] at hi;rw[f3 cC i hi];exact h.fr j Z q i h2 cD cC hi
  .rfl
theorem DSt.writeD {hs:List Heap}{U U':Heap}{pend:List (Nat×(Heap->Prop))}{hl chg:Nat}{A R:List (Nat×Option Nat)}{s s':St}{pl pl':Nat->Value}(h:DSt hs U pend hl chg A R s.own pl) {Ts:List Nat}(hf:FrL Ts s s' pl pl' U U') {mk:Bool}(hm:mk=true->U.Le U')
  (hc:Ej mk R hl Ts=true) (aU:0<hl):X5 hs.length U' pend/\DSt (hs++[U']) U' pend (hl+1) hl (Ts.map (λt=>(hl-1,some t))++A) R s'.own pl':=by
 have hr:∀ Q:Heap->Prop,∀ r∈R,hl<=r.1->EG U s.own pl Q r.2->EG U' s'.own pl' Q r.2:=λQ r l9 bG ai=>by
  have l_:=zf.1 hc r l9;have l_:(match r.2 with|some q=>Ts.all (λt=>!(Nat.beq (q / 2) t))|none=>mk)=true:=by rw[zy,zR] at l_;exact l_.resolve_left (by omega)
  cases e:r.2 with
  |none =>rw[e] at ai l_;exactλZ ht=>ai Z ((hm l_).trans ht)
  |some q =>
   rw[e] at ai l_;obtain⟨k1,i,b,k2,k3,k4⟩:=ai;obtain⟨f1,f2,f3⟩:=hf (q / 2) λhq=>by have:=zf.1 l_ (q / 2) hq;simp at this
   exact⟨by rw[f1];exact k1,i,b,by rw[f2];exact k2,by rw[f3 k1 i k2];exact k3,k4⟩
 have now:∀ Q:Heap->Prop,∀ r,EG U' s'.own pl' Q r->Q U':=λQ r ai=>by
  unfold EG at ai;split at ai
  .exact ai U' (.refl _)
  .obtain⟨_,i,b,_,h2,h3,_⟩:=ai;exact h3 U' h2
 refine⟨YN λc hc hle=>?_,⟨by simp[h.len],λj Z hj ht=>?_,λc hc=>?_,λj Z q i ht hu cC hi=>?_⟩⟩
 .rw[h.len] at hle;rcases h.pend c hc with h1|⟨r,h1,h2,h3⟩
  .omega
  .exact now _ _ (hr _ r h1 (by omega) h3)
 .rcases JC ht with⟨h1,_⟩|⟨_,h1⟩
  .rw[h.len] at h1;omega
  .exact h1
 .rcases h.pend c hc with h1|⟨r,h1,h2,h3⟩
  .exact .inl (by omega)
  .by_cases bG:hl<=r.1
   .exact .inr ⟨r,h1,h2,hr _ r h1 bG h3⟩
   .exact .inl (by omega)
 .rcases JC ht with⟨h1,h2⟩|⟨_,rfl⟩
  .rw[h.len] at h1;obtain⟨hq,cD⟩:=D3 hu (by omega);obtain⟨f1,f2,f3⟩:=hf q hq;rw[f1] at cC;rw[f2] at hi;rw[f3 cC i hi];exact h.fr j Z q i h2 cD cC hi
  .rfl
theorem Tt {hl d j q:Nat}{A:List (Nat×Option Nat)}(h:Zu ((hl,none)::A) j q=true):Zu ([d].map (λt=>(hl,some t))++A) j q=true:=by simp only[Zu,zZ,z8,zy,zD,or_false,zG,List.map_nil,xF,xk] at h |-;exact⟨.inl h.1,h.2⟩
theorem DSt.frozen {hs:List Heap}{U:Heap}{pend:List (Nat×(Heap->Prop))}{hl chg m d:Nat}{A R:List (Nat×Option Nat)}{own:Own}{pl:Nat->Value}(h:DSt hs U pend hl chg ([d].map (λt=>(m,some t))++A) R own pl):DSt hs U pend hl chg ((m,none)::A) R own pl :=
 ⟨h.len,h.same,h.pend,λj Z q i ht hu=>h.fr j Z q i ht (Tt hu)⟩
theorem Hd {ts:List Nat}{m j:Nat}{A:List (Nat×Option Nat)}(h:Dp (ts.map (λt=>(m,some t))++A) j=true):Dp A j=true:=by simp only[Dp,List.all_append,z8] at h;exact h.2
theorem Hu {a:Nat×Option Nat}{j:Nat}{A:List (Nat×Option Nat)}(h:Dp (a::A) j=true):Dp A j=true:=by simp only[Dp,zZ,z8] at h;exact h.2
theorem Rn {C:Cx}{f:SV}{args:List SV}{cs:List Prop}{v:SV}(h:I5 C f args=some (cs,v)):∃ c ty k xs nl,Vb C.cs f args=some (c,.lst 0,[.lst ty k xs nl])/\cs=[c,nl=true->xs=[]]/\v=.val (.list k) xs/\k.flat=true/\0<C.nt:=by
 unfold I5 at h;split at h
 .rename_i heq;split at h
  .rename_i k xs nl;cases hc:(k.flat&&Nat.blt 0 C.nt) with
   |false=>rw[hc] at h;cases h
   |true =>rw[hc] at h;obtain⟨rfl,rfl⟩:=Z8 h;simp only[z8,zR] at hc;exact⟨_,_,_,_,_,heq,rfl,rfl,hc.1,hc.2⟩
  .cases h
 .cases h
theorem C7 {b:OB}(h:b.here=true):b.live=true:=by cases b<;>first|rfl|cases h
theorem YV {B F:Heap}{pl:Nat->Value}{tb:Nat->Option Bool}{s:St}{env:Env}{U:Heap}(hG:Gam P B F pl tb s env U) {o:VOp}{q:Nat}(h:NT o (gev [] s.env) s.own=some q) {u:Value}{σ2:Heap}(hv:Qb o (Q6 env) U=some (u,σ2)) :
  (Qf s.own (q / 2)).live=true/\∃ i b,Oid (pl (q / 2)) i/\U.get i=some b/\(∀ Z,Z.get i=some b->Qb o (Q6 env) Z=some (u,Z))/\(q % 2=1->∃ es c wr,b=.obj (.map es c) wr/\∀ Z bV c',LkE es bV->Z.get i=some (.obj (.map bV c') wr)->Qb o (Q6 env) Z=some (u,Z)):=by
 have two:∀ q,2*q / 2=q:=λq=>by omega
 have oB:∀ q,(2*q+1) / 2=q:=λq=>by omega
 have odd:∀ {q} {X:Prop},2*q % 2=1->X:=λ{q X} h=>by omega
 unfold NT at h;split at h
 .rename_i agg size a;have ha:=hG.evs (Gds.nil (tb:=tb)) a;have key:∀ q i off,(Qf s.own q).live=true->Oid (pl q) i->Q6 env a=.pointer (some ⟨i,off,none⟩)->(Qf s.own q).live=true/\∃ i b,Oid (pl q) i/\U.get i=some b/\∀ Z,Z.get i=some b->Qb (.load agg size a) (Q6 env) Z=some (u,Z):=λq i off hl hi he=>by
   simp only[Qb,he] at hv;cases hb:U.get i with
   |none=>rw[hb] at hv;cases hv
   |some b =>
    refine⟨hl,i,b,hi,hb,λZ ht=>?_⟩;rw[hb] at hv;simp only[Qb,he,ht];cases b with
    |obj o wr=>cases hv
    |cells c e wr t =>
     simp only at hv |-;split at hv
     .obtain⟨rfl,rfl⟩:=Z8 hv;rfl
     .cases hv
  split at h
  .rename_i q' off hx;rw[hx] at ha;simp only[SR] at ha;obtain⟨b,h1,h2⟩:=ha;cases hh:(Qf s.own q').here with
   |false=>rw[hh] at h;cases h
   |true =>rw[hh] at h;obtain rfl:=osj h;obtain⟨x1,y1,y2,y3,y4,y5⟩:=key q' b off (C7 hh) (by rw[h1];rfl) h2;exact⟨by rw[two];exact x1,y1,y2,by rw[two];exact y3,y4,y5,odd⟩
  .rename_i q' i off sz hx;rw[hx] at ha;simp only[SR] at ha;obtain⟨b,len,cap,h1,h2,h3,h4⟩:=ha;cases hh:(Qf s.own q').here with
   |false=>rw[hh] at h;cases h
   |true =>rw[hh] at h;obtain rfl:=osj h;obtain⟨x1,y1,y2,y3,y4,y5⟩:=key q' b _ (C7 hh) (by rw[h1];rfl) h4;exact⟨by rw[two];exact x1,y1,y2,by rw[two];exact y3,y4,y5,odd⟩
  .cases h
 .rename_i mk z x y;cases bk:stP mk z with
  |false=>rw[bk] at h;cases h
  |true =>
   rw[bk] at h;simp only[zm] at h;obtain⟨rfl,rfl⟩:=It bk;split at h
   .rename_i q' hx;split at h
    .rename_i kk vk l ho;obtain rfl:=osj h;have ha:=hG.evs (Gds.nil (tb:=tb)) x;rw[hx] at ha;simp only[SR] at ha;have aq:=hG.obj q';rw[ho] at aq;obtain⟨id,es,c,h2,h3,_⟩:=aq;have aF:∀ (Z:Heap) bV c' wr,Z.get id=some (.obj (.map bV c') wr)->Z.mapAt id=some (bV,c',wr):=λZ bV c' wr hτ=>by simp[Heap.mapAt,hτ]
     simp only[Qb,ZA,ha.1,h2,aF _ _ _ _ h3] at hv;refine⟨by rw[oB,ho];rfl,id,_,by rw[oB,h2];rfl,h3,λZ hτ=>?_,λ_=>⟨es,c,true,rfl,λZ bV c' hl hτ=>?_⟩⟩
     .simp only[Qb,ZA,ha.1,h2,aF _ _ _ _ hτ];split at hv
      .rename_i fQ;split at hv
       .rename_i iw;rw[z7 fQ,z7 iw];cases he:Qp (Q6 env y) es with
        |some e=>rw[he] at hv;obtain⟨rfl,rfl⟩:=Z8 hv;rfl
        |none=>rw[he] at hv;obtain⟨rfl,rfl⟩:=Z8 hv;rfl
       .cases hv
      .cases hv
     .simp only[Qb,ZA,ha.1,h2,aF _ _ _ _ hτ];split at hv
      .rename_i fQ;split at hv
       .rename_i iw;rw[z7 fQ,z7 (hl.1 iw)];have b9:=hl.2 iw _ fQ;cases he:Qp (Q6 env y) es with
        |some e =>
         rw[he] at hv b9;obtain⟨rfl,rfl⟩:=Z8 hv;cases hm:Qp (Q6 env y) bV with
         |some e'=>rw[hm] at b9;simp only[Q73] at b9;simp[b9]
         |none=>rw[hm] at b9;simp only[Q73] at b9;simp[<-b9]
        |none =>
         rw[he] at hv b9;obtain⟨rfl,rfl⟩:=Z8 hv;cases hm:Qp (Q6 env y) bV with
         |some e'=>rw[hm] at b9;simp only[Q73] at b9;simp[b9]
         |none=>rfl
       .cases hv
      .cases hv
    .cases h
   .cases h
 .rename_i sz x lo hi;split at h
  .rename_i q' hx;split at h
   .rename_i ty k xs nl ho;cases nl with
    |true=>cases h
    |false =>
     obtain rfl:=osj h;have ha:=hG.evs (Gds.nil (tb:=tb)) x;rw[hx] at ha;simp only[SR] at ha;have aq:=hG.obj q';rw[ho] at aq;rcases aq with⟨h0,_⟩|⟨_,i,cap,c,t,h3,h4,h5,h6,h7⟩
     .cases h0
     .refine⟨by rw[two,ho];rfl,i,_,by rw[two,h3];rfl,h5,λZ hτ=>?_,odd⟩;simp only[Qb,ha.1,h3] at hv |-;cases e1:Jh (Q6 env) lo 0 with
      |none=>rw[e1] at hv;cases hv
      |some a =>
       cases e2:Jh (Q6 env) hi xs.length with
       |none=>rw[e1,e2] at hv;cases hv
       |some b =>
        rw[e1,e2] at hv;simp only[WM,h5] at hv;simp only[WM,hτ];split at hv
        .rename_i dP;rw[z7 dP];obtain⟨rfl,rfl⟩:=Z8 hv;rfl
        .cases hv
   .cases h
  .cases h
 .cases h
theorem M6 {r:Nat}{U:Heap}:∀ {l:List (Nat×(Heap->Prop))},X5 r U l->∀ {c},c∈l->r<=c.1->c.2 U
 |c::l,h,c',hc,hr=>by
  rcases zk.1 hc with rfl|hc
  .exact h.1 hr
  .exact M6 h.2 hc hr
theorem Ms {B F:Heap}{pl:Nat->Value}{tb:Nat->Option Bool}{s:St}{env:Env}{U:Heap}(hG:Gam P B F pl tb s env U) {gs:List Gd}(hg:Gds tb gs) {o:VOp}(h:Q7w o (gev gs s.env)=true) {u:Value}{σ2:Heap}(hv:Qb o (Q6 env) U=some (u,σ2)) :
  ∀ Z,B.Le Z->Qb o (Q6 env) Z=some (u,Z):=by
 unfold Q7w at h;split at h
 .rename_i agg size a;have ha:=hG.evs hg a;have key:∀ i off,(∃ b,B.get i=some b)->Q6 env a=.pointer (some ⟨i,off,none⟩)->∀ Z,B.Le Z->Qb (.load agg size a) (Q6 env) Z=some (u,Z):=λi off ⟨b,hb⟩ he Z hτ=>by
   simp only[Qb,he,hG.leB.2 _ _ hb] at hv;simp only[Qb,he,hτ.2 _ _ hb];cases b with
   |obj o wr=>cases hv
   |cells c e wr t =>
    simp only at hv |-;split at hv
    .obtain⟨rfl,rfl⟩:=Z8 hv;rfl
    .cases hv
  split at h
  .rename_i k l i off hx;rw[hx] at ha;simp only[SR] at ha;obtain⟨b,o,c,e,wr,t,_,_,h3,h4,_⟩:=ha;exact key b _ ⟨_,h3⟩ h4
  .rename_i l off hx;rw[hx] at ha;simp only[SR] at ha;obtain⟨b,c,e,wr,t,h3,h4,_⟩:=ha;exact key b _ ⟨_,h3⟩ h4
  .cases h
 .cases h
theorem OP {C:Cx}{B F:Heap}{pl:Nat->Value}{tb:Nat->Option Bool}{s:St}{env:Env}{U:Heap}(hG:Gam P B F pl tb s env U) {d:Nat}{o:VOp}{K:SV->St->Prop}(h:gn C d o (gev [] s.env) s K) (hc:Ae o=false) :
  ∃ u U' pl' v s',Qb o (Q6 env) U=some (u,U')/\K v s'/\(Gam P B F pl' tb s' env U'/\Fr (QY d o (gev [] s.env)) s s' pl pl' U U')/\SR P B pl' tb v u /\
  (TU o=true->(Qf s'.own (QY d o (gev [] s.env))).live=true/\pl' (QY d o (gev [] s.env))=pl (QY d o (gev [] s.env))/\∃ i es c bV c',pl (QY d o (gev [] s.env))=.map (some i)/\U.get i=some (.obj (.map es c) true)/\U'.get i=some (.obj (.map bV c') true)/\LkE es bV):=by
 cases he:TU o with
 |false =>obtain⟨u,U',pl',v,s',h1,h2,h3,h4⟩:=Q9k hG h hc;exact⟨u,U',pl',v,s',h1,h2,h3,h4,λh=>by cases h⟩
 |true =>
  unfold TU at he;split at he
  .rename_i mk z m kx;obtain⟨rfl,rfl⟩:=It he;obtain⟨u,U',v,s',T,kv,aY,i,es,c,rfl,h1,h2,h3,h4,h5,h6,h7,h8,h9,b7,hU⟩:=PU (hG.evs (Gds.nil (tb:=tb))) hG h;refine⟨u,U',pl,v,s',h1,h2,h3,h4,λ_=>⟨h5,rfl,i,es,c,_,_,h6,h7,h8,?_⟩⟩;have:aY=Q73 (Qp kv es):=by rw[hU];cases Qp kv es<;>rfl
   rw[this];exact O0 h9
  .cases he
def Ju (S:VSpecs):List DOper->Env->List Heap->Heap->List (Nat×(Heap->Prop))->(Env->Heap->Prop)->Prop
 |[],env,_,U,_,K=>K env U
 |o::rest,env,hs,U,pend,K=>Zf (Jm env o.guard) λb =>
   vif b (if o.kind=2 then GP (λR=>vop S o.op env U R) λv U'=>X5 hs.length U' pend/\Ju S rest (Xk env o.dst v) (hs++[U']) U' pend K
     else if o.kind=1 then Zf (Qb o.op (Q6 env) U) λp=>(∀ Z∈hs.drop o.kmin,Xc o.op (Q6 env) p.1 Z) /\
      Ju S rest (Xk env o.dst p.1) hs U (if hs.length<=o.kmax then (o.kmax,Xc o.op (Q6 env) p.1)::pend else pend) K
     else Zf (Qb o.op (Q6 env) U) λp=>Ju S rest (Xk env o.dst p.1) hs U pend K)
    (if o.kind=2 then X5 hs.length U pend/\Ju S rest (Xk env o.dst undef) (hs++[U]) U pend K else Ju S rest (Xk env o.dst undef) hs U pend K)
theorem Pz {α:Type}{o:Option α}{f g:α->Prop}(h:Zf o f) (uw:∀ a,f a->g a):Zf o g:=by
 cases o with
 |none=>exact h.elim
 |some a=>exact uw a h
theorem Y1 {S:VSpecs}{K:Env->Heap->Prop}:∀ {ops:List DOper}{env:Env}{hs:List Heap}{U:Heap}{pend:List (Nat×(Heap->Prop))},Ju S ops env hs U pend K->ZE S ops env hs U pend K
 |[],_,_,_,_,h=>h
 |o::r,env,hs,U,pend,h=>by
  simp only[Ju] at h;simp only[ZE];refine Pz h λb h=>⟨λe=>?_,λe=>?_⟩
  .have h:=h.1 e;split at h
   .rename_i hk;rw[z7 hk];obtain⟨v,U',h1,h2,h3⟩:=h;exact .inl ⟨v,U',h1,h2,Y1 h3⟩
   .rename_i hk;rw[z1 hk];split at h
    .rename_i bp;rw[z7 bp];exact Pz h λp h=>⟨h.1,Y1 h.2⟩
    .rename_i bp;rw[z1 bp];exact Pz h λp h=>Y1 h
  .have h:=h.2 e;split at h
   .rename_i hk;rw[z7 hk];exact⟨h.1,Y1 h.2⟩
   .rename_i hk;rw[z1 hk];exact Y1 h
theorem Qx {C:Cx}(aC:COk P C) (bE:C.xs=[]) {B0 F0 D0:Heap}:∀ (ops:List DOper),(∀ o∈ops,o.kind=o.op.kind)->∀ {s:St}{env:Env}{U:Heap}{B F:Heap}{pl:Nat->Value}{tb:Nat->Option Bool},GBase B0 F0 D0 B F U->Gam P B F pl tb s env U->∀ {hl chg:Nat}{A Rd:List (Nat×Option Nat)}{hs:List Heap}{pend pd:List (Nat×(Heap->Prop))},DSt hs U pd hl chg A Rd s.own pl->(∀ c∈pend,(∀ Z,B.Le Z->c.2 Z)\/c∈pd)->(∀ j Z,hs[j]?=some Z->Dp A j=true->B.Le Z)->chg<=hl->0<hl ->
  ∀ {K:St->Prop},Xx C ops s hl chg A Rd K->∀ {R:Env->Heap->Prop},(∀ s' af U',K s'->GRel P B0 F0 D0 s' af U'->R af U')->Ju (Q5 P) ops env hs U pend R
 |[],_,s,env,U,B,F,pl,tb,hB,hG,_,_,_,_,_,_,_,_,_,_,_,_,K,h,R,hK=>hK s env U h ⟨B,F,pl,tb,hB,hG⟩
 |o0::r,fL,s,env,U,B,F,pl,tb,hB,hG,hl,chg,A,Rd,hs,pend,pd,hD,hp,b_,dW,aU,K,h,R,hK=>by
  have eQ:∀ {n:Nat}{Z:Heap},B.Le Z->X5 n Z pd->X5 n Z pend:=λ{n Z} hb hv=>YN λc hc hn=>(hp c hc).elim (λh=>h Z hb) λh=>M6 hv h hn;have snoc:∀ {Z:Heap}{A':List (Nat×Option Nat)},B.Le Z->(∀ j,Dp A' j=true->Dp A j=true)->∀ j Z',(hs++[Z])[j]?=some Z'->Dp A' j=true->B.Le Z':=λ{Z A'} hb hA j Z' hm hn=>by
   rcases JC hm with⟨_,h1⟩|⟨_,rfl⟩
   .exact b_ j Z' h1 (hA j hn)
   .exact hb
  have cw:∀ o∈r,o.kind=o.op.kind:=λo' eW=>fL o' (zi _ eW);have ma:=fL o0 zl;unfold Xx at h;split at h
  .rename_i bk;have hw:=Kx hG bk;simp only[Ju];rw[hw];refine⟨λe=>(by cases e),λ_=>?_⟩;have bq:=hG.put o0.dst (show SR P B pl tb .any undef by simp[SR]);by_cases av:o0.kind=2
   .rw[z7 av] at h |-;obtain⟨k1,k2⟩:=hD.stay;exact⟨eQ hG.leB k1,Qx aC bE r cw hB bq (by rw[Zs];exact k2) hp (snoc hG.leB λ_ h=>h) (by omega) (by omega) h hK⟩
   .rw[z1 av] at h |-;exact Qx aC bE r cw hB bq (by rw[Zs];exact hD) hp b_ dW aU h hK
  have bR:(F3 s.env o0).kind=(F3 s.env o0).op.kind:=by unfold F3;split<;>exact ma
  have dI:Ju (Q5 P) (F3 s.env o0::r) env hs U pend R->Ju (Q5 P) (o0::r) env hs U pend R:=λhv=>by
   unfold F3 at hv;split at hv
   .rename_i bk;simp only[Ju] at hv |-;rw[Kx hG bk];exact hv
   .exact hv
  refine dI ?_;clear dI;generalize F3 s.env o0=o at h bR |-
  replace h:=id h
  simp only[Ju];by_cases av:o.kind=2
  .rw[z7 av] at h
   have fin:∀ {u:Value}{U':Heap}{ts:List Nat}{v:SV}{s':St}{pl':Nat->Value},(∀ R',R' u U'->vop (Q5 P) o.op env U R')->Xx C r (s'.put o.dst v) (hl+1) (bif ts.isEmpty then chg else hl) (ts.map (λt=>(hl-1,some t))++A) (bif ts.isEmpty then Rd else Rd.map λr=>(r.1,none)) K->Gam P B F pl' tb s' env U'->SR P B pl' tb v u->(ts=[]->U'=U/\pl'=pl/\s'=s)->U.Le U'->Dead U U'->FrL ts s s' pl pl' U U' ->
     GP (λR=>vop (Q5 P) o.op env U R) λv U'=>X5 hs.length U' pend/\Ju (Q5 P) r (Xk env o.dst v) (hs++[U']) U' pend R:=λ{u U' ts v s' pl'} bJ oC bw jB he hle hd cR=>by
    cases ts with
    |nil =>obtain⟨rfl,rfl,rfl⟩:=he rfl;obtain⟨k1,k2⟩:=hD.stay;exact⟨u,U',bJ _ ⟨rfl,rfl⟩,eQ bw.leB k1,Qx aC bE r cw (Mz hB hd) (bw.put o.dst jB) (by rw[Zs];exact k2) hp (snoc bw.leB λ_ h=>h) (by simp only[List.isEmpty,zm] at *;omega) (by omega) oC hK⟩
    |cons t ts =>obtain⟨k1,k2⟩:=hD.call hle cR aU;exact⟨u,U',bJ _ ⟨rfl,rfl⟩,eQ bw.leB k1,Qx aC bE r cw (Mz hB hd) (bw.put o.dst jB) (by rw[Zs];exact k2) hp (snoc bw.leB λ_ h=>Hd h) (by simp only[List.isEmpty,zW] at *;omega) (by omega) oC hK⟩
   split at h
   .rename_i f args bJ;split at h
    .rename_i hg;rw[hg];refine⟨λ_=>?_,λe=>by cases e⟩;rw[z7 av];rw[bE] at h;simp only[QO] at h;obtain⟨g,a,b,u,U',e,v,s',pl',h1,h2,h3,h4,h5,h6,h7,h8,h9⟩:=W6 aC hG h (show SR P U X1 J3 (.fn f [] []) (.func (.func f) #[] #[]) by simp only[SR,SRs];exact⟨[],[],rfl,rfl,rfl⟩) (hG.gcall Gds.nil args);obtain⟨rfl,rfl,rfl⟩:=(by simpa using h1:f=g/\#[]=a/\#[]=b);refine fin (u:=u) (U':=U') (λR' hr=>?_) h3 h4 h5 h6 h7 h8 h9;rw[bJ];show VCalled P f (args.map (Q6 env)) U R';have:=h2.mono (R':=R') λu' aH ⟨e1,e2⟩=>by subst e1;subst e2;exact hr
     simpa using this
    .rename_i j want hg;rw[hg];split at h
     .exact h.elim
     .rename_i gs s1 eo;obtain⟨tb',bw,cU,b,hw,br,bB⟩:=W4 hG eo;have aJ:=K2 eo;rw[hw];split at h
      .rename_i cs v dH;cases cJ:V8 v with
       |false=>rw[cJ] at h;exact h.elim
       |true =>
       rw[cJ] at h;simp only[zm] at h;obtain⟨h1,h2⟩:=ZD h;obtain⟨k1,k2⟩:=hD.stay;have l7:∀ x,DSt (hs++[U]) U pd (hl+1) chg A Rd (s1.put o.dst x).own pl:=λx=>by rw[Zs,aJ];exact k2
       refine⟨λe=>?_,λe=>?_⟩
       .rw[z7 av];have gU:Gds tb' gs:=λg hg=>⟨br e g hg,cU g hg⟩;have mb:∀ {v u},SR P B pl tb' v u->SR P B pl tb' (.grd gs (Dr v)) u:=λ{v u} hs=>by
         simp only[SR];obtain⟨h1,h2⟩:=Hj hs;exact⟨⟨cU,h2⟩,λ_=>h1,λ⟨g,hg,az⟩=>absurd (br e g hg) az⟩
        simp only[gqc] at dH;split at dH
        .rename_i c v' heq;cases cK:v'.ret 0 with
         |false=>rw[cK] at dH;cases dH
         |true =>
          rw[cK] at dH;obtain⟨rfl,rfl⟩:=Z8 dH;obtain⟨g,a,b',h3,h4,_⟩:=J0 aC.cs (show SR P U X1 J3 (.fn f [] []) (.func (.func f) #[] #[]) by simp only[SR,SRs];exact⟨[],[],rfl,rfl,rfl⟩) (bw.gcall gU args) heq cK rfl (h2 (br e) _ (by simp));obtain⟨rfl,rfl,rfl⟩:=(by simpa using h3:f=g/\#[]=a/\#[]=b');refine⟨Vf X1 v',U,?_,eQ hG.leB k1,Qx aC bE r cw hB (bw.put o.dst (mb ?_)) (l7 _) hp (snoc hG.leB λ_ h=>h) (by omega) (by omega) (Zw h1) hK⟩
          .rw[bJ];show VCalled P f (args.map (Q6 env)) U _;have:=h4.mono (R':=λu U'=>u=Vf X1 v'/\U'=U) λu U' hr=>by
            obtain⟨rfl,hu⟩:=hr.flat cK;exact⟨Vn v' u cK cJ hu,rfl⟩
           simpa using this
          .exact SR.retd (λj hj=>by omega) _ _ cK (RF (P:=P) (pl:=X1) (m:=0) (λj hj=>by omega) v' cK cJ)
        .cases dH
       .rw[z7 av];obtain⟨g,dL,az⟩:=bB e;exact⟨eQ hG.leB k1,Qx aC bE r cw hB (bw.put o.dst (by simp only[SR];exact⟨⟨cU,H8 v⟩,λae=>absurd (ae g dL) az,λ_=>trivial⟩)) (l7 _) hp (snoc hG.leB λ_ h=>h) (by omega) (by omega) (Zw h1) hK⟩
      .split at h
       .rename_i cs v kY;obtain⟨c,ty,k,xs,nl,heq,rfl,rfl,hk,eA⟩:=Rn kY;obtain⟨h1,h2⟩:=ZD h;have frz:∀ {B' U':Heap},B'.Le U'->∀ j Z',(hs++[U'])[j]?=some Z'->Dp ((hl-1,none)::A) j=true->B'.Le Z':=λ{B' U'} hb j Z' hm hn=>by
         rcases JC hm with⟨h1,_⟩|⟨_,rfl⟩
         .simp only[Dp,zZ,z8,zy,zR,Option.isSome_none,zD,or_false] at hn;have:=hD.len;omega
         .exact hb
        refine⟨λe=>?_,λe=>?_⟩
        .rw[z7 av];have gU:Gds tb' gs:=λg hg=>⟨br e g hg,cU g hg⟩;have fQ:=h2 (br e) c (by simp);have iw:=h2 (br e) (nl=true->xs=[]) (by simp);have eo:MI C (C.off+o.dst.getD 0) (.fn f [] []) (BM s1.own (args.map (gev gs s1.env))) s1 (λts v' s'=>ts=[C.off+o.dst.getD 0]/\v'=.lst (C.off+o.dst.getD 0)/\s'=s1.make (C.off+o.dst.getD 0) (.lst ty k xs nl)):=by
          unfold MI;rw[heq];dsimp only;have aj:(SV.ret [OB.lst ty k xs nl].length (.lst 0)&&([OB.lst ty k xs nl].all OB.ret&&(Nat.blt 0 C.nt&&([OB.lst ty k xs nl].all OB.isL&&V8 (.lst 0)))))=true:=by simp only[SV.ret,xq,zZ,List.all_nil,xT,OB.ret,hk,Bool.true_and,OB.isL,V8];rw[z8];exact⟨rfl,by rw[zR];exact eA⟩
          rw[aj];simp only[zm,IB,OB.wf];refine⟨fQ,iw,?_,?_,?_⟩
          .simp[List.range_succ]
          .simp[SV.ren]
          .simp[St.makes]
         obtain⟨g,a,b',u,U',ts,v',s',pl',h3,h4,⟨rfl,rfl,rfl⟩,h5,h6,_,h7,h8,h9⟩:=W6 aC bw eo (show SR P U X1 J3 (.fn f [] []) (.func (.func f) #[] #[]) by simp only[SR,SRs];exact⟨[],[],rfl,rfl,rfl⟩) (bw.gcall gU args);obtain⟨rfl,rfl,rfl⟩:=(by simpa using h3:f=g/\#[]=a/\#[]=b');obtain⟨B',F',m1,m2,m3⟩:=RN bw.bf hk h5 h6 h8;have cR:FrL [C.off+o.dst.getD 0] s ((s1.make (C.off+o.dst.getD 0) .dead).put o.dst (.grd gs (.val (.list k) xs))) pl pl' U U':=λq hq=>by obtain⟨f1,f2,f3⟩:=h9 q hq;rw[aJ] at f3;refine⟨?_,f2,f3⟩;rw[Zs,VK _ _ _ (by simpa using hq),aJ]
         obtain⟨k1,k2⟩:=hD.call h7 cR aU;refine⟨u,U',?_,eQ (m1.b.trans m2.leB) k1,Qx aC bE r cw (hB.trans m1) (m2.put o.dst ?_) k2.frozen (λc hc=>(hp c hc).imp (λh Z hτ=>h Z (m1.b.trans hτ)) id) (frz m2.leB) (by omega) (by omega) h1 hK⟩
         .rw[bJ];show VCalled P f (args.map (Q6 env)) U _;simpa using h4
         .simp only[SR];exact⟨⟨cU,trivial⟩,λ_=>m3,λ⟨g,hg,az⟩=>absurd (br e g hg) az⟩
        .rw[z7 av];obtain⟨g,dL,az⟩:=bB e;have cR:FrL [C.off+o.dst.getD 0] s ((s1.make (C.off+o.dst.getD 0) .dead).put o.dst (.grd gs (.val (.list k) xs))) pl (JN pl (C.off+o.dst.getD 0) undef) U U:=λq hq=>by
          have cF:q≠C.off+o.dst.getD 0:=by simpa using hq
          refine⟨?_,by simp[JN,cF],λ_ _ _=>rfl⟩;rw[Zs,VK _ _ _ cF,aJ]
         obtain⟨k1,k2⟩:=hD.call (.refl U) cR aU;refine⟨eQ hG.leB k1,Qx aC bE r cw hB ((bw.make (C.off+o.dst.getD 0) .dead undef bw.le (λ_ _ _ _ _=>rfl) trivial (λi hl _=>by cases hl)).put o.dst ?_) k2.frozen hp (frz hG.leB) (by omega) (by omega) h1 hK⟩;simp only[SR];exact⟨⟨cU,trivial⟩,λae=>absurd (ae g dL) az,λ_=>trivial⟩
       .exact h.elim
   .rename_i f args bJ;split at h
    .rename_i hg;rw[hg];refine⟨λ_=>?_,λe=>by cases e⟩;rw[z7 av];obtain⟨g,a,b,u,U',e,v,s',pl',h1,h2,h3,h4,h5,h6,h7,h8,h9⟩:=W6 aC hG h (hG.gfun Gds.nil f) (hG.gcall Gds.nil args);refine fin (u:=u) (U':=U') (λR' hr=>?_) h3 h4 h5 h6 h7 h8 h9;rw[bJ];exact NL h1 (h2.mono (R':=R') λu' aH ⟨e1,e2⟩=>by subst e1;subst e2;exact hr)
    .exact h.elim
   .exact h.elim
   .exact h.elim
   .rename_i qM nE qN jY;split at h
    .rename_i hg;rw[hg];refine⟨λ_=>?_,λe=>by cases e⟩;rw[z7 av];have aD:Ae o.op=false:=by
      cases ho:o.op<;>first|rfl|(exact absurd ho (qM _ _))|(exact absurd ho (nE _ _))|skip
      case ext x=>cases x<;>first|rfl|(exact absurd ho (qN _))|(exact absurd ho (jY _))
     cases kX:C5 C (o.dst.getD 0) o.op (gev [] s.env) with
     |true =>
      rw[kX] at h;simp only[zm] at h;cases hm:Ej (HK o.op) Rd hl (Lb (C.off+o.dst.getD 0) o.op (gev [] s.env)) with
      |false=>rw[hm] at h;exact h.elim
      |true =>
       rw[hm] at h;simp only[zm] at h;obtain⟨u,U',pl',v,s',h1,h2,⟨h3,kV⟩,h4⟩:=Hp (λx=>hG.evs (Gds.nil (tb:=tb)) x) hG h;have gG:∀ R',R' u U'->vop (Q5 P) o.op env U R':=λR' hr=>by
        have:vop (Q5 P) o.op env U R'=Zf (Qb o.op (Q6 env) U) λp=>R' p.1 p.2:=by
         cases ho:o.op with
         |callF f a=>rw[ho] at aD;cases aD
         |callV f a=>rw[ho] at aD;cases aD
         |ext x =>
          cases x with
          |nextMap y=>rw[ho] at h1;cases h1
          |_=>rfl
         |_=>rfl
        rw[this,h1];exact hr
       obtain⟨k1,k2⟩:=hD.writeD kV (λbX=>Rr bX h1) hm aU;exact⟨u,U',gG _ ⟨rfl,rfl⟩,eQ h3.leB k1,Qx aC bE r cw (Mz hB (Kc h1)) (h3.put o.dst h4) (by rw[Zs];exact k2) hp (snoc h3.leB λ_ h=>Hd h) (by omega) (by omega) h2 hK⟩
     |false =>
     rw[kX] at h;simp only[zW] at h;cases hm:((HK o.op&&Lu Rd hl (QY (C.off+o.dst.getD 0) o.op (gev [] s.env)))||TX Rd hl (QY (C.off+o.dst.getD 0) o.op (gev [] s.env))||(TU o.op&&Q7u Rd hl (QY (C.off+o.dst.getD 0) o.op (gev [] s.env)))) with
     |false=>rw[hm] at h;exact h.elim
     |true =>
      rw[hm] at h;simp only[zm] at h;obtain⟨u,U',pl',v,s',h1,h2,⟨h3,kV⟩,h4,hE⟩:=OP hG h aD;have gG:∀ R',R' u U'->vop (Q5 P) o.op env U R':=λR' hr=>by
       have:vop (Q5 P) o.op env U R'=Zf (Qb o.op (Q6 env) U) λp=>R' p.1 p.2:=by
        cases ho:o.op with
        |callF f a=>rw[ho] at aD;cases aD
        |callV f a=>rw[ho] at aD;cases aD
        |ext x =>
         cases x with
         |nextMap y=>rw[ho] at h1;cases h1
         |_=>rfl
        |_=>rfl
       rw[this,h1];exact hr
      obtain⟨k1,k2⟩:=hD.write kV (λbX=>Rr bX h1) hE hm aU;exact⟨u,U',gG _ ⟨rfl,rfl⟩,eQ h3.leB k1,Qx aC bE r cw (Mz hB (Kc h1)) (h3.put o.dst h4) (by rw[Zs];exact k2) hp (snoc h3.leB λ_ h=>Hu h) (by omega) (by omega) h2 hK⟩
    .exact h.elim
  .rw[z1 av] at h;have mc:o.op.kind≠2:=by rw[<-bR];exact av
   by_cases bp:o.kind=1
   .rw[z7 bp] at h
    have rd:∀ (rq:Option Nat),(∀ q,rq=some q->NT o.op (gev [] s.env) s.own=some q)->(Nat.ble chg o.kmin||Pr A o.kmin rq)=true->gd1 C o s (λs'=>Xx C r s' hl chg A ((o.kmax,rq)::Rd) K) ->
      Zf (Jm env o.guard) λb=>vif b (if o.kind=2 then GP (λR=>vop (Q5 P) o.op env U R) λv U'=>X5 hs.length U' pend/\Ju (Q5 P) r (Xk env o.dst v) (hs++[U']) U' pend R
       else if o.kind=1 then Zf (Qb o.op (Q6 env) U) λp=>(∀ Z∈hs.drop o.kmin,Xc o.op (Q6 env) p.1 Z) /\
        Ju (Q5 P) r (Xk env o.dst p.1) hs U (if hs.length<=o.kmax then (o.kmax,Xc o.op (Q6 env) p.1)::pend else pend) R
       else Zf (Qb o.op (Q6 env) U) λp=>Ju (Q5 P) r (Xk env o.dst p.1) hs U pend R)
      (if o.kind=2 then X5 hs.length U pend/\Ju (Q5 P) r (Xk env o.dst undef) (hs++[U]) U pend R else Ju (Q5 P) r (Xk env o.dst undef) hs U pend R):=λrq oD hc h=>by
     obtain⟨b,hw,h1,h2⟩:=VE hG h;rw[hw];have me:DSt hs U pd hl chg A ((o.kmax,rq)::Rd) s.own pl:=⟨hD.len,hD.same,λc hc=>(hD.pend c hc).imp id λ⟨r,k1,k2⟩=>⟨r,zi _ k1,k2⟩,hD.fr⟩;refine⟨λe=>?_,λe=>?_⟩
     .obtain⟨u,s',tb',h3,h4,aJ,h5⟩:=h1 e;rw[z1 av,z7 bp,h3];refine⟨λZ hτ=>?_,?_⟩
      .obtain⟨j,hj⟩:=xp.1 hτ;rw[zH] at hj;rw[zy] at hc;rcases hc with hc|hc
       .have:=hD.same (o.kmin+j) Z (by have:=zM hc;omega) hj;subst this;exact Z_ h3
       .unfold Pr at hc;split at hc
        .rename_i q;obtain⟨k1,i,bl,k2,k3,k4,k5⟩:=YV hG (oD q rfl) h3;have hu:Zu A (o.kmin+j) (q / 2)=true:=by
          simp only[Zu,zf,zy,zR] at hc |-;exactλa ha=>(hc a ha).imp (λh=>by omega) id
         have:=hD.fr (o.kmin+j) Z (q / 2) i hj hu k1 k2;exact Z_ (k4 Z (by rw[this];exact k3))
        .cases hc
      .by_cases hle:hs.length<=o.kmax
       .rw[z7 hle];refine Qx aC bE r cw hB h5 (A:=A) (Rd:=(o.kmax,rq)::Rd) (hl:=hl) (chg:=chg) (pd:=(o.kmax,Xc o.op (Q6 env) u)::pd) ?_ (λc hc=>?_) b_ dW aU h4 hK
        .rw[aJ];refine⟨hD.len,hD.same,λc hc=>?_,hD.fr⟩;rcases zk.1 hc with rfl|hc
         .refine .inr ⟨_,zl,ze _,?_⟩;cases rq with
          |none=>exactλZ hτ=>Z_ (Ps mc h3 hτ)
          |some q =>obtain⟨k1,i,bl,k2,k3,k4,k5⟩:=YV hG (oD q rfl) h3;exact⟨k1,i,bl,k2,k3,λZ ht=>Z_ (k4 Z ht),λho=>(let ⟨es,c,wr,x1,x2⟩:=k5 ho;⟨es,c,wr,x1,λZ bV c' hl ht=>Z_ (x2 Z bV c' hl ht)⟩)⟩
         .exact me.pend c hc
        .rcases zk.1 hc with rfl|hc
         .exact .inr zl
         .exact(hp c hc).imp id λh=>zi _ h
       .rw[z1 hle];exact Qx aC bE r cw hB h5 (A:=A) (Rd:=(o.kmax,rq)::Rd) (hl:=hl) (chg:=chg) (pd:=pd) (by rw[aJ];exact me) hp b_ dW aU h4 hK
     .obtain⟨s',tb',h4,aJ,h5⟩:=h2 e;rw[z1 av];exact Qx aC bE r cw hB h5 (by rw[aJ];exact me) hp b_ dW aU h4 hK
    have ro:Dp A o.kmin=true->(∀ u,Qb o.op (Q6 env) U=some (u,U)->(Jm env o.guard=some true)->∀ Z,B.Le Z->Qb o.op (Q6 env) Z=some (u,Z))->gd1 C o s (λs'=>Xx C r s' hl chg A Rd K) ->
      Zf (Jm env o.guard) λb=>vif b (if o.kind=2 then GP (λR=>vop (Q5 P) o.op env U R) λv U'=>X5 hs.length U' pend/\Ju (Q5 P) r (Xk env o.dst v) (hs++[U']) U' pend R
       else if o.kind=1 then Zf (Qb o.op (Q6 env) U) λp=>(∀ Z∈hs.drop o.kmin,Xc o.op (Q6 env) p.1 Z) /\
        Ju (Q5 P) r (Xk env o.dst p.1) hs U (if hs.length<=o.kmax then (o.kmax,Xc o.op (Q6 env) p.1)::pend else pend) R
       else Zf (Qb o.op (Q6 env) U) λp=>Ju (Q5 P) r (Xk env o.dst p.1) hs U pend R)
      (if o.kind=2 then X5 hs.length U pend/\Ju (Q5 P) r (Xk env o.dst undef) (hs++[U]) U pend R else Ju (Q5 P) r (Xk env o.dst undef) hs U pend R):=λjZ bO h=>by
     obtain⟨b,hw,h1,h2⟩:=VE hG h;rw[hw];refine⟨λe=>?_,λe=>?_⟩
     .obtain⟨u,s',tb',h3,h4,aJ,h5⟩:=h1 e;have bO:=bO u h3 (by rw[hw,e]);rw[z1 av,z7 bp,h3];refine⟨λZ hτ=>?_,?_⟩
      .obtain⟨j,hj⟩:=xp.1 hτ;rw[zH] at hj;refine Z_ (bO Z (b_ _ Z hj ?_));simp only[Dp,zf,zy,zR] at jZ |-;exactλa ha=>(jZ a ha).imp (λh=>by omega) id
      refine Qx aC bE r cw hB h5 (A:=A) (Rd:=Rd) (hl:=hl) (chg:=chg) (pd:=pd) (by rw[aJ];exact hD) (λc hc=>?_) b_ dW aU h4 hK;split at hc
      .rcases zk.1 hc with rfl|hc
       .exact .inl λZ hτ=>Z_ (bO Z hτ)
       .exact hp c hc
      .exact hp c hc
     .obtain⟨s',tb',h4,aJ,h5⟩:=h2 e;rw[z1 av];exact Qx aC bE r cw hB h5 (by rw[aJ];exact hD) hp b_ dW aU h4 hK
    split at h
    .rename_i hg;cases hr:(Q7w o.op (gev [] s.env)&&Dp A o.kmin) with
     |true =>rw[hr] at h;rw[z8] at hr;exact ro hr.2 (λu hu _=>Ms hG Gds.nil hr.1 hu) h
     |false =>
     rw[hr] at h;simp only[zW] at h;cases hb:(Nat.ble chg o.kmin||Pr A o.kmin (NT o.op (gev [] s.env) s.own)) with
     |false=>rw[hb] at h;exact h.elim
     |true =>rw[hb] at h;exact rd _ (λq hq=>hq) hb h
    .rename_i j want hg;cases hr:(Od s j want o.op&&Dp A o.kmin) with
     |true =>
      rw[hr] at h;rw[z8] at hr;obtain⟨hr,jZ⟩:=hr;refine ro jZ (λu hu hw=>?_) h;unfold Od at hr;split at hr
      .rename_i gs s1 eo;obtain⟨tb',bw,cU,b,dq,br,bB⟩:=W4 hG eo;rw[hg,dq] at hw;have e:=osj hw;exact Ms bw (λg hg=>⟨br e g hg,cU g hg⟩) hr hu
      .cases hr
     |false =>
     rw[hr] at h;simp only[zW] at h;cases hb:Nat.ble chg o.kmin with
     |false=>rw[hb] at h;exact h.elim
     |true =>rw[hb] at h;exact rd none (λq hq=>by cases hq) (by rw[hb];rfl) h
   .rw[z1 bp] at h;obtain⟨b,hw,h1,h2⟩:=VE hG h;rw[hw];refine⟨λe=>?_,λe=>?_⟩
    .obtain⟨u,s',tb',h3,h4,aJ,h5⟩:=h1 e;rw[z1 av,z1 bp,h3];exact Qx aC bE r cw hB h5 (by rw[aJ];exact hD) hp b_ dW aU h4 hK
    .obtain⟨s',tb',h4,aJ,h5⟩:=h2 e;rw[z1 av];exact Qx aC bE r cw hB h5 (by rw[aJ];exact hD) hp b_ dW aU h4 hK
theorem Qy {C:Cx}(aC:COk P C) {B0 F0 D0:Heap}:∀ (ops:List DOper),(∀ o∈ops,o.kind=o.op.kind)->∀ {s:St}{env:Env}{U:Heap}{B F:Heap}{pl:Nat->Value}{tb:Nat->Option Bool},GBase B0 F0 D0 B F U->Gam P B F pl tb s env U->∀ {hl chg:Nat}{A Rd:List (Nat×Option Nat)}{hs:List Heap}{pend pd:List (Nat×(Heap->Prop))},DSt hs U pd hl chg A Rd s.own pl->(∀ c∈pend,(∀ Z,B.Le Z->c.2 Z)\/c∈pd)->(∀ j Z,hs[j]?=some Z->Dp A j=true->B.Le Z)->chg<=hl->0<hl ->
  ∀ {K:St->Prop},Xx C ops s hl chg A Rd K->∀ {R:Env->Heap->Prop},(∀ s' af U',K s'->GRel P B0 F0 D0 s' af U'->R af U')->ZE (Q5 P) ops env hs U pend R
 |[],_,s,env,U,B,F,pl,tb,hB,hG,_,_,_,_,_,_,_,_,_,_,_,_,K,h,R,hK=>hK s env U h ⟨B,F,pl,tb,hB,hG⟩
 |o0::r,fL,s,env,U,B,F,pl,tb,hB,hG,hl,chg,A,Rd,hs,pend,pd,hD,hp,b_,dW,aU,K,h,R,hK=>by
  have eQ:∀ {n:Nat}{Z:Heap},B.Le Z->X5 n Z pd->X5 n Z pend:=λ{n Z} hb hv=>YN λc hc hn=>(hp c hc).elim (λh=>h Z hb) λh=>M6 hv h hn;have snoc:∀ {Z:Heap}{A':List (Nat×Option Nat)},B.Le Z->(∀ j,Dp A' j=true->Dp A j=true)->∀ j Z',(hs++[Z])[j]?=some Z'->Dp A' j=true->B.Le Z':=λ{Z A'} hb hA j Z' hm hn=>by
   rcases JC hm with⟨_,h1⟩|⟨_,rfl⟩
   .exact b_ j Z' h1 (hA j hn)
   .exact hb
  have cw:∀ o∈r,o.kind=o.op.kind:=λo' eW=>fL o' (zi _ eW);have ma:=fL o0 zl;unfold Xx at h;split at h
  .rename_i bk;have hw:=Kx hG bk;simp only[ZE];rw[hw];refine⟨λe=>(by cases e),λ_=>?_⟩;have bq:=hG.put o0.dst (show SR P B pl tb .any undef by simp[SR]);by_cases av:o0.kind=2
   .rw[z7 av] at h |-;obtain⟨k1,k2⟩:=hD.stay;exact⟨eQ hG.leB k1,Qy aC r cw hB bq (by rw[Zs];exact k2) hp (snoc hG.leB λ_ h=>h) (by omega) (by omega) h hK⟩
   .rw[z1 av] at h |-;exact Qy aC r cw hB bq (by rw[Zs];exact hD) hp b_ dW aU h hK
  have bR:(F3 s.env o0).kind=(F3 s.env o0).op.kind:=by unfold F3;split<;>exact ma
  have dI:ZE (Q5 P) (F3 s.env o0::r) env hs U pend R->ZE (Q5 P) (o0::r) env hs U pend R:=λhv=>by
   unfold F3 at hv;split at hv
   .rename_i bk;simp only[ZE] at hv |-;rw[Kx hG bk];exact hv
   .exact hv
  refine dI ?_;clear dI;generalize F3 s.env o0=o at h bR |-
  replace h:=id h
  simp only[ZE];by_cases av:o.kind=2
  .rw[z7 av] at h
   have fin:∀ {u:Value}{U':Heap}{ts:List Nat}{v:SV}{s':St}{pl':Nat->Value},(∀ R',R' u U'->vop (Q5 P) o.op env U R')->Xx C r (s'.put o.dst v) (hl+1) (bif ts.isEmpty then chg else hl) (ts.map (λt=>(hl-1,some t))++A) (bif ts.isEmpty then Rd else Rd.map λr=>(r.1,none)) K->Gam P B F pl' tb s' env U'->SR P B pl' tb v u->(ts=[]->U'=U/\pl'=pl/\s'=s)->U.Le U'->Dead U U'->FrL ts s s' pl pl' U U' ->
     GP (λR=>vop (Q5 P) o.op env U R) λv U'=>X5 hs.length U' pend/\ZE (Q5 P) r (Xk env o.dst v) (hs++[U']) U' pend R:=λ{u U' ts v s' pl'} bJ oC bw jB he hle hd cR=>by
    cases ts with
    |nil =>obtain⟨rfl,rfl,rfl⟩:=he rfl;obtain⟨k1,k2⟩:=hD.stay;exact⟨u,U',bJ _ ⟨rfl,rfl⟩,eQ bw.leB k1,Qy aC r cw (Mz hB hd) (bw.put o.dst jB) (by rw[Zs];exact k2) hp (snoc bw.leB λ_ h=>h) (by simp only[List.isEmpty,zm] at *;omega) (by omega) oC hK⟩
    |cons t ts =>obtain⟨k1,k2⟩:=hD.call hle cR aU;exact⟨u,U',bJ _ ⟨rfl,rfl⟩,eQ bw.leB k1,Qy aC r cw (Mz hB hd) (bw.put o.dst jB) (by rw[Zs];exact k2) hp (snoc bw.leB λ_ h=>Hd h) (by simp only[List.isEmpty,zW] at *;omega) (by omega) oC hK⟩
   split at h
   .rename_i f args bJ;split at h
    .rename_i hg;rw[hg];refine⟨λ_=>?_,λe=>by cases e⟩;rw[z7 av]
     have oE:∀ {K':List Nat->SV->St->Prop},MI C (C.off+o.dst.getD 0) (.fn f [] []) (BM s.own (args.map (gev [] s.env))) s K'->(∀ ts v s',K' ts v s'->Xx C r (s'.put o.dst v) (hl+1) (bif ts.isEmpty then chg else hl) (ts.map (λt=>(hl-1,some t))++A) (bif ts.isEmpty then Rd else Rd.map λr=>(r.1,none)) K) ->
       GP (λR=>vop (Q5 P) o.op env U R) λv U'=>X5 hs.length U' pend/\ZE (Q5 P) r (Xk env o.dst v) (hs++[U']) U' pend R:=λ{K'} h qO=>by
      obtain⟨g,a,b,u,U',e,v,s',pl',h1,h2,h3,h4,h5,h6,h7,h8,h9⟩:=W6 aC hG h (show SR P U X1 J3 (.fn f [] []) (.func (.func f) #[] #[]) by simp only[SR,SRs];exact⟨[],[],rfl,rfl,rfl⟩) (hG.gcall Gds.nil args);obtain⟨rfl,rfl,rfl⟩:=(by simpa using h1:f=g/\#[]=a/\#[]=b);refine fin (u:=u) (U':=U') (λR' hr=>?_) (qO _ _ _ h3) h4 h5 h6 h7 h8 h9;rw[bJ];show VCalled P f (args.map (Q6 env)) U R';have:=h2.mono (R':=R') λu' aH ⟨e1,e2⟩=>by subst e1;subst e2;exact hr
      simpa using this
     split at h
     .rename_i x hx;split at h
      .rename_i jf ux;split at h
       .rename_i tt uy;cases gY:(waits o.dst.toList r&&Ej false Rd hl [tt]) with
        |false=>rw[gY] at h;exact h.elim
        |true =>rw[gY] at h;simp only[zm] at h;rw[z8] at gY;refine .inr ⟨gY.1,?_⟩;rw[bJ];show VCalled P f (args.map (Q6 env)) U _;refine aC.xf f jf ux x hx B F pl tb s env U _ _ _ _ _ tt hG (SRs.map λx _=>hG.evs Gds.nil x) uy h λv s' u U' k1 k2 k3 k4 k5=>?_;obtain⟨q1,q2⟩:=hD.writeD k5 (mk:=false) (λh=>by cases h) gY.2 aU;exact⟨eQ k3.leB q1,Qy aC r cw (Mz hB k2) (k3.put o.dst k4) (by rw[Zs];exact q2) hp (snoc k3.leB λ_ h=>Hu h) (by omega) (by omega) k1 hK⟩
       .exact h.elim
      .cases gY:(waits o.dst.toList r&&Rd.all (λq=>Nat.blt q.1 hl)) with
       |false=>rw[gY] at h;simp only[zW] at h;exact .inl (oE h λ_ _ _ h=>h)
       |true =>
        rw[gY] at h;simp only[zm] at h;rw[z8] at gY;refine .inr ⟨gY.1,?_⟩;rw[bJ];show VCalled P f (args.map (Q6 env)) U _;have aB:∀ args:List Operand,SRs P B pl tb (args.map (gev [] s.env)) (args.map (Q6 env)):=λargs=>SRs.map λx _=>hG.evs Gds.nil x;refine aC.xs f x hx B F pl tb s env U _ _ _ _ _ hG (aB args) h λv s' B' F' pl' tb' u U' k1 k2 k3 k4=>?_;have ae:∀ c∈pd,c.1<hl:=λc hc=>by
         rcases hD.pend c hc with h1|⟨q,h1,h2,_⟩
         .exact h1
         .have:=zf.1 gY.2 q h1;rw[zR] at this;omega
        have kI:X5 hs.length U' pd:=YN λc hc hle=>by have:=ae c hc;have:=hD.len;omega
        have qP:X5 hs.length U' pend:=YN λc hc hn=>(hp c hc).elim (λh=>h U' (k2.b.trans k3.leB)) λh=>M6 kI h hn;refine⟨qP,Qy aC r cw (hB.trans k2) (k3.put o.dst k4) (pd:=pd) ⟨by simp[hD.len],λj Z hj ht=>?_,λc hc=>.inl (by have:=ae c hc;omega),λj Z q i ht hu cC hi=>?_⟩ (λc hc=>(hp c hc).imp (λh Z hτ=>h Z (k2.b.trans hτ)) id) (λj Z ht hn=>?_) (by omega) (by omega) k1 hK⟩
        .rcases JC ht with⟨h1,_⟩|⟨_,h1⟩
         .rw[hD.len] at h1;omega
         .exact h1
        .rcases JC ht with⟨h1,_⟩|⟨_,h1⟩
         .exfalso;rw[hD.len] at h1;simp only[Zu,zZ,z8,zy,zR,zD,or_false] at hu;omega
         .rw[h1]
        .rcases JC ht with⟨h1,_⟩|⟨_,h1⟩
         .exfalso;rw[hD.len] at h1;simp only[Dp,zZ,z8,zy,zR,Option.isSome_none,zD,or_false] at hn;omega
         .rw[h1];exact k3.leB
     .exact .inl (oE h λ_ _ _ h=>h)
    .rename_i j want hg;rw[hg];split at h
     .exact h.elim
     .rename_i gs s1 eo;obtain⟨tb',bw,cU,b,hw,br,bB⟩:=W4 hG eo;have aJ:=K2 eo;rw[hw];split at h
      .rename_i cs v dH;cases cJ:V8 v with
       |false=>rw[cJ] at h;exact h.elim
       |true =>
       rw[cJ] at h;simp only[zm] at h;obtain⟨h1,h2⟩:=ZD h;obtain⟨k1,k2⟩:=hD.stay;have l7:∀ x,DSt (hs++[U]) U pd (hl+1) chg A Rd (s1.put o.dst x).own pl:=λx=>by rw[Zs,aJ];exact k2
       refine⟨λe=>?_,λe=>?_⟩
       .rw[z7 av];have gU:Gds tb' gs:=λg hg=>⟨br e g hg,cU g hg⟩;have mb:∀ {v u},SR P B pl tb' v u->SR P B pl tb' (.grd gs (Dr v)) u:=λ{v u} hs=>by
         simp only[SR];obtain⟨h1,h2⟩:=Hj hs;exact⟨⟨cU,h2⟩,λ_=>h1,λ⟨g,hg,az⟩=>absurd (br e g hg) az⟩
        simp only[gqc] at dH;split at dH
        .rename_i c v' heq;cases cK:v'.ret 0 with
         |false=>rw[cK] at dH;cases dH
         |true =>
          rw[cK] at dH;obtain⟨rfl,rfl⟩:=Z8 dH;obtain⟨g,a,b',h3,h4,_⟩:=J0 aC.cs (show SR P U X1 J3 (.fn f [] []) (.func (.func f) #[] #[]) by simp only[SR,SRs];exact⟨[],[],rfl,rfl,rfl⟩) (bw.gcall gU args) heq cK rfl (h2 (br e) _ (by simp));obtain⟨rfl,rfl,rfl⟩:=(by simpa using h3:f=g/\#[]=a/\#[]=b');refine .inl ⟨Vf X1 v',U,?_,eQ hG.leB k1,Qy aC r cw hB (bw.put o.dst (mb ?_)) (l7 _) hp (snoc hG.leB λ_ h=>h) (by omega) (by omega) (Zw h1) hK⟩
          .rw[bJ];show VCalled P f (args.map (Q6 env)) U _;have:=h4.mono (R':=λu U'=>u=Vf X1 v'/\U'=U) λu U' hr=>by
            obtain⟨rfl,hu⟩:=hr.flat cK;exact⟨Vn v' u cK cJ hu,rfl⟩
           simpa using this
          .exact SR.retd (λj hj=>by omega) _ _ cK (RF (P:=P) (pl:=X1) (m:=0) (λj hj=>by omega) v' cK cJ)
        .cases dH
       .rw[z7 av];obtain⟨g,dL,az⟩:=bB e;exact⟨eQ hG.leB k1,Qy aC r cw hB (bw.put o.dst (by simp only[SR];exact⟨⟨cU,H8 v⟩,λae=>absurd (ae g dL) az,λ_=>trivial⟩)) (l7 _) hp (snoc hG.leB λ_ h=>h) (by omega) (by omega) (Zw h1) hK⟩
      .split at h
       .rename_i cs v kY;obtain⟨c,ty,k,xs,nl,heq,rfl,rfl,hk,eA⟩:=Rn kY;obtain⟨h1,h2⟩:=ZD h;have frz:∀ {B' U':Heap},B'.Le U'->∀ j Z',(hs++[U'])[j]?=some Z'->Dp ((hl-1,none)::A) j=true->B'.Le Z':=λ{B' U'} hb j Z' hm hn=>by
         rcases JC hm with⟨h1,_⟩|⟨_,rfl⟩
         .simp only[Dp,zZ,z8,zy,zR,Option.isSome_none,zD,or_false] at hn;have:=hD.len;omega
         .exact hb
        refine⟨λe=>?_,λe=>?_⟩
        .rw[z7 av];have gU:Gds tb' gs:=λg hg=>⟨br e g hg,cU g hg⟩;have fQ:=h2 (br e) c (by simp);have iw:=h2 (br e) (nl=true->xs=[]) (by simp);have eo:MI C (C.off+o.dst.getD 0) (.fn f [] []) (BM s1.own (args.map (gev gs s1.env))) s1 (λts v' s'=>ts=[C.off+o.dst.getD 0]/\v'=.lst (C.off+o.dst.getD 0)/\s'=s1.make (C.off+o.dst.getD 0) (.lst ty k xs nl)):=by
          unfold MI;rw[heq];dsimp only;have aj:(SV.ret [OB.lst ty k xs nl].length (.lst 0)&&([OB.lst ty k xs nl].all OB.ret&&(Nat.blt 0 C.nt&&([OB.lst ty k xs nl].all OB.isL&&V8 (.lst 0)))))=true:=by simp only[SV.ret,xq,zZ,List.all_nil,xT,OB.ret,hk,Bool.true_and,OB.isL,V8];rw[z8];exact⟨rfl,by rw[zR];exact eA⟩
          rw[aj];simp only[zm,IB,OB.wf];refine⟨fQ,iw,?_,?_,?_⟩
          .simp[List.range_succ]
          .simp[SV.ren]
          .simp[St.makes]
         obtain⟨g,a,b',u,U',ts,v',s',pl',h3,h4,⟨rfl,rfl,rfl⟩,h5,h6,_,h7,h8,h9⟩:=W6 aC bw eo (show SR P U X1 J3 (.fn f [] []) (.func (.func f) #[] #[]) by simp only[SR,SRs];exact⟨[],[],rfl,rfl,rfl⟩) (bw.gcall gU args);obtain⟨rfl,rfl,rfl⟩:=(by simpa using h3:f=g/\#[]=a/\#[]=b');obtain⟨B',F',m1,m2,m3⟩:=RN bw.bf hk h5 h6 h8;have cR:FrL [C.off+o.dst.getD 0] s ((s1.make (C.off+o.dst.getD 0) .dead).put o.dst (.grd gs (.val (.list k) xs))) pl pl' U U':=λq hq=>by obtain⟨f1,f2,f3⟩:=h9 q hq;rw[aJ] at f3;refine⟨?_,f2,f3⟩;rw[Zs,VK _ _ _ (by simpa using hq),aJ]
         obtain⟨k1,k2⟩:=hD.call h7 cR aU;refine .inl ⟨u,U',?_,eQ (m1.b.trans m2.leB) k1,Qy aC r cw (hB.trans m1) (m2.put o.dst ?_) k2.frozen (λc hc=>(hp c hc).imp (λh Z hτ=>h Z (m1.b.trans hτ)) id) (frz m2.leB) (by omega) (by omega) h1 hK⟩
         .rw[bJ];show VCalled P f (args.map (Q6 env)) U _;simpa using h4
         .simp only[SR];exact⟨⟨cU,trivial⟩,λ_=>m3,λ⟨g,hg,az⟩=>absurd (br e g hg) az⟩
        .rw[z7 av];obtain⟨g,dL,az⟩:=bB e;have cR:FrL [C.off+o.dst.getD 0] s ((s1.make (C.off+o.dst.getD 0) .dead).put o.dst (.grd gs (.val (.list k) xs))) pl (JN pl (C.off+o.dst.getD 0) undef) U U:=λq hq=>by
          have cF:q≠C.off+o.dst.getD 0:=by simpa using hq
          refine⟨?_,by simp[JN,cF],λ_ _ _=>rfl⟩;rw[Zs,VK _ _ _ cF,aJ]
         obtain⟨k1,k2⟩:=hD.call (.refl U) cR aU;refine⟨eQ hG.leB k1,Qy aC r cw hB ((bw.make (C.off+o.dst.getD 0) .dead undef bw.le (λ_ _ _ _ _=>rfl) trivial (λi hl _=>by cases hl)).put o.dst ?_) k2.frozen hp (frz hG.leB) (by omega) (by omega) h1 hK⟩;simp only[SR];exact⟨⟨cU,trivial⟩,λae=>absurd (ae g dL) az,λ_=>trivial⟩
       .exact h.elim
   .rename_i f args bJ;split at h
    .rename_i hg;rw[hg];refine⟨λ_=>?_,λe=>by cases e⟩;rw[z7 av];refine .inl ?_;obtain⟨g,a,b,u,U',e,v,s',pl',h1,h2,h3,h4,h5,h6,h7,h8,h9⟩:=W6 aC hG h (hG.gfun Gds.nil f) (hG.gcall Gds.nil args);refine fin (u:=u) (U':=U') (λR' hr=>?_) h3 h4 h5 h6 h7 h8 h9;rw[bJ];exact NL h1 (h2.mono (R':=R') λu' aH ⟨e1,e2⟩=>by subst e1;subst e2;exact hr)
    .exact h.elim
   .exact h.elim
   .exact h.elim
   .rename_i qM nE qN jY;split at h
    .rename_i hg;rw[hg];refine⟨λ_=>?_,λe=>by cases e⟩;rw[z7 av];have aD:Ae o.op=false:=by
      cases ho:o.op<;>first|rfl|(exact absurd ho (qM _ _))|(exact absurd ho (nE _ _))|skip
      case ext x=>cases x<;>first|rfl|(exact absurd ho (qN _))|(exact absurd ho (jY _))
     cases kX:C5 C (o.dst.getD 0) o.op (gev [] s.env) with
     |true =>
      rw[kX] at h;simp only[zm] at h;cases hm:Ej (HK o.op) Rd hl (Lb (C.off+o.dst.getD 0) o.op (gev [] s.env)) with
      |false=>rw[hm] at h;exact h.elim
      |true =>
       rw[hm] at h;simp only[zm] at h;obtain⟨u,U',pl',v,s',h1,h2,⟨h3,kV⟩,h4⟩:=Hp (λx=>hG.evs (Gds.nil (tb:=tb)) x) hG h;have gG:∀ R',R' u U'->vop (Q5 P) o.op env U R':=λR' hr=>by
        have:vop (Q5 P) o.op env U R'=Zf (Qb o.op (Q6 env) U) λp=>R' p.1 p.2:=by
         cases ho:o.op with
         |callF f a=>rw[ho] at aD;cases aD
         |callV f a=>rw[ho] at aD;cases aD
         |ext x =>
          cases x with
          |nextMap y=>rw[ho] at h1;cases h1
          |_=>rfl
         |_=>rfl
        rw[this,h1];exact hr
       obtain⟨k1,k2⟩:=hD.writeD kV (λbX=>Rr bX h1) hm aU;exact .inl ⟨u,U',gG _ ⟨rfl,rfl⟩,eQ h3.leB k1,Qy aC r cw (Mz hB (Kc h1)) (h3.put o.dst h4) (by rw[Zs];exact k2) hp (snoc h3.leB λ_ h=>Hd h) (by omega) (by omega) h2 hK⟩
     |false =>
     rw[kX] at h;simp only[zW] at h;cases hm:((HK o.op&&Lu Rd hl (QY (C.off+o.dst.getD 0) o.op (gev [] s.env)))||TX Rd hl (QY (C.off+o.dst.getD 0) o.op (gev [] s.env))||(TU o.op&&Q7u Rd hl (QY (C.off+o.dst.getD 0) o.op (gev [] s.env)))) with
     |false=>rw[hm] at h;exact h.elim
     |true =>
      rw[hm] at h;simp only[zm] at h;obtain⟨u,U',pl',v,s',h1,h2,⟨h3,kV⟩,h4,hE⟩:=OP hG h aD;have gG:∀ R',R' u U'->vop (Q5 P) o.op env U R':=λR' hr=>by
       have:vop (Q5 P) o.op env U R'=Zf (Qb o.op (Q6 env) U) λp=>R' p.1 p.2:=by
        cases ho:o.op with
        |callF f a=>rw[ho] at aD;cases aD
        |callV f a=>rw[ho] at aD;cases aD
        |ext x =>
         cases x with
         |nextMap y=>rw[ho] at h1;cases h1
         |_=>rfl
        |_=>rfl
       rw[this,h1];exact hr
      obtain⟨k1,k2⟩:=hD.write kV (λbX=>Rr bX h1) hE hm aU;exact .inl ⟨u,U',gG _ ⟨rfl,rfl⟩,eQ h3.leB k1,Qy aC r cw (Mz hB (Kc h1)) (h3.put o.dst h4) (by rw[Zs];exact k2) hp (snoc h3.leB λ_ h=>Hu h) (by omega) (by omega) h2 hK⟩
    .exact h.elim
  .rw[z1 av] at h;have mc:o.op.kind≠2:=by rw[<-bR];exact av
   by_cases bp:o.kind=1
   .rw[z7 bp] at h
    have rd:∀ (rq:Option Nat),(∀ q,rq=some q->NT o.op (gev [] s.env) s.own=some q)->(Nat.ble chg o.kmin||Pr A o.kmin rq)=true->gd1 C o s (λs'=>Xx C r s' hl chg A ((o.kmax,rq)::Rd) K) ->
      Zf (Jm env o.guard) λb=>vif b (if o.kind=2 then (GP (λR=>vop (Q5 P) o.op env U R) λv U'=>X5 hs.length U' pend/\ZE (Q5 P) r (Xk env o.dst v) (hs++[U']) U' pend R)\/(waits o.dst.toList r=true/\vop (Q5 P) o.op env U λv U'=>X5 hs.length U' pend/\ZE (Q5 P) r (Xk env o.dst v) (hs++[U']) U' pend R)
       else if o.kind=1 then Zf (Qb o.op (Q6 env) U) λp=>(∀ Z∈hs.drop o.kmin,Xc o.op (Q6 env) p.1 Z) /\
        ZE (Q5 P) r (Xk env o.dst p.1) hs U (if hs.length<=o.kmax then (o.kmax,Xc o.op (Q6 env) p.1)::pend else pend) R
       else Zf (Qb o.op (Q6 env) U) λp=>ZE (Q5 P) r (Xk env o.dst p.1) hs U pend R)
      (if o.kind=2 then X5 hs.length U pend/\ZE (Q5 P) r (Xk env o.dst undef) (hs++[U]) U pend R else ZE (Q5 P) r (Xk env o.dst undef) hs U pend R):=λrq oD hc h=>by
     obtain⟨b,hw,h1,h2⟩:=VE hG h;rw[hw];have me:DSt hs U pd hl chg A ((o.kmax,rq)::Rd) s.own pl:=⟨hD.len,hD.same,λc hc=>(hD.pend c hc).imp id λ⟨r,k1,k2⟩=>⟨r,zi _ k1,k2⟩,hD.fr⟩;refine⟨λe=>?_,λe=>?_⟩
     .obtain⟨u,s',tb',h3,h4,aJ,h5⟩:=h1 e;rw[z1 av,z7 bp,h3];refine⟨λZ hτ=>?_,?_⟩
      .obtain⟨j,hj⟩:=xp.1 hτ;rw[zH] at hj;rw[zy] at hc;rcases hc with hc|hc
       .have:=hD.same (o.kmin+j) Z (by have:=zM hc;omega) hj;subst this;exact Z_ h3
       .unfold Pr at hc;split at hc
        .rename_i q;obtain⟨k1,i,bl,k2,k3,k4,k5⟩:=YV hG (oD q rfl) h3;have hu:Zu A (o.kmin+j) (q / 2)=true:=by
          simp only[Zu,zf,zy,zR] at hc |-;exactλa ha=>(hc a ha).imp (λh=>by omega) id
         have:=hD.fr (o.kmin+j) Z (q / 2) i hj hu k1 k2;exact Z_ (k4 Z (by rw[this];exact k3))
        .cases hc
      .by_cases hle:hs.length<=o.kmax
       .rw[z7 hle];refine Qy aC r cw hB h5 (A:=A) (Rd:=(o.kmax,rq)::Rd) (hl:=hl) (chg:=chg) (pd:=(o.kmax,Xc o.op (Q6 env) u)::pd) ?_ (λc hc=>?_) b_ dW aU h4 hK
        .rw[aJ];refine⟨hD.len,hD.same,λc hc=>?_,hD.fr⟩;rcases zk.1 hc with rfl|hc
         .refine .inr ⟨_,zl,ze _,?_⟩;cases rq with
          |none=>exactλZ hτ=>Z_ (Ps mc h3 hτ)
          |some q =>obtain⟨k1,i,bl,k2,k3,k4,k5⟩:=YV hG (oD q rfl) h3;exact⟨k1,i,bl,k2,k3,λZ ht=>Z_ (k4 Z ht),λho=>(let ⟨es,c,wr,x1,x2⟩:=k5 ho;⟨es,c,wr,x1,λZ bV c' hl ht=>Z_ (x2 Z bV c' hl ht)⟩)⟩
         .exact me.pend c hc
        .rcases zk.1 hc with rfl|hc
         .exact .inr zl
         .exact(hp c hc).imp id λh=>zi _ h
       .rw[z1 hle];exact Qy aC r cw hB h5 (A:=A) (Rd:=(o.kmax,rq)::Rd) (hl:=hl) (chg:=chg) (pd:=pd) (by rw[aJ];exact me) hp b_ dW aU h4 hK
     .obtain⟨s',tb',h4,aJ,h5⟩:=h2 e;rw[z1 av];exact Qy aC r cw hB h5 (by rw[aJ];exact me) hp b_ dW aU h4 hK
    have ro:Dp A o.kmin=true->(∀ u,Qb o.op (Q6 env) U=some (u,U)->(Jm env o.guard=some true)->∀ Z,B.Le Z->Qb o.op (Q6 env) Z=some (u,Z))->gd1 C o s (λs'=>Xx C r s' hl chg A Rd K) ->
      Zf (Jm env o.guard) λb=>vif b (if o.kind=2 then (GP (λR=>vop (Q5 P) o.op env U R) λv U'=>X5 hs.length U' pend/\ZE (Q5 P) r (Xk env o.dst v) (hs++[U']) U' pend R)\/(waits o.dst.toList r=true/\vop (Q5 P) o.op env U λv U'=>X5 hs.length U' pend/\ZE (Q5 P) r (Xk env o.dst v) (hs++[U']) U' pend R)
       else if o.kind=1 then Zf (Qb o.op (Q6 env) U) λp=>(∀ Z∈hs.drop o.kmin,Xc o.op (Q6 env) p.1 Z) /\
        ZE (Q5 P) r (Xk env o.dst p.1) hs U (if hs.length<=o.kmax then (o.kmax,Xc o.op (Q6 env) p.1)::pend else pend) R
       else Zf (Qb o.op (Q6 env) U) λp=>ZE (Q5 P) r (Xk env o.dst p.1) hs U pend R)
      (if o.kind=2 then X5 hs.length U pend/\ZE (Q5 P) r (Xk env o.dst undef) (hs++[U]) U pend R else ZE (Q5 P) r (Xk env o.dst undef) hs U pend R):=λjZ bO h=>by
     obtain⟨b,hw,h1,h2⟩:=VE hG h;rw[hw];refine⟨λe=>?_,λe=>?_⟩
     .obtain⟨u,s',tb',h3,h4,aJ,h5⟩:=h1 e;have bO:=bO u h3 (by rw[hw,e]);rw[z1 av,z7 bp,h3];refine⟨λZ hτ=>?_,?_⟩
      .obtain⟨j,hj⟩:=xp.1 hτ;rw[zH] at hj;refine Z_ (bO Z (b_ _ Z hj ?_));simp only[Dp,zf,zy,zR] at jZ |-;exactλa ha=>(jZ a ha).imp (λh=>by omega) id
      refine Qy aC r cw hB h5 (A:=A) (Rd:=Rd) (hl:=hl) (chg:=chg) (pd:=pd) (by rw[aJ];exact hD) (λc hc=>?_) b_ dW aU h4 hK;split at hc
      .rcases zk.1 hc with rfl|hc
       .exact .inl λZ hτ=>Z_ (bO Z hτ)
       .exact hp c hc
      .exact hp c hc
     .obtain⟨s',tb',h4,aJ,h5⟩:=h2 e;rw[z1 av];exact Qy aC r cw hB h5 (by rw[aJ];exact hD) hp b_ dW aU h4 hK
    split at h
    .rename_i hg;cases hr:(Q7w o.op (gev [] s.env)&&Dp A o.kmin) with
     |true =>rw[hr] at h;rw[z8] at hr;exact ro hr.2 (λu hu _=>Ms hG Gds.nil hr.1 hu) h
     |false =>
     rw[hr] at h;simp only[zW] at h;cases hb:(Nat.ble chg o.kmin||Pr A o.kmin (NT o.op (gev [] s.env) s.own)) with
     |false=>rw[hb] at h;exact h.elim
     |true =>rw[hb] at h;exact rd _ (λq hq=>hq) hb h
    .rename_i j want hg;cases hr:(Od s j want o.op&&Dp A o.kmin) with
     |true =>
      rw[hr] at h;rw[z8] at hr;obtain⟨hr,jZ⟩:=hr;refine ro jZ (λu hu hw=>?_) h;unfold Od at hr;split at hr
      .rename_i gs s1 eo;obtain⟨tb',bw,cU,b,dq,br,bB⟩:=W4 hG eo;rw[hg,dq] at hw;have e:=osj hw;exact Ms bw (λg hg=>⟨br e g hg,cU g hg⟩) hr hu
      .cases hr
     |false =>
     rw[hr] at h;simp only[zW] at h;cases hb:Nat.ble chg o.kmin with
     |false=>rw[hb] at h;exact h.elim
     |true =>rw[hb] at h;exact rd none (λq hq=>by cases hq) (by rw[hb];rfl) h
   .rw[z1 bp] at h;obtain⟨b,hw,h1,h2⟩:=VE hG h;rw[hw];refine⟨λe=>?_,λe=>?_⟩
    .obtain⟨u,s',tb',h3,h4,aJ,h5⟩:=h1 e;rw[z1 av,z1 bp,h3];exact Qy aC r cw hB h5 (by rw[aJ];exact hD) hp b_ dW aU h4 hK
    .obtain⟨s',tb',h4,aJ,h5⟩:=h2 e;rw[z1 av];exact Qy aC r cw hB h5 (by rw[aJ];exact hD) hp b_ dW aU h4 hK
def Mx (pl:Nat->Value) (mp:List (Nat×Option Nat)):Nat->Value:=λt=>match QO mp t with
 |some (some a)=>pl a
 |_=>.slice none 0 0
theorem S_ {h:Heap}{k k':Kind}{x:k.T}{y:k'.T}(e:MN x y) {cs:List Value}(hk:KC h k' y cs):KC h k x cs:=by
 unfold MN at e;split at e
 .rename_i z hz;obtain rfl:=TP hz;obtain rfl:=Rp hz;subst e;exact hk
 .exact e.elim
mutual
theorem Vu {B:Heap}{pl:Nat->Value}{tb:Nat->Option Bool}{mp:List (Nat×Option Nat)}:∀ (p a:SV) (v:Value),HI mp p a->SR P B pl tb a v->SR P B (Mx pl mp) J3 p v
 |.any,a,v,_,_=>trivial
 |.val k x,a,v,h,hs=>by
  simp only[HI] at h;split at h
  .simp only[SR] at hs |-;exact S_ h hs
  .simp only[SR] at hs |-;exact S_ h (by simp[KC,hs.1])
  .split at h
   .subst h;simp only[SR] at hs |-;subst hs;exact⟨_,rfl,.inl ⟨rfl,rfl⟩⟩
   .exact h.elim
  .exact h.elim
 |.lst t,a,v,h,hs=>by
  simp only[HI] at h;split at h
  .split at h
   .rename_i e;simp only[SR,Mx,e] at hs |-;exact hs
   .exact h.elim
  .split at h
   .rename_i e;simp only[SR,Mx,e] at hs |-;exact⟨hs,_,_,_,hs⟩
   .exact h.elim
  .exact h.elim
 |.box t off,a,v,h,hs=>by
  simp only[HI] at h;split at h
  .split at h
   .rename_i e;obtain⟨e,rfl⟩:=e;simp only[SR,Mx,e] at hs |-;exact hs
   .exact h.elim
  .exact h.elim
 |.map t,a,v,h,hs=>by
  simp only[HI] at h;split at h
  .split at h
   .rename_i e;simp only[SR,Mx,e] at hs |-;exact hs
   .exact h.elim
  .exact h.elim
 |.dd t w,a,v,h,hs=>by
  simp only[HI] at h;split at h
  .split at h
   .simp only[SR] at hs |-;simp only[DR];exact .inl ⟨h,hs⟩
   .split at h
    .rename_i e;obtain⟨e,rfl⟩:=e;simp only[SR,DR,Mx,e] at hs |-;obtain⟨b,h1,h2⟩:=hs;exact .inr ⟨h,b,by rw[h1];rfl,h2⟩
    .exact h.elim
   .split at h
    .split at h
     .rename_i e;subst h;simp only[SR,DR,Mx,e] at hs |-;exact hs
     .exact h.elim
    .exact h.elim
   .exact h.elim
  .split at h
   .split at h
    .split at h
     .rename_i e;simp only[SR,Mx,e] at hs |-;exact hs
     .exact h.elim
    .exact h.elim
   .exact h.elim
  .split at h
   .split at h
    .split at h
     .rename_i e;simp only[SR,Mx,e] at hs |-;exact hs
     .exact h.elim
    .exact h.elim
   .split at h
    .rename_i e;simp only[SR,Mx,e] at hs |-;exact⟨hs,_,_,_,hs⟩
    .exact h.elim
   .exact h.elim
  .exact h.elim
 |.agg l,a,v,h,hs=>by
  simp only[HI] at h;split at h
  .rename_i l';simp only[SR] at hs |-;obtain⟨cs,h1,h2⟩:=hs;exact⟨cs,h1,Zt l l' cs h h2⟩
  .exact h.elim
 |.tup l,a,v,h,hs=>by
  simp only[HI] at h;split at h
  .rename_i l';simp only[SR] at hs |-;obtain⟨cs,h1,h2⟩:=hs;exact⟨cs,h1,Zt l l' cs h h2⟩
  .exact h.elim
 |.fn f x y,a,v,h,hs=>by
  simp only[HI] at h;split at h
  .split at h
   .rename_i e;subst e;simp only[SR] at hs |-;obtain⟨cs,ds,h1,h2,h3⟩:=hs;exact⟨cs,ds,h1,Zt x _ cs h.1 h2,Zt y _ ds h.2 h3⟩
   .exact h.elim
  .exact h.elim
 |.nilS,a,v,h,hs=>by
  simp only[HI] at h;split at h
  .simp only[SR] at hs |-;exact hs
  .exact h.elim
 |.nilP,a,v,h,hs=>by
  simp only[HI] at h;split at h
  .simp only[SR] at hs |-;exact hs
  .exact h.elim
 |.nilM,a,v,h,hs=>by
  simp only[HI] at h;split at h
  .simp only[SR] at hs |-;exact hs
  .exact h.elim
 |.nilF,a,v,h,hs=>by
  simp only[HI] at h;split at h
  .simp only[SR] at hs |-;exact hs
  .exact h.elim
 |.cp l off,a,v,h,hs=>by
  simp only[HI] at h;cases qQ:SVs.pure l with
  |true =>rw[qQ] at h;simp only[zm] at h;obtain⟨rfl,_⟩:=h;simp only[SR] at hs |-;obtain⟨b,c,e,wr,t,h1,h2,h3⟩:=hs;exact⟨b,c,e,wr,t,h1,h2,Zr l c qQ h3⟩
  |false =>
   rw[qQ] at h;simp only[zW] at h;split at h
   .split at h
    .rename_i l' dF he;subst he;simp only[SR] at hs |-;obtain⟨b,c,e,wr,t,h1,h2,h3⟩:=hs;exact⟨b,c,e,wr,t,h1,h2,Zt l l' c h h3⟩
    .exact h.elim
   .exact h.elim
 |.pf ks r cT p,a,v,h,hs=>by simp only[HI] at h;subst h;simp only[SR] at hs |-;exact hs
 |.sub t lo n sz,a,v,h,hs=>by
  simp only[HI] at h;split at h
  .split at h
   .rename_i e;obtain⟨rfl,rfl,rfl⟩:=h;simp only[SR,Mx,e] at hs |-;exact hs
   .exact h.elim
  .exact h.elim
 |.elp _ _ _ _,_,_,h,_|.grd _ _,_,_,h,_|.bid _ _,_,_,h,_|.rop _ _ _ _,_,_,h,_=>by simp only[HI] at h
theorem Zt {B:Heap}{pl:Nat->Value}{tb:Nat->Option Bool}{mp:List (Nat×Option Nat)}:∀ (p a:List SV) (v:List Value),UG mp p a->SRs P B pl tb a v->SRs P B (Mx pl mp) J3 p v
 |[],a,v,h,hs=>by simp only[UG] at h;subst h;exact hs
 |s::ss,[],v,h,hs=>by simp only[UG] at h
 |s::ss,a::bQ,v,h,hs=>by simp only[UG] at h;simp only[SRs] at hs |-;obtain⟨x,y,h1,h2,h3⟩:=hs;exact⟨x,y,h1,Vu s a x h.1 h2,Zt ss bQ y h.2 h3⟩
theorem TK {B:Heap}{pl pl':Nat->Value}{tb tb':Nat->Option Bool}:∀ (s:SV) (v:Value),s.pure=true->SR P B pl tb s v->SR P B pl' tb' s v
 |.any,v,_,_=>trivial
 |.val k x,v,_,h=>by simp only[SR] at h |-;exact h
 |.nilS,v,_,h|.nilP,v,_,h|.nilM,v,_,h|.nilF,v,_,h=>by simp only[SR] at h |-;exact h
 |.rop k l i off,v,_,h=>by simp only[SR] at h |-;exact h
 |.pf ks r cT p,v,_,h=>by simp only[SR] at h |-;exact h
 |.agg l,v,hp,h=>by simp only[SR] at h |-;obtain⟨cs,h1,h2⟩:=h;exact⟨cs,h1,Zr l cs hp h2⟩
 |.tup l,v,hp,h=>by simp only[SR] at h |-;obtain⟨cs,h1,h2⟩:=h;exact⟨cs,h1,Zr l cs hp h2⟩
 |.cp l off,v,hp,h=>by simp only[SR] at h |-;obtain⟨b,c,e,wr,t,h1,h2,h3⟩:=h;exact⟨b,c,e,wr,t,h1,h2,Zr l c hp h3⟩
 |.fn f a b,v,hp,h=>by simp only[SV.pure,z8] at hp;simp only[SR] at h |-;obtain⟨x,y,h1,h2,h3⟩:=h;exact⟨x,y,h1,Zr a x hp.1 h2,Zr b y hp.2 h3⟩
 |.lst _,_,h,_|.sub _ _ _ _,_,h,_|.elp _ _ _ _,_,h,_|.box _ _,_,h,_|.map _,_,h,_|.grd _ _,_,h,_|.bid _ _,_,h,_=>by cases h
theorem Zr {B:Heap}{pl pl':Nat->Value}{tb tb':Nat->Option Bool}:∀ (s:List SV) (v:List Value),SVs.pure s=true->SRs P B pl tb s v->SRs P B pl' tb' s v
 |[],v,_,h=>by simp only[SRs] at h |-;exact h
 |s::ss,v,hp,h=>by simp only[SVs.pure,z8] at hp;simp only[SRs] at h |-;obtain⟨x,y,h1,h2,h3⟩:=h;exact⟨x,y,h1,TK s x hp.1 h2,Zr ss y hp.2 h3⟩
end
end
end Go.V
namespace Go.V
open Go
section
variable {P:Program}{B F:Heap}{pl:Nat->Value}{tb:Nat->Option Bool}{s:St}{env:Env}{U:Heap}
theorem Ud {k k':Kind}{xs:List k.T}{ys:List k'.T}(h:MN (k:=.list k) xs (k':=.list k') ys):∃ e:k'=k,e▸ys=xs:=by
 unfold MN at h;split at h
 .rename_i z hz;have e:=TP hz;obtain rfl:=Kind.list.inj e;obtain rfl:=Rp hz;exact⟨rfl,h⟩
 .exact h.elim
theorem Zh (hG:Gam P B F pl tb s env U) {mp:List (Nat×Option Nat)}{t:Nat}{b:OB}(h:Q1l s mp t b) :
  OR P B (Mx pl mp) J3 U (Mx pl mp t) b/\(b.live=true->∀ i,Oid (Mx pl mp t) i->∃ a,QO mp t=some (some a)/\(Qf s.own a).live=true/\Oid (pl a) i):=by
 unfold Q1l at h;split at h
 .rename_i a ha;have aQ:Mx pl mp t=pl a:=by simp[Mx,ha]
  rw[aQ];have aq:=hG.obj a;split at h
  .exact⟨trivial,λh=>by cases h⟩
  .rename_i ty k xs nl gB k' cL l5 ho;split at h
   .rename_i e;subst e;obtain⟨h1,rfl⟩:=h;obtain⟨rfl,rfl⟩:=Ud h1;rw[ho] at aq;exact⟨aq,λ_ i hi=>⟨a,ha,by rw[ho];rfl,hi⟩⟩
   .exact h.elim
  .rename_i l u l' u' ho;split at h
   .rename_i e0;subst e0;rw[ho] at aq;obtain⟨i,c,e,t',h1,h2,h3,h4⟩:=aq;exact⟨⟨i,c,e,t',h1,h2,Zt l l' c h h3,h4⟩,λ_ i hi=>⟨a,ha,by rw[ho];rfl,hi⟩⟩
   .exact h.elim
  .rename_i kk vk m jX l6 m' ho;split at h
   .obtain⟨e,h1⟩:=Ud h;obtain⟨rfl,rfl⟩:=Kind.pair.inj e;subst h1;rw[ho] at aq;exact⟨aq,λ_ i hi=>⟨a,ha,by rw[ho];rfl,hi⟩⟩
   .exact h.elim
  .rename_i l vals l' kS ho;rw[ho] at aq;obtain⟨rfl,h⟩:=h;exact⟨Zt l l' vals h aq,λh=>by cases h⟩
  .rename_i l q u l' q' u' ho;rw[ho] at aq;split at h
   .obtain⟨rfl,h⟩:=h;exact⟨⟨aq.1,Zt l l' q.vals h aq.2.1,aq.2.2⟩,λ_ i hi=>⟨a,ha,by rw[ho];rfl,hi⟩⟩
   .obtain⟨rfl,h⟩:=h;exact⟨⟨aq.1,Zt l l' q.vals h aq.2.1,aq.2.2⟩,λh=>by cases h⟩
   .exact h.elim
  .rename_i kk vk m dn jX l6 m' r6 ho;split at h
   .obtain⟨h,rfl⟩:=h;obtain⟨e,h1⟩:=Ud h;obtain⟨rfl,rfl⟩:=Kind.pair.inj e;subst h1;rw[ho] at aq;exact⟨aq,λ_ i hi=>⟨a,ha,by rw[ho];rfl,hi⟩⟩
   .exact h.elim
  .rename_i ty q k xs nl h0 gB q' k' cL l5 rO ho;split at h
   .rename_i e;obtain⟨rfl,rfl⟩:=e;split at h
    .obtain⟨h1,rfl⟩:=h;obtain⟨rfl,rfl⟩:=Ud h1;rw[ho] at aq;exact⟨aq,λ_ i hi=>⟨a,ha,by rw[ho];rfl,hi⟩⟩
    .exact h.elim
   .exact h.elim
  .exact h.elim
 .rename_i ha;have aQ:Mx pl mp t=.slice none 0 0:=by simp[Mx,ha]
  rw[aQ];split at h
  .exact⟨.inl ⟨h.2,h.1,rfl⟩,λ_ i hi=>by cases hi⟩
  .split at h
   .obtain⟨rfl,rfl⟩:=h;refine⟨⟨[],λi=>⟨λh=>(by cases h),λ⟨b,h⟩=>(by cases h)⟩,List.nodup_nil,.inl ⟨rfl,rfl,rfl⟩,λi=>⟨λ⟨b,h⟩=>(by cases h),λh=>(by cases h)⟩,(λi b h=>by cases h),by simp[phd]⟩,λ_ i hi=>by cases hi⟩
   .exact h.elim
  .exact h.elim
 .exact h.elim
theorem KM {α:Type _}(l:List (Nat×α)) (t:Nat) (x:α) (d:Nat):QO (l++[(t,x)]) d=match QO l d with|some y=>some y|none=>if t=d then some x else none:=by
 induction l with
 |nil =>
  simp only[xk,QO];by_cases h:t=d
  .subst h;simp
  .rw[JK h];simp[h]
 |cons p l ih =>obtain⟨k,y⟩:=p;simp only[xF,QO,ih];cases Nat.beq k d<;>rfl
theorem LN {α:Type _}{l:List (Nat×α)}{d:Nat}{x:α}(h:QO l d=some x):∃ p∈l,p.1=d/\p.2=x:=by
 induction l with
 |nil=>cases h
 |cons p l ih =>
  obtain⟨k,y⟩:=p;simp only[QO] at h;cases hb:Nat.beq k d with
  |true=>rw[hb] at h;obtain rfl:=osj h;exact⟨_,zl,zV hb,rfl⟩
  |false =>rw[hb] at h;obtain⟨p,h1,h2⟩:=ih h;exact⟨p,zi _ h1,h2⟩
def Inj (mp:List (Nat×Option Nat)):Prop:=∀ t t' a,QO mp t=some (some a)->QO mp t'=some (some a)->t=t'
theorem He:∀ (l:List (Nat×Src)) (mp cj:List (Nat×Option Nat)),Z01 s l mp=some cj->Inj mp->Inj cj
 |[],mp,cj,h,hi=>by obtain rfl:=osj h;exact hi
 |(t,src)::r,mp,cj,h,hi=>by
  simp only[Z01] at h;split at h
  .rename_i a _;split at h
   .cases h
   .rename_i hc;refine He r _ _ h ?_;have cR:∀ d,QO mp d≠some (some a):=λd hd=>by
     obtain⟨p,h1,h2,h3⟩:=LN hd;apply hc;simp only[zy];exact .inl (xD.2 ⟨p,h1,by rw[h3];simp⟩)
    intro t1 t2 a' h1 h2;rw[KM] at h1 h2;split at h1
    .rename_i y1 e1;split at h2
     .rename_i y2 e2;obtain rfl:=osj h1;obtain rfl:=osj h2;exact hi t1 t2 a' e1 e2
     .split at h2
      .obtain rfl:=osj (osj h2);obtain rfl:=osj h1;exact absurd e1 (cR t1)
      .cases h2
    .split at h1
     .rename_i e1;obtain rfl:=osj (osj h1);split at h2
      .rename_i y2 e2;obtain rfl:=osj h2;exact absurd e2 (cR t2)
      .split at h2
       .rename_i e2;omega
       .cases h2
     .cases h1
  .split at h
   .cases h
   .refine He r _ _ h ?_;intro t1 t2 a' h1 h2;rw[KM] at h1 h2;split at h1
    .rename_i y1 e1;split at h2
     .rename_i y2 e2;obtain rfl:=osj h1;obtain rfl:=osj h2;exact hi t1 t2 a' e1 e2
     .split at h2<;>cases h2
    .split at h1<;>cases h1
  .cases h
theorem Su {mp:List (Nat×Option Nat)}:∀ {ow:List (Nat×Src×OB)},gmatch.obs s mp ow->∀ p∈ow,Q1l s mp p.1 p.2.2
 |[],_,p,hp=>by cases hp
 |(t,src,b)::r,h,p,hp=>by
  simp only[gmatch.obs] at h;rcases zk.1 hp with rfl|hp
  .exact h.1
  .exact Su h.2 p hp
theorem Vx {f:List (Nat×Src×OB)}:∀ (own:Own) (t:Nat),(∃ p∈f,p.1=t/\Qf (f.foldl (λo p=>oset o p.1 p.2.2) own) t=p.2.2)\/Qf (f.foldl (λo p=>oset o p.1 p.2.2) own) t=Qf own t:=by
 induction f with
 |nil=>intro own t;exact .inr rfl
 |cons p f ih =>
  intro own t;simp only[wi];rcases ih (oset own p.1 p.2.2) t with⟨q,h1,h2⟩|h
  .exact .inl ⟨q,zi _ h1,h2⟩
  .rw[h,Qz];by_cases e:t=p.1
   .rw[z7 e];exact .inl ⟨p,zl,e.symm,rfl⟩
   .rw[z1 e];exact .inr rfl
theorem P5 (hG:Gam P B F pl tb s env U) {mp:List (Nat×Option Nat)}:∀ (st:List (Nat×SV)) {e:List SV}{eV:Env},gmatch.slots s mp st->SRs P B (Mx pl mp) J3 e eV->SRs P B (Mx pl mp) J3 (st.foldl (λe p=>e.set p.1 p.2) e) (XP (st.map (·.1)) (H2 (st.map (·.1)) env) eV)
 |[],e,eV,_,h=>h
 |(j,v)::r,e,eV,hs,h=>by simp only[gmatch.slots] at hs;simp only[wi,zG,H2,XP];exact P5 hG r hs.2 (h.set j (Vu v _ _ hs.1 (hG.env.getD j poison)))
theorem Oq {B:Heap}{pl:Nat->Value}{tb:Nat->Option Bool}:∀ n,SRs P B pl tb (List.replicate n .any) (List.replicate n poison)
 |0=>by simp[SRs]
 |n+1=>by simp only[xC,SRs];exact⟨_,_,rfl,by simp[SR],Oq n⟩
theorem Bo {B0 F0 D0:Heap}(hR:GRel P B0 F0 D0 s env U) {st:List (Nat×SV)}{ow:List (Nat×Src×OB)}(h:gmatch s st ow) (len:Nat):GRel P B0 F0 D0 (Zo len st ow) (XP (st.map (·.1)) (H2 (st.map (·.1)) env) (List.replicate len poison)) U:=by
 obtain⟨B,F,pl,tb,hB,hG⟩:=hR;unfold gmatch at h;split at h
 .rename_i mp oF;obtain⟨h1,h2⟩:=h;have e6:=He _ _ _ oF (λt t' a h=>by cases h);have aK:=Su h2;have aq:∀ t,(Qf (Zo len st ow).own t).live=true->Q1l s mp t (Qf (Zo len st ow).own t):=λt hl=>by
   rcases Vx (f:=ow) [] t with⟨p,h3,h4,h5⟩|h3
   .have:=aK p h3;rw[h4,<-h5] at this;exact this
   .simp only[Zo] at hl;rw[h3] at hl;cases hl
  refine⟨B,F,Mx pl mp,J3,hB,hG.bf,hG.le,P5 hG st h1 (Oq len),λt=>?_,λt i hl hi=>?_,λt t' i az hl cC hi cI=>?_,λ_ _=>rfl⟩
  .cases hl:(Qf (Zo len st ow).own t).live with
   |true=>exact(Zh hG (aq t hl)).1
   |false =>
    cases ho:Qf (Zo len st ow).own t with
    |dead=>trivial
    |stk l vals =>
     rcases Vx (f:=ow) [] t with⟨p,h3,h4,h5⟩|h3
     .have:=aK p h3;simp only[Zo] at ho;rw[<-h5,ho] at this;have h6:=(Zh hG this).1;rw[h4] at h6;exact h6
     .simp only[Zo] at ho;rw[h3] at ho;cases ho
    |lpf l q u =>
     rcases Vx (f:=ow) [] t with⟨p,h3,h4,h5⟩|h3
     .have:=aK p h3;simp only[Zo] at ho;rw[<-h5,ho] at this;have h6:=(Zh hG this).1;rw[h4] at h6;exact h6
     .simp only[Zo] at ho;rw[h3] at ho;cases ho
    |_=>rw[ho] at hl;cases hl
  .obtain⟨a,_,h4,h5⟩:=(Zh hG (aq t hl)).2 hl i hi;exact hG.fresh a i h4 h5
  .obtain⟨a,e1,h4,h5⟩:=(Zh hG (aq t hl)).2 hl i hi;obtain⟨a',e2,gJ,qR⟩:=(Zh hG (aq t' cC)).2 cC i cI;by_cases e:a=a'
   .subst e;exact az (e6 t t' a e1 e2)
   .exact hG.sep a a' i e h4 gJ h5 qR
 .exact h.elim
theorem B3:∀ {dE cM:List SV}{vs:List Value}{B F:Heap}{s s':St},Gam P B F pl tb s env U->SRs P B pl tb dE vs->Q6r s dE=some (s',cM) ->
  ∃ B' F',GBase B F U B' F' U/\Gam P B' F' pl tb s' env U/\SRs P B' X1 J3 cM vs/\s'.env=s.env
 |[],cM,vs,B,F,s,s',hG,hs,h=>by simp only[Q6r,xi,Prod.mk.injEq] at h;obtain⟨rfl,rfl⟩:=h;exact⟨B,F,.of hG.bf (.refl _),hG,hs,rfl⟩
 |v::dE,cM,vs,B,F,s,s',hG,hs,h=>by
  simp only[SRs] at hs;obtain⟨u,us,rfl,h1,h2⟩:=hs
  have oG:∀ w:SV,SR P B pl tb w u->(bif w.pure then (match Q6r s dE with|some (s',r)=>some (s',w::r)|none=>none) else none)=some (s',cM) ->
    ∃ B' F',GBase B F U B' F' U/\Gam P B' F' pl tb s' env U/\SRs P B' X1 J3 cM (u::us)/\s'.env=s.env:=λw hw h=>by
   cases hp:w.pure with
   |false=>rw[hp] at h;cases h
   |true =>
    rw[hp] at h;simp only[zm] at h;split at h
    .rename_i s1 r heq;simp only[xi,Prod.mk.injEq] at h;obtain⟨rfl,rfl⟩:=h;obtain⟨B',F',k1,k2,k3,k4⟩:=B3 hG h2 heq;exact⟨B',F',k1,k2,by simp only[SRs];exact⟨u,us,rfl,SR.mono k1.b (λ_ _ h=>h) _ _ (TK w u hp hw),k3⟩,k4⟩
    .cases h
  simp only[Q6r] at h;split at h
  .rename_i o;split at h
   .rename_i l _ ho;cases hp:SVs.pure l with
    |false=>rw[hp] at h;cases h
    |true =>
     rw[hp] at h;simp only[zm] at h;split at h
     .rename_i s1 r heq;simp only[xi,Prod.mk.injEq] at h;obtain⟨rfl,rfl⟩:=h;have aq:=hG.obj o;rw[ho] at aq;obtain⟨i,c,e,t,e1,e2,e3,_⟩:=aq;obtain⟨k1,k2⟩:=hG.freeze (o:=o) (i:=i) (by rw[ho];rfl) (by rw[e1];rfl);obtain⟨B',F',j1,j2,j3,j4⟩:=B3 k2 (SRs.mono k1.b (λ_ _ h=>h) _ _ h2) heq;refine⟨B',F',k1.trans j1,j2,?_,j4⟩;simp only[SRs];refine⟨u,us,rfl,?_,j3⟩;simp only[SR] at h1 |-;obtain⟨b,q1,q2⟩:=h1;rw[e1] at q1;obtain rfl:i=b:=by simpa using q1
      refine⟨i,c,e,true,t,j1.b.2 _ _ ?_,q2,SRs.mono (k1.trans j1).b (λ_ _ h=>h) _ _ (Zr l c hp e3)⟩;rw[Heap.q0m];exact e2
     .cases h
   .cases h
  .exact oG _ h1 h
theorem Gam.lpUpd (hG:Gam P B F pl tb s env U) {n:Nat}{b b0:Blk}(hF:F.get n=some b0) (hB:B.get n=none):Gam P B (F.upd n b) pl tb s env (U.upd n b):=by
 have az:∀ {d i},(Qf s.own d).live=true->Oid (pl d) i->i≠n:=λh1 h2 e=>by have:=hG.fresh _ _ h1 h2;subst e;rw[hF] at this;cases this
 refine⟨⟨hG.bf.1,λi c hc=>?_⟩,⟨hG.le.1,λi c hc=>?_⟩,hG.env,λd=>(hG.obj d).mono (.refl _) (λ_ _ h=>h) λh1 i h2=>Heap.q0b _ _ (az h1 h2),λd i h1 h2=>?_,hG.sep,hG.free⟩
 .have:i≠n:=by rintro rfl;rw[hB] at hc;cases hc
  rw[Heap.q0b _ _ this];exact hG.bf.2 _ _ hc
 .by_cases e:i=n
  .subst e;rw[Heap.q0c _ _ (F.lt hF)] at hc;rw[Heap.q0c _ _ (xj (F.lt hF) hG.le.1)];exact hc
  .rw[Heap.q0b _ _ e] at hc |-;exact hG.le.2 _ _ hc
 .rw[Heap.q0b _ _ (az h1 h2)];exact hG.fresh _ _ h1 h2
theorem Gam.lpKill (hG:Gam P B F pl tb s env U) {n:Nat}{b0:Blk}(hF:F.get n=some b0) (hB:B.get n=none):Gam P B (F.kill n) pl tb s env (U.kill n):=by
 have az:∀ {d i},(Qf s.own d).live=true->Oid (pl d) i->i≠n:=λh1 h2 e=>by have:=hG.fresh _ _ h1 h2;subst e;rw[hF] at this;cases this
 refine⟨⟨hG.bf.1,λi c hc=>?_⟩,⟨hG.le.1,λi c hc=>?_⟩,hG.env,λd=>(hG.obj d).mono (.refl _) (λ_ _ h=>h) λh1 i h2=>Heap.q0d _ (az h1 h2),λd i h1 h2=>?_,hG.sep,hG.free⟩
 .have:i≠n:=by rintro rfl;rw[hB] at hc;cases hc
  rw[Heap.q0d _ this];exact hG.bf.2 _ _ hc
 .by_cases e:i=n
  .subst e;rw[Heap.q0f] at hc;cases hc
  .rw[Heap.q0d _ e] at hc |-;exact hG.le.2 _ _ hc
 .rw[Heap.q0d _ (az h1 h2)];exact hG.fresh _ _ h1 h2
theorem GRel.lpUpd {B1 F1 D0:Heap}(h:GRel P B1 F1 D0 s env U) {n:Nat}{b b0:Blk}(hF:F1.get n=some b0) (hB:B1.get n=none):GRel P B1 (F1.upd n b) D0 s env (U.upd n b):=by
 obtain⟨B,F,pl,tb,dC,hG⟩:=h;have oH:=dC.f.2 _ _ hF;have oI:=dC.x _ _ hF hB;refine⟨B,F.upd n b,pl,tb,⟨dC.b,⟨dC.f.1,λi c hc=>?_⟩,λi c h1 h2=>?_,⟨dC.d.1,λi h1 h2=>?_⟩⟩,hG.lpUpd oH oI⟩
 .by_cases e:i=n
  .subst e;rw[Heap.q0c _ _ (F1.lt hF)] at hc;rw[Heap.q0c _ _ (F.lt oH)];exact hc
  .rw[Heap.q0b _ _ e] at hc |-;exact dC.f.2 _ _ hc
 .by_cases e:i=n
  .subst e;exact oI
  .rw[Heap.q0b _ _ e] at h1;exact dC.x _ _ h1 h2
 .have hd:=dC.d.2 i h1 h2;have:i≠n:=by rintro rfl;rw[hG.le.2 _ _ oH] at hd;cases hd
  rw[Heap.q0b _ _ this];exact hd
theorem GRel.lpKill {B1 F1 D0:Heap}(h:GRel P B1 F1 D0 s env U) {n:Nat}{b0:Blk}(hF:F1.get n=some b0) (hB:B1.get n=none):GRel P B1 (F1.kill n) D0 s env (U.kill n):=by
 obtain⟨B,F,pl,tb,dC,hG⟩:=h;have oH:=dC.f.2 _ _ hF;have oI:=dC.x _ _ hF hB;refine⟨B,F.kill n,pl,tb,⟨dC.b,⟨dC.f.1,λi c hc=>?_⟩,λi c h1 h2=>?_,⟨dC.d.1,λi h1 h2=>?_⟩⟩,hG.lpKill oH oI⟩
 .by_cases e:i=n
  .subst e;rw[Heap.q0f] at hc;cases hc
  .rw[Heap.q0d _ e] at hc |-;exact dC.f.2 _ _ hc
 .by_cases e:i=n
  .subst e;exact oI
  .rw[Heap.q0d _ e] at h1;exact dC.x _ _ h1 h2
 .have hd:=dC.d.2 i h1 h2;by_cases e:i=n
  .subst e;exact Heap.q0f _ _
  .rw[Heap.q0d _ e];exact hd
theorem GRel.base {B0 F0 B1 F1 D0:Heap}(h:GRel P B1 F1 D0 s env U) (hb:B0.Le B1) (hf:F0.Le F1) (hx:∀ i b,F0.get i=some b->B0.get i=none->B1.get i=none):GRel P B0 F0 D0 s env U:=by obtain⟨B,F,pl,tb,dC,hG⟩:=h;exact⟨B,F,pl,tb,⟨hb.trans dC.b,hf.trans dC.f,λi b h1 h2=>dC.x i b (hf.2 _ _ h1) (hx i b h1 h2),dC.d⟩,hG⟩
theorem Bt (hG:Gam P B F pl tb s env U) {mp:List (Nat×Option Nat)}:∀ (st:List (Nat×SV)) {e:List SV},gmatch.slots s mp st->SRs P B (Mx pl mp) J3 e env->SRs P B (Mx pl mp) J3 (st.foldl (λe p=>e.set p.1 p.2) e) env
 |[],e,_,h=>h
 |(j,v)::r,e,hs,h=>by
  simp only[gmatch.slots] at hs;simp only[wi];refine Bt hG r hs.2 ?_;have:=h.set j (Vu v _ _ hs.1 (hG.env.getD j poison));by_cases hj:j<env.length
  .rwa [zd,z6 hj,Option.getD_some,List.set_getElem_self] at this
  .rw[List.set_eq_of_length_le (by rw[h.length];omega)];exact h
theorem E0 {B:Heap}{pl:Nat->Value}{tb:Nat->Option Bool}:∀ (env:Env),SRs P B pl tb (List.replicate (List.length env) .any) env
 |[]=>by simp[SRs]
 |v::env=>by simp only[zS,xC,SRs];exact⟨_,_,rfl,by simp[SR],E0 env⟩
theorem Uk {B0 F0 D0:Heap}(hR:GRel P B0 F0 D0 s env U) {st:List (Nat×SV)}{ow:List (Nat×Src×OB)}(h:gmatch s st ow):GRel P B0 F0 D0 (Zo (List.length env) st ow) env U:=by
 obtain⟨B,F,pl,tb,hB,hG⟩:=hR;unfold gmatch at h;split at h
 .rename_i mp oF;obtain⟨h1,h2⟩:=h;have e6:=He _ _ _ oF (λt t' a h=>by cases h);have aK:=Su h2;have aq:∀ t,(Qf (Zo (List.length env) st ow).own t).live=true->Q1l s mp t (Qf (Zo (List.length env) st ow).own t):=λt hl=>by
   rcases Vx (f:=ow) [] t with⟨p,h3,h4,h5⟩|h3
   .have:=aK p h3;rw[h4,<-h5] at this;exact this
   .simp only[Zo] at hl;rw[h3] at hl;cases hl
  refine⟨B,F,Mx pl mp,J3,hB,hG.bf,hG.le,Bt hG st h1 (E0 env),λt=>?_,λt i hl hi=>?_,λt t' i az hl cC hi cI=>?_,λ_ _=>rfl⟩
  .cases hl:(Qf (Zo (List.length env) st ow).own t).live with
   |true=>exact(Zh hG (aq t hl)).1
   |false =>
    cases ho:Qf (Zo (List.length env) st ow).own t with
    |dead=>trivial
    |stk l vals =>
     rcases Vx (f:=ow) [] t with⟨p,h3,h4,h5⟩|h3
     .have:=aK p h3;simp only[Zo] at ho;rw[<-h5,ho] at this;have h6:=(Zh hG this).1;rw[h4] at h6;exact h6
     .simp only[Zo] at ho;rw[h3] at ho;cases ho
    |lpf l q u =>
     rcases Vx (f:=ow) [] t with⟨p,h3,h4,h5⟩|h3
     .have:=aK p h3;simp only[Zo] at ho;rw[<-h5,ho] at this;have h6:=(Zh hG this).1;rw[h4] at h6;exact h6
     .simp only[Zo] at ho;rw[h3] at ho;cases ho
    |_=>rw[ho] at hl;cases hl
  .obtain⟨a,_,h4,h5⟩:=(Zh hG (aq t hl)).2 hl i hi;exact hG.fresh a i h4 h5
  .obtain⟨a,e1,h4,h5⟩:=(Zh hG (aq t hl)).2 hl i hi;obtain⟨a',e2,gJ,qR⟩:=(Zh hG (aq t' cC)).2 cC i cI;by_cases e:a=a'
   .subst e;exact az (e6 t t' a e1 e2)
   .exact hG.sep a a' i e h4 gJ h5 qR
 .exact h.elim
theorem R_ {α:Type}{o:Option α}{f:α->Prop}(h:Zf o f):∃ a,f a:=by
 cases o with
 |none=>exact h.elim
 |some a=>exact⟨a,h⟩
theorem COk.nx {C:Cx}(h:COk P C):COk P C.nx:=⟨h.cs,λf x hx=>(by cases hx),h.it,h.yl,h.iy,λf j _ x hx=>(by cases hx)⟩
theorem Y0 {S:VSpecs}{Q:Prop}:∀ {ops:List DOper}{env:Env}{hs:List Heap}{U:Heap}{pend:List (Nat×(Heap->Prop))},Ju S ops env hs U pend (λ_ _=>Q)->Q
 |[],_,_,_,_,h=>h
 |o::r,env,hs,U,pend,h=>by
  simp only[Ju] at h;obtain⟨b,h⟩:=R_ h;cases b with
  |true =>
   have h:=h.1 rfl;split at h
   .obtain⟨v,U',_,_,h⟩:=h;exact Y0 h
   .split at h
    .obtain⟨p,_,h⟩:=R_ h;exact Y0 h
    .obtain⟨p,h⟩:=R_ h;exact Y0 h
  |false =>
   have h:=h.2 rfl;split at h
   .exact Y0 h.2
   .exact Y0 h
theorem Pg {C:Cx}{s:St}{st:List (Nat×SV)}{ow:List (Nat×Src×OB)}{Q:Prop}:∀ (ls:List (List DOper)),Q5q C ls s st ow Q->(∀ l∈ls,Xx C.nx l s 1 0 [] [] λs'=>Ba s.env.length s' st ow)/\Q
 |[],h=>⟨λl hl=>(by cases hl),h⟩
 |l::ls,h=>by obtain⟨h1,h2⟩:=h;obtain⟨h3,h4⟩:=Pg ls h2;exact⟨λl' cC=>(zk.1 cC).elim (λe=>e▸h1) (h3 l'),h4⟩
theorem Un {B0 F0 D0:Heap}{s:St}{env:Env}{U:Heap}{n:Nat}(hR:GRel P B0 F0 D0 s env U) {st:List (Nat×SV)}{ow:List (Nat×Src×OB)}(h:Ba n s st ow):GRel P B0 F0 D0 (Zo n st ow) env U:=by
 unfold Ba at h;cases hb:Nat.beq s.env.length n with
 |false=>rw[hb] at h;exact h.elim
 |true =>
  rw[hb] at h;have hl:env.length=n:=by rw[<-zV hb];obtain⟨_,_,_,_,_,hG⟩:=hR;exact hG.env.length.symm
  rw[<-hl];exact Uk hR h
theorem WY {C:Cx}(aC:COk P C) {B0 F0 D0:Heap}:∀ (aR:List DSeg) {s:St}{env:Env}{U:Heap},GRel P B0 F0 D0 s env U->∀ {K:St->Prop},RB C aR s K->∀ {R:Env->Heap->Prop},(∀ s' af U',K s'->GRel P B0 F0 D0 s' af U'->R af U')->Mu (Q5 P) aR env U R
 |[],s,env,U,hR,K,h,R,hK=>hK s env U h hR
 |.one o::r,s,env,U,hR,K,h,R,hK=>by refine Mf aC [o] hR (K:=λs'=>RB C r s' K) h λs' af U' h1 h2=>?_;exact WY aC r h2 h1 hK
 |.alts [l]::r,s,env,U,hR,K,h,R,hK=>by
  simp only[RB] at h;cases hd:Q2c l with
  |false =>
   rw[hd] at h;simp only[zW] at h;cases hk:l.all (λo=>o.kind==o.op.kind) with
   |false=>rw[hk] at h;exact h.elim
   |true =>
    rw[hk] at h;simp only[zm] at h;intro ops ho;obtain rfl:=zh.1 ho;obtain⟨B,F,pl,tb,hB,hG⟩:=hR;have one:∀ (j:Nat) (Z:Heap),([U]:List Heap)[j]?=some Z->Z=U:=λj Z ht=>by
     cases j with
     |zero=>simpa using ht.symm
     |succ j=>simp at ht
    exact Qy aC ops (λo ho=>by simpa using zf.1 hk o ho) hB hG (hl:=1) (chg:=0) (A:=[]) (Rd:=[]) ⟨rfl,λj Z _ ht=>one j Z ht,(λc hc=>absurd hc (by simp)),λj Z q i ht _ _ _=>by rw[one j Z ht]⟩ (pend:=[]) (pd:=[]) (λc hc=>absurd hc (by simp)) (λj Z ht _=>by rw[one j Z ht];exact hG.leB) (Nat.zero_le _) (Nat.succ_pos _) h λs' af U' h1 h2=>⟨af,U',.refl _ _ _,WY aC r h2 h1 hK⟩
  |true =>rw[hd] at h;refine Oz (l:=l) hd ?_;exact Mf aC _ hR h λs' af U' h1 h2=>WY aC r h2 h1 hK
 |.alts []::r,s,env,U,hR,K,h,R,hK=>h.elim
 |.alts (l::l2::ls)::r,s,env,U,hR,K,h,R,hK=>by
  simp only[RB] at h;cases hk:(l::l2::ls).all (λl=>l.all λo=>o.kind==o.op.kind) with
  |false=>rw[hk] at h;exact h.elim
  |true =>
   rw[hk] at h;simp only[zm] at h;obtain⟨B,F,pl,tb,hB,hG⟩:=hR;have one:∀ (j:Nat) (Z:Heap),([U]:List Heap)[j]?=some Z->Z=U:=λj Z ht=>by
    cases j with
    |zero=>simpa using ht.symm
    |succ j=>simp at ht
   have run:∀ l'∈l::l2::ls,∀ {K':St->Prop},Xx C.nx l' s 1 0 [] [] K'->∀ {R':Env->Heap->Prop},(∀ s' af U',K' s'->GRel P B0 F0 D0 s' af U'->R' af U')->Ju (Q5 P) l' env [U] U [] R':=λl' cC K' h' R' qO =>
    Qx aC.nx rfl l' (λo ho=>by simpa using zf.1 (zf.1 hk l' cC) o ho) hB hG (hl:=1) (chg:=0) (A:=[]) (Rd:=[]) ⟨rfl,λj Z _ ht=>one j Z ht,(λc hc=>absurd hc (by simp)),λj Z q i ht _ _ _=>by rw[one j Z ht]⟩ (pend:=[]) (pd:=[]) (λc hc=>absurd hc (by simp)) (λj Z ht _=>by rw[one j Z ht];exact hG.leB) (Nat.zero_le _) (Nat.succ_pos _) h' qO
   obtain⟨s0,h0,h1⟩:=Y0 (run l zl h (R':=λ_ _=>∃ s0:St,_) λs' _ _ h' _=>⟨s',h'⟩);obtain⟨h2,h3⟩:=Pg _ h1;intro ops ho;rcases zk.1 ho with rfl|eW
   .refine Y1 ?_;exact run ops ho h λs' af U' h' qS=>⟨af,U',.refl _ _ _,by
     obtain⟨k1,k2⟩:=h';exact WY aC r (Un qS k1) (Pg _ k2).2 hK⟩
   .refine Y1 ?_;exact run ops ho (h2 ops eW) λs' af U' h' qS=>⟨af,U',.refl _ _ _,WY aC r (Un qS h') h3 hK⟩
theorem Py:∀ (l:List Nat) (vs:List SV),(Q7l l vs).map (·.1)=l
 |[],_=>rfl
 |j::js,[]=>by simp[Q7l,Py js []]
 |j::js,v::vs=>by simp[Q7l,Py js vs]
theorem Nu {B:Heap}{pl:Nat->Value}{tb:Nat->Option Bool}:∀ {ps:List Nat}{xs:List SV}{us:List Value}{e:List SV}{env:Env},SRs P B pl tb xs us->SRs P B pl tb e env->SRs P B pl tb (Dj e ps xs) (Hy env ps us)
 |[],xs,us,e,env,_,h=>by simpa [Dj,Hy] using h
 |p::ps,[],us,e,env,hx,h=>by simp only[SRs] at hx;subst hx;simpa [Dj,Hy] using h
 |p::ps,x::xs,us,e,env,hx,h=>by simp only[SRs] at hx;obtain⟨u,jA,rfl,h1,h2⟩:=hx;simp only[Dj,Hy];exact Nu h2 (h.set p h1)
def Z2o (F0:Heap):Option Nat->Prop
 |none=>True
 |some i=>∃ env r st pend,F0.get i=some (.obj (.lp env r st pend) true)
theorem Gam.dropLp {B F:Heap}{pl:Nat->Value}{tb:Nat->Option Bool}{s:St}{env:Env}{U:Heap}(hG:Gam P B F pl tb s env U) {o:Nat}{l:List SV}{q:LpD}{u:LpS}(ho:Qf s.own o=.lpf l q u) (hl:u.live=true) :
  Gam P B F pl tb ⟨l,oset s.own o .dead,s.nx⟩ q.vals (U.kill q.i)/\U.get q.i=some (.obj (.lp q.vals q.r u.st u.pend) true):=by
 have aq:=hG.obj o;rw[ho] at aq;obtain⟨h1,h2,h3⟩:=aq;have jM:(Qf s.own o).live=true:=by rw[ho];exact hl
 have j5:Oid (pl o) q.i:=by rw[h1];rfl
 have hF:=hG.fresh o q.i jM j5;have lv:∀ d,(Qf (oset s.own o .dead) d).live=true->d≠o/\(Qf s.own d).live=true:=λd h=>by
  rw[Qz] at h;by_cases e:d=o
  .rw[z7 e] at h;cases h
  .rw[z1 e] at h;exact⟨e,h⟩
 refine⟨⟨hG.bf,⟨hG.le.1,λj b hb=>?_⟩,h2,λd=>?_,λd i hd hi=>hG.fresh d i (lv d hd).2 hi,λd d' i e h h'=>hG.sep d d' i e (lv d h).2 (lv d' h').2,hG.free⟩,h3 hl⟩
 .have e:j≠q.i:=by rintro rfl;rw[hF] at hb;cases hb
  rw[Heap.q0d _ e];exact hG.le.2 _ _ hb
 .rw[Qz];by_cases e:d=o
  .rw[z7 e];trivial
  .rw[z1 e];refine (hG.obj d).mono (.refl _) (λ_ _ h=>h) λhd i hi=>?_;have:i≠q.i:=by rintro rfl;exact hG.sep d o q.i e hd jM hi j5
   exact Heap.q0d _ this
theorem OK (s:St) (o:Nat) (b:OB) (j:Nat):Qf (s.make o b).own j=if j=o then b else (Qf s.own j).kill o:=by
 simp only[St.make,Qz];by_cases h:j=o
 .subst h;simp
 .simp only[h,if_false,St.kill,Vl]
theorem Gam.enterLp {B F:Heap}{pl:Nat->Value}{tb:Nat->Option Bool}{s:St}{env:Env}{U:Heap}(hG:Gam P B F pl tb s env U) {o aM:Nat}{l:List SV}{q:LpD}(ho:Qf s.own o=.lpf l q .rdy) (az:o≠aM)
  {args:List SV}{us:List Value}(aB:SRs P B pl tb args us) (ps:List Nat) :
  Gam P B (F.ins U q.i hG.le.1) (JN pl aM poison) tb ⟨Dj (SVs.kill aM l) ps (SVs.kill aM args),oset (Cb aM env s).own o (.lpf (SVs.kill aM l) q .busy),s.nx⟩ (Hy q.vals ps us) U:=by
 have q3:Gam P B F (JN pl aM poison) tb (Cb aM env s) env U:=by refine hG.make aM _ poison hG.le (λ_ _ _ _ _=>rfl) ?_ (λi hl _=>by cases hl);exact SRs.upd (.refl _) (λ_ _ h=>h) (λj hj=>by simp[JN,hj]) _ _ hG.env
 have aq:=hG.obj o;rw[ho] at aq;obtain⟨h1,h2,h3⟩:=aq;have jM:(Qf s.own o).live=true:=by rw[ho];rfl
 have iB:JN pl aM poison o=.pointer (some ⟨q.i,0,none⟩):=by simp[JN,az,h1]
 have uz:Qf (Cb aM env s).own o=.lpf (SVs.kill aM l) q .rdy:=by have:=OK s aM (.stk (SVs.kill aM s.env) env) o;unfold Cb;rw[this,z1 az,ho];rfl
 have oJ:(Qf (Cb aM env s).own o).live=true:=by rw[uz];rfl
 have j5:Oid (JN pl aM poison o) q.i:=by rw[iB];rfl
 have hF:=q3.fresh o q.i oJ j5;have b9:SRs P B (JN pl aM poison) tb (SVs.kill aM l) q.vals:=SRs.upd (.refl _) (λ_ _ h=>h) (λj hj=>by simp[JN,hj]) _ _ h2;have uA:SRs P B (JN pl aM poison) tb (SVs.kill aM args) us:=SRs.upd (.refl _) (λ_ _ h=>h) (λj hj=>by simp[JN,hj]) _ _ aB;have lv:∀ d,(Qf (oset (Cb aM env s).own o (.lpf (SVs.kill aM l) q .busy)) d).live=true->d≠o/\(Qf (Cb aM env s).own d).live=true:=λd h=>by
  rw[Qz] at h;by_cases e:d=o
  .rw[z7 e] at h;cases h
  .rw[z1 e] at h;exact⟨e,h⟩
 refine⟨q3.bf.trans (hG.le.ins _),hG.le.q2a _,Nu uA b9,λd=>?_,λd i hd hi=>?_,λd d' i e h h'=>q3.sep d d' i e (lv d h).2 (lv d' h').2,q3.free⟩
 .show OR P B _ tb U _ (Qf (oset _ o _) d);rw[Qz];by_cases e:d=o
  .subst e;rw[z7 rfl];exact⟨iB,b9,λh=>by cases h⟩
  .rw[z1 e];exact q3.obj d
 .obtain⟨e,si⟩:=lv d hd;have:i≠q.i:=by rintro rfl;exact q3.sep d o q.i e si oJ hi j5
  rw[Heap.q1b _ _ _ this];exact q3.fresh d i si hi
theorem Gam.leaveLp {B F:Heap}{pl:Nat->Value}{tb:Nat->Option Bool}{s:St}{env:Env}{U:Heap}(hG:Gam P B F pl tb s env U) {o aM:Nat}{l l2:List SV}{kT:List Value}{q:LpD}{b0:Blk}(hF:F.get q.i=some b0) (hB:B.get q.i=none)
  (h2:Qf s.own aM=.stk l2 kT) (ho:Qf s.own o=.lpf l q .busy) (u:LpS) :
  Gam P B (F.kill q.i) pl tb ⟨l2,oset (oset s.own aM .dead) o (.lpf l q u),s.nx⟩ kT (U.upd q.i (.obj (.lp q.vals q.r u.st u.pend) true)):=by
 have aq:=hG.obj o;rw[ho] at aq;obtain⟨k1,k2,_⟩:=aq;have hk:=hG.obj aM;rw[h2] at hk;have hi:q.i<U.n:=U.lt (hG.le.2 _ _ hF);have az:∀ {d i},(Qf s.own d).live=true->Oid (pl d) i->i≠q.i:=λh1 h2 e=>by have:=hG.fresh _ _ h1 h2;subst e;rw[hF] at this;cases this
 have j5:∀ i,Oid (pl o) i->i=q.i:=λi h=>by rw[k1] at h;exact(osj h).symm
 have hg:∀ d,Qf (oset (oset s.own aM .dead) o (.lpf l q u)) d=if d=o then .lpf l q u else if d=aM then .dead else Qf s.own d:=λd=>by rw[Qz,Qz]
 have lv:∀ d,d≠o->(Qf (oset (oset s.own aM .dead) o (.lpf l q u)) d).live=true->(Qf s.own d).live=true:=λd e h=>by
  rw[hg,z1 e] at h;split at h
  .cases h
  .exact h
 refine⟨⟨hG.bf.1,λj b hb=>?_⟩,⟨hG.le.1,λj b hb=>?_⟩,hk,λd=>?_,λd i hd cI=>?_,λd d' i e h h' h1 jz=>?_,hG.free⟩
 .have e:j≠q.i:=by rintro rfl;rw[hB] at hb;cases hb
  rw[Heap.q0d _ e];exact hG.bf.2 _ _ hb
 .by_cases e:j=q.i
  .subst e;rw[Heap.q0f] at hb;cases hb
  .rw[Heap.q0d _ e] at hb;rw[Heap.q0b _ _ e];exact hG.le.2 _ _ hb
 .show OR P B pl tb _ _ (Qf (oset _ o _) d);rw[hg];by_cases e:d=o
  .subst e;rw[z7 rfl];exact⟨k1,k2,λ_=>Heap.q0c _ _ hi⟩
  .rw[z1 e];split
   .trivial
   .exact(hG.obj d).mono (.refl _) (λ_ _ h=>h) λhd i hi=>Heap.q0b _ _ (az hd hi)
 .by_cases e:d=o
  .subst e;rw[j5 i cI];exact Heap.q0f _ _
  .rw[Heap.q0d _ (az (lv d e hd) cI)];exact hG.fresh d i (lv d e hd) cI
 .by_cases e1:d=o
  .subst e1;have e2:d'≠d:=λh=>e h.symm;exact az (lv d' e2 h') jz (j5 i h1)
  .by_cases e2:d'=o
   .subst e2;exact az (lv d e1 h) h1 (j5 i jz)
   .exact hG.sep d d' i e (lv d e1 h) (lv d' e2 h') h1 jz
theorem VA {C:Cx}(aC:COk P C) {L:List (Nat×LoopAnn)}(vc:VCode):∀ {B0 F0 D0:Heap}(n:Nat) (K:Exit->St->Prop) (s:St) (env:Env) (U:Heap) (ro:Option Nat) (Q:Exit->Env->Heap->Prop),Z2o F0 ro->GRel P B0 F0 D0 s env U->gwp C L vc n K s->(∀ e s' af U',K e s'->GRel P B0 F0 D0 s' af U'->Q e af U')->vwp (Q5 P) vc ro Q env U:=by
 induction vc with
 |skip=>intro B0 F0 D0 n K s env U ro Q bO hR h hK;exact hK _ _ _ _ h hR
 |region ops=>intro B0 F0 D0 n K s env U ro Q bO hR h hK;exact Mf aC ops hR h λs' af U' h1 h2=>hK _ _ _ _ h1 h2
 |regionD aR=>intro B0 F0 D0 n K s env U ro Q bO hR h hK;exact WY aC aR hR h λs' af U' h1 h2=>hK _ _ _ _ h1 h2
 |rangeF g ps a b fG fb =>
  intro B0 F0 D0 n K s env U ro Q bO hR h hK;simp only[gwp] at h;split at h
  .rename_i f first dE hg
   split at h
   .
    rename_i x hx;obtain⟨B,F,pl,tb,hB,hG⟩:=hR;have gX:=hG.evs (Gds.nil (tb:=tb)) g;rw[hg] at gX;simp only[SR] at gX;obtain⟨x',y',bG,mf,oK⟩:=gX;obtain⟨iM,mT⟩:=aC.iy f x hx;show vwp (Q5 P) (.rangeF g ps a b) ro Q env U;simp only[vwp,LF,bG];have mg:(Q5 P).it f=some λi Y args U K=>Va P i Y->VCallsTo P f args U K:=by simp only[Q5];rw[z7 iM]
    rw[mg];refine⟨?_,λr hY=>?_⟩
    .cases ro with
     |none=>trivial
     |some i =>obtain⟨e1,r1,st1,qT,hi⟩:=bO;exact⟨e1,r1,st1,qT,hG.le.2 _ _ (hB.f.2 _ _ hi)⟩
    generalize ky:C.off+2000000+n=o at h;generalize fT:100000*(o+1)-1=aM at h;have ai:o≠aM:=by omega
    let q:LpD:=⟨U.n,env,r⟩;let rdy:Blk:=.obj (.lp env r .ready none) true;let fx:Blk:=.obj (.lp env r .busy none) true;let p0:Value:=.pointer (some ⟨U.n,0,none⟩);have jc:Gam P B F (JN pl o p0) tb (Z5f o q s) env (U.push rdy):=by refine hG.push o (.lpf (SVs.kill o s.env) q .rdy) p0 rdy rfl ⟨rfl,SRs.upd (.refl _) (λ_ _ h=>h) (λj hj=>by simp[JN,hj]) _ _ hG.env,λ_=>Heap.q0a _ _⟩
    have kl:∀ {xs us},SRs P B pl tb xs us->SRs P B (JN pl o p0) tb (SVs.kill o xs) us:=λh=>SRs.upd (.refl _) (λ_ _ h=>h) (λj hj=>by simp[JN,hj]) _ _ h;have aB:SRs P B (JN pl o p0) tb (SVs.kill o first++(.dd o .yv::SVs.kill o dE)) (x'++(.func (.yield U.n) #[] #[]::y')):=by refine (kl mf).append ?_;simp only[SRs,SR,DR];exact⟨_,_,rfl,⟨U.n,by simp[JN,p0],rfl⟩,kl oK⟩
    have uB:Q1q P o (IV o aM ps.length q (λK' s'=>gwp C L a n (Q1c (λs3=>gwp C L b n K' s3) λ_ _=>False) s') ps):=by
     intro B F pl tb s af U args us K R i hG ha hy iB hK;unfold IV at hy;split at hy
     .rename_i l q' u ho;split at hy
      .cases hlen:Nat.beq args.length ps.length with
       |false=>rw[hlen] at hy;exact hy.elim
       |true =>
       rw[hlen] at hy;simp only[zm] at hy;obtain⟨rfl,hy⟩:=hy;have aq:=hG.obj o;rw[ho] at aq;have hi:i=q.i:=by have h1:=aq.1;rw[iB] at h1;have:=osj (Value.pointer.inj h1);exact(Addr.mk.inj this).1
       subst hi;have mh:U.get q.i=some rdy:=aq.2.2 rfl;have jM:(Qf s.own o).live=true:=by rw[ho];rfl
       have mU:F.get q.i=none:=hG.fresh o q.i jM (by rw[aq.1];rfl);have sj:B.get q.i=none:=by
        cases hb:B.get q.i with
        |none=>rfl
        |some b=>rw[hG.bf.2 _ _ hb] at mU;cases mU
       have kZ:=hG.enterLp ho ai ha ps;have je:(F.ins U q.i hG.le.1).get q.i=some rdy:=by rw[Heap.q0m];exact mh
       have fM:(F.ins U q.i hG.le.1).n=U.n:=rfl;have aP:q.i<U.n:=U.lt mh;refine hY us U R ⟨mh,by rw[<-ha.length];exact(zV hlen),?_⟩;refine fG (B0:=B) (F0:=F.ins U q.i hG.le.1) (D0:=U) n _ _ _ U (some q.i) _ ⟨env,r,_,_,je⟩ ⟨B,_,_,tb,.of kZ.bf (Dead.refl _),kZ⟩ (hy af) λe s3 qU σ3 h7 h8=>?_;cases e with
       |normal =>
        have jP:σ3.get q.i=some rdy:=by obtain⟨B',F',pl',tb',q1,q2⟩:=h8;exact q2.le.2 _ _ (q1.f.2 _ _ je)
        refine⟨jP,?_⟩;have h9:=h8.lpUpd (b:=fx) je sj;have mV:((F.ins U q.i hG.le.1).upd q.i fx).get q.i=some fx:=Heap.q0c _ _ (by rw[fM];exact aP);refine fb (B0:=B) (F0:=(F.ins U q.i hG.le.1).upd q.i fx) (D0:=U) n _ _ _ _ (some q.i) _ ⟨env,r,_,_,mV⟩ h9 h7 λe s4 qV σ4 b7 hU=>?_;obtain⟨B',F',pl',tb',q1,q2⟩:=hU;have pF:=q1.f.2 _ _ mV;have qW:=q1.x _ _ mV sj;have jg:σ4.get q.i=some fx:=q2.le.2 _ _ pF;unfold gyK at b7;split at b7
        .rename_i l2 kT l3 q3 u3 av qX;split at b7
         .obtain⟨rfl,rfl,b7⟩:=b7;have base:∀ b,GBase B F U B' (F'.kill q.i) (σ4.upd q.i b):=λb=>by
           refine⟨q1.b,⟨?_,λj c hc=>?_⟩,λj c h1 h2=>?_,q1.d.trans (Dead.upd _ _ _ (by rw[jg];rfl))⟩
           .have h1:=q1.f.1;have h2:=hG.le.1;show F.n<=F'.n;have h3:((F.ins U q.i hG.le.1).upd q.i fx).n=U.n:=rfl;omega
           .have e:j≠q.i:=by rintro rfl;rw[mU] at hc;cases hc
            rw[Heap.q0d _ e];refine q1.f.2 _ _ ?_;rw[Heap.q0b _ _ e,Heap.q1b _ _ _ e];exact hc
           .have e:j≠q.i:=by rintro rfl;rw[mU] at h1;cases h1
            refine q1.x j c ?_ h2;rw[Heap.q0b _ _ e,Heap.q1b _ _ _ e];exact h1
          refine⟨jg,?_⟩;cases e with
          |normal=>exact hK _ _ B' _ pl' tb' _ _ b7 (base _) (q2.leaveLp pF qW av qX .rdy) (by simp[SR,KC])
          |ret=>exact hK _ _ B' _ pl' tb' _ _ b7 (base _) (q2.leaveLp pF qW av qX .ret) (by simp[SR,KC])
          |exit id=>exact hK _ _ B' _ pl' tb' _ _ b7 (base _) (q2.leaveLp pF qW av qX (.exit id)) (by simp[SR,KC])
          |_=>exact b7.elim
         .exact b7.elim
        .exact b7.elim
       |_=>exact h7.elim
      .exact hy.elim
     .exact hy.elim
    have aS:=mT B F _ tb _ env (U.push rdy) o _ _ _ (Q5i o q K) (λZ=>Q25 Q env U.n poison Z) jc aB uB (h q) λs' B' F' pl' tb' af U' hk hb dL=>by
     unfold Q5i at hk;split at hk
     .rename_i l q' u ho;have fin:∀ {e:Exit},u.live=true->q'=q->K e ⟨l,oset s'.own o .dead,s'.nx⟩->Q e env (U'.kill U.n)/\U'.get U.n=some (.obj (.lp env r u.st u.pend) true):=λ{e} hu hq uC=>by
       subst hq;obtain⟨g1,g2⟩:=dL.dropLp ho hu;refine⟨hK _ _ _ _ uC ⟨B',F',pl',tb',⟨hB.b.trans hb.b,hB.f.trans hb.f,λj c h1 h2=>hb.x j c (hB.f.2 _ _ h1) (hB.x j c h1 h2),hB.d.trans ((Dead.push _ _).trans (hb.d.trans (Dead.kill _ _)))⟩,g1⟩,g2⟩
      cases u with
      |busy=>exact hk.elim
      |rdy =>obtain⟨hq,hk⟩:=hk;obtain⟨k1,k2⟩:=fin rfl hq hk;unfold Q25;rw[k2];exact⟨(by intro h;cases h),k1⟩
      |ret =>obtain⟨hq,hk⟩:=hk;obtain⟨k1,k2⟩:=fin rfl hq hk;unfold Q25;rw[k2];exact⟨(by intro h;cases h),k1⟩
      |exit id =>obtain⟨hq,hk⟩:=hk;obtain⟨k1,k2⟩:=fin rfl hq hk;unfold Q25;rw[k2];exact⟨(by intro h;cases h),k1⟩
     .exact hk.elim
    refine VCallsTo.mono (R:=λ_ Z=>Q25 Q env U.n poison Z) (by simpa using aS) λv Z h=>h
   split at h
   rotate_left
   .exact h.elim
   split at h
   .rename_i it s1 cM A nK qY hA;split at h
    .rename_i c m ar xs hc;cases eB:Nat.beq ps.length ar with
     |false=>rw[eB] at h;exact h.elim
     |true =>
     rw[eB] at h;simp only[zm] at h;obtain⟨dP,p,d0,eJ,I,uD,sk,so⟩:=h;have eB:=zV eB;have hlen:s.env.length=env.length:=by obtain⟨B,F,pl,tb,_,hG⟩:=hR;exact hG.env.length
     rw[hlen] at sk so;have jd:=hR;obtain⟨B,F,pl,tb,hB,hG⟩:=hR;have gX:=hG.evs Gds.nil g;rw[hg] at gX;simp only[SR] at gX;obtain⟨x,y,bG,hx,hy⟩:=gX;simp only[SRs] at hx;subst hx;obtain⟨B1,F1,oL,oM,uE,gP⟩:=B3 hG hy qY;obtain⟨iM,qZ⟩:=aC.it f it nK;obtain⟨oN,q6⟩:=qZ B1 cM y c m ar xs uE hc dP;have uF:GRel P B1 F1 D0 (Zo (List.length env) (A.st p d0) (A.own p d0)) env U:=Uk ⟨B1,F1,pl,tb,⟨.refl _,.refl _,λ_ _ _ h=>h,(hB.trans oL).d⟩,oM⟩ eJ;have mW:B1.get U.n=none:=B1.wf _ oM.leB.1;have uG:F1.get U.n=none:=F1.wf _ oM.le.1;show vwp (Q5 P) (.rangeF g ps a b) ro Q env U;simp only[vwp,LF,bG];have mg:(Q5 P).it f=some λi Y args U K=>Va P i Y->VCallsTo P f args U K:=by simp only[Q5];rw[z7 iM]
     rw[mg];refine⟨?_,λr hY=>?_⟩
     .cases ro with
      |none=>trivial
      |some i =>obtain⟨e1,r1,st1,qT,hi⟩:=bO;exact⟨e1,r1,st1,qT,hG.le.2 _ _ (hB.f.2 _ _ hi)⟩
     .let rdy:Blk:=.obj (.lp env r .ready none) true;let fx:Blk:=.obj (.lp env r .busy none) true;have k_:F1.Le (U.push rdy):=oM.le.push rdy;let Fr:=F1.ins (U.push rdy) U.n k_.1;have je:Fr.get U.n=some rdy:=by
       show (F1.ins _ _ _).get U.n=_;rw[Heap.q0m,Heap.q0a]
      have fM:Fr.n=U.n+1:=rfl;have uH:F1.Le Fr:=k_.ins U.n;let J:Nat->Heap->Prop:=λk Z=>∃ d,I k d/\GRel P B1 Fr D0 (Zo (List.length env) (A.st p d) (A.own p d)) env Z;let E:Heap->Prop:=λZ=>∃ cd e,Z.get U.n=some (.obj (.lp env r .done (some cd)) true)/\((cd=.ret/\e=Exit.ret)\/∃ id,cd=.exit id/\e=Exit.exit id)/\Q e env (Z.kill U.n);have back:∀ {s':St}{Z:Heap},GRel P B1 (Fr.upd U.n fx) D0 s' env Z->∀ b,GRel P B1 ((Fr.upd U.n fx).upd U.n b) D0 s' env (Z.upd U.n b):=λh b =>
       h.lpUpd (b0:=fx) (Heap.q0c _ _ (by rw[fM];omega)) mW
      have jh:∀ {Fx:Heap}{b0:Blk}{s':St}{Z:Heap},Fx.get U.n=some b0->(∀ i,i≠U.n->Fx.get i=F1.get i)->Fx.n=U.n+1->GRel P B1 Fx D0 s' env Z->GRel P B0 F0 D0 s' env (Z.kill U.n):=λ{Fx b0 s' Z} h1 h2 h3 h4=>by
       refine (h4.lpKill h1 mW).base (hB.b.trans oL.b) ⟨?_,λi b hb=>?_⟩ λi b k1 k2=>(hB.trans oL).x i b k1 k2
       .show F0.n<=Fx.n;rw[h3];have:=(hB.trans oL).f.1;have:=oM.le.1;omega
       .have br:=(hB.trans oL).f.2 _ _ hb;have e:i≠U.n:=by rintro rfl;rw[uG] at br;cases br
        rw[Heap.q0d _ e,h2 i e];exact br
      have j6:∀ i,i≠U.n->Fr.get i=F1.get i:=λi e=>Heap.q1b _ _ _ e;have aS:=q6 U.n _ J E (U.push rdy) hY (λk Z ⟨d,_,hd⟩=>?_) (λk us Z hk ⟨d,q8,hd⟩ dO=>?_) ⟨d0,uD,?_⟩
      .refine VCallsTo.mono (R:=λ_ Z=>J m Z\/E Z) (by simpa using aS) λv Z qp=>?_;unfold Q25;rcases qp with⟨d,q8,hd⟩|⟨cd,e,h1,h2,h3⟩
       .have mh:Z.get U.n=some rdy:=by
         obtain⟨B',F',pl',tb',q1,q2⟩:=hd;exact q2.le.2 _ _ (q1.f.2 _ _ je)
        rw[mh];exact⟨(by intro h;cases h),hK _ _ _ _ (so d q8) (jh je j6 fM hd)⟩
       .rw[h1];refine⟨(by intro h;cases h),?_⟩;rcases h2 with⟨rfl,rfl⟩|⟨id,rfl,rfl⟩<;>exact h3
      .obtain⟨B',F',pl',tb',q1,q2⟩:=hd;exact q1.b.trans q2.leB
      .
       have mh:Z.get U.n=some rdy:=by obtain⟨B',F',pl',tb',q1,q2⟩:=hd;exact q2.le.2 _ _ (q1.f.2 _ _ je)
       refine⟨mh,by rw[eB,<-(oN k).1,dO.length],?_⟩;have hF:=sk k d hk q8 env;have bk:GRel P B1 Fr D0 ⟨Dj (Cb (2000000+n) env (Zo (List.length env) (A.st p d) (A.own p d))).env ps (xs k),(Cb (2000000+n) env (Zo (List.length env) (A.st p d) (A.own p d))).own,0⟩ (Hy env ps us) Z:=by
        obtain⟨B',F',pl',tb',q1,q2⟩:=hd;have q3:Gam P B' F' (JN pl' (2000000+n) poison) tb' (Cb (2000000+n) env (Zo (List.length env) (A.st p d) (A.own p d))) env Z:=by refine q2.make (2000000+n) _ poison q2.le (λ_ _ _ _ _=>rfl) ?_ (λi hl _=>by cases hl);exact SRs.upd (.refl _) (λ_ _ h=>h) (λj hj=>by simp[JN,hj]) _ _ q2.env
        refine⟨B',F',JN pl' (2000000+n) poison,tb',q1,⟨q3.bf,q3.le,Nu ?_ q3.env,q3.obj,q3.fresh,q3.sep,?_⟩⟩
        .exact SRs.mono q1.b (λ_ _ h=>h) _ _ (Zr _ _ (oN k).2 dO)
        .exact q3.free
       refine fG (B0:=B1) (F0:=Fr) n _ _ _ Z (some U.n) _ ⟨env,r,_,_,je⟩ bk hF λe s3 qU σ3 h7 h8=>?_;cases e with
       |normal =>
        have jP:σ3.get U.n=some rdy:=by obtain⟨B',F',pl',tb',q1,q2⟩:=h8;exact q2.le.2 _ _ (q1.f.2 _ _ je)
        refine⟨jP,?_⟩;have h9:=h8.lpUpd (b:=fx) je mW;have mV:(Fr.upd U.n fx).get U.n=some fx:=Heap.q0c _ _ (by rw[fM];omega);refine fb (B0:=B1) (F0:=Fr.upd U.n fx) n _ _ _ _ (some U.n) _ ⟨env,r,_,_,mV⟩ h9 h7 λe s4 qV σ4 b7 hU=>?_;have jg:σ4.get U.n=some fx:=by obtain⟨B',F',pl',tb',q1,q2⟩:=hU;exact q2.le.2 _ _ (q1.f.2 _ _ mV)
        have sq:U.n<σ4.n:=σ4.lt jg;unfold Io at b7;split at b7
        .rename_i l vs ji;obtain⟨rfl,b7⟩:=b7;have cR:GRel P B1 (Fr.upd U.n fx) D0 ⟨l,s4.own,s4.nx⟩ vs σ4:=by
          obtain⟨B',F',pl',tb',q1,q2⟩:=hU;have:=q2.obj (2000000+n);rw[ji] at this;exact⟨B',F',pl',tb',q1,q2.bf,q2.le,this,q2.obj,q2.fresh,q2.sep,q2.free⟩
         have mi:∀ b,((Fr.upd U.n fx).upd U.n b).get U.n=some b:=λb=>Heap.q0c _ _ (by show U.n<Fr.n;rw[fM];omega);have q_:∀ b i,i≠U.n->((Fr.upd U.n fx).upd U.n b).get i=F1.get i:=λb i e=>by rw[Heap.q0b _ _ e,Heap.q0b _ _ e,j6 i e]
         refine⟨jg,?_⟩;cases e with
         |normal =>
          obtain⟨d',qG,uI⟩:=b7;refine .inl ⟨rfl,d',uI,?_⟩;have:=(back (Uk cR qG) rdy).base (B0:=B1) (F0:=Fr) (.refl _) ⟨ze _,λi b hb=>?_⟩ λi b k1 k2=>k2
          .exact this
          .by_cases e:i=U.n
           .subst e;rw[je] at hb;rw[mi];exact hb
           .rw[q_ _ _ e,<-j6 i e];exact hb
         |ret =>refine .inr ⟨rfl,_,_,Heap.q0c _ _ sq,.inl ⟨rfl,rfl⟩,hK _ _ _ _ b7 (jh (mi _) (q_ _) (by show Fr.n=_;exact fM) (back cR _))⟩
         |exit id =>refine .inr ⟨rfl,_,_,Heap.q0c _ _ sq,.inr ⟨id,rfl,rfl⟩,hK _ _ _ _ b7 (jh (mi _) (q_ _) (by show Fr.n=_;exact fM) (back cR _))⟩
         |_=>exact b7.elim
        .exact b7.elim
       |_=>exact h7.elim
      .
       obtain⟨B',F',pl',tb',q1,q2⟩:=uF;have hle:F'.Le (U.push rdy):=q2.le.push rdy;have uJ:F'.get U.n=none:=F'.wf _ q2.le.1;have aq:∀ d i,(Qf (Zo (List.length env) (A.st p d0) (A.own p d0)).own d).live=true->Oid (pl' d) i->i<U.n:=λd i h1 h2=>(q2.obj d).q1d h1 h2;refine⟨B',F'.ins (U.push rdy) U.n hle.1,pl',tb',⟨q1.b,Heap.q2b q1.f _ _ _,λi b k1 k2=>?_,q1.d.trans (Dead.push _ _)⟩,⟨q2.bf.trans (hle.ins _),hle.q2a _,q2.env,λd=>(q2.obj d).mono (.refl _) (λ_ _ h=>h) λh1 i h2=>Heap.q0i _ _ (aq d i h1 h2),λd i h1 h2=>?_,q2.sep,q2.free⟩⟩
       .by_cases e:i=U.n
        .subst e;exact B'.wf _ q2.leB.1
        .rw[j6 i e] at k1;exact q1.x i b k1 k2
       .rw[Heap.q1b _ _ _ (Nat.ne_of_lt (aq d i h1 h2))];exact q2.fresh d i h1 h2
    .exact h.elim
   .exact h.elim
  .exact h.elim
 |bad=>intro B0 F0 D0 n K s env U ro Q bO hR h hK;exact h.elim
 |ret=>intro B0 F0 D0 n K s env U ro Q bO hR h hK;exact hK _ _ _ _ h hR
 |exit id=>intro B0 F0 D0 n K s env U ro Q bO hR h hK;exact hK _ _ _ _ h hR
 |seq a b fG fb =>
  intro B0 F0 D0 n K s env U ro Q bO hR h hK;refine fG n _ s env U ro _ bO hR h λe s' af U' h1 h2=>?_;cases e with
  |normal=>exact fb n K s' af U' ro Q bO h2 h1 hK
  |_=>exact hK _ _ _ _ h1 h2
 |cond c a b fG fb =>
  intro B0 F0 D0 n K s env U ro Q bO hR h hK;simp only[gwp] at h;split at h
  .rename_i t ht;have jd:=hR;obtain⟨B,F,pl,tb,hB,hG⟩:=hR;have:=NV hG ht;simp only[vwp,this,IH];cases t with
   |true=>exact⟨λ_=>fG n K s env U ro Q bO jd h hK,λe=>by cases e⟩
   |false=>exact⟨(λe=>by cases e),λ_=>fb n K s env U ro Q bO jd h hK⟩
  split at h
  .rename_i t ht;obtain⟨B,F,pl,tb,hB,hG⟩:=hR;have:=XT ht (hG.evs Gds.nil c);simp only[vwp,this,IH];split at h
   .rename_i A hA;obtain⟨p,I,hF,hI⟩:=h;have fin:∀ e s' af U',Q6d s.env.length A p I K e s'->GRel P B0 F0 D0 s' af U'->Q e af U':=λe s' af U' h1 h2=>by
     cases e with
     |normal =>obtain⟨d,h3,h4⟩:=h1;exact hK _ _ _ _ (hI d h4) (Un h2 h3)
     |_=>exact hK _ _ _ _ h1 h2
    exact⟨λe=>fG n _ s env U ro Q bO ⟨B,F,pl,tb,hB,hG⟩ (hF.1 e) fin,λe=>fb n _ s env U ro Q bO ⟨B,F,pl,tb,hB,hG⟩ (hF.2 e) fin⟩
   exact⟨λe=>fG n K s env U ro Q bO ⟨B,F,pl,tb,hB,hG⟩ (h.1 e) hK,λe=>fb n K s env U ro Q bO ⟨B,F,pl,tb,hB,hG⟩ (h.2 e) hK⟩
  .exact h.elim
 |block id b ih =>
  intro B0 F0 D0 n K s env U ro Q bO hR h hK;refine ih id _ s env U ro _ bO hR h λe s' af U' h1 h2=>?_;cases e with
  |exit iD =>
   simp only[Iu] at h1;simp only[AA];split
   .rename_i e;rw[z7 e] at h1;exact hK _ _ _ _ h1 h2
   .rename_i e;rw[z1 e] at h1;exact hK _ _ _ _ h1 h2
  |_=>exact hK _ _ _ _ h1 h2
 |loop b ih =>
  intro B0 F0 D0 n K s env U ro Q bO hR h hK;simp only[gwp] at h;split at h
  .rename_i A hA;obtain⟨p,d0,h1,I,μ,h2,h3⟩:=h;have hlen:s.env.length=env.length:=by obtain⟨B,F,pl,tb,_,hG⟩:=hR;exact hG.env.length
   have hk:∀ d,(A.st p d).map (·.1)=A.sl:=λd=>Py _ _;refine⟨A.sl,λm vs U'=>∃ d,I d/\μ d=m/\GRel P B0 F0 D0 (Zo s.env.length (A.st p d) (A.own p d)) (XP A.sl vs (List.replicate env.length poison)) U',μ d0,⟨d0,h2,rfl,?_⟩,λm vs U' ⟨d,h4,h5,h6⟩=>?_⟩
   .have:=Bo hR h1 s.env.length;rw[hk d0,hlen] at this;rw[hlen];exact this
   .refine ih n _ _ _ U' ro _ bO h6 (h3 d h4) λe s' af aH h7 h8=>?_;cases e with
    |normal =>
     simp only[Q2e] at h7;cases od:Z4i s'.own with
     |false=>rw[od] at h7;exact h7.elim
     |true =>
     rw[od] at h7;obtain⟨d',h9,b7,hU⟩:=h7;refine⟨μ d',by omega,d',b7,rfl,?_⟩;have:=Bo h8 h9 s.env.length;rw[hk d',hlen] at this;rw[hlen];exact this
    |_=>exact hK _ _ _ _ h7 h8
  .exact h.elim
end
end Go.V
namespace Go.V
open Go
def C4 (s:St):VResult->Option SV
 |.tmp t=>some (s.env.getD t .any)
 |.cell a agg size=>bif Nat.blt 0 size then Q0p s.own agg size (s.env.getD a .any) else none
def Ww (s:St) (rs:List VResult):Option SV :=
 match rs with
 |[r]=>C4 s r
 |rs=>(rs.mapM (C4 s)).map .tup
def Q4z (mp:List (Nat×Option Nat)) (j:Nat) (a:Option Nat):Option (List (Nat×Option Nat)) :=
 if (QO mp j).isSome then none else match a with
 |some x=>if mp.any λp=>p.2==some x then none else some (mp++[(j,a)])
 |none=>some (mp++[(j,a)])
mutual
def I2:SV->SV->List (Nat×Option Nat)->Option (List (Nat×Option Nat))
 |.lst j,v,mp=>match v with|.lst a=>Q4z mp j (some a)|.nilS=>Q4z mp j none|_=>none
 |.map j,v,mp=>match v with|.map a=>Q4z mp j (some a)|_=>none
 |.dd j w,v,mp=>match w with
  |.out=>(match v with
   |.dd a w'=>(match w' with|.out=>Q4z mp j (some a)|_=>none)
   |.nilS=>Q4z mp j none
   |_=>none)
  |_=>none
 |.box j _,v,mp=>match v with|.box a _=>Q4z mp j (some a)|_=>none
 |.agg l,v,mp=>match v with|.agg l'=>Fz l l' mp|_=>none
 |.tup l,v,mp=>match v with|.tup l'=>Fz l l' mp|_=>none
 |.any,_,mp=>some mp
 |.val _ _,_,mp=>some mp
 |.nilS,_,mp=>some mp
 |.nilP,_,mp=>some mp
 |.nilM,_,mp=>some mp
 |.nilF,_,mp=>some mp
 |.sub _ _ _ _,_,_|.elp _ _ _ _,_,_|.grd _ _,_,_|.cp _ _,_,_|.fn _ _ _,_,_|.rop _ _ _ _,_,_|.pf _ _ _ _,_,_|.bid _ _,_,_=>none
def Fz:List SV->List SV->List (Nat×Option Nat)->Option (List (Nat×Option Nat))
 |[],_,mp=>some mp
 |s::ss,l,mp=>match l with
  |v::vs=>match I2 s v mp with|some mp=>Fz ss vs mp|none=>none
  |[]=>none
end
def Q15 (s:St) (mp:List (Nat×Option Nat)):Nat->List OB->Prop
 |_,[]=>True
 |j,b::r=>Q1l s mp j b/\Q15 s mp (j+1) r
def UO (rs:List VResult) (v:SV) (bs:List OB):Exit->St->Prop:=λe s =>
 let fin:=match Ww s rs with
  |some r=>(match I2 v r [] with
   |some mp=>HI mp v r/\Q15 s mp 0 bs
   |none=>False)
  |none=>False
 match e with
 |.normal=>fin
 |.ret=>fin
 |_=>False
section
variable {P:Program}{B F:Heap}{pl:Nat->Value}{tb:Nat->Option Bool}{s:St}{env:Env}{U:Heap}
theorem Hq (hG:Gam P B F pl tb s env U) {r:VResult}{v:SV}(h:C4 s r=some v):∃ u,JI env U r=some u/\SR P B pl tb v u:=by
 cases r with
 |tmp t=>obtain rfl:=osj h;exact⟨_,rfl,hG.env.getD t undef⟩
 |cell a agg size =>
  simp only[C4] at h;cases hb:Nat.blt 0 size with
  |false=>rw[hb] at h;cases h
  |true =>rw[hb] at h;obtain⟨i,o,c,e,wr,t,u,h1,h2,h3,h4⟩:=HB hG.leB hG.obj (by simpa [zR] using hb) h (hG.env.getD a undef);refine⟨u,?_,h4⟩;simp only[JI,Qb,Q6,h1,h2,h3];rfl
theorem XA (hG:Gam P B F pl tb s env U) {rs:List VResult}{v:SV}(h:Ww s rs=some v):∃ u,Jo env U rs=some u/\SR P B pl tb v u:=by
 have all:∀ (rs:List VResult) (l:List SV),rs.mapM (C4 s)=some l->∃ us,rs.mapM (JI env U)=some us/\SRs P B pl tb l us:=by
  intro rs;induction rs with
  |nil=>intro l h;simp at h;subst h;exact⟨[],rfl,rfl⟩
  |cons r rs ih =>
   intro l h;rw[xx] at h;cases h1:C4 s r with
   |none=>simp[h1] at h
   |some a =>
    cases h2:rs.mapM (C4 s) with
    |none=>simp[h1,h2] at h
    |some l' =>simp[h1,h2] at h;subst h;obtain⟨u,h3,h4⟩:=Hq hG h1;obtain⟨us,h5,h6⟩:=ih l' h2;exact⟨u::us,by rw[xx];simp[h3,h5],by simp only[SRs];exact⟨u,us,rfl,h4,h6⟩⟩
 have tup:(rs.mapM (C4 s)).map SV.tup=some v->∃ u,(rs.mapM (JI env U)).map (λvs=>Value.tuple vs.toArray)=some u/\SR P B pl tb v u:=λh=>by simp only[zw] at h;obtain⟨l,h1,rfl⟩:=h;obtain⟨us,h2,h3⟩:=all rs l h1;exact⟨.tuple us.toArray,by rw[h2];rfl,by simp only[SR];exact⟨us,rfl,h3⟩⟩
 match rs,h,tup with
 |[r],h,_=>exact Hq hG h
 |[],h,tup=>exact tup h
 |_::_::_,h,tup=>exact tup h
theorem Mj {mp cj:List (Nat×Option Nat)}{j:Nat}{a:Option Nat}(h:Q4z mp j a=some cj) (hi:Inj mp):Inj cj:=by
 unfold Q4z at h;split at h
 .cases h
 .split at h
  .rename_i x;split at h
   .cases h
   .rename_i hc;obtain rfl:=osj h;have cR:∀ d,QO mp d≠some (some x):=λd hd=>by
     obtain⟨p,h1,h2,h3⟩:=LN hd;exact hc (xD.2 ⟨p,h1,by rw[h3];simp⟩)
    intro t1 t2 a' h1 h2;rw[KM] at h1 h2;split at h1
    .rename_i y1 e1;split at h2
     .rename_i y2 e2;obtain rfl:=osj h1;obtain rfl:=osj h2;exact hi t1 t2 a' e1 e2
     .split at h2
      .obtain rfl:=osj (osj h2);obtain rfl:=osj h1;exact absurd e1 (cR t1)
      .cases h2
    .split at h1
     .obtain rfl:=osj (osj h1);split at h2
      .rename_i y2 e2;obtain rfl:=osj h2;exact absurd e2 (cR t2)
      .split at h2
       .omega
       .cases h2
     .cases h1
  .obtain rfl:=osj h;intro t1 t2 a' h1 h2;rw[KM] at h1 h2;split at h1
   .rename_i y1 e1;split at h2
    .rename_i y2 e2;obtain rfl:=osj h1;obtain rfl:=osj h2;exact hi t1 t2 a' e1 e2
    .split at h2<;>cases h2
   .split at h1<;>cases h1
mutual
theorem Ai:∀ (v r:SV) (mp cj:List (Nat×Option Nat)),I2 v r mp=some cj->Inj mp->Inj cj
 |.lst j,r,mp,cj,h,hi=>by
  simp only[I2] at h;split at h
  .exact Mj h hi
  .exact Mj h hi
  .cases h
 |.map j,r,mp,cj,h,hi=>by
  simp only[I2] at h;split at h
  .exact Mj h hi
  .cases h
 |.dd j w,r,mp,cj,h,hi=>by
  simp only[I2] at h;split at h
  .split at h
   .split at h
    .exact Mj h hi
    .cases h
   .exact Mj h hi
   .cases h
  .cases h
 |.box j _,r,mp,cj,h,hi=>by
  simp only[I2] at h;split at h
  .exact Mj h hi
  .cases h
 |.agg l,r,mp,cj,h,hi=>by
  simp only[I2] at h;split at h
  .exact Hx l _ mp cj h hi
  .cases h
 |.tup l,r,mp,cj,h,hi=>by
  simp only[I2] at h;split at h
  .exact Hx l _ mp cj h hi
  .cases h
 |.any,r,mp,cj,h,hi|.val _ _,r,mp,cj,h,hi|.nilS,r,mp,cj,h,hi|.nilP,r,mp,cj,h,hi|.nilM,r,mp,cj,h,hi|.nilF,r,mp,cj,h,hi=>by simp only[I2] at h;obtain rfl:=osj h;exact hi
 |.sub _ _ _ _,r,mp,cj,h,hi|.elp _ _ _ _,r,mp,cj,h,hi|.grd _ _,r,mp,cj,h,hi|.cp _ _,r,mp,cj,h,hi|.fn _ _ _,r,mp,cj,h,hi|.rop _ _ _ _,r,mp,cj,h,hi|.pf _ _ _ _,r,mp,cj,h,hi|.bid _ _,r,mp,cj,h,hi=>by cases h
theorem Hx:∀ (v r:List SV) (mp cj:List (Nat×Option Nat)),Fz v r mp=some cj->Inj mp->Inj cj
 |[],r,mp,cj,h,hi=>by simp only[Fz] at h;obtain rfl:=osj h;exact hi
 |s::ss,[],mp,cj,h,hi=>by cases h
 |s::ss,r::rs,mp,cj,h,hi=>by
  simp only[Fz] at h;split at h
  .rename_i su h1;exact Hx ss rs su cj h (Ai s r mp su h1 hi)
  .cases h
end
theorem LQ {mp:List (Nat×Option Nat)}:∀ (bs:List OB) (n:Nat),Q15 s mp n bs->∀ j b,bs[j]?=some b->Q1l s mp (n+j) b
 |[],n,_,j,b,hj=>by simp at hj
 |b0::r,n,h,j,b,hj=>by
  obtain⟨h1,h2⟩:=h;cases j with
  |zero=>simp at hj;subst hj;exact h1
  |succ j =>
   have:=LQ r (n+1) h2 j b (by simpa using hj)
   rwa [zt,xW 1 j] at this
mutual
theorem Av {n:Nat}{π:Nat->Nat}:∀ (v:SV) (u:Value),v.ret 0=true->SR P B pl tb v u->Ren n π u u
 |.val k x,u,h,hs=>by
  simp only[SR] at hs;cases k with
  |i ik=>simp only[KC] at hs;obtain rfl:=(zX hs).1;exact .plain _ rfl
  |bo=>simp only[KC] at hs;obtain rfl:=(zX hs).1;exact .plain _ rfl
  |st=>simp only[KC] at hs;obtain rfl:=(zX hs).1;exact .plain _ rfl
  |list k=>cases h
  |pair a b =>have h1:=KC.length hs;have h2:=a.size_pos;have h3:=b.size_pos;simp only[Kind.size,xq] at h1;omega
 |.nilS,u,_,hs|.nilP,u,_,hs|.nilM,u,_,hs|.nilF,u,_,hs=>by simp only[SR] at hs;subst hs;exact .plain _ rfl
 |.lst j,u,h,_|.box j _,u,h,_|.map j,u,h,_=>by simp[SV.ret,zR] at h
 |.dd j w,u,h,_=>by cases w<;>simp[SV.ret,zR] at h
 |.agg l,u,h,hs=>by simp only[SR] at hs;obtain⟨cs,rfl,h2⟩:=hs;have:=P0 (n:=n) (π:=π) l cs h h2;exact .agg _ _ rfl λi h3 _=>this _ (by simp)
 |.tup l,u,h,hs=>by simp only[SR] at hs;obtain⟨cs,rfl,h2⟩:=hs;have:=P0 (n:=n) (π:=π) l cs h h2;exact .tuple _ _ rfl λi h3 _=>this _ (by simp)
 |.any,_,h,_|.bid _ _,_,h,_|.grd _ _,_,h,_|.sub _ _ _ _,_,h,_|.elp _ _ _ _,_,h,_|.rop _ _ _ _,_,h,_|.cp _ _,_,h,_|.fn _ _ _,_,h,_|.pf _ _ _ _,_,h,_=>by cases h
theorem P0 {n:Nat}{π:Nat->Nat}:∀ (v:List SV) (u:List Value),SVs.ret 0 v=true->SRs P B pl tb v u->∀ x∈u,Ren n π x x
 |[],u,_,hs=>by simp only[SRs] at hs;subst hs;intro x hx;cases hx
 |s::ss,u,h,hs=>by
  simp only[SVs.ret,z8] at h;simp only[SRs] at hs;obtain⟨x,y,rfl,h1,h2⟩:=hs;intro z hz;rcases zk.1 hz with rfl|hz
  .exact Av s z h.1 h1
  .exact P0 ss y h.2 h2 z hz
end
theorem Ei (exact:Bool) {σ0:Heap}{sf:St}{mj:Env}{σf:Heap}(hR:GRel P σ0 σ0 σ0 sf mj σf) {rs:List VResult}{v:SV}{bs:List OB}{e:Exit}(hv:v.ret bs.length=true) (hb:bs.all OB.ret=true) (h:UO rs v bs e sf) (hx:exact=true->bs.all OB.isL=true/\V8 v=true) :
  Z1r σ0 rs (λu U'=>if exact then u=Vf (Ro σ0 bs) v/\U'=BQ σ0 bs else Ret P σ0 v bs u U') e mj σf:=by
 have main:(match Ww sf rs with
  |some r=>(match I2 v r [] with
   |some mp=>HI mp v r/\Q15 sf mp 0 bs
   |none=>False)
  |none=>False)->Zf (Jo mj σf rs) λu=>∃ v' U',DropTo σ0 u σf v' U'/\(if exact then v'=Vf (Ro σ0 bs) v/\U'=BQ σ0 bs else Ret P σ0 v bs v' U'):=λh=>by
  split at h
  .rename_i r hr;split at h
   .rename_i mp oF;obtain⟨h1,h2⟩:=h;obtain⟨B,F,pl,tb,⟨hB,hF,_,hd⟩,hG⟩:=hR;obtain⟨u,h3,h4⟩:=XA hG hr;have jB:=Vu v r u h1 h4;have e6:=Ai v r [] mp oF (λt t' a h=>by cases h);have aq:∀ j b,bs[j]?=some b->Q1l sf mp j b:=λj b hj=>by have:=LQ bs 0 h2 j b hj;rwa [xl] at this
    rw[h3];have hle:σ0.Le σf:=hF.trans hG.le;have hA:Agree σ0 σf:=λi hi=>by
     cases hg:σ0.get i with
     |none=>exact hd.2 i hi hg
     |some b=>exact hle.2 i b hg
    have aQ:∀ j b,bs[j]?=some b->OR P hNil (Mx pl mp) J3 σf (Mx pl mp j) b/\∀ i,Oid (Mx pl mp j) i->σ0.get i=none/\σ0.n<=i:=λj b hj=>by
     obtain⟨k1,k2⟩:=Zh hG (aq j b hj);have dG:=zf.1 hb b (zK hj);have ao:b.live=true:=by cases b<;>first|rfl|cases dG
     refine⟨k1.retd dG λ_ _=>rfl,λi hi=>?_⟩;obtain⟨a,e1,e2,e3⟩:=k2 ao i hi;have mW:=hG.fresh a i e2 e3;have hn:σ0.get i=none:=by
      cases hg:σ0.get i with
      |none=>rfl
      |some b=>rw[hF.2 i b hg] at mW;cases mW
     refine⟨hn,Nat.le_of_not_lt λah=>?_⟩;have bZ:=hd.2 i ah hn;have aq:=hG.obj a;cases ho:Qf sf.own a with
     |dead=>rw[ho] at e2;cases e2
     |lst ty k xs nl =>
      rw[ho] at aq;rcases aq with⟨_,_,h2⟩|⟨_,i',cap,c,t,h2,_,h3,_⟩
      .rw[h2] at e3;cases e3
      .rw[h2] at e3;obtain rfl:=osj e3;rw[h3] at bZ;cases bZ
     |cells l u=>rw[ho] at aq;obtain⟨i',c,e,t,h2,h3,_⟩:=aq;rw[h2] at e3;obtain rfl:=osj e3;rw[h3] at bZ;cases bZ
     |mapE kk vk m key n=>rw[ho] at aq;obtain⟨i',es,cl,r,e,h2,h3,_⟩:=aq;rw[h2] at e3;obtain rfl:=osj e3;rw[h3] at bZ;cases bZ
     |map kk vk m=>rw[ho] at aq;obtain⟨i',es,cl,h2,h3,_⟩:=aq;rw[h2] at e3;obtain rfl:=osj e3;rw[h3] at bZ;cases bZ
     |stk l vals=>rw[ho] at e2;cases e2
     |lpf l q s=>rw[ho] at aq e2;obtain⟨h2,_,h3⟩:=aq;rw[h2] at e3;obtain rfl:=osj e3;have h3:=h3 e2;rw[bZ] at h3;cases h3
     |iter kk vk m dn=>rw[ho] at aq;obtain⟨j',i',es,cl,wr,seen,h2,h3,_⟩:=aq;rw[h2] at e3;obtain rfl:=osj e3;rw[h3] at bZ;cases bZ
     |deep ty q k xs nl hh =>rw[ho] at aq;obtain⟨is,_,d2,d3,_⟩:=DP.open aq;obtain⟨c,e,t,h⟩:=d2.cells i ((d3 i).1 e3);rw[h] at bZ;cases bZ
    have fK:∀ j j' i,j<bs.length->j'<bs.length->j≠j'->Oid (Mx pl mp j) i->Oid (Mx pl mp j') i->False:=λj j' i hj dy az hi cI=>by
     have br:=z6 hj;have bB:=z6 dy;have r1:=zf.1 hb _ (zp hj);have r2:=zf.1 hb _ (zp dy);have l1:(bs[j]).live=true:=by cases nj:bs[j]<;>first|rfl|(rw[nj] at r1;cases r1)
     have l2:(bs[j']).live=true:=by cases nj:bs[j']<;>first|rfl|(rw[nj] at r2;cases r2)
     obtain⟨a,e1,e2,e3⟩:=(Zh hG (aq j _ br)).2 l1 i hi;obtain⟨a',uK,kR,uL⟩:=(Zh hG (aq j' _ bB)).2 l2 i cI;by_cases e:a=a'
     .subst e;exact az (e6 j j' a e1 uK)
     .exact hG.sep a a' i e e2 kR e3 uL
    cases hex:exact with
    |true =>obtain⟨hl,cJ⟩:=hx hex;have oO:=Ft (P:=P) hA hle.1 hv cJ hb hl (pl:=Mx pl mp) (u:=u) (λj b hj=>⟨(aQ j b hj).1,λi hi=>((aQ j b hj).2 i (Cj hi)).2⟩) (λj j' i a b c d e=>fK j j' i a b c (Cj d) (Cj e)) (jB.retd (λj hj=>rfl) _ _ hv);exact⟨_,_,oO,by simp⟩
    |false =>
     simp only[zD,if_false];by_cases b_:bs=[]
     .subst b_;refine⟨u,σ0,.rename (λi=>i) (ze _) (λi hi=>⟨rfl,(hA i hi).symm,.inl (hA i hi)⟩) (λi k1 k2=>by omega) (λ_ _ _ _ _ _ h=>h) (Av v u hv jB),?_⟩;exact⟨⟨Heap.Le.refl _,Dead.refl _⟩,λ_=>rfl,X1,(λj b hj=>by simp at hj),(λj j' i hj=>by simp at hj),jB.retd (λj hj=>by simp at hj) _ _ hv⟩
     .exact⟨u,σf,.refl _ _ _,⟨hle,hd⟩,λe=>absurd e b_,Mx pl mp,aQ,fK,jB.retd (λj hj=>rfl) _ _ hv⟩
   .exact h.elim
  .exact h.elim
 cases e with
 |normal=>exact main h
 |ret=>exact main h
 |_=>exact h.elim
def Zd (nt:Nat) (args:List SV):St:=⟨args++List.replicate (nt-args.length) .any,[],0⟩
theorem E_ {args:List SV}{vs:List Value}(h:SRs P U X1 J3 args vs) (nt:Nat):GRel P U U U (Zd nt args) (vs++List.replicate (nt-vs.length) undef) U:=by
 have uM:∀ n,SRs P U X1 J3 (List.replicate n .any) (List.replicate n undef):=by
  intro n;induction n with
  |zero=>simp[SRs]
  |succ n ih=>simp only[xC,SRs];exact⟨_,_,rfl,by simp[SR],ih⟩
 refine⟨U,U,X1,J3,⟨Heap.Le.refl _,Heap.Le.refl _,(λi b h1 h2=>by rw[h2] at h1;cases h1),Dead.refl _⟩,Heap.Le.refl _,Heap.Le.refl _,?_,λd=>trivial,(λd i hl=>by cases hl),(λd d' i _ hl=>by cases hl),λ_ _=>rfl⟩;have:=h.length;simp only[Zd,this];exact h.append (uM _)
theorem Fun.okC {f:Nat}{vc:VCode}{rs:List VResult}{nt:Nat}(h:Fun P f vc rs nt) (hm:P.follows .mixedOrders=true) {sp:CSp}
  (hb:∀ ap,Q09 P ap->∀ args c v bs,sp ap args=some (c,v,bs)->c->∃ (C:Cx) (L:List (Nat×LoopAnn)) (jj:List SV),(∀ U vs,SRs P U X1 J3 args vs->SRs P U X1 J3 jj vs)/\COk P C/\gwp C L vc 0 (UO rs v bs) (Zd nt jj)):OkC P f sp:=by
 intro ap dM U args vs c v bs aB bM hv b_ hc;obtain⟨C,L,jj,h1,h2,h3⟩:=hb ap dM args c v bs bM hc;have main:∀ exact:Bool,(exact=true->bs.all OB.isL=true/\V8 v=true)->VCalled P f vs U λu U'=>if exact then u=Vf (Ro U bs) v/\U'=BQ U bs else Ret P U v bs u U':=λexact hx=>by refine h.calls hm HU ?_;exact VA h2 vc 0 _ _ _ U none _ trivial (E_ (h1 U vs aB) nt) h3 λe s' af U' k1 k2=>Ei exact k2 hv b_ k1 hx
 refine⟨(main false λe=>by cases e).mono λu U' hr=>by simpa using hr,λhl cJ=>(main true λ_=>⟨hl,cJ⟩).mono λu U' hr=>by simpa using hr⟩
theorem OkC.true {f:Nat}{sp:CSp}(h:OkC P f sp) (he:ZI P f) {U:Heap}{args:List SV}{vs:List Value}(ha:SRs P U X1 J3 args vs) {c:Prop}(hs:sp (λ_ _=>none) args=some (c,.val .bo true,[])) (hc:c) :
  VCallsTo P f vs U λv _=>v=.bool true:=by
 have:=(h (λ_ _=>none) (λ_ _ _ _ _ _ _ _ _ h=>by cases h) U args vs c _ [] ha hs rfl rfl hc).1;intro ρ w ax hH hL;rcases this ρ w ax hH hL with⟨_,h2⟩|⟨c',_,h2⟩
 .refine h2.mono λe w' ⟨c',h3,h4⟩=>⟨c',h3,h4.mono λu U' hr=>?_⟩;have:=(hr.flat rfl).2;simpa only [SR,KC,List.cons.injEq,and_true] using this
 .have:=h2 w (Like.refl ρ w);rw[W9 he ax w] at this;cases this
end
end Go.V
namespace Go.V
open Go
mutual
inductive AP:Type->Type 1 where
 |k (k:Kind):AP k.T
 |agg {D:Type}(l:AL D):AP D
 |ptr {D:Type}(l:AL D):AP D
 |fn (ks:List Kind) (r:Kind):AP ((AT ks->Prop)×(AT ks->r.T))
 |nilS:AP Unit
 |any:AP Unit
 |int (k:IntKind) (n:Int):AP Unit
inductive AL:Type->Type 1 where
 |nil:AL Unit
 |one {D:Type}(a:AP D):AL D
 |cons {D E:Type}(a:AP D) (r:AL E):AL (D×E)
end
def Sn:(ks:List Kind)->AT ks->List SV
 |[],_=>[]
 |[k],x=>[FO k x]
 |k::k'::ks,x=>FO k x.1::Sn (k'::ks) x.2
abbrev Ap:=SV->List SV->Option (Prop×SV)
def Q0l (ap:Ap) (f:SV) (ks:List Kind) (r:Kind) (x:AT ks):Prop:=match ap f (Sn ks x) with
 |some (c,v)=>(match gap.asV r v with|some _=>c|none=>False)
 |none=>False
def fnP (ap:Ap) (f:SV) (ks:List Kind) (r:Kind) (x:AT ks):r.T:=match ap f (Sn ks x) with
 |some (_,v)=>(match gap.asV r v with|some y=>y|none=>r.dflt)
 |none=>r.dflt
mutual
def AP.dec (ap:Ap):{D:Type}->(p:AP D)->SV->Option D
 |_,.k k,v=>match k with
  |.list k=>view [] k v
  |.i ik=>Tr (.i ik) [v]
  |.bo=>Tr .bo [v]
  |.st=>Tr .st [v]
  |.pair _ _=>none
 |_,.agg l,v=>match v with|.agg vs=>AL.dec ap l vs|_=>none
 |_,.nilS,v=>match v with|.nilS=>some ()|_=>none
 |_,.any,_=>some ()
 |_,.int k n,v=>match Tr (.i k) [v] with|some x=>if (show Int from x)=n then some () else none|none=>none
 |_,.ptr l,v=>match v with|.cp vs 0=>AL.dec ap l vs|_=>none
 |_,.fn ks r,v=>match v with
  |.fn g a b=>some (Q0l ap (.fn g a b) ks r,fnP ap (.fn g a b) ks r)
  |.pf sv r' cT p=>some (Q0l ap (.pf sv r' cT p) ks r,fnP ap (.pf sv r' cT p) ks r)
  |_=>none
def AL.dec (ap:Ap):{D:Type}->(l:AL D)->List SV->Option D
 |_,.nil,vs=>match vs with|[]=>some ()|_=>none
 |_,.one a,vs=>match vs with|[v]=>AP.dec ap a v|_=>none
 |_,.cons a r,vs=>match vs with
  |v::vs=>(match AP.dec ap a v,AL.dec ap r vs with|some x,some y=>some (x,y)|_,_=>none)
  |[]=>none
end
mutual
def AP.can:{D:Type}->(p:AP D)->D->SV
 |_,.k k,x=>.val k x
 |_,.agg l,x=>.agg (AL.can l x)
 |_,.nilS,_=>.nilS
 |_,.any,_=>.any
 |_,.int k n,_=>.val (.i k) n
 |_,.ptr l,x=>.cp (AL.can l x) 0
 |_,.fn ks r,x=>.pf ks r x.1 x.2
def AL.can:{D:Type}->(l:AL D)->D->List SV
 |_,.nil,_=>[]
 |_,.one a,x=>[AP.can a x]
 |_,.cons a r,x=>AP.can a x.1::AL.can r x.2
end
def VU {D:Type}(l:AL D) (pre:D->Prop) (res:D->SV) (obs:D->List OB):CSp:=λap args=>match AL.dec ap l args with
 |some d=>some (pre d,res d,obs d)
 |none=>none
section
variable {P:Program}{U:Heap}
theorem G8:∀ {ks:List Kind}{x:AT ks}{vs:List Value},Rg U ks x vs->SRs P U X1 J3 (Sn ks x) vs
 |[],x,vs,h=>by simp only[Rg] at h;subst h;simp[Sn,SRs]
 |[k],x,vs,h=>by obtain⟨v,rfl,h1⟩:=h;simp only[Sn,SRs];exact⟨v,[],rfl,Xj h1,rfl⟩
 |k::k'::ks,x,vs,h=>by obtain⟨v,vs',rfl,h1,h2⟩:=h;simp only[Sn,SRs];exact⟨v,vs',rfl,Xj h1,G8 h2⟩
theorem A_ {ap:Ap}(dM:Q09 P ap) {f:SV}{v:Value}(hf:SR P U X1 J3 f v) (hv:∃ g a b,v=.func (.func g) a b) (ks:List Kind) (r:Kind):SR P U X1 J3 (.pf ks r (Q0l ap f ks r) (fnP ap f ks r)) v:=by
 obtain⟨g,a,b,rfl⟩:=hv;simp only[SR];refine⟨g,a,b,rfl,λx hd Z vs hle cH=>?_⟩;unfold Q0l at hd;split at hd
 .rename_i c u oP;split at hd
  .rename_i y hy;obtain⟨h1,g',a',b',h2,h3⟩:=dM Z f (Sn ks x) c u (.func (.func g) a b) vs (SR.mono hle (λ_ _ h=>h) _ _ hf) (G8 cH) oP hd;obtain⟨rfl,rfl,rfl⟩:=(by simpa using h2:g=g'/\a=a'/\b=b');have hp:fnP ap f ks r x=y:=by simp[fnP,oP,hy]
   rw[hp];exact h3.mono λu' U' hu=>⟨hu.1,(Hz hy hu.2).vcall (Ao _)⟩
  .exact hd.elim
 .exact hd.elim
mutual
theorem AP.q0k {ap:Ap}(dM:Q09 P ap):∀ {D:Type}(p:AP D) {v:SV}{x:D}{u:Value},AP.dec ap p v=some x->SR P U X1 J3 v u->SR P U X1 J3 (AP.can p x) u
 |_,.k k,v,x,u,h,hs=>by
  have one:SRs P U X1 J3 [v] [u]:=by simp only[SRs];exact⟨u,[],rfl,hs,rfl⟩
  simp only[AP.can,SR];cases k with
  |list k =>have:=VC (own:=[]) (Heap.Le.refl U) (λd=>(trivial:OR P U X1 J3 U (X1 d) .dead)) (show view [] k v=some x from h) hs;exact⟨u,rfl,this⟩
  |i ik=>exact QI (k:=.i ik) h one
  |bo=>exact QI (k:=.bo) h one
  |st=>exact QI (k:=.st) h one
  |pair a b=>cases h
 |_,.agg l,v,x,u,h,hs=>by
  simp only[AP.dec] at h;split at h
  .simp only[SR] at hs;obtain⟨cs,rfl,hs⟩:=hs;simp only[AP.can,SR];exact⟨cs,rfl,AL.q0k dM l h hs⟩
  .cases h
 |_,.any,v,x,u,h,hs=>by simp only[AP.can,SR]
 |_,.int k n,v,x,u,h,hs=>by
  have one:SRs P U X1 J3 [v] [u]:=by simp only[SRs];exact⟨u,[],rfl,hs,rfl⟩
  simp only[AP.dec] at h;split at h
  .rename_i y hy;split at h
   .rename_i e;subst e;simp only[AP.can,SR];exact QI (k:=.i k) hy one
   .cases h
  .cases h
 |_,.nilS,v,x,u,h,hs=>by
  simp only[AP.dec] at h;split at h
  .simp only[AP.can];exact hs
  .cases h
 |_,.ptr l,v,x,u,h,hs=>by
  simp only[AP.dec] at h;split at h
  .simp only[SR] at hs;obtain⟨b,c,e,wr,t,h1,rfl,h3⟩:=hs;simp only[AP.can,SR];exact⟨b,c,e,wr,t,h1,rfl,AL.q0k dM l h h3⟩
  .cases h
 |_,.fn ks r,v,x,u,h,hs=>by
  simp only[AP.dec] at h;split at h
  .obtain rfl:=osj h;exact A_ dM hs (by simp only[SR] at hs;obtain⟨x,y,rfl,_⟩:=hs;exact⟨_,_,_,rfl⟩) ks r
  .obtain rfl:=osj h;exact A_ dM hs (by simp only[SR] at hs;obtain⟨g,x,y,rfl,_⟩:=hs;exact⟨_,_,_,rfl⟩) ks r
  .cases h
theorem AL.q0k {ap:Ap}(dM:Q09 P ap):∀ {D:Type}(l:AL D) {vs:List SV}{x:D}{us:List Value},AL.dec ap l vs=some x->SRs P U X1 J3 vs us->SRs P U X1 J3 (AL.can l x) us
 |_,.nil,vs,x,us,h,hs=>by
  simp only[AL.dec] at h;split at h
  .exact hs
  .cases h
 |_,.one a,vs,x,us,h,hs=>by
  simp only[AL.dec] at h;split at h
  .obtain⟨u,rfl,h1⟩:=hs.one;simp only[AL.can,SRs];exact⟨u,[],rfl,AP.q0k dM a h h1,rfl⟩
  .cases h
 |_,.cons a r,vs,x,us,h,hs=>by
  simp only[AL.dec] at h;split at h
  .rename_i v vs';split at h
   .rename_i y z h1 h2;obtain rfl:=osj h;simp only[SRs] at hs;obtain⟨u,jA,rfl,h3,h4⟩:=hs;simp only[AL.can,SRs];exact⟨u,jA,rfl,AP.q0k dM a h1 h3,AL.q0k dM r h2 h4⟩
   .cases h
  .cases h
end
theorem CsOk.nil:CsOk P []:=λf sp h=>by cases h
theorem CsOk.cons {f:Nat}{sp:CSp}{cs:List (Nat×CSp)}(h:OkC P f sp) (t:CsOk P cs):CsOk P ((f,sp)::cs):=λg uN hg=>by
 simp only[QO] at hg;cases hb:Nat.beq f g with
 |true=>rw[hb] at hg;obtain rfl:=zV hb;obtain rfl:=osj hg;exact h
 |false=>rw[hb] at hg;exact t g uN hg
theorem Q86 {f:Nat}{vc:VCode}{rs:List VResult}{nt:Nat}(h:Fun P f vc rs nt) (hm:P.follows .mixedOrders=true) {D:Type}{l:AL D}{pre:D->Prop}{res:D->SV}{obs:D->List OB}
  {C:Cx}(aC:COk P C) (L:D->List (Nat×LoopAnn)) (hb:∀ d,pre d->gwp C (L d) vc 0 (UO rs (res d) (obs d)) (Zd nt (AL.can l d))):OkC P f (VU l pre res obs):=by
 refine h.okC hm λap dM args c v bs hs hc=>?_;unfold VU at hs;split at hs
 .rename_i d hd;obtain⟨rfl,rfl,rfl⟩:=(by simpa using hs:pre d=c/\res d=v/\obs d=bs);exact⟨C,L d,AL.can l d,λU vs hv=>AL.q0k dM l hd hv,aC,hb d hc⟩
 .cases hs
theorem Zv {f:Nat}{vc:VCode}{rs:List VResult}{nt:Nat}(h:Fun P f vc rs nt) (hm:P.follows .mixedOrders=true) {D:Type}{l:AL D}{pre:D->Prop}{res:D->SV}{obs:D->List OB}
  {C:Cx}(aC:COk P C) {L:D->List (Nat×LoopAnn)}{V:D->Prop}(hq:∀ d,gwp C (L d) vc 0 (UO rs (res d) (obs d)) (Zd nt (AL.can l d))=V d) (hb:∀ d,pre d->V d):OkC P f (VU l pre res obs) :=
 Q86 h hm aC L λd hp=>(hq d).mpr (hb d hp)
end
end Go.V
namespace Go.V
open Go
def Z3q (key:Nat) (vals:List Value) (rs:List VResult) (K:SV->St->Prop):Exit->St->Prop:=λe s =>
 let fin:=match Ww s rs,Qf s.own key with
  |some r,.stk l vs=>vs=vals/\K r ⟨l,s.own,s.nx⟩
  |_,_=>False
 match e with
 |.normal=>fin
 |.ret=>fin
 |_=>False
def An (C:Cx) (L:List Value->List (Nat×LoopAnn)) (vc:VCode) (rs:List VResult) (nt:Nat):XSp:=λd args s K =>
 ∀ vals,gwp {C with off:=100000*(d+1)} (L vals) vc 0 (Z3q (100000*(d+1)-1) vals rs K) ⟨SVs.kill (100000*(d+1)-1) args++List.replicate (nt-args.length) .any,(Cb (100000*(d+1)-1) vals s).own,s.nx⟩
def Z1l (C:Cx) (L:List (Nat×LoopAnn)) (vc:VCode) (nt:Nat):Q7p:=λo args y s K =>
 gwp {C with off:=100000*(o+1),yl:=[y]} L vc 0 (λe s'=>match e with|.normal=>K s'|.ret=>K s'|_=>False) ⟨args++List.replicate (nt-args.length) .any,s.own,s.nx⟩
section
variable {P:Program}
theorem DT {B:Heap}{pl:Nat->Value}{tb:Nat->Option Bool}:∀ n,SRs P B pl tb (List.replicate n .any) (List.replicate n undef)
 |0=>by simp[SRs]
 |n+1=>by simp only[xC,SRs];exact⟨_,_,rfl,by simp[SR],DT n⟩
theorem Y2 {f:Nat}{vc:VCode}{rs:List VResult}{nt:Nat}(h:Fun P f vc rs nt) (hm:P.follows .mixedOrders=true) {C:Cx}(aC:COk P C) (L:List Value->List (Nat×LoopAnn)):XOk P f (An C L vc rs nt):=by
 intro B F pl tb s env U d args vs K R hG ha hx hK;have hx:=hx env;refine h.calls hm HU ?_;have q3:Gam P B F (JN pl (100000*(d+1)-1) poison) tb (Cb (100000*(d+1)-1) env s) env U:=by refine hG.make _ _ poison hG.le (λ_ _ _ _ _=>rfl) ?_ (λi hl _=>by cases hl);exact SRs.upd (.refl _) (λ_ _ h=>h) (λj hj=>by simp[JN,hj]) _ _ hG.env
 have fc:COk P {C with off:=100000*(d+1)}:=⟨aC.cs,aC.xs,aC.it,aC.yl,aC.iy,aC.xf⟩;have aB:=SRs.upd (P:=P) (Heap.Le.refl B) (λ_ _ h=>h) (pl':=JN pl (100000*(d+1)-1) poison) (tb':=tb) (o:=100000*(d+1)-1) (λj hj=>by simp[JN,hj]) _ _ ha;have bk:GRel P B F U ⟨SVs.kill (100000*(d+1)-1) args++List.replicate (nt-args.length) .any,(Cb (100000*(d+1)-1) env s).own,s.nx⟩ (vs++List.replicate (nt-vs.length) undef) U:=by refine⟨B,F,_,tb,.of hG.bf (.refl _),⟨q3.bf,q3.le,?_,q3.obj,q3.fresh,q3.sep,q3.free⟩⟩;rw[ha.length];exact aB.append (DT _)
 refine VA fc vc 0 _ _ _ U none _ trivial bk hx λe s' af U' h1 h2=>?_
 .have main:(match Ww s' rs,Qf s'.own (100000*(d+1)-1) with
   |some r,.stk l vs=>vs=env/\K r ⟨l,s'.own,s'.nx⟩
   |_,_=>False)->Zf (Jo af U' rs) λv=>∃ v' aH,DropTo U v U' v' aH/\R v' aH:=λh=>by
   obtain⟨B',F',pl',tb',k1,k2⟩:=h2;split at h
   .rename_i r l vs' hr ji;obtain⟨rfl,h⟩:=h;obtain⟨u,h3,h4⟩:=XA k2 hr;rw[h3];have aq:=k2.obj (100000*(d+1)-1);rw[ji] at aq;exact⟨u,U',.refl _ _ _,hK r _ B' F' pl' tb' u U' h k1 ⟨k2.bf,k2.le,aq,k2.obj,k2.fresh,k2.sep,k2.free⟩ h4⟩
   .exact h.elim
  cases e with
  |normal=>exact main h1
  |ret=>exact main h1
  |_=>exact h1.elim
theorem CZ {f:Nat}{vc:VCode}{nt:Nat}(h:Fun P f vc [] nt) (hm:P.follows .mixedOrders=true) {C:Cx}(aC:COk P C) (L:List (Nat×LoopAnn)):Q7r P f (Z1l C L vc nt):=by
 refine⟨h.enterable,λB F pl tb s env U o args vs y K R hG ha hy hx hK=>h.callsTo hm HU ?_⟩;have fc:COk P {C with off:=100000*(o+1),yl:=[(o,y)]}:=⟨aC.cs,aC.xs,aC.it,λo' y' h'=>by
  simp only[QO] at h';cases hb:Nat.beq o o' with
  |true=>rw[hb] at h';obtain rfl:=zV hb;obtain rfl:=osj h';exact hy
  |false=>rw[hb] at h';exact(by cases h'),aC.iy,aC.xf⟩
 have bk:GRel P B F U ⟨args++List.replicate (nt-args.length) .any,s.own,s.nx⟩ (vs++List.replicate (nt-vs.length) undef) U:=by refine⟨B,F,pl,tb,.of hG.bf (Dead.refl _),⟨hG.bf,hG.le,?_,hG.obj,hG.fresh,hG.sep,hG.free⟩⟩;rw[ha.length];exact ha.append (DT _)
 refine VA fc vc 0 _ _ _ U none _ trivial bk hx λe s' af U' h1 h2=>?_;have main:K s'->Zf (Jo af U' []) λv=>∃ v' aH,DropTo U v U' v' aH/\R aH:=λh=>by obtain⟨B',F',pl',tb',k1,k2⟩:=h2;exact⟨_,U',.refl _ _ _,hK s' B' F' pl' tb' af U' h k1 k2⟩
 cases e with
 |normal=>exact main h1
 |ret=>exact main h1
 |_=>exact h1.elim
end
end Go.V
namespace Go.V
open Go
def Z32:SV->Option Nat
 |.lst o=>some o
 |.box o off=>bif Nat.beq off 0 then some o else none
 |_=>none
def Z4b:SV->OB->Bool
 |.lst _,.lst _ _ _ _=>true
 |.box _ _,.cells _ _=>true
 |_,_=>false
abbrev LSp:=Ap->OB->List SV->Option (Prop×SV×OB)
def Fb (ap:Ap) (sp:LSp):XSp:=λ_ args s K =>
 match args with
 |a::args=>(match Z32 a with
  |some o=>bif (Qf s.own o).ret&&Z4b a (Qf s.own o) then (match sp ap (Qf s.own o) (BM (oset s.own o .dead) args) with
    |some (c,v,b)=>bif v.ret 0&&b.ret then c/\K v ⟨s.env,oset s.own o b,s.nx⟩ else False
    |none=>False) else False
  |none=>False)
 |[]=>False
section
variable {P:Program}
theorem Heap.Le.kill' {B U:Heap}(h:B.Le U) {i:Nat}(hi:B.get i=none):B.Le (U.kill i):=⟨h.1,λj b hb=>by
 have:j≠i:=by rintro rfl;rw[hi] at hb;cases hb
 rw[Heap.q0d _ this];exact h.2 _ _ hb⟩
theorem Heap.q2i (U:Heap) (i:Nat):(U.kill i).Le U:=⟨ze _,λj b hb=>by
 by_cases e:j=i
 .subst e;rw[Heap.q0f] at hb;cases hb
 .rwa [Heap.q0d _ e] at hb⟩
theorem OB.q1z {b:OB}(h:b.ret=true):b.live=true:=by cases b<;>first|rfl|cases h
mutual
theorem AP.q0q:∀ {D:Type}(p:AP D) (x:D),(AP.can p x).pure=true
 |_,.k k,x=>rfl
 |_,.agg l,x=>by simp only[AP.can,SV.pure];exact AL.q0q l x
 |_,.nilS,x=>rfl
 |_,.any,x=>rfl
 |_,.int k n,x=>rfl
 |_,.ptr l,x=>by simp only[AP.can,SV.pure];exact AL.q0q l x
 |_,.fn ks r,x=>rfl
theorem AL.q0q:∀ {D:Type}(l:AL D) (x:D),SVs.pure (AL.can l x)=true
 |_,.nil,x=>rfl
 |_,.one a,x=>by simp only[AL.can,SVs.pure,AP.q0q a x];rfl
 |_,.cons a r,x=>by simp only[AL.can,SVs.pure,AP.q0q a x.1,AL.q0q r x.2];rfl
end
def Fq (ty:Nat) (k:Kind) {D:Type}(l:AL D) (pre:List k.T->Bool->D->Prop) (res:List k.T->Bool->D->SV) (post:List k.T->Bool->D->List k.T):LSp:=λap b args=>match b with
 |.lst gB _k' xs nl=>if gB=ty then (match UC xs k,AL.dec ap l args with
  |some xs,some d=>some (pre xs nl d,res xs nl d,.lst ty k (post xs nl d) nl)
  |_,_=>none) else none
 |_=>none
end
end Go.V
namespace Go.V
open Go
abbrev lI {α:Type}(l:List α):Int:=(l.length:Int)
abbrev gD {α:Type}(l:List α) (i:Int) (d:α):α:=l.getD i.toNat d
abbrev sT {α:Type}(l:List α) (i:Int) (x:α):List α:=l.set i.toNat x
abbrev I64 (x:Int):Prop:=InK .i64 x
theorem Qq (x:Int):InK .i64 x<->-9223372036854775808<=x/\x<=9223372036854775807:=by simp[InK,IntKind.min,IntKind.max,IntKind.bits,IntKind.signed]
theorem Is (x:Int):InK .u8 x<->0<=x/\x<=255:=by simp[InK,IntKind.min,IntKind.max,IntKind.bits,IntKind.signed]
theorem Ip (x:Int):InK .u32 x<->0<=x/\x<=4294967295:=by simp[InK,IntKind.min,IntKind.max,IntKind.bits,IntKind.signed]
theorem B4 (x:Int):InK .u64 x<->0<=x/\x<=18446744073709551615:=by simp[InK,IntKind.min,IntKind.max,IntKind.bits,IntKind.signed]
theorem LoopP.count {F:Int->(Int->Prop)->Prop}(n:Nat) (J:Nat->Prop) (h0:J 0) (hr:∀ k:Nat,k<=n->J k->∀ q:Int->Prop,(k<n->J (k+1)->q ((k:Int)+1))->F k q):LoopP F 0:=by refine⟨λd=>∃ k:Nat,d=k/\k<=n/\J k,λd=>n-d.toNat,⟨0,rfl,Nat.zero_le _,h0⟩,λd ⟨k,hd,hk,hJ⟩=>?_⟩;subst hd;refine hr k hk hJ _ λah ra=>⟨⟨k+1,by simp,ah,ra⟩,?_⟩;simp;omega
theorem LoopP.count2 {X:Type}{F:X×Int->(X×Int->Prop)->Prop}(n:Nat) (J:Nat->X->Prop) {x0:X}(h0:J 0 x0) (hr:∀ (k:Nat) (x:X),k<=n->J k x->∀ q:X×Int->Prop,(∀ x',k<n->J (k+1) x'->q (x',(k:Int)+1))->F (x,(k:Int)) q):LoopP F (x0,0):=by refine⟨λd=>∃ k:Nat,d.2=k/\k<=n/\J k d.1,λd=>n-d.2.toNat,⟨0,rfl,Nat.zero_le _,h0⟩,λ⟨x,d⟩ ⟨k,hd,hk,hJ⟩=>?_⟩;simp only at hd hJ;subst hd;refine hr k x hk hJ _ λx' ah ra=>⟨⟨k+1,by simp,ah,ra⟩,?_⟩;simp;omega
theorem Qg {α:Type}{l:List α}{k:Nat}{d:α}(h:k<l.length):l.getD k d=l[k]:=by simp[zd,z6 h]
theorem Yo {α:Type}{l:List α}{k:Nat}(h:k<l.length):l.take (k+1)=l.take k++[l[k]]:=by rw[List.take_succ_eq_append_getElem h]
section
variable {P:Program}
theorem st1 {S:VSpecs}{d:Nat}{op:VOp}{rest:List VOper}{env:Env}{U:Heap}{K:Env->Heap->Prop}{v:Value}(hv:∀ K',vop S op env U K'=Zf (Qb op (Q6 env) U) λp=>K' p.1 p.2) (h:Qb op (Q6 env) U=some (v,U)) (hr:TA S rest (env.set d v) U K):TA S (⟨some d,op,none⟩::rest) env U K:=by show Zf (some true) _;refine⟨λ_=>?_,λe=>by cases e⟩;rw[hv,h];exact hr
theorem YlOk.nil:∀ o y,QO ([]:List (Nat×YSp)) o=some y->Q1q P o y:=λo y h=>by cases h
theorem IysOk.nil:∀ f x,QO ([]:List (Nat×Q7p)) f=some x->Q7r P f x:=λf x h=>by cases h
theorem IysOk.cons {f:Nat}{x:Q7p}{l:List (Nat×Q7p)}(h:Q7r P f x) (t:∀ g y,QO l g=some y->Q7r P g y):∀ g y,QO ((f,x)::l) g=some y->Q7r P g y:=λg y hg=>by
 simp only[QO] at hg;cases hb:Nat.beq f g with
 |true=>rw[hb] at hg;obtain rfl:=zV hb;obtain rfl:=osj hg;exact h
 |false=>rw[hb] at hg;exact t g y hg
theorem XsOk.nil:∀ f x,QO ([]:List (Nat×XSp)) f=some x->XOk P f x:=λf x h=>by cases h
theorem XsOk.cons {f:Nat}{x:XSp}{l:List (Nat×XSp)}(h:XOk P f x) (t:∀ g y,QO l g=some y->XOk P g y):∀ g y,QO ((f,x)::l) g=some y->XOk P g y:=λg y hg=>by
 simp only[QO] at hg;cases hb:Nat.beq f g with
 |true=>rw[hb] at hg;obtain rfl:=zV hb;obtain rfl:=osj hg;exact h
 |false=>rw[hb] at hg;exact t g y hg
theorem ItsOk.nil:∀ f x,QO ([]:List (Nat×ISp)) f=some x->Z5e P f x:=λf x h=>by cases h
def Nd:Ap:=λ_ _=>none
theorem Kg:Q09 P Nd:=λ_ _ _ _ _ _ _ _ _ h=>by cases h
end
end Go.V
namespace Go.V
open Go
def Co {α:Type}:Nat->α->List α->List α
 |0,x,l=>x::l
 |j+1,x,a::l=>a::Co j x l
 |_+1,x,[]=>[x]
def CN {α:Type}:Nat->List α->List α
 |0,_::l=>l
 |j+1,a::l=>a::CN j l
 |_,[]=>[]
def S3 (kk vk:Kind):OB->Option (List (kk.T×vk.T))
 |.map jX l6 m=>if h:jX=kk/\l6=vk then some (h.1▸h.2▸m) else none
 |_=>none
def OI (vals:List Value) (rs:List VResult) (v:SV) (kk vk:Kind) (post:List (kk.T×vk.T)->Prop):Exit->St->Prop:=λe s =>
 let fin:=match Ww s rs,Qf s.own 4000000,S3 kk vk (Qf s.own 0) with
  |some r,.stk l vs,some m'=>vs=vals/\UG [(0,some 0)] [.map 0] l/\HI [] v r/\post m'
  |_,_,_=>False
 match e with
 |.normal=>fin
 |.ret=>fin
 |_=>False
section
variable {P:Program}
theorem Ma {kk vk:Kind}{b:OB}{m:List (kk.T×vk.T)}(h:S3 kk vk b=some m):b=.map kk vk m:=by
 unfold S3 at h;split at h
 .split at h
  .rename_i e;obtain⟨rfl,rfl⟩:=e;obtain rfl:=osj h;rfl
  .cases h
 .cases h
theorem IT:∀ (j:Nat) {l:List SV}{c:List Value}{o:Nat}{B:Heap}{pl:Nat->Value}{tb:Nat->Option Bool},l[j]?=some (.map o)->SRs P B pl tb l c ->
  ∃ w,SR P B pl tb (.map o) w/\SRs P B pl tb (CN j l) (CN j c)/\∀ (B':Heap) (pl':Nat->Value) (tb':Nat->Option Bool) (l':List SV) (x:SV),SRs P B' pl' tb' l' (CN j c)->SR P B' pl' tb' x w->SRs P B' pl' tb' (Co j x l') c
 |j,[],c,o,B,pl,tb,h,_=>by simp at h
 |0,a::l,c,o,B,pl,tb,h,hs=>by
  obtain rfl:a=.map o:=by simpa using h
  simp only[SRs] at hs;obtain⟨w,us,rfl,h1,h2⟩:=hs;exact⟨w,h1,h2,λB' pl' tb' l' x h3 h4=>by simp only[Co,SRs];exact⟨w,us,rfl,h4,h3⟩⟩
 |j+1,a::l,c,o,B,pl,tb,h,hs=>by
  simp only[SRs] at hs;obtain⟨u,us,rfl,h1,h2⟩:=hs;obtain⟨w,g1,g2,g3⟩:=IT j (by simpa using h) h2;refine⟨w,g1,?_,λB' pl' tb' l' x h3 h4=>?_⟩
  .simp only[CN,SRs];exact⟨u,_,rfl,h1,g2⟩
  .simp only[CN] at h3
   match l',h3 with
   |[],h3=>simp only[SRs] at h3;cases h3
   |y::l',h3 =>simp only[SRs] at h3;obtain⟨u',jA,e,h5,h6⟩:=h3;obtain⟨rfl,rfl⟩:=zX e;simp only[Co,SRs];exact⟨u,us,rfl,h5,g3 B' pl' tb' l' x h6 h4⟩
theorem XfOk.nil {xs:List (Nat×XSp)}:∀ f j,QO ([]:List (Nat×Nat)) f=some j->∀ x,QO xs f=some x->Z4x P f x j:=λf j h=>by cases h
end
end Go.V
namespace Go.V
open Go
abbrev PSp (kk vk:Kind):=Ap->List SV->Option (Prop×List SV×(List (kk.T×vk.T)->Prop))
def Q26 (ap:Ap) (kk vk:Kind) (sp:PSp kk vk):XSp:=λd args s K=>match sp ap (BM s.own args) with
 |some (c,vs,post)=>bif SVs.ret 0 vs then c/\∀ m',post m'->K (.tup (.map d::vs)) (s.make d (.map kk vk m')) else False
 |none=>False
def YH (nt:Nat) (args:List SV):St:=⟨args++List.replicate (nt-args.length) .any,[],0⟩
def Q72 (rs:List VResult) (kk vk:Kind) (vs:List SV) (post:List (kk.T×vk.T)->Prop):Exit->St->Prop:=λe s =>
 let fin:=match Ww s rs with
  |some (.tup (.map k::r))=>(match S3 kk vk (Qf s.own k) with
   |some m'=>UG [] vs r/\post m'
   |none=>False)
  |_=>False
 match e with
 |.normal=>fin
 |.ret=>fin
 |_=>False
section
variable {P:Program}
theorem SRs.retd0 {B B':Heap}{pl pl':Nat->Value}{tb tb':Nat->Option Bool}:∀ (l:List SV) (us:List Value),SVs.ret 0 l=true->SRs P B pl tb l us->SRs P B' pl' tb' l us
 |[],us,_,h=>by simpa [SRs] using h
 |s::l,us,hr,h=>by simp only[SVs.ret,z8] at hr;simp only[SRs] at h |-;obtain⟨u,jA,rfl,h1,h2⟩:=h;exact⟨u,jA,rfl,h1.retd (n:=0) (λj hj=>by omega) _ _ hr.1,SRs.retd0 l jA hr.2 h2⟩
theorem Q1f {f:Nat}{vc:VCode}{rs:List VResult}{nt:Nat}(h:Fun P f vc rs nt) (hm:P.follows .mixedOrders=true) {kk vk:Kind}(bF:(kk.flat&&vk.flat)=true) {sp:PSp kk vk}{ap:Ap}
  (hb:∀ gH c vs post,sp ap gH=some (c,vs,post)->c->∃ (C:Cx) (L:List (Nat×LoopAnn)) (fe:List SV),SVs.pure fe=true/\(∀ U us,SRs P U X1 J3 gH us->SRs P U X1 J3 fe us)/\COk P C/\gwp C L vc 0 (Q72 rs kk vk vs post) (YH nt fe)):XOk P f (Q26 ap kk vk sp):=by
 intro B F pl tb s env U d args vals K R hG ha hx hK;unfold Q26 at hx;split at hx
 .rename_i c vs post bM;cases cK:SVs.ret 0 vs with
  |false=>rw[cK] at hx;exact hx.elim
  |true =>
  rw[cK] at hx;obtain⟨hc,hx⟩:=hx;obtain⟨C,L,fe,cQ,jC,fc,hg⟩:=hb _ c vs post bM hc;have aB:=jC U vals (Y4 (own:=s.own) hG.leB (pl:=pl) (tb:=tb) (λd=>hG.obj d) ha);have bk:GRel P U U U (YH nt fe) (vals++List.replicate (nt-vals.length) undef) U:=by
   refine⟨U,U,λ_=>poison,J3,⟨.refl _,.refl _,λ_ _ _ h=>h,.refl _⟩,.refl _,.refl _,?_,λk=>?_,λk i' h1 h2=>?_,λk k' i' ml h1 h2 h3 h4=>?_,λ_ _=>rfl⟩
   .simp only[YH];rw[aB.length];exact SRs.append (Zr _ _ cQ aB) (DT _)
   .simp only[YH,Qf];trivial
   .simp only[YH,Qf] at h1;cases h1
   .simp only[YH,Qf] at h1;cases h1
  refine h.calls hm HU ?_;refine VA fc vc 0 _ _ _ U none _ trivial bk hg λe s' af U' h1 h2=>?_
  have main:(match Ww s' rs with
   |some (.tup (.map k::r))=>(match S3 kk vk (Qf s'.own k) with
    |some m'=>UG [] vs r/\post m'
    |none=>False)
   |_=>False)->Zf (Jo af U' rs) λv=>∃ v' aH,DropTo U v U' v' aH/\R v' aH:=λh=>by
   obtain⟨B',F',pl',tb',k1,k2⟩:=h2;split at h
   .rename_i k r hr;split at h
    .rename_i m' lA;obtain⟨g1,g2⟩:=h;have aJ:=Ma lA;obtain⟨w,h3,h4⟩:=XA k2 hr;rw[h3];simp only[SR,SRs] at h4;obtain⟨cs,rfl,mv,ws,rfl,⟨rfl,_⟩,h5⟩:=h4;have dI:=SRs.retd0 (B':=B) (pl':=JN pl d (pl' k)) (tb':=tb) vs ws cK (Zt vs r ws g1 h5);have aq:=k2.obj k;rw[aJ] at aq;have hle:U.Le U':=k1.f.trans k2.le;have mn:OR P B (JN pl d (pl' k)) tb U' (pl' k) (.map kk vk m'):=aq.retd bF λ_ _=>rfl;have ao:(Qf s'.own k).live=true:=by rw[aJ];rfl
     have fJ:∀ i,Oid (pl' k) i->U.get i=none:=λi hi=>by
      cases hg:U.get i with
      |none=>rfl
      |some b =>have:=k2.fresh k i ao hi;have h9:=k1.f.2 _ _ hg;rw[this] at h9;cases h9
     have mq:Gam P B F (JN pl d (pl' k)) tb (s.make d (.map kk vk m')) env U':=by
      refine hG.make d _ (pl' k) (hG.le.trans hle) (λj i _ hl hi=>?_) mn λi _ hi=>⟨?_,λj _ hl hj=>?_⟩
      .cases hg:U.get i with
       |none=>exact k1.d.2 i ((hG.obj j).q1d hl hi) hg
       |some bb=>exact hle.2 _ _ hg
      .cases hg:F.get i with
       |none=>rfl
       |some b=>have:=hG.le.2 _ _ hg;rw[fJ i hi] at this;cases this
      .have ah:=(hG.obj j).q1d hl hj;have:=k1.d.2 i ah (fJ i hi);obtain⟨id,es,clock,e1,e2,_⟩:=mn;rw[e1] at hi;obtain rfl:id=i:=osj hi;rw[this] at e2;cases e2
     refine⟨_,U',.refl _ _ _,hK _ _ B F _ tb _ U' (hx m' g2) (.of hG.bf k1.d) mq ?_⟩;obtain⟨id,es,clock,e1,_⟩:=mn;simp only[SR,SRs];exact⟨_,rfl,_,_,rfl,⟨by simp[JN],_,e1⟩,dI⟩
    .exact h.elim
   .exact h.elim
  cases e with
  |normal=>exact main h1
  |ret=>exact main h1
  |_=>exact h1.elim
 .exact hx.elim
def Q7k {kk vk:Kind}{D:Type}(la:AL D) (pre:D->Prop) (res:D->List SV) (post:D->List (kk.T×vk.T)->Prop):PSp kk vk:=λap gH=>match AL.dec ap la gH with
 |some a=>some (pre a,res a,post a)
 |none=>none
theorem Q0c {f:Nat}{vc:VCode}{rs:List VResult}{nt:Nat}(h:Fun P f vc rs nt) (hm:P.follows .mixedOrders=true) {ap:Ap}(dM:Q09 P ap) {kk vk:Kind}(bF:(kk.flat&&vk.flat)=true) {D:Type}{la:AL D}{pre:D->Prop}{res:D->List SV}{post:D->List (kk.T×vk.T)->Prop}
  {C:Cx}(aC:COk P C) {L:D->List (Nat×LoopAnn)}{V:D->Prop}
  (hq:∀ y,gwp C (L y) vc 0 (Q72 rs kk vk (res y) (post y)) (YH nt (AL.can la y))=V y)
  (hb:∀ y,pre y->V y):XOk P f (Q26 ap kk vk (Q7k la pre res post)):=Q1f h hm bF λgH c vs q hs hc=>by
 unfold Q7k at hs;split at hs
 .rename_i y h2;obtain⟨rfl,rfl,rfl⟩:=(by simpa using hs:pre y=c/\res y=vs/\post y=q);exact⟨C,L y,AL.can la y,AL.q0q la y,λU vs hv=>AL.q0k dM la h2 hv,aC,(hq y).mpr (hb y hc)⟩
 .cases hs
end
end Go.V
namespace Go.V
open Go
def callV (ap:Ap) (sp:CSp):XSp:=λd args s K =>
 let s1:=(⟨s.env++args,s.own,s.nx⟩:St).frzs (DL args);let a1:=s1.env.drop s.env.length
 bif SVs.pure a1 then (match sp ap a1 with
  |some (c,v,bs)=>bif v.ret bs.length&&bs.all OB.isL then c/\K (v.ren d 500000) ((⟨s1.env.take s.env.length,s1.own,s1.nx⟩:St).makes d 500000 0 bs) else False
  |none=>False) else False
def pj4 {A B C D E:Type}(x:A×B×C×D×E):E:=x.2.2.2.2
def pj8 {A B C D A' B' C' D' E:Type}(x:A×B×C×D×A'×B'×C'×D'×E):E:=x.2.2.2.2.2.2.2.2
def W5 {A B C D A' B' C' D' A1 B1 C1 D1 A2 B2 C2 D2 E:Type}(x:A×B×C×D×A'×B'×C'×D'×A1×B1×C1×D1×A2×B2×C2×D2×E):E:=x.2.2.2.2.2.2.2.2.2.2.2.2.2.2.2.2
theorem Ou (x:Nat):BitVec.ofInt 64 (x:Int)=BitVec.ofNat 64 x:=by apply BitVec.eq_of_toNat_eq;simp
theorem Q77 {x i:Nat}(hi:i<=64):Xh .i64 x i=((x <<< i:Nat):Int):=by have:Nat.min i 64=i:=wj hi;simp only[Xh,zB,IntKind.bits,this,Nat.shiftLeft_eq];norm_cast
end Go.V
namespace Go.Proofs.Tryz
open Go Go.V Go.Proofs
def inI (n a b:Int):Bool:=decide (a<=n)&&decide (n<=b)
theorem nI (n a b:Int):(!inI n a b)=(decide (n<a)||decide (b<n)):=by simp only[inI,Bool.not_and];by_cases h1:a<=n<;>by_cases h2:n<=b<;>simp[h1,h2]<;>omega
def Ie {α:Type}(l:List α) (p:α->Bool):Int:=match l.findIdx? p with|some i=>(i:Int)|none=>-1
def Q08 (l:List Int) (p:Int->Bool):Int:=match l.findIdx? p with|some i=>(i:Int)|none=>-1
theorem OU {α:Type}{l:List α}{p:α->Bool}{k:Nat}(hk:k<l.length) (h:p l[k]=true) (hJ:(l.take k).any p=false):Ie l p=k:=by
 have:l.findIdx? p=some k:=by rw[List.findIdx?_eq_some_iff_getElem];refine⟨hk,h,λj hj=>?_⟩;have hn:=xP.1 hJ l[j] (List.mem_take_iff_getElem.2 ⟨j,by omega,rfl⟩);simpa using hn
 simp[Ie,this]
theorem Lh {α:Type}{l:List α}{p:α->Bool}(hJ:l.any p=false):Ie l p=-1:=by
 have:l.findIdx? p=none:=by rw[List.findIdx?_eq_none_iff];intro x hx;have:=xP.1 hJ x hx;simpa using this
 simp[Ie,this]
theorem Q0g {α:Type}(l:List α) (p:α->Bool):(decide (Ie l p>=0))=l.any p:=by
 cases h:l.any p with
 |false=>rw[Lh h];rfl
 |true =>
  have:(l.findIdx? p).isSome=true:=by rw[List.findIdx?_isSome,h]
  obtain⟨i,hi⟩:=Option.isSome_iff_exists.1 this;have e:Ie l p=(i:Int):=by simp[Ie,hi]
  rw[e];exact x5 (Int.natCast_nonneg i)
def Bd:Nat->Nat->Nat
 |0,_=>0
 |h+1,n=>2*Bd h n+(n / 2 ^ h) % 2
theorem CW:∀ h n,Bd h n<2 ^ h
 |0,_=>by simp[Bd]
 |h+1,n=>by have:=CW h n;have h2:(n / 2 ^ h) % 2<2:=w5 _ (by omega);simp only[Bd];rw[Nat.pow_succ];omega
theorem H6:∀ h n i,(Bd h n).testBit i=(decide (i<h)&&n.testBit (h-1-i))
 |0,n,i=>by simp[Bd]
 |h+1,n,0=>by simp only[Bd];rw[Nat.testBit_zero,Nat.testBit_eq_decide_div_mod_eq];simp
 |h+1,n,i+1=>by have h2:(n / 2 ^ h) % 2<2:=w5 _ (by omega);simp only[Bd];rw[Nat.testBit_succ,show (2*Bd h n+n / 2 ^ h % 2) / 2=Bd h n by omega,H6 h n i];rw[show h+1-1-(i+1)=h-1-i by omega];congr 1;rw[decide_eq_decide];omega
def VQ (s m x:Nat):Nat:=((x >>> s) &&& m) ||| ((x &&& m) <<< s)
theorem Q11 (s m x i:Nat):(VQ s m x).testBit i=((x.testBit (s+i)&&m.testBit i)||(decide (s<=i)&&(x.testBit (i-s)&&m.testBit (i-s)))):=by unfold VQ;rw[Nat.testBit_or,Nat.testBit_and,Nat.testBit_shiftRight,Nat.testBit_shiftLeft,Nat.testBit_and]
def VP (s i:Nat):Nat:=if i / s % 2=0 then i+s else i-s
def Z4k (s m:Nat):Bool:=(List.range 64).all λi=>m.testBit i==(i / s % 2==0)
theorem C6 {s m x i:Nat}(hs:s=1\/s=2\/s=4\/s=8\/s=16\/s=32) (hm:Z4k s m=true) (hx:x<2 ^ 64) (hi:i<64):(VQ s m x).testBit i=x.testBit (VP s i):=by
 have rb:∀ j,j<64->m.testBit j=(j / s % 2==0):=λj hj=>by have:=zf.1 hm j (zz.2 hj);simpa using this
 have hb:∀ j,64<=j->x.testBit j=false:=λj hj=>Nat.testBit_lt_two_pow (xj hx (Nat.pow_le_pow_right (by omega) hj));rw[Q11,rb i hi];unfold VP;by_cases h0:i / s % 2=0
 .rw[z7 h0,h0];simp only[beq_self_eq_true,xT];have hz:(decide (s<=i)&&(x.testBit (i-s)&&m.testBit (i-s)))=false:=by
   by_cases h1:s<=i
   .rw[rb (i-s) (by omega)];have:¬ ((i-s) / s % 2=0):=by rcases hs with rfl|rfl|rfl|rfl|rfl|rfl<;>omega
    simp[this]
   .simp[h1]
  rw[hz,xZ,xW]
 .rw[z1 h0];have h1:s<=i:=by rcases hs with rfl|rfl|rfl|rfl|rfl|rfl<;>omega
  have h2:(i-s) / s % 2=0:=by rcases hs with rfl|rfl|rfl|rfl|rfl|rfl<;>omega
  rw[rb (i-s) (by omega),h2];simp[h0,h1]
theorem Nc {s m x:Nat}(hs:s=1\/s=2\/s=4\/s=8\/s=16\/s=32) (hx:x<2 ^ 64) (hm:m<2 ^ (64-s)):VQ s m x<2 ^ 64:=by
 unfold VQ;refine Nat.or_lt_two_pow ?_ ?_
 .exact xM Nat.and_le_left (xM (by rw[xV];exact Nat.div_le_self _ _) hx)
 .have h1:x &&& m<2 ^ (64-s):=xM Nat.and_le_right hm;rw[Nat.shiftLeft_eq];have h2:2 ^ 64=2 ^ (64-s)*2 ^ s:=by rw[<-Nat.pow_add];congr 1;omega
  rw[h2];exact Nat.mul_lt_mul_of_pos_right h1 (Nat.two_pow_pos s)
def rev8 (x:Nat):Nat:=VQ 4 1085102592571150095 (VQ 2 3689348814741910323 (VQ 1 6148914691236517205 x))
def Q14 (x:Nat):Nat:=(VQ 16 281470681808895 (VQ 8 71777214294589695 x)) >>> 32 ||| ((VQ 16 281470681808895 (VQ 8 71777214294589695 x)) <<< 32) % 2 ^ 64
theorem Aj {x i:Nat}(hx:x<2 ^ 64) (hi:i<64):(rev8 x).testBit i=x.testBit (VP 1 (VP 2 (VP 4 i)))/\rev8 x<2 ^ 64:=by
 have b1:VQ 1 6148914691236517205 x<2 ^ 64:=Nc (.inl rfl) hx (by decide);have b2:VQ 2 3689348814741910323 (VQ 1 6148914691236517205 x)<2 ^ 64:=Nc (.inr (.inl rfl)) b1 (by decide);have b3:=Nc (s:=4) (m:=1085102592571150095) (by omega) b2 (by decide);refine⟨?_,b3⟩;unfold rev8;have e4:VP 4 i<64:=by unfold VP;split<;>omega
 have e2:VP 2 (VP 4 i)<64:=by generalize VP 4 i=j at e4;unfold VP;split<;>omega
 rw[C6 (by omega) (by decide) b2 hi,C6 (by omega) (by decide) b1 e4,C6 (by omega) (by decide) hx e2]
theorem Q27 {x i:Nat}(hx:x<2 ^ 64) (hi:i<64):(Q14 x).testBit i=x.testBit (VP 8 (VP 16 (VP 32 i))):=by
 have b1:VQ 8 71777214294589695 x<2 ^ 64:=Nc (by omega) hx (by decide);have b2:VQ 16 281470681808895 (VQ 8 71777214294589695 x)<2 ^ 64:=Nc (by omega) b1 (by decide);have uO:(Q14 x).testBit i=(VQ 16 281470681808895 (VQ 8 71777214294589695 x)).testBit (VP 32 i):=by
  unfold Q14;generalize VQ 16 281470681808895 (VQ 8 71777214294589695 x)=y at b2;rw[Nat.testBit_or,Nat.testBit_shiftRight,Nat.testBit_mod_two_pow,Nat.testBit_shiftLeft];unfold VP;by_cases h:i / 32 % 2=0
  .rw[z7 h,xW];have:¬ 32<=i:=by omega
   simp[this]
  .rw[z1 h];have h1:32<=i:=by omega
   have h2:y.testBit (32+i)=false:=Nat.testBit_lt_two_pow (xj b2 (Nat.pow_le_pow_right (by omega) (by omega)));rw[h2];simp[h1,hi]
 have pG:VP 32 i<64:=by unfold VP;split<;>omega
 have rf:VP 16 (VP 32 i)<64:=by generalize VP 32 i=j at pG;unfold VP;split<;>omega
 rw[uO,C6 (by omega) (by decide) b1 pG,C6 (by omega) (by decide) hx rf]
theorem Q68 {x:Nat}(hx:x<2 ^ 64):Q14 x<2 ^ 64:=by unfold Q14;have b1:VQ 8 71777214294589695 x<2 ^ 64:=Nc (by omega) hx (by decide);have b2:VQ 16 281470681808895 (VQ 8 71777214294589695 x)<2 ^ 64:=Nc (by omega) b1 (by decide);refine Nat.or_lt_two_pow (xM (by rw[xV];exact Nat.div_le_self _ _) b2) (w5 _ (by decide))
theorem Q6a:∀ i,i<64->VP 1 (VP 2 (VP 4 (VP 8 (VP 16 (VP 32 i)))))=63-i:=by decide
theorem Z49 {x:Nat}(hx:x<2 ^ 64):Q14 (rev8 x)=Bd 64 x:=by
 refine Nat.eq_of_testBit_eq λi=>?_;have h8:=(Aj (i:=0) hx (by omega)).2;rw[H6];by_cases hi:i<64
 .rw[Q27 h8 hi];have pG:VP 32 i<64:=by unfold VP;split<;>omega
  have rf:VP 16 (VP 32 i)<64:=by generalize VP 32 i=j at pG;unfold VP;split<;>omega
  have e8:VP 8 (VP 16 (VP 32 i))<64:=by generalize VP 16 (VP 32 i)=j at rf;unfold VP;split<;>omega
  rw[(Aj hx e8).1,Q6a i hi];simp[hi]
 .rw[Nat.testBit_lt_two_pow (xj (Q68 h8) (Nat.pow_le_pow_right (by omega) (by omega)))];simp[hi]
theorem Ep {f n:Nat}(hf:f<=64) (hn:n<2 ^ f):Bd 64 n >>> (64-f)=Bd f n:=by
 refine Nat.eq_of_testBit_eq λi=>?_;rw[Nat.testBit_shiftRight,H6,H6];by_cases hi:i<f
 .rw[x5 hi,x5 (show 64-f+i<64 by omega),Bool.true_and,Bool.true_and];congr 1;omega
 .rw[xX hi,xX (show ¬ 64-f+i<64 by omega)];rfl
theorem Q0i {x:Nat}(hx:x<2 ^ 64):(BitVec.ofInt 64 (x:Int)).toNat=x:=by rw[Ou,BitVec.toNat_ofNat,xu hx]
theorem Q6l (x:Nat):IntKind.wrap .u64 (x:Int)=((x % 2 ^ 64:Nat):Int):=by show (x:Int) % 18446744073709551616=_;omega
theorem Z5s {a b:Nat}(ha:a<2 ^ 64) (hb:b<2 ^ 64):Qd .and .u64 (a:Int) (b:Int)=((a &&& b:Nat):Int):=by
 have e:(BitVec.ofInt 64 (a:Int) &&& BitVec.ofInt 64 (b:Int)).toNat=a &&& b:=by rw[BitVec.toNat_and,Q0i ha,Q0i hb]
 show IntKind.wrap .u64 ((BitVec.ofInt 64 (a:Int) &&& BitVec.ofInt 64 (b:Int)).toNat:Int)=_;rw[e,Q6l,xu (xM Nat.and_le_left ha)]
theorem orU {a b:Nat}(ha:a<2 ^ 64) (hb:b<2 ^ 64):Qd .or .u64 (a:Int) (b:Int)=((a ||| b:Nat):Int):=by
 have e:(BitVec.ofInt 64 (a:Int) ||| BitVec.ofInt 64 (b:Int)).toNat=a ||| b:=by rw[BitVec.toNat_or,Q0i ha,Q0i hb]
 show IntKind.wrap .u64 ((BitVec.ofInt 64 (a:Int) ||| BitVec.ofInt 64 (b:Int)).toNat:Int)=_;rw[e,Q6l,xu (Nat.or_lt_two_pow ha hb)]
theorem Z2l {x i:Nat}(hi:i<=64):YJ .u64 (x:Int) (i:Int)=((x >>> i:Nat):Int):=by have:Nat.min i 64=i:=wj hi;simp only[YJ,zB,IntKind.bits,this];rw[xV,Int.fdiv_eq_ediv_of_nonneg _ (Int.le_of_lt (Int.pow_pos (by omega)))];norm_cast
theorem Z5n {x i:Nat}(hi:i<=64):Xh .u64 (x:Int) (i:Int)=((x <<< i:Nat):Int):=by have:Nat.min i 64=i:=wj hi;simp only[Xh,zB,IntKind.bits,this,Nat.shiftLeft_eq];norm_cast
theorem Q8o {s m x:Nat}(hs:s=1\/s=2\/s=4\/s=8\/s=16\/s=32) (hx:x<2 ^ 64) (hm:m<2 ^ (64-s)) :
  Qd .or .u64 (Qd .and .u64 (YJ .u64 (x:Int) (s:Int)) (m:Int)) (Xh .u64 (Qd .and .u64 (x:Int) (m:Int)) (s:Int))=((VQ s m x:Nat):Int)/\InK .u64 (Xh .u64 (Qd .and .u64 (x:Int) (m:Int)) (s:Int))/\VQ s m x<2 ^ 64:=by
 have oQ:m<2 ^ 64:=xj hm (Nat.pow_le_pow_right (by omega) (by omega));have bE:x >>> s<2 ^ 64:=xM (by rw[xV];exact Nat.div_le_self _ _) hx;have hl:(x &&& m) <<< s<2 ^ 64:=by
  have h1:x &&& m<2 ^ (64-s):=xM Nat.and_le_right hm;rw[Nat.shiftLeft_eq];have h2:2 ^ 64=2 ^ (64-s)*2 ^ s:=by rw[<-Nat.pow_add];congr 1;omega
  rw[h2];exact Nat.mul_lt_mul_of_pos_right h1 (Nat.two_pow_pos s)
 rw[Z2l (by omega),Z5s bE oQ,Z5s hx oQ,Z5n (by omega),orU (xM Nat.and_le_left bE) hl];refine⟨rfl,?_,Nc hs hx hm⟩;rw[B4];generalize (x &&& m) <<< s=z at hl;omega
theorem sw1 {x:Nat}(hx:x<2 ^ 64):Qd .or .u64 (Qd .and .u64 (YJ .u64 (x:Int) 1) 6148914691236517205) (Xh .u64 (Qd .and .u64 (x:Int) 6148914691236517205) 1)=((VQ 1 6148914691236517205 x:Nat):Int)/\InK .u64 (Xh .u64 (Qd .and .u64 (x:Int) 6148914691236517205) 1)/\VQ 1 6148914691236517205 x<2 ^ 64:=Q8o (s:=1) (m:=6148914691236517205) (by omega) hx (by decide)
theorem sw2 {x:Nat}(hx:x<2 ^ 64):Qd .or .u64 (Qd .and .u64 (YJ .u64 (x:Int) 2) 3689348814741910323) (Xh .u64 (Qd .and .u64 (x:Int) 3689348814741910323) 2)=((VQ 2 3689348814741910323 x:Nat):Int)/\InK .u64 (Xh .u64 (Qd .and .u64 (x:Int) 3689348814741910323) 2)/\VQ 2 3689348814741910323 x<2 ^ 64:=Q8o (s:=2) (m:=3689348814741910323) (by omega) hx (by decide)
theorem sw4 {x:Nat}(hx:x<2 ^ 64):Qd .or .u64 (Qd .and .u64 (YJ .u64 (x:Int) 4) 1085102592571150095) (Xh .u64 (Qd .and .u64 (x:Int) 1085102592571150095) 4)=((VQ 4 1085102592571150095 x:Nat):Int)/\InK .u64 (Xh .u64 (Qd .and .u64 (x:Int) 1085102592571150095) 4)/\VQ 4 1085102592571150095 x<2 ^ 64:=Q8o (s:=4) (m:=1085102592571150095) (by omega) hx (by decide)
theorem sw8 {x:Nat}(hx:x<2 ^ 64):Qd .or .u64 (Qd .and .u64 (YJ .u64 (x:Int) 8) 71777214294589695) (Xh .u64 (Qd .and .u64 (x:Int) 71777214294589695) 8)=((VQ 8 71777214294589695 x:Nat):Int)/\InK .u64 (Xh .u64 (Qd .and .u64 (x:Int) 71777214294589695) 8)/\VQ 8 71777214294589695 x<2 ^ 64:=Q8o (s:=8) (m:=71777214294589695) (by omega) hx (by decide)
theorem Z60 {x:Nat}(hx:x<2 ^ 64):Qd .or .u64 (Qd .and .u64 (YJ .u64 (x:Int) 16) 281470681808895) (Xh .u64 (Qd .and .u64 (x:Int) 281470681808895) 16)=((VQ 16 281470681808895 x:Nat):Int)/\InK .u64 (Xh .u64 (Qd .and .u64 (x:Int) 281470681808895) 16)/\VQ 16 281470681808895 x<2 ^ 64:=Q8o (s:=16) (m:=281470681808895) (by omega) hx (by decide)
theorem Z5z {x:Nat}(hx:x<2 ^ 64):Qd .or .u64 (YJ .u64 (x:Int) 32) (IntKind.wrap .u64 (Xh .u64 (x:Int) 32))=((x >>> 32 ||| (x <<< 32) % 2 ^ 64:Nat):Int):=by have h1:YJ .u64 (x:Int) 32=((x >>> 32:Nat):Int):=Z2l (i:=32) (by omega);have h2:Xh .u64 (x:Int) 32=((x <<< 32:Nat):Int):=Z5n (i:=32) (by omega);rw[h1,h2,Q6l,orU (xM (by rw[xV];exact Nat.div_le_self _ _) hx) (w5 _ (by decide))]
abbrev Wn:=Int×Int×Bool
def X2:Wn:=(0,(0,false))
def Zg (hk:Int) (c:Wn):Bool:=inI c.1 (-1) 59&&inI c.2.1 0 (2 ^ hk.toNat-1)
def Qv (hk:Int) (cs:List Wn):Int:=if !inI hk 1 24 then 3 else if 60<cs.length then 5 else if cs=[]\/(cs.any λc=>!Zg hk c)=true then 2 else 0
def FC (f row:Int):Int:=((Bd f.toNat row.toNat:Nat):Int)
def UW (hk:Int) (c:Wn):Int:=if c.2.2 then FC hk c.2.1 else c.2.1
def Xs (hk:Int) (rows:List Int):Int:=if !inI hk 1 24 then 2 else if 60<rows.length then 5 else if rows=[] then 7 else if (rows.any λr=>!inI r 0 (2 ^ hk.toNat-1))=true then 2 else 0
def Vh (rows:List Int):List Wn:=(List.range rows.length).map λ(i:Nat)=>((i:Int),(rows.getD i 0,false))
def Qc (hk:Int) (rows:List Int):Int:=if Xs hk rows=0 then hk else 0
def QH (hk:Int) (rows:List Int):List Wn:=if Xs hk rows=0 then Vh rows else []
def atK (n a:Int) (st:List Int):Nat->Int
 |0=>a
 |k+1=>Int.tmod (atK n a st k+st.getD k 0) n
def Pm (hk:Int) (cs:List Wn) (a:Int) (st:List Int) (k:Nat):List Int:=(List.range k).map λi=>UW hk (cs.getD (atK cs.length a st i).toNat X2)
def Qu (hk:Int) (cs:List Wn) (a:Int) (st:List Int):Int:=if Qv hk cs≠0 then Qv hk cs else if !inI a 0 ((cs.length:Int)-1) then 7 else if 60<st.length then 5 else if (st.any λs=>!inI s 0 2)=true then 2 else 0
def Jj (hk:Int) (cs:List Wn) (a:Int) (st:List Int):List Int:=if Qu hk cs a st=0 then Pm hk cs a st st.length else []
def ZY (hk:Int) (cs:List Wn) (a:Int) (st:List Int):Int:=if Qu hk cs a st=0 then atK cs.length a st st.length else 0
theorem BK {n a b:Int}(h:(!inI n a b)=false):a<=n/\n<=b:=by unfold inI at h;simp at h;omega
theorem Z5j {k:Nat}(h:k<=62):Xh .i64 1 (k:Int)=((2 ^ k:Nat):Int):=by have:=Q77 (x:=1) (i:=k) (by omega);rw[Nat.shiftLeft_eq,xJ] at this;exact this
theorem Hc (k:Nat):(2:Int) ^ k=((2 ^ k:Nat):Int):=by simp
theorem EZ {k:Nat}(h:k<=24):0<2 ^ k/\2 ^ k<=16777216:=⟨Nat.two_pow_pos k,Nat.pow_le_pow_right (n:=2) (by omega) h⟩
theorem Fi {f:Int}{c:Wn}(h:Zg f c=true):0<=c.2.1/\c.2.1<2 ^ f.toNat:=by unfold Zg inI at h;simp only[z8,zC] at h;omega
theorem Sp {hk:Int}{cs:List Wn}(h1:(!inI hk 1 24)=false) (h2:cs.length<=60) (h3:(!(!cs.isEmpty&&!(cs.any λc=>!Zg hk c)))=true):Qv hk cs=2:=by unfold Qv;rw[z1 (by rw[h1];decide),z1 (by omega),z7];simp only[Bool.not_and,Bool.not_not,zy,List.isEmpty_iff] at h3;exact h3
theorem PC {hk:Int}{cs:List Wn}(h1:(!inI hk 1 24)=false) (h2:cs.length<=60) (h3:(!(!cs.isEmpty&&!(cs.any λc=>!Zg hk c)))=false):Qv hk cs=0/\cs≠[]/\∀ c∈cs,Zg hk c=true:=by
 simp only[Bool.not_and,Bool.not_not,Bool.or_eq_false_iff] at h3;have az:cs≠[]:=λe=>by rw[e] at h3;cases h3.1
 refine⟨?_,az,λc hc=>?_⟩
 .unfold Qv;rw[z1 (by rw[h1];decide),z1 (by omega),z1];rintro (h|h)
  .exact az h
  .rw[h3.2] at h;cases h
 .have:=xP.1 h3.2 c hc;simpa using this
def Q5e (rows:List Int) (k:Nat):List Wn:=(List.range k).map λ(i:Nat)=>((i:Int),(rows.getD i 0,false))
theorem Q00 (rows:List Int) (k:Nat):Q5e rows (k+1)=Q5e rows k++[((k:Int),(rows.getD k 0,false))]:=by unfold Q5e;rw[List.range_succ,xI];rfl
theorem Q1o (rows:List Int) (k:Nat):(Q5e rows k).length=k:=by simp[Q5e]
theorem Rz {hk:Int}{rows:List Int}{e:Int}(h:Xs hk rows=e) (h0:e≠0):(0=Qc hk rows/\e=Xs hk rows)/\QH hk rows=[]/\(QH hk rows).isEmpty=true:=by
 have h1:Xs hk rows≠0:=by omega
 have h2:QH hk rows=[]:=by unfold QH;rw[z1 h1]
 have h3:Qc hk rows=0:=by unfold Qc;rw[z1 h1]
 rw[h2,h3];exact⟨⟨rfl,h.symm⟩,rfl,rfl⟩
theorem Vg {hk a:Int}{cs:List Wn}{st:List Int}{e:Int}(h:Qu hk cs a st=e) (h0:e≠0):(0=ZY hk cs a st/\e=Qu hk cs a st)/\Jj hk cs a st=[]/\(Jj hk cs a st).isEmpty=true:=by
 have h1:Qu hk cs a st≠0:=by omega
 have h2:Jj hk cs a st=[]:=by unfold Jj;rw[z1 h1]
 have h3:ZY hk cs a st=0:=by unfold ZY;rw[z1 h1]
 rw[h2,h3];exact⟨⟨rfl,h.symm⟩,rfl,rfl⟩
theorem F2 (hk:Int) (cs:List Wn) (a:Int) (st:List Int) (k:Nat):Pm hk cs a st (k+1)=Pm hk cs a st k++[UW hk (cs.getD (atK cs.length a st k).toNat X2)]:=by unfold Pm;rw[List.range_succ,xI];rfl
theorem PD (hk:Int) (cs:List Wn) (a:Int) (st:List Int) (k:Nat):(Pm hk cs a st k).length=k:=by simp[Pm]
theorem Q4u {n:Nat}{a:Int}{st:List Int}(hn:0<n) (h0:0<=a) (h1:a<n) (hs:∀ s∈st,0<=s):∀ k,0<=atK n a st k/\atK n a st k<n
 |0=>⟨h0,h1⟩
 |k+1=>by
  have ih:=Q4u hn h0 h1 hs k;have hg:0<=st.getD k 0:=by
   rw[zd];cases h:st[k]? with
   |none=>exact Int.le_refl _
   |some x=>exact hs x (zK h)
  simp only[atK];rw[Int.tmod_eq_emod_of_nonneg (by omega)];exact⟨Int.emod_nonneg _ (by omega),Int.emod_lt_of_pos _ (by omega)⟩
theorem GA {hk:Int}{cs:List Wn}(h:Qv hk cs=0):(1<=hk/\hk<=24)/\cs.length<=60/\cs≠[]/\∀ c∈cs,Zg hk c=true:=by
 unfold Qv at h;split at h
 .cases h
 .rename_i h1;have h1:(!inI hk 1 24)=false:=by simpa using h1
  split at h
  .cases h
  .split at h
   .cases h
   .rename_i h2 h3;refine⟨BK h1,by omega,λe=>h3 (.inl e),λc hc=>?_⟩;cases av:Zg hk c with
    |true=>rfl
    |false=>exact(h3 (.inr (xD.2 ⟨c,hc,by rw[av];rfl⟩))).elim
def Xd:AL (List Int×((Int->Prop)×(Int->Bool))):=(.cons (.k (.list (.i .i64))) (.one (.fn [(.i .i64)] .bo)))
def YR (d:List Int×((Int->Prop)×(Int->Bool))):Prop:=d.1.length<=1000000/\∀ x∈d.1,d.2.1 x
def JV (d:List Int×((Int->Prop)×(Int->Bool))):SV:=.val (.i .i64) (Q08 d.1 d.2.2)
def JW (d:List Int×((Int->Prop)×(Int->Bool))):List OB:=[]
def ZV:CSp:=VU Xd YR JV JW
def Za (l:List Int) (p:(Int->Prop)×(Int->Bool)):Prop :=
 ∃ (e2:Unit) (d20:Int),((l=l/\(SV.pf [(.i .i64)] .bo p.1 p.2=SV.pf [(.i .i64)] .bo p.1 p.2)/\(lI l)=(lI l)/\(0:Int)=d20/\True)/\(True)) /\
 LoopP (λ(d2:Int) (q2:(Int)->Prop) =>
  ((decide (d2<(lI l)))=true ->
   (0<=d2)/\(d2<(List.length l))/\(p.1 (gD l d2 0))/\((p.2 (gD l d2 0))=true ->
    (d2=(Q08 l p.2)/\(True))) /\
   ((p.2 (gD l d2 0))=false ->
    (I64 (d2+(1:Int)))/\(∃ d3:Int,((l=l/\(SV.pf [(.i .i64)] .bo p.1 p.2=SV.pf [(.i .i64)] .bo p.1 p.2)/\(lI l)=(lI l)/\(d2+(1:Int))=d3/\True)/\(True))/\q2 d3))) /\
  ((decide (d2<(lI l)))=false ->
   ((-1:Int)=(Q08 l p.2)/\(True)))) d20
def X9:Cx:=⟨[],[],19,[],0,[],[],[],[],false,[],[],[],[]⟩
def Kl (l:List Int) (p:(Int->Prop)×(Int->Bool)):List (Nat×LoopAnn):=[(0,⟨Unit,Int,[0,1,7,8],λe x=>[.val (.list (.i .i64)) l,.pf [(.i .i64)] .bo p.1 p.2,.val (.i .i64) (((List.length l):Nat):Int),.val (.i .i64) x],λe x=>[]⟩)]
theorem K8 (d:List Int×((Int->Prop)×(Int->Bool))):gwp (X9) (Kl d.1 d.2) Z22 0 (UO [.tmp 4] (JV d) (JW d)) (Zd 19 (AL.can Xd d))=Za d.1 d.2:=by kernel_rfl
abbrev Ku:Prop:=OkC Tryz.prog 142 ZV
theorem K7 (h:∀ (l:List Int) (p:(Int->Prop)×(Int->Bool)),(l.length<=1000000/\∀ x∈l,p.1 x)->Za l p):OkC Tryz.prog 142 ZV :=
 Zv OM mixed (C:=X9) (V:=λ(d:List Int×((Int->Prop)×(Int->Bool)))=>Za d.1 d.2) ⟨.nil,XsOk.nil,ItsOk.nil,YlOk.nil,IysOk.nil,XfOk.nil⟩ (K8) λd hp=>h d.1 d.2 hp
theorem FZ {l:List Int}{p:Int->Bool}{k:Nat}(hk:k<l.length) (h:p l[k]=true) (hJ:(l.take k).any p=false):Q08 l p=k:=by
 have:l.findIdx? p=some k:=by rw[List.findIdx?_eq_some_iff_getElem];refine⟨hk,h,λj hj=>?_⟩;have hn:=xP.1 hJ l[j] (List.mem_take_iff_getElem.2 ⟨j,by omega,rfl⟩);simpa using hn
 simp[Q08,this]
theorem OZ {l:List Int}{p:Int->Bool}(hJ:l.any p=false):Q08 l p=-1:=by
 have:l.findIdx? p=none:=by rw[List.findIdx?_eq_none_iff];intro x hx;have:=xP.1 hJ x hx;simpa using this
 simp[Q08,this]
theorem CQ (l:List Int) (p:Int->Bool):decide (Q08 l p>=0)=l.any p:=by
 unfold Q08;cases h:l.findIdx? p with
 |none =>
  have:=List.findIdx?_eq_none_iff.1 h;have:l.any p=false:=by rw[xP];intro x hx;simp[this x hx]
  rw[this];rfl
 |some i =>obtain⟨h1,h2,_⟩:=List.findIdx?_eq_some_iff_getElem.1 h;rw[xD.2 ⟨l[i],zp h1,h2⟩];simp
theorem K6:Ku:=K7 λl p hp=>by
 unfold Za;(try delta lI gD sT I64 W5 pj8 pj4);simp only[true_and,and_true,exists_eq_left',exists_const,zC,x_];refine LoopP.count l.length (λk=>(l.take k).any p.2=false) (by simp) λk bp hJ q hq=>?_;simp only[zB,Int.ofNat_lt,Qq];refine⟨λah=>?_,λbG=>?_⟩
 .rw[Qg ah];refine⟨by omega,ah,hp.2 _ (zp ah),λhx=>?_,λhx=>⟨by omega,hq ah ?_⟩⟩
  .rw[FZ ah hx hJ]
  .rw[Yo ah,List.any_append,hJ];simp[hx]
 .rw[zN (by omega)] at hJ;rw[OZ hJ]
def JA:AL (List Int×((Int->Prop)×(Int->Bool))):=(.cons (.k (.list (.i .i64))) (.one (.fn [(.i .i64)] .bo)))
def WW (d:List Int×((Int->Prop)×(Int->Bool))):Prop:=d.1.length<=1000000/\∀ x∈d.1,d.2.1 x
def Jt (d:List Int×((Int->Prop)×(Int->Bool))):SV:=.val .bo (d.1.any d.2.2)
def Js (d:List Int×((Int->Prop)×(Int->Bool))):List OB:=[]
def Z0:CSp:=VU JA WW Jt Js
def Zm (l:List Int) (p:(Int->Prop)×(Int->Bool)):Prop :=
 (l.length<=1000000/\∀ x∈l,(λ(x1:Int)=>p.1 x1) x)/\((decide ((Q08 l (λ(x1:Int)=>(p.2 x1)))>=(0:Int)))=(l.any p.2)/\(True))
def Jz:Cx:=⟨[],[(142,ZV)],9,[],0,[],[],[],[],false,[],[],[],[]⟩
def Yj (l:List Int) (p:(Int->Prop)×(Int->Bool)):List (Nat×LoopAnn):=[]
theorem Yw (d:List Int×((Int->Prop)×(Int->Bool))):gwp (Jz) (Yj d.1 d.2) Z1g 0 (UO [.tmp 4] (Jt d) (Js d)) (Zd 9 (AL.can JA d))=Zm d.1 d.2:=by kernel_rfl
abbrev Yp:Prop:=OkC Tryz.prog 113 Z0
theorem Yy (h:∀ (l:List Int) (p:(Int->Prop)×(Int->Bool)),(l.length<=1000000/\∀ x∈l,p.1 x)->Zm l p):OkC Tryz.prog 113 Z0 :=
 Zv IG mixed (C:=Jz) (V:=λ(d:List Int×((Int->Prop)×(Int->Bool)))=>Zm d.1 d.2) ⟨(.cons K6 .nil),XsOk.nil,ItsOk.nil,YlOk.nil,IysOk.nil,XfOk.nil⟩ (Yw) λd hp=>h d.1 d.2 hp
theorem Jy:Yp:=Yy λl p hp=>by exact⟨hp,CQ l p.2,trivial⟩
def VO:AL (Int×Int×Int):=(.cons (.k (.i .i64)) (.cons (.ptr (.one (.k (.i .i64)))) (.one (.ptr (.one (.k (.i .i64)))))))
def Dw (d:Int×Int×Int):Prop:=True
def KY (d:Int×Int×Int):SV:=.val .bo (decide (d.1<d.2.1)||decide (d.2.2<d.1))
def KU (d:Int×Int×Int):List OB:=[]
def YA:CSp:=VU VO Dw KY KU
def Xl (n:Int) (a:Int) (b:Int):Prop :=
 (((decide (n<a))||(decide (n > b)))=(decide (n<a)||decide (b<n))/\(True))
def VG:Cx:=⟨[],[],13,[],0,[],[],[],[],false,[],[],[],[]⟩
def Bg (n:Int) (a:Int) (b:Int):List (Nat×LoopAnn):=[]
theorem DZ (d:Int×Int×Int):gwp (VG) (Bg d.1 d.2.1 d.2.2) Z1k 0 (UO [.tmp 4] (KY d) (KU d)) (Zd 13 (AL.can VO d))=Xl d.1 d.2.1 d.2.2:=by kernel_rfl
abbrev DY:Prop:=OkC Tryz.prog 125 YA
theorem DI (h:∀ (n:Int) (a:Int) (b:Int),(True)->Xl n a b):OkC Tryz.prog 125 YA :=
 Zv Ig mixed (C:=VG) (V:=λ(d:Int×Int×Int)=>Xl d.1 d.2.1 d.2.2) ⟨.nil,XsOk.nil,ItsOk.nil,YlOk.nil,IysOk.nil,XfOk.nil⟩ (DZ) λd hp=>h d.1 d.2.1 d.2.2 hp
theorem Bb:DY:=DI λn a b _=>by unfold Xl;(try delta lI gD sT I64 W5 pj8 pj4);exact(by and_intros<;>first|rfl|trivial|simp)
def Nn:AL (Int×Int×List Int):=(.cons (.k (.i .i64)) (.cons (.k (.i .i64)) (.one (.k (.list (.i .i64))))))
def B_ (d:Int×Int×List Int):Prop:=d.2.2.length<=1000000
def Uv (d:Int×Int×List Int):SV:=.val .bo (!(d.2.2.any λn=>decide (n<d.1)||decide (d.2.1<n)))
def Uw (d:Int×Int×List Int):List OB:=[]
def J5:CSp:=VU Nn B_ Uv Uw
def Wa (a:Int) (b:Int) (l:List Int):Prop :=
 (l.length<=1000000/\∀ x∈l,(λ(x1:Int)=>True) x)/\((!(l.any (λ(x1:Int)=>(decide (x1<a)||decide (b<x1)))))=(!(l.any λn=>decide (n<a)||decide (b<n)))/\(True))
def Nq:Cx:=⟨[],[(113,Z0),(125,YA)],11,[],0,[],[],[],[],false,[],[],[],[]⟩
def HL (a:Int) (b:Int) (l:List Int):List (Nat×LoopAnn):=[]
theorem PK (d:Int×Int×List Int):gwp (Nq) (HL d.1 d.2.1 d.2.2) c88 0 (UO [.tmp 6] (Uv d) (Uw d)) (Zd 11 (AL.can Nn d))=Wa d.1 d.2.1 d.2.2:=by kernel_rfl
abbrev PQ:Prop:=OkC Tryz.prog 88 J5
theorem P6 (h:∀ (a:Int) (b:Int) (l:List Int),(l.length<=1000000)->Wa a b l):OkC Tryz.prog 88 J5 :=
 Zv Q6i mixed (C:=Nq) (V:=λ(d:Int×Int×List Int)=>Wa d.1 d.2.1 d.2.2) ⟨(.cons Jy (.cons Bb .nil)),XsOk.nil,ItsOk.nil,YlOk.nil,IysOk.nil,XfOk.nil⟩ (PK) λd hp=>h d.1 d.2.1 d.2.2 hp
theorem Xe:PQ:=P6 λa b l h=>by unfold Wa;(try delta lI gD sT I64 W5 pj8 pj4);exact⟨⟨h,λ_ _=>trivial⟩,rfl,trivial⟩
def WU:AL (Int):=(.one (.k (.i .i64)))
def Uq (d:Int):Prop:=True
def Wc (d:Int):SV:=.val .bo (inI d 1 24)
def Wy (d:Int):List OB:=[]
def QA:CSp:=VU WU Uq Wc Wy
def ZL (f:Int):Prop :=
 ([f].length<=1000000)/\((!([f].any λn=>decide (n<(1:Int))||decide ((24:Int)<n)))=(inI f 1 24)/\(True))
def WG:Cx:=⟨[(3,(.i .i64))],[(88,J5)],6,[],0,[],[],[],[],false,[],[],[],[]⟩
def N9 (f:Int):List (Nat×LoopAnn):=[]
theorem UK (d:Int):gwp (WG) (N9 d) c87 0 (UO [.tmp 2] (Wc d) (Wy d)) (Zd 6 (AL.can WU d))=ZL d:=by kernel_rfl
abbrev N5:Prop:=OkC Tryz.prog 87 QA
theorem UH (h:∀ (f:Int),(True)->ZL f):OkC Tryz.prog 87 QA :=
 Zv Q6u mixed (C:=WG) (V:=λ(d:Int)=>ZL d) ⟨(.cons Xe .nil),XsOk.nil,ItsOk.nil,YlOk.nil,IysOk.nil,XfOk.nil⟩ (UK) λd hp=>h d hp
theorem QW:N5:=UH λf _=>by unfold ZL;(try delta lI gD sT I64 W5 pj8 pj4);have e:∀ n a b:Int,(decide (n<a)||decide (b<n))=!inI n a b:=λn a b=>(nI n a b).symm;simp only[List.any_cons,List.any_nil,xZ,e,Bool.not_not,zS,List.length_nil];exact⟨by omega,(by and_intros<;>first|rfl|trivial|simp)⟩
def WH:AL (Int×List Int):=(.cons (.k (.i .i64)) (.one (.k (.list (.i .i64)))))
def U4 (d:Int×List Int):Prop:=1<=d.1/\d.1<=24/\d.2.length<=1000000
def We (d:Int×List Int):SV:=.val .bo (!(d.2.any λn=>!inI n 0 (2 ^ d.1.toNat-1)))
def Wh (d:Int×List Int):List OB:=[]
def Zl:CSp:=VU WH U4 We Wh
def ZK (f:Int) (l:List Int):Prop :=
 (0<=f)/\(I64 (Xh .i64 (1:Int) f))/\(I64 ((Xh .i64 (1:Int) f)-(1:Int)))/\(l.length<=1000000)/\((!(l.any λn=>decide (n<(0:Int))||decide (((Xh .i64 (1:Int) f)-(1:Int))<n)))=(!(l.any λn=>!inI n 0 (2 ^ f.toNat-1)))/\(True))
def WT:Cx:=⟨[],[(88,J5)],10,[],0,[],[],[],[],false,[],[],[],[]⟩
def N3 (f:Int) (l:List Int):List (Nat×LoopAnn):=[]
theorem UJ (d:Int×List Int):gwp (WT) (N3 d.1 d.2) Z1p 0 (UO [.tmp 4] (We d) (Wh d)) (Zd 10 (AL.can WH d))=ZK d.1 d.2:=by kernel_rfl
abbrev UE:Prop:=OkC Tryz.prog 102 Zl
theorem U_ (h:∀ (f:Int) (l:List Int),(1<=f/\f<=24/\l.length<=1000000)->ZK f l):OkC Tryz.prog 102 Zl :=
 Zv FL mixed (C:=WT) (V:=λ(d:Int×List Int)=>ZK d.1 d.2) ⟨(.cons Xe .nil),XsOk.nil,ItsOk.nil,YlOk.nil,IysOk.nil,XfOk.nil⟩ (UJ) λd hp=>h d.1 d.2 hp
theorem JP:UE:=U_ λf l h=>by obtain⟨h1,h2,h3⟩:=h;unfold ZK;(try delta lI gD sT I64 W5 pj8 pj4);have e:∀ n a b:Int,(decide (n<a)||decide (b<n))=!inI n a b:=λn a b=>(nI n a b).symm;obtain⟨k,rfl⟩:=xy (show 0<=f by omega);have hs:=Z5j (k:=k) (by omega);have hp:=EZ (k:=k) (by omega);simp only[hs,e,zB,Hc];exact⟨by omega,by simp only[Qq];omega,by simp only[Qq];omega,h3,(by and_intros<;>first|rfl|trivial|simp)⟩
def X4:AL (Int):=(.one (.k (.i .u64)))
def YK (d:Int):Prop:=0<=d/\d<=18446744073709551615
def JT (d:Int):SV:=.val (.i .u64) ((Q14 d.toNat:Nat):Int)
def J_ (d:Int):List OB:=[]
def ZU:CSp:=VU X4 YK JT J_
def Z9 (x:Int):Prop :=
 (0<=(8:Int))/\(0<=(8:Int))/\(InK .u64 (Xh .u64 (Qd .and .u64 x (71777214294589695:Int)) (8:Int)))/\(0<=(16:Int))/\(0<=(16:Int))/\(InK .u64 (Xh .u64 (Qd .and .u64 (Qd .or .u64 (Qd .and .u64 (YJ .u64 x (8:Int)) (71777214294589695:Int)) (Xh .u64 (Qd .and .u64 x (71777214294589695:Int)) (8:Int))) (281470681808895:Int)) (16:Int)))/\(0<=(32:Int))/\(0<=(32:Int))/\((Qd .or .u64 (YJ .u64 (Qd .or .u64 (Qd .and .u64 (YJ .u64 (Qd .or .u64 (Qd .and .u64 (YJ .u64 x (8:Int)) (71777214294589695:Int)) (Xh .u64 (Qd .and .u64 x (71777214294589695:Int)) (8:Int))) (16:Int)) (281470681808895:Int)) (Xh .u64 (Qd .and .u64 (Qd .or .u64 (Qd .and .u64 (YJ .u64 x (8:Int)) (71777214294589695:Int)) (Xh .u64 (Qd .and .u64 x (71777214294589695:Int)) (8:Int))) (281470681808895:Int)) (16:Int))) (32:Int)) (IntKind.wrap .u64 (Xh .u64 (Qd .or .u64 (Qd .and .u64 (YJ .u64 (Qd .or .u64 (Qd .and .u64 (YJ .u64 x (8:Int)) (71777214294589695:Int)) (Xh .u64 (Qd .and .u64 x (71777214294589695:Int)) (8:Int))) (16:Int)) (281470681808895:Int)) (Xh .u64 (Qd .and .u64 (Qd .or .u64 (Qd .and .u64 (YJ .u64 x (8:Int)) (71777214294589695:Int)) (Xh .u64 (Qd .and .u64 x (71777214294589695:Int)) (8:Int))) (281470681808895:Int)) (16:Int))) (32:Int))))=((Q14 x.toNat:Nat):Int)/\(True))
def X8:Cx:=⟨[],[],22,[20],0,[],[],[],[],false,[],[],[],[]⟩
def Kr (x:Int):List (Nat×LoopAnn):=[]
theorem K3 (d:Int):gwp (X8) (Kr d) Z1s 0 (UO [.tmp 2] (JT d) (J_ d)) (Zd 22 (AL.can X4 d))=Z9 d:=by kernel_rfl
abbrev Ke:Prop:=OkC Tryz.prog 184 ZU
theorem Kq (h:∀ (x:Int),(0<=x/\x<=18446744073709551615)->Z9 x):OkC Tryz.prog 184 ZU :=
 Zv Q01 mixed (C:=X8) (V:=λ(d:Int)=>Z9 d) ⟨.nil,XsOk.nil,ItsOk.nil,YlOk.nil,IysOk.nil,XfOk.nil⟩ (K3) λd hp=>h d hp
theorem Kv:Ke:=Kq λx h=>by
 obtain⟨h1,h2⟩:=h;unfold Z9;(try delta lI gD sT I64 W5 pj8 pj4);obtain⟨n,rfl⟩:=xy h1;have hn:n<2 ^ 64:=by omega
 obtain⟨a1,a2,a3⟩:=sw8 hn;obtain⟨b1,b2,b3⟩:=Z60 a3;have c1:=Z5z b3;simp only[a1,b1,c1,zB];refine⟨by omega,by omega,a2,by omega,by omega,b2,by omega,by omega,?_⟩;exact(by and_intros<;>first|rfl|trivial|simp)
def WV:AL (Int):=(.one (.k (.i .u64)))
def U9 (d:Int):Prop:=0<=d/\d<=18446744073709551615
def Wu (d:Int):SV:=.val (.i .u64) ((Bd 64 d.toNat:Nat):Int)
def Wj (d:Int):List OB:=[]
def Xf:CSp:=VU WV U9 Wu Wj
def ZM (x:Int):Prop :=
 (0<=(1:Int))/\(0<=(1:Int))/\(InK .u64 (Xh .u64 (Qd .and .u64 x (6148914691236517205:Int)) (1:Int)))/\(0<=(2:Int))/\(0<=(2:Int))/\(InK .u64 (Xh .u64 (Qd .and .u64 (Qd .or .u64 (Qd .and .u64 (YJ .u64 x (1:Int)) (6148914691236517205:Int)) (Xh .u64 (Qd .and .u64 x (6148914691236517205:Int)) (1:Int))) (3689348814741910323:Int)) (2:Int)))/\(0<=(4:Int))/\(0<=(4:Int))/\(InK .u64 (Xh .u64 (Qd .and .u64 (Qd .or .u64 (Qd .and .u64 (YJ .u64 (Qd .or .u64 (Qd .and .u64 (YJ .u64 x (1:Int)) (6148914691236517205:Int)) (Xh .u64 (Qd .and .u64 x (6148914691236517205:Int)) (1:Int))) (2:Int)) (3689348814741910323:Int)) (Xh .u64 (Qd .and .u64 (Qd .or .u64 (Qd .and .u64 (YJ .u64 x (1:Int)) (6148914691236517205:Int)) (Xh .u64 (Qd .and .u64 x (6148914691236517205:Int)) (1:Int))) (3689348814741910323:Int)) (2:Int))) (1085102592571150095:Int)) (4:Int)))/\(0<=(Qd .or .u64 (Qd .and .u64 (YJ .u64 (Qd .or .u64 (Qd .and .u64 (YJ .u64 (Qd .or .u64 (Qd .and .u64 (YJ .u64 x (1:Int)) (6148914691236517205:Int)) (Xh .u64 (Qd .and .u64 x (6148914691236517205:Int)) (1:Int))) (2:Int)) (3689348814741910323:Int)) (Xh .u64 (Qd .and .u64 (Qd .or .u64 (Qd .and .u64 (YJ .u64 x (1:Int)) (6148914691236517205:Int)) (Xh .u64 (Qd .and .u64 x (6148914691236517205:Int)) (1:Int))) (3689348814741910323:Int)) (2:Int))) (4:Int)) (1085102592571150095:Int)) (Xh .u64 (Qd .and .u64 (Qd .or .u64 (Qd .and .u64 (YJ .u64 (Qd .or .u64 (Qd .and .u64 (YJ .u64 x (1:Int)) (6148914691236517205:Int)) (Xh .u64 (Qd .and .u64 x (6148914691236517205:Int)) (1:Int))) (2:Int)) (3689348814741910323:Int)) (Xh .u64 (Qd .and .u64 (Qd .or .u64 (Qd .and .u64 (YJ .u64 x (1:Int)) (6148914691236517205:Int)) (Xh .u64 (Qd .and .u64 x (6148914691236517205:Int)) (1:Int))) (3689348814741910323:Int)) (2:Int))) (1085102592571150095:Int)) (4:Int)))/\(Qd .or .u64 (Qd .and .u64 (YJ .u64 (Qd .or .u64 (Qd .and .u64 (YJ .u64 (Qd .or .u64 (Qd .and .u64 (YJ .u64 x (1:Int)) (6148914691236517205:Int)) (Xh .u64 (Qd .and .u64 x (6148914691236517205:Int)) (1:Int))) (2:Int)) (3689348814741910323:Int)) (Xh .u64 (Qd .and .u64 (Qd .or .u64 (Qd .and .u64 (YJ .u64 x (1:Int)) (6148914691236517205:Int)) (Xh .u64 (Qd .and .u64 x (6148914691236517205:Int)) (1:Int))) (3689348814741910323:Int)) (2:Int))) (4:Int)) (1085102592571150095:Int)) (Xh .u64 (Qd .and .u64 (Qd .or .u64 (Qd .and .u64 (YJ .u64 (Qd .or .u64 (Qd .and .u64 (YJ .u64 x (1:Int)) (6148914691236517205:Int)) (Xh .u64 (Qd .and .u64 x (6148914691236517205:Int)) (1:Int))) (2:Int)) (3689348814741910323:Int)) (Xh .u64 (Qd .and .u64 (Qd .or .u64 (Qd .and .u64 (YJ .u64 x (1:Int)) (6148914691236517205:Int)) (Xh .u64 (Qd .and .u64 x (6148914691236517205:Int)) (1:Int))) (3689348814741910323:Int)) (2:Int))) (1085102592571150095:Int)) (4:Int)))<=18446744073709551615)/\(((Q14 (Qd .or .u64 (Qd .and .u64 (YJ .u64 (Qd .or .u64 (Qd .and .u64 (YJ .u64 (Qd .or .u64 (Qd .and .u64 (YJ .u64 x (1:Int)) (6148914691236517205:Int)) (Xh .u64 (Qd .and .u64 x (6148914691236517205:Int)) (1:Int))) (2:Int)) (3689348814741910323:Int)) (Xh .u64 (Qd .and .u64 (Qd .or .u64 (Qd .and .u64 (YJ .u64 x (1:Int)) (6148914691236517205:Int)) (Xh .u64 (Qd .and .u64 x (6148914691236517205:Int)) (1:Int))) (3689348814741910323:Int)) (2:Int))) (4:Int)) (1085102592571150095:Int)) (Xh .u64 (Qd .and .u64 (Qd .or .u64 (Qd .and .u64 (YJ .u64 (Qd .or .u64 (Qd .and .u64 (YJ .u64 x (1:Int)) (6148914691236517205:Int)) (Xh .u64 (Qd .and .u64 x (6148914691236517205:Int)) (1:Int))) (2:Int)) (3689348814741910323:Int)) (Xh .u64 (Qd .and .u64 (Qd .or .u64 (Qd .and .u64 (YJ .u64 x (1:Int)) (6148914691236517205:Int)) (Xh .u64 (Qd .and .u64 x (6148914691236517205:Int)) (1:Int))) (3689348814741910323:Int)) (2:Int))) (1085102592571150095:Int)) (4:Int))).toNat:Nat):Int)=((Bd 64 x.toNat:Nat):Int)/\(True))
def WS:Cx:=⟨[],[(184,ZU)],26,[],0,[],[],[],[],false,[],[],[],[]⟩
def N8 (x:Int):List (Nat×LoopAnn):=[]
theorem UP (d:Int):gwp (WS) (N8 d) Z1z 0 (UO [.tmp 2] (Wu d) (Wj d)) (Zd 26 (AL.can WV d))=ZM d:=by kernel_rfl
abbrev UM:Prop:=OkC Tryz.prog 153 Xf
theorem N6 (h:∀ (x:Int),(0<=x/\x<=18446744073709551615)->ZM x):OkC Tryz.prog 153 Xf :=
 Zv ID mixed (C:=WS) (V:=λ(d:Int)=>ZM d) ⟨(.cons Kv .nil),XsOk.nil,ItsOk.nil,YlOk.nil,IysOk.nil,XfOk.nil⟩ (UP) λd hp=>h d hp
theorem UY:UM:=N6 λx h=>by
 obtain⟨h1,h2⟩:=h;unfold ZM;(try delta lI gD sT I64 W5 pj8 pj4);obtain⟨n,rfl⟩:=xy h1;have hn:n<2 ^ 64:=by omega
 obtain⟨a1,a2,a3⟩:=sw1 hn;obtain⟨b1,b2,b3⟩:=sw2 a3;obtain⟨c1,c2,c3⟩:=sw4 b3;have hr:=Z49 hn;have he:VQ 4 1085102592571150095 (VQ 2 3689348814741910323 (VQ 1 6148914691236517205 n))=rev8 n:=rfl;simp only[a1,b1,c1,zB];rw[he,hr];rw[he] at c3;refine⟨by omega,by omega,a2,by omega,by omega,b2,by omega,by omega,c2,⟨by omega,by omega⟩,?_⟩;exact(by and_intros<;>first|rfl|trivial|simp)
def Yr:AL (Int×Int):=(.cons (.k (.i .i64)) (.one (.k (.i .i64))))
def UI (d:Int×Int):Prop:=1<=d.1/\d.1<=24/\0<=d.2/\d.2<2 ^ d.1.toNat
def WQ (d:Int×Int):SV:=.val (.i .i64) (FC d.1 d.2)
def WN (d:Int×Int):List OB:=[]
def Xv:CSp:=VU Yr UI WQ WN
def ZX (f:Int) (r:Int):Prop :=
 (InK .u64 r)/\(0<=r/\r<=18446744073709551615)/\(InK .u64 f)/\(InK .u64 ((64:Int)-f))/\(0<=((64:Int)-f))/\(I64 (YJ .u64 ((Bd 64 r.toNat:Nat):Int) ((64:Int)-f)))/\((YJ .u64 ((Bd 64 r.toNat:Nat):Int) ((64:Int)-f))=(FC f r)/\(True))
def Yu:Cx:=⟨[],[(153,Xf)],13,[],0,[],[],[],[],false,[],[],[],[]⟩
def NA (f:Int) (r:Int):List (Nat×LoopAnn):=[]
theorem Nl (d:Int×Int):gwp (Yu) (NA d.1 d.2) Z1f 0 (UO [.tmp 4] (WQ d) (WN d)) (Zd 13 (AL.can Yr d))=ZX d.1 d.2:=by kernel_rfl
abbrev Np:Prop:=OkC Tryz.prog 137 Xv
theorem NS (h:∀ (f:Int) (r:Int),(1<=f/\f<=24/\0<=r/\r<2 ^ f.toNat)->ZX f r):OkC Tryz.prog 137 Xv :=
 Zv FV mixed (C:=Yu) (V:=λ(d:Int×Int)=>ZX d.1 d.2) ⟨(.cons UY .nil),XsOk.nil,ItsOk.nil,YlOk.nil,IysOk.nil,XfOk.nil⟩ (Nl) λd hp=>h d.1 d.2 hp
theorem Nx:Np:=NS λf r h=>by
 obtain⟨h1,h2,h3,h4⟩:=h;unfold ZX;(try delta lI gD sT I64 W5 pj8 pj4);obtain⟨k,rfl⟩:=xy (show 0<=f by omega);obtain⟨n,rfl⟩:=xy h3;simp only[zB,Hc] at h4;have hp:=EZ (k:=k) (by omega);have h4:n<2 ^ k:=by omega
 have hs:YJ .u64 ((Bd 64 n:Nat):Int) (64-(k:Int))=((Bd k n:Nat):Int):=by rw[show (64-(k:Int))=((64-k:Nat):Int) by omega,Z2l (by omega),Ep (by omega) h4]
 have hl:=CW k n;simp only[zB,hs];refine⟨by simp only[B4];omega,⟨by omega,by omega⟩,by simp only[B4];omega,by simp only[B4];omega,by omega,by simp only[Qq];omega,?_⟩;exact⟨by unfold FC;simp only[zB],trivial⟩
def XE:AL ((Int×Int×Bool)×Int):=(.cons (.agg (.cons (.k (.i .i64)) (.cons (.k (.i .i64)) (.one (.k .bo))))) (.one (.ptr (.one (.k (.i .i64))))))
def KH (d:(Int×Int×Bool)×Int):Prop:=1<=d.2/\d.2<=24
def Xq (d:(Int×Int×Bool)×Int):SV:=.val .bo (!Zg d.2 (d.1.1,(d.1.2.1,d.1.2.2)))
def Xr (d:(Int×Int×Bool)×Int):List OB:=[]
def Jv:CSp:=VU XE KH Xq Xr
def Zk (cn:Int) (cr:Int) (ct:Bool) (f:Int):Prop :=
 ([cn].length<=1000000)/\((!(!([cn].any λn=>decide (n<(-1:Int))||decide ((59:Int)<n))))=false->True)/\((!(!([cn].any λn=>decide (n<(-1:Int))||decide ((59:Int)<n))))=false->1<=f/\f<=24/\[cr].length<=1000000)/\(((!(!([cn].any λn=>decide (n<(-1:Int))||decide ((59:Int)<n))))||(!(!([cr].any λn=>!inI n 0 (2 ^ f.toNat-1)))))=(!Zg f (cn,(cr,ct)))/\(True))
def XG:Cx:=⟨[(3,(.i .i64))],[(88,J5),(102,Zl)],17,[],0,[],[],[],[],false,[],[],[],[]⟩
def V6 (cn:Int) (cr:Int) (ct:Bool) (f:Int):List (Nat×LoopAnn):=[]
theorem Vd (d:(Int×Int×Bool)×Int):gwp (XG) (V6 d.1.1 d.1.2.1 d.1.2.2 d.2) Z17 0 (UO [.tmp 3] (Xq d) (Xr d)) (Zd 17 (AL.can XE d))=Zk d.1.1 d.1.2.1 d.1.2.2 d.2:=by kernel_rfl
abbrev V5:Prop:=OkC Tryz.prog 123 Jv
theorem Ve (h:∀ (cn:Int) (cr:Int) (ct:Bool) (f:Int),(1<=f/\f<=24)->Zk cn cr ct f):OkC Tryz.prog 123 Jv :=
 Zv Oa mixed (C:=XG) (V:=λ(d:(Int×Int×Bool)×Int)=>Zk d.1.1 d.1.2.1 d.1.2.2 d.2) ⟨(.cons Xe (.cons JP .nil)),XsOk.nil,ItsOk.nil,YlOk.nil,IysOk.nil,XfOk.nil⟩ (Vd) λd hp=>h d.1.1 d.1.2.1 d.1.2.2 d.2 hp
theorem V9:V5:=Ve λcn cr ct f h=>by obtain⟨h1,h2⟩:=h;unfold Zk;(try delta lI gD sT I64 W5 pj8 pj4);have e:∀ n a b:Int,(decide (n<a)||decide (b<n))=!inI n a b:=λn a b=>(nI n a b).symm;simp only[List.any_cons,List.any_nil,xZ,e,Bool.not_not,zS,List.length_nil];refine⟨by omega,λ_=>trivial,λ_=>⟨h1,h2,by omega⟩,?_⟩;unfold Zg;rw[Bool.not_and];exact(by and_intros<;>first|rfl|trivial|simp)
def QZ:AL ((List (Int×Int×Bool))×((Int×Int×Bool->Prop)×(Int×Int×Bool->Bool))):=(.cons (.k (.list (.pair (.i .i64) (.pair (.i .i64) .bo)))) (.one (.fn [(.pair (.i .i64) (.pair (.i .i64) .bo))] .bo)))
def ZZ (d:(List (Int×Int×Bool))×((Int×Int×Bool->Prop)×(Int×Int×Bool->Bool))):Prop:=d.1.length<=1000000/\∀ x∈d.1,d.2.1 x
def QS (d:(List (Int×Int×Bool))×((Int×Int×Bool->Prop)×(Int×Int×Bool->Bool))):SV:=.val (.i .i64) (Ie d.1 d.2.2)
def QV (d:(List (Int×Int×Bool))×((Int×Int×Bool->Prop)×(Int×Int×Bool->Bool))):List OB:=[]
def Qw:CSp:=VU QZ ZZ QS QV
def Qj (l:List (Int×Int×Bool)) (p:(Int×Int×Bool->Prop)×(Int×Int×Bool->Bool)):Prop :=
 ∃ (e2:Unit) (d20:Int),((l=l/\(SV.pf [(.pair (.i .i64) (.pair (.i .i64) .bo))] .bo p.1 p.2=SV.pf [(.pair (.i .i64) (.pair (.i .i64) .bo))] .bo p.1 p.2)/\(lI l)=(lI l)/\(0:Int)=d20/\True)/\(True)) /\
 LoopP (λ(d2:Int) (q2:(Int)->Prop) =>
  ((decide (d2<(lI l)))=true ->
   (0<=d2)/\(d2<(List.length l))/\(p.1 ((gD l d2 (0,(0,false))).1,((gD l d2 (0,(0,false))).2.1,(gD l d2 (0,(0,false))).2.2)))/\((p.2 ((gD l d2 (0,(0,false))).1,((gD l d2 (0,(0,false))).2.1,(gD l d2 (0,(0,false))).2.2)))=true ->
    (d2=(Ie l p.2)/\(True))) /\
   ((p.2 ((gD l d2 (0,(0,false))).1,((gD l d2 (0,(0,false))).2.1,(gD l d2 (0,(0,false))).2.2)))=false ->
    (I64 (d2+(1:Int)))/\(∃ d3:Int,((l=l/\(SV.pf [(.pair (.i .i64) (.pair (.i .i64) .bo))] .bo p.1 p.2=SV.pf [(.pair (.i .i64) (.pair (.i .i64) .bo))] .bo p.1 p.2)/\(lI l)=(lI l)/\(d2+(1:Int))=d3/\True)/\(True))/\q2 d3))) /\
  ((decide (d2<(lI l)))=false ->
   ((-1:Int)=(Ie l p.2)/\(True)))) d20
def QX:Cx:=⟨[],[],19,[],0,[],[],[],[],false,[],[],[],[]⟩
def J6 (l:List (Int×Int×Bool)) (p:(Int×Int×Bool->Prop)×(Int×Int×Bool->Bool)):List (Nat×LoopAnn):=[(0,⟨Unit,Int,[0,1,7,8],λe x=>[.val (.list (.pair (.i .i64) (.pair (.i .i64) .bo))) l,.pf [(.pair (.i .i64) (.pair (.i .i64) .bo))] .bo p.1 p.2,.val (.i .i64) (((List.length l):Nat):Int),.val (.i .i64) x],λe x=>[]⟩)]
theorem Jc (d:(List (Int×Int×Bool))×((Int×Int×Bool->Prop)×(Int×Int×Bool->Bool))):gwp (QX) (J6 d.1 d.2) Z1a 0 (UO [.tmp 4] (QS d) (QV d)) (Zd 19 (AL.can QZ d))=Qj d.1 d.2:=by kernel_rfl
abbrev Jb:Prop:=OkC Tryz.prog 148 Qw
theorem J7 (h:∀ (l:List (Int×Int×Bool)) (p:(Int×Int×Bool->Prop)×(Int×Int×Bool->Bool)),(l.length<=1000000/\∀ x∈l,p.1 x)->Qj l p):OkC Tryz.prog 148 Qw :=
 Zv OY mixed (C:=QX) (V:=λ(d:(List (Int×Int×Bool))×((Int×Int×Bool->Prop)×(Int×Int×Bool->Bool)))=>Qj d.1 d.2) ⟨.nil,XsOk.nil,ItsOk.nil,YlOk.nil,IysOk.nil,XfOk.nil⟩ (Jc) λd hp=>h d.1 d.2 hp
theorem J4:Jb:=J7 λl p hp=>by
 unfold Qj;(try delta lI gD sT I64 W5 pj8 pj4);simp only[true_and,and_true,exists_eq_left',exists_const,zC,x_];refine LoopP.count l.length (λk=>(l.take k).any p.2=false) (by simp) λk bp hJ q hq=>?_;simp only[zB,Int.ofNat_lt,Qq];refine⟨λah=>?_,λbG=>?_⟩
 .have ah:k<l.length:=by omega
  rw[Qg ah];refine⟨by omega,by omega,hp.2 _ (zp ah),λhx=>?_,λhx=>⟨by omega,hq ah ?_⟩⟩
  .rw[OU ah hx hJ]
  .rw[Yo ah,List.any_append,hJ];simp[hx]
 .rw[zN (by omega)] at hJ;rw[Lh hJ]
def QQ:AL ((List (Int×Int×Bool))×((Int×Int×Bool->Prop)×(Int×Int×Bool->Bool))):=(.cons (.k (.list (.pair (.i .i64) (.pair (.i .i64) .bo)))) (.one (.fn [(.pair (.i .i64) (.pair (.i .i64) .bo))] .bo)))
def ZG (d:(List (Int×Int×Bool))×((Int×Int×Bool->Prop)×(Int×Int×Bool->Bool))):Prop:=d.1.length<=1000000/\∀ x∈d.1,d.2.1 x
def QN (d:(List (Int×Int×Bool))×((Int×Int×Bool->Prop)×(Int×Int×Bool->Bool))):SV:=.val .bo (d.1.any d.2.2)
def QK (d:(List (Int×Int×Bool))×((Int×Int×Bool->Prop)×(Int×Int×Bool->Bool))):List OB:=[]
def Qr:CSp:=VU QQ ZG QN QK
def Qh (l:List (Int×Int×Bool)) (p:(Int×Int×Bool->Prop)×(Int×Int×Bool->Bool)):Prop :=
 (l.length<=1000000/\∀ x∈l,(λ(x1:Int×Int×Bool)=>p.1 (x1.1,(x1.2.1,x1.2.2))) x)/\((decide ((Ie l (λ(x1:Int×Int×Bool)=>(p.2 (x1.1,(x1.2.1,x1.2.2)))))>=(0:Int)))=(l.any p.2)/\(True))
def QP:Cx:=⟨[],[(148,Qw)],9,[],0,[],[],[],[],false,[],[],[],[]⟩
def ZQ (l:List (Int×Int×Bool)) (p:(Int×Int×Bool->Prop)×(Int×Int×Bool->Bool)):List (Nat×LoopAnn):=[]
theorem ZS (d:(List (Int×Int×Bool))×((Int×Int×Bool->Prop)×(Int×Int×Bool->Bool))):gwp (QP) (ZQ d.1 d.2) Z1h 0 (UO [.tmp 4] (QN d) (QK d)) (Zd 9 (AL.can QQ d))=Qh d.1 d.2:=by kernel_rfl
abbrev ZT:Prop:=OkC Tryz.prog 124 Qr
theorem ZR (h:∀ (l:List (Int×Int×Bool)) (p:(Int×Int×Bool->Prop)×(Int×Int×Bool->Bool)),(l.length<=1000000/\∀ x∈l,p.1 x)->Qh l p):OkC Tryz.prog 124 Qr :=
 Zv Ov mixed (C:=QP) (V:=λ(d:(List (Int×Int×Bool))×((Int×Int×Bool->Prop)×(Int×Int×Bool->Bool)))=>Qh d.1 d.2) ⟨(.cons J4 .nil),XsOk.nil,ItsOk.nil,YlOk.nil,IysOk.nil,XfOk.nil⟩ (ZS) λd hp=>h d.1 d.2 hp
theorem ZP:ZT:=ZR λl p hp=>by simp only[Qh];exact⟨hp,Q0g l p.2,trivial⟩
def Wp:AL (Int×List (Int×Int×Bool)):=(.cons (.k (.i .i64)) (.one (.k (.list (.pair (.i .i64) (.pair (.i .i64) .bo))))))
def Vr (d:Int×List (Int×Int×Bool)):Prop:=1<=d.1/\d.1<=24/\d.2.length<=1000000
def XZ (d:Int×List (Int×Int×Bool)):SV:=.val .bo (!d.2.isEmpty&&!(d.2.any λc=>!Zg d.1 c))
def W3 (d:Int×List (Int×Int×Bool)):List OB:=[]
def QF:CSp:=VU Wp Vr XZ W3
def Zx (f:Int) (cs:List (Int×Int×Bool)):Prop :=
 ((decide ((lI cs) > (0:Int)))=true->cs.length<=1000000/\∀ x∈cs,(λ(x1:Int×Int×Bool)=>1<=f/\f<=24) x)/\(((decide ((lI cs) > (0:Int)))&&(!(cs.any (λ(x1:Int×Int×Bool)=>(!Zg f (x1.1,(x1.2.1,x1.2.2)))))))=(!cs.isEmpty&&!(cs.any λc=>!Zg f c))/\(True))
def Wd:Cx:=⟨[],[(124,Qr),(123,Jv)],16,[],0,[],[],[],[],false,[],[],[],[]⟩
def U0 (f:Int) (cs:List (Int×Int×Bool)):List (Nat×LoopAnn):=[]
theorem U1 (d:Int×List (Int×Int×Bool)):gwp (Wd) (U0 d.1 d.2) c86 0 (UO [.tmp 4] (XZ d) (W3 d)) (Zd 16 (AL.can Wp d))=Zx d.1 d.2:=by kernel_rfl
abbrev U8:Prop:=OkC Tryz.prog 86 QF
theorem Ua (h:∀ (f:Int) (cs:List (Int×Int×Bool)),(1<=f/\f<=24/\cs.length<=1000000)->Zx f cs):OkC Tryz.prog 86 QF :=
 Zv Q5l mixed (C:=Wd) (V:=λ(d:Int×List (Int×Int×Bool))=>Zx d.1 d.2) ⟨(.cons ZP (.cons V9 .nil)),XsOk.nil,ItsOk.nil,YlOk.nil,IysOk.nil,XfOk.nil⟩ (U1) λd hp=>h d.1 d.2 hp
theorem Zc:U8:=Ua λf cs h=>by
 obtain⟨h1,h2,h3⟩:=h;unfold Zx;(try delta lI gD sT I64 W5 pj8 pj4);refine⟨λ_=>⟨h3,λ_ _=>⟨h1,h2⟩⟩,?_⟩;have:decide ((cs.length:Int) > 0)=!cs.isEmpty:=by cases cs<;>simp
 rw[this];exact(by and_intros<;>first|rfl|trivial|simp)
def D5:Cx:=⟨[],[(87,QA),(86,QF)],30,[],0,[],[],[],[],false,[],[],[],[]⟩
def Ym:XSp:=An D5 (λ_=>[]) Z1c [.cell 2 true 3,.tmp 3] 30
theorem Yc:XOk Tryz.prog 103 Ym:=Y2 IN mixed (C:=D5) ⟨(.cons QW (.cons Zc .nil)),XsOk.nil,ItsOk.nil,YlOk.nil,IysOk.nil,XfOk.nil⟩ _
end Go.Proofs.Tryz