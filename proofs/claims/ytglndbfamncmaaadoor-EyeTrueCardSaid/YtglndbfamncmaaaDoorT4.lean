/- A framework for walks, contracts of functions, and their proofs: part 4. -/
import Derived.Test.YtglndbfamncmaaaDoorT3
set_option linter.unusedVariables false
set_option maxRecDepth 100000
namespace Go.V
open Go
section
variable {P:Program}{B F:Heap}{pl:Nat->Value}{tb:Nat->Option Bool}{own:Own}{U:Heap}
mutual
theorem Fv {bx:List SV->Nat->SV}(hle:B.Le U) (av:∀ d,OR P B pl tb U (pl d) (Qg own d))
  (lj:∀ l off b c e t,U.get b=some (.cells c e true t)->SRs P B pl tb l c->SR P U Xl Jp (bx l off) (.pointer (some ⟨b,off,none⟩))) :
  ∀ (s:SV) (v:Value),SR P B pl tb s v->SR P U Xl Jp (PD own bx s) v
 |.any,v,h=>by simp[PD,SR]
 |.val k x,v,h=>by simp only[PD,SR] at h |-;exact h.mono hle
 |.bid n c,v,h=>by simp only[PD,SR] at h |-;obtain⟨rfl,_⟩:=h;rfl
 |.grd gs s,v,h=>by simp[PD,SR]
 |.nilS,v,h=>by simp only[PD,SR] at h |-;exact h
 |.nilP,v,h=>by simp only[PD,SR] at h |-;exact h
 |.nilM,v,h=>by simp only[PD,SR] at h |-;exact h
 |.nilF,v,h=>by simp only[PD,SR] at h |-;exact h
 |.lst o,v,h=>by
  simp only[PD];split
  .rename_i ty k xs nl ho;have:view own k (.lst o)=some xs:=by simp[view,ho,Mc]
   simp only[SR,KC];exact⟨v,rfl,(Wo hle av this h).mono (Heap.Le.refl _) λ_ _ e=>e.mono hle⟩
  .simp[SR]
 |.sub o lo n sz,v,h=>by
  simp only[PD];split
  .rename_i ty k xs nl ho;split
   .rename_i aC;have:view own k (.sub o lo n sz)=some ((xs.drop lo).take n):=by simp[view,ho,Mc,aC]
    simp only[SR,KC];exact⟨v,rfl,(Wo hle av this h).mono (Heap.Le.refl _) λ_ _ e=>e.mono hle⟩
   .simp[SR]
  .simp[SR]
 |.elp o i off sz,v,h=>by simp[PD,SR]
 |.dd o w,v,h=>by
  simp only[PD];simp only[SR] at h;split
  .rename_i ty q k xs nl hole ho;have ak:=av o;rw[ho] at ak;have cN:=DP.le ak;split
   .split
    .obtain⟨h1,_⟩:=h;simp only[SR,KC];refine⟨v,rfl,?_⟩;rw[h1];exact(DP.sl ak).mono cN λ_ _ e=>e.mono cN
    .simp[SR]
   .simp only[SR];exact KC.mono cN h
   .simp only[SR];exact KC.mono cN h.1
   .simp[SR]
  .simp[SR]
 |.map o,v,h=>by simp[PD,SR]
 |.tup l,v,h=>by simp[PD,SR]
 |.box o off,v,h=>by
  simp only[PD];split
  .rename_i l _ ho;have ak:=av o;rw[ho] at ak;obtain⟨i,c,e,t,h1,h2,h3,_⟩:=ak;simp only[SR] at h
   grind
  .simp[SR]
 |.rop k l i off,v,h=>by simp only[PD];exact SR.mono (tb:=tb) hle (λn c hn=>hn) (.rop k l i off) v h |> λh=>by simp only[SR] at h |-;exact h
 |.cp l off,v,h=>by simp only[PD,SR] at h |-;obtain⟨b,c,e,wr,t,h1,h2,h3⟩:=h;exact⟨b,c,e,wr,t,hle.2 _ _ h1,h2,JF hle av lj l c h3⟩
 |.agg l,v,h=>by simp only[PD,SR] at h |-;obtain⟨cs,h1,h2⟩:=h;exact⟨cs,h1,JF hle av lj l cs h2⟩
 |.fn f a b,v,h=>by simp only[PD,SR] at h |-;obtain⟨x,y,h1,h2,h3⟩:=h;exact⟨x,y,h1,JF hle av lj a x h2,JF hle av lj b y h3⟩
 |.pf ks r cw p,v,h=>by simp only[PD,SR] at h |-;exact h.mono hle
theorem JF {bx:List SV->Nat->SV}(hle:B.Le U) (av:∀ d,OR P B pl tb U (pl d) (Qg own d))
  (lj:∀ l off b c e t,U.get b=some (.cells c e true t)->SRs P B pl tb l c->SR P U Xl Jp (bx l off) (.pointer (some ⟨b,off,none⟩))) :
  ∀ (s:List SV) (v:List Value),SRs P B pl tb s v->SRs P U Xl Jp (HA own bx s) v
 |[],v,h=>by simp only[HA,SRs] at h |-;exact h
 |s::ss,v,h=>by simp only[HA,SRs] at h |-;obtain⟨x,y,h1,h2,h3⟩:=h;exact⟨x,y,h1,Fv hle av lj s x h2,JF hle av lj ss y h3⟩
end
theorem N0 (hle:B.Le U) (av:∀ d,OR P B pl tb U (pl d) (Qg own d)) {l:List SV}{v:List Value}(h:SRs P B pl tb l v):SRs P U Xl Jp (TN own l) v:=by
 have h0:∀ {l v},SRs P B pl tb l v->SRs P U Xl Jp (Q8n own l) v:=λh=>JF hle av (λ_ _ _ _ _ _ _ _=>by simp[SR]) _ _ h;have h1:∀ {l v},SRs P B pl tb l v->SRs P U Xl Jp (Q88 own l) v:=λh=>JF hle av (λl off b c e t hg hs=>by
  simp only[SR];grind) _ _ h
 exact JF hle av (λl off b c e t hg hs=>by
  simp only[SR];grind) _ _ h
mutual
theorem Is {p q:Nat->Value}{n:Nat}(h:∀ j,j<n->p j=q j):∀ (s:SV),s.ret n=true->Km p s=Km q s
 |.val _ _,_|.nilS,_|.nilP,_|.nilM,_|.nilF,_=>by simp[Km]
 |.lst j,hr=>by simp only[Km];exact h j (by simpa [SV.ret,zC] using hr)
 |.agg l,hr=>by simp only[Km];rw[S0 h l hr]
 |.tup l,hr=>by simp only[Km];rw[S0 h l hr]
 |.box _ _,_|.map _,_=>by simp[Km]
 |.dd _ _,_=>by simp[Km]
 |.any,h|.bid _ _,h|.grd _ _,h|.sub _ _ _ _,h|.elp _ _ _ _,h|.rop _ _ _ _,h|.cp _ _,h|.fn _ _ _,h|.pf _ _ _ _,h=>by cases h
theorem S0 {p q:Nat->Value}{n:Nat}(h:∀ j,j<n->p j=q j):∀ (s:List SV),SVs.ret n s=true->Y8 p s=Y8 q s
 |[],_=>rfl
 |s::ss,hr=>by simp only[SVs.ret,z1] at hr;simp only[Y8];rw[Is h s hr.1,S0 h ss hr.2]
end
theorem ZM {cs:List (Nat×CSp)}(az:CsOk P cs) {f:SV}{args:List SV}{c:Prop}{v:SV}{bs:List OB}{fV:Value}{vs:List Value}(hf:SR P U Xl Jp f fV) (ha:SRs P U Xl Jp args vs)
  (h:Kq cs f args=some (c,v,bs)) (hv:v.ret bs.length=true) (hb:bs.all OB.ret=true) (hc:c):∃ g a b,fV=.func (.func g) a b/\(VCalled P g (a.toList++vs++b.toList) U λu U'=>Ret P U v bs u U') /\
  (bs.all OB.isL=true->Kx v=true->VCalled P g (a.toList++vs++b.toList) U λu U'=>u=Km (TF U bs) v/\U'=Hp U bs):=by
 have gen:(gap cs 3 f args).map (λx=>(x.1,x.2,([]:List OB)))=some (c,v,bs)->∃ g a b,fV=.func (.func g) a b/\(VCalled P g (a.toList++vs++b.toList) U λu U'=>Ret P U v bs u U') /\
   (bs.all OB.isL=true->Kx v=true->VCalled P g (a.toList++vs++b.toList) U λu U'=>u=Km (TF U bs) v/\U'=Hp U bs):=λh=>by
  simp only[zt] at h;obtain⟨⟨c',v'⟩,h1,h2⟩:=h;simp only[Prod.mk.injEq] at h2;obtain⟨rfl,rfl,rfl⟩:=h2;obtain⟨h3,g,a,b,rfl,h4⟩:=I5 az 3 U f args c' v' fV vs hf ha h1 hc;refine⟨g,a,b,rfl,h4.mono λu U' hu=>?_,λ_ cK=>h4.mono λu U' hu=>?_⟩
  .obtain⟨rfl,hu⟩:=hu;exact⟨⟨Heap.Le.refl _,Dead.refl _⟩,λ_=>rfl,Xl,(λj b hj=>by simp at hj),(λj j' i hj=>by simp at hj),hu⟩
  .obtain⟨rfl,hu⟩:=hu;have hz:Hp U' []=U':=(SG (P:=P) U' (v:=v') (bs:=[]) h3 cK rfl rfl (λb hb=>by cases hb)).2.1 rfl;refine⟨?_,hz.symm⟩;rw[V3 v' u h3 cK hu]
   grind [Is]
 cases f with
 |fn g a b =>
  simp only[Kq] at h;split at h
  .rename_i sp eJ;simp only[SR] at hf;obtain⟨x,y,rfl,h1,h2⟩:=hf;refine⟨g,x.toArray,y.toArray,rfl,?_⟩;simpa using az g sp eJ (gap cs 3) (I5 az 3) U (a++args++b) (x++vs++y) c v bs ((h1.append ha).append h2) h hv hb hc
  .cases h
 |_=>exact gen h
theorem Gam.q1q {s:St}{env:Env}{U':Heap}(h:Gam P B F pl tb s env U) (hl:U.Le U') {d:Nat}(aw:(Qg s.own d).live=true) {i:Nat}(hi:Oid (pl d) i):U'.get i=U.get i:=by
  have af:=(h.obj d).q1l aw hi;cases hb:U.get i with
  |none =>
   have ak:=h.obj d;cases ho:Qg s.own d with
   |dead=>rw[ho] at aw;cases aw
   |lst ty k xs nl =>
    rw[ho] at ak;rcases ak with⟨_,_,h2⟩|⟨_,i',cap,c,t,h2,_,h3,_⟩
    .rw[h2] at hi;cases hi
    .rw[h2] at hi;obtain rfl:=osj hi;rw[h3] at hb;cases hb
   |cells l u=>rw[ho] at ak;obtain⟨i',c,e,t,h2,h3,_⟩:=ak;rw[h2] at hi;obtain rfl:=osj hi;rw[h3] at hb;cases hb
   |mapE kk vk m key n=>rw[ho] at ak;obtain⟨i',es,cl,r,e,h2,h3,_⟩:=ak;rw[h2] at hi;obtain rfl:=osj hi;rw[h3] at hb;cases hb
   |map kk vk m=>rw[ho] at ak;obtain⟨i',es,cl,h2,h3,_⟩:=ak;rw[h2] at hi;obtain rfl:=osj hi;rw[h3] at hb;cases hb
   |stk l vals=>rw[ho] at aw;cases aw
   |lpf l q s=>rw[ho] at ak aw;obtain⟨h2,_,h3⟩:=ak;rw[h2] at hi;obtain rfl:=osj hi;have h3:=h3 aw;rw[hb] at h3;cases h3
   |iter kk vk m dn=>rw[ho] at ak;obtain⟨j',i',es,cl,wr,seen,h2,h3,_⟩:=ak;rw[h2] at hi;obtain rfl:=osj hi;rw[h3] at hb;cases hb
   |deep ty q k xs nl hh =>rw[ho] at ak;obtain⟨is,_,d2,d3,_⟩:=DP.open ak;obtain⟨c,e,t,h⟩:=d2.cells i ((d3 i).1 hi);rw[h] at hb;cases hb
  |some b=>rw[hl.2 i b hb]
theorem Gam.heap {s:St}{env:Env}{U':Heap}(h:Gam P B F pl tb s env U) (hl:U.Le U'):Gam P B F pl tb s env U' :=
 ⟨h.bf,h.le.trans hl,h.env,λd=>(h.obj d).mono (Heap.Le.refl _) (λ_ _ h=>h) λaw _i hi=>h.q1q hl aw hi,h.fresh,h.sep,h.free⟩
theorem P8 {env:Env}{σ0:Heap}{d nt:Nat}(dK:0<nt) (cO:Nat->Value) (bs:List OB) (hB:F.Le σ0)
  (ak:∀ j b,bs[j]?=some b->b.ret=true/\OR P hNil cO Jp U (cO j) b/\∀ i,Oid (cO j) i->σ0.n<=i)
  (ek:∀ j j' i,j<bs.length->j'<bs.length->j≠j'->Oid (cO j) i->Oid (cO j') i->False) :
  ∀ (r:List OB) (j:Nat) (pl:Nat->Value) (s:St),bs.drop j=r->Gam P B F pl tb s env U->(∀ k i,(Qg s.own k).live=true->Oid (pl k) i->i<σ0.n\/∃ j'<j,j'<bs.length/\Oid (cO j') i/\k=d+j'*nt)->(∀ j'<j,j'<bs.length->pl (d+j'*nt)=cO j') ->
   ∃ pl',Gam P B F pl' tb (s.makes d nt j r) env U/\(∀ j'<bs.length,pl' (d+j'*nt)=cO j')/\∀ q,(∀ j'<bs.length,q≠d+j'*nt)->pl' q=pl q/\(Qg (s.makes d nt j r).own q).live=(Qg s.own q).live
 |[],j,pl,s,hr,hG,_,hp=>⟨pl,hG,λj' cy=>hp j' (by
   have:=congrArg List.length hr;simp at this;omega) cy,λq _=>⟨rfl,rfl⟩⟩
 |b::r,j,pl,s,hr,hG,hinv,hp=>by
  have bR:j<bs.length:=by
   grind [Nat.lt_or_ge,List.drop_eq_nil_of_le]
  have bD:bs[j]?=some b:=by
   have:(bs.drop j)[0]?=some b:=by rw[hr];rfl
   simpa using this
  have jb:bs.drop (j+1)=r:=by
   have:(bs.drop j).drop 1=r:=by rw[hr];rfl
   simpa [List.drop_drop,xL] using this
  obtain⟨h1,h2,h3⟩:=ak j b bD;have bU:∀ j' ,j'≠j->d+j'*nt≠d+j*nt:=(by grind [Nat.eq_of_mul_eq_mul_right]);obtain⟨pl',k1,k2,k3⟩:∃ pl',Gam P B F pl' tb ((s.make (d+j*nt) b).makes d nt (j+1) r) env U/\(∀ j'<bs.length,pl' (d+j'*nt)=cO j')/\∀ q,(∀ j'<bs.length,q≠d+j'*nt)->pl' q=Jk pl (d+j*nt) (cO j) q/\(Qg ((s.make (d+j*nt) b).makes d nt (j+1) r).own q).live=(Qg (s.make (d+j*nt) b).own q).live:=by
   refine P8 dK cO bs hB ak ek r (j+1) (Jk pl (d+j*nt) (cO j)) _ jb (hG.make (d+j*nt) b (cO j) hG.le (λ_ _ _ _ _=>rfl) (h2.retd h1 λ_ _=>rfl) λi _ hi=>⟨F.wf _ (by have:=h3 i hi;have:=hB.1;omega),λk hk hl e=>?_⟩) (λk i hl hi=>?_) λj' cy ll=>?_
   .grind
   .by_cases hk:k=d+j*nt
    .subst hk;simp only[Jk,zB] at hi
     grind
    .have cn:(Qg s.own k).live=true:=by
      simp only[St.make,St.kill,Qt,Yj,z6 hk] at hl
      rwa [OB.q0p] at hl
     simp only[Jk,z6 hk] at hi
     grind
   .by_cases e:j'=j
    .subst e;simp[Jk]
    .simp only[Jk,z6 (bU j' e)];exact hp j' (by omega) ll
  refine⟨pl',k1,k2,λq hq=>?_⟩;obtain⟨e1,e2⟩:=k3 q hq;refine⟨by rw[e1];simp[Jk,hq j bR],?_⟩;show (Qg ((s.make (d+j*nt) b).makes d nt (j+1) r).own q).live=_;rw[e2];simp only[St.make,St.kill,Qt,Yj,z6 (hq j bR),OB.q0p]
theorem Ret.gamF {s:St}{env:Env}{d nt:Nat}(dK:0<nt) (hG:Gam P B F pl tb s env U) {v:SV}{bs:List OB}{u:Value}{U':Heap}(hv:v.ret bs.length=true) (hb:bs.all OB.ret=true) (h:Ret P U v bs u U') :
  ∃ pl',Gam P B F pl' tb (s.makes d nt 0 bs) env U'/\SR P B pl' tb (v.ren d nt) u/\∀ q,(∀ j'<bs.length,q≠d+j'*nt)->(Qg (s.makes d nt 0 bs).own q).live=(Qg s.own q).live/\pl' q=pl q/\((Qg s.own q).live=true->∀ i,Oid (pl q) i->U'.get i=U.get i):=by
 obtain⟨⟨h1,_⟩,_,cO,h2,h3,h4⟩:=h
 obtain⟨pl',h5,h6,h7⟩:=P8 (tb:=tb) (d:=d) dK cO bs hG.le (by grind) h3 bs 0 pl s rfl (hG.heap h1)
  (λk i hl hi=>.inl ((hG.obj k).q1l hl hi)) (λj' cy=>by omega)
 exact⟨pl',h5,SR.ren (tb:=Jp) (λj hj=>h6 j hj) _ _ hv (SR.mono (tb:=Jp) (tb':=Jp) (Ef B) (λ_ _ h=>h) _ _ h4),λq hq=>⟨(h7 q hq).2,(h7 q hq).1,λhl i hi=>hG.q1q h1 hl hi⟩⟩
theorem Ret.gam {s:St}{env:Env}{d nt:Nat}(dK:0<nt) (hG:Gam P B F pl tb s env U) {v:SV}{bs:List OB}{u:Value}{U':Heap}(hv:v.ret bs.length=true) (hb:bs.all OB.ret=true) (h:Ret P U v bs u U') :
  ∃ pl',Gam P B F pl' tb (s.makes d nt 0 bs) env U'/\SR P B pl' tb (v.ren d nt) u:=by
 obtain⟨pl',h1,h2,_⟩:=h.gamF dK hG hv hb;exact⟨pl',h1,h2⟩
end
end Go.V
namespace Go.V
open Go
section
variable {P:Program}
structure GBase (B0 F0 D0 B F U:Heap):Prop where
 b:B0.Le B
 f:F0.Le F
 x:∀ i b,F0.get i=some b->B0.get i=none->B.get i=none
 d:Dead D0 U
theorem GBase.of {B F U:Heap}{U':Heap}(_hB:B.Le F) (h:Dead U U'):GBase B F U B F U':=⟨.refl _,.refl _,λ_ _ _ h=>h,h⟩
theorem GBase.trans {B0 F0 D0 B F U B' F' U':Heap}(h:GBase B0 F0 D0 B F U) (h':GBase B F U B' F' U'):GBase B0 F0 D0 B' F' U' :=
 ⟨h.b.trans h'.b,h.f.trans h'.f,λi b h1 h2=>h'.x i b (h.f.2 _ _ h1) (h.x i b h1 h2),h.d.trans h'.d⟩
def GRel (P:Program) (B0 F0 D0:Heap) (s:St) (env:Env) (U:Heap):Prop:=∃ B F pl tb,GBase B0 F0 D0 B F U/\Gam P B F pl tb s env U
theorem NQ {B0 F0 D0 B F:Heap}{U U':Heap}(hB:GBase B0 F0 D0 B F U) (h:Dead U U'):GBase B0 F0 D0 B F U':=⟨hB.b,hB.f,hB.x,hB.d.trans h⟩
theorem Gam.evs {B F:Heap}{pl:Nat->Value}{tb:Nat->Option Bool}{s:St}{env:Env}{U:Heap}(h:Gam P B F pl tb s env U) {gs:List Gd}(hg:Gds tb gs) (x:Operand):SR P B pl tb (gev gs s.env x) (Q5 env x):=Ii hg h.env x
theorem Gds.nil {tb:Nat->Option Bool}:Gds tb []:=λ_ h=>by cases h
theorem EX {gs:List Gd}{c:Prop}(h:Q3b gs c) (hg:∀ g∈gs,g.c=g.want):c:=by
 induction gs with
 |nil=>exact h
 |cons g gs ih=>exact ih (h (hg g (by simp))) λg' dg=>hg g' (by simp[dg])
theorem Zk {gs:List Gd}{cs:List Prop}{q:Prop}(h:Sc gs cs q):q/\((∀ g∈gs,g.c=g.want)->∀ c∈cs,c):=by
 induction cs with
 |nil=>exact⟨h,λ_ c hc=>by cases hc⟩
 |cons c cs ih =>obtain⟨h1,h2⟩:=h;obtain⟨h3,h4⟩:=ih h2;exact⟨h3,(by grind [EX])⟩
theorem Dead.push (U:Heap) (b:Blk):Dead U (U.push b):=⟨by simp,(by grind [Heap.q0j])⟩
theorem Dead.upd (U:Heap) (j:Nat) (b:Blk) (hj:(U.get j).isSome=true):Dead U (U.upd j b):=⟨by simp,(by grind [Heap.q0b])⟩
theorem Dead.kill (U:Heap) (j:Nat):Dead U (U.kill j):=⟨by simp,(by grind [Heap.q0h,Heap.q0d])⟩
theorem LX {e:El}{bytes m:Nat}{U U':Heap}{s u:Value}{xs:List Value}(h:Y0 e bytes U s m xs=some (u,U')):Dead U U':=by
 unfold Y0 at h;split at h
 .grind [QZ,Dead.refl,Dead.push]
 .split at h
  .rename_i hg;split at h
   .split at h
    .grind [QZ,Dead.refl]
    .split at h
     .grind [QZ,Dead.upd]
     .split at h
      .split at h
       .grind [QZ,Dead.push]
       .split at h
        .obtain⟨rfl,rfl⟩:=QZ h;exact(Dead.kill _ _).trans (Dead.push _ _)
        .cases h
      .cases h
   .cases h
  .cases h
 .grind [QZ,Dead.push]
 .cases h
theorem YQ {o:VOp}{ev:Operand->Value}{U U':Heap}{u:Value}(h:Q6 o ev U=some (u,U')):Dead U U':=by
 by_cases hk:o.kind=2
 .cases o<;>first|(cases hk;done)|skip
  case alloc t z=>obtain⟨rfl,rfl⟩:=QZ h;exact Dead.push _ _
  case box t x =>
   simp only[Q6] at h
   grind [QZ,Dead.push]
  case buildSlice e z n ps =>
   simp only[Q6] at h
   grind [QZ,Dead.push]
  case makeSlice e b z l c =>
   simp only[Q6] at h
   grind [QZ,Dead.push]
  case store size a x =>
   simp only[Q6] at h
   grind [QZ,Dead.upd]
  case append e b x y =>
   simp only[Q6] at h
   grind [LX]
  case slice size x lo hi mx =>
   simp only[Q6] at h;split at h
   .have sl:∀ {l hh:Nat}{m:Option Nat}{v:Value},W5 size U v l hh m=some (u,U')->Dead U U':=λ{l hh m v} h=>by
     unfold W5 at h
     grind [QZ,Dead.refl,Dead.push]
    grind
   .cases h
  case callF f a=>cases h
  case callV f a=>cases h
  case ext x =>
   cases x<;>first|(cases hk;done)|skip
   case makeMap=>obtain⟨rfl,rfl⟩:=QZ h;exact Dead.push _ _
   case mapUpdate mk m k v =>
    simp only[Q6,Zd] at h;split at h
    .split at h
     .rename_i hm;split at h
      .obtain⟨rfl,rfl⟩:=QZ h;refine Dead.upd _ _ _ ?_;unfold Heap.mapAt at hm
       grind
      .cases h
     .cases h
    .cases h
   case mapEntry mk z m k =>
    simp only[Q6,Zd] at h;split at h
    .split at h
     .rename_i hm;split at h
      .split at h
       all_goals
        obtain⟨rfl,rfl⟩:=QZ h;refine Dead.upd _ _ _ ?_;unfold Heap.mapAt at hm;split at hm
        .rename_i hg;rw[hg];rfl
        .cases hm
      .cases h
     .cases h
    .cases h
   case entryStore m s v =>
    simp only[Q6,Zd] at h;split at h
    .split at h
     .rename_i hm;split at h
      .split at h
       .obtain⟨rfl,rfl⟩:=QZ h;refine Dead.upd _ _ _ ?_;unfold Heap.mapAt at hm
        grind
       .cases h
      .cases h
     .cases h
    .cases h
   case delete mk m k =>
    simp only[Q6,Zd] at h;split at h
    .split at h
     .rename_i hm;split at h
      .obtain⟨rfl,rfl⟩:=QZ h;refine Dead.upd _ _ _ ?_;unfold Heap.mapAt at hm
       grind
      .cases h
     .cases h
    .cases h
   case rangeMap x =>
    simp only[Q6,Zd] at h
    grind [QZ,Dead.push]
   case nextMap x=>cases h
   case copy size a b =>
    simp only[Q6,Zd] at h
    grind [QZ,Dead.refl,Dead.upd]
   case clear z x =>
    simp only[Q6,Zd] at h
    grind [QZ,Dead.refl,Dead.upd]
   case strBytes e x =>
    simp only[Q6,Zd] at h
    grind [QZ,Dead.push]
   case unsafeStr e x n =>
    simp only[Q6,Zd] at h;split at h
    .grind [QZ,Dead.refl,Dead.upd]
    .cases h
 grind [Gh,Dead.refl]
theorem UK {B F:Heap}{pl:Nat->Value}{tb:Nat->Option Bool}{s:St}{env:Env}{U:Heap}(hG:Gam P B F pl tb s env U) {x:Operand}{b:Bool}(h:Lv s.env x=some b):Q5 env x=.bool b:=by
 unfold Lv at h;split at h
 .rename_i j;split at h
  .rename_i gs v he;split at h
   .split at h
    .rename_i k y;split at h
     .obtain rfl:=osj h;have:=hG.env.getD j undef;rw[he] at this;simp only[SR] at this;have h2:=this.2.1 (λg hg=>by cases hg);have h3:[env.getD j undef]=[Value.bool _]:=h2;exact(zO h3).1
     .cases h
    .cases h
   .cases h
  .cases h
 .cases h
theorem Yz {B F:Heap}{pl:Nat->Value}{tb:Nat->Option Bool}{s:St}{env:Env}{U:Heap}(hG:Gam P B F pl tb s env U) {g:Option (Nat×Bool)}{t:Bool}(h:Ib s.env g=some t):ZY env g=some t:=by
 unfold Ib at h;split at h
 .cases h
 .rename_i j want;split at h
  .rename_i b hb;obtain rfl:=osj h;have:=UK hG hb;simp only[Q5] at this;simp only[ZY,this]
  .cases h
theorem Vl {B F:Heap}{pl:Nat->Value}{tb:Nat->Option Bool}{s:St}{env:Env}{U:Heap}(hG:Gam P B F pl tb s env U) {gs:List Gd}(hg:Gds tb gs) {c a b:Operand}{v:SV}(h:Fo gs s.env c a b=some v) :
  ∃ u,Q6 (.pick c a b) (Q5 env) U=some (u,U)/\SR P B pl tb v u:=by
 unfold Fo at h;split at h
 .rename_i t ht;have e:=UK hG ht;obtain rfl:=osj h;cases t with
  |true=>exact⟨Q5 env a,by simp only[Q6,e];rfl,hG.evs hg a⟩
  |false=>exact⟨Q5 env b,by simp only[Q6,e];rfl,hG.evs hg b⟩
 have hc:=hG.evs hg c;unfold Q1e at h;split at h
 .rename_i n t heq;rw[heq] at hc;simp only[SR] at hc;obtain⟨e,cY⟩:=hc;have ht:∀ w,t=w->Gds tb (gs++[⟨n,w,t⟩]):=λw hw g dg=>by
   rcases x7.1 dg with h1|h1
   .exact hg g h1
   simp_all
  have hv:∀ u,(if t then Q5 env a else Q5 env b)=u->Q6 (.pick c a b) (Q5 env) U=some (u,U):=λu hu=>by simp only[Q6,e];rw[<-hu]
  split at h
  .rename_i b';simp only[zt] at h;obtain⟨y,h1,rfl⟩:=h;refine⟨.bool (t||y),hv _ ?_,ZV _⟩;cases t with
   |true=>rfl
   |false=>simpa using Xj h1 (hG.evs (ht false rfl) _)
  .rename_i a' aJ;simp only[zt] at h;obtain⟨x,h1,rfl⟩:=h;refine⟨.bool (t&&x),hv _ ?_,ZV _⟩;cases t with
   |true=>simpa using Xj h1 (hG.evs (ht true rfl) _)
   |false=>rfl
  .split at h
   .rename_i k x k' y h1 h2;split at h
    .rename_i hk;subst hk;obtain rfl:=osj h;refine⟨.int k (if t then x else y),hv _ ?_,JO _ _⟩;cases t with
     |true=>have:=hG.evs (ht true rfl) a;rw[h1] at this;exact ZT rfl this
     |false=>have:=hG.evs (ht false rfl) b;rw[h2] at this;exact ZT rfl this
    .cases h
   .rename_i x y h1 h2;obtain rfl:=osj h;refine⟨.bool (if t then x else y),hv _ ?_,ZV _⟩;cases t with
    |true=>have:=hG.evs (ht true rfl) a;rw[h1] at this;exact Xj rfl this
    |false=>have:=hG.evs (ht false rfl) b;rw[h2] at this;exact Xj rfl this
   .cases h
 .cases h
theorem Gam.bid {B F:Heap}{pl:Nat->Value}{tb:Nat->Option Bool}{s:St}{env:Env}{U:Heap}(hG:Gam P B F pl tb s env U) {j:Nat}{v:SV}{c:Bool}(hv:∀ tb',(∀ n c,tb n=some c->tb' n=some c)->tb' s.nx=some c->SR P B pl tb' v (env.getD j undef)) :
  ∃ tb',(∀ n c,tb n=some c->tb' n=some c)/\tb' s.nx=some c/\Gam P B F pl tb' ⟨s.env.set j v,s.own,s.nx+1⟩ env U:=by
 refine⟨λn=>if n=s.nx then some c else tb n,?_,by simp,?_⟩
 .intro n c' hn;by_cases e:n=s.nx
  .rw[e,hG.free _ (zd _)] at hn;cases hn
  .simp only[z6 e];exact hn
 .have hm:∀ n c',tb n=some c'->(λn=>if n=s.nx then some c else tb n) n=some c':=λn c' hn=>by
   by_cases e:n=s.nx
   .rw[e,hG.free _ (zd _)] at hn;cases hn
   .simp only[z6 e];exact hn
  refine⟨hG.bf,hG.le,?_,λd=>(hG.obj d).mono (Heap.Le.refl _) hm λ_ _ _=>rfl,hG.fresh,hG.sep,λn hn=>?_⟩
  .have h1:=SRs.mono (Heap.Le.refl B) hm _ _ hG.env;by_cases hj:j<env.length
   .have:=h1.set j (hv _ hm (by simp));simp_all
   .have:s.env.set j v=s.env:=List.set_eq_of_length_le (by rw[hG.env.length];omega);rw[this];exact h1
  .have:n≠s.nx:=by simp only at hn;omega
   simp only[z6 this];exact hG.free n (by simp only at hn;omega)
theorem I6 {gs:List Gd}(h:¬ ∀ g∈gs,g.c=g.want):∃ g∈gs,g.c≠g.want:=by simp_all
theorem Xt {B F:Heap}{pl:Nat->Value}{tb:Nat->Option Bool}{s:St}{env:Env}{U:Heap}(hG:Gam P B F pl tb s env U) {j:Nat}{want:Bool}{gs:List Gd}{s':St}(h:Dj s j want=some (gs,s')) :
  ∃ tb',Gam P B F pl tb' s' env U/\(∀ g∈gs,tb' g.id=some g.c)/\∃ b,ZY env (some (j,want))=some b/\(b=true->∀ g∈gs,g.c=g.want)/\(b=false->∃ g∈gs,g.c≠g.want):=by
 have hj:=hG.env.getD j undef;unfold Dj at h;split at h
 .rename_i c heq;obtain⟨rfl,rfl⟩:=QZ h;rw[heq] at hj;have hb:env.getD j undef=.bool c:=Xj (s:=.val .bo c) rfl hj;obtain⟨tb',h1,h2,h3⟩:=hG.bid (j:=j) (v:=.bid s.nx c) (c:=c) λtb' _ h=>by simp only[SR];exact⟨hb,h⟩
  refine⟨tb',h3,(by simp_all),c==want,by simp only[ZY,hb],λe g hg=>?_,λe=>⟨_,zI.2 rfl,?_⟩⟩
  .simp_all
  .simpa using e
 .rename_i n c heq;obtain⟨rfl,rfl⟩:=QZ h;rw[heq] at hj;simp only[SR] at hj;refine⟨tb,hG,(by simp_all),c==want,by simp only[ZY,hj.1],λe g hg=>?_,λe=>⟨_,zI.2 rfl,?_⟩⟩
  .simp_all
  .simpa using e
 .rename_i qp c heq;obtain⟨rfl,rfl⟩:=QZ h;rw[heq] at hj;simp only[SR] at hj;obtain⟨⟨k1,k0⟩,k2,k3⟩:=hj;obtain⟨tb',h1,h2,h3⟩:=hG.bid (j:=j) (v:=.grd qp (.bid s.nx c)) (c:=c) λtb' hm h=>by
   simp only[SR];exact⟨⟨λg hg=>hm _ _ (k1 g hg),h⟩,λhall=>⟨Xj (s:=.val .bo c) (P:=P) (B:=B) (pl:=pl) (tb:=tb) rfl (by simpa only [SR] using k2 hall),h⟩,k3⟩
  refine⟨tb',h3,λg hg=>?_,?_⟩
  .grind
  .by_cases hall:∀ g∈qp,g.c=g.want
   .have hb:env.getD j undef=.bool c:=Xj (s:=.val .bo c) (P:=P) (B:=B) (pl:=pl) (tb:=tb) rfl (by simpa only [SR] using k2 hall);refine⟨c==want,by simp only[ZY,hb],λe g hg=>?_,(by simp_all)⟩
    grind
   .have hex:=I6 hall;refine⟨false,by simp only[ZY,k3 hex];rfl,(λe=>by cases e),λ_=>?_⟩;simp_all
 .rename_i qp n c heq;obtain⟨rfl,rfl⟩:=QZ h;rw[heq] at hj;simp only[SR] at hj;obtain⟨⟨k1,k0⟩,k2,k3⟩:=hj;refine⟨tb,hG,λg hg=>?_,?_⟩
  .rcases x7.1 hg with h4|h4
   .exact k1 g h4
   .obtain rfl:=zI.1 h4;exact k0
  .by_cases hall:∀ g∈qp,g.c=g.want
   .obtain⟨hb,cY⟩:=k2 hall;refine⟨c==want,by simp only[ZY,hb],λe g hg=>?_,(by simp_all)⟩
    grind
   .have hex:=I6 hall;refine⟨false,by simp only[ZY,k3 hex];rfl,(λe=>by cases e),λ_=>?_⟩;simp_all
 .cases h
theorem Gam.gcall {B F:Heap}{pl:Nat->Value}{tb:Nat->Option Bool}{s:St}{env:Env}{U:Heap}(hG:Gam P B F pl tb s env U) {gs:List Gd}(hg:Gds tb gs) (args:List Operand):SRs P U Xl Jp (TN s.own (args.map (gev gs s.env))) (args.map (Q5 env)) :=
 N0 hG.leB hG.obj (SRs.map λx _=>hG.evs hg x)
theorem Gam.gfun {B F:Heap}{pl:Nat->Value}{tb:Nat->Option Bool}{s:St}{env:Env}{U:Heap}(hG:Gam P B F pl tb s env U) {gs:List Gd}(hg:Gds tb gs) (f:Operand):SR P U Xl Jp ((TN s.own [gev gs s.env f]).getD 0 .any) (Q5 env f):=by have:=(N0 hG.leB hG.obj (show SRs P B pl tb [gev gs s.env f] [Q5 env f] by simp only[SRs];exact⟨_,[],rfl,hG.evs hg f,rfl⟩)).getD 0 poison;simpa using this
theorem Ui {env:Env}{f:Operand}{args:List Operand}{U:Heap}{K:Value->Heap->Prop}{g:FuncId}{a b:Array Value}(e:Q5 env f=.func (.func g) a b) (h:VCalled P g (a.toList++args.map (Q5 env)++b.toList) U K) :
  vop (Q3 P) (.callV f args) env U K:=by
 simp only[vop,e];exact h
def XOk (P:Program) (f:Nat) (x:XSp):Prop :=
 ∀ (B F:Heap) (pl:Nat->Value) (tb:Nat->Option Bool) (s:St) (env:Env) (U:Heap) (d:Nat) (args:List SV) (vs:List Value) (K:SV->St->Prop) (R:Value->Heap->Prop),
  Gam P B F pl tb s env U->SRs P B pl tb args vs->x d args s K ->
  (∀ v s' B' F' pl' tb' u U',K v s'->GBase B F U B' F' U'->Gam P B' F' pl' tb' s' env U'->SR P B' pl' tb' v u->R u U')->VCalled P f vs U R
def Q8i (P:Program) (f:Nat) (x:XSp) (j:Nat):Prop :=
 ∀ (B F:Heap) (pl:Nat->Value) (tb:Nat->Option Bool) (s:St) (env:Env) (U:Heap) (d:Nat) (args:List SV) (vs:List Value) (K:SV->St->Prop) (R:Value->Heap->Prop) (t:Nat),
  Gam P B F pl tb s env U->SRs P B pl tb args vs->Q1f s.own j args=some t->x d args s K ->
  (∀ v s' u U',K v s'->Dead U U'->Gam P B F pl tb s' env U'->SR P B pl tb v u->FrL [t] s s' pl pl U U'->R u U')->VCalled P f vs U R
def Q8a (P:Program) (f:Nat) (it:ISp):Prop:=Jj P f /\
 ∀ (B:Heap) (args:List SV) (vs:List Value) (c:Prop) (m ar:Nat) (xs:Nat->List SV),SRs P B Xl Jp args vs->it args=some (c,m,ar,xs)->c ->
  (∀ k,(xs k).length=ar/\SVs.pure (xs k)=true)/\∀ (i:Nat) (Y:PN) (J:Nat->Heap->Prop) (E:Heap->Prop) (τ0:Heap),Kr P i Y->(∀ k Z,J k Z->B.Le Z) ->
   (∀ k us Z,k<m->J k Z->SRs P B Xl Jp (xs k) us->Y us Z λv Z'=>(v=.bool true/\J (k+1) Z')\/(v=.bool false/\E Z')) ->
   J 0 τ0->VCallsTo P f (.func (.yield i) #[] #[]::vs) τ0 λ_ Z=>J m Z\/E Z
def OE (P:Program) (o:Nat) (y:YSp):Prop :=
 ∀ (B F:Heap) (pl:Nat->Value) (tb:Nat->Option Bool) (s:St) (env:Env) (U:Heap) (args:List SV) (us:List Value) (K:SV->St->Prop) (R:Value->Heap->Prop) (i:Nat),
  Gam P B F pl tb s env U->SRs P B pl tb args us->y args s K->pl o=.pointer (some ⟨i,0,none⟩) ->
  (∀ v s' B' F' pl' tb' u U',K v s'->GBase B F U B' F' U'->Gam P B' F' pl' tb' s' env U'->SR P B' pl' tb' v u->R u U')->He P i us U R
def Q8l (P:Program) (f:Nat) (x:Q6g):Prop:=Jj P f /\
 ∀ (B F:Heap) (pl:Nat->Value) (tb:Nat->Option Bool) (s:St) (env:Env) (U:Heap) (o:Nat) (args:List SV) (vs:List Value) (y:YSp) (K:St->Prop) (R:Heap->Prop),
  Gam P B F pl tb s env U->SRs P B pl tb args vs->OE P o y->x o args (o,y) s K ->
  (∀ s' B' F' pl' tb' ae U',K s'->GBase B F U B' F' U'->Gam P B' F' pl' tb' s' ae U'->R U')->VCallsTo P f vs U λ_=>R
structure COk (P:Program) (C:Cx):Prop where
 cs:CsOk P C.cs
 xs:∀ f x,QJ C.xs f=some x->XOk P f x
 it:∀ f x,QJ C.it f=some x->Q8a P f x
 yl:∀ o y,QJ C.yl o=some y->OE P o y
 iy:∀ f x,QJ C.iy f=some x->Q8l P f x
 xf:∀ f j,QJ C.xf f=some j->∀ x,QJ C.xs f=some x->Q8i P f x j
theorem HF {C:Cx}(az:CsOk P C.cs) {B F:Heap}{pl:Nat->Value}{tb:Nat->Option Bool}{s:St}{env:Env}{U:Heap}(hG:Gam P B F pl tb s env U) {gs:List Gd}(hg:Gds tb gs) {raw:Bool}{o:VOp}{cs:List Prop}{v:SV}
  (h:gqc C raw o (gev gs s.env) s.own=some (cs,v)) (hc:∀ c∈cs,c) {K:Value->Heap->Prop}(hK:∀ u,SR P B pl tb v u->K u U):vop (Q3 P) o env U K:=by
 have flat:∀ {c:Prop}{v':SV},(bif v'.ret 0 then some ([c],v') else none)=some (cs,v)->v'.ret 0=true/\c/\v'=v:=λ{c v'} h=>by
  cases hv:v'.ret 0 with
  |false=>rw[hv] at h;cases h
  |true =>rw[hv] at h;obtain⟨rfl,rfl⟩:=QZ h;exact⟨rfl,hc _ (by simp),rfl⟩
 have quiet:∀ o,gq C.kt raw o (gev gs s.env) s.own=some (cs,v)->(∀ K,Q_ (Q6 o (Q5 env) U) (λp=>K p.1 p.2)->vop (Q3 P) o env U K)->vop (Q3 P) o env U K:=λo h hv=>by obtain⟨u,h1,h2⟩:=S5 (hG.evs hg) (λ_=>rfl) hG.leB hG.obj h hc;exact hv K (by rw[h1];exact hK u h2)
 cases o
 case callF f args =>
  simp only[gqc] at h;split at h
  .rename_i c v' heq;obtain⟨h1,h2,rfl⟩:=flat h;obtain⟨g,a,b,h3,h4,_⟩:=ZM az (show SR P U Xl Jp (.fn f [] []) (.func (.func f) #[] #[]) by simp only[SR,SRs];exact⟨[],[],rfl,rfl,rfl⟩) (hG.gcall hg args) heq h1 rfl h2;obtain⟨rfl,rfl,rfl⟩:=(by simpa using h3:f=g/\#[]=a/\#[]=b);have:=h4.mono (R':=K) λu U' hr=>by
    obtain⟨rfl,hu⟩:=hr.flat h1;exact hK u (hu.retd (λj hj=>by omega) _ _ h1)
   show VCalled P f (args.map (Q5 env)) U K;simpa using this
  .cases h
 case callV f args =>
  simp only[gqc] at h;split at h
  .rename_i c v' heq;obtain⟨h1,h2,rfl⟩:=flat h;obtain⟨g,a,b,h3,h4,_⟩:=ZM az (hG.gfun hg f) (hG.gcall hg args) heq h1 rfl h2;exact Ui h3 (h4.mono λu U' hr=>by
    obtain⟨rfl,hu⟩:=hr.flat h1;exact hK u (hu.retd (λj hj=>by omega) _ _ h1))
  .cases h
 case ext x =>
  cases x
  case nextMap x=>cases h
  all_goals exact quiet _ h λ_ h=>h
 all_goals exact quiet _ h λ_ h=>h
end
end Go.V
namespace Go.V
open Go
section
variable {P:Program}
mutual
theorem Aj:∀ (v:SV) {K:SV->Prop},nmV v K->K v
 |.val k x,K,h=>by simp only[nmV] at h;exact h x rfl
 |.agg l,K,h=>by simp only[nmV] at h;exact Ht l h
 |.tup l,K,h=>by simp only[nmV] at h;exact Ht l h
 |.any,_,h|.dd _ _,_,h|.bid _ _,_,h|.grd _ _,_,h|.nilS,_,h|.nilP,_,h|.nilM,_,h|.nilF,_,h|.lst _,_,h|.sub _ _ _ _,_,h|.elp _ _ _ _,_,h|.rop _ _ _ _,_,h|.box _ _,_,h|.cp _ _,_,h|.map _,_,h|.fn _ _ _,_,h|.pf _ _ _ _,_,h=>by simp only[nmV] at h;exact h
theorem Ht:∀ (l:List SV) {K:List SV->Prop},Q3h l K->K l
 |[],K,h=>by simp only[Q3h] at h;exact h
 |v::r,K,h=>by simp only[Q3h] at h;exact Ht r (Aj v h)
end
theorem Zf {C:Cx}{o:VOp}{ev:Operand->SV}{v:SV}{K:SV->Prop}(h:gnm C o ev v K):K v:=by
 unfold gnm at h
 grind [Aj]
theorem BA {B:Heap}{pl:Nat->Value}{tb:Nat->Option Bool}{v:SV}{u:Value}(h:SR P B pl tb v u):SR P B pl tb (G7 v) u/\gtb tb (G7 v):=by
 cases v with
 |bid n c=>simp only[SR] at h;obtain⟨rfl,_⟩:=h;exact⟨ZV _,trivial⟩
 |_=>exact⟨h,trivial⟩
theorem BD {tb:Nat->Option Bool}(v:SV):gtb tb (G7 v):=by cases v<;>trivial
theorem B3 {C:Cx}(az:COk P C) {B F:Heap}{pl:Nat->Value}{tb:Nat->Option Bool}{s:St}{env:Env}{U:Heap}(hG:Gam P B F pl tb s env U) {d:Nat}{f:SV}{args:List SV}{fV:Value}{vs:List Value}(hf:SR P B pl tb f fV) (ha:SRs P B pl tb args vs) {K:SV->St->Prop}(h:E6 C d f args s K) {R:Value->Heap->Prop}
  (hK:∀ v s' B' F' pl' tb' u U',K v s'->GBase B F U B' F' U'->Gam P B' F' pl' tb' s' env U'->SR P B' pl' tb' v u->R u U'):∃ g a b,fV=.func (.func g) a b/\VCalled P g (a.toList++vs++b.toList) U R:=by
 unfold E6 at h;have rz:SR P U Xl Jp ((TN s.own [f]).getD 0 .any) fV:=by have:=(N0 hG.leB hG.obj (show SRs P B pl tb [f] [fV] by simp only[SRs];exact⟨_,[],rfl,hf,rfl⟩)).getD 0 poison;simpa using this
 have jD:=N0 hG.leB hG.obj ha;split at h
 .rename_i c v bs heq;cases hb:(v.ret bs.length&&(bs.all OB.ret&&Nat.blt 0 C.nt)) with
  |false=>rw[hb] at h;exact h.elim
  |true =>rw[hb] at h;obtain⟨h1,h2⟩:=h;simp only[z1] at hb;obtain⟨g,a,b,e,aA,_⟩:=ZM az.cs rz jD heq hb.1 hb.2.1 h1;refine⟨g,a,b,e,aA.mono λu U' hr=>?_⟩;obtain⟨pl',h3,h4⟩:=hr.gam (nt:=C.nt) (d:=d) (by simpa [zC] using hb.2.2) hG hb.1 hb.2.1;exact hK _ _ B F pl' tb u U' h2 (.of hG.bf hr.1.2) h3 h4
 .exact h.elim
theorem DM {C:Cx}(az:COk P C) {B F:Heap}{pl:Nat->Value}{tb:Nat->Option Bool}{s:St}{env:Env}{U:Heap}(hG:Gam P B F pl tb s env U) {d:Nat}{f:SV}{args:List SV}{fV:Value}{vs:List Value}(hf:SR P B pl tb f fV) (ha:SRs P B pl tb args vs) {K:SV->St->Prop}(h:TL C d f args s K) (u_:∀ o,f≠.dd o .yv) {R:Value->Heap->Prop}
  (hK:∀ v s' B' F' pl' tb' u U',K v s'->GBase B F U B' F' U'->Gam P B' F' pl' tb' s' env U'->SR P B' pl' tb' v u->R u U'):∃ g a b,fV=.func (.func g) a b/\VCalled P g (a.toList++vs++b.toList) U R:=by
 unfold TL at h;split at h
 .rename_i g a b;split at h
  .rename_i x hx;have th:=hf;simp only[SR] at hf;obtain⟨a',b',rfl,h1,h2⟩:=hf;refine⟨g,a'.toArray,b'.toArray,rfl,?_⟩;have:=az.xs g x hx B F pl tb s env U d _ _ K R hG (h1.append (ha.append h2)) h hK;simpa using this
  .exact B3 az hG hf ha h hK
 .exact(u_ _ rfl).elim
 .exact B3 az hG hf ha h hK
theorem F2 {C:Cx}{B F:Heap}{pl:Nat->Value}{tb:Nat->Option Bool}{s:St}{env:Env}{U:Heap}(hG:Gam P B F pl tb s env U) {d:Nat}{o:VOp}{K:SV->St->Prop}(h:gnd C d o (gev [] s.env) s K) {R:Value->Heap->Prop}
  (hK:∀ v s' B' F' pl' tb' u U',K v s'->GBase B F U B' F' U'->Gam P B' F' pl' tb' s' env U'->SR P B' pl' tb' v u->R u U'):vop (Q3 P) o env U R:=by
 obtain⟨u,U',pl',v,s',h1,h2,h3,h4⟩:=Px (λx=>hG.evs (Gds.nil (tb:=tb)) x) hG h;have fin:Q_ (Q6 o (Q5 env) U) (λp=>R p.1 p.2):=by rw[h1];exact hK v s' B F pl' tb u U' h2 (.of hG.bf (YQ h1)) h3.1 h4
 cases o
 case buildSlice e z n ps=>exact fin
 case makeSlice e b z l c=>exact fin
 case append e b x y=>exact fin
 case store size a x=>exact fin
 all_goals exact h.elim
section
variable {B F:Heap}{pl:Nat->Value}{tb:Nat->Option Bool}{s:St}{env:Env}{U:Heap}
def Heap.ins (B U:Heap) (i:Nat) (h:B.n<=U.n):Heap where
 get j:=if j=i then U.get i else B.get j
 n:=U.n
 wf j hj:=by
  by_cases e:j=i
  .simp only[z7 e];subst e;exact U.wf j hj
  .simp only[z6 e];exact B.wf j (zJ h hj)
theorem Heap.q0m (B U:Heap) (i:Nat) (h:B.n<=U.n):(B.ins U i h).get i=U.get i:=by simp[Heap.ins]
theorem Heap.q1a (B U:Heap) {i j:Nat}(h:B.n<=U.n) (e:j≠i):(B.ins U i h).get j=B.get j:=by simp[Heap.ins,e]
theorem Heap.Le.ins {B U:Heap}(h:B.Le U) (i:Nat):B.Le (B.ins U i h.1):=⟨h.1,λj b hb=>by
 by_cases e:j=i
 .subst e;rw[Heap.q0m];exact h.2 _ _ hb
 .rw[Heap.q1a _ _ _ e];exact hb⟩
theorem Heap.Le.q1x {B U:Heap}(h:B.Le U) (i:Nat):(B.ins U i h.1).Le U:=⟨zd _,λj b hb=>by
 by_cases e:j=i
 .grind [Heap.q0m]
 .rw[Heap.q1a _ _ _ e] at hb;exact h.2 _ _ hb⟩
theorem Heap.q2b {B F U:Heap}(h:B.Le F) (i:Nat) (hB:B.n<=U.n) (hF:F.n<=U.n):(B.ins U i hB).Le (F.ins U i hF):=⟨zd _,λj b hb=>by
 by_cases e:j=i
 .grind [Heap.q0m]
 .rw[Heap.q1a _ _ _ e] at hb |-;exact h.2 _ _ hb⟩
theorem Gam.freeze (hG:Gam P B F pl tb s env U) {o i:Nat}(hl:(Qg s.own o).live=true) (hi:Oid (pl o) i) :
  GBase B F U (B.ins U i hG.leB.1) (F.ins U i hG.le.1) U/\Gam P (B.ins U i hG.leB.1) (F.ins U i hG.le.1) pl tb ⟨s.env,oset s.own o .dead,s.nx⟩ env U:=by
 have n_:=hG.fresh o i hl hi;have lv:∀ d,(Qg (oset s.own o .dead) d).live=true->d≠o/\(Qg s.own d).live=true:=λd h=>by
  rw[Qt] at h;by_cases e:d=o
  .rw[z7 e] at h;cases h
  .rw[z6 e] at h;exact⟨e,h⟩
 refine⟨⟨hG.leB.ins i,hG.le.ins i,λj b h1 h2=>?_,.refl _⟩,⟨Heap.q2b hG.bf i _ _,hG.le.q1x i,SRs.mono (hG.leB.ins i) (λ_ _ h=>h) _ _ hG.env,λd=>?_,λd j h1 h2=>?_,λd d' j aJ h1 h2 h3 h4=>hG.sep d d' j aJ (lv d h1).2 (lv d' h2).2 h3 h4,hG.free⟩⟩
 .grind [Heap.q1a]
 .simp only[Qt];by_cases e:d=o
  .rw[z7 e];trivial
  .rw[z6 e];exact(hG.obj d).mono (hG.leB.ins i) (λ_ _ h=>h) λ_ _ _=>rfl
 .obtain⟨aJ,bV⟩:=lv d h1;have e:j≠i:=by rintro rfl;exact hG.sep d o j aJ bV hl h2 hi
  rw[Heap.q1a _ _ _ e];exact hG.fresh d j bV h2
theorem Gam.own {s':St}(hG:Gam P B F pl tb s env U) (h1:s'.env=s.env) (h2:∀ d,Qg s'.own d=Qg s.own d) (h3:s'.nx=s.nx):Gam P B F pl tb s' env U :=
 ⟨hG.bf,hG.le,by rw[h1];exact hG.env,λd=>by rw[h2];exact hG.obj d,λd i=>by rw[h2];exact hG.fresh d i,λd d' i aJ=>by rw[h2,h2];exact hG.sep d d' i aJ,λn hn=>hG.free n (by rw[<-h3];exact hn)⟩
theorem Gam.drop (hG:Gam P B F pl tb s env U) (o:Nat):Gam P B F pl tb ⟨s.env,oset s.own o .dead,s.nx⟩ env U:=by
 have lv:∀ d,(Qg (oset s.own o .dead) d).live=true->d≠o/\(Qg s.own d).live=true:=λd h=>by
  rw[Qt] at h;by_cases e:d=o
  .rw[z7 e] at h;cases h
  .rw[z6 e] at h;exact⟨e,h⟩
 refine⟨hG.bf,hG.le,hG.env,λd=>?_,λd j h1 h2=>hG.fresh d j (lv d h1).2 h2,λd d' j aJ h1 h2 h3 h4=>hG.sep d d' j aJ (lv d h1).2 (lv d' h2).2 h3 h4,hG.free⟩;simp only[Qt];by_cases e:d=o
 .rw[z7 e];trivial
 .rw[z6 e];exact hG.obj d
theorem LQ (s:St) (d:Nat) (b:OB) (q:Nat):Qg (s.make d .dead).own q=Qg (oset (s.make d b).own d .dead) q:=by simp only[St.make,Qt];simp_all
theorem F3 {C:Cx}(hG:Gam P B F pl tb s env U) {d:Nat}{x:Operand}{K:SV->St->Prop}(h:gn C d (.ext (.rangeMap x)) (gev [] s.env) s K) {R:Value->Heap->Prop}
  (hK:∀ v s' B' F' pl' tb' u U',K v s'->GBase B F U B' F' U'->Gam P B' F' pl' tb' s' env U'->SR P B' pl' tb' v u->R u U'):vop (Q3 P) (.ext (.rangeMap x)) env U R:=by
 have ha:=hG.evs (Gds.nil (tb:=tb)) x;simp only[gn] at h;split at h
 .rename_i o h1;rw[h1] at ha;simp only[SR] at ha;split at h
  .rename_i kk vk m ho;split at h
   .have ak:=hG.obj o;rw[ho] at ak;obtain⟨i,es,clock,h2,h3,h4⟩:=ak;obtain⟨g1,g2⟩:=hG.freeze (o:=o) (i:=i) (by rw[ho];rfl) (by rw[h2];rfl)
    have iC:=g2.push d (.iter kk vk m []) (.pointer (some ⟨U.n,0,none⟩)) (.obj (.iter i clock [] clock) true) rfl
     ⟨U.n,i,es,clock,true,[],rfl,Heap.q0a _ _,by rw[Heap.q0m];exact h3,h4.mono g1.b,rfl,λt r h=>by simp at h⟩
    show Q_ (Q6 (.ext (.rangeMap x)) (Q5 env) U) _;have hv:Q6 (.ext (.rangeMap x)) (Q5 env) U=some (.pointer (some ⟨U.n,0,none⟩),U.push (.obj (.iter i clock [] clock) true)):=by simp only[Q6,Zd,ha.1,h2,Heap.mapAt,h3]
    rw[hv];exact hK _ _ _ _ _ _ _ _ h (g1.trans (.of g2.bf (Dead.push _ _))) iC (by simp only[SR,XP];exact⟨_,rfl,rfl⟩)
   .exact h.elim
  .exact h.elim
 .exact h.elim
theorem I_ {C:Cx}(hG:Gam P B F pl tb s env U) {d:Nat}{x:Operand}{K:SV->St->Prop}(h:gn C d (.ext (.nextMap x)) (gev [] s.env) s K) {R:Value->Heap->Prop}
  (hK:∀ v s' B' F' pl' tb' u U',K v s'->GBase B F U B' F' U'->Gam P B' F' pl' tb' s' env U'->SR P B' pl' tb' v u->R u U'):vop (Q3 P) (.ext (.nextMap x)) env U R:=by
 have ha:=hG.evs (Gds.nil (tb:=tb)) x;simp only[gn] at h;split at h
 .rename_i o f h1;rw[h1] at ha;simp only[SR] at ha;split at h
  .rename_i kk vk m dn ho;split at h
   .rename_i hf;obtain⟨rfl,oa⟩:=hf;have aw:(Qg s.own o).live=true:=by rw[ho];rfl
    have ak:=hG.obj o;rw[ho] at ak;obtain⟨j,i,es,clock,wr,seen,h2,h3,h4,h5,h6⟩:=ak;obtain⟨b,e2,e3⟩:=ha;rw[h2] at e2;obtain rfl:j=b:=by simpa using e2
    have aG:U.mapAt i=some (es,clock,wr):=by simp[Heap.mapAt,hG.leB.2 _ _ h4]
    have hlen:=h5.1.length;obtain⟨hA,hB⟩:=h;have hid:F.get j=none:=hG.fresh o j aw (by rw[h2];rfl);have cz:∀ q i',q≠o->(Qg s.own q).live=true->Oid (pl q) i'->i'≠j:=λq i' hq hl hi e=>by subst e;exact hG.sep q o i' hq hl aw hi (by rw[h2];rfl)
    show Cc (Q5 env x) U R;unfold Cc;rw[e3];simp only[h3,aG];refine⟨?_,?_,λhall=>?_,λe he nP=>?_⟩
    .cases es with
     |nil=>simp
     |cons e es=>simp[h5.2.2 e (by simp)]
    .rw[zf];intro e he;obtain⟨r,hr⟩:=zY.1 he;obtain⟨_,k1,_⟩:=MR.at h5.1 hr;exact SW oa k1
    .refine hK _ _ _ _ _ _ _ _ (hA λr hr=>?_) (.of hG.bf (Dead.refl U)) hG (by simp only[SR,SRs];exact⟨[.bool false],rfl,_,[],rfl,rfl,rfl⟩);have e_:r<es.length:=by omega
     have he:=z8 e_;have:=zf.1 hall es[r] (zi e_);have af:=h5.2.2 _ (zi e_);rw[zw,zg] at this;rcases this with this|this
     .rw[List.contains_iff_mem] at this;obtain⟨t,ht⟩:=zY.1 this;have wH:t<seen.length:=(zu.1 ht).1;have tj:t<dn.length:=by have:=h6.1;omega
      obtain⟨e',k1,k2⟩:=h6.2 t dn[t] (z8 tj);rw[ht] at k2;have:=LF h5.2 he k1 (osj k2);rw[this];exact zi tj
     .omega
    .obtain⟨r,hr⟩:=zY.1 he;have e_:r<es.length:=(zu.1 hr).1;have vd:r∉dn:=λhm=>by
      obtain⟨t,ht⟩:=zY.1 hm;obtain⟨e',k1,k2⟩:=h6.2 t r ht
      grind
     refine hK _ _ _ _ _ _ _ _ (hB r (by omega) vd) (.of hG.bf (Dead.upd _ _ _ (by rw[h3];rfl))) (hG.write o _ (hG.le.upd hid _) aw (by grind [Heap.q0b]) ⟨j,i,es,clock,wr,seen++[e.2.2],h2,Heap.q0c _ _ (U.lt h3),h4,h5,?_,λt r' ht=>?_⟩) (by simp only[SR,SRs];exact⟨[.bool true,e.1,e.2.1],rfl,_,_,rfl,rfl,_,_,rfl,trivial,_,_,rfl,trivial,rfl⟩)
     .simp[h6.1]
     .rw[List.getElem?_append] at ht;split at ht
      .rename_i af;obtain⟨e',k1,k2⟩:=h6.2 t r' ht
       grind
      .rename_i aZ;have h0:t-dn.length=0:=by
        grind
       rw[h0] at ht;obtain rfl:r=r':=by simpa using ht
       refine⟨e,hr,?_⟩;rw[xj (by have:=h6.1;omega),show t-seen.length=0 by have:=h6.1;omega];rfl
   .exact h.elim
  .exact h.elim
 .exact h.elim
theorem RI {d:Nat}(tk:B.Le F) {ty:Nat}{k:Kind}{xs:List k.T}{nl:Bool}(hk:k.flat=true) {pl':Nat->Value}{u:Value}{U':Heap}(h1:Gam P B F pl' tb (s.make d (.lst ty k xs nl)) env U') (h2:SR P B pl' tb (.lst d) u) (hd:Dead U U') :
  ∃ B' F',GBase B F U B' F' U'/\Gam P B' F' pl' tb (s.make d .dead) env U'/\SR P B' pl' tb (.val (.list k) xs) u:=by
 have ak:=h1.obj d;have bN:Qg (s.make d (.lst ty k xs nl)).own d=.lst ty k xs nl:=by simp only[St.make,Qt,zB]
 rw[bN] at ak;simp only[SR] at h2;obtain⟨rfl,_⟩:=h2;rcases ak with⟨_,hx,hp⟩|⟨_,i,cap,c,t,hp,bZ,hg,hlen,cm⟩
 .refine⟨B,F,.of tk hd,(h1.drop d).own rfl (LQ s d _) rfl,?_⟩;simp only[SR];exact⟨_,rfl,.inl ⟨hx,hp⟩⟩
 .obtain⟨g1,g2⟩:=h1.freeze (o:=d) (i:=i) (by rw[bN];rfl) (by rw[hp];rfl);refine⟨_,_,(GBase.of tk hd).trans g1,g2.own rfl (LQ s d _) rfl,?_⟩;simp only[SR];refine⟨_,rfl,.inr ⟨i,0,cap,c,⟨k.size,ty⟩,true,t,hp,bZ,by rw[Heap.q0m];exact hg,rfl,by have:=zp k.size bZ;omega,?_⟩⟩;rw[xk];exact cm.mono λ_ _ e=>KC.flat hk e
theorem An {d nt:Nat}(dK:0<nt) (hG:Gam P B F pl tb s env U) {ty:Nat}{k:Kind}{xs:List k.T}{nl:Bool}(hk:k.flat=true) {u:Value}{U':Heap}(h:Ret P U (.lst 0) [.lst ty k xs nl] u U') :
  ∃ B' F' pl',GBase B F U B' F' U'/\Gam P B' F' pl' tb (s.make d .dead) env U'/\SR P B' pl' tb (.val (.list k) xs) u:=by
 obtain⟨pl',h1,h2⟩:=h.gam (d:=d) dK hG (by rfl) (by simp only[zR,List.all_nil,xB,OB.ret];exact hk);simp only[St.makes,Nat.zero_mul,zN,SV.ren] at h1 h2;obtain⟨B',F',k⟩:=RI hG.bf hk h1 h2 h.1.2;exact⟨B',F',pl',k⟩
theorem UW {nt:Nat}{r:Option (Prop×SV×List OB)}{c:Prop}{v:SV}(h:A_ nt r=some (c,v)):∃ ty k xs nl,r=some (c,.lst 0,[.lst ty k xs nl])/\v=.val (.list k) xs/\k.flat=true/\0<nt:=by
 unfold A_ at h;split at h
 .split at h
  .rename_i k xs _;cases hc:(k.flat&&Nat.blt 0 nt) with
   |false=>rw[hc] at h;cases h
   |true =>rw[hc] at h;obtain⟨rfl,rfl⟩:=QZ h;simp only[z1,zC] at hc;exact⟨_,_,_,_,rfl,rfl,hc.1,hc.2⟩
  .cases h
 .cases h
theorem CE {C:Cx}(az:CsOk P C.cs) (hG:Gam P B F pl tb s env U) {gs:List Gd}(hg:Gds tb gs) {o:VOp}{c:Prop}{v:SV}{d:Nat}(h:Rr C o (gev gs s.env) s.own=some (c,v)) (hc:c) {K:Value->Heap->Prop}
  (hK:∀ u U' B' F' pl',GBase B F U B' F' U'->Gam P B' F' pl' tb (s.make d .dead) env U'->SR P B' pl' tb v u->K u U'):vop (Q3 P) o env U K:=by
 cases o<;>first|(cases h;done)|skip
 case callF f args =>
  simp only[Rr] at h;obtain⟨ty,k,xs,nl,heq,rfl,hk,dK⟩:=UW h;obtain⟨g,a,b,h3,h4,_⟩:=ZM az (show SR P U Xl Jp (.fn f [] []) (.func (.func f) #[] #[]) by simp only[SR,SRs];exact⟨[],[],rfl,rfl,rfl⟩) (hG.gcall hg args) heq (by rfl) (by simp only[zR,List.all_nil,xB,OB.ret];exact hk) hc;obtain⟨rfl,rfl,rfl⟩:=(by simpa using h3:f=g/\#[]=a/\#[]=b);have:=h4.mono (R':=K) λu U' hr=>by obtain⟨B',F',pl',k1,k2,k3⟩:=An (d:=d) dK hG hk hr;exact hK u U' B' F' pl' k1 k2 k3
  show VCalled P f (args.map (Q5 env)) U K;simpa using this
 case callV f args =>
  simp only[Rr] at h;obtain⟨ty,k,xs,nl,heq,rfl,hk,dK⟩:=UW h;obtain⟨g,a,b,h3,h4,_⟩:=ZM az (hG.gfun hg f) (hG.gcall hg args) heq (by rfl) (by simp only[zR,List.all_nil,xB,OB.ret];exact hk) hc;exact Ui h3 (h4.mono λu U' hr=>by
   obtain⟨B',F',pl',k1,k2,k3⟩:=An (d:=d) dK hG hk hr;exact hK u U' B' F' pl' k1 k2 k3)
 case buildSlice e z n ps =>
  simp only[Rr] at h;split at h
  .rename_i k ve;split at h
   .rename_i dA;split at h
    .rename_i xs hx;obtain⟨rfl,rfl⟩:=QZ h;have vf:gn C d (.buildSlice e z n ps) (gev gs s.env) s (λv s'=>v=.lst d/\s'=s.make d (.lst e.ty k xs false)):=by
      simp only[gn,ve,hx];simp_all
     obtain⟨u,U',pl',v,s',h1,⟨rfl,rfl⟩,⟨h3,_⟩,h4⟩:=UP (λx=>hG.evs hg x) hG vf;obtain⟨B',F',k1,k2,k3⟩:=RI hG.bf dA.2.2 h3 h4 (YQ h1);show Q_ (Q6 (.buildSlice e z n ps) (Q5 env) U) _;rw[h1];exact hK u U' B' F' pl' k1 k2 k3
    .cases h
   .cases h
  .cases h
theorem Lr {C:Cx}{o:VOp}{ev:Operand->SV}{own:Own}{c:Prop}{v:SV}(h:Rr C o ev own=some (c,v)):∃ (k:Kind) (xs:List k.T),v=.val (.list k) xs:=by
 cases o<;>first|(cases h;done)|skip
 case callF=>simp only[Rr] at h;grind [UW]
 case callV=>simp only[Rr] at h;grind [UW]
 case buildSlice e z n ps =>
  simp only[Rr] at h
  grind
theorem OZ {C:Cx}(az:COk P C) {B F:Heap}{pl:Nat->Value}{tb:Nat->Option Bool}{s:St}{env:Env}{U:Heap}(hG:Gam P B F pl tb s env U) {d:Nat}{o:VOp}{K:SV->St->Prop}(h:gn C d o (gev [] s.env) s K) {R:Value->Heap->Prop}
  (hK:∀ v s' B' F' pl' tb' u U',K v s'->GBase B F U B' F' U'->Gam P B' F' pl' tb' s' env U'->SR P B' pl' tb' v u->R u U'):vop (Q3 P) o env U R:=by
 have ai:=hG.evs (Gds.nil (tb:=tb));have act:∀ o {T:Nat},NOk P B F tb o (Q5 env) env U K T s pl->(∀ R',Q_ (Q6 o (Q5 env) U) (λp=>R' p.1 p.2)->vop (Q3 P) o env U R')->vop (Q3 P) o env U R:=λo _ ⟨u,U',pl',v,s',h1,h2,h3,h4⟩ hv=>hv R (by rw[h1];exact hK v s' B F pl' tb u U' h2 (.of hG.bf (YQ h1)) h3.1 h4);have au:∀ args:List Operand,SRs P B pl tb (args.map (gev [] s.env)) (args.map (Q5 env)):=(by grind [SRs.map,Gds.nil]);cases o
 case alloc t z=>exact act _ (Im ai hG h) λ_ h=>h
 case box t x=>exact act _ (Q3n ai hG h) λ_ h=>h
 case buildSlice e z n ps=>exact act _ (UP ai hG h) λ_ h=>h
 case makeSlice e b z l c=>exact act _ (Pq ai hG h) λ_ h=>h
 case append e b x y=>exact act _ (Av ai hG h) λ_ h=>h
 case store size a x=>exact act _ (O5 ai hG h) λ_ h=>h
 case callF f args =>
  simp only[gn] at h;obtain⟨g,a,b,h3,h4⟩:=DM az hG (show SR P B pl tb (.fn f [] []) (.func (.func f) #[] #[]) by simp only[SR,SRs];exact⟨[],[],rfl,rfl,rfl⟩) (au args) h (λ_ e=>by cases e) hK;obtain⟨rfl,rfl,rfl⟩:=(by simpa using h3:f=g/\#[]=a/\#[]=b);show VCalled P f (args.map (Q5 env)) U R;simpa using h4
 case callV f args =>
  simp only[gn] at h;by_cases hy:∃ o,gev [] s.env f=.dd o .yv
  .obtain⟨o,hy⟩:=hy;have hf:=hG.evs (Gds.nil (tb:=tb)) f;have h':TL C d (gev [] s.env f) (args.map (gev [] s.env)) s K:=h;rw[hy] at hf h';simp only[SR,DR] at hf;obtain⟨i,hp,hv⟩:=hf;simp only[TL] at h';split at h'
   .rename_i y vg;have:=az.yl o y vg B F pl tb s env U _ _ K R i hG (au args) h' hp hK;simp only[vop,hv];exact this
   .exact h'.elim
  obtain⟨g,a,b,h3,h4⟩:=DM az hG (hG.evs Gds.nil f) (au args) h (λo e=>hy ⟨o,e⟩) hK;exact Ui h3 h4
 case ext x =>
  cases x
  case mapUpdate mk m k v=>exact act _ (Hi ai hG h) λ_ h=>h
  case delete mk m k=>exact False.elim h
  case mapEntry mk z m k=>exact False.elim h
  case entryStore m s v=>exact False.elim h
  case copy size a b=>exact act _ (Q1u ai hG h) λ_ h=>h
  case unsafeStr e a n=>exact act _ (H4 ai hG h) λ_ h=>h
  case strBytes e a=>exact False.elim h
  case rangeMap a=>exact F3 hG h hK
  case nextMap a=>exact I_ hG h hK
  all_goals exact h.elim
 all_goals exact h.elim
theorem Gam.frz (hG:Gam P B F pl tb s env U) (o:Nat):∃ B' F',GBase B F U B' F' U/\Gam P B' F' pl tb (s.frz o) env U:=by
 unfold St.frz;split
 .rename_i ty k xs nl ho;have fin:∀ {B' F':Heap},Gam P B' F' pl tb ⟨s.env,oset s.own o .dead,s.nx⟩ env U->KC B' (.list k) xs [pl o]->Gam P B' F' pl tb ⟨SVs.frz o k xs s.env,Q0x o k xs s.own,s.nx⟩ env U:=λ{B' F'} h hk=>by
   have e1:∀ d,Qg (Q0x o k xs s.own) d=(Qg (oset s.own o .dead) d).frz o k xs:=λd=>by
    rw[Oc,Qt];by_cases e:d=o
    .rw[z7 e,z7 e];rfl
    .rw[z6 e,z6 e]
   have lv:∀ d,(Qg (Q0x o k xs s.own) d).live=(Qg (oset s.own o .dead) d).live:=λd=>by rw[e1,OB.q2f]
   refine⟨h.bf,h.le,SRs.frz hk _ _ h.env,λd=>?_,λd i h1 h2=>?_,λd d' i aJ h1 h2=>?_,h.free⟩
   .simp only[e1];exact(h.obj d).frz hk
   .simp only[lv] at h1;exact h.fresh d i h1 h2
   .simp only[lv] at h1 h2;exact h.sep d d' i aJ h1 h2
  have ak:=hG.obj o;rw[ho] at ak;rcases ak with⟨_,hx,hp⟩|⟨_,i,cap,c,t,hp,bZ,hg,hlen,cm⟩
  .exact⟨B,F,.of hG.bf (.refl _),fin (hG.drop o) ⟨_,rfl,.inl ⟨hx,hp⟩⟩⟩
  .obtain⟨g1,g2⟩:=hG.freeze (o:=o) (i:=i) (by rw[ho];rfl) (by rw[hp];rfl);refine⟨_,_,g1,fin g2 ⟨_,rfl,.inr ⟨i,0,cap,c,⟨k.size,ty⟩,true,t,hp,bZ,by rw[Heap.q0m];exact hg,rfl,by have:=zp k.size bZ;omega,?_⟩⟩⟩;rw[xk];exact cm.mono λ_ _ e=>KC.mono g1.b e
 .exact⟨B,F,.of hG.bf (.refl _),hG⟩
theorem GRel.frzs {B0 F0 D0:Heap}:∀ (l:List Nat) {s:St},GRel P B0 F0 D0 s env U->GRel P B0 F0 D0 (s.frzs l) env U
 |[],_,h=>h
 |o::r,s,⟨B,F,pl,tb,hB,hG⟩=>by obtain⟨B',F',g1,g2⟩:=hG.frz o;exact GRel.frzs r ⟨B',F',pl,tb,hB.trans g1,g2⟩
end
theorem Su {j:Nat}{f:Nat->Prop}:∀ {n i:Nat},Il (j:Int) f n i->i<=j->j<i+n->f j
 |0,i,_,h1,h2=>by omega
 |n+1,i,h,h1,h2=>by
  rcases zn i j with h3|h3
  .exact Su h.2 h3 (by omega)
  .have:j=i:=by omega
   subst this;exact h.1 rfl
theorem FE {o:VOp}{len i:Nat}{f:Nat->VOp}(h:Q4w o=some (len,i,f)) {n:Nat}:(∃ size x,f n=.indexAddrArr len size x (.const (.int .i64 (Int.ofNat n))))\/∃ agg size x,f n=.indexArr len agg size x (.const (.int .i64 (Int.ofNat n))):=by
 unfold Q4w at h;split at h
 .cases h;exact .inl ⟨_,_,rfl⟩
 .cases h;exact .inr ⟨_,_,_,rfl⟩
 .cases h
theorem Q11 {o:VOp}{len i:Nat}{f:Nat->VOp}(h:Q4w o=some (len,i,f)) {S:VSpecs}{env:Env}{U:Heap}{k:IntKind}{n:Nat}(he:Q5 env (.tmp i)=.int k (n:Int)) {R:Value->Heap->Prop}(hv:vop S (f n) env U R):vop S o env U R:=by
 have hc:Q5 env (.const (.int .i64 (Int.ofNat n)))=.int .i64 (n:Int):=rfl;unfold Q4w at h;split at h
 .rename_i len size x t;cases h;change Q_ (Q6 _ (Q5 env) U) _ at hv;change Q_ (Q6 _ (Q5 env) U) _;simp only[Q6,he,hc] at hv |-
  grind
 .rename_i len agg size x t;cases h;change Q_ (Q6 _ (Q5 env) U) _ at hv;change Q_ (Q6 _ (Q5 env) U) _;simp only[Q6,he,hc] at hv |-
  grind
 .cases h
theorem TM {C:Cx}(az:COk P C) {B0 F0 D0:Heap}{s:St}{env:Env}{U:Heap}(hR:GRel P B0 F0 D0 s env U) {o:VOper}{K:St->Prop}(h:Q5y C o s K) {R:Env->Heap->Prop}(hK:∀ s' ae U',K s'->GRel P B0 F0 D0 s' ae U'->R ae U') :
  Q_ (ZY env o.guard) λb=>vif b (vop (Q3 P) o.op env U λv U'=>R (JK env o.dst v) U') (R (JK env o.dst undef) U):=by
 unfold Q5y at h;split at h
 .rename_i hg;rw[hg];refine⟨λ_=>?_,λe=>by cases e⟩
  replace hR:=hR.frzs (Q31 C (o.dst.getD 0) o.op (gev [] s.env) s.own)
  generalize s.frzs (Q31 C (o.dst.getD 0) o.op (gev [] s.env) s.own)=s at h hR;obtain⟨B,F,pl,tb,hB,hG⟩:=hR;unfold Q87 at h;split at h
  .rename_i len i f tl;split at h
   .rename_i k j hj;obtain⟨h1,h2,h3⟩:=h;obtain⟨n,rfl⟩:=zo h1;have hn:n<len:=by omega
    have h4:=Su h3 (Nat.zero_le n) (by omega);have he:=ZT hj (hG.evs (Gds.nil (tb:=tb)) (.tmp i));split at h4
    .rename_i cs v cZ;obtain⟨k1,k2⟩:=Zk h4
     replace k1:=Zf k1
     have hv:=HF (C:=C) az.cs hG Gds.nil (o:=f n) (raw:=C.raw.contains (o.dst.getD 0)) (cs:=cs) (v:=v) (by
      rw[<-cZ];obtain⟨size,x,hf⟩|⟨agg,size,x,hf⟩:=FE tl<;>rw[hf];rfl;rfl) (k2 λg hg=>by cases hg) λu hu=>hK _ _ _ k1 ⟨B,F,pl,tb,hB,hG.put o.dst hu⟩
     exact Q11 tl he hv
    .exact h4.elim
   .exact h.elim
  unfold Q8c at h;split at h
  .rename_i c a b bp;split at h
   .rename_i v hv;obtain⟨u,h1,h2⟩:=Vl hG Gds.nil hv;rw[bp];show Q_ (Q6 (.pick c a b) (Q5 env) U) _;rw[h1];exact hK _ _ _ (Zf h) ⟨B,F,pl,tb,hB,hG.put o.dst h2⟩
   .exact h.elim
  .rename_i wI;cases hq:FP o.op with
   |true =>
    rw[hq] at h;simp only[zm] at h;split at h
    .rename_i cs v cZ;obtain⟨h1,h2⟩:=Zk h
     replace h1:=Zf h1
     refine HF (C:=C) az.cs hG Gds.nil (raw:=C.raw.contains (o.dst.getD 0)) (cs:=cs) (v:=v) ?_ (h2 λg hg=>by cases hg) λu hu=>hK _ _ _ h1 ⟨B,F,pl,tb,hB,hG.put o.dst hu⟩;rw[<-cZ];cases ho:o.op<;>first|rfl|(rw[ho] at hq;cases hq)
    .exact h.elim
   |false =>
    rw[hq] at h;simp only[zL] at h;split at h
    .rename_i bp;split at h
     .rename_i kk vk _;obtain⟨h1,h2⟩:=I9 hG (C.off+o.dst.getD 0) kk vk;rw[bp];change R (JK env o.dst (.map (some U.n))) (U.push (.obj (.map [] 0) true));exact hK _ _ _ h ⟨B,F,_,tb,NQ hB (Dead.push _ _),h1.put o.dst h2⟩
     .exact h.elim
    .rename_i bp;cases j7:LH C (o.dst.getD 0) o.op (gev [] s.env) with
     |true =>rw[j7] at h;simp only[zm] at h;exact F2 hG h λv s' B' F' pl' tb' u U' h1 hd h2 h3=>hK _ _ _ h1 ⟨B',F',pl',tb',hB.trans hd,h2.put o.dst h3⟩
     |false =>rw[j7] at h;simp only[zL] at h;exact OZ az hG h λv s' B' F' pl' tb' u U' h1 hd h2 h3=>hK _ _ _ h1 ⟨B',F',pl',tb',hB.trans hd,h2.put o.dst h3⟩
 .rename_i j want hg;obtain⟨B,F,pl,tb,hB,hG⟩:=hR;rw[hg];split at h
  .exact h.elim
  .rename_i gs s' dq;obtain⟨tb',aY,cY,b,hw,bz,bF⟩:=Xt hG dq;rw[hw];refine⟨λe=>?_,λe=>?_⟩
   .have fX:Gds tb' gs:=λg hg=>⟨bz e g hg,cY g hg⟩;have fin:∀ {v u},SR P B pl tb' v u->SR P B pl tb' (.grd gs (G7 v)) u:=λ{v u} hs=>by
     simp only[SR]
     grind [BA]
    split at h
    .rename_i c a b' bp;split at h
     .rename_i v hv;obtain⟨u,h1,h2⟩:=Vl aY fX hv;rw[bp];show Q_ (Q6 (.pick c a b') (Q5 env) U) _;rw[h1];exact hK _ _ _ (Zf h) ⟨B,F,pl,tb',hB,aY.put o.dst (fin h2)⟩
     .exact h.elim
    .split at h
     .rename_i cs v cZ;obtain⟨h1,h2⟩:=Zk h
      replace h1:=Zf h1
      exact HF az.cs aY fX cZ (h2 (bz e)) λu hu=>hK _ _ _ h1 ⟨B,F,pl,tb',hB,aY.put o.dst (fin hu)⟩
     .split at h
      .rename_i c v j8;obtain⟨h1,h2⟩:=Zk h
       replace h1:=Zf h1
       refine CE az.cs aY fX (d:=C.off+o.dst.getD 0) j8 (h2 (bz e) c (by simp)) λu U' B' F' pl' k1 k2 k3=>hK _ _ _ h1 ⟨B',F',pl',tb',hB.trans k1,k2.put o.dst ?_⟩;simp only[SR];refine⟨⟨cY,?_⟩,λ_=>k3,(by grind)⟩;obtain⟨k,xs,rfl⟩:=Lr j8;trivial
      .exact h.elim
   .have fin:∀ v,SR P B pl tb' (.grd gs (G7 v)) undef:=λv=>by
     simp only[SR];obtain⟨g,hg,aJ⟩:=bF e;exact⟨⟨cY,BD v⟩,λhall=>absurd (hall g hg) aJ,λ_=>trivial⟩
    split at h
    .split at h
     .exact hK _ _ _ (Zf h) ⟨B,F,pl,tb',hB,aY.put o.dst (fin _)⟩
     .exact h.elim
    .split at h
     .exact hK _ _ _ (Zf (Zk h).1) ⟨B,F,pl,tb',hB,aY.put o.dst (fin _)⟩
     .split at h
      .rename_i c v j8;refine hK _ _ _ (Zf (Zk h).1) ⟨B,F,_,tb',hB,(aY.make (C.off+o.dst.getD 0) .dead undef aY.le (λ_ _ _ _ _=>rfl) trivial (λi hl _=>by cases hl)).put o.dst ?_⟩;simp only[SR];obtain⟨g,hg,aJ⟩:=bF e;refine⟨⟨cY,?_⟩,λhall=>absurd (hall g hg) aJ,λ_=>trivial⟩;obtain⟨k,xs,rfl⟩:=Lr j8;trivial
      .exact h.elim
theorem Ia {C:Cx}(az:COk P C) {B0 F0 D0:Heap}{s:St}{env:Env}{U:Heap}(hR:GRel P B0 F0 D0 s env U) {o:VOper}{K:St->Prop}(h:gop C o s K) {R:Env->Heap->Prop}(hK:∀ s' ae U',K s'->GRel P B0 F0 D0 s' ae U'->R ae U') :
  Q_ (ZY env o.guard) λb=>vif b (vop (Q3 P) o.op env U λv U'=>R (JK env o.dst v) U') (R (JK env o.dst undef) U):=by
 unfold gop at h;split at h
 .rename_i t ht;have rL:=hR;obtain⟨B,F,pl,tb,hB,hG⟩:=hR;rw[Yz hG ht];cases t with
  |true =>simp only[zm] at h;exact TM az rL (o:=⟨o.dst,o.op,none⟩) h hK
  |false =>simp only[zL] at h;exact⟨(λe=>by cases e),λ_=>hK _ _ _ h ⟨B,F,pl,tb,hB,hG.put o.dst (by simp[SR])⟩⟩
 .exact TM az hR h hK
theorem CS {B0 F0 D0:Heap}{s s':St}{env:Env}{U:Heap}(hR:GRel P B0 F0 D0 s env U) {d:Nat}(h:Q26 d s=some s'):GRel P B0 F0 D0 s' env U:=by
 unfold Q26 at h;split at h
 .rename_i o off hd;cases hz:Nat.beq off 0 with
  |false=>rw[hz] at h;cases h
  |true =>
   rw[hz] at h;simp only[zm] at h;have hz:off=0:=zP hz;subst hz;split at h
   .rename_i l _ ho;simp only[xg] at h;subst h;obtain⟨B,F,pl,tb,hB,hG⟩:=hR;have ak:=hG.obj o;rw[ho] at ak;obtain⟨i,c,e,t,e1,e2,e3,_⟩:=ak;obtain⟨k1,k2⟩:=hG.freeze (o:=o) (i:=i) (by rw[ho];rfl) (by rw[e1];rfl);have h1:=hG.env.getD d undef;rw[hd] at h1;have sr:SR P (B.ins U i hG.leB.1) pl tb (.cp l 0) (env.getD d undef):=by
     simp only[SR] at h1 |-;obtain⟨b,q1,q2⟩:=h1;rw[e1] at q1;obtain rfl:i=b:=by simpa using q1
     refine⟨i,c,e,true,t,?_,q2,SRs.mono k1.b (λ_ _ h=>h) _ _ e3⟩;rw[Heap.q0m];exact e2
    have:=k2.put (some d) sr;refine⟨_,_,pl,tb,hB.trans k1,?_⟩;have e2:JK env (some d) (env.getD d undef)=env:=by
     show env.set d _=env;rcases zn d env.length with h|h
     .simp_all
     .rw[List.set_eq_of_length_le h]
    rw[e2] at this;exact this
   .cases h
 .cases h
theorem EV {C:Cx}{B0 F0 D0:Heap}{s:St}{env:Env}{U:Heap}(hR:GRel P B0 F0 D0 s env U) {d:Option Nat}{K:St->Prop}(h:Q62 C d K s):∃ s2,K s2/\GRel P B0 F0 D0 s2 env U:=by
 unfold Q62 at h;split at h
 .exact⟨s,h,hR⟩
 .rename_i d;cases hb:C.spl.contains d with
  |false=>rw[hb] at h;exact⟨s,h,hR⟩
  |true =>
   rw[hb] at h;simp only[zm] at h;split at h
   .rename_i t ht;obtain⟨B,F,pl,tb,hB,hG⟩:=hR;have he:=Xj ht (hG.env.getD d undef);have bg:∀ v,SR P B pl tb v (env.getD d undef)->GRel P B0 F0 D0 (s.put (some d) v) env U:=λv hv=>by
     have:=hG.put (some d) hv;refine⟨B,F,pl,tb,hB,?_⟩;have e2:JK env (some d) (env.getD d undef)=env:=by
      show env.set d _=env;rcases zn d env.length with h|h
      .rw[ze,z8 h];simp
      .rw[List.set_eq_of_length_le h]
     rw[e2] at this;exact this
    have sr:SR P B pl tb (.grd [] (.val .bo t)) (env.getD d undef):=by simp only[SR];exact⟨⟨(λg hg=>by cases hg),trivial⟩,(λ_=>by rw[he];simp[KC]),λ⟨g,hg,_⟩=>by cases hg⟩
    cases hc:C.raw.contains (3000000+d) with
    |true =>
     rw[hc] at h;cases t with
     |true=>exact⟨_,h,bg _ sr⟩
     |false=>exact⟨_,h,bg _ sr⟩
    |false =>
     rw[hc] at h;cases t with
     |true=>exact⟨_,h.1 rfl,bg _ sr⟩
     |false=>exact⟨_,h.2 rfl,bg _ sr⟩
   .grind [CS]
theorem N7 {C:Cx}(az:COk P C) {B0 F0 D0:Heap}:∀ (ops:List VOper) {s:St}{env:Env}{U:Heap},GRel P B0 F0 D0 s env U->∀ {K:St->Prop},Q61 C ops s K->∀ {R:Env->Heap->Prop},(∀ s' ae U',K s'->GRel P B0 F0 D0 s' ae U'->R ae U')->T0 (Q3 P) ops env U R
 |[],s,env,U,hR,_K,h,_R,hK=>hK s env U h hR
 |_o::r,_s,_env,_σ,hR,_K,h,_R,hK=>Ia (R:=λenv U=>T0 (Q3 P) r env U _R) az hR h λ_ _ _ h1 h2=>by obtain⟨s2,k1,k2⟩:=EV h2 h1;exact N7 az r k2 k1 hK
theorem FT {S:VSpecs}{l:List DOper}{rest:List DSeg}{env:Env}{U:Heap}{K:Env->Heap->Prop}(h:l.all (λo=>!(o.kind==2)&&!(o.op.kind==2))=true) (hv:T0 S (l.map dv) env U λenv U=>N8 S rest env U K):N8 S (.alts [l]::rest) env U K:=by
 intro ops ho;obtain rfl:=zI.1 ho;have key:∀ (l:List DOper) (env:Env) (pend:List (Nat×(Heap->Prop))) (K':Env->Heap->Prop),l.all (λo=>!(o.kind==2)&&!(o.op.kind==2))=true->T0 S (l.map dv) env U K'->Zr S l env [U] U pend K':=by
  intro l;induction l with
  |nil=>intro env pend K' _ h;exact h
  |cons o rest ih =>
   intro env pend K' hk h;simp only[zR,z1,Bool.not_eq_true',xm] at hk;obtain⟨⟨bu,ax⟩,hr⟩:=hk;have hr:rest.all (λo=>!(o.kind==2)&&!(o.op.kind==2))=true:=by simpa using hr
   simp only[zW,T0,dv] at h;simp only[Zr];cases hw:ZY env o.guard with
   |none=>rw[hw] at h;exact h.elim
   |some b =>
    rw[hw] at h;obtain⟨ht,hf⟩:=h;refine⟨λe=>?_,λe=>?_⟩
    .have ht:=ht e;obtain⟨p,hp,jb⟩:∃ p,Q6 o.op (Q5 env) U=some p/\T0 S (rest.map dv) (JK env o.dst p.1) p.2 K':=by
      have:=ht;unfold vop at this;split at this
      .rename_i f bE heq;rw[heq] at ax;exact absurd rfl ax
      .rename_i f bE heq;rw[heq] at ax;exact absurd rfl ax
      .rename_i x heq;rw[heq] at ax;exact absurd rfl ax
      .cases dk:Q6 o.op (Q5 env) U with
       |none=>rw[dk] at this;exact this.elim
       |some p=>rw[dk] at this;exact⟨p,rfl,this⟩
     have hq:p.2=U:=(by grind [Gh]);rw[hq] at jb;rw[z6 bu];split
     .rw[hp];refine⟨λZ hτ=>?_,ih _ _ _ hr jb⟩;have:Z=U:=by
       grind
      subst this;show Q_ (Q6 o.op (Q5 env) Z) _;rw[hp];rfl
     .rw[hp];exact ih _ _ _ hr jb
    .simp_all
 have:=key ops env [] _ h hv;have mono:∀ (l:List DOper) (env:Env) (hs:List Heap) (Z:Heap) (pend:List (Nat×(Heap->Prop))) (A B:Env->Heap->Prop),l.all (λo=>!(o.kind==2)&&!(o.op.kind==2))=true->(∀ e s,A e s->B e s)->Zr S l env hs Z pend A->Zr S l env hs Z pend B:=by
  intro l;induction l with
  |nil=>intro env hs Z pend A B _ mq h;exact mq _ _ h
  |cons o rest ih =>
   intro env hs Z pend A B hk mq h;simp only[zR,z1,Bool.not_eq_true',xm] at hk;obtain⟨⟨bu,ax⟩,hr⟩:=hk;have hr:rest.all (λo=>!(o.kind==2)&&!(o.op.kind==2))=true:=by simpa using hr
   simp only[Zr] at h |-;cases hw:ZY env o.guard with
   |none=>rw[hw] at h;exact h.elim
   |some b =>
    rw[hw] at h;obtain⟨ht,hf⟩:=h;refine⟨λe=>?_,λe=>?_⟩
    .have ht:=ht e;rw[z6 bu] at ht |-;by_cases rf:o.kind=1
     .rw[z7 rf] at ht |-;cases dk:Q6 o.op (Q5 env) Z with
      |none=>rw[dk] at ht;exact ht.elim
      |some p=>rw[dk] at ht;exact⟨ht.1,ih _ _ _ _ _ _ hr mq ht.2⟩
     .rw[z6 rf] at ht |-;cases dk:Q6 o.op (Q5 env) Z with
      |none=>rw[dk] at ht;exact ht.elim
      |some p=>rw[dk] at ht;exact ih _ _ _ _ _ _ hr mq ht
    .grind
 exact mono ops env _ _ _ _ _ h (λe s hs=>⟨e,s,.refl _ _ _,hs⟩) this
theorem ZK {op:VOp}{ev:Operand->Value}{u:Value}{Z Z':Heap}(h:Q6 op ev Z=some (u,Z')):JC op ev u Z:=by unfold JC;rw[h];rfl
theorem Z6 (s:St) (d:Option Nat) (v:SV):(s.put d v).own=s.own:=by cases d<;>rfl
theorem Yk {s s':St}{j:Nat}{want:Bool}{gs:List Gd}(h:Dj s j want=some (gs,s')):s'.own=s.own:=by
 unfold Dj at h
 grind
theorem KI {C:Cx}{B F:Heap}{pl:Nat->Value}{tb:Nat->Option Bool}{s:St}{env:Env}{U:Heap}(hG:Gam P B F pl tb s env U) {o:DOper}{K:St->Prop}(h:gd1 C o s K) :
  ∃ b,ZY env o.guard=some b/\(b=true->∃ u s' tb',Q6 o.op (Q5 env) U=some (u,U)/\K s'/\s'.own=s.own/\Gam P B F pl tb' s' (JK env o.dst u) U)/\(b=false->∃ s' tb',K s'/\s'.own=s.own/\Gam P B F pl tb' s' (JK env o.dst undef) U):=by
 unfold gd1 at h;split at h
 .rename_i hg;rw[hg];refine⟨true,rfl,λ_=>?_,λe=>by cases e⟩;split at h
  .rename_i c a b bp;split at h
   .rename_i v hv;obtain⟨u,h1,h2⟩:=Vl hG Gds.nil hv;exact⟨u,_,tb,by rw[bp];exact h1,Zf h,Z6 _ _ _,hG.put o.dst h2⟩
   .exact h.elim
  .split at h
   .rename_i cs v cZ;obtain⟨h1,h2⟩:=Zk h;obtain⟨u,h3,h4⟩:=S5 (hG.evs (Gds.nil (tb:=tb))) (λ_=>rfl) hG.leB hG.obj cZ (h2 λg hg=>by cases hg);exact⟨u,_,tb,h3,Zf h1,Z6 _ _ _,hG.put o.dst h4⟩
   .exact h.elim
 .rename_i j want hg;rw[hg];split at h
  .exact h.elim
  .rename_i gs s' dq;obtain⟨tb',aY,cY,b,hw,bz,bF⟩:=Xt hG dq;refine⟨b,hw,λe=>?_,λe=>?_⟩
   .have fX:Gds tb' gs:=λg hg=>⟨bz e g hg,cY g hg⟩;have fin:∀ {v u},SR P B pl tb' v u->SR P B pl tb' (.grd gs (G7 v)) u:=λ{v u} hs=>by
     simp only[SR]
     grind [BA]
    split at h
    .rename_i c a b' bp;split at h
     .rename_i v hv;obtain⟨u,h1,h2⟩:=Vl aY fX hv;exact⟨u,_,tb',by rw[bp];exact h1,Zf h,(Z6 _ _ _).trans (Yk dq),aY.put o.dst (fin h2)⟩
     .exact h.elim
    .split at h
     .rename_i cs v cZ;obtain⟨h1,h2⟩:=Zk h;obtain⟨u,h3,h4⟩:=S5 (aY.evs fX) (λ_=>rfl) aY.leB aY.obj cZ (h2 (bz e));exact⟨u,_,tb',h3,Zf h1,(Z6 _ _ _).trans (Yk dq),aY.put o.dst (fin h4)⟩
     .exact h.elim
   .have fin:∀ v,SR P B pl tb' (.grd gs (G7 v)) undef:=λv=>by
     simp only[SR];obtain⟨g,hg,aJ⟩:=bF e;exact⟨⟨cY,BD v⟩,λhall=>absurd (hall g hg) aJ,λ_=>trivial⟩
    split at h
    .split at h
     .exact⟨_,tb',Zf h,(Z6 _ _ _).trans (Yk dq),aY.put o.dst (fin _)⟩
     .exact h.elim
    .split at h
     .exact⟨_,tb',Zf (Zk h).1,(Z6 _ _ _).trans (Yk dq),aY.put o.dst (fin _)⟩
     .exact h.elim
theorem A0 {bs:List OB}{q:Prop}(h:It bs q):(∀ b∈bs,b.wf)/\q:=by
 induction bs with
 |nil=>exact⟨(λb hb=>by cases hb),h⟩
 |cons b r ih =>obtain⟨h1,h2⟩:=h;obtain⟨h3,h4⟩:=ih h2;exact(by simp_all)
mutual
theorem Af {d nt:Nat}:∀ (v:SV),v.ret 0=true->(v.ren d nt).ret 0=true
 |.val k x,h=>h
 |.nilS,_|.nilP,_|.nilM,_|.nilF,_=>rfl
 |.lst j,h|.box j _,h|.map j,h=>by simp[SV.ret,Nat.blt] at h
 |.agg l,h=>by simp only[SV.ren,SV.ret] at h |-;exact Hd l h
 |.tup l,h=>by simp only[SV.ren,SV.ret] at h |-;exact Hd l h
 |.any,h|.bid _ _,h|.grd _ _,h|.sub _ _ _ _,h|.elp _ _ _ _,h|.rop _ _ _ _,h|.cp _ _,h|.fn _ _ _,h|.pf _ _ _ _,h=>by cases h
theorem Hd {d nt:Nat}:∀ (v:List SV),SVs.ret 0 v=true->SVs.ret 0 (SVs.ren d nt v)=true
 |[],_=>rfl
 |s::ss,h=>by simp only[SVs.ret,SVs.ren,z1] at h |-;exact⟨Af s h.1,Hd ss h.2⟩
end
theorem Xq {C:Cx}(az:COk P C) {B F:Heap}{pl:Nat->Value}{tb:Nat->Option Bool}{s:St}{env:Env}{U:Heap}(hG:Gam P B F pl tb s env U) {d:Nat}{f:SV}{args:List SV}{K:List Nat->SV->St->Prop}(h:NP C d f args s K) {fV:Value}{vs:List Value}
  (hf:SR P U Xl Jp f fV) (ha:SRs P U Xl Jp args vs):∃ g a b u U' ts v s' pl',fV=.func (.func g) a b/\(VCalled P g (a.toList++vs++b.toList) U λu' aH=>u'=u/\aH=U')/\K ts v s'/\Gam P B F pl' tb s' env U'/\SR P B pl' tb v u/\(ts=[]->U'=U/\pl'=pl/\s'=s)/\U.Le U'/\Dead U U'/\FrL ts s s' pl pl' U U':=by
 unfold NP at h;split at h
 .rename_i c v bs heq;cases hb:(v.ret bs.length&&(bs.all OB.ret&&(Nat.blt 0 C.nt&&(bs.all OB.isL&&Kx v)))) with
  |false=>rw[hb] at h;exact h.elim
  |true =>
   rw[hb] at h;obtain⟨h1,h2⟩:=h;obtain⟨h3,h4⟩:=A0 h2;simp only[z1] at hb;obtain⟨hv,rM,dK,hl,cK⟩:=hb;obtain⟨g,a,b,e,_,hx⟩:=ZM az.cs hf ha heq hv rM h1;have cX:=SG (P:=P) U hv cK rM hl (λb hb=>by have:=h3 b hb;cases b<;>exact this);by_cases bM:bs=[]
   .subst bM;obtain⟨k1,k2⟩:=cX.flat hv;refine⟨g,a,b,_,_,_,_,_,pl,e,hx hl cK,h4,?_,?_,λ_=>⟨k1,rfl,rfl⟩,cX.1.1,cX.1.2,λq _=>⟨rfl,rfl,λ_ _ _=>by rw[k1]⟩⟩
    .rw[k1];exact hG
    .exact SR.retd (B:=hNil) (pl:=pl) (tb:=Jp) (n:=0) (λj hj=>by omega) _ _ (Af v hv) (by grind [SR.ren])
   .obtain⟨pl',h5,h6,h7⟩:=cX.gamF (nt:=C.nt) (d:=d) (by simpa [zC] using dK) hG hv rM;refine⟨g,a,b,_,_,_,_,_,pl',e,hx hl cK,h4,h5,h6,(by simp_all),cX.1.1,cX.1.2,λq hq=>h7 q λj hj e=>hq ?_⟩;exact zM.2 ⟨j,x5.2 hj,e.symm⟩
 .exact h.elim
def AI:VOp->Bool
 |.callF ..|.callV ..=>true
 |.ext (.rangeMap _)|.ext (.nextMap _)=>true
 |_=>false
theorem Q5a {C:Cx}{B F:Heap}{pl:Nat->Value}{tb:Nat->Option Bool}{s:St}{env:Env}{U:Heap}(hG:Gam P B F pl tb s env U) {d:Nat}{o:VOp}{K:SV->St->Prop}(h:gn C d o (gev [] s.env) s K) (hc:AI o=false) :
  NOk P B F tb o (Q5 env) env U K (QO d o (gev [] s.env)) s pl:=by
 have ai:=hG.evs (Gds.nil (tb:=tb));cases o
 case alloc t z=>exact Im ai hG h
 case box t x=>exact Q3n ai hG h
 case buildSlice e z n ps=>exact UP ai hG h
 case makeSlice e b z l c=>exact Pq ai hG h
 case append e b x y=>exact Av ai hG h
 case store size a x=>exact O5 ai hG h
 case callF=>cases hc
 case callV=>cases hc
 case ext x =>
  cases x
  case mapUpdate mk m k v=>exact Hi ai hG h
  case delete mk m k=>exact False.elim h
  case mapEntry mk z m k=>exact False.elim h
  case entryStore m s v=>exact False.elim h
  case copy size a b=>exact Q1u ai hG h
  case unsafeStr e a n=>exact H4 ai hG h
  case strBytes e a=>exact False.elim h
  case rangeMap=>cases hc
  case nextMap=>cases hc
  all_goals exact h.elim
 all_goals exact h.elim
theorem Rk {o:VOp}{ev:Operand->Value}{U U':Heap}{u:Value}(hm:H7 o=true) (h:Q6 o ev U=some (u,U')):U.Le U':=by
 have push:∀ b:Blk,U.Le (U.push b):=λb=>(Heap.Le.refl U).push b;cases o<;>first|(cases hm;done)|skip
 case alloc t z=>obtain⟨rfl,rfl⟩:=QZ h;exact push _
 case box t x =>
  simp only[Q6] at h
  grind
 case buildSlice e z n ps =>
  simp only[Q6] at h
  grind
 case makeSlice e b z l c =>
  simp only[Q6] at h
  grind
def stM:MK:=.agg [.int .i64,.int .i64]
def Q5r:Option JH->Value
 |some e=>e.2.1
 |none=>.int .i64 0
def LkE (es bP:List JH):Prop:=(es.all (λe=>ZZ stM e.1)=true->bP.all (λe=>ZZ stM e.1)=true)/\(es.all (λe=>ZZ stM e.1)=true->∀ k,ZZ stM k=true->Q5r (QK k bP)=Q5r (QK k es))
theorem LkE.trans {a b c:List JH}(h:LkE a b) (h':LkE b c):LkE a c:=⟨λk=>h'.1 (h.1 k),λk x hx=>(h'.2 (h.1 k) x hx).trans (h.2 k x hx)⟩
theorem O1 {mk:MK}{z:Value}(h:stP mk z=true):mk=stM/\z=.int .i64 0:=by
 unfold stP at h;split at h
 .exact⟨rfl,by rw[eq_of_beq h]⟩
 .cases h
def EJ (U:Heap) (own:Own) (pl:Nat->Value) (Q:Heap->Prop):Option Nat->Prop
 |none=>∀ Z,U.Le Z->Q Z
 |some q=>(Qg own (q / 2)).live=true/\∃ i b,Oid (pl (q / 2)) i/\U.get i=some b/\(∀ Z,Z.get i=some b->Q Z)/\(q % 2=1->∃ es c wr,b=.obj (.map es c) wr/\∀ Z bP c',LkE es bP->Z.get i=some (.obj (.map bP c') wr)->Q Z)
structure DSt (hs:List Heap) (U:Heap) (pend:List (Nat×(Heap->Prop))) (hl chg:Nat) (A R:List (Nat×Option Nat)) (own:Own) (pl:Nat->Value):Prop where
 len:hs.length=hl
 same:∀ j Z,chg<=j->hs[j]?=some Z->Z=U
 pend:∀ c∈pend,c.1<hl\/∃ r∈R,c.1<=r.1/\EJ U own pl c.2 r.2
 fr:∀ j Z q i,hs[j]?=some Z->Za A j q=true->(Qg own q).live=true->Oid (pl q) i->Z.get i=U.get i
theorem Yf {r:Nat}{U:Heap}:∀ {l:List (Nat×(Heap->Prop))},(∀ c∈l,r<=c.1->c.2 U)->Jz r U l
 |[],_=>trivial
 |c::l,h=>⟨h c (by simp),Yf λc' cS=>h c' (by simp[cS])⟩
theorem JI {hs:List Heap}{U' Z:Heap}{j:Nat}(h:(hs++[U'])[j]?=some Z):(j<hs.length/\hs[j]?=some Z)\/(j=hs.length/\Z=U'):=by
 grind
theorem T7 {a:Nat×Option Nat}{A:List (Nat×Option Nat)}{j q:Nat}(h:Za (a::A) j q=true) (hj:j<=a.1):(∃ t,a.2=some t/\t≠q)/\Za A j q=true:=by
 simp only[Za,zR,z1,zw,zC] at h;refine⟨?_,h.2⟩;rcases h.1 with h|h
 .omega
 .split at h
  .rename_i t ht;exact⟨t,ht,λe=>by subst e;simp at h⟩
  .cases h
theorem DSt.stay {hs:List Heap}{U:Heap}{pend:List (Nat×(Heap->Prop))}{hl chg:Nat}{A R:List (Nat×Option Nat)}{own:Own}{pl:Nat->Value}(h:DSt hs U pend hl chg A R own pl) :
  Jz hs.length U pend/\DSt (hs++[U]) U pend (hl+1) chg A R own pl:=by
 have hr:∀ c∈pend,∀ r∈R,EJ U own pl c.2 r.2->c.2 U:=λc _ r _ aj=>by
  unfold EJ at aj;split at aj
  .exact aj U (.refl _)
  grind
 refine⟨Yf λc hc hle=>?_,⟨by simp[h.len],λj Z hj ht=>?_,λc hc=>?_,λj Z q i ht hu hl hi=>?_⟩⟩
 .rcases h.pend c hc with h1|⟨r,h1,_,h2⟩
  .rw[h.len] at hle;omega
  .exact hr c hc r h1 h2
 .rcases JI ht with⟨_,h1⟩|⟨_,h1⟩
  .exact h.same j Z hj h1
  .exact h1
 .rcases h.pend c hc with h1|h1
  .exact .inl (by omega)
  .exact .inr h1
 .rcases JI ht with⟨_,h1⟩|⟨_,rfl⟩
  .exact h.fr j Z q i h1 hu hl hi
  .rfl
theorem DSt.write {hs:List Heap}{U U':Heap}{pend:List (Nat×(Heap->Prop))}{hl chg:Nat}{A R:List (Nat×Option Nat)}{s s':St}{pl pl':Nat->Value}(h:DSt hs U pend hl chg A R s.own pl) {T:Nat}(hf:Fr T s s' pl pl' U U') {mk ext:Bool}(hm:mk=true->U.Le U')
  (hE:ext=true->(Qg s'.own T).live=true/\pl' T=pl T/\∃ i es c bP c',pl T=.map (some i)/\U.get i=some (.obj (.map es c) true)/\U'.get i=some (.obj (.map bP c') true)/\LkE es bP)
  (hc:((mk&&LM R hl T)||TA R hl T||(ext&&Q3a R hl T))=true) (a8:0<hl):Jz hs.length U' pend/\DSt (hs++[U']) U' pend (hl+1) hl ((hl-1,some T)::A) R s'.own pl':=by
 have hr:∀ Q:Heap->Prop,∀ r∈R,hl<=r.1->EJ U s.own pl Q r.2->EJ U' s'.own pl' Q r.2:=λQ r ln aZ aj=>by
  have hq:∀ q,r.2=some q->q / 2=T->q % 2=1/\ext=true:=λq hq e=>by
   subst e;simp only[zw,z1,LM,TA,Q3a] at hc;rcases hc with (⟨_,hc⟩|hc)|⟨he,hc⟩
   .have:=zf.1 hc r ln;rw[hq] at this;simp only[zw,zC,Nat.beq_refl,xO,zq,or_false] at this;omega
   .have:=zf.1 hc r ln;rw[hq] at this;simp only[zw,zC,Nat.beq_refl,xO,zq,or_false] at this;omega
   .have:=zf.1 hc r ln;rw[hq] at this;simp only[zw,zC,Nat.beq_refl,xO,zq,false_or] at this
    grind [Nat.eq_of_beq_eq_true]
  cases e:r.2 with
  |none =>
   rw[e] at aj;have dH:mk=true:=by
    simp only[zw,z1,TA,Q3a] at hc;rcases hc with (⟨hc,_⟩|hc)|⟨_,hc⟩
    .exact hc
    .have:=zf.1 hc r ln;rw[e] at this;simp only[zw,zC,zq,or_false] at this;omega
    .have:=zf.1 hc r ln;rw[e] at this;simp only[zw,zC,zq,or_false] at this;omega
   exactλZ ht=>aj Z ((hm dH).trans ht)
  |some q =>
   rw[e] at aj;obtain⟨k1,i,b,k2,k3,k4⟩:=aj;by_cases ob:q / 2=T
   .obtain⟨ho,he⟩:=hq q e ob;obtain⟨g1,g2,i',es,c,bP,c',g3,g4,g5,g6⟩:=hE he;obtain⟨k5,k6⟩:=k4;obtain⟨wJ,c0,wr,rfl,k7⟩:=k6 ho;rw[ob] at k1 k2;have hi:i=i':=I2 (by rw[g3];rfl) k2;subst hi;rw[g4] at k3;cases k3;refine⟨by rw[ob];exact g1,i,_,by rw[ob,g2];exact k2,g5,λZ hτ=>k7 Z _ _ g6 hτ,λ_=>⟨_,_,_,rfl,λZ vh wK hl hτ=>k7 Z _ _ (g6.trans hl) hτ⟩⟩
   .obtain⟨f1,f2,f3⟩:=hf (q / 2) ob;exact⟨by rw[f1];exact k1,i,b,by rw[f2];exact k2,by rw[f3 k1 i k2];exact k3,k4⟩
 have now:∀ Q:Heap->Prop,∀ r,EJ U' s'.own pl' Q r->Q U':=λQ r aj=>by
  unfold EJ at aj;split at aj
  .exact aj U' (.refl _)
  grind
 refine⟨Yf λc hc hle=>?_,⟨by simp[h.len],λj Z hj ht=>?_,λc hc=>?_,λj Z q i ht hu cn hi=>?_⟩⟩
 .rw[h.len] at hle;rcases h.pend c hc with h1|⟨r,h1,h2,h3⟩
  .omega
  grind
 .rcases JI ht with⟨h1,_⟩|⟨_,h1⟩
  .rw[h.len] at h1;omega
  .exact h1
 .rcases h.pend c hc with h1|⟨r,h1,h2,h3⟩
  .exact .inl (by omega)
  grind
 .rcases JI ht with⟨h1,h2⟩|⟨_,rfl⟩
  .rw[h.len] at h1;obtain⟨⟨t,ht,vi⟩,dz⟩:=T7 hu (by simp only;omega);obtain rfl:=osj ht;obtain⟨f1,f2,f3⟩:=hf q (Ne.symm vi);rw[f1] at cn;rw[f2] at hi;rw[f3 cn i hi];exact h.fr j Z q i h2 dz cn hi
  .rfl
theorem Gu {ts:List Nat}{hl j q:Nat}{A:List (Nat×Option Nat)}(h:Za (ts.map (λt=>(hl,some t))++A) j q=true) (hj:j<=hl):q∉ts/\Za A j q=true:=by simp only[Za,List.all_append,z1] at h |-;refine⟨λhm=>?_,h.2⟩;have:=zf.1 h.1 (hl,some q) (zM.2 ⟨q,hm,rfl⟩);simp only[zw,zC,Nat.beq_refl,xO,zq,or_false] at this;omega
theorem DSt.call {hs:List Heap}{U U':Heap}{pend:List (Nat×(Heap->Prop))}{hl chg:Nat}{A R:List (Nat×Option Nat)}{s s':St}{pl pl':Nat->Value}(h:DSt hs U pend hl chg A R s.own pl) (hle:U.Le U') {Ts:List Nat}(hf:FrL Ts s s' pl pl' U U') (a8:0<hl) :
  Jz hs.length U' pend/\DSt (hs++[U']) U' pend (hl+1) hl (Ts.map (λt=>(hl-1,some t))++A) (R.map λr=>(r.1,none)) s'.own pl':=by
 have hr:∀ Q r,EJ U s.own pl Q r->∀ Z,U'.Le Z->Q Z:=λQ r aj Z ht=>by
  unfold EJ at aj;split at aj
  .exact aj Z (hle.trans ht)
  .obtain⟨_,i,b,_,h2,h3,_⟩:=aj;exact h3 Z (ht.2 _ _ (hle.2 _ _ h2))
 refine⟨Yf λc hc hle=>?_,⟨by simp[h.len],λj Z hj ht=>?_,λc hc=>?_,λj Z q i ht hu cn hi=>?_⟩⟩
 .rcases h.pend c hc with h1|⟨r,h1,_,h2⟩
  .rw[h.len] at hle;omega
  .exact hr _ _ h2 _ (.refl _)
 .rcases JI ht with⟨h1,_⟩|⟨_,h1⟩
  .rw[h.len] at h1;omega
  .exact h1
 .rcases h.pend c hc with h1|⟨r,h1,h2,h3⟩
  .exact .inl (by omega)
  .exact .inr ⟨(r.1,none),zM.2 ⟨r,h1,rfl⟩,h2,hr _ _ h3⟩
 .rcases JI ht with⟨h1,h2⟩|⟨_,rfl⟩
  .rw[h.len] at h1;obtain⟨hq,dz⟩:=Gu hu (by omega);obtain⟨f1,f2,f3⟩:=hf q hq;rw[f1] at cn;rw[f2] at hi;rw[f3 cn i hi];exact h.fr j Z q i h2 dz cn hi
  .rfl
theorem DSt.writeD {hs:List Heap}{U U':Heap}{pend:List (Nat×(Heap->Prop))}{hl chg:Nat}{A R:List (Nat×Option Nat)}{s s':St}{pl pl':Nat->Value}(h:DSt hs U pend hl chg A R s.own pl) {Ts:List Nat}(hf:FrL Ts s s' pl pl' U U') {mk:Bool}(hm:mk=true->U.Le U')
  (hc:Et mk R hl Ts=true) (a8:0<hl):Jz hs.length U' pend/\DSt (hs++[U']) U' pend (hl+1) hl (Ts.map (λt=>(hl-1,some t))++A) R s'.own pl':=by
 have hr:∀ Q:Heap->Prop,∀ r∈R,hl<=r.1->EJ U s.own pl Q r.2->EJ U' s'.own pl' Q r.2:=λQ r ln aZ aj=>by
  have lq:=zf.1 hc r ln;have lq:(match r.2 with|some q=>Ts.all (λt=>!(Nat.beq (q / 2) t))|none=>mk)=true:=by rw[zw,zC] at lq;exact lq.resolve_left (by omega)
  cases e:r.2 with
  |none =>rw[e] at aj lq;exactλZ ht=>aj Z ((hm lq).trans ht)
  |some q =>
   rw[e] at aj lq;obtain⟨k1,i,b,k2,k3,k4⟩:=aj;obtain⟨f1,f2,f3⟩:=hf (q / 2) λhq=>by have:=zf.1 lq (q / 2) hq;simp at this
   exact⟨by rw[f1];exact k1,i,b,by rw[f2];exact k2,by rw[f3 k1 i k2];exact k3,k4⟩
 have now:∀ Q:Heap->Prop,∀ r,EJ U' s'.own pl' Q r->Q U':=λQ r aj=>by
  unfold EJ at aj;split at aj
  .exact aj U' (.refl _)
  grind
 refine⟨Yf λc hc hle=>?_,⟨by simp[h.len],λj Z hj ht=>?_,λc hc=>?_,λj Z q i ht hu cn hi=>?_⟩⟩
 .rw[h.len] at hle;rcases h.pend c hc with h1|⟨r,h1,h2,h3⟩
  .omega
  grind
 .rcases JI ht with⟨h1,_⟩|⟨_,h1⟩
  .rw[h.len] at h1;omega
  .exact h1
 .rcases h.pend c hc with h1|⟨r,h1,h2,h3⟩
  .exact .inl (by omega)
  grind
 .rcases JI ht with⟨h1,h2⟩|⟨_,rfl⟩
  .rw[h.len] at h1;obtain⟨hq,dz⟩:=Gu hu (by omega);obtain⟨f1,f2,f3⟩:=hf q hq;rw[f1] at cn;rw[f2] at hi;rw[f3 cn i hi];exact h.fr j Z q i h2 dz cn hi
  .rfl
theorem Ta {hl d j q:Nat}{A:List (Nat×Option Nat)}(h:Za ((hl,none)::A) j q=true):Za ([d].map (λt=>(hl,some t))++A) j q=true:=by simp only[Za,zR,z1,zw,zq,or_false,zW,List.map_nil,xw,xq] at h |-;exact⟨.inl h.1,h.2⟩
theorem DSt.frozen {hs:List Heap}{U:Heap}{pend:List (Nat×(Heap->Prop))}{hl chg m d:Nat}{A R:List (Nat×Option Nat)}{own:Own}{pl:Nat->Value}(h:DSt hs U pend hl chg ([d].map (λt=>(m,some t))++A) R own pl):DSt hs U pend hl chg ((m,none)::A) R own pl :=
 ⟨h.len,h.same,h.pend,λj Z q i ht hu=>h.fr j Z q i ht (Ta hu)⟩
theorem BH {ts:List Nat}{m j:Nat}{A:List (Nat×Option Nat)}(h:Gl (ts.map (λt=>(m,some t))++A) j=true):Gl A j=true:=by simp only[Gl,List.all_append,z1] at h;exact h.2
theorem HC {a:Nat×Option Nat}{j:Nat}{A:List (Nat×Option Nat)}(h:Gl (a::A) j=true):Gl A j=true:=by simp only[Gl,zR,z1] at h;exact h.2
theorem TG {C:Cx}{f:SV}{args:List SV}{cs:List Prop}{v:SV}(h:O9 C f args=some (cs,v)):∃ c ty k xs nl,Kq C.cs f args=some (c,.lst 0,[.lst ty k xs nl])/\cs=[c,nl=true->xs=[]]/\v=.val (.list k) xs/\k.flat=true/\0<C.nt:=by
 unfold O9 at h;split at h
 .rename_i heq;split at h
  .rename_i k xs nl;cases hc:(k.flat&&Nat.blt 0 C.nt) with
   |false=>rw[hc] at h;cases h
   |true =>rw[hc] at h;obtain⟨rfl,rfl⟩:=QZ h;simp only[z1,zC] at hc;exact(by grind)
  .cases h
 .cases h
theorem Sg {b:OB}(h:b.here=true):b.live=true:=by cases b<;>first|rfl|cases h
theorem Yb {B F:Heap}{pl:Nat->Value}{tb:Nat->Option Bool}{s:St}{env:Env}{U:Heap}(hG:Gam P B F pl tb s env U) {o:VOp}{q:Nat}(h:UB o (gev [] s.env) s.own=some q) {u:Value}{σ2:Heap}(hv:Q6 o (Q5 env) U=some (u,σ2)) :
  (Qg s.own (q / 2)).live=true/\∃ i b,Oid (pl (q / 2)) i/\U.get i=some b/\(∀ Z,Z.get i=some b->Q6 o (Q5 env) Z=some (u,Z))/\(q % 2=1->∃ es c wr,b=.obj (.map es c) wr/\∀ Z bP c',LkE es bP->Z.get i=some (.obj (.map bP c') wr)->Q6 o (Q5 env) Z=some (u,Z)):=by
 have two:∀ q,2*q / 2=q:=λq=>by omega
 have oc:∀ q,(2*q+1) / 2=q:=λq=>by omega
 have odd:∀ {q} {X:Prop},2*q % 2=1->X:=λ{q X} h=>by omega
 unfold UB at h;split at h
 .rename_i agg size a;have ha:=hG.evs (Gds.nil (tb:=tb)) a;have key:∀ q i off,(Qg s.own q).live=true->Oid (pl q) i->Q5 env a=.pointer (some ⟨i,off,none⟩)->(Qg s.own q).live=true/\∃ i b,Oid (pl q) i/\U.get i=some b/\∀ Z,Z.get i=some b->Q6 (.load agg size a) (Q5 env) Z=some (u,Z):=λq i off hl hi he=>by
   simp only[Q6,he] at hv;cases hb:U.get i with
   |none=>rw[hb] at hv;cases hv
   |some b =>
    refine⟨hl,i,b,hi,hb,λZ ht=>?_⟩;rw[hb] at hv;simp only[Q6,he,ht];cases b with
    |obj o wr=>cases hv
    |cells c e wr t =>
     simp only at hv |-;split at hv
     .obtain⟨rfl,rfl⟩:=QZ hv;rfl
     .cases hv
  split at h
  .rename_i q' off hx;rw[hx] at ha;simp only[SR] at ha;obtain⟨b,h1,h2⟩:=ha;cases hh:(Qg s.own q').here with
   |false=>rw[hh] at h;cases h
   |true =>rw[hh] at h;obtain rfl:=osj h;obtain⟨x1,y1,y2,y3,y4,y5⟩:=key q' b off (Sg hh) (by rw[h1];rfl) h2;exact⟨by rw[two];exact x1,y1,y2,by rw[two];exact y3,y4,y5,odd⟩
  .rename_i q' i off sz hx;rw[hx] at ha;simp only[SR] at ha;obtain⟨b,len,cap,h1,h2,h3,h4⟩:=ha;cases hh:(Qg s.own q').here with
   |false=>rw[hh] at h;cases h
   |true =>rw[hh] at h;obtain rfl:=osj h;obtain⟨x1,y1,y2,y3,y4,y5⟩:=key q' b _ (Sg hh) (by rw[h1];rfl) h4;exact⟨by rw[two];exact x1,y1,y2,by rw[two];exact y3,y4,y5,odd⟩
  .cases h
 .rename_i mk z x y;cases bB:stP mk z with
  |false=>rw[bB] at h;cases h
  |true =>
   rw[bB] at h;simp only[zm] at h;obtain⟨rfl,rfl⟩:=O1 bB;split at h
   .rename_i q' hx;split at h
    .rename_i kk vk l ho;obtain rfl:=osj h;have ha:=hG.evs (Gds.nil (tb:=tb)) x;rw[hx] at ha;simp only[SR] at ha;have ak:=hG.obj q';rw[ho] at ak;obtain⟨id,es,c,h2,h3,_⟩:=ak;have aG:∀ (Z:Heap) bP c' wr,Z.get id=some (.obj (.map bP c') wr)->Z.mapAt id=some (bP,c',wr):=λZ bP c' wr hτ=>by simp[Heap.mapAt,hτ]
     simp only[Q6,Zd,ha.1,h2,aG _ _ _ _ h3] at hv;refine⟨by rw[oc,ho];rfl,id,_,by rw[oc,h2];rfl,h3,λZ hτ=>?_,λ_=>⟨es,c,true,rfl,λZ bP c' hl hτ=>?_⟩⟩
     .simp only[Q6,Zd,ha.1,h2,aG _ _ _ _ hτ]
      grind
     .simp only[Q6,Zd,ha.1,h2,aG _ _ _ _ hτ];split at hv
      .rename_i iN;split at hv
       .rename_i iO;rw[z7 iN,z7 (hl.1 iO)];have bX:=hl.2 iO _ iN;cases he:QK (Q5 env y) es with
        |some e =>
         rw[he] at hv bX;obtain⟨rfl,rfl⟩:=QZ hv;cases hm:QK (Q5 env y) bP with
         |some e'=>rw[hm] at bX;simp only[Q5r] at bX;simp[bX]
         |none=>rw[hm] at bX;simp only[Q5r] at bX;simp[<-bX]
        |none =>
         rw[he] at hv bX;obtain⟨rfl,rfl⟩:=QZ hv;cases hm:QK (Q5 env y) bP with
         |some e'=>rw[hm] at bX;simp only[Q5r] at bX;simp[bX]
         |none=>rfl
       .cases hv
      .cases hv
    .cases h
   .cases h
 .rename_i sz x lo hi;split at h
  .rename_i q' hx;split at h
   .rename_i ty k xs nl ho;cases nl with
    |true=>cases h
    |false =>
     obtain rfl:=osj h;have ha:=hG.evs (Gds.nil (tb:=tb)) x;rw[hx] at ha;simp only[SR] at ha;have ak:=hG.obj q';rw[ho] at ak;rcases ak with⟨h0,_⟩|⟨_,i,cap,c,t,h3,h4,h5,h6,h7⟩
     .cases h0
     .refine⟨by rw[two,ho];rfl,i,_,by rw[two,h3];rfl,h5,λZ hτ=>?_,odd⟩;simp only[Q6,ha.1,h3] at hv |-;cases e1:ZX (Q5 env) lo 0 with
      |none=>rw[e1] at hv;cases hv
      |some a =>
       cases e2:ZX (Q5 env) hi xs.length with
       |none=>rw[e1,e2] at hv;cases hv
       |some b =>
        rw[e1,e2] at hv;simp only[W5,h5] at hv;simp only[W5,hτ];split at hv
        .simp_all
        .cases hv
   .cases h
  .cases h
 .cases h
theorem U_ {r:Nat}{U:Heap}:∀ {l:List (Nat×(Heap->Prop))},Jz r U l->∀ {c},c∈l->r<=c.1->c.2 U
 |c::l,h,c',hc,hr=>by
  rcases zG.1 hc with rfl|hc
  .exact h.1 hr
  .exact U_ h.2 hc hr
theorem N4 {B F:Heap}{pl:Nat->Value}{tb:Nat->Option Bool}{s:St}{env:Env}{U:Heap}(hG:Gam P B F pl tb s env U) {gs:List Gd}(hg:Gds tb gs) {o:VOp}(h:Q35 o (gev gs s.env)=true) {u:Value}{σ2:Heap}(hv:Q6 o (Q5 env) U=some (u,σ2)) :
  ∀ Z,B.Le Z->Q6 o (Q5 env) Z=some (u,Z):=by
 unfold Q35 at h;split at h
 .rename_i agg size a;have ha:=hG.evs hg a;have key:∀ i off,(∃ b,B.get i=some b)->Q5 env a=.pointer (some ⟨i,off,none⟩)->∀ Z,B.Le Z->Q6 (.load agg size a) (Q5 env) Z=some (u,Z):=λi off ⟨b,hb⟩ he Z hτ=>by
   simp only[Q6,he,hG.leB.2 _ _ hb] at hv;simp only[Q6,he,hτ.2 _ _ hb]
   grind
  split at h
  .rename_i k l i off hx;rw[hx] at ha;simp only[SR] at ha
   grind
  .rename_i l off hx;rw[hx] at ha;simp only[SR] at ha
   grind
  .cases h
 .cases h
theorem II {C:Cx}{B F:Heap}{pl:Nat->Value}{tb:Nat->Option Bool}{s:St}{env:Env}{U:Heap}(hG:Gam P B F pl tb s env U) {d:Nat}{o:VOp}{K:SV->St->Prop}(h:gn C d o (gev [] s.env) s K) (hc:AI o=false) :
  ∃ u U' pl' v s',Q6 o (Q5 env) U=some (u,U')/\K v s'/\(Gam P B F pl' tb s' env U'/\Fr (QO d o (gev [] s.env)) s s' pl pl' U U')/\SR P B pl' tb v u /\
  (Tj o=true->(Qg s'.own (QO d o (gev [] s.env))).live=true/\pl' (QO d o (gev [] s.env))=pl (QO d o (gev [] s.env))/\∃ i es c bP c',pl (QO d o (gev [] s.env))=.map (some i)/\U.get i=some (.obj (.map es c) true)/\U'.get i=some (.obj (.map bP c') true)/\LkE es bP):=by
 cases he:Tj o with
 |false =>obtain⟨u,U',pl',v,s',h1,h2,h3,h4⟩:=Q5a hG h hc;exact(by grind)
 |true =>
  unfold Tj at he;split at he
  .rename_i mk z m kx;obtain⟨rfl,rfl⟩:=O1 he;exact False.elim h
  .cases he
def J7 (S:VSpecs):List DOper->Env->List Heap->Heap->List (Nat×(Heap->Prop))->(Env->Heap->Prop)->Prop
 |[],env,_,U,_,K=>K env U
 |o::rest,env,hs,U,pend,K=>Q_ (ZY env o.guard) λb =>
   vif b (if o.kind=2 then GD (λR=>vop S o.op env U R) λv U'=>Jz hs.length U' pend/\J7 S rest (JK env o.dst v) (hs++[U']) U' pend K
     else if o.kind=1 then Q_ (Q6 o.op (Q5 env) U) λp=>(∀ Z∈hs.drop o.kmin,JC o.op (Q5 env) p.1 Z) /\
      J7 S rest (JK env o.dst p.1) hs U (if hs.length<=o.kmax then (o.kmax,JC o.op (Q5 env) p.1)::pend else pend) K
     else Q_ (Q6 o.op (Q5 env) U) λp=>J7 S rest (JK env o.dst p.1) hs U pend K)
    (if o.kind=2 then Jz hs.length U pend/\J7 S rest (JK env o.dst undef) (hs++[U]) U pend K else J7 S rest (JK env o.dst undef) hs U pend K)
theorem P7 {α:Type}{o:Option α}{f g:α->Prop}(h:Q_ o f) (vj:∀ a,f a->g a):Q_ o g:=by
 cases o with
 |none=>exact h.elim
 |some a=>exact vj a h
theorem Wl {S:VSpecs}{K:Env->Heap->Prop}:∀ {ops:List DOper}{env:Env}{hs:List Heap}{U:Heap}{pend:List (Nat×(Heap->Prop))},J7 S ops env hs U pend K->Zr S ops env hs U pend K
 |[],_,_,_,_,h=>h
 |o::r,env,hs,U,pend,h=>by
  simp only[J7] at h;simp only[Zr];refine P7 h λb h=>⟨λe=>?_,λe=>?_⟩
  .have h:=h.1 e;split at h
   .rename_i hk;rw[z7 hk];obtain⟨v,U',h1,h2,h3⟩:=h;exact .inl ⟨v,U',h1,h2,Wl h3⟩
   .rename_i hk;rw[z6 hk];split at h
    .rename_i bu;rw[z7 bu];exact P7 h λp h=>⟨h.1,Wl h.2⟩
    .rename_i bu;rw[z6 bu];exact P7 h λp h=>Wl h
  .have h:=h.2 e;split at h
   .rename_i hk;rw[z7 hk];exact⟨h.1,Wl h.2⟩
   .rename_i hk;rw[z6 hk];exact Wl h
theorem Ql {C:Cx}(az:COk P C) (aW:C.xs=[]) {B0 F0 D0:Heap}:∀ (ops:List DOper),(∀ o∈ops,o.kind=o.op.kind)->∀ {s:St}{env:Env}{U:Heap}{B F:Heap}{pl:Nat->Value}{tb:Nat->Option Bool},GBase B0 F0 D0 B F U->Gam P B F pl tb s env U->∀ {hl chg:Nat}{A Rd:List (Nat×Option Nat)}{hs:List Heap}{pend pd:List (Nat×(Heap->Prop))},DSt hs U pd hl chg A Rd s.own pl->(∀ c∈pend,(∀ Z,B.Le Z->c.2 Z)\/c∈pd)->(∀ j Z,hs[j]?=some Z->Gl A j=true->B.Le Z)->chg<=hl->0<hl ->
  ∀ {K:St->Prop},X0 C ops s hl chg A Rd K->∀ {R:Env->Heap->Prop},(∀ s' ae U',K s'->GRel P B0 F0 D0 s' ae U'->R ae U')->J7 (Q3 P) ops env hs U pend R
 |[],_,s,env,U,B,F,pl,tb,hB,hG,_,_,_,_,_,_,_,_,_,_,_,_,K,h,R,hK=>hK s env U h ⟨B,F,pl,tb,hB,hG⟩
 |o0::r,iD,s,env,U,B,F,pl,tb,hB,hG,hl,chg,A,Rd,hs,pend,pd,hD,hp,bM,d_,a8,K,h,R,hK=>by
  have dW:∀ {n:Nat}{Z:Heap},B.Le Z->Jz n Z pd->Jz n Z pend:=λ{n Z} hb hv=>Yf λc hc hn=>(by grind [U_]);have snoc:∀ {Z:Heap}{A':List (Nat×Option Nat)},B.Le Z->(∀ j,Gl A' j=true->Gl A j=true)->∀ j Z',(hs++[Z])[j]?=some Z'->Gl A' j=true->B.Le Z':=(by grind);have bQ:∀ o∈r,o.kind=o.op.kind:=(by simp_all);have lr:=iD o0 zQ;unfold X0 at h;split at h
  .rename_i bB;have hw:=Yz hG bB;simp only[J7];rw[hw];refine⟨λe=>(by cases e),λ_=>?_⟩;have bg:=hG.put o0.dst (show SR P B pl tb .any undef by simp[SR]);by_cases ax:o0.kind=2
   .rw[z7 ax] at h |-;obtain⟨k1,k2⟩:=hD.stay;exact⟨dW hG.leB k1,Ql az aW r bQ hB bg (by rw[Z6];exact k2) hp (snoc hG.leB λ_ h=>h) (by omega) (by omega) h hK⟩
   .rw[z6 ax] at h |-;exact Ql az aW r bQ hB bg (by rw[Z6];exact hD) hp bM d_ a8 h hK
  have bt:(ED s.env o0).kind=(ED s.env o0).op.kind:=by unfold ED;split<;>exact lr
  have eX:J7 (Q3 P) (ED s.env o0::r) env hs U pend R->J7 (Q3 P) (o0::r) env hs U pend R:=λhv=>by
   unfold ED at hv;split at hv
   .rename_i bB;simp only[J7] at hv |-;rw[Yz hG bB];exact hv
   .exact hv
  refine eX ?_;clear eX;generalize ED s.env o0=o at h bt |-
  replace h:=id h
  simp only[J7];by_cases ax:o.kind=2
  .rw[z7 ax] at h
   have fin:∀ {u:Value}{U':Heap}{ts:List Nat}{v:SV}{s':St}{pl':Nat->Value},(∀ R',R' u U'->vop (Q3 P) o.op env U R')->X0 C r (s'.put o.dst v) (hl+1) (bif ts.isEmpty then chg else hl) (ts.map (λt=>(hl-1,some t))++A) (bif ts.isEmpty then Rd else Rd.map λr=>(r.1,none)) K->Gam P B F pl' tb s' env U'->SR P B pl' tb v u->(ts=[]->U'=U/\pl'=pl/\s'=s)->U.Le U'->Dead U U'->FrL ts s s' pl pl' U U' ->
     GD (λR=>vop (Q3 P) o.op env U R) λv U'=>Jz hs.length U' pend/\J7 (Q3 P) r (JK env o.dst v) (hs++[U']) U' pend R:=λ{u U' ts v s' pl'} bp od aY gP he hle hd cR=>by
    cases ts with
    |nil =>obtain⟨rfl,rfl,rfl⟩:=he rfl;obtain⟨k1,k2⟩:=hD.stay;exact⟨u,U',bp _ ⟨rfl,rfl⟩,dW aY.leB k1,Ql az aW r bQ (NQ hB hd) (aY.put o.dst gP) (by rw[Z6];exact k2) hp (snoc aY.leB λ_ h=>h) (by grind) (by omega) od hK⟩
    |cons t ts =>obtain⟨k1,k2⟩:=hD.call hle cR a8;exact⟨u,U',bp _ ⟨rfl,rfl⟩,dW aY.leB k1,Ql az aW r bQ (NQ hB hd) (aY.put o.dst gP) (by rw[Z6];exact k2) hp (snoc aY.leB λ_ h=>BH h) (by simp_all) (by omega) od hK⟩
   split at h
   .rename_i f args bp;split at h
    .rename_i hg;rw[hg];refine⟨λ_=>?_,λe=>by cases e⟩;rw[z7 ax];rw[aW] at h;simp only[QJ] at h;obtain⟨g,a,b,u,U',e,v,s',pl',h1,h2,h3,h4,h5,h6,h7,h8,h9⟩:=Xq az hG h (show SR P U Xl Jp (.fn f [] []) (.func (.func f) #[] #[]) by simp only[SR,SRs];exact⟨[],[],rfl,rfl,rfl⟩) (hG.gcall Gds.nil args);obtain⟨rfl,rfl,rfl⟩:=(by simpa using h1:f=g/\#[]=a/\#[]=b);refine fin (u:=u) (U':=U') (λR' hr=>?_) h3 h4 h5 h6 h7 h8 h9;rw[bp];show VCalled P f (args.map (Q5 env)) U R';have:=h2.mono (R':=R') (by simp_all);simpa using this
    .rename_i j want hg;rw[hg];split at h
     .exact h.elim
     .rename_i gs s1 dq;obtain⟨tb',aY,cY,b,hw,bz,bF⟩:=Xt hG dq;have aV:=Yk dq;rw[hw];split at h
      .rename_i cs v cZ;cases cK:Kx v with
       |false=>rw[cK] at h;exact h.elim
       |true =>
       rw[cK] at h;simp only[zm] at h;obtain⟨h1,h2⟩:=Zk h;obtain⟨k1,k2⟩:=hD.stay;have lh:∀ x,DSt (hs++[U]) U pd (hl+1) chg A Rd (s1.put o.dst x).own pl:=(by grind [Z6]);refine⟨λe=>?_,λe=>?_⟩
       .rw[z7 ax];have fX:Gds tb' gs:=λg hg=>⟨bz e g hg,cY g hg⟩;have lu:∀ {v u},SR P B pl tb' v u->SR P B pl tb' (.grd gs (G7 v)) u:=λ{v u} hs=>by
         simp only[SR]
         grind [BA]
        simp only[gqc] at cZ;split at cZ
        .rename_i c v' heq;cases dx:v'.ret 0 with
         |false=>rw[dx] at cZ;cases cZ
         |true =>
          rw[dx] at cZ;obtain⟨rfl,rfl⟩:=QZ cZ;obtain⟨g,a,b',h3,h4,_⟩:=ZM az.cs (show SR P U Xl Jp (.fn f [] []) (.func (.func f) #[] #[]) by simp only[SR,SRs];exact⟨[],[],rfl,rfl,rfl⟩) (aY.gcall fX args) heq dx rfl (h2 (bz e) _ (by simp));obtain⟨rfl,rfl,rfl⟩:=(by simpa using h3:f=g/\#[]=a/\#[]=b');refine⟨Km Xl v',U,?_,dW hG.leB k1,Ql az aW r bQ hB (aY.put o.dst (lu ?_)) (lh _) hp (snoc hG.leB λ_ h=>h) (by omega) (by omega) (Zf h1) hK⟩
          .rw[bp];show VCalled P f (args.map (Q5 env)) U _;have:=h4.mono (R':=λu U'=>u=Km Xl v'/\U'=U) λu U' hr=>by
            obtain⟨rfl,hu⟩:=hr.flat dx
            grind [V3]
           simpa using this
          .exact SR.retd (λj hj=>by omega) _ _ dx (Ry (P:=P) (pl:=Xl) (m:=0) (λj hj=>by omega) v' dx cK)
        .cases cZ
       .rw[z7 ax];obtain⟨g,dg,aJ⟩:=bF e;exact⟨dW hG.leB k1,Ql az aW r bQ hB (aY.put o.dst (by simp only[SR];exact⟨⟨cY,BD v⟩,λhall=>absurd (hall g dg) aJ,λ_=>trivial⟩)) (lh _) hp (snoc hG.leB λ_ h=>h) (by omega) (by omega) (Zf h1) hK⟩
      .split at h
       .rename_i cs v j8;obtain⟨c,ty,k,xs,nl,heq,rfl,rfl,hk,dK⟩:=TG j8;obtain⟨h1,h2⟩:=Zk h;have frz:∀ {B' U':Heap},B'.Le U'->∀ j Z',(hs++[U'])[j]?=some Z'->Gl ((hl-1,none)::A) j=true->B'.Le Z':=λ{B' U'} hb j Z' hm hn=>by
         rcases JI hm with⟨h1,_⟩|⟨_,rfl⟩
         .simp only[Gl,zR,z1,zw,zC,Option.isSome_none,zq,or_false] at hn;have:=hD.len;omega
         .exact hb
        refine⟨λe=>?_,λe=>?_⟩
        .rw[z7 ax];have fX:Gds tb' gs:=λg hg=>⟨bz e g hg,cY g hg⟩;have iN:=h2 (bz e) c (by simp);have iO:=h2 (bz e) (nl=true->xs=[]) (by simp);have dq:NP C (C.off+o.dst.getD 0) (.fn f [] []) (TN s1.own (args.map (gev gs s1.env))) s1 (λts v' s'=>ts=[C.off+o.dst.getD 0]/\v'=.lst (C.off+o.dst.getD 0)/\s'=s1.make (C.off+o.dst.getD 0) (.lst ty k xs nl)):=by
          unfold NP;rw[heq];dsimp only;have ah:(SV.ret [OB.lst ty k xs nl].length (.lst 0)&&([OB.lst ty k xs nl].all OB.ret&&(Nat.blt 0 C.nt&&([OB.lst ty k xs nl].all OB.isL&&Kx (.lst 0)))))=true:=by
           simp only[SV.ret,zl,zR,List.all_nil,xB,OB.ret,hk,Bool.true_and,OB.isL,Kx];rw[z1]
           grind [Nat.blt_eq]
          rw[ah];simp only[zm,It,OB.wf];refine⟨iN,iO,?_,?_,?_⟩
          .simp[List.range_succ]
          .simp[SV.ren]
          .simp[St.makes]
         obtain⟨g,a,b',u,U',ts,v',s',pl',h3,h4,⟨rfl,rfl,rfl⟩,h5,h6,_,h7,h8,h9⟩:=Xq az aY dq (show SR P U Xl Jp (.fn f [] []) (.func (.func f) #[] #[]) by simp only[SR,SRs];exact⟨[],[],rfl,rfl,rfl⟩) (aY.gcall fX args);obtain⟨rfl,rfl,rfl⟩:=(by simpa using h3:f=g/\#[]=a/\#[]=b');obtain⟨B',F',m1,m2,m3⟩:=RI aY.bf hk h5 h6 h8;have cR:FrL [C.off+o.dst.getD 0] s ((s1.make (C.off+o.dst.getD 0) .dead).put o.dst (.grd gs (.val (.list k) xs))) pl pl' U U':=λq hq=>by
          obtain⟨f1,f2,f3⟩:=h9 q hq
          grind [Z6,KY]
         obtain⟨k1,k2⟩:=hD.call h7 cR a8;refine⟨u,U',?_,dW (m1.b.trans m2.leB) k1,Ql az aW r bQ (hB.trans m1) (m2.put o.dst ?_) k2.frozen (λc hc=>(hp c hc).imp (λh Z hτ=>h Z (m1.b.trans hτ)) id) (frz m2.leB) (by omega) (by omega) h1 hK⟩
         .rw[bp];show VCalled P f (args.map (Q5 env)) U _;simpa using h4
         .simp only[SR];exact⟨⟨cY,trivial⟩,λ_=>m3,(by grind)⟩
        .rw[z7 ax];obtain⟨g,dg,aJ⟩:=bF e;have cR:FrL [C.off+o.dst.getD 0] s ((s1.make (C.off+o.dst.getD 0) .dead).put o.dst (.grd gs (.val (.list k) xs))) pl (Jk pl (C.off+o.dst.getD 0) undef) U U:=λq hq=>by
          have dj:q≠C.off+o.dst.getD 0:=by simpa using hq
          refine⟨?_,by simp[Jk,dj],λ_ _ _=>rfl⟩;rw[Z6,KY _ _ _ dj,aV]
         obtain⟨k1,k2⟩:=hD.call (.refl U) cR a8;refine⟨dW hG.leB k1,Ql az aW r bQ hB ((aY.make (C.off+o.dst.getD 0) .dead undef aY.le (λ_ _ _ _ _=>rfl) trivial (λi hl _=>by cases hl)).put o.dst ?_) k2.frozen hp (frz hG.leB) (by omega) (by omega) h1 hK⟩;simp only[SR];exact⟨⟨cY,trivial⟩,λhall=>absurd (hall g dg) aJ,λ_=>trivial⟩
       .exact h.elim
   .rename_i f args bp;split at h
    .rename_i hg;rw[hg];refine⟨λ_=>?_,λe=>by cases e⟩;rw[z7 ax];obtain⟨g,a,b,u,U',e,v,s',pl',h1,h2,h3,h4,h5,h6,h7,h8,h9⟩:=Xq az hG h (hG.gfun Gds.nil f) (hG.gcall Gds.nil args);refine fin (u:=u) (U':=U') (λR' hr=>?_) h3 h4 h5 h6 h7 h8 h9;rw[bp];exact Ui h1 (h2.mono (R':=R') (by simp_all))
    .exact h.elim
   .exact h.elim
   .exact h.elim
   .rename_i rN qe iE j6;split at h
    .rename_i hg;rw[hg];refine⟨λ_=>?_,λe=>by cases e⟩;rw[z7 ax];have aA:AI o.op=false:=by
      cases ho:o.op<;>first|rfl|(exact absurd ho (rN _ _))|(exact absurd ho (qe _ _))|skip
      case ext x=>cases x<;>first|rfl|(exact absurd ho (iE _))|(exact absurd ho (j6 _))
     cases j7:LH C (o.dst.getD 0) o.op (gev [] s.env) with
     |true =>
      rw[j7] at h;simp only[zm] at h;cases hm:Et (H7 o.op) Rd hl (Ld (C.off+o.dst.getD 0) o.op (gev [] s.env)) with
      |false=>rw[hm] at h;exact h.elim
      |true =>
       rw[hm] at h;simp only[zm] at h;obtain⟨u,U',pl',v,s',h1,h2,⟨h3,gO⟩,h4⟩:=Px (λx=>hG.evs (Gds.nil (tb:=tb)) x) hG h;have fI:∀ R',R' u U'->vop (Q3 P) o.op env U R':=λR' hr=>by
        have:vop (Q3 P) o.op env U R'=Q_ (Q6 o.op (Q5 env) U) λp=>R' p.1 p.2:=by
         cases ho:o.op with
         |callF f a=>rw[ho] at aA;cases aA
         |callV f a=>rw[ho] at aA;cases aA
         |ext x =>
          cases x with
          |nextMap y=>rw[ho] at h1;cases h1
          |_=>rfl
         |_=>rfl
        rw[this,h1];exact hr
       obtain⟨k1,k2⟩:=hD.writeD gO (λdH=>Rk dH h1) hm a8;exact⟨u,U',fI _ ⟨rfl,rfl⟩,dW h3.leB k1,Ql az aW r bQ (NQ hB (YQ h1)) (h3.put o.dst h4) (by rw[Z6];exact k2) hp (snoc h3.leB λ_ h=>BH h) (by omega) (by omega) h2 hK⟩
     |false =>
     rw[j7] at h;simp only[zL] at h;cases hm:((H7 o.op&&LM Rd hl (QO (C.off+o.dst.getD 0) o.op (gev [] s.env)))||TA Rd hl (QO (C.off+o.dst.getD 0) o.op (gev [] s.env))||(Tj o.op&&Q3a Rd hl (QO (C.off+o.dst.getD 0) o.op (gev [] s.env)))) with
     |false=>rw[hm] at h;exact h.elim
     |true =>
      rw[hm] at h;simp only[zm] at h;obtain⟨u,U',pl',v,s',h1,h2,⟨h3,gO⟩,h4,hE⟩:=II hG h aA;have fI:∀ R',R' u U'->vop (Q3 P) o.op env U R':=λR' hr=>by
       have:vop (Q3 P) o.op env U R'=Q_ (Q6 o.op (Q5 env) U) λp=>R' p.1 p.2:=by
        cases ho:o.op with
        |callF f a=>rw[ho] at aA;cases aA
        |callV f a=>rw[ho] at aA;cases aA
        |ext x =>
         cases x with
         |nextMap y=>rw[ho] at h1;cases h1
         |_=>rfl
        |_=>rfl
       rw[this,h1];exact hr
      obtain⟨k1,k2⟩:=hD.write gO (λdH=>Rk dH h1) hE hm a8;exact⟨u,U',fI _ ⟨rfl,rfl⟩,dW h3.leB k1,Ql az aW r bQ (NQ hB (YQ h1)) (h3.put o.dst h4) (by rw[Z6];exact k2) hp (snoc h3.leB λ_ h=>HC h) (by omega) (by omega) h2 hK⟩
    .exact h.elim
  .rw[z6 ax] at h;have lx:o.op.kind≠2:=by rw[<-bt];exact ax
   by_cases bu:o.kind=1
   .rw[z7 bu] at h
    have rd:∀ (rq:Option Nat),(∀ q,rq=some q->UB o.op (gev [] s.env) s.own=some q)->(Nat.ble chg o.kmin||Ho A o.kmin rq)=true->gd1 C o s (λs'=>X0 C r s' hl chg A ((o.kmax,rq)::Rd) K) ->
      Q_ (ZY env o.guard) λb=>vif b (if o.kind=2 then GD (λR=>vop (Q3 P) o.op env U R) λv U'=>Jz hs.length U' pend/\J7 (Q3 P) r (JK env o.dst v) (hs++[U']) U' pend R
       else if o.kind=1 then Q_ (Q6 o.op (Q5 env) U) λp=>(∀ Z∈hs.drop o.kmin,JC o.op (Q5 env) p.1 Z) /\
        J7 (Q3 P) r (JK env o.dst p.1) hs U (if hs.length<=o.kmax then (o.kmax,JC o.op (Q5 env) p.1)::pend else pend) R
       else Q_ (Q6 o.op (Q5 env) U) λp=>J7 (Q3 P) r (JK env o.dst p.1) hs U pend R)
      (if o.kind=2 then Jz hs.length U pend/\J7 (Q3 P) r (JK env o.dst undef) (hs++[U]) U pend R else J7 (Q3 P) r (JK env o.dst undef) hs U pend R):=λrq oe hc h=>by
     obtain⟨b,hw,h1,h2⟩:=KI hG h;rw[hw];have ly:DSt hs U pd hl chg A ((o.kmax,rq)::Rd) s.own pl:=⟨hD.len,hD.same,λc hc=>(hD.pend c hc).imp id (by simp_all),hD.fr⟩;refine⟨λe=>?_,λe=>?_⟩
     .obtain⟨u,s',tb',h3,h4,aV,h5⟩:=h1 e;rw[z6 ax,z7 bu,h3];refine⟨λZ hτ=>?_,?_⟩
      .obtain⟨j,hj⟩:=zY.1 hτ;rw[zV] at hj;rw[zw] at hc;rcases hc with hc|hc
       .have:=hD.same (o.kmin+j) Z (by have:=zA hc;omega) hj;subst this;exact ZK h3
       .unfold Ho at hc;split at hc
        .rename_i q;obtain⟨k1,i,bl,k2,k3,k4,k5⟩:=Yb hG (oe q rfl) h3;have hu:Za A (o.kmin+j) (q / 2)=true:=by
          simp only[Za,zf,zw,zC] at hc |-
          grind
         have:=hD.fr (o.kmin+j) Z (q / 2) i hj hu k1 k2
         grind [ZK]
        .cases hc
      .by_cases hle:hs.length<=o.kmax
       .rw[z7 hle];refine Ql az aW r bQ hB h5 (A:=A) (Rd:=(o.kmax,rq)::Rd) (hl:=hl) (chg:=chg) (pd:=(o.kmax,JC o.op (Q5 env) u)::pd) ?_ (λc hc=>?_) bM d_ a8 h4 hK
        .rw[aV];refine⟨hD.len,hD.same,λc hc=>?_,hD.fr⟩;rcases zG.1 hc with rfl|hc
         .refine .inr ⟨_,zQ,zd _,?_⟩;cases rq with
          |none=>exactλZ hτ=>ZK (HG lx h3 hτ)
          |some q =>obtain⟨k1,i,bl,k2,k3,k4,k5⟩:=Yb hG (oe q rfl) h3;exact⟨k1,i,bl,k2,k3,λZ ht=>ZK (k4 Z ht),(by grind [ZK])⟩
         .exact ly.pend c hc
        grind
       .rw[z6 hle];exact Ql az aW r bQ hB h5 (A:=A) (Rd:=(o.kmax,rq)::Rd) (hl:=hl) (chg:=chg) (pd:=pd) (by rw[aV];exact ly) hp bM d_ a8 h4 hK
     .obtain⟨s',tb',h4,aV,h5⟩:=h2 e;rw[z6 ax];exact Ql az aW r bQ hB h5 (by rw[aV];exact ly) hp bM d_ a8 h4 hK
    have ro:Gl A o.kmin=true->(∀ u,Q6 o.op (Q5 env) U=some (u,U)->(ZY env o.guard=some true)->∀ Z,B.Le Z->Q6 o.op (Q5 env) Z=some (u,Z))->gd1 C o s (λs'=>X0 C r s' hl chg A Rd K) ->
      Q_ (ZY env o.guard) λb=>vif b (if o.kind=2 then GD (λR=>vop (Q3 P) o.op env U R) λv U'=>Jz hs.length U' pend/\J7 (Q3 P) r (JK env o.dst v) (hs++[U']) U' pend R
       else if o.kind=1 then Q_ (Q6 o.op (Q5 env) U) λp=>(∀ Z∈hs.drop o.kmin,JC o.op (Q5 env) p.1 Z) /\
        J7 (Q3 P) r (JK env o.dst p.1) hs U (if hs.length<=o.kmax then (o.kmax,JC o.op (Q5 env) p.1)::pend else pend) R
       else Q_ (Q6 o.op (Q5 env) U) λp=>J7 (Q3 P) r (JK env o.dst p.1) hs U pend R)
      (if o.kind=2 then Jz hs.length U pend/\J7 (Q3 P) r (JK env o.dst undef) (hs++[U]) U pend R else J7 (Q3 P) r (JK env o.dst undef) hs U pend R):=λlz bI h=>by
     obtain⟨b,hw,h1,h2⟩:=KI hG h;rw[hw];refine⟨λe=>?_,λe=>?_⟩
     .obtain⟨u,s',tb',h3,h4,aV,h5⟩:=h1 e;have bI:=bI u h3 (by rw[hw,e]);rw[z6 ax,z7 bu,h3];refine⟨λZ hτ=>?_,?_⟩
      .obtain⟨j,hj⟩:=zY.1 hτ;rw[zV] at hj;refine ZK (bI Z (bM _ Z hj ?_));simp only[Gl,zf,zw,zC] at lz |-
       grind
      refine Ql az aW r bQ hB h5 (A:=A) (Rd:=Rd) (hl:=hl) (chg:=chg) (pd:=pd) (by rw[aV];exact hD) (λc hc=>?_) bM d_ a8 h4 hK;split at hc
      .rcases zG.1 hc with rfl|hc
       .grind [ZK]
       .exact hp c hc
      .exact hp c hc
     .obtain⟨s',tb',h4,aV,h5⟩:=h2 e;rw[z6 ax];exact Ql az aW r bQ hB h5 (by rw[aV];exact hD) hp bM d_ a8 h4 hK
    split at h
    .rename_i hg;cases hr:(Q35 o.op (gev [] s.env)&&Gl A o.kmin) with
     |true =>rw[hr] at h;rw[z1] at hr;exact ro hr.2 (λu hu _=>N4 hG Gds.nil hr.1 hu) h
     |false =>
     rw[hr] at h;simp only[zL] at h;cases hb:(Nat.ble chg o.kmin||Ho A o.kmin (UB o.op (gev [] s.env) s.own)) with
     |false=>rw[hb] at h;exact h.elim
     |true =>rw[hb] at h;exact rd _ (λq hq=>hq) hb h
    .rename_i j want hg;cases hr:(Ig s j want o.op&&Gl A o.kmin) with
     |true =>
      rw[hr] at h;rw[z1] at hr;obtain⟨hr,lz⟩:=hr;refine ro lz (λu hu hw=>?_) h;unfold Ig at hr;split at hr
      .rename_i gs s1 dq;obtain⟨tb',aY,cY,b,gi,bz,bF⟩:=Xt hG dq;rw[hg,gi] at hw;have e:=osj hw;exact N4 aY (λg hg=>⟨bz e g hg,cY g hg⟩) hr hu
      .cases hr
     |false =>
     rw[hr] at h;simp only[zL] at h;cases hb:Nat.ble chg o.kmin with
     |false=>rw[hb] at h;exact h.elim
     |true =>rw[hb] at h;exact rd none (λq hq=>by cases hq) (by rw[hb];rfl) h
   .rw[z6 bu] at h;obtain⟨b,hw,h1,h2⟩:=KI hG h;rw[hw];refine⟨λe=>?_,λe=>?_⟩
    .obtain⟨u,s',tb',h3,h4,aV,h5⟩:=h1 e;rw[z6 ax,z6 bu,h3];exact Ql az aW r bQ hB h5 (by rw[aV];exact hD) hp bM d_ a8 h4 hK
    .obtain⟨s',tb',h4,aV,h5⟩:=h2 e;rw[z6 ax];exact Ql az aW r bQ hB h5 (by rw[aV];exact hD) hp bM d_ a8 h4 hK
theorem Qo {C:Cx}(az:COk P C) {B0 F0 D0:Heap}:∀ (ops:List DOper),(∀ o∈ops,o.kind=o.op.kind)->∀ {s:St}{env:Env}{U:Heap}{B F:Heap}{pl:Nat->Value}{tb:Nat->Option Bool},GBase B0 F0 D0 B F U->Gam P B F pl tb s env U->∀ {hl chg:Nat}{A Rd:List (Nat×Option Nat)}{hs:List Heap}{pend pd:List (Nat×(Heap->Prop))},DSt hs U pd hl chg A Rd s.own pl->(∀ c∈pend,(∀ Z,B.Le Z->c.2 Z)\/c∈pd)->(∀ j Z,hs[j]?=some Z->Gl A j=true->B.Le Z)->chg<=hl->0<hl ->
  ∀ {K:St->Prop},X0 C ops s hl chg A Rd K->∀ {R:Env->Heap->Prop},(∀ s' ae U',K s'->GRel P B0 F0 D0 s' ae U'->R ae U')->Zr (Q3 P) ops env hs U pend R
 |[],_,s,env,U,B,F,pl,tb,hB,hG,_,_,_,_,_,_,_,_,_,_,_,_,K,h,R,hK=>hK s env U h ⟨B,F,pl,tb,hB,hG⟩
 |o0::r,iD,s,env,U,B,F,pl,tb,hB,hG,hl,chg,A,Rd,hs,pend,pd,hD,hp,bM,d_,a8,K,h,R,hK=>by
  have dW:∀ {n:Nat}{Z:Heap},B.Le Z->Jz n Z pd->Jz n Z pend:=λ{n Z} hb hv=>Yf λc hc hn=>(by grind [U_]);have snoc:∀ {Z:Heap}{A':List (Nat×Option Nat)},B.Le Z->(∀ j,Gl A' j=true->Gl A j=true)->∀ j Z',(hs++[Z])[j]?=some Z'->Gl A' j=true->B.Le Z':=(by grind);have bQ:∀ o∈r,o.kind=o.op.kind:=(by simp_all);have lr:=iD o0 zQ;unfold X0 at h;split at h
  .rename_i bB;have hw:=Yz hG bB;simp only[Zr];rw[hw];refine⟨λe=>(by cases e),λ_=>?_⟩;have bg:=hG.put o0.dst (show SR P B pl tb .any undef by simp[SR]);by_cases ax:o0.kind=2
   .rw[z7 ax] at h |-;obtain⟨k1,k2⟩:=hD.stay;exact⟨dW hG.leB k1,Qo az r bQ hB bg (by rw[Z6];exact k2) hp (snoc hG.leB λ_ h=>h) (by omega) (by omega) h hK⟩
   .rw[z6 ax] at h |-;exact Qo az r bQ hB bg (by rw[Z6];exact hD) hp bM d_ a8 h hK
  have bt:(ED s.env o0).kind=(ED s.env o0).op.kind:=by unfold ED;split<;>exact lr
  have eX:Zr (Q3 P) (ED s.env o0::r) env hs U pend R->Zr (Q3 P) (o0::r) env hs U pend R:=λhv=>by
   unfold ED at hv;split at hv
   .rename_i bB;simp only[Zr] at hv |-;rw[Yz hG bB];exact hv
   .exact hv
  refine eX ?_;clear eX;generalize ED s.env o0=o at h bt |-
  replace h:=id h
  simp only[Zr];by_cases ax:o.kind=2
  .rw[z7 ax] at h
   have fin:∀ {u:Value}{U':Heap}{ts:List Nat}{v:SV}{s':St}{pl':Nat->Value},(∀ R',R' u U'->vop (Q3 P) o.op env U R')->X0 C r (s'.put o.dst v) (hl+1) (bif ts.isEmpty then chg else hl) (ts.map (λt=>(hl-1,some t))++A) (bif ts.isEmpty then Rd else Rd.map λr=>(r.1,none)) K->Gam P B F pl' tb s' env U'->SR P B pl' tb v u->(ts=[]->U'=U/\pl'=pl/\s'=s)->U.Le U'->Dead U U'->FrL ts s s' pl pl' U U' ->
     GD (λR=>vop (Q3 P) o.op env U R) λv U'=>Jz hs.length U' pend/\Zr (Q3 P) r (JK env o.dst v) (hs++[U']) U' pend R:=λ{u U' ts v s' pl'} bp od aY gP he hle hd cR=>by
    cases ts with
    |nil =>obtain⟨rfl,rfl,rfl⟩:=he rfl;obtain⟨k1,k2⟩:=hD.stay;exact⟨u,U',bp _ ⟨rfl,rfl⟩,dW aY.leB k1,Qo az r bQ (NQ hB hd) (aY.put o.dst gP) (by rw[Z6];exact k2) hp (snoc aY.leB λ_ h=>h) (by grind) (by omega) od hK⟩
    |cons t ts =>obtain⟨k1,k2⟩:=hD.call hle cR a8;exact⟨u,U',bp _ ⟨rfl,rfl⟩,dW aY.leB k1,Qo az r bQ (NQ hB hd) (aY.put o.dst gP) (by rw[Z6];exact k2) hp (snoc aY.leB λ_ h=>BH h) (by simp_all) (by omega) od hK⟩
   split at h
   .rename_i f args bp;split at h
    .rename_i hg;rw[hg];refine⟨λ_=>?_,λe=>by cases e⟩;rw[z7 ax]
     have og:∀ {K':List Nat->SV->St->Prop},NP C (C.off+o.dst.getD 0) (.fn f [] []) (TN s.own (args.map (gev [] s.env))) s K'->(∀ ts v s',K' ts v s'->X0 C r (s'.put o.dst v) (hl+1) (bif ts.isEmpty then chg else hl) (ts.map (λt=>(hl-1,some t))++A) (bif ts.isEmpty then Rd else Rd.map λr=>(r.1,none)) K) ->
       GD (λR=>vop (Q3 P) o.op env U R) λv U'=>Jz hs.length U' pend/\Zr (Q3 P) r (JK env o.dst v) (hs++[U']) U' pend R:=λ{K'} h rO=>by
      obtain⟨g,a,b,u,U',e,v,s',pl',h1,h2,h3,h4,h5,h6,h7,h8,h9⟩:=Xq az hG h (show SR P U Xl Jp (.fn f [] []) (.func (.func f) #[] #[]) by simp only[SR,SRs];exact⟨[],[],rfl,rfl,rfl⟩) (hG.gcall Gds.nil args);obtain⟨rfl,rfl,rfl⟩:=(by simpa using h1:f=g/\#[]=a/\#[]=b);refine fin (u:=u) (U':=U') (λR' hr=>?_) (rO _ _ _ h3) h4 h5 h6 h7 h8 h9;rw[bp];show VCalled P f (args.map (Q5 env)) U R';have:=h2.mono (R':=R') (by simp_all);simpa using this
     split at h
     .rename_i x hx;split at h
      .rename_i jf vl;split at h
       .rename_i tt vn;cases gL:(waits o.dst.toList r&&Et false Rd hl [tt]) with
        |false=>rw[gL] at h;exact h.elim
        |true =>rw[gL] at h;simp only[zm] at h;rw[z1] at gL;refine .inr ⟨gL.1,?_⟩;rw[bp];show VCalled P f (args.map (Q5 env)) U _;refine az.xf f jf vl x hx B F pl tb s env U _ _ _ _ _ tt hG (SRs.map λx _=>hG.evs Gds.nil x) vn h λv s' u U' k1 k2 k3 k4 k5=>?_;obtain⟨q1,q2⟩:=hD.writeD k5 (mk:=false) (λh=>by cases h) gL.2 a8;exact⟨dW k3.leB q1,Qo az r bQ (NQ hB k2) (k3.put o.dst k4) (by rw[Z6];exact q2) hp (snoc k3.leB λ_ h=>HC h) (by omega) (by omega) k1 hK⟩
       .exact h.elim
      .cases gL:(waits o.dst.toList r&&Rd.all (λq=>Nat.blt q.1 hl)) with
       |false=>rw[gL] at h;simp only[zL] at h;exact .inl (og h λ_ _ _ h=>h)
       |true =>
        rw[gL] at h;simp only[zm] at h;rw[z1] at gL;refine .inr ⟨gL.1,?_⟩;rw[bp];show VCalled P f (args.map (Q5 env)) U _;have au:∀ args:List Operand,SRs P B pl tb (args.map (gev [] s.env)) (args.map (Q5 env)):=λargs=>SRs.map λx _=>hG.evs Gds.nil x;refine az.xs f x hx B F pl tb s env U _ _ _ _ _ hG (au args) h λv s' B' F' pl' tb' u U' k1 k2 k3 k4=>?_;have hall:∀ c∈pd,c.1<hl:=λc hc=>by
         rcases hD.pend c hc with h1|⟨q,h1,h2,_⟩
         .exact h1
         grind [List.all_eq_true,Nat.blt_eq]
        have jP:Jz hs.length U' pd:=Yf λc hc hle=>by have:=hall c hc;have:=hD.len;omega
        have rP:Jz hs.length U' pend:=Yf λc hc hn=>(hp c hc).elim (λh=>h U' (k2.b.trans k3.leB)) λh=>U_ jP h hn;refine⟨rP,Qo az r bQ (hB.trans k2) (k3.put o.dst k4) (pd:=pd) ⟨by simp[hD.len],λj Z hj ht=>?_,(by grind),λj Z q i ht hu cn hi=>?_⟩ (λc hc=>(hp c hc).imp (λh Z hτ=>h Z (k2.b.trans hτ)) id) (λj Z ht hn=>?_) (by omega) (by omega) k1 hK⟩
        .rcases JI ht with⟨h1,_⟩|⟨_,h1⟩
         .rw[hD.len] at h1;omega
         .exact h1
        .rcases JI ht with⟨h1,_⟩|⟨_,h1⟩
         .exfalso;rw[hD.len] at h1;simp only[Za,zR,z1,zw,zC,zq,or_false] at hu;omega
         .rw[h1]
        .rcases JI ht with⟨h1,_⟩|⟨_,h1⟩
         .exfalso;rw[hD.len] at h1;simp only[Gl,zR,z1,zw,zC,Option.isSome_none,zq,or_false] at hn;omega
         .rw[h1];exact k3.leB
     .exact .inl (og h λ_ _ _ h=>h)
    .rename_i j want hg;rw[hg];split at h
     .exact h.elim
     .rename_i gs s1 dq;obtain⟨tb',aY,cY,b,hw,bz,bF⟩:=Xt hG dq;have aV:=Yk dq;rw[hw];split at h
      .rename_i cs v cZ;cases cK:Kx v with
       |false=>rw[cK] at h;exact h.elim
       |true =>
       rw[cK] at h;simp only[zm] at h;obtain⟨h1,h2⟩:=Zk h;obtain⟨k1,k2⟩:=hD.stay;have lh:∀ x,DSt (hs++[U]) U pd (hl+1) chg A Rd (s1.put o.dst x).own pl:=(by grind [Z6]);refine⟨λe=>?_,λe=>?_⟩
       .rw[z7 ax];have fX:Gds tb' gs:=λg hg=>⟨bz e g hg,cY g hg⟩;have lu:∀ {v u},SR P B pl tb' v u->SR P B pl tb' (.grd gs (G7 v)) u:=λ{v u} hs=>by
         simp only[SR]
         grind [BA]
        simp only[gqc] at cZ;split at cZ
        .rename_i c v' heq;cases dx:v'.ret 0 with
         |false=>rw[dx] at cZ;cases cZ
         |true =>
          rw[dx] at cZ;obtain⟨rfl,rfl⟩:=QZ cZ;obtain⟨g,a,b',h3,h4,_⟩:=ZM az.cs (show SR P U Xl Jp (.fn f [] []) (.func (.func f) #[] #[]) by simp only[SR,SRs];exact⟨[],[],rfl,rfl,rfl⟩) (aY.gcall fX args) heq dx rfl (h2 (bz e) _ (by simp));obtain⟨rfl,rfl,rfl⟩:=(by simpa using h3:f=g/\#[]=a/\#[]=b');refine .inl ⟨Km Xl v',U,?_,dW hG.leB k1,Qo az r bQ hB (aY.put o.dst (lu ?_)) (lh _) hp (snoc hG.leB λ_ h=>h) (by omega) (by omega) (Zf h1) hK⟩
          .rw[bp];show VCalled P f (args.map (Q5 env)) U _;have:=h4.mono (R':=λu U'=>u=Km Xl v'/\U'=U) λu U' hr=>by
            obtain⟨rfl,hu⟩:=hr.flat dx
            grind [V3]
           simpa using this
          .exact SR.retd (λj hj=>by omega) _ _ dx (Ry (P:=P) (pl:=Xl) (m:=0) (λj hj=>by omega) v' dx cK)
        .cases cZ
       .rw[z7 ax];obtain⟨g,dg,aJ⟩:=bF e;exact⟨dW hG.leB k1,Qo az r bQ hB (aY.put o.dst (by simp only[SR];exact⟨⟨cY,BD v⟩,λhall=>absurd (hall g dg) aJ,λ_=>trivial⟩)) (lh _) hp (snoc hG.leB λ_ h=>h) (by omega) (by omega) (Zf h1) hK⟩
      .split at h
       .rename_i cs v j8;obtain⟨c,ty,k,xs,nl,heq,rfl,rfl,hk,dK⟩:=TG j8;obtain⟨h1,h2⟩:=Zk h;have frz:∀ {B' U':Heap},B'.Le U'->∀ j Z',(hs++[U'])[j]?=some Z'->Gl ((hl-1,none)::A) j=true->B'.Le Z':=λ{B' U'} hb j Z' hm hn=>by
         rcases JI hm with⟨h1,_⟩|⟨_,rfl⟩
         .simp only[Gl,zR,z1,zw,zC,Option.isSome_none,zq,or_false] at hn;have:=hD.len;omega
         .exact hb
        refine⟨λe=>?_,λe=>?_⟩
        .rw[z7 ax];have fX:Gds tb' gs:=λg hg=>⟨bz e g hg,cY g hg⟩;have iN:=h2 (bz e) c (by simp);have iO:=h2 (bz e) (nl=true->xs=[]) (by simp);have dq:NP C (C.off+o.dst.getD 0) (.fn f [] []) (TN s1.own (args.map (gev gs s1.env))) s1 (λts v' s'=>ts=[C.off+o.dst.getD 0]/\v'=.lst (C.off+o.dst.getD 0)/\s'=s1.make (C.off+o.dst.getD 0) (.lst ty k xs nl)):=by
          unfold NP;rw[heq];dsimp only;have ah:(SV.ret [OB.lst ty k xs nl].length (.lst 0)&&([OB.lst ty k xs nl].all OB.ret&&(Nat.blt 0 C.nt&&([OB.lst ty k xs nl].all OB.isL&&Kx (.lst 0)))))=true:=by
           simp only[SV.ret,zl,zR,List.all_nil,xB,OB.ret,hk,Bool.true_and,OB.isL,Kx];rw[z1]
           grind [Nat.blt_eq]
          rw[ah];simp only[zm,It,OB.wf];refine⟨iN,iO,?_,?_,?_⟩
          .simp[List.range_succ]
          .simp[SV.ren]
          .simp[St.makes]
         obtain⟨g,a,b',u,U',ts,v',s',pl',h3,h4,⟨rfl,rfl,rfl⟩,h5,h6,_,h7,h8,h9⟩:=Xq az aY dq (show SR P U Xl Jp (.fn f [] []) (.func (.func f) #[] #[]) by simp only[SR,SRs];exact⟨[],[],rfl,rfl,rfl⟩) (aY.gcall fX args);obtain⟨rfl,rfl,rfl⟩:=(by simpa using h3:f=g/\#[]=a/\#[]=b');obtain⟨B',F',m1,m2,m3⟩:=RI aY.bf hk h5 h6 h8;have cR:FrL [C.off+o.dst.getD 0] s ((s1.make (C.off+o.dst.getD 0) .dead).put o.dst (.grd gs (.val (.list k) xs))) pl pl' U U':=λq hq=>by
          obtain⟨f1,f2,f3⟩:=h9 q hq
          grind [Z6,KY]
         obtain⟨k1,k2⟩:=hD.call h7 cR a8;refine .inl ⟨u,U',?_,dW (m1.b.trans m2.leB) k1,Qo az r bQ (hB.trans m1) (m2.put o.dst ?_) k2.frozen (λc hc=>(hp c hc).imp (λh Z hτ=>h Z (m1.b.trans hτ)) id) (frz m2.leB) (by omega) (by omega) h1 hK⟩
         .rw[bp];show VCalled P f (args.map (Q5 env)) U _;simpa using h4
         .simp only[SR];exact⟨⟨cY,trivial⟩,λ_=>m3,(by grind)⟩
        .rw[z7 ax];obtain⟨g,dg,aJ⟩:=bF e;have cR:FrL [C.off+o.dst.getD 0] s ((s1.make (C.off+o.dst.getD 0) .dead).put o.dst (.grd gs (.val (.list k) xs))) pl (Jk pl (C.off+o.dst.getD 0) undef) U U:=λq hq=>by
          have dj:q≠C.off+o.dst.getD 0:=by simpa using hq
          refine⟨?_,by simp[Jk,dj],λ_ _ _=>rfl⟩;rw[Z6,KY _ _ _ dj,aV]
         obtain⟨k1,k2⟩:=hD.call (.refl U) cR a8;refine⟨dW hG.leB k1,Qo az r bQ hB ((aY.make (C.off+o.dst.getD 0) .dead undef aY.le (λ_ _ _ _ _=>rfl) trivial (λi hl _=>by cases hl)).put o.dst ?_) k2.frozen hp (frz hG.leB) (by omega) (by omega) h1 hK⟩;simp only[SR];exact⟨⟨cY,trivial⟩,λhall=>absurd (hall g dg) aJ,λ_=>trivial⟩
       .exact h.elim
   .rename_i f args bp;split at h
    .rename_i hg;rw[hg];refine⟨λ_=>?_,λe=>by cases e⟩;rw[z7 ax];refine .inl ?_;obtain⟨g,a,b,u,U',e,v,s',pl',h1,h2,h3,h4,h5,h6,h7,h8,h9⟩:=Xq az hG h (hG.gfun Gds.nil f) (hG.gcall Gds.nil args);refine fin (u:=u) (U':=U') (λR' hr=>?_) h3 h4 h5 h6 h7 h8 h9;rw[bp];exact Ui h1 (h2.mono (R':=R') (by simp_all))
    .exact h.elim
   .exact h.elim
   .exact h.elim
   .rename_i rN qe iE j6;split at h
    .rename_i hg;rw[hg];refine⟨λ_=>?_,λe=>by cases e⟩;rw[z7 ax];have aA:AI o.op=false:=by
      cases ho:o.op<;>first|rfl|(exact absurd ho (rN _ _))|(exact absurd ho (qe _ _))|skip
      case ext x=>cases x<;>first|rfl|(exact absurd ho (iE _))|(exact absurd ho (j6 _))
     cases j7:LH C (o.dst.getD 0) o.op (gev [] s.env) with
     |true =>
      rw[j7] at h;simp only[zm] at h;cases hm:Et (H7 o.op) Rd hl (Ld (C.off+o.dst.getD 0) o.op (gev [] s.env)) with
      |false=>rw[hm] at h;exact h.elim
      |true =>
       rw[hm] at h;simp only[zm] at h;obtain⟨u,U',pl',v,s',h1,h2,⟨h3,gO⟩,h4⟩:=Px (λx=>hG.evs (Gds.nil (tb:=tb)) x) hG h;have fI:∀ R',R' u U'->vop (Q3 P) o.op env U R':=λR' hr=>by
        have:vop (Q3 P) o.op env U R'=Q_ (Q6 o.op (Q5 env) U) λp=>R' p.1 p.2:=by
         cases ho:o.op with
         |callF f a=>rw[ho] at aA;cases aA
         |callV f a=>rw[ho] at aA;cases aA
         |ext x =>
          cases x with
          |nextMap y=>rw[ho] at h1;cases h1
          |_=>rfl
         |_=>rfl
        rw[this,h1];exact hr
       obtain⟨k1,k2⟩:=hD.writeD gO (λdH=>Rk dH h1) hm a8;exact .inl ⟨u,U',fI _ ⟨rfl,rfl⟩,dW h3.leB k1,Qo az r bQ (NQ hB (YQ h1)) (h3.put o.dst h4) (by rw[Z6];exact k2) hp (snoc h3.leB λ_ h=>BH h) (by omega) (by omega) h2 hK⟩
     |false =>
     rw[j7] at h;simp only[zL] at h;cases hm:((H7 o.op&&LM Rd hl (QO (C.off+o.dst.getD 0) o.op (gev [] s.env)))||TA Rd hl (QO (C.off+o.dst.getD 0) o.op (gev [] s.env))||(Tj o.op&&Q3a Rd hl (QO (C.off+o.dst.getD 0) o.op (gev [] s.env)))) with
     |false=>rw[hm] at h;exact h.elim
     |true =>
      rw[hm] at h;simp only[zm] at h;obtain⟨u,U',pl',v,s',h1,h2,⟨h3,gO⟩,h4,hE⟩:=II hG h aA;have fI:∀ R',R' u U'->vop (Q3 P) o.op env U R':=λR' hr=>by
       have:vop (Q3 P) o.op env U R'=Q_ (Q6 o.op (Q5 env) U) λp=>R' p.1 p.2:=by
        cases ho:o.op with
        |callF f a=>rw[ho] at aA;cases aA
        |callV f a=>rw[ho] at aA;cases aA
        |ext x =>
         cases x with
         |nextMap y=>rw[ho] at h1;cases h1
         |_=>rfl
        |_=>rfl
       rw[this,h1];exact hr
      obtain⟨k1,k2⟩:=hD.write gO (λdH=>Rk dH h1) hE hm a8;exact .inl ⟨u,U',fI _ ⟨rfl,rfl⟩,dW h3.leB k1,Qo az r bQ (NQ hB (YQ h1)) (h3.put o.dst h4) (by rw[Z6];exact k2) hp (snoc h3.leB λ_ h=>HC h) (by omega) (by omega) h2 hK⟩
    .exact h.elim
  .rw[z6 ax] at h;have lx:o.op.kind≠2:=by rw[<-bt];exact ax
   by_cases bu:o.kind=1
   .rw[z7 bu] at h
    have rd:∀ (rq:Option Nat),(∀ q,rq=some q->UB o.op (gev [] s.env) s.own=some q)->(Nat.ble chg o.kmin||Ho A o.kmin rq)=true->gd1 C o s (λs'=>X0 C r s' hl chg A ((o.kmax,rq)::Rd) K) ->
      Q_ (ZY env o.guard) λb=>vif b (if o.kind=2 then (GD (λR=>vop (Q3 P) o.op env U R) λv U'=>Jz hs.length U' pend/\Zr (Q3 P) r (JK env o.dst v) (hs++[U']) U' pend R)\/(waits o.dst.toList r=true/\vop (Q3 P) o.op env U λv U'=>Jz hs.length U' pend/\Zr (Q3 P) r (JK env o.dst v) (hs++[U']) U' pend R)
       else if o.kind=1 then Q_ (Q6 o.op (Q5 env) U) λp=>(∀ Z∈hs.drop o.kmin,JC o.op (Q5 env) p.1 Z) /\
        Zr (Q3 P) r (JK env o.dst p.1) hs U (if hs.length<=o.kmax then (o.kmax,JC o.op (Q5 env) p.1)::pend else pend) R
       else Q_ (Q6 o.op (Q5 env) U) λp=>Zr (Q3 P) r (JK env o.dst p.1) hs U pend R)
      (if o.kind=2 then Jz hs.length U pend/\Zr (Q3 P) r (JK env o.dst undef) (hs++[U]) U pend R else Zr (Q3 P) r (JK env o.dst undef) hs U pend R):=λrq oe hc h=>by
     obtain⟨b,hw,h1,h2⟩:=KI hG h;rw[hw];have ly:DSt hs U pd hl chg A ((o.kmax,rq)::Rd) s.own pl:=⟨hD.len,hD.same,λc hc=>(hD.pend c hc).imp id (by simp_all),hD.fr⟩;refine⟨λe=>?_,λe=>?_⟩
     .obtain⟨u,s',tb',h3,h4,aV,h5⟩:=h1 e;rw[z6 ax,z7 bu,h3];refine⟨λZ hτ=>?_,?_⟩
      .obtain⟨j,hj⟩:=zY.1 hτ;rw[zV] at hj;rw[zw] at hc;rcases hc with hc|hc
       .have:=hD.same (o.kmin+j) Z (by have:=zA hc;omega) hj;subst this;exact ZK h3
       .unfold Ho at hc;split at hc
        .rename_i q;obtain⟨k1,i,bl,k2,k3,k4,k5⟩:=Yb hG (oe q rfl) h3;have hu:Za A (o.kmin+j) (q / 2)=true:=by
          simp only[Za,zf,zw,zC] at hc |-
          grind
         have:=hD.fr (o.kmin+j) Z (q / 2) i hj hu k1 k2
         grind [ZK]
        .cases hc
      .by_cases hle:hs.length<=o.kmax
       .rw[z7 hle];refine Qo az r bQ hB h5 (A:=A) (Rd:=(o.kmax,rq)::Rd) (hl:=hl) (chg:=chg) (pd:=(o.kmax,JC o.op (Q5 env) u)::pd) ?_ (λc hc=>?_) bM d_ a8 h4 hK
        .rw[aV];refine⟨hD.len,hD.same,λc hc=>?_,hD.fr⟩;rcases zG.1 hc with rfl|hc
         .refine .inr ⟨_,zQ,zd _,?_⟩;cases rq with
          |none=>exactλZ hτ=>ZK (HG lx h3 hτ)
          |some q =>obtain⟨k1,i,bl,k2,k3,k4,k5⟩:=Yb hG (oe q rfl) h3;exact⟨k1,i,bl,k2,k3,λZ ht=>ZK (k4 Z ht),(by grind [ZK])⟩
         .exact ly.pend c hc
        grind
       .rw[z6 hle];exact Qo az r bQ hB h5 (A:=A) (Rd:=(o.kmax,rq)::Rd) (hl:=hl) (chg:=chg) (pd:=pd) (by rw[aV];exact ly) hp bM d_ a8 h4 hK
     .obtain⟨s',tb',h4,aV,h5⟩:=h2 e;rw[z6 ax];exact Qo az r bQ hB h5 (by rw[aV];exact ly) hp bM d_ a8 h4 hK
    have ro:Gl A o.kmin=true->(∀ u,Q6 o.op (Q5 env) U=some (u,U)->(ZY env o.guard=some true)->∀ Z,B.Le Z->Q6 o.op (Q5 env) Z=some (u,Z))->gd1 C o s (λs'=>X0 C r s' hl chg A Rd K) ->
      Q_ (ZY env o.guard) λb=>vif b (if o.kind=2 then (GD (λR=>vop (Q3 P) o.op env U R) λv U'=>Jz hs.length U' pend/\Zr (Q3 P) r (JK env o.dst v) (hs++[U']) U' pend R)\/(waits o.dst.toList r=true/\vop (Q3 P) o.op env U λv U'=>Jz hs.length U' pend/\Zr (Q3 P) r (JK env o.dst v) (hs++[U']) U' pend R)
       else if o.kind=1 then Q_ (Q6 o.op (Q5 env) U) λp=>(∀ Z∈hs.drop o.kmin,JC o.op (Q5 env) p.1 Z) /\
        Zr (Q3 P) r (JK env o.dst p.1) hs U (if hs.length<=o.kmax then (o.kmax,JC o.op (Q5 env) p.1)::pend else pend) R
       else Q_ (Q6 o.op (Q5 env) U) λp=>Zr (Q3 P) r (JK env o.dst p.1) hs U pend R)
      (if o.kind=2 then Jz hs.length U pend/\Zr (Q3 P) r (JK env o.dst undef) (hs++[U]) U pend R else Zr (Q3 P) r (JK env o.dst undef) hs U pend R):=λlz bI h=>by
     obtain⟨b,hw,h1,h2⟩:=KI hG h;rw[hw];refine⟨λe=>?_,λe=>?_⟩
     .obtain⟨u,s',tb',h3,h4,aV,h5⟩:=h1 e;have bI:=bI u h3 (by rw[hw,e]);rw[z6 ax,z7 bu,h3];refine⟨λZ hτ=>?_,?_⟩
      .obtain⟨j,hj⟩:=zY.1 hτ;rw[zV] at hj;refine ZK (bI Z (bM _ Z hj ?_));simp only[Gl,zf,zw,zC] at lz |-
       grind
      refine Qo az r bQ hB h5 (A:=A) (Rd:=Rd) (hl:=hl) (chg:=chg) (pd:=pd) (by rw[aV];exact hD) (λc hc=>?_) bM d_ a8 h4 hK;split at hc
      .rcases zG.1 hc with rfl|hc
       .grind [ZK]
       .exact hp c hc
      .exact hp c hc
     .obtain⟨s',tb',h4,aV,h5⟩:=h2 e;rw[z6 ax];exact Qo az r bQ hB h5 (by rw[aV];exact hD) hp bM d_ a8 h4 hK
    split at h
    .rename_i hg;cases hr:(Q35 o.op (gev [] s.env)&&Gl A o.kmin) with
     |true =>rw[hr] at h;rw[z1] at hr;exact ro hr.2 (λu hu _=>N4 hG Gds.nil hr.1 hu) h
     |false =>
     rw[hr] at h;simp only[zL] at h;cases hb:(Nat.ble chg o.kmin||Ho A o.kmin (UB o.op (gev [] s.env) s.own)) with
     |false=>rw[hb] at h;exact h.elim
     |true =>rw[hb] at h;exact rd _ (λq hq=>hq) hb h
    .rename_i j want hg;cases hr:(Ig s j want o.op&&Gl A o.kmin) with
     |true =>
      rw[hr] at h;rw[z1] at hr;obtain⟨hr,lz⟩:=hr;refine ro lz (λu hu hw=>?_) h;unfold Ig at hr;split at hr
      .rename_i gs s1 dq;obtain⟨tb',aY,cY,b,gi,bz,bF⟩:=Xt hG dq;rw[hg,gi] at hw;have e:=osj hw;exact N4 aY (λg hg=>⟨bz e g hg,cY g hg⟩) hr hu
      .cases hr
     |false =>
     rw[hr] at h;simp only[zL] at h;cases hb:Nat.ble chg o.kmin with
     |false=>rw[hb] at h;exact h.elim
     |true =>rw[hb] at h;exact rd none (λq hq=>by cases hq) (by rw[hb];rfl) h
   .rw[z6 bu] at h;obtain⟨b,hw,h1,h2⟩:=KI hG h;rw[hw];refine⟨λe=>?_,λe=>?_⟩
    .obtain⟨u,s',tb',h3,h4,aV,h5⟩:=h1 e;rw[z6 ax,z6 bu,h3];exact Qo az r bQ hB h5 (by rw[aV];exact hD) hp bM d_ a8 h4 hK
    .obtain⟨s',tb',h4,aV,h5⟩:=h2 e;rw[z6 ax];exact Qo az r bQ hB h5 (by rw[aV];exact hD) hp bM d_ a8 h4 hK
def VB (pl:Nat->Value) (mp:List (Nat×Option Nat)):Nat->Value:=λt=>match QJ mp t with
 |some (some a)=>pl a
 |_=>.slice none 0 0
theorem L2 {h:Heap}{k k':Kind}{x:k.T}{y:k'.T}(e:Nr x y) {cs:List Value}(hk:KC h k' y cs):KC h k x cs:=by
 unfold Nr at e
 grind [Tl,TH]
mutual
theorem KF {B:Heap}{pl:Nat->Value}{tb:Nat->Option Bool}{mp:List (Nat×Option Nat)}:∀ (p a:SV) (v:Value),PE mp p a->SR P B pl tb a v->SR P B (VB pl mp) Jp p v
 |.any,a,v,_,_=>trivial
 |.val k x,a,v,h,hs=>by
  simp only[PE] at h;split at h
  .simp only[SR] at hs |-;exact L2 h hs
  .simp only[SR] at hs |-;exact L2 h (by simp[KC,hs.1])
  .split at h
   .subst h;simp only[SR] at hs |-;subst hs;exact⟨_,rfl,.inl ⟨rfl,rfl⟩⟩
   .exact h.elim
  .exact h.elim
 |.lst t,a,v,h,hs=>by
  simp only[PE] at h;split at h
  .split at h
   .rename_i e;simp only[SR,VB,e] at hs |-;exact hs
   .exact h.elim
  .split at h
   .rename_i e;simp only[SR,VB,e] at hs |-;exact⟨hs,_,_,_,hs⟩
   .exact h.elim
  .exact h.elim
 |.box t off,a,v,h,hs=>by
  simp only[PE] at h;split at h
  .split at h
   .rename_i e;obtain⟨e,rfl⟩:=e;simp only[SR,VB,e] at hs |-;exact hs
   .exact h.elim
  .exact h.elim
 |.map t,a,v,h,hs=>by
  simp only[PE] at h;split at h
  .split at h
   .rename_i e;simp only[SR,VB,e] at hs |-;exact hs
   .exact h.elim
  .exact h.elim
 |.dd t w,a,v,h,hs=>by
  simp only[PE] at h;split at h
  .split at h
   .simp only[SR] at hs |-;simp only[DR];exact .inl ⟨h,hs⟩
   .split at h
    .rename_i e;obtain⟨e,rfl⟩:=e;simp only[SR,DR,VB,e] at hs |-;obtain⟨b,h1,h2⟩:=hs;exact .inr ⟨h,b,by rw[h1];rfl,h2⟩
    .exact h.elim
   .split at h
    .split at h
     .rename_i e;subst h;simp only[SR,DR,VB,e] at hs |-;exact hs
     .exact h.elim
    .exact h.elim
   .exact h.elim
  .split at h
   .split at h
    .split at h
     .rename_i e;simp only[SR,VB,e] at hs |-;exact hs
     .exact h.elim
    .exact h.elim
   .exact h.elim
  .split at h
   .split at h
    .split at h
     .rename_i e;simp only[SR,VB,e] at hs |-;exact hs
     .exact h.elim
    .exact h.elim
   .split at h
    .rename_i e;simp only[SR,VB,e] at hs |-;exact⟨hs,_,_,_,hs⟩
    .exact h.elim
   .exact h.elim
  .exact h.elim
 |.agg l,a,v,h,hs=>by
  simp only[PE] at h;split at h
  .rename_i l';simp only[SR] at hs |-;obtain⟨cs,h1,h2⟩:=hs;exact⟨cs,h1,ZW l l' cs h h2⟩
  .exact h.elim
 |.tup l,a,v,h,hs=>by
  simp only[PE] at h;split at h
  .rename_i l';simp only[SR] at hs |-;obtain⟨cs,h1,h2⟩:=hs;exact⟨cs,h1,ZW l l' cs h h2⟩
  .exact h.elim
 |.fn f x y,a,v,h,hs=>by
  simp only[PE] at h;split at h
  .split at h
   .rename_i e;subst e;simp only[SR] at hs |-;obtain⟨cs,ds,h1,h2,h3⟩:=hs;exact⟨cs,ds,h1,ZW x _ cs h.1 h2,ZW y _ ds h.2 h3⟩
   .exact h.elim
  .exact h.elim
 |.nilS,a,v,h,hs=>by
  simp only[PE] at h;split at h
  .simp only[SR] at hs |-;exact hs
  .exact h.elim
 |.nilP,a,v,h,hs=>by
  simp only[PE] at h;split at h
  .simp only[SR] at hs |-;exact hs
  .exact h.elim
 |.nilM,a,v,h,hs=>by
  simp only[PE] at h;split at h
  .simp only[SR] at hs |-;exact hs
  .exact h.elim
 |.nilF,a,v,h,hs=>by
  simp only[PE] at h;split at h
  .simp only[SR] at hs |-;exact hs
  .exact h.elim
 |.cp l off,a,v,h,hs=>by
  simp only[PE] at h;cases rQ:SVs.pure l with
  |true =>rw[rQ] at h;simp only[zm] at h;obtain⟨rfl,_⟩:=h;simp only[SR] at hs |-;obtain⟨b,c,e,wr,t,h1,h2,h3⟩:=hs;exact⟨b,c,e,wr,t,h1,h2,Zw l c rQ h3⟩
  |false =>
   rw[rQ] at h;simp only[zL] at h;split at h
   .split at h
    .rename_i l' cW he;subst he;simp only[SR] at hs |-;obtain⟨b,c,e,wr,t,h1,h2,h3⟩:=hs;exact⟨b,c,e,wr,t,h1,h2,ZW l l' c h h3⟩
    .exact h.elim
   .exact h.elim
 |.pf ks r cw p,a,v,h,hs=>by simp only[PE] at h;subst h;simp only[SR] at hs |-;exact hs
 |.sub t lo n sz,a,v,h,hs=>by
  simp only[PE] at h;split at h
  .split at h
   .rename_i e;obtain⟨rfl,rfl,rfl⟩:=h;simp only[SR,VB,e] at hs |-;exact hs
   .exact h.elim
  .exact h.elim
 |.elp _ _ _ _,_,_,h,_|.grd _ _,_,_,h,_|.bid _ _,_,_,h,_|.rop _ _ _ _,_,_,h,_=>by simp only[PE] at h
theorem ZW {B:Heap}{pl:Nat->Value}{tb:Nat->Option Bool}{mp:List (Nat×Option Nat)}:∀ (p a:List SV) (v:List Value),Gf mp p a->SRs P B pl tb a v->SRs P B (VB pl mp) Jp p v
 |[],a,v,h,hs=>by simp only[Gf] at h;subst h;exact hs
 |s::ss,[],v,h,hs=>by simp only[Gf] at h
 |s::ss,a::bE,v,h,hs=>by simp only[Gf] at h;simp only[SRs] at hs |-;obtain⟨x,y,h1,h2,h3⟩:=hs;exact⟨x,y,h1,KF s a x h.1 h2,ZW ss bE y h.2 h3⟩
theorem Td {B:Heap}{pl pl':Nat->Value}{tb tb':Nat->Option Bool}:∀ (s:SV) (v:Value),s.pure=true->SR P B pl tb s v->SR P B pl' tb' s v
 |.any,v,_,_=>trivial
 |.val k x,v,_,h=>by simp only[SR] at h |-;exact h
 |.nilS,v,_,h|.nilP,v,_,h|.nilM,v,_,h|.nilF,v,_,h=>by simp only[SR] at h |-;exact h
 |.rop k l i off,v,_,h=>by simp only[SR] at h |-;exact h
 |.pf ks r cw p,v,_,h=>by simp only[SR] at h |-;exact h
 |.agg l,v,hp,h=>by simp only[SR] at h |-;obtain⟨cs,h1,h2⟩:=h;exact⟨cs,h1,Zw l cs hp h2⟩
 |.tup l,v,hp,h=>by simp only[SR] at h |-;obtain⟨cs,h1,h2⟩:=h;exact⟨cs,h1,Zw l cs hp h2⟩
 |.cp l off,v,hp,h=>by simp only[SR] at h |-;obtain⟨b,c,e,wr,t,h1,h2,h3⟩:=h;exact⟨b,c,e,wr,t,h1,h2,Zw l c hp h3⟩
 |.fn f a b,v,hp,h=>by simp only[SV.pure,z1] at hp;simp only[SR] at h |-;obtain⟨x,y,h1,h2,h3⟩:=h;exact⟨x,y,h1,Zw a x hp.1 h2,Zw b y hp.2 h3⟩
 |.lst _,_,h,_|.sub _ _ _ _,_,h,_|.elp _ _ _ _,_,h,_|.box _ _,_,h,_|.map _,_,h,_|.grd _ _,_,h,_|.bid _ _,_,h,_=>by cases h
theorem Zw {B:Heap}{pl pl':Nat->Value}{tb tb':Nat->Option Bool}:∀ (s:List SV) (v:List Value),SVs.pure s=true->SRs P B pl tb s v->SRs P B pl' tb' s v
 |[],v,_,h=>by simp only[SRs] at h |-;exact h
 |s::ss,v,hp,h=>by simp only[SVs.pure,z1] at hp;simp only[SRs] at h |-;obtain⟨x,y,h1,h2,h3⟩:=h;exact⟨x,y,h1,Td s x hp.1 h2,Zw ss y hp.2 h3⟩
end
end
end Go.V
namespace Go.V
open Go
section
variable {P:Program}{B F:Heap}{pl:Nat->Value}{tb:Nat->Option Bool}{s:St}{env:Env}{U:Heap}
theorem Vn {k k':Kind}{xs:List k.T}{ys:List k'.T}(h:Nr (k:=.list k) xs (k':=.list k') ys):∃ e:k'=k,e▸ys=xs:=by
 unfold Nr at h
 grind [Tl,Kind.list.inj,TH]
theorem QI (hG:Gam P B F pl tb s env U) {mp:List (Nat×Option Nat)}{t:Nat}{b:OB}(h:Ox s mp t b) :
  OR P B (VB pl mp) Jp U (VB pl mp t) b/\(b.live=true->∀ i,Oid (VB pl mp t) i->∃ a,QJ mp t=some (some a)/\(Qg s.own a).live=true/\Oid (pl a) i):=by
 unfold Ox at h;split at h
 .rename_i a ha;have aN:VB pl mp t=pl a:=by simp[VB,ha]
  rw[aN];have ak:=hG.obj a;split at h
  .exact⟨trivial,λh=>by cases h⟩
  .rename_i ty k xs nl mA k' b9 ld ho;split at h
   .rename_i e;subst e;obtain⟨h1,rfl⟩:=h;obtain⟨rfl,rfl⟩:=Vn h1;rw[ho] at ak;exact⟨ak,(by simp_all)⟩
   .exact h.elim
  .rename_i l u l' u' ho;split at h
   .rename_i e0;subst e0;rw[ho] at ak;obtain⟨i,c,e,t',h1,h2,h3,h4⟩:=ak;exact⟨⟨i,c,e,t',h1,h2,ZW l l' c h h3,h4⟩,λ_ i hi=>⟨a,ha,by rw[ho];rfl,hi⟩⟩
   .exact h.elim
  .rename_i kk vk m lf nT m' ho;split at h
   .obtain⟨e,h1⟩:=Vn h;obtain⟨rfl,rfl⟩:=Kind.pair.inj e;subst h1;rw[ho] at ak;exact⟨ak,(by simp_all)⟩
   .exact h.elim
  .rename_i l vals l' jZ ho;rw[ho] at ak;obtain⟨rfl,h⟩:=h;exact⟨ZW l l' vals h ak,λh=>by cases h⟩
  .rename_i l q u l' q' u' ho;rw[ho] at ak;split at h
   .obtain⟨rfl,h⟩:=h;exact⟨⟨ak.1,ZW l l' q.vals h ak.2.1,ak.2.2⟩,λ_ i hi=>⟨a,ha,by rw[ho];rfl,hi⟩⟩
   .obtain⟨rfl,h⟩:=h;exact⟨⟨ak.1,ZW l l' q.vals h ak.2.1,ak.2.2⟩,λh=>by cases h⟩
   .exact h.elim
  .rename_i kk vk m dn lf nT m' s8 ho;split at h
   .obtain⟨h,rfl⟩:=h;obtain⟨e,h1⟩:=Vn h;obtain⟨rfl,rfl⟩:=Kind.pair.inj e;subst h1;rw[ho] at ak;exact⟨ak,(by simp_all)⟩
   .exact h.elim
  .rename_i ty q k xs nl h0 mA q' k' b9 ld sL ho;split at h
   .rename_i e;obtain⟨rfl,rfl⟩:=e;split at h
    .obtain⟨h1,rfl⟩:=h;obtain⟨rfl,rfl⟩:=Vn h1;rw[ho] at ak;exact⟨ak,(by simp_all)⟩
    .exact h.elim
   .exact h.elim
  .exact h.elim
 .rename_i ha;have aN:VB pl mp t=.slice none 0 0:=by simp[VB,ha]
  rw[aN];split at h
  .exact⟨.inl ⟨h.2,h.1,rfl⟩,λ_ i hi=>by cases hi⟩
  .split at h
   .obtain⟨rfl,rfl⟩:=h;refine⟨⟨[],λi=>⟨λh=>(by cases h),λ⟨b,h⟩=>(by cases h)⟩,List.nodup_nil,.inl ⟨rfl,rfl,rfl⟩,λi=>⟨λ⟨b,h⟩=>(by cases h),λh=>(by cases h)⟩,(λi b h=>by cases h),by simp[phd]⟩,λ_ i hi=>by cases hi⟩
   .exact h.elim
  .exact h.elim
 .exact h.elim
theorem Ka {α:Type _}(l:List (Nat×α)) (t:Nat) (x:α) (d:Nat):QJ (l++[(t,x)]) d=match QJ l d with|some y=>some y|none=>if t=d then some x else none:=by
 induction l with
 |nil =>
  simp only[xq,QJ];by_cases h:t=d
  .subst h;simp
  .rw[Xy h];simp[h]
 |cons p l ih =>obtain⟨k,y⟩:=p;simp only[xw,QJ,ih];cases Nat.beq k d<;>rfl
theorem L1 {α:Type _}{l:List (Nat×α)}{d:Nat}{x:α}(h:QJ l d=some x):∃ p∈l,p.1=d/\p.2=x:=by
 induction l with
 |nil=>cases h
 |cons p l ih =>
  obtain⟨k,y⟩:=p;simp only[QJ] at h;cases hb:Nat.beq k d with
  |true=>rw[hb] at h;obtain rfl:=osj h;exact(by simp_all)
  |false =>rw[hb] at h;obtain⟨p,h1,h2⟩:=ih h;exact⟨p,zT _ h1,h2⟩
def Inj (mp:List (Nat×Option Nat)):Prop:=∀ t t' a,QJ mp t=some (some a)->QJ mp t'=some (some a)->t=t'
theorem BC:∀ (l:List (Nat×Src)) (mp bK:List (Nat×Option Nat)),Q43 s l mp=some bK->Inj mp->Inj bK
 |[],mp,bK,h,hi=>by obtain rfl:=osj h;exact hi
 |(t,src)::r,mp,bK,h,hi=>by
  simp only[Q43] at h;split at h
  .rename_i a _;split at h
   .cases h
   .rename_i hc;refine BC r _ _ h ?_;have cR:∀ d,QJ mp d≠some (some a):=λd hd=>by
     obtain⟨p,h1,h2,h3⟩:=L1 hd
     grind
    intro t1 t2 a' h1 h2;rw[Ka] at h1 h2;split at h1
    .rename_i y1 e1;split at h2
     .rename_i y2 e2;obtain rfl:=osj h1;obtain rfl:=osj h2;exact hi t1 t2 a' e1 e2
     simp_all
    .split at h1
     .rename_i e1;obtain rfl:=osj (osj h1);split at h2
      .simp_all
      simp_all
     .cases h1
  .split at h
   .cases h
   .refine BC r _ _ h ?_;intro t1 t2 a' h1 h2;rw[Ka] at h1 h2;split at h1
    .rename_i y1 e1;split at h2
     .rename_i y2 e2;obtain rfl:=osj h1;obtain rfl:=osj h2;exact hi t1 t2 a' e1 e2
     .split at h2<;>cases h2
    .split at h1<;>cases h1
  .cases h
theorem S3 {mp:List (Nat×Option Nat)}:∀ {ow:List (Nat×Src×OB)},gmatch.obs s mp ow->∀ p∈ow,Ox s mp p.1 p.2.2
 |[],_,p,hp=>by cases hp
 |(t,src,b)::r,h,p,hp=>by
  simp only[gmatch.obs] at h;rcases zG.1 hp with rfl|hp
  .exact h.1
  .exact S3 h.2 p hp
theorem KL {f:List (Nat×Src×OB)}:∀ (own:Own) (t:Nat),(∃ p∈f,p.1=t/\Qg (f.foldl (λo p=>oset o p.1 p.2.2) own) t=p.2.2)\/Qg (f.foldl (λo p=>oset o p.1 p.2.2) own) t=Qg own t:=by
 induction f with
 |nil=>intro own t;exact .inr rfl
 |cons p f ih =>
  intro own t;simp only[xJ];rcases ih (oset own p.1 p.2.2) t with⟨q,h1,h2⟩|h
  .grind
  .rw[h,Qt]
   grind
theorem HX (hG:Gam P B F pl tb s env U) {mp:List (Nat×Option Nat)}:∀ (st:List (Nat×SV)) {e:List SV}{eV:Env},gmatch.slots s mp st->SRs P B (VB pl mp) Jp e eV->SRs P B (VB pl mp) Jp (st.foldl (λe p=>e.set p.1 p.2) e) (Xn (st.map (·.1)) (Bp (st.map (·.1)) env) eV)
 |[],e,eV,_,h=>h
 |(j,v)::r,e,eV,hs,h=>by simp only[gmatch.slots] at hs;simp only[xJ,zW,Bp,Xn];exact HX hG r hs.2 (h.set j (KF v _ _ hs.1 (hG.env.getD j poison)))
theorem IE {B:Heap}{pl:Nat->Value}{tb:Nat->Option Bool}:∀ n,SRs P B pl tb (List.replicate n .any) (List.replicate n poison)
 |0=>by simp[SRs]
 |n+1=>by simp only[xn,SRs];exact⟨_,_,rfl,by simp[SR],IE n⟩
theorem Dw {B0 F0 D0:Heap}(hR:GRel P B0 F0 D0 s env U) {st:List (Nat×SV)}{ow:List (Nat×Src×OB)}(h:gmatch s st ow) (len:Nat):GRel P B0 F0 D0 (Z4 len st ow) (Xn (st.map (·.1)) (Bp (st.map (·.1)) env) (List.replicate len poison)) U:=by
 obtain⟨B,F,pl,tb,hB,hG⟩:=hR;unfold gmatch at h;split at h
 .rename_i mp lA;obtain⟨h1,h2⟩:=h;have dm:=BC _ _ _ lA (λt t' a h=>by cases h);have aT:=S3 h2;have ak:∀ t,(Qg (Z4 len st ow).own t).live=true->Ox s mp t (Qg (Z4 len st ow).own t):=λt hl=>by
   rcases KL (f:=ow) [] t with⟨p,h3,h4,h5⟩|h3
   .have:=aT p h3;rw[h4,<-h5] at this;exact this
   .simp only[Z4] at hl;rw[h3] at hl;cases hl
  refine⟨B,F,VB pl mp,Jp,hB,hG.bf,hG.le,HX hG st h1 (IE len),λt=>?_,λt i hl hi=>?_,λt t' i aJ hl cn hi cJ=>?_,λ_ _=>rfl⟩
  .cases hl:(Qg (Z4 len st ow).own t).live with
   |true=>exact(QI hG (ak t hl)).1
   |false =>
    cases ho:Qg (Z4 len st ow).own t with
    |dead=>trivial
    |stk l vals =>
     rcases KL (f:=ow) [] t with⟨p,h3,h4,h5⟩|h3
     .have:=aT p h3;simp only[Z4] at ho
      grind [QI]
     .simp only[Z4] at ho;rw[h3] at ho;cases ho
    |lpf l q u =>
     rcases KL (f:=ow) [] t with⟨p,h3,h4,h5⟩|h3
     .have:=aT p h3;simp only[Z4] at ho
      grind [QI]
     .simp only[Z4] at ho;rw[h3] at ho;cases ho
    |_=>rw[ho] at hl;cases hl
  .obtain⟨a,_,h4,h5⟩:=(QI hG (ak t hl)).2 hl i hi;exact hG.fresh a i h4 h5
  .obtain⟨a,e1,h4,h5⟩:=(QI hG (ak t hl)).2 hl i hi;obtain⟨a',e2,iH,rR⟩:=(QI hG (ak t' cn)).2 cn i cJ;by_cases e:a=a'
   .subst e;exact aJ (dm t t' a e1 e2)
   .exact hG.sep a a' i e h4 iH h5 rR
 .exact h.elim
theorem D6:∀ {cU ck:List SV}{vs:List Value}{B F:Heap}{s s':St},Gam P B F pl tb s env U->SRs P B pl tb cU vs->Q2s s cU=some (s',ck) ->
  ∃ B' F',GBase B F U B' F' U/\Gam P B' F' pl tb s' env U/\SRs P B' Xl Jp ck vs/\s'.env=s.env
 |[],ck,vs,B,F,s,s',hG,hs,h=>by simp only[Q2s,xg,Prod.mk.injEq] at h;obtain⟨rfl,rfl⟩:=h;exact⟨B,F,.of hG.bf (.refl _),hG,hs,rfl⟩
 |v::cU,ck,vs,B,F,s,s',hG,hs,h=>by
  simp only[SRs] at hs;obtain⟨u,us,rfl,h1,h2⟩:=hs
  have oh:∀ w:SV,SR P B pl tb w u->(bif w.pure then (match Q2s s cU with|some (s',r)=>some (s',w::r)|none=>none) else none)=some (s',ck) ->
    ∃ B' F',GBase B F U B' F' U/\Gam P B' F' pl tb s' env U/\SRs P B' Xl Jp ck (u::us)/\s'.env=s.env:=λw hw h=>by
   cases hp:w.pure with
   |false=>rw[hp] at h;cases h
   |true =>
    rw[hp] at h;simp only[zm] at h;split at h
    .rename_i s1 r heq;simp only[xg,Prod.mk.injEq] at h;obtain⟨rfl,rfl⟩:=h;obtain⟨B',F',k1,k2,k3,k4⟩:=D6 hG h2 heq;exact⟨B',F',k1,k2,by simp only[SRs];exact⟨u,us,rfl,SR.mono k1.b (λ_ _ h=>h) _ _ (Td w u hp hw),k3⟩,k4⟩
    .cases h
  simp only[Q2s] at h;split at h
  .rename_i o;split at h
   .rename_i l _ ho;cases hp:SVs.pure l with
    |false=>rw[hp] at h;cases h
    |true =>
     rw[hp] at h;simp only[zm] at h;split at h
     .rename_i s1 r heq;simp only[xg,Prod.mk.injEq] at h;obtain⟨rfl,rfl⟩:=h;have ak:=hG.obj o;rw[ho] at ak;obtain⟨i,c,e,t,e1,e2,e3,_⟩:=ak;obtain⟨k1,k2⟩:=hG.freeze (o:=o) (i:=i) (by rw[ho];rfl) (by rw[e1];rfl);obtain⟨B',F',j1,j2,j3,j4⟩:=D6 k2 (SRs.mono k1.b (λ_ _ h=>h) _ _ h2) heq;refine⟨B',F',k1.trans j1,j2,?_,j4⟩;simp only[SRs];refine⟨u,us,rfl,?_,j3⟩;simp only[SR] at h1 |-;obtain⟨b,q1,q2⟩:=h1;rw[e1] at q1;obtain rfl:i=b:=by simpa using q1
      refine⟨i,c,e,true,t,j1.b.2 _ _ ?_,q2,SRs.mono (k1.trans j1).b (λ_ _ h=>h) _ _ (Zw l c hp e3)⟩;rw[Heap.q0m];exact e2
     .cases h
   .cases h
  .exact oh _ h1 h
theorem Gam.lpUpd (hG:Gam P B F pl tb s env U) {n:Nat}{b b0:Blk}(hF:F.get n=some b0) (hB:B.get n=none):Gam P B (F.upd n b) pl tb s env (U.upd n b):=by
 have aJ:∀ {d i},(Qg s.own d).live=true->Oid (pl d) i->i≠n:=λh1 h2 e=>by have:=hG.fresh _ _ h1 h2;subst e;rw[hF] at this;cases this
 refine⟨⟨hG.bf.1,λi c hc=>?_⟩,⟨hG.le.1,λi c hc=>?_⟩,hG.env,λd=>(hG.obj d).mono (.refl _) (λ_ _ h=>h) (by grind [Heap.q0b]),λd i h1 h2=>?_,hG.sep,hG.free⟩
 .have:i≠n:=by rintro rfl;rw[hB] at hc;cases hc
  rw[Heap.q0b _ _ this];exact hG.bf.2 _ _ hc
 .by_cases e:i=n
  .subst e;rw[Heap.q0c _ _ (F.lt hF)] at hc;rw[Heap.q0c _ _ (xh (F.lt hF) hG.le.1)];exact hc
  .rw[Heap.q0b _ _ e] at hc |-;exact hG.le.2 _ _ hc
 .rw[Heap.q0b _ _ (aJ h1 h2)];exact hG.fresh _ _ h1 h2
theorem Gam.lpKill (hG:Gam P B F pl tb s env U) {n:Nat}{b0:Blk}(hF:F.get n=some b0) (hB:B.get n=none):Gam P B (F.kill n) pl tb s env (U.kill n):=by
 have aJ:∀ {d i},(Qg s.own d).live=true->Oid (pl d) i->i≠n:=λh1 h2 e=>by have:=hG.fresh _ _ h1 h2;subst e;rw[hF] at this;cases this
 refine⟨⟨hG.bf.1,λi c hc=>?_⟩,⟨hG.le.1,λi c hc=>?_⟩,hG.env,λd=>(hG.obj d).mono (.refl _) (λ_ _ h=>h) (by grind [Heap.q0d]),λd i h1 h2=>?_,hG.sep,hG.free⟩
 .have:i≠n:=by rintro rfl;rw[hB] at hc;cases hc
  rw[Heap.q0d _ this];exact hG.bf.2 _ _ hc
 .by_cases e:i=n
  .grind [Heap.q0h]
  .rw[Heap.q0d _ e] at hc |-;exact hG.le.2 _ _ hc
 .rw[Heap.q0d _ (aJ h1 h2)];exact hG.fresh _ _ h1 h2
theorem GRel.lpUpd {B1 F1 D0:Heap}(h:GRel P B1 F1 D0 s env U) {n:Nat}{b b0:Blk}(hF:F1.get n=some b0) (hB:B1.get n=none):GRel P B1 (F1.upd n b) D0 s env (U.upd n b):=by
 obtain⟨B,F,pl,tb,de,hG⟩:=h;have oi:=de.f.2 _ _ hF;have om:=de.x _ _ hF hB;refine⟨B,F.upd n b,pl,tb,⟨de.b,⟨de.f.1,λi c hc=>?_⟩,λi c h1 h2=>?_,⟨de.d.1,λi h1 h2=>?_⟩⟩,hG.lpUpd oi om⟩
 .by_cases e:i=n
  .subst e;rw[Heap.q0c _ _ (F1.lt hF)] at hc;rw[Heap.q0c _ _ (F.lt oi)];exact hc
  .rw[Heap.q0b _ _ e] at hc |-;exact de.f.2 _ _ hc
 .by_cases e:i=n
  .subst e;exact om
  .rw[Heap.q0b _ _ e] at h1;exact de.x _ _ h1 h2
 .have hd:=de.d.2 i h1 h2;have:i≠n:=by rintro rfl;rw[hG.le.2 _ _ oi] at hd;cases hd
  rw[Heap.q0b _ _ this];exact hd
theorem GRel.lpKill {B1 F1 D0:Heap}(h:GRel P B1 F1 D0 s env U) {n:Nat}{b0:Blk}(hF:F1.get n=some b0) (hB:B1.get n=none):GRel P B1 (F1.kill n) D0 s env (U.kill n):=by
 obtain⟨B,F,pl,tb,de,hG⟩:=h;have oi:=de.f.2 _ _ hF;have om:=de.x _ _ hF hB;refine⟨B,F.kill n,pl,tb,⟨de.b,⟨de.f.1,λi c hc=>?_⟩,λi c h1 h2=>?_,⟨de.d.1,λi h1 h2=>?_⟩⟩,hG.lpKill oi om⟩
 .by_cases e:i=n
  .grind [Heap.q0h]
  .rw[Heap.q0d _ e] at hc |-;exact de.f.2 _ _ hc
 .by_cases e:i=n
  .subst e;exact om
  .rw[Heap.q0d _ e] at h1;exact de.x _ _ h1 h2
 .have hd:=de.d.2 i h1 h2
  grind [Heap.q0h,Heap.q0d]
theorem GRel.base {B0 F0 B1 F1 D0:Heap}(h:GRel P B1 F1 D0 s env U) (hb:B0.Le B1) (hf:F0.Le F1) (hx:∀ i b,F0.get i=some b->B0.get i=none->B1.get i=none):GRel P B0 F0 D0 s env U:=by obtain⟨B,F,pl,tb,de,hG⟩:=h;exact⟨B,F,pl,tb,⟨hb.trans de.b,hf.trans de.f,λi b h1 h2=>de.x i b (hf.2 _ _ h1) (hx i b h1 h2),de.d⟩,hG⟩
theorem Dm (hG:Gam P B F pl tb s env U) {mp:List (Nat×Option Nat)}:∀ (st:List (Nat×SV)) {e:List SV},gmatch.slots s mp st->SRs P B (VB pl mp) Jp e env->SRs P B (VB pl mp) Jp (st.foldl (λe p=>e.set p.1 p.2) e) env
 |[],e,_,h=>h
 |(j,v)::r,e,hs,h=>by
  simp only[gmatch.slots] at hs;simp only[xJ];refine Dm hG r hs.2 ?_;have:=h.set j (KF v _ _ hs.1 (hG.env.getD j poison))
  grind [List.getElem?_eq_getElem,List.set_getElem_self,List.set_eq_of_length_le]
theorem AR {B:Heap}{pl:Nat->Value}{tb:Nat->Option Bool}:∀ (env:Env),SRs P B pl tb (List.replicate (List.length env) .any) env
 |[]=>by simp[SRs]
 |v::env=>by simp only[xF,xn,SRs];exact⟨_,_,rfl,by simp[SR],AR env⟩
theorem Vd {B0 F0 D0:Heap}(hR:GRel P B0 F0 D0 s env U) {st:List (Nat×SV)}{ow:List (Nat×Src×OB)}(h:gmatch s st ow):GRel P B0 F0 D0 (Z4 (List.length env) st ow) env U:=by
 obtain⟨B,F,pl,tb,hB,hG⟩:=hR;unfold gmatch at h;split at h
 .rename_i mp lA;obtain⟨h1,h2⟩:=h;have dm:=BC _ _ _ lA (λt t' a h=>by cases h);have aT:=S3 h2;have ak:∀ t,(Qg (Z4 (List.length env) st ow).own t).live=true->Ox s mp t (Qg (Z4 (List.length env) st ow).own t):=λt hl=>by
   rcases KL (f:=ow) [] t with⟨p,h3,h4,h5⟩|h3
   .have:=aT p h3;rw[h4,<-h5] at this;exact this
   .simp only[Z4] at hl;rw[h3] at hl;cases hl
  refine⟨B,F,VB pl mp,Jp,hB,hG.bf,hG.le,Dm hG st h1 (AR env),λt=>?_,λt i hl hi=>?_,λt t' i aJ hl cn hi cJ=>?_,λ_ _=>rfl⟩
  .cases hl:(Qg (Z4 (List.length env) st ow).own t).live with
   |true=>exact(QI hG (ak t hl)).1
   |false =>
    cases ho:Qg (Z4 (List.length env) st ow).own t with
    |dead=>trivial
    |stk l vals =>
     rcases KL (f:=ow) [] t with⟨p,h3,h4,h5⟩|h3
     .have:=aT p h3;simp only[Z4] at ho
      grind [QI]
     .simp only[Z4] at ho;rw[h3] at ho;cases ho
    |lpf l q u =>
     rcases KL (f:=ow) [] t with⟨p,h3,h4,h5⟩|h3
     .have:=aT p h3;simp only[Z4] at ho
      grind [QI]
     .simp only[Z4] at ho;rw[h3] at ho;cases ho
    |_=>rw[ho] at hl;cases hl
  .obtain⟨a,_,h4,h5⟩:=(QI hG (ak t hl)).2 hl i hi;exact hG.fresh a i h4 h5
  .obtain⟨a,e1,h4,h5⟩:=(QI hG (ak t hl)).2 hl i hi;obtain⟨a',e2,iH,rR⟩:=(QI hG (ak t' cn)).2 cn i cJ;by_cases e:a=a'
   .subst e;exact aJ (dm t t' a e1 e2)
   .exact hG.sep a a' i e h4 iH h5 rR
 .exact h.elim
theorem Ra {α:Type}{o:Option α}{f:α->Prop}(h:Q_ o f):∃ a,f a:=by
 cases o with
 |none=>exact h.elim
 |some a=>exact⟨a,h⟩
theorem COk.nx {C:Cx}(h:COk P C):COk P C.nx:=⟨h.cs,λf x hx=>(by cases hx),h.it,h.yl,h.iy,λf j _ x hx=>(by cases hx)⟩
theorem Wv {S:VSpecs}{Q:Prop}:∀ {ops:List DOper}{env:Env}{hs:List Heap}{U:Heap}{pend:List (Nat×(Heap->Prop))},J7 S ops env hs U pend (λ_ _=>Q)->Q
 |[],_,_,_,_,h=>h
 |o::r,env,hs,U,pend,h=>by
  simp only[J7] at h;obtain⟨b,h⟩:=Ra h;cases b with
  |true =>
   have h:=h.1 rfl;split at h
   .obtain⟨v,U',_,_,h⟩:=h;exact Wv h
   .split at h
    .obtain⟨p,_,h⟩:=Ra h;exact Wv h
    .obtain⟨p,h⟩:=Ra h;exact Wv h
  |false =>
   have h:=h.2 rfl;split at h
   .exact Wv h.2
   .exact Wv h
theorem HO {C:Cx}{s:St}{st:List (Nat×SV)}{ow:List (Nat×Src×OB)}{Q:Prop}:∀ (ls:List (List DOper)),Q2e C ls s st ow Q->(∀ l∈ls,X0 C.nx l s 1 0 [] [] λs'=>Da s.env.length s' st ow)/\Q
 |[],h=>⟨λl hl=>(by cases hl),h⟩
 |l::ls,h=>by obtain⟨h1,h2⟩:=h;obtain⟨h3,h4⟩:=HO ls h2;simp_all
theorem Vt {B0 F0 D0:Heap}{s:St}{env:Env}{U:Heap}{n:Nat}(hR:GRel P B0 F0 D0 s env U) {st:List (Nat×SV)}{ow:List (Nat×Src×OB)}(h:Da n s st ow):GRel P B0 F0 D0 (Z4 n st ow) env U:=by
 unfold Da at h;cases hb:Nat.beq s.env.length n with
 |false=>rw[hb] at h;exact h.elim
 |true =>
  rw[hb] at h;have hl:env.length=n:=by rw[<-zP hb];obtain⟨_,_,_,_,_,hG⟩:=hR;exact hG.env.length.symm
  rw[<-hl];exact Vd hR h
theorem Wp {C:Cx}(az:COk P C) {B0 F0 D0:Heap}:∀ (aO:List DSeg) {s:St}{env:Env}{U:Heap},GRel P B0 F0 D0 s env U->∀ {K:St->Prop},TW C aO s K->∀ {R:Env->Heap->Prop},(∀ s' ae U',K s'->GRel P B0 F0 D0 s' ae U'->R ae U')->N8 (Q3 P) aO env U R
 |[],s,env,U,hR,K,h,R,hK=>hK s env U h hR
 |.one o::r,s,env,U,hR,K,h,R,hK=>by refine N7 az [o] hR (K:=λs'=>TW C r s' K) h λs' ae U' h1 h2=>?_;exact Wp az r h2 h1 hK
 |.alts [l]::r,s,env,U,hR,K,h,R,hK=>by
  simp only[TW] at h;cases hd:Q16 l with
  |false =>
   rw[hd] at h;simp only[zL] at h;cases hk:l.all (λo=>o.kind==o.op.kind) with
   |false=>rw[hk] at h;exact h.elim
   |true =>rw[hk] at h;simp only[zm] at h;intro ops ho;obtain rfl:=zI.1 ho;obtain⟨B,F,pl,tb,hB,hG⟩:=hR;have one:∀ (j:Nat) (Z:Heap),([U]:List Heap)[j]?=some Z->Z=U:=(by grind);exact Qo az ops (by simp_all) hB hG (hl:=1) (chg:=0) (A:=[]) (Rd:=[]) ⟨rfl,λj Z _ ht=>one j Z ht,(λc hc=>absurd hc (by simp)),(by grind)⟩ (pend:=[]) (pd:=[]) (λc hc=>absurd hc (by simp)) (λj Z ht _=>by rw[one j Z ht];exact hG.leB) (Nat.zero_le _) (Nat.succ_pos _) h λs' ae U' h1 h2=>⟨ae,U',.refl _ _ _,Wp az r h2 h1 hK⟩
  |true =>rw[hd] at h;refine FT (l:=l) hd ?_;exact N7 az _ hR h λs' ae U' h1 h2=>Wp az r h2 h1 hK
 |.alts []::r,s,env,U,hR,K,h,R,hK=>h.elim
 |.alts (l::l2::ls)::r,s,env,U,hR,K,h,R,hK=>by
  simp only[TW] at h;cases hk:(l::l2::ls).all (λl=>l.all λo=>o.kind==o.op.kind) with
  |false=>rw[hk] at h;exact h.elim
  |true =>
   rw[hk] at h;simp only[zm] at h;obtain⟨B,F,pl,tb,hB,hG⟩:=hR;have one:∀ (j:Nat) (Z:Heap),([U]:List Heap)[j]?=some Z->Z=U:=(by grind);have run:∀ l'∈l::l2::ls,∀ {K':St->Prop},X0 C.nx l' s 1 0 [] [] K'->∀ {R':Env->Heap->Prop},(∀ s' ae U',K' s'->GRel P B0 F0 D0 s' ae U'->R' ae U')->J7 (Q3 P) l' env [U] U [] R':=λl' cn K' h' R' rO =>
    Ql az.nx rfl l' (by grind) hB hG (hl:=1) (chg:=0) (A:=[]) (Rd:=[]) ⟨rfl,λj Z _ ht=>one j Z ht,(λc hc=>absurd hc (by simp)),(by grind)⟩ (pend:=[]) (pd:=[]) (λc hc=>absurd hc (by simp)) (λj Z ht _=>by rw[one j Z ht];exact hG.leB) (Nat.zero_le _) (Nat.succ_pos _) h' rO
   obtain⟨s0,h0,h1⟩:=Wv (run l zQ h (R':=λ_ _=>∃ s0:St,_) λs' _ _ h' _=>⟨s',h'⟩);obtain⟨h2,h3⟩:=HO _ h1;intro ops ho;rcases zG.1 ho with rfl|gU
   .refine Wl ?_;exact run ops ho h λs' ae U' h' rS=>⟨ae,U',.refl _ _ _,by
     obtain⟨k1,k2⟩:=h';exact Wp az r (Vt rS k1) (HO _ k2).2 hK⟩
   .refine Wl ?_;exact run ops ho (h2 ops gU) λs' ae U' h' rS=>⟨ae,U',.refl _ _ _,Wp az r (Vt rS h') h3 hK⟩
theorem Pw:∀ (l:List Nat) (vs:List SV),(Q37 l vs).map (·.1)=l
 |[],_=>rfl
 |j::js,[]=>by simp[Q37,Pw js []]
 |j::js,v::vs=>by simp[Q37,Pw js vs]
theorem Ut {B:Heap}{pl:Nat->Value}{tb:Nat->Option Bool}:∀ {ps:List Nat}{xs:List SV}{us:List Value}{e:List SV}{env:Env},SRs P B pl tb xs us->SRs P B pl tb e env->SRs P B pl tb (Gj e ps xs) (H9 env ps us)
 |[],xs,us,e,env,_,h=>by simpa [Gj,H9] using h
 |p::ps,[],us,e,env,hx,h=>by simp only[SRs] at hx;subst hx;simpa [Gj,H9] using h
 |p::ps,x::xs,us,e,env,hx,h=>by simp only[SRs] at hx;obtain⟨u,my,rfl,h1,h2⟩:=hx;simp only[Gj,H9];exact Ut h2 (h.set p h1)
def Q7g (F0:Heap):Option Nat->Prop
 |none=>True
 |some i=>∃ env r st pend,F0.get i=some (.obj (.lp env r st pend) true)
theorem Gam.dropLp {B F:Heap}{pl:Nat->Value}{tb:Nat->Option Bool}{s:St}{env:Env}{U:Heap}(hG:Gam P B F pl tb s env U) {o:Nat}{l:List SV}{q:LpD}{u:LpS}(ho:Qg s.own o=.lpf l q u) (hl:u.live=true) :
  Gam P B F pl tb ⟨l,oset s.own o .dead,s.nx⟩ q.vals (U.kill q.i)/\U.get q.i=some (.obj (.lp q.vals q.r u.st u.pend) true):=by
 have ak:=hG.obj o;rw[ho] at ak;obtain⟨h1,h2,h3⟩:=ak;have ja:(Qg s.own o).live=true:=by rw[ho];exact hl
 have mB:Oid (pl o) q.i:=by rw[h1];rfl
 have hF:=hG.fresh o q.i ja mB;have lv:∀ d,(Qg (oset s.own o .dead) d).live=true->d≠o/\(Qg s.own d).live=true:=λd h=>by
  rw[Qt] at h;by_cases e:d=o
  .rw[z7 e] at h;cases h
  .rw[z6 e] at h;exact⟨e,h⟩
 refine⟨⟨hG.bf,⟨hG.le.1,λj b hb=>?_⟩,h2,λd=>?_,λd i hd hi=>hG.fresh d i (lv d hd).2 hi,λd d' i e h h'=>hG.sep d d' i e (lv d h).2 (lv d' h').2,hG.free⟩,h3 hl⟩
 .have e:j≠q.i:=by rintro rfl;rw[hF] at hb;cases hb
  rw[Heap.q0d _ e];exact hG.le.2 _ _ hb
 .rw[Qt];by_cases e:d=o
  .rw[z7 e];trivial
  .rw[z6 e];refine (hG.obj d).mono (.refl _) (λ_ _ h=>h) λhd i hi=>?_;have:i≠q.i:=by rintro rfl;exact hG.sep d o q.i e hd ja hi mB
   exact Heap.q0d _ this
theorem FR (s:St) (o:Nat) (b:OB) (j:Nat):Qg (s.make o b).own j=if j=o then b else (Qg s.own j).kill o:=by
 simp only[St.make,Qt];by_cases h:j=o
 .subst h;simp
 .simp only[h,if_false,St.kill,Yj]
theorem Gam.enterLp {B F:Heap}{pl:Nat->Value}{tb:Nat->Option Bool}{s:St}{env:Env}{U:Heap}(hG:Gam P B F pl tb s env U) {o aF:Nat}{l:List SV}{q:LpD}(ho:Qg s.own o=.lpf l q .rdy) (aJ:o≠aF)
  {args:List SV}{us:List Value}(au:SRs P B pl tb args us) (ps:List Nat) :
  Gam P B (F.ins U q.i hG.le.1) (Jk pl aF poison) tb ⟨Gj (SVs.kill aF l) ps (SVs.kill aF args),oset (Ca aF env s).own o (.lpf (SVs.kill aF l) q .busy),s.nx⟩ (H9 q.vals ps us) U:=by
 have q3:Gam P B F (Jk pl aF poison) tb (Ca aF env s) env U:=by refine hG.make aF _ poison hG.le (λ_ _ _ _ _=>rfl) ?_ (λi hl _=>by cases hl);exact SRs.upd (.refl _) (λ_ _ h=>h) (λj hj=>by simp[Jk,hj]) _ _ hG.env
 have ak:=hG.obj o;rw[ho] at ak;obtain⟨h1,h2,h3⟩:=ak;have ja:(Qg s.own o).live=true:=by rw[ho];rfl
 have rT:Jk pl aF poison o=.pointer (some ⟨q.i,0,none⟩):=by simp[Jk,aJ,h1]
 have vp:Qg (Ca aF env s).own o=.lpf (SVs.kill aF l) q .rdy:=by have:=FR s aF (.stk (SVs.kill aF s.env) env) o;unfold Ca;rw[this,z6 aJ,ho];rfl
 have oo:(Qg (Ca aF env s).own o).live=true:=by rw[vp];rfl
 have mB:Oid (Jk pl aF poison o) q.i:=by rw[rT];rfl
 have hF:=q3.fresh o q.i oo mB;have bX:SRs P B (Jk pl aF poison) tb (SVs.kill aF l) q.vals:=SRs.upd (.refl _) (λ_ _ h=>h) (λj hj=>by simp[Jk,hj]) _ _ h2;have vq:SRs P B (Jk pl aF poison) tb (SVs.kill aF args) us:=SRs.upd (.refl _) (λ_ _ h=>h) (λj hj=>by simp[Jk,hj]) _ _ au;have lv:∀ d,(Qg (oset (Ca aF env s).own o (.lpf (SVs.kill aF l) q .busy)) d).live=true->d≠o/\(Qg (Ca aF env s).own d).live=true:=λd h=>by
  rw[Qt] at h;by_cases e:d=o
  .rw[z7 e] at h;cases h
  .rw[z6 e] at h;exact⟨e,h⟩
 refine⟨q3.bf.trans (hG.le.ins _),hG.le.q1x _,Ut vq bX,λd=>?_,λd i hd hi=>?_,λd d' i e h h'=>q3.sep d d' i e (lv d h).2 (lv d' h').2,q3.free⟩
 .show OR P B _ tb U _ (Qg (oset _ o _) d);rw[Qt];by_cases e:d=o
  .subst e;rw[z7 rfl];exact⟨rT,bX,λh=>by cases h⟩
  .rw[z6 e];exact q3.obj d
 .obtain⟨e,qq⟩:=lv d hd;have:i≠q.i:=by rintro rfl;exact q3.sep d o q.i e qq oo hi mB
  rw[Heap.q1a _ _ _ this];exact q3.fresh d i qq hi
theorem Gam.leaveLp {B F:Heap}{pl:Nat->Value}{tb:Nat->Option Bool}{s:St}{env:Env}{U:Heap}(hG:Gam P B F pl tb s env U) {o aF:Nat}{l l2:List SV}{iR:List Value}{q:LpD}{b0:Blk}(hF:F.get q.i=some b0) (hB:B.get q.i=none)
  (h2:Qg s.own aF=.stk l2 iR) (ho:Qg s.own o=.lpf l q .busy) (u:LpS) :
  Gam P B (F.kill q.i) pl tb ⟨l2,oset (oset s.own aF .dead) o (.lpf l q u),s.nx⟩ iR (U.upd q.i (.obj (.lp q.vals q.r u.st u.pend) true)):=by
 have ak:=hG.obj o;rw[ho] at ak;obtain⟨k1,k2,_⟩:=ak;have hk:=hG.obj aF;rw[h2] at hk;have hi:q.i<U.n:=U.lt (hG.le.2 _ _ hF);have aJ:∀ {d i},(Qg s.own d).live=true->Oid (pl d) i->i≠q.i:=λh1 h2 e=>by have:=hG.fresh _ _ h1 h2;subst e;rw[hF] at this;cases this
 have mB:∀ i,Oid (pl o) i->i=q.i:=λi h=>by rw[k1] at h;exact(osj h).symm
 have hg:∀ d,Qg (oset (oset s.own aF .dead) o (.lpf l q u)) d=if d=o then .lpf l q u else if d=aF then .dead else Qg s.own d:=λd=>by rw[Qt,Qt]
 have lv:∀ d,d≠o->(Qg (oset (oset s.own aF .dead) o (.lpf l q u)) d).live=true->(Qg s.own d).live=true:=λd e h=>by
  rw[hg,z6 e] at h;split at h
  .cases h
  .exact h
 refine⟨⟨hG.bf.1,λj b hb=>?_⟩,⟨hG.le.1,λj b hb=>?_⟩,hk,λd=>?_,λd i hd cJ=>?_,λd d' i e h h' h1 jo=>?_,hG.free⟩
 .have e:j≠q.i:=by rintro rfl;rw[hB] at hb;cases hb
  rw[Heap.q0d _ e];exact hG.bf.2 _ _ hb
 .by_cases e:j=q.i
  .grind [Heap.q0h]
  .rw[Heap.q0d _ e] at hb;rw[Heap.q0b _ _ e];exact hG.le.2 _ _ hb
 .show OR P B pl tb _ _ (Qg (oset _ o _) d);rw[hg];by_cases e:d=o
  .subst e;rw[z7 rfl];exact⟨k1,k2,λ_=>Heap.q0c _ _ hi⟩
  .rw[z6 e];split
   .trivial
   .exact(hG.obj d).mono (.refl _) (λ_ _ h=>h) (by grind [Heap.q0b])
 .by_cases e:d=o
  .grind [Heap.q0h]
  .rw[Heap.q0d _ (aJ (lv d e hd) cJ)];exact hG.fresh d i (lv d e hd) cJ
 .by_cases e1:d=o
  .grind
  .by_cases e2:d'=o
   .grind
   .exact hG.sep d d' i e (lv d e1 h) (lv d' e2 h') h1 jo
theorem HM {C:Cx}(az:COk P C) {L:List (Nat×LoopAnn)}(vc:VCode):∀ {B0 F0 D0:Heap}(n:Nat) (K:Exit->St->Prop) (s:St) (env:Env) (U:Heap) (ro:Option Nat) (Q:Exit->Env->Heap->Prop),Q7g F0 ro->GRel P B0 F0 D0 s env U->gwp C L vc n K s->(∀ e s' ae U',K e s'->GRel P B0 F0 D0 s' ae U'->Q e ae U')->vwp (Q3 P) vc ro Q env U:=by
 induction vc with
 |skip=>intro B0 F0 D0 n K s env U ro Q bI hR h hK;exact hK _ _ _ _ h hR
 |region ops=>intro B0 F0 D0 n K s env U ro Q bI hR h hK;exact N7 az ops hR h (by grind)
 |regionD aO=>intro B0 F0 D0 n K s env U ro Q bI hR h hK;exact Wp az aO hR h (by grind)
 |rangeF g ps a b ff eI =>
  intro B0 F0 D0 n K s env U ro Q bI hR h hK;simp only[gwp] at h;split at h
  .rename_i f first cU hg
   split at h
   .
    rename_i x hx;obtain⟨B,F,pl,tb,hB,hG⟩:=hR;have gh:=hG.evs (Gds.nil (tb:=tb)) g;rw[hg] at gh;simp only[SR] at gh;obtain⟨x',y',aZ,lB,oq⟩:=gh;obtain⟨hU,mz⟩:=az.iy f x hx;show vwp (Q3 P) (.rangeF g ps a b) ro Q env U;simp only[vwp,SP,aZ];have lC:(Q3 P).it f=some λi Y args U K=>Kr P i Y->VCallsTo P f args U K:=by simp only[Q3];rw[z7 hU]
    rw[lC];refine⟨?_,λr hY=>?_⟩
    .cases ro with
     |none=>trivial
     |some i =>obtain⟨e1,r1,st1,rU,hi⟩:=bI;exact⟨e1,r1,st1,rU,hG.le.2 _ _ (hB.f.2 _ _ hi)⟩
    generalize jE:C.off+2000000+n=o at h;generalize fx:100000*(o+1)-1=aF at h;have aj:o≠aF:=by omega
    let q:LpD:=⟨U.n,env,r⟩;let rdy:Blk:=.obj (.lp env r .ready none) true;let eK:Blk:=.obj (.lp env r .busy none) true;let p0:Value:=.pointer (some ⟨U.n,0,none⟩);have iC:Gam P B F (Jk pl o p0) tb (Q8o o q s) env (U.push rdy):=by refine hG.push o (.lpf (SVs.kill o s.env) q .rdy) p0 rdy rfl ⟨rfl,SRs.upd (.refl _) (λ_ _ h=>h) (λj hj=>by simp[Jk,hj]) _ _ hG.env,λ_=>Heap.q0a _ _⟩
    have kl:∀ {xs us},SRs P B pl tb xs us->SRs P B (Jk pl o p0) tb (SVs.kill o xs) us:=λh=>SRs.upd (.refl _) (λ_ _ h=>h) (λj hj=>by simp[Jk,hj]) _ _ h;have au:SRs P B (Jk pl o p0) tb (SVs.kill o first++(.dd o .yv::SVs.kill o cU)) (x'++(.func (.yield U.n) #[] #[]::y')):=by refine (kl lB).append ?_;simp only[SRs,SR,DR];exact⟨_,_,rfl,⟨U.n,by simp[Jk,p0],rfl⟩,kl oq⟩
    have vt:OE P o (O4 o aF ps.length q (λK' s'=>gwp C L a n (Q0n (λs3=>gwp C L b n K' s3) λ_ _=>False) s') ps):=by
     intro B F pl tb s ae U args us K R i hG ha hy rT hK;unfold O4 at hy;split at hy
     .rename_i l q' u ho;split at hy
      .cases hlen:Nat.beq args.length ps.length with
       |false=>rw[hlen] at hy;exact hy.elim
       |true =>
       rw[hlen] at hy;simp only[zm] at hy;obtain⟨rfl,hy⟩:=hy;have ak:=hG.obj o;rw[ho] at ak;have hi:i=q.i:=by have h1:=ak.1;simp_all
       subst hi;have mD:U.get q.i=some rdy:=ak.2.2 rfl;have ja:(Qg s.own o).live=true:=by rw[ho];rfl
       have n_:F.get q.i=none:=hG.fresh o q.i ja (by rw[ak.1];rfl);have tm:B.get q.i=none:=by
        cases hb:B.get q.i with
        |none=>rfl
        |some b=>rw[hG.bf.2 _ _ hb] at n_;cases n_
       have j9:=hG.enterLp ho aj ha ps;have jt:(F.ins U q.i hG.le.1).get q.i=some rdy:=by rw[Heap.q0m];exact mD
       have gp:(F.ins U q.i hG.le.1).n=U.n:=rfl;have aL:q.i<U.n:=U.lt mD;refine hY us U R ⟨mD,by rw[<-ha.length];exact(zP hlen),?_⟩;refine ff (B0:=B) (F0:=F.ins U q.i hG.le.1) (D0:=U) n _ _ _ U (some q.i) _ ⟨env,r,_,_,jt⟩ ⟨B,_,_,tb,.of j9.bf (Dead.refl _),j9⟩ (hy ae) λe s3 rV σ3 h7 h8=>?_;cases e with
       |normal =>
        have kM:σ3.get q.i=some rdy:=by obtain⟨B',F',pl',tb',q1,q2⟩:=h8;exact q2.le.2 _ _ (q1.f.2 _ _ jt)
        refine⟨kM,?_⟩;have h9:=h8.lpUpd (b:=eK) jt tm;have mF:((F.ins U q.i hG.le.1).upd q.i eK).get q.i=some eK:=(by grind [Heap.q0c]);refine eI (B0:=B) (F0:=(F.ins U q.i hG.le.1).upd q.i eK) (D0:=U) n _ _ _ _ (some q.i) _ ⟨env,r,_,_,mF⟩ h9 h7 λe s4 rW σ4 bJ gm=>?_;obtain⟨B',F',pl',tb',q1,q2⟩:=gm;have qs:=q1.f.2 _ _ mF;have rX:=q1.x _ _ mF tm;have ot:σ4.get q.i=some eK:=q2.le.2 _ _ qs;unfold gyK at bJ;split at bJ
        .rename_i l2 iR l3 q3 u3 ax rY;split at bJ
         .obtain⟨rfl,rfl,bJ⟩:=bJ;have base:∀ b,GBase B F U B' (F'.kill q.i) (σ4.upd q.i b):=λb=>by
           refine⟨q1.b,⟨?_,λj c hc=>?_⟩,λj c h1 h2=>?_,q1.d.trans (Dead.upd _ _ _ (by rw[ot];rfl))⟩
           .have h1:=q1.f.1;have h2:=hG.le.1;show F.n<=F'.n;have h3:((F.ins U q.i hG.le.1).upd q.i eK).n=U.n:=rfl;omega
           .have e:j≠q.i:=by rintro rfl;rw[n_] at hc;cases hc
            rw[Heap.q0d _ e];refine q1.f.2 _ _ ?_
            grind [Heap.q0b,Heap.q1a]
           .have e:j≠q.i:=by rintro rfl;rw[n_] at h1;cases h1
            refine q1.x j c ?_ h2
            grind [Heap.q0b,Heap.q1a]
          refine⟨ot,?_⟩;cases e with
          |normal=>exact hK _ _ B' _ pl' tb' _ _ bJ (base _) (q2.leaveLp qs rX ax rY .rdy) (by simp[SR,KC])
          |ret=>exact hK _ _ B' _ pl' tb' _ _ bJ (base _) (q2.leaveLp qs rX ax rY .ret) (by simp[SR,KC])
          |exit id=>exact hK _ _ B' _ pl' tb' _ _ bJ (base _) (q2.leaveLp qs rX ax rY (.exit id)) (by simp[SR,KC])
          |_=>exact bJ.elim
         .exact bJ.elim
        .exact bJ.elim
       |_=>exact h7.elim
      .exact hy.elim
     .exact hy.elim
    have aP:=mz B F _ tb _ env (U.push rdy) o _ _ _ (Q2z o q K) (λZ=>Q0g Q env U.n poison Z) iC au vt (h q) λs' B' F' pl' tb' ae U' hk hb dg=>by
     unfold Q2z at hk;split at hk
     .rename_i l q' u ho;have fin:∀ {e:Exit},u.live=true->q'=q->K e ⟨l,oset s'.own o .dead,s'.nx⟩->Q e env (U'.kill U.n)/\U'.get U.n=some (.obj (.lp env r u.st u.pend) true):=λ{e} hu hq tn=>by
       subst hq;obtain⟨g1,g2⟩:=dg.dropLp ho hu;refine⟨hK _ _ _ _ tn ⟨B',F',pl',tb',⟨hB.b.trans hb.b,hB.f.trans hb.f,λj c h1 h2=>hb.x j c (hB.f.2 _ _ h1) (hB.x j c h1 h2),hB.d.trans ((Dead.push _ _).trans (hb.d.trans (Dead.kill _ _)))⟩,g1⟩,g2⟩
      cases u with
      |busy=>exact hk.elim
      |rdy =>obtain⟨hq,hk⟩:=hk;obtain⟨k1,k2⟩:=fin rfl hq hk;unfold Q0g;rw[k2];exact⟨(by intro h;cases h),k1⟩
      |ret =>obtain⟨hq,hk⟩:=hk;obtain⟨k1,k2⟩:=fin rfl hq hk;unfold Q0g;rw[k2];exact⟨(by intro h;cases h),k1⟩
      |exit id =>obtain⟨hq,hk⟩:=hk;obtain⟨k1,k2⟩:=fin rfl hq hk;unfold Q0g;rw[k2];exact⟨(by intro h;cases h),k1⟩
     .exact hk.elim
    refine VCallsTo.mono (R:=λ_ Z=>Q0g Q env U.n poison Z) (by simpa using aP) λv Z h=>h
   split at h
   rotate_left
   .exact h.elim
   split at h
   .rename_i it s1 ck A hit rZ hA;split at h
    .rename_i c m ar xs hc;cases er:Nat.beq ps.length ar with
     |false=>rw[er] at h;exact h.elim
     |true =>
     rw[er] at h;simp only[zm] at h;obtain⟨dA,p,d0,ez,I,vu,tq,vw⟩:=h;have er:=zP er;have hlen:s.env.length=env.length:=by obtain⟨B,F,pl,tb,_,hG⟩:=hR;exact hG.env.length
     rw[hlen] at tq vw;have rL:=hR;obtain⟨B,F,pl,tb,hB,hG⟩:=hR;have gh:=hG.evs Gds.nil g;rw[hg] at gh;simp only[SR] at gh;obtain⟨x,y,aZ,hx,hy⟩:=gh;simp only[SRs] at hx;subst hx;obtain⟨B1,F1,ou,fY,r4,jI⟩:=D6 hG hy rZ;obtain⟨hU,r5⟩:=az.it f it hit;obtain⟨ov,r6⟩:=r5 B1 ck y c m ar xs r4 hc dA;have vz:GRel P B1 F1 D0 (Z4 (List.length env) (A.st p d0) (A.own p d0)) env U:=Vd ⟨B1,F1,pl,tb,⟨.refl _,.refl _,λ_ _ _ h=>h,(hB.trans ou).d⟩,fY⟩ ez;have j_:B1.get U.n=none:=B1.wf _ fY.leB.1;have r7:F1.get U.n=none:=F1.wf _ fY.le.1;show vwp (Q3 P) (.rangeF g ps a b) ro Q env U;simp only[vwp,SP,aZ];have lC:(Q3 P).it f=some λi Y args U K=>Kr P i Y->VCallsTo P f args U K:=by simp only[Q3];rw[z7 hU]
     rw[lC];refine⟨?_,λr hY=>?_⟩
     .cases ro with
      |none=>trivial
      |some i =>obtain⟨e1,r1,st1,rU,hi⟩:=bI;exact⟨e1,r1,st1,rU,hG.le.2 _ _ (hB.f.2 _ _ hi)⟩
     .let rdy:Blk:=.obj (.lp env r .ready none) true;let eK:Blk:=.obj (.lp env r .busy none) true;have ka:F1.Le (U.push rdy):=fY.le.push rdy;let Fr:=F1.ins (U.push rdy) U.n ka.1;have jt:Fr.get U.n=some rdy:=by
       grind [Heap.q0m,Heap.q0a]
      have gp:Fr.n=U.n+1:=rfl;have vA:F1.Le Fr:=ka.ins U.n;let J:Nat->Heap->Prop:=λk Z=>∃ d,I k d/\GRel P B1 Fr D0 (Z4 (List.length env) (A.st p d) (A.own p d)) env Z;let E:Heap->Prop:=λZ=>∃ cd e,Z.get U.n=some (.obj (.lp env r .done (some cd)) true)/\((cd=.ret/\e=Exit.ret)\/∃ id,cd=.exit id/\e=Exit.exit id)/\Q e env (Z.kill U.n);have back:∀ {s':St}{Z:Heap},GRel P B1 (Fr.upd U.n eK) D0 s' env Z->∀ b,GRel P B1 ((Fr.upd U.n eK).upd U.n b) D0 s' env (Z.upd U.n b):=λh b =>
       h.lpUpd (b0:=eK) (Heap.q0c _ _ (by rw[gp];omega)) j_
      have ke:∀ {Fx:Heap}{b0:Blk}{s':St}{Z:Heap},Fx.get U.n=some b0->(∀ i,i≠U.n->Fx.get i=F1.get i)->Fx.n=U.n+1->GRel P B1 Fx D0 s' env Z->GRel P B0 F0 D0 s' env (Z.kill U.n):=λ{Fx b0 s' Z} h1 h2 h3 h4=>by
       refine (h4.lpKill h1 j_).base (hB.b.trans ou.b) ⟨?_,λi b hb=>?_⟩ λi b k1 k2=>(hB.trans ou).x i b k1 k2
       .show F0.n<=Fx.n;rw[h3];have:=(hB.trans ou).f.1;have:=fY.le.1;omega
       .have bz:=(hB.trans ou).f.2 _ _ hb
        grind [Heap.q0d]
      have r_:∀ i,i≠U.n->Fr.get i=F1.get i:=λi e=>Heap.q1a _ _ _ e;have aP:=r6 U.n _ J E (U.push rdy) hY (λk Z ⟨d,_,hd⟩=>?_) (λk us Z hk ⟨d,tu,hd⟩ eM=>?_) ⟨d0,vu,?_⟩
      .refine VCallsTo.mono (R:=λ_ Z=>J m Z\/E Z) (by simpa using aP) λv Z sZ=>?_;unfold Q0g;rcases sZ with⟨d,tu,hd⟩|⟨cd,e,h1,h2,h3⟩
       .have mD:Z.get U.n=some rdy:=by
         obtain⟨B',F',pl',tb',q1,q2⟩:=hd;exact q2.le.2 _ _ (q1.f.2 _ _ jt)
        grind
       grind
      .obtain⟨B',F',pl',tb',q1,q2⟩:=hd;exact q1.b.trans q2.leB
      .
       have mD:Z.get U.n=some rdy:=by obtain⟨B',F',pl',tb',q1,q2⟩:=hd;exact q2.le.2 _ _ (q1.f.2 _ _ jt)
       refine⟨mD,by rw[er,<-(ov k).1,eM.length],?_⟩;have hF:=tq k d hk tu env;have bB:GRel P B1 Fr D0 ⟨Gj (Ca (2000000+n) env (Z4 (List.length env) (A.st p d) (A.own p d))).env ps (xs k),(Ca (2000000+n) env (Z4 (List.length env) (A.st p d) (A.own p d))).own,0⟩ (H9 env ps us) Z:=by
        obtain⟨B',F',pl',tb',q1,q2⟩:=hd;have q3:Gam P B' F' (Jk pl' (2000000+n) poison) tb' (Ca (2000000+n) env (Z4 (List.length env) (A.st p d) (A.own p d))) env Z:=by refine q2.make (2000000+n) _ poison q2.le (λ_ _ _ _ _=>rfl) ?_ (λi hl _=>by cases hl);exact SRs.upd (.refl _) (λ_ _ h=>h) (λj hj=>by simp[Jk,hj]) _ _ q2.env
        refine⟨B',F',Jk pl' (2000000+n) poison,tb',q1,⟨q3.bf,q3.le,Ut ?_ q3.env,q3.obj,q3.fresh,q3.sep,?_⟩⟩
        .exact SRs.mono q1.b (λ_ _ h=>h) _ _ (Zw _ _ (ov k).2 eM)
        .exact q3.free
       refine ff (B0:=B1) (F0:=Fr) n _ _ _ Z (some U.n) _ ⟨env,r,_,_,jt⟩ bB hF λe s3 rV σ3 h7 h8=>?_;cases e with
       |normal =>
        have kM:σ3.get U.n=some rdy:=by obtain⟨B',F',pl',tb',q1,q2⟩:=h8;exact q2.le.2 _ _ (q1.f.2 _ _ jt)
        refine⟨kM,?_⟩;have h9:=h8.lpUpd (b:=eK) jt j_;have mF:(Fr.upd U.n eK).get U.n=some eK:=Heap.q0c _ _ (by rw[gp];omega);refine eI (B0:=B1) (F0:=Fr.upd U.n eK) n _ _ _ _ (some U.n) _ ⟨env,r,_,_,mF⟩ h9 h7 λe s4 rW σ4 bJ gm=>?_;have ot:σ4.get U.n=some eK:=by obtain⟨B',F',pl',tb',q1,q2⟩:=gm;exact q2.le.2 _ _ (q1.f.2 _ _ mF)
        have tv:U.n<σ4.n:=σ4.lt ot;unfold Ou at bJ;split at bJ
        .rename_i l vs lD;obtain⟨rfl,bJ⟩:=bJ;have cR:GRel P B1 (Fr.upd U.n eK) D0 ⟨l,s4.own,s4.nx⟩ vs σ4:=by
          obtain⟨B',F',pl',tb',q1,q2⟩:=gm;have:=q2.obj (2000000+n);rw[lD] at this;exact⟨B',F',pl',tb',q1,q2.bf,q2.le,this,q2.obj,q2.fresh,q2.sep,q2.free⟩
         have ox:∀ b,((Fr.upd U.n eK).upd U.n b).get U.n=some b:=λb=>Heap.q0c _ _ (by show U.n<Fr.n;rw[gp];omega);have tw:∀ b i,i≠U.n->((Fr.upd U.n eK).upd U.n b).get i=F1.get i:=(by grind [Heap.q0b]);refine⟨ot,?_⟩;cases e with
         |normal =>
          obtain⟨d',nV,qo⟩:=bJ;refine .inl ⟨rfl,d',qo,?_⟩;have:=(back (Vd cR nV) rdy).base (B0:=B1) (F0:=Fr) (.refl _) ⟨zd _,λi b hb=>?_⟩ λi b k1 k2=>k2
          .exact this
          .grind
         |ret =>refine .inr ⟨rfl,_,_,Heap.q0c _ _ tv,.inl ⟨rfl,rfl⟩,hK _ _ _ _ bJ (ke (ox _) (tw _) (by show Fr.n=_;exact gp) (back cR _))⟩
         |exit id =>refine .inr ⟨rfl,_,_,Heap.q0c _ _ tv,.inr ⟨id,rfl,rfl⟩,hK _ _ _ _ bJ (ke (ox _) (tw _) (by show Fr.n=_;exact gp) (back cR _))⟩
         |_=>exact bJ.elim
        .exact bJ.elim
       |_=>exact h7.elim
      .
       obtain⟨B',F',pl',tb',q1,q2⟩:=vz;have hle:F'.Le (U.push rdy):=q2.le.push rdy;have vB:F'.get U.n=none:=F'.wf _ q2.le.1;have ak:∀ d i,(Qg (Z4 (List.length env) (A.st p d0) (A.own p d0)).own d).live=true->Oid (pl' d) i->i<U.n:=λd i h1 h2=>(q2.obj d).q1l h1 h2;refine⟨B',F'.ins (U.push rdy) U.n hle.1,pl',tb',⟨q1.b,Heap.q2b q1.f _ _ _,λi b k1 k2=>?_,q1.d.trans (Dead.push _ _)⟩,⟨q2.bf.trans (hle.ins _),hle.q1x _,q2.env,λd=>(q2.obj d).mono (.refl _) (λ_ _ h=>h) (by grind [Heap.q0j]),λd i h1 h2=>?_,q2.sep,q2.free⟩⟩
       .by_cases e:i=U.n
        .subst e;exact B'.wf _ q2.leB.1
        .rw[r_ i e] at k1;exact q1.x i b k1 k2
       .rw[Heap.q1a _ _ _ (Nat.ne_of_lt (ak d i h1 h2))];exact q2.fresh d i h1 h2
    .exact h.elim
   .exact h.elim
  .exact h.elim
 |bad=>intro B0 F0 D0 n K s env U ro Q bI hR h hK;exact h.elim
 |ret=>intro B0 F0 D0 n K s env U ro Q bI hR h hK;exact hK _ _ _ _ h hR
 |exit id=>intro B0 F0 D0 n K s env U ro Q bI hR h hK;exact hK _ _ _ _ h hR
 |seq a b ff eI =>
  intro B0 F0 D0 n K s env U ro Q bI hR h hK;refine ff n _ s env U ro _ bI hR h λe s' ae U' h1 h2=>?_;cases e with
  |normal=>exact eI n K s' ae U' ro Q bI h2 h1 hK
  |_=>exact hK _ _ _ _ h1 h2
 |cond c a b ff eI =>
  intro B0 F0 D0 n K s env U ro Q bI hR h hK;simp only[gwp] at h;split at h
  .rename_i t ht;have rL:=hR;obtain⟨B,F,pl,tb,hB,hG⟩:=hR;have:=UK hG ht;simp only[vwp,this,I3];cases t with
   |true=>exact⟨(by grind),λe=>by cases e⟩
   |false=>exact⟨(λe=>by cases e),(by grind)⟩
  split at h
  .rename_i t ht;obtain⟨B,F,pl,tb,hB,hG⟩:=hR;have:=Xj ht (hG.evs Gds.nil c);simp only[vwp,this,I3];split at h
   .rename_i A hA;obtain⟨p,I,hF,hI⟩:=h;have fin:∀ e s' ae U',Q30 s.env.length A p I K e s'->GRel P B0 F0 D0 s' ae U'->Q e ae U':=λe s' ae U' h1 h2=>by
     cases e with
     |normal =>obtain⟨d,h3,h4⟩:=h1;exact hK _ _ _ _ (hI d h4) (Vt h2 h3)
     |_=>exact hK _ _ _ _ h1 h2
    exact⟨λe=>ff n _ s env U ro Q bI ⟨B,F,pl,tb,hB,hG⟩ (hF.1 e) fin,λe=>eI n _ s env U ro Q bI ⟨B,F,pl,tb,hB,hG⟩ (hF.2 e) fin⟩
   exact⟨λe=>ff n K s env U ro Q bI ⟨B,F,pl,tb,hB,hG⟩ (h.1 e) hK,λe=>eI n K s env U ro Q bI ⟨B,F,pl,tb,hB,hG⟩ (h.2 e) hK⟩
  .exact h.elim
 |block id b ih =>
  intro B0 F0 D0 n K s env U ro Q bI hR h hK;refine ih id _ s env U ro _ bI hR h λe s' ae U' h1 h2=>?_;cases e with
  |exit gR =>
   simp only[IA] at h1;simp only[AH];split
   .grind
   .grind
  |_=>exact hK _ _ _ _ h1 h2
 |loop b ih =>
  intro B0 F0 D0 n K s env U ro Q bI hR h hK;simp only[gwp] at h;split at h
  .rename_i A hA;obtain⟨p,d0,h1,I,μ,h2,h3⟩:=h;have hlen:s.env.length=env.length:=by obtain⟨B,F,pl,tb,_,hG⟩:=hR;exact hG.env.length
   have hk:∀ d,(A.st p d).map (·.1)=A.sl:=λd=>Pw _ _;refine⟨A.sl,λm vs U'=>∃ d,I d/\μ d=m/\GRel P B0 F0 D0 (Z4 s.env.length (A.st p d) (A.own p d)) (Xn A.sl vs (List.replicate env.length poison)) U',μ d0,⟨d0,h2,rfl,?_⟩,λm vs U' ⟨d,h4,h5,h6⟩=>?_⟩
   .grind [Dw]
   .refine ih n _ _ _ U' ro _ bI h6 (h3 d h4) λe s' ae aH h7 h8=>?_;cases e with
    |normal =>
     simp only[Q12] at h7;cases nM:Q6s s'.own with
     |false=>rw[nM] at h7;exact h7.elim
     |true =>
     rw[nM] at h7;obtain⟨d',h9,bJ,gm⟩:=h7;refine⟨μ d',by omega,d',bJ,rfl,?_⟩;have:=Dw h8 h9 s.env.length;rw[hk d',hlen] at this;rw[hlen];exact this
    |_=>exact hK _ _ _ _ h7 h8
  .exact h.elim
end
end Go.V
namespace Go.V
open Go
def C9 (s:St):VResult->Option SV
 |.tmp t=>some (s.env.getD t .any)
 |.cell a agg size=>bif Nat.blt 0 size then Q09 s.own agg size (s.env.getD a .any) else none
def UU (s:St) (rs:List VResult):Option SV :=
 match rs with
 |[r]=>C9 s r
 |rs=>(rs.mapM (C9 s)).map .tup
def Q17 (mp:List (Nat×Option Nat)) (j:Nat) (a:Option Nat):Option (List (Nat×Option Nat)) :=
 if (QJ mp j).isSome then none else match a with
 |some x=>if mp.any λp=>p.2==some x then none else some (mp++[(j,a)])
 |none=>some (mp++[(j,a)])
mutual
def FC:SV->SV->List (Nat×Option Nat)->Option (List (Nat×Option Nat))
 |.lst j,v,mp=>match v with|.lst a=>Q17 mp j (some a)|.nilS=>Q17 mp j none|_=>none
 |.map j,v,mp=>match v with|.map a=>Q17 mp j (some a)|_=>none
 |.dd j w,v,mp=>match w with
  |.out=>(match v with
   |.dd a w'=>(match w' with|.out=>Q17 mp j (some a)|_=>none)
   |.nilS=>Q17 mp j none
   |_=>none)
  |_=>none
 |.box j _,v,mp=>match v with|.box a _=>Q17 mp j (some a)|_=>none
 |.agg l,v,mp=>match v with|.agg l'=>Ej l l' mp|_=>none
 |.tup l,v,mp=>match v with|.tup l'=>Ej l l' mp|_=>none
 |.any,_,mp=>some mp
 |.val _ _,_,mp=>some mp
 |.nilS,_,mp=>some mp
 |.nilP,_,mp=>some mp
 |.nilM,_,mp=>some mp
 |.nilF,_,mp=>some mp
 |.sub _ _ _ _,_,_|.elp _ _ _ _,_,_|.grd _ _,_,_|.cp _ _,_,_|.fn _ _ _,_,_|.rop _ _ _ _,_,_|.pf _ _ _ _,_,_|.bid _ _,_,_=>none
def Ej:List SV->List SV->List (Nat×Option Nat)->Option (List (Nat×Option Nat))
 |[],_,mp=>some mp
 |s::ss,l,mp=>match l with
  |v::vs=>match FC s v mp with|some mp=>Ej ss vs mp|none=>none
  |[]=>none
end
def I0 (s:St) (mp:List (Nat×Option Nat)):Nat->List OB->Prop
 |_,[]=>True
 |j,b::r=>Ox s mp j b/\I0 s mp (j+1) r
def WY (rs:List VResult) (v:SV) (bs:List OB):Exit->St->Prop:=λe s =>
 let fin:=match UU s rs with
  |some r=>(match FC v r [] with
   |some mp=>PE mp v r/\I0 s mp 0 bs
   |none=>False)
  |none=>False
 match e with
 |.normal=>fin
 |.ret=>fin
 |_=>False
section
variable {P:Program}{B F:Heap}{pl:Nat->Value}{tb:Nat->Option Bool}{s:St}{env:Env}{U:Heap}
theorem HP (hG:Gam P B F pl tb s env U) {r:VResult}{v:SV}(h:C9 s r=some v):∃ u,Jg env U r=some u/\SR P B pl tb v u:=by
 cases r with
 |tmp t=>obtain rfl:=osj h;exact⟨_,rfl,hG.env.getD t undef⟩
 |cell a agg size =>
  simp only[C9] at h;cases hb:Nat.blt 0 size with
  |false=>rw[hb] at h;cases h
  |true =>rw[hb] at h;obtain⟨i,o,c,e,wr,t,u,h1,h2,h3,h4⟩:=BL hG.leB hG.obj (by simpa [zC] using hb) h (hG.env.getD a undef);refine⟨u,?_,h4⟩;simp only[Jg,Q6,Q5,h1,h2,h3];rfl
theorem Kl (hG:Gam P B F pl tb s env U) {rs:List VResult}{v:SV}(h:UU s rs=some v):∃ u,JM env U rs=some u/\SR P B pl tb v u:=by
 have all:∀ (rs:List VResult) (l:List SV),rs.mapM (C9 s)=some l->∃ us,rs.mapM (Jg env U)=some us/\SRs P B pl tb l us:=by
  intro rs;induction rs with
  |nil=>intro l h;simp at h;subst h;exact⟨[],rfl,rfl⟩
  |cons r rs ih =>
   intro l h;rw[x6] at h;cases h1:C9 s r with
   |none=>simp[h1] at h
   |some a =>
    cases h2:rs.mapM (C9 s) with
    |none=>simp[h1,h2] at h
    |some l' =>simp[h1,h2] at h;subst h;obtain⟨u,h3,h4⟩:=HP hG h1;obtain⟨us,h5,h6⟩:=ih l' h2;exact⟨u::us,by rw[x6];simp[h3,h5],by simp only[SRs];exact⟨u,us,rfl,h4,h6⟩⟩
 have tup:(rs.mapM (C9 s)).map SV.tup=some v->∃ u,(rs.mapM (Jg env U)).map (λvs=>Value.tuple vs.toArray)=some u/\SR P B pl tb v u:=λh=>by simp only[zt] at h;obtain⟨l,h1,rfl⟩:=h;obtain⟨us,h2,h3⟩:=all rs l h1;exact⟨.tuple us.toArray,by rw[h2];rfl,by simp only[SR];exact⟨us,rfl,h3⟩⟩
 match rs,h,tup with
 |[r],h,_=>exact HP hG h
 |[],h,tup=>exact tup h
 |_::_::_,h,tup=>exact tup h
theorem BB {mp bK:List (Nat×Option Nat)}{j:Nat}{a:Option Nat}(h:Q17 mp j a=some bK) (hi:Inj mp):Inj bK:=by
 unfold Q17 at h;split at h
 .cases h
 .split at h
  .rename_i x;split at h
   .cases h
   .rename_i hc;obtain rfl:=osj h;have cR:∀ d,QJ mp d≠some (some x):=(by grind [L1,List.any_eq_true]);intro t1 t2 a' h1 h2;rw[Ka] at h1 h2;split at h1
    .rename_i y1 e1;split at h2
     .rename_i y2 e2;obtain rfl:=osj h1;obtain rfl:=osj h2;exact hi t1 t2 a' e1 e2
     simp_all
    grind
  .obtain rfl:=osj h;intro t1 t2 a' h1 h2;rw[Ka] at h1 h2;split at h1
   .rename_i y1 e1;split at h2
    .rename_i y2 e2;obtain rfl:=osj h1;obtain rfl:=osj h2;exact hi t1 t2 a' e1 e2
    .split at h2<;>cases h2
   .split at h1<;>cases h1
mutual
theorem RP:∀ (v r:SV) (mp bK:List (Nat×Option Nat)),FC v r mp=some bK->Inj mp->Inj bK
 |.lst j,r,mp,bK,h,hi=>by
  simp only[FC] at h
  grind [BB]
 |.map j,r,mp,bK,h,hi=>by
  simp only[FC] at h
  grind [BB]
 |.dd j w,r,mp,bK,h,hi=>by
  simp only[FC] at h
  grind [BB]
 |.box j _,r,mp,bK,h,hi=>by
  simp only[FC] at h
  grind [BB]
 |.agg l,r,mp,bK,h,hi=>by
  simp only[FC] at h;split at h
  .exact BQ l _ mp bK h hi
  .cases h
 |.tup l,r,mp,bK,h,hi=>by
  simp only[FC] at h;split at h
  .exact BQ l _ mp bK h hi
  .cases h
 |.any,r,mp,bK,h,hi|.val _ _,r,mp,bK,h,hi|.nilS,r,mp,bK,h,hi|.nilP,r,mp,bK,h,hi|.nilM,r,mp,bK,h,hi|.nilF,r,mp,bK,h,hi=>by simp only[FC] at h;simp_all
 |.sub _ _ _ _,r,mp,bK,h,hi|.elp _ _ _ _,r,mp,bK,h,hi|.grd _ _,r,mp,bK,h,hi|.cp _ _,r,mp,bK,h,hi|.fn _ _ _,r,mp,bK,h,hi|.rop _ _ _ _,r,mp,bK,h,hi|.pf _ _ _ _,r,mp,bK,h,hi|.bid _ _,r,mp,bK,h,hi=>by cases h
theorem BQ:∀ (v r:List SV) (mp bK:List (Nat×Option Nat)),Ej v r mp=some bK->Inj mp->Inj bK
 |[],r,mp,bK,h,hi=>by simp only[Ej] at h;simp_all
 |s::ss,[],mp,bK,h,hi=>by cases h
 |s::ss,r::rs,mp,bK,h,hi=>by
  simp only[Ej] at h;split at h
  .rename_i tx h1;exact BQ ss rs tx bK h (RP s r mp tx h1 hi)
  .cases h
end
theorem P6 {mp:List (Nat×Option Nat)}:∀ (bs:List OB) (n:Nat),I0 s mp n bs->∀ j b,bs[j]?=some b->Ox s mp (n+j) b
 |[],n,_,j,b,hj=>by simp at hj
 |b0::r,n,h,j,b,hj=>by
  obtain⟨h1,h2⟩:=h;cases j with
  |zero=>simp at hj;subst hj;exact h1
  |succ j =>
   have:=P6 r (n+1) h2 j b (by simpa using hj)
   rwa [zz,xL 1 j] at this
mutual
theorem E4 {n:Nat}{π:Nat->Nat}:∀ (v:SV) (u:Value),v.ret 0=true->SR P B pl tb v u->Ren n π u u
 |.val k x,u,h,hs=>by
  simp only[SR] at hs;cases k with
  |i ik=>simp only[KC] at hs;obtain rfl:=(zO hs).1;exact .plain _ rfl
  |bo=>simp only[KC] at hs;obtain rfl:=(zO hs).1;exact .plain _ rfl
  |st=>simp only[KC] at hs;obtain rfl:=(zO hs).1;exact .plain _ rfl
  |list k=>cases h
  |pair a b =>have h1:=KC.length hs;have h2:=a.size_pos;have h3:=b.size_pos;simp only[Kind.size,zl] at h1;omega
 |.nilS,u,_,hs|.nilP,u,_,hs|.nilM,u,_,hs|.nilF,u,_,hs=>by simp only[SR] at hs;subst hs;exact .plain _ rfl
 |.lst j,u,h,_|.box j _,u,h,_|.map j,u,h,_=>by simp[SV.ret,zC] at h
 |.dd j w,u,h,_=>by cases w<;>simp[SV.ret,zC] at h
 |.agg l,u,h,hs=>by simp only[SR] at hs;obtain⟨cs,rfl,h2⟩:=hs;have:=Hm (n:=n) (π:=π) l cs h h2;exact .agg _ _ rfl λi h3 _=>this _ (by simp)
 |.tup l,u,h,hs=>by simp only[SR] at hs;obtain⟨cs,rfl,h2⟩:=hs;have:=Hm (n:=n) (π:=π) l cs h h2;exact .tuple _ _ rfl λi h3 _=>this _ (by simp)
 |.any,_,h,_|.bid _ _,_,h,_|.grd _ _,_,h,_|.sub _ _ _ _,_,h,_|.elp _ _ _ _,_,h,_|.rop _ _ _ _,_,h,_|.cp _ _,_,h,_|.fn _ _ _,_,h,_|.pf _ _ _ _,_,h,_=>by cases h
theorem Hm {n:Nat}{π:Nat->Nat}:∀ (v:List SV) (u:List Value),SVs.ret 0 v=true->SRs P B pl tb v u->∀ x∈u,Ren n π x x
 |[],u,_,hs=>by simp only[SRs] at hs;subst hs;intro x hx;cases hx
 |s::ss,u,h,hs=>by
  simp only[SVs.ret,z1] at h;simp only[SRs] at hs;obtain⟨x,y,rfl,h1,h2⟩:=hs;intro z hz;rcases zG.1 hz with rfl|hz
  .exact E4 s z h.1 h1
  .exact Hm ss y h.2 h2 z hz
end
theorem Ez (exact:Bool) {σ0:Heap}{sf:St}{lF:Env}{σf:Heap}(hR:GRel P σ0 σ0 σ0 sf lF σf) {rs:List VResult}{v:SV}{bs:List OB}{e:Exit}(hv:v.ret bs.length=true) (hb:bs.all OB.ret=true) (h:WY rs v bs e sf) (hx:exact=true->bs.all OB.isL=true/\Kx v=true) :
  Q60 σ0 rs (λu U'=>if exact then u=Km (TF σ0 bs) v/\U'=Hp σ0 bs else Ret P σ0 v bs u U') e lF σf:=by
 have main:(match UU sf rs with
  |some r=>(match FC v r [] with
   |some mp=>PE mp v r/\I0 sf mp 0 bs
   |none=>False)
  |none=>False)->Q_ (JM lF σf rs) λu=>∃ v' U',DropTo σ0 u σf v' U'/\(if exact then v'=Km (TF σ0 bs) v/\U'=Hp σ0 bs else Ret P σ0 v bs v' U'):=λh=>by
  split at h
  .rename_i r hr;split at h
   .rename_i mp lA;obtain⟨h1,h2⟩:=h;obtain⟨B,F,pl,tb,⟨hB,hF,_,hd⟩,hG⟩:=hR;obtain⟨u,h3,h4⟩:=Kl hG hr;have gP:=KF v r u h1 h4;have dm:=RP v r [] mp lA (λt t' a h=>by cases h);have ak:∀ j b,bs[j]?=some b->Ox sf mp j b:=λj b hj=>by have:=P6 bs 0 h2 j b hj;rwa [x4] at this
    rw[h3];have hle:σ0.Le σf:=hF.trans hG.le;have hA:Agree σ0 σf:=λi hi=>by
     cases hg:σ0.get i with
     |none=>exact hd.2 i hi hg
     |some b=>exact hle.2 i b hg
    have aN:∀ j b,bs[j]?=some b->OR P hNil (VB pl mp) Jp σf (VB pl mp j) b/\∀ i,Oid (VB pl mp j) i->σ0.get i=none/\σ0.n<=i:=λj b hj=>by
     obtain⟨k1,k2⟩:=QI hG (ak j b hj);have cX:=zf.1 hb b (z_ hj);have aw:b.live=true:=by cases b<;>first|rfl|cases cX
     refine⟨k1.retd cX λ_ _=>rfl,λi hi=>?_⟩;obtain⟨a,e1,e2,e3⟩:=k2 aw i hi;have j_:=hG.fresh a i e2 e3;have hn:σ0.get i=none:=by
      cases hg:σ0.get i with
      |none=>rfl
      |some b=>rw[hF.2 i b hg] at j_;cases j_
     refine⟨hn,Nat.le_of_not_lt λaf=>?_⟩;have aU:=hd.2 i af hn;have ak:=hG.obj a;cases ho:Qg sf.own a with
     |dead=>rw[ho] at e2;cases e2
     |lst ty k xs nl =>
      rw[ho] at ak;rcases ak with⟨_,_,h2⟩|⟨_,i',cap,c,t,h2,_,h3,_⟩
      .rw[h2] at e3;cases e3
      .rw[h2] at e3;obtain rfl:=osj e3;rw[h3] at aU;cases aU
     |cells l u=>rw[ho] at ak;obtain⟨i',c,e,t,h2,h3,_⟩:=ak;rw[h2] at e3;obtain rfl:=osj e3;rw[h3] at aU;cases aU
     |mapE kk vk m key n=>rw[ho] at ak;obtain⟨i',es,cl,r,e,h2,h3,_⟩:=ak;rw[h2] at e3;obtain rfl:=osj e3;rw[h3] at aU;cases aU
     |map kk vk m=>rw[ho] at ak;obtain⟨i',es,cl,h2,h3,_⟩:=ak;rw[h2] at e3;obtain rfl:=osj e3;rw[h3] at aU;cases aU
     |stk l vals=>rw[ho] at e2;cases e2
     |lpf l q s=>rw[ho] at ak e2;obtain⟨h2,_,h3⟩:=ak;rw[h2] at e3;obtain rfl:=osj e3;have h3:=h3 e2;rw[aU] at h3;cases h3
     |iter kk vk m dn=>rw[ho] at ak;obtain⟨j',i',es,cl,wr,seen,h2,h3,_⟩:=ak;rw[h2] at e3;obtain rfl:=osj e3;rw[h3] at aU;cases aU
     |deep ty q k xs nl hh =>rw[ho] at ak;obtain⟨is,_,d2,d3,_⟩:=DP.open ak;obtain⟨c,e,t,h⟩:=d2.cells i ((d3 i).1 e3);rw[h] at aU;cases aU
    have ek:∀ j j' i,j<bs.length->j'<bs.length->j≠j'->Oid (VB pl mp j) i->Oid (VB pl mp j') i->False:=λj j' i hj cy aJ hi cJ=>by
     have bz:=z8 hj;have bF:=z8 cy;have r1:=zf.1 hb _ (zi hj);have r2:=zf.1 hb _ (zi cy);have l1:(bs[j]).live=true:=by cases jH:bs[j]<;>first|rfl|(rw[jH] at r1;cases r1)
     have l2:(bs[j']).live=true:=by cases jH:bs[j']<;>first|rfl|(rw[jH] at r2;cases r2)
     obtain⟨a,e1,e2,e3⟩:=(QI hG (ak j _ bz)).2 l1 i hi;obtain⟨a',oy,iQ,sd⟩:=(QI hG (ak j' _ bF)).2 l2 i cJ;by_cases e:a=a'
     .subst e;exact aJ (dm j j' a e1 oy)
     .exact hG.sep a a' i e e2 iQ e3 sd
    cases hex:exact with
    |true =>obtain⟨hl,cK⟩:=hx hex;have oz:=Fl (P:=P) hA hle.1 hv cK hb hl (pl:=VB pl mp) (u:=u) (λj b hj=>⟨(aN j b hj).1,λi hi=>((aN j b hj).2 i (CY hi)).2⟩) (λj j' i a b c d e=>ek j j' i a b c (CY d) (CY e)) (gP.retd (λj hj=>rfl) _ _ hv);exact⟨_,_,oz,by simp⟩
    |false =>
     simp only[zq,if_false];by_cases bM:bs=[]
     .subst bM;refine⟨u,σ0,.rename (λi=>i) (zd _) (λi hi=>⟨rfl,(hA i hi).symm,.inl (hA i hi)⟩) (λi k1 k2=>by omega) (λ_ _ _ _ _ _ h=>h) (E4 v u hv gP),?_⟩;exact⟨⟨Heap.Le.refl _,Dead.refl _⟩,λ_=>rfl,Xl,(λj b hj=>by simp at hj),(λj j' i hj=>by simp at hj),gP.retd (λj hj=>by simp at hj) _ _ hv⟩
     .exact⟨u,σf,.refl _ _ _,⟨hle,hd⟩,λe=>absurd e bM,VB pl mp,aN,ek,gP.retd (λj hj=>rfl) _ _ hv⟩
   .exact h.elim
  .exact h.elim
 cases e with
 |normal=>exact main h
 |ret=>exact main h
 |_=>exact h.elim
def Qk (nt:Nat) (args:List SV):St:=⟨args++List.replicate (nt-args.length) .any,[],0⟩
theorem ER {args:List SV}{vs:List Value}(h:SRs P U Xl Jp args vs) (nt:Nat):GRel P U U U (Qk nt args) (vs++List.replicate (nt-vs.length) undef) U:=by
 have vC:∀ n,SRs P U Xl Jp (List.replicate n .any) (List.replicate n undef):=by
  intro n;induction n with
  |zero=>simp[SRs]
  |succ n ih=>simp only[xn,SRs];exact⟨_,_,rfl,by simp[SR],ih⟩
 refine⟨U,U,Xl,Jp,⟨Heap.Le.refl _,Heap.Le.refl _,(by simp_all),Dead.refl _⟩,Heap.Le.refl _,Heap.Le.refl _,?_,λd=>trivial,(λd i hl=>by cases hl),(λd d' i _ hl=>by cases hl),λ_ _=>rfl⟩;have:=h.length;simp only[Qk,this];exact h.append (vC _)
theorem Fun.okC {f:Nat}{vc:VCode}{rs:List VResult}{nt:Nat}(h:Fun P f vc rs nt) (hm:P.follows .mixedOrders=true) {sp:CSp}
  (hb:∀ ap,Q1s P ap->∀ args c v bs,sp ap args=some (c,v,bs)->c->∃ (C:Cx) (L:List (Nat×LoopAnn)) (iF:List SV),(∀ U vs,SRs P U Xl Jp args vs->SRs P U Xl Jp iF vs)/\COk P C/\gwp C L vc 0 (WY rs v bs) (Qk nt iF)):OkC P f sp:=by
 intro ap eY U args vs c v bs au eJ hv bM hc;obtain⟨C,L,iF,h1,h2,h3⟩:=hb ap eY args c v bs eJ hc;have main:∀ exact:Bool,(exact=true->bs.all OB.isL=true/\Kx v=true)->VCalled P f vs U λu U'=>if exact then u=Km (TF U bs) v/\U'=Hp U bs else Ret P U v bs u U':=λexact hx=>by refine h.calls hm SN ?_;exact HM h2 vc 0 _ _ _ U none _ trivial (ER (h1 U vs au) nt) h3 λe s' ae U' k1 k2=>Ez exact k2 hv bM k1 hx
 simp_all
theorem OkC.true {f:Nat}{sp:CSp}(h:OkC P f sp) (he:Jj P f) {U:Heap}{args:List SV}{vs:List Value}(ha:SRs P U Xl Jp args vs) {c:Prop}(hs:sp (λ_ _=>none) args=some (c,.val .bo true,[])) (hc:c) :
  VCallsTo P f vs U λv _=>v=.bool true:=by
 have:=(h (λ_ _=>none) (λ_ _ _ _ _ _ _ _ _ h=>by cases h) U args vs c _ [] ha hs rfl rfl hc).1;intro ρ w aq hH hL;rcases this ρ w aq hH hL with⟨_,h2⟩|⟨c',_,h2⟩
 .refine h2.mono λe w' ⟨c',h3,h4⟩=>⟨c',h3,h4.mono λu U' hr=>?_⟩;have:=(hr.flat rfl).2;simpa only [SR,KC,List.cons.injEq,and_true] using this
 .have:=h2 w (Like.refl ρ w)
  grind [K2]
end
end Go.V
namespace Go.V
open Go
mutual
inductive AP:Type->Type 1 where
 |k (k:Kind):AP k.T
 |agg {D:Type}(l:AL D):AP D
 |ptr {D:Type}(l:AL D):AP D
 |fnx {D:Type}(g:Nat) (l:AL D):AP D
 |fn (ks:List Kind) (r:Kind):AP ((AT ks->Prop)×(AT ks->r.T))
 |nilS:AP Unit
 |any:AP Unit
 |int (k:IntKind) (n:Int):AP Unit
inductive AL:Type->Type 1 where
 |nil:AL Unit
 |one {D:Type}(a:AP D):AL D
 |cons {D E:Type}(a:AP D) (r:AL E):AL (D×E)
end
def S2:(ks:List Kind)->AT ks->List SV
 |[],_=>[]
 |[k],x=>[Ov k x]
 |k::k'::ks,x=>Ov k x.1::S2 (k'::ks) x.2
abbrev Ap:=SV->List SV->Option (Prop×SV)
def Q10 (ap:Ap) (f:SV) (ks:List Kind) (r:Kind) (x:AT ks):Prop:=match ap f (S2 ks x) with
 |some (c,v)=>(match gap.asV r v with|some _=>c|none=>False)
 |none=>False
def fnP (ap:Ap) (f:SV) (ks:List Kind) (r:Kind) (x:AT ks):r.T:=match ap f (S2 ks x) with
 |some (_,v)=>(match gap.asV r v with|some y=>y|none=>r.dflt)
 |none=>r.dflt
mutual
def AP.dec (ap:Ap):{D:Type}->(p:AP D)->SV->Option D
 |_,.k k,v=>match k with
  |.list k=>view [] k v
  |.i ik=>PG (.i ik) [v]
  |.bo=>PG .bo [v]
  |.st=>PG .st [v]
  |.pair _ _=>none
 |_,.agg l,v=>match v with|.agg vs=>AL.dec ap l vs|_=>none
 |_,.nilS,v=>match v with|.nilS=>some ()|_=>none
 |_,.any,_=>some ()
 |_,.int k n,v=>match PG (.i k) [v] with|some x=>if (show Int from x)=n then some () else none|none=>none
 |_,.ptr l,v=>match v with|.cp vs 0=>AL.dec ap l vs|_=>none
 |_,.fnx g l,v=>match v with|.fn g' [] vs=>if g'=g then AL.dec ap l vs else none|_=>none
 |_,.fn ks r,v=>match v with
  |.fn g a b=>some (Q10 ap (.fn g a b) ks r,fnP ap (.fn g a b) ks r)
  |.pf tz r' cw p=>some (Q10 ap (.pf tz r' cw p) ks r,fnP ap (.pf tz r' cw p) ks r)
  |_=>none
def AL.dec (ap:Ap):{D:Type}->(l:AL D)->List SV->Option D
 |_,.nil,vs=>match vs with|[]=>some ()|_=>none
 |_,.one a,vs=>match vs with|[v]=>AP.dec ap a v|_=>none
 |_,.cons a r,vs=>match vs with
  |v::vs=>(match AP.dec ap a v,AL.dec ap r vs with|some x,some y=>some (x,y)|_,_=>none)
  |[]=>none
end
mutual
def AP.can:{D:Type}->(p:AP D)->D->SV
 |_,.k k,x=>.val k x
 |_,.agg l,x=>.agg (AL.can l x)
 |_,.nilS,_=>.nilS
 |_,.any,_=>.any
 |_,.int k n,_=>.val (.i k) n
 |_,.ptr l,x=>.cp (AL.can l x) 0
 |_,.fnx g l,x=>.fn g [] (AL.can l x)
 |_,.fn ks r,x=>.pf ks r x.1 x.2
def AL.can:{D:Type}->(l:AL D)->D->List SV
 |_,.nil,_=>[]
 |_,.one a,x=>[AP.can a x]
 |_,.cons a r,x=>AP.can a x.1::AL.can r x.2
end
def W0 {D:Type}(l:AL D) (pre:D->Prop) (res:D->SV) (obs:D->List OB):CSp:=λap args=>match AL.dec ap l args with
 |some d=>some (pre d,res d,obs d)
 |none=>none
section
variable {P:Program}{U:Heap}
theorem Mi:∀ {ks:List Kind}{x:AT ks}{vs:List Value},Tr U ks x vs->SRs P U Xl Jp (S2 ks x) vs
 |[],x,vs,h=>by simp only[Tr] at h;subst h;simp[S2,SRs]
 |[k],x,vs,h=>by obtain⟨v,rfl,h1⟩:=h;simp only[S2,SRs];grind [Xv]
 |k::k'::ks,x,vs,h=>by obtain⟨v,cH,rfl,h1,h2⟩:=h;simp only[S2,SRs];exact⟨v,cH,rfl,Xv h1,Mi h2⟩
theorem AB {ap:Ap}(eY:Q1s P ap) {f:SV}{v:Value}(hf:SR P U Xl Jp f v) (hv:∃ g a b,v=.func (.func g) a b) (ks:List Kind) (r:Kind):SR P U Xl Jp (.pf ks r (Q10 ap f ks r) (fnP ap f ks r)) v:=by
 obtain⟨g,a,b,rfl⟩:=hv;simp only[SR];refine⟨g,a,b,rfl,λx hd Z vs hle bY=>?_⟩;unfold Q10 at hd;split at hd
 .rename_i c u oA;split at hd
  .rename_i y hy;obtain⟨h1,g',a',b',h2,h3⟩:=eY Z f (S2 ks x) c u (.func (.func g) a b) vs (SR.mono hle (λ_ _ h=>h) _ _ hf) (Mi bY) oA hd;obtain⟨rfl,rfl,rfl⟩:=(by simpa using h2:g=g'/\a=a'/\b=b');have hp:fnP ap f ks r x=y:=by simp[fnP,oA,hy]
   rw[hp];exact h3.mono λu' U' hu=>⟨hu.1,(B_ hy hu.2).vcall (Ef _)⟩
  .exact hd.elim
 .exact hd.elim
mutual
theorem AP.q0l {ap:Ap}(eY:Q1s P ap):∀ {D:Type}(p:AP D) {v:SV}{x:D}{u:Value},AP.dec ap p v=some x->SR P U Xl Jp v u->SR P U Xl Jp (AP.can p x) u
 |_,.k k,v,x,u,h,hs=>by
  have one:SRs P U Xl Jp [v] [u]:=by simp only[SRs];exact⟨u,[],rfl,hs,rfl⟩
  simp only[AP.can,SR];cases k with
  |list k =>have:=Wo (own:=[]) (Heap.Le.refl U) (λd=>(trivial:OR P U Xl Jp U (Xl d) .dead)) (show view [] k v=some x from h) hs;exact⟨u,rfl,this⟩
  |i ik=>exact QE (k:=.i ik) h one
  |bo=>exact QE (k:=.bo) h one
  |st=>exact QE (k:=.st) h one
  |pair a b=>cases h
 |_,.agg l,v,x,u,h,hs=>by
  simp only[AP.dec] at h;split at h
  .simp only[SR] at hs;obtain⟨cs,rfl,hs⟩:=hs;simp only[AP.can,SR];exact⟨cs,rfl,AL.q0l eY l h hs⟩
  .cases h
 |_,.any,v,x,u,h,hs=>by simp only[AP.can,SR]
 |_,.int k n,v,x,u,h,hs=>by
  have one:SRs P U Xl Jp [v] [u]:=by simp only[SRs];exact⟨u,[],rfl,hs,rfl⟩
  simp only[AP.dec] at h;split at h
  .rename_i y hy;split at h
   .rename_i e;subst e;simp only[AP.can,SR];exact QE (k:=.i k) hy one
   .cases h
  .cases h
 |_,.nilS,v,x,u,h,hs=>by
  simp only[AP.dec] at h;split at h
  .simp only[AP.can];exact hs
  .cases h
 |_,.ptr l,v,x,u,h,hs=>by
  simp only[AP.dec] at h;split at h
  .simp only[SR] at hs;obtain⟨b,c,e,wr,t,h1,rfl,h3⟩:=hs;simp only[AP.can,SR];exact⟨b,c,e,wr,t,h1,rfl,AL.q0l eY l h h3⟩
  .cases h
 |_,.fnx g l,v,x,u,h,hs=>by
  simp only[AP.dec] at h;split at h
  .split at h
   .rename_i e;subst e;simp only[SR] at hs;obtain⟨a,b,rfl,h1,h2⟩:=hs;simp only[AP.can,SR];exact⟨a,b,rfl,h1,AL.q0l eY l h h2⟩
   .cases h
  .cases h
 |_,.fn ks r,v,x,u,h,hs=>by
  simp only[AP.dec] at h;split at h
  .obtain rfl:=osj h;exact AB eY hs (by simp only[SR] at hs;grind) ks r
  .obtain rfl:=osj h;exact AB eY hs (by simp only[SR] at hs;obtain⟨g,x,y,rfl,_⟩:=hs;exact⟨_,_,_,rfl⟩) ks r
  .cases h
theorem AL.q0l {ap:Ap}(eY:Q1s P ap):∀ {D:Type}(l:AL D) {vs:List SV}{x:D}{us:List Value},AL.dec ap l vs=some x->SRs P U Xl Jp vs us->SRs P U Xl Jp (AL.can l x) us
 |_,.nil,vs,x,us,h,hs=>by
  simp only[AL.dec] at h;split at h
  .exact hs
  .cases h
 |_,.one a,vs,x,us,h,hs=>by
  simp only[AL.dec] at h;split at h
  .obtain⟨u,rfl,h1⟩:=hs.one;simp only[AL.can,SRs];exact⟨u,[],rfl,AP.q0l eY a h h1,rfl⟩
  .cases h
 |_,.cons a r,vs,x,us,h,hs=>by
  simp only[AL.dec] at h;split at h
  .rename_i v cH;split at h
   .rename_i y z h1 h2;obtain rfl:=osj h;simp only[SRs] at hs;obtain⟨u,my,rfl,h3,h4⟩:=hs;simp only[AL.can,SRs];exact⟨u,my,rfl,AP.q0l eY a h1 h3,AL.q0l eY r h2 h4⟩
   .cases h
  .cases h
end
theorem CsOk.nil:CsOk P []:=λf sp h=>by cases h
theorem CsOk.cons {f:Nat}{sp:CSp}{cs:List (Nat×CSp)}(h:OkC P f sp) (t:CsOk P cs):CsOk P ((f,sp)::cs):=λg vD hg=>by
 simp only[QJ] at hg;cases hb:Nat.beq f g with
 |true=>rw[hb] at hg;obtain rfl:=zP hb;obtain rfl:=osj hg;exact h
 |false=>rw[hb] at hg;exact t g vD hg
theorem Q3m {f:Nat}{vc:VCode}{rs:List VResult}{nt:Nat}(h:Fun P f vc rs nt) (hm:P.follows .mixedOrders=true) {D:Type}{l:AL D}{pre:D->Prop}{res:D->SV}{obs:D->List OB}
  {C:Cx}(az:COk P C) (L:D->List (Nat×LoopAnn)) (hb:∀ d,pre d->gwp C (L d) vc 0 (WY rs (res d) (obs d)) (Qk nt (AL.can l d))):OkC P f (W0 l pre res obs):=by
 refine h.okC hm λap eY args c v bs hs hc=>?_;unfold W0 at hs
 grind [AL.q0l]
theorem QF {f:Nat}{vc:VCode}{rs:List VResult}{nt:Nat}(h:Fun P f vc rs nt) (hm:P.follows .mixedOrders=true) {D:Type}{l:AL D}{pre:D->Prop}{res:D->SV}{obs:D->List OB}
  {C:Cx}(az:COk P C) {L:D->List (Nat×LoopAnn)}{V:D->Prop}(hq:∀ d,gwp C (L d) vc 0 (WY rs (res d) (obs d)) (Qk nt (AL.can l d))=V d) (hb:∀ d,pre d->V d):OkC P f (W0 l pre res obs) :=
 Q3m h hm az L λd hp=>(hq d).mpr (hb d hp)
end
end Go.V
namespace Go.V
open Go
def Q7k (key:Nat) (vals:List Value) (rs:List VResult) (K:SV->St->Prop):Exit->St->Prop:=λe s =>
 let fin:=match UU s rs,Qg s.own key with
  |some r,.stk l vs=>vs=vals/\K r ⟨l,s.own,s.nx⟩
  |_,_=>False
 match e with
 |.normal=>fin
 |.ret=>fin
 |_=>False
def Q0f:XSp:=λ_ args s K=>match args with
 |[v]=>K v s
 |_=>False
def Q1x (C:Cx) (L:List Value->List (Nat×LoopAnn)) (vc:VCode) (rs:List VResult) (nt:Nat):XSp:=λd args s K =>
 ∀ vals,gwp {C with off:=100000*(d+1)} (L vals) vc 0 (Q7k (100000*(d+1)-1) vals rs K) ⟨SVs.kill (100000*(d+1)-1) args++List.replicate (nt-args.length) .any,(Ca (100000*(d+1)-1) vals s).own,s.nx⟩
section
variable {P:Program}
theorem Cq {B:Heap}{pl:Nat->Value}{tb:Nat->Option Bool}:∀ n,SRs P B pl tb (List.replicate n .any) (List.replicate n undef)
 |0=>by simp[SRs]
 |n+1=>by simp only[xn,SRs];exact⟨_,_,rfl,by simp[SR],Cq n⟩
theorem RN {f:Nat}(h:∀ (v:Value) (U:Heap) (K:Value->Heap->Prop),K v U->VCalled P f [v] U K):XOk P f Q0f:=by
 intro B F pl tb s env U d args vs K R hG ha hx hK
 match args,ha,hx with
 |[v],ha,hx =>simp only[SRs] at ha;obtain⟨u,_,rfl,h1,rfl⟩:=ha;exact h u U R (hK v s B F pl tb u U hx (.of hG.bf (.refl _)) hG h1)
 |[],_,hx=>exact hx.elim
 |_::_::_,_,hx=>exact hx.elim
theorem GZ {f:Nat}{vc:VCode}{rs:List VResult}{nt:Nat}(h:Fun P f vc rs nt) (hm:P.follows .mixedOrders=true) {C:Cx}(az:COk P C) (L:List Value->List (Nat×LoopAnn)):XOk P f (Q1x C L vc rs nt):=by
 intro B F pl tb s env U d args vs K R hG ha hx hK;have hx:=hx env;refine h.calls hm SN ?_;have q3:Gam P B F (Jk pl (100000*(d+1)-1) poison) tb (Ca (100000*(d+1)-1) env s) env U:=by refine hG.make _ _ poison hG.le (λ_ _ _ _ _=>rfl) ?_ (λi hl _=>by cases hl);exact SRs.upd (.refl _) (λ_ _ h=>h) (λj hj=>by simp[Jk,hj]) _ _ hG.env
 have lG:COk P {C with off:=100000*(d+1)}:=⟨az.cs,az.xs,az.it,az.yl,az.iy,az.xf⟩;have au:=SRs.upd (P:=P) (Heap.Le.refl B) (λ_ _ h=>h) (pl':=Jk pl (100000*(d+1)-1) poison) (tb':=tb) (o:=100000*(d+1)-1) (λj hj=>by simp[Jk,hj]) _ _ ha;have bB:GRel P B F U ⟨SVs.kill (100000*(d+1)-1) args++List.replicate (nt-args.length) .any,(Ca (100000*(d+1)-1) env s).own,s.nx⟩ (vs++List.replicate (nt-vs.length) undef) U:=by refine⟨B,F,_,tb,.of hG.bf (.refl _),⟨q3.bf,q3.le,?_,q3.obj,q3.fresh,q3.sep,q3.free⟩⟩;rw[ha.length];exact au.append (Cq _)
 refine HM lG vc 0 _ _ _ U none _ trivial bB hx λe s' ae U' h1 h2=>?_
 .have main:(match UU s' rs,Qg s'.own (100000*(d+1)-1) with
   |some r,.stk l vs=>vs=env/\K r ⟨l,s'.own,s'.nx⟩
   |_,_=>False)->Q_ (JM ae U' rs) λv=>∃ v' aH,DropTo U v U' v' aH/\R v' aH:=λh=>by
   obtain⟨B',F',pl',tb',k1,k2⟩:=h2;split at h
   .rename_i r l cH hr lD;obtain⟨rfl,h⟩:=h;obtain⟨u,h3,h4⟩:=Kl k2 hr;rw[h3];have ak:=k2.obj (100000*(d+1)-1);rw[lD] at ak;exact⟨u,U',.refl _ _ _,hK r _ B' F' pl' tb' u U' h k1 ⟨k2.bf,k2.le,ak,k2.obj,k2.fresh,k2.sep,k2.free⟩ h4⟩
   .exact h.elim
  cases e with
  |normal=>exact main h1
  |ret=>exact main h1
  |_=>exact h1.elim
end
end Go.V
namespace Go.V
open Go
section
variable {P:Program}
mutual
theorem AP.q0u:∀ {D:Type}(p:AP D) (x:D),(AP.can p x).pure=true
 |_,.k k,x=>rfl
 |_,.agg l,x=>by simp only[AP.can,SV.pure];exact AL.q0u l x
 |_,.nilS,x=>rfl
 |_,.any,x=>rfl
 |_,.int k n,x=>rfl
 |_,.ptr l,x=>by simp only[AP.can,SV.pure];exact AL.q0u l x
 |_,.fnx g l,x=>by simp only[AP.can,SV.pure,SVs.pure,AL.q0u l x];rfl
 |_,.fn ks r,x=>rfl
theorem AL.q0u:∀ {D:Type}(l:AL D) (x:D),SVs.pure (AL.can l x)=true
 |_,.nil,x=>rfl
 |_,.one a,x=>by simp only[AL.can,SVs.pure,AP.q0u a x];rfl
 |_,.cons a r,x=>by simp only[AL.can,SVs.pure,AP.q0u a x.1,AL.q0u r x.2];rfl
end
end
end Go.V
namespace Go.V
open Go
abbrev lI {α:Type}(l:List α):Int:=(l.length:Int)
abbrev gD {α:Type}(l:List α) (i:Int) (d:α):α:=l.getD i.toNat d
abbrev sT {α:Type}(l:List α) (i:Int) (x:α):List α:=l.set i.toNat x
abbrev I64 (x:Int):Prop:=InK .i64 x
theorem Zs (x:Int):InK .i64 x<->-9223372036854775808<=x/\x<=9223372036854775807:=by simp[InK,IntKind.min,IntKind.max,IntKind.bits,IntKind.signed]
theorem Ay (x:Int):InK .u8 x<->0<=x/\x<=255:=by simp[InK,IntKind.min,IntKind.max,IntKind.bits,IntKind.signed]
theorem Q29 (x:Int):InK .u16 x<->0<=x/\x<=65535:=by simp[InK,IntKind.min,IntKind.max,IntKind.bits,IntKind.signed]
theorem CO (x:Int):InK .u64 x<->0<=x/\x<=18446744073709551615:=by simp[InK,IntKind.min,IntKind.max,IntKind.bits,IntKind.signed]
theorem LoopP.count {F:Int->(Int->Prop)->Prop}(n:Nat) (J:Nat->Prop) (h0:J 0) (hr:∀ k:Nat,k<=n->J k->∀ q:Int->Prop,(k<n->J (k+1)->q ((k:Int)+1))->F k q):LoopP F 0:=by
 refine⟨λd=>∃ k:Nat,d=k/\k<=n/\J k,λd=>n-d.toNat,⟨0,rfl,Nat.zero_le _,h0⟩,λd ⟨k,hd,hk,hJ⟩=>?_⟩
 grind
theorem LoopP.count2 {X:Type}{F:X×Int->(X×Int->Prop)->Prop}(n:Nat) (J:Nat->X->Prop) {x0:X}(h0:J 0 x0) (hr:∀ (k:Nat) (x:X),k<=n->J k x->∀ q:X×Int->Prop,(∀ x',k<n->J (k+1) x'->q (x',(k:Int)+1))->F (x,(k:Int)) q):LoopP F (x0,0):=by
 refine⟨λd=>∃ k:Nat,d.2=k/\k<=n/\J k d.1,λd=>n-d.2.toNat,⟨0,rfl,Nat.zero_le _,h0⟩,λ⟨x,d⟩ ⟨k,hd,hk,hJ⟩=>?_⟩
 grind
theorem Q7 {α:Type}{l:List α}{k:Nat}{d:α}(h:k<l.length):l.getD k d=l[k]:=by simp_all
theorem Qc {α:Type}{l:List α}{k:Nat}(h:k<l.length):l.take (k+1)=l.take k++[l[k]]:=by rw[List.take_succ_eq_append_getElem h]
section
variable {P:Program}
theorem st1 {S:VSpecs}{d:Nat}{op:VOp}{rest:List VOper}{env:Env}{U:Heap}{K:Env->Heap->Prop}{v:Value}(hv:∀ K',vop S op env U K'=Q_ (Q6 op (Q5 env) U) λp=>K' p.1 p.2) (h:Q6 op (Q5 env) U=some (v,U)) (hr:T0 S rest (env.set d v) U K):T0 S (⟨some d,op,none⟩::rest) env U K:=by show Q_ (some true) _;refine⟨λ_=>?_,λe=>by cases e⟩;rw[hv,h];exact hr
theorem YlOk.nil:∀ o y,QJ ([]:List (Nat×YSp)) o=some y->OE P o y:=λo y h=>by cases h
theorem IysOk.nil:∀ f x,QJ ([]:List (Nat×Q6g)) f=some x->Q8l P f x:=λf x h=>by cases h
theorem XsOk.nil:∀ f x,QJ ([]:List (Nat×XSp)) f=some x->XOk P f x:=λf x h=>by cases h
theorem XsOk.cons {f:Nat}{x:XSp}{l:List (Nat×XSp)}(h:XOk P f x) (t:∀ g y,QJ l g=some y->XOk P g y):∀ g y,QJ ((f,x)::l) g=some y->XOk P g y:=λg y hg=>by
 simp only[QJ] at hg
 grind [Nat.eq_of_beq_eq_true,osj]
theorem ItsOk.nil:∀ f x,QJ ([]:List (Nat×ISp)) f=some x->Q8a P f x:=λf x h=>by cases h
def Q1h:Ap:=λ_ _=>none
theorem O7:Q1s P Q1h:=λ_ _ _ _ _ _ _ _ _ h=>by cases h
end
end Go.V
namespace Go.V
open Go
section
variable {P:Program}
theorem XfOk.nil {xs:List (Nat×XSp)}:∀ f j,QJ ([]:List (Nat×Nat)) f=some j->∀ x,QJ xs f=some x->Q8i P f x j:=λf j h=>by cases h
end
end Go.V
namespace Go.V
open Go
def Heap.over (B F:Heap):Heap where
 get i:=match B.get i with|some b=>some b|none=>F.get i
 n:=Nat.max B.n F.n
 wf i h:=by have h1:B.n<=i:=zJ (Nat.le_max_left _ _) h;have h2:F.n<=i:=zJ (Nat.le_max_right _ _) h;rw[B.wf i h1];exact F.wf i h2
theorem Heap.q1t {B F:Heap}{i:Nat}(h1:B.get i=none) (h2:F.get i=none):(B.over F).get i=none:=by show (match B.get i with|some b=>some b|none=>F.get i)=none;rw[h1];exact h2
theorem Heap.q2c {B F:Heap}:B.Le (B.over F):=⟨Nat.le_max_left _ _,λi b h=>by
 show (match B.get i with|some b=>some b|none=>F.get i)=some b;rw[h]⟩
theorem Heap.q1y {B F U:Heap}(hB:B.Le U) (hF:F.Le U):F.Le (B.over F):=⟨Nat.le_max_right _ _,λi b h=>by
 show (match B.get i with|some b=>some b|none=>F.get i)=some b;cases hb:B.get i with
 |none=>exact h
 |some b' =>
  have h1:=hB.2 _ _ hb;have h2:=hF.2 _ _ h;rw[h1] at h2;exact h2⟩
theorem Heap.q2a {B F U:Heap}(hB:B.Le U) (hF:F.Le U):(B.over F).Le U:=⟨Nat.max_le.2 ⟨hB.1,hF.1⟩,λi b h=>by
 have h:(match B.get i with|some b=>some b|none=>F.get i)=some b:=h;cases hb:B.get i with
 |none=>rw[hb] at h;exact hF.2 _ _ h
 |some b'=>rw[hb] at h;rw[<-h];exact hB.2 _ _ hb⟩
theorem GBase.over {B F U B' U':Heap}(hB:B.Le B') (gu:B'.Le U') (hF:F.Le U') (hx:∀ i b,F.get i=some b->B.get i=none->B'.get i=none) (hd:Dead U U'):GBase B F U B' (B'.over F) U' :=
 ⟨hB,Heap.q1y gu hF,hx,hd⟩
mutual
def SV.rb (n:Nat):SV->Bool
 |.val _ _|.nilS|.nilP|.nilM|.nilF=>true
 |.lst j=>Nat.blt j n
 |.agg l=>SVs.rb n l
 |.tup l=>SVs.rb n l
 |_=>false
def SVs.rb (n:Nat):List SV->Bool
 |[]=>true
 |s::ss=>SV.rb n s&&SVs.rb n ss
end
def callV (ap:Ap) (sp:CSp):XSp:=λd args s K =>
 let s1:=(⟨s.env++args,s.own,s.nx⟩:St).frzs (Uc args);let a1:=s1.env.drop s.env.length
 bif SVs.pure a1 then (match sp ap a1 with
  |some (c,v,bs)=>bif v.rb bs.length&&bs.all OB.isL then c/\K (v.ren d 500000) ((⟨s1.env.take s.env.length,s1.own,s1.nx⟩:St).makes d 500000 0 bs) else False
  |none=>False) else False
section
variable {P:Program}
theorem OB.q1z {b:OB}(h:b.isL=true):∃ ty k xs nl,b=.lst ty k xs nl:=by cases b<;>first|exact⟨_,_,_,_,rfl⟩|cases h
theorem SRs.split {B:Heap}{pl:Nat->Value}{tb:Nat->Option Bool}:∀ {a:List SV}{u v:List Value},SRs P B pl tb a (u++v)->SRs P B pl tb (a.take u.length) u/\SRs P B pl tb (a.drop u.length) v
 |a,[],v,h=>⟨by simp[SRs],by simpa using h⟩
 |[],x::u,v,h=>by simp only[SRs] at h;cases h
 |s::a,x::u,v,h=>by simp only[SRs,xw] at h;obtain⟨y,ys,e,h1,h2⟩:=h;obtain⟨rfl,rfl⟩:=zO e;obtain⟨h3,h4⟩:=SRs.split h2;simp only[xF,xN,xV,SRs];exact⟨⟨_,_,rfl,h1,h3⟩,h4⟩
theorem DB {B F U:Heap}{tb tbc:Nat->Option Bool}{env:Env}{σ0:Heap}{d nt:Nat}(dK:0<nt) (cO:Nat->Value) (bs:List OB) (hF:F.Le U)
  (ak:∀ j b,bs[j]?=some b->b.isL=true/\OR P B cO tbc U (cO j) b/\∀ i,Oid (cO j) i->σ0.n<=i/\F.get i=none)
  (ek:∀ j j' i,j<bs.length->j'<bs.length->j≠j'->Oid (cO j) i->Oid (cO j') i->False) :
  ∀ (r:List OB) (j:Nat) (pl:Nat->Value) (s:St),bs.drop j=r->Gam P B F pl tb s env U->(∀ k i,(Qg s.own k).live=true->Oid (pl k) i->i<σ0.n\/∃ j'<j,j'<bs.length/\Oid (cO j') i/\k=d+j'*nt)->(∀ j'<j,j'<bs.length->pl (d+j'*nt)=cO j') ->
   ∃ pl',Gam P B F pl' tb (s.makes d nt j r) env U/\(∀ j'<bs.length,pl' (d+j'*nt)=cO j')
 |[],j,pl,s,hr,hG,_,hp=>⟨pl,hG,λj' cy=>hp j' (by
   have:=congrArg List.length hr;simp at this;omega) cy⟩
 |b::r,j,pl,s,hr,hG,hinv,hp=>by
  have bR:j<bs.length:=by
   grind [Nat.lt_or_ge,List.drop_eq_nil_of_le]
  have bD:bs[j]?=some b:=by
   have:(bs.drop j)[0]?=some b:=by rw[hr];rfl
   simpa using this
  have jb:bs.drop (j+1)=r:=by
   have:(bs.drop j).drop 1=r:=by rw[hr];rfl
   simpa [List.drop_drop,xL] using this
  obtain⟨h1,h2,h3⟩:=ak j b bD;obtain⟨ty,k,xs,nl,rfl⟩:=OB.q1z h1;have bU:∀ j' ,j'≠j->d+j'*nt≠d+j*nt:=(by grind [Nat.eq_of_mul_eq_mul_right]);refine DB dK cO bs hF ak ek r (j+1) (Jk pl (d+j*nt) (cO j)) (s.make (d+j*nt) (.lst ty k xs nl)) jb (hG.make (d+j*nt) (.lst ty k xs nl) (cO j) hF (λ_ _ _ _ _=>rfl) h2 λi _ hi=>⟨(h3 i hi).2,λk' hk hl e=>?_⟩) (λk' i hl hi=>?_) λj' cy ll=>?_
  .grind
  .by_cases hk:k'=d+j*nt
   .subst hk;simp only[Jk,zB] at hi
    grind
   .have cn:(Qg s.own k').live=true:=by
     simp only[St.make,St.kill,Qt,Yj,z6 hk] at hl
     rwa [OB.q0p] at hl
    simp only[Jk,z6 hk] at hi
    grind
  .by_cases e:j'=j
   .subst e;simp[Jk]
   .simp only[Jk,z6 (bU j' e)];exact hp j' (by omega) ll
mutual
theorem SR.renb {B:Heap}{pl pl':Nat->Value}{tb tb':Nat->Option Bool}{n d nt:Nat}(hp:∀ j,j<n->pl' (d+j*nt)=pl j) :
  ∀ (s:SV) (v:Value),s.rb n=true->SR P B pl tb s v->SR P B pl' tb' (s.ren d nt) v
 |.any,_,h,_|.bid _ _,_,h,_|.grd _ _,_,h,_|.sub _ _ _ _,_,h,_|.elp _ _ _ _,_,h,_|.rop _ _ _ _,_,h,_|.cp _ _,_,h,_|.fn _ _ _,_,h,_|.pf _ _ _ _,_,h,_|.map _,_,h,_|.dd _ _,_,h,_|.box _ _,_,h,_=>by cases h
 |.val k x,v,h,hs=>by simp only[SR,SV.ren] at hs |-;exact hs
 |.nilS,v,_,hs|.nilP,v,_,hs|.nilM,v,_,hs|.nilF,v,_,hs=>by simp only[SR,SV.ren] at hs |-;exact hs
 |.lst j,v,h,hs=>by
  have hj:j<n:=by simpa [SV.rb,zC] using h
  simp only[SR,SV.ren] at hs |-;rw[hp j hj];exact hs
 |.agg l,v,h,hs=>by simp only[SR,SV.ren] at hs |-;obtain⟨cs,h1,h2⟩:=hs;exact⟨cs,h1,SRs.renb hp l cs h h2⟩
 |.tup l,v,h,hs=>by simp only[SR,SV.ren] at hs |-;obtain⟨cs,h1,h2⟩:=hs;exact⟨cs,h1,SRs.renb hp l cs h h2⟩
theorem SRs.renb {B:Heap}{pl pl':Nat->Value}{tb tb':Nat->Option Bool}{n d nt:Nat}(hp:∀ j,j<n->pl' (d+j*nt)=pl j) :
  ∀ (s:List SV) (v:List Value),SVs.rb n s=true->SRs P B pl tb s v->SRs P B pl' tb' (SVs.ren d nt s) v
 |[],v,_,hs=>by simp only[SRs,SVs.ren] at hs |-;exact hs
 |s::ss,v,h,hs=>by simp only[SVs.rb,z1] at h;simp only[SRs,SVs.ren] at hs |-;obtain⟨x,y,h1,h2,h3⟩:=hs;exact⟨x,y,h1,SR.renb hp s x h.1 h2,SRs.renb hp ss y h.2 h3⟩
end
theorem O_ {f:Nat}{vc:VCode}{rs:List VResult}{nt:Nat}(h:Fun P f vc rs nt) (hm:P.follows .mixedOrders=true) {sp:CSp}{ap:Ap}
  (hb:∀ sg c v bs,sp ap sg=some (c,v,bs)->c->∃ (C:Cx) (L:List (Nat×LoopAnn)) (oB:List SV),SVs.pure oB=true/\(∀ U vs,SRs P U Xl Jp sg vs->SRs P U Xl Jp oB vs)/\COk P C/\gwp C L vc 0 (WY rs v bs) (Qk nt oB)):XOk P f (callV ap sp):=by
 intro B F pl tb s env U d args vals K R hG ha hx hK;unfold callV at hx;have vE:Gam P B F pl tb ⟨s.env++args,s.own,s.nx⟩ (env++vals) U:=⟨hG.bf,hG.le,hG.env.append ha,hG.obj,hG.fresh,hG.sep,hG.free⟩;obtain⟨B1,F1,qt,sh,vF,fY⟩:GRel P B F U ((⟨s.env++args,s.own,s.nx⟩:St).frzs (Uc args)) (env++vals) U:=GRel.frzs _ ⟨B,F,pl,tb,.of hG.bf (.refl _),vE⟩;generalize ((⟨s.env++args,s.own,s.nx⟩:St).frzs (Uc args))=s1 at hx fY;dsimp only at hx;have hlen:s.env.length=env.length:=hG.env.length;obtain⟨jI,kI⟩:=SRs.split fY.env;rw[hlen] at hx;have fJ:Gam P B1 F1 qt sh ⟨s1.env.take env.length,s1.own,s1.nx⟩ env U:=⟨fY.bf,fY.le,jI,fY.obj,fY.fresh,fY.sep,fY.free⟩;generalize s1.env.drop env.length=a1 at hx kI;generalize (⟨s1.env.take env.length,s1.own,s1.nx⟩:St)=s2 at hx fJ;cases sj:SVs.pure a1 with
 |false=>rw[sj] at hx;exact hx.elim
 |true =>
 rw[sj] at hx;simp only[zm] at hx;split at hx
 .rename_i c v bs eJ;cases dx:(v.rb bs.length&&bs.all OB.isL) with
  |false=>rw[dx] at hx;exact hx.elim
  |true =>
  rw[dx] at hx;obtain⟨hc,hx⟩:=hx;simp only[z1] at dx;obtain⟨hv,gd⟩:=dx;obtain⟨C,L,oB,dw,vG,lG,hg⟩:=hb _ c v bs eJ hc;have au:=vG B1 vals (Zw _ _ sj kI);have bB:GRel P B1 U U (Qk nt oB) (vals++List.replicate (nt-vals.length) undef) U:=by
   refine⟨B1,U,Xl,Jp,⟨.refl _,.refl _,λ_ _ _ h=>h,.refl _⟩,fJ.leB,.refl _,?_,λk=>?_,λk i' h1 h2=>?_,λk k' i' vH h1 h2 h3 h4=>?_,λ_ _=>rfl⟩
   .simp only[Qk];rw[au.length];exact SRs.append (Zw _ _ dw au) (Cq _)
   .simp only[Qk,Qg];trivial
   .simp only[Qk,Qg] at h1;cases h1
   .simp only[Qk,Qg] at h1;cases h1
  refine h.calls hm SN ?_;refine HM lG vc 0 _ _ _ U none _ trivial bB hg λe s' ae U' h1 h2=>?_
  have main:(match UU s' rs with
   |some r=>(match FC v r [] with
    |some mp=>PE mp v r/\I0 s' mp 0 bs
    |none=>False)
   |none=>False)->Q_ (JM ae U' rs) λv=>∃ v' aH,DropTo U v U' v' aH/\R v' aH:=λh=>by
   obtain⟨B',F',pl',tb',k1,k2⟩:=h2;split at h
   .rename_i r hr;split at h
    .rename_i mp lA;obtain⟨g1,g2⟩:=h;obtain⟨u,h3,h4⟩:=Kl k2 hr;have gP:=KF v r u g1 h4;have dm:=RP v r [] mp lA (λt t' a h=>by cases h);have ak:∀ j b,bs[j]?=some b->Ox s' mp j b:=λj b hj=>by have:=P6 bs 0 g2 j b hj;rwa [x4] at this
     rw[h3];have hle:U.Le U':=k1.f.trans k2.le;have gu:B'.Le U':=k2.leB;have aN:∀ j b,bs[j]?=some b->b.isL=true/\OR P B' (VB pl' mp) Jp U' (VB pl' mp j) b/\∀ i,Oid (VB pl' mp j) i->U.n<=i/\(B'.over F1).get i=none:=λj b hj=>by
      obtain⟨m1,m2⟩:=QI k2 (ak j b hj);have hl:=zf.1 gd b (z_ hj);obtain⟨ty,k,xs,nl,rfl⟩:=OB.q1z hl;refine⟨hl,m1,λi hi=>?_⟩;obtain⟨a,_,e2,e3⟩:=m2 rfl i hi;have r7:=k2.fresh a i e2 e3;have oC:U.get i=none:=by
       cases hg:U.get i with
       |none=>rfl
       |some b=>have h9:=k1.f.2 _ _ hg;rw[r7] at h9;cases h9
      have j_:B'.get i=none:=by
       cases hg:B'.get i with
       |none=>rfl
       |some b=>have h9:=k2.bf.2 _ _ hg;rw[r7] at h9;cases h9
      have sk:F1.get i=none:=by
       cases hg:F1.get i with
       |none=>rfl
       |some b=>have h9:=fJ.le.2 _ _ hg;rw[oC] at h9;cases h9
      refine⟨Nat.le_of_not_lt λaf=>?_,Heap.q1t j_ sk⟩;have aU:=k1.d.2 i af oC;rcases m1 with⟨_,_,h2⟩|⟨_,i',cap,c,t,h2,_,h3,_⟩
      .rw[h2] at hi;cases hi
      .rw[h2] at hi;obtain rfl:=osj hi;rw[h3] at aU;cases aU
     have ek:∀ j j' i,j<bs.length->j'<bs.length->j≠j'->Oid (VB pl' mp j) i->Oid (VB pl' mp j') i->False:=λj j' i hj cy aJ hi cJ=>by
      have bz:=z8 hj;have bF:=z8 cy;have r1:=zf.1 gd _ (zi hj);have r2:=zf.1 gd _ (zi cy);have l1:(bs[j]).live=true:=by cases jH:bs[j]<;>first|rfl|(rw[jH] at r1;cases r1)
      have l2:(bs[j']).live=true:=by cases jH:bs[j']<;>first|rfl|(rw[jH] at r2;cases r2)
      obtain⟨a,e1,e2,e3⟩:=(QI k2 (ak j _ bz)).2 l1 i hi;obtain⟨a',oy,iQ,sd⟩:=(QI k2 (ak j' _ bF)).2 l2 i cJ;by_cases e:a=a'
      .subst e;exact aJ (dm j j' a e1 oy)
      .exact k2.sep a a' i e e2 iQ e3 sd
     have lH:F1.Le U':=fJ.le.trans hle;have cz:∀ d,(Qg s2.own d).live=true->∀ i,Oid (qt d) i->B'.get i=none/\U'.get i=U.get i:=λd hl i hi=>by
      refine⟨?_,fJ.q1q hle hl hi⟩;have af:=(fJ.obj d).q1l hl hi;cases hg:U.get i with
      |none =>
       have hn:=k1.d.2 i af hg;cases bS:B'.get i with
       |none=>rfl
       |some bb=>have:=gu.2 _ _ bS;rw[hn] at this;cases this
      |some bb =>
       refine k1.x i bb hg ?_;cases bS:B1.get i with
       |none=>rfl
       |some b2=>have:=fJ.bf.2 _ _ bS;rw[fJ.fresh d i hl hi] at this;cases this
     have vI:Gam P B' (B'.over F1) qt sh s2 env U':=⟨Heap.q2c,Heap.q2a gu lH,SRs.mono k1.b (λ_ _ h=>h) _ _ fJ.env,λd=>(fJ.obj d).mono k1.b (λ_ _ h=>h) λhl i hi=>(cz d hl i hi).2,λd i q1 q2=>Heap.q1t (cz d q1 i q2).1 (fJ.fresh d i q1 q2),fJ.sep,fJ.free⟩;obtain⟨vJ,h5,h6⟩:=DB (d:=d) (nt:=500000) (σ0:=U) (tbc:=Jp) (by omega) (VB pl' mp) bs (Heap.q2a gu lH) aN ek bs 0 qt s2 rfl vI (λk i hl hi=>.inl ((fJ.obj k).q1l hl hi)) (λj' cy=>by omega);refine⟨u,U',.refl _ _ _,hK _ _ B' (B'.over F1) vJ sh u U' hx (vF.trans (.over k1.b gu lH (λi b e1 e2=>k1.x i b (fJ.le.2 _ _ e1) e2) k1.d)) h5 ?_⟩;exact SR.renb (tb:=Jp) (λj hj=>h6 j hj) _ _ hv gP
    .exact h.elim
   .exact h.elim
  cases e with
  |normal=>exact main h1
  |ret=>exact main h1
  |_=>exact h1.elim
 .exact hx.elim
theorem OL {f:Nat}{vc:VCode}{rs:List VResult}{nt:Nat}(h:Fun P f vc rs nt) (hm:P.follows .mixedOrders=true) {ap:Ap}(eY:Q1s P ap) {D:Type}{la:AL D}{pre:D->Prop}{res:D->SV}{obs:D->List OB}
  {C:Cx}(az:COk P C) {L:D->List (Nat×LoopAnn)}{V:D->Prop}
  (hq:∀ y,gwp C (L y) vc 0 (WY rs (res y) (obs y)) (Qk nt (AL.can la y))=V y)
  (hb:∀ y,pre y->V y):XOk P f (callV ap (W0 la pre res obs)):=O_ h hm λsg c v bs hs hc=>by
 unfold W0 at hs
 grind [AL.q0u,AL.q0l]
end
end Go.V
namespace Go.V
open Go
def pj4 {A B C D E:Type}(x:A×B×C×D×E):E:=x.2.2.2.2
def pj8 {A B C D A' B' C' D' E:Type}(x:A×B×C×D×A'×B'×C'×D'×E):E:=x.2.2.2.2.2.2.2.2
def Q4 {A B C D A' B' C' D' A1 B1 C1 D1 A2 B2 C2 D2 E:Type}(x:A×B×C×D×A'×B'×C'×D'×A1×B1×C1×D1×A2×B2×C2×D2×E):E:=x.2.2.2.2.2.2.2.2.2.2.2.2.2.2.2.2
theorem wrap_small {x:Nat}(h:x<9223372036854775808):IntKind.wrap .i64 (x:Int)=x:=by
 have e:((x:Int) % (18446744073709551616:Int))=x:=by omega
 have:¬ ((x:Int)>=9223372036854775808):=by omega
 show (if (true&&decide ((x:Int) % (18446744073709551616:Int)>=9223372036854775808))=true then (x:Int) % (18446744073709551616:Int)-18446744073709551616 else (x:Int) % (18446744073709551616:Int))=x;simp only[e,this,decide_false,Bool.and_false,zq,if_false]
theorem Bz {x y:Nat}(h:x<9223372036854775808):x &&& y<9223372036854775808:=Nat.lt_of_le_of_lt Nat.and_le_left h
theorem Oa {x y:Nat}(hx:x<9223372036854775808) (hy:y<9223372036854775808):x ||| y<9223372036854775808:=Nat.or_lt_two_pow (n:=63) hx hy
theorem Ec {x y:Nat}(hx:x<9223372036854775808) (hy:y<9223372036854775808):x ^^^ y<9223372036854775808:=Nat.xor_lt_two_pow (n:=63) hx hy
theorem BU (x:Nat):BitVec.ofInt 64 (x:Int)=BitVec.ofNat 64 x:=by apply BitVec.eq_of_toNat_eq;simp
theorem Wh {x:Nat}(h:x<9223372036854775808):(BitVec.ofInt 64 (x:Int)).toNat=x:=by rw[BU,BitVec.toNat_ofNat,xU (by omega)]
theorem R9 {x y:Nat}(hx:x<9223372036854775808) (hy:y<9223372036854775808):ZS .and .i64 x y=((x &&& y:Nat):Int):=by
 have e:(BitVec.ofInt 64 (x:Int) &&& BitVec.ofInt 64 (y:Int)).toNat=x &&& y:=by rw[BitVec.toNat_and,Wh hx,Wh hy]
 show IntKind.wrap .i64 ((BitVec.ofInt 64 (x:Int) &&& BitVec.ofInt 64 (y:Int)).toNat:Int)=_;rw[e,wrap_small (Bz hx)]
theorem Q2l {x y:Nat}(hx:x<9223372036854775808) (hy:y<9223372036854775808):ZS .or .i64 x y=((x ||| y:Nat):Int):=by
 have e:(BitVec.ofInt 64 (x:Int) ||| BitVec.ofInt 64 (y:Int)).toNat=x ||| y:=by rw[BitVec.toNat_or,Wh hx,Wh hy]
 show IntKind.wrap .i64 ((BitVec.ofInt 64 (x:Int) ||| BitVec.ofInt 64 (y:Int)).toNat:Int)=_;rw[e,wrap_small (Oa hx hy)]
theorem Q23 {x i:Nat}(hi:i<=64):Mj .i64 x i=((x >>> i:Nat):Int):=by have:Nat.min i 64=i:=xR hi;simp only[Mj,zh,IntKind.bits,this];rw[Nat.shiftRight_eq_div_pow,Int.fdiv_eq_ediv_of_nonneg _ (Int.le_of_lt (Int.pow_pos (by omega)))];norm_cast
theorem IC {x i:Nat}(hx:x<9223372036854775808) (hi:i<=64):(ZS .and .i64 (Mj .i64 x i) 1==1)=x.testBit i:=by have h1:x >>> i<9223372036854775808:=Nat.lt_of_le_of_lt (by rw[Nat.shiftRight_eq_div_pow];exact Nat.div_le_self _ _) hx;rw[Q23 hi,show (1:Int)=((1:Nat):Int) from rfl,R9 h1 (by omega),Nat.testBit];rw[Bool.eq_iff_iff];simp only[zr,bne_iff_ne,ne_eq];rw[Nat.and_comm,Nat.one_and_eq_mod_two];omega
end Go.V
namespace Go.Proofs.Tryd
open Go Go.V Go.Proofs
def inI (n a b:Int):Bool:=decide (a<=n)&&decide (n<=b)
def QV (hk:Int) (lw:List Int):Int:=if !inI hk 1 24 then 2 else if 96<lw.length then 5 else if lw.length=0 then 7 else if lw.any (λx=>!inI x 0 (hk-1)) then 2 else 0
def ZD (hk:Int) (lw l:List Int):Int:=if QV hk lw≠0 then QV hk lw else if l.length≠lw.length then 4 else if l.any (λx=>!inI x (-1) (lw.length-1)) then 2 else 0
def isRight (lw l:List Int) (w:Int):Bool:=let e:=l.getD w.toNat 0;e != -1&&lw.getD e.toNat 0==lw.getD w.toNat 0
def Q8r (lw a:List Int) (w:Int) (e:Nat):Bool:=lw.getD e 0==lw.getD w.toNat 0&&!(a.contains (e:Int))
def step (lw:List Int) (a:List Int) (w:Int):List Int:=match (List.range lw.length).find? (Q8r lw a w) with
 |some e=>a.set w.toNat e
 |none=>a
def Oy (l:List Int) (p:Int->Bool):Int:=match l.findIdx? p with|some i=>(i:Int)|none=>-1
def A9 {α:Type}(l:List α) (p:α->Bool):Int:=match l.findIdx? p with|some i=>(i:Int)|none=>-1
def u8s (l:List Int):Prop:=∀ x∈l,0<=x/\x<=255
def Q8p (l:List Int):Prop:=∀ x∈l,0<=x/\x<=65535
def bOk (h8:Int) (ws rs ds:List Int):Prop:=0<=h8/\h8<=255/\u8s ws/\Q8p rs/\u8s ds
def hkN (m h8:Int):Int:=1+Int.tmod h8 m
def HU (hk:Int) (cap:Nat) (ws:List Int):List Int:=if ws=[] then [0] else (ws.take cap).map λx=>Int.tmod x hk
def A7 (hk:Int) (cap:Nat) (rs:List Int):List Int:=if rs=[] then [21 % 2 ^ hk.toNat] else (rs.take cap).map λx=>x % 2 ^ hk.toNat
def bHk (h8:Int):Int:=hkN 10 h8
def Q0 (h8:Int) (ws:List Int):List Int:=HU (bHk h8) 24 ws
def Q2 (h8:Int) (rs:List Int):List Int:=A7 (bHk h8) 8 rs
def Qm (ds:List Int) (n:Nat):List Int:=(List.range n).map λw=>if w<ds.length then (if Int.tmod (ds.getD w 0) 16=15 then -1 else if ds.getD w 0>=80 then Int.tmod (ds.getD w 0) n else w) else w
def XY (n:Int) (l:List Int) (v:Int):List Int:=(l.set (Int.tmod v n).toNat (l.getD (Int.tmod (Int.tdiv v 7) n).toNat 0)).set (Int.tmod (Int.tdiv v 7) n).toNat (l.getD (Int.tmod v n).toNat 0)
def Z8 (ds:List Int) (n:Nat):List Int:=(ds.take 12).foldl (XY n) ((List.range n).map λ(w:Nat)=>(w:Int))
def M3 (b:Bool):Int:=if b then 120 else 46
def QP (lw:List Int) (row:Int):List UInt8:=lw.map λk=>if row.toNat.testBit k.toNat then 120 else 46
def QD (hd:Int) (rows:List Int):Int:=if !inI hd 1 24 then 2 else if 60<rows.length then 5 else if rows.length=0 then 7 else if rows.any (λx=>!inI x 0 (2 ^ hd.toNat-1)) then 2 else 0
def Qa (hk:Int) (lw:List Int) (hd:Int) (rows:List Int):Int:=if QV hk lw≠0 then QV hk lw else if QD hd rows≠0 then QD hd rows else if hd≠hk then 4 else 0
def Qf (hk:Int) (lw:List Int) (hd:Int) (rows:List Int):List (List UInt8):=if Qa hk lw hd rows=0 then rows.map (QP lw) else []
def Z7 (l:List Int) (pick:List UInt8):List UInt8:=l.map λe=>if e=-1 then 46 else pick.getD e.toNat 0
def Zp (hk:Int) (lw l:List Int) (hd:Int) (rows:List Int):Int:=if ZD hk lw l≠0 then ZD hk lw l else Qa hk lw hd rows
def Q9 (hk:Int) (lw l:List Int) (hd:Int) (rows:List Int):List (List UInt8):=if Zp hk lw l hd rows=0 then rows.map λr=>Z7 l (QP lw r) else []
def Nx (lw l:List Int) (n:Nat):List Int:=((List.range n).filter λ(w:Nat)=>!isRight lw l (w:Int)).map λ(w:Nat)=>(w:Int)
def TC (lw l:List Int):List Int:=Nx lw l l.length
def WU (hk:Int) (lw l:List Int):List Int:=if ZD hk lw l=0 then TC lw l else []
theorem H6 {hk:Int}{lw l:List Int}(h:ZD hk lw l=0):l.length=lw.length/\lw.length≠0/\∀ x∈l,-1<=x/\x<lw.length:=by
 unfold ZD at h;split at h
 .contradiction
 .rename_i ht;split at h
  .cases h
  .rename_i hl;split at h
   .cases h
   .rename_i ha;have ht:QV hk lw=0:=by simpa using ht
    refine⟨by simpa using hl,λh0=>?_,λx hx=>?_⟩
    .unfold QV at ht;split at ht
     .cases ht
     .split at ht
      .cases ht
      .first|omega|(rw[z7 h0] at ht;omega)
    .have:=xe.1 (Bool.eq_false_iff.2 ha) x hx;simp[inI] at this;omega
theorem Po {hk:Int}{lw:List Int}(h:QV hk lw=0):1<=hk/\hk<=24/\lw.length<=96/\lw.length≠0/\∀ x∈lw,0<=x/\x<hk:=by
 unfold QV at h;split at h
 .cases h
 .rename_i h1;split at h
  .cases h
  .rename_i h2;split at h
   .cases h
   .rename_i h3;split at h
    .cases h
    .rename_i h4;have h1:1<=hk/\hk<=24:=by simpa [inI] using h1
     refine⟨h1.1,h1.2,by omega,h3,λx hx=>?_⟩;have h5:∀ x∈lw,inI x 0 (hk-1)=true:=by simpa using h4
     have:=h5 x hx;simp only[inI,z1,zg] at this;omega
theorem Lq {α:Type}{l:List α}{p:α->Bool}{k:Nat}(hk:k<l.length) (h:p l[k]=true) (hJ:(l.take k).any p=false):A9 l p=k:=by
 have:l.findIdx? p=some k:=by rw[List.findIdx?_eq_some_iff_getElem];refine⟨hk,h,λj hj=>?_⟩;have hn:=xe.1 hJ l[j] (List.mem_take_iff_getElem.2 ⟨j,by omega,rfl⟩);simpa using hn
 simp[A9,this]
theorem Hj {α:Type}{l:List α}{p:α->Bool}(hJ:l.any p=false):A9 l p=-1:=by
 have:l.findIdx? p=none:=by rw[List.findIdx?_eq_none_iff];intro x hx;have:=xe.1 hJ x hx;simpa using this
 simp[A9,this]
theorem As {α:Type}(l:List α) (p:α->Bool):(decide (A9 l p>=0))=l.any p:=by
 cases h:l.any p with
 |false=>rw[Hj h];rfl
 |true =>
  have:(l.findIdx? p).isSome=true:=by rw[List.findIdx?_isSome,h]
  obtain⟨i,hi⟩:=Option.isSome_iff_exists.1 this;have e:A9 l p=(i:Int):=by simp[A9,hi]
  rw[e];exact xZ (Int.natCast_nonneg i)
def NC {α:Type}(l:List α) (n:Nat):List α:=(List.replicate n l).flatten
abbrev SI:=Int×Int×Bool
def ZP (hk:Int) (lw:List Int) (hd:Int) (rows:List Int) (s:List SI):Int:=if Qa hk lw hd rows≠0 then Qa hk lw hd rows else if 60<s.length then 5 else if s.any (λx=>!inI x.1 0 119||!inI x.2.1 0 (lw.length-1)) then 2 else 0
def rowAt (rows:List Int) (p:Int):Nat:=(rows.getD (p.toNat % rows.length) 0).toNat
def Ao (rows:List Int) (w:Nat) (b:Nat) (x:SI):Nat:=if x.2.1=w then (if x.2.2 then b &&& rowAt rows x.1 else b ^^^ (b &&& rowAt rows x.1)) else b
def FB (lw:List Int):Nat:=lw.foldl (λb k=>b ||| 2 ^ k.toNat) 0
def Un (lw rows:List Int) (s:List SI) (w:Nat):Nat:=s.foldl (Ao rows w) (FB lw)
def Z3 (lw rows:List Int) (s:List SI):List Int:=(List.range lw.length).map λw=>((Un lw rows s w:Nat):Int)
def Z1 (lw:List Int) (s:List SI):List Bool:=(List.range lw.length).map λ(w:Nat)=>!(s.any λx=>decide (x.2.1=w)&&x.2.2)
def XE (hk:Int) (lw:List Int) (hd:Int) (rows:List Int) (s:List SI):List Int:=if ZP hk lw hd rows s=0 then Z3 lw rows s else []
def XG (hk:Int) (lw:List Int) (hd:Int) (rows:List Int) (s:List SI):List Bool:=if ZP hk lw hd rows s=0 then Z1 lw s else []
theorem Mu {α:Type}(l:List α) (a b:Nat):NC l (a+b)=NC l a++NC l b:=by simp only[NC];rw[<-List.replicate_append_replicate,List.flatten_append]
theorem Yo {α:Type}(l:List α) (n:Nat):(NC l n).length=l.length*n:=by simp[NC,List.length_flatten,wU]
theorem Q0k {α:Type}(x:α) (n:Nat):NC [x] n=List.replicate n x:=by
 induction n with
 |zero=>rfl
 |succ n ih=>rw[Mu,ih,List.replicate_succ'];rfl
theorem Ix {α:Type}{l:List α}{n j c:Nat}(hj:j<=n) (hc:l.length*j+c<=l.length*n):(NC l n).take (l.length*j+c)=(NC l n).take (l.length*j)++(NC l n).take c:=by
 obtain⟨k,rfl⟩:=Nat.exists_eq_add_of_le hj;rw[Nat.mul_add] at hc;have e:NC l (j+k)=NC l k++NC l j:=by rw[xL,Mu]
 rw[List.take_add];congr 1;rw[Mu l j k,List.drop_left' (Yo l j),<-Mu,e,List.take_append_of_le_length (by rw[Yo];omega)]
def Q3d {α:Type}(l:List α) (n:Nat) (xs:List α) (m:Nat):Prop:=xs.length=l.length*n/\m<=l.length*n/\xs.take m=(NC l n).take m/\(m=l.length*n\/(0<m/\∃ j,m=l.length*j))
theorem Ls {α:Type}(l:List α) (n:Nat) (d:α):Q3d l n (List.take (l.length*n) l++List.drop l.length (List.replicate (l.length*n) d)) (Nat.min l.length (l.length*n)):=by
 rcases Nat.eq_zero_or_pos n with rfl|hn
 .exact⟨by simp,by simp,by simp,.inl (by simp)⟩
 have h1:l.length<=l.length*n:=Nat.le_mul_of_pos_right _ hn;have e:Nat.min l.length (l.length*n)=l.length:=xR h1;rw[e];refine⟨by simp;omega,h1,?_,?_⟩
 .obtain⟨k,rfl⟩:=Nat.exists_eq_add_of_le hn;rw[zy h1,List.take_left,Nat.succ_eq_add_one,Mu,List.take_append_of_le_length (by rw[Yo];omega)];simp[NC]
 .rcases Nat.eq_zero_or_pos l.length with h0|h0
  .left;rw[h0];simp
  .exact .inr ⟨h0,1,by omega⟩
theorem Sp {α:Type}{l:List α}{n:Nat}{xs:List α}{m:Nat}(h:Q3d l n xs m) (hm:m<xs.length) :
  Q3d l n (List.take m xs++(List.take (xs.length-m) (List.take m xs)++List.drop (m+Nat.min (List.take m xs).length (xs.length-m)) xs)) (m+Nat.min (List.take m xs).length (xs.length-m))/\0<Nat.min (List.take m xs).length (xs.length-m):=by
 obtain⟨h1,h2,h3,h4⟩:=h;have hl:(List.take m xs).length=m:=by rw[xi];omega
 rw[hl];rcases h4 with h4|⟨h4,j,h5⟩
 .omega
 have hj:j<=n:=Nat.le_of_mul_le_mul_left (by omega:l.length*j<=l.length*n) (Nat.pos_of_ne_zero λh=>by rw[h] at h1;omega);have hc:Nat.min m (xs.length-m)=min m (xs.length-m):=rfl;generalize dA:Nat.min m (xs.length-m)=c;rw[hc] at dA;have c1:c<=m:=by omega
 have c2:m+c<=xs.length:=by omega
 have c3:0<c:=by omega
 refine⟨⟨?_,by omega,?_,?_⟩,c3⟩
 .simp only[zF,xi,w4];omega
 .have e1:List.take (xs.length-m) (List.take m xs)=List.take c ((NC l n).take m):=by
   rw[h3,List.take_take,List.take_take];congr 1;omega
  rw[e1,h3,<-zX,List.take_left']
  .rw[h5,Ix hj (by omega),List.take_take,xR (by omega)]
  .simp only[zF,xi,Yo];omega
 .rcases zn (xs.length-m) m with h6|h6
  .left;omega
  .right;exact⟨by omega,j+j,by rw[Nat.mul_add];omega⟩
theorem E1 {α:Type}{l:List α}{n:Nat}{xs:List α}{m:Nat}(h:Q3d l n xs m) (hm:¬ m<xs.length):xs=NC l n:=by
 obtain⟨h1,h2,h3,_⟩:=h;have:m=l.length*n:=by omega
 rw[zy (by omega),zy (by rw[Yo];omega)] at h3;exact h3
def G8:AL (List Int):=(.one (.k (.list (.i .i64))))
def PU (d:List Int):Prop:=d.length<=110
def Np (d:List Int):SV:=.lst 0
def Nl (d:List Int):List OB:=[.lst 3 (.i .i64) d false]
def WS:CSp:=W0 G8 PU Np Nl
def Ye (l:List Int):Prop :=
 (((List.length ([]:List Int))+(List.length l))*8<=70368744177664)/\(True/\(((([]:List Int)++l)=l/\((List.isEmpty l)&&false)=false)/\True))
def Ml:Cx:=⟨[(3,(.i .i64))],[],6,[],0,[],[],[],[],false,[],[],[],[]⟩
def Rj (l:List Int):List (Nat×LoopAnn):=[]
theorem Rt (d:List Int):gwp (Ml) (Rj d) c9 0 (WY [.tmp 2] (Np d) (Nl d)) (Qk 6 (AL.can G8 d))=Ye d:=by kernel_rfl
abbrev Rx:Prop:=OkC Tryd.prog 9 WS
theorem Rm (h:∀ (l:List Int),(l.length<=110)->Ye l):OkC Tryd.prog 9 WS :=
 QF Q84 mixed (C:=Ml) (V:=λ(d:List Int)=>Ye d) ⟨.nil,XsOk.nil,ItsOk.nil,YlOk.nil,IysOk.nil,XfOk.nil⟩ (Rt) λd hp=>h d hp
theorem Vo:Rx:=Rm λl h=>by
 (unfold Ye;(try delta lI gD sT I64 Q4 pj8 pj4);simp);omega
def Dh:AL (Int×List Int):=(.one (.agg (.cons (.k (.i .i64)) (.one (.k (.list (.i .i64)))))))
def S6 (d:Int×List Int):Prop:=d.2.length<=110
def Mo (d:Int×List Int):SV:=.agg [.val (.i .i64) d.1,.lst 0]
def Gz (d:Int×List Int):List OB:=[.lst 3 (.i .i64) d.2 false]
def M0:CSp:=W0 Dh S6 Mo Gz
def K4 (hk:Int) (lw:List Int):Prop :=
 (lw.length<=110)/\(false=true->lw=[])/\((hk=hk/\True/\(([]:List SV)=[]))/\((lw=lw/\false=false)/\True))
def DT:Cx:=⟨[],[(9,WS)],9,[],0,[],[],[],[],false,[],[],[],[]⟩
def SQ (hk:Int) (lw:List Int):List (Nat×LoopAnn):=[]
theorem L3 (d:Int×List Int):gwp (DT) (SQ d.1 d.2) c8 0 (WY [.cell 2 true 2] (Mo d) (Gz d)) (Qk 9 (AL.can Dh d))=K4 d.1 d.2:=by kernel_rfl
abbrev So:Prop:=OkC Tryd.prog 8 M0
theorem C7 (h:∀ (hk:Int) (lw:List Int),(lw.length<=110)->K4 hk lw):OkC Tryd.prog 8 M0 :=
 QF Q7v mixed (C:=DT) (V:=λ(d:Int×List Int)=>K4 d.1 d.2) ⟨(.cons Vo .nil),XsOk.nil,ItsOk.nil,YlOk.nil,IysOk.nil,XfOk.nil⟩ (L3) λd hp=>h d.1 d.2 hp
theorem Sq:So:=C7 λhk lw h=>by simp[K4,h]
def Y4:AL ((Int×List Int×List Int)×Int):=(.cons (.agg (.cons (.k (.i .i64)) (.cons (.k (.list (.i .i64))) (.one (.k (.list (.i .i64))))))) (.one (.k (.i .i64))))
def Ux (d:(Int×List Int×List Int)×Int):Prop:=0<=d.2/\d.2<d.1.2.2.length/\d.1.2.2.length<=d.1.2.1.length/\∀ x∈d.1.2.2,-1<=x/\x<d.1.2.1.length
def WI (d:(Int×List Int×List Int)×Int):SV:=.val .bo (isRight d.1.2.1 d.1.2.2 d.2)
def WW (d:(Int×List Int×List Int)×Int):List OB:=[]
def Xh:CSp:=W0 Y4 Ux WI WW
def J0 (hk:Int) (lw:List Int) (l:List Int) (w:Int):Prop :=
 (0<=w)/\(w<(List.length l))/\(((gD l w 0) != (-1:Int))=true->0<=(gD l w 0))/\(((gD l w 0) != (-1:Int))=true->(gD l w 0)<(List.length lw))/\(((gD l w 0) != (-1:Int))=true->0<=w)/\(((gD l w 0) != (-1:Int))=true->w<(List.length lw))/\((((gD l w 0) != (-1:Int))&&((gD lw (gD l w 0) 0)==(gD lw w 0)))=(isRight lw l w)/\(True))
def Y3:Cx:=⟨[],[],28,[],0,[],[],[],[],false,[],[],[],[]⟩
def Nd (hk:Int) (lw:List Int) (l:List Int) (w:Int):List (Nat×LoopAnn):=[]
theorem Nj (d:(Int×List Int×List Int)×Int):gwp (Y3) (Nd d.1.1 d.1.2.1 d.1.2.2 d.2) c31 0 (WY [.tmp 4] (WI d) (WW d)) (Qk 28 (AL.can Y4 d))=J0 d.1.1 d.1.2.1 d.1.2.2 d.2:=by kernel_rfl
abbrev Ng:Prop:=OkC Tryd.prog 31 Xh
theorem N9 (h:∀ (hk:Int) (lw:List Int) (l:List Int) (w:Int),(0<=w/\w<l.length/\l.length<=lw.length/\∀ x∈l,-1<=x/\x<lw.length)->J0 hk lw l w):OkC Tryd.prog 31 Xh :=
 QF Q3v mixed (C:=Y3) (V:=λ(d:(Int×List Int×List Int)×Int)=>J0 d.1.1 d.1.2.1 d.1.2.2 d.2) ⟨.nil,XsOk.nil,ItsOk.nil,YlOk.nil,IysOk.nil,XfOk.nil⟩ (Nj) λd hp=>h d.1.1 d.1.2.1 d.1.2.2 d.2 hp
theorem Nh:Ng:=N9 λhk lw l w h=>by
 obtain⟨h1,h2,h3,h4⟩:=h;obtain⟨n,rfl⟩:=zo h1;have hn:n<l.length:=by omega
 have:=h4 _ (zi hn);unfold J0;(try delta lI gD sT I64 Q4 pj8 pj4);simp only[and_true,bne_iff_ne,ne_eq,zh,Int.ofNat_lt,Q7 hn];refine⟨by omega,by omega,λh=>by omega,λh=>by omega,λ_=>by omega,λ_=>by omega,?_⟩;simp only[isRight,zh,Q7 hn]
def JD:AL (List Int×((Int->Prop)×(Int->Bool))):=(.cons (.k (.list (.i .i64))) (.one (.fn [(.i .i64)] .bo)))
def Yh (d:List Int×((Int->Prop)×(Int->Bool))):Prop:=d.1.length<=1000000/\∀ x∈d.1,d.2.1 x
def Jv (d:List Int×((Int->Prop)×(Int->Bool))):SV:=.val (.i .i64) (Oy d.1 d.2.2)
def Jt (d:List Int×((Int->Prop)×(Int->Bool))):List OB:=[]
def ZJ:CSp:=W0 JD Yh Jv Jt
def QQ (l:List Int) (p:(Int->Prop)×(Int->Bool)):Prop :=
 ∃ (e2:Unit) (d20:Int),((l=l/\(SV.pf [(.i .i64)] .bo p.1 p.2=SV.pf [(.i .i64)] .bo p.1 p.2)/\(lI l)=(lI l)/\(0:Int)=d20/\True)/\(True)) /\
 LoopP (λ(d2:Int) (q2:(Int)->Prop) =>
  ((decide (d2<(lI l)))=true ->
   (0<=d2)/\(d2<(List.length l))/\(p.1 (gD l d2 0))/\((p.2 (gD l d2 0))=true ->
    (d2=(Oy l p.2)/\(True))) /\
   ((p.2 (gD l d2 0))=false ->
    (I64 (d2+(1:Int)))/\(∃ d3:Int,((l=l/\(SV.pf [(.i .i64)] .bo p.1 p.2=SV.pf [(.i .i64)] .bo p.1 p.2)/\(lI l)=(lI l)/\(d2+(1:Int))=d3/\True)/\(True))/\q2 d3))) /\
  ((decide (d2<(lI l)))=false ->
   ((-1:Int)=(Oy l p.2)/\(True)))) d20
def JE:Cx:=⟨[],[],19,[],0,[],[],[],[],false,[],[],[],[]⟩
def Yw (l:List Int) (p:(Int->Prop)×(Int->Bool)):List (Nat×LoopAnn):=[(0,⟨Unit,Int,[0,1,7,8],λe x=>[.val (.list (.i .i64)) l,.pf [(.i .i64)] .bo p.1 p.2,.val (.i .i64) (((List.length l):Nat):Int),.val (.i .i64) x],λe x=>[]⟩)]
theorem Yx (d:List Int×((Int->Prop)×(Int->Bool))):gwp (JE) (Yw d.1 d.2) c67 0 (WY [.tmp 4] (Jv d) (Jt d)) (Qk 19 (AL.can JD d))=QQ d.1 d.2:=by kernel_rfl
abbrev Yn:Prop:=OkC Tryd.prog 67 ZJ
theorem YE (h:∀ (l:List Int) (p:(Int->Prop)×(Int->Bool)),(l.length<=1000000/\∀ x∈l,p.1 x)->QQ l p):OkC Tryd.prog 67 ZJ :=
 QF Q5b mixed (C:=JE) (V:=λ(d:List Int×((Int->Prop)×(Int->Bool)))=>QQ d.1 d.2) ⟨.nil,XsOk.nil,ItsOk.nil,YlOk.nil,IysOk.nil,XfOk.nil⟩ (Yx) λd hp=>h d.1 d.2 hp
theorem I7 {l:List Int}{p:Int->Bool}{k:Nat}(hk:k<l.length) (h:p l[k]=true) (hJ:(l.take k).any p=false):Oy l p=k:=by
 have:l.findIdx? p=some k:=by rw[List.findIdx?_eq_some_iff_getElem];refine⟨hk,h,λj hj=>?_⟩;have hn:=xe.1 hJ l[j] (List.mem_take_iff_getElem.2 ⟨j,by omega,rfl⟩);simpa using hn
 simp[Oy,this]
theorem I4 {l:List Int}{p:Int->Bool}(hJ:l.any p=false):Oy l p=-1:=by
 have:l.findIdx? p=none:=by rw[List.findIdx?_eq_none_iff];intro x hx;have:=xe.1 hJ x hx;simpa using this
 simp[Oy,this]
theorem C_ (l:List Int) (p:Int->Bool):decide (Oy l p>=0)=l.any p:=by
 unfold Oy;cases h:l.findIdx? p with
 |none =>
  have:=List.findIdx?_eq_none_iff.1 h;have:l.any p=false:=by rw[xe];intro x hx;simp[this x hx]
  rw[this];rfl
 |some i =>obtain⟨h1,h2,_⟩:=List.findIdx?_eq_some_iff_getElem.1 h;rw[xT.2 ⟨l[i],zi h1,h2⟩];simp
theorem Yu:Yn:=YE λl p hp=>by
 unfold QQ;(try delta lI gD sT I64 Q4 pj8 pj4);simp only[true_and,and_true,exists_eq_left',exists_const,zg,zk];refine LoopP.count l.length (λk=>(l.take k).any p.2=false) (by simp) λk bu hJ q hq=>?_;simp only[zh,Int.ofNat_lt,Zs];refine⟨λaf=>?_,λaZ=>?_⟩
 .rw[Q7 af];refine⟨by omega,af,hp.2 _ (zi af),λhx=>?_,λhx=>⟨by omega,hq af ?_⟩⟩
  .rw[I7 af hx hJ]
  .rw[Qc af,List.any_append,hJ];simp[hx]
 .rw[zy (by omega)] at hJ;rw[I4 hJ]
def Jd:AL (List Int×((Int->Prop)×(Int->Bool))):=(.cons (.k (.list (.i .i64))) (.one (.fn [(.i .i64)] .bo)))
def Wm (d:List Int×((Int->Prop)×(Int->Bool))):Prop:=d.1.length<=1000000/\∀ x∈d.1,d.2.1 x
def J4 (d:List Int×((Int->Prop)×(Int->Bool))):SV:=.val .bo (d.1.any d.2.2)
def J3 (d:List Int×((Int->Prop)×(Int->Bool))):List OB:=[]
def Qq:CSp:=W0 Jd Wm J4 J3
def Z0 (l:List Int) (p:(Int->Prop)×(Int->Bool)):Prop :=
 (l.length<=1000000/\∀ x∈l,(λ(x1:Int)=>p.1 x1) x)/\((decide ((Oy l (λ(x1:Int)=>(p.2 x1)))>=(0:Int)))=(l.any p.2)/\(True))
def Jb:Cx:=⟨[],[(67,ZJ)],9,[],0,[],[],[],[],false,[],[],[],[]⟩
def WO (l:List Int) (p:(Int->Prop)×(Int->Bool)):List (Nat×LoopAnn):=[]
theorem WK (d:List Int×((Int->Prop)×(Int->Bool))):gwp (Jb) (WO d.1 d.2) c42 0 (WY [.tmp 4] (J4 d) (J3 d)) (Qk 9 (AL.can Jd d))=Z0 d.1 d.2:=by kernel_rfl
abbrev WE:Prop:=OkC Tryd.prog 42 Qq
theorem WD (h:∀ (l:List Int) (p:(Int->Prop)×(Int->Bool)),(l.length<=1000000/\∀ x∈l,p.1 x)->Z0 l p):OkC Tryd.prog 42 Qq :=
 QF Q3r mixed (C:=Jb) (V:=λ(d:List Int×((Int->Prop)×(Int->Bool)))=>Z0 d.1 d.2) ⟨(.cons Yu .nil),XsOk.nil,ItsOk.nil,YlOk.nil,IysOk.nil,XfOk.nil⟩ (WK) λd hp=>h d.1 d.2 hp
theorem Z2:WE:=WD λl p hp=>by exact⟨hp,C_ l p.2,trivial⟩
def Ub:AL (Int×Int×Int):=(.cons (.k (.i .i64)) (.cons (.ptr (.one (.k (.i .i64)))) (.one (.ptr (.one (.k (.i .i64)))))))
def Bt (d:Int×Int×Int):Prop:=True
def Vw (d:Int×Int×Int):SV:=.val .bo (decide (d.1<d.2.1)||decide (d.2.2<d.1))
def VI (d:Int×Int×Int):List OB:=[]
def Ku:CSp:=W0 Ub Bt Vw VI
def YA (n:Int) (a:Int) (b:Int):Prop :=
 (((decide (n<a))||(decide (n > b)))=(decide (n<a)||decide (b<n))/\(True))
def UL:Cx:=⟨[],[],13,[],0,[],[],[],[],false,[],[],[],[]⟩
def BW (n:Int) (a:Int) (b:Int):List (Nat×LoopAnn):=[]
theorem Hk (d:Int×Int×Int):gwp (UL) (BW d.1 d.2.1 d.2.2) c43 0 (WY [.tmp 4] (Vw d) (VI d)) (Qk 13 (AL.can Ub d))=YA d.1 d.2.1 d.2.2:=by kernel_rfl
abbrev HQ:Prop:=OkC Tryd.prog 43 Ku
theorem H2 (h:∀ (n:Int) (a:Int) (b:Int),(True)->YA n a b):OkC Tryd.prog 43 Ku :=
 QF Q5g mixed (C:=UL) (V:=λ(d:Int×Int×Int)=>YA d.1 d.2.1 d.2.2) ⟨.nil,XsOk.nil,ItsOk.nil,YlOk.nil,IysOk.nil,XfOk.nil⟩ (Hk) λd hp=>h d.1 d.2.1 d.2.2 hp
theorem P5:HQ:=H2 λn a b _=>by exact⟨rfl,trivial⟩
def UG:AL (Int×Int×Int):=(.cons (.k (.i .i64)) (.cons (.ptr (.one (.k (.i .i64)))) (.one (.ptr (.one (.k (.i .i64)))))))
def B7 (d:Int×Int×Int):Prop:=True
def Vy (d:Int×Int×Int):SV:=.val .bo (decide (d.1<d.2.1)||decide (d.2.2<d.1))
def Vz (d:Int×Int×Int):List OB:=[]
def Kk:CSp:=W0 UG B7 Vy Vz
def YG (n:Int) (a:Int) (b:Int):Prop :=
 (((decide (n<a))||(decide (n > b)))=(decide (n<a)||decide (b<n))/\(True))
def UA:Cx:=⟨[],[],13,[],0,[],[],[],[],false,[],[],[],[]⟩
def Ps (n:Int) (a:Int) (b:Int):List (Nat×LoopAnn):=[]
theorem P3 (d:Int×Int×Int):gwp (UA) (Ps d.1 d.2.1 d.2.2) c81 0 (WY [.tmp 4] (Vy d) (Vz d)) (Qk 13 (AL.can UG d))=YG d.1 d.2.1 d.2.2:=by kernel_rfl
abbrev HR:Prop:=OkC Tryd.prog 81 Kk
theorem Pu (h:∀ (n:Int) (a:Int) (b:Int),(True)->YG n a b):OkC Tryd.prog 81 Kk :=
 QF Q3z mixed (C:=UA) (V:=λ(d:Int×Int×Int)=>YG d.1 d.2.1 d.2.2) ⟨.nil,XsOk.nil,ItsOk.nil,YlOk.nil,IysOk.nil,XfOk.nil⟩ (P3) λd hp=>h d.1 d.2.1 d.2.2 hp
theorem Hn:HR:=Pu λn a b _=>by exact⟨rfl,trivial⟩
def MV:AL (Int×Int×List Int):=(.cons (.k (.i .i64)) (.cons (.k (.i .i64)) (.one (.k (.list (.i .i64))))))
def PT (d:Int×Int×List Int):Prop:=d.2.2.length<=1000000
def NI (d:Int×Int×List Int):SV:=.val .bo (!(d.2.2.any λn=>decide (n<d.1)||decide (d.2.1<n)))
def Nw (d:Int×Int×List Int):List OB:=[]
def US:CSp:=W0 MV PT NI Nw
def Va (a:Int) (b:Int) (l:List Int):Prop :=
 (l.length<=1000000/\∀ x∈l,(λ(x1:Int)=>True) x)/\((!(l.any (λ(x1:Int)=>(decide (x1<a)||decide (b<x1)))))=(!(l.any λn=>decide (n<a)||decide (b<n)))/\(True))
def Gk:Cx:=⟨[],[(42,Qq),(81,Kk)],11,[],0,[],[],[],[],false,[],[],[],[]⟩
def TR (a:Int) (b:Int) (l:List Int):List (Nat×LoopAnn):=[]
theorem RC (d:Int×Int×List Int):gwp (Gk) (TR d.1 d.2.1 d.2.2) c61 0 (WY [.tmp 6] (NI d) (Nw d)) (Qk 11 (AL.can MV d))=Va d.1 d.2.1 d.2.2:=by kernel_rfl
abbrev RZ:Prop:=OkC Tryd.prog 61 US
theorem Ru (h:∀ (a:Int) (b:Int) (l:List Int),(l.length<=1000000)->Va a b l):OkC Tryd.prog 61 US :=
 QF Q51 mixed (C:=Gk) (V:=λ(d:Int×Int×List Int)=>Va d.1 d.2.1 d.2.2) ⟨(.cons Z2 (.cons Hn .nil)),XsOk.nil,ItsOk.nil,YlOk.nil,IysOk.nil,XfOk.nil⟩ (RC) λd hp=>h d.1 d.2.1 d.2.2 hp
theorem RV:RZ:=Ru λa b l h=>by exact⟨⟨h,λ_ _=>trivial⟩,rfl,trivial⟩
def MF:AL (Int×Int×List Int):=(.cons (.k (.i .i64)) (.cons (.k (.i .i64)) (.one (.k (.list (.i .i64))))))
def T3 (d:Int×Int×List Int):Prop:=d.2.2.length<=1000000
def NJ (d:Int×Int×List Int):SV:=.val .bo (!(d.2.2.any λn=>decide (n<d.1)||decide (d.2.1<n)))
def NL (d:Int×Int×List Int):List OB:=[]
def Kj:CSp:=W0 MF T3 NJ NL
def V7 (a:Int) (b:Int) (l:List Int):Prop :=
 (l.length<=1000000/\∀ x∈l,(λ(x1:Int)=>True) x)/\((!(l.any (λ(x1:Int)=>(decide (x1<a)||decide (b<x1)))))=(!(l.any λn=>decide (n<a)||decide (b<n)))/\(True))
def MG:Cx:=⟨[],[(42,Qq),(43,Ku)],11,[],0,[],[],[],[],false,[],[],[],[]⟩
def Rp (a:Int) (b:Int) (l:List Int):List (Nat×LoopAnn):=[]
theorem RW (d:Int×Int×List Int):gwp (MG) (Rp d.1 d.2.1 d.2.2) c22 0 (WY [.tmp 6] (NJ d) (NL d)) (Qk 11 (AL.can MF d))=V7 d.1 d.2.1 d.2.2:=by kernel_rfl
abbrev R0:Prop:=OkC Tryd.prog 22 Kj
theorem TZ (h:∀ (a:Int) (b:Int) (l:List Int),(l.length<=1000000)->V7 a b l):OkC Tryd.prog 22 Kj :=
 QF Q4r mixed (C:=MG) (V:=λ(d:Int×Int×List Int)=>V7 d.1 d.2.1 d.2.2) ⟨(.cons Z2 (.cons P5 .nil)),XsOk.nil,ItsOk.nil,YlOk.nil,IysOk.nil,XfOk.nil⟩ (RW) λd hp=>h d.1 d.2.1 d.2.2 hp
theorem G5:R0:=TZ λa b l h=>by exact⟨⟨h,λ_ _=>trivial⟩,rfl,trivial⟩
def De:AL (Int×List Int):=(.one (.agg (.cons (.k (.i .i64)) (.one (.k (.list (.i .i64)))))))
def TS (d:Int×List Int):Prop:=d.2.length<=1000000
def Mt (d:Int×List Int):SV:=.val (.i .i64) (QV d.1 d.2)
def G2 (d:Int×List Int):List OB:=[]
def YK:CSp:=W0 De TS Mt G2
def Ke (hk:Int) (lw:List Int):Prop :=
 ([hk].length<=1000000)/\((!(!([hk].any λn=>decide (n<(1:Int))||decide ((24:Int)<n))))=true ->
  ((2:Int)=(QV hk lw)/\(True))) /\
 ((!(!([hk].any λn=>decide (n<(1:Int))||decide ((24:Int)<n))))=false ->
  ((decide ((lI lw) > (96:Int)))=true ->
   ((5:Int)=(QV hk lw)/\(True))) /\
  ((decide ((lI lw) > (96:Int)))=false ->
   (((lI lw)==(0:Int))=true ->
    ((7:Int)=(QV hk lw)/\(True))) /\
   (((lI lw)==(0:Int))=false ->
    (I64 (hk-(1:Int)))/\(lw.length<=1000000)/\((!(!(lw.any λn=>decide (n<(0:Int))||decide ((hk-(1:Int))<n))))=true ->
     ((2:Int)=(QV hk lw)/\(True))) /\
    ((!(!(lw.any λn=>decide (n<(0:Int))||decide ((hk-(1:Int))<n))))=false ->
     ((0:Int)=(QV hk lw)/\(True))))))
def DF:Cx:=⟨[(3,(.i .i64))],[(61,US)],27,[],0,[],[],[],[],false,[],[],[],[]⟩
def SJ (hk:Int) (lw:List Int):List (Nat×LoopAnn):=[]
theorem Lw (d:Int×List Int):gwp (DF) (SJ d.1 d.2) c39 0 (WY [.tmp 2] (Mt d) (G2 d)) (Qk 27 (AL.can De d))=Ke d.1 d.2:=by kernel_rfl
abbrev Sx:Prop:=OkC Tryd.prog 39 YK
theorem SB (h:∀ (hk:Int) (lw:List Int),(lw.length<=1000000)->Ke hk lw):OkC Tryd.prog 39 YK :=
 QF Q4b mixed (C:=DF) (V:=λ(d:Int×List Int)=>Ke d.1 d.2) ⟨(.cons RV .nil),XsOk.nil,ItsOk.nil,YlOk.nil,IysOk.nil,XfOk.nil⟩ (Lw) λd hp=>h d.1 d.2 hp
theorem nI (n a b:Int):(!inI n a b)=(decide (n<a)||decide (b<n)):=by simp only[inI,Bool.not_and];by_cases h1:a<=n<;>by_cases h2:n<=b<;>simp[h1,h2]<;>omega
theorem Ua:Sx:=SB λhk lw hl=>by
 unfold Ke;(try delta lI gD sT I64 Q4 pj8 pj4);simp only[and_true,zg,zk,zr,ne_eq,xm,gt_iff_lt,Bool.not_not];simp only[<-nI];refine⟨by simp,λh1=>by simp at h1;simp[QV,h1],λh1=>⟨λh2=>?_,λh2=>⟨λh3=>?_,λh3=>?_⟩⟩⟩;all_goals simp only[List.any_cons,List.any_nil,x_,x9] at h1
 .have:96<lw.length:=by omega
  simp[QV,h1,this]
 .have h3:lw.length=0:=by omega
  simp[QV,h1,h3]
 have gN:¬ 96<lw.length:=by omega
 have gO:¬ lw.length=0:=by omega
 have hi:1<=hk/\hk<=24:=by simpa [inI] using h1
 have oD:QV hk lw=if lw.any (λx=>!inI x 0 (hk-1)) then 2 else 0:=by simp only[QV,h1,gN,gO];simp
 rw[oD];simp only[Zs];refine⟨by omega,by omega,λh=>by rw[z7 h],λh=>by rw[h];rfl⟩
def DQ:AL ((Int×List Int)×List Int):=(.cons (.agg (.cons (.k (.i .i64)) (.one (.k (.list (.i .i64)))))) (.one (.k (.list (.i .i64)))))
def Rg (d:(Int×List Int)×List Int):Prop:=d.1.2.length<=110/\d.2.length<=110
def MN (d:(Int×List Int)×List Int):SV:=.val (.i .i64) (ZD d.1.1 d.1.2 d.2)
def MW (d:(Int×List Int)×List Int):List OB:=[]
def Vg:CSp:=W0 DQ Rg MN MW
def K9 (hk:Int) (lw:List Int) (l:List Int):Prop :=
 (lw.length<=1000000)/\(((QV hk lw) != (0:Int))=true ->
  ((QV hk lw)=(ZD hk lw l)/\(True))) /\
 (((QV hk lw) != (0:Int))=false ->
  (((lI l) != (lI lw))=true ->
   ((4:Int)=(ZD hk lw l)/\(True))) /\
  (((lI l) != (lI lw))=false ->
   (I64 ((lI lw)-(1:Int)))/\(l.length<=1000000)/\((!(!(l.any λn=>decide (n<(-1:Int))||decide (((lI lw)-(1:Int))<n))))=true ->
    ((2:Int)=(ZD hk lw l)/\(True))) /\
   ((!(!(l.any λn=>decide (n<(-1:Int))||decide (((lI lw)-(1:Int))<n))))=false ->
    ((0:Int)=(ZD hk lw l)/\(True)))))
def DC:Cx:=⟨[],[(39,YK),(22,Kj)],26,[],0,[],[],[],[],false,[],[],[],[]⟩
def SO (hk:Int) (lw:List Int) (l:List Int):List (Nat×LoopAnn):=[]
theorem L9 (d:(Int×List Int)×List Int):gwp (DC) (SO d.1.1 d.1.2 d.2) c19 0 (WY [.tmp 4] (MN d) (MW d)) (Qk 26 (AL.can DQ d))=K9 d.1.1 d.1.2 d.2:=by kernel_rfl
abbrev Lu:Prop:=OkC Tryd.prog 19 Vg
theorem SS (h:∀ (hk:Int) (lw:List Int) (l:List Int),(lw.length<=110/\l.length<=110)->K9 hk lw l):OkC Tryd.prog 19 Vg :=
 QF Q5n mixed (C:=DC) (V:=λ(d:(Int×List Int)×List Int)=>K9 d.1.1 d.1.2 d.2) ⟨(.cons Ua (.cons G5 .nil)),XsOk.nil,ItsOk.nil,YlOk.nil,IysOk.nil,XfOk.nil⟩ (L9) λd hp=>h d.1.1 d.1.2 d.2 hp
theorem DE:Lu:=SS λhk lw l hl=>by
 unfold K9;(try delta lI gD sT I64 Q4 pj8 pj4);simp only[and_true,bne_iff_ne,ne_eq,bne_eq_false_iff_eq,Bool.not_not];simp only[<-nI];refine⟨by omega,λh1=>by simp[ZD,h1],λh1=>⟨λh2=>?_,λh2=>?_⟩⟩
 .have:¬ l.length=lw.length:=by omega
  simp[ZD,h1,this]
 have h2:l.length=lw.length:=by omega
 have oD:ZD hk lw l=if l.any (λx=>!inI x (-1) (lw.length-1)) then 2 else 0:=by simp[ZD,h1,h2]
 rw[oD];simp only[Zs];refine⟨by omega,by omega,λh=>by rw[z7 h],λh=>by rw[h];rfl⟩
def W9:AL (Int×List Int×List Int×List Int):=(.one (.agg (.cons (.k (.i .u8)) (.cons (.k (.list (.i .u8))) (.cons (.k (.list (.i .u16))) (.one (.k (.list (.i .u8)))))))))
def Ve (d:Int×List Int×List Int×List Int):Prop:=bOk d.1 d.2.1 d.2.2.1 d.2.2.2
def XD (d:Int×List Int×List Int×List Int):SV:=.agg [.val (.i .i64) (bHk d.1),.lst 0]
def XB (d:Int×List Int×List Int×List Int):List OB:=[.lst 3 (.i .i64) (Q0 d.1 d.2.1) false]
def Jy:CSp:=W0 W9 Ve XD XB
def Zy (h8:Int) (ws:List Int) (rs:List Int) (ds:List Int):Prop :=
 (I64 h8)/\((10:Int)≠0)/\(I64 ((1:Int)+(Int.tmod h8 (10:Int))))/\∃ (e4:Unit) (d40:(List Int)×Int),((True/\True/\True/\(0:Int)=d40.2/\True)/\((h8=h8/\ws=ws/\rs=rs/\ds=ds/\(([]:List SV)=[]))/\((0:Int)=(0:Int)/\True/\(([]:List SV)=[]))/\(((1:Int)+(Int.tmod h8 (10:Int)))=((1:Int)+(Int.tmod h8 (10:Int)))/\True/\(([]:List SV)=[]))/\(d40.1=[]/\(List.isEmpty d40.1)=true)/\True)) /\
 LoopP (λ(d4:(List Int)×Int) (q4:((List Int)×Int)->Prop) =>
  (((d4.2==(0:Int))||((decide (d4.2<(lI ws)))&&(decide (d4.2<(24:Int)))))=true ->
   ((decide (d4.2<(lI ws)))=true ->
    (0<=d4.2)/\(d4.2<(List.length ws))/\(I64 (gD ws d4.2 0))/\(((1:Int)+(Int.tmod h8 (10:Int)))≠0)/\(((List.length d4.1)+(List.length [(Int.tmod (gD ws d4.2 0) ((1:Int)+(Int.tmod h8 (10:Int))))]))*8<=70368744177664)/\(I64 (d4.2+(1:Int)))/\(∃ d5:(List Int)×Int,((True/\True/\True/\(d4.2+(1:Int))=d5.2/\True)/\((h8=h8/\ws=ws/\rs=rs/\ds=ds/\(([]:List SV)=[]))/\((0:Int)=(0:Int)/\True/\(([]:List SV)=[]))/\(((1:Int)+(Int.tmod h8 (10:Int)))=((1:Int)+(Int.tmod h8 (10:Int)))/\True/\(([]:List SV)=[]))/\((d4.1++[(Int.tmod (gD ws d4.2 0) ((1:Int)+(Int.tmod h8 (10:Int))))])=d5.1/\false=(List.isEmpty d5.1))/\True))/\q4 d5)) /\
   ((decide (d4.2<(lI ws)))=false ->
    (((List.length d4.1)+(List.length [(0:Int)]))*8<=70368744177664)/\(I64 (d4.2+(1:Int)))/\(∃ d6:(List Int)×Int,((True/\True/\True/\(d4.2+(1:Int))=d6.2/\True)/\((h8=h8/\ws=ws/\rs=rs/\ds=ds/\(([]:List SV)=[]))/\((0:Int)=(0:Int)/\True/\(([]:List SV)=[]))/\(((1:Int)+(Int.tmod h8 (10:Int)))=((1:Int)+(Int.tmod h8 (10:Int)))/\True/\(([]:List SV)=[]))/\((d4.1++[(0:Int)])=d6.1/\false=(List.isEmpty d6.1))/\True))/\q4 d6))) /\
  (((d4.2==(0:Int))||((decide (d4.2<(lI ws)))&&(decide (d4.2<(24:Int)))))=false ->
   ((((1:Int)+(Int.tmod h8 (10:Int)))=(bHk h8)/\True/\(([]:List SV)=[]))/\((d4.1=(Q0 h8 ws)/\(List.isEmpty d4.1)=false)/\True)))) d40
def W4:Cx:=⟨[(3,(.i .i64))],[],48,[],0,[],[],[],[],false,[],[],[],[]⟩
def U1 (h8:Int) (ws:List Int) (rs:List Int) (ds:List Int):List (Nat×LoopAnn):=[(0,⟨Unit,(List Int)×Int,[1,2,3,4],λe x=>[.box 1 0,.box 2 0,.box 3 0,.val (.i .i64) x.2],λe x=>[(1,.slot 1,.cells [.val (.i .u8) h8,.val (.list (.i .u8)) ws,.val (.list (.i .u16)) rs,.val (.list (.i .u8)) ds] (some 25)),(2,.slot 2,.cells [.val (.i .i64) (0:Int),.nilS] (some 29)),(3,.slot 3,.cells [.val (.i .i64) ((1:Int)+(Int.tmod h8 (10:Int))),.lst 45] (some 29)),(45,.cell 3 1,.lst 3 (.i .i64) x.1 (List.isEmpty x.1))]⟩)]
theorem V_ (d:Int×List Int×List Int×List Int):gwp (W4) (U1 d.1 d.2.1 d.2.2.1 d.2.2.2) c4 0 (WY [.cell 2 true 2] (XD d) (XB d)) (Qk 48 (AL.can W9 d))=Zy d.1 d.2.1 d.2.2.1 d.2.2.2:=by kernel_rfl
abbrev VV:Prop:=OkC Tryd.prog 4 Jy
theorem VX (h:∀ (h8:Int) (ws:List Int) (rs:List Int) (ds:List Int),(bOk h8 ws rs ds)->Zy h8 ws rs ds):OkC Tryd.prog 4 Jy :=
 QF Q8k mixed (C:=W4) (V:=λ(d:Int×List Int×List Int×List Int)=>Zy d.1 d.2.1 d.2.2.1 d.2.2.2) ⟨.nil,XsOk.nil,ItsOk.nil,YlOk.nil,IysOk.nil,XfOk.nil⟩ (V_) λd hp=>h d.1 d.2.1 d.2.2.1 d.2.2.2 hp
theorem HH {m h8:Int}(hm:0<m) (h:0<=h8):1<=hkN m h8/\hkN m h8<=m:=by have h1:=Int.tmod_nonneg m h;have h2:=Int.tmod_lt_of_pos h8 hm;simp only[hkN];omega
theorem TD {hk:Int}{cap:Nat}{ws:List Int}:(HU hk cap ws).length=if ws=[] then 1 else min cap ws.length:=by unfold HU;split<;>simp
theorem EI {hk:Int}{cap:Nat}{ws:List Int}{i:Nat}(h:i<ws.length) (hc:i<cap):(HU hk cap ws)[i]?=some (Int.tmod (ws.getD i 0) hk):=by
 have aJ:ws≠[]:=by rintro rfl;simp at h
 unfold HU;rw[z6 aJ];simp[hc,h]
theorem VP:VV:=VX λh8 ws rs ds h=>by
 obtain⟨h1,h2,lJ,mG,hds⟩:=h;have hk:=HH (m:=10) (by omega) h1;have e:(1+Int.tmod h8 10)=bHk h8:=rfl;have hk:1<=bHk h8/\bHk h8<=10:=hk;unfold Zy;(try delta lI gD sT I64 Q4 pj8 pj4);simp only[true_and,and_true,exists_const,zg,zk,ne_eq,Zs,e];refine⟨by omega,by omega,by omega,([],0),⟨rfl,rfl,rfl⟩,?_⟩;have hN:(Q0 h8 ws).length=if ws=[] then 1 else min 24 ws.length:=TD
 have ah:∀ k:Nat,(((k:Int)==0)||(decide ((k:Int)<ws.length)&&decide ((k:Int)<24)))=decide (k<(Q0 h8 ws).length):=λk=>by
  rw[hN];by_cases hz:ws=[]
  .subst hz;cases k<;>simp;omega
  .have:0<ws.length:=xl.2 hz;rw[z6 hz];cases k with
   |zero=>simp;omega
   |succ k =>rw[Bool.eq_iff_iff];simp;omega
 have sq:(Q0 h8 ws).length<=24:=by rw[hN];split<;>omega
 refine LoopP.count2 (Q0 h8 ws).length (λk xs=>xs=(Q0 h8 ws).take k) (by simp) λk xs hk hJ q hq=>?_;dsimp only;rw[ah];simp only[zg,zk,zh,Int.ofNat_lt];refine⟨λaf=>⟨λhw=>?_,λhw=>?_⟩,λaZ=>?_⟩
 .have hw:k<ws.length:=by omega
  have vK:=lJ _ (zi hw);have fK:k<24:=by omega
  simp only[Q7 hw,zl];have hv:(Q0 h8 ws)[k]=Int.tmod ws[k] (bHk h8):=by have:=EI (hk:=bHk h8) hw fK;rw[Q7 hw] at this;have h3:=z8 af;exact osj (h3.symm.trans this)
  refine⟨by omega,by omega,by omega,by omega,by rw[hJ,xi];omega,by omega,(xs++[Int.tmod ws[k] (bHk h8)],(k:Int)+1),⟨rfl,rfl,by simp⟩,hq _ af ?_⟩;rw[Qc af,<-hJ,hv]
 .have hz:ws=[]:=by
   cases lJ:ws with
   |nil=>rfl
   |cons a l =>
    exfalso;rw[hN] at af;have:ws≠[]:=by rw[lJ];simp
    rw[z6 this] at af;omega
  have gZ:k=0:=by rw[hN,z7 hz] at af;omega
  subst gZ;simp only[zl];refine⟨by rw[hJ,xi];omega,by omega,(xs++[0],1),⟨rfl,rfl,by simp⟩,hq _ af ?_⟩;rw[Qc af,<-hJ];simp[Q0,HU,hz]
 .have:k=(Q0 h8 ws).length:=by omega
  subst this;rw[List.take_length] at hJ;subst hJ;refine⟨rfl,?_⟩;rw[List.isEmpty_eq_false_iff];intro hz;rw[hz] at hN;split at hN
  .cases hN
  .rename_i aJ;have:=xl.2 aJ;simp only[List.length_nil] at hN;omega
def Wc:AL ((Int×List Int×List Int×List Int)×Int):=(.cons (.agg (.cons (.k (.i .u8)) (.cons (.k (.list (.i .u8))) (.cons (.k (.list (.i .u16))) (.one (.k (.list (.i .u8)))))))) (.one (.k (.i .i64))))
def Vq (d:(Int×List Int×List Int×List Int)×Int):Prop:=1<=d.2/\d.2<=24/\bOk d.1.1 d.1.2.1 d.1.2.2.1 d.1.2.2.2
def XF (d:(Int×List Int×List Int×List Int)×Int):SV:=.lst 0
def XT (d:(Int×List Int×List Int×List Int)×Int):List OB:=[.lst 3 (.i .i64) (Qm d.1.2.2.2 d.2.toNat) false]
def JG:CSp:=W0 Wc Vq XF XT
def Zx (h8:Int) (ws:List Int) (rs:List Int) (ds:List Int) (n:Int):Prop :=
 ∃ (e3:Unit) (d30:(List Int)×Int),((n=n/\True/\True/\(0:Int)=d30.2/\True)/\((h8=h8/\ws=ws/\rs=rs/\ds=ds/\(([]:List SV)=[]))/\(([]:List Int)=d30.1/\false=false)/\True)) /\
 LoopP (λ(d3:(List Int)×Int) (q3:((List Int)×Int)->Prop) =>
  ((decide (d3.2<n))=true ->
   ((decide (d3.2<(lI ds)))=true ->
    (0<=d3.2)/\(d3.2<(List.length ds))/\(I64 (gD ds d3.2 0))/\((16:Int)≠0)/\(((Int.tmod (gD ds d3.2 0) (16:Int))==(15:Int))=true ->
     (((List.length d3.1)+(List.length [(-1:Int)]))*8<=70368744177664)/\(I64 (d3.2+(1:Int)))/\(∃ d4:(List Int)×Int,((n=n/\True/\True/\(d3.2+(1:Int))=d4.2/\True)/\((h8=h8/\ws=ws/\rs=rs/\ds=ds/\(([]:List SV)=[]))/\((d3.1++[(-1:Int)])=d4.1/\false=false)/\True))/\q3 d4)) /\
    (((Int.tmod (gD ds d3.2 0) (16:Int))==(15:Int))=false ->
     ((decide ((gD ds d3.2 0)>=(80:Int)))=true ->
      (n≠0)/\(((List.length d3.1)+(List.length [(Int.tmod (gD ds d3.2 0) n)]))*8<=70368744177664)/\(I64 (d3.2+(1:Int)))/\(∃ d5:(List Int)×Int,((n=n/\True/\True/\(d3.2+(1:Int))=d5.2/\True)/\((h8=h8/\ws=ws/\rs=rs/\ds=ds/\(([]:List SV)=[]))/\((d3.1++[(Int.tmod (gD ds d3.2 0) n)])=d5.1/\false=false)/\True))/\q3 d5)) /\
     ((decide ((gD ds d3.2 0)>=(80:Int)))=false ->
      (((List.length d3.1)+(List.length [d3.2]))*8<=70368744177664)/\(I64 (d3.2+(1:Int)))/\(∃ d6:(List Int)×Int,((n=n/\True/\True/\(d3.2+(1:Int))=d6.2/\True)/\((h8=h8/\ws=ws/\rs=rs/\ds=ds/\(([]:List SV)=[]))/\((d3.1++[d3.2])=d6.1/\false=false)/\True))/\q3 d6)))) /\
   ((decide (d3.2<(lI ds)))=false ->
    (((List.length d3.1)+(List.length [d3.2]))*8<=70368744177664)/\(I64 (d3.2+(1:Int)))/\(∃ d7:(List Int)×Int,((n=n/\True/\True/\(d3.2+(1:Int))=d7.2/\True)/\((h8=h8/\ws=ws/\rs=rs/\ds=ds/\(([]:List SV)=[]))/\((d3.1++[d3.2])=d7.1/\false=false)/\True))/\q3 d7))) /\
  ((decide (d3.2<n))=false ->
   (True/\((d3.1=(Qm ds n.toNat)/\false=false)/\True)))) d30
def W6:Cx:=⟨[(3,(.i .i64))],[],40,[],0,[],[],[],[],false,[],[],[],[]⟩
def VS (h8:Int) (ws:List Int) (rs:List Int) (ds:List Int) (n:Int):List (Nat×LoopAnn):=[(0,⟨Unit,(List Int)×Int,[1,2,5,6],λe x=>[.val (.i .i64) n,.box 2 0,.lst 9,.val (.i .i64) x.2],λe x=>[(2,.slot 2,.cells [.val (.i .u8) h8,.val (.list (.i .u8)) ws,.val (.list (.i .u16)) rs,.val (.list (.i .u8)) ds] (some 25)),(9,.slot 5,.lst 3 (.i .i64) x.1 false)]⟩)]
theorem VY (d:(Int×List Int×List Int×List Int)×Int):gwp (W6) (VS d.1.1 d.1.2.1 d.1.2.2.1 d.1.2.2.2 d.2) c6 0 (WY [.tmp 4] (XF d) (XT d)) (Qk 40 (AL.can Wc d))=Zx d.1.1 d.1.2.1 d.1.2.2.1 d.1.2.2.2 d.2:=by kernel_rfl
abbrev VW:Prop:=OkC Tryd.prog 6 JG
theorem VU (h:∀ (h8:Int) (ws:List Int) (rs:List Int) (ds:List Int) (n:Int),(1<=n/\n<=24/\bOk h8 ws rs ds)->Zx h8 ws rs ds n):OkC Tryd.prog 6 JG :=
 QF Q80 mixed (C:=W6) (V:=λ(d:(Int×List Int×List Int×List Int)×Int)=>Zx d.1.1 d.1.2.1 d.1.2.2.1 d.1.2.2.2 d.2) ⟨.nil,XsOk.nil,ItsOk.nil,YlOk.nil,IysOk.nil,XfOk.nil⟩ (VY) λd hp=>h d.1.1 d.1.2.1 d.1.2.2.1 d.1.2.2.2 d.2 hp
theorem MH (ds:List Int) (n:Nat):(Qm ds n).length=n:=by simp[Qm]
theorem Pe (ds:List Int) {n k:Nat}(h:k<n):(Qm ds n)[k]'(by rw[MH];exact h)=if k<ds.length then (if Int.tmod (ds.getD k 0) 16=15 then -1 else if ds.getD k 0>=80 then Int.tmod (ds.getD k 0) n else k) else k:=by simp[Qm]
theorem VZ:VW:=VU λh8 ws rs ds n h=>by
 obtain⟨fm,dV,h1,h2,lJ,mG,hds⟩:=h;obtain⟨n,rfl⟩:=zo (show 0<=n by omega);unfold Zx;(try delta lI gD sT I64 Q4 pj8 pj4);simp only[true_and,and_true,exists_const,zg,zk,zr,ne_eq,xm,zh,ge_iff_le,Zs];refine⟨([],0),⟨rfl,rfl⟩,?_⟩;have hl:=MH ds n;refine LoopP.count2 n (λk xs=>xs=(Qm ds n).take k) (by simp) λk xs hk hJ q hq=>?_;have du:xs.length=k:=by rw[hJ,xi];omega
 dsimp only;simp only[zh,Int.ofNat_lt];have fin:∀ (af:k<n) (v:Int),(Qm ds n)[k]'(by rw[hl];exact af)=v->∃ d:List Int×Int,((k:Int)+1=d.2/\xs++[v]=d.1)/\q d:=λaf v hv=>by refine⟨(xs++[v],(k:Int)+1),⟨rfl,rfl⟩,hq _ af ?_⟩;rw[Qc (by rw[hl];exact af),<-hJ,hv]
 refine⟨λaf=>⟨λhw=>?_,λhw=>?_⟩,λaZ=>?_⟩
 .have hw:k<ds.length:=by omega
  have hd:=hds _ (zi hw);have hg:=Pe ds (n:=n) (k:=k) (by omega);rw[z7 hw] at hg;simp only[Q7 hw,zl] at hg |-;refine⟨by omega,by omega,by omega,by omega,λqu=>?_,λqu=>⟨λsu=>?_,λsu=>?_⟩⟩
  .rw[z7 qu] at hg;exact⟨by omega,by omega,fin (by omega) _ hg⟩
  .rw[z6 qu,z7 su] at hg;exact⟨by omega,by omega,by omega,fin (by omega) _ hg⟩
  .rw[z6 qu,z6 su] at hg;exact⟨by omega,by omega,fin (by omega) _ hg⟩
 .have hw:¬ k<ds.length:=by omega
  have hg:=Pe ds (n:=n) (k:=k) (by omega);rw[z6 hw] at hg;simp only[zl];exact⟨by omega,by omega,fin (by omega) _ hg⟩
 .have:k=n:=by omega
  subst this;rw[hJ,zy (by omega)]
def KQ:AL (Int×Int×Int):=(.cons (.k (.i .i64)) (.cons (.ptr (.one (.k (.i .i64)))) (.one (.ptr (.one (.k (.i .i64)))))))
def MZ (d:Int×Int×Int):Prop:=True
def K0 (d:Int×Int×Int):SV:=.val .bo (decide (d.1<d.2.1)||decide (d.2.2<d.1))
def Y_ (d:Int×Int×Int):List OB:=[]
def WZ:CSp:=W0 KQ MZ K0 Y_
def Ww (n:Int) (a:Int) (b:Int):Prop :=
 (((decide (n<a))||(decide (n > b)))=(decide (n<a)||decide (b<n))/\(True))
def KX:Cx:=⟨[],[],13,[],0,[],[],[],[],false,[],[],[],[]⟩
def D9 (n:Int) (a:Int) (b:Int):List (Nat×LoopAnn):=[]
theorem G_ (d:Int×Int×Int):gwp (KX) (D9 d.1 d.2.1 d.2.2) c82 0 (WY [.tmp 4] (K0 d) (Y_ d)) (Qk 13 (AL.can KQ d))=Ww d.1 d.2.1 d.2.2:=by kernel_rfl
abbrev GN:Prop:=OkC Tryd.prog 82 WZ
theorem GM (h:∀ (n:Int) (a:Int) (b:Int),(True)->Ww n a b):OkC Tryd.prog 82 WZ :=
 QF Q5c mixed (C:=KX) (V:=λ(d:Int×Int×Int)=>Ww d.1 d.2.1 d.2.2) ⟨.nil,XsOk.nil,ItsOk.nil,YlOk.nil,IysOk.nil,XfOk.nil⟩ (G_) λd hp=>h d.1 d.2.1 d.2.2 hp
theorem GW:GN:=GM λn a b _=>by exact⟨rfl,trivial⟩
def U6:AL (Int×Int×List Int):=(.cons (.k (.i .i64)) (.cons (.k (.i .i64)) (.one (.k (.list (.i .i64))))))
def B5 (d:Int×Int×List Int):Prop:=d.2.2.length<=1000000
def VK (d:Int×Int×List Int):SV:=.val .bo (!(d.2.2.any λn=>decide (n<d.1)||decide (d.2.1<n)))
def VG (d:Int×Int×List Int):List OB:=[]
def Ks:CSp:=W0 U6 B5 VK VG
def YB (a:Int) (b:Int) (l:List Int):Prop :=
 (l.length<=1000000/\∀ x∈l,(λ(x1:Int)=>True) x)/\((!(l.any (λ(x1:Int)=>(decide (x1<a)||decide (b<x1)))))=(!(l.any λn=>decide (n<a)||decide (b<n)))/\(True))
def UC:Cx:=⟨[],[(42,Qq),(82,WZ)],11,[],0,[],[],[],[],false,[],[],[],[]⟩
def Hx (a:Int) (b:Int) (l:List Int):List (Nat×LoopAnn):=[]
theorem Pr (d:Int×Int×List Int):gwp (UC) (Hx d.1 d.2.1 d.2.2) c62 0 (WY [.tmp 6] (VK d) (VG d)) (Qk 11 (AL.can U6 d))=YB d.1 d.2.1 d.2.2:=by kernel_rfl
abbrev HL:Prop:=OkC Tryd.prog 62 Ks
theorem Hv (h:∀ (a:Int) (b:Int) (l:List Int),(l.length<=1000000)->YB a b l):OkC Tryd.prog 62 Ks :=
 QF Q4n mixed (C:=UC) (V:=λ(d:Int×Int×List Int)=>YB d.1 d.2.1 d.2.2) ⟨(.cons Z2 (.cons GW .nil)),XsOk.nil,ItsOk.nil,YlOk.nil,IysOk.nil,XfOk.nil⟩ (Pr) λd hp=>h d.1 d.2.1 d.2.2 hp
theorem Hf:HL:=Hv λa b l h=>by exact⟨⟨h,λ_ _=>trivial⟩,rfl,trivial⟩
def NA:AL (Int×List Int):=(.one (.agg (.cons (.k (.i .i64)) (.one (.k (.list (.i .i64)))))))
def BS (d:Int×List Int):Prop:=d.2.length<=1000000
def Uy (d:Int×List Int):SV:=.val (.i .i64) (QD d.1 d.2)
def Ue (d:Int×List Int):List OB:=[]
def Y7:CSp:=W0 NA BS Uy Ue
def Wz (hd:Int) (rows:List Int):Prop :=
 ([hd].length<=1000000)/\((!(!([hd].any λn=>decide (n<(1:Int))||decide ((24:Int)<n))))=true ->
  ((2:Int)=(QD hd rows)/\(True))) /\
 ((!(!([hd].any λn=>decide (n<(1:Int))||decide ((24:Int)<n))))=false ->
  ((decide ((lI rows) > (60:Int)))=true ->
   ((5:Int)=(QD hd rows)/\(True))) /\
  ((decide ((lI rows) > (60:Int)))=false ->
   (((lI rows)==(0:Int))=true ->
    ((7:Int)=(QD hd rows)/\(True))) /\
   (((lI rows)==(0:Int))=false ->
    (0<=hd)/\(I64 (PC .i64 (1:Int) hd))/\(I64 ((PC .i64 (1:Int) hd)-(1:Int)))/\(rows.length<=1000000)/\((!(!(rows.any λn=>decide (n<(0:Int))||decide (((PC .i64 (1:Int) hd)-(1:Int))<n))))=true ->
     ((2:Int)=(QD hd rows)/\(True))) /\
    ((!(!(rows.any λn=>decide (n<(0:Int))||decide (((PC .i64 (1:Int) hd)-(1:Int))<n))))=false ->
     ((0:Int)=(QD hd rows)/\(True))))))
def NN:Cx:=⟨[(3,(.i .i64))],[(62,Ks)],28,[],0,[],[],[],[],false,[],[],[],[]⟩
def T5 (hd:Int) (rows:List Int):List (Nat×LoopAnn):=[]
theorem PV (d:Int×List Int):gwp (NN) (T5 d.1 d.2) c40 0 (WY [.tmp 2] (Uy d) (Ue d)) (Qk 28 (AL.can NA d))=Wz d.1 d.2:=by kernel_rfl
abbrev PY:Prop:=OkC Tryd.prog 40 Y7
theorem PI (h:∀ (hd:Int) (rows:List Int),(rows.length<=1000000)->Wz hd rows):OkC Tryd.prog 40 Y7 :=
 QF Q5i mixed (C:=NN) (V:=λ(d:Int×List Int)=>Wz d.1 d.2) ⟨(.cons Hf .nil),XsOk.nil,ItsOk.nil,YlOk.nil,IysOk.nil,XfOk.nil⟩ (PV) λd hp=>h d.1 d.2 hp
theorem R2 {h:Int}(h1:0<=h) (h2:h<=62):PC .i64 1 h=2 ^ h.toNat:=by obtain⟨n,rfl⟩:=zo h1;have:Nat.min n 64=n:=xR (by omega);simp only[PC,zh,IntKind.bits,this,Int.one_mul]
theorem KJ {h:Int}(h1:1<=h) (h2:h<=24):(2:Int)<=2 ^ h.toNat/\(2:Int) ^ h.toNat<=16777216:=by
 obtain⟨n,rfl⟩:=zo (show 0<=h by omega);have a1:2 ^ 1<=2 ^ n:=Nat.pow_le_pow_right (by omega) (by omega);have a2:2 ^ n<=2 ^ 24:=Nat.pow_le_pow_right (by omega) (by omega);simp only[zh];have e:((2:Int) ^ n)=((2 ^ n:Nat):Int):=by norm_cast
 rw[e];omega
theorem Nq:PY:=PI λhd rows hl=>by
 unfold Wz;(try delta lI gD sT I64 Q4 pj8 pj4);simp only[and_true,zg,zk,zr,ne_eq,xm,gt_iff_lt,Bool.not_not];simp only[<-nI];refine⟨by simp,λh1=>by simp at h1;simp[QD,h1],λh1=>⟨λh2=>?_,λh2=>⟨λh3=>?_,λh3=>?_⟩⟩⟩;all_goals simp only[List.any_cons,List.any_nil,x_,x9] at h1
 .have:60<rows.length:=by omega
  simp[QD,h1,this]
 .have h3:rows.length=0:=by omega
  simp[QD,h1,h3]
 have gN:¬ 60<rows.length:=by omega
 have gO:¬ rows.length=0:=by omega
 have hi:1<=hd/\hd<=24:=by simpa [inI] using h1
 have hp:=KJ hi.1 hi.2;have oD:QD hd rows=if rows.any (λx=>!inI x 0 (2 ^ hd.toNat-1)) then 2 else 0:=by simp only[QD,h1,gN,gO];simp
 rw[oD];simp only[Zs,R2 (show 0<=hd by omega) (by omega)];refine⟨by omega,by omega,by omega,by omega,λh=>by rw[z7 h],λh=>by rw[h];rfl⟩
def Ph:AL (Bool):=(.one (.k .bo))
def La (d:Bool):Prop:=True
def DY (d:Bool):SV:=.val (.i .u8) (M3 d)
def Dt (d:Bool):List OB:=[]
def D4:CSp:=W0 Ph La DY Dt
def Vp (x:Bool):Prop :=
 (x=true ->
  ((120:Int)=(M3 x)/\(True))) /\
 (x=false ->
  ((46:Int)=(M3 x)/\(True)))
def BN:Cx:=⟨[],[],4,[],0,[],[],[],[],false,[],[],[],[]⟩
def Cj (x:Bool):List (Nat×LoopAnn):=[]
theorem Cy (d:Bool):gwp (BN) (Cj d) c64 0 (WY [.tmp 2] (DY d) (Dt d)) (Qk 4 (AL.can Ph d))=Vp d:=by kernel_rfl
abbrev CF:Prop:=OkC Tryd.prog 64 D4
theorem Cf (h:∀ (x:Bool),(True)->Vp x):OkC Tryd.prog 64 D4 :=
 QF Q46 mixed (C:=BN) (V:=λ(d:Bool)=>Vp d) ⟨.nil,XsOk.nil,ItsOk.nil,YlOk.nil,IysOk.nil,XfOk.nil⟩ (Cy) λd hp=>h d hp
theorem CP:CF:=Cf λx _=>by cases x<;>simp[Vp,M3]
def WL:AL ((Int×List Int)×Int×Int):=(.cons (.agg (.cons (.k (.i .i64)) (.one (.k (.list (.i .i64)))))) (.cons (.k (.i .i64)) (.one (.k (.i .i64)))))
def U0 (d:(Int×List Int)×Int×Int):Prop:=0<=d.2.2/\d.2.2<d.1.2.length/\0<=d.2.1/\d.2.1<9223372036854775808/\∀ x∈d.1.2,0<=x/\x<=60
def Wa (d:(Int×List Int)×Int×Int):SV:=.val .bo (d.2.1.toNat.testBit (d.1.2.getD d.2.2.toNat 0).toNat)
def W7 (d:(Int×List Int)×Int×Int):List OB:=[]
def JU:CSp:=W0 WL U0 Wa W7
def ZL (hk:Int) (lw:List Int) (row:Int) (w:Int):Prop :=
 (0<=w)/\(w<(List.length lw))/\(0<=(gD lw w 0))/\(((ZS .and .i64 (Mj .i64 row (gD lw w 0)) (1:Int))==(1:Int))=(row.toNat.testBit (lw.getD w.toNat 0).toNat)/\(True))
def WM:Cx:=⟨[],[],17,[],0,[],[],[],[],false,[],[],[],[]⟩
def U7 (hk:Int) (lw:List Int) (row:Int) (w:Int):List (Nat×LoopAnn):=[]
theorem Uk (d:(Int×List Int)×Int×Int):gwp (WM) (U7 d.1.1 d.1.2 d.2.1 d.2.2) c65 0 (WY [.tmp 6] (Wa d) (W7 d)) (Qk 17 (AL.can WL d))=ZL d.1.1 d.1.2 d.2.1 d.2.2:=by kernel_rfl
abbrev U5:Prop:=OkC Tryd.prog 65 JU
theorem Us (h:∀ (hk:Int) (lw:List Int) (row:Int) (w:Int),(0<=w/\w<lw.length/\0<=row/\row<9223372036854775808/\∀ x∈lw,0<=x/\x<=60)->ZL hk lw row w):OkC Tryd.prog 65 JU :=
 QF Q4y mixed (C:=WM) (V:=λ(d:(Int×List Int)×Int×Int)=>ZL d.1.1 d.1.2 d.2.1 d.2.2) ⟨.nil,XsOk.nil,ItsOk.nil,YlOk.nil,IysOk.nil,XfOk.nil⟩ (Uk) λd hp=>h d.1.1 d.1.2 d.2.1 d.2.2 hp
theorem U4:U5:=Us λhk lw row w h=>by
 obtain⟨h1,h2,h3,h4,h5⟩:=h;obtain⟨w,rfl⟩:=zo h1;obtain⟨r,rfl⟩:=zo h3;have hw:w<lw.length:=by omega
 have hx:=h5 _ (zi hw);obtain⟨k,hk⟩:=zo hx.1;unfold ZL;(try delta lI gD sT I64 Q4 pj8 pj4);simp only[and_true,zh,Int.ofNat_lt,Q7 hw,hk];refine⟨by omega,by omega,by omega,?_⟩;exact IC (by omega) (by omega)
def Js:Cx:=⟨[],[],20,[],0,[(89,Q0f)],[],[],[],false,[],[],[],[]⟩
def QR:XSp:=Q1x Js (λ_=>[]) c83 [] 20
theorem Z9:XOk Tryd.prog 83 QR:=GZ Q4f mixed (C:=Js) ⟨.nil,(XsOk.cons (RN AG) XsOk.nil),ItsOk.nil,YlOk.nil,IysOk.nil,XfOk.nil⟩ _
def Jr:Cx:=⟨[(5,(.i .u8))],[],17,[],0,[(83,QR)],[],[],[],false,[],[],[],[]⟩
def Zu:XSp:=Q1x Jr (λ_=>[]) c63 [.tmp 4] 17
theorem Jm:XOk Tryd.prog 63 Zu:=GZ Q3y mixed (C:=Jr) ⟨.nil,(XsOk.cons Z9 XsOk.nil),ItsOk.nil,YlOk.nil,IysOk.nil,XfOk.nil⟩ _
def X8:Cx:=⟨[],[],14,[],0,[],[],[],[],false,[],[],[],[]⟩
def J5:XSp:=Q1x X8 (λ_=>[]) c66 [.tmp 2] 14
theorem JP:XOk Tryd.prog 66 J5:=GZ Q5h mixed (C:=X8) ⟨.nil,XsOk.nil,ItsOk.nil,YlOk.nil,IysOk.nil,XfOk.nil⟩ _
def Yr:AL ((Int×List Int)×Int):=(.cons (.agg (.cons (.k (.i .i64)) (.one (.k (.list (.i .i64)))))) (.one (.k (.i .i64))))
def Nk (d:(Int×List Int)×Int):Prop:=d.1.2.length<=110/\0<=d.2/\d.2<9223372036854775808/\∀ x∈d.1.2,0<=x/\x<=60
def Y5 (d:(Int×List Int)×Int):SV:=.val .st (QP d.1.2 d.2)
def Y1 (d:(Int×List Int)×Int):List OB:=[]
def XS:CSp:=W0 Yr Nk Y5 Y1
def Jf (hk:Int) (lw:List Int) (row:Int):Prop :=
 ∃ (e4:Unit) (d40:Bool×(List Int)×Int),((row=row/\True/\True/\(lI lw)=(lI lw)/\(0:Int)=d40.2.2/\True)/\((hk=hk/\lw=lw/\(([]:List SV)=[]))/\(d40.1=false/\True/\(([]:List SV)=[]))/\(d40.2.1=[]/\(List.isEmpty d40.2.1)=true)/\True)) /\
 LoopP (λ(d4:Bool×(List Int)×Int) (q4:(Bool×(List Int)×Int)->Prop) =>
  ((decide (d4.2.2<(lI lw)))=true ->
   (0<=d4.2.2/\d4.2.2<lw.length/\0<=row/\row<9223372036854775808/\∀ x∈lw,0<=x/\x<=60)/\(True)/\∀ w5:List Value,∀ w6:List Value,((!d4.1)=true ->
    w6=w6/\(((List.length d4.2.1)+(List.length [(M3 (row.toNat.testBit (lw.getD d4.2.2.toNat 0).toNat))]))*1<=70368744177664)/\w5=w5/\(I64 (d4.2.2+(1:Int)))/\(∃ d7:Bool×(List Int)×Int,((row=row/\True/\True/\(lI lw)=(lI lw)/\(d4.2.2+(1:Int))=d7.2.2/\True)/\((hk=hk/\lw=lw/\(([]:List SV)=[]))/\(d7.1=true/\True/\(([]:List SV)=[]))/\((d4.2.1++[(M3 (row.toNat.testBit (lw.getD d4.2.2.toNat 0).toNat))])=d7.2.1/\false=(List.isEmpty d7.2.1))/\True))/\q4 d7)) /\
   ((!d4.1)=false ->
    (d4.1=true)/\((!true)=true ->
     False) /\
    ((!true)=false ->
     w6=w6/\(((List.length d4.2.1)+(List.length [(M3 (row.toNat.testBit (lw.getD d4.2.2.toNat 0).toNat))]))*1<=70368744177664)/\w5=w5/\(I64 (d4.2.2+(1:Int)))/\(∃ d8:Bool×(List Int)×Int,((row=row/\True/\True/\(lI lw)=(lI lw)/\(d4.2.2+(1:Int))=d8.2.2/\True)/\((hk=hk/\lw=lw/\(([]:List SV)=[]))/\(d4.1=d8.1/\True/\(([]:List SV)=[]))/\((d4.2.1++[(M3 (row.toNat.testBit (lw.getD d4.2.2.toNat 0).toNat))])=d8.2.1/\false=(List.isEmpty d8.2.1))/\True))/\q4 d8)))) /\
  ((decide (d4.2.2<(lI lw)))=false ->
   ∀ w9:List Value,((List.isEmpty d4.2.1)=false->d4.2.1≠[])/\((lI d4.2.1)=(List.length d4.2.1))/\((List.length d4.2.1)<=4611686018427387904)/\w9=w9/\((XM d4.2.1)=(QP lw row)/\(True)))) d40
def YN:Cx:=⟨[(5,(.i .u8))],[(65,JU),(64,D4)],22,[],0,[(63,Zu),(83,QR),(89,Q0f),(66,J5)],[],[],[],false,[],[],[],[]⟩
def NW (hk:Int) (lw:List Int) (row:Int):List (Nat×LoopAnn):=[(0,⟨Unit,Bool×(List Int)×Int,[1,2,5,10,11],λe x=>[.val (.i .i64) row,.box 2 0,.box 5 0,.val (.i .i64) (((List.length lw):Nat):Int),.val (.i .i64) x.2.2],λe x=>[(2,.slot 2,.cells [.val (.i .i64) hk,.val (.list (.i .i64)) lw] (some 94)),(5,.slot 5,.cells [.dd 5 (.obx x.1),.lst 2000014] (some 120)),(2000014,.cell 5 1,.lst 5 (.i .u8) x.2.1 (List.isEmpty x.2.1))]⟩)]
theorem Md (d:(Int×List Int)×Int):gwp (YN) (NW d.1.1 d.1.2 d.2) c41 0 (WY [.tmp 4] (Y5 d) (Y1 d)) (Qk 22 (AL.can Yr d))=Jf d.1.1 d.1.2 d.2:=by kernel_rfl
abbrev M8:Prop:=OkC Tryd.prog 41 XS
theorem Mf (h:∀ (hk:Int) (lw:List Int) (row:Int),(lw.length<=110/\0<=row/\row<9223372036854775808/\∀ x∈lw,0<=x/\x<=60)->Jf hk lw row):OkC Tryd.prog 41 XS :=
 QF Q4l mixed (C:=YN) (V:=λ(d:(Int×List Int)×Int)=>Jf d.1.1 d.1.2 d.2) ⟨(.cons U4 (.cons CP .nil)),(XsOk.cons Jm (XsOk.cons Z9 (XsOk.cons (RN AG) (XsOk.cons JP XsOk.nil)))),ItsOk.nil,YlOk.nil,IysOk.nil,XfOk.nil⟩ (Md) λd hp=>h d.1.1 d.1.2 d.2 hp
theorem Fi (lw:List Int) (row:Int):XM (lw.map λk=>M3 (row.toNat.testBit k.toNat))=QP lw row:=by simp only[XM,QP,xY];refine zZ λk _=>?_;simp only[Function.comp,M3];split<;>rfl
theorem M6:M8:=Mf λhk lw row h=>by
 obtain⟨h1,h2,h3,h4⟩:=h;unfold Jf;(try delta lI gD sT I64 Q4 pj8 pj4);simp only[true_and,and_true,exists_const,zg,zk,ne_eq,Bool.not_eq_true',x9,Zs];refine⟨(false,[],0),⟨rfl,rfl,rfl,rfl⟩,?_⟩;refine⟨λd=>∃ i:Nat,i<=lw.length/\d.2.2=i/\d.2.1=(lw.take i).map λk=>M3 (row.toNat.testBit k.toNat),λd=>lw.length-d.2.2.toNat,⟨0,Nat.zero_le _,rfl,by simp⟩,?_⟩;rintro⟨c,xs,_⟩ ⟨i,hi,rfl,aW⟩;dsimp only at aW |-;have du:xs.length=i:=by rw[aW];simp;omega
 refine⟨λaf=>?_,λaZ=>?_⟩
 .have af:i<lw.length:=by omega
  have hn:xs++[M3 (row.toNat.testBit lw[i].toNat)]=(lw.take (i+1)).map λk=>M3 (row.toNat.testBit k.toNat):=by rw[aW,Qc af,xr];rfl
  simp only[zh,Q7 af,zl];refine⟨⟨by omega,by omega,h2,h3,h4⟩,λ_ w6=>⟨λhc=>?_,λhc=>?_⟩⟩
  .exact⟨by omega,by omega,(true,xs++[M3 (row.toNat.testBit lw[i].toNat)],(i:Int)+1),⟨rfl,rfl,rfl,by simp⟩,⟨i+1,by omega,by simp,hn⟩,by dsimp only;omega⟩
  .refine⟨by simpa using hc,?_⟩;refine⟨λh=>by simp at h,λ_=>?_⟩;exact⟨by omega,by omega,(c,xs++[M3 (row.toNat.testBit lw[i].toNat)],(i:Int)+1),⟨rfl,rfl,rfl,by simp⟩,⟨i+1,by omega,by simp,hn⟩,by dsimp only;omega⟩
 .have:i=lw.length:=by omega
  subst this;rw[List.take_length] at aW;refineλ_=>⟨?_,by omega,?_⟩
  .intro aJ h0;rw[h0] at aJ;simp at aJ
  .rw[aW];exact Fi lw row
end Go.Proofs.Tryd