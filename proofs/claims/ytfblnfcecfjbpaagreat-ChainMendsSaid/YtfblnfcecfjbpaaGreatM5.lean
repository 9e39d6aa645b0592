/- A framework for walks, contracts of functions, and their proofs: part 5. -/
import Derived.Test.YtfblnfcecfjbpaaGreatM4
set_option linter.unusedVariables false
set_option maxRecDepth 100000
namespace Go.V
open Go
def EX (s:St):VResult->Option SV
 |.tmp t=>some (s.env.getD t .any)
 |.cell a agg size=>bif Nat.blt 0 size then Q79 s.own agg size (s.env.getD a .any) else none
def XJ (s:St) (rs:List VResult):Option SV :=
 match rs with
 |[r]=>EX s r
 |rs=>(rs.mapM (EX s)).map .tup
def Q9s (mp:List (Nat×Option Nat)) (j:Nat) (a:Option Nat):Option (List (Nat×Option Nat)) :=
 if (QA mp j).isSome then none else match a with
 |some x=>if mp.any λp=>p.2==some x then none else some (mp++[(j,a)])
 |none=>some (mp++[(j,a)])
mutual
def Q3k:SV->SV->List (Nat×Option Nat)->Option (List (Nat×Option Nat))
 |.lst j,v,mp=>match v with|.lst a=>Q9s mp j (some a)|.nilS=>Q9s mp j none|_=>none
 |.map j,v,mp=>match v with|.map a=>Q9s mp j (some a)|_=>none
 |.dd j w,v,mp=>match w with
  |.out=>(match v with
   |.dd a w'=>(match w' with|.out=>Q9s mp j (some a)|_=>none)
   |.nilS=>Q9s mp j none
   |_=>none)
  |_=>none
 |.box j _,v,mp=>match v with|.box a _=>Q9s mp j (some a)|_=>none
 |.agg l,v,mp=>match v with|.agg l'=>Oz l l' mp|_=>none
 |.tup l,v,mp=>match v with|.tup l'=>Oz l l' mp|_=>none
 |.any,_,mp=>some mp
 |.val _ _,_,mp=>some mp
 |.nilS,_,mp=>some mp
 |.nilP,_,mp=>some mp
 |.nilM,_,mp=>some mp
 |.nilF,_,mp=>some mp
 |.sub _ _ _ _,_,_|.elp _ _ _ _,_,_|.grd _ _,_,_|.cp _ _,_,_|.fn _ _ _,_,_|.rop _ _ _ _,_,_|.pf _ _ _ _,_,_|.bid _ _,_,_=>none
def Oz:List SV->List SV->List (Nat×Option Nat)->Option (List (Nat×Option Nat))
 |[],_,mp=>some mp
 |s::ss,l,mp=>match l with
  |v::vs=>match Q3k s v mp with|some mp=>Oz ss vs mp|none=>none
  |[]=>none
end
def Q5h (s:St) (mp:List (Nat×Option Nat)):Nat->List OB->Prop
 |_,[]=>True
 |j,b::r=>Q4p s mp j b/\Q5h s mp (j+1) r
def KQ (rs:List VResult) (v:SV) (bs:List OB):Exit->St->Prop:=λe s =>
 let fin:=match XJ s rs with
  |some r=>(match Q3k v r [] with
   |some mp=>PS mp v r/\Q5h s mp 0 bs
   |none=>False)
  |none=>False
 match e with
 |.normal=>fin
 |.ret=>fin
 |_=>False
section
variable {P:Program}{B F:Heap}{pl:Nat->Value}{tb:Nat->Option Bool}{s:St}{env:Env}{M:Heap}
theorem TS (hG:Gam P B F pl tb s env M) {r:VResult}{v:SV}(h:EX s r=some v):∃ u,JW env M r=some u/\SR P B pl tb v u:=by
 cases r with
 |tmp t=>obtain rfl:=osj h;exact⟨_,rfl,hG.env.getD t undef⟩
 |cell a agg size =>
  simp only[EX] at h;cases hb:Nat.blt 0 size with
  |false=>rw[hb] at h;cases h
  |true =>rw[hb] at h;obtain⟨i,o,c,e,wr,t,u,h1,h2,h3,h4⟩:=RD hG.leB hG.obj (by simpa [zJ] using hb) h (hG.env.getD a undef);refine⟨u,?_,h4⟩;simp only[JW,Qa,Q5,h1,h2,h3];rfl
theorem Xb (hG:Gam P B F pl tb s env M) {rs:List VResult}{v:SV}(h:XJ s rs=some v):∃ u,Je env M rs=some u/\SR P B pl tb v u:=by
 have all:∀ (rs:List VResult) (l:List SV),rs.mapM (EX s)=some l->∃ us,rs.mapM (JW env M)=some us/\SRs P B pl tb l us:=by
  intro rs;induction rs with
  |nil=>intro l h;simp at h;subst h;exact⟨[],rfl,rfl⟩
  |cons r rs ih =>
   intro l h;rw[xl] at h;cases h1:EX s r with
   |none=>simp[h1] at h
   |some a =>
    cases h2:rs.mapM (EX s) with
    |none=>simp[h1,h2] at h
    |some l' =>simp[h1,h2] at h;subst h;obtain⟨u,h3,h4⟩:=TS hG h1;obtain⟨us,h5,h6⟩:=ih l' h2;exact⟨u::us,by rw[xl];simp[h3,h5],by simp only[SRs];exact⟨u,us,rfl,h4,h6⟩⟩
 have tup:(rs.mapM (EX s)).map SV.tup=some v->∃ u,(rs.mapM (JW env M)).map (λvs=>Value.tuple vs.toArray)=some u/\SR P B pl tb v u:=λh=>by simp only[zq] at h;obtain⟨l,h1,rfl⟩:=h;obtain⟨us,h2,h3⟩:=all rs l h1;exact⟨.tuple us.toArray,by rw[h2];rfl,by simp only[SR];exact⟨us,rfl,h3⟩⟩
 match rs,h,tup with
 |[r],h,_=>exact TS hG h
 |[],h,tup=>exact tup h
 |_::_::_,h,tup=>exact tup h
theorem GG {mp b8:List (Nat×Option Nat)}{j:Nat}{a:Option Nat}(h:Q9s mp j a=some b8) (hi:Inj mp):Inj b8:=by
 unfold Q9s at h;split at h
 .cases h
 .split at h
  .rename_i x;split at h
   .cases h
   .rename_i hc;obtain rfl:=osj h;have cP:∀ d,QA mp d≠some (some x):=λd hd=>by
     obtain⟨p,h1,h2,h3⟩:=E2 hd;exact hc (xF.2 ⟨p,h1,by rw[h3];simp⟩)
    intro t1 t2 a' h1 h2;rw[VQ] at h1 h2;split at h1
    .rename_i y1 e1;split at h2
     .rename_i y2 e2;obtain rfl:=osj h1;obtain rfl:=osj h2;exact hi t1 t2 a' e1 e2
     .split at h2
      .obtain rfl:=osj (osj h2);obtain rfl:=osj h1;exact absurd e1 (cP t1)
      .cases h2
    .split at h1
     .obtain rfl:=osj (osj h1);split at h2
      .rename_i y2 e2;obtain rfl:=osj h2;exact absurd e2 (cP t2)
      .split at h2
       .omega
       .cases h2
     .cases h1
  .obtain rfl:=osj h;intro t1 t2 a' h1 h2;rw[VQ] at h1 h2;split at h1
   .rename_i y1 e1;split at h2
    .rename_i y2 e2;obtain rfl:=osj h1;obtain rfl:=osj h2;exact hi t1 t2 a' e1 e2
    .split at h2<;>cases h2
   .split at h1<;>cases h1
mutual
theorem Is:∀ (v r:SV) (mp b8:List (Nat×Option Nat)),Q3k v r mp=some b8->Inj mp->Inj b8
 |.lst j,r,mp,b8,h,hi=>by
  simp only[Q3k] at h;split at h
  .exact GG h hi
  .exact GG h hi
  .cases h
 |.map j,r,mp,b8,h,hi=>by
  simp only[Q3k] at h;split at h
  .exact GG h hi
  .cases h
 |.dd j w,r,mp,b8,h,hi=>by
  simp only[Q3k] at h;split at h
  .split at h
   .split at h
    .exact GG h hi
    .cases h
   .exact GG h hi
   .cases h
  .cases h
 |.box j _,r,mp,b8,h,hi=>by
  simp only[Q3k] at h;split at h
  .exact GG h hi
  .cases h
 |.agg l,r,mp,b8,h,hi=>by
  simp only[Q3k] at h;split at h
  .exact Rn l _ mp b8 h hi
  .cases h
 |.tup l,r,mp,b8,h,hi=>by
  simp only[Q3k] at h;split at h
  .exact Rn l _ mp b8 h hi
  .cases h
 |.any,r,mp,b8,h,hi|.val _ _,r,mp,b8,h,hi|.nilS,r,mp,b8,h,hi|.nilP,r,mp,b8,h,hi|.nilM,r,mp,b8,h,hi|.nilF,r,mp,b8,h,hi=>by simp only[Q3k] at h;obtain rfl:=osj h;exact hi
 |.sub _ _ _ _,r,mp,b8,h,hi|.elp _ _ _ _,r,mp,b8,h,hi|.grd _ _,r,mp,b8,h,hi|.cp _ _,r,mp,b8,h,hi|.fn _ _ _,r,mp,b8,h,hi|.rop _ _ _ _,r,mp,b8,h,hi|.pf _ _ _ _,r,mp,b8,h,hi|.bid _ _,r,mp,b8,h,hi=>by cases h
theorem Rn:∀ (v r:List SV) (mp b8:List (Nat×Option Nat)),Oz v r mp=some b8->Inj mp->Inj b8
 |[],r,mp,b8,h,hi=>by simp only[Oz] at h;obtain rfl:=osj h;exact hi
 |s::ss,[],mp,b8,h,hi=>by cases h
 |s::ss,r::rs,mp,b8,h,hi=>by
  simp only[Oz] at h;split at h
  .rename_i sg h1;exact Rn ss rs sg b8 h (Is s r mp sg h1 hi)
  .cases h
end
theorem Ek {mp:List (Nat×Option Nat)}:∀ (bs:List OB) (n:Nat),Q5h s mp n bs->∀ j b,bs[j]?=some b->Q4p s mp (n+j) b
 |[],n,_,j,b,hj=>by simp at hj
 |b0::r,n,h,j,b,hj=>by
  obtain⟨h1,h2⟩:=h;cases j with
  |zero=>simp at hj;subst hj;exact h1
  |succ j =>
   have:=Ek r (n+1) h2 j b (by simpa using hj)
   rwa [zp,xV 1 j] at this
mutual
theorem IH {n:Nat}{π:Nat->Nat}:∀ (v:SV) (u:Value),v.ret 0=true->SR P B pl tb v u->Ren n π u u
 |.val k x,u,h,hs=>by
  simp only[SR] at hs;cases k with
  |i ik=>simp only[KC] at hs;obtain rfl:=(zP hs).1;exact .plain _ rfl
  |bo=>simp only[KC] at hs;obtain rfl:=(zP hs).1;exact .plain _ rfl
  |st=>simp only[KC] at hs;obtain rfl:=(zP hs).1;exact .plain _ rfl
  |list k=>cases h
  |pair a b =>have h1:=KC.length hs;have h2:=a.size_pos;have h3:=b.size_pos;simp only[Kind.size,xe] at h1;omega
 |.nilS,u,_,hs|.nilP,u,_,hs|.nilM,u,_,hs|.nilF,u,_,hs=>by simp only[SR] at hs;subst hs;exact .plain _ rfl
 |.lst j,u,h,_|.box j _,u,h,_|.map j,u,h,_=>by simp[SV.ret,zJ] at h
 |.dd j w,u,h,_=>by cases w<;>simp[SV.ret,zJ] at h
 |.agg l,u,h,hs=>by simp only[SR] at hs;obtain⟨cs,rfl,h2⟩:=hs;have:=Tn (n:=n) (π:=π) l cs h h2;exact .agg _ _ rfl λi h3 _=>this _ (by simp)
 |.tup l,u,h,hs=>by simp only[SR] at hs;obtain⟨cs,rfl,h2⟩:=hs;have:=Tn (n:=n) (π:=π) l cs h h2;exact .tuple _ _ rfl λi h3 _=>this _ (by simp)
 |.any,_,h,_|.bid _ _,_,h,_|.grd _ _,_,h,_|.sub _ _ _ _,_,h,_|.elp _ _ _ _,_,h,_|.rop _ _ _ _,_,h,_|.cp _ _,_,h,_|.fn _ _ _,_,h,_|.pf _ _ _ _,_,h,_=>by cases h
theorem Tn {n:Nat}{π:Nat->Nat}:∀ (v:List SV) (u:List Value),SVs.ret 0 v=true->SRs P B pl tb v u->∀ x∈u,Ren n π x x
 |[],u,_,hs=>by simp only[SRs] at hs;subst hs;intro x hx;cases hx
 |s::ss,u,h,hs=>by
  simp only[SVs.ret,z4] at h;simp only[SRs] at hs;obtain⟨x,y,rfl,h1,h2⟩:=hs;intro z hz;rcases zj.1 hz with rfl|hz
  .exact IH s z h.1 h1
  .exact Tn ss y h.2 h2 z hz
end
theorem OQ (exact:Bool) {σ0:Heap}{sf:St}{mb:Env}{σf:Heap}(hR:GRel P σ0 σ0 σ0 sf mb σf) {rs:List VResult}{v:SV}{bs:List OB}{e:Exit}(hv:v.ret bs.length=true) (hb:bs.all OB.ret=true) (h:KQ rs v bs e sf) (hx:exact=true->bs.all OB.isL=true/\U9 v=true) :
  Z6p σ0 rs (λu M'=>if exact then u=Ui (LG σ0 bs) v/\M'=PT σ0 bs else Ret P σ0 v bs u M') e mb σf:=by
 have main:(match XJ sf rs with
  |some r=>(match Q3k v r [] with
   |some mp=>PS mp v r/\Q5h sf mp 0 bs
   |none=>False)
  |none=>False)->Zo (Je mb σf rs) λu=>∃ v' M',DropTo σ0 u σf v' M'/\(if exact then v'=Ui (LG σ0 bs) v/\M'=PT σ0 bs else Ret P σ0 v bs v' M'):=λh=>by
  split at h
  .rename_i r hr;split at h
   .rename_i mp l7;obtain⟨h1,h2⟩:=h;obtain⟨B,F,pl,tb,⟨hB,hF,_,hd⟩,hG⟩:=hR;obtain⟨u,h3,h4⟩:=Xb hG hr;have jd:=KN v r u h1 h4;have eW:=Is v r [] mp l7 (λt t' a h=>by cases h);have ao:∀ j b,bs[j]?=some b->Q4p sf mp j b:=λj b hj=>by have:=Ek bs 0 h2 j b hj;rwa [xh] at this
    rw[h3];have hle:σ0.Le σf:=hF.trans hG.le;have hA:Agree σ0 σf:=λi hi=>by
     cases hg:σ0.get i with
     |none=>exact hd.2 i hi hg
     |some b=>exact hle.2 i b hg
    have aU:∀ j b,bs[j]?=some b->OR P hNil (Mk pl mp) J9 σf (Mk pl mp j) b/\∀ i,Oid (Mk pl mp j) i->σ0.get i=none/\σ0.n<=i:=λj b hj=>by
     obtain⟨k1,k2⟩:=Zl hG (ao j b hj);have dG:=z8.1 hb b (zG hj);have aq:b.live=true:=by cases b<;>first|rfl|cases dG
     refine⟨k1.retd dG λ_ _=>rfl,λi hi=>?_⟩;obtain⟨a,e1,e2,e3⟩:=k2 aq i hi;have mS:=hG.fresh a i e2 e3;have hn:σ0.get i=none:=by
      cases hg:σ0.get i with
      |none=>rfl
      |some b=>rw[hF.2 i b hg] at mS;cases mS
     refine⟨hn,Nat.le_of_not_lt λaf=>?_⟩;have bW:=hd.2 i af hn;have ao:=hG.obj a;cases ho:Qe sf.own a with
     |dead=>rw[ho] at e2;cases e2
     |lst ty k xs nl =>
      rw[ho] at ao;rcases ao with⟨_,_,h2⟩|⟨_,i',cap,c,t,h2,_,h3,_⟩
      .rw[h2] at e3;cases e3
      .rw[h2] at e3;obtain rfl:=osj e3;rw[h3] at bW;cases bW
     |cells l u=>rw[ho] at ao;obtain⟨i',c,e,t,h2,h3,_⟩:=ao;rw[h2] at e3;obtain rfl:=osj e3;rw[h3] at bW;cases bW
     |mapE kk vk m key n=>rw[ho] at ao;obtain⟨i',es,cl,r,e,h2,h3,_⟩:=ao;rw[h2] at e3;obtain rfl:=osj e3;rw[h3] at bW;cases bW
     |map kk vk m=>rw[ho] at ao;obtain⟨i',es,cl,h2,h3,_⟩:=ao;rw[h2] at e3;obtain rfl:=osj e3;rw[h3] at bW;cases bW
     |stk l vals=>rw[ho] at e2;cases e2
     |lpf l q s=>rw[ho] at ao e2;obtain⟨h2,_,h3⟩:=ao;rw[h2] at e3;obtain rfl:=osj e3;have h3:=h3 e2;rw[bW] at h3;cases h3
     |iter kk vk m dn=>rw[ho] at ao;obtain⟨j',i',es,cl,wr,seen,h2,h3,_⟩:=ao;rw[h2] at e3;obtain rfl:=osj e3;rw[h3] at bW;cases bW
     |deep ty q k xs nl hh =>rw[ho] at ao;obtain⟨is,_,d2,d3,_⟩:=DP.open ao;obtain⟨c,e,t,h⟩:=d2.cells i ((d3 i).1 e3);rw[h] at bW;cases bW
    have fz:∀ j j' i,j<bs.length->j'<bs.length->j≠j'->Oid (Mk pl mp j) i->Oid (Mk pl mp j') i->False:=λj j' i hj du aw hi cD=>by
     have bk:=z5 hj;have bt:=z5 du;have r1:=z8.1 hb _ (zu hj);have r2:=z8.1 hb _ (zu du);have l1:(bs[j]).live=true:=by cases nc:bs[j]<;>first|rfl|(rw[nc] at r1;cases r1)
     have l2:(bs[j']).live=true:=by cases nc:bs[j']<;>first|rfl|(rw[nc] at r2;cases r2)
     obtain⟨a,e1,e2,e3⟩:=(Zl hG (ao j _ bk)).2 l1 i hi;obtain⟨a',uJ,mN,uK⟩:=(Zl hG (ao j' _ bt)).2 l2 i cD;by_cases e:a=a'
     .subst e;exact aw (eW j j' a e1 uJ)
     .exact hG.sep a a' i e e2 mN e3 uK
    cases hex:exact with
    |true =>obtain⟨hl,cE⟩:=hx hex;have oE:=OV (P:=P) hA hle.1 hv cE hb hl (pl:=Mk pl mp) (u:=u) (λj b hj=>⟨(aU j b hj).1,λi hi=>((aU j b hj).2 i (H_ hi)).2⟩) (λj j' i a b c d e=>fz j j' i a b c (H_ d) (H_ e)) (jd.retd (λj hj=>rfl) _ _ hv);exact⟨_,_,oE,by simp⟩
    |false =>
     simp only[zy,if_false];by_cases b9:bs=[]
     .subst b9;refine⟨u,σ0,.rename (λi=>i) (z7 _) (λi hi=>⟨rfl,(hA i hi).symm,.inl (hA i hi)⟩) (λi k1 k2=>by omega) (λ_ _ _ _ _ _ h=>h) (IH v u hv jd),?_⟩;exact⟨⟨Heap.Le.refl _,Dead.refl _⟩,λ_=>rfl,Xd,(λj b hj=>by simp at hj),(λj j' i hj=>by simp at hj),jd.retd (λj hj=>by simp at hj) _ _ hv⟩
     .exact⟨u,σf,.refl _ _ _,⟨hle,hd⟩,λe=>absurd e b9,Mk pl mp,aU,fz,jd.retd (λj hj=>rfl) _ _ hv⟩
   .exact h.elim
  .exact h.elim
 cases e with
 |normal=>exact main h
 |ret=>exact main h
 |_=>exact h.elim
def QI (nt:Nat) (args:List SV):St:=⟨args++List.replicate (nt-args.length) .any,[],0⟩
theorem Q0e {args:List SV}{vs:List Value}(h:SRs P M Xd J9 args vs) (nt:Nat):GRel P M M M (QI nt args) (vs++List.replicate (nt-vs.length) undef) M:=by
 have uL:∀ n,SRs P M Xd J9 (List.replicate n .any) (List.replicate n undef):=by
  intro n;induction n with
  |zero=>simp[SRs]
  |succ n ih=>simp only[xD,SRs];exact⟨_,_,rfl,by simp[SR],ih⟩
 refine⟨M,M,Xd,J9,⟨Heap.Le.refl _,Heap.Le.refl _,(λi b h1 h2=>by rw[h2] at h1;cases h1),Dead.refl _⟩,Heap.Le.refl _,Heap.Le.refl _,?_,λd=>trivial,(λd i hl=>by cases hl),(λd d' i _ hl=>by cases hl),λ_ _=>rfl⟩;have:=h.length;simp only[QI,this];exact h.append (uL _)
theorem Fun.okC {f:Nat}{vc:VCode}{rs:List VResult}{nt:Nat}(h:Fun P f vc rs nt) (hm:P.follows .mixedOrders=true) {sp:CSp}
  (hb:∀ ap,Q2b P ap->∀ args c v bs,sp ap args=some (c,v,bs)->c->∃ (C:Cx) (L:List (Nat×LoopAnn)) (cw:List SV),(∀ M vs,SRs P M Xd J9 args vs->SRs P M Xd J9 cw vs)/\COk P C/\gwp C L vc 0 (KQ rs v bs) (QI nt cw)):OkC P f sp:=by
 intro ap dz M args vs c v bs az dF hv b9 hc;obtain⟨C,L,cw,h1,h2,h3⟩:=hb ap dz args c v bs dF hc;have main:∀ exact:Bool,(exact=true->bs.all OB.isL=true/\U9 v=true)->VCalled P f vs M λu M'=>if exact then u=Ui (LG M bs) v/\M'=PT M bs else Ret P M v bs u M':=λexact hx=>by refine h.calls hm PQ ?_;exact V3 h2 vc 0 _ _ _ M none _ trivial (Q0e (h1 M vs az) nt) h3 λe s' ah M' k1 k2=>OQ exact k2 hv b9 k1 hx
 refine⟨(main false λe=>by cases e).mono λu M' hr=>by simpa using hr,λhl cE=>(main true λ_=>⟨hl,cE⟩).mono λu M' hr=>by simpa using hr⟩
theorem OkC.true {f:Nat}{sp:CSp}(h:OkC P f sp) (he:W1 P f) {M:Heap}{args:List SV}{vs:List Value}(ha:SRs P M Xd J9 args vs) {c:Prop}(hs:sp (λ_ _=>none) args=some (c,.val .bo true,[])) (hc:c) :
  VCallsTo P f vs M λv _=>v=.bool true:=by
 have:=(h (λ_ _=>none) (λ_ _ _ _ _ _ _ _ _ h=>by cases h) M args vs c _ [] ha hs rfl rfl hc).1;intro ρ w aA hH hL;rcases this ρ w aA hH hL with⟨_,h2⟩|⟨c',_,h2⟩
 .refine h2.mono λe w' ⟨c',h3,h4⟩=>⟨c',h3,h4.mono λu M' hr=>?_⟩;have:=(hr.flat rfl).2;simpa only [SR,KC,List.cons.injEq,and_true] using this
 .have:=h2 w (Like.refl ρ w);rw[G5 he aA w] at this;cases this
end
end Go.V
namespace Go.V
open Go
mutual
inductive AP:Type->Type 1 where
 |k (k:Kind):AP k.T
 |agg {D:Type}(l:AL D):AP D
 |ptr {D:Type}(l:AL D):AP D
 |fn (ks:List Kind) (r:Kind):AP ((AT ks->Prop)×(AT ks->r.T))
 |nilS:AP Unit
 |any:AP Unit
 |int (k:IntKind) (n:Int):AP Unit
inductive AL:Type->Type 1 where
 |nil:AL Unit
 |one {D:Type}(a:AP D):AL D
 |cons {D E:Type}(a:AP D) (r:AL E):AL (D×E)
end
def L_:(ks:List Kind)->AT ks->List SV
 |[],_=>[]
 |[k],x=>[Q52 k x]
 |k::k'::ks,x=>Q52 k x.1::L_ (k'::ks) x.2
abbrev Ap:=SV->List SV->Option (Prop×SV)
def Q5n (ap:Ap) (f:SV) (ks:List Kind) (r:Kind) (x:AT ks):Prop:=match ap f (L_ ks x) with
 |some (c,v)=>(match gap.asV r v with|some _=>c|none=>False)
 |none=>False
def fnP (ap:Ap) (f:SV) (ks:List Kind) (r:Kind) (x:AT ks):r.T:=match ap f (L_ ks x) with
 |some (_,v)=>(match gap.asV r v with|some y=>y|none=>r.dflt)
 |none=>r.dflt
mutual
def AP.dec (ap:Ap):{D:Type}->(p:AP D)->SV->Option D
 |_,.k k,v=>match k with
  |.list k=>view [] k v
  |.i ik=>SJ (.i ik) [v]
  |.bo=>SJ .bo [v]
  |.st=>SJ .st [v]
  |.pair _ _=>none
 |_,.agg l,v=>match v with|.agg vs=>AL.dec ap l vs|_=>none
 |_,.nilS,v=>match v with|.nilS=>some ()|_=>none
 |_,.any,_=>some ()
 |_,.int k n,v=>match SJ (.i k) [v] with|some x=>if (show Int from x)=n then some () else none|none=>none
 |_,.ptr l,v=>match v with|.cp vs 0=>AL.dec ap l vs|_=>none
 |_,.fn ks r,v=>match v with
  |.fn g a b=>some (Q5n ap (.fn g a b) ks r,fnP ap (.fn g a b) ks r)
  |.pf sh r' cR p=>some (Q5n ap (.pf sh r' cR p) ks r,fnP ap (.pf sh r' cR p) ks r)
  |_=>none
def AL.dec (ap:Ap):{D:Type}->(l:AL D)->List SV->Option D
 |_,.nil,vs=>match vs with|[]=>some ()|_=>none
 |_,.one a,vs=>match vs with|[v]=>AP.dec ap a v|_=>none
 |_,.cons a r,vs=>match vs with
  |v::vs=>(match AP.dec ap a v,AL.dec ap r vs with|some x,some y=>some (x,y)|_,_=>none)
  |[]=>none
end
mutual
def AP.can:{D:Type}->(p:AP D)->D->SV
 |_,.k k,x=>.val k x
 |_,.agg l,x=>.agg (AL.can l x)
 |_,.nilS,_=>.nilS
 |_,.any,_=>.any
 |_,.int k n,_=>.val (.i k) n
 |_,.ptr l,x=>.cp (AL.can l x) 0
 |_,.fn ks r,x=>.pf ks r x.1 x.2
def AL.can:{D:Type}->(l:AL D)->D->List SV
 |_,.nil,_=>[]
 |_,.one a,x=>[AP.can a x]
 |_,.cons a r,x=>AP.can a x.1::AL.can r x.2
end
def Ko {D:Type}(l:AL D) (pre:D->Prop) (res:D->SV) (obs:D->List OB):CSp:=λap args=>match AL.dec ap l args with
 |some d=>some (pre d,res d,obs d)
 |none=>none
section
variable {P:Program}{M:Heap}
theorem B8:∀ {ks:List Kind}{x:AT ks}{vs:List Value},LK M ks x vs->SRs P M Xd J9 (L_ ks x) vs
 |[],x,vs,h=>by simp only[LK] at h;subst h;simp[L_,SRs]
 |[k],x,vs,h=>by obtain⟨v,rfl,h1⟩:=h;simp only[L_,SRs];exact⟨v,[],rfl,XL h1,rfl⟩
 |k::k'::ks,x,vs,h=>by obtain⟨v,cL,rfl,h1,h2⟩:=h;simp only[L_,SRs];exact⟨v,cL,rfl,XL h1,B8 h2⟩
theorem IE {ap:Ap}(dz:Q2b P ap) {f:SV}{v:Value}(hf:SR P M Xd J9 f v) (hv:∃ g a b,v=.func (.func g) a b) (ks:List Kind) (r:Kind):SR P M Xd J9 (.pf ks r (Q5n ap f ks r) (fnP ap f ks r)) v:=by
 obtain⟨g,a,b,rfl⟩:=hv;simp only[SR];refine⟨g,a,b,rfl,λx hd U vs hle cC=>?_⟩;unfold Q5n at hd;split at hd
 .rename_i c u oF;split at hd
  .rename_i y hy;obtain⟨h1,g',a',b',h2,h3⟩:=dz U f (L_ ks x) c u (.func (.func g) a b) vs (SR.mono hle (λ_ _ h=>h) _ _ hf) (B8 cC) oF hd;obtain⟨rfl,rfl,rfl⟩:=(by simpa using h2:g=g'/\a=a'/\b=b');have hp:fnP ap f ks r x=y:=by simp[fnP,oF,hy]
   rw[hp];exact h3.mono λu' M' hu=>⟨hu.1,(TK hy hu.2).vcall (Oc _)⟩
  .exact hd.elim
 .exact hd.elim
mutual
theorem AP.q0k {ap:Ap}(dz:Q2b P ap):∀ {D:Type}(p:AP D) {v:SV}{x:D}{u:Value},AP.dec ap p v=some x->SR P M Xd J9 v u->SR P M Xd J9 (AP.can p x) u
 |_,.k k,v,x,u,h,hs=>by
  have one:SRs P M Xd J9 [v] [u]:=by simp only[SRs];exact⟨u,[],rfl,hs,rfl⟩
  simp only[AP.can,SR];cases k with
  |list k =>have:=Us (own:=[]) (Heap.Le.refl M) (λd=>(trivial:OR P M Xd J9 M (Xd d) .dead)) (show view [] k v=some x from h) hs;exact⟨u,rfl,this⟩
  |i ik=>exact QJ (k:=.i ik) h one
  |bo=>exact QJ (k:=.bo) h one
  |st=>exact QJ (k:=.st) h one
  |pair a b=>cases h
 |_,.agg l,v,x,u,h,hs=>by
  simp only[AP.dec] at h;split at h
  .simp only[SR] at hs;obtain⟨cs,rfl,hs⟩:=hs;simp only[AP.can,SR];exact⟨cs,rfl,AL.q0k dz l h hs⟩
  .cases h
 |_,.any,v,x,u,h,hs=>by simp only[AP.can,SR]
 |_,.int k n,v,x,u,h,hs=>by
  have one:SRs P M Xd J9 [v] [u]:=by simp only[SRs];exact⟨u,[],rfl,hs,rfl⟩
  simp only[AP.dec] at h;split at h
  .rename_i y hy;split at h
   .rename_i e;subst e;simp only[AP.can,SR];exact QJ (k:=.i k) hy one
   .cases h
  .cases h
 |_,.nilS,v,x,u,h,hs=>by
  simp only[AP.dec] at h;split at h
  .simp only[AP.can];exact hs
  .cases h
 |_,.ptr l,v,x,u,h,hs=>by
  simp only[AP.dec] at h;split at h
  .simp only[SR] at hs;obtain⟨b,c,e,wr,t,h1,rfl,h3⟩:=hs;simp only[AP.can,SR];exact⟨b,c,e,wr,t,h1,rfl,AL.q0k dz l h h3⟩
  .cases h
 |_,.fn ks r,v,x,u,h,hs=>by
  simp only[AP.dec] at h;split at h
  .obtain rfl:=osj h;exact IE dz hs (by simp only[SR] at hs;obtain⟨x,y,rfl,_⟩:=hs;exact⟨_,_,_,rfl⟩) ks r
  .obtain rfl:=osj h;exact IE dz hs (by simp only[SR] at hs;obtain⟨g,x,y,rfl,_⟩:=hs;exact⟨_,_,_,rfl⟩) ks r
  .cases h
theorem AL.q0k {ap:Ap}(dz:Q2b P ap):∀ {D:Type}(l:AL D) {vs:List SV}{x:D}{us:List Value},AL.dec ap l vs=some x->SRs P M Xd J9 vs us->SRs P M Xd J9 (AL.can l x) us
 |_,.nil,vs,x,us,h,hs=>by
  simp only[AL.dec] at h;split at h
  .exact hs
  .cases h
 |_,.one a,vs,x,us,h,hs=>by
  simp only[AL.dec] at h;split at h
  .obtain⟨u,rfl,h1⟩:=hs.one;simp only[AL.can,SRs];exact⟨u,[],rfl,AP.q0k dz a h h1,rfl⟩
  .cases h
 |_,.cons a r,vs,x,us,h,hs=>by
  simp only[AL.dec] at h;split at h
  .rename_i v cL;split at h
   .rename_i y z h1 h2;obtain rfl:=osj h;simp only[SRs] at hs;obtain⟨u,jb,rfl,h3,h4⟩:=hs;simp only[AL.can,SRs];exact⟨u,jb,rfl,AP.q0k dz a h1 h3,AL.q0k dz r h2 h4⟩
   .cases h
  .cases h
end
theorem CsOk.nil:CsOk P []:=λf sp h=>by cases h
theorem CsOk.cons {f:Nat}{sp:CSp}{cs:List (Nat×CSp)}(h:OkC P f sp) (t:CsOk P cs):CsOk P ((f,sp)::cs):=λg uM hg=>by
 simp only[QA] at hg;cases hb:Nat.beq f g with
 |true=>rw[hb] at hg;obtain rfl:=zI hb;obtain rfl:=osj hg;exact h
 |false=>rw[hb] at hg;exact t g uM hg
theorem COk.cons {C:Cx}{f:Nat}{sp:CSp}(h:OkC P f sp) (t:COk P C):COk P {C with cs:=(f,sp)::C.cs}:=⟨CsOk.cons h t.cs,t.xs,t.it,t.yl,t.iy,t.xf⟩
theorem Z3t {f:Nat}{vc:VCode}{rs:List VResult}{nt:Nat}(h:Fun P f vc rs nt) (hm:P.follows .mixedOrders=true) {D:Type}{l:AL D}{pre:D->Prop}{res:D->SV}{obs:D->List OB}
  {C:Cx}(aB:COk P C) (L:D->List (Nat×LoopAnn)) (hb:∀ d,pre d->gwp C (L d) vc 0 (KQ rs (res d) (obs d)) (QI nt (AL.can l d))):OkC P f (Ko l pre res obs):=by
 refine h.okC hm λap dz args c v bs hs hc=>?_;unfold Ko at hs;split at hs
 .rename_i d hd;obtain⟨rfl,rfl,rfl⟩:=(by simpa using hs:pre d=c/\res d=v/\obs d=bs);exact⟨C,L d,AL.can l d,λM vs hv=>AL.q0k dz l hd hv,aB,hb d hc⟩
 .cases hs
theorem QT {f:Nat}{vc:VCode}{rs:List VResult}{nt:Nat}(h:Fun P f vc rs nt) (hm:P.follows .mixedOrders=true) {D:Type}{l:AL D}{pre:D->Prop}{res:D->SV}{obs:D->List OB}
  {C:Cx}(aB:COk P C) {L:D->List (Nat×LoopAnn)}{V:D->Prop}(hq:∀ d,gwp C (L d) vc 0 (KQ rs (res d) (obs d)) (QI nt (AL.can l d))=V d) (hb:∀ d,pre d->V d):OkC P f (Ko l pre res obs) :=
 Z3t h hm aB L λd hp=>(hq d).mpr (hb d hp)
end
end Go.V
namespace Go.V
open Go
def Z7x (key:Nat) (vals:List Value) (rs:List VResult) (K:SV->St->Prop):Exit->St->Prop:=λe s =>
 let fin:=match XJ s rs,Qe s.own key with
  |some r,.stk l vs=>vs=vals/\K r ⟨l,s.own,s.nx⟩
  |_,_=>False
 match e with
 |.normal=>fin
 |.ret=>fin
 |_=>False
def IF (C:Cx) (L:List Value->List (Nat×LoopAnn)) (vc:VCode) (rs:List VResult) (nt:Nat):XSp:=λd args s K =>
 ∀ vals,gwp {C with off:=100000*(d+1)} (L vals) vc 0 (Z7x (100000*(d+1)-1) vals rs K) ⟨SVs.kill (100000*(d+1)-1) args++List.replicate (nt-args.length) .any,(Fj (100000*(d+1)-1) vals s).own,s.nx⟩
def Z7f (C:Cx) (L:List (Nat×LoopAnn)) (vc:VCode) (nt:Nat):Z2m:=λo args y s K =>
 gwp {C with off:=100000*(o+1),yl:=[y]} L vc 0 (λe s'=>match e with|.normal=>K s'|.ret=>K s'|_=>False) ⟨args++List.replicate (nt-args.length) .any,s.own,s.nx⟩
section
variable {P:Program}
theorem Bg {B:Heap}{pl:Nat->Value}{tb:Nat->Option Bool}:∀ n,SRs P B pl tb (List.replicate n .any) (List.replicate n undef)
 |0=>by simp[SRs]
 |n+1=>by simp only[xD,SRs];exact⟨_,_,rfl,by simp[SR],Bg n⟩
theorem Yy {f:Nat}{vc:VCode}{rs:List VResult}{nt:Nat}(h:Fun P f vc rs nt) (hm:P.follows .mixedOrders=true) {C:Cx}(aB:COk P C) (L:List Value->List (Nat×LoopAnn)):XOk P f (IF C L vc rs nt):=by
 intro B F pl tb s env M d args vs K R hG ha hx hK;have hx:=hx env;refine h.calls hm PQ ?_;have q3:Gam P B F (X8 pl (100000*(d+1)-1) poison) tb (Fj (100000*(d+1)-1) env s) env M:=by refine hG.make _ _ poison hG.le (λ_ _ _ _ _=>rfl) ?_ (λi hl _=>by cases hl);exact SRs.upd (.refl _) (λ_ _ h=>h) (λj hj=>by simp[X8,hj]) _ _ hG.env
 have eZ:COk P {C with off:=100000*(d+1)}:=⟨aB.cs,aB.xs,aB.it,aB.yl,aB.iy,aB.xf⟩;have az:=SRs.upd (P:=P) (Heap.Le.refl B) (λ_ _ h=>h) (pl':=X8 pl (100000*(d+1)-1) poison) (tb':=tb) (o:=100000*(d+1)-1) (λj hj=>by simp[X8,hj]) _ _ ha;have a_:GRel P B F M ⟨SVs.kill (100000*(d+1)-1) args++List.replicate (nt-args.length) .any,(Fj (100000*(d+1)-1) env s).own,s.nx⟩ (vs++List.replicate (nt-vs.length) undef) M:=by refine⟨B,F,_,tb,.of hG.bf (.refl _),⟨q3.bf,q3.le,?_,q3.obj,q3.fresh,q3.sep,q3.free⟩⟩;rw[ha.length];exact az.append (Bg _)
 refine V3 eZ vc 0 _ _ _ M none _ trivial a_ hx λe s' ah M' h1 h2=>?_
 .have main:(match XJ s' rs,Qe s'.own (100000*(d+1)-1) with
   |some r,.stk l vs=>vs=env/\K r ⟨l,s'.own,s'.nx⟩
   |_,_=>False)->Zo (Je ah M' rs) λv=>∃ v' aE,DropTo M v M' v' aE/\R v' aE:=λh=>by
   obtain⟨B',F',pl',tb',k1,k2⟩:=h2;split at h
   .rename_i r l cL hr gg;obtain⟨rfl,h⟩:=h;obtain⟨u,h3,h4⟩:=Xb k2 hr;rw[h3];have ao:=k2.obj (100000*(d+1)-1);rw[gg] at ao;exact⟨u,M',.refl _ _ _,hK r _ B' F' pl' tb' u M' h k1 ⟨k2.bf,k2.le,ao,k2.obj,k2.fresh,k2.sep,k2.free⟩ h4⟩
   .exact h.elim
  cases e with
  |normal=>exact main h1
  |ret=>exact main h1
  |_=>exact h1.elim
theorem I6 {f:Nat}{vc:VCode}{nt:Nat}(h:Fun P f vc [] nt) (hm:P.follows .mixedOrders=true) {C:Cx}(aB:COk P C) (L:List (Nat×LoopAnn)):Z2l P f (Z7f C L vc nt):=by
 refine⟨h.enterable,λB F pl tb s env M o args vs y K R hG ha hy hx hK=>h.callsTo hm PQ ?_⟩;have eZ:COk P {C with off:=100000*(o+1),yl:=[(o,y)]}:=⟨aB.cs,aB.xs,aB.it,λo' y' h'=>by
  simp only[QA] at h';cases hb:Nat.beq o o' with
  |true=>rw[hb] at h';obtain rfl:=zI hb;obtain rfl:=osj h';exact hy
  |false=>rw[hb] at h';exact(by cases h'),aB.iy,aB.xf⟩
 have a_:GRel P B F M ⟨args++List.replicate (nt-args.length) .any,s.own,s.nx⟩ (vs++List.replicate (nt-vs.length) undef) M:=by refine⟨B,F,pl,tb,.of hG.bf (Dead.refl _),⟨hG.bf,hG.le,?_,hG.obj,hG.fresh,hG.sep,hG.free⟩⟩;rw[ha.length];exact ha.append (Bg _)
 refine V3 eZ vc 0 _ _ _ M none _ trivial a_ hx λe s' ah M' h1 h2=>?_;have main:K s'->Zo (Je ah M' []) λv=>∃ v' aE,DropTo M v M' v' aE/\R aE:=λh=>by obtain⟨B',F',pl',tb',k1,k2⟩:=h2;exact⟨_,M',.refl _ _ _,hK s' B' F' pl' tb' ah M' h k1 k2⟩
 cases e with
 |normal=>exact main h1
 |ret=>exact main h1
 |_=>exact h1.elim
end
end Go.V
namespace Go.V
open Go
def Z7u:SV->Option Nat
 |.lst o=>some o
 |.box o off=>bif Nat.beq off 0 then some o else none
 |_=>none
def lsv:OB->SV
 |.lst _ _ _ _=>.lst 0
 |_=>.box 0 0
def Z7d:SV->OB->Bool
 |.lst _,.lst _ _ _ _=>true
 |.box _ _,.cells _ _=>true
 |_,_=>false
abbrev LSp:=Ap->OB->List SV->Option (Prop×SV×OB)
def A4 (ap:Ap) (sp:LSp):XSp:=λ_ args s K =>
 match args with
 |a::args=>(match Z7u a with
  |some o=>bif (Qe s.own o).ret&&Z7d a (Qe s.own o) then (match sp ap (Qe s.own o) (PE (oset s.own o .dead) args) with
    |some (c,v,b)=>bif v.ret 0&&b.ret then c/\K v ⟨s.env,oset s.own o b,s.nx⟩ else False
    |none=>False) else False
  |none=>False)
 |[]=>False
def U4 (nt:Nat) (a0:SV) (b:OB) (vals:List Value) (args:List SV):St:=⟨a0::(args++List.replicate (nt-(args.length+1)) .any),[(0,b),(4000000,.stk [a0] vals)],0⟩
def AY (vals:List Value) (rs:List VResult) (v:SV) (b:OB) (a0:SV):Exit->St->Prop:=λe s =>
 let fin:=match XJ s rs,Qe s.own 4000000 with
  |some r,.stk l vs=>vs=vals/\UH [(0,some 0)] [a0] l/\PS [] v r/\Q4p s [(0,some 0)] 0 b
  |_,_=>False
 match e with
 |.normal=>fin
 |.ret=>fin
 |_=>False
section
variable {P:Program}
theorem Heap.Le.kill' {B M:Heap}(h:B.Le M) {i:Nat}(hi:B.get i=none):B.Le (M.kill i):=⟨h.1,λj b hb=>by
 have:j≠i:=by rintro rfl;rw[hi] at hb;cases hb
 rw[Heap.q0c _ this];exact h.2 _ _ hb⟩
theorem Heap.q1x (M:Heap) (i:Nat):(M.kill i).Le M:=⟨z7 _,λj b hb=>by
 by_cases e:j=i
 .subst e;rw[Heap.q0f] at hb;cases hb
 .rwa [Heap.q0c _ e] at hb⟩
def CA (M:Heap) (p:Value):Heap:=match oid p with|some i=>M.kill i|none=>M
theorem Q6a (M:Heap) (p:Value):(CA M p).Le M:=by
 unfold CA;split
 .exact Heap.q1x _ _
 .exact .refl _
theorem Iy {B M:Heap}{p:Value}(h:B.Le M) (hi:∀ i,oid p=some i->B.get i=none):B.Le (CA M p):=by
 unfold CA;split
 .rename_i i e;exact h.kill' (hi i e)
 .exact h
theorem Q0f {M:Heap}{p:Value}{i:Nat}(h:oid p=some i):(CA M p).get i=none:=by unfold CA;rw[h];exact Heap.q0f _ _
theorem AF {M:Heap}{p:Value}{i:Nat}(h:oid p≠some i):(CA M p).get i=M.get i:=by
 unfold CA;split
 .rename_i j e;exact Heap.q0c _ (by rintro rfl;exact h e)
 .rfl
theorem Z1p {p:Value}{i:Nat}(hp:∀ l,p≠.tuple l) (h:Oid p i):oid p=some i:=by cases p<;>first|exact h|exact absurd rfl (hp _)
theorem OB.q2d {b:OB}(h:b.ret=true):b.live=true:=by cases b<;>first|rfl|cases h
theorem Q6h {o:Nat}{b:OB}(h:Z7d (.lst o) b=true):lsv b=.lst 0:=by cases b<;>first|rfl|cases h
theorem Q68 {o off:Nat}{b:OB}(h:Z7d (.box o off) b=true):lsv b=.box 0 0:=by cases b<;>first|rfl|cases h
theorem Q6y {f:Nat}{vc:VCode}{rs:List VResult}{nt:Nat}(h:Fun P f vc rs nt) (hm:P.follows .mixedOrders=true) {sp:LSp}{ap:Ap}
  (hb:∀ b args c v b',sp ap b args=some (c,v,b')->c->∃ (C:Cx) (L:List Value->List (Nat×LoopAnn)) (cw:List SV),SVs.pure cw=true/\(∀ M vs,SRs P M Xd J9 args vs->SRs P M Xd J9 cw vs)/\COk P C/\∀ vals,gwp C (L vals) vc 0 (AY vals rs v b' (lsv b)) (U4 nt (lsv b) b vals cw)):XOk P f (A4 ap sp):=by
 intro B F pl tb s env M d args vs K R hG ha hx hK;unfold A4 at hx;split at hx
 .rename_i a args;split at hx
  .rename_i o aP;cases lU:((Qe s.own o).ret&&Z7d a (Qe s.own o)) with
   |false=>rw[lU] at hx;exact hx.elim
   |true =>
   rw[lU] at hx;simp only[zl] at hx;simp only[z4] at lU;obtain⟨mQ,fm⟩:=lU;split at hx
   .rename_i c v b' dF;cases cF:(v.ret 0&&b'.ret) with
    |false=>rw[cF] at hx;exact hx.elim
    |true =>
    rw[cF] at hx;obtain⟨hc,hx⟩:=hx;simp only[z4] at cF;simp only[SRs] at ha;obtain⟨u,us,rfl,kM,ef⟩:=ha;have aq:=OB.q2d mQ;have ao:=hG.obj o;have bh:∀ i,oid (pl o)=some i->F.get i=none:=λi hi=>hG.fresh o i aq (H_ hi);have mc:∀ i,oid (pl o)=some i->B.get i=none:=λi hi=>by
     cases hg:B.get i with
     |none=>rfl
     |some b=>have:=hG.bf.2 _ _ hg;rw[bh i hi] at this;cases this
    have dM:∀ l,pl o≠.tuple l:=λl he=>by
     unfold Z7u at aP;split at aP
     .obtain rfl:=osj aP;simp only[SR] at kM;obtain⟨rfl,_,_,_,hs⟩:=kM;rw[he] at hs;cases hs
     .rename_i o' off;cases a8:Nat.beq off 0 with
      |false=>rw[a8] at aP;cases aP
      |true =>rw[a8] at aP;obtain rfl:=osj aP;simp only[SR] at kM;obtain⟨_,h,_⟩:=kM;rw[he] at h;cases h
     .cases aP
    have me:∀ (B:Heap) (pl':Nat->Value) (tb':Nat->Option Bool),(SR P B pl' tb' (lsv (Qe s.own o)) u<->pl' 0=pl o):=λB pl' tb'=>by
     unfold Z7u at aP;split at aP
     .obtain rfl:=osj aP;simp only[SR] at kM;rw[Q6h fm];simp only[SR];obtain⟨rfl,hs⟩:=kM;exact⟨λh=>h.1.symm,λh=>⟨h.symm,hs⟩⟩
     .rename_i o' off;cases a8:Nat.beq off 0 with
      |false=>rw[a8] at aP;cases aP
      |true =>
       rw[a8] at aP;obtain rfl:=osj aP;obtain rfl:=zI a8;simp only[SR] at kM;rw[Q68 fm];simp only[SR];obtain⟨i,h1,rfl⟩:=kM;rw[h1];constructor
       .rintro⟨i',h2,h3⟩;rw[h2];simpa using h3.symm
       .intro h2;exact⟨i,h2,rfl⟩
     .cases aP
    obtain⟨C,L,cw,oG,ra,aB,hg⟩:=hb _ _ c v b' dF hc;have hg:=hg [u];let σc:=CA M (pl o);have pD:B.Le σc:=Iy hG.leB mc;have rb:F.Le σc:=Iy hG.le bh;have az:SRs P σc Xd J9 cw us:=by
     refine ra σc us (Wn (own:=oset s.own o .dead) pD (pl:=pl) (tb:=tb) (λd=>?_) ef);rw[Qr];by_cases e:d=o
     .rw[z3 e];trivial
     .rw[z0 e];exact(hG.obj d).mono (.refl _) (λ_ _ h=>h) λhl i hi=>AF λjB=>hG.sep d o i e hl aq hi (H_ jB)
    let je:Nat->Value:=λj=>if j=0 then pl o else poison
    have a_:GRel P σc σc M (U4 nt (lsv (Qe s.own o)) (Qe s.own o) [u] cw) (u::us++List.replicate (nt-(u::us).length) undef) M:=by
     refine⟨σc,σc,je,J9,⟨.refl _,.refl _,λ_ _ _ h=>h,.refl _⟩,.refl _,Q6a _ _,?_,λj=>?_,λj i h1 h2=>?_,λj j' i aw h1 h2 h3 h4=>?_,λ_ _=>rfl⟩
     .simp only[U4,SRs,zV];refine⟨u,_,rfl,(me _ _ _).2 (by simp[je]),?_⟩;rw[az.length,zT];refine SRs.append ?_ (Bg _);exact Zq _ _ oG az
     .simp only[U4,Qe];by_cases e0:j=0
      .subst e0;simp only[Nat.beq_refl,zl];exact ao.retd mQ λi _=>rfl
      .rw[ZP (λe=>e0 e.symm),cond_false];by_cases e1:j=4000000
       .subst e1;simp only[Nat.beq_refl,zl];exact⟨u,[],rfl,(me _ _ _).2 (by simp[je]),rfl⟩
       .rw[ZP (λe=>e1 e.symm),cond_false];trivial
     .simp only[U4,Qe] at h1;by_cases e0:j=0
      .subst e0;exact Q0f (Z1p dM h2)
      .rw[ZP (λe=>e0 e.symm),cond_false] at h1;by_cases e1:j=4000000
       .subst e1;cases h1
       .rw[ZP (λe=>e1 e.symm),cond_false] at h1;cases h1
     .have z:∀ j,(Qe (U4 nt (lsv (Qe s.own o)) (Qe s.own o) [u] cw).own j).live=true->j=0:=λj h1=>by
       simp only[U4,Qe] at h1;by_cases e0:j=0
       .exact e0
       .rw[ZP (λe=>e0 e.symm),cond_false] at h1;by_cases e1:j=4000000
        .subst e1;cases h1
        .rw[ZP (λe=>e1 e.symm),cond_false] at h1;cases h1
      exact aw ((z j h1).trans (z j' h2).symm)
    refine h.calls hm PQ ?_;refine V3 aB vc 0 _ _ _ M none _ trivial a_ hg λe s' ah M' h1 h2=>?_
    have main:(match XJ s' rs,Qe s'.own 4000000 with
     |some r,.stk l vs=>vs=[u]/\UH [(0,some 0)] [lsv (Qe s.own o)] l/\PS [] v r/\Q4p s' [(0,some 0)] 0 b'
     |_,_=>False)->Zo (Je ah M' rs) λv=>∃ v' aE,DropTo M v M' v' aE/\R v' aE:=λh=>by
     obtain⟨B',F',pl',tb',k1,k2⟩:=h2;split at h
     .rename_i r l cL hr gg;obtain⟨rfl,m1,m2,m3⟩:=h;obtain⟨w,h3,h4⟩:=Xb k2 hr;rw[h3];have fC:=k2.obj 4000000;rw[gg] at fC;have mf:pl' 0=pl o:=by
       have:=Zp [lsv (Qe s.own o)] l [u] m1 fC;simp only[SRs] at this;obtain⟨u',_,cg,h5,_⟩:=this;obtain rfl:u=u':=(zP cg).1;have:=(me _ _ _).1 h5;simpa [Mk,QA] using this
      have iN:=(Zl k2 m3).1;have l7:Mk pl' [(0,some 0)] 0=pl o:=by simpa [Mk,QA] using mf
      rw[l7] at iN;have c_:=(KN v r w m2 h4).retd (B':=B) (pl':=pl) (tb':=tb) (n:=0) (λj hj=>by omega) _ _ cF.1;have hle:σc.Le M':=k1.f.trans k2.le;refine⟨w,M',.refl _ _ _,hK v _ B F pl tb w M' hx (.of hG.bf k1.d) ⟨hG.bf,rb.trans hle,hG.env,λd=>?_,λd i q1 q2=>?_,λd d' i aw q1 q2 q3 q4=>?_,hG.free⟩ c_⟩
      .simp only[Qr];by_cases e:d=o
       .subst e;rw[z3 rfl];exact iN.retd cF.2 λ_ _=>rfl
       .rw[z0 e];refine (hG.obj d).mono (.refl _) (λ_ _ h=>h) λhl i hi=>?_;have af:=(hG.obj d).q1a hl hi;cases hg:M.get i with
        |none=>exact k1.d.2 i af hg
        |some bb=>exact hle.2 _ _ (by rw[AF λjB=>hG.sep d o i e hl aq hi (H_ jB)];exact hg)
      .simp only[Qr] at q1;by_cases e:d=o
       .subst e;exact hG.fresh d i aq q2
       .rw[z0 e] at q1;exact hG.fresh d i q1 q2
      .have lv:∀ d,(Qe (oset s.own o b') d).live=true->(Qe s.own d).live=true:=λd h=>by
        rw[Qr] at h;by_cases e:d=o
        .subst e;exact aq
        .rwa [z0 e] at h
       exact hG.sep d d' i aw (lv d q1) (lv d' q2) q3 q4
     .exact h.elim
    cases e with
    |normal=>exact main h1
    |ret=>exact main h1
    |_=>exact h1.elim
   .exact hx.elim
  .exact hx.elim
 .exact hx.elim
mutual
theorem AP.q0n:∀ {D:Type}(p:AP D) (x:D),(AP.can p x).pure=true
 |_,.k k,x=>rfl
 |_,.agg l,x=>by simp only[AP.can,SV.pure];exact AL.q0n l x
 |_,.nilS,x=>rfl
 |_,.any,x=>rfl
 |_,.int k n,x=>rfl
 |_,.ptr l,x=>by simp only[AP.can,SV.pure];exact AL.q0n l x
 |_,.fn ks r,x=>rfl
theorem AL.q0n:∀ {D:Type}(l:AL D) (x:D),SVs.pure (AL.can l x)=true
 |_,.nil,x=>rfl
 |_,.one a,x=>by simp only[AL.can,SVs.pure,AP.q0n a x];rfl
 |_,.cons a r,x=>by simp only[AL.can,SVs.pure,AP.q0n a x.1,AL.q0n r x.2];rfl
end
def Ez (ty:Nat) (k:Kind) {D:Type}(l:AL D) (pre:List k.T->Bool->D->Prop) (res:List k.T->Bool->D->SV) (post:List k.T->Bool->D->List k.T):LSp:=λap b args=>match b with
 |.lst jc _k' xs nl=>if jc=ty then (match MA xs k,AL.dec ap l args with
  |some xs,some d=>some (pre xs nl d,res xs nl d,.lst ty k (post xs nl d) nl)
  |_,_=>none) else none
 |_=>none
theorem Gv {f:Nat}{vc:VCode}{rs:List VResult}{nt:Nat}(h:Fun P f vc rs nt) (hm:P.follows .mixedOrders=true) {ap:Ap}(dz:Q2b P ap) {ty:Nat}{k:Kind}{D:Type}{l:AL D}{pre:List k.T->Bool->D->Prop}{res:List k.T->Bool->D->SV}{post:List k.T->Bool->D->List k.T}
  {C:Cx}(aB:COk P C) {L:List k.T->Bool->D->List Value->List (Nat×LoopAnn)}{V:List k.T->Bool->D->Prop}
  (hq:∀ xs nl d,(∀ vals,gwp C (L xs nl d vals) vc 0 (AY vals rs (res xs nl d) (.lst ty k (post xs nl d) nl) (.lst 0)) (U4 nt (.lst 0) (.lst ty k xs nl) vals (AL.can l d)))=V xs nl d)
  (hb:∀ xs nl d,pre xs nl d->V xs nl d):XOk P f (A4 ap (Ez ty k l pre res post)):=by
 refine Q6y h hm λb args c v b' hs hc=>?_;unfold Ez at hs;split at hs
 .rename_i jc k' xs nl;split at hs
  .rename_i e;subst e;split at hs
   .rename_i ys d h1 h2;obtain⟨rfl,rfl,rfl⟩:=(by simpa using hs:pre ys nl d=c/\res ys nl d=v/\OB.lst jc k (post ys nl d) nl=b');unfold MA at h1;split at h1
    .rename_i e;subst e;obtain rfl:=osj h1;exact⟨C,L xs nl d,AL.can l d,AL.q0n l d,λM vs hv=>AL.q0k dz l h2 hv,aB,(hq xs nl d).mpr (hb xs nl d hc)⟩
    .cases h1
   .cases hs
  .cases hs
 .cases hs
end
end Go.V
namespace Go.V
open Go
abbrev lI {α:Type}(l:List α):Int:=(l.length:Int)
abbrev gD {α:Type}(l:List α) (i:Int) (d:α):α:=l.getD i.toNat d
abbrev sT {α:Type}(l:List α) (i:Int) (x:α):List α:=l.set i.toNat x
abbrev I64 (x:Int):Prop:=InK .i64 x
theorem Qd (x:Int):InK .i64 x<->-9223372036854775808<=x/\x<=9223372036854775807:=by simp[InK,IntKind.min,IntKind.max,IntKind.bits,IntKind.signed]
theorem Z34 (x:Int):InK .u8 x<->0<=x/\x<=255:=by simp[InK,IntKind.min,IntKind.max,IntKind.bits,IntKind.signed]
theorem N9 (x:Int):InK .u64 x<->0<=x/\x<=18446744073709551615:=by simp[InK,IntKind.min,IntKind.max,IntKind.bits,IntKind.signed]
theorem LoopP.count {F:Int->(Int->Prop)->Prop}(n:Nat) (J:Nat->Prop) (h0:J 0) (hr:∀ k:Nat,k<=n->J k->∀ q:Int->Prop,(k<n->J (k+1)->q ((k:Int)+1))->F k q):LoopP F 0:=by refine⟨λd=>∃ k:Nat,d=k/\k<=n/\J k,λd=>n-d.toNat,⟨0,rfl,Nat.zero_le _,h0⟩,λd ⟨k,hd,hk,hJ⟩=>?_⟩;subst hd;refine hr k hk hJ _ λaf rf=>⟨⟨k+1,by simp,af,rf⟩,?_⟩;simp;omega
theorem LoopP.count2 {X:Type}{F:X×Int->(X×Int->Prop)->Prop}(n:Nat) (J:Nat->X->Prop) {x0:X}(h0:J 0 x0) (hr:∀ (k:Nat) (x:X),k<=n->J k x->∀ q:X×Int->Prop,(∀ x',k<n->J (k+1) x'->q (x',(k:Int)+1))->F (x,(k:Int)) q):LoopP F (x0,0):=by refine⟨λd=>∃ k:Nat,d.2=k/\k<=n/\J k d.1,λd=>n-d.2.toNat,⟨0,rfl,Nat.zero_le _,h0⟩,λ⟨x,d⟩ ⟨k,hd,hk,hJ⟩=>?_⟩;simp only at hd hJ;subst hd;refine hr k x hk hJ _ λx' af rf=>⟨⟨k+1,by simp,af,rf⟩,?_⟩;simp;omega
theorem Qc {α:Type}{l:List α}{k:Nat}{d:α}(h:k<l.length):l.getD k d=l[k]:=by simp[z6,z5 h]
theorem WB {α:Type}{l:List α}{k:Nat}(h:k<l.length):l.take (k+1)=l.take k++[l[k]]:=by rw[List.take_succ_eq_append_getElem h]
section
variable {P:Program}
theorem st1 {S:VSpecs}{d:Nat}{op:VOp}{rest:List VOper}{env:Env}{M:Heap}{K:Env->Heap->Prop}{v:Value}(hv:∀ K',vop S op env M K'=Zo (Qa op (Q5 env) M) λp=>K' p.1 p.2) (h:Qa op (Q5 env) M=some (v,M)) (hr:Sq S rest (env.set d v) M K):Sq S (⟨some d,op,none⟩::rest) env M K:=by show Zo (some true) _;refine⟨λ_=>?_,λe=>by cases e⟩;rw[hv,h];exact hr
theorem YlOk.nil:∀ o y,QA ([]:List (Nat×YSp)) o=some y->Q7g P o y:=λo y h=>by cases h
theorem IysOk.nil:∀ f x,QA ([]:List (Nat×Z2m)) f=some x->Z2l P f x:=λf x h=>by cases h
theorem IysOk.cons {f:Nat}{x:Z2m}{l:List (Nat×Z2m)}(h:Z2l P f x) (t:∀ g y,QA l g=some y->Z2l P g y):∀ g y,QA ((f,x)::l) g=some y->Z2l P g y:=λg y hg=>by
 simp only[QA] at hg;cases hb:Nat.beq f g with
 |true=>rw[hb] at hg;obtain rfl:=zI hb;obtain rfl:=osj hg;exact h
 |false=>rw[hb] at hg;exact t g y hg
theorem XsOk.nil:∀ f x,QA ([]:List (Nat×XSp)) f=some x->XOk P f x:=λf x h=>by cases h
theorem XsOk.cons {f:Nat}{x:XSp}{l:List (Nat×XSp)}(h:XOk P f x) (t:∀ g y,QA l g=some y->XOk P g y):∀ g y,QA ((f,x)::l) g=some y->XOk P g y:=λg y hg=>by
 simp only[QA] at hg;cases hb:Nat.beq f g with
 |true=>rw[hb] at hg;obtain rfl:=zI hb;obtain rfl:=osj hg;exact h
 |false=>rw[hb] at hg;exact t g y hg
theorem ItsOk.nil:∀ f x,QA ([]:List (Nat×ISp)) f=some x->Z37 P f x:=λf x h=>by cases h
theorem ItsOk.cons {f:Nat}{x:ISp}{l:List (Nat×ISp)}(h:Z37 P f x) (t:∀ g y,QA l g=some y->Z37 P g y):∀ g y,QA ((f,x)::l) g=some y->Z37 P g y:=λg y hg=>by
 simp only[QA] at hg;cases hb:Nat.beq f g with
 |true=>rw[hb] at hg;obtain rfl:=zI hb;obtain rfl:=osj hg;exact h
 |false=>rw[hb] at hg;exact t g y hg
def Uq:Ap:=λ_ _=>none
theorem X_:Q2b P Uq:=λ_ _ _ _ _ _ _ _ _ h=>by cases h
end
end Go.V
namespace Go.V
open Go
def FH {α:Type}:Nat->α->List α->List α
 |0,x,l=>x::l
 |j+1,x,a::l=>a::FH j x l
 |_+1,x,[]=>[x]
def I8 {α:Type}:Nat->List α->List α
 |0,_::l=>l
 |j+1,a::l=>a::I8 j l
 |_,[]=>[]
def CV (kk vk:Kind):OB->Option (List (kk.T×vk.T))
 |.map jK lR m=>if h:jK=kk/\lR=vk then some (h.1▸h.2▸m) else none
 |_=>none
def Q4j (vals:List Value) (rs:List VResult) (v:SV) (kk vk:Kind) (post:List (kk.T×vk.T)->Prop):Exit->St->Prop:=λe s =>
 let fin:=match XJ s rs,Qe s.own 4000000,CV kk vk (Qe s.own 0) with
  |some r,.stk l vs,some m'=>vs=vals/\UH [(0,some 0)] [.map 0] l/\PS [] v r/\post m'
  |_,_,_=>False
 match e with
 |.normal=>fin
 |.ret=>fin
 |_=>False
section
variable {P:Program}
theorem GJ {kk vk:Kind}{b:OB}{m:List (kk.T×vk.T)}(h:CV kk vk b=some m):b=.map kk vk m:=by
 unfold CV at h;split at h
 .split at h
  .rename_i e;obtain⟨rfl,rfl⟩:=e;obtain rfl:=osj h;rfl
  .cases h
 .cases h
theorem Q1m:∀ (j:Nat) {l:List SV}{c:List Value}{o:Nat}{B:Heap}{pl:Nat->Value}{tb:Nat->Option Bool},l[j]?=some (.map o)->SRs P B pl tb l c ->
  ∃ w,SR P B pl tb (.map o) w/\SRs P B pl tb (I8 j l) (I8 j c)/\∀ (B':Heap) (pl':Nat->Value) (tb':Nat->Option Bool) (l':List SV) (x:SV),SRs P B' pl' tb' l' (I8 j c)->SR P B' pl' tb' x w->SRs P B' pl' tb' (FH j x l') c
 |j,[],c,o,B,pl,tb,h,_=>by simp at h
 |0,a::l,c,o,B,pl,tb,h,hs=>by
  obtain rfl:a=.map o:=by simpa using h
  simp only[SRs] at hs;obtain⟨w,us,rfl,h1,h2⟩:=hs;exact⟨w,h1,h2,λB' pl' tb' l' x h3 h4=>by simp only[FH,SRs];exact⟨w,us,rfl,h4,h3⟩⟩
 |j+1,a::l,c,o,B,pl,tb,h,hs=>by
  simp only[SRs] at hs;obtain⟨u,us,rfl,h1,h2⟩:=hs;obtain⟨w,g1,g2,g3⟩:=Q1m j (by simpa using h) h2;refine⟨w,g1,?_,λB' pl' tb' l' x h3 h4=>?_⟩
  .simp only[I8,SRs];exact⟨u,_,rfl,h1,g2⟩
  .simp only[I8] at h3
   match l',h3 with
   |[],h3=>simp only[SRs] at h3;cases h3
   |y::l',h3 =>simp only[SRs] at h3;obtain⟨u',jb,e,h5,h6⟩:=h3;obtain⟨rfl,rfl⟩:=zP e;simp only[FH,SRs];exact⟨u,us,rfl,h5,g3 B' pl' tb' l' x h6 h4⟩
theorem XfOk.nil {xs:List (Nat×XSp)}:∀ f j,QA ([]:List (Nat×Nat)) f=some j->∀ x,QA xs f=some x->Z4b P f x j:=λf j h=>by cases h
theorem XfOk.cons {xs:List (Nat×XSp)}{g k:Nat}{y:XSp}{l:List (Nat×Nat)}(hy:QA xs g=some y) (h:Z4b P g y k) (t:∀ f j,QA l f=some j->∀ x,QA xs f=some x->Z4b P f x j):∀ f j,QA ((g,k)::l) f=some j->∀ x,QA xs f=some x->Z4b P f x j:=λf j hf x hx=>by
 simp only[QA] at hf;cases hb:Nat.beq g f with
 |true =>rw[hb] at hf;obtain rfl:=zI hb;obtain rfl:=osj hf;obtain rfl:=osj (hy.symm.trans hx);exact h
 |false=>rw[hb] at hf;exact t f j hf x hx
end
end Go.V
namespace Go.V
open Go
abbrev PSp (kk vk:Kind):=Ap->List SV->Option (Prop×List SV×(List (kk.T×vk.T)->Prop))
def Q6u (ap:Ap) (kk vk:Kind) (sp:PSp kk vk):XSp:=λd args s K=>match sp ap (PE s.own args) with
 |some (c,vs,post)=>bif SVs.ret 0 vs then c/\∀ m',post m'->K (.tup (.map d::vs)) (s.make d (.map kk vk m')) else False
 |none=>False
def Kl (nt:Nat) (args:List SV):St:=⟨args++List.replicate (nt-args.length) .any,[],0⟩
def Z0p (rs:List VResult) (kk vk:Kind) (vs:List SV) (post:List (kk.T×vk.T)->Prop):Exit->St->Prop:=λe s =>
 let fin:=match XJ s rs with
  |some (.tup (.map k::r))=>(match CV kk vk (Qe s.own k) with
   |some m'=>UH [] vs r/\post m'
   |none=>False)
  |_=>False
 match e with
 |.normal=>fin
 |.ret=>fin
 |_=>False
section
variable {P:Program}
theorem SRs.retd0 {B B':Heap}{pl pl':Nat->Value}{tb tb':Nat->Option Bool}:∀ (l:List SV) (us:List Value),SVs.ret 0 l=true->SRs P B pl tb l us->SRs P B' pl' tb' l us
 |[],us,_,h=>by simpa [SRs] using h
 |s::l,us,hr,h=>by simp only[SVs.ret,z4] at hr;simp only[SRs] at h |-;obtain⟨u,jb,rfl,h1,h2⟩:=h;exact⟨u,jb,rfl,h1.retd (n:=0) (λj hj=>by omega) _ _ hr.1,SRs.retd0 l jb hr.2 h2⟩
theorem Q6f {f:Nat}{vc:VCode}{rs:List VResult}{nt:Nat}(h:Fun P f vc rs nt) (hm:P.follows .mixedOrders=true) {kk vk:Kind}(bC:(kk.flat&&vk.flat)=true) {sp:PSp kk vk}{ap:Ap}
  (hb:∀ gh c vs post,sp ap gh=some (c,vs,post)->c->∃ (C:Cx) (L:List (Nat×LoopAnn)) (e6:List SV),SVs.pure e6=true/\(∀ M us,SRs P M Xd J9 gh us->SRs P M Xd J9 e6 us)/\COk P C/\gwp C L vc 0 (Z0p rs kk vk vs post) (Kl nt e6)):XOk P f (Q6u ap kk vk sp):=by
 intro B F pl tb s env M d args vals K R hG ha hx hK;unfold Q6u at hx;split at hx
 .rename_i c vs post dF;cases cF:SVs.ret 0 vs with
  |false=>rw[cF] at hx;exact hx.elim
  |true =>
  rw[cF] at hx;obtain⟨hc,hx⟩:=hx;obtain⟨C,L,e6,dj,mg,eZ,hg⟩:=hb _ c vs post dF hc;have az:=mg M vals (Wn (own:=s.own) hG.leB (pl:=pl) (tb:=tb) (λd=>hG.obj d) ha);have a_:GRel P M M M (Kl nt e6) (vals++List.replicate (nt-vals.length) undef) M:=by
   refine⟨M,M,λ_=>poison,J9,⟨.refl _,.refl _,λ_ _ _ h=>h,.refl _⟩,.refl _,.refl _,?_,λk=>?_,λk i' h1 h2=>?_,λk k' i' mh h1 h2 h3 h4=>?_,λ_ _=>rfl⟩
   .simp only[Kl];rw[az.length];exact SRs.append (Zq _ _ dj az) (Bg _)
   .simp only[Kl,Qe];trivial
   .simp only[Kl,Qe] at h1;cases h1
   .simp only[Kl,Qe] at h1;cases h1
  refine h.calls hm PQ ?_;refine V3 eZ vc 0 _ _ _ M none _ trivial a_ hg λe s' ah M' h1 h2=>?_
  have main:(match XJ s' rs with
   |some (.tup (.map k::r))=>(match CV kk vk (Qe s'.own k) with
    |some m'=>UH [] vs r/\post m'
    |none=>False)
   |_=>False)->Zo (Je ah M' rs) λv=>∃ v' aE,DropTo M v M' v' aE/\R v' aE:=λh=>by
   obtain⟨B',F',pl',tb',k1,k2⟩:=h2;split at h
   .rename_i k r hr;split at h
    .rename_i m' lh;obtain⟨g1,g2⟩:=h;have aN:=GJ lh;obtain⟨w,h3,h4⟩:=Xb k2 hr;rw[h3];simp only[SR,SRs] at h4;obtain⟨cs,rfl,mv,ws,rfl,⟨rfl,_⟩,h5⟩:=h4;have c_:=SRs.retd0 (B':=B) (pl':=X8 pl d (pl' k)) (tb':=tb) vs ws cF (Zp vs r ws g1 h5);have ao:=k2.obj k;rw[aN] at ao;have hle:M.Le M':=k1.f.trans k2.le;have mi:OR P B (X8 pl d (pl' k)) tb M' (pl' k) (.map kk vk m'):=ao.retd bC λ_ _=>rfl;have aq:(Qe s'.own k).live=true:=by rw[aN];rfl
     have fy:∀ i,Oid (pl' k) i->M.get i=none:=λi hi=>by
      cases hg:M.get i with
      |none=>rfl
      |some b =>have:=k2.fresh k i aq hi;have h9:=k1.f.2 _ _ hg;rw[this] at h9;cases h9
     have mj:Gam P B F (X8 pl d (pl' k)) tb (s.make d (.map kk vk m')) env M':=by
      refine hG.make d _ (pl' k) (hG.le.trans hle) (λj i _ hl hi=>?_) mi λi _ hi=>⟨?_,λj _ hl hj=>?_⟩
      .cases hg:M.get i with
       |none=>exact k1.d.2 i ((hG.obj j).q1a hl hi) hg
       |some bb=>exact hle.2 _ _ hg
      .cases hg:F.get i with
       |none=>rfl
       |some b=>have:=hG.le.2 _ _ hg;rw[fy i hi] at this;cases this
      .have af:=(hG.obj j).q1a hl hj;have:=k1.d.2 i af (fy i hi);obtain⟨id,es,clock,e1,e2,_⟩:=mi;rw[e1] at hi;obtain rfl:id=i:=osj hi;rw[this] at e2;cases e2
     refine⟨_,M',.refl _ _ _,hK _ _ B F _ tb _ M' (hx m' g2) (.of hG.bf k1.d) mj ?_⟩;obtain⟨id,es,clock,e1,_⟩:=mi;simp only[SR,SRs];exact⟨_,rfl,_,_,rfl,⟨by simp[X8],_,e1⟩,c_⟩
    .exact h.elim
   .exact h.elim
  cases e with
  |normal=>exact main h1
  |ret=>exact main h1
  |_=>exact h1.elim
 .exact hx.elim
def Z2k {kk vk:Kind}{D:Type}(la:AL D) (pre:D->Prop) (res:D->List SV) (post:D->List (kk.T×vk.T)->Prop):PSp kk vk:=λap gh=>match AL.dec ap la gh with
 |some a=>some (pre a,res a,post a)
 |none=>none
theorem Q72 {f:Nat}{vc:VCode}{rs:List VResult}{nt:Nat}(h:Fun P f vc rs nt) (hm:P.follows .mixedOrders=true) {ap:Ap}(dz:Q2b P ap) {kk vk:Kind}(bC:(kk.flat&&vk.flat)=true) {D:Type}{la:AL D}{pre:D->Prop}{res:D->List SV}{post:D->List (kk.T×vk.T)->Prop}
  {C:Cx}(aB:COk P C) {L:D->List (Nat×LoopAnn)}{V:D->Prop}
  (hq:∀ y,gwp C (L y) vc 0 (Z0p rs kk vk (res y) (post y)) (Kl nt (AL.can la y))=V y)
  (hb:∀ y,pre y->V y):XOk P f (Q6u ap kk vk (Z2k la pre res post)):=Q6f h hm bC λgh c vs q hs hc=>by
 unfold Z2k at hs;split at hs
 .rename_i y h2;obtain⟨rfl,rfl,rfl⟩:=(by simpa using hs:pre y=c/\res y=vs/\post y=q);exact⟨C,L y,AL.can la y,AL.q0n la y,λM vs hv=>AL.q0k dz la h2 hv,aB,(hq y).mpr (hb y hc)⟩
 .cases hs
end
end Go.V
namespace Go.V
open Go
def callV (ap:Ap) (sp:CSp):XSp:=λd args s K =>
 let s1:=(⟨s.env++args,s.own,s.nx⟩:St).frzs (HC args);let a1:=s1.env.drop s.env.length
 bif SVs.pure a1 then (match sp ap a1 with
  |some (c,v,bs)=>bif v.ret bs.length&&bs.all OB.isL then c/\K (v.ren d 500000) ((⟨s1.env.take s.env.length,s1.own,s1.nx⟩:St).makes d 500000 0 bs) else False
  |none=>False) else False
def pj4 {A B C D E:Type}(x:A×B×C×D×E):E:=x.2.2.2.2
def pj8 {A B C D A' B' C' D' E:Type}(x:A×B×C×D×A'×B'×C'×D'×E):E:=x.2.2.2.2.2.2.2.2
def X4 {A B C D A' B' C' D' A1 B1 C1 D1 A2 B2 C2 D2 E:Type}(x:A×B×C×D×A'×B'×C'×D'×A1×B1×C1×D1×A2×B2×C2×D2×E):E:=x.2.2.2.2.2.2.2.2.2.2.2.2.2.2.2.2
theorem Q08 {x:Nat}(h:x<9223372036854775808):IntKind.wrap .i64 (x:Int)=x:=by
 have e:((x:Int) % (18446744073709551616:Int))=x:=by omega
 have:¬ ((x:Int)>=9223372036854775808):=by omega
 show (if (true&&decide ((x:Int) % (18446744073709551616:Int)>=9223372036854775808))=true then (x:Int) % (18446744073709551616:Int)-18446744073709551616 else (x:Int) % (18446744073709551616:Int))=x;simp only[e,this,decide_false,Bool.and_false,zy,if_false]
theorem Q7a {x y:Nat}(h:x<9223372036854775808):x &&& y<9223372036854775808:=xL Nat.and_le_left h
theorem Er (x:Nat):BitVec.ofInt 64 (x:Int)=BitVec.ofNat 64 x:=by apply BitVec.eq_of_toNat_eq;simp
theorem toNat_ofInt {x:Nat}(h:x<9223372036854775808):(BitVec.ofInt 64 (x:Int)).toNat=x:=by rw[Er,BitVec.toNat_ofNat,xk (by omega)]
theorem Q7b {x y:Nat}(hx:x<9223372036854775808) (hy:y<9223372036854775808):Qb .and .i64 x y=((x &&& y:Nat):Int):=by
 have e:(BitVec.ofInt 64 (x:Int) &&& BitVec.ofInt 64 (y:Int)).toNat=x &&& y:=by rw[BitVec.toNat_and,toNat_ofInt hx,toNat_ofInt hy]
 show IntKind.wrap .i64 ((BitVec.ofInt 64 (x:Int) &&& BitVec.ofInt 64 (y:Int)).toNat:Int)=_;rw[e,Q08 (Q7a hx)]
theorem Z1v {x i:Nat}(hi:i<=64):Zn .i64 x i=((x >>> i:Nat):Int):=by have:Nat.min i 64=i:=xX hi;simp only[Zn,zh,IntKind.bits,this];rw[xu,Int.fdiv_eq_ediv_of_nonneg _ (Int.le_of_lt (Int.pow_pos (by omega)))];norm_cast
theorem Z1j {x i:Nat}(hi:i<=64):JL .i64 x i=((x <<< i:Nat):Int):=by have:Nat.min i 64=i:=xX hi;simp only[JL,zh,IntKind.bits,this,Nat.shiftLeft_eq];norm_cast
theorem Z1m {x i:Nat}(hx:x<9223372036854775808) (hi:i<=64):(Qb .and .i64 (Zn .i64 x i) 1==1)=x.testBit i:=by have h1:x >>> i<9223372036854775808:=xL (by rw[xu];exact Nat.div_le_self _ _) hx;rw[Z1v hi,show (1:Int)=((1:Nat):Int) from rfl,Q7b h1 (by omega),Nat.testBit];rw[Bool.eq_iff_iff];simp only[zK,bne_iff_ne,ne_eq];rw[Nat.and_comm,Nat.one_and_eq_mod_two];omega
end Go.V
namespace Go.Proofs.Tryz
open Go Go.V Go.Proofs
def inI (n a b:Int):Bool:=decide (a<=n)&&decide (n<=b)
theorem nI (n a b:Int):(!inI n a b)=(decide (n<a)||decide (b<n)):=by simp only[inI,Bool.not_and];by_cases h1:a<=n<;>by_cases h2:n<=b<;>simp[h1,h2]<;>omega
def Q4l {α:Type}(l:List α) (p:α->Bool):Int:=match l.findIdx? p with|some i=>(i:Int)|none=>-1
def Q5c (l:List Int) (p:Int->Bool):Int:=match l.findIdx? p with|some i=>(i:Int)|none=>-1
theorem Q3r {α:Type}{l:List α}{p:α->Bool}{k:Nat}(hk:k<l.length) (h:p l[k]=true) (hJ:(l.take k).any p=false):Q4l l p=k:=by
 have:l.findIdx? p=some k:=by rw[List.findIdx?_eq_some_iff_getElem];refine⟨hk,h,λj hj=>?_⟩;have hn:=xQ.1 hJ l[j] (List.mem_take_iff_getElem.2 ⟨j,by omega,rfl⟩);simpa using hn
 simp[Q4l,this]
theorem AX {α:Type}{l:List α}{p:α->Bool}(hJ:l.any p=false):Q4l l p=-1:=by
 have:l.findIdx? p=none:=by rw[List.findIdx?_eq_none_iff];intro x hx;have:=xQ.1 hJ x hx;simpa using this
 simp[Q4l,this]
theorem Q6p {α:Type}(l:List α) (p:α->Bool):(decide (Q4l l p>=0))=l.any p:=by
 cases h:l.any p with
 |false=>rw[AX h];rfl
 |true =>
  have:(l.findIdx? p).isSome=true:=by rw[List.findIdx?_isSome,h]
  obtain⟨i,hi⟩:=Option.isSome_iff_exists.1 this;have e:Q4l l p=(i:Int):=by simp[Q4l,hi]
  rw[e];exact zX (Int.natCast_nonneg i)
def Sx:Nat->Nat->Nat
 |0,_=>0
 |h+1,n=>2*Sx h n+(n / 2 ^ h) % 2
theorem Q2q:∀ h n,Sx h n<2 ^ h
 |0,_=>by simp[Sx]
 |h+1,n=>by have:=Q2q h n;have h2:(n / 2 ^ h) % 2<2:=w5 _ (by omega);simp only[Sx];rw[Nat.pow_succ];omega
theorem Hs:∀ h n i,(Sx h n).testBit i=(decide (i<h)&&n.testBit (h-1-i))
 |0,n,i=>by simp[Sx]
 |h+1,n,0=>by simp only[Sx];rw[Nat.testBit_zero,Nat.testBit_eq_decide_div_mod_eq];simp
 |h+1,n,i+1=>by have h2:(n / 2 ^ h) % 2<2:=w5 _ (by omega);simp only[Sx];rw[Nat.testBit_succ,show (2*Sx h n+n / 2 ^ h % 2) / 2=Sx h n by omega,Hs h n i];rw[show h+1-1-(i+1)=h-1-i by omega];congr 1;rw[decide_eq_decide];omega
def UR (s m x:Nat):Nat:=((x >>> s) &&& m) ||| ((x &&& m) <<< s)
theorem Q5u (s m x i:Nat):(UR s m x).testBit i=((x.testBit (s+i)&&m.testBit i)||(decide (s<=i)&&(x.testBit (i-s)&&m.testBit (i-s)))):=by unfold UR;rw[Nat.testBit_or,Nat.testBit_and,Nat.testBit_shiftRight,Nat.testBit_shiftLeft,Nat.testBit_and]
def UT (s i:Nat):Nat:=if i / s % 2=0 then i+s else i-s
def Z8v (s m:Nat):Bool:=(List.range 64).all λi=>m.testBit i==(i / s % 2==0)
theorem AH {s m x i:Nat}(hs:s=1\/s=2\/s=4\/s=8\/s=16\/s=32) (hm:Z8v s m=true) (hx:x<2 ^ 64) (hi:i<64):(UR s m x).testBit i=x.testBit (UT s i):=by
 have rh:∀ j,j<64->m.testBit j=(j / s % 2==0):=λj hj=>by have:=z8.1 hm j (zA.2 hj);simpa using this
 have hb:∀ j,64<=j->x.testBit j=false:=λj hj=>Nat.testBit_lt_two_pow (x7 hx (Nat.pow_le_pow_right (by omega) hj));rw[Q5u,rh i hi];unfold UT;by_cases h0:i / s % 2=0
 .rw[z3 h0,h0];simp only[beq_self_eq_true,xW];have hz:(decide (s<=i)&&(x.testBit (i-s)&&m.testBit (i-s)))=false:=by
   by_cases h1:s<=i
   .rw[rh (i-s) (by omega)];have:¬ ((i-s) / s % 2=0):=by rcases hs with rfl|rfl|rfl|rfl|rfl|rfl<;>omega
    simp[this]
   .simp[h1]
  rw[hz,w4,xV]
 .rw[z0 h0];have h1:s<=i:=by rcases hs with rfl|rfl|rfl|rfl|rfl|rfl<;>omega
  have h2:(i-s) / s % 2=0:=by rcases hs with rfl|rfl|rfl|rfl|rfl|rfl<;>omega
  rw[rh (i-s) (by omega),h2];simp[h0,h1]
theorem Mp {s m x:Nat}(hs:s=1\/s=2\/s=4\/s=8\/s=16\/s=32) (hx:x<2 ^ 64) (hm:m<2 ^ (64-s)):UR s m x<2 ^ 64:=by
 unfold UR;refine Nat.or_lt_two_pow ?_ ?_
 .exact xL Nat.and_le_left (xL (by rw[xu];exact Nat.div_le_self _ _) hx)
 .have h1:x &&& m<2 ^ (64-s):=xL Nat.and_le_right hm;rw[Nat.shiftLeft_eq];have h2:2 ^ 64=2 ^ (64-s)*2 ^ s:=by rw[<-Nat.pow_add];congr 1;omega
  rw[h2];exact Nat.mul_lt_mul_of_pos_right h1 (Nat.two_pow_pos s)
def Z4q (x:Nat):Nat:=UR 4 1085102592571150095 (UR 2 3689348814741910323 (UR 1 6148914691236517205 x))
def Q69 (x:Nat):Nat:=(UR 16 281470681808895 (UR 8 71777214294589695 x)) >>> 32 ||| ((UR 16 281470681808895 (UR 8 71777214294589695 x)) <<< 32) % 2 ^ 64
theorem Oe {x i:Nat}(hx:x<2 ^ 64) (hi:i<64):(Z4q x).testBit i=x.testBit (UT 1 (UT 2 (UT 4 i)))/\Z4q x<2 ^ 64:=by
 have b1:UR 1 6148914691236517205 x<2 ^ 64:=Mp (.inl rfl) hx (by decide);have b2:UR 2 3689348814741910323 (UR 1 6148914691236517205 x)<2 ^ 64:=Mp (.inr (.inl rfl)) b1 (by decide);have b3:=Mp (s:=4) (m:=1085102592571150095) (by omega) b2 (by decide);refine⟨?_,b3⟩;unfold Z4q;have e4:UT 4 i<64:=by unfold UT;split<;>omega
 have e2:UT 2 (UT 4 i)<64:=by generalize UT 4 i=j at e4;unfold UT;split<;>omega
 rw[AH (by omega) (by decide) b2 hi,AH (by omega) (by decide) b1 e4,AH (by omega) (by decide) hx e2]
theorem Q77 {x i:Nat}(hx:x<2 ^ 64) (hi:i<64):(Q69 x).testBit i=x.testBit (UT 8 (UT 16 (UT 32 i))):=by
 have b1:UR 8 71777214294589695 x<2 ^ 64:=Mp (by omega) hx (by decide);have b2:UR 16 281470681808895 (UR 8 71777214294589695 x)<2 ^ 64:=Mp (by omega) b1 (by decide);have uN:(Q69 x).testBit i=(UR 16 281470681808895 (UR 8 71777214294589695 x)).testBit (UT 32 i):=by
  unfold Q69;generalize UR 16 281470681808895 (UR 8 71777214294589695 x)=y at b2;rw[Nat.testBit_or,Nat.testBit_shiftRight,Nat.testBit_mod_two_pow,Nat.testBit_shiftLeft];unfold UT;by_cases h:i / 32 % 2=0
  .rw[z3 h,xV];have:¬ 32<=i:=by omega
   simp[this]
  .rw[z0 h];have h1:32<=i:=by omega
   have h2:y.testBit (32+i)=false:=Nat.testBit_lt_two_pow (x7 b2 (Nat.pow_le_pow_right (by omega) (by omega)));rw[h2];simp[h1,hi]
 have pE:UT 32 i<64:=by unfold UT;split<;>omega
 have ri:UT 16 (UT 32 i)<64:=by generalize UT 32 i=j at pE;unfold UT;split<;>omega
 rw[uN,AH (by omega) (by decide) b1 pE,AH (by omega) (by decide) hx ri]
theorem Z0i {x:Nat}(hx:x<2 ^ 64):Q69 x<2 ^ 64:=by unfold Q69;have b1:UR 8 71777214294589695 x<2 ^ 64:=Mp (by omega) hx (by decide);have b2:UR 16 281470681808895 (UR 8 71777214294589695 x)<2 ^ 64:=Mp (by omega) b1 (by decide);refine Nat.or_lt_two_pow (xL (by rw[xu];exact Nat.div_le_self _ _) b2) (w5 _ (by decide))
theorem Z27:∀ i,i<64->UT 1 (UT 2 (UT 4 (UT 8 (UT 16 (UT 32 i)))))=63-i:=by decide
theorem Z9a {x:Nat}(hx:x<2 ^ 64):Q69 (Z4q x)=Sx 64 x:=by
 refine Nat.eq_of_testBit_eq λi=>?_;have h8:=(Oe (i:=0) hx (by omega)).2;rw[Hs];by_cases hi:i<64
 .rw[Q77 h8 hi];have pE:UT 32 i<64:=by unfold UT;split<;>omega
  have ri:UT 16 (UT 32 i)<64:=by generalize UT 32 i=j at pE;unfold UT;split<;>omega
  have e8:UT 8 (UT 16 (UT 32 i))<64:=by generalize UT 16 (UT 32 i)=j at ri;unfold UT;split<;>omega
  rw[(Oe hx e8).1,Z27 i hi];simp[hi]
 .rw[Nat.testBit_lt_two_pow (x7 (Z0i h8) (Nat.pow_le_pow_right (by omega) (by omega)))];simp[hi]
theorem Q10 {f n:Nat}(hf:f<=64) (hn:n<2 ^ f):Sx 64 n >>> (64-f)=Sx f n:=by
 refine Nat.eq_of_testBit_eq λi=>?_;rw[Nat.testBit_shiftRight,Hs,Hs];by_cases hi:i<f
 .rw[zX hi,zX (show 64-f+i<64 by omega),Bool.true_and,Bool.true_and];congr 1;omega
 .rw[xw hi,xw (show ¬ 64-f+i<64 by omega)];rfl
theorem Q5y {x:Nat}(hx:x<2 ^ 64):(BitVec.ofInt 64 (x:Int)).toNat=x:=by rw[Er,BitVec.toNat_ofNat,xk hx]
theorem Z1e (x:Nat):IntKind.wrap .u64 (x:Int)=((x % 2 ^ 64:Nat):Int):=by show (x:Int) % 18446744073709551616=_;omega
theorem J0k {a b:Nat}(ha:a<2 ^ 64) (hb:b<2 ^ 64):Qb .and .u64 (a:Int) (b:Int)=((a &&& b:Nat):Int):=by
 have e:(BitVec.ofInt 64 (a:Int) &&& BitVec.ofInt 64 (b:Int)).toNat=a &&& b:=by rw[BitVec.toNat_and,Q5y ha,Q5y hb]
 show IntKind.wrap .u64 ((BitVec.ofInt 64 (a:Int) &&& BitVec.ofInt 64 (b:Int)).toNat:Int)=_;rw[e,Z1e,xk (xL Nat.and_le_left ha)]
theorem orU {a b:Nat}(ha:a<2 ^ 64) (hb:b<2 ^ 64):Qb .or .u64 (a:Int) (b:Int)=((a ||| b:Nat):Int):=by
 have e:(BitVec.ofInt 64 (a:Int) ||| BitVec.ofInt 64 (b:Int)).toNat=a ||| b:=by rw[BitVec.toNat_or,Q5y ha,Q5y hb]
 show IntKind.wrap .u64 ((BitVec.ofInt 64 (a:Int) ||| BitVec.ofInt 64 (b:Int)).toNat:Int)=_;rw[e,Z1e,xk (Nat.or_lt_two_pow ha hb)]
theorem Z7j {x i:Nat}(hi:i<=64):Zn .u64 (x:Int) (i:Int)=((x >>> i:Nat):Int):=by have:Nat.min i 64=i:=xX hi;simp only[Zn,zh,IntKind.bits,this];rw[xu,Int.fdiv_eq_ediv_of_nonneg _ (Int.le_of_lt (Int.pow_pos (by omega)))];norm_cast
theorem J0l {x i:Nat}(hi:i<=64):JL .u64 (x:Int) (i:Int)=((x <<< i:Nat):Int):=by have:Nat.min i 64=i:=xX hi;simp only[JL,zh,IntKind.bits,this,Nat.shiftLeft_eq];norm_cast
theorem Z3x {s m x:Nat}(hs:s=1\/s=2\/s=4\/s=8\/s=16\/s=32) (hx:x<2 ^ 64) (hm:m<2 ^ (64-s)) :
  Qb .or .u64 (Qb .and .u64 (Zn .u64 (x:Int) (s:Int)) (m:Int)) (JL .u64 (Qb .and .u64 (x:Int) (m:Int)) (s:Int))=((UR s m x:Nat):Int)/\InK .u64 (JL .u64 (Qb .and .u64 (x:Int) (m:Int)) (s:Int))/\UR s m x<2 ^ 64:=by
 have oH:m<2 ^ 64:=x7 hm (Nat.pow_le_pow_right (by omega) (by omega));have bz:x >>> s<2 ^ 64:=xL (by rw[xu];exact Nat.div_le_self _ _) hx;have hl:(x &&& m) <<< s<2 ^ 64:=by
  have h1:x &&& m<2 ^ (64-s):=xL Nat.and_le_right hm;rw[Nat.shiftLeft_eq];have h2:2 ^ 64=2 ^ (64-s)*2 ^ s:=by rw[<-Nat.pow_add];congr 1;omega
  rw[h2];exact Nat.mul_lt_mul_of_pos_right h1 (Nat.two_pow_pos s)
 rw[Z7j (by omega),J0k bz oH,J0k hx oH,J0l (by omega),orU (xL Nat.and_le_left bz) hl];refine⟨rfl,?_,Mp hs hx hm⟩;rw[N9];generalize (x &&& m) <<< s=z at hl;omega
theorem sw1 {x:Nat}(hx:x<2 ^ 64):Qb .or .u64 (Qb .and .u64 (Zn .u64 (x:Int) 1) 6148914691236517205) (JL .u64 (Qb .and .u64 (x:Int) 6148914691236517205) 1)=((UR 1 6148914691236517205 x:Nat):Int)/\InK .u64 (JL .u64 (Qb .and .u64 (x:Int) 6148914691236517205) 1)/\UR 1 6148914691236517205 x<2 ^ 64:=Z3x (s:=1) (m:=6148914691236517205) (by omega) hx (by decide)
theorem sw2 {x:Nat}(hx:x<2 ^ 64):Qb .or .u64 (Qb .and .u64 (Zn .u64 (x:Int) 2) 3689348814741910323) (JL .u64 (Qb .and .u64 (x:Int) 3689348814741910323) 2)=((UR 2 3689348814741910323 x:Nat):Int)/\InK .u64 (JL .u64 (Qb .and .u64 (x:Int) 3689348814741910323) 2)/\UR 2 3689348814741910323 x<2 ^ 64:=Z3x (s:=2) (m:=3689348814741910323) (by omega) hx (by decide)
theorem sw4 {x:Nat}(hx:x<2 ^ 64):Qb .or .u64 (Qb .and .u64 (Zn .u64 (x:Int) 4) 1085102592571150095) (JL .u64 (Qb .and .u64 (x:Int) 1085102592571150095) 4)=((UR 4 1085102592571150095 x:Nat):Int)/\InK .u64 (JL .u64 (Qb .and .u64 (x:Int) 1085102592571150095) 4)/\UR 4 1085102592571150095 x<2 ^ 64:=Z3x (s:=4) (m:=1085102592571150095) (by omega) hx (by decide)
theorem sw8 {x:Nat}(hx:x<2 ^ 64):Qb .or .u64 (Qb .and .u64 (Zn .u64 (x:Int) 8) 71777214294589695) (JL .u64 (Qb .and .u64 (x:Int) 71777214294589695) 8)=((UR 8 71777214294589695 x:Nat):Int)/\InK .u64 (JL .u64 (Qb .and .u64 (x:Int) 71777214294589695) 8)/\UR 8 71777214294589695 x<2 ^ 64:=Z3x (s:=8) (m:=71777214294589695) (by omega) hx (by decide)
theorem J12 {x:Nat}(hx:x<2 ^ 64):Qb .or .u64 (Qb .and .u64 (Zn .u64 (x:Int) 16) 281470681808895) (JL .u64 (Qb .and .u64 (x:Int) 281470681808895) 16)=((UR 16 281470681808895 x:Nat):Int)/\InK .u64 (JL .u64 (Qb .and .u64 (x:Int) 281470681808895) 16)/\UR 16 281470681808895 x<2 ^ 64:=Z3x (s:=16) (m:=281470681808895) (by omega) hx (by decide)
theorem J0w {x:Nat}(hx:x<2 ^ 64):Qb .or .u64 (Zn .u64 (x:Int) 32) (IntKind.wrap .u64 (JL .u64 (x:Int) 32))=((x >>> 32 ||| (x <<< 32) % 2 ^ 64:Nat):Int):=by have h1:Zn .u64 (x:Int) 32=((x >>> 32:Nat):Int):=Z7j (i:=32) (by omega);have h2:JL .u64 (x:Int) 32=((x <<< 32:Nat):Int):=J0l (i:=32) (by omega);rw[h1,h2,Z1e,orU (xL (by rw[xu];exact Nat.div_le_self _ _) hx) (w5 _ (by decide))]
abbrev Ka:=Int×Int×Bool
def Vx:Ka:=(0,(0,false))
def QL (hk:Int) (c:Ka):Bool:=inI c.1 (-1) 59&&inI c.2.1 0 (2 ^ hk.toNat-1)
def Qg (hk:Int) (cs:List Ka):Int:=if !inI hk 1 24 then 3 else if 60<cs.length then 5 else if cs=[]\/(cs.any λc=>!QL hk c)=true then 2 else 0
def Z2n (f row:Int):Int:=((Sx f.toNat row.toNat:Nat):Int)
def DM (hk:Int) (c:Ka):Int:=if c.2.2 then Z2n hk c.2.1 else c.2.1
theorem IM {n a b:Int}(h:(!inI n a b)=false):a<=n/\n<=b:=by unfold inI at h;simp at h;omega
theorem Z6q {k:Nat}(h:k<=62):JL .i64 1 (k:Int)=((2 ^ k:Nat):Int):=by have:=Z1j (x:=1) (i:=k) (by omega);rw[Nat.shiftLeft_eq,xR] at this;exact this
theorem Te (k:Nat):(2:Int) ^ k=((2 ^ k:Nat):Int):=by simp
theorem Q6o {k:Nat}(h:k<=24):0<2 ^ k/\2 ^ k<=16777216:=⟨Nat.two_pow_pos k,Nat.pow_le_pow_right (n:=2) (by omega) h⟩
theorem Z7s {k:Nat}(h:k<=62):0<2 ^ k/\2 ^ k<=4611686018427387904:=⟨Nat.two_pow_pos k,Nat.pow_le_pow_right (n:=2) (by omega) h⟩
theorem Lq {f:Int}{c:Ka}(h:QL f c=true):0<=c.2.1/\c.2.1<2 ^ f.toNat:=by unfold QL inI at h;simp only[z4,zn] at h;omega
theorem C7 {hk:Int}{cs:List Ka}(h1:(!inI hk 1 24)=false) (h2:cs.length<=60) (h3:(!(!cs.isEmpty&&!(cs.any λc=>!QL hk c)))=true):Qg hk cs=2:=by unfold Qg;rw[z0 (by rw[h1];decide),z0 (by omega),z3];simp only[Bool.not_and,Bool.not_not,zx,List.isEmpty_iff] at h3;exact h3
theorem EM {hk:Int}{cs:List Ka}(h1:(!inI hk 1 24)=false) (h2:cs.length<=60) (h3:(!(!cs.isEmpty&&!(cs.any λc=>!QL hk c)))=false):Qg hk cs=0/\cs≠[]/\∀ c∈cs,QL hk c=true:=by
 simp only[Bool.not_and,Bool.not_not,Bool.or_eq_false_iff] at h3;have aw:cs≠[]:=λe=>by rw[e] at h3;cases h3.1
 refine⟨?_,aw,λc hc=>?_⟩
 .unfold Qg;rw[z0 (by rw[h1];decide),z0 (by omega),z0];rintro (h|h)
  .exact aw h
  .rw[h3.2] at h;cases h
 .have:=xQ.1 h3.2 c hc;simpa using this
theorem KU {hk:Int}{cs:List Ka}(h:Qg hk cs=0):(1<=hk/\hk<=24)/\cs.length<=60/\cs≠[]/\∀ c∈cs,QL hk c=true:=by
 unfold Qg at h;split at h
 .cases h
 .rename_i h1;have h1:(!inI hk 1 24)=false:=by simpa using h1
  split at h
  .cases h
  .split at h
   .cases h
   .rename_i h2 h3;refine⟨IM h1,by omega,λe=>h3 (.inl e),λc hc=>?_⟩;cases al:QL hk c with
    |true=>rfl
    |false=>exact(h3 (.inr (xF.2 ⟨c,hc,by rw[al];rfl⟩))).elim
def OC (f n:Nat):Nat->Nat
 |0=>0
 |k+1=>if n.testBit (f-1-k)=true then OC f n k+2 ^ k else OC f n k
theorem R5 (f n k:Nat):OC f n (k+1)=if n.testBit (f-1-k)=true then OC f n k+2 ^ k else OC f n k:=rfl
theorem Fw (f n:Nat):∀ k,OC f n k<2 ^ k
 |0=>by simp[OC]
 |k+1=>by have:=Fw f n k;rw[R5,Nat.pow_succ];split<;>omega
theorem IA (f n:Nat):∀ k i,(OC f n k).testBit i=(decide (i<k)&&n.testBit (f-1-i))
 |0,i=>by simp[OC]
 |k+1,i=>by
  have ih:=IA f n k;have hl:=Fw f n k;rw[R5];by_cases hb:n.testBit (f-1-k)=true
  .have ho:=Nat.two_pow_add_eq_or_of_lt hl 1;rw[Nat.mul_one] at ho;rw[z3 hb,xV,ho,Nat.testBit_or,Nat.testBit_two_pow,ih];by_cases e:i=k
   .subst e;simp[hb]
   .have e2:decide (k=i)=false:=xw (by omega);have e3:decide (i<k+1)=decide (i<k):=by rw[decide_eq_decide];omega
    rw[e2,e3,Bool.false_or]
  .rw[z0 hb,ih];by_cases e:i=k
   .subst e;have:n.testBit (f-1-i)=false:=by simpa using hb
    rw[this];simp
   .have e3:decide (i<k+1)=decide (i<k):=by rw[decide_eq_decide];omega
    rw[e3]
theorem Q5w (f n:Nat):OC f n f=Sx f n:=by refine Nat.eq_of_testBit_eq λi=>?_;rw[IA,Hs]
def Xt:AL (List Int×((Int->Prop)×(Int->Bool))):=(.cons (.k (.list (.i .i64))) (.one (.fn [(.i .i64)] .bo)))
def Kv (d:List Int×((Int->Prop)×(Int->Bool))):Prop:=d.1.length<=1000000/\∀ x∈d.1,d.2.1 x
def Xr (d:List Int×((Int->Prop)×(Int->Bool))):SV:=.val (.i .i64) (Q5c d.1 d.2.2)
def Xp (d:List Int×((Int->Prop)×(Int->Bool))):List OB:=[]
def Jc:CSp:=Ko Xt Kv Xr Xp
def Zj (l:List Int) (p:(Int->Prop)×(Int->Bool)):Prop :=
 ∃ (e2:Unit) (d20:Int),((l=l/\(SV.pf [(.i .i64)] .bo p.1 p.2=SV.pf [(.i .i64)] .bo p.1 p.2)/\(lI l)=(lI l)/\(0:Int)=d20/\True)/\(True)) /\
 LoopP (λ(d2:Int) (q2:(Int)->Prop) =>
  ((decide (d2<(lI l)))=true ->
   (0<=d2)/\(d2<(List.length l))/\(p.1 (gD l d2 0))/\((p.2 (gD l d2 0))=true ->
    (d2=(Q5c l p.2)/\(True))) /\
   ((p.2 (gD l d2 0))=false ->
    (I64 (d2+(1:Int)))/\(∃ d3:Int,((l=l/\(SV.pf [(.i .i64)] .bo p.1 p.2=SV.pf [(.i .i64)] .bo p.1 p.2)/\(lI l)=(lI l)/\(d2+(1:Int))=d3/\True)/\(True))/\q2 d3))) /\
  ((decide (d2<(lI l)))=false ->
   ((-1:Int)=(Q5c l p.2)/\(True)))) d20
def Xw:Cx:=⟨[],[],19,[],0,[],[],[],[],false,[],[],[],[]⟩
def V7 (l:List Int) (p:(Int->Prop)×(Int->Bool)):List (Nat×LoopAnn):=[(0,⟨Unit,Int,[0,1,7,8],λe x=>[.val (.list (.i .i64)) l,.pf [(.i .i64)] .bo p.1 p.2,.val (.i .i64) (((List.length l):Nat):Int),.val (.i .i64) x],λe x=>[]⟩)]
theorem KX (d:List Int×((Int->Prop)×(Int->Bool))):gwp (Xw) (V7 d.1 d.2) Z6y 0 (KQ [.tmp 4] (Xr d) (Xp d)) (QI 19 (AL.can Xt d))=Zj d.1 d.2:=by kernel_rfl
abbrev V0:Prop:=OkC Tryz.prog 142 Jc
theorem Vy (h:∀ (l:List Int) (p:(Int->Prop)×(Int->Bool)),(l.length<=1000000/\∀ x∈l,p.1 x)->Zj l p):OkC Tryz.prog 142 Jc :=
 QT Q54 mixed (C:=Xw) (V:=λ(d:List Int×((Int->Prop)×(Int->Bool)))=>Zj d.1 d.2) ⟨.nil,XsOk.nil,ItsOk.nil,YlOk.nil,IysOk.nil,XfOk.nil⟩ (KX) λd hp=>h d.1 d.2 hp
theorem Q47 {l:List Int}{p:Int->Bool}{k:Nat}(hk:k<l.length) (h:p l[k]=true) (hJ:(l.take k).any p=false):Q5c l p=k:=by
 have:l.findIdx? p=some k:=by rw[List.findIdx?_eq_some_iff_getElem];refine⟨hk,h,λj hj=>?_⟩;have hn:=xQ.1 hJ l[j] (List.mem_take_iff_getElem.2 ⟨j,by omega,rfl⟩);simpa using hn
 simp[Q5c,this]
theorem Q1i {l:List Int}{p:Int->Bool}(hJ:l.any p=false):Q5c l p=-1:=by
 have:l.findIdx? p=none:=by rw[List.findIdx?_eq_none_iff];intro x hx;have:=xQ.1 hJ x hx;simpa using this
 simp[Q5c,this]
theorem FM (l:List Int) (p:Int->Bool):decide (Q5c l p>=0)=l.any p:=by
 unfold Q5c;cases h:l.findIdx? p with
 |none =>
  have:=List.findIdx?_eq_none_iff.1 h;have:l.any p=false:=by rw[xQ];intro x hx;simp[this x hx]
  rw[this];rfl
 |some i =>obtain⟨h1,h2,_⟩:=List.findIdx?_eq_some_iff_getElem.1 h;rw[xF.2 ⟨l[i],zu h1,h2⟩];simp
theorem VA:V0:=Vy λl p hp=>by
 unfold Zj;(try delta lI gD sT I64 X4 pj8 pj4);simp only[true_and,and_true,eq_self_iff_true,exists_eq_left',exists_const,zn,xn,zK,bne_iff_ne,ne_eq,xq,bne_eq_false_iff_eq,Bool.not_eq_true',xm,xO,we,zh,Int.ofNat_lt,gt_iff_lt,ge_iff_le];refine LoopP.count l.length (λk=>(l.take k).any p.2=false) (by simp) λk bc hJ q hq=>?_;simp only[true_and,and_true,eq_self_iff_true,exists_eq_left',exists_const,zn,xn,zK,bne_iff_ne,ne_eq,xq,bne_eq_false_iff_eq,Bool.not_eq_true',xm,xO,we,zh,Int.ofNat_lt,gt_iff_lt,ge_iff_le,Qd];refine⟨λaf=>?_,λbB=>?_⟩
 .rw[Qc af];refine⟨by omega,af,hp.2 _ (zu af),λhx=>?_,λhx=>⟨by omega,hq af ?_⟩⟩
  .rw[Q47 af hx hJ]
  .rw[WB af,List.any_append,hJ];simp[hx]
 .rw[zM (by omega)] at hJ;rw[Q1i hJ]
def JQ:AL (List Int×((Int->Prop)×(Int->Bool))):=(.cons (.k (.list (.i .i64))) (.one (.fn [(.i .i64)] .bo)))
def YM (d:List Int×((Int->Prop)×(Int->Bool))):Prop:=d.1.length<=1000000/\∀ x∈d.1,d.2.1 x
def JC (d:List Int×((Int->Prop)×(Int->Bool))):SV:=.val .bo (d.1.any d.2.2)
def JF (d:List Int×((Int->Prop)×(Int->Bool))):List OB:=[]
def Z0:CSp:=Ko JQ YM JC JF
def Zv (l:List Int) (p:(Int->Prop)×(Int->Bool)):Prop :=
 (l.length<=1000000/\∀ x∈l,(λ(x1:Int)=>p.1 x1) x)/\((decide ((Q5c l (λ(x1:Int)=>(p.2 x1)))>=(0:Int)))=(l.any p.2)/\(True))
def JR:Cx:=⟨[],[(142,Jc)],9,[],0,[],[],[],[],false,[],[],[],[]⟩
def YZ (l:List Int) (p:(Int->Prop)×(Int->Bool)):List (Nat×LoopAnn):=[]
theorem K2 (d:List Int×((Int->Prop)×(Int->Bool))):gwp (JR) (YZ d.1 d.2) Z7b 0 (KQ [.tmp 4] (JC d) (JF d)) (QI 9 (AL.can JQ d))=Zv d.1 d.2:=by kernel_rfl
abbrev K6:Prop:=OkC Tryz.prog 113 Z0
theorem Y_ (h:∀ (l:List Int) (p:(Int->Prop)×(Int->Bool)),(l.length<=1000000/\∀ x∈l,p.1 x)->Zv l p):OkC Tryz.prog 113 Z0 :=
 QT Q2h mixed (C:=JR) (V:=λ(d:List Int×((Int->Prop)×(Int->Bool)))=>Zv d.1 d.2) ⟨(.cons VA .nil),XsOk.nil,ItsOk.nil,YlOk.nil,IysOk.nil,XfOk.nil⟩ (K2) λd hp=>h d.1 d.2 hp
theorem JS:K6:=Y_ λl p hp=>by exact⟨hp,FM l p.2,trivial⟩
def Ul:AL (Int×Int×Int):=(.cons (.k (.i .i64)) (.cons (.ptr (.one (.k (.i .i64)))) (.one (.ptr (.one (.k (.i .i64)))))))
def BK (d:Int×Int×Int):Prop:=True
def VN (d:Int×Int×Int):SV:=.val .bo (decide (d.1<d.2.1)||decide (d.2.2<d.1))
def VH (d:Int×Int×Int):List OB:=[]
def Kd:CSp:=Ko Ul BK VN VH
def XO (n:Int) (a:Int) (b:Int):Prop :=
 (((decide (n<a))||(decide (n > b)))=(decide (n<a)||decide (b<n))/\(True))
def UM:Cx:=⟨[],[],13,[],0,[],[],[],[],false,[],[],[],[]⟩
def HJ (n:Int) (a:Int) (b:Int):List (Nat×LoopAnn):=[]
theorem HM (d:Int×Int×Int):gwp (UM) (HJ d.1 d.2.1 d.2.2) Z79 0 (KQ [.tmp 4] (VN d) (VH d)) (QI 13 (AL.can Ul d))=XO d.1 d.2.1 d.2.2:=by kernel_rfl
abbrev HT:Prop:=OkC Tryz.prog 125 Kd
theorem P3 (h:∀ (n:Int) (a:Int) (b:Int),(True)->XO n a b):OkC Tryz.prog 125 Kd :=
 QT Q2i mixed (C:=UM) (V:=λ(d:Int×Int×Int)=>XO d.1 d.2.1 d.2.2) ⟨.nil,XsOk.nil,ItsOk.nil,YlOk.nil,IysOk.nil,XfOk.nil⟩ (HM) λd hp=>h d.1 d.2.1 d.2.2 hp
theorem HS:HT:=P3 λn a b _=>by unfold XO;(try delta lI gD sT I64 X4 pj8 pj4);exact(by and_intros<;>first|rfl|trivial|simp)
def MQ:AL (Int×Int×List Int):=(.cons (.k (.i .i64)) (.cons (.k (.i .i64)) (.one (.k (.list (.i .i64))))))
def Pz (d:Int×Int×List Int):Prop:=d.2.2.length<=1000000
def NG (d:Int×Int×List Int):SV:=.val .bo (!(d.2.2.any λn=>decide (n<d.1)||decide (d.2.1<n)))
def NC (d:Int×Int×List Int):List OB:=[]
def Xa:CSp:=Ko MQ Pz NG NC
def WW (a:Int) (b:Int) (l:List Int):Prop :=
 (l.length<=1000000/\∀ x∈l,(λ(x1:Int)=>True) x)/\((!(l.any (λ(x1:Int)=>(decide (x1<a)||decide (b<x1)))))=(!(l.any λn=>decide (n<a)||decide (b<n)))/\(True))
def My:Cx:=⟨[],[(113,Z0),(125,Kd)],11,[],0,[],[],[],[],false,[],[],[],[]⟩
def TI (a:Int) (b:Int) (l:List Int):List (Nat×LoopAnn):=[]
theorem TY (d:Int×Int×List Int):gwp (My) (TI d.1 d.2.1 d.2.2) c88 0 (KQ [.tmp 6] (NG d) (NC d)) (QI 11 (AL.can MQ d))=WW d.1 d.2.1 d.2.2:=by kernel_rfl
abbrev RH:Prop:=OkC Tryz.prog 88 Xa
theorem Rj (h:∀ (a:Int) (b:Int) (l:List Int),(l.length<=1000000)->WW a b l):OkC Tryz.prog 88 Xa :=
 QT Z1c mixed (C:=My) (V:=λ(d:Int×Int×List Int)=>WW d.1 d.2.1 d.2.2) ⟨(.cons JS (.cons HS .nil)),XsOk.nil,ItsOk.nil,YlOk.nil,IysOk.nil,XfOk.nil⟩ (TY) λd hp=>h d.1 d.2.1 d.2.2 hp
theorem Y3:RH:=Rj λa b l h=>by unfold WW;(try delta lI gD sT I64 X4 pj8 pj4);exact⟨⟨h,λ_ _=>trivial⟩,rfl,trivial⟩
def Yt:AL (Int):=(.one (.k (.i .i64)))
def UX (d:Int):Prop:=True
def WH (d:Int):SV:=.val .bo (inI d 1 24)
def Y5 (d:Int):List OB:=[]
def Z9:CSp:=Ko Yt UX WH Y5
def ZY (f:Int):Prop :=
 ([f].length<=1000000)/\((!([f].any λn=>decide (n<(1:Int))||decide ((24:Int)<n)))=(inI f 1 24)/\(True))
def Yu:Cx:=⟨[(3,(.i .i64))],[(88,Xa)],6,[],0,[],[],[],[],false,[],[],[],[]⟩
def NR (f:Int):List (Nat×LoopAnn):=[]
theorem Mb (d:Int):gwp (Yu) (NR d) c87 0 (KQ [.tmp 2] (WH d) (Y5 d)) (QI 6 (AL.can Yt d))=ZY d:=by kernel_rfl
abbrev Mh:Prop:=OkC Tryz.prog 87 Z9
theorem NV (h:∀ (f:Int),(True)->ZY f):OkC Tryz.prog 87 Z9 :=
 QT Z0w mixed (C:=Yu) (V:=λ(d:Int)=>ZY d) ⟨(.cons Y3 .nil),XsOk.nil,ItsOk.nil,YlOk.nil,IysOk.nil,XfOk.nil⟩ (Mb) λd hp=>h d hp
theorem Z_:Mh:=NV λf _=>by unfold ZY;(try delta lI gD sT I64 X4 pj8 pj4);have e:∀ n a b:Int,(decide (n<a)||decide (b<n))=!inI n a b:=λn a b=>(nI n a b).symm;simp only[List.any_cons,List.any_nil,w4,e,Bool.not_not,zT,List.length_nil];exact⟨by omega,(by and_intros<;>first|rfl|trivial|simp)⟩
def Yk:AL (Int×List Int):=(.cons (.k (.i .i64)) (.one (.k (.list (.i .i64)))))
def Nj (d:Int×List Int):Prop:=1<=d.1/\d.1<=24/\d.2.length<=1000000
def Y9 (d:Int×List Int):SV:=.val .bo (!(d.2.any λn=>!inI n 0 (2 ^ d.1.toNat-1)))
def WX (d:Int×List Int):List OB:=[]
def Jj:CSp:=Ko Yk Nj Y9 WX
def ZW (f:Int) (l:List Int):Prop :=
 (0<=f)/\(I64 (JL .i64 (1:Int) f))/\(I64 ((JL .i64 (1:Int) f)-(1:Int)))/\(l.length<=1000000)/\((!(l.any λn=>decide (n<(0:Int))||decide (((JL .i64 (1:Int) f)-(1:Int))<n)))=(!(l.any λn=>!inI n 0 (2 ^ f.toNat-1)))/\(True))
def Yr:Cx:=⟨[],[(88,Xa)],10,[],0,[],[],[],[],false,[],[],[],[]⟩
def Mj (f:Int) (l:List Int):List (Nat×LoopAnn):=[]
theorem NX (d:Int×List Int):gwp (Yr) (Mj d.1 d.2) Z6o 0 (KQ [.tmp 4] (Y9 d) (WX d)) (QI 10 (AL.can Yk d))=ZW d.1 d.2:=by kernel_rfl
abbrev NW:Prop:=OkC Tryz.prog 102 Jj
theorem M8 (h:∀ (f:Int) (l:List Int),(1<=f/\f<=24/\l.length<=1000000)->ZW f l):OkC Tryz.prog 102 Jj :=
 QT Q33 mixed (C:=Yr) (V:=λ(d:Int×List Int)=>ZW d.1 d.2) ⟨(.cons Y3 .nil),XsOk.nil,ItsOk.nil,YlOk.nil,IysOk.nil,XfOk.nil⟩ (NX) λd hp=>h d.1 d.2 hp
theorem Yd:NW:=M8 λf l h=>by obtain⟨h1,h2,h3⟩:=h;unfold ZW;(try delta lI gD sT I64 X4 pj8 pj4);have e:∀ n a b:Int,(decide (n<a)||decide (b<n))=!inI n a b:=λn a b=>(nI n a b).symm;obtain⟨k,rfl⟩:=x4 (show 0<=f by omega);have hs:=Z6q (k:=k) (by omega);have hp:=Q6o (k:=k) (by omega);simp only[hs,e,zh,Te];exact⟨by omega,by simp only[Qd];omega,by simp only[Qd];omega,h3,(by and_intros<;>first|rfl|trivial|simp)⟩
def XG:AL (Int):=(.one (.k (.i .u64)))
def KE (d:Int):Prop:=0<=d/\d<=18446744073709551615
def Xj (d:Int):SV:=.val (.i .u64) ((Q69 d.toNat:Nat):Int)
def Xl (d:Int):List OB:=[]
def Jd:CSp:=Ko XG KE Xj Xl
def Zk (x:Int):Prop :=
 (0<=(8:Int))/\(0<=(8:Int))/\(InK .u64 (JL .u64 (Qb .and .u64 x (71777214294589695:Int)) (8:Int)))/\(0<=(16:Int))/\(0<=(16:Int))/\(InK .u64 (JL .u64 (Qb .and .u64 (Qb .or .u64 (Qb .and .u64 (Zn .u64 x (8:Int)) (71777214294589695:Int)) (JL .u64 (Qb .and .u64 x (71777214294589695:Int)) (8:Int))) (281470681808895:Int)) (16:Int)))/\(0<=(32:Int))/\(0<=(32:Int))/\((Qb .or .u64 (Zn .u64 (Qb .or .u64 (Qb .and .u64 (Zn .u64 (Qb .or .u64 (Qb .and .u64 (Zn .u64 x (8:Int)) (71777214294589695:Int)) (JL .u64 (Qb .and .u64 x (71777214294589695:Int)) (8:Int))) (16:Int)) (281470681808895:Int)) (JL .u64 (Qb .and .u64 (Qb .or .u64 (Qb .and .u64 (Zn .u64 x (8:Int)) (71777214294589695:Int)) (JL .u64 (Qb .and .u64 x (71777214294589695:Int)) (8:Int))) (281470681808895:Int)) (16:Int))) (32:Int)) (IntKind.wrap .u64 (JL .u64 (Qb .or .u64 (Qb .and .u64 (Zn .u64 (Qb .or .u64 (Qb .and .u64 (Zn .u64 x (8:Int)) (71777214294589695:Int)) (JL .u64 (Qb .and .u64 x (71777214294589695:Int)) (8:Int))) (16:Int)) (281470681808895:Int)) (JL .u64 (Qb .and .u64 (Qb .or .u64 (Qb .and .u64 (Zn .u64 x (8:Int)) (71777214294589695:Int)) (JL .u64 (Qb .and .u64 x (71777214294589695:Int)) (8:Int))) (281470681808895:Int)) (16:Int))) (32:Int))))=((Q69 x.toNat:Nat):Int)/\(True))
def Xv:Cx:=⟨[],[],22,[20],0,[],[],[],[],false,[],[],[],[]⟩
def Vd (x:Int):List (Nat×LoopAnn):=[]
theorem Va (d:Int):gwp (Xv) (Vd d) Z72 0 (KQ [.tmp 2] (Xj d) (Xl d)) (QI 22 (AL.can XG d))=Zk d:=by kernel_rfl
abbrev V8:Prop:=OkC Tryz.prog 184 Jd
theorem Vn (h:∀ (x:Int),(0<=x/\x<=18446744073709551615)->Zk x):OkC Tryz.prog 184 Jd :=
 QT Q3q mixed (C:=Xv) (V:=λ(d:Int)=>Zk d) ⟨.nil,XsOk.nil,ItsOk.nil,YlOk.nil,IysOk.nil,XfOk.nil⟩ (Va) λd hp=>h d hp
theorem Ve:V8:=Vn λx h=>by
 obtain⟨h1,h2⟩:=h;unfold Zk;(try delta lI gD sT I64 X4 pj8 pj4);obtain⟨n,rfl⟩:=x4 h1;have hn:n<2 ^ 64:=by omega
 obtain⟨a1,a2,a3⟩:=sw8 hn;obtain⟨b1,b2,b3⟩:=J12 a3;have c1:=J0w b3;simp only[a1,b1,c1,zh];refine⟨by omega,by omega,a2,by omega,by omega,b2,by omega,by omega,?_⟩;exact(by and_intros<;>first|rfl|trivial|simp)
def Ym:AL (Int):=(.one (.k (.i .u64)))
def Nm (d:Int):Prop:=0<=d/\d<=18446744073709551615
def WO (d:Int):SV:=.val (.i .u64) ((Sx 64 d.toNat:Nat):Int)
def WK (d:Int):List OB:=[]
def Xu:CSp:=Ko Ym Nm WO WK
def J1 (x:Int):Prop :=
 (0<=(1:Int))/\(0<=(1:Int))/\(InK .u64 (JL .u64 (Qb .and .u64 x (6148914691236517205:Int)) (1:Int)))/\(0<=(2:Int))/\(0<=(2:Int))/\(InK .u64 (JL .u64 (Qb .and .u64 (Qb .or .u64 (Qb .and .u64 (Zn .u64 x (1:Int)) (6148914691236517205:Int)) (JL .u64 (Qb .and .u64 x (6148914691236517205:Int)) (1:Int))) (3689348814741910323:Int)) (2:Int)))/\(0<=(4:Int))/\(0<=(4:Int))/\(InK .u64 (JL .u64 (Qb .and .u64 (Qb .or .u64 (Qb .and .u64 (Zn .u64 (Qb .or .u64 (Qb .and .u64 (Zn .u64 x (1:Int)) (6148914691236517205:Int)) (JL .u64 (Qb .and .u64 x (6148914691236517205:Int)) (1:Int))) (2:Int)) (3689348814741910323:Int)) (JL .u64 (Qb .and .u64 (Qb .or .u64 (Qb .and .u64 (Zn .u64 x (1:Int)) (6148914691236517205:Int)) (JL .u64 (Qb .and .u64 x (6148914691236517205:Int)) (1:Int))) (3689348814741910323:Int)) (2:Int))) (1085102592571150095:Int)) (4:Int)))/\(0<=(Qb .or .u64 (Qb .and .u64 (Zn .u64 (Qb .or .u64 (Qb .and .u64 (Zn .u64 (Qb .or .u64 (Qb .and .u64 (Zn .u64 x (1:Int)) (6148914691236517205:Int)) (JL .u64 (Qb .and .u64 x (6148914691236517205:Int)) (1:Int))) (2:Int)) (3689348814741910323:Int)) (JL .u64 (Qb .and .u64 (Qb .or .u64 (Qb .and .u64 (Zn .u64 x (1:Int)) (6148914691236517205:Int)) (JL .u64 (Qb .and .u64 x (6148914691236517205:Int)) (1:Int))) (3689348814741910323:Int)) (2:Int))) (4:Int)) (1085102592571150095:Int)) (JL .u64 (Qb .and .u64 (Qb .or .u64 (Qb .and .u64 (Zn .u64 (Qb .or .u64 (Qb .and .u64 (Zn .u64 x (1:Int)) (6148914691236517205:Int)) (JL .u64 (Qb .and .u64 x (6148914691236517205:Int)) (1:Int))) (2:Int)) (3689348814741910323:Int)) (JL .u64 (Qb .and .u64 (Qb .or .u64 (Qb .and .u64 (Zn .u64 x (1:Int)) (6148914691236517205:Int)) (JL .u64 (Qb .and .u64 x (6148914691236517205:Int)) (1:Int))) (3689348814741910323:Int)) (2:Int))) (1085102592571150095:Int)) (4:Int)))/\(Qb .or .u64 (Qb .and .u64 (Zn .u64 (Qb .or .u64 (Qb .and .u64 (Zn .u64 (Qb .or .u64 (Qb .and .u64 (Zn .u64 x (1:Int)) (6148914691236517205:Int)) (JL .u64 (Qb .and .u64 x (6148914691236517205:Int)) (1:Int))) (2:Int)) (3689348814741910323:Int)) (JL .u64 (Qb .and .u64 (Qb .or .u64 (Qb .and .u64 (Zn .u64 x (1:Int)) (6148914691236517205:Int)) (JL .u64 (Qb .and .u64 x (6148914691236517205:Int)) (1:Int))) (3689348814741910323:Int)) (2:Int))) (4:Int)) (1085102592571150095:Int)) (JL .u64 (Qb .and .u64 (Qb .or .u64 (Qb .and .u64 (Zn .u64 (Qb .or .u64 (Qb .and .u64 (Zn .u64 x (1:Int)) (6148914691236517205:Int)) (JL .u64 (Qb .and .u64 x (6148914691236517205:Int)) (1:Int))) (2:Int)) (3689348814741910323:Int)) (JL .u64 (Qb .and .u64 (Qb .or .u64 (Qb .and .u64 (Zn .u64 x (1:Int)) (6148914691236517205:Int)) (JL .u64 (Qb .and .u64 x (6148914691236517205:Int)) (1:Int))) (3689348814741910323:Int)) (2:Int))) (1085102592571150095:Int)) (4:Int)))<=18446744073709551615)/\(((Q69 (Qb .or .u64 (Qb .and .u64 (Zn .u64 (Qb .or .u64 (Qb .and .u64 (Zn .u64 (Qb .or .u64 (Qb .and .u64 (Zn .u64 x (1:Int)) (6148914691236517205:Int)) (JL .u64 (Qb .and .u64 x (6148914691236517205:Int)) (1:Int))) (2:Int)) (3689348814741910323:Int)) (JL .u64 (Qb .and .u64 (Qb .or .u64 (Qb .and .u64 (Zn .u64 x (1:Int)) (6148914691236517205:Int)) (JL .u64 (Qb .and .u64 x (6148914691236517205:Int)) (1:Int))) (3689348814741910323:Int)) (2:Int))) (4:Int)) (1085102592571150095:Int)) (JL .u64 (Qb .and .u64 (Qb .or .u64 (Qb .and .u64 (Zn .u64 (Qb .or .u64 (Qb .and .u64 (Zn .u64 x (1:Int)) (6148914691236517205:Int)) (JL .u64 (Qb .and .u64 x (6148914691236517205:Int)) (1:Int))) (2:Int)) (3689348814741910323:Int)) (JL .u64 (Qb .and .u64 (Qb .or .u64 (Qb .and .u64 (Zn .u64 x (1:Int)) (6148914691236517205:Int)) (JL .u64 (Qb .and .u64 x (6148914691236517205:Int)) (1:Int))) (3689348814741910323:Int)) (2:Int))) (1085102592571150095:Int)) (4:Int))).toNat:Nat):Int)=((Sx 64 x.toNat:Nat):Int)/\(True))
def Yh:Cx:=⟨[],[(184,Jd)],26,[],0,[],[],[],[],false,[],[],[],[]⟩
def M0 (x:Int):List (Nat×LoopAnn):=[]
theorem NU (d:Int):gwp (Yh) (M0 d) Z6u 0 (KQ [.tmp 2] (WO d) (WK d)) (QI 26 (AL.can Ym d))=J1 d:=by kernel_rfl
abbrev M9:Prop:=OkC Tryz.prog 153 Xu
theorem Me (h:∀ (x:Int),(0<=x/\x<=18446744073709551615)->J1 x):OkC Tryz.prog 153 Xu :=
 QT Q38 mixed (C:=Yh) (V:=λ(d:Int)=>J1 d) ⟨(.cons Ve .nil),XsOk.nil,ItsOk.nil,YlOk.nil,IysOk.nil,XfOk.nil⟩ (NU) λd hp=>h d hp
theorem NY:M9:=Me λx h=>by
 obtain⟨h1,h2⟩:=h;unfold J1;(try delta lI gD sT I64 X4 pj8 pj4);obtain⟨n,rfl⟩:=x4 h1;have hn:n<2 ^ 64:=by omega
 obtain⟨a1,a2,a3⟩:=sw1 hn;obtain⟨b1,b2,b3⟩:=sw2 a3;obtain⟨c1,c2,c3⟩:=sw4 b3;have hr:=Z9a hn;have he:UR 4 1085102592571150095 (UR 2 3689348814741910323 (UR 1 6148914691236517205 n))=Z4q n:=rfl;simp only[a1,b1,c1,zh];rw[he,hr];rw[he] at c3;refine⟨by omega,by omega,a2,by omega,by omega,b2,by omega,by omega,c2,⟨by omega,by omega⟩,?_⟩;exact(by and_intros<;>first|rfl|trivial|simp)
def K0:AL (Int×Int):=(.cons (.k (.i .i64)) (.one (.k (.i .i64))))
def Ma (d:Int×Int):Prop:=1<=d.1/\d.1<=24/\0<=d.2/\d.2<2 ^ d.1.toNat
def Yi (d:Int×Int):SV:=.val (.i .i64) (Z2n d.1 d.2)
def Yo (d:Int×Int):List OB:=[]
def XV:CSp:=Ko K0 Ma Yi Yo
def Ji (f:Int) (r:Int):Prop :=
 (InK .u64 r)/\(0<=r/\r<=18446744073709551615)/\(InK .u64 f)/\(InK .u64 ((64:Int)-f))/\(0<=((64:Int)-f))/\(I64 (Zn .u64 ((Sx 64 r.toNat:Nat):Int) ((64:Int)-f)))/\((Zn .u64 ((Sx 64 r.toNat:Nat):Int) ((64:Int)-f))=(Z2n f r)/\(True))
def K8:Cx:=⟨[],[(153,Xu)],13,[],0,[],[],[],[],false,[],[],[],[]⟩
def MI (f:Int) (r:Int):List (Nat×LoopAnn):=[]
theorem Gm (d:Int×Int):gwp (K8) (MI d.1 d.2) Z6v 0 (KQ [.tmp 4] (Yi d) (Yo d)) (QI 13 (AL.can K0 d))=Ji d.1 d.2:=by kernel_rfl
abbrev MU:Prop:=OkC Tryz.prog 137 XV
theorem MH (h:∀ (f:Int) (r:Int),(1<=f/\f<=24/\0<=r/\r<2 ^ f.toNat)->Ji f r):OkC Tryz.prog 137 XV :=
 QT Q58 mixed (C:=K8) (V:=λ(d:Int×Int)=>Ji d.1 d.2) ⟨(.cons NY .nil),XsOk.nil,ItsOk.nil,YlOk.nil,IysOk.nil,XfOk.nil⟩ (Gm) λd hp=>h d.1 d.2 hp
theorem Mm:MU:=MH λf r h=>by
 obtain⟨h1,h2,h3,h4⟩:=h;unfold Ji;(try delta lI gD sT I64 X4 pj8 pj4);obtain⟨k,rfl⟩:=x4 (show 0<=f by omega);obtain⟨n,rfl⟩:=x4 h3;simp only[zh,Te] at h4;have hp:=Q6o (k:=k) (by omega);have h4:n<2 ^ k:=by omega
 have hs:Zn .u64 ((Sx 64 n:Nat):Int) (64-(k:Int))=((Sx k n:Nat):Int):=by rw[show (64-(k:Int))=((64-k:Nat):Int) by omega,Z7j (by omega),Q10 (by omega) h4]
 have hl:=Q2q k n;simp only[zh,hs];refine⟨by simp only[N9];omega,⟨by omega,by omega⟩,by simp only[N9];omega,by simp only[N9];omega,by omega,by simp only[Qd];omega,?_⟩;exact⟨by unfold Z2n;simp only[zh],trivial⟩
def W4:AL ((Int×Int×Bool)×Int):=(.cons (.agg (.cons (.k (.i .i64)) (.cons (.k (.i .i64)) (.one (.k .bo))))) (.one (.ptr (.one (.k (.i .i64))))))
def VF (d:(Int×Int×Bool)×Int):Prop:=1<=d.2/\d.2<=24
def XS (d:(Int×Int×Bool)×Int):SV:=.val .bo (!QL d.2 (d.1.1,(d.1.2.1,d.1.2.2)))
def XT (d:(Int×Int×Bool)×Int):List OB:=[]
def JK:CSp:=Ko W4 VF XS XT
def Zs (cn:Int) (cr:Int) (ct:Bool) (f:Int):Prop :=
 ([cn].length<=1000000)/\((!(!([cn].any λn=>decide (n<(-1:Int))||decide ((59:Int)<n))))=false->True)/\((!(!([cn].any λn=>decide (n<(-1:Int))||decide ((59:Int)<n))))=false->1<=f/\f<=24/\[cr].length<=1000000)/\(((!(!([cn].any λn=>decide (n<(-1:Int))||decide ((59:Int)<n))))||(!(!([cr].any λn=>!inI n 0 (2 ^ f.toNat-1)))))=(!QL f (cn,(cr,ct)))/\(True))
def XW:Cx:=⟨[(3,(.i .i64))],[(88,Xa),(102,Jj)],17,[],0,[],[],[],[],false,[],[],[],[]⟩
def Uh (cn:Int) (cr:Int) (ct:Bool) (f:Int):List (Nat×LoopAnn):=[]
theorem Uc (d:(Int×Int×Bool)×Int):gwp (XW) (Uh d.1.1 d.1.2.1 d.1.2.2 d.2) Z64 0 (KQ [.tmp 3] (XS d) (XT d)) (QI 17 (AL.can W4 d))=Zs d.1.1 d.1.2.1 d.1.2.2 d.2:=by kernel_rfl
abbrev U8:Prop:=OkC Tryz.prog 123 JK
theorem Ug (h:∀ (cn:Int) (cr:Int) (ct:Bool) (f:Int),(1<=f/\f<=24)->Zs cn cr ct f):OkC Tryz.prog 123 JK :=
 QT Q48 mixed (C:=XW) (V:=λ(d:(Int×Int×Bool)×Int)=>Zs d.1.1 d.1.2.1 d.1.2.2 d.2) ⟨(.cons Y3 (.cons Yd .nil)),XsOk.nil,ItsOk.nil,YlOk.nil,IysOk.nil,XfOk.nil⟩ (Uc) λd hp=>h d.1.1 d.1.2.1 d.1.2.2 d.2 hp
theorem U5:U8:=Ug λcn cr ct f h=>by obtain⟨h1,h2⟩:=h;unfold Zs;(try delta lI gD sT I64 X4 pj8 pj4);have e:∀ n a b:Int,(decide (n<a)||decide (b<n))=!inI n a b:=λn a b=>(nI n a b).symm;simp only[List.any_cons,List.any_nil,w4,e,Bool.not_not,zT,List.length_nil];refine⟨by omega,λ_=>trivial,λ_=>⟨h1,h2,by omega⟩,?_⟩;unfold QL;rw[Bool.not_and];exact(by and_intros<;>first|rfl|trivial|simp)
def QX:AL ((List (Int×Int×Bool))×((Int×Int×Bool->Prop)×(Int×Int×Bool->Bool))):=(.cons (.k (.list (.pair (.i .i64) (.pair (.i .i64) .bo)))) (.one (.fn [(.pair (.i .i64) (.pair (.i .i64) .bo))] .bo)))
def Jh (d:(List (Int×Int×Bool))×((Int×Int×Bool->Prop)×(Int×Int×Bool->Bool))):Prop:=d.1.length<=1000000/\∀ x∈d.1,d.2.1 x
def QS (d:(List (Int×Int×Bool))×((Int×Int×Bool->Prop)×(Int×Int×Bool->Bool))):SV:=.val (.i .i64) (Q4l d.1 d.2.2)
def QU (d:(List (Int×Int×Bool))×((Int×Int×Bool->Prop)×(Int×Int×Bool->Bool))):List OB:=[]
def Qw:CSp:=Ko QX Jh QS QU
def Qh (l:List (Int×Int×Bool)) (p:(Int×Int×Bool->Prop)×(Int×Int×Bool->Bool)):Prop :=
 ∃ (e2:Unit) (d20:Int),((l=l/\(SV.pf [(.pair (.i .i64) (.pair (.i .i64) .bo))] .bo p.1 p.2=SV.pf [(.pair (.i .i64) (.pair (.i .i64) .bo))] .bo p.1 p.2)/\(lI l)=(lI l)/\(0:Int)=d20/\True)/\(True)) /\
 LoopP (λ(d2:Int) (q2:(Int)->Prop) =>
  ((decide (d2<(lI l)))=true ->
   (0<=d2)/\(d2<(List.length l))/\(p.1 ((gD l d2 (0,(0,false))).1,((gD l d2 (0,(0,false))).2.1,(gD l d2 (0,(0,false))).2.2)))/\((p.2 ((gD l d2 (0,(0,false))).1,((gD l d2 (0,(0,false))).2.1,(gD l d2 (0,(0,false))).2.2)))=true ->
    (d2=(Q4l l p.2)/\(True))) /\
   ((p.2 ((gD l d2 (0,(0,false))).1,((gD l d2 (0,(0,false))).2.1,(gD l d2 (0,(0,false))).2.2)))=false ->
    (I64 (d2+(1:Int)))/\(∃ d3:Int,((l=l/\(SV.pf [(.pair (.i .i64) (.pair (.i .i64) .bo))] .bo p.1 p.2=SV.pf [(.pair (.i .i64) (.pair (.i .i64) .bo))] .bo p.1 p.2)/\(lI l)=(lI l)/\(d2+(1:Int))=d3/\True)/\(True))/\q2 d3))) /\
  ((decide (d2<(lI l)))=false ->
   ((-1:Int)=(Q4l l p.2)/\(True)))) d20
def Q_:Cx:=⟨[],[],19,[],0,[],[],[],[],false,[],[],[],[]⟩
def Jn (l:List (Int×Int×Bool)) (p:(Int×Int×Bool->Prop)×(Int×Int×Bool->Bool)):List (Nat×LoopAnn):=[(0,⟨Unit,Int,[0,1,7,8],λe x=>[.val (.list (.pair (.i .i64) (.pair (.i .i64) .bo))) l,.pf [(.pair (.i .i64) (.pair (.i .i64) .bo))] .bo p.1 p.2,.val (.i .i64) (((List.length l):Nat):Int),.val (.i .i64) x],λe x=>[]⟩)]
theorem Jo (d:(List (Int×Int×Bool))×((Int×Int×Bool->Prop)×(Int×Int×Bool->Bool))):gwp (Q_) (Jn d.1 d.2) Z6x 0 (KQ [.tmp 4] (QS d) (QU d)) (QI 19 (AL.can QX d))=Qh d.1 d.2:=by kernel_rfl
abbrev Jq:Prop:=OkC Tryz.prog 148 Qw
theorem Jm (h:∀ (l:List (Int×Int×Bool)) (p:(Int×Int×Bool->Prop)×(Int×Int×Bool->Bool)),(l.length<=1000000/\∀ x∈l,p.1 x)->Qh l p):OkC Tryz.prog 148 Qw :=
 QT Q18 mixed (C:=Q_) (V:=λ(d:(List (Int×Int×Bool))×((Int×Int×Bool->Prop)×(Int×Int×Bool->Bool)))=>Qh d.1 d.2) ⟨.nil,XsOk.nil,ItsOk.nil,YlOk.nil,IysOk.nil,XfOk.nil⟩ (Jo) λd hp=>h d.1 d.2 hp
theorem Jl:Jq:=Jm λl p hp=>by
 unfold Qh;(try delta lI gD sT I64 X4 pj8 pj4);simp only[true_and,and_true,eq_self_iff_true,exists_eq_left',exists_const,zn,xn,zK,bne_iff_ne,ne_eq,xq,bne_eq_false_iff_eq,Bool.not_eq_true',xm,xO,we,zh,Int.ofNat_lt,gt_iff_lt,ge_iff_le];refine LoopP.count l.length (λk=>(l.take k).any p.2=false) (by simp) λk bc hJ q hq=>?_;simp only[true_and,and_true,eq_self_iff_true,exists_eq_left',exists_const,zn,xn,zK,bne_iff_ne,ne_eq,xq,bne_eq_false_iff_eq,Bool.not_eq_true',xm,xO,we,zh,Int.ofNat_lt,gt_iff_lt,ge_iff_le,Qd];refine⟨λaf=>?_,λbB=>?_⟩
 .have af:k<l.length:=by omega
  rw[Qc af];refine⟨by omega,by omega,hp.2 _ (zu af),λhx=>?_,λhx=>⟨by omega,hq af ?_⟩⟩
  .rw[Q3r af hx hJ]
  .rw[WB af,List.any_append,hJ];simp[hx]
 .rw[zM (by omega)] at hJ;rw[AX hJ]
def QP:AL ((List (Int×Int×Bool))×((Int×Int×Bool->Prop)×(Int×Int×Bool->Bool))):=(.cons (.k (.list (.pair (.i .i64) (.pair (.i .i64) .bo)))) (.one (.fn [(.pair (.i .i64) (.pair (.i .i64) .bo))] .bo)))
def ZU (d:(List (Int×Int×Bool))×((Int×Int×Bool->Prop)×(Int×Int×Bool->Bool))):Prop:=d.1.length<=1000000/\∀ x∈d.1,d.2.1 x
def QM (d:(List (Int×Int×Bool))×((Int×Int×Bool->Prop)×(Int×Int×Bool->Bool))):SV:=.val .bo (d.1.any d.2.2)
def QO (d:(List (Int×Int×Bool))×((Int×Int×Bool->Prop)×(Int×Int×Bool->Bool))):List OB:=[]
def Qs:CSp:=Ko QP ZU QM QO
def Qf (l:List (Int×Int×Bool)) (p:(Int×Int×Bool->Prop)×(Int×Int×Bool->Bool)):Prop :=
 (l.length<=1000000/\∀ x∈l,(λ(x1:Int×Int×Bool)=>p.1 (x1.1,(x1.2.1,x1.2.2))) x)/\((decide ((Q4l l (λ(x1:Int×Int×Bool)=>(p.2 (x1.1,(x1.2.1,x1.2.2)))))>=(0:Int)))=(l.any p.2)/\(True))
def QQ:Cx:=⟨[],[(148,Qw)],9,[],0,[],[],[],[],false,[],[],[],[]⟩
def J6 (l:List (Int×Int×Bool)) (p:(Int×Int×Bool->Prop)×(Int×Int×Bool->Bool)):List (Nat×LoopAnn):=[]
theorem J7 (d:(List (Int×Int×Bool))×((Int×Int×Bool->Prop)×(Int×Int×Bool->Bool))):gwp (QQ) (J6 d.1 d.2) Z7a 0 (KQ [.tmp 4] (QM d) (QO d)) (QI 9 (AL.can QP d))=Qf d.1 d.2:=by kernel_rfl
abbrev J3:Prop:=OkC Tryz.prog 124 Qs
theorem J4 (h:∀ (l:List (Int×Int×Bool)) (p:(Int×Int×Bool->Prop)×(Int×Int×Bool->Bool)),(l.length<=1000000/\∀ x∈l,p.1 x)->Qf l p):OkC Tryz.prog 124 Qs :=
 QT Q4v mixed (C:=QQ) (V:=λ(d:(List (Int×Int×Bool))×((Int×Int×Bool->Prop)×(Int×Int×Bool->Bool)))=>Qf d.1 d.2) ⟨(.cons Jl .nil),XsOk.nil,ItsOk.nil,YlOk.nil,IysOk.nil,XfOk.nil⟩ (J7) λd hp=>h d.1 d.2 hp
theorem J5:J3:=J4 λl p hp=>by simp only[Qf];exact⟨hp,Q6p l p.2,trivial⟩
def Y8:AL (Int×List (Int×Int×Bool)):=(.cons (.k (.i .i64)) (.one (.k (.list (.pair (.i .i64) (.pair (.i .i64) .bo))))))
def Uy (d:Int×List (Int×Int×Bool)):Prop:=1<=d.1/\d.1<=24/\d.2.length<=1000000
def Ww (d:Int×List (Int×Int×Bool)):SV:=.val .bo (!d.2.isEmpty&&!(d.2.any λc=>!QL d.1 c))
def Wq (d:Int×List (Int×Int×Bool)):List OB:=[]
def QW:CSp:=Ko Y8 Uy Ww Wq
def ZH (f:Int) (cs:List (Int×Int×Bool)):Prop :=
 ((decide ((lI cs) > (0:Int)))=true->cs.length<=1000000/\∀ x∈cs,(λ(x1:Int×Int×Bool)=>1<=f/\f<=24) x)/\(((decide ((lI cs) > (0:Int)))&&(!(cs.any (λ(x1:Int×Int×Bool)=>(!QL f (x1.1,(x1.2.1,x1.2.2)))))))=(!cs.isEmpty&&!(cs.any λc=>!QL f c))/\(True))
def WT:Cx:=⟨[],[(124,Qs),(123,JK)],16,[],0,[],[],[],[],false,[],[],[],[]⟩
def UW (f:Int) (cs:List (Int×Int×Bool)):List (Nat×LoopAnn):=[]
theorem No (d:Int×List (Int×Int×Bool)):gwp (WT) (UW d.1 d.2) c86 0 (KQ [.tmp 4] (Ww d) (Wq d)) (QI 16 (AL.can Y8 d))=ZH d.1 d.2:=by kernel_rfl
abbrev Ni:Prop:=OkC Tryz.prog 86 QW
theorem UY (h:∀ (f:Int) (cs:List (Int×Int×Bool)),(1<=f/\f<=24/\cs.length<=1000000)->ZH f cs):OkC Tryz.prog 86 QW :=
 QT Z0v mixed (C:=WT) (V:=λ(d:Int×List (Int×Int×Bool))=>ZH d.1 d.2) ⟨(.cons J5 (.cons U5 .nil)),XsOk.nil,ItsOk.nil,YlOk.nil,IysOk.nil,XfOk.nil⟩ (No) λd hp=>h d.1 d.2 hp
theorem ZG:Ni:=UY λf cs h=>by
 obtain⟨h1,h2,h3⟩:=h;unfold ZH;(try delta lI gD sT I64 X4 pj8 pj4);refine⟨λ_=>⟨h3,λ_ _=>⟨h1,h2⟩⟩,?_⟩;have:decide ((cs.length:Int) > 0)=!cs.isEmpty:=by cases cs<;>simp
 rw[this];exact(by and_intros<;>first|rfl|trivial|simp)
def Bn:Cx:=⟨[],[(87,Z9),(86,QW)],30,[],0,[],[],[],[],false,[],[],[],[]⟩
def VT:XSp:=IF Bn (λ_=>[]) Z6m [.cell 2 true 3,.tmp 3] 30
theorem Ud:XOk Tryz.prog 103 VT:=Yy Q1t mixed (C:=Bn) ⟨(.cons Z_ (.cons ZG .nil)),XsOk.nil,ItsOk.nil,YlOk.nil,IysOk.nil,XfOk.nil⟩ _
def Vo:AL ((Int×(List (Int×Int×Bool))×Int)×Int):=(.cons (.agg (.cons (.k (.i .i64)) (.cons (.k (.list (.pair (.i .i64) (.pair (.i .i64) .bo)))) (.one (.k (.i .i64)))))) (.one (.k (.i .i64))))
def GM (d:(Int×(List (Int×Int×Bool))×Int)×Int):Prop:=1<=d.1.2.2/\d.1.2.2<=24/\0<=d.2/\d.2<d.1.2.1.length/\∀ c∈d.1.2.1,QL d.1.2.2 c=true
def Ki (d:(Int×(List (Int×Int×Bool))×Int)×Int):SV:=.val (.i .i64) (DM d.1.2.2 (d.1.2.1.getD d.2.toNat Vx))
def Kf (d:(Int×(List (Int×Int×Bool))×Int)×Int):List OB:=[]
def WS:CSp:=Ko Vo GM Ki Kf
def X3 (hk:Int) (cs:List (Int×Int×Bool)) (f:Int) (at_:Int):Prop :=
 (0<=at_)/\(at_<(List.length cs))/\((gD cs at_ (0,(0,false))).2.2=true ->
  (1<=f/\f<=24/\0<=((gD cs at_ (0,(0,false))).2.1)/\((gD cs at_ (0,(0,false))).2.1)<2 ^ f.toNat)/\((Z2n f ((gD cs at_ (0,(0,false))).2.1))=(DM f (cs.getD at_.toNat Vx))/\(True))) /\
 ((gD cs at_ (0,(0,false))).2.2=false ->
  (0<=at_)/\(at_<(List.length cs))/\((gD cs at_ (0,(0,false))).2.1=(DM f (cs.getD at_.toNat Vx))/\(True)))
def KT:Cx:=⟨[],[(137,XV)],26,[],0,[],[],[],[],false,[],[],[],[]⟩
def B5 (hk:Int) (cs:List (Int×Int×Bool)) (f:Int) (at_:Int):List (Nat×LoopAnn):=[]
theorem B6 (d:(Int×(List (Int×Int×Bool))×Int)×Int):gwp (KT) (B5 d.1.1 d.1.2.1 d.1.2.2 d.2) Z70 0 (KQ [.tmp 4] (Ki d) (Kf d)) (QI 26 (AL.can Vo d))=X3 d.1.1 d.1.2.1 d.1.2.2 d.2:=by kernel_rfl
abbrev Ba:Prop:=OkC Tryz.prog 104 WS
theorem DE (h:∀ (hk:Int) (cs:List (Int×Int×Bool)) (f:Int) (at_:Int),(1<=f/\f<=24/\0<=at_/\at_<cs.length/\∀ c∈cs,QL f c=true)->X3 hk cs f at_):OkC Tryz.prog 104 WS :=
 QT Q4e mixed (C:=KT) (V:=λ(d:(Int×(List (Int×Int×Bool))×Int)×Int)=>X3 d.1.1 d.1.2.1 d.1.2.2 d.2) ⟨(.cons Mm .nil),XsOk.nil,ItsOk.nil,YlOk.nil,IysOk.nil,XfOk.nil⟩ (B6) λd hp=>h d.1.1 d.1.2.1 d.1.2.2 d.2 hp
theorem B3:Ba:=DE λhk cs f at_ h=>by
 obtain⟨h1,h2,h3,h4,h5⟩:=h;unfold X3;(try delta lI gD sT I64 X4 pj8 pj4);have hd:∀ j,cs.getD j (0,(0,false))=cs.getD j Vx:=λ_=>rfl;have hj:at_.toNat<cs.length:=by omega
 have hc:=Lq (h5 _ (show cs.getD at_.toNat Vx∈cs by rw[Qc hj];exact zu hj));simp only[hd,and_true];refine⟨h3,by omega,λc=>⟨⟨h1,h2,hc.1,hc.2⟩,?_⟩,λc=>⟨h3,by omega,?_⟩⟩
 .unfold DM;rw[z3 c]
 .unfold DM;rw[z0 (by rw[c];decide)]
def Vt:AL ((Int×(List (Int×Int×Bool))×Int)×Int×Int):=(.cons (.agg (.cons (.k (.i .i64)) (.cons (.k (.list (.pair (.i .i64) (.pair (.i .i64) .bo)))) (.one (.k (.i .i64)))))) (.cons (.k (.i .i64)) (.one (.k (.i .i64)))))
def GL (d:(Int×(List (Int×Int×Bool))×Int)×Int×Int):Prop:=d.1.2.1≠[]/\d.1.2.1.length<=1000/\-1000000<=d.2.1/\d.2.1<=1000000/\-1000000<=d.2.2/\d.2.2<=1000000
def Kn (d:(Int×(List (Int×Int×Bool))×Int)×Int×Int):SV:=.val (.i .i64) (Int.tmod (d.2.1+d.2.2) d.1.2.1.length)
def Kk (d:(Int×(List (Int×Int×Bool))×Int)×Int×Int):List OB:=[]
def Xg:CSp:=Ko Vt GL Kn Kk
def JY (hk:Int) (cs:List (Int×Int×Bool)) (f:Int) (at_:Int) (st:Int):Prop :=
 (I64 (at_+st))/\((lI cs)≠0)/\((Int.tmod (at_+st) (lI cs))=(Int.tmod (at_+st) cs.length)/\(True))
def Vm:Cx:=⟨[],[],15,[],0,[],[],[],[],false,[],[],[],[]⟩
def DK (hk:Int) (cs:List (Int×Int×Bool)) (f:Int) (at_:Int) (st:Int):List (Nat×LoopAnn):=[]
theorem DY (d:(Int×(List (Int×Int×Bool))×Int)×Int×Int):gwp (Vm) (DK d.1.1 d.1.2.1 d.1.2.2 d.2.1 d.2.2) c78 0 (KQ [.tmp 6] (Kn d) (Kk d)) (QI 15 (AL.can Vt d))=JY d.1.1 d.1.2.1 d.1.2.2 d.2.1 d.2.2:=by kernel_rfl
abbrev DC:Prop:=OkC Tryz.prog 78 Xg
theorem B7 (h:∀ (hk:Int) (cs:List (Int×Int×Bool)) (f:Int) (at_:Int) (st:Int),(cs≠[]/\cs.length<=1000/\-1000000<=at_/\at_<=1000000/\-1000000<=st/\st<=1000000)->JY hk cs f at_ st):OkC Tryz.prog 78 Xg :=
 QT Z19 mixed (C:=Vm) (V:=λ(d:(Int×(List (Int×Int×Bool))×Int)×Int×Int)=>JY d.1.1 d.1.2.1 d.1.2.2 d.2.1 d.2.2) ⟨.nil,XsOk.nil,ItsOk.nil,YlOk.nil,IysOk.nil,XfOk.nil⟩ (DY) λd hp=>h d.1.1 d.1.2.1 d.1.2.2 d.2.1 d.2.2 hp
theorem Vq:DC:=B7 λhk cs f at_ st h=>by obtain⟨h1,h2,h3,h4,h5,h6⟩:=h;unfold JY;(try delta lI gD sT I64 X4 pj8 pj4);have:=xP.2 h1;exact⟨by simp only[Qd];omega,by omega,rfl,trivial⟩
def Ps:AL (Int×List (Int×Int×Bool)):=(.one (.agg (.cons (.k (.i .i64)) (.one (.k (.list (.pair (.i .i64) (.pair (.i .i64) .bo))))))))
def A7 (d:Int×List (Int×Int×Bool)):Prop:=d.2.length<=1000
def BQ (d:Int×List (Int×Int×Bool)):SV:=.agg [.val (.i .i64) d.1,.lst 0]
def BA (d:Int×List (Int×Int×Bool)):List OB:=[.lst 87 (.pair (.i .i64) (.pair (.i .i64) .bo)) d.2 false]
def Bb:CSp:=Ko Ps A7 BQ BA
def U3 (hk:Int) (cs:List (Int×Int×Bool)):Prop :=
 (((List.length ([]:List (Int×Int×Bool)))+(List.length cs))*24<=70368744177664)/\((hk=hk/\True/\(([]:List SV)=[]))/\(((([]:List (Int×Int×Bool))++cs)=cs/\((List.isEmpty cs)&&false)=false)/\True))
def Pf:Cx:=⟨[(87,(.pair (.i .i64) (.pair (.i .i64) .bo)))],[],9,[],0,[],[],[],[],false,[],[],[],[]⟩
def Ei (hk:Int) (cs:List (Int×Int×Bool)):List (Nat×LoopAnn):=[]
theorem F7 (d:Int×List (Int×Int×Bool)):gwp (Pf) (Ei d.1 d.2) c16 0 (KQ [.cell 2 true 2] (BQ d) (BA d)) (QI 9 (AL.can Ps d))=U3 d.1 d.2:=by kernel_rfl
abbrev EI:Prop:=OkC Tryz.prog 16 Bb
theorem F6 (h:∀ (hk:Int) (cs:List (Int×Int×Bool)),(cs.length<=1000)->U3 hk cs):OkC Tryz.prog 16 Bb :=
 QT Z1w mixed (C:=Pf) (V:=λ(d:Int×List (Int×Int×Bool))=>U3 d.1 d.2) ⟨.nil,XsOk.nil,ItsOk.nil,YlOk.nil,IysOk.nil,XfOk.nil⟩ (F7) λd hp=>h d.1 d.2 hp
theorem Ej:EI:=F6 λhk cs h=>by unfold U3;(try delta lI gD sT I64 X4 pj8 pj4);simp only[List.length_nil,xt];refine⟨by omega,?_⟩;and_intros<;>first|rfl|trivial|simp
def TB:AL (Int×Int×Int):=(.cons (.k (.i .i64)) (.cons (.k (.i .i64)) (.one (.k (.i .i64)))))
def E3 (d:Int×Int×Int):Prop:=True
def Pq (d:Int×Int×Int):SV:=.val .bo (inI d.1 d.2.1 d.2.2)
def Pm (d:Int×Int×Int):List OB:=[]
def UN:CSp:=Ko TB E3 Pq Pm
def Nb (n:Int) (a:Int) (b:Int):Prop :=
 (((decide (n>=a))&&(decide (n<=b)))=(inI n a b)/\(True))
def RG:Cx:=⟨[],[],15,[],0,[],[],[],[],false,[],[],[],[]⟩
def I2 (n:Int) (a:Int) (b:Int):List (Nat×LoopAnn):=[]
theorem FD (d:Int×Int×Int):gwp (RG) (I2 d.1 d.2.1 d.2.2) c30 0 (KQ [.tmp 6] (Pq d) (Pm d)) (QI 15 (AL.can TB d))=Nb d.1 d.2.1 d.2.2:=by kernel_rfl
abbrev FJ:Prop:=OkC Tryz.prog 30 UN
theorem Fq (h:∀ (n:Int) (a:Int) (b:Int),(True)->Nb n a b):OkC Tryz.prog 30 UN :=
 QT Z1o mixed (C:=RG) (V:=λ(d:Int×Int×Int)=>Nb d.1 d.2.1 d.2.2) ⟨.nil,XsOk.nil,ItsOk.nil,YlOk.nil,IysOk.nil,XfOk.nil⟩ (FD) λd hp=>h d.1 d.2.1 d.2.2 hp
theorem Be:FJ:=Fq λn a b _=>by unfold Nb;(try delta lI gD sT I64 X4 pj8 pj4);exact(by and_intros<;>first|rfl|trivial|simp)
def Pg:AL (Int×Int):=(.cons (.k (.i .i64)) (.one (.k (.i .i64))))
def C8 (d:Int×Int):Prop:=0<=d.2/\d.2<=62
def BY (d:Int×Int):SV:=.val .bo (inI d.1 0 (2 ^ d.2.toNat-1))
def BJ (d:Int×Int):List OB:=[]
def D_:CSp:=Ko Pg C8 BY BJ
def VW (r:Int) (hk:Int):Prop :=
 (InK .u64 hk)/\(0<=hk)/\(I64 (JL .i64 (1:Int) hk))/\(I64 ((JL .i64 (1:Int) hk)-(1:Int)))/\(True)/\((inI r (0:Int) ((JL .i64 (1:Int) hk)-(1:Int)))=(inI r 0 (2 ^ hk.toNat-1))/\(True))
def P8:Cx:=⟨[],[(30,UN)],11,[],0,[],[],[],[],false,[],[],[],[]⟩
def Eg (r:Int) (hk:Int):List (Nat×LoopAnn):=[]
theorem Ey (d:Int×Int):gwp (P8) (Eg d.1 d.2) Z6a 0 (KQ [.tmp 4] (BY d) (BJ d)) (QI 11 (AL.can Pg d))=VW d.1 d.2:=by kernel_rfl
abbrev E5:Prop:=OkC Tryz.prog 105 D_
theorem E4 (h:∀ (r:Int) (hk:Int),(0<=hk/\hk<=62)->VW r hk):OkC Tryz.prog 105 D_ :=
 QT Q43 mixed (C:=P8) (V:=λ(d:Int×Int)=>VW d.1 d.2) ⟨(.cons Be .nil),XsOk.nil,ItsOk.nil,YlOk.nil,IysOk.nil,XfOk.nil⟩ (Ey) λd hp=>h d.1 d.2 hp
theorem E_:E5:=E4 λr hk h=>by obtain⟨h1,h2⟩:=h;unfold VW;(try delta lI gD sT I64 X4 pj8 pj4);obtain⟨k,rfl⟩:=x4 h1;have hs:=Z6q (k:=k) (by omega);have hp:=Z7s (k:=k) (by omega);simp only[hs,zh,Te];exact⟨by simp only[N9];omega,by omega,by simp only[Qd];omega,by simp only[Qd];omega,(by and_intros<;>first|rfl|trivial|simp)⟩
def BN:AL ((Int×Int×Bool)×Int):=(.cons (.agg (.cons (.k (.i .i64)) (.cons (.k (.i .i64)) (.one (.k .bo))))) (.one (.k (.i .i64))))
def SI (d:(Int×Int×Bool)×Int):Prop:=0<=d.2/\d.2<=62
def Da (d:(Int×Int×Bool)×Int):SV:=.val .bo (QL d.2 (d.1.1,(d.1.2.1,d.1.2.2)))
def Dz (d:(Int×Int×Bool)×Int):List OB:=[]
def Gc:CSp:=Ko BN SI Da Dz
def KG (cn:Int) (cr:Int) (ct:Bool) (hk:Int):Prop :=
 (True)/\((inI cn (-1:Int) (59:Int))=true->0<=hk/\hk<=62)/\(((inI cn (-1:Int) (59:Int))&&(inI cr 0 (2 ^ hk.toNat-1)))=(QL hk (cn,(cr,ct)))/\(True))
def Bz:Cx:=⟨[],[(30,UN),(105,D_)],14,[],0,[],[],[],[],false,[],[],[],[]⟩
def A5 (cn:Int) (cr:Int) (ct:Bool) (hk:Int):List (Nat×LoopAnn):=[]
theorem C6 (d:(Int×Int×Bool)×Int):gwp (Bz) (A5 d.1.1 d.1.2.1 d.1.2.2 d.2) c68 0 (KQ [.tmp 4] (Da d) (Dz d)) (QI 14 (AL.can BN d))=KG d.1.1 d.1.2.1 d.1.2.2 d.2:=by kernel_rfl
abbrev Ak:Prop:=OkC Tryz.prog 68 Gc
theorem A8 (h:∀ (cn:Int) (cr:Int) (ct:Bool) (hk:Int),(0<=hk/\hk<=62)->KG cn cr ct hk):OkC Tryz.prog 68 Gc :=
 QT Z1u mixed (C:=Bz) (V:=λ(d:(Int×Int×Bool)×Int)=>KG d.1.1 d.1.2.1 d.1.2.2 d.2) ⟨(.cons Be (.cons E_ .nil)),XsOk.nil,ItsOk.nil,YlOk.nil,IysOk.nil,XfOk.nil⟩ (C6) λd hp=>h d.1.1 d.1.2.1 d.1.2.2 d.2 hp
theorem LO:Ak:=A8 λcn cr ct hk h=>by unfold KG;(try delta lI gD sT I64 X4 pj8 pj4);simp only[true_and,and_true];exact⟨λ_=>h,rfl⟩
def Dw:AL (Int×List (Int×Int×Bool)):=(.one (.agg (.cons (.k (.i .i64)) (.one (.k (.list (.pair (.i .i64) (.pair (.i .i64) .bo))))))))
def T_ (d:Int×List (Int×Int×Bool)):Prop:=d.2.length<=9223372036854775807
def MG (d:Int×List (Int×Int×Bool)):SV:=.val (.i .i64) (Qg d.1 d.2)
def G9 (d:Int×List (Int×Int×Bool)):List OB:=[]
def Nn:CSp:=Ko Dw T_ MG G9
def YP (hk:Int) (cs:List (Int×Int×Bool)):Prop :=
 (True)/\((!(inI hk (1:Int) (24:Int)))=true ->
  ((3:Int)=(Qg hk cs)/\(True))) /\
 ((!(inI hk (1:Int) (24:Int)))=false ->
  ((decide ((lI cs) > (60:Int)))=true ->
   ((5:Int)=(Qg hk cs)/\(True))) /\
  ((decide ((lI cs) > (60:Int)))=false ->
   ∃ (e3:Unit) (d30:Int),((True/\(0:Int)=d30/\True)/\((hk=hk/\cs=cs/\(([]:List SV)=[]))/\True)) /\
   LoopP (λ(d3:Int) (q3:(Int)->Prop) =>
    ((decide (d3<(lI cs)))=true ->
     (0<=d3)/\(d3<(List.length cs))/\(0<=hk/\hk<=62)/\((!(QL hk (((gD cs d3 (0,(0,false))).1),(((gD cs d3 (0,(0,false))).2.1),((gD cs d3 (0,(0,false))).2.2)))))=true ->
      ((2:Int)=(Qg hk cs)/\(True))) /\
     ((!(QL hk (((gD cs d3 (0,(0,false))).1),(((gD cs d3 (0,(0,false))).2.1),((gD cs d3 (0,(0,false))).2.2)))))=false ->
      (I64 (d3+(1:Int)))/\(∃ d4:Int,((True/\(d3+(1:Int))=d4/\True)/\((hk=hk/\cs=cs/\(([]:List SV)=[]))/\True))/\q3 d4))) /\
    ((decide (d3<(lI cs)))=false ->
     (((lI cs)==(0:Int))=true ->
      ((2:Int)=(Qg hk cs)/\(True))) /\
     (((lI cs)==(0:Int))=false ->
      ((0:Int)=(Qg hk cs)/\(True))))) d30))
def D4:Cx:=⟨[],[(30,UN),(68,Gc)],32,[],0,[],[],[],[],false,[],[],[],[]⟩
def R_ (hk:Int) (cs:List (Int×Int×Bool)):List (Nat×LoopAnn):=[(0,⟨Unit,Int,[1,3],λe x=>[.box 1 0,.val (.i .i64) x],λe x=>[(1,.slot 1,.cells [.val (.i .i64) hk,.val (.list (.pair (.i .i64) (.pair (.i .i64) .bo))) cs] (some 24))]⟩)]
theorem Sb (d:Int×List (Int×Int×Bool)):gwp (D4) (R_ d.1 d.2) c19 0 (KQ [.tmp 2] (MG d) (G9 d)) (QI 32 (AL.can Dw d))=YP d.1 d.2:=by kernel_rfl
abbrev SB:Prop:=OkC Tryz.prog 19 Nn
theorem Sv (h:∀ (hk:Int) (cs:List (Int×Int×Bool)),(cs.length<=9223372036854775807)->YP hk cs):OkC Tryz.prog 19 Nn :=
 QT Z11 mixed (C:=D4) (V:=λ(d:Int×List (Int×Int×Bool))=>YP d.1 d.2) ⟨(.cons Be (.cons LO .nil)),XsOk.nil,ItsOk.nil,YlOk.nil,IysOk.nil,XfOk.nil⟩ (Sb) λd hp=>h d.1 d.2 hp
theorem SE:SB:=Sv λhk cs h=>by
 unfold YP;(try delta lI gD sT I64 X4 pj8 pj4);have hd:∀ j,cs.getD j (0,(0,false))=cs.getD j Vx:=λ_=>rfl;simp only[true_and,and_true,hd];refine⟨λc=>?_,λc=>⟨λc2=>?_,λc2=>?_⟩⟩
 .unfold Qg;rw[z3 c]
 .have c2:=zg c2;unfold Qg;rw[z0 (by rw[c];decide),z3 (by omega)]
 .have c2:=zm c2;have hc:=IM c;refine⟨(),0,(by and_intros<;>first|rfl|trivial|simp),?_⟩;refine LoopP.count cs.length (λk=>∀ j,j<k->QL hk (cs.getD j Vx)=true) (λj hj=>by omega) ?_;rintro k a9 hJ q hq;simp only[zh];change _/\_;refine⟨λg=>?_,λg=>?_⟩
  .have g:k<cs.length:=by have:=zg g;omega
   refine⟨by omega,by omega,⟨by omega,by omega⟩,λc3=>?_,λc3=>?_⟩
   .have c3:QL hk (cs.getD k Vx)=false:=by simpa using c3
    have:(cs.any λc=>!QL hk c)=true:=xF.2 ⟨cs.getD k Vx,by rw[Qc g];exact zu g,by rw[c3];rfl⟩;rw[C7 c (by omega) (by rw[this];simp)]
   .have c3:QL hk (cs.getD k Vx)=true:=by simpa using c3
    exact⟨by simp only[Qd];omega,(k:Int)+1,(by and_intros<;>first|rfl|trivial|simp),hq g λj hj=>by
     by_cases e:j=k
     .subst e;exact c3
     .exact hJ j (by omega)⟩
  .have g:k=cs.length:=by have:=zm g;omega
   subst g;have ae:(cs.any λc=>!QL hk c)=false:=xQ.2 λx hx=>by obtain⟨j,hj,rfl⟩:=List.getElem_of_mem hx;have:=hJ j hj;rw[Qc hj] at this;simp[this]
   refine⟨λc3=>?_,λc3=>?_⟩
   .have c3:cs=[]:=List.eq_nil_of_length_eq_zero (by have:=zg c3;omega);unfold Qg;rw[z0 (by rw[c];decide),z0 (by omega),z3 (.inl c3)]
   .have c3:cs≠[]:=λe=>by rw[e] at c3;cases c3
    unfold Qg;rw[z0 (by rw[c];decide),z0 (by omega),z0];rintro (h|h)
    .exact c3 h
    .rw[ae] at h;cases h
def D8:AL ((Int×Int×Bool)×Int):=(.cons (.agg (.cons (.k (.i .i64)) (.cons (.k (.i .i64)) (.one (.k .bo))))) (.one (.k (.i .i64))))
def Ra (d:(Int×Int×Bool)×Int):Prop:=1<=d.2/\d.2<=24/\0<=d.1.2.1/\d.1.2.1<2 ^ d.2.toNat
def Mz (d:(Int×Int×Bool)×Int):SV:=.val (.i .i64) (DM d.2 (d.1.1,(d.1.2.1,d.1.2.2)))
def MD (d:(Int×Int×Bool)×Int):List OB:=[]
def Nh:CSp:=Ko D8 Ra Mz MD
def YU (cn:Int) (cr:Int) (ct:Bool) (hk:Int):Prop :=
 ((!ct)=true ->
  (cr=(DM hk (cn,(cr,ct)))/\(True))) /\
 ((!ct)=false ->
  ∃ (e3:Unit) (d30:Int×Int),((hk=hk/\True/\(0:Int)=d30.1/\(0:Int)=d30.2/\True)/\((cn=cn/\cr=cr/\ct=ct/\(([]:List SV)=[]))/\True)) /\
  LoopP (λ(d3:Int×Int) (q3:(Int×Int)->Prop) =>
   ((decide (d3.2<hk))=true ->
    (I64 (hk-(1:Int)))/\(I64 ((hk-(1:Int))-d3.2))/\(InK .u64 ((hk-(1:Int))-d3.2))/\(0<=((hk-(1:Int))-d3.2))/\(((Qb .and .i64 (Zn .i64 cr ((hk-(1:Int))-d3.2)) (1:Int))==(1:Int))=true ->
     (InK .u64 d3.2)/\(0<=d3.2)/\(I64 (JL .i64 (1:Int) d3.2))/\(I64 (d3.1+(JL .i64 (1:Int) d3.2)))/\(I64 (d3.2+(1:Int)))/\(∃ d4:Int×Int,((hk=hk/\True/\(d3.1+(JL .i64 (1:Int) d3.2))=d4.1/\(d3.2+(1:Int))=d4.2/\True)/\((cn=cn/\cr=cr/\ct=ct/\(([]:List SV)=[]))/\True))/\q3 d4)) /\
    (((Qb .and .i64 (Zn .i64 cr ((hk-(1:Int))-d3.2)) (1:Int))==(1:Int))=false ->
     (I64 (d3.2+(1:Int)))/\(∃ d5:Int×Int,((hk=hk/\True/\d3.1=d5.1/\(d3.2+(1:Int))=d5.2/\True)/\((cn=cn/\cr=cr/\ct=ct/\(([]:List SV)=[]))/\True))/\q3 d5))) /\
   ((decide (d3.2<hk))=false ->
    (d3.1=(DM hk (cn,(cr,ct)))/\(True)))) d30)
def Df:Cx:=⟨[],[],33,[],0,[],[],[],[],false,[],[],[],[]⟩
def SH (cn:Int) (cr:Int) (ct:Bool) (hk:Int):List (Nat×LoopAnn):=[(0,⟨Unit,Int×Int,[1,2,5,6],λe x=>[.val (.i .i64) hk,.box 2 0,.val (.i .i64) x.1,.val (.i .i64) x.2],λe x=>[(2,.slot 2,.cells [.val (.i .i64) cn,.val (.i .i64) cr,.val .bo ct] (some 87))]⟩)]
theorem SZ (d:(Int×Int×Bool)×Int):gwp (Df) (SH d.1.1 d.1.2.1 d.1.2.2 d.2) c72 0 (KQ [.tmp 4] (Mz d) (MD d)) (QI 33 (AL.can D8 d))=YU d.1.1 d.1.2.1 d.1.2.2 d.2:=by kernel_rfl
abbrev SG:Prop:=OkC Tryz.prog 72 Nh
theorem RX (h:∀ (cn:Int) (cr:Int) (ct:Bool) (hk:Int),(1<=hk/\hk<=24/\0<=cr/\cr<2 ^ hk.toNat)->YU cn cr ct hk):OkC Tryz.prog 72 Nh :=
 QT Z2b mixed (C:=Df) (V:=λ(d:(Int×Int×Bool)×Int)=>YU d.1.1 d.1.2.1 d.1.2.2 d.2) ⟨.nil,XsOk.nil,ItsOk.nil,YlOk.nil,IysOk.nil,XfOk.nil⟩ (SZ) λd hp=>h d.1.1 d.1.2.1 d.1.2.2 d.2 hp
theorem RU:SG:=RX λcn cr ct hk h=>by
 obtain⟨h1,h2,h3,h4⟩:=h;unfold YU;(try delta lI gD sT I64 X4 pj8 pj4);simp only[true_and,and_true];refine⟨λc=>?_,λc=>?_⟩
 .have c:ct=false:=by simpa using c
  subst c;rfl
 .have c:ct=true:=by simpa using c
  subst c;obtain⟨f,rfl⟩:=x4 (show 0<=hk by omega);obtain⟨n,rfl⟩:=x4 h3;simp only[zh,Te] at h4;have hp:=Q6o (k:=f) (by omega);have h4:n<2 ^ f:=by omega
  refine⟨(),(0,0),(by and_intros<;>first|rfl|trivial),?_⟩;refine LoopP.count2 f (λk r=>r=((OC f n k:Nat):Int)) rfl ?_;rintro k r vF hJ q hq;subst hJ;dsimp only;have af:=Fw f n k;have mT:=Q6o (k:=k) (by omega);refine⟨λg=>?_,λg=>?_⟩
  .have g:k<f:=by have:=zg g;omega
   have dT:((f:Int)-1)-(k:Int)=((f-1-k:Nat):Int):=by omega
   rw[dT,Z1m (by omega) (by omega),Z6q (by omega)];have hs:=R5 f n k;refine⟨by simp only[Qd];omega,by simp only[Qd];omega,by simp only[N9];omega,by omega,λc=>?_,λc=>?_⟩
   .rw[z3 c] at hs;refine⟨by simp only[N9];omega,by omega,by simp only[Qd];omega,by simp only[Qd];omega,by simp only[Qd];omega,(((OC f n (k+1):Nat):Int),(k:Int)+1),?_,hq _ g rfl⟩;rw[hs];and_intros<;>first|rfl|trivial|(push_cast;omega)
   .rw[z0 (by rw[c];decide)] at hs;refine⟨by simp only[Qd];omega,(((OC f n (k+1):Nat):Int),(k:Int)+1),?_,hq _ g rfl⟩;rw[hs];and_intros<;>first|rfl|trivial
  .have g:k=f:=by have:=zm g;omega
   subst g;rw[Q5w];show _=DM _ _;unfold DM Z2n;simp only[zh,zB]
def Bk:AL (List Int×List Int):=(.cons (.k (.list (.i .i64))) (.one (.k (.list (.i .i64)))))
def Se (d:List Int×List Int):Prop:=d.1.length<=1000
def Dx (d:List Int×List Int):SV:=.val .bo (d.1==d.2)
def Dl (d:List Int×List Int):List OB:=[]
def Gg:CSp:=Ko Bk Se Dx Dl
def KH (a:List Int) (b:List Int):Prop :=
 (((lI a) != (lI b))=true ->
  (false=(a==b)/\(True))) /\
 (((lI a) != (lI b))=false ->
  ∃ (e2:Unit) (d20:Int),((a=a/\b=b/\(0:Int)=d20/\True)/\(True)) /\
  LoopP (λ(d2:Int) (q2:(Int)->Prop) =>
   ((decide (d2<(lI a)))=true ->
    (0<=d2)/\(d2<(List.length a))/\(0<=d2)/\(d2<(List.length b))/\(((gD a d2 0) != (gD b d2 0))=true ->
     (false=(a==b)/\(True))) /\
    (((gD a d2 0) != (gD b d2 0))=false ->
     (I64 (d2+(1:Int)))/\(∃ d3:Int,((a=a/\b=b/\(d2+(1:Int))=d3/\True)/\(True))/\q2 d3))) /\
   ((decide (d2<(lI a)))=false ->
    (true=(a==b)/\(True)))) d20)
def Bx:Cx:=⟨[],[],26,[],0,[],[],[],[],false,[],[],[],[]⟩
def CK (a:List Int) (b:List Int):List (Nat×LoopAnn):=[(0,⟨Unit,Int,[0,1,5],λe x=>[.val (.list (.i .i64)) a,.val (.list (.i .i64)) b,.val (.i .i64) x],λe x=>[]⟩)]
theorem CZ (d:List Int×List Int):gwp (Bx) (CK d.1 d.2) c22 0 (KQ [.tmp 4] (Dx d) (Dl d)) (QI 26 (AL.can Bk d))=KH d.1 d.2:=by kernel_rfl
abbrev Ao:Prop:=OkC Tryz.prog 22 Gg
theorem CU (h:∀ (a:List Int) (b:List Int),(a.length<=1000)->KH a b):OkC Tryz.prog 22 Gg :=
 QT Z1h mixed (C:=Bx) (V:=λ(d:List Int×List Int)=>KH d.1 d.2) ⟨.nil,XsOk.nil,ItsOk.nil,YlOk.nil,IysOk.nil,XfOk.nil⟩ (CZ) λd hp=>h d.1 d.2 hp
theorem C_:Ao:=CU λa b h=>by
 unfold KH;(try delta lI gD sT I64 X4 pj8 pj4);simp only[true_and,and_true];refine⟨λc=>?_,λc=>?_⟩
 .have c:¬ (a.length:Int)=b.length:=by simpa using c
  symm;rw[xq];rintro rfl;exact c rfl
 .have c:a.length=b.length:=by
   have:(a.length:Int)=b.length:=by simpa using c
   omega
  refine⟨(),0,(by and_intros<;>first|rfl|trivial|simp),?_⟩;refine LoopP.count a.length (λk=>∀ j,j<k->a.getD j 0=b.getD j 0) (λj hj=>by omega) ?_;rintro k hk hJ q hq;simp only[zh];refine⟨λg=>?_,λg=>?_⟩
  .have g:k<a.length:=by have:=zg g;omega
   refine⟨by omega,by omega,by omega,by omega,λc2=>?_,λc2=>?_⟩
   .have c2:a.getD k 0≠b.getD k 0:=by simpa using c2
    symm;rw[xq];rintro rfl;exact c2 rfl
   .have c2:a.getD k 0=b.getD k 0:=by simpa using c2
    exact⟨by simp only[Qd];omega,(k:Int)+1,(by and_intros<;>first|rfl|trivial|simp),hq g λj hj=>by
     by_cases e:j=k
     .subst e;exact c2
     .exact hJ j (by omega)⟩
  .have g:k=a.length:=by have:=zm g;omega
   subst g;symm;rw[zK];refine List.ext_getElem c λi h1 h2=>?_;have:=hJ i h1
   rwa [Qc h1,Qc h2] at this
def Dj:AL ((List (Int×Int×Bool))×List (Int×Int×Bool)):=(.cons (.k (.list (.pair (.i .i64) (.pair (.i .i64) .bo)))) (.one (.k (.list (.pair (.i .i64) (.pair (.i .i64) .bo))))))
def Rt (d:(List (Int×Int×Bool))×List (Int×Int×Bool)):Prop:=d.1.length<=1000
def MT (d:(List (Int×Int×Bool))×List (Int×Int×Bool)):SV:=.val .bo (d.1==d.2)
def MN (d:(List (Int×Int×Bool))×List (Int×Int×Bool)):List OB:=[]
def Nq:CSp:=Ko Dj Rt MT MN
def YW (a:List (Int×Int×Bool)) (b:List (Int×Int×Bool)):Prop :=
 (((lI a) != (lI b))=true ->
  (false=(a==b)/\(True))) /\
 (((lI a) != (lI b))=false ->
  ∃ (e2:Unit) (d20:Int),((a=a/\b=b/\(0:Int)=d20/\True)/\(True)) /\
  LoopP (λ(d2:Int) (q2:(Int)->Prop) =>
   ((decide (d2<(lI a)))=true ->
    (0<=d2)/\(d2<(List.length a))/\(0<=d2)/\(d2<(List.length b))/\((!(((gD a d2 (0,(0,false))).1==(gD b d2 (0,(0,false))).1)&&(((gD a d2 (0,(0,false))).2.1==(gD b d2 (0,(0,false))).2.1)&&((gD a d2 (0,(0,false))).2.2==(gD b d2 (0,(0,false))).2.2))))=true ->
     (false=(a==b)/\(True))) /\
    ((!(((gD a d2 (0,(0,false))).1==(gD b d2 (0,(0,false))).1)&&(((gD a d2 (0,(0,false))).2.1==(gD b d2 (0,(0,false))).2.1)&&((gD a d2 (0,(0,false))).2.2==(gD b d2 (0,(0,false))).2.2))))=false ->
     (I64 (d2+(1:Int)))/\(∃ d3:Int,((a=a/\b=b/\(d2+(1:Int))=d3/\True)/\(True))/\q2 d3))) /\
   ((decide (d2<(lI a)))=false ->
    (true=(a==b)/\(True)))) d20)
def D3:Cx:=⟨[],[],26,[],0,[],[],[],[],false,[],[],[],[]⟩
def Sm (a:List (Int×Int×Bool)) (b:List (Int×Int×Bool)):List (Nat×LoopAnn):=[(0,⟨Unit,Int,[0,1,5],λe x=>[.val (.list (.pair (.i .i64) (.pair (.i .i64) .bo))) a,.val (.list (.pair (.i .i64) (.pair (.i .i64) .bo))) b,.val (.i .i64) x],λe x=>[]⟩)]
theorem SX (d:(List (Int×Int×Bool))×List (Int×Int×Bool)):gwp (D3) (Sm d.1 d.2) c69 0 (KQ [.tmp 4] (MT d) (MN d)) (QI 26 (AL.can Dj d))=YW d.1 d.2:=by kernel_rfl
abbrev RY:Prop:=OkC Tryz.prog 69 Nq
theorem SA (h:∀ (a:List (Int×Int×Bool)) (b:List (Int×Int×Bool)),(a.length<=1000)->YW a b):OkC Tryz.prog 69 Nq :=
 QT Z0q mixed (C:=D3) (V:=λ(d:(List (Int×Int×Bool))×List (Int×Int×Bool))=>YW d.1 d.2) ⟨.nil,XsOk.nil,ItsOk.nil,YlOk.nil,IysOk.nil,XfOk.nil⟩ (SX) λd hp=>h d.1 d.2 hp
theorem SO:RY:=SA λa b h=>by
 unfold YW;(try delta lI gD sT I64 X4 pj8 pj4);simp only[true_and,and_true];refine⟨λc=>?_,λc=>?_⟩
 .have c:¬ (a.length:Int)=b.length:=by simpa using c
  symm;rw[xq];rintro rfl;exact c rfl
 .have c:a.length=b.length:=by
   have:(a.length:Int)=b.length:=by simpa using c
   omega
  refine⟨(),0,(by and_intros<;>first|rfl|trivial|simp),?_⟩;refine LoopP.count a.length (λk=>∀ j,j<k->a.getD j Vx=b.getD j Vx) (λj hj=>by omega) ?_;rintro k hk hJ q hq;have qk:∀ j,a.getD j (0,(0,false))=a.getD j Vx:=λ_=>rfl;have mg:∀ j,b.getD j (0,(0,false))=b.getD j Vx:=λ_=>rfl;simp only[zh,qk,mg];refine⟨λg=>?_,λg=>?_⟩
  .have g:k<a.length:=by have:=zg g;omega
   refine⟨by omega,by omega,by omega,by omega,λc2=>?_,λc2=>?_⟩
   .symm;rw[xq];rintro rfl;simp at c2
   .have c2:a.getD k Vx=b.getD k Vx:=by
     simp only[xm,z4,zK] at c2;exact Prod.ext c2.1 (Prod.ext c2.2.1 c2.2.2)
    exact⟨by simp only[Qd];omega,(k:Int)+1,(by and_intros<;>first|rfl|trivial|simp),hq g λj hj=>by
     by_cases e:j=k
     .subst e;exact c2
     .exact hJ j (by omega)⟩
  .have g:k=a.length:=by have:=zm g;omega
   subst g;symm;rw[zK];refine List.ext_getElem c λi h1 h2=>?_;have:=hJ i h1
   rwa [Qc h1,Qc h2] at this
def BW:AL ((Int×List (Int×Int×Bool))×Int×List (Int×Int×Bool)):=(.cons (.agg (.cons (.k (.i .i64)) (.one (.k (.list (.pair (.i .i64) (.pair (.i .i64) .bo))))))) (.one (.agg (.cons (.k (.i .i64)) (.one (.k (.list (.pair (.i .i64) (.pair (.i .i64) .bo)))))))))
def Sf (d:(Int×List (Int×Int×Bool))×Int×List (Int×Int×Bool)):Prop:=d.1.2.length<=1000
def GV (d:(Int×List (Int×Int×Bool))×Int×List (Int×Int×Bool)):SV:=.val .bo (d.1.1==d.2.1&&d.1.2==d.2.2)
def GX (d:(Int×List (Int×Int×Bool))×Int×List (Int×Int×Bool)):List OB:=[]
def Mn:CSp:=Ko BW Sf GV GX
def KF (ha:Int) (a:List (Int×Int×Bool)) (hb:Int) (b:List (Int×Int×Bool)):Prop :=
 ((ha==hb)=true->a.length<=1000)/\(((ha==hb)&&(a==b))=(ha==hb&&a==b)/\(True))
def Bv:Cx:=⟨[],[(69,Nq)],17,[],0,[],[],[],[],false,[],[],[],[]⟩
def A6 (ha:Int) (a:List (Int×Int×Bool)) (hb:Int) (b:List (Int×Int×Bool)):List (Nat×LoopAnn):=[]
theorem Ch (d:(Int×List (Int×Int×Bool))×Int×List (Int×Int×Bool)):gwp (Bv) (A6 d.1.1 d.1.2 d.2.1 d.2.2) c21 0 (KQ [.tmp 4] (GV d) (GX d)) (QI 17 (AL.can BW d))=KF d.1.1 d.1.2 d.2.1 d.2.2:=by kernel_rfl
abbrev CO:Prop:=OkC Tryz.prog 21 Mn
theorem CQ (h:∀ (ha:Int) (a:List (Int×Int×Bool)) (hb:Int) (b:List (Int×Int×Bool)),(a.length<=1000)->KF ha a hb b):OkC Tryz.prog 21 Mn :=
 QT Z29 mixed (C:=Bv) (V:=λ(d:(Int×List (Int×Int×Bool))×Int×List (Int×Int×Bool))=>KF d.1.1 d.1.2 d.2.1 d.2.2) ⟨(.cons SO .nil),XsOk.nil,ItsOk.nil,YlOk.nil,IysOk.nil,XfOk.nil⟩ (Ch) λd hp=>h d.1.1 d.1.2 d.2.1 d.2.2 hp
theorem C5:CO:=CQ λha a hb b h=>by unfold KF;(try delta lI gD sT I64 X4 pj8 pj4);exact⟨λ_=>h,rfl,trivial⟩
end Go.Proofs.Tryz
namespace Go.V
open Go
theorem Eb {α:Type}:∀ (j:Nat) (x:α) (l:List α),(FH j x l).length=l.length+1
 |0,_,_=>rfl
 |j+1,x,[]=>rfl
 |j+1,x,a::l=>by simp only[FH,zT];rw[Eb j x l]
def Q6i (ap:Ap) (kk vk:Kind) (sp:PSp kk vk):XSp:=λd args s K=>match sp ap (PE s.own args) with
 |some (c,_,post)=>c/\∀ m',post m'->K (.map d) (s.make d (.map kk vk m'))
 |none=>False
def Z2g (rs:List VResult) (kk vk:Kind) (post:List (kk.T×vk.T)->Prop):Exit->St->Prop:=λe s =>
 let fin:=match XJ s rs with
  |some (.map k)=>(match CV kk vk (Qe s.own k) with
   |some m'=>post m'
   |none=>False)
  |_=>False
 match e with
 |.normal=>fin
 |.ret=>fin
 |_=>False
section
variable {P:Program}
theorem Q6m {f:Nat}{vc:VCode}{rs:List VResult}{nt:Nat}(h:Fun P f vc rs nt) (hm:P.follows .mixedOrders=true) {kk vk:Kind}(bC:(kk.flat&&vk.flat)=true) {sp:PSp kk vk}{ap:Ap}
  (hb:∀ gh c vs post,sp ap gh=some (c,vs,post)->c->∃ (C:Cx) (L:List (Nat×LoopAnn)) (e6:List SV),SVs.pure e6=true/\(∀ M us,SRs P M Xd J9 gh us->SRs P M Xd J9 e6 us)/\COk P C/\gwp C L vc 0 (Z2g rs kk vk post) (Kl nt e6)):XOk P f (Q6i ap kk vk sp):=by
 intro B F pl tb s env M d args vals K R hG ha hx hK;unfold Q6i at hx;split at hx
 .rename_i c vs post dF;obtain⟨hc,hx⟩:=hx;obtain⟨C,L,e6,dj,mg,eZ,hg⟩:=hb _ c vs post dF hc;have az:=mg M vals (Wn (own:=s.own) hG.leB (pl:=pl) (tb:=tb) (λd=>hG.obj d) ha);have a_:GRel P M M M (Kl nt e6) (vals++List.replicate (nt-vals.length) undef) M:=by
   refine⟨M,M,λ_=>poison,J9,⟨.refl _,.refl _,λ_ _ _ h=>h,.refl _⟩,.refl _,.refl _,?_,λk=>?_,λk i' h1 h2=>?_,λk k' i' mh h1 h2 h3 h4=>?_,λ_ _=>rfl⟩
   .simp only[Kl];rw[az.length];exact SRs.append (Zq _ _ dj az) (Bg _)
   .simp only[Kl,Qe];trivial
   .simp only[Kl,Qe] at h1;cases h1
   .simp only[Kl,Qe] at h1;cases h1
  refine h.calls hm PQ ?_;refine V3 eZ vc 0 _ _ _ M none _ trivial a_ hg λe s' ah M' h1 h2=>?_
  have main:(match XJ s' rs with
   |some (.map k)=>(match CV kk vk (Qe s'.own k) with
    |some m'=>post m'
    |none=>False)
   |_=>False)->Zo (Je ah M' rs) λv=>∃ v' aE,DropTo M v M' v' aE/\R v' aE:=λh=>by
   obtain⟨B',F',pl',tb',k1,k2⟩:=h2;split at h
   .rename_i k hr;split at h
    .rename_i m' lh;have g2:=h;have aN:=GJ lh;obtain⟨w,h3,h4⟩:=Xb k2 hr;rw[h3];simp only[SR] at h4;obtain⟨rfl,_⟩:=h4;have ao:=k2.obj k;rw[aN] at ao;have hle:M.Le M':=k1.f.trans k2.le;have mi:OR P B (X8 pl d (pl' k)) tb M' (pl' k) (.map kk vk m'):=ao.retd bC λ_ _=>rfl;have aq:(Qe s'.own k).live=true:=by rw[aN];rfl
     have fy:∀ i,Oid (pl' k) i->M.get i=none:=λi hi=>by
      cases hg:M.get i with
      |none=>rfl
      |some b =>have:=k2.fresh k i aq hi;have h9:=k1.f.2 _ _ hg;rw[this] at h9;cases h9
     have mj:Gam P B F (X8 pl d (pl' k)) tb (s.make d (.map kk vk m')) env M':=by
      refine hG.make d _ (pl' k) (hG.le.trans hle) (λj i _ hl hi=>?_) mi λi _ hi=>⟨?_,λj _ hl hj=>?_⟩
      .cases hg:M.get i with
       |none=>exact k1.d.2 i ((hG.obj j).q1a hl hi) hg
       |some bb=>exact hle.2 _ _ hg
      .cases hg:F.get i with
       |none=>rfl
       |some b=>have:=hG.le.2 _ _ hg;rw[fy i hi] at this;cases this
      .have af:=(hG.obj j).q1a hl hj;have:=k1.d.2 i af (fy i hi);obtain⟨id,es,clock,e1,e2,_⟩:=mi;rw[e1] at hi;obtain rfl:id=i:=osj hi;rw[this] at e2;cases e2
     refine⟨_,M',.refl _ _ _,hK _ _ B F _ tb _ M' (hx m' g2) (.of hG.bf k1.d) mj ?_⟩;obtain⟨id,es,clock,e1,_⟩:=mi;simp only[SR];exact⟨by simp[X8],_,e1⟩
    .exact h.elim
   .exact h.elim
  cases e with
  |normal=>exact main h1
  |ret=>exact main h1
  |_=>exact h1.elim
 .exact hx.elim
theorem Q6b {f:Nat}{vc:VCode}{rs:List VResult}{nt:Nat}(h:Fun P f vc rs nt) (hm:P.follows .mixedOrders=true) {ap:Ap}(dz:Q2b P ap) {kk vk:Kind}(bC:(kk.flat&&vk.flat)=true) {D:Type}{la:AL D}{pre:D->Prop}{res:D->List SV}{post:D->List (kk.T×vk.T)->Prop}
  {C:Cx}(aB:COk P C) {L:D->List (Nat×LoopAnn)}{V:D->Prop}
  (hq:∀ y,gwp C (L y) vc 0 (Z2g rs kk vk (post y)) (Kl nt (AL.can la y))=V y)
  (hb:∀ y,pre y->V y):XOk P f (Q6i ap kk vk (Z2k la pre res post)):=Q6m h hm bC λgh c vs q hs hc=>by
 unfold Z2k at hs;split at hs
 .rename_i y h2;obtain⟨rfl,rfl,rfl⟩:=(by simpa using hs:pre y=c/\res y=vs/\post y=q);exact⟨C,L y,AL.can la y,AL.q0n la y,λM vs hv=>AL.q0k dz la h2 hv,aB,(hq y).mpr (hb y hc)⟩
 .cases hs
end
end Go.V
namespace Go.V
open Go
abbrev KSp (kk vk:Kind):=Ap->List (kk.T×vk.T)->List SV->Option (Prop×SV×(List (kk.T×vk.T)->Prop))
def OY (ap:Ap) (j:Nat) (kk vk:Kind) (sp:KSp kk vk):XSp:=λ_ args s K =>
 match args[j]? with
 |some (.map o)=>(match CV kk vk (Qe s.own o) with
  |some m=>(match sp ap m (PE (oset s.own o .dead) (I8 j args)) with
   |some (c,v,post)=>bif v.ret 0 then c/\∀ m',post m'->K v ⟨s.env,oset s.own o (.map kk vk m'),s.nx⟩ else False
   |none=>False)
  |none=>False)
 |_=>False
def MB (nt j:Nat) (kk vk:Kind) (m:List (kk.T×vk.T)) (vals:List Value) (args:List SV):St:=⟨FH j (.map 0) args++List.replicate (nt-(args.length+1)) .any,[(0,.map kk vk m),(4000000,.stk [.map 0] vals)],0⟩
def Z57 {kk vk:Kind}{D:Type}(la:AL D) (pre:List (kk.T×vk.T)->D->Prop) (res:List (kk.T×vk.T)->D->SV) (post:List (kk.T×vk.T)->D->List (kk.T×vk.T)->Prop):KSp kk vk:=λap m gh=>match AL.dec ap la gh with
 |some a=>some (pre m a,res m a,post m a)
 |none=>none
section
variable {P:Program}
theorem Q74 {f:Nat}{vc:VCode}{rs:List VResult}{nt:Nat}(h:Fun P f vc rs nt) (hm:P.follows .mixedOrders=true) {kk vk:Kind}(bC:(kk.flat&&vk.flat)=true) {sp:KSp kk vk}{ap:Ap}{j:Nat}
  (hb:∀ m gh c v post,sp ap m gh=some (c,v,post)->c->∃ (C:Cx) (L:List Value->List (Nat×LoopAnn)) (e6:List SV),SVs.pure e6=true/\(∀ M vs,SRs P M Xd J9 gh vs->SRs P M Xd J9 e6 vs)/\COk P C/\∀ vals,gwp C (L vals) vc 0 (Q4j vals rs v kk vk post) (MB nt j kk vk m vals e6)):XOk P f (OY ap j kk vk sp):=by
 intro B F pl tb s env M d args vs K R hG ha hx hK;unfold OY at hx;split at hx
 .rename_i o gI;split at hx
  .rename_i m aG;have aN:=GJ aG;split at hx
   .rename_i c v post dF;cases cF:v.ret 0 with
    |false=>rw[cF] at hx;exact hx.elim
    |true =>
    rw[cF] at hx;obtain⟨hc,hx⟩:=hx;obtain⟨w,hw,rj,rk⟩:=Q1m j gI ha;simp only[SR] at hw;obtain rfl:w=pl o:=hw.1;have aq:(Qe s.own o).live=true:=by rw[aN];rfl
    have ao:=hG.obj o;rw[aN] at ao;obtain⟨id,es,clock,gY,bh,eI⟩:=ao;have oI:F.get id=none:=hG.fresh o id aq (by rw[gY];rfl);have mc:B.get id=none:=by
     cases hg:B.get id with
     |none=>rfl
     |some b=>have:=hG.bf.2 _ _ hg;rw[oI] at this;cases this
    obtain⟨C,L,e6,dj,mg,eZ,hg⟩:=hb _ _ c v post dF hc;have hg:=hg [pl o];have uO:oid (pl o)=some id:=by rw[gY];rfl
    let σc:=M.kill id;have pD:B.Le σc:=hG.leB.kill' mc;have rb:F.Le σc:=hG.le.kill' oI;have rn:σc.Le M:=Heap.q1x _ _;have bO:∀ k,k≠id->σc.get k=M.get k:=λk hk=>Heap.q0c _ hk;have bK:∀ d,OR P σc Xd J9 σc (pl d) ((Qe (oset s.own o .dead) d).kill d)\/True:=λ_=>.inr trivial;have uP:∀ (xs:List SV) (vs:List Value),SRs P B pl tb xs vs->SRs P σc Xd J9 (PE (oset s.own o .dead) xs) vs:=λxs vs bz=>by
     refine Wn (own:=oset s.own o .dead) pD (pl:=pl) (tb:=tb) (λd=>?_) bz;rw[Qr];by_cases e:d=o
     .rw[z3 e];trivial
     .rw[z0 e];exact(hG.obj d).mono (.refl _) (λ_ _ h=>h) λhl i hi=>bO _ λjB=>hG.sep d o i e hl aq hi (by rw[gY,jB];rfl)
    have az:=mg σc _ (uP _ _ rj);let je:Nat->Value:=λk=>if k=0 then pl o else poison
    have kN:∀ (B:Heap) (tb':Nat->Option Bool),SR P B je tb' (.map 0) (pl o):=λB tb'=>by simp only[SR];exact⟨by simp[je],_,gY⟩
    have a_:GRel P σc σc M (MB nt j kk vk m [pl o] e6) (vs++List.replicate (nt-vs.length) undef) M:=by
     refine⟨σc,σc,je,J9,⟨.refl _,.refl _,λ_ _ _ h=>h,.refl _⟩,.refl _,rn,?_,λk=>?_,λk i' h1 h2=>?_,λk k' i' mh h1 h2 h3 h4=>?_,λ_ _=>rfl⟩
     .have h0:=rk σc je J9 e6 (.map 0) (Zq _ _ dj az) (kN _ _);have hl:=h0.length;rw[Eb] at hl;simp only[MB];rw[hl];exact SRs.append h0 (Bg _)
     .simp only[MB,Qe];by_cases e0:k=0
      .subst e0;simp only[Nat.beq_refl,zl];exact⟨id,es,clock,by simp[je,gY],bh,eI.mono pD⟩
      .rw[ZP (λe=>e0 e.symm),cond_false];by_cases e1:k=4000000
       .subst e1;simp only[Nat.beq_refl,zl];exact⟨pl o,[],rfl,kN _ _,rfl⟩
       .rw[ZP (λe=>e1 e.symm),cond_false];trivial
     .simp only[MB,Qe] at h1;by_cases e0:k=0
      .subst e0;have:Oid (pl o) i':=by simpa [je] using h2
       rw[gY] at this;obtain rfl:id=i':=osj this;exact Heap.q0f _ _
      .rw[ZP (λe=>e0 e.symm),cond_false] at h1;by_cases e1:k=4000000
       .subst e1;cases h1
       .rw[ZP (λe=>e1 e.symm),cond_false] at h1;cases h1
     .have z:∀ k,(Qe (MB nt j kk vk m [pl o] e6).own k).live=true->k=0:=λk h1=>by
       simp only[MB,Qe] at h1;by_cases e0:k=0
       .exact e0
       .rw[ZP (λe=>e0 e.symm),cond_false] at h1;by_cases e1:k=4000000
        .subst e1;cases h1
        .rw[ZP (λe=>e1 e.symm),cond_false] at h1;cases h1
      exact mh ((z k h1).trans (z k' h2).symm)
    refine h.calls hm PQ ?_;refine V3 eZ vc 0 _ _ _ M none _ trivial a_ hg λe s' ah M' h1 h2=>?_
    have main:(match XJ s' rs,Qe s'.own 4000000,CV kk vk (Qe s'.own 0) with
     |some r,.stk l vs,some m'=>vs=[pl o]/\UH [(0,some 0)] [.map 0] l/\PS [] v r/\post m'
     |_,_,_=>False)->Zo (Je ah M' rs) λv=>∃ v' aE,DropTo M v M' v' aE/\R v' aE:=λh=>by
     obtain⟨B',F',pl',tb',k1,k2⟩:=h2;split at h
     .rename_i r l' cL m' hr gg rp;obtain⟨rfl,m1,m2,m3⟩:=h;have ij:=GJ rp;obtain⟨w,h3,h4⟩:=Xb k2 hr;rw[h3];have fC:=k2.obj 4000000;rw[gg] at fC;have mf:pl' 0=pl o:=by
       have:=Zp [.map 0] l' [pl o] m1 fC;simp only[SRs,SR] at this;obtain⟨u',_,cg,⟨h5,_⟩,_⟩:=this;obtain rfl:pl o=u':=(zP cg).1;simpa [Mk,QA] using h5.symm
      have iN:=k2.obj 0;rw[ij,mf] at iN;have c_:=(KN v r w m2 h4).retd (B':=B) (pl':=pl) (tb':=tb) (n:=0) (λj hj=>by omega) _ _ cF;have hle:σc.Le M':=k1.f.trans k2.le;have oJ:∀ d,d≠o->(Qe s.own d).live=true->∀ i,Oid (pl d) i->M'.get i=M.get i:=λd e hl i hi=>by
       have af:=(hG.obj d).q1a hl hi;have uQ:i≠id:=λjB=>hG.sep d o i e hl aq hi (by rw[gY,jB];rfl);cases hg:M.get i with
       |none=>exact k1.d.2 i af hg
       |some bb=>exact hle.2 _ _ (by rw[bO i uQ];exact hg)
      have bR:∀ d,(Qe (oset s.own o (.map kk vk m')) d).live=(Qe s.own d).live:=λd=>by
       rw[Qr];by_cases e:d=o
       .subst e;rw[z3 rfl,aq];rfl
       .rw[z0 e]
      refine⟨w,M',.refl _ _ _,hK v _ B F pl tb w M' (hx m' m3) (.of hG.bf k1.d) ⟨hG.bf,rb.trans hle,hG.env,λd=>?_,λd i q1 q2=>hG.fresh d i (by rw[<-bR d];exact q1) q2,λd d' i aw q1 q2 q3 q4=>hG.sep d d' i aw (by rw[<-bR d];exact q1) (by rw[<-bR d'];exact q2) q3 q4,hG.free⟩ c_⟩
      .simp only[Qr];by_cases e:d=o
       .subst e;rw[z3 rfl];exact iN.retd bC λ_ _=>rfl
       .rw[z0 e];exact(hG.obj d).mono (.refl _) (λ_ _ h=>h) λhl i hi=>oJ d e hl i hi
     .exact h.elim
    cases e with
    |normal=>exact main h1
    |ret=>exact main h1
    |_=>exact h1.elim
   .exact hx.elim
  .exact hx.elim
 .exact hx.elim
theorem Ag {f:Nat}{vc:VCode}{rs:List VResult}{nt:Nat}(h:Fun P f vc rs nt) (hm:P.follows .mixedOrders=true) {ap:Ap}(dz:Q2b P ap) {kk vk:Kind}(bC:(kk.flat&&vk.flat)=true) {j:Nat}{D:Type}{la:AL D}{pre:List (kk.T×vk.T)->D->Prop}{res:List (kk.T×vk.T)->D->SV}{post:List (kk.T×vk.T)->D->List (kk.T×vk.T)->Prop}
  {C:Cx}(aB:COk P C) {L:List (kk.T×vk.T)->D->List Value->List (Nat×LoopAnn)}{V:List (kk.T×vk.T)->D->Prop}
  (hq:∀ m y,(∀ vals,gwp C (L m y vals) vc 0 (Q4j vals rs (res m y) kk vk (post m y)) (MB nt j kk vk m vals (AL.can la y)))=V m y)
  (hb:∀ m y,pre m y->V m y):XOk P f (OY ap j kk vk (Z57 la pre res post)):=Q74 h hm bC λm gh c v q hs hc=>by
 unfold Z57 at hs;split at hs
 .rename_i y h2;obtain⟨rfl,rfl,rfl⟩:=(by simpa using hs:pre m y=c/\res m y=v/\post m y=q);exact⟨C,L m y,AL.can la y,AL.q0n la y,λM vs hv=>AL.q0k dz la h2 hv,aB,(hq m y).mpr (hb m y hc)⟩
 .cases hs
end
end Go.V
namespace Go.Proofs.Tryz
open Go Go.V Go.Proofs
def JO (n mo:Nat):List (Int×Int):=(List.range n).flatMap λ(a:Nat)=>(List.range (mo+1)).map λ(f:Nat)=>((a:Int),(f:Int))
def DF (n:Int) (p:Int×Int) (s:Int):Int×Int:=(Int.tmod (p.1+s) n,p.2+if s=1 then 0 else 1)
def Pd (n mo:Int) (p:Int×Int) (w:Int) (q:Int×Int) (s:Int):Int:=if DF n p s=q/\q.2<=mo then w else 0
def Ec (n mo:Int) (wv:Int->Bool) (p:Int×Int) (w:Int) (q:Int×Int):Int:=if wv p.1=true then Pd n mo p w q 0+Pd n mo p w q 1+Pd n mo p w q 2 else 0
def wyK (n mo:Nat) (wv:Nat->Int->Bool):Nat->Int×Int->Int
 |0,q=>if 0<=q.1/\q.1<(n:Int)/\q.2=0 then 1 else 0
 |k+1,q=>((JO n mo).map λp=>Ec n mo (wv k) p (wyK n mo wv k p) q).sum
def MapW (n mo:Nat) (m:List ((Int×Int)×Int)) (W:Int×Int->Int):Prop:=(m.map (·.1)).Nodup/\(∀ e∈m,e.2=W e.1/\0<e.2/\e.1∈JO n mo)/\∀ q,W q≠0->∃ e∈m,e.1=q
theorem Wb {n mo:Nat}{q:Int×Int}:q∈JO n mo<->(0<=q.1/\q.1<n)/\0<=q.2/\q.2<=mo:=by
 unfold JO;simp only[List.mem_flatMap,zA,zo];constructor
 .rintro⟨a,ha,f,hf,rfl⟩;dsimp only;omega
 .intro h;exact⟨q.1.toNat,by omega,q.2.toNat,by omega,by ext<;>dsimp only<;>omega⟩
theorem Gr (n mo:Nat):(JO n mo).Nodup:=by unfold JO;refine List.pairwise_flatMap.2 ⟨λa _=>xc.2 ((List.nodup_range (n:=mo+1)).imp λh e=>h (by have:=(Prod.ext_iff.1 e).2;dsimp only at this;omega)),(List.nodup_range (n:=n)).imp λ{a b} h x hx y hy e=>?_⟩;obtain⟨f,_,rfl⟩:=zo.1 hx;obtain⟨g,_,rfl⟩:=zo.1 hy;have:=(Prod.ext_iff.1 e).1;dsimp only at this;omega
theorem ID {l l':List Int}(h:l.Perm l'):l.sum=l'.sum:=by
 induction h with
 |nil=>rfl
 |cons x _ ih=>simp only[xT];omega
 |swap x y l=>simp only[xT];omega
 |trans _ _ h1 h2=>exact h1.trans h2
theorem T9 {α:Type}{f:α->Int}:∀ {l:List α},(∀ x∈l,f x=0)->(l.map f).sum=0
 |[],_=>rfl
 |x::l,h=>by rw[zE,xT,h x (zf ..),T9 λy hy=>h y (ze _ hy)];rfl
theorem Uj {α:Type}{f:α->Int}:∀ {l:List α},(∀ x∈l,0<=f x)->0<=(l.map f).sum
 |[],_=>Int.le_refl _
 |x::l,h=>by have h1:=h x (zf ..);have h2:=Uj (l:=l) λy hy=>h y (ze _ hy);rw[zE,xT];omega
theorem Cl {α:Type}(f:α->Int) (a b:List α):((a++b).map f).sum=(a.map f).sum+(b.map f).sum:=by rw[xC,List.sum_append_int]
theorem RN {n mo:Nat}{m:List ((Int×Int)×Int)}{W:Int×Int->Int}(h:MapW n mo m W) (G:Int×Int->Int->Int) (h0:∀ p,G p 0=0):(m.map λe=>G e.1 e.2).sum=((JO n mo).map λp=>G p (W p)).sum:=by
 obtain⟨h1,h2,h3⟩:=h;have e1:(m.map λe=>G e.1 e.2)=(m.map (·.1)).map λp=>G p (W p):=by
  rw[wA];exact xp λe he=>by show G e.1 e.2=G e.1 (W e.1);rw[(h2 e he).1]
 have hp:((m.map (·.1))++(JO n mo).filter λp=>!(m.map (·.1)).contains p).Perm (JO n mo):=by
  refine (xG (List.nodup_append.2 ⟨h1,(Gr n mo).filter _,λa ha b hb e=>?_⟩) (Gr n mo)).2 λa=>?_
  .subst e;have:=(zt.1 hb).2;simp at this;obtain⟨x,hx⟩:=zo.1 ha;exact this x.2 (by rw[<-hx.2];exact hx.1)
  .rw[zz,zt];constructor
   .rintro (h|h)
    .obtain⟨e,he,rfl⟩:=zo.1 h;exact(h2 e he).2.2
    .exact h.1
   .intro h;by_cases hc:a∈m.map (·.1)
    .exact .inl hc
    .exact .inr ⟨h,by simpa using hc⟩
 rw[e1,<-ID (hp.map λp=>G p (W p)),Cl];have:(((JO n mo).filter λp=>!(m.map (·.1)).contains p).map λp=>G p (W p)).sum=0:=T9 λp hp=>by
  have hc:=(zt.1 hp).2;have:W p=0:=by
   by_cases e:W p=0
   .exact e
   .obtain⟨x,hx,rfl⟩:=h3 p e;have:x.1∈m.map (·.1):=zo.2 ⟨x,hx,rfl⟩;simp[this] at hc
  rw[this,h0]
 rw[this];omega
def Wd (m:List ((Int×Int)×Int)) (k:Int×Int):Int:=gq.aget (.pair (.i .i64) (.i .i64)) m k 0
def Gf (m:List ((Int×Int)×Int)) (k:Int×Int) (v:Int):List ((Int×Int)×Int):=Nf (.pair (.i .i64) (.i .i64)) m k v
theorem Z6b {a b:Int×Int}:gq.keq (.pair (.i .i64) (.i .i64)) a b=true<->a=b:=by show ((a.1==b.1)&&(a.2==b.2))=true<->_;simp only[z4,zK,Prod.ext_iff]
theorem Vk (a:Int×Int) (b:Int) (m:List ((Int×Int)×Int)) (k:Int×Int):Wd ((a,b)::m) k=if k=a then b else Wd m k:=by
 show (if gq.keq (.pair (.i .i64) (.i .i64)) k a=true then b else gq.aget (.pair (.i .i64) (.i .i64)) m k 0)=_;by_cases h:k=a
 .rw[z3 (Z6b.2 h),z3 h]
 .rw[z0 (λe=>h (Z6b.1 e)),z0 h];rfl
theorem KZ (a:Int×Int) (b:Int) (m:List ((Int×Int)×Int)) (k:Int×Int) (v:Int):Gf ((a,b)::m) k v=if k=a then (k,v)::m else (a,b)::Gf m k v:=by
 show (if gq.keq (.pair (.i .i64) (.i .i64)) k a=true then (k,v)::m else (a,b)::Nf (.pair (.i .i64) (.i .i64)) m k v)=_;by_cases h:k=a
 .rw[z3 (Z6b.2 h),z3 h]
 .rw[z0 (λe=>h (Z6b.1 e)),z0 h];rfl
theorem Q31 {m:List ((Int×Int)×Int)}(hn:(m.map (·.1)).Nodup) {e:(Int×Int)×Int}(he:e∈m):Wd m e.1=e.2:=by
 induction m with
 |nil=>cases he
 |cons x m ih =>
  obtain⟨a,b⟩:=x;rw[zE,z_] at hn;rw[Vk];rcases zj.1 he with rfl|he
  .rw[z3 rfl]
  .have:e.1≠a:=λh=>hn.1 (by rw[<-h];exact zo.2 ⟨e,he,rfl⟩);rw[z0 this];exact ih hn.2 he
theorem EZ {k:Int×Int}:∀ {m:List ((Int×Int)×Int)},(∀ e∈m,e.1≠k)->Wd m k=0
 |[],_=>rfl
 |(a,b)::m,h=>by rw[Vk,z0 λe=>h (a,b) (zf ..) e.symm];exact EZ λe he=>h e (ze _ he)
theorem MapW.get {n mo:Nat}{m:List ((Int×Int)×Int)}{W:Int×Int->Int}(h:MapW n mo m W) (q:Int×Int):Wd m q=W q:=by
 by_cases hz:W q=0
 .rw[hz];refine EZ λe he hq=>?_;have:=h.2.1 e he;rw[hq,hz] at this;omega
 .obtain⟨e,he,rfl⟩:=h.2.2 q hz;rw[Q31 h.1 he];exact(h.2.1 e he).1
theorem IB (k:Int×Int) (v:Int):∀ (m:List ((Int×Int)×Int)),(m.map (·.1)).Nodup->(∀ e∈Gf m k v,e=(k,v)\/e∈m/\e.1≠k)/\(k,v)∈Gf m k v/\(∀ e∈m,e.1≠k->e∈Gf m k v)/\((Gf m k v).map (·.1)).Nodup
 |[],_=>⟨λe he=>.inl (zd.1 he),zd.2 rfl,λe he=>(by cases he),List.pairwise_singleton _ _⟩
 |(a,b)::m,hn=>by
  rw[zE,z_] at hn;obtain⟨h1,h2,h3,h4⟩:=IB k v m hn.2;rw[KZ];by_cases hk:k=a
  .subst hk;rw[z3 rfl];refine⟨λe he=>?_,zf ..,λe he aw=>?_,by rw[zE,z_];exact hn⟩
   .rcases zj.1 he with h|h
    .exact .inl h
    .exact .inr ⟨ze _ h,λe2=>hn.1 (zo.2 ⟨e,h,e2⟩)⟩
   .rcases zj.1 he with h|h
    .rw[h] at aw;exact(aw rfl).elim
    .exact ze _ h
  .rw[z0 hk];refine⟨λe he=>?_,ze _ h2,λe he aw=>?_,?_⟩
   .rcases zj.1 he with h|h
    .subst h;exact .inr ⟨zf ..,λe=>hk e.symm⟩
    .rcases h1 e h with h|h
     .exact .inl h
     .exact .inr ⟨ze _ h.1,h.2⟩
   .rcases zj.1 he with h|h
    .rw[h];exact zf ..
    .exact ze _ (h3 e h aw)
   .rw[zE,z_];refine⟨λhm=>?_,h4⟩;obtain⟨e,he,lx⟩:=zo.1 hm;rcases h1 e he with h|h
    .rw[h] at lx;exact hk lx
    .exact hn.1 (zo.2 ⟨e,h.1,lx⟩)
theorem MapW.add {n mo:Nat}{m:List ((Int×Int)×Int)}{W:Int×Int->Int}(h:MapW n mo m W) (hW:∀ q,0<=W q) {k:Int×Int}{w:Int}(hw:0<w) (hk:k∈JO n mo):MapW n mo (Gf m k (Wd m k+w)) (λq=>W q+if q=k then w else 0):=by
 obtain⟨p1,p2,p3,p4⟩:=IB k (Wd m k+w) m h.1;have hg:=h.get k;have vG:=hW k;refine⟨p4,λe he=>?_,λq hq=>?_⟩
 .rcases p1 e he with rfl|⟨h1,h2⟩
  .dsimp only;rw[z3 rfl];exact⟨by omega,by omega,hk⟩
  .dsimp only;rw[z0 h2];have:=h.2.1 e h1;exact⟨by omega,this.2⟩
 .by_cases e:q=k
  .exact⟨_,p2,e.symm⟩
  .dsimp only at hq;rw[z0 e] at hq;obtain⟨x,hx,rfl⟩:=h.2.2 q (by omega);exact⟨x,p3 x hx e,rfl⟩
theorem MapW.congr {n mo:Nat}{m:List ((Int×Int)×Int)}{W W':Int×Int->Int}(h:MapW n mo m W) (e:∀ q,W q=W' q):MapW n mo m W':=by have:W=W':=funext e;rw[<-this];exact h
theorem MapW.nil (n mo:Nat):MapW n mo [] λ_=>0:=⟨List.nodup_nil,(λe he=>by cases he),λq hq=>(hq rfl).elim⟩
theorem Na {n mo:Int}{p:Int×Int}{w:Int}{q:Int×Int}{s:Int}(hw:0<=w):0<=Pd n mo p w q s/\Pd n mo p w q s<=w:=by unfold Pd;split<;>omega
theorem TW {n mo:Int}{wv:Int->Bool}{p:Int×Int}{w:Int}{q:Int×Int}(hw:0<=w):0<=Ec n mo wv p w q:=by have h0:=(Na (n:=n) (mo:=mo) (p:=p) (q:=q) (s:=0) hw).1;have h1:=(Na (n:=n) (mo:=mo) (p:=p) (q:=q) (s:=1) hw).1;have h2:=(Na (n:=n) (mo:=mo) (p:=p) (q:=q) (s:=2) hw).1;unfold Ec;split<;>omega
theorem HN (n mo:Nat) (wv:Nat->Int->Bool):∀ k q,0<=wyK n mo wv k q
 |0,q=>by simp only[wyK];split<;>omega
 |k+1,q=>Uj λp _=>TW (HN n mo wv k p)
theorem An (n mo:Nat) (wv:Nat->Int->Bool) (hn:0<n):∀ k q,wyK n mo wv k q≠0->q∈JO n mo
 |0,q,h=>by
  simp only[wyK] at h;split at h
  .rename_i h2;rw[Wb];omega
  .exact(h rfl).elim
 |k+1,q,h=>by
  simp only[wyK] at h;by_cases hq:q∈JO n mo
  .exact hq
  .exfalso;refine h (T9 λp hp=>?_);rw[Wb] at hp hq;have z:∀ s:Int,0<=s->Pd n mo p (wyK n mo wv k p) q s=0:=λs hs=>by
    unfold Pd;rw[z0];rintro⟨h1,h2⟩;apply hq;have e1:=(Prod.ext_iff.1 h1).1;have e2:=(Prod.ext_iff.1 h1).2;unfold DF at e1 e2;dsimp only at e1 e2;rw[Int.tmod_eq_emod_of_nonneg (by omega)] at e1;have b1:=Int.emod_nonneg (p.1+s) (show (n:Int)≠0 by omega);have b2:=Int.emod_lt_of_pos (p.1+s) (show (0:Int)<n by omega);split at e2<;>omega
   unfold Ec;rw[z 0 (by omega),z 1 (by omega),z 2 (by omega)];split<;>rfl
theorem Q4t {α:Type}{f:α->Int}{B:Int}(hB:0<=B):∀ {l:List α},l.Nodup->(∀ x∈l,0<=f x/\f x<=B)->(∀ x∈l,∀ y∈l,f x≠0->f y≠0->x=y)->(l.map f).sum<=B
 |[],_,_,_=>hB
 |x::l,hn,hb,h1=>by
  rw[z_] at hn;rw[zE,xT];by_cases hx:f x=0
  .have:=Q4t hB hn.2 (λy hy=>hb y (ze _ hy)) λy hy z hz=>h1 y (ze _ hy) z (ze _ hz);omega
  .have hz:(l.map f).sum=0:=T9 λy hy=>by
    by_cases e:f y=0
    .exact e
    .exact(hn.1 (by rw[h1 x (zf ..) y (ze _ hy) hx e];exact hy)).elim
   have:=hb x (zf ..);omega
theorem Z2c {n:Int}{p p':Int×Int}{s:Int}(hs:0<=s) (h1:0<=p.1/\p.1<n) (h2:0<=p'.1/\p'.1<n) (h:DF n p s=DF n p' s):p=p':=by
 have e1:=(Prod.ext_iff.1 h).1;have e2:=(Prod.ext_iff.1 h).2;unfold DF at e1 e2;dsimp only at e1 e2;rw[Int.tmod_eq_emod_of_nonneg (by omega),Int.tmod_eq_emod_of_nonneg (by omega)] at e1;have h3:p.1=p'.1:=by
  have a1:=Int.emod_add_emod p.1 n s;have:=Int.emod_emod_of_dvd;have d:(p.1-p'.1) % n=0:=by
   have:(p.1+s-(p'.1+s)) % n=0:=Int.emod_eq_emod_iff_emod_sub_eq_zero.1 e1
   rwa [show p.1+s-(p'.1+s)=p.1-p'.1 by omega] at this
  obtain⟨c,hc⟩:=Int.dvd_of_emod_eq_zero d;have c1:c<1:=by
   by_cases h:1<=c
   .have:=Int.mul_le_mul_of_nonneg_left h (show 0<=n by omega);omega
   .omega
  have c2:-1<c:=by
   by_cases h:c<=-1
   .have:=Int.mul_le_mul_of_nonneg_left h (show 0<=n by omega);omega
   .omega
  have:c=0:=by omega
  rw[this] at hc;omega
 exact Prod.ext h3 (by omega)
theorem Q8d {α:Type}{f g:α->Int}:∀ {l:List α},(∀ x∈l,f x<=g x)->(l.map f).sum<=(l.map g).sum
 |[],_=>Int.le_refl _
 |x::l,h=>by have h1:=h x (zf ..);have h2:=Q8d (l:=l) λy hy=>h y (ze _ hy);rw[zE,zE,xT,xT];omega
theorem Ia {α:Type}(f g:α->Int):∀ (l:List α),(l.map λx=>f x+g x).sum=(l.map f).sum+(l.map g).sum
 |[]=>rfl
 |x::l=>by have:=Ia f g l;rw[zE,zE,zE,xT,xT,xT];omega
theorem Q3s {n mo:Nat}{V:Int×Int->Int}{q:Int×Int}{s B:Int}(hs:0<=s) (hB:0<=B) (hV:∀ p,0<=V p) (hb:∀ p∈JO n mo,DF n p s=q->V p<=B):((JO n mo).map λp=>Pd n mo p (V p) q s).sum<=B:=by
 refine Q4t hB (Gr n mo) (λp hp=>?_) λp hp p' bm h1 h2=>?_
 .have:=Na (n:=n) (mo:=mo) (p:=p) (q:=q) (s:=s) (hV p);refine⟨this.1,?_⟩;by_cases hq:DF n p s=q
  .have:=hb p hp hq;omega
  .unfold Pd;rw[z0 λh=>hq h.1];exact hB
 .rw[Wb] at hp bm;have e1:DF n p s=q:=by
   by_cases h:DF n p s=q
   .exact h
   .unfold Pd at h1;rw[z0 λh'=>h h'.1] at h1;exact(h1 rfl).elim
  have e2:DF n p' s=q:=by
   by_cases h:DF n p' s=q
   .exact h
   .unfold Pd at h2;rw[z0 λh'=>h h'.1] at h2;exact(h2 rfl).elim
  exact Z2c hs hp.1 bm.1 (e1.trans e2.symm)
theorem IZ {n mo:Nat}(wv:Nat->Int->Bool) (hn:0<n):∀ (k:Nat) (q:Int×Int),0<=q.2->wyK n mo wv k q<=((2*k+1) ^ q.2.toNat:Nat)
 |0,q,hq=>by simp only[wyK];have:0<(2*0+1) ^ q.2.toNat:=Nat.pow_pos (by omega);split<;>omega
 |k+1,q,hq=>by
  have jL:=HN n mo wv k;have h0:wyK n mo wv (k+1) q<=((JO n mo).map λp=>(Pd n mo p (wyK n mo wv k p) q 0+Pd n mo p (wyK n mo wv k p) q 1)+Pd n mo p (wyK n mo wv k p) q 2).sum:=Q8d λp _=>by have a0:=(Na (n:=n) (mo:=mo) (p:=p) (q:=q) (s:=0) (jL p)).1;have a1:=(Na (n:=n) (mo:=mo) (p:=p) (q:=q) (s:=1) (jL p)).1;have a2:=(Na (n:=n) (mo:=mo) (p:=p) (q:=q) (s:=2) (jL p)).1;unfold Ec;split<;>omega
  rw[Ia,Ia] at h0;obtain⟨f,hf⟩:∃ f:Nat,q.2=f:=⟨q.2.toNat,by omega⟩;have b1:((JO n mo).map λp=>Pd n mo p (wyK n mo wv k p) q 1).sum<=((2*k+1) ^ f:Nat):=Q3s (by omega) (by omega) jL λp hp he=>by
   rw[Wb] at hp;have e2:=(Prod.ext_iff.1 he).2;unfold DF at e2;dsimp only at e2;rw[z3 rfl] at e2;have:=IZ (n:=n) (mo:=mo) wv hn k p hp.2.1
   rwa [show p.2.toNat=f by omega] at this
  have bs:∀ s:Int,0<=s->s≠1->((JO n mo).map λp=>Pd n mo p (wyK n mo wv k p) q s).sum<=((if f=0 then 0 else (2*k+1) ^ (f-1):Nat):Int):=λs hs iE=>Q3s hs (by omega) jL λp hp he=>by
   rw[Wb] at hp;have e2:=(Prod.ext_iff.1 he).2;unfold DF at e2;dsimp only at e2;rw[z0 iE] at e2;have:=IZ (n:=n) (mo:=mo) wv hn k p hp.2.1;rw[z0 (by omega)]
   rwa [show p.2.toNat=f-1 by omega] at this
  have b0:=bs 0 (by omega) (by omega);have b2:=bs 2 (by omega) (by omega);rw[hf,zh];have key:(2*k+1) ^ f+2*(if f=0 then 0 else (2*k+1) ^ (f-1))<=(2*(k+1)+1) ^ f:=by
   cases f with
   |zero=>simp
   |succ g =>
    rw[z0 (by omega),Nat.add_sub_cancel];have hp:(2*k+1) ^ g<=(2*(k+1)+1) ^ g:=Nat.pow_le_pow_left (by omega) g;have h1:(2*k+1) ^ (g+1)+2*(2*k+1) ^ g=(2*k+1) ^ g*(2*(k+1)+1):=by
     rw[Nat.pow_succ];generalize (2*k+1) ^ g=A;have:A*(2*(k+1)+1)=A*(2*k+1)+A*2:=by rw[<-Nat.mul_add];congr 1
     omega
    rw[h1,Nat.pow_succ];exact zD _ hp
  omega
theorem O7 {α:Type}{d:α}{m:List α}{F:α->Int}{dn:List Nat}(hn:dn.Nodup) (af:∀ r∈dn,r<m.length) (hF:∀ x∈m,0<=F x):(dn.map λr=>F (m.getD r d)).sum<=(m.map F).sum/\((∀ r,r<m.length->r∈dn)->(dn.map λr=>F (m.getD r d)).sum=(m.map F).sum):=by
 have e:m.map F=(List.range m.length).map λr=>F (m.getD r d):=by
  refine List.ext_getElem (by simp) λi h1 h2=>?_;have hi:i<m.length:=by simpa using h1
  rw[xS,xS,List.getElem_range,Qc hi]
 have hp:(dn++(List.range m.length).filter λr=>!dn.contains r).Perm (List.range m.length):=by
  refine (xG (List.nodup_append.2 ⟨hn,(List.nodup_range (n:=m.length)).filter _,λa ha b hb e=>?_⟩) List.nodup_range).2 λa=>?_
  .subst e;have:=(zt.1 hb).2;simp[ha] at this
  .rw[zz,zt,zA];constructor
   .rintro (h|h)
    .exact af a h
    .exact h.1
   .intro h;by_cases hc:a∈dn
    .exact .inl hc
    .exact .inr ⟨h,by simpa using hc⟩
 rw[e,<-ID (hp.map λr=>F (m.getD r d)),Cl];constructor
 .have:0<=(((List.range m.length).filter λr=>!dn.contains r).map λr=>F (m.getD r d)).sum:=Uj λr hr=>by
   have hr:=zA.1 (zt.1 hr).1;rw[Qc hr];exact hF _ (zu hr)
  omega
 .intro h;have:(List.range m.length).filter (λr=>!dn.contains r)=[]:=List.filter_eq_nil_iff.2 λr hr=>by have:=h r (zA.1 hr);simp[this]
  rw[this];simp
def wvB (hk:Int) (cs:List Ka) (cl:List Int) (k:Nat) (a:Int):Bool:=(cl.getD k 0==-1)||(cl.getD k 0==DM hk (cs.getD a.toNat Vx))
theorem ES (k:Int×Int) (a b:Int):∀ m:List ((Int×Int)×Int),Gf (Gf m k a) k b=Gf m k b
 |[]=>by show Gf [(k,a)] k b=[(k,b)];rw[KZ,z3 rfl]
 |(x,v)::m=>by
  rw[KZ,KZ];by_cases h:k=x
  .rw[z3 h,z3 h,KZ,z3 rfl]
  .rw[z0 h,z0 h,KZ,z0 h,ES k a b m]
theorem Ee (k q:Int×Int) (v:Int):∀ m:List ((Int×Int)×Int),Wd (Gf m k v) q=if q=k then v else Wd m q
 |[]=>by show Wd [(k,v)] q=_;rw[Vk]
 |(x,w)::m=>by
  rw[KZ];by_cases h:k=x
  .subst h;rw[z3 rfl,Vk,Vk];split<;>rfl
  .rw[z0 h,Vk,Ee k q v m,Vk];by_cases h2:q=x
   .subst h2;rw[z3 rfl,z3 rfl,z0 (λe=>h e.symm)]
   .rw[z0 h2,z0 h2]
def Q13 (n mo:Int) (p:Int×Int) (w:Int) (m:List ((Int×Int)×Int)) (s:Int):List ((Int×Int)×Int):=if (DF n p s).2<=mo then Gf m (DF n p s) (Wd m (DF n p s)+w) else m
def Z2p (n mo:Int) (p:Int×Int) (w:Int) (m:List ((Int×Int)×Int)):List ((Int×Int)×Int):=Q13 n mo p w (Q13 n mo p w (Q13 n mo p w m 0) 1) 2
theorem Q5s (n mo:Int) (p:Int×Int) (w:Int) (m:List ((Int×Int)×Int)) (s:Int) (q:Int×Int):Wd (Q13 n mo p w m s) q=Wd m q+Pd n mo p w q s:=by
 unfold Q13 Pd;by_cases h:(DF n p s).2<=mo
 .rw[z3 h,Ee];by_cases e:q=DF n p s
  .rw[z3 e,z3 ⟨e.symm,by rw[e];exact h⟩,e]
  .rw[z0 e,z0 (λx=>e x.1.symm)];omega
 .rw[z0 h,z0 (λx=>h (by rw[x.1];exact x.2))];omega
theorem Q1n {n mo:Nat}{m:List ((Int×Int)×Int)}{W:Int×Int->Int}(h:MapW n mo m W) (hW:∀ q,0<=W q) {p:Int×Int}{w s:Int}(hw:0<w) (hn:0<n) (hp:0<=p.1/\0<=p.2) (hs:0<=s):MapW n mo (Q13 n mo p w m s) (λq=>W q+Pd n mo p w q s):=by
 unfold Q13;by_cases hc:(DF n p s).2<=mo
 .rw[z3 hc];refine (h.add hW hw (k:=DF n p s) ?_).congr λq=>?_
  .rw[Wb];have b1:=Int.emod_nonneg (p.1+s) (show (n:Int)≠0 by omega);have b2:=Int.emod_lt_of_pos (p.1+s) (show (0:Int)<n by omega);refine⟨?_,?_,hc⟩
   .unfold DF;dsimp only;rw[Int.tmod_eq_emod_of_nonneg (by omega)];exact⟨b1,b2⟩
   .unfold DF;dsimp only;split<;>omega
  .unfold Pd;by_cases e:q=DF n p s
   .rw[z3 e,z3 ⟨e.symm,by rw[e];exact hc⟩]
   .rw[z0 e,z0 (λx=>e x.1.symm)]
 .rw[z0 hc];exact h.congr λq=>by
   unfold Pd;rw[z0 (λx=>hc (by rw[x.1];exact x.2))];omega
theorem Z4h {n mo:Nat}{m:List ((Int×Int)×Int)}{W:Int×Int->Int}(h:MapW n mo m W) (hW:∀ q,0<=W q) {p:Int×Int}{w:Int}(hw:0<w) (hn:0<n) (hp:0<=p.1/\0<=p.2):MapW n mo (Z2p n mo p w m) (λq=>W q+(Pd n mo p w q 0+Pd n mo p w q 1+Pd n mo p w q 2)):=by have z:=λq s=>(Na (n:=n) (mo:=mo) (p:=p) (q:=q) (s:=s) (Int.le_of_lt hw)).1;have h1:=Q1n h hW hw hn hp (s:=0) (by omega);have h2:=Q1n h1 (λq=>by have:=hW q;have:=z q 0;omega) hw hn hp (s:=1) (by omega);have h3:=Q1n h2 (λq=>by have:=hW q;have:=z q 0;have:=z q 1;omega) hw hn hp (s:=2) (by omega);exact h3.congr λq=>by omega
def Yq:AL (Int×Int×(List (Int×Int×Bool))×Int):=(.cons (.k (.i .i64)) (.one (.ptr (.cons (.k (.i .i64)) (.cons (.k (.list (.pair (.i .i64) (.pair (.i .i64) .bo)))) (.one (.k (.i .i64))))))))
def Ny (d:Int×Int×(List (Int×Int×Bool))×Int):Prop:=1<=d.2.2.2/\d.2.2.2<=24
def WI (d:Int×Int×(List (Int×Int×Bool))×Int):SV:=.val .bo (decide (d.1≠-1)&&!inI d.1 0 (2 ^ d.2.2.2.toNat-1))
def W_ (d:Int×Int×(List (Int×Int×Bool))×Int):List OB:=[]
def Xy:CSp:=Ko Yq Ny WI W_
def ZZ (r:Int) (hk:Int) (cs:List (Int×Int×Bool)) (f:Int):Prop :=
 ((r != (-1:Int))=true->True)/\((r != (-1:Int))=true->1<=f/\f<=24/\[r].length<=1000000)/\(((r != (-1:Int))&&(!(!([r].any λn=>!inI n 0 (2 ^ f.toNat-1)))))=(decide (r≠-1)&&!inI r 0 (2 ^ f.toNat-1))/\(True))
def Yj:Cx:=⟨[(3,(.i .i64))],[(102,Jj)],14,[],0,[],[],[],[],false,[],[],[],[]⟩
def M3 (r:Int) (hk:Int) (cs:List (Int×Int×Bool)) (f:Int):List (Nat×LoopAnn):=[]
theorem NQ (d:Int×Int×(List (Int×Int×Bool))×Int):gwp (Yj) (M3 d.1 d.2.1 d.2.2.1 d.2.2.2) Z73 0 (KQ [.tmp 3] (WI d) (W_ d)) (QI 14 (AL.can Yq d))=ZZ d.1 d.2.1 d.2.2.1 d.2.2.2:=by kernel_rfl
abbrev M7:Prop:=OkC Tryz.prog 112 Xy
theorem N_ (h:∀ (r:Int) (hk:Int) (cs:List (Int×Int×Bool)) (f:Int),(1<=f/\f<=24)->ZZ r hk cs f):OkC Tryz.prog 112 Xy :=
 QT Q2p mixed (C:=Yj) (V:=λ(d:Int×Int×(List (Int×Int×Bool))×Int)=>ZZ d.1 d.2.1 d.2.2.1 d.2.2.2) ⟨(.cons Yd .nil),XsOk.nil,ItsOk.nil,YlOk.nil,IysOk.nil,XfOk.nil⟩ (NQ) λd hp=>h d.1 d.2.1 d.2.2.1 d.2.2.2 hp
theorem NZ:M7:=N_ λr hk cs f h=>by
 unfold ZZ;(try delta lI gD sT I64 X4 pj8 pj4);refine⟨λ_=>trivial,λ_=>⟨h.1,h.2,by simp⟩,?_,trivial⟩;simp only[List.any_cons,List.any_nil,w4,Bool.not_not];congr 1;by_cases e:r=-1
 .subst e;rfl
 .simp[e]
def Dc:AL (Int):=(.one (.k (.i .i64)))
def TV (d:Int):Prop:=True
def Ml (d:Int):SV:=.val (.i .i64) (if d=1 then 0 else 1)
def Ms (d:Int):List OB:=[]
def N2:CSp:=Ko Dc TV Ml Ms
def YS (s:Int):Prop :=
 ((s==(1:Int))=true ->
  ((0:Int)=(if s=1 then 0 else 1)/\(True))) /\
 ((s==(1:Int))=false ->
  ((1:Int)=(if s=1 then 0 else 1)/\(True)))
def Dr:Cx:=⟨[],[],5,[],0,[],[],[],[],false,[],[],[],[]⟩
def Sl (s:Int):List (Nat×LoopAnn):=[]
theorem S1 (d:Int):gwp (Dr) (Sl d) c77 0 (KQ [.tmp 2] (Ml d) (Ms d)) (QI 5 (AL.can Dc d))=YS d:=by kernel_rfl
abbrev RZ:Prop:=OkC Tryz.prog 77 N2
theorem Sn (h:∀ (s:Int),(True)->YS s):OkC Tryz.prog 77 N2 :=
 QT Z0l mixed (C:=Dr) (V:=λ(d:Int)=>YS d) ⟨.nil,XsOk.nil,ItsOk.nil,YlOk.nil,IysOk.nil,XfOk.nil⟩ (S1) λd hp=>h d hp
theorem So:RZ:=Sn λs _=>by
 unfold YS;(try delta lI gD sT I64 X4 pj8 pj4);refine⟨λc=>⟨?_,trivial⟩,λc=>⟨?_,trivial⟩⟩
 .rw[z3 (eq_of_beq c)]
 .rw[z0 (λe=>by rw[e] at c;cases c)]
def Wv:AL ((Int×(List (Int×Int×Bool))×Int×List Int)×Int×Int):=(.cons (.agg (.cons (.k (.i .i64)) (.cons (.k (.list (.pair (.i .i64) (.pair (.i .i64) .bo)))) (.cons (.k (.i .i64)) (.one (.k (.list (.i .i64)))))))) (.cons (.k (.i .i64)) (.one (.k (.i .i64)))))
def Uf (d:(Int×(List (Int×Int×Bool))×Int×List Int)×Int×Int):Prop:=1<=d.1.2.2.1/\d.1.2.2.1<=24/\0<=d.2.1/\d.2.1<d.1.2.2.2.length/\0<=d.2.2/\d.2.2<d.1.2.1.length/\∀ c∈d.1.2.1,QL d.1.2.2.1 c=true
def W5 (d:(Int×(List (Int×Int×Bool))×Int×List Int)×Int×Int):SV:=.val .bo (wvB d.1.2.2.1 d.1.2.1 d.1.2.2.2 d.2.1.toNat d.2.2)
def W3 (d:(Int×(List (Int×Int×Bool))×Int×List Int)×Int×Int):List OB:=[]
def JZ:CSp:=Ko Wv Uf W5 W3
def Zx (hk:Int) (cs:List (Int×Int×Bool)) (f:Int) (cl:List Int) (pk:Int) (at_:Int):Prop :=
 (0<=pk)/\(pk<(List.length cl))/\(((gD cl pk 0)==(-1:Int))=false->0<=pk)/\(((gD cl pk 0)==(-1:Int))=false->pk<(List.length cl))/\(((gD cl pk 0)==(-1:Int))=false->1<=f/\f<=24/\0<=at_/\at_<cs.length/\∀ c∈cs,QL f c=true)/\((((gD cl pk 0)==(-1:Int))||((gD cl pk 0)==(DM f (cs.getD at_.toNat Vx))))=(wvB f cs cl pk.toNat at_)/\(True))
def Wz:Cx:=⟨[],[(104,WS)],25,[],0,[],[],[],[],false,[],[],[],[]⟩
def Uz (hk:Int) (cs:List (Int×Int×Bool)) (f:Int) (cl:List Int) (pk:Int) (at_:Int):List (Nat×LoopAnn):=[]
theorem UG (d:(Int×(List (Int×Int×Bool))×Int×List Int)×Int×Int):gwp (Wz) (Uz d.1.1 d.1.2.1 d.1.2.2.1 d.1.2.2.2 d.2.1 d.2.2) Z6z 0 (KQ [.tmp 6] (W5 d) (W3 d)) (QI 25 (AL.can Wv d))=Zx d.1.1 d.1.2.1 d.1.2.2.1 d.1.2.2.2 d.2.1 d.2.2:=by kernel_rfl
abbrev UK:Prop:=OkC Tryz.prog 116 JZ
theorem UO (h:∀ (hk:Int) (cs:List (Int×Int×Bool)) (f:Int) (cl:List Int) (pk:Int) (at_:Int),(1<=f/\f<=24/\0<=pk/\pk<cl.length/\0<=at_/\at_<cs.length/\∀ c∈cs,QL f c=true)->Zx hk cs f cl pk at_):OkC Tryz.prog 116 JZ :=
 QT Q34 mixed (C:=Wz) (V:=λ(d:(Int×(List (Int×Int×Bool))×Int×List Int)×Int×Int)=>Zx d.1.1 d.1.2.1 d.1.2.2.1 d.1.2.2.2 d.2.1 d.2.2) ⟨(.cons B3 .nil),XsOk.nil,ItsOk.nil,YlOk.nil,IysOk.nil,XfOk.nil⟩ (UG) λd hp=>h d.1.1 d.1.2.1 d.1.2.2.1 d.1.2.2.2 d.2.1 d.2.2 hp
theorem UI:UK:=UO λhk cs f cl pk at_ h=>by obtain⟨h1,h2,h3,h4,h5,h6,h7⟩:=h;unfold Zx;(try delta lI gD sT I64 X4 pj8 pj4);exact⟨h3,h4,λ_=>h3,λ_=>h4,λ_=>⟨h1,h2,h5,h6,h7⟩,(by and_intros<;>first|rfl|trivial|simp)⟩
def Y4:AL ((Int×(List (Int×Int×Bool))×Int×List Int)×(Int×Int)×Int×Int):=(.cons (.agg (.cons (.k (.i .i64)) (.cons (.k (.list (.pair (.i .i64) (.pair (.i .i64) .bo)))) (.cons (.k (.i .i64)) (.one (.k (.list (.i .i64)))))))) (.cons (.agg (.cons (.k (.i .i64)) (.one (.k (.i .i64))))) (.cons (.k (.i .i64)) (.one (.k (.i .i64))))))
def Nk (m:List ((Int×Int)×Int)) (a:(Int×(List (Int×Int×Bool))×Int×List Int)×(Int×Int)×Int×Int):Prop:=0<=a.2.1.1/\a.2.1.1<a.1.2.1.length/\a.1.2.1.length<=60/\0<=a.2.1.2/\a.2.1.2<=6/\0<=a.2.2.2/\a.2.2.2<=6/\0<=a.2.2.1/\a.2.2.1<=4000000000000000/\∀ q,0<=Wd m q/\Wd m q<=4000000000000000
def WV (m:List ((Int×Int)×Int)) (a:(Int×(List (Int×Int×Bool))×Int×List Int)×(Int×Int)×Int×Int):SV:=.tup []
def Wp (m:List ((Int×Int)×Int)) (a:(Int×(List (Int×Int×Bool))×Int×List Int)×(Int×Int)×Int×Int) (m2:List ((Int×Int)×Int)):Prop:=m2=Z2p a.1.2.1.length a.2.2.2 (a.2.1.1,a.2.1.2) a.2.2.1 m
def XF:XSp:=OY Uq 1 (.pair (.i .i64) (.i .i64)) (.i .i64) (Z57 Y4 Nk WV Wp)
def J0 (m:List ((Int×Int)×Int)) (hk:Int) (cs:List (Int×Int×Bool)) (f:Int) (cl:List Int) (sa:Int) (sf:Int) (wy:Int) (mo:Int):Prop:=∀ vals:List Value,
 ∃ (e3:Unit) (d30:(List ((Int×Int)×Int))×Int),((True/\wy=wy/\mo=mo/\True/\True/\(0:Int)=d30.2/\True)/\((m=d30.1)/\(hk=hk/\cs=cs/\f=f/\cl=cl/\(([]:List SV)=[]))/\(sa=sa/\sf=sf/\(([]:List SV)=[]))/\(vals=vals/\(True/\(([]:List SV)=[])))/\True)) /\
 LoopP (λ(d3:(List ((Int×Int)×Int))×Int) (q3:((List ((Int×Int)×Int))×Int)->Prop) =>
  ((decide (d3.2<(3:Int)))=true ->
   (cs≠[]/\cs.length<=1000/\-1000000<=sa/\sa<=1000000/\-1000000<=d3.2/\d3.2<=1000000)/\(True)/\(I64 (sf+(if d3.2=1 then 0 else 1)))/\((True/\wy=wy/\mo=mo/\True/\True/\True/\d3.2=d3.2/\((Int.tmod (sa+d3.2) cs.length)=(Int.tmod (sa+d3.2) cs.length)/\(sf+(if d3.2=1 then 0 else 1))=(sf+(if d3.2=1 then 0 else 1))/\(([]:List SV)=[]))/\True)/\((d3.1=d3.1)/\(hk=hk/\cs=cs/\f=f/\cl=cl/\(([]:List SV)=[]))/\(sa=sa/\sf=sf/\(([]:List SV)=[]))/\((0:Int)=(0:Int)/\(0:Int)=(0:Int)/\(([]:List SV)=[]))/\(vals=vals/\(True/\(([]:List SV)=[])))/\True))/\((cs≠[]/\cs.length<=1000/\-1000000<=sa/\sa<=1000000/\-1000000<=d3.2/\d3.2<=1000000)/\(True)/\(I64 (sf+(if d3.2=1 then 0 else 1)))/\((True/\wy=wy/\mo=mo/\True/\True/\True/\d3.2=d3.2/\((Int.tmod (sa+d3.2) cs.length)=(Int.tmod (sa+d3.2) cs.length)/\(sf+(if d3.2=1 then 0 else 1))=(sf+(if d3.2=1 then 0 else 1))/\(([]:List SV)=[]))/\True)/\((d3.1=d3.1)/\(hk=hk/\cs=cs/\f=f/\cl=cl/\(([]:List SV)=[]))/\(sa=sa/\sf=sf/\(([]:List SV)=[]))/\((0:Int)=(0:Int)/\(0:Int)=(0:Int)/\(([]:List SV)=[]))/\(vals=vals/\(True/\(([]:List SV)=[])))/\True)))/\((cs≠[]/\cs.length<=1000/\-1000000<=sa/\sa<=1000000/\-1000000<=d3.2/\d3.2<=1000000)/\(True)/\(I64 (sf+(if d3.2=1 then 0 else 1)))/\((True/\wy=wy/\mo=mo/\True/\True/\True/\d3.2=d3.2/\((Int.tmod (sa+d3.2) cs.length)=(Int.tmod (sa+d3.2) cs.length)/\(sf+(if d3.2=1 then 0 else 1))=(sf+(if d3.2=1 then 0 else 1))/\(([]:List SV)=[]))/\True)/\((d3.1=d3.1)/\(hk=hk/\cs=cs/\f=f/\cl=cl/\(([]:List SV)=[]))/\(sa=sa/\sf=sf/\(([]:List SV)=[]))/\((0:Int)=(0:Int)/\(0:Int)=(0:Int)/\(([]:List SV)=[]))/\(vals=vals/\(True/\(([]:List SV)=[])))/\True)))/\((decide ((sf+(if d3.2=1 then 0 else 1))<=mo))=true ->
    (I64 ((gq.aget (.pair (.i .i64) (.i .i64)) d3.1 ((Int.tmod (sa+d3.2) cs.length),(sf+(if d3.2=1 then 0 else 1))) 0)+wy))/\∀ n4:Int,
     n4=n4 /\
     (I64 (d3.2+(1:Int)))/\(∃ d5:(List ((Int×Int)×Int))×Int,((True/\wy=wy/\mo=mo/\True/\True/\(d3.2+(1:Int))=d5.2/\True)/\(((Nf (.pair (.i .i64) (.i .i64)) (Nf (.pair (.i .i64) (.i .i64)) d3.1 ((Int.tmod (sa+d3.2) cs.length),(sf+(if d3.2=1 then 0 else 1))) (gq.aget (.pair (.i .i64) (.i .i64)) d3.1 ((Int.tmod (sa+d3.2) cs.length),(sf+(if d3.2=1 then 0 else 1))) 0)) ((Int.tmod (sa+d3.2) cs.length),(sf+(if d3.2=1 then 0 else 1))) ((gq.aget (.pair (.i .i64) (.i .i64)) d3.1 ((Int.tmod (sa+d3.2) cs.length),(sf+(if d3.2=1 then 0 else 1))) 0)+wy))=d5.1)/\(hk=hk/\cs=cs/\f=f/\cl=cl/\(([]:List SV)=[]))/\(sa=sa/\sf=sf/\(([]:List SV)=[]))/\(vals=vals/\(True/\(([]:List SV)=[])))/\True))/\q3 d5)) /\
   ((decide ((sf+(if d3.2=1 then 0 else 1))<=mo))=false ->
    (I64 (d3.2+(1:Int)))/\(∃ d6:(List ((Int×Int)×Int))×Int,((True/\wy=wy/\mo=mo/\True/\True/\(d3.2+(1:Int))=d6.2/\True)/\((d3.1=d6.1)/\(hk=hk/\cs=cs/\f=f/\cl=cl/\(([]:List SV)=[]))/\(sa=sa/\sf=sf/\(([]:List SV)=[]))/\(vals=vals/\(True/\(([]:List SV)=[])))/\True))/\q3 d6))) /\
  ((decide (d3.2<(3:Int)))=false ->
   (vals=vals/\(True/\(([]:List SV)=[]))/\((([]:List SV)=[]))/\(d3.1=Z2p cs.length mo (sa,sf) wy m)))) d30
def Ye:Cx:=⟨[],[(78,Xg),(77,N2)],39,[],0,[],[],[],[1,3,4,5,7,11,12,26],false,[],[],[],[]⟩
def Yl (m:List ((Int×Int)×Int)) (hk:Int) (cs:List (Int×Int×Bool)) (f:Int) (cl:List Int) (sa:Int) (sf:Int) (wy:Int) (mo:Int) (vals:List Value):List (Nat×LoopAnn):=[(0,⟨Unit,(List ((Int×Int)×Int))×Int,[1,3,4,5,7,12],λe x=>[.map 0,.val (.i .i64) wy,.val (.i .i64) mo,.box 5 0,.box 7 0,.val (.i .i64) x.2],λe x=>[(0,.slot 1,.map (.pair (.i .i64) (.i .i64)) (.i .i64) x.1),(5,.slot 5,.cells [.val (.i .i64) hk,.val (.list (.pair (.i .i64) (.pair (.i .i64) .bo))) cs,.val (.i .i64) f,.val (.list (.i .i64)) cl] (some 134)),(7,.slot 7,.cells [.val (.i .i64) sa,.val (.i .i64) sf] (some 145)),(4000000,.key 4000000,.stk [.map 0] vals)]⟩)]
theorem M4 (m:List ((Int×Int)×Int)) (a:(Int×(List (Int×Int×Bool))×Int×List Int)×(Int×Int)×Int×Int):(∀ vals,gwp Ye (Yl m a.1.1 a.1.2.1 a.1.2.2.1 a.1.2.2.2 a.2.1.1 a.2.1.2 a.2.2.1 a.2.2.2 vals) Z6r 0 (Q4j vals [] (WV m a) (.pair (.i .i64) (.i .i64)) (.i .i64) (Wp m a)) (MB 39 1 (.pair (.i .i64) (.i .i64)) (.i .i64) m vals (AL.can Y4 a)))=J0 m a.1.1 a.1.2.1 a.1.2.2.1 a.1.2.2.2 a.2.1.1 a.2.1.2 a.2.2.1 a.2.2.2:=by kernel_rfl
abbrev Mc:Prop:=XOk Tryz.prog 145 XF
theorem Mf (h:∀ (m:List ((Int×Int)×Int)) (hk:Int) (cs:List (Int×Int×Bool)) (f:Int) (cl:List Int) (sa:Int) (sf:Int) (wy:Int) (mo:Int),(0<=sa/\sa<cs.length/\cs.length<=60/\0<=sf/\sf<=6/\0<=mo/\mo<=6/\0<=wy/\wy<=4000000000000000/\∀ q,0<=Wd m q/\Wd m q<=4000000000000000)->J0 m hk cs f cl sa sf wy mo):XOk Tryz.prog 145 XF :=
 Ag Q4z mixed X_ rfl (C:=Ye) ⟨(.cons Vq (.cons So .nil)),XsOk.nil,ItsOk.nil,YlOk.nil,IysOk.nil,XfOk.nil⟩ (L:=λm (a:(Int×(List (Int×Int×Bool))×Int×List Int)×(Int×Int)×Int×Int) vals=>Yl m a.1.1 a.1.2.1 a.1.2.2.1 a.1.2.2.2 a.2.1.1 a.2.1.2 a.2.2.1 a.2.2.2 vals) (V:=λm (a:(Int×(List (Int×Int×Bool))×Int×List Int)×(Int×Int)×Int×Int)=>J0 m a.1.1 a.1.2.1 a.1.2.2.1 a.1.2.2.2 a.2.1.1 a.2.1.2 a.2.2.1 a.2.2.2) M4 λm a hp=>h m a.1.1 a.1.2.1 a.1.2.2.1 a.1.2.2.2 a.2.1.1 a.2.1.2 a.2.2.1 a.2.2.2 hp
theorem N3:Mc:=Mf λm hk cs f cl sa sf wy mo h=>by
 obtain⟨h1,h2,h3,h4,h5,h6,h7,h8,h9,b7⟩:=h;unfold J0;(try delta lI gD sT I64 X4 pj8 pj4);intro vals;have aw:cs≠[]:=λe=>by rw[e] at h2;simp at h2;omega
 refine⟨(),(m,0),(by and_intros<;>first|rfl|trivial),?_⟩
 let P:Nat->List ((Int×Int)×Int):=λk=>match k with
  |0=>m
  |1=>Q13 cs.length mo (sa,sf) wy m 0
  |2=>Q13 cs.length mo (sa,sf) wy (Q13 cs.length mo (sa,sf) wy m 0) 1
  |_=>Z2p cs.length mo (sa,sf) wy m
 have hP:∀ k:Nat,k<3->P (k+1)=Q13 cs.length mo (sa,sf) wy (P k) k:=λk hk=>by
  match k,hk with
  |0,_=>rfl
  |1,_=>rfl
  |2,_=>rfl
 have hb:∀ k:Nat,k<=3->∀ q,0<=Wd (P k) q/\Wd (P k) q<=4000000000000000+k*4000000000000000:=λk=>by
  induction k with
  |zero=>intro _ q;have:=b7 q;exact⟨this.1,by show Wd m q<=_;omega⟩
  |succ k ih =>intro hk q;rw[hP k (by omega),Q5s];have a1:=ih (by omega) q;have a2:=Na (n:=cs.length) (mo:=mo) (p:=(sa,sf)) (q:=q) (s:=(k:Int)) h8;omega
 refine LoopP.count2 3 (λk d=>d=P k) rfl ?_;intro k d nG hd q hq;subst hd;dsimp only;refine⟨λg=>?_,λg=>?_⟩
 .have g:k<3:=by have:=zg g;omega
  have cA:=λx'=>hq x' g;have hs:I64 (sf+(if (k:Int)=1 then 0 else 1)):=by (try delta I64);simp only[Qd];split<;>omega
  have iO:cs≠[]/\cs.length<=1000/\-1000000<=sa/\sa<=1000000/\-1000000<=(k:Int)/\(k:Int)<=1000000:=⟨aw,by omega,by omega,by omega,by omega,by omega⟩;refine⟨iO,trivial,hs,by and_intros<;>first|rfl|trivial,⟨iO,trivial,hs,by and_intros<;>first|rfl|trivial⟩,⟨iO,trivial,hs,by and_intros<;>first|rfl|trivial⟩,λc=>?_,λc=>?_⟩
  .have c:=zg c;have vH:=hb k (by omega) (DF cs.length (sa,sf) k);have e1:gq.aget (.pair (.i .i64) (.i .i64)) (P k) ((Int.tmod (sa+(k:Int)) cs.length),(sf+(if (k:Int)=1 then 0 else 1))) (0:Int)=Wd (P k) (DF cs.length (sa,sf) k):=rfl;refine⟨?_,λn4=>⟨rfl,?_,?_⟩⟩
   .rw[e1];simp only[Qd];omega
   .simp only[Qd];omega
   .refine⟨(P (k+1),(k:Int)+1),?_,cA _ rfl⟩;have e2:P (k+1)=Gf (Gf (P k) (DF cs.length (sa,sf) k) (Wd (P k) (DF cs.length (sa,sf) k))) (DF cs.length (sa,sf) k) (Wd (P k) (DF cs.length (sa,sf) k)+wy):=by
     rw[ES,hP k g];unfold Q13;rw[z3 (show (DF cs.length (sa,sf) k).2<=mo from c)]
    refine⟨by and_intros<;>first|rfl|trivial,?_⟩;refine⟨e2.symm,?_⟩;and_intros<;>first|rfl|trivial
  .have c:=zm c;refine⟨by simp only[Qd];omega,(P (k+1),(k:Int)+1),⟨by and_intros<;>first|rfl|trivial,?_⟩,cA _ rfl⟩;refine⟨?_,by and_intros<;>first|rfl|trivial⟩;show P k=P (k+1);rw[hP k g];unfold Q13;rw[z0 (show ¬ (DF cs.length (sa,sf) k).2<=mo from c)]
 .have g:k=3:=by have:=zm g;omega
  subst g;and_intros<;>first|rfl|trivial
theorem Gu:∀ {l m:List Nat},l.Nodup->(∀ x∈l,x∈m)->l.length<=m.length
 |[],_,_,_=>Nat.zero_le _
 |x::l,m,hn,hs=>by rw[z_] at hn;have hx:x∈m:=hs x (zf ..);have:=Gu (l:=l) (m:=m.erase x) hn.2 λy hy=>(List.mem_erase_of_ne (by rintro rfl;exact hn.1 hy)).2 (hs y (ze _ hy));rw[List.length_erase_of_mem hx] at this;have:=List.length_pos_of_mem hx;rw[zT];omega
theorem HO {dn:List Nat}{r:Nat}(h:dn.Nodup) (hr:r∉dn):(dn++[r]).Nodup :=
 List.nodup_append.2 ⟨h,List.pairwise_singleton _ _,λa ha b hb e=>by rw[zd] at hb;subst hb;subst e;exact hr ha⟩
theorem LoopP.rng {X:Type}{F:X×List Nat->(X×List Nat->Prop)->Prop}(n:Nat) (J:X->List Nat->Prop) {x0:X}(h0:J x0 [])
  (hr:∀ (x:X) (dn:List Nat),dn.Nodup->(∀ r∈dn,r<n)->J x dn->∀ q:X×List Nat->Prop,(∀ (r:Nat) (x':X),r<n->r∉dn->J x' (dn++[r])->q (x',dn++[r]))->F (x,dn) q):LoopP F (x0,[]):=by
 refine⟨λd=>d.2.Nodup/\(∀ r∈d.2,r<n)/\J d.1 d.2,λd=>n-d.2.length,⟨List.nodup_nil,(λr hr=>by cases hr),h0⟩,λ⟨x,dn⟩ ⟨h1,h2,h3⟩=>?_⟩;have h1:dn.Nodup:=h1;refine hr x dn h1 h2 h3 _ λr x' af fP hJ=>?_;have hn:=HO h1 fP;have hb:∀ y∈dn++[r],y<n:=λy hy=>by
  rcases zz.1 hy with h|h
  .exact h2 y h
  .rw[zd] at h;omega
 refine⟨⟨hn,hb,hJ⟩,?_⟩;have:=Gu hn (m:=List.range n) λy hy=>zA.2 (hb y hy);rw[wj,zH,xe] at this;have e:(dn++[r]).length=dn.length+1:=by simp
 show n-(dn++[r]).length<n-dn.length;omega
theorem J06 {b e:Nat}(hb:b<=121) (he:e<=6):b ^ e<=3138428376721:=by
 have h1:b ^ e<=121 ^ e:=Nat.pow_le_pow_left hb e;have h2:121 ^ e<=121 ^ 6:=Nat.pow_le_pow_right (by omega) he;have h3:121 ^ 6=3138428376721:=by decide
 omega
theorem Z3d {n mo:Nat}(wv:Nat->Int->Bool) (hn:0<n) (mU:mo<=6) {k:Nat}(hk:k<=60) (q:Int×Int):0<=wyK n mo wv k q/\wyK n mo wv k q<=4000000000000000:=by
 refine⟨HN n mo wv k q,?_⟩;by_cases hz:wyK n mo wv k q=0
 .omega
 .have hg:=Wb.1 (An n mo wv hn k q hz);have h1:=IZ (n:=n) (mo:=mo) wv hn k q hg.2.1;have h2:=J06 (b:=2*k+1) (e:=q.2.toNat) (by omega) (by omega);omega
def Z26 (k:Nat) (q:Int×Int):Int:=if 0<=q.1/\q.1<(k:Int)/\q.2=0 then 1 else 0
theorem Q73 {n mo:Nat}{m:List ((Int×Int)×Int)}{k:Nat}(h:MapW n mo m (Z26 k)) (hk:k<n):MapW n mo (Gf m ((k:Int),0) 1) (Z26 (k+1)):=by
 have hg:Wd m ((k:Int),0)=0:=by rw[h.get];unfold Z26;rw[z0 (by dsimp only;omega)]
 have:=h.add (λq=>by unfold Z26;split<;>omega) (k:=((k:Int),0)) (w:=1) (by omega) (by rw[Wb];dsimp only;omega);rw[hg] at this;refine this.congr λq=>?_;unfold Z26;by_cases e:q=((k:Int),0)
 .subst e;rw[z0 (by dsimp only;omega),z3 rfl,z3 (by dsimp only;omega)];rfl
 .rw[z0 e];have:¬ (q.1=k/\q.2=0):=λh=>e (Prod.ext h.1 h.2);by_cases c:0<=q.1/\q.1<(k:Int)/\q.2=0
  .rw[z3 c,z3 (by omega)];rfl
  .rw[z0 c,z0 (by omega)];rfl
def Z1i (n mo:Nat) (wv:Int->Bool) (m:List ((Int×Int)×Int)) (dn:List Nat) (q:Int×Int):Int:=(dn.map λr=>Ec n mo wv (m.getD r ((0,0),0)).1 (m.getD r ((0,0),0)).2 q).sum
theorem Eu (n mo:Nat) (wv:Int->Bool) (m:List ((Int×Int)×Int)) (dn:List Nat) (r:Nat) (q:Int×Int):Z1i n mo wv m (dn++[r]) q=Z1i n mo wv m dn q+Ec n mo wv (m.getD r ((0,0),0)).1 (m.getD r ((0,0),0)).2 q:=by unfold Z1i;rw[Cl];simp
theorem Q90 {n mo:Nat}{wv:Nat->Int->Bool}{k:Nat}{m:List ((Int×Int)×Int)}(h:MapW n mo m (wyK n mo wv k)) {dn:List Nat}(hn:dn.Nodup) (af:∀ r∈dn,r<m.length) (q:Int×Int) :
  0<=Z1i n mo (wv k) m dn q/\Z1i n mo (wv k) m dn q<=wyK n mo wv (k+1) q/\((∀ r,r<m.length->r∈dn)->Z1i n mo (wv k) m dn q=wyK n mo wv (k+1) q):=by
 have bE:∀ x∈m,0<=Ec n mo (wv k) x.1 x.2 q:=λx hx=>TW (Int.le_of_lt (h.2.1 x hx).2.1);have h1:=O7 (d:=(((0,0),0):(Int×Int)×Int)) (F:=λx=>Ec n mo (wv k) x.1 x.2 q) hn af bE;have h2:=RN h (λp w=>Ec n mo (wv k) p w q) λp=>by
  unfold Ec Pd;split
  .split<;>split<;>split<;>rfl
  .rfl
 have e:wyK n mo wv (k+1) q=((JO n mo).map λp=>Ec n mo (wv k) p (wyK n mo wv k p) q).sum:=rfl;rw[e,<-h2];refine⟨Uj λr hr=>?_,h1.1,h1.2⟩;have:=af r hr;rw[Qc this];exact bE _ (zu this)
def Y7:AL ((Int×(List (Int×Int×Bool))×Int×List Int)×Int):=(.cons (.agg (.cons (.k (.i .i64)) (.cons (.k (.list (.pair (.i .i64) (.pair (.i .i64) .bo)))) (.cons (.k (.i .i64)) (.one (.k (.list (.i .i64)))))))) (.one (.k (.i .i64))))
def U_ (a:(Int×(List (Int×Int×Bool))×Int×List Int)×Int):Prop:=a.1.2.2.1=a.1.1/\Qg a.1.1 a.1.2.1=0/\a.1.2.2.2.length<=60/\(∀ r∈a.1.2.2.2,-1<=r/\r<2 ^ a.1.1.toNat)/\0<=a.2/\a.2<=6
def N0 (a:(Int×(List (Int×Int×Bool))×Int×List Int)×Int):List SV:=[]
def Wl (a:(Int×(List (Int×Int×Bool))×Int×List Int)×Int) (m:List ((Int×Int)×Int)):Prop:=MapW a.1.2.1.length a.2.toNat m (wyK a.1.2.1.length a.2.toNat (λk=>wvB a.1.1 a.1.2.1 a.1.2.2.2 k) a.1.2.2.2.length)
def XA:XSp:=Q6i Uq (.pair (.i .i64) (.i .i64)) (.i .i64) (Z2k Y7 U_ N0 Wl)
abbrev Y6 (hk:Int) (cs:List (Int×Int×Bool)) (f:Int) (cl:List Int):=(hk=hk/\cs=cs/\f=f/\cl=cl/\(([]:List SV)=[]))
def J2 (hk:Int) (cs:List (Int×Int×Bool)) (f:Int) (cl:List Int) (mo:Int):Prop :=
 ∃ (e3:Unit) (d30:(List ((Int×Int)×Int))×Int),((mo=mo/\True/\True/\(lI cs)=(lI cs)/\(0:Int)=d30.2/\True)/\((Y6 hk cs f cl)/\(([]:List ((Int×Int)×Int))=d30.1)/\True)) /\
 LoopP (λ(d3:(List ((Int×Int)×Int))×Int) (q3:((List ((Int×Int)×Int))×Int)->Prop) =>
  ((decide (d3.2<(lI cs)))=true ->
   (I64 (d3.2+(1:Int)))/\(∃ d4:(List ((Int×Int)×Int))×Int,((mo=mo/\True/\True/\(lI cs)=(lI cs)/\(d3.2+(1:Int))=d4.2/\True)/\((Y6 hk cs f cl)/\((Nf (.pair (.i .i64) (.i .i64)) d3.1 (d3.2,(0:Int)) (1:Int))=d4.1)/\True))/\q3 d4)) /\
  ((decide (d3.2<(lI cs)))=false ->
   ∃ (e7:Unit) (d70:(List ((Int×Int)×Int))×Int),((mo=mo/\True/\True/\(lI cl)=(lI cl)/\(0:Int)=d70.2/\True)/\((Y6 hk cs f cl)/\(d3.1=d70.1)/\True)) /\
   LoopP (λ(d7:(List ((Int×Int)×Int))×Int) (q7:((List ((Int×Int)×Int))×Int)->Prop) =>
    ((decide (d7.2<(lI cl)))=true ->
     ∃ (aD:Int×Int×(List ((Int×Int)×Int))) (d100:(List ((Int×Int)×Int))×(List Nat)),((mo=mo/\True/\d7.2=aD.1/\True/\(lI cl)=(lI cl)/\d7.2=aD.2.1/\True/\True)/\((Y6 hk cs f cl)/\(([]:List ((Int×Int)×Int))=d100.1)/\(d7.1=aD.2.2/\([]:List Nat)=d100.2)/\True)) /\
     LoopP (λ(d10:(List ((Int×Int)×Int))×(List Nat)) (jP:((List ((Int×Int)×Int))×(List Nat))->Prop) =>
      ((∀ r:Nat,r<(List.length aD.2.2)->r∈d10.2) ->
       (false=true ->
        (d10.2≠[])/\(1<=f/\f<=24/\0<=aD.1/\aD.1<cl.length/\0<=((List.getD aD.2.2 (List.getLastD d10.2 0) ((0,0),0)).1.1)/\((List.getD aD.2.2 (List.getLastD d10.2 0) ((0,0),0)).1.1)<cs.length/\∀ c∈cs,QL f c=true)/\((wvB f cs cl aD.1.toNat ((List.getD aD.2.2 (List.getLastD d10.2 0) ((0,0),0)).1.1))=true ->
         (0<=((List.getD aD.2.2 (List.getLastD d10.2 0) ((0,0),0)).1.1)/\((List.getD aD.2.2 (List.getLastD d10.2 0) ((0,0),0)).1.1)<cs.length/\cs.length<=60/\0<=((List.getD aD.2.2 (List.getLastD d10.2 0) ((0,0),0)).1.2)/\((List.getD aD.2.2 (List.getLastD d10.2 0) ((0,0),0)).1.2)<=6/\0<=mo/\mo<=6/\0<=((List.getD aD.2.2 (List.getLastD d10.2 0) ((0,0),0)).2)/\((List.getD aD.2.2 (List.getLastD d10.2 0) ((0,0),0)).2)<=4000000000000000/\∀ q,0<=Wd d10.1 q/\Wd d10.1 q<=4000000000000000)/\(∀ ml:List ((Int×Int)×Int),(ml=Z2p cs.length mo (((List.getD aD.2.2 (List.getLastD d10.2 0) ((0,0),0)).1.1),((List.getD aD.2.2 (List.getLastD d10.2 0) ((0,0),0)).1.2)) ((List.getD aD.2.2 (List.getLastD d10.2 0) ((0,0),0)).2) d10.1)->(∃ d13:(List ((Int×Int)×Int))×(List Nat),((mo=mo/\True/\aD.1=aD.1/\True/\(lI cl)=(lI cl)/\aD.2.1=aD.2.1/\True/\True)/\((Y6 hk cs f cl)/\(ml=d13.1)/\(aD.2.2=aD.2.2/\d10.2=d13.2)/\True))/\jP d13))) /\
        ((wvB f cs cl aD.1.toNat ((List.getD aD.2.2 (List.getLastD d10.2 0) ((0,0),0)).1.1))=false ->
         (∃ d14:(List ((Int×Int)×Int))×(List Nat),((mo=mo/\True/\aD.1=aD.1/\True/\(lI cl)=(lI cl)/\aD.2.1=aD.2.1/\True/\True)/\((Y6 hk cs f cl)/\(d10.1=d14.1)/\(aD.2.2=aD.2.2/\d10.2=d14.2)/\True))/\jP d14))) /\
       (false=false ->
        (I64 (aD.2.1+(1:Int)))/\(∃ d15:(List ((Int×Int)×Int))×Int,((mo=mo/\True/\True/\(lI cl)=(lI cl)/\(aD.2.1+(1:Int))=d15.2/\True)/\((Y6 hk cs f cl)/\(d10.1=d15.1)/\True))/\q7 d15))) /\
      (∀ fg:Nat,fg<(List.length aD.2.2)->fg∉d10.2 ->
       (true=true ->
        ((d10.2++[fg])≠[])/\(1<=f/\f<=24/\0<=aD.1/\aD.1<cl.length/\0<=((List.getD aD.2.2 (List.getLastD (d10.2++[fg]) 0) ((0,0),0)).1.1)/\((List.getD aD.2.2 (List.getLastD (d10.2++[fg]) 0) ((0,0),0)).1.1)<cs.length/\∀ c∈cs,QL f c=true)/\((wvB f cs cl aD.1.toNat ((List.getD aD.2.2 (List.getLastD (d10.2++[fg]) 0) ((0,0),0)).1.1))=true ->
         (0<=((List.getD aD.2.2 (List.getLastD (d10.2++[fg]) 0) ((0,0),0)).1.1)/\((List.getD aD.2.2 (List.getLastD (d10.2++[fg]) 0) ((0,0),0)).1.1)<cs.length/\cs.length<=60/\0<=((List.getD aD.2.2 (List.getLastD (d10.2++[fg]) 0) ((0,0),0)).1.2)/\((List.getD aD.2.2 (List.getLastD (d10.2++[fg]) 0) ((0,0),0)).1.2)<=6/\0<=mo/\mo<=6/\0<=((List.getD aD.2.2 (List.getLastD (d10.2++[fg]) 0) ((0,0),0)).2)/\((List.getD aD.2.2 (List.getLastD (d10.2++[fg]) 0) ((0,0),0)).2)<=4000000000000000/\∀ q,0<=Wd d10.1 q/\Wd d10.1 q<=4000000000000000)/\(∀ si:List ((Int×Int)×Int),(si=Z2p cs.length mo (((List.getD aD.2.2 (List.getLastD (d10.2++[fg]) 0) ((0,0),0)).1.1),((List.getD aD.2.2 (List.getLastD (d10.2++[fg]) 0) ((0,0),0)).1.2)) ((List.getD aD.2.2 (List.getLastD (d10.2++[fg]) 0) ((0,0),0)).2) d10.1)->(∃ d17:(List ((Int×Int)×Int))×(List Nat),((mo=mo/\True/\aD.1=aD.1/\True/\(lI cl)=(lI cl)/\aD.2.1=aD.2.1/\True/\True)/\((Y6 hk cs f cl)/\(si=d17.1)/\(aD.2.2=aD.2.2/\(d10.2++[fg])=d17.2)/\True))/\jP d17))) /\
        ((wvB f cs cl aD.1.toNat ((List.getD aD.2.2 (List.getLastD (d10.2++[fg]) 0) ((0,0),0)).1.1))=false ->
         (∃ d18:(List ((Int×Int)×Int))×(List Nat),((mo=mo/\True/\aD.1=aD.1/\True/\(lI cl)=(lI cl)/\aD.2.1=aD.2.1/\True/\True)/\((Y6 hk cs f cl)/\(d10.1=d18.1)/\(aD.2.2=aD.2.2/\(d10.2++[fg])=d18.2)/\True))/\jP d18))) /\
       (true=false ->
        (I64 (aD.2.1+(1:Int)))/\(∃ d19:(List ((Int×Int)×Int))×Int,((mo=mo/\True/\True/\(lI cl)=(lI cl)/\(aD.2.1+(1:Int))=d19.2/\True)/\((Y6 hk cs f cl)/\(d10.1=d19.1)/\True))/\q7 d19)))) d100) /\
    ((decide (d7.2<(lI cl)))=false ->
     (MapW cs.length mo.toNat d7.1 (wyK cs.length mo.toNat (λk=>wvB hk cs cl k) cl.length)))) d70)) d30
def Yg:Cx:=⟨[(1000011,(.pair (.pair (.i .i64) (.i .i64)) (.i .i64))),(1000030,(.pair (.pair (.i .i64) (.i .i64)) (.i .i64)))],[(116,JZ)],52,[],0,[(145,XF)],[],[],[],false,[],[],[],[]⟩
def Yv (hk:Int) (cs:List (Int×Int×Bool)) (f:Int) (cl:List Int) (mo:Int):List (Nat×LoopAnn):=[(0,⟨Unit,(List ((Int×Int)×Int))×Int,[1,2,5,16,17],λe x=>[.val (.i .i64) mo,.box 2 0,.map 11,.val (.i .i64) (((List.length cs):Nat):Int),.val (.i .i64) x.2],λe x=>[(2,.slot 2,.cells [.val (.i .i64) hk,.val (.list (.pair (.i .i64) (.pair (.i .i64) .bo))) cs,.val (.i .i64) f,.val (.list (.i .i64)) cl] (some 134)),(11,.slot 5,.map (.pair (.i .i64) (.i .i64)) (.i .i64) x.1)]⟩),
 (2,⟨Unit,(List ((Int×Int)×Int))×Int,[1,2,5,26,27],λe x=>[.val (.i .i64) mo,.box 2 0,.map 11,.val (.i .i64) (((List.length cl):Nat):Int),.val (.i .i64) x.2],λe x=>[(2,.slot 2,.cells [.val (.i .i64) hk,.val (.list (.pair (.i .i64) (.pair (.i .i64) .bo))) cs,.val (.i .i64) f,.val (.list (.i .i64)) cl] (some 134)),(11,.slot 5,.map (.pair (.i .i64) (.i .i64)) (.i .i64) x.1)]⟩),
 (4,⟨Int×Int×(List ((Int×Int)×Int)),(List ((Int×Int)×Int))×(List Nat),[1,2,7,8,26,27,32],λe x=>[.val (.i .i64) mo,.box 2 0,.val (.i .i64) e.1,.map 30,.val (.i .i64) (((List.length cl):Nat):Int),.val (.i .i64) e.2.1,.box 32 0],λe x=>[(2,.slot 2,.cells [.val (.i .i64) hk,.val (.list (.pair (.i .i64) (.pair (.i .i64) .bo))) cs,.val (.i .i64) f,.val (.list (.i .i64)) cl] (some 134)),(30,.slot 8,.map (.pair (.i .i64) (.i .i64)) (.i .i64) x.1),(32,.slot 32,.iter (.pair (.i .i64) (.i .i64)) (.i .i64) e.2.2 x.2)]⟩)]
theorem NT (a:(Int×(List (Int×Int×Bool))×Int×List Int)×Int):gwp Yg (Yv a.1.1 a.1.2.1 a.1.2.2.1 a.1.2.2.2 a.2) Z6t 0 (Z2g [.tmp 4] (.pair (.i .i64) (.i .i64)) (.i .i64) (Wl a)) (Kl 52 (AL.can Y7 a))=J2 a.1.1 a.1.2.1 a.1.2.2.1 a.1.2.2.2 a.2:=by kernel_rfl
abbrev Mg:Prop:=XOk Tryz.prog 118 XA
theorem Mi (h:∀ (hk:Int) (cs:List (Int×Int×Bool)) (f:Int) (cl:List Int) (mo:Int),(f=hk/\Qg hk cs=0/\cl.length<=60/\(∀ r∈cl,-1<=r/\r<2 ^ hk.toNat)/\0<=mo/\mo<=6)->J2 hk cs f cl mo):XOk Tryz.prog 118 XA :=
 Q6b Q53 mixed X_ rfl (C:=Yg) ⟨(.cons UI .nil),(XsOk.cons N3 XsOk.nil),ItsOk.nil,YlOk.nil,IysOk.nil,XfOk.nil⟩ (L:=λ(a:(Int×(List (Int×Int×Bool))×Int×List Int)×Int)=>Yv a.1.1 a.1.2.1 a.1.2.2.1 a.1.2.2.2 a.2) (V:=λ(a:(Int×(List (Int×Int×Bool))×Int×List Int)×Int)=>J2 a.1.1 a.1.2.1 a.1.2.2.1 a.1.2.2.2 a.2) NT λa hp=>h a.1.1 a.1.2.1 a.1.2.2.1 a.1.2.2.2 a.2 hp
theorem N7:Mg:=Mi λhk cs f cl mo h=>by
 obtain⟨h1,h2,h3,h4,h5,h6⟩:=h;subst h1;obtain⟨hf,cz,aw,ai⟩:=KU h2;have bE:=xP.2 aw;unfold J2;(try delta Y6);(try delta lI gD sT I64 X4 pj8 pj4);refine⟨(),([],0),(by and_intros<;>first|rfl|trivial),?_⟩;refine LoopP.count2 cs.length (λk m=>MapW cs.length mo.toNat m (Z26 k)) ((MapW.nil _ _).congr λq=>by unfold Z26;rw[z0 (by omega)]) ?_;intro k m hk hm q hq;dsimp only;refine⟨λg=>?_,λg=>?_⟩
 .have g:k<cs.length:=by have:=zg g;omega
  refine⟨by simp only[Qd];omega,(Gf m ((k:Int),0) 1,(k:Int)+1),(by and_intros<;>first|rfl|trivial),hq _ g (Q73 hm g)⟩
 .have g:k=cs.length:=by have:=zm g;omega
  subst g;refine⟨(),(m,0),(by and_intros<;>first|rfl|trivial),?_⟩;refine LoopP.count2 cl.length (λk m=>MapW cs.length mo.toNat m (wyK cs.length mo.toNat (λk=>wvB f cs cl k) k)) (hm.congr λq=>rfl) ?_;clear hm hq;intro k m hk hm q hq;dsimp only;refine⟨λg=>?_,λg=>?_⟩
  .have g:k<cl.length:=by have:=zg g;omega
   refine⟨((k:Int),(k:Int),m),([],[]),(by and_intros<;>first|rfl|trivial),?_⟩;refine LoopP.rng m.length (λx dn=>MapW cs.length mo.toNat x (Z1i cs.length mo.toNat (wvB f cs cl k) m dn)) ((MapW.nil _ _).congr λq=>rfl) ?_;intro x dn hn af hx q' cA;dsimp only;refine⟨λae=>⟨(λc=>by cases c),λ_=>⟨by simp only[Qd];omega,(x,(k:Int)+1),(by and_intros<;>first|rfl|trivial),hq _ g ?_⟩⟩,λr hr fP=>⟨λ_=>?_,(λc=>by cases c)⟩⟩
   .exact hx.congr λq=>(Q90 (wv:=λk=>wvB f cs cl k) hm hn af q).2.2 ae
   .have dZ:List.getLastD (dn++[r]) 0=r:=by simp
    have aI:m[r]∈m:=zu hr;have he:=hm.2.1 _ aI;have mn:=Wb.1 he.2.2;have hW:=Z3d (n:=cs.length) (mo:=mo.toNat) (λk=>wvB f cs cl k) bE (by omega) (k:=k) (by omega) m[r].1;have oK:=λq=>Q90 (wv:=λk=>wvB f cs cl k) hm hn af q;have uR:=λq=>Z3d (n:=cs.length) (mo:=mo.toNat) (λk=>wvB f cs cl k) bE (by omega) (k:=k+1) (by omega) q;simp only[dZ,Qc hr,zh];refine⟨by simp,⟨hf.1,hf.2,by omega,by omega,mn.1.1,mn.1.2,ai⟩,λc=>⟨⟨mn.1.1,mn.1.2,cz,mn.2.1,by omega,h5,h6,by omega,by omega,λq=>?_⟩,λm' rp=>⟨(m',dn++[r]),(by and_intros<;>first|rfl|trivial),cA r m' hr fP ?_⟩⟩,λc=>⟨(x,dn++[r]),(by and_intros<;>first|rfl|trivial),cA r x hr fP ?_⟩⟩
    .rw[hx.get q];have:=oK q;have:=uR q;omega
    .subst rp;have mU:((mo.toNat:Nat):Int)=mo:=by omega
     have:=Z4h hx (λq=>(oK q).1) (p:=m[r].1) (w:=m[r].2) he.2.1 bE ⟨mn.1.1,mn.2.1⟩;rw[mU] at this;refine MapW.congr this λq=>?_;rw[Eu,Qc hr];unfold Ec;rw[z3 c,mU]
    .refine hx.congr λq=>?_;rw[Eu,Qc hr];unfold Ec;rw[z0 (by rw[c];decide)];omega
  .have g:k=cl.length:=by have:=zm g;omega
   subst g;exact hm
def I9 (hk:Int) (cs:List Ka) (cl:List Int) (fa:Int):Int:=((JO cs.length fa.toNat).map (wyK cs.length fa.toNat (λk=>wvB hk cs cl k) cl.length)).sum
theorem Q6j (n mo:Nat):(JO n mo).length=n*(mo+1):=by
 unfold JO;rw[List.length_flatMap];have:(λ(a:Nat)=>((List.range (mo+1)).map λ(f:Nat)=>(((a:Int),(f:Int)):Int×Int)).length)=λ_=>mo+1:=by funext a;simp
 rw[this];induction n with
 |zero=>simp
 |succ n ih=>rw[List.range_succ,xC,List.sum_append,ih];simp[Nat.succ_mul]
theorem Q4n {α:Type}{f:α->Int}{B:Int}:∀ {l:List α},(∀ x∈l,f x<=B)->(l.map f).sum<=l.length*B
 |[],_=>by simp
 |x::l,h=>by
  have h1:=h x (zf ..);have h2:=Q4n (l:=l) λy hy=>h y (ze _ hy);rw[zE,xT,zT];have:((l.length+1:Nat):Int)*B=l.length*B+B:=by rw[Int.natCast_add,Int.add_mul];simp
  omega
theorem Z4d {n mo:Nat}(wv:Nat->Int->Bool) (hn:0<n) (dC:n<=60) (mU:mo<=6) {k:Nat}(hk:k<=60):((JO n mo).map (wyK n mo wv k)).sum<=420*3138428376721:=by
 have h1:=Q4n (l:=JO n mo) (f:=wyK n mo wv k) (B:=3138428376721) λq hq=>by have hg:=Wb.1 hq;have h1:=IZ (n:=n) (mo:=mo) wv hn k q hg.2.1;have h2:=J06 (b:=2*k+1) (e:=q.2.toNat) (by omega) (by omega);omega
 rw[Q6j] at h1;have:n*(mo+1)<=60*7:=Nat.mul_le_mul dC (by omega);have:((n*(mo+1):Nat):Int)*3138428376721<=420*3138428376721:=Int.mul_le_mul_of_nonneg_right (by omega) (by omega);omega
def Gj:AL ((Int×List (Int×Int×Bool))×List Int×Int):=(.cons (.agg (.cons (.k (.i .i64)) (.one (.k (.list (.pair (.i .i64) (.pair (.i .i64) .bo))))))) (.cons (.k (.list (.i .i64))) (.one (.k (.i .i64)))))
def Tw (a:(Int×List (Int×Int×Bool))×List Int×Int):Prop:=Qg a.1.1 a.1.2=0/\a.2.1.length<=60/\(∀ r∈a.2.1,-1<=r/\r<2 ^ a.1.1.toNat)/\0<=a.2.2/\a.2.2<=6
def G4 (a:(Int×List (Int×Int×Bool))×List Int×Int):List SV:=[.val (.i .i64) (0:Int)]
def ND (a:(Int×List (Int×Int×Bool))×List Int×Int) (m:List ((Int×Int)×Int)):Prop:=MapW a.1.2.length a.2.2.toNat m (wyK a.1.2.length a.2.2.toNat (λk=>wvB a.1.1 a.1.2 a.2.1 k) a.2.1.length)
def Kr:XSp:=Q6u Uq (.pair (.i .i64) (.i .i64)) (.i .i64) (Z2k Gj Tw G4 ND)
def YX (hk:Int) (cs:List (Int×Int×Bool)) (cl:List Int) (fa:Int):Prop :=
 ∀ w1:List Value,∀ w2:List Value,(True)/\((!(inI hk 1 24))=true ->
  w2=w2/\w1=w1/\False) /\
 ((!(inI hk 1 24))=false ->
  ((decide ((lI cs) > (60:Int)))=true ->
   w2=w2/\w1=w1/\False) /\
  ((decide ((lI cs) > (60:Int)))=false ->
   (1<=hk/\hk<=24/\cs.length<=1000000)/\((!(!cs.isEmpty&&!(cs.any λc=>!QL hk c)))=true ->
    w2=w2/\w1=w1/\False) /\
   ((!(!cs.isEmpty&&!(cs.any λc=>!QL hk c)))=false ->
    w2=w2/\((decide ((lI cl) > (60:Int)))=true ->
     w1=w1/\False) /\
    ((decide ((lI cl) > (60:Int)))=false ->
     (cl.length<=1000000/\∀ x∈cl,(λ(x1:Int)=>1<=hk/\hk<=24) x)/\((cl.any (λ(x1:Int)=>(decide (x1≠-1)&&!inI x1 0 (2 ^ hk.toNat-1))))=true ->
      w1=w1/\False) /\
     ((cl.any (λ(x1:Int)=>(decide (x1≠-1)&&!inI x1 0 (2 ^ hk.toNat-1))))=false ->
      w1=w1/\([fa].length<=1000000)/\((!(!([fa].any λn=>decide (n<(0:Int))||decide ((6:Int)<n))))=true ->
       False) /\
      ((!(!([fa].any λn=>decide (n<(0:Int))||decide ((6:Int)<n))))=false ->
       (hk=hk/\Qg hk cs=0/\cl.length<=60/\(∀ r∈cl,-1<=r/\r<2 ^ hk.toNat)/\0<=fa/\fa<=6)/\(∀ m3:List ((Int×Int)×Int),(MapW cs.length fa.toNat m3 (wyK cs.length fa.toNat (λk=>wvB hk cs cl k) cl.length))->(((0:Int)=(0:Int)/\(([]:List SV)=[]))/\(MapW cs.length fa.toNat m3 (wyK cs.length fa.toNat (λk=>wvB hk cs cl k) cl.length))))))))))
def Ju:Cx:=⟨[],[(87,Z9),(86,QW),(113,Z0),(112,Xy)],33,[3000017],0,[(103,VT)],[],[],[],false,[],[],[17],[]⟩
def Jt:List (Nat×LoopAnn):=[]
def Dd:Cx:=⟨[(3,(.i .i64))],[(88,Xa)],28,[3000016],0,[(73,IF Ju (λ_=>Jt) c73 [.cell 4 true 4,.tmp 5] 33),(118,XA)],[],[],[],false,[],[],[16],[]⟩
def Dg (hk:Int) (cs:List (Int×Int×Bool)) (cl:List Int) (fa:Int):List (Nat×LoopAnn):=[]
theorem S8 (a:(Int×List (Int×Int×Bool))×List Int×Int):gwp Dd (Dg a.1.1 a.1.2 a.2.1 a.2.2) c79 0 (Z0p [.tmp 6,.tmp 7] (.pair (.i .i64) (.i .i64)) (.i .i64) (G4 a) (ND a)) (Kl 28 (AL.can Gj a))=YX a.1.1 a.1.2 a.2.1 a.2.2:=by kernel_rfl
abbrev RT:Prop:=XOk Tryz.prog 79 Kr
theorem S0 (h:∀ (hk:Int) (cs:List (Int×Int×Bool)) (cl:List Int) (fa:Int),(Qg hk cs=0/\cl.length<=60/\(∀ r∈cl,-1<=r/\r<2 ^ hk.toNat)/\0<=fa/\fa<=6)->YX hk cs cl fa):XOk Tryz.prog 79 Kr :=
 Q72 Z04 mixed X_ rfl (C:=Dd) ⟨(.cons Y3 .nil),(XsOk.cons (Yy Z1f mixed (C:=Ju) ⟨(.cons Z_ (.cons ZG (.cons JS (.cons NZ .nil)))),(XsOk.cons Ud XsOk.nil),ItsOk.nil,YlOk.nil,IysOk.nil,XfOk.nil⟩ (λ_=>Jt)) (XsOk.cons N7 XsOk.nil)),ItsOk.nil,YlOk.nil,IysOk.nil,XfOk.nil⟩ (L:=λ(a:(Int×List (Int×Int×Bool))×List Int×Int)=>Dg a.1.1 a.1.2 a.2.1 a.2.2) (V:=λ(a:(Int×List (Int×Int×Bool))×List Int×Int)=>YX a.1.1 a.1.2 a.2.1 a.2.2) S8 λa hp=>h a.1.1 a.1.2 a.2.1 a.2.2 hp
theorem Mt:RT:=S0 λhk cs cl fa h=>by
 obtain⟨h1,h2,h3,h4,h5⟩:=h;obtain⟨hf,cz,aw,ai⟩:=KU h1;unfold YX;(try delta lI gD sT I64 X4 pj8 pj4);have c1:(!inI hk 1 24)=false:=by simp only[inI,xm,z4,zn];omega
 have c2:(!(!cs.isEmpty&&!(cs.any λc=>!QL hk c)))=false:=by
  have e1:cs.isEmpty=false:=by cases cs with|nil=>exact(aw rfl).elim|cons _ _=>rfl
  have e2:(cs.any λc=>!QL hk c)=false:=xQ.2 λc hc=>by rw[ai c hc];decide
  rw[e1,e2];rfl
 have c3:(cl.any λx=>(decide (x≠-1)&&!inI x 0 (2 ^ hk.toNat-1)))=false:=xQ.2 λx hx=>by
  have:=h3 x hx;by_cases e:x=-1
  .simp[e]
  .have e2:inI x 0 (2 ^ hk.toNat-1)=true:=by
    simp only[inI,z4,zn];omega
   rw[e2];simp
 have c4:(!(!([fa].any λn=>decide (n<(0:Int))||decide ((6:Int)<n))))=false:=by simp only[List.any_cons,List.any_nil,w4,Bool.not_not,Bool.or_eq_false_iff,xn];omega
 have d1:decide ((((List.length cs):Nat):Int) > (60:Int))=false:=xw (by omega);have d2:decide ((((List.length cl):Nat):Int) > (60:Int))=false:=xw (by omega);intro w1 w2;rw[c1,c2,c3,c4,d1,d2];refine⟨trivial,(λc=>by cases c),λ_=>⟨(λc=>by cases c),λ_=>⟨⟨hf.1,hf.2,by omega⟩,(λc=>by cases c),λ_=>⟨rfl,(λc=>by cases c),λ_=>⟨⟨by omega,λ_ _=>hf⟩,(λc=>by cases c),λ_=>⟨rfl,by simp,(λc=>by cases c),λ_=>⟨⟨rfl,h1,h2,h3,h4,h5⟩,λm hm=>⟨(by and_intros<;>first|rfl|trivial|simp),hm⟩⟩⟩⟩⟩⟩⟩⟩
def Hb:AL ((Int×List (Int×Int×Bool))×List Int×Int):=(.cons (.agg (.cons (.k (.i .i64)) (.one (.k (.list (.pair (.i .i64) (.pair (.i .i64) .bo))))))) (.cons (.k (.list (.i .i64))) (.one (.k (.i .i64)))))
def S4 (d:(Int×List (Int×Int×Bool))×List Int×Int):Prop:=Qg d.1.1 d.1.2=0/\d.2.1.length<=60/\(∀ r∈d.2.1,-1<=r/\r<2 ^ d.1.1.toNat)/\0<=d.2.2/\d.2.2<=6
def GQ (d:(Int×List (Int×Int×Bool))×List Int×Int):SV:=.tup [.val (.i .i64) (I9 d.1.1 d.1.2 d.2.1 d.2.2),.val (.i .i64) (0:Int)]
def Dn (d:(Int×List (Int×Int×Bool))×List Int×Int):List OB:=[]
def MW:CSp:=Ko Hb S4 GQ Dn
def Kw (hk:Int) (cs:List (Int×Int×Bool)) (cl:List Int) (fa:Int):Prop :=
 (Qg hk cs=0/\cl.length<=60/\(∀ r∈cl,-1<=r/\r<2 ^ hk.toNat)/\0<=fa/\fa<=6)/\(∀ m1:List ((Int×Int)×Int),(MapW cs.length fa.toNat m1 (wyK cs.length fa.toNat (λk=>wvB hk cs cl k) cl.length))->∃ (e4:(List ((Int×Int)×Int))) (d40:Int×(List Nat)),(((0:Int)=d40.1/\(0:Int)=(0:Int)/\True/\True)/\((m1=e4/\([]:List Nat)=d40.2)/\True)) /\
 LoopP (λ(d4:Int×(List Nat)) (q4:(Int×(List Nat))->Prop) =>
  ((∀ r:Nat,r<(List.length e4)->r∈d4.2) ->
   (false=true ->
    (d4.2≠[])/\(I64 (d4.1+(List.getD e4 (List.getLastD d4.2 0) ((0,0),0)).2))/\(∃ d6:Int×(List Nat),(((d4.1+(List.getD e4 (List.getLastD d4.2 0) ((0,0),0)).2)=d6.1/\(0:Int)=(0:Int)/\True/\True)/\((e4=e4/\d4.2=d6.2)/\True))/\q4 d6)) /\
   (false=false ->
    ((d4.1=(I9 hk cs cl fa)/\(0:Int)=(0:Int)/\(([]:List SV)=[]))/\(True)))) /\
  (∀ r5:Nat,r5<(List.length e4)->r5∉d4.2 ->
   (true=true ->
    ((d4.2++[r5])≠[])/\(I64 (d4.1+(List.getD e4 (List.getLastD (d4.2++[r5]) 0) ((0,0),0)).2))/\(∃ d7:Int×(List Nat),(((d4.1+(List.getD e4 (List.getLastD (d4.2++[r5]) 0) ((0,0),0)).2)=d7.1/\(0:Int)=(0:Int)/\True/\True)/\((e4=e4/\(d4.2++[r5])=d7.2)/\True))/\q4 d7)) /\
   (true=false ->
    ((d4.1=(I9 hk cs cl fa)/\(0:Int)=(0:Int)/\(([]:List SV)=[]))/\(True))))) d40)
def Hk:Cx:=⟨[],[],29,[],0,[(79,Kr)],[],[],[],false,[],[],[],[]⟩
def Ck (hk:Int) (cs:List (Int×Int×Bool)) (cl:List Int) (fa:Int):List (Nat×LoopAnn):=[(0,⟨(List ((Int×Int)×Int)),Int×(List Nat),[6,7,19],λe x=>[.val (.i .i64) x.1,.val (.i .i64) (0:Int),.box 19 0],λe x=>[(19,.slot 19,.iter (.pair (.i .i64) (.i .i64)) (.i .i64) e x.2)]⟩)]
theorem LS (d:(Int×List (Int×Int×Bool))×List Int×Int):gwp (Hk) (Ck d.1.1 d.1.2 d.2.1 d.2.2) c27 0 (KQ [.tmp 6,.tmp 7] (GQ d) (Dn d)) (QI 29 (AL.can Hb d))=Kw d.1.1 d.1.2 d.2.1 d.2.2:=by kernel_rfl
abbrev CM:Prop:=OkC Tryz.prog 27 MW
theorem Cg (h:∀ (hk:Int) (cs:List (Int×Int×Bool)) (cl:List Int) (fa:Int),(Qg hk cs=0/\cl.length<=60/\(∀ r∈cl,-1<=r/\r<2 ^ hk.toNat)/\0<=fa/\fa<=6)->Kw hk cs cl fa):OkC Tryz.prog 27 MW :=
 QT Z2d mixed (C:=Hk) (V:=λ(d:(Int×List (Int×Int×Bool))×List Int×Int)=>Kw d.1.1 d.1.2 d.2.1 d.2.2) ⟨.nil,(XsOk.cons Mt XsOk.nil),ItsOk.nil,YlOk.nil,IysOk.nil,XfOk.nil⟩ (LS) λd hp=>h d.1.1 d.1.2 d.2.1 d.2.2 hp
theorem Cc:CM:=Cg λhk cs cl fa h=>by
 obtain⟨h1,h2,h3,h4,h5⟩:=id h;obtain⟨hf,cz,aw,ai⟩:=KU h1;have bE:=xP.2 aw;unfold Kw;(try delta lI gD sT I64 X4 pj8 pj4);refine⟨h,λm hm=>⟨m,(0,[]),(by and_intros<;>first|rfl|trivial),?_⟩⟩;refine LoopP.rng m.length (λs dn=>s=(dn.map λr=>(m.getD r ((0,0),0)).2).sum) rfl ?_;intro s dn hn af hs q hq;dsimp only;have hp:∀ x∈m,0<=(λx:(Int×Int)×Int=>x.2) x:=λx hx=>Int.le_of_lt (hm.2.1 x hx).2.1;have rr:=RN hm (λ_ w=>w) λ_=>rfl;have hb:=Z4d (n:=cs.length) (mo:=fa.toNat) (λk=>wvB hk cs cl k) bE (by omega) (by omega) (k:=cl.length) (by omega);have hV:(m.map λx=>x.2).sum=I9 hk cs cl fa:=rr;have vI:I9 hk cs cl fa<=420*3138428376721:=hb;have ek:=λ(dn:List Nat) (hn:dn.Nodup) (af:∀ r∈dn,r<m.length)=>O7 (d:=(((0,0),0):(Int×Int)×Int)) (F:=λx=>x.2) hn af hp;refine⟨λae=>⟨(λc=>by cases c),λ_=>⟨⟨?_,rfl,rfl⟩,trivial⟩⟩,λr hr fP=>⟨λ_=>?_,(λc=>by cases c)⟩⟩
 .rw[hs,<-hV];exact(ek dn hn af).2 ae
 .have dZ:List.getLastD (dn++[r]) 0=r:=by simp
  have a7:s+(m.getD r ((0,0),0)).2=((dn++[r]).map λr=>(m.getD r ((0,0),0)).2).sum:=by rw[hs,Cl];simp
  simp only[dZ];have aI:=λy (hy:y∈dn++[r])=>show y<m.length from (zz.1 hy).elim (af y) λh=>by rw[zd] at h;omega
  have hle:=(ek (dn++[r]) (HO hn fP) aI).1;have bB:0<=((dn++[r]).map λr=>(m.getD r ((0,0),0)).2).sum:=Uj λy hy=>by have:=aI y hy;rw[Qc this];exact hp _ (zu this)
  refine⟨by simp,?_,(s+(m.getD r ((0,0),0)).2,dn++[r]),(by and_intros<;>first|rfl|trivial),hq r _ hr fP a7⟩;simp only[Qd];rw[a7];omega
def AZ (a b:Int):Int:=if a<b then -1 else if b<a then 1 else 0
def Ii:XSp:=λ_ _ _ _=>False
theorem GB {P:Program}{f:Nat}:XOk P f Ii:=λ_ _ _ _ _ _ _ _ _ _ _ _ _ _ hx _=>hx.elim
def len8T:List UInt8:=[0,1,2,2,3,3,3,3,4,4,4,4,4,4,4,4,5,5,5,5,5,5,5,5,5,5,5,5,5,5,5,5,6,6,6,6,6,6,6,6,6,6,6,6,6,6,6,6,6,6,6,6,6,6,6,6,6,6,6,6,6,6,6,6,7,7,7,7,7,7,7,7,7,7,7,7,7,7,7,7,7,7,7,7,7,7,7,7,7,7,7,7,7,7,7,7,7,7,7,7,7,7,7,7,7,7,7,7,7,7,7,7,7,7,7,7,7,7,7,7,7,7,7,7,7,7,7,7,8,8,8,8,8,8,8,8,8,8,8,8,8,8,8,8,8,8,8,8,8,8,8,8,8,8,8,8,8,8,8,8,8,8,8,8,8,8,8,8,8,8,8,8,8,8,8,8,8,8,8,8,8,8,8,8,8,8,8,8,8,8,8,8,8,8,8,8,8,8,8,8,8,8,8,8,8,8,8,8,8,8,8,8,8,8,8,8,8,8,8,8,8,8,8,8,8,8,8,8,8,8,8,8,8,8,8,8,8,8,8,8,8,8,8,8,8,8,8,8,8,8,8,8,8,8,8,8]
def Lc (x:Int):Int:=((UInt8.toNat (List.getD len8T (Int.toNat x) 0):Nat):Int)
def K7 (p:Int×Int):Int:=AZ p.1 p.2
def EJ {α:Type}[Inhabited α] (lt:α->α->Bool) (a:Nat):Nat->List α->List α
 |0,xs=>xs
 |j+1,xs=>if a<j+1/\lt (xs.getD (j+1) default) (xs.getD j default)=true then EJ lt a j ((xs.set (j+1) (xs.getD j default)).set j (xs.getD (j+1) default)) else xs
def Q15 {α:Type}[Inhabited α] (lt:α->α->Bool) (a:Nat):Nat->List α->List α
 |0,xs=>xs
 |n+1,xs=>EJ lt a (a+1+n) (Q15 lt a n xs)
def US {α:Type}[Inhabited α] (f:α×α->Int) (xs:List α) (a b:Nat):List α:=Q15 (λx y=>decide (f (x,y)<0)) a (b-a-1) xs
section
variable {α:Type}[Inhabited α] {lt:α->α->Bool}
theorem AM {xs:List α}{j:Nat}(h:j+1<xs.length):((xs.set (j+1) (xs.getD j default)).set j (xs.getD (j+1) default)).Perm xs:=by rw[Qc (show j<xs.length by omega),Qc h];exact List.set_set_perm h (by omega)
theorem Ed {a:Nat}:∀ j {xs:List α},j<xs.length->(EJ lt a j xs).Perm xs
 |0,_,_=>.refl _
 |j+1,xs,h=>by
  unfold EJ;split
  .exact(Ed j (by simp;omega)).trans (AM h)
  .exact .refl _
theorem G7 {a:Nat}{xs:List α}:∀ n,a+n<xs.length\/n=0->(Q15 lt a n xs).Perm xs
 |0,_=>.refl _
 |n+1,h=>by have ih:=G7 (a:=a) (xs:=xs) n (by omega);unfold Q15;exact(Ed _ (by rw[ih.length_eq];omega)).trans ih
theorem Vi {f:α×α->Int}{xs:List α}{a b:Nat}(h:b<=xs.length):(US f xs a b).Perm xs:=G7 _ (by omega)
theorem Q2k {a j:Nat}{xs:List α}(hj:a<j) (h:lt (xs.getD j default) (xs.getD (j-1) default)=true):EJ lt a j xs=EJ lt a (j-1) ((xs.set j (xs.getD (j-1) default)).set (j-1) (xs.getD j default)):=by obtain⟨k,rfl⟩:∃ k,j=k+1:=⟨j-1,by omega⟩;rw[Nat.add_sub_cancel] at h |-;rw[EJ,z3 ⟨hj,h⟩]
theorem Q40 {a j:Nat}{xs:List α}(h:¬ (a<j/\lt (xs.getD j default) (xs.getD (j-1) default)=true)):EJ lt a j xs=xs:=by
 cases j with
 |zero=>rfl
 |succ k=>rw[Nat.add_sub_cancel] at h;rw[EJ,z0 h]
theorem IW {xs:List α}{j q:Nat}(h:j+1<xs.length):((xs.set (j+1) (xs.getD j default)).set j (xs.getD (j+1) default)).getD q default=if q=j then xs.getD (j+1) default else if q=j+1 then xs.getD j default else xs.getD q default:=by
 simp only[z6,xN,xU];by_cases h1:j=q
 .subst h1;rw[z3 rfl,z3 (by omega),z3 rfl];rfl
 .rw[z0 h1,z0 (show ¬ q=j from λe=>h1 e.symm)];by_cases h2:j+1=q
  .subst h2;rw[z3 rfl,z3 h,z3 rfl];rfl
  .rw[z0 h2,z0 (show ¬ q=j+1 from λe=>h2 e.symm)]
def Q8x (lt:α->α->Bool) (i:Nat) (xs:List α):Prop:=∀ p q,p<q->q<=i->lt (xs.getD q default) (xs.getD p default)=false
theorem Ex (has:∀ x y,lt x y=true->lt y x=false) (mq:∀ x y z,lt y x=false->lt z y=false->lt z x=false) {i:Nat}:∀ j {xs:List α},j<=i->i<xs.length->(∀ p q,p<q->q<=i->q≠j->lt (xs.getD q default) (xs.getD p default)=false)->Q8x lt i (EJ lt 0 j xs)
 |0,xs,_,_,h=>λp q h1 h2=>by rw[EJ];exact h p q h1 h2 (by omega)
 |j+1,xs,hj,hi,h=>by
  rw[EJ];split
  .rename_i hc;refine Ex has mq j (by omega) (by simp;exact hi) λp q h1 h2 h3=>?_;rw[IW (by omega),IW (by omega),z0 h3];by_cases hq:q=j+1
   .rw[z3 hq];by_cases hp:p=j
    .rw[z3 hp];exact has _ _ hc.2
    .rw[z0 hp,z0 (by omega)];exact h p j (by omega) (by omega) (by omega)
   .rw[z0 hq];by_cases hp:p=j
    .rw[z3 hp];exact h (j+1) q (by omega) h2 (by omega)
    .rw[z0 hp];by_cases dj:p=j+1
     .rw[z3 dj];exact h j q (by omega) h2 (by omega)
     .rw[z0 dj];exact h p q h1 h2 (by omega)
  .rename_i hc;have hc:lt (xs.getD (j+1) default) (xs.getD j default)=false:=by
    cases h5:lt (xs.getD (j+1) default) (xs.getD j default) with
    |false=>rfl
    |true=>exact(hc ⟨by omega,h5⟩).elim
   intro p q h1 h2;by_cases hq:q=j+1
   .subst hq;by_cases hp:p=j
    .subst hp;exact hc
    .exact mq _ _ _ (h p j (by omega) (by omega) (by omega)) hc
   .exact h p q h1 h2 hq
theorem EN (has:∀ x y,lt x y=true->lt y x=false) (mq:∀ x y z,lt y x=false->lt z y=false->lt z x=false) {xs:List α}:∀ n,n<xs.length->Q8x lt n (Q15 lt 0 n xs)
 |0,_=>λp q h1 h2=>by omega
 |n+1,h=>by have ih:=EN has mq (xs:=xs) n (by omega);have hp:=G7 (lt:=lt) (a:=0) (xs:=xs) n (by omega);unfold Q15;rw[show 0+1+n=n+1 by omega];exact Ex has mq (n+1) (z7 _) (by rw[hp.length_eq];omega) λp q h1 h2 h3=>ih p q h1 (by omega)
theorem EP {f:α×α->Int}(has:∀ x y,f (x,y)<0->¬ f (y,x)<0) (mq:∀ x y z,¬ f (y,x)<0->¬ f (z,y)<0->¬ f (z,x)<0) (xs:List α):(US f xs 0 xs.length).Pairwise λx y=>¬ f (y,x)<0:=by
 cases hx:xs with
 |nil=>exact List.Pairwise.nil
 |cons x0 t =>
  have hlen:0<xs.length:=by rw[hx];simp
  rw[<-hx];have h:=EN (lt:=λx y=>decide (f (x,y)<0)) (λx y h=>by simpa using has x y (by simpa using h)) (λx y z h1 h2=>by simpa using mq x y z (by simpa using h1) (by simpa using h2)) (xs:=xs) (xs.length-0-1) (by omega);have hl:=(Vi (f:=f) (a:=0) (z7 xs.length)).length_eq;refine List.pairwise_iff_getElem.2 λp q hp hq uS=>?_;have:=h p q uS (by omega);have cA:(Q15 (λx y=>decide (f (x,y)<0)) 0 (xs.length-0-1) xs).getD q default=(US f xs 0 xs.length)[q]:=Qc hq;have bm:(Q15 (λx y=>decide (f (x,y)<0)) 0 (xs.length-0-1) xs).getD p default=(US f xs 0 xs.length)[p]:=Qc hp;rw[cA,bm] at this;simpa using this
end
theorem Bt {x y:Int}:K7 (x,y)<0<->x<y:=by unfold K7 AZ;dsimp only;split<;>(try split)<;>omega
theorem Z9v (xs:List Int):(US K7 xs 0 xs.length).Pairwise (·<=·) :=
 (EP (f:=K7) (λx y h h2=>by rw[Bt] at h h2;omega) (λx y z h1 h2 h3=>by rw[Bt] at h1 h2 h3;omega) xs).imp λh=>by rw[Bt] at h;omega
theorem Z8j {xs:List Int}(h:xs.Nodup):(US K7 xs 0 xs.length).Pairwise (·<·):=by
 have h2:=(Vi (f:=K7) (a:=0) (z7 xs.length)).nodup_iff.2 h;exact((Z9v xs).and h2).imp λh=>by have:=h.1;have:=h.2;omega
theorem Q4b {a j:Nat}{α:Type}[Inhabited α] {f:α×α->Int}{ys T:List α}(e:EJ (λx y=>decide (f (x,y)<0)) a j ys=T) (h:¬ (a<j/\f (ys.getD j default,ys.getD (j-1) default)<0)):ys=T:=by rw[<-e,Q40];intro hh;exact h ⟨hh.1,by simpa using hh.2⟩
theorem IJ {a j:Nat}{α:Type}[Inhabited α] {f:α×α->Int}{ys T:List α}(e:EJ (λx y=>decide (f (x,y)<0)) a j ys=T) (hj:a<j) (h:f (ys.getD j default,ys.getD (j-1) default)<0):EJ (λx y=>decide (f (x,y)<0)) a (j-1) ((ys.set j (ys.getD (j-1) default)).set (j-1) (ys.getD j default))=T:=by rw[<-e,Q2k hj (by simpa using h)]
theorem Ly {α:Type}[Inhabited α] {xs:List α}{j:Nat}(h0:0<j) (h:j<xs.length):((xs.set j (xs.getD (j-1) default)).set (j-1) (xs.getD j default)).Perm xs:=by obtain⟨k,rfl⟩:∃ k,j=k+1:=⟨j-1,by omega⟩;exact AM h
def NF:AL (Int):=(.one (.k (.i .i64)))
def P1 (d:Int):Prop:=True
def UC (d:Int):SV:=.val .bo false
def Ux (d:Int):List OB:=[]
def WR:CSp:=Ko NF P1 UC Ux
def Wc (a:Int):Prop :=
 ((a != a)=false/\(True))
def NP:Cx:=⟨[],[],6,[],0,[],[],[],[],false,[],[],[],[]⟩
def PG (a:Int):List (Nat×LoopAnn):=[]
theorem PR (d:Int):gwp (NP) (PG d) Z6n 0 (KQ [.tmp 2] (UC d) (Ux d)) (QI 6 (AL.can NF d))=Wc d:=by kernel_rfl
abbrev PW:Prop:=OkC Tryz.prog 111 WR
theorem PC (h:∀ (a:Int),(True)->Wc a):OkC Tryz.prog 111 WR :=
 QT Q29 mixed (C:=NP) (V:=λ(d:Int)=>Wc d) ⟨.nil,XsOk.nil,ItsOk.nil,YlOk.nil,IysOk.nil,XfOk.nil⟩ (PR) λd hp=>h d hp
theorem NO:PW:=PC λa _=>by unfold Wc;(try delta lI gD sT I64 X4 pj8 pj4);simp
def VG:AL (Int):=(.one (.k (.i .u32)))
def DU (d:Int):Prop:=False
def V5 (d:Int):SV:=.val (.i .i64) (Lc d)
def VB (d:Int):List OB:=[]
def YK:CSp:=Ko VG DU V5 VB
def WQ (x:Int):Prop :=
 ((decide (x>=(65536:Int)))=true ->
  (0<=(16:Int))/\((decide ((Zn .u32 x (16:Int))>=(256:Int)))=true ->
   (0<=(8:Int))/\(I64 ((16:Int)+(8:Int)))/\(InK .u8 (Zn .u32 (Zn .u32 x (16:Int)) (8:Int)))/\(0<=(Zn .u32 (Zn .u32 x (16:Int)) (8:Int)))/\((Zn .u32 (Zn .u32 x (16:Int)) (8:Int))<(List.length len8T))/\(I64 ((UInt8.toNat (gD len8T (Zn .u32 (Zn .u32 x (16:Int)) (8:Int)) 0):Nat):Int))/\(I64 (((16:Int)+(8:Int))+((UInt8.toNat (gD len8T (Zn .u32 (Zn .u32 x (16:Int)) (8:Int)) 0):Nat):Int)))/\((((16:Int)+(8:Int))+((UInt8.toNat (gD len8T (Zn .u32 (Zn .u32 x (16:Int)) (8:Int)) 0):Nat):Int))=(Lc x)/\(True))) /\
  ((decide ((Zn .u32 x (16:Int))>=(256:Int)))=false ->
   (InK .u8 (Zn .u32 x (16:Int)))/\(0<=(Zn .u32 x (16:Int)))/\((Zn .u32 x (16:Int))<(List.length len8T))/\(I64 ((UInt8.toNat (gD len8T (Zn .u32 x (16:Int)) 0):Nat):Int))/\(I64 ((16:Int)+((UInt8.toNat (gD len8T (Zn .u32 x (16:Int)) 0):Nat):Int)))/\(((16:Int)+((UInt8.toNat (gD len8T (Zn .u32 x (16:Int)) 0):Nat):Int))=(Lc x)/\(True)))) /\
 ((decide (x>=(65536:Int)))=false ->
  ((decide (x>=(256:Int)))=true ->
   (0<=(8:Int))/\(I64 ((0:Int)+(8:Int)))/\(InK .u8 (Zn .u32 x (8:Int)))/\(0<=(Zn .u32 x (8:Int)))/\((Zn .u32 x (8:Int))<(List.length len8T))/\(I64 ((UInt8.toNat (gD len8T (Zn .u32 x (8:Int)) 0):Nat):Int))/\(I64 (((0:Int)+(8:Int))+((UInt8.toNat (gD len8T (Zn .u32 x (8:Int)) 0):Nat):Int)))/\((((0:Int)+(8:Int))+((UInt8.toNat (gD len8T (Zn .u32 x (8:Int)) 0):Nat):Int))=(Lc x)/\(True))) /\
  ((decide (x>=(256:Int)))=false ->
   (InK .u8 x)/\(0<=x)/\(x<(List.length len8T))/\(I64 ((UInt8.toNat (gD len8T x 0):Nat):Int))/\(I64 ((0:Int)+((UInt8.toNat (gD len8T x 0):Nat):Int)))/\(((0:Int)+((UInt8.toNat (gD len8T x 0):Nat):Int))=(Lc x)/\(True))))
def U2:Cx:=⟨[],[],19,[],0,[],[],[],[],false,[],[],[],[]⟩
def Hr (x:Int):List (Nat×LoopAnn):=[]
theorem Ha (d:Int):gwp (U2) (Hr d) Z68 0 (KQ [.tmp 2] (V5 d) (VB d)) (QI 19 (AL.can VG d))=WQ d:=by kernel_rfl
abbrev H2:Prop:=OkC Tryz.prog 163 YK
theorem BL (h:∀ (x:Int),(False)->WQ x):OkC Tryz.prog 163 YK :=
 QT Q30 mixed (C:=U2) (V:=λ(d:Int)=>WQ d) ⟨.nil,XsOk.nil,ItsOk.nil,YlOk.nil,IysOk.nil,XfOk.nil⟩ (Ha) λd hp=>h d hp
theorem Bm:H2:=BL λx h=>h.elim
def VU:AL (Int):=(.one (.k (.i .u64)))
def DX (d:Int):Prop:=0<=d/\d<=255
def Vw (d:Int):SV:=.val (.i .i64) (Lc d)
def Vz (d:Int):List OB:=[]
def YD:CSp:=Ko VU DX Vw Vz
abbrev WJ (x:Int):=(Zn .u64 (Zn .u64 x (32:Int)) (16:Int))
abbrev Ho (x:Int):=(Zn .u64 (Zn .u64 x (32:Int)) (8:Int))
abbrev BI (x:Int):=(Zn .u64 (Zn .u64 x (16:Int)) (8:Int))
abbrev Tj (x:Int):=((UInt8.toNat (gD len8T (Zn .u64 (WJ x) (8:Int)) 0):Nat):Int)
abbrev T1 (x:Int):=((UInt8.toNat (gD len8T (Zn .u64 x (32:Int)) 0):Nat):Int)
abbrev T8 (x:Int):=((UInt8.toNat (gD len8T (Zn .u64 x (16:Int)) 0):Nat):Int)
abbrev T7 (x:Int):=((UInt8.toNat (gD len8T (Zn .u64 x (8:Int)) 0):Nat):Int)
abbrev T5 :=(((32:Int)+(16:Int))+(8:Int))
abbrev Tf :=(((0:Int)+(16:Int))+(8:Int))
abbrev Td (x:Int):=((UInt8.toNat (gD len8T (WJ x) 0):Nat):Int)
abbrev HB (x:Int):=((UInt8.toNat (gD len8T (Ho x) 0):Nat):Int)
abbrev H9 (x:Int):=((UInt8.toNat (gD len8T (BI x) 0):Nat):Int)
def Xq (x:Int):Prop :=
 ((decide (x>=(4294967296:Int)))=true ->
  (0<=(32:Int))/\((decide ((Zn .u64 x (32:Int))>=(65536:Int)))=true ->
   (0<=(16:Int))/\(I64 ((32:Int)+(16:Int)))/\((decide ((WJ x)>=(256:Int)))=true ->
    (0<=(8:Int))/\(I64 T5)/\(InK .u8 (Zn .u64 (WJ x) (8:Int)))/\(0<=(Zn .u64 (WJ x) (8:Int)))/\((Zn .u64 (WJ x) (8:Int))<(List.length len8T))/\(I64 (Tj x))/\(I64 (T5+(Tj x)))/\((T5+(Tj x))=(Lc x)/\(True))) /\
   ((decide ((WJ x)>=(256:Int)))=false ->
    (InK .u8 (WJ x))/\(0<=(WJ x))/\((WJ x)<(List.length len8T))/\(I64 (Td x))/\(I64 (((32:Int)+(16:Int))+(Td x)))/\((((32:Int)+(16:Int))+(Td x))=(Lc x)/\(True)))) /\
  ((decide ((Zn .u64 x (32:Int))>=(65536:Int)))=false ->
   ((decide ((Zn .u64 x (32:Int))>=(256:Int)))=true ->
    (0<=(8:Int))/\(I64 ((32:Int)+(8:Int)))/\(InK .u8 (Ho x))/\(0<=(Ho x))/\((Ho x)<(List.length len8T))/\(I64 (HB x))/\(I64 (((32:Int)+(8:Int))+(HB x)))/\((((32:Int)+(8:Int))+(HB x))=(Lc x)/\(True))) /\
   ((decide ((Zn .u64 x (32:Int))>=(256:Int)))=false ->
    (InK .u8 (Zn .u64 x (32:Int)))/\(0<=(Zn .u64 x (32:Int)))/\((Zn .u64 x (32:Int))<(List.length len8T))/\(I64 (T1 x))/\(I64 ((32:Int)+(T1 x)))/\(((32:Int)+(T1 x))=(Lc x)/\(True))))) /\
 ((decide (x>=(4294967296:Int)))=false ->
  ((decide (x>=(65536:Int)))=true ->
   (0<=(16:Int))/\(I64 ((0:Int)+(16:Int)))/\((decide ((Zn .u64 x (16:Int))>=(256:Int)))=true ->
    (0<=(8:Int))/\(I64 Tf)/\(InK .u8 (BI x))/\(0<=(BI x))/\((BI x)<(List.length len8T))/\(I64 (H9 x))/\(I64 (Tf+(H9 x)))/\((Tf+(H9 x))=(Lc x)/\(True))) /\
   ((decide ((Zn .u64 x (16:Int))>=(256:Int)))=false ->
    (InK .u8 (Zn .u64 x (16:Int)))/\(0<=(Zn .u64 x (16:Int)))/\((Zn .u64 x (16:Int))<(List.length len8T))/\(I64 (T8 x))/\(I64 (((0:Int)+(16:Int))+(T8 x)))/\((((0:Int)+(16:Int))+(T8 x))=(Lc x)/\(True)))) /\
  ((decide (x>=(65536:Int)))=false ->
   ((decide (x>=(256:Int)))=true ->
    (0<=(8:Int))/\(I64 ((0:Int)+(8:Int)))/\(InK .u8 (Zn .u64 x (8:Int)))/\(0<=(Zn .u64 x (8:Int)))/\((Zn .u64 x (8:Int))<(List.length len8T))/\(I64 (T7 x))/\(I64 (((0:Int)+(8:Int))+(T7 x)))/\((((0:Int)+(8:Int))+(T7 x))=(Lc x)/\(True))) /\
   ((decide (x>=(256:Int)))=false ->
    (InK .u8 x)/\(0<=x)/\(x<(List.length len8T))/\(I64 ((UInt8.toNat (gD len8T x 0):Nat):Int))/\(I64 ((0:Int)+((UInt8.toNat (gD len8T x 0):Nat):Int)))/\(((0:Int)+((UInt8.toNat (gD len8T x 0):Nat):Int))=(Lc x)/\(True)))))
def VP:Cx:=⟨[],[],25,[],0,[],[],[],[],false,[],[],[],[]⟩
def Hw (x:Int):List (Nat×LoopAnn):=[]
theorem BE (d:Int):gwp (VP) (Hw d) Z77 0 (KQ [.tmp 2] (Vw d) (Vz d)) (QI 25 (AL.can VU d))=Xq d:=by kernel_rfl
abbrev BP:Prop:=OkC Tryz.prog 164 YD
theorem BG (h:∀ (x:Int),(0<=x/\x<=255)->Xq x):OkC Tryz.prog 164 YD :=
 QT Q27 mixed (C:=VP) (V:=λ(d:Int)=>Xq d) ⟨.nil,XsOk.nil,ItsOk.nil,YlOk.nil,IysOk.nil,XfOk.nil⟩ (BE) λd hp=>h d hp
theorem BO:BP:=BG λx h=>by
 obtain⟨h1,h2⟩:=h;unfold Xq;(try delta WJ Ho BI Tj T1 T8 T7 T5 Tf Td HB H9);(try delta lI gD sT I64 X4 pj8 pj4);have af:(UInt8.toNat (List.getD len8T (Int.toNat x) 0):Int)<=255:=by have:=(List.getD len8T (Int.toNat x) 0).toNat_lt;omega
 refine⟨λc=>by simp at c;omega,λ_=>⟨λc=>by simp at c;omega,λ_=>⟨λc=>by simp at c;omega,λ_=>?_⟩⟩⟩;have hl:len8T.length=256:=by decide +kernel
 rw[hl];simp only[Z34,Qd];refine⟨by omega,h1,by omega,by omega,by omega,?_⟩;unfold Lc;rw[Int.zero_add];exact(by and_intros<;>first|rfl|trivial|simp)
def NH:AL (Int):=(.one (.k (.i .u64)))
def HF (d:Int):Prop:=0<=d/\d<=255
def Uw (d:Int):SV:=.val (.i .i64) (Lc d)
def Ut (d:Int):List OB:=[]
def Y0:CSp:=Ko NH HF Uw Ut
def Wa (x:Int):Prop :=
 (false=true ->
  (InK .u32 x)/\(False)/\((Lc x)=(Lc x)/\(True))) /\
 (false=false ->
  (0<=x/\x<=255)/\((Lc x)=(Lc x)/\(True)))
def NJ:Cx:=⟨[],[(163,YK),(164,YD)],8,[],0,[],[],[],[],false,[],[],[],[]⟩
def PU (x:Int):List (Nat×LoopAnn):=[]
theorem PK (d:Int):gwp (NJ) (PU d) Z6h 0 (KQ [.tmp 2] (Uw d) (Ut d)) (QI 8 (AL.can NH d))=Wa d:=by kernel_rfl
abbrev PM:Prop:=OkC Tryz.prog 141 Y0
theorem PA (h:∀ (x:Int),(0<=x/\x<=255)->Wa x):OkC Tryz.prog 141 Y0 :=
 QT Q3h mixed (C:=NJ) (V:=λ(d:Int)=>Wa d) ⟨(.cons Bm (.cons BO .nil)),XsOk.nil,ItsOk.nil,YlOk.nil,IysOk.nil,XfOk.nil⟩ (PK) λd hp=>h d hp
theorem NM:PM:=PA λx h=>by unfold Wa;(try delta lI gD sT I64 X4 pj8 pj4);exact⟨(λc=>by cases c),λ_=>⟨h,(by and_intros<;>first|rfl|trivial|simp)⟩⟩
def MJ:AL (Int×Int):=(.cons (.k (.i .i64)) (.one (.k (.i .i64))))
def PZ (d:Int×Int):Prop:=True
def NK (d:Int×Int):SV:=.val .bo (decide (d.1<d.2))
def NL (d:Int×Int):List OB:=[]
def Ub:CSp:=Ko MJ PZ NK NL
def WN (a:Int) (b:Int):Prop :=
 (True)/\(false=true->True)/\(((false&&(!false))||(decide (a<b)))=(decide (a<b))/\(True))
def MS:Cx:=⟨[],[(111,WR)],17,[],0,[],[],[],[],false,[],[],[],[]⟩
def TD (a:Int) (b:Int):List (Nat×LoopAnn):=[]
theorem Rv (d:Int×Int):gwp (MS) (TD d.1 d.2) Z75 0 (KQ [.tmp 4] (NK d) (NL d)) (QI 17 (AL.can MJ d))=WN d.1 d.2:=by kernel_rfl
abbrev Tt:Prop:=OkC Tryz.prog 173 Ub
theorem TT (h:∀ (a:Int) (b:Int),(True)->WN a b):OkC Tryz.prog 173 Ub :=
 QT Q3a mixed (C:=MS) (V:=λ(d:Int×Int)=>WN d.1 d.2) ⟨(.cons NO .nil),XsOk.nil,ItsOk.nil,YlOk.nil,IysOk.nil,XfOk.nil⟩ (Rv) λd hp=>h d.1 d.2 hp
theorem Rc:Tt:=TT λa b=>by unfold WN;(try delta lI gD sT I64 X4 pj8 pj4);simp
def Jb:AL (Int×Int):=(.cons (.k (.i .i64)) (.one (.k (.i .i64))))
def We (xs:List Int) (nl:Bool) (d:Int×Int):Prop:=0<=d.1/\d.1<=d.2/\d.2<=xs.length/\xs.length<=12
def ZS (xs:List Int) (nl:Bool) (d:Int×Int):SV:=.tup []
def ZM (xs:List Int) (nl:Bool) (d:Int×Int):List Int:=(US K7 xs d.1.toNat d.2.toNat)
def Zi:XSp:=A4 Uq (Ez 3 (.i .i64) Jb We ZS ZM)
def QF (xs:List Int) (nl:Bool) (a:Int) (b:Int):Prop:=∀ vals:List Value,
 (I64 (a+(1:Int)))/\∃ (e2:Unit) (d20:(List Int)×Bool×Int),((True/\a=a/\b=b/\(a+(1:Int))=d20.2.2/\True)/\((xs=d20.1/\nl=d20.2.1)/\(vals=vals/\(True/\(([]:List SV)=[])))/\True)) /\
 LoopP (λ(d2:(List Int)×Bool×Int) (q2:((List Int)×Bool×Int)->Prop) =>
  ((decide (d2.2.2<b))=true ->
   ∃ (e5:Bool×Int) (d50:(List Int)×Int),((True/\a=a/\b=b/\d2.2.2=e5.2/\d2.2.2=d50.2/\True)/\((d2.1=d50.1/\d2.2.1=e5.1)/\(vals=vals/\(True/\(([]:List SV)=[])))/\True)) /\
   LoopP (λ(d5:(List Int)×Int) (q5:((List Int)×Int)->Prop) =>
    ((decide (d5.2 > a))=true->0<=d5.2)/\((decide (d5.2 > a))=true->d5.2<(List.length d5.1))/\((decide (d5.2 > a))=true->InK .i64 (d5.2-(1:Int)))/\((decide (d5.2 > a))=true->0<=(d5.2-(1:Int)))/\((decide (d5.2 > a))=true->(d5.2-(1:Int))<(List.length d5.1))/\((decide (d5.2 > a))=true->True)/\(((decide (d5.2 > a))&&(decide ((gD d5.1 d5.2 0)<(gD d5.1 (d5.2-(1:Int)) 0))))=true ->
     (I64 (d5.2-(1:Int)))/\(I64 (d5.2-(1:Int)))/\(0<=(d5.2-(1:Int)))/\((d5.2-(1:Int))<(List.length d5.1))/\(0<=d5.2)/\(d5.2<(List.length d5.1))/\(0<=d5.2)/\(d5.2<(List.length d5.1))/\(0<=(d5.2-(1:Int)))/\((d5.2-(1:Int))<(List.length (sT d5.1 d5.2 (gD d5.1 (d5.2-(1:Int)) 0))))/\(I64 (d5.2-(1:Int)))/\(∃ d6:(List Int)×Int,((True/\a=a/\b=b/\e5.2=e5.2/\(d5.2-(1:Int))=d6.2/\True)/\(((sT (sT d5.1 d5.2 (gD d5.1 (d5.2-(1:Int)) 0)) (d5.2-(1:Int)) (gD d5.1 d5.2 0))=d6.1/\e5.1=e5.1)/\(vals=vals/\(True/\(([]:List SV)=[])))/\True))/\q5 d6)) /\
    (((decide (d5.2 > a))&&(decide ((gD d5.1 d5.2 0)<(gD d5.1 (d5.2-(1:Int)) 0))))=false ->
     (I64 (e5.2+(1:Int)))/\(∃ d7:(List Int)×Bool×Int,((True/\a=a/\b=b/\(e5.2+(1:Int))=d7.2.2/\True)/\((d5.1=d7.1/\e5.1=d7.2.1)/\(vals=vals/\(True/\(([]:List SV)=[])))/\True))/\q2 d7))) d50) /\
  ((decide (d2.2.2<b))=false ->
   (vals=vals/\(True/\(([]:List SV)=[]))/\((([]:List SV)=[]))/\(d2.1=(US K7 xs a.toNat b.toNat)/\d2.2.1=nl)))) d20
def Ja:Cx:=⟨[],[(173,Ub)],49,[],0,[],[],[],[],false,[],[],[],[]⟩
def J8 (xs:List Int) (nl:Bool) (a:Int) (b:Int) (vals:List Value):List (Nat×LoopAnn):=[(0,⟨Unit,(List Int)×Bool×Int,[0,1,2,6],λe x=>[.lst 0,.val (.i .i64) a,.val (.i .i64) b,.val (.i .i64) x.2.2],λe x=>[(0,.slot 0,.lst 3 (.i .i64) x.1 x.2.1),(4000000,.key 4000000,.stk [.lst 0] vals)]⟩),
 (2,⟨Bool×Int,(List Int)×Int,[0,1,2,6,7],λe x=>[.lst 0,.val (.i .i64) a,.val (.i .i64) b,.val (.i .i64) e.2,.val (.i .i64) x.2],λe x=>[(0,.slot 0,.lst 3 (.i .i64) x.1 e.1),(4000000,.key 4000000,.stk [.lst 0] vals)]⟩)]
theorem WD (xs:List Int) (nl:Bool) (d:Int×Int):(∀ vals,gwp Ja (J8 xs nl d.1 d.2 vals) Z6d 0 (AY vals [] (ZS xs nl d) (.lst 3 (.i .i64) (ZM xs nl d) nl) (.lst 0)) (U4 49 (.lst 0) (.lst 3 (.i .i64) xs nl) vals (AL.can Jb d)))=QF xs nl d.1 d.2:=by kernel_rfl
abbrev WE:Prop:=XOk Tryz.prog 167 Zi
theorem WG (h:∀ (xs:List Int) (nl:Bool) (a:Int) (b:Int),(0<=a/\a<=b/\b<=xs.length/\xs.length<=12)->QF xs nl a b):XOk Tryz.prog 167 Zi :=
 Gv Q37 mixed X_ (C:=Ja) ⟨(.cons Rc .nil),XsOk.nil,ItsOk.nil,YlOk.nil,IysOk.nil,XfOk.nil⟩ (L:=λxs nl (d:Int×Int) vals=>J8 xs nl d.1 d.2 vals) (V:=λxs nl (d:Int×Int)=>QF xs nl d.1 d.2) WD λxs nl d hp=>h xs nl d.1 d.2 hp
theorem Wj:WE:=WG λxs nl a b h=>by
 obtain⟨h1,h2,h3,h4⟩:=h;unfold QF;(try delta lI gD sT I64 X4 pj8 pj4);intro vals;have hI:∀ e:Int,-1000<=e->e<=1000->InK .i64 e:=λe _ _=>by simp only[Qd];omega
 obtain⟨a,rfl⟩:∃ n:Nat,a=n:=⟨a.toNat,by omega⟩;obtain⟨b,rfl⟩:∃ n:Nat,b=n:=⟨b.toNat,by omega⟩;simp only[zh];refine⟨hI _ (by omega) (by omega),(),(xs,nl,(a:Int)+1),(by and_intros<;>first|rfl|trivial|simp),?_⟩;refine⟨λd=>∃ n:Nat,d.2.2=(a:Int)+1+n/\(n=0\/a+1+n<=b)/\nl=d.2.1/\d.1=Q15 (λx y=>decide (K7 (x,y)<0)) a n xs,λd=>(1000-d.2.2).toNat,⟨0,by simp,.inl rfl,rfl,rfl⟩,?_⟩;rintro⟨ys,jJ,i⟩ ⟨n,e1,e2,e3,e4⟩;dsimp only at e1 e2 e3 e4 |-;subst e1 e3;refine⟨λc=>?_,λc=>?_⟩
 .have c:a+1+n<b:=by simp at c;omega
  have hp:ys.Perm xs:=by rw[e4];exact G7 _ (by omega)
  have hlen:=hp.length_eq;refine⟨(nl,(a:Int)+1+n),(ys,(a:Int)+1+n),(by and_intros<;>first|rfl|trivial|simp),?_⟩;dsimp only;refine⟨λd=>∃ j:Nat,d.2=j/\j<=a+1+n/\d.1.Perm xs/\EJ (λx y=>decide (K7 (x,y)<0)) a j d.1=Q15 (λx y=>decide (K7 (x,y)<0)) a (n+1) xs,λd=>d.2.toNat,⟨a+1+n,by simp,z7 _,hp,by rw[e4];rfl⟩,?_⟩;rintro⟨zs,j'⟩ ⟨j,f1,f2,f3,f4⟩;dsimp only at f1 f3 f4 |-;subst f1;have uT:=f3.length_eq;have jH:((j:Int)-1).toNat=j-1:=by omega
  simp only[zh,jH];refine⟨λg=>by omega,λg=>by omega,λg=>hI _ (by omega) (by omega),λg=>by simp at g;omega,λg=>by omega,λ_=>trivial,λg=>?_,λg=>?_⟩
  .have g:a<j/\zs.getD j 0<zs.getD (j-1) 0:=by simpa using g
   refine⟨hI _ (by omega) (by omega),hI _ (by omega) (by omega),by omega,by omega,by omega,by omega,by omega,by omega,by omega,by rw[xU];omega,hI _ (by omega) (by omega),((zs.set j (zs.getD (j-1) 0)).set (j-1) (zs.getD j 0),(j:Int)-1),(by and_intros<;>first|rfl|trivial|simp),⟨j-1,by omega,by omega,(Ly (by omega) (by omega)).trans f3,IJ f4 g.1 (Bt.2 g.2)⟩,by dsimp only;omega⟩
  .refine⟨hI _ (by omega) (by omega),(zs,nl,(a:Int)+1+n+1),(by and_intros<;>first|rfl|trivial|simp),⟨n+1,by simp;omega,by omega,rfl,Q4b f4 λhh=>?_⟩,by dsimp only;omega⟩;have h7:zs.getD j 0<zs.getD (j-1) 0:=Bt.1 hh.2;have h8:a<j:=hh.1;rw[zX (show (j:Int) > a by omega),zX h7] at g;cases g
 .have hn:n=b-a-1:=by simp at c;omega
  rw[e4,hn];exact(by and_intros<;>first|rfl|trivial|simp)
def Xm:AL (Int×Int×Int):=(.cons (.k (.i .i64)) (.cons (.k (.i .i64)) (.one (.k (.i .i64)))))
def Kb (xs:List Int) (nl:Bool) (d:Int×Int×Int):Prop:=d.1=0/\d.2.1=xs.length/\xs.length<=12
def X5 (xs:List Int) (nl:Bool) (d:Int×Int×Int):SV:=.tup []
def JV (xs:List Int) (nl:Bool) (d:Int×Int×Int):List Int:=(US K7 xs 0 xs.length)
def ZQ:XSp:=A4 Uq (Ez 3 (.i .i64) Xm Kb X5 JV)
def Zd (xs:List Int) (nl:Bool) (a:Int) (b:Int) (li:Int):Prop:=∀ vals:List Value,
 ∃ (e3:Unit) (d30:Unit),((True/\a=a/\b=b/\li=li/\true=true/\true=true/\True)/\((xs=xs/\nl=nl)/\(vals=vals/\(True/\(([]:List SV)=[])))/\True)) /\
 LoopP (λ(d3:Unit) (q3:(Unit)->Prop) =>
  (I64 (b-a))/\((decide ((b-a)<=(12:Int)))=true ->
   (0<=a/\a<=b/\b<=xs.length/\xs.length<=12)/\(vals=vals/\(True/\(([]:List SV)=[]))/\((([]:List SV)=[]))/\((US K7 xs a.toNat b.toNat)=(US K7 xs 0 xs.length)/\nl=nl))) /\
  ((decide ((b-a)<=(12:Int)))=false ->
   ((li==(0:Int))=true ->
    False) /\
   ((li==(0:Int))=false ->
    ((!true)=true ->
     False) /\
    ((!true)=false ->
     False)))) d30
def Xh:Cx:=⟨[],[],134,[],0,[(167,Zi),(168,Ii),(169,Ii),(170,Ii)],[],[],[],false,[],[],[],[]⟩
def Xe (xs:List Int) (nl:Bool) (a:Int) (b:Int) (li:Int) (vals:List Value):List (Nat×LoopAnn):=[(0,⟨Unit,Unit,[0,1,2,3,8,9],λe x=>[.lst 0,.val (.i .i64) a,.val (.i .i64) b,.val (.i .i64) li,.val .bo true,.val .bo true],λe x=>[(0,.slot 0,.lst 3 (.i .i64) xs nl),(4000000,.key 4000000,.stk [.lst 0] vals)]⟩)]
theorem Kt (xs:List Int) (nl:Bool) (d:Int×Int×Int):(∀ vals,gwp Xh (Xe xs nl d.1 d.2.1 d.2.2 vals) Z71 0 (AY vals [] (X5 xs nl d) (.lst 3 (.i .i64) (JV xs nl d) nl) (.lst 0)) (U4 134 (.lst 0) (.lst 3 (.i .i64) xs nl) vals (AL.can Xm d)))=Zd xs nl d.1 d.2.1 d.2.2:=by kernel_rfl
abbrev Kx:Prop:=XOk Tryz.prog 147 ZQ
theorem Ks (h:∀ (xs:List Int) (nl:Bool) (a:Int) (b:Int) (li:Int),(a=0/\b=xs.length/\xs.length<=12)->Zd xs nl a b li):XOk Tryz.prog 147 ZQ :=
 Gv Q42 mixed X_ (C:=Xh) ⟨.nil,(XsOk.cons Wj (XsOk.cons GB (XsOk.cons GB (XsOk.cons GB XsOk.nil)))),ItsOk.nil,YlOk.nil,IysOk.nil,XfOk.nil⟩ (L:=λxs nl (d:Int×Int×Int) vals=>Xe xs nl d.1 d.2.1 d.2.2 vals) (V:=λxs nl (d:Int×Int×Int)=>Zd xs nl d.1 d.2.1 d.2.2) Kt λxs nl d hp=>h xs nl d.1 d.2.1 d.2.2 hp
theorem Kc:Kx:=Ks λxs nl a b li h=>by
 obtain⟨rfl,rfl,h2⟩:=h;unfold Zd;(try delta lI gD sT I64 X4 pj8 pj4);intro vals;refine⟨(),(),(by and_intros<;>first|rfl|trivial|simp),?_⟩;refine⟨λ_=>True,λ_=>0,trivial,?_⟩;rintro⟨⟩ -
 refine⟨by simp only[Qd];omega,λ_=>⟨⟨by omega,by omega,by omega,h2⟩,(by and_intros<;>first|rfl|trivial|simp)⟩,λc=>by simp at c;omega⟩
def Yf:AL (Unit):=.nil
def Nr (xs:List Int) (nl:Bool) (d:Unit):Prop:=xs.length<=12
def WY (xs:List Int) (nl:Bool) (d:Unit):SV:=.tup []
def Ws (xs:List Int) (nl:Bool) (d:Unit):List Int:=(US K7 xs 0 xs.length)
def Xs:XSp:=A4 Uq (Ez 3 (.i .i64) Yf Nr WY Ws)
def ZX (xs:List Int) (nl:Bool) :Prop:=∀ vals:List Value,
 (InK .u64 (lI xs))/\(0<=(lI xs)/\(lI xs)<=255)/\((0:Int)=0/\(lI xs)=xs.length/\xs.length<=12)/\(vals=vals/\(True/\(([]:List SV)=[]))/\((([]:List SV)=[]))/\((US K7 xs 0 xs.length)=(US K7 xs 0 xs.length)/\nl=nl))
def Yw:Cx:=⟨[],[(141,Y0)],11,[],0,[(147,ZQ)],[],[],[],false,[],[],[],[]⟩
def Yp (xs:List Int) (nl:Bool)  (vals:List Value):List (Nat×LoopAnn):=[]
theorem NS (xs:List Int) (nl:Bool) (d:Unit):(∀ vals,gwp Yw (Yp xs nl  vals) Z76 0 (AY vals [] (WY xs nl d) (.lst 3 (.i .i64) (Ws xs nl d) nl) (.lst 0)) (U4 11 (.lst 0) (.lst 3 (.i .i64) xs nl) vals (AL.can Yf d)))=ZX xs nl :=by kernel_rfl
abbrev M5:Prop:=XOk Tryz.prog 120 Xs
theorem Md (h:∀ (xs:List Int) (nl:Bool) ,(xs.length<=12)->ZX xs nl ):XOk Tryz.prog 120 Xs :=
 Gv Q4y mixed X_ (C:=Yw) ⟨(.cons NM .nil),(XsOk.cons Kc XsOk.nil),ItsOk.nil,YlOk.nil,IysOk.nil,XfOk.nil⟩ (L:=λxs nl (d:Unit) vals=>Yp xs nl  vals) (V:=λxs nl (d:Unit)=>ZX xs nl ) NS λxs nl d hp=>h xs nl  hp
theorem UU:M5:=Md λxs nl h=>by unfold ZX;(try delta lI gD sT I64 X4 pj8 pj4);intro vals;refine⟨by simp only[N9];omega,⟨by omega,by omega⟩,⟨rfl,rfl,h⟩,?_⟩;exact(by and_intros<;>first|rfl|trivial|simp)
end Go.Proofs.Tryz