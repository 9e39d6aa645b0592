/- A framework for walks, contracts of functions, and their proofs: part 5. -/
import Derived.ProofKit
import Derived.OpenShut
import Derived.LaidMore
import Derived.Carry
import Derived.Lib.SmallJoins
import Derived.Deep.Slices
import Derived.Test.YtfidkfoillgeeaaGreatDoorQ4
noncomputable section
set_option linter.unusedVariables false
set_option maxRecDepth 100000
namespace Go.V
open Go
def SB (s:St):VResult->Option SV
 |.tmp t=>some (s.env.getD t .any)
 |.cell a agg size=>bif Nat.blt 0 size then Q2y s.own agg size (s.env.getD a .any) else none
def V4 (s:St) (rs:List VResult):Option SV :=
 match rs with
 |[r]=>SB s r
 |rs=>(rs.mapM (SB s)).map .tup
def Q30 (mp:List (Nat×Option Nat)) (j:Nat) (a:Option Nat):Option (List (Nat×Option Nat)) :=
 if (Qn mp j).isSome then none else match a with
 |some x=>if mp.any fun p=>p.2==some x then none else some (mp++[(j,a)])
 |none=>some (mp++[(j,a)])
mutual
def IY:SV->SV->List (Nat×Option Nat)->Option (List (Nat×Option Nat))
 |.lst j,v,mp=>match v with|.lst a=>Q30 mp j (some a)|.nilS=>Q30 mp j none|_=>none
 |.map j,v,mp=>match v with|.map a=>Q30 mp j (some a)|_=>none
 |.dd j w,v,mp=>match w with
  |.out=>(match v with
   |.dd a w'=>(match w' with|.out=>Q30 mp j (some a)|_=>none)
   |.nilS=>Q30 mp j none
   |_=>none)
  |_=>none
 |.box j _,v,mp=>match v with|.box a _=>Q30 mp j (some a)|_=>none
 |.agg l,v,mp=>match v with|.agg l'=>Ew l l' mp|_=>none
 |.tup l,v,mp=>match v with|.tup l'=>Ew l l' mp|_=>none
 |.any,_,mp=>some mp
 |.val _ _,_,mp=>some mp
 |.nilS,_,mp=>some mp
 |.nilP,_,mp=>some mp
 |.nilM,_,mp=>some mp
 |.nilF,_,mp=>some mp
 |.sub _ _ _ _,_,_|.elp _ _ _ _,_,_|.grd _ _,_,_|.cp _ _,_,_|.fn _ _ _,_,_|.rop _ _ _ _,_,_|.pf _ _ _ _,_,_|.bid _ _,_,_=>none
def Ew:List SV->List SV->List (Nat×Option Nat)->Option (List (Nat×Option Nat))
 |[],_,mp=>some mp
 |s::ss,l,mp=>match l with
  |v::vs=>match IY s v mp with|some mp=>Ew ss vs mp|none=>none
  |[]=>none
end
def Q2x (s:St) (mp:List (Nat×Option Nat)):Nat->List OB->Prop
 |_,[]=>True
 |j,b::r=>Q2g s mp j b/\Q2x s mp (j+1) r
def Kn (rs:List VResult) (v:SV) (bs:List OB):Exit->St->Prop:=fun e s =>
 let fin:=match V4 s rs with
  |some r=>(match IY v r [] with
   |some mp=>Hk mp v r/\Q2x s mp 0 bs
   |none=>False)
  |none=>False
 match e with
 |.normal=>fin
 |.ret=>fin
 |_=>False
section
variable {P:Program}{B F:Heap}{pl:Nat->Value}{tb:Nat->Option Bool}{s:St}{env:Env}{σ:Heap}
theorem Hs (hG:Gam P B F pl tb s env σ) {r:VResult}{v:SV}(h:SB s r=some v):∃ u,ZO env σ r=some u/\SR P B pl tb v u:=by
 cases r with
 |tmp t=>obtain rfl:=osj h;exact⟨_,rfl,hG.env.getD t undef⟩
 |cell a agg size =>
  simp only[SB] at h;cases hb:Nat.blt 0 size with
  |false=>rw[hb] at h;cases h
  |true =>rw[hb] at h;obtain⟨i,o,c,e,wr,t,u,h1,h2,h3,h4⟩:=H7 hG.leB hG.obj (by simpa [Nat.blt_eq] using hb) h (hG.env.getD a undef);refine⟨u,?_,h4⟩;simp only[ZO,Q6,Q4,h1,h2,h3];rfl
theorem Kk (hG:Gam P B F pl tb s env σ) {rs:List VResult}{v:SV}(h:V4 s rs=some v):∃ u,Ja env σ rs=some u/\SR P B pl tb v u:=by
 have all:∀ (rs:List VResult) (l:List SV),rs.mapM (SB s)=some l->∃ us,rs.mapM (ZO env σ)=some us/\SRs P B pl tb l us:=by
  intro rs;induction rs with
  |nil=>intro l h;simp at h;subst h;exact⟨[],rfl,rfl⟩
  |cons r rs ih =>
   intro l h;rw[List.mapM_cons] at h;cases h1:SB s r with
   |none=>simp[h1] at h
   |some a =>
    cases h2:rs.mapM (SB s) with
    |none=>simp[h1,h2] at h
    |some l' =>simp[h1,h2] at h;subst h;obtain⟨u,h3,h4⟩:=Hs hG h1;obtain⟨us,h5,h6⟩:=ih l' h2;exact⟨u::us,by rw[List.mapM_cons];simp[h3,h5],by simp only[SRs];exact⟨u,us,rfl,h4,h6⟩⟩
 have tup:(rs.mapM (SB s)).map SV.tup=some v->∃ u,(rs.mapM (ZO env σ)).map (fun vs=>Value.tuple vs.toArray)=some u/\SR P B pl tb v u:=fun h=>by simp only[Option.map_eq_some_iff] at h;obtain⟨l,h1,rfl⟩:=h;obtain⟨us,h2,h3⟩:=all rs l h1;exact⟨.tuple us.toArray,by rw[h2];rfl,by simp only[SR];exact⟨us,rfl,h3⟩⟩
 match rs,h,tup with
 |[r],h,_=>exact Hs hG h
 |[],h,tup=>exact tup h
 |_::_::_,h,tup=>exact tup h
theorem UQ {mp cg:List (Nat×Option Nat)}{j:Nat}{a:Option Nat}(h:Q30 mp j a=some cg) (hi:Inj mp):Inj cg:=by
 unfold Q30 at h;split at h
 .cases h
 .split at h
  .rename_i x;split at h
   .cases h
   .rename_i hc;obtain rfl:=osj h;have cO:∀ d,Qn mp d≠some (some x):=fun d hd=>by
     obtain⟨p,h1,h2,h3⟩:=Se hd;exact hc (List.any_eq_true.2 ⟨p,h1,by rw[h3];simp⟩)
    intro t1 t2 a' h1 h2;rw[YQ] at h1 h2;split at h1
    .rename_i y1 e1;split at h2
     .rename_i y2 e2;obtain rfl:=osj h1;obtain rfl:=osj h2;exact hi t1 t2 a' e1 e2
     .split at h2
      .obtain rfl:=osj (osj h2);obtain rfl:=osj h1;exact absurd e1 (cO t1)
      .cases h2
    .split at h1
     .obtain rfl:=osj (osj h1);split at h2
      .rename_i y2 e2;obtain rfl:=osj h2;exact absurd e2 (cO t2)
      .split at h2
       .omega
       .cases h2
     .cases h1
  .obtain rfl:=osj h;intro t1 t2 a' h1 h2;rw[YQ] at h1 h2;split at h1
   .rename_i y1 e1;split at h2
    .rename_i y2 e2;obtain rfl:=osj h1;obtain rfl:=osj h2;exact hi t1 t2 a' e1 e2
    .split at h2<;>cases h2
   .split at h1<;>cases h1
mutual
theorem AU:∀ (v r:SV) (mp cg:List (Nat×Option Nat)),IY v r mp=some cg->Inj mp->Inj cg
 |.lst j,r,mp,cg,h,hi=>by
  simp only[IY] at h;split at h
  .exact UQ h hi
  .exact UQ h hi
  .cases h
 |.map j,r,mp,cg,h,hi=>by
  simp only[IY] at h;split at h
  .exact UQ h hi
  .cases h
 |.dd j w,r,mp,cg,h,hi=>by
  simp only[IY] at h;split at h
  .split at h
   .split at h
    .exact UQ h hi
    .cases h
   .exact UQ h hi
   .cases h
  .cases h
 |.box j _,r,mp,cg,h,hi=>by
  simp only[IY] at h;split at h
  .exact UQ h hi
  .cases h
 |.agg l,r,mp,cg,h,hi=>by
  simp only[IY] at h;split at h
  .exact P8 l _ mp cg h hi
  .cases h
 |.tup l,r,mp,cg,h,hi=>by
  simp only[IY] at h;split at h
  .exact P8 l _ mp cg h hi
  .cases h
 |.any,r,mp,cg,h,hi|.val _ _,r,mp,cg,h,hi|.nilS,r,mp,cg,h,hi|.nilP,r,mp,cg,h,hi|.nilM,r,mp,cg,h,hi|.nilF,r,mp,cg,h,hi=>by simp only[IY] at h;obtain rfl:=osj h;exact hi
 |.sub _ _ _ _,r,mp,cg,h,hi|.elp _ _ _ _,r,mp,cg,h,hi|.grd _ _,r,mp,cg,h,hi|.cp _ _,r,mp,cg,h,hi|.fn _ _ _,r,mp,cg,h,hi|.rop _ _ _ _,r,mp,cg,h,hi|.pf _ _ _ _,r,mp,cg,h,hi|.bid _ _,r,mp,cg,h,hi=>by cases h
theorem P8:∀ (v r:List SV) (mp cg:List (Nat×Option Nat)),Ew v r mp=some cg->Inj mp->Inj cg
 |[],r,mp,cg,h,hi=>by simp only[Ew] at h;obtain rfl:=osj h;exact hi
 |s::ss,[],mp,cg,h,hi=>by cases h
 |s::ss,r::rs,mp,cg,h,hi=>by
  simp only[Ew] at h;split at h
  .rename_i sV h1;exact P8 ss rs sV cg h (AU s r mp sV h1 hi)
  .cases h
end
theorem S3 {mp:List (Nat×Option Nat)}:∀ (bs:List OB) (n:Nat),Q2x s mp n bs->∀ j b,bs[j]?=some b->Q2g s mp (n+j) b
 |[],n,_,j,b,hj=>by simp at hj
 |b0::r,n,h,j,b,hj=>by
  obtain⟨h1,h2⟩:=h;cases j with
  |zero=>simp at hj;subst hj;exact h1
  |succ j =>
   have:=S3 r (n+1) h2 j b (by simpa using hj)
   rwa [Nat.add_assoc,Nat.add_comm 1 j] at this
mutual
theorem E1 {n:Nat}{π:Nat->Nat}:∀ (v:SV) (u:Value),v.ret 0=true->SR P B pl tb v u->Ren n π u u
 |.val k x,u,h,hs=>by
  simp only[SR] at hs;cases k with
  |i ik=>simp only[KC] at hs;obtain rfl:=(List.cons.inj hs).1;exact .plain _ rfl
  |bo=>simp only[KC] at hs;obtain rfl:=(List.cons.inj hs).1;exact .plain _ rfl
  |st=>simp only[KC] at hs;obtain rfl:=(List.cons.inj hs).1;exact .plain _ rfl
  |list k=>cases h
  |pair a b =>have h1:=KC.length hs;have h2:=a.size_pos;have h3:=b.size_pos;simp only[Kind.size,List.length_singleton] at h1;omega
 |.nilS,u,_,hs|.nilP,u,_,hs|.nilM,u,_,hs|.nilF,u,_,hs=>by simp only[SR] at hs;subst hs;exact .plain _ rfl
 |.lst j,u,h,_|.box j _,u,h,_|.map j,u,h,_=>by simp[SV.ret,Nat.blt_eq] at h
 |.dd j w,u,h,_=>by cases w<;>simp[SV.ret,Nat.blt_eq] at h
 |.agg l,u,h,hs=>by simp only[SR] at hs;obtain⟨cs,rfl,h2⟩:=hs;have:=BY (n:=n) (π:=π) l cs h h2;exact .agg _ _ rfl fun i h3 _=>this _ (by simp)
 |.tup l,u,h,hs=>by simp only[SR] at hs;obtain⟨cs,rfl,h2⟩:=hs;have:=BY (n:=n) (π:=π) l cs h h2;exact .tuple _ _ rfl fun i h3 _=>this _ (by simp)
 |.any,_,h,_|.bid _ _,_,h,_|.grd _ _,_,h,_|.sub _ _ _ _,_,h,_|.elp _ _ _ _,_,h,_|.rop _ _ _ _,_,h,_|.cp _ _,_,h,_|.fn _ _ _,_,h,_|.pf _ _ _ _,_,h,_=>by cases h
theorem BY {n:Nat}{π:Nat->Nat}:∀ (v:List SV) (u:List Value),SVs.ret 0 v=true->SRs P B pl tb v u->∀ x∈u,Ren n π x x
 |[],u,_,hs=>by simp only[SRs] at hs;subst hs;intro x hx;cases hx
 |s::ss,u,h,hs=>by
  simp only[SVs.ret,Bool.and_eq_true] at h;simp only[SRs] at hs;obtain⟨x,y,rfl,h1,h2⟩:=hs;intro z hz;rcases List.mem_cons.1 hz with rfl|hz
  .exact E1 s z h.1 h1
  .exact BY ss y h.2 h2 z hz
end
theorem EY (exact:Bool) {σ0:Heap}{sf:St}{ma:Env}{σf:Heap}(hR:GRel P σ0 σ0 σ0 sf ma σf) {rs:List VResult}{v:SV}{bs:List OB}{e:Exit}(hv:v.ret bs.length=true) (hb:bs.all OB.ret=true) (h:Kn rs v bs e sf) (hx:exact=true->bs.all OB.isL=true/\YN v=true) :
  Z0v σ0 rs (fun u σ'=>if exact then u=Kj (PK σ0 bs) v/\σ'=Mr σ0 bs else Ret P σ0 v bs u σ') e ma σf:=by
 have main:(match V4 sf rs with
  |some r=>(match IY v r [] with
   |some mp=>Hk mp v r/\Q2x sf mp 0 bs
   |none=>False)
  |none=>False)->QU (Ja ma σf rs) fun u=>∃ v' σ',DropTo σ0 u σf v' σ'/\(if exact then v'=Kj (PK σ0 bs) v/\σ'=Mr σ0 bs else Ret P σ0 v bs v' σ'):=fun h=>by
  split at h
  .rename_i r hr;split at h
   .rename_i mp oq;obtain⟨h1,h2⟩:=h;obtain⟨B,F,pl,tb,⟨hB,hF,_,hd⟩,hG⟩:=hR;obtain⟨u,h3,h4⟩:=Kk hG hr;have jm:=Ky v r u h1 h4;have fe:=AU v r [] mp oq (fun t t' a h=>by cases h);have ao:∀ j b,bs[j]?=some b->Q2g sf mp j b:=fun j b hj=>by have:=S3 bs 0 h2 j b hj;rwa [Nat.zero_add] at this
    rw[h3];have hle:σ0.Le σf:=hF.trans hG.le;have hA:Agree σ0 σf:=fun i hi=>by
     cases hg:σ0.get i with
     |none=>exact hd.2 i hi hg
     |some b=>exact hle.2 i b hg
    have aR:∀ j b,bs[j]?=some b->OR P hNil (Nb pl mp) ZH σf (Nb pl mp j) b/\∀ i,Oid (Nb pl mp j) i->σ0.get i=none/\σ0.n<=i:=fun j b hj=>by
     obtain⟨k1,k2⟩:=QN hG (ao j b hj);have dI:=List.all_eq_true.1 hb b (List.mem_of_getElem? hj);have aA:b.live=true:=by cases b<;>first|rfl|cases dI
     refine⟨k1.retd dI fun _ _=>rfl,fun i hi=>?_⟩;obtain⟨a,e1,e2,e3⟩:=k2 aA i hi;have mO:=hG.fresh a i e2 e3;have hn:σ0.get i=none:=by
      cases hg:σ0.get i with
      |none=>rfl
      |some b=>rw[hF.2 i b hg] at mO;cases mO
     refine⟨hn,Nat.le_of_not_lt fun ah=>?_⟩;have bE:=hd.2 i ah hn;have ao:=hG.obj a;cases ho:Qd sf.own a with
     |dead=>rw[ho] at e2;cases e2
     |lst ty k xs nl =>
      rw[ho] at ao;rcases ao with⟨_,_,h2⟩|⟨_,i',cap,c,t,h2,_,h3,_⟩
      .rw[h2] at e3;cases e3
      .rw[h2] at e3;obtain rfl:=osj e3;rw[h3] at bE;cases bE
     |cells l u=>rw[ho] at ao;obtain⟨i',c,e,t,h2,h3,_⟩:=ao;rw[h2] at e3;obtain rfl:=osj e3;rw[h3] at bE;cases bE
     |mapE kk vk m key n=>rw[ho] at ao;obtain⟨i',es,cl,r,e,h2,h3,_⟩:=ao;rw[h2] at e3;obtain rfl:=osj e3;rw[h3] at bE;cases bE
     |map kk vk m=>rw[ho] at ao;obtain⟨i',es,cl,h2,h3,_⟩:=ao;rw[h2] at e3;obtain rfl:=osj e3;rw[h3] at bE;cases bE
     |stk l vals=>rw[ho] at e2;cases e2
     |lpf l q s=>rw[ho] at ao e2;obtain⟨h2,_,h3⟩:=ao;rw[h2] at e3;obtain rfl:=osj e3;have h3:=h3 e2;rw[bE] at h3;cases h3
     |iter kk vk m dn=>rw[ho] at ao;obtain⟨j',i',es,cl,wr,seen,h2,h3,_⟩:=ao;rw[h2] at e3;obtain rfl:=osj e3;rw[h3] at bE;cases bE
     |deep ty q k xs nl hh =>rw[ho] at ao;obtain⟨is,_,d2,d3,_⟩:=DP.open ao;obtain⟨c,e,t,h⟩:=d2.cells i ((d3 i).1 e3);rw[h] at bE;cases bE
    have fI:∀ j j' i,j<bs.length->j'<bs.length->j≠j'->Oid (Nb pl mp j) i->Oid (Nb pl mp j') i->False:=fun j j' i hj dy aC hi cG=>by
     have bw:=List.getElem?_eq_getElem hj;have cn:=List.getElem?_eq_getElem dy;have r1:=List.all_eq_true.1 hb _ (List.getElem_mem hj);have r2:=List.all_eq_true.1 hb _ (List.getElem_mem dy);have l1:(bs[j]).live=true:=by cases po:bs[j]<;>first|rfl|(rw[po] at r1;cases r1)
     have l2:(bs[j']).live=true:=by cases po:bs[j']<;>first|rfl|(rw[po] at r2;cases r2)
     obtain⟨a,e1,e2,e3⟩:=(QN hG (ao j _ bw)).2 l1 i hi;obtain⟨a',vU,mI,vV⟩:=(QN hG (ao j' _ cn)).2 l2 i cG;by_cases e:a=a'
     .subst e;exact aC (fe j j' a e1 vU)
     .exact hG.sep a a' i e e2 mI e3 vV
    cases hex:exact with
    |true =>obtain⟨hl,cH⟩:=hx hex;have oC:=Fa (P:=P) hA hle.1 hv cH hb hl (pl:=Nb pl mp) (u:=u) (fun j b hj=>⟨(aR j b hj).1,fun i hi=>((aR j b hj).2 i (CO hi)).2⟩) (fun j j' i a b c d e=>fI j j' i a b c (CO d) (CO e)) (jm.retd (fun j hj=>rfl) _ _ hv);exact⟨_,_,oC,by simp⟩
    |false =>
     simp only[Bool.false_eq_true,if_false];by_cases b9:bs=[]
     .subst b9;refine⟨u,σ0,.rename (fun i=>i) (Nat.le_refl _) (fun i hi=>⟨rfl,(hA i hi).symm,.inl (hA i hi)⟩) (fun i k1 k2=>by omega) (fun _ _ _ _ _ _ h=>h) (E1 v u hv jm),?_⟩;exact⟨⟨Heap.Le.refl _,Dead.refl _⟩,fun _=>rfl,Jq,(fun j b hj=>by simp at hj),(fun j j' i hj=>by simp at hj),jm.retd (fun j hj=>by simp at hj) _ _ hv⟩
     .exact⟨u,σf,.refl _ _ _,⟨hle,hd⟩,fun e=>absurd e b9,Nb pl mp,aR,fI,jm.retd (fun j hj=>rfl) _ _ hv⟩
   .exact h.elim
  .exact h.elim
 cases e with
 |normal=>exact main h
 |ret=>exact main h
 |_=>exact h.elim
def Qx (nt:Nat) (args:List SV):St:=⟨args++List.replicate (nt-args.length) .any,[],0⟩
theorem I2 {args:List SV}{vs:List Value}(h:SRs P σ Jq ZH args vs) (nt:Nat):GRel P σ σ σ (Qx nt args) (vs++List.replicate (nt-vs.length) undef) σ:=by
 have vW:∀ n,SRs P σ Jq ZH (List.replicate n .any) (List.replicate n undef):=by
  intro n;induction n with
  |zero=>simp[SRs]
  |succ n ih=>simp only[List.replicate_succ,SRs];exact⟨_,_,rfl,by simp[SR],ih⟩
 refine⟨σ,σ,Jq,ZH,⟨Heap.Le.refl _,Heap.Le.refl _,(fun i b h1 h2=>by rw[h2] at h1;cases h1),Dead.refl _⟩,Heap.Le.refl _,Heap.Le.refl _,?_,fun d=>trivial,(fun d i hl=>by cases hl),(fun d d' i _ hl=>by cases hl),fun _ _=>rfl⟩;have:=h.length;simp only[Qx,this];exact h.append (vW _)
theorem Fun.okC {f:Nat}{vc:VCode}{rs:List VResult}{nt:Nat}(h:Fun P f vc rs nt) (hm:P.follows .mixedOrders=true) {sp:CSp}
  (hb:∀ ap,Q3d P ap->∀ args c v bs,sp ap args=some (c,v,bs)->c->∃ (C:Cx) (L:List (Nat×LoopAnn)) (iV:List SV),(∀ σ vs,SRs P σ Jq ZH args vs->SRs P σ Jq ZH iV vs)/\COk P C/\gwp C L vc 0 (Kn rs v bs) (Qx nt iV)):OkC P f sp:=by
 intro ap ep σ args vs c v bs aB gQ hv b9 hc;obtain⟨C,L,iV,h1,h2,h3⟩:=hb ap ep args c v bs gQ hc;have main:∀ exact:Bool,(exact=true->bs.all OB.isL=true/\YN v=true)->VCalled P f vs σ fun u σ'=>if exact then u=Kj (PK σ bs) v/\σ'=Mr σ bs else Ret P σ v bs u σ':=fun exact hx=>by refine h.calls hm Ro ?_;exact ML h2 vc 0 _ _ _ σ none _ trivial (I2 (h1 σ vs aB) nt) h3 fun e s' af σ' k1 k2=>EY exact k2 hv b9 k1 hx
 refine⟨(main false fun e=>by cases e).mono fun u σ' hr=>by simpa using hr,fun hl cH=>(main true fun _=>⟨hl,cH⟩).mono fun u σ' hr=>by simpa using hr⟩
theorem OkC.true {f:Nat}{sp:CSp}(h:OkC P f sp) (he:J0 P f) {σ:Heap}{args:List SV}{vs:List Value}(ha:SRs P σ Jq ZH args vs) {c:Prop}(hs:sp (fun _ _=>none) args=some (c,.val .bo true,[])) (hc:c) :
  VCallsTo P f vs σ fun v _=>v=.bool true:=by
 have:=(h (fun _ _=>none) (fun _ _ _ _ _ _ _ _ _ h=>by cases h) σ args vs c _ [] ha hs rfl rfl hc).1;intro ρ w av hH hL;rcases this ρ w av hH hL with⟨_,h2⟩|⟨c',_,h2⟩
 .refine h2.mono fun e w' ⟨c',h3,h4⟩=>⟨c',h3,h4.mono fun u σ' hr=>?_⟩;have:=(hr.flat rfl).2;simpa only [SR,KC,List.cons.injEq,and_true] using this
 .have:=h2 w (Like.refl ρ w);rw[K1 he av w] at this;cases this
end
end Go.V
namespace Go.V
open Go
mutual
inductive AP:Type->Type 1 where
 |k (k:Kind):AP k.T
 |agg {D:Type}(l:AL D):AP D
 |ptr {D:Type}(l:AL D):AP D
 |fn (ks:List Kind) (r:Kind):AP ((AT ks->Prop)×(AT ks->r.T))
 |nilS:AP Unit
 |any:AP Unit
 |int (k:IntKind) (n:Int):AP Unit
inductive AL:Type->Type 1 where
 |nil:AL Unit
 |one {D:Type}(a:AP D):AL D
 |cons {D E:Type}(a:AP D) (r:AL E):AL (D×E)
end
def TY:(ks:List Kind)->AT ks->List SV
 |[],_=>[]
 |[k],x=>[Q0v k x]
 |k::k'::ks,x=>Q0v k x.1::TY (k'::ks) x.2
abbrev Ap:=SV->List SV->Option (Prop×SV)
def Q1q (ap:Ap) (f:SV) (ks:List Kind) (r:Kind) (x:AT ks):Prop:=match ap f (TY ks x) with
 |some (c,v)=>(match gap.asV r v with|some _=>c|none=>False)
 |none=>False
def fnP (ap:Ap) (f:SV) (ks:List Kind) (r:Kind) (x:AT ks):r.T:=match ap f (TY ks x) with
 |some (_,v)=>(match gap.asV r v with|some y=>y|none=>r.dflt)
 |none=>r.dflt
mutual
def AP.dec (ap:Ap):{D:Type}->(p:AP D)->SV->Option D
 |_,.k k,v=>match k with
  |.list k=>view [] k v
  |.i ik=>PT (.i ik) [v]
  |.bo=>PT .bo [v]
  |.st=>PT .st [v]
  |.pair _ _=>none
 |_,.agg l,v=>match v with|.agg vs=>AL.dec ap l vs|_=>none
 |_,.nilS,v=>match v with|.nilS=>some ()|_=>none
 |_,.any,_=>some ()
 |_,.int k n,v=>match PT (.i k) [v] with|some x=>if (show Int from x)=n then some () else none|none=>none
 |_,.ptr l,v=>match v with|.cp vs 0=>AL.dec ap l vs|_=>none
 |_,.fn ks r,v=>match v with
  |.fn g a b=>some (Q1q ap (.fn g a b) ks r,fnP ap (.fn g a b) ks r)
  |.pf sW r' cQ p=>some (Q1q ap (.pf sW r' cQ p) ks r,fnP ap (.pf sW r' cQ p) ks r)
  |_=>none
def AL.dec (ap:Ap):{D:Type}->(l:AL D)->List SV->Option D
 |_,.nil,vs=>match vs with|[]=>some ()|_=>none
 |_,.one a,vs=>match vs with|[v]=>AP.dec ap a v|_=>none
 |_,.cons a r,vs=>match vs with
  |v::vs=>(match AP.dec ap a v,AL.dec ap r vs with|some x,some y=>some (x,y)|_,_=>none)
  |[]=>none
end
mutual
def AP.can:{D:Type}->(p:AP D)->D->SV
 |_,.k k,x=>.val k x
 |_,.agg l,x=>.agg (AL.can l x)
 |_,.nilS,_=>.nilS
 |_,.any,_=>.any
 |_,.int k n,_=>.val (.i k) n
 |_,.ptr l,x=>.cp (AL.can l x) 0
 |_,.fn ks r,x=>.pf ks r x.1 x.2
def AL.can:{D:Type}->(l:AL D)->D->List SV
 |_,.nil,_=>[]
 |_,.one a,x=>[AP.can a x]
 |_,.cons a r,x=>AP.can a x.1::AL.can r x.2
end
def WZ {D:Type}(l:AL D) (pre:D->Prop) (res:D->SV) (obs:D->List OB):CSp:=fun ap args=>match AL.dec ap l args with
 |some d=>some (pre d,res d,obs d)
 |none=>none
section
variable {P:Program}{σ:Heap}
theorem Mq:∀ {ks:List Kind}{x:AT ks}{vs:List Value},P_ σ ks x vs->SRs P σ Jq ZH (TY ks x) vs
 |[],x,vs,h=>by simp only[P_] at h;subst h;simp[TY,SRs]
 |[k],x,vs,h=>by obtain⟨v,rfl,h1⟩:=h;simp only[TY,SRs];exact⟨v,[],rfl,X6 h1,rfl⟩
 |k::k'::ks,x,vs,h=>by obtain⟨v,cT,rfl,h1,h2⟩:=h;simp only[TY,SRs];exact⟨v,cT,rfl,X6 h1,Mq h2⟩
theorem Ei {ap:Ap}(ep:Q3d P ap) {f:SV}{v:Value}(hf:SR P σ Jq ZH f v) (hv:∃ g a b,v=.func (.func g) a b) (ks:List Kind) (r:Kind):SR P σ Jq ZH (.pf ks r (Q1q ap f ks r) (fnP ap f ks r)) v:=by
 obtain⟨g,a,b,rfl⟩:=hv;simp only[SR];refine⟨g,a,b,rfl,fun x hd τ vs hle cu=>?_⟩;unfold Q1q at hd;split at hd
 .rename_i c u oD;split at hd
  .rename_i y hy;obtain⟨h1,g',a',b',h2,h3⟩:=ep τ f (TY ks x) c u (.func (.func g) a b) vs (SR.mono hle (fun _ _ h=>h) _ _ hf) (Mq cu) oD hd;obtain⟨rfl,rfl,rfl⟩:=(by simpa using h2:g=g'/\a=a'/\b=b');have hp:fnP ap f ks r x=y:=by simp[fnP,oD,hy]
   rw[hp];exact h3.mono fun u' σ' hu=>⟨hu.1,(HN hy hu.2).vcall (AS _)⟩
  .exact hd.elim
 .exact hd.elim
mutual
theorem AP.dec_sound {ap:Ap}(ep:Q3d P ap):∀ {D:Type}(p:AP D) {v:SV}{x:D}{u:Value},AP.dec ap p v=some x->SR P σ Jq ZH v u->SR P σ Jq ZH (AP.can p x) u
 |_,.k k,v,x,u,h,hs=>by
  have one:SRs P σ Jq ZH [v] [u]:=by simp only[SRs];exact⟨u,[],rfl,hs,rfl⟩
  simp only[AP.can,SR];cases k with
  |list k =>have:=XJ (own:=[]) (Heap.Le.refl σ) (fun d=>(trivial:OR P σ Jq ZH σ (Jq d) .dead)) (show view [] k v=some x from h) hs;exact⟨u,rfl,this⟩
  |i ik=>exact QB (k:=.i ik) h one
  |bo=>exact QB (k:=.bo) h one
  |st=>exact QB (k:=.st) h one
  |pair a b=>cases h
 |_,.agg l,v,x,u,h,hs=>by
  simp only[AP.dec] at h;split at h
  .simp only[SR] at hs;obtain⟨cs,rfl,hs⟩:=hs;simp only[AP.can,SR];exact⟨cs,rfl,AL.dec_sound ep l h hs⟩
  .cases h
 |_,.any,v,x,u,h,hs=>by simp only[AP.can,SR]
 |_,.int k n,v,x,u,h,hs=>by
  have one:SRs P σ Jq ZH [v] [u]:=by simp only[SRs];exact⟨u,[],rfl,hs,rfl⟩
  simp only[AP.dec] at h;split at h
  .rename_i y hy;split at h
   .rename_i e;subst e;simp only[AP.can,SR];exact QB (k:=.i k) hy one
   .cases h
  .cases h
 |_,.nilS,v,x,u,h,hs=>by
  simp only[AP.dec] at h;split at h
  .simp only[AP.can];exact hs
  .cases h
 |_,.ptr l,v,x,u,h,hs=>by
  simp only[AP.dec] at h;split at h
  .simp only[SR] at hs;obtain⟨b,c,e,wr,t,h1,rfl,h3⟩:=hs;simp only[AP.can,SR];exact⟨b,c,e,wr,t,h1,rfl,AL.dec_sound ep l h h3⟩
  .cases h
 |_,.fn ks r,v,x,u,h,hs=>by
  simp only[AP.dec] at h;split at h
  .obtain rfl:=osj h;exact Ei ep hs (by simp only[SR] at hs;obtain⟨x,y,rfl,_⟩:=hs;exact⟨_,_,_,rfl⟩) ks r
  .obtain rfl:=osj h;exact Ei ep hs (by simp only[SR] at hs;obtain⟨g,x,y,rfl,_⟩:=hs;exact⟨_,_,_,rfl⟩) ks r
  .cases h
theorem AL.dec_sound {ap:Ap}(ep:Q3d P ap):∀ {D:Type}(l:AL D) {vs:List SV}{x:D}{us:List Value},AL.dec ap l vs=some x->SRs P σ Jq ZH vs us->SRs P σ Jq ZH (AL.can l x) us
 |_,.nil,vs,x,us,h,hs=>by
  simp only[AL.dec] at h;split at h
  .exact hs
  .cases h
 |_,.one a,vs,x,us,h,hs=>by
  simp only[AL.dec] at h;split at h
  .obtain⟨u,rfl,h1⟩:=hs.one;simp only[AL.can,SRs];exact⟨u,[],rfl,AP.dec_sound ep a h h1,rfl⟩
  .cases h
 |_,.cons a r,vs,x,us,h,hs=>by
  simp only[AL.dec] at h;split at h
  .rename_i v cT;split at h
   .rename_i y z h1 h2;obtain rfl:=osj h;simp only[SRs] at hs;obtain⟨u,lJ,rfl,h3,h4⟩:=hs;simp only[AL.can,SRs];exact⟨u,lJ,rfl,AP.dec_sound ep a h1 h3,AL.dec_sound ep r h2 h4⟩
   .cases h
  .cases h
end
theorem CsOk.nil:CsOk P []:=fun f sp h=>by cases h
theorem CsOk.cons {f:Nat}{sp:CSp}{cs:List (Nat×CSp)}(h:OkC P f sp) (t:CsOk P cs):CsOk P ((f,sp)::cs):=fun g vX hg=>by
 simp only[Qn] at hg;cases hb:Nat.beq f g with
 |true=>rw[hb] at hg;obtain rfl:=Nat.eq_of_beq_eq_true hb;obtain rfl:=osj hg;exact h
 |false=>rw[hb] at hg;exact t g vX hg
theorem COk.cons {C:Cx}{f:Nat}{sp:CSp}(h:OkC P f sp) (t:COk P C):COk P {C with cs:=(f,sp)::C.cs}:=⟨CsOk.cons h t.cs,t.xs,t.it,t.yl,t.iy,t.xf⟩
theorem Q8r {f:Nat}{vc:VCode}{rs:List VResult}{nt:Nat}(h:Fun P f vc rs nt) (hm:P.follows .mixedOrders=true) {D:Type}{l:AL D}{pre:D->Prop}{res:D->SV}{obs:D->List OB}
  {C:Cx}(az:COk P C) (L:D->List (Nat×LoopAnn)) (hb:∀ d,pre d->gwp C (L d) vc 0 (Kn rs (res d) (obs d)) (Qx nt (AL.can l d))):OkC P f (WZ l pre res obs):=by
 refine h.okC hm fun ap ep args c v bs hs hc=>?_;unfold WZ at hs;split at hs
 .rename_i d hd;obtain⟨rfl,rfl,rfl⟩:=(by simpa using hs:pre d=c/\res d=v/\obs d=bs);exact⟨C,L d,AL.can l d,fun σ vs hv=>AL.dec_sound ep l hd hv,az,hb d hc⟩
 .cases hs
theorem QH {f:Nat}{vc:VCode}{rs:List VResult}{nt:Nat}(h:Fun P f vc rs nt) (hm:P.follows .mixedOrders=true) {D:Type}{l:AL D}{pre:D->Prop}{res:D->SV}{obs:D->List OB}
  {C:Cx}(az:COk P C) {L:D->List (Nat×LoopAnn)}{V:D->Prop}(hq:∀ d,gwp C (L d) vc 0 (Kn rs (res d) (obs d)) (Qx nt (AL.can l d))=V d) (hb:∀ d,pre d->V d):OkC P f (WZ l pre res obs) :=
 Q8r h hm az L fun d hp=>(hq d).mpr (hb d hp)
end
end Go.V
namespace Go.V
open Go
def Z2l (key:Nat) (vals:List Value) (rs:List VResult) (K:SV->St->Prop):Exit->St->Prop:=fun e s =>
 let fin:=match V4 s rs,Qd s.own key with
  |some r,.stk l vs=>vs=vals/\K r ⟨l,s.own,s.nx⟩
  |_,_=>False
 match e with
 |.normal=>fin
 |.ret=>fin
 |_=>False
def Q7q:XSp:=fun _ args s K=>match args with
 |[v]=>K v s
 |_=>False
def Q2p (C:Cx) (L:List Value->List (Nat×LoopAnn)) (vc:VCode) (rs:List VResult) (nt:Nat):XSp:=fun d args s K =>
 ∀ vals,gwp {C with off:=100000*(d+1)} (L vals) vc 0 (Z2l (100000*(d+1)-1) vals rs K) ⟨SVs.kill (100000*(d+1)-1) args++List.replicate (nt-args.length) .any,(LX (100000*(d+1)-1) vals s).own,s.nx⟩
def Z33 (C:Cx) (L:List (Nat×LoopAnn)) (vc:VCode) (nt:Nat):Q89:=fun o args y s K =>
 gwp {C with off:=100000*(o+1),yl:=[y]} L vc 0 (fun e s'=>match e with|.normal=>K s'|.ret=>K s'|_=>False) ⟨args++List.replicate (nt-args.length) .any,s.own,s.nx⟩
section
variable {P:Program}
theorem Rp {B:Heap}{pl:Nat->Value}{tb:Nat->Option Bool}:∀ n,SRs P B pl tb (List.replicate n .any) (List.replicate n undef)
 |0=>by simp[SRs]
 |n+1=>by simp only[List.replicate_succ,SRs];exact⟨_,_,rfl,by simp[SR],Rp n⟩
theorem AE {f:Nat}(h:∀ (v:Value) (σ:Heap) (K:Value->Heap->Prop),K v σ->VCalled P f [v] σ K):XOk P f Q7q:=by
 intro B F pl tb s env σ d args vs K R hG ha hx hK
 match args,ha,hx with
 |[v],ha,hx =>simp only[SRs] at ha;obtain⟨u,_,rfl,h1,rfl⟩:=ha;exact h u σ R (hK v s B F pl tb u σ hx (.of hG.bf (.refl _)) hG h1)
 |[],_,hx=>exact hx.elim
 |_::_::_,_,hx=>exact hx.elim
theorem U8 {f:Nat}{vc:VCode}{rs:List VResult}{nt:Nat}(h:Fun P f vc rs nt) (hm:P.follows .mixedOrders=true) {C:Cx}(az:COk P C) (L:List Value->List (Nat×LoopAnn)):XOk P f (Q2p C L vc rs nt):=by
 intro B F pl tb s env σ d args vs K R hG ha hx hK;have hx:=hx env;refine h.calls hm Ro ?_;have q3:Gam P B F (Je pl (100000*(d+1)-1) poison) tb (LX (100000*(d+1)-1) env s) env σ:=by refine hG.make _ _ poison hG.le (fun _ _ _ _ _=>rfl) ?_ (fun i hl _=>by cases hl);exact SRs.upd (.refl _) (fun _ _ h=>h) (fun j hj=>by simp[Je,hj]) _ _ hG.env
 have iW:COk P {C with off:=100000*(d+1)}:=⟨az.cs,az.xs,az.it,az.yl,az.iy,az.xf⟩;have aB:=SRs.upd (P:=P) (Heap.Le.refl B) (fun _ _ h=>h) (pl':=Je pl (100000*(d+1)-1) poison) (tb':=tb) (o:=100000*(d+1)-1) (fun j hj=>by simp[Je,hj]) _ _ ha;have bJ:GRel P B F σ ⟨SVs.kill (100000*(d+1)-1) args++List.replicate (nt-args.length) .any,(LX (100000*(d+1)-1) env s).own,s.nx⟩ (vs++List.replicate (nt-vs.length) undef) σ:=by refine⟨B,F,_,tb,.of hG.bf (.refl _),⟨q3.bf,q3.le,?_,q3.obj,q3.fresh,q3.sep,q3.free⟩⟩;rw[ha.length];exact aB.append (Rp _)
 refine ML iW vc 0 _ _ _ σ none _ trivial bJ hx fun e s' af σ' h1 h2=>?_
 .have main:(match V4 s' rs,Qd s'.own (100000*(d+1)-1) with
   |some r,.stk l vs=>vs=env/\K r ⟨l,s'.own,s'.nx⟩
   |_,_=>False)->QU (Ja af σ' rs) fun v=>∃ v' aN,DropTo σ v σ' v' aN/\R v' aN:=fun h=>by
   obtain⟨B',F',pl',tb',k1,k2⟩:=h2;split at h
   .rename_i r l cT hr iU;obtain⟨rfl,h⟩:=h;obtain⟨u,h3,h4⟩:=Kk k2 hr;rw[h3];have ao:=k2.obj (100000*(d+1)-1);rw[iU] at ao;exact⟨u,σ',.refl _ _ _,hK r _ B' F' pl' tb' u σ' h k1 ⟨k2.bf,k2.le,ao,k2.obj,k2.fresh,k2.sep,k2.free⟩ h4⟩
   .exact h.elim
  cases e with
  |normal=>exact main h1
  |ret=>exact main h1
  |_=>exact h1.elim
theorem Q55 {f:Nat}{vc:VCode}{nt:Nat}(h:Fun P f vc [] nt) (hm:P.follows .mixedOrders=true) {C:Cx}(az:COk P C) (L:List (Nat×LoopAnn)):Q87 P f (Z33 C L vc nt):=by
 refine⟨h.enterable,fun B F pl tb s env σ o args vs y K R hG ha hy hx hK=>h.callsTo hm Ro ?_⟩;have iW:COk P {C with off:=100000*(o+1),yl:=[(o,y)]}:=⟨az.cs,az.xs,az.it,fun o' y' h'=>by
  simp only[Qn] at h';cases hb:Nat.beq o o' with
  |true=>rw[hb] at h';obtain rfl:=Nat.eq_of_beq_eq_true hb;obtain rfl:=osj h';exact hy
  |false=>rw[hb] at h';exact(by cases h'),az.iy,az.xf⟩
 have bJ:GRel P B F σ ⟨args++List.replicate (nt-args.length) .any,s.own,s.nx⟩ (vs++List.replicate (nt-vs.length) undef) σ:=by refine⟨B,F,pl,tb,.of hG.bf (Dead.refl _),⟨hG.bf,hG.le,?_,hG.obj,hG.fresh,hG.sep,hG.free⟩⟩;rw[ha.length];exact ha.append (Rp _)
 refine ML iW vc 0 _ _ _ σ none _ trivial bJ hx fun e s' af σ' h1 h2=>?_;have main:K s'->QU (Ja af σ' []) fun v=>∃ v' aN,DropTo σ v σ' v' aN/\R aN:=fun h=>by obtain⟨B',F',pl',tb',k1,k2⟩:=h2;exact⟨_,σ',.refl _ _ _,hK s' B' F' pl' tb' af σ' h k1 k2⟩
 cases e with
 |normal=>exact main h1
 |ret=>exact main h1
 |_=>exact h1.elim
end
end Go.V
namespace Go.V
open Go
section
variable {P:Program}
theorem Heap.Le.kill' {B σ:Heap}(h:B.Le σ) {i:Nat}(hi:B.get i=none):B.Le (σ.kill i):=⟨h.1,fun j b hb=>by
 have:j≠i:=by rintro rfl;rw[hi] at hb;cases hb
 rw[Heap.get_kill_ne _ this];exact h.2 _ _ hb⟩
theorem Heap.kill_le (σ:Heap) (i:Nat):(σ.kill i).Le σ:=⟨Nat.le_refl _,fun j b hb=>by
 by_cases e:j=i
 .subst e;rw[Heap.get_kill_self] at hb;cases hb
 .rwa [Heap.get_kill_ne _ e] at hb⟩
mutual
theorem AP.can_pure:∀ {D:Type}(p:AP D) (x:D),(AP.can p x).pure=true
 |_,.k k,x=>rfl
 |_,.agg l,x=>by simp only[AP.can,SV.pure];exact AL.can_pure l x
 |_,.nilS,x=>rfl
 |_,.any,x=>rfl
 |_,.int k n,x=>rfl
 |_,.ptr l,x=>by simp only[AP.can,SV.pure];exact AL.can_pure l x
 |_,.fn ks r,x=>rfl
theorem AL.can_pure:∀ {D:Type}(l:AL D) (x:D),SVs.pure (AL.can l x)=true
 |_,.nil,x=>rfl
 |_,.one a,x=>by simp only[AL.can,SVs.pure,AP.can_pure a x];rfl
 |_,.cons a r,x=>by simp only[AL.can,SVs.pure,AP.can_pure a x.1,AL.can_pure r x.2];rfl
end
end
end Go.V
namespace Go.V
open Go
abbrev lI {α:Type}(l:List α):Int:=(l.length:Int)
abbrev gD {α:Type}(l:List α) (i:Int) (d:α):α:=l.getD i.toNat d
abbrev sT {α:Type}(l:List α) (i:Int) (x:α):List α:=l.set i.toNat x
abbrev I64 (x:Int):Prop:=InK .i64 x
theorem Q7 (x:Int):InK .i64 x<->-9223372036854775808<=x/\x<=9223372036854775807:=by simp[InK,IntKind.min,IntKind.max,IntKind.bits,IntKind.signed]
theorem LG (x:Int):InK .u8 x<->0<=x/\x<=255:=by simp[InK,IntKind.min,IntKind.max,IntKind.bits,IntKind.signed]
theorem Q53 (x:Int):InK .u16 x<->0<=x/\x<=65535:=by simp[InK,IntKind.min,IntKind.max,IntKind.bits,IntKind.signed]
theorem OM (x:Int):InK .u64 x<->0<=x/\x<=18446744073709551615:=by simp[InK,IntKind.min,IntKind.max,IntKind.bits,IntKind.signed]
theorem LoopP.count {F:Int->(Int->Prop)->Prop}(n:Nat) (J:Nat->Prop) (h0:J 0) (hr:∀ k:Nat,k<=n->J k->∀ q:Int->Prop,(k<n->J (k+1)->q ((k:Int)+1))->F k q):LoopP F 0:=by refine⟨fun d=>∃ k:Nat,d=k/\k<=n/\J k,fun d=>n-d.toNat,⟨0,rfl,Nat.zero_le _,h0⟩,fun d ⟨k,hd,hk,hJ⟩=>?_⟩;subst hd;refine hr k hk hJ _ fun ah oE=>⟨⟨k+1,by simp,ah,oE⟩,?_⟩;simp;omega
theorem LoopP.countFrom {F:Int->(Int->Prop)->Prop}(a n:Nat) (J:Nat->Prop) (ha:a<=n) (h0:J a) (hr:∀ k:Nat,a<=k->k<=n->J k->∀ q:Int->Prop,(k<n->J (k+1)->q ((k:Int)+1))->F k q):LoopP F a:=by refine⟨fun d=>∃ k:Nat,d=k/\a<=k/\k<=n/\J k,fun d=>n-d.toNat,⟨a,rfl,Nat.le_refl _,ha,h0⟩,fun d ⟨k,hd,vY,hk,hJ⟩=>?_⟩;subst hd;refine hr k vY hk hJ _ fun ah oE=>⟨⟨k+1,by simp,by omega,ah,oE⟩,?_⟩;simp;omega
theorem LoopP.count2 {X:Type}{F:X×Int->(X×Int->Prop)->Prop}(n:Nat) (J:Nat->X->Prop) {x0:X}(h0:J 0 x0) (hr:∀ (k:Nat) (x:X),k<=n->J k x->∀ q:X×Int->Prop,(∀ x',k<n->J (k+1) x'->q (x',(k:Int)+1))->F (x,(k:Int)) q):LoopP F (x0,0):=by refine⟨fun d=>∃ k:Nat,d.2=k/\k<=n/\J k d.1,fun d=>n-d.2.toNat,⟨0,rfl,Nat.zero_le _,h0⟩,fun ⟨x,d⟩ ⟨k,hd,hk,hJ⟩=>?_⟩;simp only at hd hJ;subst hd;refine hr k x hk hJ _ fun x' ah oE=>⟨⟨k+1,by simp,ah,oE⟩,?_⟩;simp;omega
theorem Qf {α:Type}{l:List α}{k:Nat}{d:α}(h:k<l.length):l.getD k d=l[k]:=by simp[List.getD_eq_getElem?_getD,List.getElem?_eq_getElem h]
theorem QI {α:Type}{l:List α}{k:Nat}(h:k<l.length):l.take (k+1)=l.take k++[l[k]]:=by rw[List.take_succ_eq_append_getElem h]
section
variable {P:Program}
theorem st1 {S:VSpecs}{d:Nat}{op:VOp}{rest:List VOper}{env:Env}{σ:Heap}{K:Env->Heap->Prop}{v:Value}(hv:∀ K',vop S op env σ K'=QU (Q6 op (Q4 env) σ) fun p=>K' p.1 p.2) (h:Q6 op (Q4 env) σ=some (v,σ)) (hr:Px S rest (env.set d v) σ K):Px S (⟨some d,op,none⟩::rest) env σ K:=by show QU (some true) _;refine⟨fun _=>?_,fun e=>by cases e⟩;rw[hv,h];exact hr
theorem YlOk.nil:∀ o y,Qn ([]:List (Nat×YSp)) o=some y->Q2a P o y:=fun o y h=>by cases h
theorem IysOk.nil:∀ f x,Qn ([]:List (Nat×Q89)) f=some x->Q87 P f x:=fun f x h=>by cases h
theorem IysOk.cons {f:Nat}{x:Q89}{l:List (Nat×Q89)}(h:Q87 P f x) (t:∀ g y,Qn l g=some y->Q87 P g y):∀ g y,Qn ((f,x)::l) g=some y->Q87 P g y:=fun g y hg=>by
 simp only[Qn] at hg;cases hb:Nat.beq f g with
 |true=>rw[hb] at hg;obtain rfl:=Nat.eq_of_beq_eq_true hb;obtain rfl:=osj hg;exact h
 |false=>rw[hb] at hg;exact t g y hg
theorem XsOk.nil:∀ f x,Qn ([]:List (Nat×XSp)) f=some x->XOk P f x:=fun f x h=>by cases h
theorem XsOk.cons {f:Nat}{x:XSp}{l:List (Nat×XSp)}(h:XOk P f x) (t:∀ g y,Qn l g=some y->XOk P g y):∀ g y,Qn ((f,x)::l) g=some y->XOk P g y:=fun g y hg=>by
 simp only[Qn] at hg;cases hb:Nat.beq f g with
 |true=>rw[hb] at hg;obtain rfl:=Nat.eq_of_beq_eq_true hb;obtain rfl:=osj hg;exact h
 |false=>rw[hb] at hg;exact t g y hg
theorem ItsOk.nil:∀ f x,Qn ([]:List (Nat×ISp)) f=some x->Z08 P f x:=fun f x h=>by cases h
theorem ItsOk.cons {f:Nat}{x:ISp}{l:List (Nat×ISp)}(h:Z08 P f x) (t:∀ g y,Qn l g=some y->Z08 P g y):∀ g y,Qn ((f,x)::l) g=some y->Z08 P g y:=fun g y hg=>by
 simp only[Qn] at hg;cases hb:Nat.beq f g with
 |true=>rw[hb] at hg;obtain rfl:=Nat.eq_of_beq_eq_true hb;obtain rfl:=osj hg;exact h
 |false=>rw[hb] at hg;exact t g y hg
def Hu:Ap:=fun _ _=>none
theorem H6:Q3d P Hu:=fun _ _ _ _ _ _ _ _ _ h=>by cases h
end
end Go.V
namespace Go.V
open Go
def O5 {α:Type}:Nat->α->List α->List α
 |0,x,l=>x::l
 |j+1,x,a::l=>a::O5 j x l
 |_+1,x,[]=>[x]
def Cc {α:Type}:Nat->List α->List α
 |0,_::l=>l
 |j+1,a::l=>a::Cc j l
 |_,[]=>[]
def Il (kk vk:Kind):OB->Option (List (kk.T×vk.T))
 |.map jR lR m=>if h:jR=kk/\lR=vk then some (h.1▸h.2▸m) else none
 |_=>none
abbrev MSp (kk vk:Kind):=Ap->List (kk.T×vk.T)->List SV->List SV->Option (Prop×SV×(List (kk.T×vk.T)->Prop))
def Up (ap:Ap) (j:Nat) (kk vk:Kind) (sp:MSp kk vk):XSp:=fun _ args s K =>
 match args with
 |a::args=>(match IP s.own a with
  |some l=>(match l[j]? with
   |some (.map o)=>(match Il kk vk (Qd s.own o) with
    |some m=>(match sp ap m (BP (oset s.own o .dead) (Cc j l)) (BP (oset s.own o .dead) args) with
     |some (c,v,post)=>bif v.ret 0 then c/\∀ m',post m'->K v ⟨s.env,oset s.own o (.map kk vk m'),s.nx⟩ else False
     |none=>False)
    |none=>False)
   |_=>False)
  |none=>False)
 |[]=>False
def mstart (nt j:Nat) (kk vk:Kind) (m:List (kk.T×vk.T)) (vals:List Value) (cs args:List SV):St:=⟨.cp (O5 j (.map 0) cs) 0::(args++List.replicate (nt-(args.length+1)) .any),[(0,.map kk vk m),(4000000,.stk [.map 0] vals)],0⟩
def FQ (vals:List Value) (rs:List VResult) (v:SV) (kk vk:Kind) (post:List (kk.T×vk.T)->Prop):Exit->St->Prop:=fun e s =>
 let fin:=match V4 s rs,Qd s.own 4000000,Il kk vk (Qd s.own 0) with
  |some r,.stk l vs,some m'=>vs=vals/\Nd [(0,some 0)] [.map 0] l/\Hk [] v r/\post m'
  |_,_,_=>False
 match e with
 |.normal=>fin
 |.ret=>fin
 |_=>False
section
variable {P:Program}
theorem PX {kk vk:Kind}{b:OB}{m:List (kk.T×vk.T)}(h:Il kk vk b=some m):b=.map kk vk m:=by
 unfold Il at h;split at h
 .split at h
  .rename_i e;obtain⟨rfl,rfl⟩:=e;obtain rfl:=osj h;rfl
  .cases h
 .cases h
theorem Oq:∀ (j:Nat) {l:List SV}{c:List Value}{o:Nat}{B:Heap}{pl:Nat->Value}{tb:Nat->Option Bool},l[j]?=some (.map o)->SRs P B pl tb l c ->
  ∃ w,SR P B pl tb (.map o) w/\SRs P B pl tb (Cc j l) (Cc j c)/\∀ (B':Heap) (pl':Nat->Value) (tb':Nat->Option Bool) (l':List SV) (x:SV),SRs P B' pl' tb' l' (Cc j c)->SR P B' pl' tb' x w->SRs P B' pl' tb' (O5 j x l') c
 |j,[],c,o,B,pl,tb,h,_=>by simp at h
 |0,a::l,c,o,B,pl,tb,h,hs=>by
  obtain rfl:a=.map o:=by simpa using h
  simp only[SRs] at hs;obtain⟨w,us,rfl,h1,h2⟩:=hs;exact⟨w,h1,h2,fun B' pl' tb' l' x h3 h4=>by simp only[O5,SRs];exact⟨w,us,rfl,h4,h3⟩⟩
 |j+1,a::l,c,o,B,pl,tb,h,hs=>by
  simp only[SRs] at hs;obtain⟨u,us,rfl,h1,h2⟩:=hs;obtain⟨w,g1,g2,g3⟩:=Oq j (by simpa using h) h2;refine⟨w,g1,?_,fun B' pl' tb' l' x h3 h4=>?_⟩
  .simp only[Cc,SRs];exact⟨u,_,rfl,h1,g2⟩
  .simp only[Cc] at h3
   match l',h3 with
   |[],h3=>simp only[SRs] at h3;cases h3
   |y::l',h3 =>simp only[SRs] at h3;obtain⟨u',lJ,e,h5,h6⟩:=h3;obtain⟨rfl,rfl⟩:=List.cons.inj e;simp only[O5,SRs];exact⟨u,us,rfl,h5,g3 B' pl' tb' l' x h6 h4⟩
theorem Sk {f:Nat}{vc:VCode}{rs:List VResult}{nt:Nat}(h:Fun P f vc rs nt) (hm:P.follows .mixedOrders=true) {kk vk:Kind}(cm:(kk.flat&&vk.flat)=true) {sp:MSp kk vk}{ap:Ap}{j:Nat}
  (hb:∀ m cs ig c v post,sp ap m cs ig=some (c,v,post)->c->∃ (C:Cx) (L:List Value->List (Nat×LoopAnn)) (cs' jo:List SV),SVs.pure cs'=true/\SVs.pure jo=true/\(∀ σ vs,SRs P σ Jq ZH cs vs->SRs P σ Jq ZH cs' vs)/\(∀ σ vs,SRs P σ Jq ZH ig vs->SRs P σ Jq ZH jo vs)/\COk P C/\∀ vals,gwp C (L vals) vc 0 (FQ vals rs v kk vk post) (mstart nt j kk vk m vals cs' jo)):Q10 P f (Up ap j kk vk sp) j:=by
 intro B F pl tb s env σ d args vs K R tt hG ha qZ hx hK;unfold Up at hx;split at hx
 .rename_i a args;split at hx
  .rename_i l hl;split at hx
   .rename_i o fS;split at hx
    .rename_i m aP;have aT:=PX aP;split at hx
     .rename_i c v post gQ;cases dU:v.ret 0 with
      |false=>rw[dU] at hx;exact hx.elim
      |true =>
      rw[dU] at hx;obtain⟨hc,hx⟩:=hx;simp only[SRs] at ha;obtain⟨u,us,rfl,pN,er⟩:=ha;have vZ:o=tt:=by simpa [Lg,hl,fS] using qZ
      have aA:(Qd s.own o).live=true:=by rw[aT];rfl
      have ao:=hG.obj o;rw[aT] at ao;obtain⟨id,es,clock,ie,bD,eJ⟩:=ao;have oF:F.get id=none:=hG.fresh o id aA (by rw[ie];rfl);have rz:B.get id=none:=by
       cases hg:B.get id with
       |none=>rfl
       |some b=>have:=hG.bf.2 _ _ hg;rw[oF] at this;cases this
      obtain⟨i,ce,e,wr,t,v5,gm,az⟩:∃ i ce e wr t,u=.pointer (some ⟨i,0,none⟩)/\σ.get i=some (.cells ce e wr t)/\SRs P B pl tb l ce:=by
       unfold IP at hl;split at hl
       .rename_i o' off;cases bp:Nat.beq off 0 with
        |false=>rw[bp] at hl;cases hl
        |true =>
         rw[bp] at hl;obtain rfl:=Nat.eq_of_beq_eq_true bp;simp only[_root_.cond_true] at hl;split at hl
         .rename_i l' un bn;obtain rfl:=osj hl;have dQ:=hG.obj o';rw[bn] at dQ;obtain⟨i,ce,e,t,k1,k2,k3,_⟩:=dQ;simp only[SR] at pN;obtain⟨b,q1,q2⟩:=pN;rw[k1] at q1;obtain rfl:i=b:=by simpa using q1
          exact⟨i,ce,e,true,t,q2,k2,k3⟩
         .cases hl
       .rename_i l' off;cases bp:Nat.beq off 0 with
        |false=>rw[bp] at hl;cases hl
        |true =>rw[bp] at hl;obtain rfl:=Nat.eq_of_beq_eq_true bp;obtain rfl:=osj hl;simp only[SR] at pN;obtain⟨b,ce,e,wr,t,k1,k2,k3⟩:=pN;exact⟨b,ce,e,wr,t,k2,hG.leB.2 _ _ k1,k3⟩
       .cases hl
      have aC:i≠id:=by rintro rfl;rw[gm] at bD;cases bD
      obtain⟨w,hw,rA,rB⟩:=Oq j fS az;simp only[SR] at hw;obtain rfl:w=pl o:=hw.1;obtain⟨C,L,cs',jo,gV,eg,qx,v7,iW,hg⟩:=hb _ _ _ c v post gQ hc;have hg:=hg [pl o];have v8:oid (pl o)=some id:=by rw[ie];rfl
      let σc:=σ.kill id;have sX:B.Le σc:=hG.leB.kill' rz;have v_:F.Le σc:=hG.le.kill' oF;have rC:σc.Le σ:=Heap.kill_le _ _;have bO:∀ k,k≠id->σc.get k=σ.get k:=fun k hk=>Heap.get_kill_ne _ hk;have bP:∀ d,OR P σc Jq ZH σc (pl d) ((Qd (oset s.own o .dead) d).kill d)\/True:=fun _=>.inr trivial;have mb:∀ (xs:List SV) (vs:List Value),SRs P B pl tb xs vs->SRs P σc Jq ZH (BP (oset s.own o .dead) xs) vs:=fun xs vs bh=>by
       refine KP (own:=oset s.own o .dead) sX (pl:=pl) (tb:=tb) (fun d=>?_) bh;rw[Qp];by_cases e:d=o
       .rw[if_pos e];trivial
       .rw[if_neg e];exact(hG.obj d).mono (.refl _) (fun _ _ h=>h) fun hl i hi=>bO _ fun nw=>hG.sep d o i e hl aA hi (by rw[ie,nw];rfl)
      have aB:=v7 σc us (mb _ _ er);have b8:=qx σc _ (mb _ _ rA);let oG:Nat->Value:=fun k=>if k=0 then pl o else poison
      have kO:∀ (B:Heap) (tb':Nat->Option Bool),SR P B oG tb' (.map 0) (pl o):=fun B tb'=>by simp only[SR];exact⟨by simp[oG],_,ie⟩
      have bJ:GRel P σc σc σ (mstart nt j kk vk m [pl o] cs' jo) (u::us++List.replicate (nt-(u::us).length) undef) σ:=by
       refine⟨σc,σc,oG,ZH,⟨.refl _,.refl _,fun _ _ _ h=>h,.refl _⟩,.refl _,rC,?_,fun k=>?_,fun k i' h1 h2=>?_,fun k k' i' rD h1 h2 h3 h4=>?_,fun _ _=>rfl⟩
       .simp only[mstart,SRs,List.cons_append];refine⟨u,_,rfl,?_,?_⟩
        .simp only[SR];refine⟨i,ce,e,wr,t,by rw[bO i aC];exact gm,v5,rB _ _ _ _ _ (Za _ _ gV b8) (kO _ _)⟩
        rw[aB.length,List.length_cons];refine SRs.append ?_ (Rp _);exact Za _ _ eg aB
       .simp only[mstart,Qd];by_cases e0:k=0
        .subst e0;simp only[Nat.beq_refl,_root_.cond_true];exact⟨id,es,clock,by simp[oG,ie],bD,eJ.mono sX⟩
        .rw[Z_ (fun e=>e0 e.symm),cond_false];by_cases e1:k=4000000
         .subst e1;simp only[Nat.beq_refl,_root_.cond_true];exact⟨pl o,[],rfl,kO _ _,rfl⟩
         .rw[Z_ (fun e=>e1 e.symm),cond_false];trivial
       .simp only[mstart,Qd] at h1;by_cases e0:k=0
        .subst e0;have:Oid (pl o) i':=by simpa [oG] using h2
         rw[ie] at this;obtain rfl:id=i':=osj this;exact Heap.get_kill_self _ _
        .rw[Z_ (fun e=>e0 e.symm),cond_false] at h1;by_cases e1:k=4000000
         .subst e1;cases h1
         .rw[Z_ (fun e=>e1 e.symm),cond_false] at h1;cases h1
       .have z:∀ k,(Qd (mstart nt j kk vk m [pl o] cs' jo).own k).live=true->k=0:=fun k h1=>by
         simp only[mstart,Qd] at h1;by_cases e0:k=0
         .exact e0
         .rw[Z_ (fun e=>e0 e.symm),cond_false] at h1;by_cases e1:k=4000000
          .subst e1;cases h1
          .rw[Z_ (fun e=>e1 e.symm),cond_false] at h1;cases h1
        exact rD ((z k h1).trans (z k' h2).symm)
      refine h.calls hm Ro ?_;refine ML iW vc 0 _ _ _ σ none _ trivial bJ hg fun e s' af σ' h1 h2=>?_
      have main:(match V4 s' rs,Qd s'.own 4000000,Il kk vk (Qd s'.own 0) with
       |some r,.stk l vs,some m'=>vs=[pl o]/\Nd [(0,some 0)] [.map 0] l/\Hk [] v r/\post m'
       |_,_,_=>False)->QU (Ja af σ' rs) fun v=>∃ v' aN,DropTo σ v σ' v' aN/\R v' aN:=fun h=>by
       obtain⟨B',F',pl',tb',k1,k2⟩:=h2;split at h
       .rename_i r l' cT m' hr iU pJ;obtain⟨rfl,m1,m2,m3⟩:=h;have iF:=PX pJ;obtain⟨w,h3,h4⟩:=Kk k2 hr;rw[h3];have kP:=k2.obj 4000000;rw[iU] at kP;have rE:pl' 0=pl o:=by
         have:=Z9 [.map 0] l' [pl o] m1 kP;simp only[SRs,SR] at this;obtain⟨u',_,cB,⟨h5,_⟩,_⟩:=this;obtain rfl:pl o=u':=(List.cons.inj cB).1;simpa [Nb,Qn] using h5.symm
        have oH:=k2.obj 0;rw[iF,rE] at oH;have eB:=(Ky v r w m2 h4).retd (B':=B) (pl':=pl) (tb':=tb) (n:=0) (fun j hj=>by omega) _ _ dU;have hle:σc.Le σ':=k1.f.trans k2.le;have kQ:∀ d,d≠o->(Qd s.own d).live=true->∀ i,Oid (pl d) i->σ'.get i=σ.get i:=fun d e hl i hi=>by
         have ah:=(hG.obj d).id_lt hl hi;have wa:i≠id:=fun nw=>hG.sep d o i e hl aA hi (by rw[ie,nw];rfl);cases hg:σ.get i with
         |none=>exact k1.d.2 i ah hg
         |some bb=>exact hle.2 _ _ (by rw[bO i wa];exact hg)
        have bT:∀ d,(Qd (oset s.own o (.map kk vk m')) d).live=(Qd s.own d).live:=fun d=>by
         rw[Qp];by_cases e:d=o
         .subst e;rw[if_pos rfl,aA];rfl
         .rw[if_neg e]
        refine⟨w,σ',.refl _ _ _,hK v _ w σ' (hx m' m3) k1.d ⟨hG.bf,v_.trans hle,hG.env,fun d=>?_,fun d i q1 q2=>hG.fresh d i (by rw[<-bT d];exact q1) q2,fun d d' i aC q1 q2 q3 q4=>hG.sep d d' i aC (by rw[<-bT d];exact q1) (by rw[<-bT d'];exact q2) q3 q4,hG.free⟩ eB fun q hq=>?_⟩
        .simp only[Qp];by_cases e:d=o
         .subst e;rw[if_pos rfl];exact oH.retd cm fun _ _=>rfl
         .rw[if_neg e];exact(hG.obj d).mono (.refl _) (fun _ _ h=>h) fun hl i hi=>kQ d e hl i hi
        .have wb:q≠o:=fun e=>hq (by rw[e,vZ];exact List.mem_singleton.2 rfl);exact⟨bT q,rfl,fun hl i hi=>kQ q wb hl i hi⟩
       .exact h.elim
      cases e with
      |normal=>exact main h1
      |ret=>exact main h1
      |_=>exact h1.elim
     .exact hx.elim
    .exact hx.elim
   .exact hx.elim
  .exact hx.elim
 .exact hx.elim
theorem Q63 {f:Nat}{kk vk:Kind}{sp:MSp kk vk}{ap:Ap}{j:Nat}(h:Q10 P f (Up ap j kk vk sp) j):XOk P f (Up ap j kk vk sp):=by
 intro B F pl tb s env σ d args vs K R hG ha hx hK;have:∃ t,Lg s.own j args=some t:=by
  unfold Up at hx;split at hx
  .rename_i a args;split at hx
   .rename_i l hl;split at hx
    .rename_i o fS;exact⟨o,by simp[Lg,hl,fS]⟩
    .exact hx.elim
   .exact hx.elim
  .exact hx.elim
 obtain⟨t,ht⟩:=this;exact h B F pl tb s env σ d args vs K R t hG ha ht hx fun v s' u σ' k1 k2 k3 k4 _=>hK v s' B F pl tb u σ' k1 (.of hG.bf k2) k3 k4
def Q1d (P:Program) (f:Nat) (x:XSp) (j:Nat):Prop:=XOk P f x/\Q10 P f x j
theorem XfOk.nil {xs:List (Nat×XSp)}:∀ f j,Qn ([]:List (Nat×Nat)) f=some j->∀ x,Qn xs f=some x->Q10 P f x j:=fun f j h=>by cases h
theorem XfOk.cons {xs:List (Nat×XSp)}{g k:Nat}{y:XSp}{l:List (Nat×Nat)}(hy:Qn xs g=some y) (h:Q10 P g y k) (t:∀ f j,Qn l f=some j->∀ x,Qn xs f=some x->Q10 P f x j):∀ f j,Qn ((g,k)::l) f=some j->∀ x,Qn xs f=some x->Q10 P f x j:=fun f j hf x hx=>by
 simp only[Qn] at hf;cases hb:Nat.beq g f with
 |true =>rw[hb] at hf;obtain rfl:=Nat.eq_of_beq_eq_true hb;obtain rfl:=osj hf;obtain rfl:=osj (hy.symm.trans hx);exact h
 |false=>rw[hb] at hf;exact t f j hf x hx
theorem AY {f:Nat}{vc:VCode}{rs:List VResult}{nt:Nat}(h:Fun P f vc rs nt) (hm:P.follows .mixedOrders=true) {kk vk:Kind}(cm:(kk.flat&&vk.flat)=true) {sp:MSp kk vk}{ap:Ap}{j:Nat}
  (hb:∀ m cs ig c v post,sp ap m cs ig=some (c,v,post)->c->∃ (C:Cx) (L:List Value->List (Nat×LoopAnn)) (cs' jo:List SV),SVs.pure cs'=true/\SVs.pure jo=true/\(∀ σ vs,SRs P σ Jq ZH cs vs->SRs P σ Jq ZH cs' vs)/\(∀ σ vs,SRs P σ Jq ZH ig vs->SRs P σ Jq ZH jo vs)/\COk P C/\∀ vals,gwp C (L vals) vc 0 (FQ vals rs v kk vk post) (mstart nt j kk vk m vals cs' jo)):Q1d P f (Up ap j kk vk sp) j :=
 ⟨Q63 (Sk h hm cm hb),Sk h hm cm hb⟩
def Fp {kk vk:Kind}{E D:Type}(lc:AL E) (la:AL D) (pre:List (kk.T×vk.T)->E->D->Prop) (res:List (kk.T×vk.T)->E->D->SV) (post:List (kk.T×vk.T)->E->D->List (kk.T×vk.T)->Prop):MSp kk vk:=fun ap m cs ig=>match AL.dec ap lc cs,AL.dec ap la ig with
 |some c,some a=>some (pre m c a,res m c a,post m c a)
 |_,_=>none
theorem LV {kk vk:Kind}{E D:Type}{lc:AL E}{la:AL D}{pre:List (kk.T×vk.T)->E->D->Prop}{res:List (kk.T×vk.T)->E->D->SV}{post:List (kk.T×vk.T)->E->D->List (kk.T×vk.T)->Prop}{ap:Ap}{m:List (kk.T×vk.T)}{cs ig:List SV}{c:Prop}{v:SV}{q:List (kk.T×vk.T)->Prop}
  (h:Fp lc la pre res post ap m cs ig=some (c,v,q)):∃ x y,AL.dec ap lc cs=some x/\AL.dec ap la ig=some y/\c=pre m x y/\v=res m x y/\q=post m x y:=by
 unfold Fp at h;split at h
 .rename_i x y h1 h2;obtain⟨rfl,rfl,rfl⟩:=(by simpa using h:pre m x y=c/\res m x y=v/\post m x y=q);exact⟨x,y,h1,h2,rfl,rfl,rfl⟩
 .cases h
theorem P9 {f:Nat}{vc:VCode}{rs:List VResult}{nt:Nat}(h:Fun P f vc rs nt) (hm:P.follows .mixedOrders=true) {ap:Ap}(ep:Q3d P ap) {kk vk:Kind}(cm:(kk.flat&&vk.flat)=true) {j:Nat}{E D:Type}{lc:AL E}{la:AL D}{pre:List (kk.T×vk.T)->E->D->Prop}{res:List (kk.T×vk.T)->E->D->SV}{post:List (kk.T×vk.T)->E->D->List (kk.T×vk.T)->Prop}{μ:E->D->Nat}
  {C:Cx}(az:COk P C) (oi:Qn C.xf f=none) {L:List (kk.T×vk.T)->E->D->List Value->List (Nat×LoopAnn)}{V:Nat->List (kk.T×vk.T)->E->D->Prop}
  (hq:∀ n m x y,(∀ vals,gwp {C with xs:=(f,Up ap j kk vk (Fp lc la (fun m x y=>pre m x y/\μ x y<n) res post))::C.xs} (L m x y vals) vc 0 (FQ vals rs (res m x y) kk vk (post m x y)) (mstart nt j kk vk m vals (AL.can lc x) (AL.can la y)))=V n m x y)
  (hb:∀ n m x y,pre m x y->μ x y=n->V n m x y):Q1d P f (Up ap j kk vk (Fp lc la pre res post)) j:=by
 have sY:∀ (x:XSp) g k,Qn C.xf g=some k->∀ y,Qn ((f,x)::C.xs) g=some y->Q10 P g y k:=fun x g k hg y hy=>by
  simp only[Qn] at hy;cases hb:Nat.beq f g with
  |true=>obtain rfl:=Nat.eq_of_beq_eq_true hb;rw[oi] at hg;cases hg
  |false=>rw[hb] at hy;exact az.xf g k hg y hy
 have key:∀ n,Q1d P f (Up ap j kk vk (Fp lc la (fun m x y=>pre m x y/\μ x y<n) res post)) j:=by
  intro n;induction n using Nat.strongRecOn with
  |ind n ih =>refine AY h hm cm fun m cs ig c v q hs hc=>?_;obtain⟨x,y,h1,h2,rfl,rfl,rfl⟩:=LV hs;obtain⟨hp,hn⟩:=hc;exact⟨{C with xs:=(f,Up ap j kk vk (Fp lc la (fun m x' y'=>pre m x' y'/\μ x' y'<μ x y) res post))::C.xs},L m x y,AL.can lc x,AL.can la y,AL.can_pure lc x,AL.can_pure la y,fun σ vs hv=>AL.dec_sound ep lc h1 hv,fun σ vs hv=>AL.dec_sound ep la h2 hv,⟨az.cs,XsOk.cons (ih _ hn).1 az.xs,az.it,az.yl,az.iy,sY _⟩,(hq (μ x y) m x y).mpr (hb _ m x y hp rfl)⟩
 refine AY h hm cm fun m cs ig c v q hs hc=>?_;obtain⟨x,y,h1,h2,rfl,rfl,rfl⟩:=LV hs;exact⟨{C with xs:=(f,Up ap j kk vk (Fp lc la (fun m x' y'=>pre m x' y'/\μ x' y'<μ x y) res post))::C.xs},L m x y,AL.can lc x,AL.can la y,AL.can_pure lc x,AL.can_pure la y,fun σ vs hv=>AL.dec_sound ep lc h1 hv,fun σ vs hv=>AL.dec_sound ep la h2 hv,⟨az.cs,XsOk.cons (key (μ x y)).1 az.xs,az.it,az.yl,az.iy,sY _⟩,(hq (μ x y) m x y).mpr (hb _ m x y hc rfl)⟩
end
end Go.V
namespace Go.V
open Go
def callV (ap:Ap) (sp:CSp):XSp:=fun d args s K =>
 let s1:=(⟨s.env++args,s.own,s.nx⟩:St).frzs (GI args);let a1:=s1.env.drop s.env.length
 bif SVs.pure a1 then (match sp ap a1 with
  |some (c,v,bs)=>bif v.ret bs.length&&bs.all OB.isL then c/\K (v.ren d 500000) ((⟨s1.env.take s.env.length,s1.own,s1.nx⟩:St).makes d 500000 0 bs) else False
  |none=>False) else False
def pj4 {A B C D E:Type}(x:A×B×C×D×E):E:=x.2.2.2.2
def pj8 {A B C D A' B' C' D' E:Type}(x:A×B×C×D×A'×B'×C'×D'×E):E:=x.2.2.2.2.2.2.2.2
def Q1 {A B C D A' B' C' D' A1 B1 C1 D1 A2 B2 C2 D2 E:Type}(x:A×B×C×D×A'×B'×C'×D'×A1×B1×C1×D1×A2×B2×C2×D2×E):E:=x.2.2.2.2.2.2.2.2.2.2.2.2.2.2.2.2
theorem Ia {x:Nat}(h:x<9223372036854775808):IntKind.wrap .i64 (x:Int)=x:=by
 have e:((x:Int) % (18446744073709551616:Int))=x:=by omega
 have:¬ ((x:Int)>=9223372036854775808):=by omega
 show (if (true&&decide ((x:Int) % (18446744073709551616:Int)>=9223372036854775808))=true then (x:Int) % (18446744073709551616:Int)-18446744073709551616 else (x:Int) % (18446744073709551616:Int))=x;simp only[e,this,decide_false,Bool.and_false,Bool.false_eq_true,if_false]
theorem Q1f {x y:Nat}(h:x<9223372036854775808):x &&& y<9223372036854775808:=Nat.lt_of_le_of_lt Nat.and_le_left h
theorem Q01 (x:Nat):BitVec.ofInt 64 (x:Int)=BitVec.ofNat 64 x:=by apply BitVec.eq_of_toNat_eq;simp
theorem toNat_ofInt {x:Nat}(h:x<9223372036854775808):(BitVec.ofInt 64 (x:Int)).toNat=x:=by rw[Q01,BitVec.toNat_ofNat,Nat.mod_eq_of_lt (by omega)]
theorem Eg {x y:Nat}(hx:x<9223372036854775808) (hy:y<9223372036854775808):ZG .and .i64 x y=((x &&& y:Nat):Int):=by
 have e:(BitVec.ofInt 64 (x:Int) &&& BitVec.ofInt 64 (y:Int)).toNat=x &&& y:=by rw[BitVec.toNat_and,toNat_ofInt hx,toNat_ofInt hy]
 show IntKind.wrap .i64 ((BitVec.ofInt 64 (x:Int) &&& BitVec.ofInt 64 (y:Int)).toNat:Int)=_;rw[e,Ia (Q1f hx)]
theorem Q6m {x i:Nat}(hi:i<=64):N3 .i64 x i=((x >>> i:Nat):Int):=by have:Nat.min i 64=i:=Nat.min_eq_left hi;simp only[N3,Int.toNat_natCast,IntKind.bits,this];rw[Nat.shiftRight_eq_div_pow,Int.fdiv_eq_ediv_of_nonneg _ (Int.le_of_lt (Int.pow_pos (by omega)))];norm_cast
theorem Q5i {x i:Nat}(hx:x<9223372036854775808) (hi:i<=64):(ZG .and .i64 (N3 .i64 x i) 1==1)=x.testBit i:=by have h1:x >>> i<9223372036854775808:=Nat.lt_of_le_of_lt (by rw[Nat.shiftRight_eq_div_pow];exact Nat.div_le_self _ _) hx;rw[Q6m hi,show (1:Int)=((1:Nat):Int) from rfl,Eg h1 (by omega),Nat.testBit];rw[Bool.eq_iff_iff];simp only[beq_iff_eq,bne_iff_ne,ne_eq];rw[Nat.and_comm,Nat.one_and_eq_mod_two];omega
end Go.V
namespace Go.Proofs.Tryz
open Go Go.V Go.Proofs
def inI (n a b:Int):Bool:=decide (a<=n)&&decide (n<=b)
def Q8 (hk:Int) (lw:List Int):Int:=if !inI hk 1 24 then 2 else if 96<lw.length then 5 else if lw.length=0 then 7 else if lw.any (fun x=>!inI x 0 (hk-1)) then 2 else 0
def Z3s (lw a:List Int) (w:Int) (e:Nat):Bool:=lw.getD e 0==lw.getD w.toNat 0&&!(a.contains (e:Int))
def step (lw:List Int) (a:List Int) (w:Int):List Int:=match (List.range lw.length).find? (Z3s lw a w) with
 |some e=>a.set w.toNat e
 |none=>a
def Q0t (l:List Int) (p:Int->Bool):Int:=match l.findIdx? p with|some i=>(i:Int)|none=>-1
section
variable {α:Type}(R:α->α->Bool)
def Q82 (a:α):List α->Nat
 |[]=>0
 |x::r=>if R a x then max (Q82 x r+1) (Q82 a r) else Q82 a r
end
def u8s (l:List Int):Prop:=∀ x∈l,0<=x/\x<=255
def Z35 (l:List Int):Prop:=∀ x∈l,0<=x/\x<=65535
def hkN (m h8:Int):Int:=1+Int.tmod h8 m
def Q5 (hk:Int) (cap:Nat) (ws:List Int):List Int:=if ws=[] then [0] else (ws.take cap).map fun x=>Int.tmod x hk
def Zk (hk:Int) (cap:Nat) (rs:List Int):List Int:=if rs=[] then [21 % 2 ^ hk.toNat] else (rs.take cap).map fun x=>x % 2 ^ hk.toNat
def NW (b:Bool):Int:=if b then 120 else 46
def Z2 (lw:List Int) (row:Int):List UInt8:=lw.map fun k=>if row.toNat.testBit k.toNat then 120 else 46
def Qg (hd:Int) (rows:List Int):Int:=if !inI hd 1 24 then 2 else if 60<rows.length then 5 else if rows.length=0 then 7 else if rows.any (fun x=>!inI x 0 (2 ^ hd.toNat-1)) then 2 else 0
def QK (hk:Int) (lw:List Int) (hd:Int) (rows:List Int):Int:=if Q8 hk lw≠0 then Q8 hk lw else if Qg hd rows≠0 then Qg hd rows else if hd≠hk then 4 else 0
def QR (hk:Int) (lw:List Int) (hd:Int) (rows:List Int):List (List UInt8):=if QK hk lw hd rows=0 then rows.map (Z2 lw) else []
theorem Vu {hk:Int}{lw:List Int}(h:Q8 hk lw=0):1<=hk/\hk<=24/\lw.length<=96/\lw.length≠0/\∀ x∈lw,0<=x/\x<hk:=by
 unfold Q8 at h;split at h
 .cases h
 .rename_i h1;split at h
  .cases h
  .rename_i h2;split at h
   .cases h
   .rename_i h3;split at h
    .cases h
    .rename_i h4;have h1:1<=hk/\hk<=24:=by simpa [inI] using h1
     refine⟨h1.1,h1.2,by omega,h3,fun x hx=>?_⟩;have h5:∀ x∈lw,inI x 0 (hk-1)=true:=by simpa using h4
     have:=h5 x hx;simp only[inI,Bool.and_eq_true,decide_eq_true_eq] at this;omega
def Q1e (r:Int) (n:Nat):List Bool:=(List.range n).map fun k=>r.toNat.testBit k
theorem Q23 (r:Int) (n:Nat):(Q1e r n).length=n:=by simp[Q1e]
theorem Im {r:Int}{n k:Nat}(h:k<n):(Q1e r n).getD k false=r.toNat.testBit k:=by rw[Qf (by simpa [Q1e] using h)];simp[Q1e]
def UY {α:Type}(l:List α) (n:Nat):List α:=(List.replicate n l).flatten
def rowAt (rows:List Int) (p:Int):Nat:=(rows.getD (p.toNat % rows.length) 0).toNat
theorem Gt {α:Type}(l:List α) (a b:Nat):UY l (a+b)=UY l a++UY l b:=by simp only[UY];rw[<-List.replicate_append_replicate,List.flatten_append]
theorem Ji {α:Type}(l:List α) (n:Nat):(UY l n).length=l.length*n:=by simp[UY,List.length_flatten,Nat.mul_comm]
theorem Q06 {α:Type}{l:List α}{n j c:Nat}(hj:j<=n) (hc:l.length*j+c<=l.length*n):(UY l n).take (l.length*j+c)=(UY l n).take (l.length*j)++(UY l n).take c:=by
 obtain⟨k,rfl⟩:=Nat.exists_eq_add_of_le hj;rw[Nat.mul_add] at hc;have e:UY l (j+k)=UY l k++UY l j:=by rw[Nat.add_comm,Gt]
 rw[List.take_add];congr 1;rw[Gt l j k,List.drop_left' (Ji l j),<-Gt,e,List.take_append_of_le_length (by rw[Ji];omega)]
def Z0m {α:Type}(l:List α) (n:Nat) (xs:List α) (m:Nat):Prop:=xs.length=l.length*n/\m<=l.length*n/\xs.take m=(UY l n).take m/\(m=l.length*n\/(0<m/\∃ j,m=l.length*j))
theorem Q09 {α:Type}(l:List α) (n:Nat) (d:α):Z0m l n (List.take (l.length*n) l++List.drop l.length (List.replicate (l.length*n) d)) (Nat.min l.length (l.length*n)):=by
 rcases Nat.eq_zero_or_pos n with rfl|hn
 .exact⟨by simp,by simp,by simp,.inl (by simp)⟩
 have h1:l.length<=l.length*n:=Nat.le_mul_of_pos_right _ hn;have e:Nat.min l.length (l.length*n)=l.length:=Nat.min_eq_left h1;rw[e];refine⟨by simp;omega,h1,?_,?_⟩
 .obtain⟨k,rfl⟩:=Nat.exists_eq_add_of_le hn;rw[List.take_of_length_le h1,List.take_left,Nat.succ_eq_add_one,Gt,List.take_append_of_le_length (by rw[Ji];omega)];simp[UY]
 .rcases Nat.eq_zero_or_pos l.length with h0|h0
  .left;rw[h0];simp
  .exact .inr ⟨h0,1,by omega⟩
theorem OQ {α:Type}{l:List α}{n:Nat}{xs:List α}{m:Nat}(h:Z0m l n xs m) (hm:m<xs.length) :
  Z0m l n (List.take m xs++(List.take (xs.length-m) (List.take m xs)++List.drop (m+Nat.min (List.take m xs).length (xs.length-m)) xs)) (m+Nat.min (List.take m xs).length (xs.length-m))/\0<Nat.min (List.take m xs).length (xs.length-m):=by
 obtain⟨h1,h2,h3,h4⟩:=h;have hl:(List.take m xs).length=m:=by rw[List.length_take];omega
 rw[hl];rcases h4 with h4|⟨h4,j,h5⟩
 .omega
 have hj:j<=n:=Nat.le_of_mul_le_mul_left (by omega:l.length*j<=l.length*n) (Nat.pos_of_ne_zero fun h=>by rw[h] at h1;omega);have hc:Nat.min m (xs.length-m)=min m (xs.length-m):=rfl;generalize dM:Nat.min m (xs.length-m)=c;rw[hc] at dM;have c1:c<=m:=by omega
 have c2:m+c<=xs.length:=by omega
 have c3:0<c:=by omega
 refine⟨⟨?_,by omega,?_,?_⟩,c3⟩
 .simp only[List.length_append,List.length_take,List.length_drop];omega
 .have e1:List.take (xs.length-m) (List.take m xs)=List.take c ((UY l n).take m):=by
   rw[h3,List.take_take,List.take_take];congr 1;omega
  rw[e1,h3,<-List.append_assoc,List.take_left']
  .rw[h5,Q06 hj (by omega),List.take_take,Nat.min_eq_left (by omega)]
  .simp only[List.length_append,List.length_take,Ji];omega
 .rcases Nat.lt_or_ge (xs.length-m) m with h6|h6
  .left;omega
  .right;exact⟨by omega,j+j,by rw[Nat.mul_add];omega⟩
theorem Q1w {α:Type}{l:List α}{n:Nat}{xs:List α}{m:Nat}(h:Z0m l n xs m) (hm:¬ m<xs.length):xs=UY l n:=by
 obtain⟨h1,h2,h3,_⟩:=h;have:m=l.length*n:=by omega
 rw[List.take_of_length_le (by omega),List.take_of_length_le (by rw[Ji];omega)] at h3;exact h3
def QS (hk:Int) (lw:List Int) (aL:Int) (bc:List Int):Int:=if Q8 hk lw≠0 then Q8 hk lw else if Q8 aL bc≠0 then Q8 aL bc else if hk≠aL then 4 else if 96<lw.length+bc.length then 8 else 0
def Ae (l:List Int) (b:Nat):Bool:=decide (0<b)&&(decide (l.length % b=0)&&(l.drop b==l.take (l.length-b)))
def FG (l:List Int):Int:=match (List.range l.length).find? (Ae l) with|some b=>(b:Int)|none=>(l.length:Int)
def Q5k (l:List Int) (s:Nat):Bool:=(List.range l.length).all fun i=>l.getD i 0==l.getD ((s+l.length-i) % l.length) 0
def Q5r (l:List Int):Option Nat:=(List.range l.length).find? (Q5k l)
def Cf (l:List Int):Int:=match Q5r l with|some s=>(s:Int)|none=>0
def WM (hk:Int) (lw:List Int):Int:=if Q8 hk lw≠0 then Q8 hk lw else if (Q5r lw).isSome then 0 else 7
theorem Iv {l:List Int}{b:Nat}(hb:0<b) (hd:l.length % b=0):l.drop b=l.take (l.length-b)<->∀ i,i<l.length->l.getD i 0=l.getD (i % b) 0:=by
 constructor
 .intro h;have st:∀ i,i+b<l.length->l.getD (i+b) 0=l.getD i 0:=fun i hi=>by
   have h1:(l.drop b)[i]?=(l.take (l.length-b))[i]?:=by rw[h]
   rw[List.getElem?_drop,List.getElem?_take,if_pos (by omega)] at h1;rw[List.getD_eq_getElem?_getD,List.getD_eq_getElem?_getD,Nat.add_comm i b,h1]
  intro i;induction i using Nat.strongRecOn with
  |_ i ih =>
   intro hi;rcases Nat.lt_or_ge i b with h1|h1
   .rw[Nat.mod_eq_of_lt h1]
   .have:=st (i-b) (by omega);rw[show i-b+b=i by omega] at this;rw[this,ih (i-b) (by omega) (by omega)];congr 1;rw[<-Nat.mod_eq_sub_mod h1]
 .intro h;apply List.ext_getElem?;intro i;rw[List.getElem?_drop,List.getElem?_take];split
  .rename_i hi;have h1:=h (b+i) (by omega);have h2:=h i (by omega);rw[Nat.add_mod_left,<-h2] at h1;rw[Qf (show b+i<l.length by omega),Qf (show i<l.length by omega)] at h1;rw[List.getElem?_eq_getElem (by omega),List.getElem?_eq_getElem (by omega),h1]
  .rw[List.getElem?_eq_none (by omega)]
end Go.Proofs.Tryz
namespace Go.Proofs.Tryz
open Go Go.V Go.Proofs
def Jf:AL (List Int×((Int->Prop)×(Int->Bool))):=(.cons (.k (.list (.i .i64))) (.one (.fn [(.i .i64)] .bo)))
def WX (d:List Int×((Int->Prop)×(Int->Bool))):Prop:=d.1.length<=1000000/\∀ x∈d.1,d.2.1 x
def J9 (d:List Int×((Int->Prop)×(Int->Bool))):SV:=.val (.i .i64) (Q0t d.1 d.2.2)
def Jd (d:List Int×((Int->Prop)×(Int->Bool))):List OB:=[]
def Zd:CSp:=WZ Jf WX J9 Jd
def QF (l:List Int) (p:(Int->Prop)×(Int->Bool)):Prop :=
 ∃ (e2:Unit) (d20:Int),((l=l/\(SV.pf [(.i .i64)] .bo p.1 p.2=SV.pf [(.i .i64)] .bo p.1 p.2)/\(lI l)=(lI l)/\(0:Int)=d20/\True)/\(True)) /\
 LoopP (fun (d2:Int) (q2:(Int)->Prop) =>
  ((decide (d2<(lI l)))=true ->
   (0<=d2)/\(d2<(List.length l))/\(p.1 (gD l d2 0))/\((p.2 (gD l d2 0))=true ->
    (d2=(Q0t l p.2)/\(True))) /\
   ((p.2 (gD l d2 0))=false ->
    (I64 (d2+(1:Int)))/\(∃ d3:Int,((l=l/\(SV.pf [(.i .i64)] .bo p.1 p.2=SV.pf [(.i .i64)] .bo p.1 p.2)/\(lI l)=(lI l)/\(d2+(1:Int))=d3/\True)/\(True))/\q2 d3))) /\
  ((decide (d2<(lI l)))=false ->
   ((-1:Int)=(Q0t l p.2)/\(True)))) d20
def Jp:Cx:=⟨[],[],19,[],0,[],[],[],[],false,[],[],[],[]⟩
def Ye (l:List Int) (p:(Int->Prop)×(Int->Bool)):List (Nat×LoopAnn):=[(0,⟨Unit,Int,[0,1,7,8],fun e x=>[.val (.list (.i .i64)) l,.pf [(.i .i64)] .bo p.1 p.2,.val (.i .i64) (((List.length l):Nat):Int),.val (.i .i64) x],fun e x=>[]⟩)]
theorem YL (d:List Int×((Int->Prop)×(Int->Bool))):gwp (Jp) (Ye d.1 d.2) c91 0 (Kn [.tmp 4] (J9 d) (Jd d)) (Qx 19 (AL.can Jf d))=QF d.1 d.2:=by kernel_rfl
abbrev Yx:Prop:=OkC Tryz.prog 91 Zd
theorem Yg (h:∀ (l:List Int) (p:(Int->Prop)×(Int->Bool)),(l.length<=1000000/\∀ x∈l,p.1 x)->QF l p):OkC Tryz.prog 91 Zd :=
 QH Q6n mixed (C:=Jp) (V:=fun (d:List Int×((Int->Prop)×(Int->Bool)))=>QF d.1 d.2) ⟨.nil,XsOk.nil,ItsOk.nil,YlOk.nil,IysOk.nil,XfOk.nil⟩ (YL) fun d hp=>h d.1 d.2 hp
theorem IB {l:List Int}{p:Int->Bool}{k:Nat}(hk:k<l.length) (h:p l[k]=true) (hJ:(l.take k).any p=false):Q0t l p=k:=by
 have:l.findIdx? p=some k:=by rw[List.findIdx?_eq_some_iff_getElem];refine⟨hk,h,fun j hj=>?_⟩;have hn:=List.any_eq_false.1 hJ l[j] (List.mem_take_iff_getElem.2 ⟨j,by omega,rfl⟩);simpa using hn
 simp[Q0t,this]
theorem Ik {l:List Int}{p:Int->Bool}(hJ:l.any p=false):Q0t l p=-1:=by
 have:l.findIdx? p=none:=by rw[List.findIdx?_eq_none_iff];intro x hx;have:=List.any_eq_false.1 hJ x hx;simpa using this
 simp[Q0t,this]
theorem A0 (l:List Int) (p:Int->Bool):decide (Q0t l p>=0)=l.any p:=by
 unfold Q0t;cases h:l.findIdx? p with
 |none =>
  have:=List.findIdx?_eq_none_iff.1 h;have:l.any p=false:=by rw[List.any_eq_false];intro x hx;simp[this x hx]
  rw[this];rfl
 |some i =>obtain⟨h1,h2,_⟩:=List.findIdx?_eq_some_iff_getElem.1 h;rw[List.any_eq_true.2 ⟨l[i],List.getElem_mem h1,h2⟩];simp
theorem Yc:Yx:=Yg fun l p hp=>by
 unfold QF;(try delta lI gD sT I64 Q1 pj8 pj4);simp only[true_and,and_true,exists_eq_left',exists_const,decide_eq_true_eq,decide_eq_false_iff_not];refine LoopP.count l.length (fun k=>(l.take k).any p.2=false) (by simp) fun k aL hJ q hq=>?_;simp only[Int.toNat_natCast,Int.ofNat_lt,Q7];refine⟨fun ah=>?_,fun bj=>?_⟩
 .rw[Qf ah];refine⟨by omega,ah,hp.2 _ (List.getElem_mem ah),fun hx=>?_,fun hx=>⟨by omega,hq ah ?_⟩⟩
  .rw[IB ah hx hJ]
  .rw[QI ah,List.any_append,hJ];simp[hx]
 .rw[List.take_of_length_le (by omega)] at hJ;rw[Ik hJ]
def ZI:AL (List Int×((Int->Prop)×(Int->Bool))):=(.cons (.k (.list (.i .i64))) (.one (.fn [(.i .i64)] .bo)))
def XU (d:List Int×((Int->Prop)×(Int->Bool))):Prop:=d.1.length<=1000000/\∀ x∈d.1,d.2.1 x
def Zv (d:List Int×((Int->Prop)×(Int->Bool))):SV:=.val .bo (d.1.any d.2.2)
def Zz (d:List Int×((Int->Prop)×(Int->Bool))):List OB:=[]
def Qy:CSp:=WZ ZI XU Zv Zz
def QT (l:List Int) (p:(Int->Prop)×(Int->Bool)):Prop :=
 (l.length<=1000000/\∀ x∈l,(fun (x1:Int)=>p.1 x1) x)/\((decide ((Q0t l (fun (x1:Int)=>(p.2 x1)))>=(0:Int)))=(l.any p.2)/\(True))
def ZK:Cx:=⟨[],[(91,Zd)],9,[],0,[],[],[],[],false,[],[],[],[]⟩
def Wf (l:List Int) (p:(Int->Prop)×(Int->Bool)):List (Nat×LoopAnn):=[]
theorem Wp (d:List Int×((Int->Prop)×(Int->Bool))):gwp (ZK) (Wf d.1 d.2) c63 0 (Kn [.tmp 4] (Zv d) (Zz d)) (Qx 9 (AL.can ZI d))=QT d.1 d.2:=by kernel_rfl
abbrev Wv:Prop:=OkC Tryz.prog 63 Qy
theorem W5 (h:∀ (l:List Int) (p:(Int->Prop)×(Int->Bool)),(l.length<=1000000/\∀ x∈l,p.1 x)->QT l p):OkC Tryz.prog 63 Qy :=
 QH Q5x mixed (C:=ZK) (V:=fun (d:List Int×((Int->Prop)×(Int->Bool)))=>QT d.1 d.2) ⟨(.cons Yc .nil),XsOk.nil,ItsOk.nil,YlOk.nil,IysOk.nil,XfOk.nil⟩ (Wp) fun d hp=>h d.1 d.2 hp
theorem ZJ:Wv:=W5 fun l p hp=>by exact⟨hp,A0 l p.2,trivial⟩
def UB:AL (Int×Int×Int):=(.cons (.k (.i .i64)) (.cons (.ptr (.one (.k (.i .i64)))) (.one (.ptr (.one (.k (.i .i64)))))))
def Bk (d:Int×Int×Int):Prop:=True
def VG (d:Int×Int×Int):SV:=.val .bo (decide (d.1<d.2.1)||decide (d.2.2<d.1))
def VC (d:Int×Int×Int):List OB:=[]
def Km:CSp:=WZ UB Bk VG VC
def Yn (n:Int) (a:Int) (b:Int):Prop :=
 (((decide (n<a))||(decide (n > b)))=(decide (n<a)||decide (b<n))/\(True))
def Ur:Cx:=⟨[],[],13,[],0,[],[],[],[],false,[],[],[],[]⟩
def H4 (n:Int) (a:Int) (b:Int):List (Nat×LoopAnn):=[]
theorem P7 (d:Int×Int×Int):gwp (Ur) (H4 d.1 d.2.1 d.2.2) c64 0 (Kn [.tmp 4] (VG d) (VC d)) (Qx 13 (AL.can UB d))=Yn d.1 d.2.1 d.2.2:=by kernel_rfl
abbrev BV:Prop:=OkC Tryz.prog 64 Km
theorem Hg (h:∀ (n:Int) (a:Int) (b:Int),(True)->Yn n a b):OkC Tryz.prog 64 Km :=
 QH Q6b mixed (C:=Ur) (V:=fun (d:Int×Int×Int)=>Yn d.1 d.2.1 d.2.2) ⟨.nil,XsOk.nil,ItsOk.nil,YlOk.nil,IysOk.nil,XfOk.nil⟩ (P7) fun d hp=>h d.1 d.2.1 d.2.2 hp
theorem BK:BV:=Hg fun n a b _=>by exact⟨rfl,trivial⟩
def MF:AL (Int×Int×List Int):=(.cons (.k (.i .i64)) (.cons (.k (.i .i64)) (.one (.k (.list (.i .i64))))))
def PE (d:Int×Int×List Int):Prop:=d.2.2.length<=1000000
def NT (d:Int×Int×List Int):SV:=.val .bo (!(d.2.2.any fun n=>decide (n<d.1)||decide (d.2.1<n)))
def NC (d:Int×Int×List Int):List OB:=[]
def W9:CSp:=WZ MF PE NT NC
def V9 (a:Int) (b:Int) (l:List Int):Prop :=
 (l.length<=1000000/\∀ x∈l,(fun (x1:Int)=>True) x)/\((!(l.any (fun (x1:Int)=>(decide (x1<a)||decide (b<x1)))))=(!(l.any fun n=>decide (n<a)||decide (b<n)))/\(True))
def Mz:Cx:=⟨[],[(63,Qy),(64,Km)],11,[],0,[],[],[],[],false,[],[],[],[]⟩
def RR (a:Int) (b:Int) (l:List Int):List (Nat×LoopAnn):=[]
theorem R7 (d:Int×Int×List Int):gwp (Mz) (RR d.1 d.2.1 d.2.2) c38 0 (Kn [.tmp 6] (NT d) (NC d)) (Qx 11 (AL.can MF d))=V9 d.1 d.2.1 d.2.2:=by kernel_rfl
abbrev TS:Prop:=OkC Tryz.prog 38 W9
theorem Rx (h:∀ (a:Int) (b:Int) (l:List Int),(l.length<=1000000)->V9 a b l):OkC Tryz.prog 38 W9 :=
 QH Q50 mixed (C:=Mz) (V:=fun (d:Int×Int×List Int)=>V9 d.1 d.2.1 d.2.2) ⟨(.cons ZJ (.cons BK .nil)),XsOk.nil,ItsOk.nil,YlOk.nil,IysOk.nil,XfOk.nil⟩ (R7) fun d hp=>h d.1 d.2.1 d.2.2 hp
theorem Vv:TS:=Rx fun a b l h=>by exact⟨⟨h,fun _ _=>trivial⟩,rfl,trivial⟩
def DB:AL (Int×List Int):=(.one (.agg (.cons (.k (.i .i64)) (.one (.k (.list (.i .i64)))))))
def Rb (d:Int×List Int):Prop:=d.2.length<=1000000
def G3 (d:Int×List Int):SV:=.val (.i .i64) (Q8 d.1 d.2)
def MD (d:Int×List Int):List OB:=[]
def JZ:CSp:=WZ DB Rb G3 MD
def Ka (hk:Int) (lw:List Int):Prop :=
 ([hk].length<=1000000)/\((!(!([hk].any fun n=>decide (n<(1:Int))||decide ((24:Int)<n))))=true ->
  ((2:Int)=(Q8 hk lw)/\(True))) /\
 ((!(!([hk].any fun n=>decide (n<(1:Int))||decide ((24:Int)<n))))=false ->
  ((decide ((lI lw) > (96:Int)))=true ->
   ((5:Int)=(Q8 hk lw)/\(True))) /\
  ((decide ((lI lw) > (96:Int)))=false ->
   (((lI lw)==(0:Int))=true ->
    ((7:Int)=(Q8 hk lw)/\(True))) /\
   (((lI lw)==(0:Int))=false ->
    (I64 (hk-(1:Int)))/\(lw.length<=1000000)/\((!(!(lw.any fun n=>decide (n<(0:Int))||decide ((hk-(1:Int))<n))))=true ->
     ((2:Int)=(Q8 hk lw)/\(True))) /\
    ((!(!(lw.any fun n=>decide (n<(0:Int))||decide ((hk-(1:Int))<n))))=false ->
     ((0:Int)=(Q8 hk lw)/\(True))))))
def Dy:Cx:=⟨[(3,(.i .i64))],[(38,W9)],27,[],0,[],[],[],[],false,[],[],[],[]⟩
def So (hk:Int) (lw:List Int):List (Nat×LoopAnn):=[]
theorem Ss (d:Int×List Int):gwp (Dy) (So d.1 d.2) c37 0 (Kn [.tmp 2] (G3 d) (MD d)) (Qx 27 (AL.can DB d))=Ka d.1 d.2:=by kernel_rfl
abbrev SA:Prop:=OkC Tryz.prog 37 JZ
theorem SC (h:∀ (hk:Int) (lw:List Int),(lw.length<=1000000)->Ka hk lw):OkC Tryz.prog 37 JZ :=
 QH Q7t mixed (C:=Dy) (V:=fun (d:Int×List Int)=>Ka d.1 d.2) ⟨(.cons Vv .nil),XsOk.nil,ItsOk.nil,YlOk.nil,IysOk.nil,XfOk.nil⟩ (Ss) fun d hp=>h d.1 d.2 hp
theorem nI (n a b:Int):(!inI n a b)=(decide (n<a)||decide (b<n)):=by simp only[inI,Bool.not_and];by_cases h1:a<=n<;>by_cases h2:n<=b<;>simp[h1,h2]<;>omega
theorem W7:SA:=SC fun hk lw hl=>by
 unfold Ka;(try delta lI gD sT I64 Q1 pj8 pj4);simp only[and_true,decide_eq_true_eq,decide_eq_false_iff_not,beq_iff_eq,ne_eq,beq_eq_false_iff_ne,gt_iff_lt,Bool.not_not];simp only[<-nI];refine⟨by simp,fun h1=>by simp at h1;simp[Q8,h1],fun h1=>⟨fun h2=>?_,fun h2=>⟨fun h3=>?_,fun h3=>?_⟩⟩⟩;all_goals simp only[List.any_cons,List.any_nil,Bool.or_false,Bool.not_eq_false'] at h1
 .have:96<lw.length:=by omega
  simp[Q8,h1,this]
 .have h3:lw.length=0:=by omega
  simp[Q8,h1,h3]
 have ib:¬ 96<lw.length:=by omega
 have ic:¬ lw.length=0:=by omega
 have hi:1<=hk/\hk<=24:=by simpa [inI] using h1
 have rF:Q8 hk lw=if lw.any (fun x=>!inI x 0 (hk-1)) then 2 else 0:=by simp only[Q8,h1,ib,ic];simp
 rw[rF];simp only[Q7];refine⟨by omega,by omega,fun h=>by rw[if_pos h],fun h=>by rw[h];rfl⟩
end Go.Proofs.Tryz
namespace Go.V
open Go
theorem Q2o {P:Program}{σ:Heap}:Ret P σ (.val .bo true) [] (.bool true) σ :=
 ⟨⟨.refl _,Dead.refl _⟩,fun _=>rfl,Jq,fun j b hj=>by simp at hj,fun j j' i hj=>by simp at hj,by simp[SR,KC]⟩
theorem Q2c {P:Program}{f:Nat}(h:∀ (σ:Heap) (K:Value->Heap->Prop),K (.bool true) σ->VCalled P f [] σ K):OkC P f (WZ (.nil:AL Unit) (fun _=>True) (fun _=>.val .bo true) (fun _=>[])):=by
 intro ap ep σ args vs c v bs aB hs hv b9 hc;unfold WZ at hs;split at hs
 .rename_i d hd;obtain⟨rfl,rfl,rfl⟩:=(by simpa using hs:True=c/\SV.val .bo true=v/\[]=bs);have:vs=[]:=by
   cases args with
   |nil=>simpa [SRs] using aB
   |cons a l=>simp[AL.dec] at hd
  subst this;refine⟨h σ _ Q2o,fun _ _=>h σ _ ⟨rfl,?_⟩⟩;unfold Mr;cases σ;simp only[List.length_nil,Nat.add_zero,List.getElem?_nil,Option.bind_none,Heap.mk.injEq,and_true];funext i;split
  .rfl
  .rename_i wf hi;exact wf i (by simpa using hi)
 .cases hs
end Go.V
namespace Go.V
open Go Go.ChangeShapes Go.WideShapes Go.RowKit Go.Deep Go.Joins
def Heap.RO (σ:Heap):Prop:=∀ i b,σ.get i=some b->b.wr=false
structure View (w:World) (ρ:Plc) (σ:Heap):Prop where
 rel:HRel ρ σ w
 ro:σ.RO
structure More (ρ:Plc) (σ:Heap) (ρ':Plc) (σ':Heap):Prop where
 n:σ.n<=σ'.n
 pl:∀ i,i<σ.n->∀ p,ρ' i=some p->ρ i=some p
 ag:Agree σ σ'
theorem More.refl (ρ:Plc) (σ:Heap):More ρ σ ρ σ:=⟨Nat.le_refl _,fun _ _ _ h=>h,Agree.refl _⟩
theorem More.trans {ρ ρ' eU:Plc}{σ σ' aN:Heap}(h:More ρ σ ρ' σ') (k:More ρ' σ' eU aN):More ρ σ eU aN :=
 ⟨Nat.le_trans h.n k.n,fun i hi p hp=>h.pl i hi p (k.pl i (Nat.lt_of_lt_of_le hi h.n) p hp),h.ag.trans k.ag h.n⟩
def Z3d (w:World):Prop:=∀ g cs,Q2e g=some cs->∃ e f,w.heap[g]?=some (.cells cs.toArray e f)
theorem View.emptyT (w:World) (ht:Z3d w):View w (fun _=>none) Heap.empty where
 rel:=⟨⟨fun i b h=>(by cases h),fun _ _=>rfl,fun i p h=>(by cases h),fun i j p q b _ h=>(by cases h)⟩,fun g cs hg=>⟨ht g cs hg,fun ⟨_,_,_,h,_⟩=>by cases h⟩⟩
 ro:=fun i b h=>by cases h
theorem View.add {w:World}{ρ:Plc}{σ:Heap}(h:View w ρ σ) (p:Pl) (c:List Value) {C:Array Value}{e:TypeId}{f:Nat×Nat}(hb:w.heap[p.blk]?=some (.cells C e f)) (hs:p.shift+p.ext<=C.size) (hl:c.length<=p.ext) (ht:e=p.esz.ty)
  (hc:∀ (k:Nat) (v:Value),c[k]?=some v->∃ u,w.cell? ⟨p.blk,p.shift+k,none⟩=some u/\VRel ρ σ.n v u) :
  View w (ρ.put σ.n (some p)) (σ.push (.cells c p.esz false p.tight))/\More ρ σ (ρ.put σ.n (some p)) (σ.push (.cells c p.esz false p.tight)):=by
 have aR:∀ i,i<σ.n->∀ q,(ρ.put σ.n (some p)) i=some q->ρ i=some q:=fun i hi q hq=>by unfold Plc.put at hq;rwa [if_neg (by omega)] at hq
 have bP:(σ.push (.cells c p.esz false p.tight)).RO:=fun i b hi=>by
  by_cases e:i=σ.n
  .subst e;rw[Heap.get_push_self] at hi;obtain rfl:=osj hi;rfl
  .rw[Heap.get_push_ne _ _ e] at hi;exact h.ro i b hi
 refine⟨⟨⟨⟨?_,?_,?_,?_⟩,fun g cs hg=>⟨(h.rel.tab g cs hg).1,fun ⟨i,_,b,_,hi,hw,_⟩=>by rw[bP i b hi] at hw;cases hw⟩⟩,bP⟩,⟨by simp,aR,fun i hi=>Heap.get_push_lt _ _ hi⟩⟩
 .intro i b hi;by_cases aQ:i=σ.n
  .subst aQ;rw[Heap.get_push_self] at hi;obtain rfl:=osj hi;refine⟨p,by simp[Plc.put],rfl,rfl,hl,⟨C,e,f,hb,hs,ht⟩,fun k v hk=>?_,fun h=>by cases h⟩;obtain⟨u,hu,hv⟩:=hc k v hk;exact⟨u,hu,hv.mono (by simp) aR⟩
  .rw[Heap.get_push_ne _ _ aQ] at hi;obtain⟨q,hq,hB⟩:=h.rel.live i b hi;exact⟨q,by simp[Plc.put,aQ,hq],hB.mono (by simp) aR rfl⟩
 .intro i hi;by_cases aQ:i=σ.n
  .subst aQ;rw[Heap.get_push_self] at hi;cases hi
  .rw[Heap.get_push_ne _ _ aQ] at hi;simp[Plc.put,aQ,h.rel.dead i hi]
 .intro i q hq;by_cases aQ:i=σ.n
  .subst aQ;simp[Plc.put] at hq;subst hq;exact(Array.getElem?_eq_some_iff.1 hb).1
  .simp[Plc.put,aQ] at hq;exact h.rel.lt i q hq
 .intro i j q r b _ _ _ cj hw _;rw[bP i b cj] at hw;cases hw
theorem Q0j {P:Program}{fits:TypeId->Bool}{d:Nat}{e:TypeId}{count off n:Nat}(h:rowAt P fits d e count off n=true):off<=count*P.cellsOf e:=by
 cases d with
 |zero=>cases h
 |succ d =>
  unfold rowAt at h;by_cases hs:P.cellsOf e=0
  .simp[hs] at h
  .have dE:0<P.cellsOf e:=Nat.pos_of_ne_zero hs;simp only[hs,if_false,Bool.or_eq_true,Bool.and_eq_true,beq_iff_eq,decide_eq_true_eq] at h;have hd:=Nat.div_add_mod off (P.cellsOf e);have hm:=Nat.mod_lt off dE;rcases h with⟨⟨h1,h2⟩,_⟩|⟨h1,_⟩
   .have:P.cellsOf e*(off / P.cellsOf e)<=P.cellsOf e*count:=Nat.mul_le_mul_left _ (by omega);rw[Nat.mul_comm count];omega
   .have:P.cellsOf e*(off / P.cellsOf e+1)<=P.cellsOf e*count:=Nat.mul_le_mul_left _ (by omega);rw[Nat.mul_add] at this;rw[Nat.mul_comm count];omega
theorem Ta {P:Program}:∀ {d:Nat}{e:TypeId}{count off:Nat}{u:TypeId}{n:Nat},liesAt P d e count off u n=true->off<=count*P.cellsOf e
 |0,_,_,_,_,_,h=>by cases h
 |d+1,e,count,off,u,n,h=>by
  unfold liesAt at h;rw[Bool.or_eq_true] at h;rcases h with h|h
  .exact Q0j h
  .split at h
   .exact Ta h
   .cases h
theorem Iw {P:Program}{w:World}{r:Reach}{base:Nat}{a:Addr}{e:TypeId}{n:Nat}(h:w.has P r base a e n):∃ C row f,w.heap[a.block]?=some (.cells C row f)/\a.off<=C.size/\a.spot=none:=by
 obtain⟨_,hs,row,cells,fa,hl⟩:=h;unfold World.shape? at fa;split at fa
 .rename_i C e' f hb;obtain⟨rfl,rfl⟩:=(by simpa using fa:e'=row/\C.size=cells);exact⟨C,e',f,hb,Nat.le_trans (Ta hl) (Nat.div_mul_le_self _ _),hs⟩
 .cases fa
theorem L5 {P:Program}{w:World}{r:Reach}{base:Nat}{t e:TypeId}{v:Value}(ht:P.underlying t=some (.slice e)) (h:Cell.okWide P w r base t v) :
  v=.slice none 0 0\/∃ a len cap,v=.slice (some a) len cap/\w.has P r base a e cap:=by
 unfold Cell.okWide at h;rw[ht] at h;have h':Cell.ok P w r base t v:=by split at h<;>first|exact h|simp_all
 unfold Cell.ok at h';rw[ht] at h';split at h'<;>first|exact .inl rfl|(cases h';done)|skip
 all_goals first|(rename_i h1 h2;simp_all;done)|skip
 all_goals first|(simp_all;exact⟨_,_,_,⟨rfl,rfl,rfl⟩,h'.2.2⟩)|(simp_all)
theorem Z0h {k:IntKind}{x:Int}(h:(Lit.int k x).wf=true):k.min<=x/\x<=k.max:=by simpa [Lit.wf] using h
theorem View.calls {P:Program}{f:FuncId}{w:World}{ρ:Plc}{σ:Heap}(h:View w ρ σ) {args:List Value}{av:Array Value}(hl:LRel ρ σ.n args av.toList) (hc:VCallsTo P f args σ fun v _=>v=.bool true) :
  Calls P f av w fun e w'=>e=.returned (.bool true)/\Below w.heap.size w w':=by
 refine (hc ρ w av h.rel hl).mono fun e w' ⟨c,he,v,ρ',σ',hv,hr,_,hx⟩=>?_;subst hv;have:c=.bool true:=by cases hr;rfl
 subst this;exact⟨he,hx.os,hx.tape,hx.output,hx.size,fun B hB=>hx.keep B hB fun ⟨i,p,b,_,hi,hw,_⟩=>by rw[h.ro i b hi] at hw;cases hw⟩
theorem GC {H:Type}{enc:TypeId×Value->H}{P:Program}(hl:laidOutB P=true) {W W':World}{sp:Nat->Bool}(hb:Below W.heap.size W W') :
  ∀ {ts:List TypeId}{vs:List Value}{ds:List (DataW H)}{ps:List MemPlace},(∀ t∈ts,P.readableRec t=true/\t<P.types.size)->DataW.TrodAll enc P W 0 (fun _=>true) true ts vs ds ps->(∀ p∈ps,p.block<W.heap.size)->(∀ p∈ps,sp p.block=true) ->
   DataW.TrodAll enc P W' 0 sp true ts vs ds ps
 |[],vs,ds,ps,_,h,_,_=>by obtain⟨rfl,rfl,rfl⟩:=trodAll_nil h;rfl
 |t::ts,vs,ds,ps,ht,h,ah,hs=>by
  obtain⟨v,cT,d,ds',p,q,rfl,rfl,rfl,h1,h2⟩:=trodAll_cons h;obtain⟨r1,r2⟩:=ht t (by simp);exact⟨p,q,WideElems.Trod_stays hl r1 r2 h1 (fun x hx=>hb.same (ah x (by simp[hx]))) (fun x hx=>hs x (by simp[hx])),
   GC hl hb (fun t mu=>ht t (by simp[mu])) h2 (fun x hx=>ah x (by simp[hx])) (fun x hx=>hs x (by simp[hx])),rfl⟩
theorem Ox {H:Type}{enc:TypeId×Value->H}{P:Program}{f:Func}{s:ChangeSpec}{apart fresh handsOn again:Bool}{W W':World}{args:Array Value}{ds gs:List (DataW H)}{before:List MemPlace}{tb:TypeId}
  (hl:laidOutB P=true) (hp:f.params.toList.all (fun t=>P.readableRec t&&decide (t<P.types.size))=true) (kR:s.vars=[]) (hr:f.resultTypes=#[tb]) (bw:P.underlying tb=some .bool) (hs:s.fn H ds={results:=[.lit (.bool true)],args:=ds})
  (hW:DataW.Whole enc P f.params.toList s.vars apart W args.toList ds gs before) (hb:Below W.heap.size W W'):s.post enc P f apart fresh handsOn again W args (.bool true) W':=by
 have ah:∀ p∈before,p.block<W.heap.size:=fun p hp=>hW.lt p hp;have wc:=hW;obtain⟨p,q,hA,hV,rfl,hz,hn⟩:=hW;rw[kR] at hV;obtain⟨rfl,rfl⟩:=trodVars_none hV;have bF:∀ t∈f.params.toList,P.readableRec t=true/\t<P.types.size:=fun t ht=>by have:=List.all_eq_true.1 hp t ht;simpa using this
 have fc:s.fn H (ds++[])={results:=[.lit (.bool true)],args:=ds}:=by rw[List.append_nil];exact hs
 have eB:∀ (b:Nat) (sp:Nat->Bool) (hd:Bool),DataW.TrodAll enc P W' b sp hd f.resultTypes.toList ((Value.bool true).resultList f.resultTypes.size) (s.fn H (ds++[])).results []:=fun b sp hd=>by rw[fc,hr];exact trodAll_mk1 (shut_bool bw _)
 have aB:∀ sp:Nat->Bool,(∀ x∈p++[],sp x.block=true)->DataW.TrodAll enc P W' 0 sp true f.params.toList args.toList (s.fn H (ds++[])).args p:=fun sp gQ=>by rw[fc];exact GC hl hb bF hA (fun x hx=>ah x (by simp[hx])) (fun x hx=>gQ x (by simp[hx]))
 have cu:∀ sp:Nat->Bool,DataW.TrodVars enc P W' sp s.vars (s.fn H (ds++[])).vars []:=fun sp=>by rw[fc,kR];rfl
 have hold:∀ x∈p++[],(fun b=>decide (b<W.heap.size)) x.block=true:=fun x hx=>by simpa using ah x hx
 refine⟨ds,[],p++[],[],p,[],wc,eB _ _ _,aB _ hold,cu _,World.keptBut_mono (fun x hx=>⟨hx,?_⟩) (hb.frame (·∈p++[])),fun _=>?_⟩
 .exact .inr (by simpa using hx)
 .refine⟨ok_one hr rfl (okWide_bool_mk bw _),_,_,([]++p)++[],⟨[]++p,[],trodAll_append (aB _ (fun _ _=>rfl)) (eB _ _ _),cu _,rfl,?_,?_⟩,?_⟩
  .intro b off hx;have aQ:MemPlace.cell b off∈p++[]:=by simpa using hx
   rw[hb.frozen (ah _ aQ)];exact hz b off aQ
  .intro ha;simpa using hn ha
  .intro x hx _;simpa using hx
def KFs (T:Kind->TypeId->Bool) (sz:TypeId->Nat):Kind->List (TypeId×Nat)->Nat->Bool
 |_,[],_=>false
 |k,[p],off=>p.2==off&&(sz p.1==k.size&&T k p.1)
 |.pair a b,p::q::r,off=>p.2==off&&(sz p.1==a.size&&(T a p.1&&KFs T sz b (q::r) (off+a.size)))
 |_,_::_::_,_=>false
def KTy (P:Program):Nat->Kind->TypeId->Bool
 |0,_,_=>false
 |n+1,k,t=>match P.underlying t with
  |some (.struct fs)=>P.cellsOf t==k.size&&KFs (KTy P n) P.cellsOf k (fs.toList.map fun f=>(f.type,f.offset)) 0
  |some (.array m e)=>P.cellsOf t==k.size&&KFs (KTy P n) P.cellsOf k ((List.range m).map fun i=>(e,i*P.cellsOf e)) 0
  |some (.int ik)=>(match k with|.i k'=>decide (k'=ik)|_=>false)
  |some .bool=>(match k with|.bo=>true|_=>false)
  |some .string=>(match k with|.st=>true|_=>false)
  |some (.slice e)=>(match k with|.list k'=>P.cellsOf e==k'.size&&(k'.flat&&KTy P n k' e)|_=>false)
  |_=>false
def KWf:(k:Kind)->k.T->Prop
 |.i ik,x=>InK ik x
 |.bo,_=>True
 |.st,s=>s.length<=maxLen
 |.list k,l=>l.length<=maxLen/\∀ x∈l,KWf k x
 |.pair a b,x=>KWf a x.1/\KWf b x.2
theorem More.le {ρ ρ':Plc}{σ σ':Heap}(h:More ρ σ ρ' σ'):σ.Le σ':=⟨h.n,fun i b hb=>by rw[h.ag i (σ.lt hb)];exact hb⟩
def ArgIs (w:World) (ρ:Plc) (σ:Heap) (k:Kind) (cs:List Value):Prop :=
 ∃ ρ' σ' vs x,View w ρ' σ'/\More ρ σ ρ' σ'/\LRel ρ' σ'.n vs cs/\KC σ' k x vs/\KWf k x
theorem ArgIs.pair {w:World}{ρ:Plc}{σ:Heap}{a b:Kind}{cs ds:List Value}(h1:ArgIs w ρ σ a cs) (h2:∀ ρ σ,View w ρ σ->ArgIs w ρ σ b ds):ArgIs w ρ σ (.pair a b) (cs++ds):=by obtain⟨ρ1,σ1,rG,x1,k1,k2,k3,k4,k5⟩:=h1;obtain⟨ρ2,σ2,jS,x2,m1,m2,m3,m4,m5⟩:=h2 ρ1 σ1 k1;exact⟨ρ2,σ2,rG++jS,(x1,x2),m1,k2.trans m2,(k3.mono m2.n m2.pl).append m3,⟨rG,jS,rfl,k4.mono m2.le,m4⟩,k5,m5⟩
section
variable {H:Type}{enc:TypeId×Value->H}{P:Program}{w:World}{r:Reach}{base:Nat}
def okc (P:Program) (w:World) (r:Reach) (base:Nat) (ts:List TypeId) (cs:List Value):Prop:=∀ (i:Nat) v u,cs[i]?=some v->ts[i]?=some u->Cell.okWide P w r base u v
theorem C9 {T:Kind->TypeId->Bool}{sz:TypeId->Nat}{g:TypeId->Option (List TypeId)}(hT:∀ k t ts,T k t=true->g t=some ts->ts.length=k.size) :
  ∀ {k:Kind}{L:List (TypeId×Nat)}{off:Nat}{ij:List (List TypeId)},KFs T sz k L off=true->L.mapM (fun p=>g p.1)=some ij->ij.flatten.length=k.size
 |k,[],_,_,h,_=>by simp[KFs] at h
 |k,[p],off,ij,h,hm=>by
  simp only[KFs,Bool.and_eq_true] at h;cases hg:g p.1 with
  |none=>simp[hg] at hm
  |some ts =>simp[hg] at hm;subst hm;simpa using hT _ _ _ h.2.2 hg
 |.pair a b,p::q::r,off,ij,h,hm=>by
  simp only[KFs,Bool.and_eq_true] at h;rw[List.mapM_cons] at hm;cases hg:g p.1 with
  |none=>simp[hg] at hm
  |some ts =>
   cases hr:(q::r).mapM (fun p=>g p.1) with
   |none=>simp[hg,hr] at hm
   |some tr =>simp[hg,hr] at hm;subst hm;have:=C9 hT h.2.2.2 hr;simp only[List.flatten_cons,List.length_append,this,hT _ _ _ h.2.2.1 hg,Kind.size]
 |.i _,_::_::_,_,_,h,_|.bo,_::_::_,_,_,h,_|.st,_::_::_,_,_,h,_|.list _,_::_::_,_,_,h,_=>by cases h
theorem MS {α β γ:Type}{f:α->β}{g:β->Option γ}:∀ (l:List α),(l.map f).mapM g=l.mapM (fun x=>g (f x))
 |[]=>rfl
 |a::l=>by simp only[List.map_cons,List.mapM_cons,MS l]
theorem Dd {β:Type}{x:β}{f:Nat->Option β}(h:∀ i,f i=some x):∀ l:List Nat,l.mapM f=some (List.replicate l.length x)
 |[]=>rfl
 |a::l=>by simp[List.mapM_cons,h,Dd h l,List.replicate_succ]
theorem CS:∀ {n:Nat}{k:Kind}{t:TypeId}{d:Nat}{ts:List TypeId},KTy P n k t=true->P.cellTypes d t=some ts->ts.length=k.size
 |0,_,_,_,_,h,_=>by cases h
 |_+1,_,_,0,_,_,h=>by cases h
 |n+1,k,t,d+1,ts,h,ht=>by
  have ih:∀ k t ts,KTy P n k t=true->P.cellTypes d t=some ts->ts.length=k.size:=fun k t ts h1 h2=>CS h1 h2;unfold Program.cellTypes at ht;unfold KTy at h;cases hu:P.underlying t with
  |none=>rw[hu] at h;cases h
  |some u =>
   rw[hu] at h ht;cases u<;>first|(cases h;done)|skip
   all_goals simp only at h ht
   .split at h<;>first|(cases h;done)|(obtain rfl:=osj ht;rfl)
   .split at h<;>first|(cases h;done)|(obtain rfl:=osj ht;rfl)
   .split at h<;>first|(cases h;done)|(obtain rfl:=osj ht;rfl)
   .split at h<;>first|(cases h;done)|(obtain rfl:=osj ht;rfl)
   .rename_i m e;rw[Bool.and_eq_true] at h;cases hc:P.cellTypes d e with
    |none=>rw[hc] at ht;cases ht
    |some te =>rw[hc] at ht;obtain rfl:=osj ht;refine C9 (g:=fun t=>P.cellTypes d t) ih h.2 ?_;rw[MS,Dd (x:=te) (fun _=>hc)];simp
   .rename_i fs;rw[Bool.and_eq_true] at h;cases hc:fs.toList.mapM fun f=>P.cellTypes d f.type with
    |none=>rw[hc] at ht;cases ht
    |some ij =>rw[hc] at ht;obtain rfl:=osj ht;refine C9 (g:=fun t=>P.cellTypes d t) ih h.2 ?_;rw[MS];exact hc
theorem Mu {T:Kind->TypeId->Bool}{sz:TypeId->Nat}{Q:TypeId->List Value->Prop}{R:Kind->List Value->Prop}(hT:∀ k t cs,T k t=true->Q t cs->R k cs) (hR:∀ a b cs ds,R a cs->R b ds->R (.pair a b) (cs++ds)) (cs:List Value) :
  ∀ {k:Kind}{L:List (TypeId×Nat)}{off:Nat},KFs T sz k L off=true->(∀ p∈L,Q p.1 ((cs.drop p.2).take (sz p.1)))->R k ((cs.drop off).take k.size)
 |k,[],_,h,_=>by simp[KFs] at h
 |k,[p],off,h,hq=>by simp only[KFs,Bool.and_eq_true,beq_iff_eq] at h;have:=hq p (by simp);rw[h.1,h.2.1] at this;exact hT _ _ _ h.2.2 this
 |.pair a b,p::q::r,off,h,hq=>by
  simp only[KFs,Bool.and_eq_true,beq_iff_eq] at h;have h1:=hq p (by simp);rw[h.1,h.2.1] at h1;have h2:=Mu hT hR cs h.2.2.2 fun x hx=>hq x (List.mem_cons_of_mem _ hx);have e:(cs.drop off).take (Kind.pair a b).size=(cs.drop off).take a.size++(cs.drop (off+a.size)).take b.size:=by rw[Kind.size,List.take_add,List.drop_drop]
  rw[e];exact hR _ _ _ _ (hT _ _ _ h.2.2.1 h1) h2
 |.i _,_::_::_,_,h,_|.bo,_::_::_,_,h,_|.st,_::_::_,_,h,_|.list _,_::_::_,_,h,_=>by cases h
def FlatIs (k:Kind) (cs:List Value):Prop:=∃ y:k.T,(∀ h,KC h k y cs)/\KWf k y/\∀ ρ m,LRel ρ m cs cs
theorem FlatIs.pair {a b:Kind}{cs ds:List Value}(h1:FlatIs a cs) (h2:FlatIs b ds):FlatIs (.pair a b) (cs++ds):=by obtain⟨x,k1,k2,k3⟩:=h1;obtain⟨y,m1,m2,m3⟩:=h2;exact⟨(x,y),fun h=>⟨cs,ds,rfl,k1 h,m1 h⟩,⟨k2,m2⟩,fun ρ m=>(k3 ρ m).append (m3 ρ m)⟩
theorem LRel.one {ρ:Plc}{n:Nat}{v c:Value}(h:VRel ρ n v c):LRel ρ n [v] [c]:=.cons h (.nil _ _)
theorem MI {fs:Array Field}{f:Field}(h:f∈fs.toList):∃ i:Nat,fs[i]?=some f:=by obtain⟨i,hi,rfl⟩:=List.mem_iff_getElem.1 h;exact⟨i,by simp at hi;simp[hi]⟩
theorem TG {sp:Nat->Bool}{held:Bool}:∀ {n:Nat}{k:Kind}{t:TypeId}{fuel:Nat}{cs:List Value}{x:DataW H×List MemPlace},KTy P n k t=true->k.flat=true->DataW.trod enc P w base sp held fuel t cs=some x->FlatIs k cs
 |0,_,_,_,_,_,h,_,_=>by cases h
 |n+1,k,t,fuel,cs,x,h,hf,hx=>by
  unfold KTy at h;cases hu:P.underlying t with
  |none=>rw[hu] at h;cases h
  |some u =>
   rw[hu] at h;have hR:∀ a b cs ds,((a.flat=true->FlatIs a cs)/\True)->((b.flat=true->FlatIs b ds)/\True)->(((Kind.pair a b).flat=true->FlatIs (.pair a b) (cs++ds))/\True):=fun a b cs ds h1 h2=>⟨fun hf=>by
    simp only[Kind.flat,Bool.and_eq_true] at hf;exact(h1.1 hf.1).pair (h2.1 hf.2),trivial⟩
   have hT:∀ k t cs,KTy P n k t=true->(∃ fuel x,DataW.trod enc P w base sp held fuel t cs=some x)->((k.flat=true->FlatIs k cs)/\True):=fun k t cs h1 ⟨fuel,x,h2⟩=>⟨fun hf=>TG h1 hf h2,trivial⟩;cases u<;>first|(cases h;done)|skip
   all_goals simp only at h
   .split at h<;>first|(cases h;done)|skip
    obtain⟨b,rfl,_⟩:=DataW.trod_bool hu hx;exact⟨b,fun _=>rfl,trivial,fun _ _=>.one (.bool _)⟩
   .split at h<;>first|(cases h;done)|skip
    obtain rfl:=of_decide_eq_true h;obtain⟨z,rfl,_,hw⟩:=DataW.trod_int hu hx;exact⟨z,fun _=>rfl,Z0h hw,fun _ _=>.one (.int _ _)⟩
   .split at h<;>first|(cases h;done)|skip
    obtain⟨s,rfl,_,hs⟩:=DataW.trod_string hu hx;exact⟨s.data.toList,fun _=>rfl,hs,fun _ _=>.one (.string _)⟩
   .split at h<;>first|(cases h;done)|(cases hf;done)
   .rename_i m e;simp only[Bool.and_eq_true,beq_iff_eq] at h;obtain⟨xs,m',_,_,hl,gC,hx⟩:=DataW.trod_array hu hx;have:=(Mu (R:=fun k cs=>(k.flat=true->FlatIs k cs)/\True) hT hR cs h.2 fun p hp=>by
     simp only[List.mem_map,List.mem_range] at hp;obtain⟨i,hi,rfl⟩:=hp;have:=hx i hi;rw[List.getElem?_eq_getElem (by omega)] at this;exact⟨_,_,this⟩).1 hf
    rwa [List.drop_zero,List.take_of_length_le (by omega)] at this
   .rename_i fs;simp only[Bool.and_eq_true,beq_iff_eq] at h;obtain⟨xs,m',_,_,hl,gC,hx⟩:=DataW.trod_struct hu hx;have:=(Mu (R:=fun k cs=>(k.flat=true->FlatIs k cs)/\True) hT hR cs h.2 fun p hp=>by
     simp only[List.mem_map] at hp;obtain⟨f,lF,rfl⟩:=hp;obtain⟨i,hi⟩:=MI lF;have:=hx i f hi;have iB:i<fs.size:=(Array.getElem?_eq_some_iff.1 hi).1;rw[List.getElem?_eq_getElem (by omega)] at this;exact⟨_,_,this⟩).1 hf
    rwa [List.drop_zero,List.take_of_length_le (by omega)] at this
theorem Rows.range {α:Type}{R:α->List Value->Prop}{n:Nat}{c:List Value}{x:Nat->α}:∀ (m:Nat),(∀ i,i<m->R (x i) ((c.drop (i*n)).take n))->Rows R ((List.range m).map x) (c.take (m*n))
 |0,_=>by simp;exact .nil
 |m+1,h=>by
  have e:c.take ((m+1)*n)=c.take (m*n)++(c.drop (m*n)).take n:=by rw[Nat.add_mul,Nat.one_mul,List.take_add]
  rw[List.range_succ,List.map_append,e];exact(Rows.range m fun i hi=>h i (by omega)).append (by simpa using Rows.cons (h m (by omega)) .nil)
theorem L7 {α:Type}[Inhabited α] {m:Nat}{p:Nat->α->Prop}(h:∀ i,i<m->∃ x,p i x):∃ f:Nat->α,∀ i,i<m->p i (f i) :=
 ⟨fun i=>if hi:i<m then (h i hi).choose else default,fun i hi=>by simp only[hi,dif_pos];exact(h i hi).choose_spec⟩
instance KInh (k:Kind):Inhabited k.T:=⟨k.dflt⟩
theorem View.list {ρ:Plc}{σ:Heap}(h:View w ρ σ) {n:Nat}{k:Kind}{t e:TypeId}{fuel:Nat}{cs:List Value}{x:DataW H×List MemPlace}(hu:P.underlying t=some (.slice e)) (hs:P.cellsOf e=k.size) (hf:k.flat=true) (hk:KTy P n k e=true)
  (hx:DataW.trod enc P w 0 (fun _=>true) true fuel t cs=some x) (aj:okc P w r base [t] cs):ArgIs w ρ σ (.list k) cs:=by
 rcases open_slice hu hx with⟨rfl,_⟩|⟨a,len,cap,m,fu,D,Pl,rfl,hb,hl,hm,iF,_,hel⟩
 .exact⟨ρ,σ,[.slice none 0 0],[],h,More.refl _ _,.one .nilSl,⟨_,rfl,.inl ⟨rfl,rfl⟩⟩,by simp[maxLen],fun _ hx=>by cases hx⟩
 simp only[if_true] at iF;subst iF;rw[hs] at hel;have rH:w.has P r base a e m:=by
  rcases L5 hu (aj 0 _ t rfl rfl) with hh|⟨a',mc,aq,hh,h2⟩
  .cases hh
  .cases hh;exact h2
 obtain⟨C,row,f,aF,bp,gQ⟩:=Iw rH;obtain⟨blk,off,spot⟩:=a;simp only at aF bp gQ;subst gQ;have lx:∀ i,(⟨blk,off,none⟩:Addr).add i=⟨blk,off+i,none⟩:=fun i=>by unfold Addr.add;split<;>simp_all
 obtain⟨X,hX⟩:=L7 (α:=k.T×List Value) (m:=m) (p:=fun i p=>p.2.length=k.size/\(∀ j,j<k.size->w.cell? ⟨blk,off+i*k.size+j,none⟩=p.2[j]?)/\(∀ h,KC h k p.1 p.2)/\KWf k p.1/\∀ ρ m,LRel ρ m p.2 p.2) fun i hi=>by
  obtain⟨cs',h1,h2⟩:=hel i hi;obtain⟨_,k1,k2⟩:=World.cells?_some h1;obtain⟨y,m1,m2,m3⟩:=TG hk hf h2;refine⟨(y,cs'),k1,fun j hj=>?_,m1,m2,m3⟩;have:=k2 j hj;rw[lx] at this;have e2:(⟨blk,off+i*k.size,none⟩:Addr).add j=⟨blk,off+i*k.size+j,none⟩:=by unfold Addr.add;split<;>simp_all
  rw[e2] at this;exact this
 have dE:=k.size_pos;let c:List Value:=(List.range (m*k.size)).map fun j=>((X (j / k.size)).2[j % k.size]?).getD undef;have cD:c.length=m*k.size:=by simp[c]
 have hdiv:∀ j,j<m*k.size->j / k.size<m:=fun j hj=>Nat.div_lt_of_lt_mul (by rw[Nat.mul_comm];exact hj);have bn:∀ j,j<m*k.size->∃ v,c[j]?=some v/\w.cell? ⟨blk,off+j,none⟩=some v/\∀ ρ m,VRel ρ m v v:=fun j hj=>by
  have h1:=hX (j / k.size) (hdiv j hj);have gg:j % k.size<k.size:=Nat.mod_lt _ dE;have h2:=h1.2.1 _ gg;have e:off+j / k.size*k.size+j % k.size=off+j:=by rw[Nat.add_assoc,Nat.div_add_mod']
  rw[e] at h2;have h3:j % k.size<(X (j / k.size)).2.length:=by rw[h1.1];exact gg
  refine⟨(X (j / k.size)).2[j % k.size],?_,?_,fun ρ m=>(h1.2.2.2.2 ρ m).2 _ _ _ (List.getElem?_eq_getElem h3) (List.getElem?_eq_getElem h3)⟩
  .simp only[c,List.getElem?_map,List.getElem?_range hj,Option.map_some,List.getElem?_eq_getElem h3,Option.getD_some]
  .rw[h2,List.getElem?_eq_getElem h3]
 have rI:∀ i,i<m->(c.drop (i*k.size)).take k.size=(X i).2:=fun i hi=>by
  have h1:=hX i hi;have hle:i*k.size+k.size<=m*k.size:=by have:(i+1)*k.size<=m*k.size:=Nat.mul_le_mul_right _ hi;rw[Nat.add_mul] at this;omega
  apply List.ext_getElem?;intro j;by_cases hj:j<k.size
  .rw[List.getElem?_take_of_lt hj,List.getElem?_drop];have fA:i*k.size+j<m*k.size:=by omega
   have e1:(i*k.size+j) / k.size=i:=by rw[Nat.mul_comm,Nat.mul_add_div dE,Nat.div_eq_of_lt hj,Nat.add_zero]
   have e2:(i*k.size+j) % k.size=j:=by rw[Nat.mul_comm,Nat.mul_add_mod,Nat.mod_eq_of_lt hj]
   have h3:j<(X i).2.length:=by rw[h1.1];exact hj
   simp only[c,List.getElem?_map,List.getElem?_range fA,Option.map_some,e1,e2,List.getElem?_eq_getElem h3,Option.getD_some]
  .rw[List.getElem?_eq_none (by simp;omega),List.getElem?_eq_none (by omega)]
 have aE:off+m*k.size<=C.size:=by
  rcases Nat.eq_zero_or_pos (m*k.size) with h0|h0
  .omega
  .obtain⟨v,_,h2,_⟩:=bn (m*k.size-1) (by omega);unfold World.cell? at h2;simp only[aF] at h2;have:=(Array.getElem?_eq_some_iff.1 (by simpa using h2)).1;omega
 obtain⟨hv,wg⟩:=h.add ⟨blk,off,m*k.size,⟨k.size,row⟩,false⟩ c aF aE (by simp[cD]) rfl (fun j v hj=>by
  have cC:j<m*k.size:=by rw[<-cD];exact(List.getElem?_eq_some_iff.1 hj).1
  obtain⟨v',h1,h2,h3⟩:=bn j cC;obtain rfl:=osj (hj.symm.trans h1);exact⟨v,h2,h3 _ _⟩)
 have hlen:((List.range len).map fun i=>(X i).1).length=len:=by simp
 refine⟨_,_,[.slice (some ⟨σ.n,0,none⟩) len m],(List.range len).map fun i=>(X i).1,hv,wg,.one ?_,⟨_,rfl,.inr ⟨σ.n,0,m,c,⟨k.size,row⟩,false,false,by rw[hlen],by rw[hlen];exact hl,Heap.get_push_self _ _,rfl,?_,?_⟩⟩,?_,fun y hy=>?_⟩
 .refine .sl _ _ _ _ _ _ (by simp) fun p hp=>?_;simp[Plc.put] at hp;subst hp;exact⟨Nat.le_refl _,(fun h=>by cases h),0,by simp,by simp,.inl rfl⟩
 .rw[hlen,cD,Nat.zero_add];exact Nat.mul_le_mul_right _ hl
 .rw[hlen,List.drop_zero];refine Rows.range len fun i hi=>?_;rw[rI i (by omega)];exact(hX i (by omega)).2.2.1 _
 .rw[hlen];exact Nat.le_trans hl hm
 .obtain⟨i,hi,rfl⟩:=List.mem_map.1 hy;exact(hX i (by have:=List.mem_range.1 hi;omega)).2.2.2.1
def Kind.lev1:Kind->Bool
 |.list k=>k.flat
 |.pair a b=>a.lev1&&b.lev1
 |_=>true
theorem Er {ts:List TypeId}{cs:List Value}(h:okc P w r base ts cs) (o n:Nat):okc P w r base ((ts.drop o).take n) ((cs.drop o).take n):=fun i v u h1 h2=>by
 have hi:i<n:=by have:=(List.getElem?_eq_some_iff.1 h1).1;rw[List.length_take] at this;omega
 rw[List.getElem?_take_of_lt hi,List.getElem?_drop] at h1 h2;exact h _ v u h1 h2
theorem Hw {T:Kind->TypeId->Bool}{sz:TypeId->Nat}{g:TypeId->Option (List TypeId)}(hT:∀ k t ts,T k t=true->g t=some ts->ts.length=k.size) :
  ∀ {k:Kind}{L:List (TypeId×Nat)}{off:Nat}{ij:List (List TypeId)},KFs T sz k L off=true->L.mapM (fun p=>g p.1)=some ij->∀ p∈L,off<=p.2/\g p.1=some ((ij.flatten.drop (p.2-off)).take (sz p.1))
 |k,[],_,_,h,_=>by simp[KFs] at h
 |k,[p],off,ij,h,hm=>by
  simp only[KFs,Bool.and_eq_true,beq_iff_eq] at h;intro p' hp;obtain rfl:=List.mem_singleton.1 hp;cases hg:g p'.1 with
  |none=>simp[hg] at hm
  |some ts =>
   simp[hg] at hm;subst hm;refine⟨by omega,?_⟩;rw[h.1,Nat.sub_self,List.drop_zero,h.2.1,List.take_of_length_le]
   .simp
   .simp[hT _ _ _ h.2.2 hg]
 |.pair a b,p::q::r,off,ij,h,hm=>by
  simp only[KFs,Bool.and_eq_true,beq_iff_eq] at h;rw[List.mapM_cons] at hm;intro p' hp;cases hg:g p.1 with
  |none=>simp[hg] at hm
  |some ts =>
   cases hr:(q::r).mapM (fun p=>g p.1) with
   |none=>simp[hg,hr] at hm
   |some tr =>
    simp[hg,hr] at hm;subst hm;have hlen:=hT _ _ _ h.2.2.1 hg;rcases List.mem_cons.1 hp with rfl|hp
    .refine⟨by omega,?_⟩;rw[hg,h.1,Nat.sub_self,List.drop_zero,h.2.1,List.flatten_cons,List.take_append,<-hlen,Nat.sub_self,List.take_zero,List.append_nil,List.take_length]
    .obtain⟨h1,h2⟩:=Hw hT h.2.2.2 hr p' hp;refine⟨by omega,?_⟩;have e1:ts.drop (p'.2-off)=[]:=List.drop_eq_nil_of_le (by omega);have e2:p'.2-off-a.size=p'.2-(off+a.size):=by omega
     rw[h2,List.flatten_cons,List.drop_append,hlen,e1,e2,List.nil_append]
 |.i _,_::_::_,_,_,h,_|.bo,_::_::_,_,_,h,_|.st,_::_::_,_,_,h,_|.list _,_::_::_,_,_,h,_=>by cases h
theorem TZ:∀ {n:Nat}{k:Kind}{t:TypeId}{d:Nat}{ts:List TypeId}{fuel:Nat}{cs:List Value}{x:DataW H×List MemPlace},KTy P n k t=true->k.lev1=true->P.cellTypes d t=some ts->okc P w r base ts cs->DataW.trod enc P w 0 (fun _=>true) true fuel t cs=some x->∀ ρ σ,View w ρ σ->ArgIs w ρ σ k cs
 |0,_,_,_,_,_,_,_,h,_,_,_,_=>by cases h
 |_+1,_,_,0,_,_,_,_,_,_,h,_,_=>by cases h
 |n+1,k,t,d+1,ts,fuel,cs,x,h,hf,fl,aj,hx=>by
  intro ρ σ hv;by_cases cm:k.flat=true
  .obtain⟨y,h1,h2,h3⟩:=TG h cm hx;exact⟨ρ,σ,cs,y,hv,More.refl _ _,h3 _ _,h1 _,h2⟩
  unfold KTy at h;cases hu:P.underlying t with
  |none=>rw[hu] at h;cases h
  |some u =>
   rw[hu] at h;let Q:TypeId->List Value->Prop:=fun t cs=>(∃ fuel x,DataW.trod enc P w 0 (fun _=>true) true fuel t cs=some x)/\∃ ts,P.cellTypes d t=some ts/\okc P w r base ts cs;let R:Kind->List Value->Prop:=fun k cs=>k.lev1=true->∀ ρ σ,View w ρ σ->ArgIs w ρ σ k cs;have hR:∀ a b cs ds,R a cs->R b ds->R (.pair a b) (cs++ds):=fun a b cs ds h1 h2 hl ρ σ hv=>by simp only[Kind.lev1,Bool.and_eq_true] at hl;exact(h1 hl.1 ρ σ hv).pair fun ρ σ hv=>h2 hl.2 ρ σ hv
   have hT:∀ k t cs,KTy P n k t=true->Q t cs->R k cs:=fun k t cs h1 ⟨⟨fuel,x,h2⟩,ts,h3,h4⟩ hl=>TZ h1 hl h3 h4 h2;have hlen:∀ k t ts,KTy P n k t=true->P.cellTypes d t=some ts->ts.length=k.size:=fun k t ts h1 h2=>CS h1 h2;unfold Program.cellTypes at fl;rw[hu] at fl;cases u<;>first|(cases h;done)|skip
   all_goals simp only at h
   .split at h<;>first|(cases h;done)|(exact absurd rfl cm)
   .split at h<;>first|(cases h;done)|(exact absurd rfl cm)
   .split at h<;>first|(cases h;done)|(exact absurd rfl cm)
   .rename_i e;split at h<;>first|(cases h;done)|skip
    simp only[Bool.and_eq_true,beq_iff_eq] at h;simp only[Option.some.injEq] at fl;subst fl;exact hv.list hu h.1 h.2.1 h.2.2 hx aj
   .rename_i m e;simp only[Bool.and_eq_true,beq_iff_eq] at h;obtain⟨xs,m',_,_,hl,gC,hx⟩:=DataW.trod_array hu hx;simp only at fl;cases hc:P.cellTypes d e with
    |none=>rw[hc] at fl;cases fl
    |some te =>
     rw[hc] at fl;obtain rfl:=osj fl;have nH:((List.range m).map fun i=>(e,i*P.cellsOf e)).mapM (fun p:TypeId×Nat=>P.cellTypes d p.1)=some (List.replicate m te):=by rw[MS,Dd (x:=te) (fun _=>hc)];simp
     have:=Mu (Q:=Q) (R:=R) hT hR cs h.2 (fun p hp=>by
      have jb:=Hw (g:=fun t=>P.cellTypes d t) hlen h.2 nH p hp;simp only[List.mem_map,List.mem_range] at hp;obtain⟨i,hi,rfl⟩:=hp;have:=hx i hi;rw[List.getElem?_eq_getElem (by omega)] at this;exact⟨⟨_,_,this⟩,_,jb.2,Er aj _ _⟩) hf ρ σ hv
     rwa [List.drop_zero,List.take_of_length_le (by omega)] at this
   .rename_i fs;simp only[Bool.and_eq_true,beq_iff_eq] at h;obtain⟨xs,m',_,_,hl,gC,hx⟩:=DataW.trod_struct hu hx;simp only at fl;cases hc:fs.toList.mapM fun f=>P.cellTypes d f.type with
    |none=>rw[hc] at fl;cases fl
    |some ij =>
     rw[hc] at fl;obtain rfl:=osj fl;have nH:(fs.toList.map fun f=>(f.type,f.offset)).mapM (fun p:TypeId×Nat=>P.cellTypes d p.1)=some ij:=by rw[MS];exact hc
     have:=Mu (Q:=Q) (R:=R) hT hR cs h.2 (fun p hp=>by
      have jb:=Hw (g:=fun t=>P.cellTypes d t) hlen h.2 nH p hp;simp only[List.mem_map] at hp;obtain⟨f,lF,rfl⟩:=hp;obtain⟨i,hi⟩:=MI lF;have:=hx i f hi;have iB:i<fs.size:=(Array.getElem?_eq_some_iff.1 hi).1;rw[List.getElem?_eq_getElem (by omega)] at this;exact⟨⟨_,_,this⟩,_,jb.2,Er aj _ _⟩) hf ρ σ hv
     rwa [List.drop_zero,List.take_of_length_le (by omega)] at this
def isAgg (P:Program) (t:TypeId):Bool:=match P.underlying t with
 |some (.struct _)=>true
 |some (.array _ _)=>true
 |_=>false
theorem View.arg {ρ:Plc}{σ:Heap}(h:View w ρ σ) {n:Nat}{k:Kind}{t:TypeId}{v:Value}{d:DataW H}{p:List MemPlace}(hk:KTy P n k t=true) (hl:k.lev1=true) (ha:isAgg P t=!k.one) (aj:Value.okWide P w r base t v) (hd:DataW.Trod enc P w 0 (fun _=>true) true t v d p) :
  ∃ ρ' σ' vv x,View w ρ' σ'/\More ρ σ ρ' σ'/\VRel ρ' σ'.n vv v/\KV σ' k x vv/\KWf k x:=by
 obtain⟨fuel,hd⟩:=hd;by_cases eC:isAgg P t=true
 .have bU:k.one=false:=by rw[eC] at ha;simpa using ha.symm
  have:∃ cs,v=.agg cs/\cs.size=P.cellsOf t/\Row.okWide P w r base t cs:=by
   unfold isAgg at eC;unfold Value.okWide at aj;split at eC<;>first|(cases eC;done)|skip
   .rename_i hu;rw[hu] at aj;exact aj
   .rename_i hu;rw[hu] at aj;exact aj
  obtain⟨cs,rfl,aE,ts,fl,_,b8⟩:=this;have hlen:=CS hk fl;have az:P.cellsOf t=k.size:=by
   unfold isAgg at eC;cases n with
   |zero=>cases hk
   |succ n =>
    unfold KTy at hk;split at eC<;>first|(cases eC;done)|skip
    all_goals
     rename_i hu;rw[hu] at hk;simp only[Bool.and_eq_true,beq_iff_eq] at hk;exact hk.1
  have me:okc P w r base ts cs.toList:=fun i v u h1 h2=>by have hi:i<ts.length:=(List.getElem?_eq_some_iff.1 h2).1;obtain⟨u',h3,h4⟩:=b8 i v (by simpa using h1);rw[Nat.mod_eq_of_lt hi] at h3;obtain rfl:=osj (h2.symm.trans h3);exact h4
  obtain⟨ρ',σ',vs,x,k1,k2,k3,k4,k5⟩:=TZ hk hl fl me (show DataW.trod enc P w 0 _ true fuel t cs.toList=_ from hd) ρ σ h;exact⟨ρ',σ',.agg vs.toArray,x,k1,k2,VRel.agg_of (ds:=cs.toList) k3,.inr ⟨bU,vs,rfl,k4⟩,k5⟩
 .have bU:k.one=true:=by
   have:isAgg P t=false:=by simpa using eC
   rw[this] at ha;simpa using ha.symm
  have iR:=Kind.one_size bU;have bn:Cell.okWide P w r base t v/\v.cells.toList=[v]:=by
   have h1:isAgg P t=false:=by simpa using eC
   unfold isAgg at h1;have h2:Cell.okWide P w r base t v:=by
    unfold Value.okWide at aj;split at aj
    .rename_i hu;rw[hu] at h1;cases h1
    .rename_i hu;rw[hu] at h1;cases h1
    .exact aj
   refine⟨h2,?_⟩;cases v<;>first|rfl|skip
   all_goals
    exfalso;cases n with
    |zero=>cases hk
    |succ n =>
     unfold KTy at hk;unfold Cell.okWide Cell.ok at h2;cases hu:P.underlying t with
     |none=>rw[hu] at hk;cases hk
     |some u =>rw[hu] at hk h2 h1;cases u<;>first|(cases hk;done)|(cases h1;done)|(cases h2;done)|(simp at h2;done)
  have fl:P.cellTypes 1 t=some [t]:=by
   have h1:isAgg P t=false:=by simpa using eC
   unfold isAgg at h1;unfold Program.cellTypes;cases n with
   |zero=>cases hk
   |succ n =>
    unfold KTy at hk;cases hu:P.underlying t with
    |none=>rw[hu] at hk;cases hk
    |some u =>rw[hu] at h1;cases u<;>first|rfl|(cases h1;done)
  rw[bn.2] at hd;have me:okc P w r base [t] [v]:=fun i v' u h1 h2=>by
   cases i with
   |zero=>cases h1;cases h2;exact bn.1
   |succ i=>simp at h1
  obtain⟨ρ',σ',vs,x,k1,k2,k3,k4,k5⟩:=TZ hk hl fl me hd ρ σ h;have:vs.length=1:=by rw[KC.length k4];exact iR
  obtain⟨vv,rfl⟩:=List.length_eq_one_iff.1 this;exact⟨ρ',σ',vv,x,k1,k2,k3.2 0 _ _ rfl rfl,.inl ⟨bU,k4⟩,k5⟩
def AWf:(ks:List Kind)->AT ks->Prop
 |[],_=>True
 |[k],x=>KWf k x
 |k::k'::ks,x=>KWf k x.1/\AWf (k'::ks) x.2
def Q8d (P:Program):List Kind->List TypeId->Bool
 |[],[]=>true
 |k::ks,t::ts=>(KTy P 8 k t&&(k.lev1&&(isAgg P t==!k.one)))&&Q8d P ks ts
 |_,_=>false
theorem View.args:∀ {ks:List Kind}{ts:List TypeId}{vs:List Value}{ds:List (DataW H)}{ps:List MemPlace}{ρ:Plc}{σ:Heap},View w ρ σ->Q8d P ks ts=true->(∀ (j:Nat) t v,ts[j]?=some t->vs[j]?=some v->Value.okWide P w r base t v)->DataW.TrodAll enc P w 0 (fun _=>true) true ts vs ds ps ->
  ∃ ρ' σ' mP x,View w ρ' σ'/\More ρ σ ρ' σ'/\LRel ρ' σ'.n mP vs/\P_ σ' ks x mP/\AWf ks x
 |[],[],vs,ds,ps,ρ,σ,h,_,_,hA=>by obtain⟨rfl,rfl,rfl⟩:=trodAll_nil hA;exact⟨ρ,σ,[],(),h,More.refl _ _,.nil _ _,rfl,trivial⟩
 |[k],[t],vs,ds,ps,ρ,σ,h,hk,hv,hA=>by obtain⟨v,cT,d,ds',p,q,rfl,rfl,rfl,h1,h2⟩:=trodAll_cons hA;obtain⟨rfl,rfl,rfl⟩:=trodAll_nil h2;simp only[Q8d,Bool.and_eq_true,beq_iff_eq] at hk;obtain⟨ρ',σ',vv,x,k1,k2,k3,k4,k5⟩:=h.arg hk.1.1 hk.1.2.1 hk.1.2.2 (hv 0 t v rfl rfl) h1;exact⟨ρ',σ',[vv],x,k1,k2,.one k3,⟨vv,rfl,k4⟩,k5⟩
 |k::k'::ks,t::ts,vs,ds,ps,ρ,σ,h,hk,hv,hA=>by obtain⟨v,cT,d,ds',p,q,rfl,rfl,rfl,h1,h2⟩:=trodAll_cons hA;simp only[Q8d,Bool.and_eq_true,beq_iff_eq] at hk;obtain⟨ρ1,σ1,vv,x,k1,k2,k3,k4,k5⟩:=h.arg hk.1.1 hk.1.2.1 hk.1.2.2 (hv 0 t v rfl rfl) h1;obtain⟨ρ2,σ2,mP,y,m1,m2,m3,m4,m5⟩:=k1.args (ks:=k'::ks) hk.2 (fun j t v h1 h2=>hv (j+1) t v h1 h2) h2;exact⟨ρ2,σ2,vv::mP,(x,y),m1,k2.trans m2,.cons (k3.mono m2.n m2.pl) m3,⟨vv,mP,rfl,k4.vcall m2.le,m4⟩,k5,m5⟩
 |[],_::_,_,_,_,_,_,_,hk,_,_|_::_,[],_,_,_,_,_,_,hk,_,_|[_],_::_::_,_,_,_,_,_,_,hk,_,_=>by simp[Q8d] at hk
theorem I_ (hT:Z3d w) {f:Nat}{sp:CSp}(gQ:OkC P f sp) (he:J0 P f) {ks:List Kind}{ts:List TypeId}{args:Array Value}{ds:List (DataW H)}{ps:List MemPlace}(hk:Q8d P ks ts=true)
  (hv:∀ (j:Nat) t v,ts[j]?=some t->args.toList[j]?=some v->Value.okWide P w r base t v) (hA:DataW.TrodAll enc P w 0 (fun _=>true) true ts args.toList ds ps)
  (hs:∀ x:AT ks,AWf ks x->∃ c,sp (fun _ _=>none) (TY ks x)=some (c,.val .bo true,[])/\c):Calls P f args w fun e w'=>e=.returned (.bool true)/\Below w.heap.size w w':=by
 obtain⟨ρ,σ,mP,x,k1,k2,k3,k4,k5⟩:=(View.emptyT w hT).args hk hv hA;obtain⟨c,h1,h2⟩:=hs x k5;exact k1.calls k3 (gQ.true he (Mq k4) h1 h2)
end
end Go.V
namespace Go.V
open Go
theorem Ha {H:Type}{enc:TypeId×Value->H}{P:Program}{w:World}{b:Nat}{sp:Nat->Bool}{hd:Bool}:∀ {ts:List TypeId}{vs:List Value}{ds:List (DataW H)}{ps:List MemPlace},DataW.TrodAll enc P w b sp hd ts vs ds ps->ds.length=ts.length
 |[],[],[],_,_=>rfl
 |t::ts,v::vs,d::ds,ps,h=>by obtain⟨p,q,_,h2,_⟩:=h;simp[Ha h2]
 |[],[],_::_,_,h|[],_::_,_,_,h|_::_,[],_,_,h|_::_,_::_,[],_,h=>h.elim
end Go.V
