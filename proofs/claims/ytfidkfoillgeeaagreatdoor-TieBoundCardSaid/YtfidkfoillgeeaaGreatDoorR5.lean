/- A framework for walks, contracts of functions, and their proofs: part 5. -/
import Derived.ProofKit
import Derived.OpenShut
import Derived.LaidMore
import Derived.Carry
import Derived.Lib.SmallJoins
import Derived.Deep.Slices
import Derived.Test.YtfidkfoillgeeaaGreatDoorR4
noncomputable section
set_option linter.unusedVariables false
set_option maxRecDepth 100000
namespace Go.V
open Go
def R6 (s:St):VResult→Option SV
 |.tmp t=>some (s.env.getD t .any)
 |.cell a agg size=>bif Nat.blt 0 size then O3 s.own agg size (s.env.getD a .any) else none
def Kt (s:St) (rs:List VResult):Option SV :=
 match rs with
 |[r]=>R6 s r
 |rs=>(rs.mapM (R6 s)).map .tup
def Oz (mp:List (Nat×Option Nat)) (j:Nat) (a:Option Nat):Option (List (Nat×Option Nat)) :=
 if (Ql mp j).isSome then none else match a with
 |some x=>if mp.any fun p=>p.2==some x then none else some (mp++[(j,a)])
 |none=>some (mp++[(j,a)])
mutual
def Ef:SV→SV→List (Nat×Option Nat)→Option (List (Nat×Option Nat))
 |.lst j,v,mp=>match v with|.lst a=>Oz mp j (some a)|.nilS=>Oz mp j none|_=>none
 |.map j,v,mp=>match v with|.map a=>Oz mp j (some a)|_=>none
 |.dd j w,v,mp=>match w with
  |.out=>(match v with
   |.dd a w'=>(match w' with|.out=>Oz mp j (some a)|_=>none)
   |.nilS=>Oz mp j none
   |_=>none)
  |_=>none
 |.box j _,v,mp=>match v with|.box a _=>Oz mp j (some a)|_=>none
 |.agg l,v,mp=>match v with|.agg l'=>Ah l l' mp|_=>none
 |.tup l,v,mp=>match v with|.tup l'=>Ah l l' mp|_=>none
 |.any,_,mp=>some mp
 |.val _ _,_,mp=>some mp
 |.nilS,_,mp=>some mp
 |.nilP,_,mp=>some mp
 |.nilM,_,mp=>some mp
 |.nilF,_,mp=>some mp
 |.sub _ _ _ _,_,_|.elp _ _ _ _,_,_|.grd _ _,_,_|.cp _ _,_,_|.fn _ _ _,_,_|.rop _ _ _ _,_,_|.pf _ _ _ _,_,_|.bid _ _,_,_=>none
def Ah:List SV→List SV→List (Nat×Option Nat)→Option (List (Nat×Option Nat))
 |[],_,mp=>some mp
 |s::ss,l,mp=>match l with
  |v::vs=>match Ef s v mp with|some mp=>Ah ss vs mp|none=>none
  |[]=>none
end
def O1 (s:St) (mp:List (Nat×Option Nat)):Nat→List OB→Prop
 |_,[]=>True
 |j,b::r=>IG s mp j b∧O1 s mp (j+1) r
def U0 (rs:List VResult) (v:SV) (bs:List OB):Exit→St→Prop:=fun e s =>
 let fin:=match Kt s rs with
  |some r=>(match Ef v r [] with
   |some mp=>BA mp v r∧O1 s mp 0 bs
   |none=>False)
  |none=>False
 match e with
 |.normal=>fin
 |.ret=>fin
 |_=>False
section
variable {P:Program}{B F:Heap}{pl:Nat→Value}{tb:Nat→Option Bool}{s:St}{env:Env}{σ:Heap}
theorem Bd (hG:Gam P B F pl tb s env σ) {r:VResult}{v:SV}(h:R6 s r=some v):∃ u,ZO env σ r=some u∧SR P B pl tb v u:=by
 cases r with
 |tmp t=>obtain rfl:=osj h;exact⟨_,rfl,hG.env.getD t undef⟩
 |cell a agg size =>
  simp only[R6] at h;cases hb:Nat.blt 0 size with
  |false=>rw[hb] at h;cases h
  |true =>rw[hb] at h;obtain⟨i,o,c,e,wr,t,u,h1,h2,h3,h4⟩:=DB hG.leB hG.obj (by simpa [Nat.blt_eq] using hb) h (hG.env.getD a undef);refine⟨u,?_,h4⟩;simp only[ZO,Q8,Q5,h1,h2,h3];rfl
theorem YN (hG:Gam P B F pl tb s env σ) {rs:List VResult}{v:SV}(h:Kt s rs=some v):∃ u,J4 env σ rs=some u∧SR P B pl tb v u:=by
 have all:∀ (rs:List VResult) (l:List SV),rs.mapM (R6 s)=some l→∃ us,rs.mapM (ZO env σ)=some us∧SRs P B pl tb l us:=by
  intro rs;induction rs with
  |nil=>intro l h;simp at h;subst h;exact⟨[],rfl,rfl⟩
  |cons r rs ih =>
   intro l h;rw[List.mapM_cons] at h;cases h1:R6 s r with
   |none=>simp[h1] at h
   |some a =>
    cases h2:rs.mapM (R6 s) with
    |none=>simp[h1,h2] at h
    |some l' =>simp[h1,h2] at h;subst h;obtain⟨u,h3,h4⟩:=Bd hG h1;obtain⟨us,h5,h6⟩:=ih l' h2;exact⟨u::us,by rw[List.mapM_cons];simp[h3,h5],by simp only[SRs];exact⟨u,us,rfl,h4,h6⟩⟩
 have tup:(rs.mapM (R6 s)).map SV.tup=some v→∃ u,(rs.mapM (ZO env σ)).map (fun vs=>Value.tuple vs.toArray)=some u∧SR P B pl tb v u:=fun h=>by simp only[Option.map_eq_some_iff] at h;obtain⟨l,h1,rfl⟩:=h;obtain⟨us,h2,h3⟩:=all rs l h1;exact⟨.tuple us.toArray,by rw[h2];rfl,by simp only[SR];exact⟨us,rfl,h3⟩⟩
 match rs,h,tup with
 |[r],h,_=>exact Bd hG h
 |[],h,tup=>exact tup h
 |_::_::_,h,tup=>exact tup h
theorem U6 {mp b8:List (Nat×Option Nat)}{j:Nat}{a:Option Nat}(h:Oz mp j a=some b8) (hi:Inj mp):Inj b8:=by
 unfold Oz at h;split at h
 ·cases h
 ·split at h
  ·rename_i x;split at h
   ·cases h
   ·rename_i hc;obtain rfl:=osj h;have cP:∀ d,Ql mp d≠some (some x):=fun d hd=>by
     obtain⟨p,h1,h2,h3⟩:=R0 hd;exact hc (List.any_eq_true.2 ⟨p,h1,by rw[h3];simp⟩)
    intro t1 t2 a' h1 h2;rw[Yp] at h1 h2;split at h1
    ·rename_i y1 e1;split at h2
     ·rename_i y2 e2;obtain rfl:=osj h1;obtain rfl:=osj h2;exact hi t1 t2 a' e1 e2
     ·split at h2
      ·obtain rfl:=osj (osj h2);obtain rfl:=osj h1;exact absurd e1 (cP t1)
      ·cases h2
    ·split at h1
     ·obtain rfl:=osj (osj h1);split at h2
      ·rename_i y2 e2;obtain rfl:=osj h2;exact absurd e2 (cP t2)
      ·split at h2
       ·omega
       ·cases h2
     ·cases h1
  ·obtain rfl:=osj h;intro t1 t2 a' h1 h2;rw[Yp] at h1 h2;split at h1
   ·rename_i y1 e1;split at h2
    ·rename_i y2 e2;obtain rfl:=osj h1;obtain rfl:=osj h2;exact hi t1 t2 a' e1 e2
    ·split at h2<;>cases h2
   ·split at h1<;>cases h1
mutual
theorem L6:∀ (v r:SV) (mp b8:List (Nat×Option Nat)),Ef v r mp=some b8→Inj mp→Inj b8
 |.lst j,r,mp,b8,h,hi=>by
  simp only[Ef] at h;split at h
  ·exact U6 h hi
  ·exact U6 h hi
  ·cases h
 |.map j,r,mp,b8,h,hi=>by
  simp only[Ef] at h;split at h
  ·exact U6 h hi
  ·cases h
 |.dd j w,r,mp,b8,h,hi=>by
  simp only[Ef] at h;split at h
  ·split at h
   ·split at h
    ·exact U6 h hi
    ·cases h
   ·exact U6 h hi
   ·cases h
  ·cases h
 |.box j _,r,mp,b8,h,hi=>by
  simp only[Ef] at h;split at h
  ·exact U6 h hi
  ·cases h
 |.agg l,r,mp,b8,h,hi=>by
  simp only[Ef] at h;split at h
  ·exact Be l _ mp b8 h hi
  ·cases h
 |.tup l,r,mp,b8,h,hi=>by
  simp only[Ef] at h;split at h
  ·exact Be l _ mp b8 h hi
  ·cases h
 |.any,r,mp,b8,h,hi|.val _ _,r,mp,b8,h,hi|.nilS,r,mp,b8,h,hi|.nilP,r,mp,b8,h,hi|.nilM,r,mp,b8,h,hi|.nilF,r,mp,b8,h,hi=>by simp only[Ef] at h;obtain rfl:=osj h;exact hi
 |.sub _ _ _ _,r,mp,b8,h,hi|.elp _ _ _ _,r,mp,b8,h,hi|.grd _ _,r,mp,b8,h,hi|.cp _ _,r,mp,b8,h,hi|.fn _ _ _,r,mp,b8,h,hi|.rop _ _ _ _,r,mp,b8,h,hi|.pf _ _ _ _,r,mp,b8,h,hi|.bid _ _,r,mp,b8,h,hi=>by cases h
theorem Be:∀ (v r:List SV) (mp b8:List (Nat×Option Nat)),Ah v r mp=some b8→Inj mp→Inj b8
 |[],r,mp,b8,h,hi=>by simp only[Ah] at h;obtain rfl:=osj h;exact hi
 |s::ss,[],mp,b8,h,hi=>by cases h
 |s::ss,r::rs,mp,b8,h,hi=>by
  simp only[Ah] at h;split at h
  ·rename_i r6 h1;exact Be ss rs r6 b8 h (L6 s r mp r6 h1 hi)
  ·cases h
end
theorem Rl {mp:List (Nat×Option Nat)}:∀ (bs:List OB) (n:Nat),O1 s mp n bs→∀ j b,bs[j]?=some b→IG s mp (n+j) b
 |[],n,_,j,b,hj=>by simp at hj
 |b0::r,n,h,j,b,hj=>by
  obtain⟨h1,h2⟩:=h;cases j with
  |zero=>simp at hj;subst hj;exact h1
  |succ j =>
   have:=Rl r (n+1) h2 j b (by simpa using hj)
   rwa [Nat.add_assoc,Nat.add_comm 1 j] at this
mutual
theorem Cd {n:Nat}{π:Nat→Nat}:∀ (v:SV) (u:Value),v.ret 0=true→SR P B pl tb v u→Ren n π u u
 |.val k x,u,h,hs=>by
  simp only[SR] at hs;cases k with
  |i ik=>simp only[KC] at hs;obtain rfl:=(List.cons.inj hs).1;exact .plain _ rfl
  |bo=>simp only[KC] at hs;obtain rfl:=(List.cons.inj hs).1;exact .plain _ rfl
  |st=>simp only[KC] at hs;obtain rfl:=(List.cons.inj hs).1;exact .plain _ rfl
  |list k=>cases h
  |pair a b =>have h1:=KC.length hs;have h2:=a.size_pos;have h3:=b.size_pos;simp only[Kind.size,List.length_singleton] at h1;omega
 |.nilS,u,_,hs|.nilP,u,_,hs|.nilM,u,_,hs|.nilF,u,_,hs=>by simp only[SR] at hs;subst hs;exact .plain _ rfl
 |.lst j,u,h,_|.box j _,u,h,_|.map j,u,h,_=>by simp[SV.ret,Nat.blt_eq] at h
 |.dd j w,u,h,_=>by cases w<;>simp[SV.ret,Nat.blt_eq] at h
 |.agg l,u,h,hs=>by simp only[SR] at hs;obtain⟨cs,rfl,h2⟩:=hs;have:=BF (n:=n) (π:=π) l cs h h2;exact .agg _ _ rfl fun i h3 _=>this _ (by simp)
 |.tup l,u,h,hs=>by simp only[SR] at hs;obtain⟨cs,rfl,h2⟩:=hs;have:=BF (n:=n) (π:=π) l cs h h2;exact .tuple _ _ rfl fun i h3 _=>this _ (by simp)
 |.any,_,h,_|.bid _ _,_,h,_|.grd _ _,_,h,_|.sub _ _ _ _,_,h,_|.elp _ _ _ _,_,h,_|.rop _ _ _ _,_,h,_|.cp _ _,_,h,_|.fn _ _ _,_,h,_|.pf _ _ _ _,_,h,_=>by cases h
theorem BF {n:Nat}{π:Nat→Nat}:∀ (v:List SV) (u:List Value),SVs.ret 0 v=true→SRs P B pl tb v u→∀ x∈u,Ren n π x x
 |[],u,_,hs=>by simp only[SRs] at hs;subst hs;intro x hx;cases hx
 |s::ss,u,h,hs=>by
  simp only[SVs.ret,Bool.and_eq_true] at h;simp only[SRs] at hs;obtain⟨x,y,rfl,h1,h2⟩:=hs;intro z hz;rcases List.mem_cons.1 hz with rfl|hz
  ·exact Cd s z h.1 h1
  ·exact BF ss y h.2 h2 z hz
end
theorem Cy (exact:Bool) {σ0:Heap}{sf:St}{lX:Env}{σf:Heap}(hR:GRel P σ0 σ0 σ0 sf lX σf) {rs:List VResult}{v:SV}{bs:List OB}{e:Exit}(hv:v.ret bs.length=true) (hb:bs.all OB.ret=true) (h:U0 rs v bs e sf) (hx:exact=true→bs.all OB.isL=true∧YQ v=true) :
  Q6r σ0 rs (fun u σ'=>if exact then u=YV (Hn σ0 bs) v∧σ'=BP σ0 bs else Ret P σ0 v bs u σ') e lX σf:=by
 have main:(match Kt sf rs with
  |some r=>(match Ef v r [] with
   |some mp=>BA mp v r∧O1 sf mp 0 bs
   |none=>False)
  |none=>False)→QR (J4 lX σf rs) fun u=>∃ v' σ',DropTo σ0 u σf v' σ'∧(if exact then v'=YV (Hn σ0 bs) v∧σ'=BP σ0 bs else Ret P σ0 v bs v' σ'):=fun h=>by
  split at h
  ·rename_i r hr;split at h
   ·rename_i mp n6;obtain⟨h1,h2⟩:=h;obtain⟨B,F,pl,tb,⟨hB,hF,_,hd⟩,hG⟩:=hR;obtain⟨u,h3,h4⟩:=YN hG hr;have jd:=Ki v r u h1 h4;have eY:=L6 v r [] mp n6 (fun t t' a h=>by cases h);have av:∀ j b,bs[j]?=some b→IG sf mp j b:=fun j b hj=>by have:=Rl bs 0 h2 j b hj;rwa [Nat.zero_add] at this
    rw[h3];have hle:σ0.Le σf:=hF.trans hG.le;have hA:Agree σ0 σf:=fun i hi=>by
     cases hg:σ0.get i with
     |none=>exact hd.2 i hi hg
     |some b=>exact hle.2 i b hg
    have aO:∀ j b,bs[j]?=some b→OR P hNil (Uc pl mp) ZC σf (Uc pl mp j) b∧∀ i,Oid (Uc pl mp j) i→σ0.get i=none∧σ0.n≤i:=fun j b hj=>by
     obtain⟨k1,k2⟩:=QL hG (av j b hj);have dw:=List.all_eq_true.1 hb b (List.mem_of_getElem? hj);have aC:b.live=true:=by cases b<;>first|rfl|cases dw
     refine⟨k1.retd dw fun _ _=>rfl,fun i hi=>?_⟩;obtain⟨a,e1,e2,e3⟩:=k2 aC i hi;have mz:=hG.fresh a i e2 e3;have hn:σ0.get i=none:=by
      cases hg:σ0.get i with
      |none=>rfl
      |some b=>rw[hF.2 i b hg] at mz;cases mz
     refine⟨hn,Nat.le_of_not_lt fun ai=>?_⟩;have bD:=hd.2 i ai hn;have av:=hG.obj a;cases ho:Qe sf.own a with
     |dead=>rw[ho] at e2;cases e2
     |lst ty k xs nl =>
      rw[ho] at av;rcases av with⟨_,_,h2⟩|⟨_,i',cap,c,t,h2,_,h3,_⟩
      ·rw[h2] at e3;cases e3
      ·rw[h2] at e3;obtain rfl:=osj e3;rw[h3] at bD;cases bD
     |cells l u=>rw[ho] at av;obtain⟨i',c,e,t,h2,h3,_⟩:=av;rw[h2] at e3;obtain rfl:=osj e3;rw[h3] at bD;cases bD
     |mapE kk vk m key n=>rw[ho] at av;obtain⟨i',es,cl,r,e,h2,h3,_⟩:=av;rw[h2] at e3;obtain rfl:=osj e3;rw[h3] at bD;cases bD
     |map kk vk m=>rw[ho] at av;obtain⟨i',es,cl,h2,h3,_⟩:=av;rw[h2] at e3;obtain rfl:=osj e3;rw[h3] at bD;cases bD
     |stk l vals=>rw[ho] at e2;cases e2
     |lpf l q s=>rw[ho] at av e2;obtain⟨h2,_,h3⟩:=av;rw[h2] at e3;obtain rfl:=osj e3;have h3:=h3 e2;rw[bD] at h3;cases h3
     |iter kk vk m dn=>rw[ho] at av;obtain⟨j',i',es,cl,wr,seen,h2,h3,_⟩:=av;rw[h2] at e3;obtain rfl:=osj e3;rw[h3] at bD;cases bD
     |deep ty q k xs nl hh =>rw[ho] at av;obtain⟨is,_,d2,d3,_⟩:=DP.open av;obtain⟨c,e,t,h⟩:=d2.cells i ((d3 i).1 e3);rw[h] at bD;cases bD
    have fA:∀ j j' i,j<bs.length→j'<bs.length→j≠j'→Oid (Uc pl mp j) i→Oid (Uc pl mp j') i→False:=fun j j' i hj cU aF hi cE=>by
     have bC:=List.getElem?_eq_getElem hj;have cg:=List.getElem?_eq_getElem cU;have r1:=List.all_eq_true.1 hb _ (List.getElem_mem hj);have r2:=List.all_eq_true.1 hb _ (List.getElem_mem cU);have l1:(bs[j]).live=true:=by cases oJ:bs[j]<;>first|rfl|(rw[oJ] at r1;cases r1)
     have l2:(bs[j']).live=true:=by cases oJ:bs[j']<;>first|rfl|(rw[oJ] at r2;cases r2)
     obtain⟨a,e1,e2,e3⟩:=(QL hG (av j _ bC)).2 l1 i hi;obtain⟨a',uM,mq,uN⟩:=(QL hG (av j' _ cg)).2 l2 i cE;by_cases e:a=a'
     ·subst e;exact aF (eY j j' a e1 uM)
     ·exact hG.sep a a' i e e2 mq e3 uN
    cases hex:exact with
    |true =>obtain⟨hl,cG⟩:=hx hex;have og:=Av (P:=P) hA hle.1 hv cG hb hl (pl:=Uc pl mp) (u:=u) (fun j b hj=>⟨(aO j b hj).1,fun i hi=>((aO j b hj).2 i (SK hi)).2⟩) (fun j j' i a b c d e=>fA j j' i a b c (SK d) (SK e)) (jd.retd (fun j hj=>rfl) _ _ hv);exact⟨_,_,og,by simp⟩
    |false =>
     simp only[Bool.false_eq_true,if_false];by_cases cn:bs=[]
     ·subst cn;refine⟨u,σ0,.rename (fun i=>i) (Nat.le_refl _) (fun i hi=>⟨rfl,(hA i hi).symm,.inl (hA i hi)⟩) (fun i k1 k2=>by omega) (fun _ _ _ _ _ _ h=>h) (Cd v u hv jd),?_⟩;exact⟨⟨Heap.Le.refl _,Dead.refl _⟩,fun _=>rfl,Jl,(fun j b hj=>by simp at hj),(fun j j' i hj=>by simp at hj),jd.retd (fun j hj=>by simp at hj) _ _ hv⟩
     ·exact⟨u,σf,.refl _ _ _,⟨hle,hd⟩,fun e=>absurd e cn,Uc pl mp,aO,fA,jd.retd (fun j hj=>rfl) _ _ hv⟩
   ·exact h.elim
  ·exact h.elim
 cases e with
 |normal=>exact main h
 |ret=>exact main h
 |_=>exact h.elim
def QS (nt:Nat) (args:List SV):St:=⟨args++List.replicate (nt-args.length) .any,[],0⟩
theorem Am {args:List SV}{vs:List Value}(h:SRs P σ Jl ZC args vs) (nt:Nat):GRel P σ σ σ (QS nt args) (vs++List.replicate (nt-vs.length) undef) σ:=by
 have uO:∀ n,SRs P σ Jl ZC (List.replicate n .any) (List.replicate n undef):=by
  intro n;induction n with
  |zero=>simp[SRs]
  |succ n ih=>simp only[List.replicate_succ,SRs];exact⟨_,_,rfl,by simp[SR],ih⟩
 refine⟨σ,σ,Jl,ZC,⟨Heap.Le.refl _,Heap.Le.refl _,(fun i b h1 h2=>by rw[h2] at h1;cases h1),Dead.refl _⟩,Heap.Le.refl _,Heap.Le.refl _,?_,fun d=>trivial,(fun d i hl=>by cases hl),(fun d d' i _ hl=>by cases hl),fun _ _=>rfl⟩;have:=h.length;simp only[QS,this];exact h.append (uO _)
theorem Fun.okC {f:Nat}{vc:VCode}{rs:List VResult}{nt:Nat}(h:Fun P f vc rs nt) (hm:P.follows .mixedOrders=true) {sp:CSp}
  (hb:∀ ap,Ot P ap→∀ args c v bs,sp ap args=some (c,v,bs)→c→∃ (C:Cx) (L:List (Nat×LoopAnn)) (iQ:List SV),(∀ σ vs,SRs P σ Jl ZC args vs→SRs P σ Jl ZC iQ vs)∧COk P C∧gwp C L vc 0 (U0 rs v bs) (QS nt iQ)):OkC P f sp:=by
 intro ap eF σ args vs c v bs aD gC hv cn hc;obtain⟨C,L,iQ,h1,h2,h3⟩:=hb ap eF args c v bs gC hc;have main:∀ exact:Bool,(exact=true→bs.all OB.isL=true∧YQ v=true)→VCalled P f vs σ fun u σ'=>if exact then u=YV (Hn σ bs) v∧σ'=BP σ bs else Ret P σ v bs u σ':=fun exact hx=>by refine h.calls hm P0 ?_;exact N_ h2 vc 0 _ _ _ σ none _ trivial (Am (h1 σ vs aD) nt) h3 fun e s' ah σ' k1 k2=>Cy exact k2 hv cn k1 hx
 refine⟨(main false fun e=>by cases e).mono fun u σ' hr=>by simpa using hr,fun hl cG=>(main true fun _=>⟨hl,cG⟩).mono fun u σ' hr=>by simpa using hr⟩
theorem OkC.true {f:Nat}{sp:CSp}(h:OkC P f sp) (he:Jy P f) {σ:Heap}{args:List SV}{vs:List Value}(ha:SRs P σ Jl ZC args vs) {c:Prop}(hs:sp (fun _ _=>none) args=some (c,.val .bo true,[])) (hc:c) :
  VCallsTo P f vs σ fun v _=>v=.bool true:=by
 have:=(h (fun _ _=>none) (fun _ _ _ _ _ _ _ _ _ h=>by cases h) σ args vs c _ [] ha hs rfl rfl hc).1;intro ρ w az hH hL;rcases this ρ w az hH hL with⟨_,h2⟩|⟨c',_,h2⟩
 ·refine h2.mono fun e w' ⟨c',h3,h4⟩=>⟨c',h3,h4.mono fun u σ' hr=>?_⟩;have:=(hr.flat rfl).2;simpa only [SR,KC,List.cons.injEq,and_true] using this
 ·have:=h2 w (Like.refl ρ w);rw[VC he az w] at this;cases this
end
end Go.V
namespace Go.V
open Go
mutual
inductive AP:Type→Type 1 where
 |k (k:Kind):AP k.T
 |agg {D:Type}(l:AL D):AP D
 |ptr {D:Type}(l:AL D):AP D
 |fn (ks:List Kind) (r:Kind):AP ((AT ks→Prop)×(AT ks→r.T))
 |nilS:AP Unit
 |any:AP Unit
 |int (k:IntKind) (n:Int):AP Unit
inductive AL:Type→Type 1 where
 |nil:AL Unit
 |one {D:Type}(a:AP D):AL D
 |cons {D E:Type}(a:AP D) (r:AL E):AL (D×E)
end
def Pd:(ks:List Kind)→AT ks→List SV
 |[],_=>[]
 |[k],x=>[Ic k x]
 |k::k'::ks,x=>Ic k x.1::Pd (k'::ks) x.2
abbrev Ap:=SV→List SV→Option (Prop×SV)
def Ij (ap:Ap) (f:SV) (ks:List Kind) (r:Kind) (x:AT ks):Prop:=match ap f (Pd ks x) with
 |some (c,v)=>(match gap.asV r v with|some _=>c|none=>False)
 |none=>False
def fnP (ap:Ap) (f:SV) (ks:List Kind) (r:Kind) (x:AT ks):r.T:=match ap f (Pd ks x) with
 |some (_,v)=>(match gap.asV r v with|some y=>y|none=>r.dflt)
 |none=>r.dflt
mutual
def AP.dec (ap:Ap):{D:Type}→(p:AP D)→SV→Option D
 |_,.k k,v=>match k with
  |.list k=>view [] k v
  |.i ik=>BX (.i ik) [v]
  |.bo=>BX .bo [v]
  |.st=>BX .st [v]
  |.pair _ _=>none
 |_,.agg l,v=>match v with|.agg vs=>AL.dec ap l vs|_=>none
 |_,.nilS,v=>match v with|.nilS=>some ()|_=>none
 |_,.any,_=>some ()
 |_,.int k n,v=>match BX (.i k) [v] with|some x=>if (show Int from x)=n then some () else none|none=>none
 |_,.ptr l,v=>match v with|.cp vs 0=>AL.dec ap l vs|_=>none
 |_,.fn ks r,v=>match v with
  |.fn g a b=>some (Ij ap (.fn g a b) ks r,fnP ap (.fn g a b) ks r)
  |.pf r7 r' cR p=>some (Ij ap (.pf r7 r' cR p) ks r,fnP ap (.pf r7 r' cR p) ks r)
  |_=>none
def AL.dec (ap:Ap):{D:Type}→(l:AL D)→List SV→Option D
 |_,.nil,vs=>match vs with|[]=>some ()|_=>none
 |_,.one a,vs=>match vs with|[v]=>AP.dec ap a v|_=>none
 |_,.cons a r,vs=>match vs with
  |v::vs=>(match AP.dec ap a v,AL.dec ap r vs with|some x,some y=>some (x,y)|_,_=>none)
  |[]=>none
end
mutual
def AP.can:{D:Type}→(p:AP D)→D→SV
 |_,.k k,x=>.val k x
 |_,.agg l,x=>.agg (AL.can l x)
 |_,.nilS,_=>.nilS
 |_,.any,_=>.any
 |_,.int k n,_=>.val (.i k) n
 |_,.ptr l,x=>.cp (AL.can l x) 0
 |_,.fn ks r,x=>.pf ks r x.1 x.2
def AL.can:{D:Type}→(l:AL D)→D→List SV
 |_,.nil,_=>[]
 |_,.one a,x=>[AP.can a x]
 |_,.cons a r,x=>AP.can a x.1::AL.can r x.2
end
def V0 {D:Type}(l:AL D) (pre:D→Prop) (res:D→SV) (obs:D→List OB):CSp:=fun ap args=>match AL.dec ap l args with
 |some d=>some (pre d,res d,obs d)
 |none=>none
section
variable {P:Program}{σ:Heap}
theorem Nt:∀ {ks:List Kind}{x:AT ks}{vs:List Value},HU σ ks x vs→SRs P σ Jl ZC (Pd ks x) vs
 |[],x,vs,h=>by simp only[HU] at h;subst h;simp[Pd,SRs]
 |[k],x,vs,h=>by obtain⟨v,rfl,h1⟩:=h;simp only[Pd,SRs];exact⟨v,[],rfl,JY h1,rfl⟩
 |k::k'::ks,x,vs,h=>by obtain⟨v,cT,rfl,h1,h2⟩:=h;simp only[Pd,SRs];exact⟨v,cT,rfl,JY h1,Nt h2⟩
theorem Cc {ap:Ap}(eF:Ot P ap) {f:SV}{v:Value}(hf:SR P σ Jl ZC f v) (hv:∃ g a b,v=.func (.func g) a b) (ks:List Kind) (r:Kind):SR P σ Jl ZC (.pf ks r (Ij ap f ks r) (fnP ap f ks r)) v:=by
 obtain⟨g,a,b,rfl⟩:=hv;simp only[SR];refine⟨g,a,b,rfl,fun x hd τ vs hle cD=>?_⟩;unfold Ij at hd;split at hd
 ·rename_i c u oh;split at hd
  ·rename_i y hy;obtain⟨h1,g',a',b',h2,h3⟩:=eF τ f (Pd ks x) c u (.func (.func g) a b) vs (SR.mono hle (fun _ _ h=>h) _ _ hf) (Nt cD) oh hd;obtain⟨rfl,rfl,rfl⟩:=(by simpa using h2:g=g'∧a=a'∧b=b');have hp:fnP ap f ks r x=y:=by simp[fnP,oh,hy]
   rw[hp];exact h3.mono fun u' σ' hu=>⟨hu.1,(DK hy hu.2).vcall (C6 _)⟩
  ·exact hd.elim
 ·exact hd.elim
mutual
theorem AP.dec_sound {ap:Ap}(eF:Ot P ap):∀ {D:Type}(p:AP D) {v:SV}{x:D}{u:Value},AP.dec ap p v=some x→SR P σ Jl ZC v u→SR P σ Jl ZC (AP.can p x) u
 |_,.k k,v,x,u,h,hs=>by
  have one:SRs P σ Jl ZC [v] [u]:=by simp only[SRs];exact⟨u,[],rfl,hs,rfl⟩
  simp only[AP.can,SR];cases k with
  |list k =>have:=Kg (own:=[]) (Heap.Le.refl σ) (fun d=>(trivial:OR P σ Jl ZC σ (Jl d) .dead)) (show view [] k v=some x from h) hs;exact⟨u,rfl,this⟩
  |i ik=>exact QC (k:=.i ik) h one
  |bo=>exact QC (k:=.bo) h one
  |st=>exact QC (k:=.st) h one
  |pair a b=>cases h
 |_,.agg l,v,x,u,h,hs=>by
  simp only[AP.dec] at h;split at h
  ·simp only[SR] at hs;obtain⟨cs,rfl,hs⟩:=hs;simp only[AP.can,SR];exact⟨cs,rfl,AL.dec_sound eF l h hs⟩
  ·cases h
 |_,.any,v,x,u,h,hs=>by simp only[AP.can,SR]
 |_,.int k n,v,x,u,h,hs=>by
  have one:SRs P σ Jl ZC [v] [u]:=by simp only[SRs];exact⟨u,[],rfl,hs,rfl⟩
  simp only[AP.dec] at h;split at h
  ·rename_i y hy;split at h
   ·rename_i e;subst e;simp only[AP.can,SR];exact QC (k:=.i k) hy one
   ·cases h
  ·cases h
 |_,.nilS,v,x,u,h,hs=>by
  simp only[AP.dec] at h;split at h
  ·simp only[AP.can];exact hs
  ·cases h
 |_,.ptr l,v,x,u,h,hs=>by
  simp only[AP.dec] at h;split at h
  ·simp only[SR] at hs;obtain⟨b,c,e,wr,t,h1,rfl,h3⟩:=hs;simp only[AP.can,SR];exact⟨b,c,e,wr,t,h1,rfl,AL.dec_sound eF l h h3⟩
  ·cases h
 |_,.fn ks r,v,x,u,h,hs=>by
  simp only[AP.dec] at h;split at h
  ·obtain rfl:=osj h;exact Cc eF hs (by simp only[SR] at hs;obtain⟨x,y,rfl,_⟩:=hs;exact⟨_,_,_,rfl⟩) ks r
  ·obtain rfl:=osj h;exact Cc eF hs (by simp only[SR] at hs;obtain⟨g,x,y,rfl,_⟩:=hs;exact⟨_,_,_,rfl⟩) ks r
  ·cases h
theorem AL.dec_sound {ap:Ap}(eF:Ot P ap):∀ {D:Type}(l:AL D) {vs:List SV}{x:D}{us:List Value},AL.dec ap l vs=some x→SRs P σ Jl ZC vs us→SRs P σ Jl ZC (AL.can l x) us
 |_,.nil,vs,x,us,h,hs=>by
  simp only[AL.dec] at h;split at h
  ·exact hs
  ·cases h
 |_,.one a,vs,x,us,h,hs=>by
  simp only[AL.dec] at h;split at h
  ·obtain⟨u,rfl,h1⟩:=hs.one;simp only[AL.can,SRs];exact⟨u,[],rfl,AP.dec_sound eF a h h1,rfl⟩
  ·cases h
 |_,.cons a r,vs,x,us,h,hs=>by
  simp only[AL.dec] at h;split at h
  ·rename_i v cT;split at h
   ·rename_i y z h1 h2;obtain rfl:=osj h;simp only[SRs] at hs;obtain⟨u,lB,rfl,h3,h4⟩:=hs;simp only[AL.can,SRs];exact⟨u,lB,rfl,AP.dec_sound eF a h1 h3,AL.dec_sound eF r h2 h4⟩
   ·cases h
  ·cases h
end
theorem CsOk.nil:CsOk P []:=fun f sp h=>by cases h
theorem CsOk.cons {f:Nat}{sp:CSp}{cs:List (Nat×CSp)}(h:OkC P f sp) (t:CsOk P cs):CsOk P ((f,sp)::cs):=fun g uP hg=>by
 simp only[Ql] at hg;cases hb:Nat.beq f g with
 |true=>rw[hb] at hg;obtain rfl:=Nat.eq_of_beq_eq_true hb;obtain rfl:=osj hg;exact h
 |false=>rw[hb] at hg;exact t g uP hg
theorem COk.cons {C:Cx}{f:Nat}{sp:CSp}(h:OkC P f sp) (t:COk P C):COk P {C with cs:=(f,sp)::C.cs}:=⟨CsOk.cons h t.cs,t.xs,t.it,t.yl,t.iy,t.xf⟩
theorem Q6m {f:Nat}{vc:VCode}{rs:List VResult}{nt:Nat}(h:Fun P f vc rs nt) (hm:P.follows .mixedOrders=true) {D:Type}{l:AL D}{pre:D→Prop}{res:D→SV}{obs:D→List OB}
  {C:Cx}(aB:COk P C) (L:D→List (Nat×LoopAnn)) (hb:∀ d,pre d→gwp C (L d) vc 0 (U0 rs (res d) (obs d)) (QS nt (AL.can l d))):OkC P f (V0 l pre res obs):=by
 refine h.okC hm fun ap eF args c v bs hs hc=>?_;unfold V0 at hs;split at hs
 ·rename_i d hd;obtain⟨rfl,rfl,rfl⟩:=(by simpa using hs:pre d=c∧res d=v∧obs d=bs);exact⟨C,L d,AL.can l d,fun σ vs hv=>AL.dec_sound eF l hd hv,aB,hb d hc⟩
 ·cases hs
theorem Z8 {f:Nat}{vc:VCode}{rs:List VResult}{nt:Nat}(h:Fun P f vc rs nt) (hm:P.follows .mixedOrders=true) {D:Type}{l:AL D}{pre:D→Prop}{res:D→SV}{obs:D→List OB}
  {C:Cx}(aB:COk P C) {L:D→List (Nat×LoopAnn)}{V:D→Prop}(hq:∀ d,gwp C (L d) vc 0 (U0 rs (res d) (obs d)) (QS nt (AL.can l d))=V d) (hb:∀ d,pre d→V d):OkC P f (V0 l pre res obs) :=
 Q6m h hm aB L fun d hp=>(hq d).mpr (hb d hp)
end
end Go.V
namespace Go.V
open Go
def Q7e (key:Nat) (vals:List Value) (rs:List VResult) (K:SV→St→Prop):Exit→St→Prop:=fun e s =>
 let fin:=match Kt s rs,Qe s.own key with
  |some r,.stk l vs=>vs=vals∧K r ⟨l,s.own,s.nx⟩
  |_,_=>False
 match e with
 |.normal=>fin
 |.ret=>fin
 |_=>False
def Q2u:XSp:=fun _ args s K=>match args with
 |[v]=>K v s
 |_=>False
def Q1f (C:Cx) (L:List Value→List (Nat×LoopAnn)) (vc:VCode) (rs:List VResult) (nt:Nat):XSp:=fun d args s K =>
 ∀ vals,gwp {C with off:=100000*(d+1)} (L vals) vc 0 (Q7e (100000*(d+1)-1) vals rs K) ⟨SVs.kill (100000*(d+1)-1) args++List.replicate (nt-args.length) .any,(RV (100000*(d+1)-1) vals s).own,s.nx⟩
def Q6w (C:Cx) (L:List (Nat×LoopAnn)) (vc:VCode) (nt:Nat):Q3w:=fun o args y s K =>
 gwp {C with off:=100000*(o+1),yl:=[y]} L vc 0 (fun e s'=>match e with|.normal=>K s'|.ret=>K s'|_=>False) ⟨args++List.replicate (nt-args.length) .any,s.own,s.nx⟩
section
variable {P:Program}
theorem PL {B:Heap}{pl:Nat→Value}{tb:Nat→Option Bool}:∀ n,SRs P B pl tb (List.replicate n .any) (List.replicate n undef)
 |0=>by simp[SRs]
 |n+1=>by simp only[List.replicate_succ,SRs];exact⟨_,_,rfl,by simp[SR],PL n⟩
theorem Lh {f:Nat}(h:∀ (v:Value) (σ:Heap) (K:Value→Heap→Prop),K v σ→VCalled P f [v] σ K):XOk P f Q2u:=by
 intro B F pl tb s env σ d args vs K R hG ha hx hK
 match args,ha,hx with
 |[v],ha,hx =>simp only[SRs] at ha;obtain⟨u,_,rfl,h1,rfl⟩:=ha;exact h u σ R (hK v s B F pl tb u σ hx (.of hG.bf (.refl _)) hG h1)
 |[],_,hx=>exact hx.elim
 |_::_::_,_,hx=>exact hx.elim
theorem Mz {f:Nat}{vc:VCode}{rs:List VResult}{nt:Nat}(h:Fun P f vc rs nt) (hm:P.follows .mixedOrders=true) {C:Cx}(aB:COk P C) (L:List Value→List (Nat×LoopAnn)):XOk P f (Q1f C L vc rs nt):=by
 intro B F pl tb s env σ d args vs K R hG ha hx hK;have hx:=hx env;refine h.calls hm P0 ?_;have q3:Gam P B F (J7 pl (100000*(d+1)-1) poison) tb (RV (100000*(d+1)-1) env s) env σ:=by refine hG.make _ _ poison hG.le (fun _ _ _ _ _=>rfl) ?_ (fun i hl _=>by cases hl);exact SRs.upd (.refl _) (fun _ _ h=>h) (fun j hj=>by simp[J7,hj]) _ _ hG.env
 have iR:COk P {C with off:=100000*(d+1)}:=⟨aB.cs,aB.xs,aB.it,aB.yl,aB.iy,aB.xf⟩;have aD:=SRs.upd (P:=P) (Heap.Le.refl B) (fun _ _ h=>h) (pl':=J7 pl (100000*(d+1)-1) poison) (tb':=tb) (o:=100000*(d+1)-1) (fun j hj=>by simp[J7,hj]) _ _ ha;have bI:GRel P B F σ ⟨SVs.kill (100000*(d+1)-1) args++List.replicate (nt-args.length) .any,(RV (100000*(d+1)-1) env s).own,s.nx⟩ (vs++List.replicate (nt-vs.length) undef) σ:=by refine⟨B,F,_,tb,.of hG.bf (.refl _),⟨q3.bf,q3.le,?_,q3.obj,q3.fresh,q3.sep,q3.free⟩⟩;rw[ha.length];exact aD.append (PL _)
 refine N_ iR vc 0 _ _ _ σ none _ trivial bI hx fun e s' ah σ' h1 h2=>?_
 ·have main:(match Kt s' rs,Qe s'.own (100000*(d+1)-1) with
   |some r,.stk l vs=>vs=env∧K r ⟨l,s'.own,s'.nx⟩
   |_,_=>False)→QR (J4 ah σ' rs) fun v=>∃ v' aL,DropTo σ v σ' v' aL∧R v' aL:=fun h=>by
   obtain⟨B',F',pl',tb',k1,k2⟩:=h2;split at h
   ·rename_i r l cT hr iP;obtain⟨rfl,h⟩:=h;obtain⟨u,h3,h4⟩:=YN k2 hr;rw[h3];have av:=k2.obj (100000*(d+1)-1);rw[iP] at av;exact⟨u,σ',.refl _ _ _,hK r _ B' F' pl' tb' u σ' h k1 ⟨k2.bf,k2.le,av,k2.obj,k2.fresh,k2.sep,k2.free⟩ h4⟩
   ·exact h.elim
  cases e with
  |normal=>exact main h1
  |ret=>exact main h1
  |_=>exact h1.elim
theorem S8 {f:Nat}{vc:VCode}{nt:Nat}(h:Fun P f vc [] nt) (hm:P.follows .mixedOrders=true) {C:Cx}(aB:COk P C) (L:List (Nat×LoopAnn)):Q3q P f (Q6w C L vc nt):=by
 refine⟨h.enterable,fun B F pl tb s env σ o args vs y K R hG ha hy hx hK=>h.callsTo hm P0 ?_⟩;have iR:COk P {C with off:=100000*(o+1),yl:=[(o,y)]}:=⟨aB.cs,aB.xs,aB.it,fun o' y' h'=>by
  simp only[Ql] at h';cases hb:Nat.beq o o' with
  |true=>rw[hb] at h';obtain rfl:=Nat.eq_of_beq_eq_true hb;obtain rfl:=osj h';exact hy
  |false=>rw[hb] at h';exact(by cases h'),aB.iy,aB.xf⟩
 have bI:GRel P B F σ ⟨args++List.replicate (nt-args.length) .any,s.own,s.nx⟩ (vs++List.replicate (nt-vs.length) undef) σ:=by refine⟨B,F,pl,tb,.of hG.bf (Dead.refl _),⟨hG.bf,hG.le,?_,hG.obj,hG.fresh,hG.sep,hG.free⟩⟩;rw[ha.length];exact ha.append (PL _)
 refine N_ iR vc 0 _ _ _ σ none _ trivial bI hx fun e s' ah σ' h1 h2=>?_;have main:K s'→QR (J4 ah σ' []) fun v=>∃ v' aL,DropTo σ v σ' v' aL∧R aL:=fun h=>by obtain⟨B',F',pl',tb',k1,k2⟩:=h2;exact⟨_,σ',.refl _ _ _,hK s' B' F' pl' tb' ah σ' h k1 k2⟩
 cases e with
 |normal=>exact main h1
 |ret=>exact main h1
 |_=>exact h1.elim
end
end Go.V
namespace Go.V
open Go
section
variable {P:Program}
theorem Heap.Le.kill' {B σ:Heap}(h:B.Le σ) {i:Nat}(hi:B.get i=none):B.Le (σ.kill i):=⟨h.1,fun j b hb=>by
 have:j≠i:=by rintro rfl;rw[hi] at hb;cases hb
 rw[Heap.get_kill_ne _ this];exact h.2 _ _ hb⟩
theorem Heap.kill_le (σ:Heap) (i:Nat):(σ.kill i).Le σ:=⟨Nat.le_refl _,fun j b hb=>by
 by_cases e:j=i
 ·subst e;rw[Heap.get_kill_self] at hb;cases hb
 ·rwa [Heap.get_kill_ne _ e] at hb⟩
mutual
theorem AP.can_pure:∀ {D:Type}(p:AP D) (x:D),(AP.can p x).pure=true
 |_,.k k,x=>rfl
 |_,.agg l,x=>by simp only[AP.can,SV.pure];exact AL.can_pure l x
 |_,.nilS,x=>rfl
 |_,.any,x=>rfl
 |_,.int k n,x=>rfl
 |_,.ptr l,x=>by simp only[AP.can,SV.pure];exact AL.can_pure l x
 |_,.fn ks r,x=>rfl
theorem AL.can_pure:∀ {D:Type}(l:AL D) (x:D),SVs.pure (AL.can l x)=true
 |_,.nil,x=>rfl
 |_,.one a,x=>by simp only[AL.can,SVs.pure,AP.can_pure a x];rfl
 |_,.cons a r,x=>by simp only[AL.can,SVs.pure,AP.can_pure a x.1,AL.can_pure r x.2];rfl
end
end
end Go.V
namespace Go.V
open Go
abbrev lI {α:Type}(l:List α):Int:=(l.length:Int)
abbrev gD {α:Type}(l:List α) (i:Int) (d:α):α:=l.getD i.toNat d
abbrev sT {α:Type}(l:List α) (i:Int) (x:α):List α:=l.set i.toNat x
abbrev I64 (x:Int):Prop:=InK .i64 x
theorem Q9 (x:Int):InK .i64 x↔-9223372036854775808≤x∧x≤9223372036854775807:=by simp[InK,IntKind.min,IntKind.max,IntKind.bits,IntKind.signed]
theorem Fi (x:Int):InK .u8 x↔0≤x∧x≤255:=by simp[InK,IntKind.min,IntKind.max,IntKind.bits,IntKind.signed]
theorem Q2v (x:Int):InK .u16 x↔0≤x∧x≤65535:=by simp[InK,IntKind.min,IntKind.max,IntKind.bits,IntKind.signed]
theorem LoopP.count {F:Int→(Int→Prop)→Prop}(n:Nat) (J:Nat→Prop) (h0:J 0) (hr:∀ k:Nat,k≤n→J k→∀ q:Int→Prop,(k<n→J (k+1)→q ((k:Int)+1))→F k q):LoopP F 0:=by refine⟨fun d=>∃ k:Nat,d=k∧k≤n∧J k,fun d=>n-d.toNat,⟨0,rfl,Nat.zero_le _,h0⟩,fun d ⟨k,hd,hk,hJ⟩=>?_⟩;subst hd;refine hr k hk hJ _ fun ai qF=>⟨⟨k+1,by simp,ai,qF⟩,?_⟩;simp;omega
theorem LoopP.count2 {X:Type}{F:X×Int→(X×Int→Prop)→Prop}(n:Nat) (J:Nat→X→Prop) {x0:X}(h0:J 0 x0) (hr:∀ (k:Nat) (x:X),k≤n→J k x→∀ q:X×Int→Prop,(∀ x',k<n→J (k+1) x'→q (x',(k:Int)+1))→F (x,(k:Int)) q):LoopP F (x0,0):=by refine⟨fun d=>∃ k:Nat,d.2=k∧k≤n∧J k d.1,fun d=>n-d.2.toNat,⟨0,rfl,Nat.zero_le _,h0⟩,fun ⟨x,d⟩ ⟨k,hd,hk,hJ⟩=>?_⟩;simp only at hd hJ;subst hd;refine hr k x hk hJ _ fun x' ai qF=>⟨⟨k+1,by simp,ai,qF⟩,?_⟩;simp;omega
theorem Qi {α:Type}{l:List α}{k:Nat}{d:α}(h:k<l.length):l.getD k d=l[k]:=by simp[List.getD_eq_getElem?_getD,List.getElem?_eq_getElem h]
theorem J9 {α:Type}{l:List α}{k:Nat}(h:k<l.length):l.take (k+1)=l.take k++[l[k]]:=by rw[List.take_succ_eq_append_getElem h]
section
variable {P:Program}
theorem st1 {S:VSpecs}{d:Nat}{op:VOp}{rest:List VOper}{env:Env}{σ:Heap}{K:Env→Heap→Prop}{v:Value}(hv:∀ K',vop S op env σ K'=QR (Q8 op (Q5 env) σ) fun p=>K' p.1 p.2) (h:Q8 op (Q5 env) σ=some (v,σ)) (hr:H6 S rest (env.set d v) σ K):H6 S (⟨some d,op,none⟩::rest) env σ K:=by show QR (some true) _;refine⟨fun _=>?_,fun e=>by cases e⟩;rw[hv,h];exact hr
theorem YlOk.nil:∀ o y,Ql ([]:List (Nat×YSp)) o=some y→IX P o y:=fun o y h=>by cases h
theorem IysOk.nil:∀ f x,Ql ([]:List (Nat×Q3w)) f=some x→Q3q P f x:=fun f x h=>by cases h
theorem IysOk.cons {f:Nat}{x:Q3w}{l:List (Nat×Q3w)}(h:Q3q P f x) (t:∀ g y,Ql l g=some y→Q3q P g y):∀ g y,Ql ((f,x)::l) g=some y→Q3q P g y:=fun g y hg=>by
 simp only[Ql] at hg;cases hb:Nat.beq f g with
 |true=>rw[hb] at hg;obtain rfl:=Nat.eq_of_beq_eq_true hb;obtain rfl:=osj hg;exact h
 |false=>rw[hb] at hg;exact t g y hg
theorem XsOk.nil:∀ f x,Ql ([]:List (Nat×XSp)) f=some x→XOk P f x:=fun f x h=>by cases h
theorem XsOk.cons {f:Nat}{x:XSp}{l:List (Nat×XSp)}(h:XOk P f x) (t:∀ g y,Ql l g=some y→XOk P g y):∀ g y,Ql ((f,x)::l) g=some y→XOk P g y:=fun g y hg=>by
 simp only[Ql] at hg;cases hb:Nat.beq f g with
 |true=>rw[hb] at hg;obtain rfl:=Nat.eq_of_beq_eq_true hb;obtain rfl:=osj hg;exact h
 |false=>rw[hb] at hg;exact t g y hg
theorem ItsOk.nil:∀ f x,Ql ([]:List (Nat×ISp)) f=some x→Q5s P f x:=fun f x h=>by cases h
theorem ItsOk.cons {f:Nat}{x:ISp}{l:List (Nat×ISp)}(h:Q5s P f x) (t:∀ g y,Ql l g=some y→Q5s P g y):∀ g y,Ql ((f,x)::l) g=some y→Q5s P g y:=fun g y hg=>by
 simp only[Ql] at hg;cases hb:Nat.beq f g with
 |true=>rw[hb] at hg;obtain rfl:=Nat.eq_of_beq_eq_true hb;obtain rfl:=osj hg;exact h
 |false=>rw[hb] at hg;exact t g y hg
def DQ:Ap:=fun _ _=>none
theorem BG:Ot P DQ:=fun _ _ _ _ _ _ _ _ _ h=>by cases h
end
end Go.V
namespace Go.V
open Go
def FL {α:Type}:Nat→α→List α→List α
 |0,x,l=>x::l
 |j+1,x,a::l=>a::FL j x l
 |_+1,x,[]=>[x]
def Sr {α:Type}:Nat→List α→List α
 |0,_::l=>l
 |j+1,a::l=>a::Sr j l
 |_,[]=>[]
def Ek (kk vk:Kind):OB→Option (List (kk.T×vk.T))
 |.map jF lH m=>if h:jF=kk∧lH=vk then some (h.1▸h.2▸m) else none
 |_=>none
abbrev MSp (kk vk:Kind):=Ap→List (kk.T×vk.T)→List SV→List SV→Option (Prop×SV×(List (kk.T×vk.T)→Prop))
def Vy (ap:Ap) (j:Nat) (kk vk:Kind) (sp:MSp kk vk):XSp:=fun _ args s K =>
 match args with
 |a::args=>(match I1 s.own a with
  |some l=>(match l[j]? with
   |some (.map o)=>(match Ek kk vk (Qe s.own o) with
    |some m=>(match sp ap m (BK (oset s.own o .dead) (Sr j l)) (BK (oset s.own o .dead) args) with
     |some (c,v,post)=>bif v.ret 0 then c∧∀ m',post m'→K v ⟨s.env,oset s.own o (.map kk vk m'),s.nx⟩ else False
     |none=>False)
    |none=>False)
   |_=>False)
  |none=>False)
 |[]=>False
def mstart (nt j:Nat) (kk vk:Kind) (m:List (kk.T×vk.T)) (vals:List Value) (cs args:List SV):St:=⟨.cp (FL j (.map 0) cs) 0::(args++List.replicate (nt-(args.length+1)) .any),[(0,.map kk vk m),(4000000,.stk [.map 0] vals)],0⟩
def A7 (vals:List Value) (rs:List VResult) (v:SV) (kk vk:Kind) (post:List (kk.T×vk.T)→Prop):Exit→St→Prop:=fun e s =>
 let fin:=match Kt s rs,Qe s.own 4000000,Ek kk vk (Qe s.own 0) with
  |some r,.stk l vs,some m'=>vs=vals∧Ui [(0,some 0)] [.map 0] l∧BA [] v r∧post m'
  |_,_,_=>False
 match e with
 |.normal=>fin
 |.ret=>fin
 |_=>False
section
variable {P:Program}
theorem HR {kk vk:Kind}{b:OB}{m:List (kk.T×vk.T)}(h:Ek kk vk b=some m):b=.map kk vk m:=by
 unfold Ek at h;split at h
 ·split at h
  ·rename_i e;obtain⟨rfl,rfl⟩:=e;obtain rfl:=osj h;rfl
  ·cases h
 ·cases h
theorem FV:∀ (j:Nat) {l:List SV}{c:List Value}{o:Nat}{B:Heap}{pl:Nat→Value}{tb:Nat→Option Bool},l[j]?=some (.map o)→SRs P B pl tb l c →
  ∃ w,SR P B pl tb (.map o) w∧SRs P B pl tb (Sr j l) (Sr j c)∧∀ (B':Heap) (pl':Nat→Value) (tb':Nat→Option Bool) (l':List SV) (x:SV),SRs P B' pl' tb' l' (Sr j c)→SR P B' pl' tb' x w→SRs P B' pl' tb' (FL j x l') c
 |j,[],c,o,B,pl,tb,h,_=>by simp at h
 |0,a::l,c,o,B,pl,tb,h,hs=>by
  obtain rfl:a=.map o:=by simpa using h
  simp only[SRs] at hs;obtain⟨w,us,rfl,h1,h2⟩:=hs;exact⟨w,h1,h2,fun B' pl' tb' l' x h3 h4=>by simp only[FL,SRs];exact⟨w,us,rfl,h4,h3⟩⟩
 |j+1,a::l,c,o,B,pl,tb,h,hs=>by
  simp only[SRs] at hs;obtain⟨u,us,rfl,h1,h2⟩:=hs;obtain⟨w,g1,g2,g3⟩:=FV j (by simpa using h) h2;refine⟨w,g1,?_,fun B' pl' tb' l' x h3 h4=>?_⟩
  ·simp only[Sr,SRs];exact⟨u,_,rfl,h1,g2⟩
  ·simp only[Sr] at h3
   match l',h3 with
   |[],h3=>simp only[SRs] at h3;cases h3
   |y::l',h3 =>simp only[SRs] at h3;obtain⟨u',lB,e,h5,h6⟩:=h3;obtain⟨rfl,rfl⟩:=List.cons.inj e;simp only[FL,SRs];exact⟨u,us,rfl,h5,g3 B' pl' tb' l' x h6 h4⟩
theorem TQ {f:Nat}{vc:VCode}{rs:List VResult}{nt:Nat}(h:Fun P f vc rs nt) (hm:P.follows .mixedOrders=true) {kk vk:Kind}(b_:(kk.flat&&vk.flat)=true) {sp:MSp kk vk}{ap:Ap}{j:Nat}
  (hb:∀ m cs gZ c v post,sp ap m cs gZ=some (c,v,post)→c→∃ (C:Cx) (L:List Value→List (Nat×LoopAnn)) (cs' je:List SV),SVs.pure cs'=true∧SVs.pure je=true∧(∀ σ vs,SRs P σ Jl ZC cs vs→SRs P σ Jl ZC cs' vs)∧(∀ σ vs,SRs P σ Jl ZC gZ vs→SRs P σ Jl ZC je vs)∧COk P C∧∀ vals,gwp C (L vals) vc 0 (A7 vals rs v kk vk post) (mstart nt j kk vk m vals cs' je)):IH P f (Vy ap j kk vk sp) j:=by
 intro B F pl tb s env σ d args vs K R tt hG ha qp hx hK;unfold Vy at hx;split at hx
 ·rename_i a args;split at hx
  ·rename_i l hl;split at hx
   ·rename_i o fJ;split at hx
    ·rename_i m aN;have aR:=HR aN;split at hx
     ·rename_i c v post gC;cases dF:v.ret 0 with
      |false=>rw[dF] at hx;exact hx.elim
      |true =>
      rw[dF] at hx;obtain⟨hc,hx⟩:=hx;simp only[SRs] at ha;obtain⟨u,us,rfl,o4,dQ⟩:=ha;have uQ:o=tt:=by simpa [Tl,hl,fJ] using qp
      have aC:(Qe s.own o).live=true:=by rw[aR];rfl
      have av:=hG.obj o;rw[aR] at av;obtain⟨id,es,clock,gY,bH,eg⟩:=av;have oi:F.get id=none:=hG.fresh o id aC (by rw[gY];rfl);have qG:B.get id=none:=by
       cases hg:B.get id with
       |none=>rfl
       |some b=>have:=hG.bf.2 _ _ hg;rw[oi] at this;cases this
      obtain⟨i,ce,e,wr,t,uR,ga,aB⟩:∃ i ce e wr t,u=.pointer (some ⟨i,0,none⟩)∧σ.get i=some (.cells ce e wr t)∧SRs P B pl tb l ce:=by
       unfold I1 at hl;split at hl
       ·rename_i o' off;cases bm:Nat.beq off 0 with
        |false=>rw[bm] at hl;cases hl
        |true =>
         rw[bm] at hl;obtain rfl:=Nat.eq_of_beq_eq_true bm;simp only[_root_.cond_true] at hl;split at hl
         ·rename_i l' un bk;obtain rfl:=osj hl;have dT:=hG.obj o';rw[bk] at dT;obtain⟨i,ce,e,t,k1,k2,k3,_⟩:=dT;simp only[SR] at o4;obtain⟨b,q1,q2⟩:=o4;rw[k1] at q1;obtain rfl:i=b:=by simpa using q1
          exact⟨i,ce,e,true,t,q2,k2,k3⟩
         ·cases hl
       ·rename_i l' off;cases bm:Nat.beq off 0 with
        |false=>rw[bm] at hl;cases hl
        |true =>rw[bm] at hl;obtain rfl:=Nat.eq_of_beq_eq_true bm;obtain rfl:=osj hl;simp only[SR] at o4;obtain⟨b,ce,e,wr,t,k1,k2,k3⟩:=o4;exact⟨b,ce,e,wr,t,k2,hG.leB.2 _ _ k1,k3⟩
       ·cases hl
      have aF:i≠id:=by rintro rfl;rw[ga] at bH;cases bH
      obtain⟨w,hw,qH,qI⟩:=FV j fJ aB;simp only[SR] at hw;obtain rfl:w=pl o:=hw.1;obtain⟨C,L,cs',je,ig,fe,pT,uS,iR,hg⟩:=hb _ _ _ c v post gC hc;have hg:=hg [pl o];have uT:oid (pl o)=some id:=by rw[gY];rfl
      let σc:=σ.kill id;have r8:B.Le σc:=hG.leB.kill' qG;have uU:F.Le σc:=hG.le.kill' oi;have qJ:σc.Le σ:=Heap.kill_le _ _;have bN:∀ k,k≠id→σc.get k=σ.get k:=fun k hk=>Heap.get_kill_ne _ hk;have bP:∀ d,OR P σc Jl ZC σc (pl d) ((Qe (oset s.own o .dead) d).kill d)∨True:=fun _=>.inr trivial;have lY:∀ (xs:List SV) (vs:List Value),SRs P B pl tb xs vs→SRs P σc Jl ZC (BK (oset s.own o .dead) xs) vs:=fun xs vs bh=>by
       refine Kj (own:=oset s.own o .dead) r8 (pl:=pl) (tb:=tb) (fun d=>?_) bh;rw[Qo];by_cases e:d=o
       ·rw[if_pos e];trivial
       ·rw[if_neg e];exact(hG.obj d).mono (.refl _) (fun _ _ h=>h) fun hl i hi=>bN _ fun m_=>hG.sep d o i e hl aC hi (by rw[gY,m_];rfl)
      have aD:=uS σc us (lY _ _ dQ);have b6:=pT σc _ (lY _ _ qH);let om:Nat→Value:=fun k=>if k=0 then pl o else poison
      have kF:∀ (B:Heap) (tb':Nat→Option Bool),SR P B om tb' (.map 0) (pl o):=fun B tb'=>by simp only[SR];exact⟨by simp[om],_,gY⟩
      have bI:GRel P σc σc σ (mstart nt j kk vk m [pl o] cs' je) (u::us++List.replicate (nt-(u::us).length) undef) σ:=by
       refine⟨σc,σc,om,ZC,⟨.refl _,.refl _,fun _ _ _ h=>h,.refl _⟩,.refl _,qJ,?_,fun k=>?_,fun k i' h1 h2=>?_,fun k k' i' qK h1 h2 h3 h4=>?_,fun _ _=>rfl⟩
       ·simp only[mstart,SRs,List.cons_append];refine⟨u,_,rfl,?_,?_⟩
        ·simp only[SR];refine⟨i,ce,e,wr,t,by rw[bN i aF];exact ga,uR,qI _ _ _ _ _ (Z5 _ _ ig b6) (kF _ _)⟩
        rw[aD.length,List.length_cons];refine SRs.append ?_ (PL _);exact Z5 _ _ fe aD
       ·simp only[mstart,Qe];by_cases e0:k=0
        ·subst e0;simp only[Nat.beq_refl,_root_.cond_true];exact⟨id,es,clock,by simp[om,gY],bH,eg.mono r8⟩
        ·rw[ZS (fun e=>e0 e.symm),cond_false];by_cases e1:k=4000000
         ·subst e1;simp only[Nat.beq_refl,_root_.cond_true];exact⟨pl o,[],rfl,kF _ _,rfl⟩
         ·rw[ZS (fun e=>e1 e.symm),cond_false];trivial
       ·simp only[mstart,Qe] at h1;by_cases e0:k=0
        ·subst e0;have:Oid (pl o) i':=by simpa [om] using h2
         rw[gY] at this;obtain rfl:id=i':=osj this;exact Heap.get_kill_self _ _
        ·rw[ZS (fun e=>e0 e.symm),cond_false] at h1;by_cases e1:k=4000000
         ·subst e1;cases h1
         ·rw[ZS (fun e=>e1 e.symm),cond_false] at h1;cases h1
       ·have z:∀ k,(Qe (mstart nt j kk vk m [pl o] cs' je).own k).live=true→k=0:=fun k h1=>by
         simp only[mstart,Qe] at h1;by_cases e0:k=0
         ·exact e0
         ·rw[ZS (fun e=>e0 e.symm),cond_false] at h1;by_cases e1:k=4000000
          ·subst e1;cases h1
          ·rw[ZS (fun e=>e1 e.symm),cond_false] at h1;cases h1
        exact qK ((z k h1).trans (z k' h2).symm)
      refine h.calls hm P0 ?_;refine N_ iR vc 0 _ _ _ σ none _ trivial bI hg fun e s' ah σ' h1 h2=>?_
      have main:(match Kt s' rs,Qe s'.own 4000000,Ek kk vk (Qe s'.own 0) with
       |some r,.stk l vs,some m'=>vs=[pl o]∧Ui [(0,some 0)] [.map 0] l∧BA [] v r∧post m'
       |_,_,_=>False)→QR (J4 ah σ' rs) fun v=>∃ v' aL,DropTo σ v σ' v' aL∧R v' aL:=fun h=>by
       obtain⟨B',F',pl',tb',k1,k2⟩:=h2;split at h
       ·rename_i r l' cT m' hr iP uV;obtain⟨rfl,m1,m2,m3⟩:=h;have iv:=HR uV;obtain⟨w,h3,h4⟩:=YN k2 hr;rw[h3];have kG:=k2.obj 4000000;rw[iP] at kG;have qL:pl' 0=pl o:=by
         have:=Z1 [.map 0] l' [pl o] m1 kG;simp only[SRs,SR] at this;obtain⟨u',_,cA,⟨h5,_⟩,_⟩:=this;obtain rfl:pl o=u':=(List.cons.inj cA).1;simpa [Uc,Ql] using h5.symm
        have oo:=k2.obj 0;rw[iv,qL] at oo;have dY:=(Ki v r w m2 h4).retd (B':=B) (pl':=pl) (tb':=tb) (n:=0) (fun j hj=>by omega) _ _ dF;have hle:σc.Le σ':=k1.f.trans k2.le;have kH:∀ d,d≠o→(Qe s.own d).live=true→∀ i,Oid (pl d) i→σ'.get i=σ.get i:=fun d e hl i hi=>by
         have ai:=(hG.obj d).id_lt hl hi;have uW:i≠id:=fun m_=>hG.sep d o i e hl aC hi (by rw[gY,m_];rfl);cases hg:σ.get i with
         |none=>exact k1.d.2 i ai hg
         |some bb=>exact hle.2 _ _ (by rw[bN i uW];exact hg)
        have bT:∀ d,(Qe (oset s.own o (.map kk vk m')) d).live=(Qe s.own d).live:=fun d=>by
         rw[Qo];by_cases e:d=o
         ·subst e;rw[if_pos rfl,aC];rfl
         ·rw[if_neg e]
        refine⟨w,σ',.refl _ _ _,hK v _ w σ' (hx m' m3) k1.d ⟨hG.bf,uU.trans hle,hG.env,fun d=>?_,fun d i q1 q2=>hG.fresh d i (by rw[←bT d];exact q1) q2,fun d d' i aF q1 q2 q3 q4=>hG.sep d d' i aF (by rw[←bT d];exact q1) (by rw[←bT d'];exact q2) q3 q4,hG.free⟩ dY fun q hq=>?_⟩
        ·simp only[Qo];by_cases e:d=o
         ·subst e;rw[if_pos rfl];exact oo.retd b_ fun _ _=>rfl
         ·rw[if_neg e];exact(hG.obj d).mono (.refl _) (fun _ _ h=>h) fun hl i hi=>kH d e hl i hi
        ·have uX:q≠o:=fun e=>hq (by rw[e,uQ];exact List.mem_singleton.2 rfl);exact⟨bT q,rfl,fun hl i hi=>kH q uX hl i hi⟩
       ·exact h.elim
      cases e with
      |normal=>exact main h1
      |ret=>exact main h1
      |_=>exact h1.elim
     ·exact hx.elim
    ·exact hx.elim
   ·exact hx.elim
  ·exact hx.elim
 ·exact hx.elim
theorem Q3c {f:Nat}{kk vk:Kind}{sp:MSp kk vk}{ap:Ap}{j:Nat}(h:IH P f (Vy ap j kk vk sp) j):XOk P f (Vy ap j kk vk sp):=by
 intro B F pl tb s env σ d args vs K R hG ha hx hK;have:∃ t,Tl s.own j args=some t:=by
  unfold Vy at hx;split at hx
  ·rename_i a args;split at hx
   ·rename_i l hl;split at hx
    ·rename_i o fJ;exact⟨o,by simp[Tl,hl,fJ]⟩
    ·exact hx.elim
   ·exact hx.elim
  ·exact hx.elim
 obtain⟨t,ht⟩:=this;exact h B F pl tb s env σ d args vs K R t hG ha ht hx fun v s' u σ' k1 k2 k3 k4 _=>hK v s' B F pl tb u σ' k1 (.of hG.bf k2) k3 k4
def Oa (P:Program) (f:Nat) (x:XSp) (j:Nat):Prop:=XOk P f x∧IH P f x j
theorem XfOk.nil {xs:List (Nat×XSp)}:∀ f j,Ql ([]:List (Nat×Nat)) f=some j→∀ x,Ql xs f=some x→IH P f x j:=fun f j h=>by cases h
theorem XfOk.cons {xs:List (Nat×XSp)}{g k:Nat}{y:XSp}{l:List (Nat×Nat)}(hy:Ql xs g=some y) (h:IH P g y k) (t:∀ f j,Ql l f=some j→∀ x,Ql xs f=some x→IH P f x j):∀ f j,Ql ((g,k)::l) f=some j→∀ x,Ql xs f=some x→IH P f x j:=fun f j hf x hx=>by
 simp only[Ql] at hf;cases hb:Nat.beq g f with
 |true =>rw[hb] at hf;obtain rfl:=Nat.eq_of_beq_eq_true hb;obtain rfl:=osj hf;obtain rfl:=osj (hy.symm.trans hx);exact h
 |false=>rw[hb] at hf;exact t f j hf x hx
theorem Lr {f:Nat}{vc:VCode}{rs:List VResult}{nt:Nat}(h:Fun P f vc rs nt) (hm:P.follows .mixedOrders=true) {kk vk:Kind}(b_:(kk.flat&&vk.flat)=true) {sp:MSp kk vk}{ap:Ap}{j:Nat}
  (hb:∀ m cs gZ c v post,sp ap m cs gZ=some (c,v,post)→c→∃ (C:Cx) (L:List Value→List (Nat×LoopAnn)) (cs' je:List SV),SVs.pure cs'=true∧SVs.pure je=true∧(∀ σ vs,SRs P σ Jl ZC cs vs→SRs P σ Jl ZC cs' vs)∧(∀ σ vs,SRs P σ Jl ZC gZ vs→SRs P σ Jl ZC je vs)∧COk P C∧∀ vals,gwp C (L vals) vc 0 (A7 vals rs v kk vk post) (mstart nt j kk vk m vals cs' je)):Oa P f (Vy ap j kk vk sp) j :=
 ⟨Q3c (TQ h hm b_ hb),TQ h hm b_ hb⟩
def C_ {kk vk:Kind}{E D:Type}(lc:AL E) (la:AL D) (pre:List (kk.T×vk.T)→E→D→Prop) (res:List (kk.T×vk.T)→E→D→SV) (post:List (kk.T×vk.T)→E→D→List (kk.T×vk.T)→Prop):MSp kk vk:=fun ap m cs gZ=>match AL.dec ap lc cs,AL.dec ap la gZ with
 |some c,some a=>some (pre m c a,res m c a,post m c a)
 |_,_=>none
theorem Tu {kk vk:Kind}{E D:Type}{lc:AL E}{la:AL D}{pre:List (kk.T×vk.T)→E→D→Prop}{res:List (kk.T×vk.T)→E→D→SV}{post:List (kk.T×vk.T)→E→D→List (kk.T×vk.T)→Prop}{ap:Ap}{m:List (kk.T×vk.T)}{cs gZ:List SV}{c:Prop}{v:SV}{q:List (kk.T×vk.T)→Prop}
  (h:C_ lc la pre res post ap m cs gZ=some (c,v,q)):∃ x y,AL.dec ap lc cs=some x∧AL.dec ap la gZ=some y∧c=pre m x y∧v=res m x y∧q=post m x y:=by
 unfold C_ at h;split at h
 ·rename_i x y h1 h2;obtain⟨rfl,rfl,rfl⟩:=(by simpa using h:pre m x y=c∧res m x y=v∧post m x y=q);exact⟨x,y,h1,h2,rfl,rfl,rfl⟩
 ·cases h
theorem Bk {f:Nat}{vc:VCode}{rs:List VResult}{nt:Nat}(h:Fun P f vc rs nt) (hm:P.follows .mixedOrders=true) {ap:Ap}(eF:Ot P ap) {kk vk:Kind}(b_:(kk.flat&&vk.flat)=true) {j:Nat}{E D:Type}{lc:AL E}{la:AL D}{pre:List (kk.T×vk.T)→E→D→Prop}{res:List (kk.T×vk.T)→E→D→SV}{post:List (kk.T×vk.T)→E→D→List (kk.T×vk.T)→Prop}{μ:E→D→Nat}
  {C:Cx}(aB:COk P C) (nX:Ql C.xf f=none) {L:List (kk.T×vk.T)→E→D→List Value→List (Nat×LoopAnn)}{V:Nat→List (kk.T×vk.T)→E→D→Prop}
  (hq:∀ n m x y,(∀ vals,gwp {C with xs:=(f,Vy ap j kk vk (C_ lc la (fun m x y=>pre m x y∧μ x y<n) res post))::C.xs} (L m x y vals) vc 0 (A7 vals rs (res m x y) kk vk (post m x y)) (mstart nt j kk vk m vals (AL.can lc x) (AL.can la y)))=V n m x y)
  (hb:∀ n m x y,pre m x y→μ x y=n→V n m x y):Oa P f (Vy ap j kk vk (C_ lc la pre res post)) j:=by
 have r9:∀ (x:XSp) g k,Ql C.xf g=some k→∀ y,Ql ((f,x)::C.xs) g=some y→IH P g y k:=fun x g k hg y hy=>by
  simp only[Ql] at hy;cases hb:Nat.beq f g with
  |true=>obtain rfl:=Nat.eq_of_beq_eq_true hb;rw[nX] at hg;cases hg
  |false=>rw[hb] at hy;exact aB.xf g k hg y hy
 have key:∀ n,Oa P f (Vy ap j kk vk (C_ lc la (fun m x y=>pre m x y∧μ x y<n) res post)) j:=by
  intro n;induction n using Nat.strongRecOn with
  |ind n ih =>refine Lr h hm b_ fun m cs gZ c v q hs hc=>?_;obtain⟨x,y,h1,h2,rfl,rfl,rfl⟩:=Tu hs;obtain⟨hp,hn⟩:=hc;exact⟨{C with xs:=(f,Vy ap j kk vk (C_ lc la (fun m x' y'=>pre m x' y'∧μ x' y'<μ x y) res post))::C.xs},L m x y,AL.can lc x,AL.can la y,AL.can_pure lc x,AL.can_pure la y,fun σ vs hv=>AL.dec_sound eF lc h1 hv,fun σ vs hv=>AL.dec_sound eF la h2 hv,⟨aB.cs,XsOk.cons (ih _ hn).1 aB.xs,aB.it,aB.yl,aB.iy,r9 _⟩,(hq (μ x y) m x y).mpr (hb _ m x y hp rfl)⟩
 refine Lr h hm b_ fun m cs gZ c v q hs hc=>?_;obtain⟨x,y,h1,h2,rfl,rfl,rfl⟩:=Tu hs;exact⟨{C with xs:=(f,Vy ap j kk vk (C_ lc la (fun m x' y'=>pre m x' y'∧μ x' y'<μ x y) res post))::C.xs},L m x y,AL.can lc x,AL.can la y,AL.can_pure lc x,AL.can_pure la y,fun σ vs hv=>AL.dec_sound eF lc h1 hv,fun σ vs hv=>AL.dec_sound eF la h2 hv,⟨aB.cs,XsOk.cons (key (μ x y)).1 aB.xs,aB.it,aB.yl,aB.iy,r9 _⟩,(hq (μ x y) m x y).mpr (hb _ m x y hc rfl)⟩
end
end Go.V
namespace Go.V
open Go
def callV (ap:Ap) (sp:CSp):XSp:=fun d args s K =>
 let s1:=(⟨s.env++args,s.own,s.nx⟩:St).frzs (MP args);let a1:=s1.env.drop s.env.length
 bif SVs.pure a1 then (match sp ap a1 with
  |some (c,v,bs)=>bif v.ret bs.length&&bs.all OB.isL then c∧K (v.ren d 500000) ((⟨s1.env.take s.env.length,s1.own,s1.nx⟩:St).makes d 500000 0 bs) else False
  |none=>False) else False
def pj4 {A B C D E:Type}(x:A×B×C×D×E):E:=x.2.2.2.2
def pj8 {A B C D A' B' C' D' E:Type}(x:A×B×C×D×A'×B'×C'×D'×E):E:=x.2.2.2.2.2.2.2.2
def Q1 {A B C D A' B' C' D' A1 B1 C1 D1 A2 B2 C2 D2 E:Type}(x:A×B×C×D×A'×B'×C'×D'×A1×B1×C1×D1×A2×B2×C2×D2×E):E:=x.2.2.2.2.2.2.2.2.2.2.2.2.2.2.2.2
theorem AO {x:Nat}(h:x<9223372036854775808):IntKind.wrap .i64 (x:Int)=x:=by
 have e:((x:Int) % (18446744073709551616:Int))=x:=by omega
 have:¬ ((x:Int)≥9223372036854775808):=by omega
 show (if (true&&decide ((x:Int) % (18446744073709551616:Int)≥9223372036854775808))=true then (x:Int) % (18446744073709551616:Int)-18446744073709551616 else (x:Int) % (18446744073709551616:Int))=x;simp only[e,this,decide_false,Bool.and_false,Bool.false_eq_true,if_false]
theorem O8 {x y:Nat}(h:x<9223372036854775808):x &&& y<9223372036854775808:=Nat.lt_of_le_of_lt Nat.and_le_left h
theorem FO (x:Nat):BitVec.ofInt 64 (x:Int)=BitVec.ofNat 64 x:=by apply BitVec.eq_of_toNat_eq;simp
theorem toNat_ofInt {x:Nat}(h:x<9223372036854775808):(BitVec.ofInt 64 (x:Int)).toNat=x:=by rw[FO,BitVec.toNat_ofNat,Nat.mod_eq_of_lt (by omega)]
theorem LH {x y:Nat}(hx:x<9223372036854775808) (hy:y<9223372036854775808):JL .and .i64 x y=((x &&& y:Nat):Int):=by
 have e:(BitVec.ofInt 64 (x:Int) &&& BitVec.ofInt 64 (y:Int)).toNat=x &&& y:=by rw[BitVec.toNat_and,toNat_ofInt hx,toNat_ofInt hy]
 show IntKind.wrap .i64 ((BitVec.ofInt 64 (x:Int) &&& BitVec.ofInt 64 (y:Int)).toNat:Int)=_;rw[e,AO (O8 hx)]
theorem Q26 {x i:Nat}(hi:i≤64):RU .i64 x i=((x >>> i:Nat):Int):=by have:Nat.min i 64=i:=Nat.min_eq_left hi;simp only[RU,Int.toNat_natCast,IntKind.bits,this];rw[Nat.shiftRight_eq_div_pow,Int.fdiv_eq_ediv_of_nonneg _ (Int.le_of_lt (Int.pow_pos (by omega)))];norm_cast
theorem Q23 {x i:Nat}(hx:x<9223372036854775808) (hi:i≤64):(JL .and .i64 (RU .i64 x i) 1==1)=x.testBit i:=by have h1:x >>> i<9223372036854775808:=Nat.lt_of_le_of_lt (by rw[Nat.shiftRight_eq_div_pow];exact Nat.div_le_self _ _) hx;rw[Q26 hi,show (1:Int)=((1:Nat):Int) from rfl,LH h1 (by omega),Nat.testBit];rw[Bool.eq_iff_iff];simp only[beq_iff_eq,bne_iff_ne,ne_eq];rw[Nat.and_comm,Nat.one_and_eq_mod_two];omega
end Go.V
namespace Go.Proofs.Tryz
open Go Go.V Go.Proofs
def inI (n a b:Int):Bool:=decide (a≤n)&&decide (n≤b)
def QK (hk:Int) (lw:List Int):Int:=if !inI hk 1 24 then 2 else if 96<lw.length then 5 else if lw.length=0 then 7 else if lw.any (fun x=>!inI x 0 (hk-1)) then 2 else 0
def Q9q (lw a:List Int) (w:Int) (e:Nat):Bool:=lw.getD e 0==lw.getD w.toNat 0&&!(a.contains (e:Int))
def step (lw:List Int) (a:List Int) (w:Int):List Int:=match (List.range lw.length).find? (Q9q lw a w) with
 |some e=>a.set w.toNat e
 |none=>a
def Ib (l:List Int) (p:Int→Bool):Int:=match l.findIdx? p with|some i=>(i:Int)|none=>-1
section
variable {α:Type}(R:α→α→Bool)
def Q3n (a:α):List α→Nat
 |[]=>0
 |x::r=>if R a x then max (Q3n x r+1) (Q3n a r) else Q3n a r
end
def u8s (l:List Int):Prop:=∀ x∈l,0≤x∧x≤255
def Q9l (l:List Int):Prop:=∀ x∈l,0≤x∧x≤65535
def hkN (m h8:Int):Int:=1+Int.tmod h8 m
def Q6 (hk:Int) (cap:Nat) (ws:List Int):List Int:=if ws=[] then [0] else (ws.take cap).map fun x=>Int.tmod x hk
def Qc (hk:Int) (cap:Nat) (rs:List Int):List Int:=if rs=[] then [21 % 2 ^ hk.toNat] else (rs.take cap).map fun x=>x % 2 ^ hk.toNat
def bHk (h8:Int):Int:=hkN 10 h8
def Q5z (h8:Int) (ws:List Int):List Int:=Q6 (bHk h8) 24 ws
def Q8s (h8:Int) (rs:List Int):List Int:=Qc (bHk h8) 8 rs
def Ni (b:Bool):Int:=if b then 120 else 46
def Zk (lw:List Int) (row:Int):List UInt8:=lw.map fun k=>if row.toNat.testBit k.toNat then 120 else 46
def Qb (hd:Int) (rows:List Int):Int:=if !inI hd 1 24 then 2 else if 60<rows.length then 5 else if rows.length=0 then 7 else if rows.any (fun x=>!inI x 0 (2 ^ hd.toNat-1)) then 2 else 0
def Qh (hk:Int) (lw:List Int) (hd:Int) (rows:List Int):Int:=if QK hk lw≠0 then QK hk lw else if Qb hd rows≠0 then Qb hd rows else if hd≠hk then 4 else 0
def Qa (hk:Int) (lw:List Int) (hd:Int) (rows:List Int):List (List UInt8):=if Qh hk lw hd rows=0 then rows.map (Zk lw) else []
theorem DF {hk:Int}{lw:List Int}(h:QK hk lw=0):1≤hk∧hk≤24∧lw.length≤96∧lw.length≠0∧∀ x∈lw,0≤x∧x<hk:=by
 unfold QK at h;split at h
 ·cases h
 ·rename_i h1;split at h
  ·cases h
  ·rename_i h2;split at h
   ·cases h
   ·rename_i h3;split at h
    ·cases h
    ·rename_i h4;have h1:1≤hk∧hk≤24:=by simpa [inI] using h1
     refine⟨h1.1,h1.2,by omega,h3,fun x hx=>?_⟩;have h5:∀ x∈lw,inI x 0 (hk-1)=true:=by simpa using h4
     have:=h5 x hx;simp only[inI,Bool.and_eq_true,decide_eq_true_eq] at this;omega
def MY (r:Int) (n:Nat):List Bool:=(List.range n).map fun k=>r.toNat.testBit k
theorem Pt (r:Int) (n:Nat):(MY r n).length=n:=by simp[MY]
theorem EO {r:Int}{n k:Nat}(h:k<n):(MY r n).getD k false=r.toNat.testBit k:=by rw[Qi (by simpa [MY] using h)];simp[MY]
theorem EK (r:Int) (n:Nat):MY r (n+1)=MY r n++[r.toNat.testBit n]:=by simp[MY,List.range_succ]
def rowAt (rows:List Int) (p:Int):Nat:=(rows.getD (p.toNat % rows.length) 0).toNat
end Go.Proofs.Tryz
namespace Go.Proofs.Tryz
open Go Go.V Go.Proofs
def Jd:AL (List Int×((Int→Prop)×(Int→Bool))):=(.cons (.k (.list (.i .i64))) (.one (.fn [(.i .i64)] .bo)))
def WC (d:List Int×((Int→Prop)×(Int→Bool))):Prop:=d.1.length≤1000000∧∀ x∈d.1,d.2.1 x
def J1 (d:List Int×((Int→Prop)×(Int→Bool))):SV:=.val (.i .i64) (Ib d.1 d.2.2)
def J3 (d:List Int×((Int→Prop)×(Int→Bool))):List OB:=[]
def Zb:CSp:=V0 Jd WC J1 J3
def QG (l:List Int) (p:(Int→Prop)×(Int→Bool)):Prop :=
 ∃ (e2:Unit) (d20:Int),((l=l∧(SV.pf [(.i .i64)] .bo p.1 p.2=SV.pf [(.i .i64)] .bo p.1 p.2)∧(lI l)=(lI l)∧(0:Int)=d20∧True)∧(True)) ∧
 LoopP (fun (d2:Int) (q2:(Int)→Prop) =>
  ((decide (d2<(lI l)))=true →
   (0≤d2)∧(d2<(List.length l))∧(p.1 (gD l d2 0))∧((p.2 (gD l d2 0))=true →
    (d2=(Ib l p.2)∧(True))) ∧
   ((p.2 (gD l d2 0))=false →
    (I64 (d2+(1:Int)))∧(∃ d3:Int,((l=l∧(SV.pf [(.i .i64)] .bo p.1 p.2=SV.pf [(.i .i64)] .bo p.1 p.2)∧(lI l)=(lI l)∧(d2+(1:Int))=d3∧True)∧(True))∧q2 d3))) ∧
  ((decide (d2<(lI l)))=false →
   ((-1:Int)=(Ib l p.2)∧(True)))) d20
def Je:Cx:=⟨[],[],19,[],0,[],[],[],[],false,[],[],[],[]⟩
def Yg (l:List Int) (p:(Int→Prop)×(Int→Bool)):List (Nat×LoopAnn):=[(0,⟨Unit,Int,[0,1,7,8],fun e x=>[.val (.list (.i .i64)) l,.pf [(.i .i64)] .bo p.1 p.2,.val (.i .i64) (((List.length l):Nat):Int),.val (.i .i64) x],fun e x=>[]⟩)]
theorem Y8 (d:List Int×((Int→Prop)×(Int→Bool))):gwp (Je) (Yg d.1 d.2) c91 0 (U0 [.tmp 4] (J1 d) (J3 d)) (QS 19 (AL.can Jd d))=QG d.1 d.2:=by kernel_rfl
abbrev WV:Prop:=OkC Tryz.prog 91 Zb
theorem WX (h:∀ (l:List Int) (p:(Int→Prop)×(Int→Bool)),(l.length≤1000000∧∀ x∈l,p.1 x)→QG l p):OkC Tryz.prog 91 Zb :=
 Z8 Q2a mixed (C:=Je) (V:=fun (d:List Int×((Int→Prop)×(Int→Bool)))=>QG d.1 d.2) ⟨.nil,XsOk.nil,ItsOk.nil,YlOk.nil,IysOk.nil,XfOk.nil⟩ (Y8) fun d hp=>h d.1 d.2 hp
theorem E9 {l:List Int}{p:Int→Bool}{k:Nat}(hk:k<l.length) (h:p l[k]=true) (hJ:(l.take k).any p=false):Ib l p=k:=by
 have:l.findIdx? p=some k:=by rw[List.findIdx?_eq_some_iff_getElem];refine⟨hk,h,fun j hj=>?_⟩;have hn:=List.any_eq_false.1 hJ l[j] (List.mem_take_iff_getElem.2 ⟨j,by omega,rfl⟩);simpa using hn
 simp[Ib,this]
theorem EX {l:List Int}{p:Int→Bool}(hJ:l.any p=false):Ib l p=-1:=by
 have:l.findIdx? p=none:=by rw[List.findIdx?_eq_none_iff];intro x hx;have:=List.any_eq_false.1 hJ x hx;simpa using this
 simp[Ib,this]
theorem SE (l:List Int) (p:Int→Bool):decide (Ib l p≥0)=l.any p:=by
 unfold Ib;cases h:l.findIdx? p with
 |none =>
  have:=List.findIdx?_eq_none_iff.1 h;have:l.any p=false:=by rw[List.any_eq_false];intro x hx;simp[this x hx]
  rw[this];rfl
 |some i =>obtain⟨h1,h2,_⟩:=List.findIdx?_eq_some_iff_getElem.1 h;rw[List.any_eq_true.2 ⟨l[i],List.getElem_mem h1,h2⟩];simp
theorem Yh:WV:=WX fun l p hp=>by
 unfold QG;(try delta lI gD sT I64 Q1 pj8 pj4);simp only[true_and,and_true,eq_self_iff_true,exists_eq_left',exists_const,decide_eq_true_eq,decide_eq_false_iff_not,beq_iff_eq,bne_iff_ne,ne_eq,beq_eq_false_iff_ne,bne_eq_false_iff_eq,Bool.not_eq_true',Bool.not_eq_false',Bool.not_eq_true,Bool.not_eq_false,Int.toNat_natCast,Int.ofNat_lt,gt_iff_lt,ge_iff_le];refine LoopP.count l.length (fun k=>(l.take k).any p.2=false) (by simp) fun k bO hJ q hq=>?_;simp only[true_and,and_true,eq_self_iff_true,exists_eq_left',exists_const,decide_eq_true_eq,decide_eq_false_iff_not,beq_iff_eq,bne_iff_ne,ne_eq,beq_eq_false_iff_ne,bne_eq_false_iff_eq,Bool.not_eq_true',Bool.not_eq_false',Bool.not_eq_true,Bool.not_eq_false,Int.toNat_natCast,Int.ofNat_lt,gt_iff_lt,ge_iff_le,Q9];refine⟨fun ai=>?_,fun bA=>?_⟩
 ·rw[Qi ai];refine⟨by omega,ai,hp.2 _ (List.getElem_mem ai),fun hx=>?_,fun hx=>⟨by omega,hq ai ?_⟩⟩
  ·rw[E9 ai hx hJ]
  ·rw[J9 ai,List.any_append,hJ];simp[hx]
 ·rw[List.take_of_length_le (by omega)] at hJ;rw[EX hJ]
def ZF:AL (List Int×((Int→Prop)×(Int→Bool))):=(.cons (.k (.list (.i .i64))) (.one (.fn [(.i .i64)] .bo)))
def XA (d:List Int×((Int→Prop)×(Int→Bool))):Prop:=d.1.length≤1000000∧∀ x∈d.1,d.2.1 x
def Zu (d:List Int×((Int→Prop)×(Int→Bool))):SV:=.val .bo (d.1.any d.2.2)
def ZA (d:List Int×((Int→Prop)×(Int→Bool))):List OB:=[]
def QA:CSp:=V0 ZF XA Zu ZA
def QQ (l:List Int) (p:(Int→Prop)×(Int→Bool)):Prop :=
 (l.length≤1000000∧∀ x∈l,(fun (x1:Int)=>p.1 x1) x)∧((decide ((Ib l (fun (x1:Int)=>(p.2 x1)))≥(0:Int)))=(l.any p.2)∧(True))
def ZG:Cx:=⟨[],[(91,Zb)],9,[],0,[],[],[],[],false,[],[],[],[]⟩
def XU (l:List Int) (p:(Int→Prop)×(Int→Bool)):List (Nat×LoopAnn):=[]
theorem W4 (d:List Int×((Int→Prop)×(Int→Bool))):gwp (ZG) (XU d.1 d.2) c63 0 (U0 [.tmp 4] (Zu d) (ZA d)) (QS 9 (AL.can ZF d))=QQ d.1 d.2:=by kernel_rfl
abbrev XY:Prop:=OkC Tryz.prog 63 QA
theorem W7 (h:∀ (l:List Int) (p:(Int→Prop)×(Int→Bool)),(l.length≤1000000∧∀ x∈l,p.1 x)→QQ l p):OkC Tryz.prog 63 QA :=
 Z8 Q1b mixed (C:=ZG) (V:=fun (d:List Int×((Int→Prop)×(Int→Bool)))=>QQ d.1 d.2) ⟨(.cons Yh .nil),XsOk.nil,ItsOk.nil,YlOk.nil,IysOk.nil,XfOk.nil⟩ (W4) fun d hp=>h d.1 d.2 hp
theorem ZE:XY:=W7 fun l p hp=>by exact⟨hp,SE l p.2,trivial⟩
def Vn:AL (Int×Int×Int):=(.cons (.k (.i .i64)) (.cons (.ptr (.one (.k (.i .i64)))) (.one (.ptr (.one (.k (.i .i64)))))))
def GG (d:Int×Int×Int):Prop:=True
def KD (d:Int×Int×Int):SV:=.val .bo (decide (d.1<d.2.1)||decide (d.2.2<d.1))
def KR (d:Int×Int×Int):List OB:=[]
def YU:CSp:=V0 Vn GG KD KR
def Yb (n:Int) (a:Int) (b:Int):Prop :=
 (((decide (n<a))||(decide (n > b)))=(decide (n<a)||decide (b<n))∧(True))
def V9:Cx:=⟨[],[],13,[],0,[],[],[],[],false,[],[],[],[]⟩
def Bg (n:Int) (a:Int) (b:Int):List (Nat×LoopAnn):=[]
theorem Bp (d:Int×Int×Int):gwp (V9) (Bg d.1 d.2.1 d.2.2) c64 0 (U0 [.tmp 4] (KD d) (KR d)) (QS 13 (AL.can Vn d))=Yb d.1 d.2.1 d.2.2:=by kernel_rfl
abbrev Bn:Prop:=OkC Tryz.prog 64 YU
theorem Bz (h:∀ (n:Int) (a:Int) (b:Int),(True)→Yb n a b):OkC Tryz.prog 64 YU :=
 Z8 Q0v mixed (C:=V9) (V:=fun (d:Int×Int×Int)=>Yb d.1 d.2.1 d.2.2) ⟨.nil,XsOk.nil,ItsOk.nil,YlOk.nil,IysOk.nil,XfOk.nil⟩ (Bp) fun d hp=>h d.1 d.2.1 d.2.2 hp
theorem DX:Bn:=Bz fun n a b _=>by exact⟨rfl,trivial⟩
def Mf:AL (Int×Int×List Int):=(.cons (.k (.i .i64)) (.cons (.k (.i .i64)) (.one (.k (.list (.i .i64))))))
def BO (d:Int×Int×List Int):Prop:=d.2.2.length≤1000000
def UJ (d:Int×Int×List Int):SV:=.val .bo (!(d.2.2.any fun n=>decide (n<d.1)||decide (d.2.1<n)))
def UI (d:Int×Int×List Int):List OB:=[]
def W8:CSp:=V0 Mf BO UJ UI
def Ky (a:Int) (b:Int) (l:List Int):Prop :=
 (l.length≤1000000∧∀ x∈l,(fun (x1:Int)=>True) x)∧((!(l.any (fun (x1:Int)=>(decide (x1<a)||decide (b<x1)))))=(!(l.any fun n=>decide (n<a)||decide (b<n)))∧(True))
def NR:Cx:=⟨[],[(63,QA),(64,YU)],11,[],0,[],[],[],[],false,[],[],[],[]⟩
def T6 (a:Int) (b:Int) (l:List Int):List (Nat×LoopAnn):=[]
theorem T4 (d:Int×Int×List Int):gwp (NR) (T6 d.1 d.2.1 d.2.2) c38 0 (U0 [.tmp 6] (UJ d) (UI d)) (QS 11 (AL.can Mf d))=Ky d.1 d.2.1 d.2.2:=by kernel_rfl
abbrev T0:Prop:=OkC Tryz.prog 38 W8
theorem Pk (h:∀ (a:Int) (b:Int) (l:List Int),(l.length≤1000000)→Ky a b l):OkC Tryz.prog 38 W8 :=
 Z8 Q2g mixed (C:=NR) (V:=fun (d:Int×Int×List Int)=>Ky d.1 d.2.1 d.2.2) ⟨(.cons ZE (.cons DX .nil)),XsOk.nil,ItsOk.nil,YlOk.nil,IysOk.nil,XfOk.nil⟩ (T4) fun d hp=>h d.1 d.2.1 d.2.2 hp
theorem Kz:T0:=Pk fun a b l h=>by exact⟨⟨h,fun _ _=>trivial⟩,rfl,trivial⟩
def G4:AL (Int×List Int):=(.one (.agg (.cons (.k (.i .i64)) (.one (.k (.list (.i .i64)))))))
def PS (d:Int×List Int):Prop:=d.2.length≤1000000
def NP (d:Int×List Int):SV:=.val (.i .i64) (QK d.1 d.2)
def Mi (d:Int×List Int):List OB:=[]
def Kp:CSp:=V0 G4 PS NP Mi
def Yt (hk:Int) (lw:List Int):Prop :=
 ([hk].length≤1000000)∧((!(!([hk].any fun n=>decide (n<(1:Int))||decide ((24:Int)<n))))=true →
  ((2:Int)=(QK hk lw)∧(True))) ∧
 ((!(!([hk].any fun n=>decide (n<(1:Int))||decide ((24:Int)<n))))=false →
  ((decide ((lI lw) > (96:Int)))=true →
   ((5:Int)=(QK hk lw)∧(True))) ∧
  ((decide ((lI lw) > (96:Int)))=false →
   (((lI lw)==(0:Int))=true →
    ((7:Int)=(QK hk lw)∧(True))) ∧
   (((lI lw)==(0:Int))=false →
    (I64 (hk-(1:Int)))∧(lw.length≤1000000)∧((!(!(lw.any fun n=>decide (n<(0:Int))||decide ((hk-(1:Int))<n))))=true →
     ((2:Int)=(QK hk lw)∧(True))) ∧
    ((!(!(lw.any fun n=>decide (n<(0:Int))||decide ((hk-(1:Int))<n))))=false →
     ((0:Int)=(QK hk lw)∧(True))))))
def G8:Cx:=⟨[(3,(.i .i64))],[(38,W8)],27,[],0,[],[],[],[],false,[],[],[],[]⟩
def TM (hk:Int) (lw:List Int):List (Nat×LoopAnn):=[]
theorem Tz (d:Int×List Int):gwp (G8) (TM d.1 d.2) c37 0 (U0 [.tmp 2] (NP d) (Mi d)) (QS 27 (AL.can G4 d))=Yt d.1 d.2:=by kernel_rfl
abbrev RF:Prop:=OkC Tryz.prog 37 Kp
theorem TA (h:∀ (hk:Int) (lw:List Int),(lw.length≤1000000)→Yt hk lw):OkC Tryz.prog 37 Kp :=
 Z8 Q2f mixed (C:=G8) (V:=fun (d:Int×List Int)=>Yt d.1 d.2) ⟨(.cons Kz .nil),XsOk.nil,ItsOk.nil,YlOk.nil,IysOk.nil,XfOk.nil⟩ (Tz) fun d hp=>h d.1 d.2 hp
theorem nI (n a b:Int):(!inI n a b)=(decide (n<a)||decide (b<n)):=by simp only[inI,Bool.not_and];by_cases h1:a≤n<;>by_cases h2:n≤b<;>simp[h1,h2]<;>omega
theorem Gh:RF:=TA fun hk lw hl=>by
 unfold Yt;(try delta lI gD sT I64 Q1 pj8 pj4);simp only[true_and,and_true,eq_self_iff_true,exists_eq_left',exists_const,decide_eq_true_eq,decide_eq_false_iff_not,beq_iff_eq,bne_iff_ne,ne_eq,beq_eq_false_iff_ne,bne_eq_false_iff_eq,Bool.not_eq_true',Bool.not_eq_false',Bool.not_eq_true,Bool.not_eq_false,Int.toNat_natCast,Int.ofNat_lt,gt_iff_lt,ge_iff_le,Bool.not_not];simp only[←nI];refine⟨by simp,fun h1=>by simp at h1;simp[QK,h1],fun h1=>⟨fun h2=>?_,fun h2=>⟨fun h3=>?_,fun h3=>?_⟩⟩⟩;all_goals simp only[List.any_cons,List.any_nil,Bool.or_false,Bool.not_eq_false'] at h1
 ·have:96<lw.length:=by omega
  simp[QK,h1,this]
 ·have h3:lw.length=0:=by omega
  simp[QK,h1,h3]
 have gW:¬ 96<lw.length:=by omega
 have gX:¬ lw.length=0:=by omega
 have hi:1≤hk∧hk≤24:=by simpa [inI] using h1
 have qM:QK hk lw=if lw.any (fun x=>!inI x 0 (hk-1)) then 2 else 0:=by simp only[QK,h1,gW,gX];simp
 rw[qM];simp only[Q9];refine⟨by omega,by omega,fun h=>by rw[if_pos h],fun h=>by rw[h];rfl⟩
end Go.Proofs.Tryz
namespace Go.V
open Go
theorem Ob {P:Program}{σ:Heap}:Ret P σ (.val .bo true) [] (.bool true) σ :=
 ⟨⟨.refl _,Dead.refl _⟩,fun _=>rfl,Jl,fun j b hj=>by simp at hj,fun j j' i hj=>by simp at hj,by simp[SR,KC]⟩
theorem IJ {P:Program}{f:Nat}(h:∀ (σ:Heap) (K:Value→Heap→Prop),K (.bool true) σ→VCalled P f [] σ K):OkC P f (V0 (.nil:AL Unit) (fun _=>True) (fun _=>.val .bo true) (fun _=>[])):=by
 intro ap eF σ args vs c v bs aD hs hv cn hc;unfold V0 at hs;split at hs
 ·rename_i d hd;obtain⟨rfl,rfl,rfl⟩:=(by simpa using hs:True=c∧SV.val .bo true=v∧[]=bs);have:vs=[]:=by
   cases args with
   |nil=>simpa [SRs] using aD
   |cons a l=>simp[AL.dec] at hd
  subst this;refine⟨h σ _ Ob,fun _ _=>h σ _ ⟨rfl,?_⟩⟩;unfold BP;cases σ;simp only[List.length_nil,Nat.add_zero,List.getElem?_nil,Option.bind_none,Heap.mk.injEq,and_true];funext i;split
  ·rfl
  ·rename_i wf hi;exact wf i (by simpa using hi)
 ·cases hs
end Go.V
namespace Go.V
open Go Go.ChangeShapes Go.WideShapes Go.RowKit Go.Deep Go.Joins
def Heap.RO (σ:Heap):Prop:=∀ i b,σ.get i=some b→b.wr=false
structure View (w:World) (ρ:Plc) (σ:Heap):Prop where
 rel:HRel ρ σ w
 ro:σ.RO
structure More (ρ:Plc) (σ:Heap) (ρ':Plc) (σ':Heap):Prop where
 n:σ.n≤σ'.n
 pl:∀ i,i<σ.n→∀ p,ρ' i=some p→ρ i=some p
 ag:Agree σ σ'
theorem More.refl (ρ:Plc) (σ:Heap):More ρ σ ρ σ:=⟨Nat.le_refl _,fun _ _ _ h=>h,Agree.refl _⟩
theorem More.trans {ρ ρ' eJ:Plc}{σ σ' aL:Heap}(h:More ρ σ ρ' σ') (k:More ρ' σ' eJ aL):More ρ σ eJ aL :=
 ⟨Nat.le_trans h.n k.n,fun i hi p hp=>h.pl i hi p (k.pl i (Nat.lt_of_lt_of_le hi h.n) p hp),h.ag.trans k.ag h.n⟩
def Q9k (w:World):Prop:=∀ g cs,Ii g=some cs→∃ e f,w.heap[g]?=some (.cells cs.toArray e f)
theorem View.emptyT (w:World) (ht:Q9k w):View w (fun _=>none) Heap.empty where
 rel:=⟨⟨fun i b h=>(by cases h),fun _ _=>rfl,fun i p h=>(by cases h),fun i j p q b _ h=>(by cases h)⟩,fun g cs hg=>⟨ht g cs hg,fun ⟨_,_,_,h,_⟩=>by cases h⟩⟩
 ro:=fun i b h=>by cases h
theorem View.add {w:World}{ρ:Plc}{σ:Heap}(h:View w ρ σ) (p:Pl) (c:List Value) {C:Array Value}{e:TypeId}{f:Nat×Nat}(hb:w.heap[p.blk]?=some (.cells C e f)) (hs:p.shift+p.ext≤C.size) (hl:c.length≤p.ext) (ht:e=p.esz.ty)
  (hc:∀ (k:Nat) (v:Value),c[k]?=some v→∃ u,w.cell? ⟨p.blk,p.shift+k,none⟩=some u∧VRel ρ σ.n v u) :
  View w (ρ.put σ.n (some p)) (σ.push (.cells c p.esz false p.tight))∧More ρ σ (ρ.put σ.n (some p)) (σ.push (.cells c p.esz false p.tight)):=by
 have aO:∀ i,i<σ.n→∀ q,(ρ.put σ.n (some p)) i=some q→ρ i=some q:=fun i hi q hq=>by unfold Plc.put at hq;rwa [if_neg (by omega)] at hq
 have bP:(σ.push (.cells c p.esz false p.tight)).RO:=fun i b hi=>by
  by_cases e:i=σ.n
  ·subst e;rw[Heap.get_push_self] at hi;obtain rfl:=osj hi;rfl
  ·rw[Heap.get_push_ne _ _ e] at hi;exact h.ro i b hi
 refine⟨⟨⟨⟨?_,?_,?_,?_⟩,fun g cs hg=>⟨(h.rel.tab g cs hg).1,fun ⟨i,_,b,_,hi,hw,_⟩=>by rw[bP i b hi] at hw;cases hw⟩⟩,bP⟩,⟨by simp,aO,fun i hi=>Heap.get_push_lt _ _ hi⟩⟩
 ·intro i b hi;by_cases aP:i=σ.n
  ·subst aP;rw[Heap.get_push_self] at hi;obtain rfl:=osj hi;refine⟨p,by simp[Plc.put],rfl,rfl,hl,⟨C,e,f,hb,hs,ht⟩,fun k v hk=>?_,fun h=>by cases h⟩;obtain⟨u,hu,hv⟩:=hc k v hk;exact⟨u,hu,hv.mono (by simp) aO⟩
  ·rw[Heap.get_push_ne _ _ aP] at hi;obtain⟨q,hq,hB⟩:=h.rel.live i b hi;exact⟨q,by simp[Plc.put,aP,hq],hB.mono (by simp) aO rfl⟩
 ·intro i hi;by_cases aP:i=σ.n
  ·subst aP;rw[Heap.get_push_self] at hi;cases hi
  ·rw[Heap.get_push_ne _ _ aP] at hi;simp[Plc.put,aP,h.rel.dead i hi]
 ·intro i q hq;by_cases aP:i=σ.n
  ·subst aP;simp[Plc.put] at hq;subst hq;exact(Array.getElem?_eq_some_iff.1 hb).1
  ·simp[Plc.put,aP] at hq;exact h.rel.lt i q hq
 ·intro i j q r b _ _ _ cr hw _;rw[bP i b cr] at hw;cases hw
theorem E8 {P:Program}{fits:TypeId→Bool}{d:Nat}{e:TypeId}{count off n:Nat}(h:rowAt P fits d e count off n=true):off≤count*P.cellsOf e:=by
 cases d with
 |zero=>cases h
 |succ d =>
  unfold rowAt at h;by_cases hs:P.cellsOf e=0
  ·simp[hs] at h
  ·have eM:0<P.cellsOf e:=Nat.pos_of_ne_zero hs;simp only[hs,if_false,Bool.or_eq_true,Bool.and_eq_true,beq_iff_eq,decide_eq_true_eq] at h;have hd:=Nat.div_add_mod off (P.cellsOf e);have hm:=Nat.mod_lt off eM;rcases h with⟨⟨h1,h2⟩,_⟩|⟨h1,_⟩
   ·have:P.cellsOf e*(off / P.cellsOf e)≤P.cellsOf e*count:=Nat.mul_le_mul_left _ (by omega);rw[Nat.mul_comm count];omega
   ·have:P.cellsOf e*(off / P.cellsOf e+1)≤P.cellsOf e*count:=Nat.mul_le_mul_left _ (by omega);rw[Nat.mul_add] at this;rw[Nat.mul_comm count];omega
theorem HB {P:Program}:∀ {d:Nat}{e:TypeId}{count off:Nat}{u:TypeId}{n:Nat},liesAt P d e count off u n=true→off≤count*P.cellsOf e
 |0,_,_,_,_,_,h=>by cases h
 |d+1,e,count,off,u,n,h=>by
  unfold liesAt at h;rw[Bool.or_eq_true] at h;rcases h with h|h
  ·exact E8 h
  ·split at h
   ·exact HB h
   ·cases h
theorem F6 {P:Program}{w:World}{r:Reach}{base:Nat}{a:Addr}{e:TypeId}{n:Nat}(h:w.has P r base a e n):∃ C row f,w.heap[a.block]?=some (.cells C row f)∧a.off≤C.size∧a.spot=none:=by
 obtain⟨_,hs,row,cells,eQ,hl⟩:=h;unfold World.shape? at eQ;split at eQ
 ·rename_i C e' f hb;obtain⟨rfl,rfl⟩:=(by simpa using eQ:e'=row∧C.size=cells);exact⟨C,e',f,hb,Nat.le_trans (HB hl) (Nat.div_mul_le_self _ _),hs⟩
 ·cases eQ
theorem TC {P:Program}{w:World}{r:Reach}{base:Nat}{t e:TypeId}{v:Value}(ht:P.underlying t=some (.slice e)) (h:Cell.okWide P w r base t v) :
  v=.slice none 0 0∨∃ a len cap,v=.slice (some a) len cap∧w.has P r base a e cap:=by
 unfold Cell.okWide at h;rw[ht] at h;have h':Cell.ok P w r base t v:=by split at h<;>first|exact h|simp_all
 unfold Cell.ok at h';rw[ht] at h';split at h'<;>first|exact .inl rfl|(cases h';done)|skip
 all_goals first|(rename_i h1 h2;simp_all;done)|skip
 all_goals first|(simp_all;exact⟨_,_,_,⟨rfl,rfl,rfl⟩,h'.2.2⟩)|(simp_all)
theorem Q6a {k:IntKind}{x:Int}(h:(Lit.int k x).wf=true):k.min≤x∧x≤k.max:=by simpa [Lit.wf] using h
theorem View.calls {P:Program}{f:FuncId}{w:World}{ρ:Plc}{σ:Heap}(h:View w ρ σ) {args:List Value}{az:Array Value}(hl:LRel ρ σ.n args az.toList) (hc:VCallsTo P f args σ fun v _=>v=.bool true) :
  Calls P f az w fun e w'=>e=.returned (.bool true)∧Below w.heap.size w w':=by
 refine (hc ρ w az h.rel hl).mono fun e w' ⟨c,he,v,ρ',σ',hv,hr,_,hx⟩=>?_;subst hv;have:c=.bool true:=by cases hr;rfl
 subst this;exact⟨he,hx.os,hx.tape,hx.output,hx.size,fun B hB=>hx.keep B hB fun ⟨i,p,b,_,hi,hw,_⟩=>by rw[h.ro i b hi] at hw;cases hw⟩
theorem M8 {H:Type}{enc:TypeId×Value→H}{P:Program}(hl:laidOutB P=true) {W W':World}{sp:Nat→Bool}(hb:Below W.heap.size W W') :
  ∀ {ts:List TypeId}{vs:List Value}{ds:List (DataW H)}{ps:List MemPlace},(∀ t∈ts,P.readableRec t=true∧t<P.types.size)→DataW.TrodAll enc P W 0 (fun _=>true) true ts vs ds ps→(∀ p∈ps,p.block<W.heap.size)→(∀ p∈ps,sp p.block=true) →
   DataW.TrodAll enc P W' 0 sp true ts vs ds ps
 |[],vs,ds,ps,_,h,_,_=>by obtain⟨rfl,rfl,rfl⟩:=trodAll_nil h;rfl
 |t::ts,vs,ds,ps,ht,h,ai,hs=>by
  obtain⟨v,cT,d,ds',p,q,rfl,rfl,rfl,h1,h2⟩:=trodAll_cons h;obtain⟨r1,r2⟩:=ht t (by simp);exact⟨p,q,WideElems.Trod_stays hl r1 r2 h1 (fun x hx=>hb.same (ai x (by simp[hx]))) (fun x hx=>hs x (by simp[hx])),
   M8 hl hb (fun t mb=>ht t (by simp[mb])) h2 (fun x hx=>ai x (by simp[hx])) (fun x hx=>hs x (by simp[hx])),rfl⟩
theorem I6 {H:Type}{enc:TypeId×Value→H}{P:Program}{f:Func}{s:ChangeSpec}{apart fresh handsOn again:Bool}{W W':World}{args:Array Value}{ds gs:List (DataW H)}{before:List MemPlace}{tb:TypeId}
  (hl:laidOutB P=true) (hp:f.params.toList.all (fun t=>P.readableRec t&&decide (t<P.types.size))=true) (kI:s.vars=[]) (hr:f.resultTypes=#[tb]) (bC:P.underlying tb=some .bool) (hs:s.fn H ds={results:=[.lit (.bool true)],args:=ds})
  (hW:DataW.Whole enc P f.params.toList s.vars apart W args.toList ds gs before) (hb:Below W.heap.size W W'):s.post enc P f apart fresh handsOn again W args (.bool true) W':=by
 have ai:∀ p∈before,p.block<W.heap.size:=fun p hp=>hW.lt p hp;have uY:=hW;obtain⟨p,q,hA,hV,rfl,hz,hn⟩:=hW;rw[kI] at hV;obtain⟨rfl,rfl⟩:=trodVars_none hV;have bE:∀ t∈f.params.toList,P.readableRec t=true∧t<P.types.size:=fun t ht=>by have:=List.all_eq_true.1 hp t ht;simpa using this
 have eX:s.fn H (ds++[])={results:=[.lit (.bool true)],args:=ds}:=by rw[List.append_nil];exact hs
 have dY:∀ (b:Nat) (sp:Nat→Bool) (hd:Bool),DataW.TrodAll enc P W' b sp hd f.resultTypes.toList ((Value.bool true).resultList f.resultTypes.size) (s.fn H (ds++[])).results []:=fun b sp hd=>by rw[eX,hr];exact trodAll_mk1 (shut_bool bC _)
 have aD:∀ sp:Nat→Bool,(∀ x∈p++[],sp x.block=true)→DataW.TrodAll enc P W' 0 sp true f.params.toList args.toList (s.fn H (ds++[])).args p:=fun sp gC=>by rw[eX];exact M8 hl hb bE hA (fun x hx=>ai x (by simp[hx])) (fun x hx=>gC x (by simp[hx]))
 have cD:∀ sp:Nat→Bool,DataW.TrodVars enc P W' sp s.vars (s.fn H (ds++[])).vars []:=fun sp=>by rw[eX,kI];rfl
 have hold:∀ x∈p++[],(fun b=>decide (b<W.heap.size)) x.block=true:=fun x hx=>by simpa using ai x hx
 refine⟨ds,[],p++[],[],p,[],uY,dY _ _ _,aD _ hold,cD _,World.keptBut_mono (fun x hx=>⟨hx,?_⟩) (hb.frame (·∈p++[])),fun _=>?_⟩
 ·exact .inr (by simpa using hx)
 ·refine⟨ok_one hr rfl (okWide_bool_mk bC _),_,_,([]++p)++[],⟨[]++p,[],trodAll_append (aD _ (fun _ _=>rfl)) (dY _ _ _),cD _,rfl,?_,?_⟩,?_⟩
  ·intro b off hx;have aP:MemPlace.cell b off∈p++[]:=by simpa using hx
   rw[hb.frozen (ai _ aP)];exact hz b off aP
  ·intro ha;simpa using hn ha
  ·intro x hx _;simpa using hx
def KFs (T:Kind→TypeId→Bool) (sz:TypeId→Nat):Kind→List (TypeId×Nat)→Nat→Bool
 |_,[],_=>false
 |k,[p],off=>p.2==off&&(sz p.1==k.size&&T k p.1)
 |.pair a b,p::q::r,off=>p.2==off&&(sz p.1==a.size&&(T a p.1&&KFs T sz b (q::r) (off+a.size)))
 |_,_::_::_,_=>false
def KTy (P:Program):Nat→Kind→TypeId→Bool
 |0,_,_=>false
 |n+1,k,t=>match P.underlying t with
  |some (.struct fs)=>P.cellsOf t==k.size&&KFs (KTy P n) P.cellsOf k (fs.toList.map fun f=>(f.type,f.offset)) 0
  |some (.array m e)=>P.cellsOf t==k.size&&KFs (KTy P n) P.cellsOf k ((List.range m).map fun i=>(e,i*P.cellsOf e)) 0
  |some (.int ik)=>(match k with|.i k'=>decide (k'=ik)|_=>false)
  |some .bool=>(match k with|.bo=>true|_=>false)
  |some .string=>(match k with|.st=>true|_=>false)
  |some (.slice e)=>(match k with|.list k'=>P.cellsOf e==k'.size&&(k'.flat&&KTy P n k' e)|_=>false)
  |_=>false
def KWf:(k:Kind)→k.T→Prop
 |.i ik,x=>InK ik x
 |.bo,_=>True
 |.st,s=>s.length≤maxLen
 |.list k,l=>l.length≤maxLen∧∀ x∈l,KWf k x
 |.pair a b,x=>KWf a x.1∧KWf b x.2
theorem More.le {ρ ρ':Plc}{σ σ':Heap}(h:More ρ σ ρ' σ'):σ.Le σ':=⟨h.n,fun i b hb=>by rw[h.ag i (σ.lt hb)];exact hb⟩
def ArgIs (w:World) (ρ:Plc) (σ:Heap) (k:Kind) (cs:List Value):Prop :=
 ∃ ρ' σ' vs x,View w ρ' σ'∧More ρ σ ρ' σ'∧LRel ρ' σ'.n vs cs∧KC σ' k x vs∧KWf k x
theorem ArgIs.pair {w:World}{ρ:Plc}{σ:Heap}{a b:Kind}{cs ds:List Value}(h1:ArgIs w ρ σ a cs) (h2:∀ ρ σ,View w ρ σ→ArgIs w ρ σ b ds):ArgIs w ρ σ (.pair a b) (cs++ds):=by obtain⟨ρ1,σ1,r_,x1,k1,k2,k3,k4,k5⟩:=h1;obtain⟨ρ2,σ2,ku,x2,m1,m2,m3,m4,m5⟩:=h2 ρ1 σ1 k1;exact⟨ρ2,σ2,r_++ku,(x1,x2),m1,k2.trans m2,(k3.mono m2.n m2.pl).append m3,⟨r_,ku,rfl,k4.mono m2.le,m4⟩,k5,m5⟩
section
variable {H:Type}{enc:TypeId×Value→H}{P:Program}{w:World}{r:Reach}{base:Nat}
def okc (P:Program) (w:World) (r:Reach) (base:Nat) (ts:List TypeId) (cs:List Value):Prop:=∀ (i:Nat) v u,cs[i]?=some v→ts[i]?=some u→Cell.okWide P w r base u v
theorem SN {T:Kind→TypeId→Bool}{sz:TypeId→Nat}{g:TypeId→Option (List TypeId)}(hT:∀ k t ts,T k t=true→g t=some ts→ts.length=k.size) :
  ∀ {k:Kind}{L:List (TypeId×Nat)}{off:Nat}{g7:List (List TypeId)},KFs T sz k L off=true→L.mapM (fun p=>g p.1)=some g7→g7.flatten.length=k.size
 |k,[],_,_,h,_=>by simp[KFs] at h
 |k,[p],off,g7,h,hm=>by
  simp only[KFs,Bool.and_eq_true] at h;cases hg:g p.1 with
  |none=>simp[hg] at hm
  |some ts =>simp[hg] at hm;subst hm;simpa using hT _ _ _ h.2.2 hg
 |.pair a b,p::q::r,off,g7,h,hm=>by
  simp only[KFs,Bool.and_eq_true] at h;rw[List.mapM_cons] at hm;cases hg:g p.1 with
  |none=>simp[hg] at hm
  |some ts =>
   cases hr:(q::r).mapM (fun p=>g p.1) with
   |none=>simp[hg,hr] at hm
   |some tr =>simp[hg,hr] at hm;subst hm;have:=SN hT h.2.2.2 hr;simp only[List.flatten_cons,List.length_append,this,hT _ _ _ h.2.2.1 hg,Kind.size]
 |.i _,_::_::_,_,_,h,_|.bo,_::_::_,_,_,h,_|.st,_::_::_,_,_,h,_|.list _,_::_::_,_,_,h,_=>by cases h
theorem Mo {α β γ:Type}{f:α→β}{g:β→Option γ}:∀ (l:List α),(l.map f).mapM g=l.mapM (fun x=>g (f x))
 |[]=>rfl
 |a::l=>by simp only[List.map_cons,List.mapM_cons,Mo l]
theorem Mr {β:Type}{x:β}{f:Nat→Option β}(h:∀ i,f i=some x):∀ l:List Nat,l.mapM f=some (List.replicate l.length x)
 |[]=>rfl
 |a::l=>by simp[List.mapM_cons,h,Mr h l,List.replicate_succ]
theorem Sk:∀ {n:Nat}{k:Kind}{t:TypeId}{d:Nat}{ts:List TypeId},KTy P n k t=true→P.cellTypes d t=some ts→ts.length=k.size
 |0,_,_,_,_,h,_=>by cases h
 |_+1,_,_,0,_,_,h=>by cases h
 |n+1,k,t,d+1,ts,h,ht=>by
  have ih:∀ k t ts,KTy P n k t=true→P.cellTypes d t=some ts→ts.length=k.size:=fun k t ts h1 h2=>Sk h1 h2;unfold Program.cellTypes at ht;unfold KTy at h;cases hu:P.underlying t with
  |none=>rw[hu] at h;cases h
  |some u =>
   rw[hu] at h ht;cases u<;>first|(cases h;done)|skip
   all_goals simp only at h ht
   ·split at h<;>first|(cases h;done)|(obtain rfl:=osj ht;rfl)
   ·split at h<;>first|(cases h;done)|(obtain rfl:=osj ht;rfl)
   ·split at h<;>first|(cases h;done)|(obtain rfl:=osj ht;rfl)
   ·split at h<;>first|(cases h;done)|(obtain rfl:=osj ht;rfl)
   ·rename_i m e;rw[Bool.and_eq_true] at h;cases hc:P.cellTypes d e with
    |none=>rw[hc] at ht;cases ht
    |some te =>rw[hc] at ht;obtain rfl:=osj ht;refine SN (g:=fun t=>P.cellTypes d t) ih h.2 ?_;rw[Mo,Mr (x:=te) (fun _=>hc)];simp
   ·rename_i fs;rw[Bool.and_eq_true] at h;cases hc:fs.toList.mapM fun f=>P.cellTypes d f.type with
    |none=>rw[hc] at ht;cases ht
    |some g7 =>rw[hc] at ht;obtain rfl:=osj ht;refine SN (g:=fun t=>P.cellTypes d t) ih h.2 ?_;rw[Mo];exact hc
theorem Md {T:Kind→TypeId→Bool}{sz:TypeId→Nat}{Q:TypeId→List Value→Prop}{R:Kind→List Value→Prop}(hT:∀ k t cs,T k t=true→Q t cs→R k cs) (hR:∀ a b cs ds,R a cs→R b ds→R (.pair a b) (cs++ds)) (cs:List Value) :
  ∀ {k:Kind}{L:List (TypeId×Nat)}{off:Nat},KFs T sz k L off=true→(∀ p∈L,Q p.1 ((cs.drop p.2).take (sz p.1)))→R k ((cs.drop off).take k.size)
 |k,[],_,h,_=>by simp[KFs] at h
 |k,[p],off,h,hq=>by simp only[KFs,Bool.and_eq_true,beq_iff_eq] at h;have:=hq p (by simp);rw[h.1,h.2.1] at this;exact hT _ _ _ h.2.2 this
 |.pair a b,p::q::r,off,h,hq=>by
  simp only[KFs,Bool.and_eq_true,beq_iff_eq] at h;have h1:=hq p (by simp);rw[h.1,h.2.1] at h1;have h2:=Md hT hR cs h.2.2.2 fun x hx=>hq x (List.mem_cons_of_mem _ hx);have e:(cs.drop off).take (Kind.pair a b).size=(cs.drop off).take a.size++(cs.drop (off+a.size)).take b.size:=by rw[Kind.size,List.take_add,List.drop_drop]
  rw[e];exact hR _ _ _ _ (hT _ _ _ h.2.2.1 h1) h2
 |.i _,_::_::_,_,h,_|.bo,_::_::_,_,h,_|.st,_::_::_,_,h,_|.list _,_::_::_,_,h,_=>by cases h
def FlatIs (k:Kind) (cs:List Value):Prop:=∃ y:k.T,(∀ h,KC h k y cs)∧KWf k y∧∀ ρ m,LRel ρ m cs cs
theorem FlatIs.pair {a b:Kind}{cs ds:List Value}(h1:FlatIs a cs) (h2:FlatIs b ds):FlatIs (.pair a b) (cs++ds):=by obtain⟨x,k1,k2,k3⟩:=h1;obtain⟨y,m1,m2,m3⟩:=h2;exact⟨(x,y),fun h=>⟨cs,ds,rfl,k1 h,m1 h⟩,⟨k2,m2⟩,fun ρ m=>(k3 ρ m).append (m3 ρ m)⟩
theorem LRel.one {ρ:Plc}{n:Nat}{v c:Value}(h:VRel ρ n v c):LRel ρ n [v] [c]:=.cons h (.nil _ _)
theorem NV {fs:Array Field}{f:Field}(h:f∈fs.toList):∃ i:Nat,fs[i]?=some f:=by obtain⟨i,hi,rfl⟩:=List.mem_iff_getElem.1 h;exact⟨i,by simp at hi;simp[hi]⟩
theorem P7 {sp:Nat→Bool}{held:Bool}:∀ {n:Nat}{k:Kind}{t:TypeId}{fuel:Nat}{cs:List Value}{x:DataW H×List MemPlace},KTy P n k t=true→k.flat=true→DataW.trod enc P w base sp held fuel t cs=some x→FlatIs k cs
 |0,_,_,_,_,_,h,_,_=>by cases h
 |n+1,k,t,fuel,cs,x,h,hf,hx=>by
  unfold KTy at h;cases hu:P.underlying t with
  |none=>rw[hu] at h;cases h
  |some u =>
   rw[hu] at h;have hR:∀ a b cs ds,((a.flat=true→FlatIs a cs)∧True)→((b.flat=true→FlatIs b ds)∧True)→(((Kind.pair a b).flat=true→FlatIs (.pair a b) (cs++ds))∧True):=fun a b cs ds h1 h2=>⟨fun hf=>by
    simp only[Kind.flat,Bool.and_eq_true] at hf;exact(h1.1 hf.1).pair (h2.1 hf.2),trivial⟩
   have hT:∀ k t cs,KTy P n k t=true→(∃ fuel x,DataW.trod enc P w base sp held fuel t cs=some x)→((k.flat=true→FlatIs k cs)∧True):=fun k t cs h1 ⟨fuel,x,h2⟩=>⟨fun hf=>P7 h1 hf h2,trivial⟩;cases u<;>first|(cases h;done)|skip
   all_goals simp only at h
   ·split at h<;>first|(cases h;done)|skip
    obtain⟨b,rfl,_⟩:=DataW.trod_bool hu hx;exact⟨b,fun _=>rfl,trivial,fun _ _=>.one (.bool _)⟩
   ·split at h<;>first|(cases h;done)|skip
    obtain rfl:=of_decide_eq_true h;obtain⟨z,rfl,_,hw⟩:=DataW.trod_int hu hx;exact⟨z,fun _=>rfl,Q6a hw,fun _ _=>.one (.int _ _)⟩
   ·split at h<;>first|(cases h;done)|skip
    obtain⟨s,rfl,_,hs⟩:=DataW.trod_string hu hx;exact⟨s.data.toList,fun _=>rfl,hs,fun _ _=>.one (.string _)⟩
   ·split at h<;>first|(cases h;done)|(cases hf;done)
   ·rename_i m e;simp only[Bool.and_eq_true,beq_iff_eq] at h;obtain⟨xs,m',_,_,hl,fO,hx⟩:=DataW.trod_array hu hx;have:=(Md (R:=fun k cs=>(k.flat=true→FlatIs k cs)∧True) hT hR cs h.2 fun p hp=>by
     simp only[List.mem_map,List.mem_range] at hp;obtain⟨i,hi,rfl⟩:=hp;have:=hx i hi;rw[List.getElem?_eq_getElem (by omega)] at this;exact⟨_,_,this⟩).1 hf
    rwa [List.drop_zero,List.take_of_length_le (by omega)] at this
   ·rename_i fs;simp only[Bool.and_eq_true,beq_iff_eq] at h;obtain⟨xs,m',_,_,hl,fO,hx⟩:=DataW.trod_struct hu hx;have:=(Md (R:=fun k cs=>(k.flat=true→FlatIs k cs)∧True) hT hR cs h.2 fun p hp=>by
     simp only[List.mem_map] at hp;obtain⟨f,ly,rfl⟩:=hp;obtain⟨i,hi⟩:=NV ly;have:=hx i f hi;have ij:i<fs.size:=(Array.getElem?_eq_some_iff.1 hi).1;rw[List.getElem?_eq_getElem (by omega)] at this;exact⟨_,_,this⟩).1 hf
    rwa [List.drop_zero,List.take_of_length_le (by omega)] at this
theorem Rows.range {α:Type}{R:α→List Value→Prop}{n:Nat}{c:List Value}{x:Nat→α}:∀ (m:Nat),(∀ i,i<m→R (x i) ((c.drop (i*n)).take n))→Rows R ((List.range m).map x) (c.take (m*n))
 |0,_=>by simp;exact .nil
 |m+1,h=>by
  have e:c.take ((m+1)*n)=c.take (m*n)++(c.drop (m*n)).take n:=by rw[Nat.add_mul,Nat.one_mul,List.take_add]
  rw[List.range_succ,List.map_append,e];exact(Rows.range m fun i hi=>h i (by omega)).append (by simpa using Rows.cons (h m (by omega)) .nil)
theorem TE {α:Type}[Inhabited α] {m:Nat}{p:Nat→α→Prop}(h:∀ i,i<m→∃ x,p i x):∃ f:Nat→α,∀ i,i<m→p i (f i) :=
 ⟨fun i=>if hi:i<m then (h i hi).choose else default,fun i hi=>by simp only[hi,dif_pos];exact(h i hi).choose_spec⟩
instance KInh (k:Kind):Inhabited k.T:=⟨k.dflt⟩
theorem View.list {ρ:Plc}{σ:Heap}(h:View w ρ σ) {n:Nat}{k:Kind}{t e:TypeId}{fuel:Nat}{cs:List Value}{x:DataW H×List MemPlace}(hu:P.underlying t=some (.slice e)) (hs:P.cellsOf e=k.size) (hf:k.flat=true) (hk:KTy P n k e=true)
  (hx:DataW.trod enc P w 0 (fun _=>true) true fuel t cs=some x) (ak:okc P w r base [t] cs):ArgIs w ρ σ (.list k) cs:=by
 rcases open_slice hu hx with⟨rfl,_⟩|⟨a,len,cap,m,fu,D,Pl,rfl,hb,hl,hm,iv,_,hel⟩
 ·exact⟨ρ,σ,[.slice none 0 0],[],h,More.refl _ _,.one .nilSl,⟨_,rfl,.inl ⟨rfl,rfl⟩⟩,by simp[maxLen],fun _ hx=>by cases hx⟩
 simp only[if_true] at iv;subst iv;rw[hs] at hel;have qN:w.has P r base a e m:=by
  rcases TC hu (ak 0 _ t rfl rfl) with hh|⟨a',lZ,aw,hh,h2⟩
  ·cases hh
  ·cases hh;exact h2
 obtain⟨C,row,f,aG,bm,gC⟩:=F6 qN;obtain⟨blk,off,spot⟩:=a;simp only at aG bm gC;subst gC;have ld:∀ i,(⟨blk,off,none⟩:Addr).add i=⟨blk,off+i,none⟩:=fun i=>by unfold Addr.add;split<;>simp_all
 obtain⟨X,hX⟩:=TE (α:=k.T×List Value) (m:=m) (p:=fun i p=>p.2.length=k.size∧(∀ j,j<k.size→w.cell? ⟨blk,off+i*k.size+j,none⟩=p.2[j]?)∧(∀ h,KC h k p.1 p.2)∧KWf k p.1∧∀ ρ m,LRel ρ m p.2 p.2) fun i hi=>by
  obtain⟨cs',h1,h2⟩:=hel i hi;obtain⟨_,k1,k2⟩:=World.cells?_some h1;obtain⟨y,m1,m2,m3⟩:=P7 hk hf h2;refine⟨(y,cs'),k1,fun j hj=>?_,m1,m2,m3⟩;have:=k2 j hj;rw[ld] at this;have e2:(⟨blk,off+i*k.size,none⟩:Addr).add j=⟨blk,off+i*k.size+j,none⟩:=by unfold Addr.add;split<;>simp_all
  rw[e2] at this;exact this
 have eM:=k.size_pos;let c:List Value:=(List.range (m*k.size)).map fun j=>((X (j / k.size)).2[j % k.size]?).getD undef;have cf:c.length=m*k.size:=by simp[c]
 have hdiv:∀ j,j<m*k.size→j / k.size<m:=fun j hj=>Nat.div_lt_of_lt_mul (by rw[Nat.mul_comm];exact hj);have bk:∀ j,j<m*k.size→∃ v,c[j]?=some v∧w.cell? ⟨blk,off+j,none⟩=some v∧∀ ρ m,VRel ρ m v v:=fun j hj=>by
  have h1:=hX (j / k.size) (hdiv j hj);have fX:j % k.size<k.size:=Nat.mod_lt _ eM;have h2:=h1.2.1 _ fX;have e:off+j / k.size*k.size+j % k.size=off+j:=by rw[Nat.add_assoc,Nat.div_add_mod']
  rw[e] at h2;have h3:j % k.size<(X (j / k.size)).2.length:=by rw[h1.1];exact fX
  refine⟨(X (j / k.size)).2[j % k.size],?_,?_,fun ρ m=>(h1.2.2.2.2 ρ m).2 _ _ _ (List.getElem?_eq_getElem h3) (List.getElem?_eq_getElem h3)⟩
  ·simp only[c,List.getElem?_map,List.getElem?_range hj,Option.map_some,List.getElem?_eq_getElem h3,Option.getD_some]
  ·rw[h2,List.getElem?_eq_getElem h3]
 have qO:∀ i,i<m→(c.drop (i*k.size)).take k.size=(X i).2:=fun i hi=>by
  have h1:=hX i hi;have hle:i*k.size+k.size≤m*k.size:=by have:(i+1)*k.size≤m*k.size:=Nat.mul_le_mul_right _ hi;rw[Nat.add_mul] at this;omega
  apply List.ext_getElem?;intro j;by_cases hj:j<k.size
  ·rw[List.getElem?_take_of_lt hj,List.getElem?_drop];have fl:i*k.size+j<m*k.size:=by omega
   have e1:(i*k.size+j) / k.size=i:=by rw[Nat.mul_comm,Nat.mul_add_div eM,Nat.div_eq_of_lt hj,Nat.add_zero]
   have e2:(i*k.size+j) % k.size=j:=by rw[Nat.mul_comm,Nat.mul_add_mod,Nat.mod_eq_of_lt hj]
   have h3:j<(X i).2.length:=by rw[h1.1];exact hj
   simp only[c,List.getElem?_map,List.getElem?_range fl,Option.map_some,e1,e2,List.getElem?_eq_getElem h3,Option.getD_some]
  ·rw[List.getElem?_eq_none (by simp;omega),List.getElem?_eq_none (by omega)]
 have aJ:off+m*k.size≤C.size:=by
  rcases Nat.eq_zero_or_pos (m*k.size) with h0|h0
  ·omega
  ·obtain⟨v,_,h2,_⟩:=bk (m*k.size-1) (by omega);unfold World.cell? at h2;simp only[aG] at h2;have:=(Array.getElem?_eq_some_iff.1 (by simpa using h2)).1;omega
 obtain⟨hv,uZ⟩:=h.add ⟨blk,off,m*k.size,⟨k.size,row⟩,false⟩ c aG aJ (by simp[cf]) rfl (fun j v hj=>by
  have cB:j<m*k.size:=by rw[←cf];exact(List.getElem?_eq_some_iff.1 hj).1
  obtain⟨v',h1,h2,h3⟩:=bk j cB;obtain rfl:=osj (hj.symm.trans h1);exact⟨v,h2,h3 _ _⟩)
 have hlen:((List.range len).map fun i=>(X i).1).length=len:=by simp
 refine⟨_,_,[.slice (some ⟨σ.n,0,none⟩) len m],(List.range len).map fun i=>(X i).1,hv,uZ,.one ?_,⟨_,rfl,.inr ⟨σ.n,0,m,c,⟨k.size,row⟩,false,false,by rw[hlen],by rw[hlen];exact hl,Heap.get_push_self _ _,rfl,?_,?_⟩⟩,?_,fun y hy=>?_⟩
 ·refine .sl _ _ _ _ _ _ (by simp) fun p hp=>?_;simp[Plc.put] at hp;subst hp;exact⟨Nat.le_refl _,(fun h=>by cases h),0,by simp,by simp,.inl rfl⟩
 ·rw[hlen,cf,Nat.zero_add];exact Nat.mul_le_mul_right _ hl
 ·rw[hlen,List.drop_zero];refine Rows.range len fun i hi=>?_;rw[qO i (by omega)];exact(hX i (by omega)).2.2.1 _
 ·rw[hlen];exact Nat.le_trans hl hm
 ·obtain⟨i,hi,rfl⟩:=List.mem_map.1 hy;exact(hX i (by have:=List.mem_range.1 hi;omega)).2.2.2.1
def Kind.lev1:Kind→Bool
 |.list k=>k.flat
 |.pair a b=>a.lev1&&b.lev1
 |_=>true
theorem Lv {ts:List TypeId}{cs:List Value}(h:okc P w r base ts cs) (o n:Nat):okc P w r base ((ts.drop o).take n) ((cs.drop o).take n):=fun i v u h1 h2=>by
 have hi:i<n:=by have:=(List.getElem?_eq_some_iff.1 h1).1;rw[List.length_take] at this;omega
 rw[List.getElem?_take_of_lt hi,List.getElem?_drop] at h1 h2;exact h _ v u h1 h2
theorem DL {T:Kind→TypeId→Bool}{sz:TypeId→Nat}{g:TypeId→Option (List TypeId)}(hT:∀ k t ts,T k t=true→g t=some ts→ts.length=k.size) :
  ∀ {k:Kind}{L:List (TypeId×Nat)}{off:Nat}{g7:List (List TypeId)},KFs T sz k L off=true→L.mapM (fun p=>g p.1)=some g7→∀ p∈L,off≤p.2∧g p.1=some ((g7.flatten.drop (p.2-off)).take (sz p.1))
 |k,[],_,_,h,_=>by simp[KFs] at h
 |k,[p],off,g7,h,hm=>by
  simp only[KFs,Bool.and_eq_true,beq_iff_eq] at h;intro p' hp;obtain rfl:=List.mem_singleton.1 hp;cases hg:g p'.1 with
  |none=>simp[hg] at hm
  |some ts =>
   simp[hg] at hm;subst hm;refine⟨by omega,?_⟩;rw[h.1,Nat.sub_self,List.drop_zero,h.2.1,List.take_of_length_le]
   ·simp
   ·simp[hT _ _ _ h.2.2 hg]
 |.pair a b,p::q::r,off,g7,h,hm=>by
  simp only[KFs,Bool.and_eq_true,beq_iff_eq] at h;rw[List.mapM_cons] at hm;intro p' hp;cases hg:g p.1 with
  |none=>simp[hg] at hm
  |some ts =>
   cases hr:(q::r).mapM (fun p=>g p.1) with
   |none=>simp[hg,hr] at hm
   |some tr =>
    simp[hg,hr] at hm;subst hm;have hlen:=hT _ _ _ h.2.2.1 hg;rcases List.mem_cons.1 hp with rfl|hp
    ·refine⟨by omega,?_⟩;rw[hg,h.1,Nat.sub_self,List.drop_zero,h.2.1,List.flatten_cons,List.take_append,←hlen,Nat.sub_self,List.take_zero,List.append_nil,List.take_length]
    ·obtain⟨h1,h2⟩:=DL hT h.2.2.2 hr p' hp;refine⟨by omega,?_⟩;have e1:ts.drop (p'.2-off)=[]:=List.drop_eq_nil_of_le (by omega);have e2:p'.2-off-a.size=p'.2-(off+a.size):=by omega
     rw[h2,List.flatten_cons,List.drop_append,hlen,e1,e2,List.nil_append]
 |.i _,_::_::_,_,_,h,_|.bo,_::_::_,_,_,h,_|.st,_::_::_,_,_,h,_|.list _,_::_::_,_,_,h,_=>by cases h
theorem P1:∀ {n:Nat}{k:Kind}{t:TypeId}{d:Nat}{ts:List TypeId}{fuel:Nat}{cs:List Value}{x:DataW H×List MemPlace},KTy P n k t=true→k.lev1=true→P.cellTypes d t=some ts→okc P w r base ts cs→DataW.trod enc P w 0 (fun _=>true) true fuel t cs=some x→∀ ρ σ,View w ρ σ→ArgIs w ρ σ k cs
 |0,_,_,_,_,_,_,_,h,_,_,_,_=>by cases h
 |_+1,_,_,0,_,_,_,_,_,_,h,_,_=>by cases h
 |n+1,k,t,d+1,ts,fuel,cs,x,h,hf,e_,ak,hx=>by
  intro ρ σ hv;by_cases b_:k.flat=true
  ·obtain⟨y,h1,h2,h3⟩:=P7 h b_ hx;exact⟨ρ,σ,cs,y,hv,More.refl _ _,h3 _ _,h1 _,h2⟩
  unfold KTy at h;cases hu:P.underlying t with
  |none=>rw[hu] at h;cases h
  |some u =>
   rw[hu] at h;let Q:TypeId→List Value→Prop:=fun t cs=>(∃ fuel x,DataW.trod enc P w 0 (fun _=>true) true fuel t cs=some x)∧∃ ts,P.cellTypes d t=some ts∧okc P w r base ts cs;let R:Kind→List Value→Prop:=fun k cs=>k.lev1=true→∀ ρ σ,View w ρ σ→ArgIs w ρ σ k cs;have hR:∀ a b cs ds,R a cs→R b ds→R (.pair a b) (cs++ds):=fun a b cs ds h1 h2 hl ρ σ hv=>by simp only[Kind.lev1,Bool.and_eq_true] at hl;exact(h1 hl.1 ρ σ hv).pair fun ρ σ hv=>h2 hl.2 ρ σ hv
   have hT:∀ k t cs,KTy P n k t=true→Q t cs→R k cs:=fun k t cs h1 ⟨⟨fuel,x,h2⟩,ts,h3,h4⟩ hl=>P1 h1 hl h3 h4 h2;have hlen:∀ k t ts,KTy P n k t=true→P.cellTypes d t=some ts→ts.length=k.size:=fun k t ts h1 h2=>Sk h1 h2;unfold Program.cellTypes at e_;rw[hu] at e_;cases u<;>first|(cases h;done)|skip
   all_goals simp only at h
   ·split at h<;>first|(cases h;done)|(exact absurd rfl b_)
   ·split at h<;>first|(cases h;done)|(exact absurd rfl b_)
   ·split at h<;>first|(cases h;done)|(exact absurd rfl b_)
   ·rename_i e;split at h<;>first|(cases h;done)|skip
    simp only[Bool.and_eq_true,beq_iff_eq] at h;simp only[Option.some.injEq] at e_;subst e_;exact hv.list hu h.1 h.2.1 h.2.2 hx ak
   ·rename_i m e;simp only[Bool.and_eq_true,beq_iff_eq] at h;obtain⟨xs,m',_,_,hl,fO,hx⟩:=DataW.trod_array hu hx;simp only at e_;cases hc:P.cellTypes d e with
    |none=>rw[hc] at e_;cases e_
    |some te =>
     rw[hc] at e_;obtain rfl:=osj e_;have nr:((List.range m).map fun i=>(e,i*P.cellsOf e)).mapM (fun p:TypeId×Nat=>P.cellTypes d p.1)=some (List.replicate m te):=by rw[Mo,Mr (x:=te) (fun _=>hc)];simp
     have:=Md (Q:=Q) (R:=R) hT hR cs h.2 (fun p hp=>by
      have iY:=DL (g:=fun t=>P.cellTypes d t) hlen h.2 nr p hp;simp only[List.mem_map,List.mem_range] at hp;obtain⟨i,hi,rfl⟩:=hp;have:=hx i hi;rw[List.getElem?_eq_getElem (by omega)] at this;exact⟨⟨_,_,this⟩,_,iY.2,Lv ak _ _⟩) hf ρ σ hv
     rwa [List.drop_zero,List.take_of_length_le (by omega)] at this
   ·rename_i fs;simp only[Bool.and_eq_true,beq_iff_eq] at h;obtain⟨xs,m',_,_,hl,fO,hx⟩:=DataW.trod_struct hu hx;simp only at e_;cases hc:fs.toList.mapM fun f=>P.cellTypes d f.type with
    |none=>rw[hc] at e_;cases e_
    |some g7 =>
     rw[hc] at e_;obtain rfl:=osj e_;have nr:(fs.toList.map fun f=>(f.type,f.offset)).mapM (fun p:TypeId×Nat=>P.cellTypes d p.1)=some g7:=by rw[Mo];exact hc
     have:=Md (Q:=Q) (R:=R) hT hR cs h.2 (fun p hp=>by
      have iY:=DL (g:=fun t=>P.cellTypes d t) hlen h.2 nr p hp;simp only[List.mem_map] at hp;obtain⟨f,ly,rfl⟩:=hp;obtain⟨i,hi⟩:=NV ly;have:=hx i f hi;have ij:i<fs.size:=(Array.getElem?_eq_some_iff.1 hi).1;rw[List.getElem?_eq_getElem (by omega)] at this;exact⟨⟨_,_,this⟩,_,iY.2,Lv ak _ _⟩) hf ρ σ hv
     rwa [List.drop_zero,List.take_of_length_le (by omega)] at this
def isAgg (P:Program) (t:TypeId):Bool:=match P.underlying t with
 |some (.struct _)=>true
 |some (.array _ _)=>true
 |_=>false
theorem View.arg {ρ:Plc}{σ:Heap}(h:View w ρ σ) {n:Nat}{k:Kind}{t:TypeId}{v:Value}{d:DataW H}{p:List MemPlace}(hk:KTy P n k t=true) (hl:k.lev1=true) (ha:isAgg P t=!k.one) (ak:Value.okWide P w r base t v) (hd:DataW.Trod enc P w 0 (fun _=>true) true t v d p) :
  ∃ ρ' σ' vv x,View w ρ' σ'∧More ρ σ ρ' σ'∧VRel ρ' σ'.n vv v∧KV σ' k x vv∧KWf k x:=by
 obtain⟨fuel,hd⟩:=hd;by_cases dZ:isAgg P t=true
 ·have bU:k.one=false:=by rw[dZ] at ha;simpa using ha.symm
  have:∃ cs,v=.agg cs∧cs.size=P.cellsOf t∧Row.okWide P w r base t cs:=by
   unfold isAgg at dZ;unfold Value.okWide at ak;split at dZ<;>first|(cases dZ;done)|skip
   ·rename_i hu;rw[hu] at ak;exact ak
   ·rename_i hu;rw[hu] at ak;exact ak
  obtain⟨cs,rfl,aJ,ts,e_,_,b6⟩:=this;have hlen:=Sk hk e_;have aB:P.cellsOf t=k.size:=by
   unfold isAgg at dZ;cases n with
   |zero=>cases hk
   |succ n =>
    unfold KTy at hk;split at dZ<;>first|(cases dZ;done)|skip
    all_goals
     rename_i hu;rw[hu] at hk;simp only[Bool.and_eq_true,beq_iff_eq] at hk;exact hk.1
  have l4:okc P w r base ts cs.toList:=fun i v u h1 h2=>by have hi:i<ts.length:=(List.getElem?_eq_some_iff.1 h2).1;obtain⟨u',h3,h4⟩:=b6 i v (by simpa using h1);rw[Nat.mod_eq_of_lt hi] at h3;obtain rfl:=osj (h2.symm.trans h3);exact h4
  obtain⟨ρ',σ',vs,x,k1,k2,k3,k4,k5⟩:=P1 hk hl e_ l4 (show DataW.trod enc P w 0 _ true fuel t cs.toList=_ from hd) ρ σ h;exact⟨ρ',σ',.agg vs.toArray,x,k1,k2,VRel.agg_of (ds:=cs.toList) k3,.inr ⟨bU,vs,rfl,k4⟩,k5⟩
 ·have bU:k.one=true:=by
   have:isAgg P t=false:=by simpa using dZ
   rw[this] at ha;simpa using ha.symm
  have iM:=Kind.one_size bU;have bk:Cell.okWide P w r base t v∧v.cells.toList=[v]:=by
   have h1:isAgg P t=false:=by simpa using dZ
   unfold isAgg at h1;have h2:Cell.okWide P w r base t v:=by
    unfold Value.okWide at ak;split at ak
    ·rename_i hu;rw[hu] at h1;cases h1
    ·rename_i hu;rw[hu] at h1;cases h1
    ·exact ak
   refine⟨h2,?_⟩;cases v<;>first|rfl|skip
   all_goals
    exfalso;cases n with
    |zero=>cases hk
    |succ n =>
     unfold KTy at hk;unfold Cell.okWide Cell.ok at h2;cases hu:P.underlying t with
     |none=>rw[hu] at hk;cases hk
     |some u =>rw[hu] at hk h2 h1;cases u<;>first|(cases hk;done)|(cases h1;done)|(cases h2;done)|(simp at h2;done)
  have e_:P.cellTypes 1 t=some [t]:=by
   have h1:isAgg P t=false:=by simpa using dZ
   unfold isAgg at h1;unfold Program.cellTypes;cases n with
   |zero=>cases hk
   |succ n =>
    unfold KTy at hk;cases hu:P.underlying t with
    |none=>rw[hu] at hk;cases hk
    |some u =>rw[hu] at h1;cases u<;>first|rfl|(cases h1;done)
  rw[bk.2] at hd;have l4:okc P w r base [t] [v]:=fun i v' u h1 h2=>by
   cases i with
   |zero=>cases h1;cases h2;exact bk.1
   |succ i=>simp at h1
  obtain⟨ρ',σ',vs,x,k1,k2,k3,k4,k5⟩:=P1 hk hl e_ l4 hd ρ σ h;have:vs.length=1:=by rw[KC.length k4];exact iM
  obtain⟨vv,rfl⟩:=List.length_eq_one_iff.1 this;exact⟨ρ',σ',vv,x,k1,k2,k3.2 0 _ _ rfl rfl,.inl ⟨bU,k4⟩,k5⟩
def AWf:(ks:List Kind)→AT ks→Prop
 |[],_=>True
 |[k],x=>KWf k x
 |k::k'::ks,x=>KWf k x.1∧AWf (k'::ks) x.2
def Q3p (P:Program):List Kind→List TypeId→Bool
 |[],[]=>true
 |k::ks,t::ts=>(KTy P 8 k t&&(k.lev1&&(isAgg P t==!k.one)))&&Q3p P ks ts
 |_,_=>false
theorem View.args:∀ {ks:List Kind}{ts:List TypeId}{vs:List Value}{ds:List (DataW H)}{ps:List MemPlace}{ρ:Plc}{σ:Heap},View w ρ σ→Q3p P ks ts=true→(∀ (j:Nat) t v,ts[j]?=some t→vs[j]?=some v→Value.okWide P w r base t v)→DataW.TrodAll enc P w 0 (fun _=>true) true ts vs ds ps →
  ∃ ρ' σ' mA x,View w ρ' σ'∧More ρ σ ρ' σ'∧LRel ρ' σ'.n mA vs∧HU σ' ks x mA∧AWf ks x
 |[],[],vs,ds,ps,ρ,σ,h,_,_,hA=>by obtain⟨rfl,rfl,rfl⟩:=trodAll_nil hA;exact⟨ρ,σ,[],(),h,More.refl _ _,.nil _ _,rfl,trivial⟩
 |[k],[t],vs,ds,ps,ρ,σ,h,hk,hv,hA=>by obtain⟨v,cT,d,ds',p,q,rfl,rfl,rfl,h1,h2⟩:=trodAll_cons hA;obtain⟨rfl,rfl,rfl⟩:=trodAll_nil h2;simp only[Q3p,Bool.and_eq_true,beq_iff_eq] at hk;obtain⟨ρ',σ',vv,x,k1,k2,k3,k4,k5⟩:=h.arg hk.1.1 hk.1.2.1 hk.1.2.2 (hv 0 t v rfl rfl) h1;exact⟨ρ',σ',[vv],x,k1,k2,.one k3,⟨vv,rfl,k4⟩,k5⟩
 |k::k'::ks,t::ts,vs,ds,ps,ρ,σ,h,hk,hv,hA=>by obtain⟨v,cT,d,ds',p,q,rfl,rfl,rfl,h1,h2⟩:=trodAll_cons hA;simp only[Q3p,Bool.and_eq_true,beq_iff_eq] at hk;obtain⟨ρ1,σ1,vv,x,k1,k2,k3,k4,k5⟩:=h.arg hk.1.1 hk.1.2.1 hk.1.2.2 (hv 0 t v rfl rfl) h1;obtain⟨ρ2,σ2,mA,y,m1,m2,m3,m4,m5⟩:=k1.args (ks:=k'::ks) hk.2 (fun j t v h1 h2=>hv (j+1) t v h1 h2) h2;exact⟨ρ2,σ2,vv::mA,(x,y),m1,k2.trans m2,.cons (k3.mono m2.n m2.pl) m3,⟨vv,mA,rfl,k4.vcall m2.le,m4⟩,k5,m5⟩
 |[],_::_,_,_,_,_,_,_,hk,_,_|_::_,[],_,_,_,_,_,_,hk,_,_|[_],_::_::_,_,_,_,_,_,_,hk,_,_=>by simp[Q3p] at hk
theorem A_ (hT:Q9k w) {f:Nat}{sp:CSp}(gC:OkC P f sp) (he:Jy P f) {ks:List Kind}{ts:List TypeId}{args:Array Value}{ds:List (DataW H)}{ps:List MemPlace}(hk:Q3p P ks ts=true)
  (hv:∀ (j:Nat) t v,ts[j]?=some t→args.toList[j]?=some v→Value.okWide P w r base t v) (hA:DataW.TrodAll enc P w 0 (fun _=>true) true ts args.toList ds ps)
  (hs:∀ x:AT ks,AWf ks x→∃ c,sp (fun _ _=>none) (Pd ks x)=some (c,.val .bo true,[])∧c):Calls P f args w fun e w'=>e=.returned (.bool true)∧Below w.heap.size w w':=by
 obtain⟨ρ,σ,mA,x,k1,k2,k3,k4,k5⟩:=(View.emptyT w hT).args hk hv hA;obtain⟨c,h1,h2⟩:=hs x k5;exact k1.calls k3 (gC.true he (Nt k4) h1 h2)
end
end Go.V
namespace Go.V
open Go
theorem DS {H:Type}{enc:TypeId×Value→H}{P:Program}{w:World}{b:Nat}{sp:Nat→Bool}{hd:Bool}:∀ {ts:List TypeId}{vs:List Value}{ds:List (DataW H)}{ps:List MemPlace},DataW.TrodAll enc P w b sp hd ts vs ds ps→ds.length=ts.length
 |[],[],[],_,_=>rfl
 |t::ts,v::vs,d::ds,ps,h=>by obtain⟨p,q,_,h2,_⟩:=h;simp[DS h2]
 |[],[],_::_,_,h|[],_::_,_,_,h|_::_,[],_,_,h|_::_,_::_,[],_,h=>h.elim
end Go.V
namespace Go.Proofs.Tryz
open Go Go.V
def Q8v:List (Option FEnt):=[
 none,
 none,
 some (.code c2 [] 1),
 some (.code c3 [.tmp 4] 113),
 some (.code c4 [.tmp 4] 298),
 some (.code c5 [.tmp 4] 185),
 some (.code c6 [.tmp 2] 33),
 some (.code c7 [.tmp 6] 15),
 some (.code c8 [.tmp 6] 35),
 some (.code c9 [.tmp 0] 239),
 some (.code c10 [.cell 2 true 2] 10),
 some (.code c11 [.tmp 4,.tmp 5,.tmp 6] 40),
 some (.code c12 [.tmp 4] 38),
 some (.code c13 [.tmp 4] 31),
 some (.code c14 [.tmp 6] 22),
 some (.code c15 [.tmp 2] 22),
 some (.code c16 [.tmp 4] 46),
 some (.code c17 [.cell 4 true 2] 8),
 some (.code c18 [.cell 2 true 2] 48),
 some (.code c19 [.cell 2 true 2] 51),
 some (.code c20 [.cell 4 true 2,.tmp 5] 48),
 some (.code c21 [.tmp 2,.tmp 3] 39),
 some (.code c22 [.tmp 4,.tmp 5] 43),
 some (.code c23 [.cell 2 true 2] 10),
 some (.code c24 [.tmp 6] 25),
 some (.code c25 [.tmp 2] 55),
 some (.code c26 [.tmp 2,.tmp 3] 37),
 some (.code c27 [.cell 4 true 2,.tmp 5,.tmp 6] 78),
 some (.code c28 [.cell 8 true 4] 14),
 some (.codeJ c29 [.cell 6 true 2,.tmp 7,.tmp 8] 84),
 some (.code c30 [.cell 6 false 1,.tmp 7] 49),
 some (.code c31 [.cell 6 false 1,.tmp 7] 42),
 some (.code c32 [.cell 4 true 2,.tmp 5] 33),
 some (.code c33 [.tmp 4,.tmp 5,.tmp 6,.tmp 7] 30),
 some (.code c34 [.cell 2 true 2,.cell 3 true 2,.tmp 4] 20),
 some (.codeJ c35 [.tmp 2,.tmp 3] 30),
 some (.code c36 [.tmp 4] 28),
 some (.code c37 [.tmp 2] 27),
 some (.code c38 [.tmp 6] 11),
 some (.code c39 [.cell 4 true 2] 59),
 some (.code c40 [.tmp 2,.cell 3 true 2] 47),
 some (.code c41 [.tmp 4] 22),
 some (.code c42 [.tmp 4] 56),
 some (.code c43 [.tmp 4] 50),
 some (.code c44 [.tmp 2] 25),
 some (.code c45 [.tmp 2] 36),
 some (.code c46 [.tmp 4] 26),
 some (.code c47 [.tmp 2] 28),
 some (.code c48 [.tmp 4] 22),
 some (.code c49 [.tmp 5] 23),
 some (.code c50 [.tmp 4] 48),
 some (.code c51 [.tmp 2] 32),
 some (.code c52 [.tmp 6] 11),
 some (.code c53 [.tmp 2,.tmp 3] 102),
 some (.code c54 [] 64),
 some (.code c55 [.tmp 4] 21),
 some (.code c56 [.tmp 4] 16),
 some (.code c57 [.tmp 4,.tmp 5,.tmp 6,.tmp 7] 47),
 some (.code c58 [.cell 4 true 2] 47),
 some (.code c59 [.cell 2 true 2,.tmp 3] 61),
 some (.code c60 [.tmp 2] 17),
 some (.code c61 [] 11),
 some (.code c62 [.tmp 4] 19),
 some (.code c63 [.tmp 4] 9),
 some (.code c64 [.tmp 4] 13),
 some (.code c65 [.tmp 6] 36),
 some (.code c66 [.tmp 2] 20),
 some (.code c67 [.tmp 4] 27),
 some (.code c68 [.tmp 4] 17),
 some (.code c69 [.tmp 2] 4),
 some (.code c70 [.tmp 6] 17),
 some (.code c71 [.tmp 2] 14),
 some (.code c72 [.tmp 4,.tmp 5] 30),
 some (.code c73 [.tmp 2] 5),
 some (.code c74 [.tmp 4] 6),
 some (.code c75 [.tmp 4] 13),
 some (.code c76 [.cell 4 true 4] 20),
 some (.code c77 [.tmp 6] 29),
 some (.code c78 [.tmp 4] 81),
 some (.code c79 [.tmp 2] 4),
 some (.code c80 [.cell 6 true 4,.tmp 7] 40),
 some (.code c81 [.tmp 3] 18),
 some (.code c82 [.tmp 4] 27),
 some (.code c83 [.tmp 4] 25),
 some (.code c84 [] 37),
 some (.code c85 [] 50),
 some (.code c86 [.tmp 4] 23),
 some (.code c87 [.tmp 4] 20),
 some (.code c88 [.tmp 2] 4),
 some (.code c89 [] 134),
 some (.code c90 [.tmp 2] 8),
 some (.code c91 [.tmp 4] 19),
 some (.code c92 [] 20),
 some (.code c93 [.tmp 4,.tmp 5] 17),
 some (.code c94 [.tmp 4,.tmp 5] 51),
 some (.code c95 [.tmp 4] 13),
 some (.code c96 [] 22),
 some (.code c97 [.tmp 3] 20),
 some (.code c98 [.tmp 3] 13),
 some (.code c99 [.tmp 4] 43),
 some (.code Q82 [.tmp 4] 9),
 some (.code Q78 [] 19),
 some (.code Q7j [] 49),
 some (.code Q83 [] 56),
 some (.code Q7d [] 65),
 some (.code Q7y [.tmp 6,.tmp 7] 57),
 some (.code Q8h [] 32),
 some (.code Q8m [.tmp 6] 133),
 some (.code Q75 [.tmp 4] 17),
 some (.code Q8c [.tmp 8] 84),
 some (.code Q8a [.tmp 8,.tmp 9] 168),
 some (.code Q76 [.tmp 2] 19),
 some (.code Q87 [.tmp 2] 25),
 some .same,
 some (.code Q7s [.tmp 4] 17),
 some (.code Q7q [.tmp 4] 23),
 some (.code Q80 [.cell 2 true 256,.tmp 3] 21),
 some (.code Q7p [.tmp 4] 16),
 some (.code Q7l [.tmp 4] 22),
 some (.code Q7i [.tmp 4] 23),
 some (.code Q6y [.tmp 4] 34),
 some (.code Q7c [.tmp 4] 19),
 some (.code Q86 [] 76),
 some (.code Q7x [.tmp 2] 7),
 some (.code Q7u [.tmp 2] 33),
 some (.code Q72 [.tmp 6] 15),
 some (.code Q8p [.tmp 10] 36),
 some (.code Q89 [.tmp 2] 6),
 some (.code Q7w [.tmp 4] 10),
 some (.code Q74 [.tmp 2,.tmp 3] 19),
 some (.code Q7a [.tmp 4] 9),
 some (.code Q7k [.tmp 2,.tmp 3] 51),
 some (.code Q88 [.tmp 8,.tmp 9] 28),
 some (.code Q73 [.tmp 2,.tmp 3] 117),
 some (.code Q7o [.tmp 4] 187),
 some (.code Q8g [.tmp 2] 6),
 some (.code Q77 [.tmp 4] 8),
 some (.code Q7b [.tmp 2] 17),
 some (.code Q8j [.tmp 2] 6),
 none,
 some (.code Q7z [.tmp 4] 8)]
def Q9r:Tab:=fun f=>(Q8v[f]?).join
theorem Q2d:EntsOk Tryz.prog 0 Q8v:=⟨trivial,trivial,Q9g,Q91,Q93,fun5,Q90,Q9a,Q9f,Q8f,Q1w,Q25,Q5n,Q49,Q5x,Q68,Q59,Q5o,Q3h,Q1r,Q5h,Q6h,Q27,Q2j,Q19,Q2s,Q4b,Q5r,Q44,Q0w,Q2z,Q1t,Q47,Q69,Q6k,Q4l,Q6f,Q2f,Q2g,Q3k,Q1l,Q6d,Q64,Q5l,Q5a,Q6i,Q5p,Q1s,Q10,Q67,Q4q,Q6g,Q2p,Q2h,Q38,Q1q,Q4x,Q4w,Q4d,Q4y,Q4k,Q6j,Q5m,Q1b,Q0v,Q2x,Q4j,Q5e,Q12,Q1a,Q1e,Q30,Q5w,Q5i,Q4a,Q1d,Q13,Q2k,Q3b,Q1y,Q31,Q2i,Q37,Q5t,Q20,Q2q,Q60,Q6n,Q5y,Q57,Q41,Q2a,Q2m,Q4c,Q61,Q66,Q3z,Q22,Q5k,Q4g,Q0t,OX,Oo,Q05,Q0g,Ox,O_,OQ,Q0b,On,OD,Q0q,OW,Po,Q0r,OC,ON,OV,Q0h,OM,Q0n,Q0s,OO,OU,Q0k,Q0u,OG,Om,Ov,Q03,Q00,Ou,Q0j,Q0l,OL,Q04,Q0d,Q02,Q0m,trivial,Q0c,trivial⟩
theorem Qy:TabOk Tryz.prog Q9r:=LK Q2d
def FE:Memo:=⟨[.agg #[.int .i64 4,.slice (some ⟨0,0,none⟩) 1 1],.slice (some ⟨1,0,none⟩) 1 1,.int .i64 2],[⟨[.int .i64 0],⟨1,3⟩,true⟩,⟨[.int .i64 0],⟨1,3⟩,true⟩],.tuple #[.agg #[.int .i64 4,.slice (some ⟨2,0,none⟩) 1 1],.int .i64 2,.int .i64 0],[⟨[.int .i64 3],⟨1,3⟩,false⟩]⟩
theorem A9:QJ Tryz.prog 29 FE:=Qn mixed Qy 200 (by kernel_rfl) (by kernel_rfl)
def I2:Memo:=⟨[.agg #[.int .i64 4,.slice (some ⟨0,0,none⟩) 1 1],.slice (some ⟨1,0,none⟩) 1 1,.int .i64 2],[⟨[.int .i64 1],⟨1,3⟩,true⟩,⟨[.int .i64 1],⟨1,3⟩,true⟩],.tuple #[.agg #[.int .i64 4,.slice (some ⟨2,0,none⟩) 1 1],.int .i64 1,.int .i64 0],[⟨[.int .i64 3],⟨1,3⟩,false⟩]⟩
theorem Az:QJ Tryz.prog 29 I2:=Qn mixed Qy 200 (by kernel_rfl) (by kernel_rfl)
def Ey:Memo:=⟨[.agg #[.int .i64 4,.slice (some ⟨0,0,none⟩) 1 1],.slice (some ⟨1,0,none⟩) 1 1,.int .i64 2],[⟨[.int .i64 2],⟨1,3⟩,true⟩,⟨[.int .i64 2],⟨1,3⟩,true⟩],.tuple #[.agg #[.int .i64 4,.slice (some ⟨2,0,none⟩) 1 1],.int .i64 1,.int .i64 0],[⟨[.int .i64 3],⟨1,3⟩,false⟩]⟩
theorem Af:QJ Tryz.prog 29 Ey:=Qn mixed Qy 200 (by kernel_rfl) (by kernel_rfl)
def AZ:Memo:=⟨[.agg #[.int .i64 4,.slice (some ⟨0,0,none⟩) 1 1],.slice (some ⟨1,0,none⟩) 1 1,.int .i64 2],[⟨[.int .i64 3],⟨1,3⟩,true⟩,⟨[.int .i64 3],⟨1,3⟩,true⟩],.tuple #[.agg #[.int .i64 4,.slice (some ⟨2,0,none⟩) 1 1],.int .i64 0,.int .i64 0],[⟨[.int .i64 3],⟨1,3⟩,false⟩]⟩
theorem Ac:QJ Tryz.prog 29 AZ:=Qn mixed Qy 200 (by kernel_rfl) (by kernel_rfl)
def FC:Memo:=⟨[.agg #[.int .i64 4,.slice (some ⟨0,0,none⟩) 1 1],.slice (some ⟨1,0,none⟩) 1 1,.int .i64 2],[⟨[.int .i64 4],⟨1,3⟩,true⟩,⟨[.int .i64 4],⟨1,3⟩,true⟩],.tuple #[.agg #[.int .i64 4,.slice (some ⟨2,0,none⟩) 1 1],.int .i64 1,.int .i64 0],[⟨[.int .i64 5],⟨1,3⟩,false⟩]⟩
theorem AU:QJ Tryz.prog 29 FC:=Qn mixed Qy 200 (by kernel_rfl) (by kernel_rfl)
def Fs:Memo:=⟨[.agg #[.int .i64 4,.slice (some ⟨0,0,none⟩) 1 1],.slice (some ⟨1,0,none⟩) 1 1,.int .i64 2],[⟨[.int .i64 5],⟨1,3⟩,true⟩,⟨[.int .i64 5],⟨1,3⟩,true⟩],.tuple #[.agg #[.int .i64 4,.slice (some ⟨2,0,none⟩) 1 1],.int .i64 0,.int .i64 0],[⟨[.int .i64 5],⟨1,3⟩,false⟩]⟩
theorem A4:QJ Tryz.prog 29 Fs:=Qn mixed Qy 200 (by kernel_rfl) (by kernel_rfl)
def Ev:Memo:=⟨[.agg #[.int .i64 4,.slice (some ⟨0,0,none⟩) 1 1],.slice (some ⟨1,0,none⟩) 1 1,.int .i64 2],[⟨[.int .i64 6],⟨1,3⟩,true⟩,⟨[.int .i64 6],⟨1,3⟩,true⟩],.tuple #[.agg #[.int .i64 4,.slice (some ⟨2,0,none⟩) 1 1],.int .i64 0,.int .i64 0],[⟨[.int .i64 6],⟨1,3⟩,false⟩]⟩
theorem AR:QJ Tryz.prog 29 Ev:=Qn mixed Qy 200 (by kernel_rfl) (by kernel_rfl)
def Fp:Memo:=⟨[.agg #[.int .i64 4,.slice (some ⟨0,0,none⟩) 1 1],.slice (some ⟨1,0,none⟩) 1 1,.int .i64 2],[⟨[.int .i64 7],⟨1,3⟩,true⟩,⟨[.int .i64 7],⟨1,3⟩,true⟩],.tuple #[.agg #[.int .i64 0,.slice none 0 0],.int .i64 0,.int .i64 9],[]⟩
theorem Cn:QJ Tryz.prog 29 Fp:=Qn mixed Qy 200 (by kernel_rfl) (by kernel_rfl)
def EM:Memo:=⟨[.agg #[.int .i64 4,.slice (some ⟨0,0,none⟩) 1 1],.slice (some ⟨1,0,none⟩) 1 1,.int .i64 2],[⟨[.int .i64 8],⟨1,3⟩,true⟩,⟨[.int .i64 8],⟨1,3⟩,true⟩],.tuple #[.agg #[.int .i64 4,.slice (some ⟨2,0,none⟩) 1 1],.int .i64 1,.int .i64 0],[⟨[.int .i64 9],⟨1,3⟩,false⟩]⟩
theorem Aq:QJ Tryz.prog 29 EM:=Qn mixed Qy 200 (by kernel_rfl) (by kernel_rfl)
def I5:Memo:=⟨[.agg #[.int .i64 4,.slice (some ⟨0,0,none⟩) 1 1],.slice (some ⟨1,0,none⟩) 1 1,.int .i64 2],[⟨[.int .i64 9],⟨1,3⟩,true⟩,⟨[.int .i64 9],⟨1,3⟩,true⟩],.tuple #[.agg #[.int .i64 4,.slice (some ⟨2,0,none⟩) 1 1],.int .i64 0,.int .i64 0],[⟨[.int .i64 9],⟨1,3⟩,false⟩]⟩
theorem CC:QJ Tryz.prog 29 I5:=Qn mixed Qy 200 (by kernel_rfl) (by kernel_rfl)
def Lp:Memo:=⟨[.agg #[.int .i64 4,.slice (some ⟨0,0,none⟩) 1 1],.slice (some ⟨1,0,none⟩) 1 1,.int .i64 2],[⟨[.int .i64 10],⟨1,3⟩,true⟩,⟨[.int .i64 10],⟨1,3⟩,true⟩],.tuple #[.agg #[.int .i64 4,.slice (some ⟨2,0,none⟩) 1 1],.int .i64 0,.int .i64 0],[⟨[.int .i64 10],⟨1,3⟩,false⟩]⟩
theorem S9:QJ Tryz.prog 29 Lp:=Qn mixed Qy 200 (by kernel_rfl) (by kernel_rfl)
def LA:Memo:=⟨[.agg #[.int .i64 4,.slice (some ⟨0,0,none⟩) 1 1],.slice (some ⟨1,0,none⟩) 1 1,.int .i64 2],[⟨[.int .i64 11],⟨1,3⟩,true⟩,⟨[.int .i64 11],⟨1,3⟩,true⟩],.tuple #[.agg #[.int .i64 0,.slice none 0 0],.int .i64 0,.int .i64 9],[]⟩
theorem SM:QJ Tryz.prog 29 LA:=Qn mixed Qy 200 (by kernel_rfl) (by kernel_rfl)
def L4:Memo:=⟨[.agg #[.int .i64 4,.slice (some ⟨0,0,none⟩) 1 1],.slice (some ⟨1,0,none⟩) 1 1,.int .i64 2],[⟨[.int .i64 12],⟨1,3⟩,true⟩,⟨[.int .i64 12],⟨1,3⟩,true⟩],.tuple #[.agg #[.int .i64 4,.slice (some ⟨2,0,none⟩) 1 1],.int .i64 0,.int .i64 0],[⟨[.int .i64 12],⟨1,3⟩,false⟩]⟩
theorem Su:QJ Tryz.prog 29 L4:=Qn mixed Qy 200 (by kernel_rfl) (by kernel_rfl)
def Lj:Memo:=⟨[.agg #[.int .i64 4,.slice (some ⟨0,0,none⟩) 1 1],.slice (some ⟨1,0,none⟩) 1 1,.int .i64 2],[⟨[.int .i64 13],⟨1,3⟩,true⟩,⟨[.int .i64 13],⟨1,3⟩,true⟩],.tuple #[.agg #[.int .i64 0,.slice none 0 0],.int .i64 0,.int .i64 9],[]⟩
theorem S4:QJ Tryz.prog 29 Lj:=Qn mixed Qy 200 (by kernel_rfl) (by kernel_rfl)
def Ck:Memo:=⟨[.agg #[.int .i64 4,.slice (some ⟨0,0,none⟩) 1 1],.slice (some ⟨1,0,none⟩) 1 1,.int .i64 2],[⟨[.int .i64 14],⟨1,3⟩,true⟩,⟨[.int .i64 14],⟨1,3⟩,true⟩],.tuple #[.agg #[.int .i64 0,.slice none 0 0],.int .i64 0,.int .i64 9],[]⟩
theorem RZ:QJ Tryz.prog 29 Ck:=Qn mixed Qy 200 (by kernel_rfl) (by kernel_rfl)
def LL:Memo:=⟨[.agg #[.int .i64 4,.slice (some ⟨0,0,none⟩) 1 1],.slice (some ⟨1,0,none⟩) 1 1,.int .i64 2],[⟨[.int .i64 15],⟨1,3⟩,true⟩,⟨[.int .i64 15],⟨1,3⟩,true⟩],.tuple #[.agg #[.int .i64 0,.slice none 0 0],.int .i64 0,.int .i64 9],[]⟩
theorem Sy:QJ Tryz.prog 29 LL:=Qn mixed Qy 200 (by kernel_rfl) (by kernel_rfl)
def Fv:Memo:=⟨[.agg #[.int .i64 4,.slice (some ⟨0,0,none⟩) 1 1],.slice (some ⟨1,0,none⟩) 1 1,.int .i64 3],[⟨[.int .i64 0],⟨1,3⟩,true⟩,⟨[.int .i64 0],⟨1,3⟩,true⟩],.tuple #[.agg #[.int .i64 4,.slice (some ⟨2,0,none⟩) 1 1],.int .i64 1,.int .i64 0],[⟨[.int .i64 1],⟨1,3⟩,false⟩]⟩
theorem AK:QJ Tryz.prog 29 Fv:=Qn mixed Qy 200 (by kernel_rfl) (by kernel_rfl)
def F3:Memo:=⟨[.agg #[.int .i64 4,.slice (some ⟨0,0,none⟩) 1 1],.slice (some ⟨1,0,none⟩) 1 1,.int .i64 3],[⟨[.int .i64 1],⟨1,3⟩,true⟩,⟨[.int .i64 1],⟨1,3⟩,true⟩],.tuple #[.agg #[.int .i64 4,.slice (some ⟨2,0,none⟩) 1 1],.int .i64 0,.int .i64 0],[⟨[.int .i64 1],⟨1,3⟩,false⟩]⟩
theorem An:QJ Tryz.prog 29 F3:=Qn mixed Qy 200 (by kernel_rfl) (by kernel_rfl)
def E5:Memo:=⟨[.agg #[.int .i64 4,.slice (some ⟨0,0,none⟩) 1 1],.slice (some ⟨1,0,none⟩) 1 1,.int .i64 3],[⟨[.int .i64 2],⟨1,3⟩,true⟩,⟨[.int .i64 2],⟨1,3⟩,true⟩],.tuple #[.agg #[.int .i64 4,.slice (some ⟨2,0,none⟩) 1 1],.int .i64 0,.int .i64 0],[⟨[.int .i64 2],⟨1,3⟩,false⟩]⟩
theorem Ay:QJ Tryz.prog 29 E5:=Qn mixed Qy 200 (by kernel_rfl) (by kernel_rfl)
def F8:Memo:=⟨[.agg #[.int .i64 4,.slice (some ⟨0,0,none⟩) 1 1],.slice (some ⟨1,0,none⟩) 1 1,.int .i64 3],[⟨[.int .i64 3],⟨1,3⟩,true⟩,⟨[.int .i64 3],⟨1,3⟩,true⟩],.tuple #[.agg #[.int .i64 4,.slice (some ⟨2,0,none⟩) 1 1],.int .i64 0,.int .i64 0],[⟨[.int .i64 3],⟨1,3⟩,false⟩]⟩
theorem CX:QJ Tryz.prog 29 F8:=Qn mixed Qy 200 (by kernel_rfl) (by kernel_rfl)
def EY:Memo:=⟨[.agg #[.int .i64 4,.slice (some ⟨0,0,none⟩) 1 1],.slice (some ⟨1,0,none⟩) 1 1,.int .i64 3],[⟨[.int .i64 4],⟨1,3⟩,true⟩,⟨[.int .i64 4],⟨1,3⟩,true⟩],.tuple #[.agg #[.int .i64 4,.slice (some ⟨2,0,none⟩) 1 1],.int .i64 0,.int .i64 0],[⟨[.int .i64 4],⟨1,3⟩,false⟩]⟩
theorem Ct:QJ Tryz.prog 29 EY:=Qn mixed Qy 200 (by kernel_rfl) (by kernel_rfl)
def FD:Memo:=⟨[.agg #[.int .i64 4,.slice (some ⟨0,0,none⟩) 1 1],.slice (some ⟨1,0,none⟩) 1 1,.int .i64 3],[⟨[.int .i64 5],⟨1,3⟩,true⟩,⟨[.int .i64 5],⟨1,3⟩,true⟩],.tuple #[.agg #[.int .i64 4,.slice (some ⟨2,0,none⟩) 1 1],.int .i64 0,.int .i64 0],[⟨[.int .i64 5],⟨1,3⟩,false⟩]⟩
theorem AD:QJ Tryz.prog 29 FD:=Qn mixed Qy 200 (by kernel_rfl) (by kernel_rfl)
def Fk:Memo:=⟨[.agg #[.int .i64 4,.slice (some ⟨0,0,none⟩) 1 1],.slice (some ⟨1,0,none⟩) 1 1,.int .i64 3],[⟨[.int .i64 6],⟨1,3⟩,true⟩,⟨[.int .i64 6],⟨1,3⟩,true⟩],.tuple #[.agg #[.int .i64 4,.slice (some ⟨2,0,none⟩) 1 1],.int .i64 0,.int .i64 0],[⟨[.int .i64 6],⟨1,3⟩,false⟩]⟩
theorem Cr:QJ Tryz.prog 29 Fk:=Qn mixed Qy 200 (by kernel_rfl) (by kernel_rfl)
def ES:Memo:=⟨[.agg #[.int .i64 4,.slice (some ⟨0,0,none⟩) 1 1],.slice (some ⟨1,0,none⟩) 1 1,.int .i64 3],[⟨[.int .i64 7],⟨1,3⟩,true⟩,⟨[.int .i64 7],⟨1,3⟩,true⟩],.tuple #[.agg #[.int .i64 4,.slice (some ⟨2,0,none⟩) 1 1],.int .i64 0,.int .i64 0],[⟨[.int .i64 7],⟨1,3⟩,false⟩]⟩
theorem AG:QJ Tryz.prog 29 ES:=Qn mixed Qy 200 (by kernel_rfl) (by kernel_rfl)
def FT:Memo:=⟨[.agg #[.int .i64 4,.slice (some ⟨0,0,none⟩) 1 1],.slice (some ⟨1,0,none⟩) 1 1,.int .i64 3],[⟨[.int .i64 8],⟨1,3⟩,true⟩,⟨[.int .i64 8],⟨1,3⟩,true⟩],.tuple #[.agg #[.int .i64 4,.slice (some ⟨2,0,none⟩) 1 1],.int .i64 0,.int .i64 0],[⟨[.int .i64 8],⟨1,3⟩,false⟩]⟩
theorem AH:QJ Tryz.prog 29 FT:=Qn mixed Qy 200 (by kernel_rfl) (by kernel_rfl)
def Fa:Memo:=⟨[.agg #[.int .i64 4,.slice (some ⟨0,0,none⟩) 1 1],.slice (some ⟨1,0,none⟩) 1 1,.int .i64 3],[⟨[.int .i64 9],⟨1,3⟩,true⟩,⟨[.int .i64 9],⟨1,3⟩,true⟩],.tuple #[.agg #[.int .i64 4,.slice (some ⟨2,0,none⟩) 1 1],.int .i64 0,.int .i64 0],[⟨[.int .i64 9],⟨1,3⟩,false⟩]⟩
theorem Al:QJ Tryz.prog 29 Fa:=Qn mixed Qy 200 (by kernel_rfl) (by kernel_rfl)
def LJ:Memo:=⟨[.agg #[.int .i64 4,.slice (some ⟨0,0,none⟩) 1 1],.slice (some ⟨1,0,none⟩) 1 1,.int .i64 3],[⟨[.int .i64 10],⟨1,3⟩,true⟩,⟨[.int .i64 10],⟨1,3⟩,true⟩],.tuple #[.agg #[.int .i64 4,.slice (some ⟨2,0,none⟩) 1 1],.int .i64 0,.int .i64 0],[⟨[.int .i64 10],⟨1,3⟩,false⟩]⟩
theorem RW:QJ Tryz.prog 29 LJ:=Qn mixed Qy 200 (by kernel_rfl) (by kernel_rfl)
def Ll:Memo:=⟨[.agg #[.int .i64 4,.slice (some ⟨0,0,none⟩) 1 1],.slice (some ⟨1,0,none⟩) 1 1,.int .i64 3],[⟨[.int .i64 11],⟨1,3⟩,true⟩,⟨[.int .i64 11],⟨1,3⟩,true⟩],.tuple #[.agg #[.int .i64 4,.slice (some ⟨2,0,none⟩) 1 1],.int .i64 0,.int .i64 0],[⟨[.int .i64 11],⟨1,3⟩,false⟩]⟩
theorem Sj:QJ Tryz.prog 29 Ll:=Qn mixed Qy 200 (by kernel_rfl) (by kernel_rfl)
def C9:Memo:=⟨[.agg #[.int .i64 4,.slice (some ⟨0,0,none⟩) 1 1],.slice (some ⟨1,0,none⟩) 1 1,.int .i64 3],[⟨[.int .i64 12],⟨1,3⟩,true⟩,⟨[.int .i64 12],⟨1,3⟩,true⟩],.tuple #[.agg #[.int .i64 4,.slice (some ⟨2,0,none⟩) 1 1],.int .i64 0,.int .i64 0],[⟨[.int .i64 12],⟨1,3⟩,false⟩]⟩
theorem SD:QJ Tryz.prog 29 C9:=Qn mixed Qy 200 (by kernel_rfl) (by kernel_rfl)
def C5:Memo:=⟨[.agg #[.int .i64 4,.slice (some ⟨0,0,none⟩) 1 1],.slice (some ⟨1,0,none⟩) 1 1,.int .i64 3],[⟨[.int .i64 13],⟨1,3⟩,true⟩,⟨[.int .i64 13],⟨1,3⟩,true⟩],.tuple #[.agg #[.int .i64 4,.slice (some ⟨2,0,none⟩) 1 1],.int .i64 0,.int .i64 0],[⟨[.int .i64 13],⟨1,3⟩,false⟩]⟩
theorem Sl:QJ Tryz.prog 29 C5:=Qn mixed Qy 200 (by kernel_rfl) (by kernel_rfl)
def Lx:Memo:=⟨[.agg #[.int .i64 4,.slice (some ⟨0,0,none⟩) 1 1],.slice (some ⟨1,0,none⟩) 1 1,.int .i64 3],[⟨[.int .i64 14],⟨1,3⟩,true⟩,⟨[.int .i64 14],⟨1,3⟩,true⟩],.tuple #[.agg #[.int .i64 4,.slice (some ⟨2,0,none⟩) 1 1],.int .i64 0,.int .i64 0],[⟨[.int .i64 14],⟨1,3⟩,false⟩]⟩
theorem SC:QJ Tryz.prog 29 Lx:=Qn mixed Qy 200 (by kernel_rfl) (by kernel_rfl)
def L_:Memo:=⟨[.agg #[.int .i64 4,.slice (some ⟨0,0,none⟩) 1 1],.slice (some ⟨1,0,none⟩) 1 1,.int .i64 3],[⟨[.int .i64 15],⟨1,3⟩,true⟩,⟨[.int .i64 15],⟨1,3⟩,true⟩],.tuple #[.agg #[.int .i64 0,.slice none 0 0],.int .i64 0,.int .i64 9],[]⟩
theorem SU:QJ Tryz.prog 29 L_:=Qn mixed Qy 200 (by kernel_rfl) (by kernel_rfl)
def Q2w:List Memo:=[FE,I2,Ey,AZ,FC,Fs,Ev,Fp,EM,I5,Lp,LA,L4,Lj,Ck,LL,Fv,F3,E5,F8,EY,FD,Fk,ES,FT,Fa,LJ,Ll,C9,C5,Lx,L_]
theorem IU:∀ m∈Q2w,QJ Tryz.prog 29 m:=by
 intro m hm;simp only[Q2w,List.mem_cons,List.not_mem_nil,or_false] at hm;rcases hm with rfl|rfl|rfl|rfl|rfl|rfl|rfl|rfl|rfl|rfl|rfl|rfl|rfl|rfl|rfl|rfl|rfl|rfl|rfl|rfl|rfl|rfl|rfl|rfl|rfl|rfl|rfl|rfl|rfl|rfl|rfl|rfl
 ·exact A9
 ·exact Az
 ·exact Af
 ·exact Ac
 ·exact AU
 ·exact A4
 ·exact AR
 ·exact Cn
 ·exact Aq
 ·exact CC
 ·exact S9
 ·exact SM
 ·exact Su
 ·exact S4
 ·exact RZ
 ·exact Sy
 ·exact AK
 ·exact An
 ·exact Ay
 ·exact CX
 ·exact Ct
 ·exact AD
 ·exact Cr
 ·exact AG
 ·exact AH
 ·exact Al
 ·exact RW
 ·exact Sj
 ·exact SD
 ·exact Sl
 ·exact SC
 ·exact SU
def Q9j:List (Option FEnt):=[
 none,
 none,
 some (.code c2 [] 1),
 some (.code c3 [.tmp 4] 113),
 some (.code c4 [.tmp 4] 298),
 some (.code c5 [.tmp 4] 185),
 some (.code c6 [.tmp 2] 33),
 some (.code c7 [.tmp 6] 15),
 some (.code c8 [.tmp 6] 35),
 some (.code c9 [.tmp 0] 239),
 some (.code c10 [.cell 2 true 2] 10),
 some (.code c11 [.tmp 4,.tmp 5,.tmp 6] 40),
 some (.code c12 [.tmp 4] 38),
 some (.code c13 [.tmp 4] 31),
 some (.code c14 [.tmp 6] 22),
 some (.code c15 [.tmp 2] 22),
 some (.code c16 [.tmp 4] 46),
 some (.code c17 [.cell 4 true 2] 8),
 some (.code c18 [.cell 2 true 2] 48),
 some (.code c19 [.cell 2 true 2] 51),
 some (.code c20 [.cell 4 true 2,.tmp 5] 48),
 some (.code c21 [.tmp 2,.tmp 3] 39),
 some (.code c22 [.tmp 4,.tmp 5] 43),
 some (.code c23 [.cell 2 true 2] 10),
 some (.code c24 [.tmp 6] 25),
 some (.code c25 [.tmp 2] 55),
 some (.code c26 [.tmp 2,.tmp 3] 37),
 some (.code c27 [.cell 4 true 2,.tmp 5,.tmp 6] 78),
 some (.code c28 [.cell 8 true 4] 14),
 some (.codeM c29 [.cell 6 true 2,.tmp 7,.tmp 8] 84 Q2w),
 some (.code c30 [.cell 6 false 1,.tmp 7] 49),
 some (.code c31 [.cell 6 false 1,.tmp 7] 42),
 some (.code c32 [.cell 4 true 2,.tmp 5] 33),
 some (.code c33 [.tmp 4,.tmp 5,.tmp 6,.tmp 7] 30),
 some (.code c34 [.cell 2 true 2,.cell 3 true 2,.tmp 4] 20),
 some (.codeJ c35 [.tmp 2,.tmp 3] 30),
 some (.code c36 [.tmp 4] 28),
 some (.code c37 [.tmp 2] 27),
 some (.code c38 [.tmp 6] 11),
 some (.code c39 [.cell 4 true 2] 59),
 some (.code c40 [.tmp 2,.cell 3 true 2] 47),
 some (.code c41 [.tmp 4] 22),
 some (.code c42 [.tmp 4] 56),
 some (.code c43 [.tmp 4] 50),
 some (.code c44 [.tmp 2] 25),
 some (.code c45 [.tmp 2] 36),
 some (.code c46 [.tmp 4] 26),
 some (.code c47 [.tmp 2] 28),
 some (.code c48 [.tmp 4] 22),
 some (.code c49 [.tmp 5] 23),
 some (.code c50 [.tmp 4] 48),
 some (.code c51 [.tmp 2] 32),
 some (.code c52 [.tmp 6] 11),
 some (.code c53 [.tmp 2,.tmp 3] 102),
 some (.code c54 [] 64),
 some (.code c55 [.tmp 4] 21),
 some (.code c56 [.tmp 4] 16),
 some (.code c57 [.tmp 4,.tmp 5,.tmp 6,.tmp 7] 47),
 some (.code c58 [.cell 4 true 2] 47),
 some (.code c59 [.cell 2 true 2,.tmp 3] 61),
 some (.code c60 [.tmp 2] 17),
 some (.code c61 [] 11),
 some (.code c62 [.tmp 4] 19),
 some (.code c63 [.tmp 4] 9),
 some (.code c64 [.tmp 4] 13),
 some (.code c65 [.tmp 6] 36),
 some (.code c66 [.tmp 2] 20),
 some (.code c67 [.tmp 4] 27),
 some (.code c68 [.tmp 4] 17),
 some (.code c69 [.tmp 2] 4),
 some (.code c70 [.tmp 6] 17),
 some (.code c71 [.tmp 2] 14),
 some (.code c72 [.tmp 4,.tmp 5] 30),
 some (.code c73 [.tmp 2] 5),
 some (.code c74 [.tmp 4] 6),
 some (.code c75 [.tmp 4] 13),
 some (.code c76 [.cell 4 true 4] 20),
 some (.code c77 [.tmp 6] 29),
 some (.code c78 [.tmp 4] 81),
 some (.code c79 [.tmp 2] 4),
 some (.code c80 [.cell 6 true 4,.tmp 7] 40),
 some (.code c81 [.tmp 3] 18),
 some (.code c82 [.tmp 4] 27),
 some (.code c83 [.tmp 4] 25),
 some (.code c84 [] 37),
 some (.code c85 [] 50),
 some (.code c86 [.tmp 4] 23),
 some (.code c87 [.tmp 4] 20),
 some (.code c88 [.tmp 2] 4),
 some (.code c89 [] 134),
 some (.code c90 [.tmp 2] 8),
 some (.code c91 [.tmp 4] 19),
 some (.code c92 [] 20),
 some (.code c93 [.tmp 4,.tmp 5] 17),
 some (.code c94 [.tmp 4,.tmp 5] 51),
 some (.code c95 [.tmp 4] 13),
 some (.code c96 [] 22),
 some (.code c97 [.tmp 3] 20),
 some (.code c98 [.tmp 3] 13),
 some (.code c99 [.tmp 4] 43),
 some (.code Q82 [.tmp 4] 9),
 some (.code Q78 [] 19),
 some (.code Q7j [] 49),
 some (.code Q83 [] 56),
 some (.code Q7d [] 65),
 some (.code Q7y [.tmp 6,.tmp 7] 57),
 some (.code Q8h [] 32),
 some (.code Q8m [.tmp 6] 133),
 some (.code Q75 [.tmp 4] 17),
 some (.code Q8c [.tmp 8] 84),
 some (.code Q8a [.tmp 8,.tmp 9] 168),
 some (.code Q76 [.tmp 2] 19),
 some (.code Q87 [.tmp 2] 25),
 some .same,
 some (.code Q7s [.tmp 4] 17),
 some (.code Q7q [.tmp 4] 23),
 some (.code Q80 [.cell 2 true 256,.tmp 3] 21),
 some (.code Q7p [.tmp 4] 16),
 some (.code Q7l [.tmp 4] 22),
 some (.code Q7i [.tmp 4] 23),
 some (.code Q6y [.tmp 4] 34),
 some (.code Q7c [.tmp 4] 19),
 some (.code Q86 [] 76),
 some (.code Q7x [.tmp 2] 7),
 some (.code Q7u [.tmp 2] 33),
 some (.code Q72 [.tmp 6] 15),
 some (.code Q8p [.tmp 10] 36),
 some (.code Q89 [.tmp 2] 6),
 some (.code Q7w [.tmp 4] 10),
 some (.code Q74 [.tmp 2,.tmp 3] 19),
 some (.code Q7a [.tmp 4] 9),
 some (.code Q7k [.tmp 2,.tmp 3] 51),
 some (.code Q88 [.tmp 8,.tmp 9] 28),
 some (.code Q73 [.tmp 2,.tmp 3] 117),
 some (.code Q7o [.tmp 4] 187),
 some (.code Q8g [.tmp 2] 6),
 some (.code Q77 [.tmp 4] 8),
 some (.code Q7b [.tmp 2] 17),
 some (.code Q8j [.tmp 2] 6),
 none,
 some (.code Q7z [.tmp 4] 8)]
def tab:Tab:=fun f=>(Q9j[f]?).join
theorem Q1p:EntsOk Tryz.prog 0 Q9j:=⟨trivial,trivial,Q9g,Q91,Q93,fun5,Q90,Q9a,Q9f,Q8f,Q1w,Q25,Q5n,Q49,Q5x,Q68,Q59,Q5o,Q3h,Q1r,Q5h,Q6h,Q27,Q2j,Q19,Q2s,Q4b,Q5r,Q44,⟨Q0w,IU⟩,Q2z,Q1t,Q47,Q69,Q6k,Q4l,Q6f,Q2f,Q2g,Q3k,Q1l,Q6d,Q64,Q5l,Q5a,Q6i,Q5p,Q1s,Q10,Q67,Q4q,Q6g,Q2p,Q2h,Q38,Q1q,Q4x,Q4w,Q4d,Q4y,Q4k,Q6j,Q5m,Q1b,Q0v,Q2x,Q4j,Q5e,Q12,Q1a,Q1e,Q30,Q5w,Q5i,Q4a,Q1d,Q13,Q2k,Q3b,Q1y,Q31,Q2i,Q37,Q5t,Q20,Q2q,Q60,Q6n,Q5y,Q57,Q41,Q2a,Q2m,Q4c,Q61,Q66,Q3z,Q22,Q5k,Q4g,Q0t,OX,Oo,Q05,Q0g,Ox,O_,OQ,Q0b,On,OD,Q0q,OW,Po,Q0r,OC,ON,OV,Q0h,OM,Q0n,Q0s,OO,OU,Q0k,Q0u,OG,Om,Ov,Q03,Q00,Ou,Q0j,Q0l,OL,Q04,Q0d,Q02,Q0m,trivial,Q0c,trivial⟩
theorem Q4n:TabOk Tryz.prog tab:=LK Q1p
theorem Eu:PW tab 300 YJ [] c9 none (ET.of [] 239) CH.empty (Q16 false [.tmp 0] fun v _=>isTrue v)=true:=by kernel_rfl
theorem Og {σ:Heap}{K:Value→Heap→Prop}(hK:K (.bool true) σ):VCalled Tryz.prog 9 [] σ K:=Oe mixed Q4n 300 Q8f (by decide) Eu hK
end Go.Proofs.Tryz
namespace Go.Proofs.Tryz
open Go Go.V Go.Proofs
def Hb:AL (Unit):=.nil
def BL (d:Unit):Prop:=True
def DY (d:Unit):SV:=.val .bo true
def Bh (d:Unit):List OB:=[]
def NK:CSp:=V0 Hb BL DY Bh
abbrev Hg:Prop:=OkC Tryz.prog 9 NK
theorem BW:Hg:=IJ fun _ _ h=>Og h
def Gi:AL (Int×List Int):=(.one (.agg (.cons (.k (.i .i64)) (.one (.k (.list (.i .i64)))))))
def Pa (d:Int×List Int):Prop:=d.2.length≤1000
def NU (d:Int×List Int):SV:=.agg [.val (.i .i64) d.1,.lst 0]
def Mq (d:Int×List Int):List OB:=[.lst 3 (.i .i64) d.2 false]
def N0:CSp:=V0 Gi Pa NU Mq
def Yw (hk:Int) (lw:List Int):Prop :=
 (((List.length ([]:List Int))+(List.length lw))*8≤70368744177664)∧((hk=hk∧True∧(([]:List SV)=[]))∧(((([]:List Int)++lw)=lw∧((List.isEmpty lw)&&false)=false)∧True))
def Gp:Cx:=⟨[(3,(.i .i64))],[],10,[],0,[],[],[],[],false,[],[],[],[]⟩
def Rs (hk:Int) (lw:List Int):List (Nat×LoopAnn):=[]
theorem Rc (d:Int×List Int):gwp (Gp) (Rs d.1 d.2) c10 0 (U0 [.cell 2 true 2] (NU d) (Mq d)) (QS 10 (AL.can Gi d))=Yw d.1 d.2:=by kernel_rfl
abbrev Rb:Prop:=OkC Tryz.prog 10 N0
theorem TN (h:∀ (hk:Int) (lw:List Int),(lw.length≤1000)→Yw hk lw):OkC Tryz.prog 10 N0 :=
 Z8 Q1w mixed (C:=Gp) (V:=fun (d:Int×List Int)=>Yw d.1 d.2) ⟨.nil,XsOk.nil,ItsOk.nil,YlOk.nil,IysOk.nil,XfOk.nil⟩ (Rc) fun d hp=>h d.1 d.2 hp
theorem Tt:Rb:=TN fun hk lw h=>by
 have h1:lw.length*8≤70368744177664:=by omega
 simp[Yw,h1]
def M3:AL (Int×List Int):=(.one (.agg (.cons (.k (.i .i64)) (.one (.k (.list (.i .i64)))))))
def H4 (d:Int×List Int):Prop:=d.2.length≤1000
def UK (d:Int×List Int):SV:=.agg [.val (.i .i64) d.1,.lst 0]
def UG (d:Int×List Int):List OB:=[.lst 3 (.i .i64) d.2 false]
def V5:CSp:=V0 M3 H4 UK UG
def WI (hd:Int) (rows:List Int):Prop :=
 (((List.length ([]:List Int))+(List.length rows))*8≤70368744177664)∧((hd=hd∧True∧(([]:List SV)=[]))∧(((([]:List Int)++rows)=rows∧((List.isEmpty rows)&&false)=false)∧True))
def NY:Cx:=⟨[(3,(.i .i64))],[],10,[],0,[],[],[],[],false,[],[],[],[]⟩
def Pf (hd:Int) (rows:List Int):List (Nat×LoopAnn):=[]
theorem PE (d:Int×List Int):gwp (NY) (Pf d.1 d.2) c23 0 (U0 [.cell 2 true 2] (UK d) (UG d)) (QS 10 (AL.can M3 d))=WI d.1 d.2:=by kernel_rfl
abbrev Pz:Prop:=OkC Tryz.prog 23 V5
theorem P5 (h:∀ (hd:Int) (rows:List Int),(rows.length≤1000)→WI hd rows):OkC Tryz.prog 23 V5 :=
 Z8 Q2j mixed (C:=NY) (V:=fun (d:Int×List Int)=>WI d.1 d.2) ⟨.nil,XsOk.nil,ItsOk.nil,YlOk.nil,IysOk.nil,XfOk.nil⟩ (PE) fun d hp=>h d.1 d.2 hp
theorem P9:Pz:=P5 fun hd rows h=>by
 have h1:rows.length*8≤70368744177664:=by omega
 simp[WI,h1]
theorem Q1m {KK:Kind}{V:Type}(hk:∀ a b:KK.T,gq.keq KK a b=true↔a=b) (k:KK.T) (v:V) (e:KK.T) (d:V):∀ m:List (KK.T×V),(e=k→gq.aget KK (S5 KK m k v) e d=v∧gq.ahas KK (S5 KK m k v) e=true)∧(e≠k→gq.aget KK (S5 KK m k v) e d=gq.aget KK m e d∧gq.ahas KK (S5 KK m k v) e=gq.ahas KK m e)
 |[]=>by
  refine⟨fun h=>?_,fun h=>?_⟩
  ·subst h;have:=(hk e e).2 rfl;exact⟨by show (if gq.keq KK e e=true then v else d)=v;rw[if_pos this],by show (gq.keq KK e e||false)=true;rw[this];rfl⟩
  ·have:gq.keq KK e k=false:=by
    cases h2:gq.keq KK e k with
    |false=>rfl
    |true=>exact(h ((hk e k).1 h2)).elim
   exact⟨by show (if gq.keq KK e k=true then v else d)=d;rw[this,if_neg (by decide)],by show (gq.keq KK e k||false)=false;rw[this];rfl⟩
 |(a,b)::m=>by
  obtain⟨i1,i2⟩:=Q1m hk k v e d m;have eP:S5 KK ((a,b)::m) k v=if gq.keq KK k a=true then (k,v)::m else (a,b)::S5 KK m k v:=rfl
  have eG:∀ (a:KK.T) (b:V) m,gq.aget KK ((a,b)::m) e d=if gq.keq KK e a=true then b else gq.aget KK m e d:=fun _ _ _=>rfl
  have eH:∀ (a:KK.T) (b:V) m,gq.ahas KK ((a,b)::m) e=(gq.keq KK e a||gq.ahas KK m e):=fun _ _ _=>rfl;rw[eP];by_cases c:gq.keq KK k a=true
  ·have ca:=(hk k a).1 c;rw[if_pos c];refine⟨fun h=>?_,fun h=>?_⟩
   ·subst h;have:=(hk e e).2 rfl;rw[eG,eH,this,if_pos rfl];exact⟨rfl,rfl⟩
   ·have:gq.keq KK e k=false:=by
     cases h2:gq.keq KK e k with
     |false=>rfl
     |true=>exact(h ((hk e k).1 h2)).elim
    rw[eG,eH,eG,eH,←ca,this];exact⟨rfl,rfl⟩
  ·rw[if_neg c];refine⟨fun h=>?_,fun h=>?_⟩
   ·have:gq.keq KK e a=false:=by
     cases h2:gq.keq KK e a with
     |false=>rfl
     |true=>rw[h] at h2;exact(c h2).elim
    rw[eG,eH,this,if_neg (by decide)];obtain⟨j1,j2⟩:=i1 h;exact⟨j1,by rw[j2];rfl⟩
   ·obtain⟨j1,j2⟩:=i2 h;rw[eG,eH,eG,eH,j1,j2];exact⟨rfl,rfl⟩
def nxL (len:Nat) (lt b:Bool):Nat:=if b=lt then len+1 else 1
def nxF (len fi:Nat) (lt b:Bool):Nat:=if b=lt then fi else if fi=0 then len else fi
def QH (row fx k:Nat) (b:Bool):Int:=if row.testBit k=b then 0 else if fx.testBit k=true then 1048576 else 1
def Q3l (B:Nat) (top:Bool) (len fi:Nat) (lt:Bool):Int:=if (fi=0∨(lt=top∧B<len+fi)) then 1048576 else 0
def brV (B len:Nat) (lt:Bool) (Q3n c:Int) (b:Bool):Int:=if nxL len lt b≤B then Cv Q3n c else Q3n
def Qf (row fx B:Nat) (top:Bool):Nat→Nat→Nat→Bool→Int
 |0,len,fi,lt=>Q3l B top len fi lt
 |k+1,len,fi,lt=>brV B len lt (brV B len lt 1048576 (QH row fx k false+Qf row fx B top k (nxL len lt false) (nxF len fi lt false) false) false) (QH row fx k true+Qf row fx B top k (nxL len lt true) (nxF len fi lt true) true) true
def MW (row fx B:Nat) (top:Bool) (f:Nat→Bool):Nat→Nat→Nat→Bool→Int
 |0,len,fi,lt=>Q3l B top len fi lt
 |k+1,len,fi,lt=>if nxL len lt (f k)≤B then QH row fx k (f k)+MW row fx B top f k (nxL len lt (f k)) (nxF len fi lt (f k)) (f k) else 1048576
theorem XL (a b:Int):Cv a b=min a b:=by unfold Cv;split<;>omega
theorem JH (row fx k:Nat) (b:Bool):0≤QH row fx k b∧QH row fx k b≤1048576:=by unfold QH;split;omega;split<;>omega
theorem WT (row fx B:Nat) (top:Bool):∀ k len fi lt,0≤Qf row fx B top k len fi lt∧Qf row fx B top k len fi lt≤1048576
 |0,len,fi,lt=>by unfold Qf Q3l;split<;>omega
 |k+1,len,fi,lt=>by have h1:=WT row fx B top k (nxL len lt false) (nxF len fi lt false) false;have h2:=WT row fx B top k (nxL len lt true) (nxF len fi lt true) true;have c1:=JH row fx k false;have c2:=JH row fx k true;unfold Qf brV;simp only[XL];split<;>split<;>omega
theorem Nu {row fx B:Nat}{top:Bool}{f g:Nat→Bool}:∀ k len fi lt,(∀ j,j<k→f j=g j)→MW row fx B top f k len fi lt=MW row fx B top g k len fi lt
 |0,_,_,_,_=>rfl
 |k+1,len,fi,lt,h=>by unfold MW;rw[h k (by omega),Nu k _ _ _ fun j hj=>h j (by omega)]
theorem Dk (row fx B:Nat) (top:Bool) (k len fi:Nat) (lt:Bool):(∀ b,nxL len lt b≤B→Qf row fx B top (k+1) len fi lt≤QH row fx k b+Qf row fx B top k (nxL len lt b) (nxF len fi lt b) b) ∧
  (Qf row fx B top (k+1) len fi lt<1048576→∃ b,nxL len lt b≤B∧Qf row fx B top (k+1) len fi lt=QH row fx k b+Qf row fx B top k (nxL len lt b) (nxF len fi lt b) b):=by
 rw[Qf];unfold brV;simp only[XL];refine⟨fun b hb=>?_,fun h=>?_⟩
 ·cases b<;>rw[if_pos hb]<;>(try split)<;>omega
 ·by_cases h1:nxL len lt false≤B<;>by_cases h2:nxL len lt true≤B
  ·rw[if_pos h1,if_pos h2] at h ⊢;rcases Int.le_total (min 1048576 (QH row fx k false+Qf row fx B top k (nxL len lt false) (nxF len fi lt false) false)) (QH row fx k true+Qf row fx B top k (nxL len lt true) (nxF len fi lt true) true) with c|c
   ·exact⟨false,h1,by omega⟩
   ·exact⟨true,h2,by omega⟩
  ·rw[if_pos h1,if_neg h2] at h ⊢;exact⟨false,h1,by omega⟩
  ·rw[if_neg h1,if_pos h2] at h ⊢;exact⟨true,h2,by omega⟩
  ·rw[if_neg h1,if_neg h2] at h;omega
theorem RH (row fx B:Nat) (top:Bool) (f:Nat→Bool):∀ k len fi lt,Qf row fx B top k len fi lt≤MW row fx B top f k len fi lt
 |0,_,_,_=>Int.le_refl _
 |k+1,len,fi,lt=>by
  unfold MW;by_cases h:nxL len lt (f k)≤B
  ·rw[if_pos h];have h1:=(Dk row fx B top k len fi lt).1 (f k) h;have h2:=RH row fx B top f k (nxL len lt (f k)) (nxF len fi lt (f k)) (f k);omega
  ·rw[if_neg h];exact(WT ..).2
def pkB (row fx B:Nat) (top:Bool) (k len fi:Nat) (lt:Bool):Bool:=!(decide (nxL len lt false≤B)&&decide (QH row fx k false+Qf row fx B top k (nxL len lt false) (nxF len fi lt false) false=Qf row fx B top (k+1) len fi lt))
theorem Q0e {row fx B:Nat}{top:Bool}{k len fi:Nat}{lt:Bool}(h:Qf row fx B top (k+1) len fi lt<1048576):nxL len lt (pkB row fx B top k len fi lt)≤B∧Qf row fx B top (k+1) len fi lt=QH row fx k (pkB row fx B top k len fi lt)+Qf row fx B top k (nxL len lt (pkB row fx B top k len fi lt)) (nxF len fi lt (pkB row fx B top k len fi lt)) (pkB row fx B top k len fi lt):=by
 obtain⟨b,h1,h2⟩:=(Dk row fx B top k len fi lt).2 h;cases hp:pkB row fx B top k len fi lt with
 |false =>unfold pkB at hp;simp only[Bool.not_eq_false',Bool.and_eq_true,decide_eq_true_eq] at hp;exact⟨hp.1,hp.2.symm⟩
 |true =>
  cases b with
  |true=>exact⟨h1,h2⟩
  |false =>exfalso;unfold pkB at hp;rw[decide_eq_true h1,decide_eq_true h2.symm] at hp;cases hp
def L0 (row fx B:Nat) (top:Bool):Nat→Nat→Nat→Bool→Nat
 |0,_,_,_=>0
 |k+1,len,fi,lt=>(if pkB row fx B top k len fi lt=true then 2 ^ k else 0)+L0 row fx B top k (nxL len lt (pkB row fx B top k len fi lt)) (nxF len fi lt (pkB row fx B top k len fi lt)) (pkB row fx B top k len fi lt)
theorem SH (row fx B:Nat) (top:Bool):∀ k len fi lt,L0 row fx B top k len fi lt<2 ^ k
 |0,_,_,_=>by simp[L0]
 |k+1,len,fi,lt=>by unfold L0;have:=SH row fx B top k (nxL len lt (pkB row fx B top k len fi lt)) (nxF len fi lt (pkB row fx B top k len fi lt)) (pkB row fx B top k len fi lt);rw[Nat.pow_succ];split<;>omega
theorem Ex {k n:Nat}{b:Bool}(h:n<2 ^ k):((if b=true then 2 ^ k else 0)+n).testBit k=b∧∀ j,j<k→((if b=true then 2 ^ k else 0)+n).testBit j=n.testBit j:=by
 cases b with
 |false =>
  refine⟨?_,fun j hj=>?_⟩
  ·rw[if_neg (by decide),Nat.zero_add,Nat.testBit_lt_two_pow h]
  ·rw[if_neg (by decide),Nat.zero_add]
 |true =>
  rw[if_pos rfl];refine⟨?_,fun j hj=>?_⟩
  ·rw[Nat.testBit_two_pow_add_eq,Nat.testBit_lt_two_pow h];rfl
  ·rw[Nat.testBit_two_pow_add_gt hj]
theorem Ra {row fx B:Nat}{top:Bool}:∀ k len fi lt,Qf row fx B top k len fi lt<1048576→MW row fx B top (L0 row fx B top k len fi lt).testBit k len fi lt=Qf row fx B top k len fi lt
 |0,_,_,_,_=>rfl
 |k+1,len,fi,lt,h=>by
  obtain⟨h1,h2⟩:=Q0e h;rw[h2];unfold L0 MW;generalize pkB row fx B top k len fi lt=b at *
  have hc:=JH row fx k b;have ih:=Ra (row:=row) (fx:=fx) (B:=B) (top:=top) k (nxL len lt b) (nxF len fi lt b) b (by omega);have hl:=SH row fx B top k (nxL len lt b) (nxF len fi lt b) b;generalize L0 row fx B top k (nxL len lt b) (nxF len fi lt b) b=n at *
  obtain⟨t1,t2⟩:=Ex (b:=b) hl;rw[t1,if_pos h1,Nu k _ _ _ t2,ih]
def Xm (row fx B H:Nat) (top:Bool):Int:=QH row fx (H-1) top+Qf row fx B top (H-1) 1 0 top
def Ng (row fx B H:Nat):Bool:=decide (Xm row fx B H true<Cv (Xm row fx B H false) 1048576)
def XJ (row fx B H:Nat):Int:=if Ng row fx B H=true then Xm row fx B H true else Cv (Xm row fx B H false) 1048576
def K_ (row fx B H:Nat):Nat:=if XJ row fx B H<1048576 then (if Ng row fx B H=true then 2 ^ (H-1) else 0)+L0 row fx B (Ng row fx B H) (H-1) 1 0 (Ng row fx B H) else 0
def okW (H B:Nat) (f:Nat→Bool):Prop:=∀ k,k<H→∃ j,1≤j∧j≤B∧f ((k+j) % H)≠f k
def vP (B:Nat) (top:Bool) (f:Nat→Bool):Nat→Nat→Nat→Bool→Prop
 |0,len,fi,lt=>¬ (fi=0∨(lt=top∧B<len+fi))
 |k+1,len,fi,lt=>nxL len lt (f k)≤B∧vP B top f k (nxL len lt (f k)) (nxF len fi lt (f k)) (f k)
def cS (row fx:Nat) (f:Nat→Bool):Nat→Int
 |0=>0
 |k+1=>QH row fx k (f k)+cS row fx f k
theorem Q54 (row fx:Nat) (f:Nat→Bool):∀ k,0≤cS row fx f k
 |0=>Int.le_refl _
 |k+1=>by have:=Q54 row fx f k;have:=JH row fx k (f k);unfold cS;omega
theorem HS {row fx B:Nat}{top:Bool}{f:Nat→Bool}:∀ k len fi lt,(vP B top f k len fi lt→MW row fx B top f k len fi lt=cS row fx f k)∧(¬ vP B top f k len fi lt→1048576≤MW row fx B top f k len fi lt)
 |0,len,fi,lt=>by unfold vP MW Q3l cS;refine⟨fun h=>if_neg h,fun h=>?_⟩;rw[if_pos (Decidable.not_not.1 h)];omega
 |k+1,len,fi,lt=>by
  obtain⟨h1,h2⟩:=HS (row:=row) (fx:=fx) (B:=B) (top:=top) (f:=f) k (nxL len lt (f k)) (nxF len fi lt (f k)) (f k);have hc:=JH row fx k (f k);unfold vP MW cS;refine⟨fun ⟨a,b⟩=>?_,fun h=>?_⟩
  ·rw[if_pos a,h1 b]
  ·by_cases a:nxL len lt (f k)≤B
   ·rw[if_pos a];have:=h2 fun b=>h ⟨a,b⟩;omega
   ·rw[if_neg a];omega
def StB (H:Nat) (f:Nat→Bool) (k len fi:Nat):Prop:=1≤len∧k+len≤H∧(∀ j,j<len→f (k+j)=f k) ∧
 (fi=0∧k+len=H∨1≤fi∧k+len+fi≤H∧f (k+len)≠f k∧(∀ j,j<fi→f (H-1-j)=f (H-1))∧f (H-1-fi)≠f (H-1))
theorem Ln {H:Nat}{f:Nat→Bool}{k len fi:Nat}(h:StB H f (k+1) len fi):StB H f k (nxL len (f (k+1)) (f k)) (nxF len fi (f (k+1)) (f k)):=by
 obtain⟨h1,h2,h3,h4⟩:=h;unfold nxL nxF;by_cases e:f k=f (k+1)
 ·rw[if_pos e,if_pos e];refine⟨by omega,by omega,fun j hj=>?_,?_⟩
  ·cases j with
   |zero=>rfl
   |succ j =>have:=h3 j (by omega);rw[show k+(j+1)=k+1+j by omega,this,e]
  ·rcases h4 with⟨a,b⟩|⟨a,b,c,d,g⟩
   ·exact .inl ⟨a,by omega⟩
   ·refine .inr ⟨a,by omega,?_,d,g⟩;rw[show k+(len+1)=k+1+len by omega,e];exact c
 ·rw[if_neg e,if_neg e];refine⟨by omega,by omega,fun j hj=>by rw[show j=0 by omega];rfl,.inr ?_⟩;rcases h4 with⟨a,b⟩|⟨a,b,c,d,g⟩
  ·rw[if_pos a];have ht:∀ j,j<len→f (H-1-j)=f (k+1):=fun j hj=>by
    have:=h3 (len-1-j) (by omega);rw[show H-1-j=k+1+(len-1-j) by omega];exact this
   have h0:f (H-1)=f (k+1):=by have:=ht 0 (by omega);simpa using this
   refine⟨h1,by omega,fun h=>e h.symm,fun j hj=>by rw[ht j hj,h0],?_⟩;rw[show H-1-len=k by omega,h0];exact e
  ·rw[if_neg (by omega)];exact⟨a,by omega,fun h=>e h.symm,d,g⟩
theorem Q0i {H B:Nat}{f:Nat→Bool}(hB:1≤B):∀ k len fi,StB H f k len fi→len≤B→vP B (f (H-1)) f k len fi (f k)→(∀ i,k≤i→i+B<H→∃ j,1≤j∧j≤B∧f (i+j)≠f i)→okW H B f
 |0,len,fi,hs,hl,hv,hw=>by
  obtain⟨h1,h2,h3,h4⟩:=hs;unfold vP at hv;rcases h4 with⟨a,b⟩|⟨a,b,c,d,g⟩
  ·exact(hv (.inl a)).elim
  intro i hi;by_cases e:i+B<H
  ·obtain⟨j,j1,j2,j3⟩:=hw i (by omega) e;exact⟨j,j1,j2,by rw[Nat.mod_eq_of_lt (by omega)];exact j3⟩
  ·apply Classical.byContradiction;intro hn;have hall:∀ j,1≤j→j≤B→f ((i+j) % H)=f i:=fun j j1 j2=>Classical.byContradiction fun h=>hn ⟨j,j1,j2,h⟩;have et:f (H-1)=f i:=by
    by_cases e2:i=H-1
    ·rw[←e2]
    ·have:=hall (H-1-i) (by omega) (by omega);rw[Nat.mod_eq_of_lt (by omega),show i+(H-1-i)=H-1 by omega] at this;exact this
   have e0:f 0=f i:=by have:=hall (H-i) (by omega) (by omega);rw[show i+(H-i)=H by omega,Nat.mod_self] at this;exact this
   have hle:len+fi≤B:=by apply Classical.byContradiction;intro h;exact hv (.inr ⟨by rw[e0,et],by omega⟩)
   have jP:H≤i+fi:=by
    apply Classical.byContradiction;intro h;by_cases e2:i=H-1-fi
    ·rw[←e2,et] at g;exact g rfl
    ·have:=hall (H-1-fi-i) (by omega) (by omega);rw[Nat.mod_eq_of_lt (by omega),show i+(H-1-fi-i)=H-1-fi by omega] at this;exact g (by rw[this,et])
   have:=hall (H-i+len) (by omega) (by omega);rw[show i+(H-i+len)=len+H by omega,Nat.add_mod_right,Nat.mod_eq_of_lt (by omega)] at this;rw[Nat.zero_add] at c;exact c (by rw[this,e0])
 |k+1,len,fi,hs,hl,hv,hw=>by
  unfold vP at hv;have aX:=Ln hs;refine Q0i hB k _ _ aX hv.1 hv.2 fun i hi lR=>?_;by_cases e:i=k
  ·subst e;obtain⟨h1,h2,h3,h4⟩:=aX;have oY:=hv.1;generalize nxL len (f (i+1)) (f i)=lZ at *
   rcases h4 with⟨a,b⟩|⟨a,b,c,d,g⟩
   ·omega
   ·exact⟨lZ,h1,oY,c⟩
  ·exact hw i (by omega) lR
theorem OA {H B:Nat}{f:Nat→Bool}(ho:okW H B f):∀ k len fi,StB H f k len fi→vP B (f (H-1)) f k len fi (f k)
 |0,len,fi,hs=>by
  obtain⟨h1,h2,h3,h4⟩:=hs;unfold vP;rcases h4 with⟨a,b⟩|⟨a,b,c,d,g⟩
  ·exfalso;obtain⟨j,j1,j2,j3⟩:=ho 0 (by omega);have hm:=Nat.mod_lt (0+j) (show 0<H by omega);have:=h3 ((0+j) % H) (by omega);rw[Nat.zero_add] at this;exact j3 this
  ·rintro (h|⟨h,h5⟩)
   ·omega
   ·obtain⟨j,j1,j2,j3⟩:=ho (H-fi) (by omega);have ht:f (H-fi)=f (H-1):=by
     have:=d (fi-1) (by omega);rw[show H-1-(fi-1)=H-fi by omega] at this;exact this
    by_cases e:j<fi
    ·rw[Nat.mod_eq_of_lt (by omega),ht] at j3;have:=d (fi-1-j) (by omega);rw[show H-1-(fi-1-j)=H-fi+j by omega] at this;exact j3 this
    ·have e2:(H-fi+j) % H=j-fi:=by
      rw[show H-fi+j=(j-fi)+H by omega,Nat.add_mod_right,Nat.mod_eq_of_lt (by omega)]
     rw[e2,ht] at j3;have:=h3 (j-fi) (by omega);rw[Nat.zero_add] at this;exact j3 (by rw[this,h])
 |k+1,len,fi,hs=>by
  have aX:=Ln hs;unfold vP;refine⟨?_,OA ho k _ _ aX⟩;obtain⟨h1,h2,h3,-⟩:=aX;generalize nxL len (f (k+1)) (f k)=lZ at *
  apply Classical.byContradiction;intro hn;obtain⟨j,j1,j2,j3⟩:=ho k (by omega);rw[Nat.mod_eq_of_lt (by omega)] at j3;exact j3 (h3 j (by omega))
theorem Q6l {H B:Nat}{f:Nat→Bool}(hH:1≤H) (hB:1≤B):vP B (f (H-1)) f (H-1) 1 0 (f (H-1))↔okW H B f:=by have hs:StB H f (H-1) 1 0:=⟨Nat.le_refl _,by omega,fun j hj=>by rw[show j=0 by omega];rfl,.inl ⟨rfl,by omega⟩⟩;exact⟨fun h=>Q0i hB _ _ _ hs hB h fun i hi ja=>by omega,fun h=>OA h _ _ _ hs⟩
def IY (row fx B H:Nat) (f:Nat→Bool):Int:=QH row fx (H-1) (f (H-1))+MW row fx B (f (H-1)) f (H-1) 1 0 (f (H-1))
theorem Q06 {row fx B H:Nat}{f:Nat→Bool}(hH:1≤H) (hB:1≤B):(okW H B f→IY row fx B H f=cS row fx f H)∧(¬ okW H B f→1048576≤IY row fx B H f):=by obtain⟨h1,h2⟩:=HS (row:=row) (fx:=fx) (B:=B) (top:=f (H-1)) (f:=f) (H-1) 1 0 (f (H-1));rw[Q6l hH hB] at h1 h2;have hc:=JH row fx (H-1) (f (H-1));unfold IY;refine⟨fun h=>?_,fun h=>by have:=h2 h;omega⟩;rw[h1 h];obtain⟨m,rfl⟩:∃ m,H=m+1:=⟨H-1,by omega⟩;rfl
theorem Q1h {row fx B H:Nat}(f:Nat→Bool):XJ row fx B H≤IY row fx B H f∨1048576≤IY row fx B H f:=by
 have h1:=RH row fx B (f (H-1)) f (H-1) 1 0 (f (H-1));have hs:Xm row fx B H (f (H-1))≤IY row fx B H f:=by unfold Xm IY;omega
 unfold XJ Ng;rw[XL];by_cases c:Xm row fx B H true<min (Xm row fx B H false) 1048576
 ·rw[decide_eq_true c,if_pos rfl];cases hf:f (H-1) with
  |true=>rw[hf] at hs;exact .inl hs
  |false=>rw[hf] at hs;left;omega
 ·rw[decide_eq_false c,if_neg (by decide)];cases hf:f (H-1) with
  |true=>rw[hf] at hs;omega
  |false=>rw[hf] at hs;left;omega
theorem Ok {row fx B H:Nat}(hH:1≤H) (h:XJ row fx B H<1048576):K_ row fx B H<2 ^ H∧IY row fx B H (K_ row fx B H).testBit=XJ row fx B H:=by
 have bI:XJ row fx B H=Xm row fx B H (Ng row fx B H):=by
  unfold XJ at h ⊢;cases ht:Ng row fx B H with
  |true=>rw[if_pos rfl]
  |false =>rw[ht,if_neg (by decide),XL] at h;rw[if_neg (by decide),XL];omega
 unfold K_;rw[if_pos h];rw[bI] at h ⊢;generalize Ng row fx B H=b at *
 have hl:=SH row fx B b (H-1) 1 0 b;have hc:=JH row fx (H-1) b;have hp:=Ra (row:=row) (fx:=fx) (B:=B) (top:=b) (H-1) 1 0 b (by unfold Xm at h;omega);obtain⟨t1,t2⟩:=Ex (b:=b) hl;refine⟨?_,?_⟩
 ·obtain⟨m,rfl⟩:∃ m,H=m+1:=⟨H-1,by omega⟩;rw[Nat.add_sub_cancel] at hl ⊢;rw[Nat.pow_succ];split<;>omega
 ·unfold IY Xm;rw[t1,Nu (H-1) _ _ _ t2,hp]
theorem F2 {row fx:Nat}{f:Nat→Bool}:∀ k,(cS row fx f k<1048576→∀ j,j<k→fx.testBit j=true→f j=row.testBit j)∧((∀ j,j<k→fx.testBit j=true→f j=row.testBit j)→cS row fx f k≤k)
 |0=>⟨fun _ j hj=>by omega,fun _=>by simp[cS]⟩
 |k+1=>by
  obtain⟨h1,h2⟩:=F2 (row:=row) (fx:=fx) (f:=f) k;have hn:=Q54 row fx f k;have hc:=JH row fx k (f k);refine⟨fun h j hj hx=>?_,fun h=>?_⟩
  ·unfold cS at h;by_cases e:j=k
   ·subst e;unfold QH at h;by_cases c:row.testBit j=f j
    ·exact c.symm
    ·rw[if_neg c,if_pos hx] at h;omega
   ·exact h1 (by omega) j (by omega) hx
  ·have:=h2 fun j hj=>h j (by omega);unfold cS QH;by_cases c:row.testBit k=f k
   ·rw[if_pos c];omega
   ·rw[if_neg c,if_neg (fun hx=>c (h k (by omega) hx).symm)];omega
theorem Pv {row fx B H:Nat}(hH:1≤H∧H≤24) (hB:1≤B) (h:XJ row fx B H<1048576):K_ row fx B H<2 ^ H∧okW H B (K_ row fx B H).testBit∧(∀ j,j<H→fx.testBit j=true→(K_ row fx B H).testBit j=row.testBit j)∧XJ row fx B H=cS row fx (K_ row fx B H).testBit H:=by
 obtain⟨h1,h2⟩:=Ok hH.1 h;obtain⟨t1,t2⟩:=Q06 (row:=row) (fx:=fx) (f:=(K_ row fx B H).testBit) hH.1 hB;have ho:okW H B (K_ row fx B H).testBit:=Classical.byContradiction fun hn=>by have:=t2 hn;omega
 have e:=t1 ho;refine⟨h1,ho,(F2 H).1 (by omega),by omega⟩
theorem bind_none {row fx B H:Nat}(hH:1≤H∧H≤24) (hB:1≤B) {f:Nat→Bool}(ho:okW H B f) (hf:∀ j,j<H→fx.testBit j=true→f j=row.testBit j):XJ row fx B H<1048576:=by have e:=(Q06 (row:=row) (fx:=fx) (f:=f) hH.1 hB).1 ho;have hc:=(F2 (row:=row) (fx:=fx) (f:=f) H).2 hf;rcases Q1h (row:=row) (fx:=fx) (B:=B) (H:=H) f with h|h<;>omega
def UB (ln:Int) (lt b:Bool):Int:=if b=lt then ln+1 else 1
def BN (ln fi:Int) (lt b:Bool):Int:=if b=lt then fi else if fi=0 then ln else fi
theorem LY (n:Nat) (lt b:Bool):UB (n:Int) lt b=((nxL n lt b:Nat):Int):=by unfold UB nxL;split<;>simp
theorem L2 (n m:Nat) (lt b:Bool):BN (n:Int) (m:Int) lt b=((nxF n m lt b:Nat):Int):=by
 unfold BN nxF;split
 ·rfl
 ·by_cases h:m=0
  ·rw[if_pos (by omega),if_pos h]
  ·rw[if_neg (by omega),if_neg h]
theorem EZ {n B:Nat}{lt b:Bool}(h:1≤n):1≤nxL n lt b∧nxL n lt b≤n+1:=by unfold nxL;split<;>omega
theorem FJ {n m B:Nat}{lt b:Bool}(h:n≤B) (h2:m≤B):nxF n m lt b≤B:=by unfold nxF;split;exact h2;split<;>omega
abbrev BKk:Kind:=.pair (.i .i64) (.pair (.i .i64) (.pair (.i .i64) .bo))
def BS (rw fx bd:Int) (tp:Bool) (m:List ((Int×Int×Int×Bool)×Int)):Prop:=∀ k:Int×Int×Int×Bool,gq.ahas BKk m k=true→gq.aget BKk m k 0=Qf rw.toNat fx.toNat bd.toNat tp k.1.toNat k.2.1.toNat k.2.2.1.toNat k.2.2.2
def Sp (hd:Int) (rows ax:List Int) (bd:Int) (k:Nat):Int:=XJ (rows.getD k 0).toNat (ax.getD k 0).toNat bd.toNat hd.toNat
def Q6s (hd:Int) (rows ax:List Int) (bd:Int) (k:Nat):Int:=((K_ (rows.getD k 0).toNat (ax.getD k 0).toNat bd.toNat hd.toNat:Nat):Int)
def KL (hd:Int) (rows ax:List Int) (bd:Int):Bool:=(List.range rows.length).any fun k=>decide (1048576≤Sp hd rows ax bd k)
def Q7 (hd:Int) (rows ax:List Int) (bd:Int):Int:=if Qb hd rows≠0 then Qb hd rows else if ax.length≠rows.length then 4 else if (ax.any fun n=>!inI n 0 (2 ^ hd.toNat-1))=true then 2 else if inI bd 1 24=false then 3 else if KL hd rows ax bd=true then 9 else 0
def ND (hd:Int) (rows ax:List Int) (bd:Int) (n:Nat):List Int:=(List.range n).map (Q6s hd rows ax bd)
def NW (hd:Int) (rows ax:List Int) (bd:Int):Nat→Int
 |0=>0
 |n+1=>NW hd rows ax bd n+Sp hd rows ax bd n
def Qz (hd:Int) (rows ax:List Int) (bd:Int):List Int:=if Q7 hd rows ax bd=0 then ND hd rows ax bd rows.length else []
def AW (hd:Int) (rows ax:List Int) (bd:Int):Int:=if Q7 hd rows ax bd=0 then NW hd rows ax bd rows.length else 0
theorem CV (hd:Int) (rows ax:List Int) (bd:Int) (n:Nat):ND hd rows ax bd (n+1)=ND hd rows ax bd n++[Q6s hd rows ax bd n]:=by simp[ND,List.range_succ]
theorem Tm (hd:Int) (rows ax:List Int) (bd:Int) (n:Nat):(ND hd rows ax bd n).length=n:=by simp[ND]
theorem Q48 (a b:BKk.T):gq.keq BKk a b=true↔a=b:=by obtain⟨a1,a2,a3,a4⟩:=a;obtain⟨b1,b2,b3,b4⟩:=b;show ((a1==b1)&&((a2==b2)&&((a3==b3)&&(a4==b4))))=true↔_;simp only[Bool.and_eq_true,beq_iff_eq,Prod.mk.injEq]
theorem P4 (rw_ fx bd:Int) (tp:Bool):BS rw_ fx bd tp []:=fun k h=>by cases h
theorem IB {rw_ fx bd:Int}{tp:Bool}{m:List ((Int×Int×Int×Bool)×Int)}{k:Int×Int×Int×Bool}{v:Int}(h:BS rw_ fx bd tp m) (hv:v=Qf rw_.toNat fx.toNat bd.toNat tp k.1.toNat k.2.1.toNat k.2.2.1.toNat k.2.2.2):BS rw_ fx bd tp (S5 BKk m k v):=fun e he=>by
 obtain⟨h1,h2⟩:=Q1m Q48 k v e (0:Int) m;by_cases c:e=k
 ·rw[(h1 c).1,c];exact hv
 ·rw[(h2 c).2] at he;rw[(h2 c).1];exact h e he
theorem Q9h {hd:Int}{rows:List Int}(h:Qb hd rows=0):1≤hd∧hd≤24∧rows.length≤60∧rows.length≠0∧∀ x∈rows,0≤x∧x<2 ^ hd.toNat:=by
 unfold Qb at h;split at h
 ·cases h
 ·rename_i h1;split at h
  ·cases h
  ·rename_i h2;split at h
   ·cases h
   ·rename_i h3;split at h
    ·cases h
    ·rename_i h4;have h1:1≤hd∧hd≤24:=by simpa [inI] using h1
     refine⟨h1.1,h1.2,by omega,h3,fun x hx=>?_⟩;have h5:∀ x∈rows,inI x 0 (2 ^ hd.toNat-1)=true:=by simpa using h4
     have:=h5 x hx;simp only[inI,Bool.and_eq_true,decide_eq_true_eq] at this;omega
def Kd:AL (Int×Int×Int):=(.cons (.k (.i .i64)) (.cons (.ptr (.one (.k (.i .i64)))) (.one (.ptr (.one (.k (.i .i64)))))))
def NJ (d:Int×Int×Int):Prop:=True
def YE (d:Int×Int×Int):SV:=.val .bo (decide (d.1<d.2.1)||decide (d.2.2<d.1))
def Yv (d:Int×Int×Int):List OB:=[]
def Wf:CSp:=V0 Kd NJ YE Yv
def XB (n:Int) (a:Int) (b:Int):Prop :=
 (((decide (n<a))||(decide (n > b)))=(decide (n<a)||decide (b<n))∧(True))
def Y_:Cx:=⟨[],[],13,[],0,[],[],[],[],false,[],[],[],[]⟩
def MA (n:Int) (a:Int) (b:Int):List (Nat×LoopAnn):=[]
theorem ME (d:Int×Int×Int):gwp (Y_) (MA d.1 d.2.1 d.2.2) c75 0 (U0 [.tmp 4] (YE d) (Yv d)) (QS 13 (AL.can Kd d))=XB d.1 d.2.1 d.2.2:=by kernel_rfl
abbrev MB:Prop:=OkC Tryz.prog 75 Wf
theorem Mt (h:∀ (n:Int) (a:Int) (b:Int),(True)→XB n a b):OkC Tryz.prog 75 Wf :=
 Z8 Q1d mixed (C:=Y_) (V:=fun (d:Int×Int×Int)=>XB d.1 d.2.1 d.2.2) ⟨.nil,XsOk.nil,ItsOk.nil,YlOk.nil,IysOk.nil,XfOk.nil⟩ (ME) fun d hp=>h d.1 d.2.1 d.2.2 hp
theorem Mx:MB:=Mt fun n a b _=>by exact⟨rfl,trivial⟩
def Vc:AL (Int×Int×List Int):=(.cons (.k (.i .i64)) (.cons (.k (.i .i64)) (.one (.k (.list (.i .i64))))))
def GM (d:Int×Int×List Int):Prop:=d.2.2.length≤1000000
def KJ (d:Int×Int×List Int):SV:=.val .bo (!(d.2.2.any fun n=>decide (n<d.1)||decide (d.2.1<n)))
def KQ (d:Int×Int×List Int):List OB:=[]
def JC:CSp:=V0 Vc GM KJ KQ
def Yc (a:Int) (b:Int) (l:List Int):Prop :=
 (l.length≤1000000∧∀ x∈l,(fun (x1:Int)=>True) x)∧((!(l.any (fun (x1:Int)=>(decide (x1<a)||decide (b<x1)))))=(!(l.any fun n=>decide (n<a)||decide (b<n)))∧(True))
def VD:Cx:=⟨[],[(63,QA),(75,Wf)],11,[],0,[],[],[],[],false,[],[],[],[]⟩
def DT (a:Int) (b:Int) (l:List Int):List (Nat×LoopAnn):=[]
theorem Dz (d:Int×Int×List Int):gwp (VD) (DT d.1 d.2.1 d.2.2) c52 0 (U0 [.tmp 6] (KJ d) (KQ d)) (QS 11 (AL.can Vc d))=Yc d.1 d.2.1 d.2.2:=by kernel_rfl
abbrev D9:Prop:=OkC Tryz.prog 52 JC
theorem D7 (h:∀ (a:Int) (b:Int) (l:List Int),(l.length≤1000000)→Yc a b l):OkC Tryz.prog 52 JC :=
 Z8 Q2p mixed (C:=VD) (V:=fun (d:Int×Int×List Int)=>Yc d.1 d.2.1 d.2.2) ⟨(.cons ZE (.cons Mx .nil)),XsOk.nil,ItsOk.nil,YlOk.nil,IysOk.nil,XfOk.nil⟩ (Dz) fun d hp=>h d.1 d.2.1 d.2.2 hp
theorem WZ:D9:=D7 fun a b l h=>by exact⟨⟨h,fun _ _=>trivial⟩,rfl,trivial⟩
def UP:AL (Int×List Int):=(.one (.agg (.cons (.k (.i .i64)) (.one (.k (.list (.i .i64)))))))
def Di (d:Int×List Int):Prop:=d.2.length≤1000000
def VL (d:Int×List Int):SV:=.val (.i .i64) (Qb d.1 d.2)
def VF (d:Int×List Int):List OB:=[]
def Xc:CSp:=V0 UP Di VL VF
def XP (hd:Int) (rows:List Int):Prop :=
 ([hd].length≤1000000)∧((!(!([hd].any fun n=>decide (n<(1:Int))||decide ((24:Int)<n))))=true →
  ((2:Int)=(Qb hd rows)∧(True))) ∧
 ((!(!([hd].any fun n=>decide (n<(1:Int))||decide ((24:Int)<n))))=false →
  ((decide ((lI rows) > (60:Int)))=true →
   ((5:Int)=(Qb hd rows)∧(True))) ∧
  ((decide ((lI rows) > (60:Int)))=false →
   (((lI rows)==(0:Int))=true →
    ((7:Int)=(Qb hd rows)∧(True))) ∧
   (((lI rows)==(0:Int))=false →
    (0≤hd)∧(I64 (Vf .i64 (1:Int) hd))∧(I64 ((Vf .i64 (1:Int) hd)-(1:Int)))∧(rows.length≤1000000)∧((!(!(rows.any fun n=>decide (n<(0:Int))||decide (((Vf .i64 (1:Int) hd)-(1:Int))<n))))=true →
     ((2:Int)=(Qb hd rows)∧(True))) ∧
    ((!(!(rows.any fun n=>decide (n<(0:Int))||decide (((Vf .i64 (1:Int) hd)-(1:Int))<n))))=false →
     ((0:Int)=(Qb hd rows)∧(True))))))
def UO:Cx:=⟨[(3,(.i .i64))],[(52,JC)],28,[],0,[],[],[],[],false,[],[],[],[]⟩
def B_ (hd:Int) (rows:List Int):List (Nat×LoopAnn):=[]
theorem Hh (d:Int×List Int):gwp (UO) (B_ d.1 d.2) c47 0 (U0 [.tmp 2] (VL d) (VF d)) (QS 28 (AL.can UP d))=XP d.1 d.2:=by kernel_rfl
abbrev Hc:Prop:=OkC Tryz.prog 47 Xc
theorem BR (h:∀ (hd:Int) (rows:List Int),(rows.length≤1000000)→XP hd rows):OkC Tryz.prog 47 Xc :=
 Z8 Q1s mixed (C:=UO) (V:=fun (d:Int×List Int)=>XP d.1 d.2) ⟨(.cons WZ .nil),XsOk.nil,ItsOk.nil,YlOk.nil,IysOk.nil,XfOk.nil⟩ (Hh) fun d hp=>h d.1 d.2 hp
theorem Bx {h:Int}(h1:0≤h) (h2:h≤62):Vf .i64 1 h=2 ^ h.toNat:=by obtain⟨n,rfl⟩:=Int.eq_ofNat_of_zero_le h1;have:Nat.min n 64=n:=Nat.min_eq_left (by omega);simp only[Vf,Int.toNat_natCast,IntKind.bits,this,Int.one_mul]
theorem X8 {h:Int}(h1:1≤h) (h2:h≤24):(2:Int)≤2 ^ h.toNat∧(2:Int) ^ h.toNat≤16777216:=by
 obtain⟨n,rfl⟩:=Int.eq_ofNat_of_zero_le (show 0≤h by omega);have a1:2 ^ 1≤2 ^ n:=Nat.pow_le_pow_right (by omega) (by omega);have a2:2 ^ n≤2 ^ 24:=Nat.pow_le_pow_right (by omega) (by omega);simp only[Int.toNat_natCast];have e:((2:Int) ^ n)=((2 ^ n:Nat):Int):=by norm_cast
 rw[e];omega
theorem YS:Hc:=BR fun hd rows hl=>by
 unfold XP;(try delta lI gD sT I64 Q1 pj8 pj4);simp only[true_and,and_true,eq_self_iff_true,exists_eq_left',exists_const,decide_eq_true_eq,decide_eq_false_iff_not,beq_iff_eq,bne_iff_ne,ne_eq,beq_eq_false_iff_ne,bne_eq_false_iff_eq,Bool.not_eq_true',Bool.not_eq_false',Bool.not_eq_true,Bool.not_eq_false,Int.toNat_natCast,Int.ofNat_lt,gt_iff_lt,ge_iff_le,Bool.not_not];simp only[←nI];refine⟨by simp,fun h1=>by simp at h1;simp[Qb,h1],fun h1=>⟨fun h2=>?_,fun h2=>⟨fun h3=>?_,fun h3=>?_⟩⟩⟩;all_goals simp only[List.any_cons,List.any_nil,Bool.or_false,Bool.not_eq_false'] at h1
 ·have:60<rows.length:=by omega
  simp[Qb,h1,this]
 ·have h3:rows.length=0:=by omega
  simp[Qb,h1,h3]
 have gW:¬ 60<rows.length:=by omega
 have gX:¬ rows.length=0:=by omega
 have hi:1≤hd∧hd≤24:=by simpa [inI] using h1
 have hp:=X8 hi.1 hi.2;have qM:Qb hd rows=if rows.any (fun x=>!inI x 0 (2 ^ hd.toNat-1)) then 2 else 0:=by simp only[Qb,h1,gW,gX];simp
 rw[qM];simp only[Q9,Bx (show 0≤hd by omega) (by omega)];refine⟨by omega,by omega,by omega,by omega,fun h=>by rw[if_pos h],fun h=>by rw[h];rfl⟩
theorem P6 {x h:Int}(hx:0≤x∧x<16777216) (h0:0≤h∧h≤24):((JL .and .i64 (RU .i64 x h) 1)==1)=x.toNat.testBit h.toNat:=by
 obtain⟨n,rfl⟩:=Int.eq_ofNat_of_zero_le hx.1;obtain⟨i,rfl⟩:=Int.eq_ofNat_of_zero_le h0.1;have:Nat.min i 64=i:=Nat.min_eq_left (by omega);have e1:RU .i64 (n:Int) i=((n >>> i:Nat):Int):=by simp only[RU,Int.toNat_natCast,IntKind.bits,this];rw[Nat.shiftRight_eq_div_pow,Int.fdiv_eq_ediv_of_nonneg _ (Int.le_of_lt (Int.pow_pos (by omega)))];norm_cast
 have h1:n >>> i≤n:=by rw[Nat.shiftRight_eq_div_pow];exact Nat.div_le_self _ _
 have e2:JL .and .i64 ((n >>> i:Nat):Int) 1=(((n >>> i) &&& 1:Nat):Int):=by
  generalize n >>> i=y at *
  have e:(BitVec.ofInt 64 ((y:Nat):Int) &&& BitVec.ofInt 64 ((1:Nat):Int)).toNat=y &&& 1:=by
   rw[BitVec.toNat_and,BitVec.toNat_ofInt,BitVec.toNat_ofInt];congr 1
   ·omega
  have hle:y &&& 1≤1:=Nat.and_le_right;show IntKind.wrap .i64 ((BitVec.ofInt 64 ((y:Nat):Int) &&& BitVec.ofInt 64 ((1:Nat):Int)).toNat:Int)=_;rw[e];generalize y &&& 1=c at *
  simp[IntKind.wrap,IntKind.bits,IntKind.signed];omega
 rw[e1,e2,Int.toNat_natCast,Int.toNat_natCast,Nat.testBit];rw[Bool.eq_iff_iff];simp only[beq_iff_eq,bne_iff_ne,ne_eq];rw[Nat.and_comm,Nat.one_and_eq_mod_two];omega
def Wi:AL ((Int×Int×Unit×Unit×Unit×Unit)×Int×Bool):=(.cons (.ptr (.cons (.k (.i .i64)) (.cons (.k (.i .i64)) (.cons .any (.cons .any (.cons .any (.one .any))))))) (.cons (.k (.i .i64)) (.one (.k .bo))))
def VS (d:(Int×Int×Unit×Unit×Unit×Unit)×Int×Bool):Prop:=(0≤d.1.1∧d.1.1<16777216)∧(0≤d.1.2.1∧d.1.2.1<16777216)∧0≤d.2.1∧d.2.1≤24
def W6 (d:(Int×Int×Unit×Unit×Unit×Unit)×Int×Bool):SV:=.val (.i .i64) (QH d.1.1.toNat d.1.2.1.toNat d.2.1.toNat d.2.2)
def We (d:(Int×Int×Unit×Unit×Unit×Unit)×Int×Bool):List OB:=[]
def ZK:CSp:=V0 Wi VS W6 We
def Zs (rw:Int) (fx:Int) (h:Int) (lt:Bool):Prop :=
 (0≤h)∧((((JL .and .i64 (RU .i64 rw h) (1:Int))==(1:Int))==lt)=true →
  ((0:Int)=(QH rw.toNat fx.toNat h.toNat lt)∧(True))) ∧
 ((((JL .and .i64 (RU .i64 rw h) (1:Int))==(1:Int))==lt)=false →
  (0≤h)∧(((JL .and .i64 (RU .i64 fx h) (1:Int))==(1:Int))=true →
   ((1048576:Int)=(QH rw.toNat fx.toNat h.toNat lt)∧(True))) ∧
  (((JL .and .i64 (RU .i64 fx h) (1:Int))==(1:Int))=false →
   ((1:Int)=(QH rw.toNat fx.toNat h.toNat lt)∧(True))))
def Wn:Cx:=⟨[],[],29,[],0,[],[],[],[],false,[],[],[],[]⟩
def U9 (rw:Int) (fx:Int) (h:Int) (lt:Bool):List (Nat×LoopAnn):=[]
theorem Ua (d:(Int×Int×Unit×Unit×Unit×Unit)×Int×Bool):gwp (Wn) (U9 d.1.1 d.1.2.1 d.2.1 d.2.2) c77 0 (U0 [.tmp 6] (W6 d) (We d)) (QS 29 (AL.can Wi d))=Zs d.1.1 d.1.2.1 d.2.1 d.2.2:=by kernel_rfl
abbrev Up:Prop:=OkC Tryz.prog 77 ZK
theorem Ux (h:∀ (rw:Int) (fx:Int) (h:Int) (lt:Bool),((0≤rw∧rw<16777216)∧(0≤fx∧fx<16777216)∧0≤h∧h≤24)→Zs rw fx h lt):OkC Tryz.prog 77 ZK :=
 Z8 Q2k mixed (C:=Wn) (V:=fun (d:(Int×Int×Unit×Unit×Unit×Unit)×Int×Bool)=>Zs d.1.1 d.1.2.1 d.2.1 d.2.2) ⟨.nil,XsOk.nil,ItsOk.nil,YlOk.nil,IysOk.nil,XfOk.nil⟩ (Ua) fun d hp=>h d.1.1 d.1.2.1 d.2.1 d.2.2 hp
theorem Wt:Up:=Ux fun rw_ fx h lt hp=>by
 obtain⟨h1,h2,h3,h4⟩:=hp;unfold Zs;(try delta lI gD sT I64 Q1 pj8 pj4);rw[P6 h1 ⟨h3,h4⟩,P6 h2 ⟨h3,h4⟩];unfold QH;refine⟨by omega,fun c=>?_,fun c=>⟨by omega,fun c2=>?_,fun c2=>?_⟩⟩
 ·have c:=eq_of_beq c;rw[if_pos c];exact(by and_intros<;>first|rfl|trivial|simp)
 ·rw[if_neg (by simpa using c),if_pos c2];exact(by and_intros<;>first|rfl|trivial|simp)
 ·rw[if_neg (by simpa using c),if_neg (by rw[c2];decide)];exact(by and_intros<;>first|rfl|trivial|simp)
def Wv:AL ((Unit×Unit×Unit×Int×Unit×Unit)×(Int×Int×Int×Bool)×Bool):=(.cons (.ptr (.cons .any (.cons .any (.cons .any (.cons (.k (.i .i64)) (.cons .any (.one .any))))))) (.cons (.agg (.cons (.k (.i .i64)) (.cons (.k (.i .i64)) (.cons (.k (.i .i64)) (.one (.k .bo)))))) (.one (.k .bo))))
def Vm (d:(Unit×Unit×Unit×Int×Unit×Unit)×(Int×Int×Int×Bool)×Bool):Prop:=(0≤d.2.1.1∧d.2.1.1≤24)∧(1≤d.2.1.2.1∧d.2.1.2.1≤24)∧(0≤d.2.1.2.2.1∧d.2.1.2.2.1≤24)
def W0 (d:(Unit×Unit×Unit×Int×Unit×Unit)×(Int×Int×Int×Bool)×Bool):SV:=.tup [.agg [.val (.i .i64) (d.2.1.1-1),.val (.i .i64) (UB d.2.1.2.1 d.2.1.2.2.2 d.2.2),.val (.i .i64) (BN d.2.1.2.1 d.2.1.2.2.1 d.2.1.2.2.2 d.2.2),.val .bo d.2.2],.val .bo (decide (UB d.2.1.2.1 d.2.1.2.2.2 d.2.2≤d.1.2.2.2.1))]
def W2 (d:(Unit×Unit×Unit×Int×Unit×Unit)×(Int×Int×Int×Bool)×Bool):List OB:=[]
def ZI:CSp:=V0 Wv Vm W0 W2
def Zq (bd:Int) (lf:Int) (ln:Int) (fi:Int) (lt:Bool) (b:Bool):Prop :=
 (I64 (lf-(1:Int)))∧((b==lt)=true →
  (I64 (ln+(1:Int)))∧((((lf-(1:Int))=(lf-1)∧(ln+(1:Int))=(UB ln lt b)∧fi=(BN ln fi lt b)∧b=b∧(([]:List SV)=[]))∧(decide ((ln+(1:Int))≤bd))=(decide (UB ln lt b≤bd))∧(([]:List SV)=[]))∧(True))) ∧
 ((b==lt)=false →
  ((fi==(0:Int))=true →
   ((((lf-(1:Int))=(lf-1)∧(1:Int)=(UB ln lt b)∧ln=(BN ln fi lt b)∧b=b∧(([]:List SV)=[]))∧(decide ((1:Int)≤bd))=(decide (UB ln lt b≤bd))∧(([]:List SV)=[]))∧(True))) ∧
  ((fi==(0:Int))=false →
   ((((lf-(1:Int))=(lf-1)∧(1:Int)=(UB ln lt b)∧fi=(BN ln fi lt b)∧b=b∧(([]:List SV)=[]))∧(decide ((1:Int)≤bd))=(decide (UB ln lt b≤bd))∧(([]:List SV)=[]))∧(True))))
def Wy:Cx:=⟨[],[],40,[],0,[],[],[],[],false,[],[],[],[]⟩
def Ud (bd:Int) (lf:Int) (ln:Int) (fi:Int) (lt:Bool) (b:Bool):List (Nat×LoopAnn):=[]
theorem Uv (d:(Unit×Unit×Unit×Int×Unit×Unit)×(Int×Int×Int×Bool)×Bool):gwp (Wy) (Ud d.1.2.2.2.1 d.2.1.1 d.2.1.2.1 d.2.1.2.2.1 d.2.1.2.2.2 d.2.2) c80 0 (U0 [.cell 6 true 4,.tmp 7] (W0 d) (W2 d)) (QS 40 (AL.can Wv d))=Zq d.1.2.2.2.1 d.2.1.1 d.2.1.2.1 d.2.1.2.2.1 d.2.1.2.2.2 d.2.2:=by kernel_rfl
abbrev Uw:Prop:=OkC Tryz.prog 80 ZI
theorem Uj (h:∀ (bd:Int) (lf:Int) (ln:Int) (fi:Int) (lt:Bool) (b:Bool),((0≤lf∧lf≤24)∧(1≤ln∧ln≤24)∧(0≤fi∧fi≤24))→Zq bd lf ln fi lt b):OkC Tryz.prog 80 ZI :=
 Z8 Q31 mixed (C:=Wy) (V:=fun (d:(Unit×Unit×Unit×Int×Unit×Unit)×(Int×Int×Int×Bool)×Bool)=>Zq d.1.2.2.2.1 d.2.1.1 d.2.1.2.1 d.2.1.2.2.1 d.2.1.2.2.2 d.2.2) ⟨.nil,XsOk.nil,ItsOk.nil,YlOk.nil,IysOk.nil,XfOk.nil⟩ (Uv) fun d hp=>h d.1.2.2.2.1 d.2.1.1 d.2.1.2.1 d.2.1.2.2.1 d.2.1.2.2.2 d.2.2 hp
theorem WB:Uw:=Uj fun bd lf ln fi lt b hp=>by
 obtain⟨h1,h2,h3⟩:=hp;unfold Zq;(try delta lI gD sT I64 Q1 pj8 pj4);unfold UB BN;refine⟨by rw[Q9];omega,fun c=>?_,fun c=>⟨fun c2=>?_,fun c2=>?_⟩⟩
 ·have c:=eq_of_beq c;refine⟨by rw[Q9];omega,?_⟩;rw[if_pos c,if_pos c];exact(by and_intros<;>first|rfl|trivial|simp)
 ·have c:¬ b=lt:=by simpa using c
  have c2:=eq_of_beq c2;rw[if_neg c,if_neg c,if_pos c2];exact(by and_intros<;>first|rfl|trivial|simp)
 ·have c:¬ b=lt:=by simpa using c
  have c2:¬ fi=0:=by simpa using c2
  rw[if_neg c,if_neg c,if_neg c2];exact(by and_intros<;>first|rfl|trivial|simp)
def Gf:AL (Bool):=(.one (.k .bo))
def Pq (d:Bool):Prop:=True
def Mn (d:Bool):SV:=.val (.i .i64) (if d=true then 1 else 0)
def NT (d:Bool):List OB:=[]
def Nq:CSp:=V0 Gf Pq Mn NT
def YG (b:Bool):Prop :=
 (b=true →
  ((1:Int)=(if b=true then 1 else 0)∧(True))) ∧
 (b=false →
  ((0:Int)=(if b=true then 1 else 0)∧(True)))
def Ge:Cx:=⟨[],[],4,[],0,[],[],[],[],false,[],[],[],[]⟩
def Tq (b:Bool):List (Nat×LoopAnn):=[]
theorem Tr (d:Bool):gwp (Ge) (Tq d) c79 0 (U0 [.tmp 2] (Mn d) (NT d)) (QS 4 (AL.can Gf d))=YG d:=by kernel_rfl
abbrev R5:Prop:=OkC Tryz.prog 79 Nq
theorem Rz (h:∀ (b:Bool),(True)→YG b):OkC Tryz.prog 79 Nq :=
 Z8 Q1y mixed (C:=Ge) (V:=fun (d:Bool)=>YG d) ⟨.nil,XsOk.nil,ItsOk.nil,YlOk.nil,IysOk.nil,XfOk.nil⟩ (Tr) fun d hp=>h d hp
theorem TL:R5:=Rz fun b _=>by unfold YG;cases b<;>simp
def Z_:AL (Int×Int×Int×Int×Bool):=(.cons (.k (.i .i64)) (.cons (.k (.i .i64)) (.cons (.k (.i .i64)) (.cons (.k (.i .i64)) (.one (.k .bo))))))
def ZZ:AL (Int×Int×Int×Bool):=(.one (.agg (.cons (.k (.i .i64)) (.cons (.k (.i .i64)) (.cons (.k (.i .i64)) (.one (.k .bo)))))))
def Xr (m:List ((Int×Int×Int×Bool)×Int)) (c:Int×Int×Int×Int×Bool) (a:Int×Int×Int×Bool):Prop:=(0≤c.1∧c.1<16777216)∧(0≤c.2.1∧c.2.1<16777216)∧(1≤c.2.2.2.1∧c.2.2.2.1≤24)∧(0≤a.1∧a.1≤23)∧(1≤a.2.1∧a.2.1≤24)∧(0≤a.2.2.1∧a.2.2.1≤24)∧BS c.1 c.2.1 c.2.2.2.1 c.2.2.2.2 m
def ZX (m:List ((Int×Int×Int×Bool)×Int)) (c:Int×Int×Int×Int×Bool) (a:Int×Int×Int×Bool):SV:=.val (.i .i64) (Qf c.1.toNat c.2.1.toNat c.2.2.2.1.toNat c.2.2.2.2 a.1.toNat a.2.1.toNat a.2.2.1.toNat a.2.2.2)
def ZN (m:List ((Int×Int×Int×Bool)×Int)) (c:Int×Int×Int×Int×Bool) (a:Int×Int×Int×Bool) (m2:List ((Int×Int×Int×Bool)×Int)):Prop:=BS c.1 c.2.1 c.2.2.2.1 c.2.2.2.2 m2
def W9 (c:Int×Int×Int×Int×Bool) (a:Int×Int×Int×Bool):Nat:=a.1.toNat
def Ju:XSp:=Vy DQ 5 (.pair (.i .i64) (.pair (.i .i64) (.pair (.i .i64) .bo))) (.i .i64) (C_ Z_ ZZ Xr ZX ZN)
def Zd (a_:Nat) (m:List ((Int×Int×Int×Bool)×Int)) (rw:Int) (fx:Int) (hk:Int) (bd:Int) (tp:Bool) (lf:Int) (ln:Int) (fi:Int) (lt:Bool):Prop:=∀ vals:List Value,
 ((lf==(0:Int))=true →
  ((fi==(0:Int))=false→(lt==tp)=true→InK .i64 (ln+fi))∧(((fi==(0:Int))||((lt==tp)&&(decide ((ln+fi) > bd))))=true →
   (vals=vals∧(True∧(([]:List SV)=[]))∧(1048576:Int)=(Qf rw.toNat fx.toNat bd.toNat tp lf.toNat ln.toNat fi.toNat lt)∧(BS rw fx bd tp m))) ∧
  (((fi==(0:Int))||((lt==tp)&&(decide ((ln+fi) > bd))))=false →
   (vals=vals∧(True∧(([]:List SV)=[]))∧(0:Int)=(Qf rw.toNat fx.toNat bd.toNat tp lf.toNat ln.toNat fi.toNat lt)∧(BS rw fx bd tp m)))) ∧
 ((lf==(0:Int))=false →
  ((gq.ahas (.pair (.i .i64) (.pair (.i .i64) (.pair (.i .i64) .bo))) m (lf,(ln,(fi,lt))))=true →
   (vals=vals∧(True∧(([]:List SV)=[]))∧(gq.aget (.pair (.i .i64) (.pair (.i .i64) (.pair (.i .i64) .bo))) m (lf,(ln,(fi,lt))) 0)=(Qf rw.toNat fx.toNat bd.toNat tp lf.toNat ln.toNat fi.toNat lt)∧(BS rw fx bd tp m))) ∧
  ((gq.ahas (.pair (.i .i64) (.pair (.i .i64) (.pair (.i .i64) .bo))) m (lf,(ln,(fi,lt))))=false →
   ∃ (e3:Unit) (d30:(List ((Int×Int×Int×Bool)×Int))×Int×Int),(((rw=rw∧fx=fx∧hk=hk∧bd=bd∧tp=tp∧True∧(([]:List SV)=[]))∧True∧(1048576:Int)=d30.2.1∧(false=false∧true=true∧(([]:List SV)=[]))∧(0:Int)=d30.2.2∧True)∧((m=d30.1)∧(lf=lf∧ln=ln∧fi=fi∧lt=lt∧(([]:List SV)=[]))∧(vals=vals∧(True∧(([]:List SV)=[])))∧True)) ∧
   LoopP (fun (d3:(List ((Int×Int×Int×Bool)×Int))×Int×Int) (q3:((List ((Int×Int×Int×Bool)×Int))×Int×Int)→Prop) =>
    ((decide (d3.2.2<(2:Int)))=true →
     (0≤d3.2.2)∧(d3.2.2<(2:Int)) ∧
     (d3.2.2=(0:Int) →
      ((0≤lf∧lf≤24)∧(1≤ln∧ln≤24)∧(0≤fi∧fi≤24))∧((decide (UB ln lt false≤bd))=true →
       ((0≤rw∧rw<16777216)∧(0≤fx∧fx<16777216)∧0≤(lf-1)∧(lf-1)≤24)∧(((0≤rw∧rw<16777216)∧(0≤fx∧fx<16777216)∧(1≤bd∧bd≤24)∧(0≤(lf-1)∧(lf-1)≤23)∧(1≤(UB ln lt false)∧(UB ln lt false)≤24)∧(0≤(BN ln fi lt false)∧(BN ln fi lt false)≤24)∧BS rw fx bd tp d3.1)∧((lf-1).toNat)<a_)∧(∀ m4:List ((Int×Int×Int×Bool)×Int),(BS rw fx bd tp m4)→(I64 ((QH rw.toNat fx.toNat (lf-1).toNat false)+(Qf rw.toNat fx.toNat bd.toNat tp (lf-1).toNat (UB ln lt false).toNat (BN ln fi lt false).toNat false)))∧(I64 (d3.2.2+(1:Int)))∧(∃ d5:(List ((Int×Int×Int×Bool)×Int))×Int×Int,(((rw=rw∧fx=fx∧hk=hk∧bd=bd∧tp=tp∧True∧(([]:List SV)=[]))∧True∧(Cv d3.2.1 ((QH rw.toNat fx.toNat (lf-1).toNat false)+(Qf rw.toNat fx.toNat bd.toNat tp (lf-1).toNat (UB ln lt false).toNat (BN ln fi lt false).toNat false)))=d5.2.1∧(false=false∧true=true∧(([]:List SV)=[]))∧(d3.2.2+(1:Int))=d5.2.2∧True)∧((m4=d5.1)∧(lf=lf∧ln=ln∧fi=fi∧lt=lt∧(([]:List SV)=[]))∧(vals=vals∧(True∧(([]:List SV)=[])))∧True))∧q3 d5))) ∧
      ((decide (UB ln lt false≤bd))=false →
       (I64 (d3.2.2+(1:Int)))∧(∃ d6:(List ((Int×Int×Int×Bool)×Int))×Int×Int,(((rw=rw∧fx=fx∧hk=hk∧bd=bd∧tp=tp∧True∧(([]:List SV)=[]))∧True∧d3.2.1=d6.2.1∧(false=false∧true=true∧(([]:List SV)=[]))∧(d3.2.2+(1:Int))=d6.2.2∧True)∧((d3.1=d6.1)∧(lf=lf∧ln=ln∧fi=fi∧lt=lt∧(([]:List SV)=[]))∧(vals=vals∧(True∧(([]:List SV)=[])))∧True))∧q3 d6))) ∧
     (d3.2.2=(1:Int) →
      ((0≤lf∧lf≤24)∧(1≤ln∧ln≤24)∧(0≤fi∧fi≤24))∧((decide (UB ln lt true≤bd))=true →
       ((0≤rw∧rw<16777216)∧(0≤fx∧fx<16777216)∧0≤(lf-1)∧(lf-1)≤24)∧(((0≤rw∧rw<16777216)∧(0≤fx∧fx<16777216)∧(1≤bd∧bd≤24)∧(0≤(lf-1)∧(lf-1)≤23)∧(1≤(UB ln lt true)∧(UB ln lt true)≤24)∧(0≤(BN ln fi lt true)∧(BN ln fi lt true)≤24)∧BS rw fx bd tp d3.1)∧((lf-1).toNat)<a_)∧(∀ m7:List ((Int×Int×Int×Bool)×Int),(BS rw fx bd tp m7)→(I64 ((QH rw.toNat fx.toNat (lf-1).toNat true)+(Qf rw.toNat fx.toNat bd.toNat tp (lf-1).toNat (UB ln lt true).toNat (BN ln fi lt true).toNat true)))∧(I64 (d3.2.2+(1:Int)))∧(∃ d8:(List ((Int×Int×Int×Bool)×Int))×Int×Int,(((rw=rw∧fx=fx∧hk=hk∧bd=bd∧tp=tp∧True∧(([]:List SV)=[]))∧True∧(Cv d3.2.1 ((QH rw.toNat fx.toNat (lf-1).toNat true)+(Qf rw.toNat fx.toNat bd.toNat tp (lf-1).toNat (UB ln lt true).toNat (BN ln fi lt true).toNat true)))=d8.2.1∧(false=false∧true=true∧(([]:List SV)=[]))∧(d3.2.2+(1:Int))=d8.2.2∧True)∧((m7=d8.1)∧(lf=lf∧ln=ln∧fi=fi∧lt=lt∧(([]:List SV)=[]))∧(vals=vals∧(True∧(([]:List SV)=[])))∧True))∧q3 d8))) ∧
      ((decide (UB ln lt true≤bd))=false →
       (I64 (d3.2.2+(1:Int)))∧(∃ d9:(List ((Int×Int×Int×Bool)×Int))×Int×Int,(((rw=rw∧fx=fx∧hk=hk∧bd=bd∧tp=tp∧True∧(([]:List SV)=[]))∧True∧d3.2.1=d9.2.1∧(false=false∧true=true∧(([]:List SV)=[]))∧(d3.2.2+(1:Int))=d9.2.2∧True)∧((d3.1=d9.1)∧(lf=lf∧ln=ln∧fi=fi∧lt=lt∧(([]:List SV)=[]))∧(vals=vals∧(True∧(([]:List SV)=[])))∧True))∧q3 d9))) ∧
     True) ∧
    ((decide (d3.2.2<(2:Int)))=false →
     (vals=vals∧(True∧(([]:List SV)=[]))∧d3.2.1=(Qf rw.toNat fx.toNat bd.toNat tp lf.toNat ln.toNat fi.toNat lt)∧(BS rw fx bd tp (S5 (.pair (.i .i64) (.pair (.i .i64) (.pair (.i .i64) .bo))) d3.1 (lf,(ln,(fi,lt))) d3.2.1))))) d30))
def cx_point_binder_least:Cx:=⟨[],[(80,ZI),(77,ZK)],81,[],0,[],[],[],[],false,[],[],[],[]⟩
def W1 (m:List ((Int×Int×Int×Bool)×Int)) (rw:Int) (fx:Int) (hk:Int) (bd:Int) (tp:Bool) (lf:Int) (ln:Int) (fi:Int) (lt:Bool) (vals:List Value):List (Nat×LoopAnn):=[(0,⟨Unit,(List ((Int×Int×Int×Bool)×Int))×Int×Int,[0,3,7,50,51],fun e x=>[.cp [.val (.i .i64) rw,.val (.i .i64) fx,.val (.i .i64) hk,.val (.i .i64) bd,.val .bo tp,.map 0] 0,.box 3 0,.val (.i .i64) x.2.1,.agg [.val .bo false,.val .bo true],.val (.i .i64) x.2.2],fun e x=>[(0,.key 0,.map (.pair (.i .i64) (.pair (.i .i64) (.pair (.i .i64) .bo))) (.i .i64) x.1),(3,.slot 3,.cells [.val (.i .i64) lf,.val (.i .i64) ln,.val (.i .i64) fi,.val .bo lt] (some 155)),(4000000,.key 4000000,.stk [.map 0] vals)]⟩)]
theorem VA (a_:Nat) (m:List ((Int×Int×Int×Bool)×Int)) (c:Int×Int×Int×Int×Bool) (a:Int×Int×Int×Bool):(∀ vals,gwp {cx_point_binder_least with xs:=(78,Vy DQ 5 (.pair (.i .i64) (.pair (.i .i64) (.pair (.i .i64) .bo))) (.i .i64) (C_ Z_ ZZ (fun m c a=>Xr m c a∧W9 c a<a_) ZX ZN))::cx_point_binder_least.xs} (W1 m c.1 c.2.1 c.2.2.1 c.2.2.2.1 c.2.2.2.2 a.1 a.2.1 a.2.2.1 a.2.2.2 vals) c78 0 (A7 vals [.tmp 4] (ZX m c a) (.pair (.i .i64) (.pair (.i .i64) (.pair (.i .i64) .bo))) (.i .i64) (ZN m c a)) (mstart 81 5 (.pair (.i .i64) (.pair (.i .i64) (.pair (.i .i64) .bo))) (.i .i64) m vals (AL.can Z_ c) (AL.can ZZ a)))=Zd a_ m c.1 c.2.1 c.2.2.1 c.2.2.2.1 c.2.2.2.2 a.1 a.2.1 a.2.2.1 a.2.2.2:=by kernel_rfl
abbrev Vu:Prop:=Oa Tryz.prog 78 Ju 5
theorem VI (h:∀ (a_:Nat) (m:List ((Int×Int×Int×Bool)×Int)) (rw:Int) (fx:Int) (hk:Int) (bd:Int) (tp:Bool) (lf:Int) (ln:Int) (fi:Int) (lt:Bool),((0≤rw∧rw<16777216)∧(0≤fx∧fx<16777216)∧(1≤bd∧bd≤24)∧(0≤lf∧lf≤23)∧(1≤ln∧ln≤24)∧(0≤fi∧fi≤24)∧BS rw fx bd tp m)→(lf.toNat)=a_→Zd a_ m rw fx hk bd tp lf ln fi lt):Oa Tryz.prog 78 Ju 5 :=
 Bk Q3b mixed BG rfl (μ:=W9) (C:=cx_point_binder_least) ⟨(.cons WB (.cons Wt .nil)),XsOk.nil,ItsOk.nil,YlOk.nil,IysOk.nil,XfOk.nil⟩ rfl (L:=fun m (c:Int×Int×Int×Int×Bool) (a:Int×Int×Int×Bool) vals=>W1 m c.1 c.2.1 c.2.2.1 c.2.2.2.1 c.2.2.2.2 a.1 a.2.1 a.2.2.1 a.2.2.2 vals) (V:=fun a_ m (c:Int×Int×Int×Int×Bool) (a:Int×Int×Int×Bool)=>Zd a_ m c.1 c.2.1 c.2.2.1 c.2.2.2.1 c.2.2.2.2 a.1 a.2.1 a.2.2.1 a.2.2.2) VA fun n m c a hp hn=>h n m c.1 c.2.1 c.2.2.1 c.2.2.2.1 c.2.2.2.2 a.1 a.2.1 a.2.2.1 a.2.2.2 hp hn
theorem Xn:Vu:=VI fun a_ m rw_ fx hk bd tp lf ln fi lt h hn=>by
 obtain⟨h1,h2,h3,h4,h5,h6,h7⟩:=h;unfold Zd;(try delta lI gD sT I64 Q1 pj8 pj4);intro vals;simp only[true_and,and_true];obtain⟨k,rfl⟩:=Int.eq_ofNat_of_zero_le h4.1;obtain⟨n,rfl⟩:=Int.eq_ofNat_of_zero_le (show 0≤ln by omega);obtain⟨f,rfl⟩:=Int.eq_ofNat_of_zero_le h6.1;obtain⟨B,rfl⟩:=Int.eq_ofNat_of_zero_le (show 0≤bd by omega);simp only[LY,L2,Int.toNat_natCast] at hn ⊢;refine⟨fun c=>?_,fun c=>⟨fun c2=>?_,fun c2=>?_⟩⟩
 ·have c:k=0:=by have:=eq_of_beq c;omega
  subst c;refine⟨fun _ _=>by rw[Q9];omega,fun c2=>⟨?_,h7⟩,fun c2=>⟨?_,h7⟩⟩
  ·unfold Qf Q3l;rw[if_pos];simp only[Bool.or_eq_true,beq_iff_eq,Bool.and_eq_true,decide_eq_true_eq] at c2;rcases c2 with c2|⟨c2,c3⟩
   ·left;omega
   ·right;exact⟨c2,by omega⟩
  ·unfold Qf Q3l;rw[if_neg];simp only[Bool.or_eq_false_iff,beq_eq_false_iff_ne,Bool.and_eq_false_iff,decide_eq_false_iff_not] at c2;rintro (c3|⟨c3,c4⟩)
   ·exact c2.1 (by omega)
   ·rcases c2.2 with c5|c5
    ·exact c5 c3
    ·exact c5 (by omega)
 ·exact⟨h7 ((k:Int),(n:Int),(f:Int),lt) c2,h7⟩
 ·have c:k≠0:=by
   have c:¬ ((k:Int)=0):=by simpa using c
   omega
  obtain⟨k,rfl⟩:∃ j,k=j+1:=⟨k-1,by omega⟩;have ek:((k+1:Nat):Int)-1=(k:Int):=by omega
  simp only[ek,Int.toNat_natCast] at hn ⊢;have bl:∀ b,0≤QH rw_.toNat fx.toNat k b∧QH rw_.toNat fx.toNat k b≤1048576:=fun b=>JH _ _ _ _;have ll:∀ b,0≤Qf rw_.toNat fx.toNat B tp k (nxL n lt b) (nxF n f lt b) b∧Qf rw_.toNat fx.toNat B tp k (nxL n lt b) (nxF n f lt b) b≤1048576:=fun b=>WT _ _ _ _ _ _ _ _;have nl:∀ b,nxL n lt b≤B→1≤nxL n lt b∧nxL n lt b≤24:=fun b h=>⟨(EZ (B:=B) (by omega)).1,by omega⟩;have nf:∀ b,nxF n f lt b≤24:=fun b=>FJ (by omega) (by omega);have step:Qf rw_.toNat fx.toNat B tp (k+1) n f lt=brV B n lt (brV B n lt 1048576 (QH rw_.toNat fx.toNat k false+Qf rw_.toNat fx.toNat B tp k (nxL n lt false) (nxF n f lt false) false) false) (QH rw_.toNat fx.toNat k true+Qf rw_.toNat fx.toNat B tp k (nxL n lt true) (nxF n f lt true) true) true:=rfl;refine⟨(),(m,1048576,0),by and_intros<;>first|rfl|trivial,?_⟩;refine⟨fun d=>BS rw_ fx (B:Int) tp d.1∧(d.2.2=0∧d.2.1=1048576∨d.2.2=1∧d.2.1=brV B n lt 1048576 (QH rw_.toNat fx.toNat k false+Qf rw_.toNat fx.toNat B tp k (nxL n lt false) (nxF n f lt false) false) false∨d.2.2=2∧d.2.1=Qf rw_.toNat fx.toNat B tp (k+1) n f lt),fun d=>2-d.2.2.toNat,⟨h7,.inl ⟨rfl,rfl⟩⟩,?_⟩;rintro⟨m1,b,i⟩ ⟨e1,e2⟩;dsimp only at e1 e2 ⊢;refine⟨fun g=>?_,fun g=>?_⟩
  ·have g:=of_decide_eq_true g;refine⟨by omega,by omega,fun i0=>?_,fun i1=>?_⟩
   ·subst i0;have eb:b=1048576:=by rcases e2 with e|e|e<;>omega
    refine⟨⟨by omega,by omega,by omega⟩,fun c3=>?_,fun c3=>?_⟩
    ·have c3:=of_decide_eq_true c3;have iS:nxL n lt false≤B:=by omega
     have w1:=nl false iS;have w2:=nf false;have w3:=bl false;have w4:=ll false;refine⟨⟨h1,h2,by omega,by omega⟩,⟨⟨h1,h2,by omega,by omega,by omega,by omega,e1⟩,by omega⟩,fun m4 qP=>⟨by rw[Q9];omega,by rw[Q9];omega,(m4,Cv b (QH rw_.toNat fx.toNat k false+Qf rw_.toNat fx.toNat B tp k (nxL n lt false) (nxF n f lt false) false),1),by and_intros<;>first|rfl|trivial,⟨qP,.inr (.inl ⟨rfl,?_⟩)⟩,by dsimp only;decide⟩⟩;dsimp only;rw[eb];unfold brV;rw[if_pos iS]
    ·have c3:=of_decide_eq_false c3;have iS:¬ nxL n lt false≤B:=by omega
     refine⟨by rw[Q9];omega,(m1,b,1),by and_intros<;>first|rfl|trivial,⟨e1,.inr (.inl ⟨rfl,?_⟩)⟩,by dsimp only;decide⟩;dsimp only;rw[eb];unfold brV;rw[if_neg iS]
   ·subst i1;have eb:b=brV B n lt 1048576 (QH rw_.toNat fx.toNat k false+Qf rw_.toNat fx.toNat B tp k (nxL n lt false) (nxF n f lt false) false) false:=by
     rcases e2 with e|e|e
     ·omega
     ·exact e.2
     ·omega
    refine⟨⟨by omega,by omega,by omega⟩,fun c3=>?_,fun c3=>?_⟩
    ·have c3:=of_decide_eq_true c3;have iS:nxL n lt true≤B:=by omega
     have w1:=nl true iS;have w2:=nf true;have w3:=bl true;have w4:=ll true;refine⟨⟨h1,h2,by omega,by omega⟩,⟨⟨h1,h2,by omega,by omega,by omega,by omega,e1⟩,by omega⟩,fun m4 qP=>⟨by rw[Q9];omega,by rw[Q9];omega,(m4,Cv b (QH rw_.toNat fx.toNat k true+Qf rw_.toNat fx.toNat B tp k (nxL n lt true) (nxF n f lt true) true),2),by and_intros<;>first|rfl|trivial,⟨qP,.inr (.inr ⟨rfl,?_⟩)⟩,by dsimp only;decide⟩⟩;dsimp only;rw[eb,step];exact(if_pos iS).symm
    ·have c3:=of_decide_eq_false c3;have iS:¬ nxL n lt true≤B:=by omega
     refine⟨by rw[Q9];omega,(m1,b,2),by and_intros<;>first|rfl|trivial,⟨e1,.inr (.inr ⟨rfl,?_⟩)⟩,by dsimp only;decide⟩;dsimp only;rw[eb,step];exact(if_neg iS).symm
  ·have g:=of_decide_eq_false g;have eb:b=Qf rw_.toNat fx.toNat B tp (k+1) n f lt:=by
    rcases e2 with e|e|e
    ·omega
    ·omega
    ·exact e.2
   exact⟨eb,IB e1 eb⟩
def NM:AL ((Int×List Int)×List Int×Int):=(.cons (.agg (.cons (.k (.i .i64)) (.one (.k (.list (.i .i64)))))) (.cons (.k (.list (.i .i64))) (.one (.k (.i .i64)))))
def BY (d:(Int×List Int)×List Int×Int):Prop:=d.1.2.length≤1000∧d.2.1.length≤1000
def UT (d:(Int×List Int)×List Int×Int):SV:=.tup [.agg [.val (.i .i64) (if Q7 d.1.1 d.1.2 d.2.1 d.2.2=0 then d.1.1 else 0),.lst 0],.val (.i .i64) (AW d.1.1 d.1.2 d.2.1 d.2.2),.val (.i .i64) (Q7 d.1.1 d.1.2 d.2.1 d.2.2)]
def UH (d:(Int×List Int)×List Int×Int):List OB:=[.lst 3 (.i .i64) (Qz d.1.1 d.1.2 d.2.1 d.2.2) ((Qz d.1.1 d.1.2 d.2.1 d.2.2).isEmpty)]
def Yu:CSp:=V0 NM BY UT UH
abbrev LZ:=fun (d25:(List ((Int×Int×Int×Bool)×Int))×Int) (aq:Int×Int×Int×Int×Bool×Int×(List Int)×Int×Int×(List Int)×Int×(List Int)×Int×Int×Int×(List Int)×Int×Int×Bool×Int×Int×Int×(List Int)×Int×Int×Int×Int×Int×Int×Int×Int×Bool×(List Value)) (ae:Int×Int×Int×Int×Bool×Int×Int×Int×Int×Int×Bool×Int×Bool×Bool×(List Int)×Int×Int×(List Int)×Int×(List Int)×Int×Int×Int×(List Int)×Int×Int×Bool×Int×Int×Int×(List Int)×Int×Int×Int×Int×Int×Int×Int×Int×Bool×(List Value)) (jg:_→Prop) (bt:Bool)=>(( I64 ( (pj8 ae).2.2.2.1-( QH ae.1.toNat ae.2.1.toNat ( (pj4 ae).2.2.2.1-( 1:Int ) ).toNat bt ) ) )∧( 0≤( 1:Int ) )∧( I64 ( Vf .i64 (pj4 ae).2.1 ( 1:Int ) ) )∧( True )∧( ∃ g8:( List ( ( Int×Int×Int×Bool )×Int ) )×Int×Int×Int×Int×Bool×Int ,( ( True∧( JL .or .i64 ( Vf .i64 (pj4 ae).2.1 ( 1:Int ) ) ( if bt=true then 1 else 0 ) )=g8.2.1∧(pj4 ae).2.2.1=(pj4 aq).2.1∧True∧( (pj8 ae).2.2.2.1-( QH ae.1.toNat ae.2.1.toNat ( (pj4 ae).2.2.2.1-( 1:Int ) ).toNat bt ) )=g8.2.2.2.2.2.2∧True )∧( ( ae.1=aq.1∧ae.2.1=aq.2.1∧ae.2.2.1=aq.2.2.1∧ae.2.2.2.1=aq.2.2.2.1∧(pj4 ae).1=(pj4 aq).1∧True∧( ( [ ]:List SV )=[ ] ) )∧( d25.1=g8.1 )∧( ( (pj4 ae).2.2.2.1-1 )=g8.2.2.1∧( UB (pj8 ae).1 (pj8 ae).2.2.1 bt )=g8.2.2.2.1∧( BN (pj8 ae).1 (pj8 ae).2.1 (pj8 ae).2.2.1 bt )=g8.2.2.2.2.1∧bt=g8.2.2.2.2.2.1∧( ( [ ]:List SV )=[ ] ) )∧( (Q1 (Q1 aq))=(pj8 (Q1 (Q1 ae)))∧( True∧(pj4 (pj8 ae)).2.2.1=(pj4 aq).2.2.1∧(pj4 (pj8 ae)).2.2.2.1=(pj4 aq).2.2.2.1∧True∧True∧True∧True∧(pj4 (Q1 ae)).1=(pj4 (pj8 aq)).1∧True∧True∧(pj4 (Q1 ae)).2.1=(pj4 (pj8 aq)).2.1∧(pj4 (Q1 ae)).2.2.1=(pj4 (pj8 aq)).2.2.1∧True∧True∧True∧True∧True∧True∧True∧True∧True∧True∧True∧True∧True∧True∧True∧True∧True∧True∧True∧True∧True∧True∧True∧True∧True∧True∧True∧True∧True∧True∧True∧True∧True∧True∧True∧True∧(pj4 (Q1 ae)).2.2.2.1=(pj4 (pj8 aq)).2.2.2.1∧(pj8 (Q1 ae)).1=(Q1 aq).1∧(pj8 (Q1 ae)).2.1=(Q1 aq).2.1∧(pj8 (Q1 ae)).2.2.1=(Q1 aq).2.2.1∧(pj8 (Q1 ae)).2.2.2.1=(Q1 aq).2.2.2.1∧True∧(pj4 (pj8 (Q1 ae))).1=(pj4 (Q1 aq)).1∧True∧(pj4 (pj8 (Q1 ae))).2.1=(pj4 (Q1 aq)).2.1∧(pj4 (pj8 (Q1 ae))).2.2.1=(pj4 (Q1 aq)).2.2.1∧(pj4 (pj8 (Q1 ae))).2.2.2.1=(pj4 (Q1 aq)).2.2.2.1∧True∧(Q1 (Q1 ae)).1=(pj8 (Q1 aq)).1∧True∧(Q1 (Q1 ae)).2.1=(pj8 (Q1 aq)).2.1∧(Q1 (Q1 ae)).2.2.1=(pj8 (Q1 aq)).2.2.1∧( (Q1 (Q1 ae)).2.2.2.1=(pj8 (Q1 aq)).2.2.2.1∧(pj4 (Q1 (Q1 ae))).1=(pj4 (pj8 (Q1 aq))).1∧(pj4 (Q1 (Q1 ae))).2.1=(pj4 (pj8 (Q1 aq))).2.1∧(pj4 (Q1 (Q1 ae))).2.2.1=(pj4 (pj8 (Q1 aq))).2.2.1∧(pj4 (Q1 (Q1 ae))).2.2.2.1=(pj4 (pj8 (Q1 aq))).2.2.2.1∧True∧( ( [ ]:List SV )=[ ] ) )∧True∧True∧True∧True∧True∧True∧True∧True∧True∧True∧True∧True∧True∧True∧True∧True∧True∧True∧True∧( ( [ ]:List SV )=[ ] ) ) )∧( (Q1 ae).1=(pj8 aq).1∧(Q1 ae).2.1=(pj8 aq).2.1∧( ( [ ]:List SV )=[ ] ) )∧( (Q1 ae).2.2.1=(pj8 aq).2.2.1∧True∧( ( [ ]:List SV )=[ ] ) )∧( (Q1 ae).2.2.2.1=(pj8 aq).2.2.2.1∧( List.isEmpty (Q1 ae).2.2.2.1 )=( List.isEmpty (pj8 aq).2.2.2.1 ) )∧True ) )∧jg g8 ):Prop)
abbrev Ch:=fun (d25:(List ((Int×Int×Int×Bool)×Int))×Int) (aq:Int×Int×Int×Int×Bool×Int×(List Int)×Int×Int×(List Int)×Int×(List Int)×Int×Int×Int×(List Int)×Int×Int×Bool×Int×Int×Int×(List Int)×Int×Int×Int×Int×Int×Int×Int×Int×Bool×(List Value)) (ae:Int×Int×Int×Int×Bool×Int×Int×Int×Int×Int×Bool×Int×Bool×Bool×(List Int)×Int×Int×(List Int)×Int×(List Int)×Int×Int×Int×(List Int)×Int×Int×Bool×Int×Int×Int×(List Int)×Int×Int×Int×Int×Int×Int×Int×Int×Bool×(List Value)) (jg:_→Prop) (l5:_→Prop) (bt:Bool)=>(( false=true→( LZ d25 aq ae jg bt ) )∧( false=false→( I64 ( d25.2+( 1:Int ) ) )∧( ∃ g8:( List ( ( Int×Int×Int×Bool )×Int ) )×Int ,( ( True∧(pj4 ae).2.1=(pj4 ae).2.1∧(pj4 ae).2.2.1=(pj4 ae).2.2.1∧True∧(pj8 ae).2.2.2.1=(pj8 ae).2.2.2.1∧( (pj4 (pj8 ae)).1=(pj4 (pj8 ae)).1∧(pj4 (pj8 ae)).2.1=(pj4 (pj8 ae)).2.1∧( ( [ ]:List SV )=[ ] ) )∧( d25.2+( 1:Int ) )=g8.2∧True )∧( ( ae.1=ae.1∧ae.2.1=ae.2.1∧ae.2.2.1=ae.2.2.1∧ae.2.2.2.1=ae.2.2.2.1∧(pj4 ae).1=(pj4 ae).1∧True∧( ( [ ]:List SV )=[ ] ) )∧( d25.1=g8.1 )∧( (pj4 ae).2.2.2.1=(pj4 ae).2.2.2.1∧(pj8 ae).1=(pj8 ae).1∧(pj8 ae).2.1=(pj8 ae).2.1∧(pj8 ae).2.2.1=(pj8 ae).2.2.1∧( ( [ ]:List SV )=[ ] ) )∧( (pj8 (Q1 (Q1 ae)))=(pj8 (Q1 (Q1 ae)))∧( True∧(pj4 (pj8 ae)).2.2.1=(pj4 (pj8 ae)).2.2.1∧(pj4 (pj8 ae)).2.2.2.1=(pj4 (pj8 ae)).2.2.2.1∧True∧True∧True∧True∧(pj4 (Q1 ae)).1=(pj4 (Q1 ae)).1∧True∧True∧(pj4 (Q1 ae)).2.1=(pj4 (Q1 ae)).2.1∧(pj4 (Q1 ae)).2.2.1=(pj4 (Q1 ae)).2.2.1∧True∧True∧True∧True∧True∧True∧True∧True∧True∧True∧True∧True∧True∧True∧True∧True∧True∧True∧True∧True∧True∧True∧True∧True∧True∧True∧True∧True∧True∧True∧True∧True∧True∧True∧True∧True∧(pj4 (Q1 ae)).2.2.2.1=(pj4 (Q1 ae)).2.2.2.1∧(pj8 (Q1 ae)).1=(pj8 (Q1 ae)).1∧(pj8 (Q1 ae)).2.1=(pj8 (Q1 ae)).2.1∧(pj8 (Q1 ae)).2.2.1=(pj8 (Q1 ae)).2.2.1∧(pj8 (Q1 ae)).2.2.2.1=(pj8 (Q1 ae)).2.2.2.1∧True∧(pj4 (pj8 (Q1 ae))).1=(pj4 (pj8 (Q1 ae))).1∧True∧(pj4 (pj8 (Q1 ae))).2.1=(pj4 (pj8 (Q1 ae))).2.1∧(pj4 (pj8 (Q1 ae))).2.2.1=(pj4 (pj8 (Q1 ae))).2.2.1∧(pj4 (pj8 (Q1 ae))).2.2.2.1=(pj4 (pj8 (Q1 ae))).2.2.2.1∧True∧(Q1 (Q1 ae)).1=(Q1 (Q1 ae)).1∧True∧(Q1 (Q1 ae)).2.1=(Q1 (Q1 ae)).2.1∧(Q1 (Q1 ae)).2.2.1=(Q1 (Q1 ae)).2.2.1∧( (Q1 (Q1 ae)).2.2.2.1=(Q1 (Q1 ae)).2.2.2.1∧(pj4 (Q1 (Q1 ae))).1=(pj4 (Q1 (Q1 ae))).1∧(pj4 (Q1 (Q1 ae))).2.1=(pj4 (Q1 (Q1 ae))).2.1∧(pj4 (Q1 (Q1 ae))).2.2.1=(pj4 (Q1 (Q1 ae))).2.2.1∧(pj4 (Q1 (Q1 ae))).2.2.2.1=(pj4 (Q1 (Q1 ae))).2.2.2.1∧True∧( ( [ ]:List SV )=[ ] ) )∧True∧True∧True∧True∧True∧True∧True∧True∧True∧True∧True∧True∧True∧True∧True∧True∧True∧True∧True∧( ( [ ]:List SV )=[ ] ) ) )∧( (Q1 ae).1=(Q1 ae).1∧(Q1 ae).2.1=(Q1 ae).2.1∧( ( [ ]:List SV )=[ ] ) )∧( (Q1 ae).2.2.1=(Q1 ae).2.2.1∧True∧( ( [ ]:List SV )=[ ] ) )∧( (Q1 ae).2.2.2.1=(Q1 ae).2.2.2.1∧( List.isEmpty (Q1 ae).2.2.2.1 )=( List.isEmpty (Q1 ae).2.2.2.1 ) )∧True ) )∧l5 g8 ) ):Prop)
abbrev T3:=fun (d9:Bool×Int×Int×Int×Int×Bool×Int) (e9:Int×Int×Int×Int×Bool×Bool×(List Int)×Int×Int×(List Int)×Int×(List Int)×Int×Int×Int×(List Int)×Int×Int×Bool×Int×Int×Int×(List Int)×Int×Int×Int×Int×Int×Int×Int×Int×Bool×(List Value)) (q9:_→Prop) (bt:Bool)=>(∀ sd:List Value ,( I64 ( e9.2.2.1-( 1:Int ) ) )∧sd=sd∧( I64 ( e9.2.2.1-( 1:Int ) ) )∧( ( 0≤e9.1∧e9.1<16777216 )∧( 0≤e9.2.1∧e9.2.1<16777216 )∧0≤( e9.2.2.1-( 1:Int ) )∧( e9.2.2.1-( 1:Int ) )≤24 )∧( ( 0≤e9.1∧e9.1<16777216 )∧( 0≤e9.2.1∧e9.2.1<16777216 )∧( 1≤e9.2.2.2.1∧e9.2.2.2.1≤24 )∧( 0≤( e9.2.2.1-( 1:Int ) )∧( e9.2.2.1-( 1:Int ) )≤23 )∧( 1≤( 1:Int )∧( 1:Int )≤24 )∧( 0≤( 0:Int )∧( 0:Int )≤24 )∧BS e9.1 e9.2.1 e9.2.2.2.1 bt ( [ ]:List ( ( Int×Int×Int×Bool )×Int ) ) )∧( ∀ u1:List ( ( Int×Int×Int×Bool )×Int ) ,( BS e9.1 e9.2.1 e9.2.2.2.1 bt u1 )→( I64 ( ( QH e9.1.toNat e9.2.1.toNat ( e9.2.2.1-( 1:Int ) ).toNat bt )+( Qf e9.1.toNat e9.2.1.toNat e9.2.2.2.1.toNat bt ( e9.2.2.1-( 1:Int ) ).toNat ( 1:Int ).toNat ( 0:Int ).toNat bt ) ) )∧( ( decide ( ( ( QH e9.1.toNat e9.2.1.toNat ( e9.2.2.1-( 1:Int ) ).toNat bt )+( Qf e9.1.toNat e9.2.1.toNat e9.2.2.2.1.toNat bt ( e9.2.2.1-( 1:Int ) ).toNat ( 1:Int ).toNat ( 0:Int ).toNat bt ) )<d9.2.1 ) )=true→( I64 ( (pj4 d9).2.2+( 1:Int ) ) )∧( ∃ g9:Bool×Int×Int×Int×Int×Bool×Int ,( ( True∧( ( QH e9.1.toNat e9.2.1.toNat ( e9.2.2.1-( 1:Int ) ).toNat bt )+( Qf e9.1.toNat e9.2.1.toNat e9.2.2.2.1.toNat bt ( e9.2.2.1-( 1:Int ) ).toNat ( 1:Int ).toNat ( 0:Int ).toNat bt ) )=g9.2.1∧True∧( (pj4 e9).1=(pj4 e9).1∧(pj4 e9).2.1=(pj4 e9).2.1∧( ( [ ]:List SV )=[ ] ) )∧( (pj4 d9).2.2+( 1:Int ) )=g9.2.2.2.2.2.2∧True )∧( ( e9.1=e9.1∧e9.2.1=e9.2.1∧e9.2.2.1=e9.2.2.1∧e9.2.2.2.1=e9.2.2.2.1∧bt=g9.1∧True∧( ( [ ]:List SV )=[ ] ) )∧( ( e9.2.2.1-( 1:Int ) )=g9.2.2.1∧( 1:Int )=g9.2.2.2.1∧( 0:Int )=g9.2.2.2.2.1∧bt=g9.2.2.2.2.2.1∧( ( [ ]:List SV )=[ ] ) )∧( (Q1 (Q1 e9))=(Q1 (Q1 e9))∧( True∧(pj4 e9).2.2.1=(pj4 e9).2.2.1∧(pj4 e9).2.2.2.1=(pj4 e9).2.2.2.1∧True∧True∧True∧True∧(pj4 (pj8 e9)).1=(pj4 (pj8 e9)).1∧True∧True∧(pj4 (pj8 e9)).2.1=(pj4 (pj8 e9)).2.1∧(pj4 (pj8 e9)).2.2.1=(pj4 (pj8 e9)).2.2.1∧True∧True∧True∧True∧True∧True∧True∧True∧True∧True∧True∧True∧True∧True∧True∧True∧True∧True∧True∧True∧True∧True∧True∧True∧True∧True∧True∧True∧True∧True∧True∧True∧True∧True∧True∧True∧(pj4 (pj8 e9)).2.2.2.1=(pj4 (pj8 e9)).2.2.2.1∧(Q1 e9).1=(Q1 e9).1∧(Q1 e9).2.1=(Q1 e9).2.1∧(Q1 e9).2.2.1=(Q1 e9).2.2.1∧(Q1 e9).2.2.2.1=(Q1 e9).2.2.2.1∧True∧(pj4 (Q1 e9)).1=(pj4 (Q1 e9)).1∧True∧(pj4 (Q1 e9)).2.1=(pj4 (Q1 e9)).2.1∧(pj4 (Q1 e9)).2.2.1=(pj4 (Q1 e9)).2.2.1∧(pj4 (Q1 e9)).2.2.2.1=(pj4 (Q1 e9)).2.2.2.1∧True∧(pj8 (Q1 e9)).1=(pj8 (Q1 e9)).1∧True∧(pj8 (Q1 e9)).2.1=(pj8 (Q1 e9)).2.1∧(pj8 (Q1 e9)).2.2.1=(pj8 (Q1 e9)).2.2.1∧( (pj8 (Q1 e9)).2.2.2.1=(pj8 (Q1 e9)).2.2.2.1∧(pj4 (pj8 (Q1 e9))).1=(pj4 (pj8 (Q1 e9))).1∧(pj4 (pj8 (Q1 e9))).2.1=(pj4 (pj8 (Q1 e9))).2.1∧(pj4 (pj8 (Q1 e9))).2.2.1=(pj4 (pj8 (Q1 e9))).2.2.1∧(pj4 (pj8 (Q1 e9))).2.2.2.1=(pj4 (pj8 (Q1 e9))).2.2.2.1∧True∧( ( [ ]:List SV )=[ ] ) )∧True∧True∧True∧True∧True∧True∧True∧True∧True∧True∧True∧True∧True∧True∧True∧True∧True∧True∧True∧( ( [ ]:List SV )=[ ] ) ) )∧( (pj8 e9).1=(pj8 e9).1∧(pj8 e9).2.1=(pj8 e9).2.1∧( ( [ ]:List SV )=[ ] ) )∧( (pj8 e9).2.2.1=(pj8 e9).2.2.1∧True∧( ( [ ]:List SV )=[ ] ) )∧( (pj8 e9).2.2.2.1=(pj8 e9).2.2.2.1∧( List.isEmpty (pj8 e9).2.2.2.1 )=( List.isEmpty (pj8 e9).2.2.2.1 ) )∧True ) )∧q9 g9 ) )∧( ( decide ( ( ( QH e9.1.toNat e9.2.1.toNat ( e9.2.2.1-( 1:Int ) ).toNat bt )+( Qf e9.1.toNat e9.2.1.toNat e9.2.2.2.1.toNat bt ( e9.2.2.1-( 1:Int ) ).toNat ( 1:Int ).toNat ( 0:Int ).toNat bt ) )<d9.2.1 ) )=false→( I64 ( (pj4 d9).2.2+( 1:Int ) ) )∧( ∃ kJ:Bool×Int×Int×Int×Int×Bool×Int ,( ( True∧d9.2.1=kJ.2.1∧True∧( (pj4 e9).1=(pj4 e9).1∧(pj4 e9).2.1=(pj4 e9).2.1∧( ( [ ]:List SV )=[ ] ) )∧( (pj4 d9).2.2+( 1:Int ) )=kJ.2.2.2.2.2.2∧True )∧( ( e9.1=e9.1∧e9.2.1=e9.2.1∧e9.2.2.1=e9.2.2.1∧e9.2.2.2.1=e9.2.2.2.1∧bt=kJ.1∧True∧( ( [ ]:List SV )=[ ] ) )∧( d9.2.2.1=kJ.2.2.1∧d9.2.2.2.1=kJ.2.2.2.1∧(pj4 d9).1=kJ.2.2.2.2.1∧(pj4 d9).2.1=kJ.2.2.2.2.2.1∧( ( [ ]:List SV )=[ ] ) )∧( (Q1 (Q1 e9))=(Q1 (Q1 e9))∧( True∧(pj4 e9).2.2.1=(pj4 e9).2.2.1∧(pj4 e9).2.2.2.1=(pj4 e9).2.2.2.1∧True∧True∧True∧True∧(pj4 (pj8 e9)).1=(pj4 (pj8 e9)).1∧True∧True∧(pj4 (pj8 e9)).2.1=(pj4 (pj8 e9)).2.1∧(pj4 (pj8 e9)).2.2.1=(pj4 (pj8 e9)).2.2.1∧True∧True∧True∧True∧True∧True∧True∧True∧True∧True∧True∧True∧True∧True∧True∧True∧True∧True∧True∧True∧True∧True∧True∧True∧True∧True∧True∧True∧True∧True∧True∧True∧True∧True∧True∧True∧(pj4 (pj8 e9)).2.2.2.1=(pj4 (pj8 e9)).2.2.2.1∧(Q1 e9).1=(Q1 e9).1∧(Q1 e9).2.1=(Q1 e9).2.1∧(Q1 e9).2.2.1=(Q1 e9).2.2.1∧(Q1 e9).2.2.2.1=(Q1 e9).2.2.2.1∧True∧(pj4 (Q1 e9)).1=(pj4 (Q1 e9)).1∧True∧(pj4 (Q1 e9)).2.1=(pj4 (Q1 e9)).2.1∧(pj4 (Q1 e9)).2.2.1=(pj4 (Q1 e9)).2.2.1∧(pj4 (Q1 e9)).2.2.2.1=(pj4 (Q1 e9)).2.2.2.1∧True∧(pj8 (Q1 e9)).1=(pj8 (Q1 e9)).1∧True∧(pj8 (Q1 e9)).2.1=(pj8 (Q1 e9)).2.1∧(pj8 (Q1 e9)).2.2.1=(pj8 (Q1 e9)).2.2.1∧( (pj8 (Q1 e9)).2.2.2.1=(pj8 (Q1 e9)).2.2.2.1∧(pj4 (pj8 (Q1 e9))).1=(pj4 (pj8 (Q1 e9))).1∧(pj4 (pj8 (Q1 e9))).2.1=(pj4 (pj8 (Q1 e9))).2.1∧(pj4 (pj8 (Q1 e9))).2.2.1=(pj4 (pj8 (Q1 e9))).2.2.1∧(pj4 (pj8 (Q1 e9))).2.2.2.1=(pj4 (pj8 (Q1 e9))).2.2.2.1∧True∧( ( [ ]:List SV )=[ ] ) )∧True∧True∧True∧True∧True∧True∧True∧True∧True∧True∧True∧True∧True∧True∧True∧True∧True∧True∧True∧( ( [ ]:List SV )=[ ] ) ) )∧( (pj8 e9).1=(pj8 e9).1∧(pj8 e9).2.1=(pj8 e9).2.1∧( ( [ ]:List SV )=[ ] ) )∧( (pj8 e9).2.2.1=(pj8 e9).2.2.1∧True∧( ( [ ]:List SV )=[ ] ) )∧( (pj8 e9).2.2.2.1=(pj8 e9).2.2.2.1∧( List.isEmpty (pj8 e9).2.2.2.1 )=( List.isEmpty (pj8 e9).2.2.2.1 ) )∧True ) )∧q9 kJ ) ) ):Prop)
abbrev HY:=fun (d25:(List ((Int×Int×Int×Bool)×Int))×Int) (aq:Int×Int×Int×Int×Bool×Int×(List Int)×Int×Int×(List Int)×Int×(List Int)×Int×Int×Int×(List Int)×Int×Int×Bool×Int×Int×Int×(List Int)×Int×Int×Int×Int×Int×Int×Int×Int×Bool×(List Value)) (ae:Int×Int×Int×Int×Bool×Int×Int×Int×Int×Int×Bool×Int×Bool×Bool×(List Int)×Int×Int×(List Int)×Int×(List Int)×Int×Int×Int×(List Int)×Int×Int×Bool×Int×Int×Int×(List Int)×Int×Int×Int×Int×Int×Int×Int×Int×Bool×(List Value)) (jg:_→Prop) (l5:_→Prop) (bt:Bool)=>(( ( 0≤(pj4 ae).2.2.2.1∧(pj4 ae).2.2.2.1≤24 )∧( 1≤(pj8 ae).1∧(pj8 ae).1≤24 )∧( 0≤(pj8 ae).2.1∧(pj8 ae).2.1≤24 ) )∧( I64 ( (pj4 ae).2.2.2.1-( 1:Int ) ) )∧( ( 0≤ae.1∧ae.1<16777216 )∧( 0≤ae.2.1∧ae.2.1<16777216 )∧0≤( (pj4 ae).2.2.2.1-( 1:Int ) )∧( (pj4 ae).2.2.2.1-( 1:Int ) )≤24 )∧( ( ( decide ( UB (pj8 ae).1 (pj8 ae).2.2.1 bt≤ae.2.2.2.1 ) )=true→( ( 0≤ae.1∧ae.1<16777216 )∧( 0≤ae.2.1∧ae.2.1<16777216 )∧( 1≤ae.2.2.2.1∧ae.2.2.2.1≤24 )∧( 0≤( (pj4 ae).2.2.2.1-1 )∧( (pj4 ae).2.2.2.1-1 )≤23 )∧( 1≤( UB (pj8 ae).1 (pj8 ae).2.2.1 bt )∧( UB (pj8 ae).1 (pj8 ae).2.2.1 bt )≤24 )∧( 0≤( BN (pj8 ae).1 (pj8 ae).2.1 (pj8 ae).2.2.1 bt )∧( BN (pj8 ae).1 (pj8 ae).2.1 (pj8 ae).2.2.1 bt )≤24 )∧BS ae.1 ae.2.1 ae.2.2.2.1 (pj4 ae).1 d25.1 )∧( ∀ qQ:List ( ( Int×Int×Int×Bool )×Int ) ,( BS ae.1 ae.2.1 ae.2.2.2.1 (pj4 ae).1 qQ )→( I64 ( ( QH ae.1.toNat ae.2.1.toNat ( (pj4 ae).2.2.2.1-( 1:Int ) ).toNat bt )+( Qf ae.1.toNat ae.2.1.toNat ae.2.2.2.1.toNat (pj4 ae).1 ( (pj4 ae).2.2.2.1-1 ).toNat ( UB (pj8 ae).1 (pj8 ae).2.2.1 bt ).toNat ( BN (pj8 ae).1 (pj8 ae).2.1 (pj8 ae).2.2.1 bt ).toNat bt ) ) )∧( ( ( ( QH ae.1.toNat ae.2.1.toNat ( (pj4 ae).2.2.2.1-( 1:Int ) ).toNat bt )+( Qf ae.1.toNat ae.2.1.toNat ae.2.2.2.1.toNat (pj4 ae).1 ( (pj4 ae).2.2.2.1-1 ).toNat ( UB (pj8 ae).1 (pj8 ae).2.2.1 bt ).toNat ( BN (pj8 ae).1 (pj8 ae).2.1 (pj8 ae).2.2.1 bt ).toNat bt ) )==(pj8 ae).2.2.2.1 )=true→( I64 ( (pj8 ae).2.2.2.1-( QH ae.1.toNat ae.2.1.toNat ( (pj4 ae).2.2.2.1-( 1:Int ) ).toNat bt ) ) )∧( 0≤( 1:Int ) )∧( I64 ( Vf .i64 (pj4 ae).2.1 ( 1:Int ) ) )∧( True )∧( ∃ kK:( List ( ( Int×Int×Int×Bool )×Int ) )×Int×Int×Int×Int×Bool×Int ,( ( True∧( JL .or .i64 ( Vf .i64 (pj4 ae).2.1 ( 1:Int ) ) ( if bt=true then 1 else 0 ) )=kK.2.1∧(pj4 ae).2.2.1=(pj4 aq).2.1∧True∧( (pj8 ae).2.2.2.1-( QH ae.1.toNat ae.2.1.toNat ( (pj4 ae).2.2.2.1-( 1:Int ) ).toNat bt ) )=kK.2.2.2.2.2.2∧True )∧( ( ae.1=aq.1∧ae.2.1=aq.2.1∧ae.2.2.1=aq.2.2.1∧ae.2.2.2.1=aq.2.2.2.1∧(pj4 ae).1=(pj4 aq).1∧True∧( ( [ ]:List SV )=[ ] ) )∧( qQ=kK.1 )∧( ( (pj4 ae).2.2.2.1-1 )=kK.2.2.1∧( UB (pj8 ae).1 (pj8 ae).2.2.1 bt )=kK.2.2.2.1∧( BN (pj8 ae).1 (pj8 ae).2.1 (pj8 ae).2.2.1 bt )=kK.2.2.2.2.1∧bt=kK.2.2.2.2.2.1∧( ( [ ]:List SV )=[ ] ) )∧( (Q1 (Q1 aq))=(pj8 (Q1 (Q1 ae)))∧( True∧(pj4 (pj8 ae)).2.2.1=(pj4 aq).2.2.1∧(pj4 (pj8 ae)).2.2.2.1=(pj4 aq).2.2.2.1∧True∧True∧True∧True∧(pj4 (Q1 ae)).1=(pj4 (pj8 aq)).1∧True∧True∧(pj4 (Q1 ae)).2.1=(pj4 (pj8 aq)).2.1∧(pj4 (Q1 ae)).2.2.1=(pj4 (pj8 aq)).2.2.1∧True∧True∧True∧True∧True∧True∧True∧True∧True∧True∧True∧True∧True∧True∧True∧True∧True∧True∧True∧True∧True∧True∧True∧True∧True∧True∧True∧True∧True∧True∧True∧True∧True∧True∧True∧True∧(pj4 (Q1 ae)).2.2.2.1=(pj4 (pj8 aq)).2.2.2.1∧(pj8 (Q1 ae)).1=(Q1 aq).1∧(pj8 (Q1 ae)).2.1=(Q1 aq).2.1∧(pj8 (Q1 ae)).2.2.1=(Q1 aq).2.2.1∧(pj8 (Q1 ae)).2.2.2.1=(Q1 aq).2.2.2.1∧True∧(pj4 (pj8 (Q1 ae))).1=(pj4 (Q1 aq)).1∧True∧(pj4 (pj8 (Q1 ae))).2.1=(pj4 (Q1 aq)).2.1∧(pj4 (pj8 (Q1 ae))).2.2.1=(pj4 (Q1 aq)).2.2.1∧(pj4 (pj8 (Q1 ae))).2.2.2.1=(pj4 (Q1 aq)).2.2.2.1∧True∧(Q1 (Q1 ae)).1=(pj8 (Q1 aq)).1∧True∧(Q1 (Q1 ae)).2.1=(pj8 (Q1 aq)).2.1∧(Q1 (Q1 ae)).2.2.1=(pj8 (Q1 aq)).2.2.1∧( (Q1 (Q1 ae)).2.2.2.1=(pj8 (Q1 aq)).2.2.2.1∧(pj4 (Q1 (Q1 ae))).1=(pj4 (pj8 (Q1 aq))).1∧(pj4 (Q1 (Q1 ae))).2.1=(pj4 (pj8 (Q1 aq))).2.1∧(pj4 (Q1 (Q1 ae))).2.2.1=(pj4 (pj8 (Q1 aq))).2.2.1∧(pj4 (Q1 (Q1 ae))).2.2.2.1=(pj4 (pj8 (Q1 aq))).2.2.2.1∧True∧( ( [ ]:List SV )=[ ] ) )∧True∧True∧True∧True∧True∧True∧True∧True∧True∧True∧True∧True∧True∧True∧True∧True∧True∧True∧True∧( ( [ ]:List SV )=[ ] ) ) )∧( (Q1 ae).1=(pj8 aq).1∧(Q1 ae).2.1=(pj8 aq).2.1∧( ( [ ]:List SV )=[ ] ) )∧( (Q1 ae).2.2.1=(pj8 aq).2.2.1∧True∧( ( [ ]:List SV )=[ ] ) )∧( (Q1 ae).2.2.2.1=(pj8 aq).2.2.2.1∧( List.isEmpty (Q1 ae).2.2.2.1 )=( List.isEmpty (pj8 aq).2.2.2.1 ) )∧True ) )∧jg kK ) )∧( ( ( ( QH ae.1.toNat ae.2.1.toNat ( (pj4 ae).2.2.2.1-( 1:Int ) ).toNat bt )+( Qf ae.1.toNat ae.2.1.toNat ae.2.2.2.1.toNat (pj4 ae).1 ( (pj4 ae).2.2.2.1-1 ).toNat ( UB (pj8 ae).1 (pj8 ae).2.2.1 bt ).toNat ( BN (pj8 ae).1 (pj8 ae).2.1 (pj8 ae).2.2.1 bt ).toNat bt ) )==(pj8 ae).2.2.2.1 )=false→( I64 ( d25.2+( 1:Int ) ) )∧( ∃ g9:( List ( ( Int×Int×Int×Bool )×Int ) )×Int ,( ( True∧(pj4 ae).2.1=(pj4 ae).2.1∧(pj4 ae).2.2.1=(pj4 ae).2.2.1∧True∧(pj8 ae).2.2.2.1=(pj8 ae).2.2.2.1∧( (pj4 (pj8 ae)).1=(pj4 (pj8 ae)).1∧(pj4 (pj8 ae)).2.1=(pj4 (pj8 ae)).2.1∧( ( [ ]:List SV )=[ ] ) )∧( d25.2+( 1:Int ) )=g9.2∧True )∧( ( ae.1=ae.1∧ae.2.1=ae.2.1∧ae.2.2.1=ae.2.2.1∧ae.2.2.2.1=ae.2.2.2.1∧(pj4 ae).1=(pj4 ae).1∧True∧( ( [ ]:List SV )=[ ] ) )∧( qQ=g9.1 )∧( (pj4 ae).2.2.2.1=(pj4 ae).2.2.2.1∧(pj8 ae).1=(pj8 ae).1∧(pj8 ae).2.1=(pj8 ae).2.1∧(pj8 ae).2.2.1=(pj8 ae).2.2.1∧( ( [ ]:List SV )=[ ] ) )∧( (pj8 (Q1 (Q1 ae)))=(pj8 (Q1 (Q1 ae)))∧( True∧(pj4 (pj8 ae)).2.2.1=(pj4 (pj8 ae)).2.2.1∧(pj4 (pj8 ae)).2.2.2.1=(pj4 (pj8 ae)).2.2.2.1∧True∧True∧True∧True∧(pj4 (Q1 ae)).1=(pj4 (Q1 ae)).1∧True∧True∧(pj4 (Q1 ae)).2.1=(pj4 (Q1 ae)).2.1∧(pj4 (Q1 ae)).2.2.1=(pj4 (Q1 ae)).2.2.1∧True∧True∧True∧True∧True∧True∧True∧True∧True∧True∧True∧True∧True∧True∧True∧True∧True∧True∧True∧True∧True∧True∧True∧True∧True∧True∧True∧True∧True∧True∧True∧True∧True∧True∧True∧True∧(pj4 (Q1 ae)).2.2.2.1=(pj4 (Q1 ae)).2.2.2.1∧(pj8 (Q1 ae)).1=(pj8 (Q1 ae)).1∧(pj8 (Q1 ae)).2.1=(pj8 (Q1 ae)).2.1∧(pj8 (Q1 ae)).2.2.1=(pj8 (Q1 ae)).2.2.1∧(pj8 (Q1 ae)).2.2.2.1=(pj8 (Q1 ae)).2.2.2.1∧True∧(pj4 (pj8 (Q1 ae))).1=(pj4 (pj8 (Q1 ae))).1∧True∧(pj4 (pj8 (Q1 ae))).2.1=(pj4 (pj8 (Q1 ae))).2.1∧(pj4 (pj8 (Q1 ae))).2.2.1=(pj4 (pj8 (Q1 ae))).2.2.1∧(pj4 (pj8 (Q1 ae))).2.2.2.1=(pj4 (pj8 (Q1 ae))).2.2.2.1∧True∧(Q1 (Q1 ae)).1=(Q1 (Q1 ae)).1∧True∧(Q1 (Q1 ae)).2.1=(Q1 (Q1 ae)).2.1∧(Q1 (Q1 ae)).2.2.1=(Q1 (Q1 ae)).2.2.1∧( (Q1 (Q1 ae)).2.2.2.1=(Q1 (Q1 ae)).2.2.2.1∧(pj4 (Q1 (Q1 ae))).1=(pj4 (Q1 (Q1 ae))).1∧(pj4 (Q1 (Q1 ae))).2.1=(pj4 (Q1 (Q1 ae))).2.1∧(pj4 (Q1 (Q1 ae))).2.2.1=(pj4 (Q1 (Q1 ae))).2.2.1∧(pj4 (Q1 (Q1 ae))).2.2.2.1=(pj4 (Q1 (Q1 ae))).2.2.2.1∧True∧( ( [ ]:List SV )=[ ] ) )∧True∧True∧True∧True∧True∧True∧True∧True∧True∧True∧True∧True∧True∧True∧True∧True∧True∧True∧True∧( ( [ ]:List SV )=[ ] ) ) )∧( (Q1 ae).1=(Q1 ae).1∧(Q1 ae).2.1=(Q1 ae).2.1∧( ( [ ]:List SV )=[ ] ) )∧( (Q1 ae).2.2.1=(Q1 ae).2.2.1∧True∧( ( [ ]:List SV )=[ ] ) )∧( (Q1 ae).2.2.2.1=(Q1 ae).2.2.2.1∧( List.isEmpty (Q1 ae).2.2.2.1 )=( List.isEmpty (Q1 ae).2.2.2.1 ) )∧True ) )∧l5 g9 ) ) ) )∧( ( decide ( UB (pj8 ae).1 (pj8 ae).2.2.1 bt≤ae.2.2.2.1 ) )=false→( Ch d25 aq ae jg l5 bt ) ) ):Prop)
abbrev Nb (hd:Int) (rows:List Int) (ax:List Int) (bd:Int):=((0:Int)=(if Q7 hd rows ax bd=0 then hd else 0)∧True∧(([]:List SV)=[]))
abbrev Vq :=(List ((Int×Int×Int×Bool)×Int))
abbrev U_ (hd:Int) (rows:List Int) (ax:List Int) (bd:Int):=(((Qz hd rows ax bd)=[]∧(Qz hd rows ax bd).isEmpty=true)∧True)
def WL (hd:Int) (rows:List Int) (ax:List Int) (bd:Int):Prop :=
  (rows.length ≤ 1000000) ∧ (((Qb hd rows) != (0:Int)) = true →
    (((Nb hd rows ax bd) ∧ (0:Int) = (AW hd rows ax bd) ∧ (Qb hd rows) = (Q7 hd rows ax bd) ∧ (([]:List SV) = [])) ∧ (U_ hd rows ax bd))) ∧
  (((Qb hd rows) != (0:Int)) = false →
    (((lI ax) != (lI rows)) = true →
      (((Nb hd rows ax bd) ∧ (0:Int) = (AW hd rows ax bd) ∧ (4:Int) = (Q7 hd rows ax bd) ∧ (([]:List SV) = [])) ∧ (U_ hd rows ax bd))) ∧
    (((lI ax) != (lI rows)) = false →
      (0 ≤ hd) ∧ (I64 (Vf .i64 (1:Int) hd)) ∧ (I64 ((Vf .i64 (1:Int) hd) - (1:Int))) ∧ (ax.length ≤ 1000000) ∧ ((!(!(ax.any fun n => decide (n < (0:Int)) || decide (((Vf .i64 (1:Int) hd) - (1:Int)) < n)))) = true →
        (((Nb hd rows ax bd) ∧ (0:Int) = (AW hd rows ax bd) ∧ (2:Int) = (Q7 hd rows ax bd) ∧ (([]:List SV) = [])) ∧ (U_ hd rows ax bd))) ∧
      ((!(!(ax.any fun n => decide (n < (0:Int)) || decide (((Vf .i64 (1:Int) hd) - (1:Int)) < n)))) = false →
        ([bd].length ≤ 1000000) ∧ ((!(!([bd].any fun n => decide (n < (1:Int)) || decide ((24:Int) < n)))) = true →
          (((Nb hd rows ax bd) ∧ (0:Int) = (AW hd rows ax bd) ∧ (3:Int) = (Q7 hd rows ax bd) ∧ (([]:List SV) = [])) ∧ (U_ hd rows ax bd))) ∧
        ((!(!([bd].any fun n => decide (n < (1:Int)) || decide ((24:Int) < n)))) = false →
          ∃ (e4:Unit) (d40:(List Int) × Int × Int), ((ax = ax ∧ bd = bd ∧ True ∧ True ∧ (0:Int) = d40.2.1 ∧ rows = rows ∧ (lI rows) = (lI rows) ∧ (0:Int) = d40.2.2 ∧ True) ∧ ((hd = hd ∧ rows = rows ∧ (([]:List SV) = [])) ∧ (hd = hd ∧ True ∧ (([]:List SV) = [])) ∧ (d40.1 = [] ∧ (List.isEmpty d40.1) = true) ∧ True)) ∧
          LoopP (fun (d4:(List Int) × Int × Int) (q4:((List Int) × Int × Int) → Prop) =>
            ((decide (d4.2.2 < (lI rows))) = true →
              (0 ≤ d4.2.2) ∧ (d4.2.2 < (List.length rows)) ∧ (0 ≤ d4.2.2) ∧ (d4.2.2 < (List.length ax)) ∧ ∀ w5:List Value, ∃ (e9:Int × Int × Int × Int × Bool × Bool × (List Int) × Int × Int × (List Int) × Int × (List Int) × Int × Int × Int × (List Int) × Int × Int × Bool × Int × Int × Int × (List Int) × Int × Int × Int × Int × Int × Int × Int × Int × Bool × (List Value)) (d90:Bool × Int × Int × Int × Int × Bool × Int), ((True ∧ (1048576:Int) = d90.2.1 ∧ True ∧ (false = (pj4 e9).1 ∧ true = (pj4 e9).2.1 ∧ (([]:List SV) = [])) ∧ (0:Int) = (pj4 d90).2.2 ∧ True) ∧ (((gD rows d4.2.2 0) = e9.1 ∧ (gD ax d4.2.2 0) = e9.2.1 ∧ hd = e9.2.2.1 ∧ bd = e9.2.2.2.1 ∧ false = d90.1 ∧ True ∧ (([]:List SV) = [])) ∧ ((0:Int) = d90.2.2.1 ∧ (0:Int) = d90.2.2.2.1 ∧ (0:Int) = (pj4 d90).1 ∧ false = (pj4 d90).2.1 ∧ (([]:List SV) = [])) ∧ ((Q1 (Q1 e9)) = w5 ∧ (True ∧ ax = (pj4 e9).2.2.1 ∧ bd = (pj4 e9).2.2.2.1 ∧ True ∧ True ∧ True ∧ True ∧ d4.2.1 = (pj4 (pj8 e9)).1 ∧ True ∧ True ∧ d4.2.2 = (pj4 (pj8 e9)).2.1 ∧ (gD rows d4.2.2 0) = (pj4 (pj8 e9)).2.2.1 ∧ True ∧ True ∧ True ∧ True ∧ True ∧ True ∧ True ∧ True ∧ True ∧ True ∧ True ∧ True ∧ True ∧ True ∧ True ∧ True ∧ True ∧ True ∧ True ∧ True ∧ True ∧ True ∧ True ∧ True ∧ True ∧ True ∧ True ∧ True ∧ True ∧ True ∧ True ∧ True ∧ True ∧ True ∧ True ∧ True ∧ rows = (pj4 (pj8 e9)).2.2.2.1 ∧ (lI rows) = (Q1 e9).1 ∧ d4.2.2 = (Q1 e9).2.1 ∧ (decide (d4.2.2 < (lI rows))) = (Q1 e9).2.2.1 ∧ d4.2.2 = (Q1 e9).2.2.2.1 ∧ True ∧ (gD rows d4.2.2 0) = (pj4 (Q1 e9)).1 ∧ True ∧ (gD rows d4.2.2 0) = (pj4 (Q1 e9)).2.1 ∧ ax = (pj4 (Q1 e9)).2.2.1 ∧ d4.2.2 = (pj4 (Q1 e9)).2.2.2.1 ∧ True ∧ (gD ax d4.2.2 0) = (pj8 (Q1 e9)).1 ∧ True ∧ hd = (pj8 (Q1 e9)).2.1 ∧ bd = (pj8 (Q1 e9)).2.2.1 ∧ ((gD rows d4.2.2 0) = (pj8 (Q1 e9)).2.2.2.1 ∧ (gD ax d4.2.2 0) = (pj4 (pj8 (Q1 e9))).1 ∧ hd = (pj4 (pj8 (Q1 e9))).2.1 ∧ bd = (pj4 (pj8 (Q1 e9))).2.2.1 ∧ false = (pj4 (pj8 (Q1 e9))).2.2.2.1 ∧ True ∧ (([]:List SV) = [])) ∧ True ∧ True ∧ True ∧ True ∧ True ∧ True ∧ True ∧ True ∧ True ∧ True ∧ True ∧ True ∧ True ∧ True ∧ True ∧ True ∧ True ∧ True ∧ True ∧ (([]:List SV) = []))) ∧ (hd = (pj8 e9).1 ∧ rows = (pj8 e9).2.1 ∧ (([]:List SV) = [])) ∧ (hd = (pj8 e9).2.2.1 ∧ True ∧ (([]:List SV) = [])) ∧ (d4.1 = (pj8 e9).2.2.2.1 ∧ (List.isEmpty d4.1) = (List.isEmpty (pj8 e9).2.2.2.1)) ∧ True)) ∧
              LoopP (fun (d9:Bool × Int × Int × Int × Int × Bool × Int) (q9:(Bool × Int × Int × Int × Int × Bool × Int) → Prop) =>
                ((decide ((pj4 d9).2.2 < (2:Int))) = true →
                  (0 ≤ (pj4 d9).2.2) ∧ ((pj4 d9).2.2 < (2:Int)) ∧
                  ((pj4 d9).2.2 = (0:Int) →
                     (T3 d9 e9 q9 (pj4 e9).1)) ∧
                  ((pj4 d9).2.2 = (1:Int) →
                     (T3 d9 e9 q9 (pj4 e9).2.1)) ∧
                  True) ∧
                ((decide ((pj4 d9).2.2 < (2:Int))) = false →
                  ((decide (d9.2.1 ≥ (1048576:Int))) = true →
                    (Q1 (Q1 e9)) = w5 ∧ ((decide ((1048576:Int) ≥ (1048576:Int))) = true →
                      (((Nb hd rows ax bd) ∧ (0:Int) = (AW hd rows ax bd) ∧ (9:Int) = (Q7 hd rows ax bd) ∧ (([]:List SV) = [])) ∧ (U_ hd rows ax bd))) ∧
                    ((decide ((1048576:Int) ≥ (1048576:Int))) = false →
                      (((List.length (pj8 e9).2.2.2.1) + (List.length [(0:Int)])) * 8 ≤ 70368744177664) ∧ (I64 ((pj4 (pj8 e9)).1 + (1048576:Int))) ∧ (I64 ((Q1 e9).2.1 + (1:Int))) ∧ (∃ d18:(List Int) × Int × Int, (((pj4 e9).2.2.1 = ax ∧ (pj4 e9).2.2.2.1 = bd ∧ True ∧ True ∧ ((pj4 (pj8 e9)).1 + (1048576:Int)) = d18.2.1 ∧ (pj4 (pj8 e9)).2.2.2.1 = rows ∧ (Q1 e9).1 = (lI rows) ∧ ((Q1 e9).2.1 + (1:Int)) = d18.2.2 ∧ True) ∧ (((pj8 e9).1 = hd ∧ (pj8 e9).2.1 = rows ∧ (([]:List SV) = [])) ∧ ((pj8 e9).2.2.1 = hd ∧ True ∧ (([]:List SV) = [])) ∧ (((pj8 e9).2.2.2.1 ++ [(0:Int)]) = d18.1 ∧ false = (List.isEmpty d18.1)) ∧ True)) ∧ q4 d18))) ∧
                  ((decide (d9.2.1 ≥ (1048576:Int))) = false →
                    ∀ qR:List Value, (I64 (e9.2.2.1 - (1:Int))) ∧ qR = qR ∧ (I64 (e9.2.2.1 - (1:Int))) ∧ ((0 ≤ e9.1 ∧ e9.1 < 16777216) ∧ (0 ≤ e9.2.1 ∧ e9.2.1 < 16777216) ∧ 0 ≤ (e9.2.2.1 - (1:Int)) ∧ (e9.2.2.1 - (1:Int)) ≤ 24) ∧ (I64 (d9.2.1 - (QH e9.1.toNat e9.2.1.toNat (e9.2.2.1 - (1:Int)).toNat (pj4 d9).2.1))) ∧ (True) ∧ ∃ (aq:Int × Int × Int × Int × Bool × Int × (List Int) × Int × Int × (List Int) × Int × (List Int) × Int × Int × Int × (List Int) × Int × Int × Bool × Int × Int × Int × (List Int) × Int × Int × Int × Int × Int × Int × Int × Int × Bool × (List Value)) (fD:Vq × Int × Int × Int × Int × Bool × Int), ((True ∧ (if (pj4 d9).2.1 = true then 1 else 0) = fD.2.1 ∧ d9.2.1 = (pj4 aq).2.1 ∧ True ∧ (d9.2.1 - (QH e9.1.toNat e9.2.1.toNat (e9.2.2.1 - (1:Int)).toNat (pj4 d9).2.1)) = (pj4 fD).2.2 ∧ True) ∧ ((e9.1 = aq.1 ∧ e9.2.1 = aq.2.1 ∧ e9.2.2.1 = aq.2.2.1 ∧ e9.2.2.2.1 = aq.2.2.2.1 ∧ (pj4 d9).2.1 = (pj4 aq).1 ∧ True ∧ (([]:List SV) = [])) ∧ (([]:List ((Int × Int × Int × Bool) × Int)) = fD.1) ∧ (d9.2.2.1 = fD.2.2.1 ∧ d9.2.2.2.1 = fD.2.2.2.1 ∧ (pj4 d9).1 = (pj4 fD).1 ∧ (pj4 d9).2.1 = (pj4 fD).2.1 ∧ (([]:List SV) = [])) ∧ ((Q1 (Q1 aq)) = (Q1 (Q1 e9)) ∧ (True ∧ (pj4 e9).2.2.1 = (pj4 aq).2.2.1 ∧ (pj4 e9).2.2.2.1 = (pj4 aq).2.2.2.1 ∧ True ∧ True ∧ True ∧ True ∧ (pj4 (pj8 e9)).1 = (pj4 (pj8 aq)).1 ∧ True ∧ True ∧ (pj4 (pj8 e9)).2.1 = (pj4 (pj8 aq)).2.1 ∧ (pj4 (pj8 e9)).2.2.1 = (pj4 (pj8 aq)).2.2.1 ∧ True ∧ True ∧ True ∧ True ∧ True ∧ True ∧ True ∧ True ∧ True ∧ True ∧ True ∧ True ∧ True ∧ True ∧ True ∧ True ∧ True ∧ True ∧ True ∧ True ∧ True ∧ True ∧ True ∧ True ∧ True ∧ True ∧ True ∧ True ∧ True ∧ True ∧ True ∧ True ∧ True ∧ True ∧ True ∧ True ∧ (pj4 (pj8 e9)).2.2.2.1 = (pj4 (pj8 aq)).2.2.2.1 ∧ (Q1 e9).1 = (Q1 aq).1 ∧ (Q1 e9).2.1 = (Q1 aq).2.1 ∧ (Q1 e9).2.2.1 = (Q1 aq).2.2.1 ∧ (Q1 e9).2.2.2.1 = (Q1 aq).2.2.2.1 ∧ True ∧ (pj4 (Q1 e9)).1 = (pj4 (Q1 aq)).1 ∧ True ∧ (pj4 (Q1 e9)).2.1 = (pj4 (Q1 aq)).2.1 ∧ (pj4 (Q1 e9)).2.2.1 = (pj4 (Q1 aq)).2.2.1 ∧ (pj4 (Q1 e9)).2.2.2.1 = (pj4 (Q1 aq)).2.2.2.1 ∧ True ∧ (pj8 (Q1 e9)).1 = (pj8 (Q1 aq)).1 ∧ True ∧ (pj8 (Q1 e9)).2.1 = (pj8 (Q1 aq)).2.1 ∧ (pj8 (Q1 e9)).2.2.1 = (pj8 (Q1 aq)).2.2.1 ∧ ((pj8 (Q1 e9)).2.2.2.1 = (pj8 (Q1 aq)).2.2.2.1 ∧ (pj4 (pj8 (Q1 e9))).1 = (pj4 (pj8 (Q1 aq))).1 ∧ (pj4 (pj8 (Q1 e9))).2.1 = (pj4 (pj8 (Q1 aq))).2.1 ∧ (pj4 (pj8 (Q1 e9))).2.2.1 = (pj4 (pj8 (Q1 aq))).2.2.1 ∧ (pj4 (pj8 (Q1 e9))).2.2.2.1 = (pj4 (pj8 (Q1 aq))).2.2.2.1 ∧ True ∧ (([]:List SV) = [])) ∧ True ∧ True ∧ True ∧ True ∧ True ∧ True ∧ True ∧ True ∧ True ∧ True ∧ True ∧ True ∧ True ∧ True ∧ True ∧ True ∧ True ∧ True ∧ True ∧ (([]:List SV) = []))) ∧ ((pj8 e9).1 = (pj8 aq).1 ∧ (pj8 e9).2.1 = (pj8 aq).2.1 ∧ (([]:List SV) = [])) ∧ ((pj8 e9).2.2.1 = (pj8 aq).2.2.1 ∧ True ∧ (([]:List SV) = [])) ∧ ((pj8 e9).2.2.2.1 = (pj8 aq).2.2.2.1 ∧ (List.isEmpty (pj8 e9).2.2.2.1) = (List.isEmpty (pj8 aq).2.2.2.1)) ∧ True)) ∧
                    LoopP (fun (d22:Vq × Int × Int × Int × Int × Bool × Int) (jg:(Vq × Int × Int × Int × Int × Bool × Int) → Prop) =>
                      ((decide (d22.2.2.1 > (0:Int))) = true →
                        ∃ (ae:Int × Int × Int × Int × Bool × Int × Int × Int × Int × Int × Bool × Int × Bool × Bool × (List Int) × Int × Int × (List Int) × Int × (List Int) × Int × Int × Int × (List Int) × Int × Int × Bool × Int × Int × Int × (List Int) × Int × Int × Int × Int × Int × Int × Int × Int × Bool × (List Value)) (l6:Vq × Int), ((True ∧ d22.2.1 = (pj4 ae).2.1 ∧ (pj4 aq).2.1 = (pj4 ae).2.2.1 ∧ True ∧ (pj4 d22).2.2 = (pj8 ae).2.2.2.1 ∧ (false = (pj4 (pj8 ae)).1 ∧ true = (pj4 (pj8 ae)).2.1 ∧ (([]:List SV) = [])) ∧ (0:Int) = l6.2 ∧ True) ∧ ((aq.1 = ae.1 ∧ aq.2.1 = ae.2.1 ∧ aq.2.2.1 = ae.2.2.1 ∧ aq.2.2.2.1 = ae.2.2.2.1 ∧ (pj4 aq).1 = (pj4 ae).1 ∧ True ∧ (([]:List SV) = [])) ∧ (d22.1 = l6.1) ∧ (d22.2.2.1 = (pj4 ae).2.2.2.1 ∧ d22.2.2.2.1 = (pj8 ae).1 ∧ (pj4 d22).1 = (pj8 ae).2.1 ∧ (pj4 d22).2.1 = (pj8 ae).2.2.1 ∧ (([]:List SV) = [])) ∧ ((pj8 (Q1 (Q1 ae))) = (Q1 (Q1 aq)) ∧ (True ∧ (pj4 aq).2.2.1 = (pj4 (pj8 ae)).2.2.1 ∧ (pj4 aq).2.2.2.1 = (pj4 (pj8 ae)).2.2.2.1 ∧ True ∧ True ∧ True ∧ True ∧ (pj4 (pj8 aq)).1 = (pj4 (Q1 ae)).1 ∧ True ∧ True ∧ (pj4 (pj8 aq)).2.1 = (pj4 (Q1 ae)).2.1 ∧ (pj4 (pj8 aq)).2.2.1 = (pj4 (Q1 ae)).2.2.1 ∧ True ∧ True ∧ True ∧ True ∧ True ∧ True ∧ True ∧ True ∧ True ∧ True ∧ True ∧ True ∧ True ∧ True ∧ True ∧ True ∧ True ∧ True ∧ True ∧ True ∧ True ∧ True ∧ True ∧ True ∧ True ∧ True ∧ True ∧ True ∧ True ∧ True ∧ True ∧ True ∧ True ∧ True ∧ True ∧ True ∧ (pj4 (pj8 aq)).2.2.2.1 = (pj4 (Q1 ae)).2.2.2.1 ∧ (Q1 aq).1 = (pj8 (Q1 ae)).1 ∧ (Q1 aq).2.1 = (pj8 (Q1 ae)).2.1 ∧ (Q1 aq).2.2.1 = (pj8 (Q1 ae)).2.2.1 ∧ (Q1 aq).2.2.2.1 = (pj8 (Q1 ae)).2.2.2.1 ∧ True ∧ (pj4 (Q1 aq)).1 = (pj4 (pj8 (Q1 ae))).1 ∧ True ∧ (pj4 (Q1 aq)).2.1 = (pj4 (pj8 (Q1 ae))).2.1 ∧ (pj4 (Q1 aq)).2.2.1 = (pj4 (pj8 (Q1 ae))).2.2.1 ∧ (pj4 (Q1 aq)).2.2.2.1 = (pj4 (pj8 (Q1 ae))).2.2.2.1 ∧ True ∧ (pj8 (Q1 aq)).1 = (Q1 (Q1 ae)).1 ∧ True ∧ (pj8 (Q1 aq)).2.1 = (Q1 (Q1 ae)).2.1 ∧ (pj8 (Q1 aq)).2.2.1 = (Q1 (Q1 ae)).2.2.1 ∧ ((pj8 (Q1 aq)).2.2.2.1 = (Q1 (Q1 ae)).2.2.2.1 ∧ (pj4 (pj8 (Q1 aq))).1 = (pj4 (Q1 (Q1 ae))).1 ∧ (pj4 (pj8 (Q1 aq))).2.1 = (pj4 (Q1 (Q1 ae))).2.1 ∧ (pj4 (pj8 (Q1 aq))).2.2.1 = (pj4 (Q1 (Q1 ae))).2.2.1 ∧ (pj4 (pj8 (Q1 aq))).2.2.2.1 = (pj4 (Q1 (Q1 ae))).2.2.2.1 ∧ True ∧ (([]:List SV) = [])) ∧ True ∧ True ∧ True ∧ True ∧ True ∧ True ∧ True ∧ True ∧ True ∧ True ∧ True ∧ True ∧ True ∧ True ∧ True ∧ True ∧ True ∧ True ∧ True ∧ (([]:List SV) = []))) ∧ ((pj8 aq).1 = (Q1 ae).1 ∧ (pj8 aq).2.1 = (Q1 ae).2.1 ∧ (([]:List SV) = [])) ∧ ((pj8 aq).2.2.1 = (Q1 ae).2.2.1 ∧ True ∧ (([]:List SV) = [])) ∧ ((pj8 aq).2.2.2.1 = (Q1 ae).2.2.2.1 ∧ (List.isEmpty (pj8 aq).2.2.2.1) = (List.isEmpty (Q1 ae).2.2.2.1)) ∧ True)) ∧
                        LoopP (fun (d25:Vq × Int) (l5:(Vq × Int) → Prop) =>
                          ((decide (d25.2 < (2:Int))) = true →
                            (0 ≤ d25.2) ∧ (d25.2 < (2:Int)) ∧
                            (d25.2 = (0:Int) →
                               (HY d25 aq ae jg l5 (pj4 (pj8 ae)).1)) ∧
                            (d25.2 = (1:Int) →
                               (HY d25 aq ae jg l5 (pj4 (pj8 ae)).2.1)) ∧
                            True) ∧
                          ((decide (d25.2 < (2:Int))) = false →
                            (∃ d36:Vq × Int × Int × Int × Int × Bool × Int, ((True ∧ (pj4 ae).2.1 = d36.2.1 ∧ (pj4 ae).2.2.1 = (pj4 aq).2.1 ∧ True ∧ (pj8 ae).2.2.2.1 = (pj4 d36).2.2 ∧ True) ∧ ((ae.1 = aq.1 ∧ ae.2.1 = aq.2.1 ∧ ae.2.2.1 = aq.2.2.1 ∧ ae.2.2.2.1 = aq.2.2.2.1 ∧ (pj4 ae).1 = (pj4 aq).1 ∧ True ∧ (([]:List SV) = [])) ∧ (d25.1 = d36.1) ∧ ((pj4 ae).2.2.2.1 = d36.2.2.1 ∧ (pj8 ae).1 = d36.2.2.2.1 ∧ (pj8 ae).2.1 = (pj4 d36).1 ∧ (pj8 ae).2.2.1 = (pj4 d36).2.1 ∧ (([]:List SV) = [])) ∧ ((Q1 (Q1 aq)) = (pj8 (Q1 (Q1 ae))) ∧ (True ∧ (pj4 (pj8 ae)).2.2.1 = (pj4 aq).2.2.1 ∧ (pj4 (pj8 ae)).2.2.2.1 = (pj4 aq).2.2.2.1 ∧ True ∧ True ∧ True ∧ True ∧ (pj4 (Q1 ae)).1 = (pj4 (pj8 aq)).1 ∧ True ∧ True ∧ (pj4 (Q1 ae)).2.1 = (pj4 (pj8 aq)).2.1 ∧ (pj4 (Q1 ae)).2.2.1 = (pj4 (pj8 aq)).2.2.1 ∧ True ∧ True ∧ True ∧ True ∧ True ∧ True ∧ True ∧ True ∧ True ∧ True ∧ True ∧ True ∧ True ∧ True ∧ True ∧ True ∧ True ∧ True ∧ True ∧ True ∧ True ∧ True ∧ True ∧ True ∧ True ∧ True ∧ True ∧ True ∧ True ∧ True ∧ True ∧ True ∧ True ∧ True ∧ True ∧ True ∧ (pj4 (Q1 ae)).2.2.2.1 = (pj4 (pj8 aq)).2.2.2.1 ∧ (pj8 (Q1 ae)).1 = (Q1 aq).1 ∧ (pj8 (Q1 ae)).2.1 = (Q1 aq).2.1 ∧ (pj8 (Q1 ae)).2.2.1 = (Q1 aq).2.2.1 ∧ (pj8 (Q1 ae)).2.2.2.1 = (Q1 aq).2.2.2.1 ∧ True ∧ (pj4 (pj8 (Q1 ae))).1 = (pj4 (Q1 aq)).1 ∧ True ∧ (pj4 (pj8 (Q1 ae))).2.1 = (pj4 (Q1 aq)).2.1 ∧ (pj4 (pj8 (Q1 ae))).2.2.1 = (pj4 (Q1 aq)).2.2.1 ∧ (pj4 (pj8 (Q1 ae))).2.2.2.1 = (pj4 (Q1 aq)).2.2.2.1 ∧ True ∧ (Q1 (Q1 ae)).1 = (pj8 (Q1 aq)).1 ∧ True ∧ (Q1 (Q1 ae)).2.1 = (pj8 (Q1 aq)).2.1 ∧ (Q1 (Q1 ae)).2.2.1 = (pj8 (Q1 aq)).2.2.1 ∧ ((Q1 (Q1 ae)).2.2.2.1 = (pj8 (Q1 aq)).2.2.2.1 ∧ (pj4 (Q1 (Q1 ae))).1 = (pj4 (pj8 (Q1 aq))).1 ∧ (pj4 (Q1 (Q1 ae))).2.1 = (pj4 (pj8 (Q1 aq))).2.1 ∧ (pj4 (Q1 (Q1 ae))).2.2.1 = (pj4 (pj8 (Q1 aq))).2.2.1 ∧ (pj4 (Q1 (Q1 ae))).2.2.2.1 = (pj4 (pj8 (Q1 aq))).2.2.2.1 ∧ True ∧ (([]:List SV) = [])) ∧ True ∧ True ∧ True ∧ True ∧ True ∧ True ∧ True ∧ True ∧ True ∧ True ∧ True ∧ True ∧ True ∧ True ∧ True ∧ True ∧ True ∧ True ∧ True ∧ (([]:List SV) = []))) ∧ ((Q1 ae).1 = (pj8 aq).1 ∧ (Q1 ae).2.1 = (pj8 aq).2.1 ∧ (([]:List SV) = [])) ∧ ((Q1 ae).2.2.1 = (pj8 aq).2.2.1 ∧ True ∧ (([]:List SV) = [])) ∧ ((Q1 ae).2.2.2.1 = (pj8 aq).2.2.2.1 ∧ (List.isEmpty (Q1 ae).2.2.2.1) = (List.isEmpty (pj8 aq).2.2.2.1)) ∧ True)) ∧ jg d36))) l6) ∧
                      ((decide (d22.2.2.1 > (0:Int))) = false →
                        (Q1 (Q1 aq)) = w5 ∧ ((decide ((pj4 aq).2.1 ≥ (1048576:Int))) = true →
                          (((Nb hd rows ax bd) ∧ (0:Int) = (AW hd rows ax bd) ∧ (9:Int) = (Q7 hd rows ax bd) ∧ (([]:List SV) = [])) ∧ (U_ hd rows ax bd))) ∧
                        ((decide ((pj4 aq).2.1 ≥ (1048576:Int))) = false →
                          (((List.length (pj8 aq).2.2.2.1) + (List.length [d22.2.1])) * 8 ≤ 70368744177664) ∧ (I64 ((pj4 (pj8 aq)).1 + (pj4 aq).2.1)) ∧ (I64 ((Q1 aq).2.1 + (1:Int))) ∧ (∃ d37:(List Int) × Int × Int, (((pj4 aq).2.2.1 = ax ∧ (pj4 aq).2.2.2.1 = bd ∧ True ∧ True ∧ ((pj4 (pj8 aq)).1 + (pj4 aq).2.1) = d37.2.1 ∧ (pj4 (pj8 aq)).2.2.2.1 = rows ∧ (Q1 aq).1 = (lI rows) ∧ ((Q1 aq).2.1 + (1:Int)) = d37.2.2 ∧ True) ∧ (((pj8 aq).1 = hd ∧ (pj8 aq).2.1 = rows ∧ (([]:List SV) = [])) ∧ ((pj8 aq).2.2.1 = hd ∧ True ∧ (([]:List SV) = [])) ∧ (((pj8 aq).2.2.2.1 ++ [d22.2.1]) = d37.1 ∧ false = (List.isEmpty d37.1)) ∧ True)) ∧ q4 d37)))) fD))) d90) ∧
            ((decide (d4.2.2 < (lI rows))) = false →
              (((hd = (if Q7 hd rows ax bd = 0 then hd else 0) ∧ True ∧ (([]:List SV) = [])) ∧ d4.2.1 = (AW hd rows ax bd) ∧ (0:Int) = (Q7 hd rows ax bd) ∧ (([]:List SV) = [])) ∧ ((d4.1 = (Qz hd rows ax bd) ∧ (List.isEmpty d4.1) = (Qz hd rows ax bd).isEmpty) ∧ True)))) d40))))
def Qt:Cx:=⟨[(1000008,(.pair (.pair (.i .i64) (.pair (.i .i64) (.pair (.i .i64) .bo))) (.i .i64)))],[],20,[],0,[],[],[],[],false,[],[],[],[]⟩
def Qs:List (Nat×LoopAnn):=[]
def Zv:Cx:=⟨[],[(77,ZK),(79,Nq),(80,ZI)],102,[],0,[(76,Q1f Qt (fun _=>Qs) c76 [.cell 4 true 4] 20),(78,Ju)],[],[],[],false,[],[],[81],[(78,5)]⟩
def Zy:List (Nat×LoopAnn):=[(0,⟨Int×Int×Int×Int×Bool×Bool×(List Int)×Int×Int×(List Int)×Int×(List Int)×Int×Int×Int×(List Int)×Int×Int×Bool×Int×Int×Int×(List Int)×Int×Int×Int×Int×Int×Int×Int×Int×Bool×(List Value),Bool×Int×Int×Int×Int×Bool×Int,[0,3,4,15,16],fun e x=>[.box 65 0,.val (.i .i64) x.2.1,.box 6700004 0,.agg [.val .bo e.2.2.2.2.1,.val .bo e.2.2.2.2.2.1],.val (.i .i64) x.2.2.2.2.2.2],fun e x=>[(65,.slot 0,.cells [.val (.i .i64) e.1,.val (.i .i64) e.2.1,.val (.i .i64) e.2.2.1,.val (.i .i64) e.2.2.2.1,.val .bo x.1,.any] (some 119)),(6700004,.slot 4,.cells [.val (.i .i64) x.2.2.1,.val (.i .i64) x.2.2.2.1,.val (.i .i64) x.2.2.2.2.1,.val .bo x.2.2.2.2.2.1] (some 155)),(6699999,.key 6699999,.stk [.any,.val (.list (.i .i64)) e.2.2.2.2.2.2.1,.val (.i .i64) e.2.2.2.2.2.2.2.1,.box 3 0,.any,.any,.box 6 0,.val (.i .i64) e.2.2.2.2.2.2.2.2.2.2.2.2.1,.any,.any,.val (.i .i64) e.2.2.2.2.2.2.2.2.2.2.2.2.2.1,.val (.i .i64) e.2.2.2.2.2.2.2.2.2.2.2.2.2.2.1,.any,.any,.any,.any,.any,.any,.any,.any,.any,.any,.any,.any,.any,.any,.any,.any,.any,.any,.any,.any,.any,.any,.any,.any,.any,.any,.any,.any,.any,.any,.any,.any,.any,.any,.any,.any,.val (.list (.i .i64)) e.2.2.2.2.2.2.2.2.2.2.2.2.2.2.2.1,.val (.i .i64) e.2.2.2.2.2.2.2.2.2.2.2.2.2.2.2.2.1,.val (.i .i64) e.2.2.2.2.2.2.2.2.2.2.2.2.2.2.2.2.2.1,.val .bo e.2.2.2.2.2.2.2.2.2.2.2.2.2.2.2.2.2.2.1,.val (.i .i64) e.2.2.2.2.2.2.2.2.2.2.2.2.2.2.2.2.2.2.2.1,.any,.val (.i .i64) e.2.2.2.2.2.2.2.2.2.2.2.2.2.2.2.2.2.2.2.2.1,.any,.val (.i .i64) e.2.2.2.2.2.2.2.2.2.2.2.2.2.2.2.2.2.2.2.2.2.1,.val (.list (.i .i64)) e.2.2.2.2.2.2.2.2.2.2.2.2.2.2.2.2.2.2.2.2.2.2.1,.val (.i .i64) e.2.2.2.2.2.2.2.2.2.2.2.2.2.2.2.2.2.2.2.2.2.2.2.1,.any,.val (.i .i64) e.2.2.2.2.2.2.2.2.2.2.2.2.2.2.2.2.2.2.2.2.2.2.2.2.1,.box 3 0,.val (.i .i64) e.2.2.2.2.2.2.2.2.2.2.2.2.2.2.2.2.2.2.2.2.2.2.2.2.2.1,.val (.i .i64) e.2.2.2.2.2.2.2.2.2.2.2.2.2.2.2.2.2.2.2.2.2.2.2.2.2.2.1,.agg [.val (.i .i64) e.2.2.2.2.2.2.2.2.2.2.2.2.2.2.2.2.2.2.2.2.2.2.2.2.2.2.2.1,.val (.i .i64) e.2.2.2.2.2.2.2.2.2.2.2.2.2.2.2.2.2.2.2.2.2.2.2.2.2.2.2.2.1,.val (.i .i64) e.2.2.2.2.2.2.2.2.2.2.2.2.2.2.2.2.2.2.2.2.2.2.2.2.2.2.2.2.2.1,.val (.i .i64) e.2.2.2.2.2.2.2.2.2.2.2.2.2.2.2.2.2.2.2.2.2.2.2.2.2.2.2.2.2.2.1,.val .bo e.2.2.2.2.2.2.2.2.2.2.2.2.2.2.2.2.2.2.2.2.2.2.2.2.2.2.2.2.2.2.2.1,.nilM],.box 65 0,.any,.any,.any,.any,.any,.any,.any,.any,.any,.any,.any,.any,.any,.any,.any,.any,.any,.any] e.2.2.2.2.2.2.2.2.2.2.2.2.2.2.2.2.2.2.2.2.2.2.2.2.2.2.2.2.2.2.2.2),(3,.key 3,.cells [.val (.i .i64) e.2.2.2.2.2.2.2.2.1,.val (.list (.i .i64)) e.2.2.2.2.2.2.2.2.2.1] (some 30)),(6,.key 6,.cells [.val (.i .i64) e.2.2.2.2.2.2.2.2.2.2.1,.lst 76] (some 30)),(76,.cell 6 1,.lst 3 (.i .i64) e.2.2.2.2.2.2.2.2.2.2.2.1 (List.isEmpty e.2.2.2.2.2.2.2.2.2.2.2.1))]⟩),
 (2,⟨Int×Int×Int×Int×Bool×Int×(List Int)×Int×Int×(List Int)×Int×(List Int)×Int×Int×Int×(List Int)×Int×Int×Bool×Int×Int×Int×(List Int)×Int×Int×Int×Int×Int×Int×Int×Int×Bool×(List Value),(List ((Int×Int×Int×Bool)×Int))×Int×Int×Int×Int×Bool×Int,[0,2,3,4,9],fun e x=>[.box 65 0,.val (.i .i64) x.2.1,.val (.i .i64) e.2.2.2.2.2.1,.box 6700004 0,.val (.i .i64) x.2.2.2.2.2.2],fun e x=>[(65,.slot 0,.cells [.val (.i .i64) e.1,.val (.i .i64) e.2.1,.val (.i .i64) e.2.2.1,.val (.i .i64) e.2.2.2.1,.val .bo e.2.2.2.2.1,.map 670004600008] (some 119)),(670004600008,.cell 65 5,.map (.pair (.i .i64) (.pair (.i .i64) (.pair (.i .i64) .bo))) (.i .i64) x.1),(6700004,.slot 4,.cells [.val (.i .i64) x.2.2.1,.val (.i .i64) x.2.2.2.1,.val (.i .i64) x.2.2.2.2.1,.val .bo x.2.2.2.2.2.1] (some 155)),(6699999,.key 6699999,.stk [.any,.val (.list (.i .i64)) e.2.2.2.2.2.2.1,.val (.i .i64) e.2.2.2.2.2.2.2.1,.box 3 0,.any,.any,.box 6 0,.val (.i .i64) e.2.2.2.2.2.2.2.2.2.2.2.2.1,.any,.any,.val (.i .i64) e.2.2.2.2.2.2.2.2.2.2.2.2.2.1,.val (.i .i64) e.2.2.2.2.2.2.2.2.2.2.2.2.2.2.1,.any,.any,.any,.any,.any,.any,.any,.any,.any,.any,.any,.any,.any,.any,.any,.any,.any,.any,.any,.any,.any,.any,.any,.any,.any,.any,.any,.any,.any,.any,.any,.any,.any,.any,.any,.any,.val (.list (.i .i64)) e.2.2.2.2.2.2.2.2.2.2.2.2.2.2.2.1,.val (.i .i64) e.2.2.2.2.2.2.2.2.2.2.2.2.2.2.2.2.1,.val (.i .i64) e.2.2.2.2.2.2.2.2.2.2.2.2.2.2.2.2.2.1,.val .bo e.2.2.2.2.2.2.2.2.2.2.2.2.2.2.2.2.2.2.1,.val (.i .i64) e.2.2.2.2.2.2.2.2.2.2.2.2.2.2.2.2.2.2.2.1,.any,.val (.i .i64) e.2.2.2.2.2.2.2.2.2.2.2.2.2.2.2.2.2.2.2.2.1,.any,.val (.i .i64) e.2.2.2.2.2.2.2.2.2.2.2.2.2.2.2.2.2.2.2.2.2.1,.val (.list (.i .i64)) e.2.2.2.2.2.2.2.2.2.2.2.2.2.2.2.2.2.2.2.2.2.2.1,.val (.i .i64) e.2.2.2.2.2.2.2.2.2.2.2.2.2.2.2.2.2.2.2.2.2.2.2.1,.any,.val (.i .i64) e.2.2.2.2.2.2.2.2.2.2.2.2.2.2.2.2.2.2.2.2.2.2.2.2.1,.box 3 0,.val (.i .i64) e.2.2.2.2.2.2.2.2.2.2.2.2.2.2.2.2.2.2.2.2.2.2.2.2.2.1,.val (.i .i64) e.2.2.2.2.2.2.2.2.2.2.2.2.2.2.2.2.2.2.2.2.2.2.2.2.2.2.1,.agg [.val (.i .i64) e.2.2.2.2.2.2.2.2.2.2.2.2.2.2.2.2.2.2.2.2.2.2.2.2.2.2.2.1,.val (.i .i64) e.2.2.2.2.2.2.2.2.2.2.2.2.2.2.2.2.2.2.2.2.2.2.2.2.2.2.2.2.1,.val (.i .i64) e.2.2.2.2.2.2.2.2.2.2.2.2.2.2.2.2.2.2.2.2.2.2.2.2.2.2.2.2.2.1,.val (.i .i64) e.2.2.2.2.2.2.2.2.2.2.2.2.2.2.2.2.2.2.2.2.2.2.2.2.2.2.2.2.2.2.1,.val .bo e.2.2.2.2.2.2.2.2.2.2.2.2.2.2.2.2.2.2.2.2.2.2.2.2.2.2.2.2.2.2.2.1,.nilM],.box 65 0,.any,.any,.any,.any,.any,.any,.any,.any,.any,.any,.any,.any,.any,.any,.any,.any,.any,.any] e.2.2.2.2.2.2.2.2.2.2.2.2.2.2.2.2.2.2.2.2.2.2.2.2.2.2.2.2.2.2.2.2),(3,.key 3,.cells [.val (.i .i64) e.2.2.2.2.2.2.2.2.1,.val (.list (.i .i64)) e.2.2.2.2.2.2.2.2.2.1] (some 30)),(6,.key 6,.cells [.val (.i .i64) e.2.2.2.2.2.2.2.2.2.2.1,.lst 76] (some 30)),(76,.cell 6 1,.lst 3 (.i .i64) e.2.2.2.2.2.2.2.2.2.2.2.1 (List.isEmpty e.2.2.2.2.2.2.2.2.2.2.2.1))]⟩),
 (4,⟨Int×Int×Int×Int×Bool×Int×Int×Int×Int×Int×Bool×Int×Bool×Bool×(List Int)×Int×Int×(List Int)×Int×(List Int)×Int×Int×Int×(List Int)×Int×Int×Bool×Int×Int×Int×(List Int)×Int×Int×Int×Int×Int×Int×Int×Int×Bool×(List Value),(List ((Int×Int×Int×Bool)×Int))×Int,[0,2,3,4,9,63,64],fun e x=>[.box 65 0,.val (.i .i64) e.2.2.2.2.2.1,.val (.i .i64) e.2.2.2.2.2.2.1,.box 6700004 0,.val (.i .i64) e.2.2.2.2.2.2.2.2.2.2.2.1,.agg [.val .bo e.2.2.2.2.2.2.2.2.2.2.2.2.1,.val .bo e.2.2.2.2.2.2.2.2.2.2.2.2.2.1],.val (.i .i64) x.2],fun e x=>[(65,.slot 0,.cells [.val (.i .i64) e.1,.val (.i .i64) e.2.1,.val (.i .i64) e.2.2.1,.val (.i .i64) e.2.2.2.1,.val .bo e.2.2.2.2.1,.map 670004600008] (some 119)),(670004600008,.cell 65 5,.map (.pair (.i .i64) (.pair (.i .i64) (.pair (.i .i64) .bo))) (.i .i64) x.1),(6700004,.slot 4,.cells [.val (.i .i64) e.2.2.2.2.2.2.2.1,.val (.i .i64) e.2.2.2.2.2.2.2.2.1,.val (.i .i64) e.2.2.2.2.2.2.2.2.2.1,.val .bo e.2.2.2.2.2.2.2.2.2.2.1] (some 155)),(6699999,.key 6699999,.stk [.any,.val (.list (.i .i64)) e.2.2.2.2.2.2.2.2.2.2.2.2.2.2.1,.val (.i .i64) e.2.2.2.2.2.2.2.2.2.2.2.2.2.2.2.1,.box 3 0,.any,.any,.box 6 0,.val (.i .i64) e.2.2.2.2.2.2.2.2.2.2.2.2.2.2.2.2.2.2.2.2.1,.any,.any,.val (.i .i64) e.2.2.2.2.2.2.2.2.2.2.2.2.2.2.2.2.2.2.2.2.2.1,.val (.i .i64) e.2.2.2.2.2.2.2.2.2.2.2.2.2.2.2.2.2.2.2.2.2.2.1,.any,.any,.any,.any,.any,.any,.any,.any,.any,.any,.any,.any,.any,.any,.any,.any,.any,.any,.any,.any,.any,.any,.any,.any,.any,.any,.any,.any,.any,.any,.any,.any,.any,.any,.any,.any,.val (.list (.i .i64)) e.2.2.2.2.2.2.2.2.2.2.2.2.2.2.2.2.2.2.2.2.2.2.2.1,.val (.i .i64) e.2.2.2.2.2.2.2.2.2.2.2.2.2.2.2.2.2.2.2.2.2.2.2.2.1,.val (.i .i64) e.2.2.2.2.2.2.2.2.2.2.2.2.2.2.2.2.2.2.2.2.2.2.2.2.2.1,.val .bo e.2.2.2.2.2.2.2.2.2.2.2.2.2.2.2.2.2.2.2.2.2.2.2.2.2.2.1,.val (.i .i64) e.2.2.2.2.2.2.2.2.2.2.2.2.2.2.2.2.2.2.2.2.2.2.2.2.2.2.2.1,.any,.val (.i .i64) e.2.2.2.2.2.2.2.2.2.2.2.2.2.2.2.2.2.2.2.2.2.2.2.2.2.2.2.2.1,.any,.val (.i .i64) e.2.2.2.2.2.2.2.2.2.2.2.2.2.2.2.2.2.2.2.2.2.2.2.2.2.2.2.2.2.1,.val (.list (.i .i64)) e.2.2.2.2.2.2.2.2.2.2.2.2.2.2.2.2.2.2.2.2.2.2.2.2.2.2.2.2.2.2.1,.val (.i .i64) e.2.2.2.2.2.2.2.2.2.2.2.2.2.2.2.2.2.2.2.2.2.2.2.2.2.2.2.2.2.2.2.1,.any,.val (.i .i64) e.2.2.2.2.2.2.2.2.2.2.2.2.2.2.2.2.2.2.2.2.2.2.2.2.2.2.2.2.2.2.2.2.1,.box 3 0,.val (.i .i64) e.2.2.2.2.2.2.2.2.2.2.2.2.2.2.2.2.2.2.2.2.2.2.2.2.2.2.2.2.2.2.2.2.2.1,.val (.i .i64) e.2.2.2.2.2.2.2.2.2.2.2.2.2.2.2.2.2.2.2.2.2.2.2.2.2.2.2.2.2.2.2.2.2.2.1,.agg [.val (.i .i64) e.2.2.2.2.2.2.2.2.2.2.2.2.2.2.2.2.2.2.2.2.2.2.2.2.2.2.2.2.2.2.2.2.2.2.2.1,.val (.i .i64) e.2.2.2.2.2.2.2.2.2.2.2.2.2.2.2.2.2.2.2.2.2.2.2.2.2.2.2.2.2.2.2.2.2.2.2.2.1,.val (.i .i64) e.2.2.2.2.2.2.2.2.2.2.2.2.2.2.2.2.2.2.2.2.2.2.2.2.2.2.2.2.2.2.2.2.2.2.2.2.2.1,.val (.i .i64) e.2.2.2.2.2.2.2.2.2.2.2.2.2.2.2.2.2.2.2.2.2.2.2.2.2.2.2.2.2.2.2.2.2.2.2.2.2.2.1,.val .bo e.2.2.2.2.2.2.2.2.2.2.2.2.2.2.2.2.2.2.2.2.2.2.2.2.2.2.2.2.2.2.2.2.2.2.2.2.2.2.2.1,.nilM],.box 65 0,.any,.any,.any,.any,.any,.any,.any,.any,.any,.any,.any,.any,.any,.any,.any,.any,.any,.any] e.2.2.2.2.2.2.2.2.2.2.2.2.2.2.2.2.2.2.2.2.2.2.2.2.2.2.2.2.2.2.2.2.2.2.2.2.2.2.2.2),(3,.key 3,.cells [.val (.i .i64) e.2.2.2.2.2.2.2.2.2.2.2.2.2.2.2.2.1,.val (.list (.i .i64)) e.2.2.2.2.2.2.2.2.2.2.2.2.2.2.2.2.2.1] (some 30)),(6,.key 6,.cells [.val (.i .i64) e.2.2.2.2.2.2.2.2.2.2.2.2.2.2.2.2.2.2.1,.lst 76] (some 30)),(76,.cell 6 1,.lst 3 (.i .i64) e.2.2.2.2.2.2.2.2.2.2.2.2.2.2.2.2.2.2.2.1 (List.isEmpty e.2.2.2.2.2.2.2.2.2.2.2.2.2.2.2.2.2.2.2.1))]⟩)]
def Mb:Cx:=⟨[(3,(.i .i64))],[(47,Xc),(52,JC)],84,[],0,[(53,Q1f Zv (fun _=>Zy) c53 [.tmp 2,.tmp 3] 102)],[],[],[],false,[],[],[],[]⟩
def Py (hd:Int) (rows:List Int) (ax:List Int) (bd:Int):List (Nat×LoopAnn):=[(1,⟨Unit,(List Int)×Int×Int,[1,2,3,6,7,48,49,50],fun e x=>[.val (.list (.i .i64)) ax,.val (.i .i64) bd,.box 3 0,.box 6 0,.val (.i .i64) x.2.1,.val (.list (.i .i64)) rows,.val (.i .i64) (((List.length rows):Nat):Int),.val (.i .i64) x.2.2],fun e x=>[(3,.slot 3,.cells [.val (.i .i64) hd,.val (.list (.i .i64)) rows] (some 30)),(6,.slot 6,.cells [.val (.i .i64) hd,.lst 76] (some 30)),(76,.cell 6 1,.lst 3 (.i .i64) x.1 (List.isEmpty x.1))]⟩)]
theorem P2 (d:(Int×List Int)×List Int×Int):gwp (Mb) (Py d.1.1 d.1.2 d.2.1 d.2.2) c29 0 (U0 [.cell 6 true 2,.tmp 7,.tmp 8] (UT d) (UH d)) (QS 84 (AL.can NM d))=WL d.1.1 d.1.2 d.2.1 d.2.2:=by kernel_rfl
abbrev PJ:Prop:=OkC Tryz.prog 29 Yu
theorem Te (h:∀ (hd:Int) (rows:List Int) (ax:List Int) (bd:Int),(rows.length≤1000∧ax.length≤1000)→WL hd rows ax bd):OkC Tryz.prog 29 Yu :=
 Z8 Q0w mixed (C:=Mb) (V:=fun (d:(Int×List Int)×List Int×Int)=>WL d.1.1 d.1.2 d.2.1 d.2.2) ⟨(.cons YS (.cons WZ .nil)),(XsOk.cons (Mz Q2h mixed (C:=Zv) ⟨(.cons Wt (.cons TL (.cons WB .nil))),(XsOk.cons (Mz Q13 mixed (C:=Qt) ⟨.nil,XsOk.nil,ItsOk.nil,YlOk.nil,IysOk.nil,XfOk.nil⟩ (fun _=>Qs)) (XsOk.cons Xn.1 XsOk.nil)),ItsOk.nil,YlOk.nil,IysOk.nil,(XfOk.cons rfl Xn.2 XfOk.nil)⟩ (fun _=>Zy)) XsOk.nil),ItsOk.nil,YlOk.nil,IysOk.nil,XfOk.nil⟩ (P2) fun d hp=>h d.1.1 d.1.2 d.2.1 d.2.2 hp
theorem Q97 (n a b:Int):(!inI n a b)=(decide (n<a)||decide (b<n)):=by unfold inI;rw[Bool.not_and,←decide_not,←decide_not];congr 1<;>(rw[decide_eq_decide];omega)
theorem Iy (l:List Int) (a:Int):(l++[a]).isEmpty=false:=by cases l<;>rfl
theorem IS {hd:Int}{rows ax:List Int}{bd E:Int}(h:Q7 hd rows ax bd=E) (h0:E≠0):((0:Int)=if Q7 hd rows ax bd=0 then hd else 0)∧(0:Int)=AW hd rows ax bd∧E=Q7 hd rows ax bd∧Qz hd rows ax bd=[]∧(Qz hd rows ax bd).isEmpty=true:=by
 have e:Qz hd rows ax bd=[]:=by unfold Qz;rw[if_neg (by omega)]
 exact⟨by rw[if_neg (by omega)],by unfold AW;rw[if_neg (by omega)],h.symm,e,by rw[e];rfl⟩
theorem Oy {r:Nat}(hr:r<16777216) (b:Bool):JL .or .i64 (Vf .i64 (r:Int) 1) (if b=true then 1 else 0)=((2*r+(if b=true then 1 else 0):Nat):Int)∧InK .i64 (Vf .i64 (r:Int) 1):=by
 have e1:Vf .i64 (r:Int) 1=((2*r:Nat):Int):=by show (r:Int)*2 ^ (Nat.min (1:Int).toNat 64)=_;rw[show Nat.min (1:Int).toNat 64=1 from rfl];omega
 rw[e1];refine⟨?_,by rw[Q9];omega⟩;have e3:∀ c:Nat,c<2→JL .or .i64 ((2*r:Nat):Int) (c:Int)=((2*r+c:Nat):Int):=fun c hc=>by
  have e:(BitVec.ofInt 64 ((2*r:Nat):Int) ||| BitVec.ofInt 64 ((c:Nat):Int)).toNat=2*r+c:=by
   rw[BitVec.toNat_or,BitVec.toNat_ofInt,BitVec.toNat_ofInt];have h1:(((2*r:Nat):Int) % ((2 ^ 64:Nat):Int)).toNat=2 ^ 1*r:=by omega
   have h2:(((c:Nat):Int) % ((2 ^ 64:Nat):Int)).toNat=c:=by omega
   rw[h1,h2,←Nat.two_pow_add_eq_or_of_lt (by omega)]
  show IntKind.wrap .i64 ((BitVec.ofInt 64 ((2*r:Nat):Int) ||| BitVec.ofInt 64 ((c:Nat):Int)).toNat:Int)=_;rw[e];simp[IntKind.wrap,IntKind.bits,IntKind.signed];omega
 cases b with
 |true=>exact e3 1 (by omega)
 |false=>exact e3 0 (by omega)
theorem F7 {hd:Int}{rows ax:List Int}{bd:Int}{i:Nat}(hi:i<rows.length) (h:1048576≤Sp hd rows ax bd i):KL hd rows ax bd=true:=by unfold KL;rw[List.any_eq_true];exact⟨i,List.mem_range.2 hi,by rw[decide_eq_true_eq];exact h⟩
theorem Ep {hd:Int}{rows ax:List Int}{bd:Int}(h:∀ i,i<rows.length→Sp hd rows ax bd i<1048576):KL hd rows ax bd=false:=by unfold KL;rw[List.any_eq_false];intro i hi;have:=h i (List.mem_range.1 hi);rw[decide_eq_true_eq];omega
theorem LU (hd:Int) (rows ax:List Int) (bd:Int):∀ n,(∀ j,j<n→Sp hd rows ax bd j<1048576)→0≤NW hd rows ax bd n∧NW hd rows ax bd n≤1048576*n
 |0,_=>by simp[NW]
 |n+1,h=>by
  have ih:=LU hd rows ax bd n fun j hj=>h j (by omega);have h1:=h n (by omega);have h0:0≤Sp hd rows ax bd n:=by have s1:=(WT (rows.getD n 0).toNat (ax.getD n 0).toNat bd.toNat true (hd.toNat-1) 1 0 true).1;have s2:=(WT (rows.getD n 0).toNat (ax.getD n 0).toNat bd.toNat false (hd.toNat-1) 1 0 false).1;have c1:=(JH (rows.getD n 0).toNat (ax.getD n 0).toNat (hd.toNat-1) true).1;have c2:=(JH (rows.getD n 0).toNat (ax.getD n 0).toNat (hd.toNat-1) false).1;unfold Sp XJ Xm;rw[XL];split<;>omega
  unfold NW;omega
set_option maxHeartbeats 4000000 in
theorem NX:PJ:=Te fun hd rows ax bd h=>by
 unfold WL;delta LZ Ch T3 HY Nb Vq U_;(try delta lI gD sT I64 Q1 pj8 pj4);have e:∀ n a b:Int,(decide (n<a)||decide (b<n))=!inI n a b:=fun n a b=>(Q97 n a b).symm;simp only[List.any_cons,List.any_nil,Bool.or_false,e,Bool.not_not,List.length_cons,List.length_nil,true_and,and_true];have fail:∀ E:Int,Q7 hd rows ax bd=E→E≠0→_:=fun E h h0=>IS h h0;refine⟨by omega,fun c=>?_,fun c=>⟨fun c2=>?_,fun c2=>?_⟩⟩
 ·have c:Qb hd rows≠0:=by simpa using c
  obtain⟨f1,f2,f3,f4,f5⟩:=fail _ (show Q7 hd rows ax bd=Qb hd rows by unfold Q7;rw[if_pos c]) c;and_intros<;>first|exact f1|exact f2|exact f3|exact f4|exact f5|trivial
 all_goals have c:Qb hd rows=0:=by simpa using c
 ·have c2:ax.length≠rows.length:=fun h=>by rw[h] at c2;simp at c2
  obtain⟨f1,f2,f3,f4,f5⟩:=fail 4 (show Q7 hd rows ax bd=4 by unfold Q7;rw[if_neg (by omega),if_pos c2]) (by decide);and_intros<;>first|exact f1|exact f2|exact f3|exact f4|exact f5|trivial
 have c2:ax.length=rows.length:=by
  apply Classical.byContradiction;intro h;have:((((ax.length:Nat):Int)) != ((rows.length:Nat):Int))=true:=by rw[bne_iff_ne];omega
  rw[this] at c2;cases c2
 obtain⟨p1,p2,p3,p4,p5⟩:=Q9h c;have hp:=X8 p1 p2;have sh:Vf .i64 1 hd=2 ^ hd.toNat:=Bx (by omega) (by omega);rw[sh];refine⟨by omega,by rw[Q9];omega,by rw[Q9];omega,by omega,fun c3=>?_,fun c3=>⟨by omega,fun c4=>?_,fun c4=>?_⟩⟩
 ·obtain⟨f1,f2,f3,f4,f5⟩:=fail 2 (show Q7 hd rows ax bd=2 by unfold Q7;rw[if_neg (by omega),if_neg (by omega),if_pos c3]) (by decide);and_intros<;>first|exact f1|exact f2|exact f3|exact f4|exact f5|trivial
 ·have c4:inI bd 1 24=false:=by simpa using c4
  obtain⟨f1,f2,f3,f4,f5⟩:=fail 3 (show Q7 hd rows ax bd=3 by unfold Q7;rw[if_neg (by omega),if_neg (by omega),if_neg (by rw[c3];decide),if_pos c4]) (by decide);and_intros<;>first|exact f1|exact f2|exact f3|exact f4|exact f5|trivial
 have c4:inI bd 1 24=true:=by simpa using c4
 have lr:1≤bd∧bd≤24:=by unfold inI at c4;simpa using c4
 have iS:∀ x∈ax,0≤x∧x<16777216:=fun x hx=>by have h1:=List.any_eq_false.1 c3 x hx;unfold inI at h1;simp only[Bool.not_eq_true,Bool.not_eq_false',Bool.and_eq_true,decide_eq_true_eq] at h1;omega
 have eb:Q7 hd rows ax bd=if KL hd rows ax bd=true then 9 else 0:=by unfold Q7;rw[if_neg (by omega),if_neg (by omega),if_neg (by rw[c3];decide),if_neg (by rw[c4];decide)]
 clear c3 c4 sh;obtain⟨H,rfl⟩:=Int.eq_ofNat_of_zero_le (show 0≤hd by omega);obtain⟨B,rfl⟩:=Int.eq_ofNat_of_zero_le (show 0≤bd by omega);refine⟨(),([],0,0),by and_intros<;>first|rfl|trivial,?_⟩;refine⟨fun d=>∃ i:Nat,i≤rows.length∧(∀ j,j<i→Sp H rows ax B j<1048576)∧d=(ND H rows ax B i,NW H rows ax B i,(i:Int)),fun d=>rows.length-d.2.2.toNat,⟨0,by omega,fun j hj=>by omega,rfl⟩,?_⟩;rintro _ ⟨i,hi,hall,rfl⟩;dsimp only;refine⟨fun g=>?_,fun g=>?_⟩
 ·have g:i<rows.length:=by have:=of_decide_eq_true g;omega
  have nb:=LU H rows ax B i hall;have wl:=Tm H rows ax B i;have hR:0≤rows.getD i 0∧rows.getD i 0<16777216:=by have:=p5 (rows.getD i 0) (by rw[Qi g];exact List.getElem_mem g);omega
  have hX:0≤ax.getD i 0∧ax.getD i 0<16777216:=iS (ax.getD i 0) (by rw[Qi (show i<ax.length by omega)];exact List.getElem_mem _);have hC:Sp H rows ax B i=XJ (rows.getD i 0).toNat (ax.getD i 0).toNat B H:=rfl;have hW:Q6s H rows ax B i=((K_ (rows.getD i 0).toNat (ax.getD i 0).toNat B H:Nat):Int):=rfl;have dp:∀ j,j<i+1→Sp H rows ax B i<1048576→Sp H rows ax B j<1048576:=fun j hj h=>by
   by_cases e:j=i
   ·subst e;exact h
   ·exact hall j (by omega)
  have ws:=CV H rows ax B i;have ns:NW H rows ax B (i+1)=NW H rows ax B i+Sp H rows ax B i:=rfl;simp only[Int.toNat_natCast];refine⟨by omega,by omega,by omega,by omega,fun w5=>?_⟩;generalize rows.getD i 0=R at *
  generalize ax.getD i 0=X at *
  have oq:∀ tp k ln fi lt,0≤Qf R.toNat X.toNat B tp k ln fi lt∧Qf R.toNat X.toNat B tp k ln fi lt≤1048576:=fun tp k ln fi lt=>WT _ _ _ _ _ _ _ _;have cin:∀ k b,0≤QH R.toNat X.toNat k b∧QH R.toNat X.toNat k b≤1048576:=fun k b=>JH _ _ _ _;have eH:((H:Int)-1).toNat=H-1:=by omega
  have eS:∀ tp,Xm R.toNat X.toNat B H tp=QH R.toNat X.toNat (H-1) tp+Qf R.toNat X.toNat B tp (H-1) 1 0 tp:=fun _=>rfl;refine⟨(R,X,(H:Int),(B:Int),false,true,ax,(B:Int),(H:Int),rows,(H:Int),ND H rows ax B i,NW H rows ax B i,(i:Int),R,rows,(rows.length:Int),(i:Int),decide ((i:Int)<(rows.length:Int)),(i:Int),R,R,ax,(i:Int),X,(H:Int),(B:Int),R,X,(H:Int),(B:Int),false,w5),(false,1048576,0,0,0,false,0),by and_intros<;>first|rfl|trivial,?_⟩;dsimp only;simp only[eH,Int.toNat_natCast,show (1:Int).toNat=1 from rfl,show (0:Int).toNat=0 from rfl,←eS];refine⟨fun d=>d.2.2.2.2.2.2=0∧d=(false,1048576,0,0,0,false,0)∨d.2.2.2.2.2.2=1∧d.2.1=Cv (Xm R.toNat X.toNat B H false) 1048576∧(d.2.1<1048576→d.2.2=((H:Int)-1,1,0,false,1))∨d.2.2.2.2.2.2=2∧d.2.1=XJ R.toNat X.toNat B H∧(d.2.1<1048576→d.2.2=((H:Int)-1,1,0,Ng R.toNat X.toNat B H,2)),fun d=>2-d.2.2.2.2.2.2.toNat,.inl ⟨rfl,rfl⟩,?_⟩;rintro⟨vZ,ch,o5,o6,o7,o8,q⟩ hq;dsimp only at hq ⊢;refine⟨fun g2=>?_,fun g2=>?_⟩
  ·have g2:=of_decide_eq_true g2;refine⟨by omega,by omega,fun q0=>?_,fun q1=>?_⟩
   ·subst q0;have er:ch=1048576:=by
     rcases hq with⟨_,hq⟩|⟨hq,_⟩|⟨hq,_⟩
     ·cases hq;rfl
     ·omega
     ·omega
    have s1:=oq false (H-1) 1 0 false;have s2:=cin (H-1) false;intro l7;refine⟨by rw[Q9];omega,by rw[Q9];omega,⟨hR,hX,by omega,by omega⟩,⟨hR,hX,by omega,by omega,by omega,by omega,P4 _ _ _ _⟩,fun u2 _=>⟨by rw[Q9,eS];omega,fun c5=>⟨by rw[Q9];omega,(false,Xm R.toNat X.toNat B H false,(H:Int)-1,1,0,false,1),by and_intros<;>first|rfl|trivial,.inr (.inl ⟨rfl,?_,fun _=>rfl⟩),by dsimp only;decide⟩,fun c5=>⟨by rw[Q9];omega,(false,ch,o5,o6,o7,o8,1),by and_intros<;>first|rfl|trivial,.inr (.inl ⟨rfl,?_,fun h=>?_⟩),by dsimp only;decide⟩⟩⟩
    ·have c5:=of_decide_eq_true c5;dsimp only;rw[XL];omega
    ·have c5:=of_decide_eq_false c5;dsimp only;rw[XL];omega
    ·dsimp only at h;omega
   ·subst q1;obtain⟨dA,eZ⟩:ch=Cv (Xm R.toNat X.toNat B H false) 1048576∧(ch<1048576→(o5,o6,o7,o8,(1:Int))=((H:Int)-1,1,0,false,1)):=by
     rcases hq with⟨hq,_⟩|⟨_,hq⟩|⟨hq,_⟩
     ·omega
     ·exact hq
     ·omega
    have s1:=oq true (H-1) 1 0 true;have s2:=cin (H-1) true;intro l7;refine⟨by rw[Q9];omega,by rw[Q9];omega,⟨hR,hX,by omega,by omega⟩,⟨hR,hX,by omega,by omega,by omega,by omega,P4 _ _ _ _⟩,fun u2 _=>⟨by rw[Q9,eS];omega,fun c5=>⟨by rw[Q9];omega,(true,Xm R.toNat X.toNat B H true,(H:Int)-1,1,0,true,2),by and_intros<;>first|rfl|trivial,.inr (.inr ⟨rfl,?_,fun _=>?_⟩),by dsimp only;decide⟩,fun c5=>⟨by rw[Q9];omega,(true,ch,o5,o6,o7,o8,2),by and_intros<;>first|rfl|trivial,.inr (.inr ⟨rfl,?_,fun h=>?_⟩),by dsimp only;decide⟩⟩⟩
    ·have c5:=of_decide_eq_true c5;have:Ng R.toNat X.toNat B H=true:=by unfold Ng;rw[decide_eq_true_eq,←dA];exact c5
     dsimp only;unfold XJ;rw[this,if_pos rfl]
    ·have c5:=of_decide_eq_true c5;have:Ng R.toNat X.toNat B H=true:=by unfold Ng;rw[decide_eq_true_eq,←dA];exact c5
     dsimp only;rw[this]
    ·have c5:=of_decide_eq_false c5;have:Ng R.toNat X.toNat B H=false:=by unfold Ng;rw[decide_eq_false_iff_not,←dA];exact c5
     dsimp only;unfold XJ;rw[this,if_neg (by decide)];exact dA
    ·have c5:=of_decide_eq_false c5;have:Ng R.toNat X.toNat B H=false:=by unfold Ng;rw[decide_eq_false_iff_not,←dA];exact c5
     dsimp only at h ⊢;rw[this];have:=eZ h;simp only[Prod.mk.injEq] at this;simp only[Prod.mk.injEq];exact⟨this.1,this.2.1,this.2.2.1,this.2.2.2.1,trivial⟩
  ·have g2:=of_decide_eq_false g2;obtain⟨dA,eZ⟩:ch=XJ R.toNat X.toNat B H∧(ch<1048576→(o5,o6,o7,o8,q)=((H:Int)-1,1,0,Ng R.toNat X.toNat B H,2)):=by
    rcases hq with⟨hq,_⟩|⟨hq,_⟩|⟨_,hq⟩
    ·omega
    ·omega
    ·exact hq
   refine⟨fun c5=>?_,fun c5=>?_⟩
   ·have c5:=of_decide_eq_true c5;have bad:Q7 (H:Int) rows ax (B:Int)=9:=by rw[eb,if_pos (F7 g (by rw[hC];omega))]
    obtain⟨f1,f2,f3,f4,f5⟩:=fail 9 bad (by decide);refine⟨trivial,fun _=>?_,fun c6=>absurd c6 (by decide)⟩;and_intros<;>first|exact f1|exact f2|exact f3|exact f4|exact f5|trivial
   ·have c5:=of_decide_eq_false c5;have ai:XJ R.toNat X.toNat B H<1048576:=by omega
    have eZ:=eZ (by omega);simp only[Prod.mk.injEq] at eZ;obtain⟨rfl,rfl,rfl,rfl,rfl⟩:=eZ;have bI:XJ R.toNat X.toNat B H=Xm R.toNat X.toNat B H (Ng R.toNat X.toNat B H):=by
     have h2:=ai;unfold XJ at h2 ⊢;cases ht:Ng R.toNat X.toNat B H with
     |true=>rw[if_pos rfl]
     |false =>rw[ht,if_neg (by decide),XL] at h2;rw[if_neg (by decide),XL];omega
    have nT:K_ R.toNat X.toNat B H=(if Ng R.toNat X.toNat B H=true then 2 ^ (H-1) else 0)+L0 R.toNat X.toNat B (Ng R.toNat X.toNat B H) (H-1) 1 0 (Ng R.toNat X.toNat B H):=by unfold K_;rw[if_pos ai]
    subst dA;generalize Ng R.toNat X.toNat B H=tp at *
    have s1:=oq tp (H-1) 1 0 tp;have s2:=cin (H-1) tp;have v5:=eS tp;intro qR;refine⟨by rw[Q9];omega,by rw[Q9];omega,⟨hR,hX,by omega,by omega⟩,by rw[Q9];omega,(R,X,(H:Int),(B:Int),tp,XJ R.toNat X.toNat B H,ax,(B:Int),(H:Int),rows,(H:Int),ND H rows ax B i,NW H rows ax B i,(i:Int),R,rows,(rows.length:Int),(i:Int),decide ((i:Int)<(rows.length:Int)),(i:Int),R,R,ax,(i:Int),X,(H:Int),(B:Int),R,X,(H:Int),(B:Int),false,w5),([],(if tp=true then 1 else 0),(H:Int)-1,1,0,tp,XJ R.toNat X.toNat B H-QH R.toNat X.toNat (H-1) tp),by and_intros<;>first|rfl|trivial,?_⟩;dsimp only;refine⟨fun d=>∃ (k n f r:Nat),BS R X B tp d.1∧k≤H-1∧(1≤n∧n≤24)∧f≤24∧r<2 ^ (H-k)∧d.2.1=(r:Int)∧d.2.2.1=(k:Int)∧d.2.2.2.1=(n:Int)∧d.2.2.2.2.1=(f:Int)∧d.2.2.2.2.2.2=Qf R.toNat X.toNat B tp k n f d.2.2.2.2.2.1∧d.2.2.2.2.2.2<1048576∧r*2 ^ k+L0 R.toNat X.toNat B tp k n f d.2.2.2.2.2.1=K_ R.toNat X.toNat B H,fun d=>d.2.2.1.toNat,⟨H-1,1,0,(if tp=true then 1 else 0),P4 _ _ _ _,Nat.le_refl _,by omega,by omega,?_,?_,by dsimp only;omega,rfl,rfl,?_,?_,?_⟩,?_⟩
    ·rw[show H-(H-1)=1 by omega];split<;>decide
    ·dsimp only;split<;>rfl
    ·dsimp only;omega
    ·dsimp only;omega
    ·dsimp only;rw[nT];split<;>simp
    rintro⟨m1,row,lf,ln,fi,lt,left⟩ ⟨k,n,f,r,gL,hk,hn,hf,hr,rfl,rfl,rfl,rfl,gv,u4,cz⟩;dsimp only at gL gv u4 cz ⊢;refine⟨fun g3=>?_,fun g3=>?_⟩
    ·have g3:=of_decide_eq_true g3;obtain⟨k,rfl⟩:∃ j,k=j+1:=⟨k-1,by omega⟩;have ek:((k+1:Nat):Int)-1=(k:Int):=by omega
     have mP:Qf R.toNat X.toNat B tp (k+1) n f lt<1048576:=by omega
     have ot:r<16777216:=by have:=Nat.pow_le_pow_right (show 1≤2 by omega) (show H-(k+1)≤24 by omega);omega
     obtain⟨u5,se⟩:=Q0e mP;have rk:L0 R.toNat X.toNat B tp (k+1) n f lt=(if pkB R.toNat X.toNat B tp k n f lt=true then 2 ^ k else 0)+L0 R.toNat X.toNat B tp k (nxL n lt (pkB R.toNat X.toNat B tp k n f lt)) (nxF n f lt (pkB R.toNat X.toNat B tp k n f lt)) (pkB R.toNat X.toNat B tp k n f lt):=rfl;refine⟨(R,X,(H:Int),(B:Int),tp,(r:Int),XJ R.toNat X.toNat B H,((k+1:Nat):Int),(n:Int),(f:Int),lt,left,false,true,ax,(B:Int),(H:Int),rows,(H:Int),ND H rows ax B i,NW H rows ax B i,(i:Int),R,rows,(rows.length:Int),(i:Int),decide ((i:Int)<(rows.length:Int)),(i:Int),R,R,ax,(i:Int),X,(H:Int),(B:Int),R,X,(H:Int),(B:Int),false,w5),(m1,0),by and_intros<;>first|rfl|trivial,?_⟩;dsimp only;simp only[ek,LY,L2,Int.toNat_natCast];have iT:pkB R.toNat X.toNat B tp k n f lt=!(decide (nxL n lt false≤B)&&decide (QH R.toNat X.toNat k false+Qf R.toNat X.toNat B tp k (nxL n lt false) (nxF n f lt false) false=Qf R.toNat X.toNat B tp (k+1) n f lt)):=rfl;refine⟨fun d=>BS R X B tp d.1∧(d.2=0∨d.2=1∧pkB R.toNat X.toNat B tp k n f lt=true),fun d=>2-d.2.toNat,⟨gL,.inl rfl⟩,?_⟩;rintro⟨m2,q⟩ ⟨eT,hq⟩;dsimp only at eT hq ⊢;have take:∀ b:Bool,pkB R.toNat X.toNat B tp k n f lt=b→(2*r+(if b=true then 1 else 0))<2 ^ (H-k)∧left-QH R.toNat X.toNat k b=Qf R.toNat X.toNat B tp k (nxL n lt b) (nxF n f lt b) b∧(2*r+(if b=true then 1 else 0))*2 ^ k+L0 R.toNat X.toNat B tp k (nxL n lt b) (nxF n f lt b) b=K_ R.toNat X.toNat B H:=fun b hb=>by
      rw[hb] at se rk;refine⟨?_,by omega,?_⟩
      ·rw[show H-k=(H-(k+1))+1 by omega,Nat.pow_succ];split<;>omega
      ·rw[←cz,rk,Nat.pow_succ,Nat.add_mul];have:2*r*2 ^ k=r*(2 ^ k*2):=by rw[Nat.mul_comm 2 r,Nat.mul_assoc,Nat.mul_comm 2]
       rw[this];cases b<;>simp<;>omega
     refine⟨fun g4=>?_,fun g4=>?_⟩
     ·have g4:=of_decide_eq_true g4;refine⟨by omega,by omega,fun q0=>?_,fun q1=>?_⟩
      ·subst q0;have w1:=cin k false;have w2:=oq tp k (nxL n lt false) (nxF n f lt false) false;have w3:nxF n f lt false≤24:=FJ hn.2 hf;refine⟨⟨by omega,by omega,by omega⟩,by rw[Q9];omega,⟨hR,hX,by omega,by omega⟩,fun c6=>?_,fun c6=>?_⟩
       ·have c6:=of_decide_eq_true c6;have u6:nxL n lt false≤B:=by omega
        have w4:=(EZ (B:=B) (lt:=lt) (b:=false) hn.1).1;refine⟨⟨hR,hX,by omega,by omega,by omega,by omega,eT⟩,fun o9 jJ=>⟨by rw[Q9];omega,fun c7=>?_,fun c7=>?_⟩⟩
        ·have c7:=eq_of_beq c7;have hb:pkB R.toNat X.toNat B tp k n f lt=false:=by rw[iT,decide_eq_true u6,decide_eq_true (by omega)];rfl
         obtain⟨t1,t2,t3⟩:=take false hb;obtain⟨o1,o2⟩:=Oy ot false;refine⟨by rw[Q9];omega,by omega,o2,(o9,((2*r+(if false=true then 1 else 0):Nat):Int),(k:Int),((nxL n lt false:Nat):Int),((nxF n f lt false:Nat):Int),false,left-QH R.toNat X.toNat k false),?_,⟨k,nxL n lt false,nxF n f lt false,2*r+(if false=true then 1 else 0),jJ,by omega,by omega,w3,t1,rfl,rfl,rfl,rfl,t2,?_,t3⟩,by dsimp only;omega⟩
         ·and_intros<;>first|rfl|trivial|exact o1
         ·dsimp only;rw[t2];omega
        ·have c7:¬ (QH R.toNat X.toNat k false+Qf R.toNat X.toNat B tp k (nxL n lt false) (nxF n f lt false) false=left):=by simpa using c7
         have hb:pkB R.toNat X.toNat B tp k n f lt=true:=by rw[iT,decide_eq_false (show ¬ (QH R.toNat X.toNat k false+Qf R.toNat X.toNat B tp k (nxL n lt false) (nxF n f lt false) false=Qf R.toNat X.toNat B tp (k+1) n f lt) by rw[←gv];exact c7)];simp
         refine⟨by rw[Q9];omega,(o9,1),?_,⟨jJ,.inr ⟨rfl,hb⟩⟩,by dsimp only;decide⟩;and_intros<;>first|rfl|trivial
       ·have c6:=of_decide_eq_false c6;have hb:pkB R.toNat X.toNat B tp k n f lt=true:=by rw[iT,decide_eq_false (show ¬ nxL n lt false≤B by omega)];simp
        refine⟨(fun h=>by cases h),fun _=>⟨by rw[Q9];omega,(m2,1),?_,⟨eT,.inr ⟨rfl,hb⟩⟩,by dsimp only;decide⟩⟩;and_intros<;>first|rfl|trivial
      ·subst q1;have hb:pkB R.toNat X.toNat B tp k n f lt=true:=by rcases hq with h|h;omega;exact h.2
       have w1:=cin k true;have w2:=oq tp k (nxL n lt true) (nxF n f lt true) true;have w3:nxF n f lt true≤24:=FJ hn.2 hf;rw[hb] at u5 se;have w4:=(EZ (B:=B) (lt:=lt) (b:=true) hn.1).1;refine⟨⟨by omega,by omega,by omega⟩,by rw[Q9];omega,⟨hR,hX,by omega,by omega⟩,fun c6=>?_,fun c6=>?_⟩
       ·refine⟨⟨hR,hX,by omega,by omega,by omega,by omega,eT⟩,fun o9 jJ=>⟨by rw[Q9];omega,fun c7=>?_,fun c7=>?_⟩⟩
        ·obtain⟨t1,t2,t3⟩:=take true hb;obtain⟨o1,o2⟩:=Oy ot true;refine⟨by rw[Q9];omega,by omega,o2,(o9,((2*r+(if true=true then 1 else 0):Nat):Int),(k:Int),((nxL n lt true:Nat):Int),((nxF n f lt true:Nat):Int),true,left-QH R.toNat X.toNat k true),?_,⟨k,nxL n lt true,nxF n f lt true,2*r+(if true=true then 1 else 0),jJ,by omega,by omega,w3,t1,rfl,rfl,rfl,rfl,t2,?_,t3⟩,by dsimp only;omega⟩
         ·and_intros<;>first|rfl|trivial|exact o1
         ·dsimp only;rw[t2];omega
        ·exfalso;have c7:¬ (QH R.toNat X.toNat k true+Qf R.toNat X.toNat B tp k (nxL n lt true) (nxF n f lt true) true=left):=by simpa using c7
         omega
       ·exfalso;have c6:=of_decide_eq_false c6;omega
     ·exfalso;have g4:=of_decide_eq_false g4;rcases hq with h|⟨h,_⟩<;>omega
    ·have g3:=of_decide_eq_false g3;have k0:k=0:=by omega
     subst k0;have cz:r=K_ R.toNat X.toNat B H:=by simpa [L0] using cz
     refine⟨rfl,fun c6=>?_,fun c6=>⟨?_,by rw[Q9];omega,by rw[Q9];omega,(ND H rows ax B (i+1),NW H rows ax B (i+1),(i:Int)+1),?_,⟨i+1,g,fun j hj=>dp j hj (by rw[hC];exact ai),rfl⟩,by dsimp only;omega⟩⟩
     ·exfalso;have c6:=of_decide_eq_true c6;omega
     ·rw[wl];omega
     ·rw[ws,ns,hW,hC,cz];and_intros<;>first|rfl|trivial|exact(Iy _ _).symm
 ·have g:i=rows.length:=by have:=of_decide_eq_false g;omega
  subst g;have qS:Q7 (H:Int) rows ax (B:Int)=0:=by rw[eb,if_neg (by rw[Ep hall];decide)]
  have e1:Qz (H:Int) rows ax (B:Int)=ND H rows ax B rows.length:=by unfold Qz;rw[if_pos qS]
  have e2:AW (H:Int) rows ax (B:Int)=NW H rows ax B rows.length:=by unfold AW;rw[if_pos qS]
  rw[qS,e1,e2,if_pos rfl];and_intros<;>first|rfl|trivial
def B9:AL (Bool):=(.one (.k .bo))
def RL (d:Bool):Prop:=True
def Gq (d:Bool):SV:=.val (.i .u8) (Ni d)
def Gn (d:Bool):List OB:=[]
def Mu:CSp:=V0 B9 RL Gq Gn
def Kk (x:Bool):Prop :=
 (x=true →
  ((120:Int)=(Ni x)∧(True))) ∧
 (x=false →
  ((46:Int)=(Ni x)∧(True)))
def Bi:Cx:=⟨[],[],4,[],0,[],[],[],[],false,[],[],[],[]⟩
def Sx (x:Bool):List (Nat×LoopAnn):=[]
theorem SB (d:Bool):gwp (Bi) (Sx d) c69 0 (U0 [.tmp 2] (Gq d) (Gn d)) (QS 4 (AL.can B9 d))=Kk d:=by kernel_rfl
abbrev SA:Prop:=OkC Tryz.prog 69 Mu
theorem SO (h:∀ (x:Bool),(True)→Kk x):OkC Tryz.prog 69 Mu :=
 Z8 Q1a mixed (C:=Bi) (V:=fun (d:Bool)=>Kk d) ⟨.nil,XsOk.nil,ItsOk.nil,YlOk.nil,IysOk.nil,XfOk.nil⟩ (SB) fun d hp=>h d hp
theorem SS:SA:=SO fun x _=>by cases x<;>simp[Kk,Ni]
def X_:AL ((Int×List Int)×Int×Int):=(.cons (.agg (.cons (.k (.i .i64)) (.one (.k (.list (.i .i64)))))) (.cons (.k (.i .i64)) (.one (.k (.i .i64)))))
def KW (d:(Int×List Int)×Int×Int):Prop:=0≤d.2.2∧d.2.2<d.1.2.length∧0≤d.2.1∧d.2.1<9223372036854775808∧∀ x∈d.1.2,0≤x∧x≤60
def Xl (d:(Int×List Int)×Int×Int):SV:=.val .bo (d.2.1.toNat.testBit (d.1.2.getD d.2.2.toNat 0).toNat)
def Xt (d:(Int×List Int)×Int×Int):List OB:=[]
def Jv:CSp:=V0 X_ KW Xl Xt
def Zc (hk:Int) (lw:List Int) (row:Int) (w:Int):Prop :=
 (0≤w)∧(w<(List.length lw))∧(0≤(gD lw w 0))∧(((JL .and .i64 (RU .i64 row (gD lw w 0)) (1:Int))==(1:Int))=(row.toNat.testBit (lw.getD w.toNat 0).toNat)∧(True))
def XV:Cx:=⟨[],[],17,[],0,[],[],[],[],false,[],[],[],[]⟩
def Vg (hk:Int) (lw:List Int) (row:Int) (w:Int):List (Nat×LoopAnn):=[]
theorem V3 (d:(Int×List Int)×Int×Int):gwp (XV) (Vg d.1.1 d.1.2 d.2.1 d.2.2) c70 0 (U0 [.tmp 6] (Xl d) (Xt d)) (QS 17 (AL.can X_ d))=Zc d.1.1 d.1.2 d.2.1 d.2.2:=by kernel_rfl
abbrev Vz:Prop:=OkC Tryz.prog 70 Jv
theorem VB (h:∀ (hk:Int) (lw:List Int) (row:Int) (w:Int),(0≤w∧w<lw.length∧0≤row∧row<9223372036854775808∧∀ x∈lw,0≤x∧x≤60)→Zc hk lw row w):OkC Tryz.prog 70 Jv :=
 Z8 Q1e mixed (C:=XV) (V:=fun (d:(Int×List Int)×Int×Int)=>Zc d.1.1 d.1.2 d.2.1 d.2.2) ⟨.nil,XsOk.nil,ItsOk.nil,YlOk.nil,IysOk.nil,XfOk.nil⟩ (V3) fun d hp=>h d.1.1 d.1.2 d.2.1 d.2.2 hp
theorem Vp:Vz:=VB fun hk lw row w h=>by
 obtain⟨h1,h2,h3,h4,h5⟩:=h;obtain⟨w,rfl⟩:=Int.eq_ofNat_of_zero_le h1;obtain⟨r,rfl⟩:=Int.eq_ofNat_of_zero_le h3;have hw:w<lw.length:=by omega
 have hx:=h5 _ (List.getElem_mem hw);obtain⟨k,hk⟩:=Int.eq_ofNat_of_zero_le hx.1;unfold Zc;(try delta lI gD sT I64 Q1 pj8 pj4);simp only[true_and,and_true,eq_self_iff_true,exists_eq_left',exists_const,decide_eq_true_eq,decide_eq_false_iff_not,beq_iff_eq,bne_iff_ne,ne_eq,beq_eq_false_iff_ne,bne_eq_false_iff_eq,Bool.not_eq_true',Bool.not_eq_false',Bool.not_eq_true,Bool.not_eq_false,Int.toNat_natCast,Int.ofNat_lt,gt_iff_lt,ge_iff_le,Qi hw,hk];refine⟨by omega,by omega,by omega,?_⟩;exact Q23 (by omega) (by omega)
def J2:Cx:=⟨[],[],20,[],0,[(113,Q2u)],[],[],[],false,[],[],[],[]⟩
def Z4:XSp:=Q1f J2 (fun _=>[]) c92 [] 20
theorem ZT:XOk Tryz.prog 92 Z4:=Mz Q2m mixed (C:=J2) ⟨.nil,(XsOk.cons (Lh Po) XsOk.nil),ItsOk.nil,YlOk.nil,IysOk.nil,XfOk.nil⟩ _
def J0:Cx:=⟨[(5,(.i .u8))],[],17,[],0,[(92,Z4)],[],[],[],false,[],[],[],[]⟩
def J8:XSp:=Q1f J0 (fun _=>[]) c68 [.tmp 4] 17
theorem Wg:XOk Tryz.prog 68 J8:=Mz Q12 mixed (C:=J0) ⟨.nil,(XsOk.cons ZT XsOk.nil),ItsOk.nil,YlOk.nil,IysOk.nil,XfOk.nil⟩ _
def Jz:Cx:=⟨[],[],14,[],0,[],[],[],[],false,[],[],[],[]⟩
def J_:XSp:=Q1f Jz (fun _=>[]) c71 [.tmp 2] 14
theorem Yn:XOk Tryz.prog 71 J_:=Mz Q30 mixed (C:=Jz) ⟨.nil,XsOk.nil,ItsOk.nil,YlOk.nil,IysOk.nil,XfOk.nil⟩ _
def Ym:AL ((Int×List Int)×Int):=(.cons (.agg (.cons (.k (.i .i64)) (.one (.k (.list (.i .i64)))))) (.one (.k (.i .i64))))
def Uf (d:(Int×List Int)×Int):Prop:=d.1.2.length≤110∧0≤d.2∧d.2<9223372036854775808∧∀ x∈d.1.2,0≤x∧x≤60
def Wx (d:(Int×List Int)×Int):SV:=.val .st (Zk d.1.2 d.2)
def Wz (d:(Int×List Int)×Int):List OB:=[]
def X6:CSp:=V0 Ym Uf Wx Wz
def ZL (hk:Int) (lw:List Int) (row:Int):Prop :=
 ∃ (e4:Unit) (d40:Bool×(List Int)×Int),((row=row∧True∧True∧(lI lw)=(lI lw)∧(0:Int)=d40.2.2∧True)∧((hk=hk∧lw=lw∧(([]:List SV)=[]))∧(d40.1=false∧True∧(([]:List SV)=[]))∧(d40.2.1=[]∧(List.isEmpty d40.2.1)=true)∧True)) ∧
 LoopP (fun (d4:Bool×(List Int)×Int) (q4:(Bool×(List Int)×Int)→Prop) =>
  ((decide (d4.2.2<(lI lw)))=true →
   (0≤d4.2.2∧d4.2.2<lw.length∧0≤row∧row<9223372036854775808∧∀ x∈lw,0≤x∧x≤60)∧(True)∧∀ w5:List Value,∀ w6:List Value,((!d4.1)=true →
    w6=w6∧(((List.length d4.2.1)+(List.length [(Ni (row.toNat.testBit (lw.getD d4.2.2.toNat 0).toNat))]))*1≤70368744177664)∧w5=w5∧(I64 (d4.2.2+(1:Int)))∧(∃ d7:Bool×(List Int)×Int,((row=row∧True∧True∧(lI lw)=(lI lw)∧(d4.2.2+(1:Int))=d7.2.2∧True)∧((hk=hk∧lw=lw∧(([]:List SV)=[]))∧(d7.1=true∧True∧(([]:List SV)=[]))∧((d4.2.1++[(Ni (row.toNat.testBit (lw.getD d4.2.2.toNat 0).toNat))])=d7.2.1∧false=(List.isEmpty d7.2.1))∧True))∧q4 d7)) ∧
   ((!d4.1)=false →
    (d4.1=true)∧((!true)=true →
     False) ∧
    ((!true)=false →
     w6=w6∧(((List.length d4.2.1)+(List.length [(Ni (row.toNat.testBit (lw.getD d4.2.2.toNat 0).toNat))]))*1≤70368744177664)∧w5=w5∧(I64 (d4.2.2+(1:Int)))∧(∃ d8:Bool×(List Int)×Int,((row=row∧True∧True∧(lI lw)=(lI lw)∧(d4.2.2+(1:Int))=d8.2.2∧True)∧((hk=hk∧lw=lw∧(([]:List SV)=[]))∧(d4.1=d8.1∧True∧(([]:List SV)=[]))∧((d4.2.1++[(Ni (row.toNat.testBit (lw.getD d4.2.2.toNat 0).toNat))])=d8.2.1∧false=(List.isEmpty d8.2.1))∧True))∧q4 d8)))) ∧
  ((decide (d4.2.2<(lI lw)))=false →
   ∀ w9:List Value,((List.isEmpty d4.2.1)=false→d4.2.1≠[])∧((lI d4.2.1)=(List.length d4.2.1))∧((List.length d4.2.1)≤4611686018427387904)∧w9=w9∧((HP d4.2.1)=(Zk lw row)∧(True)))) d40
def Y5:Cx:=⟨[(5,(.i .u8))],[(70,Jv),(69,Mu)],22,[],0,[(68,J8),(92,Z4),(113,Q2u),(71,J_)],[],[],[],false,[],[],[],[]⟩
def N2 (hk:Int) (lw:List Int) (row:Int):List (Nat×LoopAnn):=[(0,⟨Unit,Bool×(List Int)×Int,[1,2,5,10,11],fun e x=>[.val (.i .i64) row,.box 2 0,.box 5 0,.val (.i .i64) (((List.length lw):Nat):Int),.val (.i .i64) x.2.2],fun e x=>[(2,.slot 2,.cells [.val (.i .i64) hk,.val (.list (.i .i64)) lw] (some 88)),(5,.slot 5,.cells [.dd 5 (.obx x.1),.lst 2000014] (some 142)),(2000014,.cell 5 1,.lst 5 (.i .u8) x.2.1 (List.isEmpty x.2.1))]⟩)]
theorem Nz (d:(Int×List Int)×Int):gwp (Y5) (N2 d.1.1 d.1.2 d.2) c48 0 (U0 [.tmp 4] (Wx d) (Wz d)) (QS 22 (AL.can Ym d))=ZL d.1.1 d.1.2 d.2:=by kernel_rfl
abbrev N6:Prop:=OkC Tryz.prog 48 X6
theorem Nl (h:∀ (hk:Int) (lw:List Int) (row:Int),(lw.length≤110∧0≤row∧row<9223372036854775808∧∀ x∈lw,0≤x∧x≤60)→ZL hk lw row):OkC Tryz.prog 48 X6 :=
 Z8 Q10 mixed (C:=Y5) (V:=fun (d:(Int×List Int)×Int)=>ZL d.1.1 d.1.2 d.2) ⟨(.cons Vp (.cons SS .nil)),(XsOk.cons Wg (XsOk.cons ZT (XsOk.cons (Lh Po) (XsOk.cons Yn XsOk.nil)))),ItsOk.nil,YlOk.nil,IysOk.nil,XfOk.nil⟩ (Nz) fun d hp=>h d.1.1 d.1.2 d.2 hp
theorem Ax (lw:List Int) (row:Int):HP (lw.map fun k=>Ni (row.toNat.testBit k.toNat))=Zk lw row:=by simp only[HP,Zk,List.map_map];refine List.map_congr_left fun k _=>?_;simp only[Function.comp,Ni];split<;>rfl
theorem Nx:N6:=Nl fun hk lw row h=>by
 obtain⟨h1,h2,h3,h4⟩:=h;unfold ZL;(try delta lI gD sT I64 Q1 pj8 pj4);simp only[true_and,and_true,eq_self_iff_true,exists_eq_left',exists_const,decide_eq_true_eq,decide_eq_false_iff_not,beq_iff_eq,bne_iff_ne,ne_eq,beq_eq_false_iff_ne,bne_eq_false_iff_eq,Bool.not_eq_true',Bool.not_eq_false',Bool.not_eq_true,Bool.not_eq_false,Int.toNat_natCast,Int.ofNat_lt,gt_iff_lt,ge_iff_le,Q9];refine⟨(false,[],0),⟨rfl,rfl,rfl,rfl⟩,?_⟩;refine⟨fun d=>∃ i:Nat,i≤lw.length∧d.2.2=i∧d.2.1=(lw.take i).map fun k=>Ni (row.toNat.testBit k.toNat),fun d=>lw.length-d.2.2.toNat,⟨0,Nat.zero_le _,rfl,by simp⟩,?_⟩;rintro⟨c,xs,_⟩ ⟨i,hi,rfl,bh⟩;dsimp only at bh ⊢;have fO:xs.length=i:=by rw[bh];simp;omega
 refine⟨fun ai=>?_,fun bA=>?_⟩
 ·have ai:i<lw.length:=by omega
  have hn:xs++[Ni (row.toNat.testBit lw[i].toNat)]=(lw.take (i+1)).map fun k=>Ni (row.toNat.testBit k.toNat):=by rw[bh,J9 ai,List.map_append];rfl
  simp only[Int.toNat_natCast,Qi ai,List.length_singleton];refine⟨⟨by omega,by omega,h2,h3,h4⟩,fun _ w6=>⟨fun hc=>?_,fun hc=>?_⟩⟩
  ·exact⟨by omega,by omega,(true,xs++[Ni (row.toNat.testBit lw[i].toNat)],(i:Int)+1),⟨rfl,rfl,rfl,by simp⟩,⟨i+1,by omega,by simp,hn⟩,by dsimp only;omega⟩
  ·refine⟨by simpa using hc,?_⟩;refine⟨fun h=>by simp at h,fun _=>?_⟩;exact⟨by omega,by omega,(c,xs++[Ni (row.toNat.testBit lw[i].toNat)],(i:Int)+1),⟨rfl,rfl,rfl,by simp⟩,⟨i+1,by omega,by simp,hn⟩,by dsimp only;omega⟩
 ·have:i=lw.length:=by omega
  subst this;rw[List.take_length] at bh;refine fun _=>⟨?_,by omega,?_⟩
  ·intro aF h0;rw[h0] at aF;simp at aF
  ·rw[bh];exact Ax lw row
def G6:AL ((Int×List Int)×Int×List Int):=(.cons (.agg (.cons (.k (.i .i64)) (.one (.k (.list (.i .i64)))))) (.one (.agg (.cons (.k (.i .i64)) (.one (.k (.list (.i .i64))))))))
def H_ (d:(Int×List Int)×Int×List Int):Prop:=d.1.2.length≤110∧d.2.2.length≤110
def Ml (d:(Int×List Int)×Int×List Int):SV:=.tup [.lst 0,.val (.i .i64) (Qh d.1.1 d.1.2 d.2.1 d.2.2)]
def M5 (d:(Int×List Int)×Int×List Int):List OB:=[.lst 9 .st (Qa d.1.1 d.1.2 d.2.1 d.2.2) ((Qa d.1.1 d.1.2 d.2.1 d.2.2).isEmpty)]
def Kw:CSp:=V0 G6 H_ Ml M5
def YA (hk:Int) (lw:List Int) (hd:Int) (rows:List Int):Prop :=
 (lw.length≤1000000)∧(((QK hk lw) != (0:Int))=true →
  ((True∧(QK hk lw)=Qh hk lw hd rows∧(([]:List SV)=[]))∧(((Qa hk lw hd rows)=[]∧(Qa hk lw hd rows).isEmpty=true)∧True))) ∧
 (((QK hk lw) != (0:Int))=false →
  (rows.length≤1000000)∧(((Qb hd rows) != (0:Int))=true →
   ((True∧(Qb hd rows)=Qh hk lw hd rows∧(([]:List SV)=[]))∧(((Qa hk lw hd rows)=[]∧(Qa hk lw hd rows).isEmpty=true)∧True))) ∧
  (((Qb hd rows) != (0:Int))=false →
   ((hd != hk)=true →
    ((True∧(4:Int)=Qh hk lw hd rows∧(([]:List SV)=[]))∧(((Qa hk lw hd rows)=[]∧(Qa hk lw hd rows).isEmpty=true)∧True))) ∧
   ((hd != hk)=false →
    ∃ (e4:Unit) (d40:(List (List UInt8))×Int),((True∧True∧rows=rows∧(lI rows)=(lI rows)∧(0:Int)=d40.2∧True)∧((hk=hk∧lw=lw∧(([]:List SV)=[]))∧(d40.1=[]∧(List.isEmpty d40.1)=true)∧True)) ∧
    LoopP (fun (d4:(List (List UInt8))×Int) (q4:((List (List UInt8))×Int)→Prop) =>
     ((decide (d4.2<(lI rows)))=true →
      (0≤d4.2)∧(d4.2<(List.length rows))∧(lw.length≤110∧0≤(gD rows d4.2 0)∧(gD rows d4.2 0)<9223372036854775808∧∀ x∈lw,0≤x∧x≤60)∧(((List.length d4.1)+(List.length [(Zk lw (gD rows d4.2 0))]))*16≤70368744177664)∧(I64 (d4.2+(1:Int)))∧(∃ d5:(List (List UInt8))×Int,((True∧True∧rows=rows∧(lI rows)=(lI rows)∧(d4.2+(1:Int))=d5.2∧True)∧((hk=hk∧lw=lw∧(([]:List SV)=[]))∧((d4.1++[(Zk lw (gD rows d4.2 0))])=d5.1∧false=(List.isEmpty d5.1))∧True))∧q4 d5)) ∧
     ((decide (d4.2<(lI rows)))=false →
      ((True∧(0:Int)=Qh hk lw hd rows∧(([]:List SV)=[]))∧((d4.1=(Qa hk lw hd rows)∧(List.isEmpty d4.1)=(Qa hk lw hd rows).isEmpty)∧True)))) d40)))
def G9:Cx:=⟨[(9,.st)],[(37,Kp),(47,Xc),(48,X6)],43,[],0,[],[],[],[],false,[],[],[],[]⟩
def TD (hk:Int) (lw:List Int) (hd:Int) (rows:List Int):List (Nat×LoopAnn):=[(1,⟨Unit,(List (List UInt8))×Int,[2,4,28,29,30],fun e x=>[.box 2 0,.lst 40,.val (.list (.i .i64)) rows,.val (.i .i64) (((List.length rows):Nat):Int),.val (.i .i64) x.2],fun e x=>[(2,.slot 2,.cells [.val (.i .i64) hk,.val (.list (.i .i64)) lw] (some 24)),(40,.slot 4,.lst 9 .st x.1 (List.isEmpty x.1))]⟩)]
theorem TW (d:(Int×List Int)×Int×List Int):gwp (G9) (TD d.1.1 d.1.2 d.2.1 d.2.2) c22 0 (U0 [.tmp 4,.tmp 5] (Ml d) (M5 d)) (QS 43 (AL.can G6 d))=YA d.1.1 d.1.2 d.2.1 d.2.2:=by kernel_rfl
abbrev Tn:Prop:=OkC Tryz.prog 22 Kw
theorem Tk (h:∀ (hk:Int) (lw:List Int) (hd:Int) (rows:List Int),(lw.length≤110∧rows.length≤110)→YA hk lw hd rows):OkC Tryz.prog 22 Kw :=
 Z8 Q27 mixed (C:=G9) (V:=fun (d:(Int×List Int)×Int×List Int)=>YA d.1.1 d.1.2 d.2.1 d.2.2) ⟨(.cons Gh (.cons YS (.cons Nx .nil))),XsOk.nil,ItsOk.nil,YlOk.nil,IysOk.nil,XfOk.nil⟩ (TW) fun d hp=>h d.1.1 d.1.2 d.2.1 d.2.2 hp
theorem Mk {hd:Int}{rows:List Int}(h:Qb hd rows=0):1≤hd∧hd≤24∧rows.length≤60∧rows.length≠0∧∀ x∈rows,0≤x∧x<2 ^ hd.toNat:=by
 unfold Qb at h;split at h
 ·cases h
 ·rename_i h1;split at h
  ·cases h
  ·rename_i h2;split at h
   ·cases h
   ·rename_i h3;split at h
    ·cases h
    ·rename_i h4;have h1:1≤hd∧hd≤24:=by simpa [inI] using h1
     refine⟨h1.1,h1.2,by omega,h3,fun x hx=>?_⟩;have h5:∀ x∈rows,inI x 0 (2 ^ hd.toNat-1)=true:=by simpa using h4
     have:=h5 x hx;simp only[inI,Bool.and_eq_true,decide_eq_true_eq] at this;omega
theorem Gb:Tn:=Tk fun hk lw hd rows h=>by
 obtain⟨h1,h2⟩:=h;unfold YA;(try delta lI gD sT I64 Q1 pj8 pj4);simp only[true_and,and_true,eq_self_iff_true,exists_eq_left',exists_const,decide_eq_true_eq,decide_eq_false_iff_not,beq_iff_eq,bne_iff_ne,ne_eq,beq_eq_false_iff_ne,bne_eq_false_iff_eq,Bool.not_eq_true',Bool.not_eq_false',Bool.not_eq_true,Bool.not_eq_false,Int.toNat_natCast,Int.ofNat_lt,gt_iff_lt,ge_iff_le,Q9];refine⟨by omega,fun he=>?_,fun he=>⟨by omega,fun hp=>?_,fun hp=>⟨fun hh=>?_,fun hh=>?_⟩⟩⟩
 ·have e:Qh hk lw hd rows=QK hk lw:=by simp[Qh,he]
  have e2:Qa hk lw hd rows=[]:=by simp[Qa,e,he]
  rw[e,e2];exact⟨rfl,rfl,rfl⟩
 ·have e:Qh hk lw hd rows=Qb hd rows:=by simp[Qh,he,hp]
  have e2:Qa hk lw hd rows=[]:=by simp[Qa,e,hp]
  rw[e,e2];exact⟨rfl,rfl,rfl⟩
 ·have e:Qh hk lw hd rows=4:=by simp[Qh,he,hp,hh]
  have e2:Qa hk lw hd rows=[]:=by simp[Qa,e]
  rw[e,e2];exact⟨rfl,rfl,rfl⟩
 have e:Qh hk lw hd rows=0:=by unfold Qh;rw[if_neg (by omega),if_neg (by omega),if_neg (by omega)]
 have e2:Qa hk lw hd rows=rows.map (Zk lw):=by simp[Qa,e]
 obtain⟨t1,t2,t3,t4,t5⟩:=DF he;obtain⟨p1,p2,p3,p4,p5⟩:=Mk hp;have gU:=X8 p1 p2;rw[e,e2];refine⟨([],0),⟨rfl,rfl,rfl⟩,?_⟩;refine LoopP.count2 rows.length (fun k xs=>xs=(rows.take k).map (Zk lw)) (by simp) fun k xs hk hJ q hq=>?_;have fO:xs.length=k:=by rw[hJ];simp;omega
 dsimp only;refine⟨fun ai=>?_,fun bA=>?_⟩
 ·have ai:k<rows.length:=by omega
  have hr:=p5 _ (List.getElem_mem ai);simp only[Int.toNat_natCast,Qi ai,List.length_singleton];refine⟨by omega,by omega,⟨h1,hr.1,by omega,fun x hx=>by have:=t5 x hx;omega⟩,by omega,by omega,(xs++[Zk lw rows[k]],(k:Int)+1),⟨rfl,rfl,by simp⟩,hq _ ai ?_⟩;rw[J9 ai,List.map_append,←hJ];rfl
 ·have:k=rows.length:=by omega
  subst this;rw[List.take_length] at hJ;rw[hJ];exact⟨rfl,rfl,rfl⟩
theorem E2 (a b:Nat):Int.tmod (a:Int) (b:Int)=((a % b:Nat):Int):=rfl
def YI (s:List UInt8):List Bool:=s.map fun b=>b==120
def Zh (p:List Bool) (w:Nat):Bool:=p.getD (w % p.length) false
def bgB (p:List Bool) (w:Nat):Bool:=Zh p w != Zh p (w+p.length-1)
def bB (s:List UInt8) (w:Nat):Bool:=s.getD w 0 != s.getD ((w+s.length-1) % s.length) 0
def J6 (p:List Bool) (w:Nat):Nat:=if bgB p w then ((List.range (p.length+1)).find? fun k=>decide (1≤k)&&(Zh p (w+k) != Zh p w)).getD 0 else if w=0∧∀ j,j<p.length→Zh p j=Zh p 0 then 1000 else 0
def FA (i bd:Int) (p:List Bool) (w:Nat):Option (Int×Int×Int×Bool):=if 0<J6 p w∧bd<J6 p w then some (i,(w:Int),(J6 p w:Int),p.getD w false) else none
def ZU (i bd:Int) (p:List Bool) (n:Nat):List (Int×Int×Int×Bool):=(List.range n).filterMap (FA i bd p)
def JZ (bd:Int) (c:List (List UInt8)) (n:Nat):List (Int×Int×Int×Bool):=((List.range n).map fun (i:Nat)=>ZU (i:Int) bd (YI (c.getD i [])) (c.getD i []).length).flatten
def Sn (bd:Int) (c:List (List UInt8)):List (Int×Int×Int×Bool):=JZ bd c c.length
def Yi (hk:Int) (lw:List Int) (hd:Int) (rows:List Int) (bd:Int):Int:=if Qh hk lw hd rows≠0 then Qh hk lw hd rows else if !inI bd 0 1000 then 3 else 0
def flC (hk:Int) (lw:List Int) (hd:Int) (rows:List Int) (bd:Int):List (Int×Int×Int×Bool):=if Yi hk lw hd rows bd=0 then Sn bd (Qa hk lw hd rows) else []
theorem ZQ (s:List UInt8):(YI s).length=s.length:=by simp[YI]
theorem Fj {p:List Bool}{w:Nat}(h:w<p.length):Zh p w=p.getD w false:=by rw[Zh,Nat.mod_eq_of_lt h]
theorem XM (p:List Bool) (w:Nat):Zh p (w % p.length)=Zh p w:=by simp[Zh]
theorem Lz (p:List Bool) (w k:Nat):Zh p (w % p.length+k)=Zh p (w+k):=by simp[Zh]
theorem Np {p:List Bool}(h:p≠[]) (w:Nat):bgB p (w % p.length)=bgB p w:=by have h0:0<p.length:=List.length_pos_iff.2 h;unfold bgB;rw[XM,Nat.add_sub_assoc h0,Nat.add_sub_assoc h0,Lz]
theorem K7 (i bd:Int) (p:List Bool) (n:Nat):ZU i bd p (n+1)=ZU i bd p n++(FA i bd p n).toList:=by simp only[ZU,List.range_succ,List.filterMap_append];congr 1
theorem Br (bd:Int) (c:List (List UInt8)) (n:Nat):JZ bd c (n+1)=JZ bd c n++ZU n bd (YI (c.getD n [])) (c.getD n []).length:=by simp only[JZ,List.range_succ,List.map_append,List.flatten_append,List.map_cons,List.map_nil,List.flatten_cons,List.flatten_nil,List.append_nil]
theorem Mj (i bd:Int) (p:List Bool) (n:Nat):(ZU i bd p n).length≤n:=by
 have:=List.length_filterMap_le (FA i bd p) (List.range n)
 rwa [List.length_range] at this
theorem HW (bd:Int) (c:List (List UInt8)) (m:Nat) (h:∀ s∈c,s.length≤m):∀ n,n≤c.length→(JZ bd c n).length≤n*m
 |0,_=>by simp[JZ]
 |n+1,hn=>by
  have h1:=HW bd c m h n (by omega);have h2:=Mj n bd (YI (c.getD n [])) (c.getD n []).length;have h3:(c.getD n []).length≤m:=by rw[Qi (by omega)];exact h _ (List.getElem_mem _)
  rw[Br,List.length_append,Nat.add_mul,Nat.one_mul];omega
theorem PQ {p:List Bool}{w k:Nat}(hb:bgB p w=true) (hk:1≤k) (hn:k≤p.length) (hd:Zh p (w+k)≠Zh p w) (he:∀ j,1≤j→j<k→Zh p (w+j)=Zh p w):J6 p w=k:=by
 unfold J6;rw[if_pos hb];have:(List.range (p.length+1)).find? (fun k=>decide (1≤k)&&(Zh p (w+k) != Zh p w))=some k:=by
  refine List.find?_range_eq_some.2 ⟨?_,by simp;omega,fun j hj=>?_⟩
  ·simp[hk,hd]
  ·rcases Nat.eq_zero_or_pos j with h0|h0
   ·simp[h0]
   ·simp[he j h0 hj]
 rw[this];rfl
theorem U5 {p:List Bool}{w:Nat}(hb:bgB p w=false) (h:w≠0∨∃ j,j<p.length∧Zh p j≠Zh p 0):J6 p w=0:=by
 unfold J6;rw[if_neg (by simp[hb]),if_neg];rintro⟨h1,h2⟩;rcases h with h|⟨j,h3,h4⟩
 ·exact h h1
 ·exact h4 (h2 j h3)
theorem DA {p:List Bool}(h:∀ j,j<p.length→Zh p j=Zh p 0) (h0:p≠[]):J6 p 0=1000:=by
 unfold J6;have hl:0<p.length:=List.length_pos_iff.2 h0;have:bgB p 0=false:=by unfold bgB;rw[←XM p (0+p.length-1),h _ (Nat.mod_lt _ hl)];simp
 rw[if_neg (by simp[this]),if_pos ⟨rfl,h⟩]
theorem GS {p:List Bool}(h0:p≠[]) {w k:Nat}(h:∀ j,1≤j→j≤k→bgB p (w+j)=false):∀ j,j≤k→Zh p (w+j)=Zh p w
 |0,_=>rfl
 |j+1,hj=>by have h1:=GS h0 h j (by omega);have h2:=h (j+1) (by omega) hj;have hl:0<p.length:=List.length_pos_iff.2 h0;simp only[bgB,bne_eq_false_iff_eq] at h2;rw[h2,←h1];unfold Zh;congr 1;rw[show w+(j+1)+p.length-1=w+j+p.length by omega,Nat.add_mod_right]
theorem Q4s {s:List UInt8}{w:Nat}(hx:∀ b∈s,b=120∨b=46) (hw:w<s.length):bB s w=bgB (YI s) w:=by
 have hm:(w+s.length-1) % s.length<s.length:=Nat.mod_lt _ (by omega);unfold bB bgB Zh;rw[ZQ,Nat.mod_eq_of_lt hw];have e:∀ {i:Nat},i<s.length→(YI s).getD i false=(s.getD i 0==120):=fun {i} h=>by rw[Qi (by rw[ZQ];exact h),Qi h];simp[YI]
 rw[e hw,e hm,Qi hw,Qi hm];rcases hx _ (List.getElem_mem hw) with h1|h1<;>rcases hx _ (List.getElem_mem hm) with h2|h2<;>rw[h1,h2]<;>decide
theorem B5 {s:List UInt8}{i:Nat}(h:i<s.length):(YI s).getD i false=(s.getD i 0==120):=by rw[Qi (by rw[ZQ];exact h),Qi h];simp[YI]
theorem F9 {lw:List Int}{row:Int}:∀ b∈Zk lw row,b=120∨b=46:=by intro b hb;simp only[Zk,List.mem_map] at hb;obtain⟨k,_,rfl⟩:=hb;split<;>simp
theorem VX {i bd:Int}{p:List Bool}{a:Nat}:∀ {k:Nat},(∀ j,a≤j→j<a+k→J6 p j=0)→ZU i bd p (a+k)=ZU i bd p a
 |0,_=>rfl
 |k+1,h=>by rw[←Nat.add_assoc,K7,VX fun j h1 h2=>h j h1 (by omega)];have:=h (a+k) (by omega) (by omega);simp[FA,this]
theorem Ph {hk:Int}{lw:List Int}{hd:Int}{rows:List Int}(h:Qh hk lw hd rows=0):QK hk lw=0∧Qb hd rows=0∧hd=hk:=by
 unfold Qh at h;split at h
 ·rename_i h1;exact absurd h h1
 rename_i h1;split at h
 ·rename_i h2;exact absurd h h2
 rename_i h2;split at h
 ·cases h
 rename_i h3;exact⟨by simpa using h1,by simpa using h2,by simpa using h3⟩
theorem Q9v (x:UInt8):(((x.toNat:Nat):Int)==120)=(x==120):=by
 rw[Bool.eq_iff_iff,beq_iff_eq,beq_iff_eq];constructor
 ·intro h;have u7:(120:UInt8).toNat=120:=rfl;exact UInt8.toNat_inj.1 (by omega)
 ·intro h;rw[h];rfl
theorem T7 {p:List Bool}{f:Nat}(hf:f<p.length) (hb:bgB p f=true):∃ j,j<p.length∧Zh p j≠Zh p 0:=by
 by_cases h:Zh p f=Zh p 0
 ·refine⟨(f+p.length-1) % p.length,Nat.mod_lt _ (by omega),?_⟩;rw[XM,←h];have:Zh p f≠Zh p (f+p.length-1):=by simpa [bgB] using hb
  exact Ne.symm this
 ·exact⟨f,hf,h⟩
theorem Gx {i bd:Int}{p:List Bool}{k:Nat}(hk:k<p.length) (hb:bgB p k=true) (h:∀ j,j<k→bgB p j=false):ZU i bd p k=[]:=by have h1:=VX (i:=i) (bd:=bd) (p:=p) (a:=0) (k:=k) fun j _ hj=>U5 (h j (by omega)) (.inr (T7 hk hb));rw[Nat.zero_add] at h1;rw[h1];rfl
theorem Ht {i bd:Int}{p:List Bool}(h0:p≠[]) (h:∀ j,j<p.length→bgB p j=false):ZU i bd p p.length=if bd<1000 then [(i,0,1000,p.getD 0 false)] else []:=by
 have hl:0<p.length:=List.length_pos_iff.2 h0;have hs:∀ j,j<p.length→Zh p j=Zh p 0:=fun j hj=>by
  have:=GS (w:=0) (k:=p.length-1) h0 (fun j _ h2=>by rw[Nat.zero_add];exact h j (by omega)) j (by omega)
  rwa [Nat.zero_add] at this
 have h1:=VX (i:=i) (bd:=bd) (p:=p) (a:=1) (k:=p.length-1) fun j h2 hj=>U5 (h j (by omega)) (.inl (by omega));rw[show 1+(p.length-1)=p.length by omega] at h1;rw[h1,show (1:Nat)=0+1 from rfl,K7];have e:ZU i bd p 0=[]:=rfl;rw[e,List.nil_append,FA,DA hs h0];by_cases hb:bd<1000
 ·rw[if_pos hb,if_pos ⟨by omega,by simpa using hb⟩];rfl
 ·rw[if_neg hb,if_neg fun h=>hb (by simpa using h.2)];rfl
theorem A6 {i bd:Int}{p:List Bool}{f L:Nat}(hf:f<p.length) (hb:bgB p f=true) (hL:1≤L) (qT:L≤p.length) (hn:∀ j,1≤j→j<L→bgB p (f+j)=false) (he:bgB p (f+L)=true) :
  ZU i bd p (min (f+L) p.length)=ZU i bd p f++(if bd<(L:Int) then [(i,(f:Int),(L:Int),p.getD f false)] else []):=by
 have h0:p≠[]:=by rintro rfl;simp at hf
 have hs:=GS (w:=f) (k:=L-1) h0 fun j h1 h2=>hn j h1 (by omega);have hd:Zh p (f+L)≠Zh p f:=by
  have h1:Zh p (f+L)≠Zh p (f+L+p.length-1):=by simpa [bgB] using he
  rw[show f+L+p.length-1=f+(L-1)+p.length by omega] at h1;have h2:Zh p (f+(L-1)+p.length)=Zh p (f+(L-1)):=by unfold Zh;rw[Nat.add_mod_right]
  rwa [h2,hs (L-1) (Nat.le_refl _)] at h1
 have hlen:J6 p f=L:=PQ hb hL qT hd fun j _ h2=>hs j (by omega);have h1:=VX (i:=i) (bd:=bd) (p:=p) (a:=f+1) (k:=min (f+L) p.length-(f+1)) fun j h2 hj=>by have:=hn (j-f) (by omega) (by omega);rw[show f+(j-f)=j by omega] at this;exact U5 this (.inl (by omega))
 rw[show f+1+(min (f+L) p.length-(f+1))=min (f+L) p.length by omega] at h1;rw[h1,K7,FA,hlen];by_cases hb:bd<(L:Int)
 ·rw[if_pos hb,if_pos ⟨by omega,hb⟩];rfl
 ·rw[if_neg hb,if_neg fun h=>hb h.2];rfl
theorem JT (lw:List Int) (row:Int):(Zk lw row).length=lw.length:=by simp[Zk]
def Xp:AL (Int×List UInt8):=(.cons (.k (.i .i64)) (.one (.ptr (.one (.k .st)))))
def Km (d:Int×List UInt8):Prop:=0≤d.1∧d.1<d.2.length∧d.2.length≤1000000
def X3 (d:Int×List UInt8):SV:=.val .bo (bB d.2 d.1.toNat)
def Xh (d:Int×List UInt8):List OB:=[]
def Jh:CSp:=V0 Xp Km X3 Xh
def Z7 (w:Int) (s:List UInt8):Prop :=
 (0≤w)∧(w<(List.length s))∧(I64 (w+(lI s)))∧(I64 ((w+(lI s))-(1:Int)))∧((lI s)≠0)∧(0≤(Int.tmod ((w+(lI s))-(1:Int)) (lI s)))∧((Int.tmod ((w+(lI s))-(1:Int)) (lI s))<(List.length s))∧((((UInt8.toNat (gD s w 0):Nat):Int) != ((UInt8.toNat (gD s (Int.tmod ((w+(lI s))-(1:Int)) (lI s)) 0):Nat):Int))=(bB s w.toNat)∧(True))
def Xs:Cx:=⟨[],[],18,[],0,[],[],[],[],false,[],[],[],[]⟩
def KX (w:Int) (s:List UInt8):List (Nat×LoopAnn):=[]
theorem KS (d:Int×List UInt8):gwp (Xs) (KX d.1 d.2) c81 0 (U0 [.tmp 3] (X3 d) (Xh d)) (QS 18 (AL.can Xp d))=Z7 d.1 d.2:=by kernel_rfl
abbrev KY:Prop:=OkC Tryz.prog 81 Jh
theorem KT (h:∀ (w:Int) (s:List UInt8),(0≤w∧w<s.length∧s.length≤1000000)→Z7 w s):OkC Tryz.prog 81 Jh :=
 Z8 Q2i mixed (C:=Xs) (V:=fun (d:Int×List UInt8)=>Z7 d.1 d.2) ⟨.nil,XsOk.nil,ItsOk.nil,YlOk.nil,IysOk.nil,XfOk.nil⟩ (KS) fun d hp=>h d.1 d.2 hp
theorem KZ:KY:=KT fun w s h=>by
 obtain⟨h1,h2,h3⟩:=h;unfold Z7;(try delta lI gD sT I64 Q1 pj8 pj4)
 (try simp only[decide_eq_true_eq,decide_eq_false_iff_not])
 obtain⟨n,rfl⟩:=Int.eq_ofNat_of_zero_le h1;have e:((n:Int)+(s.length:Int))-1=((n+s.length-1:Nat):Int):=by omega
 have hm:(n+s.length-1) % s.length<s.length:=Nat.mod_lt _ (by omega);simp only[e,E2,Int.toNat_natCast,Q9];refine⟨by omega,by omega,by omega,by omega,by omega,by omega,by omega,?_,trivial⟩;unfold bB;generalize s.getD n 0=a;generalize s.getD ((n+s.length-1) % s.length) 0=b;by_cases h:a=b
 ·simp[h]
 ·have:a.toNat≠b.toNat:=fun h2=>h (UInt8.toNat_inj.1 h2);have h2:((a.toNat:Nat):Int)≠((b.toNat:Nat):Int):=by omega
  rw[bne_iff_ne.2 h2,bne_iff_ne.2 h]
end Go.Proofs.Tryz