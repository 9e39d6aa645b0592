/- A framework for walks, contracts of functions, and their proofs: part 5. -/
import Derived.ProofKit
import Derived.OpenShut
import Derived.LaidMore
import Derived.Carry
import Derived.Lib.SmallJoins
import Derived.Deep.Slices
import Derived.Test.YtohogbdobpnkpaaGreatDoorQ4
namespace Go.V
open Go
def H_ (s:St):VResult→Option SV
 |.tmp t=>some (s.env.getD t .any)
 |.cell a agg size=>bif Nat.blt 0 size then AO s.own agg size (s.env.getD a .any) else none
def XC (s:St) (rs:List VResult):Option SV :=
 match rs with
 |[r]=>H_ s r
 |rs=>(rs.mapM (H_ s)).map .tup
def FJ (mp:List (Nat×Option Nat)) (j:Nat) (a:Option Nat):Option (List (Nat×Option Nat)) :=
 if (Qj mp j).isSome then none else match a with
 |some x=>if mp.any fun p=>p.2==some x then none else some (mp++[(j,a)])
 |none=>some (mp++[(j,a)])
mutual
def LI:SV→SV→List (Nat×Option Nat)→Option (List (Nat×Option Nat))
 |.lst j,v,mp=>match v with|.lst a=>FJ mp j (some a)|.nilS=>FJ mp j none|_=>none
 |.map j,v,mp=>match v with|.map a=>FJ mp j (some a)|_=>none
 |.dd j w,v,mp=>match w with
  |.out=>(match v with
   |.dd a w'=>(match w' with|.out=>FJ mp j (some a)|_=>none)
   |.nilS=>FJ mp j none
   |_=>none)
  |_=>none
 |.box j _,v,mp=>match v with|.box a _=>FJ mp j (some a)|_=>none
 |.agg l,v,mp=>match v with|.agg l'=>SJ l l' mp|_=>none
 |.tup l,v,mp=>match v with|.tup l'=>SJ l l' mp|_=>none
 |.any,_,mp=>some mp
 |.val _ _,_,mp=>some mp
 |.nilS,_,mp=>some mp
 |.nilP,_,mp=>some mp
 |.nilM,_,mp=>some mp
 |.nilF,_,mp=>some mp
 |.sub _ _ _ _,_,_|.elp _ _ _ _,_,_|.grd _ _,_,_|.cp _ _,_,_|.fn _ _ _,_,_|.rop _ _ _ _,_,_|.pf _ _ _ _,_,_|.bid _ _,_,_=>none
def SJ:List SV→List SV→List (Nat×Option Nat)→Option (List (Nat×Option Nat))
 |[],_,mp=>some mp
 |s::ss,l,mp=>match l with
  |v::vs=>match LI s v mp with|some mp=>SJ ss vs mp|none=>none
  |[]=>none
end
def AV (s:St) (mp:List (Nat×Option Nat)):Nat→List OB→Prop
 |_,[]=>True
 |j,b::r=>Cf s mp j b∧AV s mp (j+1) r
def VJ (rs:List VResult) (v:SV) (bs:List OB):Exit→St→Prop:=fun e s =>
 let fin:=match XC s rs with
  |some r=>(match LI v r [] with
   |some mp=>NB mp v r∧AV s mp 0 bs
   |none=>False)
  |none=>False
 match e with
 |.normal=>fin
 |.ret=>fin
 |_=>False
section
variable {P:Program}{B F:Heap}{pl:Nat→Value}{tb:Nat→Option Bool}{s:St}{env:Env}{σ:Heap}
theorem Me (hG:Gam P B F pl tb s env σ) {r:VResult}{v:SV}(h:H_ s r=some v):∃ u,ZB env σ r=some u∧SR P B pl tb v u:=by
 cases r with
 |tmp t=>obtain rfl:=osj h;exact⟨_,rfl,hG.env.getD t undef⟩
 |cell a agg size =>
  simp only[H_] at h;cases hb:Nat.blt 0 size with
  |false=>rw[hb] at h;cases h
  |true =>rw[hb] at h;obtain⟨i,o,c,e,wr,t,u,h1,h2,h3,h4⟩:=Md hG.leB hG.obj (by simpa [Nat.blt_eq] using hb) h (hG.env.getD a undef);refine⟨u,?_,h4⟩;simp only[ZB,Q4,Q3,h1,h2,h3];rfl
theorem X3 (hG:Gam P B F pl tb s env σ) {rs:List VResult}{v:SV}(h:XC s rs=some v):∃ u,ZN env σ rs=some u∧SR P B pl tb v u:=by
 have all:∀ (rs:List VResult) (l:List SV),rs.mapM (H_ s)=some l→∃ us,rs.mapM (ZB env σ)=some us∧SRs P B pl tb l us:=by
  intro rs;induction rs with
  |nil=>intro l h;simp at h;subst h;exact⟨[],rfl,rfl⟩
  |cons r rs ih =>
   intro l h;rw[List.mapM_cons] at h;cases h1:H_ s r with
   |none=>simp[h1] at h
   |some a =>
    cases h2:rs.mapM (H_ s) with
    |none=>simp[h1,h2] at h
    |some l' =>simp[h1,h2] at h;subst h;obtain⟨u,h3,h4⟩:=Me hG h1;obtain⟨us,h5,h6⟩:=ih l' h2;exact⟨u::us,by rw[List.mapM_cons];simp[h3,h5],by simp only[SRs];exact⟨u,us,rfl,h4,h6⟩⟩
 have tup:(rs.mapM (H_ s)).map SV.tup=some v→∃ u,(rs.mapM (ZB env σ)).map (fun vs=>Value.tuple vs.toArray)=some u∧SR P B pl tb v u:=fun h=>by simp only[Option.map_eq_some_iff] at h;obtain⟨l,h1,rfl⟩:=h;obtain⟨us,h2,h3⟩:=all rs l h1;exact⟨.tuple us.toArray,by rw[h2];rfl,by simp only[SR];exact⟨us,rfl,h3⟩⟩
 match rs,h,tup with
 |[r],h,_=>exact Me hG h
 |[],h,tup=>exact tup h
 |_::_::_,h,tup=>exact tup h
theorem KA {mp bS:List (Nat×Option Nat)}{j:Nat}{a:Option Nat}(h:FJ mp j a=some bS) (hi:Inj mp):Inj bS:=by
 unfold FJ at h;split at h
 ·cases h
 ·split at h
  ·rename_i x;split at h
   ·cases h
   ·rename_i hc;obtain rfl:=osj h;have cC:∀ d,Qj mp d≠some (some x):=fun d hd=>by
     obtain⟨p,h1,h2,h3⟩:=PF hd;exact hc (List.any_eq_true.2 ⟨p,h1,by rw[h3];simp⟩)
    intro t1 t2 a' h1 h2;rw[Ww] at h1 h2;split at h1
    ·rename_i y1 e1;split at h2
     ·rename_i y2 e2;obtain rfl:=osj h1;obtain rfl:=osj h2;exact hi t1 t2 a' e1 e2
     ·split at h2
      ·obtain rfl:=osj (osj h2);obtain rfl:=osj h1;exact absurd e1 (cC t1)
      ·cases h2
    ·split at h1
     ·obtain rfl:=osj (osj h1);split at h2
      ·rename_i y2 e2;obtain rfl:=osj h2;exact absurd e2 (cC t2)
      ·split at h2
       ·omega
       ·cases h2
     ·cases h1
  ·obtain rfl:=osj h;intro t1 t2 a' h1 h2;rw[Ww] at h1 h2;split at h1
   ·rename_i y1 e1;split at h2
    ·rename_i y2 e2;obtain rfl:=osj h1;obtain rfl:=osj h2;exact hi t1 t2 a' e1 e2
    ·split at h2<;>cases h2
   ·split at h1<;>cases h1
mutual
theorem R6:∀ (v r:SV) (mp bS:List (Nat×Option Nat)),LI v r mp=some bS→Inj mp→Inj bS
 |.lst j,r,mp,bS,h,hi=>by
  simp only[LI] at h;split at h
  ·exact KA h hi
  ·exact KA h hi
  ·cases h
 |.map j,r,mp,bS,h,hi=>by
  simp only[LI] at h;split at h
  ·exact KA h hi
  ·cases h
 |.dd j w,r,mp,bS,h,hi=>by
  simp only[LI] at h;split at h
  ·split at h
   ·split at h
    ·exact KA h hi
    ·cases h
   ·exact KA h hi
   ·cases h
  ·cases h
 |.box j _,r,mp,bS,h,hi=>by
  simp only[LI] at h;split at h
  ·exact KA h hi
  ·cases h
 |.agg l,r,mp,bS,h,hi=>by
  simp only[LI] at h;split at h
  ·exact Mn l _ mp bS h hi
  ·cases h
 |.tup l,r,mp,bS,h,hi=>by
  simp only[LI] at h;split at h
  ·exact Mn l _ mp bS h hi
  ·cases h
 |.any,r,mp,bS,h,hi|.val _ _,r,mp,bS,h,hi|.nilS,r,mp,bS,h,hi|.nilP,r,mp,bS,h,hi|.nilM,r,mp,bS,h,hi|.nilF,r,mp,bS,h,hi=>by simp only[LI] at h;obtain rfl:=osj h;exact hi
 |.sub _ _ _ _,r,mp,bS,h,hi|.elp _ _ _ _,r,mp,bS,h,hi|.grd _ _,r,mp,bS,h,hi|.cp _ _,r,mp,bS,h,hi|.fn _ _ _,r,mp,bS,h,hi|.rop _ _ _ _,r,mp,bS,h,hi|.pf _ _ _ _,r,mp,bS,h,hi|.bid _ _,r,mp,bS,h,hi=>by cases h
theorem Mn:∀ (v r:List SV) (mp bS:List (Nat×Option Nat)),SJ v r mp=some bS→Inj mp→Inj bS
 |[],r,mp,bS,h,hi=>by simp only[SJ] at h;obtain rfl:=osj h;exact hi
 |s::ss,[],mp,bS,h,hi=>by cases h
 |s::ss,r::rs,mp,bS,h,hi=>by
  simp only[SJ] at h;split at h
  ·rename_i qH h1;exact Mn ss rs qH bS h (R6 s r mp qH h1 hi)
  ·cases h
end
theorem HQ {mp:List (Nat×Option Nat)}:∀ (bs:List OB) (n:Nat),AV s mp n bs→∀ j b,bs[j]?=some b→Cf s mp (n+j) b
 |[],n,_,j,b,hj=>by simp at hj
 |b0::r,n,h,j,b,hj=>by
  obtain⟨h1,h2⟩:=h;cases j with
  |zero=>simp at hj;subst hj;exact h1
  |succ j =>
   have:=HQ r (n+1) h2 j b (by simpa using hj)
   rwa [Nat.add_assoc,Nat.add_comm 1 j] at this
mutual
theorem Rb {n:Nat}{π:Nat→Nat}:∀ (v:SV) (u:Value),v.ret 0=true→SR P B pl tb v u→Ren n π u u
 |.val k x,u,h,hs=>by
  simp only[SR] at hs;cases k with
  |i ik=>simp only[KC] at hs;obtain rfl:=(List.cons.inj hs).1;exact .plain _ rfl
  |bo=>simp only[KC] at hs;obtain rfl:=(List.cons.inj hs).1;exact .plain _ rfl
  |st=>simp only[KC] at hs;obtain rfl:=(List.cons.inj hs).1;exact .plain _ rfl
  |list k=>cases h
  |pair a b =>have h1:=KC.length hs;have h2:=a.size_pos;have h3:=b.size_pos;simp only[Kind.size,List.length_singleton] at h1;omega
 |.nilS,u,_,hs|.nilP,u,_,hs|.nilM,u,_,hs|.nilF,u,_,hs=>by simp only[SR] at hs;subst hs;exact .plain _ rfl
 |.lst j,u,h,_|.box j _,u,h,_|.map j,u,h,_=>by simp[SV.ret,Nat.blt_eq] at h
 |.dd j w,u,h,_=>by cases w<;>simp[SV.ret,Nat.blt_eq] at h
 |.agg l,u,h,hs=>by simp only[SR] at hs;obtain⟨cs,rfl,h2⟩:=hs;have:=MI (n:=n) (π:=π) l cs h h2;exact .agg _ _ rfl fun i h3 _=>this _ (by simp)
 |.tup l,u,h,hs=>by simp only[SR] at hs;obtain⟨cs,rfl,h2⟩:=hs;have:=MI (n:=n) (π:=π) l cs h h2;exact .tuple _ _ rfl fun i h3 _=>this _ (by simp)
 |.any,_,h,_|.bid _ _,_,h,_|.grd _ _,_,h,_|.sub _ _ _ _,_,h,_|.elp _ _ _ _,_,h,_|.rop _ _ _ _,_,h,_|.cp _ _,_,h,_|.fn _ _ _,_,h,_|.pf _ _ _ _,_,h,_=>by cases h
theorem MI {n:Nat}{π:Nat→Nat}:∀ (v:List SV) (u:List Value),SVs.ret 0 v=true→SRs P B pl tb v u→∀ x∈u,Ren n π x x
 |[],u,_,hs=>by simp only[SRs] at hs;subst hs;intro x hx;cases hx
 |s::ss,u,h,hs=>by
  simp only[SVs.ret,Bool.and_eq_true] at h;simp only[SRs] at hs;obtain⟨x,y,rfl,h1,h2⟩:=hs;intro z hz;rcases List.mem_cons.1 hz with rfl|hz
  ·exact Rb s z h.1 h1
  ·exact MI ss y h.2 h2 z hz
end
theorem RH (exact:Bool) {σ0:Heap}{sf:St}{k_:Env}{σf:Heap}(hR:GRel P σ0 σ0 σ0 sf k_ σf) {rs:List VResult}{v:SV}{bs:List OB}{e:Exit}(hv:v.ret bs.length=true) (hb:bs.all OB.ret=true) (h:VJ rs v bs e sf) (hx:exact=true→bs.all OB.isL=true∧WH v=true) :
  Q32 σ0 rs (fun u σ'=>if exact then u=WI (Dh σ0 bs) v∧σ'=M7 σ0 bs else Ret P σ0 v bs u σ') e k_ σf:=by
 have main:(match XC sf rs with
  |some r=>(match LI v r [] with
   |some mp=>NB mp v r∧AV sf mp 0 bs
   |none=>False)
  |none=>False)→Qz (ZN k_ σf rs) fun u=>∃ v' σ',DropTo σ0 u σf v' σ'∧(if exact then v'=WI (Dh σ0 bs) v∧σ'=M7 σ0 bs else Ret P σ0 v bs v' σ'):=fun h=>by
  split at h
  ·rename_i r hr;split at h
   ·rename_i mp kV;obtain⟨h1,h2⟩:=h;obtain⟨B,F,pl,tb,⟨hB,hF,_,hd⟩,hG⟩:=hR;obtain⟨u,h3,h4⟩:=X3 hG hr;have iu:=XR v r u h1 h4;have en:=R6 v r [] mp kV (fun t t' a h=>by cases h);have aj:∀ j b,bs[j]?=some b→Cf sf mp j b:=fun j b hj=>by have:=HQ bs 0 h2 j b hj;rwa [Nat.zero_add] at this
    rw[h3];have hle:σ0.Le σf:=hF.trans hG.le;have hA:Agree σ0 σf:=fun i hi=>by
     cases hg:σ0.get i with
     |none=>exact hd.2 i hi hg
     |some b=>exact hle.2 i b hg
    have aO:∀ j b,bs[j]?=some b→OR P hNil (YP pl mp) Z8 σf (YP pl mp j) b∧∀ i,Oid (YP pl mp j) i→σ0.get i=none∧σ0.n≤i:=fun j b hj=>by
     obtain⟨k1,k2⟩:=QC hG (aj j b hj);have c_:=List.all_eq_true.1 hb b (List.mem_of_getElem? hj);have aq:b.live=true:=by cases b<;>first|rfl|cases c_
     refine⟨k1.retd c_ fun _ _=>rfl,fun i hi=>?_⟩;obtain⟨a,e1,e2,e3⟩:=k2 aq i hi;have lR:=hG.fresh a i e2 e3;have hn:σ0.get i=none:=by
      cases hg:σ0.get i with
      |none=>rfl
      |some b=>rw[hF.2 i b hg] at lR;cases lR
     refine⟨hn,Nat.le_of_not_lt fun ai=>?_⟩;have bE:=hd.2 i ai hn;have aj:=hG.obj a;cases ho:Q8 sf.own a with
     |dead=>rw[ho] at e2;cases e2
     |lst ty k xs nl =>
      rw[ho] at aj;rcases aj with⟨_,_,h2⟩|⟨_,i',cap,c,t,h2,_,h3,_⟩
      ·rw[h2] at e3;cases e3
      ·rw[h2] at e3;obtain rfl:=osj e3;rw[h3] at bE;cases bE
     |cells l u=>rw[ho] at aj;obtain⟨i',c,e,t,h2,h3,_⟩:=aj;rw[h2] at e3;obtain rfl:=osj e3;rw[h3] at bE;cases bE
     |map kk vk m=>rw[ho] at aj;obtain⟨i',es,cl,h2,h3,_⟩:=aj;rw[h2] at e3;obtain rfl:=osj e3;rw[h3] at bE;cases bE
     |stk l vals=>rw[ho] at e2;cases e2
     |lpf l q s=>rw[ho] at aj e2;obtain⟨h2,_,h3⟩:=aj;rw[h2] at e3;obtain rfl:=osj e3;have h3:=h3 e2;rw[bE] at h3;cases h3
     |iter kk vk m dn=>rw[ho] at aj;obtain⟨j',i',es,cl,wr,seen,h2,h3,_⟩:=aj;rw[h2] at e3;obtain rfl:=osj e3;rw[h3] at bE;cases bE
     |deep ty q k xs nl hh =>rw[ho] at aj;obtain⟨is,_,d2,d3,_⟩:=DP.open aj;obtain⟨c,e,t,h⟩:=d2.cells i ((d3 i).1 e3);rw[h] at bE;cases bE
    have eT:∀ j j' i,j<bs.length→j'<bs.length→j≠j'→Oid (YP pl mp j) i→Oid (YP pl mp j') i→False:=fun j j' i hj cR aB hi cf=>by
     have bh:=List.getElem?_eq_getElem hj;have bY:=List.getElem?_eq_getElem cR;have r1:=List.all_eq_true.1 hb _ (List.getElem_mem hj);have r2:=List.all_eq_true.1 hb _ (List.getElem_mem cR);have l1:(bs[j]).live=true:=by cases ma:bs[j]<;>first|rfl|(rw[ma] at r1;cases r1)
     have l2:(bs[j']).live=true:=by cases ma:bs[j']<;>first|rfl|(rw[ma] at r2;cases r2)
     obtain⟨a,e1,e2,e3⟩:=(QC hG (aj j _ bh)).2 l1 i hi;obtain⟨a',s7,lM,s8⟩:=(QC hG (aj j' _ bY)).2 l2 i cf;by_cases e:a=a'
     ·subst e;exact aB (en j j' a e1 s7)
     ·exact hG.sep a a' i e e2 lM e3 s8
    cases hex:exact with
    |true =>obtain⟨hl,cg⟩:=hx hex;have nC:=S5 (P:=P) hA hle.1 hv cg hb hl (pl:=YP pl mp) (u:=u) (fun j b hj=>⟨(aO j b hj).1,fun i hi=>((aO j b hj).2 i (Mq hi)).2⟩) (fun j j' i a b c d e=>eT j j' i a b c (Mq d) (Mq e)) (iu.retd (fun j hj=>rfl) _ _ hv);exact⟨_,_,nC,by simp⟩
    |false =>
     simp only[Bool.false_eq_true,if_false];by_cases bT:bs=[]
     ·subst bT;refine⟨u,σ0,.rename (fun i=>i) (Nat.le_refl _) (fun i hi=>⟨rfl,(hA i hi).symm,.inl (hA i hi)⟩) (fun i k1 k2=>by omega) (fun _ _ _ _ _ _ h=>h) (Rb v u hv iu),?_⟩;exact⟨⟨Heap.Le.refl _,Dead.refl _⟩,fun _=>rfl,ZK,(fun j b hj=>by simp at hj),(fun j j' i hj=>by simp at hj),iu.retd (fun j hj=>by simp at hj) _ _ hv⟩
     ·exact⟨u,σf,.refl _ _ _,⟨hle,hd⟩,fun e=>absurd e bT,YP pl mp,aO,eT,iu.retd (fun j hj=>rfl) _ _ hv⟩
   ·exact h.elim
  ·exact h.elim
 cases e with
 |normal=>exact main h
 |ret=>exact main h
 |_=>exact h.elim
def QX (nt:Nat) (args:List SV):St:=⟨args++List.replicate (nt-args.length) .any,[],0⟩
theorem Sn {args:List SV}{vs:List Value}(h:SRs P σ ZK Z8 args vs) (nt:Nat):GRel P σ σ σ (QX nt args) (vs++List.replicate (nt-vs.length) undef) σ:=by
 have s9:∀ n,SRs P σ ZK Z8 (List.replicate n .any) (List.replicate n undef):=by
  intro n;induction n with
  |zero=>simp[SRs]
  |succ n ih=>simp only[List.replicate_succ,SRs];exact⟨_,_,rfl,by simp[SR],ih⟩
 refine⟨σ,σ,ZK,Z8,⟨Heap.Le.refl _,Heap.Le.refl _,(fun i b h1 h2=>by rw[h2] at h1;cases h1),Dead.refl _⟩,Heap.Le.refl _,Heap.Le.refl _,?_,fun d=>trivial,(fun d i hl=>by cases hl),(fun d d' i _ hl=>by cases hl),fun _ _=>rfl⟩;have:=h.length;simp only[QX,this];exact h.append (s9 _)
theorem Fun.okC {f:Nat}{vc:VCode}{rs:List VResult}{nt:Nat}(h:Fun P f vc rs nt) (hm:P.follows .mixedOrders=true) {sp:CSp}
  (hb:∀ ap,AJ P ap→∀ args c v bs,sp ap args=some (c,v,bs)→c→∃ (C:Cx) (L:List (Nat×LoopAnn)) (bm:List SV),(∀ σ vs,SRs P σ ZK Z8 args vs→SRs P σ ZK Z8 bm vs)∧COk P C∧gwp C L vc 0 (VJ rs v bs) (QX nt bm)):OkC P f sp:=by
 intro ap dg σ args vs c v bs au ff hv bT hc;obtain⟨C,L,bm,h1,h2,h3⟩:=hb ap dg args c v bs ff hc;have main:∀ exact:Bool,(exact=true→bs.all OB.isL=true∧WH v=true)→VCalled P f vs σ fun u σ'=>if exact then u=WI (Dh σ bs) v∧σ'=M7 σ bs else Ret P σ v bs u σ':=fun exact hx=>by refine h.calls hm Gt ?_;exact VN h2 vc 0 _ _ _ σ none _ trivial (Sn (h1 σ vs au) nt) h3 fun e s' ae σ' k1 k2=>RH exact k2 hv bT k1 hx
 refine⟨(main false fun e=>by cases e).mono fun u σ' hr=>by simpa using hr,fun hl cg=>(main true fun _=>⟨hl,cg⟩).mono fun u σ' hr=>by simpa using hr⟩
theorem OkC.true {f:Nat}{sp:CSp}(h:OkC P f sp) (he:Jg P f) {σ:Heap}{args:List SV}{vs:List Value}(ha:SRs P σ ZK Z8 args vs) {c:Prop}(hs:sp (fun _ _=>none) args=some (c,.val .bo true,[])) (hc:c) :
  VCallsTo P f vs σ fun v _=>v=.bool true:=by
 have:=(h (fun _ _=>none) (fun _ _ _ _ _ _ _ _ _ h=>by cases h) σ args vs c _ [] ha hs rfl rfl hc).1;intro ρ w ax hH hL;rcases this ρ w ax hH hL with⟨_,h2⟩|⟨c',_,h2⟩
 ·refine h2.mono fun e w' ⟨c',h3,h4⟩=>⟨c',h3,h4.mono fun u σ' hr=>?_⟩;have:=(hr.flat rfl).2;simpa only [SR,KC,List.cons.injEq,and_true] using this
 ·have:=h2 w (Like.refl ρ w);rw[Kj he ax w] at this;cases this
end
end Go.V
namespace Go.V
open Go
mutual
inductive AP:Type→Type 1 where
 |k (k:Kind):AP k.T
 |agg {D:Type}(l:AL D):AP D
 |ptr {D:Type}(l:AL D):AP D
 |fn (ks:List Kind) (r:Kind):AP ((AT ks→Prop)×(AT ks→r.T))
 |nilS:AP Unit
 |any:AP Unit
inductive AL:Type→Type 1 where
 |nil:AL Unit
 |one {D:Type}(a:AP D):AL D
 |cons {D E:Type}(a:AP D) (r:AL E):AL (D×E)
end
def BO:(ks:List Kind)→AT ks→List SV
 |[],_=>[]
 |[k],x=>[At k x]
 |k::k'::ks,x=>At k x.1::BO (k'::ks) x.2
abbrev Ap:=SV→List SV→Option (Prop×SV)
def Ed (ap:Ap) (f:SV) (ks:List Kind) (r:Kind) (x:AT ks):Prop:=match ap f (BO ks x) with
 |some (c,v)=>(match gap.asV r v with|some _=>c|none=>False)
 |none=>False
def fnP (ap:Ap) (f:SV) (ks:List Kind) (r:Kind) (x:AT ks):r.T:=match ap f (BO ks x) with
 |some (_,v)=>(match gap.asV r v with|some y=>y|none=>r.dflt)
 |none=>r.dflt
mutual
def AP.dec (ap:Ap):{D:Type}→(p:AP D)→SV→Option D
 |_,.k k,v=>match k with
  |.list k=>view [] k v
  |.i ik=>D8 (.i ik) [v]
  |.bo=>D8 .bo [v]
  |.st=>D8 .st [v]
  |.pair _ _=>none
 |_,.agg l,v=>match v with|.agg vs=>AL.dec ap l vs|_=>none
 |_,.nilS,v=>match v with|.nilS=>some ()|_=>none
 |_,.any,_=>some ()
 |_,.ptr l,v=>match v with|.cp vs 0=>AL.dec ap l vs|_=>none
 |_,.fn ks r,v=>match v with
  |.fn g a b=>some (Ed ap (.fn g a b) ks r,fnP ap (.fn g a b) ks r)
  |.pf qI r' cE p=>some (Ed ap (.pf qI r' cE p) ks r,fnP ap (.pf qI r' cE p) ks r)
  |_=>none
def AL.dec (ap:Ap):{D:Type}→(l:AL D)→List SV→Option D
 |_,.nil,vs=>match vs with|[]=>some ()|_=>none
 |_,.one a,vs=>match vs with|[v]=>AP.dec ap a v|_=>none
 |_,.cons a r,vs=>match vs with
  |v::vs=>(match AP.dec ap a v,AL.dec ap r vs with|some x,some y=>some (x,y)|_,_=>none)
  |[]=>none
end
mutual
def AP.can:{D:Type}→(p:AP D)→D→SV
 |_,.k k,x=>.val k x
 |_,.agg l,x=>.agg (AL.can l x)
 |_,.nilS,_=>.nilS
 |_,.any,_=>.any
 |_,.ptr l,x=>.cp (AL.can l x) 0
 |_,.fn ks r,x=>.pf ks r x.1 x.2
def AL.can:{D:Type}→(l:AL D)→D→List SV
 |_,.nil,_=>[]
 |_,.one a,x=>[AP.can a x]
 |_,.cons a r,x=>AP.can a x.1::AL.can r x.2
end
def YC {D:Type}(l:AL D) (pre:D→Prop) (res:D→SV) (obs:D→List OB):CSp:=fun ap args=>match AL.dec ap l args with
 |some d=>some (pre d,res d,obs d)
 |none=>none
section
variable {P:Program}{σ:Heap}
theorem Vz:∀ {ks:List Kind}{x:AT ks}{vs:List Value},Dq σ ks x vs→SRs P σ ZK Z8 (BO ks x) vs
 |[],x,vs,h=>by simp only[Dq] at h;subst h;simp[BO,SRs]
 |[k],x,vs,h=>by obtain⟨v,rfl,h1⟩:=h;simp only[BO,SRs];exact⟨v,[],rfl,JQ h1,rfl⟩
 |k::k'::ks,x,vs,h=>by obtain⟨v,cB,rfl,h1,h2⟩:=h;simp only[BO,SRs];exact⟨v,cB,rfl,JQ h1,Vz h2⟩
theorem TO {ap:Ap}(dg:AJ P ap) {f:SV}{v:Value}(hf:SR P σ ZK Z8 f v) (hv:∃ g a b,v=.func (.func g) a b) (ks:List Kind) (r:Kind):SR P σ ZK Z8 (.pf ks r (Ed ap f ks r) (fnP ap f ks r)) v:=by
 obtain⟨g,a,b,rfl⟩:=hv;simp only[SR];refine⟨g,a,b,rfl,fun x hd τ vs hle b_=>?_⟩;unfold Ed at hd;split at hd
 ·rename_i c u nD;split at hd
  ·rename_i y hy;obtain⟨h1,g',a',b',h2,h3⟩:=dg τ f (BO ks x) c u (.func (.func g) a b) vs (SR.mono hle (fun _ _ h=>h) _ _ hf) (Vz b_) nD hd;obtain⟨rfl,rfl,rfl⟩:=(by simpa using h2:g=g'∧a=a'∧b=b');have hp:fnP ap f ks r x=y:=by simp[fnP,nD,hy]
   rw[hp];exact h3.mono fun u' σ' hu=>⟨hu.1,(Ge hy hu.2).vcall (Rx _)⟩
  ·exact hd.elim
 ·exact hd.elim
mutual
theorem AP.dec_sound {ap:Ap}(dg:AJ P ap):∀ {D:Type}(p:AP D) {v:SV}{x:D}{u:Value},AP.dec ap p v=some x→SR P σ ZK Z8 v u→SR P σ ZK Z8 (AP.can p x) u
 |_,.k k,v,x,u,h,hs=>by
  have one:SRs P σ ZK Z8 [v] [u]:=by simp only[SRs];exact⟨u,[],rfl,hs,rfl⟩
  simp only[AP.can,SR];cases k with
  |list k =>have:=JS (own:=[]) (Heap.Le.refl σ) (fun d=>(trivial:OR P σ ZK Z8 σ (ZK d) .dead)) (show view [] k v=some x from h) hs;exact⟨u,rfl,this⟩
  |i ik=>exact Qx (k:=.i ik) h one
  |bo=>exact Qx (k:=.bo) h one
  |st=>exact Qx (k:=.st) h one
  |pair a b=>cases h
 |_,.agg l,v,x,u,h,hs=>by
  simp only[AP.dec] at h;split at h
  ·simp only[SR] at hs;obtain⟨cs,rfl,hs⟩:=hs;simp only[AP.can,SR];exact⟨cs,rfl,AL.dec_sound dg l h hs⟩
  ·cases h
 |_,.any,v,x,u,h,hs=>by simp only[AP.can,SR]
 |_,.nilS,v,x,u,h,hs=>by
  simp only[AP.dec] at h;split at h
  ·simp only[AP.can];exact hs
  ·cases h
 |_,.ptr l,v,x,u,h,hs=>by
  simp only[AP.dec] at h;split at h
  ·simp only[SR] at hs;obtain⟨b,c,e,wr,t,h1,rfl,h3⟩:=hs;simp only[AP.can,SR];exact⟨b,c,e,wr,t,h1,rfl,AL.dec_sound dg l h h3⟩
  ·cases h
 |_,.fn ks r,v,x,u,h,hs=>by
  simp only[AP.dec] at h;split at h
  ·obtain rfl:=osj h;exact TO dg hs (by simp only[SR] at hs;obtain⟨x,y,rfl,_⟩:=hs;exact⟨_,_,_,rfl⟩) ks r
  ·obtain rfl:=osj h;exact TO dg hs (by simp only[SR] at hs;obtain⟨g,x,y,rfl,_⟩:=hs;exact⟨_,_,_,rfl⟩) ks r
  ·cases h
theorem AL.dec_sound {ap:Ap}(dg:AJ P ap):∀ {D:Type}(l:AL D) {vs:List SV}{x:D}{us:List Value},AL.dec ap l vs=some x→SRs P σ ZK Z8 vs us→SRs P σ ZK Z8 (AL.can l x) us
 |_,.nil,vs,x,us,h,hs=>by
  simp only[AL.dec] at h;split at h
  ·exact hs
  ·cases h
 |_,.one a,vs,x,us,h,hs=>by
  simp only[AL.dec] at h;split at h
  ·obtain⟨u,rfl,h1⟩:=hs.one;simp only[AL.can,SRs];exact⟨u,[],rfl,AP.dec_sound dg a h h1,rfl⟩
  ·cases h
 |_,.cons a r,vs,x,us,h,hs=>by
  simp only[AL.dec] at h;split at h
  ·rename_i v cB;split at h
   ·rename_i y z h1 h2;obtain rfl:=osj h;simp only[SRs] at hs;obtain⟨u,jE,rfl,h3,h4⟩:=hs;simp only[AL.can,SRs];exact⟨u,jE,rfl,AP.dec_sound dg a h1 h3,AL.dec_sound dg r h2 h4⟩
   ·cases h
  ·cases h
end
theorem CsOk.nil:CsOk P []:=fun f sp h=>by cases h
theorem CsOk.cons {f:Nat}{sp:CSp}{cs:List (Nat×CSp)}(h:OkC P f sp) (t:CsOk P cs):CsOk P ((f,sp)::cs):=fun g s_ hg=>by
 simp only[Qj] at hg;cases hb:Nat.beq f g with
 |true=>rw[hb] at hg;obtain rfl:=Nat.eq_of_beq_eq_true hb;obtain rfl:=osj hg;exact h
 |false=>rw[hb] at hg;exact t g s_ hg
theorem Q1k {f:Nat}{vc:VCode}{rs:List VResult}{nt:Nat}(h:Fun P f vc rs nt) (hm:P.follows .mixedOrders=true) {D:Type}{l:AL D}{pre:D→Prop}{res:D→SV}{obs:D→List OB}
  {C:Cx}(av:COk P C) (L:D→List (Nat×LoopAnn)) (hb:∀ d,pre d→gwp C (L d) vc 0 (VJ rs (res d) (obs d)) (QX nt (AL.can l d))):OkC P f (YC l pre res obs):=by
 refine h.okC hm fun ap dg args c v bs hs hc=>?_;unfold YC at hs;split at hs
 ·rename_i d hd;obtain⟨rfl,rfl,rfl⟩:=(by simpa using hs:pre d=c∧res d=v∧obs d=bs);exact⟨C,L d,AL.can l d,fun σ vs hv=>AL.dec_sound dg l hd hv,av,hb d hc⟩
 ·cases hs
theorem Zx {f:Nat}{vc:VCode}{rs:List VResult}{nt:Nat}(h:Fun P f vc rs nt) (hm:P.follows .mixedOrders=true) {D:Type}{l:AL D}{pre:D→Prop}{res:D→SV}{obs:D→List OB}
  {C:Cx}(av:COk P C) {L:D→List (Nat×LoopAnn)}{V:D→Prop}(hq:∀ d,gwp C (L d) vc 0 (VJ rs (res d) (obs d)) (QX nt (AL.can l d))=V d) (hb:∀ d,pre d→V d):OkC P f (YC l pre res obs) :=
 Q1k h hm av L fun d hp=>(hq d).mpr (hb d hp)
end
end Go.V
namespace Go.V
open Go
def Q3q (key:Nat) (vals:List Value) (rs:List VResult) (K:SV→St→Prop):Exit→St→Prop:=fun e s =>
 let fin:=match XC s rs,Q8 s.own key with
  |some r,.stk l vs=>vs=vals∧K r ⟨l,s.own,s.nx⟩
  |_,_=>False
 match e with
 |.normal=>fin
 |.ret=>fin
 |_=>False
def Q5v (C:Cx) (L:List Value→List (Nat×LoopAnn)) (vc:VCode) (rs:List VResult) (nt:Nat):XSp:=fun d args s K =>
 ∀ vals,gwp {C with off:=100000*(d+1)} (L vals) vc 0 (Q3q (100000*(d+1)-1) vals rs K) ⟨SVs.kill (100000*(d+1)-1) args++List.replicate (nt-args.length) .any,(T0 (100000*(d+1)-1) vals s).own,s.nx⟩
section
variable {P:Program}
theorem Bw {B:Heap}{pl:Nat→Value}{tb:Nat→Option Bool}:∀ n,SRs P B pl tb (List.replicate n .any) (List.replicate n undef)
 |0=>by simp[SRs]
 |n+1=>by simp only[List.replicate_succ,SRs];exact⟨_,_,rfl,by simp[SR],Bw n⟩
theorem O3 {f:Nat}{vc:VCode}{rs:List VResult}{nt:Nat}(h:Fun P f vc rs nt) (hm:P.follows .mixedOrders=true) {C:Cx}(av:COk P C) (L:List Value→List (Nat×LoopAnn)):XOk P f (Q5v C L vc rs nt):=by
 intro B F pl tb s env σ d args vs K R hG ha hx hK;have hx:=hx env;refine h.calls hm Gt ?_;have q3:Gam P B F (ZS pl (100000*(d+1)-1) poison) tb (T0 (100000*(d+1)-1) env s) env σ:=by refine hG.make _ _ poison hG.le (fun _ _ _ _ _=>rfl) ?_ (fun i hl _=>by cases hl);exact SRs.upd (.refl _) (fun _ _ h=>h) (fun j hj=>by simp[ZS,hj]) _ _ hG.env
 have lb:COk P {C with off:=100000*(d+1)}:=⟨av.cs,av.xs,av.it,av.yl,av.iy,av.xf⟩;have au:=SRs.upd (P:=P) (Heap.Le.refl B) (fun _ _ h=>h) (pl':=ZS pl (100000*(d+1)-1) poison) (tb':=tb) (o:=100000*(d+1)-1) (fun j hj=>by simp[ZS,hj]) _ _ ha;have bC:GRel P B F σ ⟨SVs.kill (100000*(d+1)-1) args++List.replicate (nt-args.length) .any,(T0 (100000*(d+1)-1) env s).own,s.nx⟩ (vs++List.replicate (nt-vs.length) undef) σ:=by refine⟨B,F,_,tb,.of hG.bf (.refl _),⟨q3.bf,q3.le,?_,q3.obj,q3.fresh,q3.sep,q3.free⟩⟩;rw[ha.length];exact au.append (Bw _)
 refine VN lb vc 0 _ _ _ σ none _ trivial bC hx fun e s' ae σ' h1 h2=>?_
 ·have main:(match XC s' rs,Q8 s'.own (100000*(d+1)-1) with
   |some r,.stk l vs=>vs=env∧K r ⟨l,s'.own,s'.nx⟩
   |_,_=>False)→Qz (ZN ae σ' rs) fun v=>∃ v' aD,DropTo σ v σ' v' aD∧R v' aD:=fun h=>by
   obtain⟨B',F',pl',tb',k1,k2⟩:=h2;split at h
   ·rename_i r l cB hr fB;obtain⟨rfl,h⟩:=h;obtain⟨u,h3,h4⟩:=X3 k2 hr;rw[h3];have aj:=k2.obj (100000*(d+1)-1);rw[fB] at aj;exact⟨u,σ',.refl _ _ _,hK r _ B' F' pl' tb' u σ' h k1 ⟨k2.bf,k2.le,aj,k2.obj,k2.fresh,k2.sep,k2.free⟩ h4⟩
   ·exact h.elim
  cases e with
  |normal=>exact main h1
  |ret=>exact main h1
  |_=>exact h1.elim
end
end Go.V
namespace Go.V
open Go
abbrev LSp:=Ap→OB→List SV→Option (Prop×SV×OB)
def AZ (vals:List Value) (rs:List VResult) (v:SV) (b:OB) (a0:SV):Exit→St→Prop:=fun e s =>
 let fin:=match XC s rs,Q8 s.own 4000000 with
  |some r,.stk l vs=>vs=vals∧YO [(0,some 0)] [a0] l∧NB [] v r∧Cf s [(0,some 0)] 0 b
  |_,_=>False
 match e with
 |.normal=>fin
 |.ret=>fin
 |_=>False
section
variable {P:Program}
theorem Heap.Le.kill' {B σ:Heap}(h:B.Le σ) {i:Nat}(hi:B.get i=none):B.Le (σ.kill i):=⟨h.1,fun j b hb=>by
 have:j≠i:=by rintro rfl;rw[hi] at hb;cases hb
 rw[Heap.get_kill_ne _ this];exact h.2 _ _ hb⟩
theorem Heap.kill_le (σ:Heap) (i:Nat):(σ.kill i).Le σ:=⟨Nat.le_refl _,fun j b hb=>by
 by_cases e:j=i
 ·subst e;rw[Heap.get_kill_self] at hb;cases hb
 ·rwa [Heap.get_kill_ne _ e] at hb⟩
def BQ (σ:Heap) (p:Value):Heap:=match oid p with|some i=>σ.kill i|none=>σ
theorem Ar (σ:Heap) (p:Value):(BQ σ p).Le σ:=by
 unfold BQ;split
 ·exact Heap.kill_le _ _
 ·exact .refl _
theorem TZ {B σ:Heap}{p:Value}(h:B.Le σ) (hi:∀ i,oid p=some i→B.get i=none):B.Le (BQ σ p):=by
 unfold BQ;split
 ·rename_i i e;exact h.kill' (hi i e)
 ·exact h
theorem SO {σ:Heap}{p:Value}{i:Nat}(h:oid p=some i):(BQ σ p).get i=none:=by unfold BQ;rw[h];exact Heap.get_kill_self _ _
theorem Cw {σ:Heap}{p:Value}{i:Nat}(h:oid p≠some i):(BQ σ p).get i=σ.get i:=by
 unfold BQ;split
 ·rename_i j e;exact Heap.get_kill_ne _ (by rintro rfl;exact h e)
 ·rfl
theorem Ic {p:Value}{i:Nat}(hp:∀ l,p≠.tuple l) (h:Oid p i):oid p=some i:=by cases p<;>first|exact h|exact absurd rfl (hp _)
mutual
theorem AP.can_pure:∀ {D:Type}(p:AP D) (x:D),(AP.can p x).pure=true
 |_,.k k,x=>rfl
 |_,.agg l,x=>by simp only[AP.can,SV.pure];exact AL.can_pure l x
 |_,.nilS,x=>rfl
 |_,.any,x=>rfl
 |_,.ptr l,x=>by simp only[AP.can,SV.pure];exact AL.can_pure l x
 |_,.fn ks r,x=>rfl
theorem AL.can_pure:∀ {D:Type}(l:AL D) (x:D),SVs.pure (AL.can l x)=true
 |_,.nil,x=>rfl
 |_,.one a,x=>by simp only[AL.can,SVs.pure,AP.can_pure a x];rfl
 |_,.cons a r,x=>by simp only[AL.can,SVs.pure,AP.can_pure a x.1,AL.can_pure r x.2];rfl
end
def BH (ty:Nat) (k:Kind) {D:Type}(l:AL D) (pre:List k.T→Bool→D→Prop) (res:List k.T→Bool→D→SV) (post:List k.T→Bool→D→List k.T):LSp:=fun ap b args=>match b with
 |.lst gg _k' xs nl=>if gg=ty then (match K2 xs k,AL.dec ap l args with
  |some xs,some d=>some (pre xs nl d,res xs nl d,.lst ty k (post xs nl d) nl)
  |_,_=>none) else none
 |_=>none
end
end Go.V
namespace Go.V
open Go
abbrev lI {α:Type}(l:List α):Int:=(l.length:Int)
abbrev gD {α:Type}(l:List α) (i:Int) (d:α):α:=l.getD i.toNat d
abbrev sT {α:Type}(l:List α) (i:Int) (x:α):List α:=l.set i.toNat x
abbrev I64 (x:Int):Prop:=InK .i64 x
theorem QR (x:Int):InK .i64 x↔-9223372036854775808≤x∧x≤9223372036854775807:=by simp[InK,IntKind.min,IntKind.max,IntKind.bits,IntKind.signed]
theorem UG (x:Int):InK .u64 x↔0≤x∧x≤18446744073709551615:=by simp[InK,IntKind.min,IntKind.max,IntKind.bits,IntKind.signed]
theorem LoopP.count {F:Int→(Int→Prop)→Prop}(n:Nat) (J:Nat→Prop) (h0:J 0) (hr:∀ k:Nat,k≤n→J k→∀ q:Int→Prop,(k<n→J (k+1)→q ((k:Int)+1))→F k q):LoopP F 0:=by refine⟨fun d=>∃ k:Nat,d=k∧k≤n∧J k,fun d=>n-d.toNat,⟨0,rfl,Nat.zero_le _,h0⟩,fun d ⟨k,hd,hk,hJ⟩=>?_⟩;subst hd;refine hr k hk hJ _ fun ai pP=>⟨⟨k+1,by simp,ai,pP⟩,?_⟩;simp;omega
theorem LoopP.count2 {X:Type}{F:X×Int→(X×Int→Prop)→Prop}(n:Nat) (J:Nat→X→Prop) {x0:X}(h0:J 0 x0) (hr:∀ (k:Nat) (x:X),k≤n→J k x→∀ q:X×Int→Prop,(∀ x',k<n→J (k+1) x'→q (x',(k:Int)+1))→F (x,(k:Int)) q):LoopP F (x0,0):=by refine⟨fun d=>∃ k:Nat,d.2=k∧k≤n∧J k d.1,fun d=>n-d.2.toNat,⟨0,rfl,Nat.zero_le _,h0⟩,fun ⟨x,d⟩ ⟨k,hd,hk,hJ⟩=>?_⟩;simp only at hd hJ;subst hd;refine hr k x hk hJ _ fun x' ai pP=>⟨⟨k+1,by simp,ai,pP⟩,?_⟩;simp;omega
theorem Ql {α:Type}{l:List α}{k:Nat}{d:α}(h:k<l.length):l.getD k d=l[k]:=by simp[List.getD_eq_getElem?_getD,List.getElem?_eq_getElem h]
theorem Xf {α:Type}{l:List α}{k:Nat}(h:k<l.length):l.take (k+1)=l.take k++[l[k]]:=by rw[List.take_succ_eq_append_getElem h]
end Go.V
namespace Go.V
open Go
section
variable {P:Program}
theorem st1 {S:VSpecs}{d:Nat}{op:VOp}{rest:List VOper}{env:Env}{σ:Heap}{K:Env→Heap→Prop}{v:Value}(hv:∀ K',vop S op env σ K'=Qz (Q4 op (Q3 env) σ) fun p=>K' p.1 p.2) (h:Q4 op (Q3 env) σ=some (v,σ)) (hr:Mg S rest (env.set d v) σ K):Mg S (⟨some d,op,none⟩::rest) env σ K:=by show Qz (some true) _;refine⟨fun _=>?_,fun e=>by cases e⟩;rw[hv,h];exact hr
theorem YlOk.nil:∀ o y,Qj ([]:List (Nat×YSp)) o=some y→AY P o y:=fun o y h=>by cases h
theorem IysOk.nil:∀ f x,Qj ([]:List (Nat×Q3u)) f=some x→Q62 P f x:=fun f x h=>by cases h
theorem XsOk.nil:∀ f x,Qj ([]:List (Nat×XSp)) f=some x→XOk P f x:=fun f x h=>by cases h
theorem XsOk.cons {f:Nat}{x:XSp}{l:List (Nat×XSp)}(h:XOk P f x) (t:∀ g y,Qj l g=some y→XOk P g y):∀ g y,Qj ((f,x)::l) g=some y→XOk P g y:=fun g y hg=>by
 simp only[Qj] at hg;cases hb:Nat.beq f g with
 |true=>rw[hb] at hg;obtain rfl:=Nat.eq_of_beq_eq_true hb;obtain rfl:=osj hg;exact h
 |false=>rw[hb] at hg;exact t g y hg
theorem ItsOk.nil:∀ f x,Qj ([]:List (Nat×ISp)) f=some x→Q60 P f x:=fun f x h=>by cases h
def Pb:Ap:=fun _ _=>none
theorem PI:AJ P Pb:=fun _ _ _ _ _ _ _ _ _ h=>by cases h
end
end Go.V
namespace Go.V
open Go
def NG {α:Type}:Nat→α→List α→List α
 |0,x,l=>x::l
 |j+1,x,a::l=>a::NG j x l
 |_+1,x,[]=>[x]
def Ym {α:Type}:Nat→List α→List α
 |0,_::l=>l
 |j+1,a::l=>a::Ym j l
 |_,[]=>[]
def CQ (kk vk:Kind):OB→Option (List (kk.T×vk.T))
 |.map gR kK m=>if h:gR=kk∧kK=vk then some (h.1▸h.2▸m) else none
 |_=>none
abbrev MSp (kk vk:Kind):=Ap→List (kk.T×vk.T)→List SV→List SV→Option (Prop×SV×(List (kk.T×vk.T)→Prop))
def UF (ap:Ap) (j:Nat) (kk vk:Kind) (sp:MSp kk vk):XSp:=fun _ args s K =>
 match args with
 |a::args=>(match SX s.own a with
  |some l=>(match l[j]? with
   |some (.map o)=>(match CQ kk vk (Q8 s.own o) with
    |some m=>(match sp ap m (M5 (oset s.own o .dead) (Ym j l)) (M5 (oset s.own o .dead) args) with
     |some (c,v,post)=>bif v.ret 0 then c∧∀ m',post m'→K v ⟨s.env,oset s.own o (.map kk vk m'),s.nx⟩ else False
     |none=>False)
    |none=>False)
   |_=>False)
  |none=>False)
 |[]=>False
def mstart (nt j:Nat) (kk vk:Kind) (m:List (kk.T×vk.T)) (vals:List Value) (cs args:List SV):St:=⟨.cp (NG j (.map 0) cs) 0::(args++List.replicate (nt-(args.length+1)) .any),[(0,.map kk vk m),(4000000,.stk [.map 0] vals)],0⟩
def Aq (vals:List Value) (rs:List VResult) (v:SV) (kk vk:Kind) (post:List (kk.T×vk.T)→Prop):Exit→St→Prop:=fun e s =>
 let fin:=match XC s rs,Q8 s.own 4000000,CQ kk vk (Q8 s.own 0) with
  |some r,.stk l vs,some m'=>vs=vals∧YO [(0,some 0)] [.map 0] l∧NB [] v r∧post m'
  |_,_,_=>False
 match e with
 |.normal=>fin
 |.ret=>fin
 |_=>False
section
variable {P:Program}
theorem DS {kk vk:Kind}{b:OB}{m:List (kk.T×vk.T)}(h:CQ kk vk b=some m):b=.map kk vk m:=by
 unfold CQ at h;split at h
 ·split at h
  ·rename_i e;obtain⟨rfl,rfl⟩:=e;obtain rfl:=osj h;rfl
  ·cases h
 ·cases h
theorem A8:∀ (j:Nat) {l:List SV}{c:List Value}{o:Nat}{B:Heap}{pl:Nat→Value}{tb:Nat→Option Bool},l[j]?=some (.map o)→SRs P B pl tb l c →
  ∃ w,SR P B pl tb (.map o) w∧SRs P B pl tb (Ym j l) (Ym j c)∧∀ (B':Heap) (pl':Nat→Value) (tb':Nat→Option Bool) (l':List SV) (x:SV),SRs P B' pl' tb' l' (Ym j c)→SR P B' pl' tb' x w→SRs P B' pl' tb' (NG j x l') c
 |j,[],c,o,B,pl,tb,h,_=>by simp at h
 |0,a::l,c,o,B,pl,tb,h,hs=>by
  obtain rfl:a=.map o:=by simpa using h
  simp only[SRs] at hs;obtain⟨w,us,rfl,h1,h2⟩:=hs;exact⟨w,h1,h2,fun B' pl' tb' l' x h3 h4=>by simp only[NG,SRs];exact⟨w,us,rfl,h4,h3⟩⟩
 |j+1,a::l,c,o,B,pl,tb,h,hs=>by
  simp only[SRs] at hs;obtain⟨u,us,rfl,h1,h2⟩:=hs;obtain⟨w,g1,g2,g3⟩:=A8 j (by simpa using h) h2;refine⟨w,g1,?_,fun B' pl' tb' l' x h3 h4=>?_⟩
  ·simp only[Ym,SRs];exact⟨u,_,rfl,h1,g2⟩
  ·simp only[Ym] at h3
   match l',h3 with
   |[],h3=>simp only[SRs] at h3;cases h3
   |y::l',h3 =>simp only[SRs] at h3;obtain⟨u',jE,e,h5,h6⟩:=h3;obtain⟨rfl,rfl⟩:=List.cons.inj e;simp only[NG,SRs];exact⟨u,us,rfl,h5,g3 B' pl' tb' l' x h6 h4⟩
theorem PM {f:Nat}{vc:VCode}{rs:List VResult}{nt:Nat}(h:Fun P f vc rs nt) (hm:P.follows .mixedOrders=true) {kk vk:Kind}(bV:(kk.flat&&vk.flat)=true) {sp:MSp kk vk}{ap:Ap}{j:Nat}
  (hb:∀ m cs eF c v post,sp ap m cs eF=some (c,v,post)→c→∃ (C:Cx) (L:List Value→List (Nat×LoopAnn)) (cs' iv:List SV),SVs.pure cs'=true∧SVs.pure iv=true∧(∀ σ vs,SRs P σ ZK Z8 cs vs→SRs P σ ZK Z8 cs' vs)∧(∀ σ vs,SRs P σ ZK Z8 eF vs→SRs P σ ZK Z8 iv vs)∧COk P C∧∀ vals,gwp C (L vals) vc 0 (Aq vals rs v kk vk post) (mstart nt j kk vk m vals cs' iv)):Ac P f (UF ap j kk vk sp) j:=by
 intro B F pl tb s env σ d args vs K R tt hG ha pz hx hK;unfold UF at hx;split at hx
 ·rename_i a args;split at hx
  ·rename_i l hl;split at hx
   ·rename_i o eD;split at hx
    ·rename_i m aR;have aF:=DS aR;split at hx
     ·rename_i c v post ff;cases cA:v.ret 0 with
      |false=>rw[cA] at hx;exact hx.elim
      |true =>
      rw[cA] at hx;obtain⟨hc,hx⟩:=hx;simp only[SRs] at ha;obtain⟨u,us,rfl,ld,dL⟩:=ha;have ta:o=tt:=by simpa [HP,hl,eD] using pz
      have aq:(Q8 s.own o).live=true:=by rw[aF];rfl
      have aj:=hG.obj o;rw[aF] at aj;obtain⟨id,es,clock,gh,aZ,fZ⟩:=aj;have nE:F.get id=none:=hG.fresh o id aq (by rw[gh];rfl);have lh:B.get id=none:=by
       cases hg:B.get id with
       |none=>rfl
       |some b=>have:=hG.bf.2 _ _ hg;rw[nE] at this;cases this
      obtain⟨i,ce,e,wr,t,tc,fx,av⟩:∃ i ce e wr t,u=.pointer (some ⟨i,0,none⟩)∧σ.get i=some (.cells ce e wr t)∧SRs P B pl tb l ce:=by
       unfold SX at hl;split at hl
       ·rename_i o' off;cases a9:Nat.beq off 0 with
        |false=>rw[a9] at hl;cases hl
        |true =>
         rw[a9] at hl;obtain rfl:=Nat.eq_of_beq_eq_true a9;simp only[_root_.cond_true] at hl;split at hl
         ·rename_i l' un aY;obtain rfl:=osj hl;have dF:=hG.obj o';rw[aY] at dF;obtain⟨i,ce,e,t,k1,k2,k3,_⟩:=dF;simp only[SR] at ld;obtain⟨b,q1,q2⟩:=ld;rw[k1] at q1;obtain rfl:i=b:=by simpa using q1
          exact⟨i,ce,e,true,t,q2,k2,k3⟩
         ·cases hl
       ·rename_i l' off;cases a9:Nat.beq off 0 with
        |false=>rw[a9] at hl;cases hl
        |true =>rw[a9] at hl;obtain rfl:=Nat.eq_of_beq_eq_true a9;obtain rfl:=osj hl;simp only[SR] at ld;obtain⟨b,ce,e,wr,t,k1,k2,k3⟩:=ld;exact⟨b,ce,e,wr,t,k2,hG.leB.2 _ _ k1,k3⟩
       ·cases hl
      have aB:i≠id:=by rintro rfl;rw[fx] at aZ;cases aZ
      obtain⟨w,hw,lj,g6⟩:=A8 j eD av;simp only[SR] at hw;obtain rfl:w=pl o:=hw.1;obtain⟨C,L,cs',iv,gx,ec,hd1,td,lb,hg⟩:=hb _ _ _ c v post ff hc;have hg:=hg [pl o];have tf:oid (pl o)=some id:=by rw[gh];rfl
      let σc:=σ.kill id;have oq:B.Le σc:=hG.leB.kill' lh;have ot:F.Le σc:=hG.le.kill' nE;have pQ:σc.Le σ:=Heap.kill_le _ _;have cH:∀ k,k≠id→σc.get k=σ.get k:=fun k hk=>Heap.get_kill_ne _ hk;have bJ:∀ d,OR P σc ZK Z8 σc (pl d) ((Q8 (oset s.own o .dead) d).kill d)∨True:=fun _=>.inr trivial;have qJ:∀ (xs:List SV) (vs:List Value),SRs P B pl tb xs vs→SRs P σc ZK Z8 (M5 (oset s.own o .dead) xs) vs:=fun xs vs bu=>by
       refine Yb (own:=oset s.own o .dead) oq (pl:=pl) (tb:=tb) (fun d=>?_) bu;rw[Qf];by_cases e:d=o
       ·rw[if_pos e];trivial
       ·rw[if_neg e];exact(hG.obj d).mono (.refl _) (fun _ _ h=>h) fun hl i hi=>cH _ fun iP=>hG.sep d o i e hl aq hi (by rw[gh,iP];rfl)
      have au:=td σc us (qJ _ _ dL);have bQ:=hd1 σc _ (qJ _ _ lj);let iw:Nat→Value:=fun k=>if k=0 then pl o else poison
      have jQ:∀ (B:Heap) (tb':Nat→Option Bool),SR P B iw tb' (.map 0) (pl o):=fun B tb'=>by simp only[SR];exact⟨by simp[iw],_,gh⟩
      have bC:GRel P σc σc σ (mstart nt j kk vk m [pl o] cs' iv) (u::us++List.replicate (nt-(u::us).length) undef) σ:=by
       refine⟨σc,σc,iw,Z8,⟨.refl _,.refl _,fun _ _ _ h=>h,.refl _⟩,.refl _,pQ,?_,fun k=>?_,fun k i' h1 h2=>?_,fun k k' i' pR h1 h2 h3 h4=>?_,fun _ _=>rfl⟩
       ·simp only[mstart,SRs,List.cons_append];refine⟨u,_,rfl,?_,?_⟩
        ·simp only[SR];refine⟨i,ce,e,wr,t,by rw[cH i aB];exact fx,tc,g6 _ _ _ _ _ (QG _ _ gx bQ) (jQ _ _)⟩
        rw[au.length,List.length_cons];refine SRs.append ?_ (Bw _);exact QG _ _ ec au
       ·simp only[mstart,Q8];by_cases e0:k=0
        ·subst e0;simp only[Nat.beq_refl,_root_.cond_true];exact⟨id,es,clock,by simp[iw,gh],aZ,fZ.mono oq⟩
        ·rw[QW (fun e=>e0 e.symm),cond_false];by_cases e1:k=4000000
         ·subst e1;simp only[Nat.beq_refl,_root_.cond_true];exact⟨pl o,[],rfl,jQ _ _,rfl⟩
         ·rw[QW (fun e=>e1 e.symm),cond_false];trivial
       ·simp only[mstart,Q8] at h1;by_cases e0:k=0
        ·subst e0;have:Oid (pl o) i':=by simpa [iw] using h2
         rw[gh] at this;obtain rfl:id=i':=osj this;exact Heap.get_kill_self _ _
        ·rw[QW (fun e=>e0 e.symm),cond_false] at h1;by_cases e1:k=4000000
         ·subst e1;cases h1
         ·rw[QW (fun e=>e1 e.symm),cond_false] at h1;cases h1
       ·have z:∀ k,(Q8 (mstart nt j kk vk m [pl o] cs' iv).own k).live=true→k=0:=fun k h1=>by
         simp only[mstart,Q8] at h1;by_cases e0:k=0
         ·exact e0
         ·rw[QW (fun e=>e0 e.symm),cond_false] at h1;by_cases e1:k=4000000
          ·subst e1;cases h1
          ·rw[QW (fun e=>e1 e.symm),cond_false] at h1;cases h1
        exact pR ((z k h1).trans (z k' h2).symm)
      refine h.calls hm Gt ?_;refine VN lb vc 0 _ _ _ σ none _ trivial bC hg fun e s' ae σ' h1 h2=>?_
      have main:(match XC s' rs,Q8 s'.own 4000000,CQ kk vk (Q8 s'.own 0) with
       |some r,.stk l vs,some m'=>vs=[pl o]∧YO [(0,some 0)] [.map 0] l∧NB [] v r∧post m'
       |_,_,_=>False)→Qz (ZN ae σ' rs) fun v=>∃ v' aD,DropTo σ v σ' v' aD∧R v' aD:=fun h=>by
       obtain⟨B',F',pl',tb',k1,k2⟩:=h2;split at h
       ·rename_i r l' cB m' hr fB oh;obtain⟨rfl,m1,m2,m3⟩:=h;have gG:=DS oh;obtain⟨w,h3,h4⟩:=X3 k2 hr;rw[h3];have eX:=k2.obj 4000000;rw[fB] at eX;have lk:pl' 0=pl o:=by
         have:=QM [.map 0] l' [pl o] m1 eX;simp only[SRs,SR] at this;obtain⟨u',_,bZ,⟨h5,_⟩,_⟩:=this;obtain rfl:pl o=u':=(List.cons.inj bZ).1;simpa [YP,Qj] using h5.symm
        have g7:=k2.obj 0;rw[gG,lk] at g7;have df:=(XR v r w m2 h4).retd (B':=B) (pl':=pl) (tb':=tb) (n:=0) (fun j hj=>by omega) _ _ cA;have hle:σc.Le σ':=k1.f.trans k2.le;have jR:∀ d,d≠o→(Q8 s.own d).live=true→∀ i,Oid (pl d) i→σ'.get i=σ.get i:=fun d e hl i hi=>by
         have ai:=(hG.obj d).id_lt hl hi;have tg:i≠id:=fun iP=>hG.sep d o i e hl aq hi (by rw[gh,iP];rfl);cases hg:σ.get i with
         |none=>exact k1.d.2 i ai hg
         |some bb=>exact hle.2 _ _ (by rw[cH i tg];exact hg)
        have bG:∀ d,(Q8 (oset s.own o (.map kk vk m')) d).live=(Q8 s.own d).live:=fun d=>by
         rw[Qf];by_cases e:d=o
         ·subst e;rw[if_pos rfl,aq];rfl
         ·rw[if_neg e]
        refine⟨w,σ',.refl _ _ _,hK v _ w σ' (hx m' m3) k1.d ⟨hG.bf,ot.trans hle,hG.env,fun d=>?_,fun d i q1 q2=>hG.fresh d i (by rw[←bG d];exact q1) q2,fun d d' i aB q1 q2 q3 q4=>hG.sep d d' i aB (by rw[←bG d];exact q1) (by rw[←bG d'];exact q2) q3 q4,hG.free⟩ df fun q hq=>?_⟩
        ·simp only[Qf];by_cases e:d=o
         ·subst e;rw[if_pos rfl];exact g7.retd bV fun _ _=>rfl
         ·rw[if_neg e];exact(hG.obj d).mono (.refl _) (fun _ _ h=>h) fun hl i hi=>jR d e hl i hi
        ·have th:q≠o:=fun e=>hq (by rw[e,ta];exact List.mem_singleton.2 rfl);exact⟨bG q,rfl,fun hl i hi=>jR q th hl i hi⟩
       ·exact h.elim
      cases e with
      |normal=>exact main h1
      |ret=>exact main h1
      |_=>exact h1.elim
     ·exact hx.elim
    ·exact hx.elim
   ·exact hx.elim
  ·exact hx.elim
 ·exact hx.elim
theorem FZ {f:Nat}{kk vk:Kind}{sp:MSp kk vk}{ap:Ap}{j:Nat}(h:Ac P f (UF ap j kk vk sp) j):XOk P f (UF ap j kk vk sp):=by
 intro B F pl tb s env σ d args vs K R hG ha hx hK;have:∃ t,HP s.own j args=some t:=by
  unfold UF at hx;split at hx
  ·rename_i a args;split at hx
   ·rename_i l hl;split at hx
    ·rename_i o eD;exact⟨o,by simp[HP,hl,eD]⟩
    ·exact hx.elim
   ·exact hx.elim
  ·exact hx.elim
 obtain⟨t,ht⟩:=this;exact h B F pl tb s env σ d args vs K R t hG ha ht hx fun v s' u σ' k1 k2 k3 k4 _=>hK v s' B F pl tb u σ' k1 (.of hG.bf k2) k3 k4
def OT (P:Program) (f:Nat) (x:XSp) (j:Nat):Prop:=XOk P f x∧Ac P f x j
theorem XfOk.nil {xs:List (Nat×XSp)}:∀ f j,Qj ([]:List (Nat×Nat)) f=some j→∀ x,Qj xs f=some x→Ac P f x j:=fun f j h=>by cases h
theorem XfOk.cons {xs:List (Nat×XSp)}{g k:Nat}{y:XSp}{l:List (Nat×Nat)}(hy:Qj xs g=some y) (h:Ac P g y k) (t:∀ f j,Qj l f=some j→∀ x,Qj xs f=some x→Ac P f x j):∀ f j,Qj ((g,k)::l) f=some j→∀ x,Qj xs f=some x→Ac P f x j:=fun f j hf x hx=>by
 simp only[Qj] at hf;cases hb:Nat.beq g f with
 |true =>rw[hb] at hf;obtain rfl:=Nat.eq_of_beq_eq_true hb;obtain rfl:=osj hf;obtain rfl:=osj (hy.symm.trans hx);exact h
 |false=>rw[hb] at hf;exact t f j hf x hx
theorem TQ {f:Nat}{vc:VCode}{rs:List VResult}{nt:Nat}(h:Fun P f vc rs nt) (hm:P.follows .mixedOrders=true) {kk vk:Kind}(bV:(kk.flat&&vk.flat)=true) {sp:MSp kk vk}{ap:Ap}{j:Nat}
  (hb:∀ m cs eF c v post,sp ap m cs eF=some (c,v,post)→c→∃ (C:Cx) (L:List Value→List (Nat×LoopAnn)) (cs' iv:List SV),SVs.pure cs'=true∧SVs.pure iv=true∧(∀ σ vs,SRs P σ ZK Z8 cs vs→SRs P σ ZK Z8 cs' vs)∧(∀ σ vs,SRs P σ ZK Z8 eF vs→SRs P σ ZK Z8 iv vs)∧COk P C∧∀ vals,gwp C (L vals) vc 0 (Aq vals rs v kk vk post) (mstart nt j kk vk m vals cs' iv)):OT P f (UF ap j kk vk sp) j :=
 ⟨FZ (PM h hm bV hb),PM h hm bV hb⟩
def Ea {kk vk:Kind}{E D:Type}(lc:AL E) (la:AL D) (pre:List (kk.T×vk.T)→E→D→Prop) (res:List (kk.T×vk.T)→E→D→SV) (post:List (kk.T×vk.T)→E→D→List (kk.T×vk.T)→Prop):MSp kk vk:=fun ap m cs eF=>match AL.dec ap lc cs,AL.dec ap la eF with
 |some c,some a=>some (pre m c a,res m c a,post m c a)
 |_,_=>none
theorem Pm {kk vk:Kind}{E D:Type}{lc:AL E}{la:AL D}{pre:List (kk.T×vk.T)→E→D→Prop}{res:List (kk.T×vk.T)→E→D→SV}{post:List (kk.T×vk.T)→E→D→List (kk.T×vk.T)→Prop}{ap:Ap}{m:List (kk.T×vk.T)}{cs eF:List SV}{c:Prop}{v:SV}{q:List (kk.T×vk.T)→Prop}
  (h:Ea lc la pre res post ap m cs eF=some (c,v,q)):∃ x y,AL.dec ap lc cs=some x∧AL.dec ap la eF=some y∧c=pre m x y∧v=res m x y∧q=post m x y:=by
 unfold Ea at h;split at h
 ·rename_i x y h1 h2;obtain⟨rfl,rfl,rfl⟩:=(by simpa using h:pre m x y=c∧res m x y=v∧post m x y=q);exact⟨x,y,h1,h2,rfl,rfl,rfl⟩
 ·cases h
theorem Lg {f:Nat}{vc:VCode}{rs:List VResult}{nt:Nat}(h:Fun P f vc rs nt) (hm:P.follows .mixedOrders=true) {ap:Ap}(dg:AJ P ap) {kk vk:Kind}(bV:(kk.flat&&vk.flat)=true) {j:Nat}{E D:Type}{lc:AL E}{la:AL D}{pre:List (kk.T×vk.T)→E→D→Prop}{res:List (kk.T×vk.T)→E→D→SV}{post:List (kk.T×vk.T)→E→D→List (kk.T×vk.T)→Prop}{μ:E→D→Nat}
  {C:Cx}(av:COk P C) (kR:Qj C.xf f=none) {L:List (kk.T×vk.T)→E→D→List Value→List (Nat×LoopAnn)}{V:Nat→List (kk.T×vk.T)→E→D→Prop}
  (hq:∀ n m x y,(∀ vals,gwp {C with xs:=(f,UF ap j kk vk (Ea lc la (fun m x y=>pre m x y∧μ x y<n) res post))::C.xs} (L m x y vals) vc 0 (Aq vals rs (res m x y) kk vk (post m x y)) (mstart nt j kk vk m vals (AL.can lc x) (AL.can la y)))=V n m x y)
  (hb:∀ n m x y,pre m x y→μ x y=n→V n m x y):OT P f (UF ap j kk vk (Ea lc la pre res post)) j:=by
 have nF:∀ (x:XSp) g k,Qj C.xf g=some k→∀ y,Qj ((f,x)::C.xs) g=some y→Ac P g y k:=fun x g k hg y hy=>by
  simp only[Qj] at hy;cases hb:Nat.beq f g with
  |true=>obtain rfl:=Nat.eq_of_beq_eq_true hb;rw[kR] at hg;cases hg
  |false=>rw[hb] at hy;exact av.xf g k hg y hy
 have key:∀ n,OT P f (UF ap j kk vk (Ea lc la (fun m x y=>pre m x y∧μ x y<n) res post)) j:=by
  intro n;induction n using Nat.strongRecOn with
  |ind n ih =>refine TQ h hm bV fun m cs eF c v q hs hc=>?_;obtain⟨x,y,h1,h2,rfl,rfl,rfl⟩:=Pm hs;obtain⟨hp,hn⟩:=hc;exact⟨{C with xs:=(f,UF ap j kk vk (Ea lc la (fun m x' y'=>pre m x' y'∧μ x' y'<μ x y) res post))::C.xs},L m x y,AL.can lc x,AL.can la y,AL.can_pure lc x,AL.can_pure la y,fun σ vs hv=>AL.dec_sound dg lc h1 hv,fun σ vs hv=>AL.dec_sound dg la h2 hv,⟨av.cs,XsOk.cons (ih _ hn).1 av.xs,av.it,av.yl,av.iy,nF _⟩,(hq (μ x y) m x y).mpr (hb _ m x y hp rfl)⟩
 refine TQ h hm bV fun m cs eF c v q hs hc=>?_;obtain⟨x,y,h1,h2,rfl,rfl,rfl⟩:=Pm hs;exact⟨{C with xs:=(f,UF ap j kk vk (Ea lc la (fun m x' y'=>pre m x' y'∧μ x' y'<μ x y) res post))::C.xs},L m x y,AL.can lc x,AL.can la y,AL.can_pure lc x,AL.can_pure la y,fun σ vs hv=>AL.dec_sound dg lc h1 hv,fun σ vs hv=>AL.dec_sound dg la h2 hv,⟨av.cs,XsOk.cons (key (μ x y)).1 av.xs,av.it,av.yl,av.iy,nF _⟩,(hq (μ x y) m x y).mpr (hb _ m x y hc rfl)⟩
end
end Go.V
namespace Go.V
open Go
def Heap.over (B F:Heap):Heap where
 get i:=match B.get i with|some b=>some b|none=>F.get i
 n:=Nat.max B.n F.n
 wf i h:=by have h1:B.n≤i:=Nat.le_trans (Nat.le_max_left _ _) h;have h2:F.n≤i:=Nat.le_trans (Nat.le_max_right _ _) h;rw[B.wf i h1];exact F.wf i h2
theorem Heap.over_none {B F:Heap}{i:Nat}(h1:B.get i=none) (h2:F.get i=none):(B.over F).get i=none:=by show (match B.get i with|some b=>some b|none=>F.get i)=none;rw[h1];exact h2
theorem Heap.over_left {B F:Heap}:B.Le (B.over F):=⟨Nat.le_max_left _ _,fun i b h=>by
 show (match B.get i with|some b=>some b|none=>F.get i)=some b;rw[h]⟩
theorem Heap.over_right {B F σ:Heap}(hB:B.Le σ) (hF:F.Le σ):F.Le (B.over F):=⟨Nat.le_max_right _ _,fun i b h=>by
 show (match B.get i with|some b=>some b|none=>F.get i)=some b;cases hb:B.get i with
 |none=>exact h
 |some b' =>
  have h1:=hB.2 _ _ hb;have h2:=hF.2 _ _ h;rw[h1] at h2;exact h2⟩
theorem Heap.over_le {B F σ:Heap}(hB:B.Le σ) (hF:F.Le σ):(B.over F).Le σ:=⟨Nat.max_le.2 ⟨hB.1,hF.1⟩,fun i b h=>by
 have h:(match B.get i with|some b=>some b|none=>F.get i)=some b:=h;cases hb:B.get i with
 |none=>rw[hb] at h;exact hF.2 _ _ h
 |some b'=>rw[hb] at h;rw[←h];exact hB.2 _ _ hb⟩
theorem GBase.over {B F σ B' σ':Heap}(hB:B.Le B') (g8:B'.Le σ') (hF:F.Le σ') (hx:∀ i b,F.get i=some b→B.get i=none→B'.get i=none) (hd:Dead σ σ'):GBase B F σ B' (B'.over F) σ' :=
 ⟨hB,Heap.over_right g8 hF,hx,hd⟩
def callV (ap:Ap) (sp:CSp):XSp:=fun d args s K =>
 let s1:=(⟨s.env++args,s.own,s.nx⟩:St).frzs (Yp args);let a1:=s1.env.drop s.env.length
 bif SVs.pure a1 then (match sp ap a1 with
  |some (c,v,bs)=>bif v.ret bs.length&&bs.all OB.isL then c∧K (v.ren d 500000) ((⟨s1.env.take s.env.length,s1.own,s1.nx⟩:St).makes d 500000 0 bs) else False
  |none=>False) else False
section
variable {P:Program}
theorem OB.isL_lst {b:OB}(h:b.isL=true):∃ ty k xs nl,b=.lst ty k xs nl:=by cases b<;>first|exact⟨_,_,_,_,rfl⟩|cases h
theorem SRs.split {B:Heap}{pl:Nat→Value}{tb:Nat→Option Bool}:∀ {a:List SV}{u v:List Value},SRs P B pl tb a (u++v)→SRs P B pl tb (a.take u.length) u∧SRs P B pl tb (a.drop u.length) v
 |a,[],v,h=>⟨by simp[SRs],by simpa using h⟩
 |[],x::u,v,h=>by simp only[SRs] at h;cases h
 |s::a,x::u,v,h=>by simp only[SRs,List.cons_append] at h;obtain⟨y,ys,e,h1,h2⟩:=h;obtain⟨rfl,rfl⟩:=List.cons.inj e;obtain⟨h3,h4⟩:=SRs.split h2;simp only[List.length_cons,List.take_succ_cons,List.drop_succ_cons,SRs];exact⟨⟨_,_,rfl,h1,h3⟩,h4⟩
end
end Go.V
namespace Go.V
open Go
theorem MN (x:Nat):BitVec.ofInt 64 (x:Int)=BitVec.ofNat 64 x:=by apply BitVec.eq_of_toNat_eq;simp
theorem toNat_ofInt {x:Nat}(h:x<9223372036854775808):(BitVec.ofInt 64 (x:Int)).toNat=x:=by rw[MN,BitVec.toNat_ofNat,Nat.mod_eq_of_lt (by omega)]
end Go.V
set_option linter.unusedVariables false
namespace Go.Proofs.Tryz
open Go Go.V Go.Proofs
def inI (n a b:Int):Bool:=decide (a≤n)&&decide (n≤b)
def Aa (l:List Int) (p:Int→Bool):Int:=match l.findIdx? p with|some i=>(i:Int)|none=>-1
def L9 {α:Type}(l:List α) (p:α→Bool):Int:=match l.findIdx? p with|some i=>(i:Int)|none=>-1
theorem Cz {α:Type}{l:List α}{p:α→Bool}{k:Nat}(hk:k<l.length) (h:p l[k]=true) (hJ:(l.take k).any p=false):L9 l p=k:=by
 have:l.findIdx? p=some k:=by rw[List.findIdx?_eq_some_iff_getElem];refine⟨hk,h,fun j hj=>?_⟩;have hn:=List.any_eq_false.1 hJ l[j] (List.mem_take_iff_getElem.2 ⟨j,by omega,rfl⟩);simpa using hn
 simp[L9,this]
theorem PD {α:Type}{l:List α}{p:α→Bool}(hJ:l.any p=false):L9 l p=-1:=by
 have:l.findIdx? p=none:=by rw[List.findIdx?_eq_none_iff];intro x hx;have:=List.any_eq_false.1 hJ x hx;simpa using this
 simp[L9,this]
theorem AA {α:Type}(l:List α) (p:α→Bool):(decide (L9 l p≥0))=l.any p:=by
 cases h:l.any p with
 |false=>rw[PD h];rfl
 |true =>
  have:(l.findIdx? p).isSome=true:=by rw[List.findIdx?_isSome,h]
  obtain⟨i,hi⟩:=Option.isSome_iff_exists.1 this;have e:L9 l p=(i:Int):=by simp[L9,hi]
  rw[e];exact decide_eq_true (Int.natCast_nonneg i)
abbrev Sp:=Int×Int
theorem nI (n a b:Int):(!inI n a b)=(decide (n<a)||decide (b<n)):=by simp only[inI,Bool.not_and];by_cases h1:a≤n<;>by_cases h2:n≤b<;>simp[h1,h2]<;>omega
theorem UB (a b:Int):BC a b=max a b:=by unfold BC;split<;>omega
theorem Bi (a b:Int):GZ a b=min a b:=by unfold GZ;split<;>omega
def Sub (a b:Sp):Prop:=b.1≤a.1∧a.2≤b.2
def Ne (a:Sp):Prop:=a.1≤a.2
theorem R7 {α β:Type}{f:α→Option β}:∀ {L:List α}{ys:List β},L.mapM f=some ys→ys.length=L.length∧∀ (i:Nat) (h:i<L.length) (h2:i<ys.length),f L[i]=some ys[i]
 |[],ys,h=>by simp at h;subst h;simp
 |a::L,ys,h=>by
  simp only[List.mapM_cons,Option.bind_eq_bind,Option.bind_eq_some_iff,Option.pure_def,Option.some.injEq] at h;obtain⟨y,hy,zs,hz,rfl⟩:=h;obtain⟨e1,e2⟩:=R7 hz;refine⟨by simp[e1],fun i h1 h2=>?_⟩;cases i with
  |zero=>exact hy
  |succ i=>exact e2 i (by simpa using h1) (by simpa using h2)
theorem AF {H:Type}{enc:TypeId×Value→H}{P:Program}{w:World}{base:Nat}{sp:Nat→Bool}{held:Bool}{fuel:Nat}{t:TypeId}{k:IntKind}{c:Value}{y:DataW H×List MemPlace}
  (ht:P.underlying t=some (.int k)) (h:DataW.trod enc P w base sp held fuel t [c]=some y):∃ n,c=.int k n∧y=(.lit (.int k n),[]):=by
 cases fuel with
 |zero=>simp[DataW.trod] at h
 |succ fuel =>cases c<;>simp[DataW.trod,ht] at h;rename_i k' n;obtain⟨⟨rfl,_⟩,rfl⟩:=h;exact⟨n,rfl,rfl⟩
theorem AN {H:Type}{enc:TypeId×Value→H}{P:Program}{w:World}{base:Nat}{sp:Nat→Bool}{held:Bool}{fuel:Nat}{t e:TypeId}{k:IntKind}{n:Nat}{l:List Value}{xs:List Int}{p:List MemPlace}
  (ht:P.underlying t=some (.array n e)) (he:P.underlying e=some (.int k)) (h1:P.cellsOf e=1) (hc:P.cellsOf t=n) (h:DataW.trod enc P w base sp held fuel t l=some (.agg (xs.map fun x=>.lit (.int k x)),p)):l=xs.map fun x=>.int k x:=by
 cases fuel with
 |zero=>simp[DataW.trod] at h
 |succ fuel =>
  simp only[DataW.trod,ht,h1,hc,Nat.mul_one] at h;split at h
  ·rename_i hl;simp only[Option.map_eq_some_iff,Prod.mk.injEq,DataW.agg.injEq] at h;obtain⟨ys,hm,hx,_⟩:=h;obtain⟨e1,e2⟩:=R7 hm;rw[List.length_range] at e1;have hlen:xs.length=ys.length:=by
    have:=congrArg List.length hx;simpa using this.symm
   refine List.ext_getElem (by rw[List.length_map];omega) fun i k1 k2=>?_;have hy:=e2 i (by rw[List.length_range];omega) (by omega);rw[List.getElem_range,List.drop_eq_getElem_cons k1] at hy;simp only[List.take_succ_cons,List.take_zero] at hy;obtain⟨m,iS,gf⟩:=AF he hy;rw[iS,List.getElem_map];have lS:(ys.map (·.1))[i]'(by rw[List.length_map];omega)=(xs.map fun x=>(DataW.lit (Lit.int k x):DataW H))[i]'(by rw[List.length_map];omega):=by
    simp only[hx]
   rw[List.getElem_map,List.getElem_map,gf] at lS;simp only[DataW.lit.injEq,Lit.int.injEq,true_and] at lS;rw[lS]
  ·cases h
theorem tab_heap {P:Program}{nm:String}{g G:Nat}{t e:TypeId}{k:IntKind}{n fuel:Nat}{cs:Array Value}{xs:List Int}{p:List MemPlace}{W:World}(hv:W.var? P nm=some cs) (hG:P.globalNamed nm=some G) (hg:P.globalNamed nm=some g) {T:TypeId}(hT:(P.globals[G]?).map (·.type)=some T) (me:(P.globals[g]?).map (·.type)=some t)
  (ht:P.underlying T=some (.array n e)) (he:P.underlying e=some (.int k)) (h1:P.cellsOf e=1) (hc:P.cellsOf T=n) (hd:DataW.trod (fun _=>()) P W 0 (fun _=>true) false fuel t cs.toList=some (.agg (xs.map fun x=>.lit (.int k x)),p)):∃ e f,W.heap[G]?=some (.cells (xs.map fun x=>Value.int k x).toArray e f):=by
 obtain rfl:=osj (hG.symm.trans hg);obtain rfl:=osj (hT.symm.trans me);have hl:=AN ht he h1 hc hd;unfold World.var? at hv;rw[hG] at hv;simp only[Option.bind_some] at hv;split at hv
 ·rename_i cs' a b hh;obtain rfl:=osj hv;refine⟨a,b,?_⟩;rw[hh,←hl]
 ·cases hv
end Go.Proofs.Tryz
set_option linter.unusedVariables false
namespace Go.Proofs.Tryz
open Go Go.V Go.Proofs
def WS:AL (Int×Int×Int):=(.cons (.k (.i .i64)) (.cons (.ptr (.one (.k (.i .i64)))) (.one (.ptr (.one (.k (.i .i64)))))))
def Uq (d:Int×Int×Int):Prop:=True
def WC (d:Int×Int×Int):SV:=.val .bo (decide (d.1<d.2.1)||decide (d.2.2<d.1))
def Wz (d:Int×Int×Int):List OB:=[]
def Xp:CSp:=YC WS Uq WC Wz
def JR (n:Int) (a:Int) (b:Int):Prop :=
 (((decide (n<a))||(decide (n > b)))=(decide (n<a)||decide (b<n))∧(True))
def Y2:Cx:=⟨[],[],13,[],0,[],[],[],[],false,[],[],[],[]⟩
def UN (n:Int) (a:Int) (b:Int):List (Nat×LoopAnn):=[]
set_option maxRecDepth 100000 in
theorem UX (d:Int×Int×Int):gwp (Y2) (UN d.1 d.2.1 d.2.2) c88 0 (VJ [.tmp 4] (WC d) (Wz d)) (QX 13 (AL.can WS d))=JR d.1 d.2.1 d.2.2:=by kernel_rfl
abbrev UC:Prop:=OkC Tryz.prog 88 Xp
theorem UL (h:∀ (n:Int) (a:Int) (b:Int),(True)→JR n a b):OkC Tryz.prog 88 Xp :=
 Zx Om mixed (C:=Y2) (V:=fun (d:Int×Int×Int)=>JR d.1 d.2.1 d.2.2) ⟨.nil,XsOk.nil,ItsOk.nil,YlOk.nil,IysOk.nil,XfOk.nil⟩ (UX) fun d hp=>h d.1 d.2.1 d.2.2 hp
theorem UH:UC:=UL fun n a b _=>by exact⟨rfl,trivial⟩
def J4:AL (List Int×((Int→Prop)×(Int→Bool))):=(.cons (.k (.list (.i .i64))) (.one (.fn [(.i .i64)] .bo)))
def XI (d:List Int×((Int→Prop)×(Int→Bool))):Prop:=d.1.length≤1000000∧∀ x∈d.1,d.2.1 x
def ZM (d:List Int×((Int→Prop)×(Int→Bool))):SV:=.val (.i .i64) (Aa d.1 d.2.2)
def ZQ (d:List Int×((Int→Prop)×(Int→Bool))):List OB:=[]
def Q_:CSp:=YC J4 XI ZM ZQ
def QA (l:List Int) (p:(Int→Prop)×(Int→Bool)):Prop :=
 ∃ (e2:Unit) (d20:Int),((l=l∧(SV.pf [(.i .i64)] .bo p.1 p.2=SV.pf [(.i .i64)] .bo p.1 p.2)∧(lI l)=(lI l)∧(0:Int)=d20∧True)∧(True)) ∧
 LoopP (fun (d2:Int) (q2:(Int)→Prop) =>
  ((decide (d2<(lI l)))=true →
   (0≤d2)∧(d2<(List.length l))∧(p.1 (gD l d2 0))∧((p.2 (gD l d2 0))=true →
    (d2=(Aa l p.2)∧(True))) ∧
   ((p.2 (gD l d2 0))=false →
    (I64 (d2+(1:Int)))∧(∃ d3:Int,((l=l∧(SV.pf [(.i .i64)] .bo p.1 p.2=SV.pf [(.i .i64)] .bo p.1 p.2)∧(lI l)=(lI l)∧(d2+(1:Int))=d3∧True)∧(True))∧q2 d3))) ∧
  ((decide (d2<(lI l)))=false →
   ((-1:Int)=(Aa l p.2)∧(True)))) d20
def J5:Cx:=⟨[],[],19,[],0,[],[],[],[],false,[],[],[],[]⟩
def XV (l:List Int) (p:(Int→Prop)×(Int→Bool)):List (Nat×LoopAnn):=[(0,⟨Unit,Int,[0,1,7,8],fun e x=>[.val (.list (.i .i64)) l,.pf [(.i .i64)] .bo p.1 p.2,.val (.i .i64) (((List.length l):Nat):Int),.val (.i .i64) x],fun e x=>[]⟩)]
set_option maxRecDepth 100000 in
theorem XW (d:List Int×((Int→Prop)×(Int→Bool))):gwp (J5) (XV d.1 d.2) Q2x 0 (VJ [.tmp 4] (ZM d) (ZQ d)) (QX 19 (AL.can J4 d))=QA d.1 d.2:=by kernel_rfl
abbrev W4:Prop:=OkC Tryz.prog 103 Q_
theorem W6 (h:∀ (l:List Int) (p:(Int→Prop)×(Int→Bool)),(l.length≤1000000∧∀ x∈l,p.1 x)→QA l p):OkC Tryz.prog 103 Q_ :=
 Zx LN mixed (C:=J5) (V:=fun (d:List Int×((Int→Prop)×(Int→Bool)))=>QA d.1 d.2) ⟨.nil,XsOk.nil,ItsOk.nil,YlOk.nil,IysOk.nil,XfOk.nil⟩ (XW) fun d hp=>h d.1 d.2 hp
theorem CU {l:List Int}{p:Int→Bool}{k:Nat}(hk:k<l.length) (h:p l[k]=true) (hJ:(l.take k).any p=false):Aa l p=k:=by
 have:l.findIdx? p=some k:=by rw[List.findIdx?_eq_some_iff_getElem];refine⟨hk,h,fun j hj=>?_⟩;have hn:=List.any_eq_false.1 hJ l[j] (List.mem_take_iff_getElem.2 ⟨j,by omega,rfl⟩);simpa using hn
 simp[Aa,this]
theorem CJ {l:List Int}{p:Int→Bool}(hJ:l.any p=false):Aa l p=-1:=by
 have:l.findIdx? p=none:=by rw[List.findIdx?_eq_none_iff];intro x hx;have:=List.any_eq_false.1 hJ x hx;simpa using this
 simp[Aa,this]
theorem Tt (l:List Int) (p:Int→Bool):decide (Aa l p≥0)=l.any p:=by
 unfold Aa;cases h:l.findIdx? p with
 |none =>
  have:=List.findIdx?_eq_none_iff.1 h;have:l.any p=false:=by rw[List.any_eq_false];intro x hx;simp[this x hx]
  rw[this];rfl
 |some i =>obtain⟨h1,h2,_⟩:=List.findIdx?_eq_some_iff_getElem.1 h;rw[List.any_eq_true.2 ⟨l[i],List.getElem_mem h1,h2⟩];simp
theorem XZ:W4:=W6 fun l p hp=>by
 unfold QA;(try delta lI gD sT I64);simp only[true_and,and_true,exists_eq_left',exists_const,decide_eq_true_eq,decide_eq_false_iff_not];refine LoopP.count l.length (fun k=>(l.take k).any p.2=false) (by simp) fun k a7 hJ q hq=>?_;simp only[Int.toNat_natCast,Int.ofNat_lt,QR];refine⟨fun ai=>?_,fun bq=>?_⟩
 ·rw[Ql ai];refine⟨by omega,ai,hp.2 _ (List.getElem_mem ai),fun hx=>?_,fun hx=>⟨by omega,hq ai ?_⟩⟩
  ·rw[CU ai hx hJ]
  ·rw[Xf ai,List.any_append,hJ];simp[hx]
 ·rw[List.take_of_length_le (by omega)] at hJ;rw[CJ hJ]
def Zu:AL (List Int×((Int→Prop)×(Int→Bool))):=(.cons (.k (.list (.i .i64))) (.one (.fn [(.i .i64)] .bo)))
def JV (d:List Int×((Int→Prop)×(Int→Bool))):Prop:=d.1.length≤1000000∧∀ x∈d.1,d.2.1 x
def Zn (d:List Int×((Int→Prop)×(Int→Bool))):SV:=.val .bo (d.1.any d.2.2)
def Zm (d:List Int×((Int→Prop)×(Int→Bool))):List OB:=[]
def QL:CSp:=YC Zu JV Zn Zm
def QI (l:List Int) (p:(Int→Prop)×(Int→Bool)):Prop :=
 (l.length≤1000000∧∀ x∈l,(fun (x1:Int)=>p.1 x1) x)∧((decide ((Aa l (fun (x1:Int)=>(p.2 x1)))≥(0:Int)))=(l.any p.2)∧(True))
def Zv:Cx:=⟨[],[(103,Q_)],9,[],0,[],[],[],[],false,[],[],[],[]⟩
def Xd (l:List Int) (p:(Int→Prop)×(Int→Bool)):List (Nat×LoopAnn):=[]
set_option maxRecDepth 100000 in
theorem X9 (d:List Int×((Int→Prop)×(Int→Bool))):gwp (Zv) (Xd d.1 d.2) c87 0 (VJ [.tmp 4] (Zn d) (Zm d)) (QX 9 (AL.can Zu d))=QI d.1 d.2:=by kernel_rfl
abbrev X8:Prop:=OkC Tryz.prog 87 QL
theorem X4 (h:∀ (l:List Int) (p:(Int→Prop)×(Int→Bool)),(l.length≤1000000∧∀ x∈l,p.1 x)→QI l p):OkC Tryz.prog 87 QL :=
 Zx Im mixed (C:=Zv) (V:=fun (d:List Int×((Int→Prop)×(Int→Bool)))=>QI d.1 d.2) ⟨(.cons XZ .nil),XsOk.nil,ItsOk.nil,YlOk.nil,IysOk.nil,XfOk.nil⟩ (X9) fun d hp=>h d.1 d.2 hp
theorem Xe:X8:=X4 fun l p hp=>by exact⟨hp,Tt l p.2,trivial⟩
def Kb:AL (Int×Int×List Int):=(.cons (.k (.i .i64)) (.cons (.k (.i .i64)) (.one (.k (.list (.i .i64))))))
def Ny (d:Int×Int×List Int):Prop:=d.2.2.length≤1000000
def Yz (d:Int×Int×List Int):SV:=.val .bo (!(d.2.2.any fun n=>decide (n<d.1)||decide (d.2.1<n)))
def YA (d:Int×Int×List Int):List OB:=[]
def Je:CSp:=YC Kb Ny Yz YA
def We (a:Int) (b:Int) (l:List Int):Prop :=
 (l.length≤1000000∧∀ x∈l,(fun (x1:Int)=>True) x)∧((!(l.any (fun (x1:Int)=>(decide (x1<a)||decide (b<x1)))))=(!(l.any fun n=>decide (n<a)||decide (b<n)))∧(True))
def YU:Cx:=⟨[],[(87,QL),(88,Xp)],11,[],0,[],[],[],[],false,[],[],[],[]⟩
def Mf (a:Int) (b:Int) (l:List Int):List (Nat×LoopAnn):=[]
set_option maxRecDepth 100000 in
theorem MU (d:Int×Int×List Int):gwp (YU) (Mf d.1 d.2.1 d.2.2) c61 0 (VJ [.tmp 6] (Yz d) (YA d)) (QX 11 (AL.can Kb d))=We d.1 d.2.1 d.2.2:=by kernel_rfl
abbrev Mm:Prop:=OkC Tryz.prog 61 Je
theorem Mb (h:∀ (a:Int) (b:Int) (l:List Int),(l.length≤1000000)→We a b l):OkC Tryz.prog 61 Je :=
 Zx Iy mixed (C:=YU) (V:=fun (d:Int×Int×List Int)=>We d.1 d.2.1 d.2.2) ⟨(.cons Xe (.cons UH .nil)),XsOk.nil,ItsOk.nil,YlOk.nil,IysOk.nil,XfOk.nil⟩ (MU) fun d hp=>h d.1 d.2.1 d.2.2 hp
theorem XS:Mm:=Mb fun a b l h=>by exact⟨⟨h,fun _ _=>trivial⟩,rfl,trivial⟩
end Go.Proofs.Tryz
namespace Go.V
open Go
theorem Ak {P:Program}{σ:Heap}:Ret P σ (.val .bo true) [] (.bool true) σ :=
 ⟨⟨.refl _,Dead.refl _⟩,fun _=>rfl,ZK,fun j b hj=>by simp at hj,fun j j' i hj=>by simp at hj,by simp[SR,KC]⟩
theorem AH {P:Program}{f:Nat}(h:∀ (σ:Heap) (K:Value→Heap→Prop),K (.bool true) σ→VCalled P f [] σ K):OkC P f (YC (.nil:AL Unit) (fun _=>True) (fun _=>.val .bo true) (fun _=>[])):=by
 intro ap dg σ args vs c v bs au hs hv bT hc;unfold YC at hs;split at hs
 ·rename_i d hd;obtain⟨rfl,rfl,rfl⟩:=(by simpa using hs:True=c∧SV.val .bo true=v∧[]=bs);have:vs=[]:=by
   cases args with
   |nil=>simpa [SRs] using au
   |cons a l=>simp[AL.dec] at hd
  subst this;refine⟨h σ _ Ak,fun _ _=>h σ _ ⟨rfl,?_⟩⟩;unfold M7;cases σ;simp only[List.length_nil,Nat.add_zero,List.getElem?_nil,Option.bind_none,Heap.mk.injEq,and_true];funext i;split
  ·rfl
  ·rename_i wf hi;exact wf i (by simpa using hi)
 ·cases hs
end Go.V
namespace Go.V
open Go Go.ChangeShapes Go.WideShapes Go.RowKit Go.Deep Go.Joins
def Heap.RO (σ:Heap):Prop:=∀ i b,σ.get i=some b→b.wr=false
structure View (w:World) (ρ:Plc) (σ:Heap):Prop where
 rel:HRel ρ σ w
 ro:σ.RO
structure More (ρ:Plc) (σ:Heap) (ρ':Plc) (σ':Heap):Prop where
 n:σ.n≤σ'.n
 pl:∀ i,i<σ.n→∀ p,ρ' i=some p→ρ i=some p
 ag:Agree σ σ'
theorem More.refl (ρ:Plc) (σ:Heap):More ρ σ ρ σ:=⟨Nat.le_refl _,fun _ _ _ h=>h,Agree.refl _⟩
theorem More.trans {ρ ρ' dW:Plc}{σ σ' aD:Heap}(h:More ρ σ ρ' σ') (k:More ρ' σ' dW aD):More ρ σ dW aD :=
 ⟨Nat.le_trans h.n k.n,fun i hi p hp=>h.pl i hi p (k.pl i (Nat.lt_of_lt_of_le hi h.n) p hp),h.ag.trans k.ag h.n⟩
def Q3b (w:World):Prop:=∀ g cs,Ab g=some cs→∃ e f,w.heap[g]?=some (.cells cs.toArray e f)
theorem View.emptyT (w:World) (ht:Q3b w):View w (fun _=>none) Heap.empty where
 rel:=⟨⟨fun i b h=>(by cases h),fun _ _=>rfl,fun i p h=>(by cases h),fun i j p q b _ h=>(by cases h)⟩,fun g cs hg=>⟨ht g cs hg,fun ⟨_,_,_,h,_⟩=>by cases h⟩⟩
 ro:=fun i b h=>by cases h
theorem View.add {w:World}{ρ:Plc}{σ:Heap}(h:View w ρ σ) (p:Pl) (c:List Value) {C:Array Value}{e:TypeId}{f:Nat×Nat}(hb:w.heap[p.blk]?=some (.cells C e f)) (hs:p.shift+p.ext≤C.size) (hl:c.length≤p.ext) (ht:e=p.esz.ty)
  (hc:∀ (k:Nat) (v:Value),c[k]?=some v→∃ u,w.cell? ⟨p.blk,p.shift+k,none⟩=some u∧VRel ρ σ.n v u) :
  View w (ρ.put σ.n (some p)) (σ.push (.cells c p.esz false p.tight))∧More ρ σ (ρ.put σ.n (some p)) (σ.push (.cells c p.esz false p.tight)):=by
 have aO:∀ i,i<σ.n→∀ q,(ρ.put σ.n (some p)) i=some q→ρ i=some q:=fun i hi q hq=>by unfold Plc.put at hq;rwa [if_neg (by omega)] at hq
 have bJ:(σ.push (.cells c p.esz false p.tight)).RO:=fun i b hi=>by
  by_cases e:i=σ.n
  ·subst e;rw[Heap.get_push_self] at hi;obtain rfl:=osj hi;rfl
  ·rw[Heap.get_push_ne _ _ e] at hi;exact h.ro i b hi
 refine⟨⟨⟨⟨?_,?_,?_,?_⟩,fun g cs hg=>⟨(h.rel.tab g cs hg).1,fun ⟨i,_,b,_,hi,hw,_⟩=>by rw[bJ i b hi] at hw;cases hw⟩⟩,bJ⟩,⟨by simp,aO,fun i hi=>Heap.get_push_lt _ _ hi⟩⟩
 ·intro i b hi;by_cases aJ:i=σ.n
  ·subst aJ;rw[Heap.get_push_self] at hi;obtain rfl:=osj hi;refine⟨p,by simp[Plc.put],rfl,rfl,hl,⟨C,e,f,hb,hs,ht⟩,fun k v hk=>?_,fun h=>by cases h⟩;obtain⟨u,hu,hv⟩:=hc k v hk;exact⟨u,hu,hv.mono (by simp) aO⟩
  ·rw[Heap.get_push_ne _ _ aJ] at hi;obtain⟨q,hq,hB⟩:=h.rel.live i b hi;exact⟨q,by simp[Plc.put,aJ,hq],hB.mono (by simp) aO rfl⟩
 ·intro i hi;by_cases aJ:i=σ.n
  ·subst aJ;rw[Heap.get_push_self] at hi;cases hi
  ·rw[Heap.get_push_ne _ _ aJ] at hi;simp[Plc.put,aJ,h.rel.dead i hi]
 ·intro i q hq;by_cases aJ:i=σ.n
  ·subst aJ;simp[Plc.put] at hq;subst hq;exact(Array.getElem?_eq_some_iff.1 hb).1
  ·simp[Plc.put,aJ] at hq;exact h.rel.lt i q hq
 ·intro i j q r b _ _ _ bK hw _;rw[bJ i b bK] at hw;cases hw
theorem LZ {P:Program}{fits:TypeId→Bool}{d:Nat}{e:TypeId}{count off n:Nat}(h:rowAt P fits d e count off n=true):off≤count*P.cellsOf e:=by
 cases d with
 |zero=>cases h
 |succ d =>
  unfold rowAt at h;by_cases hs:P.cellsOf e=0
  ·simp[hs] at h
  ·have dp:0<P.cellsOf e:=Nat.pos_of_ne_zero hs;simp only[hs,if_false,Bool.or_eq_true,Bool.and_eq_true,beq_iff_eq,decide_eq_true_eq] at h;have hd:=Nat.div_add_mod off (P.cellsOf e);have hm:=Nat.mod_lt off dp;rcases h with⟨⟨h1,h2⟩,_⟩|⟨h1,_⟩
   ·have:P.cellsOf e*(off / P.cellsOf e)≤P.cellsOf e*count:=Nat.mul_le_mul_left _ (by omega);rw[Nat.mul_comm count];omega
   ·have:P.cellsOf e*(off / P.cellsOf e+1)≤P.cellsOf e*count:=Nat.mul_le_mul_left _ (by omega);rw[Nat.mul_add] at this;rw[Nat.mul_comm count];omega
theorem DT {P:Program}:∀ {d:Nat}{e:TypeId}{count off:Nat}{u:TypeId}{n:Nat},liesAt P d e count off u n=true→off≤count*P.cellsOf e
 |0,_,_,_,_,_,h=>by cases h
 |d+1,e,count,off,u,n,h=>by
  unfold liesAt at h;rw[Bool.or_eq_true] at h;rcases h with h|h
  ·exact LZ h
  ·split at h
   ·exact DT h
   ·cases h
theorem LB {P:Program}{w:World}{r:Reach}{base:Nat}{a:Addr}{e:TypeId}{n:Nat}(h:w.has P r base a e n):∃ C row f,w.heap[a.block]?=some (.cells C row f)∧a.off≤C.size∧a.spot=none:=by
 obtain⟨_,hs,row,cells,dG,hl⟩:=h;unfold World.shape? at dG;split at dG
 ·rename_i C e' f hb;obtain⟨rfl,rfl⟩:=(by simpa using dG:e'=row∧C.size=cells);exact⟨C,e',f,hb,Nat.le_trans (DT hl) (Nat.div_mul_le_self _ _),hs⟩
 ·cases dG
theorem HS {P:Program}{w:World}{r:Reach}{base:Nat}{t e:TypeId}{v:Value}(ht:P.underlying t=some (.slice e)) (h:Cell.okWide P w r base t v) :
  v=.slice none 0 0∨∃ a len cap,v=.slice (some a) len cap∧w.has P r base a e cap:=by
 unfold Cell.okWide at h;rw[ht] at h;have h':Cell.ok P w r base t v:=by split at h<;>first|exact h|simp_all
 unfold Cell.ok at h';rw[ht] at h';split at h'<;>first|exact .inl rfl|(cases h';done)|skip
 all_goals first|(rename_i h1 h2;simp_all;done)|skip
 all_goals first|(simp_all;exact⟨_,_,_,⟨rfl,rfl,rfl⟩,h'.2.2⟩)|(simp_all)
theorem Q2m {k:IntKind}{x:Int}(h:(Lit.int k x).wf=true):k.min≤x∧x≤k.max:=by simpa [Lit.wf] using h
theorem View.calls {P:Program}{f:FuncId}{w:World}{ρ:Plc}{σ:Heap}(h:View w ρ σ) {args:List Value}{ax:Array Value}(hl:LRel ρ σ.n args ax.toList) (hc:VCallsTo P f args σ fun v _=>v=.bool true) :
  Calls P f ax w fun e w'=>e=.returned (.bool true)∧Below w.heap.size w w':=by
 refine (hc ρ w ax h.rel hl).mono fun e w' ⟨c,he,v,ρ',σ',hv,hr,_,hx⟩=>?_;subst hv;have:c=.bool true:=by cases hr;rfl
 subst this;exact⟨he,hx.os,hx.tape,hx.output,hx.size,fun B hB=>hx.keep B hB fun ⟨i,p,b,_,hi,hw,_⟩=>by rw[h.ro i b hi] at hw;cases hw⟩
theorem Uk {H:Type}{enc:TypeId×Value→H}{P:Program}(hl:laidOutB P=true) {W W':World}{sp:Nat→Bool}(hb:Below W.heap.size W W') :
  ∀ {ts:List TypeId}{vs:List Value}{ds:List (DataW H)}{ps:List MemPlace},(∀ t∈ts,P.readableRec t=true∧t<P.types.size)→DataW.TrodAll enc P W 0 (fun _=>true) true ts vs ds ps→(∀ p∈ps,p.block<W.heap.size)→(∀ p∈ps,sp p.block=true) →
   DataW.TrodAll enc P W' 0 sp true ts vs ds ps
 |[],vs,ds,ps,_,h,_,_=>by obtain⟨rfl,rfl,rfl⟩:=trodAll_nil h;rfl
 |t::ts,vs,ds,ps,ht,h,ai,hs=>by
  obtain⟨v,cB,d,ds',p,q,rfl,rfl,rfl,h1,h2⟩:=trodAll_cons h;obtain⟨r1,r2⟩:=ht t (by simp);exact⟨p,q,WideElems.Trod_stays hl r1 r2 h1 (fun x hx=>hb.same (ai x (by simp[hx]))) (fun x hx=>hs x (by simp[hx])),
   Uk hl hb (fun t ly=>ht t (by simp[ly])) h2 (fun x hx=>ai x (by simp[hx])) (fun x hx=>hs x (by simp[hx])),rfl⟩
theorem Lv {H:Type}{enc:TypeId×Value→H}{P:Program}{f:Func}{s:ChangeSpec}{apart fresh handsOn again:Bool}{W W':World}{args:Array Value}{ds gs:List (DataW H)}{before:List MemPlace}{tb:TypeId}
  (hl:laidOutB P=true) (hp:f.params.toList.all (fun t=>P.readableRec t&&decide (t<P.types.size))=true) (jS:s.vars=[]) (hr:f.resultTypes=#[tb]) (bh:P.underlying tb=some .bool) (hs:s.fn H ds={results:=[.lit (.bool true)],args:=ds})
  (hW:DataW.Whole enc P f.params.toList s.vars apart W args.toList ds gs before) (hb:Below W.heap.size W W'):s.post enc P f apart fresh handsOn again W args (.bool true) W':=by
 have ai:∀ p∈before,p.block<W.heap.size:=fun p hp=>hW.lt p hp;have tj:=hW;obtain⟨p,q,hA,hV,rfl,hz,hn⟩:=hW;rw[jS] at hV;obtain⟨rfl,rfl⟩:=trodVars_none hV;have bn:∀ t∈f.params.toList,P.readableRec t=true∧t<P.types.size:=fun t ht=>by have:=List.all_eq_true.1 hp t ht;simpa using this
 have ek:s.fn H (ds++[])={results:=[.lit (.bool true)],args:=ds}:=by rw[List.append_nil];exact hs
 have df:∀ (b:Nat) (sp:Nat→Bool) (hd:Bool),DataW.TrodAll enc P W' b sp hd f.resultTypes.toList ((Value.bool true).resultList f.resultTypes.size) (s.fn H (ds++[])).results []:=fun b sp hd=>by rw[ek,hr];exact trodAll_mk1 (shut_bool bh _)
 have au:∀ sp:Nat→Bool,(∀ x∈p++[],sp x.block=true)→DataW.TrodAll enc P W' 0 sp true f.params.toList args.toList (s.fn H (ds++[])).args p:=fun sp ff=>by rw[ek];exact Uk hl hb bn hA (fun x hx=>ai x (by simp[hx])) (fun x hx=>ff x (by simp[hx]))
 have b_:∀ sp:Nat→Bool,DataW.TrodVars enc P W' sp s.vars (s.fn H (ds++[])).vars []:=fun sp=>by rw[ek,jS];rfl
 have hold:∀ x∈p++[],(fun b=>decide (b<W.heap.size)) x.block=true:=fun x hx=>by simpa using ai x hx
 refine⟨ds,[],p++[],[],p,[],tj,df _ _ _,au _ hold,b_ _,World.keptBut_mono (fun x hx=>⟨hx,?_⟩) (hb.frame (·∈p++[])),fun _=>?_⟩
 ·exact .inr (by simpa using hx)
 ·refine⟨ok_one hr rfl (okWide_bool_mk bh _),_,_,([]++p)++[],⟨[]++p,[],trodAll_append (au _ (fun _ _=>rfl)) (df _ _ _),b_ _,rfl,?_,?_⟩,?_⟩
  ·intro b off hx;have aJ:MemPlace.cell b off∈p++[]:=by simpa using hx
   rw[hb.frozen (ai _ aJ)];exact hz b off aJ
  ·intro ha;simpa using hn ha
  ·intro x hx _;simpa using hx
end Go.V
namespace Go.V
open Go Go.ChangeShapes Go.WideShapes Go.RowKit Go.Deep Go.Joins
def KFs (T:Kind→TypeId→Bool) (sz:TypeId→Nat):Kind→List (TypeId×Nat)→Nat→Bool
 |_,[],_=>false
 |k,[p],off=>p.2==off&&(sz p.1==k.size&&T k p.1)
 |.pair a b,p::q::r,off=>p.2==off&&(sz p.1==a.size&&(T a p.1&&KFs T sz b (q::r) (off+a.size)))
 |_,_::_::_,_=>false
def KTy (P:Program):Nat→Kind→TypeId→Bool
 |0,_,_=>false
 |n+1,k,t=>match P.underlying t with
  |some (.struct fs)=>P.cellsOf t==k.size&&KFs (KTy P n) P.cellsOf k (fs.toList.map fun f=>(f.type,f.offset)) 0
  |some (.array m e)=>P.cellsOf t==k.size&&KFs (KTy P n) P.cellsOf k ((List.range m).map fun i=>(e,i*P.cellsOf e)) 0
  |some (.int ik)=>(match k with|.i k'=>decide (k'=ik)|_=>false)
  |some .bool=>(match k with|.bo=>true|_=>false)
  |some .string=>(match k with|.st=>true|_=>false)
  |some (.slice e)=>(match k with|.list k'=>P.cellsOf e==k'.size&&(k'.flat&&KTy P n k' e)|_=>false)
  |_=>false
def KWf:(k:Kind)→k.T→Prop
 |.i ik,x=>InK ik x
 |.bo,_=>True
 |.st,s=>s.length≤maxLen
 |.list k,l=>l.length≤maxLen∧∀ x∈l,KWf k x
 |.pair a b,x=>KWf a x.1∧KWf b x.2
theorem More.le {ρ ρ':Plc}{σ σ':Heap}(h:More ρ σ ρ' σ'):σ.Le σ':=⟨h.n,fun i b hb=>by rw[h.ag i (σ.lt hb)];exact hb⟩
def ArgIs (w:World) (ρ:Plc) (σ:Heap) (k:Kind) (cs:List Value):Prop :=
 ∃ ρ' σ' vs x,View w ρ' σ'∧More ρ σ ρ' σ'∧LRel ρ' σ'.n vs cs∧KC σ' k x vs∧KWf k x
theorem ArgIs.pair {w:World}{ρ:Plc}{σ:Heap}{a b:Kind}{cs ds:List Value}(h1:ArgIs w ρ σ a cs) (h2:∀ ρ σ,View w ρ σ→ArgIs w ρ σ b ds):ArgIs w ρ σ (.pair a b) (cs++ds):=by obtain⟨ρ1,σ1,ou,x1,k1,k2,k3,k4,k5⟩:=h1;obtain⟨ρ2,σ2,jI,x2,m1,m2,m3,m4,m5⟩:=h2 ρ1 σ1 k1;exact⟨ρ2,σ2,ou++jI,(x1,x2),m1,k2.trans m2,(k3.mono m2.n m2.pl).append m3,⟨ou,jI,rfl,k4.mono m2.le,m4⟩,k5,m5⟩
section
variable {H:Type}{enc:TypeId×Value→H}{P:Program}{w:World}{r:Reach}{base:Nat}
def okc (P:Program) (w:World) (r:Reach) (base:Nat) (ts:List TypeId) (cs:List Value):Prop:=∀ (i:Nat) v u,cs[i]?=some v→ts[i]?=some u→Cell.okWide P w r base u v
theorem TD {T:Kind→TypeId→Bool}{sz:TypeId→Nat}{g:TypeId→Option (List TypeId)}(hT:∀ k t ts,T k t=true→g t=some ts→ts.length=k.size) :
  ∀ {k:Kind}{L:List (TypeId×Nat)}{off:Nat}{gi:List (List TypeId)},KFs T sz k L off=true→L.mapM (fun p=>g p.1)=some gi→gi.flatten.length=k.size
 |k,[],_,_,h,_=>by simp[KFs] at h
 |k,[p],off,gi,h,hm=>by
  simp only[KFs,Bool.and_eq_true] at h;cases hg:g p.1 with
  |none=>simp[hg] at hm
  |some ts =>simp[hg] at hm;subst hm;simpa using hT _ _ _ h.2.2 hg
 |.pair a b,p::q::r,off,gi,h,hm=>by
  simp only[KFs,Bool.and_eq_true] at h;rw[List.mapM_cons] at hm;cases hg:g p.1 with
  |none=>simp[hg] at hm
  |some ts =>
   cases hr:(q::r).mapM (fun p=>g p.1) with
   |none=>simp[hg,hr] at hm
   |some tr =>simp[hg,hr] at hm;subst hm;have:=TD hT h.2.2.2 hr;simp only[List.flatten_cons,List.length_append,this,hT _ _ _ h.2.2.1 hg,Kind.size]
 |.i _,_::_::_,_,_,h,_|.bo,_::_::_,_,_,h,_|.st,_::_::_,_,_,h,_|.list _,_::_::_,_,_,h,_=>by cases h
theorem Ub {α β γ:Type}{f:α→β}{g:β→Option γ}:∀ (l:List α),(l.map f).mapM g=l.mapM (fun x=>g (f x))
 |[]=>rfl
 |a::l=>by simp only[List.map_cons,List.mapM_cons,Ub l]
theorem UD {β:Type}{x:β}{f:Nat→Option β}(h:∀ i,f i=some x):∀ l:List Nat,l.mapM f=some (List.replicate l.length x)
 |[]=>rfl
 |a::l=>by simp[List.mapM_cons,h,UD h l,List.replicate_succ]
theorem Tl:∀ {n:Nat}{k:Kind}{t:TypeId}{d:Nat}{ts:List TypeId},KTy P n k t=true→P.cellTypes d t=some ts→ts.length=k.size
 |0,_,_,_,_,h,_=>by cases h
 |_+1,_,_,0,_,_,h=>by cases h
 |n+1,k,t,d+1,ts,h,ht=>by
  have ih:∀ k t ts,KTy P n k t=true→P.cellTypes d t=some ts→ts.length=k.size:=fun k t ts h1 h2=>Tl h1 h2;unfold Program.cellTypes at ht;unfold KTy at h;cases hu:P.underlying t with
  |none=>rw[hu] at h;cases h
  |some u =>
   rw[hu] at h ht;cases u<;>first|(cases h;done)|skip
   all_goals simp only at h ht
   ·split at h<;>first|(cases h;done)|(obtain rfl:=osj ht;rfl)
   ·split at h<;>first|(cases h;done)|(obtain rfl:=osj ht;rfl)
   ·split at h<;>first|(cases h;done)|(obtain rfl:=osj ht;rfl)
   ·split at h<;>first|(cases h;done)|(obtain rfl:=osj ht;rfl)
   ·rename_i m e;rw[Bool.and_eq_true] at h;cases hc:P.cellTypes d e with
    |none=>rw[hc] at ht;cases ht
    |some te =>rw[hc] at ht;obtain rfl:=osj ht;refine TD (g:=fun t=>P.cellTypes d t) ih h.2 ?_;rw[Ub,UD (x:=te) (fun _=>hc)];simp
   ·rename_i fs;rw[Bool.and_eq_true] at h;cases hc:fs.toList.mapM fun f=>P.cellTypes d f.type with
    |none=>rw[hc] at ht;cases ht
    |some gi =>rw[hc] at ht;obtain rfl:=osj ht;refine TD (g:=fun t=>P.cellTypes d t) ih h.2 ?_;rw[Ub];exact hc
theorem U7 {T:Kind→TypeId→Bool}{sz:TypeId→Nat}{Q:TypeId→List Value→Prop}{R:Kind→List Value→Prop}(hT:∀ k t cs,T k t=true→Q t cs→R k cs) (hR:∀ a b cs ds,R a cs→R b ds→R (.pair a b) (cs++ds)) (cs:List Value) :
  ∀ {k:Kind}{L:List (TypeId×Nat)}{off:Nat},KFs T sz k L off=true→(∀ p∈L,Q p.1 ((cs.drop p.2).take (sz p.1)))→R k ((cs.drop off).take k.size)
 |k,[],_,h,_=>by simp[KFs] at h
 |k,[p],off,h,hq=>by simp only[KFs,Bool.and_eq_true,beq_iff_eq] at h;have:=hq p (by simp);rw[h.1,h.2.1] at this;exact hT _ _ _ h.2.2 this
 |.pair a b,p::q::r,off,h,hq=>by
  simp only[KFs,Bool.and_eq_true,beq_iff_eq] at h;have h1:=hq p (by simp);rw[h.1,h.2.1] at h1;have h2:=U7 hT hR cs h.2.2.2 fun x hx=>hq x (List.mem_cons_of_mem _ hx);have e:(cs.drop off).take (Kind.pair a b).size=(cs.drop off).take a.size++(cs.drop (off+a.size)).take b.size:=by rw[Kind.size,List.take_add,List.drop_drop]
  rw[e];exact hR _ _ _ _ (hT _ _ _ h.2.2.1 h1) h2
 |.i _,_::_::_,_,h,_|.bo,_::_::_,_,h,_|.st,_::_::_,_,h,_|.list _,_::_::_,_,h,_=>by cases h
def FlatIs (k:Kind) (cs:List Value):Prop:=∃ y:k.T,(∀ h,KC h k y cs)∧KWf k y∧∀ ρ m,LRel ρ m cs cs
theorem FlatIs.pair {a b:Kind}{cs ds:List Value}(h1:FlatIs a cs) (h2:FlatIs b ds):FlatIs (.pair a b) (cs++ds):=by obtain⟨x,k1,k2,k3⟩:=h1;obtain⟨y,m1,m2,m3⟩:=h2;exact⟨(x,y),fun h=>⟨cs,ds,rfl,k1 h,m1 h⟩,⟨k2,m2⟩,fun ρ m=>(k3 ρ m).append (m3 ρ m)⟩
theorem LRel.one {ρ:Plc}{n:Nat}{v c:Value}(h:VRel ρ n v c):LRel ρ n [v] [c]:=.cons h (.nil _ _)
theorem Ul {fs:Array Field}{f:Field}(h:f∈fs.toList):∃ i:Nat,fs[i]?=some f:=by obtain⟨i,hi,rfl⟩:=List.mem_iff_getElem.1 h;exact⟨i,by simp at hi;simp[hi]⟩
theorem Bk {sp:Nat→Bool}{held:Bool}:∀ {n:Nat}{k:Kind}{t:TypeId}{fuel:Nat}{cs:List Value}{x:DataW H×List MemPlace},KTy P n k t=true→k.flat=true→DataW.trod enc P w base sp held fuel t cs=some x→FlatIs k cs
 |0,_,_,_,_,_,h,_,_=>by cases h
 |n+1,k,t,fuel,cs,x,h,hf,hx=>by
  unfold KTy at h;cases hu:P.underlying t with
  |none=>rw[hu] at h;cases h
  |some u =>
   rw[hu] at h;have hR:∀ a b cs ds,((a.flat=true→FlatIs a cs)∧True)→((b.flat=true→FlatIs b ds)∧True)→(((Kind.pair a b).flat=true→FlatIs (.pair a b) (cs++ds))∧True):=fun a b cs ds h1 h2=>⟨fun hf=>by
    simp only[Kind.flat,Bool.and_eq_true] at hf;exact(h1.1 hf.1).pair (h2.1 hf.2),trivial⟩
   have hT:∀ k t cs,KTy P n k t=true→(∃ fuel x,DataW.trod enc P w base sp held fuel t cs=some x)→((k.flat=true→FlatIs k cs)∧True):=fun k t cs h1 ⟨fuel,x,h2⟩=>⟨fun hf=>Bk h1 hf h2,trivial⟩;cases u<;>first|(cases h;done)|skip
   all_goals simp only at h
   ·split at h<;>first|(cases h;done)|skip
    obtain⟨b,rfl,_⟩:=DataW.trod_bool hu hx;exact⟨b,fun _=>rfl,trivial,fun _ _=>.one (.bool _)⟩
   ·split at h<;>first|(cases h;done)|skip
    obtain rfl:=of_decide_eq_true h;obtain⟨z,rfl,_,hw⟩:=DataW.trod_int hu hx;exact⟨z,fun _=>rfl,Q2m hw,fun _ _=>.one (.int _ _)⟩
   ·split at h<;>first|(cases h;done)|skip
    obtain⟨s,rfl,_,hs⟩:=DataW.trod_string hu hx;exact⟨s.data.toList,fun _=>rfl,hs,fun _ _=>.one (.string _)⟩
   ·split at h<;>first|(cases h;done)|(cases hf;done)
   ·rename_i m e;simp only[Bool.and_eq_true,beq_iff_eq] at h;obtain⟨xs,m',_,_,hl,hZ,hx⟩:=DataW.trod_array hu hx;have:=(U7 (R:=fun k cs=>(k.flat=true→FlatIs k cs)∧True) hT hR cs h.2 fun p hp=>by
     simp only[List.mem_map,List.mem_range] at hp;obtain⟨i,hi,rfl⟩:=hp;have:=hx i hi;rw[List.getElem?_eq_getElem (by omega)] at this;exact⟨_,_,this⟩).1 hf
    rwa [List.drop_zero,List.take_of_length_le (by omega)] at this
   ·rename_i fs;simp only[Bool.and_eq_true,beq_iff_eq] at h;obtain⟨xs,m',_,_,hl,hZ,hx⟩:=DataW.trod_struct hu hx;have:=(U7 (R:=fun k cs=>(k.flat=true→FlatIs k cs)∧True) hT hR cs h.2 fun p hp=>by
     simp only[List.mem_map] at hp;obtain⟨f,kA,rfl⟩:=hp;obtain⟨i,hi⟩:=Ul kA;have:=hx i f hi;have gy:i<fs.size:=(Array.getElem?_eq_some_iff.1 hi).1;rw[List.getElem?_eq_getElem (by omega)] at this;exact⟨_,_,this⟩).1 hf
    rwa [List.drop_zero,List.take_of_length_le (by omega)] at this
theorem Rows.range {α:Type}{R:α→List Value→Prop}{n:Nat}{c:List Value}{x:Nat→α}:∀ (m:Nat),(∀ i,i<m→R (x i) ((c.drop (i*n)).take n))→Rows R ((List.range m).map x) (c.take (m*n))
 |0,_=>by simp;exact .nil
 |m+1,h=>by
  have e:c.take ((m+1)*n)=c.take (m*n)++(c.drop (m*n)).take n:=by rw[Nat.add_mul,Nat.one_mul,List.take_add]
  rw[List.range_succ,List.map_append,e];exact(Rows.range m fun i hi=>h i (by omega)).append (by simpa using Rows.cons (h m (by omega)) .nil)
theorem P3 {α:Type}[Inhabited α] {m:Nat}{p:Nat→α→Prop}(h:∀ i,i<m→∃ x,p i x):∃ f:Nat→α,∀ i,i<m→p i (f i) :=
 ⟨fun i=>if hi:i<m then (h i hi).choose else default,fun i hi=>by simp only[hi,dif_pos];exact(h i hi).choose_spec⟩
instance KInh (k:Kind):Inhabited k.T:=⟨k.dflt⟩
theorem View.list {ρ:Plc}{σ:Heap}(h:View w ρ σ) {n:Nat}{k:Kind}{t e:TypeId}{fuel:Nat}{cs:List Value}{x:DataW H×List MemPlace}(hu:P.underlying t=some (.slice e)) (hs:P.cellsOf e=k.size) (hf:k.flat=true) (hk:KTy P n k e=true)
  (hx:DataW.trod enc P w 0 (fun _=>true) true fuel t cs=some x) (ah:okc P w r base [t] cs):ArgIs w ρ σ (.list k) cs:=by
 rcases open_slice hu hx with⟨rfl,_⟩|⟨a,len,cap,m,fu,D,Pl,rfl,hb,hl,hm,gG,_,hel⟩
 ·exact⟨ρ,σ,[.slice none 0 0],[],h,More.refl _ _,.one .nilSl,⟨_,rfl,.inl ⟨rfl,rfl⟩⟩,by simp[maxLen],fun _ hx=>by cases hx⟩
 simp only[if_true] at gG;subst gG;rw[hs] at hel;have pS:w.has P r base a e m:=by
  rcases HS hu (ah 0 _ t rfl rfl) with hh|⟨a',tk,al,hh,h2⟩
  ·cases hh
  ·cases hh;exact h2
 obtain⟨C,row,f,aG,a9,ff⟩:=LB pS;obtain⟨blk,off,spot⟩:=a;simp only at aG a9 ff;subst ff;have kg:∀ i,(⟨blk,off,none⟩:Addr).add i=⟨blk,off+i,none⟩:=fun i=>by unfold Addr.add;split<;>simp_all
 obtain⟨X,hX⟩:=P3 (α:=k.T×List Value) (m:=m) (p:=fun i p=>p.2.length=k.size∧(∀ j,j<k.size→w.cell? ⟨blk,off+i*k.size+j,none⟩=p.2[j]?)∧(∀ h,KC h k p.1 p.2)∧KWf k p.1∧∀ ρ m,LRel ρ m p.2 p.2) fun i hi=>by
  obtain⟨cs',h1,h2⟩:=hel i hi;obtain⟨_,k1,k2⟩:=World.cells?_some h1;obtain⟨y,m1,m2,m3⟩:=Bk hk hf h2;refine⟨(y,cs'),k1,fun j hj=>?_,m1,m2,m3⟩;have:=k2 j hj;rw[kg] at this;have e2:(⟨blk,off+i*k.size,none⟩:Addr).add j=⟨blk,off+i*k.size+j,none⟩:=by unfold Addr.add;split<;>simp_all
  rw[e2] at this;exact this
 have dp:=k.size_pos;let c:List Value:=(List.range (m*k.size)).map fun j=>((X (j / k.size)).2[j % k.size]?).getD undef;have cm:c.length=m*k.size:=by simp[c]
 have hdiv:∀ j,j<m*k.size→j / k.size<m:=fun j hj=>Nat.div_lt_of_lt_mul (by rw[Nat.mul_comm];exact hj);have aY:∀ j,j<m*k.size→∃ v,c[j]?=some v∧w.cell? ⟨blk,off+j,none⟩=some v∧∀ ρ m,VRel ρ m v v:=fun j hj=>by
  have h1:=hX (j / k.size) (hdiv j hj);have ft:j % k.size<k.size:=Nat.mod_lt _ dp;have h2:=h1.2.1 _ ft;have e:off+j / k.size*k.size+j % k.size=off+j:=by rw[Nat.add_assoc,Nat.div_add_mod']
  rw[e] at h2;have h3:j % k.size<(X (j / k.size)).2.length:=by rw[h1.1];exact ft
  refine⟨(X (j / k.size)).2[j % k.size],?_,?_,fun ρ m=>(h1.2.2.2.2 ρ m).2 _ _ _ (List.getElem?_eq_getElem h3) (List.getElem?_eq_getElem h3)⟩
  ·simp only[c,List.getElem?_map,List.getElem?_range hj,Option.map_some,List.getElem?_eq_getElem h3,Option.getD_some]
  ·rw[h2,List.getElem?_eq_getElem h3]
 have pT:∀ i,i<m→(c.drop (i*k.size)).take k.size=(X i).2:=fun i hi=>by
  have h1:=hX i hi;have hle:i*k.size+k.size≤m*k.size:=by have:(i+1)*k.size≤m*k.size:=Nat.mul_le_mul_right _ hi;rw[Nat.add_mul] at this;omega
  apply List.ext_getElem?;intro j;by_cases hj:j<k.size
  ·rw[List.getElem?_take_of_lt hj,List.getElem?_drop];have eH:i*k.size+j<m*k.size:=by omega
   have e1:(i*k.size+j) / k.size=i:=by rw[Nat.mul_comm,Nat.mul_add_div dp,Nat.div_eq_of_lt hj,Nat.add_zero]
   have e2:(i*k.size+j) % k.size=j:=by rw[Nat.mul_comm,Nat.mul_add_mod,Nat.mod_eq_of_lt hj]
   have h3:j<(X i).2.length:=by rw[h1.1];exact hj
   simp only[c,List.getElem?_map,List.getElem?_range eH,Option.map_some,e1,e2,List.getElem?_eq_getElem h3,Option.getD_some]
  ·rw[List.getElem?_eq_none (by simp;omega),List.getElem?_eq_none (by omega)]
 have aA:off+m*k.size≤C.size:=by
  rcases Nat.eq_zero_or_pos (m*k.size) with h0|h0
  ·omega
  ·obtain⟨v,_,h2,_⟩:=aY (m*k.size-1) (by omega);unfold World.cell? at h2;simp only[aG] at h2;have:=(Array.getElem?_eq_some_iff.1 (by simpa using h2)).1;omega
 obtain⟨hv,tm⟩:=h.add ⟨blk,off,m*k.size,⟨k.size,row⟩,false⟩ c aG aA (by simp[cm]) rfl (fun j v hj=>by
  have cr:j<m*k.size:=by rw[←cm];exact(List.getElem?_eq_some_iff.1 hj).1
  obtain⟨v',h1,h2,h3⟩:=aY j cr;obtain rfl:=osj (hj.symm.trans h1);exact⟨v,h2,h3 _ _⟩)
 have hlen:((List.range len).map fun i=>(X i).1).length=len:=by simp
 refine⟨_,_,[.slice (some ⟨σ.n,0,none⟩) len m],(List.range len).map fun i=>(X i).1,hv,tm,.one ?_,⟨_,rfl,.inr ⟨σ.n,0,m,c,⟨k.size,row⟩,false,false,by rw[hlen],by rw[hlen];exact hl,Heap.get_push_self _ _,rfl,?_,?_⟩⟩,?_,fun y hy=>?_⟩
 ·refine .sl _ _ _ _ _ _ (by simp) fun p hp=>?_;simp[Plc.put] at hp;subst hp;exact⟨Nat.le_refl _,(fun h=>by cases h),0,by simp,by simp,.inl rfl⟩
 ·rw[hlen,cm,Nat.zero_add];exact Nat.mul_le_mul_right _ hl
 ·rw[hlen,List.drop_zero];refine Rows.range len fun i hi=>?_;rw[pT i (by omega)];exact(hX i (by omega)).2.2.1 _
 ·rw[hlen];exact Nat.le_trans hl hm
 ·obtain⟨i,hi,rfl⟩:=List.mem_map.1 hy;exact(hX i (by have:=List.mem_range.1 hi;omega)).2.2.2.1
def Kind.lev1:Kind→Bool
 |.list k=>k.flat
 |.pair a b=>a.lev1&&b.lev1
 |_=>true
theorem Rm {ts:List TypeId}{cs:List Value}(h:okc P w r base ts cs) (o n:Nat):okc P w r base ((ts.drop o).take n) ((cs.drop o).take n):=fun i v u h1 h2=>by
 have hi:i<n:=by have:=(List.getElem?_eq_some_iff.1 h1).1;rw[List.length_take] at this;omega
 rw[List.getElem?_take_of_lt hi,List.getElem?_drop] at h1 h2;exact h _ v u h1 h2
theorem M_ {T:Kind→TypeId→Bool}{sz:TypeId→Nat}{g:TypeId→Option (List TypeId)}(hT:∀ k t ts,T k t=true→g t=some ts→ts.length=k.size) :
  ∀ {k:Kind}{L:List (TypeId×Nat)}{off:Nat}{gi:List (List TypeId)},KFs T sz k L off=true→L.mapM (fun p=>g p.1)=some gi→∀ p∈L,off≤p.2∧g p.1=some ((gi.flatten.drop (p.2-off)).take (sz p.1))
 |k,[],_,_,h,_=>by simp[KFs] at h
 |k,[p],off,gi,h,hm=>by
  simp only[KFs,Bool.and_eq_true,beq_iff_eq] at h;intro p' hp;obtain rfl:=List.mem_singleton.1 hp;cases hg:g p'.1 with
  |none=>simp[hg] at hm
  |some ts =>
   simp[hg] at hm;subst hm;refine⟨by omega,?_⟩;rw[h.1,Nat.sub_self,List.drop_zero,h.2.1,List.take_of_length_le]
   ·simp
   ·simp[hT _ _ _ h.2.2 hg]
 |.pair a b,p::q::r,off,gi,h,hm=>by
  simp only[KFs,Bool.and_eq_true,beq_iff_eq] at h;rw[List.mapM_cons] at hm;intro p' hp;cases hg:g p.1 with
  |none=>simp[hg] at hm
  |some ts =>
   cases hr:(q::r).mapM (fun p=>g p.1) with
   |none=>simp[hg,hr] at hm
   |some tr =>
    simp[hg,hr] at hm;subst hm;have hlen:=hT _ _ _ h.2.2.1 hg;rcases List.mem_cons.1 hp with rfl|hp
    ·refine⟨by omega,?_⟩;rw[hg,h.1,Nat.sub_self,List.drop_zero,h.2.1,List.flatten_cons,List.take_append,←hlen,Nat.sub_self,List.take_zero,List.append_nil,List.take_length]
    ·obtain⟨h1,h2⟩:=M_ hT h.2.2.2 hr p' hp;refine⟨by omega,?_⟩;have e1:ts.drop (p'.2-off)=[]:=List.drop_eq_nil_of_le (by omega);have e2:p'.2-off-a.size=p'.2-(off+a.size):=by omega
     rw[h2,List.flatten_cons,List.drop_append,hlen,e1,e2,List.nil_append]
 |.i _,_::_::_,_,_,h,_|.bo,_::_::_,_,_,h,_|.st,_::_::_,_,_,h,_|.list _,_::_::_,_,_,h,_=>by cases h
theorem Hk:∀ {n:Nat}{k:Kind}{t:TypeId}{d:Nat}{ts:List TypeId}{fuel:Nat}{cs:List Value}{x:DataW H×List MemPlace},KTy P n k t=true→k.lev1=true→P.cellTypes d t=some ts→okc P w r base ts cs→DataW.trod enc P w 0 (fun _=>true) true fuel t cs=some x→∀ ρ σ,View w ρ σ→ArgIs w ρ σ k cs
 |0,_,_,_,_,_,_,_,h,_,_,_,_=>by cases h
 |_+1,_,_,0,_,_,_,_,_,_,h,_,_=>by cases h
 |n+1,k,t,d+1,ts,fuel,cs,x,h,hf,ew,ah,hx=>by
  intro ρ σ hv;by_cases bV:k.flat=true
  ·obtain⟨y,h1,h2,h3⟩:=Bk h bV hx;exact⟨ρ,σ,cs,y,hv,More.refl _ _,h3 _ _,h1 _,h2⟩
  unfold KTy at h;cases hu:P.underlying t with
  |none=>rw[hu] at h;cases h
  |some u =>
   rw[hu] at h;let Q:TypeId→List Value→Prop:=fun t cs=>(∃ fuel x,DataW.trod enc P w 0 (fun _=>true) true fuel t cs=some x)∧∃ ts,P.cellTypes d t=some ts∧okc P w r base ts cs;let R:Kind→List Value→Prop:=fun k cs=>k.lev1=true→∀ ρ σ,View w ρ σ→ArgIs w ρ σ k cs;have hR:∀ a b cs ds,R a cs→R b ds→R (.pair a b) (cs++ds):=fun a b cs ds h1 h2 hl ρ σ hv=>by simp only[Kind.lev1,Bool.and_eq_true] at hl;exact(h1 hl.1 ρ σ hv).pair fun ρ σ hv=>h2 hl.2 ρ σ hv
   have hT:∀ k t cs,KTy P n k t=true→Q t cs→R k cs:=fun k t cs h1 ⟨⟨fuel,x,h2⟩,ts,h3,h4⟩ hl=>Hk h1 hl h3 h4 h2;have hlen:∀ k t ts,KTy P n k t=true→P.cellTypes d t=some ts→ts.length=k.size:=fun k t ts h1 h2=>Tl h1 h2;unfold Program.cellTypes at ew;rw[hu] at ew;cases u<;>first|(cases h;done)|skip
   all_goals simp only at h
   ·split at h<;>first|(cases h;done)|(exact absurd rfl bV)
   ·split at h<;>first|(cases h;done)|(exact absurd rfl bV)
   ·split at h<;>first|(cases h;done)|(exact absurd rfl bV)
   ·rename_i e;split at h<;>first|(cases h;done)|skip
    simp only[Bool.and_eq_true,beq_iff_eq] at h;simp only[Option.some.injEq] at ew;subst ew;exact hv.list hu h.1 h.2.1 h.2.2 hx ah
   ·rename_i m e;simp only[Bool.and_eq_true,beq_iff_eq] at h;obtain⟨xs,m',_,_,hl,hZ,hx⟩:=DataW.trod_array hu hx;simp only at ew;cases hc:P.cellTypes d e with
    |none=>rw[hc] at ew;cases ew
    |some te =>
     rw[hc] at ew;obtain rfl:=osj ew;have mH:((List.range m).map fun i=>(e,i*P.cellsOf e)).mapM (fun p:TypeId×Nat=>P.cellTypes d p.1)=some (List.replicate m te):=by rw[Ub,UD (x:=te) (fun _=>hc)];simp
     have:=U7 (Q:=Q) (R:=R) hT hR cs h.2 (fun p hp=>by
      have h_:=M_ (g:=fun t=>P.cellTypes d t) hlen h.2 mH p hp;simp only[List.mem_map,List.mem_range] at hp;obtain⟨i,hi,rfl⟩:=hp;have:=hx i hi;rw[List.getElem?_eq_getElem (by omega)] at this;exact⟨⟨_,_,this⟩,_,h_.2,Rm ah _ _⟩) hf ρ σ hv
     rwa [List.drop_zero,List.take_of_length_le (by omega)] at this
   ·rename_i fs;simp only[Bool.and_eq_true,beq_iff_eq] at h;obtain⟨xs,m',_,_,hl,hZ,hx⟩:=DataW.trod_struct hu hx;simp only at ew;cases hc:fs.toList.mapM fun f=>P.cellTypes d f.type with
    |none=>rw[hc] at ew;cases ew
    |some gi =>
     rw[hc] at ew;obtain rfl:=osj ew;have mH:(fs.toList.map fun f=>(f.type,f.offset)).mapM (fun p:TypeId×Nat=>P.cellTypes d p.1)=some gi:=by rw[Ub];exact hc
     have:=U7 (Q:=Q) (R:=R) hT hR cs h.2 (fun p hp=>by
      have h_:=M_ (g:=fun t=>P.cellTypes d t) hlen h.2 mH p hp;simp only[List.mem_map] at hp;obtain⟨f,kA,rfl⟩:=hp;obtain⟨i,hi⟩:=Ul kA;have:=hx i f hi;have gy:i<fs.size:=(Array.getElem?_eq_some_iff.1 hi).1;rw[List.getElem?_eq_getElem (by omega)] at this;exact⟨⟨_,_,this⟩,_,h_.2,Rm ah _ _⟩) hf ρ σ hv
     rwa [List.drop_zero,List.take_of_length_le (by omega)] at this
def isAgg (P:Program) (t:TypeId):Bool:=match P.underlying t with
 |some (.struct _)=>true
 |some (.array _ _)=>true
 |_=>false
theorem View.arg {ρ:Plc}{σ:Heap}(h:View w ρ σ) {n:Nat}{k:Kind}{t:TypeId}{v:Value}{d:DataW H}{p:List MemPlace}(hk:KTy P n k t=true) (hl:k.lev1=true) (ha:isAgg P t=!k.one) (ah:Value.okWide P w r base t v) (hd:DataW.Trod enc P w 0 (fun _=>true) true t v d p) :
  ∃ ρ' σ' vv x,View w ρ' σ'∧More ρ σ ρ' σ'∧VRel ρ' σ'.n vv v∧KV σ' k x vv∧KWf k x:=by
 obtain⟨fuel,hd⟩:=hd;by_cases dK:isAgg P t=true
 ·have bH:k.one=false:=by rw[dK] at ha;simpa using ha.symm
  have:∃ cs,v=.agg cs∧cs.size=P.cellsOf t∧Row.okWide P w r base t cs:=by
   unfold isAgg at dK;unfold Value.okWide at ah;split at dK<;>first|(cases dK;done)|skip
   ·rename_i hu;rw[hu] at ah;exact ah
   ·rename_i hu;rw[hu] at ah;exact ah
  obtain⟨cs,rfl,aA,ts,ew,_,bQ⟩:=this;have hlen:=Tl hk ew;have av:P.cellsOf t=k.size:=by
   unfold isAgg at dK;cases n with
   |zero=>cases hk
   |succ n =>
    unfold KTy at hk;split at dK<;>first|(cases dK;done)|skip
    all_goals
     rename_i hu;rw[hu] at hk;simp only[Bool.and_eq_true,beq_iff_eq] at hk;exact hk.1
  have ll:okc P w r base ts cs.toList:=fun i v u h1 h2=>by have hi:i<ts.length:=(List.getElem?_eq_some_iff.1 h2).1;obtain⟨u',h3,h4⟩:=bQ i v (by simpa using h1);rw[Nat.mod_eq_of_lt hi] at h3;obtain rfl:=osj (h2.symm.trans h3);exact h4
  obtain⟨ρ',σ',vs,x,k1,k2,k3,k4,k5⟩:=Hk hk hl ew ll (show DataW.trod enc P w 0 _ true fuel t cs.toList=_ from hd) ρ σ h;exact⟨ρ',σ',.agg vs.toArray,x,k1,k2,VRel.agg_of (ds:=cs.toList) k3,.inr ⟨bH,vs,rfl,k4⟩,k5⟩
 ·have bH:k.one=true:=by
   have:isAgg P t=false:=by simpa using dK
   rw[this] at ha;simpa using ha.symm
  have gV:=Kind.one_size bH;have aY:Cell.okWide P w r base t v∧v.cells.toList=[v]:=by
   have h1:isAgg P t=false:=by simpa using dK
   unfold isAgg at h1;have h2:Cell.okWide P w r base t v:=by
    unfold Value.okWide at ah;split at ah
    ·rename_i hu;rw[hu] at h1;cases h1
    ·rename_i hu;rw[hu] at h1;cases h1
    ·exact ah
   refine⟨h2,?_⟩;cases v<;>first|rfl|skip
   all_goals
    exfalso;cases n with
    |zero=>cases hk
    |succ n =>
     unfold KTy at hk;unfold Cell.okWide Cell.ok at h2;cases hu:P.underlying t with
     |none=>rw[hu] at hk;cases hk
     |some u =>rw[hu] at hk h2 h1;cases u<;>first|(cases hk;done)|(cases h1;done)|(cases h2;done)|(simp at h2;done)
  have ew:P.cellTypes 1 t=some [t]:=by
   have h1:isAgg P t=false:=by simpa using dK
   unfold isAgg at h1;unfold Program.cellTypes;cases n with
   |zero=>cases hk
   |succ n =>
    unfold KTy at hk;cases hu:P.underlying t with
    |none=>rw[hu] at hk;cases hk
    |some u =>rw[hu] at h1;cases u<;>first|rfl|(cases h1;done)
  rw[aY.2] at hd;have ll:okc P w r base [t] [v]:=fun i v' u h1 h2=>by
   cases i with
   |zero=>cases h1;cases h2;exact aY.1
   |succ i=>simp at h1
  obtain⟨ρ',σ',vs,x,k1,k2,k3,k4,k5⟩:=Hk hk hl ew ll hd ρ σ h;have:vs.length=1:=by rw[KC.length k4];exact gV
  obtain⟨vv,rfl⟩:=List.length_eq_one_iff.1 this;exact⟨ρ',σ',vv,x,k1,k2,k3.2 0 _ _ rfl rfl,.inl ⟨bH,k4⟩,k5⟩
def AWf:(ks:List Kind)→AT ks→Prop
 |[],_=>True
 |[k],x=>KWf k x
 |k::k'::ks,x=>KWf k x.1∧AWf (k'::ks) x.2
def Ox (P:Program):List Kind→List TypeId→Bool
 |[],[]=>true
 |k::ks,t::ts=>(KTy P 8 k t&&(k.lev1&&(isAgg P t==!k.one)))&&Ox P ks ts
 |_,_=>false
theorem View.args:∀ {ks:List Kind}{ts:List TypeId}{vs:List Value}{ds:List (DataW H)}{ps:List MemPlace}{ρ:Plc}{σ:Heap},View w ρ σ→Ox P ks ts=true→(∀ (j:Nat) t v,ts[j]?=some t→vs[j]?=some v→Value.okWide P w r base t v)→DataW.TrodAll enc P w 0 (fun _=>true) true ts vs ds ps →
  ∃ ρ' σ' lT x,View w ρ' σ'∧More ρ σ ρ' σ'∧LRel ρ' σ'.n lT vs∧Dq σ' ks x lT∧AWf ks x
 |[],[],vs,ds,ps,ρ,σ,h,_,_,hA=>by obtain⟨rfl,rfl,rfl⟩:=trodAll_nil hA;exact⟨ρ,σ,[],(),h,More.refl _ _,.nil _ _,rfl,trivial⟩
 |[k],[t],vs,ds,ps,ρ,σ,h,hk,hv,hA=>by obtain⟨v,cB,d,ds',p,q,rfl,rfl,rfl,h1,h2⟩:=trodAll_cons hA;obtain⟨rfl,rfl,rfl⟩:=trodAll_nil h2;simp only[Ox,Bool.and_eq_true,beq_iff_eq] at hk;obtain⟨ρ',σ',vv,x,k1,k2,k3,k4,k5⟩:=h.arg hk.1.1 hk.1.2.1 hk.1.2.2 (hv 0 t v rfl rfl) h1;exact⟨ρ',σ',[vv],x,k1,k2,.one k3,⟨vv,rfl,k4⟩,k5⟩
 |k::k'::ks,t::ts,vs,ds,ps,ρ,σ,h,hk,hv,hA=>by obtain⟨v,cB,d,ds',p,q,rfl,rfl,rfl,h1,h2⟩:=trodAll_cons hA;simp only[Ox,Bool.and_eq_true,beq_iff_eq] at hk;obtain⟨ρ1,σ1,vv,x,k1,k2,k3,k4,k5⟩:=h.arg hk.1.1 hk.1.2.1 hk.1.2.2 (hv 0 t v rfl rfl) h1;obtain⟨ρ2,σ2,lT,y,m1,m2,m3,m4,m5⟩:=k1.args (ks:=k'::ks) hk.2 (fun j t v h1 h2=>hv (j+1) t v h1 h2) h2;exact⟨ρ2,σ2,vv::lT,(x,y),m1,k2.trans m2,.cons (k3.mono m2.n m2.pl) m3,⟨vv,lT,rfl,k4.vcall m2.le,m4⟩,k5,m5⟩
 |[],_::_,_,_,_,_,_,_,hk,_,_|_::_,[],_,_,_,_,_,_,hk,_,_|[_],_::_::_,_,_,_,_,_,_,hk,_,_=>by simp[Ox] at hk
theorem C6 (hT:Q3b w) {f:Nat}{sp:CSp}(ff:OkC P f sp) (he:Jg P f) {ks:List Kind}{ts:List TypeId}{args:Array Value}{ds:List (DataW H)}{ps:List MemPlace}(hk:Ox P ks ts=true)
  (hv:∀ (j:Nat) t v,ts[j]?=some t→args.toList[j]?=some v→Value.okWide P w r base t v) (hA:DataW.TrodAll enc P w 0 (fun _=>true) true ts args.toList ds ps)
  (hs:∀ x:AT ks,AWf ks x→∃ c,sp (fun _ _=>none) (BO ks x)=some (c,.val .bo true,[])∧c):Calls P f args w fun e w'=>e=.returned (.bool true)∧Below w.heap.size w w':=by
 obtain⟨ρ,σ,lT,x,k1,k2,k3,k4,k5⟩:=(View.emptyT w hT).args hk hv hA;obtain⟨c,h1,h2⟩:=hs x k5;exact k1.calls k3 (ff.true he (Vz k4) h1 h2)
end
end Go.V
namespace Go.V
open Go
theorem Gf {H:Type}{enc:TypeId×Value→H}{P:Program}{w:World}{b:Nat}{sp:Nat→Bool}{hd:Bool}:∀ {ts:List TypeId}{vs:List Value}{ds:List (DataW H)}{ps:List MemPlace},DataW.TrodAll enc P w b sp hd ts vs ds ps→ds.length=ts.length
 |[],[],[],_,_=>rfl
 |t::ts,v::vs,d::ds,ps,h=>by obtain⟨p,q,_,h2,_⟩:=h;simp[Gf h2]
 |[],[],_::_,_,h|[],_::_,_,_,h|_::_,[],_,_,h|_::_,_::_,[],_,h=>h.elim
end Go.V
namespace Go.Proofs.Tryz
open Go Go.V
noncomputable def Q5s:List (Option FEnt):=[
 none,
 none,
 some (.code c2 [] 1),
 some (.code c3 [.tmp 4] 236),
 some (.code c4 [.tmp 6] 80),
 some (.code c5 [.tmp 4] 82),
 some (.code c6 [.tmp 4] 204),
 some (.code c7 [.tmp 4] 280),
 some (.code c8 [.tmp 6] 337),
 some (.code c9 [.tmp 4] 271),
 some (.code c10 [.tmp 6] 184),
 some (.code c11 [.tmp 4] 14),
 some (.code c12 [.tmp 4] 18),
 some (.code c13 [.tmp 0] 193),
 some (.code c14 [.tmp 2] 6),
 some (.codeJ c15 [.tmp 4,.tmp 5] 15),
 some (.codeJ c16 [.tmp 4,.tmp 5] 18),
 some (.code c17 [.tmp 4] 26),
 some (.code c18 [.tmp 8] 65),
 some (.code c19 [.tmp 4] 29),
 some (.code c20 [.tmp 6] 15),
 some (.code c21 [.tmp 6] 33),
 some (.code c22 [.tmp 6] 31),
 some (.code c23 [.tmp 2] 11),
 some (.codeJ c24 [.tmp 6,.tmp 7] 29),
 some (.code c25 [.tmp 6,.tmp 7] 77),
 some (.code c26 [.tmp 4] 26),
 some (.codeJ c27 [.tmp 4,.tmp 5,.tmp 6] 73),
 some (.code c28 [.tmp 8,.tmp 9] 65),
 some (.code c29 [.tmp 6] 41),
 some (.code c30 [.tmp 2] 32),
 some (.code c31 [.tmp 2] 6),
 some (.codeJ c32 [.cell 6 true 2,.tmp 7,.tmp 8] 37),
 some (.codeJ c33 [.cell 8 true 2,.tmp 9] 103),
 some (.code c34 [.tmp 10,.tmp 11] 83),
 some (.code c35 [.cell 2 true 2] 22),
 some (.code c36 [.tmp 2] 51),
 some (.code c37 [.tmp 4] 39),
 some (.code c38 [.tmp 6] 24),
 some (.codeJ c39 [.cell 4 true 2,.tmp 5] 52),
 some (.code c40 [.tmp 2] 6),
 some (.code c41 [.tmp 2] 6),
 some (.code c42 [.tmp 6,.tmp 7,.tmp 8] 61),
 some (.code c43 [.tmp 2] 44),
 some (.code c44 [.tmp 8] 59),
 some (.code c45 [.tmp 0] 10),
 some (.code c46 [.tmp 2] 9),
 some (.codeJ c47 [.tmp 4,.tmp 5] 23),
 some (.code c48 [.cell 4 true 2] 8),
 some (.code c49 [.tmp 4,.tmp 5,.tmp 6] 29),
 some (.code c50 [.tmp 4] 24),
 some (.code c51 [.cell 4 true 2,.tmp 5] 21),
 some (.code c52 [.tmp 2] 13),
 some (.codeJ c53 [.tmp 4,.tmp 5] 62),
 some (.code c54 [.tmp 4] 40),
 some (.code c55 [.tmp 4] 63),
 some (.codeJ c56 [.tmp 2] 15),
 some (.codeJ c57 [.tmp 6] 21),
 some (.code c58 [.tmp 6] 31),
 some (.code c59 [.cell 6 true 3,.tmp 7] 33),
 some (.codeJ c60 [.tmp 2,.tmp 3] 41),
 some (.code c61 [.tmp 6] 11),
 some (.code c62 [.cell 0 true 2] 2),
 some (.code c63 [.tmp 2] 4),
 some (.code c64 [.cell 6 true 2] 44),
 some (.code c65 [.cell 4 true 2] 16),
 some (.code c66 [.cell 4 true 2] 17),
 some (.code c67 [.tmp 8,.tmp 9] 47),
 some (.code c68 [.tmp 4] 16),
 some (.code c69 [.tmp 2] 10),
 some (.code c70 [.cell 2 true 2] 61),
 some (.code c71 [.tmp 4] 9),
 some (.code c72 [.tmp 3] 9),
 some (.code c73 [.tmp 4] 20),
 some (.code c74 [.tmp 4] 26),
 some (.code c75 [.tmp 4] 17),
 some (.codeJ c76 [.tmp 2] 16),
 some (.code c77 [.tmp 2,.tmp 3] 64),
 some (.codeJ c78 [.tmp 4] 24),
 some (.codeJ c79 [.tmp 4] 38),
 some (.code c80 [.tmp 2] 18),
 some (.code c81 [.tmp 4] 20),
 some (.code c82 [.tmp 4] 36),
 some (.code c83 [.tmp 2] 8),
 some (.code c84 [.tmp 2] 15),
 some (.code c85 [.tmp 4] 9),
 some (.code c86 [.cell 6 true 2] 44),
 some (.code c87 [.tmp 4] 9),
 some (.code c88 [.tmp 4] 13),
 some (.code c89 [] 19),
 some (.code c90 [.tmp 4] 9),
 some (.code c91 [.tmp 2] 6),
 some (.code c92 [.tmp 2] 32),
 some (.code c93 [.tmp 4] 19),
 some (.code c94 [] 9),
 some (.code c95 [.tmp 5] 36),
 some (.code c96 [] 11),
 some (.code c97 [] 14),
 some (.code c98 [.tmp 3] 11),
 some (.code c99 [.tmp 2] 6),
 some (.code Q4l [.tmp 2] 14),
 some (.code Q34 [.tmp 2] 14),
 some (.code Q3i [.tmp 4] 19),
 some (.code Q2x [.tmp 4] 19),
 some (.code Q2v [.tmp 4] 19),
 some (.code Q4a [] 63),
 some (.code Q4i [] 134),
 some (.code Q4r [.tmp 2] 8),
 some (.code Q4m [] 148),
 some (.code Q4t [] 53),
 some (.code Q4e [] 220),
 some (.code Q4b [] 49),
 some (.code Q36 [] 56),
 some (.code Q48 [] 65),
 some (.code Q3k [.tmp 6,.tmp 7] 57),
 some (.code Q4o [] 32),
 some (.code Q4p [.tmp 6] 133),
 some (.code Q46 [.tmp 4] 17),
 some (.code Q4q [.tmp 8] 84),
 some (.code Q3s [.tmp 8,.tmp 9] 168),
 some (.code Q49 [.tmp 2] 19),
 some (.code Q39 [.tmp 2] 25),
 some (.code Q43 [] 53),
 some (.code Q4v [] 60),
 some (.code Q37 [] 67),
 some (.code Q4s [.tmp 8,.tmp 9] 63),
 some (.code Q3j [] 34),
 some (.code Q3c [.tmp 8] 141),
 some (.code Q40 [.tmp 10] 90),
 some (.code Q4k [.tmp 10,.tmp 11] 178),
 some (.code Q3a [] 58),
 some (.code Q3v [] 76),
 some (.code Q3g [.tmp 2] 7),
 some (.code Q3x [.tmp 2] 33),
 some (.code Q3f [.tmp 6] 15),
 some (.code Q3l [.tmp 10] 36),
 some (.code Q41 [] 82),
 some (.code Q4x [.tmp 8] 18),
 some (.code Q45 [.tmp 12] 41),
 some (.code Q4w [] 38),
 some (.code Q3y [.tmp 8,.tmp 9] 28),
 some (.code Q4f [.tmp 10,.tmp 11] 32)]
noncomputable def Q69:Tab:=fun f=>(Q5s[f]?).join
theorem On:EntsOk Tryz.prog 0 Q5s:=⟨trivial,trivial,Q5x,Q5z,Q5q,fun5,Q5g,Q57,Q5l,Q53,Q0f,O6,OG,Ob,ID,OM,Q00,IU,Q02,Q2n,I8,OU,Q01,Q16,Q2p,Q1i,IB,O8,IL,Q0g,Q26,Q06,Q0x,O_,Q2o,Q1m,Q1t,Q0u,Q1n,Q2r,Q1r,Q0k,OI,O0,Oc,OY,Q13,Q25,Q1s,OX,Q2g,F_,Q2j,Q08,Q14,Ie,IT,O5,Oh,Q04,Q2k,Iy,Q12,Q2u,OF,Q23,Q0s,OW,Q2h,IJ,I1,OJ,Q1z,I2,Q18,Q2e,Q1p,Q1l,Q15,I4,Q1b,Q0z,OD,II,Q1x,Q05,Q0a,Im,Om,Q24,Iu,IQ,IA,Q1v,Q1h,OS,Q1u,Q0n,IM,Q07,F6,C_,Fj,LN,C5,Fz,FC,EE,FP,EF,FK,FI,EZ,Fc,EX,Fg,Ep,EK,FT,FW,Ex,EI,F5,FB,Ft,ER,FH,ED,F9,EC,EG,FO,EO,Fe,Fb,FV,EU,EH,FL,FU,EN,Eu,trivial⟩
theorem Q6:TabOk Tryz.prog Q69:=TT On
end Go.Proofs.Tryz
namespace Go.Proofs.Tryz
open Go Go.V
def mA1:Memo:=⟨[.int .u64 1],[],.slice (some ⟨0,0,none⟩) 1 1,[⟨[.int .i64 0],⟨1,3⟩,false⟩]⟩
theorem Q0h:Qd Tryz.prog 56 mA1:=Q5 mixed Q6 200 (by kernel_rfl) (by kernel_rfl)
def mA2:Memo:=⟨[.int .u64 2],[],.slice (some ⟨0,0,none⟩) 1 1,[⟨[.int .i64 1],⟨1,3⟩,false⟩]⟩
theorem Q1w:Qd Tryz.prog 56 mA2:=Q5 mixed Q6 200 (by kernel_rfl) (by kernel_rfl)
def mA3:Memo:=⟨[.int .u64 3],[],.slice (some ⟨0,0,none⟩) 2 2,[⟨[.int .i64 0,.int .i64 1],⟨1,3⟩,false⟩]⟩
theorem OH:Qd Tryz.prog 56 mA3:=Q5 mixed Q6 200 (by kernel_rfl) (by kernel_rfl)
def mA4:Memo:=⟨[.int .u64 4],[],.slice (some ⟨0,0,none⟩) 1 1,[⟨[.int .i64 2],⟨1,3⟩,false⟩]⟩
theorem Q1y:Qd Tryz.prog 56 mA4:=Q5 mixed Q6 200 (by kernel_rfl) (by kernel_rfl)
def mA5:Memo:=⟨[.int .u64 5],[],.slice (some ⟨0,0,none⟩) 2 2,[⟨[.int .i64 0,.int .i64 2],⟨1,3⟩,false⟩]⟩
theorem Q28:Qd Tryz.prog 56 mA5:=Q5 mixed Q6 200 (by kernel_rfl) (by kernel_rfl)
def mA6:Memo:=⟨[.int .u64 6],[],.slice (some ⟨0,0,none⟩) 2 2,[⟨[.int .i64 1,.int .i64 2],⟨1,3⟩,false⟩]⟩
theorem Q0l:Qd Tryz.prog 56 mA6:=Q5 mixed Q6 200 (by kernel_rfl) (by kernel_rfl)
def mA7:Memo:=⟨[.int .u64 7],[],.slice (some ⟨0,0,none⟩) 3 3,[⟨[.int .i64 0,.int .i64 1,.int .i64 2],⟨1,3⟩,false⟩]⟩
theorem OZ:Qd Tryz.prog 56 mA7:=Q5 mixed Q6 200 (by kernel_rfl) (by kernel_rfl)
def mA8:Memo:=⟨[.int .u64 8],[],.slice (some ⟨0,0,none⟩) 1 1,[⟨[.int .i64 3],⟨1,3⟩,false⟩]⟩
theorem OP:Qd Tryz.prog 56 mA8:=Q5 mixed Q6 200 (by kernel_rfl) (by kernel_rfl)
def mA9:Memo:=⟨[.int .u64 9],[],.slice (some ⟨0,0,none⟩) 2 2,[⟨[.int .i64 0,.int .i64 3],⟨1,3⟩,false⟩]⟩
theorem Q29:Qd Tryz.prog 56 mA9:=Q5 mixed Q6 200 (by kernel_rfl) (by kernel_rfl)
def Q5y:Memo:=⟨[.int .u64 10],[],.slice (some ⟨0,0,none⟩) 2 2,[⟨[.int .i64 1,.int .i64 3],⟨1,3⟩,false⟩]⟩
theorem Is:Qd Tryz.prog 56 Q5y:=Q5 mixed Q6 200 (by kernel_rfl) (by kernel_rfl)
def Q61:Memo:=⟨[.int .u64 11],[],.slice (some ⟨0,0,none⟩) 3 3,[⟨[.int .i64 0,.int .i64 1,.int .i64 3],⟨1,3⟩,false⟩]⟩
theorem IP:Qd Tryz.prog 56 Q61:=Q5 mixed Q6 200 (by kernel_rfl) (by kernel_rfl)
def Q54:Memo:=⟨[.int .u64 12],[],.slice (some ⟨0,0,none⟩) 2 2,[⟨[.int .i64 2,.int .i64 3],⟨1,3⟩,false⟩]⟩
theorem Oi:Qd Tryz.prog 56 Q54:=Q5 mixed Q6 200 (by kernel_rfl) (by kernel_rfl)
def Q5k:Memo:=⟨[.int .u64 13],[],.slice (some ⟨0,0,none⟩) 3 3,[⟨[.int .i64 0,.int .i64 2,.int .i64 3],⟨1,3⟩,false⟩]⟩
theorem Ig:Qd Tryz.prog 56 Q5k:=Q5 mixed Q6 200 (by kernel_rfl) (by kernel_rfl)
def Q5o:Memo:=⟨[.int .u64 14],[],.slice (some ⟨0,0,none⟩) 3 3,[⟨[.int .i64 1,.int .i64 2,.int .i64 3],⟨1,3⟩,false⟩]⟩
theorem O1:Qd Tryz.prog 56 Q5o:=Q5 mixed Q6 200 (by kernel_rfl) (by kernel_rfl)
def Q55:Memo:=⟨[.int .u64 15],[],.slice (some ⟨0,0,none⟩) 4 4,[⟨[.int .i64 0,.int .i64 1,.int .i64 2,.int .i64 3],⟨1,3⟩,false⟩]⟩
theorem Oa:Qd Tryz.prog 56 Q55:=Q5 mixed Q6 200 (by kernel_rfl) (by kernel_rfl)
end Go.Proofs.Tryz
namespace Go.Proofs.Tryz
open Go Go.V
def EY:Memo:=⟨[.agg #[.slice (some ⟨0,0,none⟩) 4 4,.int .i64 20],.int .u64 1],[⟨[.int .i64 1,.int .i64 100,.int .i64 110,.int .i64 500,.int .i64 1,.int .i64 105,.int .i64 112,.int .i64 300,.int .i64 1,.int .i64 108,.int .i64 125,.int .i64 400,.int .i64 1,.int .i64 120,.int .i64 130,.int .i64 600],⟨4,78⟩,true⟩],.bool true,[]⟩
theorem LV:Qd Tryz.prog 79 EY:=Q5 mixed Q6 200 (by kernel_rfl) (by kernel_rfl)
def FM:Memo:=⟨[.agg #[.slice (some ⟨0,0,none⟩) 4 4,.int .i64 20],.int .u64 2],[⟨[.int .i64 1,.int .i64 100,.int .i64 110,.int .i64 500,.int .i64 1,.int .i64 105,.int .i64 112,.int .i64 300,.int .i64 1,.int .i64 108,.int .i64 125,.int .i64 400,.int .i64 1,.int .i64 120,.int .i64 130,.int .i64 600],⟨4,78⟩,true⟩],.bool true,[]⟩
theorem Lo:Qd Tryz.prog 79 FM:=Q5 mixed Q6 200 (by kernel_rfl) (by kernel_rfl)
def EM:Memo:=⟨[.agg #[.slice (some ⟨0,0,none⟩) 4 4,.int .i64 20],.int .u64 3],[⟨[.int .i64 1,.int .i64 100,.int .i64 110,.int .i64 500,.int .i64 1,.int .i64 105,.int .i64 112,.int .i64 300,.int .i64 1,.int .i64 108,.int .i64 125,.int .i64 400,.int .i64 1,.int .i64 120,.int .i64 130,.int .i64 600],⟨4,78⟩,true⟩],.bool true,[]⟩
theorem A7:Qd Tryz.prog 79 EM:=Q5 mixed Q6 200 (by kernel_rfl) (by kernel_rfl)
def EA:Memo:=⟨[.agg #[.slice (some ⟨0,0,none⟩) 4 4,.int .i64 20],.int .u64 4],[⟨[.int .i64 1,.int .i64 100,.int .i64 110,.int .i64 500,.int .i64 1,.int .i64 105,.int .i64 112,.int .i64 300,.int .i64 1,.int .i64 108,.int .i64 125,.int .i64 400,.int .i64 1,.int .i64 120,.int .i64 130,.int .i64 600],⟨4,78⟩,true⟩],.bool true,[]⟩
theorem Ci:Qd Tryz.prog 79 EA:=Q5 mixed Q6 200 (by kernel_rfl) (by kernel_rfl)
def EP:Memo:=⟨[.agg #[.slice (some ⟨0,0,none⟩) 4 4,.int .i64 20],.int .u64 5],[⟨[.int .i64 1,.int .i64 100,.int .i64 110,.int .i64 500,.int .i64 1,.int .i64 105,.int .i64 112,.int .i64 300,.int .i64 1,.int .i64 108,.int .i64 125,.int .i64 400,.int .i64 1,.int .i64 120,.int .i64 130,.int .i64 600],⟨4,78⟩,true⟩],.bool false,[]⟩
theorem L8:Qd Tryz.prog 79 EP:=Q5 mixed Q6 200 (by kernel_rfl) (by kernel_rfl)
def Fk:Memo:=⟨[.agg #[.slice (some ⟨0,0,none⟩) 4 4,.int .i64 20],.int .u64 6],[⟨[.int .i64 1,.int .i64 100,.int .i64 110,.int .i64 500,.int .i64 1,.int .i64 105,.int .i64 112,.int .i64 300,.int .i64 1,.int .i64 108,.int .i64 125,.int .i64 400,.int .i64 1,.int .i64 120,.int .i64 130,.int .i64 600],⟨4,78⟩,true⟩],.bool true,[]⟩
theorem Cc:Qd Tryz.prog 79 Fk:=Q5 mixed Q6 200 (by kernel_rfl) (by kernel_rfl)
def Fa:Memo:=⟨[.agg #[.slice (some ⟨0,0,none⟩) 4 4,.int .i64 20],.int .u64 7],[⟨[.int .i64 1,.int .i64 100,.int .i64 110,.int .i64 500,.int .i64 1,.int .i64 105,.int .i64 112,.int .i64 300,.int .i64 1,.int .i64 108,.int .i64 125,.int .i64 400,.int .i64 1,.int .i64 120,.int .i64 130,.int .i64 600],⟨4,78⟩,true⟩],.bool false,[]⟩
theorem Lj:Qd Tryz.prog 79 Fa:=Q5 mixed Q6 200 (by kernel_rfl) (by kernel_rfl)
def Fv:Memo:=⟨[.agg #[.slice (some ⟨0,0,none⟩) 4 4,.int .i64 20],.int .u64 8],[⟨[.int .i64 1,.int .i64 100,.int .i64 110,.int .i64 500,.int .i64 1,.int .i64 105,.int .i64 112,.int .i64 300,.int .i64 1,.int .i64 108,.int .i64 125,.int .i64 400,.int .i64 1,.int .i64 120,.int .i64 130,.int .i64 600],⟨4,78⟩,true⟩],.bool true,[]⟩
theorem L4:Qd Tryz.prog 79 Fv:=Q5 mixed Q6 200 (by kernel_rfl) (by kernel_rfl)
def FQ:Memo:=⟨[.agg #[.slice (some ⟨0,0,none⟩) 4 4,.int .i64 20],.int .u64 9],[⟨[.int .i64 1,.int .i64 100,.int .i64 110,.int .i64 500,.int .i64 1,.int .i64 105,.int .i64 112,.int .i64 300,.int .i64 1,.int .i64 108,.int .i64 125,.int .i64 400,.int .i64 1,.int .i64 120,.int .i64 130,.int .i64 600],⟨4,78⟩,true⟩],.bool false,[]⟩
theorem CC:Qd Tryz.prog 79 FQ:=Q5 mixed Q6 200 (by kernel_rfl) (by kernel_rfl)
def A2:Memo:=⟨[.agg #[.slice (some ⟨0,0,none⟩) 4 4,.int .i64 20],.int .u64 10],[⟨[.int .i64 1,.int .i64 100,.int .i64 110,.int .i64 500,.int .i64 1,.int .i64 105,.int .i64 112,.int .i64 300,.int .i64 1,.int .i64 108,.int .i64 125,.int .i64 400,.int .i64 1,.int .i64 120,.int .i64 130,.int .i64 600],⟨4,78⟩,true⟩],.bool false,[]⟩
theorem RF:Qd Tryz.prog 79 A2:=Q5 mixed Q6 200 (by kernel_rfl) (by kernel_rfl)
def Cp:Memo:=⟨[.agg #[.slice (some ⟨0,0,none⟩) 4 4,.int .i64 20],.int .u64 11],[⟨[.int .i64 1,.int .i64 100,.int .i64 110,.int .i64 500,.int .i64 1,.int .i64 105,.int .i64 112,.int .i64 300,.int .i64 1,.int .i64 108,.int .i64 125,.int .i64 400,.int .i64 1,.int .i64 120,.int .i64 130,.int .i64 600],⟨4,78⟩,true⟩],.bool false,[]⟩
theorem SQ:Qd Tryz.prog 79 Cp:=Q5 mixed Q6 200 (by kernel_rfl) (by kernel_rfl)
def Lc:Memo:=⟨[.agg #[.slice (some ⟨0,0,none⟩) 4 4,.int .i64 20],.int .u64 12],[⟨[.int .i64 1,.int .i64 100,.int .i64 110,.int .i64 500,.int .i64 1,.int .i64 105,.int .i64 112,.int .i64 300,.int .i64 1,.int .i64 108,.int .i64 125,.int .i64 400,.int .i64 1,.int .i64 120,.int .i64 130,.int .i64 600],⟨4,78⟩,true⟩],.bool false,[]⟩
theorem SB:Qd Tryz.prog 79 Lc:=Q5 mixed Q6 200 (by kernel_rfl) (by kernel_rfl)
def A0:Memo:=⟨[.agg #[.slice (some ⟨0,0,none⟩) 4 4,.int .i64 20],.int .u64 13],[⟨[.int .i64 1,.int .i64 100,.int .i64 110,.int .i64 500,.int .i64 1,.int .i64 105,.int .i64 112,.int .i64 300,.int .i64 1,.int .i64 108,.int .i64 125,.int .i64 400,.int .i64 1,.int .i64 120,.int .i64 130,.int .i64 600],⟨4,78⟩,true⟩],.bool false,[]⟩
theorem RK:Qd Tryz.prog 79 A0:=Q5 mixed Q6 200 (by kernel_rfl) (by kernel_rfl)
def CL:Memo:=⟨[.agg #[.slice (some ⟨0,0,none⟩) 4 4,.int .i64 20],.int .u64 14],[⟨[.int .i64 1,.int .i64 100,.int .i64 110,.int .i64 500,.int .i64 1,.int .i64 105,.int .i64 112,.int .i64 300,.int .i64 1,.int .i64 108,.int .i64 125,.int .i64 400,.int .i64 1,.int .i64 120,.int .i64 130,.int .i64 600],⟨4,78⟩,true⟩],.bool false,[]⟩
theorem Su:Qd Tryz.prog 79 CL:=Q5 mixed Q6 200 (by kernel_rfl) (by kernel_rfl)
def LM:Memo:=⟨[.agg #[.slice (some ⟨0,0,none⟩) 4 4,.int .i64 20],.int .u64 15],[⟨[.int .i64 1,.int .i64 100,.int .i64 110,.int .i64 500,.int .i64 1,.int .i64 105,.int .i64 112,.int .i64 300,.int .i64 1,.int .i64 108,.int .i64 125,.int .i64 400,.int .i64 1,.int .i64 120,.int .i64 130,.int .i64 600],⟨4,78⟩,true⟩],.bool false,[]⟩
theorem S9:Qd Tryz.prog 79 LM:=Q5 mixed Q6 200 (by kernel_rfl) (by kernel_rfl)
def E_:Memo:=⟨[.agg #[.slice (some ⟨0,0,none⟩) 4 4,.int .i64 25],.int .u64 1],[⟨[.int .i64 1,.int .i64 100,.int .i64 110,.int .i64 500,.int .i64 1,.int .i64 105,.int .i64 112,.int .i64 300,.int .i64 1,.int .i64 108,.int .i64 125,.int .i64 400,.int .i64 1,.int .i64 120,.int .i64 130,.int .i64 600],⟨4,78⟩,true⟩],.bool true,[]⟩
theorem CD:Qd Tryz.prog 79 E_:=Q5 mixed Q6 200 (by kernel_rfl) (by kernel_rfl)
def Fy:Memo:=⟨[.agg #[.slice (some ⟨0,0,none⟩) 4 4,.int .i64 25],.int .u64 2],[⟨[.int .i64 1,.int .i64 100,.int .i64 110,.int .i64 500,.int .i64 1,.int .i64 105,.int .i64 112,.int .i64 300,.int .i64 1,.int .i64 108,.int .i64 125,.int .i64 400,.int .i64 1,.int .i64 120,.int .i64 130,.int .i64 600],⟨4,78⟩,true⟩],.bool true,[]⟩
theorem Lw:Qd Tryz.prog 79 Fy:=Q5 mixed Q6 200 (by kernel_rfl) (by kernel_rfl)
def Fs:Memo:=⟨[.agg #[.slice (some ⟨0,0,none⟩) 4 4,.int .i64 25],.int .u64 3],[⟨[.int .i64 1,.int .i64 100,.int .i64 110,.int .i64 500,.int .i64 1,.int .i64 105,.int .i64 112,.int .i64 300,.int .i64 1,.int .i64 108,.int .i64 125,.int .i64 400,.int .i64 1,.int .i64 120,.int .i64 130,.int .i64 600],⟨4,78⟩,true⟩],.bool true,[]⟩
theorem LA:Qd Tryz.prog 79 Fs:=Q5 mixed Q6 200 (by kernel_rfl) (by kernel_rfl)
def Fo:Memo:=⟨[.agg #[.slice (some ⟨0,0,none⟩) 4 4,.int .i64 25],.int .u64 4],[⟨[.int .i64 1,.int .i64 100,.int .i64 110,.int .i64 500,.int .i64 1,.int .i64 105,.int .i64 112,.int .i64 300,.int .i64 1,.int .i64 108,.int .i64 125,.int .i64 400,.int .i64 1,.int .i64 120,.int .i64 130,.int .i64 600],⟨4,78⟩,true⟩],.bool true,[]⟩
theorem L0:Qd Tryz.prog 79 Fo:=Q5 mixed Q6 200 (by kernel_rfl) (by kernel_rfl)
def Ew:Memo:=⟨[.agg #[.slice (some ⟨0,0,none⟩) 4 4,.int .i64 25],.int .u64 5],[⟨[.int .i64 1,.int .i64 100,.int .i64 110,.int .i64 500,.int .i64 1,.int .i64 105,.int .i64 112,.int .i64 300,.int .i64 1,.int .i64 108,.int .i64 125,.int .i64 400,.int .i64 1,.int .i64 120,.int .i64 130,.int .i64 600],⟨4,78⟩,true⟩],.bool true,[]⟩
theorem LL:Qd Tryz.prog 79 Ew:=Q5 mixed Q6 200 (by kernel_rfl) (by kernel_rfl)
def Fu:Memo:=⟨[.agg #[.slice (some ⟨0,0,none⟩) 4 4,.int .i64 25],.int .u64 6],[⟨[.int .i64 1,.int .i64 100,.int .i64 110,.int .i64 500,.int .i64 1,.int .i64 105,.int .i64 112,.int .i64 300,.int .i64 1,.int .i64 108,.int .i64 125,.int .i64 400,.int .i64 1,.int .i64 120,.int .i64 130,.int .i64 600],⟨4,78⟩,true⟩],.bool true,[]⟩
theorem Cu:Qd Tryz.prog 79 Fu:=Q5 mixed Q6 200 (by kernel_rfl) (by kernel_rfl)
def EV:Memo:=⟨[.agg #[.slice (some ⟨0,0,none⟩) 4 4,.int .i64 25],.int .u64 8],[⟨[.int .i64 1,.int .i64 100,.int .i64 110,.int .i64 500,.int .i64 1,.int .i64 105,.int .i64 112,.int .i64 300,.int .i64 1,.int .i64 108,.int .i64 125,.int .i64 400,.int .i64 1,.int .i64 120,.int .i64 130,.int .i64 600],⟨4,78⟩,true⟩],.bool true,[]⟩
theorem LH:Qd Tryz.prog 79 EV:=Q5 mixed Q6 200 (by kernel_rfl) (by kernel_rfl)
def F3:Memo:=⟨[.agg #[.slice (some ⟨0,0,none⟩) 4 4,.int .i64 25],.int .u64 9],[⟨[.int .i64 1,.int .i64 100,.int .i64 110,.int .i64 500,.int .i64 1,.int .i64 105,.int .i64 112,.int .i64 300,.int .i64 1,.int .i64 108,.int .i64 125,.int .i64 400,.int .i64 1,.int .i64 120,.int .i64 130,.int .i64 600],⟨4,78⟩,true⟩],.bool false,[]⟩
theorem A5:Qd Tryz.prog 79 F3:=Q5 mixed Q6 200 (by kernel_rfl) (by kernel_rfl)
def LU:Memo:=⟨[.agg #[.slice (some ⟨0,0,none⟩) 4 4,.int .i64 25],.int .u64 10],[⟨[.int .i64 1,.int .i64 100,.int .i64 110,.int .i64 500,.int .i64 1,.int .i64 105,.int .i64 112,.int .i64 300,.int .i64 1,.int .i64 108,.int .i64 125,.int .i64 400,.int .i64 1,.int .i64 120,.int .i64 130,.int .i64 600],⟨4,78⟩,true⟩],.bool true,[]⟩
theorem S0:Qd Tryz.prog 79 LU:=Q5 mixed Q6 200 (by kernel_rfl) (by kernel_rfl)
def CA:Memo:=⟨[.agg #[.slice (some ⟨0,0,none⟩) 4 4,.int .i64 25],.int .u64 12],[⟨[.int .i64 1,.int .i64 100,.int .i64 110,.int .i64 500,.int .i64 1,.int .i64 105,.int .i64 112,.int .i64 300,.int .i64 1,.int .i64 108,.int .i64 125,.int .i64 400,.int .i64 1,.int .i64 120,.int .i64 130,.int .i64 600],⟨4,78⟩,true⟩],.bool true,[]⟩
theorem SI:Qd Tryz.prog 79 CA:=Q5 mixed Q6 200 (by kernel_rfl) (by kernel_rfl)
def FR:Memo:=⟨[.agg #[.slice (some ⟨0,0,none⟩) 4 4,.int .i64 16],.int .u64 1],[⟨[.int .i64 1,.int .i64 100,.int .i64 110,.int .i64 500,.int .i64 1,.int .i64 105,.int .i64 112,.int .i64 300,.int .i64 1,.int .i64 108,.int .i64 125,.int .i64 400,.int .i64 1,.int .i64 120,.int .i64 130,.int .i64 600],⟨4,78⟩,true⟩],.bool true,[]⟩
theorem CP:Qd Tryz.prog 79 FR:=Q5 mixed Q6 200 (by kernel_rfl) (by kernel_rfl)
def Et:Memo:=⟨[.agg #[.slice (some ⟨0,0,none⟩) 4 4,.int .i64 16],.int .u64 2],[⟨[.int .i64 1,.int .i64 100,.int .i64 110,.int .i64 500,.int .i64 1,.int .i64 105,.int .i64 112,.int .i64 300,.int .i64 1,.int .i64 108,.int .i64 125,.int .i64 400,.int .i64 1,.int .i64 120,.int .i64 130,.int .i64 600],⟨4,78⟩,true⟩],.bool true,[]⟩
theorem A9:Qd Tryz.prog 79 Et:=Q5 mixed Q6 200 (by kernel_rfl) (by kernel_rfl)
def EJ:Memo:=⟨[.agg #[.slice (some ⟨0,0,none⟩) 4 4,.int .i64 16],.int .u64 4],[⟨[.int .i64 1,.int .i64 100,.int .i64 110,.int .i64 500,.int .i64 1,.int .i64 105,.int .i64 112,.int .i64 300,.int .i64 1,.int .i64 108,.int .i64 125,.int .i64 400,.int .i64 1,.int .i64 120,.int .i64 130,.int .i64 600],⟨4,78⟩,true⟩],.bool false,[]⟩
theorem Lx:Qd Tryz.prog 79 EJ:=Q5 mixed Q6 200 (by kernel_rfl) (by kernel_rfl)
def Ez:Memo:=⟨[.agg #[.slice (some ⟨0,0,none⟩) 4 4,.int .i64 16],.int .u64 8],[⟨[.int .i64 1,.int .i64 100,.int .i64 110,.int .i64 500,.int .i64 1,.int .i64 105,.int .i64 112,.int .i64 300,.int .i64 1,.int .i64 108,.int .i64 125,.int .i64 400,.int .i64 1,.int .i64 120,.int .i64 130,.int .i64 600],⟨4,78⟩,true⟩],.bool true,[]⟩
theorem LF:Qd Tryz.prog 79 Ez:=Q5 mixed Q6 200 (by kernel_rfl) (by kernel_rfl)
end Go.Proofs.Tryz
namespace Go.Proofs.Tryz
open Go Go.V
def mG1:Memo:=⟨[.agg #[.slice (some ⟨0,0,none⟩) 4 4,.int .i64 20],.int .u64 1],[⟨[.int .i64 1,.int .i64 100,.int .i64 110,.int .i64 500,.int .i64 1,.int .i64 105,.int .i64 112,.int .i64 300,.int .i64 1,.int .i64 108,.int .i64 125,.int .i64 400,.int .i64 1,.int .i64 120,.int .i64 130,.int .i64 600],⟨4,78⟩,true⟩],.int .i64 500,[]⟩
theorem Q0o:Qd Tryz.prog 78 mG1:=Q5 mixed Q6 200 (by kernel_rfl) (by kernel_rfl)
def mG2:Memo:=⟨[.agg #[.slice (some ⟨0,0,none⟩) 4 4,.int .i64 20],.int .u64 2],[⟨[.int .i64 1,.int .i64 100,.int .i64 110,.int .i64 500,.int .i64 1,.int .i64 105,.int .i64 112,.int .i64 300,.int .i64 1,.int .i64 108,.int .i64 125,.int .i64 400,.int .i64 1,.int .i64 120,.int .i64 130,.int .i64 600],⟨4,78⟩,true⟩],.int .i64 300,[]⟩
theorem Q2b:Qd Tryz.prog 78 mG2:=Q5 mixed Q6 200 (by kernel_rfl) (by kernel_rfl)
def mG3:Memo:=⟨[.agg #[.slice (some ⟨0,0,none⟩) 4 4,.int .i64 20],.int .u64 3],[⟨[.int .i64 1,.int .i64 100,.int .i64 110,.int .i64 500,.int .i64 1,.int .i64 105,.int .i64 112,.int .i64 300,.int .i64 1,.int .i64 108,.int .i64 125,.int .i64 400,.int .i64 1,.int .i64 120,.int .i64 130,.int .i64 600],⟨4,78⟩,true⟩],.int .i64 800,[]⟩
theorem Q0m:Qd Tryz.prog 78 mG3:=Q5 mixed Q6 200 (by kernel_rfl) (by kernel_rfl)
def mG4:Memo:=⟨[.agg #[.slice (some ⟨0,0,none⟩) 4 4,.int .i64 20],.int .u64 4],[⟨[.int .i64 1,.int .i64 100,.int .i64 110,.int .i64 500,.int .i64 1,.int .i64 105,.int .i64 112,.int .i64 300,.int .i64 1,.int .i64 108,.int .i64 125,.int .i64 400,.int .i64 1,.int .i64 120,.int .i64 130,.int .i64 600],⟨4,78⟩,true⟩],.int .i64 400,[]⟩
theorem Q2c:Qd Tryz.prog 78 mG4:=Q5 mixed Q6 200 (by kernel_rfl) (by kernel_rfl)
def mG5:Memo:=⟨[.agg #[.slice (some ⟨0,0,none⟩) 4 4,.int .i64 20],.int .u64 5],[⟨[.int .i64 1,.int .i64 100,.int .i64 110,.int .i64 500,.int .i64 1,.int .i64 105,.int .i64 112,.int .i64 300,.int .i64 1,.int .i64 108,.int .i64 125,.int .i64 400,.int .i64 1,.int .i64 120,.int .i64 130,.int .i64 600],⟨4,78⟩,true⟩],.int .i64 900,[]⟩
theorem OK:Qd Tryz.prog 78 mG5:=Q5 mixed Q6 200 (by kernel_rfl) (by kernel_rfl)
def mG6:Memo:=⟨[.agg #[.slice (some ⟨0,0,none⟩) 4 4,.int .i64 20],.int .u64 6],[⟨[.int .i64 1,.int .i64 100,.int .i64 110,.int .i64 500,.int .i64 1,.int .i64 105,.int .i64 112,.int .i64 300,.int .i64 1,.int .i64 108,.int .i64 125,.int .i64 400,.int .i64 1,.int .i64 120,.int .i64 130,.int .i64 600],⟨4,78⟩,true⟩],.int .i64 700,[]⟩
theorem Q11:Qd Tryz.prog 78 mG6:=Q5 mixed Q6 200 (by kernel_rfl) (by kernel_rfl)
def mG7:Memo:=⟨[.agg #[.slice (some ⟨0,0,none⟩) 4 4,.int .i64 20],.int .u64 7],[⟨[.int .i64 1,.int .i64 100,.int .i64 110,.int .i64 500,.int .i64 1,.int .i64 105,.int .i64 112,.int .i64 300,.int .i64 1,.int .i64 108,.int .i64 125,.int .i64 400,.int .i64 1,.int .i64 120,.int .i64 130,.int .i64 600],⟨4,78⟩,true⟩],.int .i64 1200,[]⟩
theorem Q0w:Qd Tryz.prog 78 mG7:=Q5 mixed Q6 200 (by kernel_rfl) (by kernel_rfl)
def mG8:Memo:=⟨[.agg #[.slice (some ⟨0,0,none⟩) 4 4,.int .i64 20],.int .u64 8],[⟨[.int .i64 1,.int .i64 100,.int .i64 110,.int .i64 500,.int .i64 1,.int .i64 105,.int .i64 112,.int .i64 300,.int .i64 1,.int .i64 108,.int .i64 125,.int .i64 400,.int .i64 1,.int .i64 120,.int .i64 130,.int .i64 600],⟨4,78⟩,true⟩],.int .i64 600,[]⟩
theorem Q2d:Qd Tryz.prog 78 mG8:=Q5 mixed Q6 200 (by kernel_rfl) (by kernel_rfl)
def mG9:Memo:=⟨[.agg #[.slice (some ⟨0,0,none⟩) 4 4,.int .i64 20],.int .u64 9],[⟨[.int .i64 1,.int .i64 100,.int .i64 110,.int .i64 500,.int .i64 1,.int .i64 105,.int .i64 112,.int .i64 300,.int .i64 1,.int .i64 108,.int .i64 125,.int .i64 400,.int .i64 1,.int .i64 120,.int .i64 130,.int .i64 600],⟨4,78⟩,true⟩],.int .i64 1100,[]⟩
theorem Q1a:Qd Tryz.prog 78 mG9:=Q5 mixed Q6 200 (by kernel_rfl) (by kernel_rfl)
def Q5j:Memo:=⟨[.agg #[.slice (some ⟨0,0,none⟩) 4 4,.int .i64 20],.int .u64 10],[⟨[.int .i64 1,.int .i64 100,.int .i64 110,.int .i64 500,.int .i64 1,.int .i64 105,.int .i64 112,.int .i64 300,.int .i64 1,.int .i64 108,.int .i64 125,.int .i64 400,.int .i64 1,.int .i64 120,.int .i64 130,.int .i64 600],⟨4,78⟩,true⟩],.int .i64 900,[]⟩
theorem I5:Qd Tryz.prog 78 Q5j:=Q5 mixed Q6 200 (by kernel_rfl) (by kernel_rfl)
def Q5b:Memo:=⟨[.agg #[.slice (some ⟨0,0,none⟩) 4 4,.int .i64 20],.int .u64 11],[⟨[.int .i64 1,.int .i64 100,.int .i64 110,.int .i64 500,.int .i64 1,.int .i64 105,.int .i64 112,.int .i64 300,.int .i64 1,.int .i64 108,.int .i64 125,.int .i64 400,.int .i64 1,.int .i64 120,.int .i64 130,.int .i64 600],⟨4,78⟩,true⟩],.int .i64 1400,[]⟩
theorem Og:Qd Tryz.prog 78 Q5b:=Q5 mixed Q6 200 (by kernel_rfl) (by kernel_rfl)
def Q5c:Memo:=⟨[.agg #[.slice (some ⟨0,0,none⟩) 4 4,.int .i64 20],.int .u64 12],[⟨[.int .i64 1,.int .i64 100,.int .i64 110,.int .i64 500,.int .i64 1,.int .i64 105,.int .i64 112,.int .i64 300,.int .i64 1,.int .i64 108,.int .i64 125,.int .i64 400,.int .i64 1,.int .i64 120,.int .i64 130,.int .i64 600],⟨4,78⟩,true⟩],.int .i64 1000,[]⟩
theorem Od:Qd Tryz.prog 78 Q5c:=Q5 mixed Q6 200 (by kernel_rfl) (by kernel_rfl)
def Q5h:Memo:=⟨[.agg #[.slice (some ⟨0,0,none⟩) 4 4,.int .i64 20],.int .u64 13],[⟨[.int .i64 1,.int .i64 100,.int .i64 110,.int .i64 500,.int .i64 1,.int .i64 105,.int .i64 112,.int .i64 300,.int .i64 1,.int .i64 108,.int .i64 125,.int .i64 400,.int .i64 1,.int .i64 120,.int .i64 130,.int .i64 600],⟨4,78⟩,true⟩],.int .i64 1500,[]⟩
theorem I6:Qd Tryz.prog 78 Q5h:=Q5 mixed Q6 200 (by kernel_rfl) (by kernel_rfl)
def Q4z:Memo:=⟨[.agg #[.slice (some ⟨0,0,none⟩) 4 4,.int .i64 20],.int .u64 14],[⟨[.int .i64 1,.int .i64 100,.int .i64 110,.int .i64 500,.int .i64 1,.int .i64 105,.int .i64 112,.int .i64 300,.int .i64 1,.int .i64 108,.int .i64 125,.int .i64 400,.int .i64 1,.int .i64 120,.int .i64 130,.int .i64 600],⟨4,78⟩,true⟩],.int .i64 1300,[]⟩
theorem IE:Qd Tryz.prog 78 Q4z:=Q5 mixed Q6 200 (by kernel_rfl) (by kernel_rfl)
def Q51:Memo:=⟨[.agg #[.slice (some ⟨0,0,none⟩) 4 4,.int .i64 20],.int .u64 15],[⟨[.int .i64 1,.int .i64 100,.int .i64 110,.int .i64 500,.int .i64 1,.int .i64 105,.int .i64 112,.int .i64 300,.int .i64 1,.int .i64 108,.int .i64 125,.int .i64 400,.int .i64 1,.int .i64 120,.int .i64 130,.int .i64 600],⟨4,78⟩,true⟩],.int .i64 1800,[]⟩
theorem Ii:Qd Tryz.prog 78 Q51:=Q5 mixed Q6 200 (by kernel_rfl) (by kernel_rfl)
end Go.Proofs.Tryz
namespace Go.Proofs.Tryz
open Go Go.V
def LX:List Memo:=[mA1,mA2,mA3,mA4,mA5,mA6,mA7,mA8,mA9,Q5y,Q61,Q54,Q5k,Q5o,Q55]
theorem Lk:∀ m∈LX,Qd Tryz.prog 56 m:=by
 intro m hm;simp only[LX,List.mem_cons,List.not_mem_nil,or_false] at hm;rcases hm with rfl|rfl|rfl|rfl|rfl|rfl|rfl|rfl|rfl|rfl|rfl|rfl|rfl|rfl|rfl
 ·exact Q0h
 ·exact Q1w
 ·exact OH
 ·exact Q1y
 ·exact Q28
 ·exact Q0l
 ·exact OZ
 ·exact OP
 ·exact Q29
 ·exact Is
 ·exact IP
 ·exact Oi
 ·exact Ig
 ·exact O1
 ·exact Oa
def Cr:List Memo:=[EY,FM,EM,EA,EP,Fk,Fa,Fv,FQ,A2,Cp,Lc,A0,CL,LM,E_,Fy,Fs,Fo,Ew,Fu,EV,F3,LU,CA,FR,Et,EJ,Ez]
theorem CY:∀ m∈Cr,Qd Tryz.prog 79 m:=by
 intro m hm;simp only[Cr,List.mem_cons,List.not_mem_nil,or_false] at hm;rcases hm with rfl|rfl|rfl|rfl|rfl|rfl|rfl|rfl|rfl|rfl|rfl|rfl|rfl|rfl|rfl|rfl|rfl|rfl|rfl|rfl|rfl|rfl|rfl|rfl|rfl|rfl|rfl|rfl|rfl
 ·exact LV
 ·exact Lo
 ·exact A7
 ·exact Ci
 ·exact L8
 ·exact Cc
 ·exact Lj
 ·exact L4
 ·exact CC
 ·exact RF
 ·exact SQ
 ·exact SB
 ·exact RK
 ·exact Su
 ·exact S9
 ·exact CD
 ·exact Lw
 ·exact LA
 ·exact L0
 ·exact LL
 ·exact Cu
 ·exact LH
 ·exact A5
 ·exact S0
 ·exact SI
 ·exact CP
 ·exact A9
 ·exact Lx
 ·exact LF
def S_:List Memo:=[mG1,mG2,mG3,mG4,mG5,mG6,mG7,mG8,mG9,Q5j,Q5b,Q5c,Q5h,Q4z,Q51]
theorem C9:∀ m∈S_,Qd Tryz.prog 78 m:=by
 intro m hm;simp only[S_,List.mem_cons,List.not_mem_nil,or_false] at hm;rcases hm with rfl|rfl|rfl|rfl|rfl|rfl|rfl|rfl|rfl|rfl|rfl|rfl|rfl|rfl|rfl
 ·exact Q0o
 ·exact Q2b
 ·exact Q0m
 ·exact Q2c
 ·exact OK
 ·exact Q11
 ·exact Q0w
 ·exact Q2d
 ·exact Q1a
 ·exact I5
 ·exact Og
 ·exact Od
 ·exact I6
 ·exact IE
 ·exact Ii
noncomputable def Q59:List (Option FEnt):=[
 none,
 none,
 some (.code c2 [] 1),
 some (.code c3 [.tmp 4] 236),
 some (.code c4 [.tmp 6] 80),
 some (.code c5 [.tmp 4] 82),
 some (.code c6 [.tmp 4] 204),
 some (.code c7 [.tmp 4] 280),
 some (.code c8 [.tmp 6] 337),
 some (.code c9 [.tmp 4] 271),
 some (.code c10 [.tmp 6] 184),
 some (.code c11 [.tmp 4] 14),
 some (.code c12 [.tmp 4] 18),
 some (.code c13 [.tmp 0] 193),
 some (.code c14 [.tmp 2] 6),
 some (.codeJ c15 [.tmp 4,.tmp 5] 15),
 some (.codeJ c16 [.tmp 4,.tmp 5] 18),
 some (.code c17 [.tmp 4] 26),
 some (.code c18 [.tmp 8] 65),
 some (.code c19 [.tmp 4] 29),
 some (.code c20 [.tmp 6] 15),
 some (.code c21 [.tmp 6] 33),
 some (.code c22 [.tmp 6] 31),
 some (.code c23 [.tmp 2] 11),
 some (.codeJ c24 [.tmp 6,.tmp 7] 29),
 some (.code c25 [.tmp 6,.tmp 7] 77),
 some (.code c26 [.tmp 4] 26),
 some (.codeJ c27 [.tmp 4,.tmp 5,.tmp 6] 73),
 some (.code c28 [.tmp 8,.tmp 9] 65),
 some (.code c29 [.tmp 6] 41),
 some (.code c30 [.tmp 2] 32),
 some (.code c31 [.tmp 2] 6),
 some (.codeJ c32 [.cell 6 true 2,.tmp 7,.tmp 8] 37),
 some (.codeJ c33 [.cell 8 true 2,.tmp 9] 103),
 some (.code c34 [.tmp 10,.tmp 11] 83),
 some (.code c35 [.cell 2 true 2] 22),
 some (.code c36 [.tmp 2] 51),
 some (.code c37 [.tmp 4] 39),
 some (.code c38 [.tmp 6] 24),
 some (.codeJ c39 [.cell 4 true 2,.tmp 5] 52),
 some (.code c40 [.tmp 2] 6),
 some (.code c41 [.tmp 2] 6),
 some (.code c42 [.tmp 6,.tmp 7,.tmp 8] 61),
 some (.code c43 [.tmp 2] 44),
 some (.code c44 [.tmp 8] 59),
 some (.code c45 [.tmp 0] 10),
 some (.code c46 [.tmp 2] 9),
 some (.codeJ c47 [.tmp 4,.tmp 5] 23),
 some (.code c48 [.cell 4 true 2] 8),
 some (.code c49 [.tmp 4,.tmp 5,.tmp 6] 29),
 some (.code c50 [.tmp 4] 24),
 some (.code c51 [.cell 4 true 2,.tmp 5] 21),
 some (.code c52 [.tmp 2] 13),
 some (.codeJ c53 [.tmp 4,.tmp 5] 62),
 some (.code c54 [.tmp 4] 40),
 some (.code c55 [.tmp 4] 63),
 some (.codeM c56 [.tmp 2] 15 LX),
 some (.codeJ c57 [.tmp 6] 21),
 some (.code c58 [.tmp 6] 31),
 some (.code c59 [.cell 6 true 3,.tmp 7] 33),
 some (.codeJ c60 [.tmp 2,.tmp 3] 41),
 some (.code c61 [.tmp 6] 11),
 some (.code c62 [.cell 0 true 2] 2),
 some (.code c63 [.tmp 2] 4),
 some (.code c64 [.cell 6 true 2] 44),
 some (.code c65 [.cell 4 true 2] 16),
 some (.code c66 [.cell 4 true 2] 17),
 some (.code c67 [.tmp 8,.tmp 9] 47),
 some (.code c68 [.tmp 4] 16),
 some (.code c69 [.tmp 2] 10),
 some (.code c70 [.cell 2 true 2] 61),
 some (.code c71 [.tmp 4] 9),
 some (.code c72 [.tmp 3] 9),
 some (.code c73 [.tmp 4] 20),
 some (.code c74 [.tmp 4] 26),
 some (.code c75 [.tmp 4] 17),
 some (.codeJ c76 [.tmp 2] 16),
 some (.code c77 [.tmp 2,.tmp 3] 64),
 some (.codeM c78 [.tmp 4] 24 S_),
 some (.codeM c79 [.tmp 4] 38 Cr),
 some (.code c80 [.tmp 2] 18),
 some (.code c81 [.tmp 4] 20),
 some (.code c82 [.tmp 4] 36),
 some (.code c83 [.tmp 2] 8),
 some (.code c84 [.tmp 2] 15),
 some (.code c85 [.tmp 4] 9),
 some (.code c86 [.cell 6 true 2] 44),
 some (.code c87 [.tmp 4] 9),
 some (.code c88 [.tmp 4] 13),
 some (.code c89 [] 19),
 some (.code c90 [.tmp 4] 9),
 some (.code c91 [.tmp 2] 6),
 some (.code c92 [.tmp 2] 32),
 some (.code c93 [.tmp 4] 19),
 some (.code c94 [] 9),
 some (.code c95 [.tmp 5] 36),
 some (.code c96 [] 11),
 some (.code c97 [] 14),
 some (.code c98 [.tmp 3] 11),
 some (.code c99 [.tmp 2] 6),
 some (.code Q4l [.tmp 2] 14),
 some (.code Q34 [.tmp 2] 14),
 some (.code Q3i [.tmp 4] 19),
 some (.code Q2x [.tmp 4] 19),
 some (.code Q2v [.tmp 4] 19),
 some (.code Q4a [] 63),
 some (.code Q4i [] 134),
 some (.code Q4r [.tmp 2] 8),
 some (.code Q4m [] 148),
 some (.code Q4t [] 53),
 some (.code Q4e [] 220),
 some (.code Q4b [] 49),
 some (.code Q36 [] 56),
 some (.code Q48 [] 65),
 some (.code Q3k [.tmp 6,.tmp 7] 57),
 some (.code Q4o [] 32),
 some (.code Q4p [.tmp 6] 133),
 some (.code Q46 [.tmp 4] 17),
 some (.code Q4q [.tmp 8] 84),
 some (.code Q3s [.tmp 8,.tmp 9] 168),
 some (.code Q49 [.tmp 2] 19),
 some (.code Q39 [.tmp 2] 25),
 some (.code Q43 [] 53),
 some (.code Q4v [] 60),
 some (.code Q37 [] 67),
 some (.code Q4s [.tmp 8,.tmp 9] 63),
 some (.code Q3j [] 34),
 some (.code Q3c [.tmp 8] 141),
 some (.code Q40 [.tmp 10] 90),
 some (.code Q4k [.tmp 10,.tmp 11] 178),
 some (.code Q3a [] 58),
 some (.code Q3v [] 76),
 some (.code Q3g [.tmp 2] 7),
 some (.code Q3x [.tmp 2] 33),
 some (.code Q3f [.tmp 6] 15),
 some (.code Q3l [.tmp 10] 36),
 some (.code Q41 [] 82),
 some (.code Q4x [.tmp 8] 18),
 some (.code Q45 [.tmp 12] 41),
 some (.code Q4w [] 38),
 some (.code Q3y [.tmp 8,.tmp 9] 28),
 some (.code Q4f [.tmp 10,.tmp 11] 32)]
noncomputable def tab:Tab:=fun f=>(Q59[f]?).join
theorem IX:EntsOk Tryz.prog 0 Q59:=⟨trivial,trivial,Q5x,Q5z,Q5q,fun5,Q5g,Q57,Q5l,Q53,Q0f,O6,OG,Ob,ID,OM,Q00,IU,Q02,Q2n,I8,OU,Q01,Q16,Q2p,Q1i,IB,O8,IL,Q0g,Q26,Q06,Q0x,O_,Q2o,Q1m,Q1t,Q0u,Q1n,Q2r,Q1r,Q0k,OI,O0,Oc,OY,Q13,Q25,Q1s,OX,Q2g,F_,Q2j,Q08,Q14,Ie,⟨IT,Lk⟩,O5,Oh,Q04,Q2k,Iy,Q12,Q2u,OF,Q23,Q0s,OW,Q2h,IJ,I1,OJ,Q1z,I2,Q18,Q2e,Q1p,Q1l,⟨Q15,C9⟩,⟨I4,CY⟩,Q1b,Q0z,OD,II,Q1x,Q05,Q0a,Im,Om,Q24,Iu,IQ,IA,Q1v,Q1h,OS,Q1u,Q0n,IM,Q07,F6,C_,Fj,LN,C5,Fz,FC,EE,FP,EF,FK,FI,EZ,Fc,EX,Fg,Ep,EK,FT,FW,Ex,EI,F5,FB,Ft,ER,FH,ED,F9,EC,EG,FO,EO,Fe,Fb,FV,EU,EH,FL,FU,EN,Eu,trivial⟩
theorem Q1e:TabOk Tryz.prog tab:=TT IX
theorem CW:Hd tab 300 WQ [] c13 none (ET.of [] 193) CH.empty (Ir false [.tmp 0] fun v _=>isTrue v)=true:=by kernel_rfl
theorem E2 {σ:Heap}{K:Value→Heap→Prop}(hK:K (.bool true) σ):VCalled Tryz.prog 13 [] σ K:=As mixed Q1e 300 Ob (by decide) CW hK
end Go.Proofs.Tryz
set_option linter.unusedVariables false
namespace Go.Proofs.Tryz
open Go Go.V Go.Proofs
def GF:AL (Unit):=.nil
def G4 (d:Unit):Prop:=True
def Mk (d:Unit):SV:=.val .bo true
def Gj (d:Unit):List OB:=[]
def VR:CSp:=YC GF G4 Mk Gj
abbrev GM:Prop:=OkC Tryz.prog 13 VR
theorem D1:GM:=AH fun _ _ h=>E2 h
end Go.Proofs.Tryz
set_option linter.unusedVariables false
namespace Go.Proofs.Tryz
open Go Go.V Go.Proofs
def Gn:AL (Int×Int×Int):=(.cons (.k (.i .i64)) (.cons (.k (.i .i64)) (.one (.k (.i .i64)))))
def HD (d:Int×Int×Int):Prop:=True
def UZ (d:Int×Int×Int):SV:=.val .bo (inI d.1 d.2.1 d.2.2)
def Nb (d:Int×Int×Int):List OB:=[]
def Kz:CSp:=YC Gn HD UZ Nb
def Yh (n:Int) (a:Int) (b:Int):Prop :=
 (((decide (n≥a))&&(decide (n≤b)))=(inI n a b)∧(True))
def ME:Cx:=⟨[],[],15,[],0,[],[],[],[],false,[],[],[],[]⟩
def Tr (n:Int) (a:Int) (b:Int):List (Nat×LoopAnn):=[]
set_option maxRecDepth 100000 in
theorem Tn (d:Int×Int×Int):gwp (ME) (Tr d.1 d.2.1 d.2.2) c20 0 (VJ [.tmp 6] (UZ d) (Nb d)) (QX 15 (AL.can Gn d))=Yh d.1 d.2.1 d.2.2:=by kernel_rfl
abbrev Ty:Prop:=OkC Tryz.prog 20 Kz
theorem TB (h:∀ (n:Int) (a:Int) (b:Int),(True)→Yh n a b):OkC Tryz.prog 20 Kz :=
 Zx I8 mixed (C:=ME) (V:=fun (d:Int×Int×Int)=>Yh d.1 d.2.1 d.2.2) ⟨.nil,XsOk.nil,ItsOk.nil,YlOk.nil,IysOk.nil,XfOk.nil⟩ (Tn) fun d hp=>h d.1 d.2.1 d.2.2 hp
theorem Mz:Ty:=TB fun n a b _=>by simp[Yh,inI]
end Go.Proofs.Tryz
set_option linter.unusedVariables false
namespace Go.Proofs.Tryz
open Go Go.V Go.Proofs
abbrev Lot:=Int×(Int×Int)×Int
def Zs:Lot:=(0,((0,0),0))
def QP (x:Lot):Bool:=inI x.1 0 9&&(inI x.2.1.1 0 1000&&inI x.2.1.2 0 1000)&&decide (x.2.1.1≤x.2.1.2)&&inI x.2.2 1 1000000
def Qo (l:List Lot):Int:=if 12<l.length then 5 else if l.any (fun x=>!QP x) then 2 else 0
def Vi (a b:Lot):Int:=BC (a.2.1.2-b.2.1.1) (b.2.1.2-a.2.1.1)
def Q31 (s:Int×Int×Int×Int) (y:Lot):Int×Int×Int×Int:=(BC s.1 y.2.1.1,GZ s.2.1 y.2.1.2,GZ s.2.2.1 y.2.1.1,BC s.2.2.2 y.2.1.2)
def YF (l:List Lot) (k:Nat):Int×Int×Int×Int:=(l.take k).foldl Q31 ((l.getD 0 Zs).2.1.1,(l.getD 0 Zs).2.1.2,(l.getD 0 Zs).2.1.1,(l.getD 0 Zs).2.1.2)
def Fm (l:List Lot):Sp:=(BC 0 ((YF l l.length).1-(YF l l.length).2.1),(YF l l.length).2.2.2-(YF l l.length).2.2.1)
def Y1 (l:List Lot) (sm:List Int):List Lot:=sm.map fun i=>l.getD i.toNat Zs
theorem Gk {x:Lot}:QP x=true↔(0≤x.1∧x.1≤9)∧(0≤x.2.1.1∧x.2.1.1≤1000)∧(0≤x.2.1.2∧x.2.1.2≤1000)∧x.2.1.1≤x.2.1.2∧1≤x.2.2∧x.2.2≤1000000:=by simp only[QP,inI,Bool.and_eq_true,decide_eq_true_eq];omega
theorem TN {l:List Lot}(h:l≠[]):YF l 1=((l.getD 0 Zs).2.1.1,(l.getD 0 Zs).2.1.2,(l.getD 0 Zs).2.1.1,(l.getD 0 Zs).2.1.2):=by
 cases l with
 |nil=>exact(h rfl).elim
 |cons x l =>
  have g:∀ a:Int,BC a a=a:=fun a=>by rw[UB];omega
  have m:∀ a:Int,GZ a a=a:=fun a=>by rw[Bi];omega
  simp[YF,Q31,g,m]
theorem PU {l:List Lot}{k:Nat}(h:k<l.length):YF l (k+1)=Q31 (YF l k) l[k]:=by unfold YF;rw[Xf h,List.foldl_append];rfl
theorem MW {l:List Lot}(h:l≠[]):∀ k,1≤k→k≤l.length →
  (∀ i,i<k→(l.getD i Zs).2.1.1≤(YF l k).1∧(YF l k).2.1≤(l.getD i Zs).2.1.2∧(YF l k).2.2.1≤(l.getD i Zs).2.1.1∧(l.getD i Zs).2.1.2≤(YF l k).2.2.2) ∧
  (∃ i,i<k∧(YF l k).1=(l.getD i Zs).2.1.1)∧(∃ i,i<k∧(YF l k).2.1=(l.getD i Zs).2.1.2)∧(∃ i,i<k∧(YF l k).2.2.1=(l.getD i Zs).2.1.1)∧∃ i,i<k∧(YF l k).2.2.2=(l.getD i Zs).2.1.2
 |0,h1,_=>by omega
 |1,_,_=>by
  rw[TN h];refine⟨fun i hi=>?_,⟨0,by omega,rfl⟩,⟨0,by omega,rfl⟩,⟨0,by omega,rfl⟩,⟨0,by omega,rfl⟩⟩;have:i=0:=by omega
  subst this;exact⟨Int.le_refl _,Int.le_refl _,Int.le_refl _,Int.le_refl _⟩
 |k+2,_,hk=>by
  obtain⟨a,⟨i1,b1,c1⟩,⟨i2,b2,c2⟩,⟨i3,b3,c3⟩,⟨i4,b4,c4⟩⟩:=MW h (k+1) (by omega) (by omega);rw[PU (show k+1<l.length by omega)];have a7:l.getD (k+1) Zs=l[k+1]:=Ql (by omega);have e1:=UB (YF l (k+1)).1 l[k+1].2.1.1;have e2:=Bi (YF l (k+1)).2.1 l[k+1].2.1.2;have e3:=Bi (YF l (k+1)).2.2.1 l[k+1].2.1.1;have e4:=UB (YF l (k+1)).2.2.2 l[k+1].2.1.2;unfold Q31;dsimp only;refine⟨fun i hi=>?_,?_,?_,?_,?_⟩
  ·by_cases h5:i=k+1
   ·subst h5;rw[a7];omega
   ·have:=a i (by omega);omega
  ·by_cases h5:(YF l (k+1)).1≤l[k+1].2.1.1
   ·exact⟨k+1,by omega,by rw[a7];omega⟩
   ·exact⟨i1,by omega,by omega⟩
  ·by_cases h5:l[k+1].2.1.2≤(YF l (k+1)).2.1
   ·exact⟨k+1,by omega,by rw[a7];omega⟩
   ·exact⟨i2,by omega,by omega⟩
  ·by_cases h5:l[k+1].2.1.1≤(YF l (k+1)).2.2.1
   ·exact⟨k+1,by omega,by rw[a7];omega⟩
   ·exact⟨i3,by omega,by omega⟩
  ·by_cases h5:(YF l (k+1)).2.2.2≤l[k+1].2.1.2
   ·exact⟨k+1,by omega,by rw[a7];omega⟩
   ·exact⟨i4,by omega,by omega⟩
end Go.Proofs.Tryz
set_option linter.unusedVariables false
namespace Go.Proofs.Tryz
open Go Go.V Go.Proofs
def Ve:AL (Int×Int×Int×Int):=(.one (.agg (.cons (.k (.i .i64)) (.cons (.k (.i .i64)) (.cons (.k (.i .i64)) (.one (.k (.i .i64))))))))
def M9 (d:Int×Int×Int×Int):Prop:=True
def YW (d:Int×Int×Int×Int):SV:=.val .bo (QP (d.1,(d.2.1,d.2.2.1),d.2.2.2))
def Kt (d:Int×Int×Int×Int):List OB:=[]
def Yv:CSp:=YC Ve M9 YW Kt
def X1 (lc:Int) (lo:Int) (hi:Int) (lg:Int):Prop :=
 ([lc].length≤1000000)∧((!([lc].any fun n=>decide (n<(0:Int))||decide ((9:Int)<n)))=true→True)∧((!([lc].any fun n=>decide (n<(0:Int))||decide ((9:Int)<n)))=true→[lo,hi].length≤1000000)∧((((!([lc].any fun n=>decide (n<(0:Int))||decide ((9:Int)<n)))&&(!([lo,hi].any fun n=>decide (n<(0:Int))||decide ((1000:Int)<n))))&&(decide (lo≤hi)))=true→True)∧((((!([lc].any fun n=>decide (n<(0:Int))||decide ((9:Int)<n)))&&(!([lo,hi].any fun n=>decide (n<(0:Int))||decide ((1000:Int)<n))))&&(decide (lo≤hi)))=true→[lg].length≤1000000)∧(((((!([lc].any fun n=>decide (n<(0:Int))||decide ((9:Int)<n)))&&(!([lo,hi].any fun n=>decide (n<(0:Int))||decide ((1000:Int)<n))))&&(decide (lo≤hi)))&&(!([lg].any fun n=>decide (n<(1:Int))||decide ((1000000:Int)<n))))=(QP (lc,(lo,hi),lg))∧(True))
def Vd:Cx:=⟨[(3,(.i .i64))],[(61,Je)],32,[],0,[],[],[],[],false,[],[],[],[]⟩
def Gu (lc:Int) (lo:Int) (hi:Int) (lg:Int):List (Nat×LoopAnn):=[]
set_option maxRecDepth 100000 in
theorem Gx (d:Int×Int×Int×Int):gwp (Vd) (Gu d.1 d.2.1 d.2.2.1 d.2.2.2) c92 0 (VJ [.tmp 2] (YW d) (Kt d)) (QX 32 (AL.can Ve d))=X1 d.1 d.2.1 d.2.2.1 d.2.2.2:=by kernel_rfl
abbrev Gy:Prop:=OkC Tryz.prog 92 Yv
theorem GQ (h:∀ (lc:Int) (lo:Int) (hi:Int) (lg:Int),(True)→X1 lc lo hi lg):OkC Tryz.prog 92 Yv :=
 Zx IA mixed (C:=Vd) (V:=fun (d:Int×Int×Int×Int)=>X1 d.1 d.2.1 d.2.2.1 d.2.2.2) ⟨(.cons XS .nil),XsOk.nil,ItsOk.nil,YlOk.nil,IysOk.nil,XfOk.nil⟩ (Gx) fun d hp=>h d.1 d.2.1 d.2.2.1 d.2.2.2 hp
theorem Gw:Gy:=GQ fun lc lo hi lg _=>by unfold X1;(try delta lI gD sT I64);have e:∀ n a b:Int,(decide (n<a)||decide (b<n))=!inI n a b:=fun n a b=>(nI n a b).symm;simp only[List.any_cons,List.any_nil,Bool.or_false,e,Bool.not_not,List.length_cons,List.length_nil,Bool.not_or];refine⟨by omega,fun _=>trivial,fun _=>by omega,fun _=>trivial,fun _=>by omega,?_⟩;and_intros<;>first|rfl|trivial
def Yy:AL (Int×Int×Int×Int):=(.one (.agg (.cons (.k (.i .i64)) (.cons (.k (.i .i64)) (.cons (.k (.i .i64)) (.one (.k (.i .i64))))))))
def UJ (d:Int×Int×Int×Int):Prop:=True
def WV (d:Int×Int×Int×Int):SV:=.val .bo (!QP (d.1,(d.2.1,d.2.2.1),d.2.2.2))
def Y7 (d:Int×Int×Int×Int):List OB:=[]
def Wd:CSp:=YC Yy UJ WV Y7
def Jj (lc:Int) (lo:Int) (hi:Int) (lg:Int):Prop :=
 (True)∧((!(QP (lc,(lo,hi),lg)))=(!QP (lc,(lo,hi),lg))∧(True))
def YH:Cx:=⟨[],[(92,Yv)],6,[],0,[],[],[],[],false,[],[],[],[]⟩
def Nz (lc:Int) (lo:Int) (hi:Int) (lg:Int):List (Nat×LoopAnn):=[]
set_option maxRecDepth 100000 in
theorem Nu (d:Int×Int×Int×Int):gwp (YH) (Nz d.1 d.2.1 d.2.2.1 d.2.2.2) c91 0 (VJ [.tmp 2] (WV d) (Y7 d)) (QX 6 (AL.can Yy d))=Jj d.1 d.2.1 d.2.2.1 d.2.2.2:=by kernel_rfl
abbrev Nv:Prop:=OkC Tryz.prog 91 Wd
theorem Nw (h:∀ (lc:Int) (lo:Int) (hi:Int) (lg:Int),(True)→Jj lc lo hi lg):OkC Tryz.prog 91 Wd :=
 Zx IQ mixed (C:=YH) (V:=fun (d:Int×Int×Int×Int)=>Jj d.1 d.2.1 d.2.2.1 d.2.2.2) ⟨(.cons Gw .nil),XsOk.nil,ItsOk.nil,YlOk.nil,IysOk.nil,XfOk.nil⟩ (Nu) fun d hp=>h d.1 d.2.1 d.2.2.1 d.2.2.2 hp
theorem Nx:Nv:=Nw fun lc lo hi lg _=>by unfold Jj;(try delta lI gD sT I64);and_intros<;>first|rfl|trivial
def Qw:AL ((List (Int×(Int×Int)×Int))×((Int×(Int×Int)×Int→Prop)×(Int×(Int×Int)×Int→Bool))):=(.cons (.k (.list (.pair (.i .i64) (.pair (.pair (.i .i64) (.i .i64)) (.i .i64))))) (.one (.fn [(.pair (.i .i64) (.pair (.pair (.i .i64) (.i .i64)) (.i .i64)))] .bo)))
def Zf (d:(List (Int×(Int×Int)×Int))×((Int×(Int×Int)×Int→Prop)×(Int×(Int×Int)×Int→Bool))):Prop:=d.1.length≤1000000∧∀ x∈d.1,d.2.1 x
def Qu (d:(List (Int×(Int×Int)×Int))×((Int×(Int×Int)×Int→Prop)×(Int×(Int×Int)×Int→Bool))):SV:=.val (.i .i64) (L9 d.1 d.2.2)
def Qv (d:(List (Int×(Int×Int)×Int))×((Int×(Int×Int)×Int→Prop)×(Int×(Int×Int)×Int→Bool))):List OB:=[]
def Qk:CSp:=YC Qw Zf Qu Qv
def Qb (l:List (Int×(Int×Int)×Int)) (p:(Int×(Int×Int)×Int→Prop)×(Int×(Int×Int)×Int→Bool)):Prop :=
 ∃ (e2:Unit) (d20:Int),((l=l∧(SV.pf [(.pair (.i .i64) (.pair (.pair (.i .i64) (.i .i64)) (.i .i64)))] .bo p.1 p.2=SV.pf [(.pair (.i .i64) (.pair (.pair (.i .i64) (.i .i64)) (.i .i64)))] .bo p.1 p.2)∧(lI l)=(lI l)∧(0:Int)=d20∧True)∧(True)) ∧
 LoopP (fun (d2:Int) (q2:(Int)→Prop) =>
  ((decide (d2<(lI l)))=true →
   (0≤d2)∧(d2<(List.length l))∧(p.1 ((gD l d2 (0,((0,0),0))).1,(((gD l d2 (0,((0,0),0))).2.1.1,(gD l d2 (0,((0,0),0))).2.1.2),(gD l d2 (0,((0,0),0))).2.2)))∧((p.2 ((gD l d2 (0,((0,0),0))).1,(((gD l d2 (0,((0,0),0))).2.1.1,(gD l d2 (0,((0,0),0))).2.1.2),(gD l d2 (0,((0,0),0))).2.2)))=true →
    (d2=(L9 l p.2)∧(True))) ∧
   ((p.2 ((gD l d2 (0,((0,0),0))).1,(((gD l d2 (0,((0,0),0))).2.1.1,(gD l d2 (0,((0,0),0))).2.1.2),(gD l d2 (0,((0,0),0))).2.2)))=false →
    (I64 (d2+(1:Int)))∧(∃ d3:Int,((l=l∧(SV.pf [(.pair (.i .i64) (.pair (.pair (.i .i64) (.i .i64)) (.i .i64)))] .bo p.1 p.2=SV.pf [(.pair (.i .i64) (.pair (.pair (.i .i64) (.i .i64)) (.i .i64)))] .bo p.1 p.2)∧(lI l)=(lI l)∧(d2+(1:Int))=d3∧True)∧(True))∧q2 d3))) ∧
  ((decide (d2<(lI l)))=false →
   ((-1:Int)=(L9 l p.2)∧(True)))) d20
def Qy:Cx:=⟨[],[],19,[],0,[],[],[],[],false,[],[],[],[]⟩
def Zj (l:List (Int×(Int×Int)×Int)) (p:(Int×(Int×Int)×Int→Prop)×(Int×(Int×Int)×Int→Bool)):List (Nat×LoopAnn):=[(0,⟨Unit,Int,[0,1,7,8],fun e x=>[.val (.list (.pair (.i .i64) (.pair (.pair (.i .i64) (.i .i64)) (.i .i64)))) l,.pf [(.pair (.i .i64) (.pair (.pair (.i .i64) (.i .i64)) (.i .i64)))] .bo p.1 p.2,.val (.i .i64) (((List.length l):Nat):Int),.val (.i .i64) x],fun e x=>[]⟩)]
set_option maxRecDepth 100000 in
theorem Zr (d:(List (Int×(Int×Int)×Int))×((Int×(Int×Int)×Int→Prop)×(Int×(Int×Int)×Int→Bool))):gwp (Qy) (Zj d.1 d.2) Q2v 0 (VJ [.tmp 4] (Qu d) (Qv d)) (QX 19 (AL.can Qw d))=Qb d.1 d.2:=by kernel_rfl
abbrev Zo:Prop:=OkC Tryz.prog 104 Qk
theorem Zk (h:∀ (l:List (Int×(Int×Int)×Int)) (p:(Int×(Int×Int)×Int→Prop)×(Int×(Int×Int)×Int→Bool)),(l.length≤1000000∧∀ x∈l,p.1 x)→Qb l p):OkC Tryz.prog 104 Qk :=
 Zx C5 mixed (C:=Qy) (V:=fun (d:(List (Int×(Int×Int)×Int))×((Int×(Int×Int)×Int→Prop)×(Int×(Int×Int)×Int→Bool)))=>Qb d.1 d.2) ⟨.nil,XsOk.nil,ItsOk.nil,YlOk.nil,IysOk.nil,XfOk.nil⟩ (Zr) fun d hp=>h d.1 d.2 hp
theorem Zq:Zo:=Zk fun l p hp=>by
 unfold Qb;(try delta lI gD sT I64);simp only[true_and,and_true,exists_eq_left',exists_const,decide_eq_true_eq,decide_eq_false_iff_not];refine LoopP.count l.length (fun k=>(l.take k).any p.2=false) (by simp) fun k a7 hJ q hq=>?_;simp only[Int.toNat_natCast,Int.ofNat_lt,QR];refine⟨fun ai=>?_,fun bq=>?_⟩
 ·have ai:k<l.length:=by omega
  rw[Ql ai];refine⟨by omega,by omega,hp.2 _ (List.getElem_mem ai),fun hx=>?_,fun hx=>⟨by omega,hq ai ?_⟩⟩
  ·rw[Cz ai hx hJ]
  ·rw[Xf ai,List.any_append,hJ];simp[hx]
 ·rw[List.take_of_length_le (by omega)] at hJ;rw[PD hJ]
def Qs:AL ((List (Int×(Int×Int)×Int))×((Int×(Int×Int)×Int→Prop)×(Int×(Int×Int)×Int→Bool))):=(.cons (.k (.list (.pair (.i .i64) (.pair (.pair (.i .i64) (.i .i64)) (.i .i64))))) (.one (.fn [(.pair (.i .i64) (.pair (.pair (.i .i64) (.i .i64)) (.i .i64)))] .bo)))
def QZ (d:(List (Int×(Int×Int)×Int))×((Int×(Int×Int)×Int→Prop)×(Int×(Int×Int)×Int→Bool))):Prop:=d.1.length≤1000000∧∀ x∈d.1,d.2.1 x
def Qq (d:(List (Int×(Int×Int)×Int))×((Int×(Int×Int)×Int→Prop)×(Int×(Int×Int)×Int→Bool))):SV:=.val .bo (d.1.any d.2.2)
def Qp (d:(List (Int×(Int×Int)×Int))×((Int×(Int×Int)×Int→Prop)×(Int×(Int×Int)×Int→Bool))):List OB:=[]
def Qa:CSp:=YC Qs QZ Qq Qp
def Q9 (l:List (Int×(Int×Int)×Int)) (p:(Int×(Int×Int)×Int→Prop)×(Int×(Int×Int)×Int→Bool)):Prop :=
 (l.length≤1000000∧∀ x∈l,(fun (x1:Int×(Int×Int)×Int)=>p.1 (x1.1,((x1.2.1.1,x1.2.1.2),x1.2.2))) x)∧((decide ((L9 l (fun (x1:Int×(Int×Int)×Int)=>(p.2 (x1.1,((x1.2.1.1,x1.2.1.2),x1.2.2)))))≥(0:Int)))=(l.any p.2)∧(True))
def Qt:Cx:=⟨[],[(104,Qk)],9,[],0,[],[],[],[],false,[],[],[],[]⟩
def Z3 (l:List (Int×(Int×Int)×Int)) (p:(Int×(Int×Int)×Int→Prop)×(Int×(Int×Int)×Int→Bool)):List (Nat×LoopAnn):=[]
set_option maxRecDepth 100000 in
theorem Z1 (d:(List (Int×(Int×Int)×Int))×((Int×(Int×Int)×Int→Prop)×(Int×(Int×Int)×Int→Bool))):gwp (Qt) (Z3 d.1 d.2) c90 0 (VJ [.tmp 4] (Qq d) (Qp d)) (QX 9 (AL.can Qs d))=Q9 d.1 d.2:=by kernel_rfl
abbrev Z0:Prop:=OkC Tryz.prog 90 Qa
theorem Z2 (h:∀ (l:List (Int×(Int×Int)×Int)) (p:(Int×(Int×Int)×Int→Prop)×(Int×(Int×Int)×Int→Bool)),(l.length≤1000000∧∀ x∈l,p.1 x)→Q9 l p):OkC Tryz.prog 90 Qa :=
 Zx Iu mixed (C:=Qt) (V:=fun (d:(List (Int×(Int×Int)×Int))×((Int×(Int×Int)×Int→Prop)×(Int×(Int×Int)×Int→Bool)))=>Q9 d.1 d.2) ⟨(.cons Zq .nil),XsOk.nil,ItsOk.nil,YlOk.nil,IysOk.nil,XfOk.nil⟩ (Z1) fun d hp=>h d.1 d.2 hp
theorem Qr:Z0:=Z2 fun l p hp=>by simp only[Q9];exact⟨hp,AA l p.2,trivial⟩
def V2:AL (List (Int×(Int×Int)×Int)):=(.one (.k (.list (.pair (.i .i64) (.pair (.pair (.i .i64) (.i .i64)) (.i .i64))))))
def Mp (d:List (Int×(Int×Int)×Int)):Prop:=d.length≤1000
def YQ (d:List (Int×(Int×Int)×Int)):SV:=.val (.i .i64) (Qo d)
def K6 (d:List (Int×(Int×Int)×Int)):List OB:=[]
def XH:CSp:=YC V2 Mp YQ K6
def X0 (l:List (Int×(Int×Int)×Int)):Prop :=
 ((decide ((lI l) > (12:Int)))=true →
  ((5:Int)=(Qo l)∧(True))) ∧
 ((decide ((lI l) > (12:Int)))=false →
  (l.length≤1000000∧∀ x∈l,(fun (x1:Int×(Int×Int)×Int)=>True) x)∧((l.any (fun (x1:Int×(Int×Int)×Int)=>(!QP (x1.1,(x1.2.1.1,x1.2.1.2),x1.2.2))))=true →
   ((2:Int)=(Qo l)∧(True))) ∧
  ((l.any (fun (x1:Int×(Int×Int)×Int)=>(!QP (x1.1,(x1.2.1.1,x1.2.1.2),x1.2.2))))=false →
   ((0:Int)=(Qo l)∧(True))))
def V7:Cx:=⟨[],[(90,Qa),(91,Wd)],10,[],0,[],[],[],[],false,[],[],[],[]⟩
def GS (l:List (Int×(Int×Int)×Int)):List (Nat×LoopAnn):=[]
set_option maxRecDepth 100000 in
theorem GK (d:List (Int×(Int×Int)×Int)):gwp (V7) (GS d) c69 0 (VJ [.tmp 2] (YQ d) (K6 d)) (QX 10 (AL.can V2 d))=X0 d:=by kernel_rfl
abbrev GV:Prop:=OkC Tryz.prog 69 XH
theorem Gz (h:∀ (l:List (Int×(Int×Int)×Int)),(l.length≤1000)→X0 l):OkC Tryz.prog 69 XH :=
 Zx IJ mixed (C:=V7) (V:=fun (d:List (Int×(Int×Int)×Int))=>X0 d) ⟨(.cons Qr (.cons Nx .nil)),XsOk.nil,ItsOk.nil,YlOk.nil,IysOk.nil,XfOk.nil⟩ (GK) fun d hp=>h d hp
theorem Vf:GV:=Gz fun l hl=>by
 unfold X0;(try delta lI gD sT I64)
 (try simp only[decide_eq_true_eq,decide_eq_false_iff_not])
 refine⟨fun h1=>⟨?_,trivial⟩,fun h1=>⟨⟨by omega,fun _ _=>trivial⟩,fun h2=>⟨?_,trivial⟩,fun h2=>⟨?_,trivial⟩⟩⟩
 ·unfold Qo;rw[if_pos (by omega)]
 ·unfold Qo;rw[if_neg (by omega),if_pos h2]
 ·unfold Qo;rw[if_neg (by omega),if_neg (by rw[show (l.any fun x=>!QP x)=false from h2];decide)]
def Nm:AL (List (Int×(Int×Int)×Int)):=(.one (.k (.list (.pair (.i .i64) (.pair (.pair (.i .i64) (.i .i64)) (.i .i64))))))
def He (d:List (Int×(Int×Int)×Int)):Prop:=d.length≤1000
def VT (d:List (Int×(Int×Int)×Int)):SV:=.lst 0
def Un (d:List (Int×(Int×Int)×Int)):List OB:=[.lst 78 (.pair (.i .i64) (.pair (.pair (.i .i64) (.i .i64)) (.i .i64))) d false]
def Vr:CSp:=YC Nm He VT Un
def Wy (l:List (Int×(Int×Int)×Int)):Prop :=
 (((List.length ([]:List (Int×(Int×Int)×Int)))+(List.length l))*32≤70368744177664)∧(True∧(((([]:List (Int×(Int×Int)×Int))++l)=l∧((List.isEmpty l)&&false)=false)∧True))
def Nf:Cx:=⟨[(78,(.pair (.i .i64) (.pair (.pair (.i .i64) (.i .i64)) (.i .i64))))],[],6,[],0,[],[],[],[],false,[],[],[],[]⟩
def PS (l:List (Int×(Int×Int)×Int)):List (Nat×LoopAnn):=[]
set_option maxRecDepth 100000 in
theorem Pw (d:List (Int×(Int×Int)×Int)):gwp (Nf) (PS d) c14 0 (VJ [.tmp 2] (VT d) (Un d)) (QX 6 (AL.can Nm d))=Wy d:=by kernel_rfl
abbrev Po:Prop:=OkC Tryz.prog 14 Vr
theorem Pt (h:∀ (l:List (Int×(Int×Int)×Int)),(l.length≤1000)→Wy l):OkC Tryz.prog 14 Vr :=
 Zx ID mixed (C:=Nf) (V:=fun (d:List (Int×(Int×Int)×Int))=>Wy d) ⟨.nil,XsOk.nil,ItsOk.nil,YlOk.nil,IysOk.nil,XfOk.nil⟩ (Pw) fun d hp=>h d hp
theorem Pd:Po:=Pt fun l h=>by
 have h1:l.length*32≤70368744177664:=by omega
 simp[Wy,h1]
def VW:AL ((List (Int×(Int×Int)×Int))×List (Int×(Int×Int)×Int)):=(.cons (.k (.list (.pair (.i .i64) (.pair (.pair (.i .i64) (.i .i64)) (.i .i64))))) (.one (.k (.list (.pair (.i .i64) (.pair (.pair (.i .i64) (.i .i64)) (.i .i64)))))))
def GL (d:(List (Int×(Int×Int)×Int))×List (Int×(Int×Int)×Int)):Prop:=d.1.length≤1000
def Vm (d:(List (Int×(Int×Int)×Int))×List (Int×(Int×Int)×Int)):SV:=.val .bo (d.1==d.2)
def V4 (d:(List (Int×(Int×Int)×Int))×List (Int×(Int×Int)×Int)):List OB:=[]
def K4:CSp:=YC VW GL Vm V4
def XA (a:List (Int×(Int×Int)×Int)) (b:List (Int×(Int×Int)×Int)):Prop :=
 (((lI a) != (lI b))=true →
  (false=(a==b)∧(True))) ∧
 (((lI a) != (lI b))=false →
  ∃ (e2:Unit) (d20:Int),((a=a∧b=b∧(0:Int)=d20∧True)∧(True)) ∧
  LoopP (fun (d2:Int) (q2:(Int)→Prop) =>
   ((decide (d2<(lI a)))=true →
    (0≤d2)∧(d2<(List.length a))∧(0≤d2)∧(d2<(List.length b))∧((!(((gD a d2 (0,((0,0),0))).1==(gD b d2 (0,((0,0),0))).1)&&(((gD a d2 (0,((0,0),0))).2.1.1==(gD b d2 (0,((0,0),0))).2.1.1)&&(((gD a d2 (0,((0,0),0))).2.1.2==(gD b d2 (0,((0,0),0))).2.1.2)&&((gD a d2 (0,((0,0),0))).2.2==(gD b d2 (0,((0,0),0))).2.2)))))=true →
     (false=(a==b)∧(True))) ∧
    ((!(((gD a d2 (0,((0,0),0))).1==(gD b d2 (0,((0,0),0))).1)&&(((gD a d2 (0,((0,0),0))).2.1.1==(gD b d2 (0,((0,0),0))).2.1.1)&&(((gD a d2 (0,((0,0),0))).2.1.2==(gD b d2 (0,((0,0),0))).2.1.2)&&((gD a d2 (0,((0,0),0))).2.2==(gD b d2 (0,((0,0),0))).2.2)))))=false →
     (I64 (d2+(1:Int)))∧(∃ d3:Int,((a=a∧b=b∧(d2+(1:Int))=d3∧True)∧(True))∧q2 d3))) ∧
   ((decide (d2<(lI a)))=false →
    (true=(a==b)∧(True)))) d20)
def Up:Cx:=⟨[],[],26,[],0,[],[],[],[],false,[],[],[],[]⟩
def H4 (a:List (Int×(Int×Int)×Int)) (b:List (Int×(Int×Int)×Int)):List (Nat×LoopAnn):=[(0,⟨Unit,Int,[0,1,5],fun e x=>[.val (.list (.pair (.i .i64) (.pair (.pair (.i .i64) (.i .i64)) (.i .i64)))) a,.val (.list (.pair (.i .i64) (.pair (.pair (.i .i64) (.i .i64)) (.i .i64)))) b,.val (.i .i64) x],fun e x=>[]⟩)]
set_option maxRecDepth 100000 in
theorem BL (d:(List (Int×(Int×Int)×Int))×List (Int×(Int×Int)×Int)):gwp (Up) (H4 d.1 d.2) c17 0 (VJ [.tmp 4] (Vm d) (V4 d)) (QX 26 (AL.can VW d))=XA d.1 d.2:=by kernel_rfl
abbrev Bs:Prop:=OkC Tryz.prog 17 K4
theorem D_ (h:∀ (a:List (Int×(Int×Int)×Int)) (b:List (Int×(Int×Int)×Int)),(a.length≤1000)→XA a b):OkC Tryz.prog 17 K4 :=
 Zx IU mixed (C:=Up) (V:=fun (d:(List (Int×(Int×Int)×Int))×List (Int×(Int×Int)×Int))=>XA d.1 d.2) ⟨.nil,XsOk.nil,ItsOk.nil,YlOk.nil,IysOk.nil,XfOk.nil⟩ (BL) fun d hp=>h d.1 d.2 hp
theorem DZ:Bs:=D_ fun a b h=>by
 unfold XA;(try delta lI gD sT I64)
 (try simp only[decide_eq_true_eq,decide_eq_false_iff_not])
 refine⟨fun hx=>?_,fun hx=>⟨(),0,(by and_intros<;>first|rfl|trivial|simp),?_⟩⟩
 ·refine⟨Eq.symm ?_,trivial⟩;rw[beq_eq_false_iff_ne];rintro rfl;simp at hx
 have hl:a.length=b.length:=by simp only[bne_eq_false_iff_eq] at hx;omega
 refine LoopP.count a.length (fun k=>∀ i,i<k→a.getD i Zs=b.getD i Zs) (fun i hi=>by omega) fun k hk hJ q hq=>?_;simp only[Int.toNat_natCast,QR];have hd:∀ l:List Lot,l.getD k (0,((0,0),0))=l.getD k Zs:=fun _=>rfl;refine⟨fun ai=>⟨by omega,by omega,by omega,by omega,fun hx=>?_,fun hx=>⟨by omega,_,(by and_intros<;>first|rfl|trivial|simp),hq (by omega) fun i hi=>?_⟩⟩,fun bq=>?_⟩
 ·refine⟨Eq.symm ?_,trivial⟩;rw[beq_eq_false_iff_ne];rintro rfl;simp at hx
 ·rcases Nat.lt_succ_iff_lt_or_eq.1 hi with hi|rfl
  ·exact hJ i hi
  ·simp only[Bool.not_eq_false',Bool.and_eq_true,beq_iff_eq,hd] at hx;obtain⟨x1,x2,x3,x4⟩:=hx;exact Prod.ext x1 (Prod.ext (Prod.ext x2 x3) x4)
 ·have hk:k=a.length:=by omega
  subst hk;refine⟨Eq.symm ?_,trivial⟩;rw[beq_iff_eq];exact List.ext_getElem hl fun i h1 h2=>by
   have:=hJ i h1
   rwa [Ql h1,Ql h2] at this
def VY:AL (List Int×List Int):=(.cons (.k (.list (.i .i64))) (.one (.k (.list (.i .i64)))))
def GH (d:List Int×List Int):Prop:=d.1.length≤1000
def Vk (d:List Int×List Int):SV:=.val .bo (d.1==d.2)
def Vn (d:List Int×List Int):List OB:=[]
def Kv:CSp:=YC VY GH Vk Vn
def XE (a:List Int) (b:List Int):Prop :=
 (((lI a) != (lI b))=true →
  (false=(a==b)∧(True))) ∧
 (((lI a) != (lI b))=false →
  ∃ (e2:Unit) (d20:Int),((a=a∧b=b∧(0:Int)=d20∧True)∧(True)) ∧
  LoopP (fun (d2:Int) (q2:(Int)→Prop) =>
   ((decide (d2<(lI a)))=true →
    (0≤d2)∧(d2<(List.length a))∧(0≤d2)∧(d2<(List.length b))∧(((gD a d2 0) != (gD b d2 0))=true →
     (false=(a==b)∧(True))) ∧
    (((gD a d2 0) != (gD b d2 0))=false →
     (I64 (d2+(1:Int)))∧(∃ d3:Int,((a=a∧b=b∧(d2+(1:Int))=d3∧True)∧(True))∧q2 d3))) ∧
   ((decide (d2<(lI a)))=false →
    (true=(a==b)∧(True)))) d20)
def Ui:Cx:=⟨[],[],26,[],0,[],[],[],[],false,[],[],[],[]⟩
def BB (a:List Int) (b:List Int):List (Nat×LoopAnn):=[(0,⟨Unit,Int,[0,1,5],fun e x=>[.val (.list (.i .i64)) a,.val (.list (.i .i64)) b,.val (.i .i64) x],fun e x=>[]⟩)]
set_option maxRecDepth 100000 in
theorem Hb (d:List Int×List Int):gwp (Ui) (BB d.1 d.2) c26 0 (VJ [.tmp 4] (Vk d) (Vn d)) (QX 26 (AL.can VY d))=XE d.1 d.2:=by kernel_rfl
abbrev BJ:Prop:=OkC Tryz.prog 26 Kv
theorem BV (h:∀ (a:List Int) (b:List Int),(a.length≤1000)→XE a b):OkC Tryz.prog 26 Kv :=
 Zx IB mixed (C:=Ui) (V:=fun (d:List Int×List Int)=>XE d.1 d.2) ⟨.nil,XsOk.nil,ItsOk.nil,YlOk.nil,IysOk.nil,XfOk.nil⟩ (Hb) fun d hp=>h d.1 d.2 hp
theorem BX:BJ:=BV fun a b h=>by
 unfold XE;(try delta lI gD sT I64)
 (try simp only[decide_eq_true_eq,decide_eq_false_iff_not])
 refine⟨fun hx=>?_,fun hx=>⟨(),0,(by and_intros<;>first|rfl|trivial|simp),?_⟩⟩
 ·refine⟨Eq.symm ?_,trivial⟩;rw[beq_eq_false_iff_ne];rintro rfl;simp at hx
 have hl:a.length=b.length:=by simp only[bne_eq_false_iff_eq] at hx;omega
 refine LoopP.count a.length (fun k=>∀ i,i<k→a.getD i 0=b.getD i 0) (fun i hi=>by omega) fun k hk hJ q hq=>?_;simp only[Int.toNat_natCast,QR];refine⟨fun ai=>⟨by omega,by omega,by omega,by omega,fun hx=>?_,fun hx=>⟨by omega,_,(by and_intros<;>first|rfl|trivial|simp),hq (by omega) fun i hi=>?_⟩⟩,fun bq=>?_⟩
 ·refine⟨Eq.symm ?_,trivial⟩;rw[beq_eq_false_iff_ne];rintro rfl;simp at hx
 ·rcases Nat.lt_succ_iff_lt_or_eq.1 hi with hi|rfl
  ·exact hJ i hi
  ·simpa using hx
 ·have hk:k=a.length:=by omega
  subst hk;refine⟨Eq.symm ?_,trivial⟩;rw[beq_iff_eq];exact List.ext_getElem hl fun i h1 h2=>by
   have:=hJ i h1
   rwa [Ql h1,Ql h2] at this
def V3:AL (List (Int×(Int×Int)×Int)):=(.one (.k (.list (.pair (.i .i64) (.pair (.pair (.i .i64) (.i .i64)) (.i .i64))))))
def MT (d:List (Int×(Int×Int)×Int)):Prop:=d.length≤9223372036854775807
def Kg (d:List (Int×(Int×Int)×Int)):SV:=.val (.i .i64) (Qo d)
def Kp (d:List (Int×(Int×Int)×Int)):List OB:=[]
def Yj:CSp:=YC V3 MT Kg Kp
def JY (l:List (Int×(Int×Int)×Int)):Prop :=
 ((decide ((lI l) > (12:Int)))=true →
  ((5:Int)=(Qo l)∧(True))) ∧
 ((decide ((lI l) > (12:Int)))=false →
  ∃ (e2:Unit) (d20:Int),((l=l∧(0:Int)=d20∧True)∧(True)) ∧
  LoopP (fun (d2:Int) (q2:(Int)→Prop) =>
   ((decide (d2<(lI l)))=true →
    (0≤d2)∧(d2<(List.length l))∧(True)∧((!(inI ((gD l d2 (0,((0,0),0))).1) (0:Int) (9:Int)))=false→True)∧((((!(inI ((gD l d2 (0,((0,0),0))).1) (0:Int) (9:Int)))||(!(inI ((gD l d2 (0,((0,0),0))).2.1.1) (0:Int) ((gD l d2 (0,((0,0),0))).2.1.2))))||(decide ((gD l d2 (0,((0,0),0))).2.1.2 > (1000:Int))))=false→True)∧(((((!(inI ((gD l d2 (0,((0,0),0))).1) (0:Int) (9:Int)))||(!(inI ((gD l d2 (0,((0,0),0))).2.1.1) (0:Int) ((gD l d2 (0,((0,0),0))).2.1.2))))||(decide ((gD l d2 (0,((0,0),0))).2.1.2 > (1000:Int))))||(!(inI ((gD l d2 (0,((0,0),0))).2.2) (1:Int) (1000000:Int))))=true →
     ((2:Int)=(Qo l)∧(True))) ∧
    (((((!(inI ((gD l d2 (0,((0,0),0))).1) (0:Int) (9:Int)))||(!(inI ((gD l d2 (0,((0,0),0))).2.1.1) (0:Int) ((gD l d2 (0,((0,0),0))).2.1.2))))||(decide ((gD l d2 (0,((0,0),0))).2.1.2 > (1000:Int))))||(!(inI ((gD l d2 (0,((0,0),0))).2.2) (1:Int) (1000000:Int))))=false →
     (I64 (d2+(1:Int)))∧(∃ d3:Int,((l=l∧(d2+(1:Int))=d3∧True)∧(True))∧q2 d3))) ∧
   ((decide (d2<(lI l)))=false →
    ((0:Int)=(Qo l)∧(True)))) d20)
def V5:Cx:=⟨[],[(20,Kz)],44,[],0,[],[],[],[],false,[],[],[],[]⟩
def Gv (l:List (Int×(Int×Int)×Int)):List (Nat×LoopAnn):=[(0,⟨Unit,Int,[0,3],fun e x=>[.val (.list (.pair (.i .i64) (.pair (.pair (.i .i64) (.i .i64)) (.i .i64)))) l,.val (.i .i64) x],fun e x=>[]⟩)]
set_option maxRecDepth 100000 in
theorem D6 (d:List (Int×(Int×Int)×Int)):gwp (V5) (Gv d) c43 0 (VJ [.tmp 2] (Kg d) (Kp d)) (QX 44 (AL.can V3 d))=JY d:=by kernel_rfl
abbrev GI:Prop:=OkC Tryz.prog 43 Yj
theorem GO (h:∀ (l:List (Int×(Int×Int)×Int)),(l.length≤9223372036854775807)→JY l):OkC Tryz.prog 43 Yj :=
 Zx O0 mixed (C:=V5) (V:=fun (d:List (Int×(Int×Int)×Int))=>JY d) ⟨(.cons Mz .nil),XsOk.nil,ItsOk.nil,YlOk.nil,IysOk.nil,XfOk.nil⟩ (D6) fun d hp=>h d hp
theorem Q1o (x:Lot):(!inI x.1 0 9||!inI x.2.1.1 0 x.2.1.2||decide (x.2.1.2 > 1000)||!inI x.2.2 1 1000000)=!QP x:=by rw[Bool.eq_iff_iff];simp only[Bool.or_eq_true,Bool.not_eq_true',Bool.eq_false_iff,ne_eq,Gk,inI,Bool.and_eq_true,decide_eq_true_eq];omega
theorem GG:GI:=GO fun l hl=>by
 unfold JY;(try delta lI gD sT I64);simp only[Q1o]
 (try simp only[decide_eq_true_eq,decide_eq_false_iff_not])
 refine⟨fun h1=>⟨?_,trivial⟩,fun h1=>⟨(),0,(by and_intros<;>first|rfl|trivial|simp),?_⟩⟩
 ·unfold Qo;rw[if_pos (by omega)]
 refine LoopP.count l.length (fun k=>∀ j,j<k→QP (l.getD j Zs)=true) (fun j hj=>by omega) fun k hk hJ q hq=>?_;simp only[Int.toNat_natCast,QR];have hd:∀ l:List Lot,l.getD k (0,((0,0),0))=l.getD k Zs:=fun _=>rfl;simp only[hd];refine⟨fun ai=>⟨by omega,ai,trivial,fun _=>trivial,fun _=>trivial,fun hx=>⟨?_,trivial⟩,fun hx=>⟨by omega,_,(by and_intros<;>first|rfl|trivial|simp),hq (by omega) fun j hj=>?_⟩⟩,fun bq=>⟨?_,trivial⟩⟩
 ·have aW:k<l.length:=by omega
  rw[Ql aW] at hx;unfold Qo;rw[if_neg (by omega),if_pos (List.any_eq_true.2 ⟨_,List.getElem_mem aW,hx⟩)]
 ·rcases Nat.lt_succ_iff_lt_or_eq.1 hj with hj|rfl
  ·exact hJ j hj
  ·simpa using hx
 ·have hf:(l.any fun x=>!QP x)=false:=by
   rw[List.any_eq_false];intro x hx;obtain⟨i,hi,rfl⟩:=List.getElem_of_mem hx;have:=hJ i (by omega);rw[Ql hi] at this;rw[this];decide
  unfold Qo;rw[if_neg (by omega),hf,if_neg (by decide)]
def U_:AL ((Int×Int×Int×Int)×Int×Int×Int×Int):=(.cons (.agg (.cons (.k (.i .i64)) (.cons (.k (.i .i64)) (.cons (.k (.i .i64)) (.one (.k (.i .i64))))))) (.one (.agg (.cons (.k (.i .i64)) (.cons (.k (.i .i64)) (.cons (.k (.i .i64)) (.one (.k (.i .i64)))))))))
def By (d:(Int×Int×Int×Int)×Int×Int×Int×Int):Prop:=0≤d.1.2.1∧d.1.2.1≤1000∧0≤d.1.2.2.1∧d.1.2.2.1≤1000∧0≤d.2.2.1∧d.2.2.1≤1000∧0≤d.2.2.2.1∧d.2.2.2.1≤1000
def VV (d:(Int×Int×Int×Int)×Int×Int×Int×Int):SV:=.val (.i .i64) (Vi (d.1.1,(d.1.2.1,d.1.2.2.1),d.1.2.2.2) (d.2.1,(d.2.2.1,d.2.2.2.1),d.2.2.2.2))
def VS (d:(Int×Int×Int×Int)×Int×Int×Int×Int):List OB:=[]
def Vs:CSp:=YC U_ By VV VS
def Wu (lc:Int) (lo:Int) (hi:Int) (lg:Int) (mc:Int) (mo:Int) (mi:Int) (mg:Int):Prop :=
 (I64 (hi-mo))∧(I64 (mi-lo))∧((BC (hi-mo) (mi-lo))=(Vi (lc,(lo,hi),lg) (mc,(mo,mi),mg))∧(True))
def N6:Cx:=⟨[],[],20,[],0,[],[],[],[],false,[],[],[],[]⟩
def Hy (lc:Int) (lo:Int) (hi:Int) (lg:Int) (mc:Int) (mo:Int) (mi:Int) (mg:Int):List (Nat×LoopAnn):=[]
set_option maxRecDepth 100000 in
theorem HE (d:(Int×Int×Int×Int)×Int×Int×Int×Int):gwp (N6) (Hy d.1.1 d.1.2.1 d.1.2.2.1 d.1.2.2.2 d.2.1 d.2.2.1 d.2.2.2.1 d.2.2.2.2) c73 0 (VJ [.tmp 4] (VV d) (VS d)) (QX 20 (AL.can U_ d))=Wu d.1.1 d.1.2.1 d.1.2.2.1 d.1.2.2.2 d.2.1 d.2.2.1 d.2.2.2.1 d.2.2.2.2:=by kernel_rfl
abbrev Hr:Prop:=OkC Tryz.prog 73 Vs
theorem Pc (h:∀ (lc:Int) (lo:Int) (hi:Int) (lg:Int) (mc:Int) (mo:Int) (mi:Int) (mg:Int),(0≤lo∧lo≤1000∧0≤hi∧hi≤1000∧0≤mo∧mo≤1000∧0≤mi∧mi≤1000)→Wu lc lo hi lg mc mo mi mg):OkC Tryz.prog 73 Vs :=
 Zx I2 mixed (C:=N6) (V:=fun (d:(Int×Int×Int×Int)×Int×Int×Int×Int)=>Wu d.1.1 d.1.2.1 d.1.2.2.1 d.1.2.2.2 d.2.1 d.2.2.1 d.2.2.2.1 d.2.2.2.2) ⟨.nil,XsOk.nil,ItsOk.nil,YlOk.nil,IysOk.nil,XfOk.nil⟩ (HE) fun d hp=>h d.1.1 d.1.2.1 d.1.2.2.1 d.1.2.2.2 d.2.1 d.2.2.1 d.2.2.2.1 d.2.2.2.2 hp
theorem P7:Hr:=Pc fun lc lo hi lg mc mo mi mg h=>by obtain⟨h1,h2,h3,h4,h5,h6,h7,h8⟩:=h;unfold Wu;(try delta lI gD sT I64);refine⟨by rw[QR];omega,by rw[QR];omega,rfl,trivial⟩
end Go.Proofs.Tryz
set_option linter.unusedVariables false
namespace Go.Proofs.Tryz
open Go Go.V Go.Proofs
def Ko:AL (List (Int×(Int×Int)×Int)):=(.one (.k (.list (.pair (.i .i64) (.pair (.pair (.i .i64) (.i .i64)) (.i .i64))))))
def NA (d:List (Int×(Int×Int)×Int)):Prop:=d≠[]∧d.length≤1000∧∀ x∈d,QP x=true
def YE (d:List (Int×(Int×Int)×Int)):SV:=.agg [.val (.i .i64) ((Fm d).1),.val (.i .i64) ((Fm d).2)]
def YG (d:List (Int×(Int×Int)×Int)):List OB:=[]
def WN:CSp:=YC Ko NA YE YG
def JG (l:List (Int×(Int×Int)×Int)):Prop :=
 (0≤(0:Int))∧((0:Int)<(List.length l))∧(0≤(0:Int))∧((0:Int)<(List.length l))∧((l=l∧True∧True∧True∧((gD l (0:Int) (0,((0,0),0))).2.1.1=(gD l (0:Int) (0,((0,0),0))).2.1.1∧(gD l (0:Int) (0,((0,0),0))).2.1.2=(gD l (0:Int) (0,((0,0),0))).2.1.2∧(([]:List SV)=[]))∧True)∧(((0:Int)=(0:Int)∧(0:Int)=(0:Int)∧(([]:List SV)=[]))∧((gD l (0:Int) (0,((0,0),0))).2.1.1=(gD l (0:Int) (0,((0,0),0))).2.1.1∧(gD l (0:Int) (0,((0,0),0))).2.1.2=(gD l (0:Int) (0,((0,0),0))).2.1.2∧(([]:List SV)=[]))∧((0:Int)=(0:Int)∧(0:Int)=(0:Int)∧(([]:List SV)=[]))∧True))∧((0≤(0:Int))∧((0:Int)<(List.length l))∧(0≤(0:Int))∧((0:Int)<(List.length l))∧((l=l∧True∧True∧True∧((gD l (0:Int) (0,((0,0),0))).2.1.1=(gD l (0:Int) (0,((0,0),0))).2.1.1∧(gD l (0:Int) (0,((0,0),0))).2.1.2=(gD l (0:Int) (0,((0,0),0))).2.1.2∧(([]:List SV)=[]))∧True)∧(((0:Int)=(0:Int)∧(0:Int)=(0:Int)∧(([]:List SV)=[]))∧((gD l (0:Int) (0,((0,0),0))).2.1.1=(gD l (0:Int) (0,((0,0),0))).2.1.1∧(gD l (0:Int) (0,((0,0),0))).2.1.2=(gD l (0:Int) (0,((0,0),0))).2.1.2∧(([]:List SV)=[]))∧((0:Int)=(0:Int)∧(0:Int)=(0:Int)∧(([]:List SV)=[]))∧True)))∧(0≤(1:Int))∧((1:Int)≤(lI l))∧((lI l)≤(List.length l))∧∃ (e3:Unit) (d30:Int×Int×Int×Int×Int),((True∧True∧True∧(List.take (Int.toNat ((lI l)-(1:Int))) (List.drop (Int.toNat (1:Int)) l))=(List.take (Int.toNat ((lI l)-(1:Int))) (List.drop (Int.toNat (1:Int)) l))∧(lI (List.take (Int.toNat ((lI l)-(1:Int))) (List.drop (Int.toNat (1:Int)) l)))=(lI (List.take (Int.toNat ((lI l)-(1:Int))) (List.drop (Int.toNat (1:Int)) l)))∧(0:Int)=d30.2.2.2.2∧True)∧(((0:Int)=(0:Int)∧(0:Int)=(0:Int)∧(([]:List SV)=[]))∧((gD l (0:Int) (0,((0,0),0))).2.1.1=d30.1∧(gD l (0:Int) (0,((0,0),0))).2.1.2=d30.2.1∧(([]:List SV)=[]))∧((gD l (0:Int) (0,((0,0),0))).2.1.1=d30.2.2.1∧(gD l (0:Int) (0,((0,0),0))).2.1.2=d30.2.2.2.1∧(([]:List SV)=[]))∧True)) ∧
 LoopP (fun (d3:Int×Int×Int×Int×Int) (q3:(Int×Int×Int×Int×Int)→Prop) =>
  ((decide (d3.2.2.2.2<(lI (List.take (Int.toNat ((lI l)-(1:Int))) (List.drop (Int.toNat (1:Int)) l)))))=true →
   (0≤d3.2.2.2.2)∧(d3.2.2.2.2<(List.length (List.take (Int.toNat ((lI l)-(1:Int))) (List.drop (Int.toNat (1:Int)) l))))∧(I64 (d3.2.2.2.2+(1:Int)))∧(∃ d4:Int×Int×Int×Int×Int,((True∧True∧True∧(List.take (Int.toNat ((lI l)-(1:Int))) (List.drop (Int.toNat (1:Int)) l))=(List.take (Int.toNat ((lI l)-(1:Int))) (List.drop (Int.toNat (1:Int)) l))∧(lI (List.take (Int.toNat ((lI l)-(1:Int))) (List.drop (Int.toNat (1:Int)) l)))=(lI (List.take (Int.toNat ((lI l)-(1:Int))) (List.drop (Int.toNat (1:Int)) l)))∧(d3.2.2.2.2+(1:Int))=d4.2.2.2.2∧True)∧(((0:Int)=(0:Int)∧(0:Int)=(0:Int)∧(([]:List SV)=[]))∧((BC d3.1 (gD (List.take (Int.toNat ((lI l)-(1:Int))) (List.drop (Int.toNat (1:Int)) l)) d3.2.2.2.2 (0,((0,0),0))).2.1.1)=d4.1∧(GZ d3.2.1 (gD (List.take (Int.toNat ((lI l)-(1:Int))) (List.drop (Int.toNat (1:Int)) l)) d3.2.2.2.2 (0,((0,0),0))).2.1.2)=d4.2.1∧(([]:List SV)=[]))∧((GZ d3.2.2.1 (gD (List.take (Int.toNat ((lI l)-(1:Int))) (List.drop (Int.toNat (1:Int)) l)) d3.2.2.2.2 (0,((0,0),0))).2.1.1)=d4.2.2.1∧(BC d3.2.2.2.1 (gD (List.take (Int.toNat ((lI l)-(1:Int))) (List.drop (Int.toNat (1:Int)) l)) d3.2.2.2.2 (0,((0,0),0))).2.1.2)=d4.2.2.2.1∧(([]:List SV)=[]))∧True))∧q3 d4)) ∧
  ((decide (d3.2.2.2.2<(lI (List.take (Int.toNat ((lI l)-(1:Int))) (List.drop (Int.toNat (1:Int)) l)))))=false →
   (I64 (d3.1-d3.2.1))∧(I64 (d3.2.2.2.1-d3.2.2.1))∧(((BC (0:Int) (d3.1-d3.2.1))=((Fm l).1)∧(d3.2.2.2.1-d3.2.2.1)=((Fm l).2)∧(([]:List SV)=[]))∧(True)))) d30
def K8:Cx:=⟨[],[],61,[],0,[],[],[],[0,2,3,4,14],false,[],[],[],[]⟩
def Gq (l:List (Int×(Int×Int)×Int)):List (Nat×LoopAnn):=[(0,⟨Unit,Int×Int×Int×Int×Int,[2,3,4,16,17,18],fun e x=>[.box 2 0,.box 3 0,.box 4 0,.val (.list (.pair (.i .i64) (.pair (.pair (.i .i64) (.i .i64)) (.i .i64)))) (List.take (Int.toNat ((((List.length l):Nat):Int)-(1:Int))) (List.drop (Int.toNat (1:Int)) l)),.val (.i .i64) (((List.length (List.take (Int.toNat ((((List.length l):Nat):Int)-(1:Int))) (List.drop (Int.toNat (1:Int)) l))):Nat):Int),.val (.i .i64) x.2.2.2.2],fun e x=>[(2,.slot 2,.cells [.val (.i .i64) (0:Int),.val (.i .i64) (0:Int)] (some 59)),(3,.slot 3,.cells [.val (.i .i64) x.1,.val (.i .i64) x.2.1] (some 59)),(4,.slot 4,.cells [.val (.i .i64) x.2.2.1,.val (.i .i64) x.2.2.2.1] (some 59))]⟩)]
set_option maxRecDepth 100000 in
theorem Gm (d:List (Int×(Int×Int)×Int)):gwp (K8) (Gq d) c70 0 (VJ [.cell 2 true 2] (YE d) (YG d)) (QX 61 (AL.can Ko d))=JG d:=by kernel_rfl
abbrev G8:Prop:=OkC Tryz.prog 70 WN
theorem Gb (h:∀ (l:List (Int×(Int×Int)×Int)),(l≠[]∧l.length≤1000∧∀ x∈l,QP x=true)→JG l):OkC Tryz.prog 70 WN :=
 Zx I1 mixed (C:=K8) (V:=fun (d:List (Int×(Int×Int)×Int))=>JG d) ⟨.nil,XsOk.nil,ItsOk.nil,YlOk.nil,IysOk.nil,XfOk.nil⟩ (Gm) fun d hp=>h d hp
theorem G5:G8:=Gb fun l h=>by
 obtain⟨h1,h2,h3⟩:=h;have hp:1≤l.length:=List.length_pos_iff.2 h1;unfold JG;(try delta lI gD sT I64);simp only[decide_eq_true_eq,decide_eq_false_iff_not];have hM:List.take ((l.length:Int)-1).toNat (List.drop (Int.toNat 1) l)=l.drop 1:=List.take_of_length_le (by rw[List.length_drop];show l.length-1≤_;omega);have tn:(l.drop 1).length=l.length-1:=List.length_drop ..;have cN:∀ k,k+1<l.length→(l.drop 1).getD k (0,((0,0),0))=l[k+1]?.getD Zs:=fun k hk=>by rw[Ql (by omega),List.getElem_drop,List.getElem?_eq_getElem hk];simp only[Option.getD_some,Nat.add_comm]
 have h0:l.getD (Int.toNat 0) (0,((0,0),0))=l.getD 0 Zs:=rfl;have s1:=TN h1;rw[hM,h0];refine⟨by omega,by omega,by omega,by omega,(by and_intros<;>first|rfl|trivial|simp),⟨by omega,by omega,by omega,by omega,(by and_intros<;>first|rfl|trivial|simp)⟩,by omega,by omega,by omega,(),((YF l 1).1,(YF l 1).2.1,(YF l 1).2.2.1,(YF l 1).2.2.2,0),by rw[s1];exact(by and_intros<;>first|rfl|trivial|simp),?_⟩;refine⟨fun d=>∃ k:Nat,k+1≤l.length∧d=((YF l (k+1)).1,(YF l (k+1)).2.1,(YF l (k+1)).2.2.1,(YF l (k+1)).2.2.2,(k:Int)),fun d=>l.length-d.2.2.2.2.toNat,⟨0,hp,rfl⟩,?_⟩;rintro _ ⟨k,hk,rfl⟩;dsimp only;simp only[Int.toNat_natCast,tn];refine⟨fun ai=>?_,fun bq=>?_⟩
 ·have a7:k+1<l.length:=by omega
  rw[cN k a7,List.getElem?_eq_getElem a7,Option.getD_some];have hs:=PU a7;refine⟨by omega,by omega,by rw[QR];omega,((YF l (k+1+1)).1,(YF l (k+1+1)).2.1,(YF l (k+1+1)).2.2.1,(YF l (k+1+1)).2.2.2,(k:Int)+1),by rw[hs];exact(by and_intros<;>first|rfl|trivial|simp),⟨k+1,by omega,by simp⟩,?_⟩;dsimp only;omega
 ·have aW:k+1=l.length:=by omega
  obtain⟨a,⟨i1,b1,c1⟩,⟨i2,b2,c2⟩,⟨i3,b3,c3⟩,⟨i4,b4,c4⟩⟩:=MW h1 l.length hp (Nat.le_refl _);have hv:∀ i,i<l.length→0≤(l.getD i Zs).2.1.1∧(l.getD i Zs).2.1.1≤1000∧0≤(l.getD i Zs).2.1.2∧(l.getD i Zs).2.1.2≤1000:=fun i hi=>by have:=Gk.1 (h3 _ (List.getElem_mem hi));rw[Ql hi];omega
  have v1:=hv i1 b1;have v2:=hv i2 b2;have v3:=hv i3 b3;have v4:=hv i4 b4;rw[aW];unfold Fm;refine⟨by rw[QR];omega,by rw[QR];omega,?_⟩;and_intros<;>first|rfl|trivial
end Go.Proofs.Tryz
set_option linter.unusedVariables false
namespace Go.Proofs.Tryz
open Go Go.V Go.Proofs
theorem P6 {l:List Lot}(h:Qo l=0):l.length≤12∧∀ x∈l,QP x=true:=by
 unfold Qo at h;split at h
 ·cases h
 ·split at h
  ·cases h
  ·rename_i h1 h2;refine⟨by omega,fun x hx=>?_⟩;have:=List.any_eq_false.1 (Bool.eq_false_iff.2 h2) x hx;simpa using this
theorem SL {l:List Lot}{sm:List Int}{k:Nat}(h:k<sm.length):Y1 l (sm.take (k+1))=Y1 l (sm.take k)++[l.getD (sm.getD k 0).toNat Zs]:=by unfold Y1;rw[Xf h,List.map_append,Ql h];rfl
theorem Al {l:List Lot}{sm:List Int}(h:∀ x∈l,QP x=true) (hs:∀ i∈sm,0≤i∧i<l.length):∀ x∈Y1 l sm,QP x=true:=fun x hx=>by simp only[Y1,List.mem_map] at hx;obtain⟨i,hi,rfl⟩:=hx;have:=hs i hi;rw[Ql (show i.toNat<l.length by omega)];exact h _ (List.getElem_mem _)
end Go.Proofs.Tryz
set_option linter.unusedVariables false
namespace Go.Proofs.Tryz
open Go Go.V Go.Proofs
def tzK:Nat→Nat→Nat
 |0,_=>0
 |f+1,n=>if n % 2=1 then 0 else 1+tzK f (n / 2)
def tzN (n:Nat):Nat:=if n=0 then 64 else tzK 64 n
theorem R8:∀ f n,0<n→n<2 ^ f→tzK f n<f∧∃ m,n=2 ^ tzK f n*(2*m+1)
 |0,n,h0,h1=>by simp at h1;omega
 |f+1,n,h0,h1=>by
  unfold tzK;split
  ·rename_i h;exact⟨by omega,n / 2,by omega⟩
  ·rename_i h;have hp:2 ^ (f+1)=2*2 ^ f:=by rw[Nat.pow_succ];omega
   obtain⟨h2,m,h3⟩:=R8 f (n / 2) (by omega) (by omega);refine⟨by omega,m,?_⟩;rw[Nat.add_comm,Nat.pow_succ,Nat.mul_comm (2 ^ _) 2,Nat.mul_assoc,←h3];omega
theorem KI {n:Nat}(h0:0<n) (h1:n<2 ^ 64):tzN n<64∧∃ m,n=2 ^ tzN n*(2*m+1):=by unfold tzN;rw[if_neg (by omega)];exact R8 64 n h0 h1
theorem Hv {t m:Nat}(i:Nat):(2 ^ t*(2*m+1)-1).testBit i=if i<t then true else if i=t then false else (2 ^ t*(2*m+1)).testBit i:=by
 have hp:0<2 ^ t:=Nat.two_pow_pos t;have e:2 ^ t*(2*m+1)-1=2 ^ t*(2*m)+(2 ^ t-1):=by rw[Nat.mul_add,Nat.mul_one];omega
 rw[e,Nat.testBit_two_pow_mul_add _ (by omega)];split
 ·rename_i h;rw[Nat.testBit_two_pow_sub_one];simpa using h
 ·rename_i h;split
  ·rename_i h2;subst h2;simp
  ·rename_i h2;rw[Nat.testBit_two_pow_mul];obtain⟨k,hk⟩:∃ k,i-t=k+1:=⟨i-t-1,by omega⟩;have hd:decide (i≥t)=true:=decide_eq_true (by omega);rw[hd,hk,Nat.testBit_succ,Nat.testBit_succ,Bool.true_and];congr 1;omega
theorem Il {n:Nat}(h0:0<n) (h1:n<2 ^ 64):n &&& (2 ^ 64-n)=2 ^ tzN n:=by
 obtain⟨ht,m,hm⟩:=KI h0 h1;generalize tzN n=t at *
 refine Nat.eq_of_testBit_eq fun i=>?_;have e:2 ^ 64-n=2 ^ 64-((n-1)+1):=by omega
 rw[Nat.testBit_and,e,Nat.testBit_two_pow_sub_succ (by omega),Nat.testBit_two_pow,hm,Hv];by_cases h2:i<t
 ·rw[if_pos h2,Nat.testBit_two_pow_mul,decide_eq_false (show ¬ i≥t by omega),decide_eq_false (show ¬ t=i by omega)];rfl
 ·rw[if_neg h2];by_cases h3:i=t
  ·subst h3;rw[if_pos rfl,Nat.testBit_two_pow_mul];simp;omega
  ·rw[if_neg h3,decide_eq_false (show ¬ t=i by omega)];cases (2 ^ t*(2*m+1)).testBit i<;>simp
theorem U1 {n:Nat}(h0:0<n) (h1:n<2 ^ 64) (i:Nat):(n &&& (n-1)).testBit i=(n.testBit i&&!decide (i=tzN n)):=by
 obtain⟨ht,m,hm⟩:=KI h0 h1;generalize tzN n=t at *
 rw[Nat.testBit_and,hm,Hv];by_cases h2:i<t
 ·rw[if_pos h2,decide_eq_false (by omega)];simp
 ·rw[if_neg h2];by_cases h3:i=t
  ·rw[if_pos h3,decide_eq_true h3];simp
  ·rw[if_neg h3,decide_eq_false h3];simp
def DG:Nat→Nat→List Int
 |0,_=>[]
 |f+1,n=>if n=0 then [] else (tzN n:Int)::DG f (n &&& (n-1))
def Q7 (n:Nat):List Int:=DG n n
theorem Hz:∀ f g n,n≤f→n≤g→DG f n=DG g n
 |0,g,n,h1,_=>by
  have:n=0:=by omega
  subst this;cases g<;>simp[DG]
 |f+1,0,n,_,h2=>by
  have:n=0:=by omega
  subst this;simp[DG]
 |f+1,g+1,n,h1,h2=>by
  unfold DG;by_cases h:n=0
  ·rw[if_pos h,if_pos h]
  ·rw[if_neg h,if_neg h];have:=Nat.and_le_right (n:=n) (m:=n-1);rw[Hz f g _ (by omega) (by omega)]
theorem Pq {n:Nat}(h:0<n):Q7 n=(tzN n:Int)::Q7 (n &&& (n-1)):=by
 have:=Nat.and_le_right (n:=n) (m:=n-1);unfold Q7;obtain⟨f,rfl⟩:∃ f,n=f+1:=⟨n-1,by omega⟩;conv=>lhs;unfold DG
 rw[if_neg (by omega),Hz f _ _ (by omega) (Nat.le_refl _)]
theorem Ld:Q7 0=[]:=rfl
theorem Q27:∀ t:Nat,t<64→Go.V.t64[(2 ^ t*285870213051353865 % 18446744073709551616) / 288230376151711744]?=some (t:Int):=by decide +kernel
end Go.Proofs.Tryz
set_option linter.unusedVariables false
namespace Go.Proofs.Tryz
open Go Go.V Go.Proofs
def czT:VCode :=
 .seq (.region [
  ⟨(some 2),.move (.const (.int .i64 (0))),none⟩])
 (.seq (.seq (.region [
  ⟨(some 3),.move (.tmp 0),none⟩,
  ⟨(some 4),.cmp .eql (.tmp 3) (.const (.int .u64 (0))),none⟩])
 (.cond (.tmp 4) (.seq (.region [
   ⟨(some 2),.move (.const (.int .i64 (64))),none⟩])
  (.ret))
  (.skip)))
 (.seq (.region [
  ⟨(some 5),.move (.tmp 0),none⟩,
  ⟨(some 6),.move (.tmp 0),none⟩,
  ⟨(some 7),.un .neg (.tmp 6),none⟩,
  ⟨(some 8),.bits .and (.tmp 5) (.tmp 7),none⟩,
  ⟨(some 9),.arith .mul (.tmp 8) (.const (.int .u64 (285870213051353865))),none⟩,
  ⟨(some 10),.shift .shr (.tmp 9) (.const (.int .u64 (58))),none⟩,
  ⟨(some 11),.indexAddrArr 64 1 (.global 1) (.tmp 10),none⟩,
  ⟨(some 12),.load false 1 (.tmp 11),none⟩,
  ⟨(some 13),.convI .i64 (.tmp 12),none⟩,
  ⟨(some 2),.move (.tmp 13),none⟩])
 (.ret)))
theorem Wx {S:VSpecs}{op:VOp}{d:Option Nat}{l:List VOper}{env:Env}{σ:Heap}{K:Env→Heap→Prop}(v:Value) (h:∀ Q:Value→Heap→Prop,Q v σ→vop S op env σ Q) (hK:Mg S l (J7 env d v) σ K):Mg S (⟨d,op,none⟩::l) env σ K:=by show vif true _ _;exact⟨fun _=>h _ hK,fun h=>by cases h⟩
theorem I3 {S:VSpecs}{op:BinOp}{x y:Operand}{env:Env}{σ:Heap}{Q:Value→Heap→Prop}{k:IntKind}{a b:Int}(hx:Q3 env x=.int k a) (hy:Q3 env y=.int k b) (h:Q (.bool (OL op a b)) σ):vop S (.cmp op x y) env σ Q:=by simp only[vop,Q4,hx,hy,if_true,Qz];exact h
theorem A_ {S:VSpecs}{op:BinOp}{x y:Operand}{env:Env}{σ:Heap}{Q:Value→Heap→Prop}{k:IntKind}{a b:Int}(hx:Q3 env x=.int k a) (hy:Q3 env y=.int k b) (h:Q (.int k (ZF op k a b)) σ):vop S (.bits op x y) env σ Q:=by simp only[vop,Q4,hx,hy,if_true,Qz];exact h
theorem A4 {S:VSpecs}{op:BinOp}{x y:Operand}{env:Env}{σ:Heap}{Q:Value→Heap→Prop}{k:IntKind}{a b:Int}(hx:Q3 env x=.int k a) (hy:Q3 env y=.int k b) (h:Q (.int k (N0 op k a b)) σ):vop S (.arith op x y) env σ Q:=by simp only[vop,Q4,hx,hy,if_true,Qz];exact h
theorem Cn {S:VSpecs}{op:BinOp}{x y:Operand}{env:Env}{σ:Heap}{Q:Value→Heap→Prop}{k k':IntKind}{a b:Int}(hx:Q3 env x=.int k a) (hy:Q3 env y=.int k' b) (h0:0≤b) (h:Q (.int k (N1 op k a b)) σ):vop S (.shift op x y) env σ Q:=by simp only[vop,Q4,hx,hy,h0,if_true,Qz];exact h
theorem E4 {S:VSpecs}{x:Operand}{env:Env}{σ:Heap}{Q:Value→Heap→Prop}{k k':IntKind}{a:Int}(hx:Q3 env x=.int k a) (h:Q (.int k' (k'.wrap a)) σ):vop S (.convI k' x) env σ Q:=by simp only[vop,Q4,hx,Qz];exact h
theorem Iq {S:VSpecs}{len size g o s:Nat}{x y:Operand}{env:Env}{σ:Heap}{Q:Value→Heap→Prop}{k':IntKind}{b:Int}(hx:Q3 env x=.pointer (some ⟨g,o,some s⟩)) (hy:Q3 env y=.int k' b) (h0:0≤b∧b<len) (h:Q (.pointer (some ⟨g,o+b.toNat*size,some s⟩)) σ):vop S (.indexAddrArr len size x y) env σ Q:=by simp only[vop,Q4,hx,hy,h0,and_self,if_true,Qz];exact h
theorem Ag {S:VSpecs}{size g o s:Nat}{agg:Bool}{x:Operand}{env:Env}{σ:Heap}{Q:Value→Heap→Prop}{c:List Value}{v:Value}(hx:Q3 env x=.pointer (some ⟨g,o,some s⟩)) (hg:Ab g=some c) (hp:c.all Qm=true) (hv:JA agg size c o=some v) (h:Q v σ):vop S (.load agg size x) env σ Q:=by simp only[vop,Q4,hx,hg,hp,hv,if_true,Qz];exact h
theorem BS (x:Int):IntKind.wrap .u64 x=x % 18446744073709551616:=by show (if (false&&decide (x % (18446744073709551616:Int)≥9223372036854775808))=true then x % (18446744073709551616:Int)-18446744073709551616 else x % (18446744073709551616:Int))=_;simp
theorem U0 {x:Nat}(h:x<2 ^ 64):(BitVec.ofInt 64 (x:Int)).toNat=x:=by rw[MN,BitVec.toNat_ofNat,Nat.mod_eq_of_lt h]
theorem TM {x y:Nat}(hx:x<2 ^ 64) (hy:y<2 ^ 64):ZF .and .u64 x y=((x &&& y:Nat):Int):=by
 have e:(BitVec.ofInt 64 (x:Int) &&& BitVec.ofInt 64 (y:Int)).toNat=x &&& y:=by rw[BitVec.toNat_and,U0 hx,U0 hy]
 show IntKind.wrap .u64 ((BitVec.ofInt 64 (x:Int) &&& BitVec.ofInt 64 (y:Int)).toNat:Int)=_;have hl:x &&& y≤x:=Nat.and_le_left;rw[e,BS];omega
set_option maxHeartbeats 2000000 in
theorem Q0j {P:Program}{f:Nat}(h:Fun P f czT [.tmp 2] 14) (hm:P.follows .mixedOrders=true) {x:Int}(h0:0≤x) (h1:x≤18446744073709551615) {σ:Heap}{K:Value→Heap→Prop}(hK:K (.int .i64 (tzN x.toNat)) σ):VCalled P f [.int .u64 x] σ K:=by
 refine h.calls hm Gt ?_;obtain⟨n,rfl⟩:=Int.eq_ofNat_of_zero_le h0;have h1:n<2 ^ 64:=by omega
 rw[Int.toNat_natCast] at hK;unfold czT;refine Wx (.int .i64 0) (fun _ h=>h) ?_;refine Wx (.int .u64 n) (fun _ h=>h) ?_;refine Wx (.bool ((n:Int)==0)) (fun _ h=>I3 (k:=.u64) (a:=n) (b:=0) rfl rfl h) ?_;show vif ((n:Int)==0) _ _;refine⟨fun hz=>?_,fun hz=>?_⟩
 ·have hz:n=0:=by have:=eq_of_beq hz;omega
  subst hz;refine Wx (.int .i64 64) (fun _ h=>h) ?_;exact⟨_,_,DropTo.refl _ _ _,hK⟩
 have hz:0<n:=by
  rcases Nat.eq_zero_or_pos n with h|h
  ·subst h;cases hz
  ·exact h
 refine Wx (.int .u64 n) (fun _ h=>h) ?_;refine Wx (.int .u64 n) (fun _ h=>h) ?_;refine Wx (.int .u64 (IntKind.u64.wrap (0-(n:Int)))) (fun _ h=>h) ?_;have hand:ZF .and .u64 n (IntKind.u64.wrap (0-(n:Int)))=((2 ^ tzN n:Nat):Int):=by
  have e:IntKind.u64.wrap (0-(n:Int))=((2 ^ 64-n:Nat):Int):=by rw[BS];omega
  rw[e,TM h1 (by omega),Il hz h1]
 refine Wx (.int .u64 ((2 ^ tzN n:Nat):Int)) (fun _ h=>A_ (k:=.u64) (a:=n) (b:=IntKind.u64.wrap (0-(n:Int))) rfl rfl (by rw[hand];exact h)) ?_;have hmul:N0 .mul .u64 ((2 ^ tzN n:Nat):Int) 285870213051353865=((2 ^ tzN n*285870213051353865 % 18446744073709551616:Nat):Int):=by show IntKind.wrap .u64 (((2 ^ tzN n:Nat):Int)*285870213051353865)=_;rw[BS];omega
 refine Wx (.int .u64 ((2 ^ tzN n*285870213051353865 % 18446744073709551616:Nat):Int)) (fun _ h=>A4 (k:=.u64) (a:=((2 ^ tzN n:Nat):Int)) (b:=285870213051353865) rfl rfl (by rw[hmul];exact h)) ?_;have pU:N1 .shr .u64 ((2 ^ tzN n*285870213051353865 % 18446744073709551616:Nat):Int) 58=((2 ^ tzN n*285870213051353865 % 18446744073709551616 / 288230376151711744:Nat):Int):=by show Int.fdiv _ 288230376151711744=_;rw[Int.fdiv_eq_ediv_of_nonneg _ (by decide)];omega
 refine Wx (.int .u64 ((2 ^ tzN n*285870213051353865 % 18446744073709551616 / 288230376151711744:Nat):Int)) (fun _ h=>Cn (k:=.u64) (k':=.u64) (a:=((2 ^ tzN n*285870213051353865 % 18446744073709551616:Nat):Int)) (b:=58) rfl rfl (by decide) (by rw[pU];exact h)) ?_;have pV:=Q27 (tzN n) (KI hz h1).1;have ai:2 ^ tzN n*285870213051353865 % 18446744073709551616 / 288230376151711744<64:=by omega
 generalize 2 ^ tzN n*285870213051353865 % 18446744073709551616 / 288230376151711744=k at *
 refine Wx (.pointer (some ⟨1,0+(k:Int).toNat*1,some 0⟩)) (fun _ h=>Iq (g:=1) (o:=0) (s:=0) (b:=k) (k':=.u64) rfl rfl (by omega) h) ?_;have hv:JA false 1 (Go.V.t64.map fun x=>Value.int .u8 x) (0+(k:Int).toNat*1)=some (.int .u8 (tzN n)):=by show (Go.V.t64.map fun x=>Value.int .u8 x)[0+(k:Int).toNat*1]?=_;rw[Int.toNat_natCast,Nat.mul_one,Nat.zero_add,List.getElem?_map,pV];rfl
 refine Wx (.int .u8 (tzN n)) (fun _ h=>Ag (g:=1) (s:=0) (o:=0+(k:Int).toNat*1) (c:=Go.V.t64.map fun x=>Value.int .u8 x) rfl rfl (by decide) hv h) ?_;have tq:=(KI hz h1).1;have fC:IntKind.i64.wrap (tzN n:Int)=tzN n:=InK.wrap (k:=.i64) ((QR _).2 (by omega));refine Wx (.int .i64 (tzN n)) (fun _ h=>E4 (k:=.u8) (a:=tzN n) rfl (by rw[fC];exact h)) ?_;refine Wx (.int .i64 (tzN n)) (fun _ h=>h) ?_;exact⟨_,_,DropTo.refl _ _ _,hK⟩
theorem Si {P:Program}{σ:Heap}{v:SV}{u:Value}(h:SR P hNil ZK Z8 v u):Ret P σ v [] u σ :=
 ⟨⟨.refl _,Dead.refl _⟩,fun _=>rfl,ZK,fun j b hj=>by simp at hj,fun j j' i hj=>by simp at hj,h⟩
theorem CV (σ:Heap):M7 σ []=σ:=by
 unfold M7;cases σ;simp only[List.length_nil,Nat.add_zero,List.getElem?_nil,Option.bind_none,Heap.mk.injEq,and_true];funext i;split
 ·rfl
 ·rename_i wf hi;exact(wf i (by simpa using hi)).symm
theorem IF {P:Program}{f:Nat}{pre:Int→Prop}{r:Int→Int}(h:∀ x,pre x→∀ (σ:Heap) (K:Value→Heap→Prop),K (.int .i64 (r x)) σ→VCalled P f [.int .u64 x] σ K) :
  OkC P f (YC (.one (.k (.i .u64)):AL Int) pre (fun d=>.val (.i .i64) (r d)) (fun _=>[])):=by
 intro ap dg σ args vs c v bs au hs hv bT hc;unfold YC at hs;split at hs
 ·rename_i d hd;obtain⟨rfl,rfl,rfl⟩:=(by simpa using hs:pre d=c∧SV.val (.i .i64) (r d)=v∧[]=bs)
  match args,au,hd with
  |[],_,hd=>simp[AL.dec] at hd
  |a::x::l,_,hd=>simp[AL.dec] at hd
  |[a],au,hd =>
   simp only[AL.dec] at hd;obtain⟨u1,ou,rfl,s1,au⟩:=au;have au:ou=[]:=au;subst au;have k1:KC σ (.i .u64) d [u1]:=Qx (k:=.i .u64) hd ⟨u1,[],rfl,s1,rfl⟩;have e1:u1=.int .u64 d:=by simpa [KC] using k1
   subst e1;refine⟨h d hc σ _ (Si (by simp[SR,KC])),fun _ _=>h d hc σ _ ⟨?_,(CV σ).symm⟩⟩;simp[WI,Hl]
 ·cases hs
theorem CE {P:Program}{f:Nat}{D:Type}{l:AL D}{pre:D→Prop}{res:D→SV}{obs:D→List OB}(h:∀ d,pre d→False):OkC P f (YC l pre res obs):=by
 intro ap dg σ args vs c v bs au hs hv bT hc;unfold YC at hs;split at hs
 ·rename_i d hd;have:pre d↔c:=by simp at hs;exact hs.1
  exact(h d (this.2 hc)).elim
 ·cases hs
end Go.Proofs.Tryz
set_option linter.unusedVariables false
namespace Go.Proofs.Tryz
open Go Go.V Go.Proofs
def XM:AL (Int):=(.one (.k (.i .u64)))
def Xj (d:Int):Prop:=0≤d∧d≤18446744073709551615
def Xm (d:Int):SV:=.val (.i .i64) ((tzN d.toNat:Nat):Int)
def Xi (d:Int):List OB:=[]
def ZY:CSp:=YC XM Xj Xm Xi
abbrev Xy:Prop:=OkC Tryz.prog 101 ZY
theorem XO:Xy :=
 IF (pre:=fun x=>0≤x∧x≤18446744073709551615) (r:=fun x=>((tzN x.toNat:Nat):Int)) fun x hx σ K hK =>
  Q0j (f:=101) (by rw[show czT=Q34 by kernel_rfl];exact C_) mixed hx.1 hx.2 hK
end Go.Proofs.Tryz
set_option linter.unusedVariables false
namespace Go.Proofs.Tryz
open Go Go.V Go.Proofs
def Qn (l:List Lot) (tl:Int):Int:=if Qo l≠0 then Qo l else if !inI tl 0 1000 then 3 else 0
def CM (tl:Int) (p:List Lot):Bool:=!(p.any fun x=>x.1 != (p.getD 0 Zs).1)&&decide ((Fm p).2≤tl)
def Vb (l:List Lot) (tl:Int) (S:List Int):Bool:=CM tl (Y1 l S)
theorem Q2s {n:Nat}(h0:0<n) (h1:n<2 ^ 64):n.testBit (tzN n)=true:=by
 obtain⟨_,m,hm⟩:=KI h0 h1;generalize tzN n=t at *
 rw[hm,Nat.testBit_two_pow_mul];simp
theorem NV:∀ f n,n≤f→n<2 ^ 64→∀ i:Int,i∈DG f n↔∃ k:Nat,i=k∧n.testBit k=true
 |0,n,h1,_,i=>by
  have:n=0:=by omega
  subst this;simp[DG]
 |f+1,n,h1,h2,i=>by
  unfold DG;by_cases h:n=0
  ·subst h;simp
  ·rw[if_neg h,List.mem_cons];have hle:=Nat.and_le_right (n:=n) (m:=n-1);rw[NV f _ (by omega) (by omega)];constructor
   ·rintro (e|⟨k,e,hb⟩)
    ·exact⟨tzN n,e,Q2s (by omega) h2⟩
    ·rw[U1 (by omega) h2] at hb;exact⟨k,e,by simp at hb;exact hb.1⟩
   ·rintro⟨k,e,hb⟩;by_cases hk:k=tzN n
    ·exact .inl (by rw[e,hk])
    ·exact .inr ⟨k,e,by rw[U1 (by omega) h2,hb,decide_eq_false hk];rfl⟩
theorem Yg {n:Nat}(h:n<2 ^ 64) (i:Int):i∈Q7 n↔∃ k:Nat,i=k∧n.testBit k=true:=NV n n (Nat.le_refl _) h i
theorem Rf:∀ f n,(DG f n).length≤f
 |0,_=>by simp[DG]
 |f+1,n=>by
  unfold DG;split
  ·simp
  ·simp only[List.length_cons];have:=Rf f (n &&& (n-1));omega
theorem AG (n:Nat):(Q7 n).length≤n:=Rf n n
theorem B8 {n m:Nat}(h:n<2 ^ m) (hm:m≤64):∀ i∈Q7 n,0≤i∧i<(m:Int):=fun i hi=>by
 have hp:2 ^ m≤2 ^ 64:=Nat.pow_le_pow_right (by omega) hm;obtain⟨k,rfl,hb⟩:=(Yg (by omega) i).1 hi;have:k<m:=by
  rcases Nat.lt_or_ge k m with h2|h2
  ·exact h2
  ·rw[Nat.testBit_lt_two_pow (Nat.lt_of_lt_of_le h (Nat.pow_le_pow_right (by omega) h2))] at hb;cases hb
 omega
theorem BP {n:Nat}(h:0<n):Q7 n≠[]:=by rw[Pq h];simp
theorem UM:∀ f n,n≤f→n<2 ^ 64→(DG f n).Nodup
 |0,n,_,_=>by simp[DG]
 |f+1,n,h1,h2=>by
  unfold DG;by_cases h:n=0
  ·rw[if_pos h];exact List.nodup_nil
  ·rw[if_neg h,List.nodup_cons];have hle:=Nat.and_le_right (n:=n) (m:=n-1);refine⟨fun hm=>?_,UM f _ (by omega) (by omega)⟩;obtain⟨k,e,hb⟩:=(NV f _ (by omega) (by omega) _).1 hm;rw[U1 (by omega) h2] at hb;have:k=tzN n:=by omega
   rw[decide_eq_true this] at hb;simp at hb
theorem DX:∀ {l m:List Int},l.Nodup→(∀ x∈l,x∈m)→l.length≤m.length
 |[],_,_,_=>Nat.zero_le _
 |x::l,m,hn,hs=>by have hn:=List.nodup_cons.1 hn;have hx:=hs x (List.mem_cons_self ..);have:=DX (l:=l) (m:=m.erase x) hn.2 fun y hy=>(List.mem_erase_of_ne (by rintro rfl;exact hn.1 hy)).2 (hs y (List.mem_cons_of_mem _ hy));rw[List.length_erase_of_mem hx] at this;have:0<m.length:=List.length_pos_of_mem hx;simp only[List.length_cons];omega
theorem Jx {n m:Nat}(h:n<2 ^ m) (hm:m≤64):(Q7 n).length≤m:=by
 have hp:2 ^ m≤2 ^ 64:=Nat.pow_le_pow_right (by omega) hm;have:=DX (m:=(List.range m).map fun (k:Nat)=>(k:Int)) (UM n n (Nat.le_refl _) (by omega)) fun x hx=>by obtain⟨h1,h2⟩:=B8 h hm x hx;simp only[List.mem_map,List.mem_range];exact⟨x.toNat,by omega,by omega⟩
 simpa [Q7] using this
def XF:AL (Int):=(.one (.k (.i .u32)))
def Xo (d:Int):Prop:=False
def Xn (d:Int):SV:=.val (.i .i64) ((tzN d.toNat:Nat):Int)
def Xl (d:Int):List OB:=[]
def ZT:CSp:=YC XF Xo Xn Xl
abbrev XK:Prop:=OkC Tryz.prog 100 ZT
theorem Xx:XK:=CE fun _ h=>h
def J8:AL (Int):=(.one (.k (.i .u64)))
def W2 (d:Int):Prop:=0≤d∧d≤18446744073709551615
def ZV (d:Int):SV:=.val (.i .i64) ((tzN d.toNat:Nat):Int)
def J0 (d:Int):List OB:=[]
def Zd:CSp:=YC J8 W2 ZV J0
def QE (x:Int):Prop :=
 (false=true →
  (InK .u32 x)∧(False)∧(((tzN x.toNat:Nat):Int)=((tzN x.toNat:Nat):Int)∧(True))) ∧
 (false=false →
  (0≤x∧x≤18446744073709551615)∧(((tzN x.toNat:Nat):Int)=((tzN x.toNat:Nat):Int)∧(True)))
def Ja:Cx:=⟨[],[(100,ZT),(101,ZY)],8,[],0,[],[],[],[],false,[],[],[],[]⟩
def Wj (x:Int):List (Nat×LoopAnn):=[]
set_option maxRecDepth 100000 in
theorem Wi (d:Int):gwp (Ja) (Wj d) c83 0 (VJ [.tmp 2] (ZV d) (J0 d)) (QX 8 (AL.can J8 d))=QE d:=by kernel_rfl
abbrev Wl:Prop:=OkC Tryz.prog 83 Zd
theorem Wm (h:∀ (x:Int),(0≤x∧x≤18446744073709551615)→QE x):OkC Tryz.prog 83 Zd :=
 Zx II mixed (C:=Ja) (V:=fun (d:Int)=>QE d) ⟨(.cons Xx (.cons XO .nil)),XsOk.nil,ItsOk.nil,YlOk.nil,IysOk.nil,XfOk.nil⟩ (Wi) fun d hp=>h d hp
theorem Wn:Wl:=Wm fun x h=>by unfold QE;(try delta lI gD sT I64);refine⟨(fun h=>by cases h),fun _=>⟨h,?_⟩⟩;and_intros<;>first|rfl|trivial
def YB:AL (Int):=(.one (.k (.i .u64)))
def UI (d:Int):Prop:=0≤d∧d≤1048576
def WW (d:Int):SV:=.lst 0
def W_ (d:Int):List OB:=[.lst 3 (.i .i64) (Q7 d.toNat) ((Q7 d.toNat).isEmpty)]
def ZZ:CSp:=YC YB UI WW W_
def Ji (x:Int):Prop :=
 ∃ (e3:Unit) (d30:Int×(List Int)),((x=d30.1∧True∧True)∧((d30.2=[]∧(List.isEmpty d30.2)=true)∧True)) ∧
 LoopP (fun (d3:Int×(List Int)) (q3:(Int×(List Int))→Prop) =>
  ((d3.1 != (0:Int))=true →
   (0≤d3.1∧d3.1≤18446744073709551615)∧(((List.length d3.2)+(List.length [((tzN d3.1.toNat:Nat):Int)]))*8≤70368744177664)∧(InK .u64 (d3.1-(1:Int)))∧(∃ d4:Int×(List Int),(((ZF .and .u64 d3.1 (d3.1-(1:Int)))=d4.1∧True∧True)∧(((d3.2++[((tzN d3.1.toNat:Nat):Int)])=d4.2∧false=(List.isEmpty d4.2))∧True))∧q3 d4)) ∧
  ((d3.1 != (0:Int))=false →
   (True∧((d3.2=(Q7 x.toNat)∧(List.isEmpty d3.2)=(Q7 x.toNat).isEmpty)∧True)))) d30
def YI:Cx:=⟨[(3,(.i .i64))],[(83,Zd)],15,[],0,[],[],[],[],false,[],[],[],[]⟩
def NC (x:Int):List (Nat×LoopAnn):=[(0,⟨Unit,Int×(List Int),[0,2],fun e x=>[.val (.i .u64) x.1,.lst 13],fun e x=>[(13,.slot 2,.lst 3 (.i .i64) x.2 (List.isEmpty x.2))]⟩)]
set_option maxRecDepth 100000 in
theorem NH (d:Int):gwp (YI) (NC d) c56 0 (VJ [.tmp 2] (WW d) (W_ d)) (QX 15 (AL.can YB d))=Ji d:=by kernel_rfl
abbrev ND:Prop:=OkC Tryz.prog 56 ZZ
theorem NL (h:∀ (x:Int),(0≤x∧x≤1048576)→Ji x):OkC Tryz.prog 56 ZZ :=
 Zx IT mixed (C:=YI) (V:=fun (d:Int)=>Ji d) ⟨(.cons Wn .nil),XsOk.nil,ItsOk.nil,YlOk.nil,IysOk.nil,XfOk.nil⟩ (NH) fun d hp=>h d hp
theorem Xk:ND:=NL fun x h=>by
 obtain⟨h1,h2⟩:=h;unfold Ji;(try delta lI gD sT I64);obtain⟨n,rfl⟩:=Int.eq_ofNat_of_zero_le h1;rw[Int.toNat_natCast];have eN:=AG n;refine⟨(),((n:Int),[]),(by and_intros<;>first|rfl|trivial|simp),?_⟩;refine⟨fun d=>∃ s:Nat,d.1=s∧s≤n∧d.2++Q7 s=Q7 n,fun d=>d.1.toNat,⟨n,rfl,Nat.le_refl _,rfl⟩,?_⟩;rintro⟨_,L⟩ ⟨s,rfl,i1,i2⟩;dsimp only at i2 ⊢;simp only[bne_iff_ne,bne_eq_false_iff_eq,ne_eq,Int.toNat_natCast];refine⟨fun h0=>?_,fun h0=>?_⟩
 ·have hs:0<s:=by omega
  have e1:(s:Int)-1=((s-1:Nat):Int):=by omega
  have bC:=Pq hs;have t_:L.length+1≤n:=by have:=congrArg List.length i2;rw[bC,List.length_append,List.length_cons] at this;omega
  have hle:=Nat.and_le_right (n:=s) (m:=s-1);refine⟨⟨by omega,by omega⟩,by simp only[List.length_cons,List.length_nil];omega,by rw[UG];omega,(((s &&& (s-1):Nat):Int),L++[((tzN s:Nat):Int)]),?_,⟨s &&& (s-1),rfl,by omega,?_⟩,?_⟩
  ·rw[e1,TM (by omega) (by omega)];have:(L++[((tzN s:Nat):Int)]).isEmpty=false:=by simp
   and_intros<;>first|rfl|trivial|exact this.symm
  ·dsimp only;rw[←i2,bC,List.append_assoc];rfl
  ·dsimp only;omega
 ·have:s=0:=by omega
  subst this;rw[Ld,List.append_nil] at i2;subst i2;and_intros<;>first|rfl|trivial
end Go.Proofs.Tryz
set_option linter.unusedVariables false
namespace Go.Proofs.Tryz
open Go Go.V Go.Proofs
def JL:AL ((Int×Int×Int×Int)×List (Int×(Int×Int)×Int)):=(.cons (.agg (.cons (.k (.i .i64)) (.cons (.k (.i .i64)) (.cons (.k (.i .i64)) (.one (.k (.i .i64))))))) (.one (.ptr (.one (.k (.list (.pair (.i .i64) (.pair (.pair (.i .i64) (.i .i64)) (.i .i64)))))))))
def Yt (d:(Int×Int×Int×Int)×List (Int×(Int×Int)×Int)):Prop:=d.2≠[]
def JC (d:(Int×Int×Int×Int)×List (Int×(Int×Int)×Int)):SV:=.val .bo (d.1.1 != (d.2.getD 0 Zs).1)
def JE (d:(Int×Int×Int×Int)×List (Int×(Int×Int)×Int)):List OB:=[]
def ZW:CSp:=YC JL Yt JC JE
def QY (lc:Int) (lo:Int) (hi:Int) (lg:Int) (l:List (Int×(Int×Int)×Int)):Prop :=
 (0≤(0:Int))∧((0:Int)<(List.length l))∧((lc != (gD l (0:Int) (0,((0,0),0))).1)=(lc != (l.getD 0 Zs).1)∧(True))
def JO:Cx:=⟨[],[],11,[],0,[],[],[],[],false,[],[],[],[]⟩
def YJ (lc:Int) (lo:Int) (hi:Int) (lg:Int) (l:List (Int×(Int×Int)×Int)):List (Nat×LoopAnn):=[]
set_option maxRecDepth 100000 in
theorem YM (d:(Int×Int×Int×Int)×List (Int×(Int×Int)×Int)):gwp (JO) (YJ d.1.1 d.1.2.1 d.1.2.2.1 d.1.2.2.2 d.2) c98 0 (VJ [.tmp 3] (JC d) (JE d)) (QX 11 (AL.can JL d))=QY d.1.1 d.1.2.1 d.1.2.2.1 d.1.2.2.2 d.2:=by kernel_rfl
abbrev YK:Prop:=OkC Tryz.prog 98 ZW
theorem YN (h:∀ (lc:Int) (lo:Int) (hi:Int) (lg:Int) (l:List (Int×(Int×Int)×Int)),(l≠[])→QY lc lo hi lg l):OkC Tryz.prog 98 ZW :=
 Zx IM mixed (C:=JO) (V:=fun (d:(Int×Int×Int×Int)×List (Int×(Int×Int)×Int))=>QY d.1.1 d.1.2.1 d.1.2.2.1 d.1.2.2.2 d.2) ⟨.nil,XsOk.nil,ItsOk.nil,YlOk.nil,IysOk.nil,XfOk.nil⟩ (YM) fun d hp=>h d.1.1 d.1.2.1 d.1.2.2.1 d.1.2.2.2 d.2 hp
theorem YL:YK:=YN fun lc lo hi lg l h=>by unfold QY;(try delta lI gD sT I64);have hp:0<l.length:=List.length_pos_iff.2 h;refine⟨by omega,by omega,?_⟩;and_intros<;>first|rfl|trivial
def Xw:AL (((List (Int×(Int×Int)×Int))×Int)×Int):=(.cons (.agg (.cons (.k (.list (.pair (.i .i64) (.pair (.pair (.i .i64) (.i .i64)) (.i .i64))))) (.one (.k (.i .i64))))) (.one (.k (.i .u64))))
def YV (d:((List (Int×(Int×Int)×Int))×Int)×Int):Prop:=d.1.1.length≤12∧(∀ y∈d.1.1,QP y=true)∧0<d.2∧d.2<2 ^ d.1.1.length
def Xa (d:((List (Int×(Int×Int)×Int))×Int)×Int):SV:=.val .bo (Vb d.1.1 d.1.2 (Q7 d.2.toNat))
def Xc (d:((List (Int×(Int×Int)×Int))×Int)×Int):List OB:=[]
def Jo:CSp:=YC Xw YV Xa Xc
def Zg (l:List (Int×(Int×Int)×Int)) (tl:Int) (sx:Int):Prop :=
 (0≤sx∧sx≤1048576)∧∃ (e4:Unit) (d40:(List (Int×(Int×Int)×Int))×Int),((True∧True∧True∧(lI (Q7 sx.toNat))=(lI (Q7 sx.toNat))∧(0:Int)=d40.2∧True)∧((l=l∧tl=tl∧(([]:List SV)=[]))∧(True∧(([]:List SV)=[]))∧(d40.1=[]∧(List.isEmpty d40.1)=true)∧((Q7 sx.toNat)=(Q7 sx.toNat)∧(Q7 sx.toNat).isEmpty=(List.isEmpty (Q7 sx.toNat)))∧True)) ∧
 LoopP (fun (d4:(List (Int×(Int×Int)×Int))×Int) (q4:((List (Int×(Int×Int)×Int))×Int)→Prop) =>
  ((decide (d4.2<(lI (Q7 sx.toNat))))=true →
   (0≤d4.2)∧(d4.2<(List.length (Q7 sx.toNat)))∧(0≤(gD (Q7 sx.toNat) d4.2 0))∧((gD (Q7 sx.toNat) d4.2 0)<(List.length l))∧(((List.length d4.1)+(List.length [((gD l (gD (Q7 sx.toNat) d4.2 0) (0,((0,0),0))).1,(((gD l (gD (Q7 sx.toNat) d4.2 0) (0,((0,0),0))).2.1.1,(gD l (gD (Q7 sx.toNat) d4.2 0) (0,((0,0),0))).2.1.2),(gD l (gD (Q7 sx.toNat) d4.2 0) (0,((0,0),0))).2.2))]))*32≤70368744177664)∧(I64 (d4.2+(1:Int)))∧(∃ d5:(List (Int×(Int×Int)×Int))×Int,((True∧True∧True∧(lI (Q7 sx.toNat))=(lI (Q7 sx.toNat))∧(d4.2+(1:Int))=d5.2∧True)∧((l=l∧tl=tl∧(([]:List SV)=[]))∧(True∧(([]:List SV)=[]))∧((d4.1++[((gD l (gD (Q7 sx.toNat) d4.2 0) (0,((0,0),0))).1,(((gD l (gD (Q7 sx.toNat) d4.2 0) (0,((0,0),0))).2.1.1,(gD l (gD (Q7 sx.toNat) d4.2 0) (0,((0,0),0))).2.1.2),(gD l (gD (Q7 sx.toNat) d4.2 0) (0,((0,0),0))).2.2))])=d5.1∧false=(List.isEmpty d5.1))∧((Q7 sx.toNat)=(Q7 sx.toNat)∧(List.isEmpty (Q7 sx.toNat))=(List.isEmpty (Q7 sx.toNat)))∧True))∧q4 d5)) ∧
  ((decide (d4.2<(lI (Q7 sx.toNat))))=false →
   (d4.1.length≤1000000∧∀ x∈d4.1,(fun (x1:Int×(Int×Int)×Int)=>d4.1≠[]) x)∧((!(d4.1.any (fun (x1:Int×(Int×Int)×Int)=>(x1.1 != (d4.1.getD 0 Zs).1))))=true→d4.1≠[]∧d4.1.length≤1000∧∀ x∈d4.1,QP x=true)∧(((!(d4.1.any (fun (x1:Int×(Int×Int)×Int)=>(x1.1 != (d4.1.getD 0 Zs).1))))&&(decide (((Fm d4.1).2)≤tl)))=(Vb l tl (Q7 sx.toNat))∧(True)))) d40
def Xv:Cx:=⟨[(78,(.pair (.i .i64) (.pair (.pair (.i .i64) (.i .i64)) (.i .i64))))],[(56,ZZ),(90,Qa),(98,ZW),(70,WN)],38,[],0,[],[],[],[],false,[],[],[],[]⟩
def KP (l:List (Int×(Int×Int)×Int)) (tl:Int) (sx:Int):List (Nat×LoopAnn):=[(0,⟨Unit,(List (Int×(Int×Int)×Int))×Int,[2,5,10,11,12],fun e x=>[.box 2 0,.box 5 0,.lst 10,.val (.i .i64) (((List.length (Q7 sx.toNat)):Nat):Int),.val (.i .i64) x.2],fun e x=>[(2,.slot 2,.cells [.val (.list (.pair (.i .i64) (.pair (.pair (.i .i64) (.i .i64)) (.i .i64)))) l,.val (.i .i64) tl] (some 105)),(5,.slot 5,.cells [.lst 23] (some 22)),(23,.cell 5 0,.lst 78 (.pair (.i .i64) (.pair (.pair (.i .i64) (.i .i64)) (.i .i64))) x.1 (List.isEmpty x.1)),(10,.slot 10,.lst 3 (.i .i64) (Q7 sx.toNat) (List.isEmpty (Q7 sx.toNat)))]⟩)]
set_option maxRecDepth 100000 in
theorem KM (d:((List (Int×(Int×Int)×Int))×Int)×Int):gwp (Xv) (KP d.1.1 d.1.2 d.2) c79 0 (VJ [.tmp 4] (Xa d) (Xc d)) (QX 38 (AL.can Xw d))=Zg d.1.1 d.1.2 d.2:=by kernel_rfl
abbrev KQ:Prop:=OkC Tryz.prog 79 Jo
theorem KR (h:∀ (l:List (Int×(Int×Int)×Int)) (tl:Int) (sx:Int),(l.length≤12∧(∀ y∈l,QP y=true)∧0<sx∧sx<2 ^ l.length)→Zg l tl sx):OkC Tryz.prog 79 Jo :=
 Zx I4 mixed (C:=Xv) (V:=fun (d:((List (Int×(Int×Int)×Int))×Int)×Int)=>Zg d.1.1 d.1.2 d.2) ⟨(.cons Xk (.cons Qr (.cons YL (.cons G5 .nil)))),XsOk.nil,ItsOk.nil,YlOk.nil,IysOk.nil,XfOk.nil⟩ (KM) fun d hp=>h d.1.1 d.1.2 d.2 hp
end Go.Proofs.Tryz
set_option linter.unusedVariables false
namespace Go.Proofs.Tryz
open Go Go.V Go.Proofs
theorem KT:KQ:=KR fun l tl sx h=>by
 obtain⟨h1,h2,h3,h4⟩:=h;obtain⟨n,rfl⟩:=Int.eq_ofNat_of_zero_le (show 0≤sx by omega);have hp:(2:Int) ^ l.length=((2 ^ l.length:Nat):Int):=by simp
 have ec:2 ^ l.length≤2 ^ 12:=Nat.pow_le_pow_right (by omega) h1;have lO:(2:Nat) ^ 12=4096:=rfl;rw[hp] at h4;have hn:n<2 ^ l.length:=by omega
 unfold Zg;(try delta lI gD sT I64);rw[Int.toNat_natCast];have ai:=B8 hn (by omega);have eN:=Jx hn (by omega);have aB:=BP (show 0<n by omega);generalize Q7 n=S at *
 have nG:Y1 l S≠[]:=by simpa [Y1] using aB
 have pW:=Al h2 ai;have aO:∀ k,(Y1 l (S.take k)).length=min k S.length:=fun k=>by simp[Y1]
 simp only[decide_eq_true_eq,decide_eq_false_iff_not];refine⟨⟨by omega,by omega⟩,(),([],0),(by and_intros<;>first|rfl|trivial|simp),?_⟩;refine LoopP.count2 S.length (fun k L=>L=Y1 l (S.take k)) rfl fun k L hk hJ q hq=>?_;subst hJ;dsimp only;have hd:∀ j,l.getD j (0,((0,0),0))=l.getD j Zs:=fun _=>rfl;simp only[Int.toNat_natCast,hd];refine⟨fun pX=>?_,fun bq=>?_⟩
 ·have ov:k<S.length:=by omega
  have hm:=ai _ (by rw[Ql ov];exact List.getElem_mem ov:S.getD k 0∈S);refine⟨by omega,pX,hm.1,hm.2,by simp only[aO,List.length_cons,List.length_nil];omega,by rw[QR];omega,(Y1 l (S.take (k+1)),(k:Int)+1),?_,hq _ ov rfl⟩;rw[SL ov];have:((Y1 l (S.take k)++[l.getD (S.getD k 0).toNat Zs]).isEmpty)=false:=by simp
  and_intros<;>first|rfl|trivial|exact this.symm
 ·have:k=S.length:=by omega
  subst this;have aM:=aO S.length;rw[List.take_length] at *
  refine⟨⟨by omega,fun _ _=>nG⟩,fun _=>⟨nG,by omega,pW⟩,?_⟩;and_intros<;>first|rfl|trivial
end Go.Proofs.Tryz
set_option linter.unusedVariables false
namespace Go.Proofs.Tryz
open Go Go.V Go.Proofs
def VO:Cx:=⟨[(3,(.i .i64))],[(69,XH),(61,Je)],21,[],0,[],[],[],[],false,[],[],[],[]⟩
def N2:XSp:=Q5v VO (fun _=>[]) c51 [.cell 4 true 2,.tmp 5] 21
theorem GP:XOk Tryz.prog 51 N2:=O3 F_ mixed (C:=VO) ⟨(.cons Vf (.cons XS .nil)),XsOk.nil,ItsOk.nil,YlOk.nil,IysOk.nil,XfOk.nil⟩ _
end Go.Proofs.Tryz
set_option linter.unusedVariables false
namespace Go.Proofs.Tryz
open Go Go.V Go.Proofs
def Bf (n m:Nat):List Int:=((List.range m).filter fun k=>n.testBit k).map fun (k:Nat)=>(k:Int)
theorem Vy:∀ {a b:List Int},a.Pairwise (·<·)→b.Pairwise (·<·)→(∀ x,x∈a↔x∈b)→a=b
 |[],[],_,_,_=>rfl
 |[],y::b,_,_,h=>by have:=(h y).2 (List.mem_cons_self ..);cases this
 |x::a,[],_,_,h=>by have:=(h x).1 (List.mem_cons_self ..);cases this
 |x::a,y::b,ha,hb,h=>by
  obtain⟨qK,pE⟩:=List.pairwise_cons.1 ha;obtain⟨bh,bY⟩:=List.pairwise_cons.1 hb;have tu:x=y:=by
   rcases List.mem_cons.1 ((h x).1 (List.mem_cons_self ..)) with e|e
   ·exact e
   ·rcases List.mem_cons.1 ((h y).2 (List.mem_cons_self ..)) with e2|e2
    ·exact e2.symm
    ·have h1:=bh x e;have h2:=qK y e2;omega
  subst tu;rw[Vy pE bY fun z=>?_];constructor
  ·intro hz;rcases List.mem_cons.1 ((h z).1 (List.mem_cons_of_mem _ hz)) with e|e
   ·have:=qK z hz;omega
   ·exact e
  ·intro hz;rcases List.mem_cons.1 ((h z).2 (List.mem_cons_of_mem _ hz)) with e|e
   ·have:=bh z hz;omega
   ·exact e
theorem Q0c {n k:Nat}(h0:0<n) (h1:n<2 ^ 64) (hk:n.testBit k=true):tzN n≤k:=by
 obtain⟨_,m,hm⟩:=KI h0 h1;generalize tzN n=t at *
 rcases Nat.lt_or_ge k t with h|h
 ·rw[hm,Nat.testBit_two_pow_mul,decide_eq_false (show ¬ k≥t by omega)] at hk;cases hk
 ·exact h
theorem Ye:∀ f n,n≤f→n<2 ^ 64→(DG f n).Pairwise (·<·)
 |0,n,_,_=>by simp[DG]
 |f+1,n,h1,h2=>by
  unfold DG;by_cases h:n=0
  ·rw[if_pos h];exact List.Pairwise.nil
  ·rw[if_neg h,List.pairwise_cons];have hle:=Nat.and_le_right (n:=n) (m:=n-1);refine⟨fun i hm=>?_,Ye f _ (by omega) (by omega)⟩;obtain⟨k,rfl,hb⟩:=(NV f _ (by omega) (by omega) _).1 hm;rw[U1 (by omega) h2] at hb;simp only[Bool.and_eq_true,Bool.not_eq_true',decide_eq_false_iff_not] at hb;have:=Q0c (by omega) h2 hb.1;omega
theorem Tu {n m:Nat}(h:n<2 ^ m) (hm:m≤64):Q7 n=Bf n m:=by
 have hp:2 ^ m≤2 ^ 64:=Nat.pow_le_pow_right (by omega) hm;refine Vy (Ye n n (Nat.le_refl _) (by omega)) ?_ fun x=>?_
 ·unfold Bf;rw[List.pairwise_map];exact(List.Pairwise.filter _ List.pairwise_lt_range).imp fun h=>by omega
 ·rw[Yg (by omega)];simp only[Bf,List.mem_map,List.mem_filter,List.mem_range];constructor
  ·rintro⟨k,rfl,hb⟩;have:k<m:=by
    rcases Nat.lt_or_ge k m with h2|h2
    ·exact h2
    ·rw[Nat.testBit_lt_two_pow (Nat.lt_of_lt_of_le h (Nat.pow_le_pow_right (by omega) h2))] at hb;cases hb
   exact⟨k,⟨this,hb⟩,rfl⟩
  ·rintro⟨k,⟨_,hb⟩,rfl⟩;exact⟨k,rfl,hb⟩
def Ns (a b:Lot) (t:Int):Bool:=(a.1==b.1)&&decide (Vi a b≤t)&&decide (Vi a a≤t)&&decide (Vi b b≤t)
def DV (p:List Lot) (t:Int):Bool:=(List.range p.length).all fun i=>(List.range p.length).all fun k=>Ns (p.getD i Zs) (p.getD k Zs) t
theorem S3 {p:List Lot}{t:Int}:DV p t=true↔∀ i,i<p.length→∀ k,k<p.length→(p.getD i Zs).1=(p.getD k Zs).1∧Vi (p.getD i Zs) (p.getD k Zs)≤t:=by simp only[DV,List.all_eq_true,List.mem_range,Ns,Bool.and_eq_true,beq_iff_eq,decide_eq_true_eq];exact⟨fun h i hi k hk=>⟨(h i hi k hk).1.1.1,(h i hi k hk).1.1.2⟩,fun h i hi k hk=>⟨⟨⟨(h i hi k hk).1,(h i hi k hk).2⟩,(h i hi i hi).2⟩,(h k hk k hk).2⟩⟩
theorem C3 {p:List Lot}{t:Int}(h:p≠[]):CM t p=DV p t:=by
 have hp:1≤p.length:=List.length_pos_iff.2 h;obtain⟨a,_,_,⟨i3,b3,c3⟩,⟨i4,b4,c4⟩⟩:=MW h p.length hp (Nat.le_refl _);rw[Bool.eq_iff_iff,S3];unfold CM Fm;simp only[Bool.and_eq_true,Bool.not_eq_true',decide_eq_true_eq,List.any_eq_false,bne_iff_ne,ne_eq,Decidable.not_not];generalize YF p p.length=S at *
 constructor
 ·rintro⟨h1,h2⟩ i hi k hk;have e1:=h1 _ (by rw[Ql hi];exact List.getElem_mem hi:p.getD i Zs∈p);have e2:=h1 _ (by rw[Ql hk];exact List.getElem_mem hk:p.getD k Zs∈p);have u:=a i hi;have v:=a k hk;refine⟨e1.trans e2.symm,?_⟩;unfold Vi;rw[UB];omega
 ·intro h1;refine⟨fun x hx=>?_,?_⟩
  ·obtain⟨i,hi,rfl⟩:=List.getElem_of_mem hx;have:=(h1 i hi 0 (by omega)).1
   rwa [Ql hi] at this
  ·have:=(h1 i4 b4 i3 b3).2;unfold Vi at this;rw[UB] at this;omega
end Go.Proofs.Tryz
set_option linter.unusedVariables false
namespace Go.Proofs.Tryz
open Go Go.V Go.Proofs
def Ue:AL ((List (Int×(Int×Int)×Int))×Int×Int×Int):=(.cons (.k (.list (.pair (.i .i64) (.pair (.pair (.i .i64) (.i .i64)) (.i .i64))))) (.cons (.k (.i .i64)) (.cons (.k (.i .i64)) (.one (.k (.i .i64))))))
def GD (d:(List (Int×(Int×Int)×Int))×Int×Int×Int):Prop:=(∀ y∈d.1,QP y=true)∧0≤d.2.1∧d.2.1<d.1.length∧0≤d.2.2.1∧d.2.2.1<d.1.length
def V1 (d:(List (Int×(Int×Int)×Int))×Int×Int×Int):SV:=.val .bo (Ns (d.1.getD d.2.1.toNat Zs) (d.1.getD d.2.2.1.toNat Zs) d.2.2.2)
def Vc (d:(List (Int×(Int×Int)×Int))×Int×Int×Int):List OB:=[]
def YR:CSp:=YC Ue GD V1 Vc
def XD (l:List (Int×(Int×Int)×Int)) (a:Int) (b:Int) (tl:Int):Prop :=
 (0≤a)∧(a<(List.length l))∧(0≤b)∧(b<(List.length l))∧(((gD l a (0,((0,0),0))).1==(gD l b (0,((0,0),0))).1)=true→0≤a)∧(((gD l a (0,((0,0),0))).1==(gD l b (0,((0,0),0))).1)=true→a<(List.length l))∧(((gD l a (0,((0,0),0))).1==(gD l b (0,((0,0),0))).1)=true→0≤b)∧(((gD l a (0,((0,0),0))).1==(gD l b (0,((0,0),0))).1)=true→b<(List.length l))∧(((gD l a (0,((0,0),0))).1==(gD l b (0,((0,0),0))).1)=true→0≤((gD l a (0,((0,0),0))).2.1.1)∧((gD l a (0,((0,0),0))).2.1.1)≤1000∧0≤((gD l a (0,((0,0),0))).2.1.2)∧((gD l a (0,((0,0),0))).2.1.2)≤1000∧0≤((gD l b (0,((0,0),0))).2.1.1)∧((gD l b (0,((0,0),0))).2.1.1)≤1000∧0≤((gD l b (0,((0,0),0))).2.1.2)∧((gD l b (0,((0,0),0))).2.1.2)≤1000)∧((((gD l a (0,((0,0),0))).1==(gD l b (0,((0,0),0))).1)&&(decide ((Vi (((gD l a (0,((0,0),0))).1),(((gD l a (0,((0,0),0))).2.1.1),((gD l a (0,((0,0),0))).2.1.2)),((gD l a (0,((0,0),0))).2.2)) (((gD l b (0,((0,0),0))).1),(((gD l b (0,((0,0),0))).2.1.1),((gD l b (0,((0,0),0))).2.1.2)),((gD l b (0,((0,0),0))).2.2)))≤tl)))=true→0≤a)∧((((gD l a (0,((0,0),0))).1==(gD l b (0,((0,0),0))).1)&&(decide ((Vi (((gD l a (0,((0,0),0))).1),(((gD l a (0,((0,0),0))).2.1.1),((gD l a (0,((0,0),0))).2.1.2)),((gD l a (0,((0,0),0))).2.2)) (((gD l b (0,((0,0),0))).1),(((gD l b (0,((0,0),0))).2.1.1),((gD l b (0,((0,0),0))).2.1.2)),((gD l b (0,((0,0),0))).2.2)))≤tl)))=true→a<(List.length l))∧((((gD l a (0,((0,0),0))).1==(gD l b (0,((0,0),0))).1)&&(decide ((Vi (((gD l a (0,((0,0),0))).1),(((gD l a (0,((0,0),0))).2.1.1),((gD l a (0,((0,0),0))).2.1.2)),((gD l a (0,((0,0),0))).2.2)) (((gD l b (0,((0,0),0))).1),(((gD l b (0,((0,0),0))).2.1.1),((gD l b (0,((0,0),0))).2.1.2)),((gD l b (0,((0,0),0))).2.2)))≤tl)))=true→0≤a)∧((((gD l a (0,((0,0),0))).1==(gD l b (0,((0,0),0))).1)&&(decide ((Vi (((gD l a (0,((0,0),0))).1),(((gD l a (0,((0,0),0))).2.1.1),((gD l a (0,((0,0),0))).2.1.2)),((gD l a (0,((0,0),0))).2.2)) (((gD l b (0,((0,0),0))).1),(((gD l b (0,((0,0),0))).2.1.1),((gD l b (0,((0,0),0))).2.1.2)),((gD l b (0,((0,0),0))).2.2)))≤tl)))=true→a<(List.length l))∧((((gD l a (0,((0,0),0))).1==(gD l b (0,((0,0),0))).1)&&(decide ((Vi (((gD l a (0,((0,0),0))).1),(((gD l a (0,((0,0),0))).2.1.1),((gD l a (0,((0,0),0))).2.1.2)),((gD l a (0,((0,0),0))).2.2)) (((gD l b (0,((0,0),0))).1),(((gD l b (0,((0,0),0))).2.1.1),((gD l b (0,((0,0),0))).2.1.2)),((gD l b (0,((0,0),0))).2.2)))≤tl)))=true→0≤((gD l a (0,((0,0),0))).2.1.1)∧((gD l a (0,((0,0),0))).2.1.1)≤1000∧0≤((gD l a (0,((0,0),0))).2.1.2)∧((gD l a (0,((0,0),0))).2.1.2)≤1000∧0≤((gD l a (0,((0,0),0))).2.1.1)∧((gD l a (0,((0,0),0))).2.1.1)≤1000∧0≤((gD l a (0,((0,0),0))).2.1.2)∧((gD l a (0,((0,0),0))).2.1.2)≤1000)∧(((((gD l a (0,((0,0),0))).1==(gD l b (0,((0,0),0))).1)&&(decide ((Vi (((gD l a (0,((0,0),0))).1),(((gD l a (0,((0,0),0))).2.1.1),((gD l a (0,((0,0),0))).2.1.2)),((gD l a (0,((0,0),0))).2.2)) (((gD l b (0,((0,0),0))).1),(((gD l b (0,((0,0),0))).2.1.1),((gD l b (0,((0,0),0))).2.1.2)),((gD l b (0,((0,0),0))).2.2)))≤tl)))&&(decide ((Vi (((gD l a (0,((0,0),0))).1),(((gD l a (0,((0,0),0))).2.1.1),((gD l a (0,((0,0),0))).2.1.2)),((gD l a (0,((0,0),0))).2.2)) (((gD l a (0,((0,0),0))).1),(((gD l a (0,((0,0),0))).2.1.1),((gD l a (0,((0,0),0))).2.1.2)),((gD l a (0,((0,0),0))).2.2)))≤tl)))=true→0≤b)∧(((((gD l a (0,((0,0),0))).1==(gD l b (0,((0,0),0))).1)&&(decide ((Vi (((gD l a (0,((0,0),0))).1),(((gD l a (0,((0,0),0))).2.1.1),((gD l a (0,((0,0),0))).2.1.2)),((gD l a (0,((0,0),0))).2.2)) (((gD l b (0,((0,0),0))).1),(((gD l b (0,((0,0),0))).2.1.1),((gD l b (0,((0,0),0))).2.1.2)),((gD l b (0,((0,0),0))).2.2)))≤tl)))&&(decide ((Vi (((gD l a (0,((0,0),0))).1),(((gD l a (0,((0,0),0))).2.1.1),((gD l a (0,((0,0),0))).2.1.2)),((gD l a (0,((0,0),0))).2.2)) (((gD l a (0,((0,0),0))).1),(((gD l a (0,((0,0),0))).2.1.1),((gD l a (0,((0,0),0))).2.1.2)),((gD l a (0,((0,0),0))).2.2)))≤tl)))=true→b<(List.length l))∧(((((gD l a (0,((0,0),0))).1==(gD l b (0,((0,0),0))).1)&&(decide ((Vi (((gD l a (0,((0,0),0))).1),(((gD l a (0,((0,0),0))).2.1.1),((gD l a (0,((0,0),0))).2.1.2)),((gD l a (0,((0,0),0))).2.2)) (((gD l b (0,((0,0),0))).1),(((gD l b (0,((0,0),0))).2.1.1),((gD l b (0,((0,0),0))).2.1.2)),((gD l b (0,((0,0),0))).2.2)))≤tl)))&&(decide ((Vi (((gD l a (0,((0,0),0))).1),(((gD l a (0,((0,0),0))).2.1.1),((gD l a (0,((0,0),0))).2.1.2)),((gD l a (0,((0,0),0))).2.2)) (((gD l a (0,((0,0),0))).1),(((gD l a (0,((0,0),0))).2.1.1),((gD l a (0,((0,0),0))).2.1.2)),((gD l a (0,((0,0),0))).2.2)))≤tl)))=true→0≤b)∧(((((gD l a (0,((0,0),0))).1==(gD l b (0,((0,0),0))).1)&&(decide ((Vi (((gD l a (0,((0,0),0))).1),(((gD l a (0,((0,0),0))).2.1.1),((gD l a (0,((0,0),0))).2.1.2)),((gD l a (0,((0,0),0))).2.2)) (((gD l b (0,((0,0),0))).1),(((gD l b (0,((0,0),0))).2.1.1),((gD l b (0,((0,0),0))).2.1.2)),((gD l b (0,((0,0),0))).2.2)))≤tl)))&&(decide ((Vi (((gD l a (0,((0,0),0))).1),(((gD l a (0,((0,0),0))).2.1.1),((gD l a (0,((0,0),0))).2.1.2)),((gD l a (0,((0,0),0))).2.2)) (((gD l a (0,((0,0),0))).1),(((gD l a (0,((0,0),0))).2.1.1),((gD l a (0,((0,0),0))).2.1.2)),((gD l a (0,((0,0),0))).2.2)))≤tl)))=true→b<(List.length l))∧(((((gD l a (0,((0,0),0))).1==(gD l b (0,((0,0),0))).1)&&(decide ((Vi (((gD l a (0,((0,0),0))).1),(((gD l a (0,((0,0),0))).2.1.1),((gD l a (0,((0,0),0))).2.1.2)),((gD l a (0,((0,0),0))).2.2)) (((gD l b (0,((0,0),0))).1),(((gD l b (0,((0,0),0))).2.1.1),((gD l b (0,((0,0),0))).2.1.2)),((gD l b (0,((0,0),0))).2.2)))≤tl)))&&(decide ((Vi (((gD l a (0,((0,0),0))).1),(((gD l a (0,((0,0),0))).2.1.1),((gD l a (0,((0,0),0))).2.1.2)),((gD l a (0,((0,0),0))).2.2)) (((gD l a (0,((0,0),0))).1),(((gD l a (0,((0,0),0))).2.1.1),((gD l a (0,((0,0),0))).2.1.2)),((gD l a (0,((0,0),0))).2.2)))≤tl)))=true→0≤((gD l b (0,((0,0),0))).2.1.1)∧((gD l b (0,((0,0),0))).2.1.1)≤1000∧0≤((gD l b (0,((0,0),0))).2.1.2)∧((gD l b (0,((0,0),0))).2.1.2)≤1000∧0≤((gD l b (0,((0,0),0))).2.1.1)∧((gD l b (0,((0,0),0))).2.1.1)≤1000∧0≤((gD l b (0,((0,0),0))).2.1.2)∧((gD l b (0,((0,0),0))).2.1.2)≤1000)∧((((((gD l a (0,((0,0),0))).1==(gD l b (0,((0,0),0))).1)&&(decide ((Vi (((gD l a (0,((0,0),0))).1),(((gD l a (0,((0,0),0))).2.1.1),((gD l a (0,((0,0),0))).2.1.2)),((gD l a (0,((0,0),0))).2.2)) (((gD l b (0,((0,0),0))).1),(((gD l b (0,((0,0),0))).2.1.1),((gD l b (0,((0,0),0))).2.1.2)),((gD l b (0,((0,0),0))).2.2)))≤tl)))&&(decide ((Vi (((gD l a (0,((0,0),0))).1),(((gD l a (0,((0,0),0))).2.1.1),((gD l a (0,((0,0),0))).2.1.2)),((gD l a (0,((0,0),0))).2.2)) (((gD l a (0,((0,0),0))).1),(((gD l a (0,((0,0),0))).2.1.1),((gD l a (0,((0,0),0))).2.1.2)),((gD l a (0,((0,0),0))).2.2)))≤tl)))&&(decide ((Vi (((gD l b (0,((0,0),0))).1),(((gD l b (0,((0,0),0))).2.1.1),((gD l b (0,((0,0),0))).2.1.2)),((gD l b (0,((0,0),0))).2.2)) (((gD l b (0,((0,0),0))).1),(((gD l b (0,((0,0),0))).2.1.1),((gD l b (0,((0,0),0))).2.1.2)),((gD l b (0,((0,0),0))).2.2)))≤tl)))=(Ns (l.getD a.toNat Zs) (l.getD b.toNat Zs) tl)∧(True))
def VZ:Cx:=⟨[],[(73,Vs)],59,[],0,[],[],[],[],false,[],[],[],[]⟩
def Br (l:List (Int×(Int×Int)×Int)) (a:Int) (b:Int) (tl:Int):List (Nat×LoopAnn):=[]
set_option maxRecDepth 100000 in
theorem H0 (d:(List (Int×(Int×Int)×Int))×Int×Int×Int):gwp (VZ) (Br d.1 d.2.1 d.2.2.1 d.2.2.2) c44 0 (VJ [.tmp 8] (V1 d) (Vc d)) (QX 59 (AL.can Ue d))=XD d.1 d.2.1 d.2.2.1 d.2.2.2:=by kernel_rfl
abbrev B4:Prop:=OkC Tryz.prog 44 YR
theorem Bp (h:∀ (l:List (Int×(Int×Int)×Int)) (a:Int) (b:Int) (tl:Int),((∀ y∈l,QP y=true)∧0≤a∧a<l.length∧0≤b∧b<l.length)→XD l a b tl):OkC Tryz.prog 44 YR :=
 Zx Oc mixed (C:=VZ) (V:=fun (d:(List (Int×(Int×Int)×Int))×Int×Int×Int)=>XD d.1 d.2.1 d.2.2.1 d.2.2.2) ⟨(.cons P7 .nil),XsOk.nil,ItsOk.nil,YlOk.nil,IysOk.nil,XfOk.nil⟩ (H0) fun d hp=>h d.1 d.2.1 d.2.2.1 d.2.2.2 hp
theorem BR:B4:=Bp fun l a b tl h=>by
 obtain⟨h1,h2,h3,h4,h5⟩:=h;unfold XD;(try delta lI gD sT I64);have hd:∀ j,l.getD j (0,((0,0),0))=l.getD j Zs:=fun _=>rfl;simp only[hd];have nH:∀ j:Int,0≤j→j<l.length→0≤(l.getD j.toNat Zs).2.1.1∧(l.getD j.toNat Zs).2.1.1≤1000∧0≤(l.getD j.toNat Zs).2.1.2∧(l.getD j.toNat Zs).2.1.2≤1000:=fun j j0 j1=>by
  have hj:j.toNat<l.length:=by omega
  have:=Gk.1 (h1 _ (List.getElem_mem hj));rw[Ql hj];omega
 have u:=nH a h2 h3;have v:=nH b h4 h5;generalize l.getD a.toNat Zs=x at *
 generalize l.getD b.toNat Zs=y at *
 obtain⟨u1,u2,u3,u4⟩:=u;obtain⟨v1,v2,v3,v4⟩:=v;and_intros;all_goals first|omega|rfl|trivial|(intro _;omega)|(intro _;and_intros<;>first|omega|rfl|trivial)
theorem Lh {l:List Lot}{sm:List Int}{i:Nat}(h:i<sm.length):(Y1 l sm).getD i Zs=l.getD (sm.getD i 0).toNat Zs:=by rw[Ql (by simpa [Y1] using h),Ql h];simp[Y1]
theorem RZ {p:List Lot}{t:Int}:DV p t=true↔∀ i,i<p.length→∀ k,k<p.length→Ns (p.getD i Zs) (p.getD k Zs) t=true:=by simp only[DV,List.all_eq_true,List.mem_range]
def Ut:AL ((List (Int×(Int×Int)×Int))×Int):=(.cons (.k (.list (.pair (.i .i64) (.pair (.pair (.i .i64) (.i .i64)) (.i .i64))))) (.one (.k (.i .i64))))
def GX (d:(List (Int×(Int×Int)×Int))×Int):Prop:=d.1.length≤9223372036854775807
def Vh (d:(List (Int×(Int×Int)×Int))×Int):SV:=.val (.i .i64) (Qn d.1 d.2)
def Vg (d:(List (Int×(Int×Int)×Int))×Int):List OB:=[]
def Kn:CSp:=YC Ut GX Vh Vg
def Xz (l:List (Int×(Int×Int)×Int)) (tl:Int):Prop :=
 (l.length≤9223372036854775807)∧(((Qo l) != (0:Int))=true →
  ((Qo l)=(Qn l tl)∧(True))) ∧
 (((Qo l) != (0:Int))=false →
  (True)∧((!(inI tl (0:Int) (1000:Int)))=true →
   ((3:Int)=(Qn l tl)∧(True))) ∧
  ((!(inI tl (0:Int) (1000:Int)))=false →
   ((0:Int)=(Qn l tl)∧(True))))
def Uw:Cx:=⟨[],[(43,Yj),(20,Kz)],14,[],0,[],[],[],[],false,[],[],[],[]⟩
def Hh (l:List (Int×(Int×Int)×Int)) (tl:Int):List (Nat×LoopAnn):=[]
set_option maxRecDepth 100000 in
theorem Bd (d:(List (Int×(Int×Int)×Int))×Int):gwp (Uw) (Hh d.1 d.2) c11 0 (VJ [.tmp 4] (Vh d) (Vg d)) (QX 14 (AL.can Ut d))=Xz d.1 d.2:=by kernel_rfl
abbrev BD:Prop:=OkC Tryz.prog 11 Kn
theorem H8 (h:∀ (l:List (Int×(Int×Int)×Int)) (tl:Int),(l.length≤9223372036854775807)→Xz l tl):OkC Tryz.prog 11 Kn :=
 Zx O6 mixed (C:=Uw) (V:=fun (d:(List (Int×(Int×Int)×Int))×Int)=>Xz d.1 d.2) ⟨(.cons GG (.cons Mz .nil)),XsOk.nil,ItsOk.nil,YlOk.nil,IysOk.nil,XfOk.nil⟩ (Bd) fun d hp=>h d.1 d.2 hp
theorem Bj:BD:=H8 fun l tl h=>by
 unfold Xz;(try delta lI gD sT I64);refine⟨h,fun hx=>?_,fun hx=>⟨trivial,fun hy=>?_,fun hy=>?_⟩⟩
 ·have hx:Qo l≠0:=by simpa using hx
  unfold Qn;rw[if_pos hx];exact(by and_intros<;>first|rfl|trivial|simp)
 ·have hx:Qo l=0:=by simpa using hx
  unfold Qn;rw[if_neg (by omega),if_pos hy];exact(by and_intros<;>first|rfl|trivial|simp)
 ·have hx:Qo l=0:=by simpa using hx
  unfold Qn;rw[if_neg (by omega),if_neg (by rw[hy];decide)];exact(by and_intros<;>first|rfl|trivial|simp)
end Go.Proofs.Tryz
set_option linter.unusedVariables false
namespace Go.Proofs.Tryz
open Go Go.V Go.Proofs
def alP (l:List Lot) (tl:Int) (i k:Int):Bool:=Ns (l.getD i.toNat Zs) (l.getD k.toNat Zs) tl
theorem LS (a b:Lot):Vi a b=Vi b a:=by unfold Vi;simp only[UB];omega
theorem Bg {l:List Lot}{tl i k:Int}:alP l tl i k=true↔(l.getD i.toNat Zs).1=(l.getD k.toNat Zs).1∧Vi (l.getD i.toNat Zs) (l.getD k.toNat Zs)≤tl∧Vi (l.getD i.toNat Zs) (l.getD i.toNat Zs)≤tl∧Vi (l.getD k.toNat Zs) (l.getD k.toNat Zs)≤tl:=by simp only[alP,Ns,Bool.and_eq_true,beq_iff_eq,decide_eq_true_eq,and_assoc]
theorem AM {l:List Lot}{tl i k:Int}(h:alP l tl i k=true):alP l tl k i=true:=by rw[Bg] at h ⊢;obtain⟨h1,h2,h3,h4⟩:=h;exact⟨h1.symm,by rw[LS];exact h2,h4,h3⟩
theorem T6 {l:List Lot}{tl:Int}{S:List Int}:DV (Y1 l S) tl=true↔∀ i∈S,∀ k∈S,alP l tl i k=true:=by
 have hlen:(Y1 l S).length=S.length:=List.length_map ..;have e8:∀ j,(h:j<S.length)→(Y1 l S).getD j Zs=l.getD S[j].toNat Zs:=fun j h=>by rw[Lh h,Ql h]
 rw[RZ,hlen];constructor
 ·intro h i hi k hk;obtain⟨p,hp,rfl⟩:=List.getElem_of_mem hi;obtain⟨q,hq,rfl⟩:=List.getElem_of_mem hk;have:=h p hp q hq;rw[e8 p hp,e8 q hq] at this;exact this
 ·intro h p hp q hq;rw[e8 p hp,e8 q hq];exact h _ (List.getElem_mem hp) _ (List.getElem_mem hq)
theorem T9 {l:List Lot}{tl:Int}{n:Nat}(h0:0<n):Vb l tl (Q7 n)=true↔∀ i∈Q7 n,∀ k∈Q7 n,alP l tl i k=true:=by unfold Vb;rw[C3 fun e=>BP h0 (by simpa [Y1] using e),T6]
theorem H7 {a b:Nat}(ha:a<64) (hb:b<64) (i:Int):i∈Q7 (2 ^ a ||| 2 ^ b)↔i=a∨i=b:=by
 have h1:2 ^ a<2 ^ 64:=Nat.pow_lt_pow_right (by omega) ha;have h2:2 ^ b<2 ^ 64:=Nat.pow_lt_pow_right (by omega) hb;rw[Yg (Nat.or_lt_two_pow h1 h2)];simp only[Nat.testBit_or,Nat.testBit_two_pow,Bool.or_eq_true,decide_eq_true_eq];constructor
 ·rintro⟨k,rfl,h|h⟩
  ·exact .inl (by rw[h])
  ·exact .inr (by rw[h])
 ·rintro (rfl|rfl)
  ·exact⟨a,rfl,.inl rfl⟩
  ·exact⟨b,rfl,.inr rfl⟩
theorem Cl {l:List Lot}{tl:Int}{a b:Nat}(ha:a<64) (hb:b<64):Vb l tl (Q7 (2 ^ a ||| 2 ^ b))=alP l tl a b:=by
 have dp:0<2 ^ a ||| 2 ^ b:=Nat.lt_of_lt_of_le (Nat.two_pow_pos a) Nat.left_le_or
 rw[Bool.eq_iff_iff,T9 dp];constructor
 ·intro h;exact h a ((H7 ha hb _).2 (.inl rfl)) b ((H7 ha hb _).2 (.inr rfl))
 ·intro h i hi k hk;have h2:=AM h;have h3:=Bg.1 h;have ua:alP l tl a a=true:=Bg.2 ⟨rfl,h3.2.2.1,h3.2.2.1,h3.2.2.1⟩;have ma:alP l tl b b=true:=Bg.2 ⟨rfl,h3.2.2.2,h3.2.2.2,h3.2.2.2⟩;rcases (H7 ha hb _).1 hi with rfl|rfl<;>rcases (H7 ha hb _).1 hk with rfl|rfl<;>assumption
def alC (l:List Lot) (tl:Int) (i k:Int):Bool:=Vb l tl (Q7 (2 ^ i.toNat ||| 2 ^ k.toNat))
theorem R3 {n:Nat}(hn:n≤64):Q7 (2 ^ n-1)=(List.range n).map fun (k:Nat)=>(k:Int):=by rw[Tu (m:=n) (by have:=Nat.two_pow_pos n;omega) hn];unfold Bf;rw[List.filter_eq_self.2 fun k hk=>by rw[Nat.testBit_two_pow_sub_one];simpa using hk]
theorem Q0b {l:List Lot}{tl i k:Int}(hl:l.length≤12) (hi:0≤i∧i<l.length) (hk:0≤k∧k<l.length):alC l tl i k=alP l tl i k:=by unfold alC;rw[Cl (by omega) (by omega),show ((i.toNat:Nat):Int)=i by omega,show ((k.toNat:Nat):Int)=k by omega]
theorem Kw {i:Int}(h0:0≤i) (h:i≤63):Zy .u64 1 i=((2 ^ i.toNat:Nat):Int):=by unfold Zy;rw[show Nat.min i.toNat (IntKind.bits .u64)=i.toNat from Nat.min_eq_left (show i.toNat≤64 by omega),Int.one_mul];simp
theorem OV {a b:Nat}(ha:a<2 ^ 64) (hb:b<2 ^ 64):ZF .or .u64 (a:Int) (b:Int)=((a ||| b:Nat):Int):=by
 have e:(BitVec.ofInt 64 ((a:Nat):Int) ||| BitVec.ofInt 64 ((b:Nat):Int)).toNat=a ||| b:=by rw[BitVec.toNat_or,BitVec.toNat_ofInt,BitVec.toNat_ofInt];congr 1<;>omega
 have ai:=Nat.or_lt_two_pow ha hb;show IntKind.wrap .u64 ((BitVec.ofInt 64 ((a:Nat):Int) ||| BitVec.ofInt 64 ((b:Nat):Int)).toNat:Int)=_;rw[e];simp[IntKind.wrap,IntKind.bits,IntKind.signed];omega
theorem AE {i k:Int}(hi:0≤i∧i≤12) (hk:0≤k∧k≤12):ZF .or .u64 (Zy .u64 1 i) (Zy .u64 1 k)=((2 ^ i.toNat ||| 2 ^ k.toNat:Nat):Int):=by rw[Kw hi.1 (by omega),Kw hk.1 (by omega)];exact OV (Nat.pow_lt_pow_right (by omega) (by omega)) (Nat.pow_lt_pow_right (by omega) (by omega))
theorem VU {n:Nat}(h:n≤12):2 ^ n≤4096:=Nat.pow_le_pow_right (n:=2) (by omega) h
end Go.Proofs.Tryz
set_option linter.unusedVariables false
namespace Go.Proofs.Tryz
open Go Go.V Go.Proofs
def alD (l:List Lot) (tl:Int) (i k:Int):Bool:=Vb l tl (Q7 (2 ^ i.toNat ||| 2 ^ k.toNat))
def ZI (l:List Lot) (tl a b:Int):Int:=if decide (a<0)||alD l tl a b then 0 else 1
section
variable (sm:Int→Int→Int) (N:Int)
def WR:Nat→List Int→Int→Int
 |0,_,_=>0
 |f+1,L,la=>L.foldl (fun b i=>GZ b (sm la i+WR f (L.erase i) i)) N
def PT:Nat→List Int→Int→List Int
 |0,_,_=>[]
 |f+1,L,la=>match L.find? (fun i=>sm la i+WR sm N f (L.erase i) i==WR sm N (f+1) L la) with
  |some i=>i::PT f (L.erase i) i
  |none=>[]
def Xq:Int→List Int→Int
 |_,[]=>0
 |la,i::r=>sm la i+Xq i r
end
theorem Mx (F:Int→Int):∀ (L:List Int) (N:Int),L.foldl (fun b i=>GZ b (F i)) N≤N∧(∀ i∈L,L.foldl (fun b i=>GZ b (F i)) N≤F i)∧(L.foldl (fun b i=>GZ b (F i)) N=N∨∃ i∈L,L.foldl (fun b i=>GZ b (F i)) N=F i)
 |[],N=>⟨Int.le_refl _,(fun i h=>by cases h),.inl rfl⟩
 |x::L,N=>by
  obtain⟨h1,h2,h3⟩:=Mx F L (GZ N (F x));have e:=Bi N (F x);simp only[List.foldl_cons];refine⟨by omega,fun i hi=>?_,?_⟩
  ·rcases List.mem_cons.1 hi with rfl|hi
   ·omega
   ·exact h2 i hi
  ·rcases h3 with h3|⟨i,hi,h3⟩
   ·by_cases h4:N≤F x
    ·exact .inl (by omega)
    ·exact .inr ⟨x,List.mem_cons_self ..,by omega⟩
   ·exact .inr ⟨i,List.mem_cons_of_mem _ hi,h3⟩
theorem U4 {L:List Int}{i:Int}(h:i∈L) {f:Nat}(hf:L.length=f+1):(L.erase i).length=f:=by rw[List.length_erase_of_mem h];omega
section
variable {sm:Int→Int→Int}{N:Int}
theorem NU (h0:∀ a b,0≤sm a b∧sm a b≤1):∀ f (L:List Int) (la:Int),L.length=f→(f:Int)≤N→0≤WR sm N f L la∧WR sm N f L la≤f
 |0,_,_,_,_=>⟨Int.le_refl _,Int.le_refl _⟩
 |f+1,L,la,hL,hN=>by
  have ih:∀ i∈L,0≤WR sm N f (L.erase i) i∧WR sm N f (L.erase i) i≤f:=fun i hi=>NU h0 f _ i (U4 hi hL) (by omega);obtain⟨h1,h2,h3⟩:=Mx (fun i=>sm la i+WR sm N f (L.erase i) i) L N;show 0≤L.foldl _ N∧L.foldl _ N≤_;constructor
  ·rcases h3 with h3|⟨i,hi,h3⟩
   ·rw[h3];omega
   ·rw[h3];have:=ih i hi;have:=h0 la i;omega
  ·cases L with
   |nil=>simp at hL
   |cons x t =>have:=h2 x (List.mem_cons_self ..);have:=ih x (List.mem_cons_self ..);have:=h0 la x;omega
theorem Rj (h0:∀ a b,0≤sm a b∧sm a b≤1) {f:Nat}{L:List Int}{la:Int}(hL:L.length=f+1) (hN:((f+1:Nat):Int)≤N) :
  (∀ i∈L,WR sm N (f+1) L la≤sm la i+WR sm N f (L.erase i) i)∧∃ i∈L,sm la i+WR sm N f (L.erase i) i=WR sm N (f+1) L la:=by
 obtain⟨h1,h2,h3⟩:=Mx (fun i=>sm la i+WR sm N f (L.erase i) i) L N;refine⟨h2,?_⟩;rcases h3 with h3|⟨i,hi,h3⟩
 ·cases L with
  |nil=>simp at hL
  |cons x t =>have hx:=List.mem_cons_self (a:=x) (l:=t);have e:=h2 x hx;have:=NU (N:=N) h0 f ((x::t).erase x) x (U4 hx hL) (by omega);have:=h0 la x;refine⟨x,hx,?_⟩;show _=List.foldl _ _ _;omega
 ·exact⟨i,hi,h3.symm⟩
theorem N_ {f:Nat}{L:List Int}{la:Int}:PT sm N (f+1) L la=match L.find? (fun i=>sm la i+WR sm N f (L.erase i) i==WR sm N (f+1) L la) with
  |some i=>i::PT sm N f (L.erase i) i
  |none=>[]:=rfl
theorem Mc (h0:∀ a b,0≤sm a b∧sm a b≤1) {f:Nat}{L:List Int}{la:Int}(hL:L.length=f+1) (hN:((f+1:Nat):Int)≤N) :
  ∃ i,i∈L∧L.find? (fun i=>sm la i+WR sm N f (L.erase i) i==WR sm N (f+1) L la)=some i∧sm la i+WR sm N f (L.erase i) i=WR sm N (f+1) L la∧PT sm N (f+1) L la=i::PT sm N f (L.erase i) i:=by
 obtain⟨_,i,hi,he⟩:=Rj (la:=la) h0 hL hN;cases hf:L.find? (fun i=>sm la i+WR sm N f (L.erase i) i==WR sm N (f+1) L la) with
 |none =>have:=List.find?_eq_none.1 hf i hi;simp[he] at this
 |some j =>have h1:=List.mem_of_find?_eq_some hf;have h2:=List.find?_some hf;refine⟨j,h1,rfl,by simpa using h2,?_⟩;rw[N_,hf]
theorem M6 (h0:∀ a b,0≤sm a b∧sm a b≤1):∀ f (L:List Int) (la:Int),L.length=f→(f:Int)≤N→(PT sm N f L la).Perm L∧Xq sm la (PT sm N f L la)=WR sm N f L la
 |0,L,_,hL,_=>by cases L with|nil=>exact⟨.refl _,rfl⟩|cons x t=>simp at hL
 |f+1,L,la,hL,hN=>by obtain⟨i,hi,_,he,ho⟩:=Mc (la:=la) h0 hL hN;obtain⟨h1,h2⟩:=M6 h0 f (L.erase i) i (U4 hi hL) (by omega);rw[ho];exact⟨(h1.cons i).trans (List.perm_cons_erase hi).symm,by simp only[Xq];rw[h2,he]⟩
end
def U6 (n i:Nat):Nat:=n &&& (2 ^ 64-1-2 ^ i)
theorem Bn {n i j:Nat}(hn:n<2 ^ 64) (hi:i<64):(U6 n i).testBit j=(n.testBit j&&!decide (j=i)):=by
 unfold U6;have hp:2 ^ i<2 ^ 64:=Nat.pow_lt_pow_right (by omega) hi;have e:2 ^ 64-1-2 ^ i=2 ^ 64-(2 ^ i+1):=by omega
 rw[Nat.testBit_and,e,Nat.testBit_two_pow_sub_succ hp,Nat.testBit_two_pow];by_cases hj:j<64
 ·rw[decide_eq_true hj,Bool.true_and];congr 2;rw[decide_eq_decide];omega
 ·have:n.testBit j=false:=Nat.testBit_lt_two_pow (Nat.lt_of_lt_of_le hn (Nat.pow_le_pow_right (by omega) (by omega)));rw[this];simp
theorem Tg (n i:Nat):U6 n i≤n:=Nat.and_le_left
theorem Rr {n i:Nat}(hn:n<2 ^ 64) (hi:i<64):ZF .andNot .u64 (n:Int) ((2 ^ i:Nat):Int)=((U6 n i:Nat):Int):=by
 have hp:2 ^ i<2 ^ 64:=Nat.pow_lt_pow_right (by omega) hi;have t:∀ x:Nat,x<2 ^ 64→(BitVec.ofInt 64 (x:Int)).toNat=x:=fun x hx=>by rw[MN,BitVec.toNat_ofNat,Nat.mod_eq_of_lt hx]
 have e:(BitVec.ofInt 64 (n:Int) &&& ~~~(BitVec.ofInt 64 ((2 ^ i:Nat):Int))).toNat=U6 n i:=by rw[BitVec.toNat_and,BitVec.toNat_not,t _ hn,t _ hp];rfl
 show IntKind.wrap .u64 ((BitVec.ofInt 64 (n:Int) &&& ~~~(BitVec.ofInt 64 ((2 ^ i:Nat):Int))).toNat:Int)=_;rw[e];show ((U6 n i:Nat):Int) % 18446744073709551616=_;have:=Tg n i;omega
theorem Ek {n:Nat}{i:Int}(hn:n<2 ^ 64) (hi:i∈Q7 n):Q7 (U6 n i.toNat)=(Q7 n).erase i:=by
 obtain⟨k,rfl,hk⟩:=(Yg hn i).1 hi;have iZ:k<64:=by
  rcases Nat.lt_or_ge k 64 with h|h
  ·exact h
  ·rw[Nat.testBit_lt_two_pow (Nat.lt_of_lt_of_le hn (Nat.pow_le_pow_right (by omega) h))] at hk;cases hk
 have hs:=Ye n n (Nat.le_refl _) hn;have gC:=UM n n (Nat.le_refl _) hn;have hc:U6 n k<2 ^ 64:=Nat.lt_of_le_of_lt (Tg n k) hn;rw[Int.toNat_natCast];refine Vy (Ye _ _ (Nat.le_refl _) hc) (hs.sublist List.erase_sublist) fun x=>?_;have hm:x∈(Q7 n).erase (k:Int)↔x≠(k:Int)∧x∈Q7 n:=List.Nodup.mem_erase_iff gC;rw[hm];rw[Yg hc,Yg hn];constructor
 ·rintro⟨j,rfl,hj⟩;rw[Bn hn iZ] at hj;simp only[Bool.and_eq_true,Bool.not_eq_true',decide_eq_false_iff_not] at hj;exact⟨by omega,j,rfl,hj.1⟩
 ·rintro⟨aB,j,rfl,hj⟩;refine⟨j,rfl,?_⟩;rw[Bn hn iZ,hj,decide_eq_false (by omega)];rfl
def ZR (l:List Lot) (tl:Int) (n:Nat) (la:Int):Int:=WR (ZI l tl) l.length (Q7 n).length (Q7 n) la
def KL (l:List Lot) (tl:Int) (n:Nat) (la:Int):List Int:=PT (ZI l tl) l.length (Q7 n).length (Q7 n) la
def Vv (l:List Lot) (tl:Int):Int:=if Qn l tl=0 then ZR l tl (2 ^ l.length-1) (-1) else 0
def GY (l:List Lot) (tl:Int):List Int:=if Qn l tl=0 then KL l tl (2 ^ l.length-1) (-1) else []
theorem KD (l:List Lot) (tl a b:Int):0≤ZI l tl a b∧ZI l tl a b≤1:=by unfold ZI;split<;>omega
def N4 (l:List Lot) (tl:Int) (m:List ((Int×Int)×Int)):Prop:=∀ k:Int×Int,gq.ahas (.pair (.i .u64) (.i .i64)) m k=true→gq.aget (.pair (.i .u64) (.i .i64)) m k 0=ZR l tl k.1.toNat k.2
theorem Q19 {a b:Int×Int}:gq.keq (.pair (.i .u64) (.i .i64)) a b=true↔a=b:=by show ((a.1==b.1)&&(a.2==b.2))=true↔_;simp only[Bool.and_eq_true,beq_iff_eq,Prod.ext_iff]
theorem Bc {a b:Int×Int}(h:a≠b):gq.keq (.pair (.i .u64) (.i .i64)) a b=false:=by
 cases e:gq.keq (.pair (.i .u64) (.i .i64)) a b with
 |false=>rfl
 |true=>exact(h (Q19.1 e)).elim
theorem apC (a:Int×Int) (b:Int) (m:List ((Int×Int)×Int)) (k:Int×Int) (v:Int):Ae (.pair (.i .u64) (.i .i64)) ((a,b)::m) k v=if gq.keq (.pair (.i .u64) (.i .i64)) k a=true then (k,v)::m else (a,b)::Ae (.pair (.i .u64) (.i .i64)) m k v:=rfl
theorem agC (a:Int×Int) (b:Int) (m:List ((Int×Int)×Int)) (k:Int×Int) (d:Int):gq.aget (.pair (.i .u64) (.i .i64)) ((a,b)::m) k d=if gq.keq (.pair (.i .u64) (.i .i64)) k a=true then b else gq.aget (.pair (.i .u64) (.i .i64)) m k d:=rfl
theorem ahC (a:Int×Int) (b:Int) (m:List ((Int×Int)×Int)) (k:Int×Int):gq.ahas (.pair (.i .u64) (.i .i64)) ((a,b)::m) k=(gq.keq (.pair (.i .u64) (.i .i64)) k a||gq.ahas (.pair (.i .u64) (.i .i64)) m k):=rfl
theorem OO (k:Int×Int) (v:Int) (e:Int×Int):∀ m:List ((Int×Int)×Int),gq.aget (.pair (.i .u64) (.i .i64)) (Ae (.pair (.i .u64) (.i .i64)) m k v) e 0=(if e=k then v else gq.aget (.pair (.i .u64) (.i .i64)) m e 0)∧gq.ahas (.pair (.i .u64) (.i .i64)) (Ae (.pair (.i .u64) (.i .i64)) m k v) e=(decide (e=k)||gq.ahas (.pair (.i .u64) (.i .i64)) m e)
 |[]=>by
  show gq.aget (.pair (.i .u64) (.i .i64)) ((k,v)::[]) e 0=_∧gq.ahas (.pair (.i .u64) (.i .i64)) ((k,v)::[]) e=_;rw[agC,ahC];by_cases h:e=k
  ·rw[Q19.2 h,if_pos rfl,if_pos h,decide_eq_true h];exact⟨rfl,rfl⟩
  ·rw[Bc h,if_neg (by decide),if_neg h,decide_eq_false h];exact⟨rfl,rfl⟩
 |(a,b)::m=>by
  obtain⟨iz,iA⟩:=OO k v e m;rw[apC];by_cases hk:k=a
  ·subst hk;rw[Q19.2 rfl,if_pos rfl,agC,agC,ahC,ahC];by_cases h:e=k
   ·rw[Q19.2 h,if_pos rfl,if_pos h,decide_eq_true h];exact⟨rfl,rfl⟩
   ·rw[Bc h,if_neg (by decide),if_neg h,decide_eq_false h,if_neg (by decide)];exact⟨rfl,rfl⟩
  ·rw[Bc hk,if_neg (by decide),agC,agC,ahC,ahC,iz,iA];by_cases h:e=a
   ·have qL:e≠k:=fun h2=>hk (h2.symm.trans h);rw[Q19.2 h,if_pos rfl,if_neg qL,if_pos rfl,decide_eq_false qL];exact⟨rfl,rfl⟩
   ·rw[Bc h,if_neg (show ¬ (false=true) by decide),if_neg (show ¬ (false=true) by decide),Bool.false_or,Bool.false_or];exact⟨rfl,rfl⟩
theorem Ei (l:List Lot) (tl:Int):N4 l tl []:=fun k h=>by cases h
theorem E5 {l:List Lot}{tl:Int}{m:List ((Int×Int)×Int)}{lf la v:Int}(h:N4 l tl m) (hv:v=ZR l tl lf.toNat la):N4 l tl (Ae (.pair (.i .u64) (.i .i64)) m (lf,la) v):=fun k hk=>by
 obtain⟨h1,h2⟩:=OO (lf,la) v k m;rw[h1];by_cases e:k=(lf,la)
 ·subst e;rw[if_pos rfl];exact hv
 ·rw[if_neg e];refine h k ?_;rw[h2,decide_eq_false e] at hk;simpa using hk
theorem CT {n:Nat}{i:Int}(hn:n<2 ^ 64) (hi:i∈Q7 n):U6 n i.toNat<n:=by
 obtain⟨k,rfl,hk⟩:=(Yg hn i).1 hi;have iZ:k<64:=by
  rcases Nat.lt_or_ge k 64 with h|h
  ·exact h
  ·rw[Nat.testBit_lt_two_pow (Nat.lt_of_lt_of_le hn (Nat.pow_le_pow_right (by omega) h))] at hk;cases hk
 have h1:=Tg n (k:Int).toNat;have h2:(U6 n k).testBit k=false:=by rw[Bn hn iZ];simp
 rw[Int.toNat_natCast] at *
 rcases Nat.lt_or_eq_of_le h1 with h3|h3
 ·exact h3
 ·rw[h3,hk] at h2;cases h2
theorem NZ {l:List Lot}{tl:Int}{n:Nat}{i:Int}(hn:n<2 ^ 64) (hi:i∈Q7 n) {f:Nat}(hf:(Q7 n).length=f+1):WR (ZI l tl) l.length f ((Q7 n).erase i) i=ZR l tl (U6 n i.toNat) i∧PT (ZI l tl) l.length f ((Q7 n).erase i) i=KL l tl (U6 n i.toNat) i:=by unfold ZR KL;rw[Ek hn hi,U4 hi hf];exact⟨rfl,rfl⟩
theorem K3 {F G:Int→Int}:∀ {L:List Int}{N:Int},(∀ i∈L,F i=G i)→L.foldl (fun b i=>GZ b (F i)) N=L.foldl (fun b i=>GZ b (G i)) N
 |[],_,_=>rfl
 |x::L,N,h=>by simp only[List.foldl_cons];rw[h x (List.mem_cons_self ..)];exact K3 fun i hi=>h i (List.mem_cons_of_mem _ hi)
theorem LD {l:List Lot}{tl:Int}{n:Nat}{la:Int}(hn:n<2 ^ 64) (h0:0<n):ZR l tl n la=(Q7 n).foldl (fun b i=>GZ b (ZI l tl la i+ZR l tl (U6 n i.toNat) i)) (l.length:Int):=by
 obtain⟨f,hf⟩:∃ f,(Q7 n).length=f+1:=⟨(Q7 n).length-1,by
  have:=List.length_pos_iff.2 (BP h0);omega⟩
 unfold ZR;rw[hf];show List.foldl _ _ _=_;refine K3 fun i hi=>?_;rw[(NZ hn hi hf).1];rfl
theorem BW {l:List Lot}{tl:Int}{n:Nat}(la:Int) (hl:l.length≤12) (hn:n<2 ^ l.length):0≤ZR l tl n la∧ZR l tl n la≤l.length:=by have h1:=Jx hn (by omega);have:=NU (N:=(l.length:Int)) (KD l tl) (Q7 n).length (Q7 n) la rfl (by omega);unfold ZR;omega
theorem Lm (l:List Lot) (tl la:Int):ZR l tl 0 la=0∧KL l tl 0 la=[]:=⟨rfl,rfl⟩
theorem RU {l:List Lot}{tl:Int}{n:Nat}(la:Int) (hl:l.length≤12) (hn:n<2 ^ l.length) (h0:0<n) :
  (∃ i∈Q7 n,ZI l tl la i+ZR l tl (U6 n i.toNat) i=ZR l tl n la)∧∀ k,k<(Q7 n).length→(∀ j,j<k→ZI l tl la ((Q7 n).getD j 0)+ZR l tl (U6 n ((Q7 n).getD j 0).toNat) ((Q7 n).getD j 0)≠ZR l tl n la) →
   ZI l tl la ((Q7 n).getD k 0)+ZR l tl (U6 n ((Q7 n).getD k 0).toNat) ((Q7 n).getD k 0)=ZR l tl n la→KL l tl n la=(Q7 n).getD k 0::KL l tl (U6 n ((Q7 n).getD k 0).toNat) ((Q7 n).getD k 0):=by
 have ez:n<2 ^ 64:=Nat.lt_of_lt_of_le hn (Nat.pow_le_pow_right (by omega) (by omega));obtain⟨f,hf⟩:∃ f,(Q7 n).length=f+1:=⟨(Q7 n).length-1,by
  have:=List.length_pos_iff.2 (BP h0);omega⟩
 have h1:=Jx hn (by omega);obtain⟨i,hi,iD,he,ho⟩:=Mc (la:=la) (N:=(l.length:Int)) (KD l tl) hf (by omega);obtain⟨e1,e2⟩:=NZ (l:=l) (tl:=tl) ez hi hf;have er:ZR l tl n la=WR (ZI l tl) l.length (f+1) (Q7 n) la:=by unfold ZR;rw[hf]
 have eo:KL l tl n la=PT (ZI l tl) l.length (f+1) (Q7 n) la:=by unfold KL;rw[hf]
 refine⟨⟨i,hi,by rw[←e1,he,er]⟩,fun k hk hb ao=>?_⟩;have tv:i=(Q7 n).getD k 0:=by
  obtain⟨hp,eF,bs,hL,pY⟩:=List.find?_eq_some_iff_append.1 iD;have hlen:eF.length<(Q7 n).length:=by rw[hL];simp
  have e8:(Q7 n).getD eF.length 0=i:=by rw[Ql hlen];simp[hL]
  rcases Nat.lt_trichotomy eF.length k with h2|h2|h2
  ·exfalso;have:=hb _ h2;rw[e8,←e1,he,er] at this;exact this rfl
  ·rw[←h2,e8]
  ·exfalso;have hm:(Q7 n).getD k 0∈eF:=by
    rw[Ql hk];have:(Q7 n)[k]=eF[k]:=by simp[hL,h2]
    rw[this];exact List.getElem_mem h2
   have h3:=pY _ hm;obtain⟨g1,_⟩:=NZ (l:=l) (tl:=tl) ez (show (Q7 n).getD k 0∈Q7 n by rw[Ql hk];exact List.getElem_mem hk) hf;rw[g1,←er,ao] at h3;simp only[beq_self_eq_true,Bool.not_true,Bool.false_eq_true] at h3
 rw[eo,ho,←tv,←e2]
theorem Ol {l:List Lot}{t i k:Int}(hl:l.length≤12) (hi:0≤i∧i<l.length) (hk:0≤k∧k<l.length):ZI l t i k=if alP l t i k=true then 0 else 1:=by unfold ZI;rw[decide_eq_false (by omega),Bool.false_or];rw[show alD l t i k=alC l t i k from rfl,Q0b hl hi hk]
theorem Dr {sm:Int→Int→Int}:∀ (r:List Int) (la:Int) (k:Nat),k<r.length→Xq sm la (r.take (k+1))=Xq sm la (r.take k)+sm (if k=0 then la else r.getD (k-1) 0) (r.getD k 0)
 |[],_,_,h=>by simp at h
 |x::t,la,0,_=>by simp[Xq]
 |x::t,la,k+1,h=>by
  have ih:=Dr (sm:=sm) t x k (by simpa using h);have e:(if k+1=0 then la else (x::t).getD (k+1-1) 0)=(if k=0 then x else t.getD (k-1) 0):=by
   cases k with
   |zero=>rfl
   |succ j=>rfl
  rw[List.take_succ_cons,List.take_succ_cons,e,List.getD_cons_succ];simp only[Xq];rw[ih];omega
end Go.Proofs.Tryz
set_option linter.unusedVariables false
namespace Go.Proofs.Tryz
open Go Go.V Go.Proofs
def Wc:AL (((List (Int×(Int×Int)×Int))×Int×Unit)×Int×Int):=(.cons (.ptr (.cons (.k (.list (.pair (.i .i64) (.pair (.pair (.i .i64) (.i .i64)) (.i .i64))))) (.cons (.k (.i .i64)) (.one .any)))) (.cons (.k (.i .i64)) (.one (.k (.i .i64)))))
def KS (d:((List (Int×(Int×Int)×Int))×Int×Unit)×Int×Int):Prop:=d.1.1.length≤12∧(∀ y∈d.1.1,QP y=true)∧d.2.1<d.1.1.length∧0≤d.2.2∧d.2.2<d.1.1.length
def Xt (d:((List (Int×(Int×Int)×Int))×Int×Unit)×Int×Int):SV:=.val (.i .i64) (ZI d.1.1 d.1.2.1 d.2.1 d.2.2)
def Xu (d:((List (Int×(Int×Int)×Int))×Int×Unit)×Int×Int):List OB:=[]
def ZO:CSp:=YC Wc KS Xt Xu
def ZA (l:List (Int×(Int×Int)×Int)) (tl:Int) (a:Int) (b:Int):Prop :=
 ((decide (a<(0:Int)))=false→0≤a)∧((decide (a<(0:Int)))=false→InK .u64 (Zy .u64 (1:Int) a))∧((decide (a<(0:Int)))=false→0≤b)∧((decide (a<(0:Int)))=false→InK .u64 (Zy .u64 (1:Int) b))∧((decide (a<(0:Int)))=false→l.length≤12∧(∀ y∈l,QP y=true)∧0<(ZF .or .u64 (Zy .u64 (1:Int) a) (Zy .u64 (1:Int) b))∧(ZF .or .u64 (Zy .u64 (1:Int) a) (Zy .u64 (1:Int) b))<2 ^ l.length)∧(((decide (a<(0:Int)))||(Vb l tl (Q7 (ZF .or .u64 (Zy .u64 (1:Int) a) (Zy .u64 (1:Int) b)).toNat)))=true →
  ((0:Int)=(ZI l tl a b)∧(True))) ∧
 (((decide (a<(0:Int)))||(Vb l tl (Q7 (ZF .or .u64 (Zy .u64 (1:Int) a) (Zy .u64 (1:Int) b)).toNat)))=false →
  ((1:Int)=(ZI l tl a b)∧(True)))
def Wh:Cx:=⟨[],[(79,Jo)],21,[],0,[],[],[],[],false,[],[],[],[]⟩
def VA (l:List (Int×(Int×Int)×Int)) (tl:Int) (a:Int) (b:Int):List (Nat×LoopAnn):=[]
set_option maxRecDepth 100000 in
theorem VI (d:((List (Int×(Int×Int)×Int))×Int×Unit)×Int×Int):gwp (Wh) (VA d.1.1 d.1.2.1 d.2.1 d.2.2) c57 0 (VJ [.tmp 6] (Xt d) (Xu d)) (QX 21 (AL.can Wc d))=ZA d.1.1 d.1.2.1 d.2.1 d.2.2:=by kernel_rfl
abbrev Vt:Prop:=OkC Tryz.prog 57 ZO
theorem Vo (h:∀ (l:List (Int×(Int×Int)×Int)) (tl:Int) (a:Int) (b:Int),(l.length≤12∧(∀ y∈l,QP y=true)∧a<l.length∧0≤b∧b<l.length)→ZA l tl a b):OkC Tryz.prog 57 ZO :=
 Zx O5 mixed (C:=Wh) (V:=fun (d:((List (Int×(Int×Int)×Int))×Int×Unit)×Int×Int)=>ZA d.1.1 d.1.2.1 d.2.1 d.2.2) ⟨(.cons KT .nil),XsOk.nil,ItsOk.nil,YlOk.nil,IysOk.nil,XfOk.nil⟩ (VI) fun d hp=>h d.1.1 d.1.2.1 d.2.1 d.2.2 hp
theorem Wa:Vt:=Vo fun l tl a b h=>by
 obtain⟨h1,h2,h3,h4,h5⟩:=h;unfold ZA;(try delta lI gD sT I64);simp only[and_true];have fb:(2:Int) ^ l.length=((2 ^ l.length:Nat):Int):=by simp
 have lU:∀ i:Int,0≤i→i≤12→InK .u64 (Zy .u64 1 i):=fun i a b=>by
  rw[Kw a (by omega)];have:=VU (n:=i.toNat) (by omega);simp only[UG];generalize 2 ^ i.toNat=z at *
  omega
 by_cases ha:a<0
 ·have e:ZI l tl a b=0:=by unfold ZI;rw[decide_eq_true ha];rfl
  simp only[decide_eq_true ha,Bool.true_or,e];refine⟨fun c=>?_,fun c=>?_,fun c=>?_,fun c=>?_,fun c=>?_,fun _=>(by trivial),fun c=>?_⟩<;>simp at c
 ·have hb:=AE (i:=a) (k:=b) (by omega) (by omega);have qg:0<2 ^ a.toNat ||| 2 ^ b.toNat:=Nat.lt_of_lt_of_le (Nat.two_pow_pos _) Nat.left_le_or
  have nW:2 ^ a.toNat ||| 2 ^ b.toNat<2 ^ l.length:=Nat.or_lt_two_pow (Nat.pow_lt_pow_right (by omega) (by omega)) (Nat.pow_lt_pow_right (by omega) (by omega))
  have e:ZI l tl a b=if Vb l tl (Q7 (2 ^ a.toNat ||| 2 ^ b.toNat))=true then 0 else 1:=by unfold ZI;rw[decide_eq_false ha,Bool.false_or];rfl
  simp only[hb,Int.toNat_natCast,decide_eq_false ha,Bool.false_or,e,fb];refine⟨fun _=>by omega,fun _=>lU a (by omega) (by omega),fun _=>by omega,fun _=>lU b (by omega) (by omega),fun _=>⟨h1,h2,by omega,by omega⟩,fun c=>?_,fun c=>?_⟩
  ·rw[if_pos c]
  ·rw[if_neg (by rw[c];decide)]
def ZL:AL ((List (Int×(Int×Int)×Int))×Int):=(.cons (.k (.list (.pair (.i .i64) (.pair (.pair (.i .i64) (.i .i64)) (.i .i64))))) (.one (.k (.i .i64))))
def ZJ:AL (Int×Int):=(.one (.agg (.cons (.k (.i .u64)) (.one (.k (.i .i64))))))
def JK (m:List ((Int×Int)×Int)) (c:(List (Int×(Int×Int)×Int))×Int) (a:Int×Int):Prop:=c.1.length≤12∧(∀ y∈c.1,QP y=true)∧0≤a.1∧a.1<2 ^ c.1.length∧-1≤a.2∧a.2<c.1.length∧N4 c.1 c.2 m
def ZH (m:List ((Int×Int)×Int)) (c:(List (Int×(Int×Int)×Int))×Int) (a:Int×Int):SV:=.val (.i .i64) (ZR c.1 c.2 a.1.toNat a.2)
def Zz (m:List ((Int×Int)×Int)) (c:(List (Int×(Int×Int)×Int))×Int) (a:Int×Int) (m2:List ((Int×Int)×Int)):Prop:=N4 c.1 c.2 m2
def X5 (c:(List (Int×(Int×Int)×Int))×Int) (a:Int×Int):Nat:=a.1.toNat
def Jb:XSp:=UF Pb 2 (.pair (.i .u64) (.i .i64)) (.i .i64) (Ea ZL ZJ JK ZH Zz)
def Z5 (bI:Nat) (m:List ((Int×Int)×Int)) (l:List (Int×(Int×Int)×Int)) (tl:Int) (lf:Int) (la:Int):Prop:=∀ vals:List Value,
 ((lf==(0:Int))=true →
  (vals=vals∧(True∧(([]:List SV)=[]))∧(0:Int)=(ZR l tl lf.toNat la)∧(N4 l tl m))) ∧
 ((lf==(0:Int))=false →
  ((gq.ahas (.pair (.i .u64) (.i .i64)) m (lf,la))=true →
   (vals=vals∧(True∧(([]:List SV)=[]))∧(gq.aget (.pair (.i .u64) (.i .i64)) m (lf,la) 0)=(ZR l tl lf.toNat la)∧(N4 l tl m))) ∧
  ((gq.ahas (.pair (.i .u64) (.i .i64)) m (lf,la))=false →
   (0≤lf∧lf≤1048576)∧∃ (e3:Unit) (d30:(List ((Int×Int)×Int))×Int×Int),(((l=l∧tl=tl∧True∧(([]:List SV)=[]))∧True∧(lI l)=d30.2.1∧True∧(lI (Q7 lf.toNat))=(lI (Q7 lf.toNat))∧(0:Int)=d30.2.2∧True)∧((m=d30.1)∧(lf=lf∧la=la∧(([]:List SV)=[]))∧((Q7 lf.toNat)=(Q7 lf.toNat)∧(Q7 lf.toNat).isEmpty=(List.isEmpty (Q7 lf.toNat)))∧(vals=vals∧(True∧(([]:List SV)=[])))∧True)) ∧
   LoopP (fun (d3:(List ((Int×Int)×Int))×Int×Int) (q3:((List ((Int×Int)×Int))×Int×Int)→Prop) =>
    ((decide (d3.2.2<(lI (Q7 lf.toNat))))=true →
     (0≤d3.2.2)∧(d3.2.2<(List.length (Q7 lf.toNat)))∧(l.length≤12∧(∀ y∈l,QP y=true)∧la<l.length∧0≤(gD (Q7 lf.toNat) d3.2.2 0)∧(gD (Q7 lf.toNat) d3.2.2 0)<l.length)∧(0≤(gD (Q7 lf.toNat) d3.2.2 0))∧(InK .u64 (Zy .u64 (1:Int) (gD (Q7 lf.toNat) d3.2.2 0)))∧((l.length≤12∧(∀ y∈l,QP y=true)∧0≤(ZF .andNot .u64 lf (Zy .u64 (1:Int) (gD (Q7 lf.toNat) d3.2.2 0)))∧(ZF .andNot .u64 lf (Zy .u64 (1:Int) (gD (Q7 lf.toNat) d3.2.2 0)))<2 ^ l.length∧-1≤(gD (Q7 lf.toNat) d3.2.2 0)∧(gD (Q7 lf.toNat) d3.2.2 0)<l.length∧N4 l tl d3.1)∧((ZF .andNot .u64 lf (Zy .u64 (1:Int) (gD (Q7 lf.toNat) d3.2.2 0))).toNat)<bI)∧(∀ m4:List ((Int×Int)×Int),(N4 l tl m4)→(I64 ((ZI l tl la (gD (Q7 lf.toNat) d3.2.2 0))+(ZR l tl (ZF .andNot .u64 lf (Zy .u64 (1:Int) (gD (Q7 lf.toNat) d3.2.2 0))).toNat (gD (Q7 lf.toNat) d3.2.2 0))))∧(I64 (d3.2.2+(1:Int)))∧(∃ d5:(List ((Int×Int)×Int))×Int×Int,(((l=l∧tl=tl∧True∧(([]:List SV)=[]))∧True∧(GZ d3.2.1 ((ZI l tl la (gD (Q7 lf.toNat) d3.2.2 0))+(ZR l tl (ZF .andNot .u64 lf (Zy .u64 (1:Int) (gD (Q7 lf.toNat) d3.2.2 0))).toNat (gD (Q7 lf.toNat) d3.2.2 0))))=d5.2.1∧True∧(lI (Q7 lf.toNat))=(lI (Q7 lf.toNat))∧(d3.2.2+(1:Int))=d5.2.2∧True)∧((m4=d5.1)∧(lf=lf∧la=la∧(([]:List SV)=[]))∧((Q7 lf.toNat)=(Q7 lf.toNat)∧(List.isEmpty (Q7 lf.toNat))=(List.isEmpty (Q7 lf.toNat)))∧(vals=vals∧(True∧(([]:List SV)=[])))∧True))∧q3 d5))) ∧
    ((decide (d3.2.2<(lI (Q7 lf.toNat))))=false →
     (vals=vals∧(True∧(([]:List SV)=[]))∧d3.2.1=(ZR l tl lf.toNat la)∧(N4 l tl (Ae (.pair (.i .u64) (.i .i64)) d3.1 (lf,la) d3.2.1))))) d30))
def cx_shade_layer_fewest:Cx:=⟨[],[(56,ZZ),(57,ZO)],63,[],0,[],[],[],[],false,[],[],[],[]⟩
def X7 (m:List ((Int×Int)×Int)) (l:List (Int×(Int×Int)×Int)) (tl:Int) (lf:Int) (la:Int) (vals:List Value):List (Nat×LoopAnn):=[(0,⟨Unit,(List ((Int×Int)×Int))×Int×Int,[0,3,7,32,33,34],fun e x=>[.cp [.val (.list (.pair (.i .i64) (.pair (.pair (.i .i64) (.i .i64)) (.i .i64)))) l,.val (.i .i64) tl,.map 0] 0,.box 3 0,.val (.i .i64) x.2.1,.lst 32,.val (.i .i64) (((List.length (Q7 lf.toNat)):Nat):Int),.val (.i .i64) x.2.2],fun e x=>[(0,.key 0,.map (.pair (.i .u64) (.i .i64)) (.i .i64) x.1),(3,.slot 3,.cells [.val (.i .u64) lf,.val (.i .i64) la] (some 115)),(32,.slot 32,.lst 3 (.i .i64) (Q7 lf.toNat) (List.isEmpty (Q7 lf.toNat))),(4000000,.key 4000000,.stk [.map 0] vals)]⟩)]
set_option maxRecDepth 100000 in
theorem K0 (bI:Nat) (m:List ((Int×Int)×Int)) (c:(List (Int×(Int×Int)×Int))×Int) (a:Int×Int):(∀ vals,gwp {cx_shade_layer_fewest with xs:=(55,UF Pb 2 (.pair (.i .u64) (.i .i64)) (.i .i64) (Ea ZL ZJ (fun m c a=>JK m c a∧X5 c a<bI) ZH Zz))::cx_shade_layer_fewest.xs} (X7 m c.1 c.2 a.1 a.2 vals) c55 0 (Aq vals [.tmp 4] (ZH m c a) (.pair (.i .u64) (.i .i64)) (.i .i64) (Zz m c a)) (mstart 63 2 (.pair (.i .u64) (.i .i64)) (.i .i64) m vals (AL.can ZL c) (AL.can ZJ a)))=Z5 bI m c.1 c.2 a.1 a.2:=by kernel_rfl
abbrev YY:Prop:=OT Tryz.prog 55 Jb 2
theorem Ke (h:∀ (bI:Nat) (m:List ((Int×Int)×Int)) (l:List (Int×(Int×Int)×Int)) (tl:Int) (lf:Int) (la:Int),(l.length≤12∧(∀ y∈l,QP y=true)∧0≤lf∧lf<2 ^ l.length∧-1≤la∧la<l.length∧N4 l tl m)→(lf.toNat)=bI→Z5 bI m l tl lf la):OT Tryz.prog 55 Jb 2 :=
 Lg Ie mixed PI rfl (μ:=X5) (C:=cx_shade_layer_fewest) ⟨(.cons Xk (.cons Wa .nil)),XsOk.nil,ItsOk.nil,YlOk.nil,IysOk.nil,XfOk.nil⟩ rfl (L:=fun m (c:(List (Int×(Int×Int)×Int))×Int) (a:Int×Int) vals=>X7 m c.1 c.2 a.1 a.2 vals) (V:=fun bI m (c:(List (Int×(Int×Int)×Int))×Int) (a:Int×Int)=>Z5 bI m c.1 c.2 a.1 a.2) K0 fun n m c a hp hn=>h n m c.1 c.2 a.1 a.2 hp hn
theorem JJ:YY:=Ke fun bI m l tl lf la h hn=>by
 obtain⟨h1,h2,h3,h4,h5,h6,h7⟩:=h;unfold Z5;(try delta lI gD sT I64);intro vals;simp only[true_and,and_true];have fb:(2:Int) ^ l.length=((2 ^ l.length:Nat):Int):=by simp
 obtain⟨n,rfl⟩:=Int.eq_ofNat_of_zero_le h3;simp only[Int.toNat_natCast,fb] at hn h4 ⊢;have h4:n<2 ^ l.length:=by omega
 have pZ:=VU h1;have ez:n<2 ^ 64:=Nat.lt_of_lt_of_le h4 (Nat.pow_le_pow_right (by omega) (by omega));have lU:∀ i:Int,0≤i→i≤12→InK .u64 (Zy .u64 1 i):=fun i a b=>by
  rw[Kw a (by omega)];have:=VU (n:=i.toNat) (by omega);simp only[UG];generalize 2 ^ i.toNat=z at *
  omega
 refine⟨fun c=>?_,fun c=>⟨fun c2=>⟨?_,h7⟩,fun c2=>⟨⟨by omega,by omega⟩,(),(m,(l.length:Int),0),(by and_intros<;>first|rfl|trivial),?_⟩⟩⟩
 ·have c:n=0:=by simpa using c
  subst c;exact⟨rfl,h7⟩
 ·have:=h7 ((n:Int),la) c2;simpa using this
 have c:0<n:=by
  have:n≠0:=by simpa using c
  omega
 have g9:=LD (l:=l) (tl:=tl) (la:=la) ez c;have iq:=Jx h4 (by omega);have aH:=B8 h4 (by omega);have tw:=BW (tl:=tl) la h1 h4;refine⟨fun d=>∃ k:Nat,d.2.2=k∧k≤(Q7 n).length∧d.2.1=((Q7 n).take k).foldl (fun b i=>GZ b (ZI l tl la i+ZR l tl (U6 n i.toNat) i)) (l.length:Int)∧N4 l tl d.1,fun d=>(Q7 n).length-d.2.2.toNat,⟨0,rfl,by omega,rfl,h7⟩,?_⟩;rintro⟨m1,b,k'⟩ ⟨k,e1,e2,e3,e4⟩;dsimp only at e1 e3 e4 ⊢;subst e1;refine⟨fun g=>?_,fun g=>?_⟩
 ·have g:k<(Q7 n).length:=by have:=of_decide_eq_true g;omega
  have hx:(Q7 n).getD k 0=(Q7 n)[k]:=Ql g;have jq:(Q7 n)[k]∈Q7 n:=List.getElem_mem g;have ck:=aH _ jq;have qM:=Xf g;simp only[Int.toNat_natCast,hx];generalize (Q7 n)[k]=x at jq ck qM;have cm:=CT ez jq;have ln:ZF .andNot .u64 (n:Int) (Zy .u64 1 x)=((U6 n x.toNat:Nat):Int):=by rw[Kw ck.1 (by omega)];exact Rr ez (by omega)
  rw[ln];simp only[Int.toNat_natCast];have hs:=KD l tl la x;have hr:=BW (tl:=tl) x h1 (show U6 n x.toNat<2 ^ l.length by omega);refine⟨by omega,by omega,⟨h1,h2,h6,ck.1,ck.2⟩,ck.1,lU x ck.1 (by omega),⟨⟨h1,h2,by omega,by omega,by omega,ck.2,e4⟩,by omega⟩,fun m4 tx=>⟨by simp only[QR];omega,by simp only[QR];omega,(m4,GZ b (ZI l tl la x+ZR l tl (U6 n x.toNat) x),(k:Int)+1),(by and_intros<;>first|rfl|trivial),⟨k+1,by simp,by omega,?_,tx⟩,by dsimp only;omega⟩⟩;dsimp only;rw[qM,List.foldl_append,e3];rfl
 ·have hk:k=(Q7 n).length:=by have:=of_decide_eq_false g;omega
  rw[hk,List.take_length,←g9] at e3;exact⟨e3,E5 e4 (by rw[Int.toNat_natCast];exact e3)⟩
def Ng:AL ((List (Int×(Int×Int)×Int))×Int):=(.cons (.k (.list (.pair (.i .i64) (.pair (.pair (.i .i64) (.i .i64)) (.i .i64))))) (.one (.k (.i .i64))))
def BG (d:(List (Int×(Int×Int)×Int))×Int):Prop:=d.1.length≤1000
def Um (d:(List (Int×(Int×Int)×Int))×Int):SV:=.tup [.lst 0,.val (.i .i64) (Vv d.1 d.2),.val (.i .i64) (Qn d.1 d.2)]
def Ua (d:(List (Int×(Int×Int)×Int))×Int):List OB:=[.lst 3 (.i .i64) (GY d.1 d.2) ((GY d.1 d.2).isEmpty)]
def VC:CSp:=YC Ng BG Um Ua
def Ws (l:List (Int×(Int×Int)×Int)) (tl:Int):Prop :=
 ∀ w1:List Value,(l.length≤1000)∧(((Qo l)==(0:Int))=true→True)∧(((Qo l)==(0:Int))=true→[tl].length≤1000000)∧((((Qo l)==(0:Int))&&(!(!([tl].any fun n=>decide (n<(0:Int))||decide ((1000:Int)<n)))))=true →
  w1=w1∧(((3:Int) != (0:Int))=true →
   ((True∧(0:Int)=(Vv l tl)∧(3:Int)=(Qn l tl)∧(([]:List SV)=[]))∧(((GY l tl)=[]∧(GY l tl).isEmpty=true)∧True))) ∧
  (((3:Int) != (0:Int))=false →
   (0≤(lI l))∧(InK .u64 (Zy .u64 (1:Int) (lI l)))∧(InK .u64 ((Zy .u64 (1:Int) (lI l))-(1:Int)))∧(l.length≤12∧(∀ y∈l,QP y=true)∧0≤((Zy .u64 (1:Int) (lI l))-(1:Int))∧((Zy .u64 (1:Int) (lI l))-(1:Int))<2 ^ l.length∧-1≤(-1:Int)∧(-1:Int)<l.length∧N4 l tl ([]:List ((Int×Int)×Int)))∧(∀ m2:List ((Int×Int)×Int),(N4 l tl m2)→∃ (e6:Unit) (d60:(List Int)×(List ((Int×Int)×Int))×Int×Int),((True∧(ZR l tl ((Zy .u64 (1:Int) (lI l))-(1:Int)).toNat (-1:Int))=(ZR l tl ((Zy .u64 (1:Int) (lI l))-(1:Int)).toNat (-1:Int))∧True∧True∧True)∧((d60.1=[]∧(List.isEmpty d60.1)=true)∧(l=l∧tl=tl∧True∧(([]:List SV)=[]))∧(m2=d60.2.1)∧(((Zy .u64 (1:Int) (lI l))-(1:Int))=d60.2.2.1∧(-1:Int)=d60.2.2.2∧(([]:List SV)=[]))∧True)) ∧
   LoopP (fun (d6:(List Int)×(List ((Int×Int)×Int))×Int×Int) (q6:((List Int)×(List ((Int×Int)×Int))×Int×Int)→Prop) =>
    ((d6.2.2.1 != (0:Int))=true →
     (0≤d6.2.2.1∧d6.2.2.1≤1048576)∧∃ (e9:(List Int)×Int×Int×(List Int)×Int) (d90:(List ((Int×Int)×Int))×Int),((True∧(ZR l tl ((Zy .u64 (1:Int) (lI l))-(1:Int)).toNat (-1:Int))=(ZR l tl ((Zy .u64 (1:Int) (lI l))-(1:Int)).toNat (-1:Int))∧True∧True∧True∧(lI (Q7 d6.2.2.1.toNat))=e9.2.2.2.2∧(0:Int)=d90.2∧True)∧((d6.1=e9.1∧(List.isEmpty d6.1)=(List.isEmpty e9.1))∧(l=l∧tl=tl∧True∧(([]:List SV)=[]))∧(d6.2.1=d90.1)∧(d6.2.2.1=e9.2.1∧d6.2.2.2=e9.2.2.1∧(([]:List SV)=[]))∧((Q7 d6.2.2.1.toNat)=e9.2.2.2.1∧(Q7 d6.2.2.1.toNat).isEmpty=(List.isEmpty e9.2.2.2.1))∧True)) ∧
     LoopP (fun (d9:(List ((Int×Int)×Int))×Int) (q9:((List ((Int×Int)×Int))×Int)→Prop) =>
      ((decide (d9.2<e9.2.2.2.2))=true →
       (0≤d9.2)∧(d9.2<(List.length e9.2.2.2.1))∧(0≤(gD e9.2.2.2.1 d9.2 0))∧(InK .u64 (Zy .u64 (1:Int) (gD e9.2.2.2.1 d9.2 0)))∧(l.length≤12∧(∀ y∈l,QP y=true)∧e9.2.2.1<l.length∧0≤(gD e9.2.2.2.1 d9.2 0)∧(gD e9.2.2.2.1 d9.2 0)<l.length)∧(l.length≤12∧(∀ y∈l,QP y=true)∧0≤(ZF .andNot .u64 e9.2.1 (Zy .u64 (1:Int) (gD e9.2.2.2.1 d9.2 0)))∧(ZF .andNot .u64 e9.2.1 (Zy .u64 (1:Int) (gD e9.2.2.2.1 d9.2 0)))<2 ^ l.length∧-1≤(gD e9.2.2.2.1 d9.2 0)∧(gD e9.2.2.2.1 d9.2 0)<l.length∧N4 l tl d9.1)∧(∀ p4:List ((Int×Int)×Int),(N4 l tl p4)→(I64 ((ZI l tl e9.2.2.1 (gD e9.2.2.2.1 d9.2 0))+(ZR l tl (ZF .andNot .u64 e9.2.1 (Zy .u64 (1:Int) (gD e9.2.2.2.1 d9.2 0))).toNat (gD e9.2.2.2.1 d9.2 0))))∧(l.length≤12∧(∀ y∈l,QP y=true)∧0≤e9.2.1∧e9.2.1<2 ^ l.length∧-1≤e9.2.2.1∧e9.2.2.1<l.length∧N4 l tl p4)∧(∀ lW:List ((Int×Int)×Int),(N4 l tl lW)→((((ZI l tl e9.2.2.1 (gD e9.2.2.2.1 d9.2 0))+(ZR l tl (ZF .andNot .u64 e9.2.1 (Zy .u64 (1:Int) (gD e9.2.2.2.1 d9.2 0))).toNat (gD e9.2.2.2.1 d9.2 0)))==(ZR l tl e9.2.1.toNat e9.2.2.1))=true →
        (((List.length e9.1)+(List.length [(gD e9.2.2.2.1 d9.2 0)]))*8≤70368744177664)∧(∃ d12:(List Int)×(List ((Int×Int)×Int))×Int×Int,((True∧(ZR l tl ((Zy .u64 (1:Int) (lI l))-(1:Int)).toNat (-1:Int))=(ZR l tl ((Zy .u64 (1:Int) (lI l))-(1:Int)).toNat (-1:Int))∧True∧True∧True)∧(((e9.1++[(gD e9.2.2.2.1 d9.2 0)])=d12.1∧false=(List.isEmpty d12.1))∧(l=l∧tl=tl∧True∧(([]:List SV)=[]))∧(lW=d12.2.1)∧((ZF .andNot .u64 e9.2.1 (Zy .u64 (1:Int) (gD e9.2.2.2.1 d9.2 0)))=d12.2.2.1∧(gD e9.2.2.2.1 d9.2 0)=d12.2.2.2∧(([]:List SV)=[]))∧True))∧q6 d12)) ∧
       ((((ZI l tl e9.2.2.1 (gD e9.2.2.2.1 d9.2 0))+(ZR l tl (ZF .andNot .u64 e9.2.1 (Zy .u64 (1:Int) (gD e9.2.2.2.1 d9.2 0))).toNat (gD e9.2.2.2.1 d9.2 0)))==(ZR l tl e9.2.1.toNat e9.2.2.1))=false →
        (I64 (d9.2+(1:Int)))∧(∃ d13:(List ((Int×Int)×Int))×Int,((True∧(ZR l tl ((Zy .u64 (1:Int) (lI l))-(1:Int)).toNat (-1:Int))=(ZR l tl ((Zy .u64 (1:Int) (lI l))-(1:Int)).toNat (-1:Int))∧True∧True∧True∧e9.2.2.2.2=e9.2.2.2.2∧(d9.2+(1:Int))=d13.2∧True)∧((e9.1=e9.1∧(List.isEmpty e9.1)=(List.isEmpty e9.1))∧(l=l∧tl=tl∧True∧(([]:List SV)=[]))∧(lW=d13.1)∧(e9.2.1=e9.2.1∧e9.2.2.1=e9.2.2.1∧(([]:List SV)=[]))∧(e9.2.2.2.1=e9.2.2.2.1∧(List.isEmpty e9.2.2.2.1)=(List.isEmpty e9.2.2.2.1))∧True))∧q9 d13))))) ∧
      ((decide (d9.2<e9.2.2.2.2))=false →
       (∃ d14:(List Int)×(List ((Int×Int)×Int))×Int×Int,((True∧(ZR l tl ((Zy .u64 (1:Int) (lI l))-(1:Int)).toNat (-1:Int))=(ZR l tl ((Zy .u64 (1:Int) (lI l))-(1:Int)).toNat (-1:Int))∧True∧True∧True)∧((e9.1=d14.1∧(List.isEmpty e9.1)=(List.isEmpty d14.1))∧(l=l∧tl=tl∧True∧(([]:List SV)=[]))∧(d9.1=d14.2.1)∧(e9.2.1=d14.2.2.1∧e9.2.2.1=d14.2.2.2∧(([]:List SV)=[]))∧True))∧q6 d14))) d90) ∧
    ((d6.2.2.1 != (0:Int))=false →
     ((True∧(ZR l tl ((Zy .u64 (1:Int) (lI l))-(1:Int)).toNat (-1:Int))=(Vv l tl)∧(0:Int)=(Qn l tl)∧(([]:List SV)=[]))∧((d6.1=(GY l tl)∧(List.isEmpty d6.1)=(GY l tl).isEmpty)∧True)))) d60))) ∧
 ((((Qo l)==(0:Int))&&(!(!([tl].any fun n=>decide (n<(0:Int))||decide ((1000:Int)<n)))))=false →
  w1=w1∧(((Qo l) != (0:Int))=true →
   ((True∧(0:Int)=(Vv l tl)∧(Qo l)=(Qn l tl)∧(([]:List SV)=[]))∧(((GY l tl)=[]∧(GY l tl).isEmpty=true)∧True))) ∧
  (((Qo l) != (0:Int))=false →
   (0≤(lI l))∧(InK .u64 (Zy .u64 (1:Int) (lI l)))∧(InK .u64 ((Zy .u64 (1:Int) (lI l))-(1:Int)))∧(l.length≤12∧(∀ y∈l,QP y=true)∧0≤((Zy .u64 (1:Int) (lI l))-(1:Int))∧((Zy .u64 (1:Int) (lI l))-(1:Int))<2 ^ l.length∧-1≤(-1:Int)∧(-1:Int)<l.length∧N4 l tl ([]:List ((Int×Int)×Int)))∧(∀ qN:List ((Int×Int)×Int),(N4 l tl qN)→∃ (ub:Unit) (fX:(List Int)×(List ((Int×Int)×Int))×Int×Int),((True∧(ZR l tl ((Zy .u64 (1:Int) (lI l))-(1:Int)).toNat (-1:Int))=(ZR l tl ((Zy .u64 (1:Int) (lI l))-(1:Int)).toNat (-1:Int))∧True∧True∧True)∧((fX.1=[]∧(List.isEmpty fX.1)=true)∧(l=l∧tl=tl∧True∧(([]:List SV)=[]))∧(qN=fX.2.1)∧(((Zy .u64 (1:Int) (lI l))-(1:Int))=fX.2.2.1∧(-1:Int)=fX.2.2.2∧(([]:List SV)=[]))∧True)) ∧
   LoopP (fun (d19:(List Int)×(List ((Int×Int)×Int))×Int×Int) (qO:((List Int)×(List ((Int×Int)×Int))×Int×Int)→Prop) =>
    ((d19.2.2.1 != (0:Int))=true →
     (0≤d19.2.2.1∧d19.2.2.1≤1048576)∧∃ (aN:(List Int)×Int×Int×(List Int)×Int) (lq:(List ((Int×Int)×Int))×Int),((True∧(ZR l tl ((Zy .u64 (1:Int) (lI l))-(1:Int)).toNat (-1:Int))=(ZR l tl ((Zy .u64 (1:Int) (lI l))-(1:Int)).toNat (-1:Int))∧True∧True∧True∧(lI (Q7 d19.2.2.1.toNat))=aN.2.2.2.2∧(0:Int)=lq.2∧True)∧((d19.1=aN.1∧(List.isEmpty d19.1)=(List.isEmpty aN.1))∧(l=l∧tl=tl∧True∧(([]:List SV)=[]))∧(d19.2.1=lq.1)∧(d19.2.2.1=aN.2.1∧d19.2.2.2=aN.2.2.1∧(([]:List SV)=[]))∧((Q7 d19.2.2.1.toNat)=aN.2.2.2.1∧(Q7 d19.2.2.1.toNat).isEmpty=(List.isEmpty aN.2.2.2.1))∧True)) ∧
     LoopP (fun (d22:(List ((Int×Int)×Int))×Int) (tz:((List ((Int×Int)×Int))×Int)→Prop) =>
      ((decide (d22.2<aN.2.2.2.2))=true →
       (0≤d22.2)∧(d22.2<(List.length aN.2.2.2.1))∧(0≤(gD aN.2.2.2.1 d22.2 0))∧(InK .u64 (Zy .u64 (1:Int) (gD aN.2.2.2.1 d22.2 0)))∧(l.length≤12∧(∀ y∈l,QP y=true)∧aN.2.2.1<l.length∧0≤(gD aN.2.2.2.1 d22.2 0)∧(gD aN.2.2.2.1 d22.2 0)<l.length)∧(l.length≤12∧(∀ y∈l,QP y=true)∧0≤(ZF .andNot .u64 aN.2.1 (Zy .u64 (1:Int) (gD aN.2.2.2.1 d22.2 0)))∧(ZF .andNot .u64 aN.2.1 (Zy .u64 (1:Int) (gD aN.2.2.2.1 d22.2 0)))<2 ^ l.length∧-1≤(gD aN.2.2.2.1 d22.2 0)∧(gD aN.2.2.2.1 d22.2 0)<l.length∧N4 l tl d22.1)∧(∀ qP:List ((Int×Int)×Int),(N4 l tl qP)→(I64 ((ZI l tl aN.2.2.1 (gD aN.2.2.2.1 d22.2 0))+(ZR l tl (ZF .andNot .u64 aN.2.1 (Zy .u64 (1:Int) (gD aN.2.2.2.1 d22.2 0))).toNat (gD aN.2.2.2.1 d22.2 0))))∧(l.length≤12∧(∀ y∈l,QP y=true)∧0≤aN.2.1∧aN.2.1<2 ^ l.length∧-1≤aN.2.2.1∧aN.2.2.1<l.length∧N4 l tl qP)∧(∀ p5:List ((Int×Int)×Int),(N4 l tl p5)→((((ZI l tl aN.2.2.1 (gD aN.2.2.2.1 d22.2 0))+(ZR l tl (ZF .andNot .u64 aN.2.1 (Zy .u64 (1:Int) (gD aN.2.2.2.1 d22.2 0))).toNat (gD aN.2.2.2.1 d22.2 0)))==(ZR l tl aN.2.1.toNat aN.2.2.1))=true →
        (((List.length aN.1)+(List.length [(gD aN.2.2.2.1 d22.2 0)]))*8≤70368744177664)∧(∃ d25:(List Int)×(List ((Int×Int)×Int))×Int×Int,((True∧(ZR l tl ((Zy .u64 (1:Int) (lI l))-(1:Int)).toNat (-1:Int))=(ZR l tl ((Zy .u64 (1:Int) (lI l))-(1:Int)).toNat (-1:Int))∧True∧True∧True)∧(((aN.1++[(gD aN.2.2.2.1 d22.2 0)])=d25.1∧false=(List.isEmpty d25.1))∧(l=l∧tl=tl∧True∧(([]:List SV)=[]))∧(p5=d25.2.1)∧((ZF .andNot .u64 aN.2.1 (Zy .u64 (1:Int) (gD aN.2.2.2.1 d22.2 0)))=d25.2.2.1∧(gD aN.2.2.2.1 d22.2 0)=d25.2.2.2∧(([]:List SV)=[]))∧True))∧qO d25)) ∧
       ((((ZI l tl aN.2.2.1 (gD aN.2.2.2.1 d22.2 0))+(ZR l tl (ZF .andNot .u64 aN.2.1 (Zy .u64 (1:Int) (gD aN.2.2.2.1 d22.2 0))).toNat (gD aN.2.2.2.1 d22.2 0)))==(ZR l tl aN.2.1.toNat aN.2.2.1))=false →
        (I64 (d22.2+(1:Int)))∧(∃ d26:(List ((Int×Int)×Int))×Int,((True∧(ZR l tl ((Zy .u64 (1:Int) (lI l))-(1:Int)).toNat (-1:Int))=(ZR l tl ((Zy .u64 (1:Int) (lI l))-(1:Int)).toNat (-1:Int))∧True∧True∧True∧aN.2.2.2.2=aN.2.2.2.2∧(d22.2+(1:Int))=d26.2∧True)∧((aN.1=aN.1∧(List.isEmpty aN.1)=(List.isEmpty aN.1))∧(l=l∧tl=tl∧True∧(([]:List SV)=[]))∧(p5=d26.1)∧(aN.2.1=aN.2.1∧aN.2.2.1=aN.2.2.1∧(([]:List SV)=[]))∧(aN.2.2.2.1=aN.2.2.2.1∧(List.isEmpty aN.2.2.2.1)=(List.isEmpty aN.2.2.2.1))∧True))∧tz d26))))) ∧
      ((decide (d22.2<aN.2.2.2.2))=false →
       (∃ d27:(List Int)×(List ((Int×Int)×Int))×Int×Int,((True∧(ZR l tl ((Zy .u64 (1:Int) (lI l))-(1:Int)).toNat (-1:Int))=(ZR l tl ((Zy .u64 (1:Int) (lI l))-(1:Int)).toNat (-1:Int))∧True∧True∧True)∧((aN.1=d27.1∧(List.isEmpty aN.1)=(List.isEmpty d27.1))∧(l=l∧tl=tl∧True∧(([]:List SV)=[]))∧(d22.1=d27.2.1)∧(aN.2.1=d27.2.2.1∧aN.2.2.1=d27.2.2.2∧(([]:List SV)=[]))∧True))∧qO d27))) lq) ∧
    ((d19.2.2.1 != (0:Int))=false →
     ((True∧(ZR l tl ((Zy .u64 (1:Int) (lI l))-(1:Int)).toNat (-1:Int))=(Vv l tl)∧(0:Int)=(Qn l tl)∧(([]:List SV)=[]))∧((d19.1=(GY l tl)∧(List.isEmpty d19.1)=(GY l tl).isEmpty)∧True)))) fX)))
def Ni:Cx:=⟨[(3,(.i .i64)),(1000023,(.pair (.pair (.i .u64) (.i .i64)) (.i .i64)))],[(69,XH),(61,Je),(56,ZZ),(57,ZO)],73,[],0,[(51,N2),(55,Jb)],[],[],[],false,[],[],[],[(55,2)]⟩
def HK (l:List (Int×(Int×Int)×Int)) (tl:Int):List (Nat×LoopAnn):=[(0,⟨Unit,(List Int)×(List ((Int×Int)×Int))×Int×Int,[4,5,8,9],fun e x=>[.lst 68,.val (.i .i64) (ZR l tl ((Zy .u64 (1:Int) (((List.length l):Nat):Int))-(1:Int)).toNat (-1:Int)),.box 25 0,.box 9 0],fun e x=>[(68,.slot 4,.lst 3 (.i .i64) x.1 (List.isEmpty x.1)),(25,.slot 8,.cells [.val (.list (.pair (.i .i64) (.pair (.pair (.i .i64) (.i .i64)) (.i .i64)))) l,.val (.i .i64) tl,.map 23] (some 112)),(23,.cell 25 2,.map (.pair (.i .u64) (.i .i64)) (.i .i64) x.2.1),(9,.slot 9,.cells [.val (.i .u64) x.2.2.1,.val (.i .i64) x.2.2.2] (some 115))]⟩),
 (2,⟨(List Int)×Int×Int×(List Int)×Int,(List ((Int×Int)×Int))×Int,[4,5,8,9,39,40,41],fun e x=>[.lst 68,.val (.i .i64) (ZR l tl ((Zy .u64 (1:Int) (((List.length l):Nat):Int))-(1:Int)).toNat (-1:Int)),.box 25 0,.box 9 0,.lst 39,.val (.i .i64) e.2.2.2.2,.val (.i .i64) x.2],fun e x=>[(68,.slot 4,.lst 3 (.i .i64) e.1 (List.isEmpty e.1)),(25,.slot 8,.cells [.val (.list (.pair (.i .i64) (.pair (.pair (.i .i64) (.i .i64)) (.i .i64)))) l,.val (.i .i64) tl,.map 23] (some 112)),(23,.cell 25 2,.map (.pair (.i .u64) (.i .i64)) (.i .i64) x.1),(9,.slot 9,.cells [.val (.i .u64) e.2.1,.val (.i .i64) e.2.2.1] (some 115)),(39,.slot 39,.lst 3 (.i .i64) e.2.2.2.1 (List.isEmpty e.2.2.2.1))]⟩)]
set_option maxRecDepth 100000 in
theorem PW (d:(List (Int×(Int×Int)×Int))×Int):gwp (Ni) (HK d.1 d.2) c27 0 (VJ [.tmp 4,.tmp 5,.tmp 6] (Um d) (Ua d)) (QX 73 (AL.can Ng d))=Ws d.1 d.2:=by kernel_rfl
abbrev PA:Prop:=OkC Tryz.prog 27 VC
theorem PL (h:∀ (l:List (Int×(Int×Int)×Int)) (tl:Int),(l.length≤1000)→Ws l tl):OkC Tryz.prog 27 VC :=
 Zx O8 mixed (C:=Ni) (V:=fun (d:(List (Int×(Int×Int)×Int))×Int)=>Ws d.1 d.2) ⟨(.cons Vf (.cons XS (.cons Xk (.cons Wa .nil)))),(XsOk.cons GP (XsOk.cons JJ.1 XsOk.nil)),ItsOk.nil,YlOk.nil,IysOk.nil,(XfOk.cons rfl JJ.2 XfOk.nil)⟩ (PW) fun d hp=>h d.1 d.2 hp
end Go.Proofs.Tryz
set_option linter.unusedVariables false
namespace Go.Proofs.Tryz
open Go Go.V Go.Proofs
theorem TL {l:List Lot}{tl:Int}(hl:l.length≤12) (ah:∀ y∈l,QP y=true) (ho:Qn l tl=0):Vv l tl=ZR l tl (2 ^ l.length-1) (-1)∧GY l tl=KL l tl (2 ^ l.length-1) (-1):=by unfold Vv GY;rw[if_pos ho,if_pos ho];exact⟨rfl,rfl⟩
theorem HU:PA:=PL fun l tl h=>by
 unfold Ws;(try delta lI gD sT I64);intro vals;have e:∀ n a b:Int,(decide (n<a)||decide (b<n))=!inI n a b:=fun n a b=>(nI n a b).symm;simp only[List.any_cons,List.any_nil,Bool.or_false,e,Bool.not_not,List.length_cons,List.length_nil,true_and,and_true];refine⟨h,fun _=>trivial,fun _=>by omega,fun hx=>⟨fun _=>?_,(fun c=>by cases c)⟩,fun hx=>⟨fun a=>?_,fun a=>?_⟩⟩
 ·simp only[Bool.and_eq_true,beq_iff_eq,Bool.not_eq_true'] at hx;have o:Qn l tl=3:=by unfold Qn;rw[if_neg (by omega),hx.2];rfl
  unfold Vv GY;rw[o];exact(by and_intros<;>first|rfl|trivial|simp)
 ·have a:Qo l≠0:=by simpa using a
  have o:Qn l tl=Qo l:=by unfold Qn;rw[if_pos a]
  unfold Vv GY;rw[o,if_neg a,if_neg a];exact(by and_intros<;>first|rfl|trivial|simp)
 ·have a:Qo l=0:=by simpa using a
  have o:Qn l tl=0:=by unfold Qn;rw[if_neg (by omega),if_neg];intro h2;rw[a,h2] at hx;cases hx
  obtain⟨h1,h2⟩:=P6 a;obtain⟨q1,q2⟩:=TL h1 h2 o;rw[o,q1,q2];have fb:(2:Int) ^ l.length=((2 ^ l.length:Nat):Int):=by simp
  have pZ:=VU h1;have uc:=Nat.two_pow_pos l.length;have dG:Zy .u64 1 (l.length:Int)=((2 ^ l.length:Nat):Int):=Kw (by omega) (by omega);have eZ:((2 ^ l.length:Nat):Int)-1=((2 ^ l.length-1:Nat):Int):=by omega
  have lU:∀ i:Int,0≤i→i≤12→InK .u64 (Zy .u64 1 i):=fun i a b=>by
   rw[Kw a (by omega)];have:=VU (n:=i.toNat) (by omega);simp only[UG];generalize 2 ^ i.toNat=z at *
   omega
  simp only[dG,eZ,fb,Int.toNat_natCast];refine⟨by omega,by simp only[UG];omega,by simp only[UG];omega,⟨h1,h2,by omega,by omega,by omega,by omega,Ei l tl⟩,fun m1 iS=>⟨(),([],m1,((2 ^ l.length-1:Nat):Int),-1),(by and_intros<;>first|rfl|trivial),?_⟩⟩;have hlen:(KL l tl (2 ^ l.length-1) (-1)).length=(Q7 (2 ^ l.length-1)).length:=by have hs:=Jx (n:=2 ^ l.length-1) (m:=l.length) (by omega) (by omega);exact(M6 (N:=(l.length:Int)) (KD l tl) (Q7 (2 ^ l.length-1)).length (Q7 (2 ^ l.length-1)) (-1) rfl (by omega)).1.length_eq
  have hs:=Jx (n:=2 ^ l.length-1) (m:=l.length) (by omega) (by omega);refine⟨fun d=>∃ n:Nat,d.2.2.1=n∧n<2 ^ l.length∧-1≤d.2.2.2∧d.2.2.2<l.length∧N4 l tl d.2.1∧d.1++KL l tl n d.2.2.2=KL l tl (2 ^ l.length-1) (-1),fun d=>d.2.2.1.toNat,⟨2 ^ l.length-1,rfl,by omega,by dsimp only;omega,by dsimp only;omega,iS,rfl⟩,?_⟩;rintro⟨r,m2,n',la⟩ ⟨n,e1,e2,e3,e4,e5,e6⟩;dsimp only at e1 e3 e4 e5 e6 ⊢;subst e1;simp only[Int.toNat_natCast];refine⟨fun g=>?_,fun g=>?_⟩
  ·have g:0<n:=by
    have:n≠0:=by simpa using g
    omega
   have ez:n<2 ^ 64:=Nat.lt_of_lt_of_le e2 (Nat.pow_le_pow_right (by omega) (by omega));have iq:=Jx e2 (by omega);have aH:=B8 e2 (by omega);have qA:=BW (tl:=tl) la h1 e2;obtain⟨⟨ie,tA,eP⟩,cU⟩:=RU (tl:=tl) la h1 e2 g;have dT:r.length≤12:=by have:=congrArg List.length e6;rw[List.length_append,hlen] at this;omega
   refine⟨⟨by omega,by omega⟩,(r,(n:Int),la,Q7 n,((Q7 n).length:Int)),(m2,0),(by and_intros<;>first|rfl|trivial),?_⟩;dsimp only;simp only[Int.toNat_natCast];refine⟨fun d=>∃ k:Nat,d.2=k∧k≤(Q7 n).length∧N4 l tl d.1∧∀ j,j<k→ZI l tl la ((Q7 n).getD j 0)+ZR l tl (U6 n ((Q7 n).getD j 0).toNat) ((Q7 n).getD j 0)≠ZR l tl n la,fun d=>(Q7 n).length-d.2.toNat,⟨0,rfl,by omega,e5,fun j hj=>by omega⟩,?_⟩;rintro⟨m3,k'⟩ ⟨k,f1,f2,f3,f4⟩;dsimp only at f1 f3 f4 ⊢;subst f1;simp only[Int.toNat_natCast];refine⟨fun g2=>?_,fun g2=>?_⟩
   ·have g2:k<(Q7 n).length:=by have:=of_decide_eq_true g2;omega
    have hx:(Q7 n).getD k 0=(Q7 n)[k]:=Ql g2;have jq:(Q7 n).getD k 0∈Q7 n:=by rw[hx];exact List.getElem_mem g2
    have ck:=aH _ jq;have lG:=cU k g2 f4;have cJ:ZI l tl la ((Q7 n).getD k 0)+ZR l tl (U6 n ((Q7 n).getD k 0).toNat) ((Q7 n).getD k 0)≠ZR l tl n la→∀ j,j<k+1→ZI l tl la ((Q7 n).getD j 0)+ZR l tl (U6 n ((Q7 n).getD j 0).toNat) ((Q7 n).getD j 0)≠ZR l tl n la:=fun aB j hj=>by
     by_cases e:j=k
     ·subst e;exact aB
     ·exact f4 j (by omega)
    generalize (Q7 n).getD k 0=x at jq ck lG cJ;have cm:=CT ez jq;have ln:ZF .andNot .u64 (n:Int) (Zy .u64 1 x)=((U6 n x.toNat:Nat):Int):=by rw[Kw ck.1 (by omega)];exact Rr ez (by omega)
    rw[ln];simp only[Int.toNat_natCast];have jG:=KD l tl la x;have hr:=BW (tl:=tl) x h1 (show U6 n x.toNat<2 ^ l.length by omega);refine⟨by omega,by omega,ck.1,lU x ck.1 (by omega),⟨h1,h2,e4,ck.1,ck.2⟩,⟨h1,h2,by omega,by omega,by omega,ck.2,f3⟩,fun p4 p6=>⟨by simp only[QR];omega,⟨h1,h2,by omega,by omega,e3,e4,p6⟩,fun lW nJ=>⟨fun c=>?_,fun c=>?_⟩⟩⟩
    ·have c:=of_decide_eq_true c;refine⟨by omega,(r++[x],lW,((U6 n x.toNat:Nat):Int),x),(by and_intros<;>first|rfl|trivial|simp),⟨U6 n x.toNat,rfl,by omega,by dsimp only;omega,ck.2,nJ,?_⟩,by dsimp only;omega⟩;dsimp only;rw[←e6,lG c,List.append_assoc];rfl
    ·have c:ZI l tl la x+ZR l tl (U6 n x.toNat) x≠ZR l tl n la:=by simpa using c
     refine⟨by simp only[QR];omega,(lW,(k:Int)+1),(by and_intros<;>first|rfl|trivial|simp),⟨k+1,by simp,by omega,nJ,cJ c⟩,by dsimp only;omega⟩
   ·exfalso;have hk:k=(Q7 n).length:=by have:=of_decide_eq_false g2;omega
    obtain⟨j,hj,rfl⟩:=List.getElem_of_mem tA;have:=f4 j (by omega);rw[Ql hj] at this;exact this eP
  ·have g:n=0:=by simpa using g
   subst g;rw[(Lm l tl la).2,List.append_nil] at e6;rw[e6];exact(by and_intros<;>first|rfl|trivial|simp)
end Go.Proofs.Tryz