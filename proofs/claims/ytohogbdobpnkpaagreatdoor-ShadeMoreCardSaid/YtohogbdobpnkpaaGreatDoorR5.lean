/- A framework for walks, contracts of functions, and their proofs: part 5. -/
import Derived.ProofKit
import Derived.OpenShut
import Derived.LaidMore
import Derived.Carry
import Derived.Lib.SmallJoins
import Derived.Deep.Slices
import Derived.Test.YtohogbdobpnkpaaGreatDoorR4
namespace Go.V
open Go
def C3 (s:St):VResult→Option SV
 |.tmp t=>some (s.env.getD t .any)
 |.cell a agg size=>bif Nat.blt 0 size then Q3u s.own agg size (s.env.getD a .any) else none
def WG (s:St) (rs:List VResult):Option SV :=
 match rs with
 |[r]=>C3 s r
 |rs=>(rs.mapM (C3 s)).map .tup
def Q5e (mp:List (Nat×Option Nat)) (j:Nat) (a:Option Nat):Option (List (Nat×Option Nat)) :=
 if (Qq mp j).isSome then none else match a with
 |some x=>if mp.any fun p=>p.2==some x then none else some (mp++[(j,a)])
 |none=>some (mp++[(j,a)])
mutual
def Ix:SV→SV→List (Nat×Option Nat)→Option (List (Nat×Option Nat))
 |.lst j,v,mp=>match v with|.lst a=>Q5e mp j (some a)|.nilS=>Q5e mp j none|_=>none
 |.map j,v,mp=>match v with|.map a=>Q5e mp j (some a)|_=>none
 |.dd j w,v,mp=>match w with
  |.out=>(match v with
   |.dd a w'=>(match w' with|.out=>Q5e mp j (some a)|_=>none)
   |.nilS=>Q5e mp j none
   |_=>none)
  |_=>none
 |.box j _,v,mp=>match v with|.box a _=>Q5e mp j (some a)|_=>none
 |.agg l,v,mp=>match v with|.agg l'=>FC l l' mp|_=>none
 |.tup l,v,mp=>match v with|.tup l'=>FC l l' mp|_=>none
 |.any,_,mp=>some mp
 |.val _ _,_,mp=>some mp
 |.nilS,_,mp=>some mp
 |.nilP,_,mp=>some mp
 |.nilM,_,mp=>some mp
 |.nilF,_,mp=>some mp
 |.sub _ _ _ _,_,_|.elp _ _ _ _,_,_|.grd _ _,_,_|.cp _ _,_,_|.fn _ _ _,_,_|.rop _ _ _ _,_,_|.pf _ _ _ _,_,_|.bid _ _,_,_=>none
def FC:List SV→List SV→List (Nat×Option Nat)→Option (List (Nat×Option Nat))
 |[],_,mp=>some mp
 |s::ss,l,mp=>match l with
  |v::vs=>match Ix s v mp with|some mp=>FC ss vs mp|none=>none
  |[]=>none
end
def IM (s:St) (mp:List (Nat×Option Nat)):Nat→List OB→Prop
 |_,[]=>True
 |j,b::r=>I6 s mp j b∧IM s mp (j+1) r
def VT (rs:List VResult) (v:SV) (bs:List OB):Exit→St→Prop:=fun e s =>
 let fin:=match WG s rs with
  |some r=>(match Ix v r [] with
   |some mp=>BF mp v r∧IM s mp 0 bs
   |none=>False)
  |none=>False
 match e with
 |.normal=>fin
 |.ret=>fin
 |_=>False
section
variable {P:Program}{B F:Heap}{pl:Nat→Value}{tb:Nat→Option Bool}{s:St}{env:Env}{σ:Heap}
theorem Pc (hG:Gam P B F pl tb s env σ) {r:VResult}{v:SV}(h:C3 s r=some v):∃ u,JI env σ r=some u∧SR P B pl tb v u:=by
 cases r with
 |tmp t=>obtain rfl:=osj h;exact⟨_,rfl,hG.env.getD t undef⟩
 |cell a agg size =>
  simp only[C3] at h;cases hb:Nat.blt 0 size with
  |false=>rw[hb] at h;cases h
  |true =>rw[hb] at h;obtain⟨i,o,c,e,wr,t,u,h1,h2,h3,h4⟩:=Pf hG.leB hG.obj (by simpa [Nat.blt_eq] using hb) h (hG.env.getD a undef);refine⟨u,?_,h4⟩;simp only[JI,Q5,Q3,h1,h2,h3];rfl
theorem JV (hG:Gam P B F pl tb s env σ) {rs:List VResult}{v:SV}(h:WG s rs=some v):∃ u,Jf env σ rs=some u∧SR P B pl tb v u:=by
 have all:∀ (rs:List VResult) (l:List SV),rs.mapM (C3 s)=some l→∃ us,rs.mapM (JI env σ)=some us∧SRs P B pl tb l us:=by
  intro rs;induction rs with
  |nil=>intro l h;simp at h;subst h;exact⟨[],rfl,rfl⟩
  |cons r rs ih =>
   intro l h;rw[List.mapM_cons] at h;cases h1:C3 s r with
   |none=>simp[h1] at h
   |some a =>
    cases h2:rs.mapM (C3 s) with
    |none=>simp[h1,h2] at h
    |some l' =>simp[h1,h2] at h;subst h;obtain⟨u,h3,h4⟩:=Pc hG h1;obtain⟨us,h5,h6⟩:=ih l' h2;exact⟨u::us,by rw[List.mapM_cons];simp[h3,h5],by simp only[SRs];exact⟨u,us,rfl,h4,h6⟩⟩
 have tup:(rs.mapM (C3 s)).map SV.tup=some v→∃ u,(rs.mapM (JI env σ)).map (fun vs=>Value.tuple vs.toArray)=some u∧SR P B pl tb v u:=fun h=>by simp only[Option.map_eq_some_iff] at h;obtain⟨l,h1,rfl⟩:=h;obtain⟨us,h2,h3⟩:=all rs l h1;exact⟨.tuple us.toArray,by rw[h2];rfl,by simp only[SR];exact⟨us,rfl,h3⟩⟩
 match rs,h,tup with
 |[r],h,_=>exact Pc hG h
 |[],h,tup=>exact tup h
 |_::_::_,h,tup=>exact tup h
theorem MN {mp bX:List (Nat×Option Nat)}{j:Nat}{a:Option Nat}(h:Q5e mp j a=some bX) (hi:Inj mp):Inj bX:=by
 unfold Q5e at h;split at h
 ·cases h
 ·split at h
  ·rename_i x;split at h
   ·cases h
   ·rename_i hc;obtain rfl:=osj h;have cu:∀ d,Qq mp d≠some (some x):=fun d hd=>by
     obtain⟨p,h1,h2,h3⟩:=Cn hd;exact hc (List.any_eq_true.2 ⟨p,h1,by rw[h3];simp⟩)
    intro t1 t2 a' h1 h2;rw[VG] at h1 h2;split at h1
    ·rename_i y1 e1;split at h2
     ·rename_i y2 e2;obtain rfl:=osj h1;obtain rfl:=osj h2;exact hi t1 t2 a' e1 e2
     ·split at h2
      ·obtain rfl:=osj (osj h2);obtain rfl:=osj h1;exact absurd e1 (cu t1)
      ·cases h2
    ·split at h1
     ·obtain rfl:=osj (osj h1);split at h2
      ·rename_i y2 e2;obtain rfl:=osj h2;exact absurd e2 (cu t2)
      ·split at h2
       ·omega
       ·cases h2
     ·cases h1
  ·obtain rfl:=osj h;intro t1 t2 a' h1 h2;rw[VG] at h1 h2;split at h1
   ·rename_i y1 e1;split at h2
    ·rename_i y2 e2;obtain rfl:=osj h1;obtain rfl:=osj h2;exact hi t1 t2 a' e1 e2
    ·split at h2<;>cases h2
   ·split at h1<;>cases h1
mutual
theorem Li:∀ (v r:SV) (mp bX:List (Nat×Option Nat)),Ix v r mp=some bX→Inj mp→Inj bX
 |.lst j,r,mp,bX,h,hi=>by
  simp only[Ix] at h;split at h
  ·exact MN h hi
  ·exact MN h hi
  ·cases h
 |.map j,r,mp,bX,h,hi=>by
  simp only[Ix] at h;split at h
  ·exact MN h hi
  ·cases h
 |.dd j w,r,mp,bX,h,hi=>by
  simp only[Ix] at h;split at h
  ·split at h
   ·split at h
    ·exact MN h hi
    ·cases h
   ·exact MN h hi
   ·cases h
  ·cases h
 |.box j _,r,mp,bX,h,hi=>by
  simp only[Ix] at h;split at h
  ·exact MN h hi
  ·cases h
 |.agg l,r,mp,bX,h,hi=>by
  simp only[Ix] at h;split at h
  ·exact Tg l _ mp bX h hi
  ·cases h
 |.tup l,r,mp,bX,h,hi=>by
  simp only[Ix] at h;split at h
  ·exact Tg l _ mp bX h hi
  ·cases h
 |.any,r,mp,bX,h,hi|.val _ _,r,mp,bX,h,hi|.nilS,r,mp,bX,h,hi|.nilP,r,mp,bX,h,hi|.nilM,r,mp,bX,h,hi|.nilF,r,mp,bX,h,hi=>by simp only[Ix] at h;obtain rfl:=osj h;exact hi
 |.sub _ _ _ _,r,mp,bX,h,hi|.elp _ _ _ _,r,mp,bX,h,hi|.grd _ _,r,mp,bX,h,hi|.cp _ _,r,mp,bX,h,hi|.fn _ _ _,r,mp,bX,h,hi|.rop _ _ _ _,r,mp,bX,h,hi|.pf _ _ _ _,r,mp,bX,h,hi|.bid _ _,r,mp,bX,h,hi=>by cases h
theorem Tg:∀ (v r:List SV) (mp bX:List (Nat×Option Nat)),FC v r mp=some bX→Inj mp→Inj bX
 |[],r,mp,bX,h,hi=>by simp only[FC] at h;obtain rfl:=osj h;exact hi
 |s::ss,[],mp,bX,h,hi=>by cases h
 |s::ss,r::rs,mp,bX,h,hi=>by
  simp only[FC] at h;split at h
  ·rename_i rv h1;exact Tg ss rs rv bX h (Li s r mp rv h1 hi)
  ·cases h
end
theorem PW {mp:List (Nat×Option Nat)}:∀ (bs:List OB) (n:Nat),IM s mp n bs→∀ j b,bs[j]?=some b→I6 s mp (n+j) b
 |[],n,_,j,b,hj=>by simp at hj
 |b0::r,n,h,j,b,hj=>by
  obtain⟨h1,h2⟩:=h;cases j with
  |zero=>simp at hj;subst hj;exact h1
  |succ j =>
   have:=PW r (n+1) h2 j b (by simpa using hj)
   rwa [Nat.add_assoc,Nat.add_comm 1 j] at this
mutual
theorem EI {n:Nat}{π:Nat→Nat}:∀ (v:SV) (u:Value),v.ret 0=true→SR P B pl tb v u→Ren n π u u
 |.val k x,u,h,hs=>by
  simp only[SR] at hs;cases k with
  |i ik=>simp only[KC] at hs;obtain rfl:=(List.cons.inj hs).1;exact .plain _ rfl
  |bo=>simp only[KC] at hs;obtain rfl:=(List.cons.inj hs).1;exact .plain _ rfl
  |st=>simp only[KC] at hs;obtain rfl:=(List.cons.inj hs).1;exact .plain _ rfl
  |list k=>cases h
  |pair a b =>have h1:=KC.length hs;have h2:=a.size_pos;have h3:=b.size_pos;simp only[Kind.size,List.length_singleton] at h1;omega
 |.nilS,u,_,hs|.nilP,u,_,hs|.nilM,u,_,hs|.nilF,u,_,hs=>by simp only[SR] at hs;subst hs;exact .plain _ rfl
 |.lst j,u,h,_|.box j _,u,h,_|.map j,u,h,_=>by simp[SV.ret,Nat.blt_eq] at h
 |.dd j w,u,h,_=>by cases w<;>simp[SV.ret,Nat.blt_eq] at h
 |.agg l,u,h,hs=>by simp only[SR] at hs;obtain⟨cs,rfl,h2⟩:=hs;have:=PI (n:=n) (π:=π) l cs h h2;exact .agg _ _ rfl fun i h3 _=>this _ (by simp)
 |.tup l,u,h,hs=>by simp only[SR] at hs;obtain⟨cs,rfl,h2⟩:=hs;have:=PI (n:=n) (π:=π) l cs h h2;exact .tuple _ _ rfl fun i h3 _=>this _ (by simp)
 |.any,_,h,_|.bid _ _,_,h,_|.grd _ _,_,h,_|.sub _ _ _ _,_,h,_|.elp _ _ _ _,_,h,_|.rop _ _ _ _,_,h,_|.cp _ _,_,h,_|.fn _ _ _,_,h,_|.pf _ _ _ _,_,h,_=>by cases h
theorem PI {n:Nat}{π:Nat→Nat}:∀ (v:List SV) (u:List Value),SVs.ret 0 v=true→SRs P B pl tb v u→∀ x∈u,Ren n π x x
 |[],u,_,hs=>by simp only[SRs] at hs;subst hs;intro x hx;cases hx
 |s::ss,u,h,hs=>by
  simp only[SVs.ret,Bool.and_eq_true] at h;simp only[SRs] at hs;obtain⟨x,y,rfl,h1,h2⟩:=hs;intro z hz;rcases List.mem_cons.1 hz with rfl|hz
  ·exact EI s z h.1 h1
  ·exact PI ss y h.2 h2 z hz
end
theorem FT (exact:Bool) {σ0:Heap}{sf:St}{lF:Env}{σf:Heap}(hR:GRel P σ0 σ0 σ0 sf lF σf) {rs:List VResult}{v:SV}{bs:List OB}{e:Exit}(hv:v.ret bs.length=true) (hb:bs.all OB.ret=true) (h:VT rs v bs e sf) (hx:exact=true→bs.all OB.isL=true∧U4 v=true) :
  Z2i σ0 rs (fun u σ'=>if exact then u=U7 (Rh σ0 bs) v∧σ'=PL σ0 bs else Ret P σ0 v bs u σ') e lF σf:=by
 have main:(match WG sf rs with
  |some r=>(match Ix v r [] with
   |some mp=>BF mp v r∧IM sf mp 0 bs
   |none=>False)
  |none=>False)→QI (Jf lF σf rs) fun u=>∃ v' σ',DropTo σ0 u σf v' σ'∧(if exact then v'=U7 (Rh σ0 bs) v∧σ'=PL σ0 bs else Ret P σ0 v bs v' σ'):=fun h=>by
  split at h
  ·rename_i r hr;split at h
   ·rename_i mp iz;obtain⟨h1,h2⟩:=h;obtain⟨B,F,pl,tb,⟨hB,hF,_,hd⟩,hG⟩:=hR;obtain⟨u,h3,h4⟩:=JV hG hr;have gN:=W9 v r u h1 h4;have dJ:=Li v r [] mp iz (fun t t' a h=>by cases h);have aj:∀ j b,bs[j]?=some b→I6 sf mp j b:=fun j b hj=>by have:=PW bs 0 h2 j b hj;rwa [Nat.zero_add] at this
    rw[h3];have hle:σ0.Le σf:=hF.trans hG.le;have hA:Agree σ0 σf:=fun i hi=>by
     cases hg:σ0.get i with
     |none=>exact hd.2 i hi hg
     |some b=>exact hle.2 i b hg
    have aO:∀ j b,bs[j]?=some b→OR P hNil (Vo pl mp) ZA σf (Vo pl mp j) b∧∀ i,Oid (Vo pl mp j) i→σ0.get i=none∧σ0.n≤i:=fun j b hj=>by
     obtain⟨k1,k2⟩:=Qu hG (aj j b hj);have dq:=List.all_eq_true.1 hb b (List.mem_of_getElem? hj);have ak:b.live=true:=by cases b<;>first|rfl|cases dq
     refine⟨k1.retd dq fun _ _=>rfl,fun i hi=>?_⟩;obtain⟨a,e1,e2,e3⟩:=k2 ak i hi;have ka:=hG.fresh a i e2 e3;have hn:σ0.get i=none:=by
      cases hg:σ0.get i with
      |none=>rfl
      |some b=>rw[hF.2 i b hg] at ka;cases ka
     refine⟨hn,Nat.le_of_not_lt fun ai=>?_⟩;have bp:=hd.2 i ai hn;have aj:=hG.obj a;cases ho:Q7 sf.own a with
     |dead=>rw[ho] at e2;cases e2
     |lst ty k xs nl =>
      rw[ho] at aj;rcases aj with⟨_,_,h2⟩|⟨_,i',cap,c,t,h2,_,h3,_⟩
      ·rw[h2] at e3;cases e3
      ·rw[h2] at e3;obtain rfl:=osj e3;rw[h3] at bp;cases bp
     |cells l u=>rw[ho] at aj;obtain⟨i',c,e,t,h2,h3,_⟩:=aj;rw[h2] at e3;obtain rfl:=osj e3;rw[h3] at bp;cases bp
     |map kk vk m=>rw[ho] at aj;obtain⟨i',es,cl,h2,h3,_⟩:=aj;rw[h2] at e3;obtain rfl:=osj e3;rw[h3] at bp;cases bp
     |stk l vals=>rw[ho] at e2;cases e2
     |lpf l q s=>rw[ho] at aj e2;obtain⟨h2,_,h3⟩:=aj;rw[h2] at e3;obtain rfl:=osj e3;have h3:=h3 e2;rw[bp] at h3;cases h3
     |iter kk vk m dn=>rw[ho] at aj;obtain⟨j',i',es,cl,wr,seen,h2,h3,_⟩:=aj;rw[h2] at e3;obtain rfl:=osj e3;rw[h3] at bp;cases bp
     |deep ty q k xs nl hh =>rw[ho] at aj;obtain⟨is,_,d2,d3,_⟩:=DP.open aj;obtain⟨c,e,t,h⟩:=d2.cells i ((d3 i).1 e3);rw[h] at bp;cases bp
    have de:∀ j j' i,j<bs.length→j'<bs.length→j≠j'→Oid (Vo pl mp j) i→Oid (Vo pl mp j') i→False:=fun j j' i hj cf aA hi bV=>by
     have bg:=List.getElem?_eq_getElem hj;have bY:=List.getElem?_eq_getElem cf;have r1:=List.all_eq_true.1 hb _ (List.getElem_mem hj);have r2:=List.all_eq_true.1 hb _ (List.getElem_mem cf);have l1:(bs[j]).live=true:=by cases i_:bs[j]<;>first|rfl|(rw[i_] at r1;cases r1)
     have l2:(bs[j']).live=true:=by cases i_:bs[j']<;>first|rfl|(rw[i_] at r2;cases r2)
     obtain⟨a,e1,e2,e3⟩:=(Qu hG (aj j _ bg)).2 l1 i hi;obtain⟨a',qc,jY,qd⟩:=(Qu hG (aj j' _ bY)).2 l2 i bV;by_cases e:a=a'
     ·subst e;exact aA (dJ j j' a e1 qc)
     ·exact hG.sep a a' i e e2 jY e3 qd
    cases hex:exact with
    |true =>obtain⟨hl,ct⟩:=hx hex;have nV:=Ib (P:=P) hA hle.1 hv ct hb hl (pl:=Vo pl mp) (u:=u) (fun j b hj=>⟨(aO j b hj).1,fun i hi=>((aO j b hj).2 i (Mn hi)).2⟩) (fun j j' i a b c d e=>de j j' i a b c (Mn d) (Mn e)) (gN.retd (fun j hj=>rfl) _ _ hv);exact⟨_,_,nV,by simp⟩
    |false =>
     simp only[Bool.false_eq_true,if_false];by_cases b6:bs=[]
     ·subst b6;refine⟨u,σ0,.rename (fun i=>i) (Nat.le_refl _) (fun i hi=>⟨rfl,(hA i hi).symm,.inl (hA i hi)⟩) (fun i k1 k2=>by omega) (fun _ _ _ _ _ _ h=>h) (EI v u hv gN),?_⟩;exact⟨⟨Heap.Le.refl _,Dead.refl _⟩,fun _=>rfl,JK,(fun j b hj=>by simp at hj),(fun j j' i hj=>by simp at hj),gN.retd (fun j hj=>by simp at hj) _ _ hv⟩
     ·exact⟨u,σf,.refl _ _ _,⟨hle,hd⟩,fun e=>absurd e b6,Vo pl mp,aO,de,gN.retd (fun j hj=>rfl) _ _ hv⟩
   ·exact h.elim
  ·exact h.elim
 cases e with
 |normal=>exact main h
 |ret=>exact main h
 |_=>exact h.elim
def Qt (nt:Nat) (args:List SV):St:=⟨args++List.replicate (nt-args.length) .any,[],0⟩
theorem Iv {args:List SV}{vs:List Value}(h:SRs P σ JK ZA args vs) (nt:Nat):GRel P σ σ σ (Qt nt args) (vs++List.replicate (nt-vs.length) undef) σ:=by
 have tQ:∀ n,SRs P σ JK ZA (List.replicate n .any) (List.replicate n undef):=by
  intro n;induction n with
  |zero=>simp[SRs]
  |succ n ih=>simp only[List.replicate_succ,SRs];exact⟨_,_,rfl,by simp[SR],ih⟩
 refine⟨σ,σ,JK,ZA,⟨Heap.Le.refl _,Heap.Le.refl _,(fun i b h1 h2=>by rw[h2] at h1;cases h1),Dead.refl _⟩,Heap.Le.refl _,Heap.Le.refl _,?_,fun d=>trivial,(fun d i hl=>by cases hl),(fun d d' i _ hl=>by cases hl),fun _ _=>rfl⟩;have:=h.length;simp only[Qt,this];exact h.append (tQ _)
theorem Fun.okC {f:Nat}{vc:VCode}{rs:List VResult}{nt:Nat}(h:Fun P f vc rs nt) (hm:P.follows .mixedOrders=true) {sp:CSp}
  (hb:∀ ap,Oz P ap→∀ args c v bs,sp ap args=some (c,v,bs)→c→∃ (C:Cx) (L:List (Nat×LoopAnn)) (a8:List SV),(∀ σ vs,SRs P σ JK ZA args vs→SRs P σ JK ZA a8 vs)∧COk P C∧gwp C L vc 0 (VT rs v bs) (Qt nt a8)):OkC P f sp:=by
 intro ap cR σ args vs c v bs av eu hv b6 hc;obtain⟨C,L,a8,h1,h2,h3⟩:=hb ap cR args c v bs eu hc;have main:∀ exact:Bool,(exact=true→bs.all OB.isL=true∧U4 v=true)→VCalled P f vs σ fun u σ'=>if exact then u=U7 (Rh σ bs) v∧σ'=PL σ bs else Ret P σ v bs u σ':=fun exact hx=>by refine h.calls hm Hy ?_;exact Um h2 vc 0 _ _ _ σ none _ trivial (Iv (h1 σ vs av) nt) h3 fun e s' ae σ' k1 k2=>FT exact k2 hv b6 k1 hx
 refine⟨(main false fun e=>by cases e).mono fun u σ' hr=>by simpa using hr,fun hl ct=>(main true fun _=>⟨hl,ct⟩).mono fun u σ' hr=>by simpa using hr⟩
theorem OkC.true {f:Nat}{sp:CSp}(h:OkC P f sp) (he:XO P f) {σ:Heap}{args:List SV}{vs:List Value}(ha:SRs P σ JK ZA args vs) {c:Prop}(hs:sp (fun _ _=>none) args=some (c,.val .bo true,[])) (hc:c) :
  VCallsTo P f vs σ fun v _=>v=.bool true:=by
 have:=(h (fun _ _=>none) (fun _ _ _ _ _ _ _ _ _ h=>by cases h) σ args vs c _ [] ha hs rfl rfl hc).1;intro ρ w az hH hL;rcases this ρ w az hH hL with⟨_,h2⟩|⟨c',_,h2⟩
 ·refine h2.mono fun e w' ⟨c',h3,h4⟩=>⟨c',h3,h4.mono fun u σ' hr=>?_⟩;have:=(hr.flat rfl).2;simpa only [SR,KC,List.cons.injEq,and_true] using this
 ·have:=h2 w (Like.refl ρ w);rw[MD he az w] at this;cases this
end
end Go.V
namespace Go.V
open Go
mutual
inductive AP:Type→Type 1 where
 |k (k:Kind):AP k.T
 |agg {D:Type}(l:AL D):AP D
 |ptr {D:Type}(l:AL D):AP D
 |fn (ks:List Kind) (r:Kind):AP ((AT ks→Prop)×(AT ks→r.T))
 |nilS:AP Unit
 |any:AP Unit
inductive AL:Type→Type 1 where
 |nil:AL Unit
 |one {D:Type}(a:AP D):AL D
 |cons {D E:Type}(a:AP D) (r:AL E):AL (D×E)
end
def Sc:(ks:List Kind)→AT ks→List SV
 |[],_=>[]
 |[k],x=>[Q28 k x]
 |k::k'::ks,x=>Q28 k x.1::Sc (k'::ks) x.2
abbrev Ap:=SV→List SV→Option (Prop×SV)
def Q2v (ap:Ap) (f:SV) (ks:List Kind) (r:Kind) (x:AT ks):Prop:=match ap f (Sc ks x) with
 |some (c,v)=>(match gap.asV r v with|some _=>c|none=>False)
 |none=>False
def fnP (ap:Ap) (f:SV) (ks:List Kind) (r:Kind) (x:AT ks):r.T:=match ap f (Sc ks x) with
 |some (_,v)=>(match gap.asV r v with|some y=>y|none=>r.dflt)
 |none=>r.dflt
mutual
def AP.dec (ap:Ap):{D:Type}→(p:AP D)→SV→Option D
 |_,.k k,v=>match k with
  |.list k=>view [] k v
  |.i ik=>RW (.i ik) [v]
  |.bo=>RW .bo [v]
  |.st=>RW .st [v]
  |.pair _ _=>none
 |_,.agg l,v=>match v with|.agg vs=>AL.dec ap l vs|_=>none
 |_,.nilS,v=>match v with|.nilS=>some ()|_=>none
 |_,.any,_=>some ()
 |_,.ptr l,v=>match v with|.cp vs 0=>AL.dec ap l vs|_=>none
 |_,.fn ks r,v=>match v with
  |.fn g a b=>some (Q2v ap (.fn g a b) ks r,fnP ap (.fn g a b) ks r)
  |.pf ry r' cI p=>some (Q2v ap (.pf ry r' cI p) ks r,fnP ap (.pf ry r' cI p) ks r)
  |_=>none
def AL.dec (ap:Ap):{D:Type}→(l:AL D)→List SV→Option D
 |_,.nil,vs=>match vs with|[]=>some ()|_=>none
 |_,.one a,vs=>match vs with|[v]=>AP.dec ap a v|_=>none
 |_,.cons a r,vs=>match vs with
  |v::vs=>(match AP.dec ap a v,AL.dec ap r vs with|some x,some y=>some (x,y)|_,_=>none)
  |[]=>none
end
mutual
def AP.can:{D:Type}→(p:AP D)→D→SV
 |_,.k k,x=>.val k x
 |_,.agg l,x=>.agg (AL.can l x)
 |_,.nilS,_=>.nilS
 |_,.any,_=>.any
 |_,.ptr l,x=>.cp (AL.can l x) 0
 |_,.fn ks r,x=>.pf ks r x.1 x.2
def AL.can:{D:Type}→(l:AL D)→D→List SV
 |_,.nil,_=>[]
 |_,.one a,x=>[AP.can a x]
 |_,.cons a r,x=>AP.can a x.1::AL.can r x.2
end
def YO {D:Type}(l:AL D) (pre:D→Prop) (res:D→SV) (obs:D→List OB):CSp:=fun ap args=>match AL.dec ap l args with
 |some d=>some (pre d,res d,obs d)
 |none=>none
section
variable {P:Program}{σ:Heap}
theorem GR:∀ {ks:List Kind}{x:AT ks}{vs:List Value},RU σ ks x vs→SRs P σ JK ZA (Sc ks x) vs
 |[],x,vs,h=>by simp only[RU] at h;subst h;simp[Sc,SRs]
 |[k],x,vs,h=>by obtain⟨v,rfl,h1⟩:=h;simp only[Sc,SRs];exact⟨v,[],rfl,Wc h1,rfl⟩
 |k::k'::ks,x,vs,h=>by obtain⟨v,cA,rfl,h1,h2⟩:=h;simp only[Sc,SRs];exact⟨v,cA,rfl,Wc h1,GR h2⟩
theorem EW {ap:Ap}(cR:Oz P ap) {f:SV}{v:Value}(hf:SR P σ JK ZA f v) (hv:∃ g a b,v=.func (.func g) a b) (ks:List Kind) (r:Kind):SR P σ JK ZA (.pf ks r (Q2v ap f ks r) (fnP ap f ks r)) v:=by
 obtain⟨g,a,b,rfl⟩:=hv;simp only[SR];refine⟨g,a,b,rfl,fun x hd τ vs hle cq=>?_⟩;unfold Q2v at hd;split at hd
 ·rename_i c u nW;split at hd
  ·rename_i y hy;obtain⟨h1,g',a',b',h2,h3⟩:=cR τ f (Sc ks x) c u (.func (.func g) a b) vs (SR.mono hle (fun _ _ h=>h) _ _ hf) (GR cq) nW hd;obtain⟨rfl,rfl,rfl⟩:=(by simpa using h2:g=g'∧a=a'∧b=b');have hp:fnP ap f ks r x=y:=by simp[fnP,nW,hy]
   rw[hp];exact h3.mono fun u' σ' hu=>⟨hu.1,(P_ hy hu.2).vcall (E7 _)⟩
  ·exact hd.elim
 ·exact hd.elim
mutual
theorem AP.dec_sound {ap:Ap}(cR:Oz P ap):∀ {D:Type}(p:AP D) {v:SV}{x:D}{u:Value},AP.dec ap p v=some x→SR P σ JK ZA v u→SR P σ JK ZA (AP.can p x) u
 |_,.k k,v,x,u,h,hs=>by
  have one:SRs P σ JK ZA [v] [u]:=by simp only[SRs];exact⟨u,[],rfl,hs,rfl⟩
  simp only[AP.can,SR];cases k with
  |list k =>have:=Yc (own:=[]) (Heap.Le.refl σ) (fun d=>(trivial:OR P σ JK ZA σ (JK d) .dead)) (show view [] k v=some x from h) hs;exact⟨u,rfl,this⟩
  |i ik=>exact QM (k:=.i ik) h one
  |bo=>exact QM (k:=.bo) h one
  |st=>exact QM (k:=.st) h one
  |pair a b=>cases h
 |_,.agg l,v,x,u,h,hs=>by
  simp only[AP.dec] at h;split at h
  ·simp only[SR] at hs;obtain⟨cs,rfl,hs⟩:=hs;simp only[AP.can,SR];exact⟨cs,rfl,AL.dec_sound cR l h hs⟩
  ·cases h
 |_,.any,v,x,u,h,hs=>by simp only[AP.can,SR]
 |_,.nilS,v,x,u,h,hs=>by
  simp only[AP.dec] at h;split at h
  ·simp only[AP.can];exact hs
  ·cases h
 |_,.ptr l,v,x,u,h,hs=>by
  simp only[AP.dec] at h;split at h
  ·simp only[SR] at hs;obtain⟨b,c,e,wr,t,h1,rfl,h3⟩:=hs;simp only[AP.can,SR];exact⟨b,c,e,wr,t,h1,rfl,AL.dec_sound cR l h h3⟩
  ·cases h
 |_,.fn ks r,v,x,u,h,hs=>by
  simp only[AP.dec] at h;split at h
  ·obtain rfl:=osj h;exact EW cR hs (by simp only[SR] at hs;obtain⟨x,y,rfl,_⟩:=hs;exact⟨_,_,_,rfl⟩) ks r
  ·obtain rfl:=osj h;exact EW cR hs (by simp only[SR] at hs;obtain⟨g,x,y,rfl,_⟩:=hs;exact⟨_,_,_,rfl⟩) ks r
  ·cases h
theorem AL.dec_sound {ap:Ap}(cR:Oz P ap):∀ {D:Type}(l:AL D) {vs:List SV}{x:D}{us:List Value},AL.dec ap l vs=some x→SRs P σ JK ZA vs us→SRs P σ JK ZA (AL.can l x) us
 |_,.nil,vs,x,us,h,hs=>by
  simp only[AL.dec] at h;split at h
  ·exact hs
  ·cases h
 |_,.one a,vs,x,us,h,hs=>by
  simp only[AL.dec] at h;split at h
  ·obtain⟨u,rfl,h1⟩:=hs.one;simp only[AL.can,SRs];exact⟨u,[],rfl,AP.dec_sound cR a h h1,rfl⟩
  ·cases h
 |_,.cons a r,vs,x,us,h,hs=>by
  simp only[AL.dec] at h;split at h
  ·rename_i v cA;split at h
   ·rename_i y z h1 h2;obtain rfl:=osj h;simp only[SRs] at hs;obtain⟨u,kY,rfl,h3,h4⟩:=hs;simp only[AL.can,SRs];exact⟨u,kY,rfl,AP.dec_sound cR a h1 h3,AL.dec_sound cR r h2 h4⟩
   ·cases h
  ·cases h
end
theorem CsOk.nil:CsOk P []:=fun f sp h=>by cases h
theorem CsOk.cons {f:Nat}{sp:CSp}{cs:List (Nat×CSp)}(h:OkC P f sp) (t:CsOk P cs):CsOk P ((f,sp)::cs):=fun g tR hg=>by
 simp only[Qq] at hg;cases hb:Nat.beq f g with
 |true=>rw[hb] at hg;obtain rfl:=Nat.eq_of_beq_eq_true hb;obtain rfl:=osj hg;exact h
 |false=>rw[hb] at hg;exact t g tR hg
theorem Z22 {f:Nat}{vc:VCode}{rs:List VResult}{nt:Nat}(h:Fun P f vc rs nt) (hm:P.follows .mixedOrders=true) {D:Type}{l:AL D}{pre:D→Prop}{res:D→SV}{obs:D→List OB}
  {C:Cx}(aw:COk P C) (L:D→List (Nat×LoopAnn)) (hb:∀ d,pre d→gwp C (L d) vc 0 (VT rs (res d) (obs d)) (Qt nt (AL.can l d))):OkC P f (YO l pre res obs):=by
 refine h.okC hm fun ap cR args c v bs hs hc=>?_;unfold YO at hs;split at hs
 ·rename_i d hd;obtain⟨rfl,rfl,rfl⟩:=(by simpa using hs:pre d=c∧res d=v∧obs d=bs);exact⟨C,L d,AL.can l d,fun σ vs hv=>AL.dec_sound cR l hd hv,aw,hb d hc⟩
 ·cases hs
theorem Z7 {f:Nat}{vc:VCode}{rs:List VResult}{nt:Nat}(h:Fun P f vc rs nt) (hm:P.follows .mixedOrders=true) {D:Type}{l:AL D}{pre:D→Prop}{res:D→SV}{obs:D→List OB}
  {C:Cx}(aw:COk P C) {L:D→List (Nat×LoopAnn)}{V:D→Prop}(hq:∀ d,gwp C (L d) vc 0 (VT rs (res d) (obs d)) (Qt nt (AL.can l d))=V d) (hb:∀ d,pre d→V d):OkC P f (YO l pre res obs) :=
 Z22 h hm aw L fun d hp=>(hq d).mpr (hb d hp)
end
end Go.V
namespace Go.V
open Go
def Z32 (key:Nat) (vals:List Value) (rs:List VResult) (K:SV→St→Prop):Exit→St→Prop:=fun e s =>
 let fin:=match WG s rs,Q7 s.own key with
  |some r,.stk l vs=>vs=vals∧K r ⟨l,s.own,s.nx⟩
  |_,_=>False
 match e with
 |.normal=>fin
 |.ret=>fin
 |_=>False
def Z55 (C:Cx) (L:List Value→List (Nat×LoopAnn)) (vc:VCode) (rs:List VResult) (nt:Nat):XSp:=fun d args s K =>
 ∀ vals,gwp {C with off:=100000*(d+1)} (L vals) vc 0 (Z32 (100000*(d+1)-1) vals rs K) ⟨SVs.kill (100000*(d+1)-1) args++List.replicate (nt-args.length) .any,(Ad (100000*(d+1)-1) vals s).own,s.nx⟩
section
variable {P:Program}
theorem Br {B:Heap}{pl:Nat→Value}{tb:Nat→Option Bool}:∀ n,SRs P B pl tb (List.replicate n .any) (List.replicate n undef)
 |0=>by simp[SRs]
 |n+1=>by simp only[List.replicate_succ,SRs];exact⟨_,_,rfl,by simp[SR],Br n⟩
theorem Q7c {f:Nat}{vc:VCode}{rs:List VResult}{nt:Nat}(h:Fun P f vc rs nt) (hm:P.follows .mixedOrders=true) {C:Cx}(aw:COk P C) (L:List Value→List (Nat×LoopAnn)):XOk P f (Z55 C L vc rs nt):=by
 intro B F pl tb s env σ d args vs K R hG ha hx hK;have hx:=hx env;refine h.calls hm Hy ?_;have q3:Gam P B F (JP pl (100000*(d+1)-1) poison) tb (Ad (100000*(d+1)-1) env s) env σ:=by refine hG.make _ _ poison hG.le (fun _ _ _ _ _=>rfl) ?_ (fun i hl _=>by cases hl);exact SRs.upd (.refl _) (fun _ _ h=>h) (fun j hj=>by simp[JP,hj]) _ _ hG.env
 have iC:COk P {C with off:=100000*(d+1)}:=⟨aw.cs,aw.xs,aw.it,aw.yl,aw.iy,aw.xf⟩;have av:=SRs.upd (P:=P) (Heap.Le.refl B) (fun _ _ h=>h) (pl':=JP pl (100000*(d+1)-1) poison) (tb':=tb) (o:=100000*(d+1)-1) (fun j hj=>by simp[JP,hj]) _ _ ha;have bE:GRel P B F σ ⟨SVs.kill (100000*(d+1)-1) args++List.replicate (nt-args.length) .any,(Ad (100000*(d+1)-1) env s).own,s.nx⟩ (vs++List.replicate (nt-vs.length) undef) σ:=by refine⟨B,F,_,tb,.of hG.bf (.refl _),⟨q3.bf,q3.le,?_,q3.obj,q3.fresh,q3.sep,q3.free⟩⟩;rw[ha.length];exact av.append (Br _)
 refine Um iC vc 0 _ _ _ σ none _ trivial bE hx fun e s' ae σ' h1 h2=>?_
 ·have main:(match WG s' rs,Q7 s'.own (100000*(d+1)-1) with
   |some r,.stk l vs=>vs=env∧K r ⟨l,s'.own,s'.nx⟩
   |_,_=>False)→QI (Jf ae σ' rs) fun v=>∃ v' aD,DropTo σ v σ' v' aD∧R v' aD:=fun h=>by
   obtain⟨B',F',pl',tb',k1,k2⟩:=h2;split at h
   ·rename_i r l cA hr eJ;obtain⟨rfl,h⟩:=h;obtain⟨u,h3,h4⟩:=JV k2 hr;rw[h3];have aj:=k2.obj (100000*(d+1)-1);rw[eJ] at aj;exact⟨u,σ',.refl _ _ _,hK r _ B' F' pl' tb' u σ' h k1 ⟨k2.bf,k2.le,aj,k2.obj,k2.fresh,k2.sep,k2.free⟩ h4⟩
   ·exact h.elim
  cases e with
  |normal=>exact main h1
  |ret=>exact main h1
  |_=>exact h1.elim
end
end Go.V
namespace Go.V
open Go
def Z3s:SV→Option Nat
 |.lst o=>some o
 |.box o off=>bif Nat.beq off 0 then some o else none
 |_=>none
def lsv:OB→SV
 |.lst _ _ _ _=>.lst 0
 |_=>.box 0 0
def Z2v:SV→OB→Bool
 |.lst _,.lst _ _ _ _=>true
 |.box _ _,.cells _ _=>true
 |_,_=>false
abbrev LSp:=Ap→OB→List SV→Option (Prop×SV×OB)
def SZ (ap:Ap) (sp:LSp):XSp:=fun _ args s K =>
 match args with
 |a::args=>(match Z3s a with
  |some o=>bif (Q7 s.own o).ret&&Z2v a (Q7 s.own o) then (match sp ap (Q7 s.own o) (P4 (oset s.own o .dead) args) with
    |some (c,v,b)=>bif v.ret 0&&b.ret then c∧K v ⟨s.env,oset s.own o b,s.nx⟩ else False
    |none=>False) else False
  |none=>False)
 |[]=>False
def JT (nt:Nat) (a0:SV) (b:OB) (vals:List Value) (args:List SV):St:=⟨a0::(args++List.replicate (nt-(args.length+1)) .any),[(0,b),(4000000,.stk [a0] vals)],0⟩
def Bx (vals:List Value) (rs:List VResult) (v:SV) (b:OB) (a0:SV):Exit→St→Prop:=fun e s =>
 let fin:=match WG s rs,Q7 s.own 4000000 with
  |some r,.stk l vs=>vs=vals∧N6 [(0,some 0)] [a0] l∧BF [] v r∧I6 s [(0,some 0)] 0 b
  |_,_=>False
 match e with
 |.normal=>fin
 |.ret=>fin
 |_=>False
section
variable {P:Program}
theorem Heap.Le.kill' {B σ:Heap}(h:B.Le σ) {i:Nat}(hi:B.get i=none):B.Le (σ.kill i):=⟨h.1,fun j b hb=>by
 have:j≠i:=by rintro rfl;rw[hi] at hb;cases hb
 rw[Heap.get_kill_ne _ this];exact h.2 _ _ hb⟩
theorem Heap.kill_le (σ:Heap) (i:Nat):(σ.kill i).Le σ:=⟨Nat.le_refl _,fun j b hb=>by
 by_cases e:j=i
 ·subst e;rw[Heap.get_kill_self] at hb;cases hb
 ·rwa [Heap.get_kill_ne _ e] at hb⟩
def TK (σ:Heap) (p:Value):Heap:=match oid p with|some i=>σ.kill i|none=>σ
theorem Eu (σ:Heap) (p:Value):(TK σ p).Le σ:=by
 unfold TK;split
 ·exact Heap.kill_le _ _
 ·exact .refl _
theorem HV {B σ:Heap}{p:Value}(h:B.Le σ) (hi:∀ i,oid p=some i→B.get i=none):B.Le (TK σ p):=by
 unfold TK;split
 ·rename_i i e;exact h.kill' (hi i e)
 ·exact h
theorem RR {σ:Heap}{p:Value}{i:Nat}(h:oid p=some i):(TK σ p).get i=none:=by unfold TK;rw[h];exact Heap.get_kill_self _ _
theorem Pk {σ:Heap}{p:Value}{i:Nat}(h:oid p≠some i):(TK σ p).get i=σ.get i:=by
 unfold TK;split
 ·rename_i j e;exact Heap.get_kill_ne _ (by rintro rfl;exact h e)
 ·rfl
theorem Q1n {p:Value}{i:Nat}(hp:∀ l,p≠.tuple l) (h:Oid p i):oid p=some i:=by cases p<;>first|exact h|exact absurd rfl (hp _)
theorem OB.ret_live {b:OB}(h:b.ret=true):b.live=true:=by cases b<;>first|rfl|cases h
theorem Q2g {o:Nat}{b:OB}(h:Z2v (.lst o) b=true):lsv b=.lst 0:=by cases b<;>first|rfl|cases h
theorem Q3e {o off:Nat}{b:OB}(h:Z2v (.box o off) b=true):lsv b=.box 0 0:=by cases b<;>first|rfl|cases h
theorem Q37 {f:Nat}{vc:VCode}{rs:List VResult}{nt:Nat}(h:Fun P f vc rs nt) (hm:P.follows .mixedOrders=true) {sp:LSp}{ap:Ap}
  (hb:∀ b args c v b',sp ap b args=some (c,v,b')→c→∃ (C:Cx) (L:List Value→List (Nat×LoopAnn)) (a8:List SV),SVs.pure a8=true∧(∀ σ vs,SRs P σ JK ZA args vs→SRs P σ JK ZA a8 vs)∧COk P C∧∀ vals,gwp C (L vals) vc 0 (Bx vals rs v b' (lsv b)) (JT nt (lsv b) b vals a8)):XOk P f (SZ ap sp):=by
 intro B F pl tb s env σ d args vs K R hG ha hx hK;unfold SZ at hx;split at hx
 ·rename_i a args;split at hx
  ·rename_i o aQ;cases gM:((Q7 s.own o).ret&&Z2v a (Q7 s.own o)) with
   |false=>rw[gM] at hx;exact hx.elim
   |true =>
   rw[gM] at hx;simp only[_root_.cond_true] at hx;simp only[Bool.and_eq_true] at gM;obtain⟨l_,eX⟩:=gM;split at hx
   ·rename_i c v b' eu;cases bR:(v.ret 0&&b'.ret) with
    |false=>rw[bR] at hx;exact hx.elim
    |true =>
    rw[bR] at hx;obtain⟨hc,hx⟩:=hx;simp only[Bool.and_eq_true] at bR;simp only[SRs] at ha;obtain⟨u,us,rfl,ft,dM⟩:=ha;have ak:=OB.ret_live l_;have aj:=hG.obj o;have a7:∀ i,oid (pl o)=some i→F.get i=none:=fun i hi=>hG.fresh o i ak (Mn hi);have iD:∀ i,oid (pl o)=some i→B.get i=none:=fun i hi=>by
     cases hg:B.get i with
     |none=>rfl
     |some b=>have:=hG.bf.2 _ _ hg;rw[a7 i hi] at this;cases this
    have cO:∀ l,pl o≠.tuple l:=fun l he=>by
     unfold Z3s at aQ;split at aQ
     ·obtain rfl:=osj aQ;simp only[SR] at ft;obtain⟨rfl,_,_,_,hs⟩:=ft;rw[he] at hs;cases hs
     ·rename_i o' off;cases aR:Nat.beq off 0 with
      |false=>rw[aR] at aQ;cases aQ
      |true =>rw[aR] at aQ;obtain rfl:=osj aQ;simp only[SR] at ft;obtain⟨_,h,_⟩:=ft;rw[he] at h;cases h
     ·cases aQ
    have fL:∀ (B:Heap) (pl':Nat→Value) (tb':Nat→Option Bool),(SR P B pl' tb' (lsv (Q7 s.own o)) u↔pl' 0=pl o):=fun B pl' tb'=>by
     unfold Z3s at aQ;split at aQ
     ·obtain rfl:=osj aQ;simp only[SR] at ft;rw[Q2g eX];simp only[SR];obtain⟨rfl,hs⟩:=ft;exact⟨fun h=>h.1.symm,fun h=>⟨h.symm,hs⟩⟩
     ·rename_i o' off;cases aR:Nat.beq off 0 with
      |false=>rw[aR] at aQ;cases aQ
      |true =>
       rw[aR] at aQ;obtain rfl:=osj aQ;obtain rfl:=Nat.eq_of_beq_eq_true aR;simp only[SR] at ft;rw[Q3e eX];simp only[SR];obtain⟨i,h1,rfl⟩:=ft;rw[h1];constructor
       ·rintro⟨i',h2,h3⟩;rw[h2];simpa using h3.symm
       ·intro h2;exact⟨i,h2,rfl⟩
     ·cases aQ
    obtain⟨C,L,a8,iE,lG,aw,hg⟩:=hb _ _ c v b' eu hc;have hg:=hg [u];let σc:=TK σ (pl o);have mb:B.Le σc:=HV hG.leB iD;have me:F.Le σc:=HV hG.le a7;have av:SRs P σc JK ZA a8 us:=by
     refine lG σc us (Ky (own:=oset s.own o .dead) mb (pl:=pl) (tb:=tb) (fun d=>?_) dM);rw[Qf];by_cases e:d=o
     ·rw[if_pos e];trivial
     ·rw[if_neg e];exact(hG.obj d).mono (.refl _) (fun _ _ h=>h) fun hl i hi=>Pk fun gu=>hG.sep d o i e hl ak hi (Mn gu)
    let gw:Nat→Value:=fun j=>if j=0 then pl o else poison
    have bE:GRel P σc σc σ (JT nt (lsv (Q7 s.own o)) (Q7 s.own o) [u] a8) (u::us++List.replicate (nt-(u::us).length) undef) σ:=by
     refine⟨σc,σc,gw,ZA,⟨.refl _,.refl _,fun _ _ _ h=>h,.refl _⟩,.refl _,Eu _ _,?_,fun j=>?_,fun j i h1 h2=>?_,fun j j' i aA h1 h2 h3 h4=>?_,fun _ _=>rfl⟩
     ·simp only[JT,SRs,List.cons_append];refine⟨u,_,rfl,(fL _ _ _).2 (by simp[gw]),?_⟩;rw[av.length,List.length_cons];refine SRs.append ?_ (Br _);exact QA _ _ iE av
     ·simp only[JT,Q7];by_cases e0:j=0
      ·subst e0;simp only[Nat.beq_refl,_root_.cond_true];exact aj.retd l_ fun i _=>rfl
      ·rw[QY (fun e=>e0 e.symm),cond_false];by_cases e1:j=4000000
       ·subst e1;simp only[Nat.beq_refl,_root_.cond_true];exact⟨u,[],rfl,(fL _ _ _).2 (by simp[gw]),rfl⟩
       ·rw[QY (fun e=>e1 e.symm),cond_false];trivial
     ·simp only[JT,Q7] at h1;by_cases e0:j=0
      ·subst e0;exact RR (Q1n cO h2)
      ·rw[QY (fun e=>e0 e.symm),cond_false] at h1;by_cases e1:j=4000000
       ·subst e1;cases h1
       ·rw[QY (fun e=>e1 e.symm),cond_false] at h1;cases h1
     ·have z:∀ j,(Q7 (JT nt (lsv (Q7 s.own o)) (Q7 s.own o) [u] a8).own j).live=true→j=0:=fun j h1=>by
       simp only[JT,Q7] at h1;by_cases e0:j=0
       ·exact e0
       ·rw[QY (fun e=>e0 e.symm),cond_false] at h1;by_cases e1:j=4000000
        ·subst e1;cases h1
        ·rw[QY (fun e=>e1 e.symm),cond_false] at h1;cases h1
      exact aA ((z j h1).trans (z j' h2).symm)
    refine h.calls hm Hy ?_;refine Um aw vc 0 _ _ _ σ none _ trivial bE hg fun e s' ae σ' h1 h2=>?_
    have main:(match WG s' rs,Q7 s'.own 4000000 with
     |some r,.stk l vs=>vs=[u]∧N6 [(0,some 0)] [lsv (Q7 s.own o)] l∧BF [] v r∧I6 s' [(0,some 0)] 0 b'
     |_,_=>False)→QI (Jf ae σ' rs) fun v=>∃ v' aD,DropTo σ v σ' v' aD∧R v' aD:=fun h=>by
     obtain⟨B',F',pl',tb',k1,k2⟩:=h2;split at h
     ·rename_i r l cA hr eJ;obtain⟨rfl,m1,m2,m3⟩:=h;obtain⟨w,h3,h4⟩:=JV k2 hr;rw[h3];have dk:=k2.obj 4000000;rw[eJ] at dk;have iF:pl' 0=pl o:=by
       have:=Q_ [lsv (Q7 s.own o)] l [u] m1 dk;simp only[SRs] at this;obtain⟨u',_,bZ,h5,_⟩:=this;obtain rfl:u=u':=(List.cons.inj bZ).1;have:=(fL _ _ _).1 h5;simpa [Vo,Qq] using this
      have fg:=(Qu k2 m3).1;have iz:Vo pl' [(0,some 0)] 0=pl o:=by simpa [Vo,Qq] using iF
      rw[iz] at fg;have cP:=(W9 v r w m2 h4).retd (B':=B) (pl':=pl) (tb':=tb) (n:=0) (fun j hj=>by omega) _ _ bR.1;have hle:σc.Le σ':=k1.f.trans k2.le;refine⟨w,σ',.refl _ _ _,hK v _ B F pl tb w σ' hx (.of hG.bf k1.d) ⟨hG.bf,me.trans hle,hG.env,fun d=>?_,fun d i q1 q2=>?_,fun d d' i aA q1 q2 q3 q4=>?_,hG.free⟩ cP⟩
      ·simp only[Qf];by_cases e:d=o
       ·subst e;rw[if_pos rfl];exact fg.retd bR.2 fun _ _=>rfl
       ·rw[if_neg e];refine (hG.obj d).mono (.refl _) (fun _ _ h=>h) fun hl i hi=>?_;have ai:=(hG.obj d).id_lt hl hi;cases hg:σ.get i with
        |none=>exact k1.d.2 i ai hg
        |some bb=>exact hle.2 _ _ (by rw[Pk fun gu=>hG.sep d o i e hl ak hi (Mn gu)];exact hg)
      ·simp only[Qf] at q1;by_cases e:d=o
       ·subst e;exact hG.fresh d i ak q2
       ·rw[if_neg e] at q1;exact hG.fresh d i q1 q2
      ·have lv:∀ d,(Q7 (oset s.own o b') d).live=true→(Q7 s.own d).live=true:=fun d h=>by
        rw[Qf] at h;by_cases e:d=o
        ·subst e;exact ak
        ·rwa [if_neg e] at h
       exact hG.sep d d' i aA (lv d q1) (lv d' q2) q3 q4
     ·exact h.elim
    cases e with
    |normal=>exact main h1
    |ret=>exact main h1
    |_=>exact h1.elim
   ·exact hx.elim
  ·exact hx.elim
 ·exact hx.elim
mutual
theorem AP.can_pure:∀ {D:Type}(p:AP D) (x:D),(AP.can p x).pure=true
 |_,.k k,x=>rfl
 |_,.agg l,x=>by simp only[AP.can,SV.pure];exact AL.can_pure l x
 |_,.nilS,x=>rfl
 |_,.any,x=>rfl
 |_,.ptr l,x=>by simp only[AP.can,SV.pure];exact AL.can_pure l x
 |_,.fn ks r,x=>rfl
theorem AL.can_pure:∀ {D:Type}(l:AL D) (x:D),SVs.pure (AL.can l x)=true
 |_,.nil,x=>rfl
 |_,.one a,x=>by simp only[AL.can,SVs.pure,AP.can_pure a x];rfl
 |_,.cons a r,x=>by simp only[AL.can,SVs.pure,AP.can_pure a x.1,AL.can_pure r x.2];rfl
end
def Bp (ty:Nat) (k:Kind) {D:Type}(l:AL D) (pre:List k.T→Bool→D→Prop) (res:List k.T→Bool→D→SV) (post:List k.T→Bool→D→List k.T):LSp:=fun ap b args=>match b with
 |.lst fZ _k' xs nl=>if fZ=ty then (match NJ xs k,AL.dec ap l args with
  |some xs,some d=>some (pre xs nl d,res xs nl d,.lst ty k (post xs nl d) nl)
  |_,_=>none) else none
 |_=>none
theorem MU {f:Nat}{vc:VCode}{rs:List VResult}{nt:Nat}(h:Fun P f vc rs nt) (hm:P.follows .mixedOrders=true) {ap:Ap}(cR:Oz P ap) {ty:Nat}{k:Kind}{D:Type}{l:AL D}{pre:List k.T→Bool→D→Prop}{res:List k.T→Bool→D→SV}{post:List k.T→Bool→D→List k.T}
  {C:Cx}(aw:COk P C) {L:List k.T→Bool→D→List Value→List (Nat×LoopAnn)}{V:List k.T→Bool→D→Prop}
  (hq:∀ xs nl d,(∀ vals,gwp C (L xs nl d vals) vc 0 (Bx vals rs (res xs nl d) (.lst ty k (post xs nl d) nl) (.lst 0)) (JT nt (.lst 0) (.lst ty k xs nl) vals (AL.can l d)))=V xs nl d)
  (hb:∀ xs nl d,pre xs nl d→V xs nl d):XOk P f (SZ ap (Bp ty k l pre res post)):=by
 refine Q37 h hm fun b args c v b' hs hc=>?_;unfold Bp at hs;split at hs
 ·rename_i fZ k' xs nl;split at hs
  ·rename_i e;subst e;split at hs
   ·rename_i ys d h1 h2;obtain⟨rfl,rfl,rfl⟩:=(by simpa using hs:pre ys nl d=c∧res ys nl d=v∧OB.lst fZ k (post ys nl d) nl=b');unfold NJ at h1;split at h1
    ·rename_i e;subst e;obtain rfl:=osj h1;exact⟨C,L xs nl d,AL.can l d,AL.can_pure l d,fun σ vs hv=>AL.dec_sound cR l h2 hv,aw,(hq xs nl d).mpr (hb xs nl d hc)⟩
    ·cases h1
   ·cases hs
  ·cases hs
 ·cases hs
end
end Go.V
namespace Go.V
open Go
abbrev lI {α:Type}(l:List α):Int:=(l.length:Int)
abbrev gD {α:Type}(l:List α) (i:Int) (d:α):α:=l.getD i.toNat d
abbrev sT {α:Type}(l:List α) (i:Int) (x:α):List α:=l.set i.toNat x
abbrev I64 (x:Int):Prop:=InK .i64 x
theorem Z3 (x:Int):InK .i64 x↔-9223372036854775808≤x∧x≤9223372036854775807:=by simp[InK,IntKind.min,IntKind.max,IntKind.bits,IntKind.signed]
theorem DI (x:Int):InK .u8 x↔0≤x∧x≤255:=by simp[InK,IntKind.min,IntKind.max,IntKind.bits,IntKind.signed]
theorem XE (x:Int):InK .u64 x↔0≤x∧x≤18446744073709551615:=by simp[InK,IntKind.min,IntKind.max,IntKind.bits,IntKind.signed]
theorem LoopP.count {F:Int→(Int→Prop)→Prop}(n:Nat) (J:Nat→Prop) (h0:J 0) (hr:∀ k:Nat,k≤n→J k→∀ q:Int→Prop,(k<n→J (k+1)→q ((k:Int)+1))→F k q):LoopP F 0:=by refine⟨fun d=>∃ k:Nat,d=k∧k≤n∧J k,fun d=>n-d.toNat,⟨0,rfl,Nat.zero_le _,h0⟩,fun d ⟨k,hd,hk,hJ⟩=>?_⟩;subst hd;refine hr k hk hJ _ fun ai qe=>⟨⟨k+1,by simp,ai,qe⟩,?_⟩;simp;omega
theorem LoopP.count2 {X:Type}{F:X×Int→(X×Int→Prop)→Prop}(n:Nat) (J:Nat→X→Prop) {x0:X}(h0:J 0 x0) (hr:∀ (k:Nat) (x:X),k≤n→J k x→∀ q:X×Int→Prop,(∀ x',k<n→J (k+1) x'→q (x',(k:Int)+1))→F (x,(k:Int)) q):LoopP F (x0,0):=by refine⟨fun d=>∃ k:Nat,d.2=k∧k≤n∧J k d.1,fun d=>n-d.2.toNat,⟨0,rfl,Nat.zero_le _,h0⟩,fun ⟨x,d⟩ ⟨k,hd,hk,hJ⟩=>?_⟩;simp only at hd hJ;subst hd;refine hr k x hk hJ _ fun x' ai qe=>⟨⟨k+1,by simp,ai,qe⟩,?_⟩;simp;omega
theorem Qa {α:Type}{l:List α}{k:Nat}{d:α}(h:k<l.length):l.getD k d=l[k]:=by simp[List.getD_eq_getElem?_getD,List.getElem?_eq_getElem h]
theorem ZV {α:Type}{l:List α}{k:Nat}(h:k<l.length):l.take (k+1)=l.take k++[l[k]]:=by rw[List.take_succ_eq_append_getElem h]
end Go.V
namespace Go.V
open Go
section
variable {P:Program}
theorem st1 {S:VSpecs}{d:Nat}{op:VOp}{rest:List VOper}{env:Env}{σ:Heap}{K:Env→Heap→Prop}{v:Value}(hv:∀ K',vop S op env σ K'=QI (Q5 op (Q3 env) σ) fun p=>K' p.1 p.2) (h:Q5 op (Q3 env) σ=some (v,σ)) (hr:Pd S rest (env.set d v) σ K):Pd S (⟨some d,op,none⟩::rest) env σ K:=by show QI (some true) _;refine⟨fun _=>?_,fun e=>by cases e⟩;rw[hv,h];exact hr
theorem YlOk.nil:∀ o y,Qq ([]:List (Nat×YSp)) o=some y→Q2e P o y:=fun o y h=>by cases h
theorem IysOk.nil:∀ f x,Qq ([]:List (Nat×Z33)) f=some x→Z5g P f x:=fun f x h=>by cases h
theorem XsOk.nil:∀ f x,Qq ([]:List (Nat×XSp)) f=some x→XOk P f x:=fun f x h=>by cases h
theorem XsOk.cons {f:Nat}{x:XSp}{l:List (Nat×XSp)}(h:XOk P f x) (t:∀ g y,Qq l g=some y→XOk P g y):∀ g y,Qq ((f,x)::l) g=some y→XOk P g y:=fun g y hg=>by
 simp only[Qq] at hg;cases hb:Nat.beq f g with
 |true=>rw[hb] at hg;obtain rfl:=Nat.eq_of_beq_eq_true hb;obtain rfl:=osj hg;exact h
 |false=>rw[hb] at hg;exact t g y hg
theorem ItsOk.nil:∀ f x,Qq ([]:List (Nat×ISp)) f=some x→Z5e P f x:=fun f x h=>by cases h
def Dt:Ap:=fun _ _=>none
theorem Vl:Oz P Dt:=fun _ _ _ _ _ _ _ _ _ h=>by cases h
end
end Go.V
namespace Go.V
open Go
def OH {α:Type}:Nat→α→List α→List α
 |0,x,l=>x::l
 |j+1,x,a::l=>a::OH j x l
 |_+1,x,[]=>[x]
def AN {α:Type}:Nat→List α→List α
 |0,_::l=>l
 |j+1,a::l=>a::AN j l
 |_,[]=>[]
def Q1c (kk vk:Kind):OB→Option (List (kk.T×vk.T))
 |.map il ll m=>if h:il=kk∧ll=vk then some (h.1▸h.2▸m) else none
 |_=>none
abbrev MSp (kk vk:Kind):=Ap→List (kk.T×vk.T)→List SV→List SV→Option (Prop×SV×(List (kk.T×vk.T)→Prop))
def BX (ap:Ap) (j:Nat) (kk vk:Kind) (sp:MSp kk vk):XSp:=fun _ args s K =>
 match args with
 |a::args=>(match OG s.own a with
  |some l=>(match l[j]? with
   |some (.map o)=>(match Q1c kk vk (Q7 s.own o) with
    |some m=>(match sp ap m (P4 (oset s.own o .dead) (AN j l)) (P4 (oset s.own o .dead) args) with
     |some (c,v,post)=>bif v.ret 0 then c∧∀ m',post m'→K v ⟨s.env,oset s.own o (.map kk vk m'),s.nx⟩ else False
     |none=>False)
    |none=>False)
   |_=>False)
  |none=>False)
 |[]=>False
def mstart (nt j:Nat) (kk vk:Kind) (m:List (kk.T×vk.T)) (vals:List Value) (cs args:List SV):St:=⟨.cp (OH j (.map 0) cs) 0::(args++List.replicate (nt-(args.length+1)) .any),[(0,.map kk vk m),(4000000,.stk [.map 0] vals)],0⟩
def Q3d (vals:List Value) (rs:List VResult) (v:SV) (kk vk:Kind) (post:List (kk.T×vk.T)→Prop):Exit→St→Prop:=fun e s =>
 let fin:=match WG s rs,Q7 s.own 4000000,Q1c kk vk (Q7 s.own 0) with
  |some r,.stk l vs,some m'=>vs=vals∧N6 [(0,some 0)] [.map 0] l∧BF [] v r∧post m'
  |_,_,_=>False
 match e with
 |.normal=>fin
 |.ret=>fin
 |_=>False
section
variable {P:Program}
theorem Rf {kk vk:Kind}{b:OB}{m:List (kk.T×vk.T)}(h:Q1c kk vk b=some m):b=.map kk vk m:=by
 unfold Q1c at h;split at h
 ·split at h
  ·rename_i e;obtain⟨rfl,rfl⟩:=e;obtain rfl:=osj h;rfl
  ·cases h
 ·cases h
theorem OC:∀ (j:Nat) {l:List SV}{c:List Value}{o:Nat}{B:Heap}{pl:Nat→Value}{tb:Nat→Option Bool},l[j]?=some (.map o)→SRs P B pl tb l c →
  ∃ w,SR P B pl tb (.map o) w∧SRs P B pl tb (AN j l) (AN j c)∧∀ (B':Heap) (pl':Nat→Value) (tb':Nat→Option Bool) (l':List SV) (x:SV),SRs P B' pl' tb' l' (AN j c)→SR P B' pl' tb' x w→SRs P B' pl' tb' (OH j x l') c
 |j,[],c,o,B,pl,tb,h,_=>by simp at h
 |0,a::l,c,o,B,pl,tb,h,hs=>by
  obtain rfl:a=.map o:=by simpa using h
  simp only[SRs] at hs;obtain⟨w,us,rfl,h1,h2⟩:=hs;exact⟨w,h1,h2,fun B' pl' tb' l' x h3 h4=>by simp only[OH,SRs];exact⟨w,us,rfl,h4,h3⟩⟩
 |j+1,a::l,c,o,B,pl,tb,h,hs=>by
  simp only[SRs] at hs;obtain⟨u,us,rfl,h1,h2⟩:=hs;obtain⟨w,g1,g2,g3⟩:=OC j (by simpa using h) h2;refine⟨w,g1,?_,fun B' pl' tb' l' x h3 h4=>?_⟩
  ·simp only[AN,SRs];exact⟨u,_,rfl,h1,g2⟩
  ·simp only[AN] at h3
   match l',h3 with
   |[],h3=>simp only[SRs] at h3;cases h3
   |y::l',h3 =>simp only[SRs] at h3;obtain⟨u',kY,e,h5,h6⟩:=h3;obtain⟨rfl,rfl⟩:=List.cons.inj e;simp only[OH,SRs];exact⟨u,us,rfl,h5,g3 B' pl' tb' l' x h6 h4⟩
theorem CP {f:Nat}{vc:VCode}{rs:List VResult}{nt:Nat}(h:Fun P f vc rs nt) (hm:P.follows .mixedOrders=true) {kk vk:Kind}(b8:(kk.flat&&vk.flat)=true) {sp:MSp kk vk}{ap:Ap}{j:Nat}
  (hb:∀ m cs dP c v post,sp ap m cs dP=some (c,v,post)→c→∃ (C:Cx) (L:List Value→List (Nat×LoopAnn)) (cs' fv:List SV),SVs.pure cs'=true∧SVs.pure fv=true∧(∀ σ vs,SRs P σ JK ZA cs vs→SRs P σ JK ZA cs' vs)∧(∀ σ vs,SRs P σ JK ZA dP vs→SRs P σ JK ZA fv vs)∧COk P C∧∀ vals,gwp C (L vals) vc 0 (Q3d vals rs v kk vk post) (mstart nt j kk vk m vals cs' fv)):Q3r P f (BX ap j kk vk sp) j:=by
 intro B F pl tb s env σ d args vs K R tt hG ha pS hx hK;unfold BX at hx;split at hx
 ·rename_i a args;split at hx
  ·rename_i l hl;split at hx
   ·rename_i o fm;split at hx
    ·rename_i m aV;have aJ:=Rf aV;split at hx
     ·rename_i c v post eu;cases bR:v.ret 0 with
      |false=>rw[bR] at hx;exact hx.elim
      |true =>
      rw[bR] at hx;obtain⟨hc,hx⟩:=hx;simp only[SRs] at ha;obtain⟨u,us,rfl,ft,dM⟩:=ha;have tS:o=tt:=by simpa [A7,hl,fm] using pS
      have ak:(Q7 s.own o).live=true:=by rw[aJ];rfl
      have aj:=hG.obj o;rw[aJ] at aj;obtain⟨id,es,clock,gO,a7,gC⟩:=aj;have nX:F.get id=none:=hG.fresh o id ak (by rw[gO];rfl);have iD:B.get id=none:=by
       cases hg:B.get id with
       |none=>rfl
       |some b=>have:=hG.bf.2 _ _ hg;rw[nX] at this;cases this
      obtain⟨i,ce,e,wr,t,tT,fI,aw⟩:∃ i ce e wr t,u=.pointer (some ⟨i,0,none⟩)∧σ.get i=some (.cells ce e wr t)∧SRs P B pl tb l ce:=by
       unfold OG at hl;split at hl
       ·rename_i o' off;cases aR:Nat.beq off 0 with
        |false=>rw[aR] at hl;cases hl
        |true =>
         rw[aR] at hl;obtain rfl:=Nat.eq_of_beq_eq_true aR;simp only[_root_.cond_true] at hl;split at hl
         ·rename_i l' un a_;obtain rfl:=osj hl;have dw:=hG.obj o';rw[a_] at dw;obtain⟨i,ce,e,t,k1,k2,k3,_⟩:=dw;simp only[SR] at ft;obtain⟨b,q1,q2⟩:=ft;rw[k1] at q1;obtain rfl:i=b:=by simpa using q1
          exact⟨i,ce,e,true,t,q2,k2,k3⟩
         ·cases hl
       ·rename_i l' off;cases aR:Nat.beq off 0 with
        |false=>rw[aR] at hl;cases hl
        |true =>rw[aR] at hl;obtain rfl:=Nat.eq_of_beq_eq_true aR;obtain rfl:=osj hl;simp only[SR] at ft;obtain⟨b,ce,e,wr,t,k1,k2,k3⟩:=ft;exact⟨b,ce,e,wr,t,k2,hG.leB.2 _ _ k1,k3⟩
       ·cases hl
      have aA:i≠id:=by rintro rfl;rw[fI] at a7;cases a7
      obtain⟨w,hw,qf,qg⟩:=OC j fm aw;simp only[SR] at hw;obtain rfl:w=pl o:=hw.1;obtain⟨C,L,cs',fv,gi,cU,hd1,qh,iC,hg⟩:=hb _ _ _ c v post eu hc;have hg:=hg [pl o];have tU:oid (pl o)=some id:=by rw[gO];rfl
      let σc:=σ.kill id;have mb:B.Le σc:=hG.leB.kill' iD;have me:F.Le σc:=hG.le.kill' nX;have qi:σc.Le σ:=Heap.kill_le _ _;have cL:∀ k,k≠id→σc.get k=σ.get k:=fun k hk=>Heap.get_kill_ne _ hk;have bN:∀ d,OR P σc JK ZA σc (pl d) ((Q7 (oset s.own o .dead) d).kill d)∨True:=fun _=>.inr trivial;have rz:∀ (xs:List SV) (vs:List Value),SRs P B pl tb xs vs→SRs P σc JK ZA (P4 (oset s.own o .dead) xs) vs:=fun xs vs bA=>by
       refine Ky (own:=oset s.own o .dead) mb (pl:=pl) (tb:=tb) (fun d=>?_) bA;rw[Qf];by_cases e:d=o
       ·rw[if_pos e];trivial
       ·rw[if_neg e];exact(hG.obj d).mono (.refl _) (fun _ _ h=>h) fun hl i hi=>cL _ fun gu=>hG.sep d o i e hl ak hi (by rw[gO,gu];rfl)
      have av:=qh σc us (rz _ _ dM);have bU:=hd1 σc _ (rz _ _ qf);let gw:Nat→Value:=fun k=>if k=0 then pl o else poison
      have kf:∀ (B:Heap) (tb':Nat→Option Bool),SR P B gw tb' (.map 0) (pl o):=fun B tb'=>by simp only[SR];exact⟨by simp[gw],_,gO⟩
      have bE:GRel P σc σc σ (mstart nt j kk vk m [pl o] cs' fv) (u::us++List.replicate (nt-(u::us).length) undef) σ:=by
       refine⟨σc,σc,gw,ZA,⟨.refl _,.refl _,fun _ _ _ h=>h,.refl _⟩,.refl _,qi,?_,fun k=>?_,fun k i' h1 h2=>?_,fun k k' i' nY h1 h2 h3 h4=>?_,fun _ _=>rfl⟩
       ·simp only[mstart,SRs,List.cons_append];refine⟨u,_,rfl,?_,?_⟩
        ·simp only[SR];refine⟨i,ce,e,wr,t,by rw[cL i aA];exact fI,tT,qg _ _ _ _ _ (QA _ _ gi bU) (kf _ _)⟩
        rw[av.length,List.length_cons];refine SRs.append ?_ (Br _);exact QA _ _ cU av
       ·simp only[mstart,Q7];by_cases e0:k=0
        ·subst e0;simp only[Nat.beq_refl,_root_.cond_true];exact⟨id,es,clock,by simp[gw,gO],a7,gC.mono mb⟩
        ·rw[QY (fun e=>e0 e.symm),cond_false];by_cases e1:k=4000000
         ·subst e1;simp only[Nat.beq_refl,_root_.cond_true];exact⟨pl o,[],rfl,kf _ _,rfl⟩
         ·rw[QY (fun e=>e1 e.symm),cond_false];trivial
       ·simp only[mstart,Q7] at h1;by_cases e0:k=0
        ·subst e0;have:Oid (pl o) i':=by simpa [gw] using h2
         rw[gO] at this;obtain rfl:id=i':=osj this;exact Heap.get_kill_self _ _
        ·rw[QY (fun e=>e0 e.symm),cond_false] at h1;by_cases e1:k=4000000
         ·subst e1;cases h1
         ·rw[QY (fun e=>e1 e.symm),cond_false] at h1;cases h1
       ·have z:∀ k,(Q7 (mstart nt j kk vk m [pl o] cs' fv).own k).live=true→k=0:=fun k h1=>by
         simp only[mstart,Q7] at h1;by_cases e0:k=0
         ·exact e0
         ·rw[QY (fun e=>e0 e.symm),cond_false] at h1;by_cases e1:k=4000000
          ·subst e1;cases h1
          ·rw[QY (fun e=>e1 e.symm),cond_false] at h1;cases h1
        exact nY ((z k h1).trans (z k' h2).symm)
      refine h.calls hm Hy ?_;refine Um iC vc 0 _ _ _ σ none _ trivial bE hg fun e s' ae σ' h1 h2=>?_
      have main:(match WG s' rs,Q7 s'.own 4000000,Q1c kk vk (Q7 s'.own 0) with
       |some r,.stk l vs,some m'=>vs=[pl o]∧N6 [(0,some 0)] [.map 0] l∧BF [] v r∧post m'
       |_,_,_=>False)→QI (Jf ae σ' rs) fun v=>∃ v' aD,DropTo σ v σ' v' aD∧R v' aD:=fun h=>by
       obtain⟨B',F',pl',tb',k1,k2⟩:=h2;split at h
       ·rename_i r l' cA m' hr eJ oF;obtain⟨rfl,m1,m2,m3⟩:=h;have g7:=Rf oF;obtain⟨w,h3,h4⟩:=JV k2 hr;rw[h3];have dk:=k2.obj 4000000;rw[eJ] at dk;have iF:pl' 0=pl o:=by
         have:=Q_ [.map 0] l' [pl o] m1 dk;simp only[SRs,SR] at this;obtain⟨u',_,bZ,⟨h5,_⟩,_⟩:=this;obtain rfl:pl o=u':=(List.cons.inj bZ).1;simpa [Vo,Qq] using h5.symm
        have fg:=k2.obj 0;rw[g7,iF] at fg;have cP:=(W9 v r w m2 h4).retd (B':=B) (pl':=pl) (tb':=tb) (n:=0) (fun j hj=>by omega) _ _ bR;have hle:σc.Le σ':=k1.f.trans k2.le;have kg:∀ d,d≠o→(Q7 s.own d).live=true→∀ i,Oid (pl d) i→σ'.get i=σ.get i:=fun d e hl i hi=>by
         have ai:=(hG.obj d).id_lt hl hi;have tV:i≠id:=fun gu=>hG.sep d o i e hl ak hi (by rw[gO,gu];rfl);cases hg:σ.get i with
         |none=>exact k1.d.2 i ai hg
         |some bb=>exact hle.2 _ _ (by rw[cL i tV];exact hg)
        have bL:∀ d,(Q7 (oset s.own o (.map kk vk m')) d).live=(Q7 s.own d).live:=fun d=>by
         rw[Qf];by_cases e:d=o
         ·subst e;rw[if_pos rfl,ak];rfl
         ·rw[if_neg e]
        refine⟨w,σ',.refl _ _ _,hK v _ w σ' (hx m' m3) k1.d ⟨hG.bf,me.trans hle,hG.env,fun d=>?_,fun d i q1 q2=>hG.fresh d i (by rw[←bL d];exact q1) q2,fun d d' i aA q1 q2 q3 q4=>hG.sep d d' i aA (by rw[←bL d];exact q1) (by rw[←bL d'];exact q2) q3 q4,hG.free⟩ cP fun q hq=>?_⟩
        ·simp only[Qf];by_cases e:d=o
         ·subst e;rw[if_pos rfl];exact fg.retd b8 fun _ _=>rfl
         ·rw[if_neg e];exact(hG.obj d).mono (.refl _) (fun _ _ h=>h) fun hl i hi=>kg d e hl i hi
        ·have tX:q≠o:=fun e=>hq (by rw[e,tS];exact List.mem_singleton.2 rfl);exact⟨bL q,rfl,fun hl i hi=>kg q tX hl i hi⟩
       ·exact h.elim
      cases e with
      |normal=>exact main h1
      |ret=>exact main h1
      |_=>exact h1.elim
     ·exact hx.elim
    ·exact hx.elim
   ·exact hx.elim
  ·exact hx.elim
 ·exact hx.elim
theorem Q6y {f:Nat}{kk vk:Kind}{sp:MSp kk vk}{ap:Ap}{j:Nat}(h:Q3r P f (BX ap j kk vk sp) j):XOk P f (BX ap j kk vk sp):=by
 intro B F pl tb s env σ d args vs K R hG ha hx hK;have:∃ t,A7 s.own j args=some t:=by
  unfold BX at hx;split at hx
  ·rename_i a args;split at hx
   ·rename_i l hl;split at hx
    ·rename_i o fm;exact⟨o,by simp[A7,hl,fm]⟩
    ·exact hx.elim
   ·exact hx.elim
  ·exact hx.elim
 obtain⟨t,ht⟩:=this;exact h B F pl tb s env σ d args vs K R t hG ha ht hx fun v s' u σ' k1 k2 k3 k4 _=>hK v s' B F pl tb u σ' k1 (.of hG.bf k2) k3 k4
def Q9o (P:Program) (f:Nat) (x:XSp) (j:Nat):Prop:=XOk P f x∧Q3r P f x j
theorem XfOk.nil {xs:List (Nat×XSp)}:∀ f j,Qq ([]:List (Nat×Nat)) f=some j→∀ x,Qq xs f=some x→Q3r P f x j:=fun f j h=>by cases h
theorem XfOk.cons {xs:List (Nat×XSp)}{g k:Nat}{y:XSp}{l:List (Nat×Nat)}(hy:Qq xs g=some y) (h:Q3r P g y k) (t:∀ f j,Qq l f=some j→∀ x,Qq xs f=some x→Q3r P f x j):∀ f j,Qq ((g,k)::l) f=some j→∀ x,Qq xs f=some x→Q3r P f x j:=fun f j hf x hx=>by
 simp only[Qq] at hf;cases hb:Nat.beq g f with
 |true =>rw[hb] at hf;obtain rfl:=Nat.eq_of_beq_eq_true hb;obtain rfl:=osj hf;obtain rfl:=osj (hy.symm.trans hx);exact h
 |false=>rw[hb] at hf;exact t f j hf x hx
theorem ER {f:Nat}{vc:VCode}{rs:List VResult}{nt:Nat}(h:Fun P f vc rs nt) (hm:P.follows .mixedOrders=true) {kk vk:Kind}(b8:(kk.flat&&vk.flat)=true) {sp:MSp kk vk}{ap:Ap}{j:Nat}
  (hb:∀ m cs dP c v post,sp ap m cs dP=some (c,v,post)→c→∃ (C:Cx) (L:List Value→List (Nat×LoopAnn)) (cs' fv:List SV),SVs.pure cs'=true∧SVs.pure fv=true∧(∀ σ vs,SRs P σ JK ZA cs vs→SRs P σ JK ZA cs' vs)∧(∀ σ vs,SRs P σ JK ZA dP vs→SRs P σ JK ZA fv vs)∧COk P C∧∀ vals,gwp C (L vals) vc 0 (Q3d vals rs v kk vk post) (mstart nt j kk vk m vals cs' fv)):Q9o P f (BX ap j kk vk sp) j :=
 ⟨Q6y (CP h hm b8 hb),CP h hm b8 hb⟩
def Q3v {kk vk:Kind}{E D:Type}(lc:AL E) (la:AL D) (pre:List (kk.T×vk.T)→E→D→Prop) (res:List (kk.T×vk.T)→E→D→SV) (post:List (kk.T×vk.T)→E→D→List (kk.T×vk.T)→Prop):MSp kk vk:=fun ap m cs dP=>match AL.dec ap lc cs,AL.dec ap la dP with
 |some c,some a=>some (pre m c a,res m c a,post m c a)
 |_,_=>none
theorem CK {kk vk:Kind}{E D:Type}{lc:AL E}{la:AL D}{pre:List (kk.T×vk.T)→E→D→Prop}{res:List (kk.T×vk.T)→E→D→SV}{post:List (kk.T×vk.T)→E→D→List (kk.T×vk.T)→Prop}{ap:Ap}{m:List (kk.T×vk.T)}{cs dP:List SV}{c:Prop}{v:SV}{q:List (kk.T×vk.T)→Prop}
  (h:Q3v lc la pre res post ap m cs dP=some (c,v,q)):∃ x y,AL.dec ap lc cs=some x∧AL.dec ap la dP=some y∧c=pre m x y∧v=res m x y∧q=post m x y:=by
 unfold Q3v at h;split at h
 ·rename_i x y h1 h2;obtain⟨rfl,rfl,rfl⟩:=(by simpa using h:pre m x y=c∧res m x y=v∧post m x y=q);exact⟨x,y,h1,h2,rfl,rfl,rfl⟩
 ·cases h
theorem O3 {f:Nat}{vc:VCode}{rs:List VResult}{nt:Nat}(h:Fun P f vc rs nt) (hm:P.follows .mixedOrders=true) {ap:Ap}(cR:Oz P ap) {kk vk:Kind}(b8:(kk.flat&&vk.flat)=true) {j:Nat}{E D:Type}{lc:AL E}{la:AL D}{pre:List (kk.T×vk.T)→E→D→Prop}{res:List (kk.T×vk.T)→E→D→SV}{post:List (kk.T×vk.T)→E→D→List (kk.T×vk.T)→Prop}{μ:E→D→Nat}
  {C:Cx}(aw:COk P C) (nK:Qq C.xf f=none) {L:List (kk.T×vk.T)→E→D→List Value→List (Nat×LoopAnn)}{V:Nat→List (kk.T×vk.T)→E→D→Prop}
  (hq:∀ n m x y,(∀ vals,gwp {C with xs:=(f,BX ap j kk vk (Q3v lc la (fun m x y=>pre m x y∧μ x y<n) res post))::C.xs} (L m x y vals) vc 0 (Q3d vals rs (res m x y) kk vk (post m x y)) (mstart nt j kk vk m vals (AL.can lc x) (AL.can la y)))=V n m x y)
  (hb:∀ n m x y,pre m x y→μ x y=n→V n m x y):Q9o P f (BX ap j kk vk (Q3v lc la pre res post)) j:=by
 have rA:∀ (x:XSp) g k,Qq C.xf g=some k→∀ y,Qq ((f,x)::C.xs) g=some y→Q3r P g y k:=fun x g k hg y hy=>by
  simp only[Qq] at hy;cases hb:Nat.beq f g with
  |true=>obtain rfl:=Nat.eq_of_beq_eq_true hb;rw[nK] at hg;cases hg
  |false=>rw[hb] at hy;exact aw.xf g k hg y hy
 have key:∀ n,Q9o P f (BX ap j kk vk (Q3v lc la (fun m x y=>pre m x y∧μ x y<n) res post)) j:=by
  intro n;induction n using Nat.strongRecOn with
  |ind n ih =>refine ER h hm b8 fun m cs dP c v q hs hc=>?_;obtain⟨x,y,h1,h2,rfl,rfl,rfl⟩:=CK hs;obtain⟨hp,hn⟩:=hc;exact⟨{C with xs:=(f,BX ap j kk vk (Q3v lc la (fun m x' y'=>pre m x' y'∧μ x' y'<μ x y) res post))::C.xs},L m x y,AL.can lc x,AL.can la y,AL.can_pure lc x,AL.can_pure la y,fun σ vs hv=>AL.dec_sound cR lc h1 hv,fun σ vs hv=>AL.dec_sound cR la h2 hv,⟨aw.cs,XsOk.cons (ih _ hn).1 aw.xs,aw.it,aw.yl,aw.iy,rA _⟩,(hq (μ x y) m x y).mpr (hb _ m x y hp rfl)⟩
 refine ER h hm b8 fun m cs dP c v q hs hc=>?_;obtain⟨x,y,h1,h2,rfl,rfl,rfl⟩:=CK hs;exact⟨{C with xs:=(f,BX ap j kk vk (Q3v lc la (fun m x' y'=>pre m x' y'∧μ x' y'<μ x y) res post))::C.xs},L m x y,AL.can lc x,AL.can la y,AL.can_pure lc x,AL.can_pure la y,fun σ vs hv=>AL.dec_sound cR lc h1 hv,fun σ vs hv=>AL.dec_sound cR la h2 hv,⟨aw.cs,XsOk.cons (key (μ x y)).1 aw.xs,aw.it,aw.yl,aw.iy,rA _⟩,(hq (μ x y) m x y).mpr (hb _ m x y hc rfl)⟩
end
end Go.V
namespace Go.V
open Go
def Heap.over (B F:Heap):Heap where
 get i:=match B.get i with|some b=>some b|none=>F.get i
 n:=Nat.max B.n F.n
 wf i h:=by have h1:B.n≤i:=Nat.le_trans (Nat.le_max_left _ _) h;have h2:F.n≤i:=Nat.le_trans (Nat.le_max_right _ _) h;rw[B.wf i h1];exact F.wf i h2
theorem Heap.over_none {B F:Heap}{i:Nat}(h1:B.get i=none) (h2:F.get i=none):(B.over F).get i=none:=by show (match B.get i with|some b=>some b|none=>F.get i)=none;rw[h1];exact h2
theorem Heap.over_left {B F:Heap}:B.Le (B.over F):=⟨Nat.le_max_left _ _,fun i b h=>by
 show (match B.get i with|some b=>some b|none=>F.get i)=some b;rw[h]⟩
theorem Heap.over_right {B F σ:Heap}(hB:B.Le σ) (hF:F.Le σ):F.Le (B.over F):=⟨Nat.le_max_right _ _,fun i b h=>by
 show (match B.get i with|some b=>some b|none=>F.get i)=some b;cases hb:B.get i with
 |none=>exact h
 |some b' =>
  have h1:=hB.2 _ _ hb;have h2:=hF.2 _ _ h;rw[h1] at h2;exact h2⟩
theorem Heap.over_le {B F σ:Heap}(hB:B.Le σ) (hF:F.Le σ):(B.over F).Le σ:=⟨Nat.max_le.2 ⟨hB.1,hF.1⟩,fun i b h=>by
 have h:(match B.get i with|some b=>some b|none=>F.get i)=some b:=h;cases hb:B.get i with
 |none=>rw[hb] at h;exact hF.2 _ _ h
 |some b'=>rw[hb] at h;rw[←h];exact hB.2 _ _ hb⟩
theorem GBase.over {B F σ B' σ':Heap}(hB:B.Le B') (dV:B'.Le σ') (hF:F.Le σ') (hx:∀ i b,F.get i=some b→B.get i=none→B'.get i=none) (hd:Dead σ σ'):GBase B F σ B' (B'.over F) σ' :=
 ⟨hB,Heap.over_right dV hF,hx,hd⟩
def FO (ap:Ap) (sp:LSp):XSp:=fun _ args s K =>
 match args with
 |.lst o::args=>bif SVs.pure args&&(Q7 s.own o).isL then (match sp ap (Q7 s.own o) args with
   |some (c,v,b)=>bif v.ret 0&&b.isL then c∧K v ⟨s.env,oset s.own o b,s.nx⟩ else False
   |none=>False) else False
 |_=>False
def callV (ap:Ap) (sp:CSp):XSp:=fun d args s K =>
 let s1:=(⟨s.env++args,s.own,s.nx⟩:St).frzs (M1 args);let a1:=s1.env.drop s.env.length
 bif SVs.pure a1 then (match sp ap a1 with
  |some (c,v,bs)=>bif v.ret bs.length&&bs.all OB.isL then c∧K (v.ren d 500000) ((⟨s1.env.take s.env.length,s1.own,s1.nx⟩:St).makes d 500000 0 bs) else False
  |none=>False) else False
section
variable {P:Program}
theorem OB.isL_lst {b:OB}(h:b.isL=true):∃ ty k xs nl,b=.lst ty k xs nl:=by cases b<;>first|exact⟨_,_,_,_,rfl⟩|cases h
theorem Q3j {f:Nat}{vc:VCode}{rs:List VResult}{nt:Nat}(h:Fun P f vc rs nt) (hm:P.follows .mixedOrders=true) {sp:LSp}{ap:Ap}
  (hb:∀ b args c v b',sp ap b args=some (c,v,b')→c→∃ (C:Cx) (L:List Value→List (Nat×LoopAnn)) (a8:List SV),SVs.pure a8=true∧(∀ σ vs,SRs P σ JK ZA args vs→SRs P σ JK ZA a8 vs)∧COk P C∧∀ vals,gwp C (L vals) vc 0 (Bx vals rs v b' (lsv b)) (JT nt (lsv b) b vals a8)):XOk P f (FO ap sp):=by
 intro B F pl tb s env σ d args vs K R hG ha hx hK;unfold FO at hx;split at hx
 ·rename_i o args;cases gM:(SVs.pure args&&(Q7 s.own o).isL) with
  |false=>rw[gM] at hx;exact hx.elim
  |true =>
  rw[gM] at hx;simp only[_root_.cond_true] at hx;simp only[Bool.and_eq_true] at gM;obtain⟨nZ,qj⟩:=gM;obtain⟨ty,k,xs,nl,aJ⟩:=OB.isL_lst qj;rw[aJ] at hx;split at hx
  ·rename_i c v b' eu;cases bR:(v.ret 0&&b'.isL) with
   |false=>rw[bR] at hx;exact hx.elim
   |true =>
   rw[bR] at hx;obtain⟨hc,hx⟩:=hx;simp only[Bool.and_eq_true] at bR;simp only[SRs] at ha;obtain⟨u,us,rfl,ft,dM⟩:=ha;have ak:(Q7 s.own o).live=true:=by rw[aJ];rfl
   have aj:=hG.obj o;rw[aJ] at aj;simp only[SR] at ft;obtain⟨rfl,hs⟩:=ft;have a7:∀ i,oid (pl o)=some i→F.get i=none:=fun i hi=>hG.fresh o i ak (Mn hi);have iD:∀ i,oid (pl o)=some i→B.get i=none:=fun i hi=>by
    cases hg:B.get i with
    |none=>rfl
    |some b=>have:=hG.bf.2 _ _ hg;rw[a7 i hi] at this;cases this
   have cO:∀ l,pl o≠.tuple l:=fun l he=>by obtain⟨_,_,_,hs⟩:=hs;rw[he] at hs;cases hs
   have fL:∀ (B:Heap) (pl':Nat→Value) (tb':Nat→Option Bool),(SR P B pl' tb' (.lst 0) (pl o)↔pl' 0=pl o):=fun B pl' tb'=>by simp only[SR];exact⟨fun h=>h.1.symm,fun h=>⟨h.symm,hs⟩⟩
   obtain⟨C,L,a8,iE,lG,aw,hg⟩:=hb _ _ c v b' eu hc;have hg:=hg [pl o];let σc:=TK σ (pl o);have mb:B.Le σc:=HV hG.leB iD;have me:F.Le σc:=HV hG.le a7;have av:SRs P B JK ZA a8 us:=lG B us (QA _ _ nZ dM);let gw:Nat→Value:=fun j=>if j=0 then pl o else poison
   have bE:GRel P B σc σ (JT nt (.lst 0) (.lst ty k xs nl) [pl o] a8) (pl o::us++List.replicate (nt-(pl o::us).length) undef) σ:=by
    refine⟨B,σc,gw,ZA,⟨.refl _,.refl _,fun _ _ _ h=>h,.refl _⟩,mb,Eu _ _,?_,fun j=>?_,fun j i h1 h2=>?_,fun j j' i aA h1 h2 h3 h4=>?_,fun _ _=>rfl⟩
    ·simp only[JT,SRs,List.cons_append];refine⟨pl o,_,rfl,(fL _ _ _).2 (by simp[gw]),?_⟩;rw[av.length,List.length_cons];refine SRs.append ?_ (Br _);exact QA _ _ iE av
    ·simp only[JT,Q7];by_cases e0:j=0
     ·subst e0;simp only[Nat.beq_refl,_root_.cond_true];exact aj
     ·rw[QY (fun e=>e0 e.symm),cond_false];by_cases e1:j=4000000
      ·subst e1;simp only[Nat.beq_refl,_root_.cond_true];exact⟨pl o,[],rfl,(fL _ _ _).2 (by simp[gw]),rfl⟩
      ·rw[QY (fun e=>e1 e.symm),cond_false];trivial
    ·simp only[JT,Q7] at h1;by_cases e0:j=0
     ·subst e0;exact RR (Q1n cO h2)
     ·rw[QY (fun e=>e0 e.symm),cond_false] at h1;by_cases e1:j=4000000
      ·subst e1;cases h1
      ·rw[QY (fun e=>e1 e.symm),cond_false] at h1;cases h1
    ·have z:∀ j,(Q7 (JT nt (.lst 0) (.lst ty k xs nl) [pl o] a8).own j).live=true→j=0:=fun j h1=>by
      simp only[JT,Q7] at h1;by_cases e0:j=0
      ·exact e0
      ·rw[QY (fun e=>e0 e.symm),cond_false] at h1;by_cases e1:j=4000000
       ·subst e1;cases h1
       ·rw[QY (fun e=>e1 e.symm),cond_false] at h1;cases h1
     exact aA ((z j h1).trans (z j' h2).symm)
   refine h.calls hm Hy ?_;refine Um aw vc 0 _ _ _ σ none _ trivial bE hg fun e s' ae σ' h1 h2=>?_
   have main:(match WG s' rs,Q7 s'.own 4000000 with
    |some r,.stk l vs=>vs=[pl o]∧N6 [(0,some 0)] [.lst 0] l∧BF [] v r∧I6 s' [(0,some 0)] 0 b'
    |_,_=>False)→QI (Jf ae σ' rs) fun v=>∃ v' aD,DropTo σ v σ' v' aD∧R v' aD:=fun h=>by
    obtain⟨B',F',pl',tb',k1,k2⟩:=h2;split at h
    ·rename_i r l cA hr eJ;obtain⟨rfl,m1,m2,m3⟩:=h;obtain⟨w,h3,h4⟩:=JV k2 hr;rw[h3];have dk:=k2.obj 4000000;rw[eJ] at dk;have iF:pl' 0=pl o:=by
      have:=Q_ [.lst 0] l [pl o] m1 dk;simp only[SRs] at this;obtain⟨u',_,bZ,h5,_⟩:=this;obtain rfl:pl o=u':=(List.cons.inj bZ).1;have:=(fL _ _ _).1 h5;simpa [Vo,Qq] using this
     obtain⟨fg,n6⟩:=Qu k2 m3;have iz:Vo pl' [(0,some 0)] 0=pl o:=by simpa [Vo,Qq] using iF
     rw[iz] at fg n6;have cP:=(W9 v r w m2 h4).retd (B':=B') (pl':=pl) (tb':=tb) (n:=0) (fun j hj=>by omega) _ _ bR.1;have hle:σc.Le σ':=k1.f.trans k2.le;have dV:B'.Le σ':=k2.leB;obtain⟨fZ,il,cj,gL,rfl⟩:=OB.isL_lst bR.2;have bm:∀ d,d≠o→(Q7 s.own d).live=true→∀ i,Oid (pl d) i→B'.get i=none∧σ'.get i=σ.get i:=fun d e hl i hi=>by
      have ai:=(hG.obj d).id_lt hl hi;have gu:oid (pl o)≠some i:=fun gu=>hG.sep d o i e hl ak hi (Mn gu);cases hg:σ.get i with
      |none =>
       have hn:=k1.d.2 i ai hg;refine⟨?_,hn⟩;cases bF:B'.get i with
       |none=>rfl
       |some bb=>have:=dV.2 _ _ bF;rw[hn] at this;cases this
      |some bb =>
       have cm:σc.get i=some bb:=by rw[Pk gu];exact hg
       refine⟨k1.x i bb cm ?_,hle.2 _ _ cm⟩;cases bF:B.get i with
       |none=>rfl
       |some b2=>have:=hG.bf.2 _ _ bF;rw[hG.fresh d i hl hi] at this;cases this
     have n7:∀ i,Oid (pl o) i→B'.get i=none:=fun i hi=>by
      obtain⟨a,_,e2,e3⟩:=n6 rfl i hi;have:=k2.fresh a i e2 e3;cases bF:B'.get i with
      |none=>rfl
      |some b2=>have h9:=k2.bf.2 _ _ bF;rw[this] at h9;cases h9
     have gx:F.Le σ':=me.trans hle;refine⟨w,σ',.refl _ _ _,hK v _ B' (B'.over F) pl tb w σ' hx (.over k1.b dV gx (fun i b e1 e2=>k1.x i b (me.2 _ _ e1) e2) k1.d) ⟨Heap.over_left,Heap.over_le dV gx,SRs.mono k1.b (fun _ _ h=>h) _ _ hG.env,fun d=>?_,fun d i q1 q2=>?_,fun d d' i aA q1 q2 q3 q4=>?_,hG.free⟩ cP⟩
     ·simp only[Qf];by_cases e:d=o
      ·subst e;rw[if_pos rfl];exact fg
      ·rw[if_neg e];exact(hG.obj d).mono k1.b (fun _ _ h=>h) fun hl i hi=>(bm d e hl i hi).2
     ·simp only[Qf] at q1;by_cases e:d=o
      ·subst e;exact Heap.over_none (n7 i q2) (hG.fresh d i ak q2)
      ·rw[if_neg e] at q1;exact Heap.over_none (bm d e q1 i q2).1 (hG.fresh d i q1 q2)
     ·have lv:∀ d,(Q7 (oset s.own o (.lst fZ il cj gL)) d).live=true→(Q7 s.own d).live=true:=fun d h=>by
       rw[Qf] at h;by_cases e:d=o
       ·subst e;exact ak
       ·rwa [if_neg e] at h
      exact hG.sep d d' i aA (lv d q1) (lv d' q2) q3 q4
    ·exact h.elim
   cases e with
   |normal=>exact main h1
   |ret=>exact main h1
   |_=>exact h1.elim
  ·exact hx.elim
 ·exact hx.elim
theorem PR {f:Nat}{vc:VCode}{rs:List VResult}{nt:Nat}(h:Fun P f vc rs nt) (hm:P.follows .mixedOrders=true) {ap:Ap}(cR:Oz P ap) {ty:Nat}{k:Kind}{D:Type}{l:AL D}{pre:List k.T→Bool→D→Prop}{res:List k.T→Bool→D→SV}{post:List k.T→Bool→D→List k.T}
  {C:Cx}(aw:COk P C) {L:List k.T→Bool→D→List Value→List (Nat×LoopAnn)}{V:List k.T→Bool→D→Prop}
  (hq:∀ xs nl d,(∀ vals,gwp C (L xs nl d vals) vc 0 (Bx vals rs (res xs nl d) (.lst ty k (post xs nl d) nl) (.lst 0)) (JT nt (.lst 0) (.lst ty k xs nl) vals (AL.can l d)))=V xs nl d)
  (hb:∀ xs nl d,pre xs nl d→V xs nl d):XOk P f (FO ap (Bp ty k l pre res post)):=by
 refine Q3j h hm fun b args c v b' hs hc=>?_;unfold Bp at hs;split at hs
 ·rename_i fZ k' xs nl;split at hs
  ·rename_i e;subst e;split at hs
   ·rename_i ys d h1 h2;obtain⟨rfl,rfl,rfl⟩:=(by simpa using hs:pre ys nl d=c∧res ys nl d=v∧OB.lst fZ k (post ys nl d) nl=b');unfold NJ at h1;split at h1
    ·rename_i e;subst e;obtain rfl:=osj h1;exact⟨C,L xs nl d,AL.can l d,AL.can_pure l d,fun σ vs hv=>AL.dec_sound cR l h2 hv,aw,(hq xs nl d).mpr (hb xs nl d hc)⟩
    ·cases h1
   ·cases hs
  ·cases hs
 ·cases hs
theorem SRs.split {B:Heap}{pl:Nat→Value}{tb:Nat→Option Bool}:∀ {a:List SV}{u v:List Value},SRs P B pl tb a (u++v)→SRs P B pl tb (a.take u.length) u∧SRs P B pl tb (a.drop u.length) v
 |a,[],v,h=>⟨by simp[SRs],by simpa using h⟩
 |[],x::u,v,h=>by simp only[SRs] at h;cases h
 |s::a,x::u,v,h=>by simp only[SRs,List.cons_append] at h;obtain⟨y,ys,e,h1,h2⟩:=h;obtain⟨rfl,rfl⟩:=List.cons.inj e;obtain⟨h3,h4⟩:=SRs.split h2;simp only[List.length_cons,List.take_succ_cons,List.drop_succ_cons,SRs];exact⟨⟨_,_,rfl,h1,h3⟩,h4⟩
theorem He {B F σ:Heap}{tb tbc:Nat→Option Bool}{env:Env}{σ0:Heap}{d nt:Nat}(cO:0<nt) (df:Nat→Value) (bs:List OB) (hF:F.Le σ)
  (aj:∀ j b,bs[j]?=some b→b.isL=true∧OR P B df tbc σ (df j) b∧∀ i,Oid (df j) i→σ0.n≤i∧F.get i=none)
  (de:∀ j j' i,j<bs.length→j'<bs.length→j≠j'→Oid (df j) i→Oid (df j') i→False) :
  ∀ (r:List OB) (j:Nat) (pl:Nat→Value) (s:St),bs.drop j=r→Gam P B F pl tb s env σ→(∀ k i,(Q7 s.own k).live=true→Oid (pl k) i→i<σ0.n∨∃ j'<j,j'<bs.length∧Oid (df j') i∧k=d+j'*nt)→(∀ j'<j,j'<bs.length→pl (d+j'*nt)=df j') →
   ∃ pl',Gam P B F pl' tb (s.makes d nt j r) env σ∧(∀ j'<bs.length,pl' (d+j'*nt)=df j')
 |[],j,pl,s,hr,hG,_,hp=>⟨pl,hG,fun j' cf=>hp j' (by
   have:=congrArg List.length hr;simp at this;omega) cf⟩
 |b::r,j,pl,s,hr,hG,hinv,hp=>by
  have ck:j<bs.length:=by
   rcases Nat.lt_or_ge j bs.length with h|h
   ·exact h
   ·rw[List.drop_eq_nil_of_le h] at hr;cases hr
  have cG:bs[j]?=some b:=by
   have:(bs.drop j)[0]?=some b:=by rw[hr];rfl
   simpa using this
  have fC:bs.drop (j+1)=r:=by
   have:(bs.drop j).drop 1=r:=by rw[hr];rfl
   simpa [List.drop_drop,Nat.add_comm] using this
  obtain⟨h1,h2,h3⟩:=aj j b cG;obtain⟨ty,k,xs,nl,rfl⟩:=OB.isL_lst h1;have aQ:∀ j' ,j'≠j→d+j'*nt≠d+j*nt:=fun j' aA e=>aA (Nat.eq_of_mul_eq_mul_right cO (by omega));refine He cO df bs hF aj de r (j+1) (JP pl (d+j*nt) (df j)) (s.make (d+j*nt) (.lst ty k xs nl)) fC (hG.make (d+j*nt) (.lst ty k xs nl) (df j) hF (fun _ _ _ _ _=>rfl) h2 fun i _ hi=>⟨(h3 i hi).2,fun k' hk hl e=>?_⟩) (fun k' i hl hi=>?_) fun j' cf lr=>?_
  ·rcases hinv k' i hl e with h|⟨j',cf,eB,he,_⟩
   ·have:=(h3 i hi).1;omega
   ·exact de j j' i ck eB (by omega) hi he
  ·by_cases hk:k'=d+j*nt
   ·subst hk;simp only[JP,if_true] at hi;exact .inr ⟨j,by omega,ck,hi,rfl⟩
   ·have bJ:(Q7 s.own k').live=true:=by
     simp only[St.make,St.kill,Qf,Kz,if_neg hk] at hl
     rwa [OB.live_kill] at hl
    simp only[JP,if_neg hk] at hi;rcases hinv k' i bJ hi with h|⟨j',cf,h5⟩
    ·exact .inl h
    ·exact .inr ⟨j',by omega,h5⟩
  ·by_cases e:j'=j
   ·subst e;simp[JP]
   ·simp only[JP,if_neg (aQ j' e)];exact hp j' (by omega) lr
theorem Q36 {f:Nat}{vc:VCode}{rs:List VResult}{nt:Nat}(h:Fun P f vc rs nt) (hm:P.follows .mixedOrders=true) {sp:CSp}{ap:Ap}
  (hb:∀ dP c v bs,sp ap dP=some (c,v,bs)→c→∃ (C:Cx) (L:List (Nat×LoopAnn)) (fv:List SV),SVs.pure fv=true∧(∀ σ vs,SRs P σ JK ZA dP vs→SRs P σ JK ZA fv vs)∧COk P C∧gwp C L vc 0 (VT rs v bs) (Qt nt fv)):XOk P f (callV ap sp):=by
 intro B F pl tb s env σ d args vals K R hG ha hx hK;unfold callV at hx;have tY:Gam P B F pl tb ⟨s.env++args,s.own,s.nx⟩ (env++vals) σ:=⟨hG.bf,hG.le,hG.env.append ha,hG.obj,hG.fresh,hG.sep,hG.free⟩;obtain⟨B1,F1,oL,qk,tZ,gd⟩:GRel P B F σ ((⟨s.env++args,s.own,s.nx⟩:St).frzs (M1 args)) (env++vals) σ:=GRel.frzs _ ⟨B,F,pl,tb,.of hG.bf (.refl _),tY⟩;generalize ((⟨s.env++args,s.own,s.nx⟩:St).frzs (M1 args))=s1 at hx gd;dsimp only at hx;have hlen:s.env.length=env.length:=hG.env.length;obtain⟨iK,gG⟩:=SRs.split gd.env;rw[hlen] at hx;have fM:Gam P B1 F1 oL qk ⟨s1.env.take env.length,s1.own,s1.nx⟩ env σ:=⟨gd.bf,gd.le,iK,gd.obj,gd.fresh,gd.sep,gd.free⟩;generalize s1.env.drop env.length=a1 at hx gG;generalize (⟨s1.env.take env.length,s1.own,s1.nx⟩:St)=s2 at hx fM;cases nZ:SVs.pure a1 with
 |false=>rw[nZ] at hx;exact hx.elim
 |true =>
 rw[nZ] at hx;simp only[_root_.cond_true] at hx;split at hx
 ·rename_i c v bs eu;cases bR:(v.ret bs.length&&bs.all OB.isL) with
  |false=>rw[bR] at hx;exact hx.elim
  |true =>
  rw[bR] at hx;obtain⟨hc,hx⟩:=hx;simp only[Bool.and_eq_true] at bR;obtain⟨hv,gB⟩:=bR;obtain⟨C,L,fv,cU,qh,iC,hg⟩:=hb _ c v bs eu hc;have av:=qh B1 vals (QA _ _ nZ gG);have bE:GRel P B1 σ σ (Qt nt fv) (vals++List.replicate (nt-vals.length) undef) σ:=by
   refine⟨B1,σ,JK,ZA,⟨.refl _,.refl _,fun _ _ _ h=>h,.refl _⟩,fM.leB,.refl _,?_,fun k=>?_,fun k i' h1 h2=>?_,fun k k' i' nY h1 h2 h3 h4=>?_,fun _ _=>rfl⟩
   ·simp only[Qt];rw[av.length];exact SRs.append (QA _ _ cU av) (Br _)
   ·simp only[Qt,Q7];trivial
   ·simp only[Qt,Q7] at h1;cases h1
   ·simp only[Qt,Q7] at h1;cases h1
  refine h.calls hm Hy ?_;refine Um iC vc 0 _ _ _ σ none _ trivial bE hg fun e s' ae σ' h1 h2=>?_
  have main:(match WG s' rs with
   |some r=>(match Ix v r [] with
    |some mp=>BF mp v r∧IM s' mp 0 bs
    |none=>False)
   |none=>False)→QI (Jf ae σ' rs) fun v=>∃ v' aD,DropTo σ v σ' v' aD∧R v' aD:=fun h=>by
   obtain⟨B',F',pl',tb',k1,k2⟩:=h2;split at h
   ·rename_i r hr;split at h
    ·rename_i mp iz;obtain⟨g1,g2⟩:=h;obtain⟨u,h3,h4⟩:=JV k2 hr;have gN:=W9 v r u g1 h4;have dJ:=Li v r [] mp iz (fun t t' a h=>by cases h);have aj:∀ j b,bs[j]?=some b→I6 s' mp j b:=fun j b hj=>by have:=PW bs 0 g2 j b hj;rwa [Nat.zero_add] at this
     rw[h3];have hle:σ.Le σ':=k1.f.trans k2.le;have dV:B'.Le σ':=k2.leB;have aO:∀ j b,bs[j]?=some b→b.isL=true∧OR P B' (Vo pl' mp) ZA σ' (Vo pl' mp j) b∧∀ i,Oid (Vo pl' mp j) i→σ.n≤i∧(B'.over F1).get i=none:=fun j b hj=>by
      obtain⟨m1,m2⟩:=Qu k2 (aj j b hj);have hl:=List.all_eq_true.1 gB b (List.mem_of_getElem? hj);obtain⟨ty,k,xs,nl,rfl⟩:=OB.isL_lst hl;refine⟨hl,m1,fun i hi=>?_⟩;obtain⟨a,_,e2,e3⟩:=m2 rfl i hi;have oK:=k2.fresh a i e2 e3;have n8:σ.get i=none:=by
       cases hg:σ.get i with
       |none=>rfl
       |some b=>have h9:=k1.f.2 _ _ hg;rw[oK] at h9;cases h9
      have ka:B'.get i=none:=by
       cases hg:B'.get i with
       |none=>rfl
       |some b=>have h9:=k2.bf.2 _ _ hg;rw[oK] at h9;cases h9
      have ql:F1.get i=none:=by
       cases hg:F1.get i with
       |none=>rfl
       |some b=>have h9:=fM.le.2 _ _ hg;rw[n8] at h9;cases h9
      refine⟨Nat.le_of_not_lt fun ai=>?_,Heap.over_none ka ql⟩;have bp:=k1.d.2 i ai n8;rcases m1 with⟨_,_,h2⟩|⟨_,i',cap,c,t,h2,_,h3,_⟩
      ·rw[h2] at hi;cases hi
      ·rw[h2] at hi;obtain rfl:=osj hi;rw[h3] at bp;cases bp
     have de:∀ j j' i,j<bs.length→j'<bs.length→j≠j'→Oid (Vo pl' mp j) i→Oid (Vo pl' mp j') i→False:=fun j j' i hj cf aA hi bV=>by
      have bg:=List.getElem?_eq_getElem hj;have bY:=List.getElem?_eq_getElem cf;have r1:=List.all_eq_true.1 gB _ (List.getElem_mem hj);have r2:=List.all_eq_true.1 gB _ (List.getElem_mem cf);have l1:(bs[j]).live=true:=by cases i_:bs[j]<;>first|rfl|(rw[i_] at r1;cases r1)
      have l2:(bs[j']).live=true:=by cases i_:bs[j']<;>first|rfl|(rw[i_] at r2;cases r2)
      obtain⟨a,e1,e2,e3⟩:=(Qu k2 (aj j _ bg)).2 l1 i hi;obtain⟨a',qc,jY,qd⟩:=(Qu k2 (aj j' _ bY)).2 l2 i bV;by_cases e:a=a'
      ·subst e;exact aA (dJ j j' a e1 qc)
      ·exact k2.sep a a' i e e2 jY e3 qd
     have gx:F1.Le σ':=fM.le.trans hle;have bm:∀ d,(Q7 s2.own d).live=true→∀ i,Oid (oL d) i→B'.get i=none∧σ'.get i=σ.get i:=fun d hl i hi=>by
      refine⟨?_,fM.heap_get hle hl hi⟩;have ai:=(fM.obj d).id_lt hl hi;cases hg:σ.get i with
      |none =>
       have hn:=k1.d.2 i ai hg;cases bF:B'.get i with
       |none=>rfl
       |some bb=>have:=dV.2 _ _ bF;rw[hn] at this;cases this
      |some bb =>
       refine k1.x i bb hg ?_;cases bF:B1.get i with
       |none=>rfl
       |some b2=>have:=fM.bf.2 _ _ bF;rw[fM.fresh d i hl hi] at this;cases this
     have t_:Gam P B' (B'.over F1) oL qk s2 env σ':=⟨Heap.over_left,Heap.over_le dV gx,SRs.mono k1.b (fun _ _ h=>h) _ _ fM.env,fun d=>(fM.obj d).mono k1.b (fun _ _ h=>h) fun hl i hi=>(bm d hl i hi).2,fun d i q1 q2=>Heap.over_none (bm d q1 i q2).1 (fM.fresh d i q1 q2),fM.sep,fM.free⟩;obtain⟨ua,h5,h6⟩:=He (d:=d) (nt:=500000) (σ0:=σ) (tbc:=ZA) (by omega) (Vo pl' mp) bs (Heap.over_le dV gx) aO de bs 0 oL s2 rfl t_ (fun k i hl hi=>.inl ((fM.obj k).id_lt hl hi)) (fun j' cf=>by omega);refine⟨u,σ',.refl _ _ _,hK _ _ B' (B'.over F1) ua qk u σ' hx (tZ.trans (.over k1.b dV gx (fun i b e1 e2=>k1.x i b (fM.le.2 _ _ e1) e2) k1.d)) h5 ?_⟩;exact SR.ren (tb:=ZA) (fun j hj=>h6 j hj) _ _ hv gN
    ·exact h.elim
   ·exact h.elim
  cases e with
  |normal=>exact main h1
  |ret=>exact main h1
  |_=>exact h1.elim
 ·exact hx.elim
theorem SO {f:Nat}{vc:VCode}{rs:List VResult}{nt:Nat}(h:Fun P f vc rs nt) (hm:P.follows .mixedOrders=true) {ap:Ap}(cR:Oz P ap) {D:Type}{la:AL D}{pre:D→Prop}{res:D→SV}{obs:D→List OB}
  {C:Cx}(aw:COk P C) {L:D→List (Nat×LoopAnn)}{V:D→Prop}
  (hq:∀ y,gwp C (L y) vc 0 (VT rs (res y) (obs y)) (Qt nt (AL.can la y))=V y)
  (hb:∀ y,pre y→V y):XOk P f (callV ap (YO la pre res obs)):=Q36 h hm fun dP c v bs hs hc=>by
 unfold YO at hs;split at hs
 ·rename_i y h2;obtain⟨rfl,rfl,rfl⟩:=(by simpa using hs:pre y=c∧res y=v∧obs y=bs);exact⟨C,L y,AL.can la y,AL.can_pure la y,fun σ vs hv=>AL.dec_sound cR la h2 hv,aw,(hq y).mpr (hb y hc)⟩
 ·cases hs
end
end Go.V
namespace Go.V
open Go
theorem PK (x:Nat):BitVec.ofInt 64 (x:Int)=BitVec.ofNat 64 x:=by apply BitVec.eq_of_toNat_eq;simp
theorem toNat_ofInt {x:Nat}(h:x<9223372036854775808):(BitVec.ofInt 64 (x:Int)).toNat=x:=by rw[PK,BitVec.toNat_ofNat,Nat.mod_eq_of_lt (by omega)]
end Go.V
set_option linter.unusedVariables false
namespace Go.Proofs.Tryz
open Go Go.V Go.Proofs
def inI (n a b:Int):Bool:=decide (a≤n)&&decide (n≤b)
def Q25 (l:List Int) (p:Int→Bool):Int:=match l.findIdx? p with|some i=>(i:Int)|none=>-1
def Q0g {α:Type}(l:List α) (p:α→Bool):Int:=match l.findIdx? p with|some i=>(i:Int)|none=>-1
theorem ID {α:Type}{l:List α}{p:α→Bool}{k:Nat}(hk:k<l.length) (h:p l[k]=true) (hJ:(l.take k).any p=false):Q0g l p=k:=by
 have:l.findIdx? p=some k:=by rw[List.findIdx?_eq_some_iff_getElem];refine⟨hk,h,fun j hj=>?_⟩;have hn:=List.any_eq_false.1 hJ l[j] (List.mem_take_iff_getElem.2 ⟨j,by omega,rfl⟩);simpa using hn
 simp[Q0g,this]
theorem Ab {α:Type}{l:List α}{p:α→Bool}(hJ:l.any p=false):Q0g l p=-1:=by
 have:l.findIdx? p=none:=by rw[List.findIdx?_eq_none_iff];intro x hx;have:=List.any_eq_false.1 hJ x hx;simpa using this
 simp[Q0g,this]
theorem Q2t {α:Type}(l:List α) (p:α→Bool):(decide (Q0g l p≥0))=l.any p:=by
 cases h:l.any p with
 |false=>rw[Ab h];rfl
 |true =>
  have:(l.findIdx? p).isSome=true:=by rw[List.findIdx?_isSome,h]
  obtain⟨i,hi⟩:=Option.isSome_iff_exists.1 this;have e:Q0g l p=(i:Int):=by simp[Q0g,hi]
  rw[e];exact decide_eq_true (Int.natCast_nonneg i)
abbrev Sp:=Int×Int
theorem nI (n a b:Int):(!inI n a b)=(decide (n<a)||decide (b<n)):=by simp only[inI,Bool.not_and];by_cases h1:a≤n<;>by_cases h2:n≤b<;>simp[h1,h2]<;>omega
theorem NV (a b:Int):HY a b=max a b:=by unfold HY;split<;>omega
theorem SU (a b:Int):TJ a b=min a b:=by unfold TJ;split<;>omega
def Sub (a b:Sp):Prop:=b.1≤a.1∧a.2≤b.2
def Ne (a:Sp):Prop:=a.1≤a.2
theorem F3 {α β:Type}{f:α→Option β}:∀ {L:List α}{ys:List β},L.mapM f=some ys→ys.length=L.length∧∀ (i:Nat) (h:i<L.length) (h2:i<ys.length),f L[i]=some ys[i]
 |[],ys,h=>by simp at h;subst h;simp
 |a::L,ys,h=>by
  simp only[List.mapM_cons,Option.bind_eq_bind,Option.bind_eq_some_iff,Option.pure_def,Option.some.injEq] at h;obtain⟨y,hy,zs,hz,rfl⟩:=h;obtain⟨e1,e2⟩:=F3 hz;refine⟨by simp[e1],fun i h1 h2=>?_⟩;cases i with
  |zero=>exact hy
  |succ i=>exact e2 i (by simpa using h1) (by simpa using h2)
theorem Q2n {H:Type}{enc:TypeId×Value→H}{P:Program}{w:World}{base:Nat}{sp:Nat→Bool}{held:Bool}{fuel:Nat}{t:TypeId}{k:IntKind}{c:Value}{y:DataW H×List MemPlace}
  (ht:P.underlying t=some (.int k)) (h:DataW.trod enc P w base sp held fuel t [c]=some y):∃ n,c=.int k n∧y=(.lit (.int k n),[]):=by
 cases fuel with
 |zero=>simp[DataW.trod] at h
 |succ fuel =>cases c<;>simp[DataW.trod,ht] at h;rename_i k' n;obtain⟨⟨rfl,_⟩,rfl⟩:=h;exact⟨n,rfl,rfl⟩
theorem Q2j {H:Type}{enc:TypeId×Value→H}{P:Program}{w:World}{base:Nat}{sp:Nat→Bool}{held:Bool}{fuel:Nat}{t e:TypeId}{k:IntKind}{n:Nat}{l:List Value}{xs:List Int}{p:List MemPlace}
  (ht:P.underlying t=some (.array n e)) (he:P.underlying e=some (.int k)) (h1:P.cellsOf e=1) (hc:P.cellsOf t=n) (h:DataW.trod enc P w base sp held fuel t l=some (.agg (xs.map fun x=>.lit (.int k x)),p)):l=xs.map fun x=>.int k x:=by
 cases fuel with
 |zero=>simp[DataW.trod] at h
 |succ fuel =>
  simp only[DataW.trod,ht,h1,hc,Nat.mul_one] at h;split at h
  ·rename_i hl;simp only[Option.map_eq_some_iff,Prod.mk.injEq,DataW.agg.injEq] at h;obtain⟨ys,hm,hx,_⟩:=h;obtain⟨e1,e2⟩:=F3 hm;rw[List.length_range] at e1;have hlen:xs.length=ys.length:=by
    have:=congrArg List.length hx;simpa using this.symm
   refine List.ext_getElem (by rw[List.length_map];omega) fun i k1 k2=>?_;have hy:=e2 i (by rw[List.length_range];omega) (by omega);rw[List.getElem_range,List.drop_eq_getElem_cons k1] at hy;simp only[List.take_succ_cons,List.take_zero] at hy;obtain⟨m,jk,gK⟩:=Q2n he hy;rw[jk,List.getElem_map];have qm:(ys.map (·.1))[i]'(by rw[List.length_map];omega)=(xs.map fun x=>(DataW.lit (Lit.int k x):DataW H))[i]'(by rw[List.length_map];omega):=by
    simp only[hx]
   rw[List.getElem_map,List.getElem_map,gK] at qm;simp only[DataW.lit.injEq,Lit.int.injEq,true_and] at qm;rw[qm]
  ·cases h
theorem tab_heap {P:Program}{nm:String}{g G:Nat}{t e:TypeId}{k:IntKind}{n fuel:Nat}{cs:Array Value}{xs:List Int}{p:List MemPlace}{W:World}(hv:W.var? P nm=some cs) (hG:P.globalNamed nm=some G) (hg:P.globalNamed nm=some g) {T:TypeId}(hT:(P.globals[G]?).map (·.type)=some T) (mA:(P.globals[g]?).map (·.type)=some t)
  (ht:P.underlying T=some (.array n e)) (he:P.underlying e=some (.int k)) (h1:P.cellsOf e=1) (hc:P.cellsOf T=n) (hd:DataW.trod (fun _=>()) P W 0 (fun _=>true) false fuel t cs.toList=some (.agg (xs.map fun x=>.lit (.int k x)),p)):∃ e f,W.heap[G]?=some (.cells (xs.map fun x=>Value.int k x).toArray e f):=by
 obtain rfl:=osj (hG.symm.trans hg);obtain rfl:=osj (hT.symm.trans mA);have hl:=Q2j ht he h1 hc hd;unfold World.var? at hv;rw[hG] at hv;simp only[Option.bind_some] at hv;split at hv
 ·rename_i cs' a b hh;obtain rfl:=osj hv;refine⟨a,b,?_⟩;rw[hh,←hl]
 ·cases hv
end Go.Proofs.Tryz
set_option linter.unusedVariables false
namespace Go.Proofs.Tryz
open Go Go.V Go.Proofs
def UG:AL (Int×Int×Int):=(.cons (.k (.i .i64)) (.cons (.ptr (.one (.k (.i .i64)))) (.one (.ptr (.one (.k (.i .i64)))))))
def Dh (d:Int×Int×Int):Prop:=True
def VA (d:Int×Int×Int):SV:=.val .bo (decide (d.1<d.2.1)||decide (d.2.2<d.1))
def VJ (d:Int×Int×Int):List OB:=[]
def Y_:CSp:=YO UG Dh VA VJ
def Ya (n:Int) (a:Int) (b:Int):Prop :=
 (((decide (n<a))||(decide (n > b)))=(decide (n<a)||decide (b<n))∧(True))
def UC:Cx:=⟨[],[],13,[],0,[],[],[],[],false,[],[],[],[]⟩
def Bt (n:Int) (a:Int) (b:Int):List (Nat×LoopAnn):=[]
set_option maxRecDepth 100000 in
theorem BA (d:Int×Int×Int):gwp (UC) (Bt d.1 d.2.1 d.2.2) c88 0 (VT [.tmp 4] (VA d) (VJ d)) (Qt 13 (AL.can UG d))=Ya d.1 d.2.1 d.2.2:=by kernel_rfl
abbrev BV:Prop:=OkC Tryz.prog 88 Y_
theorem Bv (h:∀ (n:Int) (a:Int) (b:Int),(True)→Ya n a b):OkC Tryz.prog 88 Y_ :=
 Z7 Q73 mixed (C:=UC) (V:=fun (d:Int×Int×Int)=>Ya d.1 d.2.1 d.2.2) ⟨.nil,XsOk.nil,ItsOk.nil,YlOk.nil,IysOk.nil,XfOk.nil⟩ (BA) fun d hp=>h d.1 d.2.1 d.2.2 hp
theorem Bu:BV:=Bv fun n a b _=>by exact⟨rfl,trivial⟩
def Xd:AL (List Int×((Int→Prop)×(Int→Bool))):=(.cons (.k (.list (.i .i64))) (.one (.fn [(.i .i64)] .bo)))
def Kh (d:List Int×((Int→Prop)×(Int→Bool))):Prop:=d.1.length≤1000000∧∀ x∈d.1,d.2.1 x
def X6 (d:List Int×((Int→Prop)×(Int→Bool))):SV:=.val (.i .i64) (Q25 d.1 d.2.2)
def X2 (d:List Int×((Int→Prop)×(Int→Bool))):List OB:=[]
def ZL:CSp:=YO Xd Kh X6 X2
def QS (l:List Int) (p:(Int→Prop)×(Int→Bool)):Prop :=
 ∃ (e2:Unit) (d20:Int),((l=l∧(SV.pf [(.i .i64)] .bo p.1 p.2=SV.pf [(.i .i64)] .bo p.1 p.2)∧(lI l)=(lI l)∧(0:Int)=d20∧True)∧(True)) ∧
 LoopP (fun (d2:Int) (q2:(Int)→Prop) =>
  ((decide (d2<(lI l)))=true →
   (0≤d2)∧(d2<(List.length l))∧(p.1 (gD l d2 0))∧((p.2 (gD l d2 0))=true →
    (d2=(Q25 l p.2)∧(True))) ∧
   ((p.2 (gD l d2 0))=false →
    (I64 (d2+(1:Int)))∧(∃ d3:Int,((l=l∧(SV.pf [(.i .i64)] .bo p.1 p.2=SV.pf [(.i .i64)] .bo p.1 p.2)∧(lI l)=(lI l)∧(d2+(1:Int))=d3∧True)∧(True))∧q2 d3))) ∧
  ((decide (d2<(lI l)))=false →
   ((-1:Int)=(Q25 l p.2)∧(True)))) d20
def Xo:Cx:=⟨[],[],19,[],0,[],[],[],[],false,[],[],[],[]⟩
def K_ (l:List Int) (p:(Int→Prop)×(Int→Bool)):List (Nat×LoopAnn):=[(0,⟨Unit,Int,[0,1,7,8],fun e x=>[.val (.list (.i .i64)) l,.pf [(.i .i64)] .bo p.1 p.2,.val (.i .i64) (((List.length l):Nat):Int),.val (.i .i64) x],fun e x=>[]⟩)]
set_option maxRecDepth 100000 in
theorem Vj (d:List Int×((Int→Prop)×(Int→Bool))):gwp (Xo) (K_ d.1 d.2) Z2l 0 (VT [.tmp 4] (X6 d) (X2 d)) (Qt 19 (AL.can Xd d))=QS d.1 d.2:=by kernel_rfl
abbrev KH:Prop:=OkC Tryz.prog 103 ZL
theorem KQ (h:∀ (l:List Int) (p:(Int→Prop)×(Int→Bool)),(l.length≤1000000∧∀ x∈l,p.1 x)→QS l p):OkC Tryz.prog 103 ZL :=
 Z7 Q0d mixed (C:=Xo) (V:=fun (d:List Int×((Int→Prop)×(Int→Bool)))=>QS d.1 d.2) ⟨.nil,XsOk.nil,ItsOk.nil,YlOk.nil,IysOk.nil,XfOk.nil⟩ (Vj) fun d hp=>h d.1 d.2 hp
theorem IE {l:List Int}{p:Int→Bool}{k:Nat}(hk:k<l.length) (h:p l[k]=true) (hJ:(l.take k).any p=false):Q25 l p=k:=by
 have:l.findIdx? p=some k:=by rw[List.findIdx?_eq_some_iff_getElem];refine⟨hk,h,fun j hj=>?_⟩;have hn:=List.any_eq_false.1 hJ l[j] (List.mem_take_iff_getElem.2 ⟨j,by omega,rfl⟩);simpa using hn
 simp[Q25,this]
theorem OI {l:List Int}{p:Int→Bool}(hJ:l.any p=false):Q25 l p=-1:=by
 have:l.findIdx? p=none:=by rw[List.findIdx?_eq_none_iff];intro x hx;have:=List.any_eq_false.1 hJ x hx;simpa using this
 simp[Q25,this]
theorem Ax (l:List Int) (p:Int→Bool):decide (Q25 l p≥0)=l.any p:=by
 unfold Q25;cases h:l.findIdx? p with
 |none =>
  have:=List.findIdx?_eq_none_iff.1 h;have:l.any p=false:=by rw[List.any_eq_false];intro x hx;simp[this x hx]
  rw[this];rfl
 |some i =>obtain⟨h1,h2,_⟩:=List.findIdx?_eq_some_iff_getElem.1 h;rw[List.any_eq_true.2 ⟨l[i],List.getElem_mem h1,h2⟩];simp
theorem V3:KH:=KQ fun l p hp=>by
 unfold QS;(try delta lI gD sT I64);simp only[true_and,and_true,exists_eq_left',exists_const,decide_eq_true_eq,decide_eq_false_iff_not];refine LoopP.count l.length (fun k=>(l.take k).any p.2=false) (by simp) fun k bc hJ q hq=>?_;simp only[Int.toNat_natCast,Int.ofNat_lt,Z3];refine⟨fun ai=>?_,fun bt=>?_⟩
 ·rw[Qa ai];refine⟨by omega,ai,hp.2 _ (List.getElem_mem ai),fun hx=>?_,fun hx=>⟨by omega,hq ai ?_⟩⟩
  ·rw[IE ai hx hJ]
  ·rw[ZV ai,List.any_append,hJ];simp[hx]
 ·rw[List.take_of_length_le (by omega)] at hJ;rw[OI hJ]
def JD:AL (List Int×((Int→Prop)×(Int→Bool))):=(.cons (.k (.list (.i .i64))) (.one (.fn [(.i .i64)] .bo)))
def Yb (d:List Int×((Int→Prop)×(Int→Bool))):Prop:=d.1.length≤1000000∧∀ x∈d.1,d.2.1 x
def Jv (d:List Int×((Int→Prop)×(Int→Bool))):SV:=.val .bo (d.1.any d.2.2)
def Ju (d:List Int×((Int→Prop)×(Int→Bool))):List OB:=[]
def Zf:CSp:=YO JD Yb Jv Ju
def Z6 (l:List Int) (p:(Int→Prop)×(Int→Bool)):Prop :=
 (l.length≤1000000∧∀ x∈l,(fun (x1:Int)=>p.1 x1) x)∧((decide ((Q25 l (fun (x1:Int)=>(p.2 x1)))≥(0:Int)))=(l.any p.2)∧(True))
def JC:Cx:=⟨[],[(103,ZL)],9,[],0,[],[],[],[],false,[],[],[],[]⟩
def Yw (l:List Int) (p:(Int→Prop)×(Int→Bool)):List (Nat×LoopAnn):=[]
set_option maxRecDepth 100000 in
theorem Yu (d:List Int×((Int→Prop)×(Int→Bool))):gwp (JC) (Yw d.1 d.2) c87 0 (VT [.tmp 4] (Jv d) (Ju d)) (Qt 9 (AL.can JD d))=Z6 d.1 d.2:=by kernel_rfl
abbrev YJ:Prop:=OkC Tryz.prog 87 Zf
theorem YH (h:∀ (l:List Int) (p:(Int→Prop)×(Int→Bool)),(l.length≤1000000∧∀ x∈l,p.1 x)→Z6 l p):OkC Tryz.prog 87 Zf :=
 Z7 Q75 mixed (C:=JC) (V:=fun (d:List Int×((Int→Prop)×(Int→Bool)))=>Z6 d.1 d.2) ⟨(.cons V3 .nil),XsOk.nil,ItsOk.nil,YlOk.nil,IysOk.nil,XfOk.nil⟩ (Yu) fun d hp=>h d.1 d.2 hp
theorem YG:YJ:=YH fun l p hp=>by exact⟨hp,Ax l p.2,trivial⟩
def Mg:AL (Int×Int×List Int):=(.cons (.k (.i .i64)) (.cons (.k (.i .i64)) (.one (.k (.list (.i .i64))))))
def HR (d:Int×Int×List Int):Prop:=d.2.2.length≤1000000
def Nr (d:Int×Int×List Int):SV:=.val .bo (!(d.2.2.any fun n=>decide (n<d.1)||decide (d.2.1<n)))
def No (d:Int×Int×List Int):List OB:=[]
def Zn:CSp:=YO Mg HR Nr No
def KW (a:Int) (b:Int) (l:List Int):Prop :=
 (l.length≤1000000∧∀ x∈l,(fun (x1:Int)=>True) x)∧((!(l.any (fun (x1:Int)=>(decide (x1<a)||decide (b<x1)))))=(!(l.any fun n=>decide (n<a)||decide (b<n)))∧(True))
def Mx:Cx:=⟨[],[(87,Zf),(88,Y_)],11,[],0,[],[],[],[],false,[],[],[],[]⟩
def P5 (a:Int) (b:Int) (l:List Int):List (Nat×LoopAnn):=[]
set_option maxRecDepth 100000 in
theorem TD (d:Int×Int×List Int):gwp (Mx) (P5 d.1 d.2.1 d.2.2) c61 0 (VT [.tmp 6] (Nr d) (No d)) (Qt 11 (AL.can Mg d))=KW d.1 d.2.1 d.2.2:=by kernel_rfl
abbrev PO:Prop:=OkC Tryz.prog 61 Zn
theorem Pg (h:∀ (a:Int) (b:Int) (l:List Int),(l.length≤1000000)→KW a b l):OkC Tryz.prog 61 Zn :=
 Z7 Q86 mixed (C:=Mx) (V:=fun (d:Int×Int×List Int)=>KW d.1 d.2.1 d.2.2) ⟨(.cons YG (.cons Bu .nil)),XsOk.nil,ItsOk.nil,YlOk.nil,IysOk.nil,XfOk.nil⟩ (TD) fun d hp=>h d.1 d.2.1 d.2.2 hp
theorem Jl:PO:=Pg fun a b l h=>by exact⟨⟨h,fun _ _=>trivial⟩,rfl,trivial⟩
end Go.Proofs.Tryz
set_option linter.unusedVariables false
namespace Go.Proofs.Tryz
open Go Go.V Go.Proofs
def Bh:AL (Int×Int):=(.cons (.k (.i .i64)) (.one (.k (.i .i64))))
def TT (d:Int×Int):Prop:=True
def Gr (d:Int×Int):SV:=.agg [.val (.i .i64) d.1,.val (.i .i64) d.2]
def Gn (d:Int×Int):List OB:=[]
def NX:CSp:=YO Bh TT Gr Gn
def UM (a:Int) (b:Int):Prop :=
 ((a=a∧b=b∧(([]:List SV)=[]))∧(True))
def Bn:Cx:=⟨[],[],8,[],0,[],[],[],[],false,[],[],[],[]⟩
def SB (a:Int) (b:Int):List (Nat×LoopAnn):=[]
set_option maxRecDepth 100000 in
theorem Ld (d:Int×Int):gwp (Bn) (SB d.1 d.2) c48 0 (VT [.cell 4 true 2] (Gr d) (Gn d)) (Qt 8 (AL.can Bh d))=UM d.1 d.2:=by kernel_rfl
abbrev SW:Prop:=OkC Tryz.prog 48 NX
theorem Ll (h:∀ (a:Int) (b:Int),(True)→UM a b):OkC Tryz.prog 48 NX :=
 Z7 Q7v mixed (C:=Bn) (V:=fun (d:Int×Int)=>UM d.1 d.2) ⟨.nil,XsOk.nil,ItsOk.nil,YlOk.nil,IysOk.nil,XfOk.nil⟩ (Ld) fun d hp=>h d.1 d.2 hp
theorem Sj:SW:=Ll fun a b _=>(by and_intros<;>first|rfl|trivial|simp)
end Go.Proofs.Tryz
namespace Go.V
open Go
theorem Q32 {P:Program}{σ:Heap}:Ret P σ (.val .bo true) [] (.bool true) σ :=
 ⟨⟨.refl _,Dead.refl _⟩,fun _=>rfl,JK,fun j b hj=>by simp at hj,fun j j' i hj=>by simp at hj,by simp[SR,KC]⟩
theorem Q2y {P:Program}{f:Nat}(h:∀ (σ:Heap) (K:Value→Heap→Prop),K (.bool true) σ→VCalled P f [] σ K):OkC P f (YO (.nil:AL Unit) (fun _=>True) (fun _=>.val .bo true) (fun _=>[])):=by
 intro ap cR σ args vs c v bs av hs hv b6 hc;unfold YO at hs;split at hs
 ·rename_i d hd;obtain⟨rfl,rfl,rfl⟩:=(by simpa using hs:True=c∧SV.val .bo true=v∧[]=bs);have:vs=[]:=by
   cases args with
   |nil=>simpa [SRs] using av
   |cons a l=>simp[AL.dec] at hd
  subst this;refine⟨h σ _ Q32,fun _ _=>h σ _ ⟨rfl,?_⟩⟩;unfold PL;cases σ;simp only[List.length_nil,Nat.add_zero,List.getElem?_nil,Option.bind_none,Heap.mk.injEq,and_true];funext i;split
  ·rfl
  ·rename_i wf hi;exact wf i (by simpa using hi)
 ·cases hs
end Go.V
namespace Go.V
open Go Go.ChangeShapes Go.WideShapes Go.RowKit Go.Deep Go.Joins
def Heap.RO (σ:Heap):Prop:=∀ i b,σ.get i=some b→b.wr=false
structure View (w:World) (ρ:Plc) (σ:Heap):Prop where
 rel:HRel ρ σ w
 ro:σ.RO
structure More (ρ:Plc) (σ:Heap) (ρ':Plc) (σ':Heap):Prop where
 n:σ.n≤σ'.n
 pl:∀ i,i<σ.n→∀ p,ρ' i=some p→ρ i=some p
 ag:Agree σ σ'
theorem More.refl (ρ:Plc) (σ:Heap):More ρ σ ρ σ:=⟨Nat.le_refl _,fun _ _ _ h=>h,Agree.refl _⟩
theorem More.trans {ρ ρ' ez:Plc}{σ σ' aD:Heap}(h:More ρ σ ρ' σ') (k:More ρ' σ' ez aD):More ρ σ ez aD :=
 ⟨Nat.le_trans h.n k.n,fun i hi p hp=>h.pl i hi p (k.pl i (Nat.lt_of_lt_of_le hi h.n) p hp),h.ag.trans k.ag h.n⟩
def Z3t (w:World):Prop:=∀ g cs,Q26 g=some cs→∃ e f,w.heap[g]?=some (.cells cs.toArray e f)
theorem View.emptyT (w:World) (ht:Z3t w):View w (fun _=>none) Heap.empty where
 rel:=⟨⟨fun i b h=>(by cases h),fun _ _=>rfl,fun i p h=>(by cases h),fun i j p q b _ h=>(by cases h)⟩,fun g cs hg=>⟨ht g cs hg,fun ⟨_,_,_,h,_⟩=>by cases h⟩⟩
 ro:=fun i b h=>by cases h
theorem View.add {w:World}{ρ:Plc}{σ:Heap}(h:View w ρ σ) (p:Pl) (c:List Value) {C:Array Value}{e:TypeId}{f:Nat×Nat}(hb:w.heap[p.blk]?=some (.cells C e f)) (hs:p.shift+p.ext≤C.size) (hl:c.length≤p.ext) (ht:e=p.esz.ty)
  (hc:∀ (k:Nat) (v:Value),c[k]?=some v→∃ u,w.cell? ⟨p.blk,p.shift+k,none⟩=some u∧VRel ρ σ.n v u) :
  View w (ρ.put σ.n (some p)) (σ.push (.cells c p.esz false p.tight))∧More ρ σ (ρ.put σ.n (some p)) (σ.push (.cells c p.esz false p.tight)):=by
 have aO:∀ i,i<σ.n→∀ q,(ρ.put σ.n (some p)) i=some q→ρ i=some q:=fun i hi q hq=>by unfold Plc.put at hq;rwa [if_neg (by omega)] at hq
 have bN:(σ.push (.cells c p.esz false p.tight)).RO:=fun i b hi=>by
  by_cases e:i=σ.n
  ·subst e;rw[Heap.get_push_self] at hi;obtain rfl:=osj hi;rfl
  ·rw[Heap.get_push_ne _ _ e] at hi;exact h.ro i b hi
 refine⟨⟨⟨⟨?_,?_,?_,?_⟩,fun g cs hg=>⟨(h.rel.tab g cs hg).1,fun ⟨i,_,b,_,hi,hw,_⟩=>by rw[bN i b hi] at hw;cases hw⟩⟩,bN⟩,⟨by simp,aO,fun i hi=>Heap.get_push_lt _ _ hi⟩⟩
 ·intro i b hi;by_cases aH:i=σ.n
  ·subst aH;rw[Heap.get_push_self] at hi;obtain rfl:=osj hi;refine⟨p,by simp[Plc.put],rfl,rfl,hl,⟨C,e,f,hb,hs,ht⟩,fun k v hk=>?_,fun h=>by cases h⟩;obtain⟨u,hu,hv⟩:=hc k v hk;exact⟨u,hu,hv.mono (by simp) aO⟩
  ·rw[Heap.get_push_ne _ _ aH] at hi;obtain⟨q,hq,hB⟩:=h.rel.live i b hi;exact⟨q,by simp[Plc.put,aH,hq],hB.mono (by simp) aO rfl⟩
 ·intro i hi;by_cases aH:i=σ.n
  ·subst aH;rw[Heap.get_push_self] at hi;cases hi
  ·rw[Heap.get_push_ne _ _ aH] at hi;simp[Plc.put,aH,h.rel.dead i hi]
 ·intro i q hq;by_cases aH:i=σ.n
  ·subst aH;simp[Plc.put] at hq;subst hq;exact(Array.getElem?_eq_some_iff.1 hb).1
  ·simp[Plc.put,aH] at hq;exact h.rel.lt i q hq
 ·intro i j q r b _ _ _ bF hw _;rw[bN i b bF] at hw;cases hw
theorem Q1p {P:Program}{fits:TypeId→Bool}{d:Nat}{e:TypeId}{count off n:Nat}(h:rowAt P fits d e count off n=true):off≤count*P.cellsOf e:=by
 cases d with
 |zero=>cases h
 |succ d =>
  unfold rowAt at h;by_cases hs:P.cellsOf e=0
  ·simp[hs] at h
  ·have cr:0<P.cellsOf e:=Nat.pos_of_ne_zero hs;simp only[hs,if_false,Bool.or_eq_true,Bool.and_eq_true,beq_iff_eq,decide_eq_true_eq] at h;have hd:=Nat.div_add_mod off (P.cellsOf e);have hm:=Nat.mod_lt off cr;rcases h with⟨⟨h1,h2⟩,_⟩|⟨h1,_⟩
   ·have:P.cellsOf e*(off / P.cellsOf e)≤P.cellsOf e*count:=Nat.mul_le_mul_left _ (by omega);rw[Nat.mul_comm count];omega
   ·have:P.cellsOf e*(off / P.cellsOf e+1)≤P.cellsOf e*count:=Nat.mul_le_mul_left _ (by omega);rw[Nat.mul_add] at this;rw[Nat.mul_comm count];omega
theorem Ry {P:Program}:∀ {d:Nat}{e:TypeId}{count off:Nat}{u:TypeId}{n:Nat},liesAt P d e count off u n=true→off≤count*P.cellsOf e
 |0,_,_,_,_,_,h=>by cases h
 |d+1,e,count,off,u,n,h=>by
  unfold liesAt at h;rw[Bool.or_eq_true] at h;rcases h with h|h
  ·exact Q1p h
  ·split at h
   ·exact Ry h
   ·cases h
theorem Q0i {P:Program}{w:World}{r:Reach}{base:Nat}{a:Addr}{e:TypeId}{n:Nat}(h:w.has P r base a e n):∃ C row f,w.heap[a.block]?=some (.cells C row f)∧a.off≤C.size∧a.spot=none:=by
 obtain⟨_,hs,row,cells,cT,hl⟩:=h;unfold World.shape? at cT;split at cT
 ·rename_i C e' f hb;obtain⟨rfl,rfl⟩:=(by simpa using cT:e'=row∧C.size=cells);exact⟨C,e',f,hb,Nat.le_trans (Ry hl) (Nat.div_mul_le_self _ _),hs⟩
 ·cases cT
theorem LS {P:Program}{w:World}{r:Reach}{base:Nat}{t e:TypeId}{v:Value}(ht:P.underlying t=some (.slice e)) (h:Cell.okWide P w r base t v) :
  v=.slice none 0 0∨∃ a len cap,v=.slice (some a) len cap∧w.has P r base a e cap:=by
 unfold Cell.okWide at h;rw[ht] at h;have h':Cell.ok P w r base t v:=by split at h<;>first|exact h|simp_all
 unfold Cell.ok at h';rw[ht] at h';split at h'<;>first|exact .inl rfl|(cases h';done)|skip
 all_goals first|(rename_i h1 h2;simp_all;done)|skip
 all_goals first|(simp_all;exact⟨_,_,_,⟨rfl,rfl,rfl⟩,h'.2.2⟩)|(simp_all)
theorem Z1n {k:IntKind}{x:Int}(h:(Lit.int k x).wf=true):k.min≤x∧x≤k.max:=by simpa [Lit.wf] using h
theorem View.calls {P:Program}{f:FuncId}{w:World}{ρ:Plc}{σ:Heap}(h:View w ρ σ) {args:List Value}{az:Array Value}(hl:LRel ρ σ.n args az.toList) (hc:VCallsTo P f args σ fun v _=>v=.bool true) :
  Calls P f az w fun e w'=>e=.returned (.bool true)∧Below w.heap.size w w':=by
 refine (hc ρ w az h.rel hl).mono fun e w' ⟨c,he,v,ρ',σ',hv,hr,_,hx⟩=>?_;subst hv;have:c=.bool true:=by cases hr;rfl
 subst this;exact⟨he,hx.os,hx.tape,hx.output,hx.size,fun B hB=>hx.keep B hB fun ⟨i,p,b,_,hi,hw,_⟩=>by rw[h.ro i b hi] at hw;cases hw⟩
theorem Dz {H:Type}{enc:TypeId×Value→H}{P:Program}(hl:laidOutB P=true) {W W':World}{sp:Nat→Bool}(hb:Below W.heap.size W W') :
  ∀ {ts:List TypeId}{vs:List Value}{ds:List (DataW H)}{ps:List MemPlace},(∀ t∈ts,P.readableRec t=true∧t<P.types.size)→DataW.TrodAll enc P W 0 (fun _=>true) true ts vs ds ps→(∀ p∈ps,p.block<W.heap.size)→(∀ p∈ps,sp p.block=true) →
   DataW.TrodAll enc P W' 0 sp true ts vs ds ps
 |[],vs,ds,ps,_,h,_,_=>by obtain⟨rfl,rfl,rfl⟩:=trodAll_nil h;rfl
 |t::ts,vs,ds,ps,ht,h,ai,hs=>by
  obtain⟨v,cA,d,ds',p,q,rfl,rfl,rfl,h1,h2⟩:=trodAll_cons h;obtain⟨r1,r2⟩:=ht t (by simp);exact⟨p,q,WideElems.Trod_stays hl r1 r2 h1 (fun x hx=>hb.same (ai x (by simp[hx]))) (fun x hx=>hs x (by simp[hx])),
   Dz hl hb (fun t lQ=>ht t (by simp[lQ])) h2 (fun x hx=>ai x (by simp[hx])) (fun x hx=>hs x (by simp[hx])),rfl⟩
theorem ON {H:Type}{enc:TypeId×Value→H}{P:Program}{f:Func}{s:ChangeSpec}{apart fresh handsOn again:Bool}{W W':World}{args:Array Value}{ds gs:List (DataW H)}{before:List MemPlace}{tb:TypeId}
  (hl:laidOutB P=true) (hp:f.params.toList.all (fun t=>P.readableRec t&&decide (t<P.types.size))=true) (ki:s.vars=[]) (hr:f.resultTypes=#[tb]) (bg:P.underlying tb=some .bool) (hs:s.fn H ds={results:=[.lit (.bool true)],args:=ds})
  (hW:DataW.Whole enc P f.params.toList s.vars apart W args.toList ds gs before) (hb:Below W.heap.size W W'):s.post enc P f apart fresh handsOn again W args (.bool true) W':=by
 have ai:∀ p∈before,p.block<W.heap.size:=fun p hp=>hW.lt p hp;have ub:=hW;obtain⟨p,q,hA,hV,rfl,hz,hn⟩:=hW;rw[ki] at hV;obtain⟨rfl,rfl⟩:=trodVars_none hV;have bk:∀ t∈f.params.toList,P.readableRec t=true∧t<P.types.size:=fun t ht=>by have:=List.all_eq_true.1 hp t ht;simpa using this
 have eG:s.fn H (ds++[])={results:=[.lit (.bool true)],args:=ds}:=by rw[List.append_nil];exact hs
 have cP:∀ (b:Nat) (sp:Nat→Bool) (hd:Bool),DataW.TrodAll enc P W' b sp hd f.resultTypes.toList ((Value.bool true).resultList f.resultTypes.size) (s.fn H (ds++[])).results []:=fun b sp hd=>by rw[eG,hr];exact trodAll_mk1 (shut_bool bg _)
 have av:∀ sp:Nat→Bool,(∀ x∈p++[],sp x.block=true)→DataW.TrodAll enc P W' 0 sp true f.params.toList args.toList (s.fn H (ds++[])).args p:=fun sp eu=>by rw[eG];exact Dz hl hb bk hA (fun x hx=>ai x (by simp[hx])) (fun x hx=>eu x (by simp[hx]))
 have cq:∀ sp:Nat→Bool,DataW.TrodVars enc P W' sp s.vars (s.fn H (ds++[])).vars []:=fun sp=>by rw[eG,ki];rfl
 have hold:∀ x∈p++[],(fun b=>decide (b<W.heap.size)) x.block=true:=fun x hx=>by simpa using ai x hx
 refine⟨ds,[],p++[],[],p,[],ub,cP _ _ _,av _ hold,cq _,World.keptBut_mono (fun x hx=>⟨hx,?_⟩) (hb.frame (·∈p++[])),fun _=>?_⟩
 ·exact .inr (by simpa using hx)
 ·refine⟨ok_one hr rfl (okWide_bool_mk bg _),_,_,([]++p)++[],⟨[]++p,[],trodAll_append (av _ (fun _ _=>rfl)) (cP _ _ _),cq _,rfl,?_,?_⟩,?_⟩
  ·intro b off hx;have aH:MemPlace.cell b off∈p++[]:=by simpa using hx
   rw[hb.frozen (ai _ aH)];exact hz b off aH
  ·intro ha;simpa using hn ha
  ·intro x hx _;simpa using hx
end Go.V
namespace Go.V
open Go Go.ChangeShapes Go.WideShapes Go.RowKit Go.Deep Go.Joins
def KFs (T:Kind→TypeId→Bool) (sz:TypeId→Nat):Kind→List (TypeId×Nat)→Nat→Bool
 |_,[],_=>false
 |k,[p],off=>p.2==off&&(sz p.1==k.size&&T k p.1)
 |.pair a b,p::q::r,off=>p.2==off&&(sz p.1==a.size&&(T a p.1&&KFs T sz b (q::r) (off+a.size)))
 |_,_::_::_,_=>false
def KTy (P:Program):Nat→Kind→TypeId→Bool
 |0,_,_=>false
 |n+1,k,t=>match P.underlying t with
  |some (.struct fs)=>P.cellsOf t==k.size&&KFs (KTy P n) P.cellsOf k (fs.toList.map fun f=>(f.type,f.offset)) 0
  |some (.array m e)=>P.cellsOf t==k.size&&KFs (KTy P n) P.cellsOf k ((List.range m).map fun i=>(e,i*P.cellsOf e)) 0
  |some (.int ik)=>(match k with|.i k'=>decide (k'=ik)|_=>false)
  |some .bool=>(match k with|.bo=>true|_=>false)
  |some .string=>(match k with|.st=>true|_=>false)
  |some (.slice e)=>(match k with|.list k'=>P.cellsOf e==k'.size&&(k'.flat&&KTy P n k' e)|_=>false)
  |_=>false
def KWf:(k:Kind)→k.T→Prop
 |.i ik,x=>InK ik x
 |.bo,_=>True
 |.st,s=>s.length≤maxLen
 |.list k,l=>l.length≤maxLen∧∀ x∈l,KWf k x
 |.pair a b,x=>KWf a x.1∧KWf b x.2
theorem More.le {ρ ρ':Plc}{σ σ':Heap}(h:More ρ σ ρ' σ'):σ.Le σ':=⟨h.n,fun i b hb=>by rw[h.ag i (σ.lt hb)];exact hb⟩
def ArgIs (w:World) (ρ:Plc) (σ:Heap) (k:Kind) (cs:List Value):Prop :=
 ∃ ρ' σ' vs x,View w ρ' σ'∧More ρ σ ρ' σ'∧LRel ρ' σ'.n vs cs∧KC σ' k x vs∧KWf k x
theorem ArgIs.pair {w:World}{ρ:Plc}{σ:Heap}{a b:Kind}{cs ds:List Value}(h1:ArgIs w ρ σ a cs) (h2:∀ ρ σ,View w ρ σ→ArgIs w ρ σ b ds):ArgIs w ρ σ (.pair a b) (cs++ds):=by obtain⟨ρ1,σ1,oM,x1,k1,k2,k3,k4,k5⟩:=h1;obtain⟨ρ2,σ2,j0,x2,m1,m2,m3,m4,m5⟩:=h2 ρ1 σ1 k1;exact⟨ρ2,σ2,oM++j0,(x1,x2),m1,k2.trans m2,(k3.mono m2.n m2.pl).append m3,⟨oM,j0,rfl,k4.mono m2.le,m4⟩,k5,m5⟩
section
variable {H:Type}{enc:TypeId×Value→H}{P:Program}{w:World}{r:Reach}{base:Nat}
def okc (P:Program) (w:World) (r:Reach) (base:Nat) (ts:List TypeId) (cs:List Value):Prop:=∀ (i:Nat) v u,cs[i]?=some v→ts[i]?=some u→Cell.okWide P w r base u v
theorem Al {T:Kind→TypeId→Bool}{sz:TypeId→Nat}{g:TypeId→Option (List TypeId)}(hT:∀ k t ts,T k t=true→g t=some ts→ts.length=k.size) :
  ∀ {k:Kind}{L:List (TypeId×Nat)}{off:Nat}{gP:List (List TypeId)},KFs T sz k L off=true→L.mapM (fun p=>g p.1)=some gP→gP.flatten.length=k.size
 |k,[],_,_,h,_=>by simp[KFs] at h
 |k,[p],off,gP,h,hm=>by
  simp only[KFs,Bool.and_eq_true] at h;cases hg:g p.1 with
  |none=>simp[hg] at hm
  |some ts =>simp[hg] at hm;subst hm;simpa using hT _ _ _ h.2.2 hg
 |.pair a b,p::q::r,off,gP,h,hm=>by
  simp only[KFs,Bool.and_eq_true] at h;rw[List.mapM_cons] at hm;cases hg:g p.1 with
  |none=>simp[hg] at hm
  |some ts =>
   cases hr:(q::r).mapM (fun p=>g p.1) with
   |none=>simp[hg,hr] at hm
   |some tr =>simp[hg,hr] at hm;subst hm;have:=Al hT h.2.2.2 hr;simp only[List.flatten_cons,List.length_append,this,hT _ _ _ h.2.2.1 hg,Kind.size]
 |.i _,_::_::_,_,_,h,_|.bo,_::_::_,_,_,h,_|.st,_::_::_,_,_,h,_|.list _,_::_::_,_,_,h,_=>by cases h
theorem B5 {α β γ:Type}{f:α→β}{g:β→Option γ}:∀ (l:List α),(l.map f).mapM g=l.mapM (fun x=>g (f x))
 |[]=>rfl
 |a::l=>by simp only[List.map_cons,List.mapM_cons,B5 l]
theorem BC {β:Type}{x:β}{f:Nat→Option β}(h:∀ i,f i=some x):∀ l:List Nat,l.mapM f=some (List.replicate l.length x)
 |[]=>rfl
 |a::l=>by simp[List.mapM_cons,h,BC h l,List.replicate_succ]
theorem Ai:∀ {n:Nat}{k:Kind}{t:TypeId}{d:Nat}{ts:List TypeId},KTy P n k t=true→P.cellTypes d t=some ts→ts.length=k.size
 |0,_,_,_,_,h,_=>by cases h
 |_+1,_,_,0,_,_,h=>by cases h
 |n+1,k,t,d+1,ts,h,ht=>by
  have ih:∀ k t ts,KTy P n k t=true→P.cellTypes d t=some ts→ts.length=k.size:=fun k t ts h1 h2=>Ai h1 h2;unfold Program.cellTypes at ht;unfold KTy at h;cases hu:P.underlying t with
  |none=>rw[hu] at h;cases h
  |some u =>
   rw[hu] at h ht;cases u<;>first|(cases h;done)|skip
   all_goals simp only at h ht
   ·split at h<;>first|(cases h;done)|(obtain rfl:=osj ht;rfl)
   ·split at h<;>first|(cases h;done)|(obtain rfl:=osj ht;rfl)
   ·split at h<;>first|(cases h;done)|(obtain rfl:=osj ht;rfl)
   ·split at h<;>first|(cases h;done)|(obtain rfl:=osj ht;rfl)
   ·rename_i m e;rw[Bool.and_eq_true] at h;cases hc:P.cellTypes d e with
    |none=>rw[hc] at ht;cases ht
    |some te =>rw[hc] at ht;obtain rfl:=osj ht;refine Al (g:=fun t=>P.cellTypes d t) ih h.2 ?_;rw[B5,BC (x:=te) (fun _=>hc)];simp
   ·rename_i fs;rw[Bool.and_eq_true] at h;cases hc:fs.toList.mapM fun f=>P.cellTypes d f.type with
    |none=>rw[hc] at ht;cases ht
    |some gP =>rw[hc] at ht;obtain rfl:=osj ht;refine Al (g:=fun t=>P.cellTypes d t) ih h.2 ?_;rw[B5];exact hc
theorem Dj {T:Kind→TypeId→Bool}{sz:TypeId→Nat}{Q:TypeId→List Value→Prop}{R:Kind→List Value→Prop}(hT:∀ k t cs,T k t=true→Q t cs→R k cs) (hR:∀ a b cs ds,R a cs→R b ds→R (.pair a b) (cs++ds)) (cs:List Value) :
  ∀ {k:Kind}{L:List (TypeId×Nat)}{off:Nat},KFs T sz k L off=true→(∀ p∈L,Q p.1 ((cs.drop p.2).take (sz p.1)))→R k ((cs.drop off).take k.size)
 |k,[],_,h,_=>by simp[KFs] at h
 |k,[p],off,h,hq=>by simp only[KFs,Bool.and_eq_true,beq_iff_eq] at h;have:=hq p (by simp);rw[h.1,h.2.1] at this;exact hT _ _ _ h.2.2 this
 |.pair a b,p::q::r,off,h,hq=>by
  simp only[KFs,Bool.and_eq_true,beq_iff_eq] at h;have h1:=hq p (by simp);rw[h.1,h.2.1] at h1;have h2:=Dj hT hR cs h.2.2.2 fun x hx=>hq x (List.mem_cons_of_mem _ hx);have e:(cs.drop off).take (Kind.pair a b).size=(cs.drop off).take a.size++(cs.drop (off+a.size)).take b.size:=by rw[Kind.size,List.take_add,List.drop_drop]
  rw[e];exact hR _ _ _ _ (hT _ _ _ h.2.2.1 h1) h2
 |.i _,_::_::_,_,h,_|.bo,_::_::_,_,h,_|.st,_::_::_,_,h,_|.list _,_::_::_,_,h,_=>by cases h
def FlatIs (k:Kind) (cs:List Value):Prop:=∃ y:k.T,(∀ h,KC h k y cs)∧KWf k y∧∀ ρ m,LRel ρ m cs cs
theorem FlatIs.pair {a b:Kind}{cs ds:List Value}(h1:FlatIs a cs) (h2:FlatIs b ds):FlatIs (.pair a b) (cs++ds):=by obtain⟨x,k1,k2,k3⟩:=h1;obtain⟨y,m1,m2,m3⟩:=h2;exact⟨(x,y),fun h=>⟨cs,ds,rfl,k1 h,m1 h⟩,⟨k2,m2⟩,fun ρ m=>(k3 ρ m).append (m3 ρ m)⟩
theorem LRel.one {ρ:Plc}{n:Nat}{v c:Value}(h:VRel ρ n v c):LRel ρ n [v] [c]:=.cons h (.nil _ _)
theorem Dc {fs:Array Field}{f:Field}(h:f∈fs.toList):∃ i:Nat,fs[i]?=some f:=by obtain⟨i,hi,rfl⟩:=List.mem_iff_getElem.1 h;exact⟨i,by simp at hi;simp[hi]⟩
theorem Lc {sp:Nat→Bool}{held:Bool}:∀ {n:Nat}{k:Kind}{t:TypeId}{fuel:Nat}{cs:List Value}{x:DataW H×List MemPlace},KTy P n k t=true→k.flat=true→DataW.trod enc P w base sp held fuel t cs=some x→FlatIs k cs
 |0,_,_,_,_,_,h,_,_=>by cases h
 |n+1,k,t,fuel,cs,x,h,hf,hx=>by
  unfold KTy at h;cases hu:P.underlying t with
  |none=>rw[hu] at h;cases h
  |some u =>
   rw[hu] at h;have hR:∀ a b cs ds,((a.flat=true→FlatIs a cs)∧True)→((b.flat=true→FlatIs b ds)∧True)→(((Kind.pair a b).flat=true→FlatIs (.pair a b) (cs++ds))∧True):=fun a b cs ds h1 h2=>⟨fun hf=>by
    simp only[Kind.flat,Bool.and_eq_true] at hf;exact(h1.1 hf.1).pair (h2.1 hf.2),trivial⟩
   have hT:∀ k t cs,KTy P n k t=true→(∃ fuel x,DataW.trod enc P w base sp held fuel t cs=some x)→((k.flat=true→FlatIs k cs)∧True):=fun k t cs h1 ⟨fuel,x,h2⟩=>⟨fun hf=>Lc h1 hf h2,trivial⟩;cases u<;>first|(cases h;done)|skip
   all_goals simp only at h
   ·split at h<;>first|(cases h;done)|skip
    obtain⟨b,rfl,_⟩:=DataW.trod_bool hu hx;exact⟨b,fun _=>rfl,trivial,fun _ _=>.one (.bool _)⟩
   ·split at h<;>first|(cases h;done)|skip
    obtain rfl:=of_decide_eq_true h;obtain⟨z,rfl,_,hw⟩:=DataW.trod_int hu hx;exact⟨z,fun _=>rfl,Z1n hw,fun _ _=>.one (.int _ _)⟩
   ·split at h<;>first|(cases h;done)|skip
    obtain⟨s,rfl,_,hs⟩:=DataW.trod_string hu hx;exact⟨s.data.toList,fun _=>rfl,hs,fun _ _=>.one (.string _)⟩
   ·split at h<;>first|(cases h;done)|(cases hf;done)
   ·rename_i m e;simp only[Bool.and_eq_true,beq_iff_eq] at h;obtain⟨xs,m',_,_,hl,gS,hx⟩:=DataW.trod_array hu hx;have:=(Dj (R:=fun k cs=>(k.flat=true→FlatIs k cs)∧True) hT hR cs h.2 fun p hp=>by
     simp only[List.mem_map,List.mem_range] at hp;obtain⟨i,hi,rfl⟩:=hp;have:=hx i hi;rw[List.getElem?_eq_getElem (by omega)] at this;exact⟨_,_,this⟩).1 hf
    rwa [List.drop_zero,List.take_of_length_le (by omega)] at this
   ·rename_i fs;simp only[Bool.and_eq_true,beq_iff_eq] at h;obtain⟨xs,m',_,_,hl,gS,hx⟩:=DataW.trod_struct hu hx;have:=(Dj (R:=fun k cs=>(k.flat=true→FlatIs k cs)∧True) hT hR cs h.2 fun p hp=>by
     simp only[List.mem_map] at hp;obtain⟨f,kU,rfl⟩:=hp;obtain⟨i,hi⟩:=Dc kU;have:=hx i f hi;have gX:i<fs.size:=(Array.getElem?_eq_some_iff.1 hi).1;rw[List.getElem?_eq_getElem (by omega)] at this;exact⟨_,_,this⟩).1 hf
    rwa [List.drop_zero,List.take_of_length_le (by omega)] at this
theorem Rows.range {α:Type}{R:α→List Value→Prop}{n:Nat}{c:List Value}{x:Nat→α}:∀ (m:Nat),(∀ i,i<m→R (x i) ((c.drop (i*n)).take n))→Rows R ((List.range m).map x) (c.take (m*n))
 |0,_=>by simp;exact .nil
 |m+1,h=>by
  have e:c.take ((m+1)*n)=c.take (m*n)++(c.drop (m*n)).take n:=by rw[Nat.add_mul,Nat.one_mul,List.take_add]
  rw[List.range_succ,List.map_append,e];exact(Rows.range m fun i hi=>h i (by omega)).append (by simpa using Rows.cons (h m (by omega)) .nil)
theorem Lz {α:Type}[Inhabited α] {m:Nat}{p:Nat→α→Prop}(h:∀ i,i<m→∃ x,p i x):∃ f:Nat→α,∀ i,i<m→p i (f i) :=
 ⟨fun i=>if hi:i<m then (h i hi).choose else default,fun i hi=>by simp only[hi,dif_pos];exact(h i hi).choose_spec⟩
instance KInh (k:Kind):Inhabited k.T:=⟨k.dflt⟩
theorem View.list {ρ:Plc}{σ:Heap}(h:View w ρ σ) {n:Nat}{k:Kind}{t e:TypeId}{fuel:Nat}{cs:List Value}{x:DataW H×List MemPlace}(hu:P.underlying t=some (.slice e)) (hs:P.cellsOf e=k.size) (hf:k.flat=true) (hk:KTy P n k e=true)
  (hx:DataW.trod enc P w 0 (fun _=>true) true fuel t cs=some x) (af:okc P w r base [t] cs):ArgIs w ρ σ (.list k) cs:=by
 rcases open_slice hu hx with⟨rfl,_⟩|⟨a,len,cap,m,fu,D,Pl,rfl,hb,hl,hm,g7,_,hel⟩
 ·exact⟨ρ,σ,[.slice none 0 0],[],h,More.refl _ _,.one .nilSl,⟨_,rfl,.inl ⟨rfl,rfl⟩⟩,by simp[maxLen],fun _ hx=>by cases hx⟩
 simp only[if_true] at g7;subst g7;rw[hs] at hel;have qn:w.has P r base a e m:=by
  rcases LS hu (af 0 _ t rfl rfl) with hh|⟨a',uc,aq,hh,h2⟩
  ·cases hh
  ·cases hh;exact h2
 obtain⟨C,row,f,aI,aR,eu⟩:=Q0i qn;obtain⟨blk,off,spot⟩:=a;simp only at aI aR eu;subst eu;have kK:∀ i,(⟨blk,off,none⟩:Addr).add i=⟨blk,off+i,none⟩:=fun i=>by unfold Addr.add;split<;>simp_all
 obtain⟨X,hX⟩:=Lz (α:=k.T×List Value) (m:=m) (p:=fun i p=>p.2.length=k.size∧(∀ j,j<k.size→w.cell? ⟨blk,off+i*k.size+j,none⟩=p.2[j]?)∧(∀ h,KC h k p.1 p.2)∧KWf k p.1∧∀ ρ m,LRel ρ m p.2 p.2) fun i hi=>by
  obtain⟨cs',h1,h2⟩:=hel i hi;obtain⟨_,k1,k2⟩:=World.cells?_some h1;obtain⟨y,m1,m2,m3⟩:=Lc hk hf h2;refine⟨(y,cs'),k1,fun j hj=>?_,m1,m2,m3⟩;have:=k2 j hj;rw[kK] at this;have e2:(⟨blk,off+i*k.size,none⟩:Addr).add j=⟨blk,off+i*k.size+j,none⟩:=by unfold Addr.add;split<;>simp_all
  rw[e2] at this;exact this
 have cr:=k.size_pos;let c:List Value:=(List.range (m*k.size)).map fun j=>((X (j / k.size)).2[j % k.size]?).getD undef;have cy:c.length=m*k.size:=by simp[c]
 have hdiv:∀ j,j<m*k.size→j / k.size<m:=fun j hj=>Nat.div_lt_of_lt_mul (by rw[Nat.mul_comm];exact hj);have a_:∀ j,j<m*k.size→∃ v,c[j]?=some v∧w.cell? ⟨blk,off+j,none⟩=some v∧∀ ρ m,VRel ρ m v v:=fun j hj=>by
  have h1:=hX (j / k.size) (hdiv j hj);have fF:j % k.size<k.size:=Nat.mod_lt _ cr;have h2:=h1.2.1 _ fF;have e:off+j / k.size*k.size+j % k.size=off+j:=by rw[Nat.add_assoc,Nat.div_add_mod']
  rw[e] at h2;have h3:j % k.size<(X (j / k.size)).2.length:=by rw[h1.1];exact fF
  refine⟨(X (j / k.size)).2[j % k.size],?_,?_,fun ρ m=>(h1.2.2.2.2 ρ m).2 _ _ _ (List.getElem?_eq_getElem h3) (List.getElem?_eq_getElem h3)⟩
  ·simp only[c,List.getElem?_map,List.getElem?_range hj,Option.map_some,List.getElem?_eq_getElem h3,Option.getD_some]
  ·rw[h2,List.getElem?_eq_getElem h3]
 have qo:∀ i,i<m→(c.drop (i*k.size)).take k.size=(X i).2:=fun i hi=>by
  have h1:=hX i hi;have hle:i*k.size+k.size≤m*k.size:=by have:(i+1)*k.size≤m*k.size:=Nat.mul_le_mul_right _ hi;rw[Nat.add_mul] at this;omega
  apply List.ext_getElem?;intro j;by_cases hj:j<k.size
  ·rw[List.getElem?_take_of_lt hj,List.getElem?_drop];have eB:i*k.size+j<m*k.size:=by omega
   have e1:(i*k.size+j) / k.size=i:=by rw[Nat.mul_comm,Nat.mul_add_div cr,Nat.div_eq_of_lt hj,Nat.add_zero]
   have e2:(i*k.size+j) % k.size=j:=by rw[Nat.mul_comm,Nat.mul_add_mod,Nat.mod_eq_of_lt hj]
   have h3:j<(X i).2.length:=by rw[h1.1];exact hj
   simp only[c,List.getElem?_map,List.getElem?_range eB,Option.map_some,e1,e2,List.getElem?_eq_getElem h3,Option.getD_some]
  ·rw[List.getElem?_eq_none (by simp;omega),List.getElem?_eq_none (by omega)]
 have aC:off+m*k.size≤C.size:=by
  rcases Nat.eq_zero_or_pos (m*k.size) with h0|h0
  ·omega
  ·obtain⟨v,_,h2,_⟩:=a_ (m*k.size-1) (by omega);unfold World.cell? at h2;simp only[aI] at h2;have:=(Array.getElem?_eq_some_iff.1 (by simpa using h2)).1;omega
 obtain⟨hv,ud⟩:=h.add ⟨blk,off,m*k.size,⟨k.size,row⟩,false⟩ c aI aC (by simp[cy]) rfl (fun j v hj=>by
  have ck:j<m*k.size:=by rw[←cy];exact(List.getElem?_eq_some_iff.1 hj).1
  obtain⟨v',h1,h2,h3⟩:=a_ j ck;obtain rfl:=osj (hj.symm.trans h1);exact⟨v,h2,h3 _ _⟩)
 have hlen:((List.range len).map fun i=>(X i).1).length=len:=by simp
 refine⟨_,_,[.slice (some ⟨σ.n,0,none⟩) len m],(List.range len).map fun i=>(X i).1,hv,ud,.one ?_,⟨_,rfl,.inr ⟨σ.n,0,m,c,⟨k.size,row⟩,false,false,by rw[hlen],by rw[hlen];exact hl,Heap.get_push_self _ _,rfl,?_,?_⟩⟩,?_,fun y hy=>?_⟩
 ·refine .sl _ _ _ _ _ _ (by simp) fun p hp=>?_;simp[Plc.put] at hp;subst hp;exact⟨Nat.le_refl _,(fun h=>by cases h),0,by simp,by simp,.inl rfl⟩
 ·rw[hlen,cy,Nat.zero_add];exact Nat.mul_le_mul_right _ hl
 ·rw[hlen,List.drop_zero];refine Rows.range len fun i hi=>?_;rw[qo i (by omega)];exact(hX i (by omega)).2.2.1 _
 ·rw[hlen];exact Nat.le_trans hl hm
 ·obtain⟨i,hi,rfl⟩:=List.mem_map.1 hy;exact(hX i (by have:=List.mem_range.1 hi;omega)).2.2.2.1
def Kind.lev1:Kind→Bool
 |.list k=>k.flat
 |.pair a b=>a.lev1&&b.lev1
 |_=>true
theorem F2 {ts:List TypeId}{cs:List Value}(h:okc P w r base ts cs) (o n:Nat):okc P w r base ((ts.drop o).take n) ((cs.drop o).take n):=fun i v u h1 h2=>by
 have hi:i<n:=by have:=(List.getElem?_eq_some_iff.1 h1).1;rw[List.length_take] at this;omega
 rw[List.getElem?_take_of_lt hi,List.getElem?_drop] at h1 h2;exact h _ v u h1 h2
theorem Tp {T:Kind→TypeId→Bool}{sz:TypeId→Nat}{g:TypeId→Option (List TypeId)}(hT:∀ k t ts,T k t=true→g t=some ts→ts.length=k.size) :
  ∀ {k:Kind}{L:List (TypeId×Nat)}{off:Nat}{gP:List (List TypeId)},KFs T sz k L off=true→L.mapM (fun p=>g p.1)=some gP→∀ p∈L,off≤p.2∧g p.1=some ((gP.flatten.drop (p.2-off)).take (sz p.1))
 |k,[],_,_,h,_=>by simp[KFs] at h
 |k,[p],off,gP,h,hm=>by
  simp only[KFs,Bool.and_eq_true,beq_iff_eq] at h;intro p' hp;obtain rfl:=List.mem_singleton.1 hp;cases hg:g p'.1 with
  |none=>simp[hg] at hm
  |some ts =>
   simp[hg] at hm;subst hm;refine⟨by omega,?_⟩;rw[h.1,Nat.sub_self,List.drop_zero,h.2.1,List.take_of_length_le]
   ·simp
   ·simp[hT _ _ _ h.2.2 hg]
 |.pair a b,p::q::r,off,gP,h,hm=>by
  simp only[KFs,Bool.and_eq_true,beq_iff_eq] at h;rw[List.mapM_cons] at hm;intro p' hp;cases hg:g p.1 with
  |none=>simp[hg] at hm
  |some ts =>
   cases hr:(q::r).mapM (fun p=>g p.1) with
   |none=>simp[hg,hr] at hm
   |some tr =>
    simp[hg,hr] at hm;subst hm;have hlen:=hT _ _ _ h.2.2.1 hg;rcases List.mem_cons.1 hp with rfl|hp
    ·refine⟨by omega,?_⟩;rw[hg,h.1,Nat.sub_self,List.drop_zero,h.2.1,List.flatten_cons,List.take_append,←hlen,Nat.sub_self,List.take_zero,List.append_nil,List.take_length]
    ·obtain⟨h1,h2⟩:=Tp hT h.2.2.2 hr p' hp;refine⟨by omega,?_⟩;have e1:ts.drop (p'.2-off)=[]:=List.drop_eq_nil_of_le (by omega);have e2:p'.2-off-a.size=p'.2-(off+a.size):=by omega
     rw[h2,List.flatten_cons,List.drop_append,hlen,e1,e2,List.nil_append]
 |.i _,_::_::_,_,_,h,_|.bo,_::_::_,_,_,h,_|.st,_::_::_,_,_,h,_|.list _,_::_::_,_,_,h,_=>by cases h
theorem L1:∀ {n:Nat}{k:Kind}{t:TypeId}{d:Nat}{ts:List TypeId}{fuel:Nat}{cs:List Value}{x:DataW H×List MemPlace},KTy P n k t=true→k.lev1=true→P.cellTypes d t=some ts→okc P w r base ts cs→DataW.trod enc P w 0 (fun _=>true) true fuel t cs=some x→∀ ρ σ,View w ρ σ→ArgIs w ρ σ k cs
 |0,_,_,_,_,_,_,_,h,_,_,_,_=>by cases h
 |_+1,_,_,0,_,_,_,_,_,_,h,_,_=>by cases h
 |n+1,k,t,d+1,ts,fuel,cs,x,h,hf,eK,af,hx=>by
  intro ρ σ hv;by_cases b8:k.flat=true
  ·obtain⟨y,h1,h2,h3⟩:=Lc h b8 hx;exact⟨ρ,σ,cs,y,hv,More.refl _ _,h3 _ _,h1 _,h2⟩
  unfold KTy at h;cases hu:P.underlying t with
  |none=>rw[hu] at h;cases h
  |some u =>
   rw[hu] at h;let Q:TypeId→List Value→Prop:=fun t cs=>(∃ fuel x,DataW.trod enc P w 0 (fun _=>true) true fuel t cs=some x)∧∃ ts,P.cellTypes d t=some ts∧okc P w r base ts cs;let R:Kind→List Value→Prop:=fun k cs=>k.lev1=true→∀ ρ σ,View w ρ σ→ArgIs w ρ σ k cs;have hR:∀ a b cs ds,R a cs→R b ds→R (.pair a b) (cs++ds):=fun a b cs ds h1 h2 hl ρ σ hv=>by simp only[Kind.lev1,Bool.and_eq_true] at hl;exact(h1 hl.1 ρ σ hv).pair fun ρ σ hv=>h2 hl.2 ρ σ hv
   have hT:∀ k t cs,KTy P n k t=true→Q t cs→R k cs:=fun k t cs h1 ⟨⟨fuel,x,h2⟩,ts,h3,h4⟩ hl=>L1 h1 hl h3 h4 h2;have hlen:∀ k t ts,KTy P n k t=true→P.cellTypes d t=some ts→ts.length=k.size:=fun k t ts h1 h2=>Ai h1 h2;unfold Program.cellTypes at eK;rw[hu] at eK;cases u<;>first|(cases h;done)|skip
   all_goals simp only at h
   ·split at h<;>first|(cases h;done)|(exact absurd rfl b8)
   ·split at h<;>first|(cases h;done)|(exact absurd rfl b8)
   ·split at h<;>first|(cases h;done)|(exact absurd rfl b8)
   ·rename_i e;split at h<;>first|(cases h;done)|skip
    simp only[Bool.and_eq_true,beq_iff_eq] at h;simp only[Option.some.injEq] at eK;subst eK;exact hv.list hu h.1 h.2.1 h.2.2 hx af
   ·rename_i m e;simp only[Bool.and_eq_true,beq_iff_eq] at h;obtain⟨xs,m',_,_,hl,gS,hx⟩:=DataW.trod_array hu hx;simp only at eK;cases hc:P.cellTypes d e with
    |none=>rw[hc] at eK;cases eK
    |some te =>
     rw[hc] at eK;obtain rfl:=osj eK;have mV:((List.range m).map fun i=>(e,i*P.cellsOf e)).mapM (fun p:TypeId×Nat=>P.cellTypes d p.1)=some (List.replicate m te):=by rw[B5,BC (x:=te) (fun _=>hc)];simp
     have:=Dj (Q:=Q) (R:=R) hT hR cs h.2 (fun p hp=>by
      have iH:=Tp (g:=fun t=>P.cellTypes d t) hlen h.2 mV p hp;simp only[List.mem_map,List.mem_range] at hp;obtain⟨i,hi,rfl⟩:=hp;have:=hx i hi;rw[List.getElem?_eq_getElem (by omega)] at this;exact⟨⟨_,_,this⟩,_,iH.2,F2 af _ _⟩) hf ρ σ hv
     rwa [List.drop_zero,List.take_of_length_le (by omega)] at this
   ·rename_i fs;simp only[Bool.and_eq_true,beq_iff_eq] at h;obtain⟨xs,m',_,_,hl,gS,hx⟩:=DataW.trod_struct hu hx;simp only at eK;cases hc:fs.toList.mapM fun f=>P.cellTypes d f.type with
    |none=>rw[hc] at eK;cases eK
    |some gP =>
     rw[hc] at eK;obtain rfl:=osj eK;have mV:(fs.toList.map fun f=>(f.type,f.offset)).mapM (fun p:TypeId×Nat=>P.cellTypes d p.1)=some gP:=by rw[B5];exact hc
     have:=Dj (Q:=Q) (R:=R) hT hR cs h.2 (fun p hp=>by
      have iH:=Tp (g:=fun t=>P.cellTypes d t) hlen h.2 mV p hp;simp only[List.mem_map] at hp;obtain⟨f,kU,rfl⟩:=hp;obtain⟨i,hi⟩:=Dc kU;have:=hx i f hi;have gX:i<fs.size:=(Array.getElem?_eq_some_iff.1 hi).1;rw[List.getElem?_eq_getElem (by omega)] at this;exact⟨⟨_,_,this⟩,_,iH.2,F2 af _ _⟩) hf ρ σ hv
     rwa [List.drop_zero,List.take_of_length_le (by omega)] at this
def isAgg (P:Program) (t:TypeId):Bool:=match P.underlying t with
 |some (.struct _)=>true
 |some (.array _ _)=>true
 |_=>false
theorem View.arg {ρ:Plc}{σ:Heap}(h:View w ρ σ) {n:Nat}{k:Kind}{t:TypeId}{v:Value}{d:DataW H}{p:List MemPlace}(hk:KTy P n k t=true) (hl:k.lev1=true) (ha:isAgg P t=!k.one) (af:Value.okWide P w r base t v) (hd:DataW.Trod enc P w 0 (fun _=>true) true t v d p) :
  ∃ ρ' σ' vv x,View w ρ' σ'∧More ρ σ ρ' σ'∧VRel ρ' σ'.n vv v∧KV σ' k x vv∧KWf k x:=by
 obtain⟨fuel,hd⟩:=hd;by_cases dW:isAgg P t=true
 ·have bM:k.one=false:=by rw[dW] at ha;simpa using ha.symm
  have:∃ cs,v=.agg cs∧cs.size=P.cellsOf t∧Row.okWide P w r base t cs:=by
   unfold isAgg at dW;unfold Value.okWide at af;split at dW<;>first|(cases dW;done)|skip
   ·rename_i hu;rw[hu] at af;exact af
   ·rename_i hu;rw[hu] at af;exact af
  obtain⟨cs,rfl,aC,ts,eK,_,bU⟩:=this;have hlen:=Ai hk eK;have aw:P.cellsOf t=k.size:=by
   unfold isAgg at dW;cases n with
   |zero=>cases hk
   |succ n =>
    unfold KTy at hk;split at dW<;>first|(cases dW;done)|skip
    all_goals
     rename_i hu;rw[hu] at hk;simp only[Bool.and_eq_true,beq_iff_eq] at hk;exact hk.1
  have lH:okc P w r base ts cs.toList:=fun i v u h1 h2=>by have hi:i<ts.length:=(List.getElem?_eq_some_iff.1 h2).1;obtain⟨u',h3,h4⟩:=bU i v (by simpa using h1);rw[Nat.mod_eq_of_lt hi] at h3;obtain rfl:=osj (h2.symm.trans h3);exact h4
  obtain⟨ρ',σ',vs,x,k1,k2,k3,k4,k5⟩:=L1 hk hl eK lH (show DataW.trod enc P w 0 _ true fuel t cs.toList=_ from hd) ρ σ h;exact⟨ρ',σ',.agg vs.toArray,x,k1,k2,VRel.agg_of (ds:=cs.toList) k3,.inr ⟨bM,vs,rfl,k4⟩,k5⟩
 ·have bM:k.one=true:=by
   have:isAgg P t=false:=by simpa using dW
   rw[this] at ha;simpa using ha.symm
  have iv:=Kind.one_size bM;have a_:Cell.okWide P w r base t v∧v.cells.toList=[v]:=by
   have h1:isAgg P t=false:=by simpa using dW
   unfold isAgg at h1;have h2:Cell.okWide P w r base t v:=by
    unfold Value.okWide at af;split at af
    ·rename_i hu;rw[hu] at h1;cases h1
    ·rename_i hu;rw[hu] at h1;cases h1
    ·exact af
   refine⟨h2,?_⟩;cases v<;>first|rfl|skip
   all_goals
    exfalso;cases n with
    |zero=>cases hk
    |succ n =>
     unfold KTy at hk;unfold Cell.okWide Cell.ok at h2;cases hu:P.underlying t with
     |none=>rw[hu] at hk;cases hk
     |some u =>rw[hu] at hk h2 h1;cases u<;>first|(cases hk;done)|(cases h1;done)|(cases h2;done)|(simp at h2;done)
  have eK:P.cellTypes 1 t=some [t]:=by
   have h1:isAgg P t=false:=by simpa using dW
   unfold isAgg at h1;unfold Program.cellTypes;cases n with
   |zero=>cases hk
   |succ n =>
    unfold KTy at hk;cases hu:P.underlying t with
    |none=>rw[hu] at hk;cases hk
    |some u =>rw[hu] at h1;cases u<;>first|rfl|(cases h1;done)
  rw[a_.2] at hd;have lH:okc P w r base [t] [v]:=fun i v' u h1 h2=>by
   cases i with
   |zero=>cases h1;cases h2;exact a_.1
   |succ i=>simp at h1
  obtain⟨ρ',σ',vs,x,k1,k2,k3,k4,k5⟩:=L1 hk hl eK lH hd ρ σ h;have:vs.length=1:=by rw[KC.length k4];exact iv
  obtain⟨vv,rfl⟩:=List.length_eq_one_iff.1 this;exact⟨ρ',σ',vv,x,k1,k2,k3.2 0 _ _ rfl rfl,.inl ⟨bM,k4⟩,k5⟩
def AWf:(ks:List Kind)→AT ks→Prop
 |[],_=>True
 |[k],x=>KWf k x
 |k::k'::ks,x=>KWf k x.1∧AWf (k'::ks) x.2
def Q8s (P:Program):List Kind→List TypeId→Bool
 |[],[]=>true
 |k::ks,t::ts=>(KTy P 8 k t&&(k.lev1&&(isAgg P t==!k.one)))&&Q8s P ks ts
 |_,_=>false
theorem View.args:∀ {ks:List Kind}{ts:List TypeId}{vs:List Value}{ds:List (DataW H)}{ps:List MemPlace}{ρ:Plc}{σ:Heap},View w ρ σ→Q8s P ks ts=true→(∀ (j:Nat) t v,ts[j]?=some t→vs[j]?=some v→Value.okWide P w r base t v)→DataW.TrodAll enc P w 0 (fun _=>true) true ts vs ds ps →
  ∃ ρ' σ' mf x,View w ρ' σ'∧More ρ σ ρ' σ'∧LRel ρ' σ'.n mf vs∧RU σ' ks x mf∧AWf ks x
 |[],[],vs,ds,ps,ρ,σ,h,_,_,hA=>by obtain⟨rfl,rfl,rfl⟩:=trodAll_nil hA;exact⟨ρ,σ,[],(),h,More.refl _ _,.nil _ _,rfl,trivial⟩
 |[k],[t],vs,ds,ps,ρ,σ,h,hk,hv,hA=>by obtain⟨v,cA,d,ds',p,q,rfl,rfl,rfl,h1,h2⟩:=trodAll_cons hA;obtain⟨rfl,rfl,rfl⟩:=trodAll_nil h2;simp only[Q8s,Bool.and_eq_true,beq_iff_eq] at hk;obtain⟨ρ',σ',vv,x,k1,k2,k3,k4,k5⟩:=h.arg hk.1.1 hk.1.2.1 hk.1.2.2 (hv 0 t v rfl rfl) h1;exact⟨ρ',σ',[vv],x,k1,k2,.one k3,⟨vv,rfl,k4⟩,k5⟩
 |k::k'::ks,t::ts,vs,ds,ps,ρ,σ,h,hk,hv,hA=>by obtain⟨v,cA,d,ds',p,q,rfl,rfl,rfl,h1,h2⟩:=trodAll_cons hA;simp only[Q8s,Bool.and_eq_true,beq_iff_eq] at hk;obtain⟨ρ1,σ1,vv,x,k1,k2,k3,k4,k5⟩:=h.arg hk.1.1 hk.1.2.1 hk.1.2.2 (hv 0 t v rfl rfl) h1;obtain⟨ρ2,σ2,mf,y,m1,m2,m3,m4,m5⟩:=k1.args (ks:=k'::ks) hk.2 (fun j t v h1 h2=>hv (j+1) t v h1 h2) h2;exact⟨ρ2,σ2,vv::mf,(x,y),m1,k2.trans m2,.cons (k3.mono m2.n m2.pl) m3,⟨vv,mf,rfl,k4.vcall m2.le,m4⟩,k5,m5⟩
 |[],_::_,_,_,_,_,_,_,hk,_,_|_::_,[],_,_,_,_,_,_,hk,_,_|[_],_::_::_,_,_,_,_,_,_,hk,_,_=>by simp[Q8s] at hk
theorem Q0p (hT:Z3t w) {f:Nat}{sp:CSp}(eu:OkC P f sp) (he:XO P f) {ks:List Kind}{ts:List TypeId}{args:Array Value}{ds:List (DataW H)}{ps:List MemPlace}(hk:Q8s P ks ts=true)
  (hv:∀ (j:Nat) t v,ts[j]?=some t→args.toList[j]?=some v→Value.okWide P w r base t v) (hA:DataW.TrodAll enc P w 0 (fun _=>true) true ts args.toList ds ps)
  (hs:∀ x:AT ks,AWf ks x→∃ c,sp (fun _ _=>none) (Sc ks x)=some (c,.val .bo true,[])∧c):Calls P f args w fun e w'=>e=.returned (.bool true)∧Below w.heap.size w w':=by
 obtain⟨ρ,σ,mf,x,k1,k2,k3,k4,k5⟩:=(View.emptyT w hT).args hk hv hA;obtain⟨c,h1,h2⟩:=hs x k5;exact k1.calls k3 (eu.true he (GR k4) h1 h2)
end
end Go.V
namespace Go.V
open Go
theorem PY {H:Type}{enc:TypeId×Value→H}{P:Program}{w:World}{b:Nat}{sp:Nat→Bool}{hd:Bool}:∀ {ts:List TypeId}{vs:List Value}{ds:List (DataW H)}{ps:List MemPlace},DataW.TrodAll enc P w b sp hd ts vs ds ps→ds.length=ts.length
 |[],[],[],_,_=>rfl
 |t::ts,v::vs,d::ds,ps,h=>by obtain⟨p,q,_,h2,_⟩:=h;simp[PY h2]
 |[],[],_::_,_,h|[],_::_,_,_,h|_::_,[],_,_,h|_::_,_::_,[],_,h=>h.elim
end Go.V
namespace Go.Proofs.Tryz
open Go Go.V
noncomputable def Z4m:List (Option FEnt):=[
 none,
 none,
 some (.code c2 [] 1),
 some (.code c3 [.tmp 4] 236),
 some (.code c4 [.tmp 6] 80),
 some (.code c5 [.tmp 4] 82),
 some (.code c6 [.tmp 4] 204),
 some (.code c7 [.tmp 4] 280),
 some (.code c8 [.tmp 6] 337),
 some (.code c9 [.tmp 4] 271),
 some (.code c10 [.tmp 6] 184),
 some (.code c11 [.tmp 4] 14),
 some (.code c12 [.tmp 4] 18),
 some (.code c13 [.tmp 0] 193),
 some (.code c14 [.tmp 2] 6),
 some (.codeJ c15 [.tmp 4,.tmp 5] 15),
 some (.codeJ c16 [.tmp 4,.tmp 5] 18),
 some (.code c17 [.tmp 4] 26),
 some (.code c18 [.tmp 8] 65),
 some (.code c19 [.tmp 4] 29),
 some (.code c20 [.tmp 6] 15),
 some (.code c21 [.tmp 6] 33),
 some (.code c22 [.tmp 6] 31),
 some (.code c23 [.tmp 2] 11),
 some (.codeJ c24 [.tmp 6,.tmp 7] 29),
 some (.code c25 [.tmp 6,.tmp 7] 77),
 some (.code c26 [.tmp 4] 26),
 some (.codeJ c27 [.tmp 4,.tmp 5,.tmp 6] 73),
 some (.code c28 [.tmp 8,.tmp 9] 65),
 some (.code c29 [.tmp 6] 41),
 some (.code c30 [.tmp 2] 32),
 some (.code c31 [.tmp 2] 6),
 some (.codeJ c32 [.cell 6 true 2,.tmp 7,.tmp 8] 37),
 some (.codeJ c33 [.cell 8 true 2,.tmp 9] 103),
 some (.code c34 [.tmp 10,.tmp 11] 83),
 some (.code c35 [.cell 2 true 2] 22),
 some (.code c36 [.tmp 2] 51),
 some (.code c37 [.tmp 4] 39),
 some (.code c38 [.tmp 6] 24),
 some (.codeJ c39 [.cell 4 true 2,.tmp 5] 52),
 some (.code c40 [.tmp 2] 6),
 some (.code c41 [.tmp 2] 6),
 some (.code c42 [.tmp 6,.tmp 7,.tmp 8] 61),
 some (.code c43 [.tmp 2] 44),
 some (.code c44 [.tmp 8] 59),
 some (.code c45 [.tmp 0] 10),
 some (.code c46 [.tmp 2] 9),
 some (.codeJ c47 [.tmp 4,.tmp 5] 23),
 some (.code c48 [.cell 4 true 2] 8),
 some (.code c49 [.tmp 4,.tmp 5,.tmp 6] 29),
 some (.code c50 [.tmp 4] 24),
 some (.code c51 [.cell 4 true 2,.tmp 5] 21),
 some (.code c52 [.tmp 2] 13),
 some (.codeJ c53 [.tmp 4,.tmp 5] 62),
 some (.code c54 [.tmp 4] 40),
 some (.code c55 [.tmp 4] 63),
 some (.codeJ c56 [.tmp 2] 15),
 some (.codeJ c57 [.tmp 6] 21),
 some (.code c58 [.tmp 6] 31),
 some (.code c59 [.cell 6 true 3,.tmp 7] 33),
 some (.codeJ c60 [.tmp 2,.tmp 3] 41),
 some (.code c61 [.tmp 6] 11),
 some (.code c62 [.cell 0 true 2] 2),
 some (.code c63 [.tmp 2] 4),
 some (.code c64 [.cell 6 true 2] 44),
 some (.code c65 [.cell 4 true 2] 16),
 some (.code c66 [.cell 4 true 2] 17),
 some (.code c67 [.tmp 8,.tmp 9] 47),
 some (.code c68 [.tmp 4] 16),
 some (.code c69 [.tmp 2] 10),
 some (.code c70 [.cell 2 true 2] 61),
 some (.code c71 [.tmp 4] 9),
 some (.code c72 [.tmp 3] 9),
 some (.code c73 [.tmp 4] 20),
 some (.code c74 [.tmp 4] 26),
 some (.code c75 [.tmp 4] 17),
 some (.codeJ c76 [.tmp 2] 16),
 some (.code c77 [.tmp 2,.tmp 3] 64),
 some (.codeJ c78 [.tmp 4] 24),
 some (.codeJ c79 [.tmp 4] 38),
 some (.code c80 [.tmp 2] 18),
 some (.code c81 [.tmp 4] 20),
 some (.code c82 [.tmp 4] 36),
 some (.code c83 [.tmp 2] 8),
 some (.code c84 [.tmp 2] 15),
 some (.code c85 [.tmp 4] 9),
 some (.code c86 [.cell 6 true 2] 44),
 some (.code c87 [.tmp 4] 9),
 some (.code c88 [.tmp 4] 13),
 some (.code c89 [] 19),
 some (.code c90 [.tmp 4] 9),
 some (.code c91 [.tmp 2] 6),
 some (.code c92 [.tmp 2] 32),
 some (.code c93 [.tmp 4] 19),
 some (.code c94 [] 9),
 some (.code c95 [.tmp 5] 36),
 some (.code c96 [] 11),
 some (.code c97 [] 14),
 some (.code c98 [.tmp 3] 11),
 some (.code c99 [.tmp 2] 6),
 some (.code Z2x [.tmp 2] 14),
 some (.code Z2c [.tmp 2] 14),
 some (.code Z39 [.tmp 4] 19),
 some (.code Z2l [.tmp 4] 19),
 some (.code Z2h [.tmp 4] 19),
 some (.code Z2s [] 63),
 some (.code Z2e [] 134),
 some (.code Z2b [.tmp 2] 8),
 some (.code Z2f [] 148),
 some (.code Z2u [] 53),
 some (.code Z4d [] 220),
 some (.code Z2p [] 49),
 some (.code Z3e [] 56),
 some (.code Z3f [] 65),
 some (.code Z3j [.tmp 6,.tmp 7] 57),
 some (.code Z4f [] 32),
 some (.code Z45 [.tmp 6] 133),
 some (.code Z2o [.tmp 4] 17),
 some (.code Z37 [.tmp 8] 84),
 some (.code Z41 [.tmp 8,.tmp 9] 168),
 some (.code Z2k [.tmp 2] 19),
 some (.code Z2r [.tmp 2] 25),
 some (.code Z2j [] 53),
 some (.code Z3g [] 60),
 some (.code Z46 [] 67),
 some (.code Z2z [.tmp 8,.tmp 9] 63),
 some (.code Z4i [] 34),
 some (.code Z3c [.tmp 8] 141),
 some (.code Z3n [.tmp 10] 90),
 some (.code Z38 [.tmp 10,.tmp 11] 178),
 some (.code Z49 [] 58),
 some (.code Z47 [] 76),
 some (.code Z3l [.tmp 2] 7),
 some (.code Z3a [.tmp 2] 33),
 some (.code Z31 [.tmp 6] 15),
 some (.code Z3m [.tmp 10] 36),
 some (.code Z48 [] 82),
 some (.code Z3b [.tmp 8] 18),
 some (.code Z3i [.tmp 12] 41),
 some (.code Z4c [] 38),
 some (.code Z4e [.tmp 8,.tmp 9] 28),
 some (.code Z3p [.tmp 10,.tmp 11] 32)]
noncomputable def Z5s:Tab:=fun f=>(Z4m[f]?).join
theorem Q6e:EntsOk Tryz.prog 0 Z4m:=⟨trivial,trivial,Z5b,Z54,Z4o,Z4n,Z5f,Z56,Z4s,fun9,Q92,Q98,Z00,Q7f,Q84,Q7z,Z1g,Q99,Q9j,Z04,Z1b,Z1d,Q9l,Z0d,Q78,Z0z,Z26,Q6j,Q9i,Z21,Q9g,Z0v,Z0c,Z03,Q9e,Z0e,Q8d,Q67,Z0b,Z09,Z1p,Z1w,Z1c,Z1k,Z0a,Z0j,Z27,Z1q,Q7v,Q7x,Z1e,Q6a,Q6h,Q66,Q93,Q6u,Q7m,Q80,Z28,Z23,Z14,Q86,Z0w,Z1v,Z20,Z0r,Z24,Q9p,Z1i,Q71,Q6g,Q9k,Q97,Z0p,Z0m,Q9t,Q8f,Q7t,Q6q,Q8b,Q7y,Q7p,Q8e,Q6b,Z0s,Z0i,Z1l,Q75,Q73,Z0t,Q70,Q6r,Q7e,Z0g,Q8m,Q7a,Q6t,Q65,Q77,Q8p,Q59,Q1z,Q5b,Q0d,Q1f,Q0a,Q20,Q10,Q07,OL,Q4f,Q1i,Q42,Q4s,Q4i,Q4r,Q55,IJ,Q47,Q53,Ou,Q1x,O1,Q4g,Q5k,Q57,Q4e,Q5q,Q45,Q4z,Q5r,Q60,Q4a,Q51,Q44,Q5y,Q4b,Q43,Q4v,Q5i,Q63,Q54,trivial⟩
theorem Qb:TabOk Tryz.prog Z5s:=E4 Q6e
end Go.Proofs.Tryz
namespace Go.Proofs.Tryz
open Go Go.V
def mA1:Memo:=⟨[.int .u64 1],[],.slice (some ⟨0,0,none⟩) 1 1,[⟨[.int .i64 0],⟨1,3⟩,false⟩]⟩
theorem Z1a:Qh Tryz.prog 56 mA1:=Q6 mixed Qb 200 (by kernel_rfl) (by kernel_rfl)
def mA2:Memo:=⟨[.int .u64 2],[],.slice (some ⟨0,0,none⟩) 1 1,[⟨[.int .i64 1],⟨1,3⟩,false⟩]⟩
theorem Z0q:Qh Tryz.prog 56 mA2:=Q6 mixed Qb 200 (by kernel_rfl) (by kernel_rfl)
def mA3:Memo:=⟨[.int .u64 3],[],.slice (some ⟨0,0,none⟩) 2 2,[⟨[.int .i64 0,.int .i64 1],⟨1,3⟩,false⟩]⟩
theorem Q94:Qh Tryz.prog 56 mA3:=Q6 mixed Qb 200 (by kernel_rfl) (by kernel_rfl)
def mA4:Memo:=⟨[.int .u64 4],[],.slice (some ⟨0,0,none⟩) 1 1,[⟨[.int .i64 2],⟨1,3⟩,false⟩]⟩
theorem Z1m:Qh Tryz.prog 56 mA4:=Q6 mixed Qb 200 (by kernel_rfl) (by kernel_rfl)
def mA5:Memo:=⟨[.int .u64 5],[],.slice (some ⟨0,0,none⟩) 2 2,[⟨[.int .i64 0,.int .i64 2],⟨1,3⟩,false⟩]⟩
theorem Z1j:Qh Tryz.prog 56 mA5:=Q6 mixed Qb 200 (by kernel_rfl) (by kernel_rfl)
def mA6:Memo:=⟨[.int .u64 6],[],.slice (some ⟨0,0,none⟩) 2 2,[⟨[.int .i64 1,.int .i64 2],⟨1,3⟩,false⟩]⟩
theorem Q9a:Qh Tryz.prog 56 mA6:=Q6 mixed Qb 200 (by kernel_rfl) (by kernel_rfl)
def mA7:Memo:=⟨[.int .u64 7],[],.slice (some ⟨0,0,none⟩) 3 3,[⟨[.int .i64 0,.int .i64 1,.int .i64 2],⟨1,3⟩,false⟩]⟩
theorem Q9f:Qh Tryz.prog 56 mA7:=Q6 mixed Qb 200 (by kernel_rfl) (by kernel_rfl)
def mA8:Memo:=⟨[.int .u64 8],[],.slice (some ⟨0,0,none⟩) 1 1,[⟨[.int .i64 3],⟨1,3⟩,false⟩]⟩
theorem Q91:Qh Tryz.prog 56 mA8:=Q6 mixed Qb 200 (by kernel_rfl) (by kernel_rfl)
def mA9:Memo:=⟨[.int .u64 9],[],.slice (some ⟨0,0,none⟩) 2 2,[⟨[.int .i64 0,.int .i64 3],⟨1,3⟩,false⟩]⟩
theorem Q9u:Qh Tryz.prog 56 mA9:=Q6 mixed Qb 200 (by kernel_rfl) (by kernel_rfl)
def Z4w:Memo:=⟨[.int .u64 10],[],.slice (some ⟨0,0,none⟩) 2 2,[⟨[.int .i64 1,.int .i64 3],⟨1,3⟩,false⟩]⟩
theorem Q7b:Qh Tryz.prog 56 Z4w:=Q6 mixed Qb 200 (by kernel_rfl) (by kernel_rfl)
def Z5h:Memo:=⟨[.int .u64 11],[],.slice (some ⟨0,0,none⟩) 3 3,[⟨[.int .i64 0,.int .i64 1,.int .i64 3],⟨1,3⟩,false⟩]⟩
theorem Q88:Qh Tryz.prog 56 Z5h:=Q6 mixed Qb 200 (by kernel_rfl) (by kernel_rfl)
def Z51:Memo:=⟨[.int .u64 12],[],.slice (some ⟨0,0,none⟩) 2 2,[⟨[.int .i64 2,.int .i64 3],⟨1,3⟩,false⟩]⟩
theorem Q82:Qh Tryz.prog 56 Z51:=Q6 mixed Qb 200 (by kernel_rfl) (by kernel_rfl)
def Z5m:Memo:=⟨[.int .u64 13],[],.slice (some ⟨0,0,none⟩) 3 3,[⟨[.int .i64 0,.int .i64 2,.int .i64 3],⟨1,3⟩,false⟩]⟩
theorem Q8o:Qh Tryz.prog 56 Z5m:=Q6 mixed Qb 200 (by kernel_rfl) (by kernel_rfl)
def Z5i:Memo:=⟨[.int .u64 14],[],.slice (some ⟨0,0,none⟩) 3 3,[⟨[.int .i64 1,.int .i64 2,.int .i64 3],⟨1,3⟩,false⟩]⟩
theorem Q8q:Qh Tryz.prog 56 Z5i:=Q6 mixed Qb 200 (by kernel_rfl) (by kernel_rfl)
def Z52:Memo:=⟨[.int .u64 15],[],.slice (some ⟨0,0,none⟩) 4 4,[⟨[.int .i64 0,.int .i64 1,.int .i64 2,.int .i64 3],⟨1,3⟩,false⟩]⟩
theorem Q7o:Qh Tryz.prog 56 Z52:=Q6 mixed Qb 200 (by kernel_rfl) (by kernel_rfl)
end Go.Proofs.Tryz
namespace Go.Proofs.Tryz
open Go Go.V
def Q5g:Memo:=⟨[.agg #[.slice (some ⟨0,0,none⟩) 4 4,.int .i64 20],.int .u64 1],[⟨[.int .i64 1,.int .i64 100,.int .i64 110,.int .i64 500,.int .i64 1,.int .i64 105,.int .i64 112,.int .i64 300,.int .i64 1,.int .i64 108,.int .i64 125,.int .i64 400,.int .i64 1,.int .i64 120,.int .i64 130,.int .i64 600],⟨4,78⟩,true⟩],.bool true,[]⟩
theorem Q02:Qh Tryz.prog 79 Q5g:=Q6 mixed Qb 200 (by kernel_rfl) (by kernel_rfl)
def Q4x:Memo:=⟨[.agg #[.slice (some ⟨0,0,none⟩) 4 4,.int .i64 20],.int .u64 2],[⟨[.int .i64 1,.int .i64 100,.int .i64 110,.int .i64 500,.int .i64 1,.int .i64 105,.int .i64 112,.int .i64 300,.int .i64 1,.int .i64 108,.int .i64 125,.int .i64 400,.int .i64 1,.int .i64 120,.int .i64 130,.int .i64 600],⟨4,78⟩,true⟩],.bool true,[]⟩
theorem OO:Qh Tryz.prog 79 Q4x:=Q6 mixed Qb 200 (by kernel_rfl) (by kernel_rfl)
def Q4d:Memo:=⟨[.agg #[.slice (some ⟨0,0,none⟩) 4 4,.int .i64 20],.int .u64 3],[⟨[.int .i64 1,.int .i64 100,.int .i64 110,.int .i64 500,.int .i64 1,.int .i64 105,.int .i64 112,.int .i64 300,.int .i64 1,.int .i64 108,.int .i64 125,.int .i64 400,.int .i64 1,.int .i64 120,.int .i64 130,.int .i64 600],⟨4,78⟩,true⟩],.bool true,[]⟩
theorem OT:Qh Tryz.prog 79 Q4d:=Q6 mixed Qb 200 (by kernel_rfl) (by kernel_rfl)
def Q5x:Memo:=⟨[.agg #[.slice (some ⟨0,0,none⟩) 4 4,.int .i64 20],.int .u64 4],[⟨[.int .i64 1,.int .i64 100,.int .i64 110,.int .i64 500,.int .i64 1,.int .i64 105,.int .i64 112,.int .i64 300,.int .i64 1,.int .i64 108,.int .i64 125,.int .i64 400,.int .i64 1,.int .i64 120,.int .i64 130,.int .i64 600],⟨4,78⟩,true⟩],.bool true,[]⟩
theorem Q1u:Qh Tryz.prog 79 Q5x:=Q6 mixed Qb 200 (by kernel_rfl) (by kernel_rfl)
def Q4j:Memo:=⟨[.agg #[.slice (some ⟨0,0,none⟩) 4 4,.int .i64 20],.int .u64 5],[⟨[.int .i64 1,.int .i64 100,.int .i64 110,.int .i64 500,.int .i64 1,.int .i64 105,.int .i64 112,.int .i64 300,.int .i64 1,.int .i64 108,.int .i64 125,.int .i64 400,.int .i64 1,.int .i64 120,.int .i64 130,.int .i64 600],⟨4,78⟩,true⟩],.bool false,[]⟩
theorem Q1l:Qh Tryz.prog 79 Q4j:=Q6 mixed Qb 200 (by kernel_rfl) (by kernel_rfl)
def Q61:Memo:=⟨[.agg #[.slice (some ⟨0,0,none⟩) 4 4,.int .i64 20],.int .u64 6],[⟨[.int .i64 1,.int .i64 100,.int .i64 110,.int .i64 500,.int .i64 1,.int .i64 105,.int .i64 112,.int .i64 300,.int .i64 1,.int .i64 108,.int .i64 125,.int .i64 400,.int .i64 1,.int .i64 120,.int .i64 130,.int .i64 600],⟨4,78⟩,true⟩],.bool true,[]⟩
theorem Q1e:Qh Tryz.prog 79 Q61:=Q6 mixed Qb 200 (by kernel_rfl) (by kernel_rfl)
def Q5d:Memo:=⟨[.agg #[.slice (some ⟨0,0,none⟩) 4 4,.int .i64 20],.int .u64 7],[⟨[.int .i64 1,.int .i64 100,.int .i64 110,.int .i64 500,.int .i64 1,.int .i64 105,.int .i64 112,.int .i64 300,.int .i64 1,.int .i64 108,.int .i64 125,.int .i64 400,.int .i64 1,.int .i64 120,.int .i64 130,.int .i64 600],⟨4,78⟩,true⟩],.bool false,[]⟩
theorem Q0j:Qh Tryz.prog 79 Q5d:=Q6 mixed Qb 200 (by kernel_rfl) (by kernel_rfl)
def Q5t:Memo:=⟨[.agg #[.slice (some ⟨0,0,none⟩) 4 4,.int .i64 20],.int .u64 8],[⟨[.int .i64 1,.int .i64 100,.int .i64 110,.int .i64 500,.int .i64 1,.int .i64 105,.int .i64 112,.int .i64 300,.int .i64 1,.int .i64 108,.int .i64 125,.int .i64 400,.int .i64 1,.int .i64 120,.int .i64 130,.int .i64 600],⟨4,78⟩,true⟩],.bool true,[]⟩
theorem IU:Qh Tryz.prog 79 Q5t:=Q6 mixed Qb 200 (by kernel_rfl) (by kernel_rfl)
def Q4c:Memo:=⟨[.agg #[.slice (some ⟨0,0,none⟩) 4 4,.int .i64 20],.int .u64 9],[⟨[.int .i64 1,.int .i64 100,.int .i64 110,.int .i64 500,.int .i64 1,.int .i64 105,.int .i64 112,.int .i64 300,.int .i64 1,.int .i64 108,.int .i64 125,.int .i64 400,.int .i64 1,.int .i64 120,.int .i64 130,.int .i64 600],⟨4,78⟩,true⟩],.bool false,[]⟩
theorem Q0c:Qh Tryz.prog 79 Q4c:=Q6 mixed Qb 200 (by kernel_rfl) (by kernel_rfl)
def Oa:Memo:=⟨[.agg #[.slice (some ⟨0,0,none⟩) 4 4,.int .i64 20],.int .u64 10],[⟨[.int .i64 1,.int .i64 100,.int .i64 110,.int .i64 500,.int .i64 1,.int .i64 105,.int .i64 112,.int .i64 300,.int .i64 1,.int .i64 108,.int .i64 125,.int .i64 400,.int .i64 1,.int .i64 120,.int .i64 130,.int .i64 600],⟨4,78⟩,true⟩],.bool false,[]⟩
theorem Il:Qh Tryz.prog 79 Oa:=Q6 mixed Qb 200 (by kernel_rfl) (by kernel_rfl)
def Q1v:Memo:=⟨[.agg #[.slice (some ⟨0,0,none⟩) 4 4,.int .i64 20],.int .u64 11],[⟨[.int .i64 1,.int .i64 100,.int .i64 110,.int .i64 500,.int .i64 1,.int .i64 105,.int .i64 112,.int .i64 300,.int .i64 1,.int .i64 108,.int .i64 125,.int .i64 400,.int .i64 1,.int .i64 120,.int .i64 130,.int .i64 600],⟨4,78⟩,true⟩],.bool false,[]⟩
theorem Iw:Qh Tryz.prog 79 Q1v:=Q6 mixed Qb 200 (by kernel_rfl) (by kernel_rfl)
def IW:Memo:=⟨[.agg #[.slice (some ⟨0,0,none⟩) 4 4,.int .i64 20],.int .u64 12],[⟨[.int .i64 1,.int .i64 100,.int .i64 110,.int .i64 500,.int .i64 1,.int .i64 105,.int .i64 112,.int .i64 300,.int .i64 1,.int .i64 108,.int .i64 125,.int .i64 400,.int .i64 1,.int .i64 120,.int .i64 130,.int .i64 600],⟨4,78⟩,true⟩],.bool false,[]⟩
theorem Fh:Qh Tryz.prog 79 IW:=Q6 mixed Qb 200 (by kernel_rfl) (by kernel_rfl)
def Q0x:Memo:=⟨[.agg #[.slice (some ⟨0,0,none⟩) 4 4,.int .i64 20],.int .u64 13],[⟨[.int .i64 1,.int .i64 100,.int .i64 110,.int .i64 500,.int .i64 1,.int .i64 105,.int .i64 112,.int .i64 300,.int .i64 1,.int .i64 108,.int .i64 125,.int .i64 400,.int .i64 1,.int .i64 120,.int .i64 130,.int .i64 600],⟨4,78⟩,true⟩],.bool false,[]⟩
theorem Fy:Qh Tryz.prog 79 Q0x:=Q6 mixed Qb 200 (by kernel_rfl) (by kernel_rfl)
def Q0u:Memo:=⟨[.agg #[.slice (some ⟨0,0,none⟩) 4 4,.int .i64 20],.int .u64 14],[⟨[.int .i64 1,.int .i64 100,.int .i64 110,.int .i64 500,.int .i64 1,.int .i64 105,.int .i64 112,.int .i64 300,.int .i64 1,.int .i64 108,.int .i64 125,.int .i64 400,.int .i64 1,.int .i64 120,.int .i64 130,.int .i64 600],⟨4,78⟩,true⟩],.bool false,[]⟩
theorem Ii:Qh Tryz.prog 79 Q0u:=Q6 mixed Qb 200 (by kernel_rfl) (by kernel_rfl)
def Q0z:Memo:=⟨[.agg #[.slice (some ⟨0,0,none⟩) 4 4,.int .i64 20],.int .u64 15],[⟨[.int .i64 1,.int .i64 100,.int .i64 110,.int .i64 500,.int .i64 1,.int .i64 105,.int .i64 112,.int .i64 300,.int .i64 1,.int .i64 108,.int .i64 125,.int .i64 400,.int .i64 1,.int .i64 120,.int .i64 130,.int .i64 600],⟨4,78⟩,true⟩],.bool false,[]⟩
theorem Fi:Qh Tryz.prog 79 Q0z:=Q6 mixed Qb 200 (by kernel_rfl) (by kernel_rfl)
def Q4l:Memo:=⟨[.agg #[.slice (some ⟨0,0,none⟩) 4 4,.int .i64 25],.int .u64 1],[⟨[.int .i64 1,.int .i64 100,.int .i64 110,.int .i64 500,.int .i64 1,.int .i64 105,.int .i64 112,.int .i64 300,.int .i64 1,.int .i64 108,.int .i64 125,.int .i64 400,.int .i64 1,.int .i64 120,.int .i64 130,.int .i64 600],⟨4,78⟩,true⟩],.bool true,[]⟩
theorem O6:Qh Tryz.prog 79 Q4l:=Q6 mixed Qb 200 (by kernel_rfl) (by kernel_rfl)
def Q5o:Memo:=⟨[.agg #[.slice (some ⟨0,0,none⟩) 4 4,.int .i64 25],.int .u64 2],[⟨[.int .i64 1,.int .i64 100,.int .i64 110,.int .i64 500,.int .i64 1,.int .i64 105,.int .i64 112,.int .i64 300,.int .i64 1,.int .i64 108,.int .i64 125,.int .i64 400,.int .i64 1,.int .i64 120,.int .i64 130,.int .i64 600],⟨4,78⟩,true⟩],.bool true,[]⟩
theorem OA:Qh Tryz.prog 79 Q5o:=Q6 mixed Qb 200 (by kernel_rfl) (by kernel_rfl)
def Q5a:Memo:=⟨[.agg #[.slice (some ⟨0,0,none⟩) 4 4,.int .i64 25],.int .u64 3],[⟨[.int .i64 1,.int .i64 100,.int .i64 110,.int .i64 500,.int .i64 1,.int .i64 105,.int .i64 112,.int .i64 300,.int .i64 1,.int .i64 108,.int .i64 125,.int .i64 400,.int .i64 1,.int .i64 120,.int .i64 130,.int .i64 600],⟨4,78⟩,true⟩],.bool true,[]⟩
theorem O_:Qh Tryz.prog 79 Q5a:=Q6 mixed Qb 200 (by kernel_rfl) (by kernel_rfl)
def Q62:Memo:=⟨[.agg #[.slice (some ⟨0,0,none⟩) 4 4,.int .i64 25],.int .u64 4],[⟨[.int .i64 1,.int .i64 100,.int .i64 110,.int .i64 500,.int .i64 1,.int .i64 105,.int .i64 112,.int .i64 300,.int .i64 1,.int .i64 108,.int .i64 125,.int .i64 400,.int .i64 1,.int .i64 120,.int .i64 130,.int .i64 600],⟨4,78⟩,true⟩],.bool true,[]⟩
theorem Q06:Qh Tryz.prog 79 Q62:=Q6 mixed Qb 200 (by kernel_rfl) (by kernel_rfl)
def Q4w:Memo:=⟨[.agg #[.slice (some ⟨0,0,none⟩) 4 4,.int .i64 25],.int .u64 5],[⟨[.int .i64 1,.int .i64 100,.int .i64 110,.int .i64 500,.int .i64 1,.int .i64 105,.int .i64 112,.int .i64 300,.int .i64 1,.int .i64 108,.int .i64 125,.int .i64 400,.int .i64 1,.int .i64 120,.int .i64 130,.int .i64 600],⟨4,78⟩,true⟩],.bool true,[]⟩
theorem Q0v:Qh Tryz.prog 79 Q4w:=Q6 mixed Qb 200 (by kernel_rfl) (by kernel_rfl)
def Q48:Memo:=⟨[.agg #[.slice (some ⟨0,0,none⟩) 4 4,.int .i64 25],.int .u64 6],[⟨[.int .i64 1,.int .i64 100,.int .i64 110,.int .i64 500,.int .i64 1,.int .i64 105,.int .i64 112,.int .i64 300,.int .i64 1,.int .i64 108,.int .i64 125,.int .i64 400,.int .i64 1,.int .i64 120,.int .i64 130,.int .i64 600],⟨4,78⟩,true⟩],.bool true,[]⟩
theorem Oy:Qh Tryz.prog 79 Q48:=Q6 mixed Qb 200 (by kernel_rfl) (by kernel_rfl)
def Q5p:Memo:=⟨[.agg #[.slice (some ⟨0,0,none⟩) 4 4,.int .i64 25],.int .u64 8],[⟨[.int .i64 1,.int .i64 100,.int .i64 110,.int .i64 500,.int .i64 1,.int .i64 105,.int .i64 112,.int .i64 300,.int .i64 1,.int .i64 108,.int .i64 125,.int .i64 400,.int .i64 1,.int .i64 120,.int .i64 130,.int .i64 600],⟨4,78⟩,true⟩],.bool true,[]⟩
theorem Oq:Qh Tryz.prog 79 Q5p:=Q6 mixed Qb 200 (by kernel_rfl) (by kernel_rfl)
def Q49:Memo:=⟨[.agg #[.slice (some ⟨0,0,none⟩) 4 4,.int .i64 25],.int .u64 9],[⟨[.int .i64 1,.int .i64 100,.int .i64 110,.int .i64 500,.int .i64 1,.int .i64 105,.int .i64 112,.int .i64 300,.int .i64 1,.int .i64 108,.int .i64 125,.int .i64 400,.int .i64 1,.int .i64 120,.int .i64 130,.int .i64 600],⟨4,78⟩,true⟩],.bool false,[]⟩
theorem O5:Qh Tryz.prog 79 Q49:=Q6 mixed Qb 200 (by kernel_rfl) (by kernel_rfl)
def Q03:Memo:=⟨[.agg #[.slice (some ⟨0,0,none⟩) 4 4,.int .i64 25],.int .u64 10],[⟨[.int .i64 1,.int .i64 100,.int .i64 110,.int .i64 500,.int .i64 1,.int .i64 105,.int .i64 112,.int .i64 300,.int .i64 1,.int .i64 108,.int .i64 125,.int .i64 400,.int .i64 1,.int .i64 120,.int .i64 130,.int .i64 600],⟨4,78⟩,true⟩],.bool true,[]⟩
theorem Fw:Qh Tryz.prog 79 Q03:=Q6 mixed Qb 200 (by kernel_rfl) (by kernel_rfl)
def Q0h:Memo:=⟨[.agg #[.slice (some ⟨0,0,none⟩) 4 4,.int .i64 25],.int .u64 12],[⟨[.int .i64 1,.int .i64 100,.int .i64 110,.int .i64 500,.int .i64 1,.int .i64 105,.int .i64 112,.int .i64 300,.int .i64 1,.int .i64 108,.int .i64 125,.int .i64 400,.int .i64 1,.int .i64 120,.int .i64 130,.int .i64 600],⟨4,78⟩,true⟩],.bool true,[]⟩
theorem F_:Qh Tryz.prog 79 Q0h:=Q6 mixed Qb 200 (by kernel_rfl) (by kernel_rfl)
def Q5v:Memo:=⟨[.agg #[.slice (some ⟨0,0,none⟩) 4 4,.int .i64 16],.int .u64 1],[⟨[.int .i64 1,.int .i64 100,.int .i64 110,.int .i64 500,.int .i64 1,.int .i64 105,.int .i64 112,.int .i64 300,.int .i64 1,.int .i64 108,.int .i64 125,.int .i64 400,.int .i64 1,.int .i64 120,.int .i64 130,.int .i64 600],⟨4,78⟩,true⟩],.bool true,[]⟩
theorem OX:Qh Tryz.prog 79 Q5v:=Q6 mixed Qb 200 (by kernel_rfl) (by kernel_rfl)
def Q5h:Memo:=⟨[.agg #[.slice (some ⟨0,0,none⟩) 4 4,.int .i64 16],.int .u64 2],[⟨[.int .i64 1,.int .i64 100,.int .i64 110,.int .i64 500,.int .i64 1,.int .i64 105,.int .i64 112,.int .i64 300,.int .i64 1,.int .i64 108,.int .i64 125,.int .i64 400,.int .i64 1,.int .i64 120,.int .i64 130,.int .i64 600],⟨4,78⟩,true⟩],.bool true,[]⟩
theorem Q1d:Qh Tryz.prog 79 Q5h:=Q6 mixed Qb 200 (by kernel_rfl) (by kernel_rfl)
def Q5j:Memo:=⟨[.agg #[.slice (some ⟨0,0,none⟩) 4 4,.int .i64 16],.int .u64 4],[⟨[.int .i64 1,.int .i64 100,.int .i64 110,.int .i64 500,.int .i64 1,.int .i64 105,.int .i64 112,.int .i64 300,.int .i64 1,.int .i64 108,.int .i64 125,.int .i64 400,.int .i64 1,.int .i64 120,.int .i64 130,.int .i64 600],⟨4,78⟩,true⟩],.bool false,[]⟩
theorem IV:Qh Tryz.prog 79 Q5j:=Q6 mixed Qb 200 (by kernel_rfl) (by kernel_rfl)
def Q5u:Memo:=⟨[.agg #[.slice (some ⟨0,0,none⟩) 4 4,.int .i64 16],.int .u64 8],[⟨[.int .i64 1,.int .i64 100,.int .i64 110,.int .i64 500,.int .i64 1,.int .i64 105,.int .i64 112,.int .i64 300,.int .i64 1,.int .i64 108,.int .i64 125,.int .i64 400,.int .i64 1,.int .i64 120,.int .i64 130,.int .i64 600],⟨4,78⟩,true⟩],.bool true,[]⟩
theorem Q21:Qh Tryz.prog 79 Q5u:=Q6 mixed Qb 200 (by kernel_rfl) (by kernel_rfl)
end Go.Proofs.Tryz
namespace Go.Proofs.Tryz
open Go Go.V
def mG1:Memo:=⟨[.agg #[.slice (some ⟨0,0,none⟩) 4 4,.int .i64 20],.int .u64 1],[⟨[.int .i64 1,.int .i64 100,.int .i64 110,.int .i64 500,.int .i64 1,.int .i64 105,.int .i64 112,.int .i64 300,.int .i64 1,.int .i64 108,.int .i64 125,.int .i64 400,.int .i64 1,.int .i64 120,.int .i64 130,.int .i64 600],⟨4,78⟩,true⟩],.int .i64 500,[]⟩
theorem Z1o:Qh Tryz.prog 78 mG1:=Q6 mixed Qb 200 (by kernel_rfl) (by kernel_rfl)
def mG2:Memo:=⟨[.agg #[.slice (some ⟨0,0,none⟩) 4 4,.int .i64 20],.int .u64 2],[⟨[.int .i64 1,.int .i64 100,.int .i64 110,.int .i64 500,.int .i64 1,.int .i64 105,.int .i64 112,.int .i64 300,.int .i64 1,.int .i64 108,.int .i64 125,.int .i64 400,.int .i64 1,.int .i64 120,.int .i64 130,.int .i64 600],⟨4,78⟩,true⟩],.int .i64 300,[]⟩
theorem Z0x:Qh Tryz.prog 78 mG2:=Q6 mixed Qb 200 (by kernel_rfl) (by kernel_rfl)
def mG3:Memo:=⟨[.agg #[.slice (some ⟨0,0,none⟩) 4 4,.int .i64 20],.int .u64 3],[⟨[.int .i64 1,.int .i64 100,.int .i64 110,.int .i64 500,.int .i64 1,.int .i64 105,.int .i64 112,.int .i64 300,.int .i64 1,.int .i64 108,.int .i64 125,.int .i64 400,.int .i64 1,.int .i64 120,.int .i64 130,.int .i64 600],⟨4,78⟩,true⟩],.int .i64 800,[]⟩
theorem Z25:Qh Tryz.prog 78 mG3:=Q6 mixed Qb 200 (by kernel_rfl) (by kernel_rfl)
def mG4:Memo:=⟨[.agg #[.slice (some ⟨0,0,none⟩) 4 4,.int .i64 20],.int .u64 4],[⟨[.int .i64 1,.int .i64 100,.int .i64 110,.int .i64 500,.int .i64 1,.int .i64 105,.int .i64 112,.int .i64 300,.int .i64 1,.int .i64 108,.int .i64 125,.int .i64 400,.int .i64 1,.int .i64 120,.int .i64 130,.int .i64 600],⟨4,78⟩,true⟩],.int .i64 400,[]⟩
theorem Z1f:Qh Tryz.prog 78 mG4:=Q6 mixed Qb 200 (by kernel_rfl) (by kernel_rfl)
def mG5:Memo:=⟨[.agg #[.slice (some ⟨0,0,none⟩) 4 4,.int .i64 20],.int .u64 5],[⟨[.int .i64 1,.int .i64 100,.int .i64 110,.int .i64 500,.int .i64 1,.int .i64 105,.int .i64 112,.int .i64 300,.int .i64 1,.int .i64 108,.int .i64 125,.int .i64 400,.int .i64 1,.int .i64 120,.int .i64 130,.int .i64 600],⟨4,78⟩,true⟩],.int .i64 900,[]⟩
theorem Z05:Qh Tryz.prog 78 mG5:=Q6 mixed Qb 200 (by kernel_rfl) (by kernel_rfl)
def mG6:Memo:=⟨[.agg #[.slice (some ⟨0,0,none⟩) 4 4,.int .i64 20],.int .u64 6],[⟨[.int .i64 1,.int .i64 100,.int .i64 110,.int .i64 500,.int .i64 1,.int .i64 105,.int .i64 112,.int .i64 300,.int .i64 1,.int .i64 108,.int .i64 125,.int .i64 400,.int .i64 1,.int .i64 120,.int .i64 130,.int .i64 600],⟨4,78⟩,true⟩],.int .i64 700,[]⟩
theorem Q9m:Qh Tryz.prog 78 mG6:=Q6 mixed Qb 200 (by kernel_rfl) (by kernel_rfl)
def mG7:Memo:=⟨[.agg #[.slice (some ⟨0,0,none⟩) 4 4,.int .i64 20],.int .u64 7],[⟨[.int .i64 1,.int .i64 100,.int .i64 110,.int .i64 500,.int .i64 1,.int .i64 105,.int .i64 112,.int .i64 300,.int .i64 1,.int .i64 108,.int .i64 125,.int .i64 400,.int .i64 1,.int .i64 120,.int .i64 130,.int .i64 600],⟨4,78⟩,true⟩],.int .i64 1200,[]⟩
theorem Z16:Qh Tryz.prog 78 mG7:=Q6 mixed Qb 200 (by kernel_rfl) (by kernel_rfl)
def mG8:Memo:=⟨[.agg #[.slice (some ⟨0,0,none⟩) 4 4,.int .i64 20],.int .u64 8],[⟨[.int .i64 1,.int .i64 100,.int .i64 110,.int .i64 500,.int .i64 1,.int .i64 105,.int .i64 112,.int .i64 300,.int .i64 1,.int .i64 108,.int .i64 125,.int .i64 400,.int .i64 1,.int .i64 120,.int .i64 130,.int .i64 600],⟨4,78⟩,true⟩],.int .i64 600,[]⟩
theorem Z1s:Qh Tryz.prog 78 mG8:=Q6 mixed Qb 200 (by kernel_rfl) (by kernel_rfl)
def mG9:Memo:=⟨[.agg #[.slice (some ⟨0,0,none⟩) 4 4,.int .i64 20],.int .u64 9],[⟨[.int .i64 1,.int .i64 100,.int .i64 110,.int .i64 500,.int .i64 1,.int .i64 105,.int .i64 112,.int .i64 300,.int .i64 1,.int .i64 108,.int .i64 125,.int .i64 400,.int .i64 1,.int .i64 120,.int .i64 130,.int .i64 600],⟨4,78⟩,true⟩],.int .i64 1100,[]⟩
theorem Z02:Qh Tryz.prog 78 mG9:=Q6 mixed Qb 200 (by kernel_rfl) (by kernel_rfl)
def Z5k:Memo:=⟨[.agg #[.slice (some ⟨0,0,none⟩) 4 4,.int .i64 20],.int .u64 10],[⟨[.int .i64 1,.int .i64 100,.int .i64 110,.int .i64 500,.int .i64 1,.int .i64 105,.int .i64 112,.int .i64 300,.int .i64 1,.int .i64 108,.int .i64 125,.int .i64 400,.int .i64 1,.int .i64 120,.int .i64 130,.int .i64 600],⟨4,78⟩,true⟩],.int .i64 900,[]⟩
theorem Q6v:Qh Tryz.prog 78 Z5k:=Q6 mixed Qb 200 (by kernel_rfl) (by kernel_rfl)
def Z4j:Memo:=⟨[.agg #[.slice (some ⟨0,0,none⟩) 4 4,.int .i64 20],.int .u64 11],[⟨[.int .i64 1,.int .i64 100,.int .i64 110,.int .i64 500,.int .i64 1,.int .i64 105,.int .i64 112,.int .i64 300,.int .i64 1,.int .i64 108,.int .i64 125,.int .i64 400,.int .i64 1,.int .i64 120,.int .i64 130,.int .i64 600],⟨4,78⟩,true⟩],.int .i64 1400,[]⟩
theorem Q64:Qh Tryz.prog 78 Z4j:=Q6 mixed Qb 200 (by kernel_rfl) (by kernel_rfl)
def Z4p:Memo:=⟨[.agg #[.slice (some ⟨0,0,none⟩) 4 4,.int .i64 20],.int .u64 12],[⟨[.int .i64 1,.int .i64 100,.int .i64 110,.int .i64 500,.int .i64 1,.int .i64 105,.int .i64 112,.int .i64 300,.int .i64 1,.int .i64 108,.int .i64 125,.int .i64 400,.int .i64 1,.int .i64 120,.int .i64 130,.int .i64 600],⟨4,78⟩,true⟩],.int .i64 1000,[]⟩
theorem Q7j:Qh Tryz.prog 78 Z4p:=Q6 mixed Qb 200 (by kernel_rfl) (by kernel_rfl)
def Z5l:Memo:=⟨[.agg #[.slice (some ⟨0,0,none⟩) 4 4,.int .i64 20],.int .u64 13],[⟨[.int .i64 1,.int .i64 100,.int .i64 110,.int .i64 500,.int .i64 1,.int .i64 105,.int .i64 112,.int .i64 300,.int .i64 1,.int .i64 108,.int .i64 125,.int .i64 400,.int .i64 1,.int .i64 120,.int .i64 130,.int .i64 600],⟨4,78⟩,true⟩],.int .i64 1500,[]⟩
theorem Q6w:Qh Tryz.prog 78 Z5l:=Q6 mixed Qb 200 (by kernel_rfl) (by kernel_rfl)
def Z4x:Memo:=⟨[.agg #[.slice (some ⟨0,0,none⟩) 4 4,.int .i64 20],.int .u64 14],[⟨[.int .i64 1,.int .i64 100,.int .i64 110,.int .i64 500,.int .i64 1,.int .i64 105,.int .i64 112,.int .i64 300,.int .i64 1,.int .i64 108,.int .i64 125,.int .i64 400,.int .i64 1,.int .i64 120,.int .i64 130,.int .i64 600],⟨4,78⟩,true⟩],.int .i64 1300,[]⟩
theorem Q72:Qh Tryz.prog 78 Z4x:=Q6 mixed Qb 200 (by kernel_rfl) (by kernel_rfl)
def Z50:Memo:=⟨[.agg #[.slice (some ⟨0,0,none⟩) 4 4,.int .i64 20],.int .u64 15],[⟨[.int .i64 1,.int .i64 100,.int .i64 110,.int .i64 500,.int .i64 1,.int .i64 105,.int .i64 112,.int .i64 300,.int .i64 1,.int .i64 108,.int .i64 125,.int .i64 400,.int .i64 1,.int .i64 120,.int .i64 130,.int .i64 600],⟨4,78⟩,true⟩],.int .i64 1800,[]⟩
theorem Q76:Qh Tryz.prog 78 Z50:=Q6 mixed Qb 200 (by kernel_rfl) (by kernel_rfl)
end Go.Proofs.Tryz
namespace Go.Proofs.Tryz
open Go Go.V
def Q1m:List Memo:=[mA1,mA2,mA3,mA4,mA5,mA6,mA7,mA8,mA9,Z4w,Z5h,Z51,Z5m,Z5i,Z52]
theorem IB:∀ m∈Q1m,Qh Tryz.prog 56 m:=by
 intro m hm;simp only[Q1m,List.mem_cons,List.not_mem_nil,or_false] at hm;rcases hm with rfl|rfl|rfl|rfl|rfl|rfl|rfl|rfl|rfl|rfl|rfl|rfl|rfl|rfl|rfl
 ·exact Z1a
 ·exact Z0q
 ·exact Q94
 ·exact Z1m
 ·exact Z1j
 ·exact Q9a
 ·exact Q9f
 ·exact Q91
 ·exact Q9u
 ·exact Q7b
 ·exact Q88
 ·exact Q82
 ·exact Q8o
 ·exact Q8q
 ·exact Q7o
def IF:List Memo:=[Q5g,Q4x,Q4d,Q5x,Q4j,Q61,Q5d,Q5t,Q4c,Oa,Q1v,IW,Q0x,Q0u,Q0z,Q4l,Q5o,Q5a,Q62,Q4w,Q48,Q5p,Q49,Q03,Q0h,Q5v,Q5h,Q5j,Q5u]
theorem Q14:∀ m∈IF,Qh Tryz.prog 79 m:=by
 intro m hm;simp only[IF,List.mem_cons,List.not_mem_nil,or_false] at hm;rcases hm with rfl|rfl|rfl|rfl|rfl|rfl|rfl|rfl|rfl|rfl|rfl|rfl|rfl|rfl|rfl|rfl|rfl|rfl|rfl|rfl|rfl|rfl|rfl|rfl|rfl|rfl|rfl|rfl|rfl
 ·exact Q02
 ·exact OO
 ·exact OT
 ·exact Q1u
 ·exact Q1l
 ·exact Q1e
 ·exact Q0j
 ·exact IU
 ·exact Q0c
 ·exact Il
 ·exact Iw
 ·exact Fh
 ·exact Fy
 ·exact Ii
 ·exact Fi
 ·exact O6
 ·exact OA
 ·exact O_
 ·exact Q06
 ·exact Q0v
 ·exact Oy
 ·exact Oq
 ·exact O5
 ·exact Fw
 ·exact F_
 ·exact OX
 ·exact Q1d
 ·exact IV
 ·exact Q21
def Q09:List Memo:=[mG1,mG2,mG3,mG4,mG5,mG6,mG7,mG8,mG9,Z5k,Z4j,Z4p,Z5l,Z4x,Z50]
theorem IS:∀ m∈Q09,Qh Tryz.prog 78 m:=by
 intro m hm;simp only[Q09,List.mem_cons,List.not_mem_nil,or_false] at hm;rcases hm with rfl|rfl|rfl|rfl|rfl|rfl|rfl|rfl|rfl|rfl|rfl|rfl|rfl|rfl|rfl
 ·exact Z1o
 ·exact Z0x
 ·exact Z25
 ·exact Z1f
 ·exact Z05
 ·exact Q9m
 ·exact Z16
 ·exact Z1s
 ·exact Z02
 ·exact Q6v
 ·exact Q64
 ·exact Q7j
 ·exact Q6w
 ·exact Q72
 ·exact Q76
noncomputable def Z5d:List (Option FEnt):=[
 none,
 none,
 some (.code c2 [] 1),
 some (.code c3 [.tmp 4] 236),
 some (.code c4 [.tmp 6] 80),
 some (.code c5 [.tmp 4] 82),
 some (.code c6 [.tmp 4] 204),
 some (.code c7 [.tmp 4] 280),
 some (.code c8 [.tmp 6] 337),
 some (.code c9 [.tmp 4] 271),
 some (.code c10 [.tmp 6] 184),
 some (.code c11 [.tmp 4] 14),
 some (.code c12 [.tmp 4] 18),
 some (.code c13 [.tmp 0] 193),
 some (.code c14 [.tmp 2] 6),
 some (.codeJ c15 [.tmp 4,.tmp 5] 15),
 some (.codeJ c16 [.tmp 4,.tmp 5] 18),
 some (.code c17 [.tmp 4] 26),
 some (.code c18 [.tmp 8] 65),
 some (.code c19 [.tmp 4] 29),
 some (.code c20 [.tmp 6] 15),
 some (.code c21 [.tmp 6] 33),
 some (.code c22 [.tmp 6] 31),
 some (.code c23 [.tmp 2] 11),
 some (.codeJ c24 [.tmp 6,.tmp 7] 29),
 some (.code c25 [.tmp 6,.tmp 7] 77),
 some (.code c26 [.tmp 4] 26),
 some (.codeJ c27 [.tmp 4,.tmp 5,.tmp 6] 73),
 some (.code c28 [.tmp 8,.tmp 9] 65),
 some (.code c29 [.tmp 6] 41),
 some (.code c30 [.tmp 2] 32),
 some (.code c31 [.tmp 2] 6),
 some (.codeJ c32 [.cell 6 true 2,.tmp 7,.tmp 8] 37),
 some (.codeJ c33 [.cell 8 true 2,.tmp 9] 103),
 some (.code c34 [.tmp 10,.tmp 11] 83),
 some (.code c35 [.cell 2 true 2] 22),
 some (.code c36 [.tmp 2] 51),
 some (.code c37 [.tmp 4] 39),
 some (.code c38 [.tmp 6] 24),
 some (.codeJ c39 [.cell 4 true 2,.tmp 5] 52),
 some (.code c40 [.tmp 2] 6),
 some (.code c41 [.tmp 2] 6),
 some (.code c42 [.tmp 6,.tmp 7,.tmp 8] 61),
 some (.code c43 [.tmp 2] 44),
 some (.code c44 [.tmp 8] 59),
 some (.code c45 [.tmp 0] 10),
 some (.code c46 [.tmp 2] 9),
 some (.codeJ c47 [.tmp 4,.tmp 5] 23),
 some (.code c48 [.cell 4 true 2] 8),
 some (.code c49 [.tmp 4,.tmp 5,.tmp 6] 29),
 some (.code c50 [.tmp 4] 24),
 some (.code c51 [.cell 4 true 2,.tmp 5] 21),
 some (.code c52 [.tmp 2] 13),
 some (.codeJ c53 [.tmp 4,.tmp 5] 62),
 some (.code c54 [.tmp 4] 40),
 some (.code c55 [.tmp 4] 63),
 some (.codeM c56 [.tmp 2] 15 Q1m),
 some (.codeJ c57 [.tmp 6] 21),
 some (.code c58 [.tmp 6] 31),
 some (.code c59 [.cell 6 true 3,.tmp 7] 33),
 some (.codeJ c60 [.tmp 2,.tmp 3] 41),
 some (.code c61 [.tmp 6] 11),
 some (.code c62 [.cell 0 true 2] 2),
 some (.code c63 [.tmp 2] 4),
 some (.code c64 [.cell 6 true 2] 44),
 some (.code c65 [.cell 4 true 2] 16),
 some (.code c66 [.cell 4 true 2] 17),
 some (.code c67 [.tmp 8,.tmp 9] 47),
 some (.code c68 [.tmp 4] 16),
 some (.code c69 [.tmp 2] 10),
 some (.code c70 [.cell 2 true 2] 61),
 some (.code c71 [.tmp 4] 9),
 some (.code c72 [.tmp 3] 9),
 some (.code c73 [.tmp 4] 20),
 some (.code c74 [.tmp 4] 26),
 some (.code c75 [.tmp 4] 17),
 some (.codeJ c76 [.tmp 2] 16),
 some (.code c77 [.tmp 2,.tmp 3] 64),
 some (.codeM c78 [.tmp 4] 24 Q09),
 some (.codeM c79 [.tmp 4] 38 IF),
 some (.code c80 [.tmp 2] 18),
 some (.code c81 [.tmp 4] 20),
 some (.code c82 [.tmp 4] 36),
 some (.code c83 [.tmp 2] 8),
 some (.code c84 [.tmp 2] 15),
 some (.code c85 [.tmp 4] 9),
 some (.code c86 [.cell 6 true 2] 44),
 some (.code c87 [.tmp 4] 9),
 some (.code c88 [.tmp 4] 13),
 some (.code c89 [] 19),
 some (.code c90 [.tmp 4] 9),
 some (.code c91 [.tmp 2] 6),
 some (.code c92 [.tmp 2] 32),
 some (.code c93 [.tmp 4] 19),
 some (.code c94 [] 9),
 some (.code c95 [.tmp 5] 36),
 some (.code c96 [] 11),
 some (.code c97 [] 14),
 some (.code c98 [.tmp 3] 11),
 some (.code c99 [.tmp 2] 6),
 some (.code Z2x [.tmp 2] 14),
 some (.code Z2c [.tmp 2] 14),
 some (.code Z39 [.tmp 4] 19),
 some (.code Z2l [.tmp 4] 19),
 some (.code Z2h [.tmp 4] 19),
 some (.code Z2s [] 63),
 some (.code Z2e [] 134),
 some (.code Z2b [.tmp 2] 8),
 some (.code Z2f [] 148),
 some (.code Z2u [] 53),
 some (.code Z4d [] 220),
 some (.code Z2p [] 49),
 some (.code Z3e [] 56),
 some (.code Z3f [] 65),
 some (.code Z3j [.tmp 6,.tmp 7] 57),
 some (.code Z4f [] 32),
 some (.code Z45 [.tmp 6] 133),
 some (.code Z2o [.tmp 4] 17),
 some (.code Z37 [.tmp 8] 84),
 some (.code Z41 [.tmp 8,.tmp 9] 168),
 some (.code Z2k [.tmp 2] 19),
 some (.code Z2r [.tmp 2] 25),
 some (.code Z2j [] 53),
 some (.code Z3g [] 60),
 some (.code Z46 [] 67),
 some (.code Z2z [.tmp 8,.tmp 9] 63),
 some (.code Z4i [] 34),
 some (.code Z3c [.tmp 8] 141),
 some (.code Z3n [.tmp 10] 90),
 some (.code Z38 [.tmp 10,.tmp 11] 178),
 some (.code Z49 [] 58),
 some (.code Z47 [] 76),
 some (.code Z3l [.tmp 2] 7),
 some (.code Z3a [.tmp 2] 33),
 some (.code Z31 [.tmp 6] 15),
 some (.code Z3m [.tmp 10] 36),
 some (.code Z48 [] 82),
 some (.code Z3b [.tmp 8] 18),
 some (.code Z3i [.tmp 12] 41),
 some (.code Z4c [] 38),
 some (.code Z4e [.tmp 8,.tmp 9] 28),
 some (.code Z3p [.tmp 10,.tmp 11] 32)]
noncomputable def tab:Tab:=fun f=>(Z5d[f]?).join
theorem Q79:EntsOk Tryz.prog 0 Z5d:=⟨trivial,trivial,Z5b,Z54,Z4o,Z4n,Z5f,Z56,Z4s,fun9,Q92,Q98,Z00,Q7f,Q84,Q7z,Z1g,Q99,Q9j,Z04,Z1b,Z1d,Q9l,Z0d,Q78,Z0z,Z26,Q6j,Q9i,Z21,Q9g,Z0v,Z0c,Z03,Q9e,Z0e,Q8d,Q67,Z0b,Z09,Z1p,Z1w,Z1c,Z1k,Z0a,Z0j,Z27,Z1q,Q7v,Q7x,Z1e,Q6a,Q6h,Q66,Q93,Q6u,⟨Q7m,IB⟩,Q80,Z28,Z23,Z14,Q86,Z0w,Z1v,Z20,Z0r,Z24,Q9p,Z1i,Q71,Q6g,Q9k,Q97,Z0p,Z0m,Q9t,Q8f,Q7t,⟨Q6q,IS⟩,⟨Q8b,Q14⟩,Q7y,Q7p,Q8e,Q6b,Z0s,Z0i,Z1l,Q75,Q73,Z0t,Q70,Q6r,Q7e,Z0g,Q8m,Q7a,Q6t,Q65,Q77,Q8p,Q59,Q1z,Q5b,Q0d,Q1f,Q0a,Q20,Q10,Q07,OL,Q4f,Q1i,Q42,Q4s,Q4i,Q4r,Q55,IJ,Q47,Q53,Ou,Q1x,O1,Q4g,Q5k,Q57,Q4e,Q5q,Q45,Q4z,Q5r,Q60,Q4a,Q51,Q44,Q5y,Q4b,Q43,Q4v,Q5i,Q63,Q54,trivial⟩
theorem Z0l:TabOk Tryz.prog tab:=E4 Q79
theorem Ok:L2 tab 300 U6 [] c13 none (ET.of [] 193) CH.empty (Q6i false [.tmp 0] fun v _=>isTrue v)=true:=by kernel_rfl
theorem Q2q {σ:Heap}{K:Value→Heap→Prop}(hK:K (.bool true) σ):VCalled Tryz.prog 13 [] σ K:=Q2d mixed Z0l 300 Q7f (by decide) Ok hK
end Go.Proofs.Tryz
set_option linter.unusedVariables false
namespace Go.Proofs.Tryz
open Go Go.V Go.Proofs
def TX:AL (Unit):=.nil
def Ps (d:Unit):Prop:=True
def Pq (d:Unit):SV:=.val .bo true
def Pt (d:Unit):List OB:=[]
def Bj:CSp:=YO TX Ps Pq Pt
abbrev TU:Prop:=OkC Tryz.prog 13 Bj
theorem TP:TU:=Q2y fun _ _ h=>Q2q h
end Go.Proofs.Tryz
set_option linter.unusedVariables false
namespace Go.Proofs.Tryz
open Go Go.V Go.Proofs
abbrev Lot:=Int×(Int×Int)×Int
def Zg:Lot:=(0,((0,0),0))
def Qw (x:Lot):Bool:=inI x.1 0 9&&(inI x.2.1.1 0 1000&&inI x.2.1.2 0 1000)&&decide (x.2.1.1≤x.2.1.2)&&inI x.2.2 1 1000000
def Qj (l:List Lot):Int:=if 12<l.length then 5 else if l.any (fun x=>!Qw x) then 2 else 0
def Lw (a b:Lot):Int:=HY (a.2.1.2-b.2.1.1) (b.2.1.2-a.2.1.1)
def Z2g (s:Int×Int×Int×Int) (y:Lot):Int×Int×Int×Int:=(HY s.1 y.2.1.1,TJ s.2.1 y.2.1.2,TJ s.2.2.1 y.2.1.1,HY s.2.2.2 y.2.1.2)
def Nc (l:List Lot) (k:Nat):Int×Int×Int×Int:=(l.take k).foldl Z2g ((l.getD 0 Zg).2.1.1,(l.getD 0 Zg).2.1.2,(l.getD 0 Zg).2.1.1,(l.getD 0 Zg).2.1.2)
def Q5s (l:List Lot):Sp:=(HY 0 ((Nc l l.length).1-(Nc l l.length).2.1),(Nc l l.length).2.2.2-(Nc l l.length).2.2.1)
def Kt (l:List Lot) (sm:List Int):List Lot:=sm.map fun i=>l.getD i.toNat Zg
theorem Bd {x:Lot}:Qw x=true↔(0≤x.1∧x.1≤9)∧(0≤x.2.1.1∧x.2.1.1≤1000)∧(0≤x.2.1.2∧x.2.1.2≤1000)∧x.2.1.1≤x.2.1.2∧1≤x.2.2∧x.2.2≤1000000:=by simp only[Qw,inI,Bool.and_eq_true,decide_eq_true_eq];omega
theorem Ek {l:List Lot}(h:l≠[]):Nc l 1=((l.getD 0 Zg).2.1.1,(l.getD 0 Zg).2.1.2,(l.getD 0 Zg).2.1.1,(l.getD 0 Zg).2.1.2):=by
 cases l with
 |nil=>exact(h rfl).elim
 |cons x l =>
  have g:∀ a:Int,HY a a=a:=fun a=>by rw[NV];omega
  have m:∀ a:Int,TJ a a=a:=fun a=>by rw[SU];omega
  simp[Nc,Z2g,g,m]
theorem Cp {l:List Lot}{k:Nat}(h:k<l.length):Nc l (k+1)=Z2g (Nc l k) l[k]:=by unfold Nc;rw[ZV h,List.foldl_append];rfl
theorem TF {l:List Lot}(h:l≠[]):∀ k,1≤k→k≤l.length →
  (∀ i,i<k→(l.getD i Zg).2.1.1≤(Nc l k).1∧(Nc l k).2.1≤(l.getD i Zg).2.1.2∧(Nc l k).2.2.1≤(l.getD i Zg).2.1.1∧(l.getD i Zg).2.1.2≤(Nc l k).2.2.2) ∧
  (∃ i,i<k∧(Nc l k).1=(l.getD i Zg).2.1.1)∧(∃ i,i<k∧(Nc l k).2.1=(l.getD i Zg).2.1.2)∧(∃ i,i<k∧(Nc l k).2.2.1=(l.getD i Zg).2.1.1)∧∃ i,i<k∧(Nc l k).2.2.2=(l.getD i Zg).2.1.2
 |0,h1,_=>by omega
 |1,_,_=>by
  rw[Ek h];refine⟨fun i hi=>?_,⟨0,by omega,rfl⟩,⟨0,by omega,rfl⟩,⟨0,by omega,rfl⟩,⟨0,by omega,rfl⟩⟩;have:i=0:=by omega
  subst this;exact⟨Int.le_refl _,Int.le_refl _,Int.le_refl _,Int.le_refl _⟩
 |k+2,_,hk=>by
  obtain⟨a,⟨i1,b1,c1⟩,⟨i2,b2,c2⟩,⟨i3,b3,c3⟩,⟨i4,b4,c4⟩⟩:=TF h (k+1) (by omega) (by omega);rw[Cp (show k+1<l.length by omega)];have bc:l.getD (k+1) Zg=l[k+1]:=Qa (by omega);have e1:=NV (Nc l (k+1)).1 l[k+1].2.1.1;have e2:=SU (Nc l (k+1)).2.1 l[k+1].2.1.2;have e3:=SU (Nc l (k+1)).2.2.1 l[k+1].2.1.1;have e4:=NV (Nc l (k+1)).2.2.2 l[k+1].2.1.2;unfold Z2g;dsimp only;refine⟨fun i hi=>?_,?_,?_,?_,?_⟩
  ·by_cases h5:i=k+1
   ·subst h5;rw[bc];omega
   ·have:=a i (by omega);omega
  ·by_cases h5:(Nc l (k+1)).1≤l[k+1].2.1.1
   ·exact⟨k+1,by omega,by rw[bc];omega⟩
   ·exact⟨i1,by omega,by omega⟩
  ·by_cases h5:l[k+1].2.1.2≤(Nc l (k+1)).2.1
   ·exact⟨k+1,by omega,by rw[bc];omega⟩
   ·exact⟨i2,by omega,by omega⟩
  ·by_cases h5:l[k+1].2.1.1≤(Nc l (k+1)).2.2.1
   ·exact⟨k+1,by omega,by rw[bc];omega⟩
   ·exact⟨i3,by omega,by omega⟩
  ·by_cases h5:(Nc l (k+1)).2.2.2≤l[k+1].2.1.2
   ·exact⟨k+1,by omega,by rw[bc];omega⟩
   ·exact⟨i4,by omega,by omega⟩
theorem DM (a:Int) (b:Bool) (m:List (Int×Bool)) (e:Int) (d:Bool):gq.aget (.i .i64) ((a,b)::m) e d=if e=a then b else gq.aget (.i .i64) m e d:=by show (if (e==a)=true then b else gq.aget (.i .i64) m e d)=_;simp only[beq_iff_eq]
theorem Q0l (a:Int) (b:Bool) (m:List (Int×Bool)) (k:Int) (v:Bool):S4 (.i .i64) ((a,b)::m) k v=if k=a then (k,v)::m else (a,b)::S4 (.i .i64) m k v:=by show (if (k==a)=true then (k,v)::m else (a,b)::S4 (.i .i64) m k v)=_;simp only[beq_iff_eq]
theorem OP (m:List (Int×Bool)) (k:Int) (v:Bool) (e:Int) (d:Bool):gq.aget (.i .i64) (S4 (.i .i64) m k v) e d=if e=k then v else gq.aget (.i .i64) m e d:=by
 induction m with
 |nil=>exact DM k v [] e d
 |cons p m ih =>
  obtain⟨a,b⟩:=p;rw[Q0l,DM];by_cases h:k=a
  ·subst h;rw[if_pos rfl,DM];split<;>rfl
  ·rw[if_neg h,DM,ih];by_cases h2:e=a
   ·subst h2;rw[if_pos rfl,if_neg (Ne.symm h),if_pos rfl]
   ·rw[if_neg h2,if_neg h2]
end Go.Proofs.Tryz
set_option linter.unusedVariables false
namespace Go.Proofs.Tryz
open Go Go.V Go.Proofs
def Gm:AL (Int×Int×Int×Int):=(.one (.agg (.cons (.k (.i .i64)) (.cons (.k (.i .i64)) (.cons (.k (.i .i64)) (.one (.k (.i .i64))))))))
def PN (d:Int×Int×Int×Int):Prop:=True
def NS (d:Int×Int×Int×Int):SV:=.val .bo (Qw (d.1,(d.2.1,d.2.2.1),d.2.2.2))
def Ma (d:Int×Int×Int×Int):List OB:=[]
def N4:CSp:=YO Gm PN NS Ma
def Yo (lc:Int) (lo:Int) (hi:Int) (lg:Int):Prop :=
 ([lc].length≤1000000)∧((!([lc].any fun n=>decide (n<(0:Int))||decide ((9:Int)<n)))=true→True)∧((!([lc].any fun n=>decide (n<(0:Int))||decide ((9:Int)<n)))=true→[lo,hi].length≤1000000)∧((((!([lc].any fun n=>decide (n<(0:Int))||decide ((9:Int)<n)))&&(!([lo,hi].any fun n=>decide (n<(0:Int))||decide ((1000:Int)<n))))&&(decide (lo≤hi)))=true→True)∧((((!([lc].any fun n=>decide (n<(0:Int))||decide ((9:Int)<n)))&&(!([lo,hi].any fun n=>decide (n<(0:Int))||decide ((1000:Int)<n))))&&(decide (lo≤hi)))=true→[lg].length≤1000000)∧(((((!([lc].any fun n=>decide (n<(0:Int))||decide ((9:Int)<n)))&&(!([lo,hi].any fun n=>decide (n<(0:Int))||decide ((1000:Int)<n))))&&(decide (lo≤hi)))&&(!([lg].any fun n=>decide (n<(1:Int))||decide ((1000000:Int)<n))))=(Qw (lc,(lo,hi),lg))∧(True))
def Gc:Cx:=⟨[(3,(.i .i64))],[(61,Zn)],32,[],0,[],[],[],[],false,[],[],[],[]⟩
def TL (lc:Int) (lo:Int) (hi:Int) (lg:Int):List (Nat×LoopAnn):=[]
set_option maxRecDepth 100000 in
theorem R0 (d:Int×Int×Int×Int):gwp (Gc) (TL d.1 d.2.1 d.2.2.1 d.2.2.2) c92 0 (VT [.tmp 2] (NS d) (Ma d)) (Qt 32 (AL.can Gm d))=Yo d.1 d.2.1 d.2.2.1 d.2.2.2:=by kernel_rfl
abbrev R8:Prop:=OkC Tryz.prog 92 N4
theorem TM (h:∀ (lc:Int) (lo:Int) (hi:Int) (lg:Int),(True)→Yo lc lo hi lg):OkC Tryz.prog 92 N4 :=
 Z7 Q7e mixed (C:=Gc) (V:=fun (d:Int×Int×Int×Int)=>Yo d.1 d.2.1 d.2.2.1 d.2.2.2) ⟨(.cons Jl .nil),XsOk.nil,ItsOk.nil,YlOk.nil,IysOk.nil,XfOk.nil⟩ (R0) fun d hp=>h d.1 d.2.1 d.2.2.1 d.2.2.2 hp
theorem T_:R8:=TM fun lc lo hi lg _=>by unfold Yo;(try delta lI gD sT I64);have e:∀ n a b:Int,(decide (n<a)||decide (b<n))=!inI n a b:=fun n a b=>(nI n a b).symm;simp only[List.any_cons,List.any_nil,Bool.or_false,e,Bool.not_not,List.length_cons,List.length_nil,Bool.not_or];refine⟨by omega,fun _=>trivial,fun _=>by omega,fun _=>trivial,fun _=>by omega,?_⟩;and_intros<;>first|rfl|trivial
def Na:AL (Int×Int×Int×Int):=(.one (.agg (.cons (.k (.i .i64)) (.cons (.k (.i .i64)) (.cons (.k (.i .i64)) (.one (.k (.i .i64))))))))
def BP (d:Int×Int×Int×Int):Prop:=True
def UA (d:Int×Int×Int×Int):SV:=.val .bo (!Qw (d.1,(d.2.1,d.2.2.1),d.2.2.2))
def UH (d:Int×Int×Int×Int):List OB:=[]
def KI:CSp:=YO Na BP UA UH
def XT (lc:Int) (lo:Int) (hi:Int) (lg:Int):Prop :=
 (True)∧((!(Qw (lc,(lo,hi),lg)))=(!Qw (lc,(lo,hi),lg))∧(True))
def Nq:Cx:=⟨[],[(92,N4)],6,[],0,[],[],[],[],false,[],[],[],[]⟩
def Hx (lc:Int) (lo:Int) (hi:Int) (lg:Int):List (Nat×LoopAnn):=[]
set_option maxRecDepth 100000 in
theorem HP (d:Int×Int×Int×Int):gwp (Nq) (Hx d.1 d.2.1 d.2.2.1 d.2.2.2) c91 0 (VT [.tmp 2] (UA d) (UH d)) (Qt 6 (AL.can Na d))=XT d.1 d.2.1 d.2.2.1 d.2.2.2:=by kernel_rfl
abbrev HS:Prop:=OkC Tryz.prog 91 KI
theorem Hw (h:∀ (lc:Int) (lo:Int) (hi:Int) (lg:Int),(True)→XT lc lo hi lg):OkC Tryz.prog 91 KI :=
 Z7 Q6r mixed (C:=Nq) (V:=fun (d:Int×Int×Int×Int)=>XT d.1 d.2.1 d.2.2.1 d.2.2.2) ⟨(.cons T_ .nil),XsOk.nil,ItsOk.nil,YlOk.nil,IysOk.nil,XfOk.nil⟩ (HP) fun d hp=>h d.1 d.2.1 d.2.2.1 d.2.2.2 hp
theorem Ht:HS:=Hw fun lc lo hi lg _=>by unfold XT;(try delta lI gD sT I64);and_intros<;>first|rfl|trivial
def QL:AL ((List (Int×(Int×Int)×Int))×((Int×(Int×Int)×Int→Prop)×(Int×(Int×Int)×Int→Bool))):=(.cons (.k (.list (.pair (.i .i64) (.pair (.pair (.i .i64) (.i .i64)) (.i .i64))))) (.one (.fn [(.pair (.i .i64) (.pair (.pair (.i .i64) (.i .i64)) (.i .i64)))] .bo)))
def Jd (d:(List (Int×(Int×Int)×Int))×((Int×(Int×Int)×Int→Prop)×(Int×(Int×Int)×Int→Bool))):Prop:=d.1.length≤1000000∧∀ x∈d.1,d.2.1 x
def QF (d:(List (Int×(Int×Int)×Int))×((Int×(Int×Int)×Int→Prop)×(Int×(Int×Int)×Int→Bool))):SV:=.val (.i .i64) (Q0g d.1 d.2.2)
def QG (d:(List (Int×(Int×Int)×Int))×((Int×(Int×Int)×Int→Prop)×(Int×(Int×Int)×Int→Bool))):List OB:=[]
def Qp:CSp:=YO QL Jd QF QG
def Qe (l:List (Int×(Int×Int)×Int)) (p:(Int×(Int×Int)×Int→Prop)×(Int×(Int×Int)×Int→Bool)):Prop :=
 ∃ (e2:Unit) (d20:Int),((l=l∧(SV.pf [(.pair (.i .i64) (.pair (.pair (.i .i64) (.i .i64)) (.i .i64)))] .bo p.1 p.2=SV.pf [(.pair (.i .i64) (.pair (.pair (.i .i64) (.i .i64)) (.i .i64)))] .bo p.1 p.2)∧(lI l)=(lI l)∧(0:Int)=d20∧True)∧(True)) ∧
 LoopP (fun (d2:Int) (q2:(Int)→Prop) =>
  ((decide (d2<(lI l)))=true →
   (0≤d2)∧(d2<(List.length l))∧(p.1 ((gD l d2 (0,((0,0),0))).1,(((gD l d2 (0,((0,0),0))).2.1.1,(gD l d2 (0,((0,0),0))).2.1.2),(gD l d2 (0,((0,0),0))).2.2)))∧((p.2 ((gD l d2 (0,((0,0),0))).1,(((gD l d2 (0,((0,0),0))).2.1.1,(gD l d2 (0,((0,0),0))).2.1.2),(gD l d2 (0,((0,0),0))).2.2)))=true →
    (d2=(Q0g l p.2)∧(True))) ∧
   ((p.2 ((gD l d2 (0,((0,0),0))).1,(((gD l d2 (0,((0,0),0))).2.1.1,(gD l d2 (0,((0,0),0))).2.1.2),(gD l d2 (0,((0,0),0))).2.2)))=false →
    (I64 (d2+(1:Int)))∧(∃ d3:Int,((l=l∧(SV.pf [(.pair (.i .i64) (.pair (.pair (.i .i64) (.i .i64)) (.i .i64)))] .bo p.1 p.2=SV.pf [(.pair (.i .i64) (.pair (.pair (.i .i64) (.i .i64)) (.i .i64)))] .bo p.1 p.2)∧(lI l)=(lI l)∧(d2+(1:Int))=d3∧True)∧(True))∧q2 d3))) ∧
  ((decide (d2<(lI l)))=false →
   ((-1:Int)=(Q0g l p.2)∧(True)))) d20
def QN:Cx:=⟨[],[],19,[],0,[],[],[],[],false,[],[],[],[]⟩
def Jp (l:List (Int×(Int×Int)×Int)) (p:(Int×(Int×Int)×Int→Prop)×(Int×(Int×Int)×Int→Bool)):List (Nat×LoopAnn):=[(0,⟨Unit,Int,[0,1,7,8],fun e x=>[.val (.list (.pair (.i .i64) (.pair (.pair (.i .i64) (.i .i64)) (.i .i64)))) l,.pf [(.pair (.i .i64) (.pair (.pair (.i .i64) (.i .i64)) (.i .i64)))] .bo p.1 p.2,.val (.i .i64) (((List.length l):Nat):Int),.val (.i .i64) x],fun e x=>[]⟩)]
set_option maxRecDepth 100000 in
theorem Jj (d:(List (Int×(Int×Int)×Int))×((Int×(Int×Int)×Int→Prop)×(Int×(Int×Int)×Int→Bool))):gwp (QN) (Jp d.1 d.2) Z2h 0 (VT [.tmp 4] (QF d) (QG d)) (Qt 19 (AL.can QL d))=Qe d.1 d.2:=by kernel_rfl
abbrev Jk:Prop:=OkC Tryz.prog 104 Qp
theorem Jq (h:∀ (l:List (Int×(Int×Int)×Int)) (p:(Int×(Int×Int)×Int→Prop)×(Int×(Int×Int)×Int→Bool)),(l.length≤1000000∧∀ x∈l,p.1 x)→Qe l p):OkC Tryz.prog 104 Qp :=
 Z7 Q1f mixed (C:=QN) (V:=fun (d:(List (Int×(Int×Int)×Int))×((Int×(Int×Int)×Int→Prop)×(Int×(Int×Int)×Int→Bool)))=>Qe d.1 d.2) ⟨.nil,XsOk.nil,ItsOk.nil,YlOk.nil,IysOk.nil,XfOk.nil⟩ (Jj) fun d hp=>h d.1 d.2 hp
theorem Js:Jk:=Jq fun l p hp=>by
 unfold Qe;(try delta lI gD sT I64);simp only[true_and,and_true,exists_eq_left',exists_const,decide_eq_true_eq,decide_eq_false_iff_not];refine LoopP.count l.length (fun k=>(l.take k).any p.2=false) (by simp) fun k bc hJ q hq=>?_;simp only[Int.toNat_natCast,Int.ofNat_lt,Z3];refine⟨fun ai=>?_,fun bt=>?_⟩
 ·have ai:k<l.length:=by omega
  rw[Qa ai];refine⟨by omega,by omega,hp.2 _ (List.getElem_mem ai),fun hx=>?_,fun hx=>⟨by omega,hq ai ?_⟩⟩
  ·rw[ID ai hx hJ]
  ·rw[ZV ai,List.any_append,hJ];simp[hx]
 ·rw[List.take_of_length_le (by omega)] at hJ;rw[Ab hJ]
def QE:AL ((List (Int×(Int×Int)×Int))×((Int×(Int×Int)×Int→Prop)×(Int×(Int×Int)×Int→Bool))):=(.cons (.k (.list (.pair (.i .i64) (.pair (.pair (.i .i64) (.i .i64)) (.i .i64))))) (.one (.fn [(.pair (.i .i64) (.pair (.pair (.i .i64) (.i .i64)) (.i .i64)))] .bo)))
def ZN (d:(List (Int×(Int×Int)×Int))×((Int×(Int×Int)×Int→Prop)×(Int×(Int×Int)×Int→Bool))):Prop:=d.1.length≤1000000∧∀ x∈d.1,d.2.1 x
def Qy (d:(List (Int×(Int×Int)×Int))×((Int×(Int×Int)×Int→Prop)×(Int×(Int×Int)×Int→Bool))):SV:=.val .bo (d.1.any d.2.2)
def Qz (d:(List (Int×(Int×Int)×Int))×((Int×(Int×Int)×Int→Prop)×(Int×(Int×Int)×Int→Bool))):List OB:=[]
def Qd:CSp:=YO QE ZN Qy Qz
def Qc (l:List (Int×(Int×Int)×Int)) (p:(Int×(Int×Int)×Int→Prop)×(Int×(Int×Int)×Int→Bool)):Prop :=
 (l.length≤1000000∧∀ x∈l,(fun (x1:Int×(Int×Int)×Int)=>p.1 (x1.1,((x1.2.1.1,x1.2.1.2),x1.2.2))) x)∧((decide ((Q0g l (fun (x1:Int×(Int×Int)×Int)=>(p.2 (x1.1,((x1.2.1.1,x1.2.1.2),x1.2.2)))))≥(0:Int)))=(l.any p.2)∧(True))
def QD:Cx:=⟨[],[(104,Qp)],9,[],0,[],[],[],[],false,[],[],[],[]⟩
def ZX (l:List (Int×(Int×Int)×Int)) (p:(Int×(Int×Int)×Int→Prop)×(Int×(Int×Int)×Int→Bool)):List (Nat×LoopAnn):=[]
set_option maxRecDepth 100000 in
theorem ZQ (d:(List (Int×(Int×Int)×Int))×((Int×(Int×Int)×Int→Prop)×(Int×(Int×Int)×Int→Bool))):gwp (QD) (ZX d.1 d.2) c90 0 (VT [.tmp 4] (Qy d) (Qz d)) (Qt 9 (AL.can QE d))=Qc d.1 d.2:=by kernel_rfl
abbrev ZZ:Prop:=OkC Tryz.prog 90 Qd
theorem ZY (h:∀ (l:List (Int×(Int×Int)×Int)) (p:(Int×(Int×Int)×Int→Prop)×(Int×(Int×Int)×Int→Bool)),(l.length≤1000000∧∀ x∈l,p.1 x)→Qc l p):OkC Tryz.prog 90 Qd :=
 Z7 Q70 mixed (C:=QD) (V:=fun (d:(List (Int×(Int×Int)×Int))×((Int×(Int×Int)×Int→Prop)×(Int×(Int×Int)×Int→Bool)))=>Qc d.1 d.2) ⟨(.cons Js .nil),XsOk.nil,ItsOk.nil,YlOk.nil,IysOk.nil,XfOk.nil⟩ (ZQ) fun d hp=>h d.1 d.2 hp
theorem QC:ZZ:=ZY fun l p hp=>by simp only[Qc];exact⟨hp,Q2t l p.2,trivial⟩
def Gv:AL (List (Int×(Int×Int)×Int)):=(.one (.k (.list (.pair (.i .i64) (.pair (.pair (.i .i64) (.i .i64)) (.i .i64))))))
def T7 (d:List (Int×(Int×Int)×Int)):Prop:=d.length≤1000
def Ms (d:List (Int×(Int×Int)×Int)):SV:=.val (.i .i64) (Qj d)
def MG (d:List (Int×(Int×Int)×Int)):List OB:=[]
def Xt:CSp:=YO Gv T7 Ms MG
def Yp (l:List (Int×(Int×Int)×Int)):Prop :=
 ((decide ((lI l) > (12:Int)))=true →
  ((5:Int)=(Qj l)∧(True))) ∧
 ((decide ((lI l) > (12:Int)))=false →
  (l.length≤1000000∧∀ x∈l,(fun (x1:Int×(Int×Int)×Int)=>True) x)∧((l.any (fun (x1:Int×(Int×Int)×Int)=>(!Qw (x1.1,(x1.2.1.1,x1.2.1.2),x1.2.2))))=true →
   ((2:Int)=(Qj l)∧(True))) ∧
  ((l.any (fun (x1:Int×(Int×Int)×Int)=>(!Qw (x1.1,(x1.2.1.1,x1.2.1.2),x1.2.2))))=false →
   ((0:Int)=(Qj l)∧(True))))
def Gy:Cx:=⟨[],[(90,Qd),(91,KI)],10,[],0,[],[],[],[],false,[],[],[],[]⟩
def TO (l:List (Int×(Int×Int)×Int)):List (Nat×LoopAnn):=[]
set_option maxRecDepth 100000 in
theorem TR (d:List (Int×(Int×Int)×Int)):gwp (Gy) (TO d) c69 0 (VT [.tmp 2] (Ms d) (MG d)) (Qt 10 (AL.can Gv d))=Yp d:=by kernel_rfl
abbrev TN:Prop:=OkC Tryz.prog 69 Xt
theorem R6 (h:∀ (l:List (Int×(Int×Int)×Int)),(l.length≤1000)→Yp l):OkC Tryz.prog 69 Xt :=
 Z7 Q71 mixed (C:=Gy) (V:=fun (d:List (Int×(Int×Int)×Int))=>Yp d) ⟨(.cons QC (.cons Ht .nil)),XsOk.nil,ItsOk.nil,YlOk.nil,IysOk.nil,XfOk.nil⟩ (TR) fun d hp=>h d hp
theorem Yn:TN:=R6 fun l hl=>by
 unfold Yp;(try delta lI gD sT I64)
 (try simp only[decide_eq_true_eq,decide_eq_false_iff_not])
 refine⟨fun h1=>⟨?_,trivial⟩,fun h1=>⟨⟨by omega,fun _ _=>trivial⟩,fun h2=>⟨?_,trivial⟩,fun h2=>⟨?_,trivial⟩⟩⟩
 ·unfold Qj;rw[if_pos (by omega)]
 ·unfold Qj;rw[if_neg (by omega),if_pos h2]
 ·unfold Qj;rw[if_neg (by omega),if_neg (by rw[show (l.any fun x=>!Qw x)=false from h2];decide)]
def Hd:AL (List (Int×(Int×Int)×Int)):=(.one (.k (.list (.pair (.i .i64) (.pair (.pair (.i .i64) (.i .i64)) (.i .i64))))))
def La (d:List (Int×(Int×Int)×Int)):Prop:=d.length≤1000
def DQ (d:List (Int×(Int×Int)×Int)):SV:=.lst 0
def B4 (d:List (Int×(Int×Int)×Int)):List OB:=[.lst 78 (.pair (.i .i64) (.pair (.pair (.i .i64) (.i .i64)) (.i .i64))) d false]
def GJ:CSp:=YO Hd La DQ B4
def VV (l:List (Int×(Int×Int)×Int)):Prop :=
 (((List.length ([]:List (Int×(Int×Int)×Int)))+(List.length l))*32≤70368744177664)∧(True∧(((([]:List (Int×(Int×Int)×Int))++l)=l∧((List.isEmpty l)&&false)=false)∧True))
def BZ:Cx:=⟨[(78,(.pair (.i .i64) (.pair (.pair (.i .i64) (.i .i64)) (.i .i64))))],[],6,[],0,[],[],[],[],false,[],[],[],[]⟩
def Ch (l:List (Int×(Int×Int)×Int)):List (Nat×LoopAnn):=[]
set_option maxRecDepth 100000 in
theorem LB (d:List (Int×(Int×Int)×Int)):gwp (BZ) (Ch d) c14 0 (VT [.tmp 2] (DQ d) (B4 d)) (Qt 6 (AL.can Hd d))=VV d:=by kernel_rfl
abbrev LV:Prop:=OkC Tryz.prog 14 GJ
theorem CE (h:∀ (l:List (Int×(Int×Int)×Int)),(l.length≤1000)→VV l):OkC Tryz.prog 14 GJ :=
 Z7 Q84 mixed (C:=BZ) (V:=fun (d:List (Int×(Int×Int)×Int))=>VV d) ⟨.nil,XsOk.nil,ItsOk.nil,YlOk.nil,IysOk.nil,XfOk.nil⟩ (LB) fun d hp=>h d hp
theorem CV:LV:=CE fun l h=>by
 have h1:l.length*32≤70368744177664:=by omega
 simp[VV,h1]
end Go.Proofs.Tryz
set_option linter.unusedVariables false
namespace Go.Proofs.Tryz
open Go Go.V Go.Proofs
def M5:AL (List (Int×(Int×Int)×Int)):=(.one (.k (.list (.pair (.i .i64) (.pair (.pair (.i .i64) (.i .i64)) (.i .i64))))))
def HN (d:List (Int×(Int×Int)×Int)):Prop:=d≠[]∧d.length≤1000∧∀ x∈d,Qw x=true
def Nu (d:List (Int×(Int×Int)×Int)):SV:=.agg [.val (.i .i64) ((Q5s d).1),.val (.i .i64) ((Q5s d).2)]
def Nb (d:List (Int×(Int×Int)×Int)):List OB:=[]
def VY:CSp:=YO M5 HN Nu Nb
def WC (l:List (Int×(Int×Int)×Int)):Prop :=
 (0≤(0:Int))∧((0:Int)<(List.length l))∧(0≤(0:Int))∧((0:Int)<(List.length l))∧((l=l∧True∧True∧True∧((gD l (0:Int) (0,((0,0),0))).2.1.1=(gD l (0:Int) (0,((0,0),0))).2.1.1∧(gD l (0:Int) (0,((0,0),0))).2.1.2=(gD l (0:Int) (0,((0,0),0))).2.1.2∧(([]:List SV)=[]))∧True)∧(((0:Int)=(0:Int)∧(0:Int)=(0:Int)∧(([]:List SV)=[]))∧((gD l (0:Int) (0,((0,0),0))).2.1.1=(gD l (0:Int) (0,((0,0),0))).2.1.1∧(gD l (0:Int) (0,((0,0),0))).2.1.2=(gD l (0:Int) (0,((0,0),0))).2.1.2∧(([]:List SV)=[]))∧((0:Int)=(0:Int)∧(0:Int)=(0:Int)∧(([]:List SV)=[]))∧True))∧((0≤(0:Int))∧((0:Int)<(List.length l))∧(0≤(0:Int))∧((0:Int)<(List.length l))∧((l=l∧True∧True∧True∧((gD l (0:Int) (0,((0,0),0))).2.1.1=(gD l (0:Int) (0,((0,0),0))).2.1.1∧(gD l (0:Int) (0,((0,0),0))).2.1.2=(gD l (0:Int) (0,((0,0),0))).2.1.2∧(([]:List SV)=[]))∧True)∧(((0:Int)=(0:Int)∧(0:Int)=(0:Int)∧(([]:List SV)=[]))∧((gD l (0:Int) (0,((0,0),0))).2.1.1=(gD l (0:Int) (0,((0,0),0))).2.1.1∧(gD l (0:Int) (0,((0,0),0))).2.1.2=(gD l (0:Int) (0,((0,0),0))).2.1.2∧(([]:List SV)=[]))∧((0:Int)=(0:Int)∧(0:Int)=(0:Int)∧(([]:List SV)=[]))∧True)))∧(0≤(1:Int))∧((1:Int)≤(lI l))∧((lI l)≤(List.length l))∧∃ (e3:Unit) (d30:Int×Int×Int×Int×Int),((True∧True∧True∧(List.take (Int.toNat ((lI l)-(1:Int))) (List.drop (Int.toNat (1:Int)) l))=(List.take (Int.toNat ((lI l)-(1:Int))) (List.drop (Int.toNat (1:Int)) l))∧(lI (List.take (Int.toNat ((lI l)-(1:Int))) (List.drop (Int.toNat (1:Int)) l)))=(lI (List.take (Int.toNat ((lI l)-(1:Int))) (List.drop (Int.toNat (1:Int)) l)))∧(0:Int)=d30.2.2.2.2∧True)∧(((0:Int)=(0:Int)∧(0:Int)=(0:Int)∧(([]:List SV)=[]))∧((gD l (0:Int) (0,((0,0),0))).2.1.1=d30.1∧(gD l (0:Int) (0,((0,0),0))).2.1.2=d30.2.1∧(([]:List SV)=[]))∧((gD l (0:Int) (0,((0,0),0))).2.1.1=d30.2.2.1∧(gD l (0:Int) (0,((0,0),0))).2.1.2=d30.2.2.2.1∧(([]:List SV)=[]))∧True)) ∧
 LoopP (fun (d3:Int×Int×Int×Int×Int) (q3:(Int×Int×Int×Int×Int)→Prop) =>
  ((decide (d3.2.2.2.2<(lI (List.take (Int.toNat ((lI l)-(1:Int))) (List.drop (Int.toNat (1:Int)) l)))))=true →
   (0≤d3.2.2.2.2)∧(d3.2.2.2.2<(List.length (List.take (Int.toNat ((lI l)-(1:Int))) (List.drop (Int.toNat (1:Int)) l))))∧(I64 (d3.2.2.2.2+(1:Int)))∧(∃ d4:Int×Int×Int×Int×Int,((True∧True∧True∧(List.take (Int.toNat ((lI l)-(1:Int))) (List.drop (Int.toNat (1:Int)) l))=(List.take (Int.toNat ((lI l)-(1:Int))) (List.drop (Int.toNat (1:Int)) l))∧(lI (List.take (Int.toNat ((lI l)-(1:Int))) (List.drop (Int.toNat (1:Int)) l)))=(lI (List.take (Int.toNat ((lI l)-(1:Int))) (List.drop (Int.toNat (1:Int)) l)))∧(d3.2.2.2.2+(1:Int))=d4.2.2.2.2∧True)∧(((0:Int)=(0:Int)∧(0:Int)=(0:Int)∧(([]:List SV)=[]))∧((HY d3.1 (gD (List.take (Int.toNat ((lI l)-(1:Int))) (List.drop (Int.toNat (1:Int)) l)) d3.2.2.2.2 (0,((0,0),0))).2.1.1)=d4.1∧(TJ d3.2.1 (gD (List.take (Int.toNat ((lI l)-(1:Int))) (List.drop (Int.toNat (1:Int)) l)) d3.2.2.2.2 (0,((0,0),0))).2.1.2)=d4.2.1∧(([]:List SV)=[]))∧((TJ d3.2.2.1 (gD (List.take (Int.toNat ((lI l)-(1:Int))) (List.drop (Int.toNat (1:Int)) l)) d3.2.2.2.2 (0,((0,0),0))).2.1.1)=d4.2.2.1∧(HY d3.2.2.2.1 (gD (List.take (Int.toNat ((lI l)-(1:Int))) (List.drop (Int.toNat (1:Int)) l)) d3.2.2.2.2 (0,((0,0),0))).2.1.2)=d4.2.2.2.1∧(([]:List SV)=[]))∧True))∧q3 d4)) ∧
  ((decide (d3.2.2.2.2<(lI (List.take (Int.toNat ((lI l)-(1:Int))) (List.drop (Int.toNat (1:Int)) l)))))=false →
   (I64 (d3.1-d3.2.1))∧(I64 (d3.2.2.2.1-d3.2.2.1))∧(((HY (0:Int) (d3.1-d3.2.1))=((Q5s l).1)∧(d3.2.2.2.1-d3.2.2.1)=((Q5s l).2)∧(([]:List SV)=[]))∧(True)))) d30
def MA:Cx:=⟨[],[],61,[],0,[],[],[],[0,2,3,4,14],false,[],[],[],[]⟩
def T9 (l:List (Int×(Int×Int)×Int)):List (Nat×LoopAnn):=[(0,⟨Unit,Int×Int×Int×Int×Int,[2,3,4,16,17,18],fun e x=>[.box 2 0,.box 3 0,.box 4 0,.val (.list (.pair (.i .i64) (.pair (.pair (.i .i64) (.i .i64)) (.i .i64)))) (List.take (Int.toNat ((((List.length l):Nat):Int)-(1:Int))) (List.drop (Int.toNat (1:Int)) l)),.val (.i .i64) (((List.length (List.take (Int.toNat ((((List.length l):Nat):Int)-(1:Int))) (List.drop (Int.toNat (1:Int)) l))):Nat):Int),.val (.i .i64) x.2.2.2.2],fun e x=>[(2,.slot 2,.cells [.val (.i .i64) (0:Int),.val (.i .i64) (0:Int)] (some 59)),(3,.slot 3,.cells [.val (.i .i64) x.1,.val (.i .i64) x.2.1] (some 59)),(4,.slot 4,.cells [.val (.i .i64) x.2.2.1,.val (.i .i64) x.2.2.2.1] (some 59))]⟩)]
set_option maxRecDepth 100000 in
theorem Tx (d:List (Int×(Int×Int)×Int)):gwp (MA) (T9 d) c70 0 (VT [.cell 2 true 2] (Nu d) (Nb d)) (Qt 61 (AL.can M5 d))=WC d:=by kernel_rfl
abbrev Tz:Prop:=OkC Tryz.prog 70 VY
theorem PM (h:∀ (l:List (Int×(Int×Int)×Int)),(l≠[]∧l.length≤1000∧∀ x∈l,Qw x=true)→WC l):OkC Tryz.prog 70 VY :=
 Z7 Q6g mixed (C:=MA) (V:=fun (d:List (Int×(Int×Int)×Int))=>WC d) ⟨.nil,XsOk.nil,ItsOk.nil,YlOk.nil,IysOk.nil,XfOk.nil⟩ (Tx) fun d hp=>h d hp
theorem PX:Tz:=PM fun l h=>by
 obtain⟨h1,h2,h3⟩:=h;have hp:1≤l.length:=List.length_pos_iff.2 h1;unfold WC;(try delta lI gD sT I64);simp only[decide_eq_true_eq,decide_eq_false_iff_not];have hM:List.take ((l.length:Int)-1).toNat (List.drop (Int.toNat 1) l)=l.drop 1:=List.take_of_length_le (by rw[List.length_drop];show l.length-1≤_;omega);have uf:(l.drop 1).length=l.length-1:=List.length_drop ..;have cX:∀ k,k+1<l.length→(l.drop 1).getD k (0,((0,0),0))=l[k+1]?.getD Zg:=fun k hk=>by rw[Qa (by omega),List.getElem_drop,List.getElem?_eq_getElem hk];simp only[Option.getD_some,Nat.add_comm]
 have h0:l.getD (Int.toNat 0) (0,((0,0),0))=l.getD 0 Zg:=rfl;have s1:=Ek h1;rw[hM,h0];refine⟨by omega,by omega,by omega,by omega,(by and_intros<;>first|rfl|trivial|simp),⟨by omega,by omega,by omega,by omega,(by and_intros<;>first|rfl|trivial|simp)⟩,by omega,by omega,by omega,(),((Nc l 1).1,(Nc l 1).2.1,(Nc l 1).2.2.1,(Nc l 1).2.2.2,0),by rw[s1];exact(by and_intros<;>first|rfl|trivial|simp),?_⟩;refine⟨fun d=>∃ k:Nat,k+1≤l.length∧d=((Nc l (k+1)).1,(Nc l (k+1)).2.1,(Nc l (k+1)).2.2.1,(Nc l (k+1)).2.2.2,(k:Int)),fun d=>l.length-d.2.2.2.2.toNat,⟨0,hp,rfl⟩,?_⟩;rintro _ ⟨k,hk,rfl⟩;dsimp only;simp only[Int.toNat_natCast,uf];refine⟨fun ai=>?_,fun bt=>?_⟩
 ·have bc:k+1<l.length:=by omega
  rw[cX k bc,List.getElem?_eq_getElem bc,Option.getD_some];have hs:=Cp bc;refine⟨by omega,by omega,by rw[Z3];omega,((Nc l (k+1+1)).1,(Nc l (k+1+1)).2.1,(Nc l (k+1+1)).2.2.1,(Nc l (k+1+1)).2.2.2,(k:Int)+1),by rw[hs];exact(by and_intros<;>first|rfl|trivial|simp),⟨k+1,by omega,by simp⟩,?_⟩;dsimp only;omega
 ·have aP:k+1=l.length:=by omega
  obtain⟨a,⟨i1,b1,c1⟩,⟨i2,b2,c2⟩,⟨i3,b3,c3⟩,⟨i4,b4,c4⟩⟩:=TF h1 l.length hp (Nat.le_refl _);have hv:∀ i,i<l.length→0≤(l.getD i Zg).2.1.1∧(l.getD i Zg).2.1.1≤1000∧0≤(l.getD i Zg).2.1.2∧(l.getD i Zg).2.1.2≤1000:=fun i hi=>by have:=Bd.1 (h3 _ (List.getElem_mem hi));rw[Qa hi];omega
  have v1:=hv i1 b1;have v2:=hv i2 b2;have v3:=hv i3 b3;have v4:=hv i4 b4;rw[aP];unfold Q5s;refine⟨by rw[Z3];omega,by rw[Z3];omega,?_⟩;and_intros<;>first|rfl|trivial
end Go.Proofs.Tryz
set_option linter.unusedVariables false
namespace Go.Proofs.Tryz
open Go Go.V Go.Proofs
theorem NY {l:List Lot}(h:Qj l=0):l.length≤12∧∀ x∈l,Qw x=true:=by
 unfold Qj at h;split at h
 ·cases h
 ·split at h
  ·cases h
  ·rename_i h1 h2;refine⟨by omega,fun x hx=>?_⟩;have:=List.any_eq_false.1 (Bool.eq_false_iff.2 h2) x hx;simpa using this
theorem FM {l:List Lot}{sm:List Int}{k:Nat}(h:k<sm.length):Kt l (sm.take (k+1))=Kt l (sm.take k)++[l.getD (sm.getD k 0).toNat Zg]:=by unfold Kt;rw[ZV h,List.map_append,Qa h];rfl
theorem Q39 {l:List Lot}{sm:List Int}(h:∀ x∈l,Qw x=true) (hs:∀ i∈sm,0≤i∧i<l.length):∀ x∈Kt l sm,Qw x=true:=fun x hx=>by simp only[Kt,List.mem_map] at hx;obtain⟨i,hi,rfl⟩:=hx;have:=hs i hi;rw[Qa (show i.toNat<l.length by omega)];exact h _ (List.getElem_mem _)
end Go.Proofs.Tryz
set_option linter.unusedVariables false
namespace Go.Proofs.Tryz
open Go Go.V Go.Proofs
def tzK:Nat→Nat→Nat
 |0,_=>0
 |f+1,n=>if n % 2=1 then 0 else 1+tzK f (n / 2)
def tzN (n:Nat):Nat:=if n=0 then 64 else tzK 64 n
theorem Ee:∀ f n,0<n→n<2 ^ f→tzK f n<f∧∃ m,n=2 ^ tzK f n*(2*m+1)
 |0,n,h0,h1=>by simp at h1;omega
 |f+1,n,h0,h1=>by
  unfold tzK;split
  ·rename_i h;exact⟨by omega,n / 2,by omega⟩
  ·rename_i h;have hp:2 ^ (f+1)=2*2 ^ f:=by rw[Nat.pow_succ];omega
   obtain⟨h2,m,h3⟩:=Ee f (n / 2) (by omega) (by omega);refine⟨by omega,m,?_⟩;rw[Nat.add_comm,Nat.pow_succ,Nat.mul_comm (2 ^ _) 2,Nat.mul_assoc,←h3];omega
theorem MT {n:Nat}(h0:0<n) (h1:n<2 ^ 64):tzN n<64∧∃ m,n=2 ^ tzN n*(2*m+1):=by unfold tzN;rw[if_neg (by omega)];exact Ee 64 n h0 h1
theorem Cu {t m:Nat}(i:Nat):(2 ^ t*(2*m+1)-1).testBit i=if i<t then true else if i=t then false else (2 ^ t*(2*m+1)).testBit i:=by
 have hp:0<2 ^ t:=Nat.two_pow_pos t;have e:2 ^ t*(2*m+1)-1=2 ^ t*(2*m)+(2 ^ t-1):=by rw[Nat.mul_add,Nat.mul_one];omega
 rw[e,Nat.testBit_two_pow_mul_add _ (by omega)];split
 ·rename_i h;rw[Nat.testBit_two_pow_sub_one];simpa using h
 ·rename_i h;split
  ·rename_i h2;subst h2;simp
  ·rename_i h2;rw[Nat.testBit_two_pow_mul];obtain⟨k,hk⟩:∃ k,i-t=k+1:=⟨i-t-1,by omega⟩;have hd:decide (i≥t)=true:=decide_eq_true (by omega);rw[hd,hk,Nat.testBit_succ,Nat.testBit_succ,Bool.true_and];congr 1;omega
theorem Q8n {n:Nat}(h0:0<n) (h1:n<2 ^ 64):n &&& (2 ^ 64-n)=2 ^ tzN n:=by
 obtain⟨ht,m,hm⟩:=MT h0 h1;generalize tzN n=t at *
 refine Nat.eq_of_testBit_eq fun i=>?_;have e:2 ^ 64-n=2 ^ 64-((n-1)+1):=by omega
 rw[Nat.testBit_and,e,Nat.testBit_two_pow_sub_succ (by omega),Nat.testBit_two_pow,hm,Cu];by_cases h2:i<t
 ·rw[if_pos h2,Nat.testBit_two_pow_mul,decide_eq_false (show ¬ i≥t by omega),decide_eq_false (show ¬ t=i by omega)];rfl
 ·rw[if_neg h2];by_cases h3:i=t
  ·subst h3;rw[if_pos rfl,Nat.testBit_two_pow_mul];simp;omega
  ·rw[if_neg h3,decide_eq_false (show ¬ t=i by omega)];cases (2 ^ t*(2*m+1)).testBit i<;>simp
theorem Dl {n:Nat}(h0:0<n) (h1:n<2 ^ 64) (i:Nat):(n &&& (n-1)).testBit i=(n.testBit i&&!decide (i=tzN n)):=by
 obtain⟨ht,m,hm⟩:=MT h0 h1;generalize tzN n=t at *
 rw[Nat.testBit_and,hm,Cu];by_cases h2:i<t
 ·rw[if_pos h2,decide_eq_false (by omega)];simp
 ·rw[if_neg h2];by_cases h3:i=t
  ·rw[if_pos h3,decide_eq_true h3];simp
  ·rw[if_neg h3,decide_eq_false h3];simp
def RG:Nat→Nat→List Int
 |0,_=>[]
 |f+1,n=>if n=0 then [] else (tzN n:Int)::RG f (n &&& (n-1))
def Q4 (n:Nat):List Int:=RG n n
theorem A4:∀ f g n,n≤f→n≤g→RG f n=RG g n
 |0,g,n,h1,_=>by
  have:n=0:=by omega
  subst this;cases g<;>simp[RG]
 |f+1,0,n,_,h2=>by
  have:n=0:=by omega
  subst this;simp[RG]
 |f+1,g+1,n,h1,h2=>by
  unfold RG;by_cases h:n=0
  ·rw[if_pos h,if_pos h]
  ·rw[if_neg h,if_neg h];have:=Nat.and_le_right (n:=n) (m:=n-1);rw[A4 f g _ (by omega) (by omega)]
theorem LP {n:Nat}(h:0<n):Q4 n=(tzN n:Int)::Q4 (n &&& (n-1)):=by
 have:=Nat.and_le_right (n:=n) (m:=n-1);unfold Q4;obtain⟨f,rfl⟩:∃ f,n=f+1:=⟨n-1,by omega⟩;conv=>lhs;unfold RG
 rw[if_neg (by omega),A4 f _ _ (by omega) (Nat.le_refl _)]
theorem Q18:Q4 0=[]:=rfl
theorem Q9r:∀ t:Nat,t<64→Go.V.t64[(2 ^ t*285870213051353865 % 18446744073709551616) / 288230376151711744]?=some (t:Int):=by decide +kernel
end Go.Proofs.Tryz
set_option linter.unusedVariables false
namespace Go.Proofs.Tryz
open Go Go.V Go.Proofs
def czT:VCode :=
 .seq (.region [
  ⟨(some 2),.move (.const (.int .i64 (0))),none⟩])
 (.seq (.seq (.region [
  ⟨(some 3),.move (.tmp 0),none⟩,
  ⟨(some 4),.cmp .eql (.tmp 3) (.const (.int .u64 (0))),none⟩])
 (.cond (.tmp 4) (.seq (.region [
   ⟨(some 2),.move (.const (.int .i64 (64))),none⟩])
  (.ret))
  (.skip)))
 (.seq (.region [
  ⟨(some 5),.move (.tmp 0),none⟩,
  ⟨(some 6),.move (.tmp 0),none⟩,
  ⟨(some 7),.un .neg (.tmp 6),none⟩,
  ⟨(some 8),.bits .and (.tmp 5) (.tmp 7),none⟩,
  ⟨(some 9),.arith .mul (.tmp 8) (.const (.int .u64 (285870213051353865))),none⟩,
  ⟨(some 10),.shift .shr (.tmp 9) (.const (.int .u64 (58))),none⟩,
  ⟨(some 11),.indexAddrArr 64 1 (.global 1) (.tmp 10),none⟩,
  ⟨(some 12),.load false 1 (.tmp 11),none⟩,
  ⟨(some 13),.convI .i64 (.tmp 12),none⟩,
  ⟨(some 2),.move (.tmp 13),none⟩])
 (.ret)))
theorem VF {S:VSpecs}{op:VOp}{d:Option Nat}{l:List VOper}{env:Env}{σ:Heap}{K:Env→Heap→Prop}(v:Value) (h:∀ Q:Value→Heap→Prop,Q v σ→vop S op env σ Q) (hK:Pd S l (Xr env d v) σ K):Pd S (⟨d,op,none⟩::l) env σ K:=by show vif true _ _;exact⟨fun _=>h _ hK,fun h=>by cases h⟩
theorem Q7h {S:VSpecs}{op:BinOp}{x y:Operand}{env:Env}{σ:Heap}{Q:Value→Heap→Prop}{k:IntKind}{a b:Int}(hx:Q3 env x=.int k a) (hy:Q3 env y=.int k b) (h:Q (.bool (Q9q op a b)) σ):vop S (.cmp op x y) env σ Q:=by simp only[vop,Q5,hx,hy,if_true,QI];exact h
theorem Q3s {S:VSpecs}{op:BinOp}{x y:Operand}{env:Env}{σ:Heap}{Q:Value→Heap→Prop}{k:IntKind}{a b:Int}(hx:Q3 env x=.int k a) (hy:Q3 env y=.int k b) (h:Q (.int k (Jb op k a b)) σ):vop S (.bits op x y) env σ Q:=by simp only[vop,Q5,hx,hy,if_true,QI];exact h
theorem Q1y {S:VSpecs}{op:BinOp}{x y:Operand}{env:Env}{σ:Heap}{Q:Value→Heap→Prop}{k:IntKind}{a b:Int}(hx:Q3 env x=.int k a) (hy:Q3 env y=.int k b) (h:Q (.int k (H4 op k a b)) σ):vop S (.arith op x y) env σ Q:=by simp only[vop,Q5,hx,hy,if_true,QI];exact h
theorem Q0n {S:VSpecs}{op:BinOp}{x y:Operand}{env:Env}{σ:Heap}{Q:Value→Heap→Prop}{k k':IntKind}{a b:Int}(hx:Q3 env x=.int k a) (hy:Q3 env y=.int k' b) (h0:0≤b) (h:Q (.int k (Hj op k a b)) σ):vop S (.shift op x y) env σ Q:=by simp only[vop,Q5,hx,hy,h0,if_true,QI];exact h
theorem Q3p {S:VSpecs}{x:Operand}{env:Env}{σ:Heap}{Q:Value→Heap→Prop}{k k':IntKind}{a:Int}(hx:Q3 env x=.int k a) (h:Q (.int k' (k'.wrap a)) σ):vop S (.convI k' x) env σ Q:=by simp only[vop,Q5,hx,QI];exact h
theorem Q7w {S:VSpecs}{len size g o s:Nat}{x y:Operand}{env:Env}{σ:Heap}{Q:Value→Heap→Prop}{k':IntKind}{b:Int}(hx:Q3 env x=.pointer (some ⟨g,o,some s⟩)) (hy:Q3 env y=.int k' b) (h0:0≤b∧b<len) (h:Q (.pointer (some ⟨g,o+b.toNat*size,some s⟩)) σ):vop S (.indexAddrArr len size x y) env σ Q:=by simp only[vop,Q5,hx,hy,h0,and_self,if_true,QI];exact h
theorem Q2x {S:VSpecs}{size g o s:Nat}{agg:Bool}{x:Operand}{env:Env}{σ:Heap}{Q:Value→Heap→Prop}{c:List Value}{v:Value}(hx:Q3 env x=.pointer (some ⟨g,o,some s⟩)) (hg:Q26 g=some c) (hp:c.all Qx=true) (hv:Ws agg size c o=some v) (h:Q v σ):vop S (.load agg size x) env σ Q:=by simp only[vop,Q5,hx,hg,hp,hv,if_true,QI];exact h
theorem L9 (x:Int):IntKind.wrap .u64 x=x % 18446744073709551616:=by show (if (false&&decide (x % (18446744073709551616:Int)≥9223372036854775808))=true then x % (18446744073709551616:Int)-18446744073709551616 else x % (18446744073709551616:Int))=_;simp
theorem Du {x:Nat}(h:x<2 ^ 64):(BitVec.ofInt 64 (x:Int)).toNat=x:=by rw[PK,BitVec.toNat_ofNat,Nat.mod_eq_of_lt h]
theorem Ef {x y:Nat}(hx:x<2 ^ 64) (hy:y<2 ^ 64):Jb .and .u64 x y=((x &&& y:Nat):Int):=by
 have e:(BitVec.ofInt 64 (x:Int) &&& BitVec.ofInt 64 (y:Int)).toNat=x &&& y:=by rw[BitVec.toNat_and,Du hx,Du hy]
 show IntKind.wrap .u64 ((BitVec.ofInt 64 (x:Int) &&& BitVec.ofInt 64 (y:Int)).toNat:Int)=_;have hl:x &&& y≤x:=Nat.and_le_left;rw[e,L9];omega
set_option maxHeartbeats 2000000 in
theorem Z01 {P:Program}{f:Nat}(h:Fun P f czT [.tmp 2] 14) (hm:P.follows .mixedOrders=true) {x:Int}(h0:0≤x) (h1:x≤18446744073709551615) {σ:Heap}{K:Value→Heap→Prop}(hK:K (.int .i64 (tzN x.toNat)) σ):VCalled P f [.int .u64 x] σ K:=by
 refine h.calls hm Hy ?_;obtain⟨n,rfl⟩:=Int.eq_ofNat_of_zero_le h0;have h1:n<2 ^ 64:=by omega
 rw[Int.toNat_natCast] at hK;unfold czT;refine VF (.int .i64 0) (fun _ h=>h) ?_;refine VF (.int .u64 n) (fun _ h=>h) ?_;refine VF (.bool ((n:Int)==0)) (fun _ h=>Q7h (k:=.u64) (a:=n) (b:=0) rfl rfl h) ?_;show vif ((n:Int)==0) _ _;refine⟨fun hz=>?_,fun hz=>?_⟩
 ·have hz:n=0:=by have:=eq_of_beq hz;omega
  subst hz;refine VF (.int .i64 64) (fun _ h=>h) ?_;exact⟨_,_,DropTo.refl _ _ _,hK⟩
 have hz:0<n:=by
  rcases Nat.eq_zero_or_pos n with h|h
  ·subst h;cases hz
  ·exact h
 refine VF (.int .u64 n) (fun _ h=>h) ?_;refine VF (.int .u64 n) (fun _ h=>h) ?_;refine VF (.int .u64 (IntKind.u64.wrap (0-(n:Int)))) (fun _ h=>h) ?_;have hand:Jb .and .u64 n (IntKind.u64.wrap (0-(n:Int)))=((2 ^ tzN n:Nat):Int):=by
  have e:IntKind.u64.wrap (0-(n:Int))=((2 ^ 64-n:Nat):Int):=by rw[L9];omega
  rw[e,Ef h1 (by omega),Q8n hz h1]
 refine VF (.int .u64 ((2 ^ tzN n:Nat):Int)) (fun _ h=>Q3s (k:=.u64) (a:=n) (b:=IntKind.u64.wrap (0-(n:Int))) rfl rfl (by rw[hand];exact h)) ?_;have hmul:H4 .mul .u64 ((2 ^ tzN n:Nat):Int) 285870213051353865=((2 ^ tzN n*285870213051353865 % 18446744073709551616:Nat):Int):=by show IntKind.wrap .u64 (((2 ^ tzN n:Nat):Int)*285870213051353865)=_;rw[L9];omega
 refine VF (.int .u64 ((2 ^ tzN n*285870213051353865 % 18446744073709551616:Nat):Int)) (fun _ h=>Q1y (k:=.u64) (a:=((2 ^ tzN n:Nat):Int)) (b:=285870213051353865) rfl rfl (by rw[hmul];exact h)) ?_;have qp:Hj .shr .u64 ((2 ^ tzN n*285870213051353865 % 18446744073709551616:Nat):Int) 58=((2 ^ tzN n*285870213051353865 % 18446744073709551616 / 288230376151711744:Nat):Int):=by show Int.fdiv _ 288230376151711744=_;rw[Int.fdiv_eq_ediv_of_nonneg _ (by decide)];omega
 refine VF (.int .u64 ((2 ^ tzN n*285870213051353865 % 18446744073709551616 / 288230376151711744:Nat):Int)) (fun _ h=>Q0n (k:=.u64) (k':=.u64) (a:=((2 ^ tzN n*285870213051353865 % 18446744073709551616:Nat):Int)) (b:=58) rfl rfl (by decide) (by rw[qp];exact h)) ?_;have qq:=Q9r (tzN n) (MT hz h1).1;have ai:2 ^ tzN n*285870213051353865 % 18446744073709551616 / 288230376151711744<64:=by omega
 generalize 2 ^ tzN n*285870213051353865 % 18446744073709551616 / 288230376151711744=k at *
 refine VF (.pointer (some ⟨1,0+(k:Int).toNat*1,some 0⟩)) (fun _ h=>Q7w (g:=1) (o:=0) (s:=0) (b:=k) (k':=.u64) rfl rfl (by omega) h) ?_;have hv:Ws false 1 (Go.V.t64.map fun x=>Value.int .u8 x) (0+(k:Int).toNat*1)=some (.int .u8 (tzN n)):=by show (Go.V.t64.map fun x=>Value.int .u8 x)[0+(k:Int).toNat*1]?=_;rw[Int.toNat_natCast,Nat.mul_one,Nat.zero_add,List.getElem?_map,qq];rfl
 refine VF (.int .u8 (tzN n)) (fun _ h=>Q2x (g:=1) (s:=0) (o:=0+(k:Int).toNat*1) (c:=Go.V.t64.map fun x=>Value.int .u8 x) rfl rfl (by decide) hv h) ?_;have ug:=(MT hz h1).1;have fN:IntKind.i64.wrap (tzN n:Int)=tzN n:=InK.wrap (k:=.i64) ((Z3 _).2 (by omega));refine VF (.int .i64 (tzN n)) (fun _ h=>Q3p (k:=.u8) (a:=tzN n) rfl (by rw[fN];exact h)) ?_;refine VF (.int .i64 (tzN n)) (fun _ h=>h) ?_;exact⟨_,_,DropTo.refl _ _ _,hK⟩
theorem Fs {P:Program}{σ:Heap}{v:SV}{u:Value}(h:SR P hNil JK ZA v u):Ret P σ v [] u σ :=
 ⟨⟨.refl _,Dead.refl _⟩,fun _=>rfl,JK,fun j b hj=>by simp at hj,fun j j' i hj=>by simp at hj,h⟩
theorem OE (σ:Heap):PL σ []=σ:=by
 unfold PL;cases σ;simp only[List.length_nil,Nat.add_zero,List.getElem?_nil,Option.bind_none,Heap.mk.injEq,and_true];funext i;split
 ·rfl
 ·rename_i wf hi;exact(wf i (by simpa using hi)).symm
theorem Q6m {P:Program}{f:Nat}{pre:Int→Prop}{r:Int→Int}(h:∀ x,pre x→∀ (σ:Heap) (K:Value→Heap→Prop),K (.int .i64 (r x)) σ→VCalled P f [.int .u64 x] σ K) :
  OkC P f (YO (.one (.k (.i .u64)):AL Int) pre (fun d=>.val (.i .i64) (r d)) (fun _=>[])):=by
 intro ap cR σ args vs c v bs av hs hv b6 hc;unfold YO at hs;split at hs
 ·rename_i d hd;obtain⟨rfl,rfl,rfl⟩:=(by simpa using hs:pre d=c∧SV.val (.i .i64) (r d)=v∧[]=bs)
  match args,av,hd with
  |[],_,hd=>simp[AL.dec] at hd
  |a::x::l,_,hd=>simp[AL.dec] at hd
  |[a],av,hd =>
   simp only[AL.dec] at hd;obtain⟨u1,oM,rfl,s1,av⟩:=av;have av:oM=[]:=av;subst av;have k1:KC σ (.i .u64) d [u1]:=QM (k:=.i .u64) hd ⟨u1,[],rfl,s1,rfl⟩;have e1:u1=.int .u64 d:=by simpa [KC] using k1
   subst e1;refine⟨h d hc σ _ (Fs (by simp[SR,KC])),fun _ _=>h d hc σ _ ⟨?_,(OE σ).symm⟩⟩;simp[U7,Ls]
 ·cases hs
theorem IA {P:Program}{f:Nat}{D:Type}{l:AL D}{pre:D→Prop}{res:D→SV}{obs:D→List OB}(h:∀ d,pre d→False):OkC P f (YO l pre res obs):=by
 intro ap cR σ args vs c v bs av hs hv b6 hc;unfold YO at hs;split at hs
 ·rename_i d hd;have:pre d↔c:=by simp at hs;exact hs.1
  exact(h d (this.2 hc)).elim
 ·cases hs
end Go.Proofs.Tryz
set_option linter.unusedVariables false
namespace Go.Proofs.Tryz
open Go Go.V Go.Proofs
def Ku:AL (Int):=(.one (.k (.i .u64)))
def YX (d:Int):Prop:=0≤d∧d≤18446744073709551615
def YS (d:Int):SV:=.val (.i .i64) ((tzN d.toNat:Nat):Int)
def YV (d:Int):List OB:=[]
def Xk:CSp:=YO Ku YX YS YV
abbrev Kg:Prop:=OkC Tryz.prog 101 Xk
theorem Kc:Kg :=
 Q6m (pre:=fun x=>0≤x∧x≤18446744073709551615) (r:=fun x=>((tzN x.toNat:Nat):Int)) fun x hx σ K hK =>
  Z01 (f:=101) (by rw[show czT=Z2c by kernel_rfl];exact Q1z) mixed hx.1 hx.2 hK
end Go.Proofs.Tryz
set_option linter.unusedVariables false
namespace Go.Proofs.Tryz
open Go Go.V Go.Proofs
def Gp (nc ng:Int):Bool:=inI nc 0 9&&inI ng 1 12000000
def Qk (l:List Lot) (tl:Int):Int:=if Qj l≠0 then Qj l else if !inI tl 0 1000 then 3 else 0
def KJ (l:List Lot) (S:List Int):Int:=S.foldl (fun a i=>a+(l.getD i.toNat Zg).2.2) 0
def Fa (tl:Int) (p:List Lot):Bool:=!(p.any fun x=>x.1 != (p.getD 0 Zg).1)&&decide ((Q5s p).2≤tl)
def JE (l:List Lot) (tl:Int) (S:List Int):Bool:=Fa tl (Kt l S)
theorem Z11 {n:Nat}(h0:0<n) (h1:n<2 ^ 64):n.testBit (tzN n)=true:=by
 obtain⟨_,m,hm⟩:=MT h0 h1;generalize tzN n=t at *
 rw[hm,Nat.testBit_two_pow_mul];simp
theorem P0:∀ f n,n≤f→n<2 ^ 64→∀ i:Int,i∈RG f n↔∃ k:Nat,i=k∧n.testBit k=true
 |0,n,h1,_,i=>by
  have:n=0:=by omega
  subst this;simp[RG]
 |f+1,n,h1,h2,i=>by
  unfold RG;by_cases h:n=0
  ·subst h;simp
  ·rw[if_neg h,List.mem_cons];have hle:=Nat.and_le_right (n:=n) (m:=n-1);rw[P0 f _ (by omega) (by omega)];constructor
   ·rintro (e|⟨k,e,hb⟩)
    ·exact⟨tzN n,e,Z11 (by omega) h2⟩
    ·rw[Dl (by omega) h2] at hb;exact⟨k,e,by simp at hb;exact hb.1⟩
   ·rintro⟨k,e,hb⟩;by_cases hk:k=tzN n
    ·exact .inl (by rw[e,hk])
    ·exact .inr ⟨k,e,by rw[Dl (by omega) h2,hb,decide_eq_false hk];rfl⟩
theorem Kk {n:Nat}(h:n<2 ^ 64) (i:Int):i∈Q4 n↔∃ k:Nat,i=k∧n.testBit k=true:=P0 n n (Nat.le_refl _) h i
theorem Ec:∀ f n,(RG f n).length≤f
 |0,_=>by simp[RG]
 |f+1,n=>by
  unfold RG;split
  ·simp
  ·simp only[List.length_cons];have:=Ec f (n &&& (n-1));omega
theorem Eo (n:Nat):(Q4 n).length≤n:=Ec n n
theorem NL {n m:Nat}(h:n<2 ^ m) (hm:m≤64):∀ i∈Q4 n,0≤i∧i<(m:Int):=fun i hi=>by
 have hp:2 ^ m≤2 ^ 64:=Nat.pow_le_pow_right (by omega) hm;obtain⟨k,rfl,hb⟩:=(Kk (by omega) i).1 hi;have:k<m:=by
  rcases Nat.lt_or_ge k m with h2|h2
  ·exact h2
  ·rw[Nat.testBit_lt_two_pow (Nat.lt_of_lt_of_le h (Nat.pow_le_pow_right (by omega) h2))] at hb;cases hb
 omega
theorem NT {n:Nat}(h:0<n):Q4 n≠[]:=by rw[LP h];simp
theorem I5 {l:List Lot}{S:List Int}{k:Nat}(h:k<S.length):KJ l (S.take (k+1))=KJ l (S.take k)+(l.getD (S.getD k 0).toNat Zg).2.2:=by unfold KJ;rw[ZV h,List.foldl_append,Qa h];rfl
theorem By:∀ f n,n≤f→n<2 ^ 64→(RG f n).Nodup
 |0,n,_,_=>by simp[RG]
 |f+1,n,h1,h2=>by
  unfold RG;by_cases h:n=0
  ·rw[if_pos h];exact List.nodup_nil
  ·rw[if_neg h,List.nodup_cons];have hle:=Nat.and_le_right (n:=n) (m:=n-1);refine⟨fun hm=>?_,By f _ (by omega) (by omega)⟩;obtain⟨k,e,hb⟩:=(P0 f _ (by omega) (by omega) _).1 hm;rw[Dl (by omega) h2] at hb;have:k=tzN n:=by omega
   rw[decide_eq_true this] at hb;simp at hb
theorem Rw:∀ {l m:List Int},l.Nodup→(∀ x∈l,x∈m)→l.length≤m.length
 |[],_,_,_=>Nat.zero_le _
 |x::l,m,hn,hs=>by have hn:=List.nodup_cons.1 hn;have hx:=hs x (List.mem_cons_self ..);have:=Rw (l:=l) (m:=m.erase x) hn.2 fun y hy=>(List.mem_erase_of_ne (by rintro rfl;exact hn.1 hy)).2 (hs y (List.mem_cons_of_mem _ hy));rw[List.length_erase_of_mem hx] at this;have:0<m.length:=List.length_pos_of_mem hx;simp only[List.length_cons];omega
theorem ZO {n m:Nat}(h:n<2 ^ m) (hm:m≤64):(Q4 n).length≤m:=by
 have hp:2 ^ m≤2 ^ 64:=Nat.pow_le_pow_right (by omega) hm;have:=Rw (m:=(List.range m).map fun (k:Nat)=>(k:Int)) (By n n (Nat.le_refl _) (by omega)) fun x hx=>by obtain⟨h1,h2⟩:=NL h hm x hx;simp only[List.mem_map,List.mem_range];exact⟨x.toNat,by omega,by omega⟩
 simpa [Q4] using this
def UJ (a b:Int):Int:=if a<b then -1 else if b<a then 1 else 0
def orI (l:List Int):Int:=(l.find? fun x=>x != 0).getD 0
def Nd:List Int→List Int→Int
 |[],[]=>0
 |[],_::_=>-1
 |_::_,[]=>1
 |x::a,y::b=>if UJ x y≠0 then UJ x y else Nd a b
theorem Pp {a b:Int}:UJ a b=0↔a=b:=by unfold UJ;split<;>(try split)<;>omega
theorem LU {a b:List Int}:∀ k,k≤a.length→k≤b.length→(∀ j,j<k→a.getD j 0=b.getD j 0)→Nd a b=Nd (a.drop k) (b.drop k)
 |0,_,_,_=>by simp
 |k+1,h1,h2,h=>by rw[LU k (by omega) (by omega) fun j hj=>h j (by omega)];have e:=h k (by omega);rw[Qa (by omega),Qa (by omega)] at e;rw[List.drop_eq_getElem_cons (show k<a.length by omega),List.drop_eq_getElem_cons (show k<b.length by omega),Nd,if_neg (by rw[Pp.2 e];decide)]
def N_ (l:List Lot) (tl nc ng:Int) (s:Nat):Bool:=((l.getD ((Q4 s).getD 0 0).toNat Zg).1==nc)&&decide (ng≤KJ l (Q4 s))&&JE l tl (Q4 s)
def AI (a b:List Int):Bool:=decide (orI [UJ a.length b.length,Nd a b]<0)
def Zd (l:List Lot) (tl nc ng:Int):Nat→List Int
 |0=>[]
 |s+1=>if s=0 then [] else if N_ l tl nc ng s&&((Zd l tl nc ng s).isEmpty||AI (Q4 s) (Zd l tl nc ng s)) then Q4 s else Zd l tl nc ng s
def Zm (l:List Lot) (tl nc ng:Int):Int:=if Qk l tl≠0 then Qk l tl else if !Gp nc ng then 2 else if (Zd l tl nc ng (2 ^ l.length)).isEmpty then 7 else 0
def Wn (l:List Lot) (tl nc ng:Int):List Int:=if Qk l tl≠0∨Gp nc ng=false then [] else Zd l tl nc ng (2 ^ l.length)
theorem LF {l:List Lot}{tl nc ng:Int}(hl:l.length≤64):∀ s,s≤2 ^ l.length→(Zd l tl nc ng s).length≤l.length
 |0,_=>by simp[Zd]
 |s+1,h=>by
  unfold Zd;split
  ·simp
  ·split
   ·exact ZO (by omega) hl
   ·exact LF hl s (by omega)
theorem IX (l:List Lot) (tl nc ng:Int) (s:Nat):((((l.getD ((Q4 s).getD 0 0).toNat Zg).1 != nc)||decide (KJ l (Q4 s)<ng))||!JE l tl (Q4 s))=!N_ l tl nc ng s:=by
 unfold N_;rw[Bool.eq_iff_iff];simp only[Bool.or_eq_true,bne_iff_ne,decide_eq_true_eq,Bool.not_eq_true',Bool.and_eq_false_iff,beq_eq_false_iff_ne,decide_eq_false_iff_not,ne_eq];constructor
 ·rintro ((h|h)|h)
  ·exact .inl (.inl h)
  ·exact .inl (.inr (by omega))
  ·exact .inr h
 ·rintro ((h|h)|h)
  ·exact .inl (.inl h)
  ·exact .inl (.inr (by omega))
  ·exact .inr h
def Kw:AL (Int):=(.one (.k (.i .u32)))
def YW (d:Int):Prop:=False
def YR (d:Int):SV:=.val (.i .i64) ((tzN d.toNat:Nat):Int)
def YY (d:Int):List OB:=[]
def Xi:CSp:=YO Kw YW YR YY
abbrev Kf:Prop:=OkC Tryz.prog 100 Xi
theorem Kq:Kf:=IA fun _ h=>h
def XA:AL (Int):=(.one (.k (.i .u64)))
def KK (d:Int):Prop:=0≤d∧d≤18446744073709551615
def Xl (d:Int):SV:=.val (.i .i64) ((tzN d.toNat:Nat):Int)
def Xm (d:Int):List OB:=[]
def J3:CSp:=YO XA KK Xl Xm
def QW (x:Int):Prop :=
 (false=true →
  (InK .u32 x)∧(False)∧(((tzN x.toNat:Nat):Int)=((tzN x.toNat:Nat):Int)∧(True))) ∧
 (false=false →
  (0≤x∧x≤18446744073709551615)∧(((tzN x.toNat:Nat):Int)=((tzN x.toNat:Nat):Int)∧(True)))
def Xv:Cx:=⟨[],[(100,Xi),(101,Xk)],8,[],0,[],[],[],[],false,[],[],[],[]⟩
def Vs (x:Int):List (Nat×LoopAnn):=[]
set_option maxRecDepth 100000 in
theorem Vt (d:Int):gwp (Xv) (Vs d) c83 0 (VT [.tmp 2] (Xl d) (Xm d)) (Qt 8 (AL.can XA d))=QW d:=by kernel_rfl
abbrev Vr:Prop:=OkC Tryz.prog 83 J3
theorem Vw (h:∀ (x:Int),(0≤x∧x≤18446744073709551615)→QW x):OkC Tryz.prog 83 J3 :=
 Z7 Q6b mixed (C:=Xv) (V:=fun (d:Int)=>QW d) ⟨(.cons Kq (.cons Kc .nil)),XsOk.nil,ItsOk.nil,YlOk.nil,IysOk.nil,XfOk.nil⟩ (Vt) fun d hp=>h d hp
theorem Vm:Vr:=Vw fun x h=>by unfold QW;(try delta lI gD sT I64);refine⟨(fun h=>by cases h),fun _=>⟨h,?_⟩⟩;and_intros<;>first|rfl|trivial
def Ng:AL (Int):=(.one (.k (.i .u64)))
def BS (d:Int):Prop:=0≤d∧d≤1048576
def Un (d:Int):SV:=.lst 0
def Ul (d:Int):List OB:=[.lst 3 (.i .i64) (Q4 d.toNat) ((Q4 d.toNat).isEmpty)]
def Z8:CSp:=YO Ng BS Un Ul
def XU (x:Int):Prop :=
 ∃ (e3:Unit) (d30:Int×(List Int)),((x=d30.1∧True∧True)∧((d30.2=[]∧(List.isEmpty d30.2)=true)∧True)) ∧
 LoopP (fun (d3:Int×(List Int)) (q3:(Int×(List Int))→Prop) =>
  ((d3.1 != (0:Int))=true →
   (0≤d3.1∧d3.1≤18446744073709551615)∧(((List.length d3.2)+(List.length [((tzN d3.1.toNat:Nat):Int)]))*8≤70368744177664)∧(InK .u64 (d3.1-(1:Int)))∧(∃ d4:Int×(List Int),(((Jb .and .u64 d3.1 (d3.1-(1:Int)))=d4.1∧True∧True)∧(((d3.2++[((tzN d3.1.toNat:Nat):Int)])=d4.2∧false=(List.isEmpty d4.2))∧True))∧q3 d4)) ∧
  ((d3.1 != (0:Int))=false →
   (True∧((d3.2=(Q4 x.toNat)∧(List.isEmpty d3.2)=(Q4 x.toNat).isEmpty)∧True)))) d30
def Nj:Cx:=⟨[(3,(.i .i64))],[(83,J3)],15,[],0,[],[],[],[],false,[],[],[],[]⟩
def Hu (x:Int):List (Nat×LoopAnn):=[(0,⟨Unit,Int×(List Int),[0,2],fun e x=>[.val (.i .u64) x.1,.lst 13],fun e x=>[(13,.slot 2,.lst 3 (.i .i64) x.2 (List.isEmpty x.2))]⟩)]
set_option maxRecDepth 100000 in
theorem HB (d:Int):gwp (Nj) (Hu d) c56 0 (VT [.tmp 2] (Un d) (Ul d)) (Qt 15 (AL.can Ng d))=XU d:=by kernel_rfl
abbrev HM:Prop:=OkC Tryz.prog 56 Z8
theorem HJ (h:∀ (x:Int),(0≤x∧x≤1048576)→XU x):OkC Tryz.prog 56 Z8 :=
 Z7 Q7m mixed (C:=Nj) (V:=fun (d:Int)=>XU d) ⟨(.cons Vm .nil),XsOk.nil,ItsOk.nil,YlOk.nil,IysOk.nil,XfOk.nil⟩ (HB) fun d hp=>h d hp
theorem ZP:HM:=HJ fun x h=>by
 obtain⟨h1,h2⟩:=h;unfold XU;(try delta lI gD sT I64);obtain⟨n,rfl⟩:=Int.eq_ofNat_of_zero_le h1;rw[Int.toNat_natCast];have eP:=Eo n;refine⟨(),((n:Int),[]),(by and_intros<;>first|rfl|trivial|simp),?_⟩;refine⟨fun d=>∃ s:Nat,d.1=s∧s≤n∧d.2++Q4 s=Q4 n,fun d=>d.1.toNat,⟨n,rfl,Nat.le_refl _,rfl⟩,?_⟩;rintro⟨_,L⟩ ⟨s,rfl,i1,i2⟩;dsimp only at i2 ⊢;simp only[bne_iff_ne,bne_eq_false_iff_eq,ne_eq,Int.toNat_natCast];refine⟨fun h0=>?_,fun h0=>?_⟩
 ·have hs:0<s:=by omega
  have e1:(s:Int)-1=((s-1:Nat):Int):=by omega
  have bE:=LP hs;have uO:L.length+1≤n:=by have:=congrArg List.length i2;rw[bE,List.length_append,List.length_cons] at this;omega
  have hle:=Nat.and_le_right (n:=s) (m:=s-1);refine⟨⟨by omega,by omega⟩,by simp only[List.length_cons,List.length_nil];omega,by rw[XE];omega,(((s &&& (s-1):Nat):Int),L++[((tzN s:Nat):Int)]),?_,⟨s &&& (s-1),rfl,by omega,?_⟩,?_⟩
  ·rw[e1,Ef (by omega) (by omega)];have:(L++[((tzN s:Nat):Int)]).isEmpty=false:=by simp
   and_intros<;>first|rfl|trivial|exact this.symm
  ·dsimp only;rw[←i2,bE,List.append_assoc];rfl
  ·dsimp only;omega
 ·have:s=0:=by omega
  subst this;rw[Q18,List.append_nil] at i2;subst i2;and_intros<;>first|rfl|trivial
def MI:AL (Int×Int):=(.one (.agg (.cons (.k (.i .i64)) (.one (.k (.i .i64))))))
def Hv (d:Int×Int):Prop:=True
def Np (d:Int×Int):SV:=.val .bo (Gp d.1 d.2)
def Nn (d:Int×Int):List OB:=[]
def U1:CSp:=YO MI Hv Np Nn
def WB (nc:Int) (ng:Int):Prop :=
 ([nc].length≤1000000)∧((!([nc].any fun n=>decide (n<(0:Int))||decide ((9:Int)<n)))=true→True)∧((!([nc].any fun n=>decide (n<(0:Int))||decide ((9:Int)<n)))=true→[ng].length≤1000000)∧(((!([nc].any fun n=>decide (n<(0:Int))||decide ((9:Int)<n)))&&(!([ng].any fun n=>decide (n<(1:Int))||decide ((12000000:Int)<n))))=(Gp nc ng)∧(True))
def NM:Cx:=⟨[(3,(.i .i64))],[(61,Zn)],13,[],0,[],[],[],[],false,[],[],[],[]⟩
def TG (nc:Int) (ng:Int):List (Nat×LoopAnn):=[]
set_option maxRecDepth 100000 in
theorem T3 (d:Int×Int):gwp (NM) (TG d.1 d.2) c52 0 (VT [.tmp 2] (Np d) (Nn d)) (Qt 13 (AL.can MI d))=WB d.1 d.2:=by kernel_rfl
abbrev Tn:Prop:=OkC Tryz.prog 52 U1
theorem Th (h:∀ (nc:Int) (ng:Int),(True)→WB nc ng):OkC Tryz.prog 52 U1 :=
 Z7 Q6h mixed (C:=NM) (V:=fun (d:Int×Int)=>WB d.1 d.2) ⟨(.cons Jl .nil),XsOk.nil,ItsOk.nil,YlOk.nil,IysOk.nil,XfOk.nil⟩ (T3) fun d hp=>h d.1 d.2 hp
theorem P6:Tn:=Th fun nc ng _=>by unfold WB;(try delta lI gD sT I64);have e:∀ n a b:Int,(decide (n<a)||decide (b<n))=!inI n a b:=fun n a b=>(nI n a b).symm;simp only[List.any_cons,List.any_nil,Bool.or_false,e,Bool.not_not,List.length_cons,List.length_nil];refine⟨by omega,fun _=>trivial,fun _=>by omega,?_⟩;and_intros<;>first|rfl|trivial
def K1:AL (((List (Int×(Int×Int)×Int))×Int)×Int):=(.cons (.agg (.cons (.k (.list (.pair (.i .i64) (.pair (.pair (.i .i64) (.i .i64)) (.i .i64))))) (.one (.k (.i .i64))))) (.one (.k (.i .u64))))
def Mp (d:((List (Int×(Int×Int)×Int))×Int)×Int):Prop:=d.1.1.length≤12∧(∀ y∈d.1.1,Qw y=true)∧0≤d.2∧d.2<2 ^ d.1.1.length
def YA (d:((List (Int×(Int×Int)×Int))×Int)×Int):SV:=.val (.i .i64) (KJ d.1.1 (Q4 d.2.toNat))
def YE (d:((List (Int×(Int×Int)×Int))×Int)×Int):List OB:=[]
def W5:CSp:=YO K1 Mp YA YE
def Je (l:List (Int×(Int×Int)×Int)) (tl:Int) (sx:Int):Prop :=
 (0≤sx∧sx≤1048576)∧∃ (e3:Unit) (d30:Int×Int),((True∧(0:Int)=d30.1∧True∧(lI (Q4 sx.toNat))=(lI (Q4 sx.toNat))∧(0:Int)=d30.2∧True)∧((l=l∧tl=tl∧(([]:List SV)=[]))∧((Q4 sx.toNat)=(Q4 sx.toNat)∧(Q4 sx.toNat).isEmpty=(List.isEmpty (Q4 sx.toNat)))∧True)) ∧
 LoopP (fun (d3:Int×Int) (q3:(Int×Int)→Prop) =>
  ((decide (d3.2<(lI (Q4 sx.toNat))))=true →
   (0≤d3.2)∧(d3.2<(List.length (Q4 sx.toNat)))∧(0≤(gD (Q4 sx.toNat) d3.2 0))∧((gD (Q4 sx.toNat) d3.2 0)<(List.length l))∧(I64 (d3.1+(gD l (gD (Q4 sx.toNat) d3.2 0) (0,((0,0),0))).2.2))∧(I64 (d3.2+(1:Int)))∧(∃ d4:Int×Int,((True∧(d3.1+(gD l (gD (Q4 sx.toNat) d3.2 0) (0,((0,0),0))).2.2)=d4.1∧True∧(lI (Q4 sx.toNat))=(lI (Q4 sx.toNat))∧(d3.2+(1:Int))=d4.2∧True)∧((l=l∧tl=tl∧(([]:List SV)=[]))∧((Q4 sx.toNat)=(Q4 sx.toNat)∧(List.isEmpty (Q4 sx.toNat))=(List.isEmpty (Q4 sx.toNat)))∧True))∧q3 d4)) ∧
  ((decide (d3.2<(lI (Q4 sx.toNat))))=false →
   (d3.1=(KJ l (Q4 sx.toNat))∧(True)))) d30
def Ka:Cx:=⟨[],[(56,Z8)],24,[],0,[],[],[],[],false,[],[],[],[]⟩
def G4 (l:List (Int×(Int×Int)×Int)) (tl:Int) (sx:Int):List (Nat×LoopAnn):=[(0,⟨Unit,Int×Int,[2,4,8,9,10],fun e x=>[.box 2 0,.val (.i .i64) x.1,.lst 8,.val (.i .i64) (((List.length (Q4 sx.toNat)):Nat):Int),.val (.i .i64) x.2],fun e x=>[(2,.slot 2,.cells [.val (.list (.pair (.i .i64) (.pair (.pair (.i .i64) (.i .i64)) (.i .i64)))) l,.val (.i .i64) tl] (some 105)),(8,.slot 8,.lst 3 (.i .i64) (Q4 sx.toNat) (List.isEmpty (Q4 sx.toNat)))]⟩)]
set_option maxRecDepth 100000 in
theorem G8 (d:((List (Int×(Int×Int)×Int))×Int)×Int):gwp (Ka) (G4 d.1.1 d.1.2 d.2) c78 0 (VT [.tmp 4] (YA d) (YE d)) (Qt 24 (AL.can K1 d))=Je d.1.1 d.1.2 d.2:=by kernel_rfl
abbrev M_:Prop:=OkC Tryz.prog 78 W5
theorem G5 (h:∀ (l:List (Int×(Int×Int)×Int)) (tl:Int) (sx:Int),(l.length≤12∧(∀ y∈l,Qw y=true)∧0≤sx∧sx<2 ^ l.length)→Je l tl sx):OkC Tryz.prog 78 W5 :=
 Z7 Q6q mixed (C:=Ka) (V:=fun (d:((List (Int×(Int×Int)×Int))×Int)×Int)=>Je d.1.1 d.1.2 d.2) ⟨(.cons ZP .nil),XsOk.nil,ItsOk.nil,YlOk.nil,IysOk.nil,XfOk.nil⟩ (G8) fun d hp=>h d.1.1 d.1.2 d.2 hp
theorem G6:M_:=G5 fun l tl sx h=>by
 obtain⟨h1,h2,h3,h4⟩:=h;obtain⟨n,rfl⟩:=Int.eq_ofNat_of_zero_le h3;have hp:(2:Int) ^ l.length=((2 ^ l.length:Nat):Int):=by simp
 have cU:2 ^ l.length≤2 ^ 12:=Nat.pow_le_pow_right (by omega) h1;have dA:(2:Nat) ^ 12=4096:=rfl;rw[hp] at h4;have hn:n<2 ^ l.length:=by omega
 unfold Je;(try delta lI gD sT I64);rw[Int.toNat_natCast];have ai:=NL hn (by omega);have eP:=Eo n;generalize Q4 n=S at *
 simp only[decide_eq_true_eq,decide_eq_false_iff_not];refine⟨⟨by omega,by omega⟩,(),(0,0),(by and_intros<;>first|rfl|trivial|simp),?_⟩;refine LoopP.count2 S.length (fun k a=>a=KJ l (S.take k)∧0≤a∧a≤1000000*(k:Int)) ⟨rfl,by omega,by omega⟩ fun k a hk hJ q hq=>?_;obtain⟨rfl,j2,j3⟩:=hJ;dsimp only;have hd:∀ j,l.getD j (0,((0,0),0))=l.getD j Zg:=fun _=>rfl;simp only[Int.toNat_natCast,hd];refine⟨fun lJ=>?_,fun bt=>?_⟩
 ·have jv:k<S.length:=by omega
  have hm:=ai _ (by rw[Qa jv];exact List.getElem_mem jv:S.getD k 0∈S);have hj:(S.getD k 0).toNat<l.length:=by omega
  have hg:=Bd.1 (h2 _ (List.getElem_mem hj));have uP:1≤(l.getD (S.getD k 0).toNat Zg).2.2∧(l.getD (S.getD k 0).toNat Zg).2.2≤1000000:=by rw[Qa hj];omega
  have hs:=I5 (l:=l) jv;refine⟨by omega,lJ,hm.1,hm.2,by rw[Z3];omega,by rw[Z3];omega,(KJ l (S.take k)+(l.getD (S.getD k 0).toNat Zg).2.2,(k:Int)+1),(by and_intros<;>first|rfl|trivial|simp),hq _ jv ⟨hs.symm,by omega,by omega⟩⟩
 ·have:k=S.length:=by omega
  subst this;rw[List.take_length];and_intros<;>first|rfl|trivial
end Go.Proofs.Tryz
set_option linter.unusedVariables false
namespace Go.Proofs.Tryz
open Go Go.V Go.Proofs
def WZ:AL ((Int×Int×Int×Int)×List (Int×(Int×Int)×Int)):=(.cons (.agg (.cons (.k (.i .i64)) (.cons (.k (.i .i64)) (.cons (.k (.i .i64)) (.one (.k (.i .i64))))))) (.one (.ptr (.one (.k (.list (.pair (.i .i64) (.pair (.pair (.i .i64) (.i .i64)) (.i .i64)))))))))
def UQ (d:(Int×Int×Int×Int)×List (Int×(Int×Int)×Int)):Prop:=d.2≠[]
def WN (d:(Int×Int×Int×Int)×List (Int×(Int×Int)×Int)):SV:=.val .bo (d.1.1 != (d.2.getD 0 Zg).1)
def WM (d:(Int×Int×Int×Int)×List (Int×(Int×Int)×Int)):List OB:=[]
def Xc:CSp:=YO WZ UQ WN WM
def ZB (lc:Int) (lo:Int) (hi:Int) (lg:Int) (l:List (Int×(Int×Int)×Int)):Prop :=
 (0≤(0:Int))∧((0:Int)<(List.length l))∧((lc != (gD l (0:Int) (0,((0,0),0))).1)=(lc != (l.getD 0 Zg).1)∧(True))
def Y6:Cx:=⟨[],[],11,[],0,[],[],[],[],false,[],[],[],[]⟩
def NH (lc:Int) (lo:Int) (hi:Int) (lg:Int) (l:List (Int×(Int×Int)×Int)):List (Nat×LoopAnn):=[]
set_option maxRecDepth 100000 in
theorem ND (d:(Int×Int×Int×Int)×List (Int×(Int×Int)×Int)):gwp (Y6) (NH d.1.1 d.1.2.1 d.1.2.2.1 d.1.2.2.2 d.2) c98 0 (VT [.tmp 3] (WN d) (WM d)) (Qt 11 (AL.can WZ d))=ZB d.1.1 d.1.2.1 d.1.2.2.1 d.1.2.2.2 d.2:=by kernel_rfl
abbrev NF:Prop:=OkC Tryz.prog 98 Xc
theorem NK (h:∀ (lc:Int) (lo:Int) (hi:Int) (lg:Int) (l:List (Int×(Int×Int)×Int)),(l≠[])→ZB lc lo hi lg l):OkC Tryz.prog 98 Xc :=
 Z7 Q77 mixed (C:=Y6) (V:=fun (d:(Int×Int×Int×Int)×List (Int×(Int×Int)×Int))=>ZB d.1.1 d.1.2.1 d.1.2.2.1 d.1.2.2.2 d.2) ⟨.nil,XsOk.nil,ItsOk.nil,YlOk.nil,IysOk.nil,XfOk.nil⟩ (ND) fun d hp=>h d.1.1 d.1.2.1 d.1.2.2.1 d.1.2.2.2 d.2 hp
theorem Nz:NF:=NK fun lc lo hi lg l h=>by unfold ZB;(try delta lI gD sT I64);have hp:0<l.length:=List.length_pos_iff.2 h;refine⟨by omega,by omega,?_⟩;and_intros<;>first|rfl|trivial
def K4:AL (((List (Int×(Int×Int)×Int))×Int)×Int):=(.cons (.agg (.cons (.k (.list (.pair (.i .i64) (.pair (.pair (.i .i64) (.i .i64)) (.i .i64))))) (.one (.k (.i .i64))))) (.one (.k (.i .u64))))
def M4 (d:((List (Int×(Int×Int)×Int))×Int)×Int):Prop:=d.1.1.length≤12∧(∀ y∈d.1.1,Qw y=true)∧0<d.2∧d.2<2 ^ d.1.1.length
def YL (d:((List (Int×(Int×Int)×Int))×Int)×Int):SV:=.val .bo (JE d.1.1 d.1.2 (Q4 d.2.toNat))
def YF (d:((List (Int×(Int×Int)×Int))×Int)×Int):List OB:=[]
def Z1:CSp:=YO K4 M4 YL YF
def Ji (l:List (Int×(Int×Int)×Int)) (tl:Int) (sx:Int):Prop :=
 (0≤sx∧sx≤1048576)∧∃ (e4:Unit) (d40:(List (Int×(Int×Int)×Int))×Int),((True∧True∧True∧(lI (Q4 sx.toNat))=(lI (Q4 sx.toNat))∧(0:Int)=d40.2∧True)∧((l=l∧tl=tl∧(([]:List SV)=[]))∧(True∧(([]:List SV)=[]))∧(d40.1=[]∧(List.isEmpty d40.1)=true)∧((Q4 sx.toNat)=(Q4 sx.toNat)∧(Q4 sx.toNat).isEmpty=(List.isEmpty (Q4 sx.toNat)))∧True)) ∧
 LoopP (fun (d4:(List (Int×(Int×Int)×Int))×Int) (q4:((List (Int×(Int×Int)×Int))×Int)→Prop) =>
  ((decide (d4.2<(lI (Q4 sx.toNat))))=true →
   (0≤d4.2)∧(d4.2<(List.length (Q4 sx.toNat)))∧(0≤(gD (Q4 sx.toNat) d4.2 0))∧((gD (Q4 sx.toNat) d4.2 0)<(List.length l))∧(((List.length d4.1)+(List.length [((gD l (gD (Q4 sx.toNat) d4.2 0) (0,((0,0),0))).1,(((gD l (gD (Q4 sx.toNat) d4.2 0) (0,((0,0),0))).2.1.1,(gD l (gD (Q4 sx.toNat) d4.2 0) (0,((0,0),0))).2.1.2),(gD l (gD (Q4 sx.toNat) d4.2 0) (0,((0,0),0))).2.2))]))*32≤70368744177664)∧(I64 (d4.2+(1:Int)))∧(∃ d5:(List (Int×(Int×Int)×Int))×Int,((True∧True∧True∧(lI (Q4 sx.toNat))=(lI (Q4 sx.toNat))∧(d4.2+(1:Int))=d5.2∧True)∧((l=l∧tl=tl∧(([]:List SV)=[]))∧(True∧(([]:List SV)=[]))∧((d4.1++[((gD l (gD (Q4 sx.toNat) d4.2 0) (0,((0,0),0))).1,(((gD l (gD (Q4 sx.toNat) d4.2 0) (0,((0,0),0))).2.1.1,(gD l (gD (Q4 sx.toNat) d4.2 0) (0,((0,0),0))).2.1.2),(gD l (gD (Q4 sx.toNat) d4.2 0) (0,((0,0),0))).2.2))])=d5.1∧false=(List.isEmpty d5.1))∧((Q4 sx.toNat)=(Q4 sx.toNat)∧(List.isEmpty (Q4 sx.toNat))=(List.isEmpty (Q4 sx.toNat)))∧True))∧q4 d5)) ∧
  ((decide (d4.2<(lI (Q4 sx.toNat))))=false →
   (d4.1.length≤1000000∧∀ x∈d4.1,(fun (x1:Int×(Int×Int)×Int)=>d4.1≠[]) x)∧((!(d4.1.any (fun (x1:Int×(Int×Int)×Int)=>(x1.1 != (d4.1.getD 0 Zg).1))))=true→d4.1≠[]∧d4.1.length≤1000∧∀ x∈d4.1,Qw x=true)∧(((!(d4.1.any (fun (x1:Int×(Int×Int)×Int)=>(x1.1 != (d4.1.getD 0 Zg).1))))&&(decide (((Q5s d4.1).2)≤tl)))=(JE l tl (Q4 sx.toNat))∧(True)))) d40
def K3:Cx:=⟨[(78,(.pair (.i .i64) (.pair (.pair (.i .i64) (.i .i64)) (.i .i64))))],[(56,Z8),(90,Qd),(98,Xc),(70,VY)],38,[],0,[],[],[],[],false,[],[],[],[]⟩
def G7 (l:List (Int×(Int×Int)×Int)) (tl:Int) (sx:Int):List (Nat×LoopAnn):=[(0,⟨Unit,(List (Int×(Int×Int)×Int))×Int,[2,5,10,11,12],fun e x=>[.box 2 0,.box 5 0,.lst 10,.val (.i .i64) (((List.length (Q4 sx.toNat)):Nat):Int),.val (.i .i64) x.2],fun e x=>[(2,.slot 2,.cells [.val (.list (.pair (.i .i64) (.pair (.pair (.i .i64) (.i .i64)) (.i .i64)))) l,.val (.i .i64) tl] (some 105)),(5,.slot 5,.cells [.lst 23] (some 22)),(23,.cell 5 0,.lst 78 (.pair (.i .i64) (.pair (.pair (.i .i64) (.i .i64)) (.i .i64))) x.1 (List.isEmpty x.1)),(10,.slot 10,.lst 3 (.i .i64) (Q4 sx.toNat) (List.isEmpty (Q4 sx.toNat)))]⟩)]
set_option maxRecDepth 100000 in
theorem MY (d:((List (Int×(Int×Int)×Int))×Int)×Int):gwp (K3) (G7 d.1.1 d.1.2 d.2) c79 0 (VT [.tmp 4] (YL d) (YF d)) (Qt 38 (AL.can K4 d))=Ji d.1.1 d.1.2 d.2:=by kernel_rfl
abbrev G0:Prop:=OkC Tryz.prog 79 Z1
theorem MZ (h:∀ (l:List (Int×(Int×Int)×Int)) (tl:Int) (sx:Int),(l.length≤12∧(∀ y∈l,Qw y=true)∧0<sx∧sx<2 ^ l.length)→Ji l tl sx):OkC Tryz.prog 79 Z1 :=
 Z7 Q8b mixed (C:=K3) (V:=fun (d:((List (Int×(Int×Int)×Int))×Int)×Int)=>Ji d.1.1 d.1.2 d.2) ⟨(.cons ZP (.cons QC (.cons Nz (.cons PX .nil)))),XsOk.nil,ItsOk.nil,YlOk.nil,IysOk.nil,XfOk.nil⟩ (MY) fun d hp=>h d.1.1 d.1.2 d.2 hp
end Go.Proofs.Tryz
set_option linter.unusedVariables false
namespace Go.Proofs.Tryz
open Go Go.V Go.Proofs
theorem Jg:G0:=MZ fun l tl sx h=>by
 obtain⟨h1,h2,h3,h4⟩:=h;obtain⟨n,rfl⟩:=Int.eq_ofNat_of_zero_le (show 0≤sx by omega);have hp:(2:Int) ^ l.length=((2 ^ l.length:Nat):Int):=by simp
 have cU:2 ^ l.length≤2 ^ 12:=Nat.pow_le_pow_right (by omega) h1;have dA:(2:Nat) ^ 12=4096:=rfl;rw[hp] at h4;have hn:n<2 ^ l.length:=by omega
 unfold Ji;(try delta lI gD sT I64);rw[Int.toNat_natCast];have ai:=NL hn (by omega);have eP:=ZO hn (by omega);have aA:=NT (show 0<n by omega);generalize Q4 n=S at *
 have n9:Kt l S≠[]:=by simpa [Kt] using aA
 have qs:=Q39 h2 ai;have aO:∀ k,(Kt l (S.take k)).length=min k S.length:=fun k=>by simp[Kt]
 simp only[decide_eq_true_eq,decide_eq_false_iff_not];refine⟨⟨by omega,by omega⟩,(),([],0),(by and_intros<;>first|rfl|trivial|simp),?_⟩;refine LoopP.count2 S.length (fun k L=>L=Kt l (S.take k)) rfl fun k L hk hJ q hq=>?_;subst hJ;dsimp only;have hd:∀ j,l.getD j (0,((0,0),0))=l.getD j Zg:=fun _=>rfl;simp only[Int.toNat_natCast,hd];refine⟨fun lJ=>?_,fun bt=>?_⟩
 ·have jv:k<S.length:=by omega
  have hm:=ai _ (by rw[Qa jv];exact List.getElem_mem jv:S.getD k 0∈S);refine⟨by omega,lJ,hm.1,hm.2,by simp only[aO,List.length_cons,List.length_nil];omega,by rw[Z3];omega,(Kt l (S.take (k+1)),(k:Int)+1),?_,hq _ jv rfl⟩;rw[FM jv];have:((Kt l (S.take k)++[l.getD (S.getD k 0).toNat Zg]).isEmpty)=false:=by simp
  and_intros<;>first|rfl|trivial|exact this.symm
 ·have:k=S.length:=by omega
  subst this;have aN:=aO S.length;rw[List.take_length] at *
  refine⟨⟨by omega,fun _ _=>n9⟩,fun _=>⟨n9,by omega,qs⟩,?_⟩;and_intros<;>first|rfl|trivial
end Go.Proofs.Tryz
set_option linter.unusedVariables false
namespace Go.Proofs.Tryz
open Go Go.V Go.Proofs
def Nw:AL (Int):=(.one (.k (.i .i64)))
def Bs (d:Int):Prop:=True
def Ur (d:Int):SV:=.val .bo false
def UB (d:Int):List OB:=[]
def WV:CSp:=YO Nw Bs Ur UB
def XW (a:Int):Prop :=
 ((a != a)=false∧(True))
def Nh:Cx:=⟨[],[],6,[],0,[],[],[],[],false,[],[],[],[]⟩
def Hq (a:Int):List (Nat×LoopAnn):=[]
set_option maxRecDepth 100000 in
theorem HI (d:Int):gwp (Nh) (Hq d) c99 0 (VT [.tmp 2] (Ur d) (UB d)) (Qt 6 (AL.can Nw d))=XW d:=by kernel_rfl
abbrev Hs:Prop:=OkC Tryz.prog 99 WV
theorem HF (h:∀ (a:Int),(True)→XW a):OkC Tryz.prog 99 WV :=
 Z7 Q8p mixed (C:=Nh) (V:=fun (d:Int)=>XW d) ⟨.nil,XsOk.nil,ItsOk.nil,YlOk.nil,IysOk.nil,XfOk.nil⟩ (HI) fun d hp=>h d hp
theorem Ns:Hs:=HF fun a _=>by unfold XW;(try delta lI gD sT I64);simp
def VK:AL (Int×Int):=(.cons (.k (.i .i64)) (.one (.k (.i .i64))))
def D1 (d:Int×Int):Prop:=True
def KG (d:Int×Int):SV:=.val (.i .i64) (UJ d.1 d.2)
def Vb (d:Int×Int):List OB:=[]
def Jo:CSp:=YO VK D1 KG Vb
def X8 (a:Int) (b:Int):Prop :=
 (True)∧(True)∧(false=true →
  (false=true →
   ((0:Int)=(UJ a b)∧(True))) ∧
  (false=false →
   ((-1:Int)=(UJ a b)∧(True)))) ∧
 (false=false →
  (false=true →
   ((1:Int)=(UJ a b)∧(True))) ∧
  (false=false →
   ((decide (a<b))=true →
    ((-1:Int)=(UJ a b)∧(True))) ∧
   ((decide (a<b))=false →
    ((decide (a > b))=true →
     ((1:Int)=(UJ a b)∧(True))) ∧
    ((decide (a > b))=false →
     ((0:Int)=(UJ a b)∧(True))))))
def VQ:Cx:=⟨[],[(99,WV)],20,[],0,[],[],[],[],false,[],[],[],[]⟩
def Df (a:Int) (b:Int):List (Nat×LoopAnn):=[]
set_option maxRecDepth 100000 in
theorem Da (d:Int×Int):gwp (VQ) (Df d.1 d.2) c81 0 (VT [.tmp 4] (KG d) (Vb d)) (Qt 20 (AL.can VK d))=X8 d.1 d.2:=by kernel_rfl
abbrev DC:Prop:=OkC Tryz.prog 81 Jo
theorem Db (h:∀ (a:Int) (b:Int),(True)→X8 a b):OkC Tryz.prog 81 Jo :=
 Z7 Q7p mixed (C:=VQ) (V:=fun (d:Int×Int)=>X8 d.1 d.2) ⟨(.cons Ns .nil),XsOk.nil,ItsOk.nil,YlOk.nil,IysOk.nil,XfOk.nil⟩ (Da) fun d hp=>h d.1 d.2 hp
theorem WD:DC:=Db fun a b _=>by
 unfold X8;(try delta lI gD sT I64);simp only[decide_eq_true_eq,decide_eq_false_iff_not,true_and,and_true,decide_eq_true_eq,decide_eq_false_iff_not,gt_iff_lt,false_implies,Bool.false_eq_true,forall_const];unfold UJ;refine⟨fun h=>?_,fun h=>⟨fun h2=>?_,fun h2=>?_⟩⟩
 ·rw[if_pos h]
 ·rw[if_neg h,if_pos h2]
 ·rw[if_neg h,if_neg h2]
def Dv:AL (List Int):=(.one (.k (.list (.i .i64))))
def R5 (d:List Int):Prop:=d.length≤1000
def Ge (d:List Int):SV:=.val (.i .i64) (orI d)
def Gi (d:List Int):List OB:=[]
def VX:CSp:=YO Dv R5 Ge Gi
def Ko (l:List Int):Prop :=
 ∃ (e2:Unit) (d20:Int),(((0:Int)=(0:Int)∧l=l∧(lI l)=(lI l)∧(0:Int)=d20∧True)∧(True)) ∧
 LoopP (fun (d2:Int) (q2:(Int)→Prop) =>
  ((decide (d2<(lI l)))=true →
   (0≤d2)∧(d2<(List.length l))∧(((gD l d2 0) != (0:Int))=true →
    ((gD l d2 0)=(orI l)∧(True))) ∧
   (((gD l d2 0) != (0:Int))=false →
    (I64 (d2+(1:Int)))∧(∃ d3:Int,(((0:Int)=(0:Int)∧l=l∧(lI l)=(lI l)∧(d2+(1:Int))=d3∧True)∧(True))∧q2 d3))) ∧
  ((decide (d2<(lI l)))=false →
   ((0:Int)=(orI l)∧(True)))) d20
def DF:Cx:=⟨[],[],18,[],0,[],[],[],[],false,[],[],[],[]⟩
def Lg (l:List Int):List (Nat×LoopAnn):=[(0,⟨Unit,Int,[3,6,7,8],fun e x=>[.val (.i .i64) (0:Int),.val (.list (.i .i64)) l,.val (.i .i64) (((List.length l):Nat):Int),.val (.i .i64) x],fun e x=>[]⟩)]
set_option maxRecDepth 100000 in
theorem SJ (d:List Int):gwp (DF) (Lg d) c80 0 (VT [.tmp 2] (Ge d) (Gi d)) (Qt 18 (AL.can Dv d))=Ko d:=by kernel_rfl
abbrev SS:Prop:=OkC Tryz.prog 80 VX
theorem Sx (h:∀ (l:List Int),(l.length≤1000)→Ko l):OkC Tryz.prog 80 VX :=
 Z7 Q7y mixed (C:=DF) (V:=fun (d:List Int)=>Ko d) ⟨.nil,XsOk.nil,ItsOk.nil,YlOk.nil,IysOk.nil,XfOk.nil⟩ (SJ) fun d hp=>h d hp
theorem DA:SS:=Sx fun l h=>by
 unfold Ko;(try delta lI gD sT I64);simp only[decide_eq_true_eq,decide_eq_false_iff_not];refine⟨(),0,(by and_intros<;>first|rfl|trivial|simp),?_⟩;refine LoopP.count l.length (fun k=>∀ j,j<k→l.getD j 0=0) (fun j hj=>by omega) fun k hk hJ q hq=>?_;simp only[Int.toNat_natCast];refine⟨fun ai=>?_,fun bt=>?_⟩
 ·have aP:k<l.length:=by omega
  refine⟨by omega,ai,fun hx=>?_,fun hx=>⟨by rw[Z3];omega,_,(by and_intros<;>first|rfl|trivial|simp),hq aP fun j hj=>?_⟩⟩
  ·have hf:l.find? (fun x=>x != 0)=some l[k]:=by
    rw[List.find?_eq_some_iff_getElem];rw[Qa aP] at hx;refine⟨hx,k,aP,rfl,fun j hj=>?_⟩;have:=hJ j hj;rw[Qa (by omega)] at this;simp[this]
   refine⟨?_,trivial⟩;unfold orI;rw[hf,Qa aP];rfl
  ·rcases Nat.lt_succ_iff_lt_or_eq.1 hj with hj|rfl
   ·exact hJ j hj
   ·simpa using hx
 ·have hf:l.find? (fun x=>x != 0)=none:=by
   rw[List.find?_eq_none];intro x hx;obtain⟨j,hj,rfl⟩:=List.getElem_of_mem hx;have:=hJ j (by omega);rw[Qa hj] at this;simp[this]
  refine⟨?_,trivial⟩;unfold orI;rw[hf];rfl
def XP:AL (List Int×List Int):=(.cons (.k (.list (.i .i64))) (.one (.k (.list (.i .i64)))))
def Vp (d:List Int×List Int):Prop:=d.1.length≤1000∧d.2.length≤1000
def Xw (d:List Int×List Int):SV:=.val (.i .i64) (Nd d.1 d.2)
def Xx (d:List Int×List Int):List OB:=[]
def QK:CSp:=YO XP Vp Xw Xx
def Z5 (a:List Int) (b:List Int):Prop :=
 ∃ (e2:Unit) (d20:Int),((a=a∧b=b∧a=a∧(lI a)=(lI a)∧(0:Int)=d20∧True)∧(True)) ∧
 LoopP (fun (d2:Int) (q2:(Int)→Prop) =>
  ((decide (d2<(lI a)))=true →
   (0≤d2)∧(d2<(List.length a))∧((decide (d2≥(lI b)))=true →
    ((1:Int)=(Nd a b)∧(True))) ∧
   ((decide (d2≥(lI b)))=false →
    (0≤d2)∧(d2<(List.length b))∧(True)∧(((UJ (gD a d2 0) (gD b d2 0)) != (0:Int))=true →
     ((UJ (gD a d2 0) (gD b d2 0))=(Nd a b)∧(True))) ∧
    (((UJ (gD a d2 0) (gD b d2 0)) != (0:Int))=false →
     (I64 (d2+(1:Int)))∧(∃ d3:Int,((a=a∧b=b∧a=a∧(lI a)=(lI a)∧(d2+(1:Int))=d3∧True)∧(True))∧q2 d3)))) ∧
  ((decide (d2<(lI a)))=false →
   ((decide ((lI a)<(lI b)))=true →
    ((-1:Int)=(Nd a b)∧(True))) ∧
   ((decide ((lI a)<(lI b)))=false →
    ((0:Int)=(Nd a b)∧(True))))) d20
def XK:Cx:=⟨[],[(81,Jo)],36,[],0,[],[],[],[],false,[],[],[],[]⟩
def U0 (a:List Int) (b:List Int):List (Nat×LoopAnn):=[(0,⟨Unit,Int,[0,1,9,10,11],fun e x=>[.val (.list (.i .i64)) a,.val (.list (.i .i64)) b,.val (.list (.i .i64)) a,.val (.i .i64) (((List.length a):Nat):Int),.val (.i .i64) x],fun e x=>[]⟩)]
set_option maxRecDepth 100000 in
theorem Ua (d:List Int×List Int):gwp (XK) (U0 d.1 d.2) c82 0 (VT [.tmp 4] (Xw d) (Xx d)) (Qt 36 (AL.can XP d))=Z5 d.1 d.2:=by kernel_rfl
abbrev U8:Prop:=OkC Tryz.prog 82 QK
theorem Ue (h:∀ (a:List Int) (b:List Int),(a.length≤1000∧b.length≤1000)→Z5 a b):OkC Tryz.prog 82 QK :=
 Z7 Q8e mixed (C:=XK) (V:=fun (d:List Int×List Int)=>Z5 d.1 d.2) ⟨(.cons WD .nil),XsOk.nil,ItsOk.nil,YlOk.nil,IysOk.nil,XfOk.nil⟩ (Ua) fun d hp=>h d.1 d.2 hp
theorem J2:U8:=Ue fun a b h=>by
 obtain⟨h1,h2⟩:=h;unfold Z5;(try delta lI gD sT I64);simp only[decide_eq_true_eq,decide_eq_false_iff_not];refine⟨(),0,(by and_intros<;>first|rfl|trivial|simp),?_⟩;refine LoopP.count a.length (fun k=>k≤b.length∧∀ j,j<k→a.getD j 0=b.getD j 0) ⟨by omega,fun j hj=>by omega⟩ fun k hk hJ q hq=>?_;obtain⟨j1,j2⟩:=hJ;have hc:=LU k hk j1 j2;simp only[Int.toNat_natCast];refine⟨fun ai=>?_,fun bt=>?_⟩
 ·have aP:k<a.length:=by omega
  rw[List.drop_eq_getElem_cons aP] at hc;refine⟨by omega,ai,fun h3=>?_,fun h3=>?_⟩
  ·rw[List.drop_eq_nil_of_le (show b.length≤k by omega)] at hc;rw[hc];exact⟨rfl,trivial⟩
  ·have qt:k<b.length:=by omega
   rw[List.drop_eq_getElem_cons qt,Nd] at hc;rw[Qa aP,Qa qt];refine⟨by omega,by omega,trivial,fun hx=>?_,fun hx=>⟨by rw[Z3];omega,_,(by and_intros<;>first|rfl|trivial|simp),hq aP ⟨by omega,fun j hj=>?_⟩⟩⟩
   ·have hx:UJ a[k] b[k]≠0:=by simpa using hx
    rw[hc,if_pos hx];exact⟨rfl,trivial⟩
   ·rcases Nat.lt_succ_iff_lt_or_eq.1 hj with hj|rfl
    ·exact j2 j hj
    ·rw[Qa aP,Qa qt];exact Pp.1 (by simpa using hx)
 ·have:k=a.length:=by omega
  subst this;rw[List.drop_length] at hc;refine⟨fun h3=>?_,fun h3=>?_⟩
  ·rw[List.drop_eq_getElem_cons (show a.length<b.length by omega)] at hc;rw[hc];exact⟨rfl,trivial⟩
  ·rw[List.drop_eq_nil_of_le (show b.length≤a.length by omega)] at hc;rw[hc];exact⟨rfl,trivial⟩
end Go.Proofs.Tryz
set_option linter.unusedVariables false
namespace Go.Proofs.Tryz
open Go Go.V Go.Proofs
def V5:AL (((List (Int×(Int×Int)×Int))×Int)×Int×Int):=(.cons (.agg (.cons (.k (.list (.pair (.i .i64) (.pair (.pair (.i .i64) (.i .i64)) (.i .i64))))) (.one (.k (.i .i64))))) (.one (.agg (.cons (.k (.i .i64)) (.one (.k (.i .i64)))))))
def G1 (d:((List (Int×(Int×Int)×Int))×Int)×Int×Int):Prop:=d.1.1.length≤12∧(∀ y∈d.1.1,Qw y=true)
def K8 (d:((List (Int×(Int×Int)×Int))×Int)×Int×Int):SV:=.tup [.lst 0,.val (.i .i64) (if (Zd d.1.1 d.1.2 d.2.1 d.2.2 (2 ^ d.1.1.length)).isEmpty then 7 else 0)]
def K7 (d:((List (Int×(Int×Int)×Int))×Int)×Int×Int):List OB:=[.lst 3 (.i .i64) (Zd d.1.1 d.1.2 d.2.1 d.2.2 (2 ^ d.1.1.length)) ((Zd d.1.1 d.1.2 d.2.1 d.2.2 (2 ^ d.1.1.length)).isEmpty)]
def WK:CSp:=YO V5 G1 K8 K7
def JJ (l:List (Int×(Int×Int)×Int)) (tl:Int) (nc:Int) (ng:Int):Prop :=
 ∃ (e4:Unit) (d40:(List Int)×Int),((True∧True∧True∧(1:Int)=d40.2∧True)∧((l=l∧tl=tl∧(([]:List SV)=[]))∧(nc=nc∧ng=ng∧(([]:List SV)=[]))∧(d40.1=[]∧(List.isEmpty d40.1)=true)∧True)) ∧
 LoopP (fun (d4:(List Int)×Int) (q4:((List Int)×Int)→Prop) =>
  (0≤(lI l))∧(InK .u64 (QZ .u64 (1:Int) (lI l)))∧((decide (d4.2<(QZ .u64 (1:Int) (lI l))))=true →
   (0≤d4.2∧d4.2≤1048576)∧(0≤(0:Int))∧((0:Int)<(List.length (Q4 d4.2.toNat)))∧(0≤(gD (Q4 d4.2.toNat) (0:Int) 0))∧((gD (Q4 d4.2.toNat) (0:Int) 0)<(List.length l))∧(((gD l (gD (Q4 d4.2.toNat) (0:Int) 0) (0,((0,0),0))).1 != nc)=false→l.length≤12∧(∀ y∈l,Qw y=true)∧0≤d4.2∧d4.2<2 ^ l.length)∧((((gD l (gD (Q4 d4.2.toNat) (0:Int) 0) (0,((0,0),0))).1 != nc)||(decide ((KJ l (Q4 d4.2.toNat))<ng)))=false→l.length≤12∧(∀ y∈l,Qw y=true)∧0<d4.2∧d4.2<2 ^ l.length)∧(((((gD l (gD (Q4 d4.2.toNat) (0:Int) 0) (0,((0,0),0))).1 != nc)||(decide ((KJ l (Q4 d4.2.toNat))<ng)))||(!(JE l tl (Q4 d4.2.toNat))))=true →
    (InK .u64 (d4.2+(1:Int)))∧(∃ d5:(List Int)×Int,((True∧True∧True∧(d4.2+(1:Int))=d5.2∧True)∧((l=l∧tl=tl∧(([]:List SV)=[]))∧(nc=nc∧ng=ng∧(([]:List SV)=[]))∧(d4.1=d5.1∧(List.isEmpty d4.1)=(List.isEmpty d5.1))∧True))∧q4 d5)) ∧
   (((((gD l (gD (Q4 d4.2.toNat) (0:Int) 0) (0,((0,0),0))).1 != nc)||(decide ((KJ l (Q4 d4.2.toNat))<ng)))||(!(JE l tl (Q4 d4.2.toNat))))=false →
    ((List.isEmpty d4.1)=false→True)∧((List.isEmpty d4.1)=false→(Q4 d4.2.toNat).length≤1000∧d4.1.length≤1000)∧((List.isEmpty d4.1)=false→True)∧((List.isEmpty d4.1)=false→[(UJ (lI (Q4 d4.2.toNat)) (lI d4.1)),(Nd (Q4 d4.2.toNat) d4.1)].length≤1000)∧(((List.isEmpty d4.1)||(decide ((orI [(UJ (lI (Q4 d4.2.toNat)) (lI d4.1)),(Nd (Q4 d4.2.toNat) d4.1)])<(0:Int))))=true →
     (InK .u64 (d4.2+(1:Int)))∧(∃ d6:(List Int)×Int,((True∧True∧True∧(d4.2+(1:Int))=d6.2∧True)∧((l=l∧tl=tl∧(([]:List SV)=[]))∧(nc=nc∧ng=ng∧(([]:List SV)=[]))∧((Q4 d4.2.toNat)=d6.1∧(Q4 d4.2.toNat).isEmpty=(List.isEmpty d6.1))∧True))∧q4 d6)) ∧
    (((List.isEmpty d4.1)||(decide ((orI [(UJ (lI (Q4 d4.2.toNat)) (lI d4.1)),(Nd (Q4 d4.2.toNat) d4.1)])<(0:Int))))=false →
     (InK .u64 (d4.2+(1:Int)))∧(∃ d7:(List Int)×Int,((True∧True∧True∧(d4.2+(1:Int))=d7.2∧True)∧((l=l∧tl=tl∧(([]:List SV)=[]))∧(nc=nc∧ng=ng∧(([]:List SV)=[]))∧(d4.1=d7.1∧(List.isEmpty d4.1)=(List.isEmpty d7.1))∧True))∧q4 d7)))) ∧
  ((decide (d4.2<(QZ .u64 (1:Int) (lI l))))=false →
   ((List.isEmpty d4.1)=true →
    ((True∧(7:Int)=(if (Zd l tl nc ng (2 ^ l.length)).isEmpty then 7 else 0)∧(([]:List SV)=[]))∧(((Zd l tl nc ng (2 ^ l.length))=[]∧(Zd l tl nc ng (2 ^ l.length)).isEmpty=true)∧True))) ∧
   ((List.isEmpty d4.1)=false →
    ((True∧(0:Int)=(if (Zd l tl nc ng (2 ^ l.length)).isEmpty then 7 else 0)∧(([]:List SV)=[]))∧((d4.1=(Zd l tl nc ng (2 ^ l.length))∧(List.isEmpty d4.1)=(Zd l tl nc ng (2 ^ l.length)).isEmpty)∧True))))) d40
def V9:Cx:=⟨[(3,(.i .i64))],[(56,Z8),(78,W5),(79,Z1),(81,Jo),(82,QK),(80,VX)],62,[],0,[],[],[],[],false,[],[],[],[]⟩
def GA (l:List (Int×(Int×Int)×Int)) (tl:Int) (nc:Int) (ng:Int):List (Nat×LoopAnn):=[(0,⟨Unit,(List Int)×Int,[2,3,4,6],fun e x=>[.box 2 0,.box 3 0,.lst 6000004,.val (.i .u64) x.2],fun e x=>[(2,.slot 2,.cells [.val (.list (.pair (.i .i64) (.pair (.pair (.i .i64) (.i .i64)) (.i .i64)))) l,.val (.i .i64) tl] (some 105)),(3,.slot 3,.cells [.val (.i .i64) nc,.val (.i .i64) ng] (some 41)),(6000004,.slot 4,.lst 3 (.i .i64) x.1 (List.isEmpty x.1))]⟩)]
set_option maxRecDepth 100000 in
theorem GU (d:((List (Int×(Int×Int)×Int))×Int)×Int×Int):gwp (V9) (GA d.1.1 d.1.2 d.2.1 d.2.2) c53 0 (VT [.tmp 4,.tmp 5] (K8 d) (K7 d)) (Qt 62 (AL.can V5 d))=JJ d.1.1 d.1.2 d.2.1 d.2.2:=by kernel_rfl
abbrev GH:Prop:=OkC Tryz.prog 53 WK
theorem D6 (h:∀ (l:List (Int×(Int×Int)×Int)) (tl:Int) (nc:Int) (ng:Int),(l.length≤12∧(∀ y∈l,Qw y=true))→JJ l tl nc ng):OkC Tryz.prog 53 WK :=
 Z7 Q66 mixed (C:=V9) (V:=fun (d:((List (Int×(Int×Int)×Int))×Int)×Int×Int)=>JJ d.1.1 d.1.2 d.2.1 d.2.2) ⟨(.cons ZP (.cons G6 (.cons Jg (.cons WD (.cons J2 (.cons DA .nil)))))),XsOk.nil,ItsOk.nil,YlOk.nil,IysOk.nil,XfOk.nil⟩ (GU) fun d hp=>h d.1.1 d.1.2 d.2.1 d.2.2 hp
end Go.Proofs.Tryz
set_option linter.unusedVariables false
namespace Go.Proofs.Tryz
open Go Go.V Go.Proofs
theorem GF:GH:=D6 fun l tl nc ng h=>by
 obtain⟨h1,h2⟩:=h;have cU:2 ^ l.length≤2 ^ 12:=Nat.pow_le_pow_right (by omega) h1;have dA:(2:Nat) ^ 12=4096:=rfl;have oN:0<2 ^ l.length:=Nat.two_pow_pos _;have dI:(2:Int) ^ l.length=((2 ^ l.length:Nat):Int):=by simp
 unfold JJ;(try delta lI gD sT I64);have cT:QZ .u64 1 (l.length:Int)=((2 ^ l.length:Nat):Int):=by unfold QZ;rw[Int.toNat_natCast,show Nat.min l.length (IntKind.bits .u64)=l.length from Nat.min_eq_left (show l.length≤64 by omega),Int.one_mul];exact dI
 have hd:∀ j,l.getD j (0,((0,0),0))=l.getD j Zg:=fun _=>rfl;simp only[cT,decide_eq_true_eq,decide_eq_false_iff_not,hd];refine⟨(),([],1),(by and_intros<;>first|rfl|trivial|simp),?_⟩;refine⟨fun d=>∃ s:Nat,d.2=s∧1≤s∧s≤2 ^ l.length∧d.1=Zd l tl nc ng s,fun d=>2 ^ l.length-d.2.toNat,⟨1,rfl,by omega,by omega,rfl⟩,?_⟩;rintro⟨_,_⟩ ⟨s,rfl,i1,i2,rfl⟩;dsimp only;have oH:=LF (tl:=tl) (nc:=nc) (ng:=ng) (show l.length≤64 by omega) s i2;have hK:Zd l tl nc ng (s+1)=if N_ l tl nc ng s&&((Zd l tl nc ng s).isEmpty||AI (Q4 s) (Zd l tl nc ng s)) then Q4 s else Zd l tl nc ng s:=by
  conv=>lhs;unfold Zd
  rw[if_neg (by omega)]
 simp only[Int.toNat_natCast];refine⟨by omega,by rw[XE];omega,fun ai=>?_,fun bt=>?_⟩
 ·have hs:s<2 ^ l.length:=by omega
  have uQ:=ZO hs (show l.length≤64 by omega);have uh:=NT (show 0<s by omega);have rB:0<(Q4 s).length:=List.length_pos_iff.2 uh;have hm:=NL hs (show l.length≤64 by omega) _ (by rw[Qa rB];exact List.getElem_mem rB:(Q4 s).getD 0 0∈Q4 s);have hz:((0:Int)).toNat=0:=rfl;simp only[hz,IX];have ui:(decide (orI [UJ ((Q4 s).length:Int) ((Zd l tl nc ng s).length:Int),Nd (Q4 s) (Zd l tl nc ng s)]<0))=AI (Q4 s) (Zd l tl nc ng s):=rfl;rw[ui];have rC:(s:Int)<2 ^ l.length:=by rw[dI];omega
  have nx:∀ b:List Int,b=Zd l tl nc ng (s+1)→(∃ s',((s:Int)+1)=((s':Nat):Int)∧1≤s'∧s'≤2 ^ l.length∧b=Zd l tl nc ng s'):=fun b hb=>⟨s+1,by omega,by omega,by omega,hb⟩;refine⟨⟨by omega,by omega⟩,by omega,by omega,hm.1,hm.2,fun _=>⟨h1,h2,by omega,rC⟩,fun _=>⟨h1,h2,by omega,rC⟩,fun hx=>⟨by rw[XE];omega,(Zd l tl nc ng s,(s:Int)+1),(by and_intros<;>first|rfl|trivial|simp),nx _ ?_,by dsimp only;omega⟩,fun hx=>⟨fun _=>trivial,fun _=>⟨by omega,by omega⟩,fun _=>trivial,fun _=>by simp,fun hy=>⟨by rw[XE];omega,(Q4 s,(s:Int)+1),(by and_intros<;>first|rfl|trivial|simp),nx _ ?_,by dsimp only;omega⟩,fun hy=>⟨by rw[XE];omega,(Zd l tl nc ng s,(s:Int)+1),(by and_intros<;>first|rfl|trivial|simp),nx _ ?_,by dsimp only;omega⟩⟩⟩
  ·have hx:N_ l tl nc ng s=false:=by simpa using hx
   rw[hK,hx,Bool.false_and,if_neg (by decide)]
  ·have hx:N_ l tl nc ng s=true:=by simpa using hx
   rw[hK,hx,hy];rfl
  ·have hx:N_ l tl nc ng s=true:=by simpa using hx
   rw[hK,hx,hy,Bool.and_false,if_neg (by decide)]
 ·have:s=2 ^ l.length:=by omega
  subst this;refine⟨fun he=>?_,fun he=>?_⟩
  ·rw[he];have:=List.isEmpty_iff.1 he;rw[this];exact(by and_intros<;>first|rfl|trivial|simp)
  ·rw[he];exact(by and_intros<;>first|rfl|trivial|simp)
end Go.Proofs.Tryz
set_option linter.unusedVariables false
namespace Go.Proofs.Tryz
open Go Go.V Go.Proofs
def Dq:Cx:=⟨[(3,(.i .i64))],[(69,Xt),(61,Zn)],21,[],0,[],[],[],[],false,[],[],[],[]⟩
def Vz:XSp:=Z55 Dq (fun _=>[]) c51 [.cell 4 true 2,.tmp 5] 21
theorem U2:XOk Tryz.prog 51 Vz:=Q7c Q6a mixed (C:=Dq) ⟨(.cons Yn (.cons Jl .nil)),XsOk.nil,ItsOk.nil,YlOk.nil,IysOk.nil,XfOk.nil⟩ _
def Bi:AL ((List (Int×(Int×Int)×Int))×Int×Int×Int):=(.cons (.k (.list (.pair (.i .i64) (.pair (.pair (.i .i64) (.i .i64)) (.i .i64))))) (.cons (.k (.i .i64)) (.one (.agg (.cons (.k (.i .i64)) (.one (.k (.i .i64))))))))
def R4 (d:(List (Int×(Int×Int)×Int))×Int×Int×Int):Prop:=d.1.length≤1000
def Gq (d:(List (Int×(Int×Int)×Int))×Int×Int×Int):SV:=.tup [.lst 0,.val (.i .i64) (Zm d.1 d.2.1 d.2.2.1 d.2.2.2)]
def Gw (d:(List (Int×(Int×Int)×Int))×Int×Int×Int):List OB:=[.lst 3 (.i .i64) (Wn d.1 d.2.1 d.2.2.1 d.2.2.2) ((Wn d.1 d.2.1 d.2.2.1 d.2.2.2).isEmpty)]
def Mq:CSp:=YO Bi R4 Gq Gw
def Kn (l:List (Int×(Int×Int)×Int)) (tl:Int) (nc:Int) (ng:Int):Prop :=
 ∀ w1:List Value,(l.length≤1000)∧(((Qj l)==(0:Int))=true→True)∧(((Qj l)==(0:Int))=true→[tl].length≤1000000)∧((((Qj l)==(0:Int))&&(!(!([tl].any fun n=>decide (n<(0:Int))||decide ((1000:Int)<n)))))=true →
  w1=w1∧(((3:Int) != (0:Int))=true →
   ((True∧(3:Int)=(Zm l tl nc ng)∧(([]:List SV)=[]))∧(((Wn l tl nc ng)=[]∧(Wn l tl nc ng).isEmpty=true)∧True))) ∧
  (((3:Int) != (0:Int))=false →
   (True)∧((!(Gp nc ng))=true →
    ((True∧(2:Int)=(Zm l tl nc ng)∧(([]:List SV)=[]))∧(((Wn l tl nc ng)=[]∧(Wn l tl nc ng).isEmpty=true)∧True))) ∧
   ((!(Gp nc ng))=false →
    (l.length≤12∧(∀ y∈l,Qw y=true))∧((True∧(if (Zd l tl nc ng (2 ^ l.length)).isEmpty then 7 else 0)=(Zm l tl nc ng)∧(([]:List SV)=[]))∧(((Zd l tl nc ng (2 ^ l.length))=(Wn l tl nc ng)∧(Zd l tl nc ng (2 ^ l.length)).isEmpty=(Wn l tl nc ng).isEmpty)∧True))))) ∧
 ((((Qj l)==(0:Int))&&(!(!([tl].any fun n=>decide (n<(0:Int))||decide ((1000:Int)<n)))))=false →
  w1=w1∧(((Qj l) != (0:Int))=true →
   ((True∧(Qj l)=(Zm l tl nc ng)∧(([]:List SV)=[]))∧(((Wn l tl nc ng)=[]∧(Wn l tl nc ng).isEmpty=true)∧True))) ∧
  (((Qj l) != (0:Int))=false →
   (True)∧((!(Gp nc ng))=true →
    ((True∧(2:Int)=(Zm l tl nc ng)∧(([]:List SV)=[]))∧(((Wn l tl nc ng)=[]∧(Wn l tl nc ng).isEmpty=true)∧True))) ∧
   ((!(Gp nc ng))=false →
    (l.length≤12∧(∀ y∈l,Qw y=true))∧((True∧(if (Zd l tl nc ng (2 ^ l.length)).isEmpty then 7 else 0)=(Zm l tl nc ng)∧(([]:List SV)=[]))∧(((Zd l tl nc ng (2 ^ l.length))=(Wn l tl nc ng)∧(Zd l tl nc ng (2 ^ l.length)).isEmpty=(Wn l tl nc ng).isEmpty)∧True)))))
def D_:Cx:=⟨[(3,(.i .i64))],[(69,Xt),(61,Zn),(52,U1),(53,WK)],29,[],0,[(51,Vz)],[],[],[],false,[],[],[],[]⟩
def Lk (l:List (Int×(Int×Int)×Int)) (tl:Int) (nc:Int) (ng:Int):List (Nat×LoopAnn):=[]
set_option maxRecDepth 100000 in
theorem Lb (d:(List (Int×(Int×Int)×Int))×Int×Int×Int):gwp (D_) (Lk d.1 d.2.1 d.2.2.1 d.2.2.2) c24 0 (VT [.tmp 6,.tmp 7] (Gq d) (Gw d)) (Qt 29 (AL.can Bi d))=Kn d.1 d.2.1 d.2.2.1 d.2.2.2:=by kernel_rfl
abbrev L8:Prop:=OkC Tryz.prog 24 Mq
theorem L5 (h:∀ (l:List (Int×(Int×Int)×Int)) (tl:Int) (nc:Int) (ng:Int),(l.length≤1000)→Kn l tl nc ng):OkC Tryz.prog 24 Mq :=
 Z7 Q78 mixed (C:=D_) (V:=fun (d:(List (Int×(Int×Int)×Int))×Int×Int×Int)=>Kn d.1 d.2.1 d.2.2.1 d.2.2.2) ⟨(.cons Yn (.cons Jl (.cons P6 (.cons GF .nil)))),(XsOk.cons U2 XsOk.nil),ItsOk.nil,YlOk.nil,IysOk.nil,XfOk.nil⟩ (Lb) fun d hp=>h d.1 d.2.1 d.2.2.1 d.2.2.2 hp
theorem Q9n:((3:Int) != 0)=true:=rfl
theorem SP:L8:=L5 fun l tl nc ng h=>by
 unfold Kn;(try delta lI gD sT I64);have e:∀ n a b:Int,(decide (n<a)||decide (b<n))=!inI n a b:=fun n a b=>(nI n a b).symm;simp only[List.any_cons,List.any_nil,Bool.or_false,e,Bool.not_not,List.length_cons,List.length_nil,Q9n,Bool.true_eq_false,true_and,and_true,beq_iff_eq,bne_iff_ne,ne_eq,bne_eq_false_iff_eq,Bool.not_eq_true',Bool.not_eq_false',false_implies,Bool.or_false,implies_true,forall_const];refine⟨h,by omega,fun hx=>?_,fun hx=>⟨fun a=>?_,fun a=>⟨fun b=>?_,fun b=>?_⟩⟩⟩
 ·simp only[Bool.and_eq_true,beq_iff_eq,Bool.not_eq_true'] at hx;have o:Qk l tl=3:=by unfold Qk;rw[if_neg (by omega),hx.2];rfl
  have e1:Zm l tl nc ng=3:=by unfold Zm;rw[o];rfl
  have e2:Wn l tl nc ng=[]:=by unfold Wn;rw[o];rfl
  rw[e1,e2];exact(by and_intros<;>first|rfl|trivial|simp)
 ·have o:Qk l tl=Qj l:=by unfold Qk;rw[if_pos a]
  have e1:Zm l tl nc ng=Qj l:=by unfold Zm;rw[o,if_pos a]
  have e2:Wn l tl nc ng=[]:=by unfold Wn;rw[if_pos (.inl (by rw[o];exact a))]
  rw[e1,e2];exact(by and_intros<;>first|rfl|trivial|simp)
 ·have o:Qk l tl=0:=by
   unfold Qk;rw[if_neg (by omega),if_neg];intro h2;rw[a,h2] at hx;cases hx
  have e1:Zm l tl nc ng=2:=by unfold Zm;rw[if_neg (by omega),b];rfl
  have e2:Wn l tl nc ng=[]:=by unfold Wn;rw[if_pos (.inr b)]
  rw[e1,e2];exact(by and_intros<;>first|rfl|trivial|simp)
 ·have o:Qk l tl=0:=by
   unfold Qk;rw[if_neg (by omega),if_neg];intro h2;rw[a,h2] at hx;cases hx
  have e1:Zm l tl nc ng=if (Zd l tl nc ng (2 ^ l.length)).isEmpty then 7 else 0:=by unfold Zm;rw[if_neg (by omega),b];rfl
  have e2:Wn l tl nc ng=Zd l tl nc ng (2 ^ l.length):=by
   unfold Wn;rw[if_neg];rintro (h|h)
   ·exact h o
   ·rw[b] at h;cases h
  rw[e1,e2];refine⟨NY a,?_⟩;exact(by and_intros<;>first|rfl|trivial|simp)
end Go.Proofs.Tryz
set_option linter.unusedVariables false
namespace Go.Proofs.Tryz
open Go Go.V Go.Proofs
def Sw (n m:Nat):List Int:=((List.range m).filter fun k=>n.testBit k).map fun (k:Nat)=>(k:Int)
theorem U_:∀ {a b:List Int},a.Pairwise (·<·)→b.Pairwise (·<·)→(∀ x,x∈a↔x∈b)→a=b
 |[],[],_,_,_=>rfl
 |[],y::b,_,_,h=>by have:=(h y).2 (List.mem_cons_self ..);cases this
 |x::a,[],_,_,h=>by have:=(h x).1 (List.mem_cons_self ..);cases this
 |x::a,y::b,ha,hb,h=>by
  obtain⟨rD,pX⟩:=List.pairwise_cons.1 ha;obtain⟨bg,bY⟩:=List.pairwise_cons.1 hb;have uj:x=y:=by
   rcases List.mem_cons.1 ((h x).1 (List.mem_cons_self ..)) with e|e
   ·exact e
   ·rcases List.mem_cons.1 ((h y).2 (List.mem_cons_self ..)) with e2|e2
    ·exact e2.symm
    ·have h1:=bg x e;have h2:=rD y e2;omega
  subst uj;rw[U_ pX bY fun z=>?_];constructor
  ·intro hz;rcases List.mem_cons.1 ((h z).1 (List.mem_cons_of_mem _ hz)) with e|e
   ·have:=rD z hz;omega
   ·exact e
  ·intro hz;rcases List.mem_cons.1 ((h z).2 (List.mem_cons_of_mem _ hz)) with e|e
   ·have:=bg z hz;omega
   ·exact e
theorem Z1y {n k:Nat}(h0:0<n) (h1:n<2 ^ 64) (hk:n.testBit k=true):tzN n≤k:=by
 obtain⟨_,m,hm⟩:=MT h0 h1;generalize tzN n=t at *
 rcases Nat.lt_or_ge k t with h|h
 ·rw[hm,Nat.testBit_two_pow_mul,decide_eq_false (show ¬ k≥t by omega)] at hk;cases hk
 ·exact h
theorem Yk:∀ f n,n≤f→n<2 ^ 64→(RG f n).Pairwise (·<·)
 |0,n,_,_=>by simp[RG]
 |f+1,n,h1,h2=>by
  unfold RG;by_cases h:n=0
  ·rw[if_pos h];exact List.Pairwise.nil
  ·rw[if_neg h,List.pairwise_cons];have hle:=Nat.and_le_right (n:=n) (m:=n-1);refine⟨fun i hm=>?_,Yk f _ (by omega) (by omega)⟩;obtain⟨k,rfl,hb⟩:=(P0 f _ (by omega) (by omega) _).1 hm;rw[Dl (by omega) h2] at hb;simp only[Bool.and_eq_true,Bool.not_eq_true',decide_eq_false_iff_not] at hb;have:=Z1y (by omega) h2 hb.1;omega
theorem AH {n m:Nat}(h:n<2 ^ m) (hm:m≤64):Q4 n=Sw n m:=by
 have hp:2 ^ m≤2 ^ 64:=Nat.pow_le_pow_right (by omega) hm;refine U_ (Yk n n (Nat.le_refl _) (by omega)) ?_ fun x=>?_
 ·unfold Sw;rw[List.pairwise_map];exact(List.Pairwise.filter _ List.pairwise_lt_range).imp fun h=>by omega
 ·rw[Kk (by omega)];simp only[Sw,List.mem_map,List.mem_filter,List.mem_range];constructor
  ·rintro⟨k,rfl,hb⟩;have:k<m:=by
    rcases Nat.lt_or_ge k m with h2|h2
    ·exact h2
    ·rw[Nat.testBit_lt_two_pow (Nat.lt_of_lt_of_le h (Nat.pow_le_pow_right (by omega) h2))] at hb;cases hb
   exact⟨k,⟨this,hb⟩,rfl⟩
  ·rintro⟨k,⟨_,hb⟩,rfl⟩;exact⟨k,rfl,hb⟩
def O0 (a b:Lot) (t:Int):Bool:=(a.1==b.1)&&decide (Lw a b≤t)&&decide (Lw a a≤t)&&decide (Lw b b≤t)
def Pn (p:List Lot) (t:Int):Bool:=(List.range p.length).all fun i=>(List.range p.length).all fun k=>O0 (p.getD i Zg) (p.getD k Zg) t
theorem Fe {p:List Lot}{t:Int}:Pn p t=true↔∀ i,i<p.length→∀ k,k<p.length→(p.getD i Zg).1=(p.getD k Zg).1∧Lw (p.getD i Zg) (p.getD k Zg)≤t:=by simp only[Pn,List.all_eq_true,List.mem_range,O0,Bool.and_eq_true,beq_iff_eq,decide_eq_true_eq];exact⟨fun h i hi k hk=>⟨(h i hi k hk).1.1.1,(h i hi k hk).1.1.2⟩,fun h i hi k hk=>⟨⟨⟨(h i hi k hk).1,(h i hi k hk).2⟩,(h i hi i hi).2⟩,(h k hk k hk).2⟩⟩
theorem Q00 {p:List Lot}{t:Int}(h:p≠[]):Fa t p=Pn p t:=by
 have hp:1≤p.length:=List.length_pos_iff.2 h;obtain⟨a,_,_,⟨i3,b3,c3⟩,⟨i4,b4,c4⟩⟩:=TF h p.length hp (Nat.le_refl _);rw[Bool.eq_iff_iff,Fe];unfold Fa Q5s;simp only[Bool.and_eq_true,Bool.not_eq_true',decide_eq_true_eq,List.any_eq_false,bne_iff_ne,ne_eq,Decidable.not_not];generalize Nc p p.length=S at *
 constructor
 ·rintro⟨h1,h2⟩ i hi k hk;have e1:=h1 _ (by rw[Qa hi];exact List.getElem_mem hi:p.getD i Zg∈p);have e2:=h1 _ (by rw[Qa hk];exact List.getElem_mem hk:p.getD k Zg∈p);have u:=a i hi;have v:=a k hk;refine⟨e1.trans e2.symm,?_⟩;unfold Lw;rw[NV];omega
 ·intro h1;refine⟨fun x hx=>?_,?_⟩
  ·obtain⟨i,hi,rfl⟩:=List.getElem_of_mem hx;have:=(h1 i hi 0 (by omega)).1
   rwa [Qa hi] at this
  ·have:=(h1 i4 b4 i3 b3).2;unfold Lw at this;rw[NV] at this;omega
def Q2z (a b:List Int):Bool:=if a.length≠b.length then decide (a.length<b.length) else decide (Nd a b<0)
theorem Og (a b:List Int):AI a b=Q2z a b:=by
 unfold AI Q2z;by_cases h:a.length=b.length
 ·have e:UJ (a.length:Int) (b.length:Int)=0:=Pp.2 (by omega);rw[if_neg (by omega),e];have:orI [0,Nd a b]=Nd a b:=by
   unfold orI;by_cases h2:Nd a b=0
   ·rw[h2];rfl
   ·rw[List.find?_cons_of_neg (by simp),List.find?_cons_of_pos (by simpa using h2)];rfl
  rw[this]
 ·have e:UJ (a.length:Int) (b.length:Int)=if a.length<b.length then -1 else 1:=by
   unfold UJ;by_cases h2:a.length<b.length
   ·rw[if_pos h2,if_pos (by omega)]
   ·rw[if_neg h2,if_neg (by omega),if_pos (by omega)]
  have h3:UJ (a.length:Int) (b.length:Int)≠0:=by rw[e];split<;>decide
  have:orI [UJ (a.length:Int) (b.length:Int),Nd a b]=UJ (a.length:Int) (b.length:Int):=by unfold orI;rw[List.find?_cons_of_pos (by simpa using h3)];rfl
  rw[this,e,if_pos h];by_cases h2:a.length<b.length
  ·rw[if_pos h2,decide_eq_true h2];rfl
  ·rw[if_neg h2,decide_eq_false h2];rfl
theorem Q6f {a b:List Int}(h:AI a b=true):a.length≤b.length:=by
 rw[Og] at h;unfold Q2z at h;split at h
 ·have:=of_decide_eq_true h;omega
 ·omega
theorem Q3z {a b:List Int}(h:AI a b=false):b.length≤a.length:=by
 rw[Og] at h;unfold Q2z at h;split at h
 ·have:=of_decide_eq_false h;omega
 ·omega
theorem EX {l:List Lot}{tl nc ng:Int}:∀ n,Zd l tl nc ng n=[]∨∃ s,1≤s∧s<n∧N_ l tl nc ng s=true∧Zd l tl nc ng n=Q4 s
 |0=>.inl rfl
 |n+1=>by
  unfold Zd;by_cases h:n=0
  ·rw[if_pos h];exact .inl rfl
  ·rw[if_neg h];split
   ·rename_i h2;rw[Bool.and_eq_true] at h2;exact .inr ⟨n,by omega,by omega,h2.1,rfl⟩
   ·rcases EX (l:=l) (tl:=tl) (nc:=nc) (ng:=ng) n with h3|⟨s,h3,h4,h5⟩
    ·exact .inl h3
    ·exact .inr ⟨s,h3,by omega,h5⟩
theorem C2 {l:List Lot}{tl nc ng:Int}{s:Nat}(h1:1≤s) (h2:N_ l tl nc ng s=true):∀ n,s<n→Zd l tl nc ng n≠[]∧(Zd l tl nc ng n).length≤(Q4 s).length
 |0,h=>by omega
 |n+1,h=>by
  unfold Zd;rw[if_neg (by omega)];by_cases h3:s=n
  ·subst h3;rw[h2,Bool.true_and];split
   ·exact⟨NT (by omega),Nat.le_refl _⟩
   ·rename_i h4;rw[Bool.not_eq_true,Bool.or_eq_false_iff] at h4;exact⟨fun e=>(by rw[e] at h4;cases h4.1),Q3z h4.2⟩
  ·obtain⟨h5,h6⟩:=C2 h1 h2 n (by omega);split
   ·rename_i h4;rw[Bool.and_eq_true,Bool.or_eq_true] at h4;refine⟨NT (by omega),?_⟩;rcases h4.2 with h7|h7
    ·exact(h5 (List.isEmpty_iff.1 h7)).elim
    ·have:=Q6f h7;omega
   ·exact⟨h5,h6⟩
end Go.Proofs.Tryz
set_option linter.unusedVariables false
namespace Go.Proofs.Tryz
open Go Go.V Go.Proofs
theorem Q15 {l:List Lot}{sm:List Int}{i:Nat}(h:i<sm.length):(Kt l sm).getD i Zg=l.getD (sm.getD i 0).toNat Zg:=by rw[Qa (by simpa [Kt] using h),Qa h];simp[Kt]
theorem Fb {p:List Lot}{t:Int}:Pn p t=true↔∀ i,i<p.length→∀ k,k<p.length→O0 (p.getD i Zg) (p.getD k Zg) t=true:=by simp only[Pn,List.all_eq_true,List.mem_range]
end Go.Proofs.Tryz
set_option linter.unusedVariables false
namespace Go.Proofs.Tryz
open Go Go.V Go.Proofs
def LL:XSp:=fun _ _ _ _=>False
theorem UX {P:Program}{f:Nat}:XOk P f LL:=fun _ _ _ _ _ _ _ _ _ _ _ _ _ _ hx _=>hx.elim
def len8T:List UInt8:=[0,1,2,2,3,3,3,3,4,4,4,4,4,4,4,4,5,5,5,5,5,5,5,5,5,5,5,5,5,5,5,5,6,6,6,6,6,6,6,6,6,6,6,6,6,6,6,6,6,6,6,6,6,6,6,6,6,6,6,6,6,6,6,6,7,7,7,7,7,7,7,7,7,7,7,7,7,7,7,7,7,7,7,7,7,7,7,7,7,7,7,7,7,7,7,7,7,7,7,7,7,7,7,7,7,7,7,7,7,7,7,7,7,7,7,7,7,7,7,7,7,7,7,7,7,7,7,7,8,8,8,8,8,8,8,8,8,8,8,8,8,8,8,8,8,8,8,8,8,8,8,8,8,8,8,8,8,8,8,8,8,8,8,8,8,8,8,8,8,8,8,8,8,8,8,8,8,8,8,8,8,8,8,8,8,8,8,8,8,8,8,8,8,8,8,8,8,8,8,8,8,8,8,8,8,8,8,8,8,8,8,8,8,8,8,8,8,8,8,8,8,8,8,8,8,8,8,8,8,8,8,8,8,8,8,8,8,8,8,8,8,8,8,8,8,8,8,8,8,8,8,8,8,8,8,8]
def RC (x:Int):Int:=((UInt8.toNat (List.getD len8T (Int.toNat x) 0):Nat):Int)
def YP (p:Int×Int):Int:=UJ p.1 p.2
def Lt {α:Type}[Inhabited α] (lt:α→α→Bool) (a:Nat):Nat→List α→List α
 |0,xs=>xs
 |j+1,xs=>if a<j+1∧lt (xs.getD (j+1) default) (xs.getD j default)=true then Lt lt a j ((xs.set (j+1) (xs.getD j default)).set j (xs.getD (j+1) default)) else xs
def F8 {α:Type}[Inhabited α] (lt:α→α→Bool) (a:Nat):Nat→List α→List α
 |0,xs=>xs
 |n+1,xs=>Lt lt a (a+1+n) (F8 lt a n xs)
def KU {α:Type}[Inhabited α] (f:α×α→Int) (xs:List α) (a b:Nat):List α:=F8 (fun x y=>decide (f (x,y)<0)) a (b-a-1) xs
section
variable {α:Type}[Inhabited α] {lt:α→α→Bool}
theorem A8 {xs:List α}{j:Nat}(h:j+1<xs.length):((xs.set (j+1) (xs.getD j default)).set j (xs.getD (j+1) default)).Perm xs:=by rw[Qa (show j<xs.length by omega),Qa h];exact List.set_set_perm h (by omega)
theorem LK {a:Nat}:∀ j {xs:List α},j<xs.length→(Lt lt a j xs).Perm xs
 |0,_,_=>.refl _
 |j+1,xs,h=>by
  unfold Lt;split
  ·exact(LK j (by simp;omega)).trans (A8 h)
  ·exact .refl _
theorem UF {a:Nat}{xs:List α}:∀ n,a+n<xs.length∨n=0→(F8 lt a n xs).Perm xs
 |0,_=>.refl _
 |n+1,h=>by have ih:=UF (a:=a) (xs:=xs) n (by omega);unfold F8;exact(LK _ (by rw[ih.length_eq];omega)).trans ih
theorem JQ {f:α×α→Int}{xs:List α}{a b:Nat}(h:b≤xs.length):(KU f xs a b).Perm xs:=UF _ (by omega)
theorem Ob {a j:Nat}{xs:List α}(hj:a<j) (h:lt (xs.getD j default) (xs.getD (j-1) default)=true):Lt lt a j xs=Lt lt a (j-1) ((xs.set j (xs.getD (j-1) default)).set (j-1) (xs.getD j default)):=by obtain⟨k,rfl⟩:∃ k,j=k+1:=⟨j-1,by omega⟩;rw[Nat.add_sub_cancel] at h ⊢;rw[Lt,if_pos ⟨hj,h⟩]
theorem Oo {a j:Nat}{xs:List α}(h:¬ (a<j∧lt (xs.getD j default) (xs.getD (j-1) default)=true)):Lt lt a j xs=xs:=by
 cases j with
 |zero=>rfl
 |succ k=>rw[Nat.add_sub_cancel] at h;rw[Lt,if_neg h]
theorem EU {xs:List α}{j q:Nat}(h:j+1<xs.length):((xs.set (j+1) (xs.getD j default)).set j (xs.getD (j+1) default)).getD q default=if q=j then xs.getD (j+1) default else if q=j+1 then xs.getD j default else xs.getD q default:=by
 simp only[List.getD_eq_getElem?_getD,List.getElem?_set,List.length_set];by_cases h1:j=q
 ·subst h1;rw[if_pos rfl,if_pos (by omega),if_pos rfl];rfl
 ·rw[if_neg h1,if_neg (show ¬ q=j from fun e=>h1 e.symm)];by_cases h2:j+1=q
  ·subst h2;rw[if_pos rfl,if_pos h,if_pos rfl];rfl
  ·rw[if_neg h2,if_neg (show ¬ q=j+1 from fun e=>h2 e.symm)]
def Q4p (lt:α→α→Bool) (i:Nat) (xs:List α):Prop:=∀ p q,p<q→q≤i→lt (xs.getD q default) (xs.getD p default)=false
theorem Cj (has:∀ x y,lt x y=true→lt y x=false) (lK:∀ x y z,lt y x=false→lt z y=false→lt z x=false) {i:Nat}:∀ j {xs:List α},j≤i→i<xs.length→(∀ p q,p<q→q≤i→q≠j→lt (xs.getD q default) (xs.getD p default)=false)→Q4p lt i (Lt lt 0 j xs)
 |0,xs,_,_,h=>fun p q h1 h2=>by rw[Lt];exact h p q h1 h2 (by omega)
 |j+1,xs,hj,hi,h=>by
  rw[Lt];split
  ·rename_i hc;refine Cj has lK j (by omega) (by simp;exact hi) fun p q h1 h2 h3=>?_;rw[EU (by omega),EU (by omega),if_neg h3];by_cases hq:q=j+1
   ·rw[if_pos hq];by_cases hp:p=j
    ·rw[if_pos hp];exact has _ _ hc.2
    ·rw[if_neg hp,if_neg (by omega)];exact h p j (by omega) (by omega) (by omega)
   ·rw[if_neg hq];by_cases hp:p=j
    ·rw[if_pos hp];exact h (j+1) q (by omega) h2 (by omega)
    ·rw[if_neg hp];by_cases cU:p=j+1
     ·rw[if_pos cU];exact h j q (by omega) h2 (by omega)
     ·rw[if_neg cU];exact h p q h1 h2 (by omega)
  ·rename_i hc;have hc:lt (xs.getD (j+1) default) (xs.getD j default)=false:=by
    cases h5:lt (xs.getD (j+1) default) (xs.getD j default) with
    |false=>rfl
    |true=>exact(hc ⟨by omega,h5⟩).elim
   intro p q h1 h2;by_cases hq:q=j+1
   ·subst hq;by_cases hp:p=j
    ·subst hp;exact hc
    ·exact lK _ _ _ (h p j (by omega) (by omega) (by omega)) hc
   ·exact h p q h1 h2 hq
theorem LA (has:∀ x y,lt x y=true→lt y x=false) (lK:∀ x y z,lt y x=false→lt z y=false→lt z x=false) {xs:List α}:∀ n,n<xs.length→Q4p lt n (F8 lt 0 n xs)
 |0,_=>fun p q h1 h2=>by omega
 |n+1,h=>by have ih:=LA has lK (xs:=xs) n (by omega);have hp:=UF (lt:=lt) (a:=0) (xs:=xs) n (by omega);unfold F8;rw[show 0+1+n=n+1 by omega];exact Cj has lK (n+1) (Nat.le_refl _) (by rw[hp.length_eq];omega) fun p q h1 h2 h3=>ih p q h1 (by omega)
theorem Tv {f:α×α→Int}(has:∀ x y,f (x,y)<0→¬ f (y,x)<0) (lK:∀ x y z,¬ f (y,x)<0→¬ f (z,y)<0→¬ f (z,x)<0) (xs:List α):(KU f xs 0 xs.length).Pairwise fun x y=>¬ f (y,x)<0:=by
 cases hx:xs with
 |nil=>exact List.Pairwise.nil
 |cons x0 t =>
  have hlen:0<xs.length:=by rw[hx];simp
  rw[←hx];have h:=LA (lt:=fun x y=>decide (f (x,y)<0)) (fun x y h=>by simpa using has x y (by simpa using h)) (fun x y z h1 h2=>by simpa using lK x y z (by simpa using h1) (by simpa using h2)) (xs:=xs) (xs.length-0-1) (by omega);have hl:=(JQ (f:=f) (a:=0) (Nat.le_refl xs.length)).length_eq;refine List.pairwise_iff_getElem.2 fun p q hp hq uk=>?_;have:=h p q uk (by omega);have cQ:(F8 (fun x y=>decide (f (x,y)<0)) 0 (xs.length-0-1) xs).getD q default=(KU f xs 0 xs.length)[q]:=Qa hq;have bk:(F8 (fun x y=>decide (f (x,y)<0)) 0 (xs.length-0-1) xs).getD p default=(KU f xs 0 xs.length)[p]:=Qa hp;rw[cQ,bk] at this;simpa using this
end
theorem B6 {x y:Int}:YP (x,y)<0↔x<y:=by unfold YP UJ;dsimp only;split<;>(try split)<;>omega
theorem Q9z (xs:List Int):(KU YP xs 0 xs.length).Pairwise (·≤·) :=
 (Tv (f:=YP) (fun x y h h2=>by rw[B6] at h h2;omega) (fun x y z h1 h2 h3=>by rw[B6] at h1 h2 h3;omega) xs).imp fun h=>by rw[B6] at h;omega
theorem Z34 {xs:List Int}(h:xs.Nodup):(KU YP xs 0 xs.length).Pairwise (·<·):=by
 have h2:=(JQ (f:=YP) (a:=0) (Nat.le_refl xs.length)).nodup_iff.2 h;exact((Q9z xs).and h2).imp fun h=>by have:=h.1;have:=h.2;omega
def Q4u (l:List Lot) (p:Int×Int):Int:=orI [UJ (l.getD p.1.toNat Zg).1 (l.getD p.2.toNat Zg).1,UJ (l.getD p.1.toNat Zg).2.1.1 (l.getD p.2.toNat Zg).2.1.1]
theorem AS {a j:Nat}{α:Type}[Inhabited α] {f:α×α→Int}{ys T:List α}(e:Lt (fun x y=>decide (f (x,y)<0)) a j ys=T) (h:¬ (a<j∧f (ys.getD j default,ys.getD (j-1) default)<0)):ys=T:=by rw[←e,Oo];intro hh;exact h ⟨hh.1,by simpa using hh.2⟩
theorem Sa {a j:Nat}{α:Type}[Inhabited α] {f:α×α→Int}{ys T:List α}(e:Lt (fun x y=>decide (f (x,y)<0)) a j ys=T) (hj:a<j) (h:f (ys.getD j default,ys.getD (j-1) default)<0):Lt (fun x y=>decide (f (x,y)<0)) a (j-1) ((ys.set j (ys.getD (j-1) default)).set (j-1) (ys.getD j default))=T:=by rw[←e,Ob hj (by simpa using h)]
theorem BG {α:Type}[Inhabited α] {xs:List α}{j:Nat}(h0:0<j) (h:j<xs.length):((xs.set j (xs.getD (j-1) default)).set (j-1) (xs.getD j default)).Perm xs:=by obtain⟨k,rfl⟩:∃ k,j=k+1:=⟨j-1,by omega⟩;exact A8 h
end Go.Proofs.Tryz