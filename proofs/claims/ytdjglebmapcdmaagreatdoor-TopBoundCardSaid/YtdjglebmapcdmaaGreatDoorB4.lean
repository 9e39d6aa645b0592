/- A framework for walks, contracts of functions, and their proofs: part 4. -/
import Derived.Test.YtdjglebmapcdmaaGreatDoorB3
set_option linter.unusedVariables false
set_option maxRecDepth 100000
namespace Go.V
open Go
section
variable {P:Program}
mutual
theorem Q4k:∀ (v:SV) {K:SV->Prop},nmV v K->K v
 |.val k x,K,h=>by simp only[nmV] at h;exact h x rfl
 |.agg l,K,h=>by simp only[nmV] at h;exact Aj l h
 |.tup l,K,h=>by simp only[nmV] at h;exact Aj l h
 |.any,_,h|.dd _ _,_,h|.bid _ _,_,h|.grd _ _,_,h|.nilS,_,h|.nilP,_,h|.nilM,_,h|.nilF,_,h|.lst _,_,h|.sub _ _ _ _,_,h|.elp _ _ _ _,_,h|.rop _ _ _ _,_,h|.box _ _,_,h|.cp _ _,_,h|.map _,_,h|.fn _ _ _,_,h|.pf _ _ _ _,_,h=>by simp only[nmV] at h;exact h
theorem Aj:∀ (l:List SV) {K:List SV->Prop},Z61 l K->K l
 |[],K,h=>by simp only[Z61] at h;exact h
 |v::r,K,h=>by simp only[Z61] at h;exact Aj r (Q4k v h)
end
theorem ZN {C:Cx}{o:VOp}{ev:Operand->SV}{v:SV}{K:SV->Prop}(h:gnm C o ev v K):K v:=by
 unfold gnm at h
 grind [Q4k]
theorem LQ {B:Heap}{pl:Nat->Value}{tb:Nat->Option Bool}{v:SV}{u:Value}(h:SR P B pl tb v u):SR P B pl tb (RE v) u/\gtb tb (RE v):=by
 cases v with
 |bid n c=>simp only[SR] at h;obtain⟨rfl,_⟩:=h;exact⟨Js _,trivial⟩
 |_=>exact⟨h,trivial⟩
theorem C8 {tb:Nat->Option Bool}(v:SV):gtb tb (RE v):=by cases v<;>trivial
theorem SB {C:Cx}(aE:COk P C) {B F:Heap}{pl:Nat->Value}{tb:Nat->Option Bool}{s:St}{env:Env}{U:Heap}(hG:Gam P B F pl tb s env U) {d:Nat}{f:SV}{args:List SV}{fV:Value}{vs:List Value}(hf:SR P B pl tb f fV) (ha:SRs P B pl tb args vs) {K:SV->St->Prop}(h:Q5i C d f args s K) {R:Value->Heap->Prop}
  (hK:∀ v s' B' F' pl' tb' u U',K v s'->GBase B F U B' F' U'->Gam P B' F' pl' tb' s' env U'->SR P B' pl' tb' v u->R u U'):∃ g a b,fV=.func (.func g) a b/\VCalled P g (a.toList++vs++b.toList) U R:=by
 unfold Q5i at h;have p6:SR P U X1 ZU ((RF s.own [f]).getD 0 .any) fV:=by have:=(W6 hG.leB hG.obj (show SRs P B pl tb [f] [fV] by simp only[SRs];exact⟨_,[],rfl,hf,rfl⟩)).getD 0 poison;simpa using this
 have mb:=W6 hG.leB hG.obj ha;split at h
 .rename_i c v bs heq;cases hb:(v.ret bs.length&&(bs.all OB.ret&&Nat.blt 0 C.nt)) with
  |false=>rw[hb] at h;exact h.elim
  |true =>rw[hb] at h;obtain⟨h1,h2⟩:=h;simp only[z1] at hb;obtain⟨g,a,b,e,aJ,_⟩:=Jl aE.cs p6 mb heq hb.1 hb.2.1 h1;refine⟨g,a,b,e,aJ.mono λu U' hr=>?_⟩;obtain⟨pl',h3,h4⟩:=hr.gam (nt:=C.nt) (d:=d) (by simpa [zy] using hb.2.2) hG hb.1 hb.2.1;exact hK _ _ B F pl' tb u U' h2 (.of hG.bf hr.1.2) h3 h4
 .exact h.elim
theorem Su {C:Cx}(aE:COk P C) {B F:Heap}{pl:Nat->Value}{tb:Nat->Option Bool}{s:St}{env:Env}{U:Heap}(hG:Gam P B F pl tb s env U) {d:Nat}{f:SV}{args:List SV}{fV:Value}{vs:List Value}(hf:SR P B pl tb f fV) (ha:SRs P B pl tb args vs) {K:SV->St->Prop}(h:Il C d f args s K) (tW:∀ o,f≠.dd o .yv) {R:Value->Heap->Prop}
  (hK:∀ v s' B' F' pl' tb' u U',K v s'->GBase B F U B' F' U'->Gam P B' F' pl' tb' s' env U'->SR P B' pl' tb' v u->R u U'):∃ g a b,fV=.func (.func g) a b/\VCalled P g (a.toList++vs++b.toList) U R:=by
 unfold Il at h;split at h
 .rename_i g a b;split at h
  .rename_i x hx;have vR:=hf;simp only[SR] at hf;obtain⟨a',b',rfl,h1,h2⟩:=hf;refine⟨g,a'.toArray,b'.toArray,rfl,?_⟩;have:=aE.xs g x hx B F pl tb s env U d _ _ K R hG (h1.append (ha.append h2)) h hK;simpa using this
  .exact SB aE hG hf ha h hK
 .exact(tW _ rfl).elim
 .exact SB aE hG hf ha h hK
theorem Q77 {C:Cx}{B F:Heap}{pl:Nat->Value}{tb:Nat->Option Bool}{s:St}{env:Env}{U:Heap}(hG:Gam P B F pl tb s env U) {d:Nat}{o:VOp}{K:SV->St->Prop}(h:gnd C d o (gev [] s.env) s K) {R:Value->Heap->Prop}
  (hK:∀ v s' B' F' pl' tb' u U',K v s'->GBase B F U B' F' U'->Gam P B' F' pl' tb' s' env U'->SR P B' pl' tb' v u->R u U'):vop (Q8 P) o env U R:=by
 obtain⟨u,U',pl',v,s',h1,h2,h3,h4⟩:=Cy (λx=>hG.evs (Gds.nil (tb:=tb)) x) hG h;have fin:Zc (Qc o (Q5 env) U) (λp=>R p.1 p.2):=by rw[h1];exact hK v s' B F pl' tb u U' h2 (.of hG.bf (Uj h1)) h3.1 h4
 cases o
 case buildSlice e z n ps=>exact fin
 case makeSlice e b z l c=>exact fin
 case append e b x y=>exact fin
 case store size a x=>exact fin
 all_goals exact h.elim
section
variable {B F:Heap}{pl:Nat->Value}{tb:Nat->Option Bool}{s:St}{env:Env}{U:Heap}
def Heap.ins (B U:Heap) (i:Nat) (h:B.n<=U.n):Heap where
 get j:=if j=i then U.get i else B.get j
 n:=U.n
 wf j hj:=by
  by_cases e:j=i
  .simp only[z2 e];subst e;exact U.wf j hj
  .simp only[z0 e];exact B.wf j (xu h hj)
theorem Heap.q0n (B U:Heap) (i:Nat) (h:B.n<=U.n):(B.ins U i h).get i=U.get i:=by simp[Heap.ins]
theorem Heap.q0z (B U:Heap) {i j:Nat}(h:B.n<=U.n) (e:j≠i):(B.ins U i h).get j=B.get j:=by simp[Heap.ins,e]
theorem Heap.Le.ins {B U:Heap}(h:B.Le U) (i:Nat):B.Le (B.ins U i h.1):=⟨h.1,λj b hb=>by
 by_cases e:j=i
 .subst e;rw[Heap.q0n];exact h.2 _ _ hb
 .rw[Heap.q0z _ _ _ e];exact hb⟩
theorem Heap.Le.q1t {B U:Heap}(h:B.Le U) (i:Nat):(B.ins U i h.1).Le U:=⟨z5 _,λj b hb=>by
 by_cases e:j=i
 .grind [Heap.q0n]
 .rw[Heap.q0z _ _ _ e] at hb;exact h.2 _ _ hb⟩
theorem Heap.q1v {B F U:Heap}(h:B.Le F) (i:Nat) (hB:B.n<=U.n) (hF:F.n<=U.n):(B.ins U i hB).Le (F.ins U i hF):=⟨z5 _,λj b hb=>by
 by_cases e:j=i
 .grind [Heap.q0n]
 .rw[Heap.q0z _ _ _ e] at hb |-;exact h.2 _ _ hb⟩
theorem Gam.freeze (hG:Gam P B F pl tb s env U) {o i:Nat}(hl:(Qe s.own o).live=true) (hi:Oid (pl o) i) :
  GBase B F U (B.ins U i hG.leB.1) (F.ins U i hG.le.1) U/\Gam P (B.ins U i hG.leB.1) (F.ins U i hG.le.1) pl tb ⟨s.env,oset s.own o .dead,s.nx⟩ env U:=by
 have nk:=hG.fresh o i hl hi;have lv:∀ d,(Qe (oset s.own o .dead) d).live=true->d≠o/\(Qe s.own d).live=true:=λd h=>by
  rw[Qn] at h;by_cases e:d=o
  .rw[z2 e] at h;cases h
  .rw[z0 e] at h;exact⟨e,h⟩
 refine⟨⟨hG.leB.ins i,hG.le.ins i,λj b h1 h2=>?_,.refl _⟩,⟨Heap.q1v hG.bf i _ _,hG.le.q1t i,SRs.mono (hG.leB.ins i) (λ_ _ h=>h) _ _ hG.env,λd=>?_,λd j h1 h2=>?_,λd d' j aK h1 h2 h3 h4=>hG.sep d d' j aK (lv d h1).2 (lv d' h2).2 h3 h4,hG.free⟩⟩
 .grind [Heap.q0z]
 .simp only[Qn];by_cases e:d=o
  .rw[z2 e];trivial
  .rw[z0 e];exact(hG.obj d).mono (hG.leB.ins i) (λ_ _ h=>h) λ_ _ _=>rfl
 .obtain⟨aK,bH⟩:=lv d h1;have e:j≠i:=by rintro rfl;exact hG.sep d o j aK bH hl h2 hi
  rw[Heap.q0z _ _ _ e];exact hG.fresh d j bH h2
theorem Gam.own {s':St}(hG:Gam P B F pl tb s env U) (h1:s'.env=s.env) (h2:∀ d,Qe s'.own d=Qe s.own d) (h3:s'.nx=s.nx):Gam P B F pl tb s' env U :=
 ⟨hG.bf,hG.le,by rw[h1];exact hG.env,λd=>by rw[h2];exact hG.obj d,λd i=>by rw[h2];exact hG.fresh d i,λd d' i aK=>by rw[h2,h2];exact hG.sep d d' i aK,λn hn=>hG.free n (by rw[<-h3];exact hn)⟩
theorem Gam.drop (hG:Gam P B F pl tb s env U) (o:Nat):Gam P B F pl tb ⟨s.env,oset s.own o .dead,s.nx⟩ env U:=by
 have lv:∀ d,(Qe (oset s.own o .dead) d).live=true->d≠o/\(Qe s.own d).live=true:=λd h=>by
  rw[Qn] at h;by_cases e:d=o
  .rw[z2 e] at h;cases h
  .rw[z0 e] at h;exact⟨e,h⟩
 refine⟨hG.bf,hG.le,hG.env,λd=>?_,λd j h1 h2=>hG.fresh d j (lv d h1).2 h2,λd d' j aK h1 h2 h3 h4=>hG.sep d d' j aK (lv d h1).2 (lv d' h2).2 h3 h4,hG.free⟩;simp only[Qn];by_cases e:d=o
 .rw[z2 e];trivial
 .rw[z0 e];exact hG.obj d
theorem Q2i (s:St) (d:Nat) (b:OB) (q:Nat):Qe (s.make d .dead).own q=Qe (oset (s.make d b).own d .dead) q:=by simp only[St.make,Qn];simp_all
theorem Q7k {C:Cx}(hG:Gam P B F pl tb s env U) {d:Nat}{x:Operand}{K:SV->St->Prop}(h:gn C d (.ext (.rangeMap x)) (gev [] s.env) s K) {R:Value->Heap->Prop}
  (hK:∀ v s' B' F' pl' tb' u U',K v s'->GBase B F U B' F' U'->Gam P B' F' pl' tb' s' env U'->SR P B' pl' tb' v u->R u U'):vop (Q8 P) (.ext (.rangeMap x)) env U R:=by
 have ha:=hG.evs (Gds.nil (tb:=tb)) x;simp only[gn] at h;split at h
 .rename_i o h1;rw[h1] at ha;simp only[SR] at ha;split at h
  .rename_i kk vk m ho;split at h
   .have au:=hG.obj o;rw[ho] at au;obtain⟨i,es,clock,h2,h3,h4⟩:=au;obtain⟨g1,g2⟩:=hG.freeze (o:=o) (i:=i) (by rw[ho];rfl) (by rw[h2];rfl)
    have ig:=g2.push d (.iter kk vk m []) (.pointer (some ⟨U.n,0,none⟩)) (.obj (.iter i clock [] clock) true) rfl
     ⟨U.n,i,es,clock,true,[],rfl,Heap.q0a _ _,by rw[Heap.q0n];exact h3,h4.mono g1.b,rfl,λt r h=>by simp at h⟩
    show Zc (Qc (.ext (.rangeMap x)) (Q5 env) U) _;have hv:Qc (.ext (.rangeMap x)) (Q5 env) U=some (.pointer (some ⟨U.n,0,none⟩),U.push (.obj (.iter i clock [] clock) true)):=by simp only[Qc,JY,ha.1,h2,Heap.mapAt,h3]
    rw[hv];exact hK _ _ _ _ _ _ _ _ h (g1.trans (.of g2.bf (Dead.push _ _))) ig (by simp only[SR,YA];exact⟨_,rfl,rfl⟩)
   .exact h.elim
  .exact h.elim
 .exact h.elim
theorem Q87 {C:Cx}(hG:Gam P B F pl tb s env U) {d:Nat}{x:Operand}{K:SV->St->Prop}(h:gn C d (.ext (.nextMap x)) (gev [] s.env) s K) {R:Value->Heap->Prop}
  (hK:∀ v s' B' F' pl' tb' u U',K v s'->GBase B F U B' F' U'->Gam P B' F' pl' tb' s' env U'->SR P B' pl' tb' v u->R u U'):vop (Q8 P) (.ext (.nextMap x)) env U R:=by
 have ha:=hG.evs (Gds.nil (tb:=tb)) x;simp only[gn] at h;split at h
 .rename_i o f h1;rw[h1] at ha;simp only[SR] at ha;split at h
  .rename_i kk vk m dn ho;split at h
   .rename_i hf;obtain⟨rfl,nq⟩:=hf;have aq:(Qe s.own o).live=true:=by rw[ho];rfl
    have au:=hG.obj o;rw[ho] at au;obtain⟨j,i,es,clock,wr,seen,h2,h3,h4,h5,h6⟩:=au;obtain⟨b,e2,e3⟩:=ha;rw[h2] at e2;obtain rfl:j=b:=by simpa using e2
    have aH:U.mapAt i=some (es,clock,wr):=by simp[Heap.mapAt,hG.leB.2 _ _ h4]
    have hlen:=h5.1.length;obtain⟨hA,hB⟩:=h;have bD:F.get j=none:=hG.fresh o j aq (by rw[h2];rfl);have cK:∀ q i',q≠o->(Qe s.own q).live=true->Oid (pl q) i'->i'≠j:=λq i' hq hl hi e=>by subst e;exact hG.sep q o i' hq hl aq hi (by rw[h2];rfl)
    show Q9g (Q5 env x) U R;unfold Q9g;rw[e3];simp only[h3,aH];refine⟨?_,?_,λhall=>?_,λe he vS=>?_⟩
    .cases es with
     |nil=>simp
     |cons e es=>simp[h5.2.2 e (by simp)]
    .rw[zg];intro e he;obtain⟨r,hr⟩:=zZ.1 he;obtain⟨_,k1,_⟩:=MR.at h5.1 hr;exact Q0h nq k1
    .refine hK _ _ _ _ _ _ _ _ (hA λr hr=>?_) (.of hG.bf (Dead.refl U)) hG (by simp only[SR,SRs];exact⟨[.bool false],rfl,_,[],rfl,rfl,rfl⟩);have eR:r<es.length:=by omega
     have he:=z3 eR;have:=zg.1 hall es[r] (zh eR);have aj:=h5.2.2 _ (zh eR);rw[zp,ze] at this;rcases this with this|this
     .rw[List.contains_iff_mem] at this;obtain⟨t,ht⟩:=zZ.1 this;have vT:t<seen.length:=(zm.1 ht).1;have rS:t<dn.length:=by have:=h6.1;omega
      obtain⟨e',k1,k2⟩:=h6.2 t dn[t] (z3 rS);rw[ht] at k2;have:=TM h5.2 he k1 (osj k2);rw[this];exact zh rS
     .omega
    .obtain⟨r,hr⟩:=zZ.1 he;have eR:r<es.length:=(zm.1 hr).1;have tX:r∉dn:=λhm=>by
      obtain⟨t,ht⟩:=zZ.1 hm;obtain⟨e',k1,k2⟩:=h6.2 t r ht
      grind
     refine hK _ _ _ _ _ _ _ _ (hB r (by omega) tX) (.of hG.bf (Dead.upd _ _ _ (by rw[h3];rfl))) (hG.write o _ (hG.le.upd bD _) aq (by grind [Heap.q0b]) ⟨j,i,es,clock,wr,seen++[e.2.2],h2,Heap.q0d _ _ (U.lt h3),h4,h5,?_,λt r' ht=>?_⟩) (by simp only[SR,SRs];exact⟨[.bool true,e.1,e.2.1],rfl,_,_,rfl,rfl,_,_,rfl,trivial,_,_,rfl,trivial,rfl⟩)
     .simp[h6.1]
     .rw[List.getElem?_append] at ht;split at ht
      .rename_i aj;obtain⟨e',k1,k2⟩:=h6.2 t r' ht
       grind
      .rename_i b8;have h0:t-dn.length=0:=by
        grind
       rw[h0] at ht;obtain rfl:r=r':=by simpa using ht
       refine⟨e,hr,?_⟩;rw[xA (by have:=h6.1;omega),show t-seen.length=0 by have:=h6.1;omega];rfl
   .exact h.elim
  .exact h.elim
 .exact h.elim
theorem OT {d:Nat}(kL:B.Le F) {ty:Nat}{k:Kind}{xs:List k.T}{nl:Bool}(hk:k.flat=true) {pl':Nat->Value}{u:Value}{U':Heap}(h1:Gam P B F pl' tb (s.make d (.lst ty k xs nl)) env U') (h2:SR P B pl' tb (.lst d) u) (hd:Dead U U') :
  ∃ B' F',GBase B F U B' F' U'/\Gam P B' F' pl' tb (s.make d .dead) env U'/\SR P B' pl' tb (.val (.list k) xs) u:=by
 have au:=h1.obj d;have bt:Qe (s.make d (.lst ty k xs nl)).own d=.lst ty k xs nl:=by simp only[St.make,Qn,zn]
 rw[bt] at au;simp only[SR] at h2;obtain⟨rfl,_⟩:=h2;rcases au with⟨_,hx,hp⟩|⟨_,i,cap,c,t,hp,cA,hg,hlen,dD⟩
 .refine⟨B,F,.of kL hd,(h1.drop d).own rfl (Q2i s d _) rfl,?_⟩;simp only[SR];exact⟨_,rfl,.inl ⟨hx,hp⟩⟩
 .obtain⟨g1,g2⟩:=h1.freeze (o:=d) (i:=i) (by rw[bt];rfl) (by rw[hp];rfl);refine⟨_,_,(GBase.of kL hd).trans g1,g2.own rfl (Q2i s d _) rfl,?_⟩;simp only[SR];refine⟨_,rfl,.inr ⟨i,0,cap,c,⟨k.size,ty⟩,true,t,hp,cA,by rw[Heap.q0n];exact hg,rfl,by have:=zj k.size cA;omega,?_⟩⟩;rw[xG];exact dD.mono λ_ _ e=>KC.flat hk e
theorem Q46 {d nt:Nat}(fv:0<nt) (hG:Gam P B F pl tb s env U) {ty:Nat}{k:Kind}{xs:List k.T}{nl:Bool}(hk:k.flat=true) {u:Value}{U':Heap}(h:Ret P U (.lst 0) [.lst ty k xs nl] u U') :
  ∃ B' F' pl',GBase B F U B' F' U'/\Gam P B' F' pl' tb (s.make d .dead) env U'/\SR P B' pl' tb (.val (.list k) xs) u:=by
 obtain⟨pl',h1,h2⟩:=h.gam (d:=d) fv hG (by rfl) (by simp only[zM,List.all_nil,xM,OB.ret];exact hk);simp only[St.makes,Nat.zero_mul,zY,SV.ren] at h1 h2;obtain⟨B',F',k⟩:=OT hG.bf hk h1 h2 h.1.2;exact⟨B',F',pl',k⟩
theorem Hp {nt:Nat}{r:Option (Prop×SV×List OB)}{c:Prop}{v:SV}(h:Q4q nt r=some (c,v)):∃ ty k xs nl,r=some (c,.lst 0,[.lst ty k xs nl])/\v=.val (.list k) xs/\k.flat=true/\0<nt:=by
 unfold Q4q at h;split at h
 .split at h
  .rename_i k xs _;cases hc:(k.flat&&Nat.blt 0 nt) with
   |false=>rw[hc] at h;cases h
   |true =>rw[hc] at h;obtain⟨rfl,rfl⟩:=Zy h;simp only[z1,zy] at hc;exact⟨_,_,_,_,rfl,rfl,hc.1,hc.2⟩
  .cases h
 .cases h
theorem Q3o {C:Cx}(aE:CsOk P C.cs) (hG:Gam P B F pl tb s env U) {gs:List Gd}(hg:Gds tb gs) {o:VOp}{c:Prop}{v:SV}{d:Nat}(h:Q00 C o (gev gs s.env) s.own=some (c,v)) (hc:c) {K:Value->Heap->Prop}
  (hK:∀ u U' B' F' pl',GBase B F U B' F' U'->Gam P B' F' pl' tb (s.make d .dead) env U'->SR P B' pl' tb v u->K u U'):vop (Q8 P) o env U K:=by
 cases o<;>first|(cases h;done)|skip
 case callF f args =>
  simp only[Q00] at h;obtain⟨ty,k,xs,nl,heq,rfl,hk,fv⟩:=Hp h;obtain⟨g,a,b,h3,h4,_⟩:=Jl aE (show SR P U X1 ZU (.fn f [] []) (.func (.func f) #[] #[]) by simp only[SR,SRs];exact⟨[],[],rfl,rfl,rfl⟩) (hG.gcall hg args) heq (by rfl) (by simp only[zM,List.all_nil,xM,OB.ret];exact hk) hc;obtain⟨rfl,rfl,rfl⟩:=(by simpa using h3:f=g/\#[]=a/\#[]=b);have:=h4.mono (R':=K) λu U' hr=>by obtain⟨B',F',pl',k1,k2,k3⟩:=Q46 (d:=d) fv hG hk hr;exact hK u U' B' F' pl' k1 k2 k3
  show VCalled P f (args.map (Q5 env)) U K;simpa using this
 case callV f args =>
  simp only[Q00] at h;obtain⟨ty,k,xs,nl,heq,rfl,hk,fv⟩:=Hp h;obtain⟨g,a,b,h3,h4,_⟩:=Jl aE (hG.gfun hg f) (hG.gcall hg args) heq (by rfl) (by simp only[zM,List.all_nil,xM,OB.ret];exact hk) hc;exact Hg h3 (h4.mono λu U' hr=>by
   obtain⟨B',F',pl',k1,k2,k3⟩:=Q46 (d:=d) fv hG hk hr;exact hK u U' B' F' pl' k1 k2 k3)
 case buildSlice e z n ps =>
  simp only[Q00] at h;split at h
  .rename_i k tY;split at h
   .rename_i eM;split at h
    .rename_i xs hx;obtain⟨rfl,rfl⟩:=Zy h;have tZ:gn C d (.buildSlice e z n ps) (gev gs s.env) s (λv s'=>v=.lst d/\s'=s.make d (.lst e.ty k xs false)):=by
      simp only[gn,tY,hx];simp_all
     obtain⟨u,U',pl',v,s',h1,⟨rfl,rfl⟩,⟨h3,_⟩,h4⟩:=BW (λx=>hG.evs hg x) hG tZ;obtain⟨B',F',k1,k2,k3⟩:=OT hG.bf eM.2.2 h3 h4 (Uj h1);show Zc (Qc (.buildSlice e z n ps) (Q5 env) U) _;rw[h1];exact hK u U' B' F' pl' k1 k2 k3
    .cases h
   .cases h
  .cases h
theorem Q0x {C:Cx}{o:VOp}{ev:Operand->SV}{own:Own}{c:Prop}{v:SV}(h:Q00 C o ev own=some (c,v)):∃ (k:Kind) (xs:List k.T),v=.val (.list k) xs:=by
 cases o<;>first|(cases h;done)|skip
 case callF=>simp only[Q00] at h;grind [Hp]
 case callV=>simp only[Q00] at h;grind [Hp]
 case buildSlice e z n ps =>
  simp only[Q00] at h
  grind
theorem Z1o {C:Cx}(aE:COk P C) {B F:Heap}{pl:Nat->Value}{tb:Nat->Option Bool}{s:St}{env:Env}{U:Heap}(hG:Gam P B F pl tb s env U) {d:Nat}{o:VOp}{K:SV->St->Prop}(h:gn C d o (gev [] s.env) s K) {R:Value->Heap->Prop}
  (hK:∀ v s' B' F' pl' tb' u U',K v s'->GBase B F U B' F' U'->Gam P B' F' pl' tb' s' env U'->SR P B' pl' tb' v u->R u U'):vop (Q8 P) o env U R:=by
 have ai:=hG.evs (Gds.nil (tb:=tb));have act:∀ o {T:Nat},NOk P B F tb o (Q5 env) env U K T s pl->(∀ R',Zc (Qc o (Q5 env) U) (λp=>R' p.1 p.2)->vop (Q8 P) o env U R')->vop (Q8 P) o env U R:=λo _ ⟨u,U',pl',v,s',h1,h2,h3,h4⟩ hv=>hv R (by rw[h1];exact hK v s' B F pl' tb u U' h2 (.of hG.bf (Uj h1)) h3.1 h4);have az:∀ args:List Operand,SRs P B pl tb (args.map (gev [] s.env)) (args.map (Q5 env)):=(by grind [SRs.map,Gds.nil]);cases o
 case alloc t z=>exact act _ (Q99 ai hG h) λ_ h=>h
 case box t x=>exact act _ (Z78 ai hG h) λ_ h=>h
 case buildSlice e z n ps=>exact act _ (BW ai hG h) λ_ h=>h
 case makeSlice e b z l c=>exact act _ (AB ai hG h) λ_ h=>h
 case append e b x y=>exact act _ (Q4j ai hG h) λ_ h=>h
 case store size a x=>exact act _ (Q8v ai hG h) λ_ h=>h
 case callF f args =>
  simp only[gn] at h;obtain⟨g,a,b,h3,h4⟩:=Su aE hG (show SR P B pl tb (.fn f [] []) (.func (.func f) #[] #[]) by simp only[SR,SRs];exact⟨[],[],rfl,rfl,rfl⟩) (az args) h (λ_ e=>by cases e) hK;obtain⟨rfl,rfl,rfl⟩:=(by simpa using h3:f=g/\#[]=a/\#[]=b);show VCalled P f (args.map (Q5 env)) U R;simpa using h4
 case callV f args =>
  simp only[gn] at h;by_cases hy:∃ o,gev [] s.env f=.dd o .yv
  .obtain⟨o,hy⟩:=hy;have hf:=hG.evs (Gds.nil (tb:=tb)) f;have h':Il C d (gev [] s.env f) (args.map (gev [] s.env)) s K:=h;rw[hy] at hf h';simp only[SR,DR] at hf;obtain⟨i,hp,hv⟩:=hf;simp only[Il] at h';split at h'
   .rename_i y nr;have:=aE.yl o y nr B F pl tb s env U _ _ K R i hG (az args) h' hp hK;simp only[vop,hv];exact this
   .exact h'.elim
  obtain⟨g,a,b,h3,h4⟩:=Su aE hG (hG.evs Gds.nil f) (az args) h (λo e=>hy ⟨o,e⟩) hK;exact Hg h3 h4
 case ext x =>
  cases x
  case mapUpdate mk m k v=>exact act _ (Ec ai hG h) λ_ h=>h
  case delete mk m k=>exact act _ (Q53 ai hG h) λ_ h=>h
  case mapEntry mk z m k=>exact act _ (Ib ai hG h) λ_ h=>h
  case entryStore m s v=>exact act _ (SP ai hG h) λ_ h=>h
  case copy size a b=>exact False.elim h
  case unsafeStr e a n=>exact False.elim h
  case strBytes e a=>exact False.elim h
  case rangeMap a=>exact Q7k hG h hK
  case nextMap a=>exact Q87 hG h hK
  all_goals exact h.elim
 all_goals exact h.elim
theorem Gam.frz (hG:Gam P B F pl tb s env U) (o:Nat):∃ B' F',GBase B F U B' F' U/\Gam P B' F' pl tb (s.frz o) env U:=by
 unfold St.frz;split
 .rename_i ty k xs nl ho;have fin:∀ {B' F':Heap},Gam P B' F' pl tb ⟨s.env,oset s.own o .dead,s.nx⟩ env U->KC B' (.list k) xs [pl o]->Gam P B' F' pl tb ⟨SVs.frz o k xs s.env,Z2s o k xs s.own,s.nx⟩ env U:=λ{B' F'} h hk=>by
   have e1:∀ d,Qe (Z2s o k xs s.own) d=(Qe (oset s.own o .dead) d).frz o k xs:=λd=>by
    rw[Z00,Qn];by_cases e:d=o
    .rw[z2 e,z2 e];rfl
    .rw[z0 e,z0 e]
   have lv:∀ d,(Qe (Z2s o k xs s.own) d).live=(Qe (oset s.own o .dead) d).live:=λd=>by rw[e1,OB.q1y]
   refine⟨h.bf,h.le,SRs.frz hk _ _ h.env,λd=>?_,λd i h1 h2=>?_,λd d' i aK h1 h2=>?_,h.free⟩
   .simp only[e1];exact(h.obj d).frz hk
   .simp only[lv] at h1;exact h.fresh d i h1 h2
   .simp only[lv] at h1 h2;exact h.sep d d' i aK h1 h2
  have au:=hG.obj o;rw[ho] at au;rcases au with⟨_,hx,hp⟩|⟨_,i,cap,c,t,hp,cA,hg,hlen,dD⟩
  .exact⟨B,F,.of hG.bf (.refl _),fin (hG.drop o) ⟨_,rfl,.inl ⟨hx,hp⟩⟩⟩
  .obtain⟨g1,g2⟩:=hG.freeze (o:=o) (i:=i) (by rw[ho];rfl) (by rw[hp];rfl);refine⟨_,_,g1,fin g2 ⟨_,rfl,.inr ⟨i,0,cap,c,⟨k.size,ty⟩,true,t,hp,cA,by rw[Heap.q0n];exact hg,rfl,by have:=zj k.size cA;omega,?_⟩⟩⟩;rw[xG];exact dD.mono λ_ _ e=>KC.mono g1.b e
 .exact⟨B,F,.of hG.bf (.refl _),hG⟩
theorem GRel.frzs {B0 F0 D0:Heap}:∀ (l:List Nat) {s:St},GRel P B0 F0 D0 s env U->GRel P B0 F0 D0 (s.frzs l) env U
 |[],_,h=>h
 |o::r,s,⟨B,F,pl,tb,hB,hG⟩=>by obtain⟨B',F',g1,g2⟩:=hG.frz o;exact GRel.frzs r ⟨B',F',pl,tb,hB.trans g1,g2⟩
end
theorem Q0i {j:Nat}{f:Nat->Prop}:∀ {n i:Nat},Q8o (j:Int) f n i->i<=j->j<i+n->f j
 |0,i,_,h1,h2=>by omega
 |n+1,i,h,h1,h2=>by
  rcases zu i j with h3|h3
  .exact Q0i h.2 h3 (by omega)
  .have:j=i:=by omega
   subst this;exact h.1 rfl
theorem Z0p {o:VOp}{len i:Nat}{f:Nat->VOp}(h:Z6l o=some (len,i,f)) {n:Nat}:(∃ size x,f n=.indexAddrArr len size x (.const (.int .i64 (Int.ofNat n))))\/∃ agg size x,f n=.indexArr len agg size x (.const (.int .i64 (Int.ofNat n))):=by
 unfold Z6l at h;split at h
 .cases h;exact .inl ⟨_,_,rfl⟩
 .cases h;exact .inr ⟨_,_,_,rfl⟩
 .cases h
theorem Z16 {o:VOp}{len i:Nat}{f:Nat->VOp}(h:Z6l o=some (len,i,f)) {S:VSpecs}{env:Env}{U:Heap}{k:IntKind}{n:Nat}(he:Q5 env (.tmp i)=.int k (n:Int)) {R:Value->Heap->Prop}(hv:vop S (f n) env U R):vop S o env U R:=by
 have hc:Q5 env (.const (.int .i64 (Int.ofNat n)))=.int .i64 (n:Int):=rfl;unfold Z6l at h;split at h
 .rename_i len size x t;cases h;change Zc (Qc _ (Q5 env) U) _ at hv;change Zc (Qc _ (Q5 env) U) _;simp only[Qc,he,hc] at hv |-
  grind
 .rename_i len agg size x t;cases h;change Zc (Qc _ (Q5 env) U) _ at hv;change Zc (Qc _ (Q5 env) U) _;simp only[Qc,he,hc] at hv |-
  grind
 .cases h
theorem Ii {C:Cx}(aE:COk P C) {B0 F0 D0:Heap}{s:St}{env:Env}{U:Heap}(hR:GRel P B0 F0 D0 s env U) {o:VOper}{K:St->Prop}(h:Z7w C o s K) {R:Env->Heap->Prop}(hK:∀ s' al U',K s'->GRel P B0 F0 D0 s' al U'->R al U') :
  Zc (JV env o.guard) λb=>vif b (vop (Q8 P) o.op env U λv U'=>R (Wg env o.dst v) U') (R (Wg env o.dst undef) U):=by
 unfold Z7w at h;split at h
 .rename_i hg;rw[hg];refine⟨λ_=>?_,λe=>by cases e⟩
  replace hR:=hR.frzs (Z4v C (o.dst.getD 0) o.op (gev [] s.env) s.own)
  generalize s.frzs (Z4v C (o.dst.getD 0) o.op (gev [] s.env) s.own)=s at h hR;obtain⟨B,F,pl,tb,hB,hG⟩:=hR;unfold J19 at h;split at h
  .rename_i len i f rT;split at h
   .rename_i k j hj;obtain⟨h1,h2,h3⟩:=h;obtain⟨n,rfl⟩:=z8 h1;have hn:n<len:=by omega
    have h4:=Q0i h3 (Nat.zero_le n) (by omega);have he:=JK hj (hG.evs (Gds.nil (tb:=tb)) (.tmp i));split at h4
    .rename_i cs v dq;obtain⟨k1,k2⟩:=ZT h4
     replace k1:=ZN k1
     have hv:=Ae (C:=C) aE.cs hG Gds.nil (o:=f n) (raw:=C.raw.contains (o.dst.getD 0)) (cs:=cs) (v:=v) (by
      rw[<-dq];obtain⟨size,x,hf⟩|⟨agg,size,x,hf⟩:=Z0p rT<;>rw[hf];rfl;rfl) (k2 λg hg=>by cases hg) λu hu=>hK _ _ _ k1 ⟨B,F,pl,tb,hB,hG.put o.dst hu⟩
     exact Z16 rT he hv
    .exact h4.elim
   .exact h.elim
  unfold J1f at h;split at h
  .rename_i c a b bC;split at h
   .rename_i v hv;obtain⟨u,h1,h2⟩:=Ga hG Gds.nil hv;rw[bC];show Zc (Qc (.pick c a b) (Q5 env) U) _;rw[h1];exact hK _ _ _ (ZN h) ⟨B,F,pl,tb,hB,hG.put o.dst h2⟩
   .exact h.elim
  .rename_i vU;cases hq:Q86 o.op with
   |true =>
    rw[hq] at h;simp only[zd] at h;split at h
    .rename_i cs v dq;obtain⟨h1,h2⟩:=ZT h
     replace h1:=ZN h1
     refine Ae (C:=C) aE.cs hG Gds.nil (raw:=C.raw.contains (o.dst.getD 0)) (cs:=cs) (v:=v) ?_ (h2 λg hg=>by cases hg) λu hu=>hK _ _ _ h1 ⟨B,F,pl,tb,hB,hG.put o.dst hu⟩;rw[<-dq];cases ho:o.op<;>first|rfl|(rw[ho] at hq;cases hq)
    .exact h.elim
   |false =>
    rw[hq] at h;simp only[zI] at h;split at h
    .rename_i bC;split at h
     .rename_i kk vk _;obtain⟨h1,h2⟩:=Z08 hG (C.off+o.dst.getD 0) kk vk;rw[bC];change R (Wg env o.dst (.map (some U.n))) (U.push (.obj (.map [] 0) true));exact hK _ _ _ h ⟨B,F,_,tb,P8 hB (Dead.push _ _),h1.put o.dst h2⟩
     .exact h.elim
    .rename_i bC;cases jQ:Q23 C (o.dst.getD 0) o.op (gev [] s.env) with
     |true =>rw[jQ] at h;simp only[zd] at h;exact Q77 hG h λv s' B' F' pl' tb' u U' h1 hd h2 h3=>hK _ _ _ h1 ⟨B',F',pl',tb',hB.trans hd,h2.put o.dst h3⟩
     |false =>rw[jQ] at h;simp only[zI] at h;exact Z1o aE hG h λv s' B' F' pl' tb' u U' h1 hd h2 h3=>hK _ _ _ h1 ⟨B',F',pl',tb',hB.trans hd,h2.put o.dst h3⟩
 .rename_i j want hg;obtain⟨B,F,pl,tb,hB,hG⟩:=hR;rw[hg];split at h
  .exact h.elim
  .rename_i gs s' dS;obtain⟨tb',bc,cR,b,hw,bF,bh⟩:=Y5 hG dS;rw[hw];refine⟨λe=>?_,λe=>?_⟩
   .have gd:Gds tb' gs:=λg hg=>⟨bF e g hg,cR g hg⟩;have fin:∀ {v u},SR P B pl tb' v u->SR P B pl tb' (.grd gs (RE v)) u:=λ{v u} hs=>by
     simp only[SR]
     grind [LQ]
    split at h
    .rename_i c a b' bC;split at h
     .rename_i v hv;obtain⟨u,h1,h2⟩:=Ga bc gd hv;rw[bC];show Zc (Qc (.pick c a b') (Q5 env) U) _;rw[h1];exact hK _ _ _ (ZN h) ⟨B,F,pl,tb',hB,bc.put o.dst (fin h2)⟩
     .exact h.elim
    .split at h
     .rename_i cs v dq;obtain⟨h1,h2⟩:=ZT h
      replace h1:=ZN h1
      exact Ae aE.cs bc gd dq (h2 (bF e)) λu hu=>hK _ _ _ h1 ⟨B,F,pl,tb',hB,bc.put o.dst (fin hu)⟩
     .split at h
      .rename_i c v jR;obtain⟨h1,h2⟩:=ZT h
       replace h1:=ZN h1
       refine Q3o aE.cs bc gd (d:=C.off+o.dst.getD 0) jR (h2 (bF e) c (by simp)) λu U' B' F' pl' k1 k2 k3=>hK _ _ _ h1 ⟨B',F',pl',tb',hB.trans k1,k2.put o.dst ?_⟩;simp only[SR];refine⟨⟨cR,?_⟩,λ_=>k3,(by grind)⟩;obtain⟨k,xs,rfl⟩:=Q0x jR;trivial
      .exact h.elim
   .have fin:∀ v,SR P B pl tb' (.grd gs (RE v)) undef:=λv=>by
     simp only[SR];obtain⟨g,hg,aK⟩:=bh e;exact⟨⟨cR,C8 v⟩,λhall=>absurd (hall g hg) aK,λ_=>trivial⟩
    split at h
    .split at h
     .exact hK _ _ _ (ZN h) ⟨B,F,pl,tb',hB,bc.put o.dst (fin _)⟩
     .exact h.elim
    .split at h
     .exact hK _ _ _ (ZN (ZT h).1) ⟨B,F,pl,tb',hB,bc.put o.dst (fin _)⟩
     .split at h
      .rename_i c v jR;refine hK _ _ _ (ZN (ZT h).1) ⟨B,F,_,tb',hB,(bc.make (C.off+o.dst.getD 0) .dead undef bc.le (λ_ _ _ _ _=>rfl) trivial (λi hl _=>by cases hl)).put o.dst ?_⟩;simp only[SR];obtain⟨g,hg,aK⟩:=bh e;refine⟨⟨cR,?_⟩,λhall=>absurd (hall g hg) aK,λ_=>trivial⟩;obtain⟨k,xs,rfl⟩:=Q0x jR;trivial
      .exact h.elim
theorem Z0t {C:Cx}(aE:COk P C) {B0 F0 D0:Heap}{s:St}{env:Env}{U:Heap}(hR:GRel P B0 F0 D0 s env U) {o:VOper}{K:St->Prop}(h:gop C o s K) {R:Env->Heap->Prop}(hK:∀ s' al U',K s'->GRel P B0 F0 D0 s' al U'->R al U') :
  Zc (JV env o.guard) λb=>vif b (vop (Q8 P) o.op env U λv U'=>R (Wg env o.dst v) U') (R (Wg env o.dst undef) U):=by
 unfold gop at h;split at h
 .rename_i t ht;have qf:=hR;obtain⟨B,F,pl,tb,hB,hG⟩:=hR;rw[UM hG ht];cases t with
  |true =>simp only[zd] at h;exact Ii aE qf (o:=⟨o.dst,o.op,none⟩) h hK
  |false =>simp only[zI] at h;exact⟨(λe=>by cases e),λ_=>hK _ _ _ h ⟨B,F,pl,tb,hB,hG.put o.dst (by simp[SR])⟩⟩
 .exact Ii aE hR h hK
theorem Q3y {B0 F0 D0:Heap}{s s':St}{env:Env}{U:Heap}(hR:GRel P B0 F0 D0 s env U) {d:Nat}(h:Z5h d s=some s'):GRel P B0 F0 D0 s' env U:=by
 unfold Z5h at h;split at h
 .rename_i o off hd;cases hz:Nat.beq off 0 with
  |false=>rw[hz] at h;cases h
  |true =>
   rw[hz] at h;simp only[zd] at h;have hz:off=0:=zq hz;subst hz;split at h
   .rename_i l _ ho;simp only[xg] at h;subst h;obtain⟨B,F,pl,tb,hB,hG⟩:=hR;have au:=hG.obj o;rw[ho] at au;obtain⟨i,c,e,t,e1,e2,e3,_⟩:=au;obtain⟨k1,k2⟩:=hG.freeze (o:=o) (i:=i) (by rw[ho];rfl) (by rw[e1];rfl);have h1:=hG.env.getD d undef;rw[hd] at h1;have sr:SR P (B.ins U i hG.leB.1) pl tb (.cp l 0) (env.getD d undef):=by
     simp only[SR] at h1 |-;obtain⟨b,q1,q2⟩:=h1;rw[e1] at q1;obtain rfl:i=b:=by simpa using q1
     refine⟨i,c,e,true,t,?_,q2,SRs.mono k1.b (λ_ _ h=>h) _ _ e3⟩;rw[Heap.q0n];exact e2
    have:=k2.put (some d) sr;refine⟨_,_,pl,tb,hB.trans k1,?_⟩;have e2:Wg env (some d) (env.getD d undef)=env:=by
     show env.set d _=env;rcases zu d env.length with h|h
     .simp_all
     .rw[List.set_eq_of_length_le h]
    rw[e2] at this;exact this
   .cases h
 .cases h
theorem Q7e {C:Cx}{B0 F0 D0:Heap}{s:St}{env:Env}{U:Heap}(hR:GRel P B0 F0 D0 s env U) {d:Option Nat}{K:St->Prop}(h:Z7v C d K s):∃ s2,K s2/\GRel P B0 F0 D0 s2 env U:=by
 unfold Z7v at h;split at h
 .exact⟨s,h,hR⟩
 .rename_i d;cases hb:C.spl.contains d with
  |false=>rw[hb] at h;exact⟨s,h,hR⟩
  |true =>
   rw[hb] at h;simp only[zd] at h;split at h
   .rename_i t ht;obtain⟨B,F,pl,tb,hB,hG⟩:=hR;have he:=WM ht (hG.env.getD d undef);have a_:∀ v,SR P B pl tb v (env.getD d undef)->GRel P B0 F0 D0 (s.put (some d) v) env U:=λv hv=>by
     have:=hG.put (some d) hv;refine⟨B,F,pl,tb,hB,?_⟩;have e2:Wg env (some d) (env.getD d undef)=env:=by
      show env.set d _=env;rcases zu d env.length with h|h
      .rw[z9,z3 h];simp
      .rw[List.set_eq_of_length_le h]
     rw[e2] at this;exact this
    have sr:SR P B pl tb (.grd [] (.val .bo t)) (env.getD d undef):=by simp only[SR];exact⟨⟨(λg hg=>by cases hg),trivial⟩,(λ_=>by rw[he];simp[KC]),λ⟨g,hg,_⟩=>by cases hg⟩
    cases hc:C.raw.contains (3000000+d) with
    |true =>
     rw[hc] at h;cases t with
     |true=>exact⟨_,h,a_ _ sr⟩
     |false=>exact⟨_,h,a_ _ sr⟩
    |false =>
     rw[hc] at h;cases t with
     |true=>exact⟨_,h.1 rfl,a_ _ sr⟩
     |false=>exact⟨_,h.2 rfl,a_ _ sr⟩
   .grind [Q3y]
theorem HG {C:Cx}(aE:COk P C) {B0 F0 D0:Heap}:∀ (ops:List VOper) {s:St}{env:Env}{U:Heap},GRel P B0 F0 D0 s env U->∀ {K:St->Prop},Z7t C ops s K->∀ {R:Env->Heap->Prop},(∀ s' al U',K s'->GRel P B0 F0 D0 s' al U'->R al U')->F7 (Q8 P) ops env U R
 |[],s,env,U,hR,_K,h,_R,hK=>hK s env U h hR
 |_o::r,_s,_env,_σ,hR,_K,h,_R,hK=>Z0t (R:=λenv U=>F7 (Q8 P) r env U _R) aE hR h λ_ _ _ h1 h2=>by obtain⟨s2,k1,k2⟩:=Q7e h2 h1;exact HG aE r k2 k1 hK
theorem Q9o {S:VSpecs}{l:List DOper}{rest:List DSeg}{env:Env}{U:Heap}{K:Env->Heap->Prop}(h:l.all (λo=>!(o.kind==2)&&!(o.op.kind==2))=true) (hv:F7 S (l.map dv) env U λenv U=>RQ S rest env U K):RQ S (.alts [l]::rest) env U K:=by
 intro ops ho;obtain rfl:=zO.1 ho;have key:∀ (l:List DOper) (env:Env) (pend:List (Nat×(Heap->Prop))) (K':Env->Heap->Prop),l.all (λo=>!(o.kind==2)&&!(o.op.kind==2))=true->F7 S (l.map dv) env U K'->JA S l env [U] U pend K':=by
  intro l;induction l with
  |nil=>intro env pend K' _ h;exact h
  |cons o rest ih =>
   intro env pend K' hk h;simp only[zM,z1,Bool.not_eq_true',zW] at hk;obtain⟨⟨bn,aC⟩,hr⟩:=hk;have hr:rest.all (λo=>!(o.kind==2)&&!(o.op.kind==2))=true:=by simpa using hr
   simp only[zx,F7,dv] at h;simp only[JA];cases hw:JV env o.guard with
   |none=>rw[hw] at h;exact h.elim
   |some b =>
    rw[hw] at h;obtain⟨ht,hf⟩:=h;refine⟨λe=>?_,λe=>?_⟩
    .have ht:=ht e;obtain⟨p,hp,ke⟩:∃ p,Qc o.op (Q5 env) U=some p/\F7 S (rest.map dv) (Wg env o.dst p.1) p.2 K':=by
      have:=ht;unfold vop at this;split at this
      .rename_i f bN heq;rw[heq] at aC;exact absurd rfl aC
      .rename_i f bN heq;rw[heq] at aC;exact absurd rfl aC
      .rename_i x heq;rw[heq] at aC;exact absurd rfl aC
      .cases dC:Qc o.op (Q5 env) U with
       |none=>rw[dC] at this;exact this.elim
       |some p=>rw[dC] at this;exact⟨p,rfl,this⟩
     have hq:p.2=U:=(by grind [Tq]);rw[hq] at ke;rw[z0 bn];split
     .rw[hp];refine⟨λZ hτ=>?_,ih _ _ _ hr ke⟩;have:Z=U:=by
       grind
      subst this;show Zc (Qc o.op (Q5 env) Z) _;rw[hp];rfl
     .rw[hp];exact ih _ _ _ hr ke
    .simp_all
 have:=key ops env [] _ h hv;have mono:∀ (l:List DOper) (env:Env) (hs:List Heap) (Z:Heap) (pend:List (Nat×(Heap->Prop))) (A B:Env->Heap->Prop),l.all (λo=>!(o.kind==2)&&!(o.op.kind==2))=true->(∀ e s,A e s->B e s)->JA S l env hs Z pend A->JA S l env hs Z pend B:=by
  intro l;induction l with
  |nil=>intro env hs Z pend A B _ lW h;exact lW _ _ h
  |cons o rest ih =>
   intro env hs Z pend A B hk lW h;simp only[zM,z1,Bool.not_eq_true',zW] at hk;obtain⟨⟨bn,aC⟩,hr⟩:=hk;have hr:rest.all (λo=>!(o.kind==2)&&!(o.op.kind==2))=true:=by simpa using hr
   simp only[JA] at h |-;cases hw:JV env o.guard with
   |none=>rw[hw] at h;exact h.elim
   |some b =>
    rw[hw] at h;obtain⟨ht,hf⟩:=h;refine⟨λe=>?_,λe=>?_⟩
    .have ht:=ht e;rw[z0 bn] at ht |-;by_cases oC:o.kind=1
     .rw[z2 oC] at ht |-;cases dC:Qc o.op (Q5 env) Z with
      |none=>rw[dC] at ht;exact ht.elim
      |some p=>rw[dC] at ht;exact⟨ht.1,ih _ _ _ _ _ _ hr lW ht.2⟩
     .rw[z0 oC] at ht |-;cases dC:Qc o.op (Q5 env) Z with
      |none=>rw[dC] at ht;exact ht.elim
      |some p=>rw[dC] at ht;exact ih _ _ _ _ _ _ hr lW ht
    .grind
 exact mono ops env _ _ _ _ _ h (λe s hs=>⟨e,s,.refl _ _ _,hs⟩) this
theorem Ji {op:VOp}{ev:Operand->Value}{u:Value}{Z Z':Heap}(h:Qc op ev Z=some (u,Z')):Wp op ev u Z:=by unfold Wp;rw[h];rfl
theorem ZL (s:St) (d:Option Nat) (v:SV):(s.put d v).own=s.own:=by cases d<;>rfl
theorem Ub {s s':St}{j:Nat}{want:Bool}{gs:List Gd}(h:Ss s j want=some (gs,s')):s'.own=s.own:=by
 unfold Ss at h
 grind
theorem M6 {C:Cx}{B F:Heap}{pl:Nat->Value}{tb:Nat->Option Bool}{s:St}{env:Env}{U:Heap}(hG:Gam P B F pl tb s env U) {o:DOper}{K:St->Prop}(h:gd1 C o s K) :
  ∃ b,JV env o.guard=some b/\(b=true->∃ u s' tb',Qc o.op (Q5 env) U=some (u,U)/\K s'/\s'.own=s.own/\Gam P B F pl tb' s' (Wg env o.dst u) U)/\(b=false->∃ s' tb',K s'/\s'.own=s.own/\Gam P B F pl tb' s' (Wg env o.dst undef) U):=by
 unfold gd1 at h;split at h
 .rename_i hg;rw[hg];refine⟨true,rfl,λ_=>?_,λe=>by cases e⟩;split at h
  .rename_i c a b bC;split at h
   .rename_i v hv;obtain⟨u,h1,h2⟩:=Ga hG Gds.nil hv;exact⟨u,_,tb,by rw[bC];exact h1,ZN h,ZL _ _ _,hG.put o.dst h2⟩
   .exact h.elim
  .split at h
   .rename_i cs v dq;obtain⟨h1,h2⟩:=ZT h;obtain⟨u,h3,h4⟩:=OG (hG.evs (Gds.nil (tb:=tb))) (λ_=>rfl) hG.leB hG.obj dq (h2 λg hg=>by cases hg);exact⟨u,_,tb,h3,ZN h1,ZL _ _ _,hG.put o.dst h4⟩
   .exact h.elim
 .rename_i j want hg;rw[hg];split at h
  .exact h.elim
  .rename_i gs s' dS;obtain⟨tb',bc,cR,b,hw,bF,bh⟩:=Y5 hG dS;refine⟨b,hw,λe=>?_,λe=>?_⟩
   .have gd:Gds tb' gs:=λg hg=>⟨bF e g hg,cR g hg⟩;have fin:∀ {v u},SR P B pl tb' v u->SR P B pl tb' (.grd gs (RE v)) u:=λ{v u} hs=>by
     simp only[SR]
     grind [LQ]
    split at h
    .rename_i c a b' bC;split at h
     .rename_i v hv;obtain⟨u,h1,h2⟩:=Ga bc gd hv;exact⟨u,_,tb',by rw[bC];exact h1,ZN h,(ZL _ _ _).trans (Ub dS),bc.put o.dst (fin h2)⟩
     .exact h.elim
    .split at h
     .rename_i cs v dq;obtain⟨h1,h2⟩:=ZT h;obtain⟨u,h3,h4⟩:=OG (bc.evs gd) (λ_=>rfl) bc.leB bc.obj dq (h2 (bF e));exact⟨u,_,tb',h3,ZN h1,(ZL _ _ _).trans (Ub dS),bc.put o.dst (fin h4)⟩
     .exact h.elim
   .have fin:∀ v,SR P B pl tb' (.grd gs (RE v)) undef:=λv=>by
     simp only[SR];obtain⟨g,hg,aK⟩:=bh e;exact⟨⟨cR,C8 v⟩,λhall=>absurd (hall g hg) aK,λ_=>trivial⟩
    split at h
    .split at h
     .exact⟨_,tb',ZN h,(ZL _ _ _).trans (Ub dS),bc.put o.dst (fin _)⟩
     .exact h.elim
    .split at h
     .exact⟨_,tb',ZN (ZT h).1,(ZL _ _ _).trans (Ub dS),bc.put o.dst (fin _)⟩
     .exact h.elim
theorem Q3m {bs:List OB}{q:Prop}(h:Q9y bs q):(∀ b∈bs,b.wf)/\q:=by
 induction bs with
 |nil=>exact⟨(λb hb=>by cases hb),h⟩
 |cons b r ih =>obtain⟨h1,h2⟩:=h;obtain⟨h3,h4⟩:=ih h2;exact(by simp_all)
mutual
theorem Q58 {d nt:Nat}:∀ (v:SV),v.ret 0=true->(v.ren d nt).ret 0=true
 |.val k x,h=>h
 |.nilS,_|.nilP,_|.nilM,_|.nilF,_=>rfl
 |.lst j,h|.box j _,h|.map j,h=>by simp[SV.ret,Nat.blt] at h
 |.agg l,h=>by simp only[SV.ren,SV.ret] at h |-;exact CZ l h
 |.tup l,h=>by simp only[SV.ren,SV.ret] at h |-;exact CZ l h
 |.any,h|.bid _ _,h|.grd _ _,h|.sub _ _ _ _,h|.elp _ _ _ _,h|.rop _ _ _ _,h|.cp _ _,h|.fn _ _ _,h|.pf _ _ _ _,h=>by cases h
theorem CZ {d nt:Nat}:∀ (v:List SV),SVs.ret 0 v=true->SVs.ret 0 (SVs.ren d nt v)=true
 |[],_=>rfl
 |s::ss,h=>by simp only[SVs.ret,SVs.ren,z1] at h |-;exact⟨Q58 s h.1,CZ ss h.2⟩
end
theorem Y8 {C:Cx}(aE:COk P C) {B F:Heap}{pl:Nat->Value}{tb:Nat->Option Bool}{s:St}{env:Env}{U:Heap}(hG:Gam P B F pl tb s env U) {d:Nat}{f:SV}{args:List SV}{K:List Nat->SV->St->Prop}(h:Pj C d f args s K) {fV:Value}{vs:List Value}
  (hf:SR P U X1 ZU f fV) (ha:SRs P U X1 ZU args vs):∃ g a b u U' ts v s' pl',fV=.func (.func g) a b/\(VCalled P g (a.toList++vs++b.toList) U λu' aM=>u'=u/\aM=U')/\K ts v s'/\Gam P B F pl' tb s' env U'/\SR P B pl' tb v u/\(ts=[]->U'=U/\pl'=pl/\s'=s)/\U.Le U'/\Dead U U'/\FrL ts s s' pl pl' U U':=by
 unfold Pj at h;split at h
 .rename_i c v bs heq;cases hb:(v.ret bs.length&&(bs.all OB.ret&&(Nat.blt 0 C.nt&&(bs.all OB.isL&&NU v)))) with
  |false=>rw[hb] at h;exact h.elim
  |true =>
   rw[hb] at h;obtain⟨h1,h2⟩:=h;obtain⟨h3,h4⟩:=Q3m h2;simp only[z1] at hb;obtain⟨hv,jS,fv,hl,c_⟩:=hb;obtain⟨g,a,b,e,_,hx⟩:=Jl aE.cs hf ha heq hv jS h1;have dp:=Q1g (P:=P) U hv c_ jS hl (λb hb=>by have:=h3 b hb;cases b<;>exact this);by_cases bW:bs=[]
   .subst bW;obtain⟨k1,k2⟩:=dp.flat hv;refine⟨g,a,b,_,_,_,_,_,pl,e,hx hl c_,h4,?_,?_,λ_=>⟨k1,rfl,rfl⟩,dp.1.1,dp.1.2,λq _=>⟨rfl,rfl,λ_ _ _=>by rw[k1]⟩⟩
    .rw[k1];exact hG
    .exact SR.retd (B:=hNil) (pl:=pl) (tb:=ZU) (n:=0) (λj hj=>by omega) _ _ (Q58 v hv) (by grind [SR.ren])
   .obtain⟨pl',h5,h6,h7⟩:=dp.gamF (nt:=C.nt) (d:=d) (by simpa [zy] using fv) hG hv jS;refine⟨g,a,b,_,_,_,_,_,pl',e,hx hl c_,h4,h5,h6,(by simp_all),dp.1.1,dp.1.2,λq hq=>h7 q λj hj e=>hq ?_⟩;exact zC.2 ⟨j,zS.2 hj,e.symm⟩
 .exact h.elim
def Q5b:VOp->Bool
 |.callF ..|.callV ..=>true
 |.ext (.rangeMap _)|.ext (.nextMap _)=>true
 |_=>false
theorem Z71 {C:Cx}{B F:Heap}{pl:Nat->Value}{tb:Nat->Option Bool}{s:St}{env:Env}{U:Heap}(hG:Gam P B F pl tb s env U) {d:Nat}{o:VOp}{K:SV->St->Prop}(h:gn C d o (gev [] s.env) s K) (hc:Q5b o=false) :
  NOk P B F tb o (Q5 env) env U K (Z2 d o (gev [] s.env)) s pl:=by
 have ai:=hG.evs (Gds.nil (tb:=tb));cases o
 case alloc t z=>exact Q99 ai hG h
 case box t x=>exact Z78 ai hG h
 case buildSlice e z n ps=>exact BW ai hG h
 case makeSlice e b z l c=>exact AB ai hG h
 case append e b x y=>exact Q4j ai hG h
 case store size a x=>exact Q8v ai hG h
 case callF=>cases hc
 case callV=>cases hc
 case ext x =>
  cases x
  case mapUpdate mk m k v=>exact Ec ai hG h
  case delete mk m k=>exact Q53 ai hG h
  case mapEntry mk z m k=>exact Ib ai hG h
  case entryStore m s v=>exact SP ai hG h
  case copy size a b=>exact False.elim h
  case unsafeStr e a n=>exact False.elim h
  case strBytes e a=>exact False.elim h
  case rangeMap=>cases hc
  case nextMap=>cases hc
  all_goals exact h.elim
 all_goals exact h.elim
theorem OM {o:VOp}{ev:Operand->Value}{U U':Heap}{u:Value}(hm:An o=true) (h:Qc o ev U=some (u,U')):U.Le U':=by
 have push:∀ b:Blk,U.Le (U.push b):=λb=>(Heap.Le.refl U).push b;cases o<;>first|(cases hm;done)|skip
 case alloc t z=>obtain⟨rfl,rfl⟩:=Zy h;exact push _
 case box t x =>
  simp only[Qc] at h
  grind
 case buildSlice e z n ps =>
  simp only[Qc] at h
  grind
 case makeSlice e b z l c =>
  simp only[Qc] at h
  grind
def stM:MK:=.agg [.int .i64,.int .i64]
def Z4a:Option XY->Value
 |some e=>e.2.1
 |none=>.int .i64 0
def LkE (es bV:List XY):Prop:=(es.all (λe=>JC stM e.1)=true->bV.all (λe=>JC stM e.1)=true)/\(es.all (λe=>JC stM e.1)=true->∀ k,JC stM k=true->Z4a (Qq k bV)=Z4a (Qq k es))
theorem LkE.trans {a b c:List XY}(h:LkE a b) (h':LkE b c):LkE a c:=⟨λk=>h'.1 (h.1 k),λk x hx=>(h'.2 (h.1 k) x hx).trans (h.2 k x hx)⟩
theorem Q3v {v:Value}(h:JC stM v=true):∃ a b,v=.agg #[.int .i64 a,.int .i64 b]:=by
 cases v with
 |agg l =>
  simp only[JC,stM] at h;obtain⟨l⟩:=l
  match l,h with
  |[],h=>simp[fits] at h
  |[x],h=>cases x<;>simp[fits,Q74] at h
  |[x,y],h =>simp only[fits,z1] at h;obtain⟨hx,hy,_⟩:=h;cases x<;>simp[Q74] at hx;cases y<;>simp[Q74] at hy;simp_all
  |x::y::z::r,h=>simp[fits] at h
 |_=>simp[JC,stM] at h
theorem Z3v {a b c e:Int}:WO (.agg #[.int .i64 a,.int .i64 b]) (.agg #[.int .i64 c,.int .i64 e])=(a==c&&b==e):=by simp[WO,QB,Ut]
theorem Z0w {k0:Value}{clock:Nat}(jc:JC stM k0=true):∀ {es:List XY},LkE es (QM k0 (Z4a (Qq k0 es)) clock es).1
 |[]=>by refine⟨λ_=>by simp[QM,jc],λ_ k hk=>?_⟩;simp only[QM,Qq];cases WO k k0<;>rfl
 |e::es=>by
  have ih:=Z0w (clock:=clock) jc (es:=es);simp only[QM,Qq];cases he:WO k0 e.1 with
  |true =>
   simp only[zn];refine⟨λh=>?_,λh k hk=>?_⟩
   .grind
   .simp only[zM,z1] at h;obtain⟨a,b,rfl⟩:=Q3v jc;obtain⟨a1,b1,h1⟩:=Q3v h.1;obtain⟨a2,b2,rfl⟩:=Q3v hk;have heq:(a==a1&&b==b1)=true:=by rw[<-Z3v,<-h1];exact he
    simp only[z1,zD] at heq;obtain⟨rfl,rfl⟩:=heq;simp only[Qq,h1,Z3v];cases (a2==a&&b2==b)<;>rfl
  |false =>
   simp only[zk,if_false];refine⟨λh=>?_,λh k hk=>?_⟩
   .simp only[zM,z1] at h |-;exact⟨h.1,ih.1 h.2⟩
   .simp only[zM,z1] at h;simp only[Qq];cases WO k e.1 with
    |true=>rfl
    |false=>exact ih.2 h.2 k hk
theorem Q9q {mk:MK}{z:Value}(h:stP mk z=true):mk=stM/\z=.int .i64 0:=by
 unfold stP at h;split at h
 .exact⟨rfl,by rw[eq_of_beq h]⟩
 .cases h
def Q7b (U:Heap) (own:Own) (pl:Nat->Value) (Q:Heap->Prop):Option Nat->Prop
 |none=>∀ Z,U.Le Z->Q Z
 |some q=>(Qe own (q / 2)).live=true/\∃ i b,Oid (pl (q / 2)) i/\U.get i=some b/\(∀ Z,Z.get i=some b->Q Z)/\(q % 2=1->∃ es c wr,b=.obj (.map es c) wr/\∀ Z bV c',LkE es bV->Z.get i=some (.obj (.map bV c') wr)->Q Z)
structure DSt (hs:List Heap) (U:Heap) (pend:List (Nat×(Heap->Prop))) (hl chg:Nat) (A R:List (Nat×Option Nat)) (own:Own) (pl:Nat->Value):Prop where
 len:hs.length=hl
 same:∀ j Z,chg<=j->hs[j]?=some Z->Z=U
 pend:∀ c∈pend,c.1<hl\/∃ r∈R,c.1<=r.1/\Q7b U own pl c.2 r.2
 fr:∀ j Z q i,hs[j]?=some Z->ZM A j q=true->(Qe own q).live=true->Oid (pl q) i->Z.get i=U.get i
theorem VL {r:Nat}{U:Heap}:∀ {l:List (Nat×(Heap->Prop))},(∀ c∈l,r<=c.1->c.2 U)->W2 r U l
 |[],_=>trivial
 |c::l,h=>⟨h c (by simp),VL λc' d_=>h c' (by simp[d_])⟩
theorem XZ {hs:List Heap}{U' Z:Heap}{j:Nat}(h:(hs++[U'])[j]?=some Z):(j<hs.length/\hs[j]?=some Z)\/(j=hs.length/\Z=U'):=by
 grind
theorem Fb {a:Nat×Option Nat}{A:List (Nat×Option Nat)}{j q:Nat}(h:ZM (a::A) j q=true) (hj:j<=a.1):(∃ t,a.2=some t/\t≠q)/\ZM A j q=true:=by
 simp only[ZM,zM,z1,zp,zy] at h;refine⟨?_,h.2⟩;rcases h.1 with h|h
 .omega
 .split at h
  .rename_i t ht;exact⟨t,ht,λe=>by subst e;simp at h⟩
  .cases h
theorem DSt.stay {hs:List Heap}{U:Heap}{pend:List (Nat×(Heap->Prop))}{hl chg:Nat}{A R:List (Nat×Option Nat)}{own:Own}{pl:Nat->Value}(h:DSt hs U pend hl chg A R own pl) :
  W2 hs.length U pend/\DSt (hs++[U]) U pend (hl+1) chg A R own pl:=by
 have hr:∀ c∈pend,∀ r∈R,Q7b U own pl c.2 r.2->c.2 U:=λc _ r _ av=>by
  unfold Q7b at av;split at av
  .exact av U (.refl _)
  grind
 refine⟨VL λc hc hle=>?_,⟨by simp[h.len],λj Z hj ht=>?_,λc hc=>?_,λj Z q i ht hu hl hi=>?_⟩⟩
 .rcases h.pend c hc with h1|⟨r,h1,_,h2⟩
  .rw[h.len] at hle;omega
  .exact hr c hc r h1 h2
 .rcases XZ ht with⟨_,h1⟩|⟨_,h1⟩
  .exact h.same j Z hj h1
  .exact h1
 .rcases h.pend c hc with h1|h1
  .exact .inl (by omega)
  .exact .inr h1
 .rcases XZ ht with⟨_,h1⟩|⟨_,rfl⟩
  .exact h.fr j Z q i h1 hu hl hi
  .rfl
theorem DSt.write {hs:List Heap}{U U':Heap}{pend:List (Nat×(Heap->Prop))}{hl chg:Nat}{A R:List (Nat×Option Nat)}{s s':St}{pl pl':Nat->Value}(h:DSt hs U pend hl chg A R s.own pl) {T:Nat}(hf:Fr T s s' pl pl' U U') {mk ext:Bool}(hm:mk=true->U.Le U')
  (hE:ext=true->(Qe s'.own T).live=true/\pl' T=pl T/\∃ i es c bV c',pl T=.map (some i)/\U.get i=some (.obj (.map es c) true)/\U'.get i=some (.obj (.map bV c') true)/\LkE es bV)
  (hc:((mk&&Q0c R hl T)||Ik R hl T||(ext&&Z67 R hl T))=true) (bm:0<hl):W2 hs.length U' pend/\DSt (hs++[U']) U' pend (hl+1) hl ((hl-1,some T)::A) R s'.own pl':=by
 have hr:∀ Q:Heap->Prop,∀ r∈R,hl<=r.1->Q7b U s.own pl Q r.2->Q7b U' s'.own pl' Q r.2:=λQ r kM b8 av=>by
  have hq:∀ q,r.2=some q->q / 2=T->q % 2=1/\ext=true:=λq hq e=>by
   subst e;simp only[zp,z1,Q0c,Ik,Z67] at hc;rcases hc with (⟨_,hc⟩|hc)|⟨he,hc⟩
   .have:=zg.1 hc r kM;rw[hq] at this;simp only[zp,zy,Nat.beq_refl,xT,zk,or_false] at this;omega
   .have:=zg.1 hc r kM;rw[hq] at this;simp only[zp,zy,Nat.beq_refl,xT,zk,or_false] at this;omega
   .have:=zg.1 hc r kM;rw[hq] at this;simp only[zp,zy,Nat.beq_refl,xT,zk,false_or] at this
    grind [Nat.eq_of_beq_eq_true]
  cases e:r.2 with
  |none =>
   rw[e] at av;have bQ:mk=true:=by
    simp only[zp,z1,Ik,Z67] at hc;rcases hc with (⟨hc,_⟩|hc)|⟨_,hc⟩
    .exact hc
    .have:=zg.1 hc r kM;rw[e] at this;simp only[zp,zy,zk,or_false] at this;omega
    .have:=zg.1 hc r kM;rw[e] at this;simp only[zp,zy,zk,or_false] at this;omega
   exactλZ ht=>av Z ((hm bQ).trans ht)
  |some q =>
   rw[e] at av;obtain⟨k1,i,b,k2,k3,k4⟩:=av;by_cases nu:q / 2=T
   .obtain⟨ho,he⟩:=hq q e nu;obtain⟨g1,g2,i',es,c,bV,c',g3,g4,g5,g6⟩:=hE he;obtain⟨k5,k6⟩:=k4;obtain⟨vV,c0,wr,rfl,k7⟩:=k6 ho;rw[nu] at k1 k2;have hi:i=i':=Z0h (by rw[g3];rfl) k2;subst hi;rw[g4] at k3;cases k3;refine⟨by rw[nu];exact g1,i,_,by rw[nu,g2];exact k2,g5,λZ hτ=>k7 Z _ _ g6 hτ,λ_=>⟨_,_,_,rfl,λZ t_ vW hl hτ=>k7 Z _ _ (g6.trans hl) hτ⟩⟩
   .obtain⟨f1,f2,f3⟩:=hf (q / 2) nu;exact⟨by rw[f1];exact k1,i,b,by rw[f2];exact k2,by rw[f3 k1 i k2];exact k3,k4⟩
 have now:∀ Q:Heap->Prop,∀ r,Q7b U' s'.own pl' Q r->Q U':=λQ r av=>by
  unfold Q7b at av;split at av
  .exact av U' (.refl _)
  grind
 refine⟨VL λc hc hle=>?_,⟨by simp[h.len],λj Z hj ht=>?_,λc hc=>?_,λj Z q i ht hu cF hi=>?_⟩⟩
 .rw[h.len] at hle;rcases h.pend c hc with h1|⟨r,h1,h2,h3⟩
  .omega
  grind
 .rcases XZ ht with⟨h1,_⟩|⟨_,h1⟩
  .rw[h.len] at h1;omega
  .exact h1
 .rcases h.pend c hc with h1|⟨r,h1,h2,h3⟩
  .exact .inl (by omega)
  grind
 .rcases XZ ht with⟨h1,h2⟩|⟨_,rfl⟩
  .rw[h.len] at h1;obtain⟨⟨t,ht,ua⟩,dA⟩:=Fb hu (by simp only;omega);obtain rfl:=osj ht;obtain⟨f1,f2,f3⟩:=hf q (Ne.symm ua);rw[f1] at cF;rw[f2] at hi;rw[f3 cF i hi];exact h.fr j Z q i h2 dA cF hi
  .rfl
theorem Tu {ts:List Nat}{hl j q:Nat}{A:List (Nat×Option Nat)}(h:ZM (ts.map (λt=>(hl,some t))++A) j q=true) (hj:j<=hl):q∉ts/\ZM A j q=true:=by simp only[ZM,List.all_append,z1] at h |-;refine⟨λhm=>?_,h.2⟩;have:=zg.1 h.1 (hl,some q) (zC.2 ⟨q,hm,rfl⟩);simp only[zp,zy,Nat.beq_refl,xT,zk,or_false] at this;omega
theorem DSt.call {hs:List Heap}{U U':Heap}{pend:List (Nat×(Heap->Prop))}{hl chg:Nat}{A R:List (Nat×Option Nat)}{s s':St}{pl pl':Nat->Value}(h:DSt hs U pend hl chg A R s.own pl) (hle:U.Le U') {Ts:List Nat}(hf:FrL Ts s s' pl pl' U U') (bm:0<hl) :
  W2 hs.length U' pend/\DSt (hs++[U']) U' pend (hl+1) hl (Ts.map (λt=>(hl-1,some t))++A) (R.map λr=>(r.1,none)) s'.own pl':=by
 have hr:∀ Q r,Q7b U s.own pl Q r->∀ Z,U'.Le Z->Q Z:=λQ r av Z ht=>by
  unfold Q7b at av;split at av
  .exact av Z (hle.trans ht)
  .obtain⟨_,i,b,_,h2,h3,_⟩:=av;exact h3 Z (ht.2 _ _ (hle.2 _ _ h2))
 refine⟨VL λc hc hle=>?_,⟨by simp[h.len],λj Z hj ht=>?_,λc hc=>?_,λj Z q i ht hu cF hi=>?_⟩⟩
 .rcases h.pend c hc with h1|⟨r,h1,_,h2⟩
  .rw[h.len] at hle;omega
  .exact hr _ _ h2 _ (.refl _)
 .rcases XZ ht with⟨h1,_⟩|⟨_,h1⟩
  .rw[h.len] at h1;omega
  .exact h1
 .rcases h.pend c hc with h1|⟨r,h1,h2,h3⟩
  .exact .inl (by omega)
  .exact .inr ⟨(r.1,none),zC.2 ⟨r,h1,rfl⟩,h2,hr _ _ h3⟩
 .rcases XZ ht with⟨h1,h2⟩|⟨_,rfl⟩
  .rw[h.len] at h1;obtain⟨hq,dA⟩:=Tu hu (by omega);obtain⟨f1,f2,f3⟩:=hf q hq;rw[f1] at cF;rw[f2] at hi;rw[f3 cF i hi];exact h.fr j Z q i h2 dA cF hi
  .rfl
theorem DSt.writeD {hs:List Heap}{U U':Heap}{pend:List (Nat×(Heap->Prop))}{hl chg:Nat}{A R:List (Nat×Option Nat)}{s s':St}{pl pl':Nat->Value}(h:DSt hs U pend hl chg A R s.own pl) {Ts:List Nat}(hf:FrL Ts s s' pl pl' U U') {mk:Bool}(hm:mk=true->U.Le U')
  (hc:Q5z mk R hl Ts=true) (bm:0<hl):W2 hs.length U' pend/\DSt (hs++[U']) U' pend (hl+1) hl (Ts.map (λt=>(hl-1,some t))++A) R s'.own pl':=by
 have hr:∀ Q:Heap->Prop,∀ r∈R,hl<=r.1->Q7b U s.own pl Q r.2->Q7b U' s'.own pl' Q r.2:=λQ r kM b8 av=>by
  have kN:=zg.1 hc r kM;have kN:(match r.2 with|some q=>Ts.all (λt=>!(Nat.beq (q / 2) t))|none=>mk)=true:=by rw[zp,zy] at kN;exact kN.resolve_left (by omega)
  cases e:r.2 with
  |none =>rw[e] at av kN;exactλZ ht=>av Z ((hm kN).trans ht)
  |some q =>
   rw[e] at av kN;obtain⟨k1,i,b,k2,k3,k4⟩:=av;obtain⟨f1,f2,f3⟩:=hf (q / 2) λhq=>by have:=zg.1 kN (q / 2) hq;simp at this
   exact⟨by rw[f1];exact k1,i,b,by rw[f2];exact k2,by rw[f3 k1 i k2];exact k3,k4⟩
 have now:∀ Q:Heap->Prop,∀ r,Q7b U' s'.own pl' Q r->Q U':=λQ r av=>by
  unfold Q7b at av;split at av
  .exact av U' (.refl _)
  grind
 refine⟨VL λc hc hle=>?_,⟨by simp[h.len],λj Z hj ht=>?_,λc hc=>?_,λj Z q i ht hu cF hi=>?_⟩⟩
 .rw[h.len] at hle;rcases h.pend c hc with h1|⟨r,h1,h2,h3⟩
  .omega
  grind
 .rcases XZ ht with⟨h1,_⟩|⟨_,h1⟩
  .rw[h.len] at h1;omega
  .exact h1
 .rcases h.pend c hc with h1|⟨r,h1,h2,h3⟩
  .exact .inl (by omega)
  grind
 .rcases XZ ht with⟨h1,h2⟩|⟨_,rfl⟩
  .rw[h.len] at h1;obtain⟨hq,dA⟩:=Tu hu (by omega);obtain⟨f1,f2,f3⟩:=hf q hq;rw[f1] at cF;rw[f2] at hi;rw[f3 cF i hi];exact h.fr j Z q i h2 dA cF hi
  .rfl
theorem EZ {hl d j q:Nat}{A:List (Nat×Option Nat)}(h:ZM ((hl,none)::A) j q=true):ZM ([d].map (λt=>(hl,some t))++A) j q=true:=by simp only[ZM,zM,z1,zp,zk,or_false,zx,List.map_nil,x7,xp] at h |-;exact⟨.inl h.1,h.2⟩
theorem DSt.frozen {hs:List Heap}{U:Heap}{pend:List (Nat×(Heap->Prop))}{hl chg m d:Nat}{A R:List (Nat×Option Nat)}{own:Own}{pl:Nat->Value}(h:DSt hs U pend hl chg ([d].map (λt=>(m,some t))++A) R own pl):DSt hs U pend hl chg ((m,none)::A) R own pl :=
 ⟨h.len,h.same,h.pend,λj Z q i ht hu=>h.fr j Z q i ht (EZ hu)⟩
theorem C9 {ts:List Nat}{m j:Nat}{A:List (Nat×Option Nat)}(h:TG (ts.map (λt=>(m,some t))++A) j=true):TG A j=true:=by simp only[TG,List.all_append,z1] at h;exact h.2
theorem CU {a:Nat×Option Nat}{j:Nat}{A:List (Nat×Option Nat)}(h:TG (a::A) j=true):TG A j=true:=by simp only[TG,zM,z1] at h;exact h.2
theorem Im {C:Cx}{f:SV}{args:List SV}{cs:List Prop}{v:SV}(h:Q9a C f args=some (cs,v)):∃ c ty k xs nl,NR C.cs f args=some (c,.lst 0,[.lst ty k xs nl])/\cs=[c,nl=true->xs=[]]/\v=.val (.list k) xs/\k.flat=true/\0<C.nt:=by
 unfold Q9a at h;split at h
 .rename_i heq;split at h
  .rename_i k xs nl;cases hc:(k.flat&&Nat.blt 0 C.nt) with
   |false=>rw[hc] at h;cases h
   |true =>rw[hc] at h;obtain⟨rfl,rfl⟩:=Zy h;simp only[z1,zy] at hc;exact(by grind)
  .cases h
 .cases h
theorem Q15 {b:OB}(h:b.here=true):b.live=true:=by cases b<;>first|rfl|cases h
theorem U9 {B F:Heap}{pl:Nat->Value}{tb:Nat->Option Bool}{s:St}{env:Env}{U:Heap}(hG:Gam P B F pl tb s env U) {o:VOp}{q:Nat}(h:Bw o (gev [] s.env) s.own=some q) {u:Value}{σ2:Heap}(hv:Qc o (Q5 env) U=some (u,σ2)) :
  (Qe s.own (q / 2)).live=true/\∃ i b,Oid (pl (q / 2)) i/\U.get i=some b/\(∀ Z,Z.get i=some b->Qc o (Q5 env) Z=some (u,Z))/\(q % 2=1->∃ es c wr,b=.obj (.map es c) wr/\∀ Z bV c',LkE es bV->Z.get i=some (.obj (.map bV c') wr)->Qc o (Q5 env) Z=some (u,Z)):=by
 have two:∀ q,2*q / 2=q:=λq=>by omega
 have nw:∀ q,(2*q+1) / 2=q:=λq=>by omega
 have odd:∀ {q} {X:Prop},2*q % 2=1->X:=λ{q X} h=>by omega
 unfold Bw at h;split at h
 .rename_i agg size a;have ha:=hG.evs (Gds.nil (tb:=tb)) a;have key:∀ q i off,(Qe s.own q).live=true->Oid (pl q) i->Q5 env a=.pointer (some ⟨i,off,none⟩)->(Qe s.own q).live=true/\∃ i b,Oid (pl q) i/\U.get i=some b/\∀ Z,Z.get i=some b->Qc (.load agg size a) (Q5 env) Z=some (u,Z):=λq i off hl hi he=>by
   simp only[Qc,he] at hv;cases hb:U.get i with
   |none=>rw[hb] at hv;cases hv
   |some b =>
    refine⟨hl,i,b,hi,hb,λZ ht=>?_⟩;rw[hb] at hv;simp only[Qc,he,ht];cases b with
    |obj o wr=>cases hv
    |cells c e wr t =>
     simp only at hv |-;split at hv
     .obtain⟨rfl,rfl⟩:=Zy hv;rfl
     .cases hv
  split at h
  .rename_i q' off hx;rw[hx] at ha;simp only[SR] at ha;obtain⟨b,h1,h2⟩:=ha;cases hh:(Qe s.own q').here with
   |false=>rw[hh] at h;cases h
   |true =>rw[hh] at h;obtain rfl:=osj h;obtain⟨x1,y1,y2,y3,y4,y5⟩:=key q' b off (Q15 hh) (by rw[h1];rfl) h2;exact⟨by rw[two];exact x1,y1,y2,by rw[two];exact y3,y4,y5,odd⟩
  .rename_i q' i off sz hx;rw[hx] at ha;simp only[SR] at ha;obtain⟨b,len,cap,h1,h2,h3,h4⟩:=ha;cases hh:(Qe s.own q').here with
   |false=>rw[hh] at h;cases h
   |true =>rw[hh] at h;obtain rfl:=osj h;obtain⟨x1,y1,y2,y3,y4,y5⟩:=key q' b _ (Q15 hh) (by rw[h1];rfl) h4;exact⟨by rw[two];exact x1,y1,y2,by rw[two];exact y3,y4,y5,odd⟩
  .cases h
 .rename_i mk z x y;cases aY:stP mk z with
  |false=>rw[aY] at h;cases h
  |true =>
   rw[aY] at h;simp only[zd] at h;obtain⟨rfl,rfl⟩:=Q9q aY;split at h
   .rename_i q' hx;split at h
    .rename_i kk vk l ho;obtain rfl:=osj h;have ha:=hG.evs (Gds.nil (tb:=tb)) x;rw[hx] at ha;simp only[SR] at ha;have au:=hG.obj q';rw[ho] at au;obtain⟨id,es,c,h2,h3,_⟩:=au;have aH:∀ (Z:Heap) bV c' wr,Z.get id=some (.obj (.map bV c') wr)->Z.mapAt id=some (bV,c',wr):=λZ bV c' wr hτ=>by simp[Heap.mapAt,hτ]
     simp only[Qc,JY,ha.1,h2,aH _ _ _ _ h3] at hv;refine⟨by rw[nw,ho];rfl,id,_,by rw[nw,h2];rfl,h3,λZ hτ=>?_,λ_=>⟨es,c,true,rfl,λZ bV c' hl hτ=>?_⟩⟩
     .simp only[Qc,JY,ha.1,h2,aH _ _ _ _ hτ]
      grind
     .simp only[Qc,JY,ha.1,h2,aH _ _ _ _ hτ];split at hv
      .rename_i eU;split at hv
       .rename_i fh;rw[z2 eU,z2 (hl.1 fh)];have dy:=hl.2 fh _ eU;cases he:Qq (Q5 env y) es with
        |some e =>
         rw[he] at hv dy;obtain⟨rfl,rfl⟩:=Zy hv;cases hm:Qq (Q5 env y) bV with
         |some e'=>rw[hm] at dy;simp only[Z4a] at dy;simp[dy]
         |none=>rw[hm] at dy;simp only[Z4a] at dy;simp[<-dy]
        |none =>
         rw[he] at hv dy;obtain⟨rfl,rfl⟩:=Zy hv;cases hm:Qq (Q5 env y) bV with
         |some e'=>rw[hm] at dy;simp only[Z4a] at dy;simp[dy]
         |none=>rfl
       .cases hv
      .cases hv
    .cases h
   .cases h
 .rename_i sz x lo hi;split at h
  .rename_i q' hx;split at h
   .rename_i ty k xs nl ho;cases nl with
    |true=>cases h
    |false =>
     obtain rfl:=osj h;have ha:=hG.evs (Gds.nil (tb:=tb)) x;rw[hx] at ha;simp only[SR] at ha;have au:=hG.obj q';rw[ho] at au;rcases au with⟨h0,_⟩|⟨_,i,cap,c,t,h3,h4,h5,h6,h7⟩
     .cases h0
     .refine⟨by rw[two,ho];rfl,i,_,by rw[two,h3];rfl,h5,λZ hτ=>?_,odd⟩;simp only[Qc,ha.1,h3] at hv |-;cases e1:Y0 (Q5 env) lo 0 with
      |none=>rw[e1] at hv;cases hv
      |some a =>
       cases e2:Y0 (Q5 env) hi xs.length with
       |none=>rw[e1,e2] at hv;cases hv
       |some b =>
        rw[e1,e2] at hv;simp only[Vz,h5] at hv;simp only[Vz,hτ];split at hv
        .simp_all
        .cases hv
   .cases h
  .cases h
 .cases h
theorem Hs {r:Nat}{U:Heap}:∀ {l:List (Nat×(Heap->Prop))},W2 r U l->∀ {c},c∈l->r<=c.1->c.2 U
 |c::l,h,c',hc,hr=>by
  rcases zK.1 hc with rfl|hc
  .exact h.1 hr
  .exact Hs h.2 hc hr
theorem Hr {B F:Heap}{pl:Nat->Value}{tb:Nat->Option Bool}{s:St}{env:Env}{U:Heap}(hG:Gam P B F pl tb s env U) {gs:List Gd}(hg:Gds tb gs) {o:VOp}(h:Z68 o (gev gs s.env)=true) {u:Value}{σ2:Heap}(hv:Qc o (Q5 env) U=some (u,σ2)) :
  ∀ Z,B.Le Z->Qc o (Q5 env) Z=some (u,Z):=by
 unfold Z68 at h;split at h
 .rename_i agg size a;have ha:=hG.evs hg a;have key:∀ i off,(∃ b,B.get i=some b)->Q5 env a=.pointer (some ⟨i,off,none⟩)->∀ Z,B.Le Z->Qc (.load agg size a) (Q5 env) Z=some (u,Z):=λi off ⟨b,hb⟩ he Z hτ=>by
   simp only[Qc,he,hG.leB.2 _ _ hb] at hv;simp only[Qc,he,hτ.2 _ _ hb]
   grind
  split at h
  .rename_i k l i off hx;rw[hx] at ha;simp only[SR] at ha
   grind
  .rename_i l off hx;rw[hx] at ha;simp only[SR] at ha
   grind
  .cases h
 .cases h
theorem Q9v {C:Cx}{B F:Heap}{pl:Nat->Value}{tb:Nat->Option Bool}{s:St}{env:Env}{U:Heap}(hG:Gam P B F pl tb s env U) {d:Nat}{o:VOp}{K:SV->St->Prop}(h:gn C d o (gev [] s.env) s K) (hc:Q5b o=false) :
  ∃ u U' pl' v s',Qc o (Q5 env) U=some (u,U')/\K v s'/\(Gam P B F pl' tb s' env U'/\Fr (Z2 d o (gev [] s.env)) s s' pl pl' U U')/\SR P B pl' tb v u /\
  (It o=true->(Qe s'.own (Z2 d o (gev [] s.env))).live=true/\pl' (Z2 d o (gev [] s.env))=pl (Z2 d o (gev [] s.env))/\∃ i es c bV c',pl (Z2 d o (gev [] s.env))=.map (some i)/\U.get i=some (.obj (.map es c) true)/\U'.get i=some (.obj (.map bV c') true)/\LkE es bV):=by
 cases he:It o with
 |false =>obtain⟨u,U',pl',v,s',h1,h2,h3,h4⟩:=Z71 hG h hc;exact(by grind)
 |true =>
  unfold It at he;split at he
  .rename_i mk z m kx;obtain⟨rfl,rfl⟩:=Q9q he;obtain⟨u,U',v,s',T,kv,a8,i,es,c,rfl,h1,h2,h3,h4,h5,h6,h7,h8,h9,bM,gb⟩:=Eh (hG.evs (Gds.nil (tb:=tb))) hG h;refine⟨u,U',pl,v,s',h1,h2,h3,h4,λ_=>⟨h5,rfl,i,es,c,_,_,h6,h7,h8,?_⟩⟩;have:a8=Z4a (Qq kv es):=by rw[gb];cases Qq kv es<;>rfl
   rw[this];exact Z0w h9
  .cases he
def JT (S:VSpecs):List DOper->Env->List Heap->Heap->List (Nat×(Heap->Prop))->(Env->Heap->Prop)->Prop
 |[],env,_,U,_,K=>K env U
 |o::rest,env,hs,U,pend,K=>Zc (JV env o.guard) λb =>
   vif b (if o.kind=2 then TP (λR=>vop S o.op env U R) λv U'=>W2 hs.length U' pend/\JT S rest (Wg env o.dst v) (hs++[U']) U' pend K
     else if o.kind=1 then Zc (Qc o.op (Q5 env) U) λp=>(∀ Z∈hs.drop o.kmin,Wp o.op (Q5 env) p.1 Z) /\
      JT S rest (Wg env o.dst p.1) hs U (if hs.length<=o.kmax then (o.kmax,Wp o.op (Q5 env) p.1)::pend else pend) K
     else Zc (Qc o.op (Q5 env) U) λp=>JT S rest (Wg env o.dst p.1) hs U pend K)
    (if o.kind=2 then W2 hs.length U pend/\JT S rest (Wg env o.dst undef) (hs++[U]) U pend K else JT S rest (Wg env o.dst undef) hs U pend K)
theorem A4 {α:Type}{o:Option α}{f g:α->Prop}(h:Zc o f) (kO:∀ a,f a->g a):Zc o g:=by
 cases o with
 |none=>exact h.elim
 |some a=>exact kO a h
theorem Kl {S:VSpecs}{K:Env->Heap->Prop}:∀ {ops:List DOper}{env:Env}{hs:List Heap}{U:Heap}{pend:List (Nat×(Heap->Prop))},JT S ops env hs U pend K->JA S ops env hs U pend K
 |[],_,_,_,_,h=>h
 |o::r,env,hs,U,pend,h=>by
  simp only[JT] at h;simp only[JA];refine A4 h λb h=>⟨λe=>?_,λe=>?_⟩
  .have h:=h.1 e;split at h
   .rename_i hk;rw[z2 hk];obtain⟨v,U',h1,h2,h3⟩:=h;exact .inl ⟨v,U',h1,h2,Kl h3⟩
   .rename_i hk;rw[z0 hk];split at h
    .rename_i bn;rw[z2 bn];exact A4 h λp h=>⟨h.1,Kl h.2⟩
    .rename_i bn;rw[z0 bn];exact A4 h λp h=>Kl h
  .have h:=h.2 e;split at h
   .rename_i hk;rw[z2 hk];exact⟨h.1,Kl h.2⟩
   .rename_i hk;rw[z0 hk];exact Kl h
theorem Qy {C:Cx}(aE:COk P C) (bO:C.xs=[]) {B0 F0 D0:Heap}:∀ (ops:List DOper),(∀ o∈ops,o.kind=o.op.kind)->∀ {s:St}{env:Env}{U:Heap}{B F:Heap}{pl:Nat->Value}{tb:Nat->Option Bool},GBase B0 F0 D0 B F U->Gam P B F pl tb s env U->∀ {hl chg:Nat}{A Rd:List (Nat×Option Nat)}{hs:List Heap}{pend pd:List (Nat×(Heap->Prop))},DSt hs U pd hl chg A Rd s.own pl->(∀ c∈pend,(∀ Z,B.Le Z->c.2 Z)\/c∈pd)->(∀ j Z,hs[j]?=some Z->TG A j=true->B.Le Z)->chg<=hl->0<hl ->
  ∀ {K:St->Prop},Ww C ops s hl chg A Rd K->∀ {R:Env->Heap->Prop},(∀ s' al U',K s'->GRel P B0 F0 D0 s' al U'->R al U')->JT (Q8 P) ops env hs U pend R
 |[],_,s,env,U,B,F,pl,tb,hB,hG,_,_,_,_,_,_,_,_,_,_,_,_,K,h,R,hK=>hK s env U h ⟨B,F,pl,tb,hB,hG⟩
 |o0::r,ij,s,env,U,B,F,pl,tb,hB,hG,hl,chg,A,Rd,hs,pend,pd,hD,hp,bW,dB,bm,K,h,R,hK=>by
  have dZ:∀ {n:Nat}{Z:Heap},B.Le Z->W2 n Z pd->W2 n Z pend:=λ{n Z} hb hv=>VL λc hc hn=>(by grind [Hs]);have snoc:∀ {Z:Heap}{A':List (Nat×Option Nat)},B.Le Z->(∀ j,TG A' j=true->TG A j=true)->∀ j Z',(hs++[Z])[j]?=some Z'->TG A' j=true->B.Le Z':=(by grind);have bX:∀ o∈r,o.kind=o.op.kind:=(by simp_all);have kP:=ij o0 zz;unfold Ww at h;split at h
  .rename_i aY;have hw:=UM hG aY;simp only[JT];rw[hw];refine⟨λe=>(by cases e),λ_=>?_⟩;have a_:=hG.put o0.dst (show SR P B pl tb .any undef by simp[SR]);by_cases aC:o0.kind=2
   .rw[z2 aC] at h |-;obtain⟨k1,k2⟩:=hD.stay;exact⟨dZ hG.leB k1,Qy aE bO r bX hB a_ (by rw[ZL];exact k2) hp (snoc hG.leB λ_ h=>h) (by omega) (by omega) h hK⟩
   .rw[z0 aC] at h |-;exact Qy aE bO r bX hB a_ (by rw[ZL];exact hD) hp bW dB bm h hK
  have bG:(Q5q s.env o0).kind=(Q5q s.env o0).op.kind:=by unfold Q5q;split<;>exact kP
  have cf:JT (Q8 P) (Q5q s.env o0::r) env hs U pend R->JT (Q8 P) (o0::r) env hs U pend R:=λhv=>by
   unfold Q5q at hv;split at hv
   .rename_i aY;simp only[JT] at hv |-;rw[UM hG aY];exact hv
   .exact hv
  refine cf ?_;clear cf;generalize Q5q s.env o0=o at h bG |-
  replace h:=id h
  simp only[JT];by_cases aC:o.kind=2
  .rw[z2 aC] at h
   have fin:∀ {u:Value}{U':Heap}{ts:List Nat}{v:SV}{s':St}{pl':Nat->Value},(∀ R',R' u U'->vop (Q8 P) o.op env U R')->Ww C r (s'.put o.dst v) (hl+1) (bif ts.isEmpty then chg else hl) (ts.map (λt=>(hl-1,some t))++A) (bif ts.isEmpty then Rd else Rd.map λr=>(r.1,none)) K->Gam P B F pl' tb s' env U'->SR P B pl' tb v u->(ts=[]->U'=U/\pl'=pl/\s'=s)->U.Le U'->Dead U U'->FrL ts s s' pl pl' U U' ->
     TP (λR=>vop (Q8 P) o.op env U R) λv U'=>W2 hs.length U' pend/\JT (Q8 P) r (Wg env o.dst v) (hs++[U']) U' pend R:=λ{u U' ts v s' pl'} bC ny bc iN he hle hd dz=>by
    cases ts with
    |nil =>obtain⟨rfl,rfl,rfl⟩:=he rfl;obtain⟨k1,k2⟩:=hD.stay;exact⟨u,U',bC _ ⟨rfl,rfl⟩,dZ bc.leB k1,Qy aE bO r bX (P8 hB hd) (bc.put o.dst iN) (by rw[ZL];exact k2) hp (snoc bc.leB λ_ h=>h) (by grind) (by omega) ny hK⟩
    |cons t ts =>obtain⟨k1,k2⟩:=hD.call hle dz bm;exact⟨u,U',bC _ ⟨rfl,rfl⟩,dZ bc.leB k1,Qy aE bO r bX (P8 hB hd) (bc.put o.dst iN) (by rw[ZL];exact k2) hp (snoc bc.leB λ_ h=>C9 h) (by simp_all) (by omega) ny hK⟩
   split at h
   .rename_i f args bC;split at h
    .rename_i hg;rw[hg];refine⟨λ_=>?_,λe=>by cases e⟩;rw[z2 aC];rw[bO] at h;simp only[Qw] at h;obtain⟨g,a,b,u,U',e,v,s',pl',h1,h2,h3,h4,h5,h6,h7,h8,h9⟩:=Y8 aE hG h (show SR P U X1 ZU (.fn f [] []) (.func (.func f) #[] #[]) by simp only[SR,SRs];exact⟨[],[],rfl,rfl,rfl⟩) (hG.gcall Gds.nil args);obtain⟨rfl,rfl,rfl⟩:=(by simpa using h1:f=g/\#[]=a/\#[]=b);refine fin (u:=u) (U':=U') (λR' hr=>?_) h3 h4 h5 h6 h7 h8 h9;rw[bC];show VCalled P f (args.map (Q5 env)) U R';have:=h2.mono (R':=R') (by simp_all);simpa using this
    .rename_i j want hg;rw[hg];split at h
     .exact h.elim
     .rename_i gs s1 dS;obtain⟨tb',bc,cR,b,hw,bF,bh⟩:=Y5 hG dS;have aR:=Ub dS;rw[hw];split at h
      .rename_i cs v dq;cases c_:NU v with
       |false=>rw[c_] at h;exact h.elim
       |true =>
       rw[c_] at h;simp only[zd] at h;obtain⟨h1,h2⟩:=ZT h;obtain⟨k1,k2⟩:=hD.stay;have kJ:∀ x,DSt (hs++[U]) U pd (hl+1) chg A Rd (s1.put o.dst x).own pl:=(by grind [ZL]);refine⟨λe=>?_,λe=>?_⟩
       .rw[z2 aC];have gd:Gds tb' gs:=λg hg=>⟨bF e g hg,cR g hg⟩;have kQ:∀ {v u},SR P B pl tb' v u->SR P B pl tb' (.grd gs (RE v)) u:=λ{v u} hs=>by
         simp only[SR]
         grind [LQ]
        simp only[gqc] at dq;split at dq
        .rename_i c v' heq;cases b9:v'.ret 0 with
         |false=>rw[b9] at dq;cases dq
         |true =>
          rw[b9] at dq;obtain⟨rfl,rfl⟩:=Zy dq;obtain⟨g,a,b',h3,h4,_⟩:=Jl aE.cs (show SR P U X1 ZU (.fn f [] []) (.func (.func f) #[] #[]) by simp only[SR,SRs];exact⟨[],[],rfl,rfl,rfl⟩) (bc.gcall gd args) heq b9 rfl (h2 (bF e) _ (by simp));obtain⟨rfl,rfl,rfl⟩:=(by simpa using h3:f=g/\#[]=a/\#[]=b');refine⟨NM X1 v',U,?_,dZ hG.leB k1,Qy aE bO r bX hB (bc.put o.dst (kQ ?_)) (kJ _) hp (snoc hG.leB λ_ h=>h) (by omega) (by omega) (ZN h1) hK⟩
          .rw[bC];show VCalled P f (args.map (Q5 env)) U _;have:=h4.mono (R':=λu U'=>u=NM X1 v'/\U'=U) λu U' hr=>by
            obtain⟨rfl,hu⟩:=hr.flat b9
            grind [Mz]
           simpa using this
          .exact SR.retd (λj hj=>by omega) _ _ b9 (OZ (P:=P) (pl:=X1) (m:=0) (λj hj=>by omega) v' b9 c_)
        .cases dq
       .rw[z2 aC];obtain⟨g,gy,aK⟩:=bh e;exact⟨dZ hG.leB k1,Qy aE bO r bX hB (bc.put o.dst (by simp only[SR];exact⟨⟨cR,C8 v⟩,λhall=>absurd (hall g gy) aK,λ_=>trivial⟩)) (kJ _) hp (snoc hG.leB λ_ h=>h) (by omega) (by omega) (ZN h1) hK⟩
      .split at h
       .rename_i cs v jR;obtain⟨c,ty,k,xs,nl,heq,rfl,rfl,hk,fv⟩:=Im jR;obtain⟨h1,h2⟩:=ZT h;have frz:∀ {B' U':Heap},B'.Le U'->∀ j Z',(hs++[U'])[j]?=some Z'->TG ((hl-1,none)::A) j=true->B'.Le Z':=λ{B' U'} hb j Z' hm hn=>by
         rcases XZ hm with⟨h1,_⟩|⟨_,rfl⟩
         .simp only[TG,zM,z1,zp,zy,Option.isSome_none,zk,or_false] at hn;have:=hD.len;omega
         .exact hb
        refine⟨λe=>?_,λe=>?_⟩
        .rw[z2 aC];have gd:Gds tb' gs:=λg hg=>⟨bF e g hg,cR g hg⟩;have eU:=h2 (bF e) c (by simp);have fh:=h2 (bF e) (nl=true->xs=[]) (by simp);have dS:Pj C (C.off+o.dst.getD 0) (.fn f [] []) (RF s1.own (args.map (gev gs s1.env))) s1 (λts v' s'=>ts=[C.off+o.dst.getD 0]/\v'=.lst (C.off+o.dst.getD 0)/\s'=s1.make (C.off+o.dst.getD 0) (.lst ty k xs nl)):=by
          unfold Pj;rw[heq];dsimp only;have ah:(SV.ret [OB.lst ty k xs nl].length (.lst 0)&&([OB.lst ty k xs nl].all OB.ret&&(Nat.blt 0 C.nt&&([OB.lst ty k xs nl].all OB.isL&&NU (.lst 0)))))=true:=by
           simp only[SV.ret,xm,zM,List.all_nil,xM,OB.ret,hk,Bool.true_and,OB.isL,NU];rw[z1]
           grind [Nat.blt_eq]
          rw[ah];simp only[zd,Q9y,OB.wf];refine⟨eU,fh,?_,?_,?_⟩
          .simp[List.range_succ]
          .simp[SV.ren]
          .simp[St.makes]
         obtain⟨g,a,b',u,U',ts,v',s',pl',h3,h4,⟨rfl,rfl,rfl⟩,h5,h6,_,h7,h8,h9⟩:=Y8 aE bc dS (show SR P U X1 ZU (.fn f [] []) (.func (.func f) #[] #[]) by simp only[SR,SRs];exact⟨[],[],rfl,rfl,rfl⟩) (bc.gcall gd args);obtain⟨rfl,rfl,rfl⟩:=(by simpa using h3:f=g/\#[]=a/\#[]=b');obtain⟨B',F',m1,m2,m3⟩:=OT bc.bf hk h5 h6 h8;have dz:FrL [C.off+o.dst.getD 0] s ((s1.make (C.off+o.dst.getD 0) .dead).put o.dst (.grd gs (.val (.list k) xs))) pl pl' U U':=λq hq=>by
          obtain⟨f1,f2,f3⟩:=h9 q hq
          grind [ZL,MI]
         obtain⟨k1,k2⟩:=hD.call h7 dz bm;refine⟨u,U',?_,dZ (m1.b.trans m2.leB) k1,Qy aE bO r bX (hB.trans m1) (m2.put o.dst ?_) k2.frozen (λc hc=>(hp c hc).imp (λh Z hτ=>h Z (m1.b.trans hτ)) id) (frz m2.leB) (by omega) (by omega) h1 hK⟩
         .rw[bC];show VCalled P f (args.map (Q5 env)) U _;simpa using h4
         .simp only[SR];exact⟨⟨cR,trivial⟩,λ_=>m3,(by grind)⟩
        .rw[z2 aC];obtain⟨g,gy,aK⟩:=bh e;have dz:FrL [C.off+o.dst.getD 0] s ((s1.make (C.off+o.dst.getD 0) .dead).put o.dst (.grd gs (.val (.list k) xs))) pl (Xd pl (C.off+o.dst.getD 0) undef) U U:=λq hq=>by
          have cz:q≠C.off+o.dst.getD 0:=by simpa using hq
          refine⟨?_,by simp[Xd,cz],λ_ _ _=>rfl⟩;rw[ZL,MI _ _ _ cz,aR]
         obtain⟨k1,k2⟩:=hD.call (.refl U) dz bm;refine⟨dZ hG.leB k1,Qy aE bO r bX hB ((bc.make (C.off+o.dst.getD 0) .dead undef bc.le (λ_ _ _ _ _=>rfl) trivial (λi hl _=>by cases hl)).put o.dst ?_) k2.frozen hp (frz hG.leB) (by omega) (by omega) h1 hK⟩;simp only[SR];exact⟨⟨cR,trivial⟩,λhall=>absurd (hall g gy) aK,λ_=>trivial⟩
       .exact h.elim
   .rename_i f args bC;split at h
    .rename_i hg;rw[hg];refine⟨λ_=>?_,λe=>by cases e⟩;rw[z2 aC];obtain⟨g,a,b,u,U',e,v,s',pl',h1,h2,h3,h4,h5,h6,h7,h8,h9⟩:=Y8 aE hG h (hG.gfun Gds.nil f) (hG.gcall Gds.nil args);refine fin (u:=u) (U':=U') (λR' hr=>?_) h3 h4 h5 h6 h7 h8 h9;rw[bC];exact Hg h1 (h2.mono (R':=R') (by simp_all))
    .exact h.elim
   .exact h.elim
   .exact h.elim
   .rename_i nz oy qg jl;split at h
    .rename_i hg;rw[hg];refine⟨λ_=>?_,λe=>by cases e⟩;rw[z2 aC];have aJ:Q5b o.op=false:=by
      cases ho:o.op<;>first|rfl|(exact absurd ho (nz _ _))|(exact absurd ho (oy _ _))|skip
      case ext x=>cases x<;>first|rfl|(exact absurd ho (qg _))|(exact absurd ho (jl _))
     cases jQ:Q23 C (o.dst.getD 0) o.op (gev [] s.env) with
     |true =>
      rw[jQ] at h;simp only[zd] at h;cases hm:Q5z (An o.op) Rd hl (Q1h (C.off+o.dst.getD 0) o.op (gev [] s.env)) with
      |false=>rw[hm] at h;exact h.elim
      |true =>
       rw[hm] at h;simp only[zd] at h;obtain⟨u,U',pl',v,s',h1,h2,⟨h3,iM⟩,h4⟩:=Cy (λx=>hG.evs (Gds.nil (tb:=tb)) x) hG h;have fM:∀ R',R' u U'->vop (Q8 P) o.op env U R':=λR' hr=>by
        have:vop (Q8 P) o.op env U R'=Zc (Qc o.op (Q5 env) U) λp=>R' p.1 p.2:=by
         cases ho:o.op with
         |callF f a=>rw[ho] at aJ;cases aJ
         |callV f a=>rw[ho] at aJ;cases aJ
         |ext x =>
          cases x with
          |nextMap y=>rw[ho] at h1;cases h1
          |_=>rfl
         |_=>rfl
        rw[this,h1];exact hr
       obtain⟨k1,k2⟩:=hD.writeD iM (λbQ=>OM bQ h1) hm bm;exact⟨u,U',fM _ ⟨rfl,rfl⟩,dZ h3.leB k1,Qy aE bO r bX (P8 hB (Uj h1)) (h3.put o.dst h4) (by rw[ZL];exact k2) hp (snoc h3.leB λ_ h=>C9 h) (by omega) (by omega) h2 hK⟩
     |false =>
     rw[jQ] at h;simp only[zI] at h;cases hm:((An o.op&&Q0c Rd hl (Z2 (C.off+o.dst.getD 0) o.op (gev [] s.env)))||Ik Rd hl (Z2 (C.off+o.dst.getD 0) o.op (gev [] s.env))||(It o.op&&Z67 Rd hl (Z2 (C.off+o.dst.getD 0) o.op (gev [] s.env)))) with
     |false=>rw[hm] at h;exact h.elim
     |true =>
      rw[hm] at h;simp only[zd] at h;obtain⟨u,U',pl',v,s',h1,h2,⟨h3,iM⟩,h4,hE⟩:=Q9v hG h aJ;have fM:∀ R',R' u U'->vop (Q8 P) o.op env U R':=λR' hr=>by
       have:vop (Q8 P) o.op env U R'=Zc (Qc o.op (Q5 env) U) λp=>R' p.1 p.2:=by
        cases ho:o.op with
        |callF f a=>rw[ho] at aJ;cases aJ
        |callV f a=>rw[ho] at aJ;cases aJ
        |ext x =>
         cases x with
         |nextMap y=>rw[ho] at h1;cases h1
         |_=>rfl
        |_=>rfl
       rw[this,h1];exact hr
      obtain⟨k1,k2⟩:=hD.write iM (λbQ=>OM bQ h1) hE hm bm;exact⟨u,U',fM _ ⟨rfl,rfl⟩,dZ h3.leB k1,Qy aE bO r bX (P8 hB (Uj h1)) (h3.put o.dst h4) (by rw[ZL];exact k2) hp (snoc h3.leB λ_ h=>CU h) (by omega) (by omega) h2 hK⟩
    .exact h.elim
  .rw[z0 aC] at h;have kR:o.op.kind≠2:=by rw[<-bG];exact aC
   by_cases bn:o.kind=1
   .rw[z2 bn] at h
    have rd:∀ (rq:Option Nat),(∀ q,rq=some q->Bw o.op (gev [] s.env) s.own=some q)->(Nat.ble chg o.kmin||AM A o.kmin rq)=true->gd1 C o s (λs'=>Ww C r s' hl chg A ((o.kmax,rq)::Rd) K) ->
      Zc (JV env o.guard) λb=>vif b (if o.kind=2 then TP (λR=>vop (Q8 P) o.op env U R) λv U'=>W2 hs.length U' pend/\JT (Q8 P) r (Wg env o.dst v) (hs++[U']) U' pend R
       else if o.kind=1 then Zc (Qc o.op (Q5 env) U) λp=>(∀ Z∈hs.drop o.kmin,Wp o.op (Q5 env) p.1 Z) /\
        JT (Q8 P) r (Wg env o.dst p.1) hs U (if hs.length<=o.kmax then (o.kmax,Wp o.op (Q5 env) p.1)::pend else pend) R
       else Zc (Qc o.op (Q5 env) U) λp=>JT (Q8 P) r (Wg env o.dst p.1) hs U pend R)
      (if o.kind=2 then W2 hs.length U pend/\JT (Q8 P) r (Wg env o.dst undef) (hs++[U]) U pend R else JT (Q8 P) r (Wg env o.dst undef) hs U pend R):=λrq nB hc h=>by
     obtain⟨b,hw,h1,h2⟩:=M6 hG h;rw[hw];have kS:DSt hs U pd hl chg A ((o.kmax,rq)::Rd) s.own pl:=⟨hD.len,hD.same,λc hc=>(hD.pend c hc).imp id (by simp_all),hD.fr⟩;refine⟨λe=>?_,λe=>?_⟩
     .obtain⟨u,s',tb',h3,h4,aR,h5⟩:=h1 e;rw[z0 aC,z2 bn,h3];refine⟨λZ hτ=>?_,?_⟩
      .obtain⟨j,hj⟩:=zZ.1 hτ;rw[zV] at hj;rw[zp] at hc;rcases hc with hc|hc
       .have:=hD.same (o.kmin+j) Z (by have:=xQ hc;omega) hj;subst this;exact Ji h3
       .unfold AM at hc;split at hc
        .rename_i q;obtain⟨k1,i,bl,k2,k3,k4,k5⟩:=U9 hG (nB q rfl) h3;have hu:ZM A (o.kmin+j) (q / 2)=true:=by
          simp only[ZM,zg,zp,zy] at hc |-
          grind
         have:=hD.fr (o.kmin+j) Z (q / 2) i hj hu k1 k2
         grind [Ji]
        .cases hc
      .by_cases hle:hs.length<=o.kmax
       .rw[z2 hle];refine Qy aE bO r bX hB h5 (A:=A) (Rd:=(o.kmax,rq)::Rd) (hl:=hl) (chg:=chg) (pd:=(o.kmax,Wp o.op (Q5 env) u)::pd) ?_ (λc hc=>?_) bW dB bm h4 hK
        .rw[aR];refine⟨hD.len,hD.same,λc hc=>?_,hD.fr⟩;rcases zK.1 hc with rfl|hc
         .refine .inr ⟨_,zz,z5 _,?_⟩;cases rq with
          |none=>exactλZ hτ=>Ji (AD kR h3 hτ)
          |some q =>obtain⟨k1,i,bl,k2,k3,k4,k5⟩:=U9 hG (nB q rfl) h3;exact⟨k1,i,bl,k2,k3,λZ ht=>Ji (k4 Z ht),(by grind [Ji])⟩
         .exact kS.pend c hc
        grind
       .rw[z0 hle];exact Qy aE bO r bX hB h5 (A:=A) (Rd:=(o.kmax,rq)::Rd) (hl:=hl) (chg:=chg) (pd:=pd) (by rw[aR];exact kS) hp bW dB bm h4 hK
     .obtain⟨s',tb',h4,aR,h5⟩:=h2 e;rw[z0 aC];exact Qy aE bO r bX hB h5 (by rw[aR];exact kS) hp bW dB bm h4 hK
    have ro:TG A o.kmin=true->(∀ u,Qc o.op (Q5 env) U=some (u,U)->(JV env o.guard=some true)->∀ Z,B.Le Z->Qc o.op (Q5 env) Z=some (u,Z))->gd1 C o s (λs'=>Ww C r s' hl chg A Rd K) ->
      Zc (JV env o.guard) λb=>vif b (if o.kind=2 then TP (λR=>vop (Q8 P) o.op env U R) λv U'=>W2 hs.length U' pend/\JT (Q8 P) r (Wg env o.dst v) (hs++[U']) U' pend R
       else if o.kind=1 then Zc (Qc o.op (Q5 env) U) λp=>(∀ Z∈hs.drop o.kmin,Wp o.op (Q5 env) p.1 Z) /\
        JT (Q8 P) r (Wg env o.dst p.1) hs U (if hs.length<=o.kmax then (o.kmax,Wp o.op (Q5 env) p.1)::pend else pend) R
       else Zc (Qc o.op (Q5 env) U) λp=>JT (Q8 P) r (Wg env o.dst p.1) hs U pend R)
      (if o.kind=2 then W2 hs.length U pend/\JT (Q8 P) r (Wg env o.dst undef) (hs++[U]) U pend R else JT (Q8 P) r (Wg env o.dst undef) hs U pend R):=λkT bY h=>by
     obtain⟨b,hw,h1,h2⟩:=M6 hG h;rw[hw];refine⟨λe=>?_,λe=>?_⟩
     .obtain⟨u,s',tb',h3,h4,aR,h5⟩:=h1 e;have bY:=bY u h3 (by rw[hw,e]);rw[z0 aC,z2 bn,h3];refine⟨λZ hτ=>?_,?_⟩
      .obtain⟨j,hj⟩:=zZ.1 hτ;rw[zV] at hj;refine Ji (bY Z (bW _ Z hj ?_));simp only[TG,zg,zp,zy] at kT |-
       grind
      refine Qy aE bO r bX hB h5 (A:=A) (Rd:=Rd) (hl:=hl) (chg:=chg) (pd:=pd) (by rw[aR];exact hD) (λc hc=>?_) bW dB bm h4 hK;split at hc
      .rcases zK.1 hc with rfl|hc
       .grind [Ji]
       .exact hp c hc
      .exact hp c hc
     .obtain⟨s',tb',h4,aR,h5⟩:=h2 e;rw[z0 aC];exact Qy aE bO r bX hB h5 (by rw[aR];exact hD) hp bW dB bm h4 hK
    split at h
    .rename_i hg;cases hr:(Z68 o.op (gev [] s.env)&&TG A o.kmin) with
     |true =>rw[hr] at h;rw[z1] at hr;exact ro hr.2 (λu hu _=>Hr hG Gds.nil hr.1 hu) h
     |false =>
     rw[hr] at h;simp only[zI] at h;cases hb:(Nat.ble chg o.kmin||AM A o.kmin (Bw o.op (gev [] s.env) s.own)) with
     |false=>rw[hb] at h;exact h.elim
     |true =>rw[hb] at h;exact rd _ (λq hq=>hq) hb h
    .rename_i j want hg;cases hr:(Z03 s j want o.op&&TG A o.kmin) with
     |true =>
      rw[hr] at h;rw[z1] at hr;obtain⟨hr,kT⟩:=hr;refine ro kT (λu hu hw=>?_) h;unfold Z03 at hr;split at hr
      .rename_i gs s1 dS;obtain⟨tb',bc,cR,b,je,bF,bh⟩:=Y5 hG dS;rw[hg,je] at hw;have e:=osj hw;exact Hr bc (λg hg=>⟨bF e g hg,cR g hg⟩) hr hu
      .cases hr
     |false =>
     rw[hr] at h;simp only[zI] at h;cases hb:Nat.ble chg o.kmin with
     |false=>rw[hb] at h;exact h.elim
     |true =>rw[hb] at h;exact rd none (λq hq=>by cases hq) (by rw[hb];rfl) h
   .rw[z0 bn] at h;obtain⟨b,hw,h1,h2⟩:=M6 hG h;rw[hw];refine⟨λe=>?_,λe=>?_⟩
    .obtain⟨u,s',tb',h3,h4,aR,h5⟩:=h1 e;rw[z0 aC,z0 bn,h3];exact Qy aE bO r bX hB h5 (by rw[aR];exact hD) hp bW dB bm h4 hK
    .obtain⟨s',tb',h4,aR,h5⟩:=h2 e;rw[z0 aC];exact Qy aE bO r bX hB h5 (by rw[aR];exact hD) hp bW dB bm h4 hK
theorem Qz {C:Cx}(aE:COk P C) {B0 F0 D0:Heap}:∀ (ops:List DOper),(∀ o∈ops,o.kind=o.op.kind)->∀ {s:St}{env:Env}{U:Heap}{B F:Heap}{pl:Nat->Value}{tb:Nat->Option Bool},GBase B0 F0 D0 B F U->Gam P B F pl tb s env U->∀ {hl chg:Nat}{A Rd:List (Nat×Option Nat)}{hs:List Heap}{pend pd:List (Nat×(Heap->Prop))},DSt hs U pd hl chg A Rd s.own pl->(∀ c∈pend,(∀ Z,B.Le Z->c.2 Z)\/c∈pd)->(∀ j Z,hs[j]?=some Z->TG A j=true->B.Le Z)->chg<=hl->0<hl ->
  ∀ {K:St->Prop},Ww C ops s hl chg A Rd K->∀ {R:Env->Heap->Prop},(∀ s' al U',K s'->GRel P B0 F0 D0 s' al U'->R al U')->JA (Q8 P) ops env hs U pend R
 |[],_,s,env,U,B,F,pl,tb,hB,hG,_,_,_,_,_,_,_,_,_,_,_,_,K,h,R,hK=>hK s env U h ⟨B,F,pl,tb,hB,hG⟩
 |o0::r,ij,s,env,U,B,F,pl,tb,hB,hG,hl,chg,A,Rd,hs,pend,pd,hD,hp,bW,dB,bm,K,h,R,hK=>by
  have dZ:∀ {n:Nat}{Z:Heap},B.Le Z->W2 n Z pd->W2 n Z pend:=λ{n Z} hb hv=>VL λc hc hn=>(by grind [Hs]);have snoc:∀ {Z:Heap}{A':List (Nat×Option Nat)},B.Le Z->(∀ j,TG A' j=true->TG A j=true)->∀ j Z',(hs++[Z])[j]?=some Z'->TG A' j=true->B.Le Z':=(by grind);have bX:∀ o∈r,o.kind=o.op.kind:=(by simp_all);have kP:=ij o0 zz;unfold Ww at h;split at h
  .rename_i aY;have hw:=UM hG aY;simp only[JA];rw[hw];refine⟨λe=>(by cases e),λ_=>?_⟩;have a_:=hG.put o0.dst (show SR P B pl tb .any undef by simp[SR]);by_cases aC:o0.kind=2
   .rw[z2 aC] at h |-;obtain⟨k1,k2⟩:=hD.stay;exact⟨dZ hG.leB k1,Qz aE r bX hB a_ (by rw[ZL];exact k2) hp (snoc hG.leB λ_ h=>h) (by omega) (by omega) h hK⟩
   .rw[z0 aC] at h |-;exact Qz aE r bX hB a_ (by rw[ZL];exact hD) hp bW dB bm h hK
  have bG:(Q5q s.env o0).kind=(Q5q s.env o0).op.kind:=by unfold Q5q;split<;>exact kP
  have cf:JA (Q8 P) (Q5q s.env o0::r) env hs U pend R->JA (Q8 P) (o0::r) env hs U pend R:=λhv=>by
   unfold Q5q at hv;split at hv
   .rename_i aY;simp only[JA] at hv |-;rw[UM hG aY];exact hv
   .exact hv
  refine cf ?_;clear cf;generalize Q5q s.env o0=o at h bG |-
  replace h:=id h
  simp only[JA];by_cases aC:o.kind=2
  .rw[z2 aC] at h
   have fin:∀ {u:Value}{U':Heap}{ts:List Nat}{v:SV}{s':St}{pl':Nat->Value},(∀ R',R' u U'->vop (Q8 P) o.op env U R')->Ww C r (s'.put o.dst v) (hl+1) (bif ts.isEmpty then chg else hl) (ts.map (λt=>(hl-1,some t))++A) (bif ts.isEmpty then Rd else Rd.map λr=>(r.1,none)) K->Gam P B F pl' tb s' env U'->SR P B pl' tb v u->(ts=[]->U'=U/\pl'=pl/\s'=s)->U.Le U'->Dead U U'->FrL ts s s' pl pl' U U' ->
     TP (λR=>vop (Q8 P) o.op env U R) λv U'=>W2 hs.length U' pend/\JA (Q8 P) r (Wg env o.dst v) (hs++[U']) U' pend R:=λ{u U' ts v s' pl'} bC ny bc iN he hle hd dz=>by
    cases ts with
    |nil =>obtain⟨rfl,rfl,rfl⟩:=he rfl;obtain⟨k1,k2⟩:=hD.stay;exact⟨u,U',bC _ ⟨rfl,rfl⟩,dZ bc.leB k1,Qz aE r bX (P8 hB hd) (bc.put o.dst iN) (by rw[ZL];exact k2) hp (snoc bc.leB λ_ h=>h) (by grind) (by omega) ny hK⟩
    |cons t ts =>obtain⟨k1,k2⟩:=hD.call hle dz bm;exact⟨u,U',bC _ ⟨rfl,rfl⟩,dZ bc.leB k1,Qz aE r bX (P8 hB hd) (bc.put o.dst iN) (by rw[ZL];exact k2) hp (snoc bc.leB λ_ h=>C9 h) (by simp_all) (by omega) ny hK⟩
   split at h
   .rename_i f args bC;split at h
    .rename_i hg;rw[hg];refine⟨λ_=>?_,λe=>by cases e⟩;rw[z2 aC]
     have nC:∀ {K':List Nat->SV->St->Prop},Pj C (C.off+o.dst.getD 0) (.fn f [] []) (RF s.own (args.map (gev [] s.env))) s K'->(∀ ts v s',K' ts v s'->Ww C r (s'.put o.dst v) (hl+1) (bif ts.isEmpty then chg else hl) (ts.map (λt=>(hl-1,some t))++A) (bif ts.isEmpty then Rd else Rd.map λr=>(r.1,none)) K) ->
       TP (λR=>vop (Q8 P) o.op env U R) λv U'=>W2 hs.length U' pend/\JA (Q8 P) r (Wg env o.dst v) (hs++[U']) U' pend R:=λ{K'} h qh=>by
      obtain⟨g,a,b,u,U',e,v,s',pl',h1,h2,h3,h4,h5,h6,h7,h8,h9⟩:=Y8 aE hG h (show SR P U X1 ZU (.fn f [] []) (.func (.func f) #[] #[]) by simp only[SR,SRs];exact⟨[],[],rfl,rfl,rfl⟩) (hG.gcall Gds.nil args);obtain⟨rfl,rfl,rfl⟩:=(by simpa using h1:f=g/\#[]=a/\#[]=b);refine fin (u:=u) (U':=U') (λR' hr=>?_) (qh _ _ _ h3) h4 h5 h6 h7 h8 h9;rw[bC];show VCalled P f (args.map (Q5 env)) U R';have:=h2.mono (R':=R') (by simp_all);simpa using this
     split at h
     .rename_i x hx;split at h
      .rename_i jf ub;split at h
       .rename_i tt qj;cases gH:(waits o.dst.toList r&&Q5z false Rd hl [tt]) with
        |false=>rw[gH] at h;exact h.elim
        |true =>rw[gH] at h;simp only[zd] at h;rw[z1] at gH;refine .inr ⟨gH.1,?_⟩;rw[bC];show VCalled P f (args.map (Q5 env)) U _;refine aE.xf f jf ub x hx B F pl tb s env U _ _ _ _ _ tt hG (SRs.map λx _=>hG.evs Gds.nil x) qj h λv s' u U' k1 k2 k3 k4 k5=>?_;obtain⟨q1,q2⟩:=hD.writeD k5 (mk:=false) (λh=>by cases h) gH.2 bm;exact⟨dZ k3.leB q1,Qz aE r bX (P8 hB k2) (k3.put o.dst k4) (by rw[ZL];exact q2) hp (snoc k3.leB λ_ h=>CU h) (by omega) (by omega) k1 hK⟩
       .exact h.elim
      .cases gH:(waits o.dst.toList r&&Rd.all (λq=>Nat.blt q.1 hl)) with
       |false=>rw[gH] at h;simp only[zI] at h;exact .inl (nC h λ_ _ _ h=>h)
       |true =>
        rw[gH] at h;simp only[zd] at h;rw[z1] at gH;refine .inr ⟨gH.1,?_⟩;rw[bC];show VCalled P f (args.map (Q5 env)) U _;have az:∀ args:List Operand,SRs P B pl tb (args.map (gev [] s.env)) (args.map (Q5 env)):=λargs=>SRs.map λx _=>hG.evs Gds.nil x;refine aE.xs f x hx B F pl tb s env U _ _ _ _ _ hG (az args) h λv s' B' F' pl' tb' u U' k1 k2 k3 k4=>?_;have hall:∀ c∈pd,c.1<hl:=λc hc=>by
         rcases hD.pend c hc with h1|⟨q,h1,h2,_⟩
         .exact h1
         grind [List.all_eq_true,Nat.blt_eq]
        have jG:W2 hs.length U' pd:=VL λc hc hle=>by have:=hall c hc;have:=hD.len;omega
        have qk:W2 hs.length U' pend:=VL λc hc hn=>(hp c hc).elim (λh=>h U' (k2.b.trans k3.leB)) λh=>Hs jG h hn;refine⟨qk,Qz aE r bX (hB.trans k2) (k3.put o.dst k4) (pd:=pd) ⟨by simp[hD.len],λj Z hj ht=>?_,(by grind),λj Z q i ht hu cF hi=>?_⟩ (λc hc=>(hp c hc).imp (λh Z hτ=>h Z (k2.b.trans hτ)) id) (λj Z ht hn=>?_) (by omega) (by omega) k1 hK⟩
        .rcases XZ ht with⟨h1,_⟩|⟨_,h1⟩
         .rw[hD.len] at h1;omega
         .exact h1
        .rcases XZ ht with⟨h1,_⟩|⟨_,h1⟩
         .exfalso;rw[hD.len] at h1;simp only[ZM,zM,z1,zp,zy,zk,or_false] at hu;omega
         .rw[h1]
        .rcases XZ ht with⟨h1,_⟩|⟨_,h1⟩
         .exfalso;rw[hD.len] at h1;simp only[TG,zM,z1,zp,zy,Option.isSome_none,zk,or_false] at hn;omega
         .rw[h1];exact k3.leB
     .exact .inl (nC h λ_ _ _ h=>h)
    .rename_i j want hg;rw[hg];split at h
     .exact h.elim
     .rename_i gs s1 dS;obtain⟨tb',bc,cR,b,hw,bF,bh⟩:=Y5 hG dS;have aR:=Ub dS;rw[hw];split at h
      .rename_i cs v dq;cases c_:NU v with
       |false=>rw[c_] at h;exact h.elim
       |true =>
       rw[c_] at h;simp only[zd] at h;obtain⟨h1,h2⟩:=ZT h;obtain⟨k1,k2⟩:=hD.stay;have kJ:∀ x,DSt (hs++[U]) U pd (hl+1) chg A Rd (s1.put o.dst x).own pl:=(by grind [ZL]);refine⟨λe=>?_,λe=>?_⟩
       .rw[z2 aC];have gd:Gds tb' gs:=λg hg=>⟨bF e g hg,cR g hg⟩;have kQ:∀ {v u},SR P B pl tb' v u->SR P B pl tb' (.grd gs (RE v)) u:=λ{v u} hs=>by
         simp only[SR]
         grind [LQ]
        simp only[gqc] at dq;split at dq
        .rename_i c v' heq;cases b9:v'.ret 0 with
         |false=>rw[b9] at dq;cases dq
         |true =>
          rw[b9] at dq;obtain⟨rfl,rfl⟩:=Zy dq;obtain⟨g,a,b',h3,h4,_⟩:=Jl aE.cs (show SR P U X1 ZU (.fn f [] []) (.func (.func f) #[] #[]) by simp only[SR,SRs];exact⟨[],[],rfl,rfl,rfl⟩) (bc.gcall gd args) heq b9 rfl (h2 (bF e) _ (by simp));obtain⟨rfl,rfl,rfl⟩:=(by simpa using h3:f=g/\#[]=a/\#[]=b');refine .inl ⟨NM X1 v',U,?_,dZ hG.leB k1,Qz aE r bX hB (bc.put o.dst (kQ ?_)) (kJ _) hp (snoc hG.leB λ_ h=>h) (by omega) (by omega) (ZN h1) hK⟩
          .rw[bC];show VCalled P f (args.map (Q5 env)) U _;have:=h4.mono (R':=λu U'=>u=NM X1 v'/\U'=U) λu U' hr=>by
            obtain⟨rfl,hu⟩:=hr.flat b9
            grind [Mz]
           simpa using this
          .exact SR.retd (λj hj=>by omega) _ _ b9 (OZ (P:=P) (pl:=X1) (m:=0) (λj hj=>by omega) v' b9 c_)
        .cases dq
       .rw[z2 aC];obtain⟨g,gy,aK⟩:=bh e;exact⟨dZ hG.leB k1,Qz aE r bX hB (bc.put o.dst (by simp only[SR];exact⟨⟨cR,C8 v⟩,λhall=>absurd (hall g gy) aK,λ_=>trivial⟩)) (kJ _) hp (snoc hG.leB λ_ h=>h) (by omega) (by omega) (ZN h1) hK⟩
      .split at h
       .rename_i cs v jR;obtain⟨c,ty,k,xs,nl,heq,rfl,rfl,hk,fv⟩:=Im jR;obtain⟨h1,h2⟩:=ZT h;have frz:∀ {B' U':Heap},B'.Le U'->∀ j Z',(hs++[U'])[j]?=some Z'->TG ((hl-1,none)::A) j=true->B'.Le Z':=λ{B' U'} hb j Z' hm hn=>by
         rcases XZ hm with⟨h1,_⟩|⟨_,rfl⟩
         .simp only[TG,zM,z1,zp,zy,Option.isSome_none,zk,or_false] at hn;have:=hD.len;omega
         .exact hb
        refine⟨λe=>?_,λe=>?_⟩
        .rw[z2 aC];have gd:Gds tb' gs:=λg hg=>⟨bF e g hg,cR g hg⟩;have eU:=h2 (bF e) c (by simp);have fh:=h2 (bF e) (nl=true->xs=[]) (by simp);have dS:Pj C (C.off+o.dst.getD 0) (.fn f [] []) (RF s1.own (args.map (gev gs s1.env))) s1 (λts v' s'=>ts=[C.off+o.dst.getD 0]/\v'=.lst (C.off+o.dst.getD 0)/\s'=s1.make (C.off+o.dst.getD 0) (.lst ty k xs nl)):=by
          unfold Pj;rw[heq];dsimp only;have ah:(SV.ret [OB.lst ty k xs nl].length (.lst 0)&&([OB.lst ty k xs nl].all OB.ret&&(Nat.blt 0 C.nt&&([OB.lst ty k xs nl].all OB.isL&&NU (.lst 0)))))=true:=by
           simp only[SV.ret,xm,zM,List.all_nil,xM,OB.ret,hk,Bool.true_and,OB.isL,NU];rw[z1]
           grind [Nat.blt_eq]
          rw[ah];simp only[zd,Q9y,OB.wf];refine⟨eU,fh,?_,?_,?_⟩
          .simp[List.range_succ]
          .simp[SV.ren]
          .simp[St.makes]
         obtain⟨g,a,b',u,U',ts,v',s',pl',h3,h4,⟨rfl,rfl,rfl⟩,h5,h6,_,h7,h8,h9⟩:=Y8 aE bc dS (show SR P U X1 ZU (.fn f [] []) (.func (.func f) #[] #[]) by simp only[SR,SRs];exact⟨[],[],rfl,rfl,rfl⟩) (bc.gcall gd args);obtain⟨rfl,rfl,rfl⟩:=(by simpa using h3:f=g/\#[]=a/\#[]=b');obtain⟨B',F',m1,m2,m3⟩:=OT bc.bf hk h5 h6 h8;have dz:FrL [C.off+o.dst.getD 0] s ((s1.make (C.off+o.dst.getD 0) .dead).put o.dst (.grd gs (.val (.list k) xs))) pl pl' U U':=λq hq=>by
          obtain⟨f1,f2,f3⟩:=h9 q hq
          grind [ZL,MI]
         obtain⟨k1,k2⟩:=hD.call h7 dz bm;refine .inl ⟨u,U',?_,dZ (m1.b.trans m2.leB) k1,Qz aE r bX (hB.trans m1) (m2.put o.dst ?_) k2.frozen (λc hc=>(hp c hc).imp (λh Z hτ=>h Z (m1.b.trans hτ)) id) (frz m2.leB) (by omega) (by omega) h1 hK⟩
         .rw[bC];show VCalled P f (args.map (Q5 env)) U _;simpa using h4
         .simp only[SR];exact⟨⟨cR,trivial⟩,λ_=>m3,(by grind)⟩
        .rw[z2 aC];obtain⟨g,gy,aK⟩:=bh e;have dz:FrL [C.off+o.dst.getD 0] s ((s1.make (C.off+o.dst.getD 0) .dead).put o.dst (.grd gs (.val (.list k) xs))) pl (Xd pl (C.off+o.dst.getD 0) undef) U U:=λq hq=>by
          have cz:q≠C.off+o.dst.getD 0:=by simpa using hq
          refine⟨?_,by simp[Xd,cz],λ_ _ _=>rfl⟩;rw[ZL,MI _ _ _ cz,aR]
         obtain⟨k1,k2⟩:=hD.call (.refl U) dz bm;refine⟨dZ hG.leB k1,Qz aE r bX hB ((bc.make (C.off+o.dst.getD 0) .dead undef bc.le (λ_ _ _ _ _=>rfl) trivial (λi hl _=>by cases hl)).put o.dst ?_) k2.frozen hp (frz hG.leB) (by omega) (by omega) h1 hK⟩;simp only[SR];exact⟨⟨cR,trivial⟩,λhall=>absurd (hall g gy) aK,λ_=>trivial⟩
       .exact h.elim
   .rename_i f args bC;split at h
    .rename_i hg;rw[hg];refine⟨λ_=>?_,λe=>by cases e⟩;rw[z2 aC];refine .inl ?_;obtain⟨g,a,b,u,U',e,v,s',pl',h1,h2,h3,h4,h5,h6,h7,h8,h9⟩:=Y8 aE hG h (hG.gfun Gds.nil f) (hG.gcall Gds.nil args);refine fin (u:=u) (U':=U') (λR' hr=>?_) h3 h4 h5 h6 h7 h8 h9;rw[bC];exact Hg h1 (h2.mono (R':=R') (by simp_all))
    .exact h.elim
   .exact h.elim
   .exact h.elim
   .rename_i nz oy qg jl;split at h
    .rename_i hg;rw[hg];refine⟨λ_=>?_,λe=>by cases e⟩;rw[z2 aC];have aJ:Q5b o.op=false:=by
      cases ho:o.op<;>first|rfl|(exact absurd ho (nz _ _))|(exact absurd ho (oy _ _))|skip
      case ext x=>cases x<;>first|rfl|(exact absurd ho (qg _))|(exact absurd ho (jl _))
     cases jQ:Q23 C (o.dst.getD 0) o.op (gev [] s.env) with
     |true =>
      rw[jQ] at h;simp only[zd] at h;cases hm:Q5z (An o.op) Rd hl (Q1h (C.off+o.dst.getD 0) o.op (gev [] s.env)) with
      |false=>rw[hm] at h;exact h.elim
      |true =>
       rw[hm] at h;simp only[zd] at h;obtain⟨u,U',pl',v,s',h1,h2,⟨h3,iM⟩,h4⟩:=Cy (λx=>hG.evs (Gds.nil (tb:=tb)) x) hG h;have fM:∀ R',R' u U'->vop (Q8 P) o.op env U R':=λR' hr=>by
        have:vop (Q8 P) o.op env U R'=Zc (Qc o.op (Q5 env) U) λp=>R' p.1 p.2:=by
         cases ho:o.op with
         |callF f a=>rw[ho] at aJ;cases aJ
         |callV f a=>rw[ho] at aJ;cases aJ
         |ext x =>
          cases x with
          |nextMap y=>rw[ho] at h1;cases h1
          |_=>rfl
         |_=>rfl
        rw[this,h1];exact hr
       obtain⟨k1,k2⟩:=hD.writeD iM (λbQ=>OM bQ h1) hm bm;exact .inl ⟨u,U',fM _ ⟨rfl,rfl⟩,dZ h3.leB k1,Qz aE r bX (P8 hB (Uj h1)) (h3.put o.dst h4) (by rw[ZL];exact k2) hp (snoc h3.leB λ_ h=>C9 h) (by omega) (by omega) h2 hK⟩
     |false =>
     rw[jQ] at h;simp only[zI] at h;cases hm:((An o.op&&Q0c Rd hl (Z2 (C.off+o.dst.getD 0) o.op (gev [] s.env)))||Ik Rd hl (Z2 (C.off+o.dst.getD 0) o.op (gev [] s.env))||(It o.op&&Z67 Rd hl (Z2 (C.off+o.dst.getD 0) o.op (gev [] s.env)))) with
     |false=>rw[hm] at h;exact h.elim
     |true =>
      rw[hm] at h;simp only[zd] at h;obtain⟨u,U',pl',v,s',h1,h2,⟨h3,iM⟩,h4,hE⟩:=Q9v hG h aJ;have fM:∀ R',R' u U'->vop (Q8 P) o.op env U R':=λR' hr=>by
       have:vop (Q8 P) o.op env U R'=Zc (Qc o.op (Q5 env) U) λp=>R' p.1 p.2:=by
        cases ho:o.op with
        |callF f a=>rw[ho] at aJ;cases aJ
        |callV f a=>rw[ho] at aJ;cases aJ
        |ext x =>
         cases x with
         |nextMap y=>rw[ho] at h1;cases h1
         |_=>rfl
        |_=>rfl
       rw[this,h1];exact hr
      obtain⟨k1,k2⟩:=hD.write iM (λbQ=>OM bQ h1) hE hm bm;exact .inl ⟨u,U',fM _ ⟨rfl,rfl⟩,dZ h3.leB k1,Qz aE r bX (P8 hB (Uj h1)) (h3.put o.dst h4) (by rw[ZL];exact k2) hp (snoc h3.leB λ_ h=>CU h) (by omega) (by omega) h2 hK⟩
    .exact h.elim
  .rw[z0 aC] at h;have kR:o.op.kind≠2:=by rw[<-bG];exact aC
   by_cases bn:o.kind=1
   .rw[z2 bn] at h
    have rd:∀ (rq:Option Nat),(∀ q,rq=some q->Bw o.op (gev [] s.env) s.own=some q)->(Nat.ble chg o.kmin||AM A o.kmin rq)=true->gd1 C o s (λs'=>Ww C r s' hl chg A ((o.kmax,rq)::Rd) K) ->
      Zc (JV env o.guard) λb=>vif b (if o.kind=2 then (TP (λR=>vop (Q8 P) o.op env U R) λv U'=>W2 hs.length U' pend/\JA (Q8 P) r (Wg env o.dst v) (hs++[U']) U' pend R)\/(waits o.dst.toList r=true/\vop (Q8 P) o.op env U λv U'=>W2 hs.length U' pend/\JA (Q8 P) r (Wg env o.dst v) (hs++[U']) U' pend R)
       else if o.kind=1 then Zc (Qc o.op (Q5 env) U) λp=>(∀ Z∈hs.drop o.kmin,Wp o.op (Q5 env) p.1 Z) /\
        JA (Q8 P) r (Wg env o.dst p.1) hs U (if hs.length<=o.kmax then (o.kmax,Wp o.op (Q5 env) p.1)::pend else pend) R
       else Zc (Qc o.op (Q5 env) U) λp=>JA (Q8 P) r (Wg env o.dst p.1) hs U pend R)
      (if o.kind=2 then W2 hs.length U pend/\JA (Q8 P) r (Wg env o.dst undef) (hs++[U]) U pend R else JA (Q8 P) r (Wg env o.dst undef) hs U pend R):=λrq nB hc h=>by
     obtain⟨b,hw,h1,h2⟩:=M6 hG h;rw[hw];have kS:DSt hs U pd hl chg A ((o.kmax,rq)::Rd) s.own pl:=⟨hD.len,hD.same,λc hc=>(hD.pend c hc).imp id (by simp_all),hD.fr⟩;refine⟨λe=>?_,λe=>?_⟩
     .obtain⟨u,s',tb',h3,h4,aR,h5⟩:=h1 e;rw[z0 aC,z2 bn,h3];refine⟨λZ hτ=>?_,?_⟩
      .obtain⟨j,hj⟩:=zZ.1 hτ;rw[zV] at hj;rw[zp] at hc;rcases hc with hc|hc
       .have:=hD.same (o.kmin+j) Z (by have:=xQ hc;omega) hj;subst this;exact Ji h3
       .unfold AM at hc;split at hc
        .rename_i q;obtain⟨k1,i,bl,k2,k3,k4,k5⟩:=U9 hG (nB q rfl) h3;have hu:ZM A (o.kmin+j) (q / 2)=true:=by
          simp only[ZM,zg,zp,zy] at hc |-
          grind
         have:=hD.fr (o.kmin+j) Z (q / 2) i hj hu k1 k2
         grind [Ji]
        .cases hc
      .by_cases hle:hs.length<=o.kmax
       .rw[z2 hle];refine Qz aE r bX hB h5 (A:=A) (Rd:=(o.kmax,rq)::Rd) (hl:=hl) (chg:=chg) (pd:=(o.kmax,Wp o.op (Q5 env) u)::pd) ?_ (λc hc=>?_) bW dB bm h4 hK
        .rw[aR];refine⟨hD.len,hD.same,λc hc=>?_,hD.fr⟩;rcases zK.1 hc with rfl|hc
         .refine .inr ⟨_,zz,z5 _,?_⟩;cases rq with
          |none=>exactλZ hτ=>Ji (AD kR h3 hτ)
          |some q =>obtain⟨k1,i,bl,k2,k3,k4,k5⟩:=U9 hG (nB q rfl) h3;exact⟨k1,i,bl,k2,k3,λZ ht=>Ji (k4 Z ht),(by grind [Ji])⟩
         .exact kS.pend c hc
        grind
       .rw[z0 hle];exact Qz aE r bX hB h5 (A:=A) (Rd:=(o.kmax,rq)::Rd) (hl:=hl) (chg:=chg) (pd:=pd) (by rw[aR];exact kS) hp bW dB bm h4 hK
     .obtain⟨s',tb',h4,aR,h5⟩:=h2 e;rw[z0 aC];exact Qz aE r bX hB h5 (by rw[aR];exact kS) hp bW dB bm h4 hK
    have ro:TG A o.kmin=true->(∀ u,Qc o.op (Q5 env) U=some (u,U)->(JV env o.guard=some true)->∀ Z,B.Le Z->Qc o.op (Q5 env) Z=some (u,Z))->gd1 C o s (λs'=>Ww C r s' hl chg A Rd K) ->
      Zc (JV env o.guard) λb=>vif b (if o.kind=2 then (TP (λR=>vop (Q8 P) o.op env U R) λv U'=>W2 hs.length U' pend/\JA (Q8 P) r (Wg env o.dst v) (hs++[U']) U' pend R)\/(waits o.dst.toList r=true/\vop (Q8 P) o.op env U λv U'=>W2 hs.length U' pend/\JA (Q8 P) r (Wg env o.dst v) (hs++[U']) U' pend R)
       else if o.kind=1 then Zc (Qc o.op (Q5 env) U) λp=>(∀ Z∈hs.drop o.kmin,Wp o.op (Q5 env) p.1 Z) /\
        JA (Q8 P) r (Wg env o.dst p.1) hs U (if hs.length<=o.kmax then (o.kmax,Wp o.op (Q5 env) p.1)::pend else pend) R
       else Zc (Qc o.op (Q5 env) U) λp=>JA (Q8 P) r (Wg env o.dst p.1) hs U pend R)
      (if o.kind=2 then W2 hs.length U pend/\JA (Q8 P) r (Wg env o.dst undef) (hs++[U]) U pend R else JA (Q8 P) r (Wg env o.dst undef) hs U pend R):=λkT bY h=>by
     obtain⟨b,hw,h1,h2⟩:=M6 hG h;rw[hw];refine⟨λe=>?_,λe=>?_⟩
     .obtain⟨u,s',tb',h3,h4,aR,h5⟩:=h1 e;have bY:=bY u h3 (by rw[hw,e]);rw[z0 aC,z2 bn,h3];refine⟨λZ hτ=>?_,?_⟩
      .obtain⟨j,hj⟩:=zZ.1 hτ;rw[zV] at hj;refine Ji (bY Z (bW _ Z hj ?_));simp only[TG,zg,zp,zy] at kT |-
       grind
      refine Qz aE r bX hB h5 (A:=A) (Rd:=Rd) (hl:=hl) (chg:=chg) (pd:=pd) (by rw[aR];exact hD) (λc hc=>?_) bW dB bm h4 hK;split at hc
      .rcases zK.1 hc with rfl|hc
       .grind [Ji]
       .exact hp c hc
      .exact hp c hc
     .obtain⟨s',tb',h4,aR,h5⟩:=h2 e;rw[z0 aC];exact Qz aE r bX hB h5 (by rw[aR];exact hD) hp bW dB bm h4 hK
    split at h
    .rename_i hg;cases hr:(Z68 o.op (gev [] s.env)&&TG A o.kmin) with
     |true =>rw[hr] at h;rw[z1] at hr;exact ro hr.2 (λu hu _=>Hr hG Gds.nil hr.1 hu) h
     |false =>
     rw[hr] at h;simp only[zI] at h;cases hb:(Nat.ble chg o.kmin||AM A o.kmin (Bw o.op (gev [] s.env) s.own)) with
     |false=>rw[hb] at h;exact h.elim
     |true =>rw[hb] at h;exact rd _ (λq hq=>hq) hb h
    .rename_i j want hg;cases hr:(Z03 s j want o.op&&TG A o.kmin) with
     |true =>
      rw[hr] at h;rw[z1] at hr;obtain⟨hr,kT⟩:=hr;refine ro kT (λu hu hw=>?_) h;unfold Z03 at hr;split at hr
      .rename_i gs s1 dS;obtain⟨tb',bc,cR,b,je,bF,bh⟩:=Y5 hG dS;rw[hg,je] at hw;have e:=osj hw;exact Hr bc (λg hg=>⟨bF e g hg,cR g hg⟩) hr hu
      .cases hr
     |false =>
     rw[hr] at h;simp only[zI] at h;cases hb:Nat.ble chg o.kmin with
     |false=>rw[hb] at h;exact h.elim
     |true =>rw[hb] at h;exact rd none (λq hq=>by cases hq) (by rw[hb];rfl) h
   .rw[z0 bn] at h;obtain⟨b,hw,h1,h2⟩:=M6 hG h;rw[hw];refine⟨λe=>?_,λe=>?_⟩
    .obtain⟨u,s',tb',h3,h4,aR,h5⟩:=h1 e;rw[z0 aC,z0 bn,h3];exact Qz aE r bX hB h5 (by rw[aR];exact hD) hp bW dB bm h4 hK
    .obtain⟨s',tb',h4,aR,h5⟩:=h2 e;rw[z0 aC];exact Qz aE r bX hB h5 (by rw[aR];exact hD) hp bW dB bm h4 hK
def Di (pl:Nat->Value) (mp:List (Nat×Option Nat)):Nat->Value:=λt=>match Qw mp t with
 |some (some a)=>pl a
 |_=>.slice none 0 0
theorem Q29 {h:Heap}{k k':Kind}{x:k.T}{y:k'.T}(e:Pg x y) {cs:List Value}(hk:KC h k' y cs):KC h k x cs:=by
 unfold Pg at e
 grind [Ix,I6]
mutual
theorem Kd {B:Heap}{pl:Nat->Value}{tb:Nat->Option Bool}{mp:List (Nat×Option Nat)}:∀ (p a:SV) (v:Value),Sv mp p a->SR P B pl tb a v->SR P B (Di pl mp) ZU p v
 |.any,a,v,_,_=>trivial
 |.val k x,a,v,h,hs=>by
  simp only[Sv] at h;split at h
  .simp only[SR] at hs |-;exact Q29 h hs
  .simp only[SR] at hs |-;exact Q29 h (by simp[KC,hs.1])
  .split at h
   .subst h;simp only[SR] at hs |-;subst hs;exact⟨_,rfl,.inl ⟨rfl,rfl⟩⟩
   .exact h.elim
  .exact h.elim
 |.lst t,a,v,h,hs=>by
  simp only[Sv] at h;split at h
  .split at h
   .rename_i e;simp only[SR,Di,e] at hs |-;exact hs
   .exact h.elim
  .split at h
   .rename_i e;simp only[SR,Di,e] at hs |-;exact⟨hs,_,_,_,hs⟩
   .exact h.elim
  .exact h.elim
 |.box t off,a,v,h,hs=>by
  simp only[Sv] at h;split at h
  .split at h
   .rename_i e;obtain⟨e,rfl⟩:=e;simp only[SR,Di,e] at hs |-;exact hs
   .exact h.elim
  .exact h.elim
 |.map t,a,v,h,hs=>by
  simp only[Sv] at h;split at h
  .split at h
   .rename_i e;simp only[SR,Di,e] at hs |-;exact hs
   .exact h.elim
  .exact h.elim
 |.dd t w,a,v,h,hs=>by
  simp only[Sv] at h;split at h
  .split at h
   .simp only[SR] at hs |-;simp only[DR];exact .inl ⟨h,hs⟩
   .split at h
    .rename_i e;obtain⟨e,rfl⟩:=e;simp only[SR,DR,Di,e] at hs |-;obtain⟨b,h1,h2⟩:=hs;exact .inr ⟨h,b,by rw[h1];rfl,h2⟩
    .exact h.elim
   .split at h
    .split at h
     .rename_i e;subst h;simp only[SR,DR,Di,e] at hs |-;exact hs
     .exact h.elim
    .exact h.elim
   .exact h.elim
  .split at h
   .split at h
    .split at h
     .rename_i e;simp only[SR,Di,e] at hs |-;exact hs
     .exact h.elim
    .exact h.elim
   .exact h.elim
  .split at h
   .split at h
    .split at h
     .rename_i e;simp only[SR,Di,e] at hs |-;exact hs
     .exact h.elim
    .exact h.elim
   .split at h
    .rename_i e;simp only[SR,Di,e] at hs |-;exact⟨hs,_,_,_,hs⟩
    .exact h.elim
   .exact h.elim
  .exact h.elim
 |.agg l,a,v,h,hs=>by
  simp only[Sv] at h;split at h
  .rename_i l';simp only[SR] at hs |-;obtain⟨cs,h1,h2⟩:=hs;exact⟨cs,h1,Zm l l' cs h h2⟩
  .exact h.elim
 |.tup l,a,v,h,hs=>by
  simp only[Sv] at h;split at h
  .rename_i l';simp only[SR] at hs |-;obtain⟨cs,h1,h2⟩:=hs;exact⟨cs,h1,Zm l l' cs h h2⟩
  .exact h.elim
 |.fn f x y,a,v,h,hs=>by
  simp only[Sv] at h;split at h
  .split at h
   .rename_i e;subst e;simp only[SR] at hs |-;obtain⟨cs,ds,h1,h2,h3⟩:=hs;exact⟨cs,ds,h1,Zm x _ cs h.1 h2,Zm y _ ds h.2 h3⟩
   .exact h.elim
  .exact h.elim
 |.nilS,a,v,h,hs=>by
  simp only[Sv] at h;split at h
  .simp only[SR] at hs |-;exact hs
  .exact h.elim
 |.nilP,a,v,h,hs=>by
  simp only[Sv] at h;split at h
  .simp only[SR] at hs |-;exact hs
  .exact h.elim
 |.nilM,a,v,h,hs=>by
  simp only[Sv] at h;split at h
  .simp only[SR] at hs |-;exact hs
  .exact h.elim
 |.nilF,a,v,h,hs=>by
  simp only[Sv] at h;split at h
  .simp only[SR] at hs |-;exact hs
  .exact h.elim
 |.cp l off,a,v,h,hs=>by
  simp only[Sv] at h;cases ql:SVs.pure l with
  |true =>rw[ql] at h;simp only[zd] at h;obtain⟨rfl,_⟩:=h;simp only[SR] at hs |-;obtain⟨b,c,e,wr,t,h1,h2,h3⟩:=hs;exact⟨b,c,e,wr,t,h1,h2,Zb l c ql h3⟩
  |false =>
   rw[ql] at h;simp only[zI] at h;split at h
   .split at h
    .rename_i l' dm he;subst he;simp only[SR] at hs |-;obtain⟨b,c,e,wr,t,h1,h2,h3⟩:=hs;exact⟨b,c,e,wr,t,h1,h2,Zm l l' c h h3⟩
    .exact h.elim
   .exact h.elim
 |.pf ks r cE p,a,v,h,hs=>by simp only[Sv] at h;subst h;simp only[SR] at hs |-;exact hs
 |.sub t lo n sz,a,v,h,hs=>by
  simp only[Sv] at h;split at h
  .split at h
   .rename_i e;obtain⟨rfl,rfl,rfl⟩:=h;simp only[SR,Di,e] at hs |-;exact hs
   .exact h.elim
  .exact h.elim
 |.elp _ _ _ _,_,_,h,_|.grd _ _,_,_,h,_|.bid _ _,_,_,h,_|.rop _ _ _ _,_,_,h,_=>by simp only[Sv] at h
theorem Zm {B:Heap}{pl:Nat->Value}{tb:Nat->Option Bool}{mp:List (Nat×Option Nat)}:∀ (p a:List SV) (v:List Value),NS mp p a->SRs P B pl tb a v->SRs P B (Di pl mp) ZU p v
 |[],a,v,h,hs=>by simp only[NS] at h;subst h;exact hs
 |s::ss,[],v,h,hs=>by simp only[NS] at h
 |s::ss,a::bN,v,h,hs=>by simp only[NS] at h;simp only[SRs] at hs |-;obtain⟨x,y,h1,h2,h3⟩:=hs;exact⟨x,y,h1,Kd s a x h.1 h2,Zm ss bN y h.2 h3⟩
theorem IB {B:Heap}{pl pl':Nat->Value}{tb tb':Nat->Option Bool}:∀ (s:SV) (v:Value),s.pure=true->SR P B pl tb s v->SR P B pl' tb' s v
 |.any,v,_,_=>trivial
 |.val k x,v,_,h=>by simp only[SR] at h |-;exact h
 |.nilS,v,_,h|.nilP,v,_,h|.nilM,v,_,h|.nilF,v,_,h=>by simp only[SR] at h |-;exact h
 |.rop k l i off,v,_,h=>by simp only[SR] at h |-;exact h
 |.pf ks r cE p,v,_,h=>by simp only[SR] at h |-;exact h
 |.agg l,v,hp,h=>by simp only[SR] at h |-;obtain⟨cs,h1,h2⟩:=h;exact⟨cs,h1,Zb l cs hp h2⟩
 |.tup l,v,hp,h=>by simp only[SR] at h |-;obtain⟨cs,h1,h2⟩:=h;exact⟨cs,h1,Zb l cs hp h2⟩
 |.cp l off,v,hp,h=>by simp only[SR] at h |-;obtain⟨b,c,e,wr,t,h1,h2,h3⟩:=h;exact⟨b,c,e,wr,t,h1,h2,Zb l c hp h3⟩
 |.fn f a b,v,hp,h=>by simp only[SV.pure,z1] at hp;simp only[SR] at h |-;obtain⟨x,y,h1,h2,h3⟩:=h;exact⟨x,y,h1,Zb a x hp.1 h2,Zb b y hp.2 h3⟩
 |.lst _,_,h,_|.sub _ _ _ _,_,h,_|.elp _ _ _ _,_,h,_|.box _ _,_,h,_|.map _,_,h,_|.grd _ _,_,h,_|.bid _ _,_,h,_=>by cases h
theorem Zb {B:Heap}{pl pl':Nat->Value}{tb tb':Nat->Option Bool}:∀ (s:List SV) (v:List Value),SVs.pure s=true->SRs P B pl tb s v->SRs P B pl' tb' s v
 |[],v,_,h=>by simp only[SRs] at h |-;exact h
 |s::ss,v,hp,h=>by simp only[SVs.pure,z1] at hp;simp only[SRs] at h |-;obtain⟨x,y,h1,h2,h3⟩:=h;exact⟨x,y,h1,IB s x hp.1 h2,Zb ss y hp.2 h3⟩
end
end
end Go.V
namespace Go.V
open Go
section
variable {P:Program}{B F:Heap}{pl:Nat->Value}{tb:Nat->Option Bool}{s:St}{env:Env}{U:Heap}
theorem G1 {k k':Kind}{xs:List k.T}{ys:List k'.T}(h:Pg (k:=.list k) xs (k':=.list k') ys):∃ e:k'=k,e▸ys=xs:=by
 unfold Pg at h
 grind [Ix,Kind.list.inj,I6]
theorem Zo (hG:Gam P B F pl tb s env U) {mp:List (Nat×Option Nat)}{t:Nat}{b:OB}(h:Z0b s mp t b) :
  OR P B (Di pl mp) ZU U (Di pl mp t) b/\(b.live=true->∀ i,Oid (Di pl mp t) i->∃ a,Qw mp t=some (some a)/\(Qe s.own a).live=true/\Oid (pl a) i):=by
 unfold Z0b at h;split at h
 .rename_i a ha;have aX:Di pl mp t=pl a:=by simp[Di,ha]
  rw[aX];have au:=hG.obj a;split at h
  .exact⟨trivial,λh=>by cases h⟩
  .rename_i ty k xs nl iL k' b_ jL ho;split at h
   .rename_i e;subst e;obtain⟨h1,rfl⟩:=h;obtain⟨rfl,rfl⟩:=G1 h1;rw[ho] at au;exact⟨au,(by simp_all)⟩
   .exact h.elim
  .rename_i l u l' u' ho;split at h
   .rename_i e0;subst e0;rw[ho] at au;obtain⟨i,c,e,t',h1,h2,h3,h4⟩:=au;exact⟨⟨i,c,e,t',h1,h2,Zm l l' c h h3,h4⟩,λ_ i hi=>⟨a,ha,by rw[ho];rfl,hi⟩⟩
   .exact h.elim
  .rename_i kk vk m jk kH m' ho;split at h
   .obtain⟨e,h1⟩:=G1 h;obtain⟨rfl,rfl⟩:=Kind.pair.inj e;subst h1;rw[ho] at au;exact⟨au,(by simp_all)⟩
   .exact h.elim
  .rename_i l vals l' jM ho;rw[ho] at au;obtain⟨rfl,h⟩:=h;exact⟨Zm l l' vals h au,λh=>by cases h⟩
  .rename_i l q u l' q' u' ho;rw[ho] at au;split at h
   .obtain⟨rfl,h⟩:=h;exact⟨⟨au.1,Zm l l' q.vals h au.2.1,au.2.2⟩,λ_ i hi=>⟨a,ha,by rw[ho];rfl,hi⟩⟩
   .obtain⟨rfl,h⟩:=h;exact⟨⟨au.1,Zm l l' q.vals h au.2.1,au.2.2⟩,λh=>by cases h⟩
   .exact h.elim
  .rename_i kk vk m dn jk kH m' rM ho;split at h
   .obtain⟨h,rfl⟩:=h;obtain⟨e,h1⟩:=G1 h;obtain⟨rfl,rfl⟩:=Kind.pair.inj e;subst h1;rw[ho] at au;exact⟨au,(by simp_all)⟩
   .exact h.elim
  .rename_i ty q k xs nl h0 iL q' k' b_ jL ru ho;split at h
   .rename_i e;obtain⟨rfl,rfl⟩:=e;split at h
    .obtain⟨h1,rfl⟩:=h;obtain⟨rfl,rfl⟩:=G1 h1;rw[ho] at au;exact⟨au,(by simp_all)⟩
    .exact h.elim
   .exact h.elim
  .exact h.elim
 .rename_i ha;have aX:Di pl mp t=.slice none 0 0:=by simp[Di,ha]
  rw[aX];split at h
  .exact⟨.inl ⟨h.2,h.1,rfl⟩,λ_ i hi=>by cases hi⟩
  .split at h
   .obtain⟨rfl,rfl⟩:=h;refine⟨⟨[],λi=>⟨λh=>(by cases h),λ⟨b,h⟩=>(by cases h)⟩,List.nodup_nil,.inl ⟨rfl,rfl,rfl⟩,λi=>⟨λ⟨b,h⟩=>(by cases h),λh=>(by cases h)⟩,(λi b h=>by cases h),by simp[phd]⟩,λ_ i hi=>by cases hi⟩
   .exact h.elim
  .exact h.elim
 .exact h.elim
theorem Nw {α:Type _}(l:List (Nat×α)) (t:Nat) (x:α) (d:Nat):Qw (l++[(t,x)]) d=match Qw l d with|some y=>some y|none=>if t=d then some x else none:=by
 induction l with
 |nil =>
  simp only[xp,Qw];by_cases h:t=d
  .subst h;simp
  .rw[Zs h];simp[h]
 |cons p l ih =>obtain⟨k,y⟩:=p;simp only[x7,Qw,ih];cases Nat.beq k d<;>rfl
theorem Q0y {α:Type _}{l:List (Nat×α)}{d:Nat}{x:α}(h:Qw l d=some x):∃ p∈l,p.1=d/\p.2=x:=by
 induction l with
 |nil=>cases h
 |cons p l ih =>
  obtain⟨k,y⟩:=p;simp only[Qw] at h;cases hb:Nat.beq k d with
  |true=>rw[hb] at h;obtain rfl:=osj h;exact(by simp_all)
  |false =>rw[hb] at h;obtain⟨p,h1,h2⟩:=ih h;exact⟨p,zr _ h1,h2⟩
def Inj (mp:List (Nat×Option Nat)):Prop:=∀ t t' a,Qw mp t=some (some a)->Qw mp t'=some (some a)->t=t'
theorem LW:∀ (l:List (Nat×Src)) (mp bR:List (Nat×Option Nat)),Z7q s l mp=some bR->Inj mp->Inj bR
 |[],mp,bR,h,hi=>by obtain rfl:=osj h;exact hi
 |(t,src)::r,mp,bR,h,hi=>by
  simp only[Z7q] at h;split at h
  .rename_i a _;split at h
   .cases h
   .rename_i hc;refine LW r _ _ h ?_;have dz:∀ d,Qw mp d≠some (some a):=λd hd=>by
     obtain⟨p,h1,h2,h3⟩:=Q0y hd
     grind
    intro t1 t2 a' h1 h2;rw[Nw] at h1 h2;split at h1
    .rename_i y1 e1;split at h2
     .rename_i y2 e2;obtain rfl:=osj h1;obtain rfl:=osj h2;exact hi t1 t2 a' e1 e2
     simp_all
    .split at h1
     .rename_i e1;obtain rfl:=osj (osj h1);split at h2
      .simp_all
      simp_all
     .cases h1
  .split at h
   .cases h
   .refine LW r _ _ h ?_;intro t1 t2 a' h1 h2;rw[Nw] at h1 h2;split at h1
    .rename_i y1 e1;split at h2
     .rename_i y2 e2;obtain rfl:=osj h1;obtain rfl:=osj h2;exact hi t1 t2 a' e1 e2
     .split at h2<;>cases h2
    .split at h1<;>cases h1
  .cases h
theorem O6 {mp:List (Nat×Option Nat)}:∀ {ow:List (Nat×Src×OB)},gmatch.obs s mp ow->∀ p∈ow,Z0b s mp p.1 p.2.2
 |[],_,p,hp=>by cases hp
 |(t,src,b)::r,h,p,hp=>by
  simp only[gmatch.obs] at h;rcases zK.1 hp with rfl|hp
  .exact h.1
  .exact O6 h.2 p hp
theorem MM {f:List (Nat×Src×OB)}:∀ (own:Own) (t:Nat),(∃ p∈f,p.1=t/\Qe (f.foldl (λo p=>oset o p.1 p.2.2) own) t=p.2.2)\/Qe (f.foldl (λo p=>oset o p.1 p.2.2) own) t=Qe own t:=by
 induction f with
 |nil=>intro own t;exact .inr rfl
 |cons p f ih =>
  intro own t;simp only[xU];rcases ih (oset own p.1 p.2.2) t with⟨q,h1,h2⟩|h
  .grind
  .rw[h,Qn]
   grind
theorem Cf (hG:Gam P B F pl tb s env U) {mp:List (Nat×Option Nat)}:∀ (st:List (Nat×SV)) {e:List SV}{eV:Env},gmatch.slots s mp st->SRs P B (Di pl mp) ZU e eV->SRs P B (Di pl mp) ZU (st.foldl (λe p=>e.set p.1 p.2) e) (Um (st.map (·.1)) (Ev (st.map (·.1)) env) eV)
 |[],e,eV,_,h=>h
 |(j,v)::r,e,eV,hs,h=>by simp only[gmatch.slots] at hs;simp only[xU,zx,Ev,Um];exact Cf hG r hs.2 (h.set j (Kd v _ _ hs.1 (hG.env.getD j poison)))
theorem Q8w {B:Heap}{pl:Nat->Value}{tb:Nat->Option Bool}:∀ n,SRs P B pl tb (List.replicate n .any) (List.replicate n poison)
 |0=>by simp[SRs]
 |n+1=>by simp only[xr,SRs];exact⟨_,_,rfl,by simp[SR],Q8w n⟩
theorem SM {B0 F0 D0:Heap}(hR:GRel P B0 F0 D0 s env U) {st:List (Nat×SV)}{ow:List (Nat×Src×OB)}(h:gmatch s st ow) (len:Nat):GRel P B0 F0 D0 (ZF len st ow) (Um (st.map (·.1)) (Ev (st.map (·.1)) env) (List.replicate len poison)) U:=by
 obtain⟨B,F,pl,tb,hB,hG⟩:=hR;unfold gmatch at h;split at h
 .rename_i mp kU;obtain⟨h1,h2⟩:=h;have eE:=LW _ _ _ kU (λt t' a h=>by cases h);have aW:=O6 h2;have au:∀ t,(Qe (ZF len st ow).own t).live=true->Z0b s mp t (Qe (ZF len st ow).own t):=λt hl=>by
   rcases MM (f:=ow) [] t with⟨p,h3,h4,h5⟩|h3
   .have:=aW p h3;rw[h4,<-h5] at this;exact this
   .simp only[ZF] at hl;rw[h3] at hl;cases hl
  refine⟨B,F,Di pl mp,ZU,hB,hG.bf,hG.le,Cf hG st h1 (Q8w len),λt=>?_,λt i hl hi=>?_,λt t' i aK hl cF hi dj=>?_,λ_ _=>rfl⟩
  .cases hl:(Qe (ZF len st ow).own t).live with
   |true=>exact(Zo hG (au t hl)).1
   |false =>
    cases ho:Qe (ZF len st ow).own t with
    |dead=>trivial
    |stk l vals =>
     rcases MM (f:=ow) [] t with⟨p,h3,h4,h5⟩|h3
     .have:=aW p h3;simp only[ZF] at ho
      grind [Zo]
     .simp only[ZF] at ho;rw[h3] at ho;cases ho
    |lpf l q u =>
     rcases MM (f:=ow) [] t with⟨p,h3,h4,h5⟩|h3
     .have:=aW p h3;simp only[ZF] at ho
      grind [Zo]
     .simp only[ZF] at ho;rw[h3] at ho;cases ho
    |_=>rw[ho] at hl;cases hl
  .obtain⟨a,_,h4,h5⟩:=(Zo hG (au t hl)).2 hl i hi;exact hG.fresh a i h4 h5
  .obtain⟨a,e1,h4,h5⟩:=(Zo hG (au t hl)).2 hl i hi;obtain⟨a',e2,iH,qm⟩:=(Zo hG (au t' cF)).2 cF i dj;by_cases e:a=a'
   .subst e;exact aK (eE t t' a e1 e2)
   .exact hG.sep a a' i e h4 iH h5 qm
 .exact h.elim
theorem Se:∀ {dk cm:List SV}{vs:List Value}{B F:Heap}{s s':St},Gam P B F pl tb s env U->SRs P B pl tb dk vs->Z4g s dk=some (s',cm) ->
  ∃ B' F',GBase B F U B' F' U/\Gam P B' F' pl tb s' env U/\SRs P B' X1 ZU cm vs/\s'.env=s.env
 |[],cm,vs,B,F,s,s',hG,hs,h=>by simp only[Z4g,xg,Prod.mk.injEq] at h;obtain⟨rfl,rfl⟩:=h;exact⟨B,F,.of hG.bf (.refl _),hG,hs,rfl⟩
 |v::dk,cm,vs,B,F,s,s',hG,hs,h=>by
  simp only[SRs] at hs;obtain⟨u,us,rfl,h1,h2⟩:=hs
  have nD:∀ w:SV,SR P B pl tb w u->(bif w.pure then (match Z4g s dk with|some (s',r)=>some (s',w::r)|none=>none) else none)=some (s',cm) ->
    ∃ B' F',GBase B F U B' F' U/\Gam P B' F' pl tb s' env U/\SRs P B' X1 ZU cm (u::us)/\s'.env=s.env:=λw hw h=>by
   cases hp:w.pure with
   |false=>rw[hp] at h;cases h
   |true =>
    rw[hp] at h;simp only[zd] at h;split at h
    .rename_i s1 r heq;simp only[xg,Prod.mk.injEq] at h;obtain⟨rfl,rfl⟩:=h;obtain⟨B',F',k1,k2,k3,k4⟩:=Se hG h2 heq;exact⟨B',F',k1,k2,by simp only[SRs];exact⟨u,us,rfl,SR.mono k1.b (λ_ _ h=>h) _ _ (IB w u hp hw),k3⟩,k4⟩
    .cases h
  simp only[Z4g] at h;split at h
  .rename_i o;split at h
   .rename_i l _ ho;cases hp:SVs.pure l with
    |false=>rw[hp] at h;cases h
    |true =>
     rw[hp] at h;simp only[zd] at h;split at h
     .rename_i s1 r heq;simp only[xg,Prod.mk.injEq] at h;obtain⟨rfl,rfl⟩:=h;have au:=hG.obj o;rw[ho] at au;obtain⟨i,c,e,t,e1,e2,e3,_⟩:=au;obtain⟨k1,k2⟩:=hG.freeze (o:=o) (i:=i) (by rw[ho];rfl) (by rw[e1];rfl);obtain⟨B',F',j1,j2,j3,j4⟩:=Se k2 (SRs.mono k1.b (λ_ _ h=>h) _ _ h2) heq;refine⟨B',F',k1.trans j1,j2,?_,j4⟩;simp only[SRs];refine⟨u,us,rfl,?_,j3⟩;simp only[SR] at h1 |-;obtain⟨b,q1,q2⟩:=h1;rw[e1] at q1;obtain rfl:i=b:=by simpa using q1
      refine⟨i,c,e,true,t,j1.b.2 _ _ ?_,q2,SRs.mono (k1.trans j1).b (λ_ _ h=>h) _ _ (Zb l c hp e3)⟩;rw[Heap.q0n];exact e2
     .cases h
   .cases h
  .exact nD _ h1 h
theorem Gam.lpUpd (hG:Gam P B F pl tb s env U) {n:Nat}{b b0:Blk}(hF:F.get n=some b0) (hB:B.get n=none):Gam P B (F.upd n b) pl tb s env (U.upd n b):=by
 have aK:∀ {d i},(Qe s.own d).live=true->Oid (pl d) i->i≠n:=λh1 h2 e=>by have:=hG.fresh _ _ h1 h2;subst e;rw[hF] at this;cases this
 refine⟨⟨hG.bf.1,λi c hc=>?_⟩,⟨hG.le.1,λi c hc=>?_⟩,hG.env,λd=>(hG.obj d).mono (.refl _) (λ_ _ h=>h) (by grind [Heap.q0b]),λd i h1 h2=>?_,hG.sep,hG.free⟩
 .have:i≠n:=by rintro rfl;rw[hB] at hc;cases hc
  rw[Heap.q0b _ _ this];exact hG.bf.2 _ _ hc
 .by_cases e:i=n
  .subst e;rw[Heap.q0d _ _ (F.lt hF)] at hc;rw[Heap.q0d _ _ (zQ (F.lt hF) hG.le.1)];exact hc
  .rw[Heap.q0b _ _ e] at hc |-;exact hG.le.2 _ _ hc
 .rw[Heap.q0b _ _ (aK h1 h2)];exact hG.fresh _ _ h1 h2
theorem Gam.lpKill (hG:Gam P B F pl tb s env U) {n:Nat}{b0:Blk}(hF:F.get n=some b0) (hB:B.get n=none):Gam P B (F.kill n) pl tb s env (U.kill n):=by
 have aK:∀ {d i},(Qe s.own d).live=true->Oid (pl d) i->i≠n:=λh1 h2 e=>by have:=hG.fresh _ _ h1 h2;subst e;rw[hF] at this;cases this
 refine⟨⟨hG.bf.1,λi c hc=>?_⟩,⟨hG.le.1,λi c hc=>?_⟩,hG.env,λd=>(hG.obj d).mono (.refl _) (λ_ _ h=>h) (by grind [Heap.q0c]),λd i h1 h2=>?_,hG.sep,hG.free⟩
 .have:i≠n:=by rintro rfl;rw[hB] at hc;cases hc
  rw[Heap.q0c _ this];exact hG.bf.2 _ _ hc
 .by_cases e:i=n
  .grind [Heap.q0f]
  .rw[Heap.q0c _ e] at hc |-;exact hG.le.2 _ _ hc
 .rw[Heap.q0c _ (aK h1 h2)];exact hG.fresh _ _ h1 h2
theorem GRel.lpUpd {B1 F1 D0:Heap}(h:GRel P B1 F1 D0 s env U) {n:Nat}{b b0:Blk}(hF:F1.get n=some b0) (hB:B1.get n=none):GRel P B1 (F1.upd n b) D0 s env (U.upd n b):=by
 obtain⟨B,F,pl,tb,dx,hG⟩:=h;have nE:=dx.f.2 _ _ hF;have kV:=dx.x _ _ hF hB;refine⟨B,F.upd n b,pl,tb,⟨dx.b,⟨dx.f.1,λi c hc=>?_⟩,λi c h1 h2=>?_,⟨dx.d.1,λi h1 h2=>?_⟩⟩,hG.lpUpd nE kV⟩
 .by_cases e:i=n
  .subst e;rw[Heap.q0d _ _ (F1.lt hF)] at hc;rw[Heap.q0d _ _ (F.lt nE)];exact hc
  .rw[Heap.q0b _ _ e] at hc |-;exact dx.f.2 _ _ hc
 .by_cases e:i=n
  .subst e;exact kV
  .rw[Heap.q0b _ _ e] at h1;exact dx.x _ _ h1 h2
 .have hd:=dx.d.2 i h1 h2;have:i≠n:=by rintro rfl;rw[hG.le.2 _ _ nE] at hd;cases hd
  rw[Heap.q0b _ _ this];exact hd
theorem GRel.lpKill {B1 F1 D0:Heap}(h:GRel P B1 F1 D0 s env U) {n:Nat}{b0:Blk}(hF:F1.get n=some b0) (hB:B1.get n=none):GRel P B1 (F1.kill n) D0 s env (U.kill n):=by
 obtain⟨B,F,pl,tb,dx,hG⟩:=h;have nE:=dx.f.2 _ _ hF;have kV:=dx.x _ _ hF hB;refine⟨B,F.kill n,pl,tb,⟨dx.b,⟨dx.f.1,λi c hc=>?_⟩,λi c h1 h2=>?_,⟨dx.d.1,λi h1 h2=>?_⟩⟩,hG.lpKill nE kV⟩
 .by_cases e:i=n
  .grind [Heap.q0f]
  .rw[Heap.q0c _ e] at hc |-;exact dx.f.2 _ _ hc
 .by_cases e:i=n
  .subst e;exact kV
  .rw[Heap.q0c _ e] at h1;exact dx.x _ _ h1 h2
 .have hd:=dx.d.2 i h1 h2
  grind [Heap.q0f,Heap.q0c]
theorem GRel.base {B0 F0 B1 F1 D0:Heap}(h:GRel P B1 F1 D0 s env U) (hb:B0.Le B1) (hf:F0.Le F1) (hx:∀ i b,F0.get i=some b->B0.get i=none->B1.get i=none):GRel P B0 F0 D0 s env U:=by obtain⟨B,F,pl,tb,dx,hG⟩:=h;exact⟨B,F,pl,tb,⟨hb.trans dx.b,hf.trans dx.f,λi b h1 h2=>dx.x i b (hf.2 _ _ h1) (hx i b h1 h2),dx.d⟩,hG⟩
theorem SO (hG:Gam P B F pl tb s env U) {mp:List (Nat×Option Nat)}:∀ (st:List (Nat×SV)) {e:List SV},gmatch.slots s mp st->SRs P B (Di pl mp) ZU e env->SRs P B (Di pl mp) ZU (st.foldl (λe p=>e.set p.1 p.2) e) env
 |[],e,_,h=>h
 |(j,v)::r,e,hs,h=>by
  simp only[gmatch.slots] at hs;simp only[xU];refine SO hG r hs.2 ?_;have:=h.set j (Kd v _ _ hs.1 (hG.env.getD j poison))
  grind [List.getElem?_eq_getElem,List.set_getElem_self,List.set_eq_of_length_le]
theorem Q4i {B:Heap}{pl:Nat->Value}{tb:Nat->Option Bool}:∀ (env:Env),SRs P B pl tb (List.replicate (List.length env) .any) env
 |[]=>by simp[SRs]
 |v::env=>by simp only[zJ,xr,SRs];exact⟨_,_,rfl,by simp[SR],Q4i env⟩
theorem G5 {B0 F0 D0:Heap}(hR:GRel P B0 F0 D0 s env U) {st:List (Nat×SV)}{ow:List (Nat×Src×OB)}(h:gmatch s st ow):GRel P B0 F0 D0 (ZF (List.length env) st ow) env U:=by
 obtain⟨B,F,pl,tb,hB,hG⟩:=hR;unfold gmatch at h;split at h
 .rename_i mp kU;obtain⟨h1,h2⟩:=h;have eE:=LW _ _ _ kU (λt t' a h=>by cases h);have aW:=O6 h2;have au:∀ t,(Qe (ZF (List.length env) st ow).own t).live=true->Z0b s mp t (Qe (ZF (List.length env) st ow).own t):=λt hl=>by
   rcases MM (f:=ow) [] t with⟨p,h3,h4,h5⟩|h3
   .have:=aW p h3;rw[h4,<-h5] at this;exact this
   .simp only[ZF] at hl;rw[h3] at hl;cases hl
  refine⟨B,F,Di pl mp,ZU,hB,hG.bf,hG.le,SO hG st h1 (Q4i env),λt=>?_,λt i hl hi=>?_,λt t' i aK hl cF hi dj=>?_,λ_ _=>rfl⟩
  .cases hl:(Qe (ZF (List.length env) st ow).own t).live with
   |true=>exact(Zo hG (au t hl)).1
   |false =>
    cases ho:Qe (ZF (List.length env) st ow).own t with
    |dead=>trivial
    |stk l vals =>
     rcases MM (f:=ow) [] t with⟨p,h3,h4,h5⟩|h3
     .have:=aW p h3;simp only[ZF] at ho
      grind [Zo]
     .simp only[ZF] at ho;rw[h3] at ho;cases ho
    |lpf l q u =>
     rcases MM (f:=ow) [] t with⟨p,h3,h4,h5⟩|h3
     .have:=aW p h3;simp only[ZF] at ho
      grind [Zo]
     .simp only[ZF] at ho;rw[h3] at ho;cases ho
    |_=>rw[ho] at hl;cases hl
  .obtain⟨a,_,h4,h5⟩:=(Zo hG (au t hl)).2 hl i hi;exact hG.fresh a i h4 h5
  .obtain⟨a,e1,h4,h5⟩:=(Zo hG (au t hl)).2 hl i hi;obtain⟨a',e2,iH,qm⟩:=(Zo hG (au t' cF)).2 cF i dj;by_cases e:a=a'
   .subst e;exact aK (eE t t' a e1 e2)
   .exact hG.sep a a' i e h4 iH h5 qm
 .exact h.elim
theorem O3 {α:Type}{o:Option α}{f:α->Prop}(h:Zc o f):∃ a,f a:=by
 cases o with
 |none=>exact h.elim
 |some a=>exact⟨a,h⟩
theorem COk.nx {C:Cx}(h:COk P C):COk P C.nx:=⟨h.cs,λf x hx=>(by cases hx),h.it,h.yl,h.iy,λf j _ x hx=>(by cases hx)⟩
theorem Kg {S:VSpecs}{Q:Prop}:∀ {ops:List DOper}{env:Env}{hs:List Heap}{U:Heap}{pend:List (Nat×(Heap->Prop))},JT S ops env hs U pend (λ_ _=>Q)->Q
 |[],_,_,_,_,h=>h
 |o::r,env,hs,U,pend,h=>by
  simp only[JT] at h;obtain⟨b,h⟩:=O3 h;cases b with
  |true =>
   have h:=h.1 rfl;split at h
   .obtain⟨v,U',_,_,h⟩:=h;exact Kg h
   .split at h
    .obtain⟨p,_,h⟩:=O3 h;exact Kg h
    .obtain⟨p,h⟩:=O3 h;exact Kg h
  |false =>
   have h:=h.2 rfl;split at h
   .exact Kg h.2
   .exact Kg h
theorem Ej {C:Cx}{s:St}{st:List (Nat×SV)}{ow:List (Nat×Src×OB)}{Q:Prop}:∀ (ls:List (List DOper)),Z4l C ls s st ow Q->(∀ l∈ls,Ww C.nx l s 1 0 [] [] λs'=>RG s.env.length s' st ow)/\Q
 |[],h=>⟨λl hl=>(by cases hl),h⟩
 |l::ls,h=>by obtain⟨h1,h2⟩:=h;obtain⟨h3,h4⟩:=Ej ls h2;simp_all
theorem Gf {B0 F0 D0:Heap}{s:St}{env:Env}{U:Heap}{n:Nat}(hR:GRel P B0 F0 D0 s env U) {st:List (Nat×SV)}{ow:List (Nat×Src×OB)}(h:RG n s st ow):GRel P B0 F0 D0 (ZF n st ow) env U:=by
 unfold RG at h;cases hb:Nat.beq s.env.length n with
 |false=>rw[hb] at h;exact h.elim
 |true =>
  rw[hb] at h;have hl:env.length=n:=by rw[<-zq hb];obtain⟨_,_,_,_,_,hG⟩:=hR;exact hG.env.length.symm
  rw[<-hl];exact G5 hR h
theorem Kc {C:Cx}(aE:COk P C) {B0 F0 D0:Heap}:∀ (bk:List DSeg) {s:St}{env:Env}{U:Heap},GRel P B0 F0 D0 s env U->∀ {K:St->Prop},OJ C bk s K->∀ {R:Env->Heap->Prop},(∀ s' al U',K s'->GRel P B0 F0 D0 s' al U'->R al U')->RQ (Q8 P) bk env U R
 |[],s,env,U,hR,K,h,R,hK=>hK s env U h hR
 |.one o::r,s,env,U,hR,K,h,R,hK=>by refine HG aE [o] hR (K:=λs'=>OJ C r s' K) h λs' al U' h1 h2=>?_;exact Kc aE r h2 h1 hK
 |.alts [l]::r,s,env,U,hR,K,h,R,hK=>by
  simp only[OJ] at h;cases hd:Z45 l with
  |false =>
   rw[hd] at h;simp only[zI] at h;cases hk:l.all (λo=>o.kind==o.op.kind) with
   |false=>rw[hk] at h;exact h.elim
   |true =>rw[hk] at h;simp only[zd] at h;intro ops ho;obtain rfl:=zO.1 ho;obtain⟨B,F,pl,tb,hB,hG⟩:=hR;have one:∀ (j:Nat) (Z:Heap),([U]:List Heap)[j]?=some Z->Z=U:=(by grind);exact Qz aE ops (by simp_all) hB hG (hl:=1) (chg:=0) (A:=[]) (Rd:=[]) ⟨rfl,λj Z _ ht=>one j Z ht,(λc hc=>absurd hc (by simp)),(by grind)⟩ (pend:=[]) (pd:=[]) (λc hc=>absurd hc (by simp)) (λj Z ht _=>by rw[one j Z ht];exact hG.leB) (Nat.zero_le _) (Nat.succ_pos _) h λs' al U' h1 h2=>⟨al,U',.refl _ _ _,Kc aE r h2 h1 hK⟩
  |true =>rw[hd] at h;refine Q9o (l:=l) hd ?_;exact HG aE _ hR h λs' al U' h1 h2=>Kc aE r h2 h1 hK
 |.alts []::r,s,env,U,hR,K,h,R,hK=>h.elim
 |.alts (l::l2::ls)::r,s,env,U,hR,K,h,R,hK=>by
  simp only[OJ] at h;cases hk:(l::l2::ls).all (λl=>l.all λo=>o.kind==o.op.kind) with
  |false=>rw[hk] at h;exact h.elim
  |true =>
   rw[hk] at h;simp only[zd] at h;obtain⟨B,F,pl,tb,hB,hG⟩:=hR;have one:∀ (j:Nat) (Z:Heap),([U]:List Heap)[j]?=some Z->Z=U:=(by grind);have run:∀ l'∈l::l2::ls,∀ {K':St->Prop},Ww C.nx l' s 1 0 [] [] K'->∀ {R':Env->Heap->Prop},(∀ s' al U',K' s'->GRel P B0 F0 D0 s' al U'->R' al U')->JT (Q8 P) l' env [U] U [] R':=λl' cF K' h' R' qh =>
    Qy aE.nx rfl l' (by grind) hB hG (hl:=1) (chg:=0) (A:=[]) (Rd:=[]) ⟨rfl,λj Z _ ht=>one j Z ht,(λc hc=>absurd hc (by simp)),(by grind)⟩ (pend:=[]) (pd:=[]) (λc hc=>absurd hc (by simp)) (λj Z ht _=>by rw[one j Z ht];exact hG.leB) (Nat.zero_le _) (Nat.succ_pos _) h' qh
   obtain⟨s0,h0,h1⟩:=Kg (run l zz h (R':=λ_ _=>∃ s0:St,_) λs' _ _ h' _=>⟨s',h'⟩);obtain⟨h2,h3⟩:=Ej _ h1;intro ops ho;rcases zK.1 ho with rfl|fS
   .refine Kl ?_;exact run ops ho h λs' al U' h' qn=>⟨al,U',.refl _ _ _,by
     obtain⟨k1,k2⟩:=h';exact Kc aE r (Gf qn k1) (Ej _ k2).2 hK⟩
   .refine Kl ?_;exact run ops ho (h2 ops fS) λs' al U' h' qn=>⟨al,U',.refl _ _ _,Kc aE r (Gf qn h') h3 hK⟩
theorem Ak:∀ (l:List Nat) (vs:List SV),(Z62 l vs).map (·.1)=l
 |[],_=>rfl
 |j::js,[]=>by simp[Z62,Ak js []]
 |j::js,v::vs=>by simp[Z62,Ak js vs]
theorem Hf {B:Heap}{pl:Nat->Value}{tb:Nat->Option Bool}:∀ {ps:List Nat}{xs:List SV}{us:List Value}{e:List SV}{env:Env},SRs P B pl tb xs us->SRs P B pl tb e env->SRs P B pl tb (TN e ps xs) (FK env ps us)
 |[],xs,us,e,env,_,h=>by simpa [TN,FK] using h
 |p::ps,[],us,e,env,hx,h=>by simp only[SRs] at hx;subst hx;simpa [TN,FK] using h
 |p::ps,x::xs,us,e,env,hx,h=>by simp only[SRs] at hx;obtain⟨u,jO,rfl,h1,h2⟩:=hx;simp only[TN,FK];exact Hf h2 (h.set p h1)
def J0x (F0:Heap):Option Nat->Prop
 |none=>True
 |some i=>∃ env r st pend,F0.get i=some (.obj (.lp env r st pend) true)
theorem Gam.dropLp {B F:Heap}{pl:Nat->Value}{tb:Nat->Option Bool}{s:St}{env:Env}{U:Heap}(hG:Gam P B F pl tb s env U) {o:Nat}{l:List SV}{q:LpD}{u:LpS}(ho:Qe s.own o=.lpf l q u) (hl:u.live=true) :
  Gam P B F pl tb ⟨l,oset s.own o .dead,s.nx⟩ q.vals (U.kill q.i)/\U.get q.i=some (.obj (.lp q.vals q.r u.st u.pend) true):=by
 have au:=hG.obj o;rw[ho] at au;obtain⟨h1,h2,h3⟩:=au;have iZ:(Qe s.own o).live=true:=by rw[ho];exact hl
 have l4:Oid (pl o) q.i:=by rw[h1];rfl
 have hF:=hG.fresh o q.i iZ l4;have lv:∀ d,(Qe (oset s.own o .dead) d).live=true->d≠o/\(Qe s.own d).live=true:=λd h=>by
  rw[Qn] at h;by_cases e:d=o
  .rw[z2 e] at h;cases h
  .rw[z0 e] at h;exact⟨e,h⟩
 refine⟨⟨hG.bf,⟨hG.le.1,λj b hb=>?_⟩,h2,λd=>?_,λd i hd hi=>hG.fresh d i (lv d hd).2 hi,λd d' i e h h'=>hG.sep d d' i e (lv d h).2 (lv d' h').2,hG.free⟩,h3 hl⟩
 .have e:j≠q.i:=by rintro rfl;rw[hF] at hb;cases hb
  rw[Heap.q0c _ e];exact hG.le.2 _ _ hb
 .rw[Qn];by_cases e:d=o
  .rw[z2 e];trivial
  .rw[z0 e];refine (hG.obj d).mono (.refl _) (λ_ _ h=>h) λhd i hi=>?_;have:i≠q.i:=by rintro rfl;exact hG.sep d o q.i e hd iZ hi l4
   exact Heap.q0c _ this
theorem Q9i (s:St) (o:Nat) (b:OB) (j:Nat):Qe (s.make o b).own j=if j=o then b else (Qe s.own j).kill o:=by
 simp only[St.make,Qn];by_cases h:j=o
 .subst h;simp
 .simp only[h,if_false,St.kill,Mt]
theorem Gam.enterLp {B F:Heap}{pl:Nat->Value}{tb:Nat->Option Bool}{s:St}{env:Env}{U:Heap}(hG:Gam P B F pl tb s env U) {o aO:Nat}{l:List SV}{q:LpD}(ho:Qe s.own o=.lpf l q .rdy) (aK:o≠aO)
  {args:List SV}{us:List Value}(az:SRs P B pl tb args us) (ps:List Nat) :
  Gam P B (F.ins U q.i hG.le.1) (Xd pl aO poison) tb ⟨TN (SVs.kill aO l) ps (SVs.kill aO args),oset (Q2m aO env s).own o (.lpf (SVs.kill aO l) q .busy),s.nx⟩ (FK q.vals ps us) U:=by
 have q3:Gam P B F (Xd pl aO poison) tb (Q2m aO env s) env U:=by refine hG.make aO _ poison hG.le (λ_ _ _ _ _=>rfl) ?_ (λi hl _=>by cases hl);exact SRs.upd (.refl _) (λ_ _ h=>h) (λj hj=>by simp[Xd,hj]) _ _ hG.env
 have au:=hG.obj o;rw[ho] at au;obtain⟨h1,h2,h3⟩:=au;have iZ:(Qe s.own o).live=true:=by rw[ho];rfl
 have eF:Xd pl aO poison o=.pointer (some ⟨q.i,0,none⟩):=by simp[Xd,aK,h1]
 have uc:Qe (Q2m aO env s).own o=.lpf (SVs.kill aO l) q .rdy:=by have:=Q9i s aO (.stk (SVs.kill aO s.env) env) o;unfold Q2m;rw[this,z0 aK,ho];rfl
 have nF:(Qe (Q2m aO env s).own o).live=true:=by rw[uc];rfl
 have l4:Oid (Xd pl aO poison o) q.i:=by rw[eF];rfl
 have hF:=q3.fresh o q.i nF l4;have dy:SRs P B (Xd pl aO poison) tb (SVs.kill aO l) q.vals:=SRs.upd (.refl _) (λ_ _ h=>h) (λj hj=>by simp[Xd,hj]) _ _ h2;have ud:SRs P B (Xd pl aO poison) tb (SVs.kill aO args) us:=SRs.upd (.refl _) (λ_ _ h=>h) (λj hj=>by simp[Xd,hj]) _ _ az;have lv:∀ d,(Qe (oset (Q2m aO env s).own o (.lpf (SVs.kill aO l) q .busy)) d).live=true->d≠o/\(Qe (Q2m aO env s).own d).live=true:=λd h=>by
  rw[Qn] at h;by_cases e:d=o
  .rw[z2 e] at h;cases h
  .rw[z0 e] at h;exact⟨e,h⟩
 refine⟨q3.bf.trans (hG.le.ins _),hG.le.q1t _,Hf ud dy,λd=>?_,λd i hd hi=>?_,λd d' i e h h'=>q3.sep d d' i e (lv d h).2 (lv d' h').2,q3.free⟩
 .show OR P B _ tb U _ (Qe (oset _ o _) d);rw[Qn];by_cases e:d=o
  .subst e;rw[z2 rfl];exact⟨eF,dy,λh=>by cases h⟩
  .rw[z0 e];exact q3.obj d
 .obtain⟨e,rU⟩:=lv d hd;have:i≠q.i:=by rintro rfl;exact q3.sep d o q.i e rU nF hi l4
  rw[Heap.q0z _ _ _ this];exact q3.fresh d i rU hi
theorem Gam.leaveLp {B F:Heap}{pl:Nat->Value}{tb:Nat->Option Bool}{s:St}{env:Env}{U:Heap}(hG:Gam P B F pl tb s env U) {o aO:Nat}{l l2:List SV}{jN:List Value}{q:LpD}{b0:Blk}(hF:F.get q.i=some b0) (hB:B.get q.i=none)
  (h2:Qe s.own aO=.stk l2 jN) (ho:Qe s.own o=.lpf l q .busy) (u:LpS) :
  Gam P B (F.kill q.i) pl tb ⟨l2,oset (oset s.own aO .dead) o (.lpf l q u),s.nx⟩ jN (U.upd q.i (.obj (.lp q.vals q.r u.st u.pend) true)):=by
 have au:=hG.obj o;rw[ho] at au;obtain⟨k1,k2,_⟩:=au;have hk:=hG.obj aO;rw[h2] at hk;have hi:q.i<U.n:=U.lt (hG.le.2 _ _ hF);have aK:∀ {d i},(Qe s.own d).live=true->Oid (pl d) i->i≠q.i:=λh1 h2 e=>by have:=hG.fresh _ _ h1 h2;subst e;rw[hF] at this;cases this
 have l4:∀ i,Oid (pl o) i->i=q.i:=λi h=>by rw[k1] at h;exact(osj h).symm
 have hg:∀ d,Qe (oset (oset s.own aO .dead) o (.lpf l q u)) d=if d=o then .lpf l q u else if d=aO then .dead else Qe s.own d:=λd=>by rw[Qn,Qn]
 have lv:∀ d,d≠o->(Qe (oset (oset s.own aO .dead) o (.lpf l q u)) d).live=true->(Qe s.own d).live=true:=λd e h=>by
  rw[hg,z0 e] at h;split at h
  .cases h
  .exact h
 refine⟨⟨hG.bf.1,λj b hb=>?_⟩,⟨hG.le.1,λj b hb=>?_⟩,hk,λd=>?_,λd i hd dj=>?_,λd d' i e h h' h1 oG=>?_,hG.free⟩
 .have e:j≠q.i:=by rintro rfl;rw[hB] at hb;cases hb
  rw[Heap.q0c _ e];exact hG.bf.2 _ _ hb
 .by_cases e:j=q.i
  .grind [Heap.q0f]
  .rw[Heap.q0c _ e] at hb;rw[Heap.q0b _ _ e];exact hG.le.2 _ _ hb
 .show OR P B pl tb _ _ (Qe (oset _ o _) d);rw[hg];by_cases e:d=o
  .subst e;rw[z2 rfl];exact⟨k1,k2,λ_=>Heap.q0d _ _ hi⟩
  .rw[z0 e];split
   .trivial
   .exact(hG.obj d).mono (.refl _) (λ_ _ h=>h) (by grind [Heap.q0b])
 .by_cases e:d=o
  .grind [Heap.q0f]
  .rw[Heap.q0c _ (aK (lv d e hd) dj)];exact hG.fresh d i (lv d e hd) dj
 .by_cases e1:d=o
  .grind
  .by_cases e2:d'=o
   .grind
   .exact hG.sep d d' i e (lv d e1 h) (lv d' e2 h') h1 oG
theorem KU {C:Cx}(aE:COk P C) {L:List (Nat×LoopAnn)}(vc:VCode):∀ {B0 F0 D0:Heap}(n:Nat) (K:Exit->St->Prop) (s:St) (env:Env) (U:Heap) (ro:Option Nat) (Q:Exit->Env->Heap->Prop),J0x F0 ro->GRel P B0 F0 D0 s env U->gwp C L vc n K s->(∀ e s' al U',K e s'->GRel P B0 F0 D0 s' al U'->Q e al U')->vwp (Q8 P) vc ro Q env U:=by
 induction vc with
 |skip=>intro B0 F0 D0 n K s env U ro Q bY hR h hK;exact hK _ _ _ _ h hR
 |region ops=>intro B0 F0 D0 n K s env U ro Q bY hR h hK;exact HG aE ops hR h (by grind)
 |regionD bk=>intro B0 F0 D0 n K s env U ro Q bY hR h hK;exact Kc aE bk hR h (by grind)
 |rangeF g ps a b kW kX =>
  intro B0 F0 D0 n K s env U ro Q bY hR h hK;simp only[gwp] at h;split at h
  .rename_i f first dk hg
   split at h
   .
    rename_i x hx;obtain⟨B,F,pl,tb,hB,hG⟩:=hR;have gu:=hG.evs (Gds.nil (tb:=tb)) g;rw[hg] at gu;simp only[SR] at gu;obtain⟨x',y',b8,kY,nG⟩:=gu;obtain⟨gT,uf⟩:=aE.iy f x hx;show vwp (Q8 P) (.rangeF g ps a b) ro Q env U;simp only[vwp,Q4d,b8];have kZ:(Q8 P).it f=some λi Y args U K=>Hj P i Y->VCallsTo P f args U K:=by simp only[Q8];rw[z2 gT]
    rw[kZ];refine⟨?_,λr hY=>?_⟩
    .cases ro with
     |none=>trivial
     |some i =>obtain⟨e1,r1,st1,qo,hi⟩:=bY;exact⟨e1,r1,st1,qo,hG.le.2 _ _ (hB.f.2 _ _ hi)⟩
    generalize jx:C.off+2000000+n=o at h;generalize fD:100000*(o+1)-1=aO at h;have av:o≠aO:=by omega
    let q:LpD:=⟨U.n,env,r⟩;let rdy:Blk:=.obj (.lp env r .ready none) true;let eW:Blk:=.obj (.lp env r .busy none) true;let p0:Value:=.pointer (some ⟨U.n,0,none⟩);have ig:Gam P B F (Xd pl o p0) tb (J1a o q s) env (U.push rdy):=by refine hG.push o (.lpf (SVs.kill o s.env) q .rdy) p0 rdy rfl ⟨rfl,SRs.upd (.refl _) (λ_ _ h=>h) (λj hj=>by simp[Xd,hj]) _ _ hG.env,λ_=>Heap.q0a _ _⟩
    have kl:∀ {xs us},SRs P B pl tb xs us->SRs P B (Xd pl o p0) tb (SVs.kill o xs) us:=λh=>SRs.upd (.refl _) (λ_ _ h=>h) (λj hj=>by simp[Xd,hj]) _ _ h;have az:SRs P B (Xd pl o p0) tb (SVs.kill o first++(.dd o .yv::SVs.kill o dk)) (x'++(.func (.yield U.n) #[] #[]::y')):=by refine (kl kY).append ?_;simp only[SRs,SR,DR];exact⟨_,_,rfl,⟨U.n,by simp[Xd,p0],rfl⟩,kl nG⟩
    have ug:Z2m P o (Z0d o aO ps.length q (λK' s'=>gwp C L a n (Z2a (λs3=>gwp C L b n K' s3) λ_ _=>False) s') ps):=by
     intro B F pl tb s al U args us K R i hG ha hy eF hK;unfold Z0d at hy;split at hy
     .rename_i l q' u ho;split at hy
      .cases hlen:Nat.beq args.length ps.length with
       |false=>rw[hlen] at hy;exact hy.elim
       |true =>
       rw[hlen] at hy;simp only[zd] at hy;obtain⟨rfl,hy⟩:=hy;have au:=hG.obj o;rw[ho] at au;have hi:i=q.i:=by have h1:=au.1;simp_all
       subst hi;have l5:U.get q.i=some rdy:=au.2.2 rfl;have iZ:(Qe s.own o).live=true:=by rw[ho];rfl
       have nk:F.get q.i=none:=hG.fresh o q.i iZ (by rw[au.1];rfl);have rV:B.get q.i=none:=by
        cases hb:B.get q.i with
        |none=>rfl
        |some b=>rw[hG.bf.2 _ _ hb] at nk;cases nk
       have jT:=hG.enterLp ho av ha ps;have jm:(F.ins U q.i hG.le.1).get q.i=some rdy:=by rw[Heap.q0n];exact l5
       have gA:(F.ins U q.i hG.le.1).n=U.n:=rfl;have a7:q.i<U.n:=U.lt l5;refine hY us U R ⟨l5,by rw[<-ha.length];exact(zq hlen),?_⟩;refine kW (B0:=B) (F0:=F.ins U q.i hG.le.1) (D0:=U) n _ _ _ U (some q.i) _ ⟨env,r,_,_,jm⟩ ⟨B,_,_,tb,.of jT.bf (Dead.refl _),jT⟩ (hy al) λe s3 qp σ3 h7 h8=>?_;cases e with
       |normal =>
        have kz:σ3.get q.i=some rdy:=by obtain⟨B',F',pl',tb',q1,q2⟩:=h8;exact q2.le.2 _ _ (q1.f.2 _ _ jm)
        refine⟨kz,?_⟩;have h9:=h8.lpUpd (b:=eW) jm rV;have l6:((F.ins U q.i hG.le.1).upd q.i eW).get q.i=some eW:=(by grind [Heap.q0d]);refine kX (B0:=B) (F0:=(F.ins U q.i hG.le.1).upd q.i eW) (D0:=U) n _ _ _ _ (some q.i) _ ⟨env,r,_,_,l6⟩ h9 h7 λe s4 qq σ4 bM gb=>?_;obtain⟨B',F',pl',tb',q1,q2⟩:=gb;have oJ:=q1.f.2 _ _ l6;have qs:=q1.x _ _ l6 rV;have k_:σ4.get q.i=some eW:=q2.le.2 _ _ oJ;unfold gyK at bM;split at bM
        .rename_i l2 jN l3 q3 u3 aC qt;split at bM
         .obtain⟨rfl,rfl,bM⟩:=bM;have base:∀ b,GBase B F U B' (F'.kill q.i) (σ4.upd q.i b):=λb=>by
           refine⟨q1.b,⟨?_,λj c hc=>?_⟩,λj c h1 h2=>?_,q1.d.trans (Dead.upd _ _ _ (by rw[k_];rfl))⟩
           .have h1:=q1.f.1;have h2:=hG.le.1;show F.n<=F'.n;have h3:((F.ins U q.i hG.le.1).upd q.i eW).n=U.n:=rfl;omega
           .have e:j≠q.i:=by rintro rfl;rw[nk] at hc;cases hc
            rw[Heap.q0c _ e];refine q1.f.2 _ _ ?_
            grind [Heap.q0b,Heap.q0z]
           .have e:j≠q.i:=by rintro rfl;rw[nk] at h1;cases h1
            refine q1.x j c ?_ h2
            grind [Heap.q0b,Heap.q0z]
          refine⟨k_,?_⟩;cases e with
          |normal=>exact hK _ _ B' _ pl' tb' _ _ bM (base _) (q2.leaveLp oJ qs aC qt .rdy) (by simp[SR,KC])
          |ret=>exact hK _ _ B' _ pl' tb' _ _ bM (base _) (q2.leaveLp oJ qs aC qt .ret) (by simp[SR,KC])
          |exit id=>exact hK _ _ B' _ pl' tb' _ _ bM (base _) (q2.leaveLp oJ qs aC qt (.exit id)) (by simp[SR,KC])
          |_=>exact bM.elim
         .exact bM.elim
        .exact bM.elim
       |_=>exact h7.elim
      .exact hy.elim
     .exact hy.elim
    have aZ:=uf B F _ tb _ env (U.push rdy) o _ _ _ (Z4u o q K) (λZ=>Z3u Q env U.n poison Z) ig az ug (h q) λs' B' F' pl' tb' al U' hk hb gy=>by
     unfold Z4u at hk;split at hk
     .rename_i l q' u ho;have fin:∀ {e:Exit},u.live=true->q'=q->K e ⟨l,oset s'.own o .dead,s'.nx⟩->Q e env (U'.kill U.n)/\U'.get U.n=some (.obj (.lp env r u.st u.pend) true):=λ{e} hu hq uh=>by
       subst hq;obtain⟨g1,g2⟩:=gy.dropLp ho hu;refine⟨hK _ _ _ _ uh ⟨B',F',pl',tb',⟨hB.b.trans hb.b,hB.f.trans hb.f,λj c h1 h2=>hb.x j c (hB.f.2 _ _ h1) (hB.x j c h1 h2),hB.d.trans ((Dead.push _ _).trans (hb.d.trans (Dead.kill _ _)))⟩,g1⟩,g2⟩
      cases u with
      |busy=>exact hk.elim
      |rdy =>obtain⟨hq,hk⟩:=hk;obtain⟨k1,k2⟩:=fin rfl hq hk;unfold Z3u;rw[k2];exact⟨(by intro h;cases h),k1⟩
      |ret =>obtain⟨hq,hk⟩:=hk;obtain⟨k1,k2⟩:=fin rfl hq hk;unfold Z3u;rw[k2];exact⟨(by intro h;cases h),k1⟩
      |exit id =>obtain⟨hq,hk⟩:=hk;obtain⟨k1,k2⟩:=fin rfl hq hk;unfold Z3u;rw[k2];exact⟨(by intro h;cases h),k1⟩
     .exact hk.elim
    refine VCallsTo.mono (R:=λ_ Z=>Z3u Q env U.n poison Z) (by simpa using aZ) λv Z h=>h
   split at h
   rotate_left
   .exact h.elim
   split at h
   .rename_i it s1 cm A pM qu hA;split at h
    .rename_i c m ar xs hc;cases gC:Nat.beq ps.length ar with
     |false=>rw[gC] at h;exact h.elim
     |true =>
     rw[gC] at h;simp only[zd] at h;obtain⟨eM,p,d0,eO,I,ui,rW,uj⟩:=h;have gC:=zq gC;have hlen:s.env.length=env.length:=by obtain⟨B,F,pl,tb,_,hG⟩:=hR;exact hG.env.length
     rw[hlen] at rW uj;have qf:=hR;obtain⟨B,F,pl,tb,hB,hG⟩:=hR;have gu:=hG.evs Gds.nil g;rw[hg] at gu;simp only[SR] at gu;obtain⟨x,y,b8,hx,hy⟩:=gu;simp only[SRs] at hx;subst hx;obtain⟨B1,F1,nH,nJ,uk,lR⟩:=Se hG hy qu;obtain⟨gT,qv⟩:=aE.it f it pM;obtain⟨nK,qw⟩:=qv B1 cm y c m ar xs uk hc eM;have um:GRel P B1 F1 D0 (ZF (List.length env) (A.st p d0) (A.own p d0)) env U:=G5 ⟨B1,F1,pl,tb,⟨.refl _,.refl _,λ_ _ _ h=>h,(hB.trans nH).d⟩,nJ⟩ eO;have l7:B1.get U.n=none:=B1.wf _ nJ.leB.1;have vX:F1.get U.n=none:=F1.wf _ nJ.le.1;show vwp (Q8 P) (.rangeF g ps a b) ro Q env U;simp only[vwp,Q4d,b8];have kZ:(Q8 P).it f=some λi Y args U K=>Hj P i Y->VCallsTo P f args U K:=by simp only[Q8];rw[z2 gT]
     rw[kZ];refine⟨?_,λr hY=>?_⟩
     .cases ro with
      |none=>trivial
      |some i =>obtain⟨e1,r1,st1,qo,hi⟩:=bY;exact⟨e1,r1,st1,qo,hG.le.2 _ _ (hB.f.2 _ _ hi)⟩
     .let rdy:Blk:=.obj (.lp env r .ready none) true;let eW:Blk:=.obj (.lp env r .busy none) true;have jU:F1.Le (U.push rdy):=nJ.le.push rdy;let Fr:=F1.ins (U.push rdy) U.n jU.1;have jm:Fr.get U.n=some rdy:=by
       grind [Heap.q0n,Heap.q0a]
      have gA:Fr.n=U.n+1:=rfl;have uo:F1.Le Fr:=jU.ins U.n;let J:Nat->Heap->Prop:=λk Z=>∃ d,I k d/\GRel P B1 Fr D0 (ZF (List.length env) (A.st p d) (A.own p d)) env Z;let E:Heap->Prop:=λZ=>∃ cd e,Z.get U.n=some (.obj (.lp env r .done (some cd)) true)/\((cd=.ret/\e=Exit.ret)\/∃ id,cd=.exit id/\e=Exit.exit id)/\Q e env (Z.kill U.n);have back:∀ {s':St}{Z:Heap},GRel P B1 (Fr.upd U.n eW) D0 s' env Z->∀ b,GRel P B1 ((Fr.upd U.n eW).upd U.n b) D0 s' env (Z.upd U.n b):=λh b =>
       h.lpUpd (b0:=eW) (Heap.q0d _ _ (by rw[gA];omega)) l7
      have jV:∀ {Fx:Heap}{b0:Blk}{s':St}{Z:Heap},Fx.get U.n=some b0->(∀ i,i≠U.n->Fx.get i=F1.get i)->Fx.n=U.n+1->GRel P B1 Fx D0 s' env Z->GRel P B0 F0 D0 s' env (Z.kill U.n):=λ{Fx b0 s' Z} h1 h2 h3 h4=>by
       refine (h4.lpKill h1 l7).base (hB.b.trans nH.b) ⟨?_,λi b hb=>?_⟩ λi b k1 k2=>(hB.trans nH).x i b k1 k2
       .show F0.n<=Fx.n;rw[h3];have:=(hB.trans nH).f.1;have:=nJ.le.1;omega
       .have bF:=(hB.trans nH).f.2 _ _ hb
        grind [Heap.q0c]
      have qx:∀ i,i≠U.n->Fr.get i=F1.get i:=λi e=>Heap.q0z _ _ _ e;have aZ:=qw U.n _ J E (U.push rdy) hY (λk Z ⟨d,_,hd⟩=>?_) (λk us Z hk ⟨d,rX,hd⟩ eo=>?_) ⟨d0,ui,?_⟩
      .refine VCallsTo.mono (R:=λ_ Z=>J m Z\/E Z) (by simpa using aZ) λv Z rK=>?_;unfold Z3u;rcases rK with⟨d,rX,hd⟩|⟨cd,e,h1,h2,h3⟩
       .have l5:Z.get U.n=some rdy:=by
         obtain⟨B',F',pl',tb',q1,q2⟩:=hd;exact q2.le.2 _ _ (q1.f.2 _ _ jm)
        grind
       grind
      .obtain⟨B',F',pl',tb',q1,q2⟩:=hd;exact q1.b.trans q2.leB
      .
       have l5:Z.get U.n=some rdy:=by obtain⟨B',F',pl',tb',q1,q2⟩:=hd;exact q2.le.2 _ _ (q1.f.2 _ _ jm)
       refine⟨l5,by rw[gC,<-(nK k).1,eo.length],?_⟩;have hF:=rW k d hk rX env;have aY:GRel P B1 Fr D0 ⟨TN (Q2m (2000000+n) env (ZF (List.length env) (A.st p d) (A.own p d))).env ps (xs k),(Q2m (2000000+n) env (ZF (List.length env) (A.st p d) (A.own p d))).own,0⟩ (FK env ps us) Z:=by
        obtain⟨B',F',pl',tb',q1,q2⟩:=hd;have q3:Gam P B' F' (Xd pl' (2000000+n) poison) tb' (Q2m (2000000+n) env (ZF (List.length env) (A.st p d) (A.own p d))) env Z:=by refine q2.make (2000000+n) _ poison q2.le (λ_ _ _ _ _=>rfl) ?_ (λi hl _=>by cases hl);exact SRs.upd (.refl _) (λ_ _ h=>h) (λj hj=>by simp[Xd,hj]) _ _ q2.env
        refine⟨B',F',Xd pl' (2000000+n) poison,tb',q1,⟨q3.bf,q3.le,Hf ?_ q3.env,q3.obj,q3.fresh,q3.sep,?_⟩⟩
        .exact SRs.mono q1.b (λ_ _ h=>h) _ _ (Zb _ _ (nK k).2 eo)
        .exact q3.free
       refine kW (B0:=B1) (F0:=Fr) n _ _ _ Z (some U.n) _ ⟨env,r,_,_,jm⟩ aY hF λe s3 qp σ3 h7 h8=>?_;cases e with
       |normal =>
        have kz:σ3.get U.n=some rdy:=by obtain⟨B',F',pl',tb',q1,q2⟩:=h8;exact q2.le.2 _ _ (q1.f.2 _ _ jm)
        refine⟨kz,?_⟩;have h9:=h8.lpUpd (b:=eW) jm l7;have l6:(Fr.upd U.n eW).get U.n=some eW:=Heap.q0d _ _ (by rw[gA];omega);refine kX (B0:=B1) (F0:=Fr.upd U.n eW) n _ _ _ _ (some U.n) _ ⟨env,r,_,_,l6⟩ h9 h7 λe s4 qq σ4 bM gb=>?_;have k_:σ4.get U.n=some eW:=by obtain⟨B',F',pl',tb',q1,q2⟩:=gb;exact q2.le.2 _ _ (q1.f.2 _ _ l6)
        have rY:U.n<σ4.n:=σ4.lt k_;unfold Z0r at bM;split at bM
        .rename_i l vs eI;obtain⟨rfl,bM⟩:=bM;have dz:GRel P B1 (Fr.upd U.n eW) D0 ⟨l,s4.own,s4.nx⟩ vs σ4:=by
          obtain⟨B',F',pl',tb',q1,q2⟩:=gb;have:=q2.obj (2000000+n);rw[eI] at this;exact⟨B',F',pl',tb',q1,q2.bf,q2.le,this,q2.obj,q2.fresh,q2.sep,q2.free⟩
         have nL:∀ b,((Fr.upd U.n eW).upd U.n b).get U.n=some b:=λb=>Heap.q0d _ _ (by show U.n<Fr.n;rw[gA];omega);have rZ:∀ b i,i≠U.n->((Fr.upd U.n eW).upd U.n b).get i=F1.get i:=(by grind [Heap.q0b]);refine⟨k_,?_⟩;cases e with
         |normal =>
          obtain⟨d',kI,uq⟩:=bM;refine .inl ⟨rfl,d',uq,?_⟩;have:=(back (G5 dz kI) rdy).base (B0:=B1) (F0:=Fr) (.refl _) ⟨z5 _,λi b hb=>?_⟩ λi b k1 k2=>k2
          .exact this
          .grind
         |ret =>refine .inr ⟨rfl,_,_,Heap.q0d _ _ rY,.inl ⟨rfl,rfl⟩,hK _ _ _ _ bM (jV (nL _) (rZ _) (by show Fr.n=_;exact gA) (back dz _))⟩
         |exit id =>refine .inr ⟨rfl,_,_,Heap.q0d _ _ rY,.inr ⟨id,rfl,rfl⟩,hK _ _ _ _ bM (jV (nL _) (rZ _) (by show Fr.n=_;exact gA) (back dz _))⟩
         |_=>exact bM.elim
        .exact bM.elim
       |_=>exact h7.elim
      .
       obtain⟨B',F',pl',tb',q1,q2⟩:=um;have hle:F'.Le (U.push rdy):=q2.le.push rdy;have ur:F'.get U.n=none:=F'.wf _ q2.le.1;have au:∀ d i,(Qe (ZF (List.length env) (A.st p d0) (A.own p d0)).own d).live=true->Oid (pl' d) i->i<U.n:=λd i h1 h2=>(q2.obj d).q0v h1 h2;refine⟨B',F'.ins (U.push rdy) U.n hle.1,pl',tb',⟨q1.b,Heap.q1v q1.f _ _ _,λi b k1 k2=>?_,q1.d.trans (Dead.push _ _)⟩,⟨q2.bf.trans (hle.ins _),hle.q1t _,q2.env,λd=>(q2.obj d).mono (.refl _) (λ_ _ h=>h) (by grind [Heap.q0l]),λd i h1 h2=>?_,q2.sep,q2.free⟩⟩
       .by_cases e:i=U.n
        .subst e;exact B'.wf _ q2.leB.1
        .rw[qx i e] at k1;exact q1.x i b k1 k2
       .rw[Heap.q0z _ _ _ (Nat.ne_of_lt (au d i h1 h2))];exact q2.fresh d i h1 h2
    .exact h.elim
   .exact h.elim
  .exact h.elim
 |bad=>intro B0 F0 D0 n K s env U ro Q bY hR h hK;exact h.elim
 |ret=>intro B0 F0 D0 n K s env U ro Q bY hR h hK;exact hK _ _ _ _ h hR
 |exit id=>intro B0 F0 D0 n K s env U ro Q bY hR h hK;exact hK _ _ _ _ h hR
 |seq a b kW kX =>
  intro B0 F0 D0 n K s env U ro Q bY hR h hK;refine kW n _ s env U ro _ bY hR h λe s' al U' h1 h2=>?_;cases e with
  |normal=>exact kX n K s' al U' ro Q bY h2 h1 hK
  |_=>exact hK _ _ _ _ h1 h2
 |cond c a b kW kX =>
  intro B0 F0 D0 n K s env U ro Q bY hR h hK;simp only[gwp] at h;split at h
  .rename_i t ht;have qf:=hR;obtain⟨B,F,pl,tb,hB,hG⟩:=hR;have:=BH hG ht;simp only[vwp,this,Z0a];cases t with
   |true=>exact⟨(by grind),λe=>by cases e⟩
   |false=>exact⟨(λe=>by cases e),(by grind)⟩
  split at h
  .rename_i t ht;obtain⟨B,F,pl,tb,hB,hG⟩:=hR;have:=WM ht (hG.evs Gds.nil c);simp only[vwp,this,Z0a];split at h
   .rename_i A hA;obtain⟨p,I,hF,hI⟩:=h;have fin:∀ e s' al U',Z4k s.env.length A p I K e s'->GRel P B0 F0 D0 s' al U'->Q e al U':=λe s' al U' h1 h2=>by
     cases e with
     |normal =>obtain⟨d,h3,h4⟩:=h1;exact hK _ _ _ _ (hI d h4) (Gf h2 h3)
     |_=>exact hK _ _ _ _ h1 h2
    exact⟨λe=>kW n _ s env U ro Q bY ⟨B,F,pl,tb,hB,hG⟩ (hF.1 e) fin,λe=>kX n _ s env U ro Q bY ⟨B,F,pl,tb,hB,hG⟩ (hF.2 e) fin⟩
   exact⟨λe=>kW n K s env U ro Q bY ⟨B,F,pl,tb,hB,hG⟩ (h.1 e) hK,λe=>kX n K s env U ro Q bY ⟨B,F,pl,tb,hB,hG⟩ (h.2 e) hK⟩
  .exact h.elim
 |block id b ih =>
  intro B0 F0 D0 n K s env U ro Q bY hR h hK;refine ih id _ s env U ro _ bY hR h λe s' al U' h1 h2=>?_;cases e with
  |exit j6 =>
   simp only[Q8n] at h1;simp only[Z0g];split
   .grind
   .grind
  |_=>exact hK _ _ _ _ h1 h2
 |loop b ih =>
  intro B0 F0 D0 n K s env U ro Q bY hR h hK;simp only[gwp] at h;split at h
  .rename_i A hA;obtain⟨p,d0,h1,I,μ,h2,h3⟩:=h;have hlen:s.env.length=env.length:=by obtain⟨B,F,pl,tb,_,hG⟩:=hR;exact hG.env.length
   have hk:∀ d,(A.st p d).map (·.1)=A.sl:=λd=>Ak _ _;refine⟨A.sl,λm vs U'=>∃ d,I d/\μ d=m/\GRel P B0 F0 D0 (ZF s.env.length (A.st p d) (A.own p d)) (Um A.sl vs (List.replicate env.length poison)) U',μ d0,⟨d0,h2,rfl,?_⟩,λm vs U' ⟨d,h4,h5,h6⟩=>?_⟩
   .grind [SM]
   .refine ih n _ _ _ U' ro _ bY h6 (h3 d h4) λe s' al aM h7 h8=>?_;cases e with
    |normal =>
     simp only[Z3t] at h7;cases r6:J10 s'.own with
     |false=>rw[r6] at h7;exact h7.elim
     |true =>
     rw[r6] at h7;obtain⟨d',h9,bM,gb⟩:=h7;refine⟨μ d',by omega,d',bM,rfl,?_⟩;have:=SM h8 h9 s.env.length;rw[hk d',hlen] at this;rw[hlen];exact this
    |_=>exact hK _ _ _ _ h7 h8
  .exact h.elim
end
end Go.V
namespace Go.V
open Go
def Q0s (s:St):VResult->Option SV
 |.tmp t=>some (s.env.getD t .any)
 |.cell a agg size=>bif Nat.blt 0 size then Z15 s.own agg size (s.env.getD a .any) else none
def XB (s:St) (rs:List VResult):Option SV :=
 match rs with
 |[r]=>Q0s s r
 |rs=>(rs.mapM (Q0s s)).map .tup
def Z3m (mp:List (Nat×Option Nat)) (j:Nat) (a:Option Nat):Option (List (Nat×Option Nat)) :=
 if (Qw mp j).isSome then none else match a with
 |some x=>if mp.any λp=>p.2==some x then none else some (mp++[(j,a)])
 |none=>some (mp++[(j,a)])
mutual
def Q8d:SV->SV->List (Nat×Option Nat)->Option (List (Nat×Option Nat))
 |.lst j,v,mp=>match v with|.lst a=>Z3m mp j (some a)|.nilS=>Z3m mp j none|_=>none
 |.map j,v,mp=>match v with|.map a=>Z3m mp j (some a)|_=>none
 |.dd j w,v,mp=>match w with
  |.out=>(match v with
   |.dd a w'=>(match w' with|.out=>Z3m mp j (some a)|_=>none)
   |.nilS=>Z3m mp j none
   |_=>none)
  |_=>none
 |.box j _,v,mp=>match v with|.box a _=>Z3m mp j (some a)|_=>none
 |.agg l,v,mp=>match v with|.agg l'=>Q7o l l' mp|_=>none
 |.tup l,v,mp=>match v with|.tup l'=>Q7o l l' mp|_=>none
 |.any,_,mp=>some mp
 |.val _ _,_,mp=>some mp
 |.nilS,_,mp=>some mp
 |.nilP,_,mp=>some mp
 |.nilM,_,mp=>some mp
 |.nilF,_,mp=>some mp
 |.sub _ _ _ _,_,_|.elp _ _ _ _,_,_|.grd _ _,_,_|.cp _ _,_,_|.fn _ _ _,_,_|.rop _ _ _ _,_,_|.pf _ _ _ _,_,_|.bid _ _,_,_=>none
def Q7o:List SV->List SV->List (Nat×Option Nat)->Option (List (Nat×Option Nat))
 |[],_,mp=>some mp
 |s::ss,l,mp=>match l with
  |v::vs=>match Q8d s v mp with|some mp=>Q7o ss vs mp|none=>none
  |[]=>none
end
def Z3d (s:St) (mp:List (Nat×Option Nat)):Nat->List OB->Prop
 |_,[]=>True
 |j,b::r=>Z0b s mp j b/\Z3d s mp (j+1) r
def Wj (rs:List VResult) (v:SV) (bs:List OB):Exit->St->Prop:=λe s =>
 let fin:=match XB s rs with
  |some r=>(match Q8d v r [] with
   |some mp=>Sv mp v r/\Z3d s mp 0 bs
   |none=>False)
  |none=>False
 match e with
 |.normal=>fin
 |.ret=>fin
 |_=>False
section
variable {P:Program}{B F:Heap}{pl:Nat->Value}{tb:Nat->Option Bool}{s:St}{env:Env}{U:Heap}
theorem Ed (hG:Gam P B F pl tb s env U) {r:VResult}{v:SV}(h:Q0s s r=some v):∃ u,WL env U r=some u/\SR P B pl tb v u:=by
 cases r with
 |tmp t=>obtain rfl:=osj h;exact⟨_,rfl,hG.env.getD t undef⟩
 |cell a agg size =>
  simp only[Q0s] at h;cases hb:Nat.blt 0 size with
  |false=>rw[hb] at h;cases h
  |true =>rw[hb] at h;obtain⟨i,o,c,e,wr,t,u,h1,h2,h3,h4⟩:=Ek hG.leB hG.obj (by simpa [zy] using hb) h (hG.env.getD a undef);refine⟨u,?_,h4⟩;simp only[WL,Qc,Q5,h1,h2,h3];rfl
theorem Jm (hG:Gam P B F pl tb s env U) {rs:List VResult}{v:SV}(h:XB s rs=some v):∃ u,Xz env U rs=some u/\SR P B pl tb v u:=by
 have all:∀ (rs:List VResult) (l:List SV),rs.mapM (Q0s s)=some l->∃ us,rs.mapM (WL env U)=some us/\SRs P B pl tb l us:=by
  intro rs;induction rs with
  |nil=>intro l h;simp at h;subst h;exact⟨[],rfl,rfl⟩
  |cons r rs ih =>
   intro l h;rw[x4] at h;cases h1:Q0s s r with
   |none=>simp[h1] at h
   |some a =>
    cases h2:rs.mapM (Q0s s) with
    |none=>simp[h1,h2] at h
    |some l' =>simp[h1,h2] at h;subst h;obtain⟨u,h3,h4⟩:=Ed hG h1;obtain⟨us,h5,h6⟩:=ih l' h2;exact⟨u::us,by rw[x4];simp[h3,h5],by simp only[SRs];exact⟨u,us,rfl,h4,h6⟩⟩
 have tup:(rs.mapM (Q0s s)).map SV.tup=some v->∃ u,(rs.mapM (WL env U)).map (λvs=>Value.tuple vs.toArray)=some u/\SR P B pl tb v u:=λh=>by simp only[zi] at h;obtain⟨l,h1,rfl⟩:=h;obtain⟨us,h2,h3⟩:=all rs l h1;exact⟨.tuple us.toArray,by rw[h2];rfl,by simp only[SR];exact⟨us,rfl,h3⟩⟩
 match rs,h,tup with
 |[r],h,_=>exact Ed hG h
 |[],h,tup=>exact tup h
 |_::_::_,h,tup=>exact tup h
theorem C6 {mp bR:List (Nat×Option Nat)}{j:Nat}{a:Option Nat}(h:Z3m mp j a=some bR) (hi:Inj mp):Inj bR:=by
 unfold Z3m at h;split at h
 .cases h
 .split at h
  .rename_i x;split at h
   .cases h
   .rename_i hc;obtain rfl:=osj h;have dz:∀ d,Qw mp d≠some (some x):=(by grind [Q0y,List.any_eq_true]);intro t1 t2 a' h1 h2;rw[Nw] at h1 h2;split at h1
    .rename_i y1 e1;split at h2
     .rename_i y2 e2;obtain rfl:=osj h1;obtain rfl:=osj h2;exact hi t1 t2 a' e1 e2
     simp_all
    grind
  .obtain rfl:=osj h;intro t1 t2 a' h1 h2;rw[Nw] at h1 h2;split at h1
   .rename_i y1 e1;split at h2
    .rename_i y2 e2;obtain rfl:=osj h1;obtain rfl:=osj h2;exact hi t1 t2 a' e1 e2
    .split at h2<;>cases h2
   .split at h1<;>cases h1
mutual
theorem Q5a:∀ (v r:SV) (mp bR:List (Nat×Option Nat)),Q8d v r mp=some bR->Inj mp->Inj bR
 |.lst j,r,mp,bR,h,hi=>by
  simp only[Q8d] at h
  grind [C6]
 |.map j,r,mp,bR,h,hi=>by
  simp only[Q8d] at h
  grind [C6]
 |.dd j w,r,mp,bR,h,hi=>by
  simp only[Q8d] at h
  grind [C6]
 |.box j _,r,mp,bR,h,hi=>by
  simp only[Q8d] at h
  grind [C6]
 |.agg l,r,mp,bR,h,hi=>by
  simp only[Q8d] at h;split at h
  .exact Ei l _ mp bR h hi
  .cases h
 |.tup l,r,mp,bR,h,hi=>by
  simp only[Q8d] at h;split at h
  .exact Ei l _ mp bR h hi
  .cases h
 |.any,r,mp,bR,h,hi|.val _ _,r,mp,bR,h,hi|.nilS,r,mp,bR,h,hi|.nilP,r,mp,bR,h,hi|.nilM,r,mp,bR,h,hi|.nilF,r,mp,bR,h,hi=>by simp only[Q8d] at h;simp_all
 |.sub _ _ _ _,r,mp,bR,h,hi|.elp _ _ _ _,r,mp,bR,h,hi|.grd _ _,r,mp,bR,h,hi|.cp _ _,r,mp,bR,h,hi|.fn _ _ _,r,mp,bR,h,hi|.rop _ _ _ _,r,mp,bR,h,hi|.pf _ _ _ _,r,mp,bR,h,hi|.bid _ _,r,mp,bR,h,hi=>by cases h
theorem Ei:∀ (v r:List SV) (mp bR:List (Nat×Option Nat)),Q7o v r mp=some bR->Inj mp->Inj bR
 |[],r,mp,bR,h,hi=>by simp only[Q7o] at h;simp_all
 |s::ss,[],mp,bR,h,hi=>by cases h
 |s::ss,r::rs,mp,bR,h,hi=>by
  simp only[Q7o] at h;split at h
  .rename_i r7 h1;exact Ei ss rs r7 bR h (Q5a s r mp r7 h1 hi)
  .cases h
end
theorem Q1j {mp:List (Nat×Option Nat)}:∀ (bs:List OB) (n:Nat),Z3d s mp n bs->∀ j b,bs[j]?=some b->Z0b s mp (n+j) b
 |[],n,_,j,b,hj=>by simp at hj
 |b0::r,n,h,j,b,hj=>by
  obtain⟨h1,h2⟩:=h;cases j with
  |zero=>simp at hj;subst hj;exact h1
  |succ j =>
   have:=Q1j r (n+1) h2 j b (by simpa using hj)
   rwa [zo,xV 1 j] at this
mutual
theorem Q4h {n:Nat}{π:Nat->Nat}:∀ (v:SV) (u:Value),v.ret 0=true->SR P B pl tb v u->Ren n π u u
 |.val k x,u,h,hs=>by
  simp only[SR] at hs;cases k with
  |i ik=>simp only[KC] at hs;obtain rfl:=(zF hs).1;exact .plain _ rfl
  |bo=>simp only[KC] at hs;obtain rfl:=(zF hs).1;exact .plain _ rfl
  |st=>simp only[KC] at hs;obtain rfl:=(zF hs).1;exact .plain _ rfl
  |list k=>cases h
  |pair a b =>have h1:=KC.length hs;have h2:=a.size_pos;have h3:=b.size_pos;simp only[Kind.size,xm] at h1;omega
 |.nilS,u,_,hs|.nilP,u,_,hs|.nilM,u,_,hs|.nilF,u,_,hs=>by simp only[SR] at hs;subst hs;exact .plain _ rfl
 |.lst j,u,h,_|.box j _,u,h,_|.map j,u,h,_=>by simp[SV.ret,zy] at h
 |.dd j w,u,h,_=>by cases w<;>simp[SV.ret,zy] at h
 |.agg l,u,h,hs=>by simp only[SR] at hs;obtain⟨cs,rfl,h2⟩:=hs;have:=A3 (n:=n) (π:=π) l cs h h2;exact .agg _ _ rfl λi h3 _=>this _ (by simp)
 |.tup l,u,h,hs=>by simp only[SR] at hs;obtain⟨cs,rfl,h2⟩:=hs;have:=A3 (n:=n) (π:=π) l cs h h2;exact .tuple _ _ rfl λi h3 _=>this _ (by simp)
 |.any,_,h,_|.bid _ _,_,h,_|.grd _ _,_,h,_|.sub _ _ _ _,_,h,_|.elp _ _ _ _,_,h,_|.rop _ _ _ _,_,h,_|.cp _ _,_,h,_|.fn _ _ _,_,h,_|.pf _ _ _ _,_,h,_=>by cases h
theorem A3 {n:Nat}{π:Nat->Nat}:∀ (v:List SV) (u:List Value),SVs.ret 0 v=true->SRs P B pl tb v u->∀ x∈u,Ren n π x x
 |[],u,_,hs=>by simp only[SRs] at hs;subst hs;intro x hx;cases hx
 |s::ss,u,h,hs=>by
  simp only[SVs.ret,z1] at h;simp only[SRs] at hs;obtain⟨x,y,rfl,h1,h2⟩:=hs;intro z hz;rcases zK.1 hz with rfl|hz
  .exact Q4h s z h.1 h1
  .exact A3 ss y h.2 h2 z hz
end
theorem Q7d (exact:Bool) {σ0:Heap}{sf:St}{lb:Env}{σf:Heap}(hR:GRel P σ0 σ0 σ0 sf lb σf) {rs:List VResult}{v:SV}{bs:List OB}{e:Exit}(hv:v.ret bs.length=true) (hb:bs.all OB.ret=true) (h:Wj rs v bs e sf) (hx:exact=true->bs.all OB.isL=true/\NU v=true) :
  J0h σ0 rs (λu U'=>if exact then u=NM (Iz σ0 bs) v/\U'=Eu σ0 bs else Ret P σ0 v bs u U') e lb σf:=by
 have main:(match XB sf rs with
  |some r=>(match Q8d v r [] with
   |some mp=>Sv mp v r/\Z3d sf mp 0 bs
   |none=>False)
  |none=>False)->Zc (Xz lb σf rs) λu=>∃ v' U',DropTo σ0 u σf v' U'/\(if exact then v'=NM (Iz σ0 bs) v/\U'=Eu σ0 bs else Ret P σ0 v bs v' U'):=λh=>by
  split at h
  .rename_i r hr;split at h
   .rename_i mp kU;obtain⟨h1,h2⟩:=h;obtain⟨B,F,pl,tb,⟨hB,hF,_,hd⟩,hG⟩:=hR;obtain⟨u,h3,h4⟩:=Jm hG hr;have iN:=Kd v r u h1 h4;have eE:=Q5a v r [] mp kU (λt t' a h=>by cases h);have au:∀ j b,bs[j]?=some b->Z0b sf mp j b:=λj b hj=>by have:=Q1j bs 0 h2 j b hj;rwa [zN] at this
    rw[h3];have hle:σ0.Le σf:=hF.trans hG.le;have hA:Agree σ0 σf:=λi hi=>by
     cases hg:σ0.get i with
     |none=>exact hd.2 i hi hg
     |some b=>exact hle.2 i b hg
    have aX:∀ j b,bs[j]?=some b->OR P hNil (Di pl mp) ZU σf (Di pl mp j) b/\∀ i,Oid (Di pl mp j) i->σ0.get i=none/\σ0.n<=i:=λj b hj=>by
     obtain⟨k1,k2⟩:=Zo hG (au j b hj);have dp:=zg.1 hb b (xh hj);have aq:b.live=true:=by cases b<;>first|rfl|cases dp
     refine⟨k1.retd dp λ_ _=>rfl,λi hi=>?_⟩;obtain⟨a,e1,e2,e3⟩:=k2 aq i hi;have l7:=hG.fresh a i e2 e3;have hn:σ0.get i=none:=by
      cases hg:σ0.get i with
      |none=>rfl
      |some b=>rw[hF.2 i b hg] at l7;cases l7
     refine⟨hn,Nat.le_of_not_lt λaj=>?_⟩;have bL:=hd.2 i aj hn;have au:=hG.obj a;cases ho:Qe sf.own a with
     |dead=>rw[ho] at e2;cases e2
     |lst ty k xs nl =>
      rw[ho] at au;rcases au with⟨_,_,h2⟩|⟨_,i',cap,c,t,h2,_,h3,_⟩
      .rw[h2] at e3;cases e3
      .rw[h2] at e3;obtain rfl:=osj e3;rw[h3] at bL;cases bL
     |cells l u=>rw[ho] at au;obtain⟨i',c,e,t,h2,h3,_⟩:=au;rw[h2] at e3;obtain rfl:=osj e3;rw[h3] at bL;cases bL
     |mapE kk vk m key n=>rw[ho] at au;obtain⟨i',es,cl,r,e,h2,h3,_⟩:=au;rw[h2] at e3;obtain rfl:=osj e3;rw[h3] at bL;cases bL
     |map kk vk m=>rw[ho] at au;obtain⟨i',es,cl,h2,h3,_⟩:=au;rw[h2] at e3;obtain rfl:=osj e3;rw[h3] at bL;cases bL
     |stk l vals=>rw[ho] at e2;cases e2
     |lpf l q s=>rw[ho] at au e2;obtain⟨h2,_,h3⟩:=au;rw[h2] at e3;obtain rfl:=osj e3;have h3:=h3 e2;rw[bL] at h3;cases h3
     |iter kk vk m dn=>rw[ho] at au;obtain⟨j',i',es,cl,wr,seen,h2,h3,_⟩:=au;rw[h2] at e3;obtain rfl:=osj e3;rw[h3] at bL;cases bL
     |deep ty q k xs nl hh =>rw[ho] at au;obtain⟨is,_,d2,d3,_⟩:=DP.open au;obtain⟨c,e,t,h⟩:=d2.cells i ((d3 i).1 e3);rw[h] at bL;cases bL
    have ie:∀ j j' i,j<bs.length->j'<bs.length->j≠j'->Oid (Di pl mp j) i->Oid (Di pl mp j') i->False:=λj j' i hj di aK hi dj=>by
     have bF:=z3 hj;have bh:=z3 di;have r1:=zg.1 hb _ (zh hj);have r2:=zg.1 hb _ (zh di);have l1:(bs[j]).live=true:=by cases mi:bs[j]<;>first|rfl|(rw[mi] at r1;cases r1)
     have l2:(bs[j']).live=true:=by cases mi:bs[j']<;>first|rfl|(rw[mi] at r2;cases r2)
     obtain⟨a,e1,e2,e3⟩:=(Zo hG (au j _ bF)).2 l1 i hi;obtain⟨a',uu,qy,uv⟩:=(Zo hG (au j' _ bh)).2 l2 i dj;by_cases e:a=a'
     .subst e;exact aK (eE j j' a e1 uu)
     .exact hG.sep a a' i e e2 qy e3 uv
    cases hex:exact with
    |true =>obtain⟨hl,c_⟩:=hx hex;have nM:=Q6g (P:=P) hA hle.1 hv c_ hb hl (pl:=Di pl mp) (u:=u) (λj b hj=>⟨(aX j b hj).1,λi hi=>((aX j b hj).2 i (RX hi)).2⟩) (λj j' i a b c d e=>ie j j' i a b c (RX d) (RX e)) (iN.retd (λj hj=>rfl) _ _ hv);exact⟨_,_,nM,by simp⟩
    |false =>
     simp only[zk,if_false];by_cases bW:bs=[]
     .subst bW;refine⟨u,σ0,.rename (λi=>i) (z5 _) (λi hi=>⟨rfl,(hA i hi).symm,.inl (hA i hi)⟩) (λi k1 k2=>by omega) (λ_ _ _ _ _ _ h=>h) (Q4h v u hv iN),?_⟩;exact⟨⟨Heap.Le.refl _,Dead.refl _⟩,λ_=>rfl,X1,(λj b hj=>by simp at hj),(λj j' i hj=>by simp at hj),iN.retd (λj hj=>by simp at hj) _ _ hv⟩
     .exact⟨u,σf,.refl _ _ _,⟨hle,hd⟩,λe=>absurd e bW,Di pl mp,aX,ie,iN.retd (λj hj=>rfl) _ _ hv⟩
   .exact h.elim
  .exact h.elim
 cases e with
 |normal=>exact main h
 |ret=>exact main h
 |_=>exact h.elim
def Qp (nt:Nat) (args:List SV):St:=⟨args++List.replicate (nt-args.length) .any,[],0⟩
theorem Q6i {args:List SV}{vs:List Value}(h:SRs P U X1 ZU args vs) (nt:Nat):GRel P U U U (Qp nt args) (vs++List.replicate (nt-vs.length) undef) U:=by
 have uw:∀ n,SRs P U X1 ZU (List.replicate n .any) (List.replicate n undef):=by
  intro n;induction n with
  |zero=>simp[SRs]
  |succ n ih=>simp only[xr,SRs];exact⟨_,_,rfl,by simp[SR],ih⟩
 refine⟨U,U,X1,ZU,⟨Heap.Le.refl _,Heap.Le.refl _,(by simp_all),Dead.refl _⟩,Heap.Le.refl _,Heap.Le.refl _,?_,λd=>trivial,(λd i hl=>by cases hl),(λd d' i _ hl=>by cases hl),λ_ _=>rfl⟩;have:=h.length;simp only[Qp,this];exact h.append (uw _)
theorem Fun.okC {f:Nat}{vc:VCode}{rs:List VResult}{nt:Nat}(h:Fun P f vc rs nt) (hm:P.follows .mixedOrders=true) {sp:CSp}
  (hb:∀ ap,Q7s P ap->∀ args c v bs,sp ap args=some (c,v,bs)->c->∃ (C:Cx) (L:List (Nat×LoopAnn)) (b7:List SV),(∀ U vs,SRs P U X1 ZU args vs->SRs P U X1 ZU b7 vs)/\COk P C/\gwp C L vc 0 (Wj rs v bs) (Qp nt b7)):OkC P f sp:=by
 intro ap du U args vs c v bs az cQ hv bW hc;obtain⟨C,L,b7,h1,h2,h3⟩:=hb ap du args c v bs cQ hc;have main:∀ exact:Bool,(exact=true->bs.all OB.isL=true/\NU v=true)->VCalled P f vs U λu U'=>if exact then u=NM (Iz U bs) v/\U'=Eu U bs else Ret P U v bs u U':=λexact hx=>by refine h.calls hm Ol ?_;exact KU h2 vc 0 _ _ _ U none _ trivial (Q6i (h1 U vs az) nt) h3 λe s' al U' k1 k2=>Q7d exact k2 hv bW k1 hx
 simp_all
theorem OkC.true {f:Nat}{sp:CSp}(h:OkC P f sp) (he:Yq P f) {U:Heap}{args:List SV}{vs:List Value}(ha:SRs P U X1 ZU args vs) {c:Prop}(hs:sp (λ_ _=>none) args=some (c,.val .bo true,[])) (hc:c) :
  VCallsTo P f vs U λv _=>v=.bool true:=by
 have:=(h (λ_ _=>none) (λ_ _ _ _ _ _ _ _ _ h=>by cases h) U args vs c _ [] ha hs rfl rfl hc).1;intro ρ w aG hH hL;rcases this ρ w aG hH hL with⟨_,h2⟩|⟨c',_,h2⟩
 .refine h2.mono λe w' ⟨c',h3,h4⟩=>⟨c',h3,h4.mono λu U' hr=>?_⟩;have:=(hr.flat rfl).2;simpa only [SR,KC,List.cons.injEq,and_true] using this
 .have:=h2 w (Like.refl ρ w)
  grind [DS]
end
end Go.V
namespace Go.V
open Go
mutual
inductive AP:Type->Type 1 where
 |k (k:Kind):AP k.T
 |agg {D:Type}(l:AL D):AP D
 |ptr {D:Type}(l:AL D):AP D
 |fnx {D:Type}(g:Nat) (l:AL D):AP D
 |fn (ks:List Kind) (r:Kind):AP ((AT ks->Prop)×(AT ks->r.T))
 |nilS:AP Unit
 |any:AP Unit
 |int (k:IntKind) (n:Int):AP Unit
inductive AL:Type->Type 1 where
 |nil:AL Unit
 |one {D:Type}(a:AP D):AL D
 |cons {D E:Type}(a:AP D) (r:AL E):AL (D×E)
end
def IM:(ks:List Kind)->AT ks->List SV
 |[],_=>[]
 |[k],x=>[Z0f k x]
 |k::k'::ks,x=>Z0f k x.1::IM (k'::ks) x.2
abbrev Ap:=SV->List SV->Option (Prop×SV)
def Z1l (ap:Ap) (f:SV) (ks:List Kind) (r:Kind) (x:AT ks):Prop:=match ap f (IM ks x) with
 |some (c,v)=>(match gap.asV r v with|some _=>c|none=>False)
 |none=>False
def fnP (ap:Ap) (f:SV) (ks:List Kind) (r:Kind) (x:AT ks):r.T:=match ap f (IM ks x) with
 |some (_,v)=>(match gap.asV r v with|some y=>y|none=>r.dflt)
 |none=>r.dflt
mutual
def AP.dec (ap:Ap):{D:Type}->(p:AP D)->SV->Option D
 |_,.k k,v=>match k with
  |.list k=>view [] k v
  |.i ik=>EJ (.i ik) [v]
  |.bo=>EJ .bo [v]
  |.st=>EJ .st [v]
  |.pair _ _=>none
 |_,.agg l,v=>match v with|.agg vs=>AL.dec ap l vs|_=>none
 |_,.nilS,v=>match v with|.nilS=>some ()|_=>none
 |_,.any,_=>some ()
 |_,.int k n,v=>match EJ (.i k) [v] with|some x=>if (show Int from x)=n then some () else none|none=>none
 |_,.ptr l,v=>match v with|.cp vs 0=>AL.dec ap l vs|_=>none
 |_,.fnx g l,v=>match v with|.fn g' [] vs=>if g'=g then AL.dec ap l vs else none|_=>none
 |_,.fn ks r,v=>match v with
  |.fn g a b=>some (Z1l ap (.fn g a b) ks r,fnP ap (.fn g a b) ks r)
  |.pf r8 r' cE p=>some (Z1l ap (.pf r8 r' cE p) ks r,fnP ap (.pf r8 r' cE p) ks r)
  |_=>none
def AL.dec (ap:Ap):{D:Type}->(l:AL D)->List SV->Option D
 |_,.nil,vs=>match vs with|[]=>some ()|_=>none
 |_,.one a,vs=>match vs with|[v]=>AP.dec ap a v|_=>none
 |_,.cons a r,vs=>match vs with
  |v::vs=>(match AP.dec ap a v,AL.dec ap r vs with|some x,some y=>some (x,y)|_,_=>none)
  |[]=>none
end
mutual
def AP.can:{D:Type}->(p:AP D)->D->SV
 |_,.k k,x=>.val k x
 |_,.agg l,x=>.agg (AL.can l x)
 |_,.nilS,_=>.nilS
 |_,.any,_=>.any
 |_,.int k n,_=>.val (.i k) n
 |_,.ptr l,x=>.cp (AL.can l x) 0
 |_,.fnx g l,x=>.fn g [] (AL.can l x)
 |_,.fn ks r,x=>.pf ks r x.1 x.2
def AL.can:{D:Type}->(l:AL D)->D->List SV
 |_,.nil,_=>[]
 |_,.one a,x=>[AP.can a x]
 |_,.cons a r,x=>AP.can a x.1::AL.can r x.2
end
def XD {D:Type}(l:AL D) (pre:D->Prop) (res:D->SV) (obs:D->List OB):CSp:=λap args=>match AL.dec ap l args with
 |some d=>some (pre d,res d,obs d)
 |none=>none
section
variable {P:Program}{U:Heap}
theorem PX:∀ {ks:List Kind}{x:AT ks}{vs:List Value},I5 U ks x vs->SRs P U X1 ZU (IM ks x) vs
 |[],x,vs,h=>by simp only[I5] at h;subst h;simp[IM,SRs]
 |[k],x,vs,h=>by obtain⟨v,rfl,h1⟩:=h;simp only[IM,SRs];grind [W0]
 |k::k'::ks,x,vs,h=>by obtain⟨v,cq,rfl,h1,h2⟩:=h;simp only[IM,SRs];exact⟨v,cq,rfl,W0 h1,PX h2⟩
theorem Q44 {ap:Ap}(du:Q7s P ap) {f:SV}{v:Value}(hf:SR P U X1 ZU f v) (hv:∃ g a b,v=.func (.func g) a b) (ks:List Kind) (r:Kind):SR P U X1 ZU (.pf ks r (Z1l ap f ks r) (fnP ap f ks r)) v:=by
 obtain⟨g,a,b,rfl⟩:=hv;simp only[SR];refine⟨g,a,b,rfl,λx hd Z vs hle cy=>?_⟩;unfold Z1l at hd;split at hd
 .rename_i c u nN;split at hd
  .rename_i y hy;obtain⟨h1,g',a',b',h2,h3⟩:=du Z f (IM ks x) c u (.func (.func g) a b) vs (SR.mono hle (λ_ _ h=>h) _ _ hf) (PX cy) nN hd;obtain⟨rfl,rfl,rfl⟩:=(by simpa using h2:g=g'/\a=a'/\b=b');have hp:fnP ap f ks r x=y:=by simp[fnP,nN,hy]
   rw[hp];exact h3.mono λu' U' hu=>⟨hu.1,(AJ hy hu.2).vcall (Q5k _)⟩
  .exact hd.elim
 .exact hd.elim
mutual
theorem AP.q0i {ap:Ap}(du:Q7s P ap):∀ {D:Type}(p:AP D) {v:SV}{x:D}{u:Value},AP.dec ap p v=some x->SR P U X1 ZU v u->SR P U X1 ZU (AP.can p x) u
 |_,.k k,v,x,u,h,hs=>by
  have one:SRs P U X1 ZU [v] [u]:=by simp only[SRs];exact⟨u,[],rfl,hs,rfl⟩
  simp only[AP.can,SR];cases k with
  |list k =>have:=Ma (own:=[]) (Heap.Le.refl U) (λd=>(trivial:OR P U X1 ZU U (X1 d) .dead)) (show view [] k v=some x from h) hs;exact⟨u,rfl,this⟩
  |i ik=>exact QK (k:=.i ik) h one
  |bo=>exact QK (k:=.bo) h one
  |st=>exact QK (k:=.st) h one
  |pair a b=>cases h
 |_,.agg l,v,x,u,h,hs=>by
  simp only[AP.dec] at h;split at h
  .simp only[SR] at hs;obtain⟨cs,rfl,hs⟩:=hs;simp only[AP.can,SR];exact⟨cs,rfl,AL.q0i du l h hs⟩
  .cases h
 |_,.any,v,x,u,h,hs=>by simp only[AP.can,SR]
 |_,.int k n,v,x,u,h,hs=>by
  have one:SRs P U X1 ZU [v] [u]:=by simp only[SRs];exact⟨u,[],rfl,hs,rfl⟩
  simp only[AP.dec] at h;split at h
  .rename_i y hy;split at h
   .rename_i e;subst e;simp only[AP.can,SR];exact QK (k:=.i k) hy one
   .cases h
  .cases h
 |_,.nilS,v,x,u,h,hs=>by
  simp only[AP.dec] at h;split at h
  .simp only[AP.can];exact hs
  .cases h
 |_,.ptr l,v,x,u,h,hs=>by
  simp only[AP.dec] at h;split at h
  .simp only[SR] at hs;obtain⟨b,c,e,wr,t,h1,rfl,h3⟩:=hs;simp only[AP.can,SR];exact⟨b,c,e,wr,t,h1,rfl,AL.q0i du l h h3⟩
  .cases h
 |_,.fnx g l,v,x,u,h,hs=>by
  simp only[AP.dec] at h;split at h
  .split at h
   .rename_i e;subst e;simp only[SR] at hs;obtain⟨a,b,rfl,h1,h2⟩:=hs;simp only[AP.can,SR];exact⟨a,b,rfl,h1,AL.q0i du l h h2⟩
   .cases h
  .cases h
 |_,.fn ks r,v,x,u,h,hs=>by
  simp only[AP.dec] at h;split at h
  .obtain rfl:=osj h;exact Q44 du hs (by simp only[SR] at hs;grind) ks r
  .obtain rfl:=osj h;exact Q44 du hs (by simp only[SR] at hs;obtain⟨g,x,y,rfl,_⟩:=hs;exact⟨_,_,_,rfl⟩) ks r
  .cases h
theorem AL.q0i {ap:Ap}(du:Q7s P ap):∀ {D:Type}(l:AL D) {vs:List SV}{x:D}{us:List Value},AL.dec ap l vs=some x->SRs P U X1 ZU vs us->SRs P U X1 ZU (AL.can l x) us
 |_,.nil,vs,x,us,h,hs=>by
  simp only[AL.dec] at h;split at h
  .exact hs
  .cases h
 |_,.one a,vs,x,us,h,hs=>by
  simp only[AL.dec] at h;split at h
  .obtain⟨u,rfl,h1⟩:=hs.one;simp only[AL.can,SRs];exact⟨u,[],rfl,AP.q0i du a h h1,rfl⟩
  .cases h
 |_,.cons a r,vs,x,us,h,hs=>by
  simp only[AL.dec] at h;split at h
  .rename_i v cq;split at h
   .rename_i y z h1 h2;obtain rfl:=osj h;simp only[SRs] at hs;obtain⟨u,jO,rfl,h3,h4⟩:=hs;simp only[AL.can,SRs];exact⟨u,jO,rfl,AP.q0i du a h1 h3,AL.q0i du r h2 h4⟩
   .cases h
  .cases h
end
theorem CsOk.nil:CsOk P []:=λf sp h=>by cases h
theorem CsOk.cons {f:Nat}{sp:CSp}{cs:List (Nat×CSp)}(h:OkC P f sp) (t:CsOk P cs):CsOk P ((f,sp)::cs):=λg ux hg=>by
 simp only[Qw] at hg;cases hb:Nat.beq f g with
 |true=>rw[hb] at hg;obtain rfl:=zq hb;obtain rfl:=osj hg;exact h
 |false=>rw[hb] at hg;exact t g ux hg
theorem COk.cons {C:Cx}{f:Nat}{sp:CSp}(h:OkC P f sp) (t:COk P C):COk P {C with cs:=(f,sp)::C.cs}:=⟨CsOk.cons h t.cs,t.xs,t.it,t.yl,t.iy,t.xf⟩
theorem Z6b {f:Nat}{vc:VCode}{rs:List VResult}{nt:Nat}(h:Fun P f vc rs nt) (hm:P.follows .mixedOrders=true) {D:Type}{l:AL D}{pre:D->Prop}{res:D->SV}{obs:D->List OB}
  {C:Cx}(aE:COk P C) (L:D->List (Nat×LoopAnn)) (hb:∀ d,pre d->gwp C (L d) vc 0 (Wj rs (res d) (obs d)) (Qp nt (AL.can l d))):OkC P f (XD l pre res obs):=by
 refine h.okC hm λap du args c v bs hs hc=>?_;unfold XD at hs
 grind [AL.q0i]
theorem Qs {f:Nat}{vc:VCode}{rs:List VResult}{nt:Nat}(h:Fun P f vc rs nt) (hm:P.follows .mixedOrders=true) {D:Type}{l:AL D}{pre:D->Prop}{res:D->SV}{obs:D->List OB}
  {C:Cx}(aE:COk P C) {L:D->List (Nat×LoopAnn)}{V:D->Prop}(hq:∀ d,gwp C (L d) vc 0 (Wj rs (res d) (obs d)) (Qp nt (AL.can l d))=V d) (hb:∀ d,pre d->V d):OkC P f (XD l pre res obs) :=
 Z6b h hm aE L λd hp=>(hq d).mpr (hb d hp)
end
end Go.V
namespace Go.V
open Go
def Z9h (key:Nat) (vals:List Value) (rs:List VResult) (K:SV->St->Prop):Exit->St->Prop:=λe s =>
 let fin:=match XB s rs,Qe s.own key with
  |some r,.stk l vs=>vs=vals/\K r ⟨l,s.own,s.nx⟩
  |_,_=>False
 match e with
 |.normal=>fin
 |.ret=>fin
 |_=>False
def Q5s (C:Cx) (L:List Value->List (Nat×LoopAnn)) (vc:VCode) (rs:List VResult) (nt:Nat):XSp:=λd args s K =>
 ∀ vals,gwp {C with off:=100000*(d+1)} (L vals) vc 0 (Z9h (100000*(d+1)-1) vals rs K) ⟨SVs.kill (100000*(d+1)-1) args++List.replicate (nt-args.length) .any,(Q2m (100000*(d+1)-1) vals s).own,s.nx⟩
def Z6i (C:Cx) (L:List (Nat×LoopAnn)) (vc:VCode) (nt:Nat):Z5y:=λo args y s K =>
 gwp {C with off:=100000*(o+1),yl:=[y]} L vc 0 (λe s'=>match e with|.normal=>K s'|.ret=>K s'|_=>False) ⟨args++List.replicate (nt-args.length) .any,s.own,s.nx⟩
section
variable {P:Program}
theorem Bl {B:Heap}{pl:Nat->Value}{tb:Nat->Option Bool}:∀ n,SRs P B pl tb (List.replicate n .any) (List.replicate n undef)
 |0=>by simp[SRs]
 |n+1=>by simp only[xr,SRs];exact⟨_,_,rfl,by simp[SR],Bl n⟩
theorem Vc {f:Nat}{vc:VCode}{rs:List VResult}{nt:Nat}(h:Fun P f vc rs nt) (hm:P.follows .mixedOrders=true) {C:Cx}(aE:COk P C) (L:List Value->List (Nat×LoopAnn)):XOk P f (Q5s C L vc rs nt):=by
 intro B F pl tb s env U d args vs K R hG ha hx hK;have hx:=hx env;refine h.calls hm Ol ?_;have q3:Gam P B F (Xd pl (100000*(d+1)-1) poison) tb (Q2m (100000*(d+1)-1) env s) env U:=by refine hG.make _ _ poison hG.le (λ_ _ _ _ _=>rfl) ?_ (λi hl _=>by cases hl);exact SRs.upd (.refl _) (λ_ _ h=>h) (λj hj=>by simp[Xd,hj]) _ _ hG.env
 have dF:COk P {C with off:=100000*(d+1)}:=⟨aE.cs,aE.xs,aE.it,aE.yl,aE.iy,aE.xf⟩;have az:=SRs.upd (P:=P) (Heap.Le.refl B) (λ_ _ h=>h) (pl':=Xd pl (100000*(d+1)-1) poison) (tb':=tb) (o:=100000*(d+1)-1) (λj hj=>by simp[Xd,hj]) _ _ ha;have aY:GRel P B F U ⟨SVs.kill (100000*(d+1)-1) args++List.replicate (nt-args.length) .any,(Q2m (100000*(d+1)-1) env s).own,s.nx⟩ (vs++List.replicate (nt-vs.length) undef) U:=by refine⟨B,F,_,tb,.of hG.bf (.refl _),⟨q3.bf,q3.le,?_,q3.obj,q3.fresh,q3.sep,q3.free⟩⟩;rw[ha.length];exact az.append (Bl _)
 refine KU dF vc 0 _ _ _ U none _ trivial aY hx λe s' al U' h1 h2=>?_
 .have main:(match XB s' rs,Qe s'.own (100000*(d+1)-1) with
   |some r,.stk l vs=>vs=env/\K r ⟨l,s'.own,s'.nx⟩
   |_,_=>False)->Zc (Xz al U' rs) λv=>∃ v' aM,DropTo U v U' v' aM/\R v' aM:=λh=>by
   obtain⟨B',F',pl',tb',k1,k2⟩:=h2;split at h
   .rename_i r l cq hr eI;obtain⟨rfl,h⟩:=h;obtain⟨u,h3,h4⟩:=Jm k2 hr;rw[h3];have au:=k2.obj (100000*(d+1)-1);rw[eI] at au;exact⟨u,U',.refl _ _ _,hK r _ B' F' pl' tb' u U' h k1 ⟨k2.bf,k2.le,au,k2.obj,k2.fresh,k2.sep,k2.free⟩ h4⟩
   .exact h.elim
  cases e with
  |normal=>exact main h1
  |ret=>exact main h1
  |_=>exact h1.elim
theorem OQ {f:Nat}{vc:VCode}{nt:Nat}(h:Fun P f vc [] nt) (hm:P.follows .mixedOrders=true) {C:Cx}(aE:COk P C) (L:List (Nat×LoopAnn)):Z5x P f (Z6i C L vc nt):=by
 refine⟨h.enterable,λB F pl tb s env U o args vs y K R hG ha hy hx hK=>h.callsTo hm Ol ?_⟩;have dF:COk P {C with off:=100000*(o+1),yl:=[(o,y)]}:=⟨aE.cs,aE.xs,aE.it,λo' y' h'=>by
  simp only[Qw] at h'
  grind [Nat.eq_of_beq_eq_true,osj],aE.iy,aE.xf⟩
 have aY:GRel P B F U ⟨args++List.replicate (nt-args.length) .any,s.own,s.nx⟩ (vs++List.replicate (nt-vs.length) undef) U:=by refine⟨B,F,pl,tb,.of hG.bf (Dead.refl _),⟨hG.bf,hG.le,?_,hG.obj,hG.fresh,hG.sep,hG.free⟩⟩;rw[ha.length];exact ha.append (Bl _)
 refine KU dF vc 0 _ _ _ U none _ trivial aY hx λe s' al U' h1 h2=>?_;have main:K s'->Zc (Xz al U' []) λv=>∃ v' aM,DropTo U v U' v' aM/\R aM:=λh=>by obtain⟨B',F',pl',tb',k1,k2⟩:=h2;exact⟨_,U',.refl _ _ _,hK s' B' F' pl' tb' al U' h k1 k2⟩
 cases e with
 |normal=>exact main h1
 |ret=>exact main h1
 |_=>exact h1.elim
end
end Go.V
namespace Go.V
open Go
def J07:SV->Option Nat
 |.lst o=>some o
 |.box o off=>bif Nat.beq off 0 then some o else none
 |_=>none
def lsv:OB->SV
 |.lst _ _ _ _=>.lst 0
 |_=>.box 0 0
def Z81:SV->OB->Bool
 |.lst _,.lst _ _ _ _=>true
 |.box _ _,.cells _ _=>true
 |_,_=>false
abbrev LSp:=Ap->OB->List SV->Option (Prop×SV×OB)
def Q7a (ap:Ap) (sp:LSp):XSp:=λ_ args s K =>
 match args with
 |a::args=>(match J07 a with
  |some o=>bif (Qe s.own o).ret&&Z81 a (Qe s.own o) then (match sp ap (Qe s.own o) (RF (oset s.own o .dead) args) with
    |some (c,v,b)=>bif v.ret 0&&b.ret then c/\K v ⟨s.env,oset s.own o b,s.nx⟩ else False
    |none=>False) else False
  |none=>False)
 |[]=>False
def BM (nt:Nat) (a0:SV) (b:OB) (vals:List Value) (args:List SV):St:=⟨a0::(args++List.replicate (nt-(args.length+1)) .any),[(0,b),(4000000,.stk [a0] vals)],0⟩
def Q93 (vals:List Value) (rs:List VResult) (v:SV) (b:OB) (a0:SV):Exit->St->Prop:=λe s =>
 let fin:=match XB s rs,Qe s.own 4000000 with
  |some r,.stk l vs=>vs=vals/\NS [(0,some 0)] [a0] l/\Sv [] v r/\Z0b s [(0,some 0)] 0 b
  |_,_=>False
 match e with
 |.normal=>fin
 |.ret=>fin
 |_=>False
section
variable {P:Program}
theorem Heap.Le.kill' {B U:Heap}(h:B.Le U) {i:Nat}(hi:B.get i=none):B.Le (U.kill i):=⟨h.1,λj b hb=>by
 have:j≠i:=by rintro rfl;rw[hi] at hb;cases hb
 rw[Heap.q0c _ this];exact h.2 _ _ hb⟩
theorem Heap.q1o (U:Heap) (i:Nat):(U.kill i).Le U:=⟨z5 _,(by grind [Heap.q0f,Heap.q0c])⟩
def IF (U:Heap) (p:Value):Heap:=match oid p with|some i=>U.kill i|none=>U
theorem Z13 (U:Heap) (p:Value):(IF U p).Le U:=by
 unfold IF;split
 .exact Heap.q1o _ _
 .exact .refl _
theorem Q5f {B U:Heap}{p:Value}(h:B.Le U) (hi:∀ i,oid p=some i->B.get i=none):B.Le (IF U p):=by
 unfold IF;split
 .rename_i i e;exact h.kill' (hi i e)
 .exact h
theorem Q6y {U:Heap}{p:Value}{i:Nat}(h:oid p=some i):(IF U p).get i=none:=by unfold IF;rw[h];exact Heap.q0f _ _
theorem Q21 {U:Heap}{p:Value}{i:Nat}(h:oid p≠some i):(IF U p).get i=U.get i:=by unfold IF;grind [Heap.q0c]
theorem Z5g {p:Value}{i:Nat}(hp:∀ l,p≠.tuple l) (h:Oid p i):oid p=some i:=by cases p<;>first|exact h|exact absurd rfl (hp _)
theorem OB.q1z {b:OB}(h:b.ret=true):b.live=true:=by cases b<;>first|rfl|cases h
theorem Z2i {o:Nat}{b:OB}(h:Z81 (.lst o) b=true):lsv b=.lst 0:=by cases b<;>first|rfl|cases h
theorem Z1u {o off:Nat}{b:OB}(h:Z81 (.box o off) b=true):lsv b=.box 0 0:=by cases b<;>first|rfl|cases h
theorem Z23 {f:Nat}{vc:VCode}{rs:List VResult}{nt:Nat}(h:Fun P f vc rs nt) (hm:P.follows .mixedOrders=true) {sp:LSp}{ap:Ap}
  (hb:∀ b args c v b',sp ap b args=some (c,v,b')->c->∃ (C:Cx) (L:List Value->List (Nat×LoopAnn)) (b7:List SV),SVs.pure b7=true/\(∀ U vs,SRs P U X1 ZU args vs->SRs P U X1 ZU b7 vs)/\COk P C/\∀ vals,gwp C (L vals) vc 0 (Q93 vals rs v b' (lsv b)) (BM nt (lsv b) b vals b7)):XOk P f (Q7a ap sp):=by
 intro B F pl tb s env U d args vs K R hG ha hx hK;unfold Q7a at hx;split at hx
 .rename_i a args;split at hx
  .rename_i o aS;cases kL:((Qe s.own o).ret&&Z81 a (Qe s.own o)) with
   |false=>rw[kL] at hx;exact hx.elim
   |true =>
   rw[kL] at hx;simp only[zd] at hx;simp only[z1] at kL;obtain⟨jS,e_⟩:=kL;split at hx
   .rename_i c v b' cQ;cases b9:(v.ret 0&&b'.ret) with
    |false=>rw[b9] at hx;exact hx.elim
    |true =>
    rw[b9] at hx;obtain⟨hc,hx⟩:=hx;simp only[z1] at b9;simp only[SRs] at ha;obtain⟨u,us,rfl,iO,eo⟩:=ha;have aq:=OB.q1z jS;have au:=hG.obj o;have bD:∀ i,oid (pl o)=some i->F.get i=none:=λi hi=>hG.fresh o i aq (RX hi);have iq:∀ i,oid (pl o)=some i->B.get i=none:=λi hi=>by
     cases hg:B.get i with
     |none=>rfl
     |some b=>have:=hG.bf.2 _ _ hg;rw[bD i hi] at this;cases this
    have fv:∀ l,pl o≠.tuple l:=λl he=>by
     unfold J07 at aS;split at aS
     .obtain rfl:=osj aS;simp only[SR] at iO
      grind
     .rename_i o' off;cases aQ:Nat.beq off 0 with
      |false=>rw[aQ] at aS;cases aS
      |true =>rw[aQ] at aS;obtain rfl:=osj aS;simp only[SR] at iO;obtain⟨_,h,_⟩:=iO;rw[he] at h;cases h
     .cases aS
    have ld:∀ (B:Heap) (pl':Nat->Value) (tb':Nat->Option Bool),(SR P B pl' tb' (lsv (Qe s.own o)) u<->pl' 0=pl o):=λB pl' tb'=>by
     unfold J07 at aS;split at aS
     .obtain rfl:=osj aS;simp only[SR] at iO;rw[Z2i e_];simp only[SR]
      grind
     .rename_i o' off;cases aQ:Nat.beq off 0 with
      |false=>rw[aQ] at aS;cases aS
      |true =>
       rw[aQ] at aS;obtain rfl:=osj aS;obtain rfl:=zq aQ;simp only[SR] at iO;rw[Z1u e_];simp only[SR];obtain⟨i,h1,rfl⟩:=iO;rw[h1];constructor
       .simp_all
       .intro h2;exact⟨i,h2,rfl⟩
     .cases aS
    obtain⟨C,L,b7,r9,qz,aE,hg⟩:=hb _ _ c v b' cQ hc;have hg:=hg [u];let σc:=IF U (pl o);have lg:B.Le σc:=Q5f hG.leB iq;have nO:F.Le σc:=Q5f hG.le bD;have az:SRs P σc X1 ZU b7 us:=by
     refine qz σc us (W6 (own:=oset s.own o .dead) lg (pl:=pl) (tb:=tb) (λd=>?_) eo);rw[Qn];by_cases e:d=o
     .rw[z2 e];trivial
     .rw[z0 e];exact(hG.obj d).mono (.refl _) (λ_ _ h=>h) λhl i hi=>Q21 λgw=>hG.sep d o i e hl aq hi (RX gw)
    let fw:Nat->Value:=λj=>if j=0 then pl o else poison
    have aY:GRel P σc σc U (BM nt (lsv (Qe s.own o)) (Qe s.own o) [u] b7) (u::us++List.replicate (nt-(u::us).length) undef) U:=by
     refine⟨σc,σc,fw,ZU,⟨.refl _,.refl _,λ_ _ _ h=>h,.refl _⟩,.refl _,Z13 _ _,?_,λj=>?_,λj i h1 h2=>?_,λj j' i aK h1 h2 h3 h4=>?_,λ_ _=>rfl⟩
     .simp only[BM,SRs,x7];refine⟨u,_,rfl,(ld _ _ _).2 (by simp[fw]),?_⟩;rw[az.length,zJ]
      grind [SRs.append,Bl,Zb]
     .simp only[BM,Qe];by_cases e0:j=0
      .subst e0;simp only[Nat.beq_refl,zd];exact au.retd jS λi _=>rfl
      .rw[Zs (λe=>e0 e.symm),cond_false];by_cases e1:j=4000000
       .subst e1;simp only[Nat.beq_refl,zd];exact⟨u,[],rfl,(ld _ _ _).2 (by simp[fw]),rfl⟩
       .rw[Zs (λe=>e1 e.symm),cond_false];trivial
     .simp only[BM,Qe] at h1;by_cases e0:j=0
      .grind [Q6y,Z5g]
      .rw[Zs (λe=>e0 e.symm),cond_false] at h1;by_cases e1:j=4000000
       .subst e1;cases h1
       .rw[Zs (λe=>e1 e.symm),cond_false] at h1;cases h1
     .have z:∀ j,(Qe (BM nt (lsv (Qe s.own o)) (Qe s.own o) [u] b7).own j).live=true->j=0:=λj h1=>by
       simp only[BM,Qe] at h1;by_cases e0:j=0
       .exact e0
       .rw[Zs (λe=>e0 e.symm),cond_false] at h1;by_cases e1:j=4000000
        .subst e1;cases h1
        .rw[Zs (λe=>e1 e.symm),cond_false] at h1;cases h1
      grind
    refine h.calls hm Ol ?_;refine KU aE vc 0 _ _ _ U none _ trivial aY hg λe s' al U' h1 h2=>?_
    have main:(match XB s' rs,Qe s'.own 4000000 with
     |some r,.stk l vs=>vs=[u]/\NS [(0,some 0)] [lsv (Qe s.own o)] l/\Sv [] v r/\Z0b s' [(0,some 0)] 0 b'
     |_,_=>False)->Zc (Xz al U' rs) λv=>∃ v' aM,DropTo U v U' v' aM/\R v' aM:=λh=>by
     obtain⟨B',F',pl',tb',k1,k2⟩:=h2;split at h
     .rename_i r l cq hr eI;obtain⟨rfl,m1,m2,m3⟩:=h;obtain⟨w,h3,h4⟩:=Jm k2 hr;rw[h3];have df:=k2.obj 4000000;rw[eI] at df;have iu:pl' 0=pl o:=by
       have:=Zm [lsv (Qe s.own o)] l [u] m1 df;simp only[SRs] at this;obtain⟨u',_,dA,h5,_⟩:=this;obtain rfl:u=u':=(zF dA).1;have:=(ld _ _ _).1 h5;simpa [Di,Qw] using this
      have fj:=(Zo k2 m3).1;have kU:Di pl' [(0,some 0)] 0=pl o:=by simpa [Di,Qw] using iu
      rw[kU] at fj;have cf:=(Kd v r w m2 h4).retd (B':=B) (pl':=pl) (tb':=tb) (n:=0) (λj hj=>by omega) _ _ b9.1;have hle:σc.Le U':=k1.f.trans k2.le;refine⟨w,U',.refl _ _ _,hK v _ B F pl tb w U' hx (.of hG.bf k1.d) ⟨hG.bf,nO.trans hle,hG.env,λd=>?_,λd i q1 q2=>?_,λd d' i aK q1 q2 q3 q4=>?_,hG.free⟩ cf⟩
      .simp only[Qn];by_cases e:d=o
       .subst e;rw[z2 rfl];exact fj.retd b9.2 λ_ _=>rfl
       .rw[z0 e];refine (hG.obj d).mono (.refl _) (λ_ _ h=>h) λhl i hi=>?_;have aj:=(hG.obj d).q0v hl hi;cases hg:U.get i with
        |none=>exact k1.d.2 i aj hg
        |some bb=>exact hle.2 _ _ (by rw[Q21 λgw=>hG.sep d o i e hl aq hi (RX gw)];exact hg)
      .simp only[Qn] at q1;by_cases e:d=o
       .subst e;exact hG.fresh d i aq q2
       .rw[z0 e] at q1;exact hG.fresh d i q1 q2
      .have lv:∀ d,(Qe (oset s.own o b') d).live=true->(Qe s.own d).live=true:=λd h=>by
        rw[Qn] at h
        grind
       exact hG.sep d d' i aK (lv d q1) (lv d' q2) q3 q4
     .exact h.elim
    cases e with
    |normal=>exact main h1
    |ret=>exact main h1
    |_=>exact h1.elim
   .exact hx.elim
  .exact hx.elim
 .exact hx.elim
mutual
theorem AP.q0j:∀ {D:Type}(p:AP D) (x:D),(AP.can p x).pure=true
 |_,.k k,x=>rfl
 |_,.agg l,x=>by simp only[AP.can,SV.pure];exact AL.q0j l x
 |_,.nilS,x=>rfl
 |_,.any,x=>rfl
 |_,.int k n,x=>rfl
 |_,.ptr l,x=>by simp only[AP.can,SV.pure];exact AL.q0j l x
 |_,.fnx g l,x=>by simp only[AP.can,SV.pure,SVs.pure,AL.q0j l x];rfl
 |_,.fn ks r,x=>rfl
theorem AL.q0j:∀ {D:Type}(l:AL D) (x:D),SVs.pure (AL.can l x)=true
 |_,.nil,x=>rfl
 |_,.one a,x=>by simp only[AL.can,SVs.pure,AP.q0j a x];rfl
 |_,.cons a r,x=>by simp only[AL.can,SVs.pure,AP.q0j a x.1,AL.q0j r x.2];rfl
end
def Q88 (ty:Nat) (k:Kind) {D:Type}(l:AL D) (pre:List k.T->Bool->D->Prop) (res:List k.T->Bool->D->SV) (post:List k.T->Bool->D->List k.T):LSp:=λap b args=>match b with
 |.lst iL _k' xs nl=>if iL=ty then (match Bh xs k,AL.dec ap l args with
  |some xs,some d=>some (pre xs nl d,res xs nl d,.lst ty k (post xs nl d) nl)
  |_,_=>none) else none
 |_=>none
theorem IP {f:Nat}{vc:VCode}{rs:List VResult}{nt:Nat}(h:Fun P f vc rs nt) (hm:P.follows .mixedOrders=true) {ap:Ap}(du:Q7s P ap) {ty:Nat}{k:Kind}{D:Type}{l:AL D}{pre:List k.T->Bool->D->Prop}{res:List k.T->Bool->D->SV}{post:List k.T->Bool->D->List k.T}
  {C:Cx}(aE:COk P C) {L:List k.T->Bool->D->List Value->List (Nat×LoopAnn)}{V:List k.T->Bool->D->Prop}
  (hq:∀ xs nl d,(∀ vals,gwp C (L xs nl d vals) vc 0 (Q93 vals rs (res xs nl d) (.lst ty k (post xs nl d) nl) (.lst 0)) (BM nt (.lst 0) (.lst ty k xs nl) vals (AL.can l d)))=V xs nl d)
  (hb:∀ xs nl d,pre xs nl d->V xs nl d):XOk P f (Q7a ap (Q88 ty k l pre res post)):=by
 refine Z23 h hm λb args c v b' hs hc=>?_;unfold Q88 at hs;split at hs
 .rename_i iL k' xs nl;split at hs
  .rename_i e;subst e;split at hs
   .rename_i ys d h1 h2;obtain⟨rfl,rfl,rfl⟩:=(by simpa using hs:pre ys nl d=c/\res ys nl d=v/\OB.lst iL k (post ys nl d) nl=b');unfold Bh at h1;split at h1
    .rename_i e;subst e;obtain rfl:=osj h1;exact⟨C,L xs nl d,AL.can l d,AL.q0j l d,λU vs hv=>AL.q0i du l h2 hv,aE,(hq xs nl d).mpr (hb xs nl d hc)⟩
    .cases h1
   .cases hs
  .cases hs
 .cases hs
end
end Go.V
namespace Go.V
open Go
abbrev lI {α:Type}(l:List α):Int:=(l.length:Int)
abbrev gD {α:Type}(l:List α) (i:Int) (d:α):α:=l.getD i.toNat d
abbrev sT {α:Type}(l:List α) (i:Int) (x:α):List α:=l.set i.toNat x
abbrev I64 (x:Int):Prop:=InK .i64 x
theorem Q7 (x:Int):InK .i64 x<->-9223372036854775808<=x/\x<=9223372036854775807:=by simp[InK,IntKind.min,IntKind.max,IntKind.bits,IntKind.signed]
theorem Z0j (x:Int):InK .u8 x<->0<=x/\x<=255:=by simp[InK,IntKind.min,IntKind.max,IntKind.bits,IntKind.signed]
theorem Z5b (x:Int):InK .u16 x<->0<=x/\x<=65535:=by simp[InK,IntKind.min,IntKind.max,IntKind.bits,IntKind.signed]
theorem PS (x:Int):InK .u64 x<->0<=x/\x<=18446744073709551615:=by simp[InK,IntKind.min,IntKind.max,IntKind.bits,IntKind.signed]
theorem LoopP.count {F:Int->(Int->Prop)->Prop}(n:Nat) (J:Nat->Prop) (h0:J 0) (hr:∀ k:Nat,k<=n->J k->∀ q:Int->Prop,(k<n->J (k+1)->q ((k:Int)+1))->F k q):LoopP F 0:=by
 refine⟨λd=>∃ k:Nat,d=k/\k<=n/\J k,λd=>n-d.toNat,⟨0,rfl,Nat.zero_le _,h0⟩,λd ⟨k,hd,hk,hJ⟩=>?_⟩
 grind
theorem LoopP.count2 {X:Type}{F:X×Int->(X×Int->Prop)->Prop}(n:Nat) (J:Nat->X->Prop) {x0:X}(h0:J 0 x0) (hr:∀ (k:Nat) (x:X),k<=n->J k x->∀ q:X×Int->Prop,(∀ x',k<n->J (k+1) x'->q (x',(k:Int)+1))->F (x,(k:Int)) q):LoopP F (x0,0):=by
 refine⟨λd=>∃ k:Nat,d.2=k/\k<=n/\J k d.1,λd=>n-d.2.toNat,⟨0,rfl,Nat.zero_le _,h0⟩,λ⟨x,d⟩ ⟨k,hd,hk,hJ⟩=>?_⟩
 grind
theorem Qg {α:Type}{l:List α}{k:Nat}{d:α}(h:k<l.length):l.getD k d=l[k]:=by simp_all
theorem XJ {α:Type}{l:List α}{k:Nat}(h:k<l.length):l.take (k+1)=l.take k++[l[k]]:=by rw[List.take_succ_eq_append_getElem h]
section
variable {P:Program}
theorem st1 {S:VSpecs}{d:Nat}{op:VOp}{rest:List VOper}{env:Env}{U:Heap}{K:Env->Heap->Prop}{v:Value}(hv:∀ K',vop S op env U K'=Zc (Qc op (Q5 env) U) λp=>K' p.1 p.2) (h:Qc op (Q5 env) U=some (v,U)) (hr:F7 S rest (env.set d v) U K):F7 S (⟨some d,op,none⟩::rest) env U K:=by show Zc (some true) _;refine⟨λ_=>?_,λe=>by cases e⟩;rw[hv,h];exact hr
theorem YlOk.nil:∀ o y,Qw ([]:List (Nat×YSp)) o=some y->Z2m P o y:=λo y h=>by cases h
theorem IysOk.nil:∀ f x,Qw ([]:List (Nat×Z5y)) f=some x->Z5x P f x:=λf x h=>by cases h
theorem IysOk.cons {f:Nat}{x:Z5y}{l:List (Nat×Z5y)}(h:Z5x P f x) (t:∀ g y,Qw l g=some y->Z5x P g y):∀ g y,Qw ((f,x)::l) g=some y->Z5x P g y:=λg y hg=>by
 simp only[Qw] at hg
 grind [Nat.eq_of_beq_eq_true,osj]
theorem XsOk.nil:∀ f x,Qw ([]:List (Nat×XSp)) f=some x->XOk P f x:=λf x h=>by cases h
theorem XsOk.cons {f:Nat}{x:XSp}{l:List (Nat×XSp)}(h:XOk P f x) (t:∀ g y,Qw l g=some y->XOk P g y):∀ g y,Qw ((f,x)::l) g=some y->XOk P g y:=λg y hg=>by
 simp only[Qw] at hg
 grind [Nat.eq_of_beq_eq_true,osj]
theorem ItsOk.nil:∀ f x,Qw ([]:List (Nat×ISp)) f=some x->Z69 P f x:=λf x h=>by cases h
theorem ItsOk.cons {f:Nat}{x:ISp}{l:List (Nat×ISp)}(h:Z69 P f x) (t:∀ g y,Qw l g=some y->Z69 P g y):∀ g y,Qw ((f,x)::l) g=some y->Z69 P g y:=λg y hg=>by
 simp only[Qw] at hg
 grind [Nat.eq_of_beq_eq_true,osj]
def Sx:Ap:=λ_ _=>none
theorem M8:Q7s P Sx:=λ_ _ _ _ _ _ _ _ _ h=>by cases h
end
end Go.V
namespace Go.V
open Go
def Q1l {α:Type}:Nat->α->List α->List α
 |0,x,l=>x::l
 |j+1,x,a::l=>a::Q1l j x l
 |_+1,x,[]=>[x]
def Q1p {α:Type}:Nat->List α->List α
 |0,_::l=>l
 |j+1,a::l=>a::Q1p j l
 |_,[]=>[]
def CV (kk vk:Kind):OB->Option (List (kk.T×vk.T))
 |.map jk kH m=>if h:jk=kk/\kH=vk then some (h.1▸h.2▸m) else none
 |_=>none
abbrev MSp (kk vk:Kind):=Ap->List (kk.T×vk.T)->List SV->List SV->Option (Prop×SV×(List (kk.T×vk.T)->Prop))
def S1 (ap:Ap) (j:Nat) (kk vk:Kind) (sp:MSp kk vk):XSp:=λ_ args s K =>
 match args with
 |a::args=>(match Q8c s.own a with
  |some l=>(match l[j]? with
   |some (.map o)=>(match CV kk vk (Qe s.own o) with
    |some m=>(match sp ap m (RF (oset s.own o .dead) (Q1p j l)) (RF (oset s.own o .dead) args) with
     |some (c,v,post)=>bif v.ret 0 then c/\∀ m',post m'->K v ⟨s.env,oset s.own o (.map kk vk m'),s.nx⟩ else False
     |none=>False)
    |none=>False)
   |_=>False)
  |none=>False)
 |[]=>False
def mstart (nt j:Nat) (kk vk:Kind) (m:List (kk.T×vk.T)) (vals:List Value) (cs args:List SV):St:=⟨.cp (Q1l j (.map 0) cs) 0::(args++List.replicate (nt-(args.length+1)) .any),[(0,.map kk vk m),(4000000,.stk [.map 0] vals)],0⟩
def O2 (vals:List Value) (rs:List VResult) (v:SV) (kk vk:Kind) (post:List (kk.T×vk.T)->Prop):Exit->St->Prop:=λe s =>
 let fin:=match XB s rs,Qe s.own 4000000,CV kk vk (Qe s.own 0) with
  |some r,.stk l vs,some m'=>vs=vals/\NS [(0,some 0)] [.map 0] l/\Sv [] v r/\post m'
  |_,_,_=>False
 match e with
 |.normal=>fin
 |.ret=>fin
 |_=>False
section
variable {P:Program}
theorem Ud {kk vk:Kind}{b:OB}{m:List (kk.T×vk.T)}(h:CV kk vk b=some m):b=.map kk vk m:=by
 unfold CV at h
 grind
theorem Q32:∀ (j:Nat) {l:List SV}{c:List Value}{o:Nat}{B:Heap}{pl:Nat->Value}{tb:Nat->Option Bool},l[j]?=some (.map o)->SRs P B pl tb l c ->
  ∃ w,SR P B pl tb (.map o) w/\SRs P B pl tb (Q1p j l) (Q1p j c)/\∀ (B':Heap) (pl':Nat->Value) (tb':Nat->Option Bool) (l':List SV) (x:SV),SRs P B' pl' tb' l' (Q1p j c)->SR P B' pl' tb' x w->SRs P B' pl' tb' (Q1l j x l') c
 |j,[],c,o,B,pl,tb,h,_=>by simp at h
 |0,a::l,c,o,B,pl,tb,h,hs=>by
  obtain rfl:a=.map o:=by simpa using h
  simp only[SRs] at hs;obtain⟨w,us,rfl,h1,h2⟩:=hs;exact⟨w,h1,h2,λB' pl' tb' l' x h3 h4=>by simp only[Q1l,SRs];exact⟨w,us,rfl,h4,h3⟩⟩
 |j+1,a::l,c,o,B,pl,tb,h,hs=>by
  simp only[SRs] at hs;obtain⟨u,us,rfl,h1,h2⟩:=hs;obtain⟨w,g1,g2,g3⟩:=Q32 j (by simpa using h) h2;refine⟨w,g1,?_,λB' pl' tb' l' x h3 h4=>?_⟩
  .simp only[Q1p,SRs];exact⟨u,_,rfl,h1,g2⟩
  .simp only[Q1p] at h3
   match l',h3 with
   |[],h3=>simp only[SRs] at h3;cases h3
   |y::l',h3 =>
    simp only[SRs] at h3;obtain⟨u',jO,e,h5,h6⟩:=h3;obtain⟨rfl,rfl⟩:=zF e;simp only[Q1l,SRs]
    grind
theorem Q1a {f:Nat}{vc:VCode}{rs:List VResult}{nt:Nat}(h:Fun P f vc rs nt) (hm:P.follows .mixedOrders=true) {kk vk:Kind}(aV:(kk.flat&&vk.flat)=true) {sp:MSp kk vk}{ap:Ap}{j:Nat}
  (hb:∀ m cs cT c v post,sp ap m cs cT=some (c,v,post)->c->∃ (C:Cx) (L:List Value->List (Nat×LoopAnn)) (cs' cG:List SV),SVs.pure cs'=true/\SVs.pure cG=true/\(∀ U vs,SRs P U X1 ZU cs vs->SRs P U X1 ZU cs' vs)/\(∀ U vs,SRs P U X1 ZU cT vs->SRs P U X1 ZU cG vs)/\COk P C/\∀ vals,gwp C (L vals) vc 0 (O2 vals rs v kk vk post) (mstart nt j kk vk m vals cs' cG)):Z1s P f (S1 ap j kk vk sp) j:=by
 intro B F pl tb s env U d args vs K R tt hG ha qj hx hK;unfold S1 at hx;split at hx
 .rename_i a args;split at hx
  .rename_i l hl;split at hx
   .rename_i o fp;split at hx
    .rename_i m aH;have aR:=Ud aH;split at hx
     .rename_i c v post cQ;cases b9:v.ret 0 with
      |false=>rw[b9] at hx;exact hx.elim
      |true =>
      rw[b9] at hx;obtain⟨hc,hx⟩:=hx;simp only[SRs] at ha;obtain⟨u,us,rfl,iO,eo⟩:=ha;have vY:o=tt:=by simpa [Q11,hl,fp] using qj
      have aq:(Qe s.own o).live=true:=by rw[aR];rfl
      have au:=hG.obj o;rw[aR] at au;obtain⟨id,es,clock,eF,bD,dJ⟩:=au;have iv:F.get id=none:=hG.fresh o id aq (by rw[eF];rfl);have iq:B.get id=none:=by
       cases hg:B.get id with
       |none=>rfl
       |some b=>have:=hG.bf.2 _ _ hg;rw[iv] at this;cases this
      obtain⟨i,ce,e,wr,t,vZ,v5,aE⟩:∃ i ce e wr t,u=.pointer (some ⟨i,0,none⟩)/\U.get i=some (.cells ce e wr t)/\SRs P B pl tb l ce:=by
       unfold Q8c at hl;split at hl
       .rename_i o' off;cases aQ:Nat.beq off 0 with
        |false=>rw[aQ] at hl;cases hl
        |true =>
         rw[aQ] at hl;obtain rfl:=zq aQ;simp only[zd] at hl;split at hl
         .rename_i l' un bq;obtain rfl:=osj hl;have fS:=hG.obj o';rw[bq] at fS;obtain⟨i,ce,e,t,k1,k2,k3,_⟩:=fS;simp only[SR] at iO
          grind
         .cases hl
       .rename_i l' off;cases aQ:Nat.beq off 0 with
        |false=>rw[aQ] at hl;cases hl
        |true =>rw[aQ] at hl;obtain rfl:=zq aQ;obtain rfl:=osj hl;simp only[SR] at iO;obtain⟨b,ce,e,wr,t,k1,k2,k3⟩:=iO;exact⟨b,ce,e,wr,t,k2,hG.leB.2 _ _ k1,k3⟩
       .cases hl
      have aK:i≠id:=by
       grind
      obtain⟨w,hw,lh,nP⟩:=Q32 j fp aE;simp only[SR] at hw;obtain rfl:w=pl o:=hw.1;obtain⟨C,L,cs',cG,lU,cU,hd1,lj,dF,hg⟩:=hb _ _ _ c v post cQ hc;have hg:=hg [pl o];have qA:oid (pl o)=some id:=by rw[eF];rfl
      let σc:=U.kill id;have lg:B.Le σc:=hG.leB.kill' iq;have nO:F.Le σc:=hG.le.kill' iv;have lk:σc.Le U:=Heap.q1o _ _;have bt:∀ k,k≠id->σc.get k=U.get k:=λk hk=>Heap.q0c _ hk;have bY:∀ d,OR P σc X1 ZU σc (pl d) ((Qe (oset s.own o .dead) d).kill d)\/True:=λ_=>.inr trivial;have oK:∀ (xs:List SV) (vs:List Value),SRs P B pl tb xs vs->SRs P σc X1 ZU (RF (oset s.own o .dead) xs) vs:=λxs vs bO=>by
       refine W6 (own:=oset s.own o .dead) lg (pl:=pl) (tb:=tb) (λd=>?_) bO;rw[Qn];by_cases e:d=o
       .rw[z2 e];trivial
       .rw[z0 e];exact(hG.obj d).mono (.refl _) (λ_ _ h=>h) λhl i hi=>bt _ λgw=>hG.sep d o i e hl aq hi (by rw[eF,gw];rfl)
      have az:=lj σc us (oK _ _ eo);have cw:=hd1 σc _ (oK _ _ lh);let fw:Nat->Value:=λk=>if k=0 then pl o else poison
      have gf:∀ (B:Heap) (tb':Nat->Option Bool),SR P B fw tb' (.map 0) (pl o):=λB tb'=>by simp only[SR];exact⟨by simp[fw],_,eF⟩
      have aY:GRel P σc σc U (mstart nt j kk vk m [pl o] cs' cG) (u::us++List.replicate (nt-(u::us).length) undef) U:=by
       refine⟨σc,σc,fw,ZU,⟨.refl _,.refl _,λ_ _ _ h=>h,.refl _⟩,.refl _,lk,?_,λk=>?_,λk i' h1 h2=>?_,λk k' i' lq h1 h2 h3 h4=>?_,λ_ _=>rfl⟩
       .simp only[mstart,SRs,x7];refine⟨u,_,rfl,?_,?_⟩
        .simp only[SR]
         grind [Zb]
        rw[az.length,zJ]
        grind [SRs.append,Bl,Zb]
       .simp only[mstart,Qe];by_cases e0:k=0
        .subst e0;simp only[Nat.beq_refl,zd];exact⟨id,es,clock,by simp[fw,eF],bD,dJ.mono lg⟩
        .rw[Zs (λe=>e0 e.symm),cond_false];by_cases e1:k=4000000
         .subst e1;simp only[Nat.beq_refl,zd];exact⟨pl o,[],rfl,gf _ _,rfl⟩
         .rw[Zs (λe=>e1 e.symm),cond_false];trivial
       .simp only[mstart,Qe] at h1;by_cases e0:k=0
        .subst e0;have:Oid (pl o) i':=by simpa [fw] using h2
         rw[eF] at this;obtain rfl:id=i':=osj this;exact Heap.q0f _ _
        .rw[Zs (λe=>e0 e.symm),cond_false] at h1;by_cases e1:k=4000000
         .subst e1;cases h1
         .rw[Zs (λe=>e1 e.symm),cond_false] at h1;cases h1
       .have z:∀ k,(Qe (mstart nt j kk vk m [pl o] cs' cG).own k).live=true->k=0:=λk h1=>by
         simp only[mstart,Qe] at h1;by_cases e0:k=0
         .exact e0
         .rw[Zs (λe=>e0 e.symm),cond_false] at h1;by_cases e1:k=4000000
          .subst e1;cases h1
          .rw[Zs (λe=>e1 e.symm),cond_false] at h1;cases h1
        grind
      refine h.calls hm Ol ?_;refine KU dF vc 0 _ _ _ U none _ trivial aY hg λe s' al U' h1 h2=>?_
      have main:(match XB s' rs,Qe s'.own 4000000,CV kk vk (Qe s'.own 0) with
       |some r,.stk l vs,some m'=>vs=[pl o]/\NS [(0,some 0)] [.map 0] l/\Sv [] v r/\post m'
       |_,_,_=>False)->Zc (Xz al U' rs) λv=>∃ v' aM,DropTo U v U' v' aM/\R v' aM:=λh=>by
       obtain⟨B',F',pl',tb',k1,k2⟩:=h2;split at h
       .rename_i r l' cq m' hr eI nQ;obtain⟨rfl,m1,m2,m3⟩:=h;have eD:=Ud nQ;obtain⟨w,h3,h4⟩:=Jm k2 hr;rw[h3];have df:=k2.obj 4000000;rw[eI] at df;have iu:pl' 0=pl o:=by
         have:=Zm [.map 0] l' [pl o] m1 df;simp only[SRs,SR] at this;obtain⟨u',_,dA,⟨h5,_⟩,_⟩:=this;obtain rfl:pl o=u':=(zF dA).1;simpa [Di,Qw] using h5.symm
        have fj:=k2.obj 0;rw[eD,iu] at fj;have cf:=(Kd v r w m2 h4).retd (B':=B) (pl':=pl) (tb':=tb) (n:=0) (λj hj=>by omega) _ _ b9;have hle:σc.Le U':=k1.f.trans k2.le;have iw:∀ d,d≠o->(Qe s.own d).live=true->∀ i,Oid (pl d) i->U'.get i=U.get i:=λd e hl i hi=>by
         have aj:=(hG.obj d).q0v hl hi;have qB:i≠id:=λgw=>hG.sep d o i e hl aq hi (by rw[eF,gw];rfl);cases hg:U.get i with
         |none=>exact k1.d.2 i aj hg
         |some bb=>exact hle.2 _ _ (by rw[bt i qB];exact hg)
        have bH:∀ d,(Qe (oset s.own o (.map kk vk m')) d).live=(Qe s.own d).live:=λd=>by
         rw[Qn];by_cases e:d=o
         .subst e;rw[z2 rfl,aq];rfl
         .rw[z0 e]
        refine⟨w,U',.refl _ _ _,hK v _ w U' (hx m' m3) k1.d ⟨hG.bf,nO.trans hle,hG.env,λd=>?_,λd i q1 q2=>hG.fresh d i (by rw[<-bH d];exact q1) q2,λd d' i aK q1 q2 q3 q4=>hG.sep d d' i aK (by rw[<-bH d];exact q1) (by rw[<-bH d'];exact q2) q3 q4,hG.free⟩ cf λq hq=>?_⟩
        .simp only[Qn];by_cases e:d=o
         .subst e;rw[z2 rfl];exact fj.retd aV λ_ _=>rfl
         .rw[z0 e];exact(hG.obj d).mono (.refl _) (λ_ _ h=>h) λhl i hi=>iw d e hl i hi
        grind
       .exact h.elim
      cases e with
      |normal=>exact main h1
      |ret=>exact main h1
      |_=>exact h1.elim
     .exact hx.elim
    .exact hx.elim
   .exact hx.elim
  .exact hx.elim
 .exact hx.elim
theorem Z47 {f:Nat}{kk vk:Kind}{sp:MSp kk vk}{ap:Ap}{j:Nat}(h:Z1s P f (S1 ap j kk vk sp) j):XOk P f (S1 ap j kk vk sp):=by
 intro B F pl tb s env U d args vs K R hG ha hx hK;have:∃ t,Q11 s.own j args=some t:=by
  unfold S1 at hx;split at hx
  .rename_i a args;split at hx
   .rename_i l hl;split at hx
    .rename_i o fp;exact⟨o,by simp[Q11,hl,fp]⟩
    .exact hx.elim
   .exact hx.elim
  .exact hx.elim
 obtain⟨t,ht⟩:=this;exact h B F pl tb s env U d args vs K R t hG ha ht hx λv s' u U' k1 k2 k3 k4 _=>hK v s' B F pl tb u U' k1 (.of hG.bf k2) k3 k4
def Z6p (P:Program) (f:Nat) (x:XSp) (j:Nat):Prop:=XOk P f x/\Z1s P f x j
theorem XfOk.nil {xs:List (Nat×XSp)}:∀ f j,Qw ([]:List (Nat×Nat)) f=some j->∀ x,Qw xs f=some x->Z1s P f x j:=λf j h=>by cases h
theorem XfOk.cons {xs:List (Nat×XSp)}{g k:Nat}{y:XSp}{l:List (Nat×Nat)}(hy:Qw xs g=some y) (h:Z1s P g y k) (t:∀ f j,Qw l f=some j->∀ x,Qw xs f=some x->Z1s P f x j):∀ f j,Qw ((g,k)::l) f=some j->∀ x,Qw xs f=some x->Z1s P f x j:=λf j hf x hx=>by
 simp only[Qw] at hf
 grind [Nat.eq_of_beq_eq_true,osj]
theorem Q4p {f:Nat}{vc:VCode}{rs:List VResult}{nt:Nat}(h:Fun P f vc rs nt) (hm:P.follows .mixedOrders=true) {kk vk:Kind}(aV:(kk.flat&&vk.flat)=true) {sp:MSp kk vk}{ap:Ap}{j:Nat}
  (hb:∀ m cs cT c v post,sp ap m cs cT=some (c,v,post)->c->∃ (C:Cx) (L:List Value->List (Nat×LoopAnn)) (cs' cG:List SV),SVs.pure cs'=true/\SVs.pure cG=true/\(∀ U vs,SRs P U X1 ZU cs vs->SRs P U X1 ZU cs' vs)/\(∀ U vs,SRs P U X1 ZU cT vs->SRs P U X1 ZU cG vs)/\COk P C/\∀ vals,gwp C (L vals) vc 0 (O2 vals rs v kk vk post) (mstart nt j kk vk m vals cs' cG)):Z6p P f (S1 ap j kk vk sp) j :=
 ⟨Z47 (Q1a h hm aV hb),Q1a h hm aV hb⟩
def Z2o {kk vk:Kind}{E D:Type}(lc:AL E) (la:AL D) (pre:List (kk.T×vk.T)->E->D->Prop) (res:List (kk.T×vk.T)->E->D->SV) (post:List (kk.T×vk.T)->E->D->List (kk.T×vk.T)->Prop):MSp kk vk:=λap m cs cT=>match AL.dec ap lc cs,AL.dec ap la cT with
 |some c,some a=>some (pre m c a,res m c a,post m c a)
 |_,_=>none
theorem Q12 {kk vk:Kind}{E D:Type}{lc:AL E}{la:AL D}{pre:List (kk.T×vk.T)->E->D->Prop}{res:List (kk.T×vk.T)->E->D->SV}{post:List (kk.T×vk.T)->E->D->List (kk.T×vk.T)->Prop}{ap:Ap}{m:List (kk.T×vk.T)}{cs cT:List SV}{c:Prop}{v:SV}{q:List (kk.T×vk.T)->Prop}
  (h:Z2o lc la pre res post ap m cs cT=some (c,v,q)):∃ x y,AL.dec ap lc cs=some x/\AL.dec ap la cT=some y/\c=pre m x y/\v=res m x y/\q=post m x y:=by
 unfold Z2o at h
 grind
theorem Q8i {f:Nat}{vc:VCode}{rs:List VResult}{nt:Nat}(h:Fun P f vc rs nt) (hm:P.follows .mixedOrders=true) {ap:Ap}(du:Q7s P ap) {kk vk:Kind}(aV:(kk.flat&&vk.flat)=true) {j:Nat}{E D:Type}{lc:AL E}{la:AL D}{pre:List (kk.T×vk.T)->E->D->Prop}{res:List (kk.T×vk.T)->E->D->SV}{post:List (kk.T×vk.T)->E->D->List (kk.T×vk.T)->Prop}{μ:E->D->Nat}
  {C:Cx}(aE:COk P C) (nz:Qw C.xf f=none) {L:List (kk.T×vk.T)->E->D->List Value->List (Nat×LoopAnn)}{V:Nat->List (kk.T×vk.T)->E->D->Prop}
  (hq:∀ n m x y,(∀ vals,gwp {C with xs:=(f,S1 ap j kk vk (Z2o lc la (λm x y=>pre m x y/\μ x y<n) res post))::C.xs} (L m x y vals) vc 0 (O2 vals rs (res m x y) kk vk (post m x y)) (mstart nt j kk vk m vals (AL.can lc x) (AL.can la y)))=V n m x y)
  (hb:∀ n m x y,pre m x y->μ x y=n->V n m x y):Z6p P f (S1 ap j kk vk (Z2o lc la pre res post)) j:=by
 have r_:∀ (x:XSp) g k,Qw C.xf g=some k->∀ y,Qw ((f,x)::C.xs) g=some y->Z1s P g y k:=λx g k hg y hy=>by
  simp only[Qw] at hy;cases hb:Nat.beq f g with
  |true=>obtain rfl:=zq hb;rw[nz] at hg;cases hg
  |false=>rw[hb] at hy;exact aE.xf g k hg y hy
 have key:∀ n,Z6p P f (S1 ap j kk vk (Z2o lc la (λm x y=>pre m x y/\μ x y<n) res post)) j:=by
  intro n;induction n using Nat.strongRecOn with
  |ind n ih =>refine Q4p h hm aV λm cs cT c v q hs hc=>?_;obtain⟨x,y,h1,h2,rfl,rfl,rfl⟩:=Q12 hs;obtain⟨hp,hn⟩:=hc;exact⟨{C with xs:=(f,S1 ap j kk vk (Z2o lc la (λm x' y'=>pre m x' y'/\μ x' y'<μ x y) res post))::C.xs},L m x y,AL.can lc x,AL.can la y,AL.q0j lc x,AL.q0j la y,(by grind [AL.q0i]),(by grind [AL.q0i]),⟨aE.cs,XsOk.cons (ih _ hn).1 aE.xs,aE.it,aE.yl,aE.iy,r_ _⟩,(by simp_all)⟩
 refine Q4p h hm aV λm cs cT c v q hs hc=>?_;obtain⟨x,y,h1,h2,rfl,rfl,rfl⟩:=Q12 hs;exact⟨{C with xs:=(f,S1 ap j kk vk (Z2o lc la (λm x' y'=>pre m x' y'/\μ x' y'<μ x y) res post))::C.xs},L m x y,AL.can lc x,AL.can la y,AL.q0j lc x,AL.q0j la y,(by grind [AL.q0i]),(by grind [AL.q0i]),⟨aE.cs,XsOk.cons (key (μ x y)).1 aE.xs,aE.it,aE.yl,aE.iy,r_ _⟩,(by simp_all)⟩
end
end Go.V
namespace Go.V
open Go
abbrev PSp (kk vk:Kind):=Ap->List SV->Option (Prop×List SV×(List (kk.T×vk.T)->Prop))
def Z1d (ap:Ap) (kk vk:Kind) (sp:PSp kk vk):XSp:=λd args s K=>match sp ap (RF s.own args) with
 |some (c,vs,post)=>bif SVs.ret 0 vs then c/\∀ m',post m'->K (.tup (.map d::vs)) (s.make d (.map kk vk m')) else False
 |none=>False
def Vq (nt:Nat) (args:List SV):St:=⟨args++List.replicate (nt-args.length) .any,[],0⟩
def Z4n (rs:List VResult) (kk vk:Kind) (vs:List SV) (post:List (kk.T×vk.T)->Prop):Exit->St->Prop:=λe s =>
 let fin:=match XB s rs with
  |some (.tup (.map k::r))=>(match CV kk vk (Qe s.own k) with
   |some m'=>NS [] vs r/\post m'
   |none=>False)
  |_=>False
 match e with
 |.normal=>fin
 |.ret=>fin
 |_=>False
section
variable {P:Program}
theorem SRs.retd0 {B B':Heap}{pl pl':Nat->Value}{tb tb':Nat->Option Bool}:∀ (l:List SV) (us:List Value),SVs.ret 0 l=true->SRs P B pl tb l us->SRs P B' pl' tb' l us
 |[],us,_,h=>by simpa [SRs] using h
 |s::l,us,hr,h=>by simp only[SVs.ret,z1] at hr;simp only[SRs] at h |-;obtain⟨u,jO,rfl,h1,h2⟩:=h;exact⟨u,jO,rfl,h1.retd (n:=0) (λj hj=>by omega) _ _ hr.1,SRs.retd0 l jO hr.2 h2⟩
theorem Z1m {f:Nat}{vc:VCode}{rs:List VResult}{nt:Nat}(h:Fun P f vc rs nt) (hm:P.follows .mixedOrders=true) {kk vk:Kind}(aV:(kk.flat&&vk.flat)=true) {sp:PSp kk vk}{ap:Ap}
  (hb:∀ cT c vs post,sp ap cT=some (c,vs,post)->c->∃ (C:Cx) (L:List (Nat×LoopAnn)) (cG:List SV),SVs.pure cG=true/\(∀ U us,SRs P U X1 ZU cT us->SRs P U X1 ZU cG us)/\COk P C/\gwp C L vc 0 (Z4n rs kk vk vs post) (Vq nt cG)):XOk P f (Z1d ap kk vk sp):=by
 intro B F pl tb s env U d args vals K R hG ha hx hK;unfold Z1d at hx;split at hx
 .rename_i c vs post cQ;cases b9:SVs.ret 0 vs with
  |false=>rw[b9] at hx;exact hx.elim
  |true =>
  rw[b9] at hx;obtain⟨hc,hx⟩:=hx;obtain⟨C,L,cG,cU,lj,dF,hg⟩:=hb _ c vs post cQ hc;have az:=lj U vals (W6 (own:=s.own) hG.leB (pl:=pl) (tb:=tb) (λd=>hG.obj d) ha);have aY:GRel P U U U (Vq nt cG) (vals++List.replicate (nt-vals.length) undef) U:=by
   refine⟨U,U,λ_=>poison,ZU,⟨.refl _,.refl _,λ_ _ _ h=>h,.refl _⟩,.refl _,.refl _,?_,λk=>?_,λk i' h1 h2=>?_,λk k' i' lq h1 h2 h3 h4=>?_,λ_ _=>rfl⟩
   .simp only[Vq];rw[az.length];exact SRs.append (Zb _ _ cU az) (Bl _)
   .simp only[Vq,Qe];trivial
   .simp only[Vq,Qe] at h1;cases h1
   .simp only[Vq,Qe] at h1;cases h1
  refine h.calls hm Ol ?_;refine KU dF vc 0 _ _ _ U none _ trivial aY hg λe s' al U' h1 h2=>?_
  have main:(match XB s' rs with
   |some (.tup (.map k::r))=>(match CV kk vk (Qe s'.own k) with
    |some m'=>NS [] vs r/\post m'
    |none=>False)
   |_=>False)->Zc (Xz al U' rs) λv=>∃ v' aM,DropTo U v U' v' aM/\R v' aM:=λh=>by
   obtain⟨B',F',pl',tb',k1,k2⟩:=h2;split at h
   .rename_i k r hr;split at h
    .rename_i m' ml;obtain⟨g1,g2⟩:=h;have aR:=Ud ml;obtain⟨w,h3,h4⟩:=Jm k2 hr;rw[h3];simp only[SR,SRs] at h4;obtain⟨cs,rfl,mv,ws,rfl,⟨rfl,_⟩,h5⟩:=h4;have cf:=SRs.retd0 (B':=B) (pl':=Xd pl d (pl' k)) (tb':=tb) vs ws b9 (Zm vs r ws g1 h5);have au:=k2.obj k;rw[aR] at au;have hle:U.Le U':=k1.f.trans k2.le;have lr:OR P B (Xd pl d (pl' k)) tb U' (pl' k) (.map kk vk m'):=au.retd aV λ_ _=>rfl;have aq:(Qe s'.own k).live=true:=by rw[aR];rfl
     have iz:∀ i,Oid (pl' k) i->U.get i=none:=λi hi=>by
      cases hg:U.get i with
      |none=>rfl
      |some b =>have:=k2.fresh k i aq hi;have h9:=k1.f.2 _ _ hg;rw[this] at h9;cases h9
     have lu:Gam P B F (Xd pl d (pl' k)) tb (s.make d (.map kk vk m')) env U':=by
      refine hG.make d _ (pl' k) (hG.le.trans hle) (λj i _ hl hi=>?_) lr λi _ hi=>⟨?_,λj _ hl hj=>?_⟩
      .cases hg:U.get i with
       |none=>exact k1.d.2 i ((hG.obj j).q0v hl hi) hg
       |some bb=>exact hle.2 _ _ hg
      .cases hg:F.get i with
       |none=>rfl
       |some b=>have:=hG.le.2 _ _ hg;rw[iz i hi] at this;cases this
      .have aj:=(hG.obj j).q0v hl hj;have:=k1.d.2 i aj (iz i hi);obtain⟨id,es,clock,e1,e2,_⟩:=lr;rw[e1] at hi;obtain rfl:id=i:=osj hi;rw[this] at e2;cases e2
     refine⟨_,U',.refl _ _ _,hK _ _ B F _ tb _ U' (hx m' g2) (.of hG.bf k1.d) lu ?_⟩;obtain⟨id,es,clock,e1,_⟩:=lr;simp only[SR,SRs];exact⟨_,rfl,_,_,rfl,⟨by simp[Xd],_,e1⟩,cf⟩
    .exact h.elim
   .exact h.elim
  cases e with
  |normal=>exact main h1
  |ret=>exact main h1
  |_=>exact h1.elim
 .exact hx.elim
def Z5w {kk vk:Kind}{D:Type}(la:AL D) (pre:D->Prop) (res:D->List SV) (post:D->List (kk.T×vk.T)->Prop):PSp kk vk:=λap cT=>match AL.dec ap la cT with
 |some a=>some (pre a,res a,post a)
 |none=>none
theorem Z20 {f:Nat}{vc:VCode}{rs:List VResult}{nt:Nat}(h:Fun P f vc rs nt) (hm:P.follows .mixedOrders=true) {ap:Ap}(du:Q7s P ap) {kk vk:Kind}(aV:(kk.flat&&vk.flat)=true) {D:Type}{la:AL D}{pre:D->Prop}{res:D->List SV}{post:D->List (kk.T×vk.T)->Prop}
  {C:Cx}(aE:COk P C) {L:D->List (Nat×LoopAnn)}{V:D->Prop}
  (hq:∀ y,gwp C (L y) vc 0 (Z4n rs kk vk (res y) (post y)) (Vq nt (AL.can la y))=V y)
  (hb:∀ y,pre y->V y):XOk P f (Z1d ap kk vk (Z5w la pre res post)):=Z1m h hm aV λcT c vs q hs hc=>by
 unfold Z5w at hs
 grind [AL.q0j,AL.q0i]
end
end Go.V
namespace Go.V
open Go
def callV (ap:Ap) (sp:CSp):XSp:=λd args s K =>
 let s1:=(⟨s.env++args,s.own,s.nx⟩:St).frzs (Sf args);let a1:=s1.env.drop s.env.length
 bif SVs.pure a1 then (match sp ap a1 with
  |some (c,v,bs)=>bif v.ret bs.length&&bs.all OB.isL then c/\K (v.ren d 500000) ((⟨s1.env.take s.env.length,s1.own,s1.nx⟩:St).makes d 500000 0 bs) else False
  |none=>False) else False
section
variable {P:Program}
theorem SRs.split {B:Heap}{pl:Nat->Value}{tb:Nat->Option Bool}:∀ {a:List SV}{u v:List Value},SRs P B pl tb a (u++v)->SRs P B pl tb (a.take u.length) u/\SRs P B pl tb (a.drop u.length) v
 |a,[],v,h=>⟨by simp[SRs],by simpa using h⟩
 |[],x::u,v,h=>by simp only[SRs] at h;cases h
 |s::a,x::u,v,h=>by simp only[SRs,x7] at h;obtain⟨y,ys,e,h1,h2⟩:=h;obtain⟨rfl,rfl⟩:=zF e;obtain⟨h3,h4⟩:=SRs.split h2;simp only[zJ,xO,xX,SRs];exact⟨⟨_,_,rfl,h1,h3⟩,h4⟩
end
end Go.V
namespace Go.V
open Go
def pj4 {A B C D E:Type}(x:A×B×C×D×E):E:=x.2.2.2.2
def pj8 {A B C D A' B' C' D' E:Type}(x:A×B×C×D×A'×B'×C'×D'×E):E:=x.2.2.2.2.2.2.2.2
def Q2 {A B C D A' B' C' D' A1 B1 C1 D1 A2 B2 C2 D2 E:Type}(x:A×B×C×D×A'×B'×C'×D'×A1×B1×C1×D1×A2×B2×C2×D2×E):E:=x.2.2.2.2.2.2.2.2.2.2.2.2.2.2.2.2
theorem Sa {x:Nat}(h:x<9223372036854775808):IntKind.wrap .i64 (x:Int)=x:=by
 have e:((x:Int) % (18446744073709551616:Int))=x:=by omega
 have:¬ ((x:Int)>=9223372036854775808):=by omega
 show (if (true&&decide ((x:Int) % (18446744073709551616:Int)>=9223372036854775808))=true then (x:Int) % (18446744073709551616:Int)-18446744073709551616 else (x:Int) % (18446744073709551616:Int))=x;simp only[e,this,decide_false,Bool.and_false,zk,if_false]
theorem Z1c {x y:Nat}(h:x<9223372036854775808):x &&& y<9223372036854775808:=xj Nat.and_le_left h
theorem Z5l {x y:Nat}(hx:x<9223372036854775808) (hy:y<9223372036854775808):x ||| y<9223372036854775808:=Nat.or_lt_two_pow (n:=63) hx hy
theorem Z1k {x y:Nat}(hx:x<9223372036854775808) (hy:y<9223372036854775808):x ^^^ y<9223372036854775808:=Nat.xor_lt_two_pow (n:=63) hx hy
theorem Q27 (x:Nat):BitVec.ofInt 64 (x:Int)=BitVec.ofNat 64 x:=by apply BitVec.eq_of_toNat_eq;simp
theorem toNat_ofInt {x:Nat}(h:x<9223372036854775808):(BitVec.ofInt 64 (x:Int)).toNat=x:=by rw[Q27,BitVec.toNat_ofNat,zE (by omega)]
theorem Q51 {x y:Nat}(hx:x<9223372036854775808) (hy:y<9223372036854775808):Qf .and .i64 x y=((x &&& y:Nat):Int):=by
 have e:(BitVec.ofInt 64 (x:Int) &&& BitVec.ofInt 64 (y:Int)).toNat=x &&& y:=by rw[BitVec.toNat_and,toNat_ofInt hx,toNat_ofInt hy]
 show IntKind.wrap .i64 ((BitVec.ofInt 64 (x:Int) &&& BitVec.ofInt 64 (y:Int)).toNat:Int)=_;rw[e,Sa (Z1c hx)]
theorem Z4z {x y:Nat}(hx:x<9223372036854775808) (hy:y<9223372036854775808):Qf .or .i64 x y=((x ||| y:Nat):Int):=by
 have e:(BitVec.ofInt 64 (x:Int) ||| BitVec.ofInt 64 (y:Int)).toNat=x ||| y:=by rw[BitVec.toNat_or,toNat_ofInt hx,toNat_ofInt hy]
 show IntKind.wrap .i64 ((BitVec.ofInt 64 (x:Int) ||| BitVec.ofInt 64 (y:Int)).toNat:Int)=_;rw[e,Sa (Z5l hx hy)]
theorem Z31 {x y:Nat}(hx:x<9223372036854775808) (hy:y<9223372036854775808):Qf .xor .i64 x y=((x ^^^ y:Nat):Int):=by
 have e:(BitVec.ofInt 64 (x:Int) ^^^ BitVec.ofInt 64 (y:Int)).toNat=x ^^^ y:=by rw[BitVec.toNat_xor,toNat_ofInt hx,toNat_ofInt hy]
 show IntKind.wrap .i64 ((BitVec.ofInt 64 (x:Int) ^^^ BitVec.ofInt 64 (y:Int)).toNat:Int)=_;rw[e,Sa (Z1k hx hy)]
theorem Z51 {x i:Nat}(hi:i<=64):Zg .i64 x i=((x >>> i:Nat):Int):=by have:Nat.min i 64=i:=xF hi;simp only[Zg,z4,IntKind.bits,this];rw[zA,Int.fdiv_eq_ediv_of_nonneg _ (Int.le_of_lt (Int.pow_pos (by omega)))];norm_cast
theorem Z02 {x i:Nat}(hi:i<=64):Wk .i64 x i=((x <<< i:Nat):Int):=by have:Nat.min i 64=i:=xF hi;simp only[Wk,z4,IntKind.bits,this,Nat.shiftLeft_eq];norm_cast
theorem Z55 {x i:Nat}(hx:x<9223372036854775808) (hi:i<=64):(Qf .and .i64 (Zg .i64 x i) 1==1)=x.testBit i:=by have h1:x >>> i<9223372036854775808:=xj (by rw[zA];exact Nat.div_le_self _ _) hx;rw[Z51 hi,show (1:Int)=((1:Nat):Int) from rfl,Q51 h1 (by omega),Nat.testBit];rw[Bool.eq_iff_iff];simp only[zD,bne_iff_ne,ne_eq];rw[Nat.and_comm,Nat.one_and_eq_mod_two];omega
theorem Q2k {α:Type}:∀ (j:Nat) (x:α) (l:List α),(Q1l j x l).length=l.length+1
 |0,_,_=>rfl
 |j+1,x,[]=>rfl
 |j+1,x,a::l=>by simp only[Q1l,zJ];rw[Q2k j x l]
def Z2w (ap:Ap) (kk vk:Kind) (sp:PSp kk vk):XSp:=λd args s K=>match sp ap (RF s.own args) with
 |some (c,_,post)=>c/\∀ m',post m'->K (.map d) (s.make d (.map kk vk m'))
 |none=>False
def Z5m (rs:List VResult) (kk vk:Kind) (post:List (kk.T×vk.T)->Prop):Exit->St->Prop:=λe s =>
 let fin:=match XB s rs with
  |some (.map k)=>(match CV kk vk (Qe s.own k) with
   |some m'=>post m'
   |none=>False)
  |_=>False
 match e with
 |.normal=>fin
 |.ret=>fin
 |_=>False
section
variable {P:Program}
theorem Z2c {f:Nat}{vc:VCode}{rs:List VResult}{nt:Nat}(h:Fun P f vc rs nt) (hm:P.follows .mixedOrders=true) {kk vk:Kind}(aV:(kk.flat&&vk.flat)=true) {sp:PSp kk vk}{ap:Ap}
  (hb:∀ cT c vs post,sp ap cT=some (c,vs,post)->c->∃ (C:Cx) (L:List (Nat×LoopAnn)) (cG:List SV),SVs.pure cG=true/\(∀ U us,SRs P U X1 ZU cT us->SRs P U X1 ZU cG us)/\COk P C/\gwp C L vc 0 (Z5m rs kk vk post) (Vq nt cG)):XOk P f (Z2w ap kk vk sp):=by
 intro B F pl tb s env U d args vals K R hG ha hx hK;unfold Z2w at hx;split at hx
 .rename_i c vs post cQ;obtain⟨hc,hx⟩:=hx;obtain⟨C,L,cG,cU,lj,dF,hg⟩:=hb _ c vs post cQ hc;have az:=lj U vals (W6 (own:=s.own) hG.leB (pl:=pl) (tb:=tb) (λd=>hG.obj d) ha);have aY:GRel P U U U (Vq nt cG) (vals++List.replicate (nt-vals.length) undef) U:=by
   refine⟨U,U,λ_=>poison,ZU,⟨.refl _,.refl _,λ_ _ _ h=>h,.refl _⟩,.refl _,.refl _,?_,λk=>?_,λk i' h1 h2=>?_,λk k' i' lq h1 h2 h3 h4=>?_,λ_ _=>rfl⟩
   .simp only[Vq];rw[az.length];exact SRs.append (Zb _ _ cU az) (Bl _)
   .simp only[Vq,Qe];trivial
   .simp only[Vq,Qe] at h1;cases h1
   .simp only[Vq,Qe] at h1;cases h1
  refine h.calls hm Ol ?_;refine KU dF vc 0 _ _ _ U none _ trivial aY hg λe s' al U' h1 h2=>?_
  have main:(match XB s' rs with
   |some (.map k)=>(match CV kk vk (Qe s'.own k) with
    |some m'=>post m'
    |none=>False)
   |_=>False)->Zc (Xz al U' rs) λv=>∃ v' aM,DropTo U v U' v' aM/\R v' aM:=λh=>by
   obtain⟨B',F',pl',tb',k1,k2⟩:=h2;split at h
   .rename_i k hr;split at h
    .rename_i m' ml;have g2:=h;have aR:=Ud ml;obtain⟨w,h3,h4⟩:=Jm k2 hr;rw[h3];simp only[SR] at h4;obtain⟨rfl,_⟩:=h4;have au:=k2.obj k;rw[aR] at au;have hle:U.Le U':=k1.f.trans k2.le;have lr:OR P B (Xd pl d (pl' k)) tb U' (pl' k) (.map kk vk m'):=au.retd aV λ_ _=>rfl;have aq:(Qe s'.own k).live=true:=by rw[aR];rfl
     have iz:∀ i,Oid (pl' k) i->U.get i=none:=λi hi=>by
      cases hg:U.get i with
      |none=>rfl
      |some b =>have:=k2.fresh k i aq hi;have h9:=k1.f.2 _ _ hg;rw[this] at h9;cases h9
     have lu:Gam P B F (Xd pl d (pl' k)) tb (s.make d (.map kk vk m')) env U':=by
      refine hG.make d _ (pl' k) (hG.le.trans hle) (λj i _ hl hi=>?_) lr λi _ hi=>⟨?_,λj _ hl hj=>?_⟩
      .cases hg:U.get i with
       |none=>exact k1.d.2 i ((hG.obj j).q0v hl hi) hg
       |some bb=>exact hle.2 _ _ hg
      .cases hg:F.get i with
       |none=>rfl
       |some b=>have:=hG.le.2 _ _ hg;rw[iz i hi] at this;cases this
      .have aj:=(hG.obj j).q0v hl hj;have:=k1.d.2 i aj (iz i hi);obtain⟨id,es,clock,e1,e2,_⟩:=lr;rw[e1] at hi;obtain rfl:id=i:=osj hi;rw[this] at e2;cases e2
     refine⟨_,U',.refl _ _ _,hK _ _ B F _ tb _ U' (hx m' g2) (.of hG.bf k1.d) lu ?_⟩;obtain⟨id,es,clock,e1,_⟩:=lr;simp only[SR];exact⟨by simp[Xd],_,e1⟩
    .exact h.elim
   .exact h.elim
  cases e with
  |normal=>exact main h1
  |ret=>exact main h1
  |_=>exact h1.elim
 .exact hx.elim
theorem Z2j {f:Nat}{vc:VCode}{rs:List VResult}{nt:Nat}(h:Fun P f vc rs nt) (hm:P.follows .mixedOrders=true) {ap:Ap}(du:Q7s P ap) {kk vk:Kind}(aV:(kk.flat&&vk.flat)=true) {D:Type}{la:AL D}{pre:D->Prop}{res:D->List SV}{post:D->List (kk.T×vk.T)->Prop}
  {C:Cx}(aE:COk P C) {L:D->List (Nat×LoopAnn)}{V:D->Prop}
  (hq:∀ y,gwp C (L y) vc 0 (Z5m rs kk vk (post y)) (Vq nt (AL.can la y))=V y)
  (hb:∀ y,pre y->V y):XOk P f (Z2w ap kk vk (Z5w la pre res post)):=Z2c h hm aV λcT c vs q hs hc=>by
 unfold Z5w at hs
 grind [AL.q0j,AL.q0i]
end
end Go.V
namespace Go.V
open Go
abbrev KSp (kk vk:Kind):=Ap->List (kk.T×vk.T)->List SV->Option (Prop×SV×(List (kk.T×vk.T)->Prop))
def Q64 (ap:Ap) (j:Nat) (kk vk:Kind) (sp:KSp kk vk):XSp:=λ_ args s K =>
 match args[j]? with
 |some (.map o)=>(match CV kk vk (Qe s.own o) with
  |some m=>(match sp ap m (RF (oset s.own o .dead) (Q1p j args)) with
   |some (c,v,post)=>bif v.ret 0 then c/\∀ m',post m'->K v ⟨s.env,oset s.own o (.map kk vk m'),s.nx⟩ else False
   |none=>False)
  |none=>False)
 |_=>False
def Bv (nt j:Nat) (kk vk:Kind) (m:List (kk.T×vk.T)) (vals:List Value) (args:List SV):St:=⟨Q1l j (.map 0) args++List.replicate (nt-(args.length+1)) .any,[(0,.map kk vk m),(4000000,.stk [.map 0] vals)],0⟩
def Z6a {kk vk:Kind}{D:Type}(la:AL D) (pre:List (kk.T×vk.T)->D->Prop) (res:List (kk.T×vk.T)->D->SV) (post:List (kk.T×vk.T)->D->List (kk.T×vk.T)->Prop):KSp kk vk:=λap m cT=>match AL.dec ap la cT with
 |some a=>some (pre m a,res m a,post m a)
 |none=>none
section
variable {P:Program}
theorem Z2p {f:Nat}{vc:VCode}{rs:List VResult}{nt:Nat}(h:Fun P f vc rs nt) (hm:P.follows .mixedOrders=true) {kk vk:Kind}(aV:(kk.flat&&vk.flat)=true) {sp:KSp kk vk}{ap:Ap}{j:Nat}
  (hb:∀ m cT c v post,sp ap m cT=some (c,v,post)->c->∃ (C:Cx) (L:List Value->List (Nat×LoopAnn)) (cG:List SV),SVs.pure cG=true/\(∀ U vs,SRs P U X1 ZU cT vs->SRs P U X1 ZU cG vs)/\COk P C/\∀ vals,gwp C (L vals) vc 0 (O2 vals rs v kk vk post) (Bv nt j kk vk m vals cG)):XOk P f (Q64 ap j kk vk sp):=by
 intro B F pl tb s env U d args vs K R hG ha hx hK;unfold Q64 at hx;split at hx
 .rename_i o fp;split at hx
  .rename_i m aH;have aR:=Ud aH;split at hx
   .rename_i c v post cQ;cases b9:v.ret 0 with
    |false=>rw[b9] at hx;exact hx.elim
    |true =>
    rw[b9] at hx;obtain⟨hc,hx⟩:=hx;obtain⟨w,hw,lh,nP⟩:=Q32 j fp ha;simp only[SR] at hw;obtain rfl:w=pl o:=hw.1;have aq:(Qe s.own o).live=true:=by rw[aR];rfl
    have au:=hG.obj o;rw[aR] at au;obtain⟨id,es,clock,eF,bD,dJ⟩:=au;have iv:F.get id=none:=hG.fresh o id aq (by rw[eF];rfl);have iq:B.get id=none:=by
     cases hg:B.get id with
     |none=>rfl
     |some b=>have:=hG.bf.2 _ _ hg;rw[iv] at this;cases this
    obtain⟨C,L,cG,cU,lj,dF,hg⟩:=hb _ _ c v post cQ hc;have hg:=hg [pl o];have qA:oid (pl o)=some id:=by rw[eF];rfl
    let σc:=U.kill id;have lg:B.Le σc:=hG.leB.kill' iq;have nO:F.Le σc:=hG.le.kill' iv;have lk:σc.Le U:=Heap.q1o _ _;have bt:∀ k,k≠id->σc.get k=U.get k:=λk hk=>Heap.q0c _ hk;have bY:∀ d,OR P σc X1 ZU σc (pl d) ((Qe (oset s.own o .dead) d).kill d)\/True:=λ_=>.inr trivial;have oK:∀ (xs:List SV) (vs:List Value),SRs P B pl tb xs vs->SRs P σc X1 ZU (RF (oset s.own o .dead) xs) vs:=λxs vs bO=>by
     refine W6 (own:=oset s.own o .dead) lg (pl:=pl) (tb:=tb) (λd=>?_) bO;rw[Qn];by_cases e:d=o
     .rw[z2 e];trivial
     .rw[z0 e];exact(hG.obj d).mono (.refl _) (λ_ _ h=>h) λhl i hi=>bt _ λgw=>hG.sep d o i e hl aq hi (by rw[eF,gw];rfl)
    have az:=lj σc _ (oK _ _ lh);let fw:Nat->Value:=λk=>if k=0 then pl o else poison
    have gf:∀ (B:Heap) (tb':Nat->Option Bool),SR P B fw tb' (.map 0) (pl o):=λB tb'=>by simp only[SR];exact⟨by simp[fw],_,eF⟩
    have aY:GRel P σc σc U (Bv nt j kk vk m [pl o] cG) (vs++List.replicate (nt-vs.length) undef) U:=by
     refine⟨σc,σc,fw,ZU,⟨.refl _,.refl _,λ_ _ _ h=>h,.refl _⟩,.refl _,lk,?_,λk=>?_,λk i' h1 h2=>?_,λk k' i' lq h1 h2 h3 h4=>?_,λ_ _=>rfl⟩
     .have h0:=nP σc fw ZU cG (.map 0) (Zb _ _ cU az) (gf _ _);have hl:=h0.length;rw[Q2k] at hl;simp only[Bv]
      grind [SRs.append,Bl]
     .simp only[Bv,Qe];by_cases e0:k=0
      .subst e0;simp only[Nat.beq_refl,zd];exact⟨id,es,clock,by simp[fw,eF],bD,dJ.mono lg⟩
      .rw[Zs (λe=>e0 e.symm),cond_false];by_cases e1:k=4000000
       .subst e1;simp only[Nat.beq_refl,zd];exact⟨pl o,[],rfl,gf _ _,rfl⟩
       .rw[Zs (λe=>e1 e.symm),cond_false];trivial
     .simp only[Bv,Qe] at h1;by_cases e0:k=0
      .subst e0;have:Oid (pl o) i':=by simpa [fw] using h2
       rw[eF] at this;obtain rfl:id=i':=osj this;exact Heap.q0f _ _
      .rw[Zs (λe=>e0 e.symm),cond_false] at h1;by_cases e1:k=4000000
       .subst e1;cases h1
       .rw[Zs (λe=>e1 e.symm),cond_false] at h1;cases h1
     .have z:∀ k,(Qe (Bv nt j kk vk m [pl o] cG).own k).live=true->k=0:=λk h1=>by
       simp only[Bv,Qe] at h1;by_cases e0:k=0
       .exact e0
       .rw[Zs (λe=>e0 e.symm),cond_false] at h1;by_cases e1:k=4000000
        .subst e1;cases h1
        .rw[Zs (λe=>e1 e.symm),cond_false] at h1;cases h1
      grind
    refine h.calls hm Ol ?_;refine KU dF vc 0 _ _ _ U none _ trivial aY hg λe s' al U' h1 h2=>?_
    have main:(match XB s' rs,Qe s'.own 4000000,CV kk vk (Qe s'.own 0) with
     |some r,.stk l vs,some m'=>vs=[pl o]/\NS [(0,some 0)] [.map 0] l/\Sv [] v r/\post m'
     |_,_,_=>False)->Zc (Xz al U' rs) λv=>∃ v' aM,DropTo U v U' v' aM/\R v' aM:=λh=>by
     obtain⟨B',F',pl',tb',k1,k2⟩:=h2;split at h
     .rename_i r l' cq m' hr eI nQ;obtain⟨rfl,m1,m2,m3⟩:=h;have eD:=Ud nQ;obtain⟨w,h3,h4⟩:=Jm k2 hr;rw[h3];have df:=k2.obj 4000000;rw[eI] at df;have iu:pl' 0=pl o:=by
       have:=Zm [.map 0] l' [pl o] m1 df;simp only[SRs,SR] at this;obtain⟨u',_,dA,⟨h5,_⟩,_⟩:=this;obtain rfl:pl o=u':=(zF dA).1;simpa [Di,Qw] using h5.symm
      have fj:=k2.obj 0;rw[eD,iu] at fj;have cf:=(Kd v r w m2 h4).retd (B':=B) (pl':=pl) (tb':=tb) (n:=0) (λj hj=>by omega) _ _ b9;have hle:σc.Le U':=k1.f.trans k2.le;have iw:∀ d,d≠o->(Qe s.own d).live=true->∀ i,Oid (pl d) i->U'.get i=U.get i:=λd e hl i hi=>by
       have aj:=(hG.obj d).q0v hl hi;have qB:i≠id:=λgw=>hG.sep d o i e hl aq hi (by rw[eF,gw];rfl);cases hg:U.get i with
       |none=>exact k1.d.2 i aj hg
       |some bb=>exact hle.2 _ _ (by rw[bt i qB];exact hg)
      have bH:∀ d,(Qe (oset s.own o (.map kk vk m')) d).live=(Qe s.own d).live:=λd=>by
       rw[Qn];by_cases e:d=o
       .subst e;rw[z2 rfl,aq];rfl
       .rw[z0 e]
      refine⟨w,U',.refl _ _ _,hK v _ B F pl tb w U' (hx m' m3) (.of hG.bf k1.d) ⟨hG.bf,nO.trans hle,hG.env,λd=>?_,λd i q1 q2=>hG.fresh d i (by rw[<-bH d];exact q1) q2,λd d' i aK q1 q2 q3 q4=>hG.sep d d' i aK (by rw[<-bH d];exact q1) (by rw[<-bH d'];exact q2) q3 q4,hG.free⟩ cf⟩
      .simp only[Qn];by_cases e:d=o
       .subst e;rw[z2 rfl];exact fj.retd aV λ_ _=>rfl
       .rw[z0 e];exact(hG.obj d).mono (.refl _) (λ_ _ h=>h) λhl i hi=>iw d e hl i hi
     .exact h.elim
    cases e with
    |normal=>exact main h1
    |ret=>exact main h1
    |_=>exact h1.elim
   .exact hx.elim
  .exact hx.elim
 .exact hx.elim
theorem O8 {f:Nat}{vc:VCode}{rs:List VResult}{nt:Nat}(h:Fun P f vc rs nt) (hm:P.follows .mixedOrders=true) {ap:Ap}(du:Q7s P ap) {kk vk:Kind}(aV:(kk.flat&&vk.flat)=true) {j:Nat}{D:Type}{la:AL D}{pre:List (kk.T×vk.T)->D->Prop}{res:List (kk.T×vk.T)->D->SV}{post:List (kk.T×vk.T)->D->List (kk.T×vk.T)->Prop}
  {C:Cx}(aE:COk P C) {L:List (kk.T×vk.T)->D->List Value->List (Nat×LoopAnn)}{V:List (kk.T×vk.T)->D->Prop}
  (hq:∀ m y,(∀ vals,gwp C (L m y vals) vc 0 (O2 vals rs (res m y) kk vk (post m y)) (Bv nt j kk vk m vals (AL.can la y)))=V m y)
  (hb:∀ m y,pre m y->V m y):XOk P f (Q64 ap j kk vk (Z6a la pre res post)):=Z2p h hm aV λm cT c v q hs hc=>by
 unfold Z6a at hs;split at hs
 .rename_i y h2;obtain⟨rfl,rfl,rfl⟩:=(by simpa using hs:pre m y=c/\res m y=v/\post m y=q);exact⟨C,L m y,AL.can la y,AL.q0j la y,(by grind [AL.q0i]),aE,(hq m y).mpr (hb m y hc)⟩
 .cases hs
end
end Go.V
namespace Go.Proofs.Tryz
open Go Go.V Go.Proofs
abbrev q4 {A B C D E:Type}(x:A×B×C×D×E):E:=x.2.2.2.2
def inI (n a b:Int):Bool:=decide (a<=n)&&decide (n<=b)
def J1i (lw a:List Int) (w:Int) (e:Nat):Bool:=lw.getD e 0==lw.getD w.toNat 0&&!(a.contains (e:Int))
def step (lw:List Int) (a:List Int) (w:Int):List Int:=match (List.range lw.length).find? (J1i lw a w) with
 |some e=>a.set w.toNat e
 |none=>a
def Z11 (l:List Int) (p:Int->Bool):Int:=match l.findIdx? p with|some i=>(i:Int)|none=>-1
section
variable {α:Type}(R:α->α->Bool)
def Z5z (a:α):List α->Nat
 |[]=>0
 |x::r=>if R a x then max (Z5z x r+1) (Z5z a r) else Z5z a r
end
def Z0u {α:Type}(l:List α) (p:α->Bool):Int:=match l.findIdx? p with|some i=>(i:Int)|none=>-1
def Qb (hd:Int) (rows:List Int):Int:=if !inI hd 1 24 then 2 else if 60<rows.length then 5 else if rows.length=0 then 7 else if rows.any (λx=>!inI x 0 (2 ^ hd.toNat-1)) then 2 else 0
theorem Q95 {α:Type}{l:List α}{p:α->Bool}{k:Nat}(hk:k<l.length) (h:p l[k]=true) (hJ:(l.take k).any p=false):Z0u l p=k:=by
 have:l.findIdx? p=some k:=by
  grind [List.findIdx?_eq_some_iff_getElem,List.any_eq_false,List.mem_take_iff_getElem]
 simp[Z0u,this]
theorem Q0g {α:Type}{l:List α}{p:α->Bool}(hJ:l.any p=false):Z0u l p=-1:=by
 have:l.findIdx? p=none:=by simp_all
 simp[Z0u,this]
theorem Z1g {α:Type}(l:List α) (p:α->Bool):(decide (Z0u l p>=0))=l.any p:=by
 cases h:l.any p with
 |false=>rw[Q0g h];rfl
 |true =>
  have:(l.findIdx? p).isSome=true:=by rw[List.findIdx?_isSome,h]
  obtain⟨i,hi⟩:=Option.isSome_iff_exists.1 this;have e:Z0u l p=(i:Int):=by simp[Z0u,hi]
  rw[e];exact zL (Int.natCast_nonneg i)
def Sw (r:Int) (n:Nat):List Bool:=(List.range n).map λk=>r.toNat.testBit k
theorem Om (r:Int) (n:Nat):(Sw r n).length=n:=by simp[Sw]
theorem Q96 {r:Int}{n k:Nat}(h:k<n):(Sw r n).getD k false=r.toNat.testBit k:=by rw[Qg (by simpa [Sw] using h)];simp[Sw]
theorem Q84 (r:Int) (n:Nat):Sw r (n+1)=Sw r n++[r.toNat.testBit n]:=by simp[Sw,List.range_succ]
def rowAt (rows:List Int) (p:Int):Nat:=(rows.getD (p.toNat % rows.length) 0).toNat
def L4:List Bool->Nat
 |[]=>0
 |b::l=>2*L4 l+(if b then 1 else 0)
theorem O7 {lw:List Int}{w:Nat}(hw:w<lw.length):lw.getD w 0∈lw:=by simp_all
theorem Cm:∀ (l:List Bool) (k:Nat),(L4 l).testBit k=l.getD k false
 |[],k=>by simp[L4]
 |b::l,0=>by simp only[L4,Nat.testBit_zero,List.getD_cons_zero];cases b<;>simp<;>omega
 |b::l,k+1=>by simp only[L4,List.getD_cons_succ,<-Cm l k,Nat.testBit_succ];congr 1;cases b<;>simp<;>omega
theorem Q4b:∀ (l:List Bool),L4 l<2 ^ l.length
 |[]=>by simp[L4]
 |b::l=>by have:=Q4b l;simp only[L4,zJ,Nat.pow_succ];cases b<;>simp<;>omega
def Ie:Nat->Nat->Nat
 |0,_=>0
 |h+1,n=>2*Ie h n+(n / 2 ^ h) % 2
theorem Q8j:∀ h n,Ie h n<2 ^ h
 |0,_=>by simp[Ie]
 |h+1,n=>by have:=Q8j h n;have h2:(n / 2 ^ h) % 2<2:=x6 _ (by omega);simp only[Ie];rw[Nat.pow_succ];omega
theorem LI:∀ h n i,(Ie h n).testBit i=(decide (i<h)&&n.testBit (h-1-i))
 |0,n,i=>by simp[Ie]
 |h+1,n,0=>by
  simp only[Ie]
  grind
 |h+1,n,i+1=>by
  have h2:(n / 2 ^ h) % 2<2:=x6 _ (by omega);simp only[Ie];rw[Nat.testBit_succ,show (2*Ie h n+n / 2 ^ h % 2) / 2=Ie h n by omega,LI h n i]
  grind
def MV (s m x:Nat):Nat:=((x >>> s) &&& m) ||| ((x &&& m) <<< s)
theorem Z1b (s m x i:Nat):(MV s m x).testBit i=((x.testBit (s+i)&&m.testBit i)||(decide (s<=i)&&(x.testBit (i-s)&&m.testBit (i-s)))):=by unfold MV;simp_all
def MW (s i:Nat):Nat:=if i / s % 2=0 then i+s else i-s
def Z8v (s m:Nat):Bool:=(List.range 64).all λi=>m.testBit i==(i / s % 2==0)
theorem Q1u {s m x i:Nat}(hs:s=1\/s=2\/s=4\/s=8\/s=16\/s=32) (hm:Z8v s m=true) (hx:x<2 ^ 64) (hi:i<64):(MV s m x).testBit i=x.testBit (MW s i):=by
 have uy:∀ j,j<64->m.testBit j=(j / s % 2==0):=λj hj=>by have:=zg.1 hm j (zS.2 hj);simpa using this
 have hb:∀ j,64<=j->x.testBit j=false:=λj hj=>Nat.testBit_lt_two_pow (zQ hx (Nat.pow_le_pow_right (by omega) hj));rw[Z1b,uy i hi];unfold MW
 grind
theorem Bd {s m x:Nat}(hs:s=1\/s=2\/s=4\/s=8\/s=16\/s=32) (hx:x<2 ^ 64) (hm:m<2 ^ (64-s)):MV s m x<2 ^ 64:=by
 unfold MV;refine Nat.or_lt_two_pow ?_ ?_
 .grind [Nat.lt_of_le_of_lt,Nat.and_le_left,Nat.shiftRight_eq_div_pow,Nat.div_le_self]
 grind [Nat.lt_of_le_of_lt,Nat.and_le_right,Nat.shiftLeft_eq,Nat.pow_add,Nat.mul_lt_mul_of_pos_right,Nat.two_pow_pos]
def Z7r (x:Nat):Nat:=MV 4 1085102592571150095 (MV 2 3689348814741910323 (MV 1 6148914691236517205 x))
def Z32 (x:Nat):Nat:=(MV 16 281470681808895 (MV 8 71777214294589695 x)) >>> 32 ||| ((MV 16 281470681808895 (MV 8 71777214294589695 x)) <<< 32) % 2 ^ 64
theorem Q5m {x i:Nat}(hx:x<2 ^ 64) (hi:i<64):(Z7r x).testBit i=x.testBit (MW 1 (MW 2 (MW 4 i)))/\Z7r x<2 ^ 64:=by
 have b1:MV 1 6148914691236517205 x<2 ^ 64:=Bd (.inl rfl) hx (by decide);have b2:MV 2 3689348814741910323 (MV 1 6148914691236517205 x)<2 ^ 64:=(by grind [Bd]);have b3:=Bd (s:=4) (m:=1085102592571150095) (by omega) b2 (by decide);refine⟨?_,b3⟩;unfold Z7r;have e4:MW 4 i<64:=by unfold MW;split<;>omega
 have e2:MW 2 (MW 4 i)<64:=by generalize MW 4 i=j at e4;unfold MW;split<;>omega
 rw[Q1u (by omega) (by decide) b2 hi,Q1u (by omega) (by decide) b1 e4,Q1u (by omega) (by decide) hx e2]
theorem Z2x {x i:Nat}(hx:x<2 ^ 64) (hi:i<64):(Z32 x).testBit i=x.testBit (MW 8 (MW 16 (MW 32 i))):=by
 have b1:MV 8 71777214294589695 x<2 ^ 64:=Bd (by omega) hx (by decide);have b2:MV 16 281470681808895 (MV 8 71777214294589695 x)<2 ^ 64:=Bd (by omega) b1 (by decide);have uz:(Z32 x).testBit i=(MV 16 281470681808895 (MV 8 71777214294589695 x)).testBit (MW 32 i):=by
  unfold Z32;generalize MV 16 281470681808895 (MV 8 71777214294589695 x)=y at b2;rw[Nat.testBit_or,Nat.testBit_shiftRight,Nat.testBit_mod_two_pow,Nat.testBit_shiftLeft];unfold MW;by_cases h:i / 32 % 2=0
  .grind
  .rw[z0 h];have h1:32<=i:=by omega
   have h2:y.testBit (32+i)=false:=Nat.testBit_lt_two_pow (zQ b2 (Nat.pow_le_pow_right (by omega) (by omega)));rw[h2];simp[h1,hi]
 have oL:MW 32 i<64:=by unfold MW;split<;>omega
 have nR:MW 16 (MW 32 i)<64:=by generalize MW 32 i=j at oL;unfold MW;split<;>omega
 rw[uz,Q1u (by omega) (by decide) b1 oL,Q1u (by omega) (by decide) hx nR]
theorem Z4c {x:Nat}(hx:x<2 ^ 64):Z32 x<2 ^ 64:=by unfold Z32;have b1:MV 8 71777214294589695 x<2 ^ 64:=Bd (by omega) hx (by decide);have b2:MV 16 281470681808895 (MV 8 71777214294589695 x)<2 ^ 64:=Bd (by omega) b1 (by decide);refine Nat.or_lt_two_pow (by omega) (x6 _ (by decide))
theorem Z49:∀ i,i<64->MW 1 (MW 2 (MW 4 (MW 8 (MW 16 (MW 32 i)))))=63-i:=by decide
theorem Z82 {x:Nat}(hx:x<2 ^ 64):Z32 (Z7r x)=Ie 64 x:=by
 refine Nat.eq_of_testBit_eq λi=>?_;have h8:=(Q5m (i:=0) hx (by omega)).2;rw[LI];by_cases hi:i<64
 .rw[Z2x h8 hi];have oL:MW 32 i<64:=by unfold MW;split<;>omega
  have nR:MW 16 (MW 32 i)<64:=by generalize MW 32 i=j at oL;unfold MW;split<;>omega
  have e8:MW 8 (MW 16 (MW 32 i))<64:=by generalize MW 16 (MW 32 i)=j at nR;unfold MW;split<;>omega
  grind [Q5m,Z49]
 .rw[Nat.testBit_lt_two_pow (zQ (Z4c h8) (Nat.pow_le_pow_right (by omega) (by omega)))];simp[hi]
theorem Q7g {f n:Nat}(hf:f<=64) (hn:n<2 ^ f):Ie 64 n >>> (64-f)=Ie f n:=by
 refine Nat.eq_of_testBit_eq λi=>?_;rw[Nat.testBit_shiftRight,LI,LI]
 grind
theorem Z5d (x:Nat):IntKind.wrap .u64 (x:Int)=((x % 2 ^ 64:Nat):Int):=by show (x:Int) % 18446744073709551616=_;omega
theorem J1b {a b:Nat}(ha:a<2 ^ 64) (hb:b<2 ^ 64):Qf .and .u64 (a:Int) (b:Int)=((a &&& b:Nat):Int):=by
 have e:(BitVec.ofInt 64 (a:Int) &&& BitVec.ofInt 64 (b:Int)).toNat=a &&& b:=by grind
 show IntKind.wrap .u64 ((BitVec.ofInt 64 (a:Int) &&& BitVec.ofInt 64 (b:Int)).toNat:Int)=_;rw[e,Z5d,zE (xj Nat.and_le_left ha)]
theorem orU {a b:Nat}(ha:a<2 ^ 64) (hb:b<2 ^ 64):Qf .or .u64 (a:Int) (b:Int)=((a ||| b:Nat):Int):=by
 have e:(BitVec.ofInt 64 (a:Int) ||| BitVec.ofInt 64 (b:Int)).toNat=a ||| b:=by grind
 show IntKind.wrap .u64 ((BitVec.ofInt 64 (a:Int) ||| BitVec.ofInt 64 (b:Int)).toNat:Int)=_;rw[e,Z5d,zE (Nat.or_lt_two_pow ha hb)]
theorem Z8k {x i:Nat}(hi:i<=64):Zg .u64 (x:Int) (i:Int)=((x >>> i:Nat):Int):=by
 have:Nat.min i 64=i:=xF hi;simp only[Zg,z4,IntKind.bits,this]
 grind [Nat.shiftRight_eq_div_pow,Int.fdiv_eq_ediv_of_nonneg,Int.le_of_lt,Int.pow_pos]
theorem J1h {x i:Nat}(hi:i<=64):Wk .u64 (x:Int) (i:Int)=((x <<< i:Nat):Int):=by have:Nat.min i 64=i:=xF hi;simp only[Wk,z4,IntKind.bits,this,Nat.shiftLeft_eq];norm_cast
theorem Z7c {s m x:Nat}(hs:s=1\/s=2\/s=4\/s=8\/s=16\/s=32) (hx:x<2 ^ 64) (hm:m<2 ^ (64-s)) :
  Qf .or .u64 (Qf .and .u64 (Zg .u64 (x:Int) (s:Int)) (m:Int)) (Wk .u64 (Qf .and .u64 (x:Int) (m:Int)) (s:Int))=((MV s m x:Nat):Int)/\InK .u64 (Wk .u64 (Qf .and .u64 (x:Int) (m:Int)) (s:Int))/\MV s m x<2 ^ 64:=by
 have nS:m<2 ^ 64:=(by grind);have bO:x >>> s<2 ^ 64:=xj (by rw[zA];exact Nat.div_le_self _ _) hx;have hl:(x &&& m) <<< s<2 ^ 64:=by
  grind [Nat.lt_of_le_of_lt,Nat.and_le_right,Nat.shiftLeft_eq,Nat.pow_add,Nat.mul_lt_mul_of_pos_right,Nat.two_pow_pos]
 rw[Z8k (by omega),J1b bO nS,J1b hx nS,J1h (by omega),orU (xj Nat.and_le_left bO) hl];refine⟨rfl,?_,Bd hs hx hm⟩
 grind [PS]
theorem sw1 {x:Nat}(hx:x<2 ^ 64):Qf .or .u64 (Qf .and .u64 (Zg .u64 (x:Int) 1) 6148914691236517205) (Wk .u64 (Qf .and .u64 (x:Int) 6148914691236517205) 1)=((MV 1 6148914691236517205 x:Nat):Int)/\InK .u64 (Wk .u64 (Qf .and .u64 (x:Int) 6148914691236517205) 1)/\MV 1 6148914691236517205 x<2 ^ 64:=Z7c (s:=1) (m:=6148914691236517205) (by omega) hx (by decide)
theorem sw2 {x:Nat}(hx:x<2 ^ 64):Qf .or .u64 (Qf .and .u64 (Zg .u64 (x:Int) 2) 3689348814741910323) (Wk .u64 (Qf .and .u64 (x:Int) 3689348814741910323) 2)=((MV 2 3689348814741910323 x:Nat):Int)/\InK .u64 (Wk .u64 (Qf .and .u64 (x:Int) 3689348814741910323) 2)/\MV 2 3689348814741910323 x<2 ^ 64:=Z7c (s:=2) (m:=3689348814741910323) (by omega) hx (by decide)
theorem sw4 {x:Nat}(hx:x<2 ^ 64):Qf .or .u64 (Qf .and .u64 (Zg .u64 (x:Int) 4) 1085102592571150095) (Wk .u64 (Qf .and .u64 (x:Int) 1085102592571150095) 4)=((MV 4 1085102592571150095 x:Nat):Int)/\InK .u64 (Wk .u64 (Qf .and .u64 (x:Int) 1085102592571150095) 4)/\MV 4 1085102592571150095 x<2 ^ 64:=Z7c (s:=4) (m:=1085102592571150095) (by omega) hx (by decide)
theorem sw8 {x:Nat}(hx:x<2 ^ 64):Qf .or .u64 (Qf .and .u64 (Zg .u64 (x:Int) 8) 71777214294589695) (Wk .u64 (Qf .and .u64 (x:Int) 71777214294589695) 8)=((MV 8 71777214294589695 x:Nat):Int)/\InK .u64 (Wk .u64 (Qf .and .u64 (x:Int) 71777214294589695) 8)/\MV 8 71777214294589695 x<2 ^ 64:=Z7c (s:=8) (m:=71777214294589695) (by omega) hx (by decide)
theorem J1y {x:Nat}(hx:x<2 ^ 64):Qf .or .u64 (Qf .and .u64 (Zg .u64 (x:Int) 16) 281470681808895) (Wk .u64 (Qf .and .u64 (x:Int) 281470681808895) 16)=((MV 16 281470681808895 x:Nat):Int)/\InK .u64 (Wk .u64 (Qf .and .u64 (x:Int) 281470681808895) 16)/\MV 16 281470681808895 x<2 ^ 64:=Z7c (s:=16) (m:=281470681808895) (by omega) hx (by decide)
theorem J1n {x:Nat}(hx:x<2 ^ 64):Qf .or .u64 (Zg .u64 (x:Int) 32) (IntKind.wrap .u64 (Wk .u64 (x:Int) 32))=((x >>> 32 ||| (x <<< 32) % 2 ^ 64:Nat):Int):=by have h1:Zg .u64 (x:Int) 32=((x >>> 32:Nat):Int):=Z8k (i:=32) (by omega);have h2:Wk .u64 (x:Int) 32=((x <<< 32:Nat):Int):=J1h (i:=32) (by omega);rw[h1,h2,Z5d,orU (by omega) (x6 _ (by decide))]
abbrev YQ:=Int×Int×Bool
def Ya:YQ:=(0,(0,false))
def Zt (hk:Int) (c:YQ):Bool:=inI c.1 (-1) 59&&inI c.2.1 0 (2 ^ hk.toNat-1)
def QG (hk:Int) (cs:List YQ):Int:=if !inI hk 1 24 then 3 else if 60<cs.length then 5 else if cs=[]\/(cs.any λc=>!Zt hk c)=true then 2 else 0
def Z73 (f row:Int):Int:=((Ie f.toNat row.toNat:Nat):Int)
def BP (hk:Int) (c:YQ):Int:=if c.2.2 then Z73 hk c.2.1 else c.2.1
def Y3 (hk:Int) (rows:List Int):Int:=if !inI hk 1 24 then 2 else if 60<rows.length then 5 else if rows=[] then 7 else if (rows.any λr=>!inI r 0 (2 ^ hk.toNat-1))=true then 2 else 0
def Co (rows:List Int):List YQ:=(List.range rows.length).map λ(i:Nat)=>((i:Int),(rows.getD i 0,false))
def Jd (hk:Int) (rows:List Int):Int:=if Y3 hk rows=0 then hk else 0
def YW (hk:Int) (rows:List Int):List YQ:=if Y3 hk rows=0 then Co rows else []
def atK (n a:Int) (st:List Int):Nat->Int
 |0=>a
 |k+1=>Int.tmod (atK n a st k+st.getD k 0) n
def F2 (hk:Int) (cs:List YQ) (a:Int) (st:List Int) (k:Nat):List Int:=(List.range k).map λi=>BP hk (cs.getD (atK cs.length a st i).toNat Ya)
def Ja (hk:Int) (cs:List YQ) (a:Int) (st:List Int):Int:=if QG hk cs≠0 then QG hk cs else if !inI a 0 ((cs.length:Int)-1) then 7 else if 60<st.length then 5 else if (st.any λs=>!inI s 0 2)=true then 2 else 0
def H9 (hk:Int) (cs:List YQ) (a:Int) (st:List Int):List Int:=if Ja hk cs a st=0 then F2 hk cs a st st.length else []
def Me (hk:Int) (cs:List YQ) (a:Int) (st:List Int):Int:=if Ja hk cs a st=0 then atK cs.length a st st.length else 0
theorem SN {n a b:Int}(h:(!inI n a b)=false):a<=n/\n<=b:=by unfold inI at h;simp at h;omega
theorem J1r {k:Nat}(h:k<=62):Wk .i64 1 (k:Int)=((2 ^ k:Nat):Int):=by have:=Z02 (x:=1) (i:=k) (by omega);rw[Nat.shiftLeft_eq,xx] at this;exact this
theorem Q4s (k:Nat):(2:Int) ^ k=((2 ^ k:Nat):Int):=by simp
theorem Z6h {k:Nat}(h:k<=24):0<2 ^ k/\2 ^ k<=16777216:=⟨Nat.two_pow_pos k,Nat.pow_le_pow_right (n:=2) (by omega) h⟩
theorem Q6s {f:Int}{c:YQ}(h:Zt f c=true):0<=c.2.1/\c.2.1<2 ^ f.toNat:=by
 unfold Zt inI at h
 grind
theorem O4 {hk:Int}{cs:List YQ}(h1:(!inI hk 1 24)=false) (h2:cs.length<=60) (h3:(!(!cs.isEmpty&&!(cs.any λc=>!Zt hk c)))=true):QG hk cs=2:=by unfold QG;simp_all
theorem Cq {hk:Int}{cs:List YQ}(h1:(!inI hk 1 24)=false) (h2:cs.length<=60) (h3:(!(!cs.isEmpty&&!(cs.any λc=>!Zt hk c)))=false):QG hk cs=0/\cs≠[]/\∀ c∈cs,Zt hk c=true:=by
 simp only[Bool.not_and,Bool.not_not,Bool.or_eq_false_iff] at h3;have aK:cs≠[]:=λe=>by rw[e] at h3;cases h3.1
 refine⟨?_,aK,λc hc=>?_⟩
 .unfold QG
  grind
 grind
def Z4d (rows:List Int) (k:Nat):List YQ:=(List.range k).map λ(i:Nat)=>((i:Int),(rows.getD i 0,false))
theorem Z05 (rows:List Int) (k:Nat):Z4d rows (k+1)=Z4d rows k++[((k:Int),(rows.getD k 0,false))]:=by unfold Z4d;rw[List.range_succ,xw];rfl
theorem Z28 (rows:List Int) (k:Nat):(Z4d rows k).length=k:=by simp[Z4d]
theorem Oh {hk:Int}{rows:List Int}{e:Int}(h:Y3 hk rows=e) (h0:e≠0):(0=Jd hk rows/\e=Y3 hk rows)/\YW hk rows=[]/\(YW hk rows).isEmpty=true:=by
 have h1:Y3 hk rows≠0:=by omega
 have h2:YW hk rows=[]:=by unfold YW;rw[z0 h1]
 have h3:Jd hk rows=0:=by unfold Jd;rw[z0 h1]
 simp_all
theorem Mu {hk a:Int}{cs:List YQ}{st:List Int}{e:Int}(h:Ja hk cs a st=e) (h0:e≠0):(0=Me hk cs a st/\e=Ja hk cs a st)/\H9 hk cs a st=[]/\(H9 hk cs a st).isEmpty=true:=by
 have h1:Ja hk cs a st≠0:=by omega
 have h2:H9 hk cs a st=[]:=by unfold H9;rw[z0 h1]
 have h3:Me hk cs a st=0:=by unfold Me;rw[z0 h1]
 simp_all
theorem Q7l (hk:Int) (cs:List YQ) (a:Int) (st:List Int) (k:Nat):F2 hk cs a st (k+1)=F2 hk cs a st k++[BP hk (cs.getD (atK cs.length a st k).toNat Ya)]:=by unfold F2;rw[List.range_succ,xw];rfl
theorem Q0t (hk:Int) (cs:List YQ) (a:Int) (st:List Int) (k:Nat):(F2 hk cs a st k).length=k:=by simp[F2]
theorem Z46 {n:Nat}{a:Int}{st:List Int}(hn:0<n) (h0:0<=a) (h1:a<n) (hs:∀ s∈st,0<=s):∀ k,0<=atK n a st k/\atK n a st k<n
 |0=>⟨h0,h1⟩
 |k+1=>by
  have ih:=Z46 hn h0 h1 hs k;have hg:0<=st.getD k 0:=by
   rw[z9];cases h:st[k]? with
   |none=>exact Int.le_refl _
   |some x=>exact hs x (xh h)
  simp only[atK];rw[Int.tmod_eq_emod_of_nonneg (by omega)];exact⟨Int.emod_nonneg _ (by omega),Int.emod_lt_of_pos _ (by omega)⟩
theorem CA {hk:Int}{cs:List YQ}(h:QG hk cs=0):(1<=hk/\hk<=24)/\cs.length<=60/\cs≠[]/\∀ c∈cs,Zt hk c=true:=by
 unfold QG at h;split at h
 .cases h
 .rename_i h1;have h1:(!inI hk 1 24)=false:=by simpa using h1
  split at h
  .cases h
  .split at h
   .cases h
   .rename_i h2 h3;refine⟨SN h1,by omega,λe=>h3 (.inl e),λc hc=>?_⟩
    grind
def Q3d (a b:Int):Int:=if a<b then -1 else if b<a then 1 else 0
def Z27:XSp:=λ_ _ _ _=>False
theorem IS {P:Program}{f:Nat}:XOk P f Z27:=λ_ _ _ _ _ _ _ _ _ _ _ _ _ _ hx _=>hx.elim
def len8T:List UInt8:=[0,1,2,2,3,3,3,3,4,4,4,4,4,4,4,4,5,5,5,5,5,5,5,5,5,5,5,5,5,5,5,5,6,6,6,6,6,6,6,6,6,6,6,6,6,6,6,6,6,6,6,6,6,6,6,6,6,6,6,6,6,6,6,6,7,7,7,7,7,7,7,7,7,7,7,7,7,7,7,7,7,7,7,7,7,7,7,7,7,7,7,7,7,7,7,7,7,7,7,7,7,7,7,7,7,7,7,7,7,7,7,7,7,7,7,7,7,7,7,7,7,7,7,7,7,7,7,7,8,8,8,8,8,8,8,8,8,8,8,8,8,8,8,8,8,8,8,8,8,8,8,8,8,8,8,8,8,8,8,8,8,8,8,8,8,8,8,8,8,8,8,8,8,8,8,8,8,8,8,8,8,8,8,8,8,8,8,8,8,8,8,8,8,8,8,8,8,8,8,8,8,8,8,8,8,8,8,8,8,8,8,8,8,8,8,8,8,8,8,8,8,8,8,8,8,8,8,8,8,8,8,8,8,8,8,8,8,8,8,8,8,8,8,8,8,8,8,8,8,8,8,8,8,8,8,8]
def I1 (x:Int):Int:=((UInt8.toNat (List.getD len8T (Int.toNat x) 0):Nat):Int)
def Q2n {α:Type}[Inhabited α] (lt:α->α->Bool) (a:Nat):Nat->List α->List α
 |0,xs=>xs
 |j+1,xs=>if a<j+1/\lt (xs.getD (j+1) default) (xs.getD j default)=true then Q2n lt a j ((xs.set (j+1) (xs.getD j default)).set j (xs.getD (j+1) default)) else xs
def Z12 {α:Type}[Inhabited α] (lt:α->α->Bool) (a:Nat):Nat->List α->List α
 |0,xs=>xs
 |n+1,xs=>Q2n lt a (a+1+n) (Z12 lt a n xs)
def AU {α:Type}[Inhabited α] (f:α×α->Int) (xs:List α) (a b:Nat):List α:=Z12 (λx y=>decide (f (x,y)<0)) a (b-a-1) xs
section
variable {α:Type}[Inhabited α] {lt:α->α->Bool}
theorem Q26 {xs:List α}{j:Nat}(h:j+1<xs.length):((xs.set (j+1) (xs.getD j default)).set j (xs.getD (j+1) default)).Perm xs:=by
 grind [Qg,List.set_set_perm]
theorem Q22 {a:Nat}:∀ j {xs:List α},j<xs.length->(Q2n lt a j xs).Perm xs
 |0,_,_=>.refl _
 |j+1,xs,h=>by
  unfold Q2n;split
  .exact(Q22 j (by simp;omega)).trans (Q26 h)
  .exact .refl _
theorem R4 {a:Nat}{xs:List α}:∀ n,a+n<xs.length\/n=0->(Z12 lt a n xs).Perm xs
 |0,_=>.refl _
 |n+1,h=>by have ih:=R4 (a:=a) (xs:=xs) n (by omega);unfold Z12;exact(Q22 _ (by rw[ih.length_eq];omega)).trans ih
theorem CW {f:α×α->Int}{xs:List α}{a b:Nat}(h:b<=xs.length):(AU f xs a b).Perm xs:=R4 _ (by omega)
theorem Z0l {a j:Nat}{xs:List α}(hj:a<j) (h:lt (xs.getD j default) (xs.getD (j-1) default)=true):Q2n lt a j xs=Q2n lt a (j-1) ((xs.set j (xs.getD (j-1) default)).set (j-1) (xs.getD j default)):=by obtain⟨k,rfl⟩:∃ k,j=k+1:=⟨j-1,by omega⟩;rw[Nat.add_sub_cancel] at h |-;rw[Q2n,z2 ⟨hj,h⟩]
theorem Q9h {a j:Nat}{xs:List α}(h:¬ (a<j/\lt (xs.getD j default) (xs.getD (j-1) default)=true)):Q2n lt a j xs=xs:=by
 cases j with
 |zero=>rfl
 |succ k=>rw[Nat.add_sub_cancel] at h;rw[Q2n,z0 h]
def Z44 (lt:α->α->Bool) (i:Nat) (xs:List α):Prop:=∀ p q,p<q->q<=i->lt (xs.getD q default) (xs.getD p default)=false
theorem Q20 (has:∀ x y,lt x y=true->lt y x=false) (l8:∀ x y z,lt y x=false->lt z y=false->lt z x=false) {i:Nat}:∀ j {xs:List α},j<=i->i<xs.length->(∀ p q,p<q->q<=i->q≠j->lt (xs.getD q default) (xs.getD p default)=false)->Z44 lt i (Q2n lt 0 j xs)
 |0,xs,_,_,h=>λp q h1 h2=>by rw[Q2n];exact h p q h1 h2 (by omega)
 |j+1,xs,hj,hi,h=>by
  rw[Q2n];split
  .rename_i hc;refine Q20 has l8 j (by omega) (by simp;exact hi) λp q h1 h2 h3=>?_
   grind
  .rename_i hc;have hc:lt (xs.getD (j+1) default) (xs.getD j default)=false:=by
    simp_all
   intro p q h1 h2
   grind
theorem Q24 (has:∀ x y,lt x y=true->lt y x=false) (l8:∀ x y z,lt y x=false->lt z y=false->lt z x=false) {xs:List α}:∀ n,n<xs.length->Z44 lt n (Z12 lt 0 n xs)
 |0,_=>λp q h1 h2=>by omega
 |n+1,h=>by have ih:=Q24 has l8 (xs:=xs) n (by omega);have hp:=R4 (lt:=lt) (a:=0) (xs:=xs) n (by omega);unfold Z12;rw[show 0+1+n=n+1 by omega];exact Q20 has l8 (n+1) (z5 _) (by rw[hp.length_eq];omega) λp q h1 h2 h3=>ih p q h1 (by omega)
theorem Q94 {f:α×α->Int}(has:∀ x y,f (x,y)<0->¬ f (y,x)<0) (l8:∀ x y z,¬ f (y,x)<0->¬ f (z,y)<0->¬ f (z,x)<0) (xs:List α):(AU f xs 0 xs.length).Pairwise λx y=>¬ f (y,x)<0:=by
 cases hx:xs with
 |nil=>exact List.Pairwise.nil
 |cons x0 t =>
  have hlen:0<xs.length:=by rw[hx];simp
  rw[<-hx];have h:=Q24 (lt:=λx y=>decide (f (x,y)<0)) (λx y h=>by simpa using has x y (by simpa using h)) (λx y z h1 h2=>by simpa using l8 x y z (by simpa using h1) (by simpa using h2)) (xs:=xs) (xs.length-0-1) (by omega);have hl:=(CW (f:=f) (a:=0) (z5 xs.length)).length_eq;refine List.pairwise_iff_getElem.2 λp q hp hq uA=>?_;have:=h p q uA (by omega);have cz:(Z12 (λx y=>decide (f (x,y)<0)) 0 (xs.length-0-1) xs).getD q default=(AU f xs 0 xs.length)[q]:=Qg hq;have bu:(Z12 (λx y=>decide (f (x,y)<0)) 0 (xs.length-0-1) xs).getD p default=(AU f xs 0 xs.length)[p]:=Qg hp;rw[cz,bu] at this;simpa using this
end
theorem Z5q {a j:Nat}{α:Type}[Inhabited α] {f:α×α->Int}{ys T:List α}(e:Q2n (λx y=>decide (f (x,y)<0)) a j ys=T) (h:¬ (a<j/\f (ys.getD j default,ys.getD (j-1) default)<0)):ys=T:=by
 grind [Q9h]
theorem Z37 {a j:Nat}{α:Type}[Inhabited α] {f:α×α->Int}{ys T:List α}(e:Q2n (λx y=>decide (f (x,y)<0)) a j ys=T) (hj:a<j) (h:f (ys.getD j default,ys.getD (j-1) default)<0):Q2n (λx y=>decide (f (x,y)<0)) a (j-1) ((ys.set j (ys.getD (j-1) default)).set (j-1) (ys.getD j default))=T:=by
 grind [Z0l]
theorem Q6b {α:Type}[Inhabited α] {xs:List α}{j:Nat}(h0:0<j) (h:j<xs.length):((xs.set j (xs.getD (j-1) default)).set (j-1) (xs.getD j default)).Perm xs:=by
 grind [Q26]
end Go.Proofs.Tryz
namespace Go.Proofs.Tryz
open Go Go.V Go.Proofs
def XT:AL (List Int×((Int->Prop)×(Int->Bool))):=(.cons (.k (.list (.i .i64))) (.one (.fn [(.i .i64)] .bo)))
def VG (d:List Int×((Int->Prop)×(Int->Bool))):Prop:=d.1.length<=1000000/\∀ x∈d.1,d.2.1 x
def Xr (d:List Int×((Int->Prop)×(Int->Bool))):SV:=.val (.i .i64) (Z11 d.1 d.2.2)
def Xq (d:List Int×((Int->Prop)×(Int->Bool))):List OB:=[]
def Jb:CSp:=XD XT VG Xr Xq
def Zn (l:List Int) (p:(Int->Prop)×(Int->Bool)):Prop :=
 ∃ (e2:Unit) (d20:Int),((l=l/\(SV.pf [(.i .i64)] .bo p.1 p.2=SV.pf [(.i .i64)] .bo p.1 p.2)/\(lI l)=(lI l)/\(0:Int)=d20/\True)/\(True)) /\
 LoopP (λ(d2:Int) (q2:(Int)->Prop) =>
  ((decide (d2<(lI l)))=true ->
   (0<=d2)/\(d2<(List.length l))/\(p.1 (gD l d2 0))/\((p.2 (gD l d2 0))=true ->
    (d2=(Z11 l p.2)/\(True))) /\
   ((p.2 (gD l d2 0))=false ->
    (I64 (d2+(1:Int)))/\(∃ d3:Int,((l=l/\(SV.pf [(.i .i64)] .bo p.1 p.2=SV.pf [(.i .i64)] .bo p.1 p.2)/\(lI l)=(lI l)/\(d2+(1:Int))=d3/\True)/\(True))/\q2 d3))) /\
  ((decide (d2<(lI l)))=false ->
   ((-1:Int)=(Z11 l p.2)/\(True)))) d20
def XO:Cx:=⟨[],[],19,[],0,[],[],[],[],false,[],[],[],[]⟩
def Uu (l:List Int) (p:(Int->Prop)×(Int->Bool)):List (Nat×LoopAnn):=[(0,⟨Unit,Int,[0,1,7,8],λe x=>[.val (.list (.i .i64)) l,.pf [(.i .i64)] .bo p.1 p.2,.val (.i .i64) (((List.length l):Nat):Int),.val (.i .i64) x],λe x=>[]⟩)]
theorem U_ (d:List Int×((Int->Prop)×(Int->Bool))):gwp (XO) (Uu d.1 d.2) c68 0 (Wj [.tmp 4] (Xr d) (Xq d)) (Qp 19 (AL.can XT d))=Zn d.1 d.2:=by kernel_rfl
abbrev Uy:Prop:=OkC Tryz.prog 68 Jb
theorem UF (h:∀ (l:List Int) (p:(Int->Prop)×(Int->Bool)),(l.length<=1000000/\∀ x∈l,p.1 x)->Zn l p):OkC Tryz.prog 68 Jb :=
 Qs Z83 mixed (C:=XO) (V:=λ(d:List Int×((Int->Prop)×(Int->Bool)))=>Zn d.1 d.2) ⟨.nil,XsOk.nil,ItsOk.nil,YlOk.nil,IysOk.nil,XfOk.nil⟩ (U_) λd hp=>h d.1 d.2 hp
theorem Q8f {l:List Int}{p:Int->Bool}{k:Nat}(hk:k<l.length) (h:p l[k]=true) (hJ:(l.take k).any p=false):Z11 l p=k:=by
 have:l.findIdx? p=some k:=by rw[List.findIdx?_eq_some_iff_getElem];refine⟨hk,h,λj hj=>?_⟩;have hn:=xe.1 hJ l[j] (List.mem_take_iff_getElem.2 ⟨j,by omega,rfl⟩);simpa using hn
 simp[Z11,this]
theorem Q9u {l:List Int}{p:Int->Bool}(hJ:l.any p=false):Z11 l p=-1:=by
 have:l.findIdx? p=none:=by rw[List.findIdx?_eq_none_iff];intro x hx;have:=xe.1 hJ x hx;simpa using this
 simp[Z11,this]
theorem Q31 (l:List Int) (p:Int->Bool):decide (Z11 l p>=0)=l.any p:=by
 unfold Z11;cases h:l.findIdx? p with
 |none =>
  have:=List.findIdx?_eq_none_iff.1 h;have:l.any p=false:=by rw[xe];intro x hx;simp[this x hx]
  rw[this];rfl
 |some i =>obtain⟨h1,h2,_⟩:=List.findIdx?_eq_some_iff_getElem.1 h;rw[xy.2 ⟨l[i],zh h1,h2⟩];simp
theorem Uq:Uy:=UF λl p hp=>by
 unfold Zn;(try delta lI gD sT I64 Q2 pj8 pj4);simp only[true_and,and_true,eq_self_iff_true,exists_eq_left',exists_const,ze,zG,zD,bne_iff_ne,ne_eq,zW,bne_eq_false_iff_eq,Bool.not_eq_true',zH,z_,xH,z4,Int.ofNat_lt,gt_iff_lt,ge_iff_le];refine LoopP.count l.length (λk=>(l.take k).any p.2=false) (by simp) λk bn hJ q hq=>?_;simp only[true_and,and_true,eq_self_iff_true,exists_eq_left',exists_const,ze,zG,zD,bne_iff_ne,ne_eq,zW,bne_eq_false_iff_eq,Bool.not_eq_true',zH,z_,xH,z4,Int.ofNat_lt,gt_iff_lt,ge_iff_le,Q7];refine⟨λaj=>?_,λb8=>?_⟩
 .rw[Qg aj];refine⟨by omega,aj,hp.2 _ (zh aj),λhx=>?_,λhx=>⟨by omega,hq aj ?_⟩⟩
  .rw[Q8f aj hx hJ]
  .rw[XJ aj,List.any_append,hJ];simp[hx]
 .rw[x9 (by omega)] at hJ;rw[Q9u hJ]
def X0:AL (List Int×((Int->Prop)×(Int->Bool))):=(.cons (.k (.list (.i .i64))) (.one (.fn [(.i .i64)] .bo)))
def Kn (d:List Int×((Int->Prop)×(Int->Bool))):Prop:=d.1.length<=1000000/\∀ x∈d.1,d.2.1 x
def JL (d:List Int×((Int->Prop)×(Int->Bool))):SV:=.val .bo (d.1.any d.2.2)
def JP (d:List Int×((Int->Prop)×(Int->Bool))):List OB:=[]
def QF:CSp:=XD X0 Kn JL JP
def ZC (l:List Int) (p:(Int->Prop)×(Int->Bool)):Prop :=
 (l.length<=1000000/\∀ x∈l,(λ(x1:Int)=>p.1 x1) x)/\((decide ((Z11 l (λ(x1:Int)=>(p.2 x1)))>=(0:Int)))=(l.any p.2)/\(True))
def J_:Cx:=⟨[],[(68,Jb)],9,[],0,[],[],[],[],false,[],[],[],[]⟩
def V7 (l:List Int) (p:(Int->Prop)×(Int->Bool)):List (Nat×LoopAnn):=[]
theorem KZ (d:List Int×((Int->Prop)×(Int->Bool))):gwp (J_) (V7 d.1 d.2) c42 0 (Wj [.tmp 4] (JL d) (JP d)) (Qp 9 (AL.can X0 d))=ZC d.1 d.2:=by kernel_rfl
abbrev V9:Prop:=OkC Tryz.prog 42 QF
theorem V6 (h:∀ (l:List Int) (p:(Int->Prop)×(Int->Bool)),(l.length<=1000000/\∀ x∈l,p.1 x)->ZC l p):OkC Tryz.prog 42 QF :=
 Qs Z9o mixed (C:=J_) (V:=λ(d:List Int×((Int->Prop)×(Int->Bool)))=>ZC d.1 d.2) ⟨(.cons Uq .nil),XsOk.nil,ItsOk.nil,YlOk.nil,IysOk.nil,XfOk.nil⟩ (KZ) λd hp=>h d.1 d.2 hp
theorem Zz:V9:=V6 λl p hp=>by exact⟨hp,Q31 l p.2,trivial⟩
end Go.Proofs.Tryz