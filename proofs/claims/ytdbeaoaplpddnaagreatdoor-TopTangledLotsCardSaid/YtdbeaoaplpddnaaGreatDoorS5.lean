/- A framework for walks, contracts of functions, and their proofs: part 5. -/
import Derived.Test.YtdbeaoaplpddnaaGreatDoorS4
set_option linter.unusedVariables false
set_option maxRecDepth 100000
namespace Go.V
open Go
section
variable {P:Program}
mutual
theorem IN:∀ (v:SV) {K:SV→Prop},nmV v K→K v
 |.val k x,K,h=>by simp only[nmV] at h;exact h x rfl
 |.agg l,K,h=>by simp only[nmV] at h;exact RC l h
 |.tup l,K,h=>by simp only[nmV] at h;exact RC l h
 |.any,_,h|.dd _ _,_,h|.bid _ _,_,h|.grd _ _,_,h|.nilS,_,h|.nilP,_,h|.nilM,_,h|.nilF,_,h|.lst _,_,h|.sub _ _ _ _,_,h|.elp _ _ _ _,_,h|.rop _ _ _ _,_,h|.box _ _,_,h|.cp _ _,_,h|.map _,_,h|.fn _ _ _,_,h|.pf _ _ _ _,_,h=>by simp only[nmV] at h;exact h
theorem RC:∀ (l:List SV) {K:List SV→Prop},Q91 l K→K l
 |[],K,h=>by simp only[Q91] at h;exact h
 |v::r,K,h=>by simp only[Q91] at h;exact RC r (IN v h)
end
theorem Zp {C:Cx}{o:VOp}{ev:Operand→SV}{v:SV}{K:SV→Prop}(h:gnm C o ev v K):K v:=by
 unfold gnm at h;cases hb:(C.nm&&Z6k o ev) with
 |true=>rw[hb] at h;exact IN v h
 |false=>rw[hb] at h;exact h
theorem PN {B:Heap}{pl:Nat→Value}{tb:Nat→Option Bool}{v:SV}{u:Value}(h:SR P B pl tb v u):SR P B pl tb (Bb v) u∧gtb tb (Bb v):=by
 cases v with
 |bid n c=>simp only[SR] at h;obtain⟨rfl,_⟩:=h;exact⟨J6 _,trivial⟩
 |_=>exact⟨h,trivial⟩
theorem PU {tb:Nat→Option Bool}(v:SV):gtb tb (Bb v):=by cases v<;>trivial
theorem HO {C:Cx}(aA:COk P C) {B F:Heap}{pl:Nat→Value}{tb:Nat→Option Bool}{s:St}{env:Env}{σ:Heap}(hG:Gam P B F pl tb s env σ) {d:Nat}{f:SV}{args:List SV}{fV:Value}{vs:List Value}(hf:SR P B pl tb f fV) (ha:SRs P B pl tb args vs) {K:SV→St→Prop}(h:Ir C d f args s K) {R:Value→Heap→Prop}
  (hK:∀ v s' B' F' pl' tb' u σ',K v s'→GBase B F σ B' F' σ'→Gam P B' F' pl' tb' s' env σ'→SR P B' pl' tb' v u→R u σ'):∃ g a b,fV=.func (.func g) a b∧VCalled P g (a.toList++vs++b.toList) σ R:=by
 unfold Ir at h;have lC:SR P σ Xu Jc ((SF s.own [f]).getD 0 .any) fV:=by have:=(Uw hG.leB hG.obj (show SRs P B pl tb [f] [fV] by simp only[SRs];exact⟨_,[],rfl,hf,rfl⟩)).getD 0 poison;simpa using this
 have jl:=Uw hG.leB hG.obj ha;split at h
 ·rename_i c v bs heq;cases hb:(v.ret bs.length&&(bs.all OB.ret&&Nat.blt 0 C.nt)) with
  |false=>rw[hb] at h;exact h.elim
  |true =>rw[hb] at h;obtain⟨h1,h2⟩:=h;simp only[Bool.and_eq_true] at hb;obtain⟨g,a,b,e,aB,_⟩:=J3 aA.cs lC jl heq hb.1 hb.2.1 h1;refine⟨g,a,b,e,aB.mono fun u σ' hr=>?_⟩;obtain⟨pl',h3,h4⟩:=hr.gam (nt:=C.nt) (d:=d) (by simpa [Nat.blt_eq] using hb.2.2) hG hb.1 hb.2.1;exact hK _ _ B F pl' tb u σ' h2 (.of hG.bf hr.1.2) h3 h4
 ·exact h.elim
theorem HR {C:Cx}(aA:COk P C) {B F:Heap}{pl:Nat→Value}{tb:Nat→Option Bool}{s:St}{env:Env}{σ:Heap}(hG:Gam P B F pl tb s env σ) {d:Nat}{f:SV}{args:List SV}{fV:Value}{vs:List Value}(hf:SR P B pl tb f fV) (ha:SRs P B pl tb args vs) {K:SV→St→Prop}(h:LO C d f args s K) (uU:∀ o,f≠.dd o .yv) {R:Value→Heap→Prop}
  (hK:∀ v s' B' F' pl' tb' u σ',K v s'→GBase B F σ B' F' σ'→Gam P B' F' pl' tb' s' env σ'→SR P B' pl' tb' v u→R u σ'):∃ g a b,fV=.func (.func g) a b∧VCalled P g (a.toList++vs++b.toList) σ R:=by
 unfold LO at h;split at h
 ·rename_i g a b;split at h
  ·rename_i x hx;have wN:=hf;simp only[SR] at hf;obtain⟨a',b',rfl,h1,h2⟩:=hf;refine⟨g,a'.toArray,b'.toArray,rfl,?_⟩;have:=aA.xs g x hx B F pl tb s env σ d _ _ K R hG (h1.append (ha.append h2)) h hK;simpa using this
  ·exact HO aA hG hf ha h hK
 ·exact(uU _ rfl).elim
 ·exact HO aA hG hf ha h hK
theorem Q0x {C:Cx}{B F:Heap}{pl:Nat→Value}{tb:Nat→Option Bool}{s:St}{env:Env}{σ:Heap}(hG:Gam P B F pl tb s env σ) {d:Nat}{o:VOp}{K:SV→St→Prop}(h:gnd C d o (gev [] s.env) s K) {R:Value→Heap→Prop}
  (hK:∀ v s' B' F' pl' tb' u σ',K v s'→GBase B F σ B' F' σ'→Gam P B' F' pl' tb' s' env σ'→SR P B' pl' tb' v u→R u σ'):vop (Q2 P) o env σ R:=by
 obtain⟨u,σ',pl',v,s',h1,h2,h3,h4⟩:=Te (fun x=>hG.evs (Gds.nil (tb:=tb)) x) hG h;have fin:QJ (Q4 o (Q3 env) σ) (fun p=>R p.1 p.2):=by rw[h1];exact hK v s' B F pl' tb u σ' h2 (.of hG.bf (KY h1)) h3.1 h4
 cases o
 case buildSlice e z n ps=>exact fin
 case makeSlice e b z l c=>exact fin
 case append e b x y=>exact fin
 case store size a x=>exact fin
 all_goals exact h.elim
section
variable {B F:Heap}{pl:Nat→Value}{tb:Nat→Option Bool}{s:St}{env:Env}{σ:Heap}
def Heap.ins (B σ:Heap) (i:Nat) (h:B.n≤σ.n):Heap where
 get j:=if j=i then σ.get i else B.get j
 n:=σ.n
 wf j hj:=by
  by_cases e:j=i
  ·simp only[if_pos e];subst e;exact σ.wf j hj
  ·simp only[if_neg e];exact B.wf j (Nat.le_trans h hj)
theorem Heap.ins_self (B σ:Heap) (i:Nat) (h:B.n≤σ.n):(B.ins σ i h).get i=σ.get i:=by simp[Heap.ins]
theorem Heap.ins_ne (B σ:Heap) {i j:Nat}(h:B.n≤σ.n) (e:j≠i):(B.ins σ i h).get j=B.get j:=by simp[Heap.ins,e]
theorem Heap.Le.ins {B σ:Heap}(h:B.Le σ) (i:Nat):B.Le (B.ins σ i h.1):=⟨h.1,fun j b hb=>by
 by_cases e:j=i
 ·subst e;rw[Heap.ins_self];exact h.2 _ _ hb
 ·rw[Heap.ins_ne _ _ _ e];exact hb⟩
theorem Heap.Le.ins_le {B σ:Heap}(h:B.Le σ) (i:Nat):(B.ins σ i h.1).Le σ:=⟨Nat.le_refl _,fun j b hb=>by
 by_cases e:j=i
 ·subst e;rw[Heap.ins_self] at hb;exact hb
 ·rw[Heap.ins_ne _ _ _ e] at hb;exact h.2 _ _ hb⟩
theorem Heap.ins_ins {B F σ:Heap}(h:B.Le F) (i:Nat) (hB:B.n≤σ.n) (hF:F.n≤σ.n):(B.ins σ i hB).Le (F.ins σ i hF):=⟨Nat.le_refl _,fun j b hb=>by
 by_cases e:j=i
 ·subst e;rw[Heap.ins_self] at hb ⊢;exact hb
 ·rw[Heap.ins_ne _ _ _ e] at hb ⊢;exact h.2 _ _ hb⟩
theorem Gam.freeze (hG:Gam P B F pl tb s env σ) {o i:Nat}(hl:(Q7 s.own o).live=true) (hi:Oid (pl o) i) :
  GBase B F σ (B.ins σ i hG.leB.1) (F.ins σ i hG.le.1) σ∧Gam P (B.ins σ i hG.leB.1) (F.ins σ i hG.le.1) pl tb ⟨s.env,oset s.own o .dead,s.nx⟩ env σ:=by
 have mD:=hG.fresh o i hl hi;have lv:∀ d,(Q7 (oset s.own o .dead) d).live=true→d≠o∧(Q7 s.own d).live=true:=fun d h=>by
  rw[Q8] at h;by_cases e:d=o
  ·rw[if_pos e] at h;cases h
  ·rw[if_neg e] at h;exact⟨e,h⟩
 refine⟨⟨hG.leB.ins i,hG.le.ins i,fun j b h1 h2=>?_,.refl _⟩,⟨Heap.ins_ins hG.bf i _ _,hG.le.ins_le i,SRs.mono (hG.leB.ins i) (fun _ _ h=>h) _ _ hG.env,fun d=>?_,fun d j h1 h2=>?_,fun d d' j aC h1 h2 h3 h4=>hG.sep d d' j aC (lv d h1).2 (lv d' h2).2 h3 h4,hG.free⟩⟩
 ·have e:j≠i:=by rintro rfl;rw[mD] at h1;cases h1
  rw[Heap.ins_ne _ _ _ e];exact h2
 ·simp only[Q8];by_cases e:d=o
  ·rw[if_pos e];trivial
  ·rw[if_neg e];exact(hG.obj d).mono (hG.leB.ins i) (fun _ _ h=>h) fun _ _ _=>rfl
 ·obtain⟨aC,b_⟩:=lv d h1;have e:j≠i:=by rintro rfl;exact hG.sep d o j aC b_ hl h2 hi
  rw[Heap.ins_ne _ _ _ e];exact hG.fresh d j b_ h2
theorem Gam.own {s':St}(hG:Gam P B F pl tb s env σ) (h1:s'.env=s.env) (h2:∀ d,Q7 s'.own d=Q7 s.own d) (h3:s'.nx=s.nx):Gam P B F pl tb s' env σ :=
 ⟨hG.bf,hG.le,by rw[h1];exact hG.env,fun d=>by rw[h2];exact hG.obj d,fun d i=>by rw[h2];exact hG.fresh d i,fun d d' i aC=>by rw[h2,h2];exact hG.sep d d' i aC,fun n hn=>hG.free n (by rw[←h3];exact hn)⟩
theorem Gam.drop (hG:Gam P B F pl tb s env σ) (o:Nat):Gam P B F pl tb ⟨s.env,oset s.own o .dead,s.nx⟩ env σ:=by
 have lv:∀ d,(Q7 (oset s.own o .dead) d).live=true→d≠o∧(Q7 s.own d).live=true:=fun d h=>by
  rw[Q8] at h;by_cases e:d=o
  ·rw[if_pos e] at h;cases h
  ·rw[if_neg e] at h;exact⟨e,h⟩
 refine⟨hG.bf,hG.le,hG.env,fun d=>?_,fun d j h1 h2=>hG.fresh d j (lv d h1).2 h2,fun d d' j aC h1 h2 h3 h4=>hG.sep d d' j aC (lv d h1).2 (lv d' h2).2 h3 h4,hG.free⟩;simp only[Q8];by_cases e:d=o
 ·rw[if_pos e];trivial
 ·rw[if_neg e];exact hG.obj d
theorem E5 (s:St) (d:Nat) (b:OB) (q:Nat):Q7 (s.make d .dead).own q=Q7 (oset (s.make d b).own d .dead) q:=by
 simp only[St.make,Q8];by_cases e:q=d
 ·rw[if_pos e,if_pos e]
 ·rw[if_neg e,if_neg e,if_neg e]
theorem Q0e {C:Cx}(hG:Gam P B F pl tb s env σ) {d:Nat}{x:Operand}{K:SV→St→Prop}(h:gn C d (.ext (.rangeMap x)) (gev [] s.env) s K) {R:Value→Heap→Prop}
  (hK:∀ v s' B' F' pl' tb' u σ',K v s'→GBase B F σ B' F' σ'→Gam P B' F' pl' tb' s' env σ'→SR P B' pl' tb' v u→R u σ'):vop (Q2 P) (.ext (.rangeMap x)) env σ R:=by
 have ha:=hG.evs (Gds.nil (tb:=tb)) x;simp only[gn] at h;split at h
 ·rename_i o h1;rw[h1] at ha;simp only[SR] at ha;split at h
  ·rename_i kk vk m ho;split at h
   ·have aj:=hG.obj o;rw[ho] at aj;obtain⟨i,es,clock,h2,h3,h4⟩:=aj;obtain⟨g1,g2⟩:=hG.freeze (o:=o) (i:=i) (by rw[ho];rfl) (by rw[h2];rfl)
    have jb:=g2.push d (.iter kk vk m []) (.pointer (some ⟨σ.n,0,none⟩)) (.obj (.iter i clock [] clock) true) rfl
     ⟨σ.n,i,es,clock,true,[],rfl,Heap.get_push_self _ _,by rw[Heap.ins_self];exact h3,h4.mono g1.b,rfl,fun t r h=>by simp at h⟩
    show QJ (Q4 (.ext (.rangeMap x)) (Q3 env) σ) _;have hv:Q4 (.ext (.rangeMap x)) (Q3 env) σ=some (.pointer (some ⟨σ.n,0,none⟩),σ.push (.obj (.iter i clock [] clock) true)):=by simp only[Q4,Zl,ha.1,h2,Heap.mapAt,h3]
    rw[hv];exact hK _ _ _ _ _ _ _ _ h (g1.trans (.of g2.bf (Dead.push _ _))) jb (by simp only[SR,JX];exact⟨_,rfl,rfl⟩)
   ·exact h.elim
  ·exact h.elim
 ·exact h.elim
theorem Q2r {C:Cx}(hG:Gam P B F pl tb s env σ) {d:Nat}{x:Operand}{K:SV→St→Prop}(h:gn C d (.ext (.nextMap x)) (gev [] s.env) s K) {R:Value→Heap→Prop}
  (hK:∀ v s' B' F' pl' tb' u σ',K v s'→GBase B F σ B' F' σ'→Gam P B' F' pl' tb' s' env σ'→SR P B' pl' tb' v u→R u σ'):vop (Q2 P) (.ext (.nextMap x)) env σ R:=by
 have ha:=hG.evs (Gds.nil (tb:=tb)) x;simp only[gn] at h;split at h
 ·rename_i o f h1;rw[h1] at ha;simp only[SR] at ha;split at h
  ·rename_i kk vk m dn ho;split at h
   ·rename_i hf;obtain⟨rfl,n7⟩:=hf;have af:(Q7 s.own o).live=true:=by rw[ho];rfl
    have aj:=hG.obj o;rw[ho] at aj;obtain⟨j,i,es,clock,wr,seen,h2,h3,h4,h5,h6⟩:=aj;obtain⟨b,e2,e3⟩:=ha;rw[h2] at e2;obtain rfl:j=b:=by simpa using e2
    have aG:σ.mapAt i=some (es,clock,wr):=by simp[Heap.mapAt,hG.leB.2 _ _ h4]
    have hlen:=h5.1.length;obtain⟨hA,hB⟩:=h;have aS:F.get j=none:=hG.fresh o j af (by rw[h2];rfl);have bg:∀ q i',q≠o→(Q7 s.own q).live=true→Oid (pl q) i'→i'≠j:=fun q i' hq hl hi e=>by subst e;exact hG.sep q o i' hq hl af hi (by rw[h2];rfl)
    show I4 (Q3 env x) σ R;unfold I4;rw[e3];simp only[h3,aG];refine⟨?_,?_,fun hall=>?_,fun e he lJ=>?_⟩
    ·cases es with
     |nil=>simp
     |cons e es=>simp[h5.2.2 e (by simp)]
    ·rw[List.all_eq_true];intro e he;obtain⟨r,hr⟩:=List.mem_iff_getElem?.1 he;obtain⟨_,k1,_⟩:=MR.at h5.1 hr;exact Ar n7 k1
    ·refine hK _ _ _ _ _ _ _ _ (hA fun r hr=>?_) (.of hG.bf (Dead.refl σ)) hG (by simp only[SR,SRs];exact⟨[.bool false],rfl,_,[],rfl,rfl,rfl⟩);have cF:r<es.length:=by omega
     have he:=List.getElem?_eq_getElem cF;have:=List.all_eq_true.1 hall es[r] (List.getElem_mem cF);have ah:=h5.2.2 _ (List.getElem_mem cF);rw[Bool.or_eq_true,decide_eq_true_eq] at this;rcases this with this|this
     ·rw[List.contains_iff_mem] at this;obtain⟨t,ht⟩:=List.mem_iff_getElem?.1 this;have wO:t<seen.length:=(List.getElem?_eq_some_iff.1 ht).1;have sO:t<dn.length:=by have:=h6.1;omega
      obtain⟨e',k1,k2⟩:=h6.2 t dn[t] (List.getElem?_eq_getElem sO);rw[ht] at k2;have:=BR h5.2 he k1 (osj k2);rw[this];exact List.getElem_mem sO
     ·omega
    ·obtain⟨r,hr⟩:=List.mem_iff_getElem?.1 he;have cF:r<es.length:=(List.getElem?_eq_some_iff.1 hr).1;have sN:r∉dn:=fun hm=>by
      obtain⟨t,ht⟩:=List.mem_iff_getElem?.1 hm;obtain⟨e',k1,k2⟩:=h6.2 t r ht;rw[hr] at k1;obtain rfl:=osj k1;have:seen.contains e.2.2=true:=by rw[List.contains_iff_mem];exact List.mem_of_getElem? k2
      rw[this] at lJ;cases lJ
     refine hK _ _ _ _ _ _ _ _ (hB r (by omega) sN) (.of hG.bf (Dead.upd _ _ _ (by rw[h3];rfl))) (hG.write o _ (hG.le.upd aS _) af (fun q i' hq hl hi=>Heap.get_upd_ne _ _ (bg q i' hq hl hi)) ⟨j,i,es,clock,wr,seen++[e.2.2],h2,Heap.get_upd_self _ _ (σ.lt h3),h4,h5,?_,fun t r' ht=>?_⟩) (by simp only[SR,SRs];exact⟨[.bool true,e.1,e.2.1],rfl,_,_,rfl,rfl,_,_,rfl,trivial,_,_,rfl,trivial,rfl⟩)
     ·simp[h6.1]
     ·rw[List.getElem?_append] at ht;split at ht
      ·rename_i ah;obtain⟨e',k1,k2⟩:=h6.2 t r' ht;refine⟨e',k1,?_⟩;rw[List.getElem?_append_left (by have:=h6.1;omega)];exact k2
      ·rename_i bh;have h0:t-dn.length=0:=by
        cases hz:t-dn.length with
        |zero=>rfl
        |succ n=>rw[hz] at ht;simp at ht
       rw[h0] at ht;obtain rfl:r=r':=by simpa using ht
       refine⟨e,hr,?_⟩;rw[List.getElem?_append_right (by have:=h6.1;omega),show t-seen.length=0 by have:=h6.1;omega];rfl
   ·exact h.elim
  ·exact h.elim
 ·exact h.elim
theorem CY {d:Nat}(iB:B.Le F) {ty:Nat}{k:Kind}{xs:List k.T}{nl:Bool}(hk:k.flat=true) {pl':Nat→Value}{u:Value}{σ':Heap}(h1:Gam P B F pl' tb (s.make d (.lst ty k xs nl)) env σ') (h2:SR P B pl' tb (.lst d) u) (hd:Dead σ σ') :
  ∃ B' F',GBase B F σ B' F' σ'∧Gam P B' F' pl' tb (s.make d .dead) env σ'∧SR P B' pl' tb (.val (.list k) xs) u:=by
 have aj:=h1.obj d;have bN:Q7 (s.make d (.lst ty k xs nl)).own d=.lst ty k xs nl:=by simp only[St.make,Q8,if_true]
 rw[bN] at aj;simp only[SR] at h2;obtain⟨rfl,_⟩:=h2;rcases aj with⟨_,hx,hp⟩|⟨_,i,cap,c,t,hp,cg,hg,hlen,a7⟩
 ·refine⟨B,F,.of iB hd,(h1.drop d).own rfl (E5 s d _) rfl,?_⟩;simp only[SR];exact⟨_,rfl,.inl ⟨hx,hp⟩⟩
 ·obtain⟨g1,g2⟩:=h1.freeze (o:=d) (i:=i) (by rw[bN];rfl) (by rw[hp];rfl);refine⟨_,_,(GBase.of iB hd).trans g1,g2.own rfl (E5 s d _) rfl,?_⟩;simp only[SR];refine⟨_,rfl,.inr ⟨i,0,cap,c,⟨k.size,ty⟩,true,t,hp,cg,by rw[Heap.ins_self];exact hg,rfl,by have:=Nat.mul_le_mul_right k.size cg;omega,?_⟩⟩;rw[List.drop_zero];exact a7.mono fun _ _ e=>KC.flat hk e
theorem O8 {d nt:Nat}(cS:0<nt) (hG:Gam P B F pl tb s env σ) {ty:Nat}{k:Kind}{xs:List k.T}{nl:Bool}(hk:k.flat=true) {u:Value}{σ':Heap}(h:Ret P σ (.lst 0) [.lst ty k xs nl] u σ') :
  ∃ B' F' pl',GBase B F σ B' F' σ'∧Gam P B' F' pl' tb (s.make d .dead) env σ'∧SR P B' pl' tb (.val (.list k) xs) u:=by
 obtain⟨pl',h1,h2⟩:=h.gam (d:=d) cS hG (by rfl) (by simp only[List.all_cons,List.all_nil,Bool.and_true,OB.ret];exact hk);simp only[St.makes,Nat.zero_mul,Nat.add_zero,SV.ren] at h1 h2;obtain⟨B',F',k⟩:=CY hG.bf hk h1 h2 h.1.2;exact⟨B',F',pl',k⟩
theorem Gg {nt:Nat}{r:Option (Prop×SV×List OB)}{c:Prop}{v:SV}(h:Oe nt r=some (c,v)):∃ ty k xs nl,r=some (c,.lst 0,[.lst ty k xs nl])∧v=.val (.list k) xs∧k.flat=true∧0<nt:=by
 unfold Oe at h;split at h
 ·split at h
  ·rename_i k xs _;cases hc:(k.flat&&Nat.blt 0 nt) with
   |false=>rw[hc] at h;cases h
   |true =>rw[hc] at h;obtain⟨rfl,rfl⟩:=QR h;simp only[Bool.and_eq_true,Nat.blt_eq] at hc;exact⟨_,_,_,_,rfl,rfl,hc.1,hc.2⟩
  ·cases h
 ·cases h
theorem FC {C:Cx}(aA:CsOk P C.cs) (hG:Gam P B F pl tb s env σ) {gs:List Gd}(hg:Gds tb gs) {o:VOp}{c:Prop}{v:SV}{d:Nat}(h:CL C o (gev gs s.env) s.own=some (c,v)) (hc:c) {K:Value→Heap→Prop}
  (hK:∀ u σ' B' F' pl',GBase B F σ B' F' σ'→Gam P B' F' pl' tb (s.make d .dead) env σ'→SR P B' pl' tb v u→K u σ'):vop (Q2 P) o env σ K:=by
 cases o<;>first|(cases h;done)|skip
 case callF f args =>
  simp only[CL] at h;obtain⟨ty,k,xs,nl,heq,rfl,hk,cS⟩:=Gg h;obtain⟨g,a,b,h3,h4,_⟩:=J3 aA (show SR P σ Xu Jc (.fn f [] []) (.func (.func f) #[] #[]) by simp only[SR,SRs];exact⟨[],[],rfl,rfl,rfl⟩) (hG.gcall hg args) heq (by rfl) (by simp only[List.all_cons,List.all_nil,Bool.and_true,OB.ret];exact hk) hc;obtain⟨rfl,rfl,rfl⟩:=(by simpa using h3:f=g∧#[]=a∧#[]=b);have:=h4.mono (R':=K) fun u σ' hr=>by obtain⟨B',F',pl',k1,k2,k3⟩:=O8 (d:=d) cS hG hk hr;exact hK u σ' B' F' pl' k1 k2 k3
  show VCalled P f (args.map (Q3 env)) σ K;simpa using this
 case callV f args =>
  simp only[CL] at h;obtain⟨ty,k,xs,nl,heq,rfl,hk,cS⟩:=Gg h;obtain⟨g,a,b,h3,h4,_⟩:=J3 aA (hG.gfun hg f) (hG.gcall hg args) heq (by rfl) (by simp only[List.all_cons,List.all_nil,Bool.and_true,OB.ret];exact hk) hc;exact G2 h3 (h4.mono fun u σ' hr=>by
   obtain⟨B',F',pl',k1,k2,k3⟩:=O8 (d:=d) cS hG hk hr;exact hK u σ' B' F' pl' k1 k2 k3)
 case buildSlice e z n ps =>
  simp only[CL] at h;split at h
  ·rename_i k uV;split at h
   ·rename_i dk;split at h
    ·rename_i xs hx;obtain⟨rfl,rfl⟩:=QR h;have uW:gn C d (.buildSlice e z n ps) (gev gs s.env) s (fun v s'=>v=.lst d∧s'=s.make d (.lst e.ty k xs false)):=by
      simp only[gn,uV,hx];rw[if_pos ⟨dk.1,dk.2.1⟩];simp
     obtain⟨u,σ',pl',v,s',h1,⟨rfl,rfl⟩,⟨h3,_⟩,h4⟩:=MQ (fun x=>hG.evs hg x) hG uW;obtain⟨B',F',k1,k2,k3⟩:=CY hG.bf dk.2.2 h3 h4 (KY h1);show QJ (Q4 (.buildSlice e z n ps) (Q3 env) σ) _;rw[h1];exact hK u σ' B' F' pl' k1 k2 k3
    ·cases h
   ·cases h
  ·cases h
theorem E0 {C:Cx}{o:VOp}{ev:Operand→SV}{own:Own}{c:Prop}{v:SV}(h:CL C o ev own=some (c,v)):∃ (k:Kind) (xs:List k.T),v=.val (.list k) xs:=by
 cases o<;>first|(cases h;done)|skip
 case callF=>simp only[CL] at h;obtain⟨ty,k,xs,nl,_,hv,_⟩:=Gg h;exact⟨k,xs,hv⟩
 case callV=>simp only[CL] at h;obtain⟨ty,k,xs,nl,_,hv,_⟩:=Gg h;exact⟨k,xs,hv⟩
 case buildSlice e z n ps =>
  simp only[CL] at h;split at h
  ·split at h
   ·split at h
    ·obtain⟨_,rfl⟩:=QR h;exact⟨_,_,rfl⟩
    ·cases h
   ·cases h
  ·cases h
theorem Q4l {C:Cx}(aA:COk P C) {B F:Heap}{pl:Nat→Value}{tb:Nat→Option Bool}{s:St}{env:Env}{σ:Heap}(hG:Gam P B F pl tb s env σ) {d:Nat}{o:VOp}{K:SV→St→Prop}(h:gn C d o (gev [] s.env) s K) {R:Value→Heap→Prop}
  (hK:∀ v s' B' F' pl' tb' u σ',K v s'→GBase B F σ B' F' σ'→Gam P B' F' pl' tb' s' env σ'→SR P B' pl' tb' v u→R u σ'):vop (Q2 P) o env σ R:=by
 have ai:=hG.evs (Gds.nil (tb:=tb));have act:∀ o {T:Nat},NOk P B F tb o (Q3 env) env σ K T s pl→(∀ R',QJ (Q4 o (Q3 env) σ) (fun p=>R' p.1 p.2)→vop (Q2 P) o env σ R')→vop (Q2 P) o env σ R:=fun o _ ⟨u,σ',pl',v,s',h1,h2,h3,h4⟩ hv=>hv R (by rw[h1];exact hK v s' B F pl' tb u σ' h2 (.of hG.bf (KY h1)) h3.1 h4);have av:∀ args:List Operand,SRs P B pl tb (args.map (gev [] s.env)) (args.map (Q3 env)):=fun args=>SRs.map fun x _=>hG.evs Gds.nil x;cases o
 case alloc t z=>exact act _ (Q3c ai hG h) fun _ h=>h
 case box t x=>exact act _ (Z13 ai hG h) fun _ h=>h
 case buildSlice e z n ps=>exact act _ (MQ ai hG h) fun _ h=>h
 case makeSlice e b z l c=>exact act _ (RW ai hG h) fun _ h=>h
 case append e b x y=>exact act _ (Ib ai hG h) fun _ h=>h
 case store size a x=>exact act _ (Q3p ai hG h) fun _ h=>h
 case callF f args =>
  simp only[gn] at h;obtain⟨g,a,b,h3,h4⟩:=HR aA hG (show SR P B pl tb (.fn f [] []) (.func (.func f) #[] #[]) by simp only[SR,SRs];exact⟨[],[],rfl,rfl,rfl⟩) (av args) h (fun _ e=>by cases e) hK;obtain⟨rfl,rfl,rfl⟩:=(by simpa using h3:f=g∧#[]=a∧#[]=b);show VCalled P f (args.map (Q3 env)) σ R;simpa using h4
 case callV f args =>
  simp only[gn] at h;by_cases hy:∃ o,gev [] s.env f=.dd o .yv
  ·obtain⟨o,hy⟩:=hy;have hf:=hG.evs (Gds.nil (tb:=tb)) f;have h':LO C d (gev [] s.env f) (args.map (gev [] s.env)) s K:=h;rw[hy] at hf h';simp only[SR,DR] at hf;obtain⟨i,hp,hv⟩:=hf;simp only[LO] at h';split at h'
   ·rename_i y uX;have:=aA.yl o y uX B F pl tb s env σ _ _ K R i hG (av args) h' hp hK;simp only[vop,hv];exact this
   ·exact h'.elim
  obtain⟨g,a,b,h3,h4⟩:=HR aA hG (hG.evs Gds.nil f) (av args) h (fun o e=>hy ⟨o,e⟩) hK;exact G2 h3 h4
 case ext x =>
  cases x
  case mapUpdate mk m k v=>exact act _ (TU ai hG h) fun _ h=>h
  case mapEntry mk z m k=>exact act _ (Lt ai hG h) fun _ h=>h
  case entryStore m s v=>exact act _ (P2 ai hG h) fun _ h=>h
  case copy size a b=>exact act _ (Q7h ai hG h) fun _ h=>h
  case unsafeStr e a n=>exact act _ (RD ai hG h) fun _ h=>h
  case strBytes e a=>exact act _ (Lr ai hG h) fun _ h=>h
  case rangeMap a=>exact Q0e hG h hK
  case nextMap a=>exact Q2r hG h hK
  all_goals exact h.elim
 all_goals exact h.elim
theorem Gam.frz (hG:Gam P B F pl tb s env σ) (o:Nat):∃ B' F',GBase B F σ B' F' σ∧Gam P B' F' pl tb (s.frz o) env σ:=by
 unfold St.frz;split
 ·rename_i ty k xs nl ho;have fin:∀ {B' F':Heap},Gam P B' F' pl tb ⟨s.env,oset s.own o .dead,s.nx⟩ env σ→KC B' (.list k) xs [pl o]→Gam P B' F' pl tb ⟨SVs.frz o k xs s.env,Q4a o k xs s.own,s.nx⟩ env σ:=fun {B' F'} h hk=>by
   have e1:∀ d,Q7 (Q4a o k xs s.own) d=(Q7 (oset s.own o .dead) d).frz o k xs:=fun d=>by
    rw[Q2q,Q8];by_cases e:d=o
    ·rw[if_pos e,if_pos e];rfl
    ·rw[if_neg e,if_neg e]
   have lv:∀ d,(Q7 (Q4a o k xs s.own) d).live=(Q7 (oset s.own o .dead) d).live:=fun d=>by rw[e1,OB.live_frz]
   refine⟨h.bf,h.le,SRs.frz hk _ _ h.env,fun d=>?_,fun d i h1 h2=>?_,fun d d' i aC h1 h2=>?_,h.free⟩
   ·simp only[e1];exact(h.obj d).frz hk
   ·simp only[lv] at h1;exact h.fresh d i h1 h2
   ·simp only[lv] at h1 h2;exact h.sep d d' i aC h1 h2
  have aj:=hG.obj o;rw[ho] at aj;rcases aj with⟨_,hx,hp⟩|⟨_,i,cap,c,t,hp,cg,hg,hlen,a7⟩
  ·exact⟨B,F,.of hG.bf (.refl _),fin (hG.drop o) ⟨_,rfl,.inl ⟨hx,hp⟩⟩⟩
  ·obtain⟨g1,g2⟩:=hG.freeze (o:=o) (i:=i) (by rw[ho];rfl) (by rw[hp];rfl);refine⟨_,_,g1,fin g2 ⟨_,rfl,.inr ⟨i,0,cap,c,⟨k.size,ty⟩,true,t,hp,cg,by rw[Heap.ins_self];exact hg,rfl,by have:=Nat.mul_le_mul_right k.size cg;omega,?_⟩⟩⟩;rw[List.drop_zero];exact a7.mono fun _ _ e=>KC.mono g1.b e
 ·exact⟨B,F,.of hG.bf (.refl _),hG⟩
theorem GRel.frzs {B0 F0 D0:Heap}:∀ (l:List Nat) {s:St},GRel P B0 F0 D0 s env σ→GRel P B0 F0 D0 (s.frzs l) env σ
 |[],_,h=>h
 |o::r,s,⟨B,F,pl,tb,hB,hG⟩=>by obtain⟨B',F',g1,g2⟩:=hG.frz o;exact GRel.frzs r ⟨B',F',pl,tb,hB.trans g1,g2⟩
end
theorem AK {j:Nat}{f:Nat→Prop}:∀ {n i:Nat},Q1b (j:Int) f n i→i≤j→j<i+n→f j
 |0,i,_,h1,h2=>by omega
 |n+1,i,h,h1,h2=>by
  rcases Nat.lt_or_ge i j with h3|h3
  ·exact AK h.2 h3 (by omega)
  ·have:j=i:=by omega
   subst this;exact h.1 rfl
theorem Q1h {o:VOp}{len i:Nat}{f:Nat→VOp}(h:Z2l o=some (len,i,f)) {n:Nat}:(∃ size x,f n=.indexAddrArr len size x (.const (.int .i64 (Int.ofNat n))))∨∃ agg size x,f n=.indexArr len agg size x (.const (.int .i64 (Int.ofNat n))):=by
 unfold Z2l at h;split at h
 ·cases h;exact .inl ⟨_,_,rfl⟩
 ·cases h;exact .inr ⟨_,_,_,rfl⟩
 ·cases h
theorem Q5m {o:VOp}{len i:Nat}{f:Nat→VOp}(h:Z2l o=some (len,i,f)) {S:VSpecs}{env:Env}{σ:Heap}{k:IntKind}{n:Nat}(he:Q3 env (.tmp i)=.int k (n:Int)) {R:Value→Heap→Prop}(hv:vop S (f n) env σ R):vop S o env σ R:=by
 have hc:Q3 env (.const (.int .i64 (Int.ofNat n)))=.int .i64 (n:Int):=rfl;unfold Z2l at h;split at h
 ·rename_i len size x t;cases h;change QJ (Q4 _ (Q3 env) σ) _ at hv;change QJ (Q4 _ (Q3 env) σ) _;simp only[Q4,he,hc] at hv ⊢;generalize Q3 env x=u at hv ⊢;cases u<;>first|exact hv|skip
  rename_i p;cases p<;>first|exact hv|skip
  rename_i a;obtain⟨b,o,sp⟩:=a;cases sp<;>exact hv
 ·rename_i len agg size x t;cases h;change QJ (Q4 _ (Q3 env) σ) _ at hv;change QJ (Q4 _ (Q3 env) σ) _;simp only[Q4,he,hc] at hv ⊢;generalize Q3 env x=u at hv ⊢;cases u<;>exact hv
 ·cases h
theorem Lu {C:Cx}(aA:COk P C) {B0 F0 D0:Heap}{s:St}{env:Env}{σ:Heap}(hR:GRel P B0 F0 D0 s env σ) {o:VOper}{K:St→Prop}(h:Z33 C o s K) {R:Env→Heap→Prop}(hK:∀ s' ae σ',K s'→GRel P B0 F0 D0 s' ae σ'→R ae σ') :
  QJ (Je env o.guard) fun b=>vif b (vop (Q2 P) o.op env σ fun v σ'=>R (Xv env o.dst v) σ') (R (Xv env o.dst undef) σ):=by
 unfold Z33 at h;split at h
 ·rename_i hg;rw[hg];refine⟨fun _=>?_,fun e=>by cases e⟩
  replace hR:=hR.frzs (Q7m C (o.dst.getD 0) o.op (gev [] s.env) s.own)
  generalize s.frzs (Q7m C (o.dst.getD 0) o.op (gev [] s.env) s.own)=s at h hR;obtain⟨B,F,pl,tb,hB,hG⟩:=hR;unfold Z84 at h;split at h
  ·rename_i len i f sP;split at h
   ·rename_i k j hj;obtain⟨h1,h2,h3⟩:=h;obtain⟨n,rfl⟩:=Int.eq_ofNat_of_zero_le h1;have hn:n<len:=by omega
    have h4:=AK h3 (Nat.zero_le n) (by omega);have he:=Zo hj (hG.evs (Gds.nil (tb:=tb)) (.tmp i));split at h4
    ·rename_i cs v dE;obtain⟨k1,k2⟩:=Zx h4
     replace k1:=Zp k1
     have hv:=RN (C:=C) aA.cs hG Gds.nil (o:=f n) (raw:=C.raw.contains (o.dst.getD 0)) (cs:=cs) (v:=v) (by
      rw[←dE];obtain⟨size,x,hf⟩|⟨agg,size,x,hf⟩:=Q1h sP<;>rw[hf];rfl;rfl) (k2 fun g hg=>by cases hg) fun u hu=>hK _ _ _ k1 ⟨B,F,pl,tb,hB,hG.put o.dst hu⟩
     exact Q5m sP he hv
    ·exact h4.elim
   ·exact h.elim
  unfold Z6x at h;split at h
  ·rename_i c a b bK;split at h
   ·rename_i v hv;obtain⟨u,h1,h2⟩:=US hG Gds.nil hv;rw[bK];show QJ (Q4 (.pick c a b) (Q3 env) σ) _;rw[h1];exact hK _ _ _ (Zp h) ⟨B,F,pl,tb,hB,hG.put o.dst h2⟩
   ·exact h.elim
  ·rename_i wP;cases hq:Q3b o.op with
   |true =>
    rw[hq] at h;simp only[_root_.cond_true] at h;split at h
    ·rename_i cs v dE;obtain⟨h1,h2⟩:=Zx h
     replace h1:=Zp h1
     refine RN (C:=C) aA.cs hG Gds.nil (raw:=C.raw.contains (o.dst.getD 0)) (cs:=cs) (v:=v) ?_ (h2 fun g hg=>by cases hg) fun u hu=>hK _ _ _ h1 ⟨B,F,pl,tb,hB,hG.put o.dst hu⟩;rw[←dE];cases ho:o.op<;>first|rfl|(rw[ho] at hq;cases hq)
    ·exact h.elim
   |false =>
    rw[hq] at h;simp only[_root_.cond_false] at h;split at h
    ·rename_i bK;split at h
     ·rename_i kk vk _;obtain⟨h1,h2⟩:=Q16 hG (C.off+o.dst.getD 0) kk vk;rw[bK];change R (Xv env o.dst (.map (some σ.n))) (σ.push (.obj (.map [] 0) true));exact hK _ _ _ h ⟨B,F,_,tb,GJ hB (Dead.push _ _),h1.put o.dst h2⟩
     ·exact h.elim
    ·rename_i bK;cases kN:F3 C (o.dst.getD 0) o.op (gev [] s.env) with
     |true =>rw[kN] at h;simp only[_root_.cond_true] at h;exact Q0x hG h fun v s' B' F' pl' tb' u σ' h1 hd h2 h3=>hK _ _ _ h1 ⟨B',F',pl',tb',hB.trans hd,h2.put o.dst h3⟩
     |false =>rw[kN] at h;simp only[_root_.cond_false] at h;exact Q4l aA hG h fun v s' B' F' pl' tb' u σ' h1 hd h2 h3=>hK _ _ _ h1 ⟨B',F',pl',tb',hB.trans hd,h2.put o.dst h3⟩
 ·rename_i j want hg;obtain⟨B,F,pl,tb,hB,hG⟩:=hR;rw[hg];split at h
  ·exact h.elim
  ·rename_i gs s' dC;obtain⟨tb',br,cP,b,hw,bp,bW⟩:=Wg hG dC;rw[hw];refine⟨fun e=>?_,fun e=>?_⟩
   ·have gN:Gds tb' gs:=fun g hg=>⟨bp e g hg,cP g hg⟩;have fin:∀ {v u},SR P B pl tb' v u→SR P B pl tb' (.grd gs (Bb v)) u:=fun {v u} hs=>by
     simp only[SR];obtain⟨h1,h2⟩:=PN hs;exact⟨⟨cP,h2⟩,fun _=>h1,fun ⟨g,hg,aC⟩=>absurd (bp e g hg) aC⟩
    split at h
    ·rename_i c a b' bK;split at h
     ·rename_i v hv;obtain⟨u,h1,h2⟩:=US br gN hv;rw[bK];show QJ (Q4 (.pick c a b') (Q3 env) σ) _;rw[h1];exact hK _ _ _ (Zp h) ⟨B,F,pl,tb',hB,br.put o.dst (fin h2)⟩
     ·exact h.elim
    ·split at h
     ·rename_i cs v dE;obtain⟨h1,h2⟩:=Zx h
      replace h1:=Zp h1
      exact RN aA.cs br gN dE (h2 (bp e)) fun u hu=>hK _ _ _ h1 ⟨B,F,pl,tb',hB,br.put o.dst (fin hu)⟩
     ·split at h
      ·rename_i c v kO;obtain⟨h1,h2⟩:=Zx h
       replace h1:=Zp h1
       refine FC aA.cs br gN (d:=C.off+o.dst.getD 0) kO (h2 (bp e) c (by simp)) fun u σ' B' F' pl' k1 k2 k3=>hK _ _ _ h1 ⟨B',F',pl',tb',hB.trans k1,k2.put o.dst ?_⟩;simp only[SR];refine⟨⟨cP,?_⟩,fun _=>k3,fun ⟨g,hg,aC⟩=>absurd (bp e g hg) aC⟩;obtain⟨k,xs,rfl⟩:=E0 kO;trivial
      ·exact h.elim
   ·have fin:∀ v,SR P B pl tb' (.grd gs (Bb v)) undef:=fun v=>by
     simp only[SR];obtain⟨g,hg,aC⟩:=bW e;exact⟨⟨cP,PU v⟩,fun hall=>absurd (hall g hg) aC,fun _=>trivial⟩
    split at h
    ·split at h
     ·exact hK _ _ _ (Zp h) ⟨B,F,pl,tb',hB,br.put o.dst (fin _)⟩
     ·exact h.elim
    ·split at h
     ·exact hK _ _ _ (Zp (Zx h).1) ⟨B,F,pl,tb',hB,br.put o.dst (fin _)⟩
     ·split at h
      ·rename_i c v kO;refine hK _ _ _ (Zp (Zx h).1) ⟨B,F,_,tb',hB,(br.make (C.off+o.dst.getD 0) .dead undef br.le (fun _ _ _ _ _=>rfl) trivial (fun i hl _=>by cases hl)).put o.dst ?_⟩;simp only[SR];obtain⟨g,hg,aC⟩:=bW e;refine⟨⟨cP,?_⟩,fun hall=>absurd (hall g hg) aC,fun _=>trivial⟩;obtain⟨k,xs,rfl⟩:=E0 kO;trivial
      ·exact h.elim
theorem Q2p {C:Cx}(aA:COk P C) {B0 F0 D0:Heap}{s:St}{env:Env}{σ:Heap}(hR:GRel P B0 F0 D0 s env σ) {o:VOper}{K:St→Prop}(h:gop C o s K) {R:Env→Heap→Prop}(hK:∀ s' ae σ',K s'→GRel P B0 F0 D0 s' ae σ'→R ae σ') :
  QJ (Je env o.guard) fun b=>vif b (vop (Q2 P) o.op env σ fun v σ'=>R (Xv env o.dst v) σ') (R (Xv env o.dst undef) σ):=by
 unfold gop at h;split at h
 ·rename_i t ht;have n8:=hR;obtain⟨B,F,pl,tb,hB,hG⟩:=hR;rw[Vp hG ht];cases t with
  |true =>simp only[_root_.cond_true] at h;exact Lu aA n8 (o:=⟨o.dst,o.op,none⟩) h hK
  |false =>simp only[_root_.cond_false] at h;exact⟨(fun e=>by cases e),fun _=>hK _ _ _ h ⟨B,F,pl,tb,hB,hG.put o.dst (by simp[SR])⟩⟩
 ·exact Lu aA hR h hK
theorem Q01 {C:Cx}{B0 F0 D0:Heap}{s:St}{env:Env}{σ:Heap}(hR:GRel P B0 F0 D0 s env σ) {d:Option Nat}{K:St→Prop}(h:Z2y C d K s):∃ s2,K s2∧GRel P B0 F0 D0 s2 env σ:=by
 unfold Z2y at h;split at h
 ·exact⟨s,h,hR⟩
 ·rename_i d;cases hb:C.spl.contains d with
  |false=>rw[hb] at h;exact⟨s,h,hR⟩
  |true =>
   rw[hb] at h;simp only[_root_.cond_true] at h;split at h
   ·rename_i t ht;obtain⟨B,F,pl,tb,hB,hG⟩:=hR;have he:=We ht (hG.env.getD d undef);have cf:∀ v,SR P B pl tb v (env.getD d undef)→GRel P B0 F0 D0 (s.put (some d) v) env σ:=fun v hv=>by
     have:=hG.put (some d) hv;refine⟨B,F,pl,tb,hB,?_⟩;have e2:Xv env (some d) (env.getD d undef)=env:=by
      show env.set d _=env;rcases Nat.lt_or_ge d env.length with h|h
      ·rw[List.getD_eq_getElem?_getD,List.getElem?_eq_getElem h];simp
      ·rw[List.set_eq_of_length_le h]
     rw[e2] at this;exact this
    have sr:SR P B pl tb (.grd [] (.val .bo t)) (env.getD d undef):=by simp only[SR];exact⟨⟨(fun g hg=>by cases hg),trivial⟩,(fun _=>by rw[he];simp[KC]),fun ⟨g,hg,_⟩=>by cases hg⟩
    cases t with
    |true=>exact⟨_,h.1 rfl,cf _ sr⟩
    |false=>exact⟨_,h.2 rfl,cf _ sr⟩
   ·exact h.elim
theorem Gt {C:Cx}(aA:COk P C) {B0 F0 D0:Heap}:∀ (ops:List VOper) {s:St}{env:Env}{σ:Heap},GRel P B0 F0 D0 s env σ→∀ {K:St→Prop},Z32 C ops s K→∀ {R:Env→Heap→Prop},(∀ s' ae σ',K s'→GRel P B0 F0 D0 s' ae σ'→R ae σ')→Bw (Q2 P) ops env σ R
 |[],s,env,σ,hR,_K,h,_R,hK=>hK s env σ h hR
 |_o::r,_s,_env,_σ,hR,_K,h,_R,hK=>Q2p (R:=fun env σ=>Bw (Q2 P) r env σ _R) aA hR h fun _ _ _ h1 h2=>by obtain⟨s2,k1,k2⟩:=Q01 h2 h1;exact Gt aA r k2 k1 hK
theorem Q1u {S:VSpecs}{l:List DOper}{rest:List DSeg}{env:Env}{σ:Heap}{K:Env→Heap→Prop}(h:l.all (fun o=>!(o.kind==2)&&!(o.op.kind==2))=true) (hv:Bw S (l.map dv) env σ fun env σ=>GD S rest env σ K):GD S (.alts [l]::rest) env σ K:=by
 intro ops ho;obtain rfl:=List.mem_singleton.1 ho;have key:∀ (l:List DOper) (env:Env) (pend:List (Nat×(Heap→Prop))) (K':Env→Heap→Prop),l.all (fun o=>!(o.kind==2)&&!(o.op.kind==2))=true→Bw S (l.map dv) env σ K'→ZA S l env [σ] σ pend K':=by
  intro l;induction l with
  |nil=>intro env pend K' _ h;exact h
  |cons o rest ih =>
   intro env pend K' hk h;simp only[List.all_cons,Bool.and_eq_true,Bool.not_eq_true',beq_eq_false_iff_ne] at hk;obtain⟨⟨a9,au⟩,hr⟩:=hk;have hr:rest.all (fun o=>!(o.kind==2)&&!(o.op.kind==2))=true:=by simpa using hr
   simp only[List.map_cons,Bw,dv] at h;simp only[ZA];cases hw:Je env o.guard with
   |none=>rw[hw] at h;exact h.elim
   |some b =>
    rw[hw] at h;obtain⟨ht,hf⟩:=h;refine⟨fun e=>?_,fun e=>?_⟩
    ·have ht:=ht e;obtain⟨p,hp,fT⟩:∃ p,Q4 o.op (Q3 env) σ=some p∧Bw S (rest.map dv) (Xv env o.dst p.1) p.2 K':=by
      have:=ht;unfold vop at this;split at this
      ·rename_i f bP heq;rw[heq] at au;exact absurd rfl au
      ·rename_i f bP heq;rw[heq] at au;exact absurd rfl au
      ·rename_i x heq;rw[heq] at au;exact absurd rfl au
      ·cases dP:Q4 o.op (Q3 env) σ with
       |none=>rw[dP] at this;exact this.elim
       |some p=>rw[dP] at this;exact⟨p,rfl,this⟩
     have hq:p.2=σ:=BM au (v:=p.1) (σ':=p.2) hp;rw[hq] at fT;rw[if_neg a9];split
     ·rw[hp];refine⟨fun τ hτ=>?_,ih _ _ _ hr fT⟩;have:τ=σ:=by
       have:=List.mem_of_mem_drop hτ;simpa using this
      subst this;show QJ (Q4 o.op (Q3 env) τ) _;rw[hp];rfl
     ·rw[hp];exact ih _ _ _ hr fT
    ·rw[if_neg a9];exact ih _ _ _ hr (hf e)
 have:=key ops env [] _ h hv;have mono:∀ (l:List DOper) (env:Env) (hs:List Heap) (τ:Heap) (pend:List (Nat×(Heap→Prop))) (A B:Env→Heap→Prop),l.all (fun o=>!(o.kind==2)&&!(o.op.kind==2))=true→(∀ e s,A e s→B e s)→ZA S l env hs τ pend A→ZA S l env hs τ pend B:=by
  intro l;induction l with
  |nil=>intro env hs τ pend A B _ lz h;exact lz _ _ h
  |cons o rest ih =>
   intro env hs τ pend A B hk lz h;simp only[List.all_cons,Bool.and_eq_true,Bool.not_eq_true',beq_eq_false_iff_ne] at hk;obtain⟨⟨a9,au⟩,hr⟩:=hk;have hr:rest.all (fun o=>!(o.kind==2)&&!(o.op.kind==2))=true:=by simpa using hr
   simp only[ZA] at h ⊢;cases hw:Je env o.guard with
   |none=>rw[hw] at h;exact h.elim
   |some b =>
    rw[hw] at h;obtain⟨ht,hf⟩:=h;refine⟨fun e=>?_,fun e=>?_⟩
    ·have ht:=ht e;rw[if_neg a9] at ht ⊢;by_cases o5:o.kind=1
     ·rw[if_pos o5] at ht ⊢;cases dP:Q4 o.op (Q3 env) τ with
      |none=>rw[dP] at ht;exact ht.elim
      |some p=>rw[dP] at ht;exact⟨ht.1,ih _ _ _ _ _ _ hr lz ht.2⟩
     ·rw[if_neg o5] at ht ⊢;cases dP:Q4 o.op (Q3 env) τ with
      |none=>rw[dP] at ht;exact ht.elim
      |some p=>rw[dP] at ht;exact ih _ _ _ _ _ _ hr lz ht
    ·have hf:=hf e;rw[if_neg a9] at hf ⊢;exact ih _ _ _ _ _ _ hr lz hf
 exact mono ops env _ _ _ _ _ h (fun e s hs=>⟨e,s,.refl _ _ _,hs⟩) this
theorem ZW {op:VOp}{ev:Operand→Value}{u:Value}{τ τ':Heap}(h:Q4 op ev τ=some (u,τ')):Xq op ev u τ:=by unfold Xq;rw[h];rfl
theorem Zg (s:St) (d:Option Nat) (v:SV):(s.put d v).own=s.own:=by cases d<;>rfl
theorem KN {s s':St}{j:Nat}{want:Bool}{gs:List Gd}(h:HP s j want=some (gs,s')):s'.own=s.own:=by unfold HP at h;split at h<;>first|(cases h;done)|(obtain⟨_,rfl⟩:=QR h;rfl)
theorem Uq {C:Cx}{B F:Heap}{pl:Nat→Value}{tb:Nat→Option Bool}{s:St}{env:Env}{σ:Heap}(hG:Gam P B F pl tb s env σ) {o:DOper}{K:St→Prop}(h:gd1 C o s K) :
  ∃ b,Je env o.guard=some b∧(b=true→∃ u s' tb',Q4 o.op (Q3 env) σ=some (u,σ)∧K s'∧s'.own=s.own∧Gam P B F pl tb' s' (Xv env o.dst u) σ)∧(b=false→∃ s' tb',K s'∧s'.own=s.own∧Gam P B F pl tb' s' (Xv env o.dst undef) σ):=by
 unfold gd1 at h;split at h
 ·rename_i hg;rw[hg];refine⟨true,rfl,fun _=>?_,fun e=>by cases e⟩;split at h
  ·rename_i c a b bK;split at h
   ·rename_i v hv;obtain⟨u,h1,h2⟩:=US hG Gds.nil hv;exact⟨u,_,tb,by rw[bK];exact h1,Zp h,Zg _ _ _,hG.put o.dst h2⟩
   ·exact h.elim
  ·split at h
   ·rename_i cs v dE;obtain⟨h1,h2⟩:=Zx h;obtain⟨u,h3,h4⟩:=Ak (hG.evs (Gds.nil (tb:=tb))) (fun _=>rfl) hG.leB hG.obj dE (h2 fun g hg=>by cases hg);exact⟨u,_,tb,h3,Zp h1,Zg _ _ _,hG.put o.dst h4⟩
   ·exact h.elim
 ·rename_i j want hg;rw[hg];split at h
  ·exact h.elim
  ·rename_i gs s' dC;obtain⟨tb',br,cP,b,hw,bp,bW⟩:=Wg hG dC;refine⟨b,hw,fun e=>?_,fun e=>?_⟩
   ·have gN:Gds tb' gs:=fun g hg=>⟨bp e g hg,cP g hg⟩;have fin:∀ {v u},SR P B pl tb' v u→SR P B pl tb' (.grd gs (Bb v)) u:=fun {v u} hs=>by
     simp only[SR];obtain⟨h1,h2⟩:=PN hs;exact⟨⟨cP,h2⟩,fun _=>h1,fun ⟨g,hg,aC⟩=>absurd (bp e g hg) aC⟩
    split at h
    ·rename_i c a b' bK;split at h
     ·rename_i v hv;obtain⟨u,h1,h2⟩:=US br gN hv;exact⟨u,_,tb',by rw[bK];exact h1,Zp h,(Zg _ _ _).trans (KN dC),br.put o.dst (fin h2)⟩
     ·exact h.elim
    ·split at h
     ·rename_i cs v dE;obtain⟨h1,h2⟩:=Zx h;obtain⟨u,h3,h4⟩:=Ak (br.evs gN) (fun _=>rfl) br.leB br.obj dE (h2 (bp e));exact⟨u,_,tb',h3,Zp h1,(Zg _ _ _).trans (KN dC),br.put o.dst (fin h4)⟩
     ·exact h.elim
   ·have fin:∀ v,SR P B pl tb' (.grd gs (Bb v)) undef:=fun v=>by
     simp only[SR];obtain⟨g,hg,aC⟩:=bW e;exact⟨⟨cP,PU v⟩,fun hall=>absurd (hall g hg) aC,fun _=>trivial⟩
    split at h
    ·split at h
     ·exact⟨_,tb',Zp h,(Zg _ _ _).trans (KN dC),br.put o.dst (fin _)⟩
     ·exact h.elim
    ·split at h
     ·exact⟨_,tb',Zp (Zx h).1,(Zg _ _ _).trans (KN dC),br.put o.dst (fin _)⟩
     ·exact h.elim
theorem Fz {bs:List OB}{q:Prop}(h:Q3i bs q):(∀ b∈bs,b.wf)∧q:=by
 induction bs with
 |nil=>exact⟨(fun b hb=>by cases hb),h⟩
 |cons b r ih =>
  obtain⟨h1,h2⟩:=h;obtain⟨h3,h4⟩:=ih h2;exact⟨fun b' bJ=>by
   rcases List.mem_cons.1 bJ with rfl|bJ
   ·exact h1
   ·exact h3 b' bJ,h4⟩
mutual
theorem Oh {d nt:Nat}:∀ (v:SV),v.ret 0=true→(v.ren d nt).ret 0=true
 |.val k x,h=>h
 |.nilS,_|.nilP,_|.nilM,_|.nilF,_=>rfl
 |.lst j,h|.box j _,h|.map j,h=>by simp[SV.ret,Nat.blt] at h
 |.agg l,h=>by simp only[SV.ren,SV.ret] at h ⊢;exact T_ l h
 |.tup l,h=>by simp only[SV.ren,SV.ret] at h ⊢;exact T_ l h
 |.any,h|.bid _ _,h|.grd _ _,h|.sub _ _ _ _,h|.elp _ _ _ _,h|.rop _ _ _ _,h|.cp _ _,h|.fn _ _ _,h|.pf _ _ _ _,h=>by cases h
theorem T_ {d nt:Nat}:∀ (v:List SV),SVs.ret 0 v=true→SVs.ret 0 (SVs.ren d nt v)=true
 |[],_=>rfl
 |s::ss,h=>by simp only[SVs.ret,SVs.ren,Bool.and_eq_true] at h ⊢;exact⟨Oh s h.1,T_ ss h.2⟩
end
theorem Wm {C:Cx}(aA:COk P C) {B F:Heap}{pl:Nat→Value}{tb:Nat→Option Bool}{s:St}{env:Env}{σ:Heap}(hG:Gam P B F pl tb s env σ) {d:Nat}{f:SV}{args:List SV}{K:List Nat→SV→St→Prop}(h:D1 C d f args s K) {fV:Value}{vs:List Value}
  (hf:SR P σ Xu Jc f fV) (ha:SRs P σ Xu Jc args vs):∃ g a b u σ' ts v s' pl',fV=.func (.func g) a b∧(VCalled P g (a.toList++vs++b.toList) σ fun u' aD=>u'=u∧aD=σ')∧K ts v s'∧Gam P B F pl' tb s' env σ'∧SR P B pl' tb v u∧(ts=[]→σ'=σ∧pl'=pl∧s'=s)∧σ.Le σ'∧Dead σ σ'∧FrL ts s s' pl pl' σ σ':=by
 unfold D1 at h;split at h
 ·rename_i c v bs heq;cases hb:(v.ret bs.length&&(bs.all OB.ret&&(Nat.blt 0 C.nt&&(bs.all OB.isL&&Ui v)))) with
  |false=>rw[hb] at h;exact h.elim
  |true =>
   rw[hb] at h;obtain⟨h1,h2⟩:=h;obtain⟨h3,h4⟩:=Fz h2;simp only[Bool.and_eq_true] at hb;obtain⟨hv,kK,cS,hl,cD⟩:=hb;obtain⟨g,a,b,e,_,hx⟩:=J3 aA.cs hf ha heq hv kK h1;have dD:=Eg (P:=P) σ hv cD kK hl (fun b hb=>by have:=h3 b hb;cases b<;>exact this);by_cases b9:bs=[]
   ·subst b9;obtain⟨k1,k2⟩:=dD.flat hv;refine⟨g,a,b,_,_,_,_,_,pl,e,hx hl cD,h4,?_,?_,fun _=>⟨k1,rfl,rfl⟩,dD.1.1,dD.1.2,fun q _=>⟨rfl,rfl,fun _ _ _=>by rw[k1]⟩⟩
    ·rw[k1];exact hG
    ·exact SR.retd (B:=hNil) (pl:=pl) (tb:=Jc) (n:=0) (fun j hj=>by omega) _ _ (Oh v hv) (SR.ren (pl:=Xu) (tb:=Jc) (n:=0) (fun j hj=>by omega) v _ hv k2)
   ·obtain⟨pl',h5,h6,h7⟩:=dD.gamF (nt:=C.nt) (d:=d) (by simpa [Nat.blt_eq] using cS) hG hv kK;refine⟨g,a,b,_,_,_,_,_,pl',e,hx hl cD,h4,h5,h6,fun he=>absurd (by simpa using he) b9,dD.1.1,dD.1.2,fun q hq=>h7 q fun j hj e=>hq ?_⟩;exact List.mem_map.2 ⟨j,List.mem_range.2 hj,e.symm⟩
 ·exact h.elim
def Ik:VOp→Bool
 |.callF ..|.callV ..=>true
 |.ext (.rangeMap _)|.ext (.nextMap _)=>true
 |_=>false
theorem Z1f {C:Cx}{B F:Heap}{pl:Nat→Value}{tb:Nat→Option Bool}{s:St}{env:Env}{σ:Heap}(hG:Gam P B F pl tb s env σ) {d:Nat}{o:VOp}{K:SV→St→Prop}(h:gn C d o (gev [] s.env) s K) (hc:Ik o=false) :
  NOk P B F tb o (Q3 env) env σ K (Qr d o (gev [] s.env)) s pl:=by
 have ai:=hG.evs (Gds.nil (tb:=tb));cases o
 case alloc t z=>exact Q3c ai hG h
 case box t x=>exact Z13 ai hG h
 case buildSlice e z n ps=>exact MQ ai hG h
 case makeSlice e b z l c=>exact RW ai hG h
 case append e b x y=>exact Ib ai hG h
 case store size a x=>exact Q3p ai hG h
 case callF=>cases hc
 case callV=>cases hc
 case ext x =>
  cases x
  case mapUpdate mk m k v=>exact TU ai hG h
  case mapEntry mk z m k=>exact Lt ai hG h
  case entryStore m s v=>exact P2 ai hG h
  case copy size a b=>exact Q7h ai hG h
  case unsafeStr e a n=>exact RD ai hG h
  case strBytes e a=>exact Lr ai hG h
  case rangeMap=>cases hc
  case nextMap=>cases hc
  all_goals exact h.elim
 all_goals exact h.elim
theorem Ae {o:VOp}{ev:Operand→Value}{σ σ':Heap}{u:Value}(hm:Tl o=true) (h:Q4 o ev σ=some (u,σ')):σ.Le σ':=by
 have push:∀ b:Blk,σ.Le (σ.push b):=fun b=>(Heap.Le.refl σ).push b;cases o<;>first|(cases hm;done)|skip
 case alloc t z=>obtain⟨rfl,rfl⟩:=QR h;exact push _
 case box t x =>
  simp only[Q4] at h;split at h
  ·obtain⟨rfl,rfl⟩:=QR h;exact push _
  ·cases h
 case buildSlice e z n ps =>
  simp only[Q4] at h;split at h
  ·obtain⟨rfl,rfl⟩:=QR h;exact push _
  ·cases h
 case makeSlice e b z l c =>
  simp only[Q4] at h;split at h
  ·split at h
   ·obtain⟨rfl,rfl⟩:=QR h;exact push _
   ·cases h
  ·cases h
def stM:MK:=.agg [.int .i64,.int .i64]
def Q8i:Option JV→Value
 |some e=>e.2.1
 |none=>.int .i64 0
def LkE (es bU:List JV):Prop:=(es.all (fun e=>Zw stM e.1)=true→bU.all (fun e=>Zw stM e.1)=true)∧(es.all (fun e=>Zw stM e.1)=true→∀ k,Zw stM k=true→Q8i (Qd k bU)=Q8i (Qd k es))
theorem LkE.trans {a b c:List JV}(h:LkE a b) (h':LkE b c):LkE a c:=⟨fun k=>h'.1 (h.1 k),fun k x hx=>(h'.2 (h.1 k) x hx).trans (h.2 k x hx)⟩
theorem FN {v:Value}(h:Zw stM v=true):∃ a b,v=.agg #[.int .i64 a,.int .i64 b]:=by
 cases v with
 |agg l =>
  simp only[Zw,stM] at h;obtain⟨l⟩:=l
  match l,h with
  |[],h=>simp[fits] at h
  |[x],h=>cases x<;>simp[fits,Q0y] at h
  |[x,y],h =>simp only[fits,Bool.and_eq_true] at h;obtain⟨hx,hy,_⟩:=h;cases x<;>simp[Q0y] at hx;cases y<;>simp[Q0y] at hy;subst hx;subst hy;exact⟨_,_,rfl⟩
  |x::y::z::r,h=>simp[fits] at h
 |_=>simp[Zw,stM] at h
theorem Q6b {a b c e:Int}:Wd (.agg #[.int .i64 a,.int .i64 b]) (.agg #[.int .i64 c,.int .i64 e])=(a==c&&b==e):=by simp[Wd,Qi,Ve]
theorem Q2w {k0:Value}{clock:Nat}(il:Zw stM k0=true):∀ {es:List JV},LkE es (Qo k0 (Q8i (Qd k0 es)) clock es).1
 |[]=>by refine⟨fun _=>by simp[Qo,il],fun _ k hk=>?_⟩;simp only[Qo,Qd];cases Wd k k0<;>rfl
 |e::es=>by
  have ih:=Q2w (clock:=clock) il (es:=es);simp only[Qo,Qd];cases he:Wd k0 e.1 with
  |true =>
   simp only[if_true];refine⟨fun h=>?_,fun h k hk=>?_⟩
   ·simp only[List.all_cons,Bool.and_eq_true] at h ⊢;exact⟨il,h.2⟩
   ·simp only[List.all_cons,Bool.and_eq_true] at h;obtain⟨a,b,rfl⟩:=FN il;obtain⟨a1,b1,h1⟩:=FN h.1;obtain⟨a2,b2,rfl⟩:=FN hk;have heq:(a==a1&&b==b1)=true:=by rw[←Q6b,←h1];exact he
    simp only[Bool.and_eq_true,beq_iff_eq] at heq;obtain⟨rfl,rfl⟩:=heq;simp only[Qd,h1,Q6b];cases (a2==a&&b2==b)<;>rfl
  |false =>
   simp only[Bool.false_eq_true,if_false];refine⟨fun h=>?_,fun h k hk=>?_⟩
   ·simp only[List.all_cons,Bool.and_eq_true] at h ⊢;exact⟨h.1,ih.1 h.2⟩
   ·simp only[List.all_cons,Bool.and_eq_true] at h;simp only[Qd];cases Wd k e.1 with
    |true=>rfl
    |false=>exact ih.2 h.2 k hk
theorem Q2i {mk:MK}{z:Value}(h:stP mk z=true):mk=stM∧z=.int .i64 0:=by
 unfold stP at h;split at h
 ·exact⟨rfl,by rw[eq_of_beq h]⟩
 ·cases h
def OV (σ:Heap) (own:Own) (pl:Nat→Value) (Q:Heap→Prop):Option Nat→Prop
 |none=>∀ τ,σ.Le τ→Q τ
 |some q=>(Q7 own (q / 2)).live=true∧∃ i b,Oid (pl (q / 2)) i∧σ.get i=some b∧(∀ τ,τ.get i=some b→Q τ)∧(q % 2=1→∃ es c wr,b=.obj (.map es c) wr∧∀ τ bU c',LkE es bU→τ.get i=some (.obj (.map bU c') wr)→Q τ)
structure DSt (hs:List Heap) (σ:Heap) (pend:List (Nat×(Heap→Prop))) (hl chg:Nat) (A R:List (Nat×Option Nat)) (own:Own) (pl:Nat→Value):Prop where
 len:hs.length=hl
 same:∀ j τ,chg≤j→hs[j]?=some τ→τ=σ
 pend:∀ c∈pend,c.1<hl∨∃ r∈R,c.1≤r.1∧OV σ own pl c.2 r.2
 fr:∀ j τ q i,hs[j]?=some τ→Zj A j q=true→(Q7 own q).live=true→Oid (pl q) i→τ.get i=σ.get i
theorem KE {r:Nat}{σ:Heap}:∀ {l:List (Nat×(Heap→Prop))},(∀ c∈l,r≤c.1→c.2 σ)→Xm r σ l
 |[],_=>trivial
 |c::l,h=>⟨h c (by simp),KE fun c' cA=>h c' (by simp[cA])⟩
theorem JL {hs:List Heap}{σ' τ:Heap}{j:Nat}(h:(hs++[σ'])[j]?=some τ):(j<hs.length∧hs[j]?=some τ)∨(j=hs.length∧τ=σ'):=by
 rw[List.getElem?_append] at h;split at h
 ·rename_i ah;exact .inl ⟨ah,h⟩
 ·have:j-hs.length=0:=by
   cases hz:j-hs.length with
   |zero=>rfl
   |succ n=>rw[hz] at h;simp at h
  rw[this] at h;exact .inr ⟨by omega,by simpa using h.symm⟩
theorem SD {a:Nat×Option Nat}{A:List (Nat×Option Nat)}{j q:Nat}(h:Zj (a::A) j q=true) (hj:j≤a.1):(∃ t,a.2=some t∧t≠q)∧Zj A j q=true:=by
 simp only[Zj,List.all_cons,Bool.and_eq_true,Bool.or_eq_true,Nat.blt_eq] at h;refine⟨?_,h.2⟩;rcases h.1 with h|h
 ·omega
 ·split at h
  ·rename_i t ht;exact⟨t,ht,fun e=>by subst e;simp at h⟩
  ·cases h
theorem DSt.stay {hs:List Heap}{σ:Heap}{pend:List (Nat×(Heap→Prop))}{hl chg:Nat}{A R:List (Nat×Option Nat)}{own:Own}{pl:Nat→Value}(h:DSt hs σ pend hl chg A R own pl) :
  Xm hs.length σ pend∧DSt (hs++[σ]) σ pend (hl+1) chg A R own pl:=by
 have hr:∀ c∈pend,∀ r∈R,OV σ own pl c.2 r.2→c.2 σ:=fun c _ r _ ak=>by
  unfold OV at ak;split at ak
  ·exact ak σ (.refl _)
  ·obtain⟨_,i,b,_,h2,h3,_⟩:=ak;exact h3 σ h2
 refine⟨KE fun c hc hle=>?_,⟨by simp[h.len],fun j τ hj ht=>?_,fun c hc=>?_,fun j τ q i ht hu hl hi=>?_⟩⟩
 ·rcases h.pend c hc with h1|⟨r,h1,_,h2⟩
  ·rw[h.len] at hle;omega
  ·exact hr c hc r h1 h2
 ·rcases JL ht with⟨_,h1⟩|⟨_,h1⟩
  ·exact h.same j τ hj h1
  ·exact h1
 ·rcases h.pend c hc with h1|h1
  ·exact .inl (by omega)
  ·exact .inr h1
 ·rcases JL ht with⟨_,h1⟩|⟨_,rfl⟩
  ·exact h.fr j τ q i h1 hu hl hi
  ·rfl
theorem DSt.write {hs:List Heap}{σ σ':Heap}{pend:List (Nat×(Heap→Prop))}{hl chg:Nat}{A R:List (Nat×Option Nat)}{s s':St}{pl pl':Nat→Value}(h:DSt hs σ pend hl chg A R s.own pl) {T:Nat}(hf:Fr T s s' pl pl' σ σ') {mk ext:Bool}(hm:mk=true→σ.Le σ')
  (hE:ext=true→(Q7 s'.own T).live=true∧pl' T=pl T∧∃ i es c bU c',pl T=.map (some i)∧σ.get i=some (.obj (.map es c) true)∧σ'.get i=some (.obj (.map bU c') true)∧LkE es bU)
  (hc:((mk&&AU R hl T)||Li R hl T||(ext&&Q92 R hl T))=true) (aV:0<hl):Xm hs.length σ' pend∧DSt (hs++[σ']) σ' pend (hl+1) hl ((hl-1,some T)::A) R s'.own pl':=by
 have hr:∀ Q:Heap→Prop,∀ r∈R,hl≤r.1→OV σ s.own pl Q r.2→OV σ' s'.own pl' Q r.2:=fun Q r lT bh ak=>by
  have hq:∀ q,r.2=some q→q / 2=T→q % 2=1∧ext=true:=fun q hq e=>by
   subst e;simp only[Bool.or_eq_true,Bool.and_eq_true,AU,Li,Q92] at hc;rcases hc with (⟨_,hc⟩|hc)|⟨he,hc⟩
   ·have:=List.all_eq_true.1 hc r lT;rw[hq] at this;simp only[Bool.or_eq_true,Nat.blt_eq,Nat.beq_refl,Bool.not_true,Bool.false_eq_true,or_false] at this;omega
   ·have:=List.all_eq_true.1 hc r lT;rw[hq] at this;simp only[Bool.or_eq_true,Nat.blt_eq,Nat.beq_refl,Bool.not_true,Bool.false_eq_true,or_false] at this;omega
   ·have:=List.all_eq_true.1 hc r lT;rw[hq] at this;simp only[Bool.or_eq_true,Nat.blt_eq,Nat.beq_refl,Bool.not_true,Bool.false_eq_true,false_or] at this;rcases this with h|h
    ·omega
    ·exact⟨Nat.eq_of_beq_eq_true h,he⟩
  cases e:r.2 with
  |none =>
   rw[e] at ak;have cq:mk=true:=by
    simp only[Bool.or_eq_true,Bool.and_eq_true,Li,Q92] at hc;rcases hc with (⟨hc,_⟩|hc)|⟨_,hc⟩
    ·exact hc
    ·have:=List.all_eq_true.1 hc r lT;rw[e] at this;simp only[Bool.or_eq_true,Nat.blt_eq,Bool.false_eq_true,or_false] at this;omega
    ·have:=List.all_eq_true.1 hc r lT;rw[e] at this;simp only[Bool.or_eq_true,Nat.blt_eq,Bool.false_eq_true,or_false] at this;omega
   exact fun τ ht=>ak τ ((hm cq).trans ht)
  |some q =>
   rw[e] at ak;obtain⟨k1,i,b,k2,k3,k4⟩:=ak;by_cases n9:q / 2=T
   ·obtain⟨ho,he⟩:=hq q e n9;obtain⟨g1,g2,i',es,c,bU,c',g3,g4,g5,g6⟩:=hE he;obtain⟨k5,k6⟩:=k4;obtain⟨wQ,c0,wr,rfl,k7⟩:=k6 ho;rw[n9] at k1 k2;have hi:i=i':=Q3y (by rw[g3];rfl) k2;subst hi;rw[g4] at k3;cases k3;refine⟨by rw[n9];exact g1,i,_,by rw[n9,g2];exact k2,g5,fun τ hτ=>k7 τ _ _ g6 hτ,fun _=>⟨_,_,_,rfl,fun τ uY wR hl hτ=>k7 τ _ _ (g6.trans hl) hτ⟩⟩
   ·obtain⟨f1,f2,f3⟩:=hf (q / 2) n9;exact⟨by rw[f1];exact k1,i,b,by rw[f2];exact k2,by rw[f3 k1 i k2];exact k3,k4⟩
 have now:∀ Q:Heap→Prop,∀ r,OV σ' s'.own pl' Q r→Q σ':=fun Q r ak=>by
  unfold OV at ak;split at ak
  ·exact ak σ' (.refl _)
  ·obtain⟨_,i,b,_,h2,h3,_⟩:=ak;exact h3 σ' h2
 refine⟨KE fun c hc hle=>?_,⟨by simp[h.len],fun j τ hj ht=>?_,fun c hc=>?_,fun j τ q i ht hu bM hi=>?_⟩⟩
 ·rw[h.len] at hle;rcases h.pend c hc with h1|⟨r,h1,h2,h3⟩
  ·omega
  ·exact now _ _ (hr _ r h1 (by omega) h3)
 ·rcases JL ht with⟨h1,_⟩|⟨_,h1⟩
  ·rw[h.len] at h1;omega
  ·exact h1
 ·rcases h.pend c hc with h1|⟨r,h1,h2,h3⟩
  ·exact .inl (by omega)
  ·by_cases bh:hl≤r.1
   ·exact .inr ⟨r,h1,h2,hr _ r h1 bh h3⟩
   ·exact .inl (by omega)
 ·rcases JL ht with⟨h1,h2⟩|⟨_,rfl⟩
  ·rw[h.len] at h1;obtain⟨⟨t,ht,uZ⟩,cm⟩:=SD hu (by simp only;omega);obtain rfl:=osj ht;obtain⟨f1,f2,f3⟩:=hf q (Ne.symm uZ);rw[f1] at bM;rw[f2] at hi;rw[f3 bM i hi];exact h.fr j τ q i h2 cm bM hi
  ·rfl
theorem DV {ts:List Nat}{hl j q:Nat}{A:List (Nat×Option Nat)}(h:Zj (ts.map (fun t=>(hl,some t))++A) j q=true) (hj:j≤hl):q∉ts∧Zj A j q=true:=by simp only[Zj,List.all_append,Bool.and_eq_true] at h ⊢;refine⟨fun hm=>?_,h.2⟩;have:=List.all_eq_true.1 h.1 (hl,some q) (List.mem_map.2 ⟨q,hm,rfl⟩);simp only[Bool.or_eq_true,Nat.blt_eq,Nat.beq_refl,Bool.not_true,Bool.false_eq_true,or_false] at this;omega
theorem DSt.call {hs:List Heap}{σ σ':Heap}{pend:List (Nat×(Heap→Prop))}{hl chg:Nat}{A R:List (Nat×Option Nat)}{s s':St}{pl pl':Nat→Value}(h:DSt hs σ pend hl chg A R s.own pl) (hle:σ.Le σ') {Ts:List Nat}(hf:FrL Ts s s' pl pl' σ σ') (aV:0<hl) :
  Xm hs.length σ' pend∧DSt (hs++[σ']) σ' pend (hl+1) hl (Ts.map (fun t=>(hl-1,some t))++A) (R.map fun r=>(r.1,none)) s'.own pl':=by
 have hr:∀ Q r,OV σ s.own pl Q r→∀ τ,σ'.Le τ→Q τ:=fun Q r ak τ ht=>by
  unfold OV at ak;split at ak
  ·exact ak τ (hle.trans ht)
  ·obtain⟨_,i,b,_,h2,h3,_⟩:=ak;exact h3 τ (ht.2 _ _ (hle.2 _ _ h2))
 refine⟨KE fun c hc hle=>?_,⟨by simp[h.len],fun j τ hj ht=>?_,fun c hc=>?_,fun j τ q i ht hu bM hi=>?_⟩⟩
 ·rcases h.pend c hc with h1|⟨r,h1,_,h2⟩
  ·rw[h.len] at hle;omega
  ·exact hr _ _ h2 _ (.refl _)
 ·rcases JL ht with⟨h1,_⟩|⟨_,h1⟩
  ·rw[h.len] at h1;omega
  ·exact h1
 ·rcases h.pend c hc with h1|⟨r,h1,h2,h3⟩
  ·exact .inl (by omega)
  ·exact .inr ⟨(r.1,none),List.mem_map.2 ⟨r,h1,rfl⟩,h2,hr _ _ h3⟩
 ·rcases JL ht with⟨h1,h2⟩|⟨_,rfl⟩
  ·rw[h.len] at h1;obtain⟨hq,cm⟩:=DV hu (by omega);obtain⟨f1,f2,f3⟩:=hf q hq;rw[f1] at bM;rw[f2] at hi;rw[f3 bM i hi];exact h.fr j τ q i h2 cm bM hi
  ·rfl
theorem DSt.writeD {hs:List Heap}{σ σ':Heap}{pend:List (Nat×(Heap→Prop))}{hl chg:Nat}{A R:List (Nat×Option Nat)}{s s':St}{pl pl':Nat→Value}(h:DSt hs σ pend hl chg A R s.own pl) {Ts:List Nat}(hf:FrL Ts s s' pl pl' σ σ') {mk:Bool}(hm:mk=true→σ.Le σ')
  (hc:Ox mk R hl Ts=true) (aV:0<hl):Xm hs.length σ' pend∧DSt (hs++[σ']) σ' pend (hl+1) hl (Ts.map (fun t=>(hl-1,some t))++A) R s'.own pl':=by
 have hr:∀ Q:Heap→Prop,∀ r∈R,hl≤r.1→OV σ s.own pl Q r.2→OV σ' s'.own pl' Q r.2:=fun Q r lT bh ak=>by
  have iC:=List.all_eq_true.1 hc r lT;have iC:(match r.2 with|some q=>Ts.all (fun t=>!(Nat.beq (q / 2) t))|none=>mk)=true:=by rw[Bool.or_eq_true,Nat.blt_eq] at iC;exact iC.resolve_left (by omega)
  cases e:r.2 with
  |none =>rw[e] at ak iC;exact fun τ ht=>ak τ ((hm iC).trans ht)
  |some q =>
   rw[e] at ak iC;obtain⟨k1,i,b,k2,k3,k4⟩:=ak;obtain⟨f1,f2,f3⟩:=hf (q / 2) fun hq=>by have:=List.all_eq_true.1 iC (q / 2) hq;simp at this
   exact⟨by rw[f1];exact k1,i,b,by rw[f2];exact k2,by rw[f3 k1 i k2];exact k3,k4⟩
 have now:∀ Q:Heap→Prop,∀ r,OV σ' s'.own pl' Q r→Q σ':=fun Q r ak=>by
  unfold OV at ak;split at ak
  ·exact ak σ' (.refl _)
  ·obtain⟨_,i,b,_,h2,h3,_⟩:=ak;exact h3 σ' h2
 refine⟨KE fun c hc hle=>?_,⟨by simp[h.len],fun j τ hj ht=>?_,fun c hc=>?_,fun j τ q i ht hu bM hi=>?_⟩⟩
 ·rw[h.len] at hle;rcases h.pend c hc with h1|⟨r,h1,h2,h3⟩
  ·omega
  ·exact now _ _ (hr _ r h1 (by omega) h3)
 ·rcases JL ht with⟨h1,_⟩|⟨_,h1⟩
  ·rw[h.len] at h1;omega
  ·exact h1
 ·rcases h.pend c hc with h1|⟨r,h1,h2,h3⟩
  ·exact .inl (by omega)
  ·by_cases bh:hl≤r.1
   ·exact .inr ⟨r,h1,h2,hr _ r h1 bh h3⟩
   ·exact .inl (by omega)
 ·rcases JL ht with⟨h1,h2⟩|⟨_,rfl⟩
  ·rw[h.len] at h1;obtain⟨hq,cm⟩:=DV hu (by omega);obtain⟨f1,f2,f3⟩:=hf q hq;rw[f1] at bM;rw[f2] at hi;rw[f3 bM i hi];exact h.fr j τ q i h2 cm bM hi
  ·rfl
theorem SB {hl d j q:Nat}{A:List (Nat×Option Nat)}(h:Zj ((hl,none)::A) j q=true):Zj ([d].map (fun t=>(hl,some t))++A) j q=true:=by simp only[Zj,List.all_cons,Bool.and_eq_true,Bool.or_eq_true,Bool.false_eq_true,or_false,List.map_cons,List.map_nil,List.cons_append,List.nil_append] at h ⊢;exact⟨.inl h.1,h.2⟩
theorem DSt.frozen {hs:List Heap}{σ:Heap}{pend:List (Nat×(Heap→Prop))}{hl chg m d:Nat}{A R:List (Nat×Option Nat)}{own:Own}{pl:Nat→Value}(h:DSt hs σ pend hl chg ([d].map (fun t=>(m,some t))++A) R own pl):DSt hs σ pend hl chg ((m,none)::A) R own pl :=
 ⟨h.len,h.same,h.pend,fun j τ q i ht hu=>h.fr j τ q i ht (SB hu)⟩
theorem PY {ts:List Nat}{m j:Nat}{A:List (Nat×Option Nat)}(h:Bj (ts.map (fun t=>(m,some t))++A) j=true):Bj A j=true:=by simp only[Bj,List.all_append,Bool.and_eq_true] at h;exact h.2
theorem Tx {a:Nat×Option Nat}{j:Nat}{A:List (Nat×Option Nat)}(h:Bj (a::A) j=true):Bj A j=true:=by simp only[Bj,List.all_cons,Bool.and_eq_true] at h;exact h.2
theorem Lo {C:Cx}{f:SV}{args:List SV}{cs:List Prop}{v:SV}(h:Q34 C f args=some (cs,v)):∃ c ty k xs nl,Ub C.cs f args=some (c,.lst 0,[.lst ty k xs nl])∧cs=[c,nl=true→xs=[]]∧v=.val (.list k) xs∧k.flat=true∧0<C.nt:=by
 unfold Q34 at h;split at h
 ·rename_i heq;split at h
  ·rename_i k xs nl;cases hc:(k.flat&&Nat.blt 0 C.nt) with
   |false=>rw[hc] at h;cases h
   |true =>rw[hc] at h;obtain⟨rfl,rfl⟩:=QR h;simp only[Bool.and_eq_true,Nat.blt_eq] at hc;exact⟨_,_,_,_,_,heq,rfl,rfl,hc.1,hc.2⟩
  ·cases h
 ·cases h
theorem Ed {b:OB}(h:b.here=true):b.live=true:=by cases b<;>first|rfl|cases h
theorem Kp {B F:Heap}{pl:Nat→Value}{tb:Nat→Option Bool}{s:St}{env:Env}{σ:Heap}(hG:Gam P B F pl tb s env σ) {o:VOp}{q:Nat}(h:MP o (gev [] s.env) s.own=some q) {u:Value}{σ2:Heap}(hv:Q4 o (Q3 env) σ=some (u,σ2)) :
  (Q7 s.own (q / 2)).live=true∧∃ i b,Oid (pl (q / 2)) i∧σ.get i=some b∧(∀ τ,τ.get i=some b→Q4 o (Q3 env) τ=some (u,τ))∧(q % 2=1→∃ es c wr,b=.obj (.map es c) wr∧∀ τ bU c',LkE es bU→τ.get i=some (.obj (.map bU c') wr)→Q4 o (Q3 env) τ=some (u,τ)):=by
 have two:∀ q,2*q / 2=q:=fun q=>by omega
 have n_:∀ q,(2*q+1) / 2=q:=fun q=>by omega
 have odd:∀ {q} {X:Prop},2*q % 2=1→X:=fun {q X} h=>by omega
 unfold MP at h;split at h
 ·rename_i agg size a;have ha:=hG.evs (Gds.nil (tb:=tb)) a;have key:∀ q i off,(Q7 s.own q).live=true→Oid (pl q) i→Q3 env a=.pointer (some ⟨i,off,none⟩)→(Q7 s.own q).live=true∧∃ i b,Oid (pl q) i∧σ.get i=some b∧∀ τ,τ.get i=some b→Q4 (.load agg size a) (Q3 env) τ=some (u,τ):=fun q i off hl hi he=>by
   simp only[Q4,he] at hv;cases hb:σ.get i with
   |none=>rw[hb] at hv;cases hv
   |some b =>
    refine⟨hl,i,b,hi,hb,fun τ ht=>?_⟩;rw[hb] at hv;simp only[Q4,he,ht];cases b with
    |obj o wr=>cases hv
    |cells c e wr t =>
     simp only at hv ⊢;split at hv
     ·obtain⟨rfl,rfl⟩:=QR hv;rfl
     ·cases hv
  split at h
  ·rename_i q' off hx;rw[hx] at ha;simp only[SR] at ha;obtain⟨b,h1,h2⟩:=ha;cases hh:(Q7 s.own q').here with
   |false=>rw[hh] at h;cases h
   |true =>rw[hh] at h;obtain rfl:=osj h;obtain⟨x1,y1,y2,y3,y4,y5⟩:=key q' b off (Ed hh) (by rw[h1];rfl) h2;exact⟨by rw[two];exact x1,y1,y2,by rw[two];exact y3,y4,y5,odd⟩
  ·rename_i q' i off sz hx;rw[hx] at ha;simp only[SR] at ha;obtain⟨b,len,cap,h1,h2,h3,h4⟩:=ha;cases hh:(Q7 s.own q').here with
   |false=>rw[hh] at h;cases h
   |true =>rw[hh] at h;obtain rfl:=osj h;obtain⟨x1,y1,y2,y3,y4,y5⟩:=key q' b _ (Ed hh) (by rw[h1];rfl) h4;exact⟨by rw[two];exact x1,y1,y2,by rw[two];exact y3,y4,y5,odd⟩
  ·cases h
 ·rename_i mk z x y;cases bG:stP mk z with
  |false=>rw[bG] at h;cases h
  |true =>
   rw[bG] at h;simp only[_root_.cond_true] at h;obtain⟨rfl,rfl⟩:=Q2i bG;split at h
   ·rename_i q' hx;split at h
    ·rename_i kk vk l ho;obtain rfl:=osj h;have ha:=hG.evs (Gds.nil (tb:=tb)) x;rw[hx] at ha;simp only[SR] at ha;have aj:=hG.obj q';rw[ho] at aj;obtain⟨id,es,c,h2,h3,_⟩:=aj;have aG:∀ (τ:Heap) bU c' wr,τ.get id=some (.obj (.map bU c') wr)→τ.mapAt id=some (bU,c',wr):=fun τ bU c' wr hτ=>by simp[Heap.mapAt,hτ]
     simp only[Q4,Zl,ha.1,h2,aG _ _ _ _ h3] at hv;refine⟨by rw[n_,ho];rfl,id,_,by rw[n_,h2];rfl,h3,fun τ hτ=>?_,fun _=>⟨es,c,true,rfl,fun τ bU c' hl hτ=>?_⟩⟩
     ·simp only[Q4,Zl,ha.1,h2,aG _ _ _ _ hτ];split at hv
      ·rename_i eL;split at hv
       ·rename_i iv;rw[if_pos eL,if_pos iv];cases he:Qd (Q3 env y) es with
        |some e=>rw[he] at hv;obtain⟨rfl,rfl⟩:=QR hv;rfl
        |none=>rw[he] at hv;obtain⟨rfl,rfl⟩:=QR hv;rfl
       ·cases hv
      ·cases hv
     ·simp only[Q4,Zl,ha.1,h2,aG _ _ _ _ hτ];split at hv
      ·rename_i eL;split at hv
       ·rename_i iv;rw[if_pos eL,if_pos (hl.1 iv)];have cz:=hl.2 iv _ eL;cases he:Qd (Q3 env y) es with
        |some e =>
         rw[he] at hv cz;obtain⟨rfl,rfl⟩:=QR hv;cases hm:Qd (Q3 env y) bU with
         |some e'=>rw[hm] at cz;simp only[Q8i] at cz;simp[cz]
         |none=>rw[hm] at cz;simp only[Q8i] at cz;simp[←cz]
        |none =>
         rw[he] at hv cz;obtain⟨rfl,rfl⟩:=QR hv;cases hm:Qd (Q3 env y) bU with
         |some e'=>rw[hm] at cz;simp only[Q8i] at cz;simp[cz]
         |none=>rfl
       ·cases hv
      ·cases hv
    ·cases h
   ·cases h
 ·cases h
theorem Gj {r:Nat}{σ:Heap}:∀ {l:List (Nat×(Heap→Prop))},Xm r σ l→∀ {c},c∈l→r≤c.1→c.2 σ
 |c::l,h,c',hc,hr=>by
  rcases List.mem_cons.1 hc with rfl|hc
  ·exact h.1 hr
  ·exact Gj h.2 hc hr
theorem Gl {B F:Heap}{pl:Nat→Value}{tb:Nat→Option Bool}{s:St}{env:Env}{σ:Heap}(hG:Gam P B F pl tb s env σ) {gs:List Gd}(hg:Gds tb gs) {o:VOp}(h:Q8x o (gev gs s.env)=true) {u:Value}{σ2:Heap}(hv:Q4 o (Q3 env) σ=some (u,σ2)) :
  ∀ τ,B.Le τ→Q4 o (Q3 env) τ=some (u,τ):=by
 unfold Q8x at h;split at h
 ·rename_i agg size a;have ha:=hG.evs hg a;have key:∀ i off,(∃ b,B.get i=some b)→Q3 env a=.pointer (some ⟨i,off,none⟩)→∀ τ,B.Le τ→Q4 (.load agg size a) (Q3 env) τ=some (u,τ):=fun i off ⟨b,hb⟩ he τ hτ=>by
   simp only[Q4,he,hG.leB.2 _ _ hb] at hv;simp only[Q4,he,hτ.2 _ _ hb];cases b with
   |obj o wr=>cases hv
   |cells c e wr t =>
    simp only at hv ⊢;split at hv
    ·obtain⟨rfl,rfl⟩:=QR hv;rfl
    ·cases hv
  split at h
  ·rename_i k l i off hx;rw[hx] at ha;simp only[SR] at ha;obtain⟨b,o,c,e,wr,t,_,_,h3,h4,_⟩:=ha;exact key b _ ⟨_,h3⟩ h4
  ·rename_i l off hx;rw[hx] at ha;simp only[SR] at ha;obtain⟨b,c,e,wr,t,h3,h4,_⟩:=ha;exact key b _ ⟨_,h3⟩ h4
  ·cases h
 ·cases h
theorem Q3k {C:Cx}{B F:Heap}{pl:Nat→Value}{tb:Nat→Option Bool}{s:St}{env:Env}{σ:Heap}(hG:Gam P B F pl tb s env σ) {d:Nat}{o:VOp}{K:SV→St→Prop}(h:gn C d o (gev [] s.env) s K) (hc:Ik o=false) :
  ∃ u σ' pl' v s',Q4 o (Q3 env) σ=some (u,σ')∧K v s'∧(Gam P B F pl' tb s' env σ'∧Fr (Qr d o (gev [] s.env)) s s' pl pl' σ σ')∧SR P B pl' tb v u ∧
  (Lv o=true→(Q7 s'.own (Qr d o (gev [] s.env))).live=true∧pl' (Qr d o (gev [] s.env))=pl (Qr d o (gev [] s.env))∧∃ i es c bU c',pl (Qr d o (gev [] s.env))=.map (some i)∧σ.get i=some (.obj (.map es c) true)∧σ'.get i=some (.obj (.map bU c') true)∧LkE es bU):=by
 cases he:Lv o with
 |false =>obtain⟨u,σ',pl',v,s',h1,h2,h3,h4⟩:=Z1f hG h hc;exact⟨u,σ',pl',v,s',h1,h2,h3,h4,fun h=>by cases h⟩
 |true =>
  unfold Lv at he;split at he
  ·rename_i mk z m kx;obtain⟨rfl,rfl⟩:=Q2i he;obtain⟨u,σ',v,s',T,kv,aY,i,es,c,rfl,h1,h2,h3,h4,h5,h6,h7,h8,h9,bY,fL⟩:=TB (hG.evs (Gds.nil (tb:=tb))) hG h;refine⟨u,σ',pl,v,s',h1,h2,h3,h4,fun _=>⟨h5,rfl,i,es,c,_,_,h6,h7,h8,?_⟩⟩;have:aY=Q8i (Qd kv es):=by rw[fL];cases Qd kv es<;>rfl
   rw[this];exact Q2w h9
  ·cases he
def Jn (S:VSpecs):List DOper→Env→List Heap→Heap→List (Nat×(Heap→Prop))→(Env→Heap→Prop)→Prop
 |[],env,_,σ,_,K=>K env σ
 |o::rest,env,hs,σ,pend,K=>QJ (Je env o.guard) fun b =>
   vif b (if o.kind=2 then BX (fun R=>vop S o.op env σ R) fun v σ'=>Xm hs.length σ' pend∧Jn S rest (Xv env o.dst v) (hs++[σ']) σ' pend K
     else if o.kind=1 then QJ (Q4 o.op (Q3 env) σ) fun p=>(∀ τ∈hs.drop o.kmin,Xq o.op (Q3 env) p.1 τ) ∧
      Jn S rest (Xv env o.dst p.1) hs σ (if hs.length≤o.kmax then (o.kmax,Xq o.op (Q3 env) p.1)::pend else pend) K
     else QJ (Q4 o.op (Q3 env) σ) fun p=>Jn S rest (Xv env o.dst p.1) hs σ pend K)
    (if o.kind=2 then Xm hs.length σ pend∧Jn S rest (Xv env o.dst undef) (hs++[σ]) σ pend K else Jn S rest (Xv env o.dst undef) hs σ pend K)
theorem RI {α:Type}{o:Option α}{f g:α→Prop}(h:QJ o f) (u2:∀ a,f a→g a):QJ o g:=by
 cases o with
 |none=>exact h.elim
 |some a=>exact u2 a h
theorem Yh {S:VSpecs}{K:Env→Heap→Prop}:∀ {ops:List DOper}{env:Env}{hs:List Heap}{σ:Heap}{pend:List (Nat×(Heap→Prop))},Jn S ops env hs σ pend K→ZA S ops env hs σ pend K
 |[],_,_,_,_,h=>h
 |o::r,env,hs,σ,pend,h=>by
  simp only[Jn] at h;simp only[ZA];refine RI h fun b h=>⟨fun e=>?_,fun e=>?_⟩
  ·have h:=h.1 e;split at h
   ·rename_i hk;rw[if_pos hk];obtain⟨v,σ',h1,h2,h3⟩:=h;exact .inl ⟨v,σ',h1,h2,Yh h3⟩
   ·rename_i hk;rw[if_neg hk];split at h
    ·rename_i a9;rw[if_pos a9];exact RI h fun p h=>⟨h.1,Yh h.2⟩
    ·rename_i a9;rw[if_neg a9];exact RI h fun p h=>Yh h
  ·have h:=h.2 e;split at h
   ·rename_i hk;rw[if_pos hk];exact⟨h.1,Yh h.2⟩
   ·rename_i hk;rw[if_neg hk];exact Yh h
theorem Qj {C:Cx}(aA:COk P C) (bH:C.xs=[]) {B0 F0 D0:Heap}:∀ (ops:List DOper),(∀ o∈ops,o.kind=o.op.kind)→∀ {s:St}{env:Env}{σ:Heap}{B F:Heap}{pl:Nat→Value}{tb:Nat→Option Bool},GBase B0 F0 D0 B F σ→Gam P B F pl tb s env σ→∀ {hl chg:Nat}{A Rd:List (Nat×Option Nat)}{hs:List Heap}{pend pd:List (Nat×(Heap→Prop))},DSt hs σ pd hl chg A Rd s.own pl→(∀ c∈pend,(∀ τ,B.Le τ→c.2 τ)∨c∈pd)→(∀ j τ,hs[j]?=some τ→Bj A j=true→B.Le τ)→chg≤hl→0<hl →
  ∀ {K:St→Prop},XX C ops s hl chg A Rd K→∀ {R:Env→Heap→Prop},(∀ s' ae σ',K s'→GRel P B0 F0 D0 s' ae σ'→R ae σ')→Jn (Q2 P) ops env hs σ pend R
 |[],_,s,env,σ,B,F,pl,tb,hB,hG,_,_,_,_,_,_,_,_,_,_,_,_,K,h,R,hK=>hK s env σ h ⟨B,F,pl,tb,hB,hG⟩
 |o0::r,fA,s,env,σ,B,F,pl,tb,hB,hG,hl,chg,A,Rd,hs,pend,pd,hD,hp,b9,eN,aV,K,h,R,hK=>by
  have eH:∀ {n:Nat}{τ:Heap},B.Le τ→Xm n τ pd→Xm n τ pend:=fun {n τ} hb hv=>KE fun c hc hn=>(hp c hc).elim (fun h=>h τ hb) fun h=>Gj hv h hn;have snoc:∀ {τ:Heap}{A':List (Nat×Option Nat)},B.Le τ→(∀ j,Bj A' j=true→Bj A j=true)→∀ j τ',(hs++[τ])[j]?=some τ'→Bj A' j=true→B.Le τ':=fun {τ A'} hb hA j τ' hm hn=>by
   rcases JL hm with⟨_,h1⟩|⟨_,rfl⟩
   ·exact b9 j τ' h1 (hA j hn)
   ·exact hb
  have cj:∀ o∈r,o.kind=o.op.kind:=fun o' cJ=>fA o' (List.mem_cons_of_mem _ cJ);have lU:=fA o0 List.mem_cons_self;unfold XX at h;split at h
  ·rename_i bG;have hw:=Vp hG bG;simp only[Jn];rw[hw];refine⟨fun e=>(by cases e),fun _=>?_⟩;have cf:=hG.put o0.dst (show SR P B pl tb .any undef by simp[SR]);by_cases au:o0.kind=2
   ·rw[if_pos au] at h ⊢;obtain⟨k1,k2⟩:=hD.stay;exact⟨eH hG.leB k1,Qj aA bH r cj hB cf (by rw[Zg];exact k2) hp (snoc hG.leB fun _ h=>h) (by omega) (by omega) h hK⟩
   ·rw[if_neg au] at h ⊢;exact Qj aA bH r cj hB cf (by rw[Zg];exact hD) hp b9 eN aV h hK
  have bQ:(Q0d s.env o0).kind=(Q0d s.env o0).op.kind:=by unfold Q0d;split<;>exact lU
  have dF:Jn (Q2 P) (Q0d s.env o0::r) env hs σ pend R→Jn (Q2 P) (o0::r) env hs σ pend R:=fun hv=>by
   unfold Q0d at hv;split at hv
   ·rename_i bG;simp only[Jn] at hv ⊢;rw[Vp hG bG];exact hv
   ·exact hv
  refine dF ?_;clear dF;generalize Q0d s.env o0=o at h bQ ⊢
  replace h:=id h
  simp only[Jn];by_cases au:o.kind=2
  ·rw[if_pos au] at h
   have fin:∀ {u:Value}{σ':Heap}{ts:List Nat}{v:SV}{s':St}{pl':Nat→Value},(∀ R',R' u σ'→vop (Q2 P) o.op env σ R')→XX C r (s'.put o.dst v) (hl+1) (bif ts.isEmpty then chg else hl) (ts.map (fun t=>(hl-1,some t))++A) (bif ts.isEmpty then Rd else Rd.map fun r=>(r.1,none)) K→Gam P B F pl' tb s' env σ'→SR P B pl' tb v u→(ts=[]→σ'=σ∧pl'=pl∧s'=s)→σ.Le σ'→Dead σ σ'→FrL ts s s' pl pl' σ σ' →
     BX (fun R=>vop (Q2 P) o.op env σ R) fun v σ'=>Xm hs.length σ' pend∧Jn (Q2 P) r (Xv env o.dst v) (hs++[σ']) σ' pend R:=fun {u σ' ts v s' pl'} bK oa br iD he hle hd cu=>by
    cases ts with
    |nil =>obtain⟨rfl,rfl,rfl⟩:=he rfl;obtain⟨k1,k2⟩:=hD.stay;exact⟨u,σ',bK _ ⟨rfl,rfl⟩,eH br.leB k1,Qj aA bH r cj (GJ hB hd) (br.put o.dst iD) (by rw[Zg];exact k2) hp (snoc br.leB fun _ h=>h) (by simp only[List.isEmpty,_root_.cond_true] at *;omega) (by omega) oa hK⟩
    |cons t ts =>obtain⟨k1,k2⟩:=hD.call hle cu aV;exact⟨u,σ',bK _ ⟨rfl,rfl⟩,eH br.leB k1,Qj aA bH r cj (GJ hB hd) (br.put o.dst iD) (by rw[Zg];exact k2) hp (snoc br.leB fun _ h=>PY h) (by simp only[List.isEmpty,_root_.cond_false] at *;omega) (by omega) oa hK⟩
   split at h
   ·rename_i f args bK;split at h
    ·rename_i hg;rw[hg];refine⟨fun _=>?_,fun e=>by cases e⟩;rw[if_pos au];rw[bH] at h;simp only[Qf] at h;obtain⟨g,a,b,u,σ',e,v,s',pl',h1,h2,h3,h4,h5,h6,h7,h8,h9⟩:=Wm aA hG h (show SR P σ Xu Jc (.fn f [] []) (.func (.func f) #[] #[]) by simp only[SR,SRs];exact⟨[],[],rfl,rfl,rfl⟩) (hG.gcall Gds.nil args);obtain⟨rfl,rfl,rfl⟩:=(by simpa using h1:f=g∧#[]=a∧#[]=b);refine fin (u:=u) (σ':=σ') (fun R' hr=>?_) h3 h4 h5 h6 h7 h8 h9;rw[bK];show VCalled P f (args.map (Q3 env)) σ R';have:=h2.mono (R':=R') fun u' aD ⟨e1,e2⟩=>by subst e1;subst e2;exact hr
     simpa using this
    ·rename_i j want hg;rw[hg];split at h
     ·exact h.elim
     ·rename_i gs s1 dC;obtain⟨tb',br,cP,b,hw,bp,bW⟩:=Wg hG dC;have aO:=KN dC;rw[hw];split at h
      ·rename_i cs v dE;cases cD:Ui v with
       |false=>rw[cD] at h;exact h.elim
       |true =>
       rw[cD] at h;simp only[_root_.cond_true] at h;obtain⟨h1,h2⟩:=Zx h;obtain⟨k1,k2⟩:=hD.stay;have lR:∀ x,DSt (hs++[σ]) σ pd (hl+1) chg A Rd (s1.put o.dst x).own pl:=fun x=>by rw[Zg,aO];exact k2
       refine⟨fun e=>?_,fun e=>?_⟩
       ·rw[if_pos au];have gN:Gds tb' gs:=fun g hg=>⟨bp e g hg,cP g hg⟩;have lW:∀ {v u},SR P B pl tb' v u→SR P B pl tb' (.grd gs (Bb v)) u:=fun {v u} hs=>by
         simp only[SR];obtain⟨h1,h2⟩:=PN hs;exact⟨⟨cP,h2⟩,fun _=>h1,fun ⟨g,hg,aC⟩=>absurd (bp e g hg) aC⟩
        simp only[gqc] at dE;split at dE
        ·rename_i c v' heq;cases cn:v'.ret 0 with
         |false=>rw[cn] at dE;cases dE
         |true =>
          rw[cn] at dE;obtain⟨rfl,rfl⟩:=QR dE;obtain⟨g,a,b',h3,h4,_⟩:=J3 aA.cs (show SR P σ Xu Jc (.fn f [] []) (.func (.func f) #[] #[]) by simp only[SR,SRs];exact⟨[],[],rfl,rfl,rfl⟩) (br.gcall gN args) heq cn rfl (h2 (bp e) _ (by simp));obtain⟨rfl,rfl,rfl⟩:=(by simpa using h3:f=g∧#[]=a∧#[]=b');refine⟨Uh Xu v',σ,?_,eH hG.leB k1,Qj aA bH r cj hB (br.put o.dst (lW ?_)) (lR _) hp (snoc hG.leB fun _ h=>h) (by omega) (by omega) (Zp h1) hK⟩
          ·rw[bK];show VCalled P f (args.map (Q3 env)) σ _;have:=h4.mono (R':=fun u σ'=>u=Uh Xu v'∧σ'=σ) fun u σ' hr=>by
            obtain⟨rfl,hu⟩:=hr.flat cn;exact⟨UK v' u cn cD hu,rfl⟩
           simpa using this
          ·exact SR.retd (fun j hj=>by omega) _ _ cn (CR (P:=P) (pl:=Xu) (m:=0) (fun j hj=>by omega) v' cn cD)
        ·cases dE
       ·rw[if_pos au];obtain⟨g,dJ,aC⟩:=bW e;exact⟨eH hG.leB k1,Qj aA bH r cj hB (br.put o.dst (by simp only[SR];exact⟨⟨cP,PU v⟩,fun hall=>absurd (hall g dJ) aC,fun _=>trivial⟩)) (lR _) hp (snoc hG.leB fun _ h=>h) (by omega) (by omega) (Zp h1) hK⟩
      ·split at h
       ·rename_i cs v kO;obtain⟨c,ty,k,xs,nl,heq,rfl,rfl,hk,cS⟩:=Lo kO;obtain⟨h1,h2⟩:=Zx h;have frz:∀ {B' σ':Heap},B'.Le σ'→∀ j τ',(hs++[σ'])[j]?=some τ'→Bj ((hl-1,none)::A) j=true→B'.Le τ':=fun {B' σ'} hb j τ' hm hn=>by
         rcases JL hm with⟨h1,_⟩|⟨_,rfl⟩
         ·simp only[Bj,List.all_cons,Bool.and_eq_true,Bool.or_eq_true,Nat.blt_eq,Option.isSome_none,Bool.false_eq_true,or_false] at hn;have:=hD.len;omega
         ·exact hb
        refine⟨fun e=>?_,fun e=>?_⟩
        ·rw[if_pos au];have gN:Gds tb' gs:=fun g hg=>⟨bp e g hg,cP g hg⟩;have eL:=h2 (bp e) c (by simp);have iv:=h2 (bp e) (nl=true→xs=[]) (by simp);have dC:D1 C (C.off+o.dst.getD 0) (.fn f [] []) (SF s1.own (args.map (gev gs s1.env))) s1 (fun ts v' s'=>ts=[C.off+o.dst.getD 0]∧v'=.lst (C.off+o.dst.getD 0)∧s'=s1.make (C.off+o.dst.getD 0) (.lst ty k xs nl)):=by
          unfold D1;rw[heq];dsimp only;have ao:(SV.ret [OB.lst ty k xs nl].length (.lst 0)&&([OB.lst ty k xs nl].all OB.ret&&(Nat.blt 0 C.nt&&([OB.lst ty k xs nl].all OB.isL&&Ui (.lst 0)))))=true:=by simp only[SV.ret,List.length_singleton,List.all_cons,List.all_nil,Bool.and_true,OB.ret,hk,Bool.true_and,OB.isL,Ui];rw[Bool.and_eq_true];exact⟨rfl,by rw[Nat.blt_eq];exact cS⟩
          rw[ao];simp only[_root_.cond_true,Q3i,OB.wf];refine⟨eL,iv,?_,?_,?_⟩
          ·simp[List.range_succ]
          ·simp[SV.ren]
          ·simp[St.makes]
         obtain⟨g,a,b',u,σ',ts,v',s',pl',h3,h4,⟨rfl,rfl,rfl⟩,h5,h6,_,h7,h8,h9⟩:=Wm aA br dC (show SR P σ Xu Jc (.fn f [] []) (.func (.func f) #[] #[]) by simp only[SR,SRs];exact⟨[],[],rfl,rfl,rfl⟩) (br.gcall gN args);obtain⟨rfl,rfl,rfl⟩:=(by simpa using h3:f=g∧#[]=a∧#[]=b');obtain⟨B',F',m1,m2,m3⟩:=CY br.bf hk h5 h6 h8;have cu:FrL [C.off+o.dst.getD 0] s ((s1.make (C.off+o.dst.getD 0) .dead).put o.dst (.grd gs (.val (.list k) xs))) pl pl' σ σ':=fun q hq=>by obtain⟨f1,f2,f3⟩:=h9 q hq;rw[aO] at f3;refine⟨?_,f2,f3⟩;rw[Zg,WU _ _ _ (by simpa using hq),aO]
         obtain⟨k1,k2⟩:=hD.call h7 cu aV;refine⟨u,σ',?_,eH (m1.b.trans m2.leB) k1,Qj aA bH r cj (hB.trans m1) (m2.put o.dst ?_) k2.frozen (fun c hc=>(hp c hc).imp (fun h τ hτ=>h τ (m1.b.trans hτ)) id) (frz m2.leB) (by omega) (by omega) h1 hK⟩
         ·rw[bK];show VCalled P f (args.map (Q3 env)) σ _;simpa using h4
         ·simp only[SR];exact⟨⟨cP,trivial⟩,fun _=>m3,fun ⟨g,hg,aC⟩=>absurd (bp e g hg) aC⟩
        ·rw[if_pos au];obtain⟨g,dJ,aC⟩:=bW e;have cu:FrL [C.off+o.dst.getD 0] s ((s1.make (C.off+o.dst.getD 0) .dead).put o.dst (.grd gs (.val (.list k) xs))) pl (Zb pl (C.off+o.dst.getD 0) undef) σ σ:=fun q hq=>by
          have cL:q≠C.off+o.dst.getD 0:=by simpa using hq
          refine⟨?_,by simp[Zb,cL],fun _ _ _=>rfl⟩;rw[Zg,WU _ _ _ cL,aO]
         obtain⟨k1,k2⟩:=hD.call (.refl σ) cu aV;refine⟨eH hG.leB k1,Qj aA bH r cj hB ((br.make (C.off+o.dst.getD 0) .dead undef br.le (fun _ _ _ _ _=>rfl) trivial (fun i hl _=>by cases hl)).put o.dst ?_) k2.frozen hp (frz hG.leB) (by omega) (by omega) h1 hK⟩;simp only[SR];exact⟨⟨cP,trivial⟩,fun hall=>absurd (hall g dJ) aC,fun _=>trivial⟩
       ·exact h.elim
   ·rename_i f args bK;split at h
    ·rename_i hg;rw[hg];refine⟨fun _=>?_,fun e=>by cases e⟩;rw[if_pos au];obtain⟨g,a,b,u,σ',e,v,s',pl',h1,h2,h3,h4,h5,h6,h7,h8,h9⟩:=Wm aA hG h (hG.gfun Gds.nil f) (hG.gcall Gds.nil args);refine fin (u:=u) (σ':=σ') (fun R' hr=>?_) h3 h4 h5 h6 h7 h8 h9;rw[bK];exact G2 h1 (h2.mono (R':=R') fun u' aD ⟨e1,e2⟩=>by subst e1;subst e2;exact hr)
    ·exact h.elim
   ·exact h.elim
   ·exact h.elim
   ·rename_i qE na qF fy;split at h
    ·rename_i hg;rw[hg];refine⟨fun _=>?_,fun e=>by cases e⟩;rw[if_pos au];have aB:Ik o.op=false:=by
      cases ho:o.op<;>first|rfl|(exact absurd ho (qE _ _))|(exact absurd ho (na _ _))|skip
      case ext x=>cases x<;>first|rfl|(exact absurd ho (qF _))|(exact absurd ho (fy _))
     cases kN:F3 C (o.dst.getD 0) o.op (gev [] s.env) with
     |true =>
      rw[kN] at h;simp only[_root_.cond_true] at h;cases hm:Ox (Tl o.op) Rd hl (WM (C.off+o.dst.getD 0) o.op (gev [] s.env)) with
      |false=>rw[hm] at h;exact h.elim
      |true =>
       rw[hm] at h;simp only[_root_.cond_true] at h;obtain⟨u,σ',pl',v,s',h1,h2,⟨h3,kL⟩,h4⟩:=Te (fun x=>hG.evs (Gds.nil (tb:=tb)) x) hG h;have gm:∀ R',R' u σ'→vop (Q2 P) o.op env σ R':=fun R' hr=>by
        have:vop (Q2 P) o.op env σ R'=QJ (Q4 o.op (Q3 env) σ) fun p=>R' p.1 p.2:=by
         cases ho:o.op with
         |callF f a=>rw[ho] at aB;cases aB
         |callV f a=>rw[ho] at aB;cases aB
         |ext x =>
          cases x with
          |nextMap y=>rw[ho] at h1;cases h1
          |_=>rfl
         |_=>rfl
        rw[this,h1];exact hr
       obtain⟨k1,k2⟩:=hD.writeD kL (fun cq=>Ae cq h1) hm aV;exact⟨u,σ',gm _ ⟨rfl,rfl⟩,eH h3.leB k1,Qj aA bH r cj (GJ hB (KY h1)) (h3.put o.dst h4) (by rw[Zg];exact k2) hp (snoc h3.leB fun _ h=>PY h) (by omega) (by omega) h2 hK⟩
     |false =>
     rw[kN] at h;simp only[_root_.cond_false] at h;cases hm:((Tl o.op&&AU Rd hl (Qr (C.off+o.dst.getD 0) o.op (gev [] s.env)))||Li Rd hl (Qr (C.off+o.dst.getD 0) o.op (gev [] s.env))||(Lv o.op&&Q92 Rd hl (Qr (C.off+o.dst.getD 0) o.op (gev [] s.env)))) with
     |false=>rw[hm] at h;exact h.elim
     |true =>
      rw[hm] at h;simp only[_root_.cond_true] at h;obtain⟨u,σ',pl',v,s',h1,h2,⟨h3,kL⟩,h4,hE⟩:=Q3k hG h aB;have gm:∀ R',R' u σ'→vop (Q2 P) o.op env σ R':=fun R' hr=>by
       have:vop (Q2 P) o.op env σ R'=QJ (Q4 o.op (Q3 env) σ) fun p=>R' p.1 p.2:=by
        cases ho:o.op with
        |callF f a=>rw[ho] at aB;cases aB
        |callV f a=>rw[ho] at aB;cases aB
        |ext x =>
         cases x with
         |nextMap y=>rw[ho] at h1;cases h1
         |_=>rfl
        |_=>rfl
       rw[this,h1];exact hr
      obtain⟨k1,k2⟩:=hD.write kL (fun cq=>Ae cq h1) hE hm aV;exact⟨u,σ',gm _ ⟨rfl,rfl⟩,eH h3.leB k1,Qj aA bH r cj (GJ hB (KY h1)) (h3.put o.dst h4) (by rw[Zg];exact k2) hp (snoc h3.leB fun _ h=>Tx h) (by omega) (by omega) h2 hK⟩
    ·exact h.elim
  ·rw[if_neg au] at h;have lX:o.op.kind≠2:=by rw[←bQ];exact au
   by_cases a9:o.kind=1
   ·rw[if_pos a9] at h
    have rd:∀ (rq:Option Nat),(∀ q,rq=some q→MP o.op (gev [] s.env) s.own=some q)→(Nat.ble chg o.kmin||S3 A o.kmin rq)=true→gd1 C o s (fun s'=>XX C r s' hl chg A ((o.kmax,rq)::Rd) K) →
      QJ (Je env o.guard) fun b=>vif b (if o.kind=2 then BX (fun R=>vop (Q2 P) o.op env σ R) fun v σ'=>Xm hs.length σ' pend∧Jn (Q2 P) r (Xv env o.dst v) (hs++[σ']) σ' pend R
       else if o.kind=1 then QJ (Q4 o.op (Q3 env) σ) fun p=>(∀ τ∈hs.drop o.kmin,Xq o.op (Q3 env) p.1 τ) ∧
        Jn (Q2 P) r (Xv env o.dst p.1) hs σ (if hs.length≤o.kmax then (o.kmax,Xq o.op (Q3 env) p.1)::pend else pend) R
       else QJ (Q4 o.op (Q3 env) σ) fun p=>Jn (Q2 P) r (Xv env o.dst p.1) hs σ pend R)
      (if o.kind=2 then Xm hs.length σ pend∧Jn (Q2 P) r (Xv env o.dst undef) (hs++[σ]) σ pend R else Jn (Q2 P) r (Xv env o.dst undef) hs σ pend R):=fun rq ob hc h=>by
     obtain⟨b,hw,h1,h2⟩:=Uq hG h;rw[hw];have lY:DSt hs σ pd hl chg A ((o.kmax,rq)::Rd) s.own pl:=⟨hD.len,hD.same,fun c hc=>(hD.pend c hc).imp id fun ⟨r,k1,k2⟩=>⟨r,List.mem_cons_of_mem _ k1,k2⟩,hD.fr⟩;refine⟨fun e=>?_,fun e=>?_⟩
     ·obtain⟨u,s',tb',h3,h4,aO,h5⟩:=h1 e;rw[if_neg au,if_pos a9,h3];refine⟨fun τ hτ=>?_,?_⟩
      ·obtain⟨j,hj⟩:=List.mem_iff_getElem?.1 hτ;rw[List.getElem?_drop] at hj;rw[Bool.or_eq_true] at hc;rcases hc with hc|hc
       ·have:=hD.same (o.kmin+j) τ (by have:=Nat.le_of_ble_eq_true hc;omega) hj;subst this;exact ZW h3
       ·unfold S3 at hc;split at hc
        ·rename_i q;obtain⟨k1,i,bl,k2,k3,k4,k5⟩:=Kp hG (ob q rfl) h3;have hu:Zj A (o.kmin+j) (q / 2)=true:=by
          simp only[Zj,List.all_eq_true,Bool.or_eq_true,Nat.blt_eq] at hc ⊢;exact fun a ha=>(hc a ha).imp (fun h=>by omega) id
         have:=hD.fr (o.kmin+j) τ (q / 2) i hj hu k1 k2;exact ZW (k4 τ (by rw[this];exact k3))
        ·cases hc
      ·by_cases hle:hs.length≤o.kmax
       ·rw[if_pos hle];refine Qj aA bH r cj hB h5 (A:=A) (Rd:=(o.kmax,rq)::Rd) (hl:=hl) (chg:=chg) (pd:=(o.kmax,Xq o.op (Q3 env) u)::pd) ?_ (fun c hc=>?_) b9 eN aV h4 hK
        ·rw[aO];refine⟨hD.len,hD.same,fun c hc=>?_,hD.fr⟩;rcases List.mem_cons.1 hc with rfl|hc
         ·refine .inr ⟨_,List.mem_cons_self,Nat.le_refl _,?_⟩;cases rq with
          |none=>exact fun τ hτ=>ZW (Rs lX h3 hτ)
          |some q =>obtain⟨k1,i,bl,k2,k3,k4,k5⟩:=Kp hG (ob q rfl) h3;exact⟨k1,i,bl,k2,k3,fun τ ht=>ZW (k4 τ ht),fun ho=>(let ⟨es,c,wr,x1,x2⟩:=k5 ho;⟨es,c,wr,x1,fun τ bU c' hl ht=>ZW (x2 τ bU c' hl ht)⟩)⟩
         ·exact lY.pend c hc
        ·rcases List.mem_cons.1 hc with rfl|hc
         ·exact .inr List.mem_cons_self
         ·exact(hp c hc).imp id fun h=>List.mem_cons_of_mem _ h
       ·rw[if_neg hle];exact Qj aA bH r cj hB h5 (A:=A) (Rd:=(o.kmax,rq)::Rd) (hl:=hl) (chg:=chg) (pd:=pd) (by rw[aO];exact lY) hp b9 eN aV h4 hK
     ·obtain⟨s',tb',h4,aO,h5⟩:=h2 e;rw[if_neg au];exact Qj aA bH r cj hB h5 (by rw[aO];exact lY) hp b9 eN aV h4 hK
    have ro:Bj A o.kmin=true→(∀ u,Q4 o.op (Q3 env) σ=some (u,σ)→(Je env o.guard=some true)→∀ τ,B.Le τ→Q4 o.op (Q3 env) τ=some (u,τ))→gd1 C o s (fun s'=>XX C r s' hl chg A Rd K) →
      QJ (Je env o.guard) fun b=>vif b (if o.kind=2 then BX (fun R=>vop (Q2 P) o.op env σ R) fun v σ'=>Xm hs.length σ' pend∧Jn (Q2 P) r (Xv env o.dst v) (hs++[σ']) σ' pend R
       else if o.kind=1 then QJ (Q4 o.op (Q3 env) σ) fun p=>(∀ τ∈hs.drop o.kmin,Xq o.op (Q3 env) p.1 τ) ∧
        Jn (Q2 P) r (Xv env o.dst p.1) hs σ (if hs.length≤o.kmax then (o.kmax,Xq o.op (Q3 env) p.1)::pend else pend) R
       else QJ (Q4 o.op (Q3 env) σ) fun p=>Jn (Q2 P) r (Xv env o.dst p.1) hs σ pend R)
      (if o.kind=2 then Xm hs.length σ pend∧Jn (Q2 P) r (Xv env o.dst undef) (hs++[σ]) σ pend R else Jn (Q2 P) r (Xv env o.dst undef) hs σ pend R):=fun jU bT h=>by
     obtain⟨b,hw,h1,h2⟩:=Uq hG h;rw[hw];refine⟨fun e=>?_,fun e=>?_⟩
     ·obtain⟨u,s',tb',h3,h4,aO,h5⟩:=h1 e;have bT:=bT u h3 (by rw[hw,e]);rw[if_neg au,if_pos a9,h3];refine⟨fun τ hτ=>?_,?_⟩
      ·obtain⟨j,hj⟩:=List.mem_iff_getElem?.1 hτ;rw[List.getElem?_drop] at hj;refine ZW (bT τ (b9 _ τ hj ?_));simp only[Bj,List.all_eq_true,Bool.or_eq_true,Nat.blt_eq] at jU ⊢;exact fun a ha=>(jU a ha).imp (fun h=>by omega) id
      refine Qj aA bH r cj hB h5 (A:=A) (Rd:=Rd) (hl:=hl) (chg:=chg) (pd:=pd) (by rw[aO];exact hD) (fun c hc=>?_) b9 eN aV h4 hK;split at hc
      ·rcases List.mem_cons.1 hc with rfl|hc
       ·exact .inl fun τ hτ=>ZW (bT τ hτ)
       ·exact hp c hc
      ·exact hp c hc
     ·obtain⟨s',tb',h4,aO,h5⟩:=h2 e;rw[if_neg au];exact Qj aA bH r cj hB h5 (by rw[aO];exact hD) hp b9 eN aV h4 hK
    split at h
    ·rename_i hg;cases hr:(Q8x o.op (gev [] s.env)&&Bj A o.kmin) with
     |true =>rw[hr] at h;rw[Bool.and_eq_true] at hr;exact ro hr.2 (fun u hu _=>Gl hG Gds.nil hr.1 hu) h
     |false =>
     rw[hr] at h;simp only[_root_.cond_false] at h;cases hb:(Nat.ble chg o.kmin||S3 A o.kmin (MP o.op (gev [] s.env) s.own)) with
     |false=>rw[hb] at h;exact h.elim
     |true =>rw[hb] at h;exact rd _ (fun q hq=>hq) hb h
    ·rename_i j want hg;cases hr:(Q2l s j want o.op&&Bj A o.kmin) with
     |true =>
      rw[hr] at h;rw[Bool.and_eq_true] at hr;obtain⟨hr,jU⟩:=hr;refine ro jU (fun u hu hw=>?_) h;unfold Q2l at hr;split at hr
      ·rename_i gs s1 dC;obtain⟨tb',br,cP,b,cX,bp,bW⟩:=Wg hG dC;rw[hg,cX] at hw;have e:=osj hw;exact Gl br (fun g hg=>⟨bp e g hg,cP g hg⟩) hr hu
      ·cases hr
     |false =>
     rw[hr] at h;simp only[_root_.cond_false] at h;cases hb:Nat.ble chg o.kmin with
     |false=>rw[hb] at h;exact h.elim
     |true =>rw[hb] at h;exact rd none (fun q hq=>by cases hq) (by rw[hb];rfl) h
   ·rw[if_neg a9] at h;obtain⟨b,hw,h1,h2⟩:=Uq hG h;rw[hw];refine⟨fun e=>?_,fun e=>?_⟩
    ·obtain⟨u,s',tb',h3,h4,aO,h5⟩:=h1 e;rw[if_neg au,if_neg a9,h3];exact Qj aA bH r cj hB h5 (by rw[aO];exact hD) hp b9 eN aV h4 hK
    ·obtain⟨s',tb',h4,aO,h5⟩:=h2 e;rw[if_neg au];exact Qj aA bH r cj hB h5 (by rw[aO];exact hD) hp b9 eN aV h4 hK
theorem Ql {C:Cx}(aA:COk P C) {B0 F0 D0:Heap}:∀ (ops:List DOper),(∀ o∈ops,o.kind=o.op.kind)→∀ {s:St}{env:Env}{σ:Heap}{B F:Heap}{pl:Nat→Value}{tb:Nat→Option Bool},GBase B0 F0 D0 B F σ→Gam P B F pl tb s env σ→∀ {hl chg:Nat}{A Rd:List (Nat×Option Nat)}{hs:List Heap}{pend pd:List (Nat×(Heap→Prop))},DSt hs σ pd hl chg A Rd s.own pl→(∀ c∈pend,(∀ τ,B.Le τ→c.2 τ)∨c∈pd)→(∀ j τ,hs[j]?=some τ→Bj A j=true→B.Le τ)→chg≤hl→0<hl →
  ∀ {K:St→Prop},XX C ops s hl chg A Rd K→∀ {R:Env→Heap→Prop},(∀ s' ae σ',K s'→GRel P B0 F0 D0 s' ae σ'→R ae σ')→ZA (Q2 P) ops env hs σ pend R
 |[],_,s,env,σ,B,F,pl,tb,hB,hG,_,_,_,_,_,_,_,_,_,_,_,_,K,h,R,hK=>hK s env σ h ⟨B,F,pl,tb,hB,hG⟩
 |o0::r,fA,s,env,σ,B,F,pl,tb,hB,hG,hl,chg,A,Rd,hs,pend,pd,hD,hp,b9,eN,aV,K,h,R,hK=>by
  have eH:∀ {n:Nat}{τ:Heap},B.Le τ→Xm n τ pd→Xm n τ pend:=fun {n τ} hb hv=>KE fun c hc hn=>(hp c hc).elim (fun h=>h τ hb) fun h=>Gj hv h hn;have snoc:∀ {τ:Heap}{A':List (Nat×Option Nat)},B.Le τ→(∀ j,Bj A' j=true→Bj A j=true)→∀ j τ',(hs++[τ])[j]?=some τ'→Bj A' j=true→B.Le τ':=fun {τ A'} hb hA j τ' hm hn=>by
   rcases JL hm with⟨_,h1⟩|⟨_,rfl⟩
   ·exact b9 j τ' h1 (hA j hn)
   ·exact hb
  have cj:∀ o∈r,o.kind=o.op.kind:=fun o' cJ=>fA o' (List.mem_cons_of_mem _ cJ);have lU:=fA o0 List.mem_cons_self;unfold XX at h;split at h
  ·rename_i bG;have hw:=Vp hG bG;simp only[ZA];rw[hw];refine⟨fun e=>(by cases e),fun _=>?_⟩;have cf:=hG.put o0.dst (show SR P B pl tb .any undef by simp[SR]);by_cases au:o0.kind=2
   ·rw[if_pos au] at h ⊢;obtain⟨k1,k2⟩:=hD.stay;exact⟨eH hG.leB k1,Ql aA r cj hB cf (by rw[Zg];exact k2) hp (snoc hG.leB fun _ h=>h) (by omega) (by omega) h hK⟩
   ·rw[if_neg au] at h ⊢;exact Ql aA r cj hB cf (by rw[Zg];exact hD) hp b9 eN aV h hK
  have bQ:(Q0d s.env o0).kind=(Q0d s.env o0).op.kind:=by unfold Q0d;split<;>exact lU
  have dF:ZA (Q2 P) (Q0d s.env o0::r) env hs σ pend R→ZA (Q2 P) (o0::r) env hs σ pend R:=fun hv=>by
   unfold Q0d at hv;split at hv
   ·rename_i bG;simp only[ZA] at hv ⊢;rw[Vp hG bG];exact hv
   ·exact hv
  refine dF ?_;clear dF;generalize Q0d s.env o0=o at h bQ ⊢
  replace h:=id h
  simp only[ZA];by_cases au:o.kind=2
  ·rw[if_pos au] at h
   have fin:∀ {u:Value}{σ':Heap}{ts:List Nat}{v:SV}{s':St}{pl':Nat→Value},(∀ R',R' u σ'→vop (Q2 P) o.op env σ R')→XX C r (s'.put o.dst v) (hl+1) (bif ts.isEmpty then chg else hl) (ts.map (fun t=>(hl-1,some t))++A) (bif ts.isEmpty then Rd else Rd.map fun r=>(r.1,none)) K→Gam P B F pl' tb s' env σ'→SR P B pl' tb v u→(ts=[]→σ'=σ∧pl'=pl∧s'=s)→σ.Le σ'→Dead σ σ'→FrL ts s s' pl pl' σ σ' →
     BX (fun R=>vop (Q2 P) o.op env σ R) fun v σ'=>Xm hs.length σ' pend∧ZA (Q2 P) r (Xv env o.dst v) (hs++[σ']) σ' pend R:=fun {u σ' ts v s' pl'} bK oa br iD he hle hd cu=>by
    cases ts with
    |nil =>obtain⟨rfl,rfl,rfl⟩:=he rfl;obtain⟨k1,k2⟩:=hD.stay;exact⟨u,σ',bK _ ⟨rfl,rfl⟩,eH br.leB k1,Ql aA r cj (GJ hB hd) (br.put o.dst iD) (by rw[Zg];exact k2) hp (snoc br.leB fun _ h=>h) (by simp only[List.isEmpty,_root_.cond_true] at *;omega) (by omega) oa hK⟩
    |cons t ts =>obtain⟨k1,k2⟩:=hD.call hle cu aV;exact⟨u,σ',bK _ ⟨rfl,rfl⟩,eH br.leB k1,Ql aA r cj (GJ hB hd) (br.put o.dst iD) (by rw[Zg];exact k2) hp (snoc br.leB fun _ h=>PY h) (by simp only[List.isEmpty,_root_.cond_false] at *;omega) (by omega) oa hK⟩
   split at h
   ·rename_i f args bK;split at h
    ·rename_i hg;rw[hg];refine⟨fun _=>?_,fun e=>by cases e⟩;rw[if_pos au]
     have oc:∀ {K':List Nat→SV→St→Prop},D1 C (C.off+o.dst.getD 0) (.fn f [] []) (SF s.own (args.map (gev [] s.env))) s K'→(∀ ts v s',K' ts v s'→XX C r (s'.put o.dst v) (hl+1) (bif ts.isEmpty then chg else hl) (ts.map (fun t=>(hl-1,some t))++A) (bif ts.isEmpty then Rd else Rd.map fun r=>(r.1,none)) K) →
       BX (fun R=>vop (Q2 P) o.op env σ R) fun v σ'=>Xm hs.length σ' pend∧ZA (Q2 P) r (Xv env o.dst v) (hs++[σ']) σ' pend R:=fun {K'} h qG=>by
      obtain⟨g,a,b,u,σ',e,v,s',pl',h1,h2,h3,h4,h5,h6,h7,h8,h9⟩:=Wm aA hG h (show SR P σ Xu Jc (.fn f [] []) (.func (.func f) #[] #[]) by simp only[SR,SRs];exact⟨[],[],rfl,rfl,rfl⟩) (hG.gcall Gds.nil args);obtain⟨rfl,rfl,rfl⟩:=(by simpa using h1:f=g∧#[]=a∧#[]=b);refine fin (u:=u) (σ':=σ') (fun R' hr=>?_) (qG _ _ _ h3) h4 h5 h6 h7 h8 h9;rw[bK];show VCalled P f (args.map (Q3 env)) σ R';have:=h2.mono (R':=R') fun u' aD ⟨e1,e2⟩=>by subst e1;subst e2;exact hr
      simpa using this
     split at h
     ·rename_i x hx;split at h
      ·rename_i jf u4;split at h
       ·rename_i tt qB;cases gW:(waits o.dst.toList r&&Ox false Rd hl [tt]) with
        |false=>rw[gW] at h;exact h.elim
        |true =>rw[gW] at h;simp only[_root_.cond_true] at h;rw[Bool.and_eq_true] at gW;refine .inr ⟨gW.1,?_⟩;rw[bK];show VCalled P f (args.map (Q3 env)) σ _;refine aA.xf f jf u4 x hx B F pl tb s env σ _ _ _ _ _ tt hG (SRs.map fun x _=>hG.evs Gds.nil x) qB h fun v s' u σ' k1 k2 k3 k4 k5=>?_;obtain⟨q1,q2⟩:=hD.writeD k5 (mk:=false) (fun h=>by cases h) gW.2 aV;exact⟨eH k3.leB q1,Ql aA r cj (GJ hB k2) (k3.put o.dst k4) (by rw[Zg];exact q2) hp (snoc k3.leB fun _ h=>Tx h) (by omega) (by omega) k1 hK⟩
       ·exact h.elim
      ·cases gW:(waits o.dst.toList r&&Rd.all (fun q=>Nat.blt q.1 hl)) with
       |false=>rw[gW] at h;simp only[_root_.cond_false] at h;exact .inl (oc h fun _ _ _ h=>h)
       |true =>
        rw[gW] at h;simp only[_root_.cond_true] at h;rw[Bool.and_eq_true] at gW;refine .inr ⟨gW.1,?_⟩;rw[bK];show VCalled P f (args.map (Q3 env)) σ _;have av:∀ args:List Operand,SRs P B pl tb (args.map (gev [] s.env)) (args.map (Q3 env)):=fun args=>SRs.map fun x _=>hG.evs Gds.nil x;refine aA.xs f x hx B F pl tb s env σ _ _ _ _ _ hG (av args) h fun v s' B' F' pl' tb' u σ' k1 k2 k3 k4=>?_;have hall:∀ c∈pd,c.1<hl:=fun c hc=>by
         rcases hD.pend c hc with h1|⟨q,h1,h2,_⟩
         ·exact h1
         ·have:=List.all_eq_true.1 gW.2 q h1;rw[Nat.blt_eq] at this;omega
        have kp:Xm hs.length σ' pd:=KE fun c hc hle=>by have:=hall c hc;have:=hD.len;omega
        have qH:Xm hs.length σ' pend:=KE fun c hc hn=>(hp c hc).elim (fun h=>h σ' (k2.b.trans k3.leB)) fun h=>Gj kp h hn;refine⟨qH,Ql aA r cj (hB.trans k2) (k3.put o.dst k4) (pd:=pd) ⟨by simp[hD.len],fun j τ hj ht=>?_,fun c hc=>.inl (by have:=hall c hc;omega),fun j τ q i ht hu bM hi=>?_⟩ (fun c hc=>(hp c hc).imp (fun h τ hτ=>h τ (k2.b.trans hτ)) id) (fun j τ ht hn=>?_) (by omega) (by omega) k1 hK⟩
        ·rcases JL ht with⟨h1,_⟩|⟨_,h1⟩
         ·rw[hD.len] at h1;omega
         ·exact h1
        ·rcases JL ht with⟨h1,_⟩|⟨_,h1⟩
         ·exfalso;rw[hD.len] at h1;simp only[Zj,List.all_cons,Bool.and_eq_true,Bool.or_eq_true,Nat.blt_eq,Bool.false_eq_true,or_false] at hu;omega
         ·rw[h1]
        ·rcases JL ht with⟨h1,_⟩|⟨_,h1⟩
         ·exfalso;rw[hD.len] at h1;simp only[Bj,List.all_cons,Bool.and_eq_true,Bool.or_eq_true,Nat.blt_eq,Option.isSome_none,Bool.false_eq_true,or_false] at hn;omega
         ·rw[h1];exact k3.leB
     ·exact .inl (oc h fun _ _ _ h=>h)
    ·rename_i j want hg;rw[hg];split at h
     ·exact h.elim
     ·rename_i gs s1 dC;obtain⟨tb',br,cP,b,hw,bp,bW⟩:=Wg hG dC;have aO:=KN dC;rw[hw];split at h
      ·rename_i cs v dE;cases cD:Ui v with
       |false=>rw[cD] at h;exact h.elim
       |true =>
       rw[cD] at h;simp only[_root_.cond_true] at h;obtain⟨h1,h2⟩:=Zx h;obtain⟨k1,k2⟩:=hD.stay;have lR:∀ x,DSt (hs++[σ]) σ pd (hl+1) chg A Rd (s1.put o.dst x).own pl:=fun x=>by rw[Zg,aO];exact k2
       refine⟨fun e=>?_,fun e=>?_⟩
       ·rw[if_pos au];have gN:Gds tb' gs:=fun g hg=>⟨bp e g hg,cP g hg⟩;have lW:∀ {v u},SR P B pl tb' v u→SR P B pl tb' (.grd gs (Bb v)) u:=fun {v u} hs=>by
         simp only[SR];obtain⟨h1,h2⟩:=PN hs;exact⟨⟨cP,h2⟩,fun _=>h1,fun ⟨g,hg,aC⟩=>absurd (bp e g hg) aC⟩
        simp only[gqc] at dE;split at dE
        ·rename_i c v' heq;cases cn:v'.ret 0 with
         |false=>rw[cn] at dE;cases dE
         |true =>
          rw[cn] at dE;obtain⟨rfl,rfl⟩:=QR dE;obtain⟨g,a,b',h3,h4,_⟩:=J3 aA.cs (show SR P σ Xu Jc (.fn f [] []) (.func (.func f) #[] #[]) by simp only[SR,SRs];exact⟨[],[],rfl,rfl,rfl⟩) (br.gcall gN args) heq cn rfl (h2 (bp e) _ (by simp));obtain⟨rfl,rfl,rfl⟩:=(by simpa using h3:f=g∧#[]=a∧#[]=b');refine .inl ⟨Uh Xu v',σ,?_,eH hG.leB k1,Ql aA r cj hB (br.put o.dst (lW ?_)) (lR _) hp (snoc hG.leB fun _ h=>h) (by omega) (by omega) (Zp h1) hK⟩
          ·rw[bK];show VCalled P f (args.map (Q3 env)) σ _;have:=h4.mono (R':=fun u σ'=>u=Uh Xu v'∧σ'=σ) fun u σ' hr=>by
            obtain⟨rfl,hu⟩:=hr.flat cn;exact⟨UK v' u cn cD hu,rfl⟩
           simpa using this
          ·exact SR.retd (fun j hj=>by omega) _ _ cn (CR (P:=P) (pl:=Xu) (m:=0) (fun j hj=>by omega) v' cn cD)
        ·cases dE
       ·rw[if_pos au];obtain⟨g,dJ,aC⟩:=bW e;exact⟨eH hG.leB k1,Ql aA r cj hB (br.put o.dst (by simp only[SR];exact⟨⟨cP,PU v⟩,fun hall=>absurd (hall g dJ) aC,fun _=>trivial⟩)) (lR _) hp (snoc hG.leB fun _ h=>h) (by omega) (by omega) (Zp h1) hK⟩
      ·split at h
       ·rename_i cs v kO;obtain⟨c,ty,k,xs,nl,heq,rfl,rfl,hk,cS⟩:=Lo kO;obtain⟨h1,h2⟩:=Zx h;have frz:∀ {B' σ':Heap},B'.Le σ'→∀ j τ',(hs++[σ'])[j]?=some τ'→Bj ((hl-1,none)::A) j=true→B'.Le τ':=fun {B' σ'} hb j τ' hm hn=>by
         rcases JL hm with⟨h1,_⟩|⟨_,rfl⟩
         ·simp only[Bj,List.all_cons,Bool.and_eq_true,Bool.or_eq_true,Nat.blt_eq,Option.isSome_none,Bool.false_eq_true,or_false] at hn;have:=hD.len;omega
         ·exact hb
        refine⟨fun e=>?_,fun e=>?_⟩
        ·rw[if_pos au];have gN:Gds tb' gs:=fun g hg=>⟨bp e g hg,cP g hg⟩;have eL:=h2 (bp e) c (by simp);have iv:=h2 (bp e) (nl=true→xs=[]) (by simp);have dC:D1 C (C.off+o.dst.getD 0) (.fn f [] []) (SF s1.own (args.map (gev gs s1.env))) s1 (fun ts v' s'=>ts=[C.off+o.dst.getD 0]∧v'=.lst (C.off+o.dst.getD 0)∧s'=s1.make (C.off+o.dst.getD 0) (.lst ty k xs nl)):=by
          unfold D1;rw[heq];dsimp only;have ao:(SV.ret [OB.lst ty k xs nl].length (.lst 0)&&([OB.lst ty k xs nl].all OB.ret&&(Nat.blt 0 C.nt&&([OB.lst ty k xs nl].all OB.isL&&Ui (.lst 0)))))=true:=by simp only[SV.ret,List.length_singleton,List.all_cons,List.all_nil,Bool.and_true,OB.ret,hk,Bool.true_and,OB.isL,Ui];rw[Bool.and_eq_true];exact⟨rfl,by rw[Nat.blt_eq];exact cS⟩
          rw[ao];simp only[_root_.cond_true,Q3i,OB.wf];refine⟨eL,iv,?_,?_,?_⟩
          ·simp[List.range_succ]
          ·simp[SV.ren]
          ·simp[St.makes]
         obtain⟨g,a,b',u,σ',ts,v',s',pl',h3,h4,⟨rfl,rfl,rfl⟩,h5,h6,_,h7,h8,h9⟩:=Wm aA br dC (show SR P σ Xu Jc (.fn f [] []) (.func (.func f) #[] #[]) by simp only[SR,SRs];exact⟨[],[],rfl,rfl,rfl⟩) (br.gcall gN args);obtain⟨rfl,rfl,rfl⟩:=(by simpa using h3:f=g∧#[]=a∧#[]=b');obtain⟨B',F',m1,m2,m3⟩:=CY br.bf hk h5 h6 h8;have cu:FrL [C.off+o.dst.getD 0] s ((s1.make (C.off+o.dst.getD 0) .dead).put o.dst (.grd gs (.val (.list k) xs))) pl pl' σ σ':=fun q hq=>by obtain⟨f1,f2,f3⟩:=h9 q hq;rw[aO] at f3;refine⟨?_,f2,f3⟩;rw[Zg,WU _ _ _ (by simpa using hq),aO]
         obtain⟨k1,k2⟩:=hD.call h7 cu aV;refine .inl ⟨u,σ',?_,eH (m1.b.trans m2.leB) k1,Ql aA r cj (hB.trans m1) (m2.put o.dst ?_) k2.frozen (fun c hc=>(hp c hc).imp (fun h τ hτ=>h τ (m1.b.trans hτ)) id) (frz m2.leB) (by omega) (by omega) h1 hK⟩
         ·rw[bK];show VCalled P f (args.map (Q3 env)) σ _;simpa using h4
         ·simp only[SR];exact⟨⟨cP,trivial⟩,fun _=>m3,fun ⟨g,hg,aC⟩=>absurd (bp e g hg) aC⟩
        ·rw[if_pos au];obtain⟨g,dJ,aC⟩:=bW e;have cu:FrL [C.off+o.dst.getD 0] s ((s1.make (C.off+o.dst.getD 0) .dead).put o.dst (.grd gs (.val (.list k) xs))) pl (Zb pl (C.off+o.dst.getD 0) undef) σ σ:=fun q hq=>by
          have cL:q≠C.off+o.dst.getD 0:=by simpa using hq
          refine⟨?_,by simp[Zb,cL],fun _ _ _=>rfl⟩;rw[Zg,WU _ _ _ cL,aO]
         obtain⟨k1,k2⟩:=hD.call (.refl σ) cu aV;refine⟨eH hG.leB k1,Ql aA r cj hB ((br.make (C.off+o.dst.getD 0) .dead undef br.le (fun _ _ _ _ _=>rfl) trivial (fun i hl _=>by cases hl)).put o.dst ?_) k2.frozen hp (frz hG.leB) (by omega) (by omega) h1 hK⟩;simp only[SR];exact⟨⟨cP,trivial⟩,fun hall=>absurd (hall g dJ) aC,fun _=>trivial⟩
       ·exact h.elim
   ·rename_i f args bK;split at h
    ·rename_i hg;rw[hg];refine⟨fun _=>?_,fun e=>by cases e⟩;rw[if_pos au];refine .inl ?_;obtain⟨g,a,b,u,σ',e,v,s',pl',h1,h2,h3,h4,h5,h6,h7,h8,h9⟩:=Wm aA hG h (hG.gfun Gds.nil f) (hG.gcall Gds.nil args);refine fin (u:=u) (σ':=σ') (fun R' hr=>?_) h3 h4 h5 h6 h7 h8 h9;rw[bK];exact G2 h1 (h2.mono (R':=R') fun u' aD ⟨e1,e2⟩=>by subst e1;subst e2;exact hr)
    ·exact h.elim
   ·exact h.elim
   ·exact h.elim
   ·rename_i qE na qF fy;split at h
    ·rename_i hg;rw[hg];refine⟨fun _=>?_,fun e=>by cases e⟩;rw[if_pos au];have aB:Ik o.op=false:=by
      cases ho:o.op<;>first|rfl|(exact absurd ho (qE _ _))|(exact absurd ho (na _ _))|skip
      case ext x=>cases x<;>first|rfl|(exact absurd ho (qF _))|(exact absurd ho (fy _))
     cases kN:F3 C (o.dst.getD 0) o.op (gev [] s.env) with
     |true =>
      rw[kN] at h;simp only[_root_.cond_true] at h;cases hm:Ox (Tl o.op) Rd hl (WM (C.off+o.dst.getD 0) o.op (gev [] s.env)) with
      |false=>rw[hm] at h;exact h.elim
      |true =>
       rw[hm] at h;simp only[_root_.cond_true] at h;obtain⟨u,σ',pl',v,s',h1,h2,⟨h3,kL⟩,h4⟩:=Te (fun x=>hG.evs (Gds.nil (tb:=tb)) x) hG h;have gm:∀ R',R' u σ'→vop (Q2 P) o.op env σ R':=fun R' hr=>by
        have:vop (Q2 P) o.op env σ R'=QJ (Q4 o.op (Q3 env) σ) fun p=>R' p.1 p.2:=by
         cases ho:o.op with
         |callF f a=>rw[ho] at aB;cases aB
         |callV f a=>rw[ho] at aB;cases aB
         |ext x =>
          cases x with
          |nextMap y=>rw[ho] at h1;cases h1
          |_=>rfl
         |_=>rfl
        rw[this,h1];exact hr
       obtain⟨k1,k2⟩:=hD.writeD kL (fun cq=>Ae cq h1) hm aV;exact .inl ⟨u,σ',gm _ ⟨rfl,rfl⟩,eH h3.leB k1,Ql aA r cj (GJ hB (KY h1)) (h3.put o.dst h4) (by rw[Zg];exact k2) hp (snoc h3.leB fun _ h=>PY h) (by omega) (by omega) h2 hK⟩
     |false =>
     rw[kN] at h;simp only[_root_.cond_false] at h;cases hm:((Tl o.op&&AU Rd hl (Qr (C.off+o.dst.getD 0) o.op (gev [] s.env)))||Li Rd hl (Qr (C.off+o.dst.getD 0) o.op (gev [] s.env))||(Lv o.op&&Q92 Rd hl (Qr (C.off+o.dst.getD 0) o.op (gev [] s.env)))) with
     |false=>rw[hm] at h;exact h.elim
     |true =>
      rw[hm] at h;simp only[_root_.cond_true] at h;obtain⟨u,σ',pl',v,s',h1,h2,⟨h3,kL⟩,h4,hE⟩:=Q3k hG h aB;have gm:∀ R',R' u σ'→vop (Q2 P) o.op env σ R':=fun R' hr=>by
       have:vop (Q2 P) o.op env σ R'=QJ (Q4 o.op (Q3 env) σ) fun p=>R' p.1 p.2:=by
        cases ho:o.op with
        |callF f a=>rw[ho] at aB;cases aB
        |callV f a=>rw[ho] at aB;cases aB
        |ext x =>
         cases x with
         |nextMap y=>rw[ho] at h1;cases h1
         |_=>rfl
        |_=>rfl
       rw[this,h1];exact hr
      obtain⟨k1,k2⟩:=hD.write kL (fun cq=>Ae cq h1) hE hm aV;exact .inl ⟨u,σ',gm _ ⟨rfl,rfl⟩,eH h3.leB k1,Ql aA r cj (GJ hB (KY h1)) (h3.put o.dst h4) (by rw[Zg];exact k2) hp (snoc h3.leB fun _ h=>Tx h) (by omega) (by omega) h2 hK⟩
    ·exact h.elim
  ·rw[if_neg au] at h;have lX:o.op.kind≠2:=by rw[←bQ];exact au
   by_cases a9:o.kind=1
   ·rw[if_pos a9] at h
    have rd:∀ (rq:Option Nat),(∀ q,rq=some q→MP o.op (gev [] s.env) s.own=some q)→(Nat.ble chg o.kmin||S3 A o.kmin rq)=true→gd1 C o s (fun s'=>XX C r s' hl chg A ((o.kmax,rq)::Rd) K) →
      QJ (Je env o.guard) fun b=>vif b (if o.kind=2 then (BX (fun R=>vop (Q2 P) o.op env σ R) fun v σ'=>Xm hs.length σ' pend∧ZA (Q2 P) r (Xv env o.dst v) (hs++[σ']) σ' pend R)∨(waits o.dst.toList r=true∧vop (Q2 P) o.op env σ fun v σ'=>Xm hs.length σ' pend∧ZA (Q2 P) r (Xv env o.dst v) (hs++[σ']) σ' pend R)
       else if o.kind=1 then QJ (Q4 o.op (Q3 env) σ) fun p=>(∀ τ∈hs.drop o.kmin,Xq o.op (Q3 env) p.1 τ) ∧
        ZA (Q2 P) r (Xv env o.dst p.1) hs σ (if hs.length≤o.kmax then (o.kmax,Xq o.op (Q3 env) p.1)::pend else pend) R
       else QJ (Q4 o.op (Q3 env) σ) fun p=>ZA (Q2 P) r (Xv env o.dst p.1) hs σ pend R)
      (if o.kind=2 then Xm hs.length σ pend∧ZA (Q2 P) r (Xv env o.dst undef) (hs++[σ]) σ pend R else ZA (Q2 P) r (Xv env o.dst undef) hs σ pend R):=fun rq ob hc h=>by
     obtain⟨b,hw,h1,h2⟩:=Uq hG h;rw[hw];have lY:DSt hs σ pd hl chg A ((o.kmax,rq)::Rd) s.own pl:=⟨hD.len,hD.same,fun c hc=>(hD.pend c hc).imp id fun ⟨r,k1,k2⟩=>⟨r,List.mem_cons_of_mem _ k1,k2⟩,hD.fr⟩;refine⟨fun e=>?_,fun e=>?_⟩
     ·obtain⟨u,s',tb',h3,h4,aO,h5⟩:=h1 e;rw[if_neg au,if_pos a9,h3];refine⟨fun τ hτ=>?_,?_⟩
      ·obtain⟨j,hj⟩:=List.mem_iff_getElem?.1 hτ;rw[List.getElem?_drop] at hj;rw[Bool.or_eq_true] at hc;rcases hc with hc|hc
       ·have:=hD.same (o.kmin+j) τ (by have:=Nat.le_of_ble_eq_true hc;omega) hj;subst this;exact ZW h3
       ·unfold S3 at hc;split at hc
        ·rename_i q;obtain⟨k1,i,bl,k2,k3,k4,k5⟩:=Kp hG (ob q rfl) h3;have hu:Zj A (o.kmin+j) (q / 2)=true:=by
          simp only[Zj,List.all_eq_true,Bool.or_eq_true,Nat.blt_eq] at hc ⊢;exact fun a ha=>(hc a ha).imp (fun h=>by omega) id
         have:=hD.fr (o.kmin+j) τ (q / 2) i hj hu k1 k2;exact ZW (k4 τ (by rw[this];exact k3))
        ·cases hc
      ·by_cases hle:hs.length≤o.kmax
       ·rw[if_pos hle];refine Ql aA r cj hB h5 (A:=A) (Rd:=(o.kmax,rq)::Rd) (hl:=hl) (chg:=chg) (pd:=(o.kmax,Xq o.op (Q3 env) u)::pd) ?_ (fun c hc=>?_) b9 eN aV h4 hK
        ·rw[aO];refine⟨hD.len,hD.same,fun c hc=>?_,hD.fr⟩;rcases List.mem_cons.1 hc with rfl|hc
         ·refine .inr ⟨_,List.mem_cons_self,Nat.le_refl _,?_⟩;cases rq with
          |none=>exact fun τ hτ=>ZW (Rs lX h3 hτ)
          |some q =>obtain⟨k1,i,bl,k2,k3,k4,k5⟩:=Kp hG (ob q rfl) h3;exact⟨k1,i,bl,k2,k3,fun τ ht=>ZW (k4 τ ht),fun ho=>(let ⟨es,c,wr,x1,x2⟩:=k5 ho;⟨es,c,wr,x1,fun τ bU c' hl ht=>ZW (x2 τ bU c' hl ht)⟩)⟩
         ·exact lY.pend c hc
        ·rcases List.mem_cons.1 hc with rfl|hc
         ·exact .inr List.mem_cons_self
         ·exact(hp c hc).imp id fun h=>List.mem_cons_of_mem _ h
       ·rw[if_neg hle];exact Ql aA r cj hB h5 (A:=A) (Rd:=(o.kmax,rq)::Rd) (hl:=hl) (chg:=chg) (pd:=pd) (by rw[aO];exact lY) hp b9 eN aV h4 hK
     ·obtain⟨s',tb',h4,aO,h5⟩:=h2 e;rw[if_neg au];exact Ql aA r cj hB h5 (by rw[aO];exact lY) hp b9 eN aV h4 hK
    have ro:Bj A o.kmin=true→(∀ u,Q4 o.op (Q3 env) σ=some (u,σ)→(Je env o.guard=some true)→∀ τ,B.Le τ→Q4 o.op (Q3 env) τ=some (u,τ))→gd1 C o s (fun s'=>XX C r s' hl chg A Rd K) →
      QJ (Je env o.guard) fun b=>vif b (if o.kind=2 then (BX (fun R=>vop (Q2 P) o.op env σ R) fun v σ'=>Xm hs.length σ' pend∧ZA (Q2 P) r (Xv env o.dst v) (hs++[σ']) σ' pend R)∨(waits o.dst.toList r=true∧vop (Q2 P) o.op env σ fun v σ'=>Xm hs.length σ' pend∧ZA (Q2 P) r (Xv env o.dst v) (hs++[σ']) σ' pend R)
       else if o.kind=1 then QJ (Q4 o.op (Q3 env) σ) fun p=>(∀ τ∈hs.drop o.kmin,Xq o.op (Q3 env) p.1 τ) ∧
        ZA (Q2 P) r (Xv env o.dst p.1) hs σ (if hs.length≤o.kmax then (o.kmax,Xq o.op (Q3 env) p.1)::pend else pend) R
       else QJ (Q4 o.op (Q3 env) σ) fun p=>ZA (Q2 P) r (Xv env o.dst p.1) hs σ pend R)
      (if o.kind=2 then Xm hs.length σ pend∧ZA (Q2 P) r (Xv env o.dst undef) (hs++[σ]) σ pend R else ZA (Q2 P) r (Xv env o.dst undef) hs σ pend R):=fun jU bT h=>by
     obtain⟨b,hw,h1,h2⟩:=Uq hG h;rw[hw];refine⟨fun e=>?_,fun e=>?_⟩
     ·obtain⟨u,s',tb',h3,h4,aO,h5⟩:=h1 e;have bT:=bT u h3 (by rw[hw,e]);rw[if_neg au,if_pos a9,h3];refine⟨fun τ hτ=>?_,?_⟩
      ·obtain⟨j,hj⟩:=List.mem_iff_getElem?.1 hτ;rw[List.getElem?_drop] at hj;refine ZW (bT τ (b9 _ τ hj ?_));simp only[Bj,List.all_eq_true,Bool.or_eq_true,Nat.blt_eq] at jU ⊢;exact fun a ha=>(jU a ha).imp (fun h=>by omega) id
      refine Ql aA r cj hB h5 (A:=A) (Rd:=Rd) (hl:=hl) (chg:=chg) (pd:=pd) (by rw[aO];exact hD) (fun c hc=>?_) b9 eN aV h4 hK;split at hc
      ·rcases List.mem_cons.1 hc with rfl|hc
       ·exact .inl fun τ hτ=>ZW (bT τ hτ)
       ·exact hp c hc
      ·exact hp c hc
     ·obtain⟨s',tb',h4,aO,h5⟩:=h2 e;rw[if_neg au];exact Ql aA r cj hB h5 (by rw[aO];exact hD) hp b9 eN aV h4 hK
    split at h
    ·rename_i hg;cases hr:(Q8x o.op (gev [] s.env)&&Bj A o.kmin) with
     |true =>rw[hr] at h;rw[Bool.and_eq_true] at hr;exact ro hr.2 (fun u hu _=>Gl hG Gds.nil hr.1 hu) h
     |false =>
     rw[hr] at h;simp only[_root_.cond_false] at h;cases hb:(Nat.ble chg o.kmin||S3 A o.kmin (MP o.op (gev [] s.env) s.own)) with
     |false=>rw[hb] at h;exact h.elim
     |true =>rw[hb] at h;exact rd _ (fun q hq=>hq) hb h
    ·rename_i j want hg;cases hr:(Q2l s j want o.op&&Bj A o.kmin) with
     |true =>
      rw[hr] at h;rw[Bool.and_eq_true] at hr;obtain⟨hr,jU⟩:=hr;refine ro jU (fun u hu hw=>?_) h;unfold Q2l at hr;split at hr
      ·rename_i gs s1 dC;obtain⟨tb',br,cP,b,cX,bp,bW⟩:=Wg hG dC;rw[hg,cX] at hw;have e:=osj hw;exact Gl br (fun g hg=>⟨bp e g hg,cP g hg⟩) hr hu
      ·cases hr
     |false =>
     rw[hr] at h;simp only[_root_.cond_false] at h;cases hb:Nat.ble chg o.kmin with
     |false=>rw[hb] at h;exact h.elim
     |true =>rw[hb] at h;exact rd none (fun q hq=>by cases hq) (by rw[hb];rfl) h
   ·rw[if_neg a9] at h;obtain⟨b,hw,h1,h2⟩:=Uq hG h;rw[hw];refine⟨fun e=>?_,fun e=>?_⟩
    ·obtain⟨u,s',tb',h3,h4,aO,h5⟩:=h1 e;rw[if_neg au,if_neg a9,h3];exact Ql aA r cj hB h5 (by rw[aO];exact hD) hp b9 eN aV h4 hK
    ·obtain⟨s',tb',h4,aO,h5⟩:=h2 e;rw[if_neg au];exact Ql aA r cj hB h5 (by rw[aO];exact hD) hp b9 eN aV h4 hK
def V_ (pl:Nat→Value) (mp:List (Nat×Option Nat)):Nat→Value:=fun t=>match Qf mp t with
 |some (some a)=>pl a
 |_=>.slice none 0 0
theorem AB {h:Heap}{k k':Kind}{x:k.T}{y:k'.T}(e:GY x y) {cs:List Value}(hk:KC h k' y cs):KC h k x cs:=by
 unfold GY at e;split at e
 ·rename_i z hz;obtain rfl:=LR hz;obtain rfl:=Ll hz;subst e;exact hk
 ·exact e.elim
mutual
theorem Yw {B:Heap}{pl:Nat→Value}{tb:Nat→Option Bool}{mp:List (Nat×Option Nat)}:∀ (p a:SV) (v:Value),PJ mp p a→SR P B pl tb a v→SR P B (V_ pl mp) Jc p v
 |.any,a,v,_,_=>trivial
 |.val k x,a,v,h,hs=>by
  simp only[PJ] at h;split at h
  ·simp only[SR] at hs ⊢;exact AB h hs
  ·simp only[SR] at hs ⊢;exact AB h (by simp[KC,hs.1])
  ·split at h
   ·subst h;simp only[SR] at hs ⊢;subst hs;exact⟨_,rfl,.inl ⟨rfl,rfl⟩⟩
   ·exact h.elim
  ·exact h.elim
 |.lst t,a,v,h,hs=>by
  simp only[PJ] at h;split at h
  ·split at h
   ·rename_i e;simp only[SR,V_,e] at hs ⊢;exact hs
   ·exact h.elim
  ·split at h
   ·rename_i e;simp only[SR,V_,e] at hs ⊢;exact⟨hs,_,_,_,hs⟩
   ·exact h.elim
  ·exact h.elim
 |.box t off,a,v,h,hs=>by
  simp only[PJ] at h;split at h
  ·split at h
   ·rename_i e;obtain⟨e,rfl⟩:=e;simp only[SR,V_,e] at hs ⊢;exact hs
   ·exact h.elim
  ·exact h.elim
 |.map t,a,v,h,hs=>by
  simp only[PJ] at h;split at h
  ·split at h
   ·rename_i e;simp only[SR,V_,e] at hs ⊢;exact hs
   ·exact h.elim
  ·exact h.elim
 |.dd t w,a,v,h,hs=>by
  simp only[PJ] at h;split at h
  ·split at h
   ·simp only[SR] at hs ⊢;simp only[DR];exact .inl ⟨h,hs⟩
   ·split at h
    ·rename_i e;obtain⟨e,rfl⟩:=e;simp only[SR,DR,V_,e] at hs ⊢;obtain⟨b,h1,h2⟩:=hs;exact .inr ⟨h,b,by rw[h1];rfl,h2⟩
    ·exact h.elim
   ·split at h
    ·split at h
     ·rename_i e;subst h;simp only[SR,DR,V_,e] at hs ⊢;exact hs
     ·exact h.elim
    ·exact h.elim
   ·exact h.elim
  ·split at h
   ·split at h
    ·split at h
     ·rename_i e;simp only[SR,V_,e] at hs ⊢;exact hs
     ·exact h.elim
    ·exact h.elim
   ·exact h.elim
  ·split at h
   ·split at h
    ·split at h
     ·rename_i e;simp only[SR,V_,e] at hs ⊢;exact hs
     ·exact h.elim
    ·exact h.elim
   ·split at h
    ·rename_i e;simp only[SR,V_,e] at hs ⊢;exact⟨hs,_,_,_,hs⟩
    ·exact h.elim
   ·exact h.elim
  ·exact h.elim
 |.agg l,a,v,h,hs=>by
  simp only[PJ] at h;split at h
  ·rename_i l';simp only[SR] at hs ⊢;obtain⟨cs,h1,h2⟩:=hs;exact⟨cs,h1,Zh l l' cs h h2⟩
  ·exact h.elim
 |.tup l,a,v,h,hs=>by
  simp only[PJ] at h;split at h
  ·rename_i l';simp only[SR] at hs ⊢;obtain⟨cs,h1,h2⟩:=hs;exact⟨cs,h1,Zh l l' cs h h2⟩
  ·exact h.elim
 |.fn f x y,a,v,h,hs=>by
  simp only[PJ] at h;split at h
  ·split at h
   ·rename_i e;subst e;simp only[SR] at hs ⊢;obtain⟨cs,ds,h1,h2,h3⟩:=hs;exact⟨cs,ds,h1,Zh x _ cs h.1 h2,Zh y _ ds h.2 h3⟩
   ·exact h.elim
  ·exact h.elim
 |.nilS,a,v,h,hs=>by
  simp only[PJ] at h;split at h
  ·simp only[SR] at hs ⊢;exact hs
  ·exact h.elim
 |.nilP,a,v,h,hs=>by
  simp only[PJ] at h;split at h
  ·simp only[SR] at hs ⊢;exact hs
  ·exact h.elim
 |.nilM,a,v,h,hs=>by
  simp only[PJ] at h;split at h
  ·simp only[SR] at hs ⊢;exact hs
  ·exact h.elim
 |.nilF,a,v,h,hs=>by
  simp only[PJ] at h;split at h
  ·simp only[SR] at hs ⊢;exact hs
  ·exact h.elim
 |.cp l off,a,v,h,hs=>by
  simp only[PJ] at h;cases qI:SVs.pure l with
  |true =>rw[qI] at h;simp only[_root_.cond_true] at h;obtain⟨rfl,_⟩:=h;simp only[SR] at hs ⊢;obtain⟨b,c,e,wr,t,h1,h2,h3⟩:=hs;exact⟨b,c,e,wr,t,h1,h2,QT l c qI h3⟩
  |false =>
   rw[qI] at h;simp only[_root_.cond_false] at h;split at h
   ·split at h
    ·rename_i l' dB he;subst he;simp only[SR] at hs ⊢;obtain⟨b,c,e,wr,t,h1,h2,h3⟩:=hs;exact⟨b,c,e,wr,t,h1,h2,Zh l l' c h h3⟩
    ·exact h.elim
   ·exact h.elim
 |.pf ks r cE p,a,v,h,hs=>by simp only[PJ] at h;subst h;simp only[SR] at hs ⊢;exact hs
 |.sub t lo n sz,a,v,h,hs=>by
  simp only[PJ] at h;split at h
  ·split at h
   ·rename_i e;obtain⟨rfl,rfl,rfl⟩:=h;simp only[SR,V_,e] at hs ⊢;exact hs
   ·exact h.elim
  ·exact h.elim
 |.elp _ _ _ _,_,_,h,_|.grd _ _,_,_,h,_|.bid _ _,_,_,h,_|.rop _ _ _ _,_,_,h,_=>by simp only[PJ] at h
theorem Zh {B:Heap}{pl:Nat→Value}{tb:Nat→Option Bool}{mp:List (Nat×Option Nat)}:∀ (p a:List SV) (v:List Value),Mc mp p a→SRs P B pl tb a v→SRs P B (V_ pl mp) Jc p v
 |[],a,v,h,hs=>by simp only[Mc] at h;subst h;exact hs
 |s::ss,[],v,h,hs=>by simp only[Mc] at h
 |s::ss,a::bP,v,h,hs=>by simp only[Mc] at h;simp only[SRs] at hs ⊢;obtain⟨x,y,h1,h2,h3⟩:=hs;exact⟨x,y,h1,Yw s a x h.1 h2,Zh ss bP y h.2 h3⟩
theorem Ld {B:Heap}{pl pl':Nat→Value}{tb tb':Nat→Option Bool}:∀ (s:SV) (v:Value),s.pure=true→SR P B pl tb s v→SR P B pl' tb' s v
 |.any,v,_,_=>trivial
 |.val k x,v,_,h=>by simp only[SR] at h ⊢;exact h
 |.nilS,v,_,h|.nilP,v,_,h|.nilM,v,_,h|.nilF,v,_,h=>by simp only[SR] at h ⊢;exact h
 |.rop k l i off,v,_,h=>by simp only[SR] at h ⊢;exact h
 |.pf ks r cE p,v,_,h=>by simp only[SR] at h ⊢;exact h
 |.agg l,v,hp,h=>by simp only[SR] at h ⊢;obtain⟨cs,h1,h2⟩:=h;exact⟨cs,h1,QT l cs hp h2⟩
 |.tup l,v,hp,h=>by simp only[SR] at h ⊢;obtain⟨cs,h1,h2⟩:=h;exact⟨cs,h1,QT l cs hp h2⟩
 |.cp l off,v,hp,h=>by simp only[SR] at h ⊢;obtain⟨b,c,e,wr,t,h1,h2,h3⟩:=h;exact⟨b,c,e,wr,t,h1,h2,QT l c hp h3⟩
 |.fn f a b,v,hp,h=>by simp only[SV.pure,Bool.and_eq_true] at hp;simp only[SR] at h ⊢;obtain⟨x,y,h1,h2,h3⟩:=h;exact⟨x,y,h1,QT a x hp.1 h2,QT b y hp.2 h3⟩
 |.lst _,_,h,_|.sub _ _ _ _,_,h,_|.elp _ _ _ _,_,h,_|.box _ _,_,h,_|.map _,_,h,_|.grd _ _,_,h,_|.bid _ _,_,h,_=>by cases h
theorem QT {B:Heap}{pl pl':Nat→Value}{tb tb':Nat→Option Bool}:∀ (s:List SV) (v:List Value),SVs.pure s=true→SRs P B pl tb s v→SRs P B pl' tb' s v
 |[],v,_,h=>by simp only[SRs] at h ⊢;exact h
 |s::ss,v,hp,h=>by simp only[SVs.pure,Bool.and_eq_true] at hp;simp only[SRs] at h ⊢;obtain⟨x,y,h1,h2,h3⟩:=h;exact⟨x,y,h1,Ld s x hp.1 h2,QT ss y hp.2 h3⟩
end
end
end Go.V
namespace Go.V
open Go
section
variable {P:Program}{B F:Heap}{pl:Nat→Value}{tb:Nat→Option Bool}{s:St}{env:Env}{σ:Heap}
theorem UW {k k':Kind}{xs:List k.T}{ys:List k'.T}(h:GY (k:=.list k) xs (k':=.list k') ys):∃ e:k'=k,e▸ys=xs:=by
 unfold GY at h;split at h
 ·rename_i z hz;have e:=LR hz;obtain rfl:=Kind.list.inj e;obtain rfl:=Ll hz;exact⟨rfl,h⟩
 ·exact h.elim
theorem Qu (hG:Gam P B F pl tb s env σ) {mp:List (Nat×Option Nat)}{t:Nat}{b:OB}(h:Q0l s mp t b) :
  OR P B (V_ pl mp) Jc σ (V_ pl mp t) b∧(b.live=true→∀ i,Oid (V_ pl mp t) i→∃ a,Qf mp t=some (some a)∧(Q7 s.own a).live=true∧Oid (pl a) i):=by
 unfold Q0l at h;split at h
 ·rename_i a ha;have aW:V_ pl mp t=pl a:=by simp[V_,ha]
  rw[aW];have aj:=hG.obj a;split at h
  ·exact⟨trivial,fun h=>by cases h⟩
  ·rename_i ty k xs nl eT k' cw iz ho;split at h
   ·rename_i e;subst e;obtain⟨h1,rfl⟩:=h;obtain⟨rfl,rfl⟩:=UW h1;rw[ho] at aj;exact⟨aj,fun _ i hi=>⟨a,ha,by rw[ho];rfl,hi⟩⟩
   ·exact h.elim
  ·rename_i l u l' u' ho;split at h
   ·rename_i e0;subst e0;rw[ho] at aj;obtain⟨i,c,e,t',h1,h2,h3,h4⟩:=aj;exact⟨⟨i,c,e,t',h1,h2,Zh l l' c h h3,h4⟩,fun _ i hi=>⟨a,ha,by rw[ho];rfl,hi⟩⟩
   ·exact h.elim
  ·rename_i kk vk m jT nO m' ho;split at h
   ·obtain⟨e,h1⟩:=UW h;obtain⟨rfl,rfl⟩:=Kind.pair.inj e;subst h1;rw[ho] at aj;exact⟨aj,fun _ i hi=>⟨a,ha,by rw[ho];rfl,hi⟩⟩
   ·exact h.elim
  ·rename_i l vals l' kH ho;rw[ho] at aj;obtain⟨rfl,h⟩:=h;exact⟨Zh l l' vals h aj,fun h=>by cases h⟩
  ·rename_i l q u l' q' u' ho;rw[ho] at aj;split at h
   ·obtain⟨rfl,h⟩:=h;exact⟨⟨aj.1,Zh l l' q.vals h aj.2.1,aj.2.2⟩,fun _ i hi=>⟨a,ha,by rw[ho];rfl,hi⟩⟩
   ·obtain⟨rfl,h⟩:=h;exact⟨⟨aj.1,Zh l l' q.vals h aj.2.1,aj.2.2⟩,fun h=>by cases h⟩
   ·exact h.elim
  ·rename_i kk vk m dn jT nO m' sE ho;split at h
   ·obtain⟨h,rfl⟩:=h;obtain⟨e,h1⟩:=UW h;obtain⟨rfl,rfl⟩:=Kind.pair.inj e;subst h1;rw[ho] at aj;exact⟨aj,fun _ i hi=>⟨a,ha,by rw[ho];rfl,hi⟩⟩
   ·exact h.elim
  ·rename_i ty q k xs nl h0 eT q' k' cw iz sd ho;split at h
   ·rename_i e;obtain⟨rfl,rfl⟩:=e;split at h
    ·obtain⟨h1,rfl⟩:=h;obtain⟨rfl,rfl⟩:=UW h1;rw[ho] at aj;exact⟨aj,fun _ i hi=>⟨a,ha,by rw[ho];rfl,hi⟩⟩
    ·exact h.elim
   ·exact h.elim
  ·exact h.elim
 ·rename_i ha;have aW:V_ pl mp t=.slice none 0 0:=by simp[V_,ha]
  rw[aW];split at h
  ·exact⟨.inl ⟨h.2,h.1,rfl⟩,fun _ i hi=>by cases hi⟩
  ·split at h
   ·obtain⟨rfl,rfl⟩:=h;refine⟨⟨[],fun i=>⟨fun h=>(by cases h),fun ⟨b,h⟩=>(by cases h)⟩,List.nodup_nil,.inl ⟨rfl,rfl,rfl⟩,fun i=>⟨fun ⟨b,h⟩=>(by cases h),fun h=>(by cases h)⟩,(fun i b h=>by cases h),by simp[phd]⟩,fun _ i hi=>by cases hi⟩
   ·exact h.elim
  ·exact h.elim
 ·exact h.elim
theorem VY {α:Type _}(l:List (Nat×α)) (t:Nat) (x:α) (d:Nat):Qf (l++[(t,x)]) d=match Qf l d with|some y=>some y|none=>if t=d then some x else none:=by
 induction l with
 |nil =>
  simp only[List.nil_append,Qf];by_cases h:t=d
  ·subst h;simp
  ·rw[Q_ h];simp[h]
 |cons p l ih =>obtain⟨k,y⟩:=p;simp only[List.cons_append,Qf,ih];cases Nat.beq k d<;>rfl
theorem AN {α:Type _}{l:List (Nat×α)}{d:Nat}{x:α}(h:Qf l d=some x):∃ p∈l,p.1=d∧p.2=x:=by
 induction l with
 |nil=>cases h
 |cons p l ih =>
  obtain⟨k,y⟩:=p;simp only[Qf] at h;cases hb:Nat.beq k d with
  |true=>rw[hb] at h;obtain rfl:=osj h;exact⟨_,List.mem_cons_self,Nat.eq_of_beq_eq_true hb,rfl⟩
  |false =>rw[hb] at h;obtain⟨p,h1,h2⟩:=ih h;exact⟨p,List.mem_cons_of_mem _ h1,h2⟩
def Inj (mp:List (Nat×Option Nat)):Prop:=∀ t t' a,Qf mp t=some (some a)→Qf mp t'=some (some a)→t=t'
theorem PS:∀ (l:List (Nat×Src)) (mp b8:List (Nat×Option Nat)),Z2m s l mp=some b8→Inj mp→Inj b8
 |[],mp,b8,h,hi=>by obtain rfl:=osj h;exact hi
 |(t,src)::r,mp,b8,h,hi=>by
  simp only[Z2m] at h;split at h
  ·rename_i a _;split at h
   ·cases h
   ·rename_i hc;refine PS r _ _ h ?_;have cu:∀ d,Qf mp d≠some (some a):=fun d hd=>by
     obtain⟨p,h1,h2,h3⟩:=AN hd;apply hc;simp only[Bool.or_eq_true];exact .inl (List.any_eq_true.2 ⟨p,h1,by rw[h3];simp⟩)
    intro t1 t2 a' h1 h2;rw[VY] at h1 h2;split at h1
    ·rename_i y1 e1;split at h2
     ·rename_i y2 e2;obtain rfl:=osj h1;obtain rfl:=osj h2;exact hi t1 t2 a' e1 e2
     ·split at h2
      ·obtain rfl:=osj (osj h2);obtain rfl:=osj h1;exact absurd e1 (cu t1)
      ·cases h2
    ·split at h1
     ·rename_i e1;obtain rfl:=osj (osj h1);split at h2
      ·rename_i y2 e2;obtain rfl:=osj h2;exact absurd e2 (cu t2)
      ·split at h2
       ·rename_i e2;omega
       ·cases h2
     ·cases h1
  ·split at h
   ·cases h
   ·refine PS r _ _ h ?_;intro t1 t2 a' h1 h2;rw[VY] at h1 h2;split at h1
    ·rename_i y1 e1;split at h2
     ·rename_i y2 e2;obtain rfl:=osj h1;obtain rfl:=osj h2;exact hi t1 t2 a' e1 e2
     ·split at h2<;>cases h2
    ·split at h1<;>cases h1
  ·cases h
theorem Cb {mp:List (Nat×Option Nat)}:∀ {ow:List (Nat×Src×OB)},gmatch.obs s mp ow→∀ p∈ow,Q0l s mp p.1 p.2.2
 |[],_,p,hp=>by cases hp
 |(t,src,b)::r,h,p,hp=>by
  simp only[gmatch.obs] at h;rcases List.mem_cons.1 hp with rfl|hp
  ·exact h.1
  ·exact Cb h.2 p hp
theorem UO {f:List (Nat×Src×OB)}:∀ (own:Own) (t:Nat),(∃ p∈f,p.1=t∧Q7 (f.foldl (fun o p=>oset o p.1 p.2.2) own) t=p.2.2)∨Q7 (f.foldl (fun o p=>oset o p.1 p.2.2) own) t=Q7 own t:=by
 induction f with
 |nil=>intro own t;exact .inr rfl
 |cons p f ih =>
  intro own t;simp only[List.foldl_cons];rcases ih (oset own p.1 p.2.2) t with⟨q,h1,h2⟩|h
  ·exact .inl ⟨q,List.mem_cons_of_mem _ h1,h2⟩
  ·rw[h,Q8];by_cases e:t=p.1
   ·rw[if_pos e];exact .inl ⟨p,List.mem_cons_self,e.symm,rfl⟩
   ·rw[if_neg e];exact .inr rfl
theorem Rz (hG:Gam P B F pl tb s env σ) {mp:List (Nat×Option Nat)}:∀ (st:List (Nat×SV)) {e:List SV}{eV:Env},gmatch.slots s mp st→SRs P B (V_ pl mp) Jc e eV→SRs P B (V_ pl mp) Jc (st.foldl (fun e p=>e.set p.1 p.2) e) (XM (st.map (·.1)) (Bm (st.map (·.1)) env) eV)
 |[],e,eV,_,h=>h
 |(j,v)::r,e,eV,hs,h=>by simp only[gmatch.slots] at hs;simp only[List.foldl_cons,List.map_cons,Bm,XM];exact Rz hG r hs.2 (h.set j (Yw v _ _ hs.1 (hG.env.getD j poison)))
theorem Q3s {B:Heap}{pl:Nat→Value}{tb:Nat→Option Bool}:∀ n,SRs P B pl tb (List.replicate n .any) (List.replicate n poison)
 |0=>by simp[SRs]
 |n+1=>by simp only[List.replicate_succ,SRs];exact⟨_,_,rfl,by simp[SR],Q3s n⟩
theorem Hz {B0 F0 D0:Heap}(hR:GRel P B0 F0 D0 s env σ) {st:List (Nat×SV)}{ow:List (Nat×Src×OB)}(h:gmatch s st ow) (len:Nat):GRel P B0 F0 D0 (Ze len st ow) (XM (st.map (·.1)) (Bm (st.map (·.1)) env) (List.replicate len poison)) σ:=by
 obtain⟨B,F,pl,tb,hB,hG⟩:=hR;unfold gmatch at h;split at h
 ·rename_i mp jc;obtain⟨h1,h2⟩:=h;have dV:=PS _ _ _ jc (fun t t' a h=>by cases h);have aJ:=Cb h2;have aj:∀ t,(Q7 (Ze len st ow).own t).live=true→Q0l s mp t (Q7 (Ze len st ow).own t):=fun t hl=>by
   rcases UO (f:=ow) [] t with⟨p,h3,h4,h5⟩|h3
   ·have:=aJ p h3;rw[h4,←h5] at this;exact this
   ·simp only[Ze] at hl;rw[h3] at hl;cases hl
  refine⟨B,F,V_ pl mp,Jc,hB,hG.bf,hG.le,Rz hG st h1 (Q3s len),fun t=>?_,fun t i hl hi=>?_,fun t t' i aC hl bM hi bI=>?_,fun _ _=>rfl⟩
  ·cases hl:(Q7 (Ze len st ow).own t).live with
   |true=>exact(Qu hG (aj t hl)).1
   |false =>
    cases ho:Q7 (Ze len st ow).own t with
    |dead=>trivial
    |stk l vals =>
     rcases UO (f:=ow) [] t with⟨p,h3,h4,h5⟩|h3
     ·have:=aJ p h3;simp only[Ze] at ho;rw[←h5,ho] at this;have h6:=(Qu hG this).1;rw[h4] at h6;exact h6
     ·simp only[Ze] at ho;rw[h3] at ho;cases ho
    |lpf l q u =>
     rcases UO (f:=ow) [] t with⟨p,h3,h4,h5⟩|h3
     ·have:=aJ p h3;simp only[Ze] at ho;rw[←h5,ho] at this;have h6:=(Qu hG this).1;rw[h4] at h6;exact h6
     ·simp only[Ze] at ho;rw[h3] at ho;cases ho
    |_=>rw[ho] at hl;cases hl
  ·obtain⟨a,_,h4,h5⟩:=(Qu hG (aj t hl)).2 hl i hi;exact hG.fresh a i h4 h5
  ·obtain⟨a,e1,h4,h5⟩:=(Qu hG (aj t hl)).2 hl i hi;obtain⟨a',e2,h_,qJ⟩:=(Qu hG (aj t' bM)).2 bM i bI;by_cases e:a=a'
   ·subst e;exact aC (dV t t' a e1 e2)
   ·exact hG.sep a a' i e h4 h_ h5 qJ
 ·exact h.elim
theorem Hw:∀ {dA cG:List SV}{vs:List Value}{B F:Heap}{s s':St},Gam P B F pl tb s env σ→SRs P B pl tb dA vs→Q7p s dA=some (s',cG) →
  ∃ B' F',GBase B F σ B' F' σ∧Gam P B' F' pl tb s' env σ∧SRs P B' Xu Jc cG vs∧s'.env=s.env
 |[],cG,vs,B,F,s,s',hG,hs,h=>by simp only[Q7p,Option.some.injEq,Prod.mk.injEq] at h;obtain⟨rfl,rfl⟩:=h;exact⟨B,F,.of hG.bf (.refl _),hG,hs,rfl⟩
 |v::dA,cG,vs,B,F,s,s',hG,hs,h=>by
  simp only[SRs] at hs;obtain⟨u,us,rfl,h1,h2⟩:=hs
  have od:∀ w:SV,SR P B pl tb w u→(bif w.pure then (match Q7p s dA with|some (s',r)=>some (s',w::r)|none=>none) else none)=some (s',cG) →
    ∃ B' F',GBase B F σ B' F' σ∧Gam P B' F' pl tb s' env σ∧SRs P B' Xu Jc cG (u::us)∧s'.env=s.env:=fun w hw h=>by
   cases hp:w.pure with
   |false=>rw[hp] at h;cases h
   |true =>
    rw[hp] at h;simp only[_root_.cond_true] at h;split at h
    ·rename_i s1 r heq;simp only[Option.some.injEq,Prod.mk.injEq] at h;obtain⟨rfl,rfl⟩:=h;obtain⟨B',F',k1,k2,k3,k4⟩:=Hw hG h2 heq;exact⟨B',F',k1,k2,by simp only[SRs];exact⟨u,us,rfl,SR.mono k1.b (fun _ _ h=>h) _ _ (Ld w u hp hw),k3⟩,k4⟩
    ·cases h
  simp only[Q7p] at h;split at h
  ·rename_i o;split at h
   ·rename_i l _ ho;cases hp:SVs.pure l with
    |false=>rw[hp] at h;cases h
    |true =>
     rw[hp] at h;simp only[_root_.cond_true] at h;split at h
     ·rename_i s1 r heq;simp only[Option.some.injEq,Prod.mk.injEq] at h;obtain⟨rfl,rfl⟩:=h;have aj:=hG.obj o;rw[ho] at aj;obtain⟨i,c,e,t,e1,e2,e3,_⟩:=aj;obtain⟨k1,k2⟩:=hG.freeze (o:=o) (i:=i) (by rw[ho];rfl) (by rw[e1];rfl);obtain⟨B',F',j1,j2,j3,j4⟩:=Hw k2 (SRs.mono k1.b (fun _ _ h=>h) _ _ h2) heq;refine⟨B',F',k1.trans j1,j2,?_,j4⟩;simp only[SRs];refine⟨u,us,rfl,?_,j3⟩;simp only[SR] at h1 ⊢;obtain⟨b,q1,q2⟩:=h1;rw[e1] at q1;obtain rfl:i=b:=by simpa using q1
      refine⟨i,c,e,true,t,j1.b.2 _ _ ?_,q2,SRs.mono (k1.trans j1).b (fun _ _ h=>h) _ _ (QT l c hp e3)⟩;rw[Heap.ins_self];exact e2
     ·cases h
   ·cases h
  ·exact od _ h1 h
theorem Gam.lpUpd (hG:Gam P B F pl tb s env σ) {n:Nat}{b b0:Blk}(hF:F.get n=some b0) (hB:B.get n=none):Gam P B (F.upd n b) pl tb s env (σ.upd n b):=by
 have aC:∀ {d i},(Q7 s.own d).live=true→Oid (pl d) i→i≠n:=fun h1 h2 e=>by have:=hG.fresh _ _ h1 h2;subst e;rw[hF] at this;cases this
 refine⟨⟨hG.bf.1,fun i c hc=>?_⟩,⟨hG.le.1,fun i c hc=>?_⟩,hG.env,fun d=>(hG.obj d).mono (.refl _) (fun _ _ h=>h) fun h1 i h2=>Heap.get_upd_ne _ _ (aC h1 h2),fun d i h1 h2=>?_,hG.sep,hG.free⟩
 ·have:i≠n:=by rintro rfl;rw[hB] at hc;cases hc
  rw[Heap.get_upd_ne _ _ this];exact hG.bf.2 _ _ hc
 ·by_cases e:i=n
  ·subst e;rw[Heap.get_upd_self _ _ (F.lt hF)] at hc;rw[Heap.get_upd_self _ _ (Nat.lt_of_lt_of_le (F.lt hF) hG.le.1)];exact hc
  ·rw[Heap.get_upd_ne _ _ e] at hc ⊢;exact hG.le.2 _ _ hc
 ·rw[Heap.get_upd_ne _ _ (aC h1 h2)];exact hG.fresh _ _ h1 h2
theorem Gam.lpKill (hG:Gam P B F pl tb s env σ) {n:Nat}{b0:Blk}(hF:F.get n=some b0) (hB:B.get n=none):Gam P B (F.kill n) pl tb s env (σ.kill n):=by
 have aC:∀ {d i},(Q7 s.own d).live=true→Oid (pl d) i→i≠n:=fun h1 h2 e=>by have:=hG.fresh _ _ h1 h2;subst e;rw[hF] at this;cases this
 refine⟨⟨hG.bf.1,fun i c hc=>?_⟩,⟨hG.le.1,fun i c hc=>?_⟩,hG.env,fun d=>(hG.obj d).mono (.refl _) (fun _ _ h=>h) fun h1 i h2=>Heap.get_kill_ne _ (aC h1 h2),fun d i h1 h2=>?_,hG.sep,hG.free⟩
 ·have:i≠n:=by rintro rfl;rw[hB] at hc;cases hc
  rw[Heap.get_kill_ne _ this];exact hG.bf.2 _ _ hc
 ·by_cases e:i=n
  ·subst e;rw[Heap.get_kill_self] at hc;cases hc
  ·rw[Heap.get_kill_ne _ e] at hc ⊢;exact hG.le.2 _ _ hc
 ·rw[Heap.get_kill_ne _ (aC h1 h2)];exact hG.fresh _ _ h1 h2
theorem GRel.lpUpd {B1 F1 D0:Heap}(h:GRel P B1 F1 D0 s env σ) {n:Nat}{b b0:Blk}(hF:F1.get n=some b0) (hB:B1.get n=none):GRel P B1 (F1.upd n b) D0 s env (σ.upd n b):=by
 obtain⟨B,F,pl,tb,dG,hG⟩:=h;have oe:=dG.f.2 _ _ hF;have og:=dG.x _ _ hF hB;refine⟨B,F.upd n b,pl,tb,⟨dG.b,⟨dG.f.1,fun i c hc=>?_⟩,fun i c h1 h2=>?_,⟨dG.d.1,fun i h1 h2=>?_⟩⟩,hG.lpUpd oe og⟩
 ·by_cases e:i=n
  ·subst e;rw[Heap.get_upd_self _ _ (F1.lt hF)] at hc;rw[Heap.get_upd_self _ _ (F.lt oe)];exact hc
  ·rw[Heap.get_upd_ne _ _ e] at hc ⊢;exact dG.f.2 _ _ hc
 ·by_cases e:i=n
  ·subst e;exact og
  ·rw[Heap.get_upd_ne _ _ e] at h1;exact dG.x _ _ h1 h2
 ·have hd:=dG.d.2 i h1 h2;have:i≠n:=by rintro rfl;rw[hG.le.2 _ _ oe] at hd;cases hd
  rw[Heap.get_upd_ne _ _ this];exact hd
theorem GRel.lpKill {B1 F1 D0:Heap}(h:GRel P B1 F1 D0 s env σ) {n:Nat}{b0:Blk}(hF:F1.get n=some b0) (hB:B1.get n=none):GRel P B1 (F1.kill n) D0 s env (σ.kill n):=by
 obtain⟨B,F,pl,tb,dG,hG⟩:=h;have oe:=dG.f.2 _ _ hF;have og:=dG.x _ _ hF hB;refine⟨B,F.kill n,pl,tb,⟨dG.b,⟨dG.f.1,fun i c hc=>?_⟩,fun i c h1 h2=>?_,⟨dG.d.1,fun i h1 h2=>?_⟩⟩,hG.lpKill oe og⟩
 ·by_cases e:i=n
  ·subst e;rw[Heap.get_kill_self] at hc;cases hc
  ·rw[Heap.get_kill_ne _ e] at hc ⊢;exact dG.f.2 _ _ hc
 ·by_cases e:i=n
  ·subst e;exact og
  ·rw[Heap.get_kill_ne _ e] at h1;exact dG.x _ _ h1 h2
 ·have hd:=dG.d.2 i h1 h2;by_cases e:i=n
  ·subst e;exact Heap.get_kill_self _ _
  ·rw[Heap.get_kill_ne _ e];exact hd
theorem GRel.base {B0 F0 B1 F1 D0:Heap}(h:GRel P B1 F1 D0 s env σ) (hb:B0.Le B1) (hf:F0.Le F1) (hx:∀ i b,F0.get i=some b→B0.get i=none→B1.get i=none):GRel P B0 F0 D0 s env σ:=by obtain⟨B,F,pl,tb,dG,hG⟩:=h;exact⟨B,F,pl,tb,⟨hb.trans dG.b,hf.trans dG.f,fun i b h1 h2=>dG.x i b (hf.2 _ _ h1) (hx i b h1 h2),dG.d⟩,hG⟩
theorem HF (hG:Gam P B F pl tb s env σ) {mp:List (Nat×Option Nat)}:∀ (st:List (Nat×SV)) {e:List SV},gmatch.slots s mp st→SRs P B (V_ pl mp) Jc e env→SRs P B (V_ pl mp) Jc (st.foldl (fun e p=>e.set p.1 p.2) e) env
 |[],e,_,h=>h
 |(j,v)::r,e,hs,h=>by
  simp only[gmatch.slots] at hs;simp only[List.foldl_cons];refine HF hG r hs.2 ?_;have:=h.set j (Yw v _ _ hs.1 (hG.env.getD j poison));by_cases hj:j<env.length
  ·rwa [List.getD_eq_getElem?_getD,List.getElem?_eq_getElem hj,Option.getD_some,List.set_getElem_self] at this
  ·rw[List.set_eq_of_length_le (by rw[h.length];omega)];exact h
theorem IQ {B:Heap}{pl:Nat→Value}{tb:Nat→Option Bool}:∀ (env:Env),SRs P B pl tb (List.replicate (List.length env) .any) env
 |[]=>by simp[SRs]
 |v::env=>by simp only[List.length_cons,List.replicate_succ,SRs];exact⟨_,_,rfl,by simp[SR],IQ env⟩
theorem Nj {B0 F0 D0:Heap}(hR:GRel P B0 F0 D0 s env σ) {st:List (Nat×SV)}{ow:List (Nat×Src×OB)}(h:gmatch s st ow):GRel P B0 F0 D0 (Ze (List.length env) st ow) env σ:=by
 obtain⟨B,F,pl,tb,hB,hG⟩:=hR;unfold gmatch at h;split at h
 ·rename_i mp jc;obtain⟨h1,h2⟩:=h;have dV:=PS _ _ _ jc (fun t t' a h=>by cases h);have aJ:=Cb h2;have aj:∀ t,(Q7 (Ze (List.length env) st ow).own t).live=true→Q0l s mp t (Q7 (Ze (List.length env) st ow).own t):=fun t hl=>by
   rcases UO (f:=ow) [] t with⟨p,h3,h4,h5⟩|h3
   ·have:=aJ p h3;rw[h4,←h5] at this;exact this
   ·simp only[Ze] at hl;rw[h3] at hl;cases hl
  refine⟨B,F,V_ pl mp,Jc,hB,hG.bf,hG.le,HF hG st h1 (IQ env),fun t=>?_,fun t i hl hi=>?_,fun t t' i aC hl bM hi bI=>?_,fun _ _=>rfl⟩
  ·cases hl:(Q7 (Ze (List.length env) st ow).own t).live with
   |true=>exact(Qu hG (aj t hl)).1
   |false =>
    cases ho:Q7 (Ze (List.length env) st ow).own t with
    |dead=>trivial
    |stk l vals =>
     rcases UO (f:=ow) [] t with⟨p,h3,h4,h5⟩|h3
     ·have:=aJ p h3;simp only[Ze] at ho;rw[←h5,ho] at this;have h6:=(Qu hG this).1;rw[h4] at h6;exact h6
     ·simp only[Ze] at ho;rw[h3] at ho;cases ho
    |lpf l q u =>
     rcases UO (f:=ow) [] t with⟨p,h3,h4,h5⟩|h3
     ·have:=aJ p h3;simp only[Ze] at ho;rw[←h5,ho] at this;have h6:=(Qu hG this).1;rw[h4] at h6;exact h6
     ·simp only[Ze] at ho;rw[h3] at ho;cases ho
    |_=>rw[ho] at hl;cases hl
  ·obtain⟨a,_,h4,h5⟩:=(Qu hG (aj t hl)).2 hl i hi;exact hG.fresh a i h4 h5
  ·obtain⟨a,e1,h4,h5⟩:=(Qu hG (aj t hl)).2 hl i hi;obtain⟨a',e2,h_,qJ⟩:=(Qu hG (aj t' bM)).2 bM i bI;by_cases e:a=a'
   ·subst e;exact aC (dV t t' a e1 e2)
   ·exact hG.sep a a' i e h4 h_ h5 qJ
 ·exact h.elim
theorem Cg {α:Type}{o:Option α}{f:α→Prop}(h:QJ o f):∃ a,f a:=by
 cases o with
 |none=>exact h.elim
 |some a=>exact⟨a,h⟩
theorem COk.nx {C:Cx}(h:COk P C):COk P C.nx:=⟨h.cs,fun f x hx=>(by cases hx),h.it,h.yl,h.iy,fun f j _ x hx=>(by cases hx)⟩
theorem Yi {S:VSpecs}{Q:Prop}:∀ {ops:List DOper}{env:Env}{hs:List Heap}{σ:Heap}{pend:List (Nat×(Heap→Prop))},Jn S ops env hs σ pend (fun _ _=>Q)→Q
 |[],_,_,_,_,h=>h
 |o::r,env,hs,σ,pend,h=>by
  simp only[Jn] at h;obtain⟨b,h⟩:=Cg h;cases b with
  |true =>
   have h:=h.1 rfl;split at h
   ·obtain⟨v,σ',_,_,h⟩:=h;exact Yi h
   ·split at h
    ·obtain⟨p,_,h⟩:=Cg h;exact Yi h
    ·obtain⟨p,h⟩:=Cg h;exact Yi h
  |false =>
   have h:=h.2 rfl;split at h
   ·exact Yi h.2
   ·exact Yi h
theorem Th {C:Cx}{s:St}{st:List (Nat×SV)}{ow:List (Nat×Src×OB)}{Q:Prop}:∀ (ls:List (List DOper)),Q7y C ls s st ow Q→(∀ l∈ls,XX C.nx l s 1 0 [] [] fun s'=>Hp s.env.length s' st ow)∧Q
 |[],h=>⟨fun l hl=>(by cases hl),h⟩
 |l::ls,h=>by obtain⟨h1,h2⟩:=h;obtain⟨h3,h4⟩:=Th ls h2;exact⟨fun l' bM=>(List.mem_cons.1 bM).elim (fun e=>e▸h1) (h3 l'),h4⟩
theorem UU {B0 F0 D0:Heap}{s:St}{env:Env}{σ:Heap}{n:Nat}(hR:GRel P B0 F0 D0 s env σ) {st:List (Nat×SV)}{ow:List (Nat×Src×OB)}(h:Hp n s st ow):GRel P B0 F0 D0 (Ze n st ow) env σ:=by
 unfold Hp at h;cases hb:Nat.beq s.env.length n with
 |false=>rw[hb] at h;exact h.elim
 |true =>
  rw[hb] at h;have hl:env.length=n:=by rw[←Nat.eq_of_beq_eq_true hb];obtain⟨_,_,_,_,_,hG⟩:=hR;exact hG.env.length.symm
  rw[←hl];exact Nj hR h
theorem Yo {C:Cx}(aA:COk P C) {B0 F0 D0:Heap}:∀ (aQ:List DSeg) {s:St}{env:Env}{σ:Heap},GRel P B0 F0 D0 s env σ→∀ {K:St→Prop},Aj C aQ s K→∀ {R:Env→Heap→Prop},(∀ s' ae σ',K s'→GRel P B0 F0 D0 s' ae σ'→R ae σ')→GD (Q2 P) aQ env σ R
 |[],s,env,σ,hR,K,h,R,hK=>hK s env σ h hR
 |.one o::r,s,env,σ,hR,K,h,R,hK=>by refine Gt aA [o] hR (K:=fun s'=>Aj C r s' K) h fun s' ae σ' h1 h2=>?_;exact Yo aA r h2 h1 hK
 |.alts [l]::r,s,env,σ,hR,K,h,R,hK=>by
  simp only[Aj] at h;cases hd:Q6l l with
  |false =>
   rw[hd] at h;simp only[_root_.cond_false] at h;cases hk:l.all (fun o=>o.kind==o.op.kind) with
   |false=>rw[hk] at h;exact h.elim
   |true =>
    rw[hk] at h;simp only[_root_.cond_true] at h;intro ops ho;obtain rfl:=List.mem_singleton.1 ho;obtain⟨B,F,pl,tb,hB,hG⟩:=hR;have one:∀ (j:Nat) (τ:Heap),([σ]:List Heap)[j]?=some τ→τ=σ:=fun j τ ht=>by
     cases j with
     |zero=>simpa using ht.symm
     |succ j=>simp at ht
    exact Ql aA ops (fun o ho=>by simpa using List.all_eq_true.1 hk o ho) hB hG (hl:=1) (chg:=0) (A:=[]) (Rd:=[]) ⟨rfl,fun j τ _ ht=>one j τ ht,(fun c hc=>absurd hc (by simp)),fun j τ q i ht _ _ _=>by rw[one j τ ht]⟩ (pend:=[]) (pd:=[]) (fun c hc=>absurd hc (by simp)) (fun j τ ht _=>by rw[one j τ ht];exact hG.leB) (Nat.zero_le _) (Nat.succ_pos _) h fun s' ae σ' h1 h2=>⟨ae,σ',.refl _ _ _,Yo aA r h2 h1 hK⟩
  |true =>rw[hd] at h;refine Q1u (l:=l) hd ?_;exact Gt aA _ hR h fun s' ae σ' h1 h2=>Yo aA r h2 h1 hK
 |.alts []::r,s,env,σ,hR,K,h,R,hK=>h.elim
 |.alts (l::l2::ls)::r,s,env,σ,hR,K,h,R,hK=>by
  simp only[Aj] at h;cases hk:(l::l2::ls).all (fun l=>l.all fun o=>o.kind==o.op.kind) with
  |false=>rw[hk] at h;exact h.elim
  |true =>
   rw[hk] at h;simp only[_root_.cond_true] at h;obtain⟨B,F,pl,tb,hB,hG⟩:=hR;have one:∀ (j:Nat) (τ:Heap),([σ]:List Heap)[j]?=some τ→τ=σ:=fun j τ ht=>by
    cases j with
    |zero=>simpa using ht.symm
    |succ j=>simp at ht
   have run:∀ l'∈l::l2::ls,∀ {K':St→Prop},XX C.nx l' s 1 0 [] [] K'→∀ {R':Env→Heap→Prop},(∀ s' ae σ',K' s'→GRel P B0 F0 D0 s' ae σ'→R' ae σ')→Jn (Q2 P) l' env [σ] σ [] R':=fun l' bM K' h' R' qG =>
    Qj aA.nx rfl l' (fun o ho=>by simpa using List.all_eq_true.1 (List.all_eq_true.1 hk l' bM) o ho) hB hG (hl:=1) (chg:=0) (A:=[]) (Rd:=[]) ⟨rfl,fun j τ _ ht=>one j τ ht,(fun c hc=>absurd hc (by simp)),fun j τ q i ht _ _ _=>by rw[one j τ ht]⟩ (pend:=[]) (pd:=[]) (fun c hc=>absurd hc (by simp)) (fun j τ ht _=>by rw[one j τ ht];exact hG.leB) (Nat.zero_le _) (Nat.succ_pos _) h' qG
   obtain⟨s0,h0,h1⟩:=Yi (run l List.mem_cons_self h (R':=fun _ _=>∃ s0:St,_) fun s' _ _ h' _=>⟨s',h'⟩);obtain⟨h2,h3⟩:=Th _ h1;intro ops ho;rcases List.mem_cons.1 ho with rfl|cJ
   ·refine Yh ?_;exact run ops ho h fun s' ae σ' h' qK=>⟨ae,σ',.refl _ _ _,by
     obtain⟨k1,k2⟩:=h';exact Yo aA r (UU qK k1) (Th _ k2).2 hK⟩
   ·refine Yh ?_;exact run ops ho (h2 ops cJ) fun s' ae σ' h' qK=>⟨ae,σ',.refl _ _ _,Yo aA r (UU qK h') h3 hK⟩
theorem TV:∀ (l:List Nat) (vs:List SV),(Q8w l vs).map (·.1)=l
 |[],_=>rfl
 |j::js,[]=>by simp[Q8w,TV js []]
 |j::js,v::vs=>by simp[Q8w,TV js vs]
theorem MZ {B:Heap}{pl:Nat→Value}{tb:Nat→Option Bool}:∀ {ps:List Nat}{xs:List SV}{us:List Value}{e:List SV}{env:Env},SRs P B pl tb xs us→SRs P B pl tb e env→SRs P B pl tb (Bc e ps xs) (R4 env ps us)
 |[],xs,us,e,env,_,h=>by simpa [Bc,R4] using h
 |p::ps,[],us,e,env,hx,h=>by simp only[SRs] at hx;subst hx;simpa [Bc,R4] using h
 |p::ps,x::xs,us,e,env,hx,h=>by simp only[SRs] at hx;obtain⟨u,mA,rfl,h1,h2⟩:=hx;simp only[Bc,R4];exact MZ h2 (h.set p h1)
def Z61 (F0:Heap):Option Nat→Prop
 |none=>True
 |some i=>∃ env r st pend,F0.get i=some (.obj (.lp env r st pend) true)
theorem Gam.dropLp {B F:Heap}{pl:Nat→Value}{tb:Nat→Option Bool}{s:St}{env:Env}{σ:Heap}(hG:Gam P B F pl tb s env σ) {o:Nat}{l:List SV}{q:LpD}{u:LpS}(ho:Q7 s.own o=.lpf l q u) (hl:u.live=true) :
  Gam P B F pl tb ⟨l,oset s.own o .dead,s.nx⟩ q.vals (σ.kill q.i)∧σ.get q.i=some (.obj (.lp q.vals q.r u.st u.pend) true):=by
 have aj:=hG.obj o;rw[ho] at aj;obtain⟨h1,h2,h3⟩:=aj;have ie:(Q7 s.own o).live=true:=by rw[ho];exact hl
 have jV:Oid (pl o) q.i:=by rw[h1];rfl
 have hF:=hG.fresh o q.i ie jV;have lv:∀ d,(Q7 (oset s.own o .dead) d).live=true→d≠o∧(Q7 s.own d).live=true:=fun d h=>by
  rw[Q8] at h;by_cases e:d=o
  ·rw[if_pos e] at h;cases h
  ·rw[if_neg e] at h;exact⟨e,h⟩
 refine⟨⟨hG.bf,⟨hG.le.1,fun j b hb=>?_⟩,h2,fun d=>?_,fun d i hd hi=>hG.fresh d i (lv d hd).2 hi,fun d d' i e h h'=>hG.sep d d' i e (lv d h).2 (lv d' h').2,hG.free⟩,h3 hl⟩
 ·have e:j≠q.i:=by rintro rfl;rw[hF] at hb;cases hb
  rw[Heap.get_kill_ne _ e];exact hG.le.2 _ _ hb
 ·rw[Q8];by_cases e:d=o
  ·rw[if_pos e];trivial
  ·rw[if_neg e];refine (hG.obj d).mono (.refl _) (fun _ _ h=>h) fun hd i hi=>?_;have:i≠q.i:=by rintro rfl;exact hG.sep d o q.i e hd ie hi jV
   exact Heap.get_kill_ne _ this
theorem Q1e (s:St) (o:Nat) (b:OB) (j:Nat):Q7 (s.make o b).own j=if j=o then b else (Q7 s.own j).kill o:=by
 simp only[St.make,Q8];by_cases h:j=o
 ·subst h;simp
 ·simp only[h,if_false,St.kill,Yl]
theorem Gam.enterLp {B F:Heap}{pl:Nat→Value}{tb:Nat→Option Bool}{s:St}{env:Env}{σ:Heap}(hG:Gam P B F pl tb s env σ) {o aI:Nat}{l:List SV}{q:LpD}(ho:Q7 s.own o=.lpf l q .rdy) (aC:o≠aI)
  {args:List SV}{us:List Value}(av:SRs P B pl tb args us) (ps:List Nat) :
  Gam P B (F.ins σ q.i hG.le.1) (Zb pl aI poison) tb ⟨Bc (SVs.kill aI l) ps (SVs.kill aI args),oset (Fa aI env s).own o (.lpf (SVs.kill aI l) q .busy),s.nx⟩ (R4 q.vals ps us) σ:=by
 have q3:Gam P B F (Zb pl aI poison) tb (Fa aI env s) env σ:=by refine hG.make aI _ poison hG.le (fun _ _ _ _ _=>rfl) ?_ (fun i hl _=>by cases hl);exact SRs.upd (.refl _) (fun _ _ h=>h) (fun j hj=>by simp[Zb,hj]) _ _ hG.env
 have aj:=hG.obj o;rw[ho] at aj;obtain⟨h1,h2,h3⟩:=aj;have ie:(Q7 s.own o).live=true:=by rw[ho];rfl
 have pk:Zb pl aI poison o=.pointer (some ⟨q.i,0,none⟩):=by simp[Zb,aC,h1]
 have u5:Q7 (Fa aI env s).own o=.lpf (SVs.kill aI l) q .rdy:=by have:=Q1e s aI (.stk (SVs.kill aI s.env) env) o;unfold Fa;rw[this,if_neg aC,ho];rfl
 have oh:(Q7 (Fa aI env s).own o).live=true:=by rw[u5];rfl
 have jV:Oid (Zb pl aI poison o) q.i:=by rw[pk];rfl
 have hF:=q3.fresh o q.i oh jV;have cz:SRs P B (Zb pl aI poison) tb (SVs.kill aI l) q.vals:=SRs.upd (.refl _) (fun _ _ h=>h) (fun j hj=>by simp[Zb,hj]) _ _ h2;have qL:SRs P B (Zb pl aI poison) tb (SVs.kill aI args) us:=SRs.upd (.refl _) (fun _ _ h=>h) (fun j hj=>by simp[Zb,hj]) _ _ av;have lv:∀ d,(Q7 (oset (Fa aI env s).own o (.lpf (SVs.kill aI l) q .busy)) d).live=true→d≠o∧(Q7 (Fa aI env s).own d).live=true:=fun d h=>by
  rw[Q8] at h;by_cases e:d=o
  ·rw[if_pos e] at h;cases h
  ·rw[if_neg e] at h;exact⟨e,h⟩
 refine⟨q3.bf.trans (hG.le.ins _),hG.le.ins_le _,MZ qL cz,fun d=>?_,fun d i hd hi=>?_,fun d d' i e h h'=>q3.sep d d' i e (lv d h).2 (lv d' h').2,q3.free⟩
 ·show OR P B _ tb σ _ (Q7 (oset _ o _) d);rw[Q8];by_cases e:d=o
  ·subst e;rw[if_pos rfl];exact⟨pk,cz,fun h=>by cases h⟩
  ·rw[if_neg e];exact q3.obj d
 ·obtain⟨e,sQ⟩:=lv d hd;have:i≠q.i:=by rintro rfl;exact q3.sep d o q.i e sQ oh hi jV
  rw[Heap.ins_ne _ _ _ this];exact q3.fresh d i sQ hi
theorem Gam.leaveLp {B F:Heap}{pl:Nat→Value}{tb:Nat→Option Bool}{s:St}{env:Env}{σ:Heap}(hG:Gam P B F pl tb s env σ) {o aI:Nat}{l l2:List SV}{kI:List Value}{q:LpD}{b0:Blk}(hF:F.get q.i=some b0) (hB:B.get q.i=none)
  (h2:Q7 s.own aI=.stk l2 kI) (ho:Q7 s.own o=.lpf l q .busy) (u:LpS) :
  Gam P B (F.kill q.i) pl tb ⟨l2,oset (oset s.own aI .dead) o (.lpf l q u),s.nx⟩ kI (σ.upd q.i (.obj (.lp q.vals q.r u.st u.pend) true)):=by
 have aj:=hG.obj o;rw[ho] at aj;obtain⟨k1,k2,_⟩:=aj;have hk:=hG.obj aI;rw[h2] at hk;have hi:q.i<σ.n:=σ.lt (hG.le.2 _ _ hF);have aC:∀ {d i},(Q7 s.own d).live=true→Oid (pl d) i→i≠q.i:=fun h1 h2 e=>by have:=hG.fresh _ _ h1 h2;subst e;rw[hF] at this;cases this
 have jV:∀ i,Oid (pl o) i→i=q.i:=fun i h=>by rw[k1] at h;exact(osj h).symm
 have hg:∀ d,Q7 (oset (oset s.own aI .dead) o (.lpf l q u)) d=if d=o then .lpf l q u else if d=aI then .dead else Q7 s.own d:=fun d=>by rw[Q8,Q8]
 have lv:∀ d,d≠o→(Q7 (oset (oset s.own aI .dead) o (.lpf l q u)) d).live=true→(Q7 s.own d).live=true:=fun d e h=>by
  rw[hg,if_neg e] at h;split at h
  ·cases h
  ·exact h
 refine⟨⟨hG.bf.1,fun j b hb=>?_⟩,⟨hG.le.1,fun j b hb=>?_⟩,hk,fun d=>?_,fun d i hd bI=>?_,fun d d' i e h h' h1 ga=>?_,hG.free⟩
 ·have e:j≠q.i:=by rintro rfl;rw[hB] at hb;cases hb
  rw[Heap.get_kill_ne _ e];exact hG.bf.2 _ _ hb
 ·by_cases e:j=q.i
  ·subst e;rw[Heap.get_kill_self] at hb;cases hb
  ·rw[Heap.get_kill_ne _ e] at hb;rw[Heap.get_upd_ne _ _ e];exact hG.le.2 _ _ hb
 ·show OR P B pl tb _ _ (Q7 (oset _ o _) d);rw[hg];by_cases e:d=o
  ·subst e;rw[if_pos rfl];exact⟨k1,k2,fun _=>Heap.get_upd_self _ _ hi⟩
  ·rw[if_neg e];split
   ·trivial
   ·exact(hG.obj d).mono (.refl _) (fun _ _ h=>h) fun hd i hi=>Heap.get_upd_ne _ _ (aC hd hi)
 ·by_cases e:d=o
  ·subst e;rw[jV i bI];exact Heap.get_kill_self _ _
  ·rw[Heap.get_kill_ne _ (aC (lv d e hd) bI)];exact hG.fresh d i (lv d e hd) bI
 ·by_cases e1:d=o
  ·subst e1;have e2:d'≠d:=fun h=>e h.symm;exact aC (lv d' e2 h') ga (jV i h1)
  ·by_cases e2:d'=o
   ·subst e2;exact aC (lv d e1 h) h1 (jV i ga)
   ·exact hG.sep d d' i e (lv d e1 h) (lv d' e2 h') h1 ga
theorem My {C:Cx}(aA:COk P C) {L:List (Nat×LoopAnn)}(vc:VCode):∀ {B0 F0 D0:Heap}(n:Nat) (K:Exit→St→Prop) (s:St) (env:Env) (σ:Heap) (ro:Option Nat) (Q:Exit→Env→Heap→Prop),Z61 F0 ro→GRel P B0 F0 D0 s env σ→gwp C L vc n K s→(∀ e s' ae σ',K e s'→GRel P B0 F0 D0 s' ae σ'→Q e ae σ')→vwp (Q2 P) vc ro Q env σ:=by
 induction vc with
 |skip=>intro B0 F0 D0 n K s env σ ro Q bT hR h hK;exact hK _ _ _ _ h hR
 |region ops=>intro B0 F0 D0 n K s env σ ro Q bT hR h hK;exact Gt aA ops hR h fun s' ae σ' h1 h2=>hK _ _ _ _ h1 h2
 |regionD aQ=>intro B0 F0 D0 n K s env σ ro Q bT hR h hK;exact Yo aA aQ hR h fun s' ae σ' h1 h2=>hK _ _ _ _ h1 h2
 |rangeF g ps a b eR eo =>
  intro B0 F0 D0 n K s env σ ro Q bT hR h hK;simp only[gwp] at h;split at h
  ·rename_i f first dA hg
   split at h
   ·
    rename_i x hx;obtain⟨B,F,pl,tb,hB,hG⟩:=hR;have gV:=hG.evs (Gds.nil (tb:=tb)) g;rw[hg] at gV;simp only[SR] at gV;obtain⟨x',y',bh,d_,oi⟩:=gV;obtain⟨iL,gL⟩:=aA.iy f x hx;show vwp (Q2 P) (.rangeF g ps a b) ro Q env σ;simp only[vwp,Av,bh];have lZ:(Q2 P).it f=some fun i Y args σ K=>Vl P i Y→VCallsTo P f args σ K:=by simp only[Q2];rw[if_pos iL]
    rw[lZ];refine⟨?_,fun r hY=>?_⟩
    ·cases ro with
     |none=>trivial
     |some i =>obtain⟨e1,r1,st1,qM,hi⟩:=bT;exact⟨e1,r1,st1,qM,hG.le.2 _ _ (hB.f.2 _ _ hi)⟩
    generalize ml:C.off+2000000+n=o at h;generalize fF:100000*(o+1)-1=aI at h;have ak:o≠aI:=by omega
    let q:LpD:=⟨σ.n,env,r⟩;let rdy:Blk:=.obj (.lp env r .ready none) true;let fc:Blk:=.obj (.lp env r .busy none) true;let p0:Value:=.pointer (some ⟨σ.n,0,none⟩);have jb:Gam P B F (Zb pl o p0) tb (Z75 o q s) env (σ.push rdy):=by refine hG.push o (.lpf (SVs.kill o s.env) q .rdy) p0 rdy rfl ⟨rfl,SRs.upd (.refl _) (fun _ _ h=>h) (fun j hj=>by simp[Zb,hj]) _ _ hG.env,fun _=>Heap.get_push_self _ _⟩
    have kl:∀ {xs us},SRs P B pl tb xs us→SRs P B (Zb pl o p0) tb (SVs.kill o xs) us:=fun h=>SRs.upd (.refl _) (fun _ _ h=>h) (fun j hj=>by simp[Zb,hj]) _ _ h;have av:SRs P B (Zb pl o p0) tb (SVs.kill o first++(.dd o .yv::SVs.kill o dA)) (x'++(.func (.yield σ.n) #[] #[]::y')):=by refine (kl d_).append ?_;simp only[SRs,SR,DR];exact⟨_,_,rfl,⟨σ.n,by simp[Zb,p0],rfl⟩,kl oi⟩
    have u6:Q5s P o (Q3n o aI ps.length q (fun K' s'=>gwp C L a n (Q4q (fun s3=>gwp C L b n K' s3) fun _ _=>False) s') ps):=by
     intro B F pl tb s ae σ args us K R i hG ha hy pk hK;unfold Q3n at hy;split at hy
     ·rename_i l q' u ho;split at hy
      ·cases hlen:Nat.beq args.length ps.length with
       |false=>rw[hlen] at hy;exact hy.elim
       |true =>
       rw[hlen] at hy;simp only[_root_.cond_true] at hy;obtain⟨rfl,hy⟩:=hy;have aj:=hG.obj o;rw[ho] at aj;have hi:i=q.i:=by have h1:=aj.1;rw[pk] at h1;have:=osj (Value.pointer.inj h1);exact(Addr.mk.inj this).1
       subst hi;have l4:σ.get q.i=some rdy:=aj.2.2 rfl;have ie:(Q7 s.own o).live=true:=by rw[ho];rfl
       have mD:F.get q.i=none:=hG.fresh o q.i ie (by rw[aj.1];rfl);have sR:B.get q.i=none:=by
        cases hb:B.get q.i with
        |none=>rfl
        |some b=>rw[hG.bf.2 _ _ hb] at mD;cases mD
       have kP:=hG.enterLp ho ak ha ps;have jd:(F.ins σ q.i hG.le.1).get q.i=some rdy:=by rw[Heap.ins_self];exact l4
       have fB:(F.ins σ q.i hG.le.1).n=σ.n:=rfl;have aM:q.i<σ.n:=σ.lt l4;refine hY us σ R ⟨l4,by rw[←ha.length];exact(Nat.eq_of_beq_eq_true hlen),?_⟩;refine eR (B0:=B) (F0:=F.ins σ q.i hG.le.1) (D0:=σ) n _ _ _ σ (some q.i) _ ⟨env,r,_,_,jd⟩ ⟨B,_,_,tb,.of kP.bf (Dead.refl _),kP⟩ (hy ae) fun e s3 qN σ3 h7 h8=>?_;cases e with
       |normal =>
        have jJ:σ3.get q.i=some rdy:=by obtain⟨B',F',pl',tb',q1,q2⟩:=h8;exact q2.le.2 _ _ (q1.f.2 _ _ jd)
        refine⟨jJ,?_⟩;have h9:=h8.lpUpd (b:=fc) jd sR;have mE:((F.ins σ q.i hG.le.1).upd q.i fc).get q.i=some fc:=Heap.get_upd_self _ _ (by rw[fB];exact aM);refine eo (B0:=B) (F0:=(F.ins σ q.i hG.le.1).upd q.i fc) (D0:=σ) n _ _ _ _ (some q.i) _ ⟨env,r,_,_,mE⟩ h9 h7 fun e s4 qO σ4 bY fL=>?_;obtain⟨B',F',pl',tb',q1,q2⟩:=fL;have pn:=q1.f.2 _ _ mE;have qP:=q1.x _ _ mE sR;have om:σ4.get q.i=some fc:=q2.le.2 _ _ pn;unfold gyK at bY;split at bY
        ·rename_i l2 kI l3 q3 u3 au qQ;split at bY
         ·obtain⟨rfl,rfl,bY⟩:=bY;have base:∀ b,GBase B F σ B' (F'.kill q.i) (σ4.upd q.i b):=fun b=>by
           refine⟨q1.b,⟨?_,fun j c hc=>?_⟩,fun j c h1 h2=>?_,q1.d.trans (Dead.upd _ _ _ (by rw[om];rfl))⟩
           ·have h1:=q1.f.1;have h2:=hG.le.1;show F.n≤F'.n;have h3:((F.ins σ q.i hG.le.1).upd q.i fc).n=σ.n:=rfl;omega
           ·have e:j≠q.i:=by rintro rfl;rw[mD] at hc;cases hc
            rw[Heap.get_kill_ne _ e];refine q1.f.2 _ _ ?_;rw[Heap.get_upd_ne _ _ e,Heap.ins_ne _ _ _ e];exact hc
           ·have e:j≠q.i:=by rintro rfl;rw[mD] at h1;cases h1
            refine q1.x j c ?_ h2;rw[Heap.get_upd_ne _ _ e,Heap.ins_ne _ _ _ e];exact h1
          refine⟨om,?_⟩;cases e with
          |normal=>exact hK _ _ B' _ pl' tb' _ _ bY (base _) (q2.leaveLp pn qP au qQ .rdy) (by simp[SR,KC])
          |ret=>exact hK _ _ B' _ pl' tb' _ _ bY (base _) (q2.leaveLp pn qP au qQ .ret) (by simp[SR,KC])
          |exit id=>exact hK _ _ B' _ pl' tb' _ _ bY (base _) (q2.leaveLp pn qP au qQ (.exit id)) (by simp[SR,KC])
          |_=>exact bY.elim
         ·exact bY.elim
        ·exact bY.elim
       |_=>exact h7.elim
      ·exact hy.elim
     ·exact hy.elim
    have aZ:=gL B F _ tb _ env (σ.push rdy) o _ _ _ (Q8q o q K) (fun τ=>Q62 Q env σ.n poison τ) jb av u6 (h q) fun s' B' F' pl' tb' ae σ' hk hb dJ=>by
     unfold Q8q at hk;split at hk
     ·rename_i l q' u ho;have fin:∀ {e:Exit},u.live=true→q'=q→K e ⟨l,oset s'.own o .dead,s'.nx⟩→Q e env (σ'.kill σ.n)∧σ'.get σ.n=some (.obj (.lp env r u.st u.pend) true):=fun {e} hu hq u7=>by
       subst hq;obtain⟨g1,g2⟩:=dJ.dropLp ho hu;refine⟨hK _ _ _ _ u7 ⟨B',F',pl',tb',⟨hB.b.trans hb.b,hB.f.trans hb.f,fun j c h1 h2=>hb.x j c (hB.f.2 _ _ h1) (hB.x j c h1 h2),hB.d.trans ((Dead.push _ _).trans (hb.d.trans (Dead.kill _ _)))⟩,g1⟩,g2⟩
      cases u with
      |busy=>exact hk.elim
      |rdy =>obtain⟨hq,hk⟩:=hk;obtain⟨k1,k2⟩:=fin rfl hq hk;unfold Q62;rw[k2];exact⟨(by intro h;cases h),k1⟩
      |ret =>obtain⟨hq,hk⟩:=hk;obtain⟨k1,k2⟩:=fin rfl hq hk;unfold Q62;rw[k2];exact⟨(by intro h;cases h),k1⟩
      |exit id =>obtain⟨hq,hk⟩:=hk;obtain⟨k1,k2⟩:=fin rfl hq hk;unfold Q62;rw[k2];exact⟨(by intro h;cases h),k1⟩
     ·exact hk.elim
    refine VCallsTo.mono (R:=fun _ τ=>Q62 Q env σ.n poison τ) (by simpa using aZ) fun v τ h=>h
   split at h
   rotate_left
   ·exact h.elim
   split at h
   ·rename_i it s1 cG A gH qR hA;split at h
    ·rename_i c m ar xs hc;cases eZ:Nat.beq ps.length ar with
     |false=>rw[eZ] at h;exact h.elim
     |true =>
     rw[eZ] at h;simp only[_root_.cond_true] at h;obtain⟨dk,p,d0,dx,I,u9,sS,sU⟩:=h;have eZ:=Nat.eq_of_beq_eq_true eZ;have hlen:s.env.length=env.length:=by obtain⟨B,F,pl,tb,_,hG⟩:=hR;exact hG.env.length
     rw[hlen] at sS sU;have n8:=hR;obtain⟨B,F,pl,tb,hB,hG⟩:=hR;have gV:=hG.evs Gds.nil g;rw[hg] at gV;simp only[SR] at gV;obtain⟨x,y,bh,hx,hy⟩:=gV;simp only[SRs] at hx;subst hx;obtain⟨B1,F1,oo,gO,u_,gU⟩:=Hw hG hy qR;obtain⟨iL,qS⟩:=aA.it f it gH;obtain⟨oq,qT⟩:=qS B1 cG y c m ar xs u_ hc dk;have vd:GRel P B1 F1 D0 (Ze (List.length env) (A.st p d0) (A.own p d0)) env σ:=Nj ⟨B1,F1,pl,tb,⟨.refl _,.refl _,fun _ _ _ h=>h,(hB.trans oo).d⟩,gO⟩ dx;have kQ:B1.get σ.n=none:=B1.wf _ gO.leB.1;have po:F1.get σ.n=none:=F1.wf _ gO.le.1;show vwp (Q2 P) (.rangeF g ps a b) ro Q env σ;simp only[vwp,Av,bh];have lZ:(Q2 P).it f=some fun i Y args σ K=>Vl P i Y→VCallsTo P f args σ K:=by simp only[Q2];rw[if_pos iL]
     rw[lZ];refine⟨?_,fun r hY=>?_⟩
     ·cases ro with
      |none=>trivial
      |some i =>obtain⟨e1,r1,st1,qM,hi⟩:=bT;exact⟨e1,r1,st1,qM,hG.le.2 _ _ (hB.f.2 _ _ hi)⟩
     ·let rdy:Blk:=.obj (.lp env r .ready none) true;let fc:Blk:=.obj (.lp env r .busy none) true;have kR:F1.Le (σ.push rdy):=gO.le.push rdy;let Fr:=F1.ins (σ.push rdy) σ.n kR.1;have jd:Fr.get σ.n=some rdy:=by
       show (F1.ins _ _ _).get σ.n=_;rw[Heap.ins_self,Heap.get_push_self]
      have fB:Fr.n=σ.n+1:=rfl;have ve:F1.Le Fr:=kR.ins σ.n;let J:Nat→Heap→Prop:=fun k τ=>∃ d,I k d∧GRel P B1 Fr D0 (Ze (List.length env) (A.st p d) (A.own p d)) env τ;let E:Heap→Prop:=fun τ=>∃ cd e,τ.get σ.n=some (.obj (.lp env r .done (some cd)) true)∧((cd=.ret∧e=Exit.ret)∨∃ id,cd=.exit id∧e=Exit.exit id)∧Q e env (τ.kill σ.n);have back:∀ {s':St}{τ:Heap},GRel P B1 (Fr.upd σ.n fc) D0 s' env τ→∀ b,GRel P B1 ((Fr.upd σ.n fc).upd σ.n b) D0 s' env (τ.upd σ.n b):=fun h b =>
       h.lpUpd (b0:=fc) (Heap.get_upd_self _ _ (by rw[fB];omega)) kQ
      have je:∀ {Fx:Heap}{b0:Blk}{s':St}{τ:Heap},Fx.get σ.n=some b0→(∀ i,i≠σ.n→Fx.get i=F1.get i)→Fx.n=σ.n+1→GRel P B1 Fx D0 s' env τ→GRel P B0 F0 D0 s' env (τ.kill σ.n):=fun {Fx b0 s' τ} h1 h2 h3 h4=>by
       refine (h4.lpKill h1 kQ).base (hB.b.trans oo.b) ⟨?_,fun i b hb=>?_⟩ fun i b k1 k2=>(hB.trans oo).x i b k1 k2
       ·show F0.n≤Fx.n;rw[h3];have:=(hB.trans oo).f.1;have:=gO.le.1;omega
       ·have bp:=(hB.trans oo).f.2 _ _ hb;have e:i≠σ.n:=by rintro rfl;rw[po] at bp;cases bp
        rw[Heap.get_kill_ne _ e,h2 i e];exact bp
      have jW:∀ i,i≠σ.n→Fr.get i=F1.get i:=fun i e=>Heap.ins_ne _ _ _ e;have aZ:=qT σ.n _ J E (σ.push rdy) hY (fun k τ ⟨d,_,hd⟩=>?_) (fun k us τ hk ⟨d,qU,hd⟩ dj=>?_) ⟨d0,u9,?_⟩
      ·refine VCallsTo.mono (R:=fun _ τ=>J m τ∨E τ) (by simpa using aZ) fun v τ qf=>?_;unfold Q62;rcases qf with⟨d,qU,hd⟩|⟨cd,e,h1,h2,h3⟩
       ·have l4:τ.get σ.n=some rdy:=by
         obtain⟨B',F',pl',tb',q1,q2⟩:=hd;exact q2.le.2 _ _ (q1.f.2 _ _ jd)
        rw[l4];exact⟨(by intro h;cases h),hK _ _ _ _ (sU d qU) (je jd jW fB hd)⟩
       ·rw[h1];refine⟨(by intro h;cases h),?_⟩;rcases h2 with⟨rfl,rfl⟩|⟨id,rfl,rfl⟩<;>exact h3
      ·obtain⟨B',F',pl',tb',q1,q2⟩:=hd;exact q1.b.trans q2.leB
      ·
       have l4:τ.get σ.n=some rdy:=by obtain⟨B',F',pl',tb',q1,q2⟩:=hd;exact q2.le.2 _ _ (q1.f.2 _ _ jd)
       refine⟨l4,by rw[eZ,←(oq k).1,dj.length],?_⟩;have hF:=sS k d hk qU env;have bG:GRel P B1 Fr D0 ⟨Bc (Fa (2000000+n) env (Ze (List.length env) (A.st p d) (A.own p d))).env ps (xs k),(Fa (2000000+n) env (Ze (List.length env) (A.st p d) (A.own p d))).own,0⟩ (R4 env ps us) τ:=by
        obtain⟨B',F',pl',tb',q1,q2⟩:=hd;have q3:Gam P B' F' (Zb pl' (2000000+n) poison) tb' (Fa (2000000+n) env (Ze (List.length env) (A.st p d) (A.own p d))) env τ:=by refine q2.make (2000000+n) _ poison q2.le (fun _ _ _ _ _=>rfl) ?_ (fun i hl _=>by cases hl);exact SRs.upd (.refl _) (fun _ _ h=>h) (fun j hj=>by simp[Zb,hj]) _ _ q2.env
        refine⟨B',F',Zb pl' (2000000+n) poison,tb',q1,⟨q3.bf,q3.le,MZ ?_ q3.env,q3.obj,q3.fresh,q3.sep,?_⟩⟩
        ·exact SRs.mono q1.b (fun _ _ h=>h) _ _ (QT _ _ (oq k).2 dj)
        ·exact q3.free
       refine eR (B0:=B1) (F0:=Fr) n _ _ _ τ (some σ.n) _ ⟨env,r,_,_,jd⟩ bG hF fun e s3 qN σ3 h7 h8=>?_;cases e with
       |normal =>
        have jJ:σ3.get σ.n=some rdy:=by obtain⟨B',F',pl',tb',q1,q2⟩:=h8;exact q2.le.2 _ _ (q1.f.2 _ _ jd)
        refine⟨jJ,?_⟩;have h9:=h8.lpUpd (b:=fc) jd kQ;have mE:(Fr.upd σ.n fc).get σ.n=some fc:=Heap.get_upd_self _ _ (by rw[fB];omega);refine eo (B0:=B1) (F0:=Fr.upd σ.n fc) n _ _ _ _ (some σ.n) _ ⟨env,r,_,_,mE⟩ h9 h7 fun e s4 qO σ4 bY fL=>?_;have om:σ4.get σ.n=some fc:=by obtain⟨B',F',pl',tb',q1,q2⟩:=fL;exact q2.le.2 _ _ (q1.f.2 _ _ mE)
        have sV:σ.n<σ4.n:=σ4.lt om;unfold Q1s at bY;split at bY
        ·rename_i l vs gu;obtain⟨rfl,bY⟩:=bY;have cu:GRel P B1 (Fr.upd σ.n fc) D0 ⟨l,s4.own,s4.nx⟩ vs σ4:=by
          obtain⟨B',F',pl',tb',q1,q2⟩:=fL;have:=q2.obj (2000000+n);rw[gu] at this;exact⟨B',F',pl',tb',q1,q2.bf,q2.le,this,q2.obj,q2.fresh,q2.sep,q2.free⟩
         have l5:∀ b,((Fr.upd σ.n fc).upd σ.n b).get σ.n=some b:=fun b=>Heap.get_upd_self _ _ (by show σ.n<Fr.n;rw[fB];omega);have qV:∀ b i,i≠σ.n→((Fr.upd σ.n fc).upd σ.n b).get i=F1.get i:=fun b i e=>by rw[Heap.get_upd_ne _ _ e,Heap.get_upd_ne _ _ e,jW i e]
         refine⟨om,?_⟩;cases e with
         |normal =>
          obtain⟨d',mB,pb⟩:=bY;refine .inl ⟨rfl,d',pb,?_⟩;have:=(back (Nj cu mB) rdy).base (B0:=B1) (F0:=Fr) (.refl _) ⟨Nat.le_refl _,fun i b hb=>?_⟩ fun i b k1 k2=>k2
          ·exact this
          ·by_cases e:i=σ.n
           ·subst e;rw[jd] at hb;rw[l5];exact hb
           ·rw[qV _ _ e,←jW i e];exact hb
         |ret =>refine .inr ⟨rfl,_,_,Heap.get_upd_self _ _ sV,.inl ⟨rfl,rfl⟩,hK _ _ _ _ bY (je (l5 _) (qV _) (by show Fr.n=_;exact fB) (back cu _))⟩
         |exit id =>refine .inr ⟨rfl,_,_,Heap.get_upd_self _ _ sV,.inr ⟨id,rfl,rfl⟩,hK _ _ _ _ bY (je (l5 _) (qV _) (by show Fr.n=_;exact fB) (back cu _))⟩
         |_=>exact bY.elim
        ·exact bY.elim
       |_=>exact h7.elim
      ·
       obtain⟨B',F',pl',tb',q1,q2⟩:=vd;have hle:F'.Le (σ.push rdy):=q2.le.push rdy;have vf:F'.get σ.n=none:=F'.wf _ q2.le.1;have aj:∀ d i,(Q7 (Ze (List.length env) (A.st p d0) (A.own p d0)).own d).live=true→Oid (pl' d) i→i<σ.n:=fun d i h1 h2=>(q2.obj d).id_lt h1 h2;refine⟨B',F'.ins (σ.push rdy) σ.n hle.1,pl',tb',⟨q1.b,Heap.ins_ins q1.f _ _ _,fun i b k1 k2=>?_,q1.d.trans (Dead.push _ _)⟩,⟨q2.bf.trans (hle.ins _),hle.ins_le _,q2.env,fun d=>(q2.obj d).mono (.refl _) (fun _ _ h=>h) fun h1 i h2=>Heap.get_push_lt _ _ (aj d i h1 h2),fun d i h1 h2=>?_,q2.sep,q2.free⟩⟩
       ·by_cases e:i=σ.n
        ·subst e;exact B'.wf _ q2.leB.1
        ·rw[jW i e] at k1;exact q1.x i b k1 k2
       ·rw[Heap.ins_ne _ _ _ (Nat.ne_of_lt (aj d i h1 h2))];exact q2.fresh d i h1 h2
    ·exact h.elim
   ·exact h.elim
  ·exact h.elim
 |bad=>intro B0 F0 D0 n K s env σ ro Q bT hR h hK;exact h.elim
 |ret=>intro B0 F0 D0 n K s env σ ro Q bT hR h hK;exact hK _ _ _ _ h hR
 |exit id=>intro B0 F0 D0 n K s env σ ro Q bT hR h hK;exact hK _ _ _ _ h hR
 |seq a b eR eo =>
  intro B0 F0 D0 n K s env σ ro Q bT hR h hK;refine eR n _ s env σ ro _ bT hR h fun e s' ae σ' h1 h2=>?_;cases e with
  |normal=>exact eo n K s' ae σ' ro Q bT h2 h1 hK
  |_=>exact hK _ _ _ _ h1 h2
 |cond c a b eR eo =>
  intro B0 F0 D0 n K s env σ ro Q bT hR h hK;simp only[gwp] at h;split at h
  ·rename_i t ht;have n8:=hR;obtain⟨B,F,pl,tb,hB,hG⟩:=hR;have:=ME hG ht;simp only[vwp,this,Ei];cases t with
   |true=>exact⟨fun _=>eR n K s env σ ro Q bT n8 h hK,fun e=>by cases e⟩
   |false=>exact⟨(fun e=>by cases e),fun _=>eo n K s env σ ro Q bT n8 h hK⟩
  split at h
  ·rename_i t ht;obtain⟨B,F,pl,tb,hB,hG⟩:=hR;have:=We ht (hG.evs Gds.nil c);simp only[vwp,this,Ei];split at h
   ·rename_i A hA;obtain⟨p,I,hF,hI⟩:=h;have fin:∀ e s' ae σ',Q7n s.env.length A p I K e s'→GRel P B0 F0 D0 s' ae σ'→Q e ae σ':=fun e s' ae σ' h1 h2=>by
     cases e with
     |normal =>obtain⟨d,h3,h4⟩:=h1;exact hK _ _ _ _ (hI d h4) (UU h2 h3)
     |_=>exact hK _ _ _ _ h1 h2
    exact⟨fun e=>eR n _ s env σ ro Q bT ⟨B,F,pl,tb,hB,hG⟩ (hF.1 e) fin,fun e=>eo n _ s env σ ro Q bT ⟨B,F,pl,tb,hB,hG⟩ (hF.2 e) fin⟩
   exact⟨fun e=>eR n K s env σ ro Q bT ⟨B,F,pl,tb,hB,hG⟩ (h.1 e) hK,fun e=>eo n K s env σ ro Q bT ⟨B,F,pl,tb,hB,hG⟩ (h.2 e) hK⟩
  ·exact h.elim
 |block id b ih =>
  intro B0 F0 D0 n K s env σ ro Q bT hR h hK;refine ih id _ s env σ ro _ bT hR h fun e s' ae σ' h1 h2=>?_;cases e with
  |exit iF =>
   simp only[Q3f] at h1;simp only[E_];split
   ·rename_i e;rw[if_pos e] at h1;exact hK _ _ _ _ h1 h2
   ·rename_i e;rw[if_neg e] at h1;exact hK _ _ _ _ h1 h2
  |_=>exact hK _ _ _ _ h1 h2
 |loop b ih =>
  intro B0 F0 D0 n K s env σ ro Q bT hR h hK;simp only[gwp] at h;split at h
  ·rename_i A hA;obtain⟨p,d0,h1,I,μ,h2,h3⟩:=h;have hlen:s.env.length=env.length:=by obtain⟨B,F,pl,tb,_,hG⟩:=hR;exact hG.env.length
   have hk:∀ d,(A.st p d).map (·.1)=A.sl:=fun d=>TV _ _;refine⟨A.sl,fun m vs σ'=>∃ d,I d∧μ d=m∧GRel P B0 F0 D0 (Ze s.env.length (A.st p d) (A.own p d)) (XM A.sl vs (List.replicate env.length poison)) σ',μ d0,⟨d0,h2,rfl,?_⟩,fun m vs σ' ⟨d,h4,h5,h6⟩=>?_⟩
   ·have:=Hz hR h1 s.env.length;rw[hk d0,hlen] at this;rw[hlen];exact this
   ·refine ih n _ _ _ σ' ro _ bT h6 (h3 d h4) fun e s' ae aD h7 h8=>?_;cases e with
    |normal =>
     simp only[Q6q] at h7;cases nJ:Z5n s'.own with
     |false=>rw[nJ] at h7;exact h7.elim
     |true =>
     rw[nJ] at h7;obtain⟨d',h9,bY,fL⟩:=h7;refine⟨μ d',by omega,d',bY,rfl,?_⟩;have:=Hz h8 h9 s.env.length;rw[hk d',hlen] at this;rw[hlen];exact this
    |_=>exact hK _ _ _ _ h7 h8
  ·exact h.elim
end
end Go.V
namespace Go.V
open Go
def EA (s:St):VResult→Option SV
 |.tmp t=>some (s.env.getD t .any)
 |.cell a agg size=>bif Nat.blt 0 size then Q54 s.own agg size (s.env.getD a .any) else none
def KI (s:St) (rs:List VResult):Option SV :=
 match rs with
 |[r]=>EA s r
 |rs=>(rs.mapM (EA s)).map .tup
def Q6u (mp:List (Nat×Option Nat)) (j:Nat) (a:Option Nat):Option (List (Nat×Option Nat)) :=
 if (Qf mp j).isSome then none else match a with
 |some x=>if mp.any fun p=>p.2==some x then none else some (mp++[(j,a)])
 |none=>some (mp++[(j,a)])
mutual
def Q13:SV→SV→List (Nat×Option Nat)→Option (List (Nat×Option Nat))
 |.lst j,v,mp=>match v with|.lst a=>Q6u mp j (some a)|.nilS=>Q6u mp j none|_=>none
 |.map j,v,mp=>match v with|.map a=>Q6u mp j (some a)|_=>none
 |.dd j w,v,mp=>match w with
  |.out=>(match v with
   |.dd a w'=>(match w' with|.out=>Q6u mp j (some a)|_=>none)
   |.nilS=>Q6u mp j none
   |_=>none)
  |_=>none
 |.box j _,v,mp=>match v with|.box a _=>Q6u mp j (some a)|_=>none
 |.agg l,v,mp=>match v with|.agg l'=>Q06 l l' mp|_=>none
 |.tup l,v,mp=>match v with|.tup l'=>Q06 l l' mp|_=>none
 |.any,_,mp=>some mp
 |.val _ _,_,mp=>some mp
 |.nilS,_,mp=>some mp
 |.nilP,_,mp=>some mp
 |.nilM,_,mp=>some mp
 |.nilF,_,mp=>some mp
 |.sub _ _ _ _,_,_|.elp _ _ _ _,_,_|.grd _ _,_,_|.cp _ _,_,_|.fn _ _ _,_,_|.rop _ _ _ _,_,_|.pf _ _ _ _,_,_|.bid _ _,_,_=>none
def Q06:List SV→List SV→List (Nat×Option Nat)→Option (List (Nat×Option Nat))
 |[],_,mp=>some mp
 |s::ss,l,mp=>match l with
  |v::vs=>match Q13 s v mp with|some mp=>Q06 ss vs mp|none=>none
  |[]=>none
end
def Q2m (s:St) (mp:List (Nat×Option Nat)):Nat→List OB→Prop
 |_,[]=>True
 |j,b::r=>Q0l s mp j b∧Q2m s mp (j+1) r
def YU (rs:List VResult) (v:SV) (bs:List OB):Exit→St→Prop:=fun e s =>
 let fin:=match KI s rs with
  |some r=>(match Q13 v r [] with
   |some mp=>PJ mp v r∧Q2m s mp 0 bs
   |none=>False)
  |none=>False
 match e with
 |.normal=>fin
 |.ret=>fin
 |_=>False
section
variable {P:Program}{B F:Heap}{pl:Nat→Value}{tb:Nat→Option Bool}{s:St}{env:Env}{σ:Heap}
theorem Td (hG:Gam P B F pl tb s env σ) {r:VResult}{v:SV}(h:EA s r=some v):∃ u,JF env σ r=some u∧SR P B pl tb v u:=by
 cases r with
 |tmp t=>obtain rfl:=osj h;exact⟨_,rfl,hG.env.getD t undef⟩
 |cell a agg size =>
  simp only[EA] at h;cases hb:Nat.blt 0 size with
  |false=>rw[hb] at h;cases h
  |true =>rw[hb] at h;obtain⟨i,o,c,e,wr,t,u,h1,h2,h3,h4⟩:=TN hG.leB hG.obj (by simpa [Nat.blt_eq] using hb) h (hG.env.getD a undef);refine⟨u,?_,h4⟩;simp only[JF,Q4,Q3,h1,h2,h3];rfl
theorem XT (hG:Gam P B F pl tb s env σ) {rs:List VResult}{v:SV}(h:KI s rs=some v):∃ u,JJ env σ rs=some u∧SR P B pl tb v u:=by
 have all:∀ (rs:List VResult) (l:List SV),rs.mapM (EA s)=some l→∃ us,rs.mapM (JF env σ)=some us∧SRs P B pl tb l us:=by
  intro rs;induction rs with
  |nil=>intro l h;simp at h;subst h;exact⟨[],rfl,rfl⟩
  |cons r rs ih =>
   intro l h;rw[List.mapM_cons] at h;cases h1:EA s r with
   |none=>simp[h1] at h
   |some a =>
    cases h2:rs.mapM (EA s) with
    |none=>simp[h1,h2] at h
    |some l' =>simp[h1,h2] at h;subst h;obtain⟨u,h3,h4⟩:=Td hG h1;obtain⟨us,h5,h6⟩:=ih l' h2;exact⟨u::us,by rw[List.mapM_cons];simp[h3,h5],by simp only[SRs];exact⟨u,us,rfl,h4,h6⟩⟩
 have tup:(rs.mapM (EA s)).map SV.tup=some v→∃ u,(rs.mapM (JF env σ)).map (fun vs=>Value.tuple vs.toArray)=some u∧SR P B pl tb v u:=fun h=>by simp only[Option.map_eq_some_iff] at h;obtain⟨l,h1,rfl⟩:=h;obtain⟨us,h2,h3⟩:=all rs l h1;exact⟨.tuple us.toArray,by rw[h2];rfl,by simp only[SR];exact⟨us,rfl,h3⟩⟩
 match rs,h,tup with
 |[r],h,_=>exact Td hG h
 |[],h,tup=>exact tup h
 |_::_::_,h,tup=>exact tup h
theorem Gv {mp b8:List (Nat×Option Nat)}{j:Nat}{a:Option Nat}(h:Q6u mp j a=some b8) (hi:Inj mp):Inj b8:=by
 unfold Q6u at h;split at h
 ·cases h
 ·split at h
  ·rename_i x;split at h
   ·cases h
   ·rename_i hc;obtain rfl:=osj h;have cu:∀ d,Qf mp d≠some (some x):=fun d hd=>by
     obtain⟨p,h1,h2,h3⟩:=AN hd;exact hc (List.any_eq_true.2 ⟨p,h1,by rw[h3];simp⟩)
    intro t1 t2 a' h1 h2;rw[VY] at h1 h2;split at h1
    ·rename_i y1 e1;split at h2
     ·rename_i y2 e2;obtain rfl:=osj h1;obtain rfl:=osj h2;exact hi t1 t2 a' e1 e2
     ·split at h2
      ·obtain rfl:=osj (osj h2);obtain rfl:=osj h1;exact absurd e1 (cu t1)
      ·cases h2
    ·split at h1
     ·obtain rfl:=osj (osj h1);split at h2
      ·rename_i y2 e2;obtain rfl:=osj h2;exact absurd e2 (cu t2)
      ·split at h2
       ·omega
       ·cases h2
     ·cases h1
  ·obtain rfl:=osj h;intro t1 t2 a' h1 h2;rw[VY] at h1 h2;split at h1
   ·rename_i y1 e1;split at h2
    ·rename_i y2 e2;obtain rfl:=osj h1;obtain rfl:=osj h2;exact hi t1 t2 a' e1 e2
    ·split at h2<;>cases h2
   ·split at h1<;>cases h1
mutual
theorem Aa:∀ (v r:SV) (mp b8:List (Nat×Option Nat)),Q13 v r mp=some b8→Inj mp→Inj b8
 |.lst j,r,mp,b8,h,hi=>by
  simp only[Q13] at h;split at h
  ·exact Gv h hi
  ·exact Gv h hi
  ·cases h
 |.map j,r,mp,b8,h,hi=>by
  simp only[Q13] at h;split at h
  ·exact Gv h hi
  ·cases h
 |.dd j w,r,mp,b8,h,hi=>by
  simp only[Q13] at h;split at h
  ·split at h
   ·split at h
    ·exact Gv h hi
    ·cases h
   ·exact Gv h hi
   ·cases h
  ·cases h
 |.box j _,r,mp,b8,h,hi=>by
  simp only[Q13] at h;split at h
  ·exact Gv h hi
  ·cases h
 |.agg l,r,mp,b8,h,hi=>by
  simp only[Q13] at h;split at h
  ·exact RE l _ mp b8 h hi
  ·cases h
 |.tup l,r,mp,b8,h,hi=>by
  simp only[Q13] at h;split at h
  ·exact RE l _ mp b8 h hi
  ·cases h
 |.any,r,mp,b8,h,hi|.val _ _,r,mp,b8,h,hi|.nilS,r,mp,b8,h,hi|.nilP,r,mp,b8,h,hi|.nilM,r,mp,b8,h,hi|.nilF,r,mp,b8,h,hi=>by simp only[Q13] at h;obtain rfl:=osj h;exact hi
 |.sub _ _ _ _,r,mp,b8,h,hi|.elp _ _ _ _,r,mp,b8,h,hi|.grd _ _,r,mp,b8,h,hi|.cp _ _,r,mp,b8,h,hi|.fn _ _ _,r,mp,b8,h,hi|.rop _ _ _ _,r,mp,b8,h,hi|.pf _ _ _ _,r,mp,b8,h,hi|.bid _ _,r,mp,b8,h,hi=>by cases h
theorem RE:∀ (v r:List SV) (mp b8:List (Nat×Option Nat)),Q06 v r mp=some b8→Inj mp→Inj b8
 |[],r,mp,b8,h,hi=>by simp only[Q06] at h;obtain rfl:=osj h;exact hi
 |s::ss,[],mp,b8,h,hi=>by cases h
 |s::ss,r::rs,mp,b8,h,hi=>by
  simp only[Q06] at h;split at h
  ·rename_i sW h1;exact RE ss rs sW b8 h (Aa s r mp sW h1 hi)
  ·cases h
end
theorem Rx {mp:List (Nat×Option Nat)}:∀ (bs:List OB) (n:Nat),Q2m s mp n bs→∀ j b,bs[j]?=some b→Q0l s mp (n+j) b
 |[],n,_,j,b,hj=>by simp at hj
 |b0::r,n,h,j,b,hj=>by
  obtain⟨h1,h2⟩:=h;cases j with
  |zero=>simp at hj;subst hj;exact h1
  |succ j =>
   have:=Rx r (n+1) h2 j b (by simpa using hj)
   rwa [Nat.add_assoc,Nat.add_comm 1 j] at this
mutual
theorem Is {n:Nat}{π:Nat→Nat}:∀ (v:SV) (u:Value),v.ret 0=true→SR P B pl tb v u→Ren n π u u
 |.val k x,u,h,hs=>by
  simp only[SR] at hs;cases k with
  |i ik=>simp only[KC] at hs;obtain rfl:=(List.cons.inj hs).1;exact .plain _ rfl
  |bo=>simp only[KC] at hs;obtain rfl:=(List.cons.inj hs).1;exact .plain _ rfl
  |st=>simp only[KC] at hs;obtain rfl:=(List.cons.inj hs).1;exact .plain _ rfl
  |list k=>cases h
  |pair a b =>have h1:=KC.length hs;have h2:=a.size_pos;have h3:=b.size_pos;simp only[Kind.size,List.length_singleton] at h1;omega
 |.nilS,u,_,hs|.nilP,u,_,hs|.nilM,u,_,hs|.nilF,u,_,hs=>by simp only[SR] at hs;subst hs;exact .plain _ rfl
 |.lst j,u,h,_|.box j _,u,h,_|.map j,u,h,_=>by simp[SV.ret,Nat.blt_eq] at h
 |.dd j w,u,h,_=>by cases w<;>simp[SV.ret,Nat.blt_eq] at h
 |.agg l,u,h,hs=>by simp only[SR] at hs;obtain⟨cs,rfl,h2⟩:=hs;have:=Ti (n:=n) (π:=π) l cs h h2;exact .agg _ _ rfl fun i h3 _=>this _ (by simp)
 |.tup l,u,h,hs=>by simp only[SR] at hs;obtain⟨cs,rfl,h2⟩:=hs;have:=Ti (n:=n) (π:=π) l cs h h2;exact .tuple _ _ rfl fun i h3 _=>this _ (by simp)
 |.any,_,h,_|.bid _ _,_,h,_|.grd _ _,_,h,_|.sub _ _ _ _,_,h,_|.elp _ _ _ _,_,h,_|.rop _ _ _ _,_,h,_|.cp _ _,_,h,_|.fn _ _ _,_,h,_|.pf _ _ _ _,_,h,_=>by cases h
theorem Ti {n:Nat}{π:Nat→Nat}:∀ (v:List SV) (u:List Value),SVs.ret 0 v=true→SRs P B pl tb v u→∀ x∈u,Ren n π x x
 |[],u,_,hs=>by simp only[SRs] at hs;subst hs;intro x hx;cases hx
 |s::ss,u,h,hs=>by
  simp only[SVs.ret,Bool.and_eq_true] at h;simp only[SRs] at hs;obtain⟨x,y,rfl,h1,h2⟩:=hs;intro z hz;rcases List.mem_cons.1 hz with rfl|hz
  ·exact Is s z h.1 h1
  ·exact Ti ss y h.2 h2 z hz
end
theorem OC (exact:Bool) {σ0:Heap}{sf:St}{l6:Env}{σf:Heap}(hR:GRel P σ0 σ0 σ0 sf l6 σf) {rs:List VResult}{v:SV}{bs:List OB}{e:Exit}(hv:v.ret bs.length=true) (hb:bs.all OB.ret=true) (h:YU rs v bs e sf) (hx:exact=true→bs.all OB.isL=true∧Ui v=true) :
  Z31 σ0 rs (fun u σ'=>if exact then u=Uh (LJ σ0 bs) v∧σ'=RR σ0 bs else Ret P σ0 v bs u σ') e l6 σf:=by
 have main:(match KI sf rs with
  |some r=>(match Q13 v r [] with
   |some mp=>PJ mp v r∧Q2m sf mp 0 bs
   |none=>False)
  |none=>False)→QJ (JJ l6 σf rs) fun u=>∃ v' σ',DropTo σ0 u σf v' σ'∧(if exact then v'=Uh (LJ σ0 bs) v∧σ'=RR σ0 bs else Ret P σ0 v bs v' σ'):=fun h=>by
  split at h
  ·rename_i r hr;split at h
   ·rename_i mp jc;obtain⟨h1,h2⟩:=h;obtain⟨B,F,pl,tb,⟨hB,hF,_,hd⟩,hG⟩:=hR;obtain⟨u,h3,h4⟩:=XT hG hr;have iD:=Yw v r u h1 h4;have dV:=Aa v r [] mp jc (fun t t' a h=>by cases h);have aj:∀ j b,bs[j]?=some b→Q0l sf mp j b:=fun j b hj=>by have:=Rx bs 0 h2 j b hj;rwa [Nat.zero_add] at this
    rw[h3];have hle:σ0.Le σf:=hF.trans hG.le;have hA:Agree σ0 σf:=fun i hi=>by
     cases hg:σ0.get i with
     |none=>exact hd.2 i hi hg
     |some b=>exact hle.2 i b hg
    have aW:∀ j b,bs[j]?=some b→OR P hNil (V_ pl mp) Jc σf (V_ pl mp j) b∧∀ i,Oid (V_ pl mp j) i→σ0.get i=none∧σ0.n≤i:=fun j b hj=>by
     obtain⟨k1,k2⟩:=Qu hG (aj j b hj);have dD:=List.all_eq_true.1 hb b (List.mem_of_getElem? hj);have af:b.live=true:=by cases b<;>first|rfl|cases dD
     refine⟨k1.retd dD fun _ _=>rfl,fun i hi=>?_⟩;obtain⟨a,e1,e2,e3⟩:=k2 af i hi;have kQ:=hG.fresh a i e2 e3;have hn:σ0.get i=none:=by
      cases hg:σ0.get i with
      |none=>rfl
      |some b=>rw[hF.2 i b hg] at kQ;cases kQ
     refine⟨hn,Nat.le_of_not_lt fun ah=>?_⟩;have bk:=hd.2 i ah hn;have aj:=hG.obj a;cases ho:Q7 sf.own a with
     |dead=>rw[ho] at e2;cases e2
     |lst ty k xs nl =>
      rw[ho] at aj;rcases aj with⟨_,_,h2⟩|⟨_,i',cap,c,t,h2,_,h3,_⟩
      ·rw[h2] at e3;cases e3
      ·rw[h2] at e3;obtain rfl:=osj e3;rw[h3] at bk;cases bk
     |cells l u=>rw[ho] at aj;obtain⟨i',c,e,t,h2,h3,_⟩:=aj;rw[h2] at e3;obtain rfl:=osj e3;rw[h3] at bk;cases bk
     |mapE kk vk m key n=>rw[ho] at aj;obtain⟨i',es,cl,r,e,h2,h3,_⟩:=aj;rw[h2] at e3;obtain rfl:=osj e3;rw[h3] at bk;cases bk
     |map kk vk m=>rw[ho] at aj;obtain⟨i',es,cl,h2,h3,_⟩:=aj;rw[h2] at e3;obtain rfl:=osj e3;rw[h3] at bk;cases bk
     |stk l vals=>rw[ho] at e2;cases e2
     |lpf l q s=>rw[ho] at aj e2;obtain⟨h2,_,h3⟩:=aj;rw[h2] at e3;obtain rfl:=osj e3;have h3:=h3 e2;rw[bk] at h3;cases h3
     |iter kk vk m dn=>rw[ho] at aj;obtain⟨j',i',es,cl,wr,seen,h2,h3,_⟩:=aj;rw[h2] at e3;obtain rfl:=osj e3;rw[h3] at bk;cases bk
     |deep ty q k xs nl hh =>rw[ho] at aj;obtain⟨is,_,d2,d3,_⟩:=DP.open aj;obtain⟨c,e,t,h⟩:=d2.cells i ((d3 i).1 e3);rw[h] at bk;cases bk
    have bV:∀ j j' i,j<bs.length→j'<bs.length→j≠j'→Oid (V_ pl mp j) i→Oid (V_ pl mp j') i→False:=fun j j' i hj bc aC hi bI=>by
     have bp:=List.getElem?_eq_getElem hj;have bW:=List.getElem?_eq_getElem bc;have r1:=List.all_eq_true.1 hb _ (List.getElem_mem hj);have r2:=List.all_eq_true.1 hb _ (List.getElem_mem bc);have l1:(bs[j]).live=true:=by cases jD:bs[j]<;>first|rfl|(rw[jD] at r1;cases r1)
     have l2:(bs[j']).live=true:=by cases jD:bs[j']<;>first|rfl|(rw[jD] at r2;cases r2)
     obtain⟨a,e1,e2,e3⟩:=(Qu hG (aj j _ bp)).2 l1 i hi;obtain⟨a',qW,kG,qX⟩:=(Qu hG (aj j' _ bW)).2 l2 i bI;by_cases e:a=a'
     ·subst e;exact aC (dV j j' a e1 qW)
     ·exact hG.sep a a' i e e2 kG e3 qX
    cases hex:exact with
    |true =>obtain⟨hl,cD⟩:=hx hex;have cT:=Ot (P:=P) hA hle.1 hv cD hb hl (pl:=V_ pl mp) (u:=u) (fun j b hj=>⟨(aW j b hj).1,fun i hi=>((aW j b hj).2 i (Ma hi)).2⟩) (fun j j' i a b c d e=>bV j j' i a b c (Ma d) (Ma e)) (iD.retd (fun j hj=>rfl) _ _ hv);exact⟨_,_,cT,by simp⟩
    |false =>
     simp only[Bool.false_eq_true,if_false];by_cases b9:bs=[]
     ·subst b9;refine⟨u,σ0,.rename (fun i=>i) (Nat.le_refl _) (fun i hi=>⟨rfl,(hA i hi).symm,.inl (hA i hi)⟩) (fun i k1 k2=>by omega) (fun _ _ _ _ _ _ h=>h) (Is v u hv iD),?_⟩;exact⟨⟨Heap.Le.refl _,Dead.refl _⟩,fun _=>rfl,Xu,(fun j b hj=>by simp at hj),(fun j j' i hj=>by simp at hj),iD.retd (fun j hj=>by simp at hj) _ _ hv⟩
     ·exact⟨u,σf,.refl _ _ _,⟨hle,hd⟩,fun e=>absurd e b9,V_ pl mp,aW,bV,iD.retd (fun j hj=>rfl) _ _ hv⟩
   ·exact h.elim
  ·exact h.elim
 cases e with
 |normal=>exact main h
 |ret=>exact main h
 |_=>exact h.elim
def Qh (nt:Nat) (args:List SV):St:=⟨args++List.replicate (nt-args.length) .any,[],0⟩
theorem Oz {args:List SV}{vs:List Value}(h:SRs P σ Xu Jc args vs) (nt:Nat):GRel P σ σ σ (Qh nt args) (vs++List.replicate (nt-vs.length) undef) σ:=by
 have vg:∀ n,SRs P σ Xu Jc (List.replicate n .any) (List.replicate n undef):=by
  intro n;induction n with
  |zero=>simp[SRs]
  |succ n ih=>simp only[List.replicate_succ,SRs];exact⟨_,_,rfl,by simp[SR],ih⟩
 refine⟨σ,σ,Xu,Jc,⟨Heap.Le.refl _,Heap.Le.refl _,(fun i b h1 h2=>by rw[h2] at h1;cases h1),Dead.refl _⟩,Heap.Le.refl _,Heap.Le.refl _,?_,fun d=>trivial,(fun d i hl=>by cases hl),(fun d d' i _ hl=>by cases hl),fun _ _=>rfl⟩;have:=h.length;simp only[Qh,this];exact h.append (vg _)
theorem Fun.okC {f:Nat}{vc:VCode}{rs:List VResult}{nt:Nat}(h:Fun P f vc rs nt) (hm:P.follows .mixedOrders=true) {sp:CSp}
  (hb:∀ ap,Q41 P ap→∀ args c v bs,sp ap args=some (c,v,bs)→c→∃ (C:Cx) (L:List (Nat×LoopAnn)) (bm:List SV),(∀ σ vs,SRs P σ Xu Jc args vs→SRs P σ Xu Jc bm vs)∧COk P C∧gwp C L vc 0 (YU rs v bs) (Qh nt bm)):OkC P f sp:=by
 intro ap ec σ args vs c v bs av fb hv b9 hc;obtain⟨C,L,bm,h1,h2,h3⟩:=hb ap ec args c v bs fb hc;have main:∀ exact:Bool,(exact=true→bs.all OB.isL=true∧Ui v=true)→VCalled P f vs σ fun u σ'=>if exact then u=Uh (LJ σ bs) v∧σ'=RR σ bs else Ret P σ v bs u σ':=fun exact hx=>by refine h.calls hm Po ?_;exact My h2 vc 0 _ _ _ σ none _ trivial (Oz (h1 σ vs av) nt) h3 fun e s' ae σ' k1 k2=>OC exact k2 hv b9 k1 hx
 refine⟨(main false fun e=>by cases e).mono fun u σ' hr=>by simpa using hr,fun hl cD=>(main true fun _=>⟨hl,cD⟩).mono fun u σ' hr=>by simpa using hr⟩
theorem OkC.true {f:Nat}{sp:CSp}(h:OkC P f sp) (he:XR P f) {σ:Heap}{args:List SV}{vs:List Value}(ha:SRs P σ Xu Jc args vs) {c:Prop}(hs:sp (fun _ _=>none) args=some (c,.val .bo true,[])) (hc:c) :
  VCallsTo P f vs σ fun v _=>v=.bool true:=by
 have:=(h (fun _ _=>none) (fun _ _ _ _ _ _ _ _ _ h=>by cases h) σ args vs c _ [] ha hs rfl rfl hc).1;intro ρ w aw hH hL;rcases this ρ w aw hH hL with⟨_,h2⟩|⟨c',_,h2⟩
 ·refine h2.mono fun e w' ⟨c',h3,h4⟩=>⟨c',h3,h4.mono fun u σ' hr=>?_⟩;have:=(hr.flat rfl).2;simpa only [SR,KC,List.cons.injEq,and_true] using this
 ·have:=h2 w (Like.refl ρ w);rw[MW he aw w] at this;cases this
end
end Go.V
namespace Go.V
open Go
mutual
inductive AP:Type→Type 1 where
 |k (k:Kind):AP k.T
 |agg {D:Type}(l:AL D):AP D
 |ptr {D:Type}(l:AL D):AP D
 |fn (ks:List Kind) (r:Kind):AP ((AT ks→Prop)×(AT ks→r.T))
 |nilS:AP Unit
 |any:AP Unit
inductive AL:Type→Type 1 where
 |nil:AL Unit
 |one {D:Type}(a:AP D):AL D
 |cons {D E:Type}(a:AP D) (r:AL E):AL (D×E)
end
def CE:(ks:List Kind)→AT ks→List SV
 |[],_=>[]
 |[k],x=>[FZ k x]
 |k::k'::ks,x=>FZ k x.1::CE (k'::ks) x.2
abbrev Ap:=SV→List SV→Option (Prop×SV)
def Q5a (ap:Ap) (f:SV) (ks:List Kind) (r:Kind) (x:AT ks):Prop:=match ap f (CE ks x) with
 |some (c,v)=>(match gap.asV r v with|some _=>c|none=>False)
 |none=>False
def fnP (ap:Ap) (f:SV) (ks:List Kind) (r:Kind) (x:AT ks):r.T:=match ap f (CE ks x) with
 |some (_,v)=>(match gap.asV r v with|some y=>y|none=>r.dflt)
 |none=>r.dflt
mutual
def AP.dec (ap:Ap):{D:Type}→(p:AP D)→SV→Option D
 |_,.k k,v=>match k with
  |.list k=>view [] k v
  |.i ik=>PT (.i ik) [v]
  |.bo=>PT .bo [v]
  |.st=>PT .st [v]
  |.pair _ _=>none
 |_,.agg l,v=>match v with|.agg vs=>AL.dec ap l vs|_=>none
 |_,.nilS,v=>match v with|.nilS=>some ()|_=>none
 |_,.any,_=>some ()
 |_,.ptr l,v=>match v with|.cp vs 0=>AL.dec ap l vs|_=>none
 |_,.fn ks r,v=>match v with
  |.fn g a b=>some (Q5a ap (.fn g a b) ks r,fnP ap (.fn g a b) ks r)
  |.pf sX r' cE p=>some (Q5a ap (.pf sX r' cE p) ks r,fnP ap (.pf sX r' cE p) ks r)
  |_=>none
def AL.dec (ap:Ap):{D:Type}→(l:AL D)→List SV→Option D
 |_,.nil,vs=>match vs with|[]=>some ()|_=>none
 |_,.one a,vs=>match vs with|[v]=>AP.dec ap a v|_=>none
 |_,.cons a r,vs=>match vs with
  |v::vs=>(match AP.dec ap a v,AL.dec ap r vs with|some x,some y=>some (x,y)|_,_=>none)
  |[]=>none
end
mutual
def AP.can:{D:Type}→(p:AP D)→D→SV
 |_,.k k,x=>.val k x
 |_,.agg l,x=>.agg (AL.can l x)
 |_,.nilS,_=>.nilS
 |_,.any,_=>.any
 |_,.ptr l,x=>.cp (AL.can l x) 0
 |_,.fn ks r,x=>.pf ks r x.1 x.2
def AL.can:{D:Type}→(l:AL D)→D→List SV
 |_,.nil,_=>[]
 |_,.one a,x=>[AP.can a x]
 |_,.cons a r,x=>AP.can a x.1::AL.can r x.2
end
def Wi {D:Type}(l:AL D) (pre:D→Prop) (res:D→SV) (obs:D→List OB):CSp:=fun ap args=>match AL.dec ap l args with
 |some d=>some (pre d,res d,obs d)
 |none=>none
section
variable {P:Program}{σ:Heap}
theorem Dl:∀ {ks:List Kind}{x:AT ks}{vs:List Value},L8 σ ks x vs→SRs P σ Xu Jc (CE ks x) vs
 |[],x,vs,h=>by simp only[L8] at h;subst h;simp[CE,SRs]
 |[k],x,vs,h=>by obtain⟨v,rfl,h1⟩:=h;simp only[CE,SRs];exact⟨v,[],rfl,JU h1,rfl⟩
 |k::k'::ks,x,vs,h=>by obtain⟨v,cM,rfl,h1,h2⟩:=h;simp only[CE,SRs];exact⟨v,cM,rfl,JU h1,Dl h2⟩
theorem Im {ap:Ap}(ec:Q41 P ap) {f:SV}{v:Value}(hf:SR P σ Xu Jc f v) (hv:∃ g a b,v=.func (.func g) a b) (ks:List Kind) (r:Kind):SR P σ Xu Jc (.pf ks r (Q5a ap f ks r) (fnP ap f ks r)) v:=by
 obtain⟨g,a,b,rfl⟩:=hv;simp only[SR];refine⟨g,a,b,rfl,fun x hd τ vs hle cC=>?_⟩;unfold Q5a at hd;split at hd
 ·rename_i c u ot;split at hd
  ·rename_i y hy;obtain⟨h1,g',a',b',h2,h3⟩:=ec τ f (CE ks x) c u (.func (.func g) a b) vs (SR.mono hle (fun _ _ h=>h) _ _ hf) (Dl cC) ot hd;obtain⟨rfl,rfl,rfl⟩:=(by simpa using h2:g=g'∧a=a'∧b=b');have hp:fnP ap f ks r x=y:=by simp[fnP,ot,hy]
   rw[hp];exact h3.mono fun u' σ' hu=>⟨hu.1,(RP hy hu.2).vcall (Iw _)⟩
  ·exact hd.elim
 ·exact hd.elim
mutual
theorem AP.dec_sound {ap:Ap}(ec:Q41 P ap):∀ {D:Type}(p:AP D) {v:SV}{x:D}{u:Value},AP.dec ap p v=some x→SR P σ Xu Jc v u→SR P σ Xu Jc (AP.can p x) u
 |_,.k k,v,x,u,h,hs=>by
  have one:SRs P σ Xu Jc [v] [u]:=by simp only[SRs];exact⟨u,[],rfl,hs,rfl⟩
  simp only[AP.can,SR];cases k with
  |list k =>have:=Wk (own:=[]) (Heap.Le.refl σ) (fun d=>(trivial:OR P σ Xu Jc σ (Xu d) .dead)) (show view [] k v=some x from h) hs;exact⟨u,rfl,this⟩
  |i ik=>exact Qk (k:=.i ik) h one
  |bo=>exact Qk (k:=.bo) h one
  |st=>exact Qk (k:=.st) h one
  |pair a b=>cases h
 |_,.agg l,v,x,u,h,hs=>by
  simp only[AP.dec] at h;split at h
  ·simp only[SR] at hs;obtain⟨cs,rfl,hs⟩:=hs;simp only[AP.can,SR];exact⟨cs,rfl,AL.dec_sound ec l h hs⟩
  ·cases h
 |_,.any,v,x,u,h,hs=>by simp only[AP.can,SR]
 |_,.nilS,v,x,u,h,hs=>by
  simp only[AP.dec] at h;split at h
  ·simp only[AP.can];exact hs
  ·cases h
 |_,.ptr l,v,x,u,h,hs=>by
  simp only[AP.dec] at h;split at h
  ·simp only[SR] at hs;obtain⟨b,c,e,wr,t,h1,rfl,h3⟩:=hs;simp only[AP.can,SR];exact⟨b,c,e,wr,t,h1,rfl,AL.dec_sound ec l h h3⟩
  ·cases h
 |_,.fn ks r,v,x,u,h,hs=>by
  simp only[AP.dec] at h;split at h
  ·obtain rfl:=osj h;exact Im ec hs (by simp only[SR] at hs;obtain⟨x,y,rfl,_⟩:=hs;exact⟨_,_,_,rfl⟩) ks r
  ·obtain rfl:=osj h;exact Im ec hs (by simp only[SR] at hs;obtain⟨g,x,y,rfl,_⟩:=hs;exact⟨_,_,_,rfl⟩) ks r
  ·cases h
theorem AL.dec_sound {ap:Ap}(ec:Q41 P ap):∀ {D:Type}(l:AL D) {vs:List SV}{x:D}{us:List Value},AL.dec ap l vs=some x→SRs P σ Xu Jc vs us→SRs P σ Xu Jc (AL.can l x) us
 |_,.nil,vs,x,us,h,hs=>by
  simp only[AL.dec] at h;split at h
  ·exact hs
  ·cases h
 |_,.one a,vs,x,us,h,hs=>by
  simp only[AL.dec] at h;split at h
  ·obtain⟨u,rfl,h1⟩:=hs.one;simp only[AL.can,SRs];exact⟨u,[],rfl,AP.dec_sound ec a h h1,rfl⟩
  ·cases h
 |_,.cons a r,vs,x,us,h,hs=>by
  simp only[AL.dec] at h;split at h
  ·rename_i v cM;split at h
   ·rename_i y z h1 h2;obtain rfl:=osj h;simp only[SRs] at hs;obtain⟨u,mA,rfl,h3,h4⟩:=hs;simp only[AL.can,SRs];exact⟨u,mA,rfl,AP.dec_sound ec a h1 h3,AL.dec_sound ec r h2 h4⟩
   ·cases h
  ·cases h
end
theorem CsOk.nil:CsOk P []:=fun f sp h=>by cases h
theorem CsOk.cons {f:Nat}{sp:CSp}{cs:List (Nat×CSp)}(h:OkC P f sp) (t:CsOk P cs):CsOk P ((f,sp)::cs):=fun g vh hg=>by
 simp only[Qf] at hg;cases hb:Nat.beq f g with
 |true=>rw[hb] at hg;obtain rfl:=Nat.eq_of_beq_eq_true hb;obtain rfl:=osj hg;exact h
 |false=>rw[hb] at hg;exact t g vh hg
theorem COk.cons {C:Cx}{f:Nat}{sp:CSp}(h:OkC P f sp) (t:COk P C):COk P {C with cs:=(f,sp)::C.cs}:=⟨CsOk.cons h t.cs,t.xs,t.it,t.yl,t.iy,t.xf⟩
theorem Z0s {f:Nat}{vc:VCode}{rs:List VResult}{nt:Nat}(h:Fun P f vc rs nt) (hm:P.follows .mixedOrders=true) {D:Type}{l:AL D}{pre:D→Prop}{res:D→SV}{obs:D→List OB}
  {C:Cx}(aA:COk P C) (L:D→List (Nat×LoopAnn)) (hb:∀ d,pre d→gwp C (L d) vc 0 (YU rs (res d) (obs d)) (Qh nt (AL.can l d))):OkC P f (Wi l pre res obs):=by
 refine h.okC hm fun ap ec args c v bs hs hc=>?_;unfold Wi at hs;split at hs
 ·rename_i d hd;obtain⟨rfl,rfl,rfl⟩:=(by simpa using hs:pre d=c∧res d=v∧obs d=bs);exact⟨C,L d,AL.can l d,fun σ vs hv=>AL.dec_sound ec l hd hv,aA,hb d hc⟩
 ·cases hs
theorem QB {f:Nat}{vc:VCode}{rs:List VResult}{nt:Nat}(h:Fun P f vc rs nt) (hm:P.follows .mixedOrders=true) {D:Type}{l:AL D}{pre:D→Prop}{res:D→SV}{obs:D→List OB}
  {C:Cx}(aA:COk P C) {L:D→List (Nat×LoopAnn)}{V:D→Prop}(hq:∀ d,gwp C (L d) vc 0 (YU rs (res d) (obs d)) (Qh nt (AL.can l d))=V d) (hb:∀ d,pre d→V d):OkC P f (Wi l pre res obs) :=
 Z0s h hm aA L fun d hp=>(hq d).mpr (hb d hp)
end
end Go.V
namespace Go.V
open Go
def Z44 (key:Nat) (vals:List Value) (rs:List VResult) (K:SV→St→Prop):Exit→St→Prop:=fun e s =>
 let fin:=match KI s rs,Q7 s.own key with
  |some r,.stk l vs=>vs=vals∧K r ⟨l,s.own,s.nx⟩
  |_,_=>False
 match e with
 |.normal=>fin
 |.ret=>fin
 |_=>False
def Z36 (C:Cx) (L:List Value→List (Nat×LoopAnn)) (vc:VCode) (rs:List VResult) (nt:Nat):XSp:=fun d args s K =>
 ∀ vals,gwp {C with off:=100000*(d+1)} (L vals) vc 0 (Z44 (100000*(d+1)-1) vals rs K) ⟨SVs.kill (100000*(d+1)-1) args++List.replicate (nt-args.length) .any,(Fa (100000*(d+1)-1) vals s).own,s.nx⟩
section
variable {P:Program}
theorem R_ {B:Heap}{pl:Nat→Value}{tb:Nat→Option Bool}:∀ n,SRs P B pl tb (List.replicate n .any) (List.replicate n undef)
 |0=>by simp[SRs]
 |n+1=>by simp only[List.replicate_succ,SRs];exact⟨_,_,rfl,by simp[SR],R_ n⟩
theorem Q24 {f:Nat}{vc:VCode}{rs:List VResult}{nt:Nat}(h:Fun P f vc rs nt) (hm:P.follows .mixedOrders=true) {C:Cx}(aA:COk P C) (L:List Value→List (Nat×LoopAnn)):XOk P f (Z36 C L vc rs nt):=by
 intro B F pl tb s env σ d args vs K R hG ha hx hK;have hx:=hx env;refine h.calls hm Po ?_;have q3:Gam P B F (Zb pl (100000*(d+1)-1) poison) tb (Fa (100000*(d+1)-1) env s) env σ:=by refine hG.make _ _ poison hG.le (fun _ _ _ _ _=>rfl) ?_ (fun i hl _=>by cases hl);exact SRs.upd (.refl _) (fun _ _ h=>h) (fun j hj=>by simp[Zb,hj]) _ _ hG.env
 have l7:COk P {C with off:=100000*(d+1)}:=⟨aA.cs,aA.xs,aA.it,aA.yl,aA.iy,aA.xf⟩;have av:=SRs.upd (P:=P) (Heap.Le.refl B) (fun _ _ h=>h) (pl':=Zb pl (100000*(d+1)-1) poison) (tb':=tb) (o:=100000*(d+1)-1) (fun j hj=>by simp[Zb,hj]) _ _ ha;have bG:GRel P B F σ ⟨SVs.kill (100000*(d+1)-1) args++List.replicate (nt-args.length) .any,(Fa (100000*(d+1)-1) env s).own,s.nx⟩ (vs++List.replicate (nt-vs.length) undef) σ:=by refine⟨B,F,_,tb,.of hG.bf (.refl _),⟨q3.bf,q3.le,?_,q3.obj,q3.fresh,q3.sep,q3.free⟩⟩;rw[ha.length];exact av.append (R_ _)
 refine My l7 vc 0 _ _ _ σ none _ trivial bG hx fun e s' ae σ' h1 h2=>?_
 ·have main:(match KI s' rs,Q7 s'.own (100000*(d+1)-1) with
   |some r,.stk l vs=>vs=env∧K r ⟨l,s'.own,s'.nx⟩
   |_,_=>False)→QJ (JJ ae σ' rs) fun v=>∃ v' aD,DropTo σ v σ' v' aD∧R v' aD:=fun h=>by
   obtain⟨B',F',pl',tb',k1,k2⟩:=h2;split at h
   ·rename_i r l cM hr gu;obtain⟨rfl,h⟩:=h;obtain⟨u,h3,h4⟩:=XT k2 hr;rw[h3];have aj:=k2.obj (100000*(d+1)-1);rw[gu] at aj;exact⟨u,σ',.refl _ _ _,hK r _ B' F' pl' tb' u σ' h k1 ⟨k2.bf,k2.le,aj,k2.obj,k2.fresh,k2.sep,k2.free⟩ h4⟩
   ·exact h.elim
  cases e with
  |normal=>exact main h1
  |ret=>exact main h1
  |_=>exact h1.elim
end
end Go.V
namespace Go.V
open Go
def Z3o:SV→Option Nat
 |.lst o=>some o
 |.box o off=>bif Nat.beq off 0 then some o else none
 |_=>none
def lsv:OB→SV
 |.lst _ _ _ _=>.lst 0
 |_=>.box 0 0
def Z2v:SV→OB→Bool
 |.lst _,.lst _ _ _ _=>true
 |.box _ _,.cells _ _=>true
 |_,_=>false
abbrev LSp:=Ap→OB→List SV→Option (Prop×SV×OB)
def Cu (ap:Ap) (sp:LSp):XSp:=fun _ args s K =>
 match args with
 |a::args=>(match Z3o a with
  |some o=>bif (Q7 s.own o).ret&&Z2v a (Q7 s.own o) then (match sp ap (Q7 s.own o) (SF (oset s.own o .dead) args) with
    |some (c,v,b)=>bif v.ret 0&&b.ret then c∧K v ⟨s.env,oset s.own o b,s.nx⟩ else False
    |none=>False) else False
  |none=>False)
 |[]=>False
def JO (nt:Nat) (a0:SV) (b:OB) (vals:List Value) (args:List SV):St:=⟨a0::(args++List.replicate (nt-(args.length+1)) .any),[(0,b),(4000000,.stk [a0] vals)],0⟩
def Hh (vals:List Value) (rs:List VResult) (v:SV) (b:OB) (a0:SV):Exit→St→Prop:=fun e s =>
 let fin:=match KI s rs,Q7 s.own 4000000 with
  |some r,.stk l vs=>vs=vals∧Mc [(0,some 0)] [a0] l∧PJ [] v r∧Q0l s [(0,some 0)] 0 b
  |_,_=>False
 match e with
 |.normal=>fin
 |.ret=>fin
 |_=>False
section
variable {P:Program}
theorem Heap.Le.kill' {B σ:Heap}(h:B.Le σ) {i:Nat}(hi:B.get i=none):B.Le (σ.kill i):=⟨h.1,fun j b hb=>by
 have:j≠i:=by rintro rfl;rw[hi] at hb;cases hb
 rw[Heap.get_kill_ne _ this];exact h.2 _ _ hb⟩
theorem Heap.kill_le (σ:Heap) (i:Nat):(σ.kill i).Le σ:=⟨Nat.le_refl _,fun j b hb=>by
 by_cases e:j=i
 ·subst e;rw[Heap.get_kill_self] at hb;cases hb
 ·rwa [Heap.get_kill_ne _ e] at hb⟩
def SC (σ:Heap) (p:Value):Heap:=match oid p with|some i=>σ.kill i|none=>σ
theorem Oa (σ:Heap) (p:Value):(SC σ p).Le σ:=by
 unfold SC;split
 ·exact Heap.kill_le _ _
 ·exact .refl _
theorem PV {B σ:Heap}{p:Value}(h:B.Le σ) (hi:∀ i,oid p=some i→B.get i=none):B.Le (SC σ p):=by
 unfold SC;split
 ·rename_i i e;exact h.kill' (hi i e)
 ·exact h
theorem LM {σ:Heap}{p:Value}{i:Nat}(h:oid p=some i):(SC σ p).get i=none:=by unfold SC;rw[h];exact Heap.get_kill_self _ _
theorem S0 {σ:Heap}{p:Value}{i:Nat}(h:oid p≠some i):(SC σ p).get i=σ.get i:=by
 unfold SC;split
 ·rename_i j e;exact Heap.get_kill_ne _ (by rintro rfl;exact h e)
 ·rfl
theorem Q23 {p:Value}{i:Nat}(hp:∀ l,p≠.tuple l) (h:Oid p i):oid p=some i:=by cases p<;>first|exact h|exact absurd rfl (hp _)
theorem OB.ret_live {b:OB}(h:b.ret=true):b.live=true:=by cases b<;>first|rfl|cases h
theorem Q5r {o:Nat}{b:OB}(h:Z2v (.lst o) b=true):lsv b=.lst 0:=by cases b<;>first|rfl|cases h
theorem Q4z {o off:Nat}{b:OB}(h:Z2v (.box o off) b=true):lsv b=.box 0 0:=by cases b<;>first|rfl|cases h
theorem Q5p {f:Nat}{vc:VCode}{rs:List VResult}{nt:Nat}(h:Fun P f vc rs nt) (hm:P.follows .mixedOrders=true) {sp:LSp}{ap:Ap}
  (hb:∀ b args c v b',sp ap b args=some (c,v,b')→c→∃ (C:Cx) (L:List Value→List (Nat×LoopAnn)) (bm:List SV),SVs.pure bm=true∧(∀ σ vs,SRs P σ Xu Jc args vs→SRs P σ Xu Jc bm vs)∧COk P C∧∀ vals,gwp C (L vals) vc 0 (Hh vals rs v b' (lsv b)) (JO nt (lsv b) b vals bm)):XOk P f (Cu ap sp):=by
 intro B F pl tb s env σ d args vs K R hG ha hx hK;unfold Cu at hx;split at hx
 ·rename_i a args;split at hx
  ·rename_i o aR;cases iB:((Q7 s.own o).ret&&Z2v a (Q7 s.own o)) with
   |false=>rw[iB] at hx;exact hx.elim
   |true =>
   rw[iB] at hx;simp only[_root_.cond_true] at hx;simp only[Bool.and_eq_true] at iB;obtain⟨kK,fj⟩:=iB;split at hx
   ·rename_i c v b' fb;cases cn:(v.ret 0&&b'.ret) with
    |false=>rw[cn] at hx;exact hx.elim
    |true =>
    rw[cn] at hx;obtain⟨hc,hx⟩:=hx;simp only[Bool.and_eq_true] at cn;simp only[SRs] at ha;obtain⟨u,us,rfl,jg,dj⟩:=ha;have af:=OB.ret_live kK;have aj:=hG.obj o;have aS:∀ i,oid (pl o)=some i→F.get i=none:=fun i hi=>hG.fresh o i af (Ma hi);have l8:∀ i,oid (pl o)=some i→B.get i=none:=fun i hi=>by
     cases hg:B.get i with
     |none=>rfl
     |some b=>have:=hG.bf.2 _ _ hg;rw[aS i hi] at this;cases this
    have cS:∀ l,pl o≠.tuple l:=fun l he=>by
     unfold Z3o at aR;split at aR
     ·obtain rfl:=osj aR;simp only[SR] at jg;obtain⟨rfl,_,_,_,hs⟩:=jg;rw[he] at hs;cases hs
     ·rename_i o' off;cases bq:Nat.beq off 0 with
      |false=>rw[bq] at aR;cases aR
      |true =>rw[bq] at aR;obtain rfl:=osj aR;simp only[SR] at jg;obtain⟨_,h,_⟩:=jg;rw[he] at h;cases h
     ·cases aR
    have gv:∀ (B:Heap) (pl':Nat→Value) (tb':Nat→Option Bool),(SR P B pl' tb' (lsv (Q7 s.own o)) u↔pl' 0=pl o):=fun B pl' tb'=>by
     unfold Z3o at aR;split at aR
     ·obtain rfl:=osj aR;simp only[SR] at jg;rw[Q5r fj];simp only[SR];obtain⟨rfl,hs⟩:=jg;exact⟨fun h=>h.1.symm,fun h=>⟨h.symm,hs⟩⟩
     ·rename_i o' off;cases bq:Nat.beq off 0 with
      |false=>rw[bq] at aR;cases aR
      |true =>
       rw[bq] at aR;obtain rfl:=osj aR;obtain rfl:=Nat.eq_of_beq_eq_true bq;simp only[SR] at jg;rw[Q4z fj];simp only[SR];obtain⟨i,h1,rfl⟩:=jg;rw[h1];constructor
       ·rintro⟨i',h2,h3⟩;rw[h2];simpa using h3.symm
       ·intro h2;exact⟨i,h2,rfl⟩
     ·cases aR
    obtain⟨C,L,bm,jh,l9,aA,hg⟩:=hb _ _ c v b' fb hc;have hg:=hg [u];let σc:=SC σ (pl o);have qY:B.Le σc:=PV hG.leB l8;have pq:F.Le σc:=PV hG.le aS;have av:SRs P σc Xu Jc bm us:=by
     refine l9 σc us (Uw (own:=oset s.own o .dead) qY (pl:=pl) (tb:=tb) (fun d=>?_) dj);rw[Q8];by_cases e:d=o
     ·rw[if_pos e];trivial
     ·rw[if_neg e];exact(hG.obj d).mono (.refl _) (fun _ _ h=>h) fun hl i hi=>S0 fun jN=>hG.sep d o i e hl af hi (Ma jN)
    let l_:Nat→Value:=fun j=>if j=0 then pl o else poison
    have bG:GRel P σc σc σ (JO nt (lsv (Q7 s.own o)) (Q7 s.own o) [u] bm) (u::us++List.replicate (nt-(u::us).length) undef) σ:=by
     refine⟨σc,σc,l_,Jc,⟨.refl _,.refl _,fun _ _ _ h=>h,.refl _⟩,.refl _,Oa _ _,?_,fun j=>?_,fun j i h1 h2=>?_,fun j j' i aC h1 h2 h3 h4=>?_,fun _ _=>rfl⟩
     ·simp only[JO,SRs,List.cons_append];refine⟨u,_,rfl,(gv _ _ _).2 (by simp[l_]),?_⟩;rw[av.length,List.length_cons];refine SRs.append ?_ (R_ _);exact QT _ _ jh av
     ·simp only[JO,Q7];by_cases e0:j=0
      ·subst e0;simp only[Nat.beq_refl,_root_.cond_true];exact aj.retd kK fun i _=>rfl
      ·rw[Q_ (fun e=>e0 e.symm),cond_false];by_cases e1:j=4000000
       ·subst e1;simp only[Nat.beq_refl,_root_.cond_true];exact⟨u,[],rfl,(gv _ _ _).2 (by simp[l_]),rfl⟩
       ·rw[Q_ (fun e=>e1 e.symm),cond_false];trivial
     ·simp only[JO,Q7] at h1;by_cases e0:j=0
      ·subst e0;exact LM (Q23 cS h2)
      ·rw[Q_ (fun e=>e0 e.symm),cond_false] at h1;by_cases e1:j=4000000
       ·subst e1;cases h1
       ·rw[Q_ (fun e=>e1 e.symm),cond_false] at h1;cases h1
     ·have z:∀ j,(Q7 (JO nt (lsv (Q7 s.own o)) (Q7 s.own o) [u] bm).own j).live=true→j=0:=fun j h1=>by
       simp only[JO,Q7] at h1;by_cases e0:j=0
       ·exact e0
       ·rw[Q_ (fun e=>e0 e.symm),cond_false] at h1;by_cases e1:j=4000000
        ·subst e1;cases h1
        ·rw[Q_ (fun e=>e1 e.symm),cond_false] at h1;cases h1
      exact aC ((z j h1).trans (z j' h2).symm)
    refine h.calls hm Po ?_;refine My aA vc 0 _ _ _ σ none _ trivial bG hg fun e s' ae σ' h1 h2=>?_
    have main:(match KI s' rs,Q7 s'.own 4000000 with
     |some r,.stk l vs=>vs=[u]∧Mc [(0,some 0)] [lsv (Q7 s.own o)] l∧PJ [] v r∧Q0l s' [(0,some 0)] 0 b'
     |_,_=>False)→QJ (JJ ae σ' rs) fun v=>∃ v' aD,DropTo σ v σ' v' aD∧R v' aD:=fun h=>by
     obtain⟨B',F',pl',tb',k1,k2⟩:=h2;split at h
     ·rename_i r l cM hr gu;obtain⟨rfl,m1,m2,m3⟩:=h;obtain⟨w,h3,h4⟩:=XT k2 hr;rw[h3];have fC:=k2.obj 4000000;rw[gu] at fC;have ma:pl' 0=pl o:=by
       have:=Zh [lsv (Q7 s.own o)] l [u] m1 fC;simp only[SRs] at this;obtain⟨u',_,cm,h5,_⟩:=this;obtain rfl:u=u':=(List.cons.inj cm).1;have:=(gv _ _ _).1 h5;simpa [V_,Qf] using this
      have fz:=(Qu k2 m3).1;have jc:V_ pl' [(0,some 0)] 0=pl o:=by simpa [V_,Qf] using ma
      rw[jc] at fz;have dF:=(Yw v r w m2 h4).retd (B':=B) (pl':=pl) (tb':=tb) (n:=0) (fun j hj=>by omega) _ _ cn.1;have hle:σc.Le σ':=k1.f.trans k2.le;refine⟨w,σ',.refl _ _ _,hK v _ B F pl tb w σ' hx (.of hG.bf k1.d) ⟨hG.bf,pq.trans hle,hG.env,fun d=>?_,fun d i q1 q2=>?_,fun d d' i aC q1 q2 q3 q4=>?_,hG.free⟩ dF⟩
      ·simp only[Q8];by_cases e:d=o
       ·subst e;rw[if_pos rfl];exact fz.retd cn.2 fun _ _=>rfl
       ·rw[if_neg e];refine (hG.obj d).mono (.refl _) (fun _ _ h=>h) fun hl i hi=>?_;have ah:=(hG.obj d).id_lt hl hi;cases hg:σ.get i with
        |none=>exact k1.d.2 i ah hg
        |some bb=>exact hle.2 _ _ (by rw[S0 fun jN=>hG.sep d o i e hl af hi (Ma jN)];exact hg)
      ·simp only[Q8] at q1;by_cases e:d=o
       ·subst e;exact hG.fresh d i af q2
       ·rw[if_neg e] at q1;exact hG.fresh d i q1 q2
      ·have lv:∀ d,(Q7 (oset s.own o b') d).live=true→(Q7 s.own d).live=true:=fun d h=>by
        rw[Q8] at h;by_cases e:d=o
        ·subst e;exact af
        ·rwa [if_neg e] at h
       exact hG.sep d d' i aC (lv d q1) (lv d' q2) q3 q4
     ·exact h.elim
    cases e with
    |normal=>exact main h1
    |ret=>exact main h1
    |_=>exact h1.elim
   ·exact hx.elim
  ·exact hx.elim
 ·exact hx.elim
mutual
theorem AP.can_pure:∀ {D:Type}(p:AP D) (x:D),(AP.can p x).pure=true
 |_,.k k,x=>rfl
 |_,.agg l,x=>by simp only[AP.can,SV.pure];exact AL.can_pure l x
 |_,.nilS,x=>rfl
 |_,.any,x=>rfl
 |_,.ptr l,x=>by simp only[AP.can,SV.pure];exact AL.can_pure l x
 |_,.fn ks r,x=>rfl
theorem AL.can_pure:∀ {D:Type}(l:AL D) (x:D),SVs.pure (AL.can l x)=true
 |_,.nil,x=>rfl
 |_,.one a,x=>by simp only[AL.can,SVs.pure,AP.can_pure a x];rfl
 |_,.cons a r,x=>by simp only[AL.can,SVs.pure,AP.can_pure a x.1,AL.can_pure r x.2];rfl
end
def Hk (ty:Nat) (k:Kind) {D:Type}(l:AL D) (pre:List k.T→Bool→D→Prop) (res:List k.T→Bool→D→SV) (post:List k.T→Bool→D→List k.T):LSp:=fun ap b args=>match b with
 |.lst eT _k' xs nl=>if eT=ty then (match Vb xs k,AL.dec ap l args with
  |some xs,some d=>some (pre xs nl d,res xs nl d,.lst ty k (post xs nl d) nl)
  |_,_=>none) else none
 |_=>none
theorem Gp {f:Nat}{vc:VCode}{rs:List VResult}{nt:Nat}(h:Fun P f vc rs nt) (hm:P.follows .mixedOrders=true) {ap:Ap}(ec:Q41 P ap) {ty:Nat}{k:Kind}{D:Type}{l:AL D}{pre:List k.T→Bool→D→Prop}{res:List k.T→Bool→D→SV}{post:List k.T→Bool→D→List k.T}
  {C:Cx}(aA:COk P C) {L:List k.T→Bool→D→List Value→List (Nat×LoopAnn)}{V:List k.T→Bool→D→Prop}
  (hq:∀ xs nl d,(∀ vals,gwp C (L xs nl d vals) vc 0 (Hh vals rs (res xs nl d) (.lst ty k (post xs nl d) nl) (.lst 0)) (JO nt (.lst 0) (.lst ty k xs nl) vals (AL.can l d)))=V xs nl d)
  (hb:∀ xs nl d,pre xs nl d→V xs nl d):XOk P f (Cu ap (Hk ty k l pre res post)):=by
 refine Q5p h hm fun b args c v b' hs hc=>?_;unfold Hk at hs;split at hs
 ·rename_i eT k' xs nl;split at hs
  ·rename_i e;subst e;split at hs
   ·rename_i ys d h1 h2;obtain⟨rfl,rfl,rfl⟩:=(by simpa using hs:pre ys nl d=c∧res ys nl d=v∧OB.lst eT k (post ys nl d) nl=b');unfold Vb at h1;split at h1
    ·rename_i e;subst e;obtain rfl:=osj h1;exact⟨C,L xs nl d,AL.can l d,AL.can_pure l d,fun σ vs hv=>AL.dec_sound ec l h2 hv,aA,(hq xs nl d).mpr (hb xs nl d hc)⟩
    ·cases h1
   ·cases hs
  ·cases hs
 ·cases hs
end
end Go.V
namespace Go.V
open Go
abbrev lI {α:Type}(l:List α):Int:=(l.length:Int)
abbrev gD {α:Type}(l:List α) (i:Int) (d:α):α:=l.getD i.toNat d
abbrev sT {α:Type}(l:List α) (i:Int) (x:α):List α:=l.set i.toNat x
abbrev I64 (x:Int):Prop:=InK .i64 x
theorem QQ (x:Int):InK .i64 x↔-9223372036854775808≤x∧x≤9223372036854775807:=by simp[InK,IntKind.min,IntKind.max,IntKind.bits,IntKind.signed]
theorem Ro (x:Int):InK .u8 x↔0≤x∧x≤255:=by simp[InK,IntKind.min,IntKind.max,IntKind.bits,IntKind.signed]
theorem Du (x:Int):InK .u64 x↔0≤x∧x≤18446744073709551615:=by simp[InK,IntKind.min,IntKind.max,IntKind.bits,IntKind.signed]
theorem LoopP.count {F:Int→(Int→Prop)→Prop}(n:Nat) (J:Nat→Prop) (h0:J 0) (hr:∀ k:Nat,k≤n→J k→∀ q:Int→Prop,(k<n→J (k+1)→q ((k:Int)+1))→F k q):LoopP F 0:=by refine⟨fun d=>∃ k:Nat,d=k∧k≤n∧J k,fun d=>n-d.toNat,⟨0,rfl,Nat.zero_le _,h0⟩,fun d ⟨k,hd,hk,hJ⟩=>?_⟩;subst hd;refine hr k hk hJ _ fun ah ou=>⟨⟨k+1,by simp,ah,ou⟩,?_⟩;simp;omega
theorem LoopP.count2 {X:Type}{F:X×Int→(X×Int→Prop)→Prop}(n:Nat) (J:Nat→X→Prop) {x0:X}(h0:J 0 x0) (hr:∀ (k:Nat) (x:X),k≤n→J k x→∀ q:X×Int→Prop,(∀ x',k<n→J (k+1) x'→q (x',(k:Int)+1))→F (x,(k:Int)) q):LoopP F (x0,0):=by refine⟨fun d=>∃ k:Nat,d.2=k∧k≤n∧J k d.1,fun d=>n-d.2.toNat,⟨0,rfl,Nat.zero_le _,h0⟩,fun ⟨x,d⟩ ⟨k,hd,hk,hJ⟩=>?_⟩;simp only at hd hJ;subst hd;refine hr k x hk hJ _ fun x' ah ou=>⟨⟨k+1,by simp,ah,ou⟩,?_⟩;simp;omega
theorem PZ {α β:Type}(p:α×β):(p.1,p.2)=p:=rfl
theorem Q6 {α:Type}{l:List α}{k:Nat}{d:α}(h:k<l.length):l.getD k d=l[k]:=by simp[List.getD_eq_getElem?_getD,List.getElem?_eq_getElem h]
theorem QO {α:Type}{l:List α}{k:Nat}(h:k<l.length):l.take (k+1)=l.take k++[l[k]]:=by rw[List.take_succ_eq_append_getElem h]
def Q6h (agg:Bool) (sz:Nat):VCode :=
 .seq (.region [
  ⟨(some 4),.load false 1 (.tmp 1),none⟩,
  ⟨(some 5),.len (.tmp 4),none⟩,
  ⟨(some 6),.arith .sub (.tmp 5) (.const (.int .i64 (1))),none⟩,
  ⟨(some 3),.move (.tmp 6),none⟩])
 (.block 0 (.loop (.seq (.seq (.region [
    ⟨(some 7),.move (.tmp 3),none⟩,
    ⟨(some 8),.cmp .geq (.tmp 7) (.const (.int .i64 (0))),none⟩])
   (.cond (.tmp 8) (.skip)
    (.exit 0)))
   (.seq (.block 1 (.seq (.region [
     ⟨(some 11),.move (.tmp 0),none⟩,
     ⟨(some 12),.move (.tmp 3),none⟩,
     ⟨(some 13),.load false 1 (.tmp 1),none⟩,
     ⟨(some 14),.move (.tmp 3),none⟩,
     ⟨(some 15),.indexAddr sz (.tmp 13) (.tmp 14),none⟩,
     ⟨(some 16),.load agg sz (.tmp 15),none⟩,
     ⟨(some 17),.callV (.tmp 11) [.tmp 12,.tmp 16],none⟩,
     ⟨(some 18),.un .not (.tmp 17),none⟩])
    (.cond (.tmp 18) (.ret)
     (.skip))))
   (.region [
    ⟨(some 9),.move (.tmp 3),none⟩,
    ⟨(some 10),.arith .sub (.tmp 9) (.const (.int .i64 (1))),none⟩,
    ⟨(some 3),.move (.tmp 10),none⟩])))))
def Z5d (k:Kind):ISp:=fun args=>match args with
 |[.cp l 0]=>(match l with
  |[.val (.list _k') l]=>(match Vb l k with
   |some l=>some (l.length<4611686018427387904,l.length,2,fun j=>[.val (.i .i64) ((l.length:Int)-1-j),FZ k (l.getD (l.length-1-j) k.dflt)])
   |none=>none)
  |_=>none)
 |_=>none
section
variable {P:Program}
theorem Q32:∀ (k:Kind) (x:k.T),(FZ k x).pure=true
 |.i _,_|.bo,_|.st,_|.list _,_=>rfl
 |.pair a b,x=>by
  have app:∀ l m:List SV,SVs.pure l=true→SVs.pure m=true→SVs.pure (l++m)=true:=by
   intro l m hl hm;induction l with
   |nil=>exact hm
   |cons s l ih =>simp only[SVs.pure,Bool.and_eq_true,List.cons_append] at hl ⊢;exact⟨hl.1,ih hl.2⟩
  have cells:∀ (k:Kind) (x:k.T),SVs.pure (Nw k x)=true:=by
   intro k;induction k with
   |pair a b eR eo=>intro x;exact app _ _ (eR x.1) (eo x.2)
   |_=>intro x;rfl
  simp only[FZ,SV.pure];exact cells (.pair a b) x
theorem st1 {S:VSpecs}{d:Nat}{op:VOp}{rest:List VOper}{env:Env}{σ:Heap}{K:Env→Heap→Prop}{v:Value}(hv:∀ K',vop S op env σ K'=QJ (Q4 op (Q3 env) σ) fun p=>K' p.1 p.2) (h:Q4 op (Q3 env) σ=some (v,σ)) (hr:Bw S rest (env.set d v) σ K):Bw S (⟨some d,op,none⟩::rest) env σ K:=by show QJ (some true) _;refine⟨fun _=>?_,fun e=>by cases e⟩;rw[hv,h];exact hr
theorem Q87 {B τ:Heap}(hle:B.Le τ) {k:Kind}{l:List k.T}{x:Value}(hs:SlRel B k.size (fun x c=>KC B k x c) l x) {n:Nat}(hn:n<l.length) :
  ∃ i o cap c e wr t w,x=.slice (some ⟨i,o,none⟩) l.length cap∧τ.get i=some (.cells c e wr t)∧Xs (!k.one) k.size c (o+n*k.size)=some w∧KV B k l[n] w:=by
 rcases hs with⟨rfl,_⟩|⟨i,o,cap,c,e,wr,t,h1,h2,h3,h4,h5,h6⟩
 ·simp at hn
 ·have hmul:n*k.size+k.size≤l.length*k.size:=by
   have:=Nat.mul_le_mul_right k.size (show n+1≤l.length from hn)
   rwa [Nat.add_mul,Nat.one_mul] at this
  have dM:=h6.at (n:=k.size) (fun x c hx=>KC.length hx) hn;have e1:(((c.drop o).take (l.length*k.size)).drop (n*k.size)).take k.size=(c.drop (o+n*k.size)).take k.size:=by rw[List.drop_take,List.drop_drop,List.take_take,Nat.min_eq_left (by omega)]
  rw[e1] at dM;have hlen:=KC.length dM;cases bC:k.one with
  |true =>
   have ax:=Kind.one_size bC;rw[ax] at dM hlen hmul h5 ⊢;have ah:o+n*1<c.length:=by omega
   refine⟨i,o,cap,c,e,wr,t,c[o+n*1],h1,hle.2 _ _ h3,?_,.inl ⟨bC,?_⟩⟩
   ·simp[Xs]
   ·have:(c.drop (o+n*1)).take 1=[c[o+n*1]]:=by
     rw[List.drop_eq_getElem_cons ah];rfl
    rw[this] at dM;exact dM
  |false =>refine⟨i,o,cap,c,e,wr,t,_,h1,hle.2 _ _ h3,?_,.inr ⟨bC,_,rfl,dM⟩⟩;simp only[Xs,Bool.not_false,if_true];rw[if_pos (by omega)]
theorem VYields.mono {i:Nat}{args:List Value}{σ:Heap}{R R':Value→Heap→Prop}(h:VYields P i args σ R) (hr:∀ v σ',R v σ'→R' v σ'):VYields P i args σ R':=by intro ρ w aw hH hL;obtain⟨p,h1,fn,tmps,eC,body,h2,h3⟩:=h ρ w aw hH hL;exact⟨p,h1,fn,tmps,eC,body,h2,h3.mono fun e w' ⟨c,he,hg⟩=>⟨c,he,hg.mono hr⟩⟩
set_option maxHeartbeats 4000000 in
theorem Q5j {B τ:Heap}{k:Kind}{l1:List k.T}{x:Value}{i b j:Nat}{Y:Rr}{J:Nat→Heap→Prop}{E:Heap→Prop}(hY:Vl P i Y)
  (pr:∀ (env:Env) (j:Nat),Q3 env (.tmp j)=.pointer (some ⟨b,0,none⟩)→Q4 (.load false 1 (.tmp j)) (Q3 env) τ=some (x,τ)) (iH:SlRel B k.size (fun x c=>KC B k x c) l1 x) (jX:B.Le τ) (fI:j≤l1.length) (hc:l1.length<4611686018427387904)
  (dU:j<l1.length→∀ us,SRs P B Xu Jc [.val (.i .i64) ((l1.length:Int)-1-j),FZ k (l1[l1.length-1-j]?.getD k.dflt)] us→Y us τ fun v τ'=>(v=.bool true∧J (j+1) τ')∨(v=.bool false∧E τ'))
  {Q:Exit→Env→Heap→Prop}(vi:J l1.length τ→∀ env,Q .normal env τ) (vj:∀ τ,E τ→∀ env,Q .ret env τ) (hJ:J j τ) {n:Nat}(ef:n=l1.length-j) (len:Nat) (hlen:len=19) :
  vwp (Q2 P) (.seq (.seq (.region [
    ⟨(some 7),.move (.tmp 3),none⟩,
    ⟨(some 8),.cmp .geq (.tmp 7) (.const (.int .i64 (0))),none⟩])
   (.cond (.tmp 8) (.skip)
    (.exit 0)))
   (.seq (.block 1 (.seq (.region [
     ⟨(some 11),.move (.tmp 0),none⟩,
     ⟨(some 12),.move (.tmp 3),none⟩,
     ⟨(some 13),.load false 1 (.tmp 1),none⟩,
     ⟨(some 14),.move (.tmp 3),none⟩,
     ⟨(some 15),.indexAddr k.size (.tmp 13) (.tmp 14),none⟩,
     ⟨(some 16),.load (!k.one) k.size (.tmp 15),none⟩,
     ⟨(some 17),.callV (.tmp 11) [.tmp 12,.tmp 16],none⟩,
     ⟨(some 18),.un .not (.tmp 17),none⟩])
    (.cond (.tmp 18) (.ret)
     (.skip))))
   (.region [
    ⟨(some 9),.move (.tmp 3),none⟩,
    ⟨(some 10),.arith .sub (.tmp 9) (.const (.int .i64 (1))),none⟩,
    ⟨(some 3),.move (.tmp 10),none⟩]))) none (fun e ae aD=>match e with
   |.normal=>∃ n',n'<n∧∃ j,j≤l1.length∧n'=l1.length-j∧Bm [0,1,3] ae=[.func (.yield i) #[] #[],.pointer (some ⟨b,0,none⟩),.int .i64 ((l1.length:Int)-1-j)]∧J j aD
   |e=>E_ 0 Q e ae aD) (XM [0,1,3] [.func (.yield i) #[] #[],.pointer (some ⟨b,0,none⟩),.int .i64 ((l1.length:Int)-1-j)] (List.replicate len poison)) τ:=by
 subst hlen;show Bw _ _ [.func (.yield i) #[] #[],.pointer (some ⟨b,0,none⟩),poison,.int .i64 ((l1.length:Int)-1-j),poison,poison,poison,poison,poison,poison,poison,poison,poison,poison,poison,poison,poison,poison,poison] _ _;refine st1 (fun _=>rfl) rfl ?_;refine st1 (v:=.bool (decide ((0:Int)≤(l1.length:Int)-1-j))) (fun _=>rfl) rfl ?_;show Ei (.bool _) _ _;refine⟨fun bh=>?_,fun ah=>?_⟩
 ·have bh:(0:Int)≤(l1.length:Int)-1-j:=by simpa using bh
  have fG:l1.length-1-j<l1.length:=by omega
  obtain⟨i',o',aq,c',e',ka,t',w,q1,q2,q3,q4⟩:=Q87 jX iH fG;show Bw _ _ _ _ _;refine st1 (fun _=>rfl) rfl ?_;refine st1 (fun _=>rfl) rfl ?_;refine st1 (fun _=>rfl) (pr _ _ rfl) ?_;refine st1 (fun _=>rfl) rfl ?_;refine st1 (v:=.pointer (some ⟨i',o'+(l1.length-1-j)*k.size,none⟩)) (fun _=>rfl) ?_ ?_
  ·rw[q1];show (if 0≤(l1.length:Int)-1-j∧(l1.length:Int)-1-j<l1.length then some (Value.pointer (some ⟨i',o'+((l1.length:Int)-1-j).toNat*k.size,none⟩),τ) else none)=_;rw[if_pos ⟨bh,by omega⟩];have:((l1.length:Int)-1-j).toNat=l1.length-1-j:=by omega
   rw[this]
  refine st1 (v:=w) (fun _=>rfl) ?_ ?_
  ·show (match τ.get i' with|some (.cells c _ _ _)=>(match Xs (!k.one) k.size c (o'+(l1.length-1-j)*k.size) with|some v=>some (v,τ)|none=>none)|_=>none)=_;rw[q2];simp only[q3]
  show QJ (some true) _;refine⟨fun _=>?_,fun e=>by cases e⟩;show VYields P i [.int .i64 ((l1.length:Int)-1-j),w] τ _;refine VYields.mono (hY _ _ _ (dU (by omega) [.int .i64 ((l1.length:Int)-1-j),w] ?_)) ?_
  ·simp only[SRs];refine⟨_,_,rfl,rfl,w,[],rfl,?_,rfl⟩;rw[List.getElem?_eq_getElem fG];exact JU q4
  ·rintro v τ' (⟨rfl,ou⟩|⟨rfl,hE⟩)
   ·show Bw _ _ _ _ _;refine st1 (v:=.bool false) (fun _=>rfl) rfl ?_;show Ei (.bool false) _ _;refine⟨(fun e=>by cases e),fun _=>?_⟩;show Bw _ _ _ _ _;refine st1 (fun _=>rfl) rfl ?_;refine st1 (v:=.int .i64 ((l1.length:Int)-1-(j+1:Nat))) (fun _=>rfl) ?_ ?_
    ·show (if IntKind.i64=IntKind.i64 then some (Value.int .i64 (IntKind.i64.wrap ((l1.length:Int)-1-j-1)),τ') else none)=_;rw[if_pos rfl,F8 (by omega)];simp only[Option.some.injEq,Prod.mk.injEq,Value.int.injEq,true_and,and_true];omega
    refine st1 (fun _=>rfl) rfl ?_;exact⟨l1.length-(j+1),by omega,j+1,by omega,rfl,rfl,ou⟩
   ·show Bw _ _ _ _ _;refine st1 (v:=.bool true) (fun _=>rfl) rfl ?_;show Ei (.bool true) _ _;refine⟨fun _=>?_,fun e=>by cases e⟩;exact vj _ hE _
 ·have ah:¬ (0:Int)≤(l1.length:Int)-1-j:=by simpa using ah
  have hj:j=l1.length:=by omega
  subst hj;exact vi hJ _
theorem Z5l {f:Nat}{k:Kind}(h:Fun P f (Q6h (!k.one) k.size) [] 19) (hm:P.follows .mixedOrders=true):Q8t P f (Z5d k):=by
 refine⟨h.enterable,fun B args vs c m ar xs hs gH hc=>?_⟩;unfold Z5d at gH;split at gH
 ·rename_i l0;split at gH
  ·rename_i k' l1;split at gH
   ·rename_i l hl;unfold Vb at hl;split at hl
    ·rename_i e;subst e;obtain rfl:=osj hl;obtain⟨rfl,rfl,rfl,rfl⟩:=(by simpa using gH:(l1.length<4611686018427387904)=c∧l1.length=m∧2=ar∧_=xs);refine⟨fun j=>⟨rfl,by simp only[SVs.pure,SV.pure,Q32];rfl⟩,fun i Y J E τ0 hY hle dU h0=>?_⟩;simp only[SRs,SR] at hs;obtain⟨cap,_,rfl,⟨b,cc,e,wr,t,hb,rfl,x,_,rfl,⟨y,hy,iH⟩,rfl⟩,rfl⟩:=hs;obtain rfl:x=y:=by simpa using hy
     have cell:∀ τ,B.Le τ→τ.get b=some (.cells [x] e wr t):=fun τ hτ=>hτ.2 _ _ hb;obtain⟨xa,vn,bH⟩:=SlRel.len iH;have ic:∀ (env:Env) (σ:Heap) (j:Nat),Q3 env (.tmp j)=x→Q4 (.len (.tmp j)) (Q3 env) σ=some (.int .i64 l1.length,σ):=fun env σ j hj=>by simp only[Q4,hj,bH]
     refine h.callsTo hm Po ?_;have pr:∀ (env:Env) (σ:Heap) (j:Nat),B.Le σ→Q3 env (.tmp j)=.pointer (some ⟨b,0,none⟩)→Q4 (.load false 1 (.tmp j)) (Q3 env) σ=some (x,σ):=fun env σ j hσ hj=>by simp only[Q4,hj,cell σ hσ,Xs];rfl
     have qZ:=hle 0 τ0 h0;show Bw _ _ _ _ _;refine st1 (fun _=>rfl) (pr _ _ _ qZ rfl) ?_;refine st1 (fun _=>rfl) (ic _ _ _ rfl) ?_;refine st1 (v:=.int .i64 ((l1.length:Int)-1)) (fun _=>rfl) ?_ ?_
     ·show (if IntKind.i64=IntKind.i64 then some (Value.int .i64 (IntKind.i64.wrap ((l1.length:Int)-1)),τ0) else none)=_;rw[if_pos rfl,F8 (by omega)]
     refine st1 (v:=.int .i64 ((l1.length:Int)-1)) (fun _=>rfl) rfl ?_;show Q9l _ _ _ _;refine⟨[0,1,3],fun n vs τ=>∃ j,j≤l1.length∧n=l1.length-j∧vs=[.func (.yield i) #[] #[],.pointer (some ⟨b,0,none⟩),.int .i64 ((l1.length:Int)-1-j)]∧J j τ,l1.length,⟨0,Nat.zero_le _,rfl,?_,h0⟩,fun n vs τ ⟨j,fI,ef,vp,hJ⟩=>?_⟩
     ·simp[Bm]
     ·subst vp;have jX:=hle j τ hJ;refine Q5j (J:=J) (E:=E) hY (fun env jj h=>pr _ _ _ jX h) iH jX fI hc (fun ah us dj=>dU j us τ ah hJ dj) ?_ ?_ hJ ef _ rfl
      ·exact fun hJ env=>⟨_,_,.refl _ _ _,.inl hJ⟩
      ·exact fun τ hE env=>⟨_,_,.refl _ _ _,.inr hE⟩
    ·cases hl
   ·cases gH
  ·cases gH
 ·cases gH
theorem YlOk.nil:∀ o y,Qf ([]:List (Nat×YSp)) o=some y→Q5s P o y:=fun o y h=>by cases h
theorem IysOk.nil:∀ f x,Qf ([]:List (Nat×Q9e)) f=some x→Z0i P f x:=fun f x h=>by cases h
theorem IysOk.cons {f:Nat}{x:Q9e}{l:List (Nat×Q9e)}(h:Z0i P f x) (t:∀ g y,Qf l g=some y→Z0i P g y):∀ g y,Qf ((f,x)::l) g=some y→Z0i P g y:=fun g y hg=>by
 simp only[Qf] at hg;cases hb:Nat.beq f g with
 |true=>rw[hb] at hg;obtain rfl:=Nat.eq_of_beq_eq_true hb;obtain rfl:=osj hg;exact h
 |false=>rw[hb] at hg;exact t g y hg
theorem XsOk.nil:∀ f x,Qf ([]:List (Nat×XSp)) f=some x→XOk P f x:=fun f x h=>by cases h
theorem XsOk.cons {f:Nat}{x:XSp}{l:List (Nat×XSp)}(h:XOk P f x) (t:∀ g y,Qf l g=some y→XOk P g y):∀ g y,Qf ((f,x)::l) g=some y→XOk P g y:=fun g y hg=>by
 simp only[Qf] at hg;cases hb:Nat.beq f g with
 |true=>rw[hb] at hg;obtain rfl:=Nat.eq_of_beq_eq_true hb;obtain rfl:=osj hg;exact h
 |false=>rw[hb] at hg;exact t g y hg
theorem ItsOk.nil:∀ f x,Qf ([]:List (Nat×ISp)) f=some x→Q8t P f x:=fun f x h=>by cases h
theorem ItsOk.cons {f:Nat}{x:ISp}{l:List (Nat×ISp)}(h:Q8t P f x) (t:∀ g y,Qf l g=some y→Q8t P g y):∀ g y,Qf ((f,x)::l) g=some y→Q8t P g y:=fun g y hg=>by
 simp only[Qf] at hg;cases hb:Nat.beq f g with
 |true=>rw[hb] at hg;obtain rfl:=Nat.eq_of_beq_eq_true hb;obtain rfl:=osj hg;exact h
 |false=>rw[hb] at hg;exact t g y hg
def Rv:Ap:=fun _ _=>none
theorem UF:Q41 P Rv:=fun _ _ _ _ _ _ _ _ _ h=>by cases h
end
end Go.V
namespace Go.Proofs.Tryz
open Go Go.V Go.Proofs
theorem Q4s:Fun Tryz.prog 115 (Q6h true 2) [] 19:=⟨Tryz.f115,Tryz.func115,by kernel_rfl,by kernel_rfl,rfl,rfl⟩
end Go.Proofs.Tryz
namespace Go.V
open Go
section
variable {P:Program}
theorem XfOk.nil {xs:List (Nat×XSp)}:∀ f j,Qf ([]:List (Nat×Nat)) f=some j→∀ x,Qf xs f=some x→Q94 P f x j:=fun f j h=>by cases h
theorem XfOk.cons {xs:List (Nat×XSp)}{g k:Nat}{y:XSp}{l:List (Nat×Nat)}(hy:Qf xs g=some y) (h:Q94 P g y k) (t:∀ f j,Qf l f=some j→∀ x,Qf xs f=some x→Q94 P f x j):∀ f j,Qf ((g,k)::l) f=some j→∀ x,Qf xs f=some x→Q94 P f x j:=fun f j hf x hx=>by
 simp only[Qf] at hf;cases hb:Nat.beq g f with
 |true =>rw[hb] at hf;obtain rfl:=Nat.eq_of_beq_eq_true hb;obtain rfl:=osj hf;obtain rfl:=osj (hy.symm.trans hx);exact h
 |false=>rw[hb] at hf;exact t f j hf x hx
end
end Go.V
namespace Go.V
open Go
def Heap.over (B F:Heap):Heap where
 get i:=match B.get i with|some b=>some b|none=>F.get i
 n:=Nat.max B.n F.n
 wf i h:=by have h1:B.n≤i:=Nat.le_trans (Nat.le_max_left _ _) h;have h2:F.n≤i:=Nat.le_trans (Nat.le_max_right _ _) h;rw[B.wf i h1];exact F.wf i h2
theorem Heap.over_none {B F:Heap}{i:Nat}(h1:B.get i=none) (h2:F.get i=none):(B.over F).get i=none:=by show (match B.get i with|some b=>some b|none=>F.get i)=none;rw[h1];exact h2
theorem Heap.over_left {B F:Heap}:B.Le (B.over F):=⟨Nat.le_max_left _ _,fun i b h=>by
 show (match B.get i with|some b=>some b|none=>F.get i)=some b;rw[h]⟩
theorem Heap.over_right {B F σ:Heap}(hB:B.Le σ) (hF:F.Le σ):F.Le (B.over F):=⟨Nat.le_max_right _ _,fun i b h=>by
 show (match B.get i with|some b=>some b|none=>F.get i)=some b;cases hb:B.get i with
 |none=>exact h
 |some b' =>
  have h1:=hB.2 _ _ hb;have h2:=hF.2 _ _ h;rw[h1] at h2;exact h2⟩
theorem Heap.over_le {B F σ:Heap}(hB:B.Le σ) (hF:F.Le σ):(B.over F).Le σ:=⟨Nat.max_le.2 ⟨hB.1,hF.1⟩,fun i b h=>by
 have h:(match B.get i with|some b=>some b|none=>F.get i)=some b:=h;cases hb:B.get i with
 |none=>rw[hb] at h;exact hF.2 _ _ h
 |some b'=>rw[hb] at h;rw[←h];exact hB.2 _ _ hb⟩
theorem GBase.over {B F σ B' σ':Heap}(hB:B.Le B') (er:B'.Le σ') (hF:F.Le σ') (hx:∀ i b,F.get i=some b→B.get i=none→B'.get i=none) (hd:Dead σ σ'):GBase B F σ B' (B'.over F) σ' :=
 ⟨hB,Heap.over_right er hF,hx,hd⟩
def O_ (ap:Ap) (sp:LSp):XSp:=fun _ args s K =>
 match args with
 |.lst o::args=>bif SVs.pure args&&(Q7 s.own o).isL then (match sp ap (Q7 s.own o) args with
   |some (c,v,b)=>bif v.ret 0&&b.isL then c∧K v ⟨s.env,oset s.own o b,s.nx⟩ else False
   |none=>False) else False
 |_=>False
def callV (ap:Ap) (sp:CSp):XSp:=fun d args s K =>
 let s1:=(⟨s.env++args,s.own,s.nx⟩:St).frzs (MT args);let a1:=s1.env.drop s.env.length
 bif SVs.pure a1 then (match sp ap a1 with
  |some (c,v,bs)=>bif v.ret bs.length&&bs.all OB.isL then c∧K (v.ren d 500000) ((⟨s1.env.take s.env.length,s1.own,s1.nx⟩:St).makes d 500000 0 bs) else False
  |none=>False) else False
section
variable {P:Program}
theorem OB.isL_lst {b:OB}(h:b.isL=true):∃ ty k xs nl,b=.lst ty k xs nl:=by cases b<;>first|exact⟨_,_,_,_,rfl⟩|cases h
theorem Q53 {f:Nat}{vc:VCode}{rs:List VResult}{nt:Nat}(h:Fun P f vc rs nt) (hm:P.follows .mixedOrders=true) {sp:LSp}{ap:Ap}
  (hb:∀ b args c v b',sp ap b args=some (c,v,b')→c→∃ (C:Cx) (L:List Value→List (Nat×LoopAnn)) (bm:List SV),SVs.pure bm=true∧(∀ σ vs,SRs P σ Xu Jc args vs→SRs P σ Xu Jc bm vs)∧COk P C∧∀ vals,gwp C (L vals) vc 0 (Hh vals rs v b' (lsv b)) (JO nt (lsv b) b vals bm)):XOk P f (O_ ap sp):=by
 intro B F pl tb s env σ d args vs K R hG ha hx hK;unfold O_ at hx;split at hx
 ·rename_i o args;cases iB:(SVs.pure args&&(Q7 s.own o).isL) with
  |false=>rw[iB] at hx;exact hx.elim
  |true =>
  rw[iB] at hx;simp only[_root_.cond_true] at hx;simp only[Bool.and_eq_true] at iB;obtain⟨ov,q8⟩:=iB;obtain⟨ty,k,xs,nl,aO⟩:=OB.isL_lst q8;rw[aO] at hx;split at hx
  ·rename_i c v b' fb;cases cn:(v.ret 0&&b'.isL) with
   |false=>rw[cn] at hx;exact hx.elim
   |true =>
   rw[cn] at hx;obtain⟨hc,hx⟩:=hx;simp only[Bool.and_eq_true] at cn;simp only[SRs] at ha;obtain⟨u,us,rfl,jg,dj⟩:=ha;have af:(Q7 s.own o).live=true:=by rw[aO];rfl
   have aj:=hG.obj o;rw[aO] at aj;simp only[SR] at jg;obtain⟨rfl,hs⟩:=jg;have aS:∀ i,oid (pl o)=some i→F.get i=none:=fun i hi=>hG.fresh o i af (Ma hi);have l8:∀ i,oid (pl o)=some i→B.get i=none:=fun i hi=>by
    cases hg:B.get i with
    |none=>rfl
    |some b=>have:=hG.bf.2 _ _ hg;rw[aS i hi] at this;cases this
   have cS:∀ l,pl o≠.tuple l:=fun l he=>by obtain⟨_,_,_,hs⟩:=hs;rw[he] at hs;cases hs
   have gv:∀ (B:Heap) (pl':Nat→Value) (tb':Nat→Option Bool),(SR P B pl' tb' (.lst 0) (pl o)↔pl' 0=pl o):=fun B pl' tb'=>by simp only[SR];exact⟨fun h=>h.1.symm,fun h=>⟨h.symm,hs⟩⟩
   obtain⟨C,L,bm,jh,l9,aA,hg⟩:=hb _ _ c v b' fb hc;have hg:=hg [pl o];let σc:=SC σ (pl o);have qY:B.Le σc:=PV hG.leB l8;have pq:F.Le σc:=PV hG.le aS;have av:SRs P B Xu Jc bm us:=l9 B us (QT _ _ ov dj);let l_:Nat→Value:=fun j=>if j=0 then pl o else poison
   have bG:GRel P B σc σ (JO nt (.lst 0) (.lst ty k xs nl) [pl o] bm) (pl o::us++List.replicate (nt-(pl o::us).length) undef) σ:=by
    refine⟨B,σc,l_,Jc,⟨.refl _,.refl _,fun _ _ _ h=>h,.refl _⟩,qY,Oa _ _,?_,fun j=>?_,fun j i h1 h2=>?_,fun j j' i aC h1 h2 h3 h4=>?_,fun _ _=>rfl⟩
    ·simp only[JO,SRs,List.cons_append];refine⟨pl o,_,rfl,(gv _ _ _).2 (by simp[l_]),?_⟩;rw[av.length,List.length_cons];refine SRs.append ?_ (R_ _);exact QT _ _ jh av
    ·simp only[JO,Q7];by_cases e0:j=0
     ·subst e0;simp only[Nat.beq_refl,_root_.cond_true];exact aj
     ·rw[Q_ (fun e=>e0 e.symm),cond_false];by_cases e1:j=4000000
      ·subst e1;simp only[Nat.beq_refl,_root_.cond_true];exact⟨pl o,[],rfl,(gv _ _ _).2 (by simp[l_]),rfl⟩
      ·rw[Q_ (fun e=>e1 e.symm),cond_false];trivial
    ·simp only[JO,Q7] at h1;by_cases e0:j=0
     ·subst e0;exact LM (Q23 cS h2)
     ·rw[Q_ (fun e=>e0 e.symm),cond_false] at h1;by_cases e1:j=4000000
      ·subst e1;cases h1
      ·rw[Q_ (fun e=>e1 e.symm),cond_false] at h1;cases h1
    ·have z:∀ j,(Q7 (JO nt (.lst 0) (.lst ty k xs nl) [pl o] bm).own j).live=true→j=0:=fun j h1=>by
      simp only[JO,Q7] at h1;by_cases e0:j=0
      ·exact e0
      ·rw[Q_ (fun e=>e0 e.symm),cond_false] at h1;by_cases e1:j=4000000
       ·subst e1;cases h1
       ·rw[Q_ (fun e=>e1 e.symm),cond_false] at h1;cases h1
     exact aC ((z j h1).trans (z j' h2).symm)
   refine h.calls hm Po ?_;refine My aA vc 0 _ _ _ σ none _ trivial bG hg fun e s' ae σ' h1 h2=>?_
   have main:(match KI s' rs,Q7 s'.own 4000000 with
    |some r,.stk l vs=>vs=[pl o]∧Mc [(0,some 0)] [.lst 0] l∧PJ [] v r∧Q0l s' [(0,some 0)] 0 b'
    |_,_=>False)→QJ (JJ ae σ' rs) fun v=>∃ v' aD,DropTo σ v σ' v' aD∧R v' aD:=fun h=>by
    obtain⟨B',F',pl',tb',k1,k2⟩:=h2;split at h
    ·rename_i r l cM hr gu;obtain⟨rfl,m1,m2,m3⟩:=h;obtain⟨w,h3,h4⟩:=XT k2 hr;rw[h3];have fC:=k2.obj 4000000;rw[gu] at fC;have ma:pl' 0=pl o:=by
      have:=Zh [.lst 0] l [pl o] m1 fC;simp only[SRs] at this;obtain⟨u',_,cm,h5,_⟩:=this;obtain rfl:pl o=u':=(List.cons.inj cm).1;have:=(gv _ _ _).1 h5;simpa [V_,Qf] using this
     obtain⟨fz,ox⟩:=Qu k2 m3;have jc:V_ pl' [(0,some 0)] 0=pl o:=by simpa [V_,Qf] using ma
     rw[jc] at fz ox;have dF:=(Yw v r w m2 h4).retd (B':=B') (pl':=pl) (tb':=tb) (n:=0) (fun j hj=>by omega) _ _ cn.1;have hle:σc.Le σ':=k1.f.trans k2.le;have er:B'.Le σ':=k2.leB;obtain⟨eT,jT,cw,iz,rfl⟩:=OB.isL_lst cn.2;have bg:∀ d,d≠o→(Q7 s.own d).live=true→∀ i,Oid (pl d) i→B'.get i=none∧σ'.get i=σ.get i:=fun d e hl i hi=>by
      have ah:=(hG.obj d).id_lt hl hi;have jN:oid (pl o)≠some i:=fun jN=>hG.sep d o i e hl af hi (Ma jN);cases hg:σ.get i with
      |none =>
       have hn:=k1.d.2 i ah hg;refine⟨?_,hn⟩;cases bJ:B'.get i with
       |none=>rfl
       |some bb=>have:=er.2 _ _ bJ;rw[hn] at this;cases this
      |some bb =>
       have cA:σc.get i=some bb:=by rw[S0 jN];exact hg
       refine⟨k1.x i bb cA ?_,hle.2 _ _ cA⟩;cases bJ:B.get i with
       |none=>rfl
       |some b2=>have:=hG.bf.2 _ _ bJ;rw[hG.fresh d i hl hi] at this;cases this
     have oy:∀ i,Oid (pl o) i→B'.get i=none:=fun i hi=>by
      obtain⟨a,_,e2,e3⟩:=ox rfl i hi;have:=k2.fresh a i e2 e3;cases bJ:B'.get i with
      |none=>rfl
      |some b2=>have h9:=k2.bf.2 _ _ bJ;rw[this] at h9;cases h9
     have hZ:F.Le σ':=pq.trans hle;refine⟨w,σ',.refl _ _ _,hK v _ B' (B'.over F) pl tb w σ' hx (.over k1.b er hZ (fun i b e1 e2=>k1.x i b (pq.2 _ _ e1) e2) k1.d) ⟨Heap.over_left,Heap.over_le er hZ,SRs.mono k1.b (fun _ _ h=>h) _ _ hG.env,fun d=>?_,fun d i q1 q2=>?_,fun d d' i aC q1 q2 q3 q4=>?_,hG.free⟩ dF⟩
     ·simp only[Q8];by_cases e:d=o
      ·subst e;rw[if_pos rfl];exact fz
      ·rw[if_neg e];exact(hG.obj d).mono k1.b (fun _ _ h=>h) fun hl i hi=>(bg d e hl i hi).2
     ·simp only[Q8] at q1;by_cases e:d=o
      ·subst e;exact Heap.over_none (oy i q2) (hG.fresh d i af q2)
      ·rw[if_neg e] at q1;exact Heap.over_none (bg d e q1 i q2).1 (hG.fresh d i q1 q2)
     ·have lv:∀ d,(Q7 (oset s.own o (.lst eT jT cw iz)) d).live=true→(Q7 s.own d).live=true:=fun d h=>by
       rw[Q8] at h;by_cases e:d=o
       ·subst e;exact af
       ·rwa [if_neg e] at h
      exact hG.sep d d' i aC (lv d q1) (lv d' q2) q3 q4
    ·exact h.elim
   cases e with
   |normal=>exact main h1
   |ret=>exact main h1
   |_=>exact h1.elim
  ·exact hx.elim
 ·exact hx.elim
theorem R2 {f:Nat}{vc:VCode}{rs:List VResult}{nt:Nat}(h:Fun P f vc rs nt) (hm:P.follows .mixedOrders=true) {ap:Ap}(ec:Q41 P ap) {ty:Nat}{k:Kind}{D:Type}{l:AL D}{pre:List k.T→Bool→D→Prop}{res:List k.T→Bool→D→SV}{post:List k.T→Bool→D→List k.T}
  {C:Cx}(aA:COk P C) {L:List k.T→Bool→D→List Value→List (Nat×LoopAnn)}{V:List k.T→Bool→D→Prop}
  (hq:∀ xs nl d,(∀ vals,gwp C (L xs nl d vals) vc 0 (Hh vals rs (res xs nl d) (.lst ty k (post xs nl d) nl) (.lst 0)) (JO nt (.lst 0) (.lst ty k xs nl) vals (AL.can l d)))=V xs nl d)
  (hb:∀ xs nl d,pre xs nl d→V xs nl d):XOk P f (O_ ap (Hk ty k l pre res post)):=by
 refine Q53 h hm fun b args c v b' hs hc=>?_;unfold Hk at hs;split at hs
 ·rename_i eT k' xs nl;split at hs
  ·rename_i e;subst e;split at hs
   ·rename_i ys d h1 h2;obtain⟨rfl,rfl,rfl⟩:=(by simpa using hs:pre ys nl d=c∧res ys nl d=v∧OB.lst eT k (post ys nl d) nl=b');unfold Vb at h1;split at h1
    ·rename_i e;subst e;obtain rfl:=osj h1;exact⟨C,L xs nl d,AL.can l d,AL.can_pure l d,fun σ vs hv=>AL.dec_sound ec l h2 hv,aA,(hq xs nl d).mpr (hb xs nl d hc)⟩
    ·cases h1
   ·cases hs
  ·cases hs
 ·cases hs
theorem SRs.split {B:Heap}{pl:Nat→Value}{tb:Nat→Option Bool}:∀ {a:List SV}{u v:List Value},SRs P B pl tb a (u++v)→SRs P B pl tb (a.take u.length) u∧SRs P B pl tb (a.drop u.length) v
 |a,[],v,h=>⟨by simp[SRs],by simpa using h⟩
 |[],x::u,v,h=>by simp only[SRs] at h;cases h
 |s::a,x::u,v,h=>by simp only[SRs,List.cons_append] at h;obtain⟨y,ys,e,h1,h2⟩:=h;obtain⟨rfl,rfl⟩:=List.cons.inj e;obtain⟨h3,h4⟩:=SRs.split h2;simp only[List.length_cons,List.take_succ_cons,List.drop_succ_cons,SRs];exact⟨⟨_,_,rfl,h1,h3⟩,h4⟩
theorem P4 {B F σ:Heap}{tb tbc:Nat→Option Bool}{env:Env}{σ0:Heap}{d nt:Nat}(cS:0<nt) (di:Nat→Value) (bs:List OB) (hF:F.Le σ)
  (aj:∀ j b,bs[j]?=some b→b.isL=true∧OR P B di tbc σ (di j) b∧∀ i,Oid (di j) i→σ0.n≤i∧F.get i=none)
  (bV:∀ j j' i,j<bs.length→j'<bs.length→j≠j'→Oid (di j) i→Oid (di j') i→False) :
  ∀ (r:List OB) (j:Nat) (pl:Nat→Value) (s:St),bs.drop j=r→Gam P B F pl tb s env σ→(∀ k i,(Q7 s.own k).live=true→Oid (pl k) i→i<σ0.n∨∃ j'<j,j'<bs.length∧Oid (di j') i∧k=d+j'*nt)→(∀ j'<j,j'<bs.length→pl (d+j'*nt)=di j') →
   ∃ pl',Gam P B F pl' tb (s.makes d nt j r) env σ∧(∀ j'<bs.length,pl' (d+j'*nt)=di j')
 |[],j,pl,s,hr,hG,_,hp=>⟨pl,hG,fun j' bc=>hp j' (by
   have:=congrArg List.length hr;simp at this;omega) bc⟩
 |b::r,j,pl,s,hr,hG,hinv,hp=>by
  have b6:j<bs.length:=by
   rcases Nat.lt_or_ge j bs.length with h|h
   ·exact h
   ·rw[List.drop_eq_nil_of_le h] at hr;cases hr
  have cN:bs[j]?=some b:=by
   have:(bs.drop j)[0]?=some b:=by rw[hr];rfl
   simpa using this
  have fT:bs.drop (j+1)=r:=by
   have:(bs.drop j).drop 1=r:=by rw[hr];rfl
   simpa [List.drop_drop,Nat.add_comm] using this
  obtain⟨h1,h2,h3⟩:=aj j b cN;obtain⟨ty,k,xs,nl,rfl⟩:=OB.isL_lst h1;have aR:∀ j' ,j'≠j→d+j'*nt≠d+j*nt:=fun j' aC e=>aC (Nat.eq_of_mul_eq_mul_right cS (by omega));refine P4 cS di bs hF aj bV r (j+1) (Zb pl (d+j*nt) (di j)) (s.make (d+j*nt) (.lst ty k xs nl)) fT (hG.make (d+j*nt) (.lst ty k xs nl) (di j) hF (fun _ _ _ _ _=>rfl) h2 fun i _ hi=>⟨(h3 i hi).2,fun k' hk hl e=>?_⟩) (fun k' i hl hi=>?_) fun j' bc lS=>?_
  ·rcases hinv k' i hl e with h|⟨j',bc,ef,he,_⟩
   ·have:=(h3 i hi).1;omega
   ·exact bV j j' i b6 ef (by omega) hi he
  ·by_cases hk:k'=d+j*nt
   ·subst hk;simp only[Zb,if_true] at hi;exact .inr ⟨j,by omega,b6,hi,rfl⟩
   ·have bM:(Q7 s.own k').live=true:=by
     simp only[St.make,St.kill,Q8,Yl,if_neg hk] at hl
     rwa [OB.live_kill] at hl
    simp only[Zb,if_neg hk] at hi;rcases hinv k' i bM hi with h|⟨j',bc,h5⟩
    ·exact .inl h
    ·exact .inr ⟨j',by omega,h5⟩
  ·by_cases e:j'=j
   ·subst e;simp[Zb]
   ·simp only[Zb,if_neg (aR j' e)];exact hp j' (by omega) lS
theorem Q4e {f:Nat}{vc:VCode}{rs:List VResult}{nt:Nat}(h:Fun P f vc rs nt) (hm:P.follows .mixedOrders=true) {sp:CSp}{ap:Ap}
  (hb:∀ q_ c v bs,sp ap q_=some (c,v,bs)→c→∃ (C:Cx) (L:List (Nat×LoopAnn)) (oz:List SV),SVs.pure oz=true∧(∀ σ vs,SRs P σ Xu Jc q_ vs→SRs P σ Xu Jc oz vs)∧COk P C∧gwp C L vc 0 (YU rs v bs) (Qh nt oz)):XOk P f (callV ap sp):=by
 intro B F pl tb s env σ d args vals K R hG ha hx hK;unfold callV at hx;have vq:Gam P B F pl tb ⟨s.env++args,s.own,s.nx⟩ (env++vals) σ:=⟨hG.bf,hG.le,hG.env.append ha,hG.obj,hG.fresh,hG.sep,hG.free⟩;obtain⟨B1,F1,pw,ra,vt,gO⟩:GRel P B F σ ((⟨s.env++args,s.own,s.nx⟩:St).frzs (MT args)) (env++vals) σ:=GRel.frzs _ ⟨B,F,pl,tb,.of hG.bf (.refl _),vq⟩;generalize ((⟨s.env++args,s.own,s.nx⟩:St).frzs (MT args))=s1 at hx gO;dsimp only at hx;have hlen:s.env.length=env.length:=hG.env.length;obtain⟨gU,ij⟩:=SRs.split gO.env;rw[hlen] at hx;have eW:Gam P B1 F1 pw ra ⟨s1.env.take env.length,s1.own,s1.nx⟩ env σ:=⟨gO.bf,gO.le,gU,gO.obj,gO.fresh,gO.sep,gO.free⟩;generalize s1.env.drop env.length=a1 at hx ij;generalize (⟨s1.env.take env.length,s1.own,s1.nx⟩:St)=s2 at hx eW;cases ov:SVs.pure a1 with
 |false=>rw[ov] at hx;exact hx.elim
 |true =>
 rw[ov] at hx;simp only[_root_.cond_true] at hx;split at hx
 ·rename_i c v bs fb;cases cn:(v.ret bs.length&&bs.all OB.isL) with
  |false=>rw[cn] at hx;exact hx.elim
  |true =>
  rw[cn] at hx;obtain⟨hc,hx⟩:=hx;simp only[Bool.and_eq_true] at cn;obtain⟨hv,gB⟩:=cn;obtain⟨C,L,oz,dO,iA,l7,hg⟩:=hb _ c v bs fb hc;have av:=iA B1 vals (QT _ _ ov ij);have bG:GRel P B1 σ σ (Qh nt oz) (vals++List.replicate (nt-vals.length) undef) σ:=by
   refine⟨B1,σ,Xu,Jc,⟨.refl _,.refl _,fun _ _ _ h=>h,.refl _⟩,eW.leB,.refl _,?_,fun k=>?_,fun k i' h1 h2=>?_,fun k k' i' vu h1 h2 h3 h4=>?_,fun _ _=>rfl⟩
   ·simp only[Qh];rw[av.length];exact SRs.append (QT _ _ dO av) (R_ _)
   ·simp only[Qh,Q7];trivial
   ·simp only[Qh,Q7] at h1;cases h1
   ·simp only[Qh,Q7] at h1;cases h1
  refine h.calls hm Po ?_;refine My l7 vc 0 _ _ _ σ none _ trivial bG hg fun e s' ae σ' h1 h2=>?_
  have main:(match KI s' rs with
   |some r=>(match Q13 v r [] with
    |some mp=>PJ mp v r∧Q2m s' mp 0 bs
    |none=>False)
   |none=>False)→QJ (JJ ae σ' rs) fun v=>∃ v' aD,DropTo σ v σ' v' aD∧R v' aD:=fun h=>by
   obtain⟨B',F',pl',tb',k1,k2⟩:=h2;split at h
   ·rename_i r hr;split at h
    ·rename_i mp jc;obtain⟨g1,g2⟩:=h;obtain⟨u,h3,h4⟩:=XT k2 hr;have iD:=Yw v r u g1 h4;have dV:=Aa v r [] mp jc (fun t t' a h=>by cases h);have aj:∀ j b,bs[j]?=some b→Q0l s' mp j b:=fun j b hj=>by have:=Rx bs 0 g2 j b hj;rwa [Nat.zero_add] at this
     rw[h3];have hle:σ.Le σ':=k1.f.trans k2.le;have er:B'.Le σ':=k2.leB;have aW:∀ j b,bs[j]?=some b→b.isL=true∧OR P B' (V_ pl' mp) Jc σ' (V_ pl' mp j) b∧∀ i,Oid (V_ pl' mp j) i→σ.n≤i∧(B'.over F1).get i=none:=fun j b hj=>by
      obtain⟨m1,m2⟩:=Qu k2 (aj j b hj);have hl:=List.all_eq_true.1 gB b (List.mem_of_getElem? hj);obtain⟨ty,k,xs,nl,rfl⟩:=OB.isL_lst hl;refine⟨hl,m1,fun i hi=>?_⟩;obtain⟨a,_,e2,e3⟩:=m2 rfl i hi;have po:=k2.fresh a i e2 e3;have oA:σ.get i=none:=by
       cases hg:σ.get i with
       |none=>rfl
       |some b=>have h9:=k1.f.2 _ _ hg;rw[po] at h9;cases h9
      have kQ:B'.get i=none:=by
       cases hg:B'.get i with
       |none=>rfl
       |some b=>have h9:=k2.bf.2 _ _ hg;rw[po] at h9;cases h9
      have rb:F1.get i=none:=by
       cases hg:F1.get i with
       |none=>rfl
       |some b=>have h9:=eW.le.2 _ _ hg;rw[oA] at h9;cases h9
      refine⟨Nat.le_of_not_lt fun ah=>?_,Heap.over_none kQ rb⟩;have bk:=k1.d.2 i ah oA;rcases m1 with⟨_,_,h2⟩|⟨_,i',cap,c,t,h2,_,h3,_⟩
      ·rw[h2] at hi;cases hi
      ·rw[h2] at hi;obtain rfl:=osj hi;rw[h3] at bk;cases bk
     have bV:∀ j j' i,j<bs.length→j'<bs.length→j≠j'→Oid (V_ pl' mp j) i→Oid (V_ pl' mp j') i→False:=fun j j' i hj bc aC hi bI=>by
      have bp:=List.getElem?_eq_getElem hj;have bW:=List.getElem?_eq_getElem bc;have r1:=List.all_eq_true.1 gB _ (List.getElem_mem hj);have r2:=List.all_eq_true.1 gB _ (List.getElem_mem bc);have l1:(bs[j]).live=true:=by cases jD:bs[j]<;>first|rfl|(rw[jD] at r1;cases r1)
      have l2:(bs[j']).live=true:=by cases jD:bs[j']<;>first|rfl|(rw[jD] at r2;cases r2)
      obtain⟨a,e1,e2,e3⟩:=(Qu k2 (aj j _ bp)).2 l1 i hi;obtain⟨a',qW,kG,qX⟩:=(Qu k2 (aj j' _ bW)).2 l2 i bI;by_cases e:a=a'
      ·subst e;exact aC (dV j j' a e1 qW)
      ·exact k2.sep a a' i e e2 kG e3 qX
     have hZ:F1.Le σ':=eW.le.trans hle;have bg:∀ d,(Q7 s2.own d).live=true→∀ i,Oid (pw d) i→B'.get i=none∧σ'.get i=σ.get i:=fun d hl i hi=>by
      refine⟨?_,eW.heap_get hle hl hi⟩;have ah:=(eW.obj d).id_lt hl hi;cases hg:σ.get i with
      |none =>
       have hn:=k1.d.2 i ah hg;cases bJ:B'.get i with
       |none=>rfl
       |some bb=>have:=er.2 _ _ bJ;rw[hn] at this;cases this
      |some bb =>
       refine k1.x i bb hg ?_;cases bJ:B1.get i with
       |none=>rfl
       |some b2=>have:=eW.bf.2 _ _ bJ;rw[eW.fresh d i hl hi] at this;cases this
     have vw:Gam P B' (B'.over F1) pw ra s2 env σ':=⟨Heap.over_left,Heap.over_le er hZ,SRs.mono k1.b (fun _ _ h=>h) _ _ eW.env,fun d=>(eW.obj d).mono k1.b (fun _ _ h=>h) fun hl i hi=>(bg d hl i hi).2,fun d i q1 q2=>Heap.over_none (bg d q1 i q2).1 (eW.fresh d i q1 q2),eW.sep,eW.free⟩;obtain⟨vz,h5,h6⟩:=P4 (d:=d) (nt:=500000) (σ0:=σ) (tbc:=Jc) (by omega) (V_ pl' mp) bs (Heap.over_le er hZ) aW bV bs 0 pw s2 rfl vw (fun k i hl hi=>.inl ((eW.obj k).id_lt hl hi)) (fun j' bc=>by omega);refine⟨u,σ',.refl _ _ _,hK _ _ B' (B'.over F1) vz ra u σ' hx (vt.trans (.over k1.b er hZ (fun i b e1 e2=>k1.x i b (eW.le.2 _ _ e1) e2) k1.d)) h5 ?_⟩;exact SR.ren (tb:=Jc) (fun j hj=>h6 j hj) _ _ hv iD
    ·exact h.elim
   ·exact h.elim
  cases e with
  |normal=>exact main h1
  |ret=>exact main h1
  |_=>exact h1.elim
 ·exact hx.elim
theorem Ai {f:Nat}{vc:VCode}{rs:List VResult}{nt:Nat}(h:Fun P f vc rs nt) (hm:P.follows .mixedOrders=true) {ap:Ap}(ec:Q41 P ap) {D:Type}{la:AL D}{pre:D→Prop}{res:D→SV}{obs:D→List OB}
  {C:Cx}(aA:COk P C) {L:D→List (Nat×LoopAnn)}{V:D→Prop}
  (hq:∀ y,gwp C (L y) vc 0 (YU rs (res y) (obs y)) (Qh nt (AL.can la y))=V y)
  (hb:∀ y,pre y→V y):XOk P f (callV ap (Wi la pre res obs)):=Q4e h hm fun q_ c v bs hs hc=>by
 unfold Wi at hs;split at hs
 ·rename_i y h2;obtain⟨rfl,rfl,rfl⟩:=(by simpa using hs:pre y=c∧res y=v∧obs y=bs);exact⟨C,L y,AL.can la y,AL.can_pure la y,fun σ vs hv=>AL.dec_sound ec la h2 hv,aA,(hq y).mpr (hb y hc)⟩
 ·cases hs
end
end Go.V
namespace Go.V
open Go
theorem AS (x:Nat):BitVec.ofInt 64 (x:Int)=BitVec.ofNat 64 x:=by apply BitVec.eq_of_toNat_eq;simp
theorem toNat_ofInt {x:Nat}(h:x<9223372036854775808):(BitVec.ofInt 64 (x:Int)).toNat=x:=by rw[AS,BitVec.toNat_ofNat,Nat.mod_eq_of_lt (by omega)]
end Go.V
namespace Go.Proofs.Tryz
open Go Go.V Go.Proofs
abbrev q4 {A B C D E:Type}(x:A×B×C×D×E):E:=x.2.2.2.2
def inI (n a b:Int):Bool:=decide (a≤n)&&decide (n≤b)
def Q44 (l:List Int) (p:Int→Bool):Int:=match l.findIdx? p with|some i=>(i:Int)|none=>-1
section
variable {α:Type}(R:α→α→Bool)
def Y2 (a:α):List α→Nat
 |[]=>0
 |x::r=>if R a x then max (Y2 x r+1) (Y2 a r) else Y2 a r
def WV:List α→List Int
 |[]=>[]
 |a::r=>((Y2 R a r+1:Nat):Int)::WV r
def Q5n (a:α):List α→List α
 |[]=>[]
 |x::r=>if Y2 R a (x::r)≤Y2 R a r then x::Q5n a r else Q5n x r
def Q6y (a:α):List α→List α
 |[]=>[]
 |x::r=>if R a x&&decide (Y2 R x r+1=Y2 R a (x::r)) then x::Q6y x r else Q6y a r
end
def YO {α:Type}(p:α→α→Bool):List α→Nat
 |[]=>0
 |a::r=>(r.filter (p a)).length+YO p r
def Q5 (l:List Int):Int:=if 96<l.length then 5 else if l.any (fun x=>!inI x (-1) 95) then 2 else 0
def thr (l:List Int):List (Int×Int):=((List.range l.length).map fun (w:Nat)=>((w:Int),l.getD w 0)).filter fun p=>p.2 != -1
def B5 (l:List Int) (a b:Int):Bool:=(decide (l.getD a.toNat 0≥0)&&decide (l.getD b.toNat 0≥0))&&decide (l.getD (F7 a b).toNat 0≥l.getD (K0 a b).toNat 0)
def Yr (l:List Int):Int:=(YO (fun (a b:Nat)=>B5 l a b) (List.range l.length):Nat)
def ZM (x y:Int×Int):Bool:=decide (x.2<y.2)
def QM (x y:Int×Int):Bool:=decide (x.2≥y.2)
def Q5z (l:List Int):List Int:=(Q5n ZM (-1,-1) (thr l)).map (·.1)
def UZ (l:List Int):List Int:=(Q6y QM (-1,96) (thr l)).map (·.1)
def PL (l:List Int):Int:=l.foldl K0 0
def GU {α:Type}(l:List α) (p:α→Bool):Int:=match l.findIdx? p with|some i=>(i:Int)|none=>-1
def Vu (s:List (List Int)×List (Int×Int)) (a:Int×Int):List (List Int)×List (Int×Int):=match s.2.findIdx? (fun x=>!(decide (x.2≥a.2))) with
 |some i=>(s.1.set i (s.1.getD i []++[a.1]),s.2.set i a)
 |none=>(s.1++[[a.1]],s.2++[a])
def Q14 (t:List (Int×Int)):List (List Int)×List (Int×Int):=t.foldl Vu ([],[])
def Vo (l:List Int):List (List Int):=(Q14 (thr l)).1
def u8s (l:List Int):Prop:=∀ x∈l,0≤x∧x≤255
section
variable {α:Type}{R:α→α→Bool}
theorem F6 {x:α}{r:List α}{a:α}:Y2 R a r≤Y2 R a (x::r):=by
 simp only[Y2];split
 ·exact Nat.le_max_right _ _
 ·exact Nat.le_refl _
theorem E1 {x:α}{r:List α}{a:α}(h:Y2 R a r<Y2 R a (x::r)):R a x=true∧Y2 R a (x::r)=Y2 R x r+1:=by
 simp only[Y2] at h ⊢;split at h
 ·rename_i hx;refine⟨hx,?_⟩;rw[if_pos hx];omega
 ·omega
theorem O0 {l:List α}:∀ {a:α},(∀ x∈l,R a x=true)→((Y2 R a l:Nat):Int)=(WV R l).foldl K0 0:=by
 have key:∀ (l:List α) (m:Nat) (a:α),(∀ x∈l,R a x=true)→(WV R l).foldl K0 (m:Int)=((max m (Y2 R a l):Nat):Int):=by
  intro l;induction l with
  |nil=>intro m a _;simp[WV,Y2]
  |cons x r ih =>
   intro m a h;have hx:=h x List.mem_cons_self;have e:K0 (m:Int) ((Y2 R x r+1:Nat):Int)=((max m (Y2 R x r+1):Nat):Int):=by unfold K0;split<;>omega
   simp only[WV,List.foldl_cons,Y2,hx,if_true,e];rw[ih _ a fun y hy=>h y (List.mem_cons_of_mem _ hy)];omega
 intro a h;have:=key l 0 a h;simpa using this.symm
theorem DE (l:List α):(WV R l).length=l.length:=by
 induction l with
 |nil=>rfl
 |cons x r ih=>simp[WV,ih]
theorem BU:∀ {l:List α}{k:Nat}(h:k<l.length),(WV R l).getD k 0=((Y2 R l[k] (l.drop (k+1))+1:Nat):Int)
 |x::r,0,_=>by simp[WV]
 |x::r,k+1,h=>by have:=BU (l:=r) (k:=k) (by simpa using h);simpa [WV] using this
theorem L_ {l:List α}{a:α}:Y2 R a l≤l.length:=by
 induction l generalizing a with
 |nil=>exact Nat.le_refl _
 |cons x r ih =>simp only[Y2,List.length_cons];have h1:=ih (a:=x);have h2:=ih (a:=a);split<;>omega
end
theorem N3 {l:List Int}(h:Q5 l=0):l.length≤96∧∀ x∈l,-1≤x∧x≤95:=by
 unfold Q5 at h;split at h
 ·cases h
 ·split at h
  ·cases h
  ·rename_i h1 h2;refine⟨by omega,fun x hx=>?_⟩;have:=List.any_eq_false.1 (Bool.eq_false_iff.2 h2) x hx;simpa [inI] using this
theorem Q7t {l:List Int}{p:Int×Int}:p∈thr l↔∃ w:Nat,w<l.length∧p=((w:Int),l.getD w 0)∧p.2≠-1:=by
 simp only[thr,List.mem_filter,List.mem_map,List.mem_range,bne_iff_ne,ne_eq];constructor
 ·rintro⟨⟨w,h1,rfl⟩,h2⟩;exact⟨w,h1,rfl,h2⟩
 ·rintro⟨w,h1,rfl,h2⟩;exact⟨⟨w,h1,rfl⟩,h2⟩
theorem Hi (l:List Int):(thr l).length≤l.length:=Nat.le_trans (List.length_filter_le _ _) (by simp)
theorem PR {l:List Int}(h:∀ x∈l,-1≤x∧x≤95) {p:Int×Int}(hp:p∈thr l):0≤p.1∧p.1<l.length∧l.getD p.1.toNat 0=p.2∧0≤p.2∧p.2≤95:=by obtain⟨w,h1,rfl,h2⟩:=Q7t.1 hp;have:=h _ (List.getElem_mem h1);dsimp only at h2 ⊢;rw[Q6 h1] at h2 ⊢;exact⟨by omega,by omega,by rw[Int.toNat_natCast,Q6 h1],by omega,by omega⟩
theorem Q52 {l:List Int}(h:∀ x∈l,-1≤x∧x≤95) {x y:Int×Int}(hx:x∈thr l) (hy:y∈thr l) (ah:x.1<y.1):B5 l y.1 x.1=decide (x.2≥y.2):=by
 obtain⟨a1,a2,a3,a4,a5⟩:=PR h hx;obtain⟨b1,b2,b3,b4,b5⟩:=PR h hy;have e1:F7 y.1 x.1=x.1:=by unfold F7;rw[if_pos ah]
 have e2:K0 y.1 x.1=y.1:=by unfold K0;rw[if_neg (by omega)]
 have c1:y.2≥0:=b4;have c2:x.2≥0:=a4;simp only[B5,e1,e2,a3,b3,c1,c2,decide_true,Bool.true_and,Bool.and_self]
theorem Fm {l:List Int}(h:∀ x∈l,-1≤x∧x≤95):∀ x∈thr l,ZM (-1,-1) x=true:=fun x hx=>by have:=PR h hx;simp only[ZM,decide_eq_true_eq];omega
theorem FX {l:List Int}(h:∀ x∈l,-1≤x∧x≤95):∀ x∈thr l,QM (-1,96) x=true:=fun x hx=>by have:=PR h hx;simp only[QM,decide_eq_true_eq];omega
theorem Q0h {α:Type}(p:α→α→Bool) (l:List α) (x:α):YO p (l++[x])=YO p l+(l.filter fun a=>p a x).length:=by
 induction l with
 |nil=>rfl
 |cons a r ih =>simp only[List.cons_append,YO,ih,List.filter_append,List.filter_cons,List.filter_nil,List.length_append];split<;>simp<;>omega
theorem Q2o {α β:Type}(p:β→β→Bool) (f:α→β) (l:List α):YO p (l.map f)=YO (fun a b=>p (f a) (f b)) l:=by
 induction l with
 |nil=>rfl
 |cons a r ih=>simp only[List.map_cons,YO,ih,List.filter_map,List.length_map];rfl
theorem Ep {α:Type}(p:α→α→Bool) (q:α→Bool) (l:List α) (h:∀ a b,a∈l→b∈l→p a b=true→q a=true∧q b=true):YO p l=YO p (l.filter q):=by
 induction l with
 |nil=>rfl
 |cons a r ih =>
  have ih:=ih fun x y hx hy=>h x y (List.mem_cons_of_mem _ hx) (List.mem_cons_of_mem _ hy);have e:(r.filter (p a)).length=if q a then ((r.filter q).filter (p a)).length else 0:=by
   split
   ·rename_i hq;congr 1;rw[List.filter_filter];refine List.filter_congr fun y hy=>?_;cases hp:p a y with
    |false=>simp
    |true=>simp[(h a y List.mem_cons_self (List.mem_cons_of_mem _ hy) hp).2]
   ·rename_i hq;rw[List.length_eq_zero_iff,List.filter_eq_nil_iff];intro y hy hp;exact hq (h a y List.mem_cons_self (List.mem_cons_of_mem _ hy) hp).1
  simp only[YO,List.filter_cons,e,ih];split<;>simp[YO]
theorem Ft {α:Type}{p p':α→α→Bool}{l:List α}{S:α→α→Prop}(hs:l.Pairwise S) (h:∀ a b,a∈l→b∈l→S a b→p a b=p' a b):YO p l=YO p' l:=by
 induction l with
 |nil=>rfl
 |cons a r ih =>rw[List.pairwise_cons] at hs;simp only[YO,ih hs.2 fun x y hx hy=>h x y (List.mem_cons_of_mem _ hx) (List.mem_cons_of_mem _ hy)];rw[List.filter_congr fun y hy=>h a y List.mem_cons_self (List.mem_cons_of_mem _ hy) (hs.1 y hy)]
theorem O7 {α:Type}(p:α→α→Bool) (l:List α):YO p l≤l.length*l.length:=by
 induction l with
 |nil=>exact Nat.le_refl _
 |cons a r ih =>
  simp only[YO,List.length_cons];have:=List.length_filter_le (p a) r;have:(r.length+1)*(r.length+1)=r.length*r.length+2*r.length+1:=by rw[Nat.add_mul,Nat.mul_add];omega
  omega
theorem Ow (l:List Int) (a b:Int):B5 l a b=B5 l b a:=by
 have e1:F7 a b=F7 b a:=by unfold F7;split<;>split<;>omega
 have e2:K0 a b=K0 b a:=by unfold K0;split<;>split<;>omega
 simp only[B5,e1,e2,Bool.and_comm (decide (l.getD a.toNat 0≥0))]
theorem Ef {l:List Int}(h:∀ x∈l,-1≤x∧x≤95):Yr l=(YO QM (thr l):Nat):=by
 have e:thr l=((List.range l.length).filter fun w=>l.getD w 0 != -1).map fun (w:Nat)=>((w:Int),l.getD w 0):=by simp only[thr,List.filter_map];rfl
 have hp:YO (fun (a b:Nat)=>B5 l a b) (List.range l.length)=YO (fun (a b:Nat)=>B5 l a b) ((List.range l.length).filter fun w=>l.getD w 0 != -1):=by refine Ep _ _ _ fun a b _ _ hc=>?_;simp only[B5,Int.toNat_natCast,Bool.and_eq_true,decide_eq_true_eq] at hc;simp only[bne_iff_ne,ne_eq];omega
 unfold Yr;rw[hp,e,Q2o];congr 1;refine Ft (S:=fun a b=>a<b) (List.Pairwise.filter _ List.pairwise_lt_range) fun a b ha hb oM=>?_;have jl:((a:Int),l.getD a 0)∈thr l:=by rw[e];exact List.mem_map.2 ⟨a,ha,rfl⟩
 have bJ:((b:Int),l.getD b 0)∈thr l:=by rw[e];exact List.mem_map.2 ⟨b,hb,rfl⟩
 rw[Ow];exact Q52 h jl bJ (by simpa using oM)
theorem F9 {α:Type}{l:List α}{p:α→Bool}{k:Nat}(hk:k<l.length) (h:p l[k]=true) (hJ:(l.take k).any p=false):GU l p=k:=by
 have:l.findIdx? p=some k:=by rw[List.findIdx?_eq_some_iff_getElem];refine⟨hk,h,fun j hj=>?_⟩;have hn:=List.any_eq_false.1 hJ l[j] (List.mem_take_iff_getElem.2 ⟨j,by omega,rfl⟩);simpa using hn
 simp[GU,this]
theorem Tj {α:Type}{l:List α}{p:α→Bool}(hJ:l.any p=false):GU l p=-1:=by
 have:l.findIdx? p=none:=by rw[List.findIdx?_eq_none_iff];intro x hx;have:=List.any_eq_false.1 hJ x hx;simpa using this
 simp[GU,this]
theorem Q5h {α:Type}(l:List α) (p:α→Bool):(decide (GU l p≥0))=l.any p:=by
 cases h:l.any p with
 |false=>rw[Tj h];rfl
 |true =>
  have:(l.findIdx? p).isSome=true:=by rw[List.findIdx?_isSome,h]
  obtain⟨i,hi⟩:=Option.isSome_iff_exists.1 this;have e:GU l p=(i:Int):=by simp[GU,hi]
  rw[e];exact decide_eq_true (Int.natCast_nonneg i)
def rowAt (rows:List Int) (p:Int):Nat:=(rows.getD (p.toNat % rows.length) 0).toNat
abbrev Sp:=Int×Int
theorem nIb (n a b:Int):(!inI n a b)=(decide (n<a)||decide (b<n)):=by simp only[inI,Bool.not_and];by_cases h1:a≤n<;>by_cases h2:n≤b<;>simp[h1,h2]<;>omega
theorem Nf (a b:Int):K0 a b=max a b:=by unfold K0;split<;>omega
theorem Fo (a b:Int):F7 a b=min a b:=by unfold F7;split<;>omega
def Sub (a b:Sp):Prop:=b.1≤a.1∧a.2≤b.2
def Ne (a:Sp):Prop:=a.1≤a.2
theorem Ig {α β:Type}{f:α→Option β}:∀ {L:List α}{ys:List β},L.mapM f=some ys→ys.length=L.length∧∀ (i:Nat) (h:i<L.length) (h2:i<ys.length),f L[i]=some ys[i]
 |[],ys,h=>by simp at h;subst h;simp
 |a::L,ys,h=>by
  simp only[List.mapM_cons,Option.bind_eq_bind,Option.bind_eq_some_iff,Option.pure_def,Option.some.injEq] at h;obtain⟨y,hy,zs,hz,rfl⟩:=h;obtain⟨e1,e2⟩:=Ig hz;refine⟨by simp[e1],fun i h1 h2=>?_⟩;cases i with
  |zero=>exact hy
  |succ i=>exact e2 i (by simpa using h1) (by simpa using h2)
theorem Q48 {H:Type}{enc:TypeId×Value→H}{P:Program}{w:World}{base:Nat}{sp:Nat→Bool}{held:Bool}{fuel:Nat}{t:TypeId}{k:IntKind}{c:Value}{y:DataW H×List MemPlace}
  (ht:P.underlying t=some (.int k)) (h:DataW.trod enc P w base sp held fuel t [c]=some y):∃ n,c=.int k n∧y=(.lit (.int k n),[]):=by
 cases fuel with
 |zero=>simp[DataW.trod] at h
 |succ fuel =>cases c<;>simp[DataW.trod,ht] at h;rename_i k' n;obtain⟨⟨rfl,_⟩,rfl⟩:=h;exact⟨n,rfl,rfl⟩
theorem Q5k {H:Type}{enc:TypeId×Value→H}{P:Program}{w:World}{base:Nat}{sp:Nat→Bool}{held:Bool}{fuel:Nat}{t e:TypeId}{k:IntKind}{n:Nat}{l:List Value}{xs:List Int}{p:List MemPlace}
  (ht:P.underlying t=some (.array n e)) (he:P.underlying e=some (.int k)) (h1:P.cellsOf e=1) (hc:P.cellsOf t=n) (h:DataW.trod enc P w base sp held fuel t l=some (.agg (xs.map fun x=>.lit (.int k x)),p)):l=xs.map fun x=>.int k x:=by
 cases fuel with
 |zero=>simp[DataW.trod] at h
 |succ fuel =>
  simp only[DataW.trod,ht,h1,hc,Nat.mul_one] at h;split at h
  ·rename_i hl;simp only[Option.map_eq_some_iff,Prod.mk.injEq,DataW.agg.injEq] at h;obtain⟨ys,hm,hx,_⟩:=h;obtain⟨e1,e2⟩:=Ig hm;rw[List.length_range] at e1;have hlen:xs.length=ys.length:=by
    have:=congrArg List.length hx;simpa using this.symm
   refine List.ext_getElem (by rw[List.length_map];omega) fun i k1 k2=>?_;have hy:=e2 i (by rw[List.length_range];omega) (by omega);rw[List.getElem_range,List.drop_eq_getElem_cons k1] at hy;simp only[List.take_succ_cons,List.take_zero] at hy;obtain⟨m,ky,iu⟩:=Q48 he hy;rw[ky,List.getElem_map];have rf:(ys.map (·.1))[i]'(by rw[List.length_map];omega)=(xs.map fun x=>(DataW.lit (Lit.int k x):DataW H))[i]'(by rw[List.length_map];omega):=by
    simp only[hx]
   rw[List.getElem_map,List.getElem_map,iu] at rf;simp only[DataW.lit.injEq,Lit.int.injEq,true_and] at rf;rw[rf]
  ·cases h
theorem tab_heap {P:Program}{nm:String}{g G:Nat}{t e:TypeId}{k:IntKind}{n fuel:Nat}{cs:Array Value}{xs:List Int}{p:List MemPlace}{W:World}(hv:W.var? P nm=some cs) (hG:P.globalNamed nm=some G) (hg:P.globalNamed nm=some g) {T:TypeId}(hT:(P.globals[G]?).map (·.type)=some T) (mR:(P.globals[g]?).map (·.type)=some t)
  (ht:P.underlying T=some (.array n e)) (he:P.underlying e=some (.int k)) (h1:P.cellsOf e=1) (hc:P.cellsOf T=n) (hd:DataW.trod (fun _=>()) P W 0 (fun _=>true) false fuel t cs.toList=some (.agg (xs.map fun x=>.lit (.int k x)),p)):∃ e f,W.heap[G]?=some (.cells (xs.map fun x=>Value.int k x).toArray e f):=by
 obtain rfl:=osj (hG.symm.trans hg);obtain rfl:=osj (hT.symm.trans mR);have hl:=Q5k ht he h1 hc hd;unfold World.var? at hv;rw[hG] at hv;simp only[Option.bind_some] at hv;split at hv
 ·rename_i cs' a b hh;obtain rfl:=osj hv;refine⟨a,b,?_⟩;rw[hh,←hl]
 ·cases hv
end Go.Proofs.Tryz
namespace Go.Proofs.Tryz
open Go Go.V Go.Proofs
def Uu:AL (Int×Int×Int):=(.cons (.k (.i .i64)) (.cons (.ptr (.one (.k (.i .i64)))) (.one (.ptr (.one (.k (.i .i64)))))))
def D_ (d:Int×Int×Int):Prop:=True
def VM (d:Int×Int×Int):SV:=.val .bo (decide (d.1<d.2.1)||decide (d.2.2<d.1))
def VK (d:Int×Int×Int):List OB:=[]
def K8:CSp:=Wi Uu D_ VM VK
def Yk (n:Int) (a:Int) (b:Int):Prop :=
 (((decide (n<a))||(decide (n > b)))=(decide (n<a)||decide (b<n))∧(True))
def Uy:Cx:=⟨[],[],13,[],0,[],[],[],[],false,[],[],[],[]⟩
def H9 (n:Int) (a:Int) (b:Int):List (Nat×LoopAnn):=[]
theorem Hv (d:Int×Int×Int):gwp (Uy) (H9 d.1 d.2.1 d.2.2) c98 0 (YU [.tmp 4] (VM d) (VK d)) (Qh 13 (AL.can Uu d))=Yk d.1 d.2.1 d.2.2:=by kernel_rfl
abbrev Hu:Prop:=OkC Tryz.prog 98 K8
theorem Hq (h:∀ (n:Int) (a:Int) (b:Int),(True)→Yk n a b):OkC Tryz.prog 98 K8 :=
 QB Z26 mixed (C:=Uy) (V:=fun (d:Int×Int×Int)=>Yk d.1 d.2.1 d.2.2) ⟨.nil,XsOk.nil,ItsOk.nil,YlOk.nil,IysOk.nil,XfOk.nil⟩ (Hv) fun d hp=>h d.1 d.2.1 d.2.2 hp
theorem Hj:Hu:=Hq fun n a b _=>by exact⟨rfl,trivial⟩
def Xg:AL (List Int×((Int→Prop)×(Int→Bool))):=(.cons (.k (.list (.i .i64))) (.one (.fn [(.i .i64)] .bo)))
def Kw (d:List Int×((Int→Prop)×(Int→Bool))):Prop:=d.1.length≤1000000∧∀ x∈d.1,d.2.1 x
def Xc (d:List Int×((Int→Prop)×(Int→Bool))):SV:=.val (.i .i64) (Q44 d.1 d.2.2)
def X3 (d:List Int×((Int→Prop)×(Int→Bool))):List OB:=[]
def ZT:CSp:=Wi Xg Kw Xc X3
def QU (l:List Int) (p:(Int→Prop)×(Int→Bool)):Prop :=
 ∃ (e2:Unit) (d20:Int),((l=l∧(SV.pf [(.i .i64)] .bo p.1 p.2=SV.pf [(.i .i64)] .bo p.1 p.2)∧(lI l)=(lI l)∧(0:Int)=d20∧True)∧(True)) ∧
 LoopP (fun (d2:Int) (q2:(Int)→Prop) =>
  ((decide (d2<(lI l)))=true →
   (0≤d2)∧(d2<(List.length l))∧(p.1 (gD l d2 0))∧((p.2 (gD l d2 0))=true →
    (d2=(Q44 l p.2)∧(True))) ∧
   ((p.2 (gD l d2 0))=false →
    (I64 (d2+(1:Int)))∧(∃ d3:Int,((l=l∧(SV.pf [(.i .i64)] .bo p.1 p.2=SV.pf [(.i .i64)] .bo p.1 p.2)∧(lI l)=(lI l)∧(d2+(1:Int))=d3∧True)∧(True))∧q2 d3))) ∧
  ((decide (d2<(lI l)))=false →
   ((-1:Int)=(Q44 l p.2)∧(True)))) d20
def Xn:Cx:=⟨[],[],19,[],0,[],[],[],[],false,[],[],[],[]⟩
def V2 (l:List Int) (p:(Int→Prop)×(Int→Bool)):List (Nat×LoopAnn):=[(0,⟨Unit,Int,[0,1,7,8],fun e x=>[.val (.list (.i .i64)) l,.pf [(.i .i64)] .bo p.1 p.2,.val (.i .i64) (((List.length l):Nat):Int),.val (.i .i64) x],fun e x=>[]⟩)]
theorem V1 (d:List Int×((Int→Prop)×(Int→Bool))):gwp (Xn) (V2 d.1 d.2) Z5v 0 (YU [.tmp 4] (Xc d) (X3 d)) (Qh 19 (AL.can Xg d))=QU d.1 d.2:=by kernel_rfl
abbrev Vf:Prop:=OkC Tryz.prog 126 ZT
theorem KZ (h:∀ (l:List Int) (p:(Int→Prop)×(Int→Bool)),(l.length≤1000000∧∀ x∈l,p.1 x)→QU l p):OkC Tryz.prog 126 ZT :=
 QB Q6a mixed (C:=Xn) (V:=fun (d:List Int×((Int→Prop)×(Int→Bool)))=>QU d.1 d.2) ⟨.nil,XsOk.nil,ItsOk.nil,YlOk.nil,IysOk.nil,XfOk.nil⟩ (V1) fun d hp=>h d.1 d.2 hp
theorem Q1w {l:List Int}{p:Int→Bool}{k:Nat}(hk:k<l.length) (h:p l[k]=true) (hJ:(l.take k).any p=false):Q44 l p=k:=by
 have:l.findIdx? p=some k:=by rw[List.findIdx?_eq_some_iff_getElem];refine⟨hk,h,fun j hj=>?_⟩;have hn:=List.any_eq_false.1 hJ l[j] (List.mem_take_iff_getElem.2 ⟨j,by omega,rfl⟩);simpa using hn
 simp[Q44,this]
theorem Q2h {l:List Int}{p:Int→Bool}(hJ:l.any p=false):Q44 l p=-1:=by
 have:l.findIdx? p=none:=by rw[List.findIdx?_eq_none_iff];intro x hx;have:=List.any_eq_false.1 hJ x hx;simpa using this
 simp[Q44,this]
theorem Fh (l:List Int) (p:Int→Bool):decide (Q44 l p≥0)=l.any p:=by
 unfold Q44;cases h:l.findIdx? p with
 |none =>
  have:=List.findIdx?_eq_none_iff.1 h;have:l.any p=false:=by rw[List.any_eq_false];intro x hx;simp[this x hx]
  rw[this];rfl
 |some i =>obtain⟨h1,h2,_⟩:=List.findIdx?_eq_some_iff_getElem.1 h;rw[List.any_eq_true.2 ⟨l[i],List.getElem_mem h1,h2⟩];simp
theorem Vv:Vf:=KZ fun l p hp=>by
 unfold QU;(try delta lI gD sT I64);simp only[true_and,and_true,exists_eq_left',exists_const,decide_eq_true_eq,decide_eq_false_iff_not];refine LoopP.count l.length (fun k=>(l.take k).any p.2=false) (by simp) fun k a9 hJ q hq=>?_;simp only[Int.toNat_natCast,Int.ofNat_lt,QQ];refine⟨fun ah=>?_,fun bh=>?_⟩
 ·rw[Q6 ah];refine⟨by omega,ah,hp.2 _ (List.getElem_mem ah),fun hx=>?_,fun hx=>⟨by omega,hq ah ?_⟩⟩
  ·rw[Q1w ah hx hJ]
  ·rw[QO ah,List.any_append,hJ];simp[hx]
 ·rw[List.take_of_length_le (by omega)] at hJ;rw[Q2h hJ]
def Jy:AL (List Int×((Int→Prop)×(Int→Bool))):=(.cons (.k (.list (.i .i64))) (.one (.fn [(.i .i64)] .bo)))
def Yq (d:List Int×((Int→Prop)×(Int→Bool))):Prop:=d.1.length≤1000000∧∀ x∈d.1,d.2.1 x
def Jo (d:List Int×((Int→Prop)×(Int→Bool))):SV:=.val .bo (d.1.any d.2.2)
def Jh (d:List Int×((Int→Prop)×(Int→Bool))):List OB:=[]
def QF:CSp:=Wi Jy Yq Jo Jh
def Za (l:List Int) (p:(Int→Prop)×(Int→Bool)):Prop :=
 (l.length≤1000000∧∀ x∈l,(fun (x1:Int)=>p.1 x1) x)∧((decide ((Q44 l (fun (x1:Int)=>(p.2 x1)))≥(0:Int)))=(l.any p.2)∧(True))
def JD:Cx:=⟨[],[(126,ZT)],9,[],0,[],[],[],[],false,[],[],[],[]⟩
def YS (l:List Int) (p:(Int→Prop)×(Int→Bool)):List (Nat×LoopAnn):=[]
theorem YN (d:List Int×((Int→Prop)×(Int→Bool))):gwp (JD) (YS d.1 d.2) c97 0 (YU [.tmp 4] (Jo d) (Jh d)) (Qh 9 (AL.can Jy d))=Za d.1 d.2:=by kernel_rfl
abbrev YP:Prop:=OkC Tryz.prog 97 QF
theorem YJ (h:∀ (l:List Int) (p:(Int→Prop)×(Int→Bool)),(l.length≤1000000∧∀ x∈l,p.1 x)→Za l p):OkC Tryz.prog 97 QF :=
 QB Z12 mixed (C:=JD) (V:=fun (d:List Int×((Int→Prop)×(Int→Bool)))=>Za d.1 d.2) ⟨(.cons Vv .nil),XsOk.nil,ItsOk.nil,YlOk.nil,IysOk.nil,XfOk.nil⟩ (YN) fun d hp=>h d.1 d.2 hp
theorem Jx:YP:=YJ fun l p hp=>by exact⟨hp,Fh l p.2,trivial⟩
def M7:AL (Int×Int×List Int):=(.cons (.k (.i .i64)) (.cons (.k (.i .i64)) (.one (.k (.list (.i .i64))))))
def Pc (d:Int×Int×List Int):Prop:=d.2.2.length≤1000000
def Nt (d:Int×Int×List Int):SV:=.val .bo (!(d.2.2.any fun n=>decide (n<d.1)||decide (d.2.1<n)))
def NM (d:Int×Int×List Int):List OB:=[]
def XU:CSp:=Wi M7 Pc Nt NM
def Vz (a:Int) (b:Int) (l:List Int):Prop :=
 (l.length≤1000000∧∀ x∈l,(fun (x1:Int)=>True) x)∧((!(l.any (fun (x1:Int)=>(decide (x1<a)||decide (b<x1)))))=(!(l.any fun n=>decide (n<a)||decide (b<n)))∧(True))
def MI:Cx:=⟨[],[(97,QF),(98,K8)],11,[],0,[],[],[],[],false,[],[],[],[]⟩
def TF (a:Int) (b:Int) (l:List Int):List (Nat×LoopAnn):=[]
theorem Tn (d:Int×Int×List Int):gwp (MI) (TF d.1 d.2.1 d.2.2) c58 0 (YU [.tmp 6] (Nt d) (NM d)) (Qh 11 (AL.can M7 d))=Vz d.1 d.2.1 d.2.2:=by kernel_rfl
abbrev Ru:Prop:=OkC Tryz.prog 58 XU
theorem Rf (h:∀ (a:Int) (b:Int) (l:List Int),(l.length≤1000000)→Vz a b l):OkC Tryz.prog 58 XU :=
 QB Z1o mixed (C:=MI) (V:=fun (d:Int×Int×List Int)=>Vz d.1 d.2.1 d.2.2) ⟨(.cons Jx (.cons Hj .nil)),XsOk.nil,ItsOk.nil,YlOk.nil,IysOk.nil,XfOk.nil⟩ (Tn) fun d hp=>h d.1 d.2.1 d.2.2 hp
theorem Vk:Ru:=Rf fun a b l h=>by exact⟨⟨h,fun _ _=>trivial⟩,rfl,trivial⟩
theorem nI (n a b:Int):(!inI n a b)=(decide (n<a)||decide (b<n)):=by simp only[inI,Bool.not_and];by_cases h1:a≤n<;>by_cases h2:n≤b<;>simp[h1,h2]<;>omega
abbrev Lot:=Int×(Int×Int)×Int
def J_:Lot:=(0,((0,0),0))
def Xd (x:Lot):Bool:=inI x.1 0 9&&(inI x.2.1.1 0 1000&&inI x.2.1.2 0 1000)&&decide (x.2.1.1≤x.2.1.2)&&inI x.2.2 1 1000000
def ZB (l:List Lot):Int:=if 12<l.length then 5 else if l.any (fun x=>!Xd x) then 2 else 0
def FJ (a b:Lot):Int:=K0 (a.2.1.2-b.2.1.1) (b.2.1.2-a.2.1.1)
def Z30 (s:Int×Int×Int×Int) (y:Lot):Int×Int×Int×Int:=(K0 s.1 y.2.1.1,F7 s.2.1 y.2.1.2,F7 s.2.2.1 y.2.1.1,K0 s.2.2.2 y.2.1.2)
def No (l:List Lot) (k:Nat):Int×Int×Int×Int:=(l.take k).foldl Z30 ((l.getD 0 J_).2.1.1,(l.getD 0 J_).2.1.2,(l.getD 0 J_).2.1.1,(l.getD 0 J_).2.1.2)
def Q70 (l:List Lot):Sp:=(K0 0 ((No l l.length).1-(No l l.length).2.1),(No l l.length).2.2.2-(No l l.length).2.2.1)
def Uf (l:List Lot) (sm:List Int):List Lot:=sm.map fun i=>l.getD i.toNat J_
theorem Ey {x:Lot}:Xd x=true↔(0≤x.1∧x.1≤9)∧(0≤x.2.1.1∧x.2.1.1≤1000)∧(0≤x.2.1.2∧x.2.1.2≤1000)∧x.2.1.1≤x.2.1.2∧1≤x.2.2∧x.2.2≤1000000:=by simp only[Xd,inI,Bool.and_eq_true,decide_eq_true_eq];omega
theorem IT {l:List Lot}(h:l≠[]):No l 1=((l.getD 0 J_).2.1.1,(l.getD 0 J_).2.1.2,(l.getD 0 J_).2.1.1,(l.getD 0 J_).2.1.2):=by
 cases l with
 |nil=>exact(h rfl).elim
 |cons x l =>
  have g:∀ a:Int,K0 a a=a:=fun a=>by rw[Nf];omega
  have m:∀ a:Int,F7 a a=a:=fun a=>by rw[Fo];omega
  simp[No,Z30,g,m]
theorem AZ {l:List Lot}{k:Nat}(h:k<l.length):No l (k+1)=Z30 (No l k) l[k]:=by unfold No;rw[QO h,List.foldl_append];rfl
theorem TH {l:List Lot}(h:l≠[]):∀ k,1≤k→k≤l.length →
  (∀ i,i<k→(l.getD i J_).2.1.1≤(No l k).1∧(No l k).2.1≤(l.getD i J_).2.1.2∧(No l k).2.2.1≤(l.getD i J_).2.1.1∧(l.getD i J_).2.1.2≤(No l k).2.2.2) ∧
  (∃ i,i<k∧(No l k).1=(l.getD i J_).2.1.1)∧(∃ i,i<k∧(No l k).2.1=(l.getD i J_).2.1.2)∧(∃ i,i<k∧(No l k).2.2.1=(l.getD i J_).2.1.1)∧∃ i,i<k∧(No l k).2.2.2=(l.getD i J_).2.1.2
 |0,h1,_=>by omega
 |1,_,_=>by
  rw[IT h];refine⟨fun i hi=>?_,⟨0,by omega,rfl⟩,⟨0,by omega,rfl⟩,⟨0,by omega,rfl⟩,⟨0,by omega,rfl⟩⟩;have:i=0:=by omega
  subst this;exact⟨Int.le_refl _,Int.le_refl _,Int.le_refl _,Int.le_refl _⟩
 |k+2,_,hk=>by
  obtain⟨a,⟨i1,b1,c1⟩,⟨i2,b2,c2⟩,⟨i3,b3,c3⟩,⟨i4,b4,c4⟩⟩:=TH h (k+1) (by omega) (by omega);rw[AZ (show k+1<l.length by omega)];have a9:l.getD (k+1) J_=l[k+1]:=Q6 (by omega);have e1:=Nf (No l (k+1)).1 l[k+1].2.1.1;have e2:=Fo (No l (k+1)).2.1 l[k+1].2.1.2;have e3:=Fo (No l (k+1)).2.2.1 l[k+1].2.1.1;have e4:=Nf (No l (k+1)).2.2.2 l[k+1].2.1.2;unfold Z30;dsimp only;refine⟨fun i hi=>?_,?_,?_,?_,?_⟩
  ·by_cases h5:i=k+1
   ·subst h5;rw[a9];omega
   ·have:=a i (by omega);omega
  ·by_cases h5:(No l (k+1)).1≤l[k+1].2.1.1
   ·exact⟨k+1,by omega,by rw[a9];omega⟩
   ·exact⟨i1,by omega,by omega⟩
  ·by_cases h5:l[k+1].2.1.2≤(No l (k+1)).2.1
   ·exact⟨k+1,by omega,by rw[a9];omega⟩
   ·exact⟨i2,by omega,by omega⟩
  ·by_cases h5:l[k+1].2.1.1≤(No l (k+1)).2.2.1
   ·exact⟨k+1,by omega,by rw[a9];omega⟩
   ·exact⟨i3,by omega,by omega⟩
  ·by_cases h5:(No l (k+1)).2.2.2≤l[k+1].2.1.2
   ·exact⟨k+1,by omega,by rw[a9];omega⟩
   ·exact⟨i4,by omega,by omega⟩
def GZ:AL (Int×Int×Int×Int):=(.one (.agg (.cons (.k (.i .i64)) (.cons (.k (.i .i64)) (.cons (.k (.i .i64)) (.one (.k (.i .i64))))))))
def R1 (d:Int×Int×Int×Int):Prop:=True
def G4 (d:Int×Int×Int×Int):SV:=.val .bo (Xd (d.1,(d.2.1,d.2.2.1),d.2.2.2))
def Mb (d:Int×Int×Int×Int):List OB:=[]
def N8:CSp:=Wi GZ R1 G4 Mb
def YA (lc:Int) (lo:Int) (hi:Int) (lg:Int):Prop :=
 ([lc].length≤1000000)∧((!([lc].any fun n=>decide (n<(0:Int))||decide ((9:Int)<n)))=true→True)∧((!([lc].any fun n=>decide (n<(0:Int))||decide ((9:Int)<n)))=true→[lo,hi].length≤1000000)∧((((!([lc].any fun n=>decide (n<(0:Int))||decide ((9:Int)<n)))&&(!([lo,hi].any fun n=>decide (n<(0:Int))||decide ((1000:Int)<n))))&&(decide (lo≤hi)))=true→True)∧((((!([lc].any fun n=>decide (n<(0:Int))||decide ((9:Int)<n)))&&(!([lo,hi].any fun n=>decide (n<(0:Int))||decide ((1000:Int)<n))))&&(decide (lo≤hi)))=true→[lg].length≤1000000)∧(((((!([lc].any fun n=>decide (n<(0:Int))||decide ((9:Int)<n)))&&(!([lo,hi].any fun n=>decide (n<(0:Int))||decide ((1000:Int)<n))))&&(decide (lo≤hi)))&&(!([lg].any fun n=>decide (n<(1:Int))||decide ((1000000:Int)<n))))=(Xd (lc,(lo,hi),lg))∧(True))
def GW:Cx:=⟨[(3,(.i .i64))],[(58,XU)],32,[],0,[],[],[],[],false,[],[],[],[]⟩
def SW (lc:Int) (lo:Int) (hi:Int) (lg:Int):List (Nat×LoopAnn):=[]
theorem SN (d:Int×Int×Int×Int):gwp (GW) (SW d.1 d.2.1 d.2.2.1 d.2.2.2) c96 0 (YU [.tmp 2] (G4 d) (Mb d)) (Qh 32 (AL.can GZ d))=YA d.1 d.2.1 d.2.2.1 d.2.2.2:=by kernel_rfl
abbrev Sq:Prop:=OkC Tryz.prog 96 N8
theorem Sm (h:∀ (lc:Int) (lo:Int) (hi:Int) (lg:Int),(True)→YA lc lo hi lg):OkC Tryz.prog 96 N8 :=
 QB Z1a mixed (C:=GW) (V:=fun (d:Int×Int×Int×Int)=>YA d.1 d.2.1 d.2.2.1 d.2.2.2) ⟨(.cons Vk .nil),XsOk.nil,ItsOk.nil,YlOk.nil,IysOk.nil,XfOk.nil⟩ (SN) fun d hp=>h d.1 d.2.1 d.2.2.1 d.2.2.2 hp
theorem S8:Sq:=Sm fun lc lo hi lg _=>by unfold YA;(try delta lI gD sT I64);have e:∀ n a b:Int,(decide (n<a)||decide (b<n))=!inI n a b:=fun n a b=>(nIb n a b).symm;simp only[List.any_cons,List.any_nil,Bool.or_false,e,Bool.not_not,List.length_cons,List.length_nil,Bool.not_or];refine⟨by omega,fun _=>trivial,fun _=>by omega,fun _=>trivial,fun _=>by omega,?_⟩;and_intros<;>first|rfl|trivial
def ND:AL (Int×Int×Int×Int):=(.one (.agg (.cons (.k (.i .i64)) (.cons (.k (.i .i64)) (.cons (.k (.i .i64)) (.one (.k (.i .i64))))))))
def Ha (d:Int×Int×Int×Int):Prop:=True
def Uv (d:Int×Int×Int×Int):SV:=.val .bo (!Xd (d.1,(d.2.1,d.2.2.1),d.2.2.2))
def Up (d:Int×Int×Int×Int):List OB:=[]
def KT:CSp:=Wi ND Ha Uv Up
def W4 (lc:Int) (lo:Int) (hi:Int) (lg:Int):Prop :=
 (True)∧((!(Xd (lc,(lo,hi),lg)))=(!Xd (lc,(lo,hi),lg))∧(True))
def NC:Cx:=⟨[],[(96,N8)],6,[],0,[],[],[],[],false,[],[],[],[]⟩
def Ph (lc:Int) (lo:Int) (hi:Int) (lg:Int):List (Nat×LoopAnn):=[]
theorem Pw (d:Int×Int×Int×Int):gwp (NC) (Ph d.1 d.2.1 d.2.2.1 d.2.2.2) c95 0 (YU [.tmp 2] (Uv d) (Up d)) (Qh 6 (AL.can ND d))=W4 d.1 d.2.1 d.2.2.1 d.2.2.2:=by kernel_rfl
abbrev Pj:Prop:=OkC Tryz.prog 95 KT
theorem PG (h:∀ (lc:Int) (lo:Int) (hi:Int) (lg:Int),(True)→W4 lc lo hi lg):OkC Tryz.prog 95 KT :=
 QB Q9p mixed (C:=NC) (V:=fun (d:Int×Int×Int×Int)=>W4 d.1 d.2.1 d.2.2.1 d.2.2.2) ⟨(.cons S8 .nil),XsOk.nil,ItsOk.nil,YlOk.nil,IysOk.nil,XfOk.nil⟩ (Pw) fun d hp=>h d.1 d.2.1 d.2.2.1 d.2.2.2 hp
theorem PC:Pj:=PG fun lc lo hi lg _=>by unfold W4;(try delta lI gD sT I64);and_intros<;>first|rfl|trivial
def QL:AL ((List (Int×(Int×Int)×Int))×((Int×(Int×Int)×Int→Prop)×(Int×(Int×Int)×Int→Bool))):=(.cons (.k (.list (.pair (.i .i64) (.pair (.pair (.i .i64) (.i .i64)) (.i .i64))))) (.one (.fn [(.pair (.i .i64) (.pair (.pair (.i .i64) (.i .i64)) (.i .i64)))] .bo)))
def Jd (d:(List (Int×(Int×Int)×Int))×((Int×(Int×Int)×Int→Prop)×(Int×(Int×Int)×Int→Bool))):Prop:=d.1.length≤1000000∧∀ x∈d.1,d.2.1 x
def QI (d:(List (Int×(Int×Int)×Int))×((Int×(Int×Int)×Int→Prop)×(Int×(Int×Int)×Int→Bool))):SV:=.val (.i .i64) (GU d.1 d.2.2)
def QH (d:(List (Int×(Int×Int)×Int))×((Int×(Int×Int)×Int→Prop)×(Int×(Int×Int)×Int→Bool))):List OB:=[]
def Qn:CSp:=Wi QL Jd QI QH
def Qb (l:List (Int×(Int×Int)×Int)) (p:(Int×(Int×Int)×Int→Prop)×(Int×(Int×Int)×Int→Bool)):Prop :=
 ∃ (e2:Unit) (d20:Int),((l=l∧(SV.pf [(.pair (.i .i64) (.pair (.pair (.i .i64) (.i .i64)) (.i .i64)))] .bo p.1 p.2=SV.pf [(.pair (.i .i64) (.pair (.pair (.i .i64) (.i .i64)) (.i .i64)))] .bo p.1 p.2)∧(lI l)=(lI l)∧(0:Int)=d20∧True)∧(True)) ∧
 LoopP (fun (d2:Int) (q2:(Int)→Prop) =>
  ((decide (d2<(lI l)))=true →
   (0≤d2)∧(d2<(List.length l))∧(p.1 ((gD l d2 (0,((0,0),0))).1,(((gD l d2 (0,((0,0),0))).2.1.1,(gD l d2 (0,((0,0),0))).2.1.2),(gD l d2 (0,((0,0),0))).2.2)))∧((p.2 ((gD l d2 (0,((0,0),0))).1,(((gD l d2 (0,((0,0),0))).2.1.1,(gD l d2 (0,((0,0),0))).2.1.2),(gD l d2 (0,((0,0),0))).2.2)))=true →
    (d2=(GU l p.2)∧(True))) ∧
   ((p.2 ((gD l d2 (0,((0,0),0))).1,(((gD l d2 (0,((0,0),0))).2.1.1,(gD l d2 (0,((0,0),0))).2.1.2),(gD l d2 (0,((0,0),0))).2.2)))=false →
    (I64 (d2+(1:Int)))∧(∃ d3:Int,((l=l∧(SV.pf [(.pair (.i .i64) (.pair (.pair (.i .i64) (.i .i64)) (.i .i64)))] .bo p.1 p.2=SV.pf [(.pair (.i .i64) (.pair (.pair (.i .i64) (.i .i64)) (.i .i64)))] .bo p.1 p.2)∧(lI l)=(lI l)∧(d2+(1:Int))=d3∧True)∧(True))∧q2 d3))) ∧
  ((decide (d2<(lI l)))=false →
   ((-1:Int)=(GU l p.2)∧(True)))) d20
def QN:Cx:=⟨[],[],19,[],0,[],[],[],[],false,[],[],[],[]⟩
def Jm (l:List (Int×(Int×Int)×Int)) (p:(Int×(Int×Int)×Int→Prop)×(Int×(Int×Int)×Int→Bool)):List (Nat×LoopAnn):=[(0,⟨Unit,Int,[0,1,7,8],fun e x=>[.val (.list (.pair (.i .i64) (.pair (.pair (.i .i64) (.i .i64)) (.i .i64)))) l,.pf [(.pair (.i .i64) (.pair (.pair (.i .i64) (.i .i64)) (.i .i64)))] .bo p.1 p.2,.val (.i .i64) (((List.length l):Nat):Int),.val (.i .i64) x],fun e x=>[]⟩)]
theorem Jj (d:(List (Int×(Int×Int)×Int))×((Int×(Int×Int)×Int→Prop)×(Int×(Int×Int)×Int→Bool))):gwp (QN) (Jm d.1 d.2) Z46 0 (YU [.tmp 4] (QI d) (QH d)) (Qh 19 (AL.can QL d))=Qb d.1 d.2:=by kernel_rfl
abbrev Jl:Prop:=OkC Tryz.prog 125 Qn
theorem Jp (h:∀ (l:List (Int×(Int×Int)×Int)) (p:(Int×(Int×Int)×Int→Prop)×(Int×(Int×Int)×Int→Bool)),(l.length≤1000000∧∀ x∈l,p.1 x)→Qb l p):OkC Tryz.prog 125 Qn :=
 QB Q7i mixed (C:=QN) (V:=fun (d:(List (Int×(Int×Int)×Int))×((Int×(Int×Int)×Int→Prop)×(Int×(Int×Int)×Int→Bool)))=>Qb d.1 d.2) ⟨.nil,XsOk.nil,ItsOk.nil,YlOk.nil,IysOk.nil,XfOk.nil⟩ (Jj) fun d hp=>h d.1 d.2 hp
theorem Jk:Jl:=Jp fun l p hp=>by
 unfold Qb;(try delta lI gD sT I64);simp only[true_and,and_true,exists_eq_left',exists_const,decide_eq_true_eq,decide_eq_false_iff_not];refine LoopP.count l.length (fun k=>(l.take k).any p.2=false) (by simp) fun k a9 hJ q hq=>?_;simp only[Int.toNat_natCast,Int.ofNat_lt,QQ];refine⟨fun ah=>?_,fun bh=>?_⟩
 ·have ah:k<l.length:=by omega
  rw[Q6 ah];refine⟨by omega,by omega,hp.2 _ (List.getElem_mem ah),fun hx=>?_,fun hx=>⟨by omega,hq ah ?_⟩⟩
  ·rw[F9 ah hx hJ]
  ·rw[QO ah,List.any_append,hJ];simp[hx]
 ·rw[List.take_of_length_le (by omega)] at hJ;rw[Tj hJ]
def QE:AL ((List (Int×(Int×Int)×Int))×((Int×(Int×Int)×Int→Prop)×(Int×(Int×Int)×Int→Bool))):=(.cons (.k (.list (.pair (.i .i64) (.pair (.pair (.i .i64) (.i .i64)) (.i .i64))))) (.one (.fn [(.pair (.i .i64) (.pair (.pair (.i .i64) (.i .i64)) (.i .i64)))] .bo)))
def ZS (d:(List (Int×(Int×Int)×Int))×((Int×(Int×Int)×Int→Prop)×(Int×(Int×Int)×Int→Bool))):Prop:=d.1.length≤1000000∧∀ x∈d.1,d.2.1 x
def Qy (d:(List (Int×(Int×Int)×Int))×((Int×(Int×Int)×Int→Prop)×(Int×(Int×Int)×Int→Bool))):SV:=.val .bo (d.1.any d.2.2)
def Qx (d:(List (Int×(Int×Int)×Int))×((Int×(Int×Int)×Int→Prop)×(Int×(Int×Int)×Int→Bool))):List OB:=[]
def Qa:CSp:=Wi QE ZS Qy Qx
def Q9 (l:List (Int×(Int×Int)×Int)) (p:(Int×(Int×Int)×Int→Prop)×(Int×(Int×Int)×Int→Bool)):Prop :=
 (l.length≤1000000∧∀ x∈l,(fun (x1:Int×(Int×Int)×Int)=>p.1 (x1.1,((x1.2.1.1,x1.2.1.2),x1.2.2))) x)∧((decide ((GU l (fun (x1:Int×(Int×Int)×Int)=>(p.2 (x1.1,((x1.2.1.1,x1.2.1.2),x1.2.2)))))≥(0:Int)))=(l.any p.2)∧(True))
def QA:Cx:=⟨[],[(125,Qn)],9,[],0,[],[],[],[],false,[],[],[],[]⟩
def ZY (l:List (Int×(Int×Int)×Int)) (p:(Int×(Int×Int)×Int→Prop)×(Int×(Int×Int)×Int→Bool)):List (Nat×LoopAnn):=[]
theorem Z_ (d:(List (Int×(Int×Int)×Int))×((Int×(Int×Int)×Int→Prop)×(Int×(Int×Int)×Int→Bool))):gwp (QA) (ZY d.1 d.2) c94 0 (YU [.tmp 4] (Qy d) (Qx d)) (Qh 9 (AL.can QE d))=Q9 d.1 d.2:=by kernel_rfl
abbrev ZU:Prop:=OkC Tryz.prog 94 Qa
theorem ZV (h:∀ (l:List (Int×(Int×Int)×Int)) (p:(Int×(Int×Int)×Int→Prop)×(Int×(Int×Int)×Int→Bool)),(l.length≤1000000∧∀ x∈l,p.1 x)→Q9 l p):OkC Tryz.prog 94 Qa :=
 QB Z0x mixed (C:=QA) (V:=fun (d:(List (Int×(Int×Int)×Int))×((Int×(Int×Int)×Int→Prop)×(Int×(Int×Int)×Int→Bool)))=>Q9 d.1 d.2) ⟨(.cons Jk .nil),XsOk.nil,ItsOk.nil,YlOk.nil,IysOk.nil,XfOk.nil⟩ (Z_) fun d hp=>h d.1 d.2 hp
theorem Qz:ZU:=ZV fun l p hp=>by simp only[Q9];exact⟨hp,Q5h l p.2,trivial⟩
def D6:AL (List (Int×(Int×Int)×Int)):=(.one (.k (.list (.pair (.i .i64) (.pair (.pair (.i .i64) (.i .i64)) (.i .i64))))))
def Tr (d:List (Int×(Int×Int)×Int)):Prop:=d.length≤1000
def MU (d:List (Int×(Int×Int)×Int)):SV:=.val (.i .i64) (ZB d)
def G9 (d:List (Int×(Int×Int)×Int)):List OB:=[]
def Km:CSp:=Wi D6 Tr MU G9
def YE (l:List (Int×(Int×Int)×Int)):Prop :=
 ((decide ((lI l) > (12:Int)))=true →
  ((5:Int)=(ZB l)∧(True))) ∧
 ((decide ((lI l) > (12:Int)))=false →
  (l.length≤1000000∧∀ x∈l,(fun (x1:Int×(Int×Int)×Int)=>True) x)∧((l.any (fun (x1:Int×(Int×Int)×Int)=>(!Xd (x1.1,(x1.2.1.1,x1.2.1.2),x1.2.2))))=true →
   ((2:Int)=(ZB l)∧(True))) ∧
  ((l.any (fun (x1:Int×(Int×Int)×Int)=>(!Xd (x1.1,(x1.2.1.1,x1.2.1.2),x1.2.2))))=false →
   ((0:Int)=(ZB l)∧(True))))
def Dg:Cx:=⟨[],[(94,Qa),(95,KT)],10,[],0,[],[],[],[],false,[],[],[],[]⟩
def S9 (l:List (Int×(Int×Int)×Int)):List (Nat×LoopAnn):=[]
theorem SA (d:List (Int×(Int×Int)×Int)):gwp (Dg) (S9 d) c57 0 (YU [.tmp 2] (MU d) (G9 d)) (Qh 10 (AL.can D6 d))=YE d:=by kernel_rfl
abbrev SE:Prop:=OkC Tryz.prog 57 Km
theorem Sk (h:∀ (l:List (Int×(Int×Int)×Int)),(l.length≤1000)→YE l):OkC Tryz.prog 57 Km :=
 QB Z10 mixed (C:=Dg) (V:=fun (d:List (Int×(Int×Int)×Int))=>YE d) ⟨(.cons Qz (.cons PC .nil)),XsOk.nil,ItsOk.nil,YlOk.nil,IysOk.nil,XfOk.nil⟩ (SA) fun d hp=>h d hp
theorem G_:SE:=Sk fun l hl=>by
 unfold YE;(try delta lI gD sT I64)
 (try simp only[decide_eq_true_eq,decide_eq_false_iff_not])
 refine⟨fun h1=>⟨?_,trivial⟩,fun h1=>⟨⟨by omega,fun _ _=>trivial⟩,fun h2=>⟨?_,trivial⟩,fun h2=>⟨?_,trivial⟩⟩⟩
 ·unfold ZB;rw[if_pos (by omega)]
 ·unfold ZB;rw[if_neg (by omega),if_pos h2]
 ·unfold ZB;rw[if_neg (by omega),if_neg (by rw[show (l.any fun x=>!Xd x)=false from h2];decide)]
def G6:AL (List (Int×(Int×Int)×Int)):=(.one (.k (.list (.pair (.i .i64) (.pair (.pair (.i .i64) (.i .i64)) (.i .i64))))))
def Px (d:List (Int×(Int×Int)×Int)):Prop:=d≠[]∧d.length≤1000∧∀ x∈d,Xd x=true
def Np (d:List (Int×(Int×Int)×Int)):SV:=.agg [.val (.i .i64) ((Q70 d).1),.val (.i .i64) ((Q70 d).2)]
def Ny (d:List (Int×(Int×Int)×Int)):List OB:=[]
def U9:CSp:=Wi G6 Px Np Ny
def WI (l:List (Int×(Int×Int)×Int)):Prop :=
 (0≤(0:Int))∧((0:Int)<(List.length l))∧(0≤(0:Int))∧((0:Int)<(List.length l))∧((l=l∧True∧True∧True∧((gD l (0:Int) (0,((0,0),0))).2.1.1=(gD l (0:Int) (0,((0,0),0))).2.1.1∧(gD l (0:Int) (0,((0,0),0))).2.1.2=(gD l (0:Int) (0,((0,0),0))).2.1.2∧(([]:List SV)=[]))∧True)∧(((0:Int)=(0:Int)∧(0:Int)=(0:Int)∧(([]:List SV)=[]))∧((gD l (0:Int) (0,((0,0),0))).2.1.1=(gD l (0:Int) (0,((0,0),0))).2.1.1∧(gD l (0:Int) (0,((0,0),0))).2.1.2=(gD l (0:Int) (0,((0,0),0))).2.1.2∧(([]:List SV)=[]))∧((0:Int)=(0:Int)∧(0:Int)=(0:Int)∧(([]:List SV)=[]))∧True))∧((0≤(0:Int))∧((0:Int)<(List.length l))∧(0≤(0:Int))∧((0:Int)<(List.length l))∧((l=l∧True∧True∧True∧((gD l (0:Int) (0,((0,0),0))).2.1.1=(gD l (0:Int) (0,((0,0),0))).2.1.1∧(gD l (0:Int) (0,((0,0),0))).2.1.2=(gD l (0:Int) (0,((0,0),0))).2.1.2∧(([]:List SV)=[]))∧True)∧(((0:Int)=(0:Int)∧(0:Int)=(0:Int)∧(([]:List SV)=[]))∧((gD l (0:Int) (0,((0,0),0))).2.1.1=(gD l (0:Int) (0,((0,0),0))).2.1.1∧(gD l (0:Int) (0,((0,0),0))).2.1.2=(gD l (0:Int) (0,((0,0),0))).2.1.2∧(([]:List SV)=[]))∧((0:Int)=(0:Int)∧(0:Int)=(0:Int)∧(([]:List SV)=[]))∧True)))∧(0≤(1:Int))∧((1:Int)≤(lI l))∧((lI l)≤(List.length l))∧∃ (e3:Unit) (d30:Int×Int×Int×Int×Int),((True∧True∧True∧(List.take (Int.toNat ((lI l)-(1:Int))) (List.drop (Int.toNat (1:Int)) l))=(List.take (Int.toNat ((lI l)-(1:Int))) (List.drop (Int.toNat (1:Int)) l))∧(lI (List.take (Int.toNat ((lI l)-(1:Int))) (List.drop (Int.toNat (1:Int)) l)))=(lI (List.take (Int.toNat ((lI l)-(1:Int))) (List.drop (Int.toNat (1:Int)) l)))∧(0:Int)=d30.2.2.2.2∧True)∧(((0:Int)=(0:Int)∧(0:Int)=(0:Int)∧(([]:List SV)=[]))∧((gD l (0:Int) (0,((0,0),0))).2.1.1=d30.1∧(gD l (0:Int) (0,((0,0),0))).2.1.2=d30.2.1∧(([]:List SV)=[]))∧((gD l (0:Int) (0,((0,0),0))).2.1.1=d30.2.2.1∧(gD l (0:Int) (0,((0,0),0))).2.1.2=d30.2.2.2.1∧(([]:List SV)=[]))∧True)) ∧
 LoopP (fun (d3:Int×Int×Int×Int×Int) (q3:(Int×Int×Int×Int×Int)→Prop) =>
  ((decide (d3.2.2.2.2<(lI (List.take (Int.toNat ((lI l)-(1:Int))) (List.drop (Int.toNat (1:Int)) l)))))=true →
   (0≤d3.2.2.2.2)∧(d3.2.2.2.2<(List.length (List.take (Int.toNat ((lI l)-(1:Int))) (List.drop (Int.toNat (1:Int)) l))))∧(I64 (d3.2.2.2.2+(1:Int)))∧(∃ d4:Int×Int×Int×Int×Int,((True∧True∧True∧(List.take (Int.toNat ((lI l)-(1:Int))) (List.drop (Int.toNat (1:Int)) l))=(List.take (Int.toNat ((lI l)-(1:Int))) (List.drop (Int.toNat (1:Int)) l))∧(lI (List.take (Int.toNat ((lI l)-(1:Int))) (List.drop (Int.toNat (1:Int)) l)))=(lI (List.take (Int.toNat ((lI l)-(1:Int))) (List.drop (Int.toNat (1:Int)) l)))∧(d3.2.2.2.2+(1:Int))=d4.2.2.2.2∧True)∧(((0:Int)=(0:Int)∧(0:Int)=(0:Int)∧(([]:List SV)=[]))∧((K0 d3.1 (gD (List.take (Int.toNat ((lI l)-(1:Int))) (List.drop (Int.toNat (1:Int)) l)) d3.2.2.2.2 (0,((0,0),0))).2.1.1)=d4.1∧(F7 d3.2.1 (gD (List.take (Int.toNat ((lI l)-(1:Int))) (List.drop (Int.toNat (1:Int)) l)) d3.2.2.2.2 (0,((0,0),0))).2.1.2)=d4.2.1∧(([]:List SV)=[]))∧((F7 d3.2.2.1 (gD (List.take (Int.toNat ((lI l)-(1:Int))) (List.drop (Int.toNat (1:Int)) l)) d3.2.2.2.2 (0,((0,0),0))).2.1.1)=d4.2.2.1∧(K0 d3.2.2.2.1 (gD (List.take (Int.toNat ((lI l)-(1:Int))) (List.drop (Int.toNat (1:Int)) l)) d3.2.2.2.2 (0,((0,0),0))).2.1.2)=d4.2.2.2.1∧(([]:List SV)=[]))∧True))∧q3 d4)) ∧
  ((decide (d3.2.2.2.2<(lI (List.take (Int.toNat ((lI l)-(1:Int))) (List.drop (Int.toNat (1:Int)) l)))))=false →
   (I64 (d3.1-d3.2.1))∧(I64 (d3.2.2.2.1-d3.2.2.1))∧(((K0 (0:Int) (d3.1-d3.2.1))=((Q70 l).1)∧(d3.2.2.2.1-d3.2.2.1)=((Q70 l).2)∧(([]:List SV)=[]))∧(True)))) d30
def MO:Cx:=⟨[],[],61,[],0,[],[],[],[0,2,3,4,14],false,[],[],[],[]⟩
def TK (l:List (Int×(Int×Int)×Int)):List (Nat×LoopAnn):=[(0,⟨Unit,Int×Int×Int×Int×Int,[2,3,4,16,17,18],fun e x=>[.box 2 0,.box 3 0,.box 4 0,.val (.list (.pair (.i .i64) (.pair (.pair (.i .i64) (.i .i64)) (.i .i64)))) (List.take (Int.toNat ((((List.length l):Nat):Int)-(1:Int))) (List.drop (Int.toNat (1:Int)) l)),.val (.i .i64) (((List.length (List.take (Int.toNat ((((List.length l):Nat):Int)-(1:Int))) (List.drop (Int.toNat (1:Int)) l))):Nat):Int),.val (.i .i64) x.2.2.2.2],fun e x=>[(2,.slot 2,.cells [.val (.i .i64) (0:Int),.val (.i .i64) (0:Int)] (some 62)),(3,.slot 3,.cells [.val (.i .i64) x.1,.val (.i .i64) x.2.1] (some 62)),(4,.slot 4,.cells [.val (.i .i64) x.2.2.1,.val (.i .i64) x.2.2.2.1] (some 62))]⟩)]
theorem RU (d:List (Int×(Int×Int)×Int)):gwp (MO) (TK d) c59 0 (YU [.cell 2 true 2] (Np d) (Ny d)) (Qh 61 (AL.can G6 d))=WI d:=by kernel_rfl
abbrev Ry:Prop:=OkC Tryz.prog 59 U9
theorem R6 (h:∀ (l:List (Int×(Int×Int)×Int)),(l≠[]∧l.length≤1000∧∀ x∈l,Xd x=true)→WI l):OkC Tryz.prog 59 U9 :=
 QB Q9d mixed (C:=MO) (V:=fun (d:List (Int×(Int×Int)×Int))=>WI d) ⟨.nil,XsOk.nil,ItsOk.nil,YlOk.nil,IysOk.nil,XfOk.nil⟩ (RU) fun d hp=>h d hp
theorem TP:Ry:=R6 fun l h=>by
 obtain⟨h1,h2,h3⟩:=h;have hp:1≤l.length:=List.length_pos_iff.2 h1;unfold WI;(try delta lI gD sT I64);simp only[decide_eq_true_eq,decide_eq_false_iff_not];have hM:List.take ((l.length:Int)-1).toNat (List.drop (Int.toNat 1) l)=l.drop 1:=List.take_of_length_le (by rw[List.length_drop];show l.length-1≤_;omega);have vA:(l.drop 1).length=l.length-1:=List.length_drop ..;have cY:∀ k,k+1<l.length→(l.drop 1).getD k (0,((0,0),0))=l[k+1]?.getD J_:=fun k hk=>by rw[Q6 (by omega),List.getElem_drop,List.getElem?_eq_getElem hk];simp only[Option.getD_some,Nat.add_comm]
 have h0:l.getD (Int.toNat 0) (0,((0,0),0))=l.getD 0 J_:=rfl;have s1:=IT h1;rw[hM,h0];refine⟨by omega,by omega,by omega,by omega,(by and_intros<;>first|rfl|trivial|simp),⟨by omega,by omega,by omega,by omega,(by and_intros<;>first|rfl|trivial|simp)⟩,by omega,by omega,by omega,(),((No l 1).1,(No l 1).2.1,(No l 1).2.2.1,(No l 1).2.2.2,0),by rw[s1];exact(by and_intros<;>first|rfl|trivial|simp),?_⟩;refine⟨fun d=>∃ k:Nat,k+1≤l.length∧d=((No l (k+1)).1,(No l (k+1)).2.1,(No l (k+1)).2.2.1,(No l (k+1)).2.2.2,(k:Int)),fun d=>l.length-d.2.2.2.2.toNat,⟨0,hp,rfl⟩,?_⟩;rintro _ ⟨k,hk,rfl⟩;dsimp only;simp only[Int.toNat_natCast,vA];refine⟨fun ah=>?_,fun bh=>?_⟩
 ·have a9:k+1<l.length:=by omega
  rw[cY k a9,List.getElem?_eq_getElem a9,Option.getD_some];have hs:=AZ a9;refine⟨by omega,by omega,by rw[QQ];omega,((No l (k+1+1)).1,(No l (k+1+1)).2.1,(No l (k+1+1)).2.2.1,(No l (k+1+1)).2.2.2,(k:Int)+1),by rw[hs];exact(by and_intros<;>first|rfl|trivial|simp),⟨k+1,by omega,by simp⟩,?_⟩;dsimp only;omega
 ·have aP:k+1=l.length:=by omega
  obtain⟨a,⟨i1,b1,c1⟩,⟨i2,b2,c2⟩,⟨i3,b3,c3⟩,⟨i4,b4,c4⟩⟩:=TH h1 l.length hp (Nat.le_refl _);have hv:∀ i,i<l.length→0≤(l.getD i J_).2.1.1∧(l.getD i J_).2.1.1≤1000∧0≤(l.getD i J_).2.1.2∧(l.getD i J_).2.1.2≤1000:=fun i hi=>by have:=Ey.1 (h3 _ (List.getElem_mem hi));rw[Q6 hi];omega
  have v1:=hv i1 b1;have v2:=hv i2 b2;have v3:=hv i3 b3;have v4:=hv i4 b4;rw[aP];unfold Q70;refine⟨by rw[QQ];omega,by rw[QQ];omega,?_⟩;and_intros<;>first|rfl|trivial
theorem T7 {l:List Lot}(h:ZB l=0):l.length≤12∧∀ x∈l,Xd x=true:=by
 unfold ZB at h;split at h
 ·cases h
 ·split at h
  ·cases h
  ·rename_i h1 h2;refine⟨by omega,fun x hx=>?_⟩;have:=List.any_eq_false.1 (Bool.eq_false_iff.2 h2) x hx;simpa using this
theorem OQ {l:List Lot}{sm:List Int}{k:Nat}(h:k<sm.length):Uf l (sm.take (k+1))=Uf l (sm.take k)++[l.getD (sm.getD k 0).toNat J_]:=by unfold Uf;rw[QO h,List.map_append,Q6 h];rfl
theorem Q4r {l:List Lot}{sm:List Int}(h:∀ x∈l,Xd x=true) (hs:∀ i∈sm,0≤i∧i<l.length):∀ x∈Uf l sm,Xd x=true:=fun x hx=>by simp only[Uf,List.mem_map] at hx;obtain⟨i,hi,rfl⟩:=hx;have:=hs i hi;rw[Q6 (show i.toNat<l.length by omega)];exact h _ (List.getElem_mem _)
def tzK:Nat→Nat→Nat
 |0,_=>0
 |f+1,n=>if n % 2=1 then 0 else 1+tzK f (n / 2)
def tzN (n:Nat):Nat:=if n=0 then 64 else tzK 64 n
theorem Iz:∀ f n,0<n→n<2 ^ f→tzK f n<f∧∃ m,n=2 ^ tzK f n*(2*m+1)
 |0,n,h0,h1=>by simp at h1;omega
 |f+1,n,h0,h1=>by
  unfold tzK;split
  ·rename_i h;exact⟨by omega,n / 2,by omega⟩
  ·rename_i h;have hp:2 ^ (f+1)=2*2 ^ f:=by rw[Nat.pow_succ];omega
   obtain⟨h2,m,h3⟩:=Iz f (n / 2) (by omega) (by omega);refine⟨by omega,m,?_⟩;rw[Nat.add_comm,Nat.pow_succ,Nat.mul_comm (2 ^ _) 2,Nat.mul_assoc,←h3];omega
theorem Gu {n:Nat}(h0:0<n) (h1:n<2 ^ 64):tzN n<64∧∃ m,n=2 ^ tzN n*(2*m+1):=by unfold tzN;rw[if_neg (by omega)];exact Iz 64 n h0 h1
theorem F4 {t m:Nat}(i:Nat):(2 ^ t*(2*m+1)-1).testBit i=if i<t then true else if i=t then false else (2 ^ t*(2*m+1)).testBit i:=by
 have hp:0<2 ^ t:=Nat.two_pow_pos t;have e:2 ^ t*(2*m+1)-1=2 ^ t*(2*m)+(2 ^ t-1):=by rw[Nat.mul_add,Nat.mul_one];omega
 rw[e,Nat.testBit_two_pow_mul_add _ (by omega)];split
 ·rename_i h;rw[Nat.testBit_two_pow_sub_one];simpa using h
 ·rename_i h;split
  ·rename_i h2;subst h2;simp
  ·rename_i h2;rw[Nat.testBit_two_pow_mul];obtain⟨k,hk⟩:∃ k,i-t=k+1:=⟨i-t-1,by omega⟩;have hd:decide (i≥t)=true:=decide_eq_true (by omega);rw[hd,hk,Nat.testBit_succ,Nat.testBit_succ,Bool.true_and];congr 1;omega
theorem Q8m {n:Nat}(h0:0<n) (h1:n<2 ^ 64):n &&& (2 ^ 64-n)=2 ^ tzN n:=by
 obtain⟨ht,m,hm⟩:=Gu h0 h1;generalize tzN n=t at *
 refine Nat.eq_of_testBit_eq fun i=>?_;have e:2 ^ 64-n=2 ^ 64-((n-1)+1):=by omega
 rw[Nat.testBit_and,e,Nat.testBit_two_pow_sub_succ (by omega),Nat.testBit_two_pow,hm,F4];by_cases h2:i<t
 ·rw[if_pos h2,Nat.testBit_two_pow_mul,decide_eq_false (show ¬ i≥t by omega),decide_eq_false (show ¬ t=i by omega)];rfl
 ·rw[if_neg h2];by_cases h3:i=t
  ·subst h3;rw[if_pos rfl,Nat.testBit_two_pow_mul];simp;omega
  ·rw[if_neg h3,decide_eq_false (show ¬ t=i by omega)];cases (2 ^ t*(2*m+1)).testBit i<;>simp
theorem H0 {n:Nat}(h0:0<n) (h1:n<2 ^ 64) (i:Nat):(n &&& (n-1)).testBit i=(n.testBit i&&!decide (i=tzN n)):=by
 obtain⟨ht,m,hm⟩:=Gu h0 h1;generalize tzN n=t at *
 rw[Nat.testBit_and,hm,F4];by_cases h2:i<t
 ·rw[if_pos h2,decide_eq_false (by omega)];simp
 ·rw[if_neg h2];by_cases h3:i=t
  ·rw[if_pos h3,decide_eq_true h3];simp
  ·rw[if_neg h3,decide_eq_false h3];simp
def LU:Nat→Nat→List Int
 |0,_=>[]
 |f+1,n=>if n=0 then [] else (tzN n:Int)::LU f (n &&& (n-1))
def Qw (n:Nat):List Int:=LU n n
theorem EF:∀ f g n,n≤f→n≤g→LU f n=LU g n
 |0,g,n,h1,_=>by
  have:n=0:=by omega
  subst this;cases g<;>simp[LU]
 |f+1,0,n,_,h2=>by
  have:n=0:=by omega
  subst this;simp[LU]
 |f+1,g+1,n,h1,h2=>by
  unfold LU;by_cases h:n=0
  ·rw[if_pos h,if_pos h]
  ·rw[if_neg h,if_neg h];have:=Nat.and_le_right (n:=n) (m:=n-1);rw[EF f g _ (by omega) (by omega)]
theorem ES {n:Nat}(h:0<n):Qw n=(tzN n:Int)::Qw (n &&& (n-1)):=by
 have:=Nat.and_le_right (n:=n) (m:=n-1);unfold Qw;obtain⟨f,rfl⟩:∃ f,n=f+1:=⟨n-1,by omega⟩;conv=>lhs;unfold LU
 rw[if_neg (by omega),EF f _ _ (by omega) (Nat.le_refl _)]
theorem Q1d:Qw 0=[]:=rfl
theorem Z0y:∀ t:Nat,t<64→Go.V.t64[(2 ^ t*285870213051353865 % 18446744073709551616) / 288230376151711744]?=some (t:Int):=by decide +kernel
end Go.Proofs.Tryz