/- A framework for walks, contracts of functions, and their proofs: part 5. -/
import Derived.ProofKit
import Derived.OpenShut
import Derived.LaidMore
import Derived.Carry
import Derived.Lib.SmallJoins
import Derived.Deep.Slices
import Derived.Test.YtfidkfoillgeeaaGreatDoorR4
noncomputable section
set_option linter.unusedVariables false
set_option maxRecDepth 100000
namespace Go.V
open Go
section
variable {P:Program}
mutual
theorem Lo:∀ (v:SV) {K:SV→Prop},nmV v K→K v
 |.val k x,K,h=>by simp only[nmV] at h;exact h x rfl
 |.agg l,K,h=>by simp only[nmV] at h;exact DH l h
 |.tup l,K,h=>by simp only[nmV] at h;exact DH l h
 |.any,_,h|.dd _ _,_,h|.bid _ _,_,h|.grd _ _,_,h|.nilS,_,h|.nilP,_,h|.nilM,_,h|.nilF,_,h|.lst _,_,h|.sub _ _ _ _,_,h|.elp _ _ _ _,_,h|.rop _ _ _ _,_,h|.box _ _,_,h|.cp _ _,_,h|.map _,_,h|.fn _ _ _,_,h|.pf _ _ _ _,_,h=>by simp only[nmV] at h;exact h
theorem DH:∀ (l:List SV) {K:List SV→Prop},Q1u l K→K l
 |[],K,h=>by simp only[Q1u] at h;exact h
 |v::r,K,h=>by simp only[Q1u] at h;exact DH r (Lo v h)
end
theorem QR {C:Cx}{o:VOp}{ev:Operand→SV}{v:SV}{K:SV→Prop}(h:gnm C o ev v K):K v:=by
 unfold gnm at h;cases hb:(C.nm&&Q7o o ev) with
 |true=>rw[hb] at h;exact Lo v h
 |false=>rw[hb] at h;exact h
theorem ML {B:Heap}{pl:Nat→Value}{tb:Nat→Option Bool}{v:SV}{u:Value}(h:SR P B pl tb v u):SR P B pl tb (UE v) u∧gtb tb (UE v):=by
 cases v with
 |bid n c=>simp only[SR] at h;obtain⟨rfl,_⟩:=h;exact⟨Z7 _,trivial⟩
 |_=>exact⟨h,trivial⟩
theorem MG {tb:Nat→Option Bool}(v:SV):gtb tb (UE v):=by cases v<;>trivial
theorem NN {C:Cx}(aB:COk P C) {B F:Heap}{pl:Nat→Value}{tb:Nat→Option Bool}{s:St}{env:Env}{σ:Heap}(hG:Gam P B F pl tb s env σ) {d:Nat}{f:SV}{args:List SV}{fV:Value}{vs:List Value}(hf:SR P B pl tb f fV) (ha:SRs P B pl tb args vs) {K:SV→St→Prop}(h:Lt C d f args s K) {R:Value→Heap→Prop}
  (hK:∀ v s' B' F' pl' tb' u σ',K v s'→GBase B F σ B' F' σ'→Gam P B' F' pl' tb' s' env σ'→SR P B' pl' tb' v u→R u σ'):∃ g a b,fV=.func (.func g) a b∧VCalled P g (a.toList++vs++b.toList) σ R:=by
 unfold Lt at h;have lH:SR P σ J3 Zr ((G0 s.own [f]).getD 0 .any) fV:=by have:=(Yb hG.leB hG.obj (show SRs P B pl tb [f] [fV] by simp only[SRs];exact⟨_,[],rfl,hf,rfl⟩)).getD 0 poison;simpa using this
 have j_:=Yb hG.leB hG.obj ha;split at h
 ·rename_i c v bs heq;cases hb:(v.ret bs.length&&(bs.all OB.ret&&Nat.blt 0 C.nt)) with
  |false=>rw[hb] at h;exact h.elim
  |true =>rw[hb] at h;obtain⟨h1,h2⟩:=h;simp only[Bool.and_eq_true] at hb;obtain⟨g,a,b,e,aD,_⟩:=Z1 aB.cs lH j_ heq hb.1 hb.2.1 h1;refine⟨g,a,b,e,aD.mono fun u σ' hr=>?_⟩;obtain⟨pl',h3,h4⟩:=hr.gam (nt:=C.nt) (d:=d) (by simpa [Nat.blt_eq] using hb.2.2) hG hb.1 hb.2.1;exact hK _ _ B F pl' tb u σ' h2 (.of hG.bf hr.1.2) h3 h4
 ·exact h.elim
theorem Mb {C:Cx}(aB:COk P C) {B F:Heap}{pl:Nat→Value}{tb:Nat→Option Bool}{s:St}{env:Env}{σ:Heap}(hG:Gam P B F pl tb s env σ) {d:Nat}{f:SV}{args:List SV}{fV:Value}{vs:List Value}(hf:SR P B pl tb f fV) (ha:SRs P B pl tb args vs) {K:SV→St→Prop}(h:Hk C d f args s K) (wL:∀ o,f≠.dd o .yv) {R:Value→Heap→Prop}
  (hK:∀ v s' B' F' pl' tb' u σ',K v s'→GBase B F σ B' F' σ'→Gam P B' F' pl' tb' s' env σ'→SR P B' pl' tb' v u→R u σ'):∃ g a b,fV=.func (.func g) a b∧VCalled P g (a.toList++vs++b.toList) σ R:=by
 unfold Hk at h;split at h
 ·rename_i g a b;split at h
  ·rename_i x hx;have xV:=hf;simp only[SR] at hf;obtain⟨a',b',rfl,h1,h2⟩:=hf;refine⟨g,a'.toArray,b'.toArray,rfl,?_⟩;have:=aB.xs g x hx B F pl tb s env σ d _ _ K R hG (h1.append (ha.append h2)) h hK;simpa using this
  ·exact NN aB hG hf ha h hK
 ·exact(wL _ rfl).elim
 ·exact NN aB hG hf ha h hK
theorem CA {C:Cx}{B F:Heap}{pl:Nat→Value}{tb:Nat→Option Bool}{s:St}{env:Env}{σ:Heap}(hG:Gam P B F pl tb s env σ) {d:Nat}{o:VOp}{K:SV→St→Prop}(h:gnd C d o (gev [] s.env) s K) {R:Value→Heap→Prop}
  (hK:∀ v s' B' F' pl' tb' u σ',K v s'→GBase B F σ B' F' σ'→Gam P B' F' pl' tb' s' env σ'→SR P B' pl' tb' v u→R u σ'):vop (Q2 P) o env σ R:=by
 obtain⟨u,σ',pl',v,s',h1,h2,h3,h4⟩:=GH (fun x=>hG.evs (Gds.nil (tb:=tb)) x) hG h;have fin:QI (Q5 o (Q4 env) σ) (fun p=>R p.1 p.2):=by rw[h1];exact hK v s' B F pl' tb u σ' h2 (.of hG.bf (Wl h1)) h3.1 h4
 cases o
 case buildSlice e z n ps=>exact fin
 case makeSlice e b z l c=>exact fin
 case append e b x y=>exact fin
 case store size a x=>exact fin
 all_goals exact h.elim
section
variable {B F:Heap}{pl:Nat→Value}{tb:Nat→Option Bool}{s:St}{env:Env}{σ:Heap}
def Heap.ins (B σ:Heap) (i:Nat) (h:B.n≤σ.n):Heap where
 get j:=if j=i then σ.get i else B.get j
 n:=σ.n
 wf j hj:=by
  by_cases e:j=i
  ·simp only[if_pos e];subst e;exact σ.wf j hj
  ·simp only[if_neg e];exact B.wf j (Nat.le_trans h hj)
theorem Heap.ins_self (B σ:Heap) (i:Nat) (h:B.n≤σ.n):(B.ins σ i h).get i=σ.get i:=by simp[Heap.ins]
theorem Heap.ins_ne (B σ:Heap) {i j:Nat}(h:B.n≤σ.n) (e:j≠i):(B.ins σ i h).get j=B.get j:=by simp[Heap.ins,e]
theorem Heap.Le.ins {B σ:Heap}(h:B.Le σ) (i:Nat):B.Le (B.ins σ i h.1):=⟨h.1,fun j b hb=>by
 by_cases e:j=i
 ·subst e;rw[Heap.ins_self];exact h.2 _ _ hb
 ·rw[Heap.ins_ne _ _ _ e];exact hb⟩
theorem Heap.Le.ins_le {B σ:Heap}(h:B.Le σ) (i:Nat):(B.ins σ i h.1).Le σ:=⟨Nat.le_refl _,fun j b hb=>by
 by_cases e:j=i
 ·subst e;rw[Heap.ins_self] at hb;exact hb
 ·rw[Heap.ins_ne _ _ _ e] at hb;exact h.2 _ _ hb⟩
theorem Heap.ins_ins {B F σ:Heap}(h:B.Le F) (i:Nat) (hB:B.n≤σ.n) (hF:F.n≤σ.n):(B.ins σ i hB).Le (F.ins σ i hF):=⟨Nat.le_refl _,fun j b hb=>by
 by_cases e:j=i
 ·subst e;rw[Heap.ins_self] at hb ⊢;exact hb
 ·rw[Heap.ins_ne _ _ _ e] at hb ⊢;exact h.2 _ _ hb⟩
theorem Gam.freeze (hG:Gam P B F pl tb s env σ) {o i:Nat}(hl:(Q6 s.own o).live=true) (hi:Oid (pl o) i) :
  GBase B F σ (B.ins σ i hG.leB.1) (F.ins σ i hG.le.1) σ∧Gam P (B.ins σ i hG.leB.1) (F.ins σ i hG.le.1) pl tb ⟨s.env,oset s.own o .dead,s.nx⟩ env σ:=by
 have ng:=hG.fresh o i hl hi;have lv:∀ d,(Q6 (oset s.own o .dead) d).live=true→d≠o∧(Q6 s.own d).live=true:=fun d h=>by
  rw[Qb] at h;by_cases e:d=o
  ·rw[if_pos e] at h;cases h
  ·rw[if_neg e] at h;exact⟨e,h⟩
 refine⟨⟨hG.leB.ins i,hG.le.ins i,fun j b h1 h2=>?_,.refl _⟩,⟨Heap.ins_ins hG.bf i _ _,hG.le.ins_le i,SRs.mono (hG.leB.ins i) (fun _ _ h=>h) _ _ hG.env,fun d=>?_,fun d j h1 h2=>?_,fun d d' j aF h1 h2 h3 h4=>hG.sep d d' j aF (lv d h1).2 (lv d' h2).2 h3 h4,hG.free⟩⟩
 ·have e:j≠i:=by rintro rfl;rw[ng] at h1;cases h1
  rw[Heap.ins_ne _ _ _ e];exact h2
 ·simp only[Qb];by_cases e:d=o
  ·rw[if_pos e];trivial
  ·rw[if_neg e];exact(hG.obj d).mono (hG.leB.ins i) (fun _ _ h=>h) fun _ _ _=>rfl
 ·obtain⟨aF,bS⟩:=lv d h1;have e:j≠i:=by rintro rfl;exact hG.sep d o j aF bS hl h2 hi
  rw[Heap.ins_ne _ _ _ e];exact hG.fresh d j bS h2
theorem Gam.own {s':St}(hG:Gam P B F pl tb s env σ) (h1:s'.env=s.env) (h2:∀ d,Q6 s'.own d=Q6 s.own d) (h3:s'.nx=s.nx):Gam P B F pl tb s' env σ :=
 ⟨hG.bf,hG.le,by rw[h1];exact hG.env,fun d=>by rw[h2];exact hG.obj d,fun d i=>by rw[h2];exact hG.fresh d i,fun d d' i aF=>by rw[h2,h2];exact hG.sep d d' i aF,fun n hn=>hG.free n (by rw[←h3];exact hn)⟩
theorem Gam.drop (hG:Gam P B F pl tb s env σ) (o:Nat):Gam P B F pl tb ⟨s.env,oset s.own o .dead,s.nx⟩ env σ:=by
 have lv:∀ d,(Q6 (oset s.own o .dead) d).live=true→d≠o∧(Q6 s.own d).live=true:=fun d h=>by
  rw[Qb] at h;by_cases e:d=o
  ·rw[if_pos e] at h;cases h
  ·rw[if_neg e] at h;exact⟨e,h⟩
 refine⟨hG.bf,hG.le,hG.env,fun d=>?_,fun d j h1 h2=>hG.fresh d j (lv d h1).2 h2,fun d d' j aF h1 h2 h3 h4=>hG.sep d d' j aF (lv d h1).2 (lv d' h2).2 h3 h4,hG.free⟩;simp only[Qb];by_cases e:d=o
 ·rw[if_pos e];trivial
 ·rw[if_neg e];exact hG.obj d
theorem Td (s:St) (d:Nat) (b:OB) (q:Nat):Q6 (s.make d .dead).own q=Q6 (oset (s.make d b).own d .dead) q:=by
 simp only[St.make,Qb];by_cases e:q=d
 ·rw[if_pos e,if_pos e]
 ·rw[if_neg e,if_neg e,if_neg e]
theorem Ck {C:Cx}(hG:Gam P B F pl tb s env σ) {d:Nat}{x:Operand}{K:SV→St→Prop}(h:gn C d (.ext (.rangeMap x)) (gev [] s.env) s K) {R:Value→Heap→Prop}
  (hK:∀ v s' B' F' pl' tb' u σ',K v s'→GBase B F σ B' F' σ'→Gam P B' F' pl' tb' s' env σ'→SR P B' pl' tb' v u→R u σ'):vop (Q2 P) (.ext (.rangeMap x)) env σ R:=by
 have ha:=hG.evs (Gds.nil (tb:=tb)) x;simp only[gn] at h;split at h
 ·rename_i o h1;rw[h1] at ha;simp only[SR] at ha;split at h
  ·rename_i kk vk m ho;split at h
   ·have ak:=hG.obj o;rw[ho] at ak;obtain⟨i,es,clock,h2,h3,h4⟩:=ak;obtain⟨g1,g2⟩:=hG.freeze (o:=o) (i:=i) (by rw[ho];rfl) (by rw[h2];rfl)
    have jg:=g2.push d (.iter kk vk m []) (.pointer (some ⟨σ.n,0,none⟩)) (.obj (.iter i clock [] clock) true) rfl
     ⟨σ.n,i,es,clock,true,[],rfl,Heap.get_push_self _ _,by rw[Heap.ins_self];exact h3,h4.mono g1.b,rfl,fun t r h=>by simp at h⟩
    show QI (Q5 (.ext (.rangeMap x)) (Q4 env) σ) _;have hv:Q5 (.ext (.rangeMap x)) (Q4 env) σ=some (.pointer (some ⟨σ.n,0,none⟩),σ.push (.obj (.iter i clock [] clock) true)):=by simp only[Q5,QM,ha.1,h2,Heap.mapAt,h3]
    rw[hv];exact hK _ _ _ _ _ _ _ _ h (g1.trans (.of g2.bf (Dead.push _ _))) jg (by simp only[SR,ZK];exact⟨_,rfl,rfl⟩)
   ·exact h.elim
  ·exact h.elim
 ·exact h.elim
theorem Ao {C:Cx}(hG:Gam P B F pl tb s env σ) {d:Nat}{x:Operand}{K:SV→St→Prop}(h:gn C d (.ext (.nextMap x)) (gev [] s.env) s K) {R:Value→Heap→Prop}
  (hK:∀ v s' B' F' pl' tb' u σ',K v s'→GBase B F σ B' F' σ'→Gam P B' F' pl' tb' s' env σ'→SR P B' pl' tb' v u→R u σ'):vop (Q2 P) (.ext (.nextMap x)) env σ R:=by
 have ha:=hG.evs (Gds.nil (tb:=tb)) x;simp only[gn] at h;split at h
 ·rename_i o f h1;rw[h1] at ha;simp only[SR] at ha;split at h
  ·rename_i kk vk m dn ho;split at h
   ·rename_i hf;obtain⟨rfl,oJ⟩:=hf;have ah:(Q6 s.own o).live=true:=by rw[ho];rfl
    have ak:=hG.obj o;rw[ho] at ak;obtain⟨j,i,es,clock,wr,seen,h2,h3,h4,h5,h6⟩:=ak;obtain⟨b,e2,e3⟩:=ha;rw[h2] at e2;obtain rfl:j=b:=by simpa using e2
    have aE:σ.mapAt i=some (es,clock,wr):=by simp[Heap.mapAt,hG.leB.2 _ _ h4]
    have hlen:=h5.1.length;obtain⟨hA,hB⟩:=h;have aT:F.get j=none:=hG.fresh o j ah (by rw[h2];rfl);have br:∀ q i',q≠o→(Q6 s.own q).live=true→Oid (pl q) i'→i'≠j:=fun q i' hq hl hi e=>by subst e;exact hG.sep q o i' hq hl ah hi (by rw[h2];rfl)
    show RS (Q4 env x) σ R;unfold RS;rw[e3];simp only[h3,aE];refine⟨?_,?_,fun hall=>?_,fun e he lP=>?_⟩
    ·cases es with
     |nil=>simp
     |cons e es=>simp[h5.2.2 e (by simp)]
    ·rw[List.all_eq_true];intro e he;obtain⟨r,hr⟩:=List.mem_iff_getElem?.1 he;obtain⟨_,k1,_⟩:=MR.at h5.1 hr;exact TP oJ k1
    ·refine hK _ _ _ _ _ _ _ _ (hA fun r hr=>?_) (.of hG.bf (Dead.refl σ)) hG (by simp only[SR,SRs];exact⟨[.bool false],rfl,_,[],rfl,rfl,rfl⟩);have cJ:r<es.length:=by omega
     have he:=List.getElem?_eq_getElem cJ;have:=List.all_eq_true.1 hall es[r] (List.getElem_mem cJ);have aj:=h5.2.2 _ (List.getElem_mem cJ);rw[Bool.or_eq_true,decide_eq_true_eq] at this;rcases this with this|this
     ·rw[List.contains_iff_mem] at this;obtain⟨t,ht⟩:=List.mem_iff_getElem?.1 this;have xW:t<seen.length:=(List.getElem?_eq_some_iff.1 ht).1;have tz:t<dn.length:=by have:=h6.1;omega
      obtain⟨e',k1,k2⟩:=h6.2 t dn[t] (List.getElem?_eq_getElem tz);rw[ht] at k2;have:=Nf h5.2 he k1 (osj k2);rw[this];exact List.getElem_mem tz
     ·omega
    ·obtain⟨r,hr⟩:=List.mem_iff_getElem?.1 he;have cJ:r<es.length:=(List.getElem?_eq_some_iff.1 hr).1;have tx:r∉dn:=fun hm=>by
      obtain⟨t,ht⟩:=List.mem_iff_getElem?.1 hm;obtain⟨e',k1,k2⟩:=h6.2 t r ht;rw[hr] at k1;obtain rfl:=osj k1;have:seen.contains e.2.2=true:=by rw[List.contains_iff_mem];exact List.mem_of_getElem? k2
      rw[this] at lP;cases lP
     refine hK _ _ _ _ _ _ _ _ (hB r (by omega) tx) (.of hG.bf (Dead.upd _ _ _ (by rw[h3];rfl))) (hG.write o _ (hG.le.upd aT _) ah (fun q i' hq hl hi=>Heap.get_upd_ne _ _ (br q i' hq hl hi)) ⟨j,i,es,clock,wr,seen++[e.2.2],h2,Heap.get_upd_self _ _ (σ.lt h3),h4,h5,?_,fun t r' ht=>?_⟩) (by simp only[SR,SRs];exact⟨[.bool true,e.1,e.2.1],rfl,_,_,rfl,rfl,_,_,rfl,trivial,_,_,rfl,trivial,rfl⟩)
     ·simp[h6.1]
     ·rw[List.getElem?_append] at ht;split at ht
      ·rename_i aj;obtain⟨e',k1,k2⟩:=h6.2 t r' ht;refine⟨e',k1,?_⟩;rw[List.getElem?_append_left (by have:=h6.1;omega)];exact k2
      ·rename_i bj;have h0:t-dn.length=0:=by
        cases hz:t-dn.length with
        |zero=>rfl
        |succ n=>rw[hz] at ht;simp at ht
       rw[h0] at ht;obtain rfl:r=r':=by simpa using ht
       refine⟨e,hr,?_⟩;rw[List.getElem?_append_right (by have:=h6.1;omega),show t-seen.length=0 by have:=h6.1;omega];rfl
   ·exact h.elim
  ·exact h.elim
 ·exact h.elim
theorem Pf {d:Nat}(tA:B.Le F) {ty:Nat}{k:Kind}{xs:List k.T}{nl:Bool}(hk:k.flat=true) {pl':Nat→Value}{u:Value}{σ':Heap}(h1:Gam P B F pl' tb (s.make d (.lst ty k xs nl)) env σ') (h2:SR P B pl' tb (.lst d) u) (hd:Dead σ σ') :
  ∃ B' F',GBase B F σ B' F' σ'∧Gam P B' F' pl' tb (s.make d .dead) env σ'∧SR P B' pl' tb (.val (.list k) xs) u:=by
 have ak:=h1.obj d;have bF:Q6 (s.make d (.lst ty k xs nl)).own d=.lst ty k xs nl:=by simp only[St.make,Qb,if_true]
 rw[bF] at ak;simp only[SR] at h2;obtain⟨rfl,_⟩:=h2;rcases ak with⟨_,hx,hp⟩|⟨_,i,cap,c,t,hp,cm,hg,hlen,a7⟩
 ·refine⟨B,F,.of tA hd,(h1.drop d).own rfl (Td s d _) rfl,?_⟩;simp only[SR];exact⟨_,rfl,.inl ⟨hx,hp⟩⟩
 ·obtain⟨g1,g2⟩:=h1.freeze (o:=d) (i:=i) (by rw[bF];rfl) (by rw[hp];rfl);refine⟨_,_,(GBase.of tA hd).trans g1,g2.own rfl (Td s d _) rfl,?_⟩;simp only[SR];refine⟨_,rfl,.inr ⟨i,0,cap,c,⟨k.size,ty⟩,true,t,hp,cm,by rw[Heap.ins_self];exact hg,rfl,by have:=Nat.mul_le_mul_right k.size cm;omega,?_⟩⟩;rw[List.drop_zero];exact a7.mono fun _ _ e=>KC.flat hk e
theorem Sp {d nt:Nat}(dW:0<nt) (hG:Gam P B F pl tb s env σ) {ty:Nat}{k:Kind}{xs:List k.T}{nl:Bool}(hk:k.flat=true) {u:Value}{σ':Heap}(h:Ret P σ (.lst 0) [.lst ty k xs nl] u σ') :
  ∃ B' F' pl',GBase B F σ B' F' σ'∧Gam P B' F' pl' tb (s.make d .dead) env σ'∧SR P B' pl' tb (.val (.list k) xs) u:=by
 obtain⟨pl',h1,h2⟩:=h.gam (d:=d) dW hG (by rfl) (by simp only[List.all_cons,List.all_nil,Bool.and_true,OB.ret];exact hk);simp only[St.makes,Nat.zero_mul,Nat.add_zero,SV.ren] at h1 h2;obtain⟨B',F',k⟩:=Pf hG.bf hk h1 h2 h.1.2;exact⟨B',F',pl',k⟩
theorem V9 {nt:Nat}{r:Option (Prop×SV×List OB)}{c:Prop}{v:SV}(h:LC nt r=some (c,v)):∃ ty k xs nl,r=some (c,.lst 0,[.lst ty k xs nl])∧v=.val (.list k) xs∧k.flat=true∧0<nt:=by
 unfold LC at h;split at h
 ·split at h
  ·rename_i k xs _;cases hc:(k.flat&&Nat.blt 0 nt) with
   |false=>rw[hc] at h;cases h
   |true =>rw[hc] at h;obtain⟨rfl,rfl⟩:=Qx h;simp only[Bool.and_eq_true,Nat.blt_eq] at hc;exact⟨_,_,_,_,rfl,rfl,hc.1,hc.2⟩
  ·cases h
 ·cases h
theorem Ry {C:Cx}(aB:CsOk P C.cs) (hG:Gam P B F pl tb s env σ) {gs:List Gd}(hg:Gds tb gs) {o:VOp}{c:Prop}{v:SV}{d:Nat}(h:Ps C o (gev gs s.env) s.own=some (c,v)) (hc:c) {K:Value→Heap→Prop}
  (hK:∀ u σ' B' F' pl',GBase B F σ B' F' σ'→Gam P B' F' pl' tb (s.make d .dead) env σ'→SR P B' pl' tb v u→K u σ'):vop (Q2 P) o env σ K:=by
 cases o<;>first|(cases h;done)|skip
 case callF f args =>
  simp only[Ps] at h;obtain⟨ty,k,xs,nl,heq,rfl,hk,dW⟩:=V9 h;obtain⟨g,a,b,h3,h4,_⟩:=Z1 aB (show SR P σ J3 Zr (.fn f [] []) (.func (.func f) #[] #[]) by simp only[SR,SRs];exact⟨[],[],rfl,rfl,rfl⟩) (hG.gcall hg args) heq (by rfl) (by simp only[List.all_cons,List.all_nil,Bool.and_true,OB.ret];exact hk) hc;obtain⟨rfl,rfl,rfl⟩:=(by simpa using h3:f=g∧#[]=a∧#[]=b);have:=h4.mono (R':=K) fun u σ' hr=>by obtain⟨B',F',pl',k1,k2,k3⟩:=Sp (d:=d) dW hG hk hr;exact hK u σ' B' F' pl' k1 k2 k3
  show VCalled P f (args.map (Q4 env)) σ K;simpa using this
 case callV f args =>
  simp only[Ps] at h;obtain⟨ty,k,xs,nl,heq,rfl,hk,dW⟩:=V9 h;obtain⟨g,a,b,h3,h4,_⟩:=Z1 aB (hG.gfun hg f) (hG.gcall hg args) heq (by rfl) (by simp only[List.all_cons,List.all_nil,Bool.and_true,OB.ret];exact hk) hc;exact KM h3 (h4.mono fun u σ' hr=>by
   obtain⟨B',F',pl',k1,k2,k3⟩:=Sp (d:=d) dW hG hk hr;exact hK u σ' B' F' pl' k1 k2 k3)
 case buildSlice e z n ps =>
  simp only[Ps] at h;split at h
  ·rename_i k wM;split at h
   ·rename_i dj;split at h
    ·rename_i xs hx;obtain⟨rfl,rfl⟩:=Qx h;have wN:gn C d (.buildSlice e z n ps) (gev gs s.env) s (fun v s'=>v=.lst d∧s'=s.make d (.lst e.ty k xs false)):=by
      simp only[gn,wM,hx];rw[if_pos ⟨dj.1,dj.2.1⟩];simp
     obtain⟨u,σ',pl',v,s',h1,⟨rfl,rfl⟩,⟨h3,_⟩,h4⟩:=V1 (fun x=>hG.evs hg x) hG wN;obtain⟨B',F',k1,k2,k3⟩:=Pf hG.bf dj.2.2 h3 h4 (Wl h1);show QI (Q5 (.buildSlice e z n ps) (Q4 env) σ) _;rw[h1];exact hK u σ' B' F' pl' k1 k2 k3
    ·cases h
   ·cases h
  ·cases h
theorem Tu {C:Cx}{o:VOp}{ev:Operand→SV}{own:Own}{c:Prop}{v:SV}(h:Ps C o ev own=some (c,v)):∃ (k:Kind) (xs:List k.T),v=.val (.list k) xs:=by
 cases o<;>first|(cases h;done)|skip
 case callF=>simp only[Ps] at h;obtain⟨ty,k,xs,nl,_,hv,_⟩:=V9 h;exact⟨k,xs,hv⟩
 case callV=>simp only[Ps] at h;obtain⟨ty,k,xs,nl,_,hv,_⟩:=V9 h;exact⟨k,xs,hv⟩
 case buildSlice e z n ps =>
  simp only[Ps] at h;split at h
  ·split at h
   ·split at h
    ·obtain⟨_,rfl⟩:=Qx h;exact⟨_,_,rfl⟩
    ·cases h
   ·cases h
  ·cases h
theorem I7 {C:Cx}(aB:COk P C) {B F:Heap}{pl:Nat→Value}{tb:Nat→Option Bool}{s:St}{env:Env}{σ:Heap}(hG:Gam P B F pl tb s env σ) {d:Nat}{o:VOp}{K:SV→St→Prop}(h:gn C d o (gev [] s.env) s K) {R:Value→Heap→Prop}
  (hK:∀ v s' B' F' pl' tb' u σ',K v s'→GBase B F σ B' F' σ'→Gam P B' F' pl' tb' s' env σ'→SR P B' pl' tb' v u→R u σ'):vop (Q2 P) o env σ R:=by
 have af:=hG.evs (Gds.nil (tb:=tb));have act:∀ o {T:Nat},NOk P B F tb o (Q4 env) env σ K T s pl→(∀ R',QI (Q5 o (Q4 env) σ) (fun p=>R' p.1 p.2)→vop (Q2 P) o env σ R')→vop (Q2 P) o env σ R:=fun o _ ⟨u,σ',pl',v,s',h1,h2,h3,h4⟩ hv=>hv R (by rw[h1];exact hK v s' B F pl' tb u σ' h2 (.of hG.bf (Wl h1)) h3.1 h4);have aC:∀ args:List Operand,SRs P B pl tb (args.map (gev [] s.env)) (args.map (Q4 env)):=fun args=>SRs.map fun x _=>hG.evs Gds.nil x;cases o
 case alloc t z=>exact act _ (Er af hG h) fun _ h=>h
 case box t x=>exact act _ (Q4d af hG h) fun _ h=>h
 case buildSlice e z n ps=>exact act _ (V1 af hG h) fun _ h=>h
 case makeSlice e b z l c=>exact act _ (Dm af hG h) fun _ h=>h
 case append e b x y=>exact act _ (Sg af hG h) fun _ h=>h
 case store size a x=>exact act _ (F5 af hG h) fun _ h=>h
 case callF f args =>
  simp only[gn] at h;obtain⟨g,a,b,h3,h4⟩:=Mb aB hG (show SR P B pl tb (.fn f [] []) (.func (.func f) #[] #[]) by simp only[SR,SRs];exact⟨[],[],rfl,rfl,rfl⟩) (aC args) h (fun _ e=>by cases e) hK;obtain⟨rfl,rfl,rfl⟩:=(by simpa using h3:f=g∧#[]=a∧#[]=b);show VCalled P f (args.map (Q4 env)) σ R;simpa using h4
 case callV f args =>
  simp only[gn] at h;by_cases hy:∃ o,gev [] s.env f=.dd o .yv
  ·obtain⟨o,hy⟩:=hy;have hf:=hG.evs (Gds.nil (tb:=tb)) f;have h':Hk C d (gev [] s.env f) (args.map (gev [] s.env)) s K:=h;rw[hy] at hf h';simp only[SR,DR] at hf;obtain⟨i,hp,hv⟩:=hf;simp only[Hk] at h';split at h'
   ·rename_i y wO;have:=aB.yl o y wO B F pl tb s env σ _ _ K R i hG (aC args) h' hp hK;simp only[vop,hv];exact this
   ·exact h'.elim
  obtain⟨g,a,b,h3,h4⟩:=Mb aB hG (hG.evs Gds.nil f) (aC args) h (fun o e=>hy ⟨o,e⟩) hK;exact KM h3 h4
 case ext x =>
  cases x
  case mapUpdate mk m k v=>exact act _ (MO af hG h) fun _ h=>h
  case delete mk m k=>exact act _ (Ss af hG h) fun _ h=>h
  case mapEntry mk z m k=>exact act _ (He af hG h) fun _ h=>h
  case entryStore m s v=>exact act _ (NW af hG h) fun _ h=>h
  case copy size a b=>exact act _ (Oy af hG h) fun _ h=>h
  case unsafeStr e a n=>exact act _ (D4 af hG h) fun _ h=>h
  case strBytes e a=>exact act _ (H8 af hG h) fun _ h=>h
  case rangeMap a=>exact Ck hG h hK
  case nextMap a=>exact Ao hG h hK
  all_goals exact h.elim
 all_goals exact h.elim
theorem Gam.frz (hG:Gam P B F pl tb s env σ) (o:Nat):∃ B' F',GBase B F σ B' F' σ∧Gam P B' F' pl tb (s.frz o) env σ:=by
 unfold St.frz;split
 ·rename_i ty k xs nl ho;have fin:∀ {B' F':Heap},Gam P B' F' pl tb ⟨s.env,oset s.own o .dead,s.nx⟩ env σ→KC B' (.list k) xs [pl o]→Gam P B' F' pl tb ⟨SVs.frz o k xs s.env,Fu o k xs s.own,s.nx⟩ env σ:=fun {B' F'} h hk=>by
   have e1:∀ d,Q6 (Fu o k xs s.own) d=(Q6 (oset s.own o .dead) d).frz o k xs:=fun d=>by
    rw[Ai,Qb];by_cases e:d=o
    ·rw[if_pos e,if_pos e];rfl
    ·rw[if_neg e,if_neg e]
   have lv:∀ d,(Q6 (Fu o k xs s.own) d).live=(Q6 (oset s.own o .dead) d).live:=fun d=>by rw[e1,OB.live_frz]
   refine⟨h.bf,h.le,SRs.frz hk _ _ h.env,fun d=>?_,fun d i h1 h2=>?_,fun d d' i aF h1 h2=>?_,h.free⟩
   ·simp only[e1];exact(h.obj d).frz hk
   ·simp only[lv] at h1;exact h.fresh d i h1 h2
   ·simp only[lv] at h1 h2;exact h.sep d d' i aF h1 h2
  have ak:=hG.obj o;rw[ho] at ak;rcases ak with⟨_,hx,hp⟩|⟨_,i,cap,c,t,hp,cm,hg,hlen,a7⟩
  ·exact⟨B,F,.of hG.bf (.refl _),fin (hG.drop o) ⟨_,rfl,.inl ⟨hx,hp⟩⟩⟩
  ·obtain⟨g1,g2⟩:=hG.freeze (o:=o) (i:=i) (by rw[ho];rfl) (by rw[hp];rfl);refine⟨_,_,g1,fin g2 ⟨_,rfl,.inr ⟨i,0,cap,c,⟨k.size,ty⟩,true,t,hp,cm,by rw[Heap.ins_self];exact hg,rfl,by have:=Nat.mul_le_mul_right k.size cm;omega,?_⟩⟩⟩;rw[List.drop_zero];exact a7.mono fun _ _ e=>KC.mono g1.b e
 ·exact⟨B,F,.of hG.bf (.refl _),hG⟩
theorem GRel.frzs {B0 F0 D0:Heap}:∀ (l:List Nat) {s:St},GRel P B0 F0 D0 s env σ→GRel P B0 F0 D0 (s.frzs l) env σ
 |[],_,h=>h
 |o::r,s,⟨B,F,pl,tb,hB,hG⟩=>by obtain⟨B',F',g1,g2⟩:=hG.frz o;exact GRel.frzs r ⟨B',F',pl,tb,hB.trans g1,g2⟩
end
theorem T5 {j:Nat}{f:Nat→Prop}:∀ {n i:Nat},Fe (j:Int) f n i→i≤j→j<i+n→f j
 |0,i,_,h1,h2=>by omega
 |n+1,i,h,h1,h2=>by
  rcases Nat.lt_or_ge i j with h3|h3
  ·exact T5 h.2 h3 (by omega)
  ·have:j=i:=by omega
   subst this;exact h.1 rfl
theorem Ek {o:VOp}{len i:Nat}{f:Nat→VOp}(h:Q3l o=some (len,i,f)) {n:Nat}:(∃ size x,f n=.indexAddrArr len size x (.const (.int .i64 (Int.ofNat n))))∨∃ agg size x,f n=.indexArr len agg size x (.const (.int .i64 (Int.ofNat n))):=by
 unfold Q3l at h;split at h
 ·cases h;exact .inl ⟨_,_,rfl⟩
 ·cases h;exact .inr ⟨_,_,_,rfl⟩
 ·cases h
theorem FH {o:VOp}{len i:Nat}{f:Nat→VOp}(h:Q3l o=some (len,i,f)) {S:VSpecs}{env:Env}{σ:Heap}{k:IntKind}{n:Nat}(he:Q4 env (.tmp i)=.int k (n:Int)) {R:Value→Heap→Prop}(hv:vop S (f n) env σ R):vop S o env σ R:=by
 have hc:Q4 env (.const (.int .i64 (Int.ofNat n)))=.int .i64 (n:Int):=rfl;unfold Q3l at h;split at h
 ·rename_i len size x t;cases h;change QI (Q5 _ (Q4 env) σ) _ at hv;change QI (Q5 _ (Q4 env) σ) _;simp only[Q5,he,hc] at hv ⊢;generalize Q4 env x=u at hv ⊢;cases u<;>first|exact hv|skip
  rename_i p;cases p<;>first|exact hv|skip
  rename_i a;obtain⟨b,o,sp⟩:=a;cases sp<;>exact hv
 ·rename_i len agg size x t;cases h;change QI (Q5 _ (Q4 env) σ) _ at hv;change QI (Q5 _ (Q4 env) σ) _;simp only[Q5,he,hc] at hv ⊢;generalize Q4 env x=u at hv ⊢;cases u<;>exact hv
 ·cases h
theorem Hm {C:Cx}(aB:COk P C) {B0 F0 D0:Heap}{s:St}{env:Env}{σ:Heap}(hR:GRel P B0 F0 D0 s env σ) {o:VOper}{K:St→Prop}(h:Q56 C o s K) {R:Env→Heap→Prop}(hK:∀ s' ai σ',K s'→GRel P B0 F0 D0 s' ai σ'→R ai σ') :
  QI (Z9 env o.guard) fun b=>vif b (vop (Q2 P) o.op env σ fun v σ'=>R (J8 env o.dst v) σ') (R (J8 env o.dst undef) σ):=by
 unfold Q56 at h;split at h
 ·rename_i hg;rw[hg];refine⟨fun _=>?_,fun e=>by cases e⟩
  replace hR:=hR.frzs (OZ C (o.dst.getD 0) o.op (gev [] s.env) s.own)
  generalize s.frzs (OZ C (o.dst.getD 0) o.op (gev [] s.env) s.own)=s at h hR;obtain⟨B,F,pl,tb,hB,hG⟩:=hR;unfold Q78 at h;split at h
  ·rename_i len i f tB;split at h
   ·rename_i k j hj;obtain⟨h1,h2,h3⟩:=h;obtain⟨n,rfl⟩:=Int.eq_ofNat_of_zero_le h1;have hn:n<len:=by omega
    have h4:=T5 h3 (Nat.zero_le n) (by omega);have he:=QQ hj (hG.evs (Gds.nil (tb:=tb)) (.tmp i));split at h4
    ·rename_i cs v dE;obtain⟨k1,k2⟩:=QU h4
     replace k1:=QR k1
     have hv:=Gq (C:=C) aB.cs hG Gds.nil (o:=f n) (raw:=C.raw.contains (o.dst.getD 0)) (cs:=cs) (v:=v) (by
      rw[←dE];obtain⟨size,x,hf⟩|⟨agg,size,x,hf⟩:=Ek tB<;>rw[hf];rfl;rfl) (k2 fun g hg=>by cases hg) fun u hu=>hK _ _ _ k1 ⟨B,F,pl,tb,hB,hG.put o.dst hu⟩
     exact FH tB he hv
    ·exact h4.elim
   ·exact h.elim
  unfold Q7m at h;split at h
  ·rename_i c a b bK;split at h
   ·rename_i v hv;obtain⟨u,h1,h2⟩:=Yq hG Gds.nil hv;rw[bK];show QI (Q5 (.pick c a b) (Q4 env) σ) _;rw[h1];exact hK _ _ _ (QR h) ⟨B,F,pl,tb,hB,hG.put o.dst h2⟩
   ·exact h.elim
  ·rename_i xX;cases hq:AQ o.op with
   |true =>
    rw[hq] at h;simp only[_root_.cond_true] at h;split at h
    ·rename_i cs v dE;obtain⟨h1,h2⟩:=QU h
     replace h1:=QR h1
     refine Gq (C:=C) aB.cs hG Gds.nil (raw:=C.raw.contains (o.dst.getD 0)) (cs:=cs) (v:=v) ?_ (h2 fun g hg=>by cases hg) fun u hu=>hK _ _ _ h1 ⟨B,F,pl,tb,hB,hG.put o.dst hu⟩;rw[←dE];cases ho:o.op<;>first|rfl|(rw[ho] at hq;cases hq)
    ·exact h.elim
   |false =>
    rw[hq] at h;simp only[_root_.cond_false] at h;split at h
    ·rename_i bK;split at h
     ·rename_i kk vk _;obtain⟨h1,h2⟩:=Ea hG (C.off+o.dst.getD 0) kk vk;rw[bK];change R (J8 env o.dst (.map (some σ.n))) (σ.push (.obj (.map [] 0) true));exact hK _ _ _ h ⟨B,F,_,tb,VX hB (Dead.push _ _),h1.put o.dst h2⟩
     ·exact h.elim
    ·rename_i bK;cases kM:Tv C (o.dst.getD 0) o.op (gev [] s.env) with
     |true =>rw[kM] at h;simp only[_root_.cond_true] at h;exact CA hG h fun v s' B' F' pl' tb' u σ' h1 hd h2 h3=>hK _ _ _ h1 ⟨B',F',pl',tb',hB.trans hd,h2.put o.dst h3⟩
     |false =>rw[kM] at h;simp only[_root_.cond_false] at h;exact I7 aB hG h fun v s' B' F' pl' tb' u σ' h1 hd h2 h3=>hK _ _ _ h1 ⟨B',F',pl',tb',hB.trans hd,h2.put o.dst h3⟩
 ·rename_i j want hg;obtain⟨B,F,pl,tb,hB,hG⟩:=hR;rw[hg];split at h
  ·exact h.elim
  ·rename_i gs s' dC;obtain⟨tb',bn,cQ,b,hw,bC,cj⟩:=Jw hG dC;rw[hw];refine⟨fun e=>?_,fun e=>?_⟩
   ·have gV:Gds tb' gs:=fun g hg=>⟨bC e g hg,cQ g hg⟩;have fin:∀ {v u},SR P B pl tb' v u→SR P B pl tb' (.grd gs (UE v)) u:=fun {v u} hs=>by
     simp only[SR];obtain⟨h1,h2⟩:=ML hs;exact⟨⟨cQ,h2⟩,fun _=>h1,fun ⟨g,hg,aF⟩=>absurd (bC e g hg) aF⟩
    split at h
    ·rename_i c a b' bK;split at h
     ·rename_i v hv;obtain⟨u,h1,h2⟩:=Yq bn gV hv;rw[bK];show QI (Q5 (.pick c a b') (Q4 env) σ) _;rw[h1];exact hK _ _ _ (QR h) ⟨B,F,pl,tb',hB,bn.put o.dst (fin h2)⟩
     ·exact h.elim
    ·split at h
     ·rename_i cs v dE;obtain⟨h1,h2⟩:=QU h
      replace h1:=QR h1
      exact Gq aB.cs bn gV dE (h2 (bC e)) fun u hu=>hK _ _ _ h1 ⟨B,F,pl,tb',hB,bn.put o.dst (fin hu)⟩
     ·split at h
      ·rename_i c v kN;obtain⟨h1,h2⟩:=QU h
       replace h1:=QR h1
       refine Ry aB.cs bn gV (d:=C.off+o.dst.getD 0) kN (h2 (bC e) c (by simp)) fun u σ' B' F' pl' k1 k2 k3=>hK _ _ _ h1 ⟨B',F',pl',tb',hB.trans k1,k2.put o.dst ?_⟩;simp only[SR];refine⟨⟨cQ,?_⟩,fun _=>k3,fun ⟨g,hg,aF⟩=>absurd (bC e g hg) aF⟩;obtain⟨k,xs,rfl⟩:=Tu kN;trivial
      ·exact h.elim
   ·have fin:∀ v,SR P B pl tb' (.grd gs (UE v)) undef:=fun v=>by
     simp only[SR];obtain⟨g,hg,aF⟩:=cj e;exact⟨⟨cQ,MG v⟩,fun hall=>absurd (hall g hg) aF,fun _=>trivial⟩
    split at h
    ·split at h
     ·exact hK _ _ _ (QR h) ⟨B,F,pl,tb',hB,bn.put o.dst (fin _)⟩
     ·exact h.elim
    ·split at h
     ·exact hK _ _ _ (QR (QU h).1) ⟨B,F,pl,tb',hB,bn.put o.dst (fin _)⟩
     ·split at h
      ·rename_i c v kN;refine hK _ _ _ (QR (QU h).1) ⟨B,F,_,tb',hB,(bn.make (C.off+o.dst.getD 0) .dead undef bn.le (fun _ _ _ _ _=>rfl) trivial (fun i hl _=>by cases hl)).put o.dst ?_⟩;simp only[SR];obtain⟨g,hg,aF⟩:=cj e;refine⟨⟨cQ,?_⟩,fun hall=>absurd (hall g hg) aF,fun _=>trivial⟩;obtain⟨k,xs,rfl⟩:=Tu kN;trivial
      ·exact h.elim
theorem AI {C:Cx}(aB:COk P C) {B0 F0 D0:Heap}{s:St}{env:Env}{σ:Heap}(hR:GRel P B0 F0 D0 s env σ) {o:VOper}{K:St→Prop}(h:gop C o s K) {R:Env→Heap→Prop}(hK:∀ s' ai σ',K s'→GRel P B0 F0 D0 s' ai σ'→R ai σ') :
  QI (Z9 env o.guard) fun b=>vif b (vop (Q2 P) o.op env σ fun v σ'=>R (J8 env o.dst v) σ') (R (J8 env o.dst undef) σ):=by
 unfold gop at h;split at h
 ·rename_i t ht;have oK:=hR;obtain⟨B,F,pl,tb,hB,hG⟩:=hR;rw[W6 hG ht];cases t with
  |true =>simp only[_root_.cond_true] at h;exact Hm aB oK (o:=⟨o.dst,o.op,none⟩) h hK
  |false =>simp only[_root_.cond_false] at h;exact⟨(fun e=>by cases e),fun _=>hK _ _ _ h ⟨B,F,pl,tb,hB,hG.put o.dst (by simp[SR])⟩⟩
 ·exact Hm aB hR h hK
theorem RR {B0 F0 D0:Heap}{s s':St}{env:Env}{σ:Heap}(hR:GRel P B0 F0 D0 s env σ) {d:Nat}(h:Q06 d s=some s'):GRel P B0 F0 D0 s' env σ:=by
 unfold Q06 at h;split at h
 ·rename_i o off hd;cases hz:Nat.beq off 0 with
  |false=>rw[hz] at h;cases h
  |true =>
   rw[hz] at h;simp only[_root_.cond_true] at h;have hz:off=0:=Nat.eq_of_beq_eq_true hz;subst hz;split at h
   ·rename_i l _ ho;simp only[Option.some.injEq] at h;subst h;obtain⟨B,F,pl,tb,hB,hG⟩:=hR;have ak:=hG.obj o;rw[ho] at ak;obtain⟨i,c,e,t,e1,e2,e3,_⟩:=ak;obtain⟨k1,k2⟩:=hG.freeze (o:=o) (i:=i) (by rw[ho];rfl) (by rw[e1];rfl);have h1:=hG.env.getD d undef;rw[hd] at h1;have sr:SR P (B.ins σ i hG.leB.1) pl tb (.cp l 0) (env.getD d undef):=by
     simp only[SR] at h1 ⊢;obtain⟨b,q1,q2⟩:=h1;rw[e1] at q1;obtain rfl:i=b:=by simpa using q1
     refine⟨i,c,e,true,t,?_,q2,SRs.mono k1.b (fun _ _ h=>h) _ _ e3⟩;rw[Heap.ins_self];exact e2
    have:=k2.put (some d) sr;refine⟨_,_,pl,tb,hB.trans k1,?_⟩;have e2:J8 env (some d) (env.getD d undef)=env:=by
     show env.set d _=env;rcases Nat.lt_or_ge d env.length with h|h
     ·rw[List.getD_eq_getElem?_getD,List.getElem?_eq_getElem h];simp
     ·rw[List.set_eq_of_length_le h]
    rw[e2] at this;exact this
   ·cases h
 ·cases h
theorem CR {C:Cx}{B0 F0 D0:Heap}{s:St}{env:Env}{σ:Heap}(hR:GRel P B0 F0 D0 s env σ) {d:Option Nat}{K:St→Prop}(h:Q53 C d K s):∃ s2,K s2∧GRel P B0 F0 D0 s2 env σ:=by
 unfold Q53 at h;split at h
 ·exact⟨s,h,hR⟩
 ·rename_i d;cases hb:C.spl.contains d with
  |false=>rw[hb] at h;exact⟨s,h,hR⟩
  |true =>
   rw[hb] at h;simp only[_root_.cond_true] at h;split at h
   ·rename_i t ht;obtain⟨B,F,pl,tb,hB,hG⟩:=hR;have he:=Jo ht (hG.env.getD d undef);have ck:∀ v,SR P B pl tb v (env.getD d undef)→GRel P B0 F0 D0 (s.put (some d) v) env σ:=fun v hv=>by
     have:=hG.put (some d) hv;refine⟨B,F,pl,tb,hB,?_⟩;have e2:J8 env (some d) (env.getD d undef)=env:=by
      show env.set d _=env;rcases Nat.lt_or_ge d env.length with h|h
      ·rw[List.getD_eq_getElem?_getD,List.getElem?_eq_getElem h];simp
      ·rw[List.set_eq_of_length_le h]
     rw[e2] at this;exact this
    have sr:SR P B pl tb (.grd [] (.val .bo t)) (env.getD d undef):=by simp only[SR];exact⟨⟨(fun g hg=>by cases hg),trivial⟩,(fun _=>by rw[he];simp[KC]),fun ⟨g,hg,_⟩=>by cases hg⟩
    cases t with
    |true=>exact⟨_,h.1 rfl,ck _ sr⟩
    |false=>exact⟨_,h.2 rfl,ck _ sr⟩
   ·split at h
    ·rename_i s' hf;exact⟨s',h,RR hR hf⟩
    ·exact h.elim
theorem V5 {C:Cx}(aB:COk P C) {B0 F0 D0:Heap}:∀ (ops:List VOper) {s:St}{env:Env}{σ:Heap},GRel P B0 F0 D0 s env σ→∀ {K:St→Prop},Q4y C ops s K→∀ {R:Env→Heap→Prop},(∀ s' ai σ',K s'→GRel P B0 F0 D0 s' ai σ'→R ai σ')→BF (Q2 P) ops env σ R
 |[],s,env,σ,hR,_K,h,_R,hK=>hK s env σ h hR
 |_o::r,_s,_env,_σ,hR,_K,h,_R,hK=>AI (R:=fun env σ=>BF (Q2 P) r env σ _R) aB hR h fun _ _ _ h1 h2=>by obtain⟨s2,k1,k2⟩:=CR h2 h1;exact V5 aB r k2 k1 hK
theorem E8 {S:VSpecs}{l:List DOper}{rest:List DSeg}{env:Env}{σ:Heap}{K:Env→Heap→Prop}(h:l.all (fun o=>!(o.kind==2)&&!(o.op.kind==2))=true) (hv:BF S (l.map dv) env σ fun env σ=>Vv S rest env σ K):Vv S (.alts [l]::rest) env σ K:=by
 intro ops ho;obtain rfl:=List.mem_singleton.1 ho;have key:∀ (l:List DOper) (env:Env) (pend:List (Nat×(Heap→Prop))) (K':Env→Heap→Prop),l.all (fun o=>!(o.kind==2)&&!(o.op.kind==2))=true→BF S (l.map dv) env σ K'→QZ S l env [σ] σ pend K':=by
  intro l;induction l with
  |nil=>intro env pend K' _ h;exact h
  |cons o rest ih =>
   intro env pend K' hk h;simp only[List.all_cons,Bool.and_eq_true,Bool.not_eq_true',beq_eq_false_iff_ne] at hk;obtain⟨⟨a9,av⟩,hr⟩:=hk;have hr:rest.all (fun o=>!(o.kind==2)&&!(o.op.kind==2))=true:=by simpa using hr
   simp only[List.map_cons,BF,dv] at h;simp only[QZ];cases hw:Z9 env o.guard with
   |none=>rw[hw] at h;exact h.elim
   |some b =>
    rw[hw] at h;obtain⟨ht,hf⟩:=h;refine⟨fun e=>?_,fun e=>?_⟩
    ·have ht:=ht e;obtain⟨p,hp,lk⟩:∃ p,Q5 o.op (Q4 env) σ=some p∧BF S (rest.map dv) (J8 env o.dst p.1) p.2 K':=by
      have:=ht;unfold vop at this;split at this
      ·rename_i f bQ heq;rw[heq] at av;exact absurd rfl av
      ·rename_i f bQ heq;rw[heq] at av;exact absurd rfl av
      ·rename_i x heq;rw[heq] at av;exact absurd rfl av
      ·cases dN:Q5 o.op (Q4 env) σ with
       |none=>rw[dN] at this;exact this.elim
       |some p=>rw[dN] at this;exact⟨p,rfl,this⟩
     have hq:p.2=σ:=UZ av (v:=p.1) (σ':=p.2) hp;rw[hq] at lk;rw[if_neg a9];split
     ·rw[hp];refine⟨fun τ hτ=>?_,ih _ _ _ hr lk⟩;have:τ=σ:=by
       have:=List.mem_of_mem_drop hτ;simpa using this
      subst this;show QI (Q5 o.op (Q4 env) τ) _;rw[hp];rfl
     ·rw[hp];exact ih _ _ _ hr lk
    ·rw[if_neg a9];exact ih _ _ _ hr (hf e)
 have:=key ops env [] _ h hv;have mono:∀ (l:List DOper) (env:Env) (hs:List Heap) (τ:Heap) (pend:List (Nat×(Heap→Prop))) (A B:Env→Heap→Prop),l.all (fun o=>!(o.kind==2)&&!(o.op.kind==2))=true→(∀ e s,A e s→B e s)→QZ S l env hs τ pend A→QZ S l env hs τ pend B:=by
  intro l;induction l with
  |nil=>intro env hs τ pend A B _ lD h;exact lD _ _ h
  |cons o rest ih =>
   intro env hs τ pend A B hk lD h;simp only[List.all_cons,Bool.and_eq_true,Bool.not_eq_true',beq_eq_false_iff_ne] at hk;obtain⟨⟨a9,av⟩,hr⟩:=hk;have hr:rest.all (fun o=>!(o.kind==2)&&!(o.op.kind==2))=true:=by simpa using hr
   simp only[QZ] at h ⊢;cases hw:Z9 env o.guard with
   |none=>rw[hw] at h;exact h.elim
   |some b =>
    rw[hw] at h;obtain⟨ht,hf⟩:=h;refine⟨fun e=>?_,fun e=>?_⟩
    ·have ht:=ht e;rw[if_neg a9] at ht ⊢;by_cases mY:o.kind=1
     ·rw[if_pos mY] at ht ⊢;cases dN:Q5 o.op (Q4 env) τ with
      |none=>rw[dN] at ht;exact ht.elim
      |some p=>rw[dN] at ht;exact⟨ht.1,ih _ _ _ _ _ _ hr lD ht.2⟩
     ·rw[if_neg mY] at ht ⊢;cases dN:Q5 o.op (Q4 env) τ with
      |none=>rw[dN] at ht;exact ht.elim
      |some p=>rw[dN] at ht;exact ih _ _ _ _ _ _ hr lD ht
    ·have hf:=hf e;rw[if_neg a9] at hf ⊢;exact ih _ _ _ _ _ _ hr lD hf
 exact mono ops env _ _ _ _ _ h (fun e s hs=>⟨e,s,.refl _ _ _,hs⟩) this
theorem Z5 {op:VOp}{ev:Operand→Value}{u:Value}{τ τ':Heap}(h:Q5 op ev τ=some (u,τ')):ZV op ev u τ:=by unfold ZV;rw[h];rfl
theorem QN (s:St) (d:Option Nat) (v:SV):(s.put d v).own=s.own:=by cases d<;>rfl
theorem XY {s s':St}{j:Nat}{want:Bool}{gs:List Gd}(h:M3 s j want=some (gs,s')):s'.own=s.own:=by unfold M3 at h;split at h<;>first|(cases h;done)|(obtain⟨_,rfl⟩:=Qx h;rfl)
theorem Yi {C:Cx}{B F:Heap}{pl:Nat→Value}{tb:Nat→Option Bool}{s:St}{env:Env}{σ:Heap}(hG:Gam P B F pl tb s env σ) {o:DOper}{K:St→Prop}(h:gd1 C o s K) :
  ∃ b,Z9 env o.guard=some b∧(b=true→∃ u s' tb',Q5 o.op (Q4 env) σ=some (u,σ)∧K s'∧s'.own=s.own∧Gam P B F pl tb' s' (J8 env o.dst u) σ)∧(b=false→∃ s' tb',K s'∧s'.own=s.own∧Gam P B F pl tb' s' (J8 env o.dst undef) σ):=by
 unfold gd1 at h;split at h
 ·rename_i hg;rw[hg];refine⟨true,rfl,fun _=>?_,fun e=>by cases e⟩;split at h
  ·rename_i c a b bK;split at h
   ·rename_i v hv;obtain⟨u,h1,h2⟩:=Yq hG Gds.nil hv;exact⟨u,_,tb,by rw[bK];exact h1,QR h,QN _ _ _,hG.put o.dst h2⟩
   ·exact h.elim
  ·split at h
   ·rename_i cs v dE;obtain⟨h1,h2⟩:=QU h;obtain⟨u,h3,h4⟩:=HG (hG.evs (Gds.nil (tb:=tb))) (fun _=>rfl) hG.leB hG.obj dE (h2 fun g hg=>by cases hg);exact⟨u,_,tb,h3,QR h1,QN _ _ _,hG.put o.dst h4⟩
   ·exact h.elim
 ·rename_i j want hg;rw[hg];split at h
  ·exact h.elim
  ·rename_i gs s' dC;obtain⟨tb',bn,cQ,b,hw,bC,cj⟩:=Jw hG dC;refine⟨b,hw,fun e=>?_,fun e=>?_⟩
   ·have gV:Gds tb' gs:=fun g hg=>⟨bC e g hg,cQ g hg⟩;have fin:∀ {v u},SR P B pl tb' v u→SR P B pl tb' (.grd gs (UE v)) u:=fun {v u} hs=>by
     simp only[SR];obtain⟨h1,h2⟩:=ML hs;exact⟨⟨cQ,h2⟩,fun _=>h1,fun ⟨g,hg,aF⟩=>absurd (bC e g hg) aF⟩
    split at h
    ·rename_i c a b' bK;split at h
     ·rename_i v hv;obtain⟨u,h1,h2⟩:=Yq bn gV hv;exact⟨u,_,tb',by rw[bK];exact h1,QR h,(QN _ _ _).trans (XY dC),bn.put o.dst (fin h2)⟩
     ·exact h.elim
    ·split at h
     ·rename_i cs v dE;obtain⟨h1,h2⟩:=QU h;obtain⟨u,h3,h4⟩:=HG (bn.evs gV) (fun _=>rfl) bn.leB bn.obj dE (h2 (bC e));exact⟨u,_,tb',h3,QR h1,(QN _ _ _).trans (XY dC),bn.put o.dst (fin h4)⟩
     ·exact h.elim
   ·have fin:∀ v,SR P B pl tb' (.grd gs (UE v)) undef:=fun v=>by
     simp only[SR];obtain⟨g,hg,aF⟩:=cj e;exact⟨⟨cQ,MG v⟩,fun hall=>absurd (hall g hg) aF,fun _=>trivial⟩
    split at h
    ·split at h
     ·exact⟨_,tb',QR h,(QN _ _ _).trans (XY dC),bn.put o.dst (fin _)⟩
     ·exact h.elim
    ·split at h
     ·exact⟨_,tb',QR (QU h).1,(QN _ _ _).trans (XY dC),bn.put o.dst (fin _)⟩
     ·exact h.elim
theorem RU {bs:List OB}{q:Prop}(h:AD bs q):(∀ b∈bs,b.wf)∧q:=by
 induction bs with
 |nil=>exact⟨(fun b hb=>by cases hb),h⟩
 |cons b r ih =>
  obtain⟨h1,h2⟩:=h;obtain⟨h3,h4⟩:=ih h2;exact⟨fun b' cw=>by
   rcases List.mem_cons.1 cw with rfl|cw
   ·exact h1
   ·exact h3 b' cw,h4⟩
mutual
theorem Ly {d nt:Nat}:∀ (v:SV),v.ret 0=true→(v.ren d nt).ret 0=true
 |.val k x,h=>h
 |.nilS,_|.nilP,_|.nilM,_|.nilF,_=>rfl
 |.lst j,h|.box j _,h|.map j,h=>by simp[SV.ret,Nat.blt] at h
 |.agg l,h=>by simp only[SV.ren,SV.ret] at h ⊢;exact Gm l h
 |.tup l,h=>by simp only[SV.ren,SV.ret] at h ⊢;exact Gm l h
 |.any,h|.bid _ _,h|.grd _ _,h|.sub _ _ _ _,h|.elp _ _ _ _,h|.rop _ _ _ _,h|.cp _ _,h|.fn _ _ _,h|.pf _ _ _ _,h=>by cases h
theorem Gm {d nt:Nat}:∀ (v:List SV),SVs.ret 0 v=true→SVs.ret 0 (SVs.ren d nt v)=true
 |[],_=>rfl
 |s::ss,h=>by simp only[SVs.ret,SVs.ren,Bool.and_eq_true] at h ⊢;exact⟨Ly s h.1,Gm ss h.2⟩
end
theorem Js {C:Cx}(aB:COk P C) {B F:Heap}{pl:Nat→Value}{tb:Nat→Option Bool}{s:St}{env:Env}{σ:Heap}(hG:Gam P B F pl tb s env σ) {d:Nat}{f:SV}{args:List SV}{K:List Nat→SV→St→Prop}(h:U0 C d f args s K) {fV:Value}{vs:List Value}
  (hf:SR P σ J3 Zr f fV) (ha:SRs P σ J3 Zr args vs):∃ g a b u σ' ts v s' pl',fV=.func (.func g) a b∧(VCalled P g (a.toList++vs++b.toList) σ fun u' aM=>u'=u∧aM=σ')∧K ts v s'∧Gam P B F pl' tb s' env σ'∧SR P B pl' tb v u∧(ts=[]→σ'=σ∧pl'=pl∧s'=s)∧σ.Le σ'∧Dead σ σ'∧FrL ts s s' pl pl' σ σ':=by
 unfold U0 at h;split at h
 ·rename_i c v bs heq;cases hb:(v.ret bs.length&&(bs.all OB.ret&&(Nat.blt 0 C.nt&&(bs.all OB.isL&&WX v)))) with
  |false=>rw[hb] at h;exact h.elim
  |true =>
   rw[hb] at h;obtain⟨h1,h2⟩:=h;obtain⟨h3,h4⟩:=RU h2;simp only[Bool.and_eq_true] at hb;obtain⟨hv,l7,dW,hl,cG⟩:=hb;obtain⟨g,a,b,e,_,hx⟩:=Z1 aB.cs hf ha heq hv l7 h1;have dD:=T9 (P:=P) σ hv cG l7 hl (fun b hb=>by have:=h3 b hb;cases b<;>exact this);by_cases cu:bs=[]
   ·subst cu;obtain⟨k1,k2⟩:=dD.flat hv;refine⟨g,a,b,_,_,_,_,_,pl,e,hx hl cG,h4,?_,?_,fun _=>⟨k1,rfl,rfl⟩,dD.1.1,dD.1.2,fun q _=>⟨rfl,rfl,fun _ _ _=>by rw[k1]⟩⟩
    ·rw[k1];exact hG
    ·exact SR.retd (B:=hNil) (pl:=pl) (tb:=Zr) (n:=0) (fun j hj=>by omega) _ _ (Ly v hv) (SR.ren (pl:=J3) (tb:=Zr) (n:=0) (fun j hj=>by omega) v _ hv k2)
   ·obtain⟨pl',h5,h6,h7⟩:=dD.gamF (nt:=C.nt) (d:=d) (by simpa [Nat.blt_eq] using dW) hG hv l7;refine⟨g,a,b,_,_,_,_,_,pl',e,hx hl cG,h4,h5,h6,fun he=>absurd (by simpa using he) cu,dD.1.1,dD.1.2,fun q hq=>h7 q fun j hj e=>hq ?_⟩;exact List.mem_map.2 ⟨j,List.mem_range.2 hj,e.symm⟩
 ·exact h.elim
def Ln:VOp→Bool
 |.callF ..|.callV ..=>true
 |.ext (.rangeMap _)|.ext (.nextMap _)=>true
 |_=>false
theorem Q37 {C:Cx}{B F:Heap}{pl:Nat→Value}{tb:Nat→Option Bool}{s:St}{env:Env}{σ:Heap}(hG:Gam P B F pl tb s env σ) {d:Nat}{o:VOp}{K:SV→St→Prop}(h:gn C d o (gev [] s.env) s K) (hc:Ln o=false) :
  NOk P B F tb o (Q4 env) env σ K (Qk d o (gev [] s.env)) s pl:=by
 have af:=hG.evs (Gds.nil (tb:=tb));cases o
 case alloc t z=>exact Er af hG h
 case box t x=>exact Q4d af hG h
 case buildSlice e z n ps=>exact V1 af hG h
 case makeSlice e b z l c=>exact Dm af hG h
 case append e b x y=>exact Sg af hG h
 case store size a x=>exact F5 af hG h
 case callF=>cases hc
 case callV=>cases hc
 case ext x =>
  cases x
  case mapUpdate mk m k v=>exact MO af hG h
  case delete mk m k=>exact Ss af hG h
  case mapEntry mk z m k=>exact He af hG h
  case entryStore m s v=>exact NW af hG h
  case copy size a b=>exact Oy af hG h
  case unsafeStr e a n=>exact D4 af hG h
  case strBytes e a=>exact H8 af hG h
  case rangeMap=>cases hc
  case nextMap=>cases hc
  all_goals exact h.elim
 all_goals exact h.elim
theorem HO {o:VOp}{ev:Operand→Value}{σ σ':Heap}{u:Value}(hm:MY o=true) (h:Q5 o ev σ=some (u,σ')):σ.Le σ':=by
 have push:∀ b:Blk,σ.Le (σ.push b):=fun b=>(Heap.Le.refl σ).push b;cases o<;>first|(cases hm;done)|skip
 case alloc t z=>obtain⟨rfl,rfl⟩:=Qx h;exact push _
 case box t x =>
  simp only[Q5] at h;split at h
  ·obtain⟨rfl,rfl⟩:=Qx h;exact push _
  ·cases h
 case buildSlice e z n ps =>
  simp only[Q5] at h;split at h
  ·obtain⟨rfl,rfl⟩:=Qx h;exact push _
  ·cases h
 case makeSlice e b z l c =>
  simp only[Q5] at h;split at h
  ·split at h
   ·obtain⟨rfl,rfl⟩:=Qx h;exact push _
   ·cases h
  ·cases h
def stM:MK:=.agg [.int .i64,.int .i64]
def Q0k:Option ZC→Value
 |some e=>e.2.1
 |none=>.int .i64 0
def LkE (es bV:List ZC):Prop:=(es.all (fun e=>QT stM e.1)=true→bV.all (fun e=>QT stM e.1)=true)∧(es.all (fun e=>QT stM e.1)=true→∀ k,QT stM k=true→Q0k (Qa k bV)=Q0k (Qa k es))
theorem LkE.trans {a b c:List ZC}(h:LkE a b) (h':LkE b c):LkE a c:=⟨fun k=>h'.1 (h.1 k),fun k x hx=>(h'.2 (h.1 k) x hx).trans (h.2 k x hx)⟩
theorem RE {v:Value}(h:QT stM v=true):∃ a b,v=.agg #[.int .i64 a,.int .i64 b]:=by
 cases v with
 |agg l =>
  simp only[QT,stM] at h;obtain⟨l⟩:=l
  match l,h with
  |[],h=>simp[fits] at h
  |[x],h=>cases x<;>simp[fits,Ca] at h
  |[x,y],h =>simp only[fits,Bool.and_eq_true] at h;obtain⟨hx,hy,_⟩:=h;cases x<;>simp[Ca] at hx;cases y<;>simp[Ca] at hy;subst hx;subst hy;exact⟨_,_,rfl⟩
  |x::y::z::r,h=>simp[fits] at h
 |_=>simp[QT,stM] at h
theorem IG {a b c e:Int}:Jn (.agg #[.int .i64 a,.int .i64 b]) (.agg #[.int .i64 c,.int .i64 e])=(a==c&&b==e):=by simp[Jn,Qg,Wk]
theorem Fc {k0:Value}{clock:Nat}(iq:QT stM k0=true):∀ {es:List ZC},LkE es (Qm k0 (Q0k (Qa k0 es)) clock es).1
 |[]=>by refine⟨fun _=>by simp[Qm,iq],fun _ k hk=>?_⟩;simp only[Qm,Qa];cases Jn k k0<;>rfl
 |e::es=>by
  have ih:=Fc (clock:=clock) iq (es:=es);simp only[Qm,Qa];cases he:Jn k0 e.1 with
  |true =>
   simp only[if_true];refine⟨fun h=>?_,fun h k hk=>?_⟩
   ·simp only[List.all_cons,Bool.and_eq_true] at h ⊢;exact⟨iq,h.2⟩
   ·simp only[List.all_cons,Bool.and_eq_true] at h;obtain⟨a,b,rfl⟩:=RE iq;obtain⟨a1,b1,h1⟩:=RE h.1;obtain⟨a2,b2,rfl⟩:=RE hk;have heq:(a==a1&&b==b1)=true:=by rw[←IG,←h1];exact he
    simp only[Bool.and_eq_true,beq_iff_eq] at heq;obtain⟨rfl,rfl⟩:=heq;simp only[Qa,h1,IG];cases (a2==a&&b2==b)<;>rfl
  |false =>
   simp only[Bool.false_eq_true,if_false];refine⟨fun h=>?_,fun h k hk=>?_⟩
   ·simp only[List.all_cons,Bool.and_eq_true] at h ⊢;exact⟨h.1,ih.1 h.2⟩
   ·simp only[List.all_cons,Bool.and_eq_true] at h;simp only[Qa];cases Jn k e.1 with
    |true=>rfl
    |false=>exact ih.2 h.2 k hk
theorem EO {mk:MK}{z:Value}(h:stP mk z=true):mk=stM∧z=.int .i64 0:=by
 unfold stP at h;split at h
 ·exact⟨rfl,by rw[eq_of_beq h]⟩
 ·cases h
def LM (σ:Heap) (own:Own) (pl:Nat→Value) (Q:Heap→Prop):Option Nat→Prop
 |none=>∀ τ,σ.Le τ→Q τ
 |some q=>(Q6 own (q / 2)).live=true∧∃ i b,Oid (pl (q / 2)) i∧σ.get i=some b∧(∀ τ,τ.get i=some b→Q τ)∧(q % 2=1→∃ es c wr,b=.obj (.map es c) wr∧∀ τ bV c',LkE es bV→τ.get i=some (.obj (.map bV c') wr)→Q τ)
structure DSt (hs:List Heap) (σ:Heap) (pend:List (Nat×(Heap→Prop))) (hl chg:Nat) (A R:List (Nat×Option Nat)) (own:Own) (pl:Nat→Value):Prop where
 len:hs.length=hl
 same:∀ j τ,chg≤j→hs[j]?=some τ→τ=σ
 pend:∀ c∈pend,c.1<hl∨∃ r∈R,c.1≤r.1∧LM σ own pl c.2 r.2
 fr:∀ j τ q i,hs[j]?=some τ→QP A j q=true→(Q6 own q).live=true→Oid (pl q) i→τ.get i=σ.get i
theorem XM {r:Nat}{σ:Heap}:∀ {l:List (Nat×(Heap→Prop))},(∀ c∈l,r≤c.1→c.2 σ)→ZY r σ l
 |[],_=>trivial
 |c::l,h=>⟨h c (by simp),XM fun c' cN=>h c' (by simp[cN])⟩
theorem ZA {hs:List Heap}{σ' τ:Heap}{j:Nat}(h:(hs++[σ'])[j]?=some τ):(j<hs.length∧hs[j]?=some τ)∨(j=hs.length∧τ=σ'):=by
 rw[List.getElem?_append] at h;split at h
 ·rename_i aj;exact .inl ⟨aj,h⟩
 ·have:j-hs.length=0:=by
   cases hz:j-hs.length with
   |zero=>rfl
   |succ n=>rw[hz] at h;simp at h
  rw[this] at h;exact .inr ⟨by omega,by simpa using h.symm⟩
theorem BH {a:Nat×Option Nat}{A:List (Nat×Option Nat)}{j q:Nat}(h:QP (a::A) j q=true) (hj:j≤a.1):(∃ t,a.2=some t∧t≠q)∧QP A j q=true:=by
 simp only[QP,List.all_cons,Bool.and_eq_true,Bool.or_eq_true,Nat.blt_eq] at h;refine⟨?_,h.2⟩;rcases h.1 with h|h
 ·omega
 ·split at h
  ·rename_i t ht;exact⟨t,ht,fun e=>by subst e;simp at h⟩
  ·cases h
theorem DSt.stay {hs:List Heap}{σ:Heap}{pend:List (Nat×(Heap→Prop))}{hl chg:Nat}{A R:List (Nat×Option Nat)}{own:Own}{pl:Nat→Value}(h:DSt hs σ pend hl chg A R own pl) :
  ZY hs.length σ pend∧DSt (hs++[σ]) σ pend (hl+1) chg A R own pl:=by
 have hr:∀ c∈pend,∀ r∈R,LM σ own pl c.2 r.2→c.2 σ:=fun c _ r _ al=>by
  unfold LM at al;split at al
  ·exact al σ (.refl _)
  ·obtain⟨_,i,b,_,h2,h3,_⟩:=al;exact h3 σ h2
 refine⟨XM fun c hc hle=>?_,⟨by simp[h.len],fun j τ hj ht=>?_,fun c hc=>?_,fun j τ q i ht hu hl hi=>?_⟩⟩
 ·rcases h.pend c hc with h1|⟨r,h1,_,h2⟩
  ·rw[h.len] at hle;omega
  ·exact hr c hc r h1 h2
 ·rcases ZA ht with⟨_,h1⟩|⟨_,h1⟩
  ·exact h.same j τ hj h1
  ·exact h1
 ·rcases h.pend c hc with h1|h1
  ·exact .inl (by omega)
  ·exact .inr h1
 ·rcases ZA ht with⟨_,h1⟩|⟨_,rfl⟩
  ·exact h.fr j τ q i h1 hu hl hi
  ·rfl
theorem DSt.write {hs:List Heap}{σ σ':Heap}{pend:List (Nat×(Heap→Prop))}{hl chg:Nat}{A R:List (Nat×Option Nat)}{s s':St}{pl pl':Nat→Value}(h:DSt hs σ pend hl chg A R s.own pl) {T:Nat}(hf:Fr T s s' pl pl' σ σ') {mk ext:Bool}(hm:mk=true→σ.Le σ')
  (hE:ext=true→(Q6 s'.own T).live=true∧pl' T=pl T∧∃ i es c bV c',pl T=.map (some i)∧σ.get i=some (.obj (.map es c) true)∧σ'.get i=some (.obj (.map bV c') true)∧LkE es bV)
  (hc:((mk&&R1 R hl T)||H7 R hl T||(ext&&Q1v R hl T))=true) (aW:0<hl):ZY hs.length σ' pend∧DSt (hs++[σ']) σ' pend (hl+1) hl ((hl-1,some T)::A) R s'.own pl':=by
 have hr:∀ Q:Heap→Prop,∀ r∈R,hl≤r.1→LM σ s.own pl Q r.2→LM σ' s'.own pl' Q r.2:=fun Q r l9 bj al=>by
  have hq:∀ q,r.2=some q→q / 2=T→q % 2=1∧ext=true:=fun q hq e=>by
   subst e;simp only[Bool.or_eq_true,Bool.and_eq_true,R1,H7,Q1v] at hc;rcases hc with (⟨_,hc⟩|hc)|⟨he,hc⟩
   ·have:=List.all_eq_true.1 hc r l9;rw[hq] at this;simp only[Bool.or_eq_true,Nat.blt_eq,Nat.beq_refl,Bool.not_true,Bool.false_eq_true,or_false] at this;omega
   ·have:=List.all_eq_true.1 hc r l9;rw[hq] at this;simp only[Bool.or_eq_true,Nat.blt_eq,Nat.beq_refl,Bool.not_true,Bool.false_eq_true,or_false] at this;omega
   ·have:=List.all_eq_true.1 hc r l9;rw[hq] at this;simp only[Bool.or_eq_true,Nat.blt_eq,Nat.beq_refl,Bool.not_true,Bool.false_eq_true,false_or] at this;rcases this with h|h
    ·omega
    ·exact⟨Nat.eq_of_beq_eq_true h,he⟩
  cases e:r.2 with
  |none =>
   rw[e] at al;have b9:mk=true:=by
    simp only[Bool.or_eq_true,Bool.and_eq_true,H7,Q1v] at hc;rcases hc with (⟨hc,_⟩|hc)|⟨_,hc⟩
    ·exact hc
    ·have:=List.all_eq_true.1 hc r l9;rw[e] at this;simp only[Bool.or_eq_true,Nat.blt_eq,Bool.false_eq_true,or_false] at this;omega
    ·have:=List.all_eq_true.1 hc r l9;rw[e] at this;simp only[Bool.or_eq_true,Nat.blt_eq,Bool.false_eq_true,or_false] at this;omega
   exact fun τ ht=>al τ ((hm b9).trans ht)
  |some q =>
   rw[e] at al;obtain⟨k1,i,b,k2,k3,k4⟩:=al;by_cases oL:q / 2=T
   ·obtain⟨ho,he⟩:=hq q e oL;obtain⟨g1,g2,i',es,c,bV,c',g3,g4,g5,g6⟩:=hE he;obtain⟨k5,k6⟩:=k4;obtain⟨xY,c0,wr,rfl,k7⟩:=k6 ho;rw[oL] at k1 k2;have hi:i=i':=EY (by rw[g3];rfl) k2;subst hi;rw[g4] at k3;cases k3;refine⟨by rw[oL];exact g1,i,_,by rw[oL,g2];exact k2,g5,fun τ hτ=>k7 τ _ _ g6 hτ,fun _=>⟨_,_,_,rfl,fun τ wP xZ hl hτ=>k7 τ _ _ (g6.trans hl) hτ⟩⟩
   ·obtain⟨f1,f2,f3⟩:=hf (q / 2) oL;exact⟨by rw[f1];exact k1,i,b,by rw[f2];exact k2,by rw[f3 k1 i k2];exact k3,k4⟩
 have now:∀ Q:Heap→Prop,∀ r,LM σ' s'.own pl' Q r→Q σ':=fun Q r al=>by
  unfold LM at al;split at al
  ·exact al σ' (.refl _)
  ·obtain⟨_,i,b,_,h2,h3,_⟩:=al;exact h3 σ' h2
 refine⟨XM fun c hc hle=>?_,⟨by simp[h.len],fun j τ hj ht=>?_,fun c hc=>?_,fun j τ q i ht hu bN hi=>?_⟩⟩
 ·rw[h.len] at hle;rcases h.pend c hc with h1|⟨r,h1,h2,h3⟩
  ·omega
  ·exact now _ _ (hr _ r h1 (by omega) h3)
 ·rcases ZA ht with⟨h1,_⟩|⟨_,h1⟩
  ·rw[h.len] at h1;omega
  ·exact h1
 ·rcases h.pend c hc with h1|⟨r,h1,h2,h3⟩
  ·exact .inl (by omega)
  ·by_cases bj:hl≤r.1
   ·exact .inr ⟨r,h1,h2,hr _ r h1 bj h3⟩
   ·exact .inl (by omega)
 ·rcases ZA ht with⟨h1,h2⟩|⟨_,rfl⟩
  ·rw[h.len] at h1;obtain⟨⟨t,ht,wQ⟩,cB⟩:=BH hu (by simp only;omega);obtain rfl:=osj ht;obtain⟨f1,f2,f3⟩:=hf q (Ne.symm wQ);rw[f1] at bN;rw[f2] at hi;rw[f3 bN i hi];exact h.fr j τ q i h2 cB bN hi
  ·rfl
theorem UA {ts:List Nat}{hl j q:Nat}{A:List (Nat×Option Nat)}(h:QP (ts.map (fun t=>(hl,some t))++A) j q=true) (hj:j≤hl):q∉ts∧QP A j q=true:=by simp only[QP,List.all_append,Bool.and_eq_true] at h ⊢;refine⟨fun hm=>?_,h.2⟩;have:=List.all_eq_true.1 h.1 (hl,some q) (List.mem_map.2 ⟨q,hm,rfl⟩);simp only[Bool.or_eq_true,Nat.blt_eq,Nat.beq_refl,Bool.not_true,Bool.false_eq_true,or_false] at this;omega
theorem DSt.call {hs:List Heap}{σ σ':Heap}{pend:List (Nat×(Heap→Prop))}{hl chg:Nat}{A R:List (Nat×Option Nat)}{s s':St}{pl pl':Nat→Value}(h:DSt hs σ pend hl chg A R s.own pl) (hle:σ.Le σ') {Ts:List Nat}(hf:FrL Ts s s' pl pl' σ σ') (aW:0<hl) :
  ZY hs.length σ' pend∧DSt (hs++[σ']) σ' pend (hl+1) hl (Ts.map (fun t=>(hl-1,some t))++A) (R.map fun r=>(r.1,none)) s'.own pl':=by
 have hr:∀ Q r,LM σ s.own pl Q r→∀ τ,σ'.Le τ→Q τ:=fun Q r al τ ht=>by
  unfold LM at al;split at al
  ·exact al τ (hle.trans ht)
  ·obtain⟨_,i,b,_,h2,h3,_⟩:=al;exact h3 τ (ht.2 _ _ (hle.2 _ _ h2))
 refine⟨XM fun c hc hle=>?_,⟨by simp[h.len],fun j τ hj ht=>?_,fun c hc=>?_,fun j τ q i ht hu bN hi=>?_⟩⟩
 ·rcases h.pend c hc with h1|⟨r,h1,_,h2⟩
  ·rw[h.len] at hle;omega
  ·exact hr _ _ h2 _ (.refl _)
 ·rcases ZA ht with⟨h1,_⟩|⟨_,h1⟩
  ·rw[h.len] at h1;omega
  ·exact h1
 ·rcases h.pend c hc with h1|⟨r,h1,h2,h3⟩
  ·exact .inl (by omega)
  ·exact .inr ⟨(r.1,none),List.mem_map.2 ⟨r,h1,rfl⟩,h2,hr _ _ h3⟩
 ·rcases ZA ht with⟨h1,h2⟩|⟨_,rfl⟩
  ·rw[h.len] at h1;obtain⟨hq,cB⟩:=UA hu (by omega);obtain⟨f1,f2,f3⟩:=hf q hq;rw[f1] at bN;rw[f2] at hi;rw[f3 bN i hi];exact h.fr j τ q i h2 cB bN hi
  ·rfl
theorem DSt.writeD {hs:List Heap}{σ σ':Heap}{pend:List (Nat×(Heap→Prop))}{hl chg:Nat}{A R:List (Nat×Option Nat)}{s s':St}{pl pl':Nat→Value}(h:DSt hs σ pend hl chg A R s.own pl) {Ts:List Nat}(hf:FrL Ts s s' pl pl' σ σ') {mk:Bool}(hm:mk=true→σ.Le σ')
  (hc:CZ mk R hl Ts=true) (aW:0<hl):ZY hs.length σ' pend∧DSt (hs++[σ']) σ' pend (hl+1) hl (Ts.map (fun t=>(hl-1,some t))++A) R s'.own pl':=by
 have hr:∀ Q:Heap→Prop,∀ r∈R,hl≤r.1→LM σ s.own pl Q r.2→LM σ' s'.own pl' Q r.2:=fun Q r l9 bj al=>by
  have l_:=List.all_eq_true.1 hc r l9;have l_:(match r.2 with|some q=>Ts.all (fun t=>!(Nat.beq (q / 2) t))|none=>mk)=true:=by rw[Bool.or_eq_true,Nat.blt_eq] at l_;exact l_.resolve_left (by omega)
  cases e:r.2 with
  |none =>rw[e] at al l_;exact fun τ ht=>al τ ((hm l_).trans ht)
  |some q =>
   rw[e] at al l_;obtain⟨k1,i,b,k2,k3,k4⟩:=al;obtain⟨f1,f2,f3⟩:=hf (q / 2) fun hq=>by have:=List.all_eq_true.1 l_ (q / 2) hq;simp at this
   exact⟨by rw[f1];exact k1,i,b,by rw[f2];exact k2,by rw[f3 k1 i k2];exact k3,k4⟩
 have now:∀ Q:Heap→Prop,∀ r,LM σ' s'.own pl' Q r→Q σ':=fun Q r al=>by
  unfold LM at al;split at al
  ·exact al σ' (.refl _)
  ·obtain⟨_,i,b,_,h2,h3,_⟩:=al;exact h3 σ' h2
 refine⟨XM fun c hc hle=>?_,⟨by simp[h.len],fun j τ hj ht=>?_,fun c hc=>?_,fun j τ q i ht hu bN hi=>?_⟩⟩
 ·rw[h.len] at hle;rcases h.pend c hc with h1|⟨r,h1,h2,h3⟩
  ·omega
  ·exact now _ _ (hr _ r h1 (by omega) h3)
 ·rcases ZA ht with⟨h1,_⟩|⟨_,h1⟩
  ·rw[h.len] at h1;omega
  ·exact h1
 ·rcases h.pend c hc with h1|⟨r,h1,h2,h3⟩
  ·exact .inl (by omega)
  ·by_cases bj:hl≤r.1
   ·exact .inr ⟨r,h1,h2,hr _ r h1 bj h3⟩
   ·exact .inl (by omega)
 ·rcases ZA ht with⟨h1,h2⟩|⟨_,rfl⟩
  ·rw[h.len] at h1;obtain⟨hq,cB⟩:=UA hu (by omega);obtain⟨f1,f2,f3⟩:=hf q hq;rw[f1] at bN;rw[f2] at hi;rw[f3 bN i hi];exact h.fr j τ q i h2 cB bN hi
  ·rfl
theorem Bg {hl d j q:Nat}{A:List (Nat×Option Nat)}(h:QP ((hl,none)::A) j q=true):QP ([d].map (fun t=>(hl,some t))++A) j q=true:=by simp only[QP,List.all_cons,Bool.and_eq_true,Bool.or_eq_true,Bool.false_eq_true,or_false,List.map_cons,List.map_nil,List.cons_append,List.nil_append] at h ⊢;exact⟨.inl h.1,h.2⟩
theorem DSt.frozen {hs:List Heap}{σ:Heap}{pend:List (Nat×(Heap→Prop))}{hl chg m d:Nat}{A R:List (Nat×Option Nat)}{own:Own}{pl:Nat→Value}(h:DSt hs σ pend hl chg ([d].map (fun t=>(m,some t))++A) R own pl):DSt hs σ pend hl chg ((m,none)::A) R own pl :=
 ⟨h.len,h.same,h.pend,fun j τ q i ht hu=>h.fr j τ q i ht (Bg hu)⟩
theorem MD {ts:List Nat}{m j:Nat}{A:List (Nat×Option Nat)}(h:Uv (ts.map (fun t=>(m,some t))++A) j=true):Uv A j=true:=by simp only[Uv,List.all_append,Bool.and_eq_true] at h;exact h.2
theorem GS {a:Nat×Option Nat}{j:Nat}{A:List (Nat×Option Nat)}(h:Uv (a::A) j=true):Uv A j=true:=by simp only[Uv,List.all_cons,Bool.and_eq_true] at h;exact h.2
theorem BV {C:Cx}{f:SV}{args:List SV}{cs:List Prop}{v:SV}(h:EU C f args=some (cs,v)):∃ c ty k xs nl,WK C.cs f args=some (c,.lst 0,[.lst ty k xs nl])∧cs=[c,nl=true→xs=[]]∧v=.val (.list k) xs∧k.flat=true∧0<C.nt:=by
 unfold EU at h;split at h
 ·rename_i heq;split at h
  ·rename_i k xs nl;cases hc:(k.flat&&Nat.blt 0 C.nt) with
   |false=>rw[hc] at h;cases h
   |true =>rw[hc] at h;obtain⟨rfl,rfl⟩:=Qx h;simp only[Bool.and_eq_true,Nat.blt_eq] at hc;exact⟨_,_,_,_,_,heq,rfl,rfl,hc.1,hc.2⟩
  ·cases h
 ·cases h
theorem PZ {b:OB}(h:b.here=true):b.live=true:=by cases b<;>first|rfl|cases h
theorem XU {B F:Heap}{pl:Nat→Value}{tb:Nat→Option Bool}{s:St}{env:Env}{σ:Heap}(hG:Gam P B F pl tb s env σ) {o:VOp}{q:Nat}(h:Kc o (gev [] s.env) s.own=some q) {u:Value}{σ2:Heap}(hv:Q5 o (Q4 env) σ=some (u,σ2)) :
  (Q6 s.own (q / 2)).live=true∧∃ i b,Oid (pl (q / 2)) i∧σ.get i=some b∧(∀ τ,τ.get i=some b→Q5 o (Q4 env) τ=some (u,τ))∧(q % 2=1→∃ es c wr,b=.obj (.map es c) wr∧∀ τ bV c',LkE es bV→τ.get i=some (.obj (.map bV c') wr)→Q5 o (Q4 env) τ=some (u,τ)):=by
 have two:∀ q,2*q / 2=q:=fun q=>by omega
 have oM:∀ q,(2*q+1) / 2=q:=fun q=>by omega
 have odd:∀ {q} {X:Prop},2*q % 2=1→X:=fun {q X} h=>by omega
 unfold Kc at h;split at h
 ·rename_i agg size a;have ha:=hG.evs (Gds.nil (tb:=tb)) a;have key:∀ q i off,(Q6 s.own q).live=true→Oid (pl q) i→Q4 env a=.pointer (some ⟨i,off,none⟩)→(Q6 s.own q).live=true∧∃ i b,Oid (pl q) i∧σ.get i=some b∧∀ τ,τ.get i=some b→Q5 (.load agg size a) (Q4 env) τ=some (u,τ):=fun q i off hl hi he=>by
   simp only[Q5,he] at hv;cases hb:σ.get i with
   |none=>rw[hb] at hv;cases hv
   |some b =>
    refine⟨hl,i,b,hi,hb,fun τ ht=>?_⟩;rw[hb] at hv;simp only[Q5,he,ht];cases b with
    |obj o wr=>cases hv
    |cells c e wr t =>
     simp only at hv ⊢;split at hv
     ·obtain⟨rfl,rfl⟩:=Qx hv;rfl
     ·cases hv
  split at h
  ·rename_i q' off hx;rw[hx] at ha;simp only[SR] at ha;obtain⟨b,h1,h2⟩:=ha;cases hh:(Q6 s.own q').here with
   |false=>rw[hh] at h;cases h
   |true =>rw[hh] at h;obtain rfl:=osj h;obtain⟨x1,y1,y2,y3,y4,y5⟩:=key q' b off (PZ hh) (by rw[h1];rfl) h2;exact⟨by rw[two];exact x1,y1,y2,by rw[two];exact y3,y4,y5,odd⟩
  ·rename_i q' i off sz hx;rw[hx] at ha;simp only[SR] at ha;obtain⟨b,len,cap,h1,h2,h3,h4⟩:=ha;cases hh:(Q6 s.own q').here with
   |false=>rw[hh] at h;cases h
   |true =>rw[hh] at h;obtain rfl:=osj h;obtain⟨x1,y1,y2,y3,y4,y5⟩:=key q' b _ (PZ hh) (by rw[h1];rfl) h4;exact⟨by rw[two];exact x1,y1,y2,by rw[two];exact y3,y4,y5,odd⟩
  ·cases h
 ·rename_i mk z x y;cases bI:stP mk z with
  |false=>rw[bI] at h;cases h
  |true =>
   rw[bI] at h;simp only[_root_.cond_true] at h;obtain⟨rfl,rfl⟩:=EO bI;split at h
   ·rename_i q' hx;split at h
    ·rename_i kk vk l ho;obtain rfl:=osj h;have ha:=hG.evs (Gds.nil (tb:=tb)) x;rw[hx] at ha;simp only[SR] at ha;have ak:=hG.obj q';rw[ho] at ak;obtain⟨id,es,c,h2,h3,_⟩:=ak;have aE:∀ (τ:Heap) bV c' wr,τ.get id=some (.obj (.map bV c') wr)→τ.mapAt id=some (bV,c',wr):=fun τ bV c' wr hτ=>by simp[Heap.mapAt,hτ]
     simp only[Q5,QM,ha.1,h2,aE _ _ _ _ h3] at hv;refine⟨by rw[oM,ho];rfl,id,_,by rw[oM,h2];rfl,h3,fun τ hτ=>?_,fun _=>⟨es,c,true,rfl,fun τ bV c' hl hτ=>?_⟩⟩
     ·simp only[Q5,QM,ha.1,h2,aE _ _ _ _ hτ];split at hv
      ·rename_i dG;split at hv
       ·rename_i eU;rw[if_pos dG,if_pos eU];cases he:Qa (Q4 env y) es with
        |some e=>rw[he] at hv;obtain⟨rfl,rfl⟩:=Qx hv;rfl
        |none=>rw[he] at hv;obtain⟨rfl,rfl⟩:=Qx hv;rfl
       ·cases hv
      ·cases hv
     ·simp only[Q5,QM,ha.1,h2,aE _ _ _ _ hτ];split at hv
      ·rename_i dG;split at hv
       ·rename_i eU;rw[if_pos dG,if_pos (hl.1 eU)];have cE:=hl.2 eU _ dG;cases he:Qa (Q4 env y) es with
        |some e =>
         rw[he] at hv cE;obtain⟨rfl,rfl⟩:=Qx hv;cases hm:Qa (Q4 env y) bV with
         |some e'=>rw[hm] at cE;simp only[Q0k] at cE;simp[cE]
         |none=>rw[hm] at cE;simp only[Q0k] at cE;simp[←cE]
        |none =>
         rw[he] at hv cE;obtain⟨rfl,rfl⟩:=Qx hv;cases hm:Qa (Q4 env y) bV with
         |some e'=>rw[hm] at cE;simp only[Q0k] at cE;simp[cE]
         |none=>rfl
       ·cases hv
      ·cases hv
    ·cases h
   ·cases h
 ·cases h
theorem Ve {r:Nat}{σ:Heap}:∀ {l:List (Nat×(Heap→Prop))},ZY r σ l→∀ {c},c∈l→r≤c.1→c.2 σ
 |c::l,h,c',hc,hr=>by
  rcases List.mem_cons.1 hc with rfl|hc
  ·exact h.1 hr
  ·exact Ve h.2 hc hr
theorem V7 {B F:Heap}{pl:Nat→Value}{tb:Nat→Option Bool}{s:St}{env:Env}{σ:Heap}(hG:Gam P B F pl tb s env σ) {gs:List Gd}(hg:Gds tb gs) {o:VOp}(h:Q20 o (gev gs s.env)=true) {u:Value}{σ2:Heap}(hv:Q5 o (Q4 env) σ=some (u,σ2)) :
  ∀ τ,B.Le τ→Q5 o (Q4 env) τ=some (u,τ):=by
 unfold Q20 at h;split at h
 ·rename_i agg size a;have ha:=hG.evs hg a;have key:∀ i off,(∃ b,B.get i=some b)→Q4 env a=.pointer (some ⟨i,off,none⟩)→∀ τ,B.Le τ→Q5 (.load agg size a) (Q4 env) τ=some (u,τ):=fun i off ⟨b,hb⟩ he τ hτ=>by
   simp only[Q5,he,hG.leB.2 _ _ hb] at hv;simp only[Q5,he,hτ.2 _ _ hb];cases b with
   |obj o wr=>cases hv
   |cells c e wr t =>
    simp only at hv ⊢;split at hv
    ·obtain⟨rfl,rfl⟩:=Qx hv;rfl
    ·cases hv
  split at h
  ·rename_i k l i off hx;rw[hx] at ha;simp only[SR] at ha;obtain⟨b,o,c,e,wr,t,_,_,h3,h4,_⟩:=ha;exact key b _ ⟨_,h3⟩ h4
  ·rename_i l off hx;rw[hx] at ha;simp only[SR] at ha;obtain⟨b,c,e,wr,t,h3,h4,_⟩:=ha;exact key b _ ⟨_,h3⟩ h4
  ·cases h
 ·cases h
theorem EW {C:Cx}{B F:Heap}{pl:Nat→Value}{tb:Nat→Option Bool}{s:St}{env:Env}{σ:Heap}(hG:Gam P B F pl tb s env σ) {d:Nat}{o:VOp}{K:SV→St→Prop}(h:gn C d o (gev [] s.env) s K) (hc:Ln o=false) :
  ∃ u σ' pl' v s',Q5 o (Q4 env) σ=some (u,σ')∧K v s'∧(Gam P B F pl' tb s' env σ'∧Fr (Qk d o (gev [] s.env)) s s' pl pl' σ σ')∧SR P B pl' tb v u ∧
  (BP o=true→(Q6 s'.own (Qk d o (gev [] s.env))).live=true∧pl' (Qk d o (gev [] s.env))=pl (Qk d o (gev [] s.env))∧∃ i es c bV c',pl (Qk d o (gev [] s.env))=.map (some i)∧σ.get i=some (.obj (.map es c) true)∧σ'.get i=some (.obj (.map bV c') true)∧LkE es bV):=by
 cases he:BP o with
 |false =>obtain⟨u,σ',pl',v,s',h1,h2,h3,h4⟩:=Q37 hG h hc;exact⟨u,σ',pl',v,s',h1,h2,h3,h4,fun h=>by cases h⟩
 |true =>
  unfold BP at he;split at he
  ·rename_i mk z m kx;obtain⟨rfl,rfl⟩:=EO he;obtain⟨u,σ',v,s',T,kv,aY,i,es,c,rfl,h1,h2,h3,h4,h5,h6,h7,h8,h9,bZ,fP⟩:=DJ (hG.evs (Gds.nil (tb:=tb))) hG h;refine⟨u,σ',pl,v,s',h1,h2,h3,h4,fun _=>⟨h5,rfl,i,es,c,_,_,h6,h7,h8,?_⟩⟩;have:aY=Q0k (Qa kv es):=by rw[fP];cases Qa kv es<;>rfl
   rw[this];exact Fc h9
  ·cases he
def Zj (S:VSpecs):List DOper→Env→List Heap→Heap→List (Nat×(Heap→Prop))→(Env→Heap→Prop)→Prop
 |[],env,_,σ,_,K=>K env σ
 |o::rest,env,hs,σ,pend,K=>QI (Z9 env o.guard) fun b =>
   vif b (if o.kind=2 then N6 (fun R=>vop S o.op env σ R) fun v σ'=>ZY hs.length σ' pend∧Zj S rest (J8 env o.dst v) (hs++[σ']) σ' pend K
     else if o.kind=1 then QI (Q5 o.op (Q4 env) σ) fun p=>(∀ τ∈hs.drop o.kmin,ZV o.op (Q4 env) p.1 τ) ∧
      Zj S rest (J8 env o.dst p.1) hs σ (if hs.length≤o.kmax then (o.kmax,ZV o.op (Q4 env) p.1)::pend else pend) K
     else QI (Q5 o.op (Q4 env) σ) fun p=>Zj S rest (J8 env o.dst p.1) hs σ pend K)
    (if o.kind=2 then ZY hs.length σ pend∧Zj S rest (J8 env o.dst undef) (hs++[σ]) σ pend K else Zj S rest (J8 env o.dst undef) hs σ pend K)
theorem MP {α:Type}{o:Option α}{f g:α→Prop}(h:QI o f) (ma:∀ a,f a→g a):QI o g:=by
 cases o with
 |none=>exact h.elim
 |some a=>exact ma a h
theorem X2 {S:VSpecs}{K:Env→Heap→Prop}:∀ {ops:List DOper}{env:Env}{hs:List Heap}{σ:Heap}{pend:List (Nat×(Heap→Prop))},Zj S ops env hs σ pend K→QZ S ops env hs σ pend K
 |[],_,_,_,_,h=>h
 |o::r,env,hs,σ,pend,h=>by
  simp only[Zj] at h;simp only[QZ];refine MP h fun b h=>⟨fun e=>?_,fun e=>?_⟩
  ·have h:=h.1 e;split at h
   ·rename_i hk;rw[if_pos hk];obtain⟨v,σ',h1,h2,h3⟩:=h;exact .inl ⟨v,σ',h1,h2,X2 h3⟩
   ·rename_i hk;rw[if_neg hk];split at h
    ·rename_i a9;rw[if_pos a9];exact MP h fun p h=>⟨h.1,X2 h.2⟩
    ·rename_i a9;rw[if_neg a9];exact MP h fun p h=>X2 h
  ·have h:=h.2 e;split at h
   ·rename_i hk;rw[if_pos hk];exact⟨h.1,X2 h.2⟩
   ·rename_i hk;rw[if_neg hk];exact X2 h
theorem Qh {C:Cx}(aB:COk P C) (bH:C.xs=[]) {B0 F0 D0:Heap}:∀ (ops:List DOper),(∀ o∈ops,o.kind=o.op.kind)→∀ {s:St}{env:Env}{σ:Heap}{B F:Heap}{pl:Nat→Value}{tb:Nat→Option Bool},GBase B0 F0 D0 B F σ→Gam P B F pl tb s env σ→∀ {hl chg:Nat}{A Rd:List (Nat×Option Nat)}{hs:List Heap}{pend pd:List (Nat×(Heap→Prop))},DSt hs σ pd hl chg A Rd s.own pl→(∀ c∈pend,(∀ τ,B.Le τ→c.2 τ)∨c∈pd)→(∀ j τ,hs[j]?=some τ→Uv A j=true→B.Le τ)→chg≤hl→0<hl →
  ∀ {K:St→Prop},Je C ops s hl chg A Rd K→∀ {R:Env→Heap→Prop},(∀ s' ai σ',K s'→GRel P B0 F0 D0 s' ai σ'→R ai σ')→Zj (Q2 P) ops env hs σ pend R
 |[],_,s,env,σ,B,F,pl,tb,hB,hG,_,_,_,_,_,_,_,_,_,_,_,_,K,h,R,hK=>hK s env σ h ⟨B,F,pl,tb,hB,hG⟩
 |o0::r,fG,s,env,σ,B,F,pl,tb,hB,hG,hl,chg,A,Rd,hs,pend,pd,hD,hp,cu,ep,aW,K,h,R,hK=>by
  have eC:∀ {n:Nat}{τ:Heap},B.Le τ→ZY n τ pd→ZY n τ pend:=fun {n τ} hb hv=>XM fun c hc hn=>(hp c hc).elim (fun h=>h τ hb) fun h=>Ve hv h hn;have snoc:∀ {τ:Heap}{A':List (Nat×Option Nat)},B.Le τ→(∀ j,Uv A' j=true→Uv A j=true)→∀ j τ',(hs++[τ])[j]?=some τ'→Uv A' j=true→B.Le τ':=fun {τ A'} hb hA j τ' hm hn=>by
   rcases ZA hm with⟨_,h1⟩|⟨_,rfl⟩
   ·exact cu j τ' h1 (hA j hn)
   ·exact hb
  have cn:∀ o∈r,o.kind=o.op.kind:=fun o' cC=>fG o' (List.mem_cons_of_mem _ cC);have mb:=fG o0 List.mem_cons_self;unfold Je at h;split at h
  ·rename_i bI;have hw:=W6 hG bI;simp only[Zj];rw[hw];refine⟨fun e=>(by cases e),fun _=>?_⟩;have ck:=hG.put o0.dst (show SR P B pl tb .any undef by simp[SR]);by_cases av:o0.kind=2
   ·rw[if_pos av] at h ⊢;obtain⟨k1,k2⟩:=hD.stay;exact⟨eC hG.leB k1,Qh aB bH r cn hB ck (by rw[QN];exact k2) hp (snoc hG.leB fun _ h=>h) (by omega) (by omega) h hK⟩
   ·rw[if_neg av] at h ⊢;exact Qh aB bH r cn hB ck (by rw[QN];exact hD) hp cu ep aW h hK
  have bR:(CL s.env o0).kind=(CL s.env o0).op.kind:=by unfold CL;split<;>exact mb
  have d_:Zj (Q2 P) (CL s.env o0::r) env hs σ pend R→Zj (Q2 P) (o0::r) env hs σ pend R:=fun hv=>by
   unfold CL at hv;split at hv
   ·rename_i bI;simp only[Zj] at hv ⊢;rw[W6 hG bI];exact hv
   ·exact hv
  refine d_ ?_;clear d_;generalize CL s.env o0=o at h bR ⊢
  replace h:=id h
  simp only[Zj];by_cases av:o.kind=2
  ·rw[if_pos av] at h
   have fin:∀ {u:Value}{σ':Heap}{ts:List Nat}{v:SV}{s':St}{pl':Nat→Value},(∀ R',R' u σ'→vop (Q2 P) o.op env σ R')→Je C r (s'.put o.dst v) (hl+1) (bif ts.isEmpty then chg else hl) (ts.map (fun t=>(hl-1,some t))++A) (bif ts.isEmpty then Rd else Rd.map fun r=>(r.1,none)) K→Gam P B F pl' tb s' env σ'→SR P B pl' tb v u→(ts=[]→σ'=σ∧pl'=pl∧s'=s)→σ.Le σ'→Dead σ σ'→FrL ts s s' pl pl' σ σ' →
     N6 (fun R=>vop (Q2 P) o.op env σ R) fun v σ'=>ZY hs.length σ' pend∧Zj (Q2 P) r (J8 env o.dst v) (hs++[σ']) σ' pend R:=fun {u σ' ts v s' pl'} bK oN bn jy he hle hd cA=>by
    cases ts with
    |nil =>obtain⟨rfl,rfl,rfl⟩:=he rfl;obtain⟨k1,k2⟩:=hD.stay;exact⟨u,σ',bK _ ⟨rfl,rfl⟩,eC bn.leB k1,Qh aB bH r cn (VX hB hd) (bn.put o.dst jy) (by rw[QN];exact k2) hp (snoc bn.leB fun _ h=>h) (by simp only[List.isEmpty,_root_.cond_true] at *;omega) (by omega) oN hK⟩
    |cons t ts =>obtain⟨k1,k2⟩:=hD.call hle cA aW;exact⟨u,σ',bK _ ⟨rfl,rfl⟩,eC bn.leB k1,Qh aB bH r cn (VX hB hd) (bn.put o.dst jy) (by rw[QN];exact k2) hp (snoc bn.leB fun _ h=>MD h) (by simp only[List.isEmpty,_root_.cond_false] at *;omega) (by omega) oN hK⟩
   split at h
   ·rename_i f args bK;split at h
    ·rename_i hg;rw[hg];refine⟨fun _=>?_,fun e=>by cases e⟩;rw[if_pos av];rw[bH] at h;simp only[Qd] at h;obtain⟨g,a,b,u,σ',e,v,s',pl',h1,h2,h3,h4,h5,h6,h7,h8,h9⟩:=Js aB hG h (show SR P σ J3 Zr (.fn f [] []) (.func (.func f) #[] #[]) by simp only[SR,SRs];exact⟨[],[],rfl,rfl,rfl⟩) (hG.gcall Gds.nil args);obtain⟨rfl,rfl,rfl⟩:=(by simpa using h1:f=g∧#[]=a∧#[]=b);refine fin (u:=u) (σ':=σ') (fun R' hr=>?_) h3 h4 h5 h6 h7 h8 h9;rw[bK];show VCalled P f (args.map (Q4 env)) σ R';have:=h2.mono (R':=R') fun u' aM ⟨e1,e2⟩=>by subst e1;subst e2;exact hr
     simpa using this
    ·rename_i j want hg;rw[hg];split at h
     ·exact h.elim
     ·rename_i gs s1 dC;obtain⟨tb',bn,cQ,b,hw,bC,cj⟩:=Jw hG dC;have aQ:=XY dC;rw[hw];split at h
      ·rename_i cs v dE;cases cG:WX v with
       |false=>rw[cG] at h;exact h.elim
       |true =>
       rw[cG] at h;simp only[_root_.cond_true] at h;obtain⟨h1,h2⟩:=QU h;obtain⟨k1,k2⟩:=hD.stay;have l8:∀ x,DSt (hs++[σ]) σ pd (hl+1) chg A Rd (s1.put o.dst x).own pl:=fun x=>by rw[QN,aQ];exact k2
       refine⟨fun e=>?_,fun e=>?_⟩
       ·rw[if_pos av];have gV:Gds tb' gs:=fun g hg=>⟨bC e g hg,cQ g hg⟩;have mc:∀ {v u},SR P B pl tb' v u→SR P B pl tb' (.grd gs (UE v)) u:=fun {v u} hs=>by
         simp only[SR];obtain⟨h1,h2⟩:=ML hs;exact⟨⟨cQ,h2⟩,fun _=>h1,fun ⟨g,hg,aF⟩=>absurd (bC e g hg) aF⟩
        simp only[gqc] at dE;split at dE
        ·rename_i c v' heq;cases dM:v'.ret 0 with
         |false=>rw[dM] at dE;cases dE
         |true =>
          rw[dM] at dE;obtain⟨rfl,rfl⟩:=Qx dE;obtain⟨g,a,b',h3,h4,_⟩:=Z1 aB.cs (show SR P σ J3 Zr (.fn f [] []) (.func (.func f) #[] #[]) by simp only[SR,SRs];exact⟨[],[],rfl,rfl,rfl⟩) (bn.gcall gV args) heq dM rfl (h2 (bC e) _ (by simp));obtain⟨rfl,rfl,rfl⟩:=(by simpa using h3:f=g∧#[]=a∧#[]=b');refine⟨WY J3 v',σ,?_,eC hG.leB k1,Qh aB bH r cn hB (bn.put o.dst (mc ?_)) (l8 _) hp (snoc hG.leB fun _ h=>h) (by omega) (by omega) (QR h1) hK⟩
          ·rw[bK];show VCalled P f (args.map (Q4 env)) σ _;have:=h4.mono (R':=fun u σ'=>u=WY J3 v'∧σ'=σ) fun u σ' hr=>by
            obtain⟨rfl,hu⟩:=hr.flat dM;exact⟨Yg v' u dM cG hu,rfl⟩
           simpa using this
          ·exact SR.retd (fun j hj=>by omega) _ _ dM (P6 (P:=P) (pl:=J3) (m:=0) (fun j hj=>by omega) v' dM cG)
        ·cases dE
       ·rw[if_pos av];obtain⟨g,dI,aF⟩:=cj e;exact⟨eC hG.leB k1,Qh aB bH r cn hB (bn.put o.dst (by simp only[SR];exact⟨⟨cQ,MG v⟩,fun hall=>absurd (hall g dI) aF,fun _=>trivial⟩)) (l8 _) hp (snoc hG.leB fun _ h=>h) (by omega) (by omega) (QR h1) hK⟩
      ·split at h
       ·rename_i cs v kN;obtain⟨c,ty,k,xs,nl,heq,rfl,rfl,hk,dW⟩:=BV kN;obtain⟨h1,h2⟩:=QU h;have frz:∀ {B' σ':Heap},B'.Le σ'→∀ j τ',(hs++[σ'])[j]?=some τ'→Uv ((hl-1,none)::A) j=true→B'.Le τ':=fun {B' σ'} hb j τ' hm hn=>by
         rcases ZA hm with⟨h1,_⟩|⟨_,rfl⟩
         ·simp only[Uv,List.all_cons,Bool.and_eq_true,Bool.or_eq_true,Nat.blt_eq,Option.isSome_none,Bool.false_eq_true,or_false] at hn;have:=hD.len;omega
         ·exact hb
        refine⟨fun e=>?_,fun e=>?_⟩
        ·rw[if_pos av];have gV:Gds tb' gs:=fun g hg=>⟨bC e g hg,cQ g hg⟩;have dG:=h2 (bC e) c (by simp);have eU:=h2 (bC e) (nl=true→xs=[]) (by simp);have dC:U0 C (C.off+o.dst.getD 0) (.fn f [] []) (G0 s1.own (args.map (gev gs s1.env))) s1 (fun ts v' s'=>ts=[C.off+o.dst.getD 0]∧v'=.lst (C.off+o.dst.getD 0)∧s'=s1.make (C.off+o.dst.getD 0) (.lst ty k xs nl)):=by
          unfold U0;rw[heq];dsimp only;have ao:(SV.ret [OB.lst ty k xs nl].length (.lst 0)&&([OB.lst ty k xs nl].all OB.ret&&(Nat.blt 0 C.nt&&([OB.lst ty k xs nl].all OB.isL&&WX (.lst 0)))))=true:=by simp only[SV.ret,List.length_singleton,List.all_cons,List.all_nil,Bool.and_true,OB.ret,hk,Bool.true_and,OB.isL,WX];rw[Bool.and_eq_true];exact⟨rfl,by rw[Nat.blt_eq];exact dW⟩
          rw[ao];simp only[_root_.cond_true,AD,OB.wf];refine⟨dG,eU,?_,?_,?_⟩
          ·simp[List.range_succ]
          ·simp[SV.ren]
          ·simp[St.makes]
         obtain⟨g,a,b',u,σ',ts,v',s',pl',h3,h4,⟨rfl,rfl,rfl⟩,h5,h6,_,h7,h8,h9⟩:=Js aB bn dC (show SR P σ J3 Zr (.fn f [] []) (.func (.func f) #[] #[]) by simp only[SR,SRs];exact⟨[],[],rfl,rfl,rfl⟩) (bn.gcall gV args);obtain⟨rfl,rfl,rfl⟩:=(by simpa using h3:f=g∧#[]=a∧#[]=b');obtain⟨B',F',m1,m2,m3⟩:=Pf bn.bf hk h5 h6 h8;have cA:FrL [C.off+o.dst.getD 0] s ((s1.make (C.off+o.dst.getD 0) .dead).put o.dst (.grd gs (.val (.list k) xs))) pl pl' σ σ':=fun q hq=>by obtain⟨f1,f2,f3⟩:=h9 q hq;rw[aQ] at f3;refine⟨?_,f2,f3⟩;rw[QN,JI _ _ _ (by simpa using hq),aQ]
         obtain⟨k1,k2⟩:=hD.call h7 cA aW;refine⟨u,σ',?_,eC (m1.b.trans m2.leB) k1,Qh aB bH r cn (hB.trans m1) (m2.put o.dst ?_) k2.frozen (fun c hc=>(hp c hc).imp (fun h τ hτ=>h τ (m1.b.trans hτ)) id) (frz m2.leB) (by omega) (by omega) h1 hK⟩
         ·rw[bK];show VCalled P f (args.map (Q4 env)) σ _;simpa using h4
         ·simp only[SR];exact⟨⟨cQ,trivial⟩,fun _=>m3,fun ⟨g,hg,aF⟩=>absurd (bC e g hg) aF⟩
        ·rw[if_pos av];obtain⟨g,dI,aF⟩:=cj e;have cA:FrL [C.off+o.dst.getD 0] s ((s1.make (C.off+o.dst.getD 0) .dead).put o.dst (.grd gs (.val (.list k) xs))) pl (QO pl (C.off+o.dst.getD 0) undef) σ σ:=fun q hq=>by
          have dm:q≠C.off+o.dst.getD 0:=by simpa using hq
          refine⟨?_,by simp[QO,dm],fun _ _ _=>rfl⟩;rw[QN,JI _ _ _ dm,aQ]
         obtain⟨k1,k2⟩:=hD.call (.refl σ) cA aW;refine⟨eC hG.leB k1,Qh aB bH r cn hB ((bn.make (C.off+o.dst.getD 0) .dead undef bn.le (fun _ _ _ _ _=>rfl) trivial (fun i hl _=>by cases hl)).put o.dst ?_) k2.frozen hp (frz hG.leB) (by omega) (by omega) h1 hK⟩;simp only[SR];exact⟨⟨cQ,trivial⟩,fun hall=>absurd (hall g dI) aF,fun _=>trivial⟩
       ·exact h.elim
   ·rename_i f args bK;split at h
    ·rename_i hg;rw[hg];refine⟨fun _=>?_,fun e=>by cases e⟩;rw[if_pos av];obtain⟨g,a,b,u,σ',e,v,s',pl',h1,h2,h3,h4,h5,h6,h7,h8,h9⟩:=Js aB hG h (hG.gfun Gds.nil f) (hG.gcall Gds.nil args);refine fin (u:=u) (σ':=σ') (fun R' hr=>?_) h3 h4 h5 h6 h7 h8 h9;rw[bK];exact KM h1 (h2.mono (R':=R') fun u' aM ⟨e1,e2⟩=>by subst e1;subst e2;exact hr)
    ·exact h.elim
   ·exact h.elim
   ·exact h.elim
   ·rename_i oO nR rn fE;split at h
    ·rename_i hg;rw[hg];refine⟨fun _=>?_,fun e=>by cases e⟩;rw[if_pos av];have aD:Ln o.op=false:=by
      cases ho:o.op<;>first|rfl|(exact absurd ho (oO _ _))|(exact absurd ho (nR _ _))|skip
      case ext x=>cases x<;>first|rfl|(exact absurd ho (rn _))|(exact absurd ho (fE _))
     cases kM:Tv C (o.dst.getD 0) o.op (gev [] s.env) with
     |true =>
      rw[kM] at h;simp only[_root_.cond_true] at h;cases hm:CZ (MY o.op) Rd hl (JM (C.off+o.dst.getD 0) o.op (gev [] s.env)) with
      |false=>rw[hm] at h;exact h.elim
      |true =>
       rw[hm] at h;simp only[_root_.cond_true] at h;obtain⟨u,σ',pl',v,s',h1,h2,⟨h3,gU⟩,h4⟩:=GH (fun x=>hG.evs (Gds.nil (tb:=tb)) x) hG h;have gx:∀ R',R' u σ'→vop (Q2 P) o.op env σ R':=fun R' hr=>by
        have:vop (Q2 P) o.op env σ R'=QI (Q5 o.op (Q4 env) σ) fun p=>R' p.1 p.2:=by
         cases ho:o.op with
         |callF f a=>rw[ho] at aD;cases aD
         |callV f a=>rw[ho] at aD;cases aD
         |ext x =>
          cases x with
          |nextMap y=>rw[ho] at h1;cases h1
          |_=>rfl
         |_=>rfl
        rw[this,h1];exact hr
       obtain⟨k1,k2⟩:=hD.writeD gU (fun b9=>HO b9 h1) hm aW;exact⟨u,σ',gx _ ⟨rfl,rfl⟩,eC h3.leB k1,Qh aB bH r cn (VX hB (Wl h1)) (h3.put o.dst h4) (by rw[QN];exact k2) hp (snoc h3.leB fun _ h=>MD h) (by omega) (by omega) h2 hK⟩
     |false =>
     rw[kM] at h;simp only[_root_.cond_false] at h;cases hm:((MY o.op&&R1 Rd hl (Qk (C.off+o.dst.getD 0) o.op (gev [] s.env)))||H7 Rd hl (Qk (C.off+o.dst.getD 0) o.op (gev [] s.env))||(BP o.op&&Q1v Rd hl (Qk (C.off+o.dst.getD 0) o.op (gev [] s.env)))) with
     |false=>rw[hm] at h;exact h.elim
     |true =>
      rw[hm] at h;simp only[_root_.cond_true] at h;obtain⟨u,σ',pl',v,s',h1,h2,⟨h3,gU⟩,h4,hE⟩:=EW hG h aD;have gx:∀ R',R' u σ'→vop (Q2 P) o.op env σ R':=fun R' hr=>by
       have:vop (Q2 P) o.op env σ R'=QI (Q5 o.op (Q4 env) σ) fun p=>R' p.1 p.2:=by
        cases ho:o.op with
        |callF f a=>rw[ho] at aD;cases aD
        |callV f a=>rw[ho] at aD;cases aD
        |ext x =>
         cases x with
         |nextMap y=>rw[ho] at h1;cases h1
         |_=>rfl
        |_=>rfl
       rw[this,h1];exact hr
      obtain⟨k1,k2⟩:=hD.write gU (fun b9=>HO b9 h1) hE hm aW;exact⟨u,σ',gx _ ⟨rfl,rfl⟩,eC h3.leB k1,Qh aB bH r cn (VX hB (Wl h1)) (h3.put o.dst h4) (by rw[QN];exact k2) hp (snoc h3.leB fun _ h=>GS h) (by omega) (by omega) h2 hK⟩
    ·exact h.elim
  ·rw[if_neg av] at h;have me:o.op.kind≠2:=by rw[←bR];exact av
   by_cases a9:o.kind=1
   ·rw[if_pos a9] at h
    have rd:∀ (rq:Option Nat),(∀ q,rq=some q→Kc o.op (gev [] s.env) s.own=some q)→(Nat.ble chg o.kmin||M_ A o.kmin rq)=true→gd1 C o s (fun s'=>Je C r s' hl chg A ((o.kmax,rq)::Rd) K) →
      QI (Z9 env o.guard) fun b=>vif b (if o.kind=2 then N6 (fun R=>vop (Q2 P) o.op env σ R) fun v σ'=>ZY hs.length σ' pend∧Zj (Q2 P) r (J8 env o.dst v) (hs++[σ']) σ' pend R
       else if o.kind=1 then QI (Q5 o.op (Q4 env) σ) fun p=>(∀ τ∈hs.drop o.kmin,ZV o.op (Q4 env) p.1 τ) ∧
        Zj (Q2 P) r (J8 env o.dst p.1) hs σ (if hs.length≤o.kmax then (o.kmax,ZV o.op (Q4 env) p.1)::pend else pend) R
       else QI (Q5 o.op (Q4 env) σ) fun p=>Zj (Q2 P) r (J8 env o.dst p.1) hs σ pend R)
      (if o.kind=2 then ZY hs.length σ pend∧Zj (Q2 P) r (J8 env o.dst undef) (hs++[σ]) σ pend R else Zj (Q2 P) r (J8 env o.dst undef) hs σ pend R):=fun rq oP hc h=>by
     obtain⟨b,hw,h1,h2⟩:=Yi hG h;rw[hw];have mf:DSt hs σ pd hl chg A ((o.kmax,rq)::Rd) s.own pl:=⟨hD.len,hD.same,fun c hc=>(hD.pend c hc).imp id fun ⟨r,k1,k2⟩=>⟨r,List.mem_cons_of_mem _ k1,k2⟩,hD.fr⟩;refine⟨fun e=>?_,fun e=>?_⟩
     ·obtain⟨u,s',tb',h3,h4,aQ,h5⟩:=h1 e;rw[if_neg av,if_pos a9,h3];refine⟨fun τ hτ=>?_,?_⟩
      ·obtain⟨j,hj⟩:=List.mem_iff_getElem?.1 hτ;rw[List.getElem?_drop] at hj;rw[Bool.or_eq_true] at hc;rcases hc with hc|hc
       ·have:=hD.same (o.kmin+j) τ (by have:=Nat.le_of_ble_eq_true hc;omega) hj;subst this;exact Z5 h3
       ·unfold M_ at hc;split at hc
        ·rename_i q;obtain⟨k1,i,bl,k2,k3,k4,k5⟩:=XU hG (oP q rfl) h3;have hu:QP A (o.kmin+j) (q / 2)=true:=by
          simp only[QP,List.all_eq_true,Bool.or_eq_true,Nat.blt_eq] at hc ⊢;exact fun a ha=>(hc a ha).imp (fun h=>by omega) id
         have:=hD.fr (o.kmin+j) τ (q / 2) i hj hu k1 k2;exact Z5 (k4 τ (by rw[this];exact k3))
        ·cases hc
      ·by_cases hle:hs.length≤o.kmax
       ·rw[if_pos hle];refine Qh aB bH r cn hB h5 (A:=A) (Rd:=(o.kmax,rq)::Rd) (hl:=hl) (chg:=chg) (pd:=(o.kmax,ZV o.op (Q4 env) u)::pd) ?_ (fun c hc=>?_) cu ep aW h4 hK
        ·rw[aQ];refine⟨hD.len,hD.same,fun c hc=>?_,hD.fr⟩;rcases List.mem_cons.1 hc with rfl|hc
         ·refine .inr ⟨_,List.mem_cons_self,Nat.le_refl _,?_⟩;cases rq with
          |none=>exact fun τ hτ=>Z5 (DK me h3 hτ)
          |some q =>obtain⟨k1,i,bl,k2,k3,k4,k5⟩:=XU hG (oP q rfl) h3;exact⟨k1,i,bl,k2,k3,fun τ ht=>Z5 (k4 τ ht),fun ho=>(let ⟨es,c,wr,x1,x2⟩:=k5 ho;⟨es,c,wr,x1,fun τ bV c' hl ht=>Z5 (x2 τ bV c' hl ht)⟩)⟩
         ·exact mf.pend c hc
        ·rcases List.mem_cons.1 hc with rfl|hc
         ·exact .inr List.mem_cons_self
         ·exact(hp c hc).imp id fun h=>List.mem_cons_of_mem _ h
       ·rw[if_neg hle];exact Qh aB bH r cn hB h5 (A:=A) (Rd:=(o.kmax,rq)::Rd) (hl:=hl) (chg:=chg) (pd:=pd) (by rw[aQ];exact mf) hp cu ep aW h4 hK
     ·obtain⟨s',tb',h4,aQ,h5⟩:=h2 e;rw[if_neg av];exact Qh aB bH r cn hB h5 (by rw[aQ];exact mf) hp cu ep aW h4 hK
    have ro:Uv A o.kmin=true→(∀ u,Q5 o.op (Q4 env) σ=some (u,σ)→(Z9 env o.guard=some true)→∀ τ,B.Le τ→Q5 o.op (Q4 env) τ=some (u,τ))→gd1 C o s (fun s'=>Je C r s' hl chg A Rd K) →
      QI (Z9 env o.guard) fun b=>vif b (if o.kind=2 then N6 (fun R=>vop (Q2 P) o.op env σ R) fun v σ'=>ZY hs.length σ' pend∧Zj (Q2 P) r (J8 env o.dst v) (hs++[σ']) σ' pend R
       else if o.kind=1 then QI (Q5 o.op (Q4 env) σ) fun p=>(∀ τ∈hs.drop o.kmin,ZV o.op (Q4 env) p.1 τ) ∧
        Zj (Q2 P) r (J8 env o.dst p.1) hs σ (if hs.length≤o.kmax then (o.kmax,ZV o.op (Q4 env) p.1)::pend else pend) R
       else QI (Q5 o.op (Q4 env) σ) fun p=>Zj (Q2 P) r (J8 env o.dst p.1) hs σ pend R)
      (if o.kind=2 then ZY hs.length σ pend∧Zj (Q2 P) r (J8 env o.dst undef) (hs++[σ]) σ pend R else Zj (Q2 P) r (J8 env o.dst undef) hs σ pend R):=fun jW bO h=>by
     obtain⟨b,hw,h1,h2⟩:=Yi hG h;rw[hw];refine⟨fun e=>?_,fun e=>?_⟩
     ·obtain⟨u,s',tb',h3,h4,aQ,h5⟩:=h1 e;have bO:=bO u h3 (by rw[hw,e]);rw[if_neg av,if_pos a9,h3];refine⟨fun τ hτ=>?_,?_⟩
      ·obtain⟨j,hj⟩:=List.mem_iff_getElem?.1 hτ;rw[List.getElem?_drop] at hj;refine Z5 (bO τ (cu _ τ hj ?_));simp only[Uv,List.all_eq_true,Bool.or_eq_true,Nat.blt_eq] at jW ⊢;exact fun a ha=>(jW a ha).imp (fun h=>by omega) id
      refine Qh aB bH r cn hB h5 (A:=A) (Rd:=Rd) (hl:=hl) (chg:=chg) (pd:=pd) (by rw[aQ];exact hD) (fun c hc=>?_) cu ep aW h4 hK;split at hc
      ·rcases List.mem_cons.1 hc with rfl|hc
       ·exact .inl fun τ hτ=>Z5 (bO τ hτ)
       ·exact hp c hc
      ·exact hp c hc
     ·obtain⟨s',tb',h4,aQ,h5⟩:=h2 e;rw[if_neg av];exact Qh aB bH r cn hB h5 (by rw[aQ];exact hD) hp cu ep aW h4 hK
    split at h
    ·rename_i hg;cases hr:(Q20 o.op (gev [] s.env)&&Uv A o.kmin) with
     |true =>rw[hr] at h;rw[Bool.and_eq_true] at hr;exact ro hr.2 (fun u hu _=>V7 hG Gds.nil hr.1 hu) h
     |false =>
     rw[hr] at h;simp only[_root_.cond_false] at h;cases hb:(Nat.ble chg o.kmin||M_ A o.kmin (Kc o.op (gev [] s.env) s.own)) with
     |false=>rw[hb] at h;exact h.elim
     |true =>rw[hb] at h;exact rd _ (fun q hq=>hq) hb h
    ·rename_i j want hg;cases hr:(EI s j want o.op&&Uv A o.kmin) with
     |true =>
      rw[hr] at h;rw[Bool.and_eq_true] at hr;obtain⟨hr,jW⟩:=hr;refine ro jW (fun u hu hw=>?_) h;unfold EI at hr;split at hr
      ·rename_i gs s1 dC;obtain⟨tb',bn,cQ,b,cZ,bC,cj⟩:=Jw hG dC;rw[hg,cZ] at hw;have e:=osj hw;exact V7 bn (fun g hg=>⟨bC e g hg,cQ g hg⟩) hr hu
      ·cases hr
     |false =>
     rw[hr] at h;simp only[_root_.cond_false] at h;cases hb:Nat.ble chg o.kmin with
     |false=>rw[hb] at h;exact h.elim
     |true =>rw[hb] at h;exact rd none (fun q hq=>by cases hq) (by rw[hb];rfl) h
   ·rw[if_neg a9] at h;obtain⟨b,hw,h1,h2⟩:=Yi hG h;rw[hw];refine⟨fun e=>?_,fun e=>?_⟩
    ·obtain⟨u,s',tb',h3,h4,aQ,h5⟩:=h1 e;rw[if_neg av,if_neg a9,h3];exact Qh aB bH r cn hB h5 (by rw[aQ];exact hD) hp cu ep aW h4 hK
    ·obtain⟨s',tb',h4,aQ,h5⟩:=h2 e;rw[if_neg av];exact Qh aB bH r cn hB h5 (by rw[aQ];exact hD) hp cu ep aW h4 hK
theorem Qi {C:Cx}(aB:COk P C) {B0 F0 D0:Heap}:∀ (ops:List DOper),(∀ o∈ops,o.kind=o.op.kind)→∀ {s:St}{env:Env}{σ:Heap}{B F:Heap}{pl:Nat→Value}{tb:Nat→Option Bool},GBase B0 F0 D0 B F σ→Gam P B F pl tb s env σ→∀ {hl chg:Nat}{A Rd:List (Nat×Option Nat)}{hs:List Heap}{pend pd:List (Nat×(Heap→Prop))},DSt hs σ pd hl chg A Rd s.own pl→(∀ c∈pend,(∀ τ,B.Le τ→c.2 τ)∨c∈pd)→(∀ j τ,hs[j]?=some τ→Uv A j=true→B.Le τ)→chg≤hl→0<hl →
  ∀ {K:St→Prop},Je C ops s hl chg A Rd K→∀ {R:Env→Heap→Prop},(∀ s' ai σ',K s'→GRel P B0 F0 D0 s' ai σ'→R ai σ')→QZ (Q2 P) ops env hs σ pend R
 |[],_,s,env,σ,B,F,pl,tb,hB,hG,_,_,_,_,_,_,_,_,_,_,_,_,K,h,R,hK=>hK s env σ h ⟨B,F,pl,tb,hB,hG⟩
 |o0::r,fG,s,env,σ,B,F,pl,tb,hB,hG,hl,chg,A,Rd,hs,pend,pd,hD,hp,cu,ep,aW,K,h,R,hK=>by
  have eC:∀ {n:Nat}{τ:Heap},B.Le τ→ZY n τ pd→ZY n τ pend:=fun {n τ} hb hv=>XM fun c hc hn=>(hp c hc).elim (fun h=>h τ hb) fun h=>Ve hv h hn;have snoc:∀ {τ:Heap}{A':List (Nat×Option Nat)},B.Le τ→(∀ j,Uv A' j=true→Uv A j=true)→∀ j τ',(hs++[τ])[j]?=some τ'→Uv A' j=true→B.Le τ':=fun {τ A'} hb hA j τ' hm hn=>by
   rcases ZA hm with⟨_,h1⟩|⟨_,rfl⟩
   ·exact cu j τ' h1 (hA j hn)
   ·exact hb
  have cn:∀ o∈r,o.kind=o.op.kind:=fun o' cC=>fG o' (List.mem_cons_of_mem _ cC);have mb:=fG o0 List.mem_cons_self;unfold Je at h;split at h
  ·rename_i bI;have hw:=W6 hG bI;simp only[QZ];rw[hw];refine⟨fun e=>(by cases e),fun _=>?_⟩;have ck:=hG.put o0.dst (show SR P B pl tb .any undef by simp[SR]);by_cases av:o0.kind=2
   ·rw[if_pos av] at h ⊢;obtain⟨k1,k2⟩:=hD.stay;exact⟨eC hG.leB k1,Qi aB r cn hB ck (by rw[QN];exact k2) hp (snoc hG.leB fun _ h=>h) (by omega) (by omega) h hK⟩
   ·rw[if_neg av] at h ⊢;exact Qi aB r cn hB ck (by rw[QN];exact hD) hp cu ep aW h hK
  have bR:(CL s.env o0).kind=(CL s.env o0).op.kind:=by unfold CL;split<;>exact mb
  have d_:QZ (Q2 P) (CL s.env o0::r) env hs σ pend R→QZ (Q2 P) (o0::r) env hs σ pend R:=fun hv=>by
   unfold CL at hv;split at hv
   ·rename_i bI;simp only[QZ] at hv ⊢;rw[W6 hG bI];exact hv
   ·exact hv
  refine d_ ?_;clear d_;generalize CL s.env o0=o at h bR ⊢
  replace h:=id h
  simp only[QZ];by_cases av:o.kind=2
  ·rw[if_pos av] at h
   have fin:∀ {u:Value}{σ':Heap}{ts:List Nat}{v:SV}{s':St}{pl':Nat→Value},(∀ R',R' u σ'→vop (Q2 P) o.op env σ R')→Je C r (s'.put o.dst v) (hl+1) (bif ts.isEmpty then chg else hl) (ts.map (fun t=>(hl-1,some t))++A) (bif ts.isEmpty then Rd else Rd.map fun r=>(r.1,none)) K→Gam P B F pl' tb s' env σ'→SR P B pl' tb v u→(ts=[]→σ'=σ∧pl'=pl∧s'=s)→σ.Le σ'→Dead σ σ'→FrL ts s s' pl pl' σ σ' →
     N6 (fun R=>vop (Q2 P) o.op env σ R) fun v σ'=>ZY hs.length σ' pend∧QZ (Q2 P) r (J8 env o.dst v) (hs++[σ']) σ' pend R:=fun {u σ' ts v s' pl'} bK oN bn jy he hle hd cA=>by
    cases ts with
    |nil =>obtain⟨rfl,rfl,rfl⟩:=he rfl;obtain⟨k1,k2⟩:=hD.stay;exact⟨u,σ',bK _ ⟨rfl,rfl⟩,eC bn.leB k1,Qi aB r cn (VX hB hd) (bn.put o.dst jy) (by rw[QN];exact k2) hp (snoc bn.leB fun _ h=>h) (by simp only[List.isEmpty,_root_.cond_true] at *;omega) (by omega) oN hK⟩
    |cons t ts =>obtain⟨k1,k2⟩:=hD.call hle cA aW;exact⟨u,σ',bK _ ⟨rfl,rfl⟩,eC bn.leB k1,Qi aB r cn (VX hB hd) (bn.put o.dst jy) (by rw[QN];exact k2) hp (snoc bn.leB fun _ h=>MD h) (by simp only[List.isEmpty,_root_.cond_false] at *;omega) (by omega) oN hK⟩
   split at h
   ·rename_i f args bK;split at h
    ·rename_i hg;rw[hg];refine⟨fun _=>?_,fun e=>by cases e⟩;rw[if_pos av]
     have oQ:∀ {K':List Nat→SV→St→Prop},U0 C (C.off+o.dst.getD 0) (.fn f [] []) (G0 s.own (args.map (gev [] s.env))) s K'→(∀ ts v s',K' ts v s'→Je C r (s'.put o.dst v) (hl+1) (bif ts.isEmpty then chg else hl) (ts.map (fun t=>(hl-1,some t))++A) (bif ts.isEmpty then Rd else Rd.map fun r=>(r.1,none)) K) →
       N6 (fun R=>vop (Q2 P) o.op env σ R) fun v σ'=>ZY hs.length σ' pend∧QZ (Q2 P) r (J8 env o.dst v) (hs++[σ']) σ' pend R:=fun {K'} h rp=>by
      obtain⟨g,a,b,u,σ',e,v,s',pl',h1,h2,h3,h4,h5,h6,h7,h8,h9⟩:=Js aB hG h (show SR P σ J3 Zr (.fn f [] []) (.func (.func f) #[] #[]) by simp only[SR,SRs];exact⟨[],[],rfl,rfl,rfl⟩) (hG.gcall Gds.nil args);obtain⟨rfl,rfl,rfl⟩:=(by simpa using h1:f=g∧#[]=a∧#[]=b);refine fin (u:=u) (σ':=σ') (fun R' hr=>?_) (rp _ _ _ h3) h4 h5 h6 h7 h8 h9;rw[bK];show VCalled P f (args.map (Q4 env)) σ R';have:=h2.mono (R':=R') fun u' aM ⟨e1,e2⟩=>by subst e1;subst e2;exact hr
      simpa using this
     split at h
     ·rename_i x hx;split at h
      ·rename_i jf wR;split at h
       ·rename_i tt oE;cases g_:(waits o.dst.toList r&&CZ false Rd hl [tt]) with
        |false=>rw[g_] at h;exact h.elim
        |true =>rw[g_] at h;simp only[_root_.cond_true] at h;rw[Bool.and_eq_true] at g_;refine .inr ⟨g_.1,?_⟩;rw[bK];show VCalled P f (args.map (Q4 env)) σ _;refine aB.xf f jf wR x hx B F pl tb s env σ _ _ _ _ _ tt hG (SRs.map fun x _=>hG.evs Gds.nil x) oE h fun v s' u σ' k1 k2 k3 k4 k5=>?_;obtain⟨q1,q2⟩:=hD.writeD k5 (mk:=false) (fun h=>by cases h) g_.2 aW;exact⟨eC k3.leB q1,Qi aB r cn (VX hB k2) (k3.put o.dst k4) (by rw[QN];exact q2) hp (snoc k3.leB fun _ h=>GS h) (by omega) (by omega) k1 hK⟩
       ·exact h.elim
      ·cases g_:(waits o.dst.toList r&&Rd.all (fun q=>Nat.blt q.1 hl)) with
       |false=>rw[g_] at h;simp only[_root_.cond_false] at h;exact .inl (oQ h fun _ _ _ h=>h)
       |true =>
        rw[g_] at h;simp only[_root_.cond_true] at h;rw[Bool.and_eq_true] at g_;refine .inr ⟨g_.1,?_⟩;rw[bK];show VCalled P f (args.map (Q4 env)) σ _;have aC:∀ args:List Operand,SRs P B pl tb (args.map (gev [] s.env)) (args.map (Q4 env)):=fun args=>SRs.map fun x _=>hG.evs Gds.nil x;refine aB.xs f x hx B F pl tb s env σ _ _ _ _ _ hG (aC args) h fun v s' B' F' pl' tb' u σ' k1 k2 k3 k4=>?_;have hall:∀ c∈pd,c.1<hl:=fun c hc=>by
         rcases hD.pend c hc with h1|⟨q,h1,h2,_⟩
         ·exact h1
         ·have:=List.all_eq_true.1 g_.2 q h1;rw[Nat.blt_eq] at this;omega
        have kz:ZY hs.length σ' pd:=XM fun c hc hle=>by have:=hall c hc;have:=hD.len;omega
        have rr:ZY hs.length σ' pend:=XM fun c hc hn=>(hp c hc).elim (fun h=>h σ' (k2.b.trans k3.leB)) fun h=>Ve kz h hn;refine⟨rr,Qi aB r cn (hB.trans k2) (k3.put o.dst k4) (pd:=pd) ⟨by simp[hD.len],fun j τ hj ht=>?_,fun c hc=>.inl (by have:=hall c hc;omega),fun j τ q i ht hu bN hi=>?_⟩ (fun c hc=>(hp c hc).imp (fun h τ hτ=>h τ (k2.b.trans hτ)) id) (fun j τ ht hn=>?_) (by omega) (by omega) k1 hK⟩
        ·rcases ZA ht with⟨h1,_⟩|⟨_,h1⟩
         ·rw[hD.len] at h1;omega
         ·exact h1
        ·rcases ZA ht with⟨h1,_⟩|⟨_,h1⟩
         ·exfalso;rw[hD.len] at h1;simp only[QP,List.all_cons,Bool.and_eq_true,Bool.or_eq_true,Nat.blt_eq,Bool.false_eq_true,or_false] at hu;omega
         ·rw[h1]
        ·rcases ZA ht with⟨h1,_⟩|⟨_,h1⟩
         ·exfalso;rw[hD.len] at h1;simp only[Uv,List.all_cons,Bool.and_eq_true,Bool.or_eq_true,Nat.blt_eq,Option.isSome_none,Bool.false_eq_true,or_false] at hn;omega
         ·rw[h1];exact k3.leB
     ·exact .inl (oQ h fun _ _ _ h=>h)
    ·rename_i j want hg;rw[hg];split at h
     ·exact h.elim
     ·rename_i gs s1 dC;obtain⟨tb',bn,cQ,b,hw,bC,cj⟩:=Jw hG dC;have aQ:=XY dC;rw[hw];split at h
      ·rename_i cs v dE;cases cG:WX v with
       |false=>rw[cG] at h;exact h.elim
       |true =>
       rw[cG] at h;simp only[_root_.cond_true] at h;obtain⟨h1,h2⟩:=QU h;obtain⟨k1,k2⟩:=hD.stay;have l8:∀ x,DSt (hs++[σ]) σ pd (hl+1) chg A Rd (s1.put o.dst x).own pl:=fun x=>by rw[QN,aQ];exact k2
       refine⟨fun e=>?_,fun e=>?_⟩
       ·rw[if_pos av];have gV:Gds tb' gs:=fun g hg=>⟨bC e g hg,cQ g hg⟩;have mc:∀ {v u},SR P B pl tb' v u→SR P B pl tb' (.grd gs (UE v)) u:=fun {v u} hs=>by
         simp only[SR];obtain⟨h1,h2⟩:=ML hs;exact⟨⟨cQ,h2⟩,fun _=>h1,fun ⟨g,hg,aF⟩=>absurd (bC e g hg) aF⟩
        simp only[gqc] at dE;split at dE
        ·rename_i c v' heq;cases dM:v'.ret 0 with
         |false=>rw[dM] at dE;cases dE
         |true =>
          rw[dM] at dE;obtain⟨rfl,rfl⟩:=Qx dE;obtain⟨g,a,b',h3,h4,_⟩:=Z1 aB.cs (show SR P σ J3 Zr (.fn f [] []) (.func (.func f) #[] #[]) by simp only[SR,SRs];exact⟨[],[],rfl,rfl,rfl⟩) (bn.gcall gV args) heq dM rfl (h2 (bC e) _ (by simp));obtain⟨rfl,rfl,rfl⟩:=(by simpa using h3:f=g∧#[]=a∧#[]=b');refine .inl ⟨WY J3 v',σ,?_,eC hG.leB k1,Qi aB r cn hB (bn.put o.dst (mc ?_)) (l8 _) hp (snoc hG.leB fun _ h=>h) (by omega) (by omega) (QR h1) hK⟩
          ·rw[bK];show VCalled P f (args.map (Q4 env)) σ _;have:=h4.mono (R':=fun u σ'=>u=WY J3 v'∧σ'=σ) fun u σ' hr=>by
            obtain⟨rfl,hu⟩:=hr.flat dM;exact⟨Yg v' u dM cG hu,rfl⟩
           simpa using this
          ·exact SR.retd (fun j hj=>by omega) _ _ dM (P6 (P:=P) (pl:=J3) (m:=0) (fun j hj=>by omega) v' dM cG)
        ·cases dE
       ·rw[if_pos av];obtain⟨g,dI,aF⟩:=cj e;exact⟨eC hG.leB k1,Qi aB r cn hB (bn.put o.dst (by simp only[SR];exact⟨⟨cQ,MG v⟩,fun hall=>absurd (hall g dI) aF,fun _=>trivial⟩)) (l8 _) hp (snoc hG.leB fun _ h=>h) (by omega) (by omega) (QR h1) hK⟩
      ·split at h
       ·rename_i cs v kN;obtain⟨c,ty,k,xs,nl,heq,rfl,rfl,hk,dW⟩:=BV kN;obtain⟨h1,h2⟩:=QU h;have frz:∀ {B' σ':Heap},B'.Le σ'→∀ j τ',(hs++[σ'])[j]?=some τ'→Uv ((hl-1,none)::A) j=true→B'.Le τ':=fun {B' σ'} hb j τ' hm hn=>by
         rcases ZA hm with⟨h1,_⟩|⟨_,rfl⟩
         ·simp only[Uv,List.all_cons,Bool.and_eq_true,Bool.or_eq_true,Nat.blt_eq,Option.isSome_none,Bool.false_eq_true,or_false] at hn;have:=hD.len;omega
         ·exact hb
        refine⟨fun e=>?_,fun e=>?_⟩
        ·rw[if_pos av];have gV:Gds tb' gs:=fun g hg=>⟨bC e g hg,cQ g hg⟩;have dG:=h2 (bC e) c (by simp);have eU:=h2 (bC e) (nl=true→xs=[]) (by simp);have dC:U0 C (C.off+o.dst.getD 0) (.fn f [] []) (G0 s1.own (args.map (gev gs s1.env))) s1 (fun ts v' s'=>ts=[C.off+o.dst.getD 0]∧v'=.lst (C.off+o.dst.getD 0)∧s'=s1.make (C.off+o.dst.getD 0) (.lst ty k xs nl)):=by
          unfold U0;rw[heq];dsimp only;have ao:(SV.ret [OB.lst ty k xs nl].length (.lst 0)&&([OB.lst ty k xs nl].all OB.ret&&(Nat.blt 0 C.nt&&([OB.lst ty k xs nl].all OB.isL&&WX (.lst 0)))))=true:=by simp only[SV.ret,List.length_singleton,List.all_cons,List.all_nil,Bool.and_true,OB.ret,hk,Bool.true_and,OB.isL,WX];rw[Bool.and_eq_true];exact⟨rfl,by rw[Nat.blt_eq];exact dW⟩
          rw[ao];simp only[_root_.cond_true,AD,OB.wf];refine⟨dG,eU,?_,?_,?_⟩
          ·simp[List.range_succ]
          ·simp[SV.ren]
          ·simp[St.makes]
         obtain⟨g,a,b',u,σ',ts,v',s',pl',h3,h4,⟨rfl,rfl,rfl⟩,h5,h6,_,h7,h8,h9⟩:=Js aB bn dC (show SR P σ J3 Zr (.fn f [] []) (.func (.func f) #[] #[]) by simp only[SR,SRs];exact⟨[],[],rfl,rfl,rfl⟩) (bn.gcall gV args);obtain⟨rfl,rfl,rfl⟩:=(by simpa using h3:f=g∧#[]=a∧#[]=b');obtain⟨B',F',m1,m2,m3⟩:=Pf bn.bf hk h5 h6 h8;have cA:FrL [C.off+o.dst.getD 0] s ((s1.make (C.off+o.dst.getD 0) .dead).put o.dst (.grd gs (.val (.list k) xs))) pl pl' σ σ':=fun q hq=>by obtain⟨f1,f2,f3⟩:=h9 q hq;rw[aQ] at f3;refine⟨?_,f2,f3⟩;rw[QN,JI _ _ _ (by simpa using hq),aQ]
         obtain⟨k1,k2⟩:=hD.call h7 cA aW;refine .inl ⟨u,σ',?_,eC (m1.b.trans m2.leB) k1,Qi aB r cn (hB.trans m1) (m2.put o.dst ?_) k2.frozen (fun c hc=>(hp c hc).imp (fun h τ hτ=>h τ (m1.b.trans hτ)) id) (frz m2.leB) (by omega) (by omega) h1 hK⟩
         ·rw[bK];show VCalled P f (args.map (Q4 env)) σ _;simpa using h4
         ·simp only[SR];exact⟨⟨cQ,trivial⟩,fun _=>m3,fun ⟨g,hg,aF⟩=>absurd (bC e g hg) aF⟩
        ·rw[if_pos av];obtain⟨g,dI,aF⟩:=cj e;have cA:FrL [C.off+o.dst.getD 0] s ((s1.make (C.off+o.dst.getD 0) .dead).put o.dst (.grd gs (.val (.list k) xs))) pl (QO pl (C.off+o.dst.getD 0) undef) σ σ:=fun q hq=>by
          have dm:q≠C.off+o.dst.getD 0:=by simpa using hq
          refine⟨?_,by simp[QO,dm],fun _ _ _=>rfl⟩;rw[QN,JI _ _ _ dm,aQ]
         obtain⟨k1,k2⟩:=hD.call (.refl σ) cA aW;refine⟨eC hG.leB k1,Qi aB r cn hB ((bn.make (C.off+o.dst.getD 0) .dead undef bn.le (fun _ _ _ _ _=>rfl) trivial (fun i hl _=>by cases hl)).put o.dst ?_) k2.frozen hp (frz hG.leB) (by omega) (by omega) h1 hK⟩;simp only[SR];exact⟨⟨cQ,trivial⟩,fun hall=>absurd (hall g dI) aF,fun _=>trivial⟩
       ·exact h.elim
   ·rename_i f args bK;split at h
    ·rename_i hg;rw[hg];refine⟨fun _=>?_,fun e=>by cases e⟩;rw[if_pos av];refine .inl ?_;obtain⟨g,a,b,u,σ',e,v,s',pl',h1,h2,h3,h4,h5,h6,h7,h8,h9⟩:=Js aB hG h (hG.gfun Gds.nil f) (hG.gcall Gds.nil args);refine fin (u:=u) (σ':=σ') (fun R' hr=>?_) h3 h4 h5 h6 h7 h8 h9;rw[bK];exact KM h1 (h2.mono (R':=R') fun u' aM ⟨e1,e2⟩=>by subst e1;subst e2;exact hr)
    ·exact h.elim
   ·exact h.elim
   ·exact h.elim
   ·rename_i oO nR rn fE;split at h
    ·rename_i hg;rw[hg];refine⟨fun _=>?_,fun e=>by cases e⟩;rw[if_pos av];have aD:Ln o.op=false:=by
      cases ho:o.op<;>first|rfl|(exact absurd ho (oO _ _))|(exact absurd ho (nR _ _))|skip
      case ext x=>cases x<;>first|rfl|(exact absurd ho (rn _))|(exact absurd ho (fE _))
     cases kM:Tv C (o.dst.getD 0) o.op (gev [] s.env) with
     |true =>
      rw[kM] at h;simp only[_root_.cond_true] at h;cases hm:CZ (MY o.op) Rd hl (JM (C.off+o.dst.getD 0) o.op (gev [] s.env)) with
      |false=>rw[hm] at h;exact h.elim
      |true =>
       rw[hm] at h;simp only[_root_.cond_true] at h;obtain⟨u,σ',pl',v,s',h1,h2,⟨h3,gU⟩,h4⟩:=GH (fun x=>hG.evs (Gds.nil (tb:=tb)) x) hG h;have gx:∀ R',R' u σ'→vop (Q2 P) o.op env σ R':=fun R' hr=>by
        have:vop (Q2 P) o.op env σ R'=QI (Q5 o.op (Q4 env) σ) fun p=>R' p.1 p.2:=by
         cases ho:o.op with
         |callF f a=>rw[ho] at aD;cases aD
         |callV f a=>rw[ho] at aD;cases aD
         |ext x =>
          cases x with
          |nextMap y=>rw[ho] at h1;cases h1
          |_=>rfl
         |_=>rfl
        rw[this,h1];exact hr
       obtain⟨k1,k2⟩:=hD.writeD gU (fun b9=>HO b9 h1) hm aW;exact .inl ⟨u,σ',gx _ ⟨rfl,rfl⟩,eC h3.leB k1,Qi aB r cn (VX hB (Wl h1)) (h3.put o.dst h4) (by rw[QN];exact k2) hp (snoc h3.leB fun _ h=>MD h) (by omega) (by omega) h2 hK⟩
     |false =>
     rw[kM] at h;simp only[_root_.cond_false] at h;cases hm:((MY o.op&&R1 Rd hl (Qk (C.off+o.dst.getD 0) o.op (gev [] s.env)))||H7 Rd hl (Qk (C.off+o.dst.getD 0) o.op (gev [] s.env))||(BP o.op&&Q1v Rd hl (Qk (C.off+o.dst.getD 0) o.op (gev [] s.env)))) with
     |false=>rw[hm] at h;exact h.elim
     |true =>
      rw[hm] at h;simp only[_root_.cond_true] at h;obtain⟨u,σ',pl',v,s',h1,h2,⟨h3,gU⟩,h4,hE⟩:=EW hG h aD;have gx:∀ R',R' u σ'→vop (Q2 P) o.op env σ R':=fun R' hr=>by
       have:vop (Q2 P) o.op env σ R'=QI (Q5 o.op (Q4 env) σ) fun p=>R' p.1 p.2:=by
        cases ho:o.op with
        |callF f a=>rw[ho] at aD;cases aD
        |callV f a=>rw[ho] at aD;cases aD
        |ext x =>
         cases x with
         |nextMap y=>rw[ho] at h1;cases h1
         |_=>rfl
        |_=>rfl
       rw[this,h1];exact hr
      obtain⟨k1,k2⟩:=hD.write gU (fun b9=>HO b9 h1) hE hm aW;exact .inl ⟨u,σ',gx _ ⟨rfl,rfl⟩,eC h3.leB k1,Qi aB r cn (VX hB (Wl h1)) (h3.put o.dst h4) (by rw[QN];exact k2) hp (snoc h3.leB fun _ h=>GS h) (by omega) (by omega) h2 hK⟩
    ·exact h.elim
  ·rw[if_neg av] at h;have me:o.op.kind≠2:=by rw[←bR];exact av
   by_cases a9:o.kind=1
   ·rw[if_pos a9] at h
    have rd:∀ (rq:Option Nat),(∀ q,rq=some q→Kc o.op (gev [] s.env) s.own=some q)→(Nat.ble chg o.kmin||M_ A o.kmin rq)=true→gd1 C o s (fun s'=>Je C r s' hl chg A ((o.kmax,rq)::Rd) K) →
      QI (Z9 env o.guard) fun b=>vif b (if o.kind=2 then (N6 (fun R=>vop (Q2 P) o.op env σ R) fun v σ'=>ZY hs.length σ' pend∧QZ (Q2 P) r (J8 env o.dst v) (hs++[σ']) σ' pend R)∨(waits o.dst.toList r=true∧vop (Q2 P) o.op env σ fun v σ'=>ZY hs.length σ' pend∧QZ (Q2 P) r (J8 env o.dst v) (hs++[σ']) σ' pend R)
       else if o.kind=1 then QI (Q5 o.op (Q4 env) σ) fun p=>(∀ τ∈hs.drop o.kmin,ZV o.op (Q4 env) p.1 τ) ∧
        QZ (Q2 P) r (J8 env o.dst p.1) hs σ (if hs.length≤o.kmax then (o.kmax,ZV o.op (Q4 env) p.1)::pend else pend) R
       else QI (Q5 o.op (Q4 env) σ) fun p=>QZ (Q2 P) r (J8 env o.dst p.1) hs σ pend R)
      (if o.kind=2 then ZY hs.length σ pend∧QZ (Q2 P) r (J8 env o.dst undef) (hs++[σ]) σ pend R else QZ (Q2 P) r (J8 env o.dst undef) hs σ pend R):=fun rq oP hc h=>by
     obtain⟨b,hw,h1,h2⟩:=Yi hG h;rw[hw];have mf:DSt hs σ pd hl chg A ((o.kmax,rq)::Rd) s.own pl:=⟨hD.len,hD.same,fun c hc=>(hD.pend c hc).imp id fun ⟨r,k1,k2⟩=>⟨r,List.mem_cons_of_mem _ k1,k2⟩,hD.fr⟩;refine⟨fun e=>?_,fun e=>?_⟩
     ·obtain⟨u,s',tb',h3,h4,aQ,h5⟩:=h1 e;rw[if_neg av,if_pos a9,h3];refine⟨fun τ hτ=>?_,?_⟩
      ·obtain⟨j,hj⟩:=List.mem_iff_getElem?.1 hτ;rw[List.getElem?_drop] at hj;rw[Bool.or_eq_true] at hc;rcases hc with hc|hc
       ·have:=hD.same (o.kmin+j) τ (by have:=Nat.le_of_ble_eq_true hc;omega) hj;subst this;exact Z5 h3
       ·unfold M_ at hc;split at hc
        ·rename_i q;obtain⟨k1,i,bl,k2,k3,k4,k5⟩:=XU hG (oP q rfl) h3;have hu:QP A (o.kmin+j) (q / 2)=true:=by
          simp only[QP,List.all_eq_true,Bool.or_eq_true,Nat.blt_eq] at hc ⊢;exact fun a ha=>(hc a ha).imp (fun h=>by omega) id
         have:=hD.fr (o.kmin+j) τ (q / 2) i hj hu k1 k2;exact Z5 (k4 τ (by rw[this];exact k3))
        ·cases hc
      ·by_cases hle:hs.length≤o.kmax
       ·rw[if_pos hle];refine Qi aB r cn hB h5 (A:=A) (Rd:=(o.kmax,rq)::Rd) (hl:=hl) (chg:=chg) (pd:=(o.kmax,ZV o.op (Q4 env) u)::pd) ?_ (fun c hc=>?_) cu ep aW h4 hK
        ·rw[aQ];refine⟨hD.len,hD.same,fun c hc=>?_,hD.fr⟩;rcases List.mem_cons.1 hc with rfl|hc
         ·refine .inr ⟨_,List.mem_cons_self,Nat.le_refl _,?_⟩;cases rq with
          |none=>exact fun τ hτ=>Z5 (DK me h3 hτ)
          |some q =>obtain⟨k1,i,bl,k2,k3,k4,k5⟩:=XU hG (oP q rfl) h3;exact⟨k1,i,bl,k2,k3,fun τ ht=>Z5 (k4 τ ht),fun ho=>(let ⟨es,c,wr,x1,x2⟩:=k5 ho;⟨es,c,wr,x1,fun τ bV c' hl ht=>Z5 (x2 τ bV c' hl ht)⟩)⟩
         ·exact mf.pend c hc
        ·rcases List.mem_cons.1 hc with rfl|hc
         ·exact .inr List.mem_cons_self
         ·exact(hp c hc).imp id fun h=>List.mem_cons_of_mem _ h
       ·rw[if_neg hle];exact Qi aB r cn hB h5 (A:=A) (Rd:=(o.kmax,rq)::Rd) (hl:=hl) (chg:=chg) (pd:=pd) (by rw[aQ];exact mf) hp cu ep aW h4 hK
     ·obtain⟨s',tb',h4,aQ,h5⟩:=h2 e;rw[if_neg av];exact Qi aB r cn hB h5 (by rw[aQ];exact mf) hp cu ep aW h4 hK
    have ro:Uv A o.kmin=true→(∀ u,Q5 o.op (Q4 env) σ=some (u,σ)→(Z9 env o.guard=some true)→∀ τ,B.Le τ→Q5 o.op (Q4 env) τ=some (u,τ))→gd1 C o s (fun s'=>Je C r s' hl chg A Rd K) →
      QI (Z9 env o.guard) fun b=>vif b (if o.kind=2 then (N6 (fun R=>vop (Q2 P) o.op env σ R) fun v σ'=>ZY hs.length σ' pend∧QZ (Q2 P) r (J8 env o.dst v) (hs++[σ']) σ' pend R)∨(waits o.dst.toList r=true∧vop (Q2 P) o.op env σ fun v σ'=>ZY hs.length σ' pend∧QZ (Q2 P) r (J8 env o.dst v) (hs++[σ']) σ' pend R)
       else if o.kind=1 then QI (Q5 o.op (Q4 env) σ) fun p=>(∀ τ∈hs.drop o.kmin,ZV o.op (Q4 env) p.1 τ) ∧
        QZ (Q2 P) r (J8 env o.dst p.1) hs σ (if hs.length≤o.kmax then (o.kmax,ZV o.op (Q4 env) p.1)::pend else pend) R
       else QI (Q5 o.op (Q4 env) σ) fun p=>QZ (Q2 P) r (J8 env o.dst p.1) hs σ pend R)
      (if o.kind=2 then ZY hs.length σ pend∧QZ (Q2 P) r (J8 env o.dst undef) (hs++[σ]) σ pend R else QZ (Q2 P) r (J8 env o.dst undef) hs σ pend R):=fun jW bO h=>by
     obtain⟨b,hw,h1,h2⟩:=Yi hG h;rw[hw];refine⟨fun e=>?_,fun e=>?_⟩
     ·obtain⟨u,s',tb',h3,h4,aQ,h5⟩:=h1 e;have bO:=bO u h3 (by rw[hw,e]);rw[if_neg av,if_pos a9,h3];refine⟨fun τ hτ=>?_,?_⟩
      ·obtain⟨j,hj⟩:=List.mem_iff_getElem?.1 hτ;rw[List.getElem?_drop] at hj;refine Z5 (bO τ (cu _ τ hj ?_));simp only[Uv,List.all_eq_true,Bool.or_eq_true,Nat.blt_eq] at jW ⊢;exact fun a ha=>(jW a ha).imp (fun h=>by omega) id
      refine Qi aB r cn hB h5 (A:=A) (Rd:=Rd) (hl:=hl) (chg:=chg) (pd:=pd) (by rw[aQ];exact hD) (fun c hc=>?_) cu ep aW h4 hK;split at hc
      ·rcases List.mem_cons.1 hc with rfl|hc
       ·exact .inl fun τ hτ=>Z5 (bO τ hτ)
       ·exact hp c hc
      ·exact hp c hc
     ·obtain⟨s',tb',h4,aQ,h5⟩:=h2 e;rw[if_neg av];exact Qi aB r cn hB h5 (by rw[aQ];exact hD) hp cu ep aW h4 hK
    split at h
    ·rename_i hg;cases hr:(Q20 o.op (gev [] s.env)&&Uv A o.kmin) with
     |true =>rw[hr] at h;rw[Bool.and_eq_true] at hr;exact ro hr.2 (fun u hu _=>V7 hG Gds.nil hr.1 hu) h
     |false =>
     rw[hr] at h;simp only[_root_.cond_false] at h;cases hb:(Nat.ble chg o.kmin||M_ A o.kmin (Kc o.op (gev [] s.env) s.own)) with
     |false=>rw[hb] at h;exact h.elim
     |true =>rw[hb] at h;exact rd _ (fun q hq=>hq) hb h
    ·rename_i j want hg;cases hr:(EI s j want o.op&&Uv A o.kmin) with
     |true =>
      rw[hr] at h;rw[Bool.and_eq_true] at hr;obtain⟨hr,jW⟩:=hr;refine ro jW (fun u hu hw=>?_) h;unfold EI at hr;split at hr
      ·rename_i gs s1 dC;obtain⟨tb',bn,cQ,b,cZ,bC,cj⟩:=Jw hG dC;rw[hg,cZ] at hw;have e:=osj hw;exact V7 bn (fun g hg=>⟨bC e g hg,cQ g hg⟩) hr hu
      ·cases hr
     |false =>
     rw[hr] at h;simp only[_root_.cond_false] at h;cases hb:Nat.ble chg o.kmin with
     |false=>rw[hb] at h;exact h.elim
     |true =>rw[hb] at h;exact rd none (fun q hq=>by cases hq) (by rw[hb];rfl) h
   ·rw[if_neg a9] at h;obtain⟨b,hw,h1,h2⟩:=Yi hG h;rw[hw];refine⟨fun e=>?_,fun e=>?_⟩
    ·obtain⟨u,s',tb',h3,h4,aQ,h5⟩:=h1 e;rw[if_neg av,if_neg a9,h3];exact Qi aB r cn hB h5 (by rw[aQ];exact hD) hp cu ep aW h4 hK
    ·obtain⟨s',tb',h4,aQ,h5⟩:=h2 e;rw[if_neg av];exact Qi aB r cn hB h5 (by rw[aQ];exact hD) hp cu ep aW h4 hK
def Vm (pl:Nat→Value) (mp:List (Nat×Option Nat)):Nat→Value:=fun t=>match Qd mp t with
 |some (some a)=>pl a
 |_=>.slice none 0 0
theorem PA {h:Heap}{k k':Kind}{x:k.T}{y:k'.T}(e:VA x y) {cs:List Value}(hk:KC h k' y cs):KC h k x cs:=by
 unfold VA at e;split at e
 ·rename_i z hz;obtain rfl:=BX hz;obtain rfl:=H4 hz;subst e;exact hk
 ·exact e.elim
mutual
theorem Y4 {B:Heap}{pl:Nat→Value}{tb:Nat→Option Bool}{mp:List (Nat×Option Nat)}:∀ (p a:SV) (v:Value),Gy mp p a→SR P B pl tb a v→SR P B (Vm pl mp) Zr p v
 |.any,a,v,_,_=>trivial
 |.val k x,a,v,h,hs=>by
  simp only[Gy] at h;split at h
  ·simp only[SR] at hs ⊢;exact PA h hs
  ·simp only[SR] at hs ⊢;exact PA h (by simp[KC,hs.1])
  ·split at h
   ·subst h;simp only[SR] at hs ⊢;subst hs;exact⟨_,rfl,.inl ⟨rfl,rfl⟩⟩
   ·exact h.elim
  ·exact h.elim
 |.lst t,a,v,h,hs=>by
  simp only[Gy] at h;split at h
  ·split at h
   ·rename_i e;simp only[SR,Vm,e] at hs ⊢;exact hs
   ·exact h.elim
  ·split at h
   ·rename_i e;simp only[SR,Vm,e] at hs ⊢;exact⟨hs,_,_,_,hs⟩
   ·exact h.elim
  ·exact h.elim
 |.box t off,a,v,h,hs=>by
  simp only[Gy] at h;split at h
  ·split at h
   ·rename_i e;obtain⟨e,rfl⟩:=e;simp only[SR,Vm,e] at hs ⊢;exact hs
   ·exact h.elim
  ·exact h.elim
 |.map t,a,v,h,hs=>by
  simp only[Gy] at h;split at h
  ·split at h
   ·rename_i e;simp only[SR,Vm,e] at hs ⊢;exact hs
   ·exact h.elim
  ·exact h.elim
 |.dd t w,a,v,h,hs=>by
  simp only[Gy] at h;split at h
  ·split at h
   ·simp only[SR] at hs ⊢;simp only[DR];exact .inl ⟨h,hs⟩
   ·split at h
    ·rename_i e;obtain⟨e,rfl⟩:=e;simp only[SR,DR,Vm,e] at hs ⊢;obtain⟨b,h1,h2⟩:=hs;exact .inr ⟨h,b,by rw[h1];rfl,h2⟩
    ·exact h.elim
   ·split at h
    ·split at h
     ·rename_i e;subst h;simp only[SR,DR,Vm,e] at hs ⊢;exact hs
     ·exact h.elim
    ·exact h.elim
   ·exact h.elim
  ·split at h
   ·split at h
    ·split at h
     ·rename_i e;simp only[SR,Vm,e] at hs ⊢;exact hs
     ·exact h.elim
    ·exact h.elim
   ·exact h.elim
  ·split at h
   ·split at h
    ·split at h
     ·rename_i e;simp only[SR,Vm,e] at hs ⊢;exact hs
     ·exact h.elim
    ·exact h.elim
   ·split at h
    ·rename_i e;simp only[SR,Vm,e] at hs ⊢;exact⟨hs,_,_,_,hs⟩
    ·exact h.elim
   ·exact h.elim
  ·exact h.elim
 |.agg l,a,v,h,hs=>by
  simp only[Gy] at h;split at h
  ·rename_i l';simp only[SR] at hs ⊢;obtain⟨cs,h1,h2⟩:=hs;exact⟨cs,h1,Q_ l l' cs h h2⟩
  ·exact h.elim
 |.tup l,a,v,h,hs=>by
  simp only[Gy] at h;split at h
  ·rename_i l';simp only[SR] at hs ⊢;obtain⟨cs,h1,h2⟩:=hs;exact⟨cs,h1,Q_ l l' cs h h2⟩
  ·exact h.elim
 |.fn f x y,a,v,h,hs=>by
  simp only[Gy] at h;split at h
  ·split at h
   ·rename_i e;subst e;simp only[SR] at hs ⊢;obtain⟨cs,ds,h1,h2,h3⟩:=hs;exact⟨cs,ds,h1,Q_ x _ cs h.1 h2,Q_ y _ ds h.2 h3⟩
   ·exact h.elim
  ·exact h.elim
 |.nilS,a,v,h,hs=>by
  simp only[Gy] at h;split at h
  ·simp only[SR] at hs ⊢;exact hs
  ·exact h.elim
 |.nilP,a,v,h,hs=>by
  simp only[Gy] at h;split at h
  ·simp only[SR] at hs ⊢;exact hs
  ·exact h.elim
 |.nilM,a,v,h,hs=>by
  simp only[Gy] at h;split at h
  ·simp only[SR] at hs ⊢;exact hs
  ·exact h.elim
 |.nilF,a,v,h,hs=>by
  simp only[Gy] at h;split at h
  ·simp only[SR] at hs ⊢;exact hs
  ·exact h.elim
 |.cp l off,a,v,h,hs=>by
  simp only[Gy] at h;cases ru:SVs.pure l with
  |true =>rw[ru] at h;simp only[_root_.cond_true] at h;obtain⟨rfl,_⟩:=h;simp only[SR] at hs ⊢;obtain⟨b,c,e,wr,t,h1,h2,h3⟩:=hs;exact⟨b,c,e,wr,t,h1,h2,QV l c ru h3⟩
  |false =>
   rw[ru] at h;simp only[_root_.cond_false] at h;split at h
   ·split at h
    ·rename_i l' dB he;subst he;simp only[SR] at hs ⊢;obtain⟨b,c,e,wr,t,h1,h2,h3⟩:=hs;exact⟨b,c,e,wr,t,h1,h2,Q_ l l' c h h3⟩
    ·exact h.elim
   ·exact h.elim
 |.pf ks r cH p,a,v,h,hs=>by simp only[Gy] at h;subst h;simp only[SR] at hs ⊢;exact hs
 |.sub t lo n sz,a,v,h,hs=>by
  simp only[Gy] at h;split at h
  ·split at h
   ·rename_i e;obtain⟨rfl,rfl,rfl⟩:=h;simp only[SR,Vm,e] at hs ⊢;exact hs
   ·exact h.elim
  ·exact h.elim
 |.elp _ _ _ _,_,_,h,_|.grd _ _,_,_,h,_|.bid _ _,_,_,h,_|.rop _ _ _ _,_,_,h,_=>by simp only[Gy] at h
theorem Q_ {B:Heap}{pl:Nat→Value}{tb:Nat→Option Bool}{mp:List (Nat×Option Nat)}:∀ (p a:List SV) (v:List Value),Vq mp p a→SRs P B pl tb a v→SRs P B (Vm pl mp) Zr p v
 |[],a,v,h,hs=>by simp only[Vq] at h;subst h;exact hs
 |s::ss,[],v,h,hs=>by simp only[Vq] at h
 |s::ss,a::bQ,v,h,hs=>by simp only[Vq] at h;simp only[SRs] at hs ⊢;obtain⟨x,y,h1,h2,h3⟩:=hs;exact⟨x,y,h1,Y4 s a x h.1 h2,Q_ ss bQ y h.2 h3⟩
theorem Hc {B:Heap}{pl pl':Nat→Value}{tb tb':Nat→Option Bool}:∀ (s:SV) (v:Value),s.pure=true→SR P B pl tb s v→SR P B pl' tb' s v
 |.any,v,_,_=>trivial
 |.val k x,v,_,h=>by simp only[SR] at h ⊢;exact h
 |.nilS,v,_,h|.nilP,v,_,h|.nilM,v,_,h|.nilF,v,_,h=>by simp only[SR] at h ⊢;exact h
 |.rop k l i off,v,_,h=>by simp only[SR] at h ⊢;exact h
 |.pf ks r cH p,v,_,h=>by simp only[SR] at h ⊢;exact h
 |.agg l,v,hp,h=>by simp only[SR] at h ⊢;obtain⟨cs,h1,h2⟩:=h;exact⟨cs,h1,QV l cs hp h2⟩
 |.tup l,v,hp,h=>by simp only[SR] at h ⊢;obtain⟨cs,h1,h2⟩:=h;exact⟨cs,h1,QV l cs hp h2⟩
 |.cp l off,v,hp,h=>by simp only[SR] at h ⊢;obtain⟨b,c,e,wr,t,h1,h2,h3⟩:=h;exact⟨b,c,e,wr,t,h1,h2,QV l c hp h3⟩
 |.fn f a b,v,hp,h=>by simp only[SV.pure,Bool.and_eq_true] at hp;simp only[SR] at h ⊢;obtain⟨x,y,h1,h2,h3⟩:=h;exact⟨x,y,h1,QV a x hp.1 h2,QV b y hp.2 h3⟩
 |.lst _,_,h,_|.sub _ _ _ _,_,h,_|.elp _ _ _ _,_,h,_|.box _ _,_,h,_|.map _,_,h,_|.grd _ _,_,h,_|.bid _ _,_,h,_=>by cases h
theorem QV {B:Heap}{pl pl':Nat→Value}{tb tb':Nat→Option Bool}:∀ (s:List SV) (v:List Value),SVs.pure s=true→SRs P B pl tb s v→SRs P B pl' tb' s v
 |[],v,_,h=>by simp only[SRs] at h ⊢;exact h
 |s::ss,v,hp,h=>by simp only[SVs.pure,Bool.and_eq_true] at hp;simp only[SRs] at h ⊢;obtain⟨x,y,h1,h2,h3⟩:=h;exact⟨x,y,h1,Hc s x hp.1 h2,QV ss y hp.2 h3⟩
end
end
end Go.V
namespace Go.V
open Go
section
variable {P:Program}{B F:Heap}{pl:Nat→Value}{tb:Nat→Option Bool}{s:St}{env:Env}{σ:Heap}
theorem Yw {k k':Kind}{xs:List k.T}{ys:List k'.T}(h:VA (k:=.list k) xs (k':=.list k') ys):∃ e:k'=k,e▸ys=xs:=by
 unfold VA at h;split at h
 ·rename_i z hz;have e:=BX hz;obtain rfl:=Kind.list.inj e;obtain rfl:=H4 hz;exact⟨rfl,h⟩
 ·exact h.elim
theorem QC (hG:Gam P B F pl tb s env σ) {mp:List (Nat×Option Nat)}{t:Nat}{b:OB}(h:I8 s mp t b) :
  OR P B (Vm pl mp) Zr σ (Vm pl mp t) b∧(b.live=true→∀ i,Oid (Vm pl mp t) i→∃ a,Qd mp t=some (some a)∧(Q6 s.own a).live=true∧Oid (pl a) i):=by
 unfold I8 at h;split at h
 ·rename_i a ha;have aZ:Vm pl mp t=pl a:=by simp[Vm,ha]
  rw[aZ];have ak:=hG.obj a;split at h
  ·exact⟨trivial,fun h=>by cases h⟩
  ·rename_i ty k xs nl iZ k' cI lT ho;split at h
   ·rename_i e;subst e;obtain⟨h1,rfl⟩:=h;obtain⟨rfl,rfl⟩:=Yw h1;rw[ho] at ak;exact⟨ak,fun _ i hi=>⟨a,ha,by rw[ho];rfl,hi⟩⟩
   ·exact h.elim
  ·rename_i l u l' u' ho;split at h
   ·rename_i e0;subst e0;rw[ho] at ak;obtain⟨i,c,e,t',h1,h2,h3,h4⟩:=ak;exact⟨⟨i,c,e,t',h1,h2,Q_ l l' c h h3,h4⟩,fun _ i hi=>⟨a,ha,by rw[ho];rfl,hi⟩⟩
   ·exact h.elim
  ·rename_i kk vk m jV lU m' ho;split at h
   ·obtain⟨e,h1⟩:=Yw h;obtain⟨rfl,rfl⟩:=Kind.pair.inj e;subst h1;rw[ho] at ak;exact⟨ak,fun _ i hi=>⟨a,ha,by rw[ho];rfl,hi⟩⟩
   ·exact h.elim
  ·rename_i l vals l' kI ho;rw[ho] at ak;obtain⟨rfl,h⟩:=h;exact⟨Q_ l l' vals h ak,fun h=>by cases h⟩
  ·rename_i l q u l' q' u' ho;rw[ho] at ak;split at h
   ·obtain⟨rfl,h⟩:=h;exact⟨⟨ak.1,Q_ l l' q.vals h ak.2.1,ak.2.2⟩,fun _ i hi=>⟨a,ha,by rw[ho];rfl,hi⟩⟩
   ·obtain⟨rfl,h⟩:=h;exact⟨⟨ak.1,Q_ l l' q.vals h ak.2.1,ak.2.2⟩,fun h=>by cases h⟩
   ·exact h.elim
  ·rename_i kk vk m dn jV lU m' tj ho;split at h
   ·obtain⟨h,rfl⟩:=h;obtain⟨e,h1⟩:=Yw h;obtain⟨rfl,rfl⟩:=Kind.pair.inj e;subst h1;rw[ho] at ak;exact⟨ak,fun _ i hi=>⟨a,ha,by rw[ho];rfl,hi⟩⟩
   ·exact h.elim
  ·rename_i ty q k xs nl h0 iZ q' k' cI lT sZ ho;split at h
   ·rename_i e;obtain⟨rfl,rfl⟩:=e;split at h
    ·obtain⟨h1,rfl⟩:=h;obtain⟨rfl,rfl⟩:=Yw h1;rw[ho] at ak;exact⟨ak,fun _ i hi=>⟨a,ha,by rw[ho];rfl,hi⟩⟩
    ·exact h.elim
   ·exact h.elim
  ·exact h.elim
 ·rename_i ha;have aZ:Vm pl mp t=.slice none 0 0:=by simp[Vm,ha]
  rw[aZ];split at h
  ·exact⟨.inl ⟨h.2,h.1,rfl⟩,fun _ i hi=>by cases hi⟩
  ·split at h
   ·obtain⟨rfl,rfl⟩:=h;refine⟨⟨[],fun i=>⟨fun h=>(by cases h),fun ⟨b,h⟩=>(by cases h)⟩,List.nodup_nil,.inl ⟨rfl,rfl,rfl⟩,fun i=>⟨fun ⟨b,h⟩=>(by cases h),fun h=>(by cases h)⟩,(fun i b h=>by cases h),by simp[phd]⟩,fun _ i hi=>by cases hi⟩
   ·exact h.elim
  ·exact h.elim
 ·exact h.elim
theorem Ww {α:Type _}(l:List (Nat×α)) (t:Nat) (x:α) (d:Nat):Qd (l++[(t,x)]) d=match Qd l d with|some y=>some y|none=>if t=d then some x else none:=by
 induction l with
 |nil =>
  simp only[List.nil_append,Qd];by_cases h:t=d
  ·subst h;simp
  ·rw[QS h];simp[h]
 |cons p l ih =>obtain⟨k,y⟩:=p;simp only[List.cons_append,Qd,ih];cases Nat.beq k d<;>rfl
theorem TI {α:Type _}{l:List (Nat×α)}{d:Nat}{x:α}(h:Qd l d=some x):∃ p∈l,p.1=d∧p.2=x:=by
 induction l with
 |nil=>cases h
 |cons p l ih =>
  obtain⟨k,y⟩:=p;simp only[Qd] at h;cases hb:Nat.beq k d with
  |true=>rw[hb] at h;obtain rfl:=osj h;exact⟨_,List.mem_cons_self,Nat.eq_of_beq_eq_true hb,rfl⟩
  |false =>rw[hb] at h;obtain⟨p,h1,h2⟩:=ih h;exact⟨p,List.mem_cons_of_mem _ h1,h2⟩
def Inj (mp:List (Nat×Option Nat)):Prop:=∀ t t' a,Qd mp t=some (some a)→Qd mp t'=some (some a)→t=t'
theorem ME:∀ (l:List (Nat×Src)) (mp b_:List (Nat×Option Nat)),Q2p s l mp=some b_→Inj mp→Inj b_
 |[],mp,b_,h,hi=>by obtain rfl:=osj h;exact hi
 |(t,src)::r,mp,b_,h,hi=>by
  simp only[Q2p] at h;split at h
  ·rename_i a _;split at h
   ·cases h
   ·rename_i hc;refine ME r _ _ h ?_;have cA:∀ d,Qd mp d≠some (some a):=fun d hd=>by
     obtain⟨p,h1,h2,h3⟩:=TI hd;apply hc;simp only[Bool.or_eq_true];exact .inl (List.any_eq_true.2 ⟨p,h1,by rw[h3];simp⟩)
    intro t1 t2 a' h1 h2;rw[Ww] at h1 h2;split at h1
    ·rename_i y1 e1;split at h2
     ·rename_i y2 e2;obtain rfl:=osj h1;obtain rfl:=osj h2;exact hi t1 t2 a' e1 e2
     ·split at h2
      ·obtain rfl:=osj (osj h2);obtain rfl:=osj h1;exact absurd e1 (cA t1)
      ·cases h2
    ·split at h1
     ·rename_i e1;obtain rfl:=osj (osj h1);split at h2
      ·rename_i y2 e2;obtain rfl:=osj h2;exact absurd e2 (cA t2)
      ·split at h2
       ·rename_i e2;omega
       ·cases h2
     ·cases h1
  ·split at h
   ·cases h
   ·refine ME r _ _ h ?_;intro t1 t2 a' h1 h2;rw[Ww] at h1 h2;split at h1
    ·rename_i y1 e1;split at h2
     ·rename_i y2 e2;obtain rfl:=osj h1;obtain rfl:=osj h2;exact hi t1 t2 a' e1 e2
     ·split at h2<;>cases h2
    ·split at h1<;>cases h1
  ·cases h
theorem Pp {mp:List (Nat×Option Nat)}:∀ {ow:List (Nat×Src×OB)},gmatch.obs s mp ow→∀ p∈ow,I8 s mp p.1 p.2.2
 |[],_,p,hp=>by cases hp
 |(t,src,b)::r,h,p,hp=>by
  simp only[gmatch.obs] at h;rcases List.mem_cons.1 hp with rfl|hp
  ·exact h.1
  ·exact Pp h.2 p hp
theorem Y0 {f:List (Nat×Src×OB)}:∀ (own:Own) (t:Nat),(∃ p∈f,p.1=t∧Q6 (f.foldl (fun o p=>oset o p.1 p.2.2) own) t=p.2.2)∨Q6 (f.foldl (fun o p=>oset o p.1 p.2.2) own) t=Q6 own t:=by
 induction f with
 |nil=>intro own t;exact .inr rfl
 |cons p f ih =>
  intro own t;simp only[List.foldl_cons];rcases ih (oset own p.1 p.2.2) t with⟨q,h1,h2⟩|h
  ·exact .inl ⟨q,List.mem_cons_of_mem _ h1,h2⟩
  ·rw[h,Qb];by_cases e:t=p.1
   ·rw[if_pos e];exact .inl ⟨p,List.mem_cons_self,e.symm,rfl⟩
   ·rw[if_neg e];exact .inr rfl
theorem MW (hG:Gam P B F pl tb s env σ) {mp:List (Nat×Option Nat)}:∀ (st:List (Nat×SV)) {e:List SV}{eV:Env},gmatch.slots s mp st→SRs P B (Vm pl mp) Zr e eV→SRs P B (Vm pl mp) Zr (st.foldl (fun e p=>e.set p.1 p.2) e) (Jm (st.map (·.1)) (Mw (st.map (·.1)) env) eV)
 |[],e,eV,_,h=>h
 |(j,v)::r,e,eV,hs,h=>by simp only[gmatch.slots] at hs;simp only[List.foldl_cons,List.map_cons,Mw,Jm];exact MW hG r hs.2 (h.set j (Y4 v _ _ hs.1 (hG.env.getD j poison)))
theorem Ae {B:Heap}{pl:Nat→Value}{tb:Nat→Option Bool}:∀ n,SRs P B pl tb (List.replicate n .any) (List.replicate n poison)
 |0=>by simp[SRs]
 |n+1=>by simp only[List.replicate_succ,SRs];exact⟨_,_,rfl,by simp[SR],Ae n⟩
theorem NU {B0 F0 D0:Heap}(hR:GRel P B0 F0 D0 s env σ) {st:List (Nat×SV)}{ow:List (Nat×Src×OB)}(h:gmatch s st ow) (len:Nat):GRel P B0 F0 D0 (QK len st ow) (Jm (st.map (·.1)) (Mw (st.map (·.1)) env) (List.replicate len poison)) σ:=by
 obtain⟨B,F,pl,tb,hB,hG⟩:=hR;unfold gmatch at h;split at h
 ·rename_i mp oR;obtain⟨h1,h2⟩:=h;have eT:=ME _ _ _ oR (fun t t' a h=>by cases h);have aO:=Pp h2;have ak:∀ t,(Q6 (QK len st ow).own t).live=true→I8 s mp t (Q6 (QK len st ow).own t):=fun t hl=>by
   rcases Y0 (f:=ow) [] t with⟨p,h3,h4,h5⟩|h3
   ·have:=aO p h3;rw[h4,←h5] at this;exact this
   ·simp only[QK] at hl;rw[h3] at hl;cases hl
  refine⟨B,F,Vm pl mp,Zr,hB,hG.bf,hG.le,MW hG st h1 (Ae len),fun t=>?_,fun t i hl hi=>?_,fun t t' i aF hl bN hi bU=>?_,fun _ _=>rfl⟩
  ·cases hl:(Q6 (QK len st ow).own t).live with
   |true=>exact(QC hG (ak t hl)).1
   |false =>
    cases ho:Q6 (QK len st ow).own t with
    |dead=>trivial
    |stk l vals =>
     rcases Y0 (f:=ow) [] t with⟨p,h3,h4,h5⟩|h3
     ·have:=aO p h3;simp only[QK] at ho;rw[←h5,ho] at this;have h6:=(QC hG this).1;rw[h4] at h6;exact h6
     ·simp only[QK] at ho;rw[h3] at ho;cases ho
    |lpf l q u =>
     rcases Y0 (f:=ow) [] t with⟨p,h3,h4,h5⟩|h3
     ·have:=aO p h3;simp only[QK] at ho;rw[←h5,ho] at this;have h6:=(QC hG this).1;rw[h4] at h6;exact h6
     ·simp only[QK] at ho;rw[h3] at ho;cases ho
    |_=>rw[ho] at hl;cases hl
  ·obtain⟨a,_,h4,h5⟩:=(QC hG (ak t hl)).2 hl i hi;exact hG.fresh a i h4 h5
  ·obtain⟨a,e1,h4,h5⟩:=(QC hG (ak t hl)).2 hl i hi;obtain⟨a',e2,ig,rv⟩:=(QC hG (ak t' bN)).2 bN i bU;by_cases e:a=a'
   ·subst e;exact aF (eT t t' a e1 e2)
   ·exact hG.sep a a' i e h4 ig h5 rv
 ·exact h.elim
theorem Nn:∀ {dA cK:List SV}{vs:List Value}{B F:Heap}{s s':St},Gam P B F pl tb s env σ→SRs P B pl tb dA vs→OS s dA=some (s',cK) →
  ∃ B' F',GBase B F σ B' F' σ∧Gam P B' F' pl tb s' env σ∧SRs P B' J3 Zr cK vs∧s'.env=s.env
 |[],cK,vs,B,F,s,s',hG,hs,h=>by simp only[OS,Option.some.injEq,Prod.mk.injEq] at h;obtain⟨rfl,rfl⟩:=h;exact⟨B,F,.of hG.bf (.refl _),hG,hs,rfl⟩
 |v::dA,cK,vs,B,F,s,s',hG,hs,h=>by
  simp only[SRs] at hs;obtain⟨u,us,rfl,h1,h2⟩:=hs
  have oS:∀ w:SV,SR P B pl tb w u→(bif w.pure then (match OS s dA with|some (s',r)=>some (s',w::r)|none=>none) else none)=some (s',cK) →
    ∃ B' F',GBase B F σ B' F' σ∧Gam P B' F' pl tb s' env σ∧SRs P B' J3 Zr cK (u::us)∧s'.env=s.env:=fun w hw h=>by
   cases hp:w.pure with
   |false=>rw[hp] at h;cases h
   |true =>
    rw[hp] at h;simp only[_root_.cond_true] at h;split at h
    ·rename_i s1 r heq;simp only[Option.some.injEq,Prod.mk.injEq] at h;obtain⟨rfl,rfl⟩:=h;obtain⟨B',F',k1,k2,k3,k4⟩:=Nn hG h2 heq;exact⟨B',F',k1,k2,by simp only[SRs];exact⟨u,us,rfl,SR.mono k1.b (fun _ _ h=>h) _ _ (Hc w u hp hw),k3⟩,k4⟩
    ·cases h
  simp only[OS] at h;split at h
  ·rename_i o;split at h
   ·rename_i l _ ho;cases hp:SVs.pure l with
    |false=>rw[hp] at h;cases h
    |true =>
     rw[hp] at h;simp only[_root_.cond_true] at h;split at h
     ·rename_i s1 r heq;simp only[Option.some.injEq,Prod.mk.injEq] at h;obtain⟨rfl,rfl⟩:=h;have ak:=hG.obj o;rw[ho] at ak;obtain⟨i,c,e,t,e1,e2,e3,_⟩:=ak;obtain⟨k1,k2⟩:=hG.freeze (o:=o) (i:=i) (by rw[ho];rfl) (by rw[e1];rfl);obtain⟨B',F',j1,j2,j3,j4⟩:=Nn k2 (SRs.mono k1.b (fun _ _ h=>h) _ _ h2) heq;refine⟨B',F',k1.trans j1,j2,?_,j4⟩;simp only[SRs];refine⟨u,us,rfl,?_,j3⟩;simp only[SR] at h1 ⊢;obtain⟨b,q1,q2⟩:=h1;rw[e1] at q1;obtain rfl:i=b:=by simpa using q1
      refine⟨i,c,e,true,t,j1.b.2 _ _ ?_,q2,SRs.mono (k1.trans j1).b (fun _ _ h=>h) _ _ (QV l c hp e3)⟩;rw[Heap.ins_self];exact e2
     ·cases h
   ·cases h
  ·exact oS _ h1 h
theorem Gam.lpUpd (hG:Gam P B F pl tb s env σ) {n:Nat}{b b0:Blk}(hF:F.get n=some b0) (hB:B.get n=none):Gam P B (F.upd n b) pl tb s env (σ.upd n b):=by
 have aF:∀ {d i},(Q6 s.own d).live=true→Oid (pl d) i→i≠n:=fun h1 h2 e=>by have:=hG.fresh _ _ h1 h2;subst e;rw[hF] at this;cases this
 refine⟨⟨hG.bf.1,fun i c hc=>?_⟩,⟨hG.le.1,fun i c hc=>?_⟩,hG.env,fun d=>(hG.obj d).mono (.refl _) (fun _ _ h=>h) fun h1 i h2=>Heap.get_upd_ne _ _ (aF h1 h2),fun d i h1 h2=>?_,hG.sep,hG.free⟩
 ·have:i≠n:=by rintro rfl;rw[hB] at hc;cases hc
  rw[Heap.get_upd_ne _ _ this];exact hG.bf.2 _ _ hc
 ·by_cases e:i=n
  ·subst e;rw[Heap.get_upd_self _ _ (F.lt hF)] at hc;rw[Heap.get_upd_self _ _ (Nat.lt_of_lt_of_le (F.lt hF) hG.le.1)];exact hc
  ·rw[Heap.get_upd_ne _ _ e] at hc ⊢;exact hG.le.2 _ _ hc
 ·rw[Heap.get_upd_ne _ _ (aF h1 h2)];exact hG.fresh _ _ h1 h2
theorem Gam.lpKill (hG:Gam P B F pl tb s env σ) {n:Nat}{b0:Blk}(hF:F.get n=some b0) (hB:B.get n=none):Gam P B (F.kill n) pl tb s env (σ.kill n):=by
 have aF:∀ {d i},(Q6 s.own d).live=true→Oid (pl d) i→i≠n:=fun h1 h2 e=>by have:=hG.fresh _ _ h1 h2;subst e;rw[hF] at this;cases this
 refine⟨⟨hG.bf.1,fun i c hc=>?_⟩,⟨hG.le.1,fun i c hc=>?_⟩,hG.env,fun d=>(hG.obj d).mono (.refl _) (fun _ _ h=>h) fun h1 i h2=>Heap.get_kill_ne _ (aF h1 h2),fun d i h1 h2=>?_,hG.sep,hG.free⟩
 ·have:i≠n:=by rintro rfl;rw[hB] at hc;cases hc
  rw[Heap.get_kill_ne _ this];exact hG.bf.2 _ _ hc
 ·by_cases e:i=n
  ·subst e;rw[Heap.get_kill_self] at hc;cases hc
  ·rw[Heap.get_kill_ne _ e] at hc ⊢;exact hG.le.2 _ _ hc
 ·rw[Heap.get_kill_ne _ (aF h1 h2)];exact hG.fresh _ _ h1 h2
theorem GRel.lpUpd {B1 F1 D0:Heap}(h:GRel P B1 F1 D0 s env σ) {n:Nat}{b b0:Blk}(hF:F1.get n=some b0) (hB:B1.get n=none):GRel P B1 (F1.upd n b) D0 s env (σ.upd n b):=by
 obtain⟨B,F,pl,tb,dF,hG⟩:=h;have oT:=dF.f.2 _ _ hF;have mg:=dF.x _ _ hF hB;refine⟨B,F.upd n b,pl,tb,⟨dF.b,⟨dF.f.1,fun i c hc=>?_⟩,fun i c h1 h2=>?_,⟨dF.d.1,fun i h1 h2=>?_⟩⟩,hG.lpUpd oT mg⟩
 ·by_cases e:i=n
  ·subst e;rw[Heap.get_upd_self _ _ (F1.lt hF)] at hc;rw[Heap.get_upd_self _ _ (F.lt oT)];exact hc
  ·rw[Heap.get_upd_ne _ _ e] at hc ⊢;exact dF.f.2 _ _ hc
 ·by_cases e:i=n
  ·subst e;exact mg
  ·rw[Heap.get_upd_ne _ _ e] at h1;exact dF.x _ _ h1 h2
 ·have hd:=dF.d.2 i h1 h2;have:i≠n:=by rintro rfl;rw[hG.le.2 _ _ oT] at hd;cases hd
  rw[Heap.get_upd_ne _ _ this];exact hd
theorem GRel.lpKill {B1 F1 D0:Heap}(h:GRel P B1 F1 D0 s env σ) {n:Nat}{b0:Blk}(hF:F1.get n=some b0) (hB:B1.get n=none):GRel P B1 (F1.kill n) D0 s env (σ.kill n):=by
 obtain⟨B,F,pl,tb,dF,hG⟩:=h;have oT:=dF.f.2 _ _ hF;have mg:=dF.x _ _ hF hB;refine⟨B,F.kill n,pl,tb,⟨dF.b,⟨dF.f.1,fun i c hc=>?_⟩,fun i c h1 h2=>?_,⟨dF.d.1,fun i h1 h2=>?_⟩⟩,hG.lpKill oT mg⟩
 ·by_cases e:i=n
  ·subst e;rw[Heap.get_kill_self] at hc;cases hc
  ·rw[Heap.get_kill_ne _ e] at hc ⊢;exact dF.f.2 _ _ hc
 ·by_cases e:i=n
  ·subst e;exact mg
  ·rw[Heap.get_kill_ne _ e] at h1;exact dF.x _ _ h1 h2
 ·have hd:=dF.d.2 i h1 h2;by_cases e:i=n
  ·subst e;exact Heap.get_kill_self _ _
  ·rw[Heap.get_kill_ne _ e];exact hd
theorem GRel.base {B0 F0 B1 F1 D0:Heap}(h:GRel P B1 F1 D0 s env σ) (hb:B0.Le B1) (hf:F0.Le F1) (hx:∀ i b,F0.get i=some b→B0.get i=none→B1.get i=none):GRel P B0 F0 D0 s env σ:=by obtain⟨B,F,pl,tb,dF,hG⟩:=h;exact⟨B,F,pl,tb,⟨hb.trans dF.b,hf.trans dF.f,fun i b h1 h2=>dF.x i b (hf.2 _ _ h1) (hx i b h1 h2),dF.d⟩,hG⟩
theorem NT (hG:Gam P B F pl tb s env σ) {mp:List (Nat×Option Nat)}:∀ (st:List (Nat×SV)) {e:List SV},gmatch.slots s mp st→SRs P B (Vm pl mp) Zr e env→SRs P B (Vm pl mp) Zr (st.foldl (fun e p=>e.set p.1 p.2) e) env
 |[],e,_,h=>h
 |(j,v)::r,e,hs,h=>by
  simp only[gmatch.slots] at hs;simp only[List.foldl_cons];refine NT hG r hs.2 ?_;have:=h.set j (Y4 v _ _ hs.1 (hG.env.getD j poison));by_cases hj:j<env.length
  ·rwa [List.getD_eq_getElem?_getD,List.getElem?_eq_getElem hj,Option.getD_some,List.set_getElem_self] at this
  ·rw[List.set_eq_of_length_le (by rw[h.length];omega)];exact h
theorem So {B:Heap}{pl:Nat→Value}{tb:Nat→Option Bool}:∀ (env:Env),SRs P B pl tb (List.replicate (List.length env) .any) env
 |[]=>by simp[SRs]
 |v::env=>by simp only[List.length_cons,List.replicate_succ,SRs];exact⟨_,_,rfl,by simp[SR],So env⟩
theorem YE {B0 F0 D0:Heap}(hR:GRel P B0 F0 D0 s env σ) {st:List (Nat×SV)}{ow:List (Nat×Src×OB)}(h:gmatch s st ow):GRel P B0 F0 D0 (QK (List.length env) st ow) env σ:=by
 obtain⟨B,F,pl,tb,hB,hG⟩:=hR;unfold gmatch at h;split at h
 ·rename_i mp oR;obtain⟨h1,h2⟩:=h;have eT:=ME _ _ _ oR (fun t t' a h=>by cases h);have aO:=Pp h2;have ak:∀ t,(Q6 (QK (List.length env) st ow).own t).live=true→I8 s mp t (Q6 (QK (List.length env) st ow).own t):=fun t hl=>by
   rcases Y0 (f:=ow) [] t with⟨p,h3,h4,h5⟩|h3
   ·have:=aO p h3;rw[h4,←h5] at this;exact this
   ·simp only[QK] at hl;rw[h3] at hl;cases hl
  refine⟨B,F,Vm pl mp,Zr,hB,hG.bf,hG.le,NT hG st h1 (So env),fun t=>?_,fun t i hl hi=>?_,fun t t' i aF hl bN hi bU=>?_,fun _ _=>rfl⟩
  ·cases hl:(Q6 (QK (List.length env) st ow).own t).live with
   |true=>exact(QC hG (ak t hl)).1
   |false =>
    cases ho:Q6 (QK (List.length env) st ow).own t with
    |dead=>trivial
    |stk l vals =>
     rcases Y0 (f:=ow) [] t with⟨p,h3,h4,h5⟩|h3
     ·have:=aO p h3;simp only[QK] at ho;rw[←h5,ho] at this;have h6:=(QC hG this).1;rw[h4] at h6;exact h6
     ·simp only[QK] at ho;rw[h3] at ho;cases ho
    |lpf l q u =>
     rcases Y0 (f:=ow) [] t with⟨p,h3,h4,h5⟩|h3
     ·have:=aO p h3;simp only[QK] at ho;rw[←h5,ho] at this;have h6:=(QC hG this).1;rw[h4] at h6;exact h6
     ·simp only[QK] at ho;rw[h3] at ho;cases ho
    |_=>rw[ho] at hl;cases hl
  ·obtain⟨a,_,h4,h5⟩:=(QC hG (ak t hl)).2 hl i hi;exact hG.fresh a i h4 h5
  ·obtain⟨a,e1,h4,h5⟩:=(QC hG (ak t hl)).2 hl i hi;obtain⟨a',e2,ig,rv⟩:=(QC hG (ak t' bN)).2 bN i bU;by_cases e:a=a'
   ·subst e;exact aF (eT t t' a e1 e2)
   ·exact hG.sep a a' i e h4 ig h5 rv
 ·exact h.elim
theorem H_ {α:Type}{o:Option α}{f:α→Prop}(h:QI o f):∃ a,f a:=by
 cases o with
 |none=>exact h.elim
 |some a=>exact⟨a,h⟩
theorem COk.nx {C:Cx}(h:COk P C):COk P C.nx:=⟨h.cs,fun f x hx=>(by cases hx),h.it,h.yl,h.iy,fun f j _ x hx=>(by cases hx)⟩
theorem JX {S:VSpecs}{Q:Prop}:∀ {ops:List DOper}{env:Env}{hs:List Heap}{σ:Heap}{pend:List (Nat×(Heap→Prop))},Zj S ops env hs σ pend (fun _ _=>Q)→Q
 |[],_,_,_,_,h=>h
 |o::r,env,hs,σ,pend,h=>by
  simp only[Zj] at h;obtain⟨b,h⟩:=H_ h;cases b with
  |true =>
   have h:=h.1 rfl;split at h
   ·obtain⟨v,σ',_,_,h⟩:=h;exact JX h
   ·split at h
    ·obtain⟨p,_,h⟩:=H_ h;exact JX h
    ·obtain⟨p,h⟩:=H_ h;exact JX h
  |false =>
   have h:=h.2 rfl;split at h
   ·exact JX h.2
   ·exact JX h
theorem GC {C:Cx}{s:St}{st:List (Nat×SV)}{ow:List (Nat×Src×OB)}{Q:Prop}:∀ (ls:List (List DOper)),Q0x C ls s st ow Q→(∀ l∈ls,Je C.nx l s 1 0 [] [] fun s'=>NC s.env.length s' st ow)∧Q
 |[],h=>⟨fun l hl=>(by cases hl),h⟩
 |l::ls,h=>by obtain⟨h1,h2⟩:=h;obtain⟨h3,h4⟩:=GC ls h2;exact⟨fun l' bN=>(List.mem_cons.1 bN).elim (fun e=>e▸h1) (h3 l'),h4⟩
theorem Ym {B0 F0 D0:Heap}{s:St}{env:Env}{σ:Heap}{n:Nat}(hR:GRel P B0 F0 D0 s env σ) {st:List (Nat×SV)}{ow:List (Nat×Src×OB)}(h:NC n s st ow):GRel P B0 F0 D0 (QK n st ow) env σ:=by
 unfold NC at h;cases hb:Nat.beq s.env.length n with
 |false=>rw[hb] at h;exact h.elim
 |true =>
  rw[hb] at h;have hl:env.length=n:=by rw[←Nat.eq_of_beq_eq_true hb];obtain⟨_,_,_,_,_,hG⟩:=hR;exact hG.env.length.symm
  rw[←hl];exact YE hR h
theorem X0 {C:Cx}(aB:COk P C) {B0 F0 D0:Heap}:∀ (aS:List DSeg) {s:St}{env:Env}{σ:Heap},GRel P B0 F0 D0 s env σ→∀ {K:St→Prop},P5 C aS s K→∀ {R:Env→Heap→Prop},(∀ s' ai σ',K s'→GRel P B0 F0 D0 s' ai σ'→R ai σ')→Vv (Q2 P) aS env σ R
 |[],s,env,σ,hR,K,h,R,hK=>hK s env σ h hR
 |.one o::r,s,env,σ,hR,K,h,R,hK=>by refine V5 aB [o] hR (K:=fun s'=>P5 C r s' K) h fun s' ai σ' h1 h2=>?_;exact X0 aB r h2 h1 hK
 |.alts [l]::r,s,env,σ,hR,K,h,R,hK=>by
  simp only[P5] at h;cases hd:IK l with
  |false =>
   rw[hd] at h;simp only[_root_.cond_false] at h;cases hk:l.all (fun o=>o.kind==o.op.kind) with
   |false=>rw[hk] at h;exact h.elim
   |true =>
    rw[hk] at h;simp only[_root_.cond_true] at h;intro ops ho;obtain rfl:=List.mem_singleton.1 ho;obtain⟨B,F,pl,tb,hB,hG⟩:=hR;have one:∀ (j:Nat) (τ:Heap),([σ]:List Heap)[j]?=some τ→τ=σ:=fun j τ ht=>by
     cases j with
     |zero=>simpa using ht.symm
     |succ j=>simp at ht
    exact Qi aB ops (fun o ho=>by simpa using List.all_eq_true.1 hk o ho) hB hG (hl:=1) (chg:=0) (A:=[]) (Rd:=[]) ⟨rfl,fun j τ _ ht=>one j τ ht,(fun c hc=>absurd hc (by simp)),fun j τ q i ht _ _ _=>by rw[one j τ ht]⟩ (pend:=[]) (pd:=[]) (fun c hc=>absurd hc (by simp)) (fun j τ ht _=>by rw[one j τ ht];exact hG.leB) (Nat.zero_le _) (Nat.succ_pos _) h fun s' ai σ' h1 h2=>⟨ai,σ',.refl _ _ _,X0 aB r h2 h1 hK⟩
  |true =>rw[hd] at h;refine E8 (l:=l) hd ?_;exact V5 aB _ hR h fun s' ai σ' h1 h2=>X0 aB r h2 h1 hK
 |.alts []::r,s,env,σ,hR,K,h,R,hK=>h.elim
 |.alts (l::l2::ls)::r,s,env,σ,hR,K,h,R,hK=>by
  simp only[P5] at h;cases hk:(l::l2::ls).all (fun l=>l.all fun o=>o.kind==o.op.kind) with
  |false=>rw[hk] at h;exact h.elim
  |true =>
   rw[hk] at h;simp only[_root_.cond_true] at h;obtain⟨B,F,pl,tb,hB,hG⟩:=hR;have one:∀ (j:Nat) (τ:Heap),([σ]:List Heap)[j]?=some τ→τ=σ:=fun j τ ht=>by
    cases j with
    |zero=>simpa using ht.symm
    |succ j=>simp at ht
   have run:∀ l'∈l::l2::ls,∀ {K':St→Prop},Je C.nx l' s 1 0 [] [] K'→∀ {R':Env→Heap→Prop},(∀ s' ai σ',K' s'→GRel P B0 F0 D0 s' ai σ'→R' ai σ')→Zj (Q2 P) l' env [σ] σ [] R':=fun l' bN K' h' R' rp =>
    Qh aB.nx rfl l' (fun o ho=>by simpa using List.all_eq_true.1 (List.all_eq_true.1 hk l' bN) o ho) hB hG (hl:=1) (chg:=0) (A:=[]) (Rd:=[]) ⟨rfl,fun j τ _ ht=>one j τ ht,(fun c hc=>absurd hc (by simp)),fun j τ q i ht _ _ _=>by rw[one j τ ht]⟩ (pend:=[]) (pd:=[]) (fun c hc=>absurd hc (by simp)) (fun j τ ht _=>by rw[one j τ ht];exact hG.leB) (Nat.zero_le _) (Nat.succ_pos _) h' rp
   obtain⟨s0,h0,h1⟩:=JX (run l List.mem_cons_self h (R':=fun _ _=>∃ s0:St,_) fun s' _ _ h' _=>⟨s',h'⟩);obtain⟨h2,h3⟩:=GC _ h1;intro ops ho;rcases List.mem_cons.1 ho with rfl|cC
   ·refine X2 ?_;exact run ops ho h fun s' ai σ' h' ry=>⟨ai,σ',.refl _ _ _,by
     obtain⟨k1,k2⟩:=h';exact X0 aB r (Ym ry k1) (GC _ k2).2 hK⟩
   ·refine X2 ?_;exact run ops ho (h2 ops cC) fun s' ai σ' h' ry=>⟨ai,σ',.refl _ _ _,X0 aB r (Ym ry h') h3 hK⟩
theorem GN:∀ (l:List Nat) (vs:List SV),(Q21 l vs).map (·.1)=l
 |[],_=>rfl
 |j::js,[]=>by simp[Q21,GN js []]
 |j::js,v::vs=>by simp[Q21,GN js vs]
theorem Ke {B:Heap}{pl:Nat→Value}{tb:Nat→Option Bool}:∀ {ps:List Nat}{xs:List SV}{us:List Value}{e:List SV}{env:Env},SRs P B pl tb xs us→SRs P B pl tb e env→SRs P B pl tb (U_ e ps xs) (Gx env ps us)
 |[],xs,us,e,env,_,h=>by simpa [U_,Gx] using h
 |p::ps,[],us,e,env,hx,h=>by simp only[SRs] at hx;subst hx;simpa [U_,Gx] using h
 |p::ps,x::xs,us,e,env,hx,h=>by simp only[SRs] at hx;obtain⟨u,lM,rfl,h1,h2⟩:=hx;simp only[U_,Gx];exact Ke h2 (h.set p h1)
def Q5v (F0:Heap):Option Nat→Prop
 |none=>True
 |some i=>∃ env r st pend,F0.get i=some (.obj (.lp env r st pend) true)
theorem Gam.dropLp {B F:Heap}{pl:Nat→Value}{tb:Nat→Option Bool}{s:St}{env:Env}{σ:Heap}(hG:Gam P B F pl tb s env σ) {o:Nat}{l:List SV}{q:LpD}{u:LpS}(ho:Q6 s.own o=.lpf l q u) (hl:u.live=true) :
  Gam P B F pl tb ⟨l,oset s.own o .dead,s.nx⟩ q.vals (σ.kill q.i)∧σ.get q.i=some (.obj (.lp q.vals q.r u.st u.pend) true):=by
 have ak:=hG.obj o;rw[ho] at ak;obtain⟨h1,h2,h3⟩:=ak;have jI:(Q6 s.own o).live=true:=by rw[ho];exact hl
 have jX:Oid (pl o) q.i:=by rw[h1];rfl
 have hF:=hG.fresh o q.i jI jX;have lv:∀ d,(Q6 (oset s.own o .dead) d).live=true→d≠o∧(Q6 s.own d).live=true:=fun d h=>by
  rw[Qb] at h;by_cases e:d=o
  ·rw[if_pos e] at h;cases h
  ·rw[if_neg e] at h;exact⟨e,h⟩
 refine⟨⟨hG.bf,⟨hG.le.1,fun j b hb=>?_⟩,h2,fun d=>?_,fun d i hd hi=>hG.fresh d i (lv d hd).2 hi,fun d d' i e h h'=>hG.sep d d' i e (lv d h).2 (lv d' h').2,hG.free⟩,h3 hl⟩
 ·have e:j≠q.i:=by rintro rfl;rw[hF] at hb;cases hb
  rw[Heap.get_kill_ne _ e];exact hG.le.2 _ _ hb
 ·rw[Qb];by_cases e:d=o
  ·rw[if_pos e];trivial
  ·rw[if_neg e];refine (hG.obj d).mono (.refl _) (fun _ _ h=>h) fun hd i hi=>?_;have:i≠q.i:=by rintro rfl;exact hG.sep d o q.i e hd jI hi jX
   exact Heap.get_kill_ne _ this
theorem Fg (s:St) (o:Nat) (b:OB) (j:Nat):Q6 (s.make o b).own j=if j=o then b else (Q6 s.own j).kill o:=by
 simp only[St.make,Qb];by_cases h:j=o
 ·subst h;simp
 ·simp only[h,if_false,St.kill,XX]
theorem Gam.enterLp {B F:Heap}{pl:Nat→Value}{tb:Nat→Option Bool}{s:St}{env:Env}{σ:Heap}(hG:Gam P B F pl tb s env σ) {o aK:Nat}{l:List SV}{q:LpD}(ho:Q6 s.own o=.lpf l q .rdy) (aF:o≠aK)
  {args:List SV}{us:List Value}(aC:SRs P B pl tb args us) (ps:List Nat) :
  Gam P B (F.ins σ q.i hG.le.1) (QO pl aK poison) tb ⟨U_ (SVs.kill aK l) ps (SVs.kill aK args),oset (R8 aK env s).own o (.lpf (SVs.kill aK l) q .busy),s.nx⟩ (Gx q.vals ps us) σ:=by
 have q3:Gam P B F (QO pl aK poison) tb (R8 aK env s) env σ:=by refine hG.make aK _ poison hG.le (fun _ _ _ _ _=>rfl) ?_ (fun i hl _=>by cases hl);exact SRs.upd (.refl _) (fun _ _ h=>h) (fun j hj=>by simp[QO,hj]) _ _ hG.env
 have ak:=hG.obj o;rw[ho] at ak;obtain⟨h1,h2,h3⟩:=ak;have jI:(Q6 s.own o).live=true:=by rw[ho];rfl
 have iz:QO pl aK poison o=.pointer (some ⟨q.i,0,none⟩):=by simp[QO,aF,h1]
 have wS:Q6 (R8 aK env s).own o=.lpf (SVs.kill aK l) q .rdy:=by have:=Fg s aK (.stk (SVs.kill aK s.env) env) o;unfold R8;rw[this,if_neg aF,ho];rfl
 have oU:(Q6 (R8 aK env s).own o).live=true:=by rw[wS];rfl
 have jX:Oid (QO pl aK poison o) q.i:=by rw[iz];rfl
 have hF:=q3.fresh o q.i oU jX;have cE:SRs P B (QO pl aK poison) tb (SVs.kill aK l) q.vals:=SRs.upd (.refl _) (fun _ _ h=>h) (fun j hj=>by simp[QO,hj]) _ _ h2;have wT:SRs P B (QO pl aK poison) tb (SVs.kill aK args) us:=SRs.upd (.refl _) (fun _ _ h=>h) (fun j hj=>by simp[QO,hj]) _ _ aC;have lv:∀ d,(Q6 (oset (R8 aK env s).own o (.lpf (SVs.kill aK l) q .busy)) d).live=true→d≠o∧(Q6 (R8 aK env s).own d).live=true:=fun d h=>by
  rw[Qb] at h;by_cases e:d=o
  ·rw[if_pos e] at h;cases h
  ·rw[if_neg e] at h;exact⟨e,h⟩
 refine⟨q3.bf.trans (hG.le.ins _),hG.le.ins_le _,Ke wT cE,fun d=>?_,fun d i hd hi=>?_,fun d d' i e h h'=>q3.sep d d' i e (lv d h).2 (lv d' h').2,q3.free⟩
 ·show OR P B _ tb σ _ (Q6 (oset _ o _) d);rw[Qb];by_cases e:d=o
  ·subst e;rw[if_pos rfl];exact⟨iz,cE,fun h=>by cases h⟩
  ·rw[if_neg e];exact q3.obj d
 ·obtain⟨e,tC⟩:=lv d hd;have:i≠q.i:=by rintro rfl;exact q3.sep d o q.i e tC oU hi jX
  rw[Heap.ins_ne _ _ _ this];exact q3.fresh d i tC hi
theorem Gam.leaveLp {B F:Heap}{pl:Nat→Value}{tb:Nat→Option Bool}{s:St}{env:Env}{σ:Heap}(hG:Gam P B F pl tb s env σ) {o aK:Nat}{l l2:List SV}{kJ:List Value}{q:LpD}{b0:Blk}(hF:F.get q.i=some b0) (hB:B.get q.i=none)
  (h2:Q6 s.own aK=.stk l2 kJ) (ho:Q6 s.own o=.lpf l q .busy) (u:LpS) :
  Gam P B (F.kill q.i) pl tb ⟨l2,oset (oset s.own aK .dead) o (.lpf l q u),s.nx⟩ kJ (σ.upd q.i (.obj (.lp q.vals q.r u.st u.pend) true)):=by
 have ak:=hG.obj o;rw[ho] at ak;obtain⟨k1,k2,_⟩:=ak;have hk:=hG.obj aK;rw[h2] at hk;have hi:q.i<σ.n:=σ.lt (hG.le.2 _ _ hF);have aF:∀ {d i},(Q6 s.own d).live=true→Oid (pl d) i→i≠q.i:=fun h1 h2 e=>by have:=hG.fresh _ _ h1 h2;subst e;rw[hF] at this;cases this
 have jX:∀ i,Oid (pl o) i→i=q.i:=fun i h=>by rw[k1] at h;exact(osj h).symm
 have hg:∀ d,Q6 (oset (oset s.own aK .dead) o (.lpf l q u)) d=if d=o then .lpf l q u else if d=aK then .dead else Q6 s.own d:=fun d=>by rw[Qb,Qb]
 have lv:∀ d,d≠o→(Q6 (oset (oset s.own aK .dead) o (.lpf l q u)) d).live=true→(Q6 s.own d).live=true:=fun d e h=>by
  rw[hg,if_neg e] at h;split at h
  ·cases h
  ·exact h
 refine⟨⟨hG.bf.1,fun j b hb=>?_⟩,⟨hG.le.1,fun j b hb=>?_⟩,hk,fun d=>?_,fun d i hd bU=>?_,fun d d' i e h h' h1 gh=>?_,hG.free⟩
 ·have e:j≠q.i:=by rintro rfl;rw[hB] at hb;cases hb
  rw[Heap.get_kill_ne _ e];exact hG.bf.2 _ _ hb
 ·by_cases e:j=q.i
  ·subst e;rw[Heap.get_kill_self] at hb;cases hb
  ·rw[Heap.get_kill_ne _ e] at hb;rw[Heap.get_upd_ne _ _ e];exact hG.le.2 _ _ hb
 ·show OR P B pl tb _ _ (Q6 (oset _ o _) d);rw[hg];by_cases e:d=o
  ·subst e;rw[if_pos rfl];exact⟨k1,k2,fun _=>Heap.get_upd_self _ _ hi⟩
  ·rw[if_neg e];split
   ·trivial
   ·exact(hG.obj d).mono (.refl _) (fun _ _ h=>h) fun hd i hi=>Heap.get_upd_ne _ _ (aF hd hi)
 ·by_cases e:d=o
  ·subst e;rw[jX i bU];exact Heap.get_kill_self _ _
  ·rw[Heap.get_kill_ne _ (aF (lv d e hd) bU)];exact hG.fresh d i (lv d e hd) bU
 ·by_cases e1:d=o
  ·subst e1;have e2:d'≠d:=fun h=>e h.symm;exact aF (lv d' e2 h') gh (jX i h1)
  ·by_cases e2:d'=o
   ·subst e2;exact aF (lv d e1 h) h1 (jX i gh)
   ·exact hG.sep d d' i e (lv d e1 h) (lv d' e2 h') h1 gh
theorem Dg {C:Cx}(aB:COk P C) {L:List (Nat×LoopAnn)}(vc:VCode):∀ {B0 F0 D0:Heap}(n:Nat) (K:Exit→St→Prop) (s:St) (env:Env) (σ:Heap) (ro:Option Nat) (Q:Exit→Env→Heap→Prop),Q5v F0 ro→GRel P B0 F0 D0 s env σ→gwp C L vc n K s→(∀ e s' ai σ',K e s'→GRel P B0 F0 D0 s' ai σ'→Q e ai σ')→vwp (Q2 P) vc ro Q env σ:=by
 induction vc with
 |skip=>intro B0 F0 D0 n K s env σ ro Q bO hR h hK;exact hK _ _ _ _ h hR
 |region ops=>intro B0 F0 D0 n K s env σ ro Q bO hR h hK;exact V5 aB ops hR h fun s' ai σ' h1 h2=>hK _ _ _ _ h1 h2
 |regionD aS=>intro B0 F0 D0 n K s env σ ro Q bO hR h hK;exact X0 aB aS hR h fun s' ai σ' h1 h2=>hK _ _ _ _ h1 h2
 |rangeF g ps a b fz eX =>
  intro B0 F0 D0 n K s env σ ro Q bO hR h hK;simp only[gwp] at h;split at h
  ·rename_i f first dA hg
   split at h
   ·
    rename_i x hx;obtain⟨B,F,pl,tb,hB,hG⟩:=hR;have gZ:=hG.evs (Gds.nil (tb:=tb)) g;rw[hg] at gZ;simp only[SR] at gZ;obtain⟨x',y',bj,mh,oV⟩:=gZ;obtain⟨iO,gQ⟩:=aB.iy f x hx;show vwp (Q2 P) (.rangeF g ps a b) ro Q env σ;simp only[vwp,PV,bj];have mi:(Q2 P).it f=some fun i Y args σ K=>WJ P i Y→VCallsTo P f args σ K:=by simp only[Q2];rw[if_pos iO]
    rw[mi];refine⟨?_,fun r hY=>?_⟩
    ·cases ro with
     |none=>trivial
     |some i =>obtain⟨e1,r1,st1,rz,hi⟩:=bO;exact⟨e1,r1,st1,rz,hG.le.2 _ _ (hB.f.2 _ _ hi)⟩
    generalize mS:C.off+2000000+n=o at h;generalize fK:100000*(o+1)-1=aK at h;have al:o≠aK:=by omega
    let q:LpD:=⟨σ.n,env,r⟩;let rdy:Blk:=.obj (.lp env r .ready none) true;let fj:Blk:=.obj (.lp env r .busy none) true;let p0:Value:=.pointer (some ⟨σ.n,0,none⟩);have jg:Gam P B F (QO pl o p0) tb (Q75 o q s) env (σ.push rdy):=by refine hG.push o (.lpf (SVs.kill o s.env) q .rdy) p0 rdy rfl ⟨rfl,SRs.upd (.refl _) (fun _ _ h=>h) (fun j hj=>by simp[QO,hj]) _ _ hG.env,fun _=>Heap.get_push_self _ _⟩
    have kl:∀ {xs us},SRs P B pl tb xs us→SRs P B (QO pl o p0) tb (SVs.kill o xs) us:=fun h=>SRs.upd (.refl _) (fun _ _ h=>h) (fun j hj=>by simp[QO,hj]) _ _ h;have aC:SRs P B (QO pl o p0) tb (SVs.kill o first++(.dd o .yv::SVs.kill o dA)) (x'++(.func (.yield σ.n) #[] #[]::y')):=by refine (kl mh).append ?_;simp only[SRs,SR,DR];exact⟨_,_,rfl,⟨σ.n,by simp[QO,p0],rfl⟩,kl oV⟩
    have wU:Fw P o (Eb o aK ps.length q (fun K' s'=>gwp C L a n (Ir (fun s3=>gwp C L b n K' s3) fun _ _=>False) s') ps):=by
     intro B F pl tb s ai σ args us K R i hG ha hy iz hK;unfold Eb at hy;split at hy
     ·rename_i l q' u ho;split at hy
      ·cases hlen:Nat.beq args.length ps.length with
       |false=>rw[hlen] at hy;exact hy.elim
       |true =>
       rw[hlen] at hy;simp only[_root_.cond_true] at hy;obtain⟨rfl,hy⟩:=hy;have ak:=hG.obj o;rw[ho] at ak;have hi:i=q.i:=by have h1:=ak.1;rw[iz] at h1;have:=osj (Value.pointer.inj h1);exact(Addr.mk.inj this).1
       subst hi;have mj:σ.get q.i=some rdy:=ak.2.2 rfl;have jI:(Q6 s.own o).live=true:=by rw[ho];rfl
       have ng:F.get q.i=none:=hG.fresh o q.i jI (by rw[ak.1];rfl);have tD:B.get q.i=none:=by
        cases hb:B.get q.i with
        |none=>rfl
        |some b=>rw[hG.bf.2 _ _ hb] at ng;cases ng
       have kO:=hG.enterLp ho al ha ps;have jh:(F.ins σ q.i hG.le.1).get q.i=some rdy:=by rw[Heap.ins_self];exact mj
       have fH:(F.ins σ q.i hG.le.1).n=σ.n:=rfl;have aN:q.i<σ.n:=σ.lt mj;refine hY us σ R ⟨mj,by rw[←ha.length];exact(Nat.eq_of_beq_eq_true hlen),?_⟩;refine fz (B0:=B) (F0:=F.ins σ q.i hG.le.1) (D0:=σ) n _ _ _ σ (some q.i) _ ⟨env,r,_,_,jh⟩ ⟨B,_,_,tb,.of kO.bf (Dead.refl _),kO⟩ (hy ai) fun e s3 rA σ3 h7 h8=>?_;cases e with
       |normal =>
        have jO:σ3.get q.i=some rdy:=by obtain⟨B',F',pl',tb',q1,q2⟩:=h8;exact q2.le.2 _ _ (q1.f.2 _ _ jh)
        refine⟨jO,?_⟩;have h9:=h8.lpUpd (b:=fj) jh tD;have nh:((F.ins σ q.i hG.le.1).upd q.i fj).get q.i=some fj:=Heap.get_upd_self _ _ (by rw[fH];exact aN);refine eX (B0:=B) (F0:=(F.ins σ q.i hG.le.1).upd q.i fj) (D0:=σ) n _ _ _ _ (some q.i) _ ⟨env,r,_,_,nh⟩ h9 h7 fun e s4 rB σ4 bZ fP=>?_;obtain⟨B',F',pl',tb',q1,q2⟩:=fP;have pX:=q1.f.2 _ _ nh;have rC:=q1.x _ _ nh tD;have oW:σ4.get q.i=some fj:=q2.le.2 _ _ pX;unfold gyK at bZ;split at bZ
        ·rename_i l2 kJ l3 q3 u3 av rD;split at bZ
         ·obtain⟨rfl,rfl,bZ⟩:=bZ;have base:∀ b,GBase B F σ B' (F'.kill q.i) (σ4.upd q.i b):=fun b=>by
           refine⟨q1.b,⟨?_,fun j c hc=>?_⟩,fun j c h1 h2=>?_,q1.d.trans (Dead.upd _ _ _ (by rw[oW];rfl))⟩
           ·have h1:=q1.f.1;have h2:=hG.le.1;show F.n≤F'.n;have h3:((F.ins σ q.i hG.le.1).upd q.i fj).n=σ.n:=rfl;omega
           ·have e:j≠q.i:=by rintro rfl;rw[ng] at hc;cases hc
            rw[Heap.get_kill_ne _ e];refine q1.f.2 _ _ ?_;rw[Heap.get_upd_ne _ _ e,Heap.ins_ne _ _ _ e];exact hc
           ·have e:j≠q.i:=by rintro rfl;rw[ng] at h1;cases h1
            refine q1.x j c ?_ h2;rw[Heap.get_upd_ne _ _ e,Heap.ins_ne _ _ _ e];exact h1
          refine⟨oW,?_⟩;cases e with
          |normal=>exact hK _ _ B' _ pl' tb' _ _ bZ (base _) (q2.leaveLp pX rC av rD .rdy) (by simp[SR,KC])
          |ret=>exact hK _ _ B' _ pl' tb' _ _ bZ (base _) (q2.leaveLp pX rC av rD .ret) (by simp[SR,KC])
          |exit id=>exact hK _ _ B' _ pl' tb' _ _ bZ (base _) (q2.leaveLp pX rC av rD (.exit id)) (by simp[SR,KC])
          |_=>exact bZ.elim
         ·exact bZ.elim
        ·exact bZ.elim
       |_=>exact h7.elim
      ·exact hy.elim
     ·exact hy.elim
    have a0:=gQ B F _ tb _ env (σ.push rdy) o _ _ _ (Q0b o q K) (fun τ=>I1 Q env σ.n poison τ) jg aC wU (h q) fun s' B' F' pl' tb' ai σ' hk hb dI=>by
     unfold Q0b at hk;split at hk
     ·rename_i l q' u ho;have fin:∀ {e:Exit},u.live=true→q'=q→K e ⟨l,oset s'.own o .dead,s'.nx⟩→Q e env (σ'.kill σ.n)∧σ'.get σ.n=some (.obj (.lp env r u.st u.pend) true):=fun {e} hu hq wV=>by
       subst hq;obtain⟨g1,g2⟩:=dI.dropLp ho hu;refine⟨hK _ _ _ _ wV ⟨B',F',pl',tb',⟨hB.b.trans hb.b,hB.f.trans hb.f,fun j c h1 h2=>hb.x j c (hB.f.2 _ _ h1) (hB.x j c h1 h2),hB.d.trans ((Dead.push _ _).trans (hb.d.trans (Dead.kill _ _)))⟩,g1⟩,g2⟩
      cases u with
      |busy=>exact hk.elim
      |rdy =>obtain⟨hq,hk⟩:=hk;obtain⟨k1,k2⟩:=fin rfl hq hk;unfold I1;rw[k2];exact⟨(by intro h;cases h),k1⟩
      |ret =>obtain⟨hq,hk⟩:=hk;obtain⟨k1,k2⟩:=fin rfl hq hk;unfold I1;rw[k2];exact⟨(by intro h;cases h),k1⟩
      |exit id =>obtain⟨hq,hk⟩:=hk;obtain⟨k1,k2⟩:=fin rfl hq hk;unfold I1;rw[k2];exact⟨(by intro h;cases h),k1⟩
     ·exact hk.elim
    refine VCallsTo.mono (R:=fun _ τ=>I1 Q env σ.n poison τ) (by simpa using a0) fun v τ h=>h
   split at h
   rotate_left
   ·exact h.elim
   split at h
   ·rename_i it s1 cK A nT rE hA;split at h
    ·rename_i c m ar xs hc;cases fc:Nat.beq ps.length ar with
     |false=>rw[fc] at h;exact h.elim
     |true =>
     rw[fc] at h;simp only[_root_.cond_true] at h;obtain⟨dj,p,d0,dx,I,wW,tE,tF⟩:=h;have fc:=Nat.eq_of_beq_eq_true fc;have hlen:s.env.length=env.length:=by obtain⟨B,F,pl,tb,_,hG⟩:=hR;exact hG.env.length
     rw[hlen] at tE tF;have oK:=hR;obtain⟨B,F,pl,tb,hB,hG⟩:=hR;have gZ:=hG.evs Gds.nil g;rw[hg] at gZ;simp only[SR] at gZ;obtain⟨x,y,bj,hx,hy⟩:=gZ;simp only[SRs] at hx;subst hx;obtain⟨B1,F1,oX,oY,wX,iK⟩:=Nn hG hy rE;obtain⟨iO,rF⟩:=aB.it f it nT;obtain⟨oZ,rG⟩:=rF B1 cK y c m ar xs wX hc dj;have wY:GRel P B1 F1 D0 (QK (List.length env) (A.st p d0) (A.own p d0)) env σ:=YE ⟨B1,F1,pl,tb,⟨.refl _,.refl _,fun _ _ _ h=>h,(hB.trans oX).d⟩,oY⟩ dx;have ni:B1.get σ.n=none:=B1.wf _ oY.leB.1;have wZ:F1.get σ.n=none:=F1.wf _ oY.le.1;show vwp (Q2 P) (.rangeF g ps a b) ro Q env σ;simp only[vwp,PV,bj];have mi:(Q2 P).it f=some fun i Y args σ K=>WJ P i Y→VCallsTo P f args σ K:=by simp only[Q2];rw[if_pos iO]
     rw[mi];refine⟨?_,fun r hY=>?_⟩
     ·cases ro with
      |none=>trivial
      |some i =>obtain⟨e1,r1,st1,rz,hi⟩:=bO;exact⟨e1,r1,st1,rz,hG.le.2 _ _ (hB.f.2 _ _ hi)⟩
     ·let rdy:Blk:=.obj (.lp env r .ready none) true;let fj:Blk:=.obj (.lp env r .busy none) true;have kP:F1.Le (σ.push rdy):=oY.le.push rdy;let Fr:=F1.ins (σ.push rdy) σ.n kP.1;have jh:Fr.get σ.n=some rdy:=by
       show (F1.ins _ _ _).get σ.n=_;rw[Heap.ins_self,Heap.get_push_self]
      have fH:Fr.n=σ.n+1:=rfl;have w7:F1.Le Fr:=kP.ins σ.n;let J:Nat→Heap→Prop:=fun k τ=>∃ d,I k d∧GRel P B1 Fr D0 (QK (List.length env) (A.st p d) (A.own p d)) env τ;let E:Heap→Prop:=fun τ=>∃ cd e,τ.get σ.n=some (.obj (.lp env r .done (some cd)) true)∧((cd=.ret∧e=Exit.ret)∨∃ id,cd=.exit id∧e=Exit.exit id)∧Q e env (τ.kill σ.n);have back:∀ {s':St}{τ:Heap},GRel P B1 (Fr.upd σ.n fj) D0 s' env τ→∀ b,GRel P B1 ((Fr.upd σ.n fj).upd σ.n b) D0 s' env (τ.upd σ.n b):=fun h b =>
       h.lpUpd (b0:=fj) (Heap.get_upd_self _ _ (by rw[fH];omega)) ni
      have ji:∀ {Fx:Heap}{b0:Blk}{s':St}{τ:Heap},Fx.get σ.n=some b0→(∀ i,i≠σ.n→Fx.get i=F1.get i)→Fx.n=σ.n+1→GRel P B1 Fx D0 s' env τ→GRel P B0 F0 D0 s' env (τ.kill σ.n):=fun {Fx b0 s' τ} h1 h2 h3 h4=>by
       refine (h4.lpKill h1 ni).base (hB.b.trans oX.b) ⟨?_,fun i b hb=>?_⟩ fun i b k1 k2=>(hB.trans oX).x i b k1 k2
       ·show F0.n≤Fx.n;rw[h3];have:=(hB.trans oX).f.1;have:=oY.le.1;omega
       ·have bC:=(hB.trans oX).f.2 _ _ hb;have e:i≠σ.n:=by rintro rfl;rw[wZ] at bC;cases bC
        rw[Heap.get_kill_ne _ e,h2 i e];exact bC
      have jY:∀ i,i≠σ.n→Fr.get i=F1.get i:=fun i e=>Heap.ins_ne _ _ _ e;have a0:=rG σ.n _ J E (σ.push rdy) hY (fun k τ ⟨d,_,hd⟩=>?_) (fun k us τ hk ⟨d,rH,hd⟩ dw=>?_) ⟨d0,wW,?_⟩
      ·refine VCallsTo.mono (R:=fun _ τ=>J m τ∨E τ) (by simpa using a0) fun v τ qI=>?_;unfold I1;rcases qI with⟨d,rH,hd⟩|⟨cd,e,h1,h2,h3⟩
       ·have mj:τ.get σ.n=some rdy:=by
         obtain⟨B',F',pl',tb',q1,q2⟩:=hd;exact q2.le.2 _ _ (q1.f.2 _ _ jh)
        rw[mj];exact⟨(by intro h;cases h),hK _ _ _ _ (tF d rH) (ji jh jY fH hd)⟩
       ·rw[h1];refine⟨(by intro h;cases h),?_⟩;rcases h2 with⟨rfl,rfl⟩|⟨id,rfl,rfl⟩<;>exact h3
      ·obtain⟨B',F',pl',tb',q1,q2⟩:=hd;exact q1.b.trans q2.leB
      ·
       have mj:τ.get σ.n=some rdy:=by obtain⟨B',F',pl',tb',q1,q2⟩:=hd;exact q2.le.2 _ _ (q1.f.2 _ _ jh)
       refine⟨mj,by rw[fc,←(oZ k).1,dw.length],?_⟩;have hF:=tE k d hk rH env;have bI:GRel P B1 Fr D0 ⟨U_ (R8 (2000000+n) env (QK (List.length env) (A.st p d) (A.own p d))).env ps (xs k),(R8 (2000000+n) env (QK (List.length env) (A.st p d) (A.own p d))).own,0⟩ (Gx env ps us) τ:=by
        obtain⟨B',F',pl',tb',q1,q2⟩:=hd;have q3:Gam P B' F' (QO pl' (2000000+n) poison) tb' (R8 (2000000+n) env (QK (List.length env) (A.st p d) (A.own p d))) env τ:=by refine q2.make (2000000+n) _ poison q2.le (fun _ _ _ _ _=>rfl) ?_ (fun i hl _=>by cases hl);exact SRs.upd (.refl _) (fun _ _ h=>h) (fun j hj=>by simp[QO,hj]) _ _ q2.env
        refine⟨B',F',QO pl' (2000000+n) poison,tb',q1,⟨q3.bf,q3.le,Ke ?_ q3.env,q3.obj,q3.fresh,q3.sep,?_⟩⟩
        ·exact SRs.mono q1.b (fun _ _ h=>h) _ _ (QV _ _ (oZ k).2 dw)
        ·exact q3.free
       refine fz (B0:=B1) (F0:=Fr) n _ _ _ τ (some σ.n) _ ⟨env,r,_,_,jh⟩ bI hF fun e s3 rA σ3 h7 h8=>?_;cases e with
       |normal =>
        have jO:σ3.get σ.n=some rdy:=by obtain⟨B',F',pl',tb',q1,q2⟩:=h8;exact q2.le.2 _ _ (q1.f.2 _ _ jh)
        refine⟨jO,?_⟩;have h9:=h8.lpUpd (b:=fj) jh ni;have nh:(Fr.upd σ.n fj).get σ.n=some fj:=Heap.get_upd_self _ _ (by rw[fH];omega);refine eX (B0:=B1) (F0:=Fr.upd σ.n fj) n _ _ _ _ (some σ.n) _ ⟨env,r,_,_,nh⟩ h9 h7 fun e s4 rB σ4 bZ fP=>?_;have oW:σ4.get σ.n=some fj:=by obtain⟨B',F',pl',tb',q1,q2⟩:=fP;exact q2.le.2 _ _ (q1.f.2 _ _ nh)
        have tG:σ.n<σ4.n:=σ4.lt oW;unfold AU at bZ;split at bZ
        ·rename_i l vs jj;obtain⟨rfl,bZ⟩:=bZ;have cA:GRel P B1 (Fr.upd σ.n fj) D0 ⟨l,s4.own,s4.nx⟩ vs σ4:=by
          obtain⟨B',F',pl',tb',q1,q2⟩:=fP;have:=q2.obj (2000000+n);rw[jj] at this;exact⟨B',F',pl',tb',q1,q2.bf,q2.le,this,q2.obj,q2.fresh,q2.sep,q2.free⟩
         have ml:∀ b,((Fr.upd σ.n fj).upd σ.n b).get σ.n=some b:=fun b=>Heap.get_upd_self _ _ (by show σ.n<Fr.n;rw[fH];omega);have rI:∀ b i,i≠σ.n→((Fr.upd σ.n fj).upd σ.n b).get i=F1.get i:=fun b i e=>by rw[Heap.get_upd_ne _ _ e,Heap.get_upd_ne _ _ e,jY i e]
         refine⟨oW,?_⟩;cases e with
         |normal =>
          obtain⟨d',ox,pU⟩:=bZ;refine .inl ⟨rfl,d',pU,?_⟩;have:=(back (YE cA ox) rdy).base (B0:=B1) (F0:=Fr) (.refl _) ⟨Nat.le_refl _,fun i b hb=>?_⟩ fun i b k1 k2=>k2
          ·exact this
          ·by_cases e:i=σ.n
           ·subst e;rw[jh] at hb;rw[ml];exact hb
           ·rw[rI _ _ e,←jY i e];exact hb
         |ret =>refine .inr ⟨rfl,_,_,Heap.get_upd_self _ _ tG,.inl ⟨rfl,rfl⟩,hK _ _ _ _ bZ (ji (ml _) (rI _) (by show Fr.n=_;exact fH) (back cA _))⟩
         |exit id =>refine .inr ⟨rfl,_,_,Heap.get_upd_self _ _ tG,.inr ⟨id,rfl,rfl⟩,hK _ _ _ _ bZ (ji (ml _) (rI _) (by show Fr.n=_;exact fH) (back cA _))⟩
         |_=>exact bZ.elim
        ·exact bZ.elim
       |_=>exact h7.elim
      ·
       obtain⟨B',F',pl',tb',q1,q2⟩:=wY;have hle:F'.Le (σ.push rdy):=q2.le.push rdy;have w8:F'.get σ.n=none:=F'.wf _ q2.le.1;have ak:∀ d i,(Q6 (QK (List.length env) (A.st p d0) (A.own p d0)).own d).live=true→Oid (pl' d) i→i<σ.n:=fun d i h1 h2=>(q2.obj d).id_lt h1 h2;refine⟨B',F'.ins (σ.push rdy) σ.n hle.1,pl',tb',⟨q1.b,Heap.ins_ins q1.f _ _ _,fun i b k1 k2=>?_,q1.d.trans (Dead.push _ _)⟩,⟨q2.bf.trans (hle.ins _),hle.ins_le _,q2.env,fun d=>(q2.obj d).mono (.refl _) (fun _ _ h=>h) fun h1 i h2=>Heap.get_push_lt _ _ (ak d i h1 h2),fun d i h1 h2=>?_,q2.sep,q2.free⟩⟩
       ·by_cases e:i=σ.n
        ·subst e;exact B'.wf _ q2.leB.1
        ·rw[jY i e] at k1;exact q1.x i b k1 k2
       ·rw[Heap.ins_ne _ _ _ (Nat.ne_of_lt (ak d i h1 h2))];exact q2.fresh d i h1 h2
    ·exact h.elim
   ·exact h.elim
  ·exact h.elim
 |bad=>intro B0 F0 D0 n K s env σ ro Q bO hR h hK;exact h.elim
 |ret=>intro B0 F0 D0 n K s env σ ro Q bO hR h hK;exact hK _ _ _ _ h hR
 |exit id=>intro B0 F0 D0 n K s env σ ro Q bO hR h hK;exact hK _ _ _ _ h hR
 |seq a b fz eX =>
  intro B0 F0 D0 n K s env σ ro Q bO hR h hK;refine fz n _ s env σ ro _ bO hR h fun e s' ai σ' h1 h2=>?_;cases e with
  |normal=>exact eX n K s' ai σ' ro Q bO h2 h1 hK
  |_=>exact hK _ _ _ _ h1 h2
 |cond c a b fz eX =>
  intro B0 F0 D0 n K s env σ ro Q bO hR h hK;simp only[gwp] at h;split at h
  ·rename_i t ht;have oK:=hR;obtain⟨B,F,pl,tb,hB,hG⟩:=hR;have:=Kb hG ht;simp only[vwp,this,AM];cases t with
   |true=>exact⟨fun _=>fz n K s env σ ro Q bO oK h hK,fun e=>by cases e⟩
   |false=>exact⟨(fun e=>by cases e),fun _=>eX n K s env σ ro Q bO oK h hK⟩
  split at h
  ·rename_i t ht;obtain⟨B,F,pl,tb,hB,hG⟩:=hR;have:=Jo ht (hG.evs Gds.nil c);simp only[vwp,this,AM];split at h
   ·rename_i A hA;obtain⟨p,I,hF,hI⟩:=h;have fin:∀ e s' ai σ',Q1r s.env.length A p I K e s'→GRel P B0 F0 D0 s' ai σ'→Q e ai σ':=fun e s' ai σ' h1 h2=>by
     cases e with
     |normal =>obtain⟨d,h3,h4⟩:=h1;exact hK _ _ _ _ (hI d h4) (Ym h2 h3)
     |_=>exact hK _ _ _ _ h1 h2
    exact⟨fun e=>fz n _ s env σ ro Q bO ⟨B,F,pl,tb,hB,hG⟩ (hF.1 e) fin,fun e=>eX n _ s env σ ro Q bO ⟨B,F,pl,tb,hB,hG⟩ (hF.2 e) fin⟩
   exact⟨fun e=>fz n K s env σ ro Q bO ⟨B,F,pl,tb,hB,hG⟩ (h.1 e) hK,fun e=>eX n K s env σ ro Q bO ⟨B,F,pl,tb,hB,hG⟩ (h.2 e) hK⟩
  ·exact h.elim
 |block id b ih =>
  intro B0 F0 D0 n K s env σ ro Q bO hR h hK;refine ih id _ s env σ ro _ bO hR h fun e s' ai σ' h1 h2=>?_;cases e with
  |exit iE =>
   simp only[E1] at h1;simp only[SJ];split
   ·rename_i e;rw[if_pos e] at h1;exact hK _ _ _ _ h1 h2
   ·rename_i e;rw[if_neg e] at h1;exact hK _ _ _ _ h1 h2
  |_=>exact hK _ _ _ _ h1 h2
 |loop b ih =>
  intro B0 F0 D0 n K s env σ ro Q bO hR h hK;simp only[gwp] at h;split at h
  ·rename_i A hA;obtain⟨p,d0,h1,I,μ,h2,h3⟩:=h;have hlen:s.env.length=env.length:=by obtain⟨B,F,pl,tb,_,hG⟩:=hR;exact hG.env.length
   have hk:∀ d,(A.st p d).map (·.1)=A.sl:=fun d=>GN _ _;refine⟨A.sl,fun m vs σ'=>∃ d,I d∧μ d=m∧GRel P B0 F0 D0 (QK s.env.length (A.st p d) (A.own p d)) (Jm A.sl vs (List.replicate env.length poison)) σ',μ d0,⟨d0,h2,rfl,?_⟩,fun m vs σ' ⟨d,h4,h5,h6⟩=>?_⟩
   ·have:=NU hR h1 s.env.length;rw[hk d0,hlen] at this;rw[hlen];exact this
   ·refine ih n _ _ _ σ' ro _ bO h6 (h3 d h4) fun e s' ai aM h7 h8=>?_;cases e with
    |normal =>
     simp only[OE] at h7;cases oi:Q6g s'.own with
     |false=>rw[oi] at h7;exact h7.elim
     |true =>
     rw[oi] at h7;obtain⟨d',h9,bZ,fP⟩:=h7;refine⟨μ d',by omega,d',bZ,rfl,?_⟩;have:=NU h8 h9 s.env.length;rw[hk d',hlen] at this;rw[hlen];exact this
    |_=>exact hK _ _ _ _ h7 h8
  ·exact h.elim
end
end Go.V
namespace Go.V
open Go
def PX (s:St):VResult→Option SV
 |.tmp t=>some (s.env.getD t .any)
 |.cell a agg size=>bif Nat.blt 0 size then F_ s.own agg size (s.env.getD a .any) else none
def Yx (s:St) (rs:List VResult):Option SV :=
 match rs with
 |[r]=>PX s r
 |rs=>(rs.mapM (PX s)).map .tup
def O4 (mp:List (Nat×Option Nat)) (j:Nat) (a:Option Nat):Option (List (Nat×Option Nat)) :=
 if (Qd mp j).isSome then none else match a with
 |some x=>if mp.any fun p=>p.2==some x then none else some (mp++[(j,a)])
 |none=>some (mp++[(j,a)])
mutual
def Al:SV→SV→List (Nat×Option Nat)→Option (List (Nat×Option Nat))
 |.lst j,v,mp=>match v with|.lst a=>O4 mp j (some a)|.nilS=>O4 mp j none|_=>none
 |.map j,v,mp=>match v with|.map a=>O4 mp j (some a)|_=>none
 |.dd j w,v,mp=>match w with
  |.out=>(match v with
   |.dd a w'=>(match w' with|.out=>O4 mp j (some a)|_=>none)
   |.nilS=>O4 mp j none
   |_=>none)
  |_=>none
 |.box j _,v,mp=>match v with|.box a _=>O4 mp j (some a)|_=>none
 |.agg l,v,mp=>match v with|.agg l'=>LN l l' mp|_=>none
 |.tup l,v,mp=>match v with|.tup l'=>LN l l' mp|_=>none
 |.any,_,mp=>some mp
 |.val _ _,_,mp=>some mp
 |.nilS,_,mp=>some mp
 |.nilP,_,mp=>some mp
 |.nilM,_,mp=>some mp
 |.nilF,_,mp=>some mp
 |.sub _ _ _ _,_,_|.elp _ _ _ _,_,_|.grd _ _,_,_|.cp _ _,_,_|.fn _ _ _,_,_|.rop _ _ _ _,_,_|.pf _ _ _ _,_,_|.bid _ _,_,_=>none
def LN:List SV→List SV→List (Nat×Option Nat)→Option (List (Nat×Option Nat))
 |[],_,mp=>some mp
 |s::ss,l,mp=>match l with
  |v::vs=>match Al s v mp with|some mp=>LN ss vs mp|none=>none
  |[]=>none
end
def Ih (s:St) (mp:List (Nat×Option Nat)):Nat→List OB→Prop
 |_,[]=>True
 |j,b::r=>I8 s mp j b∧Ih s mp (j+1) r
def Vt (rs:List VResult) (v:SV) (bs:List OB):Exit→St→Prop:=fun e s =>
 let fin:=match Yx s rs with
  |some r=>(match Al v r [] with
   |some mp=>Gy mp v r∧Ih s mp 0 bs
   |none=>False)
  |none=>False
 match e with
 |.normal=>fin
 |.ret=>fin
 |_=>False
section
variable {P:Program}{B F:Heap}{pl:Nat→Value}{tb:Nat→Option Bool}{s:St}{env:Env}{σ:Heap}
theorem Db (hG:Gam P B F pl tb s env σ) {r:VResult}{v:SV}(h:PX s r=some v):∃ u,ZD env σ r=some u∧SR P B pl tb v u:=by
 cases r with
 |tmp t=>obtain rfl:=osj h;exact⟨_,rfl,hG.env.getD t undef⟩
 |cell a agg size =>
  simp only[PX] at h;cases hb:Nat.blt 0 size with
  |false=>rw[hb] at h;cases h
  |true =>rw[hb] at h;obtain⟨i,o,c,e,wr,t,u,h1,h2,h3,h4⟩:=MX hG.leB hG.obj (by simpa [Nat.blt_eq] using hb) h (hG.env.getD a undef);refine⟨u,?_,h4⟩;simp only[ZD,Q5,Q4,h1,h2,h3];rfl
theorem WL (hG:Gam P B F pl tb s env σ) {rs:List VResult}{v:SV}(h:Yx s rs=some v):∃ u,J4 env σ rs=some u∧SR P B pl tb v u:=by
 have all:∀ (rs:List VResult) (l:List SV),rs.mapM (PX s)=some l→∃ us,rs.mapM (ZD env σ)=some us∧SRs P B pl tb l us:=by
  intro rs;induction rs with
  |nil=>intro l h;simp at h;subst h;exact⟨[],rfl,rfl⟩
  |cons r rs ih =>
   intro l h;rw[List.mapM_cons] at h;cases h1:PX s r with
   |none=>simp[h1] at h
   |some a =>
    cases h2:rs.mapM (PX s) with
    |none=>simp[h1,h2] at h
    |some l' =>simp[h1,h2] at h;subst h;obtain⟨u,h3,h4⟩:=Db hG h1;obtain⟨us,h5,h6⟩:=ih l' h2;exact⟨u::us,by rw[List.mapM_cons];simp[h3,h5],by simp only[SRs];exact⟨u,us,rfl,h4,h6⟩⟩
 have tup:(rs.mapM (PX s)).map SV.tup=some v→∃ u,(rs.mapM (ZD env σ)).map (fun vs=>Value.tuple vs.toArray)=some u∧SR P B pl tb v u:=fun h=>by simp only[Option.map_eq_some_iff] at h;obtain⟨l,h1,rfl⟩:=h;obtain⟨us,h2,h3⟩:=all rs l h1;exact⟨.tuple us.toArray,by rw[h2];rfl,by simp only[SR];exact⟨us,rfl,h3⟩⟩
 match rs,h,tup with
 |[r],h,_=>exact Db hG h
 |[],h,tup=>exact tup h
 |_::_::_,h,tup=>exact tup h
theorem Vf {mp b_:List (Nat×Option Nat)}{j:Nat}{a:Option Nat}(h:O4 mp j a=some b_) (hi:Inj mp):Inj b_:=by
 unfold O4 at h;split at h
 ·cases h
 ·split at h
  ·rename_i x;split at h
   ·cases h
   ·rename_i hc;obtain rfl:=osj h;have cA:∀ d,Qd mp d≠some (some x):=fun d hd=>by
     obtain⟨p,h1,h2,h3⟩:=TI hd;exact hc (List.any_eq_true.2 ⟨p,h1,by rw[h3];simp⟩)
    intro t1 t2 a' h1 h2;rw[Ww] at h1 h2;split at h1
    ·rename_i y1 e1;split at h2
     ·rename_i y2 e2;obtain rfl:=osj h1;obtain rfl:=osj h2;exact hi t1 t2 a' e1 e2
     ·split at h2
      ·obtain rfl:=osj (osj h2);obtain rfl:=osj h1;exact absurd e1 (cA t1)
      ·cases h2
    ·split at h1
     ·obtain rfl:=osj (osj h1);split at h2
      ·rename_i y2 e2;obtain rfl:=osj h2;exact absurd e2 (cA t2)
      ·split at h2
       ·omega
       ·cases h2
     ·cases h1
  ·obtain rfl:=osj h;intro t1 t2 a' h1 h2;rw[Ww] at h1 h2;split at h1
   ·rename_i y1 e1;split at h2
    ·rename_i y2 e2;obtain rfl:=osj h1;obtain rfl:=osj h2;exact hi t1 t2 a' e1 e2
    ·split at h2<;>cases h2
   ·split at h1<;>cases h1
mutual
theorem SG:∀ (v r:SV) (mp b_:List (Nat×Option Nat)),Al v r mp=some b_→Inj mp→Inj b_
 |.lst j,r,mp,b_,h,hi=>by
  simp only[Al] at h;split at h
  ·exact Vf h hi
  ·exact Vf h hi
  ·cases h
 |.map j,r,mp,b_,h,hi=>by
  simp only[Al] at h;split at h
  ·exact Vf h hi
  ·cases h
 |.dd j w,r,mp,b_,h,hi=>by
  simp only[Al] at h;split at h
  ·split at h
   ·split at h
    ·exact Vf h hi
    ·cases h
   ·exact Vf h hi
   ·cases h
  ·cases h
 |.box j _,r,mp,b_,h,hi=>by
  simp only[Al] at h;split at h
  ·exact Vf h hi
  ·cases h
 |.agg l,r,mp,b_,h,hi=>by
  simp only[Al] at h;split at h
  ·exact G6 l _ mp b_ h hi
  ·cases h
 |.tup l,r,mp,b_,h,hi=>by
  simp only[Al] at h;split at h
  ·exact G6 l _ mp b_ h hi
  ·cases h
 |.any,r,mp,b_,h,hi|.val _ _,r,mp,b_,h,hi|.nilS,r,mp,b_,h,hi|.nilP,r,mp,b_,h,hi|.nilM,r,mp,b_,h,hi|.nilF,r,mp,b_,h,hi=>by simp only[Al] at h;obtain rfl:=osj h;exact hi
 |.sub _ _ _ _,r,mp,b_,h,hi|.elp _ _ _ _,r,mp,b_,h,hi|.grd _ _,r,mp,b_,h,hi|.cp _ _,r,mp,b_,h,hi|.fn _ _ _,r,mp,b_,h,hi|.rop _ _ _ _,r,mp,b_,h,hi|.pf _ _ _ _,r,mp,b_,h,hi|.bid _ _,r,mp,b_,h,hi=>by cases h
theorem G6:∀ (v r:List SV) (mp b_:List (Nat×Option Nat)),LN v r mp=some b_→Inj mp→Inj b_
 |[],r,mp,b_,h,hi=>by simp only[LN] at h;obtain rfl:=osj h;exact hi
 |s::ss,[],mp,b_,h,hi=>by cases h
 |s::ss,r::rs,mp,b_,h,hi=>by
  simp only[LN] at h;split at h
  ·rename_i tH h1;exact G6 ss rs tH b_ h (SG s r mp tH h1 hi)
  ·cases h
end
theorem Tk {mp:List (Nat×Option Nat)}:∀ (bs:List OB) (n:Nat),Ih s mp n bs→∀ j b,bs[j]?=some b→I8 s mp (n+j) b
 |[],n,_,j,b,hj=>by simp at hj
 |b0::r,n,h,j,b,hj=>by
  obtain⟨h1,h2⟩:=h;cases j with
  |zero=>simp at hj;subst hj;exact h1
  |succ j =>
   have:=Tk r (n+1) h2 j b (by simpa using hj)
   rwa [Nat.add_assoc,Nat.add_comm 1 j] at this
mutual
theorem L6 {n:Nat}{π:Nat→Nat}:∀ (v:SV) (u:Value),v.ret 0=true→SR P B pl tb v u→Ren n π u u
 |.val k x,u,h,hs=>by
  simp only[SR] at hs;cases k with
  |i ik=>simp only[KC] at hs;obtain rfl:=(List.cons.inj hs).1;exact .plain _ rfl
  |bo=>simp only[KC] at hs;obtain rfl:=(List.cons.inj hs).1;exact .plain _ rfl
  |st=>simp only[KC] at hs;obtain rfl:=(List.cons.inj hs).1;exact .plain _ rfl
  |list k=>cases h
  |pair a b =>have h1:=KC.length hs;have h2:=a.size_pos;have h3:=b.size_pos;simp only[Kind.size,List.length_singleton] at h1;omega
 |.nilS,u,_,hs|.nilP,u,_,hs|.nilM,u,_,hs|.nilF,u,_,hs=>by simp only[SR] at hs;subst hs;exact .plain _ rfl
 |.lst j,u,h,_|.box j _,u,h,_|.map j,u,h,_=>by simp[SV.ret,Nat.blt_eq] at h
 |.dd j w,u,h,_=>by cases w<;>simp[SV.ret,Nat.blt_eq] at h
 |.agg l,u,h,hs=>by simp only[SR] at hs;obtain⟨cs,rfl,h2⟩:=hs;have:=D7 (n:=n) (π:=π) l cs h h2;exact .agg _ _ rfl fun i h3 _=>this _ (by simp)
 |.tup l,u,h,hs=>by simp only[SR] at hs;obtain⟨cs,rfl,h2⟩:=hs;have:=D7 (n:=n) (π:=π) l cs h h2;exact .tuple _ _ rfl fun i h3 _=>this _ (by simp)
 |.any,_,h,_|.bid _ _,_,h,_|.grd _ _,_,h,_|.sub _ _ _ _,_,h,_|.elp _ _ _ _,_,h,_|.rop _ _ _ _,_,h,_|.cp _ _,_,h,_|.fn _ _ _,_,h,_|.pf _ _ _ _,_,h,_=>by cases h
theorem D7 {n:Nat}{π:Nat→Nat}:∀ (v:List SV) (u:List Value),SVs.ret 0 v=true→SRs P B pl tb v u→∀ x∈u,Ren n π x x
 |[],u,_,hs=>by simp only[SRs] at hs;subst hs;intro x hx;cases hx
 |s::ss,u,h,hs=>by
  simp only[SVs.ret,Bool.and_eq_true] at h;simp only[SRs] at hs;obtain⟨x,y,rfl,h1,h2⟩:=hs;intro z hz;rcases List.mem_cons.1 hz with rfl|hz
  ·exact L6 s z h.1 h1
  ·exact D7 ss y h.2 h2 z hz
end
theorem Cu (exact:Bool) {σ0:Heap}{sf:St}{mn:Env}{σf:Heap}(hR:GRel P σ0 σ0 σ0 sf mn σf) {rs:List VResult}{v:SV}{bs:List OB}{e:Exit}(hv:v.ret bs.length=true) (hb:bs.all OB.ret=true) (h:Vt rs v bs e sf) (hx:exact=true→bs.all OB.isL=true∧WX v=true) :
  Q4z σ0 rs (fun u σ'=>if exact then u=WY (BY σ0 bs) v∧σ'=BJ σ0 bs else Ret P σ0 v bs u σ') e mn σf:=by
 have main:(match Yx sf rs with
  |some r=>(match Al v r [] with
   |some mp=>Gy mp v r∧Ih sf mp 0 bs
   |none=>False)
  |none=>False)→QI (J4 mn σf rs) fun u=>∃ v' σ',DropTo σ0 u σf v' σ'∧(if exact then v'=WY (BY σ0 bs) v∧σ'=BJ σ0 bs else Ret P σ0 v bs v' σ'):=fun h=>by
  split at h
  ·rename_i r hr;split at h
   ·rename_i mp oR;obtain⟨h1,h2⟩:=h;obtain⟨B,F,pl,tb,⟨hB,hF,_,hd⟩,hG⟩:=hR;obtain⟨u,h3,h4⟩:=WL hG hr;have jy:=Y4 v r u h1 h4;have eT:=SG v r [] mp oR (fun t t' a h=>by cases h);have ak:∀ j b,bs[j]?=some b→I8 sf mp j b:=fun j b hj=>by have:=Tk bs 0 h2 j b hj;rwa [Nat.zero_add] at this
    rw[h3];have hle:σ0.Le σf:=hF.trans hG.le;have hA:Agree σ0 σf:=fun i hi=>by
     cases hg:σ0.get i with
     |none=>exact hd.2 i hi hg
     |some b=>exact hle.2 i b hg
    have aZ:∀ j b,bs[j]?=some b→OR P hNil (Vm pl mp) Zr σf (Vm pl mp j) b∧∀ i,Oid (Vm pl mp j) i→σ0.get i=none∧σ0.n≤i:=fun j b hj=>by
     obtain⟨k1,k2⟩:=QC hG (ak j b hj);have dD:=List.all_eq_true.1 hb b (List.mem_of_getElem? hj);have ah:b.live=true:=by cases b<;>first|rfl|cases dD
     refine⟨k1.retd dD fun _ _=>rfl,fun i hi=>?_⟩;obtain⟨a,e1,e2,e3⟩:=k2 ah i hi;have ni:=hG.fresh a i e2 e3;have hn:σ0.get i=none:=by
      cases hg:σ0.get i with
      |none=>rfl
      |some b=>rw[hF.2 i b hg] at ni;cases ni
     refine⟨hn,Nat.le_of_not_lt fun aj=>?_⟩;have bD:=hd.2 i aj hn;have ak:=hG.obj a;cases ho:Q6 sf.own a with
     |dead=>rw[ho] at e2;cases e2
     |lst ty k xs nl =>
      rw[ho] at ak;rcases ak with⟨_,_,h2⟩|⟨_,i',cap,c,t,h2,_,h3,_⟩
      ·rw[h2] at e3;cases e3
      ·rw[h2] at e3;obtain rfl:=osj e3;rw[h3] at bD;cases bD
     |cells l u=>rw[ho] at ak;obtain⟨i',c,e,t,h2,h3,_⟩:=ak;rw[h2] at e3;obtain rfl:=osj e3;rw[h3] at bD;cases bD
     |mapE kk vk m key n=>rw[ho] at ak;obtain⟨i',es,cl,r,e,h2,h3,_⟩:=ak;rw[h2] at e3;obtain rfl:=osj e3;rw[h3] at bD;cases bD
     |map kk vk m=>rw[ho] at ak;obtain⟨i',es,cl,h2,h3,_⟩:=ak;rw[h2] at e3;obtain rfl:=osj e3;rw[h3] at bD;cases bD
     |stk l vals=>rw[ho] at e2;cases e2
     |lpf l q s=>rw[ho] at ak e2;obtain⟨h2,_,h3⟩:=ak;rw[h2] at e3;obtain rfl:=osj e3;have h3:=h3 e2;rw[bD] at h3;cases h3
     |iter kk vk m dn=>rw[ho] at ak;obtain⟨j',i',es,cl,wr,seen,h2,h3,_⟩:=ak;rw[h2] at e3;obtain rfl:=osj e3;rw[h3] at bD;cases bD
     |deep ty q k xs nl hh =>rw[ho] at ak;obtain⟨is,_,d2,d3,_⟩:=DP.open ak;obtain⟨c,e,t,h⟩:=d2.cells i ((d3 i).1 e3);rw[h] at bD;cases bD
    have cM:∀ j j' i,j<bs.length→j'<bs.length→j≠j'→Oid (Vm pl mp j) i→Oid (Vm pl mp j') i→False:=fun j j' i hj bq aF hi bU=>by
     have bC:=List.getElem?_eq_getElem hj;have cj:=List.getElem?_eq_getElem bq;have r1:=List.all_eq_true.1 hb _ (List.getElem_mem hj);have r2:=List.all_eq_true.1 hb _ (List.getElem_mem bq);have l1:(bs[j]).live=true:=by cases pG:bs[j]<;>first|rfl|(rw[pG] at r1;cases r1)
     have l2:(bs[j']).live=true:=by cases pG:bs[j']<;>first|rfl|(rw[pG] at r2;cases r2)
     obtain⟨a,e1,e2,e3⟩:=(QC hG (ak j _ bC)).2 l1 i hi;obtain⟨a',w9,na,w_⟩:=(QC hG (ak j' _ cj)).2 l2 i bU;by_cases e:a=a'
     ·subst e;exact aF (eT j j' a e1 w9)
     ·exact hG.sep a a' i e e2 na e3 w_
    cases hex:exact with
    |true =>obtain⟨hl,cG⟩:=hx hex;have o3:=CF (P:=P) hA hle.1 hv cG hb hl (pl:=Vm pl mp) (u:=u) (fun j b hj=>⟨(aZ j b hj).1,fun i hi=>((aZ j b hj).2 i (S6 hi)).2⟩) (fun j j' i a b c d e=>cM j j' i a b c (S6 d) (S6 e)) (jy.retd (fun j hj=>rfl) _ _ hv);exact⟨_,_,o3,by simp⟩
    |false =>
     simp only[Bool.false_eq_true,if_false];by_cases cu:bs=[]
     ·subst cu;refine⟨u,σ0,.rename (fun i=>i) (Nat.le_refl _) (fun i hi=>⟨rfl,(hA i hi).symm,.inl (hA i hi)⟩) (fun i k1 k2=>by omega) (fun _ _ _ _ _ _ h=>h) (L6 v u hv jy),?_⟩;exact⟨⟨Heap.Le.refl _,Dead.refl _⟩,fun _=>rfl,J3,(fun j b hj=>by simp at hj),(fun j j' i hj=>by simp at hj),jy.retd (fun j hj=>by simp at hj) _ _ hv⟩
     ·exact⟨u,σf,.refl _ _ _,⟨hle,hd⟩,fun e=>absurd e cu,Vm pl mp,aZ,cM,jy.retd (fun j hj=>rfl) _ _ hv⟩
   ·exact h.elim
  ·exact h.elim
 cases e with
 |normal=>exact main h
 |ret=>exact main h
 |_=>exact h.elim
def QL (nt:Nat) (args:List SV):St:=⟨args++List.replicate (nt-args.length) .any,[],0⟩
theorem CD {args:List SV}{vs:List Value}(h:SRs P σ J3 Zr args vs) (nt:Nat):GRel P σ σ σ (QL nt args) (vs++List.replicate (nt-vs.length) undef) σ:=by
 have xc:∀ n,SRs P σ J3 Zr (List.replicate n .any) (List.replicate n undef):=by
  intro n;induction n with
  |zero=>simp[SRs]
  |succ n ih=>simp only[List.replicate_succ,SRs];exact⟨_,_,rfl,by simp[SR],ih⟩
 refine⟨σ,σ,J3,Zr,⟨Heap.Le.refl _,Heap.Le.refl _,(fun i b h1 h2=>by rw[h2] at h1;cases h1),Dead.refl _⟩,Heap.Le.refl _,Heap.Le.refl _,?_,fun d=>trivial,(fun d i hl=>by cases hl),(fun d d' i _ hl=>by cases hl),fun _ _=>rfl⟩;have:=h.length;simp only[QL,this];exact h.append (xc _)
theorem Fun.okC {f:Nat}{vc:VCode}{rs:List VResult}{nt:Nat}(h:Fun P f vc rs nt) (hm:P.follows .mixedOrders=true) {sp:CSp}
  (hb:∀ ap,O8 P ap→∀ args c v bs,sp ap args=some (c,v,bs)→c→∃ (C:Cx) (L:List (Nat×LoopAnn)) (jk:List SV),(∀ σ vs,SRs P σ J3 Zr args vs→SRs P σ J3 Zr jk vs)∧COk P C∧gwp C L vc 0 (Vt rs v bs) (QL nt jk)):OkC P f sp:=by
 intro ap eD σ args vs c v bs aC gT hv cu hc;obtain⟨C,L,jk,h1,h2,h3⟩:=hb ap eD args c v bs gT hc;have main:∀ exact:Bool,(exact=true→bs.all OB.isL=true∧WX v=true)→VCalled P f vs σ fun u σ'=>if exact then u=WY (BY σ bs) v∧σ'=BJ σ bs else Ret P σ v bs u σ':=fun exact hx=>by refine h.calls hm TZ ?_;exact Dg h2 vc 0 _ _ _ σ none _ trivial (CD (h1 σ vs aC) nt) h3 fun e s' ai σ' k1 k2=>Cu exact k2 hv cu k1 hx
 refine⟨(main false fun e=>by cases e).mono fun u σ' hr=>by simpa using hr,fun hl cG=>(main true fun _=>⟨hl,cG⟩).mono fun u σ' hr=>by simpa using hr⟩
theorem OkC.true {f:Nat}{sp:CSp}(h:OkC P f sp) (he:Jg P f) {σ:Heap}{args:List SV}{vs:List Value}(ha:SRs P σ J3 Zr args vs) {c:Prop}(hs:sp (fun _ _=>none) args=some (c,.val .bo true,[])) (hc:c) :
  VCallsTo P f vs σ fun v _=>v=.bool true:=by
 have:=(h (fun _ _=>none) (fun _ _ _ _ _ _ _ _ _ h=>by cases h) σ args vs c _ [] ha hs rfl rfl hc).1;intro ρ w ax hH hL;rcases this ρ w ax hH hL with⟨_,h2⟩|⟨c',_,h2⟩
 ·refine h2.mono fun e w' ⟨c',h3,h4⟩=>⟨c',h3,h4.mono fun u σ' hr=>?_⟩;have:=(hr.flat rfl).2;simpa only [SR,KC,List.cons.injEq,and_true] using this
 ·have:=h2 w (Like.refl ρ w);rw[Kv he ax w] at this;cases this
end
end Go.V
namespace Go.V
open Go
mutual
inductive AP:Type→Type 1 where
 |k (k:Kind):AP k.T
 |agg {D:Type}(l:AL D):AP D
 |ptr {D:Type}(l:AL D):AP D
 |fn (ks:List Kind) (r:Kind):AP ((AT ks→Prop)×(AT ks→r.T))
 |nilS:AP Unit
 |any:AP Unit
 |int (k:IntKind) (n:Int):AP Unit
inductive AL:Type→Type 1 where
 |nil:AL Unit
 |one {D:Type}(a:AP D):AL D
 |cons {D E:Type}(a:AP D) (r:AL E):AL (D×E)
end
def Ph:(ks:List Kind)→AT ks→List SV
 |[],_=>[]
 |[k],x=>[Ak k x]
 |k::k'::ks,x=>Ak k x.1::Ph (k'::ks) x.2
abbrev Ap:=SV→List SV→Option (Prop×SV)
def Ft (ap:Ap) (f:SV) (ks:List Kind) (r:Kind) (x:AT ks):Prop:=match ap f (Ph ks x) with
 |some (c,v)=>(match gap.asV r v with|some _=>c|none=>False)
 |none=>False
def fnP (ap:Ap) (f:SV) (ks:List Kind) (r:Kind) (x:AT ks):r.T:=match ap f (Ph ks x) with
 |some (_,v)=>(match gap.asV r v with|some y=>y|none=>r.dflt)
 |none=>r.dflt
mutual
def AP.dec (ap:Ap):{D:Type}→(p:AP D)→SV→Option D
 |_,.k k,v=>match k with
  |.list k=>view [] k v
  |.i ik=>Mq (.i ik) [v]
  |.bo=>Mq .bo [v]
  |.st=>Mq .st [v]
  |.pair _ _=>none
 |_,.agg l,v=>match v with|.agg vs=>AL.dec ap l vs|_=>none
 |_,.nilS,v=>match v with|.nilS=>some ()|_=>none
 |_,.any,_=>some ()
 |_,.int k n,v=>match Mq (.i k) [v] with|some x=>if (show Int from x)=n then some () else none|none=>none
 |_,.ptr l,v=>match v with|.cp vs 0=>AL.dec ap l vs|_=>none
 |_,.fn ks r,v=>match v with
  |.fn g a b=>some (Ft ap (.fn g a b) ks r,fnP ap (.fn g a b) ks r)
  |.pf tI r' cH p=>some (Ft ap (.pf tI r' cH p) ks r,fnP ap (.pf tI r' cH p) ks r)
  |_=>none
def AL.dec (ap:Ap):{D:Type}→(l:AL D)→List SV→Option D
 |_,.nil,vs=>match vs with|[]=>some ()|_=>none
 |_,.one a,vs=>match vs with|[v]=>AP.dec ap a v|_=>none
 |_,.cons a r,vs=>match vs with
  |v::vs=>(match AP.dec ap a v,AL.dec ap r vs with|some x,some y=>some (x,y)|_,_=>none)
  |[]=>none
end
mutual
def AP.can:{D:Type}→(p:AP D)→D→SV
 |_,.k k,x=>.val k x
 |_,.agg l,x=>.agg (AL.can l x)
 |_,.nilS,_=>.nilS
 |_,.any,_=>.any
 |_,.int k n,_=>.val (.i k) n
 |_,.ptr l,x=>.cp (AL.can l x) 0
 |_,.fn ks r,x=>.pf ks r x.1 x.2
def AL.can:{D:Type}→(l:AL D)→D→List SV
 |_,.nil,_=>[]
 |_,.one a,x=>[AP.can a x]
 |_,.cons a r,x=>AP.can a x.1::AL.can r x.2
end
def K8 {D:Type}(l:AL D) (pre:D→Prop) (res:D→SV) (obs:D→List OB):CSp:=fun ap args=>match AL.dec ap l args with
 |some d=>some (pre d,res d,obs d)
 |none=>none
section
variable {P:Program}{σ:Heap}
theorem U9:∀ {ks:List Kind}{x:AT ks}{vs:List Value},Hj σ ks x vs→SRs P σ J3 Zr (Ph ks x) vs
 |[],x,vs,h=>by simp only[Hj] at h;subst h;simp[Ph,SRs]
 |[k],x,vs,h=>by obtain⟨v,rfl,h1⟩:=h;simp only[Ph,SRs];exact⟨v,[],rfl,J2 h1,rfl⟩
 |k::k'::ks,x,vs,h=>by obtain⟨v,cR,rfl,h1,h2⟩:=h;simp only[Ph,SRs];exact⟨v,cR,rfl,J2 h1,U9 h2⟩
theorem Lm {ap:Ap}(eD:O8 P ap) {f:SV}{v:Value}(hf:SR P σ J3 Zr f v) (hv:∃ g a b,v=.func (.func g) a b) (ks:List Kind) (r:Kind):SR P σ J3 Zr (.pf ks r (Ft ap f ks r) (fnP ap f ks r)) v:=by
 obtain⟨g,a,b,rfl⟩:=hv;simp only[SR];refine⟨g,a,b,rfl,fun x hd τ vs hle cF=>?_⟩;unfold Ft at hd;split at hd
 ·rename_i c u o4;split at hd
  ·rename_i y hy;obtain⟨h1,g',a',b',h2,h3⟩:=eD τ f (Ph ks x) c u (.func (.func g) a b) vs (SR.mono hle (fun _ _ h=>h) _ _ hf) (U9 cF) o4 hd;obtain⟨rfl,rfl,rfl⟩:=(by simpa using h2:g=g'∧a=a'∧b=b');have hp:fnP ap f ks r x=y:=by simp[fnP,o4,hy]
   rw[hp];exact h3.mono fun u' σ' hu=>⟨hu.1,(D3 hy hu.2).vcall (Sf _)⟩
  ·exact hd.elim
 ·exact hd.elim
mutual
theorem AP.dec_sound {ap:Ap}(eD:O8 P ap):∀ {D:Type}(p:AP D) {v:SV}{x:D}{u:Value},AP.dec ap p v=some x→SR P σ J3 Zr v u→SR P σ J3 Zr (AP.can p x) u
 |_,.k k,v,x,u,h,hs=>by
  have one:SRs P σ J3 Zr [v] [u]:=by simp only[SRs];exact⟨u,[],rfl,hs,rfl⟩
  simp only[AP.can,SR];cases k with
  |list k =>have:=Jt (own:=[]) (Heap.Le.refl σ) (fun d=>(trivial:OR P σ J3 Zr σ (J3 d) .dead)) (show view [] k v=some x from h) hs;exact⟨u,rfl,this⟩
  |i ik=>exact Qf (k:=.i ik) h one
  |bo=>exact Qf (k:=.bo) h one
  |st=>exact Qf (k:=.st) h one
  |pair a b=>cases h
 |_,.agg l,v,x,u,h,hs=>by
  simp only[AP.dec] at h;split at h
  ·simp only[SR] at hs;obtain⟨cs,rfl,hs⟩:=hs;simp only[AP.can,SR];exact⟨cs,rfl,AL.dec_sound eD l h hs⟩
  ·cases h
 |_,.any,v,x,u,h,hs=>by simp only[AP.can,SR]
 |_,.int k n,v,x,u,h,hs=>by
  have one:SRs P σ J3 Zr [v] [u]:=by simp only[SRs];exact⟨u,[],rfl,hs,rfl⟩
  simp only[AP.dec] at h;split at h
  ·rename_i y hy;split at h
   ·rename_i e;subst e;simp only[AP.can,SR];exact Qf (k:=.i k) hy one
   ·cases h
  ·cases h
 |_,.nilS,v,x,u,h,hs=>by
  simp only[AP.dec] at h;split at h
  ·simp only[AP.can];exact hs
  ·cases h
 |_,.ptr l,v,x,u,h,hs=>by
  simp only[AP.dec] at h;split at h
  ·simp only[SR] at hs;obtain⟨b,c,e,wr,t,h1,rfl,h3⟩:=hs;simp only[AP.can,SR];exact⟨b,c,e,wr,t,h1,rfl,AL.dec_sound eD l h h3⟩
  ·cases h
 |_,.fn ks r,v,x,u,h,hs=>by
  simp only[AP.dec] at h;split at h
  ·obtain rfl:=osj h;exact Lm eD hs (by simp only[SR] at hs;obtain⟨x,y,rfl,_⟩:=hs;exact⟨_,_,_,rfl⟩) ks r
  ·obtain rfl:=osj h;exact Lm eD hs (by simp only[SR] at hs;obtain⟨g,x,y,rfl,_⟩:=hs;exact⟨_,_,_,rfl⟩) ks r
  ·cases h
theorem AL.dec_sound {ap:Ap}(eD:O8 P ap):∀ {D:Type}(l:AL D) {vs:List SV}{x:D}{us:List Value},AL.dec ap l vs=some x→SRs P σ J3 Zr vs us→SRs P σ J3 Zr (AL.can l x) us
 |_,.nil,vs,x,us,h,hs=>by
  simp only[AL.dec] at h;split at h
  ·exact hs
  ·cases h
 |_,.one a,vs,x,us,h,hs=>by
  simp only[AL.dec] at h;split at h
  ·obtain⟨u,rfl,h1⟩:=hs.one;simp only[AL.can,SRs];exact⟨u,[],rfl,AP.dec_sound eD a h h1,rfl⟩
  ·cases h
 |_,.cons a r,vs,x,us,h,hs=>by
  simp only[AL.dec] at h;split at h
  ·rename_i v cR;split at h
   ·rename_i y z h1 h2;obtain rfl:=osj h;simp only[SRs] at hs;obtain⟨u,lM,rfl,h3,h4⟩:=hs;simp only[AL.can,SRs];exact⟨u,lM,rfl,AP.dec_sound eD a h1 h3,AL.dec_sound eD r h2 h4⟩
   ·cases h
  ·cases h
end
theorem CsOk.nil:CsOk P []:=fun f sp h=>by cases h
theorem CsOk.cons {f:Nat}{sp:CSp}{cs:List (Nat×CSp)}(h:OkC P f sp) (t:CsOk P cs):CsOk P ((f,sp)::cs):=fun g xd hg=>by
 simp only[Qd] at hg;cases hb:Nat.beq f g with
 |true=>rw[hb] at hg;obtain rfl:=Nat.eq_of_beq_eq_true hb;obtain rfl:=osj hg;exact h
 |false=>rw[hb] at hg;exact t g xd hg
theorem COk.cons {C:Cx}{f:Nat}{sp:CSp}(h:OkC P f sp) (t:COk P C):COk P {C with cs:=(f,sp)::C.cs}:=⟨CsOk.cons h t.cs,t.xs,t.it,t.yl,t.iy,t.xf⟩
theorem Q3a {f:Nat}{vc:VCode}{rs:List VResult}{nt:Nat}(h:Fun P f vc rs nt) (hm:P.follows .mixedOrders=true) {D:Type}{l:AL D}{pre:D→Prop}{res:D→SV}{obs:D→List OB}
  {C:Cx}(aB:COk P C) (L:D→List (Nat×LoopAnn)) (hb:∀ d,pre d→gwp C (L d) vc 0 (Vt rs (res d) (obs d)) (QL nt (AL.can l d))):OkC P f (K8 l pre res obs):=by
 refine h.okC hm fun ap eD args c v bs hs hc=>?_;unfold K8 at hs;split at hs
 ·rename_i d hd;obtain⟨rfl,rfl,rfl⟩:=(by simpa using hs:pre d=c∧res d=v∧obs d=bs);exact⟨C,L d,AL.can l d,fun σ vs hv=>AL.dec_sound eD l hd hv,aB,hb d hc⟩
 ·cases hs
theorem Z3 {f:Nat}{vc:VCode}{rs:List VResult}{nt:Nat}(h:Fun P f vc rs nt) (hm:P.follows .mixedOrders=true) {D:Type}{l:AL D}{pre:D→Prop}{res:D→SV}{obs:D→List OB}
  {C:Cx}(aB:COk P C) {L:D→List (Nat×LoopAnn)}{V:D→Prop}(hq:∀ d,gwp C (L d) vc 0 (Vt rs (res d) (obs d)) (QL nt (AL.can l d))=V d) (hb:∀ d,pre d→V d):OkC P f (K8 l pre res obs) :=
 Q3a h hm aB L fun d hp=>(hq d).mpr (hb d hp)
end
end Go.V
namespace Go.V
open Go
def Q6u (key:Nat) (vals:List Value) (rs:List VResult) (K:SV→St→Prop):Exit→St→Prop:=fun e s =>
 let fin:=match Yx s rs,Q6 s.own key with
  |some r,.stk l vs=>vs=vals∧K r ⟨l,s.own,s.nx⟩
  |_,_=>False
 match e with
 |.normal=>fin
 |.ret=>fin
 |_=>False
def Q55 (C:Cx) (L:List Value→List (Nat×LoopAnn)) (vc:VCode) (rs:List VResult) (nt:Nat):XSp:=fun d args s K =>
 ∀ vals,gwp {C with off:=100000*(d+1)} (L vals) vc 0 (Q6u (100000*(d+1)-1) vals rs K) ⟨SVs.kill (100000*(d+1)-1) args++List.replicate (nt-args.length) .any,(R8 (100000*(d+1)-1) vals s).own,s.nx⟩
section
variable {P:Program}
theorem RV {B:Heap}{pl:Nat→Value}{tb:Nat→Option Bool}:∀ n,SRs P B pl tb (List.replicate n .any) (List.replicate n undef)
 |0=>by simp[SRs]
 |n+1=>by simp only[List.replicate_succ,SRs];exact⟨_,_,rfl,by simp[SR],RV n⟩
theorem RF {f:Nat}{vc:VCode}{rs:List VResult}{nt:Nat}(h:Fun P f vc rs nt) (hm:P.follows .mixedOrders=true) {C:Cx}(aB:COk P C) (L:List Value→List (Nat×LoopAnn)):XOk P f (Q55 C L vc rs nt):=by
 intro B F pl tb s env σ d args vs K R hG ha hx hK;have hx:=hx env;refine h.calls hm TZ ?_;have q3:Gam P B F (QO pl (100000*(d+1)-1) poison) tb (R8 (100000*(d+1)-1) env s) env σ:=by refine hG.make _ _ poison hG.le (fun _ _ _ _ _=>rfl) ?_ (fun i hl _=>by cases hl);exact SRs.upd (.refl _) (fun _ _ h=>h) (fun j hj=>by simp[QO,hj]) _ _ hG.env
 have mq:COk P {C with off:=100000*(d+1)}:=⟨aB.cs,aB.xs,aB.it,aB.yl,aB.iy,aB.xf⟩;have aC:=SRs.upd (P:=P) (Heap.Le.refl B) (fun _ _ h=>h) (pl':=QO pl (100000*(d+1)-1) poison) (tb':=tb) (o:=100000*(d+1)-1) (fun j hj=>by simp[QO,hj]) _ _ ha;have bI:GRel P B F σ ⟨SVs.kill (100000*(d+1)-1) args++List.replicate (nt-args.length) .any,(R8 (100000*(d+1)-1) env s).own,s.nx⟩ (vs++List.replicate (nt-vs.length) undef) σ:=by refine⟨B,F,_,tb,.of hG.bf (.refl _),⟨q3.bf,q3.le,?_,q3.obj,q3.fresh,q3.sep,q3.free⟩⟩;rw[ha.length];exact aC.append (RV _)
 refine Dg mq vc 0 _ _ _ σ none _ trivial bI hx fun e s' ai σ' h1 h2=>?_
 ·have main:(match Yx s' rs,Q6 s'.own (100000*(d+1)-1) with
   |some r,.stk l vs=>vs=env∧K r ⟨l,s'.own,s'.nx⟩
   |_,_=>False)→QI (J4 ai σ' rs) fun v=>∃ v' aM,DropTo σ v σ' v' aM∧R v' aM:=fun h=>by
   obtain⟨B',F',pl',tb',k1,k2⟩:=h2;split at h
   ·rename_i r l cR hr jj;obtain⟨rfl,h⟩:=h;obtain⟨u,h3,h4⟩:=WL k2 hr;rw[h3];have ak:=k2.obj (100000*(d+1)-1);rw[jj] at ak;exact⟨u,σ',.refl _ _ _,hK r _ B' F' pl' tb' u σ' h k1 ⟨k2.bf,k2.le,ak,k2.obj,k2.fresh,k2.sep,k2.free⟩ h4⟩
   ·exact h.elim
  cases e with
  |normal=>exact main h1
  |ret=>exact main h1
  |_=>exact h1.elim
end
end Go.V
namespace Go.V
open Go
section
variable {P:Program}
theorem Heap.Le.kill' {B σ:Heap}(h:B.Le σ) {i:Nat}(hi:B.get i=none):B.Le (σ.kill i):=⟨h.1,fun j b hb=>by
 have:j≠i:=by rintro rfl;rw[hi] at hb;cases hb
 rw[Heap.get_kill_ne _ this];exact h.2 _ _ hb⟩
theorem Heap.kill_le (σ:Heap) (i:Nat):(σ.kill i).Le σ:=⟨Nat.le_refl _,fun j b hb=>by
 by_cases e:j=i
 ·subst e;rw[Heap.get_kill_self] at hb;cases hb
 ·rwa [Heap.get_kill_ne _ e] at hb⟩
mutual
theorem AP.can_pure:∀ {D:Type}(p:AP D) (x:D),(AP.can p x).pure=true
 |_,.k k,x=>rfl
 |_,.agg l,x=>by simp only[AP.can,SV.pure];exact AL.can_pure l x
 |_,.nilS,x=>rfl
 |_,.any,x=>rfl
 |_,.int k n,x=>rfl
 |_,.ptr l,x=>by simp only[AP.can,SV.pure];exact AL.can_pure l x
 |_,.fn ks r,x=>rfl
theorem AL.can_pure:∀ {D:Type}(l:AL D) (x:D),SVs.pure (AL.can l x)=true
 |_,.nil,x=>rfl
 |_,.one a,x=>by simp only[AL.can,SVs.pure,AP.can_pure a x];rfl
 |_,.cons a r,x=>by simp only[AL.can,SVs.pure,AP.can_pure a x.1,AL.can_pure r x.2];rfl
end
end
end Go.V
namespace Go.V
open Go
abbrev lI {α:Type}(l:List α):Int:=(l.length:Int)
abbrev gD {α:Type}(l:List α) (i:Int) (d:α):α:=l.getD i.toNat d
abbrev sT {α:Type}(l:List α) (i:Int) (x:α):List α:=l.set i.toNat x
abbrev I64 (x:Int):Prop:=InK .i64 x
theorem Q7 (x:Int):InK .i64 x↔-9223372036854775808≤x∧x≤9223372036854775807:=by simp[InK,IntKind.min,IntKind.max,IntKind.bits,IntKind.signed]
theorem Ab (x:Int):InK .u64 x↔0≤x∧x≤18446744073709551615:=by simp[InK,IntKind.min,IntKind.max,IntKind.bits,IntKind.signed]
theorem LoopP.count {F:Int→(Int→Prop)→Prop}(n:Nat) (J:Nat→Prop) (h0:J 0) (hr:∀ k:Nat,k≤n→J k→∀ q:Int→Prop,(k<n→J (k+1)→q ((k:Int)+1))→F k q):LoopP F 0:=by refine⟨fun d=>∃ k:Nat,d=k∧k≤n∧J k,fun d=>n-d.toNat,⟨0,rfl,Nat.zero_le _,h0⟩,fun d ⟨k,hd,hk,hJ⟩=>?_⟩;subst hd;refine hr k hk hJ _ fun aj rJ=>⟨⟨k+1,by simp,aj,rJ⟩,?_⟩;simp;omega
theorem LoopP.count2 {X:Type}{F:X×Int→(X×Int→Prop)→Prop}(n:Nat) (J:Nat→X→Prop) {x0:X}(h0:J 0 x0) (hr:∀ (k:Nat) (x:X),k≤n→J k x→∀ q:X×Int→Prop,(∀ x',k<n→J (k+1) x'→q (x',(k:Int)+1))→F (x,(k:Int)) q):LoopP F (x0,0):=by refine⟨fun d=>∃ k:Nat,d.2=k∧k≤n∧J k d.1,fun d=>n-d.2.toNat,⟨0,rfl,Nat.zero_le _,h0⟩,fun ⟨x,d⟩ ⟨k,hd,hk,hJ⟩=>?_⟩;simp only at hd hJ;subst hd;refine hr k x hk hJ _ fun x' aj rJ=>⟨⟨k+1,by simp,aj,rJ⟩,?_⟩;simp;omega
theorem Qw {α:Type}{l:List α}{k:Nat}{d:α}(h:k<l.length):l.getD k d=l[k]:=by simp[List.getD_eq_getElem?_getD,List.getElem?_eq_getElem h]
theorem Z6 {α:Type}{l:List α}{k:Nat}(h:k<l.length):l.take (k+1)=l.take k++[l[k]]:=by rw[List.take_succ_eq_append_getElem h]
section
variable {P:Program}
theorem st1 {S:VSpecs}{d:Nat}{op:VOp}{rest:List VOper}{env:Env}{σ:Heap}{K:Env→Heap→Prop}{v:Value}(hv:∀ K',vop S op env σ K'=QI (Q5 op (Q4 env) σ) fun p=>K' p.1 p.2) (h:Q5 op (Q4 env) σ=some (v,σ)) (hr:BF S rest (env.set d v) σ K):BF S (⟨some d,op,none⟩::rest) env σ K:=by show QI (some true) _;refine⟨fun _=>?_,fun e=>by cases e⟩;rw[hv,h];exact hr
theorem YlOk.nil:∀ o y,Qd ([]:List (Nat×YSp)) o=some y→Fw P o y:=fun o y h=>by cases h
theorem IysOk.nil:∀ f x,Qd ([]:List (Nat×Q4x)) f=some x→Q40 P f x:=fun f x h=>by cases h
theorem IysOk.cons {f:Nat}{x:Q4x}{l:List (Nat×Q4x)}(h:Q40 P f x) (t:∀ g y,Qd l g=some y→Q40 P g y):∀ g y,Qd ((f,x)::l) g=some y→Q40 P g y:=fun g y hg=>by
 simp only[Qd] at hg;cases hb:Nat.beq f g with
 |true=>rw[hb] at hg;obtain rfl:=Nat.eq_of_beq_eq_true hb;obtain rfl:=osj hg;exact h
 |false=>rw[hb] at hg;exact t g y hg
theorem XsOk.nil:∀ f x,Qd ([]:List (Nat×XSp)) f=some x→XOk P f x:=fun f x h=>by cases h
theorem XsOk.cons {f:Nat}{x:XSp}{l:List (Nat×XSp)}(h:XOk P f x) (t:∀ g y,Qd l g=some y→XOk P g y):∀ g y,Qd ((f,x)::l) g=some y→XOk P g y:=fun g y hg=>by
 simp only[Qd] at hg;cases hb:Nat.beq f g with
 |true=>rw[hb] at hg;obtain rfl:=Nat.eq_of_beq_eq_true hb;obtain rfl:=osj hg;exact h
 |false=>rw[hb] at hg;exact t g y hg
theorem ItsOk.nil:∀ f x,Qd ([]:List (Nat×ISp)) f=some x→Q3s P f x:=fun f x h=>by cases h
theorem ItsOk.cons {f:Nat}{x:ISp}{l:List (Nat×ISp)}(h:Q3s P f x) (t:∀ g y,Qd l g=some y→Q3s P g y):∀ g y,Qd ((f,x)::l) g=some y→Q3s P g y:=fun g y hg=>by
 simp only[Qd] at hg;cases hb:Nat.beq f g with
 |true=>rw[hb] at hg;obtain rfl:=Nat.eq_of_beq_eq_true hb;obtain rfl:=osj hg;exact h
 |false=>rw[hb] at hg;exact t g y hg
def DL:Ap:=fun _ _=>none
theorem GR:O8 P DL:=fun _ _ _ _ _ _ _ _ _ h=>by cases h
end
end Go.V
namespace Go.V
open Go
def A_ {α:Type}:Nat→α→List α→List α
 |0,x,l=>x::l
 |j+1,x,a::l=>a::A_ j x l
 |_+1,x,[]=>[x]
def Rt {α:Type}:Nat→List α→List α
 |0,_::l=>l
 |j+1,a::l=>a::Rt j l
 |_,[]=>[]
def Ar (kk vk:Kind):OB→Option (List (kk.T×vk.T))
 |.map jV lU m=>if h:jV=kk∧lU=vk then some (h.1▸h.2▸m) else none
 |_=>none
abbrev MSp (kk vk:Kind):=Ap→List (kk.T×vk.T)→List SV→List SV→Option (Prop×SV×(List (kk.T×vk.T)→Prop))
def KH (ap:Ap) (j:Nat) (kk vk:Kind) (sp:MSp kk vk):XSp:=fun _ args s K =>
 match args with
 |a::args=>(match EJ s.own a with
  |some l=>(match l[j]? with
   |some (.map o)=>(match Ar kk vk (Q6 s.own o) with
    |some m=>(match sp ap m (G0 (oset s.own o .dead) (Rt j l)) (G0 (oset s.own o .dead) args) with
     |some (c,v,post)=>bif v.ret 0 then c∧∀ m',post m'→K v ⟨s.env,oset s.own o (.map kk vk m'),s.nx⟩ else False
     |none=>False)
    |none=>False)
   |_=>False)
  |none=>False)
 |[]=>False
def mstart (nt j:Nat) (kk vk:Kind) (m:List (kk.T×vk.T)) (vals:List Value) (cs args:List SV):St:=⟨.cp (A_ j (.map 0) cs) 0::(args++List.replicate (nt-(args.length+1)) .any),[(0,.map kk vk m),(4000000,.stk [.map 0] vals)],0⟩
def CT (vals:List Value) (rs:List VResult) (v:SV) (kk vk:Kind) (post:List (kk.T×vk.T)→Prop):Exit→St→Prop:=fun e s =>
 let fin:=match Yx s rs,Q6 s.own 4000000,Ar kk vk (Q6 s.own 0) with
  |some r,.stk l vs,some m'=>vs=vals∧Vq [(0,some 0)] [.map 0] l∧Gy [] v r∧post m'
  |_,_,_=>False
 match e with
 |.normal=>fin
 |.ret=>fin
 |_=>False
section
variable {P:Program}
theorem BO {kk vk:Kind}{b:OB}{m:List (kk.T×vk.T)}(h:Ar kk vk b=some m):b=.map kk vk m:=by
 unfold Ar at h;split at h
 ·split at h
  ·rename_i e;obtain⟨rfl,rfl⟩:=e;obtain rfl:=osj h;rfl
  ·cases h
 ·cases h
theorem E3:∀ (j:Nat) {l:List SV}{c:List Value}{o:Nat}{B:Heap}{pl:Nat→Value}{tb:Nat→Option Bool},l[j]?=some (.map o)→SRs P B pl tb l c →
  ∃ w,SR P B pl tb (.map o) w∧SRs P B pl tb (Rt j l) (Rt j c)∧∀ (B':Heap) (pl':Nat→Value) (tb':Nat→Option Bool) (l':List SV) (x:SV),SRs P B' pl' tb' l' (Rt j c)→SR P B' pl' tb' x w→SRs P B' pl' tb' (A_ j x l') c
 |j,[],c,o,B,pl,tb,h,_=>by simp at h
 |0,a::l,c,o,B,pl,tb,h,hs=>by
  obtain rfl:a=.map o:=by simpa using h
  simp only[SRs] at hs;obtain⟨w,us,rfl,h1,h2⟩:=hs;exact⟨w,h1,h2,fun B' pl' tb' l' x h3 h4=>by simp only[A_,SRs];exact⟨w,us,rfl,h4,h3⟩⟩
 |j+1,a::l,c,o,B,pl,tb,h,hs=>by
  simp only[SRs] at hs;obtain⟨u,us,rfl,h1,h2⟩:=hs;obtain⟨w,g1,g2,g3⟩:=E3 j (by simpa using h) h2;refine⟨w,g1,?_,fun B' pl' tb' l' x h3 h4=>?_⟩
  ·simp only[Rt,SRs];exact⟨u,_,rfl,h1,g2⟩
  ·simp only[Rt] at h3
   match l',h3 with
   |[],h3=>simp only[SRs] at h3;cases h3
   |y::l',h3 =>simp only[SRs] at h3;obtain⟨u',lM,e,h5,h6⟩:=h3;obtain⟨rfl,rfl⟩:=List.cons.inj e;simp only[A_,SRs];exact⟨u,us,rfl,h5,g3 B' pl' tb' l' x h6 h4⟩
theorem Tl {f:Nat}{vc:VCode}{rs:List VResult}{nt:Nat}(h:Fun P f vc rs nt) (hm:P.follows .mixedOrders=true) {kk vk:Kind}(cf:(kk.flat&&vk.flat)=true) {sp:MSp kk vk}{ap:Ap}{j:Nat}
  (hb:∀ m cs iA c v post,sp ap m cs iA=some (c,v,post)→c→∃ (C:Cx) (L:List Value→List (Nat×LoopAnn)) (cs' jz:List SV),SVs.pure cs'=true∧SVs.pure jz=true∧(∀ σ vs,SRs P σ J3 Zr cs vs→SRs P σ J3 Zr cs' vs)∧(∀ σ vs,SRs P σ J3 Zr iA vs→SRs P σ J3 Zr jz vs)∧COk P C∧∀ vals,gwp C (L vals) vc 0 (CT vals rs v kk vk post) (mstart nt j kk vk m vals cs' jz)):FC P f (KH ap j kk vk sp) j:=by
 intro B F pl tb s env σ d args vs K R tt hG ha oE hx hK;unfold KH at hx;split at hx
 ·rename_i a args;split at hx
  ·rename_i l hl;split at hx
   ·rename_i o fM;split at hx
    ·rename_i m aE;have aQ:=BO aE;split at hx
     ·rename_i c v post gT;cases dM:v.ret 0 with
      |false=>rw[dM] at hx;exact hx.elim
      |true =>
      rw[dM] at hx;obtain⟨hc,hx⟩:=hx;simp only[SRs] at ha;obtain⟨u,us,rfl,pY,dw⟩:=ha;have xe:o=tt:=by simpa [T3,hl,fM] using oE
      have ah:(Q6 s.own o).live=true:=by rw[aQ];rfl
      have ak:=hG.obj o;rw[aQ] at ak;obtain⟨id,es,clock,iz,aT,en⟩:=ak;have o5:F.get id=none:=hG.fresh o id ah (by rw[iz];rfl);have rK:B.get id=none:=by
       cases hg:B.get id with
       |none=>rfl
       |some b=>have:=hG.bf.2 _ _ hg;rw[o5] at this;cases this
      obtain⟨i,ce,e,wr,t,xg,gj,aB⟩:∃ i ce e wr t,u=.pointer (some ⟨i,0,none⟩)∧σ.get i=some (.cells ce e wr t)∧SRs P B pl tb l ce:=by
       unfold EJ at hl;split at hl
       ·rename_i o' off;cases bh:Nat.beq off 0 with
        |false=>rw[bh] at hl;cases hl
        |true =>
         rw[bh] at hl;obtain rfl:=Nat.eq_of_beq_eq_true bh;simp only[_root_.cond_true] at hl;split at hl
         ·rename_i l' un aR;obtain rfl:=osj hl;have cC:=hG.obj o';rw[aR] at cC;obtain⟨i,ce,e,t,k1,k2,k3,_⟩:=cC;simp only[SR] at pY;obtain⟨b,q1,q2⟩:=pY;rw[k1] at q1;obtain rfl:i=b:=by simpa using q1
          exact⟨i,ce,e,true,t,q2,k2,k3⟩
         ·cases hl
       ·rename_i l' off;cases bh:Nat.beq off 0 with
        |false=>rw[bh] at hl;cases hl
        |true =>rw[bh] at hl;obtain rfl:=Nat.eq_of_beq_eq_true bh;obtain rfl:=osj hl;simp only[SR] at pY;obtain⟨b,ce,e,wr,t,k1,k2,k3⟩:=pY;exact⟨b,ce,e,wr,t,k2,hG.leB.2 _ _ k1,k3⟩
       ·cases hl
      have aF:i≠id:=by rintro rfl;rw[gj] at aT;cases aT
      obtain⟨w,hw,rL,rM⟩:=E3 j fM aB;simp only[SR] at hw;obtain rfl:w=pl o:=hw.1;obtain⟨C,L,cs',jz,iM,fg,qC,iw,mq,hg⟩:=hb _ _ _ c v post gT hc;have hg:=hg [pl o];have fF:oid (pl o)=some id:=by rw[iz];rfl
      let σc:=σ.kill id;have tJ:B.Le σc:=hG.leB.kill' rK;have xh:F.Le σc:=hG.le.kill' o5;have rN:σc.Le σ:=Heap.kill_le _ _;have bF:∀ k,k≠id→σc.get k=σ.get k:=fun k hk=>Heap.get_kill_ne _ hk;have bO:∀ d,OR P σc J3 Zr σc (pl d) ((Q6 (oset s.own o .dead) d).kill d)∨True:=fun _=>.inr trivial;have tK:∀ (xs:List SV) (vs:List Value),SRs P B pl tb xs vs→SRs P σc J3 Zr (G0 (oset s.own o .dead) xs) vs:=fun xs vs bH=>by
       refine Yb (own:=oset s.own o .dead) tJ (pl:=pl) (tb:=tb) (fun d=>?_) bH;rw[Qb];by_cases e:d=o
       ·rw[if_pos e];trivial
       ·rw[if_neg e];exact(hG.obj d).mono (.refl _) (fun _ _ h=>h) fun hl i hi=>bF _ fun nW=>hG.sep d o i e hl ah hi (by rw[iz,nW];rfl)
      have aC:=iw σc us (tK _ _ dw);have b7:=qC σc _ (tK _ _ rL);let o6:Nat→Value:=fun k=>if k=0 then pl o else poison
      have kQ:∀ (B:Heap) (tb':Nat→Option Bool),SR P B o6 tb' (.map 0) (pl o):=fun B tb'=>by simp only[SR];exact⟨by simp[o6],_,iz⟩
      have bI:GRel P σc σc σ (mstart nt j kk vk m [pl o] cs' jz) (u::us++List.replicate (nt-(u::us).length) undef) σ:=by
       refine⟨σc,σc,o6,Zr,⟨.refl _,.refl _,fun _ _ _ h=>h,.refl _⟩,.refl _,rN,?_,fun k=>?_,fun k i' h1 h2=>?_,fun k k' i' rO h1 h2 h3 h4=>?_,fun _ _=>rfl⟩
       ·simp only[mstart,SRs,List.cons_append];refine⟨u,_,rfl,?_,?_⟩
        ·simp only[SR];refine⟨i,ce,e,wr,t,by rw[bF i aF];exact gj,xg,rM _ _ _ _ _ (QV _ _ iM b7) (kQ _ _)⟩
        rw[aC.length,List.length_cons];refine SRs.append ?_ (RV _);exact QV _ _ fg aC
       ·simp only[mstart,Q6];by_cases e0:k=0
        ·subst e0;simp only[Nat.beq_refl,_root_.cond_true];exact⟨id,es,clock,by simp[o6,iz],aT,en.mono tJ⟩
        ·rw[QS (fun e=>e0 e.symm),cond_false];by_cases e1:k=4000000
         ·subst e1;simp only[Nat.beq_refl,_root_.cond_true];exact⟨pl o,[],rfl,kQ _ _,rfl⟩
         ·rw[QS (fun e=>e1 e.symm),cond_false];trivial
       ·simp only[mstart,Q6] at h1;by_cases e0:k=0
        ·subst e0;have:Oid (pl o) i':=by simpa [o6] using h2
         rw[iz] at this;obtain rfl:id=i':=osj this;exact Heap.get_kill_self _ _
        ·rw[QS (fun e=>e0 e.symm),cond_false] at h1;by_cases e1:k=4000000
         ·subst e1;cases h1
         ·rw[QS (fun e=>e1 e.symm),cond_false] at h1;cases h1
       ·have z:∀ k,(Q6 (mstart nt j kk vk m [pl o] cs' jz).own k).live=true→k=0:=fun k h1=>by
         simp only[mstart,Q6] at h1;by_cases e0:k=0
         ·exact e0
         ·rw[QS (fun e=>e0 e.symm),cond_false] at h1;by_cases e1:k=4000000
          ·subst e1;cases h1
          ·rw[QS (fun e=>e1 e.symm),cond_false] at h1;cases h1
        exact rO ((z k h1).trans (z k' h2).symm)
      refine h.calls hm TZ ?_;refine Dg mq vc 0 _ _ _ σ none _ trivial bI hg fun e s' ai σ' h1 h2=>?_
      have main:(match Yx s' rs,Q6 s'.own 4000000,Ar kk vk (Q6 s'.own 0) with
       |some r,.stk l vs,some m'=>vs=[pl o]∧Vq [(0,some 0)] [.map 0] l∧Gy [] v r∧post m'
       |_,_,_=>False)→QI (J4 ai σ' rs) fun v=>∃ v' aM,DropTo σ v σ' v' aM∧R v' aM:=fun h=>by
       obtain⟨B',F',pl',tb',k1,k2⟩:=h2;split at h
       ·rename_i r l' cR m' hr jj pT;obtain⟨rfl,m1,m2,m3⟩:=h;have iR:=BO pT;obtain⟨w,h3,h4⟩:=WL k2 hr;rw[h3];have kR:=k2.obj 4000000;rw[jj] at kR;have rP:pl' 0=pl o:=by
         have:=Q_ [.map 0] l' [pl o] m1 kR;simp only[SRs,SR] at this;obtain⟨u',_,cB,⟨h5,_⟩,_⟩:=this;obtain rfl:pl o=u':=(List.cons.inj cB).1;simpa [Vm,Qd] using h5.symm
        have je:=k2.obj 0;rw[iR,rP] at je;have d_:=(Y4 v r w m2 h4).retd (B':=B) (pl':=pl) (tb':=tb) (n:=0) (fun j hj=>by omega) _ _ dM;have hle:σc.Le σ':=k1.f.trans k2.le;have gS:∀ d,d≠o→(Q6 s.own d).live=true→∀ i,Oid (pl d) i→σ'.get i=σ.get i:=fun d e hl i hi=>by
         have aj:=(hG.obj d).id_lt hl hi;have xi:i≠id:=fun nW=>hG.sep d o i e hl ah hi (by rw[iz,nW];rfl);cases hg:σ.get i with
         |none=>exact k1.d.2 i aj hg
         |some bb=>exact hle.2 _ _ (by rw[bF i xi];exact hg)
        have bS:∀ d,(Q6 (oset s.own o (.map kk vk m')) d).live=(Q6 s.own d).live:=fun d=>by
         rw[Qb];by_cases e:d=o
         ·subst e;rw[if_pos rfl,ah];rfl
         ·rw[if_neg e]
        refine⟨w,σ',.refl _ _ _,hK v _ w σ' (hx m' m3) k1.d ⟨hG.bf,xh.trans hle,hG.env,fun d=>?_,fun d i q1 q2=>hG.fresh d i (by rw[←bS d];exact q1) q2,fun d d' i aF q1 q2 q3 q4=>hG.sep d d' i aF (by rw[←bS d];exact q1) (by rw[←bS d'];exact q2) q3 q4,hG.free⟩ d_ fun q hq=>?_⟩
        ·simp only[Qb];by_cases e:d=o
         ·subst e;rw[if_pos rfl];exact je.retd cf fun _ _=>rfl
         ·rw[if_neg e];exact(hG.obj d).mono (.refl _) (fun _ _ h=>h) fun hl i hi=>gS d e hl i hi
        ·have xj:q≠o:=fun e=>hq (by rw[e,xe];exact List.mem_singleton.2 rfl);exact⟨bS q,rfl,fun hl i hi=>gS q xj hl i hi⟩
       ·exact h.elim
      cases e with
      |normal=>exact main h1
      |ret=>exact main h1
      |_=>exact h1.elim
     ·exact hx.elim
    ·exact hx.elim
   ·exact hx.elim
  ·exact hx.elim
 ·exact hx.elim
theorem Q1q {f:Nat}{kk vk:Kind}{sp:MSp kk vk}{ap:Ap}{j:Nat}(h:FC P f (KH ap j kk vk sp) j):XOk P f (KH ap j kk vk sp):=by
 intro B F pl tb s env σ d args vs K R hG ha hx hK;have:∃ t,T3 s.own j args=some t:=by
  unfold KH at hx;split at hx
  ·rename_i a args;split at hx
   ·rename_i l hl;split at hx
    ·rename_i o fM;exact⟨o,by simp[T3,hl,fM]⟩
    ·exact hx.elim
   ·exact hx.elim
  ·exact hx.elim
 obtain⟨t,ht⟩:=this;exact h B F pl tb s env σ d args vs K R t hG ha ht hx fun v s' u σ' k1 k2 k3 k4 _=>hK v s' B F pl tb u σ' k1 (.of hG.bf k2) k3 k4
def Fs (P:Program) (f:Nat) (x:XSp) (j:Nat):Prop:=XOk P f x∧FC P f x j
theorem XfOk.nil {xs:List (Nat×XSp)}:∀ f j,Qd ([]:List (Nat×Nat)) f=some j→∀ x,Qd xs f=some x→FC P f x j:=fun f j h=>by cases h
theorem XfOk.cons {xs:List (Nat×XSp)}{g k:Nat}{y:XSp}{l:List (Nat×Nat)}(hy:Qd xs g=some y) (h:FC P g y k) (t:∀ f j,Qd l f=some j→∀ x,Qd xs f=some x→FC P f x j):∀ f j,Qd ((g,k)::l) f=some j→∀ x,Qd xs f=some x→FC P f x j:=fun f j hf x hx=>by
 simp only[Qd] at hf;cases hb:Nat.beq g f with
 |true =>rw[hb] at hf;obtain rfl:=Nat.eq_of_beq_eq_true hb;obtain rfl:=osj hf;obtain rfl:=osj (hy.symm.trans hx);exact h
 |false=>rw[hb] at hf;exact t f j hf x hx
theorem Lc {f:Nat}{vc:VCode}{rs:List VResult}{nt:Nat}(h:Fun P f vc rs nt) (hm:P.follows .mixedOrders=true) {kk vk:Kind}(cf:(kk.flat&&vk.flat)=true) {sp:MSp kk vk}{ap:Ap}{j:Nat}
  (hb:∀ m cs iA c v post,sp ap m cs iA=some (c,v,post)→c→∃ (C:Cx) (L:List Value→List (Nat×LoopAnn)) (cs' jz:List SV),SVs.pure cs'=true∧SVs.pure jz=true∧(∀ σ vs,SRs P σ J3 Zr cs vs→SRs P σ J3 Zr cs' vs)∧(∀ σ vs,SRs P σ J3 Zr iA vs→SRs P σ J3 Zr jz vs)∧COk P C∧∀ vals,gwp C (L vals) vc 0 (CT vals rs v kk vk post) (mstart nt j kk vk m vals cs' jz)):Fs P f (KH ap j kk vk sp) j :=
 ⟨Q1q (Tl h hm cf hb),Tl h hm cf hb⟩
def C6 {kk vk:Kind}{E D:Type}(lc:AL E) (la:AL D) (pre:List (kk.T×vk.T)→E→D→Prop) (res:List (kk.T×vk.T)→E→D→SV) (post:List (kk.T×vk.T)→E→D→List (kk.T×vk.T)→Prop):MSp kk vk:=fun ap m cs iA=>match AL.dec ap lc cs,AL.dec ap la iA with
 |some c,some a=>some (pre m c a,res m c a,post m c a)
 |_,_=>none
theorem Tc {kk vk:Kind}{E D:Type}{lc:AL E}{la:AL D}{pre:List (kk.T×vk.T)→E→D→Prop}{res:List (kk.T×vk.T)→E→D→SV}{post:List (kk.T×vk.T)→E→D→List (kk.T×vk.T)→Prop}{ap:Ap}{m:List (kk.T×vk.T)}{cs iA:List SV}{c:Prop}{v:SV}{q:List (kk.T×vk.T)→Prop}
  (h:C6 lc la pre res post ap m cs iA=some (c,v,q)):∃ x y,AL.dec ap lc cs=some x∧AL.dec ap la iA=some y∧c=pre m x y∧v=res m x y∧q=post m x y:=by
 unfold C6 at h;split at h
 ·rename_i x y h1 h2;obtain⟨rfl,rfl,rfl⟩:=(by simpa using h:pre m x y=c∧res m x y=v∧post m x y=q);exact⟨x,y,h1,h2,rfl,rfl,rfl⟩
 ·cases h
theorem G_ {f:Nat}{vc:VCode}{rs:List VResult}{nt:Nat}(h:Fun P f vc rs nt) (hm:P.follows .mixedOrders=true) {ap:Ap}(eD:O8 P ap) {kk vk:Kind}(cf:(kk.flat&&vk.flat)=true) {j:Nat}{E D:Type}{lc:AL E}{la:AL D}{pre:List (kk.T×vk.T)→E→D→Prop}{res:List (kk.T×vk.T)→E→D→SV}{post:List (kk.T×vk.T)→E→D→List (kk.T×vk.T)→Prop}{μ:E→D→Nat}
  {C:Cx}(aB:COk P C) (oO:Qd C.xf f=none) {L:List (kk.T×vk.T)→E→D→List Value→List (Nat×LoopAnn)}{V:Nat→List (kk.T×vk.T)→E→D→Prop}
  (hq:∀ n m x y,(∀ vals,gwp {C with xs:=(f,KH ap j kk vk (C6 lc la (fun m x y=>pre m x y∧μ x y<n) res post))::C.xs} (L m x y vals) vc 0 (CT vals rs (res m x y) kk vk (post m x y)) (mstart nt j kk vk m vals (AL.can lc x) (AL.can la y)))=V n m x y)
  (hb:∀ n m x y,pre m x y→μ x y=n→V n m x y):Fs P f (KH ap j kk vk (C6 lc la pre res post)) j:=by
 have tL:∀ (x:XSp) g k,Qd C.xf g=some k→∀ y,Qd ((f,x)::C.xs) g=some y→FC P g y k:=fun x g k hg y hy=>by
  simp only[Qd] at hy;cases hb:Nat.beq f g with
  |true=>obtain rfl:=Nat.eq_of_beq_eq_true hb;rw[oO] at hg;cases hg
  |false=>rw[hb] at hy;exact aB.xf g k hg y hy
 have key:∀ n,Fs P f (KH ap j kk vk (C6 lc la (fun m x y=>pre m x y∧μ x y<n) res post)) j:=by
  intro n;induction n using Nat.strongRecOn with
  |ind n ih =>refine Lc h hm cf fun m cs iA c v q hs hc=>?_;obtain⟨x,y,h1,h2,rfl,rfl,rfl⟩:=Tc hs;obtain⟨hp,hn⟩:=hc;exact⟨{C with xs:=(f,KH ap j kk vk (C6 lc la (fun m x' y'=>pre m x' y'∧μ x' y'<μ x y) res post))::C.xs},L m x y,AL.can lc x,AL.can la y,AL.can_pure lc x,AL.can_pure la y,fun σ vs hv=>AL.dec_sound eD lc h1 hv,fun σ vs hv=>AL.dec_sound eD la h2 hv,⟨aB.cs,XsOk.cons (ih _ hn).1 aB.xs,aB.it,aB.yl,aB.iy,tL _⟩,(hq (μ x y) m x y).mpr (hb _ m x y hp rfl)⟩
 refine Lc h hm cf fun m cs iA c v q hs hc=>?_;obtain⟨x,y,h1,h2,rfl,rfl,rfl⟩:=Tc hs;exact⟨{C with xs:=(f,KH ap j kk vk (C6 lc la (fun m x' y'=>pre m x' y'∧μ x' y'<μ x y) res post))::C.xs},L m x y,AL.can lc x,AL.can la y,AL.can_pure lc x,AL.can_pure la y,fun σ vs hv=>AL.dec_sound eD lc h1 hv,fun σ vs hv=>AL.dec_sound eD la h2 hv,⟨aB.cs,XsOk.cons (key (μ x y)).1 aB.xs,aB.it,aB.yl,aB.iy,tL _⟩,(hq (μ x y) m x y).mpr (hb _ m x y hc rfl)⟩
end
end Go.V
namespace Go.V
open Go
def callV (ap:Ap) (sp:CSp):XSp:=fun d args s K =>
 let s1:=(⟨s.env++args,s.own,s.nx⟩:St).frzs (Nv args);let a1:=s1.env.drop s.env.length
 bif SVs.pure a1 then (match sp ap a1 with
  |some (c,v,bs)=>bif v.ret bs.length&&bs.all OB.isL then c∧K (v.ren d 500000) ((⟨s1.env.take s.env.length,s1.own,s1.nx⟩:St).makes d 500000 0 bs) else False
  |none=>False) else False
section
variable {P:Program}
theorem SRs.split {B:Heap}{pl:Nat→Value}{tb:Nat→Option Bool}:∀ {a:List SV}{u v:List Value},SRs P B pl tb a (u++v)→SRs P B pl tb (a.take u.length) u∧SRs P B pl tb (a.drop u.length) v
 |a,[],v,h=>⟨by simp[SRs],by simpa using h⟩
 |[],x::u,v,h=>by simp only[SRs] at h;cases h
 |s::a,x::u,v,h=>by simp only[SRs,List.cons_append] at h;obtain⟨y,ys,e,h1,h2⟩:=h;obtain⟨rfl,rfl⟩:=List.cons.inj e;obtain⟨h3,h4⟩:=SRs.split h2;simp only[List.length_cons,List.take_succ_cons,List.drop_succ_cons,SRs];exact⟨⟨_,_,rfl,h1,h3⟩,h4⟩
end
end Go.V
namespace Go.V
open Go
def pj4 {A B C D E:Type}(x:A×B×C×D×E):E:=x.2.2.2.2
def pj8 {A B C D A' B' C' D' E:Type}(x:A×B×C×D×A'×B'×C'×D'×E):E:=x.2.2.2.2.2.2.2.2
def Q1 {A B C D A' B' C' D' A1 B1 C1 D1 A2 B2 C2 D2 E:Type}(x:A×B×C×D×A'×B'×C'×D'×A1×B1×C1×D1×A2×B2×C2×D2×E):E:=x.2.2.2.2.2.2.2.2.2.2.2.2.2.2.2.2
theorem E9 (x:Nat):BitVec.ofInt 64 (x:Int)=BitVec.ofNat 64 x:=by apply BitVec.eq_of_toNat_eq;simp
theorem toNat_ofInt {x:Nat}(h:x<9223372036854775808):(BitVec.ofInt 64 (x:Int)).toNat=x:=by rw[E9,BitVec.toNat_ofNat,Nat.mod_eq_of_lt (by omega)]
end Go.V
namespace Go.Proofs.Tryz
open Go Go.V Go.Proofs
def inI (n a b:Int):Bool:=decide (a≤n)&&decide (n≤b)
def Ql (hk:Int) (lw:List Int):Int:=if !inI hk 1 24 then 2 else if 96<lw.length then 5 else if lw.length=0 then 7 else if lw.any (fun x=>!inI x 0 (hk-1)) then 2 else 0
def Q7y (lw a:List Int) (w:Int) (e:Nat):Bool:=lw.getD e 0==lw.getD w.toNat 0&&!(a.contains (e:Int))
def step (lw:List Int) (a:List Int) (w:Int):List Int:=match (List.range lw.length).find? (Q7y lw a w) with
 |some e=>a.set w.toNat e
 |none=>a
def Fl (l:List Int) (p:Int→Bool):Int:=match l.findIdx? p with|some i=>(i:Int)|none=>-1
section
variable {α:Type}(R:α→α→Bool)
def Q22 (a:α):List α→Nat
 |[]=>0
 |x::r=>if R a x then max (Q22 x r+1) (Q22 a r) else Q22 a r
end
def Jz (lw:List Int) (row:Int):List UInt8:=lw.map fun k=>if row.toNat.testBit k.toNat then 120 else 46
def Qn (hd:Int) (rows:List Int):Int:=if !inI hd 1 24 then 2 else if 60<rows.length then 5 else if rows.length=0 then 7 else if rows.any (fun x=>!inI x 0 (2 ^ hd.toNat-1)) then 2 else 0
def ZE (hk:Int) (lw:List Int) (hd:Int) (rows:List Int):Int:=if Ql hk lw≠0 then Ql hk lw else if Qn hd rows≠0 then Qn hd rows else if hd≠hk then 4 else 0
def Qs (hk:Int) (lw:List Int) (hd:Int) (rows:List Int):List (List UInt8):=if ZE hk lw hd rows=0 then rows.map (Jz lw) else []
theorem Ro {hk:Int}{lw:List Int}(h:Ql hk lw=0):1≤hk∧hk≤24∧lw.length≤96∧lw.length≠0∧∀ x∈lw,0≤x∧x<hk:=by
 unfold Ql at h;split at h
 ·cases h
 ·rename_i h1;split at h
  ·cases h
  ·rename_i h2;split at h
   ·cases h
   ·rename_i h3;split at h
    ·cases h
    ·rename_i h4;have h1:1≤hk∧hk≤24:=by simpa [inI] using h1
     refine⟨h1.1,h1.2,by omega,h3,fun x hx=>?_⟩;have h5:∀ x∈lw,inI x 0 (hk-1)=true:=by simpa using h4
     have:=h5 x hx;simp only[inI,Bool.and_eq_true,decide_eq_true_eq] at this;omega
def JR (r:Int) (n:Nat):List Bool:=(List.range n).map fun k=>r.toNat.testBit k
theorem MJ (r:Int) (n:Nat):(JR r n).length=n:=by simp[JR]
theorem TY {r:Int}{n k:Nat}(h:k<n):(JR r n).getD k false=r.toNat.testBit k:=by rw[Qw (by simpa [JR] using h)];simp[JR]
theorem F7 (r:Int) (n:Nat):JR r (n+1)=JR r n++[r.toNat.testBit n]:=by simp[JR,List.range_succ]
theorem Il (n:Nat):Int.tdiv (n:Int) 2=((n / 2:Nat):Int):=rfl
theorem Ie (n:Nat):Int.tmod (n:Int) 2=((n % 2:Nat):Int):=rfl
def rowAt (rows:List Int) (p:Int):Nat:=(rows.getD (p.toNat % rows.length) 0).toNat
def NP (lw rows:List Int) (c:List (List UInt8)):Bool:=c.any (fun s=>decide (110<s.length))||(decide (110<lw.length)||decide (70<rows.length)||decide (70<c.length))
end Go.Proofs.Tryz
namespace Go.Proofs.Tryz
open Go Go.V Go.Proofs
def MU:AL (Int×Int×Int):=(.cons (.k (.i .i64)) (.cons (.k (.i .i64)) (.one (.k (.i .i64)))))
def Tx (d:Int×Int×Int):Prop:=True
def M8 (d:Int×Int×Int):SV:=.val .bo (inI d.1 d.2.1 d.2.2)
def NQ (d:Int×Int×Int):List OB:=[]
def Vc:CSp:=K8 MU Tx M8 NQ
def Yv (n:Int) (a:Int) (b:Int):Prop :=
 (((decide (n≥a))&&(decide (n≤b)))=(inI n a b)∧(True))
def DI:Cx:=⟨[],[],15,[],0,[],[],[],[],false,[],[],[],[]⟩
def S3 (n:Int) (a:Int) (b:Int):List (Nat×LoopAnn):=[]
theorem RJ (d:Int×Int×Int):gwp (DI) (S3 d.1 d.2.1 d.2.2) c7 0 (Vt [.tmp 6] (M8 d) (NQ d)) (QL 15 (AL.can MU d))=Yv d.1 d.2.1 d.2.2:=by kernel_rfl
abbrev Rm:Prop:=OkC Tryz.prog 7 Vc
theorem RG (h:∀ (n:Int) (a:Int) (b:Int),(True)→Yv n a b):OkC Tryz.prog 7 Vc :=
 Z3 Q6r mixed (C:=DI) (V:=fun (d:Int×Int×Int)=>Yv d.1 d.2.1 d.2.2) ⟨.nil,XsOk.nil,ItsOk.nil,YlOk.nil,IysOk.nil,XfOk.nil⟩ (RJ) fun d hp=>h d.1 d.2.1 d.2.2 hp
theorem Gu:Rm:=RG fun n a b _=>by simp[Yv,inI]
def VU:AL (Int×List Int):=(.one (.agg (.cons (.k (.i .i64)) (.one (.k (.list (.i .i64)))))))
def GL (d:Int×List Int):Prop:=True
def KA (d:Int×List Int):SV:=.val (.i .i64) (Ql d.1 d.2)
def KR (d:Int×List Int):List OB:=[]
def Yz:CSp:=K8 VU GL KA KR
def Xe (hk:Int) (lw:List Int):Prop :=
 (True)∧((!(inI hk (1:Int) (24:Int)))=true →
  ((2:Int)=(Ql hk lw)∧(True))) ∧
 ((!(inI hk (1:Int) (24:Int)))=false →
  ((decide ((lI lw) > (96:Int)))=true →
   ((5:Int)=(Ql hk lw)∧(True))) ∧
  ((decide ((lI lw) > (96:Int)))=false →
   (((lI lw)==(0:Int))=true →
    ((7:Int)=(Ql hk lw)∧(True))) ∧
   (((lI lw)==(0:Int))=false →
    ∃ (e3:Unit) (d30:Int),((True∧(0:Int)=d30∧True)∧((hk=hk∧lw=lw∧(([]:List SV)=[]))∧True)) ∧
    LoopP (fun (d3:Int) (q3:(Int)→Prop) =>
     ((decide (d3<(lI lw)))=true →
      (0≤d3)∧(d3<(List.length lw))∧(I64 (hk-(1:Int)))∧(True)∧((!(inI (gD lw d3 0) (0:Int) (hk-(1:Int))))=true →
       ((2:Int)=(Ql hk lw)∧(True))) ∧
      ((!(inI (gD lw d3 0) (0:Int) (hk-(1:Int))))=false →
       (I64 (d3+(1:Int)))∧(∃ d4:Int,((True∧(d3+(1:Int))=d4∧True)∧((hk=hk∧lw=lw∧(([]:List SV)=[]))∧True))∧q3 d4))) ∧
     ((decide (d3<(lI lw)))=false →
      ((0:Int)=(Ql hk lw)∧(True)))) d30)))
def VN:Cx:=⟨[],[(7,Vc)],33,[],0,[],[],[],[],false,[],[],[],[]⟩
def B7 (hk:Int) (lw:List Int):List (Nat×LoopAnn):=[(0,⟨Unit,Int,[1,3],fun e x=>[.box 1 0,.val (.i .i64) x],fun e x=>[(1,.slot 1,.cells [.val (.i .i64) hk,.val (.list (.i .i64)) lw] (some 24))]⟩)]
theorem B5 (d:Int×List Int):gwp (VN) (B7 d.1 d.2) c6 0 (Vt [.tmp 2] (KA d) (KR d)) (QL 33 (AL.can VU d))=Xe d.1 d.2:=by kernel_rfl
abbrev D_:Prop:=OkC Tryz.prog 6 Yz
theorem Bu (h:∀ (hk:Int) (lw:List Int),(True)→Xe hk lw):OkC Tryz.prog 6 Yz :=
 Z3 Q5a mixed (C:=VN) (V:=fun (d:Int×List Int)=>Xe d.1 d.2) ⟨(.cons Gu .nil),XsOk.nil,ItsOk.nil,YlOk.nil,IysOk.nil,XfOk.nil⟩ (B5) fun d hp=>h d.1 d.2 hp
theorem Bf:D_:=Bu fun hk lw _=>by
 unfold Xe;(try delta lI gD sT I64 Q1 pj8 pj4);simp only[true_and,and_true,eq_self_iff_true,exists_eq_left',exists_const,decide_eq_true_eq,decide_eq_false_iff_not,beq_iff_eq,bne_iff_ne,ne_eq,beq_eq_false_iff_ne,bne_eq_false_iff_eq,Bool.not_eq_true',Bool.not_eq_false',Bool.not_eq_true,Bool.not_eq_false,Int.toNat_natCast,Int.ofNat_lt,gt_iff_lt,ge_iff_le];refine⟨fun h1=>by simp[Ql,h1],fun h1=>⟨fun h2=>?_,fun h2=>⟨fun h3=>?_,fun h3=>?_⟩⟩⟩
 ·have:96<lw.length:=by omega
  simp[Ql,h1,this]
 ·have h3:lw.length=0:=by omega
  simp[Ql,h1,h3]
 have gO:¬ 96<lw.length:=by omega
 have gU:¬ lw.length=0:=by omega
 have hi:1≤hk∧hk≤24:=by simpa [inI] using h1
 have nj:Ql hk lw=if lw.any (fun x=>!inI x 0 (hk-1)) then 2 else 0:=by simp only[Ql,h1,gO,gU];simp
 refine LoopP.count lw.length (fun k=>(lw.take k).any (fun x=>!inI x 0 (hk-1))=false) (by simp) fun k a9 hJ q hq=>?_;simp only[true_and,and_true,eq_self_iff_true,exists_eq_left',exists_const,decide_eq_true_eq,decide_eq_false_iff_not,beq_iff_eq,bne_iff_ne,ne_eq,beq_eq_false_iff_ne,bne_eq_false_iff_eq,Bool.not_eq_true',Bool.not_eq_false',Bool.not_eq_true,Bool.not_eq_false,Int.toNat_natCast,Int.ofNat_lt,gt_iff_lt,ge_iff_le,Q7];refine⟨fun aj=>?_,fun bj=>?_⟩
 ·rw[Qw aj];refine⟨by omega,aj,by omega,fun hx=>?_,fun hx=>⟨by omega,hq aj ?_⟩⟩
  ·rw[nj,if_pos (List.any_eq_true.2 ⟨lw[k],List.getElem_mem aj,by simp[hx]⟩)]
  ·rw[Z6 aj,List.any_append,hJ];simp[hx]
 ·rw[List.take_of_length_le (by omega)] at hJ;rw[nj,hJ];rfl
def N9:AL ((Int×List Int)×Int×List Int):=(.cons (.agg (.cons (.k (.i .i64)) (.one (.k (.list (.i .i64)))))) (.one (.agg (.cons (.k (.i .i64)) (.one (.k (.list (.i .i64))))))))
def BI (d:(Int×List Int)×Int×List Int):Prop:=d.1.2.length≤1000000
def VZ (d:(Int×List Int)×Int×List Int):SV:=.val .bo (decide (d.1.1=d.2.1)&&(d.1.2==d.2.2))
def VE (d:(Int×List Int)×Int×List Int):List OB:=[]
def V2:CSp:=K8 N9 BI VZ VE
def XT (hk:Int) (lw:List Int) (a9:Int) (e_:List Int):Prop :=
 (((hk != a9)||((lI lw) != (lI e_)))=true →
  (false=(decide (hk=a9)&&(lw==e_))∧(True))) ∧
 (((hk != a9)||((lI lw) != (lI e_)))=false →
  ∃ (e3:Unit) (d30:Int),((True∧True∧(0:Int)=d30∧True)∧((hk=hk∧lw=lw∧(([]:List SV)=[]))∧(a9=a9∧e_=e_∧(([]:List SV)=[]))∧True)) ∧
  LoopP (fun (d3:Int) (q3:(Int)→Prop) =>
   ((decide (d3<(lI lw)))=true →
    (0≤d3)∧(d3<(List.length lw))∧(0≤d3)∧(d3<(List.length e_))∧(((gD lw d3 0) != (gD e_ d3 0))=true →
     (false=(decide (hk=a9)&&(lw==e_))∧(True))) ∧
    (((gD lw d3 0) != (gD e_ d3 0))=false →
     (I64 (d3+(1:Int)))∧(∃ d4:Int,((True∧True∧(d3+(1:Int))=d4∧True)∧((hk=hk∧lw=lw∧(([]:List SV)=[]))∧(a9=a9∧e_=e_∧(([]:List SV)=[]))∧True))∧q3 d4))) ∧
   ((decide (d3<(lI lw)))=false →
    (true=(decide (hk=a9)&&(lw==e_))∧(True)))) d30)
def UT:Cx:=⟨[],[],38,[],0,[],[],[],[],false,[],[],[],[]⟩
def P3 (hk:Int) (lw:List Int) (a9:Int) (e_:List Int):List (Nat×LoopAnn):=[(0,⟨Unit,Int,[2,3,5],fun e x=>[.box 2 0,.box 3 0,.val (.i .i64) x],fun e x=>[(2,.slot 2,.cells [.val (.i .i64) hk,.val (.list (.i .i64)) lw] (some 24)),(3,.slot 3,.cells [.val (.i .i64) a9,.val (.list (.i .i64)) e_] (some 24))]⟩)]
theorem Pm (d:(Int×List Int)×Int×List Int):gwp (UT) (P3 d.1.1 d.1.2 d.2.1 d.2.2) c12 0 (Vt [.tmp 4] (VZ d) (VE d)) (QL 38 (AL.can N9 d))=XT d.1.1 d.1.2 d.2.1 d.2.2:=by kernel_rfl
abbrev Hz:Prop:=OkC Tryz.prog 12 V2
theorem Pq (h:∀ (hk:Int) (lw:List Int) (a9:Int) (e_:List Int),(lw.length≤1000000)→XT hk lw a9 e_):OkC Tryz.prog 12 V2 :=
 Z3 Q1a mixed (C:=UT) (V:=fun (d:(Int×List Int)×Int×List Int)=>XT d.1.1 d.1.2 d.2.1 d.2.2) ⟨.nil,XsOk.nil,ItsOk.nil,YlOk.nil,IysOk.nil,XfOk.nil⟩ (Pm) fun d hp=>h d.1.1 d.1.2 d.2.1 d.2.2 hp
theorem HS:Hz:=Pq fun hk lw a9 e_ hl=>by
 unfold XT;(try delta lI gD sT I64 Q1 pj8 pj4);simp only[true_and,and_true,eq_self_iff_true,exists_eq_left',exists_const,decide_eq_true_eq,decide_eq_false_iff_not,beq_iff_eq,bne_iff_ne,ne_eq,beq_eq_false_iff_ne,bne_eq_false_iff_eq,Bool.not_eq_true',Bool.not_eq_false',Bool.not_eq_true,Bool.not_eq_false,Int.toNat_natCast,Int.ofNat_lt,gt_iff_lt,ge_iff_le,Bool.or_eq_true,Bool.or_eq_false_iff];refine⟨fun h=>?_,fun ⟨h0,h⟩=>?_⟩
 ·symm;simp only[Bool.and_eq_false_iff,decide_eq_false_iff_not,beq_eq_false_iff_ne]
  rcases h with h|h
  ·exact .inl h
  ·exact .inr (by rintro rfl;exact h rfl)
 have h:lw.length=e_.length:=by omega
 subst h0;refine LoopP.count lw.length (fun k=>lw.take k=e_.take k) rfl fun k a9 hJ q hq=>?_;simp only[true_and,and_true,eq_self_iff_true,exists_eq_left',exists_const,decide_eq_true_eq,decide_eq_false_iff_not,beq_iff_eq,bne_iff_ne,ne_eq,beq_eq_false_iff_ne,bne_eq_false_iff_eq,Bool.not_eq_true',Bool.not_eq_false',Bool.not_eq_true,Bool.not_eq_false,Int.toNat_natCast,Int.ofNat_lt,gt_iff_lt,ge_iff_le,Q7];refine⟨fun aj=>?_,fun bj=>?_⟩
 ·rw[Qw aj,Qw (by omega)];refine⟨by omega,aj,by omega,by omega,fun hx=>?_,fun hx=>⟨by omega,hq aj ?_⟩⟩
  ·symm;simp only[decide_true,Bool.true_and,beq_eq_false_iff_ne];rintro rfl;exact hx rfl
  ·rw[Z6 aj,Z6 (by omega),hJ,hx]
 ·rw[List.take_of_length_le (by omega),List.take_of_length_le (by omega)] at hJ;simp[hJ]
def ZT:AL (List Int×((Int→Prop)×(Int→Bool))):=(.cons (.k (.list (.i .i64))) (.one (.fn [(.i .i64)] .bo)))
def XP (d:List Int×((Int→Prop)×(Int→Bool))):Prop:=d.1.length≤1000000∧∀ x∈d.1,d.2.1 x
def ZP (d:List Int×((Int→Prop)×(Int→Bool))):SV:=.val (.i .i64) (Fl d.1 d.2.2)
def ZO (d:List Int×((Int→Prop)×(Int→Bool))):List OB:=[]
def Z0:CSp:=K8 ZT XP ZP ZO
def Qy (l:List Int) (p:(Int→Prop)×(Int→Bool)):Prop :=
 ∃ (e2:Unit) (d20:Int),((l=l∧(SV.pf [(.i .i64)] .bo p.1 p.2=SV.pf [(.i .i64)] .bo p.1 p.2)∧(lI l)=(lI l)∧(0:Int)=d20∧True)∧(True)) ∧
 LoopP (fun (d2:Int) (q2:(Int)→Prop) =>
  ((decide (d2<(lI l)))=true →
   (0≤d2)∧(d2<(List.length l))∧(p.1 (gD l d2 0))∧((p.2 (gD l d2 0))=true →
    (d2=(Fl l p.2)∧(True))) ∧
   ((p.2 (gD l d2 0))=false →
    (I64 (d2+(1:Int)))∧(∃ d3:Int,((l=l∧(SV.pf [(.i .i64)] .bo p.1 p.2=SV.pf [(.i .i64)] .bo p.1 p.2)∧(lI l)=(lI l)∧(d2+(1:Int))=d3∧True)∧(True))∧q2 d3))) ∧
  ((decide (d2<(lI l)))=false →
   ((-1:Int)=(Fl l p.2)∧(True)))) d20
def ZX:Cx:=⟨[],[],19,[],0,[],[],[],[],false,[],[],[],[]⟩
def X_ (l:List Int) (p:(Int→Prop)×(Int→Bool)):List (Nat×LoopAnn):=[(0,⟨Unit,Int,[0,1,7,8],fun e x=>[.val (.list (.i .i64)) l,.pf [(.i .i64)] .bo p.1 p.2,.val (.i .i64) (((List.length l):Nat):Int),.val (.i .i64) x],fun e x=>[]⟩)]
theorem W5 (d:List Int×((Int→Prop)×(Int→Bool))):gwp (ZX) (X_ d.1 d.2) c91 0 (Vt [.tmp 4] (ZP d) (ZO d)) (QL 19 (AL.can ZT d))=Qy d.1 d.2:=by kernel_rfl
abbrev Wf:Prop:=OkC Tryz.prog 91 Z0
theorem W9 (h:∀ (l:List Int) (p:(Int→Prop)×(Int→Bool)),(l.length≤1000000∧∀ x∈l,p.1 x)→Qy l p):OkC Tryz.prog 91 Z0 :=
 Z3 O_ mixed (C:=ZX) (V:=fun (d:List Int×((Int→Prop)×(Int→Bool)))=>Qy d.1 d.2) ⟨.nil,XsOk.nil,ItsOk.nil,YlOk.nil,IysOk.nil,XfOk.nil⟩ (W5) fun d hp=>h d.1 d.2 hp
theorem Av {l:List Int}{p:Int→Bool}{k:Nat}(hk:k<l.length) (h:p l[k]=true) (hJ:(l.take k).any p=false):Fl l p=k:=by
 have:l.findIdx? p=some k:=by rw[List.findIdx?_eq_some_iff_getElem];refine⟨hk,h,fun j hj=>?_⟩;have hn:=List.any_eq_false.1 hJ l[j] (List.mem_take_iff_getElem.2 ⟨j,by omega,rfl⟩);simpa using hn
 simp[Fl,this]
theorem Am {l:List Int}{p:Int→Bool}(hJ:l.any p=false):Fl l p=-1:=by
 have:l.findIdx? p=none:=by rw[List.findIdx?_eq_none_iff];intro x hx;have:=List.any_eq_false.1 hJ x hx;simpa using this
 simp[Fl,this]
theorem Ri (l:List Int) (p:Int→Bool):decide (Fl l p≥0)=l.any p:=by
 unfold Fl;cases h:l.findIdx? p with
 |none =>
  have:=List.findIdx?_eq_none_iff.1 h;have:l.any p=false:=by rw[List.any_eq_false];intro x hx;simp[this x hx]
  rw[this];rfl
 |some i =>obtain⟨h1,h2,_⟩:=List.findIdx?_eq_some_iff_getElem.1 h;rw[List.any_eq_true.2 ⟨l[i],List.getElem_mem h1,h2⟩];simp
theorem W2:Wf:=W9 fun l p hp=>by
 unfold Qy;(try delta lI gD sT I64 Q1 pj8 pj4);simp only[true_and,and_true,eq_self_iff_true,exists_eq_left',exists_const,decide_eq_true_eq,decide_eq_false_iff_not,beq_iff_eq,bne_iff_ne,ne_eq,beq_eq_false_iff_ne,bne_eq_false_iff_eq,Bool.not_eq_true',Bool.not_eq_false',Bool.not_eq_true,Bool.not_eq_false,Int.toNat_natCast,Int.ofNat_lt,gt_iff_lt,ge_iff_le];refine LoopP.count l.length (fun k=>(l.take k).any p.2=false) (by simp) fun k a9 hJ q hq=>?_;simp only[true_and,and_true,eq_self_iff_true,exists_eq_left',exists_const,decide_eq_true_eq,decide_eq_false_iff_not,beq_iff_eq,bne_iff_ne,ne_eq,beq_eq_false_iff_ne,bne_eq_false_iff_eq,Bool.not_eq_true',Bool.not_eq_false',Bool.not_eq_true,Bool.not_eq_false,Int.toNat_natCast,Int.ofNat_lt,gt_iff_lt,ge_iff_le,Q7];refine⟨fun aj=>?_,fun bj=>?_⟩
 ·rw[Qw aj];refine⟨by omega,aj,hp.2 _ (List.getElem_mem aj),fun hx=>?_,fun hx=>⟨by omega,hq aj ?_⟩⟩
  ·rw[Av aj hx hJ]
  ·rw[Z6 aj,List.any_append,hJ];simp[hx]
 ·rw[List.take_of_length_le (by omega)] at hJ;rw[Am hJ]
def Zv:AL (List Int×((Int→Prop)×(Int→Bool))):=(.cons (.k (.list (.i .i64))) (.one (.fn [(.i .i64)] .bo)))
def J_ (d:List Int×((Int→Prop)×(Int→Bool))):Prop:=d.1.length≤1000000∧∀ x∈d.1,d.2.1 x
def Zn (d:List Int×((Int→Prop)×(Int→Bool))):SV:=.val .bo (d.1.any d.2.2)
def Zk (d:List Int×((Int→Prop)×(Int→Bool))):List OB:=[]
def Qv:CSp:=K8 Zv J_ Zn Zk
def QG (l:List Int) (p:(Int→Prop)×(Int→Bool)):Prop :=
 (l.length≤1000000∧∀ x∈l,(fun (x1:Int)=>p.1 x1) x)∧((decide ((Fl l (fun (x1:Int)=>(p.2 x1)))≥(0:Int)))=(l.any p.2)∧(True))
def Zu:Cx:=⟨[],[(91,Z0)],9,[],0,[],[],[],[],false,[],[],[],[]⟩
def Xt (l:List Int) (p:(Int→Prop)×(Int→Bool)):List (Nat×LoopAnn):=[]
theorem Xs (d:List Int×((Int→Prop)×(Int→Bool))):gwp (Zu) (Xt d.1 d.2) c63 0 (Vt [.tmp 4] (Zn d) (Zk d)) (QL 9 (AL.can Zv d))=QG d.1 d.2:=by kernel_rfl
abbrev Xq:Prop:=OkC Tryz.prog 63 Qv
theorem Xp (h:∀ (l:List Int) (p:(Int→Prop)×(Int→Bool)),(l.length≤1000000∧∀ x∈l,p.1 x)→QG l p):OkC Tryz.prog 63 Qv :=
 Z3 Q0f mixed (C:=Zu) (V:=fun (d:List Int×((Int→Prop)×(Int→Bool)))=>QG d.1 d.2) ⟨(.cons W2 .nil),XsOk.nil,ItsOk.nil,YlOk.nil,IysOk.nil,XfOk.nil⟩ (Xs) fun d hp=>h d.1 d.2 hp
theorem Zt:Xq:=Xp fun l p hp=>by exact⟨hp,Ri l p.2,trivial⟩
def KS:AL (Int×Int×Int):=(.cons (.k (.i .i64)) (.cons (.ptr (.one (.k (.i .i64)))) (.one (.ptr (.one (.k (.i .i64)))))))
def Mr (d:Int×Int×Int):Prop:=True
def YN (d:Int×Int×Int):SV:=.val .bo (decide (d.1<d.2.1)||decide (d.2.2<d.1))
def YI (d:Int×Int×Int):List OB:=[]
def WQ:CSp:=K8 KS Mr YN YI
def Wj (n:Int) (a:Int) (b:Int):Prop :=
 (((decide (n<a))||(decide (n > b)))=(decide (n<a)||decide (b<n))∧(True))
def Kk:Cx:=⟨[],[],13,[],0,[],[],[],[],false,[],[],[],[]⟩
def GD (n:Int) (a:Int) (b:Int):List (Nat×LoopAnn):=[]
theorem DM (d:Int×Int×Int):gwp (Kk) (GD d.1 d.2.1 d.2.2) c64 0 (Vt [.tmp 4] (YN d) (YI d)) (QL 13 (AL.can KS d))=Wj d.1 d.2.1 d.2.2:=by kernel_rfl
abbrev G2:Prop:=OkC Tryz.prog 64 WQ
theorem GB (h:∀ (n:Int) (a:Int) (b:Int),(True)→Wj n a b):OkC Tryz.prog 64 WQ :=
 Z3 ON mixed (C:=Kk) (V:=fun (d:Int×Int×Int)=>Wj d.1 d.2.1 d.2.2) ⟨.nil,XsOk.nil,ItsOk.nil,YlOk.nil,IysOk.nil,XfOk.nil⟩ (DM) fun d hp=>h d.1 d.2.1 d.2.2 hp
theorem Gp:G2:=GB fun n a b _=>by exact⟨rfl,trivial⟩
def UI:AL (Int×Int×List Int):=(.cons (.k (.i .i64)) (.cons (.k (.i .i64)) (.one (.k (.list (.i .i64))))))
def Bc (d:Int×Int×List Int):Prop:=d.2.2.length≤1000000
def VG (d:Int×Int×List Int):SV:=.val .bo (!(d.2.2.any fun n=>decide (n<d.1)||decide (d.2.1<n)))
def Vy (d:Int×Int×List Int):List OB:=[]
def WI:CSp:=K8 UI Bc VG Vy
def YC (a:Int) (b:Int) (l:List Int):Prop :=
 (l.length≤1000000∧∀ x∈l,(fun (x1:Int)=>True) x)∧((!(l.any (fun (x1:Int)=>(decide (x1<a)||decide (b<x1)))))=(!(l.any fun n=>decide (n<a)||decide (b<n)))∧(True))
def Uz:Cx:=⟨[],[(63,Qv),(64,WQ)],11,[],0,[],[],[],[],false,[],[],[],[]⟩
def HD (a:Int) (b:Int) (l:List Int):List (Nat×LoopAnn):=[]
theorem HT (d:Int×Int×List Int):gwp (Uz) (HD d.1 d.2.1 d.2.2) c38 0 (Vt [.tmp 6] (VG d) (Vy d)) (QL 11 (AL.can UI d))=YC d.1 d.2.1 d.2.2:=by kernel_rfl
abbrev P4:Prop:=OkC Tryz.prog 38 WI
theorem P1 (h:∀ (a:Int) (b:Int) (l:List Int),(l.length≤1000000)→YC a b l):OkC Tryz.prog 38 WI :=
 Z3 OT mixed (C:=Uz) (V:=fun (d:Int×Int×List Int)=>YC d.1 d.2.1 d.2.2) ⟨(.cons Zt (.cons Gp .nil)),XsOk.nil,ItsOk.nil,YlOk.nil,IysOk.nil,XfOk.nil⟩ (HT) fun d hp=>h d.1 d.2.1 d.2.2 hp
theorem UL:P4:=P1 fun a b l h=>by exact⟨⟨h,fun _ _=>trivial⟩,rfl,trivial⟩
def Ma:AL (Int×List Int):=(.one (.agg (.cons (.k (.i .i64)) (.one (.k (.list (.i .i64)))))))
def P2 (d:Int×List Int):Prop:=d.2.length≤1000000
def N7 (d:Int×List Int):SV:=.val (.i .i64) (Ql d.1 d.2)
def UO (d:Int×List Int):List OB:=[]
def Ub:CSp:=K8 Ma P2 N7 UO
def WD (hk:Int) (lw:List Int):Prop :=
 ([hk].length≤1000000)∧((!(!([hk].any fun n=>decide (n<(1:Int))||decide ((24:Int)<n))))=true →
  ((2:Int)=(Ql hk lw)∧(True))) ∧
 ((!(!([hk].any fun n=>decide (n<(1:Int))||decide ((24:Int)<n))))=false →
  ((decide ((lI lw) > (96:Int)))=true →
   ((5:Int)=(Ql hk lw)∧(True))) ∧
  ((decide ((lI lw) > (96:Int)))=false →
   (((lI lw)==(0:Int))=true →
    ((7:Int)=(Ql hk lw)∧(True))) ∧
   (((lI lw)==(0:Int))=false →
    (I64 (hk-(1:Int)))∧(lw.length≤1000000)∧((!(!(lw.any fun n=>decide (n<(0:Int))||decide ((hk-(1:Int))<n))))=true →
     ((2:Int)=(Ql hk lw)∧(True))) ∧
    ((!(!(lw.any fun n=>decide (n<(0:Int))||decide ((hk-(1:Int))<n))))=false →
     ((0:Int)=(Ql hk lw)∧(True))))))
def NZ:Cx:=⟨[(3,(.i .i64))],[(38,WI)],27,[],0,[],[],[],[],false,[],[],[],[]⟩
def PC (hk:Int) (lw:List Int):List (Nat×LoopAnn):=[]
theorem Tw (d:Int×List Int):gwp (NZ) (PC d.1 d.2) c37 0 (Vt [.tmp 2] (N7 d) (UO d)) (QL 27 (AL.can Ma d))=WD d.1 d.2:=by kernel_rfl
abbrev TW:Prop:=OkC Tryz.prog 37 Ub
theorem TX (h:∀ (hk:Int) (lw:List Int),(lw.length≤1000000)→WD hk lw):OkC Tryz.prog 37 Ub :=
 Z3 Q19 mixed (C:=NZ) (V:=fun (d:Int×List Int)=>WD d.1 d.2) ⟨(.cons UL .nil),XsOk.nil,ItsOk.nil,YlOk.nil,IysOk.nil,XfOk.nil⟩ (Tw) fun d hp=>h d.1 d.2 hp
theorem nI (n a b:Int):(!inI n a b)=(decide (n<a)||decide (b<n)):=by simp only[inI,Bool.not_and];by_cases h1:a≤n<;>by_cases h2:n≤b<;>simp[h1,h2]<;>omega
theorem T1:TW:=TX fun hk lw hl=>by
 unfold WD;(try delta lI gD sT I64 Q1 pj8 pj4);simp only[true_and,and_true,eq_self_iff_true,exists_eq_left',exists_const,decide_eq_true_eq,decide_eq_false_iff_not,beq_iff_eq,bne_iff_ne,ne_eq,beq_eq_false_iff_ne,bne_eq_false_iff_eq,Bool.not_eq_true',Bool.not_eq_false',Bool.not_eq_true,Bool.not_eq_false,Int.toNat_natCast,Int.ofNat_lt,gt_iff_lt,ge_iff_le,Bool.not_not];simp only[←nI];refine⟨by simp,fun h1=>by simp at h1;simp[Ql,h1],fun h1=>⟨fun h2=>?_,fun h2=>⟨fun h3=>?_,fun h3=>?_⟩⟩⟩;all_goals simp only[List.any_cons,List.any_nil,Bool.or_false,Bool.not_eq_false'] at h1
 ·have:96<lw.length:=by omega
  simp[Ql,h1,this]
 ·have h3:lw.length=0:=by omega
  simp[Ql,h1,h3]
 have gO:¬ 96<lw.length:=by omega
 have gU:¬ lw.length=0:=by omega
 have hi:1≤hk∧hk≤24:=by simpa [inI] using h1
 have nj:Ql hk lw=if lw.any (fun x=>!inI x 0 (hk-1)) then 2 else 0:=by simp only[Ql,h1,gO,gU];simp
 rw[nj];simp only[Q7];refine⟨by omega,by omega,fun h=>by rw[if_pos h],fun h=>by rw[h];rfl⟩
end Go.Proofs.Tryz
namespace Go.V
open Go
theorem FU {P:Program}{σ:Heap}:Ret P σ (.val .bo true) [] (.bool true) σ :=
 ⟨⟨.refl _,Dead.refl _⟩,fun _=>rfl,J3,fun j b hj=>by simp at hj,fun j j' i hj=>by simp at hj,by simp[SR,KC]⟩
theorem I3 {P:Program}{f:Nat}(h:∀ (σ:Heap) (K:Value→Heap→Prop),K (.bool true) σ→VCalled P f [] σ K):OkC P f (K8 (.nil:AL Unit) (fun _=>True) (fun _=>.val .bo true) (fun _=>[])):=by
 intro ap eD σ args vs c v bs aC hs hv cu hc;unfold K8 at hs;split at hs
 ·rename_i d hd;obtain⟨rfl,rfl,rfl⟩:=(by simpa using hs:True=c∧SV.val .bo true=v∧[]=bs);have:vs=[]:=by
   cases args with
   |nil=>simpa [SRs] using aC
   |cons a l=>simp[AL.dec] at hd
  subst this;refine⟨h σ _ FU,fun _ _=>h σ _ ⟨rfl,?_⟩⟩;unfold BJ;cases σ;simp only[List.length_nil,Nat.add_zero,List.getElem?_nil,Option.bind_none,Heap.mk.injEq,and_true];funext i;split
  ·rfl
  ·rename_i wf hi;exact wf i (by simpa using hi)
 ·cases hs
end Go.V
namespace Go.V
open Go Go.ChangeShapes Go.WideShapes Go.RowKit Go.Deep Go.Joins
def Heap.RO (σ:Heap):Prop:=∀ i b,σ.get i=some b→b.wr=false
structure View (w:World) (ρ:Plc) (σ:Heap):Prop where
 rel:HRel ρ σ w
 ro:σ.RO
structure More (ρ:Plc) (σ:Heap) (ρ':Plc) (σ':Heap):Prop where
 n:σ.n≤σ'.n
 pl:∀ i,i<σ.n→∀ p,ρ' i=some p→ρ i=some p
 ag:Agree σ σ'
theorem More.refl (ρ:Plc) (σ:Heap):More ρ σ ρ σ:=⟨Nat.le_refl _,fun _ _ _ h=>h,Agree.refl _⟩
theorem More.trans {ρ ρ' eF:Plc}{σ σ' aM:Heap}(h:More ρ σ ρ' σ') (k:More ρ' σ' eF aM):More ρ σ eF aM :=
 ⟨Nat.le_trans h.n k.n,fun i hi p hp=>h.pl i hi p (k.pl i (Nat.lt_of_lt_of_le hi h.n) p hp),h.ag.trans k.ag h.n⟩
def Q7j (w:World):Prop:=∀ g cs,FA g=some cs→∃ e f,w.heap[g]?=some (.cells cs.toArray e f)
theorem View.emptyT (w:World) (ht:Q7j w):View w (fun _=>none) Heap.empty where
 rel:=⟨⟨fun i b h=>(by cases h),fun _ _=>rfl,fun i p h=>(by cases h),fun i j p q b _ h=>(by cases h)⟩,fun g cs hg=>⟨ht g cs hg,fun ⟨_,_,_,h,_⟩=>by cases h⟩⟩
 ro:=fun i b h=>by cases h
theorem View.add {w:World}{ρ:Plc}{σ:Heap}(h:View w ρ σ) (p:Pl) (c:List Value) {C:Array Value}{e:TypeId}{f:Nat×Nat}(hb:w.heap[p.blk]?=some (.cells C e f)) (hs:p.shift+p.ext≤C.size) (hl:c.length≤p.ext) (ht:e=p.esz.ty)
  (hc:∀ (k:Nat) (v:Value),c[k]?=some v→∃ u,w.cell? ⟨p.blk,p.shift+k,none⟩=some u∧VRel ρ σ.n v u) :
  View w (ρ.put σ.n (some p)) (σ.push (.cells c p.esz false p.tight))∧More ρ σ (ρ.put σ.n (some p)) (σ.push (.cells c p.esz false p.tight)):=by
 have aZ:∀ i,i<σ.n→∀ q,(ρ.put σ.n (some p)) i=some q→ρ i=some q:=fun i hi q hq=>by unfold Plc.put at hq;rwa [if_neg (by omega)] at hq
 have bO:(σ.push (.cells c p.esz false p.tight)).RO:=fun i b hi=>by
  by_cases e:i=σ.n
  ·subst e;rw[Heap.get_push_self] at hi;obtain rfl:=osj hi;rfl
  ·rw[Heap.get_push_ne _ _ e] at hi;exact h.ro i b hi
 refine⟨⟨⟨⟨?_,?_,?_,?_⟩,fun g cs hg=>⟨(h.rel.tab g cs hg).1,fun ⟨i,_,b,_,hi,hw,_⟩=>by rw[bO i b hi] at hw;cases hw⟩⟩,bO⟩,⟨by simp,aZ,fun i hi=>Heap.get_push_lt _ _ hi⟩⟩
 ·intro i b hi;by_cases aN:i=σ.n
  ·subst aN;rw[Heap.get_push_self] at hi;obtain rfl:=osj hi;refine⟨p,by simp[Plc.put],rfl,rfl,hl,⟨C,e,f,hb,hs,ht⟩,fun k v hk=>?_,fun h=>by cases h⟩;obtain⟨u,hu,hv⟩:=hc k v hk;exact⟨u,hu,hv.mono (by simp) aZ⟩
  ·rw[Heap.get_push_ne _ _ aN] at hi;obtain⟨q,hq,hB⟩:=h.rel.live i b hi;exact⟨q,by simp[Plc.put,aN,hq],hB.mono (by simp) aZ rfl⟩
 ·intro i hi;by_cases aN:i=σ.n
  ·subst aN;rw[Heap.get_push_self] at hi;cases hi
  ·rw[Heap.get_push_ne _ _ aN] at hi;simp[Plc.put,aN,h.rel.dead i hi]
 ·intro i q hq;by_cases aN:i=σ.n
  ·subst aN;simp[Plc.put] at hq;subst hq;exact(Array.getElem?_eq_some_iff.1 hb).1
  ·simp[Plc.put,aN] at hq;exact h.rel.lt i q hq
 ·intro i j q r b _ _ _ cw hw _;rw[bO i b cw] at hw;cases hw
theorem EK {P:Program}{fits:TypeId→Bool}{d:Nat}{e:TypeId}{count off n:Nat}(h:rowAt P fits d e count off n=true):off≤count*P.cellsOf e:=by
 cases d with
 |zero=>cases h
 |succ d =>
  unfold rowAt at h;by_cases hs:P.cellsOf e=0
  ·simp[hs] at h
  ·have eK:0<P.cellsOf e:=Nat.pos_of_ne_zero hs;simp only[hs,if_false,Bool.or_eq_true,Bool.and_eq_true,beq_iff_eq,decide_eq_true_eq] at h;have hd:=Nat.div_add_mod off (P.cellsOf e);have hm:=Nat.mod_lt off eK;rcases h with⟨⟨h1,h2⟩,_⟩|⟨h1,_⟩
   ·have:P.cellsOf e*(off / P.cellsOf e)≤P.cellsOf e*count:=Nat.mul_le_mul_left _ (by omega);rw[Nat.mul_comm count];omega
   ·have:P.cellsOf e*(off / P.cellsOf e+1)≤P.cellsOf e*count:=Nat.mul_le_mul_left _ (by omega);rw[Nat.mul_add] at this;rw[Nat.mul_comm count];omega
theorem H3 {P:Program}:∀ {d:Nat}{e:TypeId}{count off:Nat}{u:TypeId}{n:Nat},liesAt P d e count off u n=true→off≤count*P.cellsOf e
 |0,_,_,_,_,_,h=>by cases h
 |d+1,e,count,off,u,n,h=>by
  unfold liesAt at h;rw[Bool.or_eq_true] at h;rcases h with h|h
  ·exact EK h
  ·split at h
   ·exact H3 h
   ·cases h
theorem Ay {P:Program}{w:World}{r:Reach}{base:Nat}{a:Addr}{e:TypeId}{n:Nat}(h:w.has P r base a e n):∃ C row f,w.heap[a.block]?=some (.cells C row f)∧a.off≤C.size∧a.spot=none:=by
 obtain⟨_,hs,row,cells,eM,hl⟩:=h;unfold World.shape? at eM;split at eM
 ·rename_i C e' f hb;obtain⟨rfl,rfl⟩:=(by simpa using eM:e'=row∧C.size=cells);exact⟨C,e',f,hb,Nat.le_trans (H3 hl) (Nat.div_mul_le_self _ _),hs⟩
 ·cases eM
theorem PN {P:Program}{w:World}{r:Reach}{base:Nat}{t e:TypeId}{v:Value}(ht:P.underlying t=some (.slice e)) (h:Cell.okWide P w r base t v) :
  v=.slice none 0 0∨∃ a len cap,v=.slice (some a) len cap∧w.has P r base a e cap:=by
 unfold Cell.okWide at h;rw[ht] at h;have h':Cell.ok P w r base t v:=by split at h<;>first|exact h|simp_all
 unfold Cell.ok at h';rw[ht] at h';split at h'<;>first|exact .inl rfl|(cases h';done)|skip
 all_goals first|(rename_i h1 h2;simp_all;done)|skip
 all_goals first|(simp_all;exact⟨_,_,_,⟨rfl,rfl,rfl⟩,h'.2.2⟩)|(simp_all)
theorem Q3q {k:IntKind}{x:Int}(h:(Lit.int k x).wf=true):k.min≤x∧x≤k.max:=by simpa [Lit.wf] using h
theorem View.calls {P:Program}{f:FuncId}{w:World}{ρ:Plc}{σ:Heap}(h:View w ρ σ) {args:List Value}{ax:Array Value}(hl:LRel ρ σ.n args ax.toList) (hc:VCallsTo P f args σ fun v _=>v=.bool true) :
  Calls P f ax w fun e w'=>e=.returned (.bool true)∧Below w.heap.size w w':=by
 refine (hc ρ w ax h.rel hl).mono fun e w' ⟨c,he,v,ρ',σ',hv,hr,_,hx⟩=>?_;subst hv;have:c=.bool true:=by cases hr;rfl
 subst this;exact⟨he,hx.os,hx.tape,hx.output,hx.size,fun B hB=>hx.keep B hB fun ⟨i,p,b,_,hi,hw,_⟩=>by rw[h.ro i b hi] at hw;cases hw⟩
theorem UJ {H:Type}{enc:TypeId×Value→H}{P:Program}(hl:laidOutB P=true) {W W':World}{sp:Nat→Bool}(hb:Below W.heap.size W W') :
  ∀ {ts:List TypeId}{vs:List Value}{ds:List (DataW H)}{ps:List MemPlace},(∀ t∈ts,P.readableRec t=true∧t<P.types.size)→DataW.TrodAll enc P W 0 (fun _=>true) true ts vs ds ps→(∀ p∈ps,p.block<W.heap.size)→(∀ p∈ps,sp p.block=true) →
   DataW.TrodAll enc P W' 0 sp true ts vs ds ps
 |[],vs,ds,ps,_,h,_,_=>by obtain⟨rfl,rfl,rfl⟩:=trodAll_nil h;rfl
 |t::ts,vs,ds,ps,ht,h,aj,hs=>by
  obtain⟨v,cR,d,ds',p,q,rfl,rfl,rfl,h1,h2⟩:=trodAll_cons h;obtain⟨r1,r2⟩:=ht t (by simp);exact⟨p,q,WideElems.Trod_stays hl r1 r2 h1 (fun x hx=>hb.same (aj x (by simp[hx]))) (fun x hx=>hs x (by simp[hx])),
   UJ hl hb (fun t mP=>ht t (by simp[mP])) h2 (fun x hx=>aj x (by simp[hx])) (fun x hx=>hs x (by simp[hx])),rfl⟩
theorem E7 {H:Type}{enc:TypeId×Value→H}{P:Program}{f:Func}{s:ChangeSpec}{apart fresh handsOn again:Bool}{W W':World}{args:Array Value}{ds gs:List (DataW H)}{before:List MemPlace}{tb:TypeId}
  (hl:laidOutB P=true) (hp:f.params.toList.all (fun t=>P.readableRec t&&decide (t<P.types.size))=true) (kT:s.vars=[]) (hr:f.resultTypes=#[tb]) (bC:P.underlying tb=some .bool) (hs:s.fn H ds={results:=[.lit (.bool true)],args:=ds})
  (hW:DataW.Whole enc P f.params.toList s.vars apart W args.toList ds gs before) (hb:Below W.heap.size W W'):s.post enc P f apart fresh handsOn again W args (.bool true) W':=by
 have aj:∀ p∈before,p.block<W.heap.size:=fun p hp=>hW.lt p hp;have xk:=hW;obtain⟨p,q,hA,hV,rfl,hz,hn⟩:=hW;rw[kT] at hV;obtain⟨rfl,rfl⟩:=trodVars_none hV;have bE:∀ t∈f.params.toList,P.readableRec t=true∧t<P.types.size:=fun t ht=>by have:=List.all_eq_true.1 hp t ht;simpa using this
 have eQ:s.fn H (ds++[])={results:=[.lit (.bool true)],args:=ds}:=by rw[List.append_nil];exact hs
 have d_:∀ (b:Nat) (sp:Nat→Bool) (hd:Bool),DataW.TrodAll enc P W' b sp hd f.resultTypes.toList ((Value.bool true).resultList f.resultTypes.size) (s.fn H (ds++[])).results []:=fun b sp hd=>by rw[eQ,hr];exact trodAll_mk1 (shut_bool bC _)
 have aC:∀ sp:Nat→Bool,(∀ x∈p++[],sp x.block=true)→DataW.TrodAll enc P W' 0 sp true f.params.toList args.toList (s.fn H (ds++[])).args p:=fun sp gT=>by rw[eQ];exact UJ hl hb bE hA (fun x hx=>aj x (by simp[hx])) (fun x hx=>gT x (by simp[hx]))
 have cF:∀ sp:Nat→Bool,DataW.TrodVars enc P W' sp s.vars (s.fn H (ds++[])).vars []:=fun sp=>by rw[eQ,kT];rfl
 have hold:∀ x∈p++[],(fun b=>decide (b<W.heap.size)) x.block=true:=fun x hx=>by simpa using aj x hx
 refine⟨ds,[],p++[],[],p,[],xk,d_ _ _ _,aC _ hold,cF _,World.keptBut_mono (fun x hx=>⟨hx,?_⟩) (hb.frame (·∈p++[])),fun _=>?_⟩
 ·exact .inr (by simpa using hx)
 ·refine⟨ok_one hr rfl (okWide_bool_mk bC _),_,_,([]++p)++[],⟨[]++p,[],trodAll_append (aC _ (fun _ _=>rfl)) (d_ _ _ _),cF _,rfl,?_,?_⟩,?_⟩
  ·intro b off hx;have aN:MemPlace.cell b off∈p++[]:=by simpa using hx
   rw[hb.frozen (aj _ aN)];exact hz b off aN
  ·intro ha;simpa using hn ha
  ·intro x hx _;simpa using hx
def KFs (T:Kind→TypeId→Bool) (sz:TypeId→Nat):Kind→List (TypeId×Nat)→Nat→Bool
 |_,[],_=>false
 |k,[p],off=>p.2==off&&(sz p.1==k.size&&T k p.1)
 |.pair a b,p::q::r,off=>p.2==off&&(sz p.1==a.size&&(T a p.1&&KFs T sz b (q::r) (off+a.size)))
 |_,_::_::_,_=>false
def KTy (P:Program):Nat→Kind→TypeId→Bool
 |0,_,_=>false
 |n+1,k,t=>match P.underlying t with
  |some (.struct fs)=>P.cellsOf t==k.size&&KFs (KTy P n) P.cellsOf k (fs.toList.map fun f=>(f.type,f.offset)) 0
  |some (.array m e)=>P.cellsOf t==k.size&&KFs (KTy P n) P.cellsOf k ((List.range m).map fun i=>(e,i*P.cellsOf e)) 0
  |some (.int ik)=>(match k with|.i k'=>decide (k'=ik)|_=>false)
  |some .bool=>(match k with|.bo=>true|_=>false)
  |some .string=>(match k with|.st=>true|_=>false)
  |some (.slice e)=>(match k with|.list k'=>P.cellsOf e==k'.size&&(k'.flat&&KTy P n k' e)|_=>false)
  |_=>false
def KWf:(k:Kind)→k.T→Prop
 |.i ik,x=>InK ik x
 |.bo,_=>True
 |.st,s=>s.length≤maxLen
 |.list k,l=>l.length≤maxLen∧∀ x∈l,KWf k x
 |.pair a b,x=>KWf a x.1∧KWf b x.2
theorem More.le {ρ ρ':Plc}{σ σ':Heap}(h:More ρ σ ρ' σ'):σ.Le σ':=⟨h.n,fun i b hb=>by rw[h.ag i (σ.lt hb)];exact hb⟩
def ArgIs (w:World) (ρ:Plc) (σ:Heap) (k:Kind) (cs:List Value):Prop :=
 ∃ ρ' σ' vs x,View w ρ' σ'∧More ρ σ ρ' σ'∧LRel ρ' σ'.n vs cs∧KC σ' k x vs∧KWf k x
theorem ArgIs.pair {w:World}{ρ:Plc}{σ:Heap}{a b:Kind}{cs ds:List Value}(h1:ArgIs w ρ σ a cs) (h2:∀ ρ σ,View w ρ σ→ArgIs w ρ σ b ds):ArgIs w ρ σ (.pair a b) (cs++ds):=by obtain⟨ρ1,σ1,tM,x1,k1,k2,k3,k4,k5⟩:=h1;obtain⟨ρ2,σ2,kJ,x2,m1,m2,m3,m4,m5⟩:=h2 ρ1 σ1 k1;exact⟨ρ2,σ2,tM++kJ,(x1,x2),m1,k2.trans m2,(k3.mono m2.n m2.pl).append m3,⟨tM,kJ,rfl,k4.mono m2.le,m4⟩,k5,m5⟩
section
variable {H:Type}{enc:TypeId×Value→H}{P:Program}{w:World}{r:Reach}{base:Nat}
def okc (P:Program) (w:World) (r:Reach) (base:Nat) (ts:List TypeId) (cs:List Value):Prop:=∀ (i:Nat) v u,cs[i]?=some v→ts[i]?=some u→Cell.okWide P w r base u v
theorem RT {T:Kind→TypeId→Bool}{sz:TypeId→Nat}{g:TypeId→Option (List TypeId)}(hT:∀ k t ts,T k t=true→g t=some ts→ts.length=k.size) :
  ∀ {k:Kind}{L:List (TypeId×Nat)}{off:Nat}{iB:List (List TypeId)},KFs T sz k L off=true→L.mapM (fun p=>g p.1)=some iB→iB.flatten.length=k.size
 |k,[],_,_,h,_=>by simp[KFs] at h
 |k,[p],off,iB,h,hm=>by
  simp only[KFs,Bool.and_eq_true] at h;cases hg:g p.1 with
  |none=>simp[hg] at hm
  |some ts =>simp[hg] at hm;subst hm;simpa using hT _ _ _ h.2.2 hg
 |.pair a b,p::q::r,off,iB,h,hm=>by
  simp only[KFs,Bool.and_eq_true] at h;rw[List.mapM_cons] at hm;cases hg:g p.1 with
  |none=>simp[hg] at hm
  |some ts =>
   cases hr:(q::r).mapM (fun p=>g p.1) with
   |none=>simp[hg,hr] at hm
   |some tr =>simp[hg,hr] at hm;subst hm;have:=RT hT h.2.2.2 hr;simp only[List.flatten_cons,List.length_append,this,hT _ _ _ h.2.2.1 hg,Kind.size]
 |.i _,_::_::_,_,_,h,_|.bo,_::_::_,_,_,h,_|.st,_::_::_,_,_,h,_|.list _,_::_::_,_,_,h,_=>by cases h
theorem Us {α β γ:Type}{f:α→β}{g:β→Option γ}:∀ (l:List α),(l.map f).mapM g=l.mapM (fun x=>g (f x))
 |[]=>rfl
 |a::l=>by simp only[List.map_cons,List.mapM_cons,Us l]
theorem Nx {β:Type}{x:β}{f:Nat→Option β}(h:∀ i,f i=some x):∀ l:List Nat,l.mapM f=some (List.replicate l.length x)
 |[]=>rfl
 |a::l=>by simp[List.mapM_cons,h,Nx h l,List.replicate_succ]
theorem Rr:∀ {n:Nat}{k:Kind}{t:TypeId}{d:Nat}{ts:List TypeId},KTy P n k t=true→P.cellTypes d t=some ts→ts.length=k.size
 |0,_,_,_,_,h,_=>by cases h
 |_+1,_,_,0,_,_,h=>by cases h
 |n+1,k,t,d+1,ts,h,ht=>by
  have ih:∀ k t ts,KTy P n k t=true→P.cellTypes d t=some ts→ts.length=k.size:=fun k t ts h1 h2=>Rr h1 h2;unfold Program.cellTypes at ht;unfold KTy at h;cases hu:P.underlying t with
  |none=>rw[hu] at h;cases h
  |some u =>
   rw[hu] at h ht;cases u<;>first|(cases h;done)|skip
   all_goals simp only at h ht
   ·split at h<;>first|(cases h;done)|(obtain rfl:=osj ht;rfl)
   ·split at h<;>first|(cases h;done)|(obtain rfl:=osj ht;rfl)
   ·split at h<;>first|(cases h;done)|(obtain rfl:=osj ht;rfl)
   ·split at h<;>first|(cases h;done)|(obtain rfl:=osj ht;rfl)
   ·rename_i m e;rw[Bool.and_eq_true] at h;cases hc:P.cellTypes d e with
    |none=>rw[hc] at ht;cases ht
    |some te =>rw[hc] at ht;obtain rfl:=osj ht;refine RT (g:=fun t=>P.cellTypes d t) ih h.2 ?_;rw[Us,Nx (x:=te) (fun _=>hc)];simp
   ·rename_i fs;rw[Bool.and_eq_true] at h;cases hc:fs.toList.mapM fun f=>P.cellTypes d f.type with
    |none=>rw[hc] at ht;cases ht
    |some iB =>rw[hc] at ht;obtain rfl:=osj ht;refine RT (g:=fun t=>P.cellTypes d t) ih h.2 ?_;rw[Us];exact hc
theorem UK {T:Kind→TypeId→Bool}{sz:TypeId→Nat}{Q:TypeId→List Value→Prop}{R:Kind→List Value→Prop}(hT:∀ k t cs,T k t=true→Q t cs→R k cs) (hR:∀ a b cs ds,R a cs→R b ds→R (.pair a b) (cs++ds)) (cs:List Value) :
  ∀ {k:Kind}{L:List (TypeId×Nat)}{off:Nat},KFs T sz k L off=true→(∀ p∈L,Q p.1 ((cs.drop p.2).take (sz p.1)))→R k ((cs.drop off).take k.size)
 |k,[],_,h,_=>by simp[KFs] at h
 |k,[p],off,h,hq=>by simp only[KFs,Bool.and_eq_true,beq_iff_eq] at h;have:=hq p (by simp);rw[h.1,h.2.1] at this;exact hT _ _ _ h.2.2 this
 |.pair a b,p::q::r,off,h,hq=>by
  simp only[KFs,Bool.and_eq_true,beq_iff_eq] at h;have h1:=hq p (by simp);rw[h.1,h.2.1] at h1;have h2:=UK hT hR cs h.2.2.2 fun x hx=>hq x (List.mem_cons_of_mem _ hx);have e:(cs.drop off).take (Kind.pair a b).size=(cs.drop off).take a.size++(cs.drop (off+a.size)).take b.size:=by rw[Kind.size,List.take_add,List.drop_drop]
  rw[e];exact hR _ _ _ _ (hT _ _ _ h.2.2.1 h1) h2
 |.i _,_::_::_,_,h,_|.bo,_::_::_,_,h,_|.st,_::_::_,_,h,_|.list _,_::_::_,_,h,_=>by cases h
def FlatIs (k:Kind) (cs:List Value):Prop:=∃ y:k.T,(∀ h,KC h k y cs)∧KWf k y∧∀ ρ m,LRel ρ m cs cs
theorem FlatIs.pair {a b:Kind}{cs ds:List Value}(h1:FlatIs a cs) (h2:FlatIs b ds):FlatIs (.pair a b) (cs++ds):=by obtain⟨x,k1,k2,k3⟩:=h1;obtain⟨y,m1,m2,m3⟩:=h2;exact⟨(x,y),fun h=>⟨cs,ds,rfl,k1 h,m1 h⟩,⟨k2,m2⟩,fun ρ m=>(k3 ρ m).append (m3 ρ m)⟩
theorem LRel.one {ρ:Plc}{n:Nat}{v c:Value}(h:VRel ρ n v c):LRel ρ n [v] [c]:=.cons h (.nil _ _)
theorem Ux {fs:Array Field}{f:Field}(h:f∈fs.toList):∃ i:Nat,fs[i]?=some f:=by obtain⟨i,hi,rfl⟩:=List.mem_iff_getElem.1 h;exact⟨i,by simp at hi;simp[hi]⟩
theorem P9 {sp:Nat→Bool}{held:Bool}:∀ {n:Nat}{k:Kind}{t:TypeId}{fuel:Nat}{cs:List Value}{x:DataW H×List MemPlace},KTy P n k t=true→k.flat=true→DataW.trod enc P w base sp held fuel t cs=some x→FlatIs k cs
 |0,_,_,_,_,_,h,_,_=>by cases h
 |n+1,k,t,fuel,cs,x,h,hf,hx=>by
  unfold KTy at h;cases hu:P.underlying t with
  |none=>rw[hu] at h;cases h
  |some u =>
   rw[hu] at h;have hR:∀ a b cs ds,((a.flat=true→FlatIs a cs)∧True)→((b.flat=true→FlatIs b ds)∧True)→(((Kind.pair a b).flat=true→FlatIs (.pair a b) (cs++ds))∧True):=fun a b cs ds h1 h2=>⟨fun hf=>by
    simp only[Kind.flat,Bool.and_eq_true] at hf;exact(h1.1 hf.1).pair (h2.1 hf.2),trivial⟩
   have hT:∀ k t cs,KTy P n k t=true→(∃ fuel x,DataW.trod enc P w base sp held fuel t cs=some x)→((k.flat=true→FlatIs k cs)∧True):=fun k t cs h1 ⟨fuel,x,h2⟩=>⟨fun hf=>P9 h1 hf h2,trivial⟩;cases u<;>first|(cases h;done)|skip
   all_goals simp only at h
   ·split at h<;>first|(cases h;done)|skip
    obtain⟨b,rfl,_⟩:=DataW.trod_bool hu hx;exact⟨b,fun _=>rfl,trivial,fun _ _=>.one (.bool _)⟩
   ·split at h<;>first|(cases h;done)|skip
    obtain rfl:=of_decide_eq_true h;obtain⟨z,rfl,_,hw⟩:=DataW.trod_int hu hx;exact⟨z,fun _=>rfl,Q3q hw,fun _ _=>.one (.int _ _)⟩
   ·split at h<;>first|(cases h;done)|skip
    obtain⟨s,rfl,_,hs⟩:=DataW.trod_string hu hx;exact⟨s.data.toList,fun _=>rfl,hs,fun _ _=>.one (.string _)⟩
   ·split at h<;>first|(cases h;done)|(cases hf;done)
   ·rename_i m e;simp only[Bool.and_eq_true,beq_iff_eq] at h;obtain⟨xs,m',_,_,hl,gG,hx⟩:=DataW.trod_array hu hx;have:=(UK (R:=fun k cs=>(k.flat=true→FlatIs k cs)∧True) hT hR cs h.2 fun p hp=>by
     simp only[List.mem_map,List.mem_range] at hp;obtain⟨i,hi,rfl⟩:=hp;have:=hx i hi;rw[List.getElem?_eq_getElem (by omega)] at this;exact⟨_,_,this⟩).1 hf
    rwa [List.drop_zero,List.take_of_length_le (by omega)] at this
   ·rename_i fs;simp only[Bool.and_eq_true,beq_iff_eq] at h;obtain⟨xs,m',_,_,hl,gG,hx⟩:=DataW.trod_struct hu hx;have:=(UK (R:=fun k cs=>(k.flat=true→FlatIs k cs)∧True) hT hR cs h.2 fun p hp=>by
     simp only[List.mem_map] at hp;obtain⟨f,lH,rfl⟩:=hp;obtain⟨i,hi⟩:=Ux lH;have:=hx i f hi;have iN:i<fs.size:=(Array.getElem?_eq_some_iff.1 hi).1;rw[List.getElem?_eq_getElem (by omega)] at this;exact⟨_,_,this⟩).1 hf
    rwa [List.drop_zero,List.take_of_length_le (by omega)] at this
theorem Rows.range {α:Type}{R:α→List Value→Prop}{n:Nat}{c:List Value}{x:Nat→α}:∀ (m:Nat),(∀ i,i<m→R (x i) ((c.drop (i*n)).take n))→Rows R ((List.range m).map x) (c.take (m*n))
 |0,_=>by simp;exact .nil
 |m+1,h=>by
  have e:c.take ((m+1)*n)=c.take (m*n)++(c.drop (m*n)).take n:=by rw[Nat.add_mul,Nat.one_mul,List.take_add]
  rw[List.range_succ,List.map_append,e];exact(Rows.range m fun i hi=>h i (by omega)).append (by simpa using Rows.cons (h m (by omega)) .nil)
theorem Ti {α:Type}[Inhabited α] {m:Nat}{p:Nat→α→Prop}(h:∀ i,i<m→∃ x,p i x):∃ f:Nat→α,∀ i,i<m→p i (f i) :=
 ⟨fun i=>if hi:i<m then (h i hi).choose else default,fun i hi=>by simp only[hi,dif_pos];exact(h i hi).choose_spec⟩
instance KInh (k:Kind):Inhabited k.T:=⟨k.dflt⟩
theorem View.list {ρ:Plc}{σ:Heap}(h:View w ρ σ) {n:Nat}{k:Kind}{t e:TypeId}{fuel:Nat}{cs:List Value}{x:DataW H×List MemPlace}(hu:P.underlying t=some (.slice e)) (hs:P.cellsOf e=k.size) (hf:k.flat=true) (hk:KTy P n k e=true)
  (hx:DataW.trod enc P w 0 (fun _=>true) true fuel t cs=some x) (al:okc P w r base [t] cs):ArgIs w ρ σ (.list k) cs:=by
 rcases open_slice hu hx with⟨rfl,_⟩|⟨a,len,cap,m,fu,D,Pl,rfl,hb,hl,hm,iR,_,hel⟩
 ·exact⟨ρ,σ,[.slice none 0 0],[],h,More.refl _ _,.one .nilSl,⟨_,rfl,.inl ⟨rfl,rfl⟩⟩,by simp[maxLen],fun _ hx=>by cases hx⟩
 simp only[if_true] at iR;subst iR;rw[hs] at hel;have rQ:w.has P r base a e m:=by
  rcases PN hu (al 0 _ t rfl rfl) with hh|⟨a',mr,au,hh,h2⟩
  ·cases hh
  ·cases hh;exact h2
 obtain⟨C,row,f,aG,bh,gT⟩:=Ay rQ;obtain⟨blk,off,spot⟩:=a;simp only at aG bh gT;subst gT;have lA:∀ i,(⟨blk,off,none⟩:Addr).add i=⟨blk,off+i,none⟩:=fun i=>by unfold Addr.add;split<;>simp_all
 obtain⟨X,hX⟩:=Ti (α:=k.T×List Value) (m:=m) (p:=fun i p=>p.2.length=k.size∧(∀ j,j<k.size→w.cell? ⟨blk,off+i*k.size+j,none⟩=p.2[j]?)∧(∀ h,KC h k p.1 p.2)∧KWf k p.1∧∀ ρ m,LRel ρ m p.2 p.2) fun i hi=>by
  obtain⟨cs',h1,h2⟩:=hel i hi;obtain⟨_,k1,k2⟩:=World.cells?_some h1;obtain⟨y,m1,m2,m3⟩:=P9 hk hf h2;refine⟨(y,cs'),k1,fun j hj=>?_,m1,m2,m3⟩;have:=k2 j hj;rw[lA] at this;have e2:(⟨blk,off+i*k.size,none⟩:Addr).add j=⟨blk,off+i*k.size+j,none⟩:=by unfold Addr.add;split<;>simp_all
  rw[e2] at this;exact this
 have eK:=k.size_pos;let c:List Value:=(List.range (m*k.size)).map fun j=>((X (j / k.size)).2[j % k.size]?).getD undef;have cg:c.length=m*k.size:=by simp[c]
 have hdiv:∀ j,j<m*k.size→j / k.size<m:=fun j hj=>Nat.div_lt_of_lt_mul (by rw[Nat.mul_comm];exact hj);have aR:∀ j,j<m*k.size→∃ v,c[j]?=some v∧w.cell? ⟨blk,off+j,none⟩=some v∧∀ ρ m,VRel ρ m v v:=fun j hj=>by
  have h1:=hX (j / k.size) (hdiv j hj);have dR:j % k.size<k.size:=Nat.mod_lt _ eK;have h2:=h1.2.1 _ dR;have e:off+j / k.size*k.size+j % k.size=off+j:=by rw[Nat.add_assoc,Nat.div_add_mod']
  rw[e] at h2;have h3:j % k.size<(X (j / k.size)).2.length:=by rw[h1.1];exact dR
  refine⟨(X (j / k.size)).2[j % k.size],?_,?_,fun ρ m=>(h1.2.2.2.2 ρ m).2 _ _ _ (List.getElem?_eq_getElem h3) (List.getElem?_eq_getElem h3)⟩
  ·simp only[c,List.getElem?_map,List.getElem?_range hj,Option.map_some,List.getElem?_eq_getElem h3,Option.getD_some]
  ·rw[h2,List.getElem?_eq_getElem h3]
 have rR:∀ i,i<m→(c.drop (i*k.size)).take k.size=(X i).2:=fun i hi=>by
  have h1:=hX i hi;have hle:i*k.size+k.size≤m*k.size:=by have:(i+1)*k.size≤m*k.size:=Nat.mul_le_mul_right _ hi;rw[Nat.add_mul] at this;omega
  apply List.ext_getElem?;intro j;by_cases hj:j<k.size
  ·rw[List.getElem?_take_of_lt hj,List.getElem?_drop];have fl:i*k.size+j<m*k.size:=by omega
   have e1:(i*k.size+j) / k.size=i:=by rw[Nat.mul_comm,Nat.mul_add_div eK,Nat.div_eq_of_lt hj,Nat.add_zero]
   have e2:(i*k.size+j) % k.size=j:=by rw[Nat.mul_comm,Nat.mul_add_mod,Nat.mod_eq_of_lt hj]
   have h3:j<(X i).2.length:=by rw[h1.1];exact hj
   simp only[c,List.getElem?_map,List.getElem?_range fl,Option.map_some,e1,e2,List.getElem?_eq_getElem h3,Option.getD_some]
  ·rw[List.getElem?_eq_none (by simp;omega),List.getElem?_eq_none (by omega)]
 have az:off+m*k.size≤C.size:=by
  rcases Nat.eq_zero_or_pos (m*k.size) with h0|h0
  ·omega
  ·obtain⟨v,_,h2,_⟩:=aR (m*k.size-1) (by omega);unfold World.cell? at h2;simp only[aG] at h2;have:=(Array.getElem?_eq_some_iff.1 (by simpa using h2)).1;omega
 obtain⟨hv,xl⟩:=h.add ⟨blk,off,m*k.size,⟨k.size,row⟩,false⟩ c aG az (by simp[cg]) rfl (fun j v hj=>by
  have cr:j<m*k.size:=by rw[←cg];exact(List.getElem?_eq_some_iff.1 hj).1
  obtain⟨v',h1,h2,h3⟩:=aR j cr;obtain rfl:=osj (hj.symm.trans h1);exact⟨v,h2,h3 _ _⟩)
 have hlen:((List.range len).map fun i=>(X i).1).length=len:=by simp
 refine⟨_,_,[.slice (some ⟨σ.n,0,none⟩) len m],(List.range len).map fun i=>(X i).1,hv,xl,.one ?_,⟨_,rfl,.inr ⟨σ.n,0,m,c,⟨k.size,row⟩,false,false,by rw[hlen],by rw[hlen];exact hl,Heap.get_push_self _ _,rfl,?_,?_⟩⟩,?_,fun y hy=>?_⟩
 ·refine .sl _ _ _ _ _ _ (by simp) fun p hp=>?_;simp[Plc.put] at hp;subst hp;exact⟨Nat.le_refl _,(fun h=>by cases h),0,by simp,by simp,.inl rfl⟩
 ·rw[hlen,cg,Nat.zero_add];exact Nat.mul_le_mul_right _ hl
 ·rw[hlen,List.drop_zero];refine Rows.range len fun i hi=>?_;rw[rR i (by omega)];exact(hX i (by omega)).2.2.1 _
 ·rw[hlen];exact Nat.le_trans hl hm
 ·obtain⟨i,hi,rfl⟩:=List.mem_map.1 hy;exact(hX i (by have:=List.mem_range.1 hi;omega)).2.2.2.1
def Kind.lev1:Kind→Bool
 |.list k=>k.flat
 |.pair a b=>a.lev1&&b.lev1
 |_=>true
theorem SD {ts:List TypeId}{cs:List Value}(h:okc P w r base ts cs) (o n:Nat):okc P w r base ((ts.drop o).take n) ((cs.drop o).take n):=fun i v u h1 h2=>by
 have hi:i<n:=by have:=(List.getElem?_eq_some_iff.1 h1).1;rw[List.length_take] at this;omega
 rw[List.getElem?_take_of_lt hi,List.getElem?_drop] at h1 h2;exact h _ v u h1 h2
theorem G5 {T:Kind→TypeId→Bool}{sz:TypeId→Nat}{g:TypeId→Option (List TypeId)}(hT:∀ k t ts,T k t=true→g t=some ts→ts.length=k.size) :
  ∀ {k:Kind}{L:List (TypeId×Nat)}{off:Nat}{iB:List (List TypeId)},KFs T sz k L off=true→L.mapM (fun p=>g p.1)=some iB→∀ p∈L,off≤p.2∧g p.1=some ((iB.flatten.drop (p.2-off)).take (sz p.1))
 |k,[],_,_,h,_=>by simp[KFs] at h
 |k,[p],off,iB,h,hm=>by
  simp only[KFs,Bool.and_eq_true,beq_iff_eq] at h;intro p' hp;obtain rfl:=List.mem_singleton.1 hp;cases hg:g p'.1 with
  |none=>simp[hg] at hm
  |some ts =>
   simp[hg] at hm;subst hm;refine⟨by omega,?_⟩;rw[h.1,Nat.sub_self,List.drop_zero,h.2.1,List.take_of_length_le]
   ·simp
   ·simp[hT _ _ _ h.2.2 hg]
 |.pair a b,p::q::r,off,iB,h,hm=>by
  simp only[KFs,Bool.and_eq_true,beq_iff_eq] at h;rw[List.mapM_cons] at hm;intro p' hp;cases hg:g p.1 with
  |none=>simp[hg] at hm
  |some ts =>
   cases hr:(q::r).mapM (fun p=>g p.1) with
   |none=>simp[hg,hr] at hm
   |some tr =>
    simp[hg,hr] at hm;subst hm;have hlen:=hT _ _ _ h.2.2.1 hg;rcases List.mem_cons.1 hp with rfl|hp
    ·refine⟨by omega,?_⟩;rw[hg,h.1,Nat.sub_self,List.drop_zero,h.2.1,List.flatten_cons,List.take_append,←hlen,Nat.sub_self,List.take_zero,List.append_nil,List.take_length]
    ·obtain⟨h1,h2⟩:=G5 hT h.2.2.2 hr p' hp;refine⟨by omega,?_⟩;have e1:ts.drop (p'.2-off)=[]:=List.drop_eq_nil_of_le (by omega);have e2:p'.2-off-a.size=p'.2-(off+a.size):=by omega
     rw[h2,List.flatten_cons,List.drop_append,hlen,e1,e2,List.nil_append]
 |.i _,_::_::_,_,_,h,_|.bo,_::_::_,_,_,h,_|.st,_::_::_,_,_,h,_|.list _,_::_::_,_,_,h,_=>by cases h
theorem Ht:∀ {n:Nat}{k:Kind}{t:TypeId}{d:Nat}{ts:List TypeId}{fuel:Nat}{cs:List Value}{x:DataW H×List MemPlace},KTy P n k t=true→k.lev1=true→P.cellTypes d t=some ts→okc P w r base ts cs→DataW.trod enc P w 0 (fun _=>true) true fuel t cs=some x→∀ ρ σ,View w ρ σ→ArgIs w ρ σ k cs
 |0,_,_,_,_,_,_,_,h,_,_,_,_=>by cases h
 |_+1,_,_,0,_,_,_,_,_,_,h,_,_=>by cases h
 |n+1,k,t,d+1,ts,fuel,cs,x,h,hf,fa,al,hx=>by
  intro ρ σ hv;by_cases cf:k.flat=true
  ·obtain⟨y,h1,h2,h3⟩:=P9 h cf hx;exact⟨ρ,σ,cs,y,hv,More.refl _ _,h3 _ _,h1 _,h2⟩
  unfold KTy at h;cases hu:P.underlying t with
  |none=>rw[hu] at h;cases h
  |some u =>
   rw[hu] at h;let Q:TypeId→List Value→Prop:=fun t cs=>(∃ fuel x,DataW.trod enc P w 0 (fun _=>true) true fuel t cs=some x)∧∃ ts,P.cellTypes d t=some ts∧okc P w r base ts cs;let R:Kind→List Value→Prop:=fun k cs=>k.lev1=true→∀ ρ σ,View w ρ σ→ArgIs w ρ σ k cs;have hR:∀ a b cs ds,R a cs→R b ds→R (.pair a b) (cs++ds):=fun a b cs ds h1 h2 hl ρ σ hv=>by simp only[Kind.lev1,Bool.and_eq_true] at hl;exact(h1 hl.1 ρ σ hv).pair fun ρ σ hv=>h2 hl.2 ρ σ hv
   have hT:∀ k t cs,KTy P n k t=true→Q t cs→R k cs:=fun k t cs h1 ⟨⟨fuel,x,h2⟩,ts,h3,h4⟩ hl=>Ht h1 hl h3 h4 h2;have hlen:∀ k t ts,KTy P n k t=true→P.cellTypes d t=some ts→ts.length=k.size:=fun k t ts h1 h2=>Rr h1 h2;unfold Program.cellTypes at fa;rw[hu] at fa;cases u<;>first|(cases h;done)|skip
   all_goals simp only at h
   ·split at h<;>first|(cases h;done)|(exact absurd rfl cf)
   ·split at h<;>first|(cases h;done)|(exact absurd rfl cf)
   ·split at h<;>first|(cases h;done)|(exact absurd rfl cf)
   ·rename_i e;split at h<;>first|(cases h;done)|skip
    simp only[Bool.and_eq_true,beq_iff_eq] at h;simp only[Option.some.injEq] at fa;subst fa;exact hv.list hu h.1 h.2.1 h.2.2 hx al
   ·rename_i m e;simp only[Bool.and_eq_true,beq_iff_eq] at h;obtain⟨xs,m',_,_,hl,gG,hx⟩:=DataW.trod_array hu hx;simp only at fa;cases hc:P.cellTypes d e with
    |none=>rw[hc] at fa;cases fa
    |some te =>
     rw[hc] at fa;obtain rfl:=osj fa;have oa:((List.range m).map fun i=>(e,i*P.cellsOf e)).mapM (fun p:TypeId×Nat=>P.cellTypes d p.1)=some (List.replicate m te):=by rw[Us,Nx (x:=te) (fun _=>hc)];simp
     have:=UK (Q:=Q) (R:=R) hT hR cs h.2 (fun p hp=>by
      have eL:=G5 (g:=fun t=>P.cellTypes d t) hlen h.2 oa p hp;simp only[List.mem_map,List.mem_range] at hp;obtain⟨i,hi,rfl⟩:=hp;have:=hx i hi;rw[List.getElem?_eq_getElem (by omega)] at this;exact⟨⟨_,_,this⟩,_,eL.2,SD al _ _⟩) hf ρ σ hv
     rwa [List.drop_zero,List.take_of_length_le (by omega)] at this
   ·rename_i fs;simp only[Bool.and_eq_true,beq_iff_eq] at h;obtain⟨xs,m',_,_,hl,gG,hx⟩:=DataW.trod_struct hu hx;simp only at fa;cases hc:fs.toList.mapM fun f=>P.cellTypes d f.type with
    |none=>rw[hc] at fa;cases fa
    |some iB =>
     rw[hc] at fa;obtain rfl:=osj fa;have oa:(fs.toList.map fun f=>(f.type,f.offset)).mapM (fun p:TypeId×Nat=>P.cellTypes d p.1)=some iB:=by rw[Us];exact hc
     have:=UK (Q:=Q) (R:=R) hT hR cs h.2 (fun p hp=>by
      have eL:=G5 (g:=fun t=>P.cellTypes d t) hlen h.2 oa p hp;simp only[List.mem_map] at hp;obtain⟨f,lH,rfl⟩:=hp;obtain⟨i,hi⟩:=Ux lH;have:=hx i f hi;have iN:i<fs.size:=(Array.getElem?_eq_some_iff.1 hi).1;rw[List.getElem?_eq_getElem (by omega)] at this;exact⟨⟨_,_,this⟩,_,eL.2,SD al _ _⟩) hf ρ σ hv
     rwa [List.drop_zero,List.take_of_length_le (by omega)] at this
def isAgg (P:Program) (t:TypeId):Bool:=match P.underlying t with
 |some (.struct _)=>true
 |some (.array _ _)=>true
 |_=>false
theorem View.arg {ρ:Plc}{σ:Heap}(h:View w ρ σ) {n:Nat}{k:Kind}{t:TypeId}{v:Value}{d:DataW H}{p:List MemPlace}(hk:KTy P n k t=true) (hl:k.lev1=true) (ha:isAgg P t=!k.one) (al:Value.okWide P w r base t v) (hd:DataW.Trod enc P w 0 (fun _=>true) true t v d p) :
  ∃ ρ' σ' vv x,View w ρ' σ'∧More ρ σ ρ' σ'∧VRel ρ' σ'.n vv v∧KV σ' k x vv∧KWf k x:=by
 obtain⟨fuel,hd⟩:=hd;by_cases ec:isAgg P t=true
 ·have bT:k.one=false:=by rw[ec] at ha;simpa using ha.symm
  have:∃ cs,v=.agg cs∧cs.size=P.cellsOf t∧Row.okWide P w r base t cs:=by
   unfold isAgg at ec;unfold Value.okWide at al;split at ec<;>first|(cases ec;done)|skip
   ·rename_i hu;rw[hu] at al;exact al
   ·rename_i hu;rw[hu] at al;exact al
  obtain⟨cs,rfl,az,ts,fa,_,b7⟩:=this;have hlen:=Rr hk fa;have aB:P.cellsOf t=k.size:=by
   unfold isAgg at ec;cases n with
   |zero=>cases hk
   |succ n =>
    unfold KTy at hk;split at ec<;>first|(cases ec;done)|skip
    all_goals
     rename_i hu;rw[hu] at hk;simp only[Bool.and_eq_true,beq_iff_eq] at hk;exact hk.1
  have mu:okc P w r base ts cs.toList:=fun i v u h1 h2=>by have hi:i<ts.length:=(List.getElem?_eq_some_iff.1 h2).1;obtain⟨u',h3,h4⟩:=b7 i v (by simpa using h1);rw[Nat.mod_eq_of_lt hi] at h3;obtain rfl:=osj (h2.symm.trans h3);exact h4
  obtain⟨ρ',σ',vs,x,k1,k2,k3,k4,k5⟩:=Ht hk hl fa mu (show DataW.trod enc P w 0 _ true fuel t cs.toList=_ from hd) ρ σ h;exact⟨ρ',σ',.agg vs.toArray,x,k1,k2,VRel.agg_of (ds:=cs.toList) k3,.inr ⟨bT,vs,rfl,k4⟩,k5⟩
 ·have bT:k.one=true:=by
   have:isAgg P t=false:=by simpa using ec
   rw[this] at ha;simpa using ha.symm
  have jb:=Kind.one_size bT;have aR:Cell.okWide P w r base t v∧v.cells.toList=[v]:=by
   have h1:isAgg P t=false:=by simpa using ec
   unfold isAgg at h1;have h2:Cell.okWide P w r base t v:=by
    unfold Value.okWide at al;split at al
    ·rename_i hu;rw[hu] at h1;cases h1
    ·rename_i hu;rw[hu] at h1;cases h1
    ·exact al
   refine⟨h2,?_⟩;cases v<;>first|rfl|skip
   all_goals
    exfalso;cases n with
    |zero=>cases hk
    |succ n =>
     unfold KTy at hk;unfold Cell.okWide Cell.ok at h2;cases hu:P.underlying t with
     |none=>rw[hu] at hk;cases hk
     |some u =>rw[hu] at hk h2 h1;cases u<;>first|(cases hk;done)|(cases h1;done)|(cases h2;done)|(simp at h2;done)
  have fa:P.cellTypes 1 t=some [t]:=by
   have h1:isAgg P t=false:=by simpa using ec
   unfold isAgg at h1;unfold Program.cellTypes;cases n with
   |zero=>cases hk
   |succ n =>
    unfold KTy at hk;cases hu:P.underlying t with
    |none=>rw[hu] at hk;cases hk
    |some u =>rw[hu] at h1;cases u<;>first|rfl|(cases h1;done)
  rw[aR.2] at hd;have mu:okc P w r base [t] [v]:=fun i v' u h1 h2=>by
   cases i with
   |zero=>cases h1;cases h2;exact aR.1
   |succ i=>simp at h1
  obtain⟨ρ',σ',vs,x,k1,k2,k3,k4,k5⟩:=Ht hk hl fa mu hd ρ σ h;have:vs.length=1:=by rw[KC.length k4];exact jb
  obtain⟨vv,rfl⟩:=List.length_eq_one_iff.1 this;exact⟨ρ',σ',vv,x,k1,k2,k3.2 0 _ _ rfl rfl,.inl ⟨bT,k4⟩,k5⟩
def AWf:(ks:List Kind)→AT ks→Prop
 |[],_=>True
 |[k],x=>KWf k x
 |k::k'::ks,x=>KWf k x.1∧AWf (k'::ks) x.2
def Q1z (P:Program):List Kind→List TypeId→Bool
 |[],[]=>true
 |k::ks,t::ts=>(KTy P 8 k t&&(k.lev1&&(isAgg P t==!k.one)))&&Q1z P ks ts
 |_,_=>false
theorem View.args:∀ {ks:List Kind}{ts:List TypeId}{vs:List Value}{ds:List (DataW H)}{ps:List MemPlace}{ρ:Plc}{σ:Heap},View w ρ σ→Q1z P ks ts=true→(∀ (j:Nat) t v,ts[j]?=some t→vs[j]?=some v→Value.okWide P w r base t v)→DataW.TrodAll enc P w 0 (fun _=>true) true ts vs ds ps →
  ∃ ρ' σ' nk x,View w ρ' σ'∧More ρ σ ρ' σ'∧LRel ρ' σ'.n nk vs∧Hj σ' ks x nk∧AWf ks x
 |[],[],vs,ds,ps,ρ,σ,h,_,_,hA=>by obtain⟨rfl,rfl,rfl⟩:=trodAll_nil hA;exact⟨ρ,σ,[],(),h,More.refl _ _,.nil _ _,rfl,trivial⟩
 |[k],[t],vs,ds,ps,ρ,σ,h,hk,hv,hA=>by obtain⟨v,cR,d,ds',p,q,rfl,rfl,rfl,h1,h2⟩:=trodAll_cons hA;obtain⟨rfl,rfl,rfl⟩:=trodAll_nil h2;simp only[Q1z,Bool.and_eq_true,beq_iff_eq] at hk;obtain⟨ρ',σ',vv,x,k1,k2,k3,k4,k5⟩:=h.arg hk.1.1 hk.1.2.1 hk.1.2.2 (hv 0 t v rfl rfl) h1;exact⟨ρ',σ',[vv],x,k1,k2,.one k3,⟨vv,rfl,k4⟩,k5⟩
 |k::k'::ks,t::ts,vs,ds,ps,ρ,σ,h,hk,hv,hA=>by obtain⟨v,cR,d,ds',p,q,rfl,rfl,rfl,h1,h2⟩:=trodAll_cons hA;simp only[Q1z,Bool.and_eq_true,beq_iff_eq] at hk;obtain⟨ρ1,σ1,vv,x,k1,k2,k3,k4,k5⟩:=h.arg hk.1.1 hk.1.2.1 hk.1.2.2 (hv 0 t v rfl rfl) h1;obtain⟨ρ2,σ2,nk,y,m1,m2,m3,m4,m5⟩:=k1.args (ks:=k'::ks) hk.2 (fun j t v h1 h2=>hv (j+1) t v h1 h2) h2;exact⟨ρ2,σ2,vv::nk,(x,y),m1,k2.trans m2,.cons (k3.mono m2.n m2.pl) m3,⟨vv,nk,rfl,k4.vcall m2.le,m4⟩,k5,m5⟩
 |[],_::_,_,_,_,_,_,_,hk,_,_|_::_,[],_,_,_,_,_,_,hk,_,_|[_],_::_::_,_,_,_,_,_,_,hk,_,_=>by simp[Q1z] at hk
theorem Fb (hT:Q7j w) {f:Nat}{sp:CSp}(gT:OkC P f sp) (he:Jg P f) {ks:List Kind}{ts:List TypeId}{args:Array Value}{ds:List (DataW H)}{ps:List MemPlace}(hk:Q1z P ks ts=true)
  (hv:∀ (j:Nat) t v,ts[j]?=some t→args.toList[j]?=some v→Value.okWide P w r base t v) (hA:DataW.TrodAll enc P w 0 (fun _=>true) true ts args.toList ds ps)
  (hs:∀ x:AT ks,AWf ks x→∃ c,sp (fun _ _=>none) (Ph ks x)=some (c,.val .bo true,[])∧c):Calls P f args w fun e w'=>e=.returned (.bool true)∧Below w.heap.size w w':=by
 obtain⟨ρ,σ,nk,x,k1,k2,k3,k4,k5⟩:=(View.emptyT w hT).args hk hv hA;obtain⟨c,h1,h2⟩:=hs x k5;exact k1.calls k3 (gT.true he (U9 k4) h1 h2)
end
end Go.V
namespace Go.V
open Go
theorem GJ {H:Type}{enc:TypeId×Value→H}{P:Program}{w:World}{b:Nat}{sp:Nat→Bool}{hd:Bool}:∀ {ts:List TypeId}{vs:List Value}{ds:List (DataW H)}{ps:List MemPlace},DataW.TrodAll enc P w b sp hd ts vs ds ps→ds.length=ts.length
 |[],[],[],_,_=>rfl
 |t::ts,v::vs,d::ds,ps,h=>by obtain⟨p,q,_,h2,_⟩:=h;simp[GJ h2]
 |[],[],_::_,_,h|[],_::_,_,_,h|_::_,[],_,_,h|_::_,_::_,[],_,h=>h.elim
end Go.V
namespace Go.Proofs.Tryz
open Go Go.V
def Q79:List (Option FEnt):=[
 none,
 none,
 some (.code c2 [] 1),
 some (.code c3 [.tmp 4] 113),
 some (.code c4 [.tmp 4] 298),
 some (.code c5 [.tmp 4] 185),
 some (.code c6 [.tmp 2] 33),
 some (.code c7 [.tmp 6] 15),
 some (.code c8 [.tmp 6] 35),
 some (.code c9 [.tmp 0] 239),
 some (.code c10 [.cell 2 true 2] 10),
 some (.code c11 [.tmp 4,.tmp 5,.tmp 6] 40),
 some (.code c12 [.tmp 4] 38),
 some (.code c13 [.tmp 4] 31),
 some (.code c14 [.tmp 6] 22),
 some (.code c15 [.tmp 2] 22),
 some (.code c16 [.tmp 4] 46),
 some (.code c17 [.cell 4 true 2] 8),
 some (.code c18 [.cell 2 true 2] 48),
 some (.code c19 [.cell 2 true 2] 51),
 some (.code c20 [.cell 4 true 2,.tmp 5] 48),
 some (.code c21 [.tmp 2,.tmp 3] 39),
 some (.code c22 [.tmp 4,.tmp 5] 43),
 some (.code c23 [.cell 2 true 2] 10),
 some (.code c24 [.tmp 6] 25),
 some (.code c25 [.tmp 2] 55),
 some (.code c26 [.tmp 2,.tmp 3] 37),
 some (.code c27 [.cell 4 true 2,.tmp 5,.tmp 6] 78),
 some (.code c28 [.cell 8 true 4] 14),
 some (.codeJ c29 [.cell 6 true 2,.tmp 7,.tmp 8] 84),
 some (.code c30 [.cell 6 false 1,.tmp 7] 49),
 some (.code c31 [.cell 6 false 1,.tmp 7] 42),
 some (.code c32 [.cell 4 true 2,.tmp 5] 33),
 some (.code c33 [.tmp 4,.tmp 5,.tmp 6,.tmp 7] 30),
 some (.code c34 [.cell 2 true 2,.cell 3 true 2,.tmp 4] 20),
 some (.codeJ c35 [.tmp 2,.tmp 3] 30),
 some (.code c36 [.tmp 4] 28),
 some (.code c37 [.tmp 2] 27),
 some (.code c38 [.tmp 6] 11),
 some (.code c39 [.cell 4 true 2] 59),
 some (.code c40 [.tmp 2,.cell 3 true 2] 47),
 some (.code c41 [.tmp 4] 22),
 some (.code c42 [.tmp 4] 56),
 some (.code c43 [.tmp 4] 50),
 some (.code c44 [.tmp 2] 25),
 some (.code c45 [.tmp 2] 36),
 some (.code c46 [.tmp 4] 26),
 some (.code c47 [.tmp 2] 28),
 some (.code c48 [.tmp 4] 22),
 some (.code c49 [.tmp 5] 23),
 some (.code c50 [.tmp 4] 48),
 some (.code c51 [.tmp 2] 32),
 some (.code c52 [.tmp 6] 11),
 some (.code c53 [.tmp 2,.tmp 3] 102),
 some (.code c54 [] 64),
 some (.code c55 [.tmp 4] 21),
 some (.code c56 [.tmp 4] 16),
 some (.code c57 [.tmp 4,.tmp 5,.tmp 6,.tmp 7] 47),
 some (.code c58 [.cell 4 true 2] 47),
 some (.code c59 [.cell 2 true 2,.tmp 3] 61),
 some (.code c60 [.tmp 2] 17),
 some (.code c61 [] 11),
 some (.code c62 [.tmp 4] 19),
 some (.code c63 [.tmp 4] 9),
 some (.code c64 [.tmp 4] 13),
 some (.code c65 [.tmp 6] 36),
 some (.code c66 [.tmp 2] 20),
 some (.code c67 [.tmp 4] 27),
 some (.code c68 [.tmp 4] 17),
 some (.code c69 [.tmp 2] 4),
 some (.code c70 [.tmp 6] 17),
 some (.code c71 [.tmp 2] 14),
 some (.code c72 [.tmp 4,.tmp 5] 30),
 some (.code c73 [.tmp 2] 5),
 some (.code c74 [.tmp 4] 6),
 some (.code c75 [.tmp 4] 13),
 some (.code c76 [.cell 4 true 4] 20),
 some (.code c77 [.tmp 6] 29),
 some (.code c78 [.tmp 4] 81),
 some (.code c79 [.tmp 2] 4),
 some (.code c80 [.cell 6 true 4,.tmp 7] 40),
 some (.code c81 [.tmp 3] 18),
 some (.code c82 [.tmp 4] 27),
 some (.code c83 [.tmp 4] 25),
 some (.code c84 [] 37),
 some (.code c85 [] 50),
 some (.code c86 [.tmp 4] 23),
 some (.code c87 [.tmp 4] 20),
 some (.code c88 [.tmp 2] 4),
 some (.code c89 [] 134),
 some (.code c90 [.tmp 2] 8),
 some (.code c91 [.tmp 4] 19),
 some (.code c92 [] 20),
 some (.code c93 [.tmp 4,.tmp 5] 17),
 some (.code c94 [.tmp 4,.tmp 5] 51),
 some (.code c95 [.tmp 4] 13),
 some (.code c96 [] 22),
 some (.code c97 [.tmp 3] 20),
 some (.code c98 [.tmp 3] 13),
 some (.code c99 [.tmp 4] 43),
 some (.code Q5w [.tmp 4] 9),
 some (.code Q6w [] 19),
 some (.code Q64 [] 49),
 some (.code Q5p [] 56),
 some (.code Q6x [] 65),
 some (.code Q6p [.tmp 6,.tmp 7] 57),
 some (.code Q59 [] 32),
 some (.code Q6z [.tmp 6] 133),
 some (.code Q5n [.tmp 4] 17),
 some (.code Q6m [.tmp 8] 84),
 some (.code Q5z [.tmp 8,.tmp 9] 168),
 some (.code Q5s [.tmp 2] 19),
 some (.code Q5h [.tmp 2] 25),
 some .same,
 some (.code Q6t [.tmp 4] 17),
 some (.code Q70 [.tmp 4] 23),
 some (.code Q6n [.cell 2 true 256,.tmp 3] 21),
 some (.code Q69 [.tmp 4] 16),
 some (.code Q73 [.tmp 4] 22),
 some (.code Q5c [.tmp 4] 23),
 some (.code Q6c [.tmp 4] 34),
 some (.code Q5f [.tmp 4] 19),
 some (.code Q66 [] 76),
 some (.code Q6k [.tmp 2] 7),
 some (.code Q61 [.tmp 2] 33),
 some (.code Q6v [.tmp 6] 15),
 some (.code Q74 [.tmp 10] 36),
 some (.code Q5m [.tmp 2] 6),
 some (.code Q63 [.tmp 4] 10),
 some (.code Q5l [.tmp 2,.tmp 3] 19),
 some (.code Q6j [.tmp 4] 9),
 some (.code Q5o [.tmp 2,.tmp 3] 51),
 some (.code Q6s [.tmp 8,.tmp 9] 28),
 some (.code Q6y [.tmp 2,.tmp 3] 117),
 some (.code Q65 [.tmp 4] 187),
 some (.code Q5i [.tmp 2] 6),
 some (.code Q6f [.tmp 4] 8),
 some (.code Q6e [.tmp 2] 17),
 some (.code Q67 [.tmp 2] 6),
 none,
 some (.code Q6o [.tmp 4] 8)]
def Q7u:Tab:=fun f=>(Q79[f]?).join
theorem Q0v:EntsOk Tryz.prog 0 Q79:=⟨trivial,trivial,Q77,fun3,Q7a,Q7r,Q5a,Q6r,Q5r,Q5j,Q0h,Q0t,Q1a,OU,Q1n,Q0r,Q14,Q0n,Q4t,Q28,Q2y,Q2c,Q2i,Q30,Q3h,Q4q,Q4k,Q26,Q2g,OW,Q3n,Q3p,Q3d,Q2z,Q3m,Q2x,Q36,Q19,OT,Q1o,Q04,Q01,OP,Q0a,Q1d,Q3v,Q4b,Q10,Q4s,Q29,Q2j,Q41,Q0q,OM,Q3g,Q2q,Q3k,Q2h,Q4l,Q3e,Q4n,Q33,Q2a,Q0f,ON,Q1p,OL,Q2n,Q2o,Q3f,Q4r,Q2r,Q3r,Q3j,Q4p,Q1g,Q1h,OQ,Q0i,Q1k,Q15,Q48,Q35,Q24,Q4i,Q2t,Q2m,Q2l,Q4g,Q47,Q46,O_,Q3z,Q2u,Q4e,Q4h,Q4w,Q4a,Q3i,Q2s,Iz,Ok,O0,IE,IY,Od,Iy,OF,Iv,IN,II,Iw,Ov,En,IQ,Om,IV,Ix,IU,OH,IJ,On,Ot,IF,Ou,Oe,IH,IM,OC,O6,O5,OG,IX,IT,O2,IB,OD,Oq,Oi,trivial,Oc,trivial⟩
theorem Qt:TabOk Tryz.prog Q7u:=Lw Q0v
def AJ:Memo:=⟨[.agg #[.int .i64 4,.slice (some ⟨0,0,none⟩) 1 1],.slice (some ⟨1,0,none⟩) 1 1,.int .i64 2],[⟨[.int .i64 0],⟨1,3⟩,true⟩,⟨[.int .i64 0],⟨1,3⟩,true⟩],.tuple #[.agg #[.int .i64 4,.slice (some ⟨2,0,none⟩) 1 1],.int .i64 2,.int .i64 0],[⟨[.int .i64 3],⟨1,3⟩,false⟩]⟩
theorem CW:QB Tryz.prog 29 AJ:=Qj mixed Qt 200 (by kernel_rfl) (by kernel_rfl)
def Ag:Memo:=⟨[.agg #[.int .i64 4,.slice (some ⟨0,0,none⟩) 1 1],.slice (some ⟨1,0,none⟩) 1 1,.int .i64 2],[⟨[.int .i64 1],⟨1,3⟩,true⟩,⟨[.int .i64 1],⟨1,3⟩,true⟩],.tuple #[.agg #[.int .i64 4,.slice (some ⟨2,0,none⟩) 1 1],.int .i64 1,.int .i64 0],[⟨[.int .i64 3],⟨1,3⟩,false⟩]⟩
theorem Cl:QB Tryz.prog 29 Ag:=Qj mixed Qt 200 (by kernel_rfl) (by kernel_rfl)
def AZ:Memo:=⟨[.agg #[.int .i64 4,.slice (some ⟨0,0,none⟩) 1 1],.slice (some ⟨1,0,none⟩) 1 1,.int .i64 2],[⟨[.int .i64 2],⟨1,3⟩,true⟩,⟨[.int .i64 2],⟨1,3⟩,true⟩],.tuple #[.agg #[.int .i64 4,.slice (some ⟨2,0,none⟩) 1 1],.int .i64 1,.int .i64 0],[⟨[.int .i64 3],⟨1,3⟩,false⟩]⟩
theorem Cr:QB Tryz.prog 29 AZ:=Qj mixed Qt 200 (by kernel_rfl) (by kernel_rfl)
def AF:Memo:=⟨[.agg #[.int .i64 4,.slice (some ⟨0,0,none⟩) 1 1],.slice (some ⟨1,0,none⟩) 1 1,.int .i64 2],[⟨[.int .i64 3],⟨1,3⟩,true⟩,⟨[.int .i64 3],⟨1,3⟩,true⟩],.tuple #[.agg #[.int .i64 4,.slice (some ⟨2,0,none⟩) 1 1],.int .i64 0,.int .i64 0],[⟨[.int .i64 3],⟨1,3⟩,false⟩]⟩
theorem CK:QB Tryz.prog 29 AF:=Qj mixed Qt 200 (by kernel_rfl) (by kernel_rfl)
def E4:Memo:=⟨[.agg #[.int .i64 4,.slice (some ⟨0,0,none⟩) 1 1],.slice (some ⟨1,0,none⟩) 1 1,.int .i64 2],[⟨[.int .i64 4],⟨1,3⟩,true⟩,⟨[.int .i64 4],⟨1,3⟩,true⟩],.tuple #[.agg #[.int .i64 4,.slice (some ⟨2,0,none⟩) 1 1],.int .i64 1,.int .i64 0],[⟨[.int .i64 5],⟨1,3⟩,false⟩]⟩
theorem LP:QB Tryz.prog 29 E4:=Qj mixed Qt 200 (by kernel_rfl) (by kernel_rfl)
def F3:Memo:=⟨[.agg #[.int .i64 4,.slice (some ⟨0,0,none⟩) 1 1],.slice (some ⟨1,0,none⟩) 1 1,.int .i64 2],[⟨[.int .i64 5],⟨1,3⟩,true⟩,⟨[.int .i64 5],⟨1,3⟩,true⟩],.tuple #[.agg #[.int .i64 4,.slice (some ⟨2,0,none⟩) 1 1],.int .i64 0,.int .i64 0],[⟨[.int .i64 5],⟨1,3⟩,false⟩]⟩
theorem LS:QB Tryz.prog 29 F3:=Qj mixed Qt 200 (by kernel_rfl) (by kernel_rfl)
def AE:Memo:=⟨[.agg #[.int .i64 4,.slice (some ⟨0,0,none⟩) 1 1],.slice (some ⟨1,0,none⟩) 1 1,.int .i64 2],[⟨[.int .i64 6],⟨1,3⟩,true⟩,⟨[.int .i64 6],⟨1,3⟩,true⟩],.tuple #[.agg #[.int .i64 4,.slice (some ⟨2,0,none⟩) 1 1],.int .i64 0,.int .i64 0],[⟨[.int .i64 6],⟨1,3⟩,false⟩]⟩
theorem CX:QB Tryz.prog 29 AE:=Qj mixed Qt 200 (by kernel_rfl) (by kernel_rfl)
def AW:Memo:=⟨[.agg #[.int .i64 4,.slice (some ⟨0,0,none⟩) 1 1],.slice (some ⟨1,0,none⟩) 1 1,.int .i64 2],[⟨[.int .i64 7],⟨1,3⟩,true⟩,⟨[.int .i64 7],⟨1,3⟩,true⟩],.tuple #[.agg #[.int .i64 0,.slice none 0 0],.int .i64 0,.int .i64 9],[]⟩
theorem C9:QB Tryz.prog 29 AW:=Qj mixed Qt 200 (by kernel_rfl) (by kernel_rfl)
def At:Memo:=⟨[.agg #[.int .i64 4,.slice (some ⟨0,0,none⟩) 1 1],.slice (some ⟨1,0,none⟩) 1 1,.int .i64 2],[⟨[.int .i64 8],⟨1,3⟩,true⟩,⟨[.int .i64 8],⟨1,3⟩,true⟩],.tuple #[.agg #[.int .i64 4,.slice (some ⟨2,0,none⟩) 1 1],.int .i64 1,.int .i64 0],[⟨[.int .i64 9],⟨1,3⟩,false⟩]⟩
theorem C_:QB Tryz.prog 29 At:=Qj mixed Qt 200 (by kernel_rfl) (by kernel_rfl)
def E2:Memo:=⟨[.agg #[.int .i64 4,.slice (some ⟨0,0,none⟩) 1 1],.slice (some ⟨1,0,none⟩) 1 1,.int .i64 2],[⟨[.int .i64 9],⟨1,3⟩,true⟩,⟨[.int .i64 9],⟨1,3⟩,true⟩],.tuple #[.agg #[.int .i64 4,.slice (some ⟨2,0,none⟩) 1 1],.int .i64 0,.int .i64 0],[⟨[.int .i64 9],⟨1,3⟩,false⟩]⟩
theorem Cp:QB Tryz.prog 29 E2:=Qj mixed Qt 200 (by kernel_rfl) (by kernel_rfl)
def Sk:Memo:=⟨[.agg #[.int .i64 4,.slice (some ⟨0,0,none⟩) 1 1],.slice (some ⟨1,0,none⟩) 1 1,.int .i64 2],[⟨[.int .i64 10],⟨1,3⟩,true⟩,⟨[.int .i64 10],⟨1,3⟩,true⟩],.tuple #[.agg #[.int .i64 4,.slice (some ⟨2,0,none⟩) 1 1],.int .i64 0,.int .i64 0],[⟨[.int .i64 10],⟨1,3⟩,false⟩]⟩
theorem Rk:QB Tryz.prog 29 Sk:=Qj mixed Qt 200 (by kernel_rfl) (by kernel_rfl)
def SA:Memo:=⟨[.agg #[.int .i64 4,.slice (some ⟨0,0,none⟩) 1 1],.slice (some ⟨1,0,none⟩) 1 1,.int .i64 2],[⟨[.int .i64 11],⟨1,3⟩,true⟩,⟨[.int .i64 11],⟨1,3⟩,true⟩],.tuple #[.agg #[.int .i64 0,.slice none 0 0],.int .i64 0,.int .i64 9],[]⟩
theorem Ru:QB Tryz.prog 29 SA:=Qj mixed Qt 200 (by kernel_rfl) (by kernel_rfl)
def Sv:Memo:=⟨[.agg #[.int .i64 4,.slice (some ⟨0,0,none⟩) 1 1],.slice (some ⟨1,0,none⟩) 1 1,.int .i64 2],[⟨[.int .i64 12],⟨1,3⟩,true⟩,⟨[.int .i64 12],⟨1,3⟩,true⟩],.tuple #[.agg #[.int .i64 4,.slice (some ⟨2,0,none⟩) 1 1],.int .i64 0,.int .i64 0],[⟨[.int .i64 12],⟨1,3⟩,false⟩]⟩
theorem RD:QB Tryz.prog 29 Sv:=Qj mixed Qt 200 (by kernel_rfl) (by kernel_rfl)
def Se:Memo:=⟨[.agg #[.int .i64 4,.slice (some ⟨0,0,none⟩) 1 1],.slice (some ⟨1,0,none⟩) 1 1,.int .i64 2],[⟨[.int .i64 13],⟨1,3⟩,true⟩,⟨[.int .i64 13],⟨1,3⟩,true⟩],.tuple #[.agg #[.int .i64 0,.slice none 0 0],.int .i64 0,.int .i64 9],[]⟩
theorem S1:QB Tryz.prog 29 Se:=Qj mixed Qt 200 (by kernel_rfl) (by kernel_rfl)
def Si:Memo:=⟨[.agg #[.int .i64 4,.slice (some ⟨0,0,none⟩) 1 1],.slice (some ⟨1,0,none⟩) 1 1,.int .i64 2],[⟨[.int .i64 14],⟨1,3⟩,true⟩,⟨[.int .i64 14],⟨1,3⟩,true⟩],.tuple #[.agg #[.int .i64 0,.slice none 0 0],.int .i64 0,.int .i64 9],[]⟩
theorem RZ:QB Tryz.prog 29 Si:=Qj mixed Qt 200 (by kernel_rfl) (by kernel_rfl)
def LB:Memo:=⟨[.agg #[.int .i64 4,.slice (some ⟨0,0,none⟩) 1 1],.slice (some ⟨1,0,none⟩) 1 1,.int .i64 2],[⟨[.int .i64 15],⟨1,3⟩,true⟩,⟨[.int .i64 15],⟨1,3⟩,true⟩],.tuple #[.agg #[.int .i64 0,.slice none 0 0],.int .i64 0,.int .i64 9],[]⟩
theorem RL:QB Tryz.prog 29 LB:=Qj mixed Qt 200 (by kernel_rfl) (by kernel_rfl)
end Go.Proofs.Tryz