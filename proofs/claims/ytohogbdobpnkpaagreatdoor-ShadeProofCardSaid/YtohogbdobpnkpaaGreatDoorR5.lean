/- A framework for walks, contracts of functions, and their proofs: part 5. -/
import Derived.ProofKit
import Derived.OpenShut
import Derived.LaidMore
import Derived.Carry
import Derived.Lib.SmallJoins
import Derived.Deep.Slices
import Derived.Test.YtohogbdobpnkpaaGreatDoorR4
namespace Go.V
open Go
section
variable {P:Program}
mutual
theorem X0c:∀ (v:SV) {K:SV→Prop},nmV v K→K v
 |.val k x,K,h=>by simp only[nmV] at h;exact h x rfl
 |.agg l,K,h=>by simp only[nmV] at h;exact J1h l h
 |.tup l,K,h=>by simp only[nmV] at h;exact J1h l h
 |.any,_,h|.dd _ _,_,h|.bid _ _,_,h|.grd _ _,_,h|.nilS,_,h|.nilP,_,h|.nilM,_,h|.nilF,_,h|.lst _,_,h|.sub _ _ _ _,_,h|.elp _ _ _ _,_,h|.rop _ _ _ _,_,h|.box _ _,_,h|.cp _ _,_,h|.map _,_,h|.fn _ _ _,_,h|.pf _ _ _ _,_,h=>by simp only[nmV] at h;exact h
theorem J1h:∀ (l:List SV) {K:List SV→Prop},nmVs l K→K l
 |[],K,h=>by simp only[nmVs] at h;exact h
 |v::r,K,h=>by simp only[nmVs] at h;exact J1h r (X0c v h)
end
theorem Q1l {C:Cx}{o:VOp}{ev:Operand→SV}{v:SV}{K:SV→Prop}(h:gnm C o ev v K):K v:=by
 unfold gnm at h;cases hb:(C.nm&&nmOp o ev) with
 |true=>rw[hb] at h;exact X0c v h
 |false=>rw[hb] at h;exact h
theorem Z9v {B:Heap}{pl:Nat→Value}{tb:Nat→Option Bool}{v:SV}{u:Value}(h:SR P B pl tb v u):SR P B pl tb (unbid v) u∧gtb tb (unbid v):=by
 cases v with
 |bid n c=>simp only[SR] at h;obtain⟨rfl,_⟩:=h;exact⟨Q2l _,trivial⟩
 |_=>exact⟨h,trivial⟩
theorem Z9u {tb:Nat→Option Bool}(v:SV):gtb tb (unbid v):=by cases v<;>trivial
theorem Z8z {C:Cx}(hcs:COk P C) {B F:Heap}{pl:Nat→Value}{tb:Nat→Option Bool}{s:St}{env:Env}{σ:Heap}(hG:Gam P B F pl tb s env σ) {d:Nat}{f:SV}{args:List SV}{fV:Value}{vs:List Value}(hf:SR P B pl tb f fV) (ha:SRs P B pl tb args vs) {K:SV→St→Prop}(h:gcallN C d f args s K) {R:Value→Heap→Prop}
  (hK:∀ v s' B' F' pl' tb' u σ',K v s'→GBase B F σ B' F' σ'→Gam P B' F' pl' tb' s' env σ'→SR P B' pl' tb' v u→R u σ'):∃ g a b,fV=.func (.func g) a b∧VCalled P g (a.toList++vs++b.toList) σ R:=by
 unfold gcallN at h;have hf':SR P σ noPl noTb ((ress s.own [f]).getD 0 .any) fV:=by have:=(Z1e hG.leB hG.obj (show SRs P B pl tb [f] [fV] by simp only[SRs];exact⟨_,[],rfl,hf,rfl⟩)).getD 0 poison;simpa using this
 have ha':=Z1e hG.leB hG.obj ha;split at h
 ·rename_i c v bs heq;cases hb:(v.ret bs.length&&(bs.all OB.ret&&Nat.blt 0 C.nt)) with
  |false=>rw[hb] at h;exact h.elim
  |true =>rw[hb] at h;obtain⟨h1,h2⟩:=h;simp only[Bool.and_eq_true] at hb;obtain⟨g,a,b,e,hcall,_⟩:=Q2i hcs.cs hf' ha' heq hb.1 hb.2.1 h1;refine⟨g,a,b,e,hcall.mono fun u σ' hr=>?_⟩;obtain⟨pl',h3,h4⟩:=hr.gam (nt:=C.nt) (d:=d) (by simpa [Nat.blt_eq] using hb.2.2) hG hb.1 hb.2.1;exact hK _ _ B F pl' tb u σ' h2 (.of hG.bf hr.1.2) h3 h4
 ·exact h.elim
theorem Z8s {C:Cx}(hcs:COk P C) {B F:Heap}{pl:Nat→Value}{tb:Nat→Option Bool}{s:St}{env:Env}{σ:Heap}(hG:Gam P B F pl tb s env σ) {d:Nat}{f:SV}{args:List SV}{fV:Value}{vs:List Value}(hf:SR P B pl tb f fV) (ha:SRs P B pl tb args vs) {K:SV→St→Prop}(h:gcallX C d f args s K) (hny:∀ o,f≠.dd o .yv) {R:Value→Heap→Prop}
  (hK:∀ v s' B' F' pl' tb' u σ',K v s'→GBase B F σ B' F' σ'→Gam P B' F' pl' tb' s' env σ'→SR P B' pl' tb' v u→R u σ'):∃ g a b,fV=.func (.func g) a b∧VCalled P g (a.toList++vs++b.toList) σ R:=by
 unfold gcallX at h;split at h
 ·rename_i g a b;split at h
  ·rename_i x hx;have hf0:=hf;simp only[SR] at hf;obtain⟨a',b',rfl,h1,h2⟩:=hf;refine⟨g,a'.toArray,b'.toArray,rfl,?_⟩;have:=hcs.xs g x hx B F pl tb s env σ d _ _ K R hG (h1.append (ha.append h2)) h hK;simpa using this
  ·exact Z8z hcs hG hf ha h hK
 ·exact(hny _ rfl).elim
 ·exact Z8z hcs hG hf ha h hK
theorem X10 {C:Cx}{B F:Heap}{pl:Nat→Value}{tb:Nat→Option Bool}{s:St}{env:Env}{σ:Heap}(hG:Gam P B F pl tb s env σ) {d:Nat}{o:VOp}{K:SV→St→Prop}(h:gnd C d o (gev [] s.env) s K) {R:Value→Heap→Prop}
  (hK:∀ v s' B' F' pl' tb' u σ',K v s'→GBase B F σ B' F' σ'→Gam P B' F' pl' tb' s' env σ'→SR P B' pl' tb' v u→R u σ'):vop (semSpecs P) o env σ R:=by
 obtain⟨u,σ',pl',v,s',h1,h2,h3,h4⟩:=J2g (fun x=>hG.evs (Gds.nil (tb:=tb)) x) hG h;have fin:obind (vact o (evalO env) σ) (fun p=>R p.1 p.2):=by rw[h1];exact hK v s' B F pl' tb u σ' h2 (.of hG.bf (Q8w h1)) h3.1 h4
 cases o
 case buildSlice e z n ps=>exact fin
 case makeSlice e b z l c=>exact fin
 case append e b x y=>exact fin
 case store size a x=>exact fin
 all_goals exact h.elim
section
variable {B F:Heap}{pl:Nat→Value}{tb:Nat→Option Bool}{s:St}{env:Env}{σ:Heap}
def Heap.ins (B σ:Heap) (i:Nat) (h:B.n≤σ.n):Heap where
 get j:=if j=i then σ.get i else B.get j
 n:=σ.n
 wf j hj:=by
  by_cases e:j=i
  ·simp only[if_pos e];subst e;exact σ.wf j hj
  ·simp only[if_neg e];exact B.wf j (Nat.le_trans h hj)
theorem Heap.ins_self (B σ:Heap) (i:Nat) (h:B.n≤σ.n):(B.ins σ i h).get i=σ.get i:=by simp[Heap.ins]
theorem Heap.ins_ne (B σ:Heap) {i j:Nat}(h:B.n≤σ.n) (e:j≠i):(B.ins σ i h).get j=B.get j:=by simp[Heap.ins,e]
theorem Heap.Le.ins {B σ:Heap}(h:B.Le σ) (i:Nat):B.Le (B.ins σ i h.1):=⟨h.1,fun j b hb=>by
 by_cases e:j=i
 ·subst e;rw[Heap.ins_self];exact h.2 _ _ hb
 ·rw[Heap.ins_ne _ _ _ e];exact hb⟩
theorem Heap.Le.ins_le {B σ:Heap}(h:B.Le σ) (i:Nat):(B.ins σ i h.1).Le σ:=⟨Nat.le_refl _,fun j b hb=>by
 by_cases e:j=i
 ·subst e;rw[Heap.ins_self] at hb;exact hb
 ·rw[Heap.ins_ne _ _ _ e] at hb;exact h.2 _ _ hb⟩
theorem Heap.ins_ins {B F σ:Heap}(h:B.Le F) (i:Nat) (hB:B.n≤σ.n) (hF:F.n≤σ.n):(B.ins σ i hB).Le (F.ins σ i hF):=⟨Nat.le_refl _,fun j b hb=>by
 by_cases e:j=i
 ·subst e;rw[Heap.ins_self] at hb ⊢;exact hb
 ·rw[Heap.ins_ne _ _ _ e] at hb ⊢;exact h.2 _ _ hb⟩
theorem Gam.freeze (hG:Gam P B F pl tb s env σ) {o i:Nat}(hl:(oget s.own o).live=true) (hi:Oid (pl o) i) :
  GBase B F σ (B.ins σ i hG.leB.1) (F.ins σ i hG.le.1) σ∧Gam P (B.ins σ i hG.leB.1) (F.ins σ i hG.le.1) pl tb ⟨s.env,oset s.own o .dead,s.nx⟩ env σ:=by
 have hFi:=hG.fresh o i hl hi;have lv:∀ d,(oget (oset s.own o .dead) d).live=true→d≠o∧(oget s.own d).live=true:=fun d h=>by
  rw[Q09] at h;by_cases e:d=o
  ·rw[if_pos e] at h;cases h
  ·rw[if_neg e] at h;exact⟨e,h⟩
 refine⟨⟨hG.leB.ins i,hG.le.ins i,fun j b h1 h2=>?_,.refl _⟩,⟨Heap.ins_ins hG.bf i _ _,hG.le.ins_le i,SRs.mono (hG.leB.ins i) (fun _ _ h=>h) _ _ hG.env,fun d=>?_,fun d j h1 h2=>?_,fun d d' j hne h1 h2 h3 h4=>hG.sep d d' j hne (lv d h1).2 (lv d' h2).2 h3 h4,hG.free⟩⟩
 ·have e:j≠i:=by rintro rfl;rw[hFi] at h1;cases h1
  rw[Heap.ins_ne _ _ _ e];exact h2
 ·simp only[Q09];by_cases e:d=o
  ·rw[if_pos e];trivial
  ·rw[if_neg e];exact(hG.obj d).mono (hG.leB.ins i) (fun _ _ h=>h) fun _ _ _=>rfl
 ·obtain⟨hne,hlv⟩:=lv d h1;have e:j≠i:=by rintro rfl;exact hG.sep d o j hne hlv hl h2 hi
  rw[Heap.ins_ne _ _ _ e];exact hG.fresh d j hlv h2
theorem Gam.own {s':St}(hG:Gam P B F pl tb s env σ) (h1:s'.env=s.env) (h2:∀ d,oget s'.own d=oget s.own d) (h3:s'.nx=s.nx):Gam P B F pl tb s' env σ :=
 ⟨hG.bf,hG.le,by rw[h1];exact hG.env,fun d=>by rw[h2];exact hG.obj d,fun d i=>by rw[h2];exact hG.fresh d i,fun d d' i hne=>by rw[h2,h2];exact hG.sep d d' i hne,fun n hn=>hG.free n (by rw[←h3];exact hn)⟩
theorem Gam.drop (hG:Gam P B F pl tb s env σ) (o:Nat):Gam P B F pl tb ⟨s.env,oset s.own o .dead,s.nx⟩ env σ:=by
 have lv:∀ d,(oget (oset s.own o .dead) d).live=true→d≠o∧(oget s.own d).live=true:=fun d h=>by
  rw[Q09] at h;by_cases e:d=o
  ·rw[if_pos e] at h;cases h
  ·rw[if_neg e] at h;exact⟨e,h⟩
 refine⟨hG.bf,hG.le,hG.env,fun d=>?_,fun d j h1 h2=>hG.fresh d j (lv d h1).2 h2,fun d d' j hne h1 h2 h3 h4=>hG.sep d d' j hne (lv d h1).2 (lv d' h2).2 h3 h4,hG.free⟩;simp only[Q09];by_cases e:d=o
 ·rw[if_pos e];trivial
 ·rw[if_neg e];exact hG.obj d
theorem J7t (s:St) (d:Nat) (b:OB) (q:Nat):oget (s.make d .dead).own q=oget (oset (s.make d b).own d .dead) q:=by
 simp only[St.make,Q09];by_cases e:q=d
 ·rw[if_pos e,if_pos e]
 ·rw[if_neg e,if_neg e,if_neg e]
theorem X1w {C:Cx}(hG:Gam P B F pl tb s env σ) {d:Nat}{x:Operand}{K:SV→St→Prop}(h:gn C d (.ext (.rangeMap x)) (gev [] s.env) s K) {R:Value→Heap→Prop}
  (hK:∀ v s' B' F' pl' tb' u σ',K v s'→GBase B F σ B' F' σ'→Gam P B' F' pl' tb' s' env σ'→SR P B' pl' tb' v u→R u σ'):vop (semSpecs P) (.ext (.rangeMap x)) env σ R:=by
 have ha:=hG.evs (Gds.nil (tb:=tb)) x;simp only[gn] at h;split at h
 ·rename_i o h1;rw[h1] at ha;simp only[SR] at ha;split at h
  ·rename_i kk vk m ho;split at h
   ·have hob:=hG.obj o;rw[ho] at hob;obtain⟨i,es,clock,h2,h3,h4⟩:=hob;obtain⟨g1,g2⟩:=hG.freeze (o:=o) (i:=i) (by rw[ho];rfl) (by rw[h2];rfl)
    have hpush:=g2.push d (.iter kk vk m []) (.pointer (some ⟨σ.n,0,none⟩)) (.obj (.iter i clock [] clock) true) rfl
     ⟨σ.n,i,es,clock,true,[],rfl,Heap.get_push_self _ _,by rw[Heap.ins_self];exact h3,h4.mono g1.b,rfl,fun t r h=>by simp at h⟩
    show obind (vact (.ext (.rangeMap x)) (evalO env) σ) _;have hv:vact (.ext (.rangeMap x)) (evalO env) σ=some (.pointer (some ⟨σ.n,0,none⟩),σ.push (.obj (.iter i clock [] clock) true)):=by simp only[vact,xact,ha.1,h2,Heap.mapAt,h3]
    rw[hv];exact hK _ _ _ _ _ _ _ _ h (g1.trans (.of g2.bf (Dead.push _ _))) hpush (by simp only[SR,Q5a];exact⟨_,rfl,rfl⟩)
   ·exact h.elim
  ·exact h.elim
 ·exact h.elim
theorem X38 {C:Cx}(hG:Gam P B F pl tb s env σ) {d:Nat}{x:Operand}{K:SV→St→Prop}(h:gn C d (.ext (.nextMap x)) (gev [] s.env) s K) {R:Value→Heap→Prop}
  (hK:∀ v s' B' F' pl' tb' u σ',K v s'→GBase B F σ B' F' σ'→Gam P B' F' pl' tb' s' env σ'→SR P B' pl' tb' v u→R u σ'):vop (semSpecs P) (.ext (.nextMap x)) env σ R:=by
 have ha:=hG.evs (Gds.nil (tb:=tb)) x;simp only[gn] at h;split at h
 ·rename_i o f h1;rw[h1] at ha;simp only[SR] at ha;split at h
  ·rename_i kk vk m dn ho;split at h
   ·rename_i hf;obtain⟨rfl,hprim⟩:=hf;have hlive:(oget s.own o).live=true:=by rw[ho];rfl
    have hob:=hG.obj o;rw[ho] at hob;obtain⟨j,i,es,clock,wr,seen,h2,h3,h4,h5,h6⟩:=hob;obtain⟨b,e2,e3⟩:=ha;rw[h2] at e2;obtain rfl:j=b:=by simpa using e2
    have hmap:σ.mapAt i=some (es,clock,wr):=by simp[Heap.mapAt,hG.leB.2 _ _ h4]
    have hlen:=h5.1.length;obtain⟨hA,hB⟩:=h;have hid:F.get j=none:=hG.fresh o j hlive (by rw[h2];rfl);have hoth:∀ q i',q≠o→(oget s.own q).live=true→Oid (pl q) i'→i'≠j:=fun q i' hq hl hi e=>by subst e;exact hG.sep q o i' hq hl hlive hi (by rw[h2];rfl)
    show vnext (evalO env x) σ R;unfold vnext;rw[e3];simp only[h3,hmap];refine⟨?_,?_,fun hall=>?_,fun e he hes=>?_⟩
    ·cases es with
     |nil=>simp
     |cons e es=>simp[h5.2.2 e (by simp)]
    ·rw[List.all_eq_true];intro e he;obtain⟨r,hr⟩:=List.mem_iff_getElem?.1 he;obtain⟨_,k1,_⟩:=MR.at h5.1 hr;exact J3q hprim (k1.kc (Kind.prim_one hprim))
    ·refine hK _ _ _ _ _ _ _ _ (hA fun r hr=>?_) (.of hG.bf (Dead.refl σ)) hG (by simp only[SR,SRs];exact⟨[.bool false],rfl,_,[],rfl,rfl,rfl⟩);have hrl:r<es.length:=by omega
     have he:=List.getElem?_eq_getElem hrl;have:=List.all_eq_true.1 hall es[r] (List.getElem_mem hrl);have hlt:=h5.2.2 _ (List.getElem_mem hrl);rw[Bool.or_eq_true,decide_eq_true_eq] at this;rcases this with this|this
     ·rw[List.contains_iff_mem] at this;obtain⟨t,ht⟩:=List.mem_iff_getElem?.1 this;have htl:t<seen.length:=(List.getElem?_eq_some_iff.1 ht).1;have htd:t<dn.length:=by have:=h6.1;omega
      obtain⟨e',k1,k2⟩:=h6.2 t dn[t] (List.getElem?_eq_getElem htd);rw[ht] at k2;have:=J87 h5.2 he k1 (osj k2);rw[this];exact List.getElem_mem htd
     ·omega
    ·obtain⟨r,hr⟩:=List.mem_iff_getElem?.1 he;have hrl:r<es.length:=(List.getElem?_eq_some_iff.1 hr).1;have hrn:r∉dn:=fun hm=>by
      obtain⟨t,ht⟩:=List.mem_iff_getElem?.1 hm;obtain⟨e',k1,k2⟩:=h6.2 t r ht;rw[hr] at k1;obtain rfl:=osj k1;have:seen.contains e.2.2=true:=by rw[List.contains_iff_mem];exact List.mem_of_getElem? k2
      rw[this] at hes;cases hes
     refine hK _ _ _ _ _ _ _ _ (hB r (by omega) hrn) (.of hG.bf (Dead.upd _ _ _ (by rw[h3];rfl))) (hG.write o _ (hG.le.upd hid _) hlive (fun q i' hq hl hi=>Heap.get_upd_ne _ _ (hoth q i' hq hl hi)) ⟨j,i,es,clock,wr,seen++[e.2.2],h2,Heap.get_upd_self _ _ (σ.lt h3),h4,h5,?_,fun t r' ht=>?_⟩) (by simp only[SR,SRs];exact⟨[.bool true,e.1,e.2.1],rfl,_,_,rfl,rfl,_,_,rfl,trivial,_,_,rfl,trivial,rfl⟩)
     ·simp[h6.1]
     ·rw[List.getElem?_append] at ht;split at ht
      ·rename_i hlt;obtain⟨e',k1,k2⟩:=h6.2 t r' ht;refine⟨e',k1,?_⟩;rw[List.getElem?_append_left (by have:=h6.1;omega)];exact k2
      ·rename_i hge;have h0:t-dn.length=0:=by
        cases hz:t-dn.length with
        |zero=>rfl
        |succ n=>rw[hz] at ht;simp at ht
       rw[h0] at ht;obtain rfl:r=r':=by simpa using ht
       refine⟨e,hr,?_⟩;rw[List.getElem?_append_right (by have:=h6.1;omega),show t-seen.length=0 by have:=h6.1;omega];rfl
   ·exact h.elim
  ·exact h.elim
 ·exact h.elim
theorem J4o {d:Nat}(hbf:B.Le F) {ty:Nat}{k:Kind}{xs:List k.T}{nl:Bool}(hk:k.flat=true) {pl':Nat→Value}{u:Value}{σ':Heap}(h1:Gam P B F pl' tb (s.make d (.lst ty k xs nl)) env σ') (h2:SR P B pl' tb (.lst d) u) (hd:Dead σ σ') :
  ∃ B' F',GBase B F σ B' F' σ'∧Gam P B' F' pl' tb (s.make d .dead) env σ'∧SR P B' pl' tb (.val (.list k) xs) u:=by
 have hob:=h1.obj d;have hget:oget (s.make d (.lst ty k xs nl)).own d=.lst ty k xs nl:=by simp only[St.make,Q09,if_true]
 rw[hget] at hob;simp only[SR] at h2;obtain⟨rfl,_⟩:=h2;rcases hob with⟨_,hx,hp⟩|⟨_,i,cap,c,t,hp,hcap,hg,hlen,hrows⟩
 ·refine⟨B,F,.of hbf hd,(h1.drop d).own rfl (J7t s d _) rfl,?_⟩;simp only[SR];exact⟨_,rfl,.inl ⟨hx,hp⟩⟩
 ·obtain⟨g1,g2⟩:=h1.freeze (o:=d) (i:=i) (by rw[hget];rfl) (by rw[hp];rfl);refine⟨_,_,(GBase.of hbf hd).trans g1,g2.own rfl (J7t s d _) rfl,?_⟩;simp only[SR];refine⟨_,rfl,.inr ⟨i,0,cap,c,⟨k.size,ty⟩,true,t,hp,hcap,by rw[Heap.ins_self];exact hg,rfl,by have:=Nat.mul_le_mul_right k.size hcap;omega,?_⟩⟩;rw[List.drop_zero];exact hrows.mono fun _ _ e=>KC.flat hk e
theorem X03 {d nt:Nat}(hnt:0<nt) (hG:Gam P B F pl tb s env σ) {ty:Nat}{k:Kind}{xs:List k.T}{nl:Bool}(hk:k.flat=true) {u:Value}{σ':Heap}(h:Ret P σ (.lst 0) [.lst ty k xs nl] u σ') :
  ∃ B' F' pl',GBase B F σ B' F' σ'∧Gam P B' F' pl' tb (s.make d .dead) env σ'∧SR P B' pl' tb (.val (.list k) xs) u:=by
 obtain⟨pl',h1,h2⟩:=h.gam (d:=d) hnt hG (by rfl) (by simp only[List.all_cons,List.all_nil,Bool.and_true,OB.ret];exact hk);simp only[St.makes,Nat.zero_mul,Nat.add_zero,SV.ren] at h1 h2;obtain⟨B',F',k⟩:=J4o hG.bf hk h1 h2 h.1.2;exact⟨B',F',pl',k⟩
theorem Z4g {nt:Nat}{r:Option (Prop×SV×List OB)}{c:Prop}{v:SV}(h:glist1 nt r=some (c,v)):∃ ty k xs nl,r=some (c,.lst 0,[.lst ty k xs nl])∧v=.val (.list k) xs∧k.flat=true∧0<nt:=by
 unfold glist1 at h;split at h
 ·split at h
  ·rename_i k xs _;cases hc:(k.flat&&Nat.blt 0 nt) with
   |false=>rw[hc] at h;cases h
   |true =>rw[hc] at h;obtain⟨rfl,rfl⟩:=pinj h;simp only[Bool.and_eq_true,Nat.blt_eq] at hc;exact⟨_,_,_,_,rfl,rfl,hc.1,hc.2⟩
  ·cases h
 ·cases h
theorem J9c {C:Cx}(hcs:CsOk P C.cs) (hG:Gam P B F pl tb s env σ) {gs:List Gd}(hg:Gds tb gs) {o:VOp}{c:Prop}{v:SV}{d:Nat}(h:glist C o (gev gs s.env) s.own=some (c,v)) (hc:c) {K:Value→Heap→Prop}
  (hK:∀ u σ' B' F' pl',GBase B F σ B' F' σ'→Gam P B' F' pl' tb (s.make d .dead) env σ'→SR P B' pl' tb v u→K u σ'):vop (semSpecs P) o env σ K:=by
 cases o<;>first|(cases h;done)|skip
 case callF f args =>
  simp only[glist] at h;obtain⟨ty,k,xs,nl,heq,rfl,hk,hnt⟩:=Z4g h;obtain⟨g,a,b,h3,h4,_⟩:=Q2i hcs (show SR P σ noPl noTb (.fn f [] []) (.func (.func f) #[] #[]) by simp only[SR,SRs];exact⟨[],[],rfl,rfl,rfl⟩) (hG.gcall hg args) heq (by rfl) (by simp only[List.all_cons,List.all_nil,Bool.and_true,OB.ret];exact hk) hc;obtain⟨rfl,rfl,rfl⟩:=(by simpa using h3:f=g∧#[]=a∧#[]=b);have:=h4.mono (R':=K) fun u σ' hr=>by obtain⟨B',F',pl',k1,k2,k3⟩:=X03 (d:=d) hnt hG hk hr;exact hK u σ' B' F' pl' k1 k2 k3
  show VCalled P f (args.map (evalO env)) σ K;simpa using this
 case callV f args =>
  simp only[glist] at h;obtain⟨ty,k,xs,nl,heq,rfl,hk,hnt⟩:=Z4g h;obtain⟨g,a,b,h3,h4,_⟩:=Q2i hcs (hG.gfun hg f) (hG.gcall hg args) heq (by rfl) (by simp only[List.all_cons,List.all_nil,Bool.and_true,OB.ret];exact hk) hc;exact Z3y h3 (h4.mono fun u σ' hr=>by
   obtain⟨B',F',pl',k1,k2,k3⟩:=X03 (d:=d) hnt hG hk hr;exact hK u σ' B' F' pl' k1 k2 k3)
 case buildSlice e z n ps =>
  simp only[glist] at h;split at h
  ·rename_i k hkt;split at h
   ·rename_i hcc;split at h
    ·rename_i xs hx;obtain⟨rfl,rfl⟩:=pinj h;have hgn:gn C d (.buildSlice e z n ps) (gev gs s.env) s (fun v s'=>v=.lst d∧s'=s.make d (.lst e.ty k xs false)):=by
      simp only[gn,hkt,hx];rw[if_pos ⟨hcc.1,hcc.2.1⟩];simp
     obtain⟨u,σ',pl',v,s',h1,⟨rfl,rfl⟩,⟨h3,_⟩,h4⟩:=Z3p (fun x=>hG.evs hg x) hG hgn;obtain⟨B',F',k1,k2,k3⟩:=J4o hG.bf hcc.2.2 h3 h4 (Q8w h1);show obind (vact (.buildSlice e z n ps) (evalO env) σ) _;rw[h1];exact hK u σ' B' F' pl' k1 k2 k3
    ·cases h
   ·cases h
  ·cases h
theorem J6v {C:Cx}{o:VOp}{ev:Operand→SV}{own:Own}{c:Prop}{v:SV}(h:glist C o ev own=some (c,v)):∃ (k:Kind) (xs:List k.T),v=.val (.list k) xs:=by
 cases o<;>first|(cases h;done)|skip
 case callF=>simp only[glist] at h;obtain⟨ty,k,xs,nl,_,hv,_⟩:=Z4g h;exact⟨k,xs,hv⟩
 case callV=>simp only[glist] at h;obtain⟨ty,k,xs,nl,_,hv,_⟩:=Z4g h;exact⟨k,xs,hv⟩
 case buildSlice e z n ps =>
  simp only[glist] at h;split at h
  ·split at h
   ·split at h
    ·obtain⟨_,rfl⟩:=pinj h;exact⟨_,_,rfl⟩
    ·cases h
   ·cases h
  ·cases h
theorem X4y {C:Cx}(hcs:COk P C) {B F:Heap}{pl:Nat→Value}{tb:Nat→Option Bool}{s:St}{env:Env}{σ:Heap}(hG:Gam P B F pl tb s env σ) {d:Nat}{o:VOp}{K:SV→St→Prop}(h:gn C d o (gev [] s.env) s K) {R:Value→Heap→Prop}
  (hK:∀ v s' B' F' pl' tb' u σ',K v s'→GBase B F σ B' F' σ'→Gam P B' F' pl' tb' s' env σ'→SR P B' pl' tb' v u→R u σ'):vop (semSpecs P) o env σ R:=by
 have hev:=hG.evs (Gds.nil (tb:=tb));have act:∀ o {T:Nat},NOk P B F tb o (evalO env) env σ K T s pl→(∀ R',obind (vact o (evalO env) σ) (fun p=>R' p.1 p.2)→vop (semSpecs P) o env σ R')→vop (semSpecs P) o env σ R:=fun o _ ⟨u,σ',pl',v,s',h1,h2,h3,h4⟩ hv=>hv R (by rw[h1];exact hK v s' B F pl' tb u σ' h2 (.of hG.bf (Q8w h1)) h3.1 h4);have hargs:∀ args:List Operand,SRs P B pl tb (args.map (gev [] s.env)) (args.map (evalO env)):=fun args=>SRs.map fun x _=>hG.evs Gds.nil x;cases o
 case alloc t z=>exact act _ (X4g hev hG h) fun _ h=>h
 case box t x=>exact act _ (X86 hev hG h) fun _ h=>h
 case buildSlice e z n ps=>exact act _ (Z3p hev hG h) fun _ h=>h
 case makeSlice e b z l c=>exact act _ (J2e hev hG h) fun _ h=>h
 case append e b x y=>exact act _ (X0d hev hG h) fun _ h=>h
 case store size a x=>exact act _ (X41 hev hG h) fun _ h=>h
 case callF f args =>
  simp only[gn] at h;obtain⟨g,a,b,h3,h4⟩:=Z8s hcs hG (show SR P B pl tb (.fn f [] []) (.func (.func f) #[] #[]) by simp only[SR,SRs];exact⟨[],[],rfl,rfl,rfl⟩) (hargs args) h (fun _ e=>by cases e) hK;obtain⟨rfl,rfl,rfl⟩:=(by simpa using h3:f=g∧#[]=a∧#[]=b);show VCalled P f (args.map (evalO env)) σ R;simpa using h4
 case callV f args =>
  simp only[gn] at h;by_cases hy:∃ o,gev [] s.env f=.dd o .yv
  ·obtain⟨o,hy⟩:=hy;have hf:=hG.evs (Gds.nil (tb:=tb)) f;have h':gcallX C d (gev [] s.env f) (args.map (gev [] s.env)) s K:=h;rw[hy] at hf h';simp only[SR,DR] at hf;obtain⟨i,hp,hv⟩:=hf;simp only[gcallX] at h';split at h'
   ·rename_i y hyl;have:=hcs.yl o y hyl B F pl tb s env σ _ _ K R i hG (hargs args) h' hp hK;simp only[vop,hv];exact this
   ·exact h'.elim
  obtain⟨g,a,b,h3,h4⟩:=Z8s hcs hG (hG.evs Gds.nil f) (hargs args) h (fun o e=>hy ⟨o,e⟩) hK;exact Z3y h3 h4
 case ext x =>
  cases x
  case mapUpdate mk m k v=>exact act _ (J0l hev hG h) fun _ h=>h
  case copy size a b=>exact act _ (X5x hev hG h) fun _ h=>h
  case unsafeStr e a n=>exact act _ (J28 hev hG h) fun _ h=>h
  case strBytes e a=>exact act _ (J47 hev hG h) fun _ h=>h
  case rangeMap a=>exact X1w hG h hK
  case nextMap a=>exact X38 hG h hK
  all_goals exact h.elim
 all_goals exact h.elim
theorem Gam.frz (hG:Gam P B F pl tb s env σ) (o:Nat):∃ B' F',GBase B F σ B' F' σ∧Gam P B' F' pl tb (s.frz o) env σ:=by
 unfold St.frz;split
 ·rename_i ty k xs nl ho;have fin:∀ {B' F':Heap},Gam P B' F' pl tb ⟨s.env,oset s.own o .dead,s.nx⟩ env σ→KC B' (.list k) xs [pl o]→Gam P B' F' pl tb ⟨SVs.frz o k xs s.env,ofrz o k xs s.own,s.nx⟩ env σ:=fun {B' F'} h hk=>by
   have e1:∀ d,oget (ofrz o k xs s.own) d=(oget (oset s.own o .dead) d).frz o k xs:=fun d=>by
    rw[X46,Q09];by_cases e:d=o
    ·rw[if_pos e,if_pos e];rfl
    ·rw[if_neg e,if_neg e]
   have lv:∀ d,(oget (ofrz o k xs s.own) d).live=(oget (oset s.own o .dead) d).live:=fun d=>by rw[e1,OB.live_frz]
   refine⟨h.bf,h.le,SRs.frz hk _ _ h.env,fun d=>?_,fun d i h1 h2=>?_,fun d d' i hne h1 h2=>?_,h.free⟩
   ·simp only[e1];exact(h.obj d).frz hk
   ·simp only[lv] at h1;exact h.fresh d i h1 h2
   ·simp only[lv] at h1 h2;exact h.sep d d' i hne h1 h2
  have hob:=hG.obj o;rw[ho] at hob;rcases hob with⟨_,hx,hp⟩|⟨_,i,cap,c,t,hp,hcap,hg,hlen,hrows⟩
  ·exact⟨B,F,.of hG.bf (.refl _),fin (hG.drop o) ⟨_,rfl,.inl ⟨hx,hp⟩⟩⟩
  ·obtain⟨g1,g2⟩:=hG.freeze (o:=o) (i:=i) (by rw[ho];rfl) (by rw[hp];rfl);refine⟨_,_,g1,fin g2 ⟨_,rfl,.inr ⟨i,0,cap,c,⟨k.size,ty⟩,true,t,hp,hcap,by rw[Heap.ins_self];exact hg,rfl,by have:=Nat.mul_le_mul_right k.size hcap;omega,?_⟩⟩⟩;rw[List.drop_zero];exact hrows.mono fun _ _ e=>KC.mono g1.b e
 ·exact⟨B,F,.of hG.bf (.refl _),hG⟩
theorem GRel.frzs {B0 F0 D0:Heap}:∀ (l:List Nat) {s:St},GRel P B0 F0 D0 s env σ→GRel P B0 F0 D0 (s.frzs l) env σ
 |[],_,h=>h
 |o::r,s,⟨B,F,pl,tb,hB,hG⟩=>by obtain⟨B',F',g1,g2⟩:=hG.frz o;exact GRel.frzs r ⟨B',F',pl,tb,hB.trans g1,g2⟩
end
theorem J81 {j:Nat}{f:Nat→Prop}:∀ {n i:Nat},gsplit (j:Int) f n i→i≤j→j<i+n→f j
 |0,i,_,h1,h2=>by omega
 |n+1,i,h,h1,h2=>by
  rcases Nat.lt_or_ge i j with h3|h3
  ·exact J81 h.2 h3 (by omega)
  ·have:j=i:=by omega
   subst this;exact h.1 rfl
theorem X4n {o:VOp}{len i:Nat}{f:Nat→VOp}(h:vidx o=some (len,i,f)) {n:Nat}:(∃ size x,f n=.indexAddrArr len size x (.const (.int .i64 (Int.ofNat n))))∨∃ agg size x,f n=.indexArr len agg size x (.const (.int .i64 (Int.ofNat n))):=by
 unfold vidx at h;split at h
 ·cases h;exact .inl ⟨_,_,rfl⟩
 ·cases h;exact .inr ⟨_,_,_,rfl⟩
 ·cases h
theorem X4p {o:VOp}{len i:Nat}{f:Nat→VOp}(h:vidx o=some (len,i,f)) {S:VSpecs}{env:Env}{σ:Heap}{k:IntKind}{n:Nat}(he:evalO env (.tmp i)=.int k (n:Int)) {R:Value→Heap→Prop}(hv:vop S (f n) env σ R):vop S o env σ R:=by
 have hc:evalO env (.const (.int .i64 (Int.ofNat n)))=.int .i64 (n:Int):=rfl;unfold vidx at h;split at h
 ·rename_i len size x t;cases h;change obind (vact _ (evalO env) σ) _ at hv;change obind (vact _ (evalO env) σ) _;simp only[vact,he,hc] at hv ⊢;generalize evalO env x=u at hv ⊢;cases u<;>first|exact hv|skip
  rename_i p;cases p<;>first|exact hv|skip
  rename_i a;obtain⟨b,o,sp⟩:=a;cases sp<;>exact hv
 ·rename_i len agg size x t;cases h;change obind (vact _ (evalO env) σ) _ at hv;change obind (vact _ (evalO env) σ) _;simp only[vact,he,hc] at hv ⊢;generalize evalO env x=u at hv ⊢;cases u<;>exact hv
 ·cases h
theorem J3k {C:Cx}(hcs:COk P C) {B0 F0 D0:Heap}{s:St}{env:Env}{σ:Heap}(hR:GRel P B0 F0 D0 s env σ) {o:VOper}{K:St→Prop}(h:gop0 C o s K) {R:Env→Heap→Prop}(hK:∀ s' env' σ',K s'→GRel P B0 F0 D0 s' env' σ'→R env' σ') :
  obind (vwant env o.guard) fun b=>vif b (vop (semSpecs P) o.op env σ fun v σ'=>R (putE env o.dst v) σ') (R (putE env o.dst undef) σ):=by
 unfold gop0 at h;split at h
 ·rename_i hg;rw[hg];refine⟨fun _=>?_,fun e=>by cases e⟩
  replace hR:=hR.frzs (frzOf C (o.dst.getD 0) o.op (gev [] s.env) s.own)
  generalize s.frzs (frzOf C (o.dst.getD 0) o.op (gev [] s.env) s.own)=s at h hR;obtain⟨B,F,pl,tb,hB,hG⟩:=hR;unfold gopU at h;split at h
  ·rename_i len i f hvi;split at h
   ·rename_i k j hj;obtain⟨h1,h2,h3⟩:=h;obtain⟨n,rfl⟩:=Int.eq_ofNat_of_zero_le h1;have hn:n<len:=by omega
    have h4:=J81 h3 (Nat.zero_le n) (by omega);have he:=Q2k hj (hG.evs (Gds.nil (tb:=tb)) (.tmp i));split at h4
    ·rename_i cs v hgq;obtain⟨k1,k2⟩:=Q1s h4
     replace k1:=Q1l k1
     have hv:=J19 (C:=C) hcs.cs hG Gds.nil (o:=f n) (raw:=C.raw.contains (o.dst.getD 0)) (cs:=cs) (v:=v) (by
      rw[←hgq];obtain⟨size,x,hf⟩|⟨agg,size,x,hf⟩:=X4n hvi<;>rw[hf];rfl;rfl) (k2 fun g hg=>by cases hg) fun u hu=>hK _ _ _ k1 ⟨B,F,pl,tb,hB,hG.put o.dst hu⟩
     exact X4p hvi he hv
    ·exact h4.elim
   ·exact h.elim
  unfold gopV at h;split at h
  ·rename_i c a b hop;split at h
   ·rename_i v hv;obtain⟨u,h1,h2⟩:=Z1u hG Gds.nil hv;rw[hop];show obind (vact (.pick c a b) (evalO env) σ) _;rw[h1];exact hK _ _ _ (Q1l h) ⟨B,F,pl,tb,hB,hG.put o.dst h2⟩
   ·exact h.elim
  ·rename_i hnp;cases hq:isQuiet o.op with
   |true =>
    rw[hq] at h;simp only[_root_.cond_true] at h;split at h
    ·rename_i cs v hgq;obtain⟨h1,h2⟩:=Q1s h
     replace h1:=Q1l h1
     refine J19 (C:=C) hcs.cs hG Gds.nil (raw:=C.raw.contains (o.dst.getD 0)) (cs:=cs) (v:=v) ?_ (h2 fun g hg=>by cases hg) fun u hu=>hK _ _ _ h1 ⟨B,F,pl,tb,hB,hG.put o.dst hu⟩;rw[←hgq];cases ho:o.op<;>first|rfl|(rw[ho] at hq;cases hq)
    ·exact h.elim
   |false =>
    rw[hq] at h;simp only[_root_.cond_false] at h;split at h
    ·rename_i hop;split at h
     ·rename_i kk vk _;obtain⟨h1,h2⟩:=X2j hG (C.off+o.dst.getD 0) kk vk;rw[hop];change R (putE env o.dst (.map (some σ.n))) (σ.push (.obj (.map [] 0) true));exact hK _ _ _ h ⟨B,F,_,tb,Z5e hB (Dead.push _ _),h1.put o.dst h2⟩
     ·exact h.elim
    ·rename_i hop;cases hdp:isDeep C (o.dst.getD 0) o.op (gev [] s.env) with
     |true =>rw[hdp] at h;simp only[_root_.cond_true] at h;exact X10 hG h fun v s' B' F' pl' tb' u σ' h1 hd h2 h3=>hK _ _ _ h1 ⟨B',F',pl',tb',hB.trans hd,h2.put o.dst h3⟩
     |false =>rw[hdp] at h;simp only[_root_.cond_false] at h;exact X4y hcs hG h fun v s' B' F' pl' tb' u σ' h1 hd h2 h3=>hK _ _ _ h1 ⟨B',F',pl',tb',hB.trans hd,h2.put o.dst h3⟩
 ·rename_i j want hg;obtain⟨B,F,pl,tb,hB,hG⟩:=hR;rw[hg];split at h
  ·exact h.elim
  ·rename_i gs s' hgd;obtain⟨tb',hG',htb,b,hw,hb1,hb2⟩:=Q5f hG hgd;rw[hw];refine⟨fun e=>?_,fun e=>?_⟩
   ·have hgs:Gds tb' gs:=fun g hg=>⟨hb1 e g hg,htb g hg⟩;have fin:∀ {v u},SR P B pl tb' v u→SR P B pl tb' (.grd gs (unbid v)) u:=fun {v u} hs=>by
     simp only[SR];obtain⟨h1,h2⟩:=Z9v hs;exact⟨⟨htb,h2⟩,fun _=>h1,fun ⟨g,hg,hne⟩=>absurd (hb1 e g hg) hne⟩
    split at h
    ·rename_i c a b' hop;split at h
     ·rename_i v hv;obtain⟨u,h1,h2⟩:=Z1u hG' hgs hv;rw[hop];show obind (vact (.pick c a b') (evalO env) σ) _;rw[h1];exact hK _ _ _ (Q1l h) ⟨B,F,pl,tb',hB,hG'.put o.dst (fin h2)⟩
     ·exact h.elim
    ·split at h
     ·rename_i cs v hgq;obtain⟨h1,h2⟩:=Q1s h
      replace h1:=Q1l h1
      exact J19 hcs.cs hG' hgs hgq (h2 (hb1 e)) fun u hu=>hK _ _ _ h1 ⟨B,F,pl,tb',hB,hG'.put o.dst (fin hu)⟩
     ·split at h
      ·rename_i c v hgl;obtain⟨h1,h2⟩:=Q1s h
       replace h1:=Q1l h1
       refine J9c hcs.cs hG' hgs (d:=C.off+o.dst.getD 0) hgl (h2 (hb1 e) c (by simp)) fun u σ' B' F' pl' k1 k2 k3=>hK _ _ _ h1 ⟨B',F',pl',tb',hB.trans k1,k2.put o.dst ?_⟩;simp only[SR];refine⟨⟨htb,?_⟩,fun _=>k3,fun ⟨g,hg,hne⟩=>absurd (hb1 e g hg) hne⟩;obtain⟨k,xs,rfl⟩:=J6v hgl;trivial
      ·exact h.elim
   ·have fin:∀ v,SR P B pl tb' (.grd gs (unbid v)) undef:=fun v=>by
     simp only[SR];obtain⟨g,hg,hne⟩:=hb2 e;exact⟨⟨htb,Z9u v⟩,fun hall=>absurd (hall g hg) hne,fun _=>trivial⟩
    split at h
    ·split at h
     ·exact hK _ _ _ (Q1l h) ⟨B,F,pl,tb',hB,hG'.put o.dst (fin _)⟩
     ·exact h.elim
    ·split at h
     ·exact hK _ _ _ (Q1l (Q1s h).1) ⟨B,F,pl,tb',hB,hG'.put o.dst (fin _)⟩
     ·split at h
      ·rename_i c v hgl;refine hK _ _ _ (Q1l (Q1s h).1) ⟨B,F,_,tb',hB,(hG'.make (C.off+o.dst.getD 0) .dead undef hG'.le (fun _ _ _ _ _=>rfl) trivial (fun i hl _=>by cases hl)).put o.dst ?_⟩;simp only[SR];obtain⟨g,hg,hne⟩:=hb2 e;refine⟨⟨htb,?_⟩,fun hall=>absurd (hall g hg) hne,fun _=>trivial⟩;obtain⟨k,xs,rfl⟩:=J6v hgl;trivial
      ·exact h.elim
theorem X25 {C:Cx}(hcs:COk P C) {B0 F0 D0:Heap}{s:St}{env:Env}{σ:Heap}(hR:GRel P B0 F0 D0 s env σ) {o:VOper}{K:St→Prop}(h:gop C o s K) {R:Env→Heap→Prop}(hK:∀ s' env' σ',K s'→GRel P B0 F0 D0 s' env' σ'→R env' σ') :
  obind (vwant env o.guard) fun b=>vif b (vop (semSpecs P) o.op env σ fun v σ'=>R (putE env o.dst v) σ') (R (putE env o.dst undef) σ):=by
 unfold gop at h;split at h
 ·rename_i t ht;have hR0:=hR;obtain⟨B,F,pl,tb,hB,hG⟩:=hR;rw[Q9h hG ht];cases t with
  |true =>simp only[_root_.cond_true] at h;exact J3k hcs hR0 (o:=⟨o.dst,o.op,none⟩) h hK
  |false =>simp only[_root_.cond_false] at h;exact⟨(fun e=>by cases e),fun _=>hK _ _ _ h ⟨B,F,pl,tb,hB,hG.put o.dst (by simp[SR])⟩⟩
 ·exact J3k hcs hR h hK
theorem X17 {C:Cx}{B0 F0 D0:Heap}{s:St}{env:Env}{σ:Heap}(hR:GRel P B0 F0 D0 s env σ) {d:Option Nat}{K:St→Prop}(h:gspl C d K s):∃ s2,K s2∧GRel P B0 F0 D0 s2 env σ:=by
 unfold gspl at h;split at h
 ·exact⟨s,h,hR⟩
 ·rename_i d;cases hb:C.spl.contains d with
  |false=>rw[hb] at h;exact⟨s,h,hR⟩
  |true =>
   rw[hb] at h;simp only[_root_.cond_true] at h;split at h
   ·rename_i t ht;obtain⟨B,F,pl,tb,hB,hG⟩:=hR;have he:=Q53 ht (hG.env.getD d undef);have hput:∀ v,SR P B pl tb v (env.getD d undef)→GRel P B0 F0 D0 (s.put (some d) v) env σ:=fun v hv=>by
     have:=hG.put (some d) hv;refine⟨B,F,pl,tb,hB,?_⟩;have e2:putE env (some d) (env.getD d undef)=env:=by
      show env.set d _=env;rcases Nat.lt_or_ge d env.length with h|h
      ·rw[List.getD_eq_getElem?_getD,List.getElem?_eq_getElem h];simp
      ·rw[List.set_eq_of_length_le h]
     rw[e2] at this;exact this
    have sr:SR P B pl tb (.grd [] (.val .bo t)) (env.getD d undef):=by simp only[SR];exact⟨⟨(fun g hg=>by cases hg),trivial⟩,(fun _=>by rw[he];simp[KC]),fun ⟨g,hg,_⟩=>by cases hg⟩
    cases t with
    |true=>exact⟨_,h.1 rfl,hput _ sr⟩
    |false=>exact⟨_,h.2 rfl,hput _ sr⟩
   ·exact h.elim
theorem Z4l {C:Cx}(hcs:COk P C) {B0 F0 D0:Heap}:∀ (ops:List VOper) {s:St}{env:Env}{σ:Heap},GRel P B0 F0 D0 s env σ→∀ {K:St→Prop},gops C ops s K→∀ {R:Env→Heap→Prop},(∀ s' env' σ',K s'→GRel P B0 F0 D0 s' env' σ'→R env' σ')→vops (semSpecs P) ops env σ R
 |[],s,env,σ,hR,_K,h,_R,hK=>hK s env σ h hR
 |_o::r,_s,_env,_σ,hR,_K,h,_R,hK=>X25 (R:=fun env σ=>vops (semSpecs P) r env σ _R) hcs hR h fun _ _ _ h1 h2=>by obtain⟨s2,k1,k2⟩:=X17 h2 h1;exact Z4l hcs r k2 k1 hK
theorem X2b {S:VSpecs}{l:List DOper}{rest:List DSeg}{env:Env}{σ:Heap}{K:Env→Heap→Prop}(h:l.all (fun o=>!(o.kind==2)&&!(o.op.kind==2))=true) (hv:vops S (l.map dv) env σ fun env σ=>vsegs S rest env σ K):vsegs S (.alts [l]::rest) env σ K:=by
 intro ops ho;obtain rfl:=List.mem_singleton.1 ho;have key:∀ (l:List DOper) (env:Env) (pend:List (Nat×(Heap→Prop))) (K':Env→Heap→Prop),l.all (fun o=>!(o.kind==2)&&!(o.op.kind==2))=true→vops S (l.map dv) env σ K'→vopsD S l env [σ] σ pend K':=by
  intro l;induction l with
  |nil=>intro env pend K' _ h;exact h
  |cons o rest ih =>
   intro env pend K' hk h;simp only[List.all_cons,Bool.and_eq_true,Bool.not_eq_true',beq_eq_false_iff_ne] at hk;obtain⟨⟨hk1,hk2⟩,hr⟩:=hk;have hr:rest.all (fun o=>!(o.kind==2)&&!(o.op.kind==2))=true:=by simpa using hr
   simp only[List.map_cons,vops,dv] at h;simp only[vopsD];cases hw:vwant env o.guard with
   |none=>rw[hw] at h;exact h.elim
   |some b =>
    rw[hw] at h;obtain⟨ht,hf⟩:=h;refine⟨fun e=>?_,fun e=>?_⟩
    ·have ht:=ht e;obtain⟨p,hp,hr'⟩:∃ p,vact o.op (evalO env) σ=some p∧vops S (rest.map dv) (putE env o.dst p.1) p.2 K':=by
      have:=ht;unfold vop at this;split at this
      ·rename_i f axs heq;rw[heq] at hk2;exact absurd rfl hk2
      ·rename_i f axs heq;rw[heq] at hk2;exact absurd rfl hk2
      ·rename_i x heq;rw[heq] at hk2;exact absurd rfl hk2
      ·cases hva:vact o.op (evalO env) σ with
       |none=>rw[hva] at this;exact this.elim
       |some p=>rw[hva] at this;exact⟨p,rfl,this⟩
     have hq:p.2=σ:=Z74 hk2 (v:=p.1) (σ':=p.2) hp;rw[hq] at hr';rw[if_neg hk1];split
     ·rw[hp];refine⟨fun τ hτ=>?_,ih _ _ _ hr hr'⟩;have:τ=σ:=by
       have:=List.mem_of_mem_drop hτ;simpa using this
      subst this;show obind (vact o.op (evalO env) τ) _;rw[hp];rfl
     ·rw[hp];exact ih _ _ _ hr hr'
    ·rw[if_neg hk1];exact ih _ _ _ hr (hf e)
 have:=key ops env [] _ h hv;have mono:∀ (l:List DOper) (env:Env) (hs:List Heap) (τ:Heap) (pend:List (Nat×(Heap→Prop))) (A B:Env→Heap→Prop),l.all (fun o=>!(o.kind==2)&&!(o.op.kind==2))=true→(∀ e s,A e s→B e s)→vopsD S l env hs τ pend A→vopsD S l env hs τ pend B:=by
  intro l;induction l with
  |nil=>intro env hs τ pend A B _ hAB h;exact hAB _ _ h
  |cons o rest ih =>
   intro env hs τ pend A B hk hAB h;simp only[List.all_cons,Bool.and_eq_true,Bool.not_eq_true',beq_eq_false_iff_ne] at hk;obtain⟨⟨hk1,hk2⟩,hr⟩:=hk;have hr:rest.all (fun o=>!(o.kind==2)&&!(o.op.kind==2))=true:=by simpa using hr
   simp only[vopsD] at h ⊢;cases hw:vwant env o.guard with
   |none=>rw[hw] at h;exact h.elim
   |some b =>
    rw[hw] at h;obtain⟨ht,hf⟩:=h;refine⟨fun e=>?_,fun e=>?_⟩
    ·have ht:=ht e;rw[if_neg hk1] at ht ⊢;by_cases hk3:o.kind=1
     ·rw[if_pos hk3] at ht ⊢;cases hva:vact o.op (evalO env) τ with
      |none=>rw[hva] at ht;exact ht.elim
      |some p=>rw[hva] at ht;exact⟨ht.1,ih _ _ _ _ _ _ hr hAB ht.2⟩
     ·rw[if_neg hk3] at ht ⊢;cases hva:vact o.op (evalO env) τ with
      |none=>rw[hva] at ht;exact ht.elim
      |some p=>rw[hva] at ht;exact ih _ _ _ _ _ _ hr hAB ht
    ·have hf:=hf e;rw[if_neg hk1] at hf ⊢;exact ih _ _ _ _ _ _ hr hAB hf
 exact mono ops env _ _ _ _ _ h (fun e s hs=>⟨e,s,.refl _ _ _,hs⟩) this
theorem Q3i {op:VOp}{ev:Operand→Value}{u:Value}{τ τ':Heap}(h:vact op ev τ=some (u,τ')):vreads op ev u τ:=by unfold vreads;rw[h];rfl
theorem Q1e (s:St) (d:Option Nat) (v:SV):(s.put d v).own=s.own:=by cases d<;>rfl
theorem Q8t {s s':St}{j:Nat}{want:Bool}{gs:List Gd}(h:gguard s j want=some (gs,s')):s'.own=s.own:=by unfold gguard at h;split at h<;>first|(cases h;done)|(obtain⟨_,rfl⟩:=pinj h;rfl)
theorem Z10 {C:Cx}{B F:Heap}{pl:Nat→Value}{tb:Nat→Option Bool}{s:St}{env:Env}{σ:Heap}(hG:Gam P B F pl tb s env σ) {o:DOper}{K:St→Prop}(h:gd1 C o s K) :
  ∃ b,vwant env o.guard=some b∧(b=true→∃ u s' tb',vact o.op (evalO env) σ=some (u,σ)∧K s'∧s'.own=s.own∧Gam P B F pl tb' s' (putE env o.dst u) σ)∧(b=false→∃ s' tb',K s'∧s'.own=s.own∧Gam P B F pl tb' s' (putE env o.dst undef) σ):=by
 unfold gd1 at h;split at h
 ·rename_i hg;rw[hg];refine⟨true,rfl,fun _=>?_,fun e=>by cases e⟩;split at h
  ·rename_i c a b hop;split at h
   ·rename_i v hv;obtain⟨u,h1,h2⟩:=Z1u hG Gds.nil hv;exact⟨u,_,tb,by rw[hop];exact h1,Q1l h,Q1e _ _ _,hG.put o.dst h2⟩
   ·exact h.elim
  ·split at h
   ·rename_i cs v hgq;obtain⟨h1,h2⟩:=Q1s h;obtain⟨u,h3,h4⟩:=J5p (hG.evs (Gds.nil (tb:=tb))) (fun _=>rfl) hG.leB hG.obj hgq (h2 fun g hg=>by cases hg);exact⟨u,_,tb,h3,Q1l h1,Q1e _ _ _,hG.put o.dst h4⟩
   ·exact h.elim
 ·rename_i j want hg;rw[hg];split at h
  ·exact h.elim
  ·rename_i gs s' hgd;obtain⟨tb',hG',htb,b,hw,hb1,hb2⟩:=Q5f hG hgd;refine⟨b,hw,fun e=>?_,fun e=>?_⟩
   ·have hgs:Gds tb' gs:=fun g hg=>⟨hb1 e g hg,htb g hg⟩;have fin:∀ {v u},SR P B pl tb' v u→SR P B pl tb' (.grd gs (unbid v)) u:=fun {v u} hs=>by
     simp only[SR];obtain⟨h1,h2⟩:=Z9v hs;exact⟨⟨htb,h2⟩,fun _=>h1,fun ⟨g,hg,hne⟩=>absurd (hb1 e g hg) hne⟩
    split at h
    ·rename_i c a b' hop;split at h
     ·rename_i v hv;obtain⟨u,h1,h2⟩:=Z1u hG' hgs hv;exact⟨u,_,tb',by rw[hop];exact h1,Q1l h,(Q1e _ _ _).trans (Q8t hgd),hG'.put o.dst (fin h2)⟩
     ·exact h.elim
    ·split at h
     ·rename_i cs v hgq;obtain⟨h1,h2⟩:=Q1s h;obtain⟨u,h3,h4⟩:=J5p (hG'.evs hgs) (fun _=>rfl) hG'.leB hG'.obj hgq (h2 (hb1 e));exact⟨u,_,tb',h3,Q1l h1,(Q1e _ _ _).trans (Q8t hgd),hG'.put o.dst (fin h4)⟩
     ·exact h.elim
   ·have fin:∀ v,SR P B pl tb' (.grd gs (unbid v)) undef:=fun v=>by
     simp only[SR];obtain⟨g,hg,hne⟩:=hb2 e;exact⟨⟨htb,Z9u v⟩,fun hall=>absurd (hall g hg) hne,fun _=>trivial⟩
    split at h
    ·split at h
     ·exact⟨_,tb',Q1l h,(Q1e _ _ _).trans (Q8t hgd),hG'.put o.dst (fin _)⟩
     ·exact h.elim
    ·split at h
     ·exact⟨_,tb',Q1l (Q1s h).1,(Q1e _ _ _).trans (Q8t hgd),hG'.put o.dst (fin _)⟩
     ·exact h.elim
theorem J9b {bs:List OB}{q:Prop}(h:allWf bs q):(∀ b∈bs,b.wf)∧q:=by
 induction bs with
 |nil=>exact⟨(fun b hb=>by cases hb),h⟩
 |cons b r ih =>
  obtain⟨h1,h2⟩:=h;obtain⟨h3,h4⟩:=ih h2;exact⟨fun b' hb'=>by
   rcases List.mem_cons.1 hb' with rfl|hb'
   ·exact h1
   ·exact h3 b' hb',h4⟩
mutual
theorem J9z {d nt:Nat}:∀ (v:SV),v.ret 0=true→(v.ren d nt).ret 0=true
 |.val k x,h=>h
 |.nilS,_|.nilP,_|.nilM,_|.nilF,_=>rfl
 |.lst j,h|.box j _,h|.map j,h=>by simp[SV.ret,Nat.blt] at h
 |.agg l,h=>by simp only[SV.ren,SV.ret] at h ⊢;exact J0z l h
 |.tup l,h=>by simp only[SV.ren,SV.ret] at h ⊢;exact J0z l h
 |.any,h|.bid _ _,h|.grd _ _,h|.sub _ _ _ _,h|.elp _ _ _ _,h|.rop _ _ _ _,h|.cp _ _,h|.fn _ _ _,h|.pf _ _ _ _,h=>by cases h
theorem J0z {d nt:Nat}:∀ (v:List SV),SVs.ret 0 v=true→SVs.ret 0 (SVs.ren d nt v)=true
 |[],_=>rfl
 |s::ss,h=>by simp only[SVs.ret,SVs.ren,Bool.and_eq_true] at h ⊢;exact⟨J9z s h.1,J0z ss h.2⟩
end
theorem Q5g {C:Cx}(hcs:COk P C) {B F:Heap}{pl:Nat→Value}{tb:Nat→Option Bool}{s:St}{env:Env}{σ:Heap}(hG:Gam P B F pl tb s env σ) {d:Nat}{f:SV}{args:List SV}{K:List Nat→SV→St→Prop}(h:gdcall C d f args s K) {fV:Value}{vs:List Value}
  (hf:SR P σ noPl noTb f fV) (ha:SRs P σ noPl noTb args vs):∃ g a b u σ' ts v s' pl',fV=.func (.func g) a b∧(VCalled P g (a.toList++vs++b.toList) σ fun u' σ''=>u'=u∧σ''=σ')∧K ts v s'∧Gam P B F pl' tb s' env σ'∧SR P B pl' tb v u∧(ts=[]→σ'=σ∧pl'=pl∧s'=s)∧σ.Le σ'∧Dead σ σ'∧FrL ts s s' pl pl' σ σ':=by
 unfold gdcall at h;split at h
 ·rename_i c v bs heq;cases hb:(v.ret bs.length&&(bs.all OB.ret&&(Nat.blt 0 C.nt&&(bs.all OB.isL&&noBox v)))) with
  |false=>rw[hb] at h;exact h.elim
  |true =>
   rw[hb] at h;obtain⟨h1,h2⟩:=h;obtain⟨h3,h4⟩:=J9b h2;simp only[Bool.and_eq_true] at hb;obtain⟨hv,hbr,hnt,hl,hnb⟩:=hb;obtain⟨g,a,b,e,_,hx⟩:=Q2i hcs.cs hf ha heq hv hbr h1;have hret:=J7r (P:=P) σ hv hnb hbr hl (fun b hb=>by have:=h3 b hb;cases b<;>exact this);by_cases hbs:bs=[]
   ·subst hbs;obtain⟨k1,k2⟩:=hret.flat hv;refine⟨g,a,b,_,_,_,_,_,pl,e,hx hl hnb,h4,?_,?_,fun _=>⟨k1,rfl,rfl⟩,hret.1.1,hret.1.2,fun q _=>⟨rfl,rfl,fun _ _ _=>by rw[k1]⟩⟩
    ·rw[k1];exact hG
    ·exact SR.retd (B:=hNil) (pl:=pl) (tb:=noTb) (n:=0) (fun j hj=>by omega) _ _ (J9z v hv) (SR.ren (pl:=noPl) (tb:=noTb) (n:=0) (fun j hj=>by omega) v _ hv k2)
   ·obtain⟨pl',h5,h6,h7⟩:=hret.gamF (nt:=C.nt) (d:=d) (by simpa [Nat.blt_eq] using hnt) hG hv hbr;refine⟨g,a,b,_,_,_,_,_,pl',e,hx hl hnb,h4,h5,h6,fun he=>absurd (by simpa using he) hbs,hret.1.1,hret.1.2,fun q hq=>h7 q fun j hj e=>hq ?_⟩;exact List.mem_map.2 ⟨j,List.mem_range.2 hj,e.symm⟩
 ·exact h.elim
def isCall:VOp→Bool
 |.callF ..|.callV ..=>true
 |.ext (.rangeMap _)|.ext (.nextMap _)=>true
 |_=>false
theorem X62 {C:Cx}{B F:Heap}{pl:Nat→Value}{tb:Nat→Option Bool}{s:St}{env:Env}{σ:Heap}(hG:Gam P B F pl tb s env σ) {d:Nat}{o:VOp}{K:SV→St→Prop}(h:gn C d o (gev [] s.env) s K) (hc:isCall o=false) :
  NOk P B F tb o (evalO env) env σ K (gtouch d o (gev [] s.env)) s pl:=by
 have hev:=hG.evs (Gds.nil (tb:=tb));cases o
 case alloc t z=>exact X4g hev hG h
 case box t x=>exact X86 hev hG h
 case buildSlice e z n ps=>exact Z3p hev hG h
 case makeSlice e b z l c=>exact J2e hev hG h
 case append e b x y=>exact X0d hev hG h
 case store size a x=>exact X41 hev hG h
 case callF=>cases hc
 case callV=>cases hc
 case ext x =>
  cases x
  case mapUpdate mk m k v=>exact J0l hev hG h
  case copy size a b=>exact X5x hev hG h
  case unsafeStr e a n=>exact J28 hev hG h
  case strBytes e a=>exact J47 hev hG h
  case rangeMap=>cases hc
  case nextMap=>cases hc
  all_goals exact h.elim
 all_goals exact h.elim
theorem J5o {o:VOp}{ev:Operand→Value}{σ σ':Heap}{u:Value}(hm:isMake o=true) (h:vact o ev σ=some (u,σ')):σ.Le σ':=by
 have push:∀ b:Blk,σ.Le (σ.push b):=fun b=>(Heap.Le.refl σ).push b;cases o<;>first|(cases hm;done)|skip
 case alloc t z=>obtain⟨rfl,rfl⟩:=pinj h;exact push _
 case box t x =>
  simp only[vact] at h;split at h
  ·obtain⟨rfl,rfl⟩:=pinj h;exact push _
  ·cases h
 case buildSlice e z n ps =>
  simp only[vact] at h;split at h
  ·obtain⟨rfl,rfl⟩:=pinj h;exact push _
  ·cases h
 case makeSlice e b z l c =>
  simp only[vact] at h;split at h
  ·split at h
   ·obtain⟨rfl,rfl⟩:=pinj h;exact push _
   ·cases h
  ·cases h
def RdOk (σ:Heap) (own:Own) (pl:Nat→Value) (Q:Heap→Prop):Option Nat→Prop
 |none=>∀ τ,σ.Le τ→Q τ
 |some q=>(oget own q).live=true∧∃ i b,Oid (pl q) i∧σ.get i=some b∧∀ τ,τ.get i=some b→Q τ
structure DSt (hs:List Heap) (σ:Heap) (pend:List (Nat×(Heap→Prop))) (hl chg:Nat) (A R:List (Nat×Option Nat)) (own:Own) (pl:Nat→Value):Prop where
 len:hs.length=hl
 same:∀ j τ,chg≤j→hs[j]?=some τ→τ=σ
 pend:∀ c∈pend,c.1<hl∨∃ r∈R,c.1≤r.1∧RdOk σ own pl c.2 r.2
 fr:∀ j τ q i,hs[j]?=some τ→Q1j A j q=true→(oget own q).live=true→Oid (pl q) i→τ.get i=σ.get i
theorem Q8a {r:Nat}{σ:Heap}:∀ {l:List (Nat×(Heap→Prop))},(∀ c∈l,r≤c.1→c.2 σ)→vpend r σ l
 |[],_=>trivial
 |c::l,h=>⟨h c (by simp),Q8a fun c' hc'=>h c' (by simp[hc'])⟩
theorem Q3c {hs:List Heap}{σ' τ:Heap}{j:Nat}(h:(hs++[σ'])[j]?=some τ):(j<hs.length∧hs[j]?=some τ)∨(j=hs.length∧τ=σ'):=by
 rw[List.getElem?_append] at h;split at h
 ·rename_i hlt;exact .inl ⟨hlt,h⟩
 ·have:j-hs.length=0:=by
   cases hz:j-hs.length with
   |zero=>rfl
   |succ n=>rw[hz] at h;simp at h
  rw[this] at h;exact .inr ⟨by omega,by simpa using h.symm⟩
theorem J2w {a:Nat×Option Nat}{A:List (Nat×Option Nat)}{j q:Nat}(h:Q1j (a::A) j q=true) (hj:j≤a.1):(∃ t,a.2=some t∧t≠q)∧Q1j A j q=true:=by
 simp only[Q1j,List.all_cons,Bool.and_eq_true,Bool.or_eq_true,Nat.blt_eq] at h;refine⟨?_,h.2⟩;rcases h.1 with h|h
 ·omega
 ·split at h
  ·rename_i t ht;exact⟨t,ht,fun e=>by subst e;simp at h⟩
  ·cases h
theorem DSt.stay {hs:List Heap}{σ:Heap}{pend:List (Nat×(Heap→Prop))}{hl chg:Nat}{A R:List (Nat×Option Nat)}{own:Own}{pl:Nat→Value}(h:DSt hs σ pend hl chg A R own pl) :
  vpend hs.length σ pend∧DSt (hs++[σ]) σ pend (hl+1) chg A R own pl:=by
 have hr:∀ c∈pend,∀ r∈R,RdOk σ own pl c.2 r.2→c.2 σ:=fun c _ r _ hok=>by
  unfold RdOk at hok;split at hok
  ·exact hok σ (.refl _)
  ·obtain⟨_,i,b,_,h2,h3⟩:=hok;exact h3 σ h2
 refine⟨Q8a fun c hc hle=>?_,⟨by simp[h.len],fun j τ hj ht=>?_,fun c hc=>?_,fun j τ q i ht hu hl hi=>?_⟩⟩
 ·rcases h.pend c hc with h1|⟨r,h1,_,h2⟩
  ·rw[h.len] at hle;omega
  ·exact hr c hc r h1 h2
 ·rcases Q3c ht with⟨_,h1⟩|⟨_,h1⟩
  ·exact h.same j τ hj h1
  ·exact h1
 ·rcases h.pend c hc with h1|h1
  ·exact .inl (by omega)
  ·exact .inr h1
 ·rcases Q3c ht with⟨_,h1⟩|⟨_,rfl⟩
  ·exact h.fr j τ q i h1 hu hl hi
  ·rfl
theorem DSt.write {hs:List Heap}{σ σ':Heap}{pend:List (Nat×(Heap→Prop))}{hl chg:Nat}{A R:List (Nat×Option Nat)}{s s':St}{pl pl':Nat→Value}(h:DSt hs σ pend hl chg A R s.own pl) {T:Nat}(hf:Fr T s s' pl pl' σ σ') {mk:Bool}(hm:mk=true→σ.Le σ')
  (hc:((mk&&rdKeep R hl T)||rdFree R hl T)=true) (hl0:0<hl):vpend hs.length σ' pend∧DSt (hs++[σ']) σ' pend (hl+1) hl ((hl-1,some T)::A) R s'.own pl':=by
 have hr:∀ Q:Heap→Prop,∀ r∈R,hl≤r.1→RdOk σ s.own pl Q r.2→RdOk σ' s'.own pl' Q r.2:=fun Q r hrR hge hok=>by
  have hq:∀ q,r.2=some q→q≠T:=fun q hq e=>by
   subst e;simp only[Bool.or_eq_true,Bool.and_eq_true,rdKeep,rdFree] at hc;rcases hc with⟨_,hc⟩|hc
   ·have:=List.all_eq_true.1 hc r hrR;rw[hq] at this;simp only[Bool.or_eq_true,Nat.blt_eq,Nat.beq_refl,Bool.not_true,Bool.false_eq_true,or_false] at this;omega
   ·have:=List.all_eq_true.1 hc r hrR;rw[hq] at this;simp only[Bool.or_eq_true,Nat.blt_eq,Nat.beq_refl,Bool.not_true,Bool.false_eq_true,or_false] at this;omega
  cases e:r.2 with
  |none =>
   rw[e] at hok;have hmk:mk=true:=by
    simp only[Bool.or_eq_true,Bool.and_eq_true,rdFree] at hc;rcases hc with⟨hc,_⟩|hc
    ·exact hc
    ·have:=List.all_eq_true.1 hc r hrR;rw[e] at this;simp only[Bool.or_eq_true,Nat.blt_eq,Bool.false_eq_true,or_false] at this;omega
   exact fun τ ht=>hok τ ((hm hmk).trans ht)
  |some q =>rw[e] at hok;obtain⟨k1,i,b,k2,k3,k4⟩:=hok;obtain⟨f1,f2,f3⟩:=hf q (hq q e);exact⟨by rw[f1];exact k1,i,b,by rw[f2];exact k2,by rw[f3 k1 i k2];exact k3,k4⟩
 have now:∀ Q:Heap→Prop,∀ r,RdOk σ' s'.own pl' Q r→Q σ':=fun Q r hok=>by
  unfold RdOk at hok;split at hok
  ·exact hok σ' (.refl _)
  ·obtain⟨_,i,b,_,h2,h3⟩:=hok;exact h3 σ' h2
 refine⟨Q8a fun c hc hle=>?_,⟨by simp[h.len],fun j τ hj ht=>?_,fun c hc=>?_,fun j τ q i ht hu hl' hi=>?_⟩⟩
 ·rw[h.len] at hle;rcases h.pend c hc with h1|⟨r,h1,h2,h3⟩
  ·omega
  ·exact now _ _ (hr _ r h1 (by omega) h3)
 ·rcases Q3c ht with⟨h1,_⟩|⟨_,h1⟩
  ·rw[h.len] at h1;omega
  ·exact h1
 ·rcases h.pend c hc with h1|⟨r,h1,h2,h3⟩
  ·exact .inl (by omega)
  ·by_cases hge:hl≤r.1
   ·exact .inr ⟨r,h1,h2,hr _ r h1 hge h3⟩
   ·exact .inl (by omega)
 ·rcases Q3c ht with⟨h1,h2⟩|⟨_,rfl⟩
  ·rw[h.len] at h1;obtain⟨⟨t,ht,htq⟩,hu'⟩:=J2w hu (by simp only;omega);obtain rfl:=osj ht;obtain⟨f1,f2,f3⟩:=hf q (Ne.symm htq);rw[f1] at hl';rw[f2] at hi;rw[f3 hl' i hi];exact h.fr j τ q i h2 hu' hl' hi
  ·rfl
theorem Z6v {ts:List Nat}{hl j q:Nat}{A:List (Nat×Option Nat)}(h:Q1j (ts.map (fun t=>(hl,some t))++A) j q=true) (hj:j≤hl):q∉ts∧Q1j A j q=true:=by simp only[Q1j,List.all_append,Bool.and_eq_true] at h ⊢;refine⟨fun hm=>?_,h.2⟩;have:=List.all_eq_true.1 h.1 (hl,some q) (List.mem_map.2 ⟨q,hm,rfl⟩);simp only[Bool.or_eq_true,Nat.blt_eq,Nat.beq_refl,Bool.not_true,Bool.false_eq_true,or_false] at this;omega
theorem DSt.call {hs:List Heap}{σ σ':Heap}{pend:List (Nat×(Heap→Prop))}{hl chg:Nat}{A R:List (Nat×Option Nat)}{s s':St}{pl pl':Nat→Value}(h:DSt hs σ pend hl chg A R s.own pl) (hle:σ.Le σ') {Ts:List Nat}(hf:FrL Ts s s' pl pl' σ σ') (hl0:0<hl) :
  vpend hs.length σ' pend∧DSt (hs++[σ']) σ' pend (hl+1) hl (Ts.map (fun t=>(hl-1,some t))++A) (R.map fun r=>(r.1,none)) s'.own pl':=by
 have hr:∀ Q r,RdOk σ s.own pl Q r→∀ τ,σ'.Le τ→Q τ:=fun Q r hok τ ht=>by
  unfold RdOk at hok;split at hok
  ·exact hok τ (hle.trans ht)
  ·obtain⟨_,i,b,_,h2,h3⟩:=hok;exact h3 τ (ht.2 _ _ (hle.2 _ _ h2))
 refine⟨Q8a fun c hc hle=>?_,⟨by simp[h.len],fun j τ hj ht=>?_,fun c hc=>?_,fun j τ q i ht hu hl' hi=>?_⟩⟩
 ·rcases h.pend c hc with h1|⟨r,h1,_,h2⟩
  ·rw[h.len] at hle;omega
  ·exact hr _ _ h2 _ (.refl _)
 ·rcases Q3c ht with⟨h1,_⟩|⟨_,h1⟩
  ·rw[h.len] at h1;omega
  ·exact h1
 ·rcases h.pend c hc with h1|⟨r,h1,h2,h3⟩
  ·exact .inl (by omega)
  ·exact .inr ⟨(r.1,none),List.mem_map.2 ⟨r,h1,rfl⟩,h2,hr _ _ h3⟩
 ·rcases Q3c ht with⟨h1,h2⟩|⟨_,rfl⟩
  ·rw[h.len] at h1;obtain⟨hq,hu'⟩:=Z6v hu (by omega);obtain⟨f1,f2,f3⟩:=hf q hq;rw[f1] at hl';rw[f2] at hi;rw[f3 hl' i hi];exact h.fr j τ q i h2 hu' hl' hi
  ·rfl
theorem DSt.writeD {hs:List Heap}{σ σ':Heap}{pend:List (Nat×(Heap→Prop))}{hl chg:Nat}{A R:List (Nat×Option Nat)}{s s':St}{pl pl':Nat→Value}(h:DSt hs σ pend hl chg A R s.own pl) {Ts:List Nat}(hf:FrL Ts s s' pl pl' σ σ') {mk:Bool}(hm:mk=true→σ.Le σ')
  (hc:rdAll mk R hl Ts=true) (hl0:0<hl):vpend hs.length σ' pend∧DSt (hs++[σ']) σ' pend (hl+1) hl (Ts.map (fun t=>(hl-1,some t))++A) R s'.own pl':=by
 have hr:∀ Q:Heap→Prop,∀ r∈R,hl≤r.1→RdOk σ s.own pl Q r.2→RdOk σ' s'.own pl' Q r.2:=fun Q r hrR hge hok=>by
  have hcr:=List.all_eq_true.1 hc r hrR;have hcr:(match r.2 with|some q=>Ts.all (fun t=>!(Nat.beq q t))|none=>mk)=true:=by rw[Bool.or_eq_true,Nat.blt_eq] at hcr;exact hcr.resolve_left (by omega)
  cases e:r.2 with
  |none =>rw[e] at hok hcr;exact fun τ ht=>hok τ ((hm hcr).trans ht)
  |some q =>
   rw[e] at hok hcr;obtain⟨k1,i,b,k2,k3,k4⟩:=hok;obtain⟨f1,f2,f3⟩:=hf q fun hq=>by have:=List.all_eq_true.1 hcr q hq;simp at this
   exact⟨by rw[f1];exact k1,i,b,by rw[f2];exact k2,by rw[f3 k1 i k2];exact k3,k4⟩
 have now:∀ Q:Heap→Prop,∀ r,RdOk σ' s'.own pl' Q r→Q σ':=fun Q r hok=>by
  unfold RdOk at hok;split at hok
  ·exact hok σ' (.refl _)
  ·obtain⟨_,i,b,_,h2,h3⟩:=hok;exact h3 σ' h2
 refine⟨Q8a fun c hc hle=>?_,⟨by simp[h.len],fun j τ hj ht=>?_,fun c hc=>?_,fun j τ q i ht hu hl' hi=>?_⟩⟩
 ·rw[h.len] at hle;rcases h.pend c hc with h1|⟨r,h1,h2,h3⟩
  ·omega
  ·exact now _ _ (hr _ r h1 (by omega) h3)
 ·rcases Q3c ht with⟨h1,_⟩|⟨_,h1⟩
  ·rw[h.len] at h1;omega
  ·exact h1
 ·rcases h.pend c hc with h1|⟨r,h1,h2,h3⟩
  ·exact .inl (by omega)
  ·by_cases hge:hl≤r.1
   ·exact .inr ⟨r,h1,h2,hr _ r h1 hge h3⟩
   ·exact .inl (by omega)
 ·rcases Q3c ht with⟨h1,h2⟩|⟨_,rfl⟩
  ·rw[h.len] at h1;obtain⟨hq,hu'⟩:=Z6v hu (by omega);obtain⟨f1,f2,f3⟩:=hf q hq;rw[f1] at hl';rw[f2] at hi;rw[f3 hl' i hi];exact h.fr j τ q i h2 hu' hl' hi
  ·rfl
theorem J38 {hl d j q:Nat}{A:List (Nat×Option Nat)}(h:Q1j ((hl,none)::A) j q=true):Q1j ([d].map (fun t=>(hl,some t))++A) j q=true:=by simp only[Q1j,List.all_cons,Bool.and_eq_true,Bool.or_eq_true,Bool.false_eq_true,or_false,List.map_cons,List.map_nil,List.cons_append,List.nil_append] at h ⊢;exact⟨.inl h.1,h.2⟩
theorem DSt.frozen {hs:List Heap}{σ:Heap}{pend:List (Nat×(Heap→Prop))}{hl chg m d:Nat}{A R:List (Nat×Option Nat)}{own:Own}{pl:Nat→Value}(h:DSt hs σ pend hl chg ([d].map (fun t=>(m,some t))++A) R own pl):DSt hs σ pend hl chg ((m,none)::A) R own pl :=
 ⟨h.len,h.same,h.pend,fun j τ q i ht hu=>h.fr j τ q i ht (J38 hu)⟩
theorem J00 {ts:List Nat}{m j:Nat}{A:List (Nat×Option Nat)}(h:noFz (ts.map (fun t=>(m,some t))++A) j=true):noFz A j=true:=by simp only[noFz,List.all_append,Bool.and_eq_true] at h;exact h.2
theorem J1u {a:Nat×Option Nat}{j:Nat}{A:List (Nat×Option Nat)}(h:noFz (a::A) j=true):noFz A j=true:=by simp only[noFz,List.all_cons,Bool.and_eq_true] at h;exact h.2
theorem J3i {C:Cx}{f:SV}{args:List SV}{cs:List Prop}{v:SV}(h:glistD C f args=some (cs,v)):∃ c ty k xs nl,gcallee C.cs f args=some (c,.lst 0,[.lst ty k xs nl])∧cs=[c,nl=true→xs=[]]∧v=.val (.list k) xs∧k.flat=true∧0<C.nt:=by
 unfold glistD at h;split at h
 ·rename_i heq;split at h
  ·rename_i k xs nl;cases hc:(k.flat&&Nat.blt 0 C.nt) with
   |false=>rw[hc] at h;cases h
   |true =>rw[hc] at h;obtain⟨rfl,rfl⟩:=pinj h;simp only[Bool.and_eq_true,Nat.blt_eq] at hc;exact⟨_,_,_,_,_,heq,rfl,rfl,hc.1,hc.2⟩
  ·cases h
 ·cases h
theorem J6q {b:OB}(h:b.here=true):b.live=true:=by cases b<;>first|rfl|cases h
theorem Q8j {B F:Heap}{pl:Nat→Value}{tb:Nat→Option Bool}{s:St}{env:Env}{σ:Heap}(hG:Gam P B F pl tb s env σ) {o:VOp}{q:Nat}(h:rdThing o (gev [] s.env) s.own=some q) {u:Value}{σ2:Heap}(hv:vact o (evalO env) σ=some (u,σ2)) :
  (oget s.own q).live=true∧∃ i b,Oid (pl q) i∧σ.get i=some b∧∀ τ,τ.get i=some b→vact o (evalO env) τ=some (u,τ):=by
 unfold rdThing at h;split at h
 ·rename_i agg size a;have ha:=hG.evs (Gds.nil (tb:=tb)) a;have key:∀ q i off,(oget s.own q).live=true→Oid (pl q) i→evalO env a=.pointer (some ⟨i,off,none⟩)→(oget s.own q).live=true∧∃ i b,Oid (pl q) i∧σ.get i=some b∧∀ τ,τ.get i=some b→vact (.load agg size a) (evalO env) τ=some (u,τ):=fun q i off hl hi he=>by
   simp only[vact,he] at hv;cases hb:σ.get i with
   |none=>rw[hb] at hv;cases hv
   |some b =>
    refine⟨hl,i,b,hi,hb,fun τ ht=>?_⟩;rw[hb] at hv;simp only[vact,he,ht];cases b with
    |obj o wr=>cases hv
    |cells c e wr t =>
     simp only at hv ⊢;split at hv
     ·obtain⟨rfl,rfl⟩:=pinj hv;rfl
     ·cases hv
  split at h
  ·rename_i q' off hx;rw[hx] at ha;simp only[SR] at ha;obtain⟨b,h1,h2⟩:=ha;cases hh:(oget s.own q').here with
   |false=>rw[hh] at h;cases h
   |true =>rw[hh] at h;obtain rfl:=osj h;exact key q' b off (J6q hh) (by rw[h1];rfl) h2
  ·rename_i q' i off sz hx;rw[hx] at ha;simp only[SR] at ha;obtain⟨b,len,cap,h1,h2,h3,h4⟩:=ha;cases hh:(oget s.own q').here with
   |false=>rw[hh] at h;cases h
   |true =>rw[hh] at h;obtain rfl:=osj h;exact key q' b _ (J6q hh) (by rw[h1];rfl) h4
  ·cases h
 ·cases h
theorem Z4f {r:Nat}{σ:Heap}:∀ {l:List (Nat×(Heap→Prop))},vpend r σ l→∀ {c},c∈l→r≤c.1→c.2 σ
 |c::l,h,c',hc,hr=>by
  rcases List.mem_cons.1 hc with rfl|hc
  ·exact h.1 hr
  ·exact Z4f h.2 hc hr
theorem Z4n {B F:Heap}{pl:Nat→Value}{tb:Nat→Option Bool}{s:St}{env:Env}{σ:Heap}(hG:Gam P B F pl tb s env σ) {gs:List Gd}(hg:Gds tb gs) {o:VOp}(h:rdRo o (gev gs s.env)=true) {u:Value}{σ2:Heap}(hv:vact o (evalO env) σ=some (u,σ2)) :
  ∀ τ,B.Le τ→vact o (evalO env) τ=some (u,τ):=by
 unfold rdRo at h;split at h
 ·rename_i agg size a;have ha:=hG.evs hg a;have key:∀ i off,(∃ b,B.get i=some b)→evalO env a=.pointer (some ⟨i,off,none⟩)→∀ τ,B.Le τ→vact (.load agg size a) (evalO env) τ=some (u,τ):=fun i off ⟨b,hb⟩ he τ hτ=>by
   simp only[vact,he,hG.leB.2 _ _ hb] at hv;simp only[vact,he,hτ.2 _ _ hb];cases b with
   |obj o wr=>cases hv
   |cells c e wr t =>
    simp only at hv ⊢;split at hv
    ·obtain⟨rfl,rfl⟩:=pinj hv;rfl
    ·cases hv
  split at h
  ·rename_i k l i off hx;rw[hx] at ha;simp only[SR] at ha;obtain⟨b,o,c,e,wr,t,_,_,h3,h4,_⟩:=ha;exact key b _ ⟨_,h3⟩ h4
  ·rename_i l off hx;rw[hx] at ha;simp only[SR] at ha;obtain⟨b,c,e,wr,t,h3,h4,_⟩:=ha;exact key b _ ⟨_,h3⟩ h4
  ·cases h
 ·cases h
def vopsDX (S:VSpecs):List DOper→Env→List Heap→Heap→List (Nat×(Heap→Prop))→(Env→Heap→Prop)→Prop
 |[],env,_,σ,_,K=>K env σ
 |o::rest,env,hs,σ,pend,K=>obind (vwant env o.guard) fun b =>
   vif b (if o.kind=2 then vexact (fun R=>vop S o.op env σ R) fun v σ'=>vpend hs.length σ' pend∧vopsDX S rest (putE env o.dst v) (hs++[σ']) σ' pend K
     else if o.kind=1 then obind (vact o.op (evalO env) σ) fun p=>(∀ τ∈hs.drop o.kmin,vreads o.op (evalO env) p.1 τ) ∧
      vopsDX S rest (putE env o.dst p.1) hs σ (if hs.length≤o.kmax then (o.kmax,vreads o.op (evalO env) p.1)::pend else pend) K
     else obind (vact o.op (evalO env) σ) fun p=>vopsDX S rest (putE env o.dst p.1) hs σ pend K)
    (if o.kind=2 then vpend hs.length σ pend∧vopsDX S rest (putE env o.dst undef) (hs++[σ]) σ pend K else vopsDX S rest (putE env o.dst undef) hs σ pend K)
theorem J0t {α:Type}{o:Option α}{f g:α→Prop}(h:obind o f) (hfg:∀ a,f a→g a):obind o g:=by
 cases o with
 |none=>exact h.elim
 |some a=>exact hfg a h
theorem Q6y {S:VSpecs}{K:Env→Heap→Prop}:∀ {ops:List DOper}{env:Env}{hs:List Heap}{σ:Heap}{pend:List (Nat×(Heap→Prop))},vopsDX S ops env hs σ pend K→vopsD S ops env hs σ pend K
 |[],_,_,_,_,h=>h
 |o::r,env,hs,σ,pend,h=>by
  simp only[vopsDX] at h;simp only[vopsD];refine J0t h fun b h=>⟨fun e=>?_,fun e=>?_⟩
  ·have h:=h.1 e;split at h
   ·rename_i hk;rw[if_pos hk];obtain⟨v,σ',h1,h2,h3⟩:=h;exact .inl ⟨v,σ',h1,h2,Q6y h3⟩
   ·rename_i hk;rw[if_neg hk];split at h
    ·rename_i hk1;rw[if_pos hk1];exact J0t h fun p h=>⟨h.1,Q6y h.2⟩
    ·rename_i hk1;rw[if_neg hk1];exact J0t h fun p h=>Q6y h
  ·have h:=h.2 e;split at h
   ·rename_i hk;rw[if_pos hk];exact⟨h.1,Q6y h.2⟩
   ·rename_i hk;rw[if_neg hk];exact Q6y h
theorem Q0b {C:Cx}(hcs:COk P C) (hxs:C.xs=[]) {B0 F0 D0:Heap}:∀ (ops:List DOper),(∀ o∈ops,o.kind=o.op.kind)→∀ {s:St}{env:Env}{σ:Heap}{B F:Heap}{pl:Nat→Value}{tb:Nat→Option Bool},GBase B0 F0 D0 B F σ→Gam P B F pl tb s env σ→∀ {hl chg:Nat}{A Rd:List (Nat×Option Nat)}{hs:List Heap}{pend pd:List (Nat×(Heap→Prop))},DSt hs σ pd hl chg A Rd s.own pl→(∀ c∈pend,(∀ τ,B.Le τ→c.2 τ)∨c∈pd)→(∀ j τ,hs[j]?=some τ→noFz A j=true→B.Le τ)→chg≤hl→0<hl →
  ∀ {K:St→Prop},gopsD C ops s hl chg A Rd K→∀ {R:Env→Heap→Prop},(∀ s' env' σ',K s'→GRel P B0 F0 D0 s' env' σ'→R env' σ')→vopsDX (semSpecs P) ops env hs σ pend R
 |[],_,s,env,σ,B,F,pl,tb,hB,hG,_,_,_,_,_,_,_,_,_,_,_,_,K,h,R,hK=>hK s env σ h ⟨B,F,pl,tb,hB,hG⟩
 |o0::r,hkind,s,env,σ,B,F,pl,tb,hB,hG,hl,chg,A,Rd,hs,pend,pd,hD,hp,hbs,hch,hl0,K,h,R,hK=>by
  have vps:∀ {n:Nat}{τ:Heap},B.Le τ→vpend n τ pd→vpend n τ pend:=fun {n τ} hb hv=>Q8a fun c hc hn=>(hp c hc).elim (fun h=>h τ hb) fun h=>Z4f hv h hn;have snoc:∀ {τ:Heap}{A':List (Nat×Option Nat)},B.Le τ→(∀ j,noFz A' j=true→noFz A j=true)→∀ j τ',(hs++[τ])[j]?=some τ'→noFz A' j=true→B.Le τ':=fun {τ A'} hb hA j τ' hm hn=>by
   rcases Q3c hm with⟨_,h1⟩|⟨_,rfl⟩
   ·exact hbs j τ' h1 (hA j hn)
   ·exact hb
  have hkr:∀ o∈r,o.kind=o.op.kind:=fun o' ho'=>hkind o' (List.mem_cons_of_mem _ ho');have hko0:=hkind o0 List.mem_cons_self;unfold gopsD at h;split at h
  ·rename_i hst;have hw:=Q9h hG hst;simp only[vopsDX];rw[hw];refine⟨fun e=>(by cases e),fun _=>?_⟩;have hput:=hG.put o0.dst (show SR P B pl tb .any undef by simp[SR]);by_cases hk2:o0.kind=2
   ·rw[if_pos hk2] at h ⊢;obtain⟨k1,k2⟩:=hD.stay;exact⟨vps hG.leB k1,Q0b hcs hxs r hkr hB hput (by rw[Q1e];exact k2) hp (snoc hG.leB fun _ h=>h) (by omega) (by omega) h hK⟩
   ·rw[if_neg hk2] at h ⊢;exact Q0b hcs hxs r hkr hB hput (by rw[Q1e];exact hD) hp hbs hch hl0 h hK
  have hko:(gres s.env o0).kind=(gres s.env o0).op.kind:=by unfold gres;split<;>exact hko0
  have hres:vopsDX (semSpecs P) (gres s.env o0::r) env hs σ pend R→vopsDX (semSpecs P) (o0::r) env hs σ pend R:=fun hv=>by
   unfold gres at hv;split at hv
   ·rename_i hst;simp only[vopsDX] at hv ⊢;rw[Q9h hG hst];exact hv
   ·exact hv
  refine hres ?_;clear hres;generalize gres s.env o0=o at h hko ⊢
  replace h:=id h
  simp only[vopsDX];by_cases hk2:o.kind=2
  ·rw[if_pos hk2] at h
   have fin:∀ {u:Value}{σ':Heap}{ts:List Nat}{v:SV}{s':St}{pl':Nat→Value},(∀ R',R' u σ'→vop (semSpecs P) o.op env σ R')→gopsD C r (s'.put o.dst v) (hl+1) (bif ts.isEmpty then chg else hl) (ts.map (fun t=>(hl-1,some t))++A) (bif ts.isEmpty then Rd else Rd.map fun r=>(r.1,none)) K→Gam P B F pl' tb s' env σ'→SR P B pl' tb v u→(ts=[]→σ'=σ∧pl'=pl∧s'=s)→σ.Le σ'→Dead σ σ'→FrL ts s s' pl pl' σ σ' →
     vexact (fun R=>vop (semSpecs P) o.op env σ R) fun v σ'=>vpend hs.length σ' pend∧vopsDX (semSpecs P) r (putE env o.dst v) (hs++[σ']) σ' pend R:=fun {u σ' ts v s' pl'} hop hgo hG' hsr he hle hd hfr=>by
    cases ts with
    |nil =>obtain⟨rfl,rfl,rfl⟩:=he rfl;obtain⟨k1,k2⟩:=hD.stay;exact⟨u,σ',hop _ ⟨rfl,rfl⟩,vps hG'.leB k1,Q0b hcs hxs r hkr (Z5e hB hd) (hG'.put o.dst hsr) (by rw[Q1e];exact k2) hp (snoc hG'.leB fun _ h=>h) (by simp only[List.isEmpty,_root_.cond_true] at *;omega) (by omega) hgo hK⟩
    |cons t ts =>obtain⟨k1,k2⟩:=hD.call hle hfr hl0;exact⟨u,σ',hop _ ⟨rfl,rfl⟩,vps hG'.leB k1,Q0b hcs hxs r hkr (Z5e hB hd) (hG'.put o.dst hsr) (by rw[Q1e];exact k2) hp (snoc hG'.leB fun _ h=>J00 h) (by simp only[List.isEmpty,_root_.cond_false] at *;omega) (by omega) hgo hK⟩
   split at h
   ·rename_i f args hop;split at h
    ·rename_i hg;rw[hg];refine⟨fun _=>?_,fun e=>by cases e⟩;rw[if_pos hk2];rw[hxs] at h;simp only[alook] at h;obtain⟨g,a,b,u,σ',e,v,s',pl',h1,h2,h3,h4,h5,h6,h7,h8,h9⟩:=Q5g hcs hG h (show SR P σ noPl noTb (.fn f [] []) (.func (.func f) #[] #[]) by simp only[SR,SRs];exact⟨[],[],rfl,rfl,rfl⟩) (hG.gcall Gds.nil args);obtain⟨rfl,rfl,rfl⟩:=(by simpa using h1:f=g∧#[]=a∧#[]=b);refine fin (u:=u) (σ':=σ') (fun R' hr=>?_) h3 h4 h5 h6 h7 h8 h9;rw[hop];show VCalled P f (args.map (evalO env)) σ R';have:=h2.mono (R':=R') fun u' σ'' ⟨e1,e2⟩=>by subst e1;subst e2;exact hr
     simpa using this
    ·rename_i j want hg;rw[hg];split at h
     ·exact h.elim
     ·rename_i gs s1 hgd;obtain⟨tb',hG',htb,b,hw,hb1,hb2⟩:=Q5f hG hgd;have hown:=Q8t hgd;rw[hw];split at h
      ·rename_i cs v hgq;cases hnb:noBox v with
       |false=>rw[hnb] at h;exact h.elim
       |true =>
       rw[hnb] at h;simp only[_root_.cond_true] at h;obtain⟨h1,h2⟩:=Q1s h;obtain⟨k1,k2⟩:=hD.stay;have k2':∀ x,DSt (hs++[σ]) σ pd (hl+1) chg A Rd (s1.put o.dst x).own pl:=fun x=>by rw[Q1e,hown];exact k2
       refine⟨fun e=>?_,fun e=>?_⟩
       ·rw[if_pos hk2];have hgs:Gds tb' gs:=fun g hg=>⟨hb1 e g hg,htb g hg⟩;have finv:∀ {v u},SR P B pl tb' v u→SR P B pl tb' (.grd gs (unbid v)) u:=fun {v u} hs=>by
         simp only[SR];obtain⟨h1,h2⟩:=Z9v hs;exact⟨⟨htb,h2⟩,fun _=>h1,fun ⟨g,hg,hne⟩=>absurd (hb1 e g hg) hne⟩
        simp only[gqc] at hgq;split at hgq
        ·rename_i c v' heq;cases hvr:v'.ret 0 with
         |false=>rw[hvr] at hgq;cases hgq
         |true =>
          rw[hvr] at hgq;obtain⟨rfl,rfl⟩:=pinj hgq;obtain⟨g,a,b',h3,h4,_⟩:=Q2i hcs.cs (show SR P σ noPl noTb (.fn f [] []) (.func (.func f) #[] #[]) by simp only[SR,SRs];exact⟨[],[],rfl,rfl,rfl⟩) (hG'.gcall hgs args) heq hvr rfl (h2 (hb1 e) _ (by simp));obtain⟨rfl,rfl,rfl⟩:=(by simpa using h3:f=g∧#[]=a∧#[]=b');refine⟨cval noPl v',σ,?_,vps hG.leB k1,Q0b hcs hxs r hkr hB (hG'.put o.dst (finv ?_)) (k2' _) hp (snoc hG.leB fun _ h=>h) (by omega) (by omega) (Q1l h1) hK⟩
          ·rw[hop];show VCalled P f (args.map (evalO env)) σ _;have:=h4.mono (R':=fun u σ'=>u=cval noPl v'∧σ'=σ) fun u σ' hr=>by
            obtain⟨rfl,hu⟩:=hr.flat hvr;exact⟨Z12 v' u hvr hnb hu,rfl⟩
           simpa using this
          ·exact SR.retd (fun j hj=>by omega) _ _ hvr (J62 (P:=P) (pl:=noPl) (m:=0) (fun j hj=>by omega) v' hvr hnb)
        ·cases hgq
       ·rw[if_pos hk2];obtain⟨g,hg',hne⟩:=hb2 e;exact⟨vps hG.leB k1,Q0b hcs hxs r hkr hB (hG'.put o.dst (by simp only[SR];exact⟨⟨htb,Z9u v⟩,fun hall=>absurd (hall g hg') hne,fun _=>trivial⟩)) (k2' _) hp (snoc hG.leB fun _ h=>h) (by omega) (by omega) (Q1l h1) hK⟩
      ·split at h
       ·rename_i cs v hgl;obtain⟨c,ty,k,xs,nl,heq,rfl,rfl,hk,hnt⟩:=J3i hgl;obtain⟨h1,h2⟩:=Q1s h;have frz:∀ {B' σ':Heap},B'.Le σ'→∀ j τ',(hs++[σ'])[j]?=some τ'→noFz ((hl-1,none)::A) j=true→B'.Le τ':=fun {B' σ'} hb j τ' hm hn=>by
         rcases Q3c hm with⟨h1,_⟩|⟨_,rfl⟩
         ·simp only[noFz,List.all_cons,Bool.and_eq_true,Bool.or_eq_true,Nat.blt_eq,Option.isSome_none,Bool.false_eq_true,or_false] at hn;have:=hD.len;omega
         ·exact hb
        refine⟨fun e=>?_,fun e=>?_⟩
        ·rw[if_pos hk2];have hgs:Gds tb' gs:=fun g hg=>⟨hb1 e g hg,htb g hg⟩;have hc1:=h2 (hb1 e) c (by simp);have hc2:=h2 (hb1 e) (nl=true→xs=[]) (by simp);have hgd:gdcall C (C.off+o.dst.getD 0) (.fn f [] []) (ress s1.own (args.map (gev gs s1.env))) s1 (fun ts v' s'=>ts=[C.off+o.dst.getD 0]∧v'=.lst (C.off+o.dst.getD 0)∧s'=s1.make (C.off+o.dst.getD 0) (.lst ty k xs nl)):=by
          unfold gdcall;rw[heq];dsimp only;have hcond:(SV.ret [OB.lst ty k xs nl].length (.lst 0)&&([OB.lst ty k xs nl].all OB.ret&&(Nat.blt 0 C.nt&&([OB.lst ty k xs nl].all OB.isL&&noBox (.lst 0)))))=true:=by simp only[SV.ret,List.length_singleton,List.all_cons,List.all_nil,Bool.and_true,OB.ret,hk,Bool.true_and,OB.isL,noBox];rw[Bool.and_eq_true];exact⟨rfl,by rw[Nat.blt_eq];exact hnt⟩
          rw[hcond];simp only[_root_.cond_true,allWf,OB.wf];refine⟨hc1,hc2,?_,?_,?_⟩
          ·simp[List.range_succ]
          ·simp[SV.ren]
          ·simp[St.makes]
         obtain⟨g,a,b',u,σ',ts,v',s',pl',h3,h4,⟨rfl,rfl,rfl⟩,h5,h6,_,h7,h8,h9⟩:=Q5g hcs hG' hgd (show SR P σ noPl noTb (.fn f [] []) (.func (.func f) #[] #[]) by simp only[SR,SRs];exact⟨[],[],rfl,rfl,rfl⟩) (hG'.gcall hgs args);obtain⟨rfl,rfl,rfl⟩:=(by simpa using h3:f=g∧#[]=a∧#[]=b');obtain⟨B',F',m1,m2,m3⟩:=J4o hG'.bf hk h5 h6 h8;have hfr:FrL [C.off+o.dst.getD 0] s ((s1.make (C.off+o.dst.getD 0) .dead).put o.dst (.grd gs (.val (.list k) xs))) pl pl' σ σ':=fun q hq=>by obtain⟨f1,f2,f3⟩:=h9 q hq;rw[hown] at f3;refine⟨?_,f2,f3⟩;rw[Q1e,Z17 _ _ _ (by simpa using hq),hown]
         obtain⟨k1,k2⟩:=hD.call h7 hfr hl0;refine⟨u,σ',?_,vps (m1.b.trans m2.leB) k1,Q0b hcs hxs r hkr (hB.trans m1) (m2.put o.dst ?_) k2.frozen (fun c hc=>(hp c hc).imp (fun h τ hτ=>h τ (m1.b.trans hτ)) id) (frz m2.leB) (by omega) (by omega) h1 hK⟩
         ·rw[hop];show VCalled P f (args.map (evalO env)) σ _;simpa using h4
         ·simp only[SR];exact⟨⟨htb,trivial⟩,fun _=>m3,fun ⟨g,hg,hne⟩=>absurd (hb1 e g hg) hne⟩
        ·rw[if_pos hk2];obtain⟨g,hg',hne⟩:=hb2 e;have hfr:FrL [C.off+o.dst.getD 0] s ((s1.make (C.off+o.dst.getD 0) .dead).put o.dst (.grd gs (.val (.list k) xs))) pl (updP pl (C.off+o.dst.getD 0) undef) σ σ:=fun q hq=>by
          have hq':q≠C.off+o.dst.getD 0:=by simpa using hq
          refine⟨?_,by simp[updP,hq'],fun _ _ _=>rfl⟩;rw[Q1e,Z17 _ _ _ hq',hown]
         obtain⟨k1,k2⟩:=hD.call (.refl σ) hfr hl0;refine⟨vps hG.leB k1,Q0b hcs hxs r hkr hB ((hG'.make (C.off+o.dst.getD 0) .dead undef hG'.le (fun _ _ _ _ _=>rfl) trivial (fun i hl _=>by cases hl)).put o.dst ?_) k2.frozen hp (frz hG.leB) (by omega) (by omega) h1 hK⟩;simp only[SR];exact⟨⟨htb,trivial⟩,fun hall=>absurd (hall g hg') hne,fun _=>trivial⟩
       ·exact h.elim
   ·rename_i f args hop;split at h
    ·rename_i hg;rw[hg];refine⟨fun _=>?_,fun e=>by cases e⟩;rw[if_pos hk2];obtain⟨g,a,b,u,σ',e,v,s',pl',h1,h2,h3,h4,h5,h6,h7,h8,h9⟩:=Q5g hcs hG h (hG.gfun Gds.nil f) (hG.gcall Gds.nil args);refine fin (u:=u) (σ':=σ') (fun R' hr=>?_) h3 h4 h5 h6 h7 h8 h9;rw[hop];exact Z3y h1 (h2.mono (R':=R') fun u' σ'' ⟨e1,e2⟩=>by subst e1;subst e2;exact hr)
    ·exact h.elim
   ·exact h.elim
   ·exact h.elim
   ·rename_i hnf hnv hnr hnn;split at h
    ·rename_i hg;rw[hg];refine⟨fun _=>?_,fun e=>by cases e⟩;rw[if_pos hk2];have hcall:isCall o.op=false:=by
      cases ho:o.op<;>first|rfl|(exact absurd ho (hnf _ _))|(exact absurd ho (hnv _ _))|skip
      case ext x=>cases x<;>first|rfl|(exact absurd ho (hnr _))|(exact absurd ho (hnn _))
     cases hdp:isDeep C (o.dst.getD 0) o.op (gev [] s.env) with
     |true =>
      rw[hdp] at h;simp only[_root_.cond_true] at h;cases hm:rdAll (isMake o.op) Rd hl (dtouch (C.off+o.dst.getD 0) o.op (gev [] s.env)) with
      |false=>rw[hm] at h;exact h.elim
      |true =>
       rw[hm] at h;simp only[_root_.cond_true] at h;obtain⟨u,σ',pl',v,s',h1,h2,⟨h3,h3'⟩,h4⟩:=J2g (fun x=>hG.evs (Gds.nil (tb:=tb)) x) hG h;have hopv:∀ R',R' u σ'→vop (semSpecs P) o.op env σ R':=fun R' hr=>by
        have:vop (semSpecs P) o.op env σ R'=obind (vact o.op (evalO env) σ) fun p=>R' p.1 p.2:=by
         cases ho:o.op with
         |callF f a=>rw[ho] at hcall;cases hcall
         |callV f a=>rw[ho] at hcall;cases hcall
         |ext x =>
          cases x with
          |nextMap y=>rw[ho] at h1;cases h1
          |_=>rfl
         |_=>rfl
        rw[this,h1];exact hr
       obtain⟨k1,k2⟩:=hD.writeD h3' (fun hmk=>J5o hmk h1) hm hl0;exact⟨u,σ',hopv _ ⟨rfl,rfl⟩,vps h3.leB k1,Q0b hcs hxs r hkr (Z5e hB (Q8w h1)) (h3.put o.dst h4) (by rw[Q1e];exact k2) hp (snoc h3.leB fun _ h=>J00 h) (by omega) (by omega) h2 hK⟩
     |false =>
     rw[hdp] at h;simp only[_root_.cond_false] at h;cases hm:((isMake o.op&&rdKeep Rd hl (gtouch (C.off+o.dst.getD 0) o.op (gev [] s.env)))||rdFree Rd hl (gtouch (C.off+o.dst.getD 0) o.op (gev [] s.env))) with
     |false=>rw[hm] at h;exact h.elim
     |true =>
      rw[hm] at h;simp only[_root_.cond_true] at h;obtain⟨u,σ',pl',v,s',h1,h2,⟨h3,h3'⟩,h4⟩:=X62 hG h hcall;have hopv:∀ R',R' u σ'→vop (semSpecs P) o.op env σ R':=fun R' hr=>by
       have:vop (semSpecs P) o.op env σ R'=obind (vact o.op (evalO env) σ) fun p=>R' p.1 p.2:=by
        cases ho:o.op with
        |callF f a=>rw[ho] at hcall;cases hcall
        |callV f a=>rw[ho] at hcall;cases hcall
        |ext x =>
         cases x with
         |nextMap y=>rw[ho] at h1;cases h1
         |_=>rfl
        |_=>rfl
       rw[this,h1];exact hr
      obtain⟨k1,k2⟩:=hD.write h3' (fun hmk=>J5o hmk h1) hm hl0;exact⟨u,σ',hopv _ ⟨rfl,rfl⟩,vps h3.leB k1,Q0b hcs hxs r hkr (Z5e hB (Q8w h1)) (h3.put o.dst h4) (by rw[Q1e];exact k2) hp (snoc h3.leB fun _ h=>J1u h) (by omega) (by omega) h2 hK⟩
    ·exact h.elim
  ·rw[if_neg hk2] at h;have hop2:o.op.kind≠2:=by rw[←hko];exact hk2
   by_cases hk1:o.kind=1
   ·rw[if_pos hk1] at h
    have rd:∀ (rq:Option Nat),(∀ q,rq=some q→rdThing o.op (gev [] s.env) s.own=some q)→(Nat.ble chg o.kmin||rdStay A o.kmin rq)=true→gd1 C o s (fun s'=>gopsD C r s' hl chg A ((o.kmax,rq)::Rd) K) →
      obind (vwant env o.guard) fun b=>vif b (if o.kind=2 then vexact (fun R=>vop (semSpecs P) o.op env σ R) fun v σ'=>vpend hs.length σ' pend∧vopsDX (semSpecs P) r (putE env o.dst v) (hs++[σ']) σ' pend R
       else if o.kind=1 then obind (vact o.op (evalO env) σ) fun p=>(∀ τ∈hs.drop o.kmin,vreads o.op (evalO env) p.1 τ) ∧
        vopsDX (semSpecs P) r (putE env o.dst p.1) hs σ (if hs.length≤o.kmax then (o.kmax,vreads o.op (evalO env) p.1)::pend else pend) R
       else obind (vact o.op (evalO env) σ) fun p=>vopsDX (semSpecs P) r (putE env o.dst p.1) hs σ pend R)
      (if o.kind=2 then vpend hs.length σ pend∧vopsDX (semSpecs P) r (putE env o.dst undef) (hs++[σ]) σ pend R else vopsDX (semSpecs P) r (putE env o.dst undef) hs σ pend R):=fun rq hrq hc h=>by
     obtain⟨b,hw,h1,h2⟩:=Z10 hG h;rw[hw];have hdk:DSt hs σ pd hl chg A ((o.kmax,rq)::Rd) s.own pl:=⟨hD.len,hD.same,fun c hc=>(hD.pend c hc).imp id fun ⟨r,k1,k2⟩=>⟨r,List.mem_cons_of_mem _ k1,k2⟩,hD.fr⟩;refine⟨fun e=>?_,fun e=>?_⟩
     ·obtain⟨u,s',tb',h3,h4,hown,h5⟩:=h1 e;rw[if_neg hk2,if_pos hk1,h3];refine⟨fun τ hτ=>?_,?_⟩
      ·obtain⟨j,hj⟩:=List.mem_iff_getElem?.1 hτ;rw[List.getElem?_drop] at hj;rw[Bool.or_eq_true] at hc;rcases hc with hc|hc
       ·have:=hD.same (o.kmin+j) τ (by have:=Nat.le_of_ble_eq_true hc;omega) hj;subst this;exact Q3i h3
       ·unfold rdStay at hc;split at hc
        ·rename_i q;obtain⟨k1,i,bl,k2,k3,k4⟩:=Q8j hG (hrq q rfl) h3;have hu:Q1j A (o.kmin+j) q=true:=by
          simp only[Q1j,List.all_eq_true,Bool.or_eq_true,Nat.blt_eq] at hc ⊢;exact fun a ha=>(hc a ha).imp (fun h=>by omega) id
         have:=hD.fr (o.kmin+j) τ q i hj hu k1 k2;exact Q3i (k4 τ (by rw[this];exact k3))
        ·cases hc
      ·by_cases hle:hs.length≤o.kmax
       ·rw[if_pos hle];refine Q0b hcs hxs r hkr hB h5 (A:=A) (Rd:=(o.kmax,rq)::Rd) (hl:=hl) (chg:=chg) (pd:=(o.kmax,vreads o.op (evalO env) u)::pd) ?_ (fun c hc=>?_) hbs hch hl0 h4 hK
        ·rw[hown];refine⟨hD.len,hD.same,fun c hc=>?_,hD.fr⟩;rcases List.mem_cons.1 hc with rfl|hc
         ·refine .inr ⟨_,List.mem_cons_self,Nat.le_refl _,?_⟩;cases rq with
          |none=>exact fun τ hτ=>Q3i (J0n hop2 h3 hτ)
          |some q =>obtain⟨k1,i,bl,k2,k3,k4⟩:=Q8j hG (hrq q rfl) h3;exact⟨k1,i,bl,k2,k3,fun τ ht=>Q3i (k4 τ ht)⟩
         ·exact hdk.pend c hc
        ·rcases List.mem_cons.1 hc with rfl|hc
         ·exact .inr List.mem_cons_self
         ·exact(hp c hc).imp id fun h=>List.mem_cons_of_mem _ h
       ·rw[if_neg hle];exact Q0b hcs hxs r hkr hB h5 (A:=A) (Rd:=(o.kmax,rq)::Rd) (hl:=hl) (chg:=chg) (pd:=pd) (by rw[hown];exact hdk) hp hbs hch hl0 h4 hK
     ·obtain⟨s',tb',h4,hown,h5⟩:=h2 e;rw[if_neg hk2];exact Q0b hcs hxs r hkr hB h5 (by rw[hown];exact hdk) hp hbs hch hl0 h4 hK
    have ro:noFz A o.kmin=true→(∀ u,vact o.op (evalO env) σ=some (u,σ)→(vwant env o.guard=some true)→∀ τ,B.Le τ→vact o.op (evalO env) τ=some (u,τ))→gd1 C o s (fun s'=>gopsD C r s' hl chg A Rd K) →
      obind (vwant env o.guard) fun b=>vif b (if o.kind=2 then vexact (fun R=>vop (semSpecs P) o.op env σ R) fun v σ'=>vpend hs.length σ' pend∧vopsDX (semSpecs P) r (putE env o.dst v) (hs++[σ']) σ' pend R
       else if o.kind=1 then obind (vact o.op (evalO env) σ) fun p=>(∀ τ∈hs.drop o.kmin,vreads o.op (evalO env) p.1 τ) ∧
        vopsDX (semSpecs P) r (putE env o.dst p.1) hs σ (if hs.length≤o.kmax then (o.kmax,vreads o.op (evalO env) p.1)::pend else pend) R
       else obind (vact o.op (evalO env) σ) fun p=>vopsDX (semSpecs P) r (putE env o.dst p.1) hs σ pend R)
      (if o.kind=2 then vpend hs.length σ pend∧vopsDX (semSpecs P) r (putE env o.dst undef) (hs++[σ]) σ pend R else vopsDX (semSpecs P) r (putE env o.dst undef) hs σ pend R):=fun hfz hro h=>by
     obtain⟨b,hw,h1,h2⟩:=Z10 hG h;rw[hw];refine⟨fun e=>?_,fun e=>?_⟩
     ·obtain⟨u,s',tb',h3,h4,hown,h5⟩:=h1 e;have hro:=hro u h3 (by rw[hw,e]);rw[if_neg hk2,if_pos hk1,h3];refine⟨fun τ hτ=>?_,?_⟩
      ·obtain⟨j,hj⟩:=List.mem_iff_getElem?.1 hτ;rw[List.getElem?_drop] at hj;refine Q3i (hro τ (hbs _ τ hj ?_));simp only[noFz,List.all_eq_true,Bool.or_eq_true,Nat.blt_eq] at hfz ⊢;exact fun a ha=>(hfz a ha).imp (fun h=>by omega) id
      refine Q0b hcs hxs r hkr hB h5 (A:=A) (Rd:=Rd) (hl:=hl) (chg:=chg) (pd:=pd) (by rw[hown];exact hD) (fun c hc=>?_) hbs hch hl0 h4 hK;split at hc
      ·rcases List.mem_cons.1 hc with rfl|hc
       ·exact .inl fun τ hτ=>Q3i (hro τ hτ)
       ·exact hp c hc
      ·exact hp c hc
     ·obtain⟨s',tb',h4,hown,h5⟩:=h2 e;rw[if_neg hk2];exact Q0b hcs hxs r hkr hB h5 (by rw[hown];exact hD) hp hbs hch hl0 h4 hK
    split at h
    ·rename_i hg;cases hr:(rdRo o.op (gev [] s.env)&&noFz A o.kmin) with
     |true =>rw[hr] at h;rw[Bool.and_eq_true] at hr;exact ro hr.2 (fun u hu _=>Z4n hG Gds.nil hr.1 hu) h
     |false =>
     rw[hr] at h;simp only[_root_.cond_false] at h;cases hb:(Nat.ble chg o.kmin||rdStay A o.kmin (rdThing o.op (gev [] s.env) s.own)) with
     |false=>rw[hb] at h;exact h.elim
     |true =>rw[hb] at h;exact rd _ (fun q hq=>hq) hb h
    ·rename_i j want hg;cases hr:(rdRoG s j want o.op&&noFz A o.kmin) with
     |true =>
      rw[hr] at h;rw[Bool.and_eq_true] at hr;obtain⟨hr,hfz⟩:=hr;refine ro hfz (fun u hu hw=>?_) h;unfold rdRoG at hr;split at hr
      ·rename_i gs s1 hgd;obtain⟨tb',hG',htb,b,hw',hb1,hb2⟩:=Q5f hG hgd;rw[hg,hw'] at hw;have e:=osj hw;exact Z4n hG' (fun g hg=>⟨hb1 e g hg,htb g hg⟩) hr hu
      ·cases hr
     |false =>
     rw[hr] at h;simp only[_root_.cond_false] at h;cases hb:Nat.ble chg o.kmin with
     |false=>rw[hb] at h;exact h.elim
     |true =>rw[hb] at h;exact rd none (fun q hq=>by cases hq) (by rw[hb];rfl) h
   ·rw[if_neg hk1] at h;obtain⟨b,hw,h1,h2⟩:=Z10 hG h;rw[hw];refine⟨fun e=>?_,fun e=>?_⟩
    ·obtain⟨u,s',tb',h3,h4,hown,h5⟩:=h1 e;rw[if_neg hk2,if_neg hk1,h3];exact Q0b hcs hxs r hkr hB h5 (by rw[hown];exact hD) hp hbs hch hl0 h4 hK
    ·obtain⟨s',tb',h4,hown,h5⟩:=h2 e;rw[if_neg hk2];exact Q0b hcs hxs r hkr hB h5 (by rw[hown];exact hD) hp hbs hch hl0 h4 hK
theorem Q0d {C:Cx}(hcs:COk P C) {B0 F0 D0:Heap}:∀ (ops:List DOper),(∀ o∈ops,o.kind=o.op.kind)→∀ {s:St}{env:Env}{σ:Heap}{B F:Heap}{pl:Nat→Value}{tb:Nat→Option Bool},GBase B0 F0 D0 B F σ→Gam P B F pl tb s env σ→∀ {hl chg:Nat}{A Rd:List (Nat×Option Nat)}{hs:List Heap}{pend pd:List (Nat×(Heap→Prop))},DSt hs σ pd hl chg A Rd s.own pl→(∀ c∈pend,(∀ τ,B.Le τ→c.2 τ)∨c∈pd)→(∀ j τ,hs[j]?=some τ→noFz A j=true→B.Le τ)→chg≤hl→0<hl →
  ∀ {K:St→Prop},gopsD C ops s hl chg A Rd K→∀ {R:Env→Heap→Prop},(∀ s' env' σ',K s'→GRel P B0 F0 D0 s' env' σ'→R env' σ')→vopsD (semSpecs P) ops env hs σ pend R
 |[],_,s,env,σ,B,F,pl,tb,hB,hG,_,_,_,_,_,_,_,_,_,_,_,_,K,h,R,hK=>hK s env σ h ⟨B,F,pl,tb,hB,hG⟩
 |o0::r,hkind,s,env,σ,B,F,pl,tb,hB,hG,hl,chg,A,Rd,hs,pend,pd,hD,hp,hbs,hch,hl0,K,h,R,hK=>by
  have vps:∀ {n:Nat}{τ:Heap},B.Le τ→vpend n τ pd→vpend n τ pend:=fun {n τ} hb hv=>Q8a fun c hc hn=>(hp c hc).elim (fun h=>h τ hb) fun h=>Z4f hv h hn;have snoc:∀ {τ:Heap}{A':List (Nat×Option Nat)},B.Le τ→(∀ j,noFz A' j=true→noFz A j=true)→∀ j τ',(hs++[τ])[j]?=some τ'→noFz A' j=true→B.Le τ':=fun {τ A'} hb hA j τ' hm hn=>by
   rcases Q3c hm with⟨_,h1⟩|⟨_,rfl⟩
   ·exact hbs j τ' h1 (hA j hn)
   ·exact hb
  have hkr:∀ o∈r,o.kind=o.op.kind:=fun o' ho'=>hkind o' (List.mem_cons_of_mem _ ho');have hko0:=hkind o0 List.mem_cons_self;unfold gopsD at h;split at h
  ·rename_i hst;have hw:=Q9h hG hst;simp only[vopsD];rw[hw];refine⟨fun e=>(by cases e),fun _=>?_⟩;have hput:=hG.put o0.dst (show SR P B pl tb .any undef by simp[SR]);by_cases hk2:o0.kind=2
   ·rw[if_pos hk2] at h ⊢;obtain⟨k1,k2⟩:=hD.stay;exact⟨vps hG.leB k1,Q0d hcs r hkr hB hput (by rw[Q1e];exact k2) hp (snoc hG.leB fun _ h=>h) (by omega) (by omega) h hK⟩
   ·rw[if_neg hk2] at h ⊢;exact Q0d hcs r hkr hB hput (by rw[Q1e];exact hD) hp hbs hch hl0 h hK
  have hko:(gres s.env o0).kind=(gres s.env o0).op.kind:=by unfold gres;split<;>exact hko0
  have hres:vopsD (semSpecs P) (gres s.env o0::r) env hs σ pend R→vopsD (semSpecs P) (o0::r) env hs σ pend R:=fun hv=>by
   unfold gres at hv;split at hv
   ·rename_i hst;simp only[vopsD] at hv ⊢;rw[Q9h hG hst];exact hv
   ·exact hv
  refine hres ?_;clear hres;generalize gres s.env o0=o at h hko ⊢
  replace h:=id h
  simp only[vopsD];by_cases hk2:o.kind=2
  ·rw[if_pos hk2] at h
   have fin:∀ {u:Value}{σ':Heap}{ts:List Nat}{v:SV}{s':St}{pl':Nat→Value},(∀ R',R' u σ'→vop (semSpecs P) o.op env σ R')→gopsD C r (s'.put o.dst v) (hl+1) (bif ts.isEmpty then chg else hl) (ts.map (fun t=>(hl-1,some t))++A) (bif ts.isEmpty then Rd else Rd.map fun r=>(r.1,none)) K→Gam P B F pl' tb s' env σ'→SR P B pl' tb v u→(ts=[]→σ'=σ∧pl'=pl∧s'=s)→σ.Le σ'→Dead σ σ'→FrL ts s s' pl pl' σ σ' →
     vexact (fun R=>vop (semSpecs P) o.op env σ R) fun v σ'=>vpend hs.length σ' pend∧vopsD (semSpecs P) r (putE env o.dst v) (hs++[σ']) σ' pend R:=fun {u σ' ts v s' pl'} hop hgo hG' hsr he hle hd hfr=>by
    cases ts with
    |nil =>obtain⟨rfl,rfl,rfl⟩:=he rfl;obtain⟨k1,k2⟩:=hD.stay;exact⟨u,σ',hop _ ⟨rfl,rfl⟩,vps hG'.leB k1,Q0d hcs r hkr (Z5e hB hd) (hG'.put o.dst hsr) (by rw[Q1e];exact k2) hp (snoc hG'.leB fun _ h=>h) (by simp only[List.isEmpty,_root_.cond_true] at *;omega) (by omega) hgo hK⟩
    |cons t ts =>obtain⟨k1,k2⟩:=hD.call hle hfr hl0;exact⟨u,σ',hop _ ⟨rfl,rfl⟩,vps hG'.leB k1,Q0d hcs r hkr (Z5e hB hd) (hG'.put o.dst hsr) (by rw[Q1e];exact k2) hp (snoc hG'.leB fun _ h=>J00 h) (by simp only[List.isEmpty,_root_.cond_false] at *;omega) (by omega) hgo hK⟩
   split at h
   ·rename_i f args hop;split at h
    ·rename_i hg;rw[hg];refine⟨fun _=>?_,fun e=>by cases e⟩;rw[if_pos hk2]
     have viaC:∀ {K':List Nat→SV→St→Prop},gdcall C (C.off+o.dst.getD 0) (.fn f [] []) (ress s.own (args.map (gev [] s.env))) s K'→(∀ ts v s',K' ts v s'→gopsD C r (s'.put o.dst v) (hl+1) (bif ts.isEmpty then chg else hl) (ts.map (fun t=>(hl-1,some t))++A) (bif ts.isEmpty then Rd else Rd.map fun r=>(r.1,none)) K) →
       vexact (fun R=>vop (semSpecs P) o.op env σ R) fun v σ'=>vpend hs.length σ' pend∧vopsD (semSpecs P) r (putE env o.dst v) (hs++[σ']) σ' pend R:=fun {K'} h hK'=>by
      obtain⟨g,a,b,u,σ',e,v,s',pl',h1,h2,h3,h4,h5,h6,h7,h8,h9⟩:=Q5g hcs hG h (show SR P σ noPl noTb (.fn f [] []) (.func (.func f) #[] #[]) by simp only[SR,SRs];exact⟨[],[],rfl,rfl,rfl⟩) (hG.gcall Gds.nil args);obtain⟨rfl,rfl,rfl⟩:=(by simpa using h1:f=g∧#[]=a∧#[]=b);refine fin (u:=u) (σ':=σ') (fun R' hr=>?_) (hK' _ _ _ h3) h4 h5 h6 h7 h8 h9;rw[hop];show VCalled P f (args.map (evalO env)) σ R';have:=h2.mono (R':=R') fun u' σ'' ⟨e1,e2⟩=>by subst e1;subst e2;exact hr
      simpa using this
     split at h
     ·rename_i x hx;split at h
      ·rename_i jf hjf;split at h
       ·rename_i tt htt;cases hwt:(waits o.dst.toList r&&rdAll false Rd hl [tt]) with
        |false=>rw[hwt] at h;exact h.elim
        |true =>rw[hwt] at h;simp only[_root_.cond_true] at h;rw[Bool.and_eq_true] at hwt;refine .inr ⟨hwt.1,?_⟩;rw[hop];show VCalled P f (args.map (evalO env)) σ _;refine hcs.xf f jf hjf x hx B F pl tb s env σ _ _ _ _ _ tt hG (SRs.map fun x _=>hG.evs Gds.nil x) htt h fun v s' u σ' k1 k2 k3 k4 k5=>?_;obtain⟨q1,q2⟩:=hD.writeD k5 (mk:=false) (fun h=>by cases h) hwt.2 hl0;exact⟨vps k3.leB q1,Q0d hcs r hkr (Z5e hB k2) (k3.put o.dst k4) (by rw[Q1e];exact q2) hp (snoc k3.leB fun _ h=>J1u h) (by omega) (by omega) k1 hK⟩
       ·exact h.elim
      ·cases hwt:(waits o.dst.toList r&&Rd.all (fun q=>Nat.blt q.1 hl)) with
       |false=>rw[hwt] at h;simp only[_root_.cond_false] at h;exact .inl (viaC h fun _ _ _ h=>h)
       |true =>
        rw[hwt] at h;simp only[_root_.cond_true] at h;rw[Bool.and_eq_true] at hwt;refine .inr ⟨hwt.1,?_⟩;rw[hop];show VCalled P f (args.map (evalO env)) σ _;have hargs:∀ args:List Operand,SRs P B pl tb (args.map (gev [] s.env)) (args.map (evalO env)):=fun args=>SRs.map fun x _=>hG.evs Gds.nil x;refine hcs.xs f x hx B F pl tb s env σ _ _ _ _ _ hG (hargs args) h fun v s' B' F' pl' tb' u σ' k1 k2 k3 k4=>?_;have hall:∀ c∈pd,c.1<hl:=fun c hc=>by
         rcases hD.pend c hc with h1|⟨q,h1,h2,_⟩
         ·exact h1
         ·have:=List.all_eq_true.1 hwt.2 q h1;rw[Nat.blt_eq] at this;omega
        have hvp:vpend hs.length σ' pd:=Q8a fun c hc hle=>by have:=hall c hc;have:=hD.len;omega
        have hvp':vpend hs.length σ' pend:=Q8a fun c hc hn=>(hp c hc).elim (fun h=>h σ' (k2.b.trans k3.leB)) fun h=>Z4f hvp h hn;refine⟨hvp',Q0d hcs r hkr (hB.trans k2) (k3.put o.dst k4) (pd:=pd) ⟨by simp[hD.len],fun j τ hj ht=>?_,fun c hc=>.inl (by have:=hall c hc;omega),fun j τ q i ht hu hl' hi=>?_⟩ (fun c hc=>(hp c hc).imp (fun h τ hτ=>h τ (k2.b.trans hτ)) id) (fun j τ ht hn=>?_) (by omega) (by omega) k1 hK⟩
        ·rcases Q3c ht with⟨h1,_⟩|⟨_,h1⟩
         ·rw[hD.len] at h1;omega
         ·exact h1
        ·rcases Q3c ht with⟨h1,_⟩|⟨_,h1⟩
         ·exfalso;rw[hD.len] at h1;simp only[Q1j,List.all_cons,Bool.and_eq_true,Bool.or_eq_true,Nat.blt_eq,Bool.false_eq_true,or_false] at hu;omega
         ·rw[h1]
        ·rcases Q3c ht with⟨h1,_⟩|⟨_,h1⟩
         ·exfalso;rw[hD.len] at h1;simp only[noFz,List.all_cons,Bool.and_eq_true,Bool.or_eq_true,Nat.blt_eq,Option.isSome_none,Bool.false_eq_true,or_false] at hn;omega
         ·rw[h1];exact k3.leB
     ·exact .inl (viaC h fun _ _ _ h=>h)
    ·rename_i j want hg;rw[hg];split at h
     ·exact h.elim
     ·rename_i gs s1 hgd;obtain⟨tb',hG',htb,b,hw,hb1,hb2⟩:=Q5f hG hgd;have hown:=Q8t hgd;rw[hw];split at h
      ·rename_i cs v hgq;cases hnb:noBox v with
       |false=>rw[hnb] at h;exact h.elim
       |true =>
       rw[hnb] at h;simp only[_root_.cond_true] at h;obtain⟨h1,h2⟩:=Q1s h;obtain⟨k1,k2⟩:=hD.stay;have k2':∀ x,DSt (hs++[σ]) σ pd (hl+1) chg A Rd (s1.put o.dst x).own pl:=fun x=>by rw[Q1e,hown];exact k2
       refine⟨fun e=>?_,fun e=>?_⟩
       ·rw[if_pos hk2];have hgs:Gds tb' gs:=fun g hg=>⟨hb1 e g hg,htb g hg⟩;have finv:∀ {v u},SR P B pl tb' v u→SR P B pl tb' (.grd gs (unbid v)) u:=fun {v u} hs=>by
         simp only[SR];obtain⟨h1,h2⟩:=Z9v hs;exact⟨⟨htb,h2⟩,fun _=>h1,fun ⟨g,hg,hne⟩=>absurd (hb1 e g hg) hne⟩
        simp only[gqc] at hgq;split at hgq
        ·rename_i c v' heq;cases hvr:v'.ret 0 with
         |false=>rw[hvr] at hgq;cases hgq
         |true =>
          rw[hvr] at hgq;obtain⟨rfl,rfl⟩:=pinj hgq;obtain⟨g,a,b',h3,h4,_⟩:=Q2i hcs.cs (show SR P σ noPl noTb (.fn f [] []) (.func (.func f) #[] #[]) by simp only[SR,SRs];exact⟨[],[],rfl,rfl,rfl⟩) (hG'.gcall hgs args) heq hvr rfl (h2 (hb1 e) _ (by simp));obtain⟨rfl,rfl,rfl⟩:=(by simpa using h3:f=g∧#[]=a∧#[]=b');refine .inl ⟨cval noPl v',σ,?_,vps hG.leB k1,Q0d hcs r hkr hB (hG'.put o.dst (finv ?_)) (k2' _) hp (snoc hG.leB fun _ h=>h) (by omega) (by omega) (Q1l h1) hK⟩
          ·rw[hop];show VCalled P f (args.map (evalO env)) σ _;have:=h4.mono (R':=fun u σ'=>u=cval noPl v'∧σ'=σ) fun u σ' hr=>by
            obtain⟨rfl,hu⟩:=hr.flat hvr;exact⟨Z12 v' u hvr hnb hu,rfl⟩
           simpa using this
          ·exact SR.retd (fun j hj=>by omega) _ _ hvr (J62 (P:=P) (pl:=noPl) (m:=0) (fun j hj=>by omega) v' hvr hnb)
        ·cases hgq
       ·rw[if_pos hk2];obtain⟨g,hg',hne⟩:=hb2 e;exact⟨vps hG.leB k1,Q0d hcs r hkr hB (hG'.put o.dst (by simp only[SR];exact⟨⟨htb,Z9u v⟩,fun hall=>absurd (hall g hg') hne,fun _=>trivial⟩)) (k2' _) hp (snoc hG.leB fun _ h=>h) (by omega) (by omega) (Q1l h1) hK⟩
      ·split at h
       ·rename_i cs v hgl;obtain⟨c,ty,k,xs,nl,heq,rfl,rfl,hk,hnt⟩:=J3i hgl;obtain⟨h1,h2⟩:=Q1s h;have frz:∀ {B' σ':Heap},B'.Le σ'→∀ j τ',(hs++[σ'])[j]?=some τ'→noFz ((hl-1,none)::A) j=true→B'.Le τ':=fun {B' σ'} hb j τ' hm hn=>by
         rcases Q3c hm with⟨h1,_⟩|⟨_,rfl⟩
         ·simp only[noFz,List.all_cons,Bool.and_eq_true,Bool.or_eq_true,Nat.blt_eq,Option.isSome_none,Bool.false_eq_true,or_false] at hn;have:=hD.len;omega
         ·exact hb
        refine⟨fun e=>?_,fun e=>?_⟩
        ·rw[if_pos hk2];have hgs:Gds tb' gs:=fun g hg=>⟨hb1 e g hg,htb g hg⟩;have hc1:=h2 (hb1 e) c (by simp);have hc2:=h2 (hb1 e) (nl=true→xs=[]) (by simp);have hgd:gdcall C (C.off+o.dst.getD 0) (.fn f [] []) (ress s1.own (args.map (gev gs s1.env))) s1 (fun ts v' s'=>ts=[C.off+o.dst.getD 0]∧v'=.lst (C.off+o.dst.getD 0)∧s'=s1.make (C.off+o.dst.getD 0) (.lst ty k xs nl)):=by
          unfold gdcall;rw[heq];dsimp only;have hcond:(SV.ret [OB.lst ty k xs nl].length (.lst 0)&&([OB.lst ty k xs nl].all OB.ret&&(Nat.blt 0 C.nt&&([OB.lst ty k xs nl].all OB.isL&&noBox (.lst 0)))))=true:=by simp only[SV.ret,List.length_singleton,List.all_cons,List.all_nil,Bool.and_true,OB.ret,hk,Bool.true_and,OB.isL,noBox];rw[Bool.and_eq_true];exact⟨rfl,by rw[Nat.blt_eq];exact hnt⟩
          rw[hcond];simp only[_root_.cond_true,allWf,OB.wf];refine⟨hc1,hc2,?_,?_,?_⟩
          ·simp[List.range_succ]
          ·simp[SV.ren]
          ·simp[St.makes]
         obtain⟨g,a,b',u,σ',ts,v',s',pl',h3,h4,⟨rfl,rfl,rfl⟩,h5,h6,_,h7,h8,h9⟩:=Q5g hcs hG' hgd (show SR P σ noPl noTb (.fn f [] []) (.func (.func f) #[] #[]) by simp only[SR,SRs];exact⟨[],[],rfl,rfl,rfl⟩) (hG'.gcall hgs args);obtain⟨rfl,rfl,rfl⟩:=(by simpa using h3:f=g∧#[]=a∧#[]=b');obtain⟨B',F',m1,m2,m3⟩:=J4o hG'.bf hk h5 h6 h8;have hfr:FrL [C.off+o.dst.getD 0] s ((s1.make (C.off+o.dst.getD 0) .dead).put o.dst (.grd gs (.val (.list k) xs))) pl pl' σ σ':=fun q hq=>by obtain⟨f1,f2,f3⟩:=h9 q hq;rw[hown] at f3;refine⟨?_,f2,f3⟩;rw[Q1e,Z17 _ _ _ (by simpa using hq),hown]
         obtain⟨k1,k2⟩:=hD.call h7 hfr hl0;refine .inl ⟨u,σ',?_,vps (m1.b.trans m2.leB) k1,Q0d hcs r hkr (hB.trans m1) (m2.put o.dst ?_) k2.frozen (fun c hc=>(hp c hc).imp (fun h τ hτ=>h τ (m1.b.trans hτ)) id) (frz m2.leB) (by omega) (by omega) h1 hK⟩
         ·rw[hop];show VCalled P f (args.map (evalO env)) σ _;simpa using h4
         ·simp only[SR];exact⟨⟨htb,trivial⟩,fun _=>m3,fun ⟨g,hg,hne⟩=>absurd (hb1 e g hg) hne⟩
        ·rw[if_pos hk2];obtain⟨g,hg',hne⟩:=hb2 e;have hfr:FrL [C.off+o.dst.getD 0] s ((s1.make (C.off+o.dst.getD 0) .dead).put o.dst (.grd gs (.val (.list k) xs))) pl (updP pl (C.off+o.dst.getD 0) undef) σ σ:=fun q hq=>by
          have hq':q≠C.off+o.dst.getD 0:=by simpa using hq
          refine⟨?_,by simp[updP,hq'],fun _ _ _=>rfl⟩;rw[Q1e,Z17 _ _ _ hq',hown]
         obtain⟨k1,k2⟩:=hD.call (.refl σ) hfr hl0;refine⟨vps hG.leB k1,Q0d hcs r hkr hB ((hG'.make (C.off+o.dst.getD 0) .dead undef hG'.le (fun _ _ _ _ _=>rfl) trivial (fun i hl _=>by cases hl)).put o.dst ?_) k2.frozen hp (frz hG.leB) (by omega) (by omega) h1 hK⟩;simp only[SR];exact⟨⟨htb,trivial⟩,fun hall=>absurd (hall g hg') hne,fun _=>trivial⟩
       ·exact h.elim
   ·rename_i f args hop;split at h
    ·rename_i hg;rw[hg];refine⟨fun _=>?_,fun e=>by cases e⟩;rw[if_pos hk2];refine .inl ?_;obtain⟨g,a,b,u,σ',e,v,s',pl',h1,h2,h3,h4,h5,h6,h7,h8,h9⟩:=Q5g hcs hG h (hG.gfun Gds.nil f) (hG.gcall Gds.nil args);refine fin (u:=u) (σ':=σ') (fun R' hr=>?_) h3 h4 h5 h6 h7 h8 h9;rw[hop];exact Z3y h1 (h2.mono (R':=R') fun u' σ'' ⟨e1,e2⟩=>by subst e1;subst e2;exact hr)
    ·exact h.elim
   ·exact h.elim
   ·exact h.elim
   ·rename_i hnf hnv hnr hnn;split at h
    ·rename_i hg;rw[hg];refine⟨fun _=>?_,fun e=>by cases e⟩;rw[if_pos hk2];have hcall:isCall o.op=false:=by
      cases ho:o.op<;>first|rfl|(exact absurd ho (hnf _ _))|(exact absurd ho (hnv _ _))|skip
      case ext x=>cases x<;>first|rfl|(exact absurd ho (hnr _))|(exact absurd ho (hnn _))
     cases hdp:isDeep C (o.dst.getD 0) o.op (gev [] s.env) with
     |true =>
      rw[hdp] at h;simp only[_root_.cond_true] at h;cases hm:rdAll (isMake o.op) Rd hl (dtouch (C.off+o.dst.getD 0) o.op (gev [] s.env)) with
      |false=>rw[hm] at h;exact h.elim
      |true =>
       rw[hm] at h;simp only[_root_.cond_true] at h;obtain⟨u,σ',pl',v,s',h1,h2,⟨h3,h3'⟩,h4⟩:=J2g (fun x=>hG.evs (Gds.nil (tb:=tb)) x) hG h;have hopv:∀ R',R' u σ'→vop (semSpecs P) o.op env σ R':=fun R' hr=>by
        have:vop (semSpecs P) o.op env σ R'=obind (vact o.op (evalO env) σ) fun p=>R' p.1 p.2:=by
         cases ho:o.op with
         |callF f a=>rw[ho] at hcall;cases hcall
         |callV f a=>rw[ho] at hcall;cases hcall
         |ext x =>
          cases x with
          |nextMap y=>rw[ho] at h1;cases h1
          |_=>rfl
         |_=>rfl
        rw[this,h1];exact hr
       obtain⟨k1,k2⟩:=hD.writeD h3' (fun hmk=>J5o hmk h1) hm hl0;exact .inl ⟨u,σ',hopv _ ⟨rfl,rfl⟩,vps h3.leB k1,Q0d hcs r hkr (Z5e hB (Q8w h1)) (h3.put o.dst h4) (by rw[Q1e];exact k2) hp (snoc h3.leB fun _ h=>J00 h) (by omega) (by omega) h2 hK⟩
     |false =>
     rw[hdp] at h;simp only[_root_.cond_false] at h;cases hm:((isMake o.op&&rdKeep Rd hl (gtouch (C.off+o.dst.getD 0) o.op (gev [] s.env)))||rdFree Rd hl (gtouch (C.off+o.dst.getD 0) o.op (gev [] s.env))) with
     |false=>rw[hm] at h;exact h.elim
     |true =>
      rw[hm] at h;simp only[_root_.cond_true] at h;obtain⟨u,σ',pl',v,s',h1,h2,⟨h3,h3'⟩,h4⟩:=X62 hG h hcall;have hopv:∀ R',R' u σ'→vop (semSpecs P) o.op env σ R':=fun R' hr=>by
       have:vop (semSpecs P) o.op env σ R'=obind (vact o.op (evalO env) σ) fun p=>R' p.1 p.2:=by
        cases ho:o.op with
        |callF f a=>rw[ho] at hcall;cases hcall
        |callV f a=>rw[ho] at hcall;cases hcall
        |ext x =>
         cases x with
         |nextMap y=>rw[ho] at h1;cases h1
         |_=>rfl
        |_=>rfl
       rw[this,h1];exact hr
      obtain⟨k1,k2⟩:=hD.write h3' (fun hmk=>J5o hmk h1) hm hl0;exact .inl ⟨u,σ',hopv _ ⟨rfl,rfl⟩,vps h3.leB k1,Q0d hcs r hkr (Z5e hB (Q8w h1)) (h3.put o.dst h4) (by rw[Q1e];exact k2) hp (snoc h3.leB fun _ h=>J1u h) (by omega) (by omega) h2 hK⟩
    ·exact h.elim
  ·rw[if_neg hk2] at h;have hop2:o.op.kind≠2:=by rw[←hko];exact hk2
   by_cases hk1:o.kind=1
   ·rw[if_pos hk1] at h
    have rd:∀ (rq:Option Nat),(∀ q,rq=some q→rdThing o.op (gev [] s.env) s.own=some q)→(Nat.ble chg o.kmin||rdStay A o.kmin rq)=true→gd1 C o s (fun s'=>gopsD C r s' hl chg A ((o.kmax,rq)::Rd) K) →
      obind (vwant env o.guard) fun b=>vif b (if o.kind=2 then (vexact (fun R=>vop (semSpecs P) o.op env σ R) fun v σ'=>vpend hs.length σ' pend∧vopsD (semSpecs P) r (putE env o.dst v) (hs++[σ']) σ' pend R)∨(waits o.dst.toList r=true∧vop (semSpecs P) o.op env σ fun v σ'=>vpend hs.length σ' pend∧vopsD (semSpecs P) r (putE env o.dst v) (hs++[σ']) σ' pend R)
       else if o.kind=1 then obind (vact o.op (evalO env) σ) fun p=>(∀ τ∈hs.drop o.kmin,vreads o.op (evalO env) p.1 τ) ∧
        vopsD (semSpecs P) r (putE env o.dst p.1) hs σ (if hs.length≤o.kmax then (o.kmax,vreads o.op (evalO env) p.1)::pend else pend) R
       else obind (vact o.op (evalO env) σ) fun p=>vopsD (semSpecs P) r (putE env o.dst p.1) hs σ pend R)
      (if o.kind=2 then vpend hs.length σ pend∧vopsD (semSpecs P) r (putE env o.dst undef) (hs++[σ]) σ pend R else vopsD (semSpecs P) r (putE env o.dst undef) hs σ pend R):=fun rq hrq hc h=>by
     obtain⟨b,hw,h1,h2⟩:=Z10 hG h;rw[hw];have hdk:DSt hs σ pd hl chg A ((o.kmax,rq)::Rd) s.own pl:=⟨hD.len,hD.same,fun c hc=>(hD.pend c hc).imp id fun ⟨r,k1,k2⟩=>⟨r,List.mem_cons_of_mem _ k1,k2⟩,hD.fr⟩;refine⟨fun e=>?_,fun e=>?_⟩
     ·obtain⟨u,s',tb',h3,h4,hown,h5⟩:=h1 e;rw[if_neg hk2,if_pos hk1,h3];refine⟨fun τ hτ=>?_,?_⟩
      ·obtain⟨j,hj⟩:=List.mem_iff_getElem?.1 hτ;rw[List.getElem?_drop] at hj;rw[Bool.or_eq_true] at hc;rcases hc with hc|hc
       ·have:=hD.same (o.kmin+j) τ (by have:=Nat.le_of_ble_eq_true hc;omega) hj;subst this;exact Q3i h3
       ·unfold rdStay at hc;split at hc
        ·rename_i q;obtain⟨k1,i,bl,k2,k3,k4⟩:=Q8j hG (hrq q rfl) h3;have hu:Q1j A (o.kmin+j) q=true:=by
          simp only[Q1j,List.all_eq_true,Bool.or_eq_true,Nat.blt_eq] at hc ⊢;exact fun a ha=>(hc a ha).imp (fun h=>by omega) id
         have:=hD.fr (o.kmin+j) τ q i hj hu k1 k2;exact Q3i (k4 τ (by rw[this];exact k3))
        ·cases hc
      ·by_cases hle:hs.length≤o.kmax
       ·rw[if_pos hle];refine Q0d hcs r hkr hB h5 (A:=A) (Rd:=(o.kmax,rq)::Rd) (hl:=hl) (chg:=chg) (pd:=(o.kmax,vreads o.op (evalO env) u)::pd) ?_ (fun c hc=>?_) hbs hch hl0 h4 hK
        ·rw[hown];refine⟨hD.len,hD.same,fun c hc=>?_,hD.fr⟩;rcases List.mem_cons.1 hc with rfl|hc
         ·refine .inr ⟨_,List.mem_cons_self,Nat.le_refl _,?_⟩;cases rq with
          |none=>exact fun τ hτ=>Q3i (J0n hop2 h3 hτ)
          |some q =>obtain⟨k1,i,bl,k2,k3,k4⟩:=Q8j hG (hrq q rfl) h3;exact⟨k1,i,bl,k2,k3,fun τ ht=>Q3i (k4 τ ht)⟩
         ·exact hdk.pend c hc
        ·rcases List.mem_cons.1 hc with rfl|hc
         ·exact .inr List.mem_cons_self
         ·exact(hp c hc).imp id fun h=>List.mem_cons_of_mem _ h
       ·rw[if_neg hle];exact Q0d hcs r hkr hB h5 (A:=A) (Rd:=(o.kmax,rq)::Rd) (hl:=hl) (chg:=chg) (pd:=pd) (by rw[hown];exact hdk) hp hbs hch hl0 h4 hK
     ·obtain⟨s',tb',h4,hown,h5⟩:=h2 e;rw[if_neg hk2];exact Q0d hcs r hkr hB h5 (by rw[hown];exact hdk) hp hbs hch hl0 h4 hK
    have ro:noFz A o.kmin=true→(∀ u,vact o.op (evalO env) σ=some (u,σ)→(vwant env o.guard=some true)→∀ τ,B.Le τ→vact o.op (evalO env) τ=some (u,τ))→gd1 C o s (fun s'=>gopsD C r s' hl chg A Rd K) →
      obind (vwant env o.guard) fun b=>vif b (if o.kind=2 then (vexact (fun R=>vop (semSpecs P) o.op env σ R) fun v σ'=>vpend hs.length σ' pend∧vopsD (semSpecs P) r (putE env o.dst v) (hs++[σ']) σ' pend R)∨(waits o.dst.toList r=true∧vop (semSpecs P) o.op env σ fun v σ'=>vpend hs.length σ' pend∧vopsD (semSpecs P) r (putE env o.dst v) (hs++[σ']) σ' pend R)
       else if o.kind=1 then obind (vact o.op (evalO env) σ) fun p=>(∀ τ∈hs.drop o.kmin,vreads o.op (evalO env) p.1 τ) ∧
        vopsD (semSpecs P) r (putE env o.dst p.1) hs σ (if hs.length≤o.kmax then (o.kmax,vreads o.op (evalO env) p.1)::pend else pend) R
       else obind (vact o.op (evalO env) σ) fun p=>vopsD (semSpecs P) r (putE env o.dst p.1) hs σ pend R)
      (if o.kind=2 then vpend hs.length σ pend∧vopsD (semSpecs P) r (putE env o.dst undef) (hs++[σ]) σ pend R else vopsD (semSpecs P) r (putE env o.dst undef) hs σ pend R):=fun hfz hro h=>by
     obtain⟨b,hw,h1,h2⟩:=Z10 hG h;rw[hw];refine⟨fun e=>?_,fun e=>?_⟩
     ·obtain⟨u,s',tb',h3,h4,hown,h5⟩:=h1 e;have hro:=hro u h3 (by rw[hw,e]);rw[if_neg hk2,if_pos hk1,h3];refine⟨fun τ hτ=>?_,?_⟩
      ·obtain⟨j,hj⟩:=List.mem_iff_getElem?.1 hτ;rw[List.getElem?_drop] at hj;refine Q3i (hro τ (hbs _ τ hj ?_));simp only[noFz,List.all_eq_true,Bool.or_eq_true,Nat.blt_eq] at hfz ⊢;exact fun a ha=>(hfz a ha).imp (fun h=>by omega) id
      refine Q0d hcs r hkr hB h5 (A:=A) (Rd:=Rd) (hl:=hl) (chg:=chg) (pd:=pd) (by rw[hown];exact hD) (fun c hc=>?_) hbs hch hl0 h4 hK;split at hc
      ·rcases List.mem_cons.1 hc with rfl|hc
       ·exact .inl fun τ hτ=>Q3i (hro τ hτ)
       ·exact hp c hc
      ·exact hp c hc
     ·obtain⟨s',tb',h4,hown,h5⟩:=h2 e;rw[if_neg hk2];exact Q0d hcs r hkr hB h5 (by rw[hown];exact hD) hp hbs hch hl0 h4 hK
    split at h
    ·rename_i hg;cases hr:(rdRo o.op (gev [] s.env)&&noFz A o.kmin) with
     |true =>rw[hr] at h;rw[Bool.and_eq_true] at hr;exact ro hr.2 (fun u hu _=>Z4n hG Gds.nil hr.1 hu) h
     |false =>
     rw[hr] at h;simp only[_root_.cond_false] at h;cases hb:(Nat.ble chg o.kmin||rdStay A o.kmin (rdThing o.op (gev [] s.env) s.own)) with
     |false=>rw[hb] at h;exact h.elim
     |true =>rw[hb] at h;exact rd _ (fun q hq=>hq) hb h
    ·rename_i j want hg;cases hr:(rdRoG s j want o.op&&noFz A o.kmin) with
     |true =>
      rw[hr] at h;rw[Bool.and_eq_true] at hr;obtain⟨hr,hfz⟩:=hr;refine ro hfz (fun u hu hw=>?_) h;unfold rdRoG at hr;split at hr
      ·rename_i gs s1 hgd;obtain⟨tb',hG',htb,b,hw',hb1,hb2⟩:=Q5f hG hgd;rw[hg,hw'] at hw;have e:=osj hw;exact Z4n hG' (fun g hg=>⟨hb1 e g hg,htb g hg⟩) hr hu
      ·cases hr
     |false =>
     rw[hr] at h;simp only[_root_.cond_false] at h;cases hb:Nat.ble chg o.kmin with
     |false=>rw[hb] at h;exact h.elim
     |true =>rw[hb] at h;exact rd none (fun q hq=>by cases hq) (by rw[hb];rfl) h
   ·rw[if_neg hk1] at h;obtain⟨b,hw,h1,h2⟩:=Z10 hG h;rw[hw];refine⟨fun e=>?_,fun e=>?_⟩
    ·obtain⟨u,s',tb',h3,h4,hown,h5⟩:=h1 e;rw[if_neg hk2,if_neg hk1,h3];exact Q0d hcs r hkr hB h5 (by rw[hown];exact hD) hp hbs hch hl0 h4 hK
    ·obtain⟨s',tb',h4,hown,h5⟩:=h2 e;rw[if_neg hk2];exact Q0d hcs r hkr hB h5 (by rw[hown];exact hD) hp hbs hch hl0 h4 hK
def mapP (pl:Nat→Value) (mp:List (Nat×Option Nat)):Nat→Value:=fun t=>match alook mp t with
 |some (some a)=>pl a
 |_=>.slice none 0 0
theorem J77 {h:Heap}{k k':Kind}{x:k.T}{y:k'.T}(e:castEq x y) {cs:List Value}(hk:KC h k' y cs):KC h k x cs:=by
 unfold castEq at e;split at e
 ·rename_i z hz;obtain rfl:=J4e hz;obtain rfl:=J4c hz;subst e;exact hk
 ·exact e.elim
mutual
theorem Q6u {B:Heap}{pl:Nat→Value}{tb:Nat→Option Bool}{mp:List (Nat×Option Nat)}:∀ (p a:SV) (v:Value),svEq mp p a→SR P B pl tb a v→SR P B (mapP pl mp) noTb p v
 |.any,a,v,_,_=>trivial
 |.val k x,a,v,h,hs=>by
  simp only[svEq] at h;split at h
  ·simp only[SR] at hs ⊢;exact J77 h hs
  ·simp only[SR] at hs ⊢;exact J77 h (by simp[KC,hs.1])
  ·split at h
   ·subst h;simp only[SR] at hs ⊢;subst hs;exact⟨_,rfl,.inl ⟨rfl,rfl⟩⟩
   ·exact h.elim
  ·exact h.elim
 |.lst t,a,v,h,hs=>by
  simp only[svEq] at h;split at h
  ·split at h
   ·rename_i e;simp only[SR,mapP,e] at hs ⊢;exact hs
   ·exact h.elim
  ·split at h
   ·rename_i e;simp only[SR,mapP,e] at hs ⊢;exact⟨hs,_,_,_,hs⟩
   ·exact h.elim
  ·exact h.elim
 |.box t off,a,v,h,hs=>by
  simp only[svEq] at h;split at h
  ·split at h
   ·rename_i e;obtain⟨e,rfl⟩:=e;simp only[SR,mapP,e] at hs ⊢;exact hs
   ·exact h.elim
  ·exact h.elim
 |.map t,a,v,h,hs=>by
  simp only[svEq] at h;split at h
  ·split at h
   ·rename_i e;simp only[SR,mapP,e] at hs ⊢;exact hs
   ·exact h.elim
  ·exact h.elim
 |.dd t w,a,v,h,hs=>by
  simp only[svEq] at h;split at h
  ·split at h
   ·simp only[SR] at hs ⊢;simp only[DR];exact .inl ⟨h,hs⟩
   ·split at h
    ·rename_i e;obtain⟨e,rfl⟩:=e;simp only[SR,DR,mapP,e] at hs ⊢;obtain⟨b,h1,h2⟩:=hs;exact .inr ⟨h,b,by rw[h1];rfl,h2⟩
    ·exact h.elim
   ·split at h
    ·split at h
     ·rename_i e;subst h;simp only[SR,DR,mapP,e] at hs ⊢;exact hs
     ·exact h.elim
    ·exact h.elim
   ·exact h.elim
  ·split at h
   ·split at h
    ·split at h
     ·rename_i e;simp only[SR,mapP,e] at hs ⊢;exact hs
     ·exact h.elim
    ·exact h.elim
   ·exact h.elim
  ·split at h
   ·split at h
    ·split at h
     ·rename_i e;simp only[SR,mapP,e] at hs ⊢;exact hs
     ·exact h.elim
    ·exact h.elim
   ·split at h
    ·rename_i e;simp only[SR,mapP,e] at hs ⊢;exact⟨hs,_,_,_,hs⟩
    ·exact h.elim
   ·exact h.elim
  ·exact h.elim
 |.agg l,a,v,h,hs=>by
  simp only[svEq] at h;split at h
  ·rename_i l';simp only[SR] at hs ⊢;obtain⟨cs,h1,h2⟩:=hs;exact⟨cs,h1,Q1h l l' cs h h2⟩
  ·exact h.elim
 |.tup l,a,v,h,hs=>by
  simp only[svEq] at h;split at h
  ·rename_i l';simp only[SR] at hs ⊢;obtain⟨cs,h1,h2⟩:=hs;exact⟨cs,h1,Q1h l l' cs h h2⟩
  ·exact h.elim
 |.fn f x y,a,v,h,hs=>by
  simp only[svEq] at h;split at h
  ·split at h
   ·rename_i e;subst e;simp only[SR] at hs ⊢;obtain⟨cs,ds,h1,h2,h3⟩:=hs;exact⟨cs,ds,h1,Q1h x _ cs h.1 h2,Q1h y _ ds h.2 h3⟩
   ·exact h.elim
  ·exact h.elim
 |.nilS,a,v,h,hs=>by
  simp only[svEq] at h;split at h
  ·simp only[SR] at hs ⊢;exact hs
  ·exact h.elim
 |.nilP,a,v,h,hs=>by
  simp only[svEq] at h;split at h
  ·simp only[SR] at hs ⊢;exact hs
  ·exact h.elim
 |.nilM,a,v,h,hs=>by
  simp only[svEq] at h;split at h
  ·simp only[SR] at hs ⊢;exact hs
  ·exact h.elim
 |.nilF,a,v,h,hs=>by
  simp only[svEq] at h;split at h
  ·simp only[SR] at hs ⊢;exact hs
  ·exact h.elim
 |.cp l off,a,v,h,hs=>by
  simp only[svEq] at h;cases hpu:SVs.pure l with
  |true =>rw[hpu] at h;simp only[_root_.cond_true] at h;obtain⟨rfl,_⟩:=h;simp only[SR] at hs ⊢;obtain⟨b,c,e,wr,t,h1,h2,h3⟩:=hs;exact⟨b,c,e,wr,t,h1,h2,Q10 l c hpu h3⟩
  |false =>
   rw[hpu] at h;simp only[_root_.cond_false] at h;split at h
   ·split at h
    ·rename_i l' off' he;subst he;simp only[SR] at hs ⊢;obtain⟨b,c,e,wr,t,h1,h2,h3⟩:=hs;exact⟨b,c,e,wr,t,h1,h2,Q1h l l' c h h3⟩
    ·exact h.elim
   ·exact h.elim
 |.pf ks r dom p,a,v,h,hs=>by simp only[svEq] at h;subst h;simp only[SR] at hs ⊢;exact hs
 |.sub t lo n sz,a,v,h,hs=>by
  simp only[svEq] at h;split at h
  ·split at h
   ·rename_i e;obtain⟨rfl,rfl,rfl⟩:=h;simp only[SR,mapP,e] at hs ⊢;exact hs
   ·exact h.elim
  ·exact h.elim
 |.elp _ _ _ _,_,_,h,_|.grd _ _,_,_,h,_|.bid _ _,_,_,h,_|.rop _ _ _ _,_,_,h,_=>by simp only[svEq] at h
theorem Q1h {B:Heap}{pl:Nat→Value}{tb:Nat→Option Bool}{mp:List (Nat×Option Nat)}:∀ (p a:List SV) (v:List Value),svEqs mp p a→SRs P B pl tb a v→SRs P B (mapP pl mp) noTb p v
 |[],a,v,h,hs=>by simp only[svEqs] at h;subst h;exact hs
 |s::ss,[],v,h,hs=>by simp only[svEqs] at h
 |s::ss,a::axs,v,h,hs=>by simp only[svEqs] at h;simp only[SRs] at hs ⊢;obtain⟨x,y,h1,h2,h3⟩:=hs;exact⟨x,y,h1,Q6u s a x h.1 h2,Q1h ss axs y h.2 h3⟩
theorem J3j {B:Heap}{pl pl':Nat→Value}{tb tb':Nat→Option Bool}:∀ (s:SV) (v:Value),s.pure=true→SR P B pl tb s v→SR P B pl' tb' s v
 |.any,v,_,_=>trivial
 |.val k x,v,_,h=>by simp only[SR] at h ⊢;exact h
 |.nilS,v,_,h|.nilP,v,_,h|.nilM,v,_,h|.nilF,v,_,h=>by simp only[SR] at h ⊢;exact h
 |.rop k l i off,v,_,h=>by simp only[SR] at h ⊢;exact h
 |.pf ks r dom p,v,_,h=>by simp only[SR] at h ⊢;exact h
 |.agg l,v,hp,h=>by simp only[SR] at h ⊢;obtain⟨cs,h1,h2⟩:=h;exact⟨cs,h1,Q10 l cs hp h2⟩
 |.tup l,v,hp,h=>by simp only[SR] at h ⊢;obtain⟨cs,h1,h2⟩:=h;exact⟨cs,h1,Q10 l cs hp h2⟩
 |.cp l off,v,hp,h=>by simp only[SR] at h ⊢;obtain⟨b,c,e,wr,t,h1,h2,h3⟩:=h;exact⟨b,c,e,wr,t,h1,h2,Q10 l c hp h3⟩
 |.fn f a b,v,hp,h=>by simp only[SV.pure,Bool.and_eq_true] at hp;simp only[SR] at h ⊢;obtain⟨x,y,h1,h2,h3⟩:=h;exact⟨x,y,h1,Q10 a x hp.1 h2,Q10 b y hp.2 h3⟩
 |.lst _,_,h,_|.sub _ _ _ _,_,h,_|.elp _ _ _ _,_,h,_|.box _ _,_,h,_|.map _,_,h,_|.grd _ _,_,h,_|.bid _ _,_,h,_=>by cases h
theorem Q10 {B:Heap}{pl pl':Nat→Value}{tb tb':Nat→Option Bool}:∀ (s:List SV) (v:List Value),SVs.pure s=true→SRs P B pl tb s v→SRs P B pl' tb' s v
 |[],v,_,h=>by simp only[SRs] at h ⊢;exact h
 |s::ss,v,hp,h=>by simp only[SVs.pure,Bool.and_eq_true] at hp;simp only[SRs] at h ⊢;obtain⟨x,y,h1,h2,h3⟩:=h;exact⟨x,y,h1,J3j s x hp.1 h2,Q10 ss y hp.2 h3⟩
end
end
end Go.V
namespace Go.V
open Go
section
variable {P:Program}{B F:Heap}{pl:Nat→Value}{tb:Nat→Option Bool}{s:St}{env:Env}{σ:Heap}
theorem Z20 {k k':Kind}{xs:List k.T}{ys:List k'.T}(h:castEq (k:=.list k) xs (k':=.list k') ys):∃ e:k'=k,e▸ys=xs:=by
 unfold castEq at h;split at h
 ·rename_i z hz;have e:=J4e hz;obtain rfl:=Kind.list.inj e;obtain rfl:=J4c hz;exact⟨rfl,h⟩
 ·exact h.elim
theorem Q0i (hG:Gam P B F pl tb s env σ) {mp:List (Nat×Option Nat)}{t:Nat}{b:OB}(h:obEq s mp t b) :
  OR P B (mapP pl mp) noTb σ (mapP pl mp t) b∧(b.live=true→∀ i,Oid (mapP pl mp t) i→∃ a,alook mp t=some (some a)∧(oget s.own a).live=true∧Oid (pl a) i):=by
 unfold obEq at h;split at h
 ·rename_i a ha;have hpl:mapP pl mp t=pl a:=by simp[mapP,ha]
  rw[hpl];have hob:=hG.obj a;split at h
  ·exact⟨trivial,fun h=>by cases h⟩
  ·rename_i ty k xs nl ty' k' xs' nl' ho;split at h
   ·rename_i e;subst e;obtain⟨h1,rfl⟩:=h;obtain⟨rfl,rfl⟩:=Z20 h1;rw[ho] at hob;exact⟨hob,fun _ i hi=>⟨a,ha,by rw[ho];rfl,hi⟩⟩
   ·exact h.elim
  ·rename_i l u l' u' ho;split at h
   ·rename_i e0;subst e0;rw[ho] at hob;obtain⟨i,c,e,t',h1,h2,h3,h4⟩:=hob;exact⟨⟨i,c,e,t',h1,h2,Q1h l l' c h h3,h4⟩,fun _ i hi=>⟨a,ha,by rw[ho];rfl,hi⟩⟩
   ·exact h.elim
  ·rename_i kk vk m kk' vk' m' ho;split at h
   ·obtain⟨e,h1⟩:=Z20 h;obtain⟨rfl,rfl⟩:=Kind.pair.inj e;subst h1;rw[ho] at hob;exact⟨hob,fun _ i hi=>⟨a,ha,by rw[ho];rfl,hi⟩⟩
   ·exact h.elim
  ·rename_i l vals l' vals' ho;rw[ho] at hob;obtain⟨rfl,h⟩:=h;exact⟨Q1h l l' vals h hob,fun h=>by cases h⟩
  ·rename_i l q u l' q' u' ho;rw[ho] at hob;split at h
   ·obtain⟨rfl,h⟩:=h;exact⟨⟨hob.1,Q1h l l' q.vals h hob.2.1,hob.2.2⟩,fun _ i hi=>⟨a,ha,by rw[ho];rfl,hi⟩⟩
   ·obtain⟨rfl,h⟩:=h;exact⟨⟨hob.1,Q1h l l' q.vals h hob.2.1,hob.2.2⟩,fun h=>by cases h⟩
   ·exact h.elim
  ·rename_i kk vk m dn kk' vk' m' dn' ho;split at h
   ·obtain⟨h,rfl⟩:=h;obtain⟨e,h1⟩:=Z20 h;obtain⟨rfl,rfl⟩:=Kind.pair.inj e;subst h1;rw[ho] at hob;exact⟨hob,fun _ i hi=>⟨a,ha,by rw[ho];rfl,hi⟩⟩
   ·exact h.elim
  ·rename_i ty q k xs nl h0 ty' q' k' xs' nl' h0' ho;split at h
   ·rename_i e;obtain⟨rfl,rfl⟩:=e;split at h
    ·obtain⟨h1,rfl⟩:=h;obtain⟨rfl,rfl⟩:=Z20 h1;rw[ho] at hob;exact⟨hob,fun _ i hi=>⟨a,ha,by rw[ho];rfl,hi⟩⟩
    ·exact h.elim
   ·exact h.elim
  ·exact h.elim
 ·rename_i ha;have hpl:mapP pl mp t=.slice none 0 0:=by simp[mapP,ha]
  rw[hpl];split at h
  ·exact⟨.inl ⟨h.2,h.1,rfl⟩,fun _ i hi=>by cases hi⟩
  ·split at h
   ·obtain⟨rfl,rfl⟩:=h;refine⟨⟨[],fun i=>⟨fun h=>(by cases h),fun ⟨b,h⟩=>(by cases h)⟩,List.nodup_nil,.inl ⟨rfl,rfl,rfl⟩,fun i=>⟨fun ⟨b,h⟩=>(by cases h),fun h=>(by cases h)⟩,(fun i b h=>by cases h),by simp[phd]⟩,fun _ i hi=>by cases hi⟩
   ·exact h.elim
  ·exact h.elim
 ·exact h.elim
theorem Z05 {α:Type _}(l:List (Nat×α)) (t:Nat) (x:α) (d:Nat):alook (l++[(t,x)]) d=match alook l d with|some y=>some y|none=>if t=d then some x else none:=by
 induction l with
 |nil =>
  simp only[List.nil_append,alook];by_cases h:t=d
  ·subst h;simp
  ·rw[Q1v h];simp[h]
 |cons p l ih =>obtain⟨k,y⟩:=p;simp only[List.cons_append,alook,ih];cases Nat.beq k d<;>rfl
theorem J7j {α:Type _}{l:List (Nat×α)}{d:Nat}{x:α}(h:alook l d=some x):∃ p∈l,p.1=d∧p.2=x:=by
 induction l with
 |nil=>cases h
 |cons p l ih =>
  obtain⟨k,y⟩:=p;simp only[alook] at h;cases hb:Nat.beq k d with
  |true=>rw[hb] at h;obtain rfl:=osj h;exact⟨_,List.mem_cons_self,Nat.eq_of_beq_eq_true hb,rfl⟩
  |false =>rw[hb] at h;obtain⟨p,h1,h2⟩:=ih h;exact⟨p,List.mem_cons_of_mem _ h1,h2⟩
def Inj (mp:List (Nat×Option Nat)):Prop:=∀ t t' a,alook mp t=some (some a)→alook mp t'=some (some a)→t=t'
theorem Z9y:∀ (l:List (Nat×Src)) (mp mp':List (Nat×Option Nat)),gmap s l mp=some mp'→Inj mp→Inj mp'
 |[],mp,mp',h,hi=>by obtain rfl:=osj h;exact hi
 |(t,src)::r,mp,mp',h,hi=>by
  simp only[gmap] at h;split at h
  ·rename_i a _;split at h
   ·cases h
   ·rename_i hc;refine Z9y r _ _ h ?_;have hfr:∀ d,alook mp d≠some (some a):=fun d hd=>by
     obtain⟨p,h1,h2,h3⟩:=J7j hd;apply hc;simp only[Bool.or_eq_true];exact .inl (List.any_eq_true.2 ⟨p,h1,by rw[h3];simp⟩)
    intro t1 t2 a' h1 h2;rw[Z05] at h1 h2;split at h1
    ·rename_i y1 e1;split at h2
     ·rename_i y2 e2;obtain rfl:=osj h1;obtain rfl:=osj h2;exact hi t1 t2 a' e1 e2
     ·split at h2
      ·obtain rfl:=osj (osj h2);obtain rfl:=osj h1;exact absurd e1 (hfr t1)
      ·cases h2
    ·split at h1
     ·rename_i e1;obtain rfl:=osj (osj h1);split at h2
      ·rename_i y2 e2;obtain rfl:=osj h2;exact absurd e2 (hfr t2)
      ·split at h2
       ·rename_i e2;omega
       ·cases h2
     ·cases h1
  ·split at h
   ·cases h
   ·refine Z9y r _ _ h ?_;intro t1 t2 a' h1 h2;rw[Z05] at h1 h2;split at h1
    ·rename_i y1 e1;split at h2
     ·rename_i y2 e2;obtain rfl:=osj h1;obtain rfl:=osj h2;exact hi t1 t2 a' e1 e2
     ·split at h2<;>cases h2
    ·split at h1<;>cases h1
  ·cases h
theorem J51 {mp:List (Nat×Option Nat)}:∀ {ow:List (Nat×Src×OB)},gmatch.obs s mp ow→∀ p∈ow,obEq s mp p.1 p.2.2
 |[],_,p,hp=>by cases hp
 |(t,src,b)::r,h,p,hp=>by
  simp only[gmatch.obs] at h;rcases List.mem_cons.1 hp with rfl|hp
  ·exact h.1
  ·exact J51 h.2 p hp
theorem Z1f {f:List (Nat×Src×OB)}:∀ (own:Own) (t:Nat),(∃ p∈f,p.1=t∧oget (f.foldl (fun o p=>oset o p.1 p.2.2) own) t=p.2.2)∨oget (f.foldl (fun o p=>oset o p.1 p.2.2) own) t=oget own t:=by
 induction f with
 |nil=>intro own t;exact .inr rfl
 |cons p f ih =>
  intro own t;simp only[List.foldl_cons];rcases ih (oset own p.1 p.2.2) t with⟨q,h1,h2⟩|h
  ·exact .inl ⟨q,List.mem_cons_of_mem _ h1,h2⟩
  ·rw[h,Q09];by_cases e:t=p.1
   ·rw[if_pos e];exact .inl ⟨p,List.mem_cons_self,e.symm,rfl⟩
   ·rw[if_neg e];exact .inr rfl
theorem J0r (hG:Gam P B F pl tb s env σ) {mp:List (Nat×Option Nat)}:∀ (st:List (Nat×SV)) {e:List SV}{eV:Env},gmatch.slots s mp st→SRs P B (mapP pl mp) noTb e eV→SRs P B (mapP pl mp) noTb (st.foldl (fun e p=>e.set p.1 p.2) e) (spreadE (st.map (·.1)) (pickE (st.map (·.1)) env) eV)
 |[],e,eV,_,h=>h
 |(j,v)::r,e,eV,hs,h=>by simp only[gmatch.slots] at hs;simp only[List.foldl_cons,List.map_cons,pickE,spreadE];exact J0r hG r hs.2 (h.set j (Q6u v _ _ hs.1 (hG.env.getD j poison)))
theorem X33 {B:Heap}{pl:Nat→Value}{tb:Nat→Option Bool}:∀ n,SRs P B pl tb (List.replicate n .any) (List.replicate n poison)
 |0=>by simp[SRs]
 |n+1=>by simp only[List.replicate_succ,SRs];exact⟨_,_,rfl,by simp[SR],X33 n⟩
theorem Z8w {B0 F0 D0:Heap}(hR:GRel P B0 F0 D0 s env σ) {st:List (Nat×SV)}{ow:List (Nat×Src×OB)}(h:gmatch s st ow) (len:Nat):GRel P B0 F0 D0 (gstate len st ow) (spreadE (st.map (·.1)) (pickE (st.map (·.1)) env) (List.replicate len poison)) σ:=by
 obtain⟨B,F,pl,tb,hB,hG⟩:=hR;unfold gmatch at h;split at h
 ·rename_i mp hmp;obtain⟨h1,h2⟩:=h;have hinj:=Z9y _ _ _ hmp (fun t t' a h=>by cases h);have hmem:=J51 h2;have hob:∀ t,(oget (gstate len st ow).own t).live=true→obEq s mp t (oget (gstate len st ow).own t):=fun t hl=>by
   rcases Z1f (f:=ow) [] t with⟨p,h3,h4,h5⟩|h3
   ·have:=hmem p h3;rw[h4,←h5] at this;exact this
   ·simp only[gstate] at hl;rw[h3] at hl;cases hl
  refine⟨B,F,mapP pl mp,noTb,hB,hG.bf,hG.le,J0r hG st h1 (X33 len),fun t=>?_,fun t i hl hi=>?_,fun t t' i hne hl hl' hi hi'=>?_,fun _ _=>rfl⟩
  ·cases hl:(oget (gstate len st ow).own t).live with
   |true=>exact(Q0i hG (hob t hl)).1
   |false =>
    cases ho:oget (gstate len st ow).own t with
    |dead=>trivial
    |stk l vals =>
     rcases Z1f (f:=ow) [] t with⟨p,h3,h4,h5⟩|h3
     ·have:=hmem p h3;simp only[gstate] at ho;rw[←h5,ho] at this;have h6:=(Q0i hG this).1;rw[h4] at h6;exact h6
     ·simp only[gstate] at ho;rw[h3] at ho;cases ho
    |lpf l q u =>
     rcases Z1f (f:=ow) [] t with⟨p,h3,h4,h5⟩|h3
     ·have:=hmem p h3;simp only[gstate] at ho;rw[←h5,ho] at this;have h6:=(Q0i hG this).1;rw[h4] at h6;exact h6
     ·simp only[gstate] at ho;rw[h3] at ho;cases ho
    |_=>rw[ho] at hl;cases hl
  ·obtain⟨a,_,h4,h5⟩:=(Q0i hG (hob t hl)).2 hl i hi;exact hG.fresh a i h4 h5
  ·obtain⟨a,e1,h4,h5⟩:=(Q0i hG (hob t hl)).2 hl i hi;obtain⟨a',e2,h4',h5'⟩:=(Q0i hG (hob t' hl')).2 hl' i hi';by_cases e:a=a'
   ·subst e;exact hne (hinj t t' a e1 e2)
   ·exact hG.sep a a' i e h4 h4' h5 h5'
 ·exact h.elim
theorem Z8b:∀ {caps caps':List SV}{vs:List Value}{B F:Heap}{s s':St},Gam P B F pl tb s env σ→SRs P B pl tb caps vs→gfrz s caps=some (s',caps') →
  ∃ B' F',GBase B F σ B' F' σ∧Gam P B' F' pl tb s' env σ∧SRs P B' noPl noTb caps' vs∧s'.env=s.env
 |[],caps',vs,B,F,s,s',hG,hs,h=>by simp only[gfrz,Option.some.injEq,Prod.mk.injEq] at h;obtain⟨rfl,rfl⟩:=h;exact⟨B,F,.of hG.bf (.refl _),hG,hs,rfl⟩
 |v::caps,caps',vs,B,F,s,s',hG,hs,h=>by
  simp only[SRs] at hs;obtain⟨u,us,rfl,h1,h2⟩:=hs
  have pureC:∀ w:SV,SR P B pl tb w u→(bif w.pure then (match gfrz s caps with|some (s',r)=>some (s',w::r)|none=>none) else none)=some (s',caps') →
    ∃ B' F',GBase B F σ B' F' σ∧Gam P B' F' pl tb s' env σ∧SRs P B' noPl noTb caps' (u::us)∧s'.env=s.env:=fun w hw h=>by
   cases hp:w.pure with
   |false=>rw[hp] at h;cases h
   |true =>
    rw[hp] at h;simp only[_root_.cond_true] at h;split at h
    ·rename_i s1 r heq;simp only[Option.some.injEq,Prod.mk.injEq] at h;obtain⟨rfl,rfl⟩:=h;obtain⟨B',F',k1,k2,k3,k4⟩:=Z8b hG h2 heq;exact⟨B',F',k1,k2,by simp only[SRs];exact⟨u,us,rfl,SR.mono k1.b (fun _ _ h=>h) _ _ (J3j w u hp hw),k3⟩,k4⟩
    ·cases h
  simp only[gfrz] at h;split at h
  ·rename_i o;split at h
   ·rename_i l _ ho;cases hp:SVs.pure l with
    |false=>rw[hp] at h;cases h
    |true =>
     rw[hp] at h;simp only[_root_.cond_true] at h;split at h
     ·rename_i s1 r heq;simp only[Option.some.injEq,Prod.mk.injEq] at h;obtain⟨rfl,rfl⟩:=h;have hob:=hG.obj o;rw[ho] at hob;obtain⟨i,c,e,t,e1,e2,e3,_⟩:=hob;obtain⟨k1,k2⟩:=hG.freeze (o:=o) (i:=i) (by rw[ho];rfl) (by rw[e1];rfl);obtain⟨B',F',j1,j2,j3,j4⟩:=Z8b k2 (SRs.mono k1.b (fun _ _ h=>h) _ _ h2) heq;refine⟨B',F',k1.trans j1,j2,?_,j4⟩;simp only[SRs];refine⟨u,us,rfl,?_,j3⟩;simp only[SR] at h1 ⊢;obtain⟨b,q1,q2⟩:=h1;rw[e1] at q1;obtain rfl:i=b:=by simpa using q1
      refine⟨i,c,e,true,t,j1.b.2 _ _ ?_,q2,SRs.mono (k1.trans j1).b (fun _ _ h=>h) _ _ (Q10 l c hp e3)⟩;rw[Heap.ins_self];exact e2
     ·cases h
   ·cases h
  ·exact pureC _ h1 h
theorem Gam.lpUpd (hG:Gam P B F pl tb s env σ) {n:Nat}{b b0:Blk}(hF:F.get n=some b0) (hB:B.get n=none):Gam P B (F.upd n b) pl tb s env (σ.upd n b):=by
 have hne:∀ {d i},(oget s.own d).live=true→Oid (pl d) i→i≠n:=fun h1 h2 e=>by have:=hG.fresh _ _ h1 h2;subst e;rw[hF] at this;cases this
 refine⟨⟨hG.bf.1,fun i c hc=>?_⟩,⟨hG.le.1,fun i c hc=>?_⟩,hG.env,fun d=>(hG.obj d).mono (.refl _) (fun _ _ h=>h) fun h1 i h2=>Heap.get_upd_ne _ _ (hne h1 h2),fun d i h1 h2=>?_,hG.sep,hG.free⟩
 ·have:i≠n:=by rintro rfl;rw[hB] at hc;cases hc
  rw[Heap.get_upd_ne _ _ this];exact hG.bf.2 _ _ hc
 ·by_cases e:i=n
  ·subst e;rw[Heap.get_upd_self _ _ (F.lt hF)] at hc;rw[Heap.get_upd_self _ _ (Nat.lt_of_lt_of_le (F.lt hF) hG.le.1)];exact hc
  ·rw[Heap.get_upd_ne _ _ e] at hc ⊢;exact hG.le.2 _ _ hc
 ·rw[Heap.get_upd_ne _ _ (hne h1 h2)];exact hG.fresh _ _ h1 h2
theorem Gam.lpKill (hG:Gam P B F pl tb s env σ) {n:Nat}{b0:Blk}(hF:F.get n=some b0) (hB:B.get n=none):Gam P B (F.kill n) pl tb s env (σ.kill n):=by
 have hne:∀ {d i},(oget s.own d).live=true→Oid (pl d) i→i≠n:=fun h1 h2 e=>by have:=hG.fresh _ _ h1 h2;subst e;rw[hF] at this;cases this
 refine⟨⟨hG.bf.1,fun i c hc=>?_⟩,⟨hG.le.1,fun i c hc=>?_⟩,hG.env,fun d=>(hG.obj d).mono (.refl _) (fun _ _ h=>h) fun h1 i h2=>Heap.get_kill_ne _ (hne h1 h2),fun d i h1 h2=>?_,hG.sep,hG.free⟩
 ·have:i≠n:=by rintro rfl;rw[hB] at hc;cases hc
  rw[Heap.get_kill_ne _ this];exact hG.bf.2 _ _ hc
 ·by_cases e:i=n
  ·subst e;rw[Heap.get_kill_self] at hc;cases hc
  ·rw[Heap.get_kill_ne _ e] at hc ⊢;exact hG.le.2 _ _ hc
 ·rw[Heap.get_kill_ne _ (hne h1 h2)];exact hG.fresh _ _ h1 h2
theorem GRel.lpUpd {B1 F1 D0:Heap}(h:GRel P B1 F1 D0 s env σ) {n:Nat}{b b0:Blk}(hF:F1.get n=some b0) (hB:B1.get n=none):GRel P B1 (F1.upd n b) D0 s env (σ.upd n b):=by
 obtain⟨B,F,pl,tb,hB',hG⟩:=h;have hF2:=hB'.f.2 _ _ hF;have hB2:=hB'.x _ _ hF hB;refine⟨B,F.upd n b,pl,tb,⟨hB'.b,⟨hB'.f.1,fun i c hc=>?_⟩,fun i c h1 h2=>?_,⟨hB'.d.1,fun i h1 h2=>?_⟩⟩,hG.lpUpd hF2 hB2⟩
 ·by_cases e:i=n
  ·subst e;rw[Heap.get_upd_self _ _ (F1.lt hF)] at hc;rw[Heap.get_upd_self _ _ (F.lt hF2)];exact hc
  ·rw[Heap.get_upd_ne _ _ e] at hc ⊢;exact hB'.f.2 _ _ hc
 ·by_cases e:i=n
  ·subst e;exact hB2
  ·rw[Heap.get_upd_ne _ _ e] at h1;exact hB'.x _ _ h1 h2
 ·have hd:=hB'.d.2 i h1 h2;have:i≠n:=by rintro rfl;rw[hG.le.2 _ _ hF2] at hd;cases hd
  rw[Heap.get_upd_ne _ _ this];exact hd
theorem GRel.lpKill {B1 F1 D0:Heap}(h:GRel P B1 F1 D0 s env σ) {n:Nat}{b0:Blk}(hF:F1.get n=some b0) (hB:B1.get n=none):GRel P B1 (F1.kill n) D0 s env (σ.kill n):=by
 obtain⟨B,F,pl,tb,hB',hG⟩:=h;have hF2:=hB'.f.2 _ _ hF;have hB2:=hB'.x _ _ hF hB;refine⟨B,F.kill n,pl,tb,⟨hB'.b,⟨hB'.f.1,fun i c hc=>?_⟩,fun i c h1 h2=>?_,⟨hB'.d.1,fun i h1 h2=>?_⟩⟩,hG.lpKill hF2 hB2⟩
 ·by_cases e:i=n
  ·subst e;rw[Heap.get_kill_self] at hc;cases hc
  ·rw[Heap.get_kill_ne _ e] at hc ⊢;exact hB'.f.2 _ _ hc
 ·by_cases e:i=n
  ·subst e;exact hB2
  ·rw[Heap.get_kill_ne _ e] at h1;exact hB'.x _ _ h1 h2
 ·have hd:=hB'.d.2 i h1 h2;by_cases e:i=n
  ·subst e;exact Heap.get_kill_self _ _
  ·rw[Heap.get_kill_ne _ e];exact hd
theorem GRel.base {B0 F0 B1 F1 D0:Heap}(h:GRel P B1 F1 D0 s env σ) (hb:B0.Le B1) (hf:F0.Le F1) (hx:∀ i b,F0.get i=some b→B0.get i=none→B1.get i=none):GRel P B0 F0 D0 s env σ:=by obtain⟨B,F,pl,tb,hB',hG⟩:=h;exact⟨B,F,pl,tb,⟨hb.trans hB'.b,hf.trans hB'.f,fun i b h1 h2=>hB'.x i b (hf.2 _ _ h1) (hx i b h1 h2),hB'.d⟩,hG⟩
theorem Z92 (hG:Gam P B F pl tb s env σ) {mp:List (Nat×Option Nat)}:∀ (st:List (Nat×SV)) {e:List SV},gmatch.slots s mp st→SRs P B (mapP pl mp) noTb e env→SRs P B (mapP pl mp) noTb (st.foldl (fun e p=>e.set p.1 p.2) e) env
 |[],e,_,h=>h
 |(j,v)::r,e,hs,h=>by
  simp only[gmatch.slots] at hs;simp only[List.foldl_cons];refine Z92 hG r hs.2 ?_;have:=h.set j (Q6u v _ _ hs.1 (hG.env.getD j poison));by_cases hj:j<env.length
  ·rwa [List.getD_eq_getElem?_getD,List.getElem?_eq_getElem hj,Option.getD_some,List.set_getElem_self] at this
  ·rw[List.set_eq_of_length_le (by rw[h.length];omega)];exact h
theorem X0f {B:Heap}{pl:Nat→Value}{tb:Nat→Option Bool}:∀ (env:Env),SRs P B pl tb (List.replicate (List.length env) .any) env
 |[]=>by simp[SRs]
 |v::env=>by simp only[List.length_cons,List.replicate_succ,SRs];exact⟨_,_,rfl,by simp[SR],X0f env⟩
theorem Z26 {B0 F0 D0:Heap}(hR:GRel P B0 F0 D0 s env σ) {st:List (Nat×SV)}{ow:List (Nat×Src×OB)}(h:gmatch s st ow):GRel P B0 F0 D0 (gstate (List.length env) st ow) env σ:=by
 obtain⟨B,F,pl,tb,hB,hG⟩:=hR;unfold gmatch at h;split at h
 ·rename_i mp hmp;obtain⟨h1,h2⟩:=h;have hinj:=Z9y _ _ _ hmp (fun t t' a h=>by cases h);have hmem:=J51 h2;have hob:∀ t,(oget (gstate (List.length env) st ow).own t).live=true→obEq s mp t (oget (gstate (List.length env) st ow).own t):=fun t hl=>by
   rcases Z1f (f:=ow) [] t with⟨p,h3,h4,h5⟩|h3
   ·have:=hmem p h3;rw[h4,←h5] at this;exact this
   ·simp only[gstate] at hl;rw[h3] at hl;cases hl
  refine⟨B,F,mapP pl mp,noTb,hB,hG.bf,hG.le,Z92 hG st h1 (X0f env),fun t=>?_,fun t i hl hi=>?_,fun t t' i hne hl hl' hi hi'=>?_,fun _ _=>rfl⟩
  ·cases hl:(oget (gstate (List.length env) st ow).own t).live with
   |true=>exact(Q0i hG (hob t hl)).1
   |false =>
    cases ho:oget (gstate (List.length env) st ow).own t with
    |dead=>trivial
    |stk l vals =>
     rcases Z1f (f:=ow) [] t with⟨p,h3,h4,h5⟩|h3
     ·have:=hmem p h3;simp only[gstate] at ho;rw[←h5,ho] at this;have h6:=(Q0i hG this).1;rw[h4] at h6;exact h6
     ·simp only[gstate] at ho;rw[h3] at ho;cases ho
    |lpf l q u =>
     rcases Z1f (f:=ow) [] t with⟨p,h3,h4,h5⟩|h3
     ·have:=hmem p h3;simp only[gstate] at ho;rw[←h5,ho] at this;have h6:=(Q0i hG this).1;rw[h4] at h6;exact h6
     ·simp only[gstate] at ho;rw[h3] at ho;cases ho
    |_=>rw[ho] at hl;cases hl
  ·obtain⟨a,_,h4,h5⟩:=(Q0i hG (hob t hl)).2 hl i hi;exact hG.fresh a i h4 h5
  ·obtain⟨a,e1,h4,h5⟩:=(Q0i hG (hob t hl)).2 hl i hi;obtain⟨a',e2,h4',h5'⟩:=(Q0i hG (hob t' hl')).2 hl' i hi';by_cases e:a=a'
   ·subst e;exact hne (hinj t t' a e1 e2)
   ·exact hG.sep a a' i e h4 h4' h5 h5'
 ·exact h.elim
theorem J55 {α:Type}{o:Option α}{f:α→Prop}(h:obind o f):∃ a,f a:=by
 cases o with
 |none=>exact h.elim
 |some a=>exact⟨a,h⟩
theorem COk.nx {C:Cx}(h:COk P C):COk P C.nx:=⟨h.cs,fun f x hx=>(by cases hx),h.it,h.yl,h.iy,fun f j _ x hx=>(by cases hx)⟩
theorem Q6v {S:VSpecs}{Q:Prop}:∀ {ops:List DOper}{env:Env}{hs:List Heap}{σ:Heap}{pend:List (Nat×(Heap→Prop))},vopsDX S ops env hs σ pend (fun _ _=>Q)→Q
 |[],_,_,_,_,h=>h
 |o::r,env,hs,σ,pend,h=>by
  simp only[vopsDX] at h;obtain⟨b,h⟩:=J55 h;cases b with
  |true =>
   have h:=h.1 rfl;split at h
   ·obtain⟨v,σ',_,_,h⟩:=h;exact Q6v h
   ·split at h
    ·obtain⟨p,_,h⟩:=J55 h;exact Q6v h
    ·obtain⟨p,h⟩:=J55 h;exact Q6v h
  |false =>
   have h:=h.2 rfl;split at h
   ·exact Q6v h.2
   ·exact Q6v h
theorem J25 {C:Cx}{s:St}{st:List (Nat×SV)}{ow:List (Nat×Src×OB)}{Q:Prop}:∀ (ls:List (List DOper)),galts C ls s st ow Q→(∀ l∈ls,gopsD C.nx l s 1 0 [] [] fun s'=>gmatchN s.env.length s' st ow)∧Q
 |[],h=>⟨fun l hl=>(by cases hl),h⟩
 |l::ls,h=>by obtain⟨h1,h2⟩:=h;obtain⟨h3,h4⟩:=J25 ls h2;exact⟨fun l' hl'=>(List.mem_cons.1 hl').elim (fun e=>e▸h1) (h3 l'),h4⟩
theorem Z1r {B0 F0 D0:Heap}{s:St}{env:Env}{σ:Heap}{n:Nat}(hR:GRel P B0 F0 D0 s env σ) {st:List (Nat×SV)}{ow:List (Nat×Src×OB)}(h:gmatchN n s st ow):GRel P B0 F0 D0 (gstate n st ow) env σ:=by
 unfold gmatchN at h;cases hb:Nat.beq s.env.length n with
 |false=>rw[hb] at h;exact h.elim
 |true =>
  rw[hb] at h;have hl:env.length=n:=by rw[←Nat.eq_of_beq_eq_true hb];obtain⟨_,_,_,_,_,hG⟩:=hR;exact hG.env.length.symm
  rw[←hl];exact Z26 hR h
theorem Q6r {C:Cx}(hcs:COk P C) {B0 F0 D0:Heap}:∀ (segs:List DSeg) {s:St}{env:Env}{σ:Heap},GRel P B0 F0 D0 s env σ→∀ {K:St→Prop},gsegs C segs s K→∀ {R:Env→Heap→Prop},(∀ s' env' σ',K s'→GRel P B0 F0 D0 s' env' σ'→R env' σ')→vsegs (semSpecs P) segs env σ R
 |[],s,env,σ,hR,K,h,R,hK=>hK s env σ h hR
 |.one o::r,s,env,σ,hR,K,h,R,hK=>by refine Z4l hcs [o] hR (K:=fun s'=>gsegs C r s' K) h fun s' env' σ' h1 h2=>?_;exact Q6r hcs r h2 h1 hK
 |.alts [l]::r,s,env,σ,hR,K,h,R,hK=>by
  simp only[gsegs] at h;cases hd:dquiet l with
  |false =>
   rw[hd] at h;simp only[_root_.cond_false] at h;cases hk:l.all (fun o=>o.kind==o.op.kind) with
   |false=>rw[hk] at h;exact h.elim
   |true =>
    rw[hk] at h;simp only[_root_.cond_true] at h;intro ops ho;obtain rfl:=List.mem_singleton.1 ho;obtain⟨B,F,pl,tb,hB,hG⟩:=hR;have one:∀ (j:Nat) (τ:Heap),([σ]:List Heap)[j]?=some τ→τ=σ:=fun j τ ht=>by
     cases j with
     |zero=>simpa using ht.symm
     |succ j=>simp at ht
    exact Q0d hcs ops (fun o ho=>by simpa using List.all_eq_true.1 hk o ho) hB hG (hl:=1) (chg:=0) (A:=[]) (Rd:=[]) ⟨rfl,fun j τ _ ht=>one j τ ht,(fun c hc=>absurd hc (by simp)),fun j τ q i ht _ _ _=>by rw[one j τ ht]⟩ (pend:=[]) (pd:=[]) (fun c hc=>absurd hc (by simp)) (fun j τ ht _=>by rw[one j τ ht];exact hG.leB) (Nat.zero_le _) (Nat.succ_pos _) h fun s' env' σ' h1 h2=>⟨env',σ',.refl _ _ _,Q6r hcs r h2 h1 hK⟩
  |true =>rw[hd] at h;refine X2b (l:=l) hd ?_;exact Z4l hcs _ hR h fun s' env' σ' h1 h2=>Q6r hcs r h2 h1 hK
 |.alts []::r,s,env,σ,hR,K,h,R,hK=>h.elim
 |.alts (l::l2::ls)::r,s,env,σ,hR,K,h,R,hK=>by
  simp only[gsegs] at h;cases hk:(l::l2::ls).all (fun l=>l.all fun o=>o.kind==o.op.kind) with
  |false=>rw[hk] at h;exact h.elim
  |true =>
   rw[hk] at h;simp only[_root_.cond_true] at h;obtain⟨B,F,pl,tb,hB,hG⟩:=hR;have one:∀ (j:Nat) (τ:Heap),([σ]:List Heap)[j]?=some τ→τ=σ:=fun j τ ht=>by
    cases j with
    |zero=>simpa using ht.symm
    |succ j=>simp at ht
   have run:∀ l'∈l::l2::ls,∀ {K':St→Prop},gopsD C.nx l' s 1 0 [] [] K'→∀ {R':Env→Heap→Prop},(∀ s' env' σ',K' s'→GRel P B0 F0 D0 s' env' σ'→R' env' σ')→vopsDX (semSpecs P) l' env [σ] σ [] R':=fun l' hl' K' h' R' hK' =>
    Q0b hcs.nx rfl l' (fun o ho=>by simpa using List.all_eq_true.1 (List.all_eq_true.1 hk l' hl') o ho) hB hG (hl:=1) (chg:=0) (A:=[]) (Rd:=[]) ⟨rfl,fun j τ _ ht=>one j τ ht,(fun c hc=>absurd hc (by simp)),fun j τ q i ht _ _ _=>by rw[one j τ ht]⟩ (pend:=[]) (pd:=[]) (fun c hc=>absurd hc (by simp)) (fun j τ ht _=>by rw[one j τ ht];exact hG.leB) (Nat.zero_le _) (Nat.succ_pos _) h' hK'
   obtain⟨s0,h0,h1⟩:=Q6v (run l List.mem_cons_self h (R':=fun _ _=>∃ s0:St,_) fun s' _ _ h' _=>⟨s',h'⟩);obtain⟨h2,h3⟩:=J25 _ h1;intro ops ho;rcases List.mem_cons.1 ho with rfl|ho'
   ·refine Q6y ?_;exact run ops ho h fun s' env' σ' h' hR'=>⟨env',σ',.refl _ _ _,by
     obtain⟨k1,k2⟩:=h';exact Q6r hcs r (Z1r hR' k1) (J25 _ k2).2 hK⟩
   ·refine Q6y ?_;exact run ops ho (h2 ops ho') fun s' env' σ' h' hR'=>⟨env',σ',.refl _ _ _,Q6r hcs r (Z1r hR' h') h3 hK⟩
theorem J1m:∀ (l:List Nat) (vs:List SV),(zipG l vs).map (·.1)=l
 |[],_=>rfl
 |j::js,[]=>by simp[zipG,J1m js []]
 |j::js,v::vs=>by simp[zipG,J1m js vs]
theorem Z3x {B:Heap}{pl:Nat→Value}{tb:Nat→Option Bool}:∀ {ps:List Nat}{xs:List SV}{us:List Value}{e:List SV}{env:Env},SRs P B pl tb xs us→SRs P B pl tb e env→SRs P B pl tb (gsetPs e ps xs) (setPs env ps us)
 |[],xs,us,e,env,_,h=>by simpa [gsetPs,setPs] using h
 |p::ps,[],us,e,env,hx,h=>by simp only[SRs] at hx;subst hx;simpa [gsetPs,setPs] using h
 |p::ps,x::xs,us,e,env,hx,h=>by simp only[SRs] at hx;obtain⟨u,us',rfl,h1,h2⟩:=hx;simp only[gsetPs,setPs];exact Z3x h2 (h.set p h1)
def InLpF (F0:Heap):Option Nat→Prop
 |none=>True
 |some i=>∃ env r st pend,F0.get i=some (.obj (.lp env r st pend) true)
theorem Gam.dropLp {B F:Heap}{pl:Nat→Value}{tb:Nat→Option Bool}{s:St}{env:Env}{σ:Heap}(hG:Gam P B F pl tb s env σ) {o:Nat}{l:List SV}{q:LpD}{u:LpS}(ho:oget s.own o=.lpf l q u) (hl:u.live=true) :
  Gam P B F pl tb ⟨l,oset s.own o .dead,s.nx⟩ q.vals (σ.kill q.i)∧σ.get q.i=some (.obj (.lp q.vals q.r u.st u.pend) true):=by
 have hob:=hG.obj o;rw[ho] at hob;obtain⟨h1,h2,h3⟩:=hob;have hol:(oget s.own o).live=true:=by rw[ho];exact hl
 have hoi:Oid (pl o) q.i:=by rw[h1];rfl
 have hF:=hG.fresh o q.i hol hoi;have lv:∀ d,(oget (oset s.own o .dead) d).live=true→d≠o∧(oget s.own d).live=true:=fun d h=>by
  rw[Q09] at h;by_cases e:d=o
  ·rw[if_pos e] at h;cases h
  ·rw[if_neg e] at h;exact⟨e,h⟩
 refine⟨⟨hG.bf,⟨hG.le.1,fun j b hb=>?_⟩,h2,fun d=>?_,fun d i hd hi=>hG.fresh d i (lv d hd).2 hi,fun d d' i e h h'=>hG.sep d d' i e (lv d h).2 (lv d' h').2,hG.free⟩,h3 hl⟩
 ·have e:j≠q.i:=by rintro rfl;rw[hF] at hb;cases hb
  rw[Heap.get_kill_ne _ e];exact hG.le.2 _ _ hb
 ·rw[Q09];by_cases e:d=o
  ·rw[if_pos e];trivial
  ·rw[if_neg e];refine (hG.obj d).mono (.refl _) (fun _ _ h=>h) fun hd i hi=>?_;have:i≠q.i:=by rintro rfl;exact hG.sep d o q.i e hd hol hi hoi
   exact Heap.get_kill_ne _ this
theorem X3y (s:St) (o:Nat) (b:OB) (j:Nat):oget (s.make o b).own j=if j=o then b else (oget s.own j).kill o:=by
 simp only[St.make,Q09];by_cases h:j=o
 ·subst h;simp
 ·simp only[h,if_false,St.kill,Q8s]
theorem Gam.enterLp {B F:Heap}{pl:Nat→Value}{tb:Nat→Option Bool}{s:St}{env:Env}{σ:Heap}(hG:Gam P B F pl tb s env σ) {o key2:Nat}{l:List SV}{q:LpD}(ho:oget s.own o=.lpf l q .rdy) (hne:o≠key2)
  {args:List SV}{us:List Value}(hargs:SRs P B pl tb args us) (ps:List Nat) :
  Gam P B (F.ins σ q.i hG.le.1) (updP pl key2 poison) tb ⟨gsetPs (SVs.kill key2 l) ps (SVs.kill key2 args),oset (gstk key2 env s).own o (.lpf (SVs.kill key2 l) q .busy),s.nx⟩ (setPs q.vals ps us) σ:=by
 have q3:Gam P B F (updP pl key2 poison) tb (gstk key2 env s) env σ:=by refine hG.make key2 _ poison hG.le (fun _ _ _ _ _=>rfl) ?_ (fun i hl _=>by cases hl);exact SRs.upd (.refl _) (fun _ _ h=>h) (fun j hj=>by simp[updP,hj]) _ _ hG.env
 have hob:=hG.obj o;rw[ho] at hob;obtain⟨h1,h2,h3⟩:=hob;have hol:(oget s.own o).live=true:=by rw[ho];rfl
 have hpo:updP pl key2 poison o=.pointer (some ⟨q.i,0,none⟩):=by simp[updP,hne,h1]
 have ho3:oget (gstk key2 env s).own o=.lpf (SVs.kill key2 l) q .rdy:=by have:=X3y s key2 (.stk (SVs.kill key2 s.env) env) o;unfold gstk;rw[this,if_neg hne,ho];rfl
 have hol3:(oget (gstk key2 env s).own o).live=true:=by rw[ho3];rfl
 have hoi:Oid (updP pl key2 poison o) q.i:=by rw[hpo];rfl
 have hF:=q3.fresh o q.i hol3 hoi;have hl2:SRs P B (updP pl key2 poison) tb (SVs.kill key2 l) q.vals:=SRs.upd (.refl _) (fun _ _ h=>h) (fun j hj=>by simp[updP,hj]) _ _ h2;have ha2:SRs P B (updP pl key2 poison) tb (SVs.kill key2 args) us:=SRs.upd (.refl _) (fun _ _ h=>h) (fun j hj=>by simp[updP,hj]) _ _ hargs;have lv:∀ d,(oget (oset (gstk key2 env s).own o (.lpf (SVs.kill key2 l) q .busy)) d).live=true→d≠o∧(oget (gstk key2 env s).own d).live=true:=fun d h=>by
  rw[Q09] at h;by_cases e:d=o
  ·rw[if_pos e] at h;cases h
  ·rw[if_neg e] at h;exact⟨e,h⟩
 refine⟨q3.bf.trans (hG.le.ins _),hG.le.ins_le _,Z3x ha2 hl2,fun d=>?_,fun d i hd hi=>?_,fun d d' i e h h'=>q3.sep d d' i e (lv d h).2 (lv d' h').2,q3.free⟩
 ·show OR P B _ tb σ _ (oget (oset _ o _) d);rw[Q09];by_cases e:d=o
  ·subst e;rw[if_pos rfl];exact⟨hpo,hl2,fun h=>by cases h⟩
  ·rw[if_neg e];exact q3.obj d
 ·obtain⟨e,hd'⟩:=lv d hd;have:i≠q.i:=by rintro rfl;exact q3.sep d o q.i e hd' hol3 hi hoi
  rw[Heap.ins_ne _ _ _ this];exact q3.fresh d i hd' hi
theorem Gam.leaveLp {B F:Heap}{pl:Nat→Value}{tb:Nat→Option Bool}{s:St}{env:Env}{σ:Heap}(hG:Gam P B F pl tb s env σ) {o key2:Nat}{l l2:List SV}{vs2:List Value}{q:LpD}{b0:Blk}(hF:F.get q.i=some b0) (hB:B.get q.i=none)
  (h2:oget s.own key2=.stk l2 vs2) (ho:oget s.own o=.lpf l q .busy) (u:LpS) :
  Gam P B (F.kill q.i) pl tb ⟨l2,oset (oset s.own key2 .dead) o (.lpf l q u),s.nx⟩ vs2 (σ.upd q.i (.obj (.lp q.vals q.r u.st u.pend) true)):=by
 have hob:=hG.obj o;rw[ho] at hob;obtain⟨k1,k2,_⟩:=hob;have hk:=hG.obj key2;rw[h2] at hk;have hi:q.i<σ.n:=σ.lt (hG.le.2 _ _ hF);have hne:∀ {d i},(oget s.own d).live=true→Oid (pl d) i→i≠q.i:=fun h1 h2 e=>by have:=hG.fresh _ _ h1 h2;subst e;rw[hF] at this;cases this
 have hoi:∀ i,Oid (pl o) i→i=q.i:=fun i h=>by rw[k1] at h;exact(osj h).symm
 have hg:∀ d,oget (oset (oset s.own key2 .dead) o (.lpf l q u)) d=if d=o then .lpf l q u else if d=key2 then .dead else oget s.own d:=fun d=>by rw[Q09,Q09]
 have lv:∀ d,d≠o→(oget (oset (oset s.own key2 .dead) o (.lpf l q u)) d).live=true→(oget s.own d).live=true:=fun d e h=>by
  rw[hg,if_neg e] at h;split at h
  ·cases h
  ·exact h
 refine⟨⟨hG.bf.1,fun j b hb=>?_⟩,⟨hG.le.1,fun j b hb=>?_⟩,hk,fun d=>?_,fun d i hd hi'=>?_,fun d d' i e h h' h1 h1'=>?_,hG.free⟩
 ·have e:j≠q.i:=by rintro rfl;rw[hB] at hb;cases hb
  rw[Heap.get_kill_ne _ e];exact hG.bf.2 _ _ hb
 ·by_cases e:j=q.i
  ·subst e;rw[Heap.get_kill_self] at hb;cases hb
  ·rw[Heap.get_kill_ne _ e] at hb;rw[Heap.get_upd_ne _ _ e];exact hG.le.2 _ _ hb
 ·show OR P B pl tb _ _ (oget (oset _ o _) d);rw[hg];by_cases e:d=o
  ·subst e;rw[if_pos rfl];exact⟨k1,k2,fun _=>Heap.get_upd_self _ _ hi⟩
  ·rw[if_neg e];split
   ·trivial
   ·exact(hG.obj d).mono (.refl _) (fun _ _ h=>h) fun hd i hi=>Heap.get_upd_ne _ _ (hne hd hi)
 ·by_cases e:d=o
  ·subst e;rw[hoi i hi'];exact Heap.get_kill_self _ _
  ·rw[Heap.get_kill_ne _ (hne (lv d e hd) hi')];exact hG.fresh d i (lv d e hd) hi'
 ·by_cases e1:d=o
  ·subst e1;have e2:d'≠d:=fun h=>e h.symm;exact hne (lv d' e2 h') h1' (hoi i h1)
  ·by_cases e2:d'=o
   ·subst e2;exact hne (lv d e1 h) h1 (hoi i h1')
   ·exact hG.sep d d' i e (lv d e1 h) (lv d' e2 h') h1 h1'
theorem Z42 {C:Cx}(hcs:COk P C) {L:List (Nat×LoopAnn)}(vc:VCode):∀ {B0 F0 D0:Heap}(n:Nat) (K:Exit→St→Prop) (s:St) (env:Env) (σ:Heap) (ro:Option Nat) (Q:Exit→Env→Heap→Prop),InLpF F0 ro→GRel P B0 F0 D0 s env σ→gwp C L vc n K s→(∀ e s' env' σ',K e s'→GRel P B0 F0 D0 s' env' σ'→Q e env' σ')→vwp (semSpecs P) vc ro Q env σ:=by
 induction vc with
 |skip=>intro B0 F0 D0 n K s env σ ro Q hro hR h hK;exact hK _ _ _ _ h hR
 |region ops=>intro B0 F0 D0 n K s env σ ro Q hro hR h hK;exact Z4l hcs ops hR h fun s' env' σ' h1 h2=>hK _ _ _ _ h1 h2
 |regionD segs=>intro B0 F0 D0 n K s env σ ro Q hro hR h hK;exact Q6r hcs segs hR h fun s' env' σ' h1 h2=>hK _ _ _ _ h1 h2
 |rangeF g ps a b iha ihb =>
  intro B0 F0 D0 n K s env σ ro Q hro hR h hK;simp only[gwp] at h;split at h
  ·rename_i f first caps hg
   split at h
   ·
    rename_i x hx;obtain⟨B,F,pl,tb,hB,hG⟩:=hR;have hgv:=hG.evs (Gds.nil (tb:=tb)) g;rw[hg] at hgv;simp only[SR] at hgv;obtain⟨x',y',hge,hfirst,hcaps⟩:=hgv;obtain⟨hent,hix⟩:=hcs.iy f x hx;show vwp (semSpecs P) (.rangeF g ps a b) ro Q env σ;simp only[vwp,vrange,hge];have hitS:(semSpecs P).it f=some fun i Y args σ K=>OkYield P i Y→VCallsTo P f args σ K:=by simp only[semSpecs];rw[if_pos hent]
    rw[hitS];refine⟨?_,fun r hY=>?_⟩
    ·cases ro with
     |none=>trivial
     |some i =>obtain⟨e1,r1,st1,pe1,hi⟩:=hro;exact⟨e1,r1,st1,pe1,hG.le.2 _ _ (hB.f.2 _ _ hi)⟩
    generalize hoo:C.off+2000000+n=o at h;generalize hkk:100000*(o+1)-1=key2 at h;have hok:o≠key2:=by omega
    let q:LpD:=⟨σ.n,env,r⟩;let rdy:Blk:=.obj (.lp env r .ready none) true;let bsy:Blk:=.obj (.lp env r .busy none) true;let p0:Value:=.pointer (some ⟨σ.n,0,none⟩);have hpush:Gam P B F (updP pl o p0) tb (glpf o q s) env (σ.push rdy):=by refine hG.push o (.lpf (SVs.kill o s.env) q .rdy) p0 rdy rfl ⟨rfl,SRs.upd (.refl _) (fun _ _ h=>h) (fun j hj=>by simp[updP,hj]) _ _ hG.env,fun _=>Heap.get_push_self _ _⟩
    have kl:∀ {xs us},SRs P B pl tb xs us→SRs P B (updP pl o p0) tb (SVs.kill o xs) us:=fun h=>SRs.upd (.refl _) (fun _ _ h=>h) (fun j hj=>by simp[updP,hj]) _ _ h;have hargs:SRs P B (updP pl o p0) tb (SVs.kill o first++(.dd o .yv::SVs.kill o caps)) (x'++(.func (.yield σ.n) #[] #[]::y')):=by refine (kl hfirst).append ?_;simp only[SRs,SR,DR];exact⟨_,_,rfl,⟨σ.n,by simp[updP,p0],rfl⟩,kl hcaps⟩
    have hYO:YldOk P o (gyield o key2 ps.length q (fun K' s'=>gwp C L a n (gseqK (fun s3=>gwp C L b n K' s3) fun _ _=>False) s') ps):=by
     intro B F pl tb s env' σ args us K R i hG ha hy hpo hK;unfold gyield at hy;split at hy
     ·rename_i l q' u ho;split at hy
      ·cases hlen:Nat.beq args.length ps.length with
       |false=>rw[hlen] at hy;exact hy.elim
       |true =>
       rw[hlen] at hy;simp only[_root_.cond_true] at hy;obtain⟨rfl,hy⟩:=hy;have hob:=hG.obj o;rw[ho] at hob;have hi:i=q.i:=by have h1:=hob.1;rw[hpo] at h1;have:=osj (Value.pointer.inj h1);exact(Addr.mk.inj this).1
       subst hi;have hrd:σ.get q.i=some rdy:=hob.2.2 rfl;have hol:(oget s.own o).live=true:=by rw[ho];rfl
       have hFi:F.get q.i=none:=hG.fresh o q.i hol (by rw[hob.1];rfl);have hBi:B.get q.i=none:=by
        cases hb:B.get q.i with
        |none=>rfl
        |some b=>rw[hG.bf.2 _ _ hb] at hFi;cases hFi
       have hent2:=hG.enterLp ho hok ha ps;have hFr:(F.ins σ q.i hG.le.1).get q.i=some rdy:=by rw[Heap.ins_self];exact hrd
       have hFrn:(F.ins σ q.i hG.le.1).n=σ.n:=rfl;have hin:q.i<σ.n:=σ.lt hrd;refine hY us σ R ⟨hrd,by rw[←ha.length];exact(Nat.eq_of_beq_eq_true hlen),?_⟩;refine iha (B0:=B) (F0:=F.ins σ q.i hG.le.1) (D0:=σ) n _ _ _ σ (some q.i) _ ⟨env,r,_,_,hFr⟩ ⟨B,_,_,tb,.of hent2.bf (Dead.refl _),hent2⟩ (hy env') fun e s3 env3 σ3 h7 h8=>?_;cases e with
       |normal =>
        have hr3:σ3.get q.i=some rdy:=by obtain⟨B',F',pl',tb',q1,q2⟩:=h8;exact q2.le.2 _ _ (q1.f.2 _ _ hFr)
        refine⟨hr3,?_⟩;have h9:=h8.lpUpd (b:=bsy) hFr hBi;have hFb:((F.ins σ q.i hG.le.1).upd q.i bsy).get q.i=some bsy:=Heap.get_upd_self _ _ (by rw[hFrn];exact hin);refine ihb (B0:=B) (F0:=(F.ins σ q.i hG.le.1).upd q.i bsy) (D0:=σ) n _ _ _ _ (some q.i) _ ⟨env,r,_,_,hFb⟩ h9 h7 fun e s4 env4 σ4 h10 h11=>?_;obtain⟨B',F',pl',tb',q1,q2⟩:=h11;have hF4:=q1.f.2 _ _ hFb;have hB4:=q1.x _ _ hFb hBi;have hb4:σ4.get q.i=some bsy:=q2.le.2 _ _ hF4;unfold gyK at h10;split at h10
        ·rename_i l2 vs2 l3 q3 u3 hk2 ho4;split at h10
         ·obtain⟨rfl,rfl,h10⟩:=h10;have base:∀ b,GBase B F σ B' (F'.kill q.i) (σ4.upd q.i b):=fun b=>by
           refine⟨q1.b,⟨?_,fun j c hc=>?_⟩,fun j c h1 h2=>?_,q1.d.trans (Dead.upd _ _ _ (by rw[hb4];rfl))⟩
           ·have h1:=q1.f.1;have h2:=hG.le.1;show F.n≤F'.n;have h3:((F.ins σ q.i hG.le.1).upd q.i bsy).n=σ.n:=rfl;omega
           ·have e:j≠q.i:=by rintro rfl;rw[hFi] at hc;cases hc
            rw[Heap.get_kill_ne _ e];refine q1.f.2 _ _ ?_;rw[Heap.get_upd_ne _ _ e,Heap.ins_ne _ _ _ e];exact hc
           ·have e:j≠q.i:=by rintro rfl;rw[hFi] at h1;cases h1
            refine q1.x j c ?_ h2;rw[Heap.get_upd_ne _ _ e,Heap.ins_ne _ _ _ e];exact h1
          refine⟨hb4,?_⟩;cases e with
          |normal=>exact hK _ _ B' _ pl' tb' _ _ h10 (base _) (q2.leaveLp hF4 hB4 hk2 ho4 .rdy) (by simp[SR,KC])
          |ret=>exact hK _ _ B' _ pl' tb' _ _ h10 (base _) (q2.leaveLp hF4 hB4 hk2 ho4 .ret) (by simp[SR,KC])
          |exit id=>exact hK _ _ B' _ pl' tb' _ _ h10 (base _) (q2.leaveLp hF4 hB4 hk2 ho4 (.exit id)) (by simp[SR,KC])
          |_=>exact h10.elim
         ·exact h10.elim
        ·exact h10.elim
       |_=>exact h7.elim
      ·exact hy.elim
     ·exact hy.elim
    have hrun:=hix B F _ tb _ env (σ.push rdy) o _ _ _ (gyEnd o q K) (fun τ=>endR Q env σ.n poison τ) hpush hargs hYO (h q) fun s' B' F' pl' tb' env' σ' hk hb hg'=>by
     unfold gyEnd at hk;split at hk
     ·rename_i l q' u ho;have fin:∀ {e:Exit},u.live=true→q'=q→K e ⟨l,oset s'.own o .dead,s'.nx⟩→Q e env (σ'.kill σ.n)∧σ'.get σ.n=some (.obj (.lp env r u.st u.pend) true):=fun {e} hu hq hKe=>by
       subst hq;obtain⟨g1,g2⟩:=hg'.dropLp ho hu;refine⟨hK _ _ _ _ hKe ⟨B',F',pl',tb',⟨hB.b.trans hb.b,hB.f.trans hb.f,fun j c h1 h2=>hb.x j c (hB.f.2 _ _ h1) (hB.x j c h1 h2),hB.d.trans ((Dead.push _ _).trans (hb.d.trans (Dead.kill _ _)))⟩,g1⟩,g2⟩
      cases u with
      |busy=>exact hk.elim
      |rdy =>obtain⟨hq,hk⟩:=hk;obtain⟨k1,k2⟩:=fin rfl hq hk;unfold endR;rw[k2];exact⟨(by intro h;cases h),k1⟩
      |ret =>obtain⟨hq,hk⟩:=hk;obtain⟨k1,k2⟩:=fin rfl hq hk;unfold endR;rw[k2];exact⟨(by intro h;cases h),k1⟩
      |exit id =>obtain⟨hq,hk⟩:=hk;obtain⟨k1,k2⟩:=fin rfl hq hk;unfold endR;rw[k2];exact⟨(by intro h;cases h),k1⟩
     ·exact hk.elim
    refine VCallsTo.mono (R:=fun _ τ=>endR Q env σ.n poison τ) (by simpa using hrun) fun v τ h=>h
   split at h
   rotate_left
   ·exact h.elim
   split at h
   ·rename_i it s1 caps' A hit hfrz hA;split at h
    ·rename_i c m ar xs hc;cases hps:Nat.beq ps.length ar with
     |false=>rw[hps] at h;exact h.elim
     |true =>
     rw[hps] at h;simp only[_root_.cond_true] at h;obtain⟨hcc,p,d0,hm0,I,hI0,hIs,hIe⟩:=h;have hps:=Nat.eq_of_beq_eq_true hps;have hlen:s.env.length=env.length:=by obtain⟨B,F,pl,tb,_,hG⟩:=hR;exact hG.env.length
     rw[hlen] at hIs hIe;have hR0:=hR;obtain⟨B,F,pl,tb,hB,hG⟩:=hR;have hgv:=hG.evs Gds.nil g;rw[hg] at hgv;simp only[SR] at hgv;obtain⟨x,y,hge,hx,hy⟩:=hgv;simp only[SRs] at hx;subst hx;obtain⟨B1,F1,hB1,hG1,hcv,he1⟩:=Z8b hG hy hfrz;obtain⟨hent,hitk⟩:=hcs.it f it hit;obtain⟨harl,hits⟩:=hitk B1 caps' y c m ar xs hcv hc hcc;have hR1:GRel P B1 F1 D0 (gstate (List.length env) (A.st p d0) (A.own p d0)) env σ:=Z26 ⟨B1,F1,pl,tb,⟨.refl _,.refl _,fun _ _ _ h=>h,(hB.trans hB1).d⟩,hG1⟩ hm0;have hBn:B1.get σ.n=none:=B1.wf _ hG1.leB.1;have hFn:F1.get σ.n=none:=F1.wf _ hG1.le.1;show vwp (semSpecs P) (.rangeF g ps a b) ro Q env σ;simp only[vwp,vrange,hge];have hitS:(semSpecs P).it f=some fun i Y args σ K=>OkYield P i Y→VCallsTo P f args σ K:=by simp only[semSpecs];rw[if_pos hent]
     rw[hitS];refine⟨?_,fun r hY=>?_⟩
     ·cases ro with
      |none=>trivial
      |some i =>obtain⟨e1,r1,st1,pe1,hi⟩:=hro;exact⟨e1,r1,st1,pe1,hG.le.2 _ _ (hB.f.2 _ _ hi)⟩
     ·let rdy:Blk:=.obj (.lp env r .ready none) true;let bsy:Blk:=.obj (.lp env r .busy none) true;have hF1le:F1.Le (σ.push rdy):=hG1.le.push rdy;let Fr:=F1.ins (σ.push rdy) σ.n hF1le.1;have hFr:Fr.get σ.n=some rdy:=by
       show (F1.ins _ _ _).get σ.n=_;rw[Heap.ins_self,Heap.get_push_self]
      have hFrn:Fr.n=σ.n+1:=rfl;have hF1r:F1.Le Fr:=hF1le.ins σ.n;let J:Nat→Heap→Prop:=fun k τ=>∃ d,I k d∧GRel P B1 Fr D0 (gstate (List.length env) (A.st p d) (A.own p d)) env τ;let E:Heap→Prop:=fun τ=>∃ cd e,τ.get σ.n=some (.obj (.lp env r .done (some cd)) true)∧((cd=.ret∧e=Exit.ret)∨∃ id,cd=.exit id∧e=Exit.exit id)∧Q e env (τ.kill σ.n);have back:∀ {s':St}{τ:Heap},GRel P B1 (Fr.upd σ.n bsy) D0 s' env τ→∀ b,GRel P B1 ((Fr.upd σ.n bsy).upd σ.n b) D0 s' env (τ.upd σ.n b):=fun h b =>
       h.lpUpd (b0:=bsy) (Heap.get_upd_self _ _ (by rw[hFrn];omega)) hBn
      have kill0:∀ {Fx:Heap}{b0:Blk}{s':St}{τ:Heap},Fx.get σ.n=some b0→(∀ i,i≠σ.n→Fx.get i=F1.get i)→Fx.n=σ.n+1→GRel P B1 Fx D0 s' env τ→GRel P B0 F0 D0 s' env (τ.kill σ.n):=fun {Fx b0 s' τ} h1 h2 h3 h4=>by
       refine (h4.lpKill h1 hBn).base (hB.b.trans hB1.b) ⟨?_,fun i b hb=>?_⟩ fun i b k1 k2=>(hB.trans hB1).x i b k1 k2
       ·show F0.n≤Fx.n;rw[h3];have:=(hB.trans hB1).f.1;have:=hG1.le.1;omega
       ·have hb1:=(hB.trans hB1).f.2 _ _ hb;have e:i≠σ.n:=by rintro rfl;rw[hFn] at hb1;cases hb1
        rw[Heap.get_kill_ne _ e,h2 i e];exact hb1
      have Frne:∀ i,i≠σ.n→Fr.get i=F1.get i:=fun i e=>Heap.ins_ne _ _ _ e;have hrun:=hits σ.n _ J E (σ.push rdy) hY (fun k τ ⟨d,_,hd⟩=>?_) (fun k us τ hk ⟨d,hId,hd⟩ hus=>?_) ⟨d0,hI0,?_⟩
      ·refine VCallsTo.mono (R:=fun _ τ=>J m τ∨E τ) (by simpa using hrun) fun v τ hjt=>?_;unfold endR;rcases hjt with⟨d,hId,hd⟩|⟨cd,e,h1,h2,h3⟩
       ·have hrd:τ.get σ.n=some rdy:=by
         obtain⟨B',F',pl',tb',q1,q2⟩:=hd;exact q2.le.2 _ _ (q1.f.2 _ _ hFr)
        rw[hrd];exact⟨(by intro h;cases h),hK _ _ _ _ (hIe d hId) (kill0 hFr Frne hFrn hd)⟩
       ·rw[h1];refine⟨(by intro h;cases h),?_⟩;rcases h2 with⟨rfl,rfl⟩|⟨id,rfl,rfl⟩<;>exact h3
      ·obtain⟨B',F',pl',tb',q1,q2⟩:=hd;exact q1.b.trans q2.leB
      ·
       have hrd:τ.get σ.n=some rdy:=by obtain⟨B',F',pl',tb',q1,q2⟩:=hd;exact q2.le.2 _ _ (q1.f.2 _ _ hFr)
       refine⟨hrd,by rw[hps,←(harl k).1,hus.length],?_⟩;have hF:=hIs k d hk hId env;have hst:GRel P B1 Fr D0 ⟨gsetPs (gstk (2000000+n) env (gstate (List.length env) (A.st p d) (A.own p d))).env ps (xs k),(gstk (2000000+n) env (gstate (List.length env) (A.st p d) (A.own p d))).own,0⟩ (setPs env ps us) τ:=by
        obtain⟨B',F',pl',tb',q1,q2⟩:=hd;have q3:Gam P B' F' (updP pl' (2000000+n) poison) tb' (gstk (2000000+n) env (gstate (List.length env) (A.st p d) (A.own p d))) env τ:=by refine q2.make (2000000+n) _ poison q2.le (fun _ _ _ _ _=>rfl) ?_ (fun i hl _=>by cases hl);exact SRs.upd (.refl _) (fun _ _ h=>h) (fun j hj=>by simp[updP,hj]) _ _ q2.env
        refine⟨B',F',updP pl' (2000000+n) poison,tb',q1,⟨q3.bf,q3.le,Z3x ?_ q3.env,q3.obj,q3.fresh,q3.sep,?_⟩⟩
        ·exact SRs.mono q1.b (fun _ _ h=>h) _ _ (Q10 _ _ (harl k).2 hus)
        ·exact q3.free
       refine iha (B0:=B1) (F0:=Fr) n _ _ _ τ (some σ.n) _ ⟨env,r,_,_,hFr⟩ hst hF fun e s3 env3 σ3 h7 h8=>?_;cases e with
       |normal =>
        have hr3:σ3.get σ.n=some rdy:=by obtain⟨B',F',pl',tb',q1,q2⟩:=h8;exact q2.le.2 _ _ (q1.f.2 _ _ hFr)
        refine⟨hr3,?_⟩;have h9:=h8.lpUpd (b:=bsy) hFr hBn;have hFb:(Fr.upd σ.n bsy).get σ.n=some bsy:=Heap.get_upd_self _ _ (by rw[hFrn];omega);refine ihb (B0:=B1) (F0:=Fr.upd σ.n bsy) n _ _ _ _ (some σ.n) _ ⟨env,r,_,_,hFb⟩ h9 h7 fun e s4 env4 σ4 h10 h11=>?_;have hb4:σ4.get σ.n=some bsy:=by obtain⟨B',F',pl',tb',q1,q2⟩:=h11;exact q2.le.2 _ _ (q1.f.2 _ _ hFb)
        have hn4:σ.n<σ4.n:=σ4.lt hb4;unfold grangeK at h10;split at h10
        ·rename_i l vs hstk;obtain⟨rfl,h10⟩:=h10;have hfr:GRel P B1 (Fr.upd σ.n bsy) D0 ⟨l,s4.own,s4.nx⟩ vs σ4:=by
          obtain⟨B',F',pl',tb',q1,q2⟩:=h11;have:=q2.obj (2000000+n);rw[hstk] at this;exact⟨B',F',pl',tb',q1,q2.bf,q2.le,this,q2.obj,q2.fresh,q2.sep,q2.free⟩
         have fupd:∀ b,((Fr.upd σ.n bsy).upd σ.n b).get σ.n=some b:=fun b=>Heap.get_upd_self _ _ (by show σ.n<Fr.n;rw[hFrn];omega);have fne:∀ b i,i≠σ.n→((Fr.upd σ.n bsy).upd σ.n b).get i=F1.get i:=fun b i e=>by rw[Heap.get_upd_ne _ _ e,Heap.get_upd_ne _ _ e,Frne i e]
         refine⟨hb4,?_⟩;cases e with
         |normal =>
          obtain⟨d',h12,h13⟩:=h10;refine .inl ⟨rfl,d',h13,?_⟩;have:=(back (Z26 hfr h12) rdy).base (B0:=B1) (F0:=Fr) (.refl _) ⟨Nat.le_refl _,fun i b hb=>?_⟩ fun i b k1 k2=>k2
          ·exact this
          ·by_cases e:i=σ.n
           ·subst e;rw[hFr] at hb;rw[fupd];exact hb
           ·rw[fne _ _ e,←Frne i e];exact hb
         |ret =>refine .inr ⟨rfl,_,_,Heap.get_upd_self _ _ hn4,.inl ⟨rfl,rfl⟩,hK _ _ _ _ h10 (kill0 (fupd _) (fne _) (by show Fr.n=_;exact hFrn) (back hfr _))⟩
         |exit id =>refine .inr ⟨rfl,_,_,Heap.get_upd_self _ _ hn4,.inr ⟨id,rfl,rfl⟩,hK _ _ _ _ h10 (kill0 (fupd _) (fne _) (by show Fr.n=_;exact hFrn) (back hfr _))⟩
         |_=>exact h10.elim
        ·exact h10.elim
       |_=>exact h7.elim
      ·
       obtain⟨B',F',pl',tb',q1,q2⟩:=hR1;have hle:F'.Le (σ.push rdy):=q2.le.push rdy;have hFn':F'.get σ.n=none:=F'.wf _ q2.le.1;have hob:∀ d i,(oget (gstate (List.length env) (A.st p d0) (A.own p d0)).own d).live=true→Oid (pl' d) i→i<σ.n:=fun d i h1 h2=>(q2.obj d).id_lt h1 h2;refine⟨B',F'.ins (σ.push rdy) σ.n hle.1,pl',tb',⟨q1.b,Heap.ins_ins q1.f _ _ _,fun i b k1 k2=>?_,q1.d.trans (Dead.push _ _)⟩,⟨q2.bf.trans (hle.ins _),hle.ins_le _,q2.env,fun d=>(q2.obj d).mono (.refl _) (fun _ _ h=>h) fun h1 i h2=>Heap.get_push_lt _ _ (hob d i h1 h2),fun d i h1 h2=>?_,q2.sep,q2.free⟩⟩
       ·by_cases e:i=σ.n
        ·subst e;exact B'.wf _ q2.leB.1
        ·rw[Frne i e] at k1;exact q1.x i b k1 k2
       ·rw[Heap.ins_ne _ _ _ (Nat.ne_of_lt (hob d i h1 h2))];exact q2.fresh d i h1 h2
    ·exact h.elim
   ·exact h.elim
  ·exact h.elim
 |bad=>intro B0 F0 D0 n K s env σ ro Q hro hR h hK;exact h.elim
 |ret=>intro B0 F0 D0 n K s env σ ro Q hro hR h hK;exact hK _ _ _ _ h hR
 |exit id=>intro B0 F0 D0 n K s env σ ro Q hro hR h hK;exact hK _ _ _ _ h hR
 |seq a b iha ihb =>
  intro B0 F0 D0 n K s env σ ro Q hro hR h hK;refine iha n _ s env σ ro _ hro hR h fun e s' env' σ' h1 h2=>?_;cases e with
  |normal=>exact ihb n K s' env' σ' ro Q hro h2 h1 hK
  |_=>exact hK _ _ _ _ h1 h2
 |cond c a b iha ihb =>
  intro B0 F0 D0 n K s env σ ro Q hro hR h hK;simp only[gwp] at h;split at h
  ·rename_i t ht;have hR0:=hR;obtain⟨B,F,pl,tb,hB,hG⟩:=hR;have:=Z4b hG ht;simp only[vwp,this,vcond];cases t with
   |true=>exact⟨fun _=>iha n K s env σ ro Q hro hR0 h hK,fun e=>by cases e⟩
   |false=>exact⟨(fun e=>by cases e),fun _=>ihb n K s env σ ro Q hro hR0 h hK⟩
  split at h
  ·rename_i t ht;obtain⟨B,F,pl,tb,hB,hG⟩:=hR;have:=Q53 ht (hG.evs Gds.nil c);simp only[vwp,this,vcond];split at h
   ·rename_i A hA;obtain⟨p,I,hF,hI⟩:=h;have fin:∀ e s' env' σ',gcutK s.env.length A p I K e s'→GRel P B0 F0 D0 s' env' σ'→Q e env' σ':=fun e s' env' σ' h1 h2=>by
     cases e with
     |normal =>obtain⟨d,h3,h4⟩:=h1;exact hK _ _ _ _ (hI d h4) (Z1r h2 h3)
     |_=>exact hK _ _ _ _ h1 h2
    exact⟨fun e=>iha n _ s env σ ro Q hro ⟨B,F,pl,tb,hB,hG⟩ (hF.1 e) fin,fun e=>ihb n _ s env σ ro Q hro ⟨B,F,pl,tb,hB,hG⟩ (hF.2 e) fin⟩
   exact⟨fun e=>iha n K s env σ ro Q hro ⟨B,F,pl,tb,hB,hG⟩ (h.1 e) hK,fun e=>ihb n K s env σ ro Q hro ⟨B,F,pl,tb,hB,hG⟩ (h.2 e) hK⟩
  ·exact h.elim
 |block id b ih =>
  intro B0 F0 D0 n K s env σ ro Q hro hR h hK;refine ih id _ s env σ ro _ hro hR h fun e s' env' σ' h1 h2=>?_;cases e with
  |exit id' =>
   simp only[gblockK] at h1;simp only[blockK];split
   ·rename_i e;rw[if_pos e] at h1;exact hK _ _ _ _ h1 h2
   ·rename_i e;rw[if_neg e] at h1;exact hK _ _ _ _ h1 h2
  |_=>exact hK _ _ _ _ h1 h2
 |loop b ih =>
  intro B0 F0 D0 n K s env σ ro Q hro hR h hK;simp only[gwp] at h;split at h
  ·rename_i A hA;obtain⟨p,d0,h1,I,μ,h2,h3⟩:=h;have hlen:s.env.length=env.length:=by obtain⟨B,F,pl,tb,_,hG⟩:=hR;exact hG.env.length
   have hk:∀ d,(A.st p d).map (·.1)=A.sl:=fun d=>J1m _ _;refine⟨A.sl,fun m vs σ'=>∃ d,I d∧μ d=m∧GRel P B0 F0 D0 (gstate s.env.length (A.st p d) (A.own p d)) (spreadE A.sl vs (List.replicate env.length poison)) σ',μ d0,⟨d0,h2,rfl,?_⟩,fun m vs σ' ⟨d,h4,h5,h6⟩=>?_⟩
   ·have:=Z8w hR h1 s.env.length;rw[hk d0,hlen] at this;rw[hlen];exact this
   ·refine ih n _ _ _ σ' ro _ hro h6 (h3 d h4) fun e s' env' σ'' h7 h8=>?_;cases e with
    |normal =>
     simp only[gloopK] at h7;cases hlp:okLp s'.own with
     |false=>rw[hlp] at h7;exact h7.elim
     |true =>
     rw[hlp] at h7;obtain⟨d',h9,h10,h11⟩:=h7;refine⟨μ d',by omega,d',h10,rfl,?_⟩;have:=Z8w h8 h9 s.env.length;rw[hk d',hlen] at this;rw[hlen];exact this
    |_=>exact hK _ _ _ _ h7 h8
  ·exact h.elim
end
end Go.V
namespace Go.V
open Go
def gres1 (s:St):VResult→Option SV
 |.tmp t=>some (s.env.getD t .any)
 |.cell a agg size=>bif Nat.blt 0 size then gload s.own agg size (s.env.getD a .any) else none
def gresults (s:St) (rs:List VResult):Option SV :=
 match rs with
 |[r]=>gres1 s r
 |rs=>(rs.mapM (gres1 s)).map .tup
def radd (mp:List (Nat×Option Nat)) (j:Nat) (a:Option Nat):Option (List (Nat×Option Nat)) :=
 if (alook mp j).isSome then none else match a with
 |some x=>if mp.any fun p=>p.2==some x then none else some (mp++[(j,a)])
 |none=>some (mp++[(j,a)])
mutual
def rmap:SV→SV→List (Nat×Option Nat)→Option (List (Nat×Option Nat))
 |.lst j,v,mp=>match v with|.lst a=>radd mp j (some a)|.nilS=>radd mp j none|_=>none
 |.map j,v,mp=>match v with|.map a=>radd mp j (some a)|_=>none
 |.dd j w,v,mp=>match w with
  |.out=>(match v with
   |.dd a w'=>(match w' with|.out=>radd mp j (some a)|_=>none)
   |.nilS=>radd mp j none
   |_=>none)
  |_=>none
 |.box j _,v,mp=>match v with|.box a _=>radd mp j (some a)|_=>none
 |.agg l,v,mp=>match v with|.agg l'=>rmaps l l' mp|_=>none
 |.tup l,v,mp=>match v with|.tup l'=>rmaps l l' mp|_=>none
 |.any,_,mp=>some mp
 |.val _ _,_,mp=>some mp
 |.nilS,_,mp=>some mp
 |.nilP,_,mp=>some mp
 |.nilM,_,mp=>some mp
 |.nilF,_,mp=>some mp
 |.sub _ _ _ _,_,_|.elp _ _ _ _,_,_|.grd _ _,_,_|.cp _ _,_,_|.fn _ _ _,_,_|.rop _ _ _ _,_,_|.pf _ _ _ _,_,_|.bid _ _,_,_=>none
def rmaps:List SV→List SV→List (Nat×Option Nat)→Option (List (Nat×Option Nat))
 |[],_,mp=>some mp
 |s::ss,l,mp=>match l with
  |v::vs=>match rmap s v mp with|some mp=>rmaps ss vs mp|none=>none
  |[]=>none
end
def gobsR (s:St) (mp:List (Nat×Option Nat)):Nat→List OB→Prop
 |_,[]=>True
 |j,b::r=>obEq s mp j b∧gobsR s mp (j+1) r
def gend (rs:List VResult) (v:SV) (bs:List OB):Exit→St→Prop:=fun e s =>
 let fin:=match gresults s rs with
  |some r=>(match rmap v r [] with
   |some mp=>svEq mp v r∧gobsR s mp 0 bs
   |none=>False)
  |none=>False
 match e with
 |.normal=>fin
 |.ret=>fin
 |_=>False
section
variable {P:Program}{B F:Heap}{pl:Nat→Value}{tb:Nat→Option Bool}{s:St}{env:Env}{σ:Heap}
theorem J21 (hG:Gam P B F pl tb s env σ) {r:VResult}{v:SV}(h:gres1 s r=some v):∃ u,vresult env σ r=some u∧SR P B pl tb v u:=by
 cases r with
 |tmp t=>obtain rfl:=osj h;exact⟨_,rfl,hG.env.getD t undef⟩
 |cell a agg size =>
  simp only[gres1] at h;cases hb:Nat.blt 0 size with
  |false=>rw[hb] at h;cases h
  |true =>rw[hb] at h;obtain⟨i,o,c,e,wr,t,u,h1,h2,h3,h4⟩:=J2f hG.leB hG.obj (by simpa [Nat.blt_eq] using hb) h (hG.env.getD a undef);refine⟨u,?_,h4⟩;simp only[vresult,vact,evalO,h1,h2,h3];rfl
theorem Q4r (hG:Gam P B F pl tb s env σ) {rs:List VResult}{v:SV}(h:gresults s rs=some v):∃ u,vresults env σ rs=some u∧SR P B pl tb v u:=by
 have all:∀ (rs:List VResult) (l:List SV),rs.mapM (gres1 s)=some l→∃ us,rs.mapM (vresult env σ)=some us∧SRs P B pl tb l us:=by
  intro rs;induction rs with
  |nil=>intro l h;simp at h;subst h;exact⟨[],rfl,rfl⟩
  |cons r rs ih =>
   intro l h;rw[List.mapM_cons] at h;cases h1:gres1 s r with
   |none=>simp[h1] at h
   |some a =>
    cases h2:rs.mapM (gres1 s) with
    |none=>simp[h1,h2] at h
    |some l' =>simp[h1,h2] at h;subst h;obtain⟨u,h3,h4⟩:=J21 hG h1;obtain⟨us,h5,h6⟩:=ih l' h2;exact⟨u::us,by rw[List.mapM_cons];simp[h3,h5],by simp only[SRs];exact⟨u,us,rfl,h4,h6⟩⟩
 have tup:(rs.mapM (gres1 s)).map SV.tup=some v→∃ u,(rs.mapM (vresult env σ)).map (fun vs=>Value.tuple vs.toArray)=some u∧SR P B pl tb v u:=fun h=>by simp only[Option.map_eq_some_iff] at h;obtain⟨l,h1,rfl⟩:=h;obtain⟨us,h2,h3⟩:=all rs l h1;exact⟨.tuple us.toArray,by rw[h2];rfl,by simp only[SR];exact⟨us,rfl,h3⟩⟩
 match rs,h,tup with
 |[r],h,_=>exact J21 hG h
 |[],h,tup=>exact tup h
 |_::_::_,h,tup=>exact tup h
theorem Z4j {mp mp':List (Nat×Option Nat)}{j:Nat}{a:Option Nat}(h:radd mp j a=some mp') (hi:Inj mp):Inj mp':=by
 unfold radd at h;split at h
 ·cases h
 ·split at h
  ·rename_i x;split at h
   ·cases h
   ·rename_i hc;obtain rfl:=osj h;have hfr:∀ d,alook mp d≠some (some x):=fun d hd=>by
     obtain⟨p,h1,h2,h3⟩:=J7j hd;exact hc (List.any_eq_true.2 ⟨p,h1,by rw[h3];simp⟩)
    intro t1 t2 a' h1 h2;rw[Z05] at h1 h2;split at h1
    ·rename_i y1 e1;split at h2
     ·rename_i y2 e2;obtain rfl:=osj h1;obtain rfl:=osj h2;exact hi t1 t2 a' e1 e2
     ·split at h2
      ·obtain rfl:=osj (osj h2);obtain rfl:=osj h1;exact absurd e1 (hfr t1)
      ·cases h2
    ·split at h1
     ·obtain rfl:=osj (osj h1);split at h2
      ·rename_i y2 e2;obtain rfl:=osj h2;exact absurd e2 (hfr t2)
      ·split at h2
       ·omega
       ·cases h2
     ·cases h1
  ·obtain rfl:=osj h;intro t1 t2 a' h1 h2;rw[Z05] at h1 h2;split at h1
   ·rename_i y1 e1;split at h2
    ·rename_i y2 e2;obtain rfl:=osj h1;obtain rfl:=osj h2;exact hi t1 t2 a' e1 e2
    ·split at h2<;>cases h2
   ·split at h1<;>cases h1
mutual
theorem J54:∀ (v r:SV) (mp mp':List (Nat×Option Nat)),rmap v r mp=some mp'→Inj mp→Inj mp'
 |.lst j,r,mp,mp',h,hi=>by
  simp only[rmap] at h;split at h
  ·exact Z4j h hi
  ·exact Z4j h hi
  ·cases h
 |.map j,r,mp,mp',h,hi=>by
  simp only[rmap] at h;split at h
  ·exact Z4j h hi
  ·cases h
 |.dd j w,r,mp,mp',h,hi=>by
  simp only[rmap] at h;split at h
  ·split at h
   ·split at h
    ·exact Z4j h hi
    ·cases h
   ·exact Z4j h hi
   ·cases h
  ·cases h
 |.box j _,r,mp,mp',h,hi=>by
  simp only[rmap] at h;split at h
  ·exact Z4j h hi
  ·cases h
 |.agg l,r,mp,mp',h,hi=>by
  simp only[rmap] at h;split at h
  ·exact J1s l _ mp mp' h hi
  ·cases h
 |.tup l,r,mp,mp',h,hi=>by
  simp only[rmap] at h;split at h
  ·exact J1s l _ mp mp' h hi
  ·cases h
 |.any,r,mp,mp',h,hi|.val _ _,r,mp,mp',h,hi|.nilS,r,mp,mp',h,hi|.nilP,r,mp,mp',h,hi|.nilM,r,mp,mp',h,hi|.nilF,r,mp,mp',h,hi=>by simp only[rmap] at h;obtain rfl:=osj h;exact hi
 |.sub _ _ _ _,r,mp,mp',h,hi|.elp _ _ _ _,r,mp,mp',h,hi|.grd _ _,r,mp,mp',h,hi|.cp _ _,r,mp,mp',h,hi|.fn _ _ _,r,mp,mp',h,hi|.rop _ _ _ _,r,mp,mp',h,hi|.pf _ _ _ _,r,mp,mp',h,hi|.bid _ _,r,mp,mp',h,hi=>by cases h
theorem J1s:∀ (v r:List SV) (mp mp':List (Nat×Option Nat)),rmaps v r mp=some mp'→Inj mp→Inj mp'
 |[],r,mp,mp',h,hi=>by simp only[rmaps] at h;obtain rfl:=osj h;exact hi
 |s::ss,[],mp,mp',h,hi=>by cases h
 |s::ss,r::rs,mp,mp',h,hi=>by
  simp only[rmaps] at h;split at h
  ·rename_i mp1 h1;exact J1s ss rs mp1 mp' h (J54 s r mp mp1 h1 hi)
  ·cases h
end
theorem J0a {mp:List (Nat×Option Nat)}:∀ (bs:List OB) (n:Nat),gobsR s mp n bs→∀ j b,bs[j]?=some b→obEq s mp (n+j) b
 |[],n,_,j,b,hj=>by simp at hj
 |b0::r,n,h,j,b,hj=>by
  obtain⟨h1,h2⟩:=h;cases j with
  |zero=>simp at hj;subst hj;exact h1
  |succ j =>
   have:=J0a r (n+1) h2 j b (by simpa using hj)
   rwa [Nat.add_assoc,Nat.add_comm 1 j] at this
mutual
theorem J9h {n:Nat}{π:Nat→Nat}:∀ (v:SV) (u:Value),v.ret 0=true→SR P B pl tb v u→Ren n π u u
 |.val k x,u,h,hs=>by
  simp only[SR] at hs;cases k with
  |i ik=>simp only[KC] at hs;obtain rfl:=(List.cons.inj hs).1;exact .plain _ rfl
  |bo=>simp only[KC] at hs;obtain rfl:=(List.cons.inj hs).1;exact .plain _ rfl
  |st=>simp only[KC] at hs;obtain rfl:=(List.cons.inj hs).1;exact .plain _ rfl
  |list k=>cases h
  |pair a b =>have h1:=KC.length hs;have h2:=a.size_pos;have h3:=b.size_pos;simp only[Kind.size,List.length_singleton] at h1;omega
 |.nilS,u,_,hs|.nilP,u,_,hs|.nilM,u,_,hs|.nilF,u,_,hs=>by simp only[SR] at hs;subst hs;exact .plain _ rfl
 |.lst j,u,h,_|.box j _,u,h,_|.map j,u,h,_=>by simp[SV.ret,Nat.blt_eq] at h
 |.dd j w,u,h,_=>by cases w<;>simp[SV.ret,Nat.blt_eq] at h
 |.agg l,u,h,hs=>by simp only[SR] at hs;obtain⟨cs,rfl,h2⟩:=hs;have:=J0m (n:=n) (π:=π) l cs h h2;exact .agg _ _ rfl fun i h3 _=>this _ (by simp)
 |.tup l,u,h,hs=>by simp only[SR] at hs;obtain⟨cs,rfl,h2⟩:=hs;have:=J0m (n:=n) (π:=π) l cs h h2;exact .tuple _ _ rfl fun i h3 _=>this _ (by simp)
 |.any,_,h,_|.bid _ _,_,h,_|.grd _ _,_,h,_|.sub _ _ _ _,_,h,_|.elp _ _ _ _,_,h,_|.rop _ _ _ _,_,h,_|.cp _ _,_,h,_|.fn _ _ _,_,h,_|.pf _ _ _ _,_,h,_=>by cases h
theorem J0m {n:Nat}{π:Nat→Nat}:∀ (v:List SV) (u:List Value),SVs.ret 0 v=true→SRs P B pl tb v u→∀ x∈u,Ren n π x x
 |[],u,_,hs=>by simp only[SRs] at hs;subst hs;intro x hx;cases hx
 |s::ss,u,h,hs=>by
  simp only[SVs.ret,Bool.and_eq_true] at h;simp only[SRs] at hs;obtain⟨x,y,rfl,h1,h2⟩:=hs;intro z hz;rcases List.mem_cons.1 hz with rfl|hz
  ·exact J9h s z h.1 h1
  ·exact J0m ss y h.2 h2 z hz
end
theorem X1y (exact:Bool) {σ0:Heap}{sf:St}{envf:Env}{σf:Heap}(hR:GRel P σ0 σ0 σ0 sf envf σf) {rs:List VResult}{v:SV}{bs:List OB}{e:Exit}(hv:v.ret bs.length=true) (hb:bs.all OB.ret=true) (h:gend rs v bs e sf) (hx:exact=true→bs.all OB.isL=true∧noBox v=true) :
  EndK σ0 rs (fun u σ'=>if exact then u=cval (canP σ0 bs) v∧σ'=canH σ0 bs else Ret P σ0 v bs u σ') e envf σf:=by
 have main:(match gresults sf rs with
  |some r=>(match rmap v r [] with
   |some mp=>svEq mp v r∧gobsR sf mp 0 bs
   |none=>False)
  |none=>False)→obind (vresults envf σf rs) fun u=>∃ v' σ',DropTo σ0 u σf v' σ'∧(if exact then v'=cval (canP σ0 bs) v∧σ'=canH σ0 bs else Ret P σ0 v bs v' σ'):=fun h=>by
  split at h
  ·rename_i r hr;split at h
   ·rename_i mp hmp;obtain⟨h1,h2⟩:=h;obtain⟨B,F,pl,tb,⟨hB,hF,_,hd⟩,hG⟩:=hR;obtain⟨u,h3,h4⟩:=Q4r hG hr;have hsr:=Q6u v r u h1 h4;have hinj:=J54 v r [] mp hmp (fun t t' a h=>by cases h);have hob:∀ j b,bs[j]?=some b→obEq sf mp j b:=fun j b hj=>by have:=J0a bs 0 h2 j b hj;rwa [Nat.zero_add] at this
    rw[h3];have hle:σ0.Le σf:=hF.trans hG.le;have hA:Agree σ0 σf:=fun i hi=>by
     cases hg:σ0.get i with
     |none=>exact hd.2 i hi hg
     |some b=>exact hle.2 i b hg
    have hpl:∀ j b,bs[j]?=some b→OR P hNil (mapP pl mp) noTb σf (mapP pl mp j) b∧∀ i,Oid (mapP pl mp j) i→σ0.get i=none∧σ0.n≤i:=fun j b hj=>by
     obtain⟨k1,k2⟩:=Q0i hG (hob j b hj);have hret:=List.all_eq_true.1 hb b (List.mem_of_getElem? hj);have hlive:b.live=true:=by cases b<;>first|rfl|cases hret
     refine⟨k1.retd hret fun _ _=>rfl,fun i hi=>?_⟩;obtain⟨a,e1,e2,e3⟩:=k2 hlive i hi;have hBn:=hG.fresh a i e2 e3;have hn:σ0.get i=none:=by
      cases hg:σ0.get i with
      |none=>rfl
      |some b=>rw[hF.2 i b hg] at hBn;cases hBn
     refine⟨hn,Nat.le_of_not_lt fun hlt=>?_⟩;have hdead:=hd.2 i hlt hn;have hob:=hG.obj a;cases ho:oget sf.own a with
     |dead=>rw[ho] at e2;cases e2
     |lst ty k xs nl =>
      rw[ho] at hob;rcases hob with⟨_,_,h2⟩|⟨_,i',cap,c,t,h2,_,h3,_⟩
      ·rw[h2] at e3;cases e3
      ·rw[h2] at e3;obtain rfl:=osj e3;rw[h3] at hdead;cases hdead
     |cells l u=>rw[ho] at hob;obtain⟨i',c,e,t,h2,h3,_⟩:=hob;rw[h2] at e3;obtain rfl:=osj e3;rw[h3] at hdead;cases hdead
     |map kk vk m=>rw[ho] at hob;obtain⟨i',es,cl,h2,h3,_⟩:=hob;rw[h2] at e3;obtain rfl:=osj e3;rw[h3] at hdead;cases hdead
     |stk l vals=>rw[ho] at e2;cases e2
     |lpf l q s=>rw[ho] at hob e2;obtain⟨h2,_,h3⟩:=hob;rw[h2] at e3;obtain rfl:=osj e3;have h3:=h3 e2;rw[hdead] at h3;cases h3
     |iter kk vk m dn=>rw[ho] at hob;obtain⟨j',i',es,cl,wr,seen,h2,h3,_⟩:=hob;rw[h2] at e3;obtain rfl:=osj e3;rw[h3] at hdead;cases hdead
     |deep ty q k xs nl hh =>rw[ho] at hob;obtain⟨is,_,d2,d3,_⟩:=DP.open hob;obtain⟨c,e,t,h⟩:=d2.cells i ((d3 i).1 e3);rw[h] at hdead;cases hdead
    have hsep:∀ j j' i,j<bs.length→j'<bs.length→j≠j'→Oid (mapP pl mp j) i→Oid (mapP pl mp j') i→False:=fun j j' i hj hj' hne hi hi'=>by
     have hb1:=List.getElem?_eq_getElem hj;have hb2:=List.getElem?_eq_getElem hj';have r1:=List.all_eq_true.1 hb _ (List.getElem_mem hj);have r2:=List.all_eq_true.1 hb _ (List.getElem_mem hj');have l1:(bs[j]).live=true:=by cases hbb:bs[j]<;>first|rfl|(rw[hbb] at r1;cases r1)
     have l2:(bs[j']).live=true:=by cases hbb:bs[j']<;>first|rfl|(rw[hbb] at r2;cases r2)
     obtain⟨a,e1,e2,e3⟩:=(Q0i hG (hob j _ hb1)).2 l1 i hi;obtain⟨a',e1',e2',e3'⟩:=(Q0i hG (hob j' _ hb2)).2 l2 i hi';by_cases e:a=a'
     ·subst e;exact hne (hinj j j' a e1 e1')
     ·exact hG.sep a a' i e e2 e2' e3 e3'
    cases hex:exact with
    |true =>obtain⟨hl,hnb⟩:=hx hex;have hdrop:=X0s (P:=P) hA hle.1 hv hnb hb hl (pl:=mapP pl mp) (u:=u) (fun j b hj=>⟨(hpl j b hj).1,fun i hi=>((hpl j b hj).2 i (Z3q hi)).2⟩) (fun j j' i a b c d e=>hsep j j' i a b c (Z3q d) (Z3q e)) (hsr.retd (fun j hj=>rfl) _ _ hv);exact⟨_,_,hdrop,by simp⟩
    |false =>
     simp only[Bool.false_eq_true,if_false];by_cases hbs:bs=[]
     ·subst hbs;refine⟨u,σ0,.rename (fun i=>i) (Nat.le_refl _) (fun i hi=>⟨rfl,(hA i hi).symm,.inl (hA i hi)⟩) (fun i k1 k2=>by omega) (fun _ _ _ _ _ _ h=>h) (J9h v u hv hsr),?_⟩;exact⟨⟨Heap.Le.refl _,Dead.refl _⟩,fun _=>rfl,noPl,(fun j b hj=>by simp at hj),(fun j j' i hj=>by simp at hj),hsr.retd (fun j hj=>by simp at hj) _ _ hv⟩
     ·exact⟨u,σf,.refl _ _ _,⟨hle,hd⟩,fun e=>absurd e hbs,mapP pl mp,hpl,hsep,hsr.retd (fun j hj=>rfl) _ _ hv⟩
   ·exact h.elim
  ·exact h.elim
 cases e with
 |normal=>exact main h
 |ret=>exact main h
 |_=>exact h.elim
def gstart (nt:Nat) (args:List SV):St:=⟨args++List.replicate (nt-args.length) .any,[],0⟩
theorem X1q {args:List SV}{vs:List Value}(h:SRs P σ noPl noTb args vs) (nt:Nat):GRel P σ σ σ (gstart nt args) (vs++List.replicate (nt-vs.length) undef) σ:=by
 have und:∀ n,SRs P σ noPl noTb (List.replicate n .any) (List.replicate n undef):=by
  intro n;induction n with
  |zero=>simp[SRs]
  |succ n ih=>simp only[List.replicate_succ,SRs];exact⟨_,_,rfl,by simp[SR],ih⟩
 refine⟨σ,σ,noPl,noTb,⟨Heap.Le.refl _,Heap.Le.refl _,(fun i b h1 h2=>by rw[h2] at h1;cases h1),Dead.refl _⟩,Heap.Le.refl _,Heap.Le.refl _,?_,fun d=>trivial,(fun d i hl=>by cases hl),(fun d d' i _ hl=>by cases hl),fun _ _=>rfl⟩;have:=h.length;simp only[gstart,this];exact h.append (und _)
theorem Fun.okC {f:Nat}{vc:VCode}{rs:List VResult}{nt:Nat}(h:Fun P f vc rs nt) (hm:P.follows .mixedOrders=true) {sp:CSp}
  (hb:∀ ap,ApOk P ap→∀ args c v bs,sp ap args=some (c,v,bs)→c→∃ (C:Cx) (L:List (Nat×LoopAnn)) (args':List SV),(∀ σ vs,SRs P σ noPl noTb args vs→SRs P σ noPl noTb args' vs)∧COk P C∧gwp C L vc 0 (gend rs v bs) (gstart nt args')):OkC P f sp:=by
 intro ap hap σ args vs c v bs hargs hsp hv hbs hc;obtain⟨C,L,args',h1,h2,h3⟩:=hb ap hap args c v bs hsp hc;have main:∀ exact:Bool,(exact=true→bs.all OB.isL=true∧noBox v=true)→VCalled P f vs σ fun u σ'=>if exact then u=cval (canP σ bs) v∧σ'=canH σ bs else Ret P σ v bs u σ':=fun exact hx=>by refine h.calls hm okSem ?_;exact Z42 h2 vc 0 _ _ _ σ none _ trivial (X1q (h1 σ vs hargs) nt) h3 fun e s' env' σ' k1 k2=>X1y exact k2 hv hbs k1 hx
 refine⟨(main false fun e=>by cases e).mono fun u σ' hr=>by simpa using hr,fun hl hnb=>(main true fun _=>⟨hl,hnb⟩).mono fun u σ' hr=>by simpa using hr⟩
theorem OkC.true {f:Nat}{sp:CSp}(h:OkC P f sp) (he:Q4t P f) {σ:Heap}{args:List SV}{vs:List Value}(ha:SRs P σ noPl noTb args vs) {c:Prop}(hs:sp (fun _ _=>none) args=some (c,.val .bo true,[])) (hc:c) :
  VCallsTo P f vs σ fun v _=>v=.bool true:=by
 have:=(h (fun _ _=>none) (fun _ _ _ _ _ _ _ _ _ h=>by cases h) σ args vs c _ [] ha hs rfl rfl hc).1;intro ρ w cargs hH hL;rcases this ρ w cargs hH hL with⟨_,h2⟩|⟨c',_,h2⟩
 ·refine h2.mono fun e w' ⟨c',h3,h4⟩=>⟨c',h3,h4.mono fun u σ' hr=>?_⟩;have:=(hr.flat rfl).2;simpa only [SR,KC,List.cons.injEq,and_true] using this
 ·have:=h2 w (Like.refl ρ w);rw[Z3d he cargs w] at this;cases this
end
end Go.V
namespace Go.V
open Go
mutual
inductive AP:Type→Type 1 where
 |k (k:Kind):AP k.T
 |agg {D:Type}(l:AL D):AP D
 |ptr {D:Type}(l:AL D):AP D
 |fn (ks:List Kind) (r:Kind):AP ((AT ks→Prop)×(AT ks→r.T))
 |nilS:AP Unit
 |any:AP Unit
inductive AL:Type→Type 1 where
 |nil:AL Unit
 |one {D:Type}(a:AP D):AL D
 |cons {D E:Type}(a:AP D) (r:AL E):AL (D×E)
end
def atSVs:(ks:List Kind)→AT ks→List SV
 |[],_=>[]
 |[k],x=>[kval k x]
 |k::k'::ks,x=>kval k x.1::atSVs (k'::ks) x.2
abbrev Ap:=SV→List SV→Option (Prop×SV)
def fnDom (ap:Ap) (f:SV) (ks:List Kind) (r:Kind) (x:AT ks):Prop:=match ap f (atSVs ks x) with
 |some (c,v)=>(match gap.asV r v with|some _=>c|none=>False)
 |none=>False
def fnP (ap:Ap) (f:SV) (ks:List Kind) (r:Kind) (x:AT ks):r.T:=match ap f (atSVs ks x) with
 |some (_,v)=>(match gap.asV r v with|some y=>y|none=>r.dflt)
 |none=>r.dflt
mutual
def AP.dec (ap:Ap):{D:Type}→(p:AP D)→SV→Option D
 |_,.k k,v=>match k with
  |.list k=>view [] k v
  |.i ik=>deck (.i ik) [v]
  |.bo=>deck .bo [v]
  |.st=>deck .st [v]
  |.pair _ _=>none
 |_,.agg l,v=>match v with|.agg vs=>AL.dec ap l vs|_=>none
 |_,.nilS,v=>match v with|.nilS=>some ()|_=>none
 |_,.any,_=>some ()
 |_,.ptr l,v=>match v with|.cp vs 0=>AL.dec ap l vs|_=>none
 |_,.fn ks r,v=>match v with
  |.fn g a b=>some (fnDom ap (.fn g a b) ks r,fnP ap (.fn g a b) ks r)
  |.pf ks' r' dom p=>some (fnDom ap (.pf ks' r' dom p) ks r,fnP ap (.pf ks' r' dom p) ks r)
  |_=>none
def AL.dec (ap:Ap):{D:Type}→(l:AL D)→List SV→Option D
 |_,.nil,vs=>match vs with|[]=>some ()|_=>none
 |_,.one a,vs=>match vs with|[v]=>AP.dec ap a v|_=>none
 |_,.cons a r,vs=>match vs with
  |v::vs=>(match AP.dec ap a v,AL.dec ap r vs with|some x,some y=>some (x,y)|_,_=>none)
  |[]=>none
end
mutual
def AP.can:{D:Type}→(p:AP D)→D→SV
 |_,.k k,x=>.val k x
 |_,.agg l,x=>.agg (AL.can l x)
 |_,.nilS,_=>.nilS
 |_,.any,_=>.any
 |_,.ptr l,x=>.cp (AL.can l x) 0
 |_,.fn ks r,x=>.pf ks r x.1 x.2
def AL.can:{D:Type}→(l:AL D)→D→List SV
 |_,.nil,_=>[]
 |_,.one a,x=>[AP.can a x]
 |_,.cons a r,x=>AP.can a x.1::AL.can r x.2
end
def mkSp {D:Type}(l:AL D) (pre:D→Prop) (res:D→SV) (obs:D→List OB):CSp:=fun ap args=>match AL.dec ap l args with
 |some d=>some (pre d,res d,obs d)
 |none=>none
section
variable {P:Program}{σ:Heap}
theorem Z5y:∀ {ks:List Kind}{x:AT ks}{vs:List Value},atVals σ ks x vs→SRs P σ noPl noTb (atSVs ks x) vs
 |[],x,vs,h=>by simp only[atVals] at h;subst h;simp[atSVs,SRs]
 |[k],x,vs,h=>by obtain⟨v,rfl,h1⟩:=h;simp only[atSVs,SRs];exact⟨v,[],rfl,Q6q h1,rfl⟩
 |k::k'::ks,x,vs,h=>by obtain⟨v,vs',rfl,h1,h2⟩:=h;simp only[atSVs,SRs];exact⟨v,vs',rfl,Q6q h1,Z5y h2⟩
theorem X00 {ap:Ap}(hap:ApOk P ap) {f:SV}{v:Value}(hf:SR P σ noPl noTb f v) (hv:∃ g a b,v=.func (.func g) a b) (ks:List Kind) (r:Kind):SR P σ noPl noTb (.pf ks r (fnDom ap f ks r) (fnP ap f ks r)) v:=by
 obtain⟨g,a,b,rfl⟩:=hv;simp only[SR];refine⟨g,a,b,rfl,fun x hd τ vs hle hvs=>?_⟩;unfold fnDom at hd;split at hd
 ·rename_i c u hap1;split at hd
  ·rename_i y hy;obtain⟨h1,g',a',b',h2,h3⟩:=hap τ f (atSVs ks x) c u (.func (.func g) a b) vs (SR.mono hle (fun _ _ h=>h) _ _ hf) (Z5y hvs) hap1 hd;obtain⟨rfl,rfl,rfl⟩:=(by simpa using h2:g=g'∧a=a'∧b=b');have hp:fnP ap f ks r x=y:=by simp[fnP,hap1,hy]
   rw[hp];exact h3.mono fun u' σ' hu=>⟨hu.1,(J0j hy hu.2).vcall (J9i _)⟩
  ·exact hd.elim
 ·exact hd.elim
mutual
theorem AP.dec_sound {ap:Ap}(hap:ApOk P ap):∀ {D:Type}(p:AP D) {v:SV}{x:D}{u:Value},AP.dec ap p v=some x→SR P σ noPl noTb v u→SR P σ noPl noTb (AP.can p x) u
 |_,.k k,v,x,u,h,hs=>by
  have one:SRs P σ noPl noTb [v] [u]:=by simp only[SRs];exact⟨u,[],rfl,hs,rfl⟩
  simp only[AP.can,SR];cases k with
  |list k =>have:=Q6w (own:=[]) (Heap.Le.refl σ) (fun d=>(trivial:OR P σ noPl noTb σ (noPl d) .dead)) (show view [] k v=some x from h) hs;exact⟨u,rfl,this⟩
  |i ik=>exact Q0u (k:=.i ik) h one
  |bo=>exact Q0u (k:=.bo) h one
  |st=>exact Q0u (k:=.st) h one
  |pair a b=>cases h
 |_,.agg l,v,x,u,h,hs=>by
  simp only[AP.dec] at h;split at h
  ·simp only[SR] at hs;obtain⟨cs,rfl,hs⟩:=hs;simp only[AP.can,SR];exact⟨cs,rfl,AL.dec_sound hap l h hs⟩
  ·cases h
 |_,.any,v,x,u,h,hs=>by simp only[AP.can,SR]
 |_,.nilS,v,x,u,h,hs=>by
  simp only[AP.dec] at h;split at h
  ·simp only[AP.can];exact hs
  ·cases h
 |_,.ptr l,v,x,u,h,hs=>by
  simp only[AP.dec] at h;split at h
  ·simp only[SR] at hs;obtain⟨b,c,e,wr,t,h1,rfl,h3⟩:=hs;simp only[AP.can,SR];exact⟨b,c,e,wr,t,h1,rfl,AL.dec_sound hap l h h3⟩
  ·cases h
 |_,.fn ks r,v,x,u,h,hs=>by
  simp only[AP.dec] at h;split at h
  ·obtain rfl:=osj h;exact X00 hap hs (by simp only[SR] at hs;obtain⟨x,y,rfl,_⟩:=hs;exact⟨_,_,_,rfl⟩) ks r
  ·obtain rfl:=osj h;exact X00 hap hs (by simp only[SR] at hs;obtain⟨g,x,y,rfl,_⟩:=hs;exact⟨_,_,_,rfl⟩) ks r
  ·cases h
theorem AL.dec_sound {ap:Ap}(hap:ApOk P ap):∀ {D:Type}(l:AL D) {vs:List SV}{x:D}{us:List Value},AL.dec ap l vs=some x→SRs P σ noPl noTb vs us→SRs P σ noPl noTb (AL.can l x) us
 |_,.nil,vs,x,us,h,hs=>by
  simp only[AL.dec] at h;split at h
  ·exact hs
  ·cases h
 |_,.one a,vs,x,us,h,hs=>by
  simp only[AL.dec] at h;split at h
  ·obtain⟨u,rfl,h1⟩:=hs.one;simp only[AL.can,SRs];exact⟨u,[],rfl,AP.dec_sound hap a h h1,rfl⟩
  ·cases h
 |_,.cons a r,vs,x,us,h,hs=>by
  simp only[AL.dec] at h;split at h
  ·rename_i v vs';split at h
   ·rename_i y z h1 h2;obtain rfl:=osj h;simp only[SRs] at hs;obtain⟨u,us',rfl,h3,h4⟩:=hs;simp only[AL.can,SRs];exact⟨u,us',rfl,AP.dec_sound hap a h1 h3,AL.dec_sound hap r h2 h4⟩
   ·cases h
  ·cases h
end
theorem CsOk.nil:CsOk P []:=fun f sp h=>by cases h
theorem CsOk.cons {f:Nat}{sp:CSp}{cs:List (Nat×CSp)}(h:OkC P f sp) (t:CsOk P cs):CsOk P ((f,sp)::cs):=fun g sp' hg=>by
 simp only[alook] at hg;cases hb:Nat.beq f g with
 |true=>rw[hb] at hg;obtain rfl:=Nat.eq_of_beq_eq_true hb;obtain rfl:=osj hg;exact h
 |false=>rw[hb] at hg;exact t g sp' hg
theorem X8e {f:Nat}{vc:VCode}{rs:List VResult}{nt:Nat}(h:Fun P f vc rs nt) (hm:P.follows .mixedOrders=true) {D:Type}{l:AL D}{pre:D→Prop}{res:D→SV}{obs:D→List OB}
  {C:Cx}(hcs:COk P C) (L:D→List (Nat×LoopAnn)) (hb:∀ d,pre d→gwp C (L d) vc 0 (gend rs (res d) (obs d)) (gstart nt (AL.can l d))):OkC P f (mkSp l pre res obs):=by
 refine h.okC hm fun ap hap args c v bs hs hc=>?_;unfold mkSp at hs;split at hs
 ·rename_i d hd;obtain⟨rfl,rfl,rfl⟩:=(by simpa using hs:pre d=c∧res d=v∧obs d=bs);exact⟨C,L d,AL.can l d,fun σ vs hv=>AL.dec_sound hap l hd hv,hcs,hb d hc⟩
 ·cases hs
theorem Q1b {f:Nat}{vc:VCode}{rs:List VResult}{nt:Nat}(h:Fun P f vc rs nt) (hm:P.follows .mixedOrders=true) {D:Type}{l:AL D}{pre:D→Prop}{res:D→SV}{obs:D→List OB}
  {C:Cx}(hcs:COk P C) {L:D→List (Nat×LoopAnn)}{V:D→Prop}(hq:∀ d,gwp C (L d) vc 0 (gend rs (res d) (obs d)) (gstart nt (AL.can l d))=V d) (hb:∀ d,pre d→V d):OkC P f (mkSp l pre res obs) :=
 X8e h hm hcs L fun d hp=>(hq d).mpr (hb d hp)
end
end Go.V
namespace Go.V
open Go
def ginlK (key:Nat) (vals:List Value) (rs:List VResult) (K:SV→St→Prop):Exit→St→Prop:=fun e s =>
 let fin:=match gresults s rs,oget s.own key with
  |some r,.stk l vs=>vs=vals∧K r ⟨l,s.own,s.nx⟩
  |_,_=>False
 match e with
 |.normal=>fin
 |.ret=>fin
 |_=>False
def inlX (C:Cx) (L:List Value→List (Nat×LoopAnn)) (vc:VCode) (rs:List VResult) (nt:Nat):XSp:=fun d args s K =>
 ∀ vals,gwp {C with off:=100000*(d+1)} (L vals) vc 0 (ginlK (100000*(d+1)-1) vals rs K) ⟨SVs.kill (100000*(d+1)-1) args++List.replicate (nt-args.length) .any,(gstk (100000*(d+1)-1) vals s).own,s.nx⟩
section
variable {P:Program}
theorem J0o {B:Heap}{pl:Nat→Value}{tb:Nat→Option Bool}:∀ n,SRs P B pl tb (List.replicate n .any) (List.replicate n undef)
 |0=>by simp[SRs]
 |n+1=>by simp only[List.replicate_succ,SRs];exact⟨_,_,rfl,by simp[SR],J0o n⟩
theorem X6m {f:Nat}{vc:VCode}{rs:List VResult}{nt:Nat}(h:Fun P f vc rs nt) (hm:P.follows .mixedOrders=true) {C:Cx}(hcs:COk P C) (L:List Value→List (Nat×LoopAnn)):XOk P f (inlX C L vc rs nt):=by
 intro B F pl tb s env σ d args vs K R hG ha hx hK;have hx:=hx env;refine h.calls hm okSem ?_;have q3:Gam P B F (updP pl (100000*(d+1)-1) poison) tb (gstk (100000*(d+1)-1) env s) env σ:=by refine hG.make _ _ poison hG.le (fun _ _ _ _ _=>rfl) ?_ (fun i hl _=>by cases hl);exact SRs.upd (.refl _) (fun _ _ h=>h) (fun j hj=>by simp[updP,hj]) _ _ hG.env
 have hcs':COk P {C with off:=100000*(d+1)}:=⟨hcs.cs,hcs.xs,hcs.it,hcs.yl,hcs.iy,hcs.xf⟩;have hargs:=SRs.upd (P:=P) (Heap.Le.refl B) (fun _ _ h=>h) (pl':=updP pl (100000*(d+1)-1) poison) (tb':=tb) (o:=100000*(d+1)-1) (fun j hj=>by simp[updP,hj]) _ _ ha;have hst:GRel P B F σ ⟨SVs.kill (100000*(d+1)-1) args++List.replicate (nt-args.length) .any,(gstk (100000*(d+1)-1) env s).own,s.nx⟩ (vs++List.replicate (nt-vs.length) undef) σ:=by refine⟨B,F,_,tb,.of hG.bf (.refl _),⟨q3.bf,q3.le,?_,q3.obj,q3.fresh,q3.sep,q3.free⟩⟩;rw[ha.length];exact hargs.append (J0o _)
 refine Z42 hcs' vc 0 _ _ _ σ none _ trivial hst hx fun e s' env' σ' h1 h2=>?_
 ·have main:(match gresults s' rs,oget s'.own (100000*(d+1)-1) with
   |some r,.stk l vs=>vs=env∧K r ⟨l,s'.own,s'.nx⟩
   |_,_=>False)→obind (vresults env' σ' rs) fun v=>∃ v' σ'',DropTo σ v σ' v' σ''∧R v' σ'':=fun h=>by
   obtain⟨B',F',pl',tb',k1,k2⟩:=h2;split at h
   ·rename_i r l vs' hr hstk;obtain⟨rfl,h⟩:=h;obtain⟨u,h3,h4⟩:=Q4r k2 hr;rw[h3];have hob:=k2.obj (100000*(d+1)-1);rw[hstk] at hob;exact⟨u,σ',.refl _ _ _,hK r _ B' F' pl' tb' u σ' h k1 ⟨k2.bf,k2.le,hob,k2.obj,k2.fresh,k2.sep,k2.free⟩ h4⟩
   ·exact h.elim
  cases e with
  |normal=>exact main h1
  |ret=>exact main h1
  |_=>exact h1.elim
end
end Go.V
namespace Go.V
open Go
def lkey:SV→Option Nat
 |.lst o=>some o
 |.box o off=>bif Nat.beq off 0 then some o else none
 |_=>none
def lsv:OB→SV
 |.lst _ _ _ _=>.lst 0
 |_=>.box 0 0
def lfit:SV→OB→Bool
 |.lst _,.lst _ _ _ _=>true
 |.box _ _,.cells _ _=>true
 |_,_=>false
abbrev LSp:=Ap→OB→List SV→Option (Prop×SV×OB)
def lentX (ap:Ap) (sp:LSp):XSp:=fun _ args s K =>
 match args with
 |a::args=>(match lkey a with
  |some o=>bif (oget s.own o).ret&&lfit a (oget s.own o) then (match sp ap (oget s.own o) (ress (oset s.own o .dead) args) with
    |some (c,v,b)=>bif v.ret 0&&b.ret then c∧K v ⟨s.env,oset s.own o b,s.nx⟩ else False
    |none=>False) else False
  |none=>False)
 |[]=>False
def lstart (nt:Nat) (a0:SV) (b:OB) (vals:List Value) (args:List SV):St:=⟨a0::(args++List.replicate (nt-(args.length+1)) .any),[(0,b),(4000000,.stk [a0] vals)],0⟩
def lendK (vals:List Value) (rs:List VResult) (v:SV) (b:OB) (a0:SV):Exit→St→Prop:=fun e s =>
 let fin:=match gresults s rs,oget s.own 4000000 with
  |some r,.stk l vs=>vs=vals∧svEqs [(0,some 0)] [a0] l∧svEq [] v r∧obEq s [(0,some 0)] 0 b
  |_,_=>False
 match e with
 |.normal=>fin
 |.ret=>fin
 |_=>False
section
variable {P:Program}
theorem Heap.Le.kill' {B σ:Heap}(h:B.Le σ) {i:Nat}(hi:B.get i=none):B.Le (σ.kill i):=⟨h.1,fun j b hb=>by
 have:j≠i:=by rintro rfl;rw[hi] at hb;cases hb
 rw[Heap.get_kill_ne _ this];exact h.2 _ _ hb⟩
theorem Heap.kill_le (σ:Heap) (i:Nat):(σ.kill i).Le σ:=⟨Nat.le_refl _,fun j b hb=>by
 by_cases e:j=i
 ·subst e;rw[Heap.get_kill_self] at hb;cases hb
 ·rwa [Heap.get_kill_ne _ e] at hb⟩
def lentH (σ:Heap) (p:Value):Heap:=match oid p with|some i=>σ.kill i|none=>σ
theorem X0g (σ:Heap) (p:Value):(lentH σ p).Le σ:=by
 unfold lentH;split
 ·exact Heap.kill_le _ _
 ·exact .refl _
theorem J03 {B σ:Heap}{p:Value}(h:B.Le σ) (hi:∀ i,oid p=some i→B.get i=none):B.Le (lentH σ p):=by
 unfold lentH;split
 ·rename_i i e;exact h.kill' (hi i e)
 ·exact h
theorem J3w {σ:Heap}{p:Value}{i:Nat}(h:oid p=some i):(lentH σ p).get i=none:=by unfold lentH;rw[h];exact Heap.get_kill_self _ _
theorem J1o {σ:Heap}{p:Value}{i:Nat}(h:oid p≠some i):(lentH σ p).get i=σ.get i:=by
 unfold lentH;split
 ·rename_i j e;exact Heap.get_kill_ne _ (by rintro rfl;exact h e)
 ·rfl
theorem X2p {p:Value}{i:Nat}(hp:∀ l,p≠.tuple l) (h:Oid p i):oid p=some i:=by cases p<;>first|exact h|exact absurd rfl (hp _)
theorem OB.ret_live {b:OB}(h:b.ret=true):b.live=true:=by cases b<;>first|rfl|cases h
theorem X5k {o:Nat}{b:OB}(h:lfit (.lst o) b=true):lsv b=.lst 0:=by cases b<;>first|rfl|cases h
theorem X5b {o off:Nat}{b:OB}(h:lfit (.box o off) b=true):lsv b=.box 0 0:=by cases b<;>first|rfl|cases h
theorem X5j {f:Nat}{vc:VCode}{rs:List VResult}{nt:Nat}(h:Fun P f vc rs nt) (hm:P.follows .mixedOrders=true) {sp:LSp}{ap:Ap}
  (hb:∀ b args c v b',sp ap b args=some (c,v,b')→c→∃ (C:Cx) (L:List Value→List (Nat×LoopAnn)) (args':List SV),SVs.pure args'=true∧(∀ σ vs,SRs P σ noPl noTb args vs→SRs P σ noPl noTb args' vs)∧COk P C∧∀ vals,gwp C (L vals) vc 0 (lendK vals rs v b' (lsv b)) (lstart nt (lsv b) b vals args')):XOk P f (lentX ap sp):=by
 intro B F pl tb s env σ d args vs K R hG ha hx hK;unfold lentX at hx;split at hx
 ·rename_i a args;split at hx
  ·rename_i o hkey;cases hbf:((oget s.own o).ret&&lfit a (oget s.own o)) with
   |false=>rw[hbf] at hx;exact hx.elim
   |true =>
   rw[hbf] at hx;simp only[_root_.cond_true] at hx;simp only[Bool.and_eq_true] at hbf;obtain⟨hbr,hfit⟩:=hbf;split at hx
   ·rename_i c v b' hsp;cases hvr:(v.ret 0&&b'.ret) with
    |false=>rw[hvr] at hx;exact hx.elim
    |true =>
    rw[hvr] at hx;obtain⟨hc,hx⟩:=hx;simp only[Bool.and_eq_true] at hvr;simp only[SRs] at ha;obtain⟨u,us,rfl,hau,hus⟩:=ha;have hlive:=OB.ret_live hbr;have hob:=hG.obj o;have hid:∀ i,oid (pl o)=some i→F.get i=none:=fun i hi=>hG.fresh o i hlive (Z3q hi);have hidB:∀ i,oid (pl o)=some i→B.get i=none:=fun i hi=>by
     cases hg:B.get i with
     |none=>rfl
     |some b=>have:=hG.bf.2 _ _ hg;rw[hid i hi] at this;cases this
    have hnt:∀ l,pl o≠.tuple l:=fun l he=>by
     unfold lkey at hkey;split at hkey
     ·obtain rfl:=osj hkey;simp only[SR] at hau;obtain⟨rfl,_,_,_,hs⟩:=hau;rw[he] at hs;cases hs
     ·rename_i o' off;cases hoff:Nat.beq off 0 with
      |false=>rw[hoff] at hkey;cases hkey
      |true =>rw[hoff] at hkey;obtain rfl:=osj hkey;simp only[SR] at hau;obtain⟨_,h,_⟩:=hau;rw[he] at h;cases h
     ·cases hkey
    have hpin:∀ (B:Heap) (pl':Nat→Value) (tb':Nat→Option Bool),(SR P B pl' tb' (lsv (oget s.own o)) u↔pl' 0=pl o):=fun B pl' tb'=>by
     unfold lkey at hkey;split at hkey
     ·obtain rfl:=osj hkey;simp only[SR] at hau;rw[X5k hfit];simp only[SR];obtain⟨rfl,hs⟩:=hau;exact⟨fun h=>h.1.symm,fun h=>⟨h.symm,hs⟩⟩
     ·rename_i o' off;cases hoff:Nat.beq off 0 with
      |false=>rw[hoff] at hkey;cases hkey
      |true =>
       rw[hoff] at hkey;obtain rfl:=osj hkey;obtain rfl:=Nat.eq_of_beq_eq_true hoff;simp only[SR] at hau;rw[X5b hfit];simp only[SR];obtain⟨i,h1,rfl⟩:=hau;rw[h1];constructor
       ·rintro⟨i',h2,h3⟩;rw[h2];simpa using h3.symm
       ·intro h2;exact⟨i,h2,rfl⟩
     ·cases hkey
    obtain⟨C,L,args',hpure,hdec,hcs,hg⟩:=hb _ _ c v b' hsp hc;have hg:=hg [u];let σc:=lentH σ (pl o);have hBc:B.Le σc:=J03 hG.leB hidB;have hFc:F.Le σc:=J03 hG.le hid;have hargs:SRs P σc noPl noTb args' us:=by
     refine hdec σc us (Z1e (own:=oset s.own o .dead) hBc (pl:=pl) (tb:=tb) (fun d=>?_) hus);rw[Q09];by_cases e:d=o
     ·rw[if_pos e];trivial
     ·rw[if_neg e];exact(hG.obj d).mono (.refl _) (fun _ _ h=>h) fun hl i hi=>J1o fun hio=>hG.sep d o i e hl hlive hi (Z3q hio)
    let plC:Nat→Value:=fun j=>if j=0 then pl o else poison
    have hst:GRel P σc σc σ (lstart nt (lsv (oget s.own o)) (oget s.own o) [u] args') (u::us++List.replicate (nt-(u::us).length) undef) σ:=by
     refine⟨σc,σc,plC,noTb,⟨.refl _,.refl _,fun _ _ _ h=>h,.refl _⟩,.refl _,X0g _ _,?_,fun j=>?_,fun j i h1 h2=>?_,fun j j' i hne h1 h2 h3 h4=>?_,fun _ _=>rfl⟩
     ·simp only[lstart,SRs,List.cons_append];refine⟨u,_,rfl,(hpin _ _ _).2 (by simp[plC]),?_⟩;rw[hargs.length,List.length_cons];refine SRs.append ?_ (J0o _);exact Q10 _ _ hpure hargs
     ·simp only[lstart,oget];by_cases e0:j=0
      ·subst e0;simp only[Nat.beq_refl,_root_.cond_true];exact hob.retd hbr fun i _=>rfl
      ·rw[Q1v (fun e=>e0 e.symm),cond_false];by_cases e1:j=4000000
       ·subst e1;simp only[Nat.beq_refl,_root_.cond_true];exact⟨u,[],rfl,(hpin _ _ _).2 (by simp[plC]),rfl⟩
       ·rw[Q1v (fun e=>e1 e.symm),cond_false];trivial
     ·simp only[lstart,oget] at h1;by_cases e0:j=0
      ·subst e0;exact J3w (X2p hnt h2)
      ·rw[Q1v (fun e=>e0 e.symm),cond_false] at h1;by_cases e1:j=4000000
       ·subst e1;cases h1
       ·rw[Q1v (fun e=>e1 e.symm),cond_false] at h1;cases h1
     ·have z:∀ j,(oget (lstart nt (lsv (oget s.own o)) (oget s.own o) [u] args').own j).live=true→j=0:=fun j h1=>by
       simp only[lstart,oget] at h1;by_cases e0:j=0
       ·exact e0
       ·rw[Q1v (fun e=>e0 e.symm),cond_false] at h1;by_cases e1:j=4000000
        ·subst e1;cases h1
        ·rw[Q1v (fun e=>e1 e.symm),cond_false] at h1;cases h1
      exact hne ((z j h1).trans (z j' h2).symm)
    refine h.calls hm okSem ?_;refine Z42 hcs vc 0 _ _ _ σ none _ trivial hst hg fun e s' env' σ' h1 h2=>?_
    have main:(match gresults s' rs,oget s'.own 4000000 with
     |some r,.stk l vs=>vs=[u]∧svEqs [(0,some 0)] [lsv (oget s.own o)] l∧svEq [] v r∧obEq s' [(0,some 0)] 0 b'
     |_,_=>False)→obind (vresults env' σ' rs) fun v=>∃ v' σ'',DropTo σ v σ' v' σ''∧R v' σ'':=fun h=>by
     obtain⟨B',F',pl',tb',k1,k2⟩:=h2;split at h
     ·rename_i r l vs' hr hstk;obtain⟨rfl,m1,m2,m3⟩:=h;obtain⟨w,h3,h4⟩:=Q4r k2 hr;rw[h3];have hstko:=k2.obj 4000000;rw[hstk] at hstko;have hpl0:pl' 0=pl o:=by
       have:=Q1h [lsv (oget s.own o)] l [u] m1 hstko;simp only[SRs] at this;obtain⟨u',_,hu',h5,_⟩:=this;obtain rfl:u=u':=(List.cons.inj hu').1;have:=(hpin _ _ _).1 h5;simpa [mapP,alook] using this
      have hob':=(Q0i k2 m3).1;have hmp:mapP pl' [(0,some 0)] 0=pl o:=by simpa [mapP,alook] using hpl0
      rw[hmp] at hob';have hres:=(Q6u v r w m2 h4).retd (B':=B) (pl':=pl) (tb':=tb) (n:=0) (fun j hj=>by omega) _ _ hvr.1;have hle:σc.Le σ':=k1.f.trans k2.le;refine⟨w,σ',.refl _ _ _,hK v _ B F pl tb w σ' hx (.of hG.bf k1.d) ⟨hG.bf,hFc.trans hle,hG.env,fun d=>?_,fun d i q1 q2=>?_,fun d d' i hne q1 q2 q3 q4=>?_,hG.free⟩ hres⟩
      ·simp only[Q09];by_cases e:d=o
       ·subst e;rw[if_pos rfl];exact hob'.retd hvr.2 fun _ _=>rfl
       ·rw[if_neg e];refine (hG.obj d).mono (.refl _) (fun _ _ h=>h) fun hl i hi=>?_;have hlt:=(hG.obj d).id_lt hl hi;cases hg:σ.get i with
        |none=>exact k1.d.2 i hlt hg
        |some bb=>exact hle.2 _ _ (by rw[J1o fun hio=>hG.sep d o i e hl hlive hi (Z3q hio)];exact hg)
      ·simp only[Q09] at q1;by_cases e:d=o
       ·subst e;exact hG.fresh d i hlive q2
       ·rw[if_neg e] at q1;exact hG.fresh d i q1 q2
      ·have lv:∀ d,(oget (oset s.own o b') d).live=true→(oget s.own d).live=true:=fun d h=>by
        rw[Q09] at h;by_cases e:d=o
        ·subst e;exact hlive
        ·rwa [if_neg e] at h
       exact hG.sep d d' i hne (lv d q1) (lv d' q2) q3 q4
     ·exact h.elim
    cases e with
    |normal=>exact main h1
    |ret=>exact main h1
    |_=>exact h1.elim
   ·exact hx.elim
  ·exact hx.elim
 ·exact hx.elim
mutual
theorem AP.can_pure:∀ {D:Type}(p:AP D) (x:D),(AP.can p x).pure=true
 |_,.k k,x=>rfl
 |_,.agg l,x=>by simp only[AP.can,SV.pure];exact AL.can_pure l x
 |_,.nilS,x=>rfl
 |_,.any,x=>rfl
 |_,.ptr l,x=>by simp only[AP.can,SV.pure];exact AL.can_pure l x
 |_,.fn ks r,x=>rfl
theorem AL.can_pure:∀ {D:Type}(l:AL D) (x:D),SVs.pure (AL.can l x)=true
 |_,.nil,x=>rfl
 |_,.one a,x=>by simp only[AL.can,SVs.pure,AP.can_pure a x];rfl
 |_,.cons a r,x=>by simp only[AL.can,SVs.pure,AP.can_pure a x.1,AL.can_pure r x.2];rfl
end
def lentL (ty:Nat) (k:Kind) {D:Type}(l:AL D) (pre:List k.T→Bool→D→Prop) (res:List k.T→Bool→D→SV) (post:List k.T→Bool→D→List k.T):LSp:=fun ap b args=>match b with
 |.lst ty' _k' xs nl=>if ty'=ty then (match castL xs k,AL.dec ap l args with
  |some xs,some d=>some (pre xs nl d,res xs nl d,.lst ty k (post xs nl d) nl)
  |_,_=>none) else none
 |_=>none
theorem Z4k {f:Nat}{vc:VCode}{rs:List VResult}{nt:Nat}(h:Fun P f vc rs nt) (hm:P.follows .mixedOrders=true) {ap:Ap}(hap:ApOk P ap) {ty:Nat}{k:Kind}{D:Type}{l:AL D}{pre:List k.T→Bool→D→Prop}{res:List k.T→Bool→D→SV}{post:List k.T→Bool→D→List k.T}
  {C:Cx}(hcs:COk P C) {L:List k.T→Bool→D→List Value→List (Nat×LoopAnn)}{V:List k.T→Bool→D→Prop}
  (hq:∀ xs nl d,(∀ vals,gwp C (L xs nl d vals) vc 0 (lendK vals rs (res xs nl d) (.lst ty k (post xs nl d) nl) (.lst 0)) (lstart nt (.lst 0) (.lst ty k xs nl) vals (AL.can l d)))=V xs nl d)
  (hb:∀ xs nl d,pre xs nl d→V xs nl d):XOk P f (lentX ap (lentL ty k l pre res post)):=by
 refine X5j h hm fun b args c v b' hs hc=>?_;unfold lentL at hs;split at hs
 ·rename_i ty' k' xs nl;split at hs
  ·rename_i e;subst e;split at hs
   ·rename_i ys d h1 h2;obtain⟨rfl,rfl,rfl⟩:=(by simpa using hs:pre ys nl d=c∧res ys nl d=v∧OB.lst ty' k (post ys nl d) nl=b');unfold castL at h1;split at h1
    ·rename_i e;subst e;obtain rfl:=osj h1;exact⟨C,L xs nl d,AL.can l d,AL.can_pure l d,fun σ vs hv=>AL.dec_sound hap l h2 hv,hcs,(hq xs nl d).mpr (hb xs nl d hc)⟩
    ·cases h1
   ·cases hs
  ·cases hs
 ·cases hs
end
end Go.V
namespace Go.V
open Go
abbrev lI {α:Type}(l:List α):Int:=(l.length:Int)
abbrev gD {α:Type}(l:List α) (i:Int) (d:α):α:=l.getD i.toNat d
abbrev sT {α:Type}(l:List α) (i:Int) (x:α):List α:=l.set i.toNat x
abbrev I64 (x:Int):Prop:=InK .i64 x
theorem Q1a (x:Int):InK .i64 x↔-9223372036854775808≤x∧x≤9223372036854775807:=by simp[InK,IntKind.min,IntKind.max,IntKind.bits,IntKind.signed]
theorem J17 (x:Int):InK .u8 x↔0≤x∧x≤255:=by simp[InK,IntKind.min,IntKind.max,IntKind.bits,IntKind.signed]
theorem Z5i (x:Int):InK .u64 x↔0≤x∧x≤18446744073709551615:=by simp[InK,IntKind.min,IntKind.max,IntKind.bits,IntKind.signed]
theorem LoopP.count {F:Int→(Int→Prop)→Prop}(n:Nat) (J:Nat→Prop) (h0:J 0) (hr:∀ k:Nat,k≤n→J k→∀ q:Int→Prop,(k<n→J (k+1)→q ((k:Int)+1))→F k q):LoopP F 0:=by refine⟨fun d=>∃ k:Nat,d=k∧k≤n∧J k,fun d=>n-d.toNat,⟨0,rfl,Nat.zero_le _,h0⟩,fun d ⟨k,hd,hk,hJ⟩=>?_⟩;subst hd;refine hr k hk hJ _ fun hlt hJ'=>⟨⟨k+1,by simp,hlt,hJ'⟩,?_⟩;simp;omega
theorem LoopP.count2 {X:Type}{F:X×Int→(X×Int→Prop)→Prop}(n:Nat) (J:Nat→X→Prop) {x0:X}(h0:J 0 x0) (hr:∀ (k:Nat) (x:X),k≤n→J k x→∀ q:X×Int→Prop,(∀ x',k<n→J (k+1) x'→q (x',(k:Int)+1))→F (x,(k:Int)) q):LoopP F (x0,0):=by refine⟨fun d=>∃ k:Nat,d.2=k∧k≤n∧J k d.1,fun d=>n-d.2.toNat,⟨0,rfl,Nat.zero_le _,h0⟩,fun ⟨x,d⟩ ⟨k,hd,hk,hJ⟩=>?_⟩;simp only at hd hJ;subst hd;refine hr k x hk hJ _ fun x' hlt hJ'=>⟨⟨k+1,by simp,hlt,hJ'⟩,?_⟩;simp;omega
theorem Q03 {α:Type}{l:List α}{k:Nat}{d:α}(h:k<l.length):l.getD k d=l[k]:=by simp[List.getD_eq_getElem?_getD,List.getElem?_eq_getElem h]
theorem Q2d {α:Type}{l:List α}{k:Nat}(h:k<l.length):l.take (k+1)=l.take k++[l[k]]:=by rw[List.take_succ_eq_append_getElem h]
end Go.V
namespace Go.V
open Go
section
variable {P:Program}
theorem st1 {S:VSpecs}{d:Nat}{op:VOp}{rest:List VOper}{env:Env}{σ:Heap}{K:Env→Heap→Prop}{v:Value}(hv:∀ K',vop S op env σ K'=obind (vact op (evalO env) σ) fun p=>K' p.1 p.2) (h:vact op (evalO env) σ=some (v,σ)) (hr:vops S rest (env.set d v) σ K):vops S (⟨some d,op,none⟩::rest) env σ K:=by show obind (some true) _;refine⟨fun _=>?_,fun e=>by cases e⟩;rw[hv,h];exact hr
theorem YlOk.nil:∀ o y,alook ([]:List (Nat×YSp)) o=some y→YldOk P o y:=fun o y h=>by cases h
theorem IysOk.nil:∀ f x,alook ([]:List (Nat×IYSp)) f=some x→IyOk P f x:=fun f x h=>by cases h
theorem XsOk.nil:∀ f x,alook ([]:List (Nat×XSp)) f=some x→XOk P f x:=fun f x h=>by cases h
theorem XsOk.cons {f:Nat}{x:XSp}{l:List (Nat×XSp)}(h:XOk P f x) (t:∀ g y,alook l g=some y→XOk P g y):∀ g y,alook ((f,x)::l) g=some y→XOk P g y:=fun g y hg=>by
 simp only[alook] at hg;cases hb:Nat.beq f g with
 |true=>rw[hb] at hg;obtain rfl:=Nat.eq_of_beq_eq_true hb;obtain rfl:=osj hg;exact h
 |false=>rw[hb] at hg;exact t g y hg
theorem ItsOk.nil:∀ f x,alook ([]:List (Nat×ISp)) f=some x→ItOk P f x:=fun f x h=>by cases h
def apNone:Ap:=fun _ _=>none
theorem Z18:ApOk P apNone:=fun _ _ _ _ _ _ _ _ _ h=>by cases h
end
end Go.V
namespace Go.V
open Go
section
variable {P:Program}
theorem XfOk.nil {xs:List (Nat×XSp)}:∀ f j,alook ([]:List (Nat×Nat)) f=some j→∀ x,alook xs f=some x→XOkF P f x j:=fun f j h=>by cases h
end
end Go.V
namespace Go.V
open Go
theorem J68 (x:Nat):BitVec.ofInt 64 (x:Int)=BitVec.ofNat 64 x:=by apply BitVec.eq_of_toNat_eq;simp
theorem toNat_ofInt {x:Nat}(h:x<9223372036854775808):(BitVec.ofInt 64 (x:Int)).toNat=x:=by rw[J68,BitVec.toNat_ofNat,Nat.mod_eq_of_lt (by omega)]
end Go.V
set_option linter.unusedVariables false
namespace Go.Proofs.Tryz
open Go Go.V Go.Proofs
def inI (n a b:Int):Bool:=decide (a≤n)&&decide (n≤b)
def idxF (l:List Int) (p:Int→Bool):Int:=match l.findIdx? p with|some i=>(i:Int)|none=>-1
def idxG {α:Type}(l:List α) (p:α→Bool):Int:=match l.findIdx? p with|some i=>(i:Int)|none=>-1
theorem X3l {α:Type}{l:List α}{p:α→Bool}{k:Nat}(hk:k<l.length) (h:p l[k]=true) (hJ:(l.take k).any p=false):idxG l p=k:=by
 have:l.findIdx? p=some k:=by rw[List.findIdx?_eq_some_iff_getElem];refine⟨hk,h,fun j hj=>?_⟩;have hn:=List.any_eq_false.1 hJ l[j] (List.mem_take_iff_getElem.2 ⟨j,by omega,rfl⟩);simpa using hn
 simp[idxG,this]
theorem J6c {α:Type}{l:List α}{p:α→Bool}(hJ:l.any p=false):idxG l p=-1:=by
 have:l.findIdx? p=none:=by rw[List.findIdx?_eq_none_iff];intro x hx;have:=List.any_eq_false.1 hJ x hx;simpa using this
 simp[idxG,this]
theorem X55 {α:Type}(l:List α) (p:α→Bool):(decide (idxG l p≥0))=l.any p:=by
 cases h:l.any p with
 |false=>rw[J6c h];rfl
 |true =>
  have:(l.findIdx? p).isSome=true:=by rw[List.findIdx?_isSome,h]
  obtain⟨i,hi⟩:=Option.isSome_iff_exists.1 this;have e:idxG l p=(i:Int):=by simp[idxG,hi]
  rw[e];exact decide_eq_true (Int.natCast_nonneg i)
abbrev Sp:=Int×Int
theorem nI (n a b:Int):(!inI n a b)=(decide (n<a)||decide (b<n)):=by simp only[inI,Bool.not_and];by_cases h1:a≤n<;>by_cases h2:n≤b<;>simp[h1,h2]<;>omega
theorem Q9d (a b:Int):gmax a b=max a b:=by unfold gmax;split<;>omega
theorem J8m (a b:Int):gmin a b=min a b:=by unfold gmin;split<;>omega
def Sub (a b:Sp):Prop:=b.1≤a.1∧a.2≤b.2
def Ne (a:Sp):Prop:=a.1≤a.2
theorem LoopP.count3 {X Y:Type}{F:X×Y×Int→(X×Y×Int→Prop)→Prop}(n:Nat) (J:Nat→X→Y→Prop) {x0:X}{y0:Y}(h0:J 0 x0 y0) (hr:∀ (k:Nat) (x:X) (y:Y),k≤n→J k x y→∀ q:X×Y×Int→Prop,(∀ x' y',k<n→J (k+1) x' y'→q (x',y',(k:Int)+1))→F (x,y,(k:Int)) q):LoopP F (x0,y0,0):=by refine⟨fun d=>∃ k:Nat,d.2.2=k∧k≤n∧J k d.1 d.2.1,fun d=>n-d.2.2.toNat,⟨0,rfl,Nat.zero_le _,h0⟩,fun ⟨x,y,d⟩ ⟨k,hd,hk,hJ⟩=>?_⟩;simp only at hd hJ;subst hd;refine hr k x y hk hJ _ fun x' y' hlt hJ'=>⟨⟨k+1,by simp,hlt,hJ'⟩,?_⟩;simp;omega
theorem J9f {α β:Type}{f:α→Option β}:∀ {L:List α}{ys:List β},L.mapM f=some ys→ys.length=L.length∧∀ (i:Nat) (h:i<L.length) (h2:i<ys.length),f L[i]=some ys[i]
 |[],ys,h=>by simp at h;subst h;simp
 |a::L,ys,h=>by
  simp only[List.mapM_cons,Option.bind_eq_bind,Option.bind_eq_some_iff,Option.pure_def,Option.some.injEq] at h;obtain⟨y,hy,zs,hz,rfl⟩:=h;obtain⟨e1,e2⟩:=J9f hz;refine⟨by simp[e1],fun i h1 h2=>?_⟩;cases i with
  |zero=>exact hy
  |succ i=>exact e2 i (by simpa using h1) (by simpa using h2)
theorem X5e {H:Type}{enc:TypeId×Value→H}{P:Program}{w:World}{base:Nat}{sp:Nat→Bool}{held:Bool}{fuel:Nat}{t:TypeId}{k:IntKind}{c:Value}{y:DataW H×List MemPlace}
  (ht:P.underlying t=some (.int k)) (h:DataW.trod enc P w base sp held fuel t [c]=some y):∃ n,c=.int k n∧y=(.lit (.int k n),[]):=by
 cases fuel with
 |zero=>simp[DataW.trod] at h
 |succ fuel =>cases c<;>simp[DataW.trod,ht] at h;rename_i k' n;obtain⟨⟨rfl,_⟩,rfl⟩:=h;exact⟨n,rfl,rfl⟩
theorem X54 {H:Type}{enc:TypeId×Value→H}{P:Program}{w:World}{base:Nat}{sp:Nat→Bool}{held:Bool}{fuel:Nat}{t e:TypeId}{k:IntKind}{n:Nat}{l:List Value}{xs:List Int}{p:List MemPlace}
  (ht:P.underlying t=some (.array n e)) (he:P.underlying e=some (.int k)) (h1:P.cellsOf e=1) (hc:P.cellsOf t=n) (h:DataW.trod enc P w base sp held fuel t l=some (.agg (xs.map fun x=>.lit (.int k x)),p)):l=xs.map fun x=>.int k x:=by
 cases fuel with
 |zero=>simp[DataW.trod] at h
 |succ fuel =>
  simp only[DataW.trod,ht,h1,hc,Nat.mul_one] at h;split at h
  ·rename_i hl;simp only[Option.map_eq_some_iff,Prod.mk.injEq,DataW.agg.injEq] at h;obtain⟨ys,hm,hx,_⟩:=h;obtain⟨e1,e2⟩:=J9f hm;rw[List.length_range] at e1;have hlen:xs.length=ys.length:=by
    have:=congrArg List.length hx;simpa using this.symm
   refine List.ext_getElem (by rw[List.length_map];omega) fun i k1 k2=>?_;have hy:=e2 i (by rw[List.length_range];omega) (by omega);rw[List.getElem_range,List.drop_eq_getElem_cons k1] at hy;simp only[List.take_succ_cons,List.take_zero] at hy;obtain⟨m,hm1,hm2⟩:=X5e he hy;rw[hm1,List.getElem_map];have hxi:(ys.map (·.1))[i]'(by rw[List.length_map];omega)=(xs.map fun x=>(DataW.lit (Lit.int k x):DataW H))[i]'(by rw[List.length_map];omega):=by
    simp only[hx]
   rw[List.getElem_map,List.getElem_map,hm2] at hxi;simp only[DataW.lit.injEq,Lit.int.injEq,true_and] at hxi;rw[hxi]
  ·cases h
theorem tab_heap {P:Program}{nm:String}{g G:Nat}{t e:TypeId}{k:IntKind}{n fuel:Nat}{cs:Array Value}{xs:List Int}{p:List MemPlace}{W:World}(hv:W.var? P nm=some cs) (hG:P.globalNamed nm=some G) (hg:P.globalNamed nm=some g) {T:TypeId}(hT:(P.globals[G]?).map (·.type)=some T) (hgt:(P.globals[g]?).map (·.type)=some t)
  (ht:P.underlying T=some (.array n e)) (he:P.underlying e=some (.int k)) (h1:P.cellsOf e=1) (hc:P.cellsOf T=n) (hd:DataW.trod (fun _=>()) P W 0 (fun _=>true) false fuel t cs.toList=some (.agg (xs.map fun x=>.lit (.int k x)),p)):∃ e f,W.heap[G]?=some (.cells (xs.map fun x=>Value.int k x).toArray e f):=by
 obtain rfl:=osj (hG.symm.trans hg);obtain rfl:=osj (hT.symm.trans hgt);have hl:=X54 ht he h1 hc hd;unfold World.var? at hv;rw[hG] at hv;simp only[Option.bind_some] at hv;split at hv
 ·rename_i cs' a b hh;obtain rfl:=osj hv;refine⟨a,b,?_⟩;rw[hh,←hl]
 ·cases hv
end Go.Proofs.Tryz
set_option linter.unusedVariables false
namespace Go.Proofs.Tryz
open Go Go.V Go.Proofs
def Z1b:AL (Int×Int×Int):=(.cons (.k (.i .i64)) (.cons (.ptr (.one (.k (.i .i64)))) (.one (.ptr (.one (.k (.i .i64)))))))
def Z6w (d:Int×Int×Int):Prop:=True
def Z0f (d:Int×Int×Int):SV:=.val .bo (decide (d.1<d.2.1)||decide (d.2.2<d.1))
def Z0j (d:Int×Int×Int):List OB:=[]
def Q7x:CSp:=mkSp Z1b Z6w Z0f Z0j
def Q6t (n:Int) (a:Int) (b:Int):Prop :=
 (((decide (n<a))||(decide (n > b)))=(decide (n<a)||decide (b<n))∧(True))
def Z0y:Cx:=⟨[],[],13,[],0,[],[],[],[],false,[],[],[],[]⟩
def Z89 (n:Int) (a:Int) (b:Int):List (Nat×LoopAnn):=[]
set_option maxRecDepth 100000 in
theorem Z7t (d:Int×Int×Int):gwp (Z0y) (Z89 d.1 d.2.1 d.2.2) c88 0 (gend [.tmp 4] (Z0f d) (Z0j d)) (gstart 13 (AL.can Z1b d))=Q6t d.1 d.2.1 d.2.2:=by kernel_rfl
abbrev Z7x:Prop:=OkC Tryz.prog 88 Q7x
theorem Z80 (h:∀ (n:Int) (a:Int) (b:Int),(True)→Q6t n a b):OkC Tryz.prog 88 Q7x :=
 Q1b fun88 mixed (C:=Z0y) (V:=fun (d:Int×Int×Int)=>Q6t d.1 d.2.1 d.2.2) ⟨.nil,XsOk.nil,ItsOk.nil,YlOk.nil,IysOk.nil,XfOk.nil⟩ (Z7t) fun d hp=>h d.1 d.2.1 d.2.2 hp
theorem Z8j:Z7x:=Z80 fun n a b _=>by exact⟨rfl,trivial⟩
def Q40:AL (List Int×((Int→Prop)×(Int→Bool))):=(.cons (.k (.list (.i .i64))) (.one (.fn [(.i .i64)] .bo)))
def Q8l (d:List Int×((Int→Prop)×(Int→Bool))):Prop:=d.1.length≤1000000∧∀ x∈d.1,d.2.1 x
def Q3u (d:List Int×((Int→Prop)×(Int→Bool))):SV:=.val (.i .i64) (idxF d.1 d.2.2)
def Q3t (d:List Int×((Int→Prop)×(Int→Bool))):List OB:=[]
def Q2a:CSp:=mkSp Q40 Q8l Q3u Q3t
def Q0x (l:List Int) (p:(Int→Prop)×(Int→Bool)):Prop :=
 ∃ (e2:Unit) (d20:Int),((l=l∧(SV.pf [(.i .i64)] .bo p.1 p.2=SV.pf [(.i .i64)] .bo p.1 p.2)∧(lI l)=(lI l)∧(0:Int)=d20∧True)∧(True)) ∧
 LoopP (fun (d2:Int) (q2:(Int)→Prop) =>
  ((decide (d2<(lI l)))=true →
   (0≤d2)∧(d2<(List.length l))∧(p.1 (gD l d2 0))∧((p.2 (gD l d2 0))=true →
    (d2=(idxF l p.2)∧(True))) ∧
   ((p.2 (gD l d2 0))=false →
    (I64 (d2+(1:Int)))∧(∃ d3:Int,((l=l∧(SV.pf [(.i .i64)] .bo p.1 p.2=SV.pf [(.i .i64)] .bo p.1 p.2)∧(lI l)=(lI l)∧(d2+(1:Int))=d3∧True)∧(True))∧q2 d3))) ∧
  ((decide (d2<(lI l)))=false →
   ((-1:Int)=(idxF l p.2)∧(True)))) d20
def Q3y:Cx:=⟨[],[],19,[],0,[],[],[],[],false,[],[],[],[]⟩
def Q94 (l:List Int) (p:(Int→Prop)×(Int→Bool)):List (Nat×LoopAnn):=[(0,⟨Unit,Int,[0,1,7,8],fun e x=>[.val (.list (.i .i64)) l,.pf [(.i .i64)] .bo p.1 p.2,.val (.i .i64) (((List.length l):Nat):Int),.val (.i .i64) x],fun e x=>[]⟩)]
set_option maxRecDepth 100000 in
theorem Q8z (d:List Int×((Int→Prop)×(Int→Bool))):gwp (Q3y) (Q94 d.1 d.2) c103 0 (gend [.tmp 4] (Q3u d) (Q3t d)) (gstart 19 (AL.can Q40 d))=Q0x d.1 d.2:=by kernel_rfl
abbrev Q9c:Prop:=OkC Tryz.prog 103 Q2a
theorem Q9n (h:∀ (l:List Int) (p:(Int→Prop)×(Int→Bool)),(l.length≤1000000∧∀ x∈l,p.1 x)→Q0x l p):OkC Tryz.prog 103 Q2a :=
 Q1b fun103 mixed (C:=Q3y) (V:=fun (d:List Int×((Int→Prop)×(Int→Bool)))=>Q0x d.1 d.2) ⟨.nil,XsOk.nil,ItsOk.nil,YlOk.nil,IysOk.nil,XfOk.nil⟩ (Q8z) fun d hp=>h d.1 d.2 hp
theorem X2f {l:List Int}{p:Int→Bool}{k:Nat}(hk:k<l.length) (h:p l[k]=true) (hJ:(l.take k).any p=false):idxF l p=k:=by
 have:l.findIdx? p=some k:=by rw[List.findIdx?_eq_some_iff_getElem];refine⟨hk,h,fun j hj=>?_⟩;have hn:=List.any_eq_false.1 hJ l[j] (List.mem_take_iff_getElem.2 ⟨j,by omega,rfl⟩);simpa using hn
 simp[idxF,this]
theorem X45 {l:List Int}{p:Int→Bool}(hJ:l.any p=false):idxF l p=-1:=by
 have:l.findIdx? p=none:=by rw[List.findIdx?_eq_none_iff];intro x hx;have:=List.any_eq_false.1 hJ x hx;simpa using this
 simp[idxF,this]
theorem J93 (l:List Int) (p:Int→Bool):decide (idxF l p≥0)=l.any p:=by
 unfold idxF;cases h:l.findIdx? p with
 |none =>
  have:=List.findIdx?_eq_none_iff.1 h;have:l.any p=false:=by rw[List.any_eq_false];intro x hx;simp[this x hx]
  rw[this];rfl
 |some i =>obtain⟨h1,h2,_⟩:=List.findIdx?_eq_some_iff_getElem.1 h;rw[List.any_eq_true.2 ⟨l[i],List.getElem_mem h1,h2⟩];simp
theorem Q99:Q9c:=Q9n fun l p hp=>by
 unfold Q0x;(try delta lI gD sT I64);simp only[true_and,and_true,exists_eq_left',exists_const,decide_eq_true_eq,decide_eq_false_iff_not];refine LoopP.count l.length (fun k=>(l.take k).any p.2=false) (by simp) fun k hk1 hJ q hq=>?_;simp only[Int.toNat_natCast,Int.ofNat_lt,Q1a];refine⟨fun hlt=>?_,fun hge=>?_⟩
 ·rw[Q03 hlt];refine⟨by omega,hlt,hp.2 _ (List.getElem_mem hlt),fun hx=>?_,fun hx=>⟨by omega,hq hlt ?_⟩⟩
  ·rw[X2f hlt hx hJ]
  ·rw[Q2d hlt,List.any_append,hJ];simp[hx]
 ·rw[List.take_of_length_le (by omega)] at hJ;rw[X45 hJ]
def Q35:AL (List Int×((Int→Prop)×(Int→Bool))):=(.cons (.k (.list (.i .i64))) (.one (.fn [(.i .i64)] .bo)))
def Q72 (d:List Int×((Int→Prop)×(Int→Bool))):Prop:=d.1.length≤1000000∧∀ x∈d.1,d.2.1 x
def Q32 (d:List Int×((Int→Prop)×(Int→Bool))):SV:=.val .bo (d.1.any d.2.2)
def Q2x (d:List Int×((Int→Prop)×(Int→Bool))):List OB:=[]
def Q1g:CSp:=mkSp Q35 Q72 Q32 Q2x
def Q19 (l:List Int) (p:(Int→Prop)×(Int→Bool)):Prop :=
 (l.length≤1000000∧∀ x∈l,(fun (x1:Int)=>p.1 x1) x)∧((decide ((idxF l (fun (x1:Int)=>(p.2 x1)))≥(0:Int)))=(l.any p.2)∧(True))
def Q38:Cx:=⟨[],[(103,Q2a)],9,[],0,[],[],[],[],false,[],[],[],[]⟩
def Q7j (l:List Int) (p:(Int→Prop)×(Int→Bool)):List (Nat×LoopAnn):=[]
set_option maxRecDepth 100000 in
theorem Q7k (d:List Int×((Int→Prop)×(Int→Bool))):gwp (Q38) (Q7j d.1 d.2) c87 0 (gend [.tmp 4] (Q32 d) (Q2x d)) (gstart 9 (AL.can Q35 d))=Q19 d.1 d.2:=by kernel_rfl
abbrev Q7l:Prop:=OkC Tryz.prog 87 Q1g
theorem Q7h (h:∀ (l:List Int) (p:(Int→Prop)×(Int→Bool)),(l.length≤1000000∧∀ x∈l,p.1 x)→Q19 l p):OkC Tryz.prog 87 Q1g :=
 Q1b fun87 mixed (C:=Q38) (V:=fun (d:List Int×((Int→Prop)×(Int→Bool)))=>Q19 d.1 d.2) ⟨(.cons Q99 .nil),XsOk.nil,ItsOk.nil,YlOk.nil,IysOk.nil,XfOk.nil⟩ (Q7k) fun d hp=>h d.1 d.2 hp
theorem Q7e:Q7l:=Q7h fun l p hp=>by exact⟨hp,J93 l p.2,trivial⟩
def Z3t:AL (Int×Int×List Int):=(.cons (.k (.i .i64)) (.cons (.k (.i .i64)) (.one (.k (.list (.i .i64))))))
def Z9r (d:Int×Int×List Int):Prop:=d.2.2.length≤1000000
def Z29 (d:Int×Int×List Int):SV:=.val .bo (!(d.2.2.any fun n=>decide (n<d.1)||decide (d.2.1<n)))
def Z2u (d:Int×Int×List Int):List OB:=[]
def Q3l:CSp:=mkSp Z3t Z9r Z29 Z2u
def Q9p (a:Int) (b:Int) (l:List Int):Prop :=
 (l.length≤1000000∧∀ x∈l,(fun (x1:Int)=>True) x)∧((!(l.any (fun (x1:Int)=>(decide (x1<a)||decide (b<x1)))))=(!(l.any fun n=>decide (n<a)||decide (b<n)))∧(True))
def Z3l:Cx:=⟨[],[(87,Q1g),(88,Q7x)],11,[],0,[],[],[],[],false,[],[],[],[]⟩
def J1l (a:Int) (b:Int) (l:List Int):List (Nat×LoopAnn):=[]
set_option maxRecDepth 100000 in
theorem J0e (d:Int×Int×List Int):gwp (Z3l) (J1l d.1 d.2.1 d.2.2) c61 0 (gend [.tmp 6] (Z29 d) (Z2u d)) (gstart 11 (AL.can Z3t d))=Q9p d.1 d.2.1 d.2.2:=by kernel_rfl
abbrev J0v:Prop:=OkC Tryz.prog 61 Q3l
theorem J12 (h:∀ (a:Int) (b:Int) (l:List Int),(l.length≤1000000)→Q9p a b l):OkC Tryz.prog 61 Q3l :=
 Q1b fun61 mixed (C:=Z3l) (V:=fun (d:Int×Int×List Int)=>Q9p d.1 d.2.1 d.2.2) ⟨(.cons Q7e (.cons Z8j .nil)),XsOk.nil,ItsOk.nil,YlOk.nil,IysOk.nil,XfOk.nil⟩ (J0e) fun d hp=>h d.1 d.2.1 d.2.2 hp
theorem Q66:J0v:=J12 fun a b l h=>by exact⟨⟨h,fun _ _=>trivial⟩,rfl,trivial⟩
end Go.Proofs.Tryz
set_option linter.unusedVariables false
namespace Go.Proofs.Tryz
open Go Go.V Go.Proofs
def Z72:AL (Int×Int):=(.cons (.k (.i .i64)) (.one (.k (.i .i64))))
def J2x (d:Int×Int):Prop:=True
def Z58 (d:Int×Int):SV:=.agg [.val (.i .i64) d.1,.val (.i .i64) d.2]
def Z57 (d:Int×Int):List OB:=[]
def Z3c:CSp:=mkSp Z72 J2x Z58 Z57
def Z23 (a:Int) (b:Int):Prop :=
 ((a=a∧b=b∧(([]:List SV)=[]))∧(True))
def Z6t:Cx:=⟨[],[],8,[],0,[],[],[],[],false,[],[],[],[]⟩
def J5u (a:Int) (b:Int):List (Nat×LoopAnn):=[]
set_option maxRecDepth 100000 in
theorem J65 (d:Int×Int):gwp (Z6t) (J5u d.1 d.2) c48 0 (gend [.cell 4 true 2] (Z58 d) (Z57 d)) (gstart 8 (AL.can Z72 d))=Z23 d.1 d.2:=by kernel_rfl
abbrev J5g:Prop:=OkC Tryz.prog 48 Z3c
theorem J5z (h:∀ (a:Int) (b:Int),(True)→Z23 a b):OkC Tryz.prog 48 Z3c :=
 Q1b fun48 mixed (C:=Z6t) (V:=fun (d:Int×Int)=>Z23 d.1 d.2) ⟨.nil,XsOk.nil,ItsOk.nil,YlOk.nil,IysOk.nil,XfOk.nil⟩ (J65) fun d hp=>h d.1 d.2 hp
theorem J4p:J5g:=J5z fun a b _=>(by and_intros<;>first|rfl|trivial|simp)
end Go.Proofs.Tryz
namespace Go.V
open Go
theorem X4r {P:Program}{σ:Heap}:Ret P σ (.val .bo true) [] (.bool true) σ :=
 ⟨⟨.refl _,Dead.refl _⟩,fun _=>rfl,noPl,fun j b hj=>by simp at hj,fun j j' i hj=>by simp at hj,by simp[SR,KC]⟩
theorem X5a {P:Program}{f:Nat}(h:∀ (σ:Heap) (K:Value→Heap→Prop),K (.bool true) σ→VCalled P f [] σ K):OkC P f (mkSp (.nil:AL Unit) (fun _=>True) (fun _=>.val .bo true) (fun _=>[])):=by
 intro ap hap σ args vs c v bs hargs hs hv hbs hc;unfold mkSp at hs;split at hs
 ·rename_i d hd;obtain⟨rfl,rfl,rfl⟩:=(by simpa using hs:True=c∧SV.val .bo true=v∧[]=bs);have:vs=[]:=by
   cases args with
   |nil=>simpa [SRs] using hargs
   |cons a l=>simp[AL.dec] at hd
  subst this;refine⟨h σ _ X4r,fun _ _=>h σ _ ⟨rfl,?_⟩⟩;unfold canH;cases σ;simp only[List.length_nil,Nat.add_zero,List.getElem?_nil,Option.bind_none,Heap.mk.injEq,and_true];funext i;split
  ·rfl
  ·rename_i wf hi;exact wf i (by simpa using hi)
 ·cases hs
end Go.V
namespace Go.V
open Go Go.ChangeShapes Go.WideShapes Go.RowKit Go.Deep Go.Joins
def Heap.RO (σ:Heap):Prop:=∀ i b,σ.get i=some b→b.wr=false
structure View (w:World) (ρ:Plc) (σ:Heap):Prop where
 rel:HRel ρ σ w
 ro:σ.RO
structure More (ρ:Plc) (σ:Heap) (ρ':Plc) (σ':Heap):Prop where
 n:σ.n≤σ'.n
 pl:∀ i,i<σ.n→∀ p,ρ' i=some p→ρ i=some p
 ag:Agree σ σ'
theorem More.refl (ρ:Plc) (σ:Heap):More ρ σ ρ σ:=⟨Nat.le_refl _,fun _ _ _ h=>h,Agree.refl _⟩
theorem More.trans {ρ ρ' ρ'':Plc}{σ σ' σ'':Heap}(h:More ρ σ ρ' σ') (k:More ρ' σ' ρ'' σ''):More ρ σ ρ'' σ'' :=
 ⟨Nat.le_trans h.n k.n,fun i hi p hp=>h.pl i hi p (k.pl i (Nat.lt_of_lt_of_le hi h.n) p hp),h.ag.trans k.ag h.n⟩
def Tabs (w:World):Prop:=∀ g cs,gtab g=some cs→∃ e f,w.heap[g]?=some (.cells cs.toArray e f)
theorem View.emptyT (w:World) (ht:Tabs w):View w (fun _=>none) Heap.empty where
 rel:=⟨⟨fun i b h=>(by cases h),fun _ _=>rfl,fun i p h=>(by cases h),fun i j p q b _ h=>(by cases h)⟩,fun g cs hg=>⟨ht g cs hg,fun ⟨_,_,_,h,_⟩=>by cases h⟩⟩
 ro:=fun i b h=>by cases h
theorem View.add {w:World}{ρ:Plc}{σ:Heap}(h:View w ρ σ) (p:Pl) (c:List Value) {C:Array Value}{e:TypeId}{f:Nat×Nat}(hb:w.heap[p.blk]?=some (.cells C e f)) (hs:p.shift+p.ext≤C.size) (hl:c.length≤p.ext) (ht:e=p.esz.ty)
  (hc:∀ (k:Nat) (v:Value),c[k]?=some v→∃ u,w.cell? ⟨p.blk,p.shift+k,none⟩=some u∧VRel ρ σ.n v u) :
  View w (ρ.put σ.n (some p)) (σ.push (.cells c p.esz false p.tight))∧More ρ σ (ρ.put σ.n (some p)) (σ.push (.cells c p.esz false p.tight)):=by
 have hpl:∀ i,i<σ.n→∀ q,(ρ.put σ.n (some p)) i=some q→ρ i=some q:=fun i hi q hq=>by unfold Plc.put at hq;rwa [if_neg (by omega)] at hq
 have hro:(σ.push (.cells c p.esz false p.tight)).RO:=fun i b hi=>by
  by_cases e:i=σ.n
  ·subst e;rw[Heap.get_push_self] at hi;obtain rfl:=osj hi;rfl
  ·rw[Heap.get_push_ne _ _ e] at hi;exact h.ro i b hi
 refine⟨⟨⟨⟨?_,?_,?_,?_⟩,fun g cs hg=>⟨(h.rel.tab g cs hg).1,fun ⟨i,_,b,_,hi,hw,_⟩=>by rw[hro i b hi] at hw;cases hw⟩⟩,hro⟩,⟨by simp,hpl,fun i hi=>Heap.get_push_lt _ _ hi⟩⟩
 ·intro i b hi;by_cases hin:i=σ.n
  ·subst hin;rw[Heap.get_push_self] at hi;obtain rfl:=osj hi;refine⟨p,by simp[Plc.put],rfl,rfl,hl,⟨C,e,f,hb,hs,ht⟩,fun k v hk=>?_,fun h=>by cases h⟩;obtain⟨u,hu,hv⟩:=hc k v hk;exact⟨u,hu,hv.mono (by simp) hpl⟩
  ·rw[Heap.get_push_ne _ _ hin] at hi;obtain⟨q,hq,hB⟩:=h.rel.live i b hi;exact⟨q,by simp[Plc.put,hin,hq],hB.mono (by simp) hpl rfl⟩
 ·intro i hi;by_cases hin:i=σ.n
  ·subst hin;rw[Heap.get_push_self] at hi;cases hi
  ·rw[Heap.get_push_ne _ _ hin] at hi;simp[Plc.put,hin,h.rel.dead i hi]
 ·intro i q hq;by_cases hin:i=σ.n
  ·subst hin;simp[Plc.put] at hq;subst hq;exact(Array.getElem?_eq_some_iff.1 hb).1
  ·simp[Plc.put,hin] at hq;exact h.rel.lt i q hq
 ·intro i j q r b _ _ _ hb' hw _;rw[hro i b hb'] at hw;cases hw
theorem X3m {P:Program}{fits:TypeId→Bool}{d:Nat}{e:TypeId}{count off n:Nat}(h:rowAt P fits d e count off n=true):off≤count*P.cellsOf e:=by
 cases d with
 |zero=>cases h
 |succ d =>
  unfold rowAt at h;by_cases hs:P.cellsOf e=0
  ·simp[hs] at h
  ·have hpos:0<P.cellsOf e:=Nat.pos_of_ne_zero hs;simp only[hs,if_false,Bool.or_eq_true,Bool.and_eq_true,beq_iff_eq,decide_eq_true_eq] at h;have hd:=Nat.div_add_mod off (P.cellsOf e);have hm:=Nat.mod_lt off hpos;rcases h with⟨⟨h1,h2⟩,_⟩|⟨h1,_⟩
   ·have:P.cellsOf e*(off / P.cellsOf e)≤P.cellsOf e*count:=Nat.mul_le_mul_left _ (by omega);rw[Nat.mul_comm count];omega
   ·have:P.cellsOf e*(off / P.cellsOf e+1)≤P.cellsOf e*count:=Nat.mul_le_mul_left _ (by omega);rw[Nat.mul_add] at this;rw[Nat.mul_comm count];omega
theorem J3p {P:Program}:∀ {d:Nat}{e:TypeId}{count off:Nat}{u:TypeId}{n:Nat},liesAt P d e count off u n=true→off≤count*P.cellsOf e
 |0,_,_,_,_,_,h=>by cases h
 |d+1,e,count,off,u,n,h=>by
  unfold liesAt at h;rw[Bool.or_eq_true] at h;rcases h with h|h
  ·exact X3m h
  ·split at h
   ·exact J3p h
   ·cases h
theorem X3a {P:Program}{w:World}{r:Reach}{base:Nat}{a:Addr}{e:TypeId}{n:Nat}(h:w.has P r base a e n):∃ C row f,w.heap[a.block]?=some (.cells C row f)∧a.off≤C.size∧a.spot=none:=by
 obtain⟨_,hs,row,cells,hsh,hl⟩:=h;unfold World.shape? at hsh;split at hsh
 ·rename_i C e' f hb;obtain⟨rfl,rfl⟩:=(by simpa using hsh:e'=row∧C.size=cells);exact⟨C,e',f,hb,Nat.le_trans (J3p hl) (Nat.div_mul_le_self _ _),hs⟩
 ·cases hsh
theorem J6j {P:Program}{w:World}{r:Reach}{base:Nat}{t e:TypeId}{v:Value}(ht:P.underlying t=some (.slice e)) (h:Cell.okWide P w r base t v) :
  v=.slice none 0 0∨∃ a len cap,v=.slice (some a) len cap∧w.has P r base a e cap:=by
 unfold Cell.okWide at h;rw[ht] at h;have h':Cell.ok P w r base t v:=by split at h<;>first|exact h|simp_all
 unfold Cell.ok at h';rw[ht] at h';split at h'<;>first|exact .inl rfl|(cases h';done)|skip
 all_goals first|(rename_i h1 h2;simp_all;done)|skip
 all_goals first|(simp_all;exact⟨_,_,_,⟨rfl,rfl,rfl⟩,h'.2.2⟩)|(simp_all)
theorem X8c {k:IntKind}{x:Int}(h:(Lit.int k x).wf=true):k.min≤x∧x≤k.max:=by simpa [Lit.wf] using h
theorem View.calls {P:Program}{f:FuncId}{w:World}{ρ:Plc}{σ:Heap}(h:View w ρ σ) {args:List Value}{cargs:Array Value}(hl:LRel ρ σ.n args cargs.toList) (hc:VCallsTo P f args σ fun v _=>v=.bool true) :
  Calls P f cargs w fun e w'=>e=.returned (.bool true)∧Below w.heap.size w w':=by
 refine (hc ρ w cargs h.rel hl).mono fun e w' ⟨c,he,v,ρ',σ',hv,hr,_,hx⟩=>?_;subst hv;have:c=.bool true:=by cases hr;rfl
 subst this;exact⟨he,hx.os,hx.tape,hx.output,hx.size,fun B hB=>hx.keep B hB fun ⟨i,p,b,_,hi,hw,_⟩=>by rw[h.ro i b hi] at hw;cases hw⟩
theorem Z6f {H:Type}{enc:TypeId×Value→H}{P:Program}(hl:laidOutB P=true) {W W':World}{sp:Nat→Bool}(hb:Below W.heap.size W W') :
  ∀ {ts:List TypeId}{vs:List Value}{ds:List (DataW H)}{ps:List MemPlace},(∀ t∈ts,P.readableRec t=true∧t<P.types.size)→DataW.TrodAll enc P W 0 (fun _=>true) true ts vs ds ps→(∀ p∈ps,p.block<W.heap.size)→(∀ p∈ps,sp p.block=true) →
   DataW.TrodAll enc P W' 0 sp true ts vs ds ps
 |[],vs,ds,ps,_,h,_,_=>by obtain⟨rfl,rfl,rfl⟩:=trodAll_nil h;rfl
 |t::ts,vs,ds,ps,ht,h,hlt,hs=>by
  obtain⟨v,vs',d,ds',p,q,rfl,rfl,rfl,h1,h2⟩:=trodAll_cons h;obtain⟨r1,r2⟩:=ht t (by simp);exact⟨p,q,WideElems.Trod_stays hl r1 r2 h1 (fun x hx=>hb.same (hlt x (by simp[hx]))) (fun x hx=>hs x (by simp[hx])),
   Z6f hl hb (fun t ht'=>ht t (by simp[ht'])) h2 (fun x hx=>hlt x (by simp[hx])) (fun x hx=>hs x (by simp[hx])),rfl⟩
theorem X2v {H:Type}{enc:TypeId×Value→H}{P:Program}{f:Func}{s:ChangeSpec}{apart fresh handsOn again:Bool}{W W':World}{args:Array Value}{ds gs:List (DataW H)}{before:List MemPlace}{tb:TypeId}
  (hl:laidOutB P=true) (hp:f.params.toList.all (fun t=>P.readableRec t&&decide (t<P.types.size))=true) (hvars:s.vars=[]) (hr:f.resultTypes=#[tb]) (hb1:P.underlying tb=some .bool) (hs:s.fn H ds={results:=[.lit (.bool true)],args:=ds})
  (hW:DataW.Whole enc P f.params.toList s.vars apart W args.toList ds gs before) (hb:Below W.heap.size W W'):s.post enc P f apart fresh handsOn again W args (.bool true) W':=by
 have hlt:∀ p∈before,p.block<W.heap.size:=fun p hp=>hW.lt p hp;have hW0:=hW;obtain⟨p,q,hA,hV,rfl,hz,hn⟩:=hW;rw[hvars] at hV;obtain⟨rfl,rfl⟩:=trodVars_none hV;have hp':∀ t∈f.params.toList,P.readableRec t=true∧t<P.types.size:=fun t ht=>by have:=List.all_eq_true.1 hp t ht;simpa using this
 have hsg:s.fn H (ds++[])={results:=[.lit (.bool true)],args:=ds}:=by rw[List.append_nil];exact hs
 have hres:∀ (b:Nat) (sp:Nat→Bool) (hd:Bool),DataW.TrodAll enc P W' b sp hd f.resultTypes.toList ((Value.bool true).resultList f.resultTypes.size) (s.fn H (ds++[])).results []:=fun b sp hd=>by rw[hsg,hr];exact trodAll_mk1 (shut_bool hb1 _)
 have hargs:∀ sp:Nat→Bool,(∀ x∈p++[],sp x.block=true)→DataW.TrodAll enc P W' 0 sp true f.params.toList args.toList (s.fn H (ds++[])).args p:=fun sp hsp=>by rw[hsg];exact Z6f hl hb hp' hA (fun x hx=>hlt x (by simp[hx])) (fun x hx=>hsp x (by simp[hx]))
 have hvs:∀ sp:Nat→Bool,DataW.TrodVars enc P W' sp s.vars (s.fn H (ds++[])).vars []:=fun sp=>by rw[hsg,hvars];rfl
 have hold:∀ x∈p++[],(fun b=>decide (b<W.heap.size)) x.block=true:=fun x hx=>by simpa using hlt x hx
 refine⟨ds,[],p++[],[],p,[],hW0,hres _ _ _,hargs _ hold,hvs _,World.keptBut_mono (fun x hx=>⟨hx,?_⟩) (hb.frame (·∈p++[])),fun _=>?_⟩
 ·exact .inr (by simpa using hx)
 ·refine⟨ok_one hr rfl (okWide_bool_mk hb1 _),_,_,([]++p)++[],⟨[]++p,[],trodAll_append (hargs _ (fun _ _=>rfl)) (hres _ _ _),hvs _,rfl,?_,?_⟩,?_⟩
  ·intro b off hx;have hin:MemPlace.cell b off∈p++[]:=by simpa using hx
   rw[hb.frozen (hlt _ hin)];exact hz b off hin
  ·intro ha;simpa using hn ha
  ·intro x hx _;simpa using hx
end Go.V
namespace Go.V
open Go Go.ChangeShapes Go.WideShapes Go.RowKit Go.Deep Go.Joins
def KFs (T:Kind→TypeId→Bool) (sz:TypeId→Nat):Kind→List (TypeId×Nat)→Nat→Bool
 |_,[],_=>false
 |k,[p],off=>p.2==off&&(sz p.1==k.size&&T k p.1)
 |.pair a b,p::q::r,off=>p.2==off&&(sz p.1==a.size&&(T a p.1&&KFs T sz b (q::r) (off+a.size)))
 |_,_::_::_,_=>false
def KTy (P:Program):Nat→Kind→TypeId→Bool
 |0,_,_=>false
 |n+1,k,t=>match P.underlying t with
  |some (.struct fs)=>P.cellsOf t==k.size&&KFs (KTy P n) P.cellsOf k (fs.toList.map fun f=>(f.type,f.offset)) 0
  |some (.array m e)=>P.cellsOf t==k.size&&KFs (KTy P n) P.cellsOf k ((List.range m).map fun i=>(e,i*P.cellsOf e)) 0
  |some (.int ik)=>(match k with|.i k'=>decide (k'=ik)|_=>false)
  |some .bool=>(match k with|.bo=>true|_=>false)
  |some .string=>(match k with|.st=>true|_=>false)
  |some (.slice e)=>(match k with|.list k'=>P.cellsOf e==k'.size&&(k'.flat&&KTy P n k' e)|_=>false)
  |_=>false
def KWf:(k:Kind)→k.T→Prop
 |.i ik,x=>InK ik x
 |.bo,_=>True
 |.st,s=>s.length≤maxLen
 |.list k,l=>l.length≤maxLen∧∀ x∈l,KWf k x
 |.pair a b,x=>KWf a x.1∧KWf b x.2
theorem More.le {ρ ρ':Plc}{σ σ':Heap}(h:More ρ σ ρ' σ'):σ.Le σ':=⟨h.n,fun i b hb=>by rw[h.ag i (σ.lt hb)];exact hb⟩
def ArgIs (w:World) (ρ:Plc) (σ:Heap) (k:Kind) (cs:List Value):Prop :=
 ∃ ρ' σ' vs x,View w ρ' σ'∧More ρ σ ρ' σ'∧LRel ρ' σ'.n vs cs∧KC σ' k x vs∧KWf k x
theorem ArgIs.pair {w:World}{ρ:Plc}{σ:Heap}{a b:Kind}{cs ds:List Value}(h1:ArgIs w ρ σ a cs) (h2:∀ ρ σ,View w ρ σ→ArgIs w ρ σ b ds):ArgIs w ρ σ (.pair a b) (cs++ds):=by obtain⟨ρ1,σ1,vs1,x1,k1,k2,k3,k4,k5⟩:=h1;obtain⟨ρ2,σ2,vs2,x2,m1,m2,m3,m4,m5⟩:=h2 ρ1 σ1 k1;exact⟨ρ2,σ2,vs1++vs2,(x1,x2),m1,k2.trans m2,(k3.mono m2.n m2.pl).append m3,⟨vs1,vs2,rfl,k4.mono m2.le,m4⟩,k5,m5⟩
section
variable {H:Type}{enc:TypeId×Value→H}{P:Program}{w:World}{r:Reach}{base:Nat}
def okc (P:Program) (w:World) (r:Reach) (base:Nat) (ts:List TypeId) (cs:List Value):Prop:=∀ (i:Nat) v u,cs[i]?=some v→ts[i]?=some u→Cell.okWide P w r base u v
theorem J8t {T:Kind→TypeId→Bool}{sz:TypeId→Nat}{g:TypeId→Option (List TypeId)}(hT:∀ k t ts,T k t=true→g t=some ts→ts.length=k.size) :
  ∀ {k:Kind}{L:List (TypeId×Nat)}{off:Nat}{tss:List (List TypeId)},KFs T sz k L off=true→L.mapM (fun p=>g p.1)=some tss→tss.flatten.length=k.size
 |k,[],_,_,h,_=>by simp[KFs] at h
 |k,[p],off,tss,h,hm=>by
  simp only[KFs,Bool.and_eq_true] at h;cases hg:g p.1 with
  |none=>simp[hg] at hm
  |some ts =>simp[hg] at hm;subst hm;simpa using hT _ _ _ h.2.2 hg
 |.pair a b,p::q::r,off,tss,h,hm=>by
  simp only[KFs,Bool.and_eq_true] at h;rw[List.mapM_cons] at hm;cases hg:g p.1 with
  |none=>simp[hg] at hm
  |some ts =>
   cases hr:(q::r).mapM (fun p=>g p.1) with
   |none=>simp[hg,hr] at hm
   |some tr =>simp[hg,hr] at hm;subst hm;have:=J8t hT h.2.2.2 hr;simp only[List.flatten_cons,List.length_append,this,hT _ _ _ h.2.2.1 hg,Kind.size]
 |.i _,_::_::_,_,_,h,_|.bo,_::_::_,_,_,h,_|.st,_::_::_,_,_,h,_|.list _,_::_::_,_,_,h,_=>by cases h
theorem Z6l {α β γ:Type}{f:α→β}{g:β→Option γ}:∀ (l:List α),(l.map f).mapM g=l.mapM (fun x=>g (f x))
 |[]=>rfl
 |a::l=>by simp only[List.map_cons,List.mapM_cons,Z6l l]
theorem Z87 {β:Type}{x:β}{f:Nat→Option β}(h:∀ i,f i=some x):∀ l:List Nat,l.mapM f=some (List.replicate l.length x)
 |[]=>rfl
 |a::l=>by simp[List.mapM_cons,h,Z87 h l,List.replicate_succ]
theorem J9a:∀ {n:Nat}{k:Kind}{t:TypeId}{d:Nat}{ts:List TypeId},KTy P n k t=true→P.cellTypes d t=some ts→ts.length=k.size
 |0,_,_,_,_,h,_=>by cases h
 |_+1,_,_,0,_,_,h=>by cases h
 |n+1,k,t,d+1,ts,h,ht=>by
  have ih:∀ k t ts,KTy P n k t=true→P.cellTypes d t=some ts→ts.length=k.size:=fun k t ts h1 h2=>J9a h1 h2;unfold Program.cellTypes at ht;unfold KTy at h;cases hu:P.underlying t with
  |none=>rw[hu] at h;cases h
  |some u =>
   rw[hu] at h ht;cases u<;>first|(cases h;done)|skip
   all_goals simp only at h ht
   ·split at h<;>first|(cases h;done)|(obtain rfl:=osj ht;rfl)
   ·split at h<;>first|(cases h;done)|(obtain rfl:=osj ht;rfl)
   ·split at h<;>first|(cases h;done)|(obtain rfl:=osj ht;rfl)
   ·split at h<;>first|(cases h;done)|(obtain rfl:=osj ht;rfl)
   ·rename_i m e;rw[Bool.and_eq_true] at h;cases hc:P.cellTypes d e with
    |none=>rw[hc] at ht;cases ht
    |some te =>rw[hc] at ht;obtain rfl:=osj ht;refine J8t (g:=fun t=>P.cellTypes d t) ih h.2 ?_;rw[Z6l,Z87 (x:=te) (fun _=>hc)];simp
   ·rename_i fs;rw[Bool.and_eq_true] at h;cases hc:fs.toList.mapM fun f=>P.cellTypes d f.type with
    |none=>rw[hc] at ht;cases ht
    |some tss =>rw[hc] at ht;obtain rfl:=osj ht;refine J8t (g:=fun t=>P.cellTypes d t) ih h.2 ?_;rw[Z6l];exact hc
theorem Z6b {T:Kind→TypeId→Bool}{sz:TypeId→Nat}{Q:TypeId→List Value→Prop}{R:Kind→List Value→Prop}(hT:∀ k t cs,T k t=true→Q t cs→R k cs) (hR:∀ a b cs ds,R a cs→R b ds→R (.pair a b) (cs++ds)) (cs:List Value) :
  ∀ {k:Kind}{L:List (TypeId×Nat)}{off:Nat},KFs T sz k L off=true→(∀ p∈L,Q p.1 ((cs.drop p.2).take (sz p.1)))→R k ((cs.drop off).take k.size)
 |k,[],_,h,_=>by simp[KFs] at h
 |k,[p],off,h,hq=>by simp only[KFs,Bool.and_eq_true,beq_iff_eq] at h;have:=hq p (by simp);rw[h.1,h.2.1] at this;exact hT _ _ _ h.2.2 this
 |.pair a b,p::q::r,off,h,hq=>by
  simp only[KFs,Bool.and_eq_true,beq_iff_eq] at h;have h1:=hq p (by simp);rw[h.1,h.2.1] at h1;have h2:=Z6b hT hR cs h.2.2.2 fun x hx=>hq x (List.mem_cons_of_mem _ hx);have e:(cs.drop off).take (Kind.pair a b).size=(cs.drop off).take a.size++(cs.drop (off+a.size)).take b.size:=by rw[Kind.size,List.take_add,List.drop_drop]
  rw[e];exact hR _ _ _ _ (hT _ _ _ h.2.2.1 h1) h2
 |.i _,_::_::_,_,h,_|.bo,_::_::_,_,h,_|.st,_::_::_,_,h,_|.list _,_::_::_,_,h,_=>by cases h
def FlatIs (k:Kind) (cs:List Value):Prop:=∃ y:k.T,(∀ h,KC h k y cs)∧KWf k y∧∀ ρ m,LRel ρ m cs cs
theorem FlatIs.pair {a b:Kind}{cs ds:List Value}(h1:FlatIs a cs) (h2:FlatIs b ds):FlatIs (.pair a b) (cs++ds):=by obtain⟨x,k1,k2,k3⟩:=h1;obtain⟨y,m1,m2,m3⟩:=h2;exact⟨(x,y),fun h=>⟨cs,ds,rfl,k1 h,m1 h⟩,⟨k2,m2⟩,fun ρ m=>(k3 ρ m).append (m3 ρ m)⟩
theorem LRel.one {ρ:Plc}{n:Nat}{v c:Value}(h:VRel ρ n v c):LRel ρ n [v] [c]:=.cons h (.nil _ _)
theorem Z6c {fs:Array Field}{f:Field}(h:f∈fs.toList):∃ i:Nat,fs[i]?=some f:=by obtain⟨i,hi,rfl⟩:=List.mem_iff_getElem.1 h;exact⟨i,by simp at hi;simp[hi]⟩
theorem J5r {sp:Nat→Bool}{held:Bool}:∀ {n:Nat}{k:Kind}{t:TypeId}{fuel:Nat}{cs:List Value}{x:DataW H×List MemPlace},KTy P n k t=true→k.flat=true→DataW.trod enc P w base sp held fuel t cs=some x→FlatIs k cs
 |0,_,_,_,_,_,h,_,_=>by cases h
 |n+1,k,t,fuel,cs,x,h,hf,hx=>by
  unfold KTy at h;cases hu:P.underlying t with
  |none=>rw[hu] at h;cases h
  |some u =>
   rw[hu] at h;have hR:∀ a b cs ds,((a.flat=true→FlatIs a cs)∧True)→((b.flat=true→FlatIs b ds)∧True)→(((Kind.pair a b).flat=true→FlatIs (.pair a b) (cs++ds))∧True):=fun a b cs ds h1 h2=>⟨fun hf=>by
    simp only[Kind.flat,Bool.and_eq_true] at hf;exact(h1.1 hf.1).pair (h2.1 hf.2),trivial⟩
   have hT:∀ k t cs,KTy P n k t=true→(∃ fuel x,DataW.trod enc P w base sp held fuel t cs=some x)→((k.flat=true→FlatIs k cs)∧True):=fun k t cs h1 ⟨fuel,x,h2⟩=>⟨fun hf=>J5r h1 hf h2,trivial⟩;cases u<;>first|(cases h;done)|skip
   all_goals simp only at h
   ·split at h<;>first|(cases h;done)|skip
    obtain⟨b,rfl,_⟩:=DataW.trod_bool hu hx;exact⟨b,fun _=>rfl,trivial,fun _ _=>.one (.bool _)⟩
   ·split at h<;>first|(cases h;done)|skip
    obtain rfl:=of_decide_eq_true h;obtain⟨z,rfl,_,hw⟩:=DataW.trod_int hu hx;exact⟨z,fun _=>rfl,X8c hw,fun _ _=>.one (.int _ _)⟩
   ·split at h<;>first|(cases h;done)|skip
    obtain⟨s,rfl,_,hs⟩:=DataW.trod_string hu hx;exact⟨s.data.toList,fun _=>rfl,hs,fun _ _=>.one (.string _)⟩
   ·split at h<;>first|(cases h;done)|(cases hf;done)
   ·rename_i m e;simp only[Bool.and_eq_true,beq_iff_eq] at h;obtain⟨xs,m',_,_,hl,hxl,hx⟩:=DataW.trod_array hu hx;have:=(Z6b (R:=fun k cs=>(k.flat=true→FlatIs k cs)∧True) hT hR cs h.2 fun p hp=>by
     simp only[List.mem_map,List.mem_range] at hp;obtain⟨i,hi,rfl⟩:=hp;have:=hx i hi;rw[List.getElem?_eq_getElem (by omega)] at this;exact⟨_,_,this⟩).1 hf
    rwa [List.drop_zero,List.take_of_length_le (by omega)] at this
   ·rename_i fs;simp only[Bool.and_eq_true,beq_iff_eq] at h;obtain⟨xs,m',_,_,hl,hxl,hx⟩:=DataW.trod_struct hu hx;have:=(Z6b (R:=fun k cs=>(k.flat=true→FlatIs k cs)∧True) hT hR cs h.2 fun p hp=>by
     simp only[List.mem_map] at hp;obtain⟨f,hf',rfl⟩:=hp;obtain⟨i,hi⟩:=Z6c hf';have:=hx i f hi;have hil:i<fs.size:=(Array.getElem?_eq_some_iff.1 hi).1;rw[List.getElem?_eq_getElem (by omega)] at this;exact⟨_,_,this⟩).1 hf
    rwa [List.drop_zero,List.take_of_length_le (by omega)] at this
theorem Rows.range {α:Type}{R:α→List Value→Prop}{n:Nat}{c:List Value}{x:Nat→α}:∀ (m:Nat),(∀ i,i<m→R (x i) ((c.drop (i*n)).take n))→Rows R ((List.range m).map x) (c.take (m*n))
 |0,_=>by simp;exact .nil
 |m+1,h=>by
  have e:c.take ((m+1)*n)=c.take (m*n)++(c.drop (m*n)).take n:=by rw[Nat.add_mul,Nat.one_mul,List.take_add]
  rw[List.range_succ,List.map_append,e];exact(Rows.range m fun i hi=>h i (by omega)).append (by simpa using Rows.cons (h m (by omega)) .nil)
theorem J74 {α:Type}[Inhabited α] {m:Nat}{p:Nat→α→Prop}(h:∀ i,i<m→∃ x,p i x):∃ f:Nat→α,∀ i,i<m→p i (f i) :=
 ⟨fun i=>if hi:i<m then (h i hi).choose else default,fun i hi=>by simp only[hi,dif_pos];exact(h i hi).choose_spec⟩
instance KInh (k:Kind):Inhabited k.T:=⟨k.dflt⟩
theorem View.list {ρ:Plc}{σ:Heap}(h:View w ρ σ) {n:Nat}{k:Kind}{t e:TypeId}{fuel:Nat}{cs:List Value}{x:DataW H×List MemPlace}(hu:P.underlying t=some (.slice e)) (hs:P.cellsOf e=k.size) (hf:k.flat=true) (hk:KTy P n k e=true)
  (hx:DataW.trod enc P w 0 (fun _=>true) true fuel t cs=some x) (hok:okc P w r base [t] cs):ArgIs w ρ σ (.list k) cs:=by
 rcases open_slice hu hx with⟨rfl,_⟩|⟨a,len,cap,m,fu,D,Pl,rfl,hb,hl,hm,hmm,_,hel⟩
 ·exact⟨ρ,σ,[.slice none 0 0],[],h,More.refl _ _,.one .nilSl,⟨_,rfl,.inl ⟨rfl,rfl⟩⟩,by simp[maxLen],fun _ hx=>by cases hx⟩
 simp only[if_true] at hmm;subst hmm;rw[hs] at hel;have hhas:w.has P r base a e m:=by
  rcases J6j hu (hok 0 _ t rfl rfl) with hh|⟨a',len',cap',hh,h2⟩
  ·cases hh
  ·cases hh;exact h2
 obtain⟨C,row,f,hblk,hoff,hsp⟩:=X3a hhas;obtain⟨blk,off,spot⟩:=a;simp only at hblk hoff hsp;subst hsp;have hadd:∀ i,(⟨blk,off,none⟩:Addr).add i=⟨blk,off+i,none⟩:=fun i=>by unfold Addr.add;split<;>simp_all
 obtain⟨X,hX⟩:=J74 (α:=k.T×List Value) (m:=m) (p:=fun i p=>p.2.length=k.size∧(∀ j,j<k.size→w.cell? ⟨blk,off+i*k.size+j,none⟩=p.2[j]?)∧(∀ h,KC h k p.1 p.2)∧KWf k p.1∧∀ ρ m,LRel ρ m p.2 p.2) fun i hi=>by
  obtain⟨cs',h1,h2⟩:=hel i hi;obtain⟨_,k1,k2⟩:=World.cells?_some h1;obtain⟨y,m1,m2,m3⟩:=J5r hk hf h2;refine⟨(y,cs'),k1,fun j hj=>?_,m1,m2,m3⟩;have:=k2 j hj;rw[hadd] at this;have e2:(⟨blk,off+i*k.size,none⟩:Addr).add j=⟨blk,off+i*k.size+j,none⟩:=by unfold Addr.add;split<;>simp_all
  rw[e2] at this;exact this
 have hpos:=k.size_pos;let c:List Value:=(List.range (m*k.size)).map fun j=>((X (j / k.size)).2[j % k.size]?).getD undef;have hcl:c.length=m*k.size:=by simp[c]
 have hdiv:∀ j,j<m*k.size→j / k.size<m:=fun j hj=>Nat.div_lt_of_lt_mul (by rw[Nat.mul_comm];exact hj);have hcell:∀ j,j<m*k.size→∃ v,c[j]?=some v∧w.cell? ⟨blk,off+j,none⟩=some v∧∀ ρ m,VRel ρ m v v:=fun j hj=>by
  have h1:=hX (j / k.size) (hdiv j hj);have hjm:j % k.size<k.size:=Nat.mod_lt _ hpos;have h2:=h1.2.1 _ hjm;have e:off+j / k.size*k.size+j % k.size=off+j:=by rw[Nat.add_assoc,Nat.div_add_mod']
  rw[e] at h2;have h3:j % k.size<(X (j / k.size)).2.length:=by rw[h1.1];exact hjm
  refine⟨(X (j / k.size)).2[j % k.size],?_,?_,fun ρ m=>(h1.2.2.2.2 ρ m).2 _ _ _ (List.getElem?_eq_getElem h3) (List.getElem?_eq_getElem h3)⟩
  ·simp only[c,List.getElem?_map,List.getElem?_range hj,Option.map_some,List.getElem?_eq_getElem h3,Option.getD_some]
  ·rw[h2,List.getElem?_eq_getElem h3]
 have helt:∀ i,i<m→(c.drop (i*k.size)).take k.size=(X i).2:=fun i hi=>by
  have h1:=hX i hi;have hle:i*k.size+k.size≤m*k.size:=by have:(i+1)*k.size≤m*k.size:=Nat.mul_le_mul_right _ hi;rw[Nat.add_mul] at this;omega
  apply List.ext_getElem?;intro j;by_cases hj:j<k.size
  ·rw[List.getElem?_take_of_lt hj,List.getElem?_drop];have hj2:i*k.size+j<m*k.size:=by omega
   have e1:(i*k.size+j) / k.size=i:=by rw[Nat.mul_comm,Nat.mul_add_div hpos,Nat.div_eq_of_lt hj,Nat.add_zero]
   have e2:(i*k.size+j) % k.size=j:=by rw[Nat.mul_comm,Nat.mul_add_mod,Nat.mod_eq_of_lt hj]
   have h3:j<(X i).2.length:=by rw[h1.1];exact hj
   simp only[c,List.getElem?_map,List.getElem?_range hj2,Option.map_some,e1,e2,List.getElem?_eq_getElem h3,Option.getD_some]
  ·rw[List.getElem?_eq_none (by simp;omega),List.getElem?_eq_none (by omega)]
 have hsz:off+m*k.size≤C.size:=by
  rcases Nat.eq_zero_or_pos (m*k.size) with h0|h0
  ·omega
  ·obtain⟨v,_,h2,_⟩:=hcell (m*k.size-1) (by omega);unfold World.cell? at h2;simp only[hblk] at h2;have:=(Array.getElem?_eq_some_iff.1 (by simpa using h2)).1;omega
 obtain⟨hv,hmo⟩:=h.add ⟨blk,off,m*k.size,⟨k.size,row⟩,false⟩ c hblk hsz (by simp[hcl]) rfl (fun j v hj=>by
  have hjl:j<m*k.size:=by rw[←hcl];exact(List.getElem?_eq_some_iff.1 hj).1
  obtain⟨v',h1,h2,h3⟩:=hcell j hjl;obtain rfl:=osj (hj.symm.trans h1);exact⟨v,h2,h3 _ _⟩)
 have hlen:((List.range len).map fun i=>(X i).1).length=len:=by simp
 refine⟨_,_,[.slice (some ⟨σ.n,0,none⟩) len m],(List.range len).map fun i=>(X i).1,hv,hmo,.one ?_,⟨_,rfl,.inr ⟨σ.n,0,m,c,⟨k.size,row⟩,false,false,by rw[hlen],by rw[hlen];exact hl,Heap.get_push_self _ _,rfl,?_,?_⟩⟩,?_,fun y hy=>?_⟩
 ·refine .sl _ _ _ _ _ _ (by simp) fun p hp=>?_;simp[Plc.put] at hp;subst hp;exact⟨Nat.le_refl _,(fun h=>by cases h),0,by simp,by simp,.inl rfl⟩
 ·rw[hlen,hcl,Nat.zero_add];exact Nat.mul_le_mul_right _ hl
 ·rw[hlen,List.drop_zero];refine Rows.range len fun i hi=>?_;rw[helt i (by omega)];exact(hX i (by omega)).2.2.1 _
 ·rw[hlen];exact Nat.le_trans hl hm
 ·obtain⟨i,hi,rfl⟩:=List.mem_map.1 hy;exact(hX i (by have:=List.mem_range.1 hi;omega)).2.2.2.1
def Kind.lev1:Kind→Bool
 |.list k=>k.flat
 |.pair a b=>a.lev1&&b.lev1
 |_=>true
theorem X0e {ts:List TypeId}{cs:List Value}(h:okc P w r base ts cs) (o n:Nat):okc P w r base ((ts.drop o).take n) ((cs.drop o).take n):=fun i v u h1 h2=>by
 have hi:i<n:=by have:=(List.getElem?_eq_some_iff.1 h1).1;rw[List.length_take] at this;omega
 rw[List.getElem?_take_of_lt hi,List.getElem?_drop] at h1 h2;exact h _ v u h1 h2
theorem J0d {T:Kind→TypeId→Bool}{sz:TypeId→Nat}{g:TypeId→Option (List TypeId)}(hT:∀ k t ts,T k t=true→g t=some ts→ts.length=k.size) :
  ∀ {k:Kind}{L:List (TypeId×Nat)}{off:Nat}{tss:List (List TypeId)},KFs T sz k L off=true→L.mapM (fun p=>g p.1)=some tss→∀ p∈L,off≤p.2∧g p.1=some ((tss.flatten.drop (p.2-off)).take (sz p.1))
 |k,[],_,_,h,_=>by simp[KFs] at h
 |k,[p],off,tss,h,hm=>by
  simp only[KFs,Bool.and_eq_true,beq_iff_eq] at h;intro p' hp;obtain rfl:=List.mem_singleton.1 hp;cases hg:g p'.1 with
  |none=>simp[hg] at hm
  |some ts =>
   simp[hg] at hm;subst hm;refine⟨by omega,?_⟩;rw[h.1,Nat.sub_self,List.drop_zero,h.2.1,List.take_of_length_le]
   ·simp
   ·simp[hT _ _ _ h.2.2 hg]
 |.pair a b,p::q::r,off,tss,h,hm=>by
  simp only[KFs,Bool.and_eq_true,beq_iff_eq] at h;rw[List.mapM_cons] at hm;intro p' hp;cases hg:g p.1 with
  |none=>simp[hg] at hm
  |some ts =>
   cases hr:(q::r).mapM (fun p=>g p.1) with
   |none=>simp[hg,hr] at hm
   |some tr =>
    simp[hg,hr] at hm;subst hm;have hlen:=hT _ _ _ h.2.2.1 hg;rcases List.mem_cons.1 hp with rfl|hp
    ·refine⟨by omega,?_⟩;rw[hg,h.1,Nat.sub_self,List.drop_zero,h.2.1,List.flatten_cons,List.take_append,←hlen,Nat.sub_self,List.take_zero,List.append_nil,List.take_length]
    ·obtain⟨h1,h2⟩:=J0d hT h.2.2.2 hr p' hp;refine⟨by omega,?_⟩;have e1:ts.drop (p'.2-off)=[]:=List.drop_eq_nil_of_le (by omega);have e2:p'.2-off-a.size=p'.2-(off+a.size):=by omega
     rw[h2,List.flatten_cons,List.drop_append,hlen,e1,e2,List.nil_append]
 |.i _,_::_::_,_,_,h,_|.bo,_::_::_,_,_,h,_|.st,_::_::_,_,_,h,_|.list _,_::_::_,_,_,h,_=>by cases h
theorem J5w:∀ {n:Nat}{k:Kind}{t:TypeId}{d:Nat}{ts:List TypeId}{fuel:Nat}{cs:List Value}{x:DataW H×List MemPlace},KTy P n k t=true→k.lev1=true→P.cellTypes d t=some ts→okc P w r base ts cs→DataW.trod enc P w 0 (fun _=>true) true fuel t cs=some x→∀ ρ σ,View w ρ σ→ArgIs w ρ σ k cs
 |0,_,_,_,_,_,_,_,h,_,_,_,_=>by cases h
 |_+1,_,_,0,_,_,_,_,_,_,h,_,_=>by cases h
 |n+1,k,t,d+1,ts,fuel,cs,x,h,hf,hts,hok,hx=>by
  intro ρ σ hv;by_cases hflat:k.flat=true
  ·obtain⟨y,h1,h2,h3⟩:=J5r h hflat hx;exact⟨ρ,σ,cs,y,hv,More.refl _ _,h3 _ _,h1 _,h2⟩
  unfold KTy at h;cases hu:P.underlying t with
  |none=>rw[hu] at h;cases h
  |some u =>
   rw[hu] at h;let Q:TypeId→List Value→Prop:=fun t cs=>(∃ fuel x,DataW.trod enc P w 0 (fun _=>true) true fuel t cs=some x)∧∃ ts,P.cellTypes d t=some ts∧okc P w r base ts cs;let R:Kind→List Value→Prop:=fun k cs=>k.lev1=true→∀ ρ σ,View w ρ σ→ArgIs w ρ σ k cs;have hR:∀ a b cs ds,R a cs→R b ds→R (.pair a b) (cs++ds):=fun a b cs ds h1 h2 hl ρ σ hv=>by simp only[Kind.lev1,Bool.and_eq_true] at hl;exact(h1 hl.1 ρ σ hv).pair fun ρ σ hv=>h2 hl.2 ρ σ hv
   have hT:∀ k t cs,KTy P n k t=true→Q t cs→R k cs:=fun k t cs h1 ⟨⟨fuel,x,h2⟩,ts,h3,h4⟩ hl=>J5w h1 hl h3 h4 h2;have hlen:∀ k t ts,KTy P n k t=true→P.cellTypes d t=some ts→ts.length=k.size:=fun k t ts h1 h2=>J9a h1 h2;unfold Program.cellTypes at hts;rw[hu] at hts;cases u<;>first|(cases h;done)|skip
   all_goals simp only at h
   ·split at h<;>first|(cases h;done)|(exact absurd rfl hflat)
   ·split at h<;>first|(cases h;done)|(exact absurd rfl hflat)
   ·split at h<;>first|(cases h;done)|(exact absurd rfl hflat)
   ·rename_i e;split at h<;>first|(cases h;done)|skip
    simp only[Bool.and_eq_true,beq_iff_eq] at h;simp only[Option.some.injEq] at hts;subst hts;exact hv.list hu h.1 h.2.1 h.2.2 hx hok
   ·rename_i m e;simp only[Bool.and_eq_true,beq_iff_eq] at h;obtain⟨xs,m',_,_,hl,hxl,hx⟩:=DataW.trod_array hu hx;simp only at hts;cases hc:P.cellTypes d e with
    |none=>rw[hc] at hts;cases hts
    |some te =>
     rw[hc] at hts;obtain rfl:=osj hts;have htm:((List.range m).map fun i=>(e,i*P.cellsOf e)).mapM (fun p:TypeId×Nat=>P.cellTypes d p.1)=some (List.replicate m te):=by rw[Z6l,Z87 (x:=te) (fun _=>hc)];simp
     have:=Z6b (Q:=Q) (R:=R) hT hR cs h.2 (fun p hp=>by
      have hty:=J0d (g:=fun t=>P.cellTypes d t) hlen h.2 htm p hp;simp only[List.mem_map,List.mem_range] at hp;obtain⟨i,hi,rfl⟩:=hp;have:=hx i hi;rw[List.getElem?_eq_getElem (by omega)] at this;exact⟨⟨_,_,this⟩,_,hty.2,X0e hok _ _⟩) hf ρ σ hv
     rwa [List.drop_zero,List.take_of_length_le (by omega)] at this
   ·rename_i fs;simp only[Bool.and_eq_true,beq_iff_eq] at h;obtain⟨xs,m',_,_,hl,hxl,hx⟩:=DataW.trod_struct hu hx;simp only at hts;cases hc:fs.toList.mapM fun f=>P.cellTypes d f.type with
    |none=>rw[hc] at hts;cases hts
    |some tss =>
     rw[hc] at hts;obtain rfl:=osj hts;have htm:(fs.toList.map fun f=>(f.type,f.offset)).mapM (fun p:TypeId×Nat=>P.cellTypes d p.1)=some tss:=by rw[Z6l];exact hc
     have:=Z6b (Q:=Q) (R:=R) hT hR cs h.2 (fun p hp=>by
      have hty:=J0d (g:=fun t=>P.cellTypes d t) hlen h.2 htm p hp;simp only[List.mem_map] at hp;obtain⟨f,hf',rfl⟩:=hp;obtain⟨i,hi⟩:=Z6c hf';have:=hx i f hi;have hil:i<fs.size:=(Array.getElem?_eq_some_iff.1 hi).1;rw[List.getElem?_eq_getElem (by omega)] at this;exact⟨⟨_,_,this⟩,_,hty.2,X0e hok _ _⟩) hf ρ σ hv
     rwa [List.drop_zero,List.take_of_length_le (by omega)] at this
def isAgg (P:Program) (t:TypeId):Bool:=match P.underlying t with
 |some (.struct _)=>true
 |some (.array _ _)=>true
 |_=>false
theorem View.arg {ρ:Plc}{σ:Heap}(h:View w ρ σ) {n:Nat}{k:Kind}{t:TypeId}{v:Value}{d:DataW H}{p:List MemPlace}(hk:KTy P n k t=true) (hl:k.lev1=true) (ha:isAgg P t=!k.one) (hok:Value.okWide P w r base t v) (hd:DataW.Trod enc P w 0 (fun _=>true) true t v d p) :
  ∃ ρ' σ' vv x,View w ρ' σ'∧More ρ σ ρ' σ'∧VRel ρ' σ'.n vv v∧KV σ' k x vv∧KWf k x:=by
 obtain⟨fuel,hd⟩:=hd;by_cases hagg:isAgg P t=true
 ·have hone:k.one=false:=by rw[hagg] at ha;simpa using ha.symm
  have:∃ cs,v=.agg cs∧cs.size=P.cellsOf t∧Row.okWide P w r base t cs:=by
   unfold isAgg at hagg;unfold Value.okWide at hok;split at hagg<;>first|(cases hagg;done)|skip
   ·rename_i hu;rw[hu] at hok;exact hok
   ·rename_i hu;rw[hu] at hok;exact hok
  obtain⟨cs,rfl,hsz,ts,hts,_,hcells⟩:=this;have hlen:=J9a hk hts;have hcs:P.cellsOf t=k.size:=by
   unfold isAgg at hagg;cases n with
   |zero=>cases hk
   |succ n =>
    unfold KTy at hk;split at hagg<;>first|(cases hagg;done)|skip
    all_goals
     rename_i hu;rw[hu] at hk;simp only[Bool.and_eq_true,beq_iff_eq] at hk;exact hk.1
  have hokc:okc P w r base ts cs.toList:=fun i v u h1 h2=>by have hi:i<ts.length:=(List.getElem?_eq_some_iff.1 h2).1;obtain⟨u',h3,h4⟩:=hcells i v (by simpa using h1);rw[Nat.mod_eq_of_lt hi] at h3;obtain rfl:=osj (h2.symm.trans h3);exact h4
  obtain⟨ρ',σ',vs,x,k1,k2,k3,k4,k5⟩:=J5w hk hl hts hokc (show DataW.trod enc P w 0 _ true fuel t cs.toList=_ from hd) ρ σ h;exact⟨ρ',σ',.agg vs.toArray,x,k1,k2,VRel.agg_of (ds:=cs.toList) k3,.inr ⟨hone,vs,rfl,k4⟩,k5⟩
 ·have hone:k.one=true:=by
   have:isAgg P t=false:=by simpa using hagg
   rw[this] at ha;simpa using ha.symm
  have hsize:=Kind.one_size hone;have hcell:Cell.okWide P w r base t v∧v.cells.toList=[v]:=by
   have h1:isAgg P t=false:=by simpa using hagg
   unfold isAgg at h1;have h2:Cell.okWide P w r base t v:=by
    unfold Value.okWide at hok;split at hok
    ·rename_i hu;rw[hu] at h1;cases h1
    ·rename_i hu;rw[hu] at h1;cases h1
    ·exact hok
   refine⟨h2,?_⟩;cases v<;>first|rfl|skip
   all_goals
    exfalso;cases n with
    |zero=>cases hk
    |succ n =>
     unfold KTy at hk;unfold Cell.okWide Cell.ok at h2;cases hu:P.underlying t with
     |none=>rw[hu] at hk;cases hk
     |some u =>rw[hu] at hk h2 h1;cases u<;>first|(cases hk;done)|(cases h1;done)|(cases h2;done)|(simp at h2;done)
  have hts:P.cellTypes 1 t=some [t]:=by
   have h1:isAgg P t=false:=by simpa using hagg
   unfold isAgg at h1;unfold Program.cellTypes;cases n with
   |zero=>cases hk
   |succ n =>
    unfold KTy at hk;cases hu:P.underlying t with
    |none=>rw[hu] at hk;cases hk
    |some u =>rw[hu] at h1;cases u<;>first|rfl|(cases h1;done)
  rw[hcell.2] at hd;have hokc:okc P w r base [t] [v]:=fun i v' u h1 h2=>by
   cases i with
   |zero=>cases h1;cases h2;exact hcell.1
   |succ i=>simp at h1
  obtain⟨ρ',σ',vs,x,k1,k2,k3,k4,k5⟩:=J5w hk hl hts hokc hd ρ σ h;have:vs.length=1:=by rw[KC.length k4];exact hsize
  obtain⟨vv,rfl⟩:=List.length_eq_one_iff.1 this;exact⟨ρ',σ',vv,x,k1,k2,k3.2 0 _ _ rfl rfl,.inl ⟨hone,k4⟩,k5⟩
def AWf:(ks:List Kind)→AT ks→Prop
 |[],_=>True
 |[k],x=>KWf k x
 |k::k'::ks,x=>KWf k x.1∧AWf (k'::ks) x.2
def ktys (P:Program):List Kind→List TypeId→Bool
 |[],[]=>true
 |k::ks,t::ts=>(KTy P 8 k t&&(k.lev1&&(isAgg P t==!k.one)))&&ktys P ks ts
 |_,_=>false
theorem View.args:∀ {ks:List Kind}{ts:List TypeId}{vs:List Value}{ds:List (DataW H)}{ps:List MemPlace}{ρ:Plc}{σ:Heap},View w ρ σ→ktys P ks ts=true→(∀ (j:Nat) t v,ts[j]?=some t→vs[j]?=some v→Value.okWide P w r base t v)→DataW.TrodAll enc P w 0 (fun _=>true) true ts vs ds ps →
  ∃ ρ' σ' vvs x,View w ρ' σ'∧More ρ σ ρ' σ'∧LRel ρ' σ'.n vvs vs∧atVals σ' ks x vvs∧AWf ks x
 |[],[],vs,ds,ps,ρ,σ,h,_,_,hA=>by obtain⟨rfl,rfl,rfl⟩:=trodAll_nil hA;exact⟨ρ,σ,[],(),h,More.refl _ _,.nil _ _,rfl,trivial⟩
 |[k],[t],vs,ds,ps,ρ,σ,h,hk,hv,hA=>by obtain⟨v,vs',d,ds',p,q,rfl,rfl,rfl,h1,h2⟩:=trodAll_cons hA;obtain⟨rfl,rfl,rfl⟩:=trodAll_nil h2;simp only[ktys,Bool.and_eq_true,beq_iff_eq] at hk;obtain⟨ρ',σ',vv,x,k1,k2,k3,k4,k5⟩:=h.arg hk.1.1 hk.1.2.1 hk.1.2.2 (hv 0 t v rfl rfl) h1;exact⟨ρ',σ',[vv],x,k1,k2,.one k3,⟨vv,rfl,k4⟩,k5⟩
 |k::k'::ks,t::ts,vs,ds,ps,ρ,σ,h,hk,hv,hA=>by obtain⟨v,vs',d,ds',p,q,rfl,rfl,rfl,h1,h2⟩:=trodAll_cons hA;simp only[ktys,Bool.and_eq_true,beq_iff_eq] at hk;obtain⟨ρ1,σ1,vv,x,k1,k2,k3,k4,k5⟩:=h.arg hk.1.1 hk.1.2.1 hk.1.2.2 (hv 0 t v rfl rfl) h1;obtain⟨ρ2,σ2,vvs,y,m1,m2,m3,m4,m5⟩:=k1.args (ks:=k'::ks) hk.2 (fun j t v h1 h2=>hv (j+1) t v h1 h2) h2;exact⟨ρ2,σ2,vv::vvs,(x,y),m1,k2.trans m2,.cons (k3.mono m2.n m2.pl) m3,⟨vv,vvs,rfl,k4.vcall m2.le,m4⟩,k5,m5⟩
 |[],_::_,_,_,_,_,_,_,hk,_,_|_::_,[],_,_,_,_,_,_,hk,_,_|[_],_::_::_,_,_,_,_,_,_,hk,_,_=>by simp[ktys] at hk
theorem X34 (hT:Tabs w) {f:Nat}{sp:CSp}(hsp:OkC P f sp) (he:Q4t P f) {ks:List Kind}{ts:List TypeId}{args:Array Value}{ds:List (DataW H)}{ps:List MemPlace}(hk:ktys P ks ts=true)
  (hv:∀ (j:Nat) t v,ts[j]?=some t→args.toList[j]?=some v→Value.okWide P w r base t v) (hA:DataW.TrodAll enc P w 0 (fun _=>true) true ts args.toList ds ps)
  (hs:∀ x:AT ks,AWf ks x→∃ c,sp (fun _ _=>none) (atSVs ks x)=some (c,.val .bo true,[])∧c):Calls P f args w fun e w'=>e=.returned (.bool true)∧Below w.heap.size w w':=by
 obtain⟨ρ,σ,vvs,x,k1,k2,k3,k4,k5⟩:=(View.emptyT w hT).args hk hv hA;obtain⟨c,h1,h2⟩:=hs x k5;exact k1.calls k3 (hsp.true he (Z5y k4) h1 h2)
end
end Go.V
namespace Go.V
open Go
theorem J23 {H:Type}{enc:TypeId×Value→H}{P:Program}{w:World}{b:Nat}{sp:Nat→Bool}{hd:Bool}:∀ {ts:List TypeId}{vs:List Value}{ds:List (DataW H)}{ps:List MemPlace},DataW.TrodAll enc P w b sp hd ts vs ds ps→ds.length=ts.length
 |[],[],[],_,_=>rfl
 |t::ts,v::vs,d::ds,ps,h=>by obtain⟨p,q,_,h2,_⟩:=h;simp[J23 h2]
 |[],[],_::_,_,h|[],_::_,_,_,h|_::_,[],_,_,h|_::_,_::_,[],_,h=>h.elim
end Go.V
namespace Go.Proofs.Tryz
open Go Go.V
noncomputable def tabT:List (Option FEnt):=[
 none,
 none,
 some (.code c2 [] 1),
 some (.code c3 [.tmp 4] 236),
 some (.code c4 [.tmp 6] 80),
 some (.code c5 [.tmp 4] 82),
 some (.code c6 [.tmp 4] 204),
 some (.code c7 [.tmp 4] 280),
 some (.code c8 [.tmp 6] 337),
 some (.code c9 [.tmp 4] 271),
 some (.code c10 [.tmp 6] 184),
 some (.code c11 [.tmp 4] 14),
 some (.code c12 [.tmp 4] 18),
 some (.code c13 [.tmp 0] 193),
 some (.code c14 [.tmp 2] 6),
 some (.codeJ c15 [.tmp 4,.tmp 5] 15),
 some (.codeJ c16 [.tmp 4,.tmp 5] 18),
 some (.code c17 [.tmp 4] 26),
 some (.code c18 [.tmp 8] 65),
 some (.code c19 [.tmp 4] 29),
 some (.code c20 [.tmp 6] 15),
 some (.code c21 [.tmp 6] 33),
 some (.code c22 [.tmp 6] 31),
 some (.code c23 [.tmp 2] 11),
 some (.codeJ c24 [.tmp 6,.tmp 7] 29),
 some (.code c25 [.tmp 6,.tmp 7] 77),
 some (.code c26 [.tmp 4] 26),
 some (.codeJ c27 [.tmp 4,.tmp 5,.tmp 6] 73),
 some (.code c28 [.tmp 8,.tmp 9] 65),
 some (.code c29 [.tmp 6] 41),
 some (.code c30 [.tmp 2] 32),
 some (.code c31 [.tmp 2] 6),
 some (.codeJ c32 [.cell 6 true 2,.tmp 7,.tmp 8] 37),
 some (.codeJ c33 [.cell 8 true 2,.tmp 9] 103),
 some (.code c34 [.tmp 10,.tmp 11] 83),
 some (.code c35 [.cell 2 true 2] 22),
 some (.code c36 [.tmp 2] 51),
 some (.code c37 [.tmp 4] 39),
 some (.code c38 [.tmp 6] 24),
 some (.codeJ c39 [.cell 4 true 2,.tmp 5] 52),
 some (.code c40 [.tmp 2] 6),
 some (.code c41 [.tmp 2] 6),
 some (.code c42 [.tmp 6,.tmp 7,.tmp 8] 61),
 some (.code c43 [.tmp 2] 44),
 some (.code c44 [.tmp 8] 59),
 some (.code c45 [.tmp 0] 10),
 some (.code c46 [.tmp 2] 9),
 some (.codeJ c47 [.tmp 4,.tmp 5] 23),
 some (.code c48 [.cell 4 true 2] 8),
 some (.code c49 [.tmp 4,.tmp 5,.tmp 6] 29),
 some (.code c50 [.tmp 4] 24),
 some (.code c51 [.cell 4 true 2,.tmp 5] 21),
 some (.code c52 [.tmp 2] 13),
 some (.codeJ c53 [.tmp 4,.tmp 5] 62),
 some (.code c54 [.tmp 4] 40),
 some (.code c55 [.tmp 4] 63),
 some (.codeJ c56 [.tmp 2] 15),
 some (.codeJ c57 [.tmp 6] 21),
 some (.code c58 [.tmp 6] 31),
 some (.code c59 [.cell 6 true 3,.tmp 7] 33),
 some (.codeJ c60 [.tmp 2,.tmp 3] 41),
 some (.code c61 [.tmp 6] 11),
 some (.code c62 [.cell 0 true 2] 2),
 some (.code c63 [.tmp 2] 4),
 some (.code c64 [.cell 6 true 2] 44),
 some (.code c65 [.cell 4 true 2] 16),
 some (.code c66 [.cell 4 true 2] 17),
 some (.code c67 [.tmp 8,.tmp 9] 47),
 some (.code c68 [.tmp 4] 16),
 some (.code c69 [.tmp 2] 10),
 some (.code c70 [.cell 2 true 2] 61),
 some (.code c71 [.tmp 4] 9),
 some (.code c72 [.tmp 3] 9),
 some (.code c73 [.tmp 4] 20),
 some (.code c74 [.tmp 4] 26),
 some (.code c75 [.tmp 4] 17),
 some (.codeJ c76 [.tmp 2] 16),
 some (.code c77 [.tmp 2,.tmp 3] 64),
 some (.codeJ c78 [.tmp 4] 24),
 some (.codeJ c79 [.tmp 4] 38),
 some (.code c80 [.tmp 2] 18),
 some (.code c81 [.tmp 4] 20),
 some (.code c82 [.tmp 4] 36),
 some (.code c83 [.tmp 2] 8),
 some (.code c84 [.tmp 2] 15),
 some (.code c85 [.tmp 4] 9),
 some (.code c86 [.cell 6 true 2] 44),
 some (.code c87 [.tmp 4] 9),
 some (.code c88 [.tmp 4] 13),
 some (.code c89 [] 19),
 some (.code c90 [.tmp 4] 9),
 some (.code c91 [.tmp 2] 6),
 some (.code c92 [.tmp 2] 32),
 some (.code c93 [.tmp 4] 19),
 some (.code c94 [] 9),
 some (.code c95 [.tmp 5] 36),
 some (.code c96 [] 11),
 some (.code c97 [] 14),
 some (.code c98 [.tmp 3] 11),
 some (.code c99 [.tmp 2] 6),
 some (.code c100 [.tmp 2] 14),
 some (.code c101 [.tmp 2] 14),
 some (.code c102 [.tmp 4] 19),
 some (.code c103 [.tmp 4] 19),
 some (.code c104 [.tmp 4] 19),
 some (.code c105 [] 63),
 some (.code c106 [] 134),
 some (.code c107 [.tmp 2] 8),
 some (.code c108 [] 148),
 some (.code c109 [] 53),
 some (.code c110 [] 220),
 some (.code c111 [] 49),
 some (.code c112 [] 56),
 some (.code c113 [] 65),
 some (.code c114 [.tmp 6,.tmp 7] 57),
 some (.code c115 [] 32),
 some (.code c116 [.tmp 6] 133),
 some (.code c117 [.tmp 4] 17),
 some (.code c118 [.tmp 8] 84),
 some (.code c119 [.tmp 8,.tmp 9] 168),
 some (.code c120 [.tmp 2] 19),
 some (.code c121 [.tmp 2] 25),
 some (.code c122 [] 53),
 some (.code c123 [] 60),
 some (.code c124 [] 67),
 some (.code c125 [.tmp 8,.tmp 9] 63),
 some (.code c126 [] 34),
 some (.code c127 [.tmp 8] 141),
 some (.code c128 [.tmp 10] 90),
 some (.code c129 [.tmp 10,.tmp 11] 178),
 some (.code c130 [] 58),
 some (.code c131 [] 76),
 some (.code c132 [.tmp 2] 7),
 some (.code c133 [.tmp 2] 33),
 some (.code c134 [.tmp 6] 15),
 some (.code c135 [.tmp 10] 36),
 some (.code c136 [] 82),
 some (.code c137 [.tmp 8] 18),
 some (.code c138 [.tmp 12] 41),
 some (.code c139 [] 38),
 some (.code c140 [.tmp 8,.tmp 9] 28),
 some (.code c141 [.tmp 10,.tmp 11] 32)]
noncomputable def tabt:Tab:=fun f=>(tabT[f]?).join
theorem X6s:EntsOk Tryz.prog 0 tabT:=⟨trivial,trivial,fun2,fun3,fun4,fun5,fun6,fun7,fun8,fun9,fun10,fun11,fun12,fun13,fun14,fun15,fun16,fun17,fun18,fun19,fun20,fun21,fun22,fun23,fun24,fun25,fun26,fun27,fun28,fun29,fun30,fun31,fun32,fun33,fun34,fun35,fun36,fun37,fun38,fun39,fun40,fun41,fun42,fun43,fun44,fun45,fun46,fun47,fun48,fun49,fun50,fun51,fun52,fun53,fun54,fun55,fun56,fun57,fun58,fun59,fun60,fun61,fun62,fun63,fun64,fun65,fun66,fun67,fun68,fun69,fun70,fun71,fun72,fun73,fun74,fun75,fun76,fun77,fun78,fun79,fun80,fun81,fun82,fun83,fun84,fun85,fun86,fun87,fun88,fun89,fun90,fun91,fun92,fun93,fun94,fun95,fun96,fun97,fun98,fun99,fun100,fun101,fun102,fun103,fun104,fun105,fun106,fun107,fun108,fun109,fun110,fun111,fun112,fun113,fun114,fun115,fun116,fun117,fun118,fun119,fun120,fun121,fun122,fun123,fun124,fun125,fun126,fun127,fun128,fun129,fun130,fun131,fun132,fun133,fun134,fun135,fun136,fun137,fun138,fun139,fun140,fun141,trivial⟩
theorem Q04:TabOk Tryz.prog tabt:=J9d X6s
end Go.Proofs.Tryz
namespace Go.Proofs.Tryz
open Go Go.V
def mA1:Memo:=⟨[.int .u64 1],[],.slice (some ⟨0,0,none⟩) 1 1,[⟨[.int .i64 0],⟨1,3⟩,false⟩]⟩
theorem X80:MemoOk Tryz.prog 56 mA1:=Q02 mixed Q04 200 (by kernel_rfl) (by kernel_rfl)
def mA2:Memo:=⟨[.int .u64 2],[],.slice (some ⟨0,0,none⟩) 1 1,[⟨[.int .i64 1],⟨1,3⟩,false⟩]⟩
theorem X8d:MemoOk Tryz.prog 56 mA2:=Q02 mixed Q04 200 (by kernel_rfl) (by kernel_rfl)
def mA3:Memo:=⟨[.int .u64 3],[],.slice (some ⟨0,0,none⟩) 2 2,[⟨[.int .i64 0,.int .i64 1],⟨1,3⟩,false⟩]⟩
theorem X8b:MemoOk Tryz.prog 56 mA3:=Q02 mixed Q04 200 (by kernel_rfl) (by kernel_rfl)
def mA4:Memo:=⟨[.int .u64 4],[],.slice (some ⟨0,0,none⟩) 1 1,[⟨[.int .i64 2],⟨1,3⟩,false⟩]⟩
theorem X83:MemoOk Tryz.prog 56 mA4:=Q02 mixed Q04 200 (by kernel_rfl) (by kernel_rfl)
def mA5:Memo:=⟨[.int .u64 5],[],.slice (some ⟨0,0,none⟩) 2 2,[⟨[.int .i64 0,.int .i64 2],⟨1,3⟩,false⟩]⟩
theorem X7t:MemoOk Tryz.prog 56 mA5:=Q02 mixed Q04 200 (by kernel_rfl) (by kernel_rfl)
def mA6:Memo:=⟨[.int .u64 6],[],.slice (some ⟨0,0,none⟩) 2 2,[⟨[.int .i64 1,.int .i64 2],⟨1,3⟩,false⟩]⟩
theorem X7q:MemoOk Tryz.prog 56 mA6:=Q02 mixed Q04 200 (by kernel_rfl) (by kernel_rfl)
def mA7:Memo:=⟨[.int .u64 7],[],.slice (some ⟨0,0,none⟩) 3 3,[⟨[.int .i64 0,.int .i64 1,.int .i64 2],⟨1,3⟩,false⟩]⟩
theorem X88:MemoOk Tryz.prog 56 mA7:=Q02 mixed Q04 200 (by kernel_rfl) (by kernel_rfl)
def mA8:Memo:=⟨[.int .u64 8],[],.slice (some ⟨0,0,none⟩) 1 1,[⟨[.int .i64 3],⟨1,3⟩,false⟩]⟩
theorem X7z:MemoOk Tryz.prog 56 mA8:=Q02 mixed Q04 200 (by kernel_rfl) (by kernel_rfl)
def mA9:Memo:=⟨[.int .u64 9],[],.slice (some ⟨0,0,none⟩) 2 2,[⟨[.int .i64 0,.int .i64 3],⟨1,3⟩,false⟩]⟩
theorem X7w:MemoOk Tryz.prog 56 mA9:=Q02 mixed Q04 200 (by kernel_rfl) (by kernel_rfl)
def mA10:Memo:=⟨[.int .u64 10],[],.slice (some ⟨0,0,none⟩) 2 2,[⟨[.int .i64 1,.int .i64 3],⟨1,3⟩,false⟩]⟩
theorem X6n:MemoOk Tryz.prog 56 mA10:=Q02 mixed Q04 200 (by kernel_rfl) (by kernel_rfl)
def mA11:Memo:=⟨[.int .u64 11],[],.slice (some ⟨0,0,none⟩) 3 3,[⟨[.int .i64 0,.int .i64 1,.int .i64 3],⟨1,3⟩,false⟩]⟩
theorem X79:MemoOk Tryz.prog 56 mA11:=Q02 mixed Q04 200 (by kernel_rfl) (by kernel_rfl)
def mA12:Memo:=⟨[.int .u64 12],[],.slice (some ⟨0,0,none⟩) 2 2,[⟨[.int .i64 2,.int .i64 3],⟨1,3⟩,false⟩]⟩
theorem X6z:MemoOk Tryz.prog 56 mA12:=Q02 mixed Q04 200 (by kernel_rfl) (by kernel_rfl)
def mA13:Memo:=⟨[.int .u64 13],[],.slice (some ⟨0,0,none⟩) 3 3,[⟨[.int .i64 0,.int .i64 2,.int .i64 3],⟨1,3⟩,false⟩]⟩
theorem X7h:MemoOk Tryz.prog 56 mA13:=Q02 mixed Q04 200 (by kernel_rfl) (by kernel_rfl)
def mA14:Memo:=⟨[.int .u64 14],[],.slice (some ⟨0,0,none⟩) 3 3,[⟨[.int .i64 1,.int .i64 2,.int .i64 3],⟨1,3⟩,false⟩]⟩
theorem X76:MemoOk Tryz.prog 56 mA14:=Q02 mixed Q04 200 (by kernel_rfl) (by kernel_rfl)
def mA15:Memo:=⟨[.int .u64 15],[],.slice (some ⟨0,0,none⟩) 4 4,[⟨[.int .i64 0,.int .i64 1,.int .i64 2,.int .i64 3],⟨1,3⟩,false⟩]⟩
theorem X71:MemoOk Tryz.prog 56 mA15:=Q02 mixed Q04 200 (by kernel_rfl) (by kernel_rfl)
end Go.Proofs.Tryz
namespace Go.Proofs.Tryz
open Go Go.V
def X66:Memo:=⟨[.agg #[.slice (some ⟨0,0,none⟩) 4 4,.int .i64 20],.int .u64 1],[⟨[.int .i64 1,.int .i64 100,.int .i64 110,.int .i64 500,.int .i64 1,.int .i64 105,.int .i64 112,.int .i64 300,.int .i64 1,.int .i64 108,.int .i64 125,.int .i64 400,.int .i64 1,.int .i64 120,.int .i64 130,.int .i64 600],⟨4,78⟩,true⟩],.bool true,[]⟩
theorem X2y:MemoOk Tryz.prog 79 X66:=Q02 mixed Q04 200 (by kernel_rfl) (by kernel_rfl)
def X60:Memo:=⟨[.agg #[.slice (some ⟨0,0,none⟩) 4 4,.int .i64 20],.int .u64 2],[⟨[.int .i64 1,.int .i64 100,.int .i64 110,.int .i64 500,.int .i64 1,.int .i64 105,.int .i64 112,.int .i64 300,.int .i64 1,.int .i64 108,.int .i64 125,.int .i64 400,.int .i64 1,.int .i64 120,.int .i64 130,.int .i64 600],⟨4,78⟩,true⟩],.bool true,[]⟩
theorem X29:MemoOk Tryz.prog 79 X60:=Q02 mixed Q04 200 (by kernel_rfl) (by kernel_rfl)
def X63:Memo:=⟨[.agg #[.slice (some ⟨0,0,none⟩) 4 4,.int .i64 20],.int .u64 3],[⟨[.int .i64 1,.int .i64 100,.int .i64 110,.int .i64 500,.int .i64 1,.int .i64 105,.int .i64 112,.int .i64 300,.int .i64 1,.int .i64 108,.int .i64 125,.int .i64 400,.int .i64 1,.int .i64 120,.int .i64 130,.int .i64 600],⟨4,78⟩,true⟩],.bool true,[]⟩
theorem X2u:MemoOk Tryz.prog 79 X63:=Q02 mixed Q04 200 (by kernel_rfl) (by kernel_rfl)
def X6g:Memo:=⟨[.agg #[.slice (some ⟨0,0,none⟩) 4 4,.int .i64 20],.int .u64 4],[⟨[.int .i64 1,.int .i64 100,.int .i64 110,.int .i64 500,.int .i64 1,.int .i64 105,.int .i64 112,.int .i64 300,.int .i64 1,.int .i64 108,.int .i64 125,.int .i64 400,.int .i64 1,.int .i64 120,.int .i64 130,.int .i64 600],⟨4,78⟩,true⟩],.bool true,[]⟩
theorem X3w:MemoOk Tryz.prog 79 X6g:=Q02 mixed Q04 200 (by kernel_rfl) (by kernel_rfl)
def X6d:Memo:=⟨[.agg #[.slice (some ⟨0,0,none⟩) 4 4,.int .i64 20],.int .u64 5],[⟨[.int .i64 1,.int .i64 100,.int .i64 110,.int .i64 500,.int .i64 1,.int .i64 105,.int .i64 112,.int .i64 300,.int .i64 1,.int .i64 108,.int .i64 125,.int .i64 400,.int .i64 1,.int .i64 120,.int .i64 130,.int .i64 600],⟨4,78⟩,true⟩],.bool false,[]⟩
theorem X3t:MemoOk Tryz.prog 79 X6d:=Q02 mixed Q04 200 (by kernel_rfl) (by kernel_rfl)
def X6h:Memo:=⟨[.agg #[.slice (some ⟨0,0,none⟩) 4 4,.int .i64 20],.int .u64 6],[⟨[.int .i64 1,.int .i64 100,.int .i64 110,.int .i64 500,.int .i64 1,.int .i64 105,.int .i64 112,.int .i64 300,.int .i64 1,.int .i64 108,.int .i64 125,.int .i64 400,.int .i64 1,.int .i64 120,.int .i64 130,.int .i64 600],⟨4,78⟩,true⟩],.bool true,[]⟩
theorem X42:MemoOk Tryz.prog 79 X6h:=Q02 mixed Q04 200 (by kernel_rfl) (by kernel_rfl)
def X6f:Memo:=⟨[.agg #[.slice (some ⟨0,0,none⟩) 4 4,.int .i64 20],.int .u64 7],[⟨[.int .i64 1,.int .i64 100,.int .i64 110,.int .i64 500,.int .i64 1,.int .i64 105,.int .i64 112,.int .i64 300,.int .i64 1,.int .i64 108,.int .i64 125,.int .i64 400,.int .i64 1,.int .i64 120,.int .i64 130,.int .i64 600],⟨4,78⟩,true⟩],.bool false,[]⟩
theorem X31:MemoOk Tryz.prog 79 X6f:=Q02 mixed Q04 200 (by kernel_rfl) (by kernel_rfl)
def X61:Memo:=⟨[.agg #[.slice (some ⟨0,0,none⟩) 4 4,.int .i64 20],.int .u64 8],[⟨[.int .i64 1,.int .i64 100,.int .i64 110,.int .i64 500,.int .i64 1,.int .i64 105,.int .i64 112,.int .i64 300,.int .i64 1,.int .i64 108,.int .i64 125,.int .i64 400,.int .i64 1,.int .i64 120,.int .i64 130,.int .i64 600],⟨4,78⟩,true⟩],.bool true,[]⟩
theorem X2m:MemoOk Tryz.prog 79 X61:=Q02 mixed Q04 200 (by kernel_rfl) (by kernel_rfl)
def X68:Memo:=⟨[.agg #[.slice (some ⟨0,0,none⟩) 4 4,.int .i64 20],.int .u64 9],[⟨[.int .i64 1,.int .i64 100,.int .i64 110,.int .i64 500,.int .i64 1,.int .i64 105,.int .i64 112,.int .i64 300,.int .i64 1,.int .i64 108,.int .i64 125,.int .i64 400,.int .i64 1,.int .i64 120,.int .i64 130,.int .i64 600],⟨4,78⟩,true⟩],.bool false,[]⟩
theorem X3j:MemoOk Tryz.prog 79 X68:=Q02 mixed Q04 200 (by kernel_rfl) (by kernel_rfl)
def X4f:Memo:=⟨[.agg #[.slice (some ⟨0,0,none⟩) 4 4,.int .i64 20],.int .u64 10],[⟨[.int .i64 1,.int .i64 100,.int .i64 110,.int .i64 500,.int .i64 1,.int .i64 105,.int .i64 112,.int .i64 300,.int .i64 1,.int .i64 108,.int .i64 125,.int .i64 400,.int .i64 1,.int .i64 120,.int .i64 130,.int .i64 600],⟨4,78⟩,true⟩],.bool false,[]⟩
theorem X0u:MemoOk Tryz.prog 79 X4f:=Q02 mixed Q04 200 (by kernel_rfl) (by kernel_rfl)
def X2o:Memo:=⟨[.agg #[.slice (some ⟨0,0,none⟩) 4 4,.int .i64 20],.int .u64 11],[⟨[.int .i64 1,.int .i64 100,.int .i64 110,.int .i64 500,.int .i64 1,.int .i64 105,.int .i64 112,.int .i64 300,.int .i64 1,.int .i64 108,.int .i64 125,.int .i64 400,.int .i64 1,.int .i64 120,.int .i64 130,.int .i64 600],⟨4,78⟩,true⟩],.bool false,[]⟩
theorem X1b:MemoOk Tryz.prog 79 X2o:=Q02 mixed Q04 200 (by kernel_rfl) (by kernel_rfl)
def X3q:Memo:=⟨[.agg #[.slice (some ⟨0,0,none⟩) 4 4,.int .i64 20],.int .u64 12],[⟨[.int .i64 1,.int .i64 100,.int .i64 110,.int .i64 500,.int .i64 1,.int .i64 105,.int .i64 112,.int .i64 300,.int .i64 1,.int .i64 108,.int .i64 125,.int .i64 400,.int .i64 1,.int .i64 120,.int .i64 130,.int .i64 600],⟨4,78⟩,true⟩],.bool false,[]⟩
theorem X1m:MemoOk Tryz.prog 79 X3q:=Q02 mixed Q04 200 (by kernel_rfl) (by kernel_rfl)
def X3k:Memo:=⟨[.agg #[.slice (some ⟨0,0,none⟩) 4 4,.int .i64 20],.int .u64 13],[⟨[.int .i64 1,.int .i64 100,.int .i64 110,.int .i64 500,.int .i64 1,.int .i64 105,.int .i64 112,.int .i64 300,.int .i64 1,.int .i64 108,.int .i64 125,.int .i64 400,.int .i64 1,.int .i64 120,.int .i64 130,.int .i64 600],⟨4,78⟩,true⟩],.bool false,[]⟩
theorem X1l:MemoOk Tryz.prog 79 X3k:=Q02 mixed Q04 200 (by kernel_rfl) (by kernel_rfl)
def X3e:Memo:=⟨[.agg #[.slice (some ⟨0,0,none⟩) 4 4,.int .i64 20],.int .u64 14],[⟨[.int .i64 1,.int .i64 100,.int .i64 110,.int .i64 500,.int .i64 1,.int .i64 105,.int .i64 112,.int .i64 300,.int .i64 1,.int .i64 108,.int .i64 125,.int .i64 400,.int .i64 1,.int .i64 120,.int .i64 130,.int .i64 600],⟨4,78⟩,true⟩],.bool false,[]⟩
theorem X1t:MemoOk Tryz.prog 79 X3e:=Q02 mixed Q04 200 (by kernel_rfl) (by kernel_rfl)
def X4k:Memo:=⟨[.agg #[.slice (some ⟨0,0,none⟩) 4 4,.int .i64 20],.int .u64 15],[⟨[.int .i64 1,.int .i64 100,.int .i64 110,.int .i64 500,.int .i64 1,.int .i64 105,.int .i64 112,.int .i64 300,.int .i64 1,.int .i64 108,.int .i64 125,.int .i64 400,.int .i64 1,.int .i64 120,.int .i64 130,.int .i64 600],⟨4,78⟩,true⟩],.bool false,[]⟩
theorem X0w:MemoOk Tryz.prog 79 X4k:=Q02 mixed Q04 200 (by kernel_rfl) (by kernel_rfl)
def X5z:Memo:=⟨[.agg #[.slice (some ⟨0,0,none⟩) 4 4,.int .i64 25],.int .u64 1],[⟨[.int .i64 1,.int .i64 100,.int .i64 110,.int .i64 500,.int .i64 1,.int .i64 105,.int .i64 112,.int .i64 300,.int .i64 1,.int .i64 108,.int .i64 125,.int .i64 400,.int .i64 1,.int .i64 120,.int .i64 130,.int .i64 600],⟨4,78⟩,true⟩],.bool true,[]⟩
theorem X3g:MemoOk Tryz.prog 79 X5z:=Q02 mixed Q04 200 (by kernel_rfl) (by kernel_rfl)
def X6a:Memo:=⟨[.agg #[.slice (some ⟨0,0,none⟩) 4 4,.int .i64 25],.int .u64 2],[⟨[.int .i64 1,.int .i64 100,.int .i64 110,.int .i64 500,.int .i64 1,.int .i64 105,.int .i64 112,.int .i64 300,.int .i64 1,.int .i64 108,.int .i64 125,.int .i64 400,.int .i64 1,.int .i64 120,.int .i64 130,.int .i64 600],⟨4,78⟩,true⟩],.bool true,[]⟩
theorem X2h:MemoOk Tryz.prog 79 X6a:=Q02 mixed Q04 200 (by kernel_rfl) (by kernel_rfl)
def X69:Memo:=⟨[.agg #[.slice (some ⟨0,0,none⟩) 4 4,.int .i64 25],.int .u64 3],[⟨[.int .i64 1,.int .i64 100,.int .i64 110,.int .i64 500,.int .i64 1,.int .i64 105,.int .i64 112,.int .i64 300,.int .i64 1,.int .i64 108,.int .i64 125,.int .i64 400,.int .i64 1,.int .i64 120,.int .i64 130,.int .i64 600],⟨4,78⟩,true⟩],.bool true,[]⟩
theorem X3b:MemoOk Tryz.prog 79 X69:=Q02 mixed Q04 200 (by kernel_rfl) (by kernel_rfl)
def X65:Memo:=⟨[.agg #[.slice (some ⟨0,0,none⟩) 4 4,.int .i64 25],.int .u64 4],[⟨[.int .i64 1,.int .i64 100,.int .i64 110,.int .i64 500,.int .i64 1,.int .i64 105,.int .i64 112,.int .i64 300,.int .i64 1,.int .i64 108,.int .i64 125,.int .i64 400,.int .i64 1,.int .i64 120,.int .i64 130,.int .i64 600],⟨4,78⟩,true⟩],.bool true,[]⟩
theorem X2z:MemoOk Tryz.prog 79 X65:=Q02 mixed Q04 200 (by kernel_rfl) (by kernel_rfl)
def X5w:Memo:=⟨[.agg #[.slice (some ⟨0,0,none⟩) 4 4,.int .i64 25],.int .u64 5],[⟨[.int .i64 1,.int .i64 100,.int .i64 110,.int .i64 500,.int .i64 1,.int .i64 105,.int .i64 112,.int .i64 300,.int .i64 1,.int .i64 108,.int .i64 125,.int .i64 400,.int .i64 1,.int .i64 120,.int .i64 130,.int .i64 600],⟨4,78⟩,true⟩],.bool true,[]⟩
theorem X2t:MemoOk Tryz.prog 79 X5w:=Q02 mixed Q04 200 (by kernel_rfl) (by kernel_rfl)
def X6j:Memo:=⟨[.agg #[.slice (some ⟨0,0,none⟩) 4 4,.int .i64 25],.int .u64 6],[⟨[.int .i64 1,.int .i64 100,.int .i64 110,.int .i64 500,.int .i64 1,.int .i64 105,.int .i64 112,.int .i64 300,.int .i64 1,.int .i64 108,.int .i64 125,.int .i64 400,.int .i64 1,.int .i64 120,.int .i64 130,.int .i64 600],⟨4,78⟩,true⟩],.bool true,[]⟩
theorem X3r:MemoOk Tryz.prog 79 X6j:=Q02 mixed Q04 200 (by kernel_rfl) (by kernel_rfl)
def X6i:Memo:=⟨[.agg #[.slice (some ⟨0,0,none⟩) 4 4,.int .i64 25],.int .u64 8],[⟨[.int .i64 1,.int .i64 100,.int .i64 110,.int .i64 500,.int .i64 1,.int .i64 105,.int .i64 112,.int .i64 300,.int .i64 1,.int .i64 108,.int .i64 125,.int .i64 400,.int .i64 1,.int .i64 120,.int .i64 130,.int .i64 600],⟨4,78⟩,true⟩],.bool true,[]⟩
theorem X3d:MemoOk Tryz.prog 79 X6i:=Q02 mixed Q04 200 (by kernel_rfl) (by kernel_rfl)
def X64:Memo:=⟨[.agg #[.slice (some ⟨0,0,none⟩) 4 4,.int .i64 25],.int .u64 9],[⟨[.int .i64 1,.int .i64 100,.int .i64 110,.int .i64 500,.int .i64 1,.int .i64 105,.int .i64 112,.int .i64 300,.int .i64 1,.int .i64 108,.int .i64 125,.int .i64 400,.int .i64 1,.int .i64 120,.int .i64 130,.int .i64 600],⟨4,78⟩,true⟩],.bool false,[]⟩
theorem X47:MemoOk Tryz.prog 79 X64:=Q02 mixed Q04 200 (by kernel_rfl) (by kernel_rfl)
def X43:Memo:=⟨[.agg #[.slice (some ⟨0,0,none⟩) 4 4,.int .i64 25],.int .u64 10],[⟨[.int .i64 1,.int .i64 100,.int .i64 110,.int .i64 500,.int .i64 1,.int .i64 105,.int .i64 112,.int .i64 300,.int .i64 1,.int .i64 108,.int .i64 125,.int .i64 400,.int .i64 1,.int .i64 120,.int .i64 130,.int .i64 600],⟨4,78⟩,true⟩],.bool true,[]⟩
theorem X1h:MemoOk Tryz.prog 79 X43:=Q02 mixed Q04 200 (by kernel_rfl) (by kernel_rfl)
def X2i:Memo:=⟨[.agg #[.slice (some ⟨0,0,none⟩) 4 4,.int .i64 25],.int .u64 12],[⟨[.int .i64 1,.int .i64 100,.int .i64 110,.int .i64 500,.int .i64 1,.int .i64 105,.int .i64 112,.int .i64 300,.int .i64 1,.int .i64 108,.int .i64 125,.int .i64 400,.int .i64 1,.int .i64 120,.int .i64 130,.int .i64 600],⟨4,78⟩,true⟩],.bool true,[]⟩
theorem X16:MemoOk Tryz.prog 79 X2i:=Q02 mixed Q04 200 (by kernel_rfl) (by kernel_rfl)
def X6c:Memo:=⟨[.agg #[.slice (some ⟨0,0,none⟩) 4 4,.int .i64 16],.int .u64 1],[⟨[.int .i64 1,.int .i64 100,.int .i64 110,.int .i64 500,.int .i64 1,.int .i64 105,.int .i64 112,.int .i64 300,.int .i64 1,.int .i64 108,.int .i64 125,.int .i64 400,.int .i64 1,.int .i64 120,.int .i64 130,.int .i64 600],⟨4,78⟩,true⟩],.bool true,[]⟩
theorem X48:MemoOk Tryz.prog 79 X6c:=Q02 mixed Q04 200 (by kernel_rfl) (by kernel_rfl)
def X6e:Memo:=⟨[.agg #[.slice (some ⟨0,0,none⟩) 4 4,.int .i64 16],.int .u64 2],[⟨[.int .i64 1,.int .i64 100,.int .i64 110,.int .i64 500,.int .i64 1,.int .i64 105,.int .i64 112,.int .i64 300,.int .i64 1,.int .i64 108,.int .i64 125,.int .i64 400,.int .i64 1,.int .i64 120,.int .i64 130,.int .i64 600],⟨4,78⟩,true⟩],.bool true,[]⟩
theorem X2l:MemoOk Tryz.prog 79 X6e:=Q02 mixed Q04 200 (by kernel_rfl) (by kernel_rfl)
def X67:Memo:=⟨[.agg #[.slice (some ⟨0,0,none⟩) 4 4,.int .i64 16],.int .u64 4],[⟨[.int .i64 1,.int .i64 100,.int .i64 110,.int .i64 500,.int .i64 1,.int .i64 105,.int .i64 112,.int .i64 300,.int .i64 1,.int .i64 108,.int .i64 125,.int .i64 400,.int .i64 1,.int .i64 120,.int .i64 130,.int .i64 600],⟨4,78⟩,true⟩],.bool false,[]⟩
theorem X37:MemoOk Tryz.prog 79 X67:=Q02 mixed Q04 200 (by kernel_rfl) (by kernel_rfl)
def X5v:Memo:=⟨[.agg #[.slice (some ⟨0,0,none⟩) 4 4,.int .i64 16],.int .u64 8],[⟨[.int .i64 1,.int .i64 100,.int .i64 110,.int .i64 500,.int .i64 1,.int .i64 105,.int .i64 112,.int .i64 300,.int .i64 1,.int .i64 108,.int .i64 125,.int .i64 400,.int .i64 1,.int .i64 120,.int .i64 130,.int .i64 600],⟨4,78⟩,true⟩],.bool true,[]⟩
theorem X26:MemoOk Tryz.prog 79 X5v:=Q02 mixed Q04 200 (by kernel_rfl) (by kernel_rfl)
end Go.Proofs.Tryz
namespace Go.Proofs.Tryz
open Go Go.V
def mG1:Memo:=⟨[.agg #[.slice (some ⟨0,0,none⟩) 4 4,.int .i64 20],.int .u64 1],[⟨[.int .i64 1,.int .i64 100,.int .i64 110,.int .i64 500,.int .i64 1,.int .i64 105,.int .i64 112,.int .i64 300,.int .i64 1,.int .i64 108,.int .i64 125,.int .i64 400,.int .i64 1,.int .i64 120,.int .i64 130,.int .i64 600],⟨4,78⟩,true⟩],.int .i64 500,[]⟩
theorem X87:MemoOk Tryz.prog 78 mG1:=Q02 mixed Q04 200 (by kernel_rfl) (by kernel_rfl)
def mG2:Memo:=⟨[.agg #[.slice (some ⟨0,0,none⟩) 4 4,.int .i64 20],.int .u64 2],[⟨[.int .i64 1,.int .i64 100,.int .i64 110,.int .i64 500,.int .i64 1,.int .i64 105,.int .i64 112,.int .i64 300,.int .i64 1,.int .i64 108,.int .i64 125,.int .i64 400,.int .i64 1,.int .i64 120,.int .i64 130,.int .i64 600],⟨4,78⟩,true⟩],.int .i64 300,[]⟩
theorem X7x:MemoOk Tryz.prog 78 mG2:=Q02 mixed Q04 200 (by kernel_rfl) (by kernel_rfl)
def mG3:Memo:=⟨[.agg #[.slice (some ⟨0,0,none⟩) 4 4,.int .i64 20],.int .u64 3],[⟨[.int .i64 1,.int .i64 100,.int .i64 110,.int .i64 500,.int .i64 1,.int .i64 105,.int .i64 112,.int .i64 300,.int .i64 1,.int .i64 108,.int .i64 125,.int .i64 400,.int .i64 1,.int .i64 120,.int .i64 130,.int .i64 600],⟨4,78⟩,true⟩],.int .i64 800,[]⟩
theorem X7v:MemoOk Tryz.prog 78 mG3:=Q02 mixed Q04 200 (by kernel_rfl) (by kernel_rfl)
def mG4:Memo:=⟨[.agg #[.slice (some ⟨0,0,none⟩) 4 4,.int .i64 20],.int .u64 4],[⟨[.int .i64 1,.int .i64 100,.int .i64 110,.int .i64 500,.int .i64 1,.int .i64 105,.int .i64 112,.int .i64 300,.int .i64 1,.int .i64 108,.int .i64 125,.int .i64 400,.int .i64 1,.int .i64 120,.int .i64 130,.int .i64 600],⟨4,78⟩,true⟩],.int .i64 400,[]⟩
theorem X7s:MemoOk Tryz.prog 78 mG4:=Q02 mixed Q04 200 (by kernel_rfl) (by kernel_rfl)
def mG5:Memo:=⟨[.agg #[.slice (some ⟨0,0,none⟩) 4 4,.int .i64 20],.int .u64 5],[⟨[.int .i64 1,.int .i64 100,.int .i64 110,.int .i64 500,.int .i64 1,.int .i64 105,.int .i64 112,.int .i64 300,.int .i64 1,.int .i64 108,.int .i64 125,.int .i64 400,.int .i64 1,.int .i64 120,.int .i64 130,.int .i64 600],⟨4,78⟩,true⟩],.int .i64 900,[]⟩
theorem X7l:MemoOk Tryz.prog 78 mG5:=Q02 mixed Q04 200 (by kernel_rfl) (by kernel_rfl)
def mG6:Memo:=⟨[.agg #[.slice (some ⟨0,0,none⟩) 4 4,.int .i64 20],.int .u64 6],[⟨[.int .i64 1,.int .i64 100,.int .i64 110,.int .i64 500,.int .i64 1,.int .i64 105,.int .i64 112,.int .i64 300,.int .i64 1,.int .i64 108,.int .i64 125,.int .i64 400,.int .i64 1,.int .i64 120,.int .i64 130,.int .i64 600],⟨4,78⟩,true⟩],.int .i64 700,[]⟩
theorem X8f:MemoOk Tryz.prog 78 mG6:=Q02 mixed Q04 200 (by kernel_rfl) (by kernel_rfl)
def mG7:Memo:=⟨[.agg #[.slice (some ⟨0,0,none⟩) 4 4,.int .i64 20],.int .u64 7],[⟨[.int .i64 1,.int .i64 100,.int .i64 110,.int .i64 500,.int .i64 1,.int .i64 105,.int .i64 112,.int .i64 300,.int .i64 1,.int .i64 108,.int .i64 125,.int .i64 400,.int .i64 1,.int .i64 120,.int .i64 130,.int .i64 600],⟨4,78⟩,true⟩],.int .i64 1200,[]⟩
theorem X85:MemoOk Tryz.prog 78 mG7:=Q02 mixed Q04 200 (by kernel_rfl) (by kernel_rfl)
def mG8:Memo:=⟨[.agg #[.slice (some ⟨0,0,none⟩) 4 4,.int .i64 20],.int .u64 8],[⟨[.int .i64 1,.int .i64 100,.int .i64 110,.int .i64 500,.int .i64 1,.int .i64 105,.int .i64 112,.int .i64 300,.int .i64 1,.int .i64 108,.int .i64 125,.int .i64 400,.int .i64 1,.int .i64 120,.int .i64 130,.int .i64 600],⟨4,78⟩,true⟩],.int .i64 600,[]⟩
theorem X7n:MemoOk Tryz.prog 78 mG8:=Q02 mixed Q04 200 (by kernel_rfl) (by kernel_rfl)
def mG9:Memo:=⟨[.agg #[.slice (some ⟨0,0,none⟩) 4 4,.int .i64 20],.int .u64 9],[⟨[.int .i64 1,.int .i64 100,.int .i64 110,.int .i64 500,.int .i64 1,.int .i64 105,.int .i64 112,.int .i64 300,.int .i64 1,.int .i64 108,.int .i64 125,.int .i64 400,.int .i64 1,.int .i64 120,.int .i64 130,.int .i64 600],⟨4,78⟩,true⟩],.int .i64 1100,[]⟩
theorem X82:MemoOk Tryz.prog 78 mG9:=Q02 mixed Q04 200 (by kernel_rfl) (by kernel_rfl)
def mG10:Memo:=⟨[.agg #[.slice (some ⟨0,0,none⟩) 4 4,.int .i64 20],.int .u64 10],[⟨[.int .i64 1,.int .i64 100,.int .i64 110,.int .i64 500,.int .i64 1,.int .i64 105,.int .i64 112,.int .i64 300,.int .i64 1,.int .i64 108,.int .i64 125,.int .i64 400,.int .i64 1,.int .i64 120,.int .i64 130,.int .i64 600],⟨4,78⟩,true⟩],.int .i64 900,[]⟩
theorem X6t:MemoOk Tryz.prog 78 mG10:=Q02 mixed Q04 200 (by kernel_rfl) (by kernel_rfl)
def mG11:Memo:=⟨[.agg #[.slice (some ⟨0,0,none⟩) 4 4,.int .i64 20],.int .u64 11],[⟨[.int .i64 1,.int .i64 100,.int .i64 110,.int .i64 500,.int .i64 1,.int .i64 105,.int .i64 112,.int .i64 300,.int .i64 1,.int .i64 108,.int .i64 125,.int .i64 400,.int .i64 1,.int .i64 120,.int .i64 130,.int .i64 600],⟨4,78⟩,true⟩],.int .i64 1400,[]⟩
theorem X75:MemoOk Tryz.prog 78 mG11:=Q02 mixed Q04 200 (by kernel_rfl) (by kernel_rfl)
def mG12:Memo:=⟨[.agg #[.slice (some ⟨0,0,none⟩) 4 4,.int .i64 20],.int .u64 12],[⟨[.int .i64 1,.int .i64 100,.int .i64 110,.int .i64 500,.int .i64 1,.int .i64 105,.int .i64 112,.int .i64 300,.int .i64 1,.int .i64 108,.int .i64 125,.int .i64 400,.int .i64 1,.int .i64 120,.int .i64 130,.int .i64 600],⟨4,78⟩,true⟩],.int .i64 1000,[]⟩
theorem X6p:MemoOk Tryz.prog 78 mG12:=Q02 mixed Q04 200 (by kernel_rfl) (by kernel_rfl)
def mG13:Memo:=⟨[.agg #[.slice (some ⟨0,0,none⟩) 4 4,.int .i64 20],.int .u64 13],[⟨[.int .i64 1,.int .i64 100,.int .i64 110,.int .i64 500,.int .i64 1,.int .i64 105,.int .i64 112,.int .i64 300,.int .i64 1,.int .i64 108,.int .i64 125,.int .i64 400,.int .i64 1,.int .i64 120,.int .i64 130,.int .i64 600],⟨4,78⟩,true⟩],.int .i64 1500,[]⟩
theorem X7b:MemoOk Tryz.prog 78 mG13:=Q02 mixed Q04 200 (by kernel_rfl) (by kernel_rfl)
def mG14:Memo:=⟨[.agg #[.slice (some ⟨0,0,none⟩) 4 4,.int .i64 20],.int .u64 14],[⟨[.int .i64 1,.int .i64 100,.int .i64 110,.int .i64 500,.int .i64 1,.int .i64 105,.int .i64 112,.int .i64 300,.int .i64 1,.int .i64 108,.int .i64 125,.int .i64 400,.int .i64 1,.int .i64 120,.int .i64 130,.int .i64 600],⟨4,78⟩,true⟩],.int .i64 1300,[]⟩
theorem X7e:MemoOk Tryz.prog 78 mG14:=Q02 mixed Q04 200 (by kernel_rfl) (by kernel_rfl)
def mG15:Memo:=⟨[.agg #[.slice (some ⟨0,0,none⟩) 4 4,.int .i64 20],.int .u64 15],[⟨[.int .i64 1,.int .i64 100,.int .i64 110,.int .i64 500,.int .i64 1,.int .i64 105,.int .i64 112,.int .i64 300,.int .i64 1,.int .i64 108,.int .i64 125,.int .i64 400,.int .i64 1,.int .i64 120,.int .i64 130,.int .i64 600],⟨4,78⟩,true⟩],.int .i64 1800,[]⟩
theorem X72:MemoOk Tryz.prog 78 mG15:=Q02 mixed Q04 200 (by kernel_rfl) (by kernel_rfl)
end Go.Proofs.Tryz