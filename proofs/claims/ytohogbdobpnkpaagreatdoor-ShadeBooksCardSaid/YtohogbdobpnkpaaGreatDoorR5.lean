/- A framework for walks, contracts of functions, and their proofs: part 5. -/
import Derived.Test.YtohogbdobpnkpaaGreatDoorR4
namespace Go.V
open Go
section
variable {P:Program}
mutual
theorem nmV_elim:∀ (v:SV) {K:SV→Prop},nmV v K→K v
 |.val k x,K,h=>by simp only[nmV] at h;exact h x rfl
 |.agg l,K,h=>by simp only[nmV] at h;exact nmVs_elim l h
 |.tup l,K,h=>by simp only[nmV] at h;exact nmVs_elim l h
 |.any,_,h|.dd _ _,_,h|.bid _ _,_,h|.grd _ _,_,h|.nilS,_,h|.nilP,_,h|.nilM,_,h|.nilF,_,h|.lst _,_,h|.sub _ _ _ _,_,h|.elp _ _ _ _,_,h|.rop _ _ _ _,_,h|.box _ _,_,h|.cp _ _,_,h|.map _,_,h|.fn _ _ _,_,h|.pf _ _ _ _,_,h=>by simp only[nmV] at h;exact h
theorem nmVs_elim:∀ (l:List SV) {K:List SV→Prop},nmVs l K→K l
 |[],K,h=>by simp only[nmVs] at h;exact h
 |v::r,K,h=>by simp only[nmVs] at h;exact nmVs_elim r (nmV_elim v h)
end
theorem gnm_elim {C:Cx}{o:VOp}{ev:Operand→SV}{v:SV}{K:SV→Prop}(h:gnm C o ev v K):K v:=by
 unfold gnm at h;cases hb:(C.nm&&nmOp o ev) with
 |true=>rw[hb] at h;exact nmV_elim v h
 |false=>rw[hb] at h;exact h
theorem unbid_sr {B:Heap}{pl:Nat→Value}{tb:Nat→Option Bool}{v:SV}{u:Value}(h:SR P B pl tb v u):SR P B pl tb (unbid v) u∧gtb tb (unbid v):=by
 cases v with
 |bid n c=>simp only[SR] at h;obtain⟨rfl,_⟩:=h;exact⟨sr_bool _,trivial⟩
 |_=>exact⟨h,trivial⟩
theorem unbid_tb {tb:Nat→Option Bool}(v:SV):gtb tb (unbid v):=by cases v<;>trivial
theorem gcallN_sound {C:Cx}(hcs:COk P C) {B F:Heap}{pl:Nat→Value}{tb:Nat→Option Bool}{s:St}{env:Env}{σ:Heap}(hG:Gam P B F pl tb s env σ) {d:Nat}{f:SV}{args:List SV}{fV:Value}{vs:List Value}(hf:SR P B pl tb f fV) (ha:SRs P B pl tb args vs) {K:SV→St→Prop}(h:gcallN C d f args s K) {R:Value→Heap→Prop}
  (hK:∀ v s' B' F' pl' tb' u σ',K v s'→GBase B F σ B' F' σ'→Gam P B' F' pl' tb' s' env σ'→SR P B' pl' tb' v u→R u σ'):∃ g a b,fV=.func (.func g) a b∧VCalled P g (a.toList++vs++b.toList) σ R:=by
 unfold gcallN at h;have hf':SR P σ noPl noTb ((ress s.own [f]).getD 0 .any) fV:=by
  have:=(ress_sound hG.leB hG.obj (show SRs P B pl tb [f] [fV] by simp only[SRs];exact⟨_,[],rfl,hf,rfl⟩)).getD 0 poison
  simpa using this
 have ha':=ress_sound hG.leB hG.obj ha;split at h
 ·rename_i c v bs heq;cases hb:(v.ret bs.length&&(bs.all OB.ret&&Nat.blt 0 C.nt)) with
  |false=>rw[hb] at h;exact h.elim
  |true =>
   rw[hb] at h;obtain⟨h1,h2⟩:=h;simp only[Bool.and_eq_true] at hb;obtain⟨g,a,b,e,hcall,_⟩:=gcallee_sound hcs.cs hf' ha' heq hb.1 hb.2.1 h1;refine⟨g,a,b,e,hcall.mono fun u σ' hr=>?_⟩;obtain⟨pl',h3,h4⟩:=hr.gam (nt:=C.nt) (d:=d) (by simpa [Nat.blt_eq] using hb.2.2) hG hb.1 hb.2.1
   exact hK _ _ B F pl' tb u σ' h2 (.of hG.bf hr.1.2) h3 h4
 ·exact h.elim
theorem gcallX_sound {C:Cx}(hcs:COk P C) {B F:Heap}{pl:Nat→Value}{tb:Nat→Option Bool}{s:St}{env:Env}{σ:Heap}(hG:Gam P B F pl tb s env σ) {d:Nat}{f:SV}{args:List SV}{fV:Value}{vs:List Value}(hf:SR P B pl tb f fV) (ha:SRs P B pl tb args vs) {K:SV→St→Prop}(h:gcallX C d f args s K) (hny:∀ o,f≠.dd o .yv) {R:Value→Heap→Prop}
  (hK:∀ v s' B' F' pl' tb' u σ',K v s'→GBase B F σ B' F' σ'→Gam P B' F' pl' tb' s' env σ'→SR P B' pl' tb' v u→R u σ'):∃ g a b,fV=.func (.func g) a b∧VCalled P g (a.toList++vs++b.toList) σ R:=by
 unfold gcallX at h;split at h
 ·rename_i g a b;split at h
  ·rename_i x hx;have hf0:=hf;simp only[SR] at hf;obtain⟨a',b',rfl,h1,h2⟩:=hf;refine⟨g,a'.toArray,b'.toArray,rfl,?_⟩;have:=hcs.xs g x hx B F pl tb s env σ d _ _ K R hG (h1.append (ha.append h2)) h hK;simpa using this
  ·exact gcallN_sound hcs hG hf ha h hK
 ·exact(hny _ rfl).elim
 ·exact gcallN_sound hcs hG hf ha h hK
theorem gndX_sound {C:Cx}{B F:Heap}{pl:Nat→Value}{tb:Nat→Option Bool}{s:St}{env:Env}{σ:Heap}(hG:Gam P B F pl tb s env σ) {d:Nat}{o:VOp}{K:SV→St→Prop}(h:gnd C d o (gev [] s.env) s K) {R:Value→Heap→Prop}
  (hK:∀ v s' B' F' pl' tb' u σ',K v s'→GBase B F σ B' F' σ'→Gam P B' F' pl' tb' s' env σ'→SR P B' pl' tb' v u→R u σ'):vop (semSpecs P) o env σ R:=by
 obtain⟨u,σ',pl',v,s',h1,h2,h3,h4⟩:=gnd_sound (fun x=>hG.evs (Gds.nil (tb:=tb)) x) hG h;have fin:obind (vact o (evalO env) σ) (fun p=>R p.1 p.2):=by rw[h1];exact hK v s' B F pl' tb u σ' h2 (.of hG.bf (vact_dead h1)) h3.1 h4
 cases o
 case buildSlice e z n ps=>exact fin
 case makeSlice e b z l c=>exact fin
 case append e b x y=>exact fin
 case store size a x=>exact fin
 all_goals exact h.elim
section
variable {B F:Heap}{pl:Nat→Value}{tb:Nat→Option Bool}{s:St}{env:Env}{σ:Heap}
def Heap.ins (B σ:Heap) (i:Nat) (h:B.n≤σ.n):Heap where
 get j:=if j=i then σ.get i else B.get j
 n:=σ.n
 wf j hj:=by
  by_cases e:j=i
  ·simp only[if_pos e];subst e;exact σ.wf j hj
  ·simp only[if_neg e];exact B.wf j (Nat.le_trans h hj)
theorem Heap.ins_self (B σ:Heap) (i:Nat) (h:B.n≤σ.n):(B.ins σ i h).get i=σ.get i:=by simp[Heap.ins]
theorem Heap.ins_ne (B σ:Heap) {i j:Nat}(h:B.n≤σ.n) (e:j≠i):(B.ins σ i h).get j=B.get j:=by simp[Heap.ins,e]
theorem Heap.Le.ins {B σ:Heap}(h:B.Le σ) (i:Nat):B.Le (B.ins σ i h.1):=⟨h.1,fun j b hb=>by
 by_cases e:j=i
 ·subst e;rw[Heap.ins_self];exact h.2 _ _ hb
 ·rw[Heap.ins_ne _ _ _ e];exact hb⟩
theorem Heap.Le.ins_le {B σ:Heap}(h:B.Le σ) (i:Nat):(B.ins σ i h.1).Le σ:=⟨Nat.le_refl _,fun j b hb=>by
 by_cases e:j=i
 ·subst e;rw[Heap.ins_self] at hb;exact hb
 ·rw[Heap.ins_ne _ _ _ e] at hb;exact h.2 _ _ hb⟩
theorem Heap.ins_ins {B F σ:Heap}(h:B.Le F) (i:Nat) (hB:B.n≤σ.n) (hF:F.n≤σ.n):(B.ins σ i hB).Le (F.ins σ i hF):=⟨Nat.le_refl _,fun j b hb=>by
 by_cases e:j=i
 ·subst e;rw[Heap.ins_self] at hb ⊢;exact hb
 ·rw[Heap.ins_ne _ _ _ e] at hb ⊢;exact h.2 _ _ hb⟩
theorem Gam.freeze (hG:Gam P B F pl tb s env σ) {o i:Nat}(hl:(oget s.own o).live=true) (hi:Oid (pl o) i) :
  GBase B F σ (B.ins σ i hG.leB.1) (F.ins σ i hG.le.1) σ∧Gam P (B.ins σ i hG.leB.1) (F.ins σ i hG.le.1) pl tb ⟨s.env,oset s.own o .dead,s.nx⟩ env σ:=by
 have hFi:=hG.fresh o i hl hi;have lv:∀ d,(oget (oset s.own o .dead) d).live=true→d≠o∧(oget s.own d).live=true:=fun d h=>by
  rw[oget_oset] at h;by_cases e:d=o
  ·rw[if_pos e] at h;cases h
  ·rw[if_neg e] at h;exact⟨e,h⟩
 refine⟨⟨hG.leB.ins i,hG.le.ins i,fun j b h1 h2=>?_,.refl _⟩,⟨Heap.ins_ins hG.bf i _ _,hG.le.ins_le i,SRs.mono (hG.leB.ins i) (fun _ _ h=>h) _ _ hG.env,fun d=>?_,fun d j h1 h2=>?_,fun d d' j hne h1 h2 h3 h4=>hG.sep d d' j hne (lv d h1).2 (lv d' h2).2 h3 h4,hG.free⟩⟩
 ·have e:j≠i:=by rintro rfl;rw[hFi] at h1;cases h1
  rw[Heap.ins_ne _ _ _ e];exact h2
 ·simp only[oget_oset];by_cases e:d=o
  ·rw[if_pos e];trivial
  ·rw[if_neg e];exact(hG.obj d).mono (hG.leB.ins i) (fun _ _ h=>h) fun _ _ _=>rfl
 ·obtain⟨hne,hlv⟩:=lv d h1;have e:j≠i:=by rintro rfl;exact hG.sep d o j hne hlv hl h2 hi
  rw[Heap.ins_ne _ _ _ e];exact hG.fresh d j hlv h2
theorem Gam.own {s':St}(hG:Gam P B F pl tb s env σ) (h1:s'.env=s.env) (h2:∀ d,oget s'.own d=oget s.own d) (h3:s'.nx=s.nx):Gam P B F pl tb s' env σ :=
 ⟨hG.bf,hG.le,by rw[h1];exact hG.env,fun d=>by rw[h2];exact hG.obj d,fun d i=>by rw[h2];exact hG.fresh d i,fun d d' i hne=>by rw[h2,h2];exact hG.sep d d' i hne,fun n hn=>hG.free n (by rw[←h3];exact hn)⟩
theorem Gam.drop (hG:Gam P B F pl tb s env σ) (o:Nat):Gam P B F pl tb ⟨s.env,oset s.own o .dead,s.nx⟩ env σ:=by
 have lv:∀ d,(oget (oset s.own o .dead) d).live=true→d≠o∧(oget s.own d).live=true:=fun d h=>by
  rw[oget_oset] at h;by_cases e:d=o
  ·rw[if_pos e] at h;cases h
  ·rw[if_neg e] at h;exact⟨e,h⟩
 refine⟨hG.bf,hG.le,hG.env,fun d=>?_,fun d j h1 h2=>hG.fresh d j (lv d h1).2 h2,fun d d' j hne h1 h2 h3 h4=>hG.sep d d' j hne (lv d h1).2 (lv d' h2).2 h3 h4,hG.free⟩;simp only[oget_oset];by_cases e:d=o
 ·rw[if_pos e];trivial
 ·rw[if_neg e];exact hG.obj d
theorem make_drop (s:St) (d:Nat) (b:OB) (q:Nat):oget (s.make d .dead).own q=oget (oset (s.make d b).own d .dead) q:=by
 simp only[St.make,oget_oset];by_cases e:q=d
 ·rw[if_pos e,if_pos e]
 ·rw[if_neg e,if_neg e,if_neg e]
theorem n_rangeMap {C:Cx}(hG:Gam P B F pl tb s env σ) {d:Nat}{x:Operand}{K:SV→St→Prop}(h:gn C d (.ext (.rangeMap x)) (gev [] s.env) s K) {R:Value→Heap→Prop}
  (hK:∀ v s' B' F' pl' tb' u σ',K v s'→GBase B F σ B' F' σ'→Gam P B' F' pl' tb' s' env σ'→SR P B' pl' tb' v u→R u σ'):vop (semSpecs P) (.ext (.rangeMap x)) env σ R:=by
 have ha:=hG.evs (Gds.nil (tb:=tb)) x;simp only[gn] at h;split at h
 ·rename_i o h1;rw[h1] at ha;simp only[SR] at ha;split at h
  ·rename_i kk vk m ho;split at h
   ·have hob:=hG.obj o;rw[ho] at hob;obtain⟨i,es,clock,h2,h3,h4⟩:=hob;obtain⟨g1,g2⟩:=hG.freeze (o:=o) (i:=i) (by rw[ho];rfl) (by rw[h2];rfl)
    have hpush:=g2.push d (.iter kk vk m []) (.pointer (some ⟨σ.n,0,none⟩)) (.obj (.iter i clock [] clock) true) rfl
     ⟨σ.n,i,es,clock,true,[],rfl,Heap.get_push_self _ _,by rw[Heap.ins_self];exact h3,h4.mono g1.b,rfl,fun t r h=>by simp at h⟩
    show obind (vact (.ext (.rangeMap x)) (evalO env) σ) _
    have hv:vact (.ext (.rangeMap x)) (evalO env) σ=some (.pointer (some ⟨σ.n,0,none⟩),σ.push (.obj (.iter i clock [] clock) true)):=by
     simp only[vact,xact,ha.1,h2,Heap.mapAt,h3]
    rw[hv];exact hK _ _ _ _ _ _ _ _ h (g1.trans (.of g2.bf (Dead.push _ _))) hpush (by simp only[SR,pl_updP];exact⟨_,rfl,rfl⟩)
   ·exact h.elim
  ·exact h.elim
 ·exact h.elim
theorem n_nextMap {C:Cx}(hG:Gam P B F pl tb s env σ) {d:Nat}{x:Operand}{K:SV→St→Prop}(h:gn C d (.ext (.nextMap x)) (gev [] s.env) s K) {R:Value→Heap→Prop}
  (hK:∀ v s' B' F' pl' tb' u σ',K v s'→GBase B F σ B' F' σ'→Gam P B' F' pl' tb' s' env σ'→SR P B' pl' tb' v u→R u σ'):vop (semSpecs P) (.ext (.nextMap x)) env σ R:=by
 have ha:=hG.evs (Gds.nil (tb:=tb)) x;simp only[gn] at h;split at h
 ·rename_i o f h1;rw[h1] at ha;simp only[SR] at ha;split at h
  ·rename_i kk vk m dn ho;split at h
   ·rename_i hf;obtain⟨rfl,hprim⟩:=hf;have hlive:(oget s.own o).live=true:=by rw[ho];rfl
    have hob:=hG.obj o;rw[ho] at hob;obtain⟨j,i,es,clock,wr,seen,h2,h3,h4,h5,h6⟩:=hob;obtain⟨b,e2,e3⟩:=ha;rw[h2] at e2;obtain rfl:j=b:=by simpa using e2
    have hmap:σ.mapAt i=some (es,clock,wr):=by simp[Heap.mapAt,hG.leB.2 _ _ h4]
    have hlen:=h5.1.length;obtain⟨hA,hB⟩:=h;have hid:F.get j=none:=hG.fresh o j hlive (by rw[h2];rfl)
    have hoth:∀ q i',q≠o→(oget s.own q).live=true→Oid (pl q) i'→i'≠j:=fun q i' hq hl hi e=>by
     subst e;exact hG.sep q o i' hq hl hlive hi (by rw[h2];rfl)
    show vnext (evalO env x) σ R
    unfold vnext;rw[e3];simp only[h3,hmap];refine⟨?_,?_,fun hall=>?_,fun e he hes=>?_⟩
    ·cases es with
     |nil=>simp
     |cons e es=>simp[h5.2.2 e (by simp)]
    ·rw[List.all_eq_true];intro e he;obtain⟨r,hr⟩:=List.mem_iff_getElem?.1 he;obtain⟨_,k1,_⟩:=MR.at h5.1 hr;exact prim_plain hprim (k1.kc (Kind.prim_one hprim))
    ·refine hK _ _ _ _ _ _ _ _ (hA fun r hr=>?_) (.of hG.bf (Dead.refl σ)) hG (by simp only[SR,SRs];exact⟨[.bool false],rfl,_,[],rfl,rfl,rfl⟩)
     have hrl:r<es.length:=by omega
     have he:=List.getElem?_eq_getElem hrl;have:=List.all_eq_true.1 hall es[r] (List.getElem_mem hrl);have hlt:=h5.2.2 _ (List.getElem_mem hrl);rw[Bool.or_eq_true,decide_eq_true_eq] at this;rcases this with this|this
     ·rw[List.contains_iff_mem] at this;obtain⟨t,ht⟩:=List.mem_iff_getElem?.1 this;have htl:t<seen.length:=(List.getElem?_eq_some_iff.1 ht).1;have htd:t<dn.length:=by have:=h6.1;omega
      obtain⟨e',k1,k2⟩:=h6.2 t dn[t] (List.getElem?_eq_getElem htd);rw[ht] at k2;have:=stamp_inj h5.2 he k1 (osj k2);rw[this];exact List.getElem_mem htd
     ·omega
    ·obtain⟨r,hr⟩:=List.mem_iff_getElem?.1 he;have hrl:r<es.length:=(List.getElem?_eq_some_iff.1 hr).1;have hrn:r∉dn:=fun hm=>by
      obtain⟨t,ht⟩:=List.mem_iff_getElem?.1 hm;obtain⟨e',k1,k2⟩:=h6.2 t r ht;rw[hr] at k1;obtain rfl:=osj k1;have:seen.contains e.2.2=true:=by rw[List.contains_iff_mem];exact List.mem_of_getElem? k2
      rw[this] at hes;cases hes
     refine hK _ _ _ _ _ _ _ _ (hB r (by omega) hrn) (.of hG.bf (Dead.upd _ _ _ (by rw[h3];rfl))) (hG.write o _ (hG.le.upd hid _) hlive (fun q i' hq hl hi=>Heap.get_upd_ne _ _ (hoth q i' hq hl hi)) ⟨j,i,es,clock,wr,seen++[e.2.2],h2,Heap.get_upd_self _ _ (σ.lt h3),h4,h5,?_,fun t r' ht=>?_⟩) (by simp only[SR,SRs];exact⟨[.bool true,e.1,e.2.1],rfl,_,_,rfl,rfl,_,_,rfl,trivial,_,_,rfl,trivial,rfl⟩)
     ·simp[h6.1]
     ·rw[List.getElem?_append] at ht;split at ht
      ·rename_i hlt;obtain⟨e',k1,k2⟩:=h6.2 t r' ht;refine⟨e',k1,?_⟩;rw[List.getElem?_append_left (by have:=h6.1;omega)];exact k2
      ·rename_i hge;have h0:t-dn.length=0:=by
        cases hz:t-dn.length with
        |zero=>rfl
        |succ n=>rw[hz] at ht;simp at ht
       rw[h0] at ht;obtain rfl:r=r':=by simpa using ht
       refine⟨e,hr,?_⟩;rw[List.getElem?_append_right (by have:=h6.1;omega),show t-seen.length=0 by have:=h6.1;omega];rfl
   ·exact h.elim
  ·exact h.elim
 ·exact h.elim
theorem lst_frz {d:Nat}(hbf:B.Le F) {ty:Nat}{k:Kind}{xs:List k.T}{nl:Bool}(hk:k.flat=true) {pl':Nat→Value}{u:Value}{σ':Heap}(h1:Gam P B F pl' tb (s.make d (.lst ty k xs nl)) env σ') (h2:SR P B pl' tb (.lst d) u) (hd:Dead σ σ') :
  ∃ B' F',GBase B F σ B' F' σ'∧Gam P B' F' pl' tb (s.make d .dead) env σ'∧SR P B' pl' tb (.val (.list k) xs) u:=by
 have hob:=h1.obj d;have hget:oget (s.make d (.lst ty k xs nl)).own d=.lst ty k xs nl:=by simp only[St.make,oget_oset,if_true]
 rw[hget] at hob;simp only[SR] at h2;obtain⟨rfl,_⟩:=h2;rcases hob with⟨_,hx,hp⟩|⟨_,i,cap,c,t,hp,hcap,hg,hlen,hrows⟩
 ·refine⟨B,F,.of hbf hd,(h1.drop d).own rfl (make_drop s d _) rfl,?_⟩;simp only[SR];exact⟨_,rfl,.inl ⟨hx,hp⟩⟩
 ·obtain⟨g1,g2⟩:=h1.freeze (o:=d) (i:=i) (by rw[hget];rfl) (by rw[hp];rfl)
  refine⟨_,_,(GBase.of hbf hd).trans g1,g2.own rfl (make_drop s d _) rfl,?_⟩;simp only[SR];refine⟨_,rfl,.inr ⟨i,0,cap,c,⟨k.size,ty⟩,true,t,hp,hcap,by rw[Heap.ins_self];exact hg,rfl,by have:=Nat.mul_le_mul_right k.size hcap;omega,?_⟩⟩
  rw[List.drop_zero];exact hrows.mono fun _ _ e=>KC.flat hk e
theorem ret_list {d nt:Nat}(hnt:0<nt) (hG:Gam P B F pl tb s env σ) {ty:Nat}{k:Kind}{xs:List k.T}{nl:Bool}(hk:k.flat=true) {u:Value}{σ':Heap}(h:Ret P σ (.lst 0) [.lst ty k xs nl] u σ') :
  ∃ B' F' pl',GBase B F σ B' F' σ'∧Gam P B' F' pl' tb (s.make d .dead) env σ'∧SR P B' pl' tb (.val (.list k) xs) u:=by
 obtain⟨pl',h1,h2⟩:=h.gam (d:=d) hnt hG (by rfl) (by simp only[List.all_cons,List.all_nil,Bool.and_true,OB.ret];exact hk)
 simp only[St.makes,Nat.zero_mul,Nat.add_zero,SV.ren] at h1 h2;obtain⟨B',F',k⟩:=lst_frz hG.bf hk h1 h2 h.1.2;exact⟨B',F',pl',k⟩
theorem glist1_inv {nt:Nat}{r:Option (Prop×SV×List OB)}{c:Prop}{v:SV}(h:glist1 nt r=some (c,v)):∃ ty k xs nl,r=some (c,.lst 0,[.lst ty k xs nl])∧v=.val (.list k) xs∧k.flat=true∧0<nt:=by
 unfold glist1 at h;split at h
 ·split at h
  ·rename_i k xs _;cases hc:(k.flat&&Nat.blt 0 nt) with
   |false=>rw[hc] at h;cases h
   |true =>
    rw[hc] at h;obtain⟨rfl,rfl⟩:=pinj h;simp only[Bool.and_eq_true,Nat.blt_eq] at hc;exact⟨_,_,_,_,rfl,rfl,hc.1,hc.2⟩
  ·cases h
 ·cases h
theorem glist_sound {C:Cx}(hcs:CsOk P C.cs) (hG:Gam P B F pl tb s env σ) {gs:List Gd}(hg:Gds tb gs) {o:VOp}{c:Prop}{v:SV}{d:Nat}(h:glist C o (gev gs s.env) s.own=some (c,v)) (hc:c) {K:Value→Heap→Prop}
  (hK:∀ u σ' B' F' pl',GBase B F σ B' F' σ'→Gam P B' F' pl' tb (s.make d .dead) env σ'→SR P B' pl' tb v u→K u σ'):vop (semSpecs P) o env σ K:=by
 cases o<;>first|(cases h;done)|skip
 case callF f args =>
  simp only[glist] at h;obtain⟨ty,k,xs,nl,heq,rfl,hk,hnt⟩:=glist1_inv h;obtain⟨g,a,b,h3,h4,_⟩:=gcallee_sound hcs (show SR P σ noPl noTb (.fn f [] []) (.func (.func f) #[] #[]) by simp only[SR,SRs];exact⟨[],[],rfl,rfl,rfl⟩) (hG.gcall hg args) heq (by rfl) (by simp only[List.all_cons,List.all_nil,Bool.and_true,OB.ret];exact hk) hc
  obtain⟨rfl,rfl,rfl⟩:=(by simpa using h3:f=g∧#[]=a∧#[]=b)
  have:=h4.mono (R':=K) fun u σ' hr=>by
   obtain⟨B',F',pl',k1,k2,k3⟩:=ret_list (d:=d) hnt hG hk hr;exact hK u σ' B' F' pl' k1 k2 k3
  show VCalled P f (args.map (evalO env)) σ K
  simpa using this
 case callV f args =>
  simp only[glist] at h;obtain⟨ty,k,xs,nl,heq,rfl,hk,hnt⟩:=glist1_inv h;obtain⟨g,a,b,h3,h4,_⟩:=gcallee_sound hcs (hG.gfun hg f) (hG.gcall hg args) heq (by rfl) (by simp only[List.all_cons,List.all_nil,Bool.and_true,OB.ret];exact hk) hc
  exact vcallV_of h3 (h4.mono fun u σ' hr=>by
   obtain⟨B',F',pl',k1,k2,k3⟩:=ret_list (d:=d) hnt hG hk hr;exact hK u σ' B' F' pl' k1 k2 k3)
 case buildSlice e z n ps =>
  simp only[glist] at h;split at h
  ·rename_i k hkt;split at h
   ·rename_i hcc;split at h
    ·rename_i xs hx;obtain⟨rfl,rfl⟩:=pinj h;have hgn:gn C d (.buildSlice e z n ps) (gev gs s.env) s (fun v s'=>v=.lst d∧s'=s.make d (.lst e.ty k xs false)):=by
      simp only[gn,hkt,hx];rw[if_pos ⟨hcc.1,hcc.2.1⟩];simp
     obtain⟨u,σ',pl',v,s',h1,⟨rfl,rfl⟩,⟨h3,_⟩,h4⟩:=n_buildSlice (fun x=>hG.evs hg x) hG hgn;obtain⟨B',F',k1,k2,k3⟩:=lst_frz hG.bf hcc.2.2 h3 h4 (vact_dead h1);show obind (vact (.buildSlice e z n ps) (evalO env) σ) _
     rw[h1];exact hK u σ' B' F' pl' k1 k2 k3
    ·cases h
   ·cases h
  ·cases h
theorem glist_val {C:Cx}{o:VOp}{ev:Operand→SV}{own:Own}{c:Prop}{v:SV}(h:glist C o ev own=some (c,v)):∃ (k:Kind) (xs:List k.T),v=.val (.list k) xs:=by
 cases o<;>first|(cases h;done)|skip
 case callF=>simp only[glist] at h;obtain⟨ty,k,xs,nl,_,hv,_⟩:=glist1_inv h;exact⟨k,xs,hv⟩
 case callV=>simp only[glist] at h;obtain⟨ty,k,xs,nl,_,hv,_⟩:=glist1_inv h;exact⟨k,xs,hv⟩
 case buildSlice e z n ps =>
  simp only[glist] at h;split at h
  ·split at h
   ·split at h
    ·obtain⟨_,rfl⟩:=pinj h;exact⟨_,_,rfl⟩
    ·cases h
   ·cases h
  ·cases h
theorem gn_sound {C:Cx}(hcs:COk P C) {B F:Heap}{pl:Nat→Value}{tb:Nat→Option Bool}{s:St}{env:Env}{σ:Heap}(hG:Gam P B F pl tb s env σ) {d:Nat}{o:VOp}{K:SV→St→Prop}(h:gn C d o (gev [] s.env) s K) {R:Value→Heap→Prop}
  (hK:∀ v s' B' F' pl' tb' u σ',K v s'→GBase B F σ B' F' σ'→Gam P B' F' pl' tb' s' env σ'→SR P B' pl' tb' v u→R u σ'):vop (semSpecs P) o env σ R:=by
 have hev:=hG.evs (Gds.nil (tb:=tb));have act:∀ o {T:Nat},NOk P B F tb o (evalO env) env σ K T s pl→(∀ R',obind (vact o (evalO env) σ) (fun p=>R' p.1 p.2)→vop (semSpecs P) o env σ R')→vop (semSpecs P) o env σ R:=fun o _ ⟨u,σ',pl',v,s',h1,h2,h3,h4⟩ hv=>hv R (by rw[h1];exact hK v s' B F pl' tb u σ' h2 (.of hG.bf (vact_dead h1)) h3.1 h4)
 have hargs:∀ args:List Operand,SRs P B pl tb (args.map (gev [] s.env)) (args.map (evalO env)):=fun args=>SRs.map fun x _=>hG.evs Gds.nil x;cases o
 case alloc t z=>exact act _ (n_alloc hev hG h) fun _ h=>h
 case box t x=>exact act _ (n_box hev hG h) fun _ h=>h
 case buildSlice e z n ps=>exact act _ (n_buildSlice hev hG h) fun _ h=>h
 case makeSlice e b z l c=>exact act _ (n_makeSlice hev hG h) fun _ h=>h
 case append e b x y=>exact act _ (n_append hev hG h) fun _ h=>h
 case store size a x=>exact act _ (n_store hev hG h) fun _ h=>h
 case callF f args =>
  simp only[gn] at h;obtain⟨g,a,b,h3,h4⟩:=gcallX_sound hcs hG (show SR P B pl tb (.fn f [] []) (.func (.func f) #[] #[]) by simp only[SR,SRs];exact⟨[],[],rfl,rfl,rfl⟩) (hargs args) h (fun _ e=>by cases e) hK
  obtain⟨rfl,rfl,rfl⟩:=(by simpa using h3:f=g∧#[]=a∧#[]=b)
  show VCalled P f (args.map (evalO env)) σ R
  simpa using h4
 case callV f args =>
  simp only[gn] at h;by_cases hy:∃ o,gev [] s.env f=.dd o .yv
  ·obtain⟨o,hy⟩:=hy;have hf:=hG.evs (Gds.nil (tb:=tb)) f;have h':gcallX C d (gev [] s.env f) (args.map (gev [] s.env)) s K:=h;rw[hy] at hf h';simp only[SR,DR] at hf;obtain⟨i,hp,hv⟩:=hf;simp only[gcallX] at h';split at h'
   ·rename_i y hyl;have:=hcs.yl o y hyl B F pl tb s env σ _ _ K R i hG (hargs args) h' hp hK;simp only[vop,hv];exact this
   ·exact h'.elim
  obtain⟨g,a,b,h3,h4⟩:=gcallX_sound hcs hG (hG.evs Gds.nil f) (hargs args) h (fun o e=>hy ⟨o,e⟩) hK;exact vcallV_of h3 h4
 case ext x =>
  cases x
  case mapUpdate mk m k v=>exact act _ (n_mapUpdate hev hG h) fun _ h=>h
  case copy size a b=>exact act _ (n_copy hev hG h) fun _ h=>h
  case unsafeStr e a n=>exact act _ (n_unsafeStr hev hG h) fun _ h=>h
  case strBytes e a=>exact act _ (n_strBytes hev hG h) fun _ h=>h
  case rangeMap a=>exact n_rangeMap hG h hK
  case nextMap a=>exact n_nextMap hG h hK
  all_goals exact h.elim
 all_goals exact h.elim
theorem Gam.frz (hG:Gam P B F pl tb s env σ) (o:Nat):∃ B' F',GBase B F σ B' F' σ∧Gam P B' F' pl tb (s.frz o) env σ:=by
 unfold St.frz;split
 ·rename_i ty k xs nl ho;have fin:∀ {B' F':Heap},Gam P B' F' pl tb ⟨s.env,oset s.own o .dead,s.nx⟩ env σ→KC B' (.list k) xs [pl o]→Gam P B' F' pl tb ⟨SVs.frz o k xs s.env,ofrz o k xs s.own,s.nx⟩ env σ:=fun {B' F'} h hk=>by
   have e1:∀ d,oget (ofrz o k xs s.own) d=(oget (oset s.own o .dead) d).frz o k xs:=fun d=>by
    rw[oget_ofrz,oget_oset];by_cases e:d=o
    ·rw[if_pos e,if_pos e];rfl
    ·rw[if_neg e,if_neg e]
   have lv:∀ d,(oget (ofrz o k xs s.own) d).live=(oget (oset s.own o .dead) d).live:=fun d=>by rw[e1,OB.live_frz]
   refine⟨h.bf,h.le,SRs.frz hk _ _ h.env,fun d=>?_,fun d i h1 h2=>?_,fun d d' i hne h1 h2=>?_,h.free⟩
   ·simp only[e1];exact(h.obj d).frz hk
   ·simp only[lv] at h1;exact h.fresh d i h1 h2
   ·simp only[lv] at h1 h2;exact h.sep d d' i hne h1 h2
  have hob:=hG.obj o;rw[ho] at hob;rcases hob with⟨_,hx,hp⟩|⟨_,i,cap,c,t,hp,hcap,hg,hlen,hrows⟩
  ·exact⟨B,F,.of hG.bf (.refl _),fin (hG.drop o) ⟨_,rfl,.inl ⟨hx,hp⟩⟩⟩
  ·obtain⟨g1,g2⟩:=hG.freeze (o:=o) (i:=i) (by rw[ho];rfl) (by rw[hp];rfl)
   refine⟨_,_,g1,fin g2 ⟨_,rfl,.inr ⟨i,0,cap,c,⟨k.size,ty⟩,true,t,hp,hcap,by rw[Heap.ins_self];exact hg,rfl,by have:=Nat.mul_le_mul_right k.size hcap;omega,?_⟩⟩⟩
   rw[List.drop_zero];exact hrows.mono fun _ _ e=>KC.mono g1.b e
 ·exact⟨B,F,.of hG.bf (.refl _),hG⟩
theorem GRel.frzs {B0 F0 D0:Heap}:∀ (l:List Nat) {s:St},GRel P B0 F0 D0 s env σ→GRel P B0 F0 D0 (s.frzs l) env σ
 |[],_,h=>h
 |o::r,s,⟨B,F,pl,tb,hB,hG⟩=>by
  obtain⟨B',F',g1,g2⟩:=hG.frz o;exact GRel.frzs r ⟨B',F',pl,tb,hB.trans g1,g2⟩
end
theorem gsplit_at {j:Nat}{f:Nat→Prop}:∀ {n i:Nat},gsplit (j:Int) f n i→i≤j→j<i+n→f j
 |0,i,_,h1,h2=>by omega
 |n+1,i,h,h1,h2=>by
  rcases Nat.lt_or_ge i j with h3|h3
  ·exact gsplit_at h.2 h3 (by omega)
  ·have:j=i:=by omega
   subst this;exact h.1 rfl
theorem vidx_form {o:VOp}{len i:Nat}{f:Nat→VOp}(h:vidx o=some (len,i,f)) {n:Nat}:(∃ size x,f n=.indexAddrArr len size x (.const (.int .i64 (Int.ofNat n))))∨∃ agg size x,f n=.indexArr len agg size x (.const (.int .i64 (Int.ofNat n))):=by
 unfold vidx at h;split at h
 ·cases h;exact .inl ⟨_,_,rfl⟩
 ·cases h;exact .inr ⟨_,_,_,rfl⟩
 ·cases h
theorem vidx_vop {o:VOp}{len i:Nat}{f:Nat→VOp}(h:vidx o=some (len,i,f)) {S:VSpecs}{env:Env}{σ:Heap}{k:IntKind}{n:Nat}(he:evalO env (.tmp i)=.int k (n:Int)) {R:Value→Heap→Prop}(hv:vop S (f n) env σ R):vop S o env σ R:=by
 have hc:evalO env (.const (.int .i64 (Int.ofNat n)))=.int .i64 (n:Int):=rfl;unfold vidx at h;split at h
 ·rename_i len size x t;cases h;change obind (vact _ (evalO env) σ) _ at hv
  change obind (vact _ (evalO env) σ) _
  simp only[vact,he,hc] at hv ⊢;generalize evalO env x=u at hv ⊢;cases u<;>first|exact hv|skip
  rename_i p;cases p<;>first|exact hv|skip
  rename_i a;obtain⟨b,o,sp⟩:=a;cases sp<;>exact hv
 ·rename_i len agg size x t;cases h;change obind (vact _ (evalO env) σ) _ at hv
  change obind (vact _ (evalO env) σ) _
  simp only[vact,he,hc] at hv ⊢;generalize evalO env x=u at hv ⊢;cases u<;>exact hv
 ·cases h
theorem gop0_sound {C:Cx}(hcs:COk P C) {B0 F0 D0:Heap}{s:St}{env:Env}{σ:Heap}(hR:GRel P B0 F0 D0 s env σ) {o:VOper}{K:St→Prop}(h:gop0 C o s K) {R:Env→Heap→Prop}(hK:∀ s' env' σ',K s'→GRel P B0 F0 D0 s' env' σ'→R env' σ') :
  obind (vwant env o.guard) fun b=>vif b (vop (semSpecs P) o.op env σ fun v σ'=>R (putE env o.dst v) σ') (R (putE env o.dst undef) σ):=by
 unfold gop0 at h;split at h
 ·rename_i hg;rw[hg];refine⟨fun _=>?_,fun e=>by cases e⟩
  replace hR:=hR.frzs (frzOf C (o.dst.getD 0) o.op (gev [] s.env) s.own)
  generalize s.frzs (frzOf C (o.dst.getD 0) o.op (gev [] s.env) s.own)=s at h hR;obtain⟨B,F,pl,tb,hB,hG⟩:=hR;unfold gopU at h;split at h
  ·rename_i len i f hvi;split at h
   ·rename_i k j hj;obtain⟨h1,h2,h3⟩:=h;obtain⟨n,rfl⟩:=Int.eq_ofNat_of_zero_le h1;have hn:n<len:=by omega
    have h4:=gsplit_at h3 (Nat.zero_le n) (by omega)
    have he:=asI_inv hj (hG.evs (Gds.nil (tb:=tb)) (.tmp i));split at h4
    ·rename_i cs v hgq;obtain⟨k1,k2⟩:=gobl_holds h4
     replace k1:=gnm_elim k1
     have hv:=gqc_sound (C:=C) hcs.cs hG Gds.nil (o:=f n) (raw:=C.raw.contains (o.dst.getD 0)) (cs:=cs) (v:=v) (by
      rw[←hgq];obtain⟨size,x,hf⟩|⟨agg,size,x,hf⟩:=vidx_form hvi<;>rw[hf];rfl;rfl) (k2 fun g hg=>by cases hg) fun u hu=>hK _ _ _ k1 ⟨B,F,pl,tb,hB,hG.put o.dst hu⟩
     exact vidx_vop hvi he hv
    ·exact h4.elim
   ·exact h.elim
  unfold gopV at h;split at h
  ·rename_i c a b hop;split at h
   ·rename_i v hv;obtain⟨u,h1,h2⟩:=gpick_sound hG Gds.nil hv;rw[hop];show obind (vact (.pick c a b) (evalO env) σ) _
    rw[h1];exact hK _ _ _ (gnm_elim h) ⟨B,F,pl,tb,hB,hG.put o.dst h2⟩
   ·exact h.elim
  ·rename_i hnp;cases hq:isQuiet o.op with
   |true =>
    rw[hq] at h;simp only[_root_.cond_true] at h;split at h
    ·rename_i cs v hgq;obtain⟨h1,h2⟩:=gobl_holds h
     replace h1:=gnm_elim h1
     refine gqc_sound (C:=C) hcs.cs hG Gds.nil (raw:=C.raw.contains (o.dst.getD 0)) (cs:=cs) (v:=v) ?_ (h2 fun g hg=>by cases hg) fun u hu=>hK _ _ _ h1 ⟨B,F,pl,tb,hB,hG.put o.dst hu⟩
     rw[←hgq];cases ho:o.op<;>first|rfl|(rw[ho] at hq;cases hq)
    ·exact h.elim
   |false =>
    rw[hq] at h;simp only[_root_.cond_false] at h;split at h
    ·rename_i hop;split at h
     ·rename_i kk vk _;obtain⟨h1,h2⟩:=n_makeMap hG (C.off+o.dst.getD 0) kk vk;rw[hop];change R (putE env o.dst (.map (some σ.n))) (σ.push (.obj (.map [] 0) true))
      exact hK _ _ _ h ⟨B,F,_,tb,dead_n hB (Dead.push _ _),h1.put o.dst h2⟩
     ·exact h.elim
    ·rename_i hop;cases hdp:isDeep C (o.dst.getD 0) o.op (gev [] s.env) with
     |true =>
      rw[hdp] at h;simp only[_root_.cond_true] at h;exact gndX_sound hG h fun v s' B' F' pl' tb' u σ' h1 hd h2 h3=>hK _ _ _ h1 ⟨B',F',pl',tb',hB.trans hd,h2.put o.dst h3⟩
     |false =>
      rw[hdp] at h;simp only[_root_.cond_false] at h;exact gn_sound hcs hG h fun v s' B' F' pl' tb' u σ' h1 hd h2 h3=>hK _ _ _ h1 ⟨B',F',pl',tb',hB.trans hd,h2.put o.dst h3⟩
 ·rename_i j want hg;obtain⟨B,F,pl,tb,hB,hG⟩:=hR;rw[hg];split at h
  ·exact h.elim
  ·rename_i gs s' hgd;obtain⟨tb',hG',htb,b,hw,hb1,hb2⟩:=gguard_sound hG hgd;rw[hw];refine⟨fun e=>?_,fun e=>?_⟩
   ·have hgs:Gds tb' gs:=fun g hg=>⟨hb1 e g hg,htb g hg⟩;have fin:∀ {v u},SR P B pl tb' v u→SR P B pl tb' (.grd gs (unbid v)) u:=fun {v u} hs=>by
     simp only[SR];obtain⟨h1,h2⟩:=unbid_sr hs;exact⟨⟨htb,h2⟩,fun _=>h1,fun ⟨g,hg,hne⟩=>absurd (hb1 e g hg) hne⟩
    split at h
    ·rename_i c a b' hop;split at h
     ·rename_i v hv;obtain⟨u,h1,h2⟩:=gpick_sound hG' hgs hv;rw[hop];show obind (vact (.pick c a b') (evalO env) σ) _
      rw[h1];exact hK _ _ _ (gnm_elim h) ⟨B,F,pl,tb',hB,hG'.put o.dst (fin h2)⟩
     ·exact h.elim
    ·split at h
     ·rename_i cs v hgq;obtain⟨h1,h2⟩:=gobl_holds h
      replace h1:=gnm_elim h1
      exact gqc_sound hcs.cs hG' hgs hgq (h2 (hb1 e)) fun u hu=>hK _ _ _ h1 ⟨B,F,pl,tb',hB,hG'.put o.dst (fin hu)⟩
     ·split at h
      ·rename_i c v hgl;obtain⟨h1,h2⟩:=gobl_holds h
       replace h1:=gnm_elim h1
       refine glist_sound hcs.cs hG' hgs (d:=C.off+o.dst.getD 0) hgl (h2 (hb1 e) c (by simp)) fun u σ' B' F' pl' k1 k2 k3=>hK _ _ _ h1 ⟨B',F',pl',tb',hB.trans k1,k2.put o.dst ?_⟩
       simp only[SR];refine⟨⟨htb,?_⟩,fun _=>k3,fun ⟨g,hg,hne⟩=>absurd (hb1 e g hg) hne⟩;obtain⟨k,xs,rfl⟩:=glist_val hgl
       trivial
      ·exact h.elim
   ·have fin:∀ v,SR P B pl tb' (.grd gs (unbid v)) undef:=fun v=>by
     simp only[SR];obtain⟨g,hg,hne⟩:=hb2 e;exact⟨⟨htb,unbid_tb v⟩,fun hall=>absurd (hall g hg) hne,fun _=>trivial⟩
    split at h
    ·split at h
     ·exact hK _ _ _ (gnm_elim h) ⟨B,F,pl,tb',hB,hG'.put o.dst (fin _)⟩
     ·exact h.elim
    ·split at h
     ·exact hK _ _ _ (gnm_elim (gobl_holds h).1) ⟨B,F,pl,tb',hB,hG'.put o.dst (fin _)⟩
     ·split at h
      ·rename_i c v hgl;refine hK _ _ _ (gnm_elim (gobl_holds h).1) ⟨B,F,_,tb',hB,(hG'.make (C.off+o.dst.getD 0) .dead undef hG'.le (fun _ _ _ _ _=>rfl) trivial (fun i hl _=>by cases hl)).put o.dst ?_⟩
       simp only[SR];obtain⟨g,hg,hne⟩:=hb2 e;refine⟨⟨htb,?_⟩,fun hall=>absurd (hall g hg) hne,fun _=>trivial⟩;obtain⟨k,xs,rfl⟩:=glist_val hgl
       trivial
      ·exact h.elim
theorem gop_sound {C:Cx}(hcs:COk P C) {B0 F0 D0:Heap}{s:St}{env:Env}{σ:Heap}(hR:GRel P B0 F0 D0 s env σ) {o:VOper}{K:St→Prop}(h:gop C o s K) {R:Env→Heap→Prop}(hK:∀ s' env' σ',K s'→GRel P B0 F0 D0 s' env' σ'→R env' σ') :
  obind (vwant env o.guard) fun b=>vif b (vop (semSpecs P) o.op env σ fun v σ'=>R (putE env o.dst v) σ') (R (putE env o.dst undef) σ):=by
 unfold gop at h;split at h
 ·rename_i t ht;have hR0:=hR;obtain⟨B,F,pl,tb,hB,hG⟩:=hR;rw[gstat_sound hG ht];cases t with
  |true =>
   simp only[_root_.cond_true] at h;exact gop0_sound hcs hR0 (o:=⟨o.dst,o.op,none⟩) h hK
  |false =>
   simp only[_root_.cond_false] at h;exact⟨(fun e=>by cases e),fun _=>hK _ _ _ h ⟨B,F,pl,tb,hB,hG.put o.dst (by simp[SR])⟩⟩
 ·exact gop0_sound hcs hR h hK
theorem gspl_sound {C:Cx}{B0 F0 D0:Heap}{s:St}{env:Env}{σ:Heap}(hR:GRel P B0 F0 D0 s env σ) {d:Option Nat}{K:St→Prop}(h:gspl C d K s):∃ s2,K s2∧GRel P B0 F0 D0 s2 env σ:=by
 unfold gspl at h;split at h
 ·exact⟨s,h,hR⟩
 ·rename_i d;cases hb:C.spl.contains d with
  |false=>rw[hb] at h;exact⟨s,h,hR⟩
  |true =>
   rw[hb] at h;simp only[_root_.cond_true] at h;split at h
   ·rename_i t ht;obtain⟨B,F,pl,tb,hB,hG⟩:=hR;have he:=asB_inv ht (hG.env.getD d undef);have hput:∀ v,SR P B pl tb v (env.getD d undef)→GRel P B0 F0 D0 (s.put (some d) v) env σ:=fun v hv=>by
     have:=hG.put (some d) hv;refine⟨B,F,pl,tb,hB,?_⟩;have e2:putE env (some d) (env.getD d undef)=env:=by
      show env.set d _=env
      rcases Nat.lt_or_ge d env.length with h|h
      ·rw[List.getD_eq_getElem?_getD,List.getElem?_eq_getElem h];simp
      ·rw[List.set_eq_of_length_le h]
     rw[e2] at this;exact this
    have sr:SR P B pl tb (.grd [] (.val .bo t)) (env.getD d undef):=by
     simp only[SR];exact⟨⟨(fun g hg=>by cases hg),trivial⟩,(fun _=>by rw[he];simp[KC]),fun ⟨g,hg,_⟩=>by cases hg⟩
    cases t with
    |true=>exact⟨_,h.1 rfl,hput _ sr⟩
    |false=>exact⟨_,h.2 rfl,hput _ sr⟩
   ·exact h.elim
theorem gops_sound {C:Cx}(hcs:COk P C) {B0 F0 D0:Heap}:∀ (ops:List VOper) {s:St}{env:Env}{σ:Heap},GRel P B0 F0 D0 s env σ→∀ {K:St→Prop},gops C ops s K→∀ {R:Env→Heap→Prop},(∀ s' env' σ',K s'→GRel P B0 F0 D0 s' env' σ'→R env' σ')→vops (semSpecs P) ops env σ R
 |[],s,env,σ,hR,_K,h,_R,hK=>hK s env σ h hR
 |_o::r,_s,_env,_σ,hR,_K,h,_R,hK=>gop_sound (R:=fun env σ=>vops (semSpecs P) r env σ _R) hcs hR h fun _ _ _ h1 h2=>by
  obtain⟨s2,k1,k2⟩:=gspl_sound h2 h1;exact gops_sound hcs r k2 k1 hK
theorem seg_pureG {S:VSpecs}{l:List DOper}{rest:List DSeg}{env:Env}{σ:Heap}{K:Env→Heap→Prop}(h:l.all (fun o=>!(o.kind==2)&&!(o.op.kind==2))=true) (hv:vops S (l.map dv) env σ fun env σ=>vsegs S rest env σ K):vsegs S (.alts [l]::rest) env σ K:=by
 intro ops ho;obtain rfl:=List.mem_singleton.1 ho;have key:∀ (l:List DOper) (env:Env) (pend:List (Nat×(Heap→Prop))) (K':Env→Heap→Prop),l.all (fun o=>!(o.kind==2)&&!(o.op.kind==2))=true→vops S (l.map dv) env σ K'→vopsD S l env [σ] σ pend K':=by
  intro l;induction l with
  |nil=>intro env pend K' _ h;exact h
  |cons o rest ih =>
   intro env pend K' hk h;simp only[List.all_cons,Bool.and_eq_true,Bool.not_eq_true',beq_eq_false_iff_ne] at hk;obtain⟨⟨hk1,hk2⟩,hr⟩:=hk;have hr:rest.all (fun o=>!(o.kind==2)&&!(o.op.kind==2))=true:=by simpa using hr
   simp only[List.map_cons,vops,dv] at h;simp only[vopsD];cases hw:vwant env o.guard with
   |none=>rw[hw] at h;exact h.elim
   |some b =>
    rw[hw] at h;obtain⟨ht,hf⟩:=h;refine⟨fun e=>?_,fun e=>?_⟩
    ·have ht:=ht e;obtain⟨p,hp,hr'⟩:∃ p,vact o.op (evalO env) σ=some p∧vops S (rest.map dv) (putE env o.dst p.1) p.2 K':=by
      have:=ht;unfold vop at this;split at this
      ·rename_i f axs heq;rw[heq] at hk2;exact absurd rfl hk2
      ·rename_i f axs heq;rw[heq] at hk2;exact absurd rfl hk2
      ·rename_i x heq;rw[heq] at hk2;exact absurd rfl hk2
      ·cases hva:vact o.op (evalO env) σ with
       |none=>rw[hva] at this;exact this.elim
       |some p=>rw[hva] at this;exact⟨p,rfl,this⟩
     have hq:p.2=σ:=act_quiet hk2 (v:=p.1) (σ':=p.2) hp;rw[hq] at hr';rw[if_neg hk1];split
     ·rw[hp];refine⟨fun τ hτ=>?_,ih _ _ _ hr hr'⟩;have:τ=σ:=by
       have:=List.mem_of_mem_drop hτ;simpa using this
      subst this;show obind (vact o.op (evalO env) τ) _
      rw[hp];rfl
     ·rw[hp];exact ih _ _ _ hr hr'
    ·rw[if_neg hk1];exact ih _ _ _ hr (hf e)
 have:=key ops env [] _ h hv;have mono:∀ (l:List DOper) (env:Env) (hs:List Heap) (τ:Heap) (pend:List (Nat×(Heap→Prop))) (A B:Env→Heap→Prop),l.all (fun o=>!(o.kind==2)&&!(o.op.kind==2))=true→(∀ e s,A e s→B e s)→vopsD S l env hs τ pend A→vopsD S l env hs τ pend B:=by
  intro l;induction l with
  |nil=>intro env hs τ pend A B _ hAB h;exact hAB _ _ h
  |cons o rest ih =>
   intro env hs τ pend A B hk hAB h;simp only[List.all_cons,Bool.and_eq_true,Bool.not_eq_true',beq_eq_false_iff_ne] at hk;obtain⟨⟨hk1,hk2⟩,hr⟩:=hk;have hr:rest.all (fun o=>!(o.kind==2)&&!(o.op.kind==2))=true:=by simpa using hr
   simp only[vopsD] at h ⊢;cases hw:vwant env o.guard with
   |none=>rw[hw] at h;exact h.elim
   |some b =>
    rw[hw] at h;obtain⟨ht,hf⟩:=h;refine⟨fun e=>?_,fun e=>?_⟩
    ·have ht:=ht e;rw[if_neg hk1] at ht ⊢;by_cases hk3:o.kind=1
     ·rw[if_pos hk3] at ht ⊢;cases hva:vact o.op (evalO env) τ with
      |none=>rw[hva] at ht;exact ht.elim
      |some p=>rw[hva] at ht;exact⟨ht.1,ih _ _ _ _ _ _ hr hAB ht.2⟩
     ·rw[if_neg hk3] at ht ⊢;cases hva:vact o.op (evalO env) τ with
      |none=>rw[hva] at ht;exact ht.elim
      |some p=>rw[hva] at ht;exact ih _ _ _ _ _ _ hr hAB ht
    ·have hf:=hf e;rw[if_neg hk1] at hf ⊢;exact ih _ _ _ _ _ _ hr hAB hf
 exact mono ops env _ _ _ _ _ h (fun e s hs=>⟨e,s,.refl _ _ _,hs⟩) this
theorem vreads_of {op:VOp}{ev:Operand→Value}{u:Value}{τ τ':Heap}(h:vact op ev τ=some (u,τ')):vreads op ev u τ:=by
 unfold vreads;rw[h];rfl
theorem put_own (s:St) (d:Option Nat) (v:SV):(s.put d v).own=s.own:=by cases d<;>rfl
theorem gguard_own {s s':St}{j:Nat}{want:Bool}{gs:List Gd}(h:gguard s j want=some (gs,s')):s'.own=s.own:=by
 unfold gguard at h;split at h<;>first|(cases h;done)|(obtain⟨_,rfl⟩:=pinj h;rfl)
theorem gd1_sound {C:Cx}{B F:Heap}{pl:Nat→Value}{tb:Nat→Option Bool}{s:St}{env:Env}{σ:Heap}(hG:Gam P B F pl tb s env σ) {o:DOper}{K:St→Prop}(h:gd1 C o s K) :
  ∃ b,vwant env o.guard=some b∧(b=true→∃ u s' tb',vact o.op (evalO env) σ=some (u,σ)∧K s'∧s'.own=s.own∧Gam P B F pl tb' s' (putE env o.dst u) σ)∧(b=false→∃ s' tb',K s'∧s'.own=s.own∧Gam P B F pl tb' s' (putE env o.dst undef) σ):=by
 unfold gd1 at h;split at h
 ·rename_i hg;rw[hg];refine⟨true,rfl,fun _=>?_,fun e=>by cases e⟩
  split at h
  ·rename_i c a b hop;split at h
   ·rename_i v hv;obtain⟨u,h1,h2⟩:=gpick_sound hG Gds.nil hv;exact⟨u,_,tb,by rw[hop];exact h1,gnm_elim h,put_own _ _ _,hG.put o.dst h2⟩
   ·exact h.elim
  ·split at h
   ·rename_i cs v hgq;obtain⟨h1,h2⟩:=gobl_holds h;obtain⟨u,h3,h4⟩:=gq_sound (hG.evs (Gds.nil (tb:=tb))) (fun _=>rfl) hG.leB hG.obj hgq (h2 fun g hg=>by cases hg)
    exact⟨u,_,tb,h3,gnm_elim h1,put_own _ _ _,hG.put o.dst h4⟩
   ·exact h.elim
 ·rename_i j want hg;rw[hg];split at h
  ·exact h.elim
  ·rename_i gs s' hgd;obtain⟨tb',hG',htb,b,hw,hb1,hb2⟩:=gguard_sound hG hgd;refine⟨b,hw,fun e=>?_,fun e=>?_⟩
   ·have hgs:Gds tb' gs:=fun g hg=>⟨hb1 e g hg,htb g hg⟩;have fin:∀ {v u},SR P B pl tb' v u→SR P B pl tb' (.grd gs (unbid v)) u:=fun {v u} hs=>by
     simp only[SR];obtain⟨h1,h2⟩:=unbid_sr hs;exact⟨⟨htb,h2⟩,fun _=>h1,fun ⟨g,hg,hne⟩=>absurd (hb1 e g hg) hne⟩
    split at h
    ·rename_i c a b' hop;split at h
     ·rename_i v hv;obtain⟨u,h1,h2⟩:=gpick_sound hG' hgs hv;exact⟨u,_,tb',by rw[hop];exact h1,gnm_elim h,(put_own _ _ _).trans (gguard_own hgd),hG'.put o.dst (fin h2)⟩
     ·exact h.elim
    ·split at h
     ·rename_i cs v hgq;obtain⟨h1,h2⟩:=gobl_holds h;obtain⟨u,h3,h4⟩:=gq_sound (hG'.evs hgs) (fun _=>rfl) hG'.leB hG'.obj hgq (h2 (hb1 e));exact⟨u,_,tb',h3,gnm_elim h1,(put_own _ _ _).trans (gguard_own hgd),hG'.put o.dst (fin h4)⟩
     ·exact h.elim
   ·have fin:∀ v,SR P B pl tb' (.grd gs (unbid v)) undef:=fun v=>by
     simp only[SR];obtain⟨g,hg,hne⟩:=hb2 e;exact⟨⟨htb,unbid_tb v⟩,fun hall=>absurd (hall g hg) hne,fun _=>trivial⟩
    split at h
    ·split at h
     ·exact⟨_,tb',gnm_elim h,(put_own _ _ _).trans (gguard_own hgd),hG'.put o.dst (fin _)⟩
     ·exact h.elim
    ·split at h
     ·exact⟨_,tb',gnm_elim (gobl_holds h).1,(put_own _ _ _).trans (gguard_own hgd),hG'.put o.dst (fin _)⟩
     ·exact h.elim
theorem allWf_holds {bs:List OB}{q:Prop}(h:allWf bs q):(∀ b∈bs,b.wf)∧q:=by
 induction bs with
 |nil=>exact⟨(fun b hb=>by cases hb),h⟩
 |cons b r ih =>
  obtain⟨h1,h2⟩:=h;obtain⟨h3,h4⟩:=ih h2;exact⟨fun b' hb'=>by
   rcases List.mem_cons.1 hb' with rfl|hb'
   ·exact h1
   ·exact h3 b' hb',h4⟩
mutual
theorem ren_ret0 {d nt:Nat}:∀ (v:SV),v.ret 0=true→(v.ren d nt).ret 0=true
 |.val k x,h=>h
 |.nilS,_|.nilP,_|.nilM,_|.nilF,_=>rfl
 |.lst j,h|.box j _,h|.map j,h=>by simp[SV.ret,Nat.blt] at h
 |.agg l,h=>by simp only[SV.ren,SV.ret] at h ⊢;exact rens_ret0 l h
 |.tup l,h=>by simp only[SV.ren,SV.ret] at h ⊢;exact rens_ret0 l h
 |.any,h|.bid _ _,h|.grd _ _,h|.sub _ _ _ _,h|.elp _ _ _ _,h|.rop _ _ _ _,h|.cp _ _,h|.fn _ _ _,h|.pf _ _ _ _,h=>by cases h
theorem rens_ret0 {d nt:Nat}:∀ (v:List SV),SVs.ret 0 v=true→SVs.ret 0 (SVs.ren d nt v)=true
 |[],_=>rfl
 |s::ss,h=>by
  simp only[SVs.ret,SVs.ren,Bool.and_eq_true] at h ⊢;exact⟨ren_ret0 s h.1,rens_ret0 ss h.2⟩
end
theorem gdcall_sound {C:Cx}(hcs:COk P C) {B F:Heap}{pl:Nat→Value}{tb:Nat→Option Bool}{s:St}{env:Env}{σ:Heap}(hG:Gam P B F pl tb s env σ) {d:Nat}{f:SV}{args:List SV}{K:List Nat→SV→St→Prop}(h:gdcall C d f args s K) {fV:Value}{vs:List Value}
  (hf:SR P σ noPl noTb f fV) (ha:SRs P σ noPl noTb args vs):∃ g a b u σ' ts v s' pl',fV=.func (.func g) a b∧(VCalled P g (a.toList++vs++b.toList) σ fun u' σ''=>u'=u∧σ''=σ')∧K ts v s'∧Gam P B F pl' tb s' env σ'∧SR P B pl' tb v u∧(ts=[]→σ'=σ∧pl'=pl∧s'=s)∧σ.Le σ'∧Dead σ σ'∧FrL ts s s' pl pl' σ σ':=by
 unfold gdcall at h;split at h
 ·rename_i c v bs heq;cases hb:(v.ret bs.length&&(bs.all OB.ret&&(Nat.blt 0 C.nt&&(bs.all OB.isL&&noBox v)))) with
  |false=>rw[hb] at h;exact h.elim
  |true =>
   rw[hb] at h;obtain⟨h1,h2⟩:=h;obtain⟨h3,h4⟩:=allWf_holds h2;simp only[Bool.and_eq_true] at hb;obtain⟨hv,hbr,hnt,hl,hnb⟩:=hb;obtain⟨g,a,b,e,_,hx⟩:=gcallee_sound hcs.cs hf ha heq hv hbr h1;have hret:=canon_ret (P:=P) σ hv hnb hbr hl (fun b hb=>by have:=h3 b hb;cases b<;>exact this)
   by_cases hbs:bs=[]
   ·subst hbs;obtain⟨k1,k2⟩:=hret.flat hv;refine⟨g,a,b,_,_,_,_,_,pl,e,hx hl hnb,h4,?_,?_,fun _=>⟨k1,rfl,rfl⟩,hret.1.1,hret.1.2,fun q _=>⟨rfl,rfl,fun _ _ _=>by rw[k1]⟩⟩
    ·rw[k1];exact hG
    ·exact SR.retd (B:=hNil) (pl:=pl) (tb:=noTb) (n:=0) (fun j hj=>by omega) _ _ (ren_ret0 v hv) (SR.ren (pl:=noPl) (tb:=noTb) (n:=0) (fun j hj=>by omega) v _ hv k2)
   ·obtain⟨pl',h5,h6,h7⟩:=hret.gamF (nt:=C.nt) (d:=d) (by simpa [Nat.blt_eq] using hnt) hG hv hbr
    refine⟨g,a,b,_,_,_,_,_,pl',e,hx hl hnb,h4,h5,h6,fun he=>absurd (by simpa using he) hbs,hret.1.1,hret.1.2,fun q hq=>h7 q fun j hj e=>hq ?_⟩
    exact List.mem_map.2 ⟨j,List.mem_range.2 hj,e.symm⟩
 ·exact h.elim
def isCall:VOp→Bool
 |.callF ..|.callV ..=>true
 |.ext (.rangeMap _)|.ext (.nextMap _)=>true
 |_=>false
theorem gn_nok {C:Cx}{B F:Heap}{pl:Nat→Value}{tb:Nat→Option Bool}{s:St}{env:Env}{σ:Heap}(hG:Gam P B F pl tb s env σ) {d:Nat}{o:VOp}{K:SV→St→Prop}(h:gn C d o (gev [] s.env) s K) (hc:isCall o=false) :
  NOk P B F tb o (evalO env) env σ K (gtouch d o (gev [] s.env)) s pl:=by
 have hev:=hG.evs (Gds.nil (tb:=tb));cases o
 case alloc t z=>exact n_alloc hev hG h
 case box t x=>exact n_box hev hG h
 case buildSlice e z n ps=>exact n_buildSlice hev hG h
 case makeSlice e b z l c=>exact n_makeSlice hev hG h
 case append e b x y=>exact n_append hev hG h
 case store size a x=>exact n_store hev hG h
 case callF=>cases hc
 case callV=>cases hc
 case ext x =>
  cases x
  case mapUpdate mk m k v=>exact n_mapUpdate hev hG h
  case copy size a b=>exact n_copy hev hG h
  case unsafeStr e a n=>exact n_unsafeStr hev hG h
  case strBytes e a=>exact n_strBytes hev hG h
  case rangeMap=>cases hc
  case nextMap=>cases hc
  all_goals exact h.elim
 all_goals exact h.elim
theorem make_le {o:VOp}{ev:Operand→Value}{σ σ':Heap}{u:Value}(hm:isMake o=true) (h:vact o ev σ=some (u,σ')):σ.Le σ':=by
 have push:∀ b:Blk,σ.Le (σ.push b):=fun b=>(Heap.Le.refl σ).push b;cases o<;>first|(cases hm;done)|skip
 case alloc t z=>obtain⟨rfl,rfl⟩:=pinj h;exact push _
 case box t x =>
  simp only[vact] at h;split at h
  ·obtain⟨rfl,rfl⟩:=pinj h;exact push _
  ·cases h
 case buildSlice e z n ps =>
  simp only[vact] at h;split at h
  ·obtain⟨rfl,rfl⟩:=pinj h;exact push _
  ·cases h
 case makeSlice e b z l c =>
  simp only[vact] at h;split at h
  ·split at h
   ·obtain⟨rfl,rfl⟩:=pinj h;exact push _
   ·cases h
  ·cases h
def RdOk (σ:Heap) (own:Own) (pl:Nat→Value) (Q:Heap→Prop):Option Nat→Prop
 |none=>∀ τ,σ.Le τ→Q τ
 |some q=>(oget own q).live=true∧∃ i b,Oid (pl q) i∧σ.get i=some b∧∀ τ,τ.get i=some b→Q τ
structure DSt (hs:List Heap) (σ:Heap) (pend:List (Nat×(Heap→Prop))) (hl chg:Nat) (A R:List (Nat×Option Nat)) (own:Own) (pl:Nat→Value):Prop where
 len:hs.length=hl
 same:∀ j τ,chg≤j→hs[j]?=some τ→τ=σ
 pend:∀ c∈pend,c.1<hl∨∃ r∈R,c.1≤r.1∧RdOk σ own pl c.2 r.2
 fr:∀ j τ q i,hs[j]?=some τ→untouched A j q=true→(oget own q).live=true→Oid (pl q) i→τ.get i=σ.get i
theorem vpend_of {r:Nat}{σ:Heap}:∀ {l:List (Nat×(Heap→Prop))},(∀ c∈l,r≤c.1→c.2 σ)→vpend r σ l
 |[],_=>trivial
 |c::l,h=>⟨h c (by simp),vpend_of fun c' hc'=>h c' (by simp[hc'])⟩
theorem get_snoc {hs:List Heap}{σ' τ:Heap}{j:Nat}(h:(hs++[σ'])[j]?=some τ):(j<hs.length∧hs[j]?=some τ)∨(j=hs.length∧τ=σ'):=by
 rw[List.getElem?_append] at h;split at h
 ·rename_i hlt;exact .inl ⟨hlt,h⟩
 ·have:j-hs.length=0:=by
   cases hz:j-hs.length with
   |zero=>rfl
   |succ n=>rw[hz] at h;simp at h
  rw[this] at h;exact .inr ⟨by omega,by simpa using h.symm⟩
theorem untouched_cons {a:Nat×Option Nat}{A:List (Nat×Option Nat)}{j q:Nat}(h:untouched (a::A) j q=true) (hj:j≤a.1):(∃ t,a.2=some t∧t≠q)∧untouched A j q=true:=by
 simp only[untouched,List.all_cons,Bool.and_eq_true,Bool.or_eq_true,Nat.blt_eq] at h;refine⟨?_,h.2⟩;rcases h.1 with h|h
 ·omega
 ·split at h
  ·rename_i t ht;exact⟨t,ht,fun e=>by subst e;simp at h⟩
  ·cases h
theorem DSt.stay {hs:List Heap}{σ:Heap}{pend:List (Nat×(Heap→Prop))}{hl chg:Nat}{A R:List (Nat×Option Nat)}{own:Own}{pl:Nat→Value}(h:DSt hs σ pend hl chg A R own pl) :
  vpend hs.length σ pend∧DSt (hs++[σ]) σ pend (hl+1) chg A R own pl:=by
 have hr:∀ c∈pend,∀ r∈R,RdOk σ own pl c.2 r.2→c.2 σ:=fun c _ r _ hok=>by
  unfold RdOk at hok;split at hok
  ·exact hok σ (.refl _)
  ·obtain⟨_,i,b,_,h2,h3⟩:=hok;exact h3 σ h2
 refine⟨vpend_of fun c hc hle=>?_,⟨by simp[h.len],fun j τ hj ht=>?_,fun c hc=>?_,fun j τ q i ht hu hl hi=>?_⟩⟩
 ·rcases h.pend c hc with h1|⟨r,h1,_,h2⟩
  ·rw[h.len] at hle;omega
  ·exact hr c hc r h1 h2
 ·rcases get_snoc ht with⟨_,h1⟩|⟨_,h1⟩
  ·exact h.same j τ hj h1
  ·exact h1
 ·rcases h.pend c hc with h1|h1
  ·exact .inl (by omega)
  ·exact .inr h1
 ·rcases get_snoc ht with⟨_,h1⟩|⟨_,rfl⟩
  ·exact h.fr j τ q i h1 hu hl hi
  ·rfl
theorem DSt.write {hs:List Heap}{σ σ':Heap}{pend:List (Nat×(Heap→Prop))}{hl chg:Nat}{A R:List (Nat×Option Nat)}{s s':St}{pl pl':Nat→Value}(h:DSt hs σ pend hl chg A R s.own pl) {T:Nat}(hf:Fr T s s' pl pl' σ σ') {mk:Bool}(hm:mk=true→σ.Le σ')
  (hc:((mk&&rdKeep R hl T)||rdFree R hl T)=true) (hl0:0<hl):vpend hs.length σ' pend∧DSt (hs++[σ']) σ' pend (hl+1) hl ((hl-1,some T)::A) R s'.own pl':=by
 have hr:∀ Q:Heap→Prop,∀ r∈R,hl≤r.1→RdOk σ s.own pl Q r.2→RdOk σ' s'.own pl' Q r.2:=fun Q r hrR hge hok=>by
  have hq:∀ q,r.2=some q→q≠T:=fun q hq e=>by
   subst e;simp only[Bool.or_eq_true,Bool.and_eq_true,rdKeep,rdFree] at hc;rcases hc with⟨_,hc⟩|hc
   ·have:=List.all_eq_true.1 hc r hrR;rw[hq] at this;simp only[Bool.or_eq_true,Nat.blt_eq,Nat.beq_refl,Bool.not_true,Bool.false_eq_true,or_false] at this;omega
   ·have:=List.all_eq_true.1 hc r hrR;rw[hq] at this;simp only[Bool.or_eq_true,Nat.blt_eq,Nat.beq_refl,Bool.not_true,Bool.false_eq_true,or_false] at this;omega
  cases e:r.2 with
  |none =>
   rw[e] at hok;have hmk:mk=true:=by
    simp only[Bool.or_eq_true,Bool.and_eq_true,rdFree] at hc;rcases hc with⟨hc,_⟩|hc
    ·exact hc
    ·have:=List.all_eq_true.1 hc r hrR;rw[e] at this;simp only[Bool.or_eq_true,Nat.blt_eq,Bool.false_eq_true,or_false] at this;omega
   exact fun τ ht=>hok τ ((hm hmk).trans ht)
  |some q =>
   rw[e] at hok;obtain⟨k1,i,b,k2,k3,k4⟩:=hok;obtain⟨f1,f2,f3⟩:=hf q (hq q e);exact⟨by rw[f1];exact k1,i,b,by rw[f2];exact k2,by rw[f3 k1 i k2];exact k3,k4⟩
 have now:∀ Q:Heap→Prop,∀ r,RdOk σ' s'.own pl' Q r→Q σ':=fun Q r hok=>by
  unfold RdOk at hok;split at hok
  ·exact hok σ' (.refl _)
  ·obtain⟨_,i,b,_,h2,h3⟩:=hok;exact h3 σ' h2
 refine⟨vpend_of fun c hc hle=>?_,⟨by simp[h.len],fun j τ hj ht=>?_,fun c hc=>?_,fun j τ q i ht hu hl' hi=>?_⟩⟩
 ·rw[h.len] at hle;rcases h.pend c hc with h1|⟨r,h1,h2,h3⟩
  ·omega
  ·exact now _ _ (hr _ r h1 (by omega) h3)
 ·rcases get_snoc ht with⟨h1,_⟩|⟨_,h1⟩
  ·rw[h.len] at h1;omega
  ·exact h1
 ·rcases h.pend c hc with h1|⟨r,h1,h2,h3⟩
  ·exact .inl (by omega)
  ·by_cases hge:hl≤r.1
   ·exact .inr ⟨r,h1,h2,hr _ r h1 hge h3⟩
   ·exact .inl (by omega)
 ·rcases get_snoc ht with⟨h1,h2⟩|⟨_,rfl⟩
  ·rw[h.len] at h1;obtain⟨⟨t,ht,htq⟩,hu'⟩:=untouched_cons hu (by simp only;omega)
   obtain rfl:=osj ht;obtain⟨f1,f2,f3⟩:=hf q (Ne.symm htq);rw[f1] at hl';rw[f2] at hi;rw[f3 hl' i hi];exact h.fr j τ q i h2 hu' hl' hi
  ·rfl
theorem untouched_map {ts:List Nat}{hl j q:Nat}{A:List (Nat×Option Nat)}(h:untouched (ts.map (fun t=>(hl,some t))++A) j q=true) (hj:j≤hl):q∉ts∧untouched A j q=true:=by
 simp only[untouched,List.all_append,Bool.and_eq_true] at h ⊢;refine⟨fun hm=>?_,h.2⟩;have:=List.all_eq_true.1 h.1 (hl,some q) (List.mem_map.2 ⟨q,hm,rfl⟩);simp only[Bool.or_eq_true,Nat.blt_eq,Nat.beq_refl,Bool.not_true,Bool.false_eq_true,or_false] at this;omega
theorem DSt.call {hs:List Heap}{σ σ':Heap}{pend:List (Nat×(Heap→Prop))}{hl chg:Nat}{A R:List (Nat×Option Nat)}{s s':St}{pl pl':Nat→Value}(h:DSt hs σ pend hl chg A R s.own pl) (hle:σ.Le σ') {Ts:List Nat}(hf:FrL Ts s s' pl pl' σ σ') (hl0:0<hl) :
  vpend hs.length σ' pend∧DSt (hs++[σ']) σ' pend (hl+1) hl (Ts.map (fun t=>(hl-1,some t))++A) (R.map fun r=>(r.1,none)) s'.own pl':=by
 have hr:∀ Q r,RdOk σ s.own pl Q r→∀ τ,σ'.Le τ→Q τ:=fun Q r hok τ ht=>by
  unfold RdOk at hok;split at hok
  ·exact hok τ (hle.trans ht)
  ·obtain⟨_,i,b,_,h2,h3⟩:=hok;exact h3 τ (ht.2 _ _ (hle.2 _ _ h2))
 refine⟨vpend_of fun c hc hle=>?_,⟨by simp[h.len],fun j τ hj ht=>?_,fun c hc=>?_,fun j τ q i ht hu hl' hi=>?_⟩⟩
 ·rcases h.pend c hc with h1|⟨r,h1,_,h2⟩
  ·rw[h.len] at hle;omega
  ·exact hr _ _ h2 _ (.refl _)
 ·rcases get_snoc ht with⟨h1,_⟩|⟨_,h1⟩
  ·rw[h.len] at h1;omega
  ·exact h1
 ·rcases h.pend c hc with h1|⟨r,h1,h2,h3⟩
  ·exact .inl (by omega)
  ·exact .inr ⟨(r.1,none),List.mem_map.2 ⟨r,h1,rfl⟩,h2,hr _ _ h3⟩
 ·rcases get_snoc ht with⟨h1,h2⟩|⟨_,rfl⟩
  ·rw[h.len] at h1;obtain⟨hq,hu'⟩:=untouched_map hu (by omega)
   obtain⟨f1,f2,f3⟩:=hf q hq;rw[f1] at hl';rw[f2] at hi;rw[f3 hl' i hi];exact h.fr j τ q i h2 hu' hl' hi
  ·rfl
theorem DSt.writeD {hs:List Heap}{σ σ':Heap}{pend:List (Nat×(Heap→Prop))}{hl chg:Nat}{A R:List (Nat×Option Nat)}{s s':St}{pl pl':Nat→Value}(h:DSt hs σ pend hl chg A R s.own pl) {Ts:List Nat}(hf:FrL Ts s s' pl pl' σ σ') {mk:Bool}(hm:mk=true→σ.Le σ')
  (hc:rdAll mk R hl Ts=true) (hl0:0<hl):vpend hs.length σ' pend∧DSt (hs++[σ']) σ' pend (hl+1) hl (Ts.map (fun t=>(hl-1,some t))++A) R s'.own pl':=by
 have hr:∀ Q:Heap→Prop,∀ r∈R,hl≤r.1→RdOk σ s.own pl Q r.2→RdOk σ' s'.own pl' Q r.2:=fun Q r hrR hge hok=>by
  have hcr:=List.all_eq_true.1 hc r hrR;have hcr:(match r.2 with|some q=>Ts.all (fun t=>!(Nat.beq q t))|none=>mk)=true:=by
   rw[Bool.or_eq_true,Nat.blt_eq] at hcr;exact hcr.resolve_left (by omega)
  cases e:r.2 with
  |none =>
   rw[e] at hok hcr;exact fun τ ht=>hok τ ((hm hcr).trans ht)
  |some q =>
   rw[e] at hok hcr;obtain⟨k1,i,b,k2,k3,k4⟩:=hok;obtain⟨f1,f2,f3⟩:=hf q fun hq=>by
    have:=List.all_eq_true.1 hcr q hq;simp at this
   exact⟨by rw[f1];exact k1,i,b,by rw[f2];exact k2,by rw[f3 k1 i k2];exact k3,k4⟩
 have now:∀ Q:Heap→Prop,∀ r,RdOk σ' s'.own pl' Q r→Q σ':=fun Q r hok=>by
  unfold RdOk at hok;split at hok
  ·exact hok σ' (.refl _)
  ·obtain⟨_,i,b,_,h2,h3⟩:=hok;exact h3 σ' h2
 refine⟨vpend_of fun c hc hle=>?_,⟨by simp[h.len],fun j τ hj ht=>?_,fun c hc=>?_,fun j τ q i ht hu hl' hi=>?_⟩⟩
 ·rw[h.len] at hle;rcases h.pend c hc with h1|⟨r,h1,h2,h3⟩
  ·omega
  ·exact now _ _ (hr _ r h1 (by omega) h3)
 ·rcases get_snoc ht with⟨h1,_⟩|⟨_,h1⟩
  ·rw[h.len] at h1;omega
  ·exact h1
 ·rcases h.pend c hc with h1|⟨r,h1,h2,h3⟩
  ·exact .inl (by omega)
  ·by_cases hge:hl≤r.1
   ·exact .inr ⟨r,h1,h2,hr _ r h1 hge h3⟩
   ·exact .inl (by omega)
 ·rcases get_snoc ht with⟨h1,h2⟩|⟨_,rfl⟩
  ·rw[h.len] at h1;obtain⟨hq,hu'⟩:=untouched_map hu (by omega)
   obtain⟨f1,f2,f3⟩:=hf q hq;rw[f1] at hl';rw[f2] at hi;rw[f3 hl' i hi];exact h.fr j τ q i h2 hu' hl' hi
  ·rfl
theorem untouched_none {hl d j q:Nat}{A:List (Nat×Option Nat)}(h:untouched ((hl,none)::A) j q=true):untouched ([d].map (fun t=>(hl,some t))++A) j q=true:=by
 simp only[untouched,List.all_cons,Bool.and_eq_true,Bool.or_eq_true,Bool.false_eq_true,or_false,List.map_cons,List.map_nil,List.cons_append,List.nil_append] at h ⊢;exact⟨.inl h.1,h.2⟩
theorem DSt.frozen {hs:List Heap}{σ:Heap}{pend:List (Nat×(Heap→Prop))}{hl chg m d:Nat}{A R:List (Nat×Option Nat)}{own:Own}{pl:Nat→Value}(h:DSt hs σ pend hl chg ([d].map (fun t=>(m,some t))++A) R own pl):DSt hs σ pend hl chg ((m,none)::A) R own pl :=
 ⟨h.len,h.same,h.pend,fun j τ q i ht hu=>h.fr j τ q i ht (untouched_none hu)⟩
theorem noFz_app {ts:List Nat}{m j:Nat}{A:List (Nat×Option Nat)}(h:noFz (ts.map (fun t=>(m,some t))++A) j=true):noFz A j=true:=by
 simp only[noFz,List.all_append,Bool.and_eq_true] at h;exact h.2
theorem noFz_cons {a:Nat×Option Nat}{j:Nat}{A:List (Nat×Option Nat)}(h:noFz (a::A) j=true):noFz A j=true:=by
 simp only[noFz,List.all_cons,Bool.and_eq_true] at h;exact h.2
theorem glistD_inv {C:Cx}{f:SV}{args:List SV}{cs:List Prop}{v:SV}(h:glistD C f args=some (cs,v)):∃ c ty k xs nl,gcallee C.cs f args=some (c,.lst 0,[.lst ty k xs nl])∧cs=[c,nl=true→xs=[]]∧v=.val (.list k) xs∧k.flat=true∧0<C.nt:=by
 unfold glistD at h;split at h
 ·rename_i heq;split at h
  ·rename_i k xs nl;cases hc:(k.flat&&Nat.blt 0 C.nt) with
   |false=>rw[hc] at h;cases h
   |true =>
    rw[hc] at h;obtain⟨rfl,rfl⟩:=pinj h;simp only[Bool.and_eq_true,Nat.blt_eq] at hc;exact⟨_,_,_,_,_,heq,rfl,rfl,hc.1,hc.2⟩
  ·cases h
 ·cases h
theorem here_live {b:OB}(h:b.here=true):b.live=true:=by cases b<;>first|rfl|cases h
theorem rdThing_sound {B F:Heap}{pl:Nat→Value}{tb:Nat→Option Bool}{s:St}{env:Env}{σ:Heap}(hG:Gam P B F pl tb s env σ) {o:VOp}{q:Nat}(h:rdThing o (gev [] s.env) s.own=some q) {u:Value}{σ2:Heap}(hv:vact o (evalO env) σ=some (u,σ2)) :
  (oget s.own q).live=true∧∃ i b,Oid (pl q) i∧σ.get i=some b∧∀ τ,τ.get i=some b→vact o (evalO env) τ=some (u,τ):=by
 unfold rdThing at h;split at h
 ·rename_i agg size a;have ha:=hG.evs (Gds.nil (tb:=tb)) a;have key:∀ q i off,(oget s.own q).live=true→Oid (pl q) i→evalO env a=.pointer (some ⟨i,off,none⟩)→(oget s.own q).live=true∧∃ i b,Oid (pl q) i∧σ.get i=some b∧∀ τ,τ.get i=some b→vact (.load agg size a) (evalO env) τ=some (u,τ):=fun q i off hl hi he=>by
   simp only[vact,he] at hv;cases hb:σ.get i with
   |none=>rw[hb] at hv;cases hv
   |some b =>
    refine⟨hl,i,b,hi,hb,fun τ ht=>?_⟩;rw[hb] at hv;simp only[vact,he,ht];cases b with
    |obj o wr=>cases hv
    |cells c e wr t =>
     simp only at hv ⊢;split at hv
     ·obtain⟨rfl,rfl⟩:=pinj hv;rfl
     ·cases hv
  split at h
  ·rename_i q' off hx;rw[hx] at ha;simp only[SR] at ha;obtain⟨b,h1,h2⟩:=ha;cases hh:(oget s.own q').here with
   |false=>rw[hh] at h;cases h
   |true =>
    rw[hh] at h;obtain rfl:=osj h;exact key q' b off (here_live hh) (by rw[h1];rfl) h2
  ·rename_i q' i off sz hx;rw[hx] at ha;simp only[SR] at ha;obtain⟨b,len,cap,h1,h2,h3,h4⟩:=ha;cases hh:(oget s.own q').here with
   |false=>rw[hh] at h;cases h
   |true =>
    rw[hh] at h;obtain rfl:=osj h;exact key q' b _ (here_live hh) (by rw[h1];rfl) h4
  ·cases h
 ·cases h
theorem vpend_memB {r:Nat}{σ:Heap}:∀ {l:List (Nat×(Heap→Prop))},vpend r σ l→∀ {c},c∈l→r≤c.1→c.2 σ
 |c::l,h,c',hc,hr=>by
  rcases List.mem_cons.1 hc with rfl|hc
  ·exact h.1 hr
  ·exact vpend_memB h.2 hc hr
theorem rdRo_sound {B F:Heap}{pl:Nat→Value}{tb:Nat→Option Bool}{s:St}{env:Env}{σ:Heap}(hG:Gam P B F pl tb s env σ) {gs:List Gd}(hg:Gds tb gs) {o:VOp}(h:rdRo o (gev gs s.env)=true) {u:Value}{σ2:Heap}(hv:vact o (evalO env) σ=some (u,σ2)) :
  ∀ τ,B.Le τ→vact o (evalO env) τ=some (u,τ):=by
 unfold rdRo at h;split at h
 ·rename_i agg size a;have ha:=hG.evs hg a;have key:∀ i off,(∃ b,B.get i=some b)→evalO env a=.pointer (some ⟨i,off,none⟩)→∀ τ,B.Le τ→vact (.load agg size a) (evalO env) τ=some (u,τ):=fun i off ⟨b,hb⟩ he τ hτ=>by
   simp only[vact,he,hG.leB.2 _ _ hb] at hv;simp only[vact,he,hτ.2 _ _ hb];cases b with
   |obj o wr=>cases hv
   |cells c e wr t =>
    simp only at hv ⊢;split at hv
    ·obtain⟨rfl,rfl⟩:=pinj hv;rfl
    ·cases hv
  split at h
  ·rename_i k l i off hx;rw[hx] at ha;simp only[SR] at ha;obtain⟨b,o,c,e,wr,t,_,_,h3,h4,_⟩:=ha;exact key b _ ⟨_,h3⟩ h4
  ·rename_i l off hx;rw[hx] at ha;simp only[SR] at ha;obtain⟨b,c,e,wr,t,h3,h4,_⟩:=ha;exact key b _ ⟨_,h3⟩ h4
  ·cases h
 ·cases h
def vopsDX (S:VSpecs):List DOper→Env→List Heap→Heap→List (Nat×(Heap→Prop))→(Env→Heap→Prop)→Prop
 |[],env,_,σ,_,K=>K env σ
 |o::rest,env,hs,σ,pend,K=>obind (vwant env o.guard) fun b =>
   vif b (if o.kind=2 then vexact (fun R=>vop S o.op env σ R) fun v σ'=>vpend hs.length σ' pend∧vopsDX S rest (putE env o.dst v) (hs++[σ']) σ' pend K
     else if o.kind=1 then obind (vact o.op (evalO env) σ) fun p=>(∀ τ∈hs.drop o.kmin,vreads o.op (evalO env) p.1 τ) ∧
      vopsDX S rest (putE env o.dst p.1) hs σ (if hs.length≤o.kmax then (o.kmax,vreads o.op (evalO env) p.1)::pend else pend) K
     else obind (vact o.op (evalO env) σ) fun p=>vopsDX S rest (putE env o.dst p.1) hs σ pend K)
    (if o.kind=2 then vpend hs.length σ pend∧vopsDX S rest (putE env o.dst undef) (hs++[σ]) σ pend K else vopsDX S rest (putE env o.dst undef) hs σ pend K)
theorem obind_imp {α:Type}{o:Option α}{f g:α→Prop}(h:obind o f) (hfg:∀ a,f a→g a):obind o g:=by
 cases o with
 |none=>exact h.elim
 |some a=>exact hfg a h
theorem vopsDX_imp {S:VSpecs}{K:Env→Heap→Prop}:∀ {ops:List DOper}{env:Env}{hs:List Heap}{σ:Heap}{pend:List (Nat×(Heap→Prop))},vopsDX S ops env hs σ pend K→vopsD S ops env hs σ pend K
 |[],_,_,_,_,h=>h
 |o::r,env,hs,σ,pend,h=>by
  simp only[vopsDX] at h;simp only[vopsD];refine obind_imp h fun b h=>⟨fun e=>?_,fun e=>?_⟩
  ·have h:=h.1 e;split at h
   ·rename_i hk;rw[if_pos hk];obtain⟨v,σ',h1,h2,h3⟩:=h;exact .inl ⟨v,σ',h1,h2,vopsDX_imp h3⟩
   ·rename_i hk;rw[if_neg hk];split at h
    ·rename_i hk1;rw[if_pos hk1];exact obind_imp h fun p h=>⟨h.1,vopsDX_imp h.2⟩
    ·rename_i hk1;rw[if_neg hk1];exact obind_imp h fun p h=>vopsDX_imp h
  ·have h:=h.2 e;split at h
   ·rename_i hk;rw[if_pos hk];exact⟨h.1,vopsDX_imp h.2⟩
   ·rename_i hk;rw[if_neg hk];exact vopsDX_imp h
theorem gopsD_soundX {C:Cx}(hcs:COk P C) (hxs:C.xs=[]) {B0 F0 D0:Heap}:∀ (ops:List DOper),(∀ o∈ops,o.kind=o.op.kind)→∀ {s:St}{env:Env}{σ:Heap}{B F:Heap}{pl:Nat→Value}{tb:Nat→Option Bool},GBase B0 F0 D0 B F σ→Gam P B F pl tb s env σ→∀ {hl chg:Nat}{A Rd:List (Nat×Option Nat)}{hs:List Heap}{pend pd:List (Nat×(Heap→Prop))},DSt hs σ pd hl chg A Rd s.own pl→(∀ c∈pend,(∀ τ,B.Le τ→c.2 τ)∨c∈pd)→(∀ j τ,hs[j]?=some τ→noFz A j=true→B.Le τ)→chg≤hl→0<hl →
  ∀ {K:St→Prop},gopsD C ops s hl chg A Rd K→∀ {R:Env→Heap→Prop},(∀ s' env' σ',K s'→GRel P B0 F0 D0 s' env' σ'→R env' σ')→vopsDX (semSpecs P) ops env hs σ pend R
 |[],_,s,env,σ,B,F,pl,tb,hB,hG,_,_,_,_,_,_,_,_,_,_,_,_,K,h,R,hK=>hK s env σ h ⟨B,F,pl,tb,hB,hG⟩
 |o0::r,hkind,s,env,σ,B,F,pl,tb,hB,hG,hl,chg,A,Rd,hs,pend,pd,hD,hp,hbs,hch,hl0,K,h,R,hK=>by
  have vps:∀ {n:Nat}{τ:Heap},B.Le τ→vpend n τ pd→vpend n τ pend:=fun {n τ} hb hv=>vpend_of fun c hc hn=>(hp c hc).elim (fun h=>h τ hb) fun h=>vpend_memB hv h hn;have snoc:∀ {τ:Heap}{A':List (Nat×Option Nat)},B.Le τ→(∀ j,noFz A' j=true→noFz A j=true)→∀ j τ',(hs++[τ])[j]?=some τ'→noFz A' j=true→B.Le τ':=fun {τ A'} hb hA j τ' hm hn=>by
   rcases get_snoc hm with⟨_,h1⟩|⟨_,rfl⟩
   ·exact hbs j τ' h1 (hA j hn)
   ·exact hb
  have hkr:∀ o∈r,o.kind=o.op.kind:=fun o' ho'=>hkind o' (List.mem_cons_of_mem _ ho');have hko0:=hkind o0 List.mem_cons_self;unfold gopsD at h;split at h
  ·rename_i hst;have hw:=gstat_sound hG hst;simp only[vopsDX];rw[hw];refine⟨fun e=>(by cases e),fun _=>?_⟩
   have hput:=hG.put o0.dst (show SR P B pl tb .any undef by simp[SR])
   by_cases hk2:o0.kind=2
   ·rw[if_pos hk2] at h ⊢;obtain⟨k1,k2⟩:=hD.stay;exact⟨vps hG.leB k1,gopsD_soundX hcs hxs r hkr hB hput (by rw[put_own];exact k2) hp (snoc hG.leB fun _ h=>h) (by omega) (by omega) h hK⟩
   ·rw[if_neg hk2] at h ⊢;exact gopsD_soundX hcs hxs r hkr hB hput (by rw[put_own];exact hD) hp hbs hch hl0 h hK
  have hko:(gres s.env o0).kind=(gres s.env o0).op.kind:=by unfold gres;split<;>exact hko0
  have hres:vopsDX (semSpecs P) (gres s.env o0::r) env hs σ pend R→vopsDX (semSpecs P) (o0::r) env hs σ pend R:=fun hv=>by
   unfold gres at hv;split at hv
   ·rename_i hst;simp only[vopsDX] at hv ⊢;rw[gstat_sound hG hst];exact hv
   ·exact hv
  refine hres ?_;clear hres;generalize gres s.env o0=o at h hko ⊢
  replace h:=id h
  simp only[vopsDX];by_cases hk2:o.kind=2
  ·rw[if_pos hk2] at h
   have fin:∀ {u:Value}{σ':Heap}{ts:List Nat}{v:SV}{s':St}{pl':Nat→Value},(∀ R',R' u σ'→vop (semSpecs P) o.op env σ R')→gopsD C r (s'.put o.dst v) (hl+1) (bif ts.isEmpty then chg else hl) (ts.map (fun t=>(hl-1,some t))++A) (bif ts.isEmpty then Rd else Rd.map fun r=>(r.1,none)) K→Gam P B F pl' tb s' env σ'→SR P B pl' tb v u→(ts=[]→σ'=σ∧pl'=pl∧s'=s)→σ.Le σ'→Dead σ σ'→FrL ts s s' pl pl' σ σ' →
     vexact (fun R=>vop (semSpecs P) o.op env σ R) fun v σ'=>vpend hs.length σ' pend∧vopsDX (semSpecs P) r (putE env o.dst v) (hs++[σ']) σ' pend R:=fun {u σ' ts v s' pl'} hop hgo hG' hsr he hle hd hfr=>by
    cases ts with
    |nil =>
     obtain⟨rfl,rfl,rfl⟩:=he rfl;obtain⟨k1,k2⟩:=hD.stay;exact⟨u,σ',hop _ ⟨rfl,rfl⟩,vps hG'.leB k1,gopsD_soundX hcs hxs r hkr (dead_n hB hd) (hG'.put o.dst hsr) (by rw[put_own];exact k2) hp (snoc hG'.leB fun _ h=>h) (by simp only[List.isEmpty,_root_.cond_true] at *;omega) (by omega) hgo hK⟩
    |cons t ts =>
     obtain⟨k1,k2⟩:=hD.call hle hfr hl0;exact⟨u,σ',hop _ ⟨rfl,rfl⟩,vps hG'.leB k1,gopsD_soundX hcs hxs r hkr (dead_n hB hd) (hG'.put o.dst hsr) (by rw[put_own];exact k2) hp (snoc hG'.leB fun _ h=>noFz_app h) (by simp only[List.isEmpty,_root_.cond_false] at *;omega) (by omega) hgo hK⟩
   split at h
   ·rename_i f args hop;split at h
    ·rename_i hg;rw[hg];refine⟨fun _=>?_,fun e=>by cases e⟩
     rw[if_pos hk2];rw[hxs] at h;simp only[alook] at h;obtain⟨g,a,b,u,σ',e,v,s',pl',h1,h2,h3,h4,h5,h6,h7,h8,h9⟩:=gdcall_sound hcs hG h (show SR P σ noPl noTb (.fn f [] []) (.func (.func f) #[] #[]) by simp only[SR,SRs];exact⟨[],[],rfl,rfl,rfl⟩) (hG.gcall Gds.nil args)
     obtain⟨rfl,rfl,rfl⟩:=(by simpa using h1:f=g∧#[]=a∧#[]=b)
     refine fin (u:=u) (σ':=σ') (fun R' hr=>?_) h3 h4 h5 h6 h7 h8 h9;rw[hop];show VCalled P f (args.map (evalO env)) σ R'
     have:=h2.mono (R':=R') fun u' σ'' ⟨e1,e2⟩=>by subst e1;subst e2;exact hr
     simpa using this
    ·rename_i j want hg;rw[hg];split at h
     ·exact h.elim
     ·rename_i gs s1 hgd;obtain⟨tb',hG',htb,b,hw,hb1,hb2⟩:=gguard_sound hG hgd;have hown:=gguard_own hgd;rw[hw];split at h
      ·rename_i cs v hgq;cases hnb:noBox v with
       |false=>rw[hnb] at h;exact h.elim
       |true =>
       rw[hnb] at h;simp only[_root_.cond_true] at h;obtain⟨h1,h2⟩:=gobl_holds h;obtain⟨k1,k2⟩:=hD.stay;have k2':∀ x,DSt (hs++[σ]) σ pd (hl+1) chg A Rd (s1.put o.dst x).own pl:=fun x=>by rw[put_own,hown];exact k2
       refine⟨fun e=>?_,fun e=>?_⟩
       ·rw[if_pos hk2];have hgs:Gds tb' gs:=fun g hg=>⟨hb1 e g hg,htb g hg⟩;have finv:∀ {v u},SR P B pl tb' v u→SR P B pl tb' (.grd gs (unbid v)) u:=fun {v u} hs=>by
         simp only[SR];obtain⟨h1,h2⟩:=unbid_sr hs;exact⟨⟨htb,h2⟩,fun _=>h1,fun ⟨g,hg,hne⟩=>absurd (hb1 e g hg) hne⟩
        simp only[gqc] at hgq;split at hgq
        ·rename_i c v' heq;cases hvr:v'.ret 0 with
         |false=>rw[hvr] at hgq;cases hgq
         |true =>
          rw[hvr] at hgq;obtain⟨rfl,rfl⟩:=pinj hgq;obtain⟨g,a,b',h3,h4,_⟩:=gcallee_sound hcs.cs (show SR P σ noPl noTb (.fn f [] []) (.func (.func f) #[] #[]) by simp only[SR,SRs];exact⟨[],[],rfl,rfl,rfl⟩) (hG'.gcall hgs args) heq hvr rfl (h2 (hb1 e) _ (by simp))
          obtain⟨rfl,rfl,rfl⟩:=(by simpa using h3:f=g∧#[]=a∧#[]=b')
          refine⟨cval noPl v',σ,?_,vps hG.leB k1,gopsD_soundX hcs hxs r hkr hB (hG'.put o.dst (finv ?_)) (k2' _) hp (snoc hG.leB fun _ h=>h) (by omega) (by omega) (gnm_elim h1) hK⟩
          ·rw[hop];show VCalled P f (args.map (evalO env)) σ _
           have:=h4.mono (R':=fun u σ'=>u=cval noPl v'∧σ'=σ) fun u σ' hr=>by
            obtain⟨rfl,hu⟩:=hr.flat hvr;exact⟨cval_sound v' u hvr hnb hu,rfl⟩
           simpa using this
          ·exact SR.retd (fun j hj=>by omega) _ _ hvr (cval_sr (P:=P) (pl:=noPl) (m:=0) (fun j hj=>by omega) v' hvr hnb)
        ·cases hgq
       ·rw[if_pos hk2];obtain⟨g,hg',hne⟩:=hb2 e;exact⟨vps hG.leB k1,gopsD_soundX hcs hxs r hkr hB (hG'.put o.dst (by simp only[SR];exact⟨⟨htb,unbid_tb v⟩,fun hall=>absurd (hall g hg') hne,fun _=>trivial⟩)) (k2' _) hp (snoc hG.leB fun _ h=>h) (by omega) (by omega) (gnm_elim h1) hK⟩
      ·split at h
       ·rename_i cs v hgl;obtain⟨c,ty,k,xs,nl,heq,rfl,rfl,hk,hnt⟩:=glistD_inv hgl;obtain⟨h1,h2⟩:=gobl_holds h;have frz:∀ {B' σ':Heap},B'.Le σ'→∀ j τ',(hs++[σ'])[j]?=some τ'→noFz ((hl-1,none)::A) j=true→B'.Le τ':=fun {B' σ'} hb j τ' hm hn=>by
         rcases get_snoc hm with⟨h1,_⟩|⟨_,rfl⟩
         ·simp only[noFz,List.all_cons,Bool.and_eq_true,Bool.or_eq_true,Nat.blt_eq,Option.isSome_none,Bool.false_eq_true,or_false] at hn;have:=hD.len;omega
         ·exact hb
        refine⟨fun e=>?_,fun e=>?_⟩
        ·rw[if_pos hk2];have hgs:Gds tb' gs:=fun g hg=>⟨hb1 e g hg,htb g hg⟩;have hc1:=h2 (hb1 e) c (by simp)
         have hc2:=h2 (hb1 e) (nl=true→xs=[]) (by simp)
         have hgd:gdcall C (C.off+o.dst.getD 0) (.fn f [] []) (ress s1.own (args.map (gev gs s1.env))) s1 (fun ts v' s'=>ts=[C.off+o.dst.getD 0]∧v'=.lst (C.off+o.dst.getD 0)∧s'=s1.make (C.off+o.dst.getD 0) (.lst ty k xs nl)):=by
          unfold gdcall;rw[heq];dsimp only;have hcond:(SV.ret [OB.lst ty k xs nl].length (.lst 0)&&([OB.lst ty k xs nl].all OB.ret&&(Nat.blt 0 C.nt&&([OB.lst ty k xs nl].all OB.isL&&noBox (.lst 0)))))=true:=by
           simp only[SV.ret,List.length_singleton,List.all_cons,List.all_nil,Bool.and_true,OB.ret,hk,Bool.true_and,OB.isL,noBox];rw[Bool.and_eq_true];exact⟨rfl,by rw[Nat.blt_eq];exact hnt⟩
          rw[hcond];simp only[_root_.cond_true,allWf,OB.wf];refine⟨hc1,hc2,?_,?_,?_⟩
          ·simp[List.range_succ]
          ·simp[SV.ren]
          ·simp[St.makes]
         obtain⟨g,a,b',u,σ',ts,v',s',pl',h3,h4,⟨rfl,rfl,rfl⟩,h5,h6,_,h7,h8,h9⟩:=gdcall_sound hcs hG' hgd (show SR P σ noPl noTb (.fn f [] []) (.func (.func f) #[] #[]) by simp only[SR,SRs];exact⟨[],[],rfl,rfl,rfl⟩) (hG'.gcall hgs args)
         obtain⟨rfl,rfl,rfl⟩:=(by simpa using h3:f=g∧#[]=a∧#[]=b')
         obtain⟨B',F',m1,m2,m3⟩:=lst_frz hG'.bf hk h5 h6 h8;have hfr:FrL [C.off+o.dst.getD 0] s ((s1.make (C.off+o.dst.getD 0) .dead).put o.dst (.grd gs (.val (.list k) xs))) pl pl' σ σ':=fun q hq=>by
          obtain⟨f1,f2,f3⟩:=h9 q hq;rw[hown] at f3;refine⟨?_,f2,f3⟩;rw[put_own,make_live _ _ _ (by simpa using hq),hown]
         obtain⟨k1,k2⟩:=hD.call h7 hfr hl0;refine⟨u,σ',?_,vps (m1.b.trans m2.leB) k1,gopsD_soundX hcs hxs r hkr (hB.trans m1) (m2.put o.dst ?_) k2.frozen (fun c hc=>(hp c hc).imp (fun h τ hτ=>h τ (m1.b.trans hτ)) id) (frz m2.leB) (by omega) (by omega) h1 hK⟩
         ·rw[hop];show VCalled P f (args.map (evalO env)) σ _
          simpa using h4
         ·simp only[SR];exact⟨⟨htb,trivial⟩,fun _=>m3,fun ⟨g,hg,hne⟩=>absurd (hb1 e g hg) hne⟩
        ·rw[if_pos hk2];obtain⟨g,hg',hne⟩:=hb2 e;have hfr:FrL [C.off+o.dst.getD 0] s ((s1.make (C.off+o.dst.getD 0) .dead).put o.dst (.grd gs (.val (.list k) xs))) pl (updP pl (C.off+o.dst.getD 0) undef) σ σ:=fun q hq=>by
          have hq':q≠C.off+o.dst.getD 0:=by simpa using hq
          refine⟨?_,by simp[updP,hq'],fun _ _ _=>rfl⟩
          rw[put_own,make_live _ _ _ hq',hown]
         obtain⟨k1,k2⟩:=hD.call (.refl σ) hfr hl0;refine⟨vps hG.leB k1,gopsD_soundX hcs hxs r hkr hB ((hG'.make (C.off+o.dst.getD 0) .dead undef hG'.le (fun _ _ _ _ _=>rfl) trivial (fun i hl _=>by cases hl)).put o.dst ?_) k2.frozen hp (frz hG.leB) (by omega) (by omega) h1 hK⟩
         simp only[SR];exact⟨⟨htb,trivial⟩,fun hall=>absurd (hall g hg') hne,fun _=>trivial⟩
       ·exact h.elim
   ·rename_i f args hop;split at h
    ·rename_i hg;rw[hg];refine⟨fun _=>?_,fun e=>by cases e⟩
     rw[if_pos hk2];obtain⟨g,a,b,u,σ',e,v,s',pl',h1,h2,h3,h4,h5,h6,h7,h8,h9⟩:=gdcall_sound hcs hG h (hG.gfun Gds.nil f) (hG.gcall Gds.nil args);refine fin (u:=u) (σ':=σ') (fun R' hr=>?_) h3 h4 h5 h6 h7 h8 h9;rw[hop];exact vcallV_of h1 (h2.mono (R':=R') fun u' σ'' ⟨e1,e2⟩=>by subst e1;subst e2;exact hr)
    ·exact h.elim
   ·exact h.elim
   ·exact h.elim
   ·rename_i hnf hnv hnr hnn;split at h
    ·rename_i hg;rw[hg];refine⟨fun _=>?_,fun e=>by cases e⟩
     rw[if_pos hk2];have hcall:isCall o.op=false:=by
      cases ho:o.op<;>first|rfl|(exact absurd ho (hnf _ _))|(exact absurd ho (hnv _ _))|skip
      case ext x=>cases x<;>first|rfl|(exact absurd ho (hnr _))|(exact absurd ho (hnn _))
     cases hdp:isDeep C (o.dst.getD 0) o.op (gev [] s.env) with
     |true =>
      rw[hdp] at h;simp only[_root_.cond_true] at h;cases hm:rdAll (isMake o.op) Rd hl (dtouch (C.off+o.dst.getD 0) o.op (gev [] s.env)) with
      |false=>rw[hm] at h;exact h.elim
      |true =>
       rw[hm] at h;simp only[_root_.cond_true] at h;obtain⟨u,σ',pl',v,s',h1,h2,⟨h3,h3'⟩,h4⟩:=gnd_sound (fun x=>hG.evs (Gds.nil (tb:=tb)) x) hG h;have hopv:∀ R',R' u σ'→vop (semSpecs P) o.op env σ R':=fun R' hr=>by
        have:vop (semSpecs P) o.op env σ R'=obind (vact o.op (evalO env) σ) fun p=>R' p.1 p.2:=by
         cases ho:o.op with
         |callF f a=>rw[ho] at hcall;cases hcall
         |callV f a=>rw[ho] at hcall;cases hcall
         |ext x =>
          cases x with
          |nextMap y=>rw[ho] at h1;cases h1
          |_=>rfl
         |_=>rfl
        rw[this,h1];exact hr
       obtain⟨k1,k2⟩:=hD.writeD h3' (fun hmk=>make_le hmk h1) hm hl0;exact⟨u,σ',hopv _ ⟨rfl,rfl⟩,vps h3.leB k1,gopsD_soundX hcs hxs r hkr (dead_n hB (vact_dead h1)) (h3.put o.dst h4) (by rw[put_own];exact k2) hp (snoc h3.leB fun _ h=>noFz_app h) (by omega) (by omega) h2 hK⟩
     |false =>
     rw[hdp] at h;simp only[_root_.cond_false] at h;cases hm:((isMake o.op&&rdKeep Rd hl (gtouch (C.off+o.dst.getD 0) o.op (gev [] s.env)))||rdFree Rd hl (gtouch (C.off+o.dst.getD 0) o.op (gev [] s.env))) with
     |false=>rw[hm] at h;exact h.elim
     |true =>
      rw[hm] at h;simp only[_root_.cond_true] at h;obtain⟨u,σ',pl',v,s',h1,h2,⟨h3,h3'⟩,h4⟩:=gn_nok hG h hcall;have hopv:∀ R',R' u σ'→vop (semSpecs P) o.op env σ R':=fun R' hr=>by
       have:vop (semSpecs P) o.op env σ R'=obind (vact o.op (evalO env) σ) fun p=>R' p.1 p.2:=by
        cases ho:o.op with
        |callF f a=>rw[ho] at hcall;cases hcall
        |callV f a=>rw[ho] at hcall;cases hcall
        |ext x =>
         cases x with
         |nextMap y=>rw[ho] at h1;cases h1
         |_=>rfl
        |_=>rfl
       rw[this,h1];exact hr
      obtain⟨k1,k2⟩:=hD.write h3' (fun hmk=>make_le hmk h1) hm hl0;exact⟨u,σ',hopv _ ⟨rfl,rfl⟩,vps h3.leB k1,gopsD_soundX hcs hxs r hkr (dead_n hB (vact_dead h1)) (h3.put o.dst h4) (by rw[put_own];exact k2) hp (snoc h3.leB fun _ h=>noFz_cons h) (by omega) (by omega) h2 hK⟩
    ·exact h.elim
  ·rw[if_neg hk2] at h;have hop2:o.op.kind≠2:=by rw[←hko];exact hk2
   by_cases hk1:o.kind=1
   ·rw[if_pos hk1] at h;have rd:∀ (rq:Option Nat),(∀ q,rq=some q→rdThing o.op (gev [] s.env) s.own=some q)→(Nat.ble chg o.kmin||rdStay A o.kmin rq)=true→gd1 C o s (fun s'=>gopsD C r s' hl chg A ((o.kmax,rq)::Rd) K) →
      obind (vwant env o.guard) fun b=>vif b (if o.kind=2 then vexact (fun R=>vop (semSpecs P) o.op env σ R) fun v σ'=>vpend hs.length σ' pend∧vopsDX (semSpecs P) r (putE env o.dst v) (hs++[σ']) σ' pend R
       else if o.kind=1 then obind (vact o.op (evalO env) σ) fun p=>(∀ τ∈hs.drop o.kmin,vreads o.op (evalO env) p.1 τ) ∧
        vopsDX (semSpecs P) r (putE env o.dst p.1) hs σ (if hs.length≤o.kmax then (o.kmax,vreads o.op (evalO env) p.1)::pend else pend) R
       else obind (vact o.op (evalO env) σ) fun p=>vopsDX (semSpecs P) r (putE env o.dst p.1) hs σ pend R)
      (if o.kind=2 then vpend hs.length σ pend∧vopsDX (semSpecs P) r (putE env o.dst undef) (hs++[σ]) σ pend R else vopsDX (semSpecs P) r (putE env o.dst undef) hs σ pend R):=fun rq hrq hc h=>by
     obtain⟨b,hw,h1,h2⟩:=gd1_sound hG h;rw[hw];have hdk:DSt hs σ pd hl chg A ((o.kmax,rq)::Rd) s.own pl:=⟨hD.len,hD.same,fun c hc=>(hD.pend c hc).imp id fun ⟨r,k1,k2⟩=>⟨r,List.mem_cons_of_mem _ k1,k2⟩,hD.fr⟩;refine⟨fun e=>?_,fun e=>?_⟩
     ·obtain⟨u,s',tb',h3,h4,hown,h5⟩:=h1 e;rw[if_neg hk2,if_pos hk1,h3];refine⟨fun τ hτ=>?_,?_⟩
      ·obtain⟨j,hj⟩:=List.mem_iff_getElem?.1 hτ;rw[List.getElem?_drop] at hj;rw[Bool.or_eq_true] at hc;rcases hc with hc|hc
       ·have:=hD.same (o.kmin+j) τ (by have:=Nat.le_of_ble_eq_true hc;omega) hj
        subst this;exact vreads_of h3
       ·unfold rdStay at hc;split at hc
        ·rename_i q;obtain⟨k1,i,bl,k2,k3,k4⟩:=rdThing_sound hG (hrq q rfl) h3;have hu:untouched A (o.kmin+j) q=true:=by
          simp only[untouched,List.all_eq_true,Bool.or_eq_true,Nat.blt_eq] at hc ⊢;exact fun a ha=>(hc a ha).imp (fun h=>by omega) id
         have:=hD.fr (o.kmin+j) τ q i hj hu k1 k2;exact vreads_of (k4 τ (by rw[this];exact k3))
        ·cases hc
      ·by_cases hle:hs.length≤o.kmax
       ·rw[if_pos hle];refine gopsD_soundX hcs hxs r hkr hB h5 (A:=A) (Rd:=(o.kmax,rq)::Rd) (hl:=hl) (chg:=chg) (pd:=(o.kmax,vreads o.op (evalO env) u)::pd) ?_ (fun c hc=>?_) hbs hch hl0 h4 hK
        ·rw[hown];refine⟨hD.len,hD.same,fun c hc=>?_,hD.fr⟩;rcases List.mem_cons.1 hc with rfl|hc
         ·refine .inr ⟨_,List.mem_cons_self,Nat.le_refl _,?_⟩;cases rq with
          |none=>exact fun τ hτ=>vreads_of (vact_mono hop2 h3 hτ)
          |some q =>
           obtain⟨k1,i,bl,k2,k3,k4⟩:=rdThing_sound hG (hrq q rfl) h3;exact⟨k1,i,bl,k2,k3,fun τ ht=>vreads_of (k4 τ ht)⟩
         ·exact hdk.pend c hc
        ·rcases List.mem_cons.1 hc with rfl|hc
         ·exact .inr List.mem_cons_self
         ·exact(hp c hc).imp id fun h=>List.mem_cons_of_mem _ h
       ·rw[if_neg hle];exact gopsD_soundX hcs hxs r hkr hB h5 (A:=A) (Rd:=(o.kmax,rq)::Rd) (hl:=hl) (chg:=chg) (pd:=pd) (by rw[hown];exact hdk) hp hbs hch hl0 h4 hK
     ·obtain⟨s',tb',h4,hown,h5⟩:=h2 e;rw[if_neg hk2];exact gopsD_soundX hcs hxs r hkr hB h5 (by rw[hown];exact hdk) hp hbs hch hl0 h4 hK
    have ro:noFz A o.kmin=true→(∀ u,vact o.op (evalO env) σ=some (u,σ)→(vwant env o.guard=some true)→∀ τ,B.Le τ→vact o.op (evalO env) τ=some (u,τ))→gd1 C o s (fun s'=>gopsD C r s' hl chg A Rd K) →
      obind (vwant env o.guard) fun b=>vif b (if o.kind=2 then vexact (fun R=>vop (semSpecs P) o.op env σ R) fun v σ'=>vpend hs.length σ' pend∧vopsDX (semSpecs P) r (putE env o.dst v) (hs++[σ']) σ' pend R
       else if o.kind=1 then obind (vact o.op (evalO env) σ) fun p=>(∀ τ∈hs.drop o.kmin,vreads o.op (evalO env) p.1 τ) ∧
        vopsDX (semSpecs P) r (putE env o.dst p.1) hs σ (if hs.length≤o.kmax then (o.kmax,vreads o.op (evalO env) p.1)::pend else pend) R
       else obind (vact o.op (evalO env) σ) fun p=>vopsDX (semSpecs P) r (putE env o.dst p.1) hs σ pend R)
      (if o.kind=2 then vpend hs.length σ pend∧vopsDX (semSpecs P) r (putE env o.dst undef) (hs++[σ]) σ pend R else vopsDX (semSpecs P) r (putE env o.dst undef) hs σ pend R):=fun hfz hro h=>by
     obtain⟨b,hw,h1,h2⟩:=gd1_sound hG h;rw[hw];refine⟨fun e=>?_,fun e=>?_⟩
     ·obtain⟨u,s',tb',h3,h4,hown,h5⟩:=h1 e;have hro:=hro u h3 (by rw[hw,e])
      rw[if_neg hk2,if_pos hk1,h3];refine⟨fun τ hτ=>?_,?_⟩
      ·obtain⟨j,hj⟩:=List.mem_iff_getElem?.1 hτ;rw[List.getElem?_drop] at hj;refine vreads_of (hro τ (hbs _ τ hj ?_));simp only[noFz,List.all_eq_true,Bool.or_eq_true,Nat.blt_eq] at hfz ⊢;exact fun a ha=>(hfz a ha).imp (fun h=>by omega) id
      refine gopsD_soundX hcs hxs r hkr hB h5 (A:=A) (Rd:=Rd) (hl:=hl) (chg:=chg) (pd:=pd) (by rw[hown];exact hD) (fun c hc=>?_) hbs hch hl0 h4 hK
      split at hc
      ·rcases List.mem_cons.1 hc with rfl|hc
       ·exact .inl fun τ hτ=>vreads_of (hro τ hτ)
       ·exact hp c hc
      ·exact hp c hc
     ·obtain⟨s',tb',h4,hown,h5⟩:=h2 e;rw[if_neg hk2];exact gopsD_soundX hcs hxs r hkr hB h5 (by rw[hown];exact hD) hp hbs hch hl0 h4 hK
    split at h
    ·rename_i hg;cases hr:(rdRo o.op (gev [] s.env)&&noFz A o.kmin) with
     |true =>
      rw[hr] at h;rw[Bool.and_eq_true] at hr;exact ro hr.2 (fun u hu _=>rdRo_sound hG Gds.nil hr.1 hu) h
     |false =>
     rw[hr] at h;simp only[_root_.cond_false] at h;cases hb:(Nat.ble chg o.kmin||rdStay A o.kmin (rdThing o.op (gev [] s.env) s.own)) with
     |false=>rw[hb] at h;exact h.elim
     |true =>
      rw[hb] at h;exact rd _ (fun q hq=>hq) hb h
    ·rename_i j want hg;cases hr:(rdRoG s j want o.op&&noFz A o.kmin) with
     |true =>
      rw[hr] at h;rw[Bool.and_eq_true] at hr;obtain⟨hr,hfz⟩:=hr;refine ro hfz (fun u hu hw=>?_) h;unfold rdRoG at hr;split at hr
      ·rename_i gs s1 hgd;obtain⟨tb',hG',htb,b,hw',hb1,hb2⟩:=gguard_sound hG hgd;rw[hg,hw'] at hw;have e:=osj hw;exact rdRo_sound hG' (fun g hg=>⟨hb1 e g hg,htb g hg⟩) hr hu
      ·cases hr
     |false =>
     rw[hr] at h;simp only[_root_.cond_false] at h;cases hb:Nat.ble chg o.kmin with
     |false=>rw[hb] at h;exact h.elim
     |true =>
      rw[hb] at h;exact rd none (fun q hq=>by cases hq) (by rw[hb];rfl) h
   ·rw[if_neg hk1] at h;obtain⟨b,hw,h1,h2⟩:=gd1_sound hG h;rw[hw];refine⟨fun e=>?_,fun e=>?_⟩
    ·obtain⟨u,s',tb',h3,h4,hown,h5⟩:=h1 e;rw[if_neg hk2,if_neg hk1,h3];exact gopsD_soundX hcs hxs r hkr hB h5 (by rw[hown];exact hD) hp hbs hch hl0 h4 hK
    ·obtain⟨s',tb',h4,hown,h5⟩:=h2 e;rw[if_neg hk2];exact gopsD_soundX hcs hxs r hkr hB h5 (by rw[hown];exact hD) hp hbs hch hl0 h4 hK
theorem gopsD_sound {C:Cx}(hcs:COk P C) {B0 F0 D0:Heap}:∀ (ops:List DOper),(∀ o∈ops,o.kind=o.op.kind)→∀ {s:St}{env:Env}{σ:Heap}{B F:Heap}{pl:Nat→Value}{tb:Nat→Option Bool},GBase B0 F0 D0 B F σ→Gam P B F pl tb s env σ→∀ {hl chg:Nat}{A Rd:List (Nat×Option Nat)}{hs:List Heap}{pend pd:List (Nat×(Heap→Prop))},DSt hs σ pd hl chg A Rd s.own pl→(∀ c∈pend,(∀ τ,B.Le τ→c.2 τ)∨c∈pd)→(∀ j τ,hs[j]?=some τ→noFz A j=true→B.Le τ)→chg≤hl→0<hl →
  ∀ {K:St→Prop},gopsD C ops s hl chg A Rd K→∀ {R:Env→Heap→Prop},(∀ s' env' σ',K s'→GRel P B0 F0 D0 s' env' σ'→R env' σ')→vopsD (semSpecs P) ops env hs σ pend R
 |[],_,s,env,σ,B,F,pl,tb,hB,hG,_,_,_,_,_,_,_,_,_,_,_,_,K,h,R,hK=>hK s env σ h ⟨B,F,pl,tb,hB,hG⟩
 |o0::r,hkind,s,env,σ,B,F,pl,tb,hB,hG,hl,chg,A,Rd,hs,pend,pd,hD,hp,hbs,hch,hl0,K,h,R,hK=>by
  have vps:∀ {n:Nat}{τ:Heap},B.Le τ→vpend n τ pd→vpend n τ pend:=fun {n τ} hb hv=>vpend_of fun c hc hn=>(hp c hc).elim (fun h=>h τ hb) fun h=>vpend_memB hv h hn;have snoc:∀ {τ:Heap}{A':List (Nat×Option Nat)},B.Le τ→(∀ j,noFz A' j=true→noFz A j=true)→∀ j τ',(hs++[τ])[j]?=some τ'→noFz A' j=true→B.Le τ':=fun {τ A'} hb hA j τ' hm hn=>by
   rcases get_snoc hm with⟨_,h1⟩|⟨_,rfl⟩
   ·exact hbs j τ' h1 (hA j hn)
   ·exact hb
  have hkr:∀ o∈r,o.kind=o.op.kind:=fun o' ho'=>hkind o' (List.mem_cons_of_mem _ ho');have hko0:=hkind o0 List.mem_cons_self;unfold gopsD at h;split at h
  ·rename_i hst;have hw:=gstat_sound hG hst;simp only[vopsD];rw[hw];refine⟨fun e=>(by cases e),fun _=>?_⟩
   have hput:=hG.put o0.dst (show SR P B pl tb .any undef by simp[SR])
   by_cases hk2:o0.kind=2
   ·rw[if_pos hk2] at h ⊢;obtain⟨k1,k2⟩:=hD.stay;exact⟨vps hG.leB k1,gopsD_sound hcs r hkr hB hput (by rw[put_own];exact k2) hp (snoc hG.leB fun _ h=>h) (by omega) (by omega) h hK⟩
   ·rw[if_neg hk2] at h ⊢;exact gopsD_sound hcs r hkr hB hput (by rw[put_own];exact hD) hp hbs hch hl0 h hK
  have hko:(gres s.env o0).kind=(gres s.env o0).op.kind:=by unfold gres;split<;>exact hko0
  have hres:vopsD (semSpecs P) (gres s.env o0::r) env hs σ pend R→vopsD (semSpecs P) (o0::r) env hs σ pend R:=fun hv=>by
   unfold gres at hv;split at hv
   ·rename_i hst;simp only[vopsD] at hv ⊢;rw[gstat_sound hG hst];exact hv
   ·exact hv
  refine hres ?_;clear hres;generalize gres s.env o0=o at h hko ⊢
  replace h:=id h
  simp only[vopsD];by_cases hk2:o.kind=2
  ·rw[if_pos hk2] at h
   have fin:∀ {u:Value}{σ':Heap}{ts:List Nat}{v:SV}{s':St}{pl':Nat→Value},(∀ R',R' u σ'→vop (semSpecs P) o.op env σ R')→gopsD C r (s'.put o.dst v) (hl+1) (bif ts.isEmpty then chg else hl) (ts.map (fun t=>(hl-1,some t))++A) (bif ts.isEmpty then Rd else Rd.map fun r=>(r.1,none)) K→Gam P B F pl' tb s' env σ'→SR P B pl' tb v u→(ts=[]→σ'=σ∧pl'=pl∧s'=s)→σ.Le σ'→Dead σ σ'→FrL ts s s' pl pl' σ σ' →
     vexact (fun R=>vop (semSpecs P) o.op env σ R) fun v σ'=>vpend hs.length σ' pend∧vopsD (semSpecs P) r (putE env o.dst v) (hs++[σ']) σ' pend R:=fun {u σ' ts v s' pl'} hop hgo hG' hsr he hle hd hfr=>by
    cases ts with
    |nil =>
     obtain⟨rfl,rfl,rfl⟩:=he rfl;obtain⟨k1,k2⟩:=hD.stay;exact⟨u,σ',hop _ ⟨rfl,rfl⟩,vps hG'.leB k1,gopsD_sound hcs r hkr (dead_n hB hd) (hG'.put o.dst hsr) (by rw[put_own];exact k2) hp (snoc hG'.leB fun _ h=>h) (by simp only[List.isEmpty,_root_.cond_true] at *;omega) (by omega) hgo hK⟩
    |cons t ts =>
     obtain⟨k1,k2⟩:=hD.call hle hfr hl0;exact⟨u,σ',hop _ ⟨rfl,rfl⟩,vps hG'.leB k1,gopsD_sound hcs r hkr (dead_n hB hd) (hG'.put o.dst hsr) (by rw[put_own];exact k2) hp (snoc hG'.leB fun _ h=>noFz_app h) (by simp only[List.isEmpty,_root_.cond_false] at *;omega) (by omega) hgo hK⟩
   split at h
   ·rename_i f args hop;split at h
    ·rename_i hg;rw[hg];refine⟨fun _=>?_,fun e=>by cases e⟩
     rw[if_pos hk2];have viaC:∀ {K':List Nat→SV→St→Prop},gdcall C (C.off+o.dst.getD 0) (.fn f [] []) (ress s.own (args.map (gev [] s.env))) s K'→(∀ ts v s',K' ts v s'→gopsD C r (s'.put o.dst v) (hl+1) (bif ts.isEmpty then chg else hl) (ts.map (fun t=>(hl-1,some t))++A) (bif ts.isEmpty then Rd else Rd.map fun r=>(r.1,none)) K) →
       vexact (fun R=>vop (semSpecs P) o.op env σ R) fun v σ'=>vpend hs.length σ' pend∧vopsD (semSpecs P) r (putE env o.dst v) (hs++[σ']) σ' pend R:=fun {K'} h hK'=>by
      obtain⟨g,a,b,u,σ',e,v,s',pl',h1,h2,h3,h4,h5,h6,h7,h8,h9⟩:=gdcall_sound hcs hG h (show SR P σ noPl noTb (.fn f [] []) (.func (.func f) #[] #[]) by simp only[SR,SRs];exact⟨[],[],rfl,rfl,rfl⟩) (hG.gcall Gds.nil args)
      obtain⟨rfl,rfl,rfl⟩:=(by simpa using h1:f=g∧#[]=a∧#[]=b)
      refine fin (u:=u) (σ':=σ') (fun R' hr=>?_) (hK' _ _ _ h3) h4 h5 h6 h7 h8 h9;rw[hop];show VCalled P f (args.map (evalO env)) σ R'
      have:=h2.mono (R':=R') fun u' σ'' ⟨e1,e2⟩=>by subst e1;subst e2;exact hr
      simpa using this
     split at h
     ·rename_i x hx;split at h
      ·rename_i jf hjf;split at h
       ·rename_i tt htt;cases hwt:(waits o.dst.toList r&&rdAll false Rd hl [tt]) with
        |false=>rw[hwt] at h;exact h.elim
        |true =>
         rw[hwt] at h;simp only[_root_.cond_true] at h;rw[Bool.and_eq_true] at hwt;refine .inr ⟨hwt.1,?_⟩;rw[hop];show VCalled P f (args.map (evalO env)) σ _
         refine hcs.xf f jf hjf x hx B F pl tb s env σ _ _ _ _ _ tt hG (SRs.map fun x _=>hG.evs Gds.nil x) htt h fun v s' u σ' k1 k2 k3 k4 k5=>?_;obtain⟨q1,q2⟩:=hD.writeD k5 (mk:=false) (fun h=>by cases h) hwt.2 hl0
         exact⟨vps k3.leB q1,gopsD_sound hcs r hkr (dead_n hB k2) (k3.put o.dst k4) (by rw[put_own];exact q2) hp (snoc k3.leB fun _ h=>noFz_cons h) (by omega) (by omega) k1 hK⟩
       ·exact h.elim
      ·cases hwt:(waits o.dst.toList r&&Rd.all (fun q=>Nat.blt q.1 hl)) with
       |false=>rw[hwt] at h;simp only[_root_.cond_false] at h;exact .inl (viaC h fun _ _ _ h=>h)
       |true =>
        rw[hwt] at h;simp only[_root_.cond_true] at h;rw[Bool.and_eq_true] at hwt;refine .inr ⟨hwt.1,?_⟩;rw[hop];show VCalled P f (args.map (evalO env)) σ _
        have hargs:∀ args:List Operand,SRs P B pl tb (args.map (gev [] s.env)) (args.map (evalO env)):=fun args=>SRs.map fun x _=>hG.evs Gds.nil x;refine hcs.xs f x hx B F pl tb s env σ _ _ _ _ _ hG (hargs args) h fun v s' B' F' pl' tb' u σ' k1 k2 k3 k4=>?_;have hall:∀ c∈pd,c.1<hl:=fun c hc=>by
         rcases hD.pend c hc with h1|⟨q,h1,h2,_⟩
         ·exact h1
         ·have:=List.all_eq_true.1 hwt.2 q h1;rw[Nat.blt_eq] at this;omega
        have hvp:vpend hs.length σ' pd:=vpend_of fun c hc hle=>by have:=hall c hc;have:=hD.len;omega
        have hvp':vpend hs.length σ' pend:=vpend_of fun c hc hn=>(hp c hc).elim (fun h=>h σ' (k2.b.trans k3.leB)) fun h=>vpend_memB hvp h hn
        refine⟨hvp',gopsD_sound hcs r hkr (hB.trans k2) (k3.put o.dst k4) (pd:=pd) ⟨by simp[hD.len],fun j τ hj ht=>?_,fun c hc=>.inl (by have:=hall c hc;omega),fun j τ q i ht hu hl' hi=>?_⟩ (fun c hc=>(hp c hc).imp (fun h τ hτ=>h τ (k2.b.trans hτ)) id) (fun j τ ht hn=>?_) (by omega) (by omega) k1 hK⟩
        ·rcases get_snoc ht with⟨h1,_⟩|⟨_,h1⟩
         ·rw[hD.len] at h1;omega
         ·exact h1
        ·rcases get_snoc ht with⟨h1,_⟩|⟨_,h1⟩
         ·exfalso;rw[hD.len] at h1;simp only[untouched,List.all_cons,Bool.and_eq_true,Bool.or_eq_true,Nat.blt_eq,Bool.false_eq_true,or_false] at hu;omega
         ·rw[h1]
        ·rcases get_snoc ht with⟨h1,_⟩|⟨_,h1⟩
         ·exfalso;rw[hD.len] at h1;simp only[noFz,List.all_cons,Bool.and_eq_true,Bool.or_eq_true,Nat.blt_eq,Option.isSome_none,Bool.false_eq_true,or_false] at hn;omega
         ·rw[h1];exact k3.leB
     ·exact .inl (viaC h fun _ _ _ h=>h)
    ·rename_i j want hg;rw[hg];split at h
     ·exact h.elim
     ·rename_i gs s1 hgd;obtain⟨tb',hG',htb,b,hw,hb1,hb2⟩:=gguard_sound hG hgd;have hown:=gguard_own hgd;rw[hw];split at h
      ·rename_i cs v hgq;cases hnb:noBox v with
       |false=>rw[hnb] at h;exact h.elim
       |true =>
       rw[hnb] at h;simp only[_root_.cond_true] at h;obtain⟨h1,h2⟩:=gobl_holds h;obtain⟨k1,k2⟩:=hD.stay;have k2':∀ x,DSt (hs++[σ]) σ pd (hl+1) chg A Rd (s1.put o.dst x).own pl:=fun x=>by rw[put_own,hown];exact k2
       refine⟨fun e=>?_,fun e=>?_⟩
       ·rw[if_pos hk2];have hgs:Gds tb' gs:=fun g hg=>⟨hb1 e g hg,htb g hg⟩;have finv:∀ {v u},SR P B pl tb' v u→SR P B pl tb' (.grd gs (unbid v)) u:=fun {v u} hs=>by
         simp only[SR];obtain⟨h1,h2⟩:=unbid_sr hs;exact⟨⟨htb,h2⟩,fun _=>h1,fun ⟨g,hg,hne⟩=>absurd (hb1 e g hg) hne⟩
        simp only[gqc] at hgq;split at hgq
        ·rename_i c v' heq;cases hvr:v'.ret 0 with
         |false=>rw[hvr] at hgq;cases hgq
         |true =>
          rw[hvr] at hgq;obtain⟨rfl,rfl⟩:=pinj hgq;obtain⟨g,a,b',h3,h4,_⟩:=gcallee_sound hcs.cs (show SR P σ noPl noTb (.fn f [] []) (.func (.func f) #[] #[]) by simp only[SR,SRs];exact⟨[],[],rfl,rfl,rfl⟩) (hG'.gcall hgs args) heq hvr rfl (h2 (hb1 e) _ (by simp))
          obtain⟨rfl,rfl,rfl⟩:=(by simpa using h3:f=g∧#[]=a∧#[]=b')
          refine .inl ⟨cval noPl v',σ,?_,vps hG.leB k1,gopsD_sound hcs r hkr hB (hG'.put o.dst (finv ?_)) (k2' _) hp (snoc hG.leB fun _ h=>h) (by omega) (by omega) (gnm_elim h1) hK⟩
          ·rw[hop];show VCalled P f (args.map (evalO env)) σ _
           have:=h4.mono (R':=fun u σ'=>u=cval noPl v'∧σ'=σ) fun u σ' hr=>by
            obtain⟨rfl,hu⟩:=hr.flat hvr;exact⟨cval_sound v' u hvr hnb hu,rfl⟩
           simpa using this
          ·exact SR.retd (fun j hj=>by omega) _ _ hvr (cval_sr (P:=P) (pl:=noPl) (m:=0) (fun j hj=>by omega) v' hvr hnb)
        ·cases hgq
       ·rw[if_pos hk2];obtain⟨g,hg',hne⟩:=hb2 e;exact⟨vps hG.leB k1,gopsD_sound hcs r hkr hB (hG'.put o.dst (by simp only[SR];exact⟨⟨htb,unbid_tb v⟩,fun hall=>absurd (hall g hg') hne,fun _=>trivial⟩)) (k2' _) hp (snoc hG.leB fun _ h=>h) (by omega) (by omega) (gnm_elim h1) hK⟩
      ·split at h
       ·rename_i cs v hgl;obtain⟨c,ty,k,xs,nl,heq,rfl,rfl,hk,hnt⟩:=glistD_inv hgl;obtain⟨h1,h2⟩:=gobl_holds h;have frz:∀ {B' σ':Heap},B'.Le σ'→∀ j τ',(hs++[σ'])[j]?=some τ'→noFz ((hl-1,none)::A) j=true→B'.Le τ':=fun {B' σ'} hb j τ' hm hn=>by
         rcases get_snoc hm with⟨h1,_⟩|⟨_,rfl⟩
         ·simp only[noFz,List.all_cons,Bool.and_eq_true,Bool.or_eq_true,Nat.blt_eq,Option.isSome_none,Bool.false_eq_true,or_false] at hn;have:=hD.len;omega
         ·exact hb
        refine⟨fun e=>?_,fun e=>?_⟩
        ·rw[if_pos hk2];have hgs:Gds tb' gs:=fun g hg=>⟨hb1 e g hg,htb g hg⟩;have hc1:=h2 (hb1 e) c (by simp)
         have hc2:=h2 (hb1 e) (nl=true→xs=[]) (by simp)
         have hgd:gdcall C (C.off+o.dst.getD 0) (.fn f [] []) (ress s1.own (args.map (gev gs s1.env))) s1 (fun ts v' s'=>ts=[C.off+o.dst.getD 0]∧v'=.lst (C.off+o.dst.getD 0)∧s'=s1.make (C.off+o.dst.getD 0) (.lst ty k xs nl)):=by
          unfold gdcall;rw[heq];dsimp only;have hcond:(SV.ret [OB.lst ty k xs nl].length (.lst 0)&&([OB.lst ty k xs nl].all OB.ret&&(Nat.blt 0 C.nt&&([OB.lst ty k xs nl].all OB.isL&&noBox (.lst 0)))))=true:=by
           simp only[SV.ret,List.length_singleton,List.all_cons,List.all_nil,Bool.and_true,OB.ret,hk,Bool.true_and,OB.isL,noBox];rw[Bool.and_eq_true];exact⟨rfl,by rw[Nat.blt_eq];exact hnt⟩
          rw[hcond];simp only[_root_.cond_true,allWf,OB.wf];refine⟨hc1,hc2,?_,?_,?_⟩
          ·simp[List.range_succ]
          ·simp[SV.ren]
          ·simp[St.makes]
         obtain⟨g,a,b',u,σ',ts,v',s',pl',h3,h4,⟨rfl,rfl,rfl⟩,h5,h6,_,h7,h8,h9⟩:=gdcall_sound hcs hG' hgd (show SR P σ noPl noTb (.fn f [] []) (.func (.func f) #[] #[]) by simp only[SR,SRs];exact⟨[],[],rfl,rfl,rfl⟩) (hG'.gcall hgs args)
         obtain⟨rfl,rfl,rfl⟩:=(by simpa using h3:f=g∧#[]=a∧#[]=b')
         obtain⟨B',F',m1,m2,m3⟩:=lst_frz hG'.bf hk h5 h6 h8;have hfr:FrL [C.off+o.dst.getD 0] s ((s1.make (C.off+o.dst.getD 0) .dead).put o.dst (.grd gs (.val (.list k) xs))) pl pl' σ σ':=fun q hq=>by
          obtain⟨f1,f2,f3⟩:=h9 q hq;rw[hown] at f3;refine⟨?_,f2,f3⟩;rw[put_own,make_live _ _ _ (by simpa using hq),hown]
         obtain⟨k1,k2⟩:=hD.call h7 hfr hl0;refine .inl ⟨u,σ',?_,vps (m1.b.trans m2.leB) k1,gopsD_sound hcs r hkr (hB.trans m1) (m2.put o.dst ?_) k2.frozen (fun c hc=>(hp c hc).imp (fun h τ hτ=>h τ (m1.b.trans hτ)) id) (frz m2.leB) (by omega) (by omega) h1 hK⟩
         ·rw[hop];show VCalled P f (args.map (evalO env)) σ _
          simpa using h4
         ·simp only[SR];exact⟨⟨htb,trivial⟩,fun _=>m3,fun ⟨g,hg,hne⟩=>absurd (hb1 e g hg) hne⟩
        ·rw[if_pos hk2];obtain⟨g,hg',hne⟩:=hb2 e;have hfr:FrL [C.off+o.dst.getD 0] s ((s1.make (C.off+o.dst.getD 0) .dead).put o.dst (.grd gs (.val (.list k) xs))) pl (updP pl (C.off+o.dst.getD 0) undef) σ σ:=fun q hq=>by
          have hq':q≠C.off+o.dst.getD 0:=by simpa using hq
          refine⟨?_,by simp[updP,hq'],fun _ _ _=>rfl⟩
          rw[put_own,make_live _ _ _ hq',hown]
         obtain⟨k1,k2⟩:=hD.call (.refl σ) hfr hl0;refine⟨vps hG.leB k1,gopsD_sound hcs r hkr hB ((hG'.make (C.off+o.dst.getD 0) .dead undef hG'.le (fun _ _ _ _ _=>rfl) trivial (fun i hl _=>by cases hl)).put o.dst ?_) k2.frozen hp (frz hG.leB) (by omega) (by omega) h1 hK⟩
         simp only[SR];exact⟨⟨htb,trivial⟩,fun hall=>absurd (hall g hg') hne,fun _=>trivial⟩
       ·exact h.elim
   ·rename_i f args hop;split at h
    ·rename_i hg;rw[hg];refine⟨fun _=>?_,fun e=>by cases e⟩
     rw[if_pos hk2];refine .inl ?_;obtain⟨g,a,b,u,σ',e,v,s',pl',h1,h2,h3,h4,h5,h6,h7,h8,h9⟩:=gdcall_sound hcs hG h (hG.gfun Gds.nil f) (hG.gcall Gds.nil args);refine fin (u:=u) (σ':=σ') (fun R' hr=>?_) h3 h4 h5 h6 h7 h8 h9;rw[hop];exact vcallV_of h1 (h2.mono (R':=R') fun u' σ'' ⟨e1,e2⟩=>by subst e1;subst e2;exact hr)
    ·exact h.elim
   ·exact h.elim
   ·exact h.elim
   ·rename_i hnf hnv hnr hnn;split at h
    ·rename_i hg;rw[hg];refine⟨fun _=>?_,fun e=>by cases e⟩
     rw[if_pos hk2];have hcall:isCall o.op=false:=by
      cases ho:o.op<;>first|rfl|(exact absurd ho (hnf _ _))|(exact absurd ho (hnv _ _))|skip
      case ext x=>cases x<;>first|rfl|(exact absurd ho (hnr _))|(exact absurd ho (hnn _))
     cases hdp:isDeep C (o.dst.getD 0) o.op (gev [] s.env) with
     |true =>
      rw[hdp] at h;simp only[_root_.cond_true] at h;cases hm:rdAll (isMake o.op) Rd hl (dtouch (C.off+o.dst.getD 0) o.op (gev [] s.env)) with
      |false=>rw[hm] at h;exact h.elim
      |true =>
       rw[hm] at h;simp only[_root_.cond_true] at h;obtain⟨u,σ',pl',v,s',h1,h2,⟨h3,h3'⟩,h4⟩:=gnd_sound (fun x=>hG.evs (Gds.nil (tb:=tb)) x) hG h;have hopv:∀ R',R' u σ'→vop (semSpecs P) o.op env σ R':=fun R' hr=>by
        have:vop (semSpecs P) o.op env σ R'=obind (vact o.op (evalO env) σ) fun p=>R' p.1 p.2:=by
         cases ho:o.op with
         |callF f a=>rw[ho] at hcall;cases hcall
         |callV f a=>rw[ho] at hcall;cases hcall
         |ext x =>
          cases x with
          |nextMap y=>rw[ho] at h1;cases h1
          |_=>rfl
         |_=>rfl
        rw[this,h1];exact hr
       obtain⟨k1,k2⟩:=hD.writeD h3' (fun hmk=>make_le hmk h1) hm hl0;exact .inl ⟨u,σ',hopv _ ⟨rfl,rfl⟩,vps h3.leB k1,gopsD_sound hcs r hkr (dead_n hB (vact_dead h1)) (h3.put o.dst h4) (by rw[put_own];exact k2) hp (snoc h3.leB fun _ h=>noFz_app h) (by omega) (by omega) h2 hK⟩
     |false =>
     rw[hdp] at h;simp only[_root_.cond_false] at h;cases hm:((isMake o.op&&rdKeep Rd hl (gtouch (C.off+o.dst.getD 0) o.op (gev [] s.env)))||rdFree Rd hl (gtouch (C.off+o.dst.getD 0) o.op (gev [] s.env))) with
     |false=>rw[hm] at h;exact h.elim
     |true =>
      rw[hm] at h;simp only[_root_.cond_true] at h;obtain⟨u,σ',pl',v,s',h1,h2,⟨h3,h3'⟩,h4⟩:=gn_nok hG h hcall;have hopv:∀ R',R' u σ'→vop (semSpecs P) o.op env σ R':=fun R' hr=>by
       have:vop (semSpecs P) o.op env σ R'=obind (vact o.op (evalO env) σ) fun p=>R' p.1 p.2:=by
        cases ho:o.op with
        |callF f a=>rw[ho] at hcall;cases hcall
        |callV f a=>rw[ho] at hcall;cases hcall
        |ext x =>
         cases x with
         |nextMap y=>rw[ho] at h1;cases h1
         |_=>rfl
        |_=>rfl
       rw[this,h1];exact hr
      obtain⟨k1,k2⟩:=hD.write h3' (fun hmk=>make_le hmk h1) hm hl0;exact .inl ⟨u,σ',hopv _ ⟨rfl,rfl⟩,vps h3.leB k1,gopsD_sound hcs r hkr (dead_n hB (vact_dead h1)) (h3.put o.dst h4) (by rw[put_own];exact k2) hp (snoc h3.leB fun _ h=>noFz_cons h) (by omega) (by omega) h2 hK⟩
    ·exact h.elim
  ·rw[if_neg hk2] at h;have hop2:o.op.kind≠2:=by rw[←hko];exact hk2
   by_cases hk1:o.kind=1
   ·rw[if_pos hk1] at h;have rd:∀ (rq:Option Nat),(∀ q,rq=some q→rdThing o.op (gev [] s.env) s.own=some q)→(Nat.ble chg o.kmin||rdStay A o.kmin rq)=true→gd1 C o s (fun s'=>gopsD C r s' hl chg A ((o.kmax,rq)::Rd) K) →
      obind (vwant env o.guard) fun b=>vif b (if o.kind=2 then (vexact (fun R=>vop (semSpecs P) o.op env σ R) fun v σ'=>vpend hs.length σ' pend∧vopsD (semSpecs P) r (putE env o.dst v) (hs++[σ']) σ' pend R)∨(waits o.dst.toList r=true∧vop (semSpecs P) o.op env σ fun v σ'=>vpend hs.length σ' pend∧vopsD (semSpecs P) r (putE env o.dst v) (hs++[σ']) σ' pend R)
       else if o.kind=1 then obind (vact o.op (evalO env) σ) fun p=>(∀ τ∈hs.drop o.kmin,vreads o.op (evalO env) p.1 τ) ∧
        vopsD (semSpecs P) r (putE env o.dst p.1) hs σ (if hs.length≤o.kmax then (o.kmax,vreads o.op (evalO env) p.1)::pend else pend) R
       else obind (vact o.op (evalO env) σ) fun p=>vopsD (semSpecs P) r (putE env o.dst p.1) hs σ pend R)
      (if o.kind=2 then vpend hs.length σ pend∧vopsD (semSpecs P) r (putE env o.dst undef) (hs++[σ]) σ pend R else vopsD (semSpecs P) r (putE env o.dst undef) hs σ pend R):=fun rq hrq hc h=>by
     obtain⟨b,hw,h1,h2⟩:=gd1_sound hG h;rw[hw];have hdk:DSt hs σ pd hl chg A ((o.kmax,rq)::Rd) s.own pl:=⟨hD.len,hD.same,fun c hc=>(hD.pend c hc).imp id fun ⟨r,k1,k2⟩=>⟨r,List.mem_cons_of_mem _ k1,k2⟩,hD.fr⟩;refine⟨fun e=>?_,fun e=>?_⟩
     ·obtain⟨u,s',tb',h3,h4,hown,h5⟩:=h1 e;rw[if_neg hk2,if_pos hk1,h3];refine⟨fun τ hτ=>?_,?_⟩
      ·obtain⟨j,hj⟩:=List.mem_iff_getElem?.1 hτ;rw[List.getElem?_drop] at hj;rw[Bool.or_eq_true] at hc;rcases hc with hc|hc
       ·have:=hD.same (o.kmin+j) τ (by have:=Nat.le_of_ble_eq_true hc;omega) hj
        subst this;exact vreads_of h3
       ·unfold rdStay at hc;split at hc
        ·rename_i q;obtain⟨k1,i,bl,k2,k3,k4⟩:=rdThing_sound hG (hrq q rfl) h3;have hu:untouched A (o.kmin+j) q=true:=by
          simp only[untouched,List.all_eq_true,Bool.or_eq_true,Nat.blt_eq] at hc ⊢;exact fun a ha=>(hc a ha).imp (fun h=>by omega) id
         have:=hD.fr (o.kmin+j) τ q i hj hu k1 k2;exact vreads_of (k4 τ (by rw[this];exact k3))
        ·cases hc
      ·by_cases hle:hs.length≤o.kmax
       ·rw[if_pos hle];refine gopsD_sound hcs r hkr hB h5 (A:=A) (Rd:=(o.kmax,rq)::Rd) (hl:=hl) (chg:=chg) (pd:=(o.kmax,vreads o.op (evalO env) u)::pd) ?_ (fun c hc=>?_) hbs hch hl0 h4 hK
        ·rw[hown];refine⟨hD.len,hD.same,fun c hc=>?_,hD.fr⟩;rcases List.mem_cons.1 hc with rfl|hc
         ·refine .inr ⟨_,List.mem_cons_self,Nat.le_refl _,?_⟩;cases rq with
          |none=>exact fun τ hτ=>vreads_of (vact_mono hop2 h3 hτ)
          |some q =>
           obtain⟨k1,i,bl,k2,k3,k4⟩:=rdThing_sound hG (hrq q rfl) h3;exact⟨k1,i,bl,k2,k3,fun τ ht=>vreads_of (k4 τ ht)⟩
         ·exact hdk.pend c hc
        ·rcases List.mem_cons.1 hc with rfl|hc
         ·exact .inr List.mem_cons_self
         ·exact(hp c hc).imp id fun h=>List.mem_cons_of_mem _ h
       ·rw[if_neg hle];exact gopsD_sound hcs r hkr hB h5 (A:=A) (Rd:=(o.kmax,rq)::Rd) (hl:=hl) (chg:=chg) (pd:=pd) (by rw[hown];exact hdk) hp hbs hch hl0 h4 hK
     ·obtain⟨s',tb',h4,hown,h5⟩:=h2 e;rw[if_neg hk2];exact gopsD_sound hcs r hkr hB h5 (by rw[hown];exact hdk) hp hbs hch hl0 h4 hK
    have ro:noFz A o.kmin=true→(∀ u,vact o.op (evalO env) σ=some (u,σ)→(vwant env o.guard=some true)→∀ τ,B.Le τ→vact o.op (evalO env) τ=some (u,τ))→gd1 C o s (fun s'=>gopsD C r s' hl chg A Rd K) →
      obind (vwant env o.guard) fun b=>vif b (if o.kind=2 then (vexact (fun R=>vop (semSpecs P) o.op env σ R) fun v σ'=>vpend hs.length σ' pend∧vopsD (semSpecs P) r (putE env o.dst v) (hs++[σ']) σ' pend R)∨(waits o.dst.toList r=true∧vop (semSpecs P) o.op env σ fun v σ'=>vpend hs.length σ' pend∧vopsD (semSpecs P) r (putE env o.dst v) (hs++[σ']) σ' pend R)
       else if o.kind=1 then obind (vact o.op (evalO env) σ) fun p=>(∀ τ∈hs.drop o.kmin,vreads o.op (evalO env) p.1 τ) ∧
        vopsD (semSpecs P) r (putE env o.dst p.1) hs σ (if hs.length≤o.kmax then (o.kmax,vreads o.op (evalO env) p.1)::pend else pend) R
       else obind (vact o.op (evalO env) σ) fun p=>vopsD (semSpecs P) r (putE env o.dst p.1) hs σ pend R)
      (if o.kind=2 then vpend hs.length σ pend∧vopsD (semSpecs P) r (putE env o.dst undef) (hs++[σ]) σ pend R else vopsD (semSpecs P) r (putE env o.dst undef) hs σ pend R):=fun hfz hro h=>by
     obtain⟨b,hw,h1,h2⟩:=gd1_sound hG h;rw[hw];refine⟨fun e=>?_,fun e=>?_⟩
     ·obtain⟨u,s',tb',h3,h4,hown,h5⟩:=h1 e;have hro:=hro u h3 (by rw[hw,e])
      rw[if_neg hk2,if_pos hk1,h3];refine⟨fun τ hτ=>?_,?_⟩
      ·obtain⟨j,hj⟩:=List.mem_iff_getElem?.1 hτ;rw[List.getElem?_drop] at hj;refine vreads_of (hro τ (hbs _ τ hj ?_));simp only[noFz,List.all_eq_true,Bool.or_eq_true,Nat.blt_eq] at hfz ⊢;exact fun a ha=>(hfz a ha).imp (fun h=>by omega) id
      refine gopsD_sound hcs r hkr hB h5 (A:=A) (Rd:=Rd) (hl:=hl) (chg:=chg) (pd:=pd) (by rw[hown];exact hD) (fun c hc=>?_) hbs hch hl0 h4 hK
      split at hc
      ·rcases List.mem_cons.1 hc with rfl|hc
       ·exact .inl fun τ hτ=>vreads_of (hro τ hτ)
       ·exact hp c hc
      ·exact hp c hc
     ·obtain⟨s',tb',h4,hown,h5⟩:=h2 e;rw[if_neg hk2];exact gopsD_sound hcs r hkr hB h5 (by rw[hown];exact hD) hp hbs hch hl0 h4 hK
    split at h
    ·rename_i hg;cases hr:(rdRo o.op (gev [] s.env)&&noFz A o.kmin) with
     |true =>
      rw[hr] at h;rw[Bool.and_eq_true] at hr;exact ro hr.2 (fun u hu _=>rdRo_sound hG Gds.nil hr.1 hu) h
     |false =>
     rw[hr] at h;simp only[_root_.cond_false] at h;cases hb:(Nat.ble chg o.kmin||rdStay A o.kmin (rdThing o.op (gev [] s.env) s.own)) with
     |false=>rw[hb] at h;exact h.elim
     |true =>
      rw[hb] at h;exact rd _ (fun q hq=>hq) hb h
    ·rename_i j want hg;cases hr:(rdRoG s j want o.op&&noFz A o.kmin) with
     |true =>
      rw[hr] at h;rw[Bool.and_eq_true] at hr;obtain⟨hr,hfz⟩:=hr;refine ro hfz (fun u hu hw=>?_) h;unfold rdRoG at hr;split at hr
      ·rename_i gs s1 hgd;obtain⟨tb',hG',htb,b,hw',hb1,hb2⟩:=gguard_sound hG hgd;rw[hg,hw'] at hw;have e:=osj hw;exact rdRo_sound hG' (fun g hg=>⟨hb1 e g hg,htb g hg⟩) hr hu
      ·cases hr
     |false =>
     rw[hr] at h;simp only[_root_.cond_false] at h;cases hb:Nat.ble chg o.kmin with
     |false=>rw[hb] at h;exact h.elim
     |true =>
      rw[hb] at h;exact rd none (fun q hq=>by cases hq) (by rw[hb];rfl) h
   ·rw[if_neg hk1] at h;obtain⟨b,hw,h1,h2⟩:=gd1_sound hG h;rw[hw];refine⟨fun e=>?_,fun e=>?_⟩
    ·obtain⟨u,s',tb',h3,h4,hown,h5⟩:=h1 e;rw[if_neg hk2,if_neg hk1,h3];exact gopsD_sound hcs r hkr hB h5 (by rw[hown];exact hD) hp hbs hch hl0 h4 hK
    ·obtain⟨s',tb',h4,hown,h5⟩:=h2 e;rw[if_neg hk2];exact gopsD_sound hcs r hkr hB h5 (by rw[hown];exact hD) hp hbs hch hl0 h4 hK
def mapP (pl:Nat→Value) (mp:List (Nat×Option Nat)):Nat→Value:=fun t=>match alook mp t with
 |some (some a)=>pl a
 |_=>.slice none 0 0
theorem castEq_kc {h:Heap}{k k':Kind}{x:k.T}{y:k'.T}(e:castEq x y) {cs:List Value}(hk:KC h k' y cs):KC h k x cs:=by
 unfold castEq at e;split at e
 ·rename_i z hz;obtain rfl:=castK_kind hz;obtain rfl:=castK_same hz;subst e;exact hk
 ·exact e.elim
mutual
theorem svEq_sound {B:Heap}{pl:Nat→Value}{tb:Nat→Option Bool}{mp:List (Nat×Option Nat)}:∀ (p a:SV) (v:Value),svEq mp p a→SR P B pl tb a v→SR P B (mapP pl mp) noTb p v
 |.any,a,v,_,_=>trivial
 |.val k x,a,v,h,hs=>by
  simp only[svEq] at h;split at h
  ·simp only[SR] at hs ⊢;exact castEq_kc h hs
  ·simp only[SR] at hs ⊢;exact castEq_kc h (by simp[KC,hs.1])
  ·split at h
   ·subst h;simp only[SR] at hs ⊢;subst hs;exact⟨_,rfl,.inl ⟨rfl,rfl⟩⟩
   ·exact h.elim
  ·exact h.elim
 |.lst t,a,v,h,hs=>by
  simp only[svEq] at h;split at h
  ·split at h
   ·rename_i e;simp only[SR,mapP,e] at hs ⊢;exact hs
   ·exact h.elim
  ·split at h
   ·rename_i e;simp only[SR,mapP,e] at hs ⊢;exact⟨hs,_,_,_,hs⟩
   ·exact h.elim
  ·exact h.elim
 |.box t off,a,v,h,hs=>by
  simp only[svEq] at h;split at h
  ·split at h
   ·rename_i e;obtain⟨e,rfl⟩:=e;simp only[SR,mapP,e] at hs ⊢;exact hs
   ·exact h.elim
  ·exact h.elim
 |.map t,a,v,h,hs=>by
  simp only[svEq] at h;split at h
  ·split at h
   ·rename_i e;simp only[SR,mapP,e] at hs ⊢;exact hs
   ·exact h.elim
  ·exact h.elim
 |.dd t w,a,v,h,hs=>by
  simp only[svEq] at h;split at h
  ·split at h
   ·simp only[SR] at hs ⊢;simp only[DR];exact .inl ⟨h,hs⟩
   ·split at h
    ·rename_i e;obtain⟨e,rfl⟩:=e;simp only[SR,DR,mapP,e] at hs ⊢;obtain⟨b,h1,h2⟩:=hs;exact .inr ⟨h,b,by rw[h1];rfl,h2⟩
    ·exact h.elim
   ·split at h
    ·split at h
     ·rename_i e;subst h;simp only[SR,DR,mapP,e] at hs ⊢;exact hs
     ·exact h.elim
    ·exact h.elim
   ·exact h.elim
  ·split at h
   ·split at h
    ·split at h
     ·rename_i e;simp only[SR,mapP,e] at hs ⊢;exact hs
     ·exact h.elim
    ·exact h.elim
   ·exact h.elim
  ·split at h
   ·split at h
    ·split at h
     ·rename_i e;simp only[SR,mapP,e] at hs ⊢;exact hs
     ·exact h.elim
    ·exact h.elim
   ·split at h
    ·rename_i e;simp only[SR,mapP,e] at hs ⊢;exact⟨hs,_,_,_,hs⟩
    ·exact h.elim
   ·exact h.elim
  ·exact h.elim
 |.agg l,a,v,h,hs=>by
  simp only[svEq] at h;split at h
  ·rename_i l';simp only[SR] at hs ⊢;obtain⟨cs,h1,h2⟩:=hs;exact⟨cs,h1,svEqs_sound l l' cs h h2⟩
  ·exact h.elim
 |.tup l,a,v,h,hs=>by
  simp only[svEq] at h;split at h
  ·rename_i l';simp only[SR] at hs ⊢;obtain⟨cs,h1,h2⟩:=hs;exact⟨cs,h1,svEqs_sound l l' cs h h2⟩
  ·exact h.elim
 |.fn f x y,a,v,h,hs=>by
  simp only[svEq] at h;split at h
  ·split at h
   ·rename_i e;subst e;simp only[SR] at hs ⊢;obtain⟨cs,ds,h1,h2,h3⟩:=hs;exact⟨cs,ds,h1,svEqs_sound x _ cs h.1 h2,svEqs_sound y _ ds h.2 h3⟩
   ·exact h.elim
  ·exact h.elim
 |.nilS,a,v,h,hs=>by
  simp only[svEq] at h;split at h
  ·simp only[SR] at hs ⊢;exact hs
  ·exact h.elim
 |.nilP,a,v,h,hs=>by
  simp only[svEq] at h;split at h
  ·simp only[SR] at hs ⊢;exact hs
  ·exact h.elim
 |.nilM,a,v,h,hs=>by
  simp only[svEq] at h;split at h
  ·simp only[SR] at hs ⊢;exact hs
  ·exact h.elim
 |.nilF,a,v,h,hs=>by
  simp only[svEq] at h;split at h
  ·simp only[SR] at hs ⊢;exact hs
  ·exact h.elim
 |.cp l off,a,v,h,hs=>by
  simp only[svEq] at h;cases hpu:SVs.pure l with
  |true =>
   rw[hpu] at h;simp only[_root_.cond_true] at h;obtain⟨rfl,_⟩:=h;simp only[SR] at hs ⊢;obtain⟨b,c,e,wr,t,h1,h2,h3⟩:=hs;exact⟨b,c,e,wr,t,h1,h2,pures_sound l c hpu h3⟩
  |false =>
   rw[hpu] at h;simp only[_root_.cond_false] at h;split at h
   ·split at h
    ·rename_i l' off' he;subst he;simp only[SR] at hs ⊢;obtain⟨b,c,e,wr,t,h1,h2,h3⟩:=hs;exact⟨b,c,e,wr,t,h1,h2,svEqs_sound l l' c h h3⟩
    ·exact h.elim
   ·exact h.elim
 |.pf ks r dom p,a,v,h,hs=>by
  simp only[svEq] at h;subst h;simp only[SR] at hs ⊢;exact hs
 |.sub t lo n sz,a,v,h,hs=>by
  simp only[svEq] at h;split at h
  ·split at h
   ·rename_i e;obtain⟨rfl,rfl,rfl⟩:=h;simp only[SR,mapP,e] at hs ⊢;exact hs
   ·exact h.elim
  ·exact h.elim
 |.elp _ _ _ _,_,_,h,_|.grd _ _,_,_,h,_|.bid _ _,_,_,h,_|.rop _ _ _ _,_,_,h,_=>by simp only[svEq] at h
theorem svEqs_sound {B:Heap}{pl:Nat→Value}{tb:Nat→Option Bool}{mp:List (Nat×Option Nat)}:∀ (p a:List SV) (v:List Value),svEqs mp p a→SRs P B pl tb a v→SRs P B (mapP pl mp) noTb p v
 |[],a,v,h,hs=>by simp only[svEqs] at h;subst h;exact hs
 |s::ss,[],v,h,hs=>by simp only[svEqs] at h
 |s::ss,a::axs,v,h,hs=>by
  simp only[svEqs] at h;simp only[SRs] at hs ⊢;obtain⟨x,y,h1,h2,h3⟩:=hs;exact⟨x,y,h1,svEq_sound s a x h.1 h2,svEqs_sound ss axs y h.2 h3⟩
theorem pure_sound {B:Heap}{pl pl':Nat→Value}{tb tb':Nat→Option Bool}:∀ (s:SV) (v:Value),s.pure=true→SR P B pl tb s v→SR P B pl' tb' s v
 |.any,v,_,_=>trivial
 |.val k x,v,_,h=>by simp only[SR] at h ⊢;exact h
 |.nilS,v,_,h|.nilP,v,_,h|.nilM,v,_,h|.nilF,v,_,h=>by simp only[SR] at h ⊢;exact h
 |.rop k l i off,v,_,h=>by simp only[SR] at h ⊢;exact h
 |.pf ks r dom p,v,_,h=>by simp only[SR] at h ⊢;exact h
 |.agg l,v,hp,h=>by
  simp only[SR] at h ⊢;obtain⟨cs,h1,h2⟩:=h;exact⟨cs,h1,pures_sound l cs hp h2⟩
 |.tup l,v,hp,h=>by
  simp only[SR] at h ⊢;obtain⟨cs,h1,h2⟩:=h;exact⟨cs,h1,pures_sound l cs hp h2⟩
 |.cp l off,v,hp,h=>by
  simp only[SR] at h ⊢;obtain⟨b,c,e,wr,t,h1,h2,h3⟩:=h;exact⟨b,c,e,wr,t,h1,h2,pures_sound l c hp h3⟩
 |.fn f a b,v,hp,h=>by
  simp only[SV.pure,Bool.and_eq_true] at hp;simp only[SR] at h ⊢;obtain⟨x,y,h1,h2,h3⟩:=h;exact⟨x,y,h1,pures_sound a x hp.1 h2,pures_sound b y hp.2 h3⟩
 |.lst _,_,h,_|.sub _ _ _ _,_,h,_|.elp _ _ _ _,_,h,_|.box _ _,_,h,_|.map _,_,h,_|.grd _ _,_,h,_|.bid _ _,_,h,_=>by cases h
theorem pures_sound {B:Heap}{pl pl':Nat→Value}{tb tb':Nat→Option Bool}:∀ (s:List SV) (v:List Value),SVs.pure s=true→SRs P B pl tb s v→SRs P B pl' tb' s v
 |[],v,_,h=>by simp only[SRs] at h ⊢;exact h
 |s::ss,v,hp,h=>by
  simp only[SVs.pure,Bool.and_eq_true] at hp;simp only[SRs] at h ⊢;obtain⟨x,y,h1,h2,h3⟩:=h;exact⟨x,y,h1,pure_sound s x hp.1 h2,pures_sound ss y hp.2 h3⟩
end
end
end Go.V
namespace Go.V
open Go
section
variable {P:Program}{B F:Heap}{pl:Nat→Value}{tb:Nat→Option Bool}{s:St}{env:Env}{σ:Heap}
theorem castEq_list {k k':Kind}{xs:List k.T}{ys:List k'.T}(h:castEq (k:=.list k) xs (k':=.list k') ys):∃ e:k'=k,e▸ys=xs:=by
 unfold castEq at h;split at h
 ·rename_i z hz;have e:=castK_kind hz;obtain rfl:=Kind.list.inj e;obtain rfl:=castK_same hz;exact⟨rfl,h⟩
 ·exact h.elim
theorem obEq_sound (hG:Gam P B F pl tb s env σ) {mp:List (Nat×Option Nat)}{t:Nat}{b:OB}(h:obEq s mp t b) :
  OR P B (mapP pl mp) noTb σ (mapP pl mp t) b∧(b.live=true→∀ i,Oid (mapP pl mp t) i→∃ a,alook mp t=some (some a)∧(oget s.own a).live=true∧Oid (pl a) i):=by
 unfold obEq at h;split at h
 ·rename_i a ha;have hpl:mapP pl mp t=pl a:=by simp[mapP,ha]
  rw[hpl];have hob:=hG.obj a;split at h
  ·exact⟨trivial,fun h=>by cases h⟩
  ·rename_i ty k xs nl ty' k' xs' nl' ho;split at h
   ·rename_i e;subst e;obtain⟨h1,rfl⟩:=h;obtain⟨rfl,rfl⟩:=castEq_list h1;rw[ho] at hob;exact⟨hob,fun _ i hi=>⟨a,ha,by rw[ho];rfl,hi⟩⟩
   ·exact h.elim
  ·rename_i l u l' u' ho;split at h
   ·rename_i e0;subst e0;rw[ho] at hob;obtain⟨i,c,e,t',h1,h2,h3,h4⟩:=hob;exact⟨⟨i,c,e,t',h1,h2,svEqs_sound l l' c h h3,h4⟩,fun _ i hi=>⟨a,ha,by rw[ho];rfl,hi⟩⟩
   ·exact h.elim
  ·rename_i kk vk m kk' vk' m' ho;split at h
   ·obtain⟨e,h1⟩:=castEq_list h;obtain⟨rfl,rfl⟩:=Kind.pair.inj e;subst h1;rw[ho] at hob;exact⟨hob,fun _ i hi=>⟨a,ha,by rw[ho];rfl,hi⟩⟩
   ·exact h.elim
  ·rename_i l vals l' vals' ho;rw[ho] at hob;obtain⟨rfl,h⟩:=h;exact⟨svEqs_sound l l' vals h hob,fun h=>by cases h⟩
  ·rename_i l q u l' q' u' ho;rw[ho] at hob;split at h
   ·obtain⟨rfl,h⟩:=h;exact⟨⟨hob.1,svEqs_sound l l' q.vals h hob.2.1,hob.2.2⟩,fun _ i hi=>⟨a,ha,by rw[ho];rfl,hi⟩⟩
   ·obtain⟨rfl,h⟩:=h;exact⟨⟨hob.1,svEqs_sound l l' q.vals h hob.2.1,hob.2.2⟩,fun h=>by cases h⟩
   ·exact h.elim
  ·rename_i kk vk m dn kk' vk' m' dn' ho;split at h
   ·obtain⟨h,rfl⟩:=h;obtain⟨e,h1⟩:=castEq_list h;obtain⟨rfl,rfl⟩:=Kind.pair.inj e;subst h1;rw[ho] at hob;exact⟨hob,fun _ i hi=>⟨a,ha,by rw[ho];rfl,hi⟩⟩
   ·exact h.elim
  ·rename_i ty q k xs nl h0 ty' q' k' xs' nl' h0' ho;split at h
   ·rename_i e;obtain⟨rfl,rfl⟩:=e;split at h
    ·obtain⟨h1,rfl⟩:=h;obtain⟨rfl,rfl⟩:=castEq_list h1;rw[ho] at hob;exact⟨hob,fun _ i hi=>⟨a,ha,by rw[ho];rfl,hi⟩⟩
    ·exact h.elim
   ·exact h.elim
  ·exact h.elim
 ·rename_i ha;have hpl:mapP pl mp t=.slice none 0 0:=by simp[mapP,ha]
  rw[hpl];split at h
  ·exact⟨.inl ⟨h.2,h.1,rfl⟩,fun _ i hi=>by cases hi⟩
  ·split at h
   ·obtain⟨rfl,rfl⟩:=h;refine⟨⟨[],fun i=>⟨fun h=>(by cases h),fun ⟨b,h⟩=>(by cases h)⟩,List.nodup_nil,.inl ⟨rfl,rfl,rfl⟩,fun i=>⟨fun ⟨b,h⟩=>(by cases h),fun h=>(by cases h)⟩,(fun i b h=>by cases h),by simp[phd]⟩,fun _ i hi=>by cases hi⟩
   ·exact h.elim
  ·exact h.elim
 ·exact h.elim
theorem alook_append {α:Type _}(l:List (Nat×α)) (t:Nat) (x:α) (d:Nat):alook (l++[(t,x)]) d=match alook l d with|some y=>some y|none=>if t=d then some x else none:=by
 induction l with
 |nil =>
  simp only[List.nil_append,alook];by_cases h:t=d
  ·subst h;simp
  ·rw[beq_ne h];simp[h]
 |cons p l ih =>
  obtain⟨k,y⟩:=p;simp only[List.cons_append,alook,ih];cases Nat.beq k d<;>rfl
theorem alook_mem {α:Type _}{l:List (Nat×α)}{d:Nat}{x:α}(h:alook l d=some x):∃ p∈l,p.1=d∧p.2=x:=by
 induction l with
 |nil=>cases h
 |cons p l ih =>
  obtain⟨k,y⟩:=p;simp only[alook] at h;cases hb:Nat.beq k d with
  |true=>rw[hb] at h;obtain rfl:=osj h;exact⟨_,List.mem_cons_self,Nat.eq_of_beq_eq_true hb,rfl⟩
  |false =>
   rw[hb] at h;obtain⟨p,h1,h2⟩:=ih h;exact⟨p,List.mem_cons_of_mem _ h1,h2⟩
def Inj (mp:List (Nat×Option Nat)):Prop:=∀ t t' a,alook mp t=some (some a)→alook mp t'=some (some a)→t=t'
theorem gmap_inj:∀ (l:List (Nat×Src)) (mp mp':List (Nat×Option Nat)),gmap s l mp=some mp'→Inj mp→Inj mp'
 |[],mp,mp',h,hi=>by obtain rfl:=osj h;exact hi
 |(t,src)::r,mp,mp',h,hi=>by
  simp only[gmap] at h;split at h
  ·rename_i a _;split at h
   ·cases h
   ·rename_i hc;refine gmap_inj r _ _ h ?_;have hfr:∀ d,alook mp d≠some (some a):=fun d hd=>by
     obtain⟨p,h1,h2,h3⟩:=alook_mem hd;apply hc
     simp only[Bool.or_eq_true];exact .inl (List.any_eq_true.2 ⟨p,h1,by rw[h3];simp⟩)
    intro t1 t2 a' h1 h2;rw[alook_append] at h1 h2;split at h1
    ·rename_i y1 e1;split at h2
     ·rename_i y2 e2;obtain rfl:=osj h1;obtain rfl:=osj h2;exact hi t1 t2 a' e1 e2
     ·split at h2
      ·obtain rfl:=osj (osj h2);obtain rfl:=osj h1;exact absurd e1 (hfr t1)
      ·cases h2
    ·split at h1
     ·rename_i e1;obtain rfl:=osj (osj h1);split at h2
      ·rename_i y2 e2;obtain rfl:=osj h2;exact absurd e2 (hfr t2)
      ·split at h2
       ·rename_i e2;omega
       ·cases h2
     ·cases h1
  ·split at h
   ·cases h
   ·refine gmap_inj r _ _ h ?_;intro t1 t2 a' h1 h2;rw[alook_append] at h1 h2;split at h1
    ·rename_i y1 e1;split at h2
     ·rename_i y2 e2;obtain rfl:=osj h1;obtain rfl:=osj h2;exact hi t1 t2 a' e1 e2
     ·split at h2<;>cases h2
    ·split at h1<;>cases h1
  ·cases h
theorem gobs_mem {mp:List (Nat×Option Nat)}:∀ {ow:List (Nat×Src×OB)},gmatch.obs s mp ow→∀ p∈ow,obEq s mp p.1 p.2.2
 |[],_,p,hp=>by cases hp
 |(t,src,b)::r,h,p,hp=>by
  simp only[gmatch.obs] at h;rcases List.mem_cons.1 hp with rfl|hp
  ·exact h.1
  ·exact gobs_mem h.2 p hp
theorem fold_oset {f:List (Nat×Src×OB)}:∀ (own:Own) (t:Nat),(∃ p∈f,p.1=t∧oget (f.foldl (fun o p=>oset o p.1 p.2.2) own) t=p.2.2)∨oget (f.foldl (fun o p=>oset o p.1 p.2.2) own) t=oget own t:=by
 induction f with
 |nil=>intro own t;exact .inr rfl
 |cons p f ih =>
  intro own t;simp only[List.foldl_cons];rcases ih (oset own p.1 p.2.2) t with⟨q,h1,h2⟩|h
  ·exact .inl ⟨q,List.mem_cons_of_mem _ h1,h2⟩
  ·rw[h,oget_oset];by_cases e:t=p.1
   ·rw[if_pos e];exact .inl ⟨p,List.mem_cons_self,e.symm,rfl⟩
   ·rw[if_neg e];exact .inr rfl
theorem slots_sound (hG:Gam P B F pl tb s env σ) {mp:List (Nat×Option Nat)}:∀ (st:List (Nat×SV)) {e:List SV}{eV:Env},gmatch.slots s mp st→SRs P B (mapP pl mp) noTb e eV→SRs P B (mapP pl mp) noTb (st.foldl (fun e p=>e.set p.1 p.2) e) (spreadE (st.map (·.1)) (pickE (st.map (·.1)) env) eV)
 |[],e,eV,_,h=>h
 |(j,v)::r,e,eV,hs,h=>by
  simp only[gmatch.slots] at hs;simp only[List.foldl_cons,List.map_cons,pickE,spreadE];exact slots_sound hG r hs.2 (h.set j (svEq_sound v _ _ hs.1 (hG.env.getD j poison)))
theorem any_rel {B:Heap}{pl:Nat→Value}{tb:Nat→Option Bool}:∀ n,SRs P B pl tb (List.replicate n .any) (List.replicate n poison)
 |0=>by simp[SRs]
 |n+1=>by
  simp only[List.replicate_succ,SRs];exact⟨_,_,rfl,by simp[SR],any_rel n⟩
theorem gmatch_sound {B0 F0 D0:Heap}(hR:GRel P B0 F0 D0 s env σ) {st:List (Nat×SV)}{ow:List (Nat×Src×OB)}(h:gmatch s st ow) (len:Nat):GRel P B0 F0 D0 (gstate len st ow) (spreadE (st.map (·.1)) (pickE (st.map (·.1)) env) (List.replicate len poison)) σ:=by
 obtain⟨B,F,pl,tb,hB,hG⟩:=hR;unfold gmatch at h;split at h
 ·rename_i mp hmp;obtain⟨h1,h2⟩:=h;have hinj:=gmap_inj _ _ _ hmp (fun t t' a h=>by cases h)
  have hmem:=gobs_mem h2;have hob:∀ t,(oget (gstate len st ow).own t).live=true→obEq s mp t (oget (gstate len st ow).own t):=fun t hl=>by
   rcases fold_oset (f:=ow) [] t with⟨p,h3,h4,h5⟩|h3
   ·have:=hmem p h3;rw[h4,←h5] at this;exact this
   ·simp only[gstate] at hl;rw[h3] at hl;cases hl
  refine⟨B,F,mapP pl mp,noTb,hB,hG.bf,hG.le,slots_sound hG st h1 (any_rel len),fun t=>?_,fun t i hl hi=>?_,fun t t' i hne hl hl' hi hi'=>?_,fun _ _=>rfl⟩
  ·cases hl:(oget (gstate len st ow).own t).live with
   |true=>exact(obEq_sound hG (hob t hl)).1
   |false =>
    cases ho:oget (gstate len st ow).own t with
    |dead=>trivial
    |stk l vals =>
     rcases fold_oset (f:=ow) [] t with⟨p,h3,h4,h5⟩|h3
     ·have:=hmem p h3;simp only[gstate] at ho;rw[←h5,ho] at this;have h6:=(obEq_sound hG this).1;rw[h4] at h6;exact h6
     ·simp only[gstate] at ho;rw[h3] at ho;cases ho
    |lpf l q u =>
     rcases fold_oset (f:=ow) [] t with⟨p,h3,h4,h5⟩|h3
     ·have:=hmem p h3;simp only[gstate] at ho;rw[←h5,ho] at this;have h6:=(obEq_sound hG this).1;rw[h4] at h6;exact h6
     ·simp only[gstate] at ho;rw[h3] at ho;cases ho
    |_=>rw[ho] at hl;cases hl
  ·obtain⟨a,_,h4,h5⟩:=(obEq_sound hG (hob t hl)).2 hl i hi;exact hG.fresh a i h4 h5
  ·obtain⟨a,e1,h4,h5⟩:=(obEq_sound hG (hob t hl)).2 hl i hi;obtain⟨a',e2,h4',h5'⟩:=(obEq_sound hG (hob t' hl')).2 hl' i hi';by_cases e:a=a'
   ·subst e;exact hne (hinj t t' a e1 e2)
   ·exact hG.sep a a' i e h4 h4' h5 h5'
 ·exact h.elim
theorem gfrz_sound:∀ {caps caps':List SV}{vs:List Value}{B F:Heap}{s s':St},Gam P B F pl tb s env σ→SRs P B pl tb caps vs→gfrz s caps=some (s',caps') →
  ∃ B' F',GBase B F σ B' F' σ∧Gam P B' F' pl tb s' env σ∧SRs P B' noPl noTb caps' vs∧s'.env=s.env
 |[],caps',vs,B,F,s,s',hG,hs,h=>by
  simp only[gfrz,Option.some.injEq,Prod.mk.injEq] at h;obtain⟨rfl,rfl⟩:=h;exact⟨B,F,.of hG.bf (.refl _),hG,hs,rfl⟩
 |v::caps,caps',vs,B,F,s,s',hG,hs,h=>by
  simp only[SRs] at hs;obtain⟨u,us,rfl,h1,h2⟩:=hs;have pureC:∀ w:SV,SR P B pl tb w u→(bif w.pure then (match gfrz s caps with|some (s',r)=>some (s',w::r)|none=>none) else none)=some (s',caps') →
    ∃ B' F',GBase B F σ B' F' σ∧Gam P B' F' pl tb s' env σ∧SRs P B' noPl noTb caps' (u::us)∧s'.env=s.env:=fun w hw h=>by
   cases hp:w.pure with
   |false=>rw[hp] at h;cases h
   |true =>
    rw[hp] at h;simp only[_root_.cond_true] at h;split at h
    ·rename_i s1 r heq;simp only[Option.some.injEq,Prod.mk.injEq] at h;obtain⟨rfl,rfl⟩:=h;obtain⟨B',F',k1,k2,k3,k4⟩:=gfrz_sound hG h2 heq;exact⟨B',F',k1,k2,by simp only[SRs];exact⟨u,us,rfl,SR.mono k1.b (fun _ _ h=>h) _ _ (pure_sound w u hp hw),k3⟩,k4⟩
    ·cases h
  simp only[gfrz] at h;split at h
  ·rename_i o;split at h
   ·rename_i l _ ho;cases hp:SVs.pure l with
    |false=>rw[hp] at h;cases h
    |true =>
     rw[hp] at h;simp only[_root_.cond_true] at h;split at h
     ·rename_i s1 r heq;simp only[Option.some.injEq,Prod.mk.injEq] at h;obtain⟨rfl,rfl⟩:=h;have hob:=hG.obj o;rw[ho] at hob;obtain⟨i,c,e,t,e1,e2,e3,_⟩:=hob;obtain⟨k1,k2⟩:=hG.freeze (o:=o) (i:=i) (by rw[ho];rfl) (by rw[e1];rfl)
      obtain⟨B',F',j1,j2,j3,j4⟩:=gfrz_sound k2 (SRs.mono k1.b (fun _ _ h=>h) _ _ h2) heq;refine⟨B',F',k1.trans j1,j2,?_,j4⟩;simp only[SRs];refine⟨u,us,rfl,?_,j3⟩;simp only[SR] at h1 ⊢;obtain⟨b,q1,q2⟩:=h1;rw[e1] at q1;obtain rfl:i=b:=by simpa using q1
      refine⟨i,c,e,true,t,j1.b.2 _ _ ?_,q2,SRs.mono (k1.trans j1).b (fun _ _ h=>h) _ _ (pures_sound l c hp e3)⟩;rw[Heap.ins_self];exact e2
     ·cases h
   ·cases h
  ·exact pureC _ h1 h
theorem Gam.lpUpd (hG:Gam P B F pl tb s env σ) {n:Nat}{b b0:Blk}(hF:F.get n=some b0) (hB:B.get n=none):Gam P B (F.upd n b) pl tb s env (σ.upd n b):=by
 have hne:∀ {d i},(oget s.own d).live=true→Oid (pl d) i→i≠n:=fun h1 h2 e=>by
  have:=hG.fresh _ _ h1 h2;subst e;rw[hF] at this;cases this
 refine⟨⟨hG.bf.1,fun i c hc=>?_⟩,⟨hG.le.1,fun i c hc=>?_⟩,hG.env,fun d=>(hG.obj d).mono (.refl _) (fun _ _ h=>h) fun h1 i h2=>Heap.get_upd_ne _ _ (hne h1 h2),fun d i h1 h2=>?_,hG.sep,hG.free⟩
 ·have:i≠n:=by rintro rfl;rw[hB] at hc;cases hc
  rw[Heap.get_upd_ne _ _ this];exact hG.bf.2 _ _ hc
 ·by_cases e:i=n
  ·subst e;rw[Heap.get_upd_self _ _ (F.lt hF)] at hc;rw[Heap.get_upd_self _ _ (Nat.lt_of_lt_of_le (F.lt hF) hG.le.1)];exact hc
  ·rw[Heap.get_upd_ne _ _ e] at hc ⊢;exact hG.le.2 _ _ hc
 ·rw[Heap.get_upd_ne _ _ (hne h1 h2)];exact hG.fresh _ _ h1 h2
theorem Gam.lpKill (hG:Gam P B F pl tb s env σ) {n:Nat}{b0:Blk}(hF:F.get n=some b0) (hB:B.get n=none):Gam P B (F.kill n) pl tb s env (σ.kill n):=by
 have hne:∀ {d i},(oget s.own d).live=true→Oid (pl d) i→i≠n:=fun h1 h2 e=>by
  have:=hG.fresh _ _ h1 h2;subst e;rw[hF] at this;cases this
 refine⟨⟨hG.bf.1,fun i c hc=>?_⟩,⟨hG.le.1,fun i c hc=>?_⟩,hG.env,fun d=>(hG.obj d).mono (.refl _) (fun _ _ h=>h) fun h1 i h2=>Heap.get_kill_ne _ (hne h1 h2),fun d i h1 h2=>?_,hG.sep,hG.free⟩
 ·have:i≠n:=by rintro rfl;rw[hB] at hc;cases hc
  rw[Heap.get_kill_ne _ this];exact hG.bf.2 _ _ hc
 ·by_cases e:i=n
  ·subst e;rw[Heap.get_kill_self] at hc;cases hc
  ·rw[Heap.get_kill_ne _ e] at hc ⊢;exact hG.le.2 _ _ hc
 ·rw[Heap.get_kill_ne _ (hne h1 h2)];exact hG.fresh _ _ h1 h2
theorem GRel.lpUpd {B1 F1 D0:Heap}(h:GRel P B1 F1 D0 s env σ) {n:Nat}{b b0:Blk}(hF:F1.get n=some b0) (hB:B1.get n=none):GRel P B1 (F1.upd n b) D0 s env (σ.upd n b):=by
 obtain⟨B,F,pl,tb,hB',hG⟩:=h;have hF2:=hB'.f.2 _ _ hF;have hB2:=hB'.x _ _ hF hB;refine⟨B,F.upd n b,pl,tb,⟨hB'.b,⟨hB'.f.1,fun i c hc=>?_⟩,fun i c h1 h2=>?_,⟨hB'.d.1,fun i h1 h2=>?_⟩⟩,hG.lpUpd hF2 hB2⟩
 ·by_cases e:i=n
  ·subst e;rw[Heap.get_upd_self _ _ (F1.lt hF)] at hc;rw[Heap.get_upd_self _ _ (F.lt hF2)];exact hc
  ·rw[Heap.get_upd_ne _ _ e] at hc ⊢;exact hB'.f.2 _ _ hc
 ·by_cases e:i=n
  ·subst e;exact hB2
  ·rw[Heap.get_upd_ne _ _ e] at h1;exact hB'.x _ _ h1 h2
 ·have hd:=hB'.d.2 i h1 h2;have:i≠n:=by rintro rfl;rw[hG.le.2 _ _ hF2] at hd;cases hd
  rw[Heap.get_upd_ne _ _ this];exact hd
theorem GRel.lpKill {B1 F1 D0:Heap}(h:GRel P B1 F1 D0 s env σ) {n:Nat}{b0:Blk}(hF:F1.get n=some b0) (hB:B1.get n=none):GRel P B1 (F1.kill n) D0 s env (σ.kill n):=by
 obtain⟨B,F,pl,tb,hB',hG⟩:=h;have hF2:=hB'.f.2 _ _ hF;have hB2:=hB'.x _ _ hF hB;refine⟨B,F.kill n,pl,tb,⟨hB'.b,⟨hB'.f.1,fun i c hc=>?_⟩,fun i c h1 h2=>?_,⟨hB'.d.1,fun i h1 h2=>?_⟩⟩,hG.lpKill hF2 hB2⟩
 ·by_cases e:i=n
  ·subst e;rw[Heap.get_kill_self] at hc;cases hc
  ·rw[Heap.get_kill_ne _ e] at hc ⊢;exact hB'.f.2 _ _ hc
 ·by_cases e:i=n
  ·subst e;exact hB2
  ·rw[Heap.get_kill_ne _ e] at h1;exact hB'.x _ _ h1 h2
 ·have hd:=hB'.d.2 i h1 h2;by_cases e:i=n
  ·subst e;exact Heap.get_kill_self _ _
  ·rw[Heap.get_kill_ne _ e];exact hd
theorem GRel.base {B0 F0 B1 F1 D0:Heap}(h:GRel P B1 F1 D0 s env σ) (hb:B0.Le B1) (hf:F0.Le F1) (hx:∀ i b,F0.get i=some b→B0.get i=none→B1.get i=none):GRel P B0 F0 D0 s env σ:=by
 obtain⟨B,F,pl,tb,hB',hG⟩:=h;exact⟨B,F,pl,tb,⟨hb.trans hB'.b,hf.trans hB'.f,fun i b h1 h2=>hB'.x i b (hf.2 _ _ h1) (hx i b h1 h2),hB'.d⟩,hG⟩
theorem slots_soundE (hG:Gam P B F pl tb s env σ) {mp:List (Nat×Option Nat)}:∀ (st:List (Nat×SV)) {e:List SV},gmatch.slots s mp st→SRs P B (mapP pl mp) noTb e env→SRs P B (mapP pl mp) noTb (st.foldl (fun e p=>e.set p.1 p.2) e) env
 |[],e,_,h=>h
 |(j,v)::r,e,hs,h=>by
  simp only[gmatch.slots] at hs;simp only[List.foldl_cons];refine slots_soundE hG r hs.2 ?_;have:=h.set j (svEq_sound v _ _ hs.1 (hG.env.getD j poison));by_cases hj:j<env.length
  ·rwa [List.getD_eq_getElem?_getD,List.getElem?_eq_getElem hj,Option.getD_some,List.set_getElem_self] at this
  ·rw[List.set_eq_of_length_le (by rw[h.length];omega)];exact h
theorem any_relE {B:Heap}{pl:Nat→Value}{tb:Nat→Option Bool}:∀ (env:Env),SRs P B pl tb (List.replicate (List.length env) .any) env
 |[]=>by simp[SRs]
 |v::env=>by
  simp only[List.length_cons,List.replicate_succ,SRs];exact⟨_,_,rfl,by simp[SR],any_relE env⟩
theorem gmatch_soundE {B0 F0 D0:Heap}(hR:GRel P B0 F0 D0 s env σ) {st:List (Nat×SV)}{ow:List (Nat×Src×OB)}(h:gmatch s st ow):GRel P B0 F0 D0 (gstate (List.length env) st ow) env σ:=by
 obtain⟨B,F,pl,tb,hB,hG⟩:=hR;unfold gmatch at h;split at h
 ·rename_i mp hmp;obtain⟨h1,h2⟩:=h;have hinj:=gmap_inj _ _ _ hmp (fun t t' a h=>by cases h)
  have hmem:=gobs_mem h2;have hob:∀ t,(oget (gstate (List.length env) st ow).own t).live=true→obEq s mp t (oget (gstate (List.length env) st ow).own t):=fun t hl=>by
   rcases fold_oset (f:=ow) [] t with⟨p,h3,h4,h5⟩|h3
   ·have:=hmem p h3;rw[h4,←h5] at this;exact this
   ·simp only[gstate] at hl;rw[h3] at hl;cases hl
  refine⟨B,F,mapP pl mp,noTb,hB,hG.bf,hG.le,slots_soundE hG st h1 (any_relE env),fun t=>?_,fun t i hl hi=>?_,fun t t' i hne hl hl' hi hi'=>?_,fun _ _=>rfl⟩
  ·cases hl:(oget (gstate (List.length env) st ow).own t).live with
   |true=>exact(obEq_sound hG (hob t hl)).1
   |false =>
    cases ho:oget (gstate (List.length env) st ow).own t with
    |dead=>trivial
    |stk l vals =>
     rcases fold_oset (f:=ow) [] t with⟨p,h3,h4,h5⟩|h3
     ·have:=hmem p h3;simp only[gstate] at ho;rw[←h5,ho] at this;have h6:=(obEq_sound hG this).1;rw[h4] at h6;exact h6
     ·simp only[gstate] at ho;rw[h3] at ho;cases ho
    |lpf l q u =>
     rcases fold_oset (f:=ow) [] t with⟨p,h3,h4,h5⟩|h3
     ·have:=hmem p h3;simp only[gstate] at ho;rw[←h5,ho] at this;have h6:=(obEq_sound hG this).1;rw[h4] at h6;exact h6
     ·simp only[gstate] at ho;rw[h3] at ho;cases ho
    |_=>rw[ho] at hl;cases hl
  ·obtain⟨a,_,h4,h5⟩:=(obEq_sound hG (hob t hl)).2 hl i hi;exact hG.fresh a i h4 h5
  ·obtain⟨a,e1,h4,h5⟩:=(obEq_sound hG (hob t hl)).2 hl i hi;obtain⟨a',e2,h4',h5'⟩:=(obEq_sound hG (hob t' hl')).2 hl' i hi';by_cases e:a=a'
   ·subst e;exact hne (hinj t t' a e1 e2)
   ·exact hG.sep a a' i e h4 h4' h5 h5'
 ·exact h.elim
theorem obind_ex {α:Type}{o:Option α}{f:α→Prop}(h:obind o f):∃ a,f a:=by
 cases o with
 |none=>exact h.elim
 |some a=>exact⟨a,h⟩
theorem COk.nx {C:Cx}(h:COk P C):COk P C.nx:=⟨h.cs,fun f x hx=>(by cases hx),h.it,h.yl,h.iy,fun f j _ x hx=>(by cases hx)⟩
theorem vopsD_const {S:VSpecs}{Q:Prop}:∀ {ops:List DOper}{env:Env}{hs:List Heap}{σ:Heap}{pend:List (Nat×(Heap→Prop))},vopsDX S ops env hs σ pend (fun _ _=>Q)→Q
 |[],_,_,_,_,h=>h
 |o::r,env,hs,σ,pend,h=>by
  simp only[vopsDX] at h;obtain⟨b,h⟩:=obind_ex h;cases b with
  |true =>
   have h:=h.1 rfl;split at h
   ·obtain⟨v,σ',_,_,h⟩:=h;exact vopsD_const h
   ·split at h
    ·obtain⟨p,_,h⟩:=obind_ex h;exact vopsD_const h
    ·obtain⟨p,h⟩:=obind_ex h;exact vopsD_const h
  |false =>
   have h:=h.2 rfl;split at h
   ·exact vopsD_const h.2
   ·exact vopsD_const h
theorem galts_inv {C:Cx}{s:St}{st:List (Nat×SV)}{ow:List (Nat×Src×OB)}{Q:Prop}:∀ (ls:List (List DOper)),galts C ls s st ow Q→(∀ l∈ls,gopsD C.nx l s 1 0 [] [] fun s'=>gmatchN s.env.length s' st ow)∧Q
 |[],h=>⟨fun l hl=>(by cases hl),h⟩
 |l::ls,h=>by
  obtain⟨h1,h2⟩:=h;obtain⟨h3,h4⟩:=galts_inv ls h2;exact⟨fun l' hl'=>(List.mem_cons.1 hl').elim (fun e=>e▸h1) (h3 l'),h4⟩
theorem gmatchN_sound {B0 F0 D0:Heap}{s:St}{env:Env}{σ:Heap}{n:Nat}(hR:GRel P B0 F0 D0 s env σ) {st:List (Nat×SV)}{ow:List (Nat×Src×OB)}(h:gmatchN n s st ow):GRel P B0 F0 D0 (gstate n st ow) env σ:=by
 unfold gmatchN at h;cases hb:Nat.beq s.env.length n with
 |false=>rw[hb] at h;exact h.elim
 |true =>
  rw[hb] at h;have hl:env.length=n:=by
   rw[←Nat.eq_of_beq_eq_true hb];obtain⟨_,_,_,_,_,hG⟩:=hR;exact hG.env.length.symm
  rw[←hl];exact gmatch_soundE hR h
theorem gsegs_sound {C:Cx}(hcs:COk P C) {B0 F0 D0:Heap}:∀ (segs:List DSeg) {s:St}{env:Env}{σ:Heap},GRel P B0 F0 D0 s env σ→∀ {K:St→Prop},gsegs C segs s K→∀ {R:Env→Heap→Prop},(∀ s' env' σ',K s'→GRel P B0 F0 D0 s' env' σ'→R env' σ')→vsegs (semSpecs P) segs env σ R
 |[],s,env,σ,hR,K,h,R,hK=>hK s env σ h hR
 |.one o::r,s,env,σ,hR,K,h,R,hK=>by
  refine gops_sound hcs [o] hR (K:=fun s'=>gsegs C r s' K) h fun s' env' σ' h1 h2=>?_;exact gsegs_sound hcs r h2 h1 hK
 |.alts [l]::r,s,env,σ,hR,K,h,R,hK=>by
  simp only[gsegs] at h;cases hd:dquiet l with
  |false =>
   rw[hd] at h;simp only[_root_.cond_false] at h;cases hk:l.all (fun o=>o.kind==o.op.kind) with
   |false=>rw[hk] at h;exact h.elim
   |true =>
    rw[hk] at h;simp only[_root_.cond_true] at h;intro ops ho;obtain rfl:=List.mem_singleton.1 ho;obtain⟨B,F,pl,tb,hB,hG⟩:=hR;have one:∀ (j:Nat) (τ:Heap),([σ]:List Heap)[j]?=some τ→τ=σ:=fun j τ ht=>by
     cases j with
     |zero=>simpa using ht.symm
     |succ j=>simp at ht
    exact gopsD_sound hcs ops (fun o ho=>by simpa using List.all_eq_true.1 hk o ho) hB hG (hl:=1) (chg:=0) (A:=[]) (Rd:=[]) ⟨rfl,fun j τ _ ht=>one j τ ht,(fun c hc=>absurd hc (by simp)),fun j τ q i ht _ _ _=>by rw[one j τ ht]⟩ (pend:=[]) (pd:=[]) (fun c hc=>absurd hc (by simp)) (fun j τ ht _=>by rw[one j τ ht];exact hG.leB) (Nat.zero_le _) (Nat.succ_pos _) h fun s' env' σ' h1 h2=>⟨env',σ',.refl _ _ _,gsegs_sound hcs r h2 h1 hK⟩
  |true =>
   rw[hd] at h;refine seg_pureG (l:=l) hd ?_;exact gops_sound hcs _ hR h fun s' env' σ' h1 h2=>gsegs_sound hcs r h2 h1 hK
 |.alts []::r,s,env,σ,hR,K,h,R,hK=>h.elim
 |.alts (l::l2::ls)::r,s,env,σ,hR,K,h,R,hK=>by
  simp only[gsegs] at h;cases hk:(l::l2::ls).all (fun l=>l.all fun o=>o.kind==o.op.kind) with
  |false=>rw[hk] at h;exact h.elim
  |true =>
   rw[hk] at h;simp only[_root_.cond_true] at h;obtain⟨B,F,pl,tb,hB,hG⟩:=hR;have one:∀ (j:Nat) (τ:Heap),([σ]:List Heap)[j]?=some τ→τ=σ:=fun j τ ht=>by
    cases j with
    |zero=>simpa using ht.symm
    |succ j=>simp at ht
   have run:∀ l'∈l::l2::ls,∀ {K':St→Prop},gopsD C.nx l' s 1 0 [] [] K'→∀ {R':Env→Heap→Prop},(∀ s' env' σ',K' s'→GRel P B0 F0 D0 s' env' σ'→R' env' σ')→vopsDX (semSpecs P) l' env [σ] σ [] R':=fun l' hl' K' h' R' hK' =>
    gopsD_soundX hcs.nx rfl l' (fun o ho=>by simpa using List.all_eq_true.1 (List.all_eq_true.1 hk l' hl') o ho) hB hG (hl:=1) (chg:=0) (A:=[]) (Rd:=[]) ⟨rfl,fun j τ _ ht=>one j τ ht,(fun c hc=>absurd hc (by simp)),fun j τ q i ht _ _ _=>by rw[one j τ ht]⟩ (pend:=[]) (pd:=[]) (fun c hc=>absurd hc (by simp)) (fun j τ ht _=>by rw[one j τ ht];exact hG.leB) (Nat.zero_le _) (Nat.succ_pos _) h' hK'
   obtain⟨s0,h0,h1⟩:=vopsD_const (run l List.mem_cons_self h (R':=fun _ _=>∃ s0:St,_) fun s' _ _ h' _=>⟨s',h'⟩);obtain⟨h2,h3⟩:=galts_inv _ h1;intro ops ho;rcases List.mem_cons.1 ho with rfl|ho'
   ·refine vopsDX_imp ?_;exact run ops ho h fun s' env' σ' h' hR'=>⟨env',σ',.refl _ _ _,by
     obtain⟨k1,k2⟩:=h';exact gsegs_sound hcs r (gmatchN_sound hR' k1) (galts_inv _ k2).2 hK⟩
   ·refine vopsDX_imp ?_;exact run ops ho (h2 ops ho') fun s' env' σ' h' hR'=>⟨env',σ',.refl _ _ _,gsegs_sound hcs r (gmatchN_sound hR' h') h3 hK⟩
theorem zipG_keys:∀ (l:List Nat) (vs:List SV),(zipG l vs).map (·.1)=l
 |[],_=>rfl
 |j::js,[]=>by simp[zipG,zipG_keys js []]
 |j::js,v::vs=>by simp[zipG,zipG_keys js vs]
theorem gsetPs_sound {B:Heap}{pl:Nat→Value}{tb:Nat→Option Bool}:∀ {ps:List Nat}{xs:List SV}{us:List Value}{e:List SV}{env:Env},SRs P B pl tb xs us→SRs P B pl tb e env→SRs P B pl tb (gsetPs e ps xs) (setPs env ps us)
 |[],xs,us,e,env,_,h=>by simpa [gsetPs,setPs] using h
 |p::ps,[],us,e,env,hx,h=>by
  simp only[SRs] at hx;subst hx;simpa [gsetPs,setPs] using h
 |p::ps,x::xs,us,e,env,hx,h=>by
  simp only[SRs] at hx;obtain⟨u,us',rfl,h1,h2⟩:=hx;simp only[gsetPs,setPs];exact gsetPs_sound h2 (h.set p h1)
def InLpF (F0:Heap):Option Nat→Prop
 |none=>True
 |some i=>∃ env r st pend,F0.get i=some (.obj (.lp env r st pend) true)
theorem Gam.dropLp {B F:Heap}{pl:Nat→Value}{tb:Nat→Option Bool}{s:St}{env:Env}{σ:Heap}(hG:Gam P B F pl tb s env σ) {o:Nat}{l:List SV}{q:LpD}{u:LpS}(ho:oget s.own o=.lpf l q u) (hl:u.live=true) :
  Gam P B F pl tb ⟨l,oset s.own o .dead,s.nx⟩ q.vals (σ.kill q.i)∧σ.get q.i=some (.obj (.lp q.vals q.r u.st u.pend) true):=by
 have hob:=hG.obj o;rw[ho] at hob;obtain⟨h1,h2,h3⟩:=hob;have hol:(oget s.own o).live=true:=by rw[ho];exact hl
 have hoi:Oid (pl o) q.i:=by rw[h1];rfl
 have hF:=hG.fresh o q.i hol hoi;have lv:∀ d,(oget (oset s.own o .dead) d).live=true→d≠o∧(oget s.own d).live=true:=fun d h=>by
  rw[oget_oset] at h;by_cases e:d=o
  ·rw[if_pos e] at h;cases h
  ·rw[if_neg e] at h;exact⟨e,h⟩
 refine⟨⟨hG.bf,⟨hG.le.1,fun j b hb=>?_⟩,h2,fun d=>?_,fun d i hd hi=>hG.fresh d i (lv d hd).2 hi,fun d d' i e h h'=>hG.sep d d' i e (lv d h).2 (lv d' h').2,hG.free⟩,h3 hl⟩
 ·have e:j≠q.i:=by rintro rfl;rw[hF] at hb;cases hb
  rw[Heap.get_kill_ne _ e];exact hG.le.2 _ _ hb
 ·rw[oget_oset];by_cases e:d=o
  ·rw[if_pos e];trivial
  ·rw[if_neg e];refine (hG.obj d).mono (.refl _) (fun _ _ h=>h) fun hd i hi=>?_;have:i≠q.i:=by rintro rfl;exact hG.sep d o q.i e hd hol hi hoi
   exact Heap.get_kill_ne _ this
theorem make_own2 (s:St) (o:Nat) (b:OB) (j:Nat):oget (s.make o b).own j=if j=o then b else (oget s.own j).kill o:=by
 simp only[St.make,oget_oset];by_cases h:j=o
 ·subst h;simp
 ·simp only[h,if_false,St.kill,oget_okill]
theorem Gam.enterLp {B F:Heap}{pl:Nat→Value}{tb:Nat→Option Bool}{s:St}{env:Env}{σ:Heap}(hG:Gam P B F pl tb s env σ) {o key2:Nat}{l:List SV}{q:LpD}(ho:oget s.own o=.lpf l q .rdy) (hne:o≠key2)
  {args:List SV}{us:List Value}(hargs:SRs P B pl tb args us) (ps:List Nat) :
  Gam P B (F.ins σ q.i hG.le.1) (updP pl key2 poison) tb ⟨gsetPs (SVs.kill key2 l) ps (SVs.kill key2 args),oset (gstk key2 env s).own o (.lpf (SVs.kill key2 l) q .busy),s.nx⟩ (setPs q.vals ps us) σ:=by
 have q3:Gam P B F (updP pl key2 poison) tb (gstk key2 env s) env σ:=by
  refine hG.make key2 _ poison hG.le (fun _ _ _ _ _=>rfl) ?_ (fun i hl _=>by cases hl)
  exact SRs.upd (.refl _) (fun _ _ h=>h) (fun j hj=>by simp[updP,hj]) _ _ hG.env
 have hob:=hG.obj o;rw[ho] at hob;obtain⟨h1,h2,h3⟩:=hob;have hol:(oget s.own o).live=true:=by rw[ho];rfl
 have hpo:updP pl key2 poison o=.pointer (some ⟨q.i,0,none⟩):=by simp[updP,hne,h1]
 have ho3:oget (gstk key2 env s).own o=.lpf (SVs.kill key2 l) q .rdy:=by
  have:=make_own2 s key2 (.stk (SVs.kill key2 s.env) env) o;unfold gstk;rw[this,if_neg hne,ho];rfl
 have hol3:(oget (gstk key2 env s).own o).live=true:=by rw[ho3];rfl
 have hoi:Oid (updP pl key2 poison o) q.i:=by rw[hpo];rfl
 have hF:=q3.fresh o q.i hol3 hoi;have hl2:SRs P B (updP pl key2 poison) tb (SVs.kill key2 l) q.vals:=SRs.upd (.refl _) (fun _ _ h=>h) (fun j hj=>by simp[updP,hj]) _ _ h2
 have ha2:SRs P B (updP pl key2 poison) tb (SVs.kill key2 args) us:=SRs.upd (.refl _) (fun _ _ h=>h) (fun j hj=>by simp[updP,hj]) _ _ hargs
 have lv:∀ d,(oget (oset (gstk key2 env s).own o (.lpf (SVs.kill key2 l) q .busy)) d).live=true→d≠o∧(oget (gstk key2 env s).own d).live=true:=fun d h=>by
  rw[oget_oset] at h;by_cases e:d=o
  ·rw[if_pos e] at h;cases h
  ·rw[if_neg e] at h;exact⟨e,h⟩
 refine⟨q3.bf.trans (hG.le.ins _),hG.le.ins_le _,gsetPs_sound ha2 hl2,fun d=>?_,fun d i hd hi=>?_,fun d d' i e h h'=>q3.sep d d' i e (lv d h).2 (lv d' h').2,q3.free⟩
 ·show OR P B _ tb σ _ (oget (oset _ o _) d)
  rw[oget_oset];by_cases e:d=o
  ·subst e;rw[if_pos rfl];exact⟨hpo,hl2,fun h=>by cases h⟩
  ·rw[if_neg e];exact q3.obj d
 ·obtain⟨e,hd'⟩:=lv d hd;have:i≠q.i:=by rintro rfl;exact q3.sep d o q.i e hd' hol3 hi hoi
  rw[Heap.ins_ne _ _ _ this];exact q3.fresh d i hd' hi
theorem Gam.leaveLp {B F:Heap}{pl:Nat→Value}{tb:Nat→Option Bool}{s:St}{env:Env}{σ:Heap}(hG:Gam P B F pl tb s env σ) {o key2:Nat}{l l2:List SV}{vs2:List Value}{q:LpD}{b0:Blk}(hF:F.get q.i=some b0) (hB:B.get q.i=none)
  (h2:oget s.own key2=.stk l2 vs2) (ho:oget s.own o=.lpf l q .busy) (u:LpS) :
  Gam P B (F.kill q.i) pl tb ⟨l2,oset (oset s.own key2 .dead) o (.lpf l q u),s.nx⟩ vs2 (σ.upd q.i (.obj (.lp q.vals q.r u.st u.pend) true)):=by
 have hob:=hG.obj o;rw[ho] at hob;obtain⟨k1,k2,_⟩:=hob;have hk:=hG.obj key2;rw[h2] at hk;have hi:q.i<σ.n:=σ.lt (hG.le.2 _ _ hF);have hne:∀ {d i},(oget s.own d).live=true→Oid (pl d) i→i≠q.i:=fun h1 h2 e=>by
  have:=hG.fresh _ _ h1 h2;subst e;rw[hF] at this;cases this
 have hoi:∀ i,Oid (pl o) i→i=q.i:=fun i h=>by rw[k1] at h;exact(osj h).symm
 have hg:∀ d,oget (oset (oset s.own key2 .dead) o (.lpf l q u)) d=if d=o then .lpf l q u else if d=key2 then .dead else oget s.own d:=fun d=>by rw[oget_oset,oget_oset]
 have lv:∀ d,d≠o→(oget (oset (oset s.own key2 .dead) o (.lpf l q u)) d).live=true→(oget s.own d).live=true:=fun d e h=>by
  rw[hg,if_neg e] at h;split at h
  ·cases h
  ·exact h
 refine⟨⟨hG.bf.1,fun j b hb=>?_⟩,⟨hG.le.1,fun j b hb=>?_⟩,hk,fun d=>?_,fun d i hd hi'=>?_,fun d d' i e h h' h1 h1'=>?_,hG.free⟩
 ·have e:j≠q.i:=by rintro rfl;rw[hB] at hb;cases hb
  rw[Heap.get_kill_ne _ e];exact hG.bf.2 _ _ hb
 ·by_cases e:j=q.i
  ·subst e;rw[Heap.get_kill_self] at hb;cases hb
  ·rw[Heap.get_kill_ne _ e] at hb;rw[Heap.get_upd_ne _ _ e];exact hG.le.2 _ _ hb
 ·show OR P B pl tb _ _ (oget (oset _ o _) d)
  rw[hg];by_cases e:d=o
  ·subst e;rw[if_pos rfl];exact⟨k1,k2,fun _=>Heap.get_upd_self _ _ hi⟩
  ·rw[if_neg e];split
   ·trivial
   ·exact(hG.obj d).mono (.refl _) (fun _ _ h=>h) fun hd i hi=>Heap.get_upd_ne _ _ (hne hd hi)
 ·by_cases e:d=o
  ·subst e;rw[hoi i hi'];exact Heap.get_kill_self _ _
  ·rw[Heap.get_kill_ne _ (hne (lv d e hd) hi')];exact hG.fresh d i (lv d e hd) hi'
 ·by_cases e1:d=o
  ·subst e1;have e2:d'≠d:=fun h=>e h.symm;exact hne (lv d' e2 h') h1' (hoi i h1)
  ·by_cases e2:d'=o
   ·subst e2;exact hne (lv d e1 h) h1 (hoi i h1')
   ·exact hG.sep d d' i e (lv d e1 h) (lv d' e2 h') h1 h1'
theorem gwp_sound {C:Cx}(hcs:COk P C) {L:List (Nat×LoopAnn)}(vc:VCode):∀ {B0 F0 D0:Heap}(n:Nat) (K:Exit→St→Prop) (s:St) (env:Env) (σ:Heap) (ro:Option Nat) (Q:Exit→Env→Heap→Prop),InLpF F0 ro→GRel P B0 F0 D0 s env σ→gwp C L vc n K s→(∀ e s' env' σ',K e s'→GRel P B0 F0 D0 s' env' σ'→Q e env' σ')→vwp (semSpecs P) vc ro Q env σ:=by
 induction vc with
 |skip=>intro B0 F0 D0 n K s env σ ro Q hro hR h hK;exact hK _ _ _ _ h hR
 |region ops=>intro B0 F0 D0 n K s env σ ro Q hro hR h hK;exact gops_sound hcs ops hR h fun s' env' σ' h1 h2=>hK _ _ _ _ h1 h2
 |regionD segs=>intro B0 F0 D0 n K s env σ ro Q hro hR h hK;exact gsegs_sound hcs segs hR h fun s' env' σ' h1 h2=>hK _ _ _ _ h1 h2
 |rangeF g ps a b iha ihb =>
  intro B0 F0 D0 n K s env σ ro Q hro hR h hK;simp only[gwp] at h;split at h
  ·rename_i f first caps hg
   split at h
   ·
    rename_i x hx;obtain⟨B,F,pl,tb,hB,hG⟩:=hR;have hgv:=hG.evs (Gds.nil (tb:=tb)) g;rw[hg] at hgv;simp only[SR] at hgv;obtain⟨x',y',hge,hfirst,hcaps⟩:=hgv;obtain⟨hent,hix⟩:=hcs.iy f x hx;show vwp (semSpecs P) (.rangeF g ps a b) ro Q env σ
    simp only[vwp,vrange,hge];have hitS:(semSpecs P).it f=some fun i Y args σ K=>OkYield P i Y→VCallsTo P f args σ K:=by
     simp only[semSpecs];rw[if_pos hent]
    rw[hitS];refine⟨?_,fun r hY=>?_⟩
    ·cases ro with
     |none=>trivial
     |some i =>
      obtain⟨e1,r1,st1,pe1,hi⟩:=hro;exact⟨e1,r1,st1,pe1,hG.le.2 _ _ (hB.f.2 _ _ hi)⟩
    generalize hoo:C.off+2000000+n=o at h;generalize hkk:100000*(o+1)-1=key2 at h;have hok:o≠key2:=by omega
    let q:LpD:=⟨σ.n,env,r⟩
    let rdy:Blk:=.obj (.lp env r .ready none) true
    let bsy:Blk:=.obj (.lp env r .busy none) true
    let p0:Value:=.pointer (some ⟨σ.n,0,none⟩)
    have hpush:Gam P B F (updP pl o p0) tb (glpf o q s) env (σ.push rdy):=by
     refine hG.push o (.lpf (SVs.kill o s.env) q .rdy) p0 rdy rfl ⟨rfl,SRs.upd (.refl _) (fun _ _ h=>h) (fun j hj=>by simp[updP,hj]) _ _ hG.env,fun _=>Heap.get_push_self _ _⟩
    have kl:∀ {xs us},SRs P B pl tb xs us→SRs P B (updP pl o p0) tb (SVs.kill o xs) us:=fun h=>SRs.upd (.refl _) (fun _ _ h=>h) (fun j hj=>by simp[updP,hj]) _ _ h
    have hargs:SRs P B (updP pl o p0) tb (SVs.kill o first++(.dd o .yv::SVs.kill o caps)) (x'++(.func (.yield σ.n) #[] #[]::y')):=by
     refine (kl hfirst).append ?_;simp only[SRs,SR,DR];exact⟨_,_,rfl,⟨σ.n,by simp[updP,p0],rfl⟩,kl hcaps⟩
    have hYO:YldOk P o (gyield o key2 ps.length q (fun K' s'=>gwp C L a n (gseqK (fun s3=>gwp C L b n K' s3) fun _ _=>False) s') ps):=by
     intro B F pl tb s env' σ args us K R i hG ha hy hpo hK;unfold gyield at hy;split at hy
     ·rename_i l q' u ho;split at hy
      ·cases hlen:Nat.beq args.length ps.length with
       |false=>rw[hlen] at hy;exact hy.elim
       |true =>
       rw[hlen] at hy;simp only[_root_.cond_true] at hy;obtain⟨rfl,hy⟩:=hy;have hob:=hG.obj o;rw[ho] at hob;have hi:i=q.i:=by
        have h1:=hob.1;rw[hpo] at h1;have:=osj (Value.pointer.inj h1);exact(Addr.mk.inj this).1
       subst hi;have hrd:σ.get q.i=some rdy:=hob.2.2 rfl;have hol:(oget s.own o).live=true:=by rw[ho];rfl
       have hFi:F.get q.i=none:=hG.fresh o q.i hol (by rw[hob.1];rfl)
       have hBi:B.get q.i=none:=by
        cases hb:B.get q.i with
        |none=>rfl
        |some b=>rw[hG.bf.2 _ _ hb] at hFi;cases hFi
       have hent2:=hG.enterLp ho hok ha ps;have hFr:(F.ins σ q.i hG.le.1).get q.i=some rdy:=by rw[Heap.ins_self];exact hrd
       have hFrn:(F.ins σ q.i hG.le.1).n=σ.n:=rfl;have hin:q.i<σ.n:=σ.lt hrd;refine hY us σ R ⟨hrd,by rw[←ha.length];exact(Nat.eq_of_beq_eq_true hlen),?_⟩
       refine iha (B0:=B) (F0:=F.ins σ q.i hG.le.1) (D0:=σ) n _ _ _ σ (some q.i) _ ⟨env,r,_,_,hFr⟩ ⟨B,_,_,tb,.of hent2.bf (Dead.refl _),hent2⟩ (hy env') fun e s3 env3 σ3 h7 h8=>?_;cases e with
       |normal =>
        have hr3:σ3.get q.i=some rdy:=by
         obtain⟨B',F',pl',tb',q1,q2⟩:=h8;exact q2.le.2 _ _ (q1.f.2 _ _ hFr)
        refine⟨hr3,?_⟩;have h9:=h8.lpUpd (b:=bsy) hFr hBi;have hFb:((F.ins σ q.i hG.le.1).upd q.i bsy).get q.i=some bsy:=Heap.get_upd_self _ _ (by rw[hFrn];exact hin)
        refine ihb (B0:=B) (F0:=(F.ins σ q.i hG.le.1).upd q.i bsy) (D0:=σ) n _ _ _ _ (some q.i) _ ⟨env,r,_,_,hFb⟩ h9 h7 fun e s4 env4 σ4 h10 h11=>?_;obtain⟨B',F',pl',tb',q1,q2⟩:=h11;have hF4:=q1.f.2 _ _ hFb;have hB4:=q1.x _ _ hFb hBi;have hb4:σ4.get q.i=some bsy:=q2.le.2 _ _ hF4;unfold gyK at h10;split at h10
        ·rename_i l2 vs2 l3 q3 u3 hk2 ho4;split at h10
         ·obtain⟨rfl,rfl,h10⟩:=h10;have base:∀ b,GBase B F σ B' (F'.kill q.i) (σ4.upd q.i b):=fun b=>by
           refine⟨q1.b,⟨?_,fun j c hc=>?_⟩,fun j c h1 h2=>?_,q1.d.trans (Dead.upd _ _ _ (by rw[hb4];rfl))⟩
           ·have h1:=q1.f.1;have h2:=hG.le.1;show F.n≤F'.n
            have h3:((F.ins σ q.i hG.le.1).upd q.i bsy).n=σ.n:=rfl;omega
           ·have e:j≠q.i:=by rintro rfl;rw[hFi] at hc;cases hc
            rw[Heap.get_kill_ne _ e];refine q1.f.2 _ _ ?_;rw[Heap.get_upd_ne _ _ e,Heap.ins_ne _ _ _ e];exact hc
           ·have e:j≠q.i:=by rintro rfl;rw[hFi] at h1;cases h1
            refine q1.x j c ?_ h2;rw[Heap.get_upd_ne _ _ e,Heap.ins_ne _ _ _ e];exact h1
          refine⟨hb4,?_⟩;cases e with
          |normal=>exact hK _ _ B' _ pl' tb' _ _ h10 (base _) (q2.leaveLp hF4 hB4 hk2 ho4 .rdy) (by simp[SR,KC])
          |ret=>exact hK _ _ B' _ pl' tb' _ _ h10 (base _) (q2.leaveLp hF4 hB4 hk2 ho4 .ret) (by simp[SR,KC])
          |exit id=>exact hK _ _ B' _ pl' tb' _ _ h10 (base _) (q2.leaveLp hF4 hB4 hk2 ho4 (.exit id)) (by simp[SR,KC])
          |_=>exact h10.elim
         ·exact h10.elim
        ·exact h10.elim
       |_=>exact h7.elim
      ·exact hy.elim
     ·exact hy.elim
    have hrun:=hix B F _ tb _ env (σ.push rdy) o _ _ _ (gyEnd o q K) (fun τ=>endR Q env σ.n poison τ) hpush hargs hYO (h q) fun s' B' F' pl' tb' env' σ' hk hb hg'=>by
     unfold gyEnd at hk;split at hk
     ·rename_i l q' u ho;have fin:∀ {e:Exit},u.live=true→q'=q→K e ⟨l,oset s'.own o .dead,s'.nx⟩→Q e env (σ'.kill σ.n)∧σ'.get σ.n=some (.obj (.lp env r u.st u.pend) true):=fun {e} hu hq hKe=>by
       subst hq;obtain⟨g1,g2⟩:=hg'.dropLp ho hu;refine⟨hK _ _ _ _ hKe ⟨B',F',pl',tb',⟨hB.b.trans hb.b,hB.f.trans hb.f,fun j c h1 h2=>hb.x j c (hB.f.2 _ _ h1) (hB.x j c h1 h2),hB.d.trans ((Dead.push _ _).trans (hb.d.trans (Dead.kill _ _)))⟩,g1⟩,g2⟩
      cases u with
      |busy=>exact hk.elim
      |rdy =>
       obtain⟨hq,hk⟩:=hk;obtain⟨k1,k2⟩:=fin rfl hq hk;unfold endR;rw[k2];exact⟨(by intro h;cases h),k1⟩
      |ret =>
       obtain⟨hq,hk⟩:=hk;obtain⟨k1,k2⟩:=fin rfl hq hk;unfold endR;rw[k2];exact⟨(by intro h;cases h),k1⟩
      |exit id =>
       obtain⟨hq,hk⟩:=hk;obtain⟨k1,k2⟩:=fin rfl hq hk;unfold endR;rw[k2];exact⟨(by intro h;cases h),k1⟩
     ·exact hk.elim
    refine VCallsTo.mono (R:=fun _ τ=>endR Q env σ.n poison τ) (by simpa using hrun) fun v τ h=>h
   split at h
   rotate_left
   ·exact h.elim
   split at h
   ·rename_i it s1 caps' A hit hfrz hA;split at h
    ·rename_i c m ar xs hc;cases hps:Nat.beq ps.length ar with
     |false=>rw[hps] at h;exact h.elim
     |true =>
     rw[hps] at h;simp only[_root_.cond_true] at h;obtain⟨hcc,p,d0,hm0,I,hI0,hIs,hIe⟩:=h;have hps:=Nat.eq_of_beq_eq_true hps;have hlen:s.env.length=env.length:=by obtain⟨B,F,pl,tb,_,hG⟩:=hR;exact hG.env.length
     rw[hlen] at hIs hIe;have hR0:=hR;obtain⟨B,F,pl,tb,hB,hG⟩:=hR;have hgv:=hG.evs Gds.nil g;rw[hg] at hgv;simp only[SR] at hgv;obtain⟨x,y,hge,hx,hy⟩:=hgv;simp only[SRs] at hx;subst hx;obtain⟨B1,F1,hB1,hG1,hcv,he1⟩:=gfrz_sound hG hy hfrz;obtain⟨hent,hitk⟩:=hcs.it f it hit;obtain⟨harl,hits⟩:=hitk B1 caps' y c m ar xs hcv hc hcc
     have hR1:GRel P B1 F1 D0 (gstate (List.length env) (A.st p d0) (A.own p d0)) env σ:=gmatch_soundE ⟨B1,F1,pl,tb,⟨.refl _,.refl _,fun _ _ _ h=>h,(hB.trans hB1).d⟩,hG1⟩ hm0;have hBn:B1.get σ.n=none:=B1.wf _ hG1.leB.1;have hFn:F1.get σ.n=none:=F1.wf _ hG1.le.1;show vwp (semSpecs P) (.rangeF g ps a b) ro Q env σ
     simp only[vwp,vrange,hge];have hitS:(semSpecs P).it f=some fun i Y args σ K=>OkYield P i Y→VCallsTo P f args σ K:=by
      simp only[semSpecs];rw[if_pos hent]
     rw[hitS];refine⟨?_,fun r hY=>?_⟩
     ·cases ro with
      |none=>trivial
      |some i =>
       obtain⟨e1,r1,st1,pe1,hi⟩:=hro;exact⟨e1,r1,st1,pe1,hG.le.2 _ _ (hB.f.2 _ _ hi)⟩
     ·let rdy:Blk:=.obj (.lp env r .ready none) true
      let bsy:Blk:=.obj (.lp env r .busy none) true
      have hF1le:F1.Le (σ.push rdy):=hG1.le.push rdy
      let Fr:=F1.ins (σ.push rdy) σ.n hF1le.1
      have hFr:Fr.get σ.n=some rdy:=by
       show (F1.ins _ _ _).get σ.n=_
       rw[Heap.ins_self,Heap.get_push_self]
      have hFrn:Fr.n=σ.n+1:=rfl;have hF1r:F1.Le Fr:=hF1le.ins σ.n
      let J:Nat→Heap→Prop:=fun k τ=>∃ d,I k d∧GRel P B1 Fr D0 (gstate (List.length env) (A.st p d) (A.own p d)) env τ
      let E:Heap→Prop:=fun τ=>∃ cd e,τ.get σ.n=some (.obj (.lp env r .done (some cd)) true)∧((cd=.ret∧e=Exit.ret)∨∃ id,cd=.exit id∧e=Exit.exit id)∧Q e env (τ.kill σ.n)
      have back:∀ {s':St}{τ:Heap},GRel P B1 (Fr.upd σ.n bsy) D0 s' env τ→∀ b,GRel P B1 ((Fr.upd σ.n bsy).upd σ.n b) D0 s' env (τ.upd σ.n b):=fun h b =>
       h.lpUpd (b0:=bsy) (Heap.get_upd_self _ _ (by rw[hFrn];omega)) hBn
      have kill0:∀ {Fx:Heap}{b0:Blk}{s':St}{τ:Heap},Fx.get σ.n=some b0→(∀ i,i≠σ.n→Fx.get i=F1.get i)→Fx.n=σ.n+1→GRel P B1 Fx D0 s' env τ→GRel P B0 F0 D0 s' env (τ.kill σ.n):=fun {Fx b0 s' τ} h1 h2 h3 h4=>by
       refine (h4.lpKill h1 hBn).base (hB.b.trans hB1.b) ⟨?_,fun i b hb=>?_⟩ fun i b k1 k2=>(hB.trans hB1).x i b k1 k2
       ·show F0.n≤Fx.n
        rw[h3];have:=(hB.trans hB1).f.1;have:=hG1.le.1;omega
       ·have hb1:=(hB.trans hB1).f.2 _ _ hb;have e:i≠σ.n:=by rintro rfl;rw[hFn] at hb1;cases hb1
        rw[Heap.get_kill_ne _ e,h2 i e];exact hb1
      have Frne:∀ i,i≠σ.n→Fr.get i=F1.get i:=fun i e=>Heap.ins_ne _ _ _ e;have hrun:=hits σ.n _ J E (σ.push rdy) hY (fun k τ ⟨d,_,hd⟩=>?_) (fun k us τ hk ⟨d,hId,hd⟩ hus=>?_) ⟨d0,hI0,?_⟩
      ·refine VCallsTo.mono (R:=fun _ τ=>J m τ∨E τ) (by simpa using hrun) fun v τ hjt=>?_
       unfold endR;rcases hjt with⟨d,hId,hd⟩|⟨cd,e,h1,h2,h3⟩
       ·have hrd:τ.get σ.n=some rdy:=by
         obtain⟨B',F',pl',tb',q1,q2⟩:=hd;exact q2.le.2 _ _ (q1.f.2 _ _ hFr)
        rw[hrd];exact⟨(by intro h;cases h),hK _ _ _ _ (hIe d hId) (kill0 hFr Frne hFrn hd)⟩
       ·rw[h1];refine⟨(by intro h;cases h),?_⟩
        rcases h2 with⟨rfl,rfl⟩|⟨id,rfl,rfl⟩<;>exact h3
      ·obtain⟨B',F',pl',tb',q1,q2⟩:=hd;exact q1.b.trans q2.leB
      ·
       have hrd:τ.get σ.n=some rdy:=by
        obtain⟨B',F',pl',tb',q1,q2⟩:=hd;exact q2.le.2 _ _ (q1.f.2 _ _ hFr)
       refine⟨hrd,by rw[hps,←(harl k).1,hus.length],?_⟩
       have hF:=hIs k d hk hId env;have hst:GRel P B1 Fr D0 ⟨gsetPs (gstk (2000000+n) env (gstate (List.length env) (A.st p d) (A.own p d))).env ps (xs k),(gstk (2000000+n) env (gstate (List.length env) (A.st p d) (A.own p d))).own,0⟩ (setPs env ps us) τ:=by
        obtain⟨B',F',pl',tb',q1,q2⟩:=hd;have q3:Gam P B' F' (updP pl' (2000000+n) poison) tb' (gstk (2000000+n) env (gstate (List.length env) (A.st p d) (A.own p d))) env τ:=by
         refine q2.make (2000000+n) _ poison q2.le (fun _ _ _ _ _=>rfl) ?_ (fun i hl _=>by cases hl)
         exact SRs.upd (.refl _) (fun _ _ h=>h) (fun j hj=>by simp[updP,hj]) _ _ q2.env
        refine⟨B',F',updP pl' (2000000+n) poison,tb',q1,⟨q3.bf,q3.le,gsetPs_sound ?_ q3.env,q3.obj,q3.fresh,q3.sep,?_⟩⟩
        ·exact SRs.mono q1.b (fun _ _ h=>h) _ _ (pures_sound _ _ (harl k).2 hus)
        ·exact q3.free
       refine iha (B0:=B1) (F0:=Fr) n _ _ _ τ (some σ.n) _ ⟨env,r,_,_,hFr⟩ hst hF fun e s3 env3 σ3 h7 h8=>?_;cases e with
       |normal =>
        have hr3:σ3.get σ.n=some rdy:=by
         obtain⟨B',F',pl',tb',q1,q2⟩:=h8;exact q2.le.2 _ _ (q1.f.2 _ _ hFr)
        refine⟨hr3,?_⟩;have h9:=h8.lpUpd (b:=bsy) hFr hBn;have hFb:(Fr.upd σ.n bsy).get σ.n=some bsy:=Heap.get_upd_self _ _ (by rw[hFrn];omega)
        refine ihb (B0:=B1) (F0:=Fr.upd σ.n bsy) n _ _ _ _ (some σ.n) _ ⟨env,r,_,_,hFb⟩ h9 h7 fun e s4 env4 σ4 h10 h11=>?_;have hb4:σ4.get σ.n=some bsy:=by
         obtain⟨B',F',pl',tb',q1,q2⟩:=h11;exact q2.le.2 _ _ (q1.f.2 _ _ hFb)
        have hn4:σ.n<σ4.n:=σ4.lt hb4;unfold grangeK at h10;split at h10
        ·rename_i l vs hstk;obtain⟨rfl,h10⟩:=h10;have hfr:GRel P B1 (Fr.upd σ.n bsy) D0 ⟨l,s4.own,s4.nx⟩ vs σ4:=by
          obtain⟨B',F',pl',tb',q1,q2⟩:=h11;have:=q2.obj (2000000+n);rw[hstk] at this;exact⟨B',F',pl',tb',q1,q2.bf,q2.le,this,q2.obj,q2.fresh,q2.sep,q2.free⟩
         have fupd:∀ b,((Fr.upd σ.n bsy).upd σ.n b).get σ.n=some b:=fun b=>Heap.get_upd_self _ _ (by show σ.n<Fr.n;rw[hFrn];omega)
         have fne:∀ b i,i≠σ.n→((Fr.upd σ.n bsy).upd σ.n b).get i=F1.get i:=fun b i e=>by rw[Heap.get_upd_ne _ _ e,Heap.get_upd_ne _ _ e,Frne i e]
         refine⟨hb4,?_⟩;cases e with
         |normal =>
          obtain⟨d',h12,h13⟩:=h10;refine .inl ⟨rfl,d',h13,?_⟩;have:=(back (gmatch_soundE hfr h12) rdy).base (B0:=B1) (F0:=Fr) (.refl _) ⟨Nat.le_refl _,fun i b hb=>?_⟩ fun i b k1 k2=>k2
          ·exact this
          ·by_cases e:i=σ.n
           ·subst e;rw[hFr] at hb;rw[fupd];exact hb
           ·rw[fne _ _ e,←Frne i e];exact hb
         |ret =>
          refine .inr ⟨rfl,_,_,Heap.get_upd_self _ _ hn4,.inl ⟨rfl,rfl⟩,hK _ _ _ _ h10 (kill0 (fupd _) (fne _) (by show Fr.n=_;exact hFrn) (back hfr _))⟩
         |exit id =>
          refine .inr ⟨rfl,_,_,Heap.get_upd_self _ _ hn4,.inr ⟨id,rfl,rfl⟩,hK _ _ _ _ h10 (kill0 (fupd _) (fne _) (by show Fr.n=_;exact hFrn) (back hfr _))⟩
         |_=>exact h10.elim
        ·exact h10.elim
       |_=>exact h7.elim
      ·
       obtain⟨B',F',pl',tb',q1,q2⟩:=hR1;have hle:F'.Le (σ.push rdy):=q2.le.push rdy;have hFn':F'.get σ.n=none:=F'.wf _ q2.le.1;have hob:∀ d i,(oget (gstate (List.length env) (A.st p d0) (A.own p d0)).own d).live=true→Oid (pl' d) i→i<σ.n:=fun d i h1 h2=>(q2.obj d).id_lt h1 h2
       refine⟨B',F'.ins (σ.push rdy) σ.n hle.1,pl',tb',⟨q1.b,Heap.ins_ins q1.f _ _ _,fun i b k1 k2=>?_,q1.d.trans (Dead.push _ _)⟩,⟨q2.bf.trans (hle.ins _),hle.ins_le _,q2.env,fun d=>(q2.obj d).mono (.refl _) (fun _ _ h=>h) fun h1 i h2=>Heap.get_push_lt _ _ (hob d i h1 h2),fun d i h1 h2=>?_,q2.sep,q2.free⟩⟩
       ·by_cases e:i=σ.n
        ·subst e;exact B'.wf _ q2.leB.1
        ·rw[Frne i e] at k1;exact q1.x i b k1 k2
       ·rw[Heap.ins_ne _ _ _ (Nat.ne_of_lt (hob d i h1 h2))];exact q2.fresh d i h1 h2
    ·exact h.elim
   ·exact h.elim
  ·exact h.elim
 |bad=>intro B0 F0 D0 n K s env σ ro Q hro hR h hK;exact h.elim
 |ret=>intro B0 F0 D0 n K s env σ ro Q hro hR h hK;exact hK _ _ _ _ h hR
 |exit id=>intro B0 F0 D0 n K s env σ ro Q hro hR h hK;exact hK _ _ _ _ h hR
 |seq a b iha ihb =>
  intro B0 F0 D0 n K s env σ ro Q hro hR h hK;refine iha n _ s env σ ro _ hro hR h fun e s' env' σ' h1 h2=>?_;cases e with
  |normal=>exact ihb n K s' env' σ' ro Q hro h2 h1 hK
  |_=>exact hK _ _ _ _ h1 h2
 |cond c a b iha ihb =>
  intro B0 F0 D0 n K s env σ ro Q hro hR h hK;simp only[gwp] at h;split at h
  ·rename_i t ht;have hR0:=hR;obtain⟨B,F,pl,tb,hB,hG⟩:=hR;have:=gknown_sound hG ht;simp only[vwp,this,vcond];cases t with
   |true=>exact⟨fun _=>iha n K s env σ ro Q hro hR0 h hK,fun e=>by cases e⟩
   |false=>exact⟨(fun e=>by cases e),fun _=>ihb n K s env σ ro Q hro hR0 h hK⟩
  split at h
  ·rename_i t ht;obtain⟨B,F,pl,tb,hB,hG⟩:=hR;have:=asB_inv ht (hG.evs Gds.nil c);simp only[vwp,this,vcond];split at h
   ·rename_i A hA;obtain⟨p,I,hF,hI⟩:=h;have fin:∀ e s' env' σ',gcutK s.env.length A p I K e s'→GRel P B0 F0 D0 s' env' σ'→Q e env' σ':=fun e s' env' σ' h1 h2=>by
     cases e with
     |normal =>
      obtain⟨d,h3,h4⟩:=h1;exact hK _ _ _ _ (hI d h4) (gmatchN_sound h2 h3)
     |_=>exact hK _ _ _ _ h1 h2
    exact⟨fun e=>iha n _ s env σ ro Q hro ⟨B,F,pl,tb,hB,hG⟩ (hF.1 e) fin,fun e=>ihb n _ s env σ ro Q hro ⟨B,F,pl,tb,hB,hG⟩ (hF.2 e) fin⟩
   exact⟨fun e=>iha n K s env σ ro Q hro ⟨B,F,pl,tb,hB,hG⟩ (h.1 e) hK,fun e=>ihb n K s env σ ro Q hro ⟨B,F,pl,tb,hB,hG⟩ (h.2 e) hK⟩
  ·exact h.elim
 |block id b ih =>
  intro B0 F0 D0 n K s env σ ro Q hro hR h hK;refine ih id _ s env σ ro _ hro hR h fun e s' env' σ' h1 h2=>?_;cases e with
  |exit id' =>
   simp only[gblockK] at h1;simp only[blockK];split
   ·rename_i e;rw[if_pos e] at h1;exact hK _ _ _ _ h1 h2
   ·rename_i e;rw[if_neg e] at h1;exact hK _ _ _ _ h1 h2
  |_=>exact hK _ _ _ _ h1 h2
 |loop b ih =>
  intro B0 F0 D0 n K s env σ ro Q hro hR h hK;simp only[gwp] at h;split at h
  ·rename_i A hA;obtain⟨p,d0,h1,I,μ,h2,h3⟩:=h;have hlen:s.env.length=env.length:=by obtain⟨B,F,pl,tb,_,hG⟩:=hR;exact hG.env.length
   have hk:∀ d,(A.st p d).map (·.1)=A.sl:=fun d=>zipG_keys _ _;refine⟨A.sl,fun m vs σ'=>∃ d,I d∧μ d=m∧GRel P B0 F0 D0 (gstate s.env.length (A.st p d) (A.own p d)) (spreadE A.sl vs (List.replicate env.length poison)) σ',μ d0,⟨d0,h2,rfl,?_⟩,fun m vs σ' ⟨d,h4,h5,h6⟩=>?_⟩
   ·have:=gmatch_sound hR h1 s.env.length;rw[hk d0,hlen] at this;rw[hlen];exact this
   ·refine ih n _ _ _ σ' ro _ hro h6 (h3 d h4) fun e s' env' σ'' h7 h8=>?_;cases e with
    |normal =>
     simp only[gloopK] at h7;cases hlp:okLp s'.own with
     |false=>rw[hlp] at h7;exact h7.elim
     |true =>
     rw[hlp] at h7;obtain⟨d',h9,h10,h11⟩:=h7;refine⟨μ d',by omega,d',h10,rfl,?_⟩
     have:=gmatch_sound h8 h9 s.env.length;rw[hk d',hlen] at this;rw[hlen];exact this
    |_=>exact hK _ _ _ _ h7 h8
  ·exact h.elim
end
end Go.V
namespace Go.V
open Go
def gres1 (s:St):VResult→Option SV
 |.tmp t=>some (s.env.getD t .any)
 |.cell a agg size=>bif Nat.blt 0 size then gload s.own agg size (s.env.getD a .any) else none
def gresults (s:St) (rs:List VResult):Option SV :=
 match rs with
 |[r]=>gres1 s r
 |rs=>(rs.mapM (gres1 s)).map .tup
def radd (mp:List (Nat×Option Nat)) (j:Nat) (a:Option Nat):Option (List (Nat×Option Nat)) :=
 if (alook mp j).isSome then none else match a with
 |some x=>if mp.any fun p=>p.2==some x then none else some (mp++[(j,a)])
 |none=>some (mp++[(j,a)])
mutual
def rmap:SV→SV→List (Nat×Option Nat)→Option (List (Nat×Option Nat))
 |.lst j,v,mp=>match v with|.lst a=>radd mp j (some a)|.nilS=>radd mp j none|_=>none
 |.map j,v,mp=>match v with|.map a=>radd mp j (some a)|_=>none
 |.dd j w,v,mp=>match w with
  |.out=>(match v with
   |.dd a w'=>(match w' with|.out=>radd mp j (some a)|_=>none)
   |.nilS=>radd mp j none
   |_=>none)
  |_=>none
 |.box j _,v,mp=>match v with|.box a _=>radd mp j (some a)|_=>none
 |.agg l,v,mp=>match v with|.agg l'=>rmaps l l' mp|_=>none
 |.tup l,v,mp=>match v with|.tup l'=>rmaps l l' mp|_=>none
 |.any,_,mp=>some mp
 |.val _ _,_,mp=>some mp
 |.nilS,_,mp=>some mp
 |.nilP,_,mp=>some mp
 |.nilM,_,mp=>some mp
 |.nilF,_,mp=>some mp
 |.sub _ _ _ _,_,_|.elp _ _ _ _,_,_|.grd _ _,_,_|.cp _ _,_,_|.fn _ _ _,_,_|.rop _ _ _ _,_,_|.pf _ _ _ _,_,_|.bid _ _,_,_=>none
def rmaps:List SV→List SV→List (Nat×Option Nat)→Option (List (Nat×Option Nat))
 |[],_,mp=>some mp
 |s::ss,l,mp=>match l with
  |v::vs=>match rmap s v mp with|some mp=>rmaps ss vs mp|none=>none
  |[]=>none
end
def gobsR (s:St) (mp:List (Nat×Option Nat)):Nat→List OB→Prop
 |_,[]=>True
 |j,b::r=>obEq s mp j b∧gobsR s mp (j+1) r
def gend (rs:List VResult) (v:SV) (bs:List OB):Exit→St→Prop:=fun e s =>
 let fin:=match gresults s rs with
  |some r=>(match rmap v r [] with
   |some mp=>svEq mp v r∧gobsR s mp 0 bs
   |none=>False)
  |none=>False
 match e with
 |.normal=>fin
 |.ret=>fin
 |_=>False
section
variable {P:Program}{B F:Heap}{pl:Nat→Value}{tb:Nat→Option Bool}{s:St}{env:Env}{σ:Heap}
theorem gres1_sound (hG:Gam P B F pl tb s env σ) {r:VResult}{v:SV}(h:gres1 s r=some v):∃ u,vresult env σ r=some u∧SR P B pl tb v u:=by
 cases r with
 |tmp t=>obtain rfl:=osj h;exact⟨_,rfl,hG.env.getD t undef⟩
 |cell a agg size =>
  simp only[gres1] at h;cases hb:Nat.blt 0 size with
  |false=>rw[hb] at h;cases h
  |true =>
   rw[hb] at h;obtain⟨i,o,c,e,wr,t,u,h1,h2,h3,h4⟩:=gload_sound hG.leB hG.obj (by simpa [Nat.blt_eq] using hb) h (hG.env.getD a undef)
   refine⟨u,?_,h4⟩;simp only[vresult,vact,evalO,h1,h2,h3];rfl
theorem gresults_sound (hG:Gam P B F pl tb s env σ) {rs:List VResult}{v:SV}(h:gresults s rs=some v):∃ u,vresults env σ rs=some u∧SR P B pl tb v u:=by
 have all:∀ (rs:List VResult) (l:List SV),rs.mapM (gres1 s)=some l→∃ us,rs.mapM (vresult env σ)=some us∧SRs P B pl tb l us:=by
  intro rs;induction rs with
  |nil=>intro l h;simp at h;subst h;exact⟨[],rfl,rfl⟩
  |cons r rs ih =>
   intro l h;rw[List.mapM_cons] at h;cases h1:gres1 s r with
   |none=>simp[h1] at h
   |some a =>
    cases h2:rs.mapM (gres1 s) with
    |none=>simp[h1,h2] at h
    |some l' =>
     simp[h1,h2] at h;subst h;obtain⟨u,h3,h4⟩:=gres1_sound hG h1;obtain⟨us,h5,h6⟩:=ih l' h2;exact⟨u::us,by rw[List.mapM_cons];simp[h3,h5],by simp only[SRs];exact⟨u,us,rfl,h4,h6⟩⟩
 have tup:(rs.mapM (gres1 s)).map SV.tup=some v→∃ u,(rs.mapM (vresult env σ)).map (fun vs=>Value.tuple vs.toArray)=some u∧SR P B pl tb v u:=fun h=>by
  simp only[Option.map_eq_some_iff] at h;obtain⟨l,h1,rfl⟩:=h;obtain⟨us,h2,h3⟩:=all rs l h1;exact⟨.tuple us.toArray,by rw[h2];rfl,by simp only[SR];exact⟨us,rfl,h3⟩⟩
 match rs,h,tup with
 |[r],h,_=>exact gres1_sound hG h
 |[],h,tup=>exact tup h
 |_::_::_,h,tup=>exact tup h
theorem radd_inj {mp mp':List (Nat×Option Nat)}{j:Nat}{a:Option Nat}(h:radd mp j a=some mp') (hi:Inj mp):Inj mp':=by
 unfold radd at h;split at h
 ·cases h
 ·split at h
  ·rename_i x;split at h
   ·cases h
   ·rename_i hc;obtain rfl:=osj h;have hfr:∀ d,alook mp d≠some (some x):=fun d hd=>by
     obtain⟨p,h1,h2,h3⟩:=alook_mem hd;exact hc (List.any_eq_true.2 ⟨p,h1,by rw[h3];simp⟩)
    intro t1 t2 a' h1 h2;rw[alook_append] at h1 h2;split at h1
    ·rename_i y1 e1;split at h2
     ·rename_i y2 e2;obtain rfl:=osj h1;obtain rfl:=osj h2;exact hi t1 t2 a' e1 e2
     ·split at h2
      ·obtain rfl:=osj (osj h2);obtain rfl:=osj h1;exact absurd e1 (hfr t1)
      ·cases h2
    ·split at h1
     ·obtain rfl:=osj (osj h1);split at h2
      ·rename_i y2 e2;obtain rfl:=osj h2;exact absurd e2 (hfr t2)
      ·split at h2
       ·omega
       ·cases h2
     ·cases h1
  ·obtain rfl:=osj h;intro t1 t2 a' h1 h2;rw[alook_append] at h1 h2;split at h1
   ·rename_i y1 e1;split at h2
    ·rename_i y2 e2;obtain rfl:=osj h1;obtain rfl:=osj h2;exact hi t1 t2 a' e1 e2
    ·split at h2<;>cases h2
   ·split at h1<;>cases h1
mutual
theorem rmap_inj:∀ (v r:SV) (mp mp':List (Nat×Option Nat)),rmap v r mp=some mp'→Inj mp→Inj mp'
 |.lst j,r,mp,mp',h,hi=>by
  simp only[rmap] at h;split at h
  ·exact radd_inj h hi
  ·exact radd_inj h hi
  ·cases h
 |.map j,r,mp,mp',h,hi=>by
  simp only[rmap] at h;split at h
  ·exact radd_inj h hi
  ·cases h
 |.dd j w,r,mp,mp',h,hi=>by
  simp only[rmap] at h;split at h
  ·split at h
   ·split at h
    ·exact radd_inj h hi
    ·cases h
   ·exact radd_inj h hi
   ·cases h
  ·cases h
 |.box j _,r,mp,mp',h,hi=>by
  simp only[rmap] at h;split at h
  ·exact radd_inj h hi
  ·cases h
 |.agg l,r,mp,mp',h,hi=>by
  simp only[rmap] at h;split at h
  ·exact rmaps_inj l _ mp mp' h hi
  ·cases h
 |.tup l,r,mp,mp',h,hi=>by
  simp only[rmap] at h;split at h
  ·exact rmaps_inj l _ mp mp' h hi
  ·cases h
 |.any,r,mp,mp',h,hi|.val _ _,r,mp,mp',h,hi|.nilS,r,mp,mp',h,hi|.nilP,r,mp,mp',h,hi|.nilM,r,mp,mp',h,hi|.nilF,r,mp,mp',h,hi=>by
  simp only[rmap] at h;obtain rfl:=osj h;exact hi
 |.sub _ _ _ _,r,mp,mp',h,hi|.elp _ _ _ _,r,mp,mp',h,hi|.grd _ _,r,mp,mp',h,hi|.cp _ _,r,mp,mp',h,hi|.fn _ _ _,r,mp,mp',h,hi|.rop _ _ _ _,r,mp,mp',h,hi|.pf _ _ _ _,r,mp,mp',h,hi|.bid _ _,r,mp,mp',h,hi=>by cases h
theorem rmaps_inj:∀ (v r:List SV) (mp mp':List (Nat×Option Nat)),rmaps v r mp=some mp'→Inj mp→Inj mp'
 |[],r,mp,mp',h,hi=>by simp only[rmaps] at h;obtain rfl:=osj h;exact hi
 |s::ss,[],mp,mp',h,hi=>by cases h
 |s::ss,r::rs,mp,mp',h,hi=>by
  simp only[rmaps] at h;split at h
  ·rename_i mp1 h1;exact rmaps_inj ss rs mp1 mp' h (rmap_inj s r mp mp1 h1 hi)
  ·cases h
end
theorem gobsR_get {mp:List (Nat×Option Nat)}:∀ (bs:List OB) (n:Nat),gobsR s mp n bs→∀ j b,bs[j]?=some b→obEq s mp (n+j) b
 |[],n,_,j,b,hj=>by simp at hj
 |b0::r,n,h,j,b,hj=>by
  obtain⟨h1,h2⟩:=h;cases j with
  |zero=>simp at hj;subst hj;exact h1
  |succ j =>
   have:=gobsR_get r (n+1) h2 j b (by simpa using hj)
   rwa [Nat.add_assoc,Nat.add_comm 1 j] at this
mutual
theorem ren_self {n:Nat}{π:Nat→Nat}:∀ (v:SV) (u:Value),v.ret 0=true→SR P B pl tb v u→Ren n π u u
 |.val k x,u,h,hs=>by
  simp only[SR] at hs;cases k with
  |i ik=>simp only[KC] at hs;obtain rfl:=(List.cons.inj hs).1;exact .plain _ rfl
  |bo=>simp only[KC] at hs;obtain rfl:=(List.cons.inj hs).1;exact .plain _ rfl
  |st=>simp only[KC] at hs;obtain rfl:=(List.cons.inj hs).1;exact .plain _ rfl
  |list k=>cases h
  |pair a b =>
   have h1:=KC.length hs;have h2:=a.size_pos;have h3:=b.size_pos;simp only[Kind.size,List.length_singleton] at h1;omega
 |.nilS,u,_,hs|.nilP,u,_,hs|.nilM,u,_,hs|.nilF,u,_,hs=>by simp only[SR] at hs;subst hs;exact .plain _ rfl
 |.lst j,u,h,_|.box j _,u,h,_|.map j,u,h,_=>by simp[SV.ret,Nat.blt_eq] at h
 |.dd j w,u,h,_=>by cases w<;>simp[SV.ret,Nat.blt_eq] at h
 |.agg l,u,h,hs=>by
  simp only[SR] at hs;obtain⟨cs,rfl,h2⟩:=hs;have:=rens_self (n:=n) (π:=π) l cs h h2;exact .agg _ _ rfl fun i h3 _=>this _ (by simp)
 |.tup l,u,h,hs=>by
  simp only[SR] at hs;obtain⟨cs,rfl,h2⟩:=hs;have:=rens_self (n:=n) (π:=π) l cs h h2;exact .tuple _ _ rfl fun i h3 _=>this _ (by simp)
 |.any,_,h,_|.bid _ _,_,h,_|.grd _ _,_,h,_|.sub _ _ _ _,_,h,_|.elp _ _ _ _,_,h,_|.rop _ _ _ _,_,h,_|.cp _ _,_,h,_|.fn _ _ _,_,h,_|.pf _ _ _ _,_,h,_=>by cases h
theorem rens_self {n:Nat}{π:Nat→Nat}:∀ (v:List SV) (u:List Value),SVs.ret 0 v=true→SRs P B pl tb v u→∀ x∈u,Ren n π x x
 |[],u,_,hs=>by simp only[SRs] at hs;subst hs;intro x hx;cases hx
 |s::ss,u,h,hs=>by
  simp only[SVs.ret,Bool.and_eq_true] at h;simp only[SRs] at hs;obtain⟨x,y,rfl,h1,h2⟩:=hs;intro z hz;rcases List.mem_cons.1 hz with rfl|hz
  ·exact ren_self s z h.1 h1
  ·exact rens_self ss y h.2 h2 z hz
end
theorem gend_sound (exact:Bool) {σ0:Heap}{sf:St}{envf:Env}{σf:Heap}(hR:GRel P σ0 σ0 σ0 sf envf σf) {rs:List VResult}{v:SV}{bs:List OB}{e:Exit}(hv:v.ret bs.length=true) (hb:bs.all OB.ret=true) (h:gend rs v bs e sf) (hx:exact=true→bs.all OB.isL=true∧noBox v=true) :
  EndK σ0 rs (fun u σ'=>if exact then u=cval (canP σ0 bs) v∧σ'=canH σ0 bs else Ret P σ0 v bs u σ') e envf σf:=by
 have main:(match gresults sf rs with
  |some r=>(match rmap v r [] with
   |some mp=>svEq mp v r∧gobsR sf mp 0 bs
   |none=>False)
  |none=>False)→obind (vresults envf σf rs) fun u=>∃ v' σ',DropTo σ0 u σf v' σ'∧(if exact then v'=cval (canP σ0 bs) v∧σ'=canH σ0 bs else Ret P σ0 v bs v' σ'):=fun h=>by
  split at h
  ·rename_i r hr;split at h
   ·rename_i mp hmp;obtain⟨h1,h2⟩:=h;obtain⟨B,F,pl,tb,⟨hB,hF,_,hd⟩,hG⟩:=hR;obtain⟨u,h3,h4⟩:=gresults_sound hG hr;have hsr:=svEq_sound v r u h1 h4;have hinj:=rmap_inj v r [] mp hmp (fun t t' a h=>by cases h)
    have hob:∀ j b,bs[j]?=some b→obEq sf mp j b:=fun j b hj=>by have:=gobsR_get bs 0 h2 j b hj;rwa [Nat.zero_add] at this
    rw[h3];have hle:σ0.Le σf:=hF.trans hG.le;have hA:Agree σ0 σf:=fun i hi=>by
     cases hg:σ0.get i with
     |none=>exact hd.2 i hi hg
     |some b=>exact hle.2 i b hg
    have hpl:∀ j b,bs[j]?=some b→OR P hNil (mapP pl mp) noTb σf (mapP pl mp j) b∧∀ i,Oid (mapP pl mp j) i→σ0.get i=none∧σ0.n≤i:=fun j b hj=>by
     obtain⟨k1,k2⟩:=obEq_sound hG (hob j b hj);have hret:=List.all_eq_true.1 hb b (List.mem_of_getElem? hj);have hlive:b.live=true:=by cases b<;>first|rfl|cases hret
     refine⟨k1.retd hret fun _ _=>rfl,fun i hi=>?_⟩;obtain⟨a,e1,e2,e3⟩:=k2 hlive i hi;have hBn:=hG.fresh a i e2 e3;have hn:σ0.get i=none:=by
      cases hg:σ0.get i with
      |none=>rfl
      |some b=>rw[hF.2 i b hg] at hBn;cases hBn
     refine⟨hn,Nat.le_of_not_lt fun hlt=>?_⟩;have hdead:=hd.2 i hlt hn;have hob:=hG.obj a;cases ho:oget sf.own a with
     |dead=>rw[ho] at e2;cases e2
     |lst ty k xs nl =>
      rw[ho] at hob;rcases hob with⟨_,_,h2⟩|⟨_,i',cap,c,t,h2,_,h3,_⟩
      ·rw[h2] at e3;cases e3
      ·rw[h2] at e3;obtain rfl:=osj e3;rw[h3] at hdead;cases hdead
     |cells l u=>rw[ho] at hob;obtain⟨i',c,e,t,h2,h3,_⟩:=hob;rw[h2] at e3;obtain rfl:=osj e3;rw[h3] at hdead;cases hdead
     |map kk vk m=>rw[ho] at hob;obtain⟨i',es,cl,h2,h3,_⟩:=hob;rw[h2] at e3;obtain rfl:=osj e3;rw[h3] at hdead;cases hdead
     |stk l vals=>rw[ho] at e2;cases e2
     |lpf l q s=>rw[ho] at hob e2;obtain⟨h2,_,h3⟩:=hob;rw[h2] at e3;obtain rfl:=osj e3;have h3:=h3 e2;rw[hdead] at h3;cases h3
     |iter kk vk m dn=>rw[ho] at hob;obtain⟨j',i',es,cl,wr,seen,h2,h3,_⟩:=hob;rw[h2] at e3;obtain rfl:=osj e3;rw[h3] at hdead;cases hdead
     |deep ty q k xs nl hh =>
      rw[ho] at hob;obtain⟨is,_,d2,d3,_⟩:=DP.open hob;obtain⟨c,e,t,h⟩:=d2.cells i ((d3 i).1 e3);rw[h] at hdead;cases hdead
    have hsep:∀ j j' i,j<bs.length→j'<bs.length→j≠j'→Oid (mapP pl mp j) i→Oid (mapP pl mp j') i→False:=fun j j' i hj hj' hne hi hi'=>by
     have hb1:=List.getElem?_eq_getElem hj;have hb2:=List.getElem?_eq_getElem hj';have r1:=List.all_eq_true.1 hb _ (List.getElem_mem hj);have r2:=List.all_eq_true.1 hb _ (List.getElem_mem hj');have l1:(bs[j]).live=true:=by cases hbb:bs[j]<;>first|rfl|(rw[hbb] at r1;cases r1)
     have l2:(bs[j']).live=true:=by cases hbb:bs[j']<;>first|rfl|(rw[hbb] at r2;cases r2)
     obtain⟨a,e1,e2,e3⟩:=(obEq_sound hG (hob j _ hb1)).2 l1 i hi;obtain⟨a',e1',e2',e3'⟩:=(obEq_sound hG (hob j' _ hb2)).2 l2 i hi';by_cases e:a=a'
     ·subst e;exact hne (hinj j j' a e1 e1')
     ·exact hG.sep a a' i e e2 e2' e3 e3'
    cases hex:exact with
    |true =>
     obtain⟨hl,hnb⟩:=hx hex;have hdrop:=canon_drop (P:=P) hA hle.1 hv hnb hb hl (pl:=mapP pl mp) (u:=u) (fun j b hj=>⟨(hpl j b hj).1,fun i hi=>((hpl j b hj).2 i (oid_Oid hi)).2⟩) (fun j j' i a b c d e=>hsep j j' i a b c (oid_Oid d) (oid_Oid e)) (hsr.retd (fun j hj=>rfl) _ _ hv);exact⟨_,_,hdrop,by simp⟩
    |false =>
     simp only[Bool.false_eq_true,if_false];by_cases hbs:bs=[]
     ·subst hbs;refine⟨u,σ0,.rename (fun i=>i) (Nat.le_refl _) (fun i hi=>⟨rfl,(hA i hi).symm,.inl (hA i hi)⟩) (fun i k1 k2=>by omega) (fun _ _ _ _ _ _ h=>h) (ren_self v u hv hsr),?_⟩
      exact⟨⟨Heap.Le.refl _,Dead.refl _⟩,fun _=>rfl,noPl,(fun j b hj=>by simp at hj),(fun j j' i hj=>by simp at hj),hsr.retd (fun j hj=>by simp at hj) _ _ hv⟩
     ·exact⟨u,σf,.refl _ _ _,⟨hle,hd⟩,fun e=>absurd e hbs,mapP pl mp,hpl,hsep,hsr.retd (fun j hj=>rfl) _ _ hv⟩
   ·exact h.elim
  ·exact h.elim
 cases e with
 |normal=>exact main h
 |ret=>exact main h
 |_=>exact h.elim
def gstart (nt:Nat) (args:List SV):St:=⟨args++List.replicate (nt-args.length) .any,[],0⟩
theorem gstart_rel {args:List SV}{vs:List Value}(h:SRs P σ noPl noTb args vs) (nt:Nat):GRel P σ σ σ (gstart nt args) (vs++List.replicate (nt-vs.length) undef) σ:=by
 have und:∀ n,SRs P σ noPl noTb (List.replicate n .any) (List.replicate n undef):=by
  intro n;induction n with
  |zero=>simp[SRs]
  |succ n ih=>simp only[List.replicate_succ,SRs];exact⟨_,_,rfl,by simp[SR],ih⟩
 refine⟨σ,σ,noPl,noTb,⟨Heap.Le.refl _,Heap.Le.refl _,(fun i b h1 h2=>by rw[h2] at h1;cases h1),Dead.refl _⟩,Heap.Le.refl _,Heap.Le.refl _,?_,fun d=>trivial,(fun d i hl=>by cases hl),(fun d d' i _ hl=>by cases hl),fun _ _=>rfl⟩
 have:=h.length;simp only[gstart,this];exact h.append (und _)
theorem Fun.okC {f:Nat}{vc:VCode}{rs:List VResult}{nt:Nat}(h:Fun P f vc rs nt) (hm:P.follows .mixedOrders=true) {sp:CSp}
  (hb:∀ ap,ApOk P ap→∀ args c v bs,sp ap args=some (c,v,bs)→c→∃ (C:Cx) (L:List (Nat×LoopAnn)) (args':List SV),(∀ σ vs,SRs P σ noPl noTb args vs→SRs P σ noPl noTb args' vs)∧COk P C∧gwp C L vc 0 (gend rs v bs) (gstart nt args')):OkC P f sp:=by
 intro ap hap σ args vs c v bs hargs hsp hv hbs hc;obtain⟨C,L,args',h1,h2,h3⟩:=hb ap hap args c v bs hsp hc;have main:∀ exact:Bool,(exact=true→bs.all OB.isL=true∧noBox v=true)→VCalled P f vs σ fun u σ'=>if exact then u=cval (canP σ bs) v∧σ'=canH σ bs else Ret P σ v bs u σ':=fun exact hx=>by
  refine h.calls hm okSem ?_;exact gwp_sound h2 vc 0 _ _ _ σ none _ trivial (gstart_rel (h1 σ vs hargs) nt) h3 fun e s' env' σ' k1 k2=>gend_sound exact k2 hv hbs k1 hx
 refine⟨(main false fun e=>by cases e).mono fun u σ' hr=>by simpa using hr,fun hl hnb=>(main true fun _=>⟨hl,hnb⟩).mono fun u σ' hr=>by simpa using hr⟩
theorem OkC.true {f:Nat}{sp:CSp}(h:OkC P f sp) (he:Enterable P f) {σ:Heap}{args:List SV}{vs:List Value}(ha:SRs P σ noPl noTb args vs) {c:Prop}(hs:sp (fun _ _=>none) args=some (c,.val .bo true,[])) (hc:c) :
  VCallsTo P f vs σ fun v _=>v=.bool true:=by
 have:=(h (fun _ _=>none) (fun _ _ _ _ _ _ _ _ _ h=>by cases h) σ args vs c _ [] ha hs rfl rfl hc).1
 intro ρ w cargs hH hL;rcases this ρ w cargs hH hL with⟨_,h2⟩|⟨c',_,h2⟩
 ·refine h2.mono fun e w' ⟨c',h3,h4⟩=>⟨c',h3,h4.mono fun u σ' hr=>?_⟩;have:=(hr.flat rfl).2;simpa only [SR,KC,List.cons.injEq,and_true] using this
 ·have:=h2 w (Like.refl ρ w);rw[run_callFunc he cargs w] at this;cases this
end
end Go.V
namespace Go.V
open Go
mutual
inductive AP:Type→Type 1 where
 |k (k:Kind):AP k.T
 |agg {D:Type}(l:AL D):AP D
 |ptr {D:Type}(l:AL D):AP D
 |fn (ks:List Kind) (r:Kind):AP ((AT ks→Prop)×(AT ks→r.T))
 |nilS:AP Unit
 |any:AP Unit
inductive AL:Type→Type 1 where
 |nil:AL Unit
 |one {D:Type}(a:AP D):AL D
 |cons {D E:Type}(a:AP D) (r:AL E):AL (D×E)
end
def atSVs:(ks:List Kind)→AT ks→List SV
 |[],_=>[]
 |[k],x=>[kval k x]
 |k::k'::ks,x=>kval k x.1::atSVs (k'::ks) x.2
abbrev Ap:=SV→List SV→Option (Prop×SV)
def fnDom (ap:Ap) (f:SV) (ks:List Kind) (r:Kind) (x:AT ks):Prop:=match ap f (atSVs ks x) with
 |some (c,v)=>(match gap.asV r v with|some _=>c|none=>False)
 |none=>False
def fnP (ap:Ap) (f:SV) (ks:List Kind) (r:Kind) (x:AT ks):r.T:=match ap f (atSVs ks x) with
 |some (_,v)=>(match gap.asV r v with|some y=>y|none=>r.dflt)
 |none=>r.dflt
mutual
def AP.dec (ap:Ap):{D:Type}→(p:AP D)→SV→Option D
 |_,.k k,v=>match k with
  |.list k=>view [] k v
  |.i ik=>deck (.i ik) [v]
  |.bo=>deck .bo [v]
  |.st=>deck .st [v]
  |.pair _ _=>none
 |_,.agg l,v=>match v with|.agg vs=>AL.dec ap l vs|_=>none
 |_,.nilS,v=>match v with|.nilS=>some ()|_=>none
 |_,.any,_=>some ()
 |_,.ptr l,v=>match v with|.cp vs 0=>AL.dec ap l vs|_=>none
 |_,.fn ks r,v=>match v with
  |.fn g a b=>some (fnDom ap (.fn g a b) ks r,fnP ap (.fn g a b) ks r)
  |.pf ks' r' dom p=>some (fnDom ap (.pf ks' r' dom p) ks r,fnP ap (.pf ks' r' dom p) ks r)
  |_=>none
def AL.dec (ap:Ap):{D:Type}→(l:AL D)→List SV→Option D
 |_,.nil,vs=>match vs with|[]=>some ()|_=>none
 |_,.one a,vs=>match vs with|[v]=>AP.dec ap a v|_=>none
 |_,.cons a r,vs=>match vs with
  |v::vs=>(match AP.dec ap a v,AL.dec ap r vs with|some x,some y=>some (x,y)|_,_=>none)
  |[]=>none
end
mutual
def AP.can:{D:Type}→(p:AP D)→D→SV
 |_,.k k,x=>.val k x
 |_,.agg l,x=>.agg (AL.can l x)
 |_,.nilS,_=>.nilS
 |_,.any,_=>.any
 |_,.ptr l,x=>.cp (AL.can l x) 0
 |_,.fn ks r,x=>.pf ks r x.1 x.2
def AL.can:{D:Type}→(l:AL D)→D→List SV
 |_,.nil,_=>[]
 |_,.one a,x=>[AP.can a x]
 |_,.cons a r,x=>AP.can a x.1::AL.can r x.2
end
def mkSp {D:Type}(l:AL D) (pre:D→Prop) (res:D→SV) (obs:D→List OB):CSp:=fun ap args=>match AL.dec ap l args with
 |some d=>some (pre d,res d,obs d)
 |none=>none
section
variable {P:Program}{σ:Heap}
theorem atSVs_sound:∀ {ks:List Kind}{x:AT ks}{vs:List Value},atVals σ ks x vs→SRs P σ noPl noTb (atSVs ks x) vs
 |[],x,vs,h=>by simp only[atVals] at h;subst h;simp[atSVs,SRs]
 |[k],x,vs,h=>by
  obtain⟨v,rfl,h1⟩:=h;simp only[atSVs,SRs];exact⟨v,[],rfl,kval_sound h1,rfl⟩
 |k::k'::ks,x,vs,h=>by
  obtain⟨v,vs',rfl,h1,h2⟩:=h;simp only[atSVs,SRs];exact⟨v,vs',rfl,kval_sound h1,atSVs_sound h2⟩
theorem fn_sound {ap:Ap}(hap:ApOk P ap) {f:SV}{v:Value}(hf:SR P σ noPl noTb f v) (hv:∃ g a b,v=.func (.func g) a b) (ks:List Kind) (r:Kind):SR P σ noPl noTb (.pf ks r (fnDom ap f ks r) (fnP ap f ks r)) v:=by
 obtain⟨g,a,b,rfl⟩:=hv;simp only[SR];refine⟨g,a,b,rfl,fun x hd τ vs hle hvs=>?_⟩;unfold fnDom at hd;split at hd
 ·rename_i c u hap1;split at hd
  ·rename_i y hy;obtain⟨h1,g',a',b',h2,h3⟩:=hap τ f (atSVs ks x) c u (.func (.func g) a b) vs (SR.mono hle (fun _ _ h=>h) _ _ hf) (atSVs_sound hvs) hap1 hd;obtain⟨rfl,rfl,rfl⟩:=(by simpa using h2:g=g'∧a=a'∧b=b')
   have hp:fnP ap f ks r x=y:=by simp[fnP,hap1,hy]
   rw[hp];exact h3.mono fun u' σ' hu=>⟨hu.1,(asV_sound hy hu.2).vcall (empty_le _)⟩
  ·exact hd.elim
 ·exact hd.elim
mutual
theorem AP.dec_sound {ap:Ap}(hap:ApOk P ap):∀ {D:Type}(p:AP D) {v:SV}{x:D}{u:Value},AP.dec ap p v=some x→SR P σ noPl noTb v u→SR P σ noPl noTb (AP.can p x) u
 |_,.k k,v,x,u,h,hs=>by
  have one:SRs P σ noPl noTb [v] [u]:=by simp only[SRs];exact⟨u,[],rfl,hs,rfl⟩
  simp only[AP.can,SR];cases k with
  |list k =>
   have:=view_sound (own:=[]) (Heap.Le.refl σ) (fun d=>(trivial:OR P σ noPl noTb σ (noPl d) .dead)) (show view [] k v=some x from h) hs
   exact⟨u,rfl,this⟩
  |i ik=>exact deck_sound (k:=.i ik) h one
  |bo=>exact deck_sound (k:=.bo) h one
  |st=>exact deck_sound (k:=.st) h one
  |pair a b=>cases h
 |_,.agg l,v,x,u,h,hs=>by
  simp only[AP.dec] at h;split at h
  ·simp only[SR] at hs;obtain⟨cs,rfl,hs⟩:=hs;simp only[AP.can,SR];exact⟨cs,rfl,AL.dec_sound hap l h hs⟩
  ·cases h
 |_,.any,v,x,u,h,hs=>by simp only[AP.can,SR]
 |_,.nilS,v,x,u,h,hs=>by
  simp only[AP.dec] at h;split at h
  ·simp only[AP.can];exact hs
  ·cases h
 |_,.ptr l,v,x,u,h,hs=>by
  simp only[AP.dec] at h;split at h
  ·simp only[SR] at hs;obtain⟨b,c,e,wr,t,h1,rfl,h3⟩:=hs;simp only[AP.can,SR];exact⟨b,c,e,wr,t,h1,rfl,AL.dec_sound hap l h h3⟩
  ·cases h
 |_,.fn ks r,v,x,u,h,hs=>by
  simp only[AP.dec] at h;split at h
  ·obtain rfl:=osj h;exact fn_sound hap hs (by simp only[SR] at hs;obtain⟨x,y,rfl,_⟩:=hs;exact⟨_,_,_,rfl⟩) ks r
  ·obtain rfl:=osj h;exact fn_sound hap hs (by simp only[SR] at hs;obtain⟨g,x,y,rfl,_⟩:=hs;exact⟨_,_,_,rfl⟩) ks r
  ·cases h
theorem AL.dec_sound {ap:Ap}(hap:ApOk P ap):∀ {D:Type}(l:AL D) {vs:List SV}{x:D}{us:List Value},AL.dec ap l vs=some x→SRs P σ noPl noTb vs us→SRs P σ noPl noTb (AL.can l x) us
 |_,.nil,vs,x,us,h,hs=>by
  simp only[AL.dec] at h;split at h
  ·exact hs
  ·cases h
 |_,.one a,vs,x,us,h,hs=>by
  simp only[AL.dec] at h;split at h
  ·obtain⟨u,rfl,h1⟩:=hs.one;simp only[AL.can,SRs];exact⟨u,[],rfl,AP.dec_sound hap a h h1,rfl⟩
  ·cases h
 |_,.cons a r,vs,x,us,h,hs=>by
  simp only[AL.dec] at h;split at h
  ·rename_i v vs';split at h
   ·rename_i y z h1 h2;obtain rfl:=osj h;simp only[SRs] at hs;obtain⟨u,us',rfl,h3,h4⟩:=hs;simp only[AL.can,SRs];exact⟨u,us',rfl,AP.dec_sound hap a h1 h3,AL.dec_sound hap r h2 h4⟩
   ·cases h
  ·cases h
end
theorem CsOk.nil:CsOk P []:=fun f sp h=>by cases h
theorem CsOk.cons {f:Nat}{sp:CSp}{cs:List (Nat×CSp)}(h:OkC P f sp) (t:CsOk P cs):CsOk P ((f,sp)::cs):=fun g sp' hg=>by
 simp only[alook] at hg;cases hb:Nat.beq f g with
 |true=>rw[hb] at hg;obtain rfl:=Nat.eq_of_beq_eq_true hb;obtain rfl:=osj hg;exact h
 |false=>rw[hb] at hg;exact t g sp' hg
theorem okC_mk {f:Nat}{vc:VCode}{rs:List VResult}{nt:Nat}(h:Fun P f vc rs nt) (hm:P.follows .mixedOrders=true) {D:Type}{l:AL D}{pre:D→Prop}{res:D→SV}{obs:D→List OB}
  {C:Cx}(hcs:COk P C) (L:D→List (Nat×LoopAnn)) (hb:∀ d,pre d→gwp C (L d) vc 0 (gend rs (res d) (obs d)) (gstart nt (AL.can l d))):OkC P f (mkSp l pre res obs):=by
 refine h.okC hm fun ap hap args c v bs hs hc=>?_;unfold mkSp at hs;split at hs
 ·rename_i d hd;obtain⟨rfl,rfl,rfl⟩:=(by simpa using hs:pre d=c∧res d=v∧obs d=bs)
  exact⟨C,L d,AL.can l d,fun σ vs hv=>AL.dec_sound hap l hd hv,hcs,hb d hc⟩
 ·cases hs
theorem okC_vc {f:Nat}{vc:VCode}{rs:List VResult}{nt:Nat}(h:Fun P f vc rs nt) (hm:P.follows .mixedOrders=true) {D:Type}{l:AL D}{pre:D→Prop}{res:D→SV}{obs:D→List OB}
  {C:Cx}(hcs:COk P C) {L:D→List (Nat×LoopAnn)}{V:D→Prop}(hq:∀ d,gwp C (L d) vc 0 (gend rs (res d) (obs d)) (gstart nt (AL.can l d))=V d) (hb:∀ d,pre d→V d):OkC P f (mkSp l pre res obs) :=
 okC_mk h hm hcs L fun d hp=>(hq d).mpr (hb d hp)
end
end Go.V
namespace Go.V
open Go
def ginlK (key:Nat) (vals:List Value) (rs:List VResult) (K:SV→St→Prop):Exit→St→Prop:=fun e s =>
 let fin:=match gresults s rs,oget s.own key with
  |some r,.stk l vs=>vs=vals∧K r ⟨l,s.own,s.nx⟩
  |_,_=>False
 match e with
 |.normal=>fin
 |.ret=>fin
 |_=>False
def inlX (C:Cx) (L:List Value→List (Nat×LoopAnn)) (vc:VCode) (rs:List VResult) (nt:Nat):XSp:=fun d args s K =>
 ∀ vals,gwp {C with off:=100000*(d+1)} (L vals) vc 0 (ginlK (100000*(d+1)-1) vals rs K) ⟨SVs.kill (100000*(d+1)-1) args++List.replicate (nt-args.length) .any,(gstk (100000*(d+1)-1) vals s).own,s.nx⟩
section
variable {P:Program}
theorem und_rel {B:Heap}{pl:Nat→Value}{tb:Nat→Option Bool}:∀ n,SRs P B pl tb (List.replicate n .any) (List.replicate n undef)
 |0=>by simp[SRs]
 |n+1=>by simp only[List.replicate_succ,SRs];exact⟨_,_,rfl,by simp[SR],und_rel n⟩
theorem inlX_ok {f:Nat}{vc:VCode}{rs:List VResult}{nt:Nat}(h:Fun P f vc rs nt) (hm:P.follows .mixedOrders=true) {C:Cx}(hcs:COk P C) (L:List Value→List (Nat×LoopAnn)):XOk P f (inlX C L vc rs nt):=by
 intro B F pl tb s env σ d args vs K R hG ha hx hK;have hx:=hx env;refine h.calls hm okSem ?_;have q3:Gam P B F (updP pl (100000*(d+1)-1) poison) tb (gstk (100000*(d+1)-1) env s) env σ:=by
  refine hG.make _ _ poison hG.le (fun _ _ _ _ _=>rfl) ?_ (fun i hl _=>by cases hl)
  exact SRs.upd (.refl _) (fun _ _ h=>h) (fun j hj=>by simp[updP,hj]) _ _ hG.env
 have hcs':COk P {C with off:=100000*(d+1)}:=⟨hcs.cs,hcs.xs,hcs.it,hcs.yl,hcs.iy,hcs.xf⟩
 have hargs:=SRs.upd (P:=P) (Heap.Le.refl B) (fun _ _ h=>h) (pl':=updP pl (100000*(d+1)-1) poison) (tb':=tb) (o:=100000*(d+1)-1) (fun j hj=>by simp[updP,hj]) _ _ ha
 have hst:GRel P B F σ ⟨SVs.kill (100000*(d+1)-1) args++List.replicate (nt-args.length) .any,(gstk (100000*(d+1)-1) env s).own,s.nx⟩ (vs++List.replicate (nt-vs.length) undef) σ:=by
  refine⟨B,F,_,tb,.of hG.bf (.refl _),⟨q3.bf,q3.le,?_,q3.obj,q3.fresh,q3.sep,q3.free⟩⟩;rw[ha.length];exact hargs.append (und_rel _)
 refine gwp_sound hcs' vc 0 _ _ _ σ none _ trivial hst hx fun e s' env' σ' h1 h2=>?_
 ·have main:(match gresults s' rs,oget s'.own (100000*(d+1)-1) with
   |some r,.stk l vs=>vs=env∧K r ⟨l,s'.own,s'.nx⟩
   |_,_=>False)→obind (vresults env' σ' rs) fun v=>∃ v' σ'',DropTo σ v σ' v' σ''∧R v' σ'':=fun h=>by
   obtain⟨B',F',pl',tb',k1,k2⟩:=h2;split at h
   ·rename_i r l vs' hr hstk;obtain⟨rfl,h⟩:=h;obtain⟨u,h3,h4⟩:=gresults_sound k2 hr;rw[h3];have hob:=k2.obj (100000*(d+1)-1);rw[hstk] at hob;exact⟨u,σ',.refl _ _ _,hK r _ B' F' pl' tb' u σ' h k1 ⟨k2.bf,k2.le,hob,k2.obj,k2.fresh,k2.sep,k2.free⟩ h4⟩
   ·exact h.elim
  cases e with
  |normal=>exact main h1
  |ret=>exact main h1
  |_=>exact h1.elim
end
end Go.V
namespace Go.V
open Go
section
variable {P:Program}
theorem Heap.Le.kill' {B σ:Heap}(h:B.Le σ) {i:Nat}(hi:B.get i=none):B.Le (σ.kill i):=⟨h.1,fun j b hb=>by
 have:j≠i:=by rintro rfl;rw[hi] at hb;cases hb
 rw[Heap.get_kill_ne _ this];exact h.2 _ _ hb⟩
theorem Heap.kill_le (σ:Heap) (i:Nat):(σ.kill i).Le σ:=⟨Nat.le_refl _,fun j b hb=>by
 by_cases e:j=i
 ·subst e;rw[Heap.get_kill_self] at hb;cases hb
 ·rwa [Heap.get_kill_ne _ e] at hb⟩
mutual
theorem AP.can_pure:∀ {D:Type}(p:AP D) (x:D),(AP.can p x).pure=true
 |_,.k k,x=>rfl
 |_,.agg l,x=>by simp only[AP.can,SV.pure];exact AL.can_pure l x
 |_,.nilS,x=>rfl
 |_,.any,x=>rfl
 |_,.ptr l,x=>by simp only[AP.can,SV.pure];exact AL.can_pure l x
 |_,.fn ks r,x=>rfl
theorem AL.can_pure:∀ {D:Type}(l:AL D) (x:D),SVs.pure (AL.can l x)=true
 |_,.nil,x=>rfl
 |_,.one a,x=>by simp only[AL.can,SVs.pure,AP.can_pure a x];rfl
 |_,.cons a r,x=>by simp only[AL.can,SVs.pure,AP.can_pure a x.1,AL.can_pure r x.2];rfl
end
end
end Go.V
namespace Go.V
open Go
abbrev lI {α:Type}(l:List α):Int:=(l.length:Int)
abbrev gD {α:Type}(l:List α) (i:Int) (d:α):α:=l.getD i.toNat d
abbrev sT {α:Type}(l:List α) (i:Int) (x:α):List α:=l.set i.toNat x
abbrev I64 (x:Int):Prop:=InK .i64 x
theorem InK_i64 (x:Int):InK .i64 x↔-9223372036854775808≤x∧x≤9223372036854775807:=by
 simp[InK,IntKind.min,IntKind.max,IntKind.bits,IntKind.signed]
theorem LoopP.count {F:Int→(Int→Prop)→Prop}(n:Nat) (J:Nat→Prop) (h0:J 0) (hr:∀ k:Nat,k≤n→J k→∀ q:Int→Prop,(k<n→J (k+1)→q ((k:Int)+1))→F k q):LoopP F 0:=by
 refine⟨fun d=>∃ k:Nat,d=k∧k≤n∧J k,fun d=>n-d.toNat,⟨0,rfl,Nat.zero_le _,h0⟩,fun d ⟨k,hd,hk,hJ⟩=>?_⟩;subst hd;refine hr k hk hJ _ fun hlt hJ'=>⟨⟨k+1,by simp,hlt,hJ'⟩,?_⟩
 simp;omega
theorem LoopP.count2 {X:Type}{F:X×Int→(X×Int→Prop)→Prop}(n:Nat) (J:Nat→X→Prop) {x0:X}(h0:J 0 x0) (hr:∀ (k:Nat) (x:X),k≤n→J k x→∀ q:X×Int→Prop,(∀ x',k<n→J (k+1) x'→q (x',(k:Int)+1))→F (x,(k:Int)) q):LoopP F (x0,0):=by
 refine⟨fun d=>∃ k:Nat,d.2=k∧k≤n∧J k d.1,fun d=>n-d.2.toNat,⟨0,rfl,Nat.zero_le _,h0⟩,fun ⟨x,d⟩ ⟨k,hd,hk,hJ⟩=>?_⟩;simp only at hd hJ;subst hd;refine hr k x hk hJ _ fun x' hlt hJ'=>⟨⟨k+1,by simp,hlt,hJ'⟩,?_⟩
 simp;omega
theorem getD_nat {α:Type}{l:List α}{k:Nat}{d:α}(h:k<l.length):l.getD k d=l[k]:=by
 simp[List.getD_eq_getElem?_getD,List.getElem?_eq_getElem h]
theorem take_succ_eq {α:Type}{l:List α}{k:Nat}(h:k<l.length):l.take (k+1)=l.take k++[l[k]]:=by
 rw[List.take_succ_eq_append_getElem h]
theorem toNat_add1 (k:Nat):((k:Int)+1).toNat=k+1:=by omega
end Go.V
namespace Go.V
open Go
def bwCode (agg:Bool) (sz:Nat):VCode :=
 .seq (.region [
  ⟨(some 4),.load false 1 (.tmp 1),none⟩,
  ⟨(some 5),.len (.tmp 4),none⟩,
  ⟨(some 6),.arith .sub (.tmp 5) (.const (.int .i64 (1))),none⟩,
  ⟨(some 3),.move (.tmp 6),none⟩])
 (.block 0 (.loop (.seq (.seq (.region [
    ⟨(some 7),.move (.tmp 3),none⟩,
    ⟨(some 8),.cmp .geq (.tmp 7) (.const (.int .i64 (0))),none⟩])
   (.cond (.tmp 8) (.skip)
    (.exit 0)))
   (.seq (.block 1 (.seq (.region [
     ⟨(some 11),.move (.tmp 0),none⟩,
     ⟨(some 12),.move (.tmp 3),none⟩,
     ⟨(some 13),.load false 1 (.tmp 1),none⟩,
     ⟨(some 14),.move (.tmp 3),none⟩,
     ⟨(some 15),.indexAddr sz (.tmp 13) (.tmp 14),none⟩,
     ⟨(some 16),.load agg sz (.tmp 15),none⟩,
     ⟨(some 17),.callV (.tmp 11) [.tmp 12,.tmp 16],none⟩,
     ⟨(some 18),.un .not (.tmp 17),none⟩])
    (.cond (.tmp 18) (.ret)
     (.skip))))
   (.region [
    ⟨(some 9),.move (.tmp 3),none⟩,
    ⟨(some 10),.arith .sub (.tmp 9) (.const (.int .i64 (1))),none⟩,
    ⟨(some 3),.move (.tmp 10),none⟩])))))
def bwIt (k:Kind):ISp:=fun args=>match args with
 |[.cp l 0]=>(match l with
  |[.val (.list _k') l]=>(match castL l k with
   |some l=>some (l.length<4611686018427387904,l.length,2,fun j=>[.val (.i .i64) ((l.length:Int)-1-j),kval k (l.getD (l.length-1-j) k.dflt)])
   |none=>none)
  |_=>none)
 |_=>none
section
variable {P:Program}
theorem kval_pure:∀ (k:Kind) (x:k.T),(kval k x).pure=true
 |.i _,_|.bo,_|.st,_|.list _,_=>rfl
 |.pair a b,x=>by
  have app:∀ l m:List SV,SVs.pure l=true→SVs.pure m=true→SVs.pure (l++m)=true:=by
   intro l m hl hm;induction l with
   |nil=>exact hm
   |cons s l ih =>
    simp only[SVs.pure,Bool.and_eq_true,List.cons_append] at hl ⊢;exact⟨hl.1,ih hl.2⟩
  have cells:∀ (k:Kind) (x:k.T),SVs.pure (kcells k x)=true:=by
   intro k;induction k with
   |pair a b iha ihb=>intro x;exact app _ _ (iha x.1) (ihb x.2)
   |_=>intro x;rfl
  simp only[kval,SV.pure];exact cells (.pair a b) x
theorem st1 {S:VSpecs}{d:Nat}{op:VOp}{rest:List VOper}{env:Env}{σ:Heap}{K:Env→Heap→Prop}{v:Value}(hv:∀ K',vop S op env σ K'=obind (vact op (evalO env) σ) fun p=>K' p.1 p.2) (h:vact op (evalO env) σ=some (v,σ)) (hr:vops S rest (env.set d v) σ K):vops S (⟨some d,op,none⟩::rest) env σ K:=by
 show obind (some true) _
 refine⟨fun _=>?_,fun e=>by cases e⟩
 rw[hv,h];exact hr
theorem elem_at {B τ:Heap}(hle:B.Le τ) {k:Kind}{l:List k.T}{x:Value}(hs:SlRel B k.size (fun x c=>KC B k x c) l x) {n:Nat}(hn:n<l.length) :
  ∃ i o cap c e wr t w,x=.slice (some ⟨i,o,none⟩) l.length cap∧τ.get i=some (.cells c e wr t)∧vpart (!k.one) k.size c (o+n*k.size)=some w∧KV B k l[n] w:=by
 rcases hs with⟨rfl,_⟩|⟨i,o,cap,c,e,wr,t,h1,h2,h3,h4,h5,h6⟩
 ·simp at hn
 ·have hmul:n*k.size+k.size≤l.length*k.size:=by
   have:=Nat.mul_le_mul_right k.size (show n+1≤l.length from hn)
   rwa [Nat.add_mul,Nat.one_mul] at this
  have hat:=h6.at (n:=k.size) (fun x c hx=>KC.length hx) hn;have e1:(((c.drop o).take (l.length*k.size)).drop (n*k.size)).take k.size=(c.drop (o+n*k.size)).take k.size:=by
   rw[List.drop_take,List.drop_drop,List.take_take,Nat.min_eq_left (by omega)]
  rw[e1] at hat;have hlen:=KC.length hat;cases hone:k.one with
  |true =>
   have hsz:=Kind.one_size hone;rw[hsz] at hat hlen hmul h5 ⊢;have hlt:o+n*1<c.length:=by omega
   refine⟨i,o,cap,c,e,wr,t,c[o+n*1],h1,hle.2 _ _ h3,?_,.inl ⟨hone,?_⟩⟩
   ·simp[vpart]
   ·have:(c.drop (o+n*1)).take 1=[c[o+n*1]]:=by
     rw[List.drop_eq_getElem_cons hlt];rfl
    rw[this] at hat;exact hat
  |false =>
   refine⟨i,o,cap,c,e,wr,t,_,h1,hle.2 _ _ h3,?_,.inr ⟨hone,_,rfl,hat⟩⟩;simp only[vpart,Bool.not_false,if_true];rw[if_pos (by omega)]
theorem VYields.mono {i:Nat}{args:List Value}{σ:Heap}{R R':Value→Heap→Prop}(h:VYields P i args σ R) (hr:∀ v σ',R v σ'→R' v σ'):VYields P i args σ R':=by
 intro ρ w cargs hH hL;obtain⟨p,h1,fn,tmps,asg,body,h2,h3⟩:=h ρ w cargs hH hL;exact⟨p,h1,fn,tmps,asg,body,h2,h3.mono fun e w' ⟨c,he,hg⟩=>⟨c,he,hg.mono hr⟩⟩
set_option maxHeartbeats 4000000 in
theorem bw_round {B τ:Heap}{k:Kind}{l1:List k.T}{x:Value}{i b j:Nat}{Y:VSpec}{J:Nat→Heap→Prop}{E:Heap→Prop}(hY:OkYield P i Y)
  (hld:∀ (env:Env) (j:Nat),evalO env (.tmp j)=.pointer (some ⟨b,0,none⟩)→vact (.load false 1 (.tmp j)) (evalO env) τ=some (x,τ)) (hsl:SlRel B k.size (fun x c=>KC B k x c) l1 x) (hjle:B.Le τ) (hj1:j≤l1.length) (hc:l1.length<4611686018427387904)
  (hround:j<l1.length→∀ us,SRs P B noPl noTb [.val (.i .i64) ((l1.length:Int)-1-j),kval k (l1[l1.length-1-j]?.getD k.dflt)] us→Y us τ fun v τ'=>(v=.bool true∧J (j+1) τ')∨(v=.bool false∧E τ'))
  {Q:Exit→Env→Heap→Prop}(hQ1:J l1.length τ→∀ env,Q .normal env τ) (hQ2:∀ τ,E τ→∀ env,Q .ret env τ) (hJ:J j τ) {n:Nat}(hj2:n=l1.length-j) (len:Nat) (hlen:len=19) :
  vwp (semSpecs P) (.seq (.seq (.region [
    ⟨(some 7),.move (.tmp 3),none⟩,
    ⟨(some 8),.cmp .geq (.tmp 7) (.const (.int .i64 (0))),none⟩])
   (.cond (.tmp 8) (.skip)
    (.exit 0)))
   (.seq (.block 1 (.seq (.region [
     ⟨(some 11),.move (.tmp 0),none⟩,
     ⟨(some 12),.move (.tmp 3),none⟩,
     ⟨(some 13),.load false 1 (.tmp 1),none⟩,
     ⟨(some 14),.move (.tmp 3),none⟩,
     ⟨(some 15),.indexAddr k.size (.tmp 13) (.tmp 14),none⟩,
     ⟨(some 16),.load (!k.one) k.size (.tmp 15),none⟩,
     ⟨(some 17),.callV (.tmp 11) [.tmp 12,.tmp 16],none⟩,
     ⟨(some 18),.un .not (.tmp 17),none⟩])
    (.cond (.tmp 18) (.ret)
     (.skip))))
   (.region [
    ⟨(some 9),.move (.tmp 3),none⟩,
    ⟨(some 10),.arith .sub (.tmp 9) (.const (.int .i64 (1))),none⟩,
    ⟨(some 3),.move (.tmp 10),none⟩]))) none (fun e env' σ''=>match e with
   |.normal=>∃ n',n'<n∧∃ j,j≤l1.length∧n'=l1.length-j∧pickE [0,1,3] env'=[.func (.yield i) #[] #[],.pointer (some ⟨b,0,none⟩),.int .i64 ((l1.length:Int)-1-j)]∧J j σ''
   |e=>blockK 0 Q e env' σ'') (spreadE [0,1,3] [.func (.yield i) #[] #[],.pointer (some ⟨b,0,none⟩),.int .i64 ((l1.length:Int)-1-j)] (List.replicate len poison)) τ:=by
 subst hlen;show vops _ _ [.func (.yield i) #[] #[],.pointer (some ⟨b,0,none⟩),poison,.int .i64 ((l1.length:Int)-1-j),poison,poison,poison,poison,poison,poison,poison,poison,poison,poison,poison,poison,poison,poison,poison] _ _
 refine st1 (fun _=>rfl) rfl ?_;refine st1 (v:=.bool (decide ((0:Int)≤(l1.length:Int)-1-j))) (fun _=>rfl) rfl ?_;show vcond (.bool _) _ _
 refine⟨fun hge=>?_,fun hlt=>?_⟩
 ·have hge:(0:Int)≤(l1.length:Int)-1-j:=by simpa using hge
  have hnl:l1.length-1-j<l1.length:=by omega
  obtain⟨i',o',cap',c',e',wr',t',w,q1,q2,q3,q4⟩:=elem_at hjle hsl hnl;show vops _ _ _ _ _
  refine st1 (fun _=>rfl) rfl ?_;refine st1 (fun _=>rfl) rfl ?_;refine st1 (fun _=>rfl) (hld _ _ rfl) ?_;refine st1 (fun _=>rfl) rfl ?_;refine st1 (v:=.pointer (some ⟨i',o'+(l1.length-1-j)*k.size,none⟩)) (fun _=>rfl) ?_ ?_
  ·rw[q1];show (if 0≤(l1.length:Int)-1-j∧(l1.length:Int)-1-j<l1.length then some (Value.pointer (some ⟨i',o'+((l1.length:Int)-1-j).toNat*k.size,none⟩),τ) else none)=_
   rw[if_pos ⟨hge,by omega⟩]
   have:((l1.length:Int)-1-j).toNat=l1.length-1-j:=by omega
   rw[this]
  refine st1 (v:=w) (fun _=>rfl) ?_ ?_
  ·show (match τ.get i' with|some (.cells c _ _ _)=>(match vpart (!k.one) k.size c (o'+(l1.length-1-j)*k.size) with|some v=>some (v,τ)|none=>none)|_=>none)=_
   rw[q2];simp only[q3]
  show obind (some true) _
  refine⟨fun _=>?_,fun e=>by cases e⟩
  show VYields P i [.int .i64 ((l1.length:Int)-1-j),w] τ _
  refine VYields.mono (hY _ _ _ (hround (by omega) [.int .i64 ((l1.length:Int)-1-j),w] ?_)) ?_
  ·simp only[SRs];refine⟨_,_,rfl,rfl,w,[],rfl,?_,rfl⟩;rw[List.getElem?_eq_getElem hnl];exact kval_sound q4
  ·rintro v τ' (⟨rfl,hJ'⟩|⟨rfl,hE⟩)
   ·show vops _ _ _ _ _
    refine st1 (v:=.bool false) (fun _=>rfl) rfl ?_;show vcond (.bool false) _ _
    refine⟨(fun e=>by cases e),fun _=>?_⟩
    show vops _ _ _ _ _
    refine st1 (fun _=>rfl) rfl ?_;refine st1 (v:=.int .i64 ((l1.length:Int)-1-(j+1:Nat))) (fun _=>rfl) ?_ ?_
    ·show (if IntKind.i64=IntKind.i64 then some (Value.int .i64 (IntKind.i64.wrap ((l1.length:Int)-1-j-1)),τ') else none)=_
     rw[if_pos rfl,wrap64_id (by omega)]
     simp only[Option.some.injEq,Prod.mk.injEq,Value.int.injEq,true_and,and_true];omega
    refine st1 (fun _=>rfl) rfl ?_;exact⟨l1.length-(j+1),by omega,j+1,by omega,rfl,rfl,hJ'⟩
   ·show vops _ _ _ _ _
    refine st1 (v:=.bool true) (fun _=>rfl) rfl ?_;show vcond (.bool true) _ _
    refine⟨fun _=>?_,fun e=>by cases e⟩
    exact hQ2 _ hE _
 ·have hlt:¬ (0:Int)≤(l1.length:Int)-1-j:=by simpa using hlt
  have hj:j=l1.length:=by omega
  subst hj;exact hQ1 hJ _
theorem bw_ok {f:Nat}{k:Kind}(h:Fun P f (bwCode (!k.one) k.size) [] 19) (hm:P.follows .mixedOrders=true):ItOk P f (bwIt k):=by
 refine⟨h.enterable,fun B args vs c m ar xs hs hit hc=>?_⟩;unfold bwIt at hit;split at hit
 ·rename_i l0;split at hit
  ·rename_i k' l1;split at hit
   ·rename_i l hl;unfold castL at hl;split at hl
    ·rename_i e;subst e;obtain rfl:=osj hl;obtain⟨rfl,rfl,rfl,rfl⟩:=(by simpa using hit:(l1.length<4611686018427387904)=c∧l1.length=m∧2=ar∧_=xs)
     refine⟨fun j=>⟨rfl,by simp only[SVs.pure,SV.pure,kval_pure];rfl⟩,fun i Y J E τ0 hY hle hround h0=>?_⟩
     simp only[SRs,SR] at hs;obtain⟨cap,_,rfl,⟨b,cc,e,wr,t,hb,rfl,x,_,rfl,⟨y,hy,hsl⟩,rfl⟩,rfl⟩:=hs;obtain rfl:x=y:=by simpa using hy
     have cell:∀ τ,B.Le τ→τ.get b=some (.cells [x] e wr t):=fun τ hτ=>hτ.2 _ _ hb;obtain⟨xa,xcap,hxs⟩:=SlRel.len hsl;have hxl:∀ (env:Env) (σ:Heap) (j:Nat),evalO env (.tmp j)=x→vact (.len (.tmp j)) (evalO env) σ=some (.int .i64 l1.length,σ):=fun env σ j hj=>by
      simp only[vact,hj,hxs]
     refine h.callsTo hm okSem ?_;have hld:∀ (env:Env) (σ:Heap) (j:Nat),B.Le σ→evalO env (.tmp j)=.pointer (some ⟨b,0,none⟩)→vact (.load false 1 (.tmp j)) (evalO env) σ=some (x,σ):=fun env σ j hσ hj=>by
      simp only[vact,hj,cell σ hσ,vpart];rfl
     have h0le:=hle 0 τ0 h0;show vops _ _ _ _ _
     refine st1 (fun _=>rfl) (hld _ _ _ h0le rfl) ?_;refine st1 (fun _=>rfl) (hxl _ _ _ rfl) ?_;refine st1 (v:=.int .i64 ((l1.length:Int)-1)) (fun _=>rfl) ?_ ?_
     ·show (if IntKind.i64=IntKind.i64 then some (Value.int .i64 (IntKind.i64.wrap ((l1.length:Int)-1)),τ0) else none)=_
      rw[if_pos rfl,wrap64_id (by omega)]
     refine st1 (v:=.int .i64 ((l1.length:Int)-1)) (fun _=>rfl) rfl ?_;show VLoop _ _ _ _
     refine⟨[0,1,3],fun n vs τ=>∃ j,j≤l1.length∧n=l1.length-j∧vs=[.func (.yield i) #[] #[],.pointer (some ⟨b,0,none⟩),.int .i64 ((l1.length:Int)-1-j)]∧J j τ,l1.length,⟨0,Nat.zero_le _,rfl,?_,h0⟩,fun n vs τ ⟨j,hj1,hj2,hj3,hJ⟩=>?_⟩
     ·simp[pickE]
     ·subst hj3;have hjle:=hle j τ hJ;refine bw_round (J:=J) (E:=E) hY (fun env jj h=>hld _ _ _ hjle h) hsl hjle hj1 hc (fun hlt us hus=>hround j us τ hlt hJ hus) ?_ ?_ hJ hj2 _ rfl
      ·exact fun hJ env=>⟨_,_,.refl _ _ _,.inl hJ⟩
      ·exact fun τ hE env=>⟨_,_,.refl _ _ _,.inr hE⟩
    ·cases hl
   ·cases hit
  ·cases hit
 ·cases hit
theorem YlOk.nil:∀ o y,alook ([]:List (Nat×YSp)) o=some y→YldOk P o y:=fun o y h=>by cases h
theorem IysOk.nil:∀ f x,alook ([]:List (Nat×IYSp)) f=some x→IyOk P f x:=fun f x h=>by cases h
theorem XsOk.nil:∀ f x,alook ([]:List (Nat×XSp)) f=some x→XOk P f x:=fun f x h=>by cases h
theorem XsOk.cons {f:Nat}{x:XSp}{l:List (Nat×XSp)}(h:XOk P f x) (t:∀ g y,alook l g=some y→XOk P g y):∀ g y,alook ((f,x)::l) g=some y→XOk P g y:=fun g y hg=>by
 simp only[alook] at hg;cases hb:Nat.beq f g with
 |true=>rw[hb] at hg;obtain rfl:=Nat.eq_of_beq_eq_true hb;obtain rfl:=osj hg;exact h
 |false=>rw[hb] at hg;exact t g y hg
theorem ItsOk.nil:∀ f x,alook ([]:List (Nat×ISp)) f=some x→ItOk P f x:=fun f x h=>by cases h
theorem ItsOk.cons {f:Nat}{x:ISp}{l:List (Nat×ISp)}(h:ItOk P f x) (t:∀ g y,alook l g=some y→ItOk P g y):∀ g y,alook ((f,x)::l) g=some y→ItOk P g y:=fun g y hg=>by
 simp only[alook] at hg;cases hb:Nat.beq f g with
 |true=>rw[hb] at hg;obtain rfl:=Nat.eq_of_beq_eq_true hb;obtain rfl:=osj hg;exact h
 |false=>rw[hb] at hg;exact t g y hg
def apNone:Ap:=fun _ _=>none
theorem apNone_ok:ApOk P apNone:=fun _ _ _ _ _ _ _ _ _ h=>by cases h
end
end Go.V
namespace Go.Proofs.Tryz
open Go Go.V Go.Proofs
theorem funbw89:Fun Tryz.prog 89 (bwCode true 2) [] 19:=⟨Tryz.f89,Tryz.func89,by kernel_rfl,by kernel_rfl,rfl,rfl⟩
end Go.Proofs.Tryz
namespace Go.V
open Go
def mapIn (kk vk:Kind):OB→Option (List (kk.T×vk.T))
 |.map kk' vk' m=>if h:kk'=kk∧vk'=vk then some (h.1▸h.2▸m) else none
 |_=>none
section
variable {P:Program}
theorem mapIn_some {kk vk:Kind}{b:OB}{m:List (kk.T×vk.T)}(h:mapIn kk vk b=some m):b=.map kk vk m:=by
 unfold mapIn at h;split at h
 ·split at h
  ·rename_i e;obtain⟨rfl,rfl⟩:=e;obtain rfl:=osj h;rfl
  ·cases h
 ·cases h
def XOkM (P:Program) (f:Nat) (x:XSp) (j:Nat):Prop:=XOk P f x∧XOkF P f x j
theorem XfOk.nil {xs:List (Nat×XSp)}:∀ f j,alook ([]:List (Nat×Nat)) f=some j→∀ x,alook xs f=some x→XOkF P f x j:=fun f j h=>by cases h
theorem XfOk.cons {xs:List (Nat×XSp)}{g k:Nat}{y:XSp}{l:List (Nat×Nat)}(hy:alook xs g=some y) (h:XOkF P g y k) (t:∀ f j,alook l f=some j→∀ x,alook xs f=some x→XOkF P f x j):∀ f j,alook ((g,k)::l) f=some j→∀ x,alook xs f=some x→XOkF P f x j:=fun f j hf x hx=>by
 simp only[alook] at hf;cases hb:Nat.beq g f with
 |true =>
  rw[hb] at hf;obtain rfl:=Nat.eq_of_beq_eq_true hb;obtain rfl:=osj hf;obtain rfl:=osj (hy.symm.trans hx);exact h
 |false=>rw[hb] at hf;exact t f j hf x hx
end
end Go.V
namespace Go.V
open Go
abbrev NSp (kk vk:Kind):=Ap→List (kk.T×vk.T)→List SV→Option (Prop×SV)
def lentN (ap:Ap) (kk vk:Kind) (sp:NSp kk vk):XSp:=fun _ args s K =>
 match args with
 |.map o::args=>(match mapIn kk vk (oget s.own o) with
  |some m=>(match sp ap m (ress (oset s.own o .dead) args) with
   |some (c,v)=>bif v.ret 0 then c∧K v ⟨s.env,oset s.own o .dead,s.nx⟩ else False
   |none=>False)
  |none=>False)
 |_=>False
def nstart (nt:Nat) (kk vk:Kind) (m:List (kk.T×vk.T)) (args:List SV):St:=⟨.map 0::(args++List.replicate (nt-(args.length+1)) .any),[(0,.map kk vk m)],0⟩
def nendK (rs:List VResult) (v:SV):Exit→St→Prop:=fun e s =>
 let fin:=match gresults s rs with
  |some r=>svEq [] v r
  |_=>False
 match e with
 |.normal=>fin
 |.ret=>fin
 |_=>False
section
variable {P:Program}
theorem lentN_okF {f:Nat}{vc:VCode}{rs:List VResult}{nt:Nat}(h:Fun P f vc rs nt) (hm:P.follows .mixedOrders=true) {kk vk:Kind}{sp:NSp kk vk}{ap:Ap}(k0:Nat)
  (hb:∀ m as0 c v,sp ap m as0=some (c,v)→c→∃ (C:Cx) (L:List (Nat×LoopAnn)) (as':List SV),SVs.pure as'=true∧(∀ σ vs,SRs P σ noPl noTb as0 vs→SRs P σ noPl noTb as' vs)∧COk P C∧gwp C L vc 0 (nendK rs v) (nstart nt kk vk m as')):XOkF P f (lentN ap kk vk sp) k0:=by
 intro B F pl tb s env σ d args vs K R tt hG ha htt hx hK;unfold lentN at hx;split at hx
 ·rename_i o args;split at hx
  ·rename_i m hmap;have hown:=mapIn_some hmap;split at hx
   ·rename_i c v hsp;cases hvr:v.ret 0 with
    |false=>rw[hvr] at hx;exact hx.elim
    |true =>
    rw[hvr] at hx;obtain⟨hc,hx⟩:=hx;simp only[SRs] at ha;obtain⟨u,us,rfl,hau,hus⟩:=ha;have hot:o=tt:=by simpa [mtouch,mcells] using htt
    have hlive:(oget s.own o).live=true:=by rw[hown];rfl
    have hob:=hG.obj o;rw[hown] at hob;obtain⟨id,es,clock,hpo,hid,hmc⟩:=hob;simp only[SR] at hau;obtain rfl:u=pl o:=hau.1;have hidF:F.get id=none:=hG.fresh o id hlive (by rw[hpo];rfl)
    have hidB:B.get id=none:=by
     cases hg:B.get id with
     |none=>rfl
     |some b=>have:=hG.bf.2 _ _ hg;rw[hidF] at this;cases this
    obtain⟨C,L,as',hp2,hd2,hcs',hg⟩:=hb _ _ c v hsp hc
    let σc:=σ.kill id
    have hBc:B.Le σc:=hG.leB.kill' hidB;have hFc:F.Le σc:=hG.le.kill' hidF;have hσc:σc.Le σ:=Heap.kill_le _ _;have hget:∀ k,k≠id→σc.get k=σ.get k:=fun k hk=>Heap.get_kill_ne _ hk;have hrs:∀ (xs:List SV) (vs:List Value),SRs P B pl tb xs vs→SRs P σc noPl noTb (ress (oset s.own o .dead) xs) vs:=fun xs vs hxs=>by
     refine ress_sound (own:=oset s.own o .dead) hBc (pl:=pl) (tb:=tb) (fun d=>?_) hxs;rw[oget_oset];by_cases e:d=o
     ·rw[if_pos e];trivial
     ·rw[if_neg e];exact(hG.obj d).mono (.refl _) (fun _ _ h=>h) fun hl i hi=>hget _ fun hio=>hG.sep d o i e hl hlive hi (by rw[hpo,hio];rfl)
    have hargs:=hd2 σc us (hrs _ _ hus)
    let plC:Nat→Value:=fun k=>if k=0 then pl o else poison
    have hmapv:∀ (B:Heap) (tb':Nat→Option Bool),SR P B plC tb' (.map 0) (pl o):=fun B tb'=>by
     simp only[SR];exact⟨by simp[plC],_,hpo⟩
    have hst:GRel P σc σc σ (nstart nt kk vk m as') (pl o::us++List.replicate (nt-(pl o::us).length) undef) σ:=by
     refine⟨σc,σc,plC,noTb,⟨.refl _,.refl _,fun _ _ _ h=>h,.refl _⟩,.refl _,hσc,?_,fun k=>?_,fun k i' h1 h2=>?_,fun k k' i' hne' h1 h2 h3 h4=>?_,fun _ _=>rfl⟩
     ·simp only[nstart,SRs,List.cons_append];refine⟨pl o,_,rfl,hmapv _ _,?_⟩;rw[hargs.length,List.length_cons];refine SRs.append ?_ (und_rel _);exact pures_sound _ _ hp2 hargs
     ·simp only[nstart,oget];by_cases e0:k=0
      ·subst e0;simp only[Nat.beq_refl,_root_.cond_true];exact⟨id,es,clock,by simp[plC,hpo],hid,hmc.mono hBc⟩
      ·rw[beq_ne (fun e=>e0 e.symm),cond_false];trivial
     ·simp only[nstart,oget] at h1;by_cases e0:k=0
      ·subst e0;have:Oid (pl o) i':=by simpa [plC] using h2
       rw[hpo] at this;obtain rfl:id=i':=osj this;exact Heap.get_kill_self _ _
      ·rw[beq_ne (fun e=>e0 e.symm),cond_false] at h1;cases h1
     ·have z:∀ k,(oget (nstart nt kk vk m as').own k).live=true→k=0:=fun k h1=>by
       simp only[nstart,oget] at h1;by_cases e0:k=0
       ·exact e0
       ·rw[beq_ne (fun e=>e0 e.symm),cond_false] at h1;cases h1
      exact hne' ((z k h1).trans (z k' h2).symm)
    refine h.calls hm okSem ?_;refine gwp_sound hcs' vc 0 _ _ _ σ none _ trivial hst hg fun e s' env' σ' h1 h2=>?_;have main:(match gresults s' rs with
     |some r=>svEq [] v r
     |_=>False)→obind (vresults env' σ' rs) fun v=>∃ v' σ'',DropTo σ v σ' v' σ''∧R v' σ'':=fun h=>by
     obtain⟨B',F',pl',tb',k1,k2⟩:=h2;split at h
     ·rename_i r hr;obtain⟨w,h3,h4⟩:=gresults_sound k2 hr;rw[h3];have hres:=(svEq_sound v r w h h4).retd (B':=B) (pl':=pl) (tb':=tb) (n:=0) (fun j hj=>by omega) _ _ hvr
      have hle:σc.Le σ':=k1.f.trans k2.le;have hsame:∀ d,d≠o→(oget s.own d).live=true→∀ i,Oid (pl d) i→σ'.get i=σ.get i:=fun d e hl i hi=>by
       have hlt:=(hG.obj d).id_lt hl hi;have hii:i≠id:=fun hio=>hG.sep d o i e hl hlive hi (by rw[hpo,hio];rfl)
       cases hg:σ.get i with
       |none=>exact k1.d.2 i hlt hg
       |some bb=>exact hle.2 _ _ (by rw[hget i hii];exact hg)
      have hlv:∀ d,(oget (oset s.own o .dead) d).live=true→d≠o∧(oget s.own d).live=true:=fun d h=>by
       rw[oget_oset] at h;by_cases e:d=o
       ·rw[if_pos e] at h;cases h
       ·rw[if_neg e] at h;exact⟨e,h⟩
      refine⟨w,σ',.refl _ _ _,hK v _ w σ' hx k1.d ⟨hG.bf,hFc.trans hle,hG.env,fun d=>?_,fun d i q1 q2=>hG.fresh d i (hlv d q1).2 q2,fun d d' i hne q1 q2 q3 q4=>hG.sep d d' i hne (hlv d q1).2 (hlv d' q2).2 q3 q4,hG.free⟩ hres fun q hq=>?_⟩
      ·simp only[oget_oset];by_cases e:d=o
       ·rw[if_pos e];trivial
       ·rw[if_neg e];exact(hG.obj d).mono (.refl _) (fun _ _ h=>h) fun hl i hi=>hsame d e hl i hi
      ·have hqo:q≠o:=fun e=>hq (by rw[e,hot];exact List.mem_singleton.2 rfl)
       exact⟨by simp only[oget_oset];rw[if_neg hqo],rfl,fun hl i hi=>hsame q hqo hl i hi⟩
     ·exact h.elim
    cases e with
    |normal=>exact main h1
    |ret=>exact main h1
    |_=>exact h1.elim
   ·exact hx.elim
  ·exact hx.elim
 ·exact hx.elim
theorem lentN_x {f:Nat}{kk vk:Kind}{sp:NSp kk vk}{ap:Ap}{k0:Nat}(h:XOkF P f (lentN ap kk vk sp) k0):XOk P f (lentN ap kk vk sp):=by
 intro B F pl tb s env σ d args vs K R hG ha hx hK;have:∃ t,mtouch s.own k0 args=some t:=by
  unfold lentN at hx;split at hx
  ·rename_i o args;exact⟨o,by simp[mtouch,mcells]⟩
  ·exact hx.elim
 obtain⟨t,ht⟩:=this;exact h B F pl tb s env σ d args vs K R t hG ha ht hx fun v s' u σ' k1 k2 k3 k4 _=>hK v s' B F pl tb u σ' k1 (.of hG.bf k2) k3 k4
def lspN {kk vk:Kind}{D:Type}(la:AL D) (pre:List (kk.T×vk.T)→D→Prop) (res:List (kk.T×vk.T)→D→SV):NSp kk vk:=fun ap m as0=>match AL.dec ap la as0 with
 |some a=>some (pre m a,res m a)
 |none=>none
theorem lentN_vc {f:Nat}{vc:VCode}{rs:List VResult}{nt:Nat}(h:Fun P f vc rs nt) (hm:P.follows .mixedOrders=true) {ap:Ap}(hap:ApOk P ap) {kk vk:Kind}{D:Type}{la:AL D}{pre:List (kk.T×vk.T)→D→Prop}{res:List (kk.T×vk.T)→D→SV}
  {C:Cx}(hcs:COk P C) {L:List (kk.T×vk.T)→D→List (Nat×LoopAnn)}{V:List (kk.T×vk.T)→D→Prop}
  (hq:∀ m y,gwp C (L m y) vc 0 (nendK rs (res m y)) (nstart nt kk vk m (AL.can la y))=V m y)
  (hb:∀ m y,pre m y→V m y):XOkM P f (lentN ap kk vk (lspN la pre res)) 0:=by
 have key:XOkF P f (lentN ap kk vk (lspN la pre res)) 0:=lentN_okF h hm 0 fun m as0 c v hs hc=>by
  unfold lspN at hs;split at hs
  ·rename_i y h2;obtain⟨rfl,rfl⟩:=(by simpa using hs:pre m y=c∧res m y=v)
   exact⟨C,L m y,AL.can la y,AL.can_pure la y,fun σ vs hv=>AL.dec_sound hap la h2 hv,hcs,(hq m y).mpr (hb m y hc)⟩
  ·cases hs
 exact⟨lentN_x key,key⟩
end
end Go.V
namespace Go.V
open Go
abbrev PSp (kk vk:Kind):=Ap→List SV→Option (Prop×List SV×(List (kk.T×vk.T)→Prop))
def callP (ap:Ap) (kk vk:Kind) (sp:PSp kk vk):XSp:=fun d args s K=>match sp ap (ress s.own args) with
 |some (c,vs,post)=>bif SVs.ret 0 vs then c∧∀ m',post m'→K (.tup (.map d::vs)) (s.make d (.map kk vk m')) else False
 |none=>False
def pstart (nt:Nat) (args:List SV):St:=⟨args++List.replicate (nt-args.length) .any,[],0⟩
def pendK (rs:List VResult) (kk vk:Kind) (vs:List SV) (post:List (kk.T×vk.T)→Prop):Exit→St→Prop:=fun e s =>
 let fin:=match gresults s rs with
  |some (.tup (.map k::r))=>(match mapIn kk vk (oget s.own k) with
   |some m'=>svEqs [] vs r∧post m'
   |none=>False)
  |_=>False
 match e with
 |.normal=>fin
 |.ret=>fin
 |_=>False
section
variable {P:Program}
theorem SRs.retd0 {B B':Heap}{pl pl':Nat→Value}{tb tb':Nat→Option Bool}:∀ (l:List SV) (us:List Value),SVs.ret 0 l=true→SRs P B pl tb l us→SRs P B' pl' tb' l us
 |[],us,_,h=>by simpa [SRs] using h
 |s::l,us,hr,h=>by
  simp only[SVs.ret,Bool.and_eq_true] at hr;simp only[SRs] at h ⊢;obtain⟨u,us',rfl,h1,h2⟩:=h;exact⟨u,us',rfl,h1.retd (n:=0) (fun j hj=>by omega) _ _ hr.1,SRs.retd0 l us' hr.2 h2⟩
theorem callP_ok {f:Nat}{vc:VCode}{rs:List VResult}{nt:Nat}(h:Fun P f vc rs nt) (hm:P.follows .mixedOrders=true) {kk vk:Kind}(hflat:(kk.flat&&vk.flat)=true) {sp:PSp kk vk}{ap:Ap}
  (hb:∀ as0 c vs post,sp ap as0=some (c,vs,post)→c→∃ (C:Cx) (L:List (Nat×LoopAnn)) (as':List SV),SVs.pure as'=true∧(∀ σ us,SRs P σ noPl noTb as0 us→SRs P σ noPl noTb as' us)∧COk P C∧gwp C L vc 0 (pendK rs kk vk vs post) (pstart nt as')):XOk P f (callP ap kk vk sp):=by
 intro B F pl tb s env σ d args vals K R hG ha hx hK;unfold callP at hx;split at hx
 ·rename_i c vs post hsp;cases hvr:SVs.ret 0 vs with
  |false=>rw[hvr] at hx;exact hx.elim
  |true =>
  rw[hvr] at hx;obtain⟨hc,hx⟩:=hx;obtain⟨C,L,as',hp2,hd2,hcs',hg⟩:=hb _ c vs post hsp hc;have hargs:=hd2 σ vals (ress_sound (own:=s.own) hG.leB (pl:=pl) (tb:=tb) (fun d=>hG.obj d) ha);have hst:GRel P σ σ σ (pstart nt as') (vals++List.replicate (nt-vals.length) undef) σ:=by
   refine⟨σ,σ,fun _=>poison,noTb,⟨.refl _,.refl _,fun _ _ _ h=>h,.refl _⟩,.refl _,.refl _,?_,fun k=>?_,fun k i' h1 h2=>?_,fun k k' i' hne' h1 h2 h3 h4=>?_,fun _ _=>rfl⟩
   ·simp only[pstart];rw[hargs.length];exact SRs.append (pures_sound _ _ hp2 hargs) (und_rel _)
   ·simp only[pstart,oget];trivial
   ·simp only[pstart,oget] at h1;cases h1
   ·simp only[pstart,oget] at h1;cases h1
  refine h.calls hm okSem ?_;refine gwp_sound hcs' vc 0 _ _ _ σ none _ trivial hst hg fun e s' env' σ' h1 h2=>?_;have main:(match gresults s' rs with
   |some (.tup (.map k::r))=>(match mapIn kk vk (oget s'.own k) with
    |some m'=>svEqs [] vs r∧post m'
    |none=>False)
   |_=>False)→obind (vresults env' σ' rs) fun v=>∃ v' σ'',DropTo σ v σ' v' σ''∧R v' σ'':=fun h=>by
   obtain⟨B',F',pl',tb',k1,k2⟩:=h2;split at h
   ·rename_i k r hr;split at h
    ·rename_i m' hmi;obtain⟨g1,g2⟩:=h;have hown:=mapIn_some hmi;obtain⟨w,h3,h4⟩:=gresults_sound k2 hr;rw[h3];simp only[SR,SRs] at h4;obtain⟨cs,rfl,mv,ws,rfl,⟨rfl,_⟩,h5⟩:=h4;have hres:=SRs.retd0 (B':=B) (pl':=updP pl d (pl' k)) (tb':=tb) vs ws hvr (svEqs_sound vs r ws g1 h5);have hob:=k2.obj k;rw[hown] at hob;have hle:σ.Le σ':=k1.f.trans k2.le
     have hor:OR P B (updP pl d (pl' k)) tb σ' (pl' k) (.map kk vk m'):=hob.retd hflat fun _ _=>rfl;have hlive:(oget s'.own k).live=true:=by rw[hown];rfl
     have hnew:∀ i,Oid (pl' k) i→σ.get i=none:=fun i hi=>by
      cases hg:σ.get i with
      |none=>rfl
      |some b =>
       have:=k2.fresh k i hlive hi;have h9:=k1.f.2 _ _ hg;rw[this] at h9;cases h9
     have hgam:Gam P B F (updP pl d (pl' k)) tb (s.make d (.map kk vk m')) env σ':=by
      refine hG.make d _ (pl' k) (hG.le.trans hle) (fun j i _ hl hi=>?_) hor fun i _ hi=>⟨?_,fun j _ hl hj=>?_⟩
      ·cases hg:σ.get i with
       |none=>exact k1.d.2 i ((hG.obj j).id_lt hl hi) hg
       |some bb=>exact hle.2 _ _ hg
      ·cases hg:F.get i with
       |none=>rfl
       |some b=>have:=hG.le.2 _ _ hg;rw[hnew i hi] at this;cases this
      ·have hlt:=(hG.obj j).id_lt hl hj;have:=k1.d.2 i hlt (hnew i hi);obtain⟨id,es,clock,e1,e2,_⟩:=hor;rw[e1] at hi;obtain rfl:id=i:=osj hi;rw[this] at e2;cases e2
     refine⟨_,σ',.refl _ _ _,hK _ _ B F _ tb _ σ' (hx m' g2) (.of hG.bf k1.d) hgam ?_⟩;obtain⟨id,es,clock,e1,_⟩:=hor;simp only[SR,SRs];exact⟨_,rfl,_,_,rfl,⟨by simp[updP],_,e1⟩,hres⟩
    ·exact h.elim
   ·exact h.elim
  cases e with
  |normal=>exact main h1
  |ret=>exact main h1
  |_=>exact h1.elim
 ·exact hx.elim
def pspP {kk vk:Kind}{D:Type}(la:AL D) (pre:D→Prop) (res:D→List SV) (post:D→List (kk.T×vk.T)→Prop):PSp kk vk:=fun ap as0=>match AL.dec ap la as0 with
 |some a=>some (pre a,res a,post a)
 |none=>none
theorem callP_vc {f:Nat}{vc:VCode}{rs:List VResult}{nt:Nat}(h:Fun P f vc rs nt) (hm:P.follows .mixedOrders=true) {ap:Ap}(hap:ApOk P ap) {kk vk:Kind}(hflat:(kk.flat&&vk.flat)=true) {D:Type}{la:AL D}{pre:D→Prop}{res:D→List SV}{post:D→List (kk.T×vk.T)→Prop}
  {C:Cx}(hcs:COk P C) {L:D→List (Nat×LoopAnn)}{V:D→Prop}
  (hq:∀ y,gwp C (L y) vc 0 (pendK rs kk vk (res y) (post y)) (pstart nt (AL.can la y))=V y)
  (hb:∀ y,pre y→V y):XOk P f (callP ap kk vk (pspP la pre res post)):=callP_ok h hm hflat fun as0 c vs q hs hc=>by
 unfold pspP at hs;split at hs
 ·rename_i y h2;obtain⟨rfl,rfl,rfl⟩:=(by simpa using hs:pre y=c∧res y=vs∧post y=q)
  exact⟨C,L y,AL.can la y,AL.can_pure la y,fun σ vs hv=>AL.dec_sound hap la h2 hv,hcs,(hq y).mpr (hb y hc)⟩
 ·cases hs
end
end Go.V
set_option linter.unusedVariables false
namespace Go.Proofs.Tryz
open Go Go.V Go.Proofs
def inI (n a b:Int):Bool:=decide (a≤n)&&decide (n≤b)
def idxF (l:List Int) (p:Int→Bool):Int:=match l.findIdx? p with|some i=>(i:Int)|none=>-1
def idxG {α:Type}(l:List α) (p:α→Bool):Int:=match l.findIdx? p with|some i=>(i:Int)|none=>-1
theorem idxG_some {α:Type}{l:List α}{p:α→Bool}{k:Nat}(hk:k<l.length) (h:p l[k]=true) (hJ:(l.take k).any p=false):idxG l p=k:=by
 have:l.findIdx? p=some k:=by
  rw[List.findIdx?_eq_some_iff_getElem];refine⟨hk,h,fun j hj=>?_⟩;have hn:=List.any_eq_false.1 hJ l[j] (List.mem_take_iff_getElem.2 ⟨j,by omega,rfl⟩)
  simpa using hn
 simp[idxG,this]
theorem idxG_none {α:Type}{l:List α}{p:α→Bool}(hJ:l.any p=false):idxG l p=-1:=by
 have:l.findIdx? p=none:=by
  rw[List.findIdx?_eq_none_iff];intro x hx;have:=List.any_eq_false.1 hJ x hx;simpa using this
 simp[idxG,this]
theorem idxG_any {α:Type}(l:List α) (p:α→Bool):(decide (idxG l p≥0))=l.any p:=by
 cases h:l.any p with
 |false=>rw[idxG_none h];rfl
 |true =>
  have:(l.findIdx? p).isSome=true:=by rw[List.findIdx?_isSome,h]
  obtain⟨i,hi⟩:=Option.isSome_iff_exists.1 this;have e:idxG l p=(i:Int):=by simp[idxG,hi]
  rw[e];exact decide_eq_true (Int.natCast_nonneg i)
abbrev Sp:=Int×Int
abbrev En:=Int×Int
def realB (s:Int) (x:En):Sp:=(gmax 0 (x.2-s),x.2+s)
def bothB (a b:Sp):Sp:=(gmax a.1 b.1,gmin a.2 b.2)
def anyB:Sp:=(0,1099511627776)
def afterB (s:Int) (p:Sp) (x:En):Sp:=if x.1=1 then bothB anyB (p.1-(realB s x).2,p.2-(realB s x).1) else if x.1=2 then (p.1+(realB s x).1,p.2+(realB s x).2) else bothB p (realB s x)
def beforeB (s:Int) (p:Sp) (x:En):Sp:=if x.1=1 then (p.1+(realB s x).1,p.2+(realB s x).2) else if x.1=2 then bothB anyB (p.1-(realB s x).2,p.2-(realB s x).1) else bothB p (realB s x)
def stB (g s:Int) (l:List En) (k:Nat):Sp:=(l.take k).foldl (afterB s) (g,g)
def badB (g s:Int) (l:List En) (k:Nat):Bool:=decide ((stB g s l (k+1)).1 > (stB g s l (k+1)).2)
def wrongN (g s:Int) (l:List En):Option Nat:=(List.range l.length).find? (badB g s l)
def wrongI (g s:Int) (l:List En):Int:=match wrongN g s l with|some k=>(k:Int)|none=>-1
def forthW (g s:Int) (l:List En):List Sp:=(List.range (match wrongN g s l with|some k=>k+1|none=>l.length+1)).map (stB g s l)
def enOk (x:En):Prop:=1≤x.1∧x.1≤3∧0≤x.2∧x.2≤12000000
def bookOk (g s:Int) (l:List En):Prop:=1≤g∧g≤1000000∧0≤s∧s≤1000∧l.length≤40∧∀ x∈l,enOk x
def entErr (g s:Int) (l:List En):Int:=if !inI g 1 1000000||!inI s 0 1000 then 2 else if 40<l.length then 5 else if l.any (fun x=>!inI x.1 1 3||!inI x.2 0 12000000) then 2 else 0
def bookErr (g s:Int) (l:List En):Int:=if entErr g s l≠0 then entErr g s l else if wrongI g s l≥0 then 90 else 0
def bookAt (g s:Int) (l:List En):Int:=if entErr g s l=0∧wrongI g s l≥0 then wrongI g s l else 0
def bookSp (g s:Int) (l:List En):Sp:=if bookErr g s l=0 then stB g s l l.length else (0,0)
def restB (s:Int) (l:List En):Sp:=l.foldr (fun x r=>beforeB s r x) anyB
def wasErr (g s:Int) (l:List En) (e:Int):Int:=if bookErr g s l≠0 then bookErr g s l else if !inI e 0 (l.length-1) then 7 else 0
def entB (s:Int) (p r:Sp) (x:En):Sp:=bothB (if x.1=1 then (p.1-r.2,p.2-r.1) else if x.1=2 then (r.1-p.2,r.2-p.1) else bothB p r) (realB s x)
def wasK (g s:Int) (l:List En) (k:Nat):Sp:=entB s (stB g s l k) (restB s (l.drop (k+1))) (l.getD k (0,0))
def wasSp (g s:Int) (l:List En) (e:Int):Sp:=if wasErr g s l e=0 then wasK g s l e.toNat else (0,0)
theorem nI (n a b:Int):(!inI n a b)=(decide (n<a)||decide (b<n)):=by
 simp only[inI,Bool.not_and];by_cases h1:a≤n<;>by_cases h2:n≤b<;>simp[h1,h2]<;>omega
theorem gmax_eq (a b:Int):gmax a b=max a b:=by unfold gmax;split<;>omega
theorem gmin_eq (a b:Int):gmin a b=min a b:=by unfold gmin;split<;>omega
theorem stB_zero (g s:Int) (l:List En):stB g s l 0=(g,g):=rfl
theorem stB_succ {g s:Int}{l:List En}{k:Nat}(h:k<l.length):stB g s l (k+1)=afterB s (stB g s l k) l[k]:=by
 unfold stB;rw[take_succ_eq h,List.foldl_append];rfl
def Sub (a b:Sp):Prop:=b.1≤a.1∧a.2≤b.2
def Ne (a:Sp):Prop:=a.1≤a.2
theorem afterB_bd {s:Int}{p:Sp}{x:En}{B:Int}(hs:0≤s∧s≤1000) (hx:enOk x) (hp:0≤p.1∧p.1≤B∧-100000000≤p.2∧p.2≤B):0≤(afterB s p x).1∧(afterB s p x).1≤B+12001000∧-100000000≤(afterB s p x).2+12001000∧(afterB s p x).2≤B+12001000:=by
 obtain⟨h1,h2,h3,h4⟩:=hx;unfold afterB bothB realB anyB;simp only[gmax_eq,gmin_eq];split
 ·dsimp only;omega
 ·split
  ·dsimp only;omega
  ·dsimp only;omega
theorem afterB_mono {s s':Int}{p p':Sp}{x:En}(hs:0≤s∧s≤s') (hp:Sub p p'):Sub (afterB s p x) (afterB s' p' x):=by
 unfold Sub at hp ⊢;unfold afterB bothB realB anyB;simp only[gmax_eq,gmin_eq];split
 ·dsimp only;omega
 ·split
  ·dsimp only;omega
  ·dsimp only;omega
theorem Sub.refl (a:Sp):Sub a a:=⟨Int.le_refl _,Int.le_refl _⟩
theorem wrong_none {g s:Int}{l:List En}:wrongI g s l<0↔∀ k,k<l.length→Ne (stB g s l (k+1)):=by
 unfold wrongI wrongN;cases h:(List.range l.length).find? (badB g s l) with
 |none =>
  rw[List.find?_eq_none] at h;refine⟨fun _ k hk=>?_,fun _=>by simp⟩
  have:=h k (List.mem_range.2 hk);simp only[badB,decide_eq_true_eq] at this;unfold Ne;omega
 |some k =>
  rw[List.find?_eq_some_iff_getElem] at h;obtain⟨h1,i,hi,hk,h2⟩:=h;simp only[List.length_range] at hi;simp only[List.getElem_range] at hk;subst hk;refine⟨fun h=>by simp at h;omega,fun h=>?_⟩
  have:=h i hi;simp only[badB,decide_eq_true_eq] at h1;unfold Ne at this;omega
theorem entErr_zero {g s:Int}{l:List En}(h:entErr g s l=0):bookOk g s l:=by
 unfold entErr at h;split at h
 ·cases h
 ·rename_i h1;split at h
  ·cases h
  ·rename_i h2;split at h
   ·cases h
   ·rename_i h3;simp only[Bool.or_eq_true,Bool.not_eq_true',inI,Bool.and_eq_false_iff,decide_eq_false_iff_not] at h1;refine⟨by omega,by omega,by omega,by omega,by omega,fun x hx=>?_⟩
    have:=List.any_eq_false.1 (Bool.eq_false_iff.2 h3) x hx;simp only[Bool.or_eq_true,Bool.not_eq_true',inI,Bool.and_eq_false_iff,decide_eq_false_iff_not] at this;unfold enOk;omega
theorem stB_bd {g s:Int}{l:List En}(h:bookOk g s l):∀ k,k≤l.length→(∀ j,j<k→j+1<k→Ne (stB g s l (j+1)))→0≤(stB g s l k).1∧(stB g s l k).1≤1000000+12001000*k∧-100000000≤(stB g s l k).2∧(stB g s l k).2≤1000000+12001000*k
 |0,_,_=>by obtain⟨h1,h2,_⟩:=h;simp only[stB_zero];omega
 |k+1,hk,hn=>by
  have ih:=stB_bd h k (by omega) fun j h1 h2=>hn j (by omega) (by omega)
  obtain⟨h1,h2,h3,h4,h5,h6⟩:=h;have hx:=h6 _ (List.getElem_mem (show k<l.length by omega))
  have h0:0≤(stB g s l k).2:=by
   cases k with
   |zero=>simp only[stB_zero];omega
   |succ j=>have:=hn j (by omega) (by omega);unfold Ne at this;omega
  have:=afterB_bd (B:=1000000+12001000*k) (p:=stB g s l k) ⟨h3,h4⟩ hx (by omega)
  rw[stB_succ (by omega)]
  have e:(12001000*((k+1:Nat):Int))=12001000*k+12001000:=by omega
  rw[e];refine⟨this.1,by omega,?_,by omega⟩
  obtain⟨a,b,c,d⟩:=hx;unfold afterB bothB realB anyB;simp only[gmax_eq,gmin_eq];split
  ·dsimp only;omega
  ·split
   ·dsimp only;omega
   ·dsimp only;omega
def InB (p:Sp) (v:Int):Prop:=p.1≤v∧v≤p.2
def stepT (v:Int) (x:En) (t:Int):Int:=if x.1=1 then v-t else if x.1=2 then v+t else v
def okT (s v:Int) (x:En) (t:Int):Prop:=InB (realB s x) t∧(x.1=1→t≤v)∧(x.1≠1→x.1≠2→t=v)
def vT (g:Int) (l:List En) (w:List Int):Nat→Int
 |0=>g
 |k+1=>stepT (vT g l w k) (l.getD k (0,0)) (w.getD k 0)
structure Truth (g s:Int) (l:List En) (w:List Int):Prop where
 wl:w.length=l.length
 v0:∀ k,k≤l.length→0≤vT g l w k∧vT g l w k≤1000000000
 ok:∀ k,k<l.length→okT s (vT g l w k) (l.getD k (0,0)) (w.getD k 0)
theorem after_in {s v t:Int}{p:Sp}{x:En}(hv:InB p v) (h0:0≤stepT v x t∧stepT v x t≤1000000000) (ht:okT s v x t):InB (afterB s p x) (stepT v x t):=by
 obtain⟨h1,h2,h3⟩:=ht;unfold InB at *;unfold stepT afterB bothB anyB at *;unfold realB at *;simp only[gmax_eq,gmin_eq] at *;split
 ·rename_i hx;have:=h2 hx;rw[if_pos hx] at h0;dsimp only at *;omega
 ·rename_i hx;rw[if_neg hx] at h0;split
  ·rename_i hy;rw[if_pos hy] at h0;dsimp only at *;omega
  ·rename_i hy;have:=h3 hx hy;dsimp only at *;omega
theorem before_in {s v t:Int}{r:Sp}{x:En}(hr:InB r (stepT v x t)) (h0:0≤v∧v≤1000000000) (ht:okT s v x t):InB (beforeB s r x) v:=by
 obtain⟨h1,h2,h3⟩:=ht;unfold InB at *;unfold stepT at hr;unfold beforeB bothB anyB at *;unfold realB at *;simp only[gmax_eq,gmin_eq] at *;split
 ·rename_i hx;rw[if_pos hx] at hr;dsimp only at *;omega
 ·rename_i hx;rw[if_neg hx] at hr;split
  ·rename_i hy;rw[if_pos hy] at hr;dsimp only at *;omega
  ·rename_i hy;have:=h3 hx hy;rw[if_neg hy] at hr;dsimp only at *;omega
theorem truth_st {g s:Int}{l:List En}{w:List Int}(h:Truth g s l w):∀ k,k≤l.length→InB (stB g s l k) (vT g l w k)
 |0,_=>⟨Int.le_refl _,Int.le_refl _⟩
 |k+1,hk=>by
  have hlt:k<l.length:=hk;rw[stB_succ hlt,←getD_nat (d:=((0,0):En)) hlt];exact after_in (truth_st h k (by omega)) (h.v0 (k+1) hk) (h.ok k hlt)
theorem restB_cons {s:Int}{l:List En}{k:Nat}(h:k<l.length):restB s (l.drop k)=beforeB s (restB s (l.drop (k+1))) (l.getD k (0,0)):=by
 rw[List.drop_eq_getElem_cons h,getD_nat h];rfl
theorem truth_rest {g s:Int}{l:List En}{w:List Int}(h:Truth g s l w):∀ n k,n+k=l.length→InB (restB s (l.drop k)) (vT g l w k)
 |0,k,hk=>by
  have:=h.v0 k (by omega)
  rw[List.drop_eq_nil_of_le (by omega)]
  unfold InB restB anyB;simp only[List.foldr_nil];omega
 |n+1,k,hk=>by
  rw[restB_cons (by omega)]
  exact before_in (truth_rest h n (k+1) (by omega)) (h.v0 k (by omega)) (h.ok k (by omega))
theorem ent_in {s v t:Int}{p r:Sp}{x:En}(hp:InB p v) (hr:InB r (stepT v x t)) (ht:okT s v x t):InB (entB s p r x) t:=by
 obtain⟨h1,h2,h3⟩:=ht;unfold InB at *;unfold stepT at hr;unfold entB bothB at *;unfold realB at *;simp only[gmax_eq,gmin_eq] at *;split
 ·rename_i hx;rw[if_pos hx] at hr;dsimp only at *;omega
 ·rename_i hx;rw[if_neg hx] at hr;split
  ·rename_i hy;rw[if_pos hy] at hr;dsimp only at *;omega
  ·rename_i hy;have:=h3 hx hy;rw[if_neg hy] at hr;dsimp only at *;omega
theorem truth_was {g s:Int}{l:List En}{w:List Int}(h:Truth g s l w) {k:Nat}(hk:k<l.length):InB (wasK g s l k) (w.getD k 0) :=
 ent_in (truth_st h k (by omega)) (truth_rest h (l.length-(k+1)) (k+1) (by omega)) (h.ok k hk)
theorem truth_right {g s:Int}{l:List En}{w:List Int}(h:Truth g s l w):wrongI g s l<0:=by
 rw[wrong_none];intro k hk;have:=truth_st h (k+1) (by omega)
 unfold InB at this;unfold Ne;omega
def Ov (a b:Sp):Prop:=a.1≤a.2∧b.1≤b.2∧a.1≤b.2∧b.1≤a.2
theorem ov_step {s:Int}{p r:Sp}{x:En}(hs:0≤s) (hx:enOk x) (hp:0≤p.1∧p.1≤p.2∧p.2≤1099511627776) (hr:0≤r.1∧r.1≤r.2):Ov (afterB s p x) r↔Ov p (beforeB s r x):=by
 obtain⟨h1,h2,h3,h4⟩:=hx;unfold Ov afterB beforeB bothB realB anyB;simp only[gmax_eq,gmin_eq];by_cases e1:x.1=1
 ·rw[if_pos e1,if_pos e1];dsimp only;omega
 ·rw[if_neg e1,if_neg e1];by_cases e2:x.1=2
  ·rw[if_pos e2,if_pos e2];dsimp only;omega
  ·rw[if_neg e2,if_neg e2];dsimp only;omega
def feB (s:Int):List En→Sp→Prop
 |[],_=>True
 |x::l,p=>Ne (afterB s p x)∧feB s l (afterB s p x)
theorem before_pos {s:Int}{r:Sp}{x:En}(hr:0≤r.1):0≤(beforeB s r x).1:=by
 unfold beforeB bothB realB anyB;simp only[gmax_eq,gmin_eq];split
 ·dsimp only;omega
 ·split
  ·dsimp only;omega
  ·dsimp only;omega
theorem rest_pos {s:Int}:∀ l:List En,0≤(restB s l).1
 |[]=>Int.le_refl _
 |_::l=>before_pos (rest_pos l)
theorem after_pos {s:Int}{p:Sp}{x:En}(hx:enOk x) (hs:0≤s∧s≤1000) (hp:0≤p.1):0≤(afterB s p x).1∧(afterB s p x).2≤gmax p.2 0+12001000:=by
 obtain⟨h1,h2,h3,h4⟩:=hx;unfold afterB bothB realB anyB;simp only[gmax_eq,gmin_eq];split
 ·dsimp only;omega
 ·split
  ·dsimp only;omega
  ·dsimp only;omega
theorem fe_iff {s:Int}(hs:0≤s∧s≤1000):∀ (l:List En) (p:Sp),(∀ x∈l,enOk x)→0≤p.1→p.1≤p.2→p.2+12001000*l.length≤1099511627776→(∀ j,j≤l.length→Ne (restB s (l.drop j)))→(feB s l p↔Ov p (restB s l))
 |[],p,_,h1,h2,h3,_=>by
  simp only[feB,restB,List.foldr_nil,true_iff];unfold Ov anyB;simp at h3;dsimp only;omega
 |x::l,p,hx,h1,h2,h3,h4=>by
  have hx0:=hx x (by simp)
  have hr:=h4 1 (by simp)
  simp only[List.drop_succ_cons,List.drop_zero] at hr;obtain⟨a1,a2⟩:=after_pos (p:=p) hx0 hs h1;have e:gmax p.2 0=p.2:=by rw[gmax_eq];omega
  rw[e] at a2;have h3':p.2+12001000+12001000*l.length≤1099511627776:=by simp only[List.length_cons] at h3;omega
  show Ne (afterB s p x)∧feB s l (afterB s p x)↔Ov p (beforeB s (restB s l) x)
  rw[←ov_step hs.1 hx0 ⟨h1,h2,by omega⟩ ⟨rest_pos l,hr⟩]
  constructor
  ·rintro⟨k1,k2⟩;exact(fe_iff hs l _ (fun y hy=>hx y (by simp[hy])) a1 k1 (by omega) (fun j hj=>by simpa using h4 (j+1) (by simpa using hj))).1 k2
  ·intro k;exact⟨k.1,(fe_iff hs l _ (fun y hy=>hx y (by simp[hy])) a1 k.1 (by omega) (fun j hj=>by simpa using h4 (j+1) (by simpa using hj))).2 k⟩
def fixB (p:Sp) (x:En) (t:Int):Sp:=if x.1=1 then (gmax 0 (p.1-t),p.2-t) else if x.1=2 then (p.1+t,p.2+t) else (gmax p.1 t,gmin p.2 t)
theorem fix_ov {s:Int}{p r:Sp}{x:En}{t:Int}(hp:0≤p.1∧p.1≤p.2) (hr:0≤r.1∧r.1≤r.2):InB (entB s p r x) t↔InB (realB s x) t∧Ov (fixB p x t) r:=by
 unfold InB entB bothB Ov fixB;simp only[gmax_eq,gmin_eq];by_cases e1:x.1=1
 ·rw[if_pos e1,if_pos e1];dsimp only;omega
 ·rw[if_neg e1,if_neg e1];by_cases e2:x.1=2
  ·rw[if_pos e2,if_pos e2];dsimp only;omega
  ·rw[if_neg e2,if_neg e2];dsimp only;omega
theorem fix_sub {s:Int}{p:Sp}{x:En}{t:Int}(ht:InB (realB s x) t) (hp:p.2≤1099511627776) (h0:0≤t):Sub (fixB p x t) (afterB s p x):=by
 unfold InB at ht;unfold Sub fixB afterB bothB anyB;simp only[gmax_eq,gmin_eq];by_cases e1:x.1=1
 ·rw[if_pos e1,if_pos e1];dsimp only;omega
 ·rw[if_neg e1,if_neg e1];by_cases e2:x.1=2
  ·rw[if_pos e2,if_pos e2];dsimp only;omega
  ·rw[if_neg e2,if_neg e2];dsimp only;omega
def thR (s:Int) (x:En) (i e t:Int):Sp:=if i=e then (gmax (realB s x).1 t,gmin (realB s x).2 t) else realB s x
def thA (p r:Sp) (x:En):Sp:=if x.1=1 then (gmax 0 (p.1-r.2),p.2-r.1) else if x.1=2 then (p.1+r.1,p.2+r.2) else (gmax p.1 r.1,gmin p.2 r.2)
def thGo (s e t:Int):List En→Int→Sp→Sp×Bool
 |[],_,p=>(p,true)
 |x::l,i,p=>if (thR s x i e t).1 > (thR s x i e t).2 then (p,false) else if (thA p (thR s x i e t) x).1 > (thA p (thR s x i e t) x).2 then (thA p (thR s x i e t) x,false) else thGo s e t l (i+1) (thA p (thR s x i e t) x)
def thrU (g s:Int) (l:List En) (e t:Int):Sp×Bool:=thGo s e t l 0 (g,g)
theorem thA_after {s:Int}{p:Sp}{x:En}(hp:p.2≤1099511627776):thA p (realB s x) x=afterB s p x:=by
 unfold thA afterB bothB anyB realB;simp only[gmax_eq,gmin_eq];by_cases e1:x.1=1
 ·rw[if_pos e1,if_pos e1];simp only[Prod.mk.injEq,true_and];omega
 ·rw[if_neg e1,if_neg e1]
theorem real_ne {s:Int}{x:En}(hs:0≤s) (hx:enOk x):¬ (realB s x).1 > (realB s x).2:=by
 obtain⟨h1,h2,h3,h4⟩:=hx;unfold realB;rw[gmax_eq];dsimp only;omega
theorem thGo_fe {s e t:Int}(hs:0≤s∧s≤1000):∀ (l:List En) (i:Int) (p:Sp),e<i→(∀ x∈l,enOk x)→0≤p.1→p.1≤p.2→p.2+12001000*l.length≤1099511627776 →
  ((thGo s e t l i p).2=true↔feB s l p)∧((thGo s e t l i p).2=true→(thGo s e t l i p).1=l.foldl (afterB s) p)
 |[],_,p,_,_,_,_,_=>⟨⟨fun _=>trivial,fun _=>rfl⟩,fun _=>rfl⟩
 |x::l,i,p,hi,hx,h1,h2,h3=>by
  have hx0:=hx x (by simp)
  have hr:thR s x i e t=realB s x:=by unfold thR;rw[if_neg (by omega)]
  have hl:(0:Int)≤12001000*((x::l).length:Int):=by omega
  have h3':p.2+12001000+12001000*l.length≤1099511627776:=by simp only[List.length_cons] at h3;omega
  have hA:thA p (thR s x i e t) x=afterB s p x:=by rw[hr];exact thA_after (by omega)
  obtain⟨a1,a2⟩:=after_pos (p:=p) hx0 hs h1;have eg:gmax p.2 0=p.2:=by rw[gmax_eq];omega
  rw[eg] at a2;simp only[thGo,hA];rw[hr,if_neg (real_ne hs.1 hx0)];by_cases hn:(afterB s p x).1 > (afterB s p x).2
  ·rw[if_pos hn];refine⟨⟨(fun h=>by cases h),fun h=>?_⟩,fun h=>by cases h⟩
   have:=h.1;unfold Ne at this;omega
  ·rw[if_neg hn];obtain⟨b1,b2⟩:=thGo_fe (e:=e) (t:=t) hs l (i+1) (afterB s p x) (by omega) (fun y hy=>hx y (by simp[hy])) a1 (by omega) (by omega)
   refine⟨⟨fun h=>⟨by unfold Ne;omega,b1.1 h⟩,fun h=>b1.2 h.2⟩,fun h=>b2 h⟩
theorem thGo_pre {g s:Int}{l:List En}{w:List Int}(hb:bookOk g s l) (h:Truth g s l w) {e:Nat}{t:Int}:∀ k,k≤e→k≤l.length→thrU g s l e t=thGo s e t (l.drop k) k (stB g s l k)
 |0,_,_=>rfl
 |k+1,hk,hl=>by
  rw[thGo_pre hb h k (by omega) (by omega),List.drop_eq_getElem_cons (show k<l.length by omega)]
  have hn:=wrong_none.1 (truth_right h);have hbd:=stB_bd hb k (by omega) fun j h1 h2=>hn j (by omega)
  have hlen:=hb.2.2.2.2.1;have hx:=hb.2.2.2.2.2 _ (List.getElem_mem (show k<l.length by omega))
  have hr:thR s l[k] k e t=realB s l[k]:=by unfold thR;rw[if_neg (by omega)]
  have hA:thA (stB g s l k) (thR s l[k] k e t) l[k]=stB g s l (k+1):=by
   rw[hr,stB_succ (show k<l.length by omega)]
   exact thA_after (by omega)
  have hne:=hn k (by omega)
  unfold Ne at hne;simp only[thGo,hA];rw[hr,if_neg (real_ne hb.2.2.1 hx),if_neg (by omega)]
  congr 1
theorem foldl_mono {s:Int}(hs:0≤s):∀ (l:List En) {a b:Sp},Sub a b→Sub (l.foldl (afterB s) a) (l.foldl (afterB s) b)
 |[],_,_,h=>h
 |x::l,_,_,h=>by
  simp only[List.foldl_cons];exact foldl_mono hs l (afterB_mono ⟨hs,Int.le_refl _⟩ h)
theorem stB_fold {g s:Int}{l:List En}{k:Nat}:stB g s l l.length=(l.drop k).foldl (afterB s) (stB g s l k):=by
 unfold stB;rw[List.take_length,←List.foldl_append,List.take_append_drop]
theorem reach {g s:Int}{l:List En}{w:List Int}(hb:bookOk g s l) (h:Truth g s l w) {e:Nat}(he:e<l.length) {t:Int} :
  ((thrU g s l e t).2=true↔InB (wasK g s l e) t)∧((thrU g s l e t).2=true→Sub (thrU g s l e t).1 (stB g s l l.length)):=by
 have hn:=wrong_none.1 (truth_right h);have hbd:=stB_bd hb e (by omega) fun j h1 h2=>hn j (by omega)
 have hst:=truth_st h e (by omega)
 have hlen:=hb.2.2.2.2.1;have hs:=hb.2.2.1;have hs2:=hb.2.2.2.1;have hx:=hb.2.2.2.2.2 _ (List.getElem_mem he);have hrest:∀ j,j≤(l.drop (e+1)).length→Ne (restB s ((l.drop (e+1)).drop j)):=fun j hj=>by
  rw[List.length_drop] at hj;have:=truth_rest h (l.length-(e+1+j)) (e+1+j) (by omega)
  rw[List.drop_drop];unfold InB at this;unfold Ne;omega
 have hr0:=hrest 0 (by omega)
 rw[List.drop_zero] at hr0;have hfo:=fix_ov (s:=s) (p:=stB g s l e) (r:=restB s (l.drop (e+1))) (x:=l[e]) (t:=t) ⟨hbd.1,by unfold InB at hst;omega⟩ ⟨rest_pos _,hr0⟩
 have hwk:wasK g s l e=entB s (stB g s l e) (restB s (l.drop (e+1))) l[e]:=by unfold wasK;rw[getD_nat he]
 rw[thGo_pre hb h e (Nat.le_refl _) (by omega),List.drop_eq_getElem_cons he,hwk,hfo]
 simp only[thGo];have hR:thR s l[e] e e t=(gmax (realB s l[e]).1 t,gmin (realB s l[e]).2 t):=by unfold thR;rw[if_pos rfl]
 rw[hR];have hne:=real_ne hs hx;by_cases hin:InB (realB s l[e]) t
 ·have e1:gmax (realB s l[e]).1 t=t:=by unfold InB at hin;rw[gmax_eq];omega
  have e2:gmin (realB s l[e]).2 t=t:=by unfold InB at hin;rw[gmin_eq];omega
  have hA:thA (stB g s l e) (t,t) l[e]=fixB (stB g s l e) l[e] t:=by unfold thA fixB;rfl
  rw[e1,e2,if_neg (by omega),hA]
  have ht0:0≤t:=by unfold InB realB at hin;rw[gmax_eq] at hin;dsimp only at hin;omega
  have htm:t≤12001000:=by unfold InB realB at hin;dsimp only at hin;obtain⟨_,_,_,h4⟩:=hx;omega
  by_cases hF:(fixB (stB g s l e) l[e] t).1 > (fixB (stB g s l e) l[e] t).2
  ·rw[if_pos hF];refine⟨⟨(fun h=>by cases h),fun h=>?_⟩,fun h=>by cases h⟩
   have:=h.2.1;omega
  ·rw[if_neg hF];have f1:0≤(fixB (stB g s l e) l[e] t).1∧(fixB (stB g s l e) l[e] t).2≤(stB g s l e).2+12001000:=by
    unfold fixB;simp only[gmax_eq,gmin_eq];split
    ·dsimp only;omega
    ·split
     ·dsimp only;omega
     ·dsimp only;omega
   have hld:((l.drop (e+1)).length:Int)≤40:=by rw[List.length_drop];omega
   have hb2:(fixB (stB g s l e) l[e] t).2+12001000*((l.drop (e+1)).length:Int)≤1099511627776:=by omega
   have hxs:∀ x∈l.drop (e+1),enOk x:=fun x hx=>hb.2.2.2.2.2 x (List.mem_of_mem_drop hx);obtain⟨b1,b2⟩:=thGo_fe (e:=(e:Int)) (t:=t) ⟨hs,hs2⟩ (l.drop (e+1)) ((e:Int)+1) (fixB (stB g s l e) l[e] t) (by omega) hxs f1.1 (by omega) hb2
   refine⟨?_,fun h=>?_⟩
   ·rw[b1,fe_iff ⟨hs,hs2⟩ _ _ hxs f1.1 (by omega) hb2 hrest]
    exact⟨fun h=>⟨hin,h⟩,fun h=>h.2⟩
   ·rw[b2 h,stB_fold (k:=e+1),stB_succ he];exact foldl_mono hs _ (fix_sub hin (by omega) ht0)
 ·have:gmax (realB s l[e]).1 t > gmin (realB s l[e]).2 t:=by
   unfold InB at hin;rw[gmax_eq,gmin_eq];omega
  rw[if_pos this];exact⟨⟨(fun h=>by cases h),fun h=>(hin h.1).elim⟩,fun h=>by cases h⟩
theorem mapM_get {α β:Type}{f:α→Option β}:∀ {L:List α}{ys:List β},L.mapM f=some ys→ys.length=L.length∧∀ (i:Nat) (h:i<L.length) (h2:i<ys.length),f L[i]=some ys[i]
 |[],ys,h=>by
  simp at h;subst h;simp
 |a::L,ys,h=>by
  simp only[List.mapM_cons,Option.bind_eq_bind,Option.bind_eq_some_iff,Option.pure_def,Option.some.injEq] at h;obtain⟨y,hy,zs,hz,rfl⟩:=h;obtain⟨e1,e2⟩:=mapM_get hz;refine⟨by simp[e1],fun i h1 h2=>?_⟩
  cases i with
  |zero=>exact hy
  |succ i=>exact e2 i (by simpa using h1) (by simpa using h2)
theorem int_trod {H:Type}{enc:TypeId×Value→H}{P:Program}{w:World}{base:Nat}{sp:Nat→Bool}{held:Bool}{fuel:Nat}{t:TypeId}{k:IntKind}{c:Value}{y:DataW H×List MemPlace}
  (ht:P.underlying t=some (.int k)) (h:DataW.trod enc P w base sp held fuel t [c]=some y):∃ n,c=.int k n∧y=(.lit (.int k n),[]):=by
 cases fuel with
 |zero=>simp[DataW.trod] at h
 |succ fuel =>
  cases c<;>simp[DataW.trod,ht] at h;rename_i k' n;obtain⟨⟨rfl,_⟩,rfl⟩:=h;exact⟨n,rfl,rfl⟩
theorem tab_trod {H:Type}{enc:TypeId×Value→H}{P:Program}{w:World}{base:Nat}{sp:Nat→Bool}{held:Bool}{fuel:Nat}{t e:TypeId}{k:IntKind}{n:Nat}{l:List Value}{xs:List Int}{p:List MemPlace}
  (ht:P.underlying t=some (.array n e)) (he:P.underlying e=some (.int k)) (h1:P.cellsOf e=1) (hc:P.cellsOf t=n) (h:DataW.trod enc P w base sp held fuel t l=some (.agg (xs.map fun x=>.lit (.int k x)),p)):l=xs.map fun x=>.int k x:=by
 cases fuel with
 |zero=>simp[DataW.trod] at h
 |succ fuel =>
  simp only[DataW.trod,ht,h1,hc,Nat.mul_one] at h;split at h
  ·rename_i hl;simp only[Option.map_eq_some_iff,Prod.mk.injEq,DataW.agg.injEq] at h;obtain⟨ys,hm,hx,_⟩:=h;obtain⟨e1,e2⟩:=mapM_get hm;rw[List.length_range] at e1;have hlen:xs.length=ys.length:=by
    have:=congrArg List.length hx;simpa using this.symm
   refine List.ext_getElem (by rw[List.length_map];omega) fun i k1 k2=>?_
   have hy:=e2 i (by rw[List.length_range];omega) (by omega)
   rw[List.getElem_range,List.drop_eq_getElem_cons k1] at hy;simp only[List.take_succ_cons,List.take_zero] at hy;obtain⟨m,hm1,hm2⟩:=int_trod he hy;rw[hm1,List.getElem_map];have hxi:(ys.map (·.1))[i]'(by rw[List.length_map];omega)=(xs.map fun x=>(DataW.lit (Lit.int k x):DataW H))[i]'(by rw[List.length_map];omega):=by
    simp only[hx]
   rw[List.getElem_map,List.getElem_map,hm2] at hxi;simp only[DataW.lit.injEq,Lit.int.injEq,true_and] at hxi;rw[hxi]
  ·cases h
theorem tab_heap {P:Program}{nm:String}{g G:Nat}{t e:TypeId}{k:IntKind}{n fuel:Nat}{cs:Array Value}{xs:List Int}{p:List MemPlace}{W:World}(hv:W.var? P nm=some cs) (hG:P.globalNamed nm=some G) (hg:P.globalNamed nm=some g) {T:TypeId}(hT:(P.globals[G]?).map (·.type)=some T) (hgt:(P.globals[g]?).map (·.type)=some t)
  (ht:P.underlying T=some (.array n e)) (he:P.underlying e=some (.int k)) (h1:P.cellsOf e=1) (hc:P.cellsOf T=n) (hd:DataW.trod (fun _=>()) P W 0 (fun _=>true) false fuel t cs.toList=some (.agg (xs.map fun x=>.lit (.int k x)),p)):∃ e f,W.heap[G]?=some (.cells (xs.map fun x=>Value.int k x).toArray e f):=by
 obtain rfl:=osj (hG.symm.trans hg);obtain rfl:=osj (hT.symm.trans hgt);have hl:=tab_trod ht he h1 hc hd;unfold World.var? at hv;rw[hG] at hv;simp only[Option.bind_some] at hv;split at hv
 ·rename_i cs' a b hh;obtain rfl:=osj hv;refine⟨a,b,?_⟩;rw[hh,←hl]
 ·cases hv
end Go.Proofs.Tryz