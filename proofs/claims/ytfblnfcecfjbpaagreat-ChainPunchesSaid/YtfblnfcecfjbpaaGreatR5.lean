/- A framework for walks, contracts of functions, and their proofs: part 5. -/
import Derived.Test.YtfblnfcecfjbpaaGreatR4
set_option linter.unusedVariables false
set_option maxRecDepth 100000
namespace Go.V
open Go
section
variable {P:Program}
mutual
theorem Ao:∀ (v:SV) {K:SV→Prop},nmV v K→K v
 |.val k x,K,h=>by simp only[nmV] at h;exact h x rfl
 |.agg l,K,h=>by simp only[nmV] at h;exact HZ l h
 |.tup l,K,h=>by simp only[nmV] at h;exact HZ l h
 |.any,_,h|.dd _ _,_,h|.bid _ _,_,h|.grd _ _,_,h|.nilS,_,h|.nilP,_,h|.nilM,_,h|.nilF,_,h|.lst _,_,h|.sub _ _ _ _,_,h|.elp _ _ _ _,_,h|.rop _ _ _ _,_,h|.box _ _,_,h|.cp _ _,_,h|.map _,_,h|.fn _ _ _,_,h|.pf _ _ _ _,_,h=>by simp only[nmV] at h;exact h
theorem HZ:∀ (l:List SV) {K:List SV→Prop},Q68 l K→K l
 |[],K,h=>by simp only[Q68] at h;exact h
 |v::r,K,h=>by simp only[Q68] at h;exact HZ r (Ao v h)
end
theorem Zf {C:Cx}{o:VOp}{ev:Operand→SV}{v:SV}{K:SV→Prop}(h:gnm C o ev v K):K v:=by
 unfold gnm at h;cases hb:(C.nm&&Z48 o ev) with
 |true=>rw[hb] at h;exact Ao v h
 |false=>rw[hb] at h;exact h
theorem BK {B:Heap}{pl:Nat→Value}{tb:Nat→Option Bool}{v:SV}{u:Value}(h:SR P B pl tb v u):SR P B pl tb (Gn v) u∧gtb tb (Gn v):=by
 cases v with
 |bid n c=>simp only[SR] at h;obtain⟨rfl,_⟩:=h;exact⟨ZT _,trivial⟩
 |_=>exact⟨h,trivial⟩
theorem BR {tb:Nat→Option Bool}(v:SV):gtb tb (Gn v):=by cases v<;>trivial
theorem Bd {C:Cx}(az:COk P C) {B F:Heap}{pl:Nat→Value}{tb:Nat→Option Bool}{s:St}{env:Env}{σ:Heap}(hG:Gam P B F pl tb s env σ) {d:Nat}{f:SV}{args:List SV}{fV:Value}{vs:List Value}(hf:SR P B pl tb f fV) (ha:SRs P B pl tb args vs) {K:SV→St→Prop}(h:Av C d f args s K) {R:Value→Heap→Prop}
  (hK:∀ v s' B' F' pl' tb' u σ',K v s'→GBase B F σ B' F' σ'→Gam P B' F' pl' tb' s' env σ'→SR P B' pl' tb' v u→R u σ'):∃ g a b,fV=.func (.func g) a b∧VCalled P g (a.toList++vs++b.toList) σ R:=by
 unfold Av at h;have kM:SR P σ Jq ZF ((BG s.own [f]).getD 0 .any) fV:=by have:=(XC hG.leB hG.obj (show SRs P B pl tb [f] [fV] by simp only[SRs];exact⟨_,[],rfl,hf,rfl⟩)).getD 0 poison;simpa using this
 have jq:=XC hG.leB hG.obj ha;split at h
 ·rename_i c v bs heq;cases hb:(v.ret bs.length&&(bs.all OB.ret&&Nat.blt 0 C.nt)) with
  |false=>rw[hb] at h;exact h.elim
  |true =>rw[hb] at h;obtain⟨h1,h2⟩:=h;simp only[Bool.and_eq_true] at hb;obtain⟨g,a,b,e,aB,_⟩:=ZO az.cs kM jq heq hb.1 hb.2.1 h1;refine⟨g,a,b,e,aB.mono fun u σ' hr=>?_⟩;obtain⟨pl',h3,h4⟩:=hr.gam (nt:=C.nt) (d:=d) (by simpa [Nat.blt_eq] using hb.2.2) hG hb.1 hb.2.1;exact hK _ _ B F pl' tb u σ' h2 (.of hG.bf hr.1.2) h3 h4
 ·exact h.elim
theorem DU {C:Cx}(az:COk P C) {B F:Heap}{pl:Nat→Value}{tb:Nat→Option Bool}{s:St}{env:Env}{σ:Heap}(hG:Gam P B F pl tb s env σ) {d:Nat}{f:SV}{args:List SV}{fV:Value}{vs:List Value}(hf:SR P B pl tb f fV) (ha:SRs P B pl tb args vs) {K:SV→St→Prop}(h:TV C d f args s K) (sX:∀ o,f≠.dd o .yv) {R:Value→Heap→Prop}
  (hK:∀ v s' B' F' pl' tb' u σ',K v s'→GBase B F σ B' F' σ'→Gam P B' F' pl' tb' s' env σ'→SR P B' pl' tb' v u→R u σ'):∃ g a b,fV=.func (.func g) a b∧VCalled P g (a.toList++vs++b.toList) σ R:=by
 unfold TV at h;split at h
 ·rename_i g a b;split at h
  ·rename_i x hx;have tW:=hf;simp only[SR] at hf;obtain⟨a',b',rfl,h1,h2⟩:=hf;refine⟨g,a'.toArray,b'.toArray,rfl,?_⟩;have:=az.xs g x hx B F pl tb s env σ d _ _ K R hG (h1.append (ha.append h2)) h hK;simpa using this
  ·exact Bd az hG hf ha h hK
 ·exact(sX _ rfl).elim
 ·exact Bd az hG hf ha h hK
theorem EO {C:Cx}{B F:Heap}{pl:Nat→Value}{tb:Nat→Option Bool}{s:St}{env:Env}{σ:Heap}(hG:Gam P B F pl tb s env σ) {d:Nat}{o:VOp}{K:SV→St→Prop}(h:gnd C d o (gev [] s.env) s K) {R:Value→Heap→Prop}
  (hK:∀ v s' B' F' pl' tb' u σ',K v s'→GBase B F σ B' F' σ'→Gam P B' F' pl' tb' s' env σ'→SR P B' pl' tb' v u→R u σ'):vop (Q2 P) o env σ R:=by
 obtain⟨u,σ',pl',v,s',h1,h2,h3,h4⟩:=P1 (fun x=>hG.evs (Gds.nil (tb:=tb)) x) hG h;have fin:QZ (Q6 o (Q3 env) σ) (fun p=>R p.1 p.2):=by rw[h1];exact hK v s' B F pl' tb u σ' h2 (.of hG.bf (Kh h1)) h3.1 h4
 cases o
 case buildSlice e z n ps=>exact fin
 case makeSlice e b z l c=>exact fin
 case append e b x y=>exact fin
 case store size a x=>exact fin
 all_goals exact h.elim
section
variable {B F:Heap}{pl:Nat→Value}{tb:Nat→Option Bool}{s:St}{env:Env}{σ:Heap}
def Heap.ins (B σ:Heap) (i:Nat) (h:B.n≤σ.n):Heap where
 get j:=if j=i then σ.get i else B.get j
 n:=σ.n
 wf j hj:=by
  by_cases e:j=i
  ·simp only[if_pos e];subst e;exact σ.wf j hj
  ·simp only[if_neg e];exact B.wf j (Nat.le_trans h hj)
theorem Heap.ins_self (B σ:Heap) (i:Nat) (h:B.n≤σ.n):(B.ins σ i h).get i=σ.get i:=by simp[Heap.ins]
theorem Heap.ins_ne (B σ:Heap) {i j:Nat}(h:B.n≤σ.n) (e:j≠i):(B.ins σ i h).get j=B.get j:=by simp[Heap.ins,e]
theorem Heap.Le.ins {B σ:Heap}(h:B.Le σ) (i:Nat):B.Le (B.ins σ i h.1):=⟨h.1,fun j b hb=>by
 by_cases e:j=i
 ·subst e;rw[Heap.ins_self];exact h.2 _ _ hb
 ·rw[Heap.ins_ne _ _ _ e];exact hb⟩
theorem Heap.Le.ins_le {B σ:Heap}(h:B.Le σ) (i:Nat):(B.ins σ i h.1).Le σ:=⟨Nat.le_refl _,fun j b hb=>by
 by_cases e:j=i
 ·subst e;rw[Heap.ins_self] at hb;exact hb
 ·rw[Heap.ins_ne _ _ _ e] at hb;exact h.2 _ _ hb⟩
theorem Heap.ins_ins {B F σ:Heap}(h:B.Le F) (i:Nat) (hB:B.n≤σ.n) (hF:F.n≤σ.n):(B.ins σ i hB).Le (F.ins σ i hF):=⟨Nat.le_refl _,fun j b hb=>by
 by_cases e:j=i
 ·subst e;rw[Heap.ins_self] at hb ⊢;exact hb
 ·rw[Heap.ins_ne _ _ _ e] at hb ⊢;exact h.2 _ _ hb⟩
theorem Gam.freeze (hG:Gam P B F pl tb s env σ) {o i:Nat}(hl:(Q9 s.own o).live=true) (hi:Oid (pl o) i) :
  GBase B F σ (B.ins σ i hG.leB.1) (F.ins σ i hG.le.1) σ∧Gam P (B.ins σ i hG.leB.1) (F.ins σ i hG.le.1) pl tb ⟨s.env,oset s.own o .dead,s.nx⟩ env σ:=by
 have lX:=hG.fresh o i hl hi;have lv:∀ d,(Q9 (oset s.own o .dead) d).live=true→d≠o∧(Q9 s.own d).live=true:=fun d h=>by
  rw[Qh] at h;by_cases e:d=o
  ·rw[if_pos e] at h;cases h
  ·rw[if_neg e] at h;exact⟨e,h⟩
 refine⟨⟨hG.leB.ins i,hG.le.ins i,fun j b h1 h2=>?_,.refl _⟩,⟨Heap.ins_ins hG.bf i _ _,hG.le.ins_le i,SRs.mono (hG.leB.ins i) (fun _ _ h=>h) _ _ hG.env,fun d=>?_,fun d j h1 h2=>?_,fun d d' j aA h1 h2 h3 h4=>hG.sep d d' j aA (lv d h1).2 (lv d' h2).2 h3 h4,hG.free⟩⟩
 ·have e:j≠i:=by rintro rfl;rw[lX] at h1;cases h1
  rw[Heap.ins_ne _ _ _ e];exact h2
 ·simp only[Qh];by_cases e:d=o
  ·rw[if_pos e];trivial
  ·rw[if_neg e];exact(hG.obj d).mono (hG.leB.ins i) (fun _ _ h=>h) fun _ _ _=>rfl
 ·obtain⟨aA,bP⟩:=lv d h1;have e:j≠i:=by rintro rfl;exact hG.sep d o j aA bP hl h2 hi
  rw[Heap.ins_ne _ _ _ e];exact hG.fresh d j bP h2
theorem Gam.own {s':St}(hG:Gam P B F pl tb s env σ) (h1:s'.env=s.env) (h2:∀ d,Q9 s'.own d=Q9 s.own d) (h3:s'.nx=s.nx):Gam P B F pl tb s' env σ :=
 ⟨hG.bf,hG.le,by rw[h1];exact hG.env,fun d=>by rw[h2];exact hG.obj d,fun d i=>by rw[h2];exact hG.fresh d i,fun d d' i aA=>by rw[h2,h2];exact hG.sep d d' i aA,fun n hn=>hG.free n (by rw[←h3];exact hn)⟩
theorem Gam.drop (hG:Gam P B F pl tb s env σ) (o:Nat):Gam P B F pl tb ⟨s.env,oset s.own o .dead,s.nx⟩ env σ:=by
 have lv:∀ d,(Q9 (oset s.own o .dead) d).live=true→d≠o∧(Q9 s.own d).live=true:=fun d h=>by
  rw[Qh] at h;by_cases e:d=o
  ·rw[if_pos e] at h;cases h
  ·rw[if_neg e] at h;exact⟨e,h⟩
 refine⟨hG.bf,hG.le,hG.env,fun d=>?_,fun d j h1 h2=>hG.fresh d j (lv d h1).2 h2,fun d d' j aA h1 h2 h3 h4=>hG.sep d d' j aA (lv d h1).2 (lv d' h2).2 h3 h4,hG.free⟩;simp only[Qh];by_cases e:d=o
 ·rw[if_pos e];trivial
 ·rw[if_neg e];exact hG.obj d
theorem SB (s:St) (d:Nat) (b:OB) (q:Nat):Q9 (s.make d .dead).own q=Q9 (oset (s.make d b).own d .dead) q:=by
 simp only[St.make,Qh];by_cases e:q=d
 ·rw[if_pos e,if_pos e]
 ·rw[if_neg e,if_neg e,if_neg e]
theorem EF {C:Cx}(hG:Gam P B F pl tb s env σ) {d:Nat}{x:Operand}{K:SV→St→Prop}(h:gn C d (.ext (.rangeMap x)) (gev [] s.env) s K) {R:Value→Heap→Prop}
  (hK:∀ v s' B' F' pl' tb' u σ',K v s'→GBase B F σ B' F' σ'→Gam P B' F' pl' tb' s' env σ'→SR P B' pl' tb' v u→R u σ'):vop (Q2 P) (.ext (.rangeMap x)) env σ R:=by
 have ha:=hG.evs (Gds.nil (tb:=tb)) x;simp only[gn] at h;split at h
 ·rename_i o h1;rw[h1] at ha;simp only[SR] at ha;split at h
  ·rename_i kk vk m ho;split at h
   ·have al:=hG.obj o;rw[ho] at al;obtain⟨i,es,clock,h2,h3,h4⟩:=al;obtain⟨g1,g2⟩:=hG.freeze (o:=o) (i:=i) (by rw[ho];rfl) (by rw[h2];rfl)
    have g9:=g2.push d (.iter kk vk m []) (.pointer (some ⟨σ.n,0,none⟩)) (.obj (.iter i clock [] clock) true) rfl
     ⟨σ.n,i,es,clock,true,[],rfl,Heap.get_push_self _ _,by rw[Heap.ins_self];exact h3,h4.mono g1.b,rfl,fun t r h=>by simp at h⟩
    show QZ (Q6 (.ext (.rangeMap x)) (Q3 env) σ) _;have hv:Q6 (.ext (.rangeMap x)) (Q3 env) σ=some (.pointer (some ⟨σ.n,0,none⟩),σ.push (.obj (.iter i clock [] clock) true)):=by simp only[Q6,Zj,ha.1,h2,Heap.mapAt,h3]
    rw[hv];exact hK _ _ _ _ _ _ _ _ h (g1.trans (.of g2.bf (Dead.push _ _))) g9 (by simp only[SR,XO];exact⟨_,rfl,rfl⟩)
   ·exact h.elim
  ·exact h.elim
 ·exact h.elim
theorem IE {C:Cx}(hG:Gam P B F pl tb s env σ) {d:Nat}{x:Operand}{K:SV→St→Prop}(h:gn C d (.ext (.nextMap x)) (gev [] s.env) s K) {R:Value→Heap→Prop}
  (hK:∀ v s' B' F' pl' tb' u σ',K v s'→GBase B F σ B' F' σ'→Gam P B' F' pl' tb' s' env σ'→SR P B' pl' tb' v u→R u σ'):vop (Q2 P) (.ext (.nextMap x)) env σ R:=by
 have ha:=hG.evs (Gds.nil (tb:=tb)) x;simp only[gn] at h;split at h
 ·rename_i o f h1;rw[h1] at ha;simp only[SR] at ha;split at h
  ·rename_i kk vk m dn ho;split at h
   ·rename_i hf;obtain⟨rfl,nw⟩:=hf;have ao:(Q9 s.own o).live=true:=by rw[ho];rfl
    have al:=hG.obj o;rw[ho] at al;obtain⟨j,i,es,clock,wr,seen,h2,h3,h4,h5,h6⟩:=al;obtain⟨b,e2,e3⟩:=ha;rw[h2] at e2;obtain rfl:j=b:=by simpa using e2
    have aE:σ.mapAt i=some (es,clock,wr):=by simp[Heap.mapAt,hG.leB.2 _ _ h4]
    have hlen:=h5.1.length;obtain⟨hA,hB⟩:=h;have bj:F.get j=none:=hG.fresh o j ao (by rw[h2];rfl);have bH:∀ q i',q≠o→(Q9 s.own q).live=true→Oid (pl q) i'→i'≠j:=fun q i' hq hl hi e=>by subst e;exact hG.sep q o i' hq hl ao hi (by rw[h2];rfl)
    show CD (Q3 env x) σ R;unfold CD;rw[e3];simp only[h3,aE];refine⟨?_,?_,fun ae=>?_,fun e he kR=>?_⟩
    ·cases es with
     |nil=>simp
     |cons e es=>simp[h5.2.2 e (by simp)]
    ·rw[List.all_eq_true];intro e he;obtain⟨r,hr⟩:=List.mem_iff_getElem?.1 he;obtain⟨_,k1,_⟩:=MR.at h5.1 hr;exact LJ nw k1
    ·refine hK _ _ _ _ _ _ _ _ (hA fun r hr=>?_) (.of hG.bf (Dead.refl σ)) hG (by simp only[SR,SRs];exact⟨[.bool false],rfl,_,[],rfl,rfl,rfl⟩);have dm:r<es.length:=by omega
     have he:=List.getElem?_eq_getElem dm;have:=List.all_eq_true.1 ae es[r] (List.getElem_mem dm);have ai:=h5.2.2 _ (List.getElem_mem dm);rw[Bool.or_eq_true,decide_eq_true_eq] at this;rcases this with this|this
     ·rw[List.contains_iff_mem] at this;obtain⟨t,ht⟩:=List.mem_iff_getElem?.1 this;have tX:t<seen.length:=(List.getElem?_eq_some_iff.1 ht).1;have qK:t<dn.length:=by have:=h6.1;omega
      obtain⟨e',k1,k2⟩:=h6.2 t dn[t] (List.getElem?_eq_getElem qK);rw[ht] at k2;have:=Gb h5.2 he k1 (osj k2);rw[this];exact List.getElem_mem qK
     ·omega
    ·obtain⟨r,hr⟩:=List.mem_iff_getElem?.1 he;have dm:r<es.length:=(List.getElem?_eq_some_iff.1 hr).1;have sY:r∉dn:=fun hm=>by
      obtain⟨t,ht⟩:=List.mem_iff_getElem?.1 hm;obtain⟨e',k1,k2⟩:=h6.2 t r ht;rw[hr] at k1;obtain rfl:=osj k1;have:seen.contains e.2.2=true:=by rw[List.contains_iff_mem];exact List.mem_of_getElem? k2
      rw[this] at kR;cases kR
     refine hK _ _ _ _ _ _ _ _ (hB r (by omega) sY) (.of hG.bf (Dead.upd _ _ _ (by rw[h3];rfl))) (hG.write o _ (hG.le.upd bj _) ao (fun q i' hq hl hi=>Heap.get_upd_ne _ _ (bH q i' hq hl hi)) ⟨j,i,es,clock,wr,seen++[e.2.2],h2,Heap.get_upd_self _ _ (σ.lt h3),h4,h5,?_,fun t r' ht=>?_⟩) (by simp only[SR,SRs];exact⟨[.bool true,e.1,e.2.1],rfl,_,_,rfl,rfl,_,_,rfl,trivial,_,_,rfl,trivial,rfl⟩)
     ·simp[h6.1]
     ·rw[List.getElem?_append] at ht;split at ht
      ·rename_i ai;obtain⟨e',k1,k2⟩:=h6.2 t r' ht;refine⟨e',k1,?_⟩;rw[List.getElem?_append_left (by have:=h6.1;omega)];exact k2
      ·rename_i bI;have h0:t-dn.length=0:=by
        cases hz:t-dn.length with
        |zero=>rfl
        |succ n=>rw[hz] at ht;simp at ht
       rw[h0] at ht;obtain rfl:r=r':=by simpa using ht
       refine⟨e,hr,?_⟩;rw[List.getElem?_append_right (by have:=h6.1;omega),show t-seen.length=0 by have:=h6.1;omega];rfl
   ·exact h.elim
  ·exact h.elim
 ·exact h.elim
theorem Si {d:Nat}(kX:B.Le F) {ty:Nat}{k:Kind}{xs:List k.T}{nl:Bool}(hk:k.flat=true) {pl':Nat→Value}{u:Value}{σ':Heap}(h1:Gam P B F pl' tb (s.make d (.lst ty k xs nl)) env σ') (h2:SR P B pl' tb (.lst d) u) (hd:Dead σ σ') :
  ∃ B' F',GBase B F σ B' F' σ'∧Gam P B' F' pl' tb (s.make d .dead) env σ'∧SR P B' pl' tb (.val (.list k) xs) u:=by
 have al:=h1.obj d;have bN:Q9 (s.make d (.lst ty k xs nl)).own d=.lst ty k xs nl:=by simp only[St.make,Qh,if_true]
 rw[bN] at al;simp only[SR] at h2;obtain⟨rfl,_⟩:=h2;rcases al with⟨_,hx,hp⟩|⟨_,i,cap,c,t,hp,c_,hg,hlen,cW⟩
 ·refine⟨B,F,.of kX hd,(h1.drop d).own rfl (SB s d _) rfl,?_⟩;simp only[SR];exact⟨_,rfl,.inl ⟨hx,hp⟩⟩
 ·obtain⟨g1,g2⟩:=h1.freeze (o:=d) (i:=i) (by rw[bN];rfl) (by rw[hp];rfl);refine⟨_,_,(GBase.of kX hd).trans g1,g2.own rfl (SB s d _) rfl,?_⟩;simp only[SR];refine⟨_,rfl,.inr ⟨i,0,cap,c,⟨k.size,ty⟩,true,t,hp,c_,by rw[Heap.ins_self];exact hg,rfl,by have:=Nat.mul_le_mul_right k.size c_;omega,?_⟩⟩;rw[List.drop_zero];exact cW.mono fun _ _ e=>KC.flat hk e
theorem Ai {d nt:Nat}(dC:0<nt) (hG:Gam P B F pl tb s env σ) {ty:Nat}{k:Kind}{xs:List k.T}{nl:Bool}(hk:k.flat=true) {u:Value}{σ':Heap}(h:Ret P σ (.lst 0) [.lst ty k xs nl] u σ') :
  ∃ B' F' pl',GBase B F σ B' F' σ'∧Gam P B' F' pl' tb (s.make d .dead) env σ'∧SR P B' pl' tb (.val (.list k) xs) u:=by
 obtain⟨pl',h1,h2⟩:=h.gam (d:=d) dC hG (by rfl) (by simp only[List.all_cons,List.all_nil,Bool.and_true,OB.ret];exact hk);simp only[St.makes,Nat.zero_mul,Nat.add_zero,SV.ren] at h1 h2;obtain⟨B',F',k⟩:=Si hG.bf hk h1 h2 h.1.2;exact⟨B',F',pl',k⟩
theorem NN {nt:Nat}{r:Option (Prop×SV×List OB)}{c:Prop}{v:SV}(h:Ag nt r=some (c,v)):∃ ty k xs nl,r=some (c,.lst 0,[.lst ty k xs nl])∧v=.val (.list k) xs∧k.flat=true∧0<nt:=by
 unfold Ag at h;split at h
 ·split at h
  ·rename_i k xs _;cases hc:(k.flat&&Nat.blt 0 nt) with
   |false=>rw[hc] at h;cases h
   |true =>rw[hc] at h;obtain⟨rfl,rfl⟩:=QS h;simp only[Bool.and_eq_true,Nat.blt_eq] at hc;exact⟨_,_,_,_,rfl,rfl,hc.1,hc.2⟩
  ·cases h
 ·cases h
theorem C9 {C:Cx}(az:CsOk P C.cs) (hG:Gam P B F pl tb s env σ) {gs:List Gd}(hg:Gds tb gs) {o:VOp}{c:Prop}{v:SV}{d:Nat}(h:RH C o (gev gs s.env) s.own=some (c,v)) (hc:c) {K:Value→Heap→Prop}
  (hK:∀ u σ' B' F' pl',GBase B F σ B' F' σ'→Gam P B' F' pl' tb (s.make d .dead) env σ'→SR P B' pl' tb v u→K u σ'):vop (Q2 P) o env σ K:=by
 cases o<;>first|(cases h;done)|skip
 case callF f args =>
  simp only[RH] at h;obtain⟨ty,k,xs,nl,heq,rfl,hk,dC⟩:=NN h;obtain⟨g,a,b,h3,h4,_⟩:=ZO az (show SR P σ Jq ZF (.fn f [] []) (.func (.func f) #[] #[]) by simp only[SR,SRs];exact⟨[],[],rfl,rfl,rfl⟩) (hG.gcall hg args) heq (by rfl) (by simp only[List.all_cons,List.all_nil,Bool.and_true,OB.ret];exact hk) hc;obtain⟨rfl,rfl,rfl⟩:=(by simpa using h3:f=g∧#[]=a∧#[]=b);have:=h4.mono (R':=K) fun u σ' hr=>by obtain⟨B',F',pl',k1,k2,k3⟩:=Ai (d:=d) dC hG hk hr;exact hK u σ' B' F' pl' k1 k2 k3
  show VCalled P f (args.map (Q3 env)) σ K;simpa using this
 case callV f args =>
  simp only[RH] at h;obtain⟨ty,k,xs,nl,heq,rfl,hk,dC⟩:=NN h;obtain⟨g,a,b,h3,h4,_⟩:=ZO az (hG.gfun hg f) (hG.gcall hg args) heq (by rfl) (by simp only[List.all_cons,List.all_nil,Bool.and_true,OB.ret];exact hk) hc;exact UI h3 (h4.mono fun u σ' hr=>by
   obtain⟨B',F',pl',k1,k2,k3⟩:=Ai (d:=d) dC hG hk hr;exact hK u σ' B' F' pl' k1 k2 k3)
 case buildSlice e z n ps =>
  simp only[RH] at h;split at h
  ·rename_i k sZ;split at h
   ·rename_i dU;split at h
    ·rename_i xs hx;obtain⟨rfl,rfl⟩:=QS h;have s5:gn C d (.buildSlice e z n ps) (gev gs s.env) s (fun v s'=>v=.lst d∧s'=s.make d (.lst e.ty k xs false)):=by
      simp only[gn,sZ,hx];rw[if_pos ⟨dU.1,dU.2.1⟩];simp
     obtain⟨u,σ',pl',v,s',h1,⟨rfl,rfl⟩,⟨h3,_⟩,h4⟩:=Nl (fun x=>hG.evs hg x) hG s5;obtain⟨B',F',k1,k2,k3⟩:=Si hG.bf dU.2.2 h3 h4 (Kh h1);show QZ (Q6 (.buildSlice e z n ps) (Q3 env) σ) _;rw[h1];exact hK u σ' B' F' pl' k1 k2 k3
    ·cases h
   ·cases h
  ·cases h
theorem Lh {C:Cx}{o:VOp}{ev:Operand→SV}{own:Own}{c:Prop}{v:SV}(h:RH C o ev own=some (c,v)):∃ (k:Kind) (xs:List k.T),v=.val (.list k) xs:=by
 cases o<;>first|(cases h;done)|skip
 case callF=>simp only[RH] at h;obtain⟨ty,k,xs,nl,_,hv,_⟩:=NN h;exact⟨k,xs,hv⟩
 case callV=>simp only[RH] at h;obtain⟨ty,k,xs,nl,_,hv,_⟩:=NN h;exact⟨k,xs,hv⟩
 case buildSlice e z n ps =>
  simp only[RH] at h;split at h
  ·split at h
   ·split at h
    ·obtain⟨_,rfl⟩:=QS h;exact⟨_,_,rfl⟩
    ·cases h
   ·cases h
  ·cases h
theorem OD {C:Cx}(az:COk P C) {B F:Heap}{pl:Nat→Value}{tb:Nat→Option Bool}{s:St}{env:Env}{σ:Heap}(hG:Gam P B F pl tb s env σ) {d:Nat}{o:VOp}{K:SV→St→Prop}(h:gn C d o (gev [] s.env) s K) {R:Value→Heap→Prop}
  (hK:∀ v s' B' F' pl' tb' u σ',K v s'→GBase B F σ B' F' σ'→Gam P B' F' pl' tb' s' env σ'→SR P B' pl' tb' v u→R u σ'):vop (Q2 P) o env σ R:=by
 have aj:=hG.evs (Gds.nil (tb:=tb));have act:∀ o {T:Nat},NOk P B F tb o (Q3 env) env σ K T s pl→(∀ R',QZ (Q6 o (Q3 env) σ) (fun p=>R' p.1 p.2)→vop (Q2 P) o env σ R')→vop (Q2 P) o env σ R:=fun o _ ⟨u,σ',pl',v,s',h1,h2,h3,h4⟩ hv=>hv R (by rw[h1];exact hK v s' B F pl' tb u σ' h2 (.of hG.bf (Kh h1)) h3.1 h4);have aw:∀ args:List Operand,SRs P B pl tb (args.map (gev [] s.env)) (args.map (Q3 env)):=fun args=>SRs.map fun x _=>hG.evs Gds.nil x;cases o
 case alloc t z=>exact act _ (IN aj hG h) fun _ h=>h
 case box t x=>exact act _ (Q76 aj hG h) fun _ h=>h
 case buildSlice e z n ps=>exact act _ (Nl aj hG h) fun _ h=>h
 case makeSlice e b z l c=>exact act _ (HR aj hG h) fun _ h=>h
 case append e b x y=>exact act _ (AB aj hG h) fun _ h=>h
 case store size a x=>exact act _ (FW aj hG h) fun _ h=>h
 case callF f args =>
  simp only[gn] at h;obtain⟨g,a,b,h3,h4⟩:=DU az hG (show SR P B pl tb (.fn f [] []) (.func (.func f) #[] #[]) by simp only[SR,SRs];exact⟨[],[],rfl,rfl,rfl⟩) (aw args) h (fun _ e=>by cases e) hK;obtain⟨rfl,rfl,rfl⟩:=(by simpa using h3:f=g∧#[]=a∧#[]=b);show VCalled P f (args.map (Q3 env)) σ R;simpa using h4
 case callV f args =>
  simp only[gn] at h;by_cases hy:∃ o,gev [] s.env f=.dd o .yv
  ·obtain⟨o,hy⟩:=hy;have hf:=hG.evs (Gds.nil (tb:=tb)) f;have h':TV C d (gev [] s.env f) (args.map (gev [] s.env)) s K:=h;rw[hy] at hf h';simp only[SR,DR] at hf;obtain⟨i,hp,hv⟩:=hf;simp only[TV] at h';split at h'
   ·rename_i y s6;have:=az.yl o y s6 B F pl tb s env σ _ _ K R i hG (aw args) h' hp hK;simp only[vop,hv];exact this
   ·exact h'.elim
  obtain⟨g,a,b,h3,h4⟩:=DU az hG (hG.evs Gds.nil f) (aw args) h (fun o e=>hy ⟨o,e⟩) hK;exact UI h3 h4
 case ext x =>
  cases x
  case mapUpdate mk m k v=>exact act _ (HG aj hG h) fun _ h=>h
  case delete mk m k=>exact False.elim h
  case mapEntry mk z m k=>exact act _ (R7 aj hG h) fun _ h=>h
  case entryStore m s v=>exact act _ (B9 aj hG h) fun _ h=>h
  case copy size a b=>exact False.elim h
  case unsafeStr e a n=>exact False.elim h
  case strBytes e a=>exact False.elim h
  case rangeMap a=>exact EF hG h hK
  case nextMap a=>exact IE hG h hK
  all_goals exact h.elim
 all_goals exact h.elim
theorem Gam.frz (hG:Gam P B F pl tb s env σ) (o:Nat):∃ B' F',GBase B F σ B' F' σ∧Gam P B' F' pl tb (s.frz o) env σ:=by
 unfold St.frz;split
 ·rename_i ty k xs nl ho;have fin:∀ {B' F':Heap},Gam P B' F' pl tb ⟨s.env,oset s.own o .dead,s.nx⟩ env σ→KC B' (.list k) xs [pl o]→Gam P B' F' pl tb ⟨SVs.frz o k xs s.env,Q0r o k xs s.own,s.nx⟩ env σ:=fun {B' F'} h hk=>by
   have e1:∀ d,Q9 (Q0r o k xs s.own) d=(Q9 (oset s.own o .dead) d).frz o k xs:=fun d=>by
    rw[Fj,Qh];by_cases e:d=o
    ·rw[if_pos e,if_pos e];rfl
    ·rw[if_neg e,if_neg e]
   have lv:∀ d,(Q9 (Q0r o k xs s.own) d).live=(Q9 (oset s.own o .dead) d).live:=fun d=>by rw[e1,OB.live_frz]
   refine⟨h.bf,h.le,SRs.frz hk _ _ h.env,fun d=>?_,fun d i h1 h2=>?_,fun d d' i aA h1 h2=>?_,h.free⟩
   ·simp only[e1];exact(h.obj d).frz hk
   ·simp only[lv] at h1;exact h.fresh d i h1 h2
   ·simp only[lv] at h1 h2;exact h.sep d d' i aA h1 h2
  have al:=hG.obj o;rw[ho] at al;rcases al with⟨_,hx,hp⟩|⟨_,i,cap,c,t,hp,c_,hg,hlen,cW⟩
  ·exact⟨B,F,.of hG.bf (.refl _),fin (hG.drop o) ⟨_,rfl,.inl ⟨hx,hp⟩⟩⟩
  ·obtain⟨g1,g2⟩:=hG.freeze (o:=o) (i:=i) (by rw[ho];rfl) (by rw[hp];rfl);refine⟨_,_,g1,fin g2 ⟨_,rfl,.inr ⟨i,0,cap,c,⟨k.size,ty⟩,true,t,hp,c_,by rw[Heap.ins_self];exact hg,rfl,by have:=Nat.mul_le_mul_right k.size c_;omega,?_⟩⟩⟩;rw[List.drop_zero];exact cW.mono fun _ _ e=>KC.mono g1.b e
 ·exact⟨B,F,.of hG.bf (.refl _),hG⟩
theorem GRel.frzs {B0 F0 D0:Heap}:∀ (l:List Nat) {s:St},GRel P B0 F0 D0 s env σ→GRel P B0 F0 D0 (s.frzs l) env σ
 |[],_,h=>h
 |o::r,s,⟨B,F,pl,tb,hB,hG⟩=>by obtain⟨B',F',g1,g2⟩:=hG.frz o;exact GRel.frzs r ⟨B',F',pl,tb,hB.trans g1,g2⟩
end
theorem SF {j:Nat}{f:Nat→Prop}:∀ {n i:Nat},FU (j:Int) f n i→i≤j→j<i+n→f j
 |0,i,_,h1,h2=>by omega
 |n+1,i,h,h1,h2=>by
  rcases Nat.lt_or_ge i j with h3|h3
  ·exact SF h.2 h3 (by omega)
  ·have:j=i:=by omega
   subst this;exact h.1 rfl
theorem IZ {o:VOp}{len i:Nat}{f:Nat→VOp}(h:Q71 o=some (len,i,f)) {n:Nat}:(∃ size x,f n=.indexAddrArr len size x (.const (.int .i64 (Int.ofNat n))))∨∃ agg size x,f n=.indexArr len agg size x (.const (.int .i64 (Int.ofNat n))):=by
 unfold Q71 at h;split at h
 ·cases h;exact .inl ⟨_,_,rfl⟩
 ·cases h;exact .inr ⟨_,_,_,rfl⟩
 ·cases h
theorem Oz {o:VOp}{len i:Nat}{f:Nat→VOp}(h:Q71 o=some (len,i,f)) {S:VSpecs}{env:Env}{σ:Heap}{k:IntKind}{n:Nat}(he:Q3 env (.tmp i)=.int k (n:Int)) {R:Value→Heap→Prop}(hv:vop S (f n) env σ R):vop S o env σ R:=by
 have hc:Q3 env (.const (.int .i64 (Int.ofNat n)))=.int .i64 (n:Int):=rfl;unfold Q71 at h;split at h
 ·rename_i len size x t;cases h;change QZ (Q6 _ (Q3 env) σ) _ at hv;change QZ (Q6 _ (Q3 env) σ) _;simp only[Q6,he,hc] at hv ⊢;generalize Q3 env x=u at hv ⊢;cases u<;>first|exact hv|skip
  rename_i p;cases p<;>first|exact hv|skip
  rename_i a;obtain⟨b,o,sp⟩:=a;cases sp<;>exact hv
 ·rename_i len agg size x t;cases h;change QZ (Q6 _ (Q3 env) σ) _ at hv;change QZ (Q6 _ (Q3 env) σ) _;simp only[Q6,he,hc] at hv ⊢;generalize Q3 env x=u at hv ⊢;cases u<;>exact hv
 ·cases h
theorem TY {C:Cx}(az:COk P C) {B0 F0 D0:Heap}{s:St}{env:Env}{σ:Heap}(hR:GRel P B0 F0 D0 s env σ) {o:VOper}{K:St→Prop}(h:Z0o C o s K) {R:Env→Heap→Prop}(hK:∀ s' af σ',K s'→GRel P B0 F0 D0 s' af σ'→R af σ') :
  QZ (Z_ env o.guard) fun b=>vif b (vop (Q2 P) o.op env σ fun v σ'=>R (JS env o.dst v) σ') (R (JS env o.dst undef) σ):=by
 unfold Z0o at h;split at h
 ·rename_i hg;rw[hg];refine⟨fun _=>?_,fun e=>by cases e⟩
  replace hR:=hR.frzs (Q3y C (o.dst.getD 0) o.op (gev [] s.env) s.own)
  generalize s.frzs (Q3y C (o.dst.getD 0) o.op (gev [] s.env) s.own)=s at h hR;obtain⟨B,F,pl,tb,hB,hG⟩:=hR;unfold Z44 at h;split at h
  ·rename_i len i f qL;split at h
   ·rename_i k j hj;obtain⟨h1,h2,h3⟩:=h;obtain⟨n,rfl⟩:=Int.eq_ofNat_of_zero_le h1;have hn:n<len:=by omega
    have h4:=SF h3 (Nat.zero_le n) (by omega);have he:=J7 hj (hG.evs (Gds.nil (tb:=tb)) (.tmp i));split at h4
    ·rename_i cs v dy;obtain⟨k1,k2⟩:=Zi h4
     replace k1:=Zf k1
     have hv:=Hl (C:=C) az.cs hG Gds.nil (o:=f n) (raw:=C.raw.contains (o.dst.getD 0)) (cs:=cs) (v:=v) (by
      rw[←dy];obtain⟨size,x,hf⟩|⟨agg,size,x,hf⟩:=IZ qL<;>rw[hf];rfl;rfl) (k2 fun g hg=>by cases hg) fun u hu=>hK _ _ _ k1 ⟨B,F,pl,tb,hB,hG.put o.dst hu⟩
     exact Oz qL he hv
    ·exact h4.elim
   ·exact h.elim
  unfold Z4e at h;split at h
  ·rename_i c a b bD;split at h
   ·rename_i v hv;obtain⟨u,h1,h2⟩:=Vv hG Gds.nil hv;rw[bD];show QZ (Q6 (.pick c a b) (Q3 env) σ) _;rw[h1];exact hK _ _ _ (Zf h) ⟨B,F,pl,tb,hB,hG.put o.dst h2⟩
   ·exact h.elim
  ·rename_i tY;cases hq:FJ o.op with
   |true =>
    rw[hq] at h;simp only[_root_.cond_true] at h;split at h
    ·rename_i cs v dy;obtain⟨h1,h2⟩:=Zi h
     replace h1:=Zf h1
     refine Hl (C:=C) az.cs hG Gds.nil (raw:=C.raw.contains (o.dst.getD 0)) (cs:=cs) (v:=v) ?_ (h2 fun g hg=>by cases hg) fun u hu=>hK _ _ _ h1 ⟨B,F,pl,tb,hB,hG.put o.dst hu⟩;rw[←dy];cases ho:o.op<;>first|rfl|(rw[ho] at hq;cases hq)
    ·exact h.elim
   |false =>
    rw[hq] at h;simp only[_root_.cond_false] at h;split at h
    ·rename_i bD;split at h
     ·rename_i kk vk _;obtain⟨h1,h2⟩:=ID hG (C.off+o.dst.getD 0) kk vk;rw[bD];change R (JS env o.dst (.map (some σ.n))) (σ.push (.obj (.map [] 0) true));exact hK _ _ _ h ⟨B,F,_,tb,M8 hB (Dead.push _ _),h1.put o.dst h2⟩
     ·exact h.elim
    ·rename_i bD;cases jV:SG C (o.dst.getD 0) o.op (gev [] s.env) with
     |true =>rw[jV] at h;simp only[_root_.cond_true] at h;exact EO hG h fun v s' B' F' pl' tb' u σ' h1 hd h2 h3=>hK _ _ _ h1 ⟨B',F',pl',tb',hB.trans hd,h2.put o.dst h3⟩
     |false =>rw[jV] at h;simp only[_root_.cond_false] at h;exact OD az hG h fun v s' B' F' pl' tb' u σ' h1 hd h2 h3=>hK _ _ _ h1 ⟨B',F',pl',tb',hB.trans hd,h2.put o.dst h3⟩
 ·rename_i j want hg;obtain⟨B,F,pl,tb,hB,hG⟩:=hR;rw[hg];split at h
  ·exact h.elim
  ·rename_i gs s' dN;obtain⟨tb',bk,cP,b,hw,bw,cu⟩:=Xv hG dN;rw[hw];refine⟨fun e=>?_,fun e=>?_⟩
   ·have ga:Gds tb' gs:=fun g hg=>⟨bw e g hg,cP g hg⟩;have fin:∀ {v u},SR P B pl tb' v u→SR P B pl tb' (.grd gs (Gn v)) u:=fun {v u} hs=>by
     simp only[SR];obtain⟨h1,h2⟩:=BK hs;exact⟨⟨cP,h2⟩,fun _=>h1,fun ⟨g,hg,aA⟩=>absurd (bw e g hg) aA⟩
    split at h
    ·rename_i c a b' bD;split at h
     ·rename_i v hv;obtain⟨u,h1,h2⟩:=Vv bk ga hv;rw[bD];show QZ (Q6 (.pick c a b') (Q3 env) σ) _;rw[h1];exact hK _ _ _ (Zf h) ⟨B,F,pl,tb',hB,bk.put o.dst (fin h2)⟩
     ·exact h.elim
    ·split at h
     ·rename_i cs v dy;obtain⟨h1,h2⟩:=Zi h
      replace h1:=Zf h1
      exact Hl az.cs bk ga dy (h2 (bw e)) fun u hu=>hK _ _ _ h1 ⟨B,F,pl,tb',hB,bk.put o.dst (fin hu)⟩
     ·split at h
      ·rename_i c v jW;obtain⟨h1,h2⟩:=Zi h
       replace h1:=Zf h1
       refine C9 az.cs bk ga (d:=C.off+o.dst.getD 0) jW (h2 (bw e) c (by simp)) fun u σ' B' F' pl' k1 k2 k3=>hK _ _ _ h1 ⟨B',F',pl',tb',hB.trans k1,k2.put o.dst ?_⟩;simp only[SR];refine⟨⟨cP,?_⟩,fun _=>k3,fun ⟨g,hg,aA⟩=>absurd (bw e g hg) aA⟩;obtain⟨k,xs,rfl⟩:=Lh jW;trivial
      ·exact h.elim
   ·have fin:∀ v,SR P B pl tb' (.grd gs (Gn v)) undef:=fun v=>by
     simp only[SR];obtain⟨g,hg,aA⟩:=cu e;exact⟨⟨cP,BR v⟩,fun ae=>absurd (ae g hg) aA,fun _=>trivial⟩
    split at h
    ·split at h
     ·exact hK _ _ _ (Zf h) ⟨B,F,pl,tb',hB,bk.put o.dst (fin _)⟩
     ·exact h.elim
    ·split at h
     ·exact hK _ _ _ (Zf (Zi h).1) ⟨B,F,pl,tb',hB,bk.put o.dst (fin _)⟩
     ·split at h
      ·rename_i c v jW;refine hK _ _ _ (Zf (Zi h).1) ⟨B,F,_,tb',hB,(bk.make (C.off+o.dst.getD 0) .dead undef bk.le (fun _ _ _ _ _=>rfl) trivial (fun i hl _=>by cases hl)).put o.dst ?_⟩;simp only[SR];obtain⟨g,hg,aA⟩:=cu e;refine⟨⟨cP,?_⟩,fun ae=>absurd (ae g hg) aA,fun _=>trivial⟩;obtain⟨k,xs,rfl⟩:=Lh jW;trivial
      ·exact h.elim
theorem I7 {C:Cx}(az:COk P C) {B0 F0 D0:Heap}{s:St}{env:Env}{σ:Heap}(hR:GRel P B0 F0 D0 s env σ) {o:VOper}{K:St→Prop}(h:gop C o s K) {R:Env→Heap→Prop}(hK:∀ s' af σ',K s'→GRel P B0 F0 D0 s' af σ'→R af σ') :
  QZ (Z_ env o.guard) fun b=>vif b (vop (Q2 P) o.op env σ fun v σ'=>R (JS env o.dst v) σ') (R (JS env o.dst undef) σ):=by
 unfold gop at h;split at h
 ·rename_i t ht;have ny:=hR;obtain⟨B,F,pl,tb,hB,hG⟩:=hR;rw[K2 hG ht];cases t with
  |true =>simp only[_root_.cond_true] at h;exact TY az ny (o:=⟨o.dst,o.op,none⟩) h hK
  |false =>simp only[_root_.cond_false] at h;exact⟨(fun e=>by cases e),fun _=>hK _ _ _ h ⟨B,F,pl,tb,hB,hG.put o.dst (by simp[SR])⟩⟩
 ·exact TY az hR h hK
theorem CF {B0 F0 D0:Heap}{s s':St}{env:Env}{σ:Heap}(hR:GRel P B0 F0 D0 s env σ) {d:Nat}(h:Q5r d s=some s'):GRel P B0 F0 D0 s' env σ:=by
 unfold Q5r at h;split at h
 ·rename_i o off hd;cases hz:Nat.beq off 0 with
  |false=>rw[hz] at h;cases h
  |true =>
   rw[hz] at h;simp only[_root_.cond_true] at h;have hz:off=0:=Nat.eq_of_beq_eq_true hz;subst hz;split at h
   ·rename_i l _ ho;simp only[Option.some.injEq] at h;subst h;obtain⟨B,F,pl,tb,hB,hG⟩:=hR;have al:=hG.obj o;rw[ho] at al;obtain⟨i,c,e,t,e1,e2,e3,_⟩:=al;obtain⟨k1,k2⟩:=hG.freeze (o:=o) (i:=i) (by rw[ho];rfl) (by rw[e1];rfl);have h1:=hG.env.getD d undef;rw[hd] at h1;have sr:SR P (B.ins σ i hG.leB.1) pl tb (.cp l 0) (env.getD d undef):=by
     simp only[SR] at h1 ⊢;obtain⟨b,q1,q2⟩:=h1;rw[e1] at q1;obtain rfl:i=b:=by simpa using q1
     refine⟨i,c,e,true,t,?_,q2,SRs.mono k1.b (fun _ _ h=>h) _ _ e3⟩;rw[Heap.ins_self];exact e2
    have:=k2.put (some d) sr;refine⟨_,_,pl,tb,hB.trans k1,?_⟩;have e2:JS env (some d) (env.getD d undef)=env:=by
     show env.set d _=env;rcases Nat.lt_or_ge d env.length with h|h
     ·rw[List.getD_eq_getElem?_getD,List.getElem?_eq_getElem h];simp
     ·rw[List.set_eq_of_length_le h]
    rw[e2] at this;exact this
   ·cases h
 ·cases h
theorem E9 {C:Cx}{B0 F0 D0:Heap}{s:St}{env:Env}{σ:Heap}(hR:GRel P B0 F0 D0 s env σ) {d:Option Nat}{K:St→Prop}(h:Z0e C d K s):∃ s2,K s2∧GRel P B0 F0 D0 s2 env σ:=by
 unfold Z0e at h;split at h
 ·exact⟨s,h,hR⟩
 ·rename_i d;cases hb:C.spl.contains d with
  |false=>rw[hb] at h;exact⟨s,h,hR⟩
  |true =>
   rw[hb] at h;simp only[_root_.cond_true] at h;split at h
   ·rename_i t ht;obtain⟨B,F,pl,tb,hB,hG⟩:=hR;have he:=Xk ht (hG.env.getD d undef);have bQ:∀ v,SR P B pl tb v (env.getD d undef)→GRel P B0 F0 D0 (s.put (some d) v) env σ:=fun v hv=>by
     have:=hG.put (some d) hv;refine⟨B,F,pl,tb,hB,?_⟩;have e2:JS env (some d) (env.getD d undef)=env:=by
      show env.set d _=env;rcases Nat.lt_or_ge d env.length with h|h
      ·rw[List.getD_eq_getElem?_getD,List.getElem?_eq_getElem h];simp
      ·rw[List.set_eq_of_length_le h]
     rw[e2] at this;exact this
    have sr:SR P B pl tb (.grd [] (.val .bo t)) (env.getD d undef):=by simp only[SR];exact⟨⟨(fun g hg=>by cases hg),trivial⟩,(fun _=>by rw[he];simp[KC]),fun ⟨g,hg,_⟩=>by cases hg⟩
    cases hc:C.raw.contains (3000000+d) with
    |true =>
     rw[hc] at h;cases t with
     |true=>exact⟨_,h,bQ _ sr⟩
     |false=>exact⟨_,h,bQ _ sr⟩
    |false =>
     rw[hc] at h;cases t with
     |true=>exact⟨_,h.1 rfl,bQ _ sr⟩
     |false=>exact⟨_,h.2 rfl,bQ _ sr⟩
   ·split at h
    ·rename_i s' hf;exact⟨s',h,CF hR hf⟩
    ·exact h.elim
theorem NO {C:Cx}(az:COk P C) {B0 F0 D0:Heap}:∀ (ops:List VOper) {s:St}{env:Env}{σ:Heap},GRel P B0 F0 D0 s env σ→∀ {K:St→Prop},Z0c C ops s K→∀ {R:Env→Heap→Prop},(∀ s' af σ',K s'→GRel P B0 F0 D0 s' af σ'→R af σ')→PM (Q2 P) ops env σ R
 |[],s,env,σ,hR,_K,h,_R,hK=>hK s env σ h hR
 |_o::r,_s,_env,_σ,hR,_K,h,_R,hK=>I7 (R:=fun env σ=>PM (Q2 P) r env σ _R) az hR h fun _ _ _ h1 h2=>by obtain⟨s2,k1,k2⟩:=E9 h2 h1;exact NO az r k2 k1 hK
theorem Ix {S:VSpecs}{l:List DOper}{rest:List DSeg}{env:Env}{σ:Heap}{K:Env→Heap→Prop}(h:l.all (fun o=>!(o.kind==2)&&!(o.op.kind==2))=true) (hv:PM S (l.map dv) env σ fun env σ=>M1 S rest env σ K):M1 S (.alts [l]::rest) env σ K:=by
 intro ops ho;obtain rfl:=List.mem_singleton.1 ho;have key:∀ (l:List DOper) (env:Env) (pend:List (Nat×(Heap→Prop))) (K':Env→Heap→Prop),l.all (fun o=>!(o.kind==2)&&!(o.op.kind==2))=true→PM S (l.map dv) env σ K'→Zr S l env [σ] σ pend K':=by
  intro l;induction l with
  |nil=>intro env pend K' _ h;exact h
  |cons o rest ih =>
   intro env pend K' hk h;simp only[List.all_cons,Bool.and_eq_true,Bool.not_eq_true',beq_eq_false_iff_ne] at hk;obtain⟨⟨bG,aq⟩,hr⟩:=hk;have hr:rest.all (fun o=>!(o.kind==2)&&!(o.op.kind==2))=true:=by simpa using hr
   simp only[List.map_cons,PM,dv] at h;simp only[Zr];cases hw:Z_ env o.guard with
   |none=>rw[hw] at h;exact h.elim
   |some b =>
    rw[hw] at h;obtain⟨ht,hf⟩:=h;refine⟨fun e=>?_,fun e=>?_⟩
    ·have ht:=ht e;obtain⟨p,hp,ku⟩:∃ p,Q6 o.op (Q3 env) σ=some p∧PM S (rest.map dv) (JS env o.dst p.1) p.2 K':=by
      have:=ht;unfold vop at this;split at this
      ·rename_i f bL heq;rw[heq] at aq;exact absurd rfl aq
      ·rename_i f bL heq;rw[heq] at aq;exact absurd rfl aq
      ·rename_i x heq;rw[heq] at aq;exact absurd rfl aq
      ·cases dH:Q6 o.op (Q3 env) σ with
       |none=>rw[dH] at this;exact this.elim
       |some p=>rw[dH] at this;exact⟨p,rfl,this⟩
     have hq:p.2=σ:=Dc aq (v:=p.1) (σ':=p.2) hp;rw[hq] at ku;rw[if_neg bG];split
     ·rw[hp];refine⟨fun τ hτ=>?_,ih _ _ _ hr ku⟩;have:τ=σ:=by
       have:=List.mem_of_mem_drop hτ;simpa using this
      subst this;show QZ (Q6 o.op (Q3 env) τ) _;rw[hp];rfl
     ·rw[hp];exact ih _ _ _ hr ku
    ·rw[if_neg bG];exact ih _ _ _ hr (hf e)
 have:=key ops env [] _ h hv;have mono:∀ (l:List DOper) (env:Env) (hs:List Heap) (τ:Heap) (pend:List (Nat×(Heap→Prop))) (A B:Env→Heap→Prop),l.all (fun o=>!(o.kind==2)&&!(o.op.kind==2))=true→(∀ e s,A e s→B e s)→Zr S l env hs τ pend A→Zr S l env hs τ pend B:=by
  intro l;induction l with
  |nil=>intro env hs τ pend A B _ kI h;exact kI _ _ h
  |cons o rest ih =>
   intro env hs τ pend A B hk kI h;simp only[List.all_cons,Bool.and_eq_true,Bool.not_eq_true',beq_eq_false_iff_ne] at hk;obtain⟨⟨bG,aq⟩,hr⟩:=hk;have hr:rest.all (fun o=>!(o.kind==2)&&!(o.op.kind==2))=true:=by simpa using hr
   simp only[Zr] at h ⊢;cases hw:Z_ env o.guard with
   |none=>rw[hw] at h;exact h.elim
   |some b =>
    rw[hw] at h;obtain⟨ht,hf⟩:=h;refine⟨fun e=>?_,fun e=>?_⟩
    ·have ht:=ht e;rw[if_neg bG] at ht ⊢;by_cases mG:o.kind=1
     ·rw[if_pos mG] at ht ⊢;cases dH:Q6 o.op (Q3 env) τ with
      |none=>rw[dH] at ht;exact ht.elim
      |some p=>rw[dH] at ht;exact⟨ht.1,ih _ _ _ _ _ _ hr kI ht.2⟩
     ·rw[if_neg mG] at ht ⊢;cases dH:Q6 o.op (Q3 env) τ with
      |none=>rw[dH] at ht;exact ht.elim
      |some p=>rw[dH] at ht;exact ih _ _ _ _ _ _ hr kI ht
    ·have hf:=hf e;rw[if_neg bG] at hf ⊢;exact ih _ _ _ _ _ _ hr kI hf
 exact mono ops env _ _ _ _ _ h (fun e s hs=>⟨e,s,.refl _ _ _,hs⟩) this
theorem ZM {op:VOp}{ev:Operand→Value}{u:Value}{τ τ':Heap}(h:Q6 op ev τ=some (u,τ')):JQ op ev u τ:=by unfold JQ;rw[h];rfl
theorem Zb (s:St) (d:Option Nat) (v:SV):(s.put d v).own=s.own:=by cases d<;>rfl
theorem YH {s s':St}{j:Nat}{want:Bool}{gs:List Gd}(h:B3 s j want=some (gs,s')):s'.own=s.own:=by unfold B3 at h;split at h<;>first|(cases h;done)|(obtain⟨_,rfl⟩:=QS h;rfl)
theorem V9 {C:Cx}{B F:Heap}{pl:Nat→Value}{tb:Nat→Option Bool}{s:St}{env:Env}{σ:Heap}(hG:Gam P B F pl tb s env σ) {o:DOper}{K:St→Prop}(h:gd1 C o s K) :
  ∃ b,Z_ env o.guard=some b∧(b=true→∃ u s' tb',Q6 o.op (Q3 env) σ=some (u,σ)∧K s'∧s'.own=s.own∧Gam P B F pl tb' s' (JS env o.dst u) σ)∧(b=false→∃ s' tb',K s'∧s'.own=s.own∧Gam P B F pl tb' s' (JS env o.dst undef) σ):=by
 unfold gd1 at h;split at h
 ·rename_i hg;rw[hg];refine⟨true,rfl,fun _=>?_,fun e=>by cases e⟩;split at h
  ·rename_i c a b bD;split at h
   ·rename_i v hv;obtain⟨u,h1,h2⟩:=Vv hG Gds.nil hv;exact⟨u,_,tb,by rw[bD];exact h1,Zf h,Zb _ _ _,hG.put o.dst h2⟩
   ·exact h.elim
  ·split at h
   ·rename_i cs v dy;obtain⟨h1,h2⟩:=Zi h;obtain⟨u,h3,h4⟩:=RP (hG.evs (Gds.nil (tb:=tb))) (fun _=>rfl) hG.leB hG.obj dy (h2 fun g hg=>by cases hg);exact⟨u,_,tb,h3,Zf h1,Zb _ _ _,hG.put o.dst h4⟩
   ·exact h.elim
 ·rename_i j want hg;rw[hg];split at h
  ·exact h.elim
  ·rename_i gs s' dN;obtain⟨tb',bk,cP,b,hw,bw,cu⟩:=Xv hG dN;refine⟨b,hw,fun e=>?_,fun e=>?_⟩
   ·have ga:Gds tb' gs:=fun g hg=>⟨bw e g hg,cP g hg⟩;have fin:∀ {v u},SR P B pl tb' v u→SR P B pl tb' (.grd gs (Gn v)) u:=fun {v u} hs=>by
     simp only[SR];obtain⟨h1,h2⟩:=BK hs;exact⟨⟨cP,h2⟩,fun _=>h1,fun ⟨g,hg,aA⟩=>absurd (bw e g hg) aA⟩
    split at h
    ·rename_i c a b' bD;split at h
     ·rename_i v hv;obtain⟨u,h1,h2⟩:=Vv bk ga hv;exact⟨u,_,tb',by rw[bD];exact h1,Zf h,(Zb _ _ _).trans (YH dN),bk.put o.dst (fin h2)⟩
     ·exact h.elim
    ·split at h
     ·rename_i cs v dy;obtain⟨h1,h2⟩:=Zi h;obtain⟨u,h3,h4⟩:=RP (bk.evs ga) (fun _=>rfl) bk.leB bk.obj dy (h2 (bw e));exact⟨u,_,tb',h3,Zf h1,(Zb _ _ _).trans (YH dN),bk.put o.dst (fin h4)⟩
     ·exact h.elim
   ·have fin:∀ v,SR P B pl tb' (.grd gs (Gn v)) undef:=fun v=>by
     simp only[SR];obtain⟨g,hg,aA⟩:=cu e;exact⟨⟨cP,BR v⟩,fun ae=>absurd (ae g hg) aA,fun _=>trivial⟩
    split at h
    ·split at h
     ·exact⟨_,tb',Zf h,(Zb _ _ _).trans (YH dN),bk.put o.dst (fin _)⟩
     ·exact h.elim
    ·split at h
     ·exact⟨_,tb',Zf (Zi h).1,(Zb _ _ _).trans (YH dN),bk.put o.dst (fin _)⟩
     ·exact h.elim
theorem Ce {bs:List OB}{q:Prop}(h:IS bs q):(∀ b∈bs,b.wf)∧q:=by
 induction bs with
 |nil=>exact⟨(fun b hb=>by cases hb),h⟩
 |cons b r ih =>
  obtain⟨h1,h2⟩:=h;obtain⟨h3,h4⟩:=ih h2;exact⟨fun b' b9=>by
   rcases List.mem_cons.1 b9 with rfl|b9
   ·exact h1
   ·exact h3 b' b9,h4⟩
mutual
theorem CY {d nt:Nat}:∀ (v:SV),v.ret 0=true→(v.ren d nt).ret 0=true
 |.val k x,h=>h
 |.nilS,_|.nilP,_|.nilM,_|.nilF,_=>rfl
 |.lst j,h|.box j _,h|.map j,h=>by simp[SV.ret,Nat.blt] at h
 |.agg l,h=>by simp only[SV.ren,SV.ret] at h ⊢;exact Pa l h
 |.tup l,h=>by simp only[SV.ren,SV.ret] at h ⊢;exact Pa l h
 |.any,h|.bid _ _,h|.grd _ _,h|.sub _ _ _ _,h|.elp _ _ _ _,h|.rop _ _ _ _,h|.cp _ _,h|.fn _ _ _,h|.pf _ _ _ _,h=>by cases h
theorem Pa {d nt:Nat}:∀ (v:List SV),SVs.ret 0 v=true→SVs.ret 0 (SVs.ren d nt v)=true
 |[],_=>rfl
 |s::ss,h=>by simp only[SVs.ret,SVs.ren,Bool.and_eq_true] at h ⊢;exact⟨CY s h.1,Pa ss h.2⟩
end
theorem Xz {C:Cx}(az:COk P C) {B F:Heap}{pl:Nat→Value}{tb:Nat→Option Bool}{s:St}{env:Env}{σ:Heap}(hG:Gam P B F pl tb s env σ) {d:Nat}{f:SV}{args:List SV}{K:List Nat→SV→St→Prop}(h:MJ C d f args s K) {fV:Value}{vs:List Value}
  (hf:SR P σ Jq ZF f fV) (ha:SRs P σ Jq ZF args vs):∃ g a b u σ' ts v s' pl',fV=.func (.func g) a b∧(VCalled P g (a.toList++vs++b.toList) σ fun u' aC=>u'=u∧aC=σ')∧K ts v s'∧Gam P B F pl' tb s' env σ'∧SR P B pl' tb v u∧(ts=[]→σ'=σ∧pl'=pl∧s'=s)∧σ.Le σ'∧Dead σ σ'∧FrL ts s s' pl pl' σ σ':=by
 unfold MJ at h;split at h
 ·rename_i c v bs heq;cases hb:(v.ret bs.length&&(bs.all OB.ret&&(Nat.blt 0 C.nt&&(bs.all OB.isL&&KG v)))) with
  |false=>rw[hb] at h;exact h.elim
  |true =>
   rw[hb] at h;obtain⟨h1,h2⟩:=h;obtain⟨h3,h4⟩:=Ce h2;simp only[Bool.and_eq_true] at hb;obtain⟨hv,lY,dC,hl,cD⟩:=hb;obtain⟨g,a,b,e,_,hx⟩:=ZO az.cs hf ha heq hv lY h1;have dx:=SY (P:=P) σ hv cD lY hl (fun b hb=>by have:=h3 b hb;cases b<;>exact this);by_cases b6:bs=[]
   ·subst b6;obtain⟨k1,k2⟩:=dx.flat hv;refine⟨g,a,b,_,_,_,_,_,pl,e,hx hl cD,h4,?_,?_,fun _=>⟨k1,rfl,rfl⟩,dx.1.1,dx.1.2,fun q _=>⟨rfl,rfl,fun _ _ _=>by rw[k1]⟩⟩
    ·rw[k1];exact hG
    ·exact SR.retd (B:=hNil) (pl:=pl) (tb:=ZF) (n:=0) (fun j hj=>by omega) _ _ (CY v hv) (SR.ren (pl:=Jq) (tb:=ZF) (n:=0) (fun j hj=>by omega) v _ hv k2)
   ·obtain⟨pl',h5,h6,h7⟩:=dx.gamF (nt:=C.nt) (d:=d) (by simpa [Nat.blt_eq] using dC) hG hv lY;refine⟨g,a,b,_,_,_,_,_,pl',e,hx hl cD,h4,h5,h6,fun he=>absurd (by simpa using he) b6,dx.1.1,dx.1.2,fun q hq=>h7 q fun j hj e=>hq ?_⟩;exact List.mem_map.2 ⟨j,List.mem_range.2 hj,e.symm⟩
 ·exact h.elim
def A6:VOp→Bool
 |.callF ..|.callV ..=>true
 |.ext (.rangeMap _)|.ext (.nextMap _)=>true
 |_=>false
theorem Q70 {C:Cx}{B F:Heap}{pl:Nat→Value}{tb:Nat→Option Bool}{s:St}{env:Env}{σ:Heap}(hG:Gam P B F pl tb s env σ) {d:Nat}{o:VOp}{K:SV→St→Prop}(h:gn C d o (gev [] s.env) s K) (hc:A6 o=false) :
  NOk P B F tb o (Q3 env) env σ K (QT d o (gev [] s.env)) s pl:=by
 have aj:=hG.evs (Gds.nil (tb:=tb));cases o
 case alloc t z=>exact IN aj hG h
 case box t x=>exact Q76 aj hG h
 case buildSlice e z n ps=>exact Nl aj hG h
 case makeSlice e b z l c=>exact HR aj hG h
 case append e b x y=>exact AB aj hG h
 case store size a x=>exact FW aj hG h
 case callF=>cases hc
 case callV=>cases hc
 case ext x =>
  cases x
  case mapUpdate mk m k v=>exact HG aj hG h
  case delete mk m k=>exact False.elim h
  case mapEntry mk z m k=>exact R7 aj hG h
  case entryStore m s v=>exact B9 aj hG h
  case copy size a b=>exact False.elim h
  case unsafeStr e a n=>exact False.elim h
  case strBytes e a=>exact False.elim h
  case rangeMap=>cases hc
  case nextMap=>cases hc
  all_goals exact h.elim
 all_goals exact h.elim
theorem Ry {o:VOp}{ev:Operand→Value}{σ σ':Heap}{u:Value}(hm:Hq o=true) (h:Q6 o ev σ=some (u,σ')):σ.Le σ':=by
 have push:∀ b:Blk,σ.Le (σ.push b):=fun b=>(Heap.Le.refl σ).push b;cases o<;>first|(cases hm;done)|skip
 case alloc t z=>obtain⟨rfl,rfl⟩:=QS h;exact push _
 case box t x =>
  simp only[Q6] at h;split at h
  ·obtain⟨rfl,rfl⟩:=QS h;exact push _
  ·cases h
 case buildSlice e z n ps =>
  simp only[Q6] at h;split at h
  ·obtain⟨rfl,rfl⟩:=QS h;exact push _
  ·cases h
 case makeSlice e b z l c =>
  simp only[Q6] at h;split at h
  ·split at h
   ·obtain⟨rfl,rfl⟩:=QS h;exact push _
   ·cases h
  ·cases h
def stM:MK:=.agg [.int .i64,.int .i64]
def Q4n:Option Jr→Value
 |some e=>e.2.1
 |none=>.int .i64 0
def LkE (es bT:List Jr):Prop:=(es.all (fun e=>Zk stM e.1)=true→bT.all (fun e=>Zk stM e.1)=true)∧(es.all (fun e=>Zk stM e.1)=true→∀ k,Zk stM k=true→Q4n (Qg k bT)=Q4n (Qg k es))
theorem LkE.trans {a b c:List Jr}(h:LkE a b) (h':LkE b c):LkE a c:=⟨fun k=>h'.1 (h.1 k),fun k x hx=>(h'.2 (h.1 k) x hx).trans (h.2 k x hx)⟩
theorem Cq {v:Value}(h:Zk stM v=true):∃ a b,v=.agg #[.int .i64 a,.int .i64 b]:=by
 cases v with
 |agg l =>
  simp only[Zk,stM] at h;obtain⟨l⟩:=l
  match l,h with
  |[],h=>simp[fits] at h
  |[x],h=>cases x<;>simp[fits,E4] at h
  |[x,y],h =>simp only[fits,Bool.and_eq_true] at h;obtain⟨hx,hy,_⟩:=h;cases x<;>simp[E4] at hx;cases y<;>simp[E4] at hy;subst hx;subst hy;exact⟨_,_,rfl⟩
  |x::y::z::r,h=>simp[fits] at h
 |_=>simp[Zk,stM] at h
theorem Q2i {a b c e:Int}:Xh (.agg #[.int .i64 a,.int .i64 b]) (.agg #[.int .i64 c,.int .i64 e])=(a==c&&b==e):=by simp[Xh,Ql,K1]
theorem IM {k0:Value}{clock:Nat}(ij:Zk stM k0=true):∀ {es:List Jr},LkE es (Qq k0 (Q4n (Qg k0 es)) clock es).1
 |[]=>by refine⟨fun _=>by simp[Qq,ij],fun _ k hk=>?_⟩;simp only[Qq,Qg];cases Xh k k0<;>rfl
 |e::es=>by
  have ih:=IM (clock:=clock) ij (es:=es);simp only[Qq,Qg];cases he:Xh k0 e.1 with
  |true =>
   simp only[if_true];refine⟨fun h=>?_,fun h k hk=>?_⟩
   ·simp only[List.all_cons,Bool.and_eq_true] at h ⊢;exact⟨ij,h.2⟩
   ·simp only[List.all_cons,Bool.and_eq_true] at h;obtain⟨a,b,rfl⟩:=Cq ij;obtain⟨a1,b1,h1⟩:=Cq h.1;obtain⟨a2,b2,rfl⟩:=Cq hk;have heq:(a==a1&&b==b1)=true:=by rw[←Q2i,←h1];exact he
    simp only[Bool.and_eq_true,beq_iff_eq] at heq;obtain⟨rfl,rfl⟩:=heq;simp only[Qg,h1,Q2i];cases (a2==a&&b2==b)<;>rfl
  |false =>
   simp only[Bool.false_eq_true,if_false];refine⟨fun h=>?_,fun h k hk=>?_⟩
   ·simp only[List.all_cons,Bool.and_eq_true] at h ⊢;exact⟨h.1,ih.1 h.2⟩
   ·simp only[List.all_cons,Bool.and_eq_true] at h;simp only[Qg];cases Xh k e.1 with
    |true=>rfl
    |false=>exact ih.2 h.2 k hk
theorem IU {mk:MK}{z:Value}(h:stP mk z=true):mk=stM∧z=.int .i64 0:=by
 unfold stP at h;split at h
 ·exact⟨rfl,by rw[eq_of_beq h]⟩
 ·cases h
def EP (σ:Heap) (own:Own) (pl:Nat→Value) (Q:Heap→Prop):Option Nat→Prop
 |none=>∀ τ,σ.Le τ→Q τ
 |some q=>(Q9 own (q / 2)).live=true∧∃ i b,Oid (pl (q / 2)) i∧σ.get i=some b∧(∀ τ,τ.get i=some b→Q τ)∧(q % 2=1→∃ es c wr,b=.obj (.map es c) wr∧∀ τ bT c',LkE es bT→τ.get i=some (.obj (.map bT c') wr)→Q τ)
structure DSt (hs:List Heap) (σ:Heap) (pend:List (Nat×(Heap→Prop))) (hl chg:Nat) (A R:List (Nat×Option Nat)) (own:Own) (pl:Nat→Value):Prop where
 len:hs.length=hl
 same:∀ j τ,chg≤j→hs[j]?=some τ→τ=σ
 pend:∀ c∈pend,c.1<hl∨∃ r∈R,c.1≤r.1∧EP σ own pl c.2 r.2
 fr:∀ j τ q i,hs[j]?=some τ→Zd A j q=true→(Q9 own q).live=true→Oid (pl q) i→τ.get i=σ.get i
theorem YC {r:Nat}{σ:Heap}:∀ {l:List (Nat×(Heap→Prop))},(∀ c∈l,r≤c.1→c.2 σ)→JO r σ l
 |[],_=>trivial
 |c::l,h=>⟨h c (by simp),YC fun c' cK=>h c' (by simp[cK])⟩
theorem Jg {hs:List Heap}{σ' τ:Heap}{j:Nat}(h:(hs++[σ'])[j]?=some τ):(j<hs.length∧hs[j]?=some τ)∨(j=hs.length∧τ=σ'):=by
 rw[List.getElem?_append] at h;split at h
 ·rename_i ai;exact .inl ⟨ai,h⟩
 ·have:j-hs.length=0:=by
   cases hz:j-hs.length with
   |zero=>rfl
   |succ n=>rw[hz] at h;simp at h
  rw[this] at h;exact .inr ⟨by omega,by simpa using h.symm⟩
theorem Tv {a:Nat×Option Nat}{A:List (Nat×Option Nat)}{j q:Nat}(h:Zd (a::A) j q=true) (hj:j≤a.1):(∃ t,a.2=some t∧t≠q)∧Zd A j q=true:=by
 simp only[Zd,List.all_cons,Bool.and_eq_true,Bool.or_eq_true,Nat.blt_eq] at h;refine⟨?_,h.2⟩;rcases h.1 with h|h
 ·omega
 ·split at h
  ·rename_i t ht;exact⟨t,ht,fun e=>by subst e;simp at h⟩
  ·cases h
theorem DSt.stay {hs:List Heap}{σ:Heap}{pend:List (Nat×(Heap→Prop))}{hl chg:Nat}{A R:List (Nat×Option Nat)}{own:Own}{pl:Nat→Value}(h:DSt hs σ pend hl chg A R own pl) :
  JO hs.length σ pend∧DSt (hs++[σ]) σ pend (hl+1) chg A R own pl:=by
 have hr:∀ c∈pend,∀ r∈R,EP σ own pl c.2 r.2→c.2 σ:=fun c _ r _ ah=>by
  unfold EP at ah;split at ah
  ·exact ah σ (.refl _)
  ·obtain⟨_,i,b,_,h2,h3,_⟩:=ah;exact h3 σ h2
 refine⟨YC fun c hc hle=>?_,⟨by simp[h.len],fun j τ hj ht=>?_,fun c hc=>?_,fun j τ q i ht hu hl hi=>?_⟩⟩
 ·rcases h.pend c hc with h1|⟨r,h1,_,h2⟩
  ·rw[h.len] at hle;omega
  ·exact hr c hc r h1 h2
 ·rcases Jg ht with⟨_,h1⟩|⟨_,h1⟩
  ·exact h.same j τ hj h1
  ·exact h1
 ·rcases h.pend c hc with h1|h1
  ·exact .inl (by omega)
  ·exact .inr h1
 ·rcases Jg ht with⟨_,h1⟩|⟨_,rfl⟩
  ·exact h.fr j τ q i h1 hu hl hi
  ·rfl
theorem DSt.write {hs:List Heap}{σ σ':Heap}{pend:List (Nat×(Heap→Prop))}{hl chg:Nat}{A R:List (Nat×Option Nat)}{s s':St}{pl pl':Nat→Value}(h:DSt hs σ pend hl chg A R s.own pl) {T:Nat}(hf:Fr T s s' pl pl' σ σ') {mk ext:Bool}(hm:mk=true→σ.Le σ')
  (hE:ext=true→(Q9 s'.own T).live=true∧pl' T=pl T∧∃ i es c bT c',pl T=.map (some i)∧σ.get i=some (.obj (.map es c) true)∧σ'.get i=some (.obj (.map bT c') true)∧LkE es bT)
  (hc:((mk&&LQ R hl T)||TD R hl T||(ext&&Q6j R hl T))=true) (aR:0<hl):JO hs.length σ' pend∧DSt (hs++[σ']) σ' pend (hl+1) hl ((hl-1,some T)::A) R s'.own pl':=by
 have hr:∀ Q:Heap→Prop,∀ r∈R,hl≤r.1→EP σ s.own pl Q r.2→EP σ' s'.own pl' Q r.2:=fun Q r kY bI ah=>by
  have hq:∀ q,r.2=some q→q / 2=T→q % 2=1∧ext=true:=fun q hq e=>by
   subst e;simp only[Bool.or_eq_true,Bool.and_eq_true,LQ,TD,Q6j] at hc;rcases hc with (⟨_,hc⟩|hc)|⟨he,hc⟩
   ·have:=List.all_eq_true.1 hc r kY;rw[hq] at this;simp only[Bool.or_eq_true,Nat.blt_eq,Nat.beq_refl,Bool.not_true,Bool.false_eq_true,or_false] at this;omega
   ·have:=List.all_eq_true.1 hc r kY;rw[hq] at this;simp only[Bool.or_eq_true,Nat.blt_eq,Nat.beq_refl,Bool.not_true,Bool.false_eq_true,or_false] at this;omega
   ·have:=List.all_eq_true.1 hc r kY;rw[hq] at this;simp only[Bool.or_eq_true,Nat.blt_eq,Nat.beq_refl,Bool.not_true,Bool.false_eq_true,false_or] at this;rcases this with h|h
    ·omega
    ·exact⟨Nat.eq_of_beq_eq_true h,he⟩
  cases e:r.2 with
  |none =>
   rw[e] at ah;have cj:mk=true:=by
    simp only[Bool.or_eq_true,Bool.and_eq_true,TD,Q6j] at hc;rcases hc with (⟨hc,_⟩|hc)|⟨_,hc⟩
    ·exact hc
    ·have:=List.all_eq_true.1 hc r kY;rw[e] at this;simp only[Bool.or_eq_true,Nat.blt_eq,Bool.false_eq_true,or_false] at this;omega
    ·have:=List.all_eq_true.1 hc r kY;rw[e] at this;simp only[Bool.or_eq_true,Nat.blt_eq,Bool.false_eq_true,or_false] at this;omega
   exact fun τ ht=>ah τ ((hm cj).trans ht)
  |some q =>
   rw[e] at ah;obtain⟨k1,i,b,k2,k3,k4⟩:=ah;by_cases nz:q / 2=T
   ·obtain⟨ho,he⟩:=hq q e nz;obtain⟨g1,g2,i',es,c,bT,c',g3,g4,g5,g6⟩:=hE he;obtain⟨k5,k6⟩:=k4;obtain⟨tZ,c0,wr,rfl,k7⟩:=k6 ho;rw[nz] at k1 k2;have hi:i=i':=Ok (by rw[g3];rfl) k2;subst hi;rw[g4] at k3;cases k3;refine⟨by rw[nz];exact g1,i,_,by rw[nz,g2];exact k2,g5,fun τ hτ=>k7 τ _ _ g6 hτ,fun _=>⟨_,_,_,rfl,fun τ s7 t_ hl hτ=>k7 τ _ _ (g6.trans hl) hτ⟩⟩
   ·obtain⟨f1,f2,f3⟩:=hf (q / 2) nz;exact⟨by rw[f1];exact k1,i,b,by rw[f2];exact k2,by rw[f3 k1 i k2];exact k3,k4⟩
 have now:∀ Q:Heap→Prop,∀ r,EP σ' s'.own pl' Q r→Q σ':=fun Q r ah=>by
  unfold EP at ah;split at ah
  ·exact ah σ' (.refl _)
  ·obtain⟨_,i,b,_,h2,h3,_⟩:=ah;exact h3 σ' h2
 refine⟨YC fun c hc hle=>?_,⟨by simp[h.len],fun j τ hj ht=>?_,fun c hc=>?_,fun j τ q i ht hu cm hi=>?_⟩⟩
 ·rw[h.len] at hle;rcases h.pend c hc with h1|⟨r,h1,h2,h3⟩
  ·omega
  ·exact now _ _ (hr _ r h1 (by omega) h3)
 ·rcases Jg ht with⟨h1,_⟩|⟨_,h1⟩
  ·rw[h.len] at h1;omega
  ·exact h1
 ·rcases h.pend c hc with h1|⟨r,h1,h2,h3⟩
  ·exact .inl (by omega)
  ·by_cases bI:hl≤r.1
   ·exact .inr ⟨r,h1,h2,hr _ r h1 bI h3⟩
   ·exact .inl (by omega)
 ·rcases Jg ht with⟨h1,h2⟩|⟨_,rfl⟩
  ·rw[h.len] at h1;obtain⟨⟨t,ht,s8⟩,b_⟩:=Tv hu (by simp only;omega);obtain rfl:=osj ht;obtain⟨f1,f2,f3⟩:=hf q (Ne.symm s8);rw[f1] at cm;rw[f2] at hi;rw[f3 cm i hi];exact h.fr j τ q i h2 b_ cm hi
  ·rfl
theorem GV {ts:List Nat}{hl j q:Nat}{A:List (Nat×Option Nat)}(h:Zd (ts.map (fun t=>(hl,some t))++A) j q=true) (hj:j≤hl):q∉ts∧Zd A j q=true:=by simp only[Zd,List.all_append,Bool.and_eq_true] at h ⊢;refine⟨fun hm=>?_,h.2⟩;have:=List.all_eq_true.1 h.1 (hl,some q) (List.mem_map.2 ⟨q,hm,rfl⟩);simp only[Bool.or_eq_true,Nat.blt_eq,Nat.beq_refl,Bool.not_true,Bool.false_eq_true,or_false] at this;omega
theorem DSt.call {hs:List Heap}{σ σ':Heap}{pend:List (Nat×(Heap→Prop))}{hl chg:Nat}{A R:List (Nat×Option Nat)}{s s':St}{pl pl':Nat→Value}(h:DSt hs σ pend hl chg A R s.own pl) (hle:σ.Le σ') {Ts:List Nat}(hf:FrL Ts s s' pl pl' σ σ') (aR:0<hl) :
  JO hs.length σ' pend∧DSt (hs++[σ']) σ' pend (hl+1) hl (Ts.map (fun t=>(hl-1,some t))++A) (R.map fun r=>(r.1,none)) s'.own pl':=by
 have hr:∀ Q r,EP σ s.own pl Q r→∀ τ,σ'.Le τ→Q τ:=fun Q r ah τ ht=>by
  unfold EP at ah;split at ah
  ·exact ah τ (hle.trans ht)
  ·obtain⟨_,i,b,_,h2,h3,_⟩:=ah;exact h3 τ (ht.2 _ _ (hle.2 _ _ h2))
 refine⟨YC fun c hc hle=>?_,⟨by simp[h.len],fun j τ hj ht=>?_,fun c hc=>?_,fun j τ q i ht hu cm hi=>?_⟩⟩
 ·rcases h.pend c hc with h1|⟨r,h1,_,h2⟩
  ·rw[h.len] at hle;omega
  ·exact hr _ _ h2 _ (.refl _)
 ·rcases Jg ht with⟨h1,_⟩|⟨_,h1⟩
  ·rw[h.len] at h1;omega
  ·exact h1
 ·rcases h.pend c hc with h1|⟨r,h1,h2,h3⟩
  ·exact .inl (by omega)
  ·exact .inr ⟨(r.1,none),List.mem_map.2 ⟨r,h1,rfl⟩,h2,hr _ _ h3⟩
 ·rcases Jg ht with⟨h1,h2⟩|⟨_,rfl⟩
  ·rw[h.len] at h1;obtain⟨hq,b_⟩:=GV hu (by omega);obtain⟨f1,f2,f3⟩:=hf q hq;rw[f1] at cm;rw[f2] at hi;rw[f3 cm i hi];exact h.fr j τ q i h2 b_ cm hi
  ·rfl
theorem DSt.writeD {hs:List Heap}{σ σ':Heap}{pend:List (Nat×(Heap→Prop))}{hl chg:Nat}{A R:List (Nat×Option Nat)}{s s':St}{pl pl':Nat→Value}(h:DSt hs σ pend hl chg A R s.own pl) {Ts:List Nat}(hf:FrL Ts s s' pl pl' σ σ') {mk:Bool}(hm:mk=true→σ.Le σ')
  (hc:AZ mk R hl Ts=true) (aR:0<hl):JO hs.length σ' pend∧DSt (hs++[σ']) σ' pend (hl+1) hl (Ts.map (fun t=>(hl-1,some t))++A) R s'.own pl':=by
 have hr:∀ Q:Heap→Prop,∀ r∈R,hl≤r.1→EP σ s.own pl Q r.2→EP σ' s'.own pl' Q r.2:=fun Q r kY bI ah=>by
  have kZ:=List.all_eq_true.1 hc r kY;have kZ:(match r.2 with|some q=>Ts.all (fun t=>!(Nat.beq (q / 2) t))|none=>mk)=true:=by rw[Bool.or_eq_true,Nat.blt_eq] at kZ;exact kZ.resolve_left (by omega)
  cases e:r.2 with
  |none =>rw[e] at ah kZ;exact fun τ ht=>ah τ ((hm kZ).trans ht)
  |some q =>
   rw[e] at ah kZ;obtain⟨k1,i,b,k2,k3,k4⟩:=ah;obtain⟨f1,f2,f3⟩:=hf (q / 2) fun hq=>by have:=List.all_eq_true.1 kZ (q / 2) hq;simp at this
   exact⟨by rw[f1];exact k1,i,b,by rw[f2];exact k2,by rw[f3 k1 i k2];exact k3,k4⟩
 have now:∀ Q:Heap→Prop,∀ r,EP σ' s'.own pl' Q r→Q σ':=fun Q r ah=>by
  unfold EP at ah;split at ah
  ·exact ah σ' (.refl _)
  ·obtain⟨_,i,b,_,h2,h3,_⟩:=ah;exact h3 σ' h2
 refine⟨YC fun c hc hle=>?_,⟨by simp[h.len],fun j τ hj ht=>?_,fun c hc=>?_,fun j τ q i ht hu cm hi=>?_⟩⟩
 ·rw[h.len] at hle;rcases h.pend c hc with h1|⟨r,h1,h2,h3⟩
  ·omega
  ·exact now _ _ (hr _ r h1 (by omega) h3)
 ·rcases Jg ht with⟨h1,_⟩|⟨_,h1⟩
  ·rw[h.len] at h1;omega
  ·exact h1
 ·rcases h.pend c hc with h1|⟨r,h1,h2,h3⟩
  ·exact .inl (by omega)
  ·by_cases bI:hl≤r.1
   ·exact .inr ⟨r,h1,h2,hr _ r h1 bI h3⟩
   ·exact .inl (by omega)
 ·rcases Jg ht with⟨h1,h2⟩|⟨_,rfl⟩
  ·rw[h.len] at h1;obtain⟨hq,b_⟩:=GV hu (by omega);obtain⟨f1,f2,f3⟩:=hf q hq;rw[f1] at cm;rw[f2] at hi;rw[f3 cm i hi];exact h.fr j τ q i h2 b_ cm hi
  ·rfl
theorem PR {hl d j q:Nat}{A:List (Nat×Option Nat)}(h:Zd ((hl,none)::A) j q=true):Zd ([d].map (fun t=>(hl,some t))++A) j q=true:=by simp only[Zd,List.all_cons,Bool.and_eq_true,Bool.or_eq_true,Bool.false_eq_true,or_false,List.map_cons,List.map_nil,List.cons_append,List.nil_append] at h ⊢;exact⟨.inl h.1,h.2⟩
theorem DSt.frozen {hs:List Heap}{σ:Heap}{pend:List (Nat×(Heap→Prop))}{hl chg m d:Nat}{A R:List (Nat×Option Nat)}{own:Own}{pl:Nat→Value}(h:DSt hs σ pend hl chg ([d].map (fun t=>(m,some t))++A) R own pl):DSt hs σ pend hl chg ((m,none)::A) R own pl :=
 ⟨h.len,h.same,h.pend,fun j τ q i ht hu=>h.fr j τ q i ht (PR hu)⟩
theorem BP {ts:List Nat}{m j:Nat}{A:List (Nat×Option Nat)}(h:Gt (ts.map (fun t=>(m,some t))++A) j=true):Gt A j=true:=by simp only[Gt,List.all_append,Bool.and_eq_true] at h;exact h.2
theorem HT {a:Nat×Option Nat}{j:Nat}{A:List (Nat×Option Nat)}(h:Gt (a::A) j=true):Gt A j=true:=by simp only[Gt,List.all_cons,Bool.and_eq_true] at h;exact h.2
theorem R2 {C:Cx}{f:SV}{args:List SV}{cs:List Prop}{v:SV}(h:FX C f args=some (cs,v)):∃ c ty k xs nl,KJ C.cs f args=some (c,.lst 0,[.lst ty k xs nl])∧cs=[c,nl=true→xs=[]]∧v=.val (.list k) xs∧k.flat=true∧0<C.nt:=by
 unfold FX at h;split at h
 ·rename_i heq;split at h
  ·rename_i k xs nl;cases hc:(k.flat&&Nat.blt 0 C.nt) with
   |false=>rw[hc] at h;cases h
   |true =>rw[hc] at h;obtain⟨rfl,rfl⟩:=QS h;simp only[Bool.and_eq_true,Nat.blt_eq] at hc;exact⟨_,_,_,_,_,heq,rfl,rfl,hc.1,hc.2⟩
  ·cases h
 ·cases h
theorem SD {b:OB}(h:b.here=true):b.live=true:=by cases b<;>first|rfl|cases h
theorem YB {B F:Heap}{pl:Nat→Value}{tb:Nat→Option Bool}{s:St}{env:Env}{σ:Heap}(hG:Gam P B F pl tb s env σ) {o:VOp}{q:Nat}(h:UR o (gev [] s.env) s.own=some q) {u:Value}{σ2:Heap}(hv:Q6 o (Q3 env) σ=some (u,σ2)) :
  (Q9 s.own (q / 2)).live=true∧∃ i b,Oid (pl (q / 2)) i∧σ.get i=some b∧(∀ τ,τ.get i=some b→Q6 o (Q3 env) τ=some (u,τ))∧(q % 2=1→∃ es c wr,b=.obj (.map es c) wr∧∀ τ bT c',LkE es bT→τ.get i=some (.obj (.map bT c') wr)→Q6 o (Q3 env) τ=some (u,τ)):=by
 have two:∀ q,2*q / 2=q:=fun q=>by omega
 have nB:∀ q,(2*q+1) / 2=q:=fun q=>by omega
 have odd:∀ {q} {X:Prop},2*q % 2=1→X:=fun {q X} h=>by omega
 unfold UR at h;split at h
 ·rename_i agg size a;have ha:=hG.evs (Gds.nil (tb:=tb)) a;have key:∀ q i off,(Q9 s.own q).live=true→Oid (pl q) i→Q3 env a=.pointer (some ⟨i,off,none⟩)→(Q9 s.own q).live=true∧∃ i b,Oid (pl q) i∧σ.get i=some b∧∀ τ,τ.get i=some b→Q6 (.load agg size a) (Q3 env) τ=some (u,τ):=fun q i off hl hi he=>by
   simp only[Q6,he] at hv;cases hb:σ.get i with
   |none=>rw[hb] at hv;cases hv
   |some b =>
    refine⟨hl,i,b,hi,hb,fun τ ht=>?_⟩;rw[hb] at hv;simp only[Q6,he,ht];cases b with
    |obj o wr=>cases hv
    |cells c e wr t =>
     simp only at hv ⊢;split at hv
     ·obtain⟨rfl,rfl⟩:=QS hv;rfl
     ·cases hv
  split at h
  ·rename_i q' off hx;rw[hx] at ha;simp only[SR] at ha;obtain⟨b,h1,h2⟩:=ha;cases hh:(Q9 s.own q').here with
   |false=>rw[hh] at h;cases h
   |true =>rw[hh] at h;obtain rfl:=osj h;obtain⟨x1,y1,y2,y3,y4,y5⟩:=key q' b off (SD hh) (by rw[h1];rfl) h2;exact⟨by rw[two];exact x1,y1,y2,by rw[two];exact y3,y4,y5,odd⟩
  ·rename_i q' i off sz hx;rw[hx] at ha;simp only[SR] at ha;obtain⟨b,len,cap,h1,h2,h3,h4⟩:=ha;cases hh:(Q9 s.own q').here with
   |false=>rw[hh] at h;cases h
   |true =>rw[hh] at h;obtain rfl:=osj h;obtain⟨x1,y1,y2,y3,y4,y5⟩:=key q' b _ (SD hh) (by rw[h1];rfl) h4;exact⟨by rw[two];exact x1,y1,y2,by rw[two];exact y3,y4,y5,odd⟩
  ·cases h
 ·rename_i mk z x y;cases bc:stP mk z with
  |false=>rw[bc] at h;cases h
  |true =>
   rw[bc] at h;simp only[_root_.cond_true] at h;obtain⟨rfl,rfl⟩:=IU bc;split at h
   ·rename_i q' hx;split at h
    ·rename_i kk vk l ho;obtain rfl:=osj h;have ha:=hG.evs (Gds.nil (tb:=tb)) x;rw[hx] at ha;simp only[SR] at ha;have al:=hG.obj q';rw[ho] at al;obtain⟨id,es,c,h2,h3,_⟩:=al;have aE:∀ (τ:Heap) bT c' wr,τ.get id=some (.obj (.map bT c') wr)→τ.mapAt id=some (bT,c',wr):=fun τ bT c' wr hτ=>by simp[Heap.mapAt,hτ]
     simp only[Q6,Zj,ha.1,h2,aE _ _ _ _ h3] at hv;refine⟨by rw[nB,ho];rfl,id,_,by rw[nB,h2];rfl,h3,fun τ hτ=>?_,fun _=>⟨es,c,true,rfl,fun τ bT c' hl hτ=>?_⟩⟩
     ·simp only[Q6,Zj,ha.1,h2,aE _ _ _ _ hτ];split at hv
      ·rename_i fk;split at hv
       ·rename_i gx;rw[if_pos fk,if_pos gx];cases he:Qg (Q3 env y) es with
        |some e=>rw[he] at hv;obtain⟨rfl,rfl⟩:=QS hv;rfl
        |none=>rw[he] at hv;obtain⟨rfl,rfl⟩:=QS hv;rfl
       ·cases hv
      ·cases hv
     ·simp only[Q6,Zj,ha.1,h2,aE _ _ _ _ hτ];split at hv
      ·rename_i fk;split at hv
       ·rename_i gx;rw[if_pos fk,if_pos (hl.1 gx)];have cA:=hl.2 gx _ fk;cases he:Qg (Q3 env y) es with
        |some e =>
         rw[he] at hv cA;obtain⟨rfl,rfl⟩:=QS hv;cases hm:Qg (Q3 env y) bT with
         |some e'=>rw[hm] at cA;simp only[Q4n] at cA;simp[cA]
         |none=>rw[hm] at cA;simp only[Q4n] at cA;simp[←cA]
        |none =>
         rw[he] at hv cA;obtain⟨rfl,rfl⟩:=QS hv;cases hm:Qg (Q3 env y) bT with
         |some e'=>rw[hm] at cA;simp only[Q4n] at cA;simp[cA]
         |none=>rfl
       ·cases hv
      ·cases hv
    ·cases h
   ·cases h
 ·cases h
theorem NP {r:Nat}{σ:Heap}:∀ {l:List (Nat×(Heap→Prop))},JO r σ l→∀ {c},c∈l→r≤c.1→c.2 σ
 |c::l,h,c',hc,hr=>by
  rcases List.mem_cons.1 hc with rfl|hc
  ·exact h.1 hr
  ·exact NP h.2 hc hr
theorem NZ {B F:Heap}{pl:Nat→Value}{tb:Nat→Option Bool}{s:St}{env:Env}{σ:Heap}(hG:Gam P B F pl tb s env σ) {gs:List Gd}(hg:Gds tb gs) {o:VOp}(h:Q6k o (gev gs s.env)=true) {u:Value}{σ2:Heap}(hv:Q6 o (Q3 env) σ=some (u,σ2)) :
  ∀ τ,B.Le τ→Q6 o (Q3 env) τ=some (u,τ):=by
 unfold Q6k at h;split at h
 ·rename_i agg size a;have ha:=hG.evs hg a;have key:∀ i off,(∃ b,B.get i=some b)→Q3 env a=.pointer (some ⟨i,off,none⟩)→∀ τ,B.Le τ→Q6 (.load agg size a) (Q3 env) τ=some (u,τ):=fun i off ⟨b,hb⟩ he τ hτ=>by
   simp only[Q6,he,hG.leB.2 _ _ hb] at hv;simp only[Q6,he,hτ.2 _ _ hb];cases b with
   |obj o wr=>cases hv
   |cells c e wr t =>
    simp only at hv ⊢;split at hv
    ·obtain⟨rfl,rfl⟩:=QS hv;rfl
    ·cases hv
  split at h
  ·rename_i k l i off hx;rw[hx] at ha;simp only[SR] at ha;obtain⟨b,o,c,e,wr,t,_,_,h3,h4,_⟩:=ha;exact key b _ ⟨_,h3⟩ h4
  ·rename_i l off hx;rw[hx] at ha;simp only[SR] at ha;obtain⟨b,c,e,wr,t,h3,h4,_⟩:=ha;exact key b _ ⟨_,h3⟩ h4
  ·cases h
 ·cases h
theorem O9 {C:Cx}{B F:Heap}{pl:Nat→Value}{tb:Nat→Option Bool}{s:St}{env:Env}{σ:Heap}(hG:Gam P B F pl tb s env σ) {d:Nat}{o:VOp}{K:SV→St→Prop}(h:gn C d o (gev [] s.env) s K) (hc:A6 o=false) :
  ∃ u σ' pl' v s',Q6 o (Q3 env) σ=some (u,σ')∧K v s'∧(Gam P B F pl' tb s' env σ'∧Fr (QT d o (gev [] s.env)) s s' pl pl' σ σ')∧SR P B pl' tb v u ∧
  (R1 o=true→(Q9 s'.own (QT d o (gev [] s.env))).live=true∧pl' (QT d o (gev [] s.env))=pl (QT d o (gev [] s.env))∧∃ i es c bT c',pl (QT d o (gev [] s.env))=.map (some i)∧σ.get i=some (.obj (.map es c) true)∧σ'.get i=some (.obj (.map bT c') true)∧LkE es bT):=by
 cases he:R1 o with
 |false =>obtain⟨u,σ',pl',v,s',h1,h2,h3,h4⟩:=Q70 hG h hc;exact⟨u,σ',pl',v,s',h1,h2,h3,h4,fun h=>by cases h⟩
 |true =>
  unfold R1 at he;split at he
  ·rename_i mk z m kx;obtain⟨rfl,rfl⟩:=IU he;obtain⟨u,σ',v,s',T,kv,aV,i,es,c,rfl,h1,h2,h3,h4,h5,h6,h7,h8,h9,bY,gk⟩:=HS (hG.evs (Gds.nil (tb:=tb))) hG h;refine⟨u,σ',pl,v,s',h1,h2,h3,h4,fun _=>⟨h5,rfl,i,es,c,_,_,h6,h7,h8,?_⟩⟩;have:aV=Q4n (Qg kv es):=by rw[gk];cases Qg kv es<;>rfl
   rw[this];exact IM h9
  ·cases he
def J2 (S:VSpecs):List DOper→Env→List Heap→Heap→List (Nat×(Heap→Prop))→(Env→Heap→Prop)→Prop
 |[],env,_,σ,_,K=>K env σ
 |o::rest,env,hs,σ,pend,K=>QZ (Z_ env o.guard) fun b =>
   vif b (if o.kind=2 then GZ (fun R=>vop S o.op env σ R) fun v σ'=>JO hs.length σ' pend∧J2 S rest (JS env o.dst v) (hs++[σ']) σ' pend K
     else if o.kind=1 then QZ (Q6 o.op (Q3 env) σ) fun p=>(∀ τ∈hs.drop o.kmin,JQ o.op (Q3 env) p.1 τ) ∧
      J2 S rest (JS env o.dst p.1) hs σ (if hs.length≤o.kmax then (o.kmax,JQ o.op (Q3 env) p.1)::pend else pend) K
     else QZ (Q6 o.op (Q3 env) σ) fun p=>J2 S rest (JS env o.dst p.1) hs σ pend K)
    (if o.kind=2 then JO hs.length σ pend∧J2 S rest (JS env o.dst undef) (hs++[σ]) σ pend K else J2 S rest (JS env o.dst undef) hs σ pend K)
theorem H9 {α:Type}{o:Option α}{f g:α→Prop}(h:QZ o f) (s9:∀ a,f a→g a):QZ o g:=by
 cases o with
 |none=>exact h.elim
 |some a=>exact s9 a h
theorem WC {S:VSpecs}{K:Env→Heap→Prop}:∀ {ops:List DOper}{env:Env}{hs:List Heap}{σ:Heap}{pend:List (Nat×(Heap→Prop))},J2 S ops env hs σ pend K→Zr S ops env hs σ pend K
 |[],_,_,_,_,h=>h
 |o::r,env,hs,σ,pend,h=>by
  simp only[J2] at h;simp only[Zr];refine H9 h fun b h=>⟨fun e=>?_,fun e=>?_⟩
  ·have h:=h.1 e;split at h
   ·rename_i hk;rw[if_pos hk];obtain⟨v,σ',h1,h2,h3⟩:=h;exact .inl ⟨v,σ',h1,h2,WC h3⟩
   ·rename_i hk;rw[if_neg hk];split at h
    ·rename_i bG;rw[if_pos bG];exact H9 h fun p h=>⟨h.1,WC h.2⟩
    ·rename_i bG;rw[if_neg bG];exact H9 h fun p h=>WC h
  ·have h:=h.2 e;split at h
   ·rename_i hk;rw[if_pos hk];exact⟨h.1,WC h.2⟩
   ·rename_i hk;rw[if_neg hk];exact WC h
theorem Qn {C:Cx}(az:COk P C) (bt:C.xs=[]) {B0 F0 D0:Heap}:∀ (ops:List DOper),(∀ o∈ops,o.kind=o.op.kind)→∀ {s:St}{env:Env}{σ:Heap}{B F:Heap}{pl:Nat→Value}{tb:Nat→Option Bool},GBase B0 F0 D0 B F σ→Gam P B F pl tb s env σ→∀ {hl chg:Nat}{A Rd:List (Nat×Option Nat)}{hs:List Heap}{pend pd:List (Nat×(Heap→Prop))},DSt hs σ pd hl chg A Rd s.own pl→(∀ c∈pend,(∀ τ,B.Le τ→c.2 τ)∨c∈pd)→(∀ j τ,hs[j]?=some τ→Gt A j=true→B.Le τ)→chg≤hl→0<hl →
  ∀ {K:St→Prop},X8 C ops s hl chg A Rd K→∀ {R:Env→Heap→Prop},(∀ s' af σ',K s'→GRel P B0 F0 D0 s' af σ'→R af σ')→J2 (Q2 P) ops env hs σ pend R
 |[],_,s,env,σ,B,F,pl,tb,hB,hG,_,_,_,_,_,_,_,_,_,_,_,_,K,h,R,hK=>hK s env σ h ⟨B,F,pl,tb,hB,hG⟩
 |o0::r,fg,s,env,σ,B,F,pl,tb,hB,hG,hl,chg,A,Rd,hs,pend,pd,hD,hp,b6,eF,aR,K,h,R,hK=>by
  have er:∀ {n:Nat}{τ:Heap},B.Le τ→JO n τ pd→JO n τ pend:=fun {n τ} hb hv=>YC fun c hc hn=>(hp c hc).elim (fun h=>h τ hb) fun h=>NP hv h hn;have snoc:∀ {τ:Heap}{A':List (Nat×Option Nat)},B.Le τ→(∀ j,Gt A' j=true→Gt A j=true)→∀ j τ',(hs++[τ])[j]?=some τ'→Gt A' j=true→B.Le τ':=fun {τ A'} hb hA j τ' hm hn=>by
   rcases Jg hm with⟨_,h1⟩|⟨_,rfl⟩
   ·exact b6 j τ' h1 (hA j hn)
   ·exact hb
  have b7:∀ o∈r,o.kind=o.op.kind:=fun o' eD=>fg o' (List.mem_cons_of_mem _ eD);have k_:=fg o0 List.mem_cons_self;unfold X8 at h;split at h
  ·rename_i bc;have hw:=K2 hG bc;simp only[J2];rw[hw];refine⟨fun e=>(by cases e),fun _=>?_⟩;have bQ:=hG.put o0.dst (show SR P B pl tb .any undef by simp[SR]);by_cases aq:o0.kind=2
   ·rw[if_pos aq] at h ⊢;obtain⟨k1,k2⟩:=hD.stay;exact⟨er hG.leB k1,Qn az bt r b7 hB bQ (by rw[Zb];exact k2) hp (snoc hG.leB fun _ h=>h) (by omega) (by omega) h hK⟩
   ·rw[if_neg aq] at h ⊢;exact Qn az bt r b7 hB bQ (by rw[Zb];exact hD) hp b6 eF aR h hK
  have bM:(AV s.env o0).kind=(AV s.env o0).op.kind:=by unfold AV;split<;>exact k_
  have cX:J2 (Q2 P) (AV s.env o0::r) env hs σ pend R→J2 (Q2 P) (o0::r) env hs σ pend R:=fun hv=>by
   unfold AV at hv;split at hv
   ·rename_i bc;simp only[J2] at hv ⊢;rw[K2 hG bc];exact hv
   ·exact hv
  refine cX ?_;clear cX;generalize AV s.env o0=o at h bM ⊢
  replace h:=id h
  simp only[J2];by_cases aq:o.kind=2
  ·rw[if_pos aq] at h
   have fin:∀ {u:Value}{σ':Heap}{ts:List Nat}{v:SV}{s':St}{pl':Nat→Value},(∀ R',R' u σ'→vop (Q2 P) o.op env σ R')→X8 C r (s'.put o.dst v) (hl+1) (bif ts.isEmpty then chg else hl) (ts.map (fun t=>(hl-1,some t))++A) (bif ts.isEmpty then Rd else Rd.map fun r=>(r.1,none)) K→Gam P B F pl' tb s' env σ'→SR P B pl' tb v u→(ts=[]→σ'=σ∧pl'=pl∧s'=s)→σ.Le σ'→Dead σ σ'→FrL ts s s' pl pl' σ σ' →
     GZ (fun R=>vop (Q2 P) o.op env σ R) fun v σ'=>JO hs.length σ' pend∧J2 (Q2 P) r (JS env o.dst v) (hs++[σ']) σ' pend R:=fun {u σ' ts v s' pl'} bD nC bk iB he hle hd cM=>by
    cases ts with
    |nil =>obtain⟨rfl,rfl,rfl⟩:=he rfl;obtain⟨k1,k2⟩:=hD.stay;exact⟨u,σ',bD _ ⟨rfl,rfl⟩,er bk.leB k1,Qn az bt r b7 (M8 hB hd) (bk.put o.dst iB) (by rw[Zb];exact k2) hp (snoc bk.leB fun _ h=>h) (by simp only[List.isEmpty,_root_.cond_true] at *;omega) (by omega) nC hK⟩
    |cons t ts =>obtain⟨k1,k2⟩:=hD.call hle cM aR;exact⟨u,σ',bD _ ⟨rfl,rfl⟩,er bk.leB k1,Qn az bt r b7 (M8 hB hd) (bk.put o.dst iB) (by rw[Zb];exact k2) hp (snoc bk.leB fun _ h=>BP h) (by simp only[List.isEmpty,_root_.cond_false] at *;omega) (by omega) nC hK⟩
   split at h
   ·rename_i f args bD;split at h
    ·rename_i hg;rw[hg];refine⟨fun _=>?_,fun e=>by cases e⟩;rw[if_pos aq];rw[bt] at h;simp only[Qv] at h;obtain⟨g,a,b,u,σ',e,v,s',pl',h1,h2,h3,h4,h5,h6,h7,h8,h9⟩:=Xz az hG h (show SR P σ Jq ZF (.fn f [] []) (.func (.func f) #[] #[]) by simp only[SR,SRs];exact⟨[],[],rfl,rfl,rfl⟩) (hG.gcall Gds.nil args);obtain⟨rfl,rfl,rfl⟩:=(by simpa using h1:f=g∧#[]=a∧#[]=b);refine fin (u:=u) (σ':=σ') (fun R' hr=>?_) h3 h4 h5 h6 h7 h8 h9;rw[bD];show VCalled P f (args.map (Q3 env)) σ R';have:=h2.mono (R':=R') fun u' aC ⟨e1,e2⟩=>by subst e1;subst e2;exact hr
     simpa using this
    ·rename_i j want hg;rw[hg];split at h
     ·exact h.elim
     ·rename_i gs s1 dN;obtain⟨tb',bk,cP,b,hw,bw,cu⟩:=Xv hG dN;have aK:=YH dN;rw[hw];split at h
      ·rename_i cs v dy;cases cD:KG v with
       |false=>rw[cD] at h;exact h.elim
       |true =>
       rw[cD] at h;simp only[_root_.cond_true] at h;obtain⟨h1,h2⟩:=Zi h;obtain⟨k1,k2⟩:=hD.stay;have kW:∀ x,DSt (hs++[σ]) σ pd (hl+1) chg A Rd (s1.put o.dst x).own pl:=fun x=>by rw[Zb,aK];exact k2
       refine⟨fun e=>?_,fun e=>?_⟩
       ·rw[if_pos aq];have ga:Gds tb' gs:=fun g hg=>⟨bw e g hg,cP g hg⟩;have ld:∀ {v u},SR P B pl tb' v u→SR P B pl tb' (.grd gs (Gn v)) u:=fun {v u} hs=>by
         simp only[SR];obtain⟨h1,h2⟩:=BK hs;exact⟨⟨cP,h2⟩,fun _=>h1,fun ⟨g,hg,aA⟩=>absurd (bw e g hg) aA⟩
        simp only[gqc] at dy;split at dy
        ·rename_i c v' heq;cases cE:v'.ret 0 with
         |false=>rw[cE] at dy;cases dy
         |true =>
          rw[cE] at dy;obtain⟨rfl,rfl⟩:=QS dy;obtain⟨g,a,b',h3,h4,_⟩:=ZO az.cs (show SR P σ Jq ZF (.fn f [] []) (.func (.func f) #[] #[]) by simp only[SR,SRs];exact⟨[],[],rfl,rfl,rfl⟩) (bk.gcall ga args) heq cE rfl (h2 (bw e) _ (by simp));obtain⟨rfl,rfl,rfl⟩:=(by simpa using h3:f=g∧#[]=a∧#[]=b');refine⟨KS Jq v',σ,?_,er hG.leB k1,Qn az bt r b7 hB (bk.put o.dst (ld ?_)) (kW _) hp (snoc hG.leB fun _ h=>h) (by omega) (by omega) (Zf h1) hK⟩
          ·rw[bD];show VCalled P f (args.map (Q3 env)) σ _;have:=h4.mono (R':=fun u σ'=>u=KS Jq v'∧σ'=σ) fun u σ' hr=>by
            obtain⟨rfl,hu⟩:=hr.flat cE;exact⟨KX v' u cE cD hu,rfl⟩
           simpa using this
          ·exact SR.retd (fun j hj=>by omega) _ _ cE (Sr (P:=P) (pl:=Jq) (m:=0) (fun j hj=>by omega) v' cE cD)
        ·cases dy
       ·rw[if_pos aq];obtain⟨g,dB,aA⟩:=cu e;exact⟨er hG.leB k1,Qn az bt r b7 hB (bk.put o.dst (by simp only[SR];exact⟨⟨cP,BR v⟩,fun ae=>absurd (ae g dB) aA,fun _=>trivial⟩)) (kW _) hp (snoc hG.leB fun _ h=>h) (by omega) (by omega) (Zf h1) hK⟩
      ·split at h
       ·rename_i cs v jW;obtain⟨c,ty,k,xs,nl,heq,rfl,rfl,hk,dC⟩:=R2 jW;obtain⟨h1,h2⟩:=Zi h;have frz:∀ {B' σ':Heap},B'.Le σ'→∀ j τ',(hs++[σ'])[j]?=some τ'→Gt ((hl-1,none)::A) j=true→B'.Le τ':=fun {B' σ'} hb j τ' hm hn=>by
         rcases Jg hm with⟨h1,_⟩|⟨_,rfl⟩
         ·simp only[Gt,List.all_cons,Bool.and_eq_true,Bool.or_eq_true,Nat.blt_eq,Option.isSome_none,Bool.false_eq_true,or_false] at hn;have:=hD.len;omega
         ·exact hb
        refine⟨fun e=>?_,fun e=>?_⟩
        ·rw[if_pos aq];have ga:Gds tb' gs:=fun g hg=>⟨bw e g hg,cP g hg⟩;have fk:=h2 (bw e) c (by simp);have gx:=h2 (bw e) (nl=true→xs=[]) (by simp);have dN:MJ C (C.off+o.dst.getD 0) (.fn f [] []) (BG s1.own (args.map (gev gs s1.env))) s1 (fun ts v' s'=>ts=[C.off+o.dst.getD 0]∧v'=.lst (C.off+o.dst.getD 0)∧s'=s1.make (C.off+o.dst.getD 0) (.lst ty k xs nl)):=by
          unfold MJ;rw[heq];dsimp only;have ak:(SV.ret [OB.lst ty k xs nl].length (.lst 0)&&([OB.lst ty k xs nl].all OB.ret&&(Nat.blt 0 C.nt&&([OB.lst ty k xs nl].all OB.isL&&KG (.lst 0)))))=true:=by simp only[SV.ret,List.length_singleton,List.all_cons,List.all_nil,Bool.and_true,OB.ret,hk,Bool.true_and,OB.isL,KG];rw[Bool.and_eq_true];exact⟨rfl,by rw[Nat.blt_eq];exact dC⟩
          rw[ak];simp only[_root_.cond_true,IS,OB.wf];refine⟨fk,gx,?_,?_,?_⟩
          ·simp[List.range_succ]
          ·simp[SV.ren]
          ·simp[St.makes]
         obtain⟨g,a,b',u,σ',ts,v',s',pl',h3,h4,⟨rfl,rfl,rfl⟩,h5,h6,_,h7,h8,h9⟩:=Xz az bk dN (show SR P σ Jq ZF (.fn f [] []) (.func (.func f) #[] #[]) by simp only[SR,SRs];exact⟨[],[],rfl,rfl,rfl⟩) (bk.gcall ga args);obtain⟨rfl,rfl,rfl⟩:=(by simpa using h3:f=g∧#[]=a∧#[]=b');obtain⟨B',F',m1,m2,m3⟩:=Si bk.bf hk h5 h6 h8;have cM:FrL [C.off+o.dst.getD 0] s ((s1.make (C.off+o.dst.getD 0) .dead).put o.dst (.grd gs (.val (.list k) xs))) pl pl' σ σ':=fun q hq=>by obtain⟨f1,f2,f3⟩:=h9 q hq;rw[aK] at f3;refine⟨?_,f2,f3⟩;rw[Zb,Va _ _ _ (by simpa using hq),aK]
         obtain⟨k1,k2⟩:=hD.call h7 cM aR;refine⟨u,σ',?_,er (m1.b.trans m2.leB) k1,Qn az bt r b7 (hB.trans m1) (m2.put o.dst ?_) k2.frozen (fun c hc=>(hp c hc).imp (fun h τ hτ=>h τ (m1.b.trans hτ)) id) (frz m2.leB) (by omega) (by omega) h1 hK⟩
         ·rw[bD];show VCalled P f (args.map (Q3 env)) σ _;simpa using h4
         ·simp only[SR];exact⟨⟨cP,trivial⟩,fun _=>m3,fun ⟨g,hg,aA⟩=>absurd (bw e g hg) aA⟩
        ·rw[if_pos aq];obtain⟨g,dB,aA⟩:=cu e;have cM:FrL [C.off+o.dst.getD 0] s ((s1.make (C.off+o.dst.getD 0) .dead).put o.dst (.grd gs (.val (.list k) xs))) pl (Jo pl (C.off+o.dst.getD 0) undef) σ σ:=fun q hq=>by
          have cw:q≠C.off+o.dst.getD 0:=by simpa using hq
          refine⟨?_,by simp[Jo,cw],fun _ _ _=>rfl⟩;rw[Zb,Va _ _ _ cw,aK]
         obtain⟨k1,k2⟩:=hD.call (.refl σ) cM aR;refine⟨er hG.leB k1,Qn az bt r b7 hB ((bk.make (C.off+o.dst.getD 0) .dead undef bk.le (fun _ _ _ _ _=>rfl) trivial (fun i hl _=>by cases hl)).put o.dst ?_) k2.frozen hp (frz hG.leB) (by omega) (by omega) h1 hK⟩;simp only[SR];exact⟨⟨cP,trivial⟩,fun ae=>absurd (ae g dB) aA,fun _=>trivial⟩
       ·exact h.elim
   ·rename_i f args bD;split at h
    ·rename_i hg;rw[hg];refine⟨fun _=>?_,fun e=>by cases e⟩;rw[if_pos aq];obtain⟨g,a,b,u,σ',e,v,s',pl',h1,h2,h3,h4,h5,h6,h7,h8,h9⟩:=Xz az hG h (hG.gfun Gds.nil f) (hG.gcall Gds.nil args);refine fin (u:=u) (σ':=σ') (fun R' hr=>?_) h3 h4 h5 h6 h7 h8 h9;rw[bD];exact UI h1 (h2.mono (R':=R') fun u' aC ⟨e1,e2⟩=>by subst e1;subst e2;exact hr)
    ·exact h.elim
   ·exact h.elim
   ·exact h.elim
   ·rename_i pO mz pP jc;split at h
    ·rename_i hg;rw[hg];refine⟨fun _=>?_,fun e=>by cases e⟩;rw[if_pos aq];have aB:A6 o.op=false:=by
      cases ho:o.op<;>first|rfl|(exact absurd ho (pO _ _))|(exact absurd ho (mz _ _))|skip
      case ext x=>cases x<;>first|rfl|(exact absurd ho (pP _))|(exact absurd ho (jc _))
     cases jV:SG C (o.dst.getD 0) o.op (gev [] s.env) with
     |true =>
      rw[jV] at h;simp only[_root_.cond_true] at h;cases hm:AZ (Hq o.op) Rd hl (LN (C.off+o.dst.getD 0) o.op (gev [] s.env)) with
      |false=>rw[hm] at h;exact h.elim
      |true =>
       rw[hm] at h;simp only[_root_.cond_true] at h;obtain⟨u,σ',pl',v,s',h1,h2,⟨h3,jT⟩,h4⟩:=P1 (fun x=>hG.evs (Gds.nil (tb:=tb)) x) hG h;have fM:∀ R',R' u σ'→vop (Q2 P) o.op env σ R':=fun R' hr=>by
        have:vop (Q2 P) o.op env σ R'=QZ (Q6 o.op (Q3 env) σ) fun p=>R' p.1 p.2:=by
         cases ho:o.op with
         |callF f a=>rw[ho] at aB;cases aB
         |callV f a=>rw[ho] at aB;cases aB
         |ext x =>
          cases x with
          |nextMap y=>rw[ho] at h1;cases h1
          |_=>rfl
         |_=>rfl
        rw[this,h1];exact hr
       obtain⟨k1,k2⟩:=hD.writeD jT (fun cj=>Ry cj h1) hm aR;exact⟨u,σ',fM _ ⟨rfl,rfl⟩,er h3.leB k1,Qn az bt r b7 (M8 hB (Kh h1)) (h3.put o.dst h4) (by rw[Zb];exact k2) hp (snoc h3.leB fun _ h=>BP h) (by omega) (by omega) h2 hK⟩
     |false =>
     rw[jV] at h;simp only[_root_.cond_false] at h;cases hm:((Hq o.op&&LQ Rd hl (QT (C.off+o.dst.getD 0) o.op (gev [] s.env)))||TD Rd hl (QT (C.off+o.dst.getD 0) o.op (gev [] s.env))||(R1 o.op&&Q6j Rd hl (QT (C.off+o.dst.getD 0) o.op (gev [] s.env)))) with
     |false=>rw[hm] at h;exact h.elim
     |true =>
      rw[hm] at h;simp only[_root_.cond_true] at h;obtain⟨u,σ',pl',v,s',h1,h2,⟨h3,jT⟩,h4,hE⟩:=O9 hG h aB;have fM:∀ R',R' u σ'→vop (Q2 P) o.op env σ R':=fun R' hr=>by
       have:vop (Q2 P) o.op env σ R'=QZ (Q6 o.op (Q3 env) σ) fun p=>R' p.1 p.2:=by
        cases ho:o.op with
        |callF f a=>rw[ho] at aB;cases aB
        |callV f a=>rw[ho] at aB;cases aB
        |ext x =>
         cases x with
         |nextMap y=>rw[ho] at h1;cases h1
         |_=>rfl
        |_=>rfl
       rw[this,h1];exact hr
      obtain⟨k1,k2⟩:=hD.write jT (fun cj=>Ry cj h1) hE hm aR;exact⟨u,σ',fM _ ⟨rfl,rfl⟩,er h3.leB k1,Qn az bt r b7 (M8 hB (Kh h1)) (h3.put o.dst h4) (by rw[Zb];exact k2) hp (snoc h3.leB fun _ h=>HT h) (by omega) (by omega) h2 hK⟩
    ·exact h.elim
  ·rw[if_neg aq] at h;have lf:o.op.kind≠2:=by rw[←bM];exact aq
   by_cases bG:o.kind=1
   ·rw[if_pos bG] at h
    have rd:∀ (rq:Option Nat),(∀ q,rq=some q→UR o.op (gev [] s.env) s.own=some q)→(Nat.ble chg o.kmin||H2 A o.kmin rq)=true→gd1 C o s (fun s'=>X8 C r s' hl chg A ((o.kmax,rq)::Rd) K) →
      QZ (Z_ env o.guard) fun b=>vif b (if o.kind=2 then GZ (fun R=>vop (Q2 P) o.op env σ R) fun v σ'=>JO hs.length σ' pend∧J2 (Q2 P) r (JS env o.dst v) (hs++[σ']) σ' pend R
       else if o.kind=1 then QZ (Q6 o.op (Q3 env) σ) fun p=>(∀ τ∈hs.drop o.kmin,JQ o.op (Q3 env) p.1 τ) ∧
        J2 (Q2 P) r (JS env o.dst p.1) hs σ (if hs.length≤o.kmax then (o.kmax,JQ o.op (Q3 env) p.1)::pend else pend) R
       else QZ (Q6 o.op (Q3 env) σ) fun p=>J2 (Q2 P) r (JS env o.dst p.1) hs σ pend R)
      (if o.kind=2 then JO hs.length σ pend∧J2 (Q2 P) r (JS env o.dst undef) (hs++[σ]) σ pend R else J2 (Q2 P) r (JS env o.dst undef) hs σ pend R):=fun rq nD hc h=>by
     obtain⟨b,hw,h1,h2⟩:=V9 hG h;rw[hw];have lg:DSt hs σ pd hl chg A ((o.kmax,rq)::Rd) s.own pl:=⟨hD.len,hD.same,fun c hc=>(hD.pend c hc).imp id fun ⟨r,k1,k2⟩=>⟨r,List.mem_cons_of_mem _ k1,k2⟩,hD.fr⟩;refine⟨fun e=>?_,fun e=>?_⟩
     ·obtain⟨u,s',tb',h3,h4,aK,h5⟩:=h1 e;rw[if_neg aq,if_pos bG,h3];refine⟨fun τ hτ=>?_,?_⟩
      ·obtain⟨j,hj⟩:=List.mem_iff_getElem?.1 hτ;rw[List.getElem?_drop] at hj;rw[Bool.or_eq_true] at hc;rcases hc with hc|hc
       ·have:=hD.same (o.kmin+j) τ (by have:=Nat.le_of_ble_eq_true hc;omega) hj;subst this;exact ZM h3
       ·unfold H2 at hc;split at hc
        ·rename_i q;obtain⟨k1,i,bl,k2,k3,k4,k5⟩:=YB hG (nD q rfl) h3;have hu:Zd A (o.kmin+j) (q / 2)=true:=by
          simp only[Zd,List.all_eq_true,Bool.or_eq_true,Nat.blt_eq] at hc ⊢;exact fun a ha=>(hc a ha).imp (fun h=>by omega) id
         have:=hD.fr (o.kmin+j) τ (q / 2) i hj hu k1 k2;exact ZM (k4 τ (by rw[this];exact k3))
        ·cases hc
      ·by_cases hle:hs.length≤o.kmax
       ·rw[if_pos hle];refine Qn az bt r b7 hB h5 (A:=A) (Rd:=(o.kmax,rq)::Rd) (hl:=hl) (chg:=chg) (pd:=(o.kmax,JQ o.op (Q3 env) u)::pd) ?_ (fun c hc=>?_) b6 eF aR h4 hK
        ·rw[aK];refine⟨hD.len,hD.same,fun c hc=>?_,hD.fr⟩;rcases List.mem_cons.1 hc with rfl|hc
         ·refine .inr ⟨_,List.mem_cons_self,Nat.le_refl _,?_⟩;cases rq with
          |none=>exact fun τ hτ=>ZM (P7 lf h3 hτ)
          |some q =>obtain⟨k1,i,bl,k2,k3,k4,k5⟩:=YB hG (nD q rfl) h3;exact⟨k1,i,bl,k2,k3,fun τ ht=>ZM (k4 τ ht),fun ho=>(let ⟨es,c,wr,x1,x2⟩:=k5 ho;⟨es,c,wr,x1,fun τ bT c' hl ht=>ZM (x2 τ bT c' hl ht)⟩)⟩
         ·exact lg.pend c hc
        ·rcases List.mem_cons.1 hc with rfl|hc
         ·exact .inr List.mem_cons_self
         ·exact(hp c hc).imp id fun h=>List.mem_cons_of_mem _ h
       ·rw[if_neg hle];exact Qn az bt r b7 hB h5 (A:=A) (Rd:=(o.kmax,rq)::Rd) (hl:=hl) (chg:=chg) (pd:=pd) (by rw[aK];exact lg) hp b6 eF aR h4 hK
     ·obtain⟨s',tb',h4,aK,h5⟩:=h2 e;rw[if_neg aq];exact Qn az bt r b7 hB h5 (by rw[aK];exact lg) hp b6 eF aR h4 hK
    have ro:Gt A o.kmin=true→(∀ u,Q6 o.op (Q3 env) σ=some (u,σ)→(Z_ env o.guard=some true)→∀ τ,B.Le τ→Q6 o.op (Q3 env) τ=some (u,τ))→gd1 C o s (fun s'=>X8 C r s' hl chg A Rd K) →
      QZ (Z_ env o.guard) fun b=>vif b (if o.kind=2 then GZ (fun R=>vop (Q2 P) o.op env σ R) fun v σ'=>JO hs.length σ' pend∧J2 (Q2 P) r (JS env o.dst v) (hs++[σ']) σ' pend R
       else if o.kind=1 then QZ (Q6 o.op (Q3 env) σ) fun p=>(∀ τ∈hs.drop o.kmin,JQ o.op (Q3 env) p.1 τ) ∧
        J2 (Q2 P) r (JS env o.dst p.1) hs σ (if hs.length≤o.kmax then (o.kmax,JQ o.op (Q3 env) p.1)::pend else pend) R
       else QZ (Q6 o.op (Q3 env) σ) fun p=>J2 (Q2 P) r (JS env o.dst p.1) hs σ pend R)
      (if o.kind=2 then JO hs.length σ pend∧J2 (Q2 P) r (JS env o.dst undef) (hs++[σ]) σ pend R else J2 (Q2 P) r (JS env o.dst undef) hs σ pend R):=fun jd bJ h=>by
     obtain⟨b,hw,h1,h2⟩:=V9 hG h;rw[hw];refine⟨fun e=>?_,fun e=>?_⟩
     ·obtain⟨u,s',tb',h3,h4,aK,h5⟩:=h1 e;have bJ:=bJ u h3 (by rw[hw,e]);rw[if_neg aq,if_pos bG,h3];refine⟨fun τ hτ=>?_,?_⟩
      ·obtain⟨j,hj⟩:=List.mem_iff_getElem?.1 hτ;rw[List.getElem?_drop] at hj;refine ZM (bJ τ (b6 _ τ hj ?_));simp only[Gt,List.all_eq_true,Bool.or_eq_true,Nat.blt_eq] at jd ⊢;exact fun a ha=>(jd a ha).imp (fun h=>by omega) id
      refine Qn az bt r b7 hB h5 (A:=A) (Rd:=Rd) (hl:=hl) (chg:=chg) (pd:=pd) (by rw[aK];exact hD) (fun c hc=>?_) b6 eF aR h4 hK;split at hc
      ·rcases List.mem_cons.1 hc with rfl|hc
       ·exact .inl fun τ hτ=>ZM (bJ τ hτ)
       ·exact hp c hc
      ·exact hp c hc
     ·obtain⟨s',tb',h4,aK,h5⟩:=h2 e;rw[if_neg aq];exact Qn az bt r b7 hB h5 (by rw[aK];exact hD) hp b6 eF aR h4 hK
    split at h
    ·rename_i hg;cases hr:(Q6k o.op (gev [] s.env)&&Gt A o.kmin) with
     |true =>rw[hr] at h;rw[Bool.and_eq_true] at hr;exact ro hr.2 (fun u hu _=>NZ hG Gds.nil hr.1 hu) h
     |false =>
     rw[hr] at h;simp only[_root_.cond_false] at h;cases hb:(Nat.ble chg o.kmin||H2 A o.kmin (UR o.op (gev [] s.env) s.own)) with
     |false=>rw[hb] at h;exact h.elim
     |true =>rw[hb] at h;exact rd _ (fun q hq=>hq) hb h
    ·rename_i j want hg;cases hr:(O4 s j want o.op&&Gt A o.kmin) with
     |true =>
      rw[hr] at h;rw[Bool.and_eq_true] at hr;obtain⟨hr,jd⟩:=hr;refine ro jd (fun u hu hw=>?_) h;unfold O4 at hr;split at hr
      ·rename_i gs s1 dN;obtain⟨tb',bk,cP,b,df,bw,cu⟩:=Xv hG dN;rw[hg,df] at hw;have e:=osj hw;exact NZ bk (fun g hg=>⟨bw e g hg,cP g hg⟩) hr hu
      ·cases hr
     |false =>
     rw[hr] at h;simp only[_root_.cond_false] at h;cases hb:Nat.ble chg o.kmin with
     |false=>rw[hb] at h;exact h.elim
     |true =>rw[hb] at h;exact rd none (fun q hq=>by cases hq) (by rw[hb];rfl) h
   ·rw[if_neg bG] at h;obtain⟨b,hw,h1,h2⟩:=V9 hG h;rw[hw];refine⟨fun e=>?_,fun e=>?_⟩
    ·obtain⟨u,s',tb',h3,h4,aK,h5⟩:=h1 e;rw[if_neg aq,if_neg bG,h3];exact Qn az bt r b7 hB h5 (by rw[aK];exact hD) hp b6 eF aR h4 hK
    ·obtain⟨s',tb',h4,aK,h5⟩:=h2 e;rw[if_neg aq];exact Qn az bt r b7 hB h5 (by rw[aK];exact hD) hp b6 eF aR h4 hK
theorem Qo {C:Cx}(az:COk P C) {B0 F0 D0:Heap}:∀ (ops:List DOper),(∀ o∈ops,o.kind=o.op.kind)→∀ {s:St}{env:Env}{σ:Heap}{B F:Heap}{pl:Nat→Value}{tb:Nat→Option Bool},GBase B0 F0 D0 B F σ→Gam P B F pl tb s env σ→∀ {hl chg:Nat}{A Rd:List (Nat×Option Nat)}{hs:List Heap}{pend pd:List (Nat×(Heap→Prop))},DSt hs σ pd hl chg A Rd s.own pl→(∀ c∈pend,(∀ τ,B.Le τ→c.2 τ)∨c∈pd)→(∀ j τ,hs[j]?=some τ→Gt A j=true→B.Le τ)→chg≤hl→0<hl →
  ∀ {K:St→Prop},X8 C ops s hl chg A Rd K→∀ {R:Env→Heap→Prop},(∀ s' af σ',K s'→GRel P B0 F0 D0 s' af σ'→R af σ')→Zr (Q2 P) ops env hs σ pend R
 |[],_,s,env,σ,B,F,pl,tb,hB,hG,_,_,_,_,_,_,_,_,_,_,_,_,K,h,R,hK=>hK s env σ h ⟨B,F,pl,tb,hB,hG⟩
 |o0::r,fg,s,env,σ,B,F,pl,tb,hB,hG,hl,chg,A,Rd,hs,pend,pd,hD,hp,b6,eF,aR,K,h,R,hK=>by
  have er:∀ {n:Nat}{τ:Heap},B.Le τ→JO n τ pd→JO n τ pend:=fun {n τ} hb hv=>YC fun c hc hn=>(hp c hc).elim (fun h=>h τ hb) fun h=>NP hv h hn;have snoc:∀ {τ:Heap}{A':List (Nat×Option Nat)},B.Le τ→(∀ j,Gt A' j=true→Gt A j=true)→∀ j τ',(hs++[τ])[j]?=some τ'→Gt A' j=true→B.Le τ':=fun {τ A'} hb hA j τ' hm hn=>by
   rcases Jg hm with⟨_,h1⟩|⟨_,rfl⟩
   ·exact b6 j τ' h1 (hA j hn)
   ·exact hb
  have b7:∀ o∈r,o.kind=o.op.kind:=fun o' eD=>fg o' (List.mem_cons_of_mem _ eD);have k_:=fg o0 List.mem_cons_self;unfold X8 at h;split at h
  ·rename_i bc;have hw:=K2 hG bc;simp only[Zr];rw[hw];refine⟨fun e=>(by cases e),fun _=>?_⟩;have bQ:=hG.put o0.dst (show SR P B pl tb .any undef by simp[SR]);by_cases aq:o0.kind=2
   ·rw[if_pos aq] at h ⊢;obtain⟨k1,k2⟩:=hD.stay;exact⟨er hG.leB k1,Qo az r b7 hB bQ (by rw[Zb];exact k2) hp (snoc hG.leB fun _ h=>h) (by omega) (by omega) h hK⟩
   ·rw[if_neg aq] at h ⊢;exact Qo az r b7 hB bQ (by rw[Zb];exact hD) hp b6 eF aR h hK
  have bM:(AV s.env o0).kind=(AV s.env o0).op.kind:=by unfold AV;split<;>exact k_
  have cX:Zr (Q2 P) (AV s.env o0::r) env hs σ pend R→Zr (Q2 P) (o0::r) env hs σ pend R:=fun hv=>by
   unfold AV at hv;split at hv
   ·rename_i bc;simp only[Zr] at hv ⊢;rw[K2 hG bc];exact hv
   ·exact hv
  refine cX ?_;clear cX;generalize AV s.env o0=o at h bM ⊢
  replace h:=id h
  simp only[Zr];by_cases aq:o.kind=2
  ·rw[if_pos aq] at h
   have fin:∀ {u:Value}{σ':Heap}{ts:List Nat}{v:SV}{s':St}{pl':Nat→Value},(∀ R',R' u σ'→vop (Q2 P) o.op env σ R')→X8 C r (s'.put o.dst v) (hl+1) (bif ts.isEmpty then chg else hl) (ts.map (fun t=>(hl-1,some t))++A) (bif ts.isEmpty then Rd else Rd.map fun r=>(r.1,none)) K→Gam P B F pl' tb s' env σ'→SR P B pl' tb v u→(ts=[]→σ'=σ∧pl'=pl∧s'=s)→σ.Le σ'→Dead σ σ'→FrL ts s s' pl pl' σ σ' →
     GZ (fun R=>vop (Q2 P) o.op env σ R) fun v σ'=>JO hs.length σ' pend∧Zr (Q2 P) r (JS env o.dst v) (hs++[σ']) σ' pend R:=fun {u σ' ts v s' pl'} bD nC bk iB he hle hd cM=>by
    cases ts with
    |nil =>obtain⟨rfl,rfl,rfl⟩:=he rfl;obtain⟨k1,k2⟩:=hD.stay;exact⟨u,σ',bD _ ⟨rfl,rfl⟩,er bk.leB k1,Qo az r b7 (M8 hB hd) (bk.put o.dst iB) (by rw[Zb];exact k2) hp (snoc bk.leB fun _ h=>h) (by simp only[List.isEmpty,_root_.cond_true] at *;omega) (by omega) nC hK⟩
    |cons t ts =>obtain⟨k1,k2⟩:=hD.call hle cM aR;exact⟨u,σ',bD _ ⟨rfl,rfl⟩,er bk.leB k1,Qo az r b7 (M8 hB hd) (bk.put o.dst iB) (by rw[Zb];exact k2) hp (snoc bk.leB fun _ h=>BP h) (by simp only[List.isEmpty,_root_.cond_false] at *;omega) (by omega) nC hK⟩
   split at h
   ·rename_i f args bD;split at h
    ·rename_i hg;rw[hg];refine⟨fun _=>?_,fun e=>by cases e⟩;rw[if_pos aq]
     have nE:∀ {K':List Nat→SV→St→Prop},MJ C (C.off+o.dst.getD 0) (.fn f [] []) (BG s.own (args.map (gev [] s.env))) s K'→(∀ ts v s',K' ts v s'→X8 C r (s'.put o.dst v) (hl+1) (bif ts.isEmpty then chg else hl) (ts.map (fun t=>(hl-1,some t))++A) (bif ts.isEmpty then Rd else Rd.map fun r=>(r.1,none)) K) →
       GZ (fun R=>vop (Q2 P) o.op env σ R) fun v σ'=>JO hs.length σ' pend∧Zr (Q2 P) r (JS env o.dst v) (hs++[σ']) σ' pend R:=fun {K'} h pQ=>by
      obtain⟨g,a,b,u,σ',e,v,s',pl',h1,h2,h3,h4,h5,h6,h7,h8,h9⟩:=Xz az hG h (show SR P σ Jq ZF (.fn f [] []) (.func (.func f) #[] #[]) by simp only[SR,SRs];exact⟨[],[],rfl,rfl,rfl⟩) (hG.gcall Gds.nil args);obtain⟨rfl,rfl,rfl⟩:=(by simpa using h1:f=g∧#[]=a∧#[]=b);refine fin (u:=u) (σ':=σ') (fun R' hr=>?_) (pQ _ _ _ h3) h4 h5 h6 h7 h8 h9;rw[bD];show VCalled P f (args.map (Q3 env)) σ R';have:=h2.mono (R':=R') fun u' aC ⟨e1,e2⟩=>by subst e1;subst e2;exact hr
      simpa using this
     split at h
     ·rename_i x hx;split at h
      ·rename_i jf s_;split at h
       ·rename_i tt ta;cases gg:(waits o.dst.toList r&&AZ false Rd hl [tt]) with
        |false=>rw[gg] at h;exact h.elim
        |true =>rw[gg] at h;simp only[_root_.cond_true] at h;rw[Bool.and_eq_true] at gg;refine .inr ⟨gg.1,?_⟩;rw[bD];show VCalled P f (args.map (Q3 env)) σ _;refine az.xf f jf s_ x hx B F pl tb s env σ _ _ _ _ _ tt hG (SRs.map fun x _=>hG.evs Gds.nil x) ta h fun v s' u σ' k1 k2 k3 k4 k5=>?_;obtain⟨q1,q2⟩:=hD.writeD k5 (mk:=false) (fun h=>by cases h) gg.2 aR;exact⟨er k3.leB q1,Qo az r b7 (M8 hB k2) (k3.put o.dst k4) (by rw[Zb];exact q2) hp (snoc k3.leB fun _ h=>HT h) (by omega) (by omega) k1 hK⟩
       ·exact h.elim
      ·cases gg:(waits o.dst.toList r&&Rd.all (fun q=>Nat.blt q.1 hl)) with
       |false=>rw[gg] at h;simp only[_root_.cond_false] at h;exact .inl (nE h fun _ _ _ h=>h)
       |true =>
        rw[gg] at h;simp only[_root_.cond_true] at h;rw[Bool.and_eq_true] at gg;refine .inr ⟨gg.1,?_⟩;rw[bD];show VCalled P f (args.map (Q3 env)) σ _;have aw:∀ args:List Operand,SRs P B pl tb (args.map (gev [] s.env)) (args.map (Q3 env)):=fun args=>SRs.map fun x _=>hG.evs Gds.nil x;refine az.xs f x hx B F pl tb s env σ _ _ _ _ _ hG (aw args) h fun v s' B' F' pl' tb' u σ' k1 k2 k3 k4=>?_;have ae:∀ c∈pd,c.1<hl:=fun c hc=>by
         rcases hD.pend c hc with h1|⟨q,h1,h2,_⟩
         ·exact h1
         ·have:=List.all_eq_true.1 gg.2 q h1;rw[Nat.blt_eq] at this;omega
        have jF:JO hs.length σ' pd:=YC fun c hc hle=>by have:=ae c hc;have:=hD.len;omega
        have pR:JO hs.length σ' pend:=YC fun c hc hn=>(hp c hc).elim (fun h=>h σ' (k2.b.trans k3.leB)) fun h=>NP jF h hn;refine⟨pR,Qo az r b7 (hB.trans k2) (k3.put o.dst k4) (pd:=pd) ⟨by simp[hD.len],fun j τ hj ht=>?_,fun c hc=>.inl (by have:=ae c hc;omega),fun j τ q i ht hu cm hi=>?_⟩ (fun c hc=>(hp c hc).imp (fun h τ hτ=>h τ (k2.b.trans hτ)) id) (fun j τ ht hn=>?_) (by omega) (by omega) k1 hK⟩
        ·rcases Jg ht with⟨h1,_⟩|⟨_,h1⟩
         ·rw[hD.len] at h1;omega
         ·exact h1
        ·rcases Jg ht with⟨h1,_⟩|⟨_,h1⟩
         ·exfalso;rw[hD.len] at h1;simp only[Zd,List.all_cons,Bool.and_eq_true,Bool.or_eq_true,Nat.blt_eq,Bool.false_eq_true,or_false] at hu;omega
         ·rw[h1]
        ·rcases Jg ht with⟨h1,_⟩|⟨_,h1⟩
         ·exfalso;rw[hD.len] at h1;simp only[Gt,List.all_cons,Bool.and_eq_true,Bool.or_eq_true,Nat.blt_eq,Option.isSome_none,Bool.false_eq_true,or_false] at hn;omega
         ·rw[h1];exact k3.leB
     ·exact .inl (nE h fun _ _ _ h=>h)
    ·rename_i j want hg;rw[hg];split at h
     ·exact h.elim
     ·rename_i gs s1 dN;obtain⟨tb',bk,cP,b,hw,bw,cu⟩:=Xv hG dN;have aK:=YH dN;rw[hw];split at h
      ·rename_i cs v dy;cases cD:KG v with
       |false=>rw[cD] at h;exact h.elim
       |true =>
       rw[cD] at h;simp only[_root_.cond_true] at h;obtain⟨h1,h2⟩:=Zi h;obtain⟨k1,k2⟩:=hD.stay;have kW:∀ x,DSt (hs++[σ]) σ pd (hl+1) chg A Rd (s1.put o.dst x).own pl:=fun x=>by rw[Zb,aK];exact k2
       refine⟨fun e=>?_,fun e=>?_⟩
       ·rw[if_pos aq];have ga:Gds tb' gs:=fun g hg=>⟨bw e g hg,cP g hg⟩;have ld:∀ {v u},SR P B pl tb' v u→SR P B pl tb' (.grd gs (Gn v)) u:=fun {v u} hs=>by
         simp only[SR];obtain⟨h1,h2⟩:=BK hs;exact⟨⟨cP,h2⟩,fun _=>h1,fun ⟨g,hg,aA⟩=>absurd (bw e g hg) aA⟩
        simp only[gqc] at dy;split at dy
        ·rename_i c v' heq;cases cE:v'.ret 0 with
         |false=>rw[cE] at dy;cases dy
         |true =>
          rw[cE] at dy;obtain⟨rfl,rfl⟩:=QS dy;obtain⟨g,a,b',h3,h4,_⟩:=ZO az.cs (show SR P σ Jq ZF (.fn f [] []) (.func (.func f) #[] #[]) by simp only[SR,SRs];exact⟨[],[],rfl,rfl,rfl⟩) (bk.gcall ga args) heq cE rfl (h2 (bw e) _ (by simp));obtain⟨rfl,rfl,rfl⟩:=(by simpa using h3:f=g∧#[]=a∧#[]=b');refine .inl ⟨KS Jq v',σ,?_,er hG.leB k1,Qo az r b7 hB (bk.put o.dst (ld ?_)) (kW _) hp (snoc hG.leB fun _ h=>h) (by omega) (by omega) (Zf h1) hK⟩
          ·rw[bD];show VCalled P f (args.map (Q3 env)) σ _;have:=h4.mono (R':=fun u σ'=>u=KS Jq v'∧σ'=σ) fun u σ' hr=>by
            obtain⟨rfl,hu⟩:=hr.flat cE;exact⟨KX v' u cE cD hu,rfl⟩
           simpa using this
          ·exact SR.retd (fun j hj=>by omega) _ _ cE (Sr (P:=P) (pl:=Jq) (m:=0) (fun j hj=>by omega) v' cE cD)
        ·cases dy
       ·rw[if_pos aq];obtain⟨g,dB,aA⟩:=cu e;exact⟨er hG.leB k1,Qo az r b7 hB (bk.put o.dst (by simp only[SR];exact⟨⟨cP,BR v⟩,fun ae=>absurd (ae g dB) aA,fun _=>trivial⟩)) (kW _) hp (snoc hG.leB fun _ h=>h) (by omega) (by omega) (Zf h1) hK⟩
      ·split at h
       ·rename_i cs v jW;obtain⟨c,ty,k,xs,nl,heq,rfl,rfl,hk,dC⟩:=R2 jW;obtain⟨h1,h2⟩:=Zi h;have frz:∀ {B' σ':Heap},B'.Le σ'→∀ j τ',(hs++[σ'])[j]?=some τ'→Gt ((hl-1,none)::A) j=true→B'.Le τ':=fun {B' σ'} hb j τ' hm hn=>by
         rcases Jg hm with⟨h1,_⟩|⟨_,rfl⟩
         ·simp only[Gt,List.all_cons,Bool.and_eq_true,Bool.or_eq_true,Nat.blt_eq,Option.isSome_none,Bool.false_eq_true,or_false] at hn;have:=hD.len;omega
         ·exact hb
        refine⟨fun e=>?_,fun e=>?_⟩
        ·rw[if_pos aq];have ga:Gds tb' gs:=fun g hg=>⟨bw e g hg,cP g hg⟩;have fk:=h2 (bw e) c (by simp);have gx:=h2 (bw e) (nl=true→xs=[]) (by simp);have dN:MJ C (C.off+o.dst.getD 0) (.fn f [] []) (BG s1.own (args.map (gev gs s1.env))) s1 (fun ts v' s'=>ts=[C.off+o.dst.getD 0]∧v'=.lst (C.off+o.dst.getD 0)∧s'=s1.make (C.off+o.dst.getD 0) (.lst ty k xs nl)):=by
          unfold MJ;rw[heq];dsimp only;have ak:(SV.ret [OB.lst ty k xs nl].length (.lst 0)&&([OB.lst ty k xs nl].all OB.ret&&(Nat.blt 0 C.nt&&([OB.lst ty k xs nl].all OB.isL&&KG (.lst 0)))))=true:=by simp only[SV.ret,List.length_singleton,List.all_cons,List.all_nil,Bool.and_true,OB.ret,hk,Bool.true_and,OB.isL,KG];rw[Bool.and_eq_true];exact⟨rfl,by rw[Nat.blt_eq];exact dC⟩
          rw[ak];simp only[_root_.cond_true,IS,OB.wf];refine⟨fk,gx,?_,?_,?_⟩
          ·simp[List.range_succ]
          ·simp[SV.ren]
          ·simp[St.makes]
         obtain⟨g,a,b',u,σ',ts,v',s',pl',h3,h4,⟨rfl,rfl,rfl⟩,h5,h6,_,h7,h8,h9⟩:=Xz az bk dN (show SR P σ Jq ZF (.fn f [] []) (.func (.func f) #[] #[]) by simp only[SR,SRs];exact⟨[],[],rfl,rfl,rfl⟩) (bk.gcall ga args);obtain⟨rfl,rfl,rfl⟩:=(by simpa using h3:f=g∧#[]=a∧#[]=b');obtain⟨B',F',m1,m2,m3⟩:=Si bk.bf hk h5 h6 h8;have cM:FrL [C.off+o.dst.getD 0] s ((s1.make (C.off+o.dst.getD 0) .dead).put o.dst (.grd gs (.val (.list k) xs))) pl pl' σ σ':=fun q hq=>by obtain⟨f1,f2,f3⟩:=h9 q hq;rw[aK] at f3;refine⟨?_,f2,f3⟩;rw[Zb,Va _ _ _ (by simpa using hq),aK]
         obtain⟨k1,k2⟩:=hD.call h7 cM aR;refine .inl ⟨u,σ',?_,er (m1.b.trans m2.leB) k1,Qo az r b7 (hB.trans m1) (m2.put o.dst ?_) k2.frozen (fun c hc=>(hp c hc).imp (fun h τ hτ=>h τ (m1.b.trans hτ)) id) (frz m2.leB) (by omega) (by omega) h1 hK⟩
         ·rw[bD];show VCalled P f (args.map (Q3 env)) σ _;simpa using h4
         ·simp only[SR];exact⟨⟨cP,trivial⟩,fun _=>m3,fun ⟨g,hg,aA⟩=>absurd (bw e g hg) aA⟩
        ·rw[if_pos aq];obtain⟨g,dB,aA⟩:=cu e;have cM:FrL [C.off+o.dst.getD 0] s ((s1.make (C.off+o.dst.getD 0) .dead).put o.dst (.grd gs (.val (.list k) xs))) pl (Jo pl (C.off+o.dst.getD 0) undef) σ σ:=fun q hq=>by
          have cw:q≠C.off+o.dst.getD 0:=by simpa using hq
          refine⟨?_,by simp[Jo,cw],fun _ _ _=>rfl⟩;rw[Zb,Va _ _ _ cw,aK]
         obtain⟨k1,k2⟩:=hD.call (.refl σ) cM aR;refine⟨er hG.leB k1,Qo az r b7 hB ((bk.make (C.off+o.dst.getD 0) .dead undef bk.le (fun _ _ _ _ _=>rfl) trivial (fun i hl _=>by cases hl)).put o.dst ?_) k2.frozen hp (frz hG.leB) (by omega) (by omega) h1 hK⟩;simp only[SR];exact⟨⟨cP,trivial⟩,fun ae=>absurd (ae g dB) aA,fun _=>trivial⟩
       ·exact h.elim
   ·rename_i f args bD;split at h
    ·rename_i hg;rw[hg];refine⟨fun _=>?_,fun e=>by cases e⟩;rw[if_pos aq];refine .inl ?_;obtain⟨g,a,b,u,σ',e,v,s',pl',h1,h2,h3,h4,h5,h6,h7,h8,h9⟩:=Xz az hG h (hG.gfun Gds.nil f) (hG.gcall Gds.nil args);refine fin (u:=u) (σ':=σ') (fun R' hr=>?_) h3 h4 h5 h6 h7 h8 h9;rw[bD];exact UI h1 (h2.mono (R':=R') fun u' aC ⟨e1,e2⟩=>by subst e1;subst e2;exact hr)
    ·exact h.elim
   ·exact h.elim
   ·exact h.elim
   ·rename_i pO mz pP jc;split at h
    ·rename_i hg;rw[hg];refine⟨fun _=>?_,fun e=>by cases e⟩;rw[if_pos aq];have aB:A6 o.op=false:=by
      cases ho:o.op<;>first|rfl|(exact absurd ho (pO _ _))|(exact absurd ho (mz _ _))|skip
      case ext x=>cases x<;>first|rfl|(exact absurd ho (pP _))|(exact absurd ho (jc _))
     cases jV:SG C (o.dst.getD 0) o.op (gev [] s.env) with
     |true =>
      rw[jV] at h;simp only[_root_.cond_true] at h;cases hm:AZ (Hq o.op) Rd hl (LN (C.off+o.dst.getD 0) o.op (gev [] s.env)) with
      |false=>rw[hm] at h;exact h.elim
      |true =>
       rw[hm] at h;simp only[_root_.cond_true] at h;obtain⟨u,σ',pl',v,s',h1,h2,⟨h3,jT⟩,h4⟩:=P1 (fun x=>hG.evs (Gds.nil (tb:=tb)) x) hG h;have fM:∀ R',R' u σ'→vop (Q2 P) o.op env σ R':=fun R' hr=>by
        have:vop (Q2 P) o.op env σ R'=QZ (Q6 o.op (Q3 env) σ) fun p=>R' p.1 p.2:=by
         cases ho:o.op with
         |callF f a=>rw[ho] at aB;cases aB
         |callV f a=>rw[ho] at aB;cases aB
         |ext x =>
          cases x with
          |nextMap y=>rw[ho] at h1;cases h1
          |_=>rfl
         |_=>rfl
        rw[this,h1];exact hr
       obtain⟨k1,k2⟩:=hD.writeD jT (fun cj=>Ry cj h1) hm aR;exact .inl ⟨u,σ',fM _ ⟨rfl,rfl⟩,er h3.leB k1,Qo az r b7 (M8 hB (Kh h1)) (h3.put o.dst h4) (by rw[Zb];exact k2) hp (snoc h3.leB fun _ h=>BP h) (by omega) (by omega) h2 hK⟩
     |false =>
     rw[jV] at h;simp only[_root_.cond_false] at h;cases hm:((Hq o.op&&LQ Rd hl (QT (C.off+o.dst.getD 0) o.op (gev [] s.env)))||TD Rd hl (QT (C.off+o.dst.getD 0) o.op (gev [] s.env))||(R1 o.op&&Q6j Rd hl (QT (C.off+o.dst.getD 0) o.op (gev [] s.env)))) with
     |false=>rw[hm] at h;exact h.elim
     |true =>
      rw[hm] at h;simp only[_root_.cond_true] at h;obtain⟨u,σ',pl',v,s',h1,h2,⟨h3,jT⟩,h4,hE⟩:=O9 hG h aB;have fM:∀ R',R' u σ'→vop (Q2 P) o.op env σ R':=fun R' hr=>by
       have:vop (Q2 P) o.op env σ R'=QZ (Q6 o.op (Q3 env) σ) fun p=>R' p.1 p.2:=by
        cases ho:o.op with
        |callF f a=>rw[ho] at aB;cases aB
        |callV f a=>rw[ho] at aB;cases aB
        |ext x =>
         cases x with
         |nextMap y=>rw[ho] at h1;cases h1
         |_=>rfl
        |_=>rfl
       rw[this,h1];exact hr
      obtain⟨k1,k2⟩:=hD.write jT (fun cj=>Ry cj h1) hE hm aR;exact .inl ⟨u,σ',fM _ ⟨rfl,rfl⟩,er h3.leB k1,Qo az r b7 (M8 hB (Kh h1)) (h3.put o.dst h4) (by rw[Zb];exact k2) hp (snoc h3.leB fun _ h=>HT h) (by omega) (by omega) h2 hK⟩
    ·exact h.elim
  ·rw[if_neg aq] at h;have lf:o.op.kind≠2:=by rw[←bM];exact aq
   by_cases bG:o.kind=1
   ·rw[if_pos bG] at h
    have rd:∀ (rq:Option Nat),(∀ q,rq=some q→UR o.op (gev [] s.env) s.own=some q)→(Nat.ble chg o.kmin||H2 A o.kmin rq)=true→gd1 C o s (fun s'=>X8 C r s' hl chg A ((o.kmax,rq)::Rd) K) →
      QZ (Z_ env o.guard) fun b=>vif b (if o.kind=2 then (GZ (fun R=>vop (Q2 P) o.op env σ R) fun v σ'=>JO hs.length σ' pend∧Zr (Q2 P) r (JS env o.dst v) (hs++[σ']) σ' pend R)∨(waits o.dst.toList r=true∧vop (Q2 P) o.op env σ fun v σ'=>JO hs.length σ' pend∧Zr (Q2 P) r (JS env o.dst v) (hs++[σ']) σ' pend R)
       else if o.kind=1 then QZ (Q6 o.op (Q3 env) σ) fun p=>(∀ τ∈hs.drop o.kmin,JQ o.op (Q3 env) p.1 τ) ∧
        Zr (Q2 P) r (JS env o.dst p.1) hs σ (if hs.length≤o.kmax then (o.kmax,JQ o.op (Q3 env) p.1)::pend else pend) R
       else QZ (Q6 o.op (Q3 env) σ) fun p=>Zr (Q2 P) r (JS env o.dst p.1) hs σ pend R)
      (if o.kind=2 then JO hs.length σ pend∧Zr (Q2 P) r (JS env o.dst undef) (hs++[σ]) σ pend R else Zr (Q2 P) r (JS env o.dst undef) hs σ pend R):=fun rq nD hc h=>by
     obtain⟨b,hw,h1,h2⟩:=V9 hG h;rw[hw];have lg:DSt hs σ pd hl chg A ((o.kmax,rq)::Rd) s.own pl:=⟨hD.len,hD.same,fun c hc=>(hD.pend c hc).imp id fun ⟨r,k1,k2⟩=>⟨r,List.mem_cons_of_mem _ k1,k2⟩,hD.fr⟩;refine⟨fun e=>?_,fun e=>?_⟩
     ·obtain⟨u,s',tb',h3,h4,aK,h5⟩:=h1 e;rw[if_neg aq,if_pos bG,h3];refine⟨fun τ hτ=>?_,?_⟩
      ·obtain⟨j,hj⟩:=List.mem_iff_getElem?.1 hτ;rw[List.getElem?_drop] at hj;rw[Bool.or_eq_true] at hc;rcases hc with hc|hc
       ·have:=hD.same (o.kmin+j) τ (by have:=Nat.le_of_ble_eq_true hc;omega) hj;subst this;exact ZM h3
       ·unfold H2 at hc;split at hc
        ·rename_i q;obtain⟨k1,i,bl,k2,k3,k4,k5⟩:=YB hG (nD q rfl) h3;have hu:Zd A (o.kmin+j) (q / 2)=true:=by
          simp only[Zd,List.all_eq_true,Bool.or_eq_true,Nat.blt_eq] at hc ⊢;exact fun a ha=>(hc a ha).imp (fun h=>by omega) id
         have:=hD.fr (o.kmin+j) τ (q / 2) i hj hu k1 k2;exact ZM (k4 τ (by rw[this];exact k3))
        ·cases hc
      ·by_cases hle:hs.length≤o.kmax
       ·rw[if_pos hle];refine Qo az r b7 hB h5 (A:=A) (Rd:=(o.kmax,rq)::Rd) (hl:=hl) (chg:=chg) (pd:=(o.kmax,JQ o.op (Q3 env) u)::pd) ?_ (fun c hc=>?_) b6 eF aR h4 hK
        ·rw[aK];refine⟨hD.len,hD.same,fun c hc=>?_,hD.fr⟩;rcases List.mem_cons.1 hc with rfl|hc
         ·refine .inr ⟨_,List.mem_cons_self,Nat.le_refl _,?_⟩;cases rq with
          |none=>exact fun τ hτ=>ZM (P7 lf h3 hτ)
          |some q =>obtain⟨k1,i,bl,k2,k3,k4,k5⟩:=YB hG (nD q rfl) h3;exact⟨k1,i,bl,k2,k3,fun τ ht=>ZM (k4 τ ht),fun ho=>(let ⟨es,c,wr,x1,x2⟩:=k5 ho;⟨es,c,wr,x1,fun τ bT c' hl ht=>ZM (x2 τ bT c' hl ht)⟩)⟩
         ·exact lg.pend c hc
        ·rcases List.mem_cons.1 hc with rfl|hc
         ·exact .inr List.mem_cons_self
         ·exact(hp c hc).imp id fun h=>List.mem_cons_of_mem _ h
       ·rw[if_neg hle];exact Qo az r b7 hB h5 (A:=A) (Rd:=(o.kmax,rq)::Rd) (hl:=hl) (chg:=chg) (pd:=pd) (by rw[aK];exact lg) hp b6 eF aR h4 hK
     ·obtain⟨s',tb',h4,aK,h5⟩:=h2 e;rw[if_neg aq];exact Qo az r b7 hB h5 (by rw[aK];exact lg) hp b6 eF aR h4 hK
    have ro:Gt A o.kmin=true→(∀ u,Q6 o.op (Q3 env) σ=some (u,σ)→(Z_ env o.guard=some true)→∀ τ,B.Le τ→Q6 o.op (Q3 env) τ=some (u,τ))→gd1 C o s (fun s'=>X8 C r s' hl chg A Rd K) →
      QZ (Z_ env o.guard) fun b=>vif b (if o.kind=2 then (GZ (fun R=>vop (Q2 P) o.op env σ R) fun v σ'=>JO hs.length σ' pend∧Zr (Q2 P) r (JS env o.dst v) (hs++[σ']) σ' pend R)∨(waits o.dst.toList r=true∧vop (Q2 P) o.op env σ fun v σ'=>JO hs.length σ' pend∧Zr (Q2 P) r (JS env o.dst v) (hs++[σ']) σ' pend R)
       else if o.kind=1 then QZ (Q6 o.op (Q3 env) σ) fun p=>(∀ τ∈hs.drop o.kmin,JQ o.op (Q3 env) p.1 τ) ∧
        Zr (Q2 P) r (JS env o.dst p.1) hs σ (if hs.length≤o.kmax then (o.kmax,JQ o.op (Q3 env) p.1)::pend else pend) R
       else QZ (Q6 o.op (Q3 env) σ) fun p=>Zr (Q2 P) r (JS env o.dst p.1) hs σ pend R)
      (if o.kind=2 then JO hs.length σ pend∧Zr (Q2 P) r (JS env o.dst undef) (hs++[σ]) σ pend R else Zr (Q2 P) r (JS env o.dst undef) hs σ pend R):=fun jd bJ h=>by
     obtain⟨b,hw,h1,h2⟩:=V9 hG h;rw[hw];refine⟨fun e=>?_,fun e=>?_⟩
     ·obtain⟨u,s',tb',h3,h4,aK,h5⟩:=h1 e;have bJ:=bJ u h3 (by rw[hw,e]);rw[if_neg aq,if_pos bG,h3];refine⟨fun τ hτ=>?_,?_⟩
      ·obtain⟨j,hj⟩:=List.mem_iff_getElem?.1 hτ;rw[List.getElem?_drop] at hj;refine ZM (bJ τ (b6 _ τ hj ?_));simp only[Gt,List.all_eq_true,Bool.or_eq_true,Nat.blt_eq] at jd ⊢;exact fun a ha=>(jd a ha).imp (fun h=>by omega) id
      refine Qo az r b7 hB h5 (A:=A) (Rd:=Rd) (hl:=hl) (chg:=chg) (pd:=pd) (by rw[aK];exact hD) (fun c hc=>?_) b6 eF aR h4 hK;split at hc
      ·rcases List.mem_cons.1 hc with rfl|hc
       ·exact .inl fun τ hτ=>ZM (bJ τ hτ)
       ·exact hp c hc
      ·exact hp c hc
     ·obtain⟨s',tb',h4,aK,h5⟩:=h2 e;rw[if_neg aq];exact Qo az r b7 hB h5 (by rw[aK];exact hD) hp b6 eF aR h4 hK
    split at h
    ·rename_i hg;cases hr:(Q6k o.op (gev [] s.env)&&Gt A o.kmin) with
     |true =>rw[hr] at h;rw[Bool.and_eq_true] at hr;exact ro hr.2 (fun u hu _=>NZ hG Gds.nil hr.1 hu) h
     |false =>
     rw[hr] at h;simp only[_root_.cond_false] at h;cases hb:(Nat.ble chg o.kmin||H2 A o.kmin (UR o.op (gev [] s.env) s.own)) with
     |false=>rw[hb] at h;exact h.elim
     |true =>rw[hb] at h;exact rd _ (fun q hq=>hq) hb h
    ·rename_i j want hg;cases hr:(O4 s j want o.op&&Gt A o.kmin) with
     |true =>
      rw[hr] at h;rw[Bool.and_eq_true] at hr;obtain⟨hr,jd⟩:=hr;refine ro jd (fun u hu hw=>?_) h;unfold O4 at hr;split at hr
      ·rename_i gs s1 dN;obtain⟨tb',bk,cP,b,df,bw,cu⟩:=Xv hG dN;rw[hg,df] at hw;have e:=osj hw;exact NZ bk (fun g hg=>⟨bw e g hg,cP g hg⟩) hr hu
      ·cases hr
     |false =>
     rw[hr] at h;simp only[_root_.cond_false] at h;cases hb:Nat.ble chg o.kmin with
     |false=>rw[hb] at h;exact h.elim
     |true =>rw[hb] at h;exact rd none (fun q hq=>by cases hq) (by rw[hb];rfl) h
   ·rw[if_neg bG] at h;obtain⟨b,hw,h1,h2⟩:=V9 hG h;rw[hw];refine⟨fun e=>?_,fun e=>?_⟩
    ·obtain⟨u,s',tb',h3,h4,aK,h5⟩:=h1 e;rw[if_neg aq,if_neg bG,h3];exact Qo az r b7 hB h5 (by rw[aK];exact hD) hp b6 eF aR h4 hK
    ·obtain⟨s',tb',h4,aK,h5⟩:=h2 e;rw[if_neg aq];exact Qo az r b7 hB h5 (by rw[aK];exact hD) hp b6 eF aR h4 hK
def UC (pl:Nat→Value) (mp:List (Nat×Option Nat)):Nat→Value:=fun t=>match Qv mp t with
 |some (some a)=>pl a
 |_=>.slice none 0 0
theorem Lp {h:Heap}{k k':Kind}{x:k.T}{y:k'.T}(e:MF x y) {cs:List Value}(hk:KC h k' y cs):KC h k x cs:=by
 unfold MF at e;split at e
 ·rename_i z hz;obtain rfl:=R0 hz;obtain rfl:=Re hz;subst e;exact hk
 ·exact e.elim
mutual
theorem YF {B:Heap}{pl:Nat→Value}{tb:Nat→Option Bool}{mp:List (Nat×Option Nat)}:∀ (p a:SV) (v:Value),BB mp p a→SR P B pl tb a v→SR P B (UC pl mp) ZF p v
 |.any,a,v,_,_=>trivial
 |.val k x,a,v,h,hs=>by
  simp only[BB] at h;split at h
  ·simp only[SR] at hs ⊢;exact Lp h hs
  ·simp only[SR] at hs ⊢;exact Lp h (by simp[KC,hs.1])
  ·split at h
   ·subst h;simp only[SR] at hs ⊢;subst hs;exact⟨_,rfl,.inl ⟨rfl,rfl⟩⟩
   ·exact h.elim
  ·exact h.elim
 |.lst t,a,v,h,hs=>by
  simp only[BB] at h;split at h
  ·split at h
   ·rename_i e;simp only[SR,UC,e] at hs ⊢;exact hs
   ·exact h.elim
  ·split at h
   ·rename_i e;simp only[SR,UC,e] at hs ⊢;exact⟨hs,_,_,_,hs⟩
   ·exact h.elim
  ·exact h.elim
 |.box t off,a,v,h,hs=>by
  simp only[BB] at h;split at h
  ·split at h
   ·rename_i e;obtain⟨e,rfl⟩:=e;simp only[SR,UC,e] at hs ⊢;exact hs
   ·exact h.elim
  ·exact h.elim
 |.map t,a,v,h,hs=>by
  simp only[BB] at h;split at h
  ·split at h
   ·rename_i e;simp only[SR,UC,e] at hs ⊢;exact hs
   ·exact h.elim
  ·exact h.elim
 |.dd t w,a,v,h,hs=>by
  simp only[BB] at h;split at h
  ·split at h
   ·simp only[SR] at hs ⊢;simp only[DR];exact .inl ⟨h,hs⟩
   ·split at h
    ·rename_i e;obtain⟨e,rfl⟩:=e;simp only[SR,DR,UC,e] at hs ⊢;obtain⟨b,h1,h2⟩:=hs;exact .inr ⟨h,b,by rw[h1];rfl,h2⟩
    ·exact h.elim
   ·split at h
    ·split at h
     ·rename_i e;subst h;simp only[SR,DR,UC,e] at hs ⊢;exact hs
     ·exact h.elim
    ·exact h.elim
   ·exact h.elim
  ·split at h
   ·split at h
    ·split at h
     ·rename_i e;simp only[SR,UC,e] at hs ⊢;exact hs
     ·exact h.elim
    ·exact h.elim
   ·exact h.elim
  ·split at h
   ·split at h
    ·split at h
     ·rename_i e;simp only[SR,UC,e] at hs ⊢;exact hs
     ·exact h.elim
    ·exact h.elim
   ·split at h
    ·rename_i e;simp only[SR,UC,e] at hs ⊢;exact⟨hs,_,_,_,hs⟩
    ·exact h.elim
   ·exact h.elim
  ·exact h.elim
 |.agg l,a,v,h,hs=>by
  simp only[BB] at h;split at h
  ·rename_i l';simp only[SR] at hs ⊢;obtain⟨cs,h1,h2⟩:=hs;exact⟨cs,h1,Z2 l l' cs h h2⟩
  ·exact h.elim
 |.tup l,a,v,h,hs=>by
  simp only[BB] at h;split at h
  ·rename_i l';simp only[SR] at hs ⊢;obtain⟨cs,h1,h2⟩:=hs;exact⟨cs,h1,Z2 l l' cs h h2⟩
  ·exact h.elim
 |.fn f x y,a,v,h,hs=>by
  simp only[BB] at h;split at h
  ·split at h
   ·rename_i e;subst e;simp only[SR] at hs ⊢;obtain⟨cs,ds,h1,h2,h3⟩:=hs;exact⟨cs,ds,h1,Z2 x _ cs h.1 h2,Z2 y _ ds h.2 h3⟩
   ·exact h.elim
  ·exact h.elim
 |.nilS,a,v,h,hs=>by
  simp only[BB] at h;split at h
  ·simp only[SR] at hs ⊢;exact hs
  ·exact h.elim
 |.nilP,a,v,h,hs=>by
  simp only[BB] at h;split at h
  ·simp only[SR] at hs ⊢;exact hs
  ·exact h.elim
 |.nilM,a,v,h,hs=>by
  simp only[BB] at h;split at h
  ·simp only[SR] at hs ⊢;exact hs
  ·exact h.elim
 |.nilF,a,v,h,hs=>by
  simp only[BB] at h;split at h
  ·simp only[SR] at hs ⊢;exact hs
  ·exact h.elim
 |.cp l off,a,v,h,hs=>by
  simp only[BB] at h;cases pS:SVs.pure l with
  |true =>rw[pS] at h;simp only[_root_.cond_true] at h;obtain⟨rfl,_⟩:=h;simp only[SR] at hs ⊢;obtain⟨b,c,e,wr,t,h1,h2,h3⟩:=hs;exact⟨b,c,e,wr,t,h1,h2,Z1 l c pS h3⟩
  |false =>
   rw[pS] at h;simp only[_root_.cond_false] at h;split at h
   ·split at h
    ·rename_i l' dw he;subst he;simp only[SR] at hs ⊢;obtain⟨b,c,e,wr,t,h1,h2,h3⟩:=hs;exact⟨b,c,e,wr,t,h1,h2,Z2 l l' c h h3⟩
    ·exact h.elim
   ·exact h.elim
 |.pf ks r cO p,a,v,h,hs=>by simp only[BB] at h;subst h;simp only[SR] at hs ⊢;exact hs
 |.sub t lo n sz,a,v,h,hs=>by
  simp only[BB] at h;split at h
  ·split at h
   ·rename_i e;obtain⟨rfl,rfl,rfl⟩:=h;simp only[SR,UC,e] at hs ⊢;exact hs
   ·exact h.elim
  ·exact h.elim
 |.elp _ _ _ _,_,_,h,_|.grd _ _,_,_,h,_|.bid _ _,_,_,h,_|.rop _ _ _ _,_,_,h,_=>by simp only[BB] at h
theorem Z2 {B:Heap}{pl:Nat→Value}{tb:Nat→Option Bool}{mp:List (Nat×Option Nat)}:∀ (p a:List SV) (v:List Value),V7 mp p a→SRs P B pl tb a v→SRs P B (UC pl mp) ZF p v
 |[],a,v,h,hs=>by simp only[V7] at h;subst h;exact hs
 |s::ss,[],v,h,hs=>by simp only[V7] at h
 |s::ss,a::bL,v,h,hs=>by simp only[V7] at h;simp only[SRs] at hs ⊢;obtain⟨x,y,h1,h2,h3⟩:=hs;exact⟨x,y,h1,YF s a x h.1 h2,Z2 ss bL y h.2 h3⟩
theorem TB {B:Heap}{pl pl':Nat→Value}{tb tb':Nat→Option Bool}:∀ (s:SV) (v:Value),s.pure=true→SR P B pl tb s v→SR P B pl' tb' s v
 |.any,v,_,_=>trivial
 |.val k x,v,_,h=>by simp only[SR] at h ⊢;exact h
 |.nilS,v,_,h|.nilP,v,_,h|.nilM,v,_,h|.nilF,v,_,h=>by simp only[SR] at h ⊢;exact h
 |.rop k l i off,v,_,h=>by simp only[SR] at h ⊢;exact h
 |.pf ks r cO p,v,_,h=>by simp only[SR] at h ⊢;exact h
 |.agg l,v,hp,h=>by simp only[SR] at h ⊢;obtain⟨cs,h1,h2⟩:=h;exact⟨cs,h1,Z1 l cs hp h2⟩
 |.tup l,v,hp,h=>by simp only[SR] at h ⊢;obtain⟨cs,h1,h2⟩:=h;exact⟨cs,h1,Z1 l cs hp h2⟩
 |.cp l off,v,hp,h=>by simp only[SR] at h ⊢;obtain⟨b,c,e,wr,t,h1,h2,h3⟩:=h;exact⟨b,c,e,wr,t,h1,h2,Z1 l c hp h3⟩
 |.fn f a b,v,hp,h=>by simp only[SV.pure,Bool.and_eq_true] at hp;simp only[SR] at h ⊢;obtain⟨x,y,h1,h2,h3⟩:=h;exact⟨x,y,h1,Z1 a x hp.1 h2,Z1 b y hp.2 h3⟩
 |.lst _,_,h,_|.sub _ _ _ _,_,h,_|.elp _ _ _ _,_,h,_|.box _ _,_,h,_|.map _,_,h,_|.grd _ _,_,h,_|.bid _ _,_,h,_=>by cases h
theorem Z1 {B:Heap}{pl pl':Nat→Value}{tb tb':Nat→Option Bool}:∀ (s:List SV) (v:List Value),SVs.pure s=true→SRs P B pl tb s v→SRs P B pl' tb' s v
 |[],v,_,h=>by simp only[SRs] at h ⊢;exact h
 |s::ss,v,hp,h=>by simp only[SVs.pure,Bool.and_eq_true] at hp;simp only[SRs] at h ⊢;obtain⟨x,y,h1,h2,h3⟩:=h;exact⟨x,y,h1,TB s x hp.1 h2,Z1 ss y hp.2 h3⟩
end
end
end Go.V
namespace Go.V
open Go
section
variable {P:Program}{B F:Heap}{pl:Nat→Value}{tb:Nat→Option Bool}{s:St}{env:Env}{σ:Heap}
theorem VX {k k':Kind}{xs:List k.T}{ys:List k'.T}(h:MF (k:=.list k) xs (k':=.list k') ys):∃ e:k'=k,e▸ys=xs:=by
 unfold MF at h;split at h
 ·rename_i z hz;have e:=R0 hz;obtain rfl:=Kind.list.inj e;obtain rfl:=Re hz;exact⟨rfl,h⟩
 ·exact h.elim
theorem QX (hG:Gam P B F pl tb s env σ) {mp:List (Nat×Option Nat)}{t:Nat}{b:OB}(h:Fk s mp t b) :
  OR P B (UC pl mp) ZF σ (UC pl mp t) b∧(b.live=true→∀ i,Oid (UC pl mp t) i→∃ a,Qv mp t=some (some a)∧(Q9 s.own a).live=true∧Oid (pl a) i):=by
 unfold Fk at h;split at h
 ·rename_i a ha;have aT:UC pl mp t=pl a:=by simp[UC,ha]
  rw[aT];have al:=hG.obj a;split at h
  ·exact⟨trivial,fun h=>by cases h⟩
  ·rename_i ty k xs nl iA k' cF jP ho;split at h
   ·rename_i e;subst e;obtain⟨h1,rfl⟩:=h;obtain⟨rfl,rfl⟩:=VX h1;rw[ho] at al;exact⟨al,fun _ i hi=>⟨a,ha,by rw[ho];rfl,hi⟩⟩
   ·exact h.elim
  ·rename_i l u l' u' ho;split at h
   ·rename_i e0;subst e0;rw[ho] at al;obtain⟨i,c,e,t',h1,h2,h3,h4⟩:=al;exact⟨⟨i,c,e,t',h1,h2,Z2 l l' c h h3,h4⟩,fun _ i hi=>⟨a,ha,by rw[ho];rfl,hi⟩⟩
   ·exact h.elim
  ·rename_i kk vk m jb kV m' ho;split at h
   ·obtain⟨e,h1⟩:=VX h;obtain⟨rfl,rfl⟩:=Kind.pair.inj e;subst h1;rw[ho] at al;exact⟨al,fun _ i hi=>⟨a,ha,by rw[ho];rfl,hi⟩⟩
   ·exact h.elim
  ·rename_i l vals l' jQ ho;rw[ho] at al;obtain⟨rfl,h⟩:=h;exact⟨Z2 l l' vals h al,fun h=>by cases h⟩
  ·rename_i l q u l' q' u' ho;rw[ho] at al;split at h
   ·obtain⟨rfl,h⟩:=h;exact⟨⟨al.1,Z2 l l' q.vals h al.2.1,al.2.2⟩,fun _ i hi=>⟨a,ha,by rw[ho];rfl,hi⟩⟩
   ·obtain⟨rfl,h⟩:=h;exact⟨⟨al.1,Z2 l l' q.vals h al.2.1,al.2.2⟩,fun h=>by cases h⟩
   ·exact h.elim
  ·rename_i kk vk m dn jb kV m' qE ho;split at h
   ·obtain⟨h,rfl⟩:=h;obtain⟨e,h1⟩:=VX h;obtain⟨rfl,rfl⟩:=Kind.pair.inj e;subst h1;rw[ho] at al;exact⟨al,fun _ i hi=>⟨a,ha,by rw[ho];rfl,hi⟩⟩
   ·exact h.elim
  ·rename_i ty q k xs nl h0 iA q' k' cF jP qq ho;split at h
   ·rename_i e;obtain⟨rfl,rfl⟩:=e;split at h
    ·obtain⟨h1,rfl⟩:=h;obtain⟨rfl,rfl⟩:=VX h1;rw[ho] at al;exact⟨al,fun _ i hi=>⟨a,ha,by rw[ho];rfl,hi⟩⟩
    ·exact h.elim
   ·exact h.elim
  ·exact h.elim
 ·rename_i ha;have aT:UC pl mp t=.slice none 0 0:=by simp[UC,ha]
  rw[aT];split at h
  ·exact⟨.inl ⟨h.2,h.1,rfl⟩,fun _ i hi=>by cases hi⟩
  ·split at h
   ·obtain⟨rfl,rfl⟩:=h;refine⟨⟨[],fun i=>⟨fun h=>(by cases h),fun ⟨b,h⟩=>(by cases h)⟩,List.nodup_nil,.inl ⟨rfl,rfl,rfl⟩,fun i=>⟨fun ⟨b,h⟩=>(by cases h),fun h=>(by cases h)⟩,(fun i b h=>by cases h),by simp[phd]⟩,fun _ i hi=>by cases hi⟩
   ·exact h.elim
  ·exact h.elim
 ·exact h.elim
theorem Ko {α:Type _}(l:List (Nat×α)) (t:Nat) (x:α) (d:Nat):Qv (l++[(t,x)]) d=match Qv l d with|some y=>some y|none=>if t=d then some x else none:=by
 induction l with
 |nil =>
  simp only[List.nil_append,Qv];by_cases h:t=d
  ·subst h;simp
  ·rw[Zl h];simp[h]
 |cons p l ih =>obtain⟨k,y⟩:=p;simp only[List.cons_append,Qv,ih];cases Nat.beq k d<;>rfl
theorem Lw {α:Type _}{l:List (Nat×α)}{d:Nat}{x:α}(h:Qv l d=some x):∃ p∈l,p.1=d∧p.2=x:=by
 induction l with
 |nil=>cases h
 |cons p l ih =>
  obtain⟨k,y⟩:=p;simp only[Qv] at h;cases hb:Nat.beq k d with
  |true=>rw[hb] at h;obtain rfl:=osj h;exact⟨_,List.mem_cons_self,Nat.eq_of_beq_eq_true hb,rfl⟩
  |false =>rw[hb] at h;obtain⟨p,h1,h2⟩:=ih h;exact⟨p,List.mem_cons_of_mem _ h1,h2⟩
def Inj (mp:List (Nat×Option Nat)):Prop:=∀ t t' a,Qv mp t=some (some a)→Qv mp t'=some (some a)→t=t'
theorem BO:∀ (l:List (Nat×Src)) (mp bZ:List (Nat×Option Nat)),Q6x s l mp=some bZ→Inj mp→Inj bZ
 |[],mp,bZ,h,hi=>by obtain rfl:=osj h;exact hi
 |(t,src)::r,mp,bZ,h,hi=>by
  simp only[Q6x] at h;split at h
  ·rename_i a _;split at h
   ·cases h
   ·rename_i hc;refine BO r _ _ h ?_;have cM:∀ d,Qv mp d≠some (some a):=fun d hd=>by
     obtain⟨p,h1,h2,h3⟩:=Lw hd;apply hc;simp only[Bool.or_eq_true];exact .inl (List.any_eq_true.2 ⟨p,h1,by rw[h3];simp⟩)
    intro t1 t2 a' h1 h2;rw[Ko] at h1 h2;split at h1
    ·rename_i y1 e1;split at h2
     ·rename_i y2 e2;obtain rfl:=osj h1;obtain rfl:=osj h2;exact hi t1 t2 a' e1 e2
     ·split at h2
      ·obtain rfl:=osj (osj h2);obtain rfl:=osj h1;exact absurd e1 (cM t1)
      ·cases h2
    ·split at h1
     ·rename_i e1;obtain rfl:=osj (osj h1);split at h2
      ·rename_i y2 e2;obtain rfl:=osj h2;exact absurd e2 (cM t2)
      ·split at h2
       ·rename_i e2;omega
       ·cases h2
     ·cases h1
  ·split at h
   ·cases h
   ·refine BO r _ _ h ?_;intro t1 t2 a' h1 h2;rw[Ko] at h1 h2;split at h1
    ·rename_i y1 e1;split at h2
     ·rename_i y2 e2;obtain rfl:=osj h1;obtain rfl:=osj h2;exact hi t1 t2 a' e1 e2
     ·split at h2<;>cases h2
    ·split at h1<;>cases h1
  ·cases h
theorem RI {mp:List (Nat×Option Nat)}:∀ {ow:List (Nat×Src×OB)},gmatch.obs s mp ow→∀ p∈ow,Fk s mp p.1 p.2.2
 |[],_,p,hp=>by cases hp
 |(t,src,b)::r,h,p,hp=>by
  simp only[gmatch.obs] at h;rcases List.mem_cons.1 hp with rfl|hp
  ·exact h.1
  ·exact RI h.2 p hp
theorem Ve {f:List (Nat×Src×OB)}:∀ (own:Own) (t:Nat),(∃ p∈f,p.1=t∧Q9 (f.foldl (fun o p=>oset o p.1 p.2.2) own) t=p.2.2)∨Q9 (f.foldl (fun o p=>oset o p.1 p.2.2) own) t=Q9 own t:=by
 induction f with
 |nil=>intro own t;exact .inr rfl
 |cons p f ih =>
  intro own t;simp only[List.foldl_cons];rcases ih (oset own p.1 p.2.2) t with⟨q,h1,h2⟩|h
  ·exact .inl ⟨q,List.mem_cons_of_mem _ h1,h2⟩
  ·rw[h,Qh];by_cases e:t=p.1
   ·rw[if_pos e];exact .inl ⟨p,List.mem_cons_self,e.symm,rfl⟩
   ·rw[if_neg e];exact .inr rfl
theorem Hk (hG:Gam P B F pl tb s env σ) {mp:List (Nat×Option Nat)}:∀ (st:List (Nat×SV)) {e:List SV}{eV:Env},gmatch.slots s mp st→SRs P B (UC pl mp) ZF e eV→SRs P B (UC pl mp) ZF (st.foldl (fun e p=>e.set p.1 p.2) e) (Xn (st.map (·.1)) (BH (st.map (·.1)) env) eV)
 |[],e,eV,_,h=>h
 |(j,v)::r,e,eV,hs,h=>by simp only[gmatch.slots] at hs;simp only[List.foldl_cons,List.map_cons,BH,Xn];exact Hk hG r hs.2 (h.set j (YF v _ _ hs.1 (hG.env.getD j poison)))
theorem Il {B:Heap}{pl:Nat→Value}{tb:Nat→Option Bool}:∀ n,SRs P B pl tb (List.replicate n .any) (List.replicate n poison)
 |0=>by simp[SRs]
 |n+1=>by simp only[List.replicate_succ,SRs];exact⟨_,_,rfl,by simp[SR],Il n⟩
theorem DS {B0 F0 D0:Heap}(hR:GRel P B0 F0 D0 s env σ) {st:List (Nat×SV)}{ow:List (Nat×Src×OB)}(h:gmatch s st ow) (len:Nat):GRel P B0 F0 D0 (Z9 len st ow) (Xn (st.map (·.1)) (BH (st.map (·.1)) env) (List.replicate len poison)) σ:=by
 obtain⟨B,F,pl,tb,hB,hG⟩:=hR;unfold gmatch at h;split at h
 ·rename_i mp lh;obtain⟨h1,h2⟩:=h;have eI:=BO _ _ _ lh (fun t t' a h=>by cases h);have aL:=RI h2;have al:∀ t,(Q9 (Z9 len st ow).own t).live=true→Fk s mp t (Q9 (Z9 len st ow).own t):=fun t hl=>by
   rcases Ve (f:=ow) [] t with⟨p,h3,h4,h5⟩|h3
   ·have:=aL p h3;rw[h4,←h5] at this;exact this
   ·simp only[Z9] at hl;rw[h3] at hl;cases hl
  refine⟨B,F,UC pl mp,ZF,hB,hG.bf,hG.le,Hk hG st h1 (Il len),fun t=>?_,fun t i hl hi=>?_,fun t t' i aA hl cm hi cC=>?_,fun _ _=>rfl⟩
  ·cases hl:(Q9 (Z9 len st ow).own t).live with
   |true=>exact(QX hG (al t hl)).1
   |false =>
    cases ho:Q9 (Z9 len st ow).own t with
    |dead=>trivial
    |stk l vals =>
     rcases Ve (f:=ow) [] t with⟨p,h3,h4,h5⟩|h3
     ·have:=aL p h3;simp only[Z9] at ho;rw[←h5,ho] at this;have h6:=(QX hG this).1;rw[h4] at h6;exact h6
     ·simp only[Z9] at ho;rw[h3] at ho;cases ho
    |lpf l q u =>
     rcases Ve (f:=ow) [] t with⟨p,h3,h4,h5⟩|h3
     ·have:=aL p h3;simp only[Z9] at ho;rw[←h5,ho] at this;have h6:=(QX hG this).1;rw[h4] at h6;exact h6
     ·simp only[Z9] at ho;rw[h3] at ho;cases ho
    |_=>rw[ho] at hl;cases hl
  ·obtain⟨a,_,h4,h5⟩:=(QX hG (al t hl)).2 hl i hi;exact hG.fresh a i h4 h5
  ·obtain⟨a,e1,h4,h5⟩:=(QX hG (al t hl)).2 hl i hi;obtain⟨a',e2,gp,pT⟩:=(QX hG (al t' cm)).2 cm i cC;by_cases e:a=a'
   ·subst e;exact aA (eI t t' a e1 e2)
   ·exact hG.sep a a' i e h4 gp h5 pT
 ·exact h.elim
theorem DE:∀ {du cH:List SV}{vs:List Value}{B F:Heap}{s s':St},Gam P B F pl tb s env σ→SRs P B pl tb du vs→Q5j s du=some (s',cH) →
  ∃ B' F',GBase B F σ B' F' σ∧Gam P B' F' pl tb s' env σ∧SRs P B' Jq ZF cH vs∧s'.env=s.env
 |[],cH,vs,B,F,s,s',hG,hs,h=>by simp only[Q5j,Option.some.injEq,Prod.mk.injEq] at h;obtain⟨rfl,rfl⟩:=h;exact⟨B,F,.of hG.bf (.refl _),hG,hs,rfl⟩
 |v::du,cH,vs,B,F,s,s',hG,hs,h=>by
  simp only[SRs] at hs;obtain⟨u,us,rfl,h1,h2⟩:=hs
  have nF:∀ w:SV,SR P B pl tb w u→(bif w.pure then (match Q5j s du with|some (s',r)=>some (s',w::r)|none=>none) else none)=some (s',cH) →
    ∃ B' F',GBase B F σ B' F' σ∧Gam P B' F' pl tb s' env σ∧SRs P B' Jq ZF cH (u::us)∧s'.env=s.env:=fun w hw h=>by
   cases hp:w.pure with
   |false=>rw[hp] at h;cases h
   |true =>
    rw[hp] at h;simp only[_root_.cond_true] at h;split at h
    ·rename_i s1 r heq;simp only[Option.some.injEq,Prod.mk.injEq] at h;obtain⟨rfl,rfl⟩:=h;obtain⟨B',F',k1,k2,k3,k4⟩:=DE hG h2 heq;exact⟨B',F',k1,k2,by simp only[SRs];exact⟨u,us,rfl,SR.mono k1.b (fun _ _ h=>h) _ _ (TB w u hp hw),k3⟩,k4⟩
    ·cases h
  simp only[Q5j] at h;split at h
  ·rename_i o;split at h
   ·rename_i l _ ho;cases hp:SVs.pure l with
    |false=>rw[hp] at h;cases h
    |true =>
     rw[hp] at h;simp only[_root_.cond_true] at h;split at h
     ·rename_i s1 r heq;simp only[Option.some.injEq,Prod.mk.injEq] at h;obtain⟨rfl,rfl⟩:=h;have al:=hG.obj o;rw[ho] at al;obtain⟨i,c,e,t,e1,e2,e3,_⟩:=al;obtain⟨k1,k2⟩:=hG.freeze (o:=o) (i:=i) (by rw[ho];rfl) (by rw[e1];rfl);obtain⟨B',F',j1,j2,j3,j4⟩:=DE k2 (SRs.mono k1.b (fun _ _ h=>h) _ _ h2) heq;refine⟨B',F',k1.trans j1,j2,?_,j4⟩;simp only[SRs];refine⟨u,us,rfl,?_,j3⟩;simp only[SR] at h1 ⊢;obtain⟨b,q1,q2⟩:=h1;rw[e1] at q1;obtain rfl:i=b:=by simpa using q1
      refine⟨i,c,e,true,t,j1.b.2 _ _ ?_,q2,SRs.mono (k1.trans j1).b (fun _ _ h=>h) _ _ (Z1 l c hp e3)⟩;rw[Heap.ins_self];exact e2
     ·cases h
   ·cases h
  ·exact nF _ h1 h
theorem Gam.lpUpd (hG:Gam P B F pl tb s env σ) {n:Nat}{b b0:Blk}(hF:F.get n=some b0) (hB:B.get n=none):Gam P B (F.upd n b) pl tb s env (σ.upd n b):=by
 have aA:∀ {d i},(Q9 s.own d).live=true→Oid (pl d) i→i≠n:=fun h1 h2 e=>by have:=hG.fresh _ _ h1 h2;subst e;rw[hF] at this;cases this
 refine⟨⟨hG.bf.1,fun i c hc=>?_⟩,⟨hG.le.1,fun i c hc=>?_⟩,hG.env,fun d=>(hG.obj d).mono (.refl _) (fun _ _ h=>h) fun h1 i h2=>Heap.get_upd_ne _ _ (aA h1 h2),fun d i h1 h2=>?_,hG.sep,hG.free⟩
 ·have:i≠n:=by rintro rfl;rw[hB] at hc;cases hc
  rw[Heap.get_upd_ne _ _ this];exact hG.bf.2 _ _ hc
 ·by_cases e:i=n
  ·subst e;rw[Heap.get_upd_self _ _ (F.lt hF)] at hc;rw[Heap.get_upd_self _ _ (Nat.lt_of_lt_of_le (F.lt hF) hG.le.1)];exact hc
  ·rw[Heap.get_upd_ne _ _ e] at hc ⊢;exact hG.le.2 _ _ hc
 ·rw[Heap.get_upd_ne _ _ (aA h1 h2)];exact hG.fresh _ _ h1 h2
theorem Gam.lpKill (hG:Gam P B F pl tb s env σ) {n:Nat}{b0:Blk}(hF:F.get n=some b0) (hB:B.get n=none):Gam P B (F.kill n) pl tb s env (σ.kill n):=by
 have aA:∀ {d i},(Q9 s.own d).live=true→Oid (pl d) i→i≠n:=fun h1 h2 e=>by have:=hG.fresh _ _ h1 h2;subst e;rw[hF] at this;cases this
 refine⟨⟨hG.bf.1,fun i c hc=>?_⟩,⟨hG.le.1,fun i c hc=>?_⟩,hG.env,fun d=>(hG.obj d).mono (.refl _) (fun _ _ h=>h) fun h1 i h2=>Heap.get_kill_ne _ (aA h1 h2),fun d i h1 h2=>?_,hG.sep,hG.free⟩
 ·have:i≠n:=by rintro rfl;rw[hB] at hc;cases hc
  rw[Heap.get_kill_ne _ this];exact hG.bf.2 _ _ hc
 ·by_cases e:i=n
  ·subst e;rw[Heap.get_kill_self] at hc;cases hc
  ·rw[Heap.get_kill_ne _ e] at hc ⊢;exact hG.le.2 _ _ hc
 ·rw[Heap.get_kill_ne _ (aA h1 h2)];exact hG.fresh _ _ h1 h2
theorem GRel.lpUpd {B1 F1 D0:Heap}(h:GRel P B1 F1 D0 s env σ) {n:Nat}{b b0:Blk}(hF:F1.get n=some b0) (hB:B1.get n=none):GRel P B1 (F1.upd n b) D0 s env (σ.upd n b):=by
 obtain⟨B,F,pl,tb,dz,hG⟩:=h;have nG:=dz.f.2 _ _ hF;have nH:=dz.x _ _ hF hB;refine⟨B,F.upd n b,pl,tb,⟨dz.b,⟨dz.f.1,fun i c hc=>?_⟩,fun i c h1 h2=>?_,⟨dz.d.1,fun i h1 h2=>?_⟩⟩,hG.lpUpd nG nH⟩
 ·by_cases e:i=n
  ·subst e;rw[Heap.get_upd_self _ _ (F1.lt hF)] at hc;rw[Heap.get_upd_self _ _ (F.lt nG)];exact hc
  ·rw[Heap.get_upd_ne _ _ e] at hc ⊢;exact dz.f.2 _ _ hc
 ·by_cases e:i=n
  ·subst e;exact nH
  ·rw[Heap.get_upd_ne _ _ e] at h1;exact dz.x _ _ h1 h2
 ·have hd:=dz.d.2 i h1 h2;have:i≠n:=by rintro rfl;rw[hG.le.2 _ _ nG] at hd;cases hd
  rw[Heap.get_upd_ne _ _ this];exact hd
theorem GRel.lpKill {B1 F1 D0:Heap}(h:GRel P B1 F1 D0 s env σ) {n:Nat}{b0:Blk}(hF:F1.get n=some b0) (hB:B1.get n=none):GRel P B1 (F1.kill n) D0 s env (σ.kill n):=by
 obtain⟨B,F,pl,tb,dz,hG⟩:=h;have nG:=dz.f.2 _ _ hF;have nH:=dz.x _ _ hF hB;refine⟨B,F.kill n,pl,tb,⟨dz.b,⟨dz.f.1,fun i c hc=>?_⟩,fun i c h1 h2=>?_,⟨dz.d.1,fun i h1 h2=>?_⟩⟩,hG.lpKill nG nH⟩
 ·by_cases e:i=n
  ·subst e;rw[Heap.get_kill_self] at hc;cases hc
  ·rw[Heap.get_kill_ne _ e] at hc ⊢;exact dz.f.2 _ _ hc
 ·by_cases e:i=n
  ·subst e;exact nH
  ·rw[Heap.get_kill_ne _ e] at h1;exact dz.x _ _ h1 h2
 ·have hd:=dz.d.2 i h1 h2;by_cases e:i=n
  ·subst e;exact Heap.get_kill_self _ _
  ·rw[Heap.get_kill_ne _ e];exact hd
theorem GRel.base {B0 F0 B1 F1 D0:Heap}(h:GRel P B1 F1 D0 s env σ) (hb:B0.Le B1) (hf:F0.Le F1) (hx:∀ i b,F0.get i=some b→B0.get i=none→B1.get i=none):GRel P B0 F0 D0 s env σ:=by obtain⟨B,F,pl,tb,dz,hG⟩:=h;exact⟨B,F,pl,tb,⟨hb.trans dz.b,hf.trans dz.f,fun i b h1 h2=>dz.x i b (hf.2 _ _ h1) (hx i b h1 h2),dz.d⟩,hG⟩
theorem Bg (hG:Gam P B F pl tb s env σ) {mp:List (Nat×Option Nat)}:∀ (st:List (Nat×SV)) {e:List SV},gmatch.slots s mp st→SRs P B (UC pl mp) ZF e env→SRs P B (UC pl mp) ZF (st.foldl (fun e p=>e.set p.1 p.2) e) env
 |[],e,_,h=>h
 |(j,v)::r,e,hs,h=>by
  simp only[gmatch.slots] at hs;simp only[List.foldl_cons];refine Bg hG r hs.2 ?_;have:=h.set j (YF v _ _ hs.1 (hG.env.getD j poison));by_cases hj:j<env.length
  ·rwa [List.getD_eq_getElem?_getD,List.getElem?_eq_getElem hj,Option.getD_some,List.set_getElem_self] at this
  ·rw[List.set_eq_of_length_le (by rw[h.length];omega)];exact h
theorem CZ {B:Heap}{pl:Nat→Value}{tb:Nat→Option Bool}:∀ (env:Env),SRs P B pl tb (List.replicate (List.length env) .any) env
 |[]=>by simp[SRs]
 |v::env=>by simp only[List.length_cons,List.replicate_succ,SRs];exact⟨_,_,rfl,by simp[SR],CZ env⟩
theorem VU {B0 F0 D0:Heap}(hR:GRel P B0 F0 D0 s env σ) {st:List (Nat×SV)}{ow:List (Nat×Src×OB)}(h:gmatch s st ow):GRel P B0 F0 D0 (Z9 (List.length env) st ow) env σ:=by
 obtain⟨B,F,pl,tb,hB,hG⟩:=hR;unfold gmatch at h;split at h
 ·rename_i mp lh;obtain⟨h1,h2⟩:=h;have eI:=BO _ _ _ lh (fun t t' a h=>by cases h);have aL:=RI h2;have al:∀ t,(Q9 (Z9 (List.length env) st ow).own t).live=true→Fk s mp t (Q9 (Z9 (List.length env) st ow).own t):=fun t hl=>by
   rcases Ve (f:=ow) [] t with⟨p,h3,h4,h5⟩|h3
   ·have:=aL p h3;rw[h4,←h5] at this;exact this
   ·simp only[Z9] at hl;rw[h3] at hl;cases hl
  refine⟨B,F,UC pl mp,ZF,hB,hG.bf,hG.le,Bg hG st h1 (CZ env),fun t=>?_,fun t i hl hi=>?_,fun t t' i aA hl cm hi cC=>?_,fun _ _=>rfl⟩
  ·cases hl:(Q9 (Z9 (List.length env) st ow).own t).live with
   |true=>exact(QX hG (al t hl)).1
   |false =>
    cases ho:Q9 (Z9 (List.length env) st ow).own t with
    |dead=>trivial
    |stk l vals =>
     rcases Ve (f:=ow) [] t with⟨p,h3,h4,h5⟩|h3
     ·have:=aL p h3;simp only[Z9] at ho;rw[←h5,ho] at this;have h6:=(QX hG this).1;rw[h4] at h6;exact h6
     ·simp only[Z9] at ho;rw[h3] at ho;cases ho
    |lpf l q u =>
     rcases Ve (f:=ow) [] t with⟨p,h3,h4,h5⟩|h3
     ·have:=aL p h3;simp only[Z9] at ho;rw[←h5,ho] at this;have h6:=(QX hG this).1;rw[h4] at h6;exact h6
     ·simp only[Z9] at ho;rw[h3] at ho;cases ho
    |_=>rw[ho] at hl;cases hl
  ·obtain⟨a,_,h4,h5⟩:=(QX hG (al t hl)).2 hl i hi;exact hG.fresh a i h4 h5
  ·obtain⟨a,e1,h4,h5⟩:=(QX hG (al t hl)).2 hl i hi;obtain⟨a',e2,gp,pT⟩:=(QX hG (al t' cm)).2 cm i cC;by_cases e:a=a'
   ·subst e;exact aA (eI t t' a e1 e2)
   ·exact hG.sep a a' i e h4 gp h5 pT
 ·exact h.elim
theorem Rw {α:Type}{o:Option α}{f:α→Prop}(h:QZ o f):∃ a,f a:=by
 cases o with
 |none=>exact h.elim
 |some a=>exact⟨a,h⟩
theorem COk.nx {C:Cx}(h:COk P C):COk P C.nx:=⟨h.cs,fun f x hx=>(by cases hx),h.it,h.yl,h.iy,fun f j _ x hx=>(by cases hx)⟩
theorem Wy {S:VSpecs}{Q:Prop}:∀ {ops:List DOper}{env:Env}{hs:List Heap}{σ:Heap}{pend:List (Nat×(Heap→Prop))},J2 S ops env hs σ pend (fun _ _=>Q)→Q
 |[],_,_,_,_,h=>h
 |o::r,env,hs,σ,pend,h=>by
  simp only[J2] at h;obtain⟨b,h⟩:=Rw h;cases b with
  |true =>
   have h:=h.1 rfl;split at h
   ·obtain⟨v,σ',_,_,h⟩:=h;exact Wy h
   ·split at h
    ·obtain⟨p,_,h⟩:=Rw h;exact Wy h
    ·obtain⟨p,h⟩:=Rw h;exact Wy h
  |false =>
   have h:=h.2 rfl;split at h
   ·exact Wy h.2
   ·exact Wy h
theorem Pd {C:Cx}{s:St}{st:List (Nat×SV)}{ow:List (Nat×Src×OB)}{Q:Prop}:∀ (ls:List (List DOper)),Q4s C ls s st ow Q→(∀ l∈ls,X8 C.nx l s 1 0 [] [] fun s'=>Dv s.env.length s' st ow)∧Q
 |[],h=>⟨fun l hl=>(by cases hl),h⟩
 |l::ls,h=>by obtain⟨h1,h2⟩:=h;obtain⟨h3,h4⟩:=Pd ls h2;exact⟨fun l' cm=>(List.mem_cons.1 cm).elim (fun e=>e▸h1) (h3 l'),h4⟩
theorem VN {B0 F0 D0:Heap}{s:St}{env:Env}{σ:Heap}{n:Nat}(hR:GRel P B0 F0 D0 s env σ) {st:List (Nat×SV)}{ow:List (Nat×Src×OB)}(h:Dv n s st ow):GRel P B0 F0 D0 (Z9 n st ow) env σ:=by
 unfold Dv at h;cases hb:Nat.beq s.env.length n with
 |false=>rw[hb] at h;exact h.elim
 |true =>
  rw[hb] at h;have hl:env.length=n:=by rw[←Nat.eq_of_beq_eq_true hb];obtain⟨_,_,_,_,_,hG⟩:=hR;exact hG.env.length.symm
  rw[←hl];exact VU hR h
theorem Ww {C:Cx}(az:COk P C) {B0 F0 D0:Heap}:∀ (aP:List DSeg) {s:St}{env:Env}{σ:Heap},GRel P B0 F0 D0 s env σ→∀ {K:St→Prop},Ru C aP s K→∀ {R:Env→Heap→Prop},(∀ s' af σ',K s'→GRel P B0 F0 D0 s' af σ'→R af σ')→M1 (Q2 P) aP env σ R
 |[],s,env,σ,hR,K,h,R,hK=>hK s env σ h hR
 |.one o::r,s,env,σ,hR,K,h,R,hK=>by refine NO az [o] hR (K:=fun s'=>Ru C r s' K) h fun s' af σ' h1 h2=>?_;exact Ww az r h2 h1 hK
 |.alts [l]::r,s,env,σ,hR,K,h,R,hK=>by
  simp only[Ru] at h;cases hd:Q2a l with
  |false =>
   rw[hd] at h;simp only[_root_.cond_false] at h;cases hk:l.all (fun o=>o.kind==o.op.kind) with
   |false=>rw[hk] at h;exact h.elim
   |true =>
    rw[hk] at h;simp only[_root_.cond_true] at h;intro ops ho;obtain rfl:=List.mem_singleton.1 ho;obtain⟨B,F,pl,tb,hB,hG⟩:=hR;have one:∀ (j:Nat) (τ:Heap),([σ]:List Heap)[j]?=some τ→τ=σ:=fun j τ ht=>by
     cases j with
     |zero=>simpa using ht.symm
     |succ j=>simp at ht
    exact Qo az ops (fun o ho=>by simpa using List.all_eq_true.1 hk o ho) hB hG (hl:=1) (chg:=0) (A:=[]) (Rd:=[]) ⟨rfl,fun j τ _ ht=>one j τ ht,(fun c hc=>absurd hc (by simp)),fun j τ q i ht _ _ _=>by rw[one j τ ht]⟩ (pend:=[]) (pd:=[]) (fun c hc=>absurd hc (by simp)) (fun j τ ht _=>by rw[one j τ ht];exact hG.leB) (Nat.zero_le _) (Nat.succ_pos _) h fun s' af σ' h1 h2=>⟨af,σ',.refl _ _ _,Ww az r h2 h1 hK⟩
  |true =>rw[hd] at h;refine Ix (l:=l) hd ?_;exact NO az _ hR h fun s' af σ' h1 h2=>Ww az r h2 h1 hK
 |.alts []::r,s,env,σ,hR,K,h,R,hK=>h.elim
 |.alts (l::l2::ls)::r,s,env,σ,hR,K,h,R,hK=>by
  simp only[Ru] at h;cases hk:(l::l2::ls).all (fun l=>l.all fun o=>o.kind==o.op.kind) with
  |false=>rw[hk] at h;exact h.elim
  |true =>
   rw[hk] at h;simp only[_root_.cond_true] at h;obtain⟨B,F,pl,tb,hB,hG⟩:=hR;have one:∀ (j:Nat) (τ:Heap),([σ]:List Heap)[j]?=some τ→τ=σ:=fun j τ ht=>by
    cases j with
    |zero=>simpa using ht.symm
    |succ j=>simp at ht
   have run:∀ l'∈l::l2::ls,∀ {K':St→Prop},X8 C.nx l' s 1 0 [] [] K'→∀ {R':Env→Heap→Prop},(∀ s' af σ',K' s'→GRel P B0 F0 D0 s' af σ'→R' af σ')→J2 (Q2 P) l' env [σ] σ [] R':=fun l' cm K' h' R' pQ =>
    Qn az.nx rfl l' (fun o ho=>by simpa using List.all_eq_true.1 (List.all_eq_true.1 hk l' cm) o ho) hB hG (hl:=1) (chg:=0) (A:=[]) (Rd:=[]) ⟨rfl,fun j τ _ ht=>one j τ ht,(fun c hc=>absurd hc (by simp)),fun j τ q i ht _ _ _=>by rw[one j τ ht]⟩ (pend:=[]) (pd:=[]) (fun c hc=>absurd hc (by simp)) (fun j τ ht _=>by rw[one j τ ht];exact hG.leB) (Nat.zero_le _) (Nat.succ_pos _) h' pQ
   obtain⟨s0,h0,h1⟩:=Wy (run l List.mem_cons_self h (R':=fun _ _=>∃ s0:St,_) fun s' _ _ h' _=>⟨s',h'⟩);obtain⟨h2,h3⟩:=Pd _ h1;intro ops ho;rcases List.mem_cons.1 ho with rfl|eD
   ·refine WC ?_;exact run ops ho h fun s' af σ' h' pU=>⟨af,σ',.refl _ _ _,by
     obtain⟨k1,k2⟩:=h';exact Ww az r (VN pU k1) (Pd _ k2).2 hK⟩
   ·refine WC ?_;exact run ops ho (h2 ops eD) fun s' af σ' h' pU=>⟨af,σ',.refl _ _ _,Ww az r (VN pU h') h3 hK⟩
theorem B_:∀ (l:List Nat) (vs:List SV),(Q6g l vs).map (·.1)=l
 |[],_=>rfl
 |j::js,[]=>by simp[Q6g,B_ js []]
 |j::js,v::vs=>by simp[Q6g,B_ js vs]
theorem NF {B:Heap}{pl:Nat→Value}{tb:Nat→Option Bool}:∀ {ps:List Nat}{xs:List SV}{us:List Value}{e:List SV}{env:Env},SRs P B pl tb xs us→SRs P B pl tb e env→SRs P B pl tb (GM e ps xs) (H6 env ps us)
 |[],xs,us,e,env,_,h=>by simpa [GM,H6] using h
 |p::ps,[],us,e,env,hx,h=>by simp only[SRs] at hx;subst hx;simpa [GM,H6] using h
 |p::ps,x::xs,us,e,env,hx,h=>by simp only[SRs] at hx;obtain⟨u,iz,rfl,h1,h2⟩:=hx;simp only[GM,H6];exact NF h2 (h.set p h1)
def Z3k (F0:Heap):Option Nat→Prop
 |none=>True
 |some i=>∃ env r st pend,F0.get i=some (.obj (.lp env r st pend) true)
theorem Gam.dropLp {B F:Heap}{pl:Nat→Value}{tb:Nat→Option Bool}{s:St}{env:Env}{σ:Heap}(hG:Gam P B F pl tb s env σ) {o:Nat}{l:List SV}{q:LpD}{u:LpS}(ho:Q9 s.own o=.lpf l q u) (hl:u.live=true) :
  Gam P B F pl tb ⟨l,oset s.own o .dead,s.nx⟩ q.vals (σ.kill q.i)∧σ.get q.i=some (.obj (.lp q.vals q.r u.st u.pend) true):=by
 have al:=hG.obj o;rw[ho] at al;obtain⟨h1,h2,h3⟩:=al;have iL:(Q9 s.own o).live=true:=by rw[ho];exact hl
 have je:Oid (pl o) q.i:=by rw[h1];rfl
 have hF:=hG.fresh o q.i iL je;have lv:∀ d,(Q9 (oset s.own o .dead) d).live=true→d≠o∧(Q9 s.own d).live=true:=fun d h=>by
  rw[Qh] at h;by_cases e:d=o
  ·rw[if_pos e] at h;cases h
  ·rw[if_neg e] at h;exact⟨e,h⟩
 refine⟨⟨hG.bf,⟨hG.le.1,fun j b hb=>?_⟩,h2,fun d=>?_,fun d i hd hi=>hG.fresh d i (lv d hd).2 hi,fun d d' i e h h'=>hG.sep d d' i e (lv d h).2 (lv d' h').2,hG.free⟩,h3 hl⟩
 ·have e:j≠q.i:=by rintro rfl;rw[hF] at hb;cases hb
  rw[Heap.get_kill_ne _ e];exact hG.le.2 _ _ hb
 ·rw[Qh];by_cases e:d=o
  ·rw[if_pos e];trivial
  ·rw[if_neg e];refine (hG.obj d).mono (.refl _) (fun _ _ h=>h) fun hd i hi=>?_;have:i≠q.i:=by rintro rfl;exact hG.sep d o q.i e hd iL hi je
   exact Heap.get_kill_ne _ this
theorem Io (s:St) (o:Nat) (b:OB) (j:Nat):Q9 (s.make o b).own j=if j=o then b else (Q9 s.own j).kill o:=by
 simp only[St.make,Qh];by_cases h:j=o
 ·subst h;simp
 ·simp only[h,if_false,St.kill,V6]
theorem Gam.enterLp {B F:Heap}{pl:Nat→Value}{tb:Nat→Option Bool}{s:St}{env:Env}{σ:Heap}(hG:Gam P B F pl tb s env σ) {o aH:Nat}{l:List SV}{q:LpD}(ho:Q9 s.own o=.lpf l q .rdy) (aA:o≠aH)
  {args:List SV}{us:List Value}(aw:SRs P B pl tb args us) (ps:List Nat) :
  Gam P B (F.ins σ q.i hG.le.1) (Jo pl aH poison) tb ⟨GM (SVs.kill aH l) ps (SVs.kill aH args),oset (C4 aH env s).own o (.lpf (SVs.kill aH l) q .busy),s.nx⟩ (H6 q.vals ps us) σ:=by
 have q3:Gam P B F (Jo pl aH poison) tb (C4 aH env s) env σ:=by refine hG.make aH _ poison hG.le (fun _ _ _ _ _=>rfl) ?_ (fun i hl _=>by cases hl);exact SRs.upd (.refl _) (fun _ _ h=>h) (fun j hj=>by simp[Jo,hj]) _ _ hG.env
 have al:=hG.obj o;rw[ho] at al;obtain⟨h1,h2,h3⟩:=al;have iL:(Q9 s.own o).live=true:=by rw[ho];rfl
 have gA:Jo pl aH poison o=.pointer (some ⟨q.i,0,none⟩):=by simp[Jo,aA,h1]
 have tc:Q9 (C4 aH env s).own o=.lpf (SVs.kill aH l) q .rdy:=by have:=Io s aH (.stk (SVs.kill aH s.env) env) o;unfold C4;rw[this,if_neg aA,ho];rfl
 have nJ:(Q9 (C4 aH env s).own o).live=true:=by rw[tc];rfl
 have je:Oid (Jo pl aH poison o) q.i:=by rw[gA];rfl
 have hF:=q3.fresh o q.i nJ je;have cA:SRs P B (Jo pl aH poison) tb (SVs.kill aH l) q.vals:=SRs.upd (.refl _) (fun _ _ h=>h) (fun j hj=>by simp[Jo,hj]) _ _ h2;have td:SRs P B (Jo pl aH poison) tb (SVs.kill aH args) us:=SRs.upd (.refl _) (fun _ _ h=>h) (fun j hj=>by simp[Jo,hj]) _ _ aw;have lv:∀ d,(Q9 (oset (C4 aH env s).own o (.lpf (SVs.kill aH l) q .busy)) d).live=true→d≠o∧(Q9 (C4 aH env s).own d).live=true:=fun d h=>by
  rw[Qh] at h;by_cases e:d=o
  ·rw[if_pos e] at h;cases h
  ·rw[if_neg e] at h;exact⟨e,h⟩
 refine⟨q3.bf.trans (hG.le.ins _),hG.le.ins_le _,NF td cA,fun d=>?_,fun d i hd hi=>?_,fun d d' i e h h'=>q3.sep d d' i e (lv d h).2 (lv d' h').2,q3.free⟩
 ·show OR P B _ tb σ _ (Q9 (oset _ o _) d);rw[Qh];by_cases e:d=o
  ·subst e;rw[if_pos rfl];exact⟨gA,cA,fun h=>by cases h⟩
  ·rw[if_neg e];exact q3.obj d
 ·obtain⟨e,qM⟩:=lv d hd;have:i≠q.i:=by rintro rfl;exact q3.sep d o q.i e qM nJ hi je
  rw[Heap.ins_ne _ _ _ this];exact q3.fresh d i qM hi
theorem Gam.leaveLp {B F:Heap}{pl:Nat→Value}{tb:Nat→Option Bool}{s:St}{env:Env}{σ:Heap}(hG:Gam P B F pl tb s env σ) {o aH:Nat}{l l2:List SV}{jR:List Value}{q:LpD}{b0:Blk}(hF:F.get q.i=some b0) (hB:B.get q.i=none)
  (h2:Q9 s.own aH=.stk l2 jR) (ho:Q9 s.own o=.lpf l q .busy) (u:LpS) :
  Gam P B (F.kill q.i) pl tb ⟨l2,oset (oset s.own aH .dead) o (.lpf l q u),s.nx⟩ jR (σ.upd q.i (.obj (.lp q.vals q.r u.st u.pend) true)):=by
 have al:=hG.obj o;rw[ho] at al;obtain⟨k1,k2,_⟩:=al;have hk:=hG.obj aH;rw[h2] at hk;have hi:q.i<σ.n:=σ.lt (hG.le.2 _ _ hF);have aA:∀ {d i},(Q9 s.own d).live=true→Oid (pl d) i→i≠q.i:=fun h1 h2 e=>by have:=hG.fresh _ _ h1 h2;subst e;rw[hF] at this;cases this
 have je:∀ i,Oid (pl o) i→i=q.i:=fun i h=>by rw[k1] at h;exact(osj h).symm
 have hg:∀ d,Q9 (oset (oset s.own aH .dead) o (.lpf l q u)) d=if d=o then .lpf l q u else if d=aH then .dead else Q9 s.own d:=fun d=>by rw[Qh,Qh]
 have lv:∀ d,d≠o→(Q9 (oset (oset s.own aH .dead) o (.lpf l q u)) d).live=true→(Q9 s.own d).live=true:=fun d e h=>by
  rw[hg,if_neg e] at h;split at h
  ·cases h
  ·exact h
 refine⟨⟨hG.bf.1,fun j b hb=>?_⟩,⟨hG.le.1,fun j b hb=>?_⟩,hk,fun d=>?_,fun d i hd cC=>?_,fun d d' i e h h' h1 iw=>?_,hG.free⟩
 ·have e:j≠q.i:=by rintro rfl;rw[hB] at hb;cases hb
  rw[Heap.get_kill_ne _ e];exact hG.bf.2 _ _ hb
 ·by_cases e:j=q.i
  ·subst e;rw[Heap.get_kill_self] at hb;cases hb
  ·rw[Heap.get_kill_ne _ e] at hb;rw[Heap.get_upd_ne _ _ e];exact hG.le.2 _ _ hb
 ·show OR P B pl tb _ _ (Q9 (oset _ o _) d);rw[hg];by_cases e:d=o
  ·subst e;rw[if_pos rfl];exact⟨k1,k2,fun _=>Heap.get_upd_self _ _ hi⟩
  ·rw[if_neg e];split
   ·trivial
   ·exact(hG.obj d).mono (.refl _) (fun _ _ h=>h) fun hd i hi=>Heap.get_upd_ne _ _ (aA hd hi)
 ·by_cases e:d=o
  ·subst e;rw[je i cC];exact Heap.get_kill_self _ _
  ·rw[Heap.get_kill_ne _ (aA (lv d e hd) cC)];exact hG.fresh d i (lv d e hd) cC
 ·by_cases e1:d=o
  ·subst e1;have e2:d'≠d:=fun h=>e h.symm;exact aA (lv d' e2 h') iw (je i h1)
  ·by_cases e2:d'=o
   ·subst e2;exact aA (lv d e1 h) h1 (je i iw)
   ·exact hG.sep d d' i e (lv d e1 h) (lv d' e2 h') h1 iw
theorem Y_ {C:Cx}(az:COk P C) {L:List (Nat×LoopAnn)}(vc:VCode):∀ {B0 F0 D0:Heap}(n:Nat) (K:Exit→St→Prop) (s:St) (env:Env) (σ:Heap) (ro:Option Nat) (Q:Exit→Env→Heap→Prop),Z3k F0 ro→GRel P B0 F0 D0 s env σ→gwp C L vc n K s→(∀ e s' af σ',K e s'→GRel P B0 F0 D0 s' af σ'→Q e af σ')→vwp (Q2 P) vc ro Q env σ:=by
 induction vc with
 |skip=>intro B0 F0 D0 n K s env σ ro Q bJ hR h hK;exact hK _ _ _ _ h hR
 |region ops=>intro B0 F0 D0 n K s env σ ro Q bJ hR h hK;exact NO az ops hR h fun s' af σ' h1 h2=>hK _ _ _ _ h1 h2
 |regionD aP=>intro B0 F0 D0 n K s env σ ro Q bJ hR h hK;exact Ww az aP hR h fun s' af σ' h1 h2=>hK _ _ _ _ h1 h2
 |rangeF g ps a b e_ eK =>
  intro B0 F0 D0 n K s env σ ro Q bJ hR h hK;simp only[gwp] at h;split at h
  ·rename_i f first du hg
   split at h
   ·
    rename_i x hx;obtain⟨B,F,pl,tb,hB,hG⟩:=hR;have gf:=hG.evs (Gds.nil (tb:=tb)) g;rw[hg] at gf;simp only[SR] at gf;obtain⟨x',y',bI,lj,nK⟩:=gf;obtain⟨gL,lW⟩:=az.iy f x hx;show vwp (Q2 P) (.rangeF g ps a b) ro Q env σ;simp only[vwp,LA,bI];have lk:(Q2 P).it f=some fun i Y args σ K=>KQ P i Y→VCallsTo P f args σ K:=by simp only[Q2];rw[if_pos gL]
    rw[lk];refine⟨?_,fun r hY=>?_⟩
    ·cases ro with
     |none=>trivial
     |some i =>obtain⟨e1,r1,st1,pV,hi⟩:=bJ;exact⟨e1,r1,st1,pV,hG.le.2 _ _ (hB.f.2 _ _ hi)⟩
    generalize jr:C.off+2000000+n=o at h;generalize fm:100000*(o+1)-1=aH at h;have ah:o≠aH:=by omega
    let q:LpD:=⟨σ.n,env,r⟩;let rdy:Blk:=.obj (.lp env r .ready none) true;let eR:Blk:=.obj (.lp env r .busy none) true;let p0:Value:=.pointer (some ⟨σ.n,0,none⟩);have g9:Gam P B F (Jo pl o p0) tb (Z3q o q s) env (σ.push rdy):=by refine hG.push o (.lpf (SVs.kill o s.env) q .rdy) p0 rdy rfl ⟨rfl,SRs.upd (.refl _) (fun _ _ h=>h) (fun j hj=>by simp[Jo,hj]) _ _ hG.env,fun _=>Heap.get_push_self _ _⟩
    have kl:∀ {xs us},SRs P B pl tb xs us→SRs P B (Jo pl o p0) tb (SVs.kill o xs) us:=fun h=>SRs.upd (.refl _) (fun _ _ h=>h) (fun j hj=>by simp[Jo,hj]) _ _ h;have aw:SRs P B (Jo pl o p0) tb (SVs.kill o first++(.dd o .yv::SVs.kill o du)) (x'++(.func (.yield σ.n) #[] #[]::y')):=by refine (kl lj).append ?_;simp only[SRs,SR,DR];exact⟨_,_,rfl,⟨σ.n,by simp[Jo,p0],rfl⟩,kl nK⟩
    have tf:Q0w P o (Iz o aH ps.length q (fun K' s'=>gwp C L a n (OF (fun s3=>gwp C L b n K' s3) fun _ _=>False) s') ps):=by
     intro B F pl tb s af σ args us K R i hG ha hy gA hK;unfold Iz at hy;split at hy
     ·rename_i l q' u ho;split at hy
      ·cases hlen:Nat.beq args.length ps.length with
       |false=>rw[hlen] at hy;exact hy.elim
       |true =>
       rw[hlen] at hy;simp only[_root_.cond_true] at hy;obtain⟨rfl,hy⟩:=hy;have al:=hG.obj o;rw[ho] at al;have hi:i=q.i:=by have h1:=al.1;rw[gA] at h1;have:=osj (Value.pointer.inj h1);exact(Addr.mk.inj this).1
       subst hi;have ll:σ.get q.i=some rdy:=al.2.2 rfl;have iL:(Q9 s.own o).live=true:=by rw[ho];rfl
       have lX:F.get q.i=none:=hG.fresh o q.i iL (by rw[al.1];rfl);have qN:B.get q.i=none:=by
        cases hb:B.get q.i with
        |none=>rfl
        |some b=>rw[hG.bf.2 _ _ hb] at lX;cases lX
       have jX:=hG.enterLp ho ah ha ps;have g_:(F.ins σ q.i hG.le.1).get q.i=some rdy:=by rw[Heap.ins_self];exact ll
       have fh:(F.ins σ q.i hG.le.1).n=σ.n:=rfl;have aM:q.i<σ.n:=σ.lt ll;refine hY us σ R ⟨ll,by rw[←ha.length];exact(Nat.eq_of_beq_eq_true hlen),?_⟩;refine e_ (B0:=B) (F0:=F.ins σ q.i hG.le.1) (D0:=σ) n _ _ _ σ (some q.i) _ ⟨env,r,_,_,g_⟩ ⟨B,_,_,tb,.of jX.bf (Dead.refl _),jX⟩ (hy af) fun e s3 pW σ3 h7 h8=>?_;cases e with
       |normal =>
        have iR:σ3.get q.i=some rdy:=by obtain⟨B',F',pl',tb',q1,q2⟩:=h8;exact q2.le.2 _ _ (q1.f.2 _ _ g_)
        refine⟨iR,?_⟩;have h9:=h8.lpUpd (b:=eR) g_ qN;have lZ:((F.ins σ q.i hG.le.1).upd q.i eR).get q.i=some eR:=Heap.get_upd_self _ _ (by rw[fh];exact aM);refine eK (B0:=B) (F0:=(F.ins σ q.i hG.le.1).upd q.i eR) (D0:=σ) n _ _ _ _ (some q.i) _ ⟨env,r,_,_,lZ⟩ h9 h7 fun e s4 pX σ4 bY gk=>?_;obtain⟨B',F',pl',tb',q1,q2⟩:=gk;have oB:=q1.f.2 _ _ lZ;have pY:=q1.x _ _ lZ qN;have nL:σ4.get q.i=some eR:=q2.le.2 _ _ oB;unfold gyK at bY;split at bY
        ·rename_i l2 jR l3 q3 u3 aq pZ;split at bY
         ·obtain⟨rfl,rfl,bY⟩:=bY;have base:∀ b,GBase B F σ B' (F'.kill q.i) (σ4.upd q.i b):=fun b=>by
           refine⟨q1.b,⟨?_,fun j c hc=>?_⟩,fun j c h1 h2=>?_,q1.d.trans (Dead.upd _ _ _ (by rw[nL];rfl))⟩
           ·have h1:=q1.f.1;have h2:=hG.le.1;show F.n≤F'.n;have h3:((F.ins σ q.i hG.le.1).upd q.i eR).n=σ.n:=rfl;omega
           ·have e:j≠q.i:=by rintro rfl;rw[lX] at hc;cases hc
            rw[Heap.get_kill_ne _ e];refine q1.f.2 _ _ ?_;rw[Heap.get_upd_ne _ _ e,Heap.ins_ne _ _ _ e];exact hc
           ·have e:j≠q.i:=by rintro rfl;rw[lX] at h1;cases h1
            refine q1.x j c ?_ h2;rw[Heap.get_upd_ne _ _ e,Heap.ins_ne _ _ _ e];exact h1
          refine⟨nL,?_⟩;cases e with
          |normal=>exact hK _ _ B' _ pl' tb' _ _ bY (base _) (q2.leaveLp oB pY aq pZ .rdy) (by simp[SR,KC])
          |ret=>exact hK _ _ B' _ pl' tb' _ _ bY (base _) (q2.leaveLp oB pY aq pZ .ret) (by simp[SR,KC])
          |exit id=>exact hK _ _ B' _ pl' tb' _ _ bY (base _) (q2.leaveLp oB pY aq pZ (.exit id)) (by simp[SR,KC])
          |_=>exact bY.elim
         ·exact bY.elim
        ·exact bY.elim
       |_=>exact h7.elim
      ·exact hy.elim
     ·exact hy.elim
    have aX:=lW B F _ tb _ env (σ.push rdy) o _ _ _ (Q48 o q K) (fun τ=>Q10 Q env σ.n poison τ) g9 aw tf (h q) fun s' B' F' pl' tb' af σ' hk hb dB=>by
     unfold Q48 at hk;split at hk
     ·rename_i l q' u ho;have fin:∀ {e:Exit},u.live=true→q'=q→K e ⟨l,oset s'.own o .dead,s'.nx⟩→Q e env (σ'.kill σ.n)∧σ'.get σ.n=some (.obj (.lp env r u.st u.pend) true):=fun {e} hu hq tg=>by
       subst hq;obtain⟨g1,g2⟩:=dB.dropLp ho hu;refine⟨hK _ _ _ _ tg ⟨B',F',pl',tb',⟨hB.b.trans hb.b,hB.f.trans hb.f,fun j c h1 h2=>hb.x j c (hB.f.2 _ _ h1) (hB.x j c h1 h2),hB.d.trans ((Dead.push _ _).trans (hb.d.trans (Dead.kill _ _)))⟩,g1⟩,g2⟩
      cases u with
      |busy=>exact hk.elim
      |rdy =>obtain⟨hq,hk⟩:=hk;obtain⟨k1,k2⟩:=fin rfl hq hk;unfold Q10;rw[k2];exact⟨(by intro h;cases h),k1⟩
      |ret =>obtain⟨hq,hk⟩:=hk;obtain⟨k1,k2⟩:=fin rfl hq hk;unfold Q10;rw[k2];exact⟨(by intro h;cases h),k1⟩
      |exit id =>obtain⟨hq,hk⟩:=hk;obtain⟨k1,k2⟩:=fin rfl hq hk;unfold Q10;rw[k2];exact⟨(by intro h;cases h),k1⟩
     ·exact hk.elim
    refine VCallsTo.mono (R:=fun _ τ=>Q10 Q env σ.n poison τ) (by simpa using aX) fun v τ h=>h
   split at h
   rotate_left
   ·exact h.elim
   split at h
   ·rename_i it s1 cH A mE p5 hA;split at h
    ·rename_i c m ar xs hc;cases dT:Nat.beq ps.length ar with
     |false=>rw[dT] at h;exact h.elim
     |true =>
     rw[dT] at h;simp only[_root_.cond_true] at h;obtain⟨dU,p,d0,eY,I,th,qO,qP⟩:=h;have dT:=Nat.eq_of_beq_eq_true dT;have hlen:s.env.length=env.length:=by obtain⟨B,F,pl,tb,_,hG⟩:=hR;exact hG.env.length
     rw[hlen] at qO qP;have ny:=hR;obtain⟨B,F,pl,tb,hB,hG⟩:=hR;have gf:=hG.evs Gds.nil g;rw[hg] at gf;simp only[SR] at gf;obtain⟨x,y,bI,hx,hy⟩:=gf;simp only[SRs] at hx;subst hx;obtain⟨B1,F1,nM,nN,tj,jy⟩:=DE hG hy p5;obtain⟨gL,p6⟩:=az.it f it mE;obtain⟨nO,p7⟩:=p6 B1 cH y c m ar xs tj hc dU;have tk:GRel P B1 F1 D0 (Z9 (List.length env) (A.st p d0) (A.own p d0)) env σ:=VU ⟨B1,F1,pl,tb,⟨.refl _,.refl _,fun _ _ _ h=>h,(hB.trans nM).d⟩,nN⟩ eY;have l6:B1.get σ.n=none:=B1.wf _ nN.leB.1;have tl:F1.get σ.n=none:=F1.wf _ nN.le.1;show vwp (Q2 P) (.rangeF g ps a b) ro Q env σ;simp only[vwp,LA,bI];have lk:(Q2 P).it f=some fun i Y args σ K=>KQ P i Y→VCallsTo P f args σ K:=by simp only[Q2];rw[if_pos gL]
     rw[lk];refine⟨?_,fun r hY=>?_⟩
     ·cases ro with
      |none=>trivial
      |some i =>obtain⟨e1,r1,st1,pV,hi⟩:=bJ;exact⟨e1,r1,st1,pV,hG.le.2 _ _ (hB.f.2 _ _ hi)⟩
     ·let rdy:Blk:=.obj (.lp env r .ready none) true;let eR:Blk:=.obj (.lp env r .busy none) true;have jY:F1.Le (σ.push rdy):=nN.le.push rdy;let Fr:=F1.ins (σ.push rdy) σ.n jY.1;have g_:Fr.get σ.n=some rdy:=by
       show (F1.ins _ _ _).get σ.n=_;rw[Heap.ins_self,Heap.get_push_self]
      have fh:Fr.n=σ.n+1:=rfl;have tm:F1.Le Fr:=jY.ins σ.n;let J:Nat→Heap→Prop:=fun k τ=>∃ d,I k d∧GRel P B1 Fr D0 (Z9 (List.length env) (A.st p d) (A.own p d)) env τ;let E:Heap→Prop:=fun τ=>∃ cd e,τ.get σ.n=some (.obj (.lp env r .done (some cd)) true)∧((cd=.ret∧e=Exit.ret)∨∃ id,cd=.exit id∧e=Exit.exit id)∧Q e env (τ.kill σ.n);have back:∀ {s':St}{τ:Heap},GRel P B1 (Fr.upd σ.n eR) D0 s' env τ→∀ b,GRel P B1 ((Fr.upd σ.n eR).upd σ.n b) D0 s' env (τ.upd σ.n b):=fun h b =>
       h.lpUpd (b0:=eR) (Heap.get_upd_self _ _ (by rw[fh];omega)) l6
      have hU:∀ {Fx:Heap}{b0:Blk}{s':St}{τ:Heap},Fx.get σ.n=some b0→(∀ i,i≠σ.n→Fx.get i=F1.get i)→Fx.n=σ.n+1→GRel P B1 Fx D0 s' env τ→GRel P B0 F0 D0 s' env (τ.kill σ.n):=fun {Fx b0 s' τ} h1 h2 h3 h4=>by
       refine (h4.lpKill h1 l6).base (hB.b.trans nM.b) ⟨?_,fun i b hb=>?_⟩ fun i b k1 k2=>(hB.trans nM).x i b k1 k2
       ·show F0.n≤Fx.n;rw[h3];have:=(hB.trans nM).f.1;have:=nN.le.1;omega
       ·have bw:=(hB.trans nM).f.2 _ _ hb;have e:i≠σ.n:=by rintro rfl;rw[tl] at bw;cases bw
        rw[Heap.get_kill_ne _ e,h2 i e];exact bw
      have jg:∀ i,i≠σ.n→Fr.get i=F1.get i:=fun i e=>Heap.ins_ne _ _ _ e;have aX:=p7 σ.n _ J E (σ.push rdy) hY (fun k τ ⟨d,_,hd⟩=>?_) (fun k us τ hk ⟨d,p8,hd⟩ dS=>?_) ⟨d0,th,?_⟩
      ·refine VCallsTo.mono (R:=fun _ τ=>J m τ∨E τ) (by simpa using aX) fun v τ po=>?_;unfold Q10;rcases po with⟨d,p8,hd⟩|⟨cd,e,h1,h2,h3⟩
       ·have ll:τ.get σ.n=some rdy:=by
         obtain⟨B',F',pl',tb',q1,q2⟩:=hd;exact q2.le.2 _ _ (q1.f.2 _ _ g_)
        rw[ll];exact⟨(by intro h;cases h),hK _ _ _ _ (qP d p8) (hU g_ jg fh hd)⟩
       ·rw[h1];refine⟨(by intro h;cases h),?_⟩;rcases h2 with⟨rfl,rfl⟩|⟨id,rfl,rfl⟩<;>exact h3
      ·obtain⟨B',F',pl',tb',q1,q2⟩:=hd;exact q1.b.trans q2.leB
      ·
       have ll:τ.get σ.n=some rdy:=by obtain⟨B',F',pl',tb',q1,q2⟩:=hd;exact q2.le.2 _ _ (q1.f.2 _ _ g_)
       refine⟨ll,by rw[dT,←(nO k).1,dS.length],?_⟩;have hF:=qO k d hk p8 env;have bc:GRel P B1 Fr D0 ⟨GM (C4 (2000000+n) env (Z9 (List.length env) (A.st p d) (A.own p d))).env ps (xs k),(C4 (2000000+n) env (Z9 (List.length env) (A.st p d) (A.own p d))).own,0⟩ (H6 env ps us) τ:=by
        obtain⟨B',F',pl',tb',q1,q2⟩:=hd;have q3:Gam P B' F' (Jo pl' (2000000+n) poison) tb' (C4 (2000000+n) env (Z9 (List.length env) (A.st p d) (A.own p d))) env τ:=by refine q2.make (2000000+n) _ poison q2.le (fun _ _ _ _ _=>rfl) ?_ (fun i hl _=>by cases hl);exact SRs.upd (.refl _) (fun _ _ h=>h) (fun j hj=>by simp[Jo,hj]) _ _ q2.env
        refine⟨B',F',Jo pl' (2000000+n) poison,tb',q1,⟨q3.bf,q3.le,NF ?_ q3.env,q3.obj,q3.fresh,q3.sep,?_⟩⟩
        ·exact SRs.mono q1.b (fun _ _ h=>h) _ _ (Z1 _ _ (nO k).2 dS)
        ·exact q3.free
       refine e_ (B0:=B1) (F0:=Fr) n _ _ _ τ (some σ.n) _ ⟨env,r,_,_,g_⟩ bc hF fun e s3 pW σ3 h7 h8=>?_;cases e with
       |normal =>
        have iR:σ3.get σ.n=some rdy:=by obtain⟨B',F',pl',tb',q1,q2⟩:=h8;exact q2.le.2 _ _ (q1.f.2 _ _ g_)
        refine⟨iR,?_⟩;have h9:=h8.lpUpd (b:=eR) g_ l6;have lZ:(Fr.upd σ.n eR).get σ.n=some eR:=Heap.get_upd_self _ _ (by rw[fh];omega);refine eK (B0:=B1) (F0:=Fr.upd σ.n eR) n _ _ _ _ (some σ.n) _ ⟨env,r,_,_,lZ⟩ h9 h7 fun e s4 pX σ4 bY gk=>?_;have nL:σ4.get σ.n=some eR:=by obtain⟨B',F',pl',tb',q1,q2⟩:=gk;exact q2.le.2 _ _ (q1.f.2 _ _ lZ)
        have qQ:σ.n<σ4.n:=σ4.lt nL;unfold O1 at bY;split at bY
        ·rename_i l vs fN;obtain⟨rfl,bY⟩:=bY;have cM:GRel P B1 (Fr.upd σ.n eR) D0 ⟨l,s4.own,s4.nx⟩ vs σ4:=by
          obtain⟨B',F',pl',tb',q1,q2⟩:=gk;have:=q2.obj (2000000+n);rw[fN] at this;exact⟨B',F',pl',tb',q1,q2.bf,q2.le,this,q2.obj,q2.fresh,q2.sep,q2.free⟩
         have ln:∀ b,((Fr.upd σ.n eR).upd σ.n b).get σ.n=some b:=fun b=>Heap.get_upd_self _ _ (by show σ.n<Fr.n;rw[fh];omega);have p9:∀ b i,i≠σ.n→((Fr.upd σ.n eR).upd σ.n b).get i=F1.get i:=fun b i e=>by rw[Heap.get_upd_ne _ _ e,Heap.get_upd_ne _ _ e,jg i e]
         refine⟨nL,?_⟩;cases e with
         |normal =>
          obtain⟨d',pI,tn⟩:=bY;refine .inl ⟨rfl,d',tn,?_⟩;have:=(back (VU cM pI) rdy).base (B0:=B1) (F0:=Fr) (.refl _) ⟨Nat.le_refl _,fun i b hb=>?_⟩ fun i b k1 k2=>k2
          ·exact this
          ·by_cases e:i=σ.n
           ·subst e;rw[g_] at hb;rw[ln];exact hb
           ·rw[p9 _ _ e,←jg i e];exact hb
         |ret =>refine .inr ⟨rfl,_,_,Heap.get_upd_self _ _ qQ,.inl ⟨rfl,rfl⟩,hK _ _ _ _ bY (hU (ln _) (p9 _) (by show Fr.n=_;exact fh) (back cM _))⟩
         |exit id =>refine .inr ⟨rfl,_,_,Heap.get_upd_self _ _ qQ,.inr ⟨id,rfl,rfl⟩,hK _ _ _ _ bY (hU (ln _) (p9 _) (by show Fr.n=_;exact fh) (back cM _))⟩
         |_=>exact bY.elim
        ·exact bY.elim
       |_=>exact h7.elim
      ·
       obtain⟨B',F',pl',tb',q1,q2⟩:=tk;have hle:F'.Le (σ.push rdy):=q2.le.push rdy;have tq:F'.get σ.n=none:=F'.wf _ q2.le.1;have al:∀ d i,(Q9 (Z9 (List.length env) (A.st p d0) (A.own p d0)).own d).live=true→Oid (pl' d) i→i<σ.n:=fun d i h1 h2=>(q2.obj d).id_lt h1 h2;refine⟨B',F'.ins (σ.push rdy) σ.n hle.1,pl',tb',⟨q1.b,Heap.ins_ins q1.f _ _ _,fun i b k1 k2=>?_,q1.d.trans (Dead.push _ _)⟩,⟨q2.bf.trans (hle.ins _),hle.ins_le _,q2.env,fun d=>(q2.obj d).mono (.refl _) (fun _ _ h=>h) fun h1 i h2=>Heap.get_push_lt _ _ (al d i h1 h2),fun d i h1 h2=>?_,q2.sep,q2.free⟩⟩
       ·by_cases e:i=σ.n
        ·subst e;exact B'.wf _ q2.leB.1
        ·rw[jg i e] at k1;exact q1.x i b k1 k2
       ·rw[Heap.ins_ne _ _ _ (Nat.ne_of_lt (al d i h1 h2))];exact q2.fresh d i h1 h2
    ·exact h.elim
   ·exact h.elim
  ·exact h.elim
 |bad=>intro B0 F0 D0 n K s env σ ro Q bJ hR h hK;exact h.elim
 |ret=>intro B0 F0 D0 n K s env σ ro Q bJ hR h hK;exact hK _ _ _ _ h hR
 |exit id=>intro B0 F0 D0 n K s env σ ro Q bJ hR h hK;exact hK _ _ _ _ h hR
 |seq a b e_ eK =>
  intro B0 F0 D0 n K s env σ ro Q bJ hR h hK;refine e_ n _ s env σ ro _ bJ hR h fun e s' af σ' h1 h2=>?_;cases e with
  |normal=>exact eK n K s' af σ' ro Q bJ h2 h1 hK
  |_=>exact hK _ _ _ _ h1 h2
 |cond c a b e_ eK =>
  intro B0 F0 D0 n K s env σ ro Q bJ hR h hK;simp only[gwp] at h;split at h
  ·rename_i t ht;have ny:=hR;obtain⟨B,F,pl,tb,hB,hG⟩:=hR;have:=NH hG ht;simp only[vwp,this,FC];cases t with
   |true=>exact⟨fun _=>e_ n K s env σ ro Q bJ ny h hK,fun e=>by cases e⟩
   |false=>exact⟨(fun e=>by cases e),fun _=>eK n K s env σ ro Q bJ ny h hK⟩
  split at h
  ·rename_i t ht;obtain⟨B,F,pl,tb,hB,hG⟩:=hR;have:=Xk ht (hG.evs Gds.nil c);simp only[vwp,this,FC];split at h
   ·rename_i A hA;obtain⟨p,I,hF,hI⟩:=h;have fin:∀ e s' af σ',Q42 s.env.length A p I K e s'→GRel P B0 F0 D0 s' af σ'→Q e af σ':=fun e s' af σ' h1 h2=>by
     cases e with
     |normal =>obtain⟨d,h3,h4⟩:=h1;exact hK _ _ _ _ (hI d h4) (VN h2 h3)
     |_=>exact hK _ _ _ _ h1 h2
    exact⟨fun e=>e_ n _ s env σ ro Q bJ ⟨B,F,pl,tb,hB,hG⟩ (hF.1 e) fin,fun e=>eK n _ s env σ ro Q bJ ⟨B,F,pl,tb,hB,hG⟩ (hF.2 e) fin⟩
   exact⟨fun e=>e_ n K s env σ ro Q bJ ⟨B,F,pl,tb,hB,hG⟩ (h.1 e) hK,fun e=>eK n K s env σ ro Q bJ ⟨B,F,pl,tb,hB,hG⟩ (h.2 e) hK⟩
  ·exact h.elim
 |block id b ih =>
  intro B0 F0 D0 n K s env σ ro Q bJ hR h hK;refine ih id _ s env σ ro _ bJ hR h fun e s' af σ' h1 h2=>?_;cases e with
  |exit gC =>
   simp only[Fm] at h1;simp only[Ar];split
   ·rename_i e;rw[if_pos e] at h1;exact hK _ _ _ _ h1 h2
   ·rename_i e;rw[if_neg e] at h1;exact hK _ _ _ _ h1 h2
  |_=>exact hK _ _ _ _ h1 h2
 |loop b ih =>
  intro B0 F0 D0 n K s env σ ro Q bJ hR h hK;simp only[gwp] at h;split at h
  ·rename_i A hA;obtain⟨p,d0,h1,I,μ,h2,h3⟩:=h;have hlen:s.env.length=env.length:=by obtain⟨B,F,pl,tb,_,hG⟩:=hR;exact hG.env.length
   have hk:∀ d,(A.st p d).map (·.1)=A.sl:=fun d=>B_ _ _;refine⟨A.sl,fun m vs σ'=>∃ d,I d∧μ d=m∧GRel P B0 F0 D0 (Z9 s.env.length (A.st p d) (A.own p d)) (Xn A.sl vs (List.replicate env.length poison)) σ',μ d0,⟨d0,h2,rfl,?_⟩,fun m vs σ' ⟨d,h4,h5,h6⟩=>?_⟩
   ·have:=DS hR h1 s.env.length;rw[hk d0,hlen] at this;rw[hlen];exact this
   ·refine ih n _ _ _ σ' ro _ bJ h6 (h3 d h4) fun e s' af aC h7 h8=>?_;cases e with
    |normal =>
     simp only[Q2o] at h7;cases mZ:Z1d s'.own with
     |false=>rw[mZ] at h7;exact h7.elim
     |true =>
     rw[mZ] at h7;obtain⟨d',h9,bY,gk⟩:=h7;refine⟨μ d',by omega,d',bY,rfl,?_⟩;have:=DS h8 h9 s.env.length;rw[hk d',hlen] at this;rw[hlen];exact this
    |_=>exact hK _ _ _ _ h7 h8
  ·exact h.elim
end
end Go.V
namespace Go.V
open Go
def Ld (s:St):VResult→Option SV
 |.tmp t=>some (s.env.getD t .any)
 |.cell a agg size=>bif Nat.blt 0 size then Q12 s.own agg size (s.env.getD a .any) else none
def JR (s:St) (rs:List VResult):Option SV :=
 match rs with
 |[r]=>Ld s r
 |rs=>(rs.mapM (Ld s)).map .tup
def Q2j (mp:List (Nat×Option Nat)) (j:Nat) (a:Option Nat):Option (List (Nat×Option Nat)) :=
 if (Qv mp j).isSome then none else match a with
 |some x=>if mp.any fun p=>p.2==some x then none else some (mp++[(j,a)])
 |none=>some (mp++[(j,a)])
mutual
def Fs:SV→SV→List (Nat×Option Nat)→Option (List (Nat×Option Nat))
 |.lst j,v,mp=>match v with|.lst a=>Q2j mp j (some a)|.nilS=>Q2j mp j none|_=>none
 |.map j,v,mp=>match v with|.map a=>Q2j mp j (some a)|_=>none
 |.dd j w,v,mp=>match w with
  |.out=>(match v with
   |.dd a w'=>(match w' with|.out=>Q2j mp j (some a)|_=>none)
   |.nilS=>Q2j mp j none
   |_=>none)
  |_=>none
 |.box j _,v,mp=>match v with|.box a _=>Q2j mp j (some a)|_=>none
 |.agg l,v,mp=>match v with|.agg l'=>EV l l' mp|_=>none
 |.tup l,v,mp=>match v with|.tup l'=>EV l l' mp|_=>none
 |.any,_,mp=>some mp
 |.val _ _,_,mp=>some mp
 |.nilS,_,mp=>some mp
 |.nilP,_,mp=>some mp
 |.nilM,_,mp=>some mp
 |.nilF,_,mp=>some mp
 |.sub _ _ _ _,_,_|.elp _ _ _ _,_,_|.grd _ _,_,_|.cp _ _,_,_|.fn _ _ _,_,_|.rop _ _ _ _,_,_|.pf _ _ _ _,_,_|.bid _ _,_,_=>none
def EV:List SV→List SV→List (Nat×Option Nat)→Option (List (Nat×Option Nat))
 |[],_,mp=>some mp
 |s::ss,l,mp=>match l with
  |v::vs=>match Fs s v mp with|some mp=>EV ss vs mp|none=>none
  |[]=>none
end
def Q0i (s:St) (mp:List (Nat×Option Nat)):Nat→List OB→Prop
 |_,[]=>True
 |j,b::r=>Fk s mp j b∧Q0i s mp (j+1) r
def Kl (rs:List VResult) (v:SV) (bs:List OB):Exit→St→Prop:=fun e s =>
 let fin:=match JR s rs with
  |some r=>(match Fs v r [] with
   |some mp=>BB mp v r∧Q0i s mp 0 bs
   |none=>False)
  |none=>False
 match e with
 |.normal=>fin
 |.ret=>fin
 |_=>False
section
variable {P:Program}{B F:Heap}{pl:Nat→Value}{tb:Nat→Option Bool}{s:St}{env:Env}{σ:Heap}
theorem Pm (hG:Gam P B F pl tb s env σ) {r:VResult}{v:SV}(h:Ld s r=some v):∃ u,Ji env σ r=some u∧SR P B pl tb v u:=by
 cases r with
 |tmp t=>obtain rfl:=osj h;exact⟨_,rfl,hG.env.getD t undef⟩
 |cell a agg size =>
  simp only[Ld] at h;cases hb:Nat.blt 0 size with
  |false=>rw[hb] at h;cases h
  |true =>rw[hb] at h;obtain⟨i,o,c,e,wr,t,u,h1,h2,h3,h4⟩:=H0 hG.leB hG.obj (by simpa [Nat.blt_eq] using hb) h (hG.env.getD a undef);refine⟨u,?_,h4⟩;simp only[Ji,Q6,Q3,h1,h2,h3];rfl
theorem Jp (hG:Gam P B F pl tb s env σ) {rs:List VResult}{v:SV}(h:JR s rs=some v):∃ u,ZQ env σ rs=some u∧SR P B pl tb v u:=by
 have all:∀ (rs:List VResult) (l:List SV),rs.mapM (Ld s)=some l→∃ us,rs.mapM (Ji env σ)=some us∧SRs P B pl tb l us:=by
  intro rs;induction rs with
  |nil=>intro l h;simp at h;subst h;exact⟨[],rfl,rfl⟩
  |cons r rs ih =>
   intro l h;rw[List.mapM_cons] at h;cases h1:Ld s r with
   |none=>simp[h1] at h
   |some a =>
    cases h2:rs.mapM (Ld s) with
    |none=>simp[h1,h2] at h
    |some l' =>simp[h1,h2] at h;subst h;obtain⟨u,h3,h4⟩:=Pm hG h1;obtain⟨us,h5,h6⟩:=ih l' h2;exact⟨u::us,by rw[List.mapM_cons];simp[h3,h5],by simp only[SRs];exact⟨u,us,rfl,h4,h6⟩⟩
 have tup:(rs.mapM (Ld s)).map SV.tup=some v→∃ u,(rs.mapM (Ji env σ)).map (fun vs=>Value.tuple vs.toArray)=some u∧SR P B pl tb v u:=fun h=>by simp only[Option.map_eq_some_iff] at h;obtain⟨l,h1,rfl⟩:=h;obtain⟨us,h2,h3⟩:=all rs l h1;exact⟨.tuple us.toArray,by rw[h2];rfl,by simp only[SR];exact⟨us,rfl,h3⟩⟩
 match rs,h,tup with
 |[r],h,_=>exact Pm hG h
 |[],h,tup=>exact tup h
 |_::_::_,h,tup=>exact tup h
theorem NX {mp bZ:List (Nat×Option Nat)}{j:Nat}{a:Option Nat}(h:Q2j mp j a=some bZ) (hi:Inj mp):Inj bZ:=by
 unfold Q2j at h;split at h
 ·cases h
 ·split at h
  ·rename_i x;split at h
   ·cases h
   ·rename_i hc;obtain rfl:=osj h;have cM:∀ d,Qv mp d≠some (some x):=fun d hd=>by
     obtain⟨p,h1,h2,h3⟩:=Lw hd;exact hc (List.any_eq_true.2 ⟨p,h1,by rw[h3];simp⟩)
    intro t1 t2 a' h1 h2;rw[Ko] at h1 h2;split at h1
    ·rename_i y1 e1;split at h2
     ·rename_i y2 e2;obtain rfl:=osj h1;obtain rfl:=osj h2;exact hi t1 t2 a' e1 e2
     ·split at h2
      ·obtain rfl:=osj (osj h2);obtain rfl:=osj h1;exact absurd e1 (cM t1)
      ·cases h2
    ·split at h1
     ·obtain rfl:=osj (osj h1);split at h2
      ·rename_i y2 e2;obtain rfl:=osj h2;exact absurd e2 (cM t2)
      ·split at h2
       ·omega
       ·cases h2
     ·cases h1
  ·obtain rfl:=osj h;intro t1 t2 a' h1 h2;rw[Ko] at h1 h2;split at h1
   ·rename_i y1 e1;split at h2
    ·rename_i y2 e2;obtain rfl:=osj h1;obtain rfl:=osj h2;exact hi t1 t2 a' e1 e2
    ·split at h2<;>cases h2
   ·split at h1<;>cases h1
mutual
theorem CT:∀ (v r:SV) (mp bZ:List (Nat×Option Nat)),Fs v r mp=some bZ→Inj mp→Inj bZ
 |.lst j,r,mp,bZ,h,hi=>by
  simp only[Fs] at h;split at h
  ·exact NX h hi
  ·exact NX h hi
  ·cases h
 |.map j,r,mp,bZ,h,hi=>by
  simp only[Fs] at h;split at h
  ·exact NX h hi
  ·cases h
 |.dd j w,r,mp,bZ,h,hi=>by
  simp only[Fs] at h;split at h
  ·split at h
   ·split at h
    ·exact NX h hi
    ·cases h
   ·exact NX h hi
   ·cases h
  ·cases h
 |.box j _,r,mp,bZ,h,hi=>by
  simp only[Fs] at h;split at h
  ·exact NX h hi
  ·cases h
 |.agg l,r,mp,bZ,h,hi=>by
  simp only[Fs] at h;split at h
  ·exact Ph l _ mp bZ h hi
  ·cases h
 |.tup l,r,mp,bZ,h,hi=>by
  simp only[Fs] at h;split at h
  ·exact Ph l _ mp bZ h hi
  ·cases h
 |.any,r,mp,bZ,h,hi|.val _ _,r,mp,bZ,h,hi|.nilS,r,mp,bZ,h,hi|.nilP,r,mp,bZ,h,hi|.nilM,r,mp,bZ,h,hi|.nilF,r,mp,bZ,h,hi=>by simp only[Fs] at h;obtain rfl:=osj h;exact hi
 |.sub _ _ _ _,r,mp,bZ,h,hi|.elp _ _ _ _,r,mp,bZ,h,hi|.grd _ _,r,mp,bZ,h,hi|.cp _ _,r,mp,bZ,h,hi|.fn _ _ _,r,mp,bZ,h,hi|.rop _ _ _ _,r,mp,bZ,h,hi|.pf _ _ _ _,r,mp,bZ,h,hi|.bid _ _,r,mp,bZ,h,hi=>by cases h
theorem Ph:∀ (v r:List SV) (mp bZ:List (Nat×Option Nat)),EV v r mp=some bZ→Inj mp→Inj bZ
 |[],r,mp,bZ,h,hi=>by simp only[EV] at h;obtain rfl:=osj h;exact hi
 |s::ss,[],mp,bZ,h,hi=>by cases h
 |s::ss,r::rs,mp,bZ,h,hi=>by
  simp only[EV] at h;split at h
  ·rename_i qR h1;exact Ph ss rs qR bZ h (CT s r mp qR h1 hi)
  ·cases h
end
theorem LW {mp:List (Nat×Option Nat)}:∀ (bs:List OB) (n:Nat),Q0i s mp n bs→∀ j b,bs[j]?=some b→Fk s mp (n+j) b
 |[],n,_,j,b,hj=>by simp at hj
 |b0::r,n,h,j,b,hj=>by
  obtain⟨h1,h2⟩:=h;cases j with
  |zero=>simp at hj;subst hj;exact h1
  |succ j =>
   have:=LW r (n+1) h2 j b (by simpa using hj)
   rwa [Nat.add_assoc,Nat.add_comm 1 j] at this
mutual
theorem Aa {n:Nat}{π:Nat→Nat}:∀ (v:SV) (u:Value),v.ret 0=true→SR P B pl tb v u→Ren n π u u
 |.val k x,u,h,hs=>by
  simp only[SR] at hs;cases k with
  |i ik=>simp only[KC] at hs;obtain rfl:=(List.cons.inj hs).1;exact .plain _ rfl
  |bo=>simp only[KC] at hs;obtain rfl:=(List.cons.inj hs).1;exact .plain _ rfl
  |st=>simp only[KC] at hs;obtain rfl:=(List.cons.inj hs).1;exact .plain _ rfl
  |list k=>cases h
  |pair a b =>have h1:=KC.length hs;have h2:=a.size_pos;have h3:=b.size_pos;simp only[Kind.size,List.length_singleton] at h1;omega
 |.nilS,u,_,hs|.nilP,u,_,hs|.nilM,u,_,hs|.nilF,u,_,hs=>by simp only[SR] at hs;subst hs;exact .plain _ rfl
 |.lst j,u,h,_|.box j _,u,h,_|.map j,u,h,_=>by simp[SV.ret,Nat.blt_eq] at h
 |.dd j w,u,h,_=>by cases w<;>simp[SV.ret,Nat.blt_eq] at h
 |.agg l,u,h,hs=>by simp only[SR] at hs;obtain⟨cs,rfl,h2⟩:=hs;have:=BV (n:=n) (π:=π) l cs h h2;exact .agg _ _ rfl fun i h3 _=>this _ (by simp)
 |.tup l,u,h,hs=>by simp only[SR] at hs;obtain⟨cs,rfl,h2⟩:=hs;have:=BV (n:=n) (π:=π) l cs h h2;exact .tuple _ _ rfl fun i h3 _=>this _ (by simp)
 |.any,_,h,_|.bid _ _,_,h,_|.grd _ _,_,h,_|.sub _ _ _ _,_,h,_|.elp _ _ _ _,_,h,_|.rop _ _ _ _,_,h,_|.cp _ _,_,h,_|.fn _ _ _,_,h,_|.pf _ _ _ _,_,h,_=>by cases h
theorem BV {n:Nat}{π:Nat→Nat}:∀ (v:List SV) (u:List Value),SVs.ret 0 v=true→SRs P B pl tb v u→∀ x∈u,Ren n π x x
 |[],u,_,hs=>by simp only[SRs] at hs;subst hs;intro x hx;cases hx
 |s::ss,u,h,hs=>by
  simp only[SVs.ret,Bool.and_eq_true] at h;simp only[SRs] at hs;obtain⟨x,y,rfl,h1,h2⟩:=hs;intro z hz;rcases List.mem_cons.1 hz with rfl|hz
  ·exact Aa s z h.1 h1
  ·exact BV ss y h.2 h2 z hz
end
theorem En (exact:Bool) {σ0:Heap}{sf:St}{lq:Env}{σf:Heap}(hR:GRel P σ0 σ0 σ0 sf lq σf) {rs:List VResult}{v:SV}{bs:List OB}{e:Exit}(hv:v.ret bs.length=true) (hb:bs.all OB.ret=true) (h:Kl rs v bs e sf) (hx:exact=true→bs.all OB.isL=true∧KG v=true) :
  Z05 σ0 rs (fun u σ'=>if exact then u=KS (TZ σ0 bs) v∧σ'=Bz σ0 bs else Ret P σ0 v bs u σ') e lq σf:=by
 have main:(match JR sf rs with
  |some r=>(match Fs v r [] with
   |some mp=>BB mp v r∧Q0i sf mp 0 bs
   |none=>False)
  |none=>False)→QZ (ZQ lq σf rs) fun u=>∃ v' σ',DropTo σ0 u σf v' σ'∧(if exact then v'=KS (TZ σ0 bs) v∧σ'=Bz σ0 bs else Ret P σ0 v bs v' σ'):=fun h=>by
  split at h
  ·rename_i r hr;split at h
   ·rename_i mp lh;obtain⟨h1,h2⟩:=h;obtain⟨B,F,pl,tb,⟨hB,hF,_,hd⟩,hG⟩:=hR;obtain⟨u,h3,h4⟩:=Jp hG hr;have iB:=YF v r u h1 h4;have eI:=CT v r [] mp lh (fun t t' a h=>by cases h);have al:∀ j b,bs[j]?=some b→Fk sf mp j b:=fun j b hj=>by have:=LW bs 0 h2 j b hj;rwa [Nat.zero_add] at this
    rw[h3];have hle:σ0.Le σf:=hF.trans hG.le;have hA:Agree σ0 σf:=fun i hi=>by
     cases hg:σ0.get i with
     |none=>exact hd.2 i hi hg
     |some b=>exact hle.2 i b hg
    have aT:∀ j b,bs[j]?=some b→OR P hNil (UC pl mp) ZF σf (UC pl mp j) b∧∀ i,Oid (UC pl mp j) i→σ0.get i=none∧σ0.n≤i:=fun j b hj=>by
     obtain⟨k1,k2⟩:=QX hG (al j b hj);have dx:=List.all_eq_true.1 hb b (List.mem_of_getElem? hj);have ao:b.live=true:=by cases b<;>first|rfl|cases dx
     refine⟨k1.retd dx fun _ _=>rfl,fun i hi=>?_⟩;obtain⟨a,e1,e2,e3⟩:=k2 ao i hi;have l6:=hG.fresh a i e2 e3;have hn:σ0.get i=none:=by
      cases hg:σ0.get i with
      |none=>rfl
      |some b=>rw[hF.2 i b hg] at l6;cases l6
     refine⟨hn,Nat.le_of_not_lt fun ai=>?_⟩;have bU:=hd.2 i ai hn;have al:=hG.obj a;cases ho:Q9 sf.own a with
     |dead=>rw[ho] at e2;cases e2
     |lst ty k xs nl =>
      rw[ho] at al;rcases al with⟨_,_,h2⟩|⟨_,i',cap,c,t,h2,_,h3,_⟩
      ·rw[h2] at e3;cases e3
      ·rw[h2] at e3;obtain rfl:=osj e3;rw[h3] at bU;cases bU
     |cells l u=>rw[ho] at al;obtain⟨i',c,e,t,h2,h3,_⟩:=al;rw[h2] at e3;obtain rfl:=osj e3;rw[h3] at bU;cases bU
     |mapE kk vk m key n=>rw[ho] at al;obtain⟨i',es,cl,r,e,h2,h3,_⟩:=al;rw[h2] at e3;obtain rfl:=osj e3;rw[h3] at bU;cases bU
     |map kk vk m=>rw[ho] at al;obtain⟨i',es,cl,h2,h3,_⟩:=al;rw[h2] at e3;obtain rfl:=osj e3;rw[h3] at bU;cases bU
     |stk l vals=>rw[ho] at e2;cases e2
     |lpf l q s=>rw[ho] at al e2;obtain⟨h2,_,h3⟩:=al;rw[h2] at e3;obtain rfl:=osj e3;have h3:=h3 e2;rw[bU] at h3;cases h3
     |iter kk vk m dn=>rw[ho] at al;obtain⟨j',i',es,cl,wr,seen,h2,h3,_⟩:=al;rw[h2] at e3;obtain rfl:=osj e3;rw[h3] at bU;cases bU
     |deep ty q k xs nl hh =>rw[ho] at al;obtain⟨is,_,d2,d3,_⟩:=DP.open al;obtain⟨c,e,t,h⟩:=d2.cells i ((d3 i).1 e3);rw[h] at bU;cases bU
    have ff:∀ j j' i,j<bs.length→j'<bs.length→j≠j'→Oid (UC pl mp j) i→Oid (UC pl mp j') i→False:=fun j j' i hj dj aA hi cC=>by
     have bw:=List.getElem?_eq_getElem hj;have cu:=List.getElem?_eq_getElem dj;have r1:=List.all_eq_true.1 hb _ (List.getElem_mem hj);have r2:=List.all_eq_true.1 hb _ (List.getElem_mem dj);have l1:(bs[j]).live=true:=by cases og:bs[j]<;>first|rfl|(rw[og] at r1;cases r1)
     have l2:(bs[j']).live=true:=by cases og:bs[j']<;>first|rfl|(rw[og] at r2;cases r2)
     obtain⟨a,e1,e2,e3⟩:=(QX hG (al j _ bw)).2 l1 i hi;obtain⟨a',tu,lU,tv⟩:=(QX hG (al j' _ cu)).2 l2 i cC;by_cases e:a=a'
     ·subst e;exact aA (eI j j' a e1 tu)
     ·exact hG.sep a a' i e e2 lU e3 tv
    cases hex:exact with
    |true =>obtain⟨hl,cD⟩:=hx hex;have nP:=Em (P:=P) hA hle.1 hv cD hb hl (pl:=UC pl mp) (u:=u) (fun j b hj=>⟨(aT j b hj).1,fun i hi=>((aT j b hj).2 i (Dg hi)).2⟩) (fun j j' i a b c d e=>ff j j' i a b c (Dg d) (Dg e)) (iB.retd (fun j hj=>rfl) _ _ hv);exact⟨_,_,nP,by simp⟩
    |false =>
     simp only[Bool.false_eq_true,if_false];by_cases b6:bs=[]
     ·subst b6;refine⟨u,σ0,.rename (fun i=>i) (Nat.le_refl _) (fun i hi=>⟨rfl,(hA i hi).symm,.inl (hA i hi)⟩) (fun i k1 k2=>by omega) (fun _ _ _ _ _ _ h=>h) (Aa v u hv iB),?_⟩;exact⟨⟨Heap.Le.refl _,Dead.refl _⟩,fun _=>rfl,Jq,(fun j b hj=>by simp at hj),(fun j j' i hj=>by simp at hj),iB.retd (fun j hj=>by simp at hj) _ _ hv⟩
     ·exact⟨u,σf,.refl _ _ _,⟨hle,hd⟩,fun e=>absurd e b6,UC pl mp,aT,ff,iB.retd (fun j hj=>rfl) _ _ hv⟩
   ·exact h.elim
  ·exact h.elim
 cases e with
 |normal=>exact main h
 |ret=>exact main h
 |_=>exact h.elim
def QC (nt:Nat) (args:List SV):St:=⟨args++List.replicate (nt-args.length) .any,[],0⟩
theorem E6 {args:List SV}{vs:List Value}(h:SRs P σ Jq ZF args vs) (nt:Nat):GRel P σ σ σ (QC nt args) (vs++List.replicate (nt-vs.length) undef) σ:=by
 have tw:∀ n,SRs P σ Jq ZF (List.replicate n .any) (List.replicate n undef):=by
  intro n;induction n with
  |zero=>simp[SRs]
  |succ n ih=>simp only[List.replicate_succ,SRs];exact⟨_,_,rfl,by simp[SR],ih⟩
 refine⟨σ,σ,Jq,ZF,⟨Heap.Le.refl _,Heap.Le.refl _,(fun i b h1 h2=>by rw[h2] at h1;cases h1),Dead.refl _⟩,Heap.Le.refl _,Heap.Le.refl _,?_,fun d=>trivial,(fun d i hl=>by cases hl),(fun d d' i _ hl=>by cases hl),fun _ _=>rfl⟩;have:=h.length;simp only[QC,this];exact h.append (tw _)
theorem Fun.okC {f:Nat}{vc:VCode}{rs:List VResult}{nt:Nat}(h:Fun P f vc rs nt) (hm:P.follows .mixedOrders=true) {sp:CSp}
  (hb:∀ ap,I1 P ap→∀ args c v bs,sp ap args=some (c,v,bs)→c→∃ (C:Cx) (L:List (Nat×LoopAnn)) (cq:List SV),(∀ σ vs,SRs P σ Jq ZF args vs→SRs P σ Jq ZF cq vs)∧COk P C∧gwp C L vc 0 (Kl rs v bs) (QC nt cq)):OkC P f sp:=by
 intro ap dP σ args vs c v bs aw ep hv b6 hc;obtain⟨C,L,cq,h1,h2,h3⟩:=hb ap dP args c v bs ep hc;have main:∀ exact:Bool,(exact=true→bs.all OB.isL=true∧KG v=true)→VCalled P f vs σ fun u σ'=>if exact then u=KS (TZ σ bs) v∧σ'=Bz σ bs else Ret P σ v bs u σ':=fun exact hx=>by refine h.calls hm By ?_;exact Y_ h2 vc 0 _ _ _ σ none _ trivial (E6 (h1 σ vs aw) nt) h3 fun e s' af σ' k1 k2=>En exact k2 hv b6 k1 hx
 refine⟨(main false fun e=>by cases e).mono fun u σ' hr=>by simpa using hr,fun hl cD=>(main true fun _=>⟨hl,cD⟩).mono fun u σ' hr=>by simpa using hr⟩
theorem OkC.true {f:Nat}{sp:CSp}(h:OkC P f sp) (he:X6 P f) {σ:Heap}{args:List SV}{vs:List Value}(ha:SRs P σ Jq ZF args vs) {c:Prop}(hs:sp (fun _ _=>none) args=some (c,.val .bo true,[])) (hc:c) :
  VCallsTo P f vs σ fun v _=>v=.bool true:=by
 have:=(h (fun _ _=>none) (fun _ _ _ _ _ _ _ _ _ h=>by cases h) σ args vs c _ [] ha hs rfl rfl hc).1;intro ρ w ax hH hL;rcases this ρ w ax hH hL with⟨_,h2⟩|⟨c',_,h2⟩
 ·refine h2.mono fun e w' ⟨c',h3,h4⟩=>⟨c',h3,h4.mono fun u σ' hr=>?_⟩;have:=(hr.flat rfl).2;simpa only [SR,KC,List.cons.injEq,and_true] using this
 ·have:=h2 w (Like.refl ρ w);rw[Nd he ax w] at this;cases this
end
end Go.V
namespace Go.V
open Go
mutual
inductive AP:Type→Type 1 where
 |k (k:Kind):AP k.T
 |agg {D:Type}(l:AL D):AP D
 |ptr {D:Type}(l:AL D):AP D
 |fn (ks:List Kind) (r:Kind):AP ((AT ks→Prop)×(AT ks→r.T))
 |nilS:AP Unit
 |any:AP Unit
 |int (k:IntKind) (n:Int):AP Unit
inductive AL:Type→Type 1 where
 |nil:AL Unit
 |one {D:Type}(a:AP D):AL D
 |cons {D E:Type}(a:AP D) (r:AL E):AL (D×E)
end
def Sg:(ks:List Kind)→AT ks→List SV
 |[],_=>[]
 |[k],x=>[FQ k x]
 |k::k'::ks,x=>FQ k x.1::Sg (k'::ks) x.2
abbrev Ap:=SV→List SV→Option (Prop×SV)
def OS (ap:Ap) (f:SV) (ks:List Kind) (r:Kind) (x:AT ks):Prop:=match ap f (Sg ks x) with
 |some (c,v)=>(match gap.asV r v with|some _=>c|none=>False)
 |none=>False
def fnP (ap:Ap) (f:SV) (ks:List Kind) (r:Kind) (x:AT ks):r.T:=match ap f (Sg ks x) with
 |some (_,v)=>(match gap.asV r v with|some y=>y|none=>r.dflt)
 |none=>r.dflt
mutual
def AP.dec (ap:Ap):{D:Type}→(p:AP D)→SV→Option D
 |_,.k k,v=>match k with
  |.list k=>view [] k v
  |.i ik=>Pq (.i ik) [v]
  |.bo=>Pq .bo [v]
  |.st=>Pq .st [v]
  |.pair _ _=>none
 |_,.agg l,v=>match v with|.agg vs=>AL.dec ap l vs|_=>none
 |_,.nilS,v=>match v with|.nilS=>some ()|_=>none
 |_,.any,_=>some ()
 |_,.int k n,v=>match Pq (.i k) [v] with|some x=>if (show Int from x)=n then some () else none|none=>none
 |_,.ptr l,v=>match v with|.cp vs 0=>AL.dec ap l vs|_=>none
 |_,.fn ks r,v=>match v with
  |.fn g a b=>some (OS ap (.fn g a b) ks r,fnP ap (.fn g a b) ks r)
  |.pf qS r' cO p=>some (OS ap (.pf qS r' cO p) ks r,fnP ap (.pf qS r' cO p) ks r)
  |_=>none
def AL.dec (ap:Ap):{D:Type}→(l:AL D)→List SV→Option D
 |_,.nil,vs=>match vs with|[]=>some ()|_=>none
 |_,.one a,vs=>match vs with|[v]=>AP.dec ap a v|_=>none
 |_,.cons a r,vs=>match vs with
  |v::vs=>(match AP.dec ap a v,AL.dec ap r vs with|some x,some y=>some (x,y)|_,_=>none)
  |[]=>none
end
mutual
def AP.can:{D:Type}→(p:AP D)→D→SV
 |_,.k k,x=>.val k x
 |_,.agg l,x=>.agg (AL.can l x)
 |_,.nilS,_=>.nilS
 |_,.any,_=>.any
 |_,.int k n,_=>.val (.i k) n
 |_,.ptr l,x=>.cp (AL.can l x) 0
 |_,.fn ks r,x=>.pf ks r x.1 x.2
def AL.can:{D:Type}→(l:AL D)→D→List SV
 |_,.nil,_=>[]
 |_,.one a,x=>[AP.can a x]
 |_,.cons a r,x=>AP.can a x.1::AL.can r x.2
end
def YP {D:Type}(l:AL D) (pre:D→Prop) (res:D→SV) (obs:D→List OB):CSp:=fun ap args=>match AL.dec ap l args with
 |some d=>some (pre d,res d,obs d)
 |none=>none
section
variable {P:Program}{σ:Heap}
theorem MP:∀ {ks:List Kind}{x:AT ks}{vs:List Value},TR σ ks x vs→SRs P σ Jq ZF (Sg ks x) vs
 |[],x,vs,h=>by simp only[TR] at h;subst h;simp[Sg,SRs]
 |[k],x,vs,h=>by obtain⟨v,rfl,h1⟩:=h;simp only[Sg,SRs];exact⟨v,[],rfl,JY h1,rfl⟩
 |k::k'::ks,x,vs,h=>by obtain⟨v,cJ,rfl,h1,h2⟩:=h;simp only[Sg,SRs];exact⟨v,cJ,rfl,JY h1,MP h2⟩
theorem AH {ap:Ap}(dP:I1 P ap) {f:SV}{v:Value}(hf:SR P σ Jq ZF f v) (hv:∃ g a b,v=.func (.func g) a b) (ks:List Kind) (r:Kind):SR P σ Jq ZF (.pf ks r (OS ap f ks r) (fnP ap f ks r)) v:=by
 obtain⟨g,a,b,rfl⟩:=hv;simp only[SR];refine⟨g,a,b,rfl,fun x hd τ vs hle cB=>?_⟩;unfold OS at hd;split at hd
 ·rename_i c u nQ;split at hd
  ·rename_i y hy;obtain⟨h1,g',a',b',h2,h3⟩:=dP τ f (Sg ks x) c u (.func (.func g) a b) vs (SR.mono hle (fun _ _ h=>h) _ _ hf) (MP cB) nQ hd;obtain⟨rfl,rfl,rfl⟩:=(by simpa using h2:g=g'∧a=a'∧b=b');have hp:fnP ap f ks r x=y:=by simp[fnP,nQ,hy]
   rw[hp];exact h3.mono fun u' σ' hu=>⟨hu.1,(HE hy hu.2).vcall (A8 _)⟩
  ·exact hd.elim
 ·exact hd.elim
mutual
theorem AP.dec_sound {ap:Ap}(dP:I1 P ap):∀ {D:Type}(p:AP D) {v:SV}{x:D}{u:Value},AP.dec ap p v=some x→SR P σ Jq ZF v u→SR P σ Jq ZF (AP.can p x) u
 |_,.k k,v,x,u,h,hs=>by
  have one:SRs P σ Jq ZF [v] [u]:=by simp only[SRs];exact⟨u,[],rfl,hs,rfl⟩
  simp only[AP.can,SR];cases k with
  |list k =>have:=V2 (own:=[]) (Heap.Le.refl σ) (fun d=>(trivial:OR P σ Jq ZF σ (Jq d) .dead)) (show view [] k v=some x from h) hs;exact⟨u,rfl,this⟩
  |i ik=>exact QF (k:=.i ik) h one
  |bo=>exact QF (k:=.bo) h one
  |st=>exact QF (k:=.st) h one
  |pair a b=>cases h
 |_,.agg l,v,x,u,h,hs=>by
  simp only[AP.dec] at h;split at h
  ·simp only[SR] at hs;obtain⟨cs,rfl,hs⟩:=hs;simp only[AP.can,SR];exact⟨cs,rfl,AL.dec_sound dP l h hs⟩
  ·cases h
 |_,.any,v,x,u,h,hs=>by simp only[AP.can,SR]
 |_,.int k n,v,x,u,h,hs=>by
  have one:SRs P σ Jq ZF [v] [u]:=by simp only[SRs];exact⟨u,[],rfl,hs,rfl⟩
  simp only[AP.dec] at h;split at h
  ·rename_i y hy;split at h
   ·rename_i e;subst e;simp only[AP.can,SR];exact QF (k:=.i k) hy one
   ·cases h
  ·cases h
 |_,.nilS,v,x,u,h,hs=>by
  simp only[AP.dec] at h;split at h
  ·simp only[AP.can];exact hs
  ·cases h
 |_,.ptr l,v,x,u,h,hs=>by
  simp only[AP.dec] at h;split at h
  ·simp only[SR] at hs;obtain⟨b,c,e,wr,t,h1,rfl,h3⟩:=hs;simp only[AP.can,SR];exact⟨b,c,e,wr,t,h1,rfl,AL.dec_sound dP l h h3⟩
  ·cases h
 |_,.fn ks r,v,x,u,h,hs=>by
  simp only[AP.dec] at h;split at h
  ·obtain rfl:=osj h;exact AH dP hs (by simp only[SR] at hs;obtain⟨x,y,rfl,_⟩:=hs;exact⟨_,_,_,rfl⟩) ks r
  ·obtain rfl:=osj h;exact AH dP hs (by simp only[SR] at hs;obtain⟨g,x,y,rfl,_⟩:=hs;exact⟨_,_,_,rfl⟩) ks r
  ·cases h
theorem AL.dec_sound {ap:Ap}(dP:I1 P ap):∀ {D:Type}(l:AL D) {vs:List SV}{x:D}{us:List Value},AL.dec ap l vs=some x→SRs P σ Jq ZF vs us→SRs P σ Jq ZF (AL.can l x) us
 |_,.nil,vs,x,us,h,hs=>by
  simp only[AL.dec] at h;split at h
  ·exact hs
  ·cases h
 |_,.one a,vs,x,us,h,hs=>by
  simp only[AL.dec] at h;split at h
  ·obtain⟨u,rfl,h1⟩:=hs.one;simp only[AL.can,SRs];exact⟨u,[],rfl,AP.dec_sound dP a h h1,rfl⟩
  ·cases h
 |_,.cons a r,vs,x,us,h,hs=>by
  simp only[AL.dec] at h;split at h
  ·rename_i v cJ;split at h
   ·rename_i y z h1 h2;obtain rfl:=osj h;simp only[SRs] at hs;obtain⟨u,iz,rfl,h3,h4⟩:=hs;simp only[AL.can,SRs];exact⟨u,iz,rfl,AP.dec_sound dP a h1 h3,AL.dec_sound dP r h2 h4⟩
   ·cases h
  ·cases h
end
theorem CsOk.nil:CsOk P []:=fun f sp h=>by cases h
theorem CsOk.cons {f:Nat}{sp:CSp}{cs:List (Nat×CSp)}(h:OkC P f sp) (t:CsOk P cs):CsOk P ((f,sp)::cs):=fun g tx hg=>by
 simp only[Qv] at hg;cases hb:Nat.beq f g with
 |true=>rw[hb] at hg;obtain rfl:=Nat.eq_of_beq_eq_true hb;obtain rfl:=osj hg;exact h
 |false=>rw[hb] at hg;exact t g tx hg
theorem Q7q {f:Nat}{vc:VCode}{rs:List VResult}{nt:Nat}(h:Fun P f vc rs nt) (hm:P.follows .mixedOrders=true) {D:Type}{l:AL D}{pre:D→Prop}{res:D→SV}{obs:D→List OB}
  {C:Cx}(az:COk P C) (L:D→List (Nat×LoopAnn)) (hb:∀ d,pre d→gwp C (L d) vc 0 (Kl rs (res d) (obs d)) (QC nt (AL.can l d))):OkC P f (YP l pre res obs):=by
 refine h.okC hm fun ap dP args c v bs hs hc=>?_;unfold YP at hs;split at hs
 ·rename_i d hd;obtain⟨rfl,rfl,rfl⟩:=(by simpa using hs:pre d=c∧res d=v∧obs d=bs);exact⟨C,L d,AL.can l d,fun σ vs hv=>AL.dec_sound dP l hd hv,az,hb d hc⟩
 ·cases hs
theorem QP {f:Nat}{vc:VCode}{rs:List VResult}{nt:Nat}(h:Fun P f vc rs nt) (hm:P.follows .mixedOrders=true) {D:Type}{l:AL D}{pre:D→Prop}{res:D→SV}{obs:D→List OB}
  {C:Cx}(az:COk P C) {L:D→List (Nat×LoopAnn)}{V:D→Prop}(hq:∀ d,gwp C (L d) vc 0 (Kl rs (res d) (obs d)) (QC nt (AL.can l d))=V d) (hb:∀ d,pre d→V d):OkC P f (YP l pre res obs) :=
 Q7q h hm az L fun d hp=>(hq d).mpr (hb d hp)
end
end Go.V
namespace Go.V
open Go
def Z2f (key:Nat) (vals:List Value) (rs:List VResult) (K:SV→St→Prop):Exit→St→Prop:=fun e s =>
 let fin:=match JR s rs,Q9 s.own key with
  |some r,.stk l vs=>vs=vals∧K r ⟨l,s.own,s.nx⟩
  |_,_=>False
 match e with
 |.normal=>fin
 |.ret=>fin
 |_=>False
def Q44 (C:Cx) (L:List Value→List (Nat×LoopAnn)) (vc:VCode) (rs:List VResult) (nt:Nat):XSp:=fun d args s K =>
 ∀ vals,gwp {C with off:=100000*(d+1)} (L vals) vc 0 (Z2f (100000*(d+1)-1) vals rs K) ⟨SVs.kill (100000*(d+1)-1) args++List.replicate (nt-args.length) .any,(C4 (100000*(d+1)-1) vals s).own,s.nx⟩
def Z3v (C:Cx) (L:List (Nat×LoopAnn)) (vc:VCode) (nt:Nat):Q6h:=fun o args y s K =>
 gwp {C with off:=100000*(o+1),yl:=[y]} L vc 0 (fun e s'=>match e with|.normal=>K s'|.ret=>K s'|_=>False) ⟨args++List.replicate (nt-args.length) .any,s.own,s.nx⟩
section
variable {P:Program}
theorem MN {B:Heap}{pl:Nat→Value}{tb:Nat→Option Bool}:∀ n,SRs P B pl tb (List.replicate n .any) (List.replicate n undef)
 |0=>by simp[SRs]
 |n+1=>by simp only[List.replicate_succ,SRs];exact⟨_,_,rfl,by simp[SR],MN n⟩
theorem Dk {f:Nat}{vc:VCode}{rs:List VResult}{nt:Nat}(h:Fun P f vc rs nt) (hm:P.follows .mixedOrders=true) {C:Cx}(az:COk P C) (L:List Value→List (Nat×LoopAnn)):XOk P f (Q44 C L vc rs nt):=by
 intro B F pl tb s env σ d args vs K R hG ha hx hK;have hx:=hx env;refine h.calls hm By ?_;have q3:Gam P B F (Jo pl (100000*(d+1)-1) poison) tb (C4 (100000*(d+1)-1) env s) env σ:=by refine hG.make _ _ poison hG.le (fun _ _ _ _ _=>rfl) ?_ (fun i hl _=>by cases hl);exact SRs.upd (.refl _) (fun _ _ h=>h) (fun j hj=>by simp[Jo,hj]) _ _ hG.env
 have eL:COk P {C with off:=100000*(d+1)}:=⟨az.cs,az.xs,az.it,az.yl,az.iy,az.xf⟩;have aw:=SRs.upd (P:=P) (Heap.Le.refl B) (fun _ _ h=>h) (pl':=Jo pl (100000*(d+1)-1) poison) (tb':=tb) (o:=100000*(d+1)-1) (fun j hj=>by simp[Jo,hj]) _ _ ha;have bc:GRel P B F σ ⟨SVs.kill (100000*(d+1)-1) args++List.replicate (nt-args.length) .any,(C4 (100000*(d+1)-1) env s).own,s.nx⟩ (vs++List.replicate (nt-vs.length) undef) σ:=by refine⟨B,F,_,tb,.of hG.bf (.refl _),⟨q3.bf,q3.le,?_,q3.obj,q3.fresh,q3.sep,q3.free⟩⟩;rw[ha.length];exact aw.append (MN _)
 refine Y_ eL vc 0 _ _ _ σ none _ trivial bc hx fun e s' af σ' h1 h2=>?_
 ·have main:(match JR s' rs,Q9 s'.own (100000*(d+1)-1) with
   |some r,.stk l vs=>vs=env∧K r ⟨l,s'.own,s'.nx⟩
   |_,_=>False)→QZ (ZQ af σ' rs) fun v=>∃ v' aC,DropTo σ v σ' v' aC∧R v' aC:=fun h=>by
   obtain⟨B',F',pl',tb',k1,k2⟩:=h2;split at h
   ·rename_i r l cJ hr fN;obtain⟨rfl,h⟩:=h;obtain⟨u,h3,h4⟩:=Jp k2 hr;rw[h3];have al:=k2.obj (100000*(d+1)-1);rw[fN] at al;exact⟨u,σ',.refl _ _ _,hK r _ B' F' pl' tb' u σ' h k1 ⟨k2.bf,k2.le,al,k2.obj,k2.fresh,k2.sep,k2.free⟩ h4⟩
   ·exact h.elim
  cases e with
  |normal=>exact main h1
  |ret=>exact main h1
  |_=>exact h1.elim
theorem Q4q {f:Nat}{vc:VCode}{nt:Nat}(h:Fun P f vc [] nt) (hm:P.follows .mixedOrders=true) {C:Cx}(az:COk P C) (L:List (Nat×LoopAnn)):Q6d P f (Z3v C L vc nt):=by
 refine⟨h.enterable,fun B F pl tb s env σ o args vs y K R hG ha hy hx hK=>h.callsTo hm By ?_⟩;have eL:COk P {C with off:=100000*(o+1),yl:=[(o,y)]}:=⟨az.cs,az.xs,az.it,fun o' y' h'=>by
  simp only[Qv] at h';cases hb:Nat.beq o o' with
  |true=>rw[hb] at h';obtain rfl:=Nat.eq_of_beq_eq_true hb;obtain rfl:=osj h';exact hy
  |false=>rw[hb] at h';exact(by cases h'),az.iy,az.xf⟩
 have bc:GRel P B F σ ⟨args++List.replicate (nt-args.length) .any,s.own,s.nx⟩ (vs++List.replicate (nt-vs.length) undef) σ:=by refine⟨B,F,pl,tb,.of hG.bf (Dead.refl _),⟨hG.bf,hG.le,?_,hG.obj,hG.fresh,hG.sep,hG.free⟩⟩;rw[ha.length];exact ha.append (MN _)
 refine Y_ eL vc 0 _ _ _ σ none _ trivial bc hx fun e s' af σ' h1 h2=>?_;have main:K s'→QZ (ZQ af σ' []) fun v=>∃ v' aC,DropTo σ v σ' v' aC∧R aC:=fun h=>by obtain⟨B',F',pl',tb',k1,k2⟩:=h2;exact⟨_,σ',.refl _ _ _,hK s' B' F' pl' tb' af σ' h k1 k2⟩
 cases e with
 |normal=>exact main h1
 |ret=>exact main h1
 |_=>exact h1.elim
end
end Go.V
namespace Go.V
open Go
def Z2l:SV→Option Nat
 |.lst o=>some o
 |.box o off=>bif Nat.beq off 0 then some o else none
 |_=>none
def lsv:OB→SV
 |.lst _ _ _ _=>.lst 0
 |_=>.box 0 0
def Q9w:SV→OB→Bool
 |.lst _,.lst _ _ _ _=>true
 |.box _ _,.cells _ _=>true
 |_,_=>false
abbrev LSp:=Ap→OB→List SV→Option (Prop×SV×OB)
def Ef (ap:Ap) (sp:LSp):XSp:=fun _ args s K =>
 match args with
 |a::args=>(match Z2l a with
  |some o=>bif (Q9 s.own o).ret&&Q9w a (Q9 s.own o) then (match sp ap (Q9 s.own o) (BG (oset s.own o .dead) args) with
    |some (c,v,b)=>bif v.ret 0&&b.ret then c∧K v ⟨s.env,oset s.own o b,s.nx⟩ else False
    |none=>False) else False
  |none=>False)
 |[]=>False
def Ns (nt:Nat) (a0:SV) (b:OB) (vals:List Value) (args:List SV):St:=⟨a0::(args++List.replicate (nt-(args.length+1)) .any),[(0,b),(4000000,.stk [a0] vals)],0⟩
def Iv (vals:List Value) (rs:List VResult) (v:SV) (b:OB) (a0:SV):Exit→St→Prop:=fun e s =>
 let fin:=match JR s rs,Q9 s.own 4000000 with
  |some r,.stk l vs=>vs=vals∧V7 [(0,some 0)] [a0] l∧BB [] v r∧Fk s [(0,some 0)] 0 b
  |_,_=>False
 match e with
 |.normal=>fin
 |.ret=>fin
 |_=>False
section
variable {P:Program}
theorem Heap.Le.kill' {B σ:Heap}(h:B.Le σ) {i:Nat}(hi:B.get i=none):B.Le (σ.kill i):=⟨h.1,fun j b hb=>by
 have:j≠i:=by rintro rfl;rw[hi] at hb;cases hb
 rw[Heap.get_kill_ne _ this];exact h.2 _ _ hb⟩
theorem Heap.kill_le (σ:Heap) (i:Nat):(σ.kill i).Le σ:=⟨Nat.le_refl _,fun j b hb=>by
 by_cases e:j=i
 ·subst e;rw[Heap.get_kill_self] at hb;cases hb
 ·rwa [Heap.get_kill_ne _ e] at hb⟩
def Rr (σ:Heap) (p:Value):Heap:=match oid p with|some i=>σ.kill i|none=>σ
theorem Q0l (σ:Heap) (p:Value):(Rr σ p).Le σ:=by
 unfold Rr;split
 ·exact Heap.kill_le _ _
 ·exact .refl _
theorem Ac {B σ:Heap}{p:Value}(h:B.Le σ) (hi:∀ i,oid p=some i→B.get i=none):B.Le (Rr σ p):=by
 unfold Rr;split
 ·rename_i i e;exact h.kill' (hi i e)
 ·exact h
theorem Eo {σ:Heap}{p:Value}{i:Nat}(h:oid p=some i):(Rr σ p).get i=none:=by unfold Rr;rw[h];exact Heap.get_kill_self _ _
theorem LI {σ:Heap}{p:Value}{i:Nat}(h:oid p≠some i):(Rr σ p).get i=σ.get i:=by
 unfold Rr;split
 ·rename_i j e;exact Heap.get_kill_ne _ (by rintro rfl;exact h e)
 ·rfl
theorem Q58 {p:Value}{i:Nat}(hp:∀ l,p≠.tuple l) (h:Oid p i):oid p=some i:=by cases p<;>first|exact h|exact absurd rfl (hp _)
theorem OB.ret_live {b:OB}(h:b.ret=true):b.live=true:=by cases b<;>first|rfl|cases h
theorem OH {o:Nat}{b:OB}(h:Q9w (.lst o) b=true):lsv b=.lst 0:=by cases b<;>first|rfl|cases h
theorem Q07 {o off:Nat}{b:OB}(h:Q9w (.box o off) b=true):lsv b=.box 0 0:=by cases b<;>first|rfl|cases h
theorem OX {f:Nat}{vc:VCode}{rs:List VResult}{nt:Nat}(h:Fun P f vc rs nt) (hm:P.follows .mixedOrders=true) {sp:LSp}{ap:Ap}
  (hb:∀ b args c v b',sp ap b args=some (c,v,b')→c→∃ (C:Cx) (L:List Value→List (Nat×LoopAnn)) (cq:List SV),SVs.pure cq=true∧(∀ σ vs,SRs P σ Jq ZF args vs→SRs P σ Jq ZF cq vs)∧COk P C∧∀ vals,gwp C (L vals) vc 0 (Iv vals rs v b' (lsv b)) (Ns nt (lsv b) b vals cq)):XOk P f (Ef ap sp):=by
 intro B F pl tb s env σ d args vs K R hG ha hx hK;unfold Ef at hx;split at hx
 ·rename_i a args;split at hx
  ·rename_i o aS;cases kX:((Q9 s.own o).ret&&Q9w a (Q9 s.own o)) with
   |false=>rw[kX] at hx;exact hx.elim
   |true =>
   rw[kX] at hx;simp only[_root_.cond_true] at hx;simp only[Bool.and_eq_true] at kX;obtain⟨lY,eZ⟩:=kX;split at hx
   ·rename_i c v b' ep;cases cE:(v.ret 0&&b'.ret) with
    |false=>rw[cE] at hx;exact hx.elim
    |true =>
    rw[cE] at hx;obtain⟨hc,hx⟩:=hx;simp only[Bool.and_eq_true] at cE;simp only[SRs] at ha;obtain⟨u,us,rfl,jZ,dS⟩:=ha;have ao:=OB.ret_live lY;have al:=hG.obj o;have bj:∀ i,oid (pl o)=some i→F.get i=none:=fun i hi=>hG.fresh o i ao (Dg hi);have lr:∀ i,oid (pl o)=some i→B.get i=none:=fun i hi=>by
     cases hg:B.get i with
     |none=>rfl
     |some b=>have:=hG.bf.2 _ _ hg;rw[bj i hi] at this;cases this
    have dC:∀ l,pl o≠.tuple l:=fun l he=>by
     unfold Z2l at aS;split at aS
     ·obtain rfl:=osj aS;simp only[SR] at jZ;obtain⟨rfl,_,_,_,hs⟩:=jZ;rw[he] at hs;cases hs
     ·rename_i o' off;cases bn:Nat.beq off 0 with
      |false=>rw[bn] at aS;cases aS
      |true =>rw[bn] at aS;obtain rfl:=osj aS;simp only[SR] at jZ;obtain⟨_,h,_⟩:=jZ;rw[he] at h;cases h
     ·cases aS
    have lu:∀ (B:Heap) (pl':Nat→Value) (tb':Nat→Option Bool),(SR P B pl' tb' (lsv (Q9 s.own o)) u↔pl' 0=pl o):=fun B pl' tb'=>by
     unfold Z2l at aS;split at aS
     ·obtain rfl:=osj aS;simp only[SR] at jZ;rw[OH eZ];simp only[SR];obtain⟨rfl,hs⟩:=jZ;exact⟨fun h=>h.1.symm,fun h=>⟨h.symm,hs⟩⟩
     ·rename_i o' off;cases bn:Nat.beq off 0 with
      |false=>rw[bn] at aS;cases aS
      |true =>
       rw[bn] at aS;obtain rfl:=osj aS;obtain rfl:=Nat.eq_of_beq_eq_true bn;simp only[SR] at jZ;rw[Q07 eZ];simp only[SR];obtain⟨i,h1,rfl⟩:=jZ;rw[h1];constructor
       ·rintro⟨i',h2,h3⟩;rw[h2];simpa using h3.symm
       ·intro h2;exact⟨i,h2,rfl⟩
     ·cases aS
    obtain⟨C,L,cq,nR,p_,az,hg⟩:=hb _ _ c v b' ep hc;have hg:=hg [u];let σc:=Rr σ (pl o);have oC:B.Le σc:=Ac hG.leB lr;have qa:F.Le σc:=Ac hG.le bj;have aw:SRs P σc Jq ZF cq us:=by
     refine p_ σc us (XC (own:=oset s.own o .dead) oC (pl:=pl) (tb:=tb) (fun d=>?_) dS);rw[Qh];by_cases e:d=o
     ·rw[if_pos e];trivial
     ·rw[if_neg e];exact(hG.obj d).mono (.refl _) (fun _ _ h=>h) fun hl i hi=>LI fun iV=>hG.sep d o i e hl ao hi (Dg iV)
    let iC:Nat→Value:=fun j=>if j=0 then pl o else poison
    have bc:GRel P σc σc σ (Ns nt (lsv (Q9 s.own o)) (Q9 s.own o) [u] cq) (u::us++List.replicate (nt-(u::us).length) undef) σ:=by
     refine⟨σc,σc,iC,ZF,⟨.refl _,.refl _,fun _ _ _ h=>h,.refl _⟩,.refl _,Q0l _ _,?_,fun j=>?_,fun j i h1 h2=>?_,fun j j' i aA h1 h2 h3 h4=>?_,fun _ _=>rfl⟩
     ·simp only[Ns,SRs,List.cons_append];refine⟨u,_,rfl,(lu _ _ _).2 (by simp[iC]),?_⟩;rw[aw.length,List.length_cons];refine SRs.append ?_ (MN _);exact Z1 _ _ nR aw
     ·simp only[Ns,Q9];by_cases e0:j=0
      ·subst e0;simp only[Nat.beq_refl,_root_.cond_true];exact al.retd lY fun i _=>rfl
      ·rw[Zl (fun e=>e0 e.symm),cond_false];by_cases e1:j=4000000
       ·subst e1;simp only[Nat.beq_refl,_root_.cond_true];exact⟨u,[],rfl,(lu _ _ _).2 (by simp[iC]),rfl⟩
       ·rw[Zl (fun e=>e1 e.symm),cond_false];trivial
     ·simp only[Ns,Q9] at h1;by_cases e0:j=0
      ·subst e0;exact Eo (Q58 dC h2)
      ·rw[Zl (fun e=>e0 e.symm),cond_false] at h1;by_cases e1:j=4000000
       ·subst e1;cases h1
       ·rw[Zl (fun e=>e1 e.symm),cond_false] at h1;cases h1
     ·have z:∀ j,(Q9 (Ns nt (lsv (Q9 s.own o)) (Q9 s.own o) [u] cq).own j).live=true→j=0:=fun j h1=>by
       simp only[Ns,Q9] at h1;by_cases e0:j=0
       ·exact e0
       ·rw[Zl (fun e=>e0 e.symm),cond_false] at h1;by_cases e1:j=4000000
        ·subst e1;cases h1
        ·rw[Zl (fun e=>e1 e.symm),cond_false] at h1;cases h1
      exact aA ((z j h1).trans (z j' h2).symm)
    refine h.calls hm By ?_;refine Y_ az vc 0 _ _ _ σ none _ trivial bc hg fun e s' af σ' h1 h2=>?_
    have main:(match JR s' rs,Q9 s'.own 4000000 with
     |some r,.stk l vs=>vs=[u]∧V7 [(0,some 0)] [lsv (Q9 s.own o)] l∧BB [] v r∧Fk s' [(0,some 0)] 0 b'
     |_,_=>False)→QZ (ZQ af σ' rs) fun v=>∃ v' aC,DropTo σ v σ' v' aC∧R v' aC:=fun h=>by
     obtain⟨B',F',pl',tb',k1,k2⟩:=h2;split at h
     ·rename_i r l cJ hr fN;obtain⟨rfl,m1,m2,m3⟩:=h;obtain⟨w,h3,h4⟩:=Jp k2 hr;rw[h3];have fj:=k2.obj 4000000;rw[fN] at fj;have lx:pl' 0=pl o:=by
       have:=Z2 [lsv (Q9 s.own o)] l [u] m1 fj;simp only[SRs] at this;obtain⟨u',_,b_,h5,_⟩:=this;obtain rfl:u=u':=(List.cons.inj b_).1;have:=(lu _ _ _).1 h5;simpa [UC,Qv] using this
      have hZ:=(QX k2 m3).1;have lh:UC pl' [(0,some 0)] 0=pl o:=by simpa [UC,Qv] using lx
      rw[lh] at hZ;have cX:=(YF v r w m2 h4).retd (B':=B) (pl':=pl) (tb':=tb) (n:=0) (fun j hj=>by omega) _ _ cE.1;have hle:σc.Le σ':=k1.f.trans k2.le;refine⟨w,σ',.refl _ _ _,hK v _ B F pl tb w σ' hx (.of hG.bf k1.d) ⟨hG.bf,qa.trans hle,hG.env,fun d=>?_,fun d i q1 q2=>?_,fun d d' i aA q1 q2 q3 q4=>?_,hG.free⟩ cX⟩
      ·simp only[Qh];by_cases e:d=o
       ·subst e;rw[if_pos rfl];exact hZ.retd cE.2 fun _ _=>rfl
       ·rw[if_neg e];refine (hG.obj d).mono (.refl _) (fun _ _ h=>h) fun hl i hi=>?_;have ai:=(hG.obj d).id_lt hl hi;cases hg:σ.get i with
        |none=>exact k1.d.2 i ai hg
        |some bb=>exact hle.2 _ _ (by rw[LI fun iV=>hG.sep d o i e hl ao hi (Dg iV)];exact hg)
      ·simp only[Qh] at q1;by_cases e:d=o
       ·subst e;exact hG.fresh d i ao q2
       ·rw[if_neg e] at q1;exact hG.fresh d i q1 q2
      ·have lv:∀ d,(Q9 (oset s.own o b') d).live=true→(Q9 s.own d).live=true:=fun d h=>by
        rw[Qh] at h;by_cases e:d=o
        ·subst e;exact ao
        ·rwa [if_neg e] at h
       exact hG.sep d d' i aA (lv d q1) (lv d' q2) q3 q4
     ·exact h.elim
    cases e with
    |normal=>exact main h1
    |ret=>exact main h1
    |_=>exact h1.elim
   ·exact hx.elim
  ·exact hx.elim
 ·exact hx.elim
mutual
theorem AP.can_pure:∀ {D:Type}(p:AP D) (x:D),(AP.can p x).pure=true
 |_,.k k,x=>rfl
 |_,.agg l,x=>by simp only[AP.can,SV.pure];exact AL.can_pure l x
 |_,.nilS,x=>rfl
 |_,.any,x=>rfl
 |_,.int k n,x=>rfl
 |_,.ptr l,x=>by simp only[AP.can,SV.pure];exact AL.can_pure l x
 |_,.fn ks r,x=>rfl
theorem AL.can_pure:∀ {D:Type}(l:AL D) (x:D),SVs.pure (AL.can l x)=true
 |_,.nil,x=>rfl
 |_,.one a,x=>by simp only[AL.can,SVs.pure,AP.can_pure a x];rfl
 |_,.cons a r,x=>by simp only[AL.can,SVs.pure,AP.can_pure a x.1,AL.can_pure r x.2];rfl
end
def O3 (ty:Nat) (k:Kind) {D:Type}(l:AL D) (pre:List k.T→Bool→D→Prop) (res:List k.T→Bool→D→SV) (post:List k.T→Bool→D→List k.T):LSp:=fun ap b args=>match b with
 |.lst iA _k' xs nl=>if iA=ty then (match Nt xs k,AL.dec ap l args with
  |some xs,some d=>some (pre xs nl d,res xs nl d,.lst ty k (post xs nl d) nl)
  |_,_=>none) else none
 |_=>none
theorem Sb {f:Nat}{vc:VCode}{rs:List VResult}{nt:Nat}(h:Fun P f vc rs nt) (hm:P.follows .mixedOrders=true) {ap:Ap}(dP:I1 P ap) {ty:Nat}{k:Kind}{D:Type}{l:AL D}{pre:List k.T→Bool→D→Prop}{res:List k.T→Bool→D→SV}{post:List k.T→Bool→D→List k.T}
  {C:Cx}(az:COk P C) {L:List k.T→Bool→D→List Value→List (Nat×LoopAnn)}{V:List k.T→Bool→D→Prop}
  (hq:∀ xs nl d,(∀ vals,gwp C (L xs nl d vals) vc 0 (Iv vals rs (res xs nl d) (.lst ty k (post xs nl d) nl) (.lst 0)) (Ns nt (.lst 0) (.lst ty k xs nl) vals (AL.can l d)))=V xs nl d)
  (hb:∀ xs nl d,pre xs nl d→V xs nl d):XOk P f (Ef ap (O3 ty k l pre res post)):=by
 refine OX h hm fun b args c v b' hs hc=>?_;unfold O3 at hs;split at hs
 ·rename_i iA k' xs nl;split at hs
  ·rename_i e;subst e;split at hs
   ·rename_i ys d h1 h2;obtain⟨rfl,rfl,rfl⟩:=(by simpa using hs:pre ys nl d=c∧res ys nl d=v∧OB.lst iA k (post ys nl d) nl=b');unfold Nt at h1;split at h1
    ·rename_i e;subst e;obtain rfl:=osj h1;exact⟨C,L xs nl d,AL.can l d,AL.can_pure l d,fun σ vs hv=>AL.dec_sound dP l h2 hv,az,(hq xs nl d).mpr (hb xs nl d hc)⟩
    ·cases h1
   ·cases hs
  ·cases hs
 ·cases hs
end
end Go.V
namespace Go.V
open Go
abbrev lI {α:Type}(l:List α):Int:=(l.length:Int)
abbrev gD {α:Type}(l:List α) (i:Int) (d:α):α:=l.getD i.toNat d
abbrev sT {α:Type}(l:List α) (i:Int) (x:α):List α:=l.set i.toNat x
abbrev I64 (x:Int):Prop:=InK .i64 x
theorem Qx (x:Int):InK .i64 x↔-9223372036854775808≤x∧x≤9223372036854775807:=by simp[InK,IntKind.min,IntKind.max,IntKind.bits,IntKind.signed]
theorem Q95 (x:Int):InK .u8 x↔0≤x∧x≤255:=by simp[InK,IntKind.min,IntKind.max,IntKind.bits,IntKind.signed]
theorem NI (x:Int):InK .u64 x↔0≤x∧x≤18446744073709551615:=by simp[InK,IntKind.min,IntKind.max,IntKind.bits,IntKind.signed]
theorem LoopP.count {F:Int→(Int→Prop)→Prop}(n:Nat) (J:Nat→Prop) (h0:J 0) (hr:∀ k:Nat,k≤n→J k→∀ q:Int→Prop,(k<n→J (k+1)→q ((k:Int)+1))→F k q):LoopP F 0:=by refine⟨fun d=>∃ k:Nat,d=k∧k≤n∧J k,fun d=>n-d.toNat,⟨0,rfl,Nat.zero_le _,h0⟩,fun d ⟨k,hd,hk,hJ⟩=>?_⟩;subst hd;refine hr k hk hJ _ fun ai qb=>⟨⟨k+1,by simp,ai,qb⟩,?_⟩;simp;omega
theorem LoopP.count2 {X:Type}{F:X×Int→(X×Int→Prop)→Prop}(n:Nat) (J:Nat→X→Prop) {x0:X}(h0:J 0 x0) (hr:∀ (k:Nat) (x:X),k≤n→J k x→∀ q:X×Int→Prop,(∀ x',k<n→J (k+1) x'→q (x',(k:Int)+1))→F (x,(k:Int)) q):LoopP F (x0,0):=by refine⟨fun d=>∃ k:Nat,d.2=k∧k≤n∧J k d.1,fun d=>n-d.2.toNat,⟨0,rfl,Nat.zero_le _,h0⟩,fun ⟨x,d⟩ ⟨k,hd,hk,hJ⟩=>?_⟩;simp only at hd hJ;subst hd;refine hr k x hk hJ _ fun x' ai qb=>⟨⟨k+1,by simp,ai,qb⟩,?_⟩;simp;omega
theorem Qk {α:Type}{l:List α}{k:Nat}{d:α}(h:k<l.length):l.getD k d=l[k]:=by simp[List.getD_eq_getElem?_getD,List.getElem?_eq_getElem h]
theorem D_ {α:Type}{l:List α}{k:Nat}(h:k<l.length):l.take (k+1)=l.take k++[l[k]]:=by rw[List.take_succ_eq_append_getElem h]
section
variable {P:Program}
theorem st1 {S:VSpecs}{d:Nat}{op:VOp}{rest:List VOper}{env:Env}{σ:Heap}{K:Env→Heap→Prop}{v:Value}(hv:∀ K',vop S op env σ K'=QZ (Q6 op (Q3 env) σ) fun p=>K' p.1 p.2) (h:Q6 op (Q3 env) σ=some (v,σ)) (hr:PM S rest (env.set d v) σ K):PM S (⟨some d,op,none⟩::rest) env σ K:=by show QZ (some true) _;refine⟨fun _=>?_,fun e=>by cases e⟩;rw[hv,h];exact hr
theorem YlOk.nil:∀ o y,Qv ([]:List (Nat×YSp)) o=some y→Q0w P o y:=fun o y h=>by cases h
theorem IysOk.nil:∀ f x,Qv ([]:List (Nat×Q6h)) f=some x→Q6d P f x:=fun f x h=>by cases h
theorem IysOk.cons {f:Nat}{x:Q6h}{l:List (Nat×Q6h)}(h:Q6d P f x) (t:∀ g y,Qv l g=some y→Q6d P g y):∀ g y,Qv ((f,x)::l) g=some y→Q6d P g y:=fun g y hg=>by
 simp only[Qv] at hg;cases hb:Nat.beq f g with
 |true=>rw[hb] at hg;obtain rfl:=Nat.eq_of_beq_eq_true hb;obtain rfl:=osj hg;exact h
 |false=>rw[hb] at hg;exact t g y hg
theorem XsOk.nil:∀ f x,Qv ([]:List (Nat×XSp)) f=some x→XOk P f x:=fun f x h=>by cases h
theorem XsOk.cons {f:Nat}{x:XSp}{l:List (Nat×XSp)}(h:XOk P f x) (t:∀ g y,Qv l g=some y→XOk P g y):∀ g y,Qv ((f,x)::l) g=some y→XOk P g y:=fun g y hg=>by
 simp only[Qv] at hg;cases hb:Nat.beq f g with
 |true=>rw[hb] at hg;obtain rfl:=Nat.eq_of_beq_eq_true hb;obtain rfl:=osj hg;exact h
 |false=>rw[hb] at hg;exact t g y hg
theorem ItsOk.nil:∀ f x,Qv ([]:List (Nat×ISp)) f=some x→Z3n P f x:=fun f x h=>by cases h
def Nb:Ap:=fun _ _=>none
theorem W_:I1 P Nb:=fun _ _ _ _ _ _ _ _ _ h=>by cases h
end
end Go.V
namespace Go.V
open Go
def CO {α:Type}:Nat→α→List α→List α
 |0,x,l=>x::l
 |j+1,x,a::l=>a::CO j x l
 |_+1,x,[]=>[x]
def Ck {α:Type}:Nat→List α→List α
 |0,_::l=>l
 |j+1,a::l=>a::Ck j l
 |_,[]=>[]
def RS (kk vk:Kind):OB→Option (List (kk.T×vk.T))
 |.map jb kV m=>if h:jb=kk∧kV=vk then some (h.1▸h.2▸m) else none
 |_=>none
def Q49 (vals:List Value) (rs:List VResult) (v:SV) (kk vk:Kind) (post:List (kk.T×vk.T)→Prop):Exit→St→Prop:=fun e s =>
 let fin:=match JR s rs,Q9 s.own 4000000,RS kk vk (Q9 s.own 0) with
  |some r,.stk l vs,some m'=>vs=vals∧V7 [(0,some 0)] [.map 0] l∧BB [] v r∧post m'
  |_,_,_=>False
 match e with
 |.normal=>fin
 |.ret=>fin
 |_=>False
section
variable {P:Program}
theorem NQ {kk vk:Kind}{b:OB}{m:List (kk.T×vk.T)}(h:RS kk vk b=some m):b=.map kk vk m:=by
 unfold RS at h;split at h
 ·split at h
  ·rename_i e;obtain⟨rfl,rfl⟩:=e;obtain rfl:=osj h;rfl
  ·cases h
 ·cases h
theorem FV:∀ (j:Nat) {l:List SV}{c:List Value}{o:Nat}{B:Heap}{pl:Nat→Value}{tb:Nat→Option Bool},l[j]?=some (.map o)→SRs P B pl tb l c →
  ∃ w,SR P B pl tb (.map o) w∧SRs P B pl tb (Ck j l) (Ck j c)∧∀ (B':Heap) (pl':Nat→Value) (tb':Nat→Option Bool) (l':List SV) (x:SV),SRs P B' pl' tb' l' (Ck j c)→SR P B' pl' tb' x w→SRs P B' pl' tb' (CO j x l') c
 |j,[],c,o,B,pl,tb,h,_=>by simp at h
 |0,a::l,c,o,B,pl,tb,h,hs=>by
  obtain rfl:a=.map o:=by simpa using h
  simp only[SRs] at hs;obtain⟨w,us,rfl,h1,h2⟩:=hs;exact⟨w,h1,h2,fun B' pl' tb' l' x h3 h4=>by simp only[CO,SRs];exact⟨w,us,rfl,h4,h3⟩⟩
 |j+1,a::l,c,o,B,pl,tb,h,hs=>by
  simp only[SRs] at hs;obtain⟨u,us,rfl,h1,h2⟩:=hs;obtain⟨w,g1,g2,g3⟩:=FV j (by simpa using h) h2;refine⟨w,g1,?_,fun B' pl' tb' l' x h3 h4=>?_⟩
  ·simp only[Ck,SRs];exact⟨u,_,rfl,h1,g2⟩
  ·simp only[Ck] at h3
   match l',h3 with
   |[],h3=>simp only[SRs] at h3;cases h3
   |y::l',h3 =>simp only[SRs] at h3;obtain⟨u',iz,e,h5,h6⟩:=h3;obtain⟨rfl,rfl⟩:=List.cons.inj e;simp only[CO,SRs];exact⟨u,us,rfl,h5,g3 B' pl' tb' l' x h6 h4⟩
theorem XfOk.nil {xs:List (Nat×XSp)}:∀ f j,Qv ([]:List (Nat×Nat)) f=some j→∀ x,Qv xs f=some x→Z42 P f x j:=fun f j h=>by cases h
end
end Go.V
namespace Go.V
open Go
abbrev PSp (kk vk:Kind):=Ap→List SV→Option (Prop×List SV×(List (kk.T×vk.T)→Prop))
def OZ (ap:Ap) (kk vk:Kind) (sp:PSp kk vk):XSp:=fun d args s K=>match sp ap (BG s.own args) with
 |some (c,vs,post)=>bif SVs.ret 0 vs then c∧∀ m',post m'→K (.tup (.map d::vs)) (s.make d (.map kk vk m')) else False
 |none=>False
def Yd (nt:Nat) (args:List SV):St:=⟨args++List.replicate (nt-args.length) .any,[],0⟩
def Q5m (rs:List VResult) (kk vk:Kind) (vs:List SV) (post:List (kk.T×vk.T)→Prop):Exit→St→Prop:=fun e s =>
 let fin:=match JR s rs with
  |some (.tup (.map k::r))=>(match RS kk vk (Q9 s.own k) with
   |some m'=>V7 [] vs r∧post m'
   |none=>False)
  |_=>False
 match e with
 |.normal=>fin
 |.ret=>fin
 |_=>False
section
variable {P:Program}
theorem SRs.retd0 {B B':Heap}{pl pl':Nat→Value}{tb tb':Nat→Option Bool}:∀ (l:List SV) (us:List Value),SVs.ret 0 l=true→SRs P B pl tb l us→SRs P B' pl' tb' l us
 |[],us,_,h=>by simpa [SRs] using h
 |s::l,us,hr,h=>by simp only[SVs.ret,Bool.and_eq_true] at hr;simp only[SRs] at h ⊢;obtain⟨u,iz,rfl,h1,h2⟩:=h;exact⟨u,iz,rfl,h1.retd (n:=0) (fun j hj=>by omega) _ _ hr.1,SRs.retd0 l iz hr.2 h2⟩
theorem OL {f:Nat}{vc:VCode}{rs:List VResult}{nt:Nat}(h:Fun P f vc rs nt) (hm:P.follows .mixedOrders=true) {kk vk:Kind}(bz:(kk.flat&&vk.flat)=true) {sp:PSp kk vk}{ap:Ap}
  (hb:∀ fO c vs post,sp ap fO=some (c,vs,post)→c→∃ (C:Cx) (L:List (Nat×LoopAnn)) (eM:List SV),SVs.pure eM=true∧(∀ σ us,SRs P σ Jq ZF fO us→SRs P σ Jq ZF eM us)∧COk P C∧gwp C L vc 0 (Q5m rs kk vk vs post) (Yd nt eM)):XOk P f (OZ ap kk vk sp):=by
 intro B F pl tb s env σ d args vals K R hG ha hx hK;unfold OZ at hx;split at hx
 ·rename_i c vs post ep;cases cE:SVs.ret 0 vs with
  |false=>rw[cE] at hx;exact hx.elim
  |true =>
  rw[cE] at hx;obtain⟨hc,hx⟩:=hx;obtain⟨C,L,eM,de,ly,eL,hg⟩:=hb _ c vs post ep hc;have aw:=ly σ vals (XC (own:=s.own) hG.leB (pl:=pl) (tb:=tb) (fun d=>hG.obj d) ha);have bc:GRel P σ σ σ (Yd nt eM) (vals++List.replicate (nt-vals.length) undef) σ:=by
   refine⟨σ,σ,fun _=>poison,ZF,⟨.refl _,.refl _,fun _ _ _ h=>h,.refl _⟩,.refl _,.refl _,?_,fun k=>?_,fun k i' h1 h2=>?_,fun k k' i' lz h1 h2 h3 h4=>?_,fun _ _=>rfl⟩
   ·simp only[Yd];rw[aw.length];exact SRs.append (Z1 _ _ de aw) (MN _)
   ·simp only[Yd,Q9];trivial
   ·simp only[Yd,Q9] at h1;cases h1
   ·simp only[Yd,Q9] at h1;cases h1
  refine h.calls hm By ?_;refine Y_ eL vc 0 _ _ _ σ none _ trivial bc hg fun e s' af σ' h1 h2=>?_
  have main:(match JR s' rs with
   |some (.tup (.map k::r))=>(match RS kk vk (Q9 s'.own k) with
    |some m'=>V7 [] vs r∧post m'
    |none=>False)
   |_=>False)→QZ (ZQ af σ' rs) fun v=>∃ v' aC,DropTo σ v σ' v' aC∧R v' aC:=fun h=>by
   obtain⟨B',F',pl',tb',k1,k2⟩:=h2;split at h
   ·rename_i k r hr;split at h
    ·rename_i m' kn;obtain⟨g1,g2⟩:=h;have aK:=NQ kn;obtain⟨w,h3,h4⟩:=Jp k2 hr;rw[h3];simp only[SR,SRs] at h4;obtain⟨cs,rfl,mv,ws,rfl,⟨rfl,_⟩,h5⟩:=h4;have cX:=SRs.retd0 (B':=B) (pl':=Jo pl d (pl' k)) (tb':=tb) vs ws cE (Z2 vs r ws g1 h5);have al:=k2.obj k;rw[aK] at al;have hle:σ.Le σ':=k1.f.trans k2.le;have lA:OR P B (Jo pl d (pl' k)) tb σ' (pl' k) (.map kk vk m'):=al.retd bz fun _ _=>rfl;have ao:(Q9 s'.own k).live=true:=by rw[aK];rfl
     have fe:∀ i,Oid (pl' k) i→σ.get i=none:=fun i hi=>by
      cases hg:σ.get i with
      |none=>rfl
      |some b =>have:=k2.fresh k i ao hi;have h9:=k1.f.2 _ _ hg;rw[this] at h9;cases h9
     have lB:Gam P B F (Jo pl d (pl' k)) tb (s.make d (.map kk vk m')) env σ':=by
      refine hG.make d _ (pl' k) (hG.le.trans hle) (fun j i _ hl hi=>?_) lA fun i _ hi=>⟨?_,fun j _ hl hj=>?_⟩
      ·cases hg:σ.get i with
       |none=>exact k1.d.2 i ((hG.obj j).id_lt hl hi) hg
       |some bb=>exact hle.2 _ _ hg
      ·cases hg:F.get i with
       |none=>rfl
       |some b=>have:=hG.le.2 _ _ hg;rw[fe i hi] at this;cases this
      ·have ai:=(hG.obj j).id_lt hl hj;have:=k1.d.2 i ai (fe i hi);obtain⟨id,es,clock,e1,e2,_⟩:=lA;rw[e1] at hi;obtain rfl:id=i:=osj hi;rw[this] at e2;cases e2
     refine⟨_,σ',.refl _ _ _,hK _ _ B F _ tb _ σ' (hx m' g2) (.of hG.bf k1.d) lB ?_⟩;obtain⟨id,es,clock,e1,_⟩:=lA;simp only[SR,SRs];exact⟨_,rfl,_,_,rfl,⟨by simp[Jo],_,e1⟩,cX⟩
    ·exact h.elim
   ·exact h.elim
  cases e with
  |normal=>exact main h1
  |ret=>exact main h1
  |_=>exact h1.elim
 ·exact hx.elim
def Q6i {kk vk:Kind}{D:Type}(la:AL D) (pre:D→Prop) (res:D→List SV) (post:D→List (kk.T×vk.T)→Prop):PSp kk vk:=fun ap fO=>match AL.dec ap la fO with
 |some a=>some (pre a,res a,post a)
 |none=>none
theorem Q01 {f:Nat}{vc:VCode}{rs:List VResult}{nt:Nat}(h:Fun P f vc rs nt) (hm:P.follows .mixedOrders=true) {ap:Ap}(dP:I1 P ap) {kk vk:Kind}(bz:(kk.flat&&vk.flat)=true) {D:Type}{la:AL D}{pre:D→Prop}{res:D→List SV}{post:D→List (kk.T×vk.T)→Prop}
  {C:Cx}(az:COk P C) {L:D→List (Nat×LoopAnn)}{V:D→Prop}
  (hq:∀ y,gwp C (L y) vc 0 (Q5m rs kk vk (res y) (post y)) (Yd nt (AL.can la y))=V y)
  (hb:∀ y,pre y→V y):XOk P f (OZ ap kk vk (Q6i la pre res post)):=OL h hm bz fun fO c vs q hs hc=>by
 unfold Q6i at hs;split at hs
 ·rename_i y h2;obtain⟨rfl,rfl,rfl⟩:=(by simpa using hs:pre y=c∧res y=vs∧post y=q);exact⟨C,L y,AL.can la y,AL.can_pure la y,fun σ vs hv=>AL.dec_sound dP la h2 hv,az,(hq y).mpr (hb y hc)⟩
 ·cases hs
end
end Go.V
namespace Go.V
open Go
def callV (ap:Ap) (sp:CSp):XSp:=fun d args s K =>
 let s1:=(⟨s.env++args,s.own,s.nx⟩:St).frzs (DH args);let a1:=s1.env.drop s.env.length
 bif SVs.pure a1 then (match sp ap a1 with
  |some (c,v,bs)=>bif v.ret bs.length&&bs.all OB.isL then c∧K (v.ren d 500000) ((⟨s1.env.take s.env.length,s1.own,s1.nx⟩:St).makes d 500000 0 bs) else False
  |none=>False) else False
def pj4 {A B C D E:Type}(x:A×B×C×D×E):E:=x.2.2.2.2
def pj8 {A B C D A' B' C' D' E:Type}(x:A×B×C×D×A'×B'×C'×D'×E):E:=x.2.2.2.2.2.2.2.2
def Kq {A B C D A' B' C' D' A1 B1 C1 D1 A2 B2 C2 D2 E:Type}(x:A×B×C×D×A'×B'×C'×D'×A1×B1×C1×D1×A2×B2×C2×D2×E):E:=x.2.2.2.2.2.2.2.2.2.2.2.2.2.2.2.2
theorem E1 {x:Nat}(h:x<9223372036854775808):IntKind.wrap .i64 (x:Int)=x:=by
 have e:((x:Int) % (18446744073709551616:Int))=x:=by omega
 have:¬ ((x:Int)≥9223372036854775808):=by omega
 show (if (true&&decide ((x:Int) % (18446744073709551616:Int)≥9223372036854775808))=true then (x:Int) % (18446744073709551616:Int)-18446744073709551616 else (x:Int) % (18446744073709551616:Int))=x;simp only[e,this,decide_false,Bool.and_false,Bool.false_eq_true,if_false]
theorem Ou {x y:Nat}(h:x<9223372036854775808):x &&& y<9223372036854775808:=Nat.lt_of_le_of_lt Nat.and_le_left h
theorem LF (x:Nat):BitVec.ofInt 64 (x:Int)=BitVec.ofNat 64 x:=by apply BitVec.eq_of_toNat_eq;simp
theorem H_ {x:Nat}(h:x<9223372036854775808):(BitVec.ofInt 64 (x:Int)).toNat=x:=by rw[LF,BitVec.toNat_ofNat,Nat.mod_eq_of_lt (by omega)]
theorem O_ {x y:Nat}(hx:x<9223372036854775808) (hy:y<9223372036854775808):Q8 .and .i64 x y=((x &&& y:Nat):Int):=by
 have e:(BitVec.ofInt 64 (x:Int) &&& BitVec.ofInt 64 (y:Int)).toNat=x &&& y:=by rw[BitVec.toNat_and,H_ hx,H_ hy]
 show IntKind.wrap .i64 ((BitVec.ofInt 64 (x:Int) &&& BitVec.ofInt 64 (y:Int)).toNat:Int)=_;rw[e,E1 (Ou hx)]
theorem Q47 {x i:Nat}(hi:i≤64):Qp .i64 x i=((x >>> i:Nat):Int):=by have:Nat.min i 64=i:=Nat.min_eq_left hi;simp only[Qp,Int.toNat_natCast,IntKind.bits,this];rw[Nat.shiftRight_eq_div_pow,Int.fdiv_eq_ediv_of_nonneg _ (Int.le_of_lt (Int.pow_pos (by omega)))];norm_cast
theorem Q5q {x i:Nat}(hi:i≤64):JF .i64 x i=((x <<< i:Nat):Int):=by have:Nat.min i 64=i:=Nat.min_eq_left hi;simp only[JF,Int.toNat_natCast,IntKind.bits,this,Nat.shiftLeft_eq];norm_cast
theorem Q65 {x i:Nat}(hx:x<9223372036854775808) (hi:i≤64):(Q8 .and .i64 (Qp .i64 x i) 1==1)=x.testBit i:=by have h1:x >>> i<9223372036854775808:=Nat.lt_of_le_of_lt (by rw[Nat.shiftRight_eq_div_pow];exact Nat.div_le_self _ _) hx;rw[Q47 hi,show (1:Int)=((1:Nat):Int) from rfl,O_ h1 (by omega),Nat.testBit];rw[Bool.eq_iff_iff];simp only[beq_iff_eq,bne_iff_ne,ne_eq];rw[Nat.and_comm,Nat.one_and_eq_mod_two];omega
end Go.V
namespace Go.Proofs.Tryz
open Go Go.V Go.Proofs
def inI (n a b:Int):Bool:=decide (a≤n)&&decide (n≤b)
theorem nI (n a b:Int):(!inI n a b)=(decide (n<a)||decide (b<n)):=by simp only[inI,Bool.not_and];by_cases h1:a≤n<;>by_cases h2:n≤b<;>simp[h1,h2]<;>omega
def IB {α:Type}(l:List α) (p:α→Bool):Int:=match l.findIdx? p with|some i=>(i:Int)|none=>-1
def Oo (l:List Int) (p:Int→Bool):Int:=match l.findIdx? p with|some i=>(i:Int)|none=>-1
theorem Ih {α:Type}{l:List α}{p:α→Bool}{k:Nat}(hk:k<l.length) (h:p l[k]=true) (hJ:(l.take k).any p=false):IB l p=k:=by
 have:l.findIdx? p=some k:=by rw[List.findIdx?_eq_some_iff_getElem];refine⟨hk,h,fun j hj=>?_⟩;have hn:=List.any_eq_false.1 hJ l[j] (List.mem_take_iff_getElem.2 ⟨j,by omega,rfl⟩);simpa using hn
 simp[IB,this]
theorem Sx {α:Type}{l:List α}{p:α→Bool}(hJ:l.any p=false):IB l p=-1:=by
 have:l.findIdx? p=none:=by rw[List.findIdx?_eq_none_iff];intro x hx;have:=List.any_eq_false.1 hJ x hx;simpa using this
 simp[IB,this]
theorem Q05 {α:Type}(l:List α) (p:α→Bool):(decide (IB l p≥0))=l.any p:=by
 cases h:l.any p with
 |false=>rw[Sx h];rfl
 |true =>
  have:(l.findIdx? p).isSome=true:=by rw[List.findIdx?_isSome,h]
  obtain⟨i,hi⟩:=Option.isSome_iff_exists.1 this;have e:IB l p=(i:Int):=by simp[IB,hi]
  rw[e];exact decide_eq_true (Int.natCast_nonneg i)
def TA:Nat→Nat→Nat
 |0,_=>0
 |h+1,n=>2*TA h n+(n / 2 ^ h) % 2
theorem FM:∀ h n,TA h n<2 ^ h
 |0,_=>by simp[TA]
 |h+1,n=>by have:=FM h n;have h2:(n / 2 ^ h) % 2<2:=Nat.mod_lt _ (by omega);simp only[TA];rw[Nat.pow_succ];omega
theorem GA:∀ h n i,(TA h n).testBit i=(decide (i<h)&&n.testBit (h-1-i))
 |0,n,i=>by simp[TA]
 |h+1,n,0=>by simp only[TA];rw[Nat.testBit_zero,Nat.testBit_eq_decide_div_mod_eq];simp
 |h+1,n,i+1=>by have h2:(n / 2 ^ h) % 2<2:=Nat.mod_lt _ (by omega);simp only[TA];rw[Nat.testBit_succ,show (2*TA h n+n / 2 ^ h % 2) / 2=TA h n by omega,GA h n i];rw[show h+1-1-(i+1)=h-1-i by omega];congr 1;rw[decide_eq_decide];omega
def Vm (s m x:Nat):Nat:=((x >>> s) &&& m) ||| ((x &&& m) <<< s)
theorem Q14 (s m x i:Nat):(Vm s m x).testBit i=((x.testBit (s+i)&&m.testBit i)||(decide (s≤i)&&(x.testBit (i-s)&&m.testBit (i-s)))):=by unfold Vm;rw[Nat.testBit_or,Nat.testBit_and,Nat.testBit_shiftRight,Nat.testBit_shiftLeft,Nat.testBit_and]
def Vn (s i:Nat):Nat:=if i / s % 2=0 then i+s else i-s
def Z1s (s m:Nat):Bool:=(List.range 64).all fun i=>m.testBit i==(i / s % 2==0)
theorem L9 {s m x i:Nat}(hs:s=1∨s=2∨s=4∨s=8∨s=16∨s=32) (hm:Z1s s m=true) (hx:x<2 ^ 64) (hi:i<64):(Vm s m x).testBit i=x.testBit (Vn s i):=by
 have qc:∀ j,j<64→m.testBit j=(j / s % 2==0):=fun j hj=>by have:=List.all_eq_true.1 hm j (List.mem_range.2 hj);simpa using this
 have hb:∀ j,64≤j→x.testBit j=false:=fun j hj=>Nat.testBit_lt_two_pow (Nat.lt_of_lt_of_le hx (Nat.pow_le_pow_right (by omega) hj));rw[Q14,qc i hi];unfold Vn;by_cases h0:i / s % 2=0
 ·rw[if_pos h0,h0];simp only[beq_self_eq_true,Bool.and_true];have hz:(decide (s≤i)&&(x.testBit (i-s)&&m.testBit (i-s)))=false:=by
   by_cases h1:s≤i
   ·rw[qc (i-s) (by omega)];have:¬ ((i-s) / s % 2=0):=by rcases hs with rfl|rfl|rfl|rfl|rfl|rfl<;>omega
    simp[this]
   ·simp[h1]
  rw[hz,Bool.or_false,Nat.add_comm]
 ·rw[if_neg h0];have h1:s≤i:=by rcases hs with rfl|rfl|rfl|rfl|rfl|rfl<;>omega
  have h2:(i-s) / s % 2=0:=by rcases hs with rfl|rfl|rfl|rfl|rfl|rfl<;>omega
  rw[qc (i-s) (by omega),h2];simp[h0,h1]
theorem N2 {s m x:Nat}(hs:s=1∨s=2∨s=4∨s=8∨s=16∨s=32) (hx:x<2 ^ 64) (hm:m<2 ^ (64-s)):Vm s m x<2 ^ 64:=by
 unfold Vm;refine Nat.or_lt_two_pow ?_ ?_
 ·exact Nat.lt_of_le_of_lt Nat.and_le_left (Nat.lt_of_le_of_lt (by rw[Nat.shiftRight_eq_div_pow];exact Nat.div_le_self _ _) hx)
 ·have h1:x &&& m<2 ^ (64-s):=Nat.lt_of_le_of_lt Nat.and_le_right hm;rw[Nat.shiftLeft_eq];have h2:2 ^ 64=2 ^ (64-s)*2 ^ s:=by rw[←Nat.pow_add];congr 1;omega
  rw[h2];exact Nat.mul_lt_mul_of_pos_right h1 (Nat.two_pow_pos s)
def Q9h (x:Nat):Nat:=Vm 4 1085102592571150095 (Vm 2 3689348814741910323 (Vm 1 6148914691236517205 x))
def OY (x:Nat):Nat:=(Vm 16 281470681808895 (Vm 8 71777214294589695 x)) >>> 32 ||| ((Vm 16 281470681808895 (Vm 8 71777214294589695 x)) <<< 32) % 2 ^ 64
theorem AF {x i:Nat}(hx:x<2 ^ 64) (hi:i<64):(Q9h x).testBit i=x.testBit (Vn 1 (Vn 2 (Vn 4 i)))∧Q9h x<2 ^ 64:=by
 have b1:Vm 1 6148914691236517205 x<2 ^ 64:=N2 (.inl rfl) hx (by decide);have b2:Vm 2 3689348814741910323 (Vm 1 6148914691236517205 x)<2 ^ 64:=N2 (.inr (.inl rfl)) b1 (by decide);have b3:=N2 (s:=4) (m:=1085102592571150095) (by omega) b2 (by decide);refine⟨?_,b3⟩;unfold Q9h;have e4:Vn 4 i<64:=by unfold Vn;split<;>omega
 have e2:Vn 2 (Vn 4 i)<64:=by generalize Vn 4 i=j at e4;unfold Vn;split<;>omega
 rw[L9 (by omega) (by decide) b2 hi,L9 (by omega) (by decide) b1 e4,L9 (by omega) (by decide) hx e2]
theorem OI {x i:Nat}(hx:x<2 ^ 64) (hi:i<64):(OY x).testBit i=x.testBit (Vn 8 (Vn 16 (Vn 32 i))):=by
 have b1:Vm 8 71777214294589695 x<2 ^ 64:=N2 (by omega) hx (by decide);have b2:Vm 16 281470681808895 (Vm 8 71777214294589695 x)<2 ^ 64:=N2 (by omega) b1 (by decide);have tz:(OY x).testBit i=(Vm 16 281470681808895 (Vm 8 71777214294589695 x)).testBit (Vn 32 i):=by
  unfold OY;generalize Vm 16 281470681808895 (Vm 8 71777214294589695 x)=y at b2;rw[Nat.testBit_or,Nat.testBit_shiftRight,Nat.testBit_mod_two_pow,Nat.testBit_shiftLeft];unfold Vn;by_cases h:i / 32 % 2=0
  ·rw[if_pos h,Nat.add_comm];have:¬ 32≤i:=by omega
   simp[this]
  ·rw[if_neg h];have h1:32≤i:=by omega
   have h2:y.testBit (32+i)=false:=Nat.testBit_lt_two_pow (Nat.lt_of_lt_of_le b2 (Nat.pow_le_pow_right (by omega) (by omega)));rw[h2];simp[h1,hi]
 have oD:Vn 32 i<64:=by unfold Vn;split<;>omega
 have qd:Vn 16 (Vn 32 i)<64:=by generalize Vn 32 i=j at oD;unfold Vn;split<;>omega
 rw[tz,L9 (by omega) (by decide) b1 oD,L9 (by omega) (by decide) hx qd]
theorem Q4f {x:Nat}(hx:x<2 ^ 64):OY x<2 ^ 64:=by unfold OY;have b1:Vm 8 71777214294589695 x<2 ^ 64:=N2 (by omega) hx (by decide);have b2:Vm 16 281470681808895 (Vm 8 71777214294589695 x)<2 ^ 64:=N2 (by omega) b1 (by decide);refine Nat.or_lt_two_pow (Nat.lt_of_le_of_lt (by rw[Nat.shiftRight_eq_div_pow];exact Nat.div_le_self _ _) b2) (Nat.mod_lt _ (by decide))
theorem Q4p:∀ i,i<64→Vn 1 (Vn 2 (Vn 4 (Vn 8 (Vn 16 (Vn 32 i)))))=63-i:=by decide
theorem Z2x {x:Nat}(hx:x<2 ^ 64):OY (Q9h x)=TA 64 x:=by
 refine Nat.eq_of_testBit_eq fun i=>?_;have h8:=(AF (i:=0) hx (by omega)).2;rw[GA];by_cases hi:i<64
 ·rw[OI h8 hi];have oD:Vn 32 i<64:=by unfold Vn;split<;>omega
  have qd:Vn 16 (Vn 32 i)<64:=by generalize Vn 32 i=j at oD;unfold Vn;split<;>omega
  have e8:Vn 8 (Vn 16 (Vn 32 i))<64:=by generalize Vn 16 (Vn 32 i)=j at qd;unfold Vn;split<;>omega
  rw[(AF hx e8).1,Q4p i hi];simp[hi]
 ·rw[Nat.testBit_lt_two_pow (Nat.lt_of_lt_of_le (Q4f h8) (Nat.pow_le_pow_right (by omega) (by omega)))];simp[hi]
theorem ED {f n:Nat}(hf:f≤64) (hn:n<2 ^ f):TA 64 n >>> (64-f)=TA f n:=by
 refine Nat.eq_of_testBit_eq fun i=>?_;rw[Nat.testBit_shiftRight,GA,GA];by_cases hi:i<f
 ·rw[decide_eq_true hi,decide_eq_true (show 64-f+i<64 by omega),Bool.true_and,Bool.true_and];congr 1;omega
 ·rw[decide_eq_false hi,decide_eq_false (show ¬ 64-f+i<64 by omega)];rfl
theorem Q0v {x:Nat}(hx:x<2 ^ 64):(BitVec.ofInt 64 (x:Int)).toNat=x:=by rw[LF,BitVec.toNat_ofNat,Nat.mod_eq_of_lt hx]
theorem Q4t (x:Nat):IntKind.wrap .u64 (x:Int)=((x % 2 ^ 64:Nat):Int):=by show (x:Int) % 18446744073709551616=_;omega
theorem Z4g {a b:Nat}(ha:a<2 ^ 64) (hb:b<2 ^ 64):Q8 .and .u64 (a:Int) (b:Int)=((a &&& b:Nat):Int):=by
 have e:(BitVec.ofInt 64 (a:Int) &&& BitVec.ofInt 64 (b:Int)).toNat=a &&& b:=by rw[BitVec.toNat_and,Q0v ha,Q0v hb]
 show IntKind.wrap .u64 ((BitVec.ofInt 64 (a:Int) &&& BitVec.ofInt 64 (b:Int)).toNat:Int)=_;rw[e,Q4t,Nat.mod_eq_of_lt (Nat.lt_of_le_of_lt Nat.and_le_left ha)]
theorem orU {a b:Nat}(ha:a<2 ^ 64) (hb:b<2 ^ 64):Q8 .or .u64 (a:Int) (b:Int)=((a ||| b:Nat):Int):=by
 have e:(BitVec.ofInt 64 (a:Int) ||| BitVec.ofInt 64 (b:Int)).toNat=a ||| b:=by rw[BitVec.toNat_or,Q0v ha,Q0v hb]
 show IntKind.wrap .u64 ((BitVec.ofInt 64 (a:Int) ||| BitVec.ofInt 64 (b:Int)).toNat:Int)=_;rw[e,Q4t,Nat.mod_eq_of_lt (Nat.or_lt_two_pow ha hb)]
theorem Z2j {x i:Nat}(hi:i≤64):Qp .u64 (x:Int) (i:Int)=((x >>> i:Nat):Int):=by have:Nat.min i 64=i:=Nat.min_eq_left hi;simp only[Qp,Int.toNat_natCast,IntKind.bits,this];rw[Nat.shiftRight_eq_div_pow,Int.fdiv_eq_ediv_of_nonneg _ (Int.le_of_lt (Int.pow_pos (by omega)))];norm_cast
theorem Z49 {x i:Nat}(hi:i≤64):JF .u64 (x:Int) (i:Int)=((x <<< i:Nat):Int):=by have:Nat.min i 64=i:=Nat.min_eq_left hi;simp only[JF,Int.toNat_natCast,IntKind.bits,this,Nat.shiftLeft_eq];norm_cast
theorem Q96 {s m x:Nat}(hs:s=1∨s=2∨s=4∨s=8∨s=16∨s=32) (hx:x<2 ^ 64) (hm:m<2 ^ (64-s)) :
  Q8 .or .u64 (Q8 .and .u64 (Qp .u64 (x:Int) (s:Int)) (m:Int)) (JF .u64 (Q8 .and .u64 (x:Int) (m:Int)) (s:Int))=((Vm s m x:Nat):Int)∧InK .u64 (JF .u64 (Q8 .and .u64 (x:Int) (m:Int)) (s:Int))∧Vm s m x<2 ^ 64:=by
 have nS:m<2 ^ 64:=Nat.lt_of_lt_of_le hm (Nat.pow_le_pow_right (by omega) (by omega));have bt:x >>> s<2 ^ 64:=Nat.lt_of_le_of_lt (by rw[Nat.shiftRight_eq_div_pow];exact Nat.div_le_self _ _) hx;have hl:(x &&& m) <<< s<2 ^ 64:=by
  have h1:x &&& m<2 ^ (64-s):=Nat.lt_of_le_of_lt Nat.and_le_right hm;rw[Nat.shiftLeft_eq];have h2:2 ^ 64=2 ^ (64-s)*2 ^ s:=by rw[←Nat.pow_add];congr 1;omega
  rw[h2];exact Nat.mul_lt_mul_of_pos_right h1 (Nat.two_pow_pos s)
 rw[Z2j (by omega),Z4g bt nS,Z4g hx nS,Z49 (by omega),orU (Nat.lt_of_le_of_lt Nat.and_le_left bt) hl];refine⟨rfl,?_,N2 hs hx hm⟩;rw[NI];generalize (x &&& m) <<< s=z at hl;omega
theorem sw1 {x:Nat}(hx:x<2 ^ 64):Q8 .or .u64 (Q8 .and .u64 (Qp .u64 (x:Int) 1) 6148914691236517205) (JF .u64 (Q8 .and .u64 (x:Int) 6148914691236517205) 1)=((Vm 1 6148914691236517205 x:Nat):Int)∧InK .u64 (JF .u64 (Q8 .and .u64 (x:Int) 6148914691236517205) 1)∧Vm 1 6148914691236517205 x<2 ^ 64:=Q96 (s:=1) (m:=6148914691236517205) (by omega) hx (by decide)
theorem sw2 {x:Nat}(hx:x<2 ^ 64):Q8 .or .u64 (Q8 .and .u64 (Qp .u64 (x:Int) 2) 3689348814741910323) (JF .u64 (Q8 .and .u64 (x:Int) 3689348814741910323) 2)=((Vm 2 3689348814741910323 x:Nat):Int)∧InK .u64 (JF .u64 (Q8 .and .u64 (x:Int) 3689348814741910323) 2)∧Vm 2 3689348814741910323 x<2 ^ 64:=Q96 (s:=2) (m:=3689348814741910323) (by omega) hx (by decide)
theorem sw4 {x:Nat}(hx:x<2 ^ 64):Q8 .or .u64 (Q8 .and .u64 (Qp .u64 (x:Int) 4) 1085102592571150095) (JF .u64 (Q8 .and .u64 (x:Int) 1085102592571150095) 4)=((Vm 4 1085102592571150095 x:Nat):Int)∧InK .u64 (JF .u64 (Q8 .and .u64 (x:Int) 1085102592571150095) 4)∧Vm 4 1085102592571150095 x<2 ^ 64:=Q96 (s:=4) (m:=1085102592571150095) (by omega) hx (by decide)
theorem sw8 {x:Nat}(hx:x<2 ^ 64):Q8 .or .u64 (Q8 .and .u64 (Qp .u64 (x:Int) 8) 71777214294589695) (JF .u64 (Q8 .and .u64 (x:Int) 71777214294589695) 8)=((Vm 8 71777214294589695 x:Nat):Int)∧InK .u64 (JF .u64 (Q8 .and .u64 (x:Int) 71777214294589695) 8)∧Vm 8 71777214294589695 x<2 ^ 64:=Q96 (s:=8) (m:=71777214294589695) (by omega) hx (by decide)
theorem Z4t {x:Nat}(hx:x<2 ^ 64):Q8 .or .u64 (Q8 .and .u64 (Qp .u64 (x:Int) 16) 281470681808895) (JF .u64 (Q8 .and .u64 (x:Int) 281470681808895) 16)=((Vm 16 281470681808895 x:Nat):Int)∧InK .u64 (JF .u64 (Q8 .and .u64 (x:Int) 281470681808895) 16)∧Vm 16 281470681808895 x<2 ^ 64:=Q96 (s:=16) (m:=281470681808895) (by omega) hx (by decide)
theorem Z4p {x:Nat}(hx:x<2 ^ 64):Q8 .or .u64 (Qp .u64 (x:Int) 32) (IntKind.wrap .u64 (JF .u64 (x:Int) 32))=((x >>> 32 ||| (x <<< 32) % 2 ^ 64:Nat):Int):=by have h1:Qp .u64 (x:Int) 32=((x >>> 32:Nat):Int):=Z2j (i:=32) (by omega);have h2:JF .u64 (x:Int) 32=((x <<< 32:Nat):Int):=Z49 (i:=32) (by omega);rw[h1,h2,Q4t,orU (Nat.lt_of_le_of_lt (by rw[Nat.shiftRight_eq_div_pow];exact Nat.div_le_self _ _) hx) (Nat.mod_lt _ (by decide))]
abbrev DL:=Int×Int×Bool
def XG:DL:=(0,(0,false))
def QM (hk:Int) (c:DL):Bool:=inI c.1 (-1) 59&&inI c.2.1 0 (2 ^ hk.toNat-1)
def Q7 (hk:Int) (cs:List DL):Int:=if !inI hk 1 24 then 3 else if 60<cs.length then 5 else if cs=[]∨(cs.any fun c=>!QM hk c)=true then 2 else 0
def Q6f (f row:Int):Int:=((TA f.toNat row.toNat:Nat):Int)
def Ym (hk:Int) (c:DL):Int:=if c.2.2 then Q6f hk c.2.1 else c.2.1
def Z0 (hk:Int) (rows:List Int):Int:=if !inI hk 1 24 then 2 else if 60<rows.length then 5 else if rows=[] then 7 else if (rows.any fun r=>!inI r 0 (2 ^ hk.toNat-1))=true then 2 else 0
def Q8t (rows:List Int):List DL:=(List.range rows.length).map fun (i:Nat)=>((i:Int),(rows.getD i 0,false))
def Y9 (hk:Int) (rows:List Int):Int:=if Z0 hk rows=0 then hk else 0
def KW (hk:Int) (rows:List Int):List DL:=if Z0 hk rows=0 then Q8t rows else []
def atK (n a:Int) (st:List Int):Nat→Int
 |0=>a
 |k+1=>Int.tmod (atK n a st k+st.getD k 0) n
def Dn (hk:Int) (cs:List DL) (a:Int) (st:List Int) (k:Nat):List Int:=(List.range k).map fun i=>Ym hk (cs.getD (atK cs.length a st i).toNat XG)
def Qe (hk:Int) (cs:List DL) (a:Int) (st:List Int):Int:=if Q7 hk cs≠0 then Q7 hk cs else if !inI a 0 ((cs.length:Int)-1) then 7 else if 60<st.length then 5 else if (st.any fun s=>!inI s 0 2)=true then 2 else 0
def Jl (hk:Int) (cs:List DL) (a:Int) (st:List Int):List Int:=if Qe hk cs a st=0 then Dn hk cs a st st.length else []
def Zc (hk:Int) (cs:List DL) (a:Int) (st:List Int):Int:=if Qe hk cs a st=0 then atK cs.length a st st.length else 0
theorem V_ {n a b:Int}(h:(!inI n a b)=false):a≤n∧n≤b:=by unfold inI at h;simp at h;omega
theorem Z36 {k:Nat}(h:k≤62):JF .i64 1 (k:Int)=((2 ^ k:Nat):Int):=by have:=Q5q (x:=1) (i:=k) (by omega);rw[Nat.shiftLeft_eq,Nat.one_mul] at this;exact this
theorem BJ (k:Nat):(2:Int) ^ k=((2 ^ k:Nat):Int):=by simp
theorem Q0y {k:Nat}(h:k≤24):0<2 ^ k∧2 ^ k≤16777216:=⟨Nat.two_pow_pos k,Nat.pow_le_pow_right (n:=2) (by omega) h⟩
theorem Z2h {k:Nat}(h:k≤62):0<2 ^ k∧2 ^ k≤4611686018427387904:=⟨Nat.two_pow_pos k,Nat.pow_le_pow_right (n:=2) (by omega) h⟩
theorem R8 {f:Int}{c:DL}(h:QM f c=true):0≤c.2.1∧c.2.1<2 ^ f.toNat:=by unfold QM inI at h;simp only[Bool.and_eq_true,decide_eq_true_eq] at h;omega
theorem RK {hk:Int}{cs:List DL}(h1:(!inI hk 1 24)=false) (h2:cs.length≤60) (h3:(!(!cs.isEmpty&&!(cs.any fun c=>!QM hk c)))=true):Q7 hk cs=2:=by unfold Q7;rw[if_neg (by rw[h1];decide),if_neg (by omega),if_pos];simp only[Bool.not_and,Bool.not_not,Bool.or_eq_true,List.isEmpty_iff] at h3;exact h3
theorem LZ {hk:Int}{cs:List DL}(h1:(!inI hk 1 24)=false) (h2:cs.length≤60) (h3:(!(!cs.isEmpty&&!(cs.any fun c=>!QM hk c)))=false):Q7 hk cs=0∧cs≠[]∧∀ c∈cs,QM hk c=true:=by
 simp only[Bool.not_and,Bool.not_not,Bool.or_eq_false_iff] at h3;have aA:cs≠[]:=fun e=>by rw[e] at h3;cases h3.1
 refine⟨?_,aA,fun c hc=>?_⟩
 ·unfold Q7;rw[if_neg (by rw[h1];decide),if_neg (by omega),if_neg];rintro (h|h)
  ·exact aA h
  ·rw[h3.2] at h;cases h
 ·have:=List.any_eq_false.1 h3.2 c hc;simpa using this
def Ot (rows:List Int) (k:Nat):List DL:=(List.range k).map fun (i:Nat)=>((i:Int),(rows.getD i 0,false))
theorem LC (rows:List Int) (k:Nat):Ot rows (k+1)=Ot rows k++[((k:Int),(rows.getD k 0,false))]:=by unfold Ot;rw[List.range_succ,List.map_append];rfl
theorem AM (rows:List Int) (k:Nat):(Ot rows k).length=k:=by simp[Ot]
theorem N4 {hk:Int}{rows:List Int}{e:Int}(h:Z0 hk rows=e) (h0:e≠0):(0=Y9 hk rows∧e=Z0 hk rows)∧KW hk rows=[]∧(KW hk rows).isEmpty=true:=by
 have h1:Z0 hk rows≠0:=by omega
 have h2:KW hk rows=[]:=by unfold KW;rw[if_neg h1]
 have h3:Y9 hk rows=0:=by unfold Y9;rw[if_neg h1]
 rw[h2,h3];exact⟨⟨rfl,h.symm⟩,rfl,rfl⟩
theorem K0 {hk a:Int}{cs:List DL}{st:List Int}{e:Int}(h:Qe hk cs a st=e) (h0:e≠0):(0=Zc hk cs a st∧e=Qe hk cs a st)∧Jl hk cs a st=[]∧(Jl hk cs a st).isEmpty=true:=by
 have h1:Qe hk cs a st≠0:=by omega
 have h2:Jl hk cs a st=[]:=by unfold Jl;rw[if_neg h1]
 have h3:Zc hk cs a st=0:=by unfold Zc;rw[if_neg h1]
 rw[h2,h3];exact⟨⟨rfl,h.symm⟩,rfl,rfl⟩
theorem TP (hk:Int) (cs:List DL) (a:Int) (st:List Int) (k:Nat):Dn hk cs a st (k+1)=Dn hk cs a st k++[Ym hk (cs.getD (atK cs.length a st k).toNat XG)]:=by unfold Dn;rw[List.range_succ,List.map_append];rfl
theorem Hr (hk:Int) (cs:List DL) (a:Int) (st:List Int) (k:Nat):(Dn hk cs a st k).length=k:=by simp[Dn]
theorem Q37 {n:Nat}{a:Int}{st:List Int}(hn:0<n) (h0:0≤a) (h1:a<n) (hs:∀ s∈st,0≤s):∀ k,0≤atK n a st k∧atK n a st k<n
 |0=>⟨h0,h1⟩
 |k+1=>by
  have ih:=Q37 hn h0 h1 hs k;have hg:0≤st.getD k 0:=by
   rw[List.getD_eq_getElem?_getD];cases h:st[k]? with
   |none=>exact Int.le_refl _
   |some x=>exact hs x (List.mem_of_getElem? h)
  simp only[atK];rw[Int.tmod_eq_emod_of_nonneg (by omega)];exact⟨Int.emod_nonneg _ (by omega),Int.emod_lt_of_pos _ (by omega)⟩
theorem UY {hk:Int}{cs:List DL}(h:Q7 hk cs=0):(1≤hk∧hk≤24)∧cs.length≤60∧cs≠[]∧∀ c∈cs,QM hk c=true:=by
 unfold Q7 at h;split at h
 ·cases h
 ·rename_i h1;have h1:(!inI hk 1 24)=false:=by simpa using h1
  split at h
  ·cases h
  ·split at h
   ·cases h
   ·rename_i h2 h3;refine⟨V_ h1,by omega,fun e=>h3 (.inl e),fun c hc=>?_⟩;cases aq:QM hk c with
    |true=>rfl
    |false=>exact(h3 (.inr (List.any_eq_true.2 ⟨c,hc,by rw[aq];rfl⟩))).elim
theorem Fp {n:Nat}{a:Int}{st:List Int}(hn:0<n) (h0:0≤a) (h1:a<n):∀ k,(∀ j,j<k→0≤st.getD j 0)→0≤atK n a st k∧atK n a st k<n
 |0,_=>⟨h0,h1⟩
 |k+1,hs=>by have ih:=Fp hn h0 h1 k fun j hj=>hs j (by omega);have hg:=hs k (by omega);simp only[atK];rw[Int.tmod_eq_emod_of_nonneg (by omega)];exact⟨Int.emod_nonneg _ (by omega),Int.emod_lt_of_pos _ (by omega)⟩
def EW (f n:Nat):Nat→Nat
 |0=>0
 |k+1=>if n.testBit (f-1-k)=true then EW f n k+2 ^ k else EW f n k
theorem Hj (f n k:Nat):EW f n (k+1)=if n.testBit (f-1-k)=true then EW f n k+2 ^ k else EW f n k:=rfl
theorem CK (f n:Nat):∀ k,EW f n k<2 ^ k
 |0=>by simp[EW]
 |k+1=>by have:=CK f n k;rw[Hj,Nat.pow_succ];split<;>omega
theorem C_ (f n:Nat):∀ k i,(EW f n k).testBit i=(decide (i<k)&&n.testBit (f-1-i))
 |0,i=>by simp[EW]
 |k+1,i=>by
  have ih:=C_ f n k;have hl:=CK f n k;rw[Hj];by_cases hb:n.testBit (f-1-k)=true
  ·have ho:=Nat.two_pow_add_eq_or_of_lt hl 1;rw[Nat.mul_one] at ho;rw[if_pos hb,Nat.add_comm,ho,Nat.testBit_or,Nat.testBit_two_pow,ih];by_cases e:i=k
   ·subst e;simp[hb]
   ·have e2:decide (k=i)=false:=decide_eq_false (by omega);have e3:decide (i<k+1)=decide (i<k):=by rw[decide_eq_decide];omega
    rw[e2,e3,Bool.false_or]
  ·rw[if_neg hb,ih];by_cases e:i=k
   ·subst e;have:n.testBit (f-1-i)=false:=by simpa using hb
    rw[this];simp
   ·have e3:decide (i<k+1)=decide (i<k):=by rw[decide_eq_decide];omega
    rw[e3]
theorem OE (f n:Nat):EW f n f=TA f n:=by refine Nat.eq_of_testBit_eq fun i=>?_;rw[C_,GA]
theorem NY {hk a:Int}{cs:List DL}{st:List Int}{e:Int}(h:Qe hk cs a st=e) (h0:e≠0):(0=Zc hk cs a st∧e=Qe hk cs a st)∧Jl hk cs a st=[]∧(!(Qe hk cs a st==0))=true:=by have:=K0 h h0;refine⟨this.1,this.2.1,?_⟩;rw[h];simp[h0]
def JI:AL (List Int×((Int→Prop)×(Int→Bool))):=(.cons (.k (.list (.i .i64))) (.one (.fn [(.i .i64)] .bo)))
def Yt (d:List Int×((Int→Prop)×(Int→Bool))):Prop:=d.1.length≤1000000∧∀ x∈d.1,d.2.1 x
def Jx (d:List Int×((Int→Prop)×(Int→Bool))):SV:=.val (.i .i64) (Oo d.1 d.2.2)
def JD (d:List Int×((Int→Prop)×(Int→Bool))):List OB:=[]
def ZJ:CSp:=YP JI Yt Jx JD
def QW (l:List Int) (p:(Int→Prop)×(Int→Bool)):Prop :=
 ∃ (e2:Unit) (d20:Int),((l=l∧(SV.pf [(.i .i64)] .bo p.1 p.2=SV.pf [(.i .i64)] .bo p.1 p.2)∧(lI l)=(lI l)∧(0:Int)=d20∧True)∧(True)) ∧
 LoopP (fun (d2:Int) (q2:(Int)→Prop) =>
  ((decide (d2<(lI l)))=true →
   (0≤d2)∧(d2<(List.length l))∧(p.1 (gD l d2 0))∧((p.2 (gD l d2 0))=true →
    (d2=(Oo l p.2)∧(True))) ∧
   ((p.2 (gD l d2 0))=false →
    (I64 (d2+(1:Int)))∧(∃ d3:Int,((l=l∧(SV.pf [(.i .i64)] .bo p.1 p.2=SV.pf [(.i .i64)] .bo p.1 p.2)∧(lI l)=(lI l)∧(d2+(1:Int))=d3∧True)∧(True))∧q2 d3))) ∧
  ((decide (d2<(lI l)))=false →
   ((-1:Int)=(Oo l p.2)∧(True)))) d20
def JH:Cx:=⟨[],[],19,[],0,[],[],[],[],false,[],[],[],[]⟩
def YS (l:List Int) (p:(Int→Prop)×(Int→Bool)):List (Nat×LoopAnn):=[(0,⟨Unit,Int,[0,1,7,8],fun e x=>[.val (.list (.i .i64)) l,.pf [(.i .i64)] .bo p.1 p.2,.val (.i .i64) (((List.length l):Nat):Int),.val (.i .i64) x],fun e x=>[]⟩)]
theorem YU (d:List Int×((Int→Prop)×(Int→Bool))):gwp (JH) (YS d.1 d.2) Q9z 0 (Kl [.tmp 4] (Jx d) (JD d)) (QC 19 (AL.can JI d))=QW d.1 d.2:=by kernel_rfl
abbrev YO:Prop:=OkC Tryz.prog 142 ZJ
theorem Ke (h:∀ (l:List Int) (p:(Int→Prop)×(Int→Bool)),(l.length≤1000000∧∀ x∈l,p.1 x)→QW l p):OkC Tryz.prog 142 ZJ :=
 QP Ib mixed (C:=JH) (V:=fun (d:List Int×((Int→Prop)×(Int→Bool)))=>QW d.1 d.2) ⟨.nil,XsOk.nil,ItsOk.nil,YlOk.nil,IysOk.nil,XfOk.nil⟩ (YU) fun d hp=>h d.1 d.2 hp
theorem Fl {l:List Int}{p:Int→Bool}{k:Nat}(hk:k<l.length) (h:p l[k]=true) (hJ:(l.take k).any p=false):Oo l p=k:=by
 have:l.findIdx? p=some k:=by rw[List.findIdx?_eq_some_iff_getElem];refine⟨hk,h,fun j hj=>?_⟩;have hn:=List.any_eq_false.1 hJ l[j] (List.mem_take_iff_getElem.2 ⟨j,by omega,rfl⟩);simpa using hn
 simp[Oo,this]
theorem Ff {l:List Int}{p:Int→Bool}(hJ:l.any p=false):Oo l p=-1:=by
 have:l.findIdx? p=none:=by rw[List.findIdx?_eq_none_iff];intro x hx;have:=List.any_eq_false.1 hJ x hx;simpa using this
 simp[Oo,this]
theorem CN (l:List Int) (p:Int→Bool):decide (Oo l p≥0)=l.any p:=by
 unfold Oo;cases h:l.findIdx? p with
 |none =>
  have:=List.findIdx?_eq_none_iff.1 h;have:l.any p=false:=by rw[List.any_eq_false];intro x hx;simp[this x hx]
  rw[this];rfl
 |some i =>obtain⟨h1,h2,_⟩:=List.findIdx?_eq_some_iff_getElem.1 h;rw[List.any_eq_true.2 ⟨l[i],List.getElem_mem h1,h2⟩];simp
theorem YW:YO:=Ke fun l p hp=>by
 unfold QW;(try delta lI gD sT I64 Kq pj8 pj4);simp only[true_and,and_true,exists_eq_left',exists_const,decide_eq_true_eq,decide_eq_false_iff_not];refine LoopP.count l.length (fun k=>(l.take k).any p.2=false) (by simp) fun k bG hJ q hq=>?_;simp only[Int.toNat_natCast,Int.ofNat_lt,Qx];refine⟨fun ai=>?_,fun bI=>?_⟩
 ·rw[Qk ai];refine⟨by omega,ai,hp.2 _ (List.getElem_mem ai),fun hx=>?_,fun hx=>⟨by omega,hq ai ?_⟩⟩
  ·rw[Fl ai hx hJ]
  ·rw[D_ ai,List.any_append,hJ];simp[hx]
 ·rw[List.take_of_length_le (by omega)] at hJ;rw[Ff hJ]
def Ja:AL (List Int×((Int→Prop)×(Int→Bool))):=(.cons (.k (.list (.i .i64))) (.one (.fn [(.i .i64)] .bo)))
def WA (d:List Int×((Int→Prop)×(Int→Bool))):Prop:=d.1.length≤1000000∧∀ x∈d.1,d.2.1 x
def J3 (d:List Int×((Int→Prop)×(Int→Bool))):SV:=.val .bo (d.1.any d.2.2)
def J8 (d:List Int×((Int→Prop)×(Int→Bool))):List OB:=[]
def Qr:CSp:=YP Ja WA J3 J8
def Z7 (l:List Int) (p:(Int→Prop)×(Int→Bool)):Prop :=
 (l.length≤1000000∧∀ x∈l,(fun (x1:Int)=>p.1 x1) x)∧((decide ((Oo l (fun (x1:Int)=>(p.2 x1)))≥(0:Int)))=(l.any p.2)∧(True))
def Je:Cx:=⟨[],[(142,ZJ)],9,[],0,[],[],[],[],false,[],[],[],[]⟩
def Y2 (l:List Int) (p:(Int→Prop)×(Int→Bool)):List (Nat×LoopAnn):=[]
theorem Y4 (d:List Int×((Int→Prop)×(Int→Bool))):gwp (Je) (Y2 d.1 d.2) Q9t 0 (Kl [.tmp 4] (J3 d) (J8 d)) (QC 9 (AL.can Ja d))=Z7 d.1 d.2:=by kernel_rfl
abbrev WW:Prop:=OkC Tryz.prog 113 Qr
theorem Y0 (h:∀ (l:List Int) (p:(Int→Prop)×(Int→Bool)),(l.length≤1000000∧∀ x∈l,p.1 x)→Z7 l p):OkC Tryz.prog 113 Qr :=
 QP FY mixed (C:=Je) (V:=fun (d:List Int×((Int→Prop)×(Int→Bool)))=>Z7 d.1 d.2) ⟨(.cons YW .nil),XsOk.nil,ItsOk.nil,YlOk.nil,IysOk.nil,XfOk.nil⟩ (Y4) fun d hp=>h d.1 d.2 hp
theorem Z6:WW:=Y0 fun l p hp=>by exact⟨hp,CN l p.2,trivial⟩
def KU:AL (Int×Int×Int):=(.cons (.k (.i .i64)) (.cons (.ptr (.one (.k (.i .i64)))) (.one (.ptr (.one (.k (.i .i64)))))))
def GJ (d:Int×Int×Int):Prop:=True
def Ky (d:Int×Int×Int):SV:=.val .bo (decide (d.1<d.2.1)||decide (d.2.2<d.1))
def Kw (d:Int×Int×Int):List OB:=[]
def Y8:CSp:=YP KU GJ Ky Kw
def JU (n:Int) (a:Int) (b:Int):Prop :=
 (((decide (n<a))||(decide (n > b)))=(decide (n<a)||decide (b<n))∧(True))
def V0:Cx:=⟨[],[],13,[],0,[],[],[],[],false,[],[],[],[]⟩
def Dl (n:Int) (a:Int) (b:Int):List (Nat×LoopAnn):=[]
theorem DG (d:Int×Int×Int):gwp (V0) (Dl d.1 d.2.1 d.2.2) Z0d 0 (Kl [.tmp 4] (Ky d) (Kw d)) (QC 13 (AL.can KU d))=JU d.1 d.2.1 d.2.2:=by kernel_rfl
abbrev Df:Prop:=OkC Tryz.prog 125 Y8
theorem Dq (h:∀ (n:Int) (a:Int) (b:Int),(True)→JU n a b):OkC Tryz.prog 125 Y8 :=
 QP O5 mixed (C:=V0) (V:=fun (d:Int×Int×Int)=>JU d.1 d.2.1 d.2.2) ⟨.nil,XsOk.nil,ItsOk.nil,YlOk.nil,IysOk.nil,XfOk.nil⟩ (DG) fun d hp=>h d.1 d.2.1 d.2.2 hp
theorem Dm:Df:=Dq fun n a b _=>by unfold JU;(try delta lI gD sT I64 Kq pj8 pj4);exact(by and_intros<;>first|rfl|trivial|simp)
def N8:AL (Int×Int×List Int):=(.cons (.k (.i .i64)) (.cons (.k (.i .i64)) (.one (.k (.list (.i .i64))))))
def Bt (d:Int×Int×List Int):Prop:=d.2.2.length≤1000000
def U4 (d:Int×Int×List Int):SV:=.val .bo (!(d.2.2.any fun n=>decide (n<d.1)||decide (d.2.1<n)))
def U6 (d:Int×Int×List Int):List OB:=[]
def ZR:CSp:=YP N8 Bt U4 U6
def XW (a:Int) (b:Int) (l:List Int):Prop :=
 (l.length≤1000000∧∀ x∈l,(fun (x1:Int)=>True) x)∧((!(l.any (fun (x1:Int)=>(decide (x1<a)||decide (b<x1)))))=(!(l.any fun n=>decide (n<a)||decide (b<n)))∧(True))
def UU:Cx:=⟨[],[(113,Qr),(125,Y8)],11,[],0,[],[],[],[],false,[],[],[],[]⟩
def P4 (a:Int) (b:Int) (l:List Int):List (Nat×LoopAnn):=[]
theorem Hh (d:Int×Int×List Int):gwp (UU) (P4 d.1 d.2.1 d.2.2) c88 0 (Kl [.tmp 6] (U4 d) (U6 d)) (QC 11 (AL.can N8 d))=XW d.1 d.2.1 d.2.2:=by kernel_rfl
abbrev Pj:Prop:=OkC Tryz.prog 88 ZR
theorem Ho (h:∀ (a:Int) (b:Int) (l:List Int),(l.length≤1000000)→XW a b l):OkC Tryz.prog 88 ZR :=
 QP Q4i mixed (C:=UU) (V:=fun (d:Int×Int×List Int)=>XW d.1 d.2.1 d.2.2) ⟨(.cons Z6 (.cons Dm .nil)),XsOk.nil,ItsOk.nil,YlOk.nil,IysOk.nil,XfOk.nil⟩ (Hh) fun d hp=>h d.1 d.2.1 d.2.2 hp
theorem JL:Pj:=Ho fun a b l h=>by unfold XW;(try delta lI gD sT I64 Kq pj8 pj4);exact⟨⟨h,fun _ _=>trivial⟩,rfl,trivial⟩
def Wo:AL (Int):=(.one (.k (.i .i64)))
def VR (d:Int):Prop:=True
def W3 (d:Int):SV:=.val .bo (inI d 1 24)
def XX (d:Int):List OB:=[]
def Qz:CSp:=YP Wo VR W3 XX
def Zt (f:Int):Prop :=
 ([f].length≤1000000)∧((!([f].any fun n=>decide (n<(1:Int))||decide ((24:Int)<n)))=(inI f 1 24)∧(True))
def Wa:Cx:=⟨[(3,(.i .i64))],[(88,ZR)],6,[],0,[],[],[],[],false,[],[],[],[]⟩
def Uz (f:Int):List (Nat×LoopAnn):=[]
theorem Un (d:Int):gwp (Wa) (Uz d) c87 0 (Kl [.tmp 2] (W3 d) (XX d)) (QC 6 (AL.can Wo d))=Zt d:=by kernel_rfl
abbrev Uw:Prop:=OkC Tryz.prog 87 Qz
theorem Um (h:∀ (f:Int),(True)→Zt f):OkC Tryz.prog 87 Qz :=
 QP Q43 mixed (C:=Wa) (V:=fun (d:Int)=>Zt d) ⟨(.cons JL .nil),XsOk.nil,ItsOk.nil,YlOk.nil,IysOk.nil,XfOk.nil⟩ (Un) fun d hp=>h d hp
theorem Q_:Uw:=Um fun f _=>by unfold Zt;(try delta lI gD sT I64 Kq pj8 pj4);have e:∀ n a b:Int,(decide (n<a)||decide (b<n))=!inI n a b:=fun n a b=>(nI n a b).symm;simp only[List.any_cons,List.any_nil,Bool.or_false,e,Bool.not_not,List.length_cons,List.length_nil];exact⟨by omega,(by and_intros<;>first|rfl|trivial|simp)⟩
def W9:AL (Int×List Int):=(.cons (.k (.i .i64)) (.one (.k (.list (.i .i64)))))
def VJ (d:Int×List Int):Prop:=1≤d.1∧d.1≤24∧d.2.length≤1000000
def XK (d:Int×List Int):SV:=.val .bo (!(d.2.any fun n=>!inI n 0 (2 ^ d.1.toNat-1)))
def XN (d:Int×List Int):List OB:=[]
def Z8:CSp:=YP W9 VJ XK XN
def Zu (f:Int) (l:List Int):Prop :=
 (0≤f)∧(I64 (JF .i64 (1:Int) f))∧(I64 ((JF .i64 (1:Int) f)-(1:Int)))∧(l.length≤1000000)∧((!(l.any fun n=>decide (n<(0:Int))||decide (((JF .i64 (1:Int) f)-(1:Int))<n)))=(!(l.any fun n=>!inI n 0 (2 ^ f.toNat-1)))∧(True))
def Wl:Cx:=⟨[],[(88,ZR)],10,[],0,[],[],[],[],false,[],[],[],[]⟩
def Uq (f:Int) (l:List Int):List (Nat×LoopAnn):=[]
theorem Us (d:Int×List Int):gwp (Wl) (Uq d.1 d.2) Z0l 0 (Kl [.tmp 4] (XK d) (XN d)) (QC 10 (AL.can W9 d))=Zu d.1 d.2:=by kernel_rfl
abbrev Uc:Prop:=OkC Tryz.prog 102 Z8
theorem Ug (h:∀ (f:Int) (l:List Int),(1≤f∧f≤24∧l.length≤1000000)→Zu f l):OkC Tryz.prog 102 Z8 :=
 QP FA mixed (C:=Wl) (V:=fun (d:Int×List Int)=>Zu d.1 d.2) ⟨(.cons JL .nil),XsOk.nil,ItsOk.nil,YlOk.nil,IysOk.nil,XfOk.nil⟩ (Us) fun d hp=>h d.1 d.2 hp
theorem Jt:Uc:=Ug fun f l h=>by obtain⟨h1,h2,h3⟩:=h;unfold Zu;(try delta lI gD sT I64 Kq pj8 pj4);have e:∀ n a b:Int,(decide (n<a)||decide (b<n))=!inI n a b:=fun n a b=>(nI n a b).symm;obtain⟨k,rfl⟩:=Int.eq_ofNat_of_zero_le (show 0≤f by omega);have hs:=Z36 (k:=k) (by omega);have hp:=Q0y (k:=k) (by omega);simp only[hs,e,Int.toNat_natCast,BJ];exact⟨by omega,by simp only[Qx];omega,by simp only[Qx];omega,h3,(by and_intros<;>first|rfl|trivial|simp)⟩
def JE:AL (Int):=(.one (.k (.i .u64)))
def Yx (d:Int):Prop:=0≤d∧d≤18446744073709551615
def Jy (d:Int):SV:=.val (.i .u64) ((OY d.toNat:Nat):Int)
def Jz (d:Int):List OB:=[]
def ZI:CSp:=YP JE Yx Jy Jz
def QV (x:Int):Prop :=
 (0≤(8:Int))∧(0≤(8:Int))∧(InK .u64 (JF .u64 (Q8 .and .u64 x (71777214294589695:Int)) (8:Int)))∧(0≤(16:Int))∧(0≤(16:Int))∧(InK .u64 (JF .u64 (Q8 .and .u64 (Q8 .or .u64 (Q8 .and .u64 (Qp .u64 x (8:Int)) (71777214294589695:Int)) (JF .u64 (Q8 .and .u64 x (71777214294589695:Int)) (8:Int))) (281470681808895:Int)) (16:Int)))∧(0≤(32:Int))∧(0≤(32:Int))∧((Q8 .or .u64 (Qp .u64 (Q8 .or .u64 (Q8 .and .u64 (Qp .u64 (Q8 .or .u64 (Q8 .and .u64 (Qp .u64 x (8:Int)) (71777214294589695:Int)) (JF .u64 (Q8 .and .u64 x (71777214294589695:Int)) (8:Int))) (16:Int)) (281470681808895:Int)) (JF .u64 (Q8 .and .u64 (Q8 .or .u64 (Q8 .and .u64 (Qp .u64 x (8:Int)) (71777214294589695:Int)) (JF .u64 (Q8 .and .u64 x (71777214294589695:Int)) (8:Int))) (281470681808895:Int)) (16:Int))) (32:Int)) (IntKind.wrap .u64 (JF .u64 (Q8 .or .u64 (Q8 .and .u64 (Qp .u64 (Q8 .or .u64 (Q8 .and .u64 (Qp .u64 x (8:Int)) (71777214294589695:Int)) (JF .u64 (Q8 .and .u64 x (71777214294589695:Int)) (8:Int))) (16:Int)) (281470681808895:Int)) (JF .u64 (Q8 .and .u64 (Q8 .or .u64 (Q8 .and .u64 (Qp .u64 x (8:Int)) (71777214294589695:Int)) (JF .u64 (Q8 .and .u64 x (71777214294589695:Int)) (8:Int))) (281470681808895:Int)) (16:Int))) (32:Int))))=((OY x.toNat:Nat):Int)∧(True))
def JM:Cx:=⟨[],[],22,[20],0,[],[],[],[],false,[],[],[],[]⟩
def Kg (x:Int):List (Nat×LoopAnn):=[]
theorem K4 (d:Int):gwp (JM) (Kg d) Z07 0 (Kl [.tmp 2] (Jy d) (Jz d)) (QC 22 (AL.can JE d))=QV d:=by kernel_rfl
abbrev YI:Prop:=OkC Tryz.prog 184 ZI
theorem Kj (h:∀ (x:Int),(0≤x∧x≤18446744073709551615)→QV x):OkC Tryz.prog 184 ZI :=
 QP Oh mixed (C:=JM) (V:=fun (d:Int)=>QV d) ⟨.nil,XsOk.nil,ItsOk.nil,YlOk.nil,IysOk.nil,XfOk.nil⟩ (K4) fun d hp=>h d hp
theorem Kk:YI:=Kj fun x h=>by
 obtain⟨h1,h2⟩:=h;unfold QV;(try delta lI gD sT I64 Kq pj8 pj4);obtain⟨n,rfl⟩:=Int.eq_ofNat_of_zero_le h1;have hn:n<2 ^ 64:=by omega
 obtain⟨a1,a2,a3⟩:=sw8 hn;obtain⟨b1,b2,b3⟩:=Z4t a3;have c1:=Z4p b3;simp only[a1,b1,c1,Int.toNat_natCast];refine⟨by omega,by omega,a2,by omega,by omega,b2,by omega,by omega,?_⟩;exact(by and_intros<;>first|rfl|trivial|simp)
def W6:AL (Int):=(.one (.k (.i .u64)))
def Vx (d:Int):Prop:=0≤d∧d≤18446744073709551615
def W0 (d:Int):SV:=.val (.i .u64) ((TA 64 d.toNat:Nat):Int)
def XR (d:Int):List OB:=[]
def JG:CSp:=YP W6 Vx W0 XR
def Zy (x:Int):Prop :=
 (0≤(1:Int))∧(0≤(1:Int))∧(InK .u64 (JF .u64 (Q8 .and .u64 x (6148914691236517205:Int)) (1:Int)))∧(0≤(2:Int))∧(0≤(2:Int))∧(InK .u64 (JF .u64 (Q8 .and .u64 (Q8 .or .u64 (Q8 .and .u64 (Qp .u64 x (1:Int)) (6148914691236517205:Int)) (JF .u64 (Q8 .and .u64 x (6148914691236517205:Int)) (1:Int))) (3689348814741910323:Int)) (2:Int)))∧(0≤(4:Int))∧(0≤(4:Int))∧(InK .u64 (JF .u64 (Q8 .and .u64 (Q8 .or .u64 (Q8 .and .u64 (Qp .u64 (Q8 .or .u64 (Q8 .and .u64 (Qp .u64 x (1:Int)) (6148914691236517205:Int)) (JF .u64 (Q8 .and .u64 x (6148914691236517205:Int)) (1:Int))) (2:Int)) (3689348814741910323:Int)) (JF .u64 (Q8 .and .u64 (Q8 .or .u64 (Q8 .and .u64 (Qp .u64 x (1:Int)) (6148914691236517205:Int)) (JF .u64 (Q8 .and .u64 x (6148914691236517205:Int)) (1:Int))) (3689348814741910323:Int)) (2:Int))) (1085102592571150095:Int)) (4:Int)))∧(0≤(Q8 .or .u64 (Q8 .and .u64 (Qp .u64 (Q8 .or .u64 (Q8 .and .u64 (Qp .u64 (Q8 .or .u64 (Q8 .and .u64 (Qp .u64 x (1:Int)) (6148914691236517205:Int)) (JF .u64 (Q8 .and .u64 x (6148914691236517205:Int)) (1:Int))) (2:Int)) (3689348814741910323:Int)) (JF .u64 (Q8 .and .u64 (Q8 .or .u64 (Q8 .and .u64 (Qp .u64 x (1:Int)) (6148914691236517205:Int)) (JF .u64 (Q8 .and .u64 x (6148914691236517205:Int)) (1:Int))) (3689348814741910323:Int)) (2:Int))) (4:Int)) (1085102592571150095:Int)) (JF .u64 (Q8 .and .u64 (Q8 .or .u64 (Q8 .and .u64 (Qp .u64 (Q8 .or .u64 (Q8 .and .u64 (Qp .u64 x (1:Int)) (6148914691236517205:Int)) (JF .u64 (Q8 .and .u64 x (6148914691236517205:Int)) (1:Int))) (2:Int)) (3689348814741910323:Int)) (JF .u64 (Q8 .and .u64 (Q8 .or .u64 (Q8 .and .u64 (Qp .u64 x (1:Int)) (6148914691236517205:Int)) (JF .u64 (Q8 .and .u64 x (6148914691236517205:Int)) (1:Int))) (3689348814741910323:Int)) (2:Int))) (1085102592571150095:Int)) (4:Int)))∧(Q8 .or .u64 (Q8 .and .u64 (Qp .u64 (Q8 .or .u64 (Q8 .and .u64 (Qp .u64 (Q8 .or .u64 (Q8 .and .u64 (Qp .u64 x (1:Int)) (6148914691236517205:Int)) (JF .u64 (Q8 .and .u64 x (6148914691236517205:Int)) (1:Int))) (2:Int)) (3689348814741910323:Int)) (JF .u64 (Q8 .and .u64 (Q8 .or .u64 (Q8 .and .u64 (Qp .u64 x (1:Int)) (6148914691236517205:Int)) (JF .u64 (Q8 .and .u64 x (6148914691236517205:Int)) (1:Int))) (3689348814741910323:Int)) (2:Int))) (4:Int)) (1085102592571150095:Int)) (JF .u64 (Q8 .and .u64 (Q8 .or .u64 (Q8 .and .u64 (Qp .u64 (Q8 .or .u64 (Q8 .and .u64 (Qp .u64 x (1:Int)) (6148914691236517205:Int)) (JF .u64 (Q8 .and .u64 x (6148914691236517205:Int)) (1:Int))) (2:Int)) (3689348814741910323:Int)) (JF .u64 (Q8 .and .u64 (Q8 .or .u64 (Q8 .and .u64 (Qp .u64 x (1:Int)) (6148914691236517205:Int)) (JF .u64 (Q8 .and .u64 x (6148914691236517205:Int)) (1:Int))) (3689348814741910323:Int)) (2:Int))) (1085102592571150095:Int)) (4:Int)))≤18446744073709551615)∧(((OY (Q8 .or .u64 (Q8 .and .u64 (Qp .u64 (Q8 .or .u64 (Q8 .and .u64 (Qp .u64 (Q8 .or .u64 (Q8 .and .u64 (Qp .u64 x (1:Int)) (6148914691236517205:Int)) (JF .u64 (Q8 .and .u64 x (6148914691236517205:Int)) (1:Int))) (2:Int)) (3689348814741910323:Int)) (JF .u64 (Q8 .and .u64 (Q8 .or .u64 (Q8 .and .u64 (Qp .u64 x (1:Int)) (6148914691236517205:Int)) (JF .u64 (Q8 .and .u64 x (6148914691236517205:Int)) (1:Int))) (3689348814741910323:Int)) (2:Int))) (4:Int)) (1085102592571150095:Int)) (JF .u64 (Q8 .and .u64 (Q8 .or .u64 (Q8 .and .u64 (Qp .u64 (Q8 .or .u64 (Q8 .and .u64 (Qp .u64 x (1:Int)) (6148914691236517205:Int)) (JF .u64 (Q8 .and .u64 x (6148914691236517205:Int)) (1:Int))) (2:Int)) (3689348814741910323:Int)) (JF .u64 (Q8 .and .u64 (Q8 .or .u64 (Q8 .and .u64 (Qp .u64 x (1:Int)) (6148914691236517205:Int)) (JF .u64 (Q8 .and .u64 x (6148914691236517205:Int)) (1:Int))) (3689348814741910323:Int)) (2:Int))) (1085102592571150095:Int)) (4:Int))).toNat:Nat):Int)=((TA 64 x.toNat:Nat):Int)∧(True))
def Wb:Cx:=⟨[],[(184,ZI)],26,[],0,[],[],[],[],false,[],[],[],[]⟩
def Ud (x:Int):List (Nat×LoopAnn):=[]
theorem Up (d:Int):gwp (Wb) (Ud d) Z0h 0 (Kl [.tmp 2] (W0 d) (XR d)) (QC 26 (AL.can W6 d))=Zy d:=by kernel_rfl
abbrev Ut:Prop:=OkC Tryz.prog 153 JG
theorem Ui (h:∀ (x:Int),(0≤x∧x≤18446744073709551615)→Zy x):OkC Tryz.prog 153 JG :=
 QP O2 mixed (C:=Wb) (V:=fun (d:Int)=>Zy d) ⟨(.cons Kk .nil),XsOk.nil,ItsOk.nil,YlOk.nil,IysOk.nil,XfOk.nil⟩ (Up) fun d hp=>h d hp
theorem Ul:Ut:=Ui fun x h=>by
 obtain⟨h1,h2⟩:=h;unfold Zy;(try delta lI gD sT I64 Kq pj8 pj4);obtain⟨n,rfl⟩:=Int.eq_ofNat_of_zero_le h1;have hn:n<2 ^ 64:=by omega
 obtain⟨a1,a2,a3⟩:=sw1 hn;obtain⟨b1,b2,b3⟩:=sw2 a3;obtain⟨c1,c2,c3⟩:=sw4 b3;have hr:=Z2x hn;have he:Vm 4 1085102592571150095 (Vm 2 3689348814741910323 (Vm 1 6148914691236517205 n))=Q9h n:=rfl;simp only[a1,b1,c1,Int.toNat_natCast];rw[he,hr];rw[he] at c3;refine⟨by omega,by omega,a2,by omega,by omega,b2,by omega,by omega,c2,⟨by omega,by omega⟩,?_⟩;exact(by and_intros<;>first|rfl|trivial|simp)
def WV:AL (Int×Int):=(.cons (.k (.i .i64)) (.one (.k (.i .i64))))
def Uv (d:Int×Int):Prop:=1≤d.1∧d.1≤24∧0≤d.2∧d.2<2 ^ d.1.toNat
def Wf (d:Int×Int):SV:=.val (.i .i64) (Q6f d.1 d.2)
def Wk (d:Int×Int):List OB:=[]
def X0:CSp:=YP WV Uv Wf Wk
def ZN (f:Int) (r:Int):Prop :=
 (InK .u64 r)∧(0≤r∧r≤18446744073709551615)∧(InK .u64 f)∧(InK .u64 ((64:Int)-f))∧(0≤((64:Int)-f))∧(I64 (Qp .u64 ((TA 64 r.toNat:Nat):Int) ((64:Int)-f)))∧((Qp .u64 ((TA 64 r.toNat:Nat):Int) ((64:Int)-f))=(Q6f f r)∧(True))
def WX:Cx:=⟨[],[(153,JG)],13,[],0,[],[],[],[],false,[],[],[],[]⟩
def UZ (f:Int) (r:Int):List (Nat×LoopAnn):=[]
theorem N1 (d:Int×Int):gwp (WX) (UZ d.1 d.2) Z0p 0 (Kl [.tmp 4] (Wf d) (Wk d)) (QC 13 (AL.can WV d))=ZN d.1 d.2:=by kernel_rfl
abbrev UL:Prop:=OkC Tryz.prog 137 X0
theorem UO (h:∀ (f:Int) (r:Int),(1≤f∧f≤24∧0≤r∧r<2 ^ f.toNat)→ZN f r):OkC Tryz.prog 137 X0 :=
 QP IQ mixed (C:=WX) (V:=fun (d:Int×Int)=>ZN d.1 d.2) ⟨(.cons Ul .nil),XsOk.nil,ItsOk.nil,YlOk.nil,IysOk.nil,XfOk.nil⟩ (N1) fun d hp=>h d.1 d.2 hp
theorem N9:UL:=UO fun f r h=>by
 obtain⟨h1,h2,h3,h4⟩:=h;unfold ZN;(try delta lI gD sT I64 Kq pj8 pj4);obtain⟨k,rfl⟩:=Int.eq_ofNat_of_zero_le (show 0≤f by omega);obtain⟨n,rfl⟩:=Int.eq_ofNat_of_zero_le h3;simp only[Int.toNat_natCast,BJ] at h4;have hp:=Q0y (k:=k) (by omega);have h4:n<2 ^ k:=by omega
 have hs:Qp .u64 ((TA 64 n:Nat):Int) (64-(k:Int))=((TA k n:Nat):Int):=by rw[show (64-(k:Int))=((64-k:Nat):Int) by omega,Z2j (by omega),ED (by omega) h4]
 have hl:=FM k n;simp only[Int.toNat_natCast,hs];refine⟨by simp only[NI];omega,⟨by omega,by omega⟩,by simp only[NI];omega,by simp only[NI];omega,by omega,by simp only[Qx];omega,?_⟩;exact⟨by unfold Q6f;simp only[Int.toNat_natCast],trivial⟩
def X9:AL ((Int×Int×Bool)×Int):=(.cons (.agg (.cons (.k (.i .i64)) (.cons (.k (.i .i64)) (.one (.k .bo))))) (.one (.ptr (.one (.k (.i .i64))))))
def Km (d:(Int×Int×Bool)×Int):Prop:=1≤d.2∧d.2≤24
def J_ (d:(Int×Int×Bool)×Int):SV:=.val .bo (!QM d.2 (d.1.1,(d.1.2.1,d.1.2.2)))
def JZ (d:(Int×Int×Bool)×Int):List OB:=[]
def J6:CSp:=YP X9 Km J_ JZ
def Z3 (cn:Int) (cr:Int) (ct:Bool) (f:Int):Prop :=
 ([cn].length≤1000000)∧((!(!([cn].any fun n=>decide (n<(-1:Int))||decide ((59:Int)<n))))=false→True)∧((!(!([cn].any fun n=>decide (n<(-1:Int))||decide ((59:Int)<n))))=false→1≤f∧f≤24∧[cr].length≤1000000)∧(((!(!([cn].any fun n=>decide (n<(-1:Int))||decide ((59:Int)<n))))||(!(!([cr].any fun n=>!inI n 0 (2 ^ f.toNat-1)))))=(!QM f (cn,(cr,ct)))∧(True))
def X3:Cx:=⟨[(3,(.i .i64))],[(88,ZR),(102,Z8)],17,[],0,[],[],[],[],false,[],[],[],[]⟩
def KL (cn:Int) (cr:Int) (ct:Bool) (f:Int):List (Nat×LoopAnn):=[]
theorem KI (d:(Int×Int×Bool)×Int):gwp (X3) (KL d.1.1 d.1.2.1 d.1.2.2 d.2) Z0g 0 (Kl [.tmp 3] (J_ d) (JZ d)) (QC 17 (AL.can X9 d))=Z3 d.1.1 d.1.2.1 d.1.2.2 d.2:=by kernel_rfl
abbrev KH:Prop:=OkC Tryz.prog 123 J6
theorem KM (h:∀ (cn:Int) (cr:Int) (ct:Bool) (f:Int),(1≤f∧f≤24)→Z3 cn cr ct f):OkC Tryz.prog 123 J6 :=
 QP Oj mixed (C:=X3) (V:=fun (d:(Int×Int×Bool)×Int)=>Z3 d.1.1 d.1.2.1 d.1.2.2 d.2) ⟨(.cons JL (.cons Jt .nil)),XsOk.nil,ItsOk.nil,YlOk.nil,IysOk.nil,XfOk.nil⟩ (KI) fun d hp=>h d.1.1 d.1.2.1 d.1.2.2 d.2 hp
theorem KP:KH:=KM fun cn cr ct f h=>by obtain⟨h1,h2⟩:=h;unfold Z3;(try delta lI gD sT I64 Kq pj8 pj4);have e:∀ n a b:Int,(decide (n<a)||decide (b<n))=!inI n a b:=fun n a b=>(nI n a b).symm;simp only[List.any_cons,List.any_nil,Bool.or_false,e,Bool.not_not,List.length_cons,List.length_nil];refine⟨by omega,fun _=>trivial,fun _=>⟨h1,h2,by omega⟩,?_⟩;unfold QM;rw[Bool.not_and];exact(by and_intros<;>first|rfl|trivial|simp)
def QJ:AL ((List (Int×Int×Bool))×((Int×Int×Bool→Prop)×(Int×Int×Bool→Bool))):=(.cons (.k (.list (.pair (.i .i64) (.pair (.i .i64) .bo)))) (.one (.fn [(.pair (.i .i64) (.pair (.i .i64) .bo))] .bo)))
def ZK (d:(List (Int×Int×Bool))×((Int×Int×Bool→Prop)×(Int×Int×Bool→Bool))):Prop:=d.1.length≤1000000∧∀ x∈d.1,d.2.1 x
def QH (d:(List (Int×Int×Bool))×((Int×Int×Bool→Prop)×(Int×Int×Bool→Bool))):SV:=.val (.i .i64) (IB d.1 d.2.2)
def QG (d:(List (Int×Int×Bool))×((Int×Int×Bool→Prop)×(Int×Int×Bool→Bool))):List OB:=[]
def Qm:CSp:=YP QJ ZK QH QG
def Qb (l:List (Int×Int×Bool)) (p:(Int×Int×Bool→Prop)×(Int×Int×Bool→Bool)):Prop :=
 ∃ (e2:Unit) (d20:Int),((l=l∧(SV.pf [(.pair (.i .i64) (.pair (.i .i64) .bo))] .bo p.1 p.2=SV.pf [(.pair (.i .i64) (.pair (.i .i64) .bo))] .bo p.1 p.2)∧(lI l)=(lI l)∧(0:Int)=d20∧True)∧(True)) ∧
 LoopP (fun (d2:Int) (q2:(Int)→Prop) =>
  ((decide (d2<(lI l)))=true →
   (0≤d2)∧(d2<(List.length l))∧(p.1 ((gD l d2 (0,(0,false))).1,((gD l d2 (0,(0,false))).2.1,(gD l d2 (0,(0,false))).2.2)))∧((p.2 ((gD l d2 (0,(0,false))).1,((gD l d2 (0,(0,false))).2.1,(gD l d2 (0,(0,false))).2.2)))=true →
    (d2=(IB l p.2)∧(True))) ∧
   ((p.2 ((gD l d2 (0,(0,false))).1,((gD l d2 (0,(0,false))).2.1,(gD l d2 (0,(0,false))).2.2)))=false →
    (I64 (d2+(1:Int)))∧(∃ d3:Int,((l=l∧(SV.pf [(.pair (.i .i64) (.pair (.i .i64) .bo))] .bo p.1 p.2=SV.pf [(.pair (.i .i64) (.pair (.i .i64) .bo))] .bo p.1 p.2)∧(lI l)=(lI l)∧(d2+(1:Int))=d3∧True)∧(True))∧q2 d3))) ∧
  ((decide (d2<(lI l)))=false →
   ((-1:Int)=(IB l p.2)∧(True)))) d20
def QK:Cx:=⟨[],[],19,[],0,[],[],[],[],false,[],[],[],[]⟩
def ZV (l:List (Int×Int×Bool)) (p:(Int×Int×Bool→Prop)×(Int×Int×Bool→Bool)):List (Nat×LoopAnn):=[(0,⟨Unit,Int,[0,1,7,8],fun e x=>[.val (.list (.pair (.i .i64) (.pair (.i .i64) .bo))) l,.pf [(.pair (.i .i64) (.pair (.i .i64) .bo))] .bo p.1 p.2,.val (.i .i64) (((List.length l):Nat):Int),.val (.i .i64) x],fun e x=>[]⟩)]
theorem ZS (d:(List (Int×Int×Bool))×((Int×Int×Bool→Prop)×(Int×Int×Bool→Bool))):gwp (QK) (ZV d.1 d.2) Z02 0 (Kl [.tmp 4] (QH d) (QG d)) (QC 19 (AL.can QJ d))=Qb d.1 d.2:=by kernel_rfl
abbrev ZX:Prop:=OkC Tryz.prog 148 Qm
theorem ZU (h:∀ (l:List (Int×Int×Bool)) (p:(Int×Int×Bool→Prop)×(Int×Int×Bool→Bool)),(l.length≤1000000∧∀ x∈l,p.1 x)→Qb l p):OkC Tryz.prog 148 Qm :=
 QP Is mixed (C:=QK) (V:=fun (d:(List (Int×Int×Bool))×((Int×Int×Bool→Prop)×(Int×Int×Bool→Bool)))=>Qb d.1 d.2) ⟨.nil,XsOk.nil,ItsOk.nil,YlOk.nil,IysOk.nil,XfOk.nil⟩ (ZS) fun d hp=>h d.1 d.2 hp
theorem ZW:ZX:=ZU fun l p hp=>by
 unfold Qb;(try delta lI gD sT I64 Kq pj8 pj4);simp only[true_and,and_true,exists_eq_left',exists_const,decide_eq_true_eq,decide_eq_false_iff_not];refine LoopP.count l.length (fun k=>(l.take k).any p.2=false) (by simp) fun k bG hJ q hq=>?_;simp only[Int.toNat_natCast,Int.ofNat_lt,Qx];refine⟨fun ai=>?_,fun bI=>?_⟩
 ·have ai:k<l.length:=by omega
  rw[Qk ai];refine⟨by omega,by omega,hp.2 _ (List.getElem_mem ai),fun hx=>?_,fun hx=>⟨by omega,hq ai ?_⟩⟩
  ·rw[Ih ai hx hJ]
  ·rw[D_ ai,List.any_append,hJ];simp[hx]
 ·rw[List.take_of_length_le (by omega)] at hJ;rw[Sx hJ]
def QE:AL ((List (Int×Int×Bool))×((Int×Int×Bool→Prop)×(Int×Int×Bool→Bool))):=(.cons (.k (.list (.pair (.i .i64) (.pair (.i .i64) .bo)))) (.one (.fn [(.pair (.i .i64) (.pair (.i .i64) .bo))] .bo)))
def Zm (d:(List (Int×Int×Bool))×((Int×Int×Bool→Prop)×(Int×Int×Bool→Bool))):Prop:=d.1.length≤1000000∧∀ x∈d.1,d.2.1 x
def Qw (d:(List (Int×Int×Bool))×((Int×Int×Bool→Prop)×(Int×Int×Bool→Bool))):SV:=.val .bo (d.1.any d.2.2)
def QB (d:(List (Int×Int×Bool))×((Int×Int×Bool→Prop)×(Int×Int×Bool→Bool))):List OB:=[]
def Qi:CSp:=YP QE Zm Qw QB
def Qa (l:List (Int×Int×Bool)) (p:(Int×Int×Bool→Prop)×(Int×Int×Bool→Bool)):Prop :=
 (l.length≤1000000∧∀ x∈l,(fun (x1:Int×Int×Bool)=>p.1 (x1.1,(x1.2.1,x1.2.2))) x)∧((decide ((IB l (fun (x1:Int×Int×Bool)=>(p.2 (x1.1,(x1.2.1,x1.2.2)))))≥(0:Int)))=(l.any p.2)∧(True))
def QD:Cx:=⟨[],[(148,Qm)],9,[],0,[],[],[],[],false,[],[],[],[]⟩
def ZB (l:List (Int×Int×Bool)) (p:(Int×Int×Bool→Prop)×(Int×Int×Bool→Bool)):List (Nat×LoopAnn):=[]
theorem Zz (d:(List (Int×Int×Bool))×((Int×Int×Bool→Prop)×(Int×Int×Bool→Bool))):gwp (QD) (ZB d.1 d.2) Z0q 0 (Kl [.tmp 4] (Qw d) (QB d)) (QC 9 (AL.can QE d))=Qa d.1 d.2:=by kernel_rfl
abbrev ZA:Prop:=OkC Tryz.prog 124 Qi
theorem ZD (h:∀ (l:List (Int×Int×Bool)) (p:(Int×Int×Bool→Prop)×(Int×Int×Bool→Bool)),(l.length≤1000000∧∀ x∈l,p.1 x)→Qa l p):OkC Tryz.prog 124 Qi :=
 QP IH mixed (C:=QD) (V:=fun (d:(List (Int×Int×Bool))×((Int×Int×Bool→Prop)×(Int×Int×Bool→Bool)))=>Qa d.1 d.2) ⟨(.cons ZW .nil),XsOk.nil,ItsOk.nil,YlOk.nil,IysOk.nil,XfOk.nil⟩ (Zz) fun d hp=>h d.1 d.2 hp
theorem ZC:ZA:=ZD fun l p hp=>by simp only[Qa];exact⟨hp,Q05 l p.2,trivial⟩
def XZ:AL (Int×List (Int×Int×Bool)):=(.cons (.k (.i .i64)) (.one (.k (.list (.pair (.i .i64) (.pair (.i .i64) .bo))))))
def Vj (d:Int×List (Int×Int×Bool)):Prop:=1≤d.1∧d.1≤24∧d.2.length≤1000000
def Xu (d:Int×List (Int×Int×Bool)):SV:=.val .bo (!d.2.isEmpty&&!(d.2.any fun c=>!QM d.1 c))
def XB (d:Int×List (Int×Int×Bool)):List OB:=[]
def QI:CSp:=YP XZ Vj Xu XB
def Ze (f:Int) (cs:List (Int×Int×Bool)):Prop :=
 ((decide ((lI cs) > (0:Int)))=true→cs.length≤1000000∧∀ x∈cs,(fun (x1:Int×Int×Bool)=>1≤f∧f≤24) x)∧(((decide ((lI cs) > (0:Int)))&&(!(cs.any (fun (x1:Int×Int×Bool)=>(!QM f (x1.1,(x1.2.1,x1.2.2)))))))=(!cs.isEmpty&&!(cs.any fun c=>!QM f c))∧(True))
def XP:Cx:=⟨[],[(124,Qi),(123,J6)],16,[],0,[],[],[],[],false,[],[],[],[]⟩
def VV (f:Int) (cs:List (Int×Int×Bool)):List (Nat×LoopAnn):=[]
theorem VO (d:Int×List (Int×Int×Bool)):gwp (XP) (VV d.1 d.2) c86 0 (Kl [.tmp 4] (Xu d) (XB d)) (QC 16 (AL.can XZ d))=Ze d.1 d.2:=by kernel_rfl
abbrev VI:Prop:=OkC Tryz.prog 86 QI
theorem VG (h:∀ (f:Int) (cs:List (Int×Int×Bool)),(1≤f∧f≤24∧cs.length≤1000000)→Ze f cs):OkC Tryz.prog 86 QI :=
 QP Q5o mixed (C:=XP) (V:=fun (d:Int×List (Int×Int×Bool))=>Ze d.1 d.2) ⟨(.cons ZC (.cons KP .nil)),XsOk.nil,ItsOk.nil,YlOk.nil,IysOk.nil,XfOk.nil⟩ (VO) fun d hp=>h d.1 d.2 hp
theorem Zg:VI:=VG fun f cs h=>by
 obtain⟨h1,h2,h3⟩:=h;unfold Ze;(try delta lI gD sT I64 Kq pj8 pj4);refine⟨fun _=>⟨h3,fun _ _=>⟨h1,h2⟩⟩,?_⟩;have:decide ((cs.length:Int) > 0)=!cs.isEmpty:=by cases cs<;>simp
 rw[this];exact(by and_intros<;>first|rfl|trivial|simp)
def GQ:Cx:=⟨[],[(87,Qz),(86,QI)],30,[],0,[],[],[],[],false,[],[],[],[]⟩
def Y5:XSp:=Q44 GQ (fun _=>[]) Z0b [.cell 2 true 3,.tmp 3] 30
theorem WN:XOk Tryz.prog 103 Y5:=Dk Fq mixed (C:=GQ) ⟨(.cons Q_ (.cons Zg .nil)),XsOk.nil,ItsOk.nil,YlOk.nil,IysOk.nil,XfOk.nil⟩ _
def Mv:AL (Int×List (Int×Int×Bool)):=(.one (.agg (.cons (.k (.i .i64)) (.one (.k (.list (.pair (.i .i64) (.pair (.i .i64) .bo))))))))
def P8 (d:Int×List (Int×Int×Bool)):Prop:=d.2.length≤1000
def UW (d:Int×List (Int×Int×Bool)):SV:=.val (.i .i64) (Q7 d.1 d.2)
def Np (d:Int×List (Int×Int×Bool)):List OB:=[]
def VL:CSp:=YP Mv P8 UW Np
def WJ (hk:Int) (cs:List (Int×Int×Bool)):Prop :=
 ∀ w1:List Value,(True)∧((!(inI hk 1 24))=true →
  w1=w1∧((3:Int)=(Q7 hk cs)∧(True))) ∧
 ((!(inI hk 1 24))=false →
  ((decide ((lI cs) > (60:Int)))=true →
   w1=w1∧((5:Int)=(Q7 hk cs)∧(True))) ∧
  ((decide ((lI cs) > (60:Int)))=false →
   (1≤hk∧hk≤24∧cs.length≤1000000)∧((!(!cs.isEmpty&&!(cs.any fun c=>!QM hk c)))=true →
    w1=w1∧((2:Int)=(Q7 hk cs)∧(True))) ∧
   ((!(!cs.isEmpty&&!(cs.any fun c=>!QM hk c)))=false →
    w1=w1∧((0:Int)=(Q7 hk cs)∧(True)))))
def Md:Cx:=⟨[],[(87,Qz),(86,QI)],11,[],0,[(103,Y5)],[],[],[],false,[],[],[],[]⟩
def PY (hk:Int) (cs:List (Int×Int×Bool)):List (Nat×LoopAnn):=[]
theorem PO (d:Int×List (Int×Int×Bool)):gwp (Md) (PY d.1 d.2) c57 0 (Kl [.tmp 2] (UW d) (Np d)) (QC 11 (AL.can Mv d))=WJ d.1 d.2:=by kernel_rfl
abbrev Tz:Prop:=OkC Tryz.prog 57 VL
theorem T5 (h:∀ (hk:Int) (cs:List (Int×Int×Bool)),(cs.length≤1000)→WJ hk cs):OkC Tryz.prog 57 VL :=
 QP Q46 mixed (C:=Md) (V:=fun (d:Int×List (Int×Int×Bool))=>WJ d.1 d.2) ⟨(.cons Q_ (.cons Zg .nil)),(XsOk.cons WN XsOk.nil),ItsOk.nil,YlOk.nil,IysOk.nil,XfOk.nil⟩ (PO) fun d hp=>h d.1 d.2 hp
theorem PQ:Tz:=T5 fun hk cs h=>by
 unfold WJ;(try delta lI gD sT I64 Kq pj8 pj4);intro vals;simp only[true_and,and_true];refine⟨fun c=>?_,fun c=>⟨fun c2=>?_,fun c2=>⟨?_,fun c3=>?_,fun c3=>?_⟩⟩⟩
 ·unfold Q7;rw[if_pos c]
 ·have c2:=of_decide_eq_true c2;unfold Q7;rw[if_neg (by rw[c];decide),if_pos (by omega)]
 ·have c:=V_ c;exact⟨c.1,c.2,by omega⟩
 ·have c2:=of_decide_eq_false c2;rw[RK c (by omega) c3]
 ·have c2:=of_decide_eq_false c2;rw[(LZ c (by omega) c3).1]
end Go.Proofs.Tryz