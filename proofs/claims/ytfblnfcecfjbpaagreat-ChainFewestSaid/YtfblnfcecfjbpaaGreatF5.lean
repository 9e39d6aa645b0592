/- A framework for walks, contracts of functions, and their proofs: part 5. -/
import Derived.Test.YtfblnfcecfjbpaaGreatF4
set_option linter.unusedVariables false
set_option maxRecDepth 100000
namespace Go.V
open Go
section
variable {P:Program}
mutual
theorem Ao:∀ (v:SV) {K:SV->Prop},nmV v K->K v
 |.val k x,K,h=>by simp only[nmV] at h;exact h x rfl
 |.agg l,K,h=>by simp only[nmV] at h;exact Pq l h
 |.tup l,K,h=>by simp only[nmV] at h;exact Pq l h
 |.any,_,h|.dd _ _,_,h|.bid _ _,_,h|.grd _ _,_,h|.nilS,_,h|.nilP,_,h|.nilM,_,h|.nilF,_,h|.lst _,_,h|.sub _ _ _ _,_,h|.elp _ _ _ _,_,h|.rop _ _ _ _,_,h|.box _ _,_,h|.cp _ _,_,h|.map _,_,h|.fn _ _ _,_,h|.pf _ _ _ _,_,h=>by simp only[nmV] at h;exact h
theorem Pq:∀ (l:List SV) {K:List SV->Prop},Q6x l K->K l
 |[],K,h=>by simp only[Q6x] at h;exact h
 |v::r,K,h=>by simp only[Q6x] at h;exact Pq r (Ao v h)
end
theorem Ze {C:Cx}{o:VOp}{ev:Operand->SV}{v:SV}{K:SV->Prop}(h:gnm C o ev v K):K v:=by
 unfold gnm at h;cases hb:(C.nm&&Z56 o ev) with
 |true=>rw[hb] at h;exact Ao v h
 |false=>rw[hb] at h;exact h
theorem He {B:Heap}{pl:Nat->Value}{tb:Nat->Option Bool}{v:SV}{u:Value}(h:SR P B pl tb v u):SR P B pl tb (GU v) u/\gtb tb (GU v):=by
 cases v with
 |bid n c=>simp only[SR] at h;obtain⟨rfl,_⟩:=h;exact⟨ZX _,trivial⟩
 |_=>exact⟨h,trivial⟩
theorem Hi {tb:Nat->Option Bool}(v:SV):gtb tb (GU v):=by cases v<;>trivial
theorem Bb {C:Cx}(aA:COk P C) {B F:Heap}{pl:Nat->Value}{tb:Nat->Option Bool}{s:St}{env:Env}{M:Heap}(hG:Gam P B F pl tb s env M) {d:Nat}{f:SV}{args:List SV}{fV:Value}{vs:List Value}(hf:SR P B pl tb f fV) (ha:SRs P B pl tb args vs) {K:SV->St->Prop}(h:CQ C d f args s K) {R:Value->Heap->Prop}
  (hK:∀ v s' B' F' pl' tb' u M',K v s'->GBase B F M B' F' M'->Gam P B' F' pl' tb' s' env M'->SR P B' pl' tb' v u->R u M'):∃ g a b,fV=.func (.func g) a b/\VCalled P g (a.toList++vs++b.toList) M R:=by
 unfold CQ at h;have lL:SR P M Jz ZF ((BK s.own [f]).getD 0 .any) fV:=by have:=(XU hG.leB hG.obj (show SRs P B pl tb [f] [fV] by simp only[SRs];exact⟨_,[],rfl,hf,rfl⟩)).getD 0 poison;simpa using this
 have jZ:=XU hG.leB hG.obj ha;split at h
 .rename_i c v bs heq;cases hb:(v.ret bs.length&&(bs.all OB.ret&&Nat.blt 0 C.nt)) with
  |false=>rw[hb] at h;exact h.elim
  |true =>rw[hb] at h;obtain⟨h1,h2⟩:=h;simp only[z2] at hb;obtain⟨g,a,b,e,aC,_⟩:=ZO aA.cs lL jZ heq hb.1 hb.2.1 h1;refine⟨g,a,b,e,aC.mono λu M' hr=>?_⟩;obtain⟨pl',h3,h4⟩:=hr.gam (nt:=C.nt) (d:=d) (by simpa [zI] using hb.2.2) hG hb.1 hb.2.1;exact hK _ _ B F pl' tb u M' h2 (.of hG.bf hr.1.2) h3 h4
 .exact h.elim
theorem Bu {C:Cx}(aA:COk P C) {B F:Heap}{pl:Nat->Value}{tb:Nat->Option Bool}{s:St}{env:Env}{M:Heap}(hG:Gam P B F pl tb s env M) {d:Nat}{f:SV}{args:List SV}{fV:Value}{vs:List Value}(hf:SR P B pl tb f fV) (ha:SRs P B pl tb args vs) {K:SV->St->Prop}(h:R2 C d f args s K) (ui:∀ o,f≠.dd o .yv) {R:Value->Heap->Prop}
  (hK:∀ v s' B' F' pl' tb' u M',K v s'->GBase B F M B' F' M'->Gam P B' F' pl' tb' s' env M'->SR P B' pl' tb' v u->R u M'):∃ g a b,fV=.func (.func g) a b/\VCalled P g (a.toList++vs++b.toList) M R:=by
 unfold R2 at h;split at h
 .rename_i g a b;split at h
  .rename_i x hx;have vu:=hf;simp only[SR] at hf;obtain⟨a',b',rfl,h1,h2⟩:=hf;refine⟨g,a'.toArray,b'.toArray,rfl,?_⟩;have:=aA.xs g x hx B F pl tb s env M d _ _ K R hG (h1.append (ha.append h2)) h hK;simpa using this
  .exact Bb aA hG hf ha h hK
 .exact(ui _ rfl).elim
 .exact Bb aA hG hf ha h hK
theorem Ec {C:Cx}{B F:Heap}{pl:Nat->Value}{tb:Nat->Option Bool}{s:St}{env:Env}{M:Heap}(hG:Gam P B F pl tb s env M) {d:Nat}{o:VOp}{K:SV->St->Prop}(h:gnd C d o (gev [] s.env) s K) {R:Value->Heap->Prop}
  (hK:∀ v s' B' F' pl' tb' u M',K v s'->GBase B F M B' F' M'->Gam P B' F' pl' tb' s' env M'->SR P B' pl' tb' v u->R u M'):vop (Q2 P) o env M R:=by
 obtain⟨u,M',pl',v,s',h1,h2,h3,h4⟩:=HV (λx=>hG.evs (Gds.nil (tb:=tb)) x) hG h;have fin:QW (Q6 o (Q3 env) M) (λp=>R p.1 p.2):=by rw[h1];exact hK v s' B F pl' tb u M' h2 (.of hG.bf (Ka h1)) h3.1 h4
 cases o
 case buildSlice e z n ps=>exact fin
 case makeSlice e b z l c=>exact fin
 case append e b x y=>exact fin
 case store size a x=>exact fin
 all_goals exact h.elim
section
variable {B F:Heap}{pl:Nat->Value}{tb:Nat->Option Bool}{s:St}{env:Env}{M:Heap}
def Heap.ins (B M:Heap) (i:Nat) (h:B.n<=M.n):Heap where
 get j:=if j=i then M.get i else B.get j
 n:=M.n
 wf j hj:=by
  by_cases e:j=i
  .simp only[z0 e];subst e;exact M.wf j hj
  .simp only[z1 e];exact B.wf j (zZ h hj)
theorem Heap.q0n (B M:Heap) (i:Nat) (h:B.n<=M.n):(B.ins M i h).get i=M.get i:=by simp[Heap.ins]
theorem Heap.q1c (B M:Heap) {i j:Nat}(h:B.n<=M.n) (e:j≠i):(B.ins M i h).get j=B.get j:=by simp[Heap.ins,e]
theorem Heap.Le.ins {B M:Heap}(h:B.Le M) (i:Nat):B.Le (B.ins M i h.1):=⟨h.1,λj b hb=>by
 by_cases e:j=i
 .subst e;rw[Heap.q0n];exact h.2 _ _ hb
 .rw[Heap.q1c _ _ _ e];exact hb⟩
theorem Heap.Le.q1v {B M:Heap}(h:B.Le M) (i:Nat):(B.ins M i h.1).Le M:=⟨z5 _,λj b hb=>by
 by_cases e:j=i
 .subst e;rw[Heap.q0n] at hb;exact hb
 .rw[Heap.q1c _ _ _ e] at hb;exact h.2 _ _ hb⟩
theorem Heap.q1x {B F M:Heap}(h:B.Le F) (i:Nat) (hB:B.n<=M.n) (hF:F.n<=M.n):(B.ins M i hB).Le (F.ins M i hF):=⟨z5 _,λj b hb=>by
 by_cases e:j=i
 .subst e;rw[Heap.q0n] at hb |-;exact hb
 .rw[Heap.q1c _ _ _ e] at hb |-;exact h.2 _ _ hb⟩
theorem Gam.freeze (hG:Gam P B F pl tb s env M) {o i:Nat}(hl:(Q8 s.own o).live=true) (hi:Oid (pl o) i) :
  GBase B F M (B.ins M i hG.leB.1) (F.ins M i hG.le.1) M/\Gam P (B.ins M i hG.leB.1) (F.ins M i hG.le.1) pl tb ⟨s.env,oset s.own o .dead,s.nx⟩ env M:=by
 have mV:=hG.fresh o i hl hi;have lv:∀ d,(Q8 (oset s.own o .dead) d).live=true->d≠o/\(Q8 s.own d).live=true:=λd h=>by
  rw[Qi] at h;by_cases e:d=o
  .rw[z0 e] at h;cases h
  .rw[z1 e] at h;exact⟨e,h⟩
 refine⟨⟨hG.leB.ins i,hG.le.ins i,λj b h1 h2=>?_,.refl _⟩,⟨Heap.q1x hG.bf i _ _,hG.le.q1v i,SRs.mono (hG.leB.ins i) (λ_ _ h=>h) _ _ hG.env,λd=>?_,λd j h1 h2=>?_,λd d' j av h1 h2 h3 h4=>hG.sep d d' j av (lv d h1).2 (lv d' h2).2 h3 h4,hG.free⟩⟩
 .have e:j≠i:=by rintro rfl;rw[mV] at h1;cases h1
  rw[Heap.q1c _ _ _ e];exact h2
 .simp only[Qi];by_cases e:d=o
  .rw[z0 e];trivial
  .rw[z1 e];exact(hG.obj d).mono (hG.leB.ins i) (λ_ _ h=>h) λ_ _ _=>rfl
 .obtain⟨av,bR⟩:=lv d h1;have e:j≠i:=by rintro rfl;exact hG.sep d o j av bR hl h2 hi
  rw[Heap.q1c _ _ _ e];exact hG.fresh d j bR h2
theorem Gam.own {s':St}(hG:Gam P B F pl tb s env M) (h1:s'.env=s.env) (h2:∀ d,Q8 s'.own d=Q8 s.own d) (h3:s'.nx=s.nx):Gam P B F pl tb s' env M :=
 ⟨hG.bf,hG.le,by rw[h1];exact hG.env,λd=>by rw[h2];exact hG.obj d,λd i=>by rw[h2];exact hG.fresh d i,λd d' i av=>by rw[h2,h2];exact hG.sep d d' i av,λn hn=>hG.free n (by rw[<-h3];exact hn)⟩
theorem Gam.drop (hG:Gam P B F pl tb s env M) (o:Nat):Gam P B F pl tb ⟨s.env,oset s.own o .dead,s.nx⟩ env M:=by
 have lv:∀ d,(Q8 (oset s.own o .dead) d).live=true->d≠o/\(Q8 s.own d).live=true:=λd h=>by
  rw[Qi] at h;by_cases e:d=o
  .rw[z0 e] at h;cases h
  .rw[z1 e] at h;exact⟨e,h⟩
 refine⟨hG.bf,hG.le,hG.env,λd=>?_,λd j h1 h2=>hG.fresh d j (lv d h1).2 h2,λd d' j av h1 h2 h3 h4=>hG.sep d d' j av (lv d h1).2 (lv d' h2).2 h3 h4,hG.free⟩;simp only[Qi];by_cases e:d=o
 .rw[z0 e];trivial
 .rw[z1 e];exact hG.obj d
theorem L6 (s:St) (d:Nat) (b:OB) (q:Nat):Q8 (s.make d .dead).own q=Q8 (oset (s.make d b).own d .dead) q:=by
 simp only[St.make,Qi];by_cases e:q=d
 .rw[z0 e,z0 e]
 .rw[z1 e,z1 e,z1 e]
theorem Ey {C:Cx}(hG:Gam P B F pl tb s env M) {d:Nat}{x:Operand}{K:SV->St->Prop}(h:gn C d (.ext (.rangeMap x)) (gev [] s.env) s K) {R:Value->Heap->Prop}
  (hK:∀ v s' B' F' pl' tb' u M',K v s'->GBase B F M B' F' M'->Gam P B' F' pl' tb' s' env M'->SR P B' pl' tb' v u->R u M'):vop (Q2 P) (.ext (.rangeMap x)) env M R:=by
 have ha:=hG.evs (Gds.nil (tb:=tb)) x;simp only[gn] at h;split at h
 .rename_i o h1;rw[h1] at ha;simp only[SR] at ha;split at h
  .rename_i kk vk m ho;split at h
   .have ao:=hG.obj o;rw[ho] at ao;obtain⟨i,es,clock,h2,h3,h4⟩:=ao;obtain⟨g1,g2⟩:=hG.freeze (o:=o) (i:=i) (by rw[ho];rfl) (by rw[h2];rfl)
    have iK:=g2.push d (.iter kk vk m []) (.pointer (some ⟨M.n,0,none⟩)) (.obj (.iter i clock [] clock) true) rfl
     ⟨M.n,i,es,clock,true,[],rfl,Heap.q0a _ _,by rw[Heap.q0n];exact h3,h4.mono g1.b,rfl,λt r h=>by simp at h⟩
    show QW (Q6 (.ext (.rangeMap x)) (Q3 env) M) _;have hv:Q6 (.ext (.rangeMap x)) (Q3 env) M=some (.pointer (some ⟨M.n,0,none⟩),M.push (.obj (.iter i clock [] clock) true)):=by simp only[Q6,Zc,ha.1,h2,Heap.mapAt,h3]
    rw[hv];exact hK _ _ _ _ _ _ _ _ h (g1.trans (.of g2.bf (Dead.push _ _))) iK (by simp only[SR,W4];exact⟨_,rfl,rfl⟩)
   .exact h.elim
  .exact h.elim
 .exact h.elim
theorem Fk {C:Cx}(hG:Gam P B F pl tb s env M) {d:Nat}{x:Operand}{K:SV->St->Prop}(h:gn C d (.ext (.nextMap x)) (gev [] s.env) s K) {R:Value->Heap->Prop}
  (hK:∀ v s' B' F' pl' tb' u M',K v s'->GBase B F M B' F' M'->Gam P B' F' pl' tb' s' env M'->SR P B' pl' tb' v u->R u M'):vop (Q2 P) (.ext (.nextMap x)) env M R:=by
 have ha:=hG.evs (Gds.nil (tb:=tb)) x;simp only[gn] at h;split at h
 .rename_i o f h1;rw[h1] at ha;simp only[SR] at ha;split at h
  .rename_i kk vk m dn ho;split at h
   .rename_i hf;obtain⟨rfl,ov⟩:=hf;have al:(Q8 s.own o).live=true:=by rw[ho];rfl
    have ao:=hG.obj o;rw[ho] at ao;obtain⟨j,i,es,clock,wr,seen,h2,h3,h4,h5,h6⟩:=ao;obtain⟨b,e2,e3⟩:=ha;rw[h2] at e2;obtain rfl:j=b:=by simpa using e2
    have aF:M.mapAt i=some (es,clock,wr):=by simp[Heap.mapAt,hG.leB.2 _ _ h4]
    have hlen:=h5.1.length;obtain⟨hA,hB⟩:=h;have bc:F.get j=none:=hG.fresh o j al (by rw[h2];rfl);have a_:∀ q i',q≠o->(Q8 s.own q).live=true->Oid (pl q) i'->i'≠j:=λq i' hq hl hi e=>by subst e;exact hG.sep q o i' hq hl al hi (by rw[h2];rfl)
    show LU (Q3 env x) M R;unfold LU;rw[e3];simp only[h3,aF];refine⟨?_,?_,λae=>?_,λe he lQ=>?_⟩
    .cases es with
     |nil=>simp
     |cons e es=>simp[h5.2.2 e (by simp)]
    .rw[z6];intro e he;obtain⟨r,hr⟩:=xg.1 he;obtain⟨_,k1,_⟩:=MR.at h5.1 hr;exact Ln ov k1
    .refine hK _ _ _ _ _ _ _ _ (hA λr hr=>?_) (.of hG.bf (Dead.refl M)) hG (by simp only[SR,SRs];exact⟨[.bool false],rfl,_,[],rfl,rfl,rfl⟩);have dm:r<es.length:=by omega
     have he:=z3 dm;have:=z6.1 ae es[r] (zn dm);have ah:=h5.2.2 _ (zn dm);rw[zp,zi] at this;rcases this with this|this
     .rw[List.contains_iff_mem] at this;obtain⟨t,ht⟩:=xg.1 this;have vw:t<seen.length:=(z7.1 ht).1;have r8:t<dn.length:=by have:=h6.1;omega
      obtain⟨e',k1,k2⟩:=h6.2 t dn[t] (z3 r8);rw[ht] at k2;have:=GD h5.2 he k1 (osj k2);rw[this];exact zn r8
     .omega
    .obtain⟨r,hr⟩:=xg.1 he;have dm:r<es.length:=(z7.1 hr).1;have uj:r∉dn:=λhm=>by
      obtain⟨t,ht⟩:=xg.1 hm;obtain⟨e',k1,k2⟩:=h6.2 t r ht;rw[hr] at k1;obtain rfl:=osj k1;have:seen.contains e.2.2=true:=by rw[List.contains_iff_mem];exact zE k2
      rw[this] at lQ;cases lQ
     refine hK _ _ _ _ _ _ _ _ (hB r (by omega) uj) (.of hG.bf (Dead.upd _ _ _ (by rw[h3];rfl))) (hG.write o _ (hG.le.upd bc _) al (λq i' hq hl hi=>Heap.q0b _ _ (a_ q i' hq hl hi)) ⟨j,i,es,clock,wr,seen++[e.2.2],h2,Heap.q0c _ _ (M.lt h3),h4,h5,?_,λt r' ht=>?_⟩) (by simp only[SR,SRs];exact⟨[.bool true,e.1,e.2.1],rfl,_,_,rfl,rfl,_,_,rfl,trivial,_,_,rfl,trivial,rfl⟩)
     .simp[h6.1]
     .rw[List.getElem?_append] at ht;split at ht
      .rename_i ah;obtain⟨e',k1,k2⟩:=h6.2 t r' ht;refine⟨e',k1,?_⟩;rw[x6 (by have:=h6.1;omega)];exact k2
      .rename_i bw;have h0:t-dn.length=0:=by
        cases hz:t-dn.length with
        |zero=>rfl
        |succ n=>rw[hz] at ht;simp at ht
       rw[h0] at ht;obtain rfl:r=r':=by simpa using ht
       refine⟨e,hr,?_⟩;rw[xc (by have:=h6.1;omega),show t-seen.length=0 by have:=h6.1;omega];rfl
   .exact h.elim
  .exact h.elim
 .exact h.elim
theorem RY {d:Nat}(lX:B.Le F) {ty:Nat}{k:Kind}{xs:List k.T}{nl:Bool}(hk:k.flat=true) {pl':Nat->Value}{u:Value}{M':Heap}(h1:Gam P B F pl' tb (s.make d (.lst ty k xs nl)) env M') (h2:SR P B pl' tb (.lst d) u) (hd:Dead M M') :
  ∃ B' F',GBase B F M B' F' M'/\Gam P B' F' pl' tb (s.make d .dead) env M'/\SR P B' pl' tb (.val (.list k) xs) u:=by
 have ao:=h1.obj d;have bP:Q8 (s.make d (.lst ty k xs nl)).own d=.lst ty k xs nl:=by simp only[St.make,Qi,zx]
 rw[bP] at ao;simp only[SR] at h2;obtain⟨rfl,_⟩:=h2;rcases ao with⟨_,hx,hp⟩|⟨_,i,cap,c,t,hp,cM,hg,hlen,df⟩
 .refine⟨B,F,.of lX hd,(h1.drop d).own rfl (L6 s d _) rfl,?_⟩;simp only[SR];exact⟨_,rfl,.inl ⟨hx,hp⟩⟩
 .obtain⟨g1,g2⟩:=h1.freeze (o:=d) (i:=i) (by rw[bP];rfl) (by rw[hp];rfl);refine⟨_,_,(GBase.of lX hd).trans g1,g2.own rfl (L6 s d _) rfl,?_⟩;simp only[SR];refine⟨_,rfl,.inr ⟨i,0,cap,c,⟨k.size,ty⟩,true,t,hp,cM,by rw[Heap.q0n];exact hg,rfl,by have:=zm k.size cM;omega,?_⟩⟩;rw[zX];exact df.mono λ_ _ e=>KC.flat hk e
theorem CO {d nt:Nat}(dM:0<nt) (hG:Gam P B F pl tb s env M) {ty:Nat}{k:Kind}{xs:List k.T}{nl:Bool}(hk:k.flat=true) {u:Value}{M':Heap}(h:Ret P M (.lst 0) [.lst ty k xs nl] u M') :
  ∃ B' F' pl',GBase B F M B' F' M'/\Gam P B' F' pl' tb (s.make d .dead) env M'/\SR P B' pl' tb (.val (.list k) xs) u:=by
 obtain⟨pl',h1,h2⟩:=h.gam (d:=d) dM hG (by rfl) (by simp only[zR,List.all_nil,xT,OB.ret];exact hk);simp only[St.makes,Nat.zero_mul,zM,SV.ren] at h1 h2;obtain⟨B',F',k⟩:=RY hG.bf hk h1 h2 h.1.2;exact⟨B',F',pl',k⟩
theorem Mf {nt:Nat}{r:Option (Prop×SV×List OB)}{c:Prop}{v:SV}(h:CK nt r=some (c,v)):∃ ty k xs nl,r=some (c,.lst 0,[.lst ty k xs nl])/\v=.val (.list k) xs/\k.flat=true/\0<nt:=by
 unfold CK at h;split at h
 .split at h
  .rename_i k xs _;cases hc:(k.flat&&Nat.blt 0 nt) with
   |false=>rw[hc] at h;cases h
   |true =>rw[hc] at h;obtain⟨rfl,rfl⟩:=QO h;simp only[z2,zI] at hc;exact⟨_,_,_,_,rfl,rfl,hc.1,hc.2⟩
  .cases h
 .cases h
theorem L_ {C:Cx}(aA:CsOk P C.cs) (hG:Gam P B F pl tb s env M) {gs:List Gd}(hg:Gds tb gs) {o:VOp}{c:Prop}{v:SV}{d:Nat}(h:RM C o (gev gs s.env) s.own=some (c,v)) (hc:c) {K:Value->Heap->Prop}
  (hK:∀ u M' B' F' pl',GBase B F M B' F' M'->Gam P B' F' pl' tb (s.make d .dead) env M'->SR P B' pl' tb v u->K u M'):vop (Q2 P) o env M K:=by
 cases o<;>first|(cases h;done)|skip
 case callF f args =>
  simp only[RM] at h;obtain⟨ty,k,xs,nl,heq,rfl,hk,dM⟩:=Mf h;obtain⟨g,a,b,h3,h4,_⟩:=ZO aA (show SR P M Jz ZF (.fn f [] []) (.func (.func f) #[] #[]) by simp only[SR,SRs];exact⟨[],[],rfl,rfl,rfl⟩) (hG.gcall hg args) heq (by rfl) (by simp only[zR,List.all_nil,xT,OB.ret];exact hk) hc;obtain⟨rfl,rfl,rfl⟩:=(by simpa using h3:f=g/\#[]=a/\#[]=b);have:=h4.mono (R':=K) λu M' hr=>by obtain⟨B',F',pl',k1,k2,k3⟩:=CO (d:=d) dM hG hk hr;exact hK u M' B' F' pl' k1 k2 k3
  show VCalled P f (args.map (Q3 env)) M K;simpa using this
 case callV f args =>
  simp only[RM] at h;obtain⟨ty,k,xs,nl,heq,rfl,hk,dM⟩:=Mf h;obtain⟨g,a,b,h3,h4,_⟩:=ZO aA (hG.gfun hg f) (hG.gcall hg args) heq (by rfl) (by simp only[zR,List.all_nil,xT,OB.ret];exact hk) hc;exact Nn h3 (h4.mono λu M' hr=>by
   obtain⟨B',F',pl',k1,k2,k3⟩:=CO (d:=d) dM hG hk hr;exact hK u M' B' F' pl' k1 k2 k3)
 case buildSlice e z n ps =>
  simp only[RM] at h;split at h
  .rename_i k uk;split at h
   .rename_i dI;split at h
    .rename_i xs hx;obtain⟨rfl,rfl⟩:=QO h;have um:gn C d (.buildSlice e z n ps) (gev gs s.env) s (λv s'=>v=.lst d/\s'=s.make d (.lst e.ty k xs false)):=by
      simp only[gn,uk,hx];rw[z0 ⟨dI.1,dI.2.1⟩];simp
     obtain⟨u,M',pl',v,s',h1,⟨rfl,rfl⟩,⟨h3,_⟩,h4⟩:=NN (λx=>hG.evs hg x) hG um;obtain⟨B',F',k1,k2,k3⟩:=RY hG.bf dI.2.2 h3 h4 (Ka h1);show QW (Q6 (.buildSlice e z n ps) (Q3 env) M) _;rw[h1];exact hK u M' B' F' pl' k1 k2 k3
    .cases h
   .cases h
  .cases h
theorem Lo {C:Cx}{o:VOp}{ev:Operand->SV}{own:Own}{c:Prop}{v:SV}(h:RM C o ev own=some (c,v)):∃ (k:Kind) (xs:List k.T),v=.val (.list k) xs:=by
 cases o<;>first|(cases h;done)|skip
 case callF=>simp only[RM] at h;obtain⟨ty,k,xs,nl,_,hv,_⟩:=Mf h;exact⟨k,xs,hv⟩
 case callV=>simp only[RM] at h;obtain⟨ty,k,xs,nl,_,hv,_⟩:=Mf h;exact⟨k,xs,hv⟩
 case buildSlice e z n ps =>
  simp only[RM] at h;split at h
  .split at h
   .split at h
    .obtain⟨_,rfl⟩:=QO h;exact⟨_,_,rfl⟩
    .cases h
   .cases h
  .cases h
theorem Q0m {C:Cx}(aA:COk P C) {B F:Heap}{pl:Nat->Value}{tb:Nat->Option Bool}{s:St}{env:Env}{M:Heap}(hG:Gam P B F pl tb s env M) {d:Nat}{o:VOp}{K:SV->St->Prop}(h:gn C d o (gev [] s.env) s K) {R:Value->Heap->Prop}
  (hK:∀ v s' B' F' pl' tb' u M',K v s'->GBase B F M B' F' M'->Gam P B' F' pl' tb' s' env M'->SR P B' pl' tb' v u->R u M'):vop (Q2 P) o env M R:=by
 have aj:=hG.evs (Gds.nil (tb:=tb));have act:∀ o {T:Nat},NOk P B F tb o (Q3 env) env M K T s pl->(∀ R',QW (Q6 o (Q3 env) M) (λp=>R' p.1 p.2)->vop (Q2 P) o env M R')->vop (Q2 P) o env M R:=λo _ ⟨u,M',pl',v,s',h1,h2,h3,h4⟩ hv=>hv R (by rw[h1];exact hK v s' B F pl' tb u M' h2 (.of hG.bf (Ka h1)) h3.1 h4);have ax:∀ args:List Operand,SRs P B pl tb (args.map (gev [] s.env)) (args.map (Q3 env)):=λargs=>SRs.map λx _=>hG.evs Gds.nil x;cases o
 case alloc t z=>exact act _ (Ov aj hG h) λ_ h=>h
 case box t x=>exact act _ (Q8x aj hG h) λ_ h=>h
 case buildSlice e z n ps=>exact act _ (NN aj hG h) λ_ h=>h
 case makeSlice e b z l c=>exact act _ (P9 aj hG h) λ_ h=>h
 case append e b x y=>exact act _ (Az aj hG h) λ_ h=>h
 case store size a x=>exact act _ (I4 aj hG h) λ_ h=>h
 case callF f args =>
  simp only[gn] at h;obtain⟨g,a,b,h3,h4⟩:=Bu aA hG (show SR P B pl tb (.fn f [] []) (.func (.func f) #[] #[]) by simp only[SR,SRs];exact⟨[],[],rfl,rfl,rfl⟩) (ax args) h (λ_ e=>by cases e) hK;obtain⟨rfl,rfl,rfl⟩:=(by simpa using h3:f=g/\#[]=a/\#[]=b);show VCalled P f (args.map (Q3 env)) M R;simpa using h4
 case callV f args =>
  simp only[gn] at h;by_cases hy:∃ o,gev [] s.env f=.dd o .yv
  .obtain⟨o,hy⟩:=hy;have hf:=hG.evs (Gds.nil (tb:=tb)) f;have h':R2 C d (gev [] s.env f) (args.map (gev [] s.env)) s K:=h;rw[hy] at hf h';simp only[SR,DR] at hf;obtain⟨i,hp,hv⟩:=hf;simp only[R2] at h';split at h'
   .rename_i y uo;have:=aA.yl o y uo B F pl tb s env M _ _ K R i hG (ax args) h' hp hK;simp only[vop,hv];exact this
   .exact h'.elim
  obtain⟨g,a,b,h3,h4⟩:=Bu aA hG (hG.evs Gds.nil f) (ax args) h (λo e=>hy ⟨o,e⟩) hK;exact Nn h3 h4
 case ext x =>
  cases x
  case mapUpdate mk m k v=>exact act _ (Hr aj hG h) λ_ h=>h
  case delete mk m k=>exact act _ (CP aj hG h) λ_ h=>h
  case mapEntry mk z m k=>exact act _ (Rc aj hG h) λ_ h=>h
  case entryStore m s v=>exact act _ (Bj aj hG h) λ_ h=>h
  case copy size a b=>exact act _ (Q3q aj hG h) λ_ h=>h
  case unsafeStr e a n=>exact False.elim h
  case strBytes e a=>exact False.elim h
  case rangeMap a=>exact Ey hG h hK
  case nextMap a=>exact Fk hG h hK
  all_goals exact h.elim
 all_goals exact h.elim
theorem Gam.frz (hG:Gam P B F pl tb s env M) (o:Nat):∃ B' F',GBase B F M B' F' M/\Gam P B' F' pl tb (s.frz o) env M:=by
 unfold St.frz;split
 .rename_i ty k xs nl ho;have fin:∀ {B' F':Heap},Gam P B' F' pl tb ⟨s.env,oset s.own o .dead,s.nx⟩ env M->KC B' (.list k) xs [pl o]->Gam P B' F' pl tb ⟨SVs.frz o k xs s.env,OU o k xs s.own,s.nx⟩ env M:=λ{B' F'} h hk=>by
   have e1:∀ d,Q8 (OU o k xs s.own) d=(Q8 (oset s.own o .dead) d).frz o k xs:=λd=>by
    rw[FV,Qi];by_cases e:d=o
    .rw[z0 e,z0 e];rfl
    .rw[z1 e,z1 e]
   have lv:∀ d,(Q8 (OU o k xs s.own) d).live=(Q8 (oset s.own o .dead) d).live:=λd=>by rw[e1,OB.q2a]
   refine⟨h.bf,h.le,SRs.frz hk _ _ h.env,λd=>?_,λd i h1 h2=>?_,λd d' i av h1 h2=>?_,h.free⟩
   .simp only[e1];exact(h.obj d).frz hk
   .simp only[lv] at h1;exact h.fresh d i h1 h2
   .simp only[lv] at h1 h2;exact h.sep d d' i av h1 h2
  have ao:=hG.obj o;rw[ho] at ao;rcases ao with⟨_,hx,hp⟩|⟨_,i,cap,c,t,hp,cM,hg,hlen,df⟩
  .exact⟨B,F,.of hG.bf (.refl _),fin (hG.drop o) ⟨_,rfl,.inl ⟨hx,hp⟩⟩⟩
  .obtain⟨g1,g2⟩:=hG.freeze (o:=o) (i:=i) (by rw[ho];rfl) (by rw[hp];rfl);refine⟨_,_,g1,fin g2 ⟨_,rfl,.inr ⟨i,0,cap,c,⟨k.size,ty⟩,true,t,hp,cM,by rw[Heap.q0n];exact hg,rfl,by have:=zm k.size cM;omega,?_⟩⟩⟩;rw[zX];exact df.mono λ_ _ e=>KC.mono g1.b e
 .exact⟨B,F,.of hG.bf (.refl _),hG⟩
theorem GRel.frzs {B0 F0 D0:Heap}:∀ (l:List Nat) {s:St},GRel P B0 F0 D0 s env M->GRel P B0 F0 D0 (s.frzs l) env M
 |[],_,h=>h
 |o::r,s,⟨B,F,pl,tb,hB,hG⟩=>by obtain⟨B',F',g1,g2⟩:=hG.frz o;exact GRel.frzs r ⟨B',F',pl,tb,hB.trans g1,g2⟩
end
theorem Sp {j:Nat}{f:Nat->Prop}:∀ {n i:Nat},OD (j:Int) f n i->i<=j->j<i+n->f j
 |0,i,_,h1,h2=>by omega
 |n+1,i,h,h1,h2=>by
  rcases zh i j with h3|h3
  .exact Sp h.2 h3 (by omega)
  .have:j=i:=by omega
   subst this;exact h.1 rfl
theorem I9 {o:VOp}{len i:Nat}{f:Nat->VOp}(h:Q9a o=some (len,i,f)) {n:Nat}:(∃ size x,f n=.indexAddrArr len size x (.const (.int .i64 (Int.ofNat n))))\/∃ agg size x,f n=.indexArr len agg size x (.const (.int .i64 (Int.ofNat n))):=by
 unfold Q9a at h;split at h
 .cases h;exact .inl ⟨_,_,rfl⟩
 .cases h;exact .inr ⟨_,_,_,rfl⟩
 .cases h
theorem OW {o:VOp}{len i:Nat}{f:Nat->VOp}(h:Q9a o=some (len,i,f)) {S:VSpecs}{env:Env}{M:Heap}{k:IntKind}{n:Nat}(he:Q3 env (.tmp i)=.int k (n:Int)) {R:Value->Heap->Prop}(hv:vop S (f n) env M R):vop S o env M R:=by
 have hc:Q3 env (.const (.int .i64 (Int.ofNat n)))=.int .i64 (n:Int):=rfl;unfold Q9a at h;split at h
 .rename_i len size x t;cases h;change QW (Q6 _ (Q3 env) M) _ at hv;change QW (Q6 _ (Q3 env) M) _;simp only[Q6,he,hc] at hv |-;generalize Q3 env x=u at hv |-;cases u<;>first|exact hv|skip
  rename_i p;cases p<;>first|exact hv|skip
  rename_i a;obtain⟨b,o,sp⟩:=a;cases sp<;>exact hv
 .rename_i len agg size x t;cases h;change QW (Q6 _ (Q3 env) M) _ at hv;change QW (Q6 _ (Q3 env) M) _;simp only[Q6,he,hc] at hv |-;generalize Q3 env x=u at hv |-;cases u<;>exact hv
 .cases h
theorem TA {C:Cx}(aA:COk P C) {B0 F0 D0:Heap}{s:St}{env:Env}{M:Heap}(hR:GRel P B0 F0 D0 s env M) {o:VOper}{K:St->Prop}(h:Z0q C o s K) {R:Env->Heap->Prop}(hK:∀ s' af M',K s'->GRel P B0 F0 D0 s' af M'->R af M') :
  QW (J3 env o.guard) λb=>vif b (vop (Q2 P) o.op env M λv M'=>R (X7 env o.dst v) M') (R (X7 env o.dst undef) M):=by
 unfold Z0q at h;split at h
 .rename_i hg;rw[hg];refine⟨λ_=>?_,λe=>by cases e⟩
  replace hR:=hR.frzs (Q53 C (o.dst.getD 0) o.op (gev [] s.env) s.own)
  generalize s.frzs (Q53 C (o.dst.getD 0) o.op (gev [] s.env) s.own)=s at h hR;obtain⟨B,F,pl,tb,hB,hG⟩:=hR;unfold Z4n at h;split at h
  .rename_i len i f r9;split at h
   .rename_i k j hj;obtain⟨h1,h2,h3⟩:=h;obtain⟨n,rfl⟩:=xm h1;have hn:n<len:=by omega
    have h4:=Sp h3 (Nat.zero_le n) (by omega);have he:=J7 hj (hG.evs (Gds.nil (tb:=tb)) (.tmp i));split at h4
    .rename_i cs v dG;obtain⟨k1,k2⟩:=Zj h4
     replace k1:=Ze k1
     have hv:=HK (C:=C) aA.cs hG Gds.nil (o:=f n) (raw:=C.raw.contains (o.dst.getD 0)) (cs:=cs) (v:=v) (by
      rw[<-dG];obtain⟨size,x,hf⟩|⟨agg,size,x,hf⟩:=I9 r9<;>rw[hf];rfl;rfl) (k2 λg hg=>by cases hg) λu hu=>hK _ _ _ k1 ⟨B,F,pl,tb,hB,hG.put o.dst hu⟩
     exact OW r9 he hv
    .exact h4.elim
   .exact h.elim
  unfold Z4g at h;split at h
  .rename_i c a b bG;split at h
   .rename_i v hv;obtain⟨u,h1,h2⟩:=Uo hG Gds.nil hv;rw[bG];show QW (Q6 (.pick c a b) (Q3 env) M) _;rw[h1];exact hK _ _ _ (Ze h) ⟨B,F,pl,tb,hB,hG.put o.dst h2⟩
   .exact h.elim
  .rename_i vz;cases hq:FO o.op with
   |true =>
    rw[hq] at h;simp only[zg] at h;split at h
    .rename_i cs v dG;obtain⟨h1,h2⟩:=Zj h
     replace h1:=Ze h1
     refine HK (C:=C) aA.cs hG Gds.nil (raw:=C.raw.contains (o.dst.getD 0)) (cs:=cs) (v:=v) ?_ (h2 λg hg=>by cases hg) λu hu=>hK _ _ _ h1 ⟨B,F,pl,tb,hB,hG.put o.dst hu⟩;rw[<-dG];cases ho:o.op<;>first|rfl|(rw[ho] at hq;cases hq)
    .exact h.elim
   |false =>
    rw[hq] at h;simp only[zO] at h;split at h
    .rename_i bG;split at h
     .rename_i kk vk _;obtain⟨h1,h2⟩:=IU hG (C.off+o.dst.getD 0) kk vk;rw[bG];change R (X7 env o.dst (.map (some M.n))) (M.push (.obj (.map [] 0) true));exact hK _ _ _ h ⟨B,F,_,tb,ML hB (Dead.push _ _),h1.put o.dst h2⟩
     .exact h.elim
    .rename_i bG;cases kO:Lr C (o.dst.getD 0) o.op (gev [] s.env) with
     |true =>rw[kO] at h;simp only[zg] at h;exact Ec hG h λv s' B' F' pl' tb' u M' h1 hd h2 h3=>hK _ _ _ h1 ⟨B',F',pl',tb',hB.trans hd,h2.put o.dst h3⟩
     |false =>rw[kO] at h;simp only[zO] at h;exact Q0m aA hG h λv s' B' F' pl' tb' u M' h1 hd h2 h3=>hK _ _ _ h1 ⟨B',F',pl',tb',hB.trans hd,h2.put o.dst h3⟩
 .rename_i j want hg;obtain⟨B,F,pl,tb,hB,hG⟩:=hR;rw[hg];split at h
  .exact h.elim
  .rename_i gs s' dY;obtain⟨tb',bp,cT,b,hw,bm,bE⟩:=XJ hG dY;rw[hw];refine⟨λe=>?_,λe=>?_⟩
   .have gM:Gds tb' gs:=λg hg=>⟨bm e g hg,cT g hg⟩;have fin:∀ {v u},SR P B pl tb' v u->SR P B pl tb' (.grd gs (GU v)) u:=λ{v u} hs=>by
     simp only[SR];obtain⟨h1,h2⟩:=He hs;exact⟨⟨cT,h2⟩,λ_=>h1,λ⟨g,hg,av⟩=>absurd (bm e g hg) av⟩
    split at h
    .rename_i c a b' bG;split at h
     .rename_i v hv;obtain⟨u,h1,h2⟩:=Uo bp gM hv;rw[bG];show QW (Q6 (.pick c a b') (Q3 env) M) _;rw[h1];exact hK _ _ _ (Ze h) ⟨B,F,pl,tb',hB,bp.put o.dst (fin h2)⟩
     .exact h.elim
    .split at h
     .rename_i cs v dG;obtain⟨h1,h2⟩:=Zj h
      replace h1:=Ze h1
      exact HK aA.cs bp gM dG (h2 (bm e)) λu hu=>hK _ _ _ h1 ⟨B,F,pl,tb',hB,bp.put o.dst (fin hu)⟩
     .split at h
      .rename_i c v kP;obtain⟨h1,h2⟩:=Zj h
       replace h1:=Ze h1
       refine L_ aA.cs bp gM (d:=C.off+o.dst.getD 0) kP (h2 (bm e) c (by simp)) λu M' B' F' pl' k1 k2 k3=>hK _ _ _ h1 ⟨B',F',pl',tb',hB.trans k1,k2.put o.dst ?_⟩;simp only[SR];refine⟨⟨cT,?_⟩,λ_=>k3,λ⟨g,hg,av⟩=>absurd (bm e g hg) av⟩;obtain⟨k,xs,rfl⟩:=Lo kP;trivial
      .exact h.elim
   .have fin:∀ v,SR P B pl tb' (.grd gs (GU v)) undef:=λv=>by
     simp only[SR];obtain⟨g,hg,av⟩:=bE e;exact⟨⟨cT,Hi v⟩,λae=>absurd (ae g hg) av,λ_=>trivial⟩
    split at h
    .split at h
     .exact hK _ _ _ (Ze h) ⟨B,F,pl,tb',hB,bp.put o.dst (fin _)⟩
     .exact h.elim
    .split at h
     .exact hK _ _ _ (Ze (Zj h).1) ⟨B,F,pl,tb',hB,bp.put o.dst (fin _)⟩
     .split at h
      .rename_i c v kP;refine hK _ _ _ (Ze (Zj h).1) ⟨B,F,_,tb',hB,(bp.make (C.off+o.dst.getD 0) .dead undef bp.le (λ_ _ _ _ _=>rfl) trivial (λi hl _=>by cases hl)).put o.dst ?_⟩;simp only[SR];obtain⟨g,hg,av⟩:=bE e;refine⟨⟨cT,?_⟩,λae=>absurd (ae g hg) av,λ_=>trivial⟩;obtain⟨k,xs,rfl⟩:=Lo kP;trivial
      .exact h.elim
theorem Ix {C:Cx}(aA:COk P C) {B0 F0 D0:Heap}{s:St}{env:Env}{M:Heap}(hR:GRel P B0 F0 D0 s env M) {o:VOper}{K:St->Prop}(h:gop C o s K) {R:Env->Heap->Prop}(hK:∀ s' af M',K s'->GRel P B0 F0 D0 s' af M'->R af M') :
  QW (J3 env o.guard) λb=>vif b (vop (Q2 P) o.op env M λv M'=>R (X7 env o.dst v) M') (R (X7 env o.dst undef) M):=by
 unfold gop at h;split at h
 .rename_i t ht;have ox:=hR;obtain⟨B,F,pl,tb,hB,hG⟩:=hR;rw[K9 hG ht];cases t with
  |true =>simp only[zg] at h;exact TA aA ox (o:=⟨o.dst,o.op,none⟩) h hK
  |false =>simp only[zO] at h;exact⟨(λe=>by cases e),λ_=>hK _ _ _ h ⟨B,F,pl,tb,hB,hG.put o.dst (by simp[SR])⟩⟩
 .exact TA aA hR h hK
theorem C4 {B0 F0 D0:Heap}{s s':St}{env:Env}{M:Heap}(hR:GRel P B0 F0 D0 s env M) {d:Nat}(h:Q66 d s=some s'):GRel P B0 F0 D0 s' env M:=by
 unfold Q66 at h;split at h
 .rename_i o off hd;cases hz:Nat.beq off 0 with
  |false=>rw[hz] at h;cases h
  |true =>
   rw[hz] at h;simp only[zg] at h;have hz:off=0:=zH hz;subst hz;split at h
   .rename_i l _ ho;simp only[xd] at h;subst h;obtain⟨B,F,pl,tb,hB,hG⟩:=hR;have ao:=hG.obj o;rw[ho] at ao;obtain⟨i,c,e,t,e1,e2,e3,_⟩:=ao;obtain⟨k1,k2⟩:=hG.freeze (o:=o) (i:=i) (by rw[ho];rfl) (by rw[e1];rfl);have h1:=hG.env.getD d undef;rw[hd] at h1;have sr:SR P (B.ins M i hG.leB.1) pl tb (.cp l 0) (env.getD d undef):=by
     simp only[SR] at h1 |-;obtain⟨b,q1,q2⟩:=h1;rw[e1] at q1;obtain rfl:i=b:=by simpa using q1
     refine⟨i,c,e,true,t,?_,q2,SRs.mono k1.b (λ_ _ h=>h) _ _ e3⟩;rw[Heap.q0n];exact e2
    have:=k2.put (some d) sr;refine⟨_,_,pl,tb,hB.trans k1,?_⟩;have e2:X7 env (some d) (env.getD d undef)=env:=by
     show env.set d _=env;rcases zh d env.length with h|h
     .rw[z4,z3 h];simp
     .rw[List.set_eq_of_length_le h]
    rw[e2] at this;exact this
   .cases h
 .cases h
theorem E8 {C:Cx}{B0 F0 D0:Heap}{s:St}{env:Env}{M:Heap}(hR:GRel P B0 F0 D0 s env M) {d:Option Nat}{K:St->Prop}(h:Z1e C d K s):∃ s2,K s2/\GRel P B0 F0 D0 s2 env M:=by
 unfold Z1e at h;split at h
 .exact⟨s,h,hR⟩
 .rename_i d;cases hb:C.spl.contains d with
  |false=>rw[hb] at h;exact⟨s,h,hR⟩
  |true =>
   rw[hb] at h;simp only[zg] at h;split at h
   .rename_i t ht;obtain⟨B,F,pl,tb,hB,hG⟩:=hR;have he:=XF ht (hG.env.getD d undef);have bj:∀ v,SR P B pl tb v (env.getD d undef)->GRel P B0 F0 D0 (s.put (some d) v) env M:=λv hv=>by
     have:=hG.put (some d) hv;refine⟨B,F,pl,tb,hB,?_⟩;have e2:X7 env (some d) (env.getD d undef)=env:=by
      show env.set d _=env;rcases zh d env.length with h|h
      .rw[z4,z3 h];simp
      .rw[List.set_eq_of_length_le h]
     rw[e2] at this;exact this
    have sr:SR P B pl tb (.grd [] (.val .bo t)) (env.getD d undef):=by simp only[SR];exact⟨⟨(λg hg=>by cases hg),trivial⟩,(λ_=>by rw[he];simp[KC]),λ⟨g,hg,_⟩=>by cases hg⟩
    cases hc:C.raw.contains (3000000+d) with
    |true =>
     rw[hc] at h;cases t with
     |true=>exact⟨_,h,bj _ sr⟩
     |false=>exact⟨_,h,bj _ sr⟩
    |false =>
     rw[hc] at h;cases t with
     |true=>exact⟨_,h.1 rfl,bj _ sr⟩
     |false=>exact⟨_,h.2 rfl,bj _ sr⟩
   .split at h
    .rename_i s' hf;exact⟨s',h,C4 hR hf⟩
    .exact h.elim
theorem Mb {C:Cx}(aA:COk P C) {B0 F0 D0:Heap}:∀ (ops:List VOper) {s:St}{env:Env}{M:Heap},GRel P B0 F0 D0 s env M->∀ {K:St->Prop},Z15 C ops s K->∀ {R:Env->Heap->Prop},(∀ s' af M',K s'->GRel P B0 F0 D0 s' af M'->R af M')->T1 (Q2 P) ops env M R
 |[],s,env,M,hR,_K,h,_R,hK=>hK s env M h hR
 |_o::r,_s,_env,_σ,hR,_K,h,_R,hK=>Ix (R:=λenv M=>T1 (Q2 P) r env M _R) aA hR h λ_ _ _ h1 h2=>by obtain⟨s2,k1,k2⟩:=E8 h2 h1;exact Mb aA r k2 k1 hK
theorem Oi {S:VSpecs}{l:List DOper}{rest:List DSeg}{env:Env}{M:Heap}{K:Env->Heap->Prop}(h:l.all (λo=>!(o.kind==2)&&!(o.op.kind==2))=true) (hv:T1 S (l.map dv) env M λenv M=>Mn S rest env M K):Mn S (.alts [l]::rest) env M K:=by
 intro ops ho;obtain rfl:=z8.1 ho;have key:∀ (l:List DOper) (env:Env) (pend:List (Nat×(Heap->Prop))) (K':Env->Heap->Prop),l.all (λo=>!(o.kind==2)&&!(o.op.kind==2))=true->T1 S (l.map dv) env M K'->Zm S l env [M] M pend K':=by
  intro l;induction l with
  |nil=>intro env pend K' _ h;exact h
  |cons o rest ih =>
   intro env pend K' hk h;simp only[zR,z2,Bool.not_eq_true',wj] at hk;obtain⟨⟨bu,au⟩,hr⟩:=hk;have hr:rest.all (λo=>!(o.kind==2)&&!(o.op.kind==2))=true:=by simpa using hr
   simp only[zF,T1,dv] at h;simp only[Zm];cases hw:J3 env o.guard with
   |none=>rw[hw] at h;exact h.elim
   |some b =>
    rw[hw] at h;obtain⟨ht,hf⟩:=h;refine⟨λe=>?_,λe=>?_⟩
    .have ht:=ht e;obtain⟨p,hp,lx⟩:∃ p,Q6 o.op (Q3 env) M=some p/\T1 S (rest.map dv) (X7 env o.dst p.1) p.2 K':=by
      have:=ht;unfold vop at this;split at this
      .rename_i f bN heq;rw[heq] at au;exact absurd rfl au
      .rename_i f bN heq;rw[heq] at au;exact absurd rfl au
      .rename_i x heq;rw[heq] at au;exact absurd rfl au
      .cases dS:Q6 o.op (Q3 env) M with
       |none=>rw[dS] at this;exact this.elim
       |some p=>rw[dS] at this;exact⟨p,rfl,this⟩
     have hq:p.2=M:=Dr au (v:=p.1) (M':=p.2) hp;rw[hq] at lx;rw[z1 bu];split
     .rw[hp];refine⟨λU hτ=>?_,ih _ _ _ hr lx⟩;have:U=M:=by
       have:=List.mem_of_mem_drop hτ;simpa using this
      subst this;show QW (Q6 o.op (Q3 env) U) _;rw[hp];rfl
     .rw[hp];exact ih _ _ _ hr lx
    .rw[z1 bu];exact ih _ _ _ hr (hf e)
 have:=key ops env [] _ h hv;have mono:∀ (l:List DOper) (env:Env) (hs:List Heap) (U:Heap) (pend:List (Nat×(Heap->Prop))) (A B:Env->Heap->Prop),l.all (λo=>!(o.kind==2)&&!(o.op.kind==2))=true->(∀ e s,A e s->B e s)->Zm S l env hs U pend A->Zm S l env hs U pend B:=by
  intro l;induction l with
  |nil=>intro env hs U pend A B _ lG h;exact lG _ _ h
  |cons o rest ih =>
   intro env hs U pend A B hk lG h;simp only[zR,z2,Bool.not_eq_true',wj] at hk;obtain⟨⟨bu,au⟩,hr⟩:=hk;have hr:rest.all (λo=>!(o.kind==2)&&!(o.op.kind==2))=true:=by simpa using hr
   simp only[Zm] at h |-;cases hw:J3 env o.guard with
   |none=>rw[hw] at h;exact h.elim
   |some b =>
    rw[hw] at h;obtain⟨ht,hf⟩:=h;refine⟨λe=>?_,λe=>?_⟩
    .have ht:=ht e;rw[z1 bu] at ht |-;by_cases nK:o.kind=1
     .rw[z0 nK] at ht |-;cases dS:Q6 o.op (Q3 env) U with
      |none=>rw[dS] at ht;exact ht.elim
      |some p=>rw[dS] at ht;exact⟨ht.1,ih _ _ _ _ _ _ hr lG ht.2⟩
     .rw[z1 nK] at ht |-;cases dS:Q6 o.op (Q3 env) U with
      |none=>rw[dS] at ht;exact ht.elim
      |some p=>rw[dS] at ht;exact ih _ _ _ _ _ _ hr lG ht
    .have hf:=hf e;rw[z1 bu] at hf |-;exact ih _ _ _ _ _ _ hr lG hf
 exact mono ops env _ _ _ _ _ h (λe s hs=>⟨e,s,.refl _ _ _,hs⟩) this
theorem ZQ {op:VOp}{ev:Operand->Value}{u:Value}{U U':Heap}(h:Q6 op ev U=some (u,U')):JQ op ev u U:=by unfold JQ;rw[h];rfl
theorem Za (s:St) (d:Option Nat) (v:SV):(s.put d v).own=s.own:=by cases d<;>rfl
theorem Y_ {s s':St}{j:Nat}{want:Bool}{gs:List Gd}(h:Bn s j want=some (gs,s')):s'.own=s.own:=by unfold Bn at h;split at h<;>first|(cases h;done)|(obtain⟨_,rfl⟩:=QO h;rfl)
theorem Vl {C:Cx}{B F:Heap}{pl:Nat->Value}{tb:Nat->Option Bool}{s:St}{env:Env}{M:Heap}(hG:Gam P B F pl tb s env M) {o:DOper}{K:St->Prop}(h:gd1 C o s K) :
  ∃ b,J3 env o.guard=some b/\(b=true->∃ u s' tb',Q6 o.op (Q3 env) M=some (u,M)/\K s'/\s'.own=s.own/\Gam P B F pl tb' s' (X7 env o.dst u) M)/\(b=false->∃ s' tb',K s'/\s'.own=s.own/\Gam P B F pl tb' s' (X7 env o.dst undef) M):=by
 unfold gd1 at h;split at h
 .rename_i hg;rw[hg];refine⟨true,rfl,λ_=>?_,λe=>by cases e⟩;split at h
  .rename_i c a b bG;split at h
   .rename_i v hv;obtain⟨u,h1,h2⟩:=Uo hG Gds.nil hv;exact⟨u,_,tb,by rw[bG];exact h1,Ze h,Za _ _ _,hG.put o.dst h2⟩
   .exact h.elim
  .split at h
   .rename_i cs v dG;obtain⟨h1,h2⟩:=Zj h;obtain⟨u,h3,h4⟩:=Rv (hG.evs (Gds.nil (tb:=tb))) (λ_=>rfl) hG.leB hG.obj dG (h2 λg hg=>by cases hg);exact⟨u,_,tb,h3,Ze h1,Za _ _ _,hG.put o.dst h4⟩
   .exact h.elim
 .rename_i j want hg;rw[hg];split at h
  .exact h.elim
  .rename_i gs s' dY;obtain⟨tb',bp,cT,b,hw,bm,bE⟩:=XJ hG dY;refine⟨b,hw,λe=>?_,λe=>?_⟩
   .have gM:Gds tb' gs:=λg hg=>⟨bm e g hg,cT g hg⟩;have fin:∀ {v u},SR P B pl tb' v u->SR P B pl tb' (.grd gs (GU v)) u:=λ{v u} hs=>by
     simp only[SR];obtain⟨h1,h2⟩:=He hs;exact⟨⟨cT,h2⟩,λ_=>h1,λ⟨g,hg,av⟩=>absurd (bm e g hg) av⟩
    split at h
    .rename_i c a b' bG;split at h
     .rename_i v hv;obtain⟨u,h1,h2⟩:=Uo bp gM hv;exact⟨u,_,tb',by rw[bG];exact h1,Ze h,(Za _ _ _).trans (Y_ dY),bp.put o.dst (fin h2)⟩
     .exact h.elim
    .split at h
     .rename_i cs v dG;obtain⟨h1,h2⟩:=Zj h;obtain⟨u,h3,h4⟩:=Rv (bp.evs gM) (λ_=>rfl) bp.leB bp.obj dG (h2 (bm e));exact⟨u,_,tb',h3,Ze h1,(Za _ _ _).trans (Y_ dY),bp.put o.dst (fin h4)⟩
     .exact h.elim
   .have fin:∀ v,SR P B pl tb' (.grd gs (GU v)) undef:=λv=>by
     simp only[SR];obtain⟨g,hg,av⟩:=bE e;exact⟨⟨cT,Hi v⟩,λae=>absurd (ae g hg) av,λ_=>trivial⟩
    split at h
    .split at h
     .exact⟨_,tb',Ze h,(Za _ _ _).trans (Y_ dY),bp.put o.dst (fin _)⟩
     .exact h.elim
    .split at h
     .exact⟨_,tb',Ze (Zj h).1,(Za _ _ _).trans (Y_ dY),bp.put o.dst (fin _)⟩
     .exact h.elim
theorem C6 {bs:List OB}{q:Prop}(h:FA bs q):(∀ b∈bs,b.wf)/\q:=by
 induction bs with
 |nil=>exact⟨(λb hb=>by cases hb),h⟩
 |cons b r ih =>
  obtain⟨h1,h2⟩:=h;obtain⟨h3,h4⟩:=ih h2;exact⟨λb' cu=>by
   rcases zf.1 cu with rfl|cu
   .exact h1
   .exact h3 b' cu,h4⟩
mutual
theorem Ab {d nt:Nat}:∀ (v:SV),v.ret 0=true->(v.ren d nt).ret 0=true
 |.val k x,h=>h
 |.nilS,_|.nilP,_|.nilM,_|.nilF,_=>rfl
 |.lst j,h|.box j _,h|.map j,h=>by simp[SV.ret,Nat.blt] at h
 |.agg l,h=>by simp only[SV.ren,SV.ret] at h |-;exact PR l h
 |.tup l,h=>by simp only[SV.ren,SV.ret] at h |-;exact PR l h
 |.any,h|.bid _ _,h|.grd _ _,h|.sub _ _ _ _,h|.elp _ _ _ _,h|.rop _ _ _ _,h|.cp _ _,h|.fn _ _ _,h|.pf _ _ _ _,h=>by cases h
theorem PR {d nt:Nat}:∀ (v:List SV),SVs.ret 0 v=true->SVs.ret 0 (SVs.ren d nt v)=true
 |[],_=>rfl
 |s::ss,h=>by simp only[SVs.ret,SVs.ren,z2] at h |-;exact⟨Ab s h.1,PR ss h.2⟩
end
theorem XS {C:Cx}(aA:COk P C) {B F:Heap}{pl:Nat->Value}{tb:Nat->Option Bool}{s:St}{env:Env}{M:Heap}(hG:Gam P B F pl tb s env M) {d:Nat}{f:SV}{args:List SV}{K:List Nat->SV->St->Prop}(h:MG C d f args s K) {fV:Value}{vs:List Value}
  (hf:SR P M Jz ZF f fV) (ha:SRs P M Jz ZF args vs):∃ g a b u M' ts v s' pl',fV=.func (.func g) a b/\(VCalled P g (a.toList++vs++b.toList) M λu' aE=>u'=u/\aE=M')/\K ts v s'/\Gam P B F pl' tb s' env M'/\SR P B pl' tb v u/\(ts=[]->M'=M/\pl'=pl/\s'=s)/\M.Le M'/\Dead M M'/\FrL ts s s' pl pl' M M':=by
 unfold MG at h;split at h
 .rename_i c v bs heq;cases hb:(v.ret bs.length&&(bs.all OB.ret&&(Nat.blt 0 C.nt&&(bs.all OB.isL&&Vd v)))) with
  |false=>rw[hb] at h;exact h.elim
  |true =>
   rw[hb] at h;obtain⟨h1,h2⟩:=h;obtain⟨h3,h4⟩:=C6 h2;simp only[z2] at hb;obtain⟨hv,mW,dM,hl,cG⟩:=hb;obtain⟨g,a,b,e,_,hx⟩:=ZO aA.cs hf ha heq hv mW h1;have dF:=SQ (P:=P) M hv cG mW hl (λb hb=>by have:=h3 b hb;cases b<;>exact this);by_cases b7:bs=[]
   .subst b7;obtain⟨k1,k2⟩:=dF.flat hv;refine⟨g,a,b,_,_,_,_,_,pl,e,hx hl cG,h4,?_,?_,λ_=>⟨k1,rfl,rfl⟩,dF.1.1,dF.1.2,λq _=>⟨rfl,rfl,λ_ _ _=>by rw[k1]⟩⟩
    .rw[k1];exact hG
    .exact SR.retd (B:=hNil) (pl:=pl) (tb:=ZF) (n:=0) (λj hj=>by omega) _ _ (Ab v hv) (SR.ren (pl:=Jz) (tb:=ZF) (n:=0) (λj hj=>by omega) v _ hv k2)
   .obtain⟨pl',h5,h6,h7⟩:=dF.gamF (nt:=C.nt) (d:=d) (by simpa [zI] using dM) hG hv mW;refine⟨g,a,b,_,_,_,_,_,pl',e,hx hl cG,h4,h5,h6,λhe=>absurd (by simpa using he) b7,dF.1.1,dF.1.2,λq hq=>h7 q λj hj e=>hq ?_⟩;exact zq.2 ⟨j,zr.2 hj,e.symm⟩
 .exact h.elim
def CX:VOp->Bool
 |.callF ..|.callV ..=>true
 |.ext (.rangeMap _)|.ext (.nextMap _)=>true
 |_=>false
theorem Q8y {C:Cx}{B F:Heap}{pl:Nat->Value}{tb:Nat->Option Bool}{s:St}{env:Env}{M:Heap}(hG:Gam P B F pl tb s env M) {d:Nat}{o:VOp}{K:SV->St->Prop}(h:gn C d o (gev [] s.env) s K) (hc:CX o=false) :
  NOk P B F tb o (Q3 env) env M K (Qx d o (gev [] s.env)) s pl:=by
 have aj:=hG.evs (Gds.nil (tb:=tb));cases o
 case alloc t z=>exact Ov aj hG h
 case box t x=>exact Q8x aj hG h
 case buildSlice e z n ps=>exact NN aj hG h
 case makeSlice e b z l c=>exact P9 aj hG h
 case append e b x y=>exact Az aj hG h
 case store size a x=>exact I4 aj hG h
 case callF=>cases hc
 case callV=>cases hc
 case ext x =>
  cases x
  case mapUpdate mk m k v=>exact Hr aj hG h
  case delete mk m k=>exact CP aj hG h
  case mapEntry mk z m k=>exact Rc aj hG h
  case entryStore m s v=>exact Bj aj hG h
  case copy size a b=>exact Q3q aj hG h
  case unsafeStr e a n=>exact False.elim h
  case strBytes e a=>exact False.elim h
  case rangeMap=>cases hc
  case nextMap=>cases hc
  all_goals exact h.elim
 all_goals exact h.elim
theorem S5 {o:VOp}{ev:Operand->Value}{M M':Heap}{u:Value}(hm:Pv o=true) (h:Q6 o ev M=some (u,M')):M.Le M':=by
 have push:∀ b:Blk,M.Le (M.push b):=λb=>(Heap.Le.refl M).push b;cases o<;>first|(cases hm;done)|skip
 case alloc t z=>obtain⟨rfl,rfl⟩:=QO h;exact push _
 case box t x =>
  simp only[Q6] at h;split at h
  .obtain⟨rfl,rfl⟩:=QO h;exact push _
  .cases h
 case buildSlice e z n ps =>
  simp only[Q6] at h;split at h
  .obtain⟨rfl,rfl⟩:=QO h;exact push _
  .cases h
 case makeSlice e b z l c =>
  simp only[Q6] at h;split at h
  .split at h
   .obtain⟨rfl,rfl⟩:=QO h;exact push _
   .cases h
  .cases h
def stM:MK:=.agg [.int .i64,.int .i64]
def Q5k:Option Jo->Value
 |some e=>e.2.1
 |none=>.int .i64 0
def LkE (es bS:List Jo):Prop:=(es.all (λe=>Zk stM e.1)=true->bS.all (λe=>Zk stM e.1)=true)/\(es.all (λe=>Zk stM e.1)=true->∀ k,Zk stM k=true->Q5k (Qf k bS)=Q5k (Qf k es))
theorem LkE.trans {a b c:List Jo}(h:LkE a b) (h':LkE b c):LkE a c:=⟨λk=>h'.1 (h.1 k),λk x hx=>(h'.2 (h.1 k) x hx).trans (h.2 k x hx)⟩
theorem Cu {v:Value}(h:Zk stM v=true):∃ a b,v=.agg #[.int .i64 a,.int .i64 b]:=by
 cases v with
 |agg l =>
  simp only[Zk,stM] at h;obtain⟨l⟩:=l
  match l,h with
  |[],h=>simp[fits] at h
  |[x],h=>cases x<;>simp[fits,E5] at h
  |[x,y],h =>simp only[fits,z2] at h;obtain⟨hx,hy,_⟩:=h;cases x<;>simp[E5] at hx;cases y<;>simp[E5] at hy;subst hx;subst hy;exact⟨_,_,rfl⟩
  |x::y::z::r,h=>simp[fits] at h
 |_=>simp[Zk,stM] at h
theorem Q3y {a b c e:Int}:XB (.agg #[.int .i64 a,.int .i64 b]) (.agg #[.int .i64 c,.int .i64 e])=(a==c&&b==e):=by simp[XB,Ql,Kg]
theorem F4 {k0:Value}{clock:Nat}(iZ:Zk stM k0=true):∀ {es:List Jo},LkE es (Qq k0 (Q5k (Qf k0 es)) clock es).1
 |[]=>by refine⟨λ_=>by simp[Qq,iZ],λ_ k hk=>?_⟩;simp only[Qq,Qf];cases XB k k0<;>rfl
 |e::es=>by
  have ih:=F4 (clock:=clock) iZ (es:=es);simp only[Qq,Qf];cases he:XB k0 e.1 with
  |true =>
   simp only[zx];refine⟨λh=>?_,λh k hk=>?_⟩
   .simp only[zR,z2] at h |-;exact⟨iZ,h.2⟩
   .simp only[zR,z2] at h;obtain⟨a,b,rfl⟩:=Cu iZ;obtain⟨a1,b1,h1⟩:=Cu h.1;obtain⟨a2,b2,rfl⟩:=Cu hk;have heq:(a==a1&&b==b1)=true:=by rw[<-Q3y,<-h1];exact he
    simp only[z2,zS] at heq;obtain⟨rfl,rfl⟩:=heq;simp only[Qf,h1,Q3y];cases (a2==a&&b2==b)<;>rfl
  |false =>
   simp only[zA,if_false];refine⟨λh=>?_,λh k hk=>?_⟩
   .simp only[zR,z2] at h |-;exact⟨h.1,ih.1 h.2⟩
   .simp only[zR,z2] at h;simp only[Qf];cases XB k e.1 with
    |true=>rfl
    |false=>exact ih.2 h.2 k hk
theorem E_ {mk:MK}{z:Value}(h:stP mk z=true):mk=stM/\z=.int .i64 0:=by
 unfold stP at h;split at h
 .exact⟨rfl,by rw[eq_of_beq h]⟩
 .cases h
def EH (M:Heap) (own:Own) (pl:Nat->Value) (Q:Heap->Prop):Option Nat->Prop
 |none=>∀ U,M.Le U->Q U
 |some q=>(Q8 own (q / 2)).live=true/\∃ i b,Oid (pl (q / 2)) i/\M.get i=some b/\(∀ U,U.get i=some b->Q U)/\(q % 2=1->∃ es c wr,b=.obj (.map es c) wr/\∀ U bS c',LkE es bS->U.get i=some (.obj (.map bS c') wr)->Q U)
structure DSt (hs:List Heap) (M:Heap) (pend:List (Nat×(Heap->Prop))) (hl chg:Nat) (A R:List (Nat×Option Nat)) (own:Own) (pl:Nat->Value):Prop where
 len:hs.length=hl
 same:∀ j U,chg<=j->hs[j]?=some U->U=M
 pend:∀ c∈pend,c.1<hl\/∃ r∈R,c.1<=r.1/\EH M own pl c.2 r.2
 fr:∀ j U q i,hs[j]?=some U->Zb A j q=true->(Q8 own q).live=true->Oid (pl q) i->U.get i=M.get i
theorem YT {r:Nat}{M:Heap}:∀ {l:List (Nat×(Heap->Prop))},(∀ c∈l,r<=c.1->c.2 M)->JP r M l
 |[],_=>trivial
 |c::l,h=>⟨h c (by simp),YT λc' cO=>h c' (by simp[cO])⟩
theorem Jk {hs:List Heap}{M' U:Heap}{j:Nat}(h:(hs++[M'])[j]?=some U):(j<hs.length/\hs[j]?=some U)\/(j=hs.length/\U=M'):=by
 rw[List.getElem?_append] at h;split at h
 .rename_i ah;exact .inl ⟨ah,h⟩
 .have:j-hs.length=0:=by
   cases hz:j-hs.length with
   |zero=>rfl
   |succ n=>rw[hz] at h;simp at h
  rw[this] at h;exact .inr ⟨by omega,by simpa using h.symm⟩
theorem T3 {a:Nat×Option Nat}{A:List (Nat×Option Nat)}{j q:Nat}(h:Zb (a::A) j q=true) (hj:j<=a.1):(∃ t,a.2=some t/\t≠q)/\Zb A j q=true:=by
 simp only[Zb,zR,z2,zp,zI] at h;refine⟨?_,h.2⟩;rcases h.1 with h|h
 .omega
 .split at h
  .rename_i t ht;exact⟨t,ht,λe=>by subst e;simp at h⟩
  .cases h
theorem DSt.stay {hs:List Heap}{M:Heap}{pend:List (Nat×(Heap->Prop))}{hl chg:Nat}{A R:List (Nat×Option Nat)}{own:Own}{pl:Nat->Value}(h:DSt hs M pend hl chg A R own pl) :
  JP hs.length M pend/\DSt (hs++[M]) M pend (hl+1) chg A R own pl:=by
 have hr:∀ c∈pend,∀ r∈R,EH M own pl c.2 r.2->c.2 M:=λc _ r _ ai=>by
  unfold EH at ai;split at ai
  .exact ai M (.refl _)
  .obtain⟨_,i,b,_,h2,h3,_⟩:=ai;exact h3 M h2
 refine⟨YT λc hc hle=>?_,⟨by simp[h.len],λj U hj ht=>?_,λc hc=>?_,λj U q i ht hu hl hi=>?_⟩⟩
 .rcases h.pend c hc with h1|⟨r,h1,_,h2⟩
  .rw[h.len] at hle;omega
  .exact hr c hc r h1 h2
 .rcases Jk ht with⟨_,h1⟩|⟨_,h1⟩
  .exact h.same j U hj h1
  .exact h1
 .rcases h.pend c hc with h1|h1
  .exact .inl (by omega)
  .exact .inr h1
 .rcases Jk ht with⟨_,h1⟩|⟨_,rfl⟩
  .exact h.fr j U q i h1 hu hl hi
  .rfl
theorem DSt.write {hs:List Heap}{M M':Heap}{pend:List (Nat×(Heap->Prop))}{hl chg:Nat}{A R:List (Nat×Option Nat)}{s s':St}{pl pl':Nat->Value}(h:DSt hs M pend hl chg A R s.own pl) {T:Nat}(hf:Fr T s s' pl pl' M M') {mk ext:Bool}(hm:mk=true->M.Le M')
  (hE:ext=true->(Q8 s'.own T).live=true/\pl' T=pl T/\∃ i es c bS c',pl T=.map (some i)/\M.get i=some (.obj (.map es c) true)/\M'.get i=some (.obj (.map bS c') true)/\LkE es bS)
  (hc:((mk&&Ld R hl T)||TJ R hl T||(ext&&Q6u R hl T))=true) (aU:0<hl):JP hs.length M' pend/\DSt (hs++[M']) M' pend (hl+1) hl ((hl-1,some T)::A) R s'.own pl':=by
 have hr:∀ Q:Heap->Prop,∀ r∈R,hl<=r.1->EH M s.own pl Q r.2->EH M' s'.own pl' Q r.2:=λQ r lY bw ai=>by
  have hq:∀ q,r.2=some q->q / 2=T->q % 2=1/\ext=true:=λq hq e=>by
   subst e;simp only[zp,z2,Ld,TJ,Q6u] at hc;rcases hc with (⟨_,hc⟩|hc)|⟨he,hc⟩
   .have:=z6.1 hc r lY;rw[hq] at this;simp only[zp,zI,Nat.beq_refl,xW,zA,or_false] at this;omega
   .have:=z6.1 hc r lY;rw[hq] at this;simp only[zp,zI,Nat.beq_refl,xW,zA,or_false] at this;omega
   .have:=z6.1 hc r lY;rw[hq] at this;simp only[zp,zI,Nat.beq_refl,xW,zA,false_or] at this;rcases this with h|h
    .omega
    .exact⟨zH h,he⟩
  cases e:r.2 with
  |none =>
   rw[e] at ai;have b9:mk=true:=by
    simp only[zp,z2,TJ,Q6u] at hc;rcases hc with (⟨hc,_⟩|hc)|⟨_,hc⟩
    .exact hc
    .have:=z6.1 hc r lY;rw[e] at this;simp only[zp,zI,zA,or_false] at this;omega
    .have:=z6.1 hc r lY;rw[e] at this;simp only[zp,zI,zA,or_false] at this;omega
   exactλU ht=>ai U ((hm b9).trans ht)
  |some q =>
   rw[e] at ai;obtain⟨k1,i,b,k2,k3,k4⟩:=ai;by_cases oy:q / 2=T
   .obtain⟨ho,he⟩:=hq q e oy;obtain⟨g1,g2,i',es,c,bS,c',g3,g4,g5,g6⟩:=hE he;obtain⟨k5,k6⟩:=k4;obtain⟨vA,c0,wr,rfl,k7⟩:=k6 ho;rw[oy] at k1 k2;have hi:i=i':=FD (by rw[g3];rfl) k2;subst hi;rw[g4] at k3;cases k3;refine⟨by rw[oy];exact g1,i,_,by rw[oy,g2];exact k2,g5,λU hτ=>k7 U _ _ g6 hτ,λ_=>⟨_,_,_,rfl,λU uq vB hl hτ=>k7 U _ _ (g6.trans hl) hτ⟩⟩
   .obtain⟨f1,f2,f3⟩:=hf (q / 2) oy;exact⟨by rw[f1];exact k1,i,b,by rw[f2];exact k2,by rw[f3 k1 i k2];exact k3,k4⟩
 have now:∀ Q:Heap->Prop,∀ r,EH M' s'.own pl' Q r->Q M':=λQ r ai=>by
  unfold EH at ai;split at ai
  .exact ai M' (.refl _)
  .obtain⟨_,i,b,_,h2,h3,_⟩:=ai;exact h3 M' h2
 refine⟨YT λc hc hle=>?_,⟨by simp[h.len],λj U hj ht=>?_,λc hc=>?_,λj U q i ht hu ck hi=>?_⟩⟩
 .rw[h.len] at hle;rcases h.pend c hc with h1|⟨r,h1,h2,h3⟩
  .omega
  .exact now _ _ (hr _ r h1 (by omega) h3)
 .rcases Jk ht with⟨h1,_⟩|⟨_,h1⟩
  .rw[h.len] at h1;omega
  .exact h1
 .rcases h.pend c hc with h1|⟨r,h1,h2,h3⟩
  .exact .inl (by omega)
  .by_cases bw:hl<=r.1
   .exact .inr ⟨r,h1,h2,hr _ r h1 bw h3⟩
   .exact .inl (by omega)
 .rcases Jk ht with⟨h1,h2⟩|⟨_,rfl⟩
  .rw[h.len] at h1;obtain⟨⟨t,ht,ur⟩,cw⟩:=T3 hu (by simp only;omega);obtain rfl:=osj ht;obtain⟨f1,f2,f3⟩:=hf q (Ne.symm ur);rw[f1] at ck;rw[f2] at hi;rw[f3 ck i hi];exact h.fr j U q i h2 cw ck hi
  .rfl
theorem GS {ts:List Nat}{hl j q:Nat}{A:List (Nat×Option Nat)}(h:Zb (ts.map (λt=>(hl,some t))++A) j q=true) (hj:j<=hl):q∉ts/\Zb A j q=true:=by simp only[Zb,List.all_append,z2] at h |-;refine⟨λhm=>?_,h.2⟩;have:=z6.1 h.1 (hl,some q) (zq.2 ⟨q,hm,rfl⟩);simp only[zp,zI,Nat.beq_refl,xW,zA,or_false] at this;omega
theorem DSt.call {hs:List Heap}{M M':Heap}{pend:List (Nat×(Heap->Prop))}{hl chg:Nat}{A R:List (Nat×Option Nat)}{s s':St}{pl pl':Nat->Value}(h:DSt hs M pend hl chg A R s.own pl) (hle:M.Le M') {Ts:List Nat}(hf:FrL Ts s s' pl pl' M M') (aU:0<hl) :
  JP hs.length M' pend/\DSt (hs++[M']) M' pend (hl+1) hl (Ts.map (λt=>(hl-1,some t))++A) (R.map λr=>(r.1,none)) s'.own pl':=by
 have hr:∀ Q r,EH M s.own pl Q r->∀ U,M'.Le U->Q U:=λQ r ai U ht=>by
  unfold EH at ai;split at ai
  .exact ai U (hle.trans ht)
  .obtain⟨_,i,b,_,h2,h3,_⟩:=ai;exact h3 U (ht.2 _ _ (hle.2 _ _ h2))
 refine⟨YT λc hc hle=>?_,⟨by simp[h.len],λj U hj ht=>?_,λc hc=>?_,λj U q i ht hu ck hi=>?_⟩⟩
 .rcases h.pend c hc with h1|⟨r,h1,_,h2⟩
  .rw[h.len] at hle;omega
  .exact hr _ _ h2 _ (.refl _)
 .rcases Jk ht with⟨h1,_⟩|⟨_,h1⟩
  .rw[h.len] at h1;omega
  .exact h1
 .rcases h.pend c hc with h1|⟨r,h1,h2,h3⟩
  .exact .inl (by omega)
  .exact .inr ⟨(r.1,none),zq.2 ⟨r,h1,rfl⟩,h2,hr _ _ h3⟩
 .rcases Jk ht with⟨h1,h2⟩|⟨_,rfl⟩
  .rw[h.len] at h1;obtain⟨hq,cw⟩:=GS hu (by omega);obtain⟨f1,f2,f3⟩:=hf q hq;rw[f1] at ck;rw[f2] at hi;rw[f3 ck i hi];exact h.fr j U q i h2 cw ck hi
  .rfl
theorem DSt.writeD {hs:List Heap}{M M':Heap}{pend:List (Nat×(Heap->Prop))}{hl chg:Nat}{A R:List (Nat×Option Nat)}{s s':St}{pl pl':Nat->Value}(h:DSt hs M pend hl chg A R s.own pl) {Ts:List Nat}(hf:FrL Ts s s' pl pl' M M') {mk:Bool}(hm:mk=true->M.Le M')
  (hc:AW mk R hl Ts=true) (aU:0<hl):JP hs.length M' pend/\DSt (hs++[M']) M' pend (hl+1) hl (Ts.map (λt=>(hl-1,some t))++A) R s'.own pl':=by
 have hr:∀ Q:Heap->Prop,∀ r∈R,hl<=r.1->EH M s.own pl Q r.2->EH M' s'.own pl' Q r.2:=λQ r lY bw ai=>by
  have lZ:=z6.1 hc r lY;have lZ:(match r.2 with|some q=>Ts.all (λt=>!(Nat.beq (q / 2) t))|none=>mk)=true:=by rw[zp,zI] at lZ;exact lZ.resolve_left (by omega)
  cases e:r.2 with
  |none =>rw[e] at ai lZ;exactλU ht=>ai U ((hm lZ).trans ht)
  |some q =>
   rw[e] at ai lZ;obtain⟨k1,i,b,k2,k3,k4⟩:=ai;obtain⟨f1,f2,f3⟩:=hf (q / 2) λhq=>by have:=z6.1 lZ (q / 2) hq;simp at this
   exact⟨by rw[f1];exact k1,i,b,by rw[f2];exact k2,by rw[f3 k1 i k2];exact k3,k4⟩
 have now:∀ Q:Heap->Prop,∀ r,EH M' s'.own pl' Q r->Q M':=λQ r ai=>by
  unfold EH at ai;split at ai
  .exact ai M' (.refl _)
  .obtain⟨_,i,b,_,h2,h3,_⟩:=ai;exact h3 M' h2
 refine⟨YT λc hc hle=>?_,⟨by simp[h.len],λj U hj ht=>?_,λc hc=>?_,λj U q i ht hu ck hi=>?_⟩⟩
 .rw[h.len] at hle;rcases h.pend c hc with h1|⟨r,h1,h2,h3⟩
  .omega
  .exact now _ _ (hr _ r h1 (by omega) h3)
 .rcases Jk ht with⟨h1,_⟩|⟨_,h1⟩
  .rw[h.len] at h1;omega
  .exact h1
 .rcases h.pend c hc with h1|⟨r,h1,h2,h3⟩
  .exact .inl (by omega)
  .by_cases bw:hl<=r.1
   .exact .inr ⟨r,h1,h2,hr _ r h1 bw h3⟩
   .exact .inl (by omega)
 .rcases Jk ht with⟨h1,h2⟩|⟨_,rfl⟩
  .rw[h.len] at h1;obtain⟨hq,cw⟩:=GS hu (by omega);obtain⟨f1,f2,f3⟩:=hf q hq;rw[f1] at ck;rw[f2] at hi;rw[f3 ck i hi];exact h.fr j U q i h2 cw ck hi
  .rfl
theorem To {hl d j q:Nat}{A:List (Nat×Option Nat)}(h:Zb ((hl,none)::A) j q=true):Zb ([d].map (λt=>(hl,some t))++A) j q=true:=by simp only[Zb,zR,z2,zp,zA,or_false,zF,List.map_nil,zY,xe] at h |-;exact⟨.inl h.1,h.2⟩
theorem DSt.frozen {hs:List Heap}{M:Heap}{pend:List (Nat×(Heap->Prop))}{hl chg m d:Nat}{A R:List (Nat×Option Nat)}{own:Own}{pl:Nat->Value}(h:DSt hs M pend hl chg ([d].map (λt=>(m,some t))++A) R own pl):DSt hs M pend hl chg ((m,none)::A) R own pl :=
 ⟨h.len,h.same,h.pend,λj U q i ht hu=>h.fr j U q i ht (To hu)⟩
theorem Hf {ts:List Nat}{m j:Nat}{A:List (Nat×Option Nat)}(h:GR (ts.map (λt=>(m,some t))++A) j=true):GR A j=true:=by simp only[GR,List.all_append,z2] at h;exact h.2
theorem PL {a:Nat×Option Nat}{j:Nat}{A:List (Nat×Option Nat)}(h:GR (a::A) j=true):GR A j=true:=by simp only[GR,zR,z2] at h;exact h.2
theorem R3 {C:Cx}{f:SV}{args:List SV}{cs:List Prop}{v:SV}(h:Fh C f args=some (cs,v)):∃ c ty k xs nl,Vc C.cs f args=some (c,.lst 0,[.lst ty k xs nl])/\cs=[c,nl=true->xs=[]]/\v=.val (.list k) xs/\k.flat=true/\0<C.nt:=by
 unfold Fh at h;split at h
 .rename_i heq;split at h
  .rename_i k xs nl;cases hc:(k.flat&&Nat.blt 0 C.nt) with
   |false=>rw[hc] at h;cases h
   |true =>rw[hc] at h;obtain⟨rfl,rfl⟩:=QO h;simp only[z2,zI] at hc;exact⟨_,_,_,_,_,heq,rfl,rfl,hc.1,hc.2⟩
  .cases h
 .cases h
theorem Lv {b:OB}(h:b.here=true):b.live=true:=by cases b<;>first|rfl|cases h
theorem YU {B F:Heap}{pl:Nat->Value}{tb:Nat->Option Bool}{s:St}{env:Env}{M:Heap}(hG:Gam P B F pl tb s env M) {o:VOp}{q:Nat}(h:Nv o (gev [] s.env) s.own=some q) {u:Value}{M2:Heap}(hv:Q6 o (Q3 env) M=some (u,M2)) :
  (Q8 s.own (q / 2)).live=true/\∃ i b,Oid (pl (q / 2)) i/\M.get i=some b/\(∀ U,U.get i=some b->Q6 o (Q3 env) U=some (u,U))/\(q % 2=1->∃ es c wr,b=.obj (.map es c) wr/\∀ U bS c',LkE es bS->U.get i=some (.obj (.map bS c') wr)->Q6 o (Q3 env) U=some (u,U)):=by
 have two:∀ q,2*q / 2=q:=λq=>by omega
 have oz:∀ q,(2*q+1) / 2=q:=λq=>by omega
 have odd:∀ {q} {X:Prop},2*q % 2=1->X:=λ{q X} h=>by omega
 unfold Nv at h;split at h
 .rename_i agg size a;have ha:=hG.evs (Gds.nil (tb:=tb)) a;have key:∀ q i off,(Q8 s.own q).live=true->Oid (pl q) i->Q3 env a=.pointer (some ⟨i,off,none⟩)->(Q8 s.own q).live=true/\∃ i b,Oid (pl q) i/\M.get i=some b/\∀ U,U.get i=some b->Q6 (.load agg size a) (Q3 env) U=some (u,U):=λq i off hl hi he=>by
   simp only[Q6,he] at hv;cases hb:M.get i with
   |none=>rw[hb] at hv;cases hv
   |some b =>
    refine⟨hl,i,b,hi,hb,λU ht=>?_⟩;rw[hb] at hv;simp only[Q6,he,ht];cases b with
    |obj o wr=>cases hv
    |cells c e wr t =>
     simp only at hv |-;split at hv
     .obtain⟨rfl,rfl⟩:=QO hv;rfl
     .cases hv
  split at h
  .rename_i q' off hx;rw[hx] at ha;simp only[SR] at ha;obtain⟨b,h1,h2⟩:=ha;cases hh:(Q8 s.own q').here with
   |false=>rw[hh] at h;cases h
   |true =>rw[hh] at h;obtain rfl:=osj h;obtain⟨x1,y1,y2,y3,y4,y5⟩:=key q' b off (Lv hh) (by rw[h1];rfl) h2;exact⟨by rw[two];exact x1,y1,y2,by rw[two];exact y3,y4,y5,odd⟩
  .rename_i q' i off sz hx;rw[hx] at ha;simp only[SR] at ha;obtain⟨b,len,cap,h1,h2,h3,h4⟩:=ha;cases hh:(Q8 s.own q').here with
   |false=>rw[hh] at h;cases h
   |true =>rw[hh] at h;obtain rfl:=osj h;obtain⟨x1,y1,y2,y3,y4,y5⟩:=key q' b _ (Lv hh) (by rw[h1];rfl) h4;exact⟨by rw[two];exact x1,y1,y2,by rw[two];exact y3,y4,y5,odd⟩
  .cases h
 .rename_i mk z x y;cases aS:stP mk z with
  |false=>rw[aS] at h;cases h
  |true =>
   rw[aS] at h;simp only[zg] at h;obtain⟨rfl,rfl⟩:=E_ aS;split at h
   .rename_i q' hx;split at h
    .rename_i kk vk l ho;obtain rfl:=osj h;have ha:=hG.evs (Gds.nil (tb:=tb)) x;rw[hx] at ha;simp only[SR] at ha;have ao:=hG.obj q';rw[ho] at ao;obtain⟨id,es,c,h2,h3,_⟩:=ao;have aF:∀ (U:Heap) bS c' wr,U.get id=some (.obj (.map bS c') wr)->U.mapAt id=some (bS,c',wr):=λU bS c' wr hτ=>by simp[Heap.mapAt,hτ]
     simp only[Q6,Zc,ha.1,h2,aF _ _ _ _ h3] at hv;refine⟨by rw[oz,ho];rfl,id,_,by rw[oz,h2];rfl,h3,λU hτ=>?_,λ_=>⟨es,c,true,rfl,λU bS c' hl hτ=>?_⟩⟩
     .simp only[Q6,Zc,ha.1,h2,aF _ _ _ _ hτ];split at hv
      .rename_i fJ;split at hv
       .rename_i g9;rw[z0 fJ,z0 g9];cases he:Qf (Q3 env y) es with
        |some e=>rw[he] at hv;obtain⟨rfl,rfl⟩:=QO hv;rfl
        |none=>rw[he] at hv;obtain⟨rfl,rfl⟩:=QO hv;rfl
       .cases hv
      .cases hv
     .simp only[Q6,Zc,ha.1,h2,aF _ _ _ _ hτ];split at hv
      .rename_i fJ;split at hv
       .rename_i g9;rw[z0 fJ,z0 (hl.1 g9)];have cj:=hl.2 g9 _ fJ;cases he:Qf (Q3 env y) es with
        |some e =>
         rw[he] at hv cj;obtain⟨rfl,rfl⟩:=QO hv;cases hm:Qf (Q3 env y) bS with
         |some e'=>rw[hm] at cj;simp only[Q5k] at cj;simp[cj]
         |none=>rw[hm] at cj;simp only[Q5k] at cj;simp[<-cj]
        |none =>
         rw[he] at hv cj;obtain⟨rfl,rfl⟩:=QO hv;cases hm:Qf (Q3 env y) bS with
         |some e'=>rw[hm] at cj;simp only[Q5k] at cj;simp[cj]
         |none=>rfl
       .cases hv
      .cases hv
    .cases h
   .cases h
 .rename_i sz x lo hi;split at h
  .rename_i q' hx;split at h
   .rename_i ty k xs nl ho;cases nl with
    |true=>cases h
    |false =>
     obtain rfl:=osj h;have ha:=hG.evs (Gds.nil (tb:=tb)) x;rw[hx] at ha;simp only[SR] at ha;have ao:=hG.obj q';rw[ho] at ao;rcases ao with⟨h0,_⟩|⟨_,i,cap,c,t,h3,h4,h5,h6,h7⟩
     .cases h0
     .refine⟨by rw[two,ho];rfl,i,_,by rw[two,h3];rfl,h5,λU hτ=>?_,odd⟩;simp only[Q6,ha.1,h3] at hv |-;cases e1:J1 (Q3 env) lo 0 with
      |none=>rw[e1] at hv;cases hv
      |some a =>
       cases e2:J1 (Q3 env) hi xs.length with
       |none=>rw[e1,e2] at hv;cases hv
       |some b =>
        rw[e1,e2] at hv;simp only[WD,h5] at hv;simp only[WD,hτ];split at hv
        .rename_i dI;rw[z0 dI];obtain⟨rfl,rfl⟩:=QO hv;rfl
        .cases hv
   .cases h
  .cases h
 .cases h
theorem Me {r:Nat}{M:Heap}:∀ {l:List (Nat×(Heap->Prop))},JP r M l->∀ {c},c∈l->r<=c.1->c.2 M
 |c::l,h,c',hc,hr=>by
  rcases zf.1 hc with rfl|hc
  .exact h.1 hr
  .exact Me h.2 hc hr
theorem M9 {B F:Heap}{pl:Nat->Value}{tb:Nat->Option Bool}{s:St}{env:Env}{M:Heap}(hG:Gam P B F pl tb s env M) {gs:List Gd}(hg:Gds tb gs) {o:VOp}(h:Q6t o (gev gs s.env)=true) {u:Value}{M2:Heap}(hv:Q6 o (Q3 env) M=some (u,M2)) :
  ∀ U,B.Le U->Q6 o (Q3 env) U=some (u,U):=by
 unfold Q6t at h;split at h
 .rename_i agg size a;have ha:=hG.evs hg a;have key:∀ i off,(∃ b,B.get i=some b)->Q3 env a=.pointer (some ⟨i,off,none⟩)->∀ U,B.Le U->Q6 (.load agg size a) (Q3 env) U=some (u,U):=λi off ⟨b,hb⟩ he U hτ=>by
   simp only[Q6,he,hG.leB.2 _ _ hb] at hv;simp only[Q6,he,hτ.2 _ _ hb];cases b with
   |obj o wr=>cases hv
   |cells c e wr t =>
    simp only at hv |-;split at hv
    .obtain⟨rfl,rfl⟩:=QO hv;rfl
    .cases hv
  split at h
  .rename_i k l i off hx;rw[hx] at ha;simp only[SR] at ha;obtain⟨b,o,c,e,wr,t,_,_,h3,h4,_⟩:=ha;exact key b _ ⟨_,h3⟩ h4
  .rename_i l off hx;rw[hx] at ha;simp only[SR] at ha;obtain⟨b,c,e,wr,t,h3,h4,_⟩:=ha;exact key b _ ⟨_,h3⟩ h4
  .cases h
 .cases h
theorem II {C:Cx}{B F:Heap}{pl:Nat->Value}{tb:Nat->Option Bool}{s:St}{env:Env}{M:Heap}(hG:Gam P B F pl tb s env M) {d:Nat}{o:VOp}{K:SV->St->Prop}(h:gn C d o (gev [] s.env) s K) (hc:CX o=false) :
  ∃ u M' pl' v s',Q6 o (Q3 env) M=some (u,M')/\K v s'/\(Gam P B F pl' tb s' env M'/\Fr (Qx d o (gev [] s.env)) s s' pl pl' M M')/\SR P B pl' tb v u /\
  (Tz o=true->(Q8 s'.own (Qx d o (gev [] s.env))).live=true/\pl' (Qx d o (gev [] s.env))=pl (Qx d o (gev [] s.env))/\∃ i es c bS c',pl (Qx d o (gev [] s.env))=.map (some i)/\M.get i=some (.obj (.map es c) true)/\M'.get i=some (.obj (.map bS c') true)/\LkE es bS):=by
 cases he:Tz o with
 |false =>obtain⟨u,M',pl',v,s',h1,h2,h3,h4⟩:=Q8y hG h hc;exact⟨u,M',pl',v,s',h1,h2,h3,h4,λh=>by cases h⟩
 |true =>
  unfold Tz at he;split at he
  .rename_i mk z m kx;obtain⟨rfl,rfl⟩:=E_ he;obtain⟨u,M',v,s',T,kv,aZ,i,es,c,rfl,h1,h2,h3,h4,h5,h6,h7,h8,h9,bT,fT⟩:=P8 (hG.evs (Gds.nil (tb:=tb))) hG h;refine⟨u,M',pl,v,s',h1,h2,h3,h4,λ_=>⟨h5,rfl,i,es,c,_,_,h6,h7,h8,?_⟩⟩;have:aZ=Q5k (Qf kv es):=by rw[fT];cases Qf kv es<;>rfl
   rw[this];exact F4 h9
  .cases he
def Jb (S:VSpecs):List DOper->Env->List Heap->Heap->List (Nat×(Heap->Prop))->(Env->Heap->Prop)->Prop
 |[],env,_,M,_,K=>K env M
 |o::rest,env,hs,M,pend,K=>QW (J3 env o.guard) λb =>
   vif b (if o.kind=2 then D4 (λR=>vop S o.op env M R) λv M'=>JP hs.length M' pend/\Jb S rest (X7 env o.dst v) (hs++[M']) M' pend K
     else if o.kind=1 then QW (Q6 o.op (Q3 env) M) λp=>(∀ U∈hs.drop o.kmin,JQ o.op (Q3 env) p.1 U) /\
      Jb S rest (X7 env o.dst p.1) hs M (if hs.length<=o.kmax then (o.kmax,JQ o.op (Q3 env) p.1)::pend else pend) K
     else QW (Q6 o.op (Q3 env) M) λp=>Jb S rest (X7 env o.dst p.1) hs M pend K)
    (if o.kind=2 then JP hs.length M pend/\Jb S rest (X7 env o.dst undef) (hs++[M]) M pend K else Jb S rest (X7 env o.dst undef) hs M pend K)
theorem HD {α:Type}{o:Option α}{f g:α->Prop}(h:QW o f) (uu:∀ a,f a->g a):QW o g:=by
 cases o with
 |none=>exact h.elim
 |some a=>exact uu a h
theorem Y4 {S:VSpecs}{K:Env->Heap->Prop}:∀ {ops:List DOper}{env:Env}{hs:List Heap}{M:Heap}{pend:List (Nat×(Heap->Prop))},Jb S ops env hs M pend K->Zm S ops env hs M pend K
 |[],_,_,_,_,h=>h
 |o::r,env,hs,M,pend,h=>by
  simp only[Jb] at h;simp only[Zm];refine HD h λb h=>⟨λe=>?_,λe=>?_⟩
  .have h:=h.1 e;split at h
   .rename_i hk;rw[z0 hk];obtain⟨v,M',h1,h2,h3⟩:=h;exact .inl ⟨v,M',h1,h2,Y4 h3⟩
   .rename_i hk;rw[z1 hk];split at h
    .rename_i bu;rw[z0 bu];exact HD h λp h=>⟨h.1,Y4 h.2⟩
    .rename_i bu;rw[z1 bu];exact HD h λp h=>Y4 h
  .have h:=h.2 e;split at h
   .rename_i hk;rw[z0 hk];exact⟨h.1,Y4 h.2⟩
   .rename_i hk;rw[z1 hk];exact Y4 h
theorem Qn {C:Cx}(aA:COk P C) (bB:C.xs=[]) {B0 F0 D0:Heap}:∀ (ops:List DOper),(∀ o∈ops,o.kind=o.op.kind)->∀ {s:St}{env:Env}{M:Heap}{B F:Heap}{pl:Nat->Value}{tb:Nat->Option Bool},GBase B0 F0 D0 B F M->Gam P B F pl tb s env M->∀ {hl chg:Nat}{A Rd:List (Nat×Option Nat)}{hs:List Heap}{pend pd:List (Nat×(Heap->Prop))},DSt hs M pd hl chg A Rd s.own pl->(∀ c∈pend,(∀ U,B.Le U->c.2 U)\/c∈pd)->(∀ j U,hs[j]?=some U->GR A j=true->B.Le U)->chg<=hl->0<hl ->
  ∀ {K:St->Prop},Xh C ops s hl chg A Rd K->∀ {R:Env->Heap->Prop},(∀ s' af M',K s'->GRel P B0 F0 D0 s' af M'->R af M')->Jb (Q2 P) ops env hs M pend R
 |[],_,s,env,M,B,F,pl,tb,hB,hG,_,_,_,_,_,_,_,_,_,_,_,_,K,h,R,hK=>hK s env M h ⟨B,F,pl,tb,hB,hG⟩
 |o0::r,fF,s,env,M,B,F,pl,tb,hB,hG,hl,chg,A,Rd,hs,pend,pd,hD,hp,b7,dR,aU,K,h,R,hK=>by
  have eO:∀ {n:Nat}{U:Heap},B.Le U->JP n U pd->JP n U pend:=λ{n U} hb hv=>YT λc hc hn=>(hp c hc).elim (λh=>h U hb) λh=>Me hv h hn;have snoc:∀ {U:Heap}{A':List (Nat×Option Nat)},B.Le U->(∀ j,GR A' j=true->GR A j=true)->∀ j U',(hs++[U])[j]?=some U'->GR A' j=true->B.Le U':=λ{U A'} hb hA j U' hm hn=>by
   rcases Jk hm with⟨_,h1⟩|⟨_,rfl⟩
   .exact b7 j U' h1 (hA j hn)
   .exact hb
  have cq:∀ o∈r,o.kind=o.op.kind:=λo' eS=>fF o' (z9 _ eS);have l4:=fF o0 ze;unfold Xh at h;split at h
  .rename_i aS;have hw:=K9 hG aS;simp only[Jb];rw[hw];refine⟨λe=>(by cases e),λ_=>?_⟩;have bj:=hG.put o0.dst (show SR P B pl tb .any undef by simp[SR]);by_cases au:o0.kind=2
   .rw[z0 au] at h |-;obtain⟨k1,k2⟩:=hD.stay;exact⟨eO hG.leB k1,Qn aA bB r cq hB bj (by rw[Za];exact k2) hp (snoc hG.leB λ_ h=>h) (by omega) (by omega) h hK⟩
   .rw[z1 au] at h |-;exact Qn aA bB r cq hB bj (by rw[Za];exact hD) hp b7 dR aU h hK
  have bO:(E7 s.env o0).kind=(E7 s.env o0).op.kind:=by unfold E7;split<;>exact l4
  have dg:Jb (Q2 P) (E7 s.env o0::r) env hs M pend R->Jb (Q2 P) (o0::r) env hs M pend R:=λhv=>by
   unfold E7 at hv;split at hv
   .rename_i aS;simp only[Jb] at hv |-;rw[K9 hG aS];exact hv
   .exact hv
  refine dg ?_;clear dg;generalize E7 s.env o0=o at h bO |-
  replace h:=id h
  simp only[Jb];by_cases au:o.kind=2
  .rw[z0 au] at h
   have fin:∀ {u:Value}{M':Heap}{ts:List Nat}{v:SV}{s':St}{pl':Nat->Value},(∀ R',R' u M'->vop (Q2 P) o.op env M R')->Xh C r (s'.put o.dst v) (hl+1) (bif ts.isEmpty then chg else hl) (ts.map (λt=>(hl-1,some t))++A) (bif ts.isEmpty then Rd else Rd.map λr=>(r.1,none)) K->Gam P B F pl' tb s' env M'->SR P B pl' tb v u->(ts=[]->M'=M/\pl'=pl/\s'=s)->M.Le M'->Dead M M'->FrL ts s s' pl pl' M M' ->
     D4 (λR=>vop (Q2 P) o.op env M R) λv M'=>JP hs.length M' pend/\Jb (Q2 P) r (X7 env o.dst v) (hs++[M']) M' pend R:=λ{u M' ts v s' pl'} bG oA bp jh he hle hd cQ=>by
    cases ts with
    |nil =>obtain⟨rfl,rfl,rfl⟩:=he rfl;obtain⟨k1,k2⟩:=hD.stay;exact⟨u,M',bG _ ⟨rfl,rfl⟩,eO bp.leB k1,Qn aA bB r cq (ML hB hd) (bp.put o.dst jh) (by rw[Za];exact k2) hp (snoc bp.leB λ_ h=>h) (by simp only[List.isEmpty,zg] at *;omega) (by omega) oA hK⟩
    |cons t ts =>obtain⟨k1,k2⟩:=hD.call hle cQ aU;exact⟨u,M',bG _ ⟨rfl,rfl⟩,eO bp.leB k1,Qn aA bB r cq (ML hB hd) (bp.put o.dst jh) (by rw[Za];exact k2) hp (snoc bp.leB λ_ h=>Hf h) (by simp only[List.isEmpty,zO] at *;omega) (by omega) oA hK⟩
   split at h
   .rename_i f args bG;split at h
    .rename_i hg;rw[hg];refine⟨λ_=>?_,λe=>by cases e⟩;rw[z0 au];rw[bB] at h;simp only[Qp] at h;obtain⟨g,a,b,u,M',e,v,s',pl',h1,h2,h3,h4,h5,h6,h7,h8,h9⟩:=XS aA hG h (show SR P M Jz ZF (.fn f [] []) (.func (.func f) #[] #[]) by simp only[SR,SRs];exact⟨[],[],rfl,rfl,rfl⟩) (hG.gcall Gds.nil args);obtain⟨rfl,rfl,rfl⟩:=(by simpa using h1:f=g/\#[]=a/\#[]=b);refine fin (u:=u) (M':=M') (λR' hr=>?_) h3 h4 h5 h6 h7 h8 h9;rw[bG];show VCalled P f (args.map (Q3 env)) M R';have:=h2.mono (R':=R') λu' aE ⟨e1,e2⟩=>by subst e1;subst e2;exact hr
     simpa using this
    .rename_i j want hg;rw[hg];split at h
     .exact h.elim
     .rename_i gs s1 dY;obtain⟨tb',bp,cT,b,hw,bm,bE⟩:=XJ hG dY;have aM:=Y_ dY;rw[hw];split at h
      .rename_i cs v dG;cases cG:Vd v with
       |false=>rw[cG] at h;exact h.elim
       |true =>
       rw[cG] at h;simp only[zg] at h;obtain⟨h1,h2⟩:=Zj h;obtain⟨k1,k2⟩:=hD.stay;have lW:∀ x,DSt (hs++[M]) M pd (hl+1) chg A Rd (s1.put o.dst x).own pl:=λx=>by rw[Za,aM];exact k2
       refine⟨λe=>?_,λe=>?_⟩
       .rw[z0 au];have gM:Gds tb' gs:=λg hg=>⟨bm e g hg,cT g hg⟩;have l5:∀ {v u},SR P B pl tb' v u->SR P B pl tb' (.grd gs (GU v)) u:=λ{v u} hs=>by
         simp only[SR];obtain⟨h1,h2⟩:=He hs;exact⟨⟨cT,h2⟩,λ_=>h1,λ⟨g,hg,av⟩=>absurd (bm e g hg) av⟩
        simp only[gqc] at dG;split at dG
        .rename_i c v' heq;cases cH:v'.ret 0 with
         |false=>rw[cH] at dG;cases dG
         |true =>
          rw[cH] at dG;obtain⟨rfl,rfl⟩:=QO dG;obtain⟨g,a,b',h3,h4,_⟩:=ZO aA.cs (show SR P M Jz ZF (.fn f [] []) (.func (.func f) #[] #[]) by simp only[SR,SRs];exact⟨[],[],rfl,rfl,rfl⟩) (bp.gcall gM args) heq cH rfl (h2 (bm e) _ (by simp));obtain⟨rfl,rfl,rfl⟩:=(by simpa using h3:f=g/\#[]=a/\#[]=b');refine⟨Vh Jz v',M,?_,eO hG.leB k1,Qn aA bB r cq hB (bp.put o.dst (l5 ?_)) (lW _) hp (snoc hG.leB λ_ h=>h) (by omega) (by omega) (Ze h1) hK⟩
          .rw[bG];show VCalled P f (args.map (Q3 env)) M _;have:=h4.mono (R':=λu M'=>u=Vh Jz v'/\M'=M) λu M' hr=>by
            obtain⟨rfl,hu⟩:=hr.flat cH;exact⟨VM v' u cH cG hu,rfl⟩
           simpa using this
          .exact SR.retd (λj hj=>by omega) _ _ cH (R_ (P:=P) (pl:=Jz) (m:=0) (λj hj=>by omega) v' cH cG)
        .cases dG
       .rw[z0 au];obtain⟨g,dL,av⟩:=bE e;exact⟨eO hG.leB k1,Qn aA bB r cq hB (bp.put o.dst (by simp only[SR];exact⟨⟨cT,Hi v⟩,λae=>absurd (ae g dL) av,λ_=>trivial⟩)) (lW _) hp (snoc hG.leB λ_ h=>h) (by omega) (by omega) (Ze h1) hK⟩
      .split at h
       .rename_i cs v kP;obtain⟨c,ty,k,xs,nl,heq,rfl,rfl,hk,dM⟩:=R3 kP;obtain⟨h1,h2⟩:=Zj h;have frz:∀ {B' M':Heap},B'.Le M'->∀ j U',(hs++[M'])[j]?=some U'->GR ((hl-1,none)::A) j=true->B'.Le U':=λ{B' M'} hb j U' hm hn=>by
         rcases Jk hm with⟨h1,_⟩|⟨_,rfl⟩
         .simp only[GR,zR,z2,zp,zI,Option.isSome_none,zA,or_false] at hn;have:=hD.len;omega
         .exact hb
        refine⟨λe=>?_,λe=>?_⟩
        .rw[z0 au];have gM:Gds tb' gs:=λg hg=>⟨bm e g hg,cT g hg⟩;have fJ:=h2 (bm e) c (by simp);have g9:=h2 (bm e) (nl=true->xs=[]) (by simp);have dY:MG C (C.off+o.dst.getD 0) (.fn f [] []) (BK s1.own (args.map (gev gs s1.env))) s1 (λts v' s'=>ts=[C.off+o.dst.getD 0]/\v'=.lst (C.off+o.dst.getD 0)/\s'=s1.make (C.off+o.dst.getD 0) (.lst ty k xs nl)):=by
          unfold MG;rw[heq];dsimp only;have ak:(SV.ret [OB.lst ty k xs nl].length (.lst 0)&&([OB.lst ty k xs nl].all OB.ret&&(Nat.blt 0 C.nt&&([OB.lst ty k xs nl].all OB.isL&&Vd (.lst 0)))))=true:=by simp only[SV.ret,xy,zR,List.all_nil,xT,OB.ret,hk,Bool.true_and,OB.isL,Vd];rw[z2];exact⟨rfl,by rw[zI];exact dM⟩
          rw[ak];simp only[zg,FA,OB.wf];refine⟨fJ,g9,?_,?_,?_⟩
          .simp[List.range_succ]
          .simp[SV.ren]
          .simp[St.makes]
         obtain⟨g,a,b',u,M',ts,v',s',pl',h3,h4,⟨rfl,rfl,rfl⟩,h5,h6,_,h7,h8,h9⟩:=XS aA bp dY (show SR P M Jz ZF (.fn f [] []) (.func (.func f) #[] #[]) by simp only[SR,SRs];exact⟨[],[],rfl,rfl,rfl⟩) (bp.gcall gM args);obtain⟨rfl,rfl,rfl⟩:=(by simpa using h3:f=g/\#[]=a/\#[]=b');obtain⟨B',F',m1,m2,m3⟩:=RY bp.bf hk h5 h6 h8;have cQ:FrL [C.off+o.dst.getD 0] s ((s1.make (C.off+o.dst.getD 0) .dead).put o.dst (.grd gs (.val (.list k) xs))) pl pl' M M':=λq hq=>by obtain⟨f1,f2,f3⟩:=h9 q hq;rw[aM] at f3;refine⟨?_,f2,f3⟩;rw[Za,Vv _ _ _ (by simpa using hq),aM]
         obtain⟨k1,k2⟩:=hD.call h7 cQ aU;refine⟨u,M',?_,eO (m1.b.trans m2.leB) k1,Qn aA bB r cq (hB.trans m1) (m2.put o.dst ?_) k2.frozen (λc hc=>(hp c hc).imp (λh U hτ=>h U (m1.b.trans hτ)) id) (frz m2.leB) (by omega) (by omega) h1 hK⟩
         .rw[bG];show VCalled P f (args.map (Q3 env)) M _;simpa using h4
         .simp only[SR];exact⟨⟨cT,trivial⟩,λ_=>m3,λ⟨g,hg,av⟩=>absurd (bm e g hg) av⟩
        .rw[z0 au];obtain⟨g,dL,av⟩:=bE e;have cQ:FrL [C.off+o.dst.getD 0] s ((s1.make (C.off+o.dst.getD 0) .dead).put o.dst (.grd gs (.val (.list k) xs))) pl (Jv pl (C.off+o.dst.getD 0) undef) M M:=λq hq=>by
          have cC:q≠C.off+o.dst.getD 0:=by simpa using hq
          refine⟨?_,by simp[Jv,cC],λ_ _ _=>rfl⟩;rw[Za,Vv _ _ _ cC,aM]
         obtain⟨k1,k2⟩:=hD.call (.refl M) cQ aU;refine⟨eO hG.leB k1,Qn aA bB r cq hB ((bp.make (C.off+o.dst.getD 0) .dead undef bp.le (λ_ _ _ _ _=>rfl) trivial (λi hl _=>by cases hl)).put o.dst ?_) k2.frozen hp (frz hG.leB) (by omega) (by omega) h1 hK⟩;simp only[SR];exact⟨⟨cT,trivial⟩,λae=>absurd (ae g dL) av,λ_=>trivial⟩
       .exact h.elim
   .rename_i f args bG;split at h
    .rename_i hg;rw[hg];refine⟨λ_=>?_,λe=>by cases e⟩;rw[z0 au];obtain⟨g,a,b,u,M',e,v,s',pl',h1,h2,h3,h4,h5,h6,h7,h8,h9⟩:=XS aA hG h (hG.gfun Gds.nil f) (hG.gcall Gds.nil args);refine fin (u:=u) (M':=M') (λR' hr=>?_) h3 h4 h5 h6 h7 h8 h9;rw[bG];exact Nn h1 (h2.mono (R':=R') λu' aE ⟨e1,e2⟩=>by subst e1;subst e2;exact hr)
    .exact h.elim
   .exact h.elim
   .exact h.elim
   .rename_i qR nE qS jM;split at h
    .rename_i hg;rw[hg];refine⟨λ_=>?_,λe=>by cases e⟩;rw[z0 au];have aC:CX o.op=false:=by
      cases ho:o.op<;>first|rfl|(exact absurd ho (qR _ _))|(exact absurd ho (nE _ _))|skip
      case ext x=>cases x<;>first|rfl|(exact absurd ho (qS _))|(exact absurd ho (jM _))
     cases kO:Lr C (o.dst.getD 0) o.op (gev [] s.env) with
     |true =>
      rw[kO] at h;simp only[zg] at h;cases hm:AW (Pv o.op) Rd hl (SW (C.off+o.dst.getD 0) o.op (gev [] s.env)) with
      |false=>rw[hm] at h;exact h.elim
      |true =>
       rw[hm] at h;simp only[zg] at h;obtain⟨u,M',pl',v,s',h1,h2,⟨h3,kM⟩,h4⟩:=HV (λx=>hG.evs (Gds.nil (tb:=tb)) x) hG h;have gx:∀ R',R' u M'->vop (Q2 P) o.op env M R':=λR' hr=>by
        have:vop (Q2 P) o.op env M R'=QW (Q6 o.op (Q3 env) M) λp=>R' p.1 p.2:=by
         cases ho:o.op with
         |callF f a=>rw[ho] at aC;cases aC
         |callV f a=>rw[ho] at aC;cases aC
         |ext x =>
          cases x with
          |nextMap y=>rw[ho] at h1;cases h1
          |_=>rfl
         |_=>rfl
        rw[this,h1];exact hr
       obtain⟨k1,k2⟩:=hD.writeD kM (λb9=>S5 b9 h1) hm aU;exact⟨u,M',gx _ ⟨rfl,rfl⟩,eO h3.leB k1,Qn aA bB r cq (ML hB (Ka h1)) (h3.put o.dst h4) (by rw[Za];exact k2) hp (snoc h3.leB λ_ h=>Hf h) (by omega) (by omega) h2 hK⟩
     |false =>
     rw[kO] at h;simp only[zO] at h;cases hm:((Pv o.op&&Ld Rd hl (Qx (C.off+o.dst.getD 0) o.op (gev [] s.env)))||TJ Rd hl (Qx (C.off+o.dst.getD 0) o.op (gev [] s.env))||(Tz o.op&&Q6u Rd hl (Qx (C.off+o.dst.getD 0) o.op (gev [] s.env)))) with
     |false=>rw[hm] at h;exact h.elim
     |true =>
      rw[hm] at h;simp only[zg] at h;obtain⟨u,M',pl',v,s',h1,h2,⟨h3,kM⟩,h4,hE⟩:=II hG h aC;have gx:∀ R',R' u M'->vop (Q2 P) o.op env M R':=λR' hr=>by
       have:vop (Q2 P) o.op env M R'=QW (Q6 o.op (Q3 env) M) λp=>R' p.1 p.2:=by
        cases ho:o.op with
        |callF f a=>rw[ho] at aC;cases aC
        |callV f a=>rw[ho] at aC;cases aC
        |ext x =>
         cases x with
         |nextMap y=>rw[ho] at h1;cases h1
         |_=>rfl
        |_=>rfl
       rw[this,h1];exact hr
      obtain⟨k1,k2⟩:=hD.write kM (λb9=>S5 b9 h1) hE hm aU;exact⟨u,M',gx _ ⟨rfl,rfl⟩,eO h3.leB k1,Qn aA bB r cq (ML hB (Ka h1)) (h3.put o.dst h4) (by rw[Za];exact k2) hp (snoc h3.leB λ_ h=>PL h) (by omega) (by omega) h2 hK⟩
    .exact h.elim
  .rw[z1 au] at h;have l6:o.op.kind≠2:=by rw[<-bO];exact au
   by_cases bu:o.kind=1
   .rw[z0 bu] at h
    have rd:∀ (rq:Option Nat),(∀ q,rq=some q->Nv o.op (gev [] s.env) s.own=some q)->(Nat.ble chg o.kmin||Hp A o.kmin rq)=true->gd1 C o s (λs'=>Xh C r s' hl chg A ((o.kmax,rq)::Rd) K) ->
      QW (J3 env o.guard) λb=>vif b (if o.kind=2 then D4 (λR=>vop (Q2 P) o.op env M R) λv M'=>JP hs.length M' pend/\Jb (Q2 P) r (X7 env o.dst v) (hs++[M']) M' pend R
       else if o.kind=1 then QW (Q6 o.op (Q3 env) M) λp=>(∀ U∈hs.drop o.kmin,JQ o.op (Q3 env) p.1 U) /\
        Jb (Q2 P) r (X7 env o.dst p.1) hs M (if hs.length<=o.kmax then (o.kmax,JQ o.op (Q3 env) p.1)::pend else pend) R
       else QW (Q6 o.op (Q3 env) M) λp=>Jb (Q2 P) r (X7 env o.dst p.1) hs M pend R)
      (if o.kind=2 then JP hs.length M pend/\Jb (Q2 P) r (X7 env o.dst undef) (hs++[M]) M pend R else Jb (Q2 P) r (X7 env o.dst undef) hs M pend R):=λrq oB hc h=>by
     obtain⟨b,hw,h1,h2⟩:=Vl hG h;rw[hw];have l7:DSt hs M pd hl chg A ((o.kmax,rq)::Rd) s.own pl:=⟨hD.len,hD.same,λc hc=>(hD.pend c hc).imp id λ⟨r,k1,k2⟩=>⟨r,z9 _ k1,k2⟩,hD.fr⟩;refine⟨λe=>?_,λe=>?_⟩
     .obtain⟨u,s',tb',h3,h4,aM,h5⟩:=h1 e;rw[z1 au,z0 bu,h3];refine⟨λU hτ=>?_,?_⟩
      .obtain⟨j,hj⟩:=xg.1 hτ;rw[zw] at hj;rw[zp] at hc;rcases hc with hc|hc
       .have:=hD.same (o.kmin+j) U (by have:=zC hc;omega) hj;subst this;exact ZQ h3
       .unfold Hp at hc;split at hc
        .rename_i q;obtain⟨k1,i,bl,k2,k3,k4,k5⟩:=YU hG (oB q rfl) h3;have hu:Zb A (o.kmin+j) (q / 2)=true:=by
          simp only[Zb,z6,zp,zI] at hc |-;exactλa ha=>(hc a ha).imp (λh=>by omega) id
         have:=hD.fr (o.kmin+j) U (q / 2) i hj hu k1 k2;exact ZQ (k4 U (by rw[this];exact k3))
        .cases hc
      .by_cases hle:hs.length<=o.kmax
       .rw[z0 hle];refine Qn aA bB r cq hB h5 (A:=A) (Rd:=(o.kmax,rq)::Rd) (hl:=hl) (chg:=chg) (pd:=(o.kmax,JQ o.op (Q3 env) u)::pd) ?_ (λc hc=>?_) b7 dR aU h4 hK
        .rw[aM];refine⟨hD.len,hD.same,λc hc=>?_,hD.fr⟩;rcases zf.1 hc with rfl|hc
         .refine .inr ⟨_,ze,z5 _,?_⟩;cases rq with
          |none=>exactλU hτ=>ZQ (Hz l6 h3 hτ)
          |some q =>obtain⟨k1,i,bl,k2,k3,k4,k5⟩:=YU hG (oB q rfl) h3;exact⟨k1,i,bl,k2,k3,λU ht=>ZQ (k4 U ht),λho=>(let ⟨es,c,wr,x1,x2⟩:=k5 ho;⟨es,c,wr,x1,λU bS c' hl ht=>ZQ (x2 U bS c' hl ht)⟩)⟩
         .exact l7.pend c hc
        .rcases zf.1 hc with rfl|hc
         .exact .inr ze
         .exact(hp c hc).imp id λh=>z9 _ h
       .rw[z1 hle];exact Qn aA bB r cq hB h5 (A:=A) (Rd:=(o.kmax,rq)::Rd) (hl:=hl) (chg:=chg) (pd:=pd) (by rw[aM];exact l7) hp b7 dR aU h4 hK
     .obtain⟨s',tb',h4,aM,h5⟩:=h2 e;rw[z1 au];exact Qn aA bB r cq hB h5 (by rw[aM];exact l7) hp b7 dR aU h4 hK
    have ro:GR A o.kmin=true->(∀ u,Q6 o.op (Q3 env) M=some (u,M)->(J3 env o.guard=some true)->∀ U,B.Le U->Q6 o.op (Q3 env) U=some (u,U))->gd1 C o s (λs'=>Xh C r s' hl chg A Rd K) ->
      QW (J3 env o.guard) λb=>vif b (if o.kind=2 then D4 (λR=>vop (Q2 P) o.op env M R) λv M'=>JP hs.length M' pend/\Jb (Q2 P) r (X7 env o.dst v) (hs++[M']) M' pend R
       else if o.kind=1 then QW (Q6 o.op (Q3 env) M) λp=>(∀ U∈hs.drop o.kmin,JQ o.op (Q3 env) p.1 U) /\
        Jb (Q2 P) r (X7 env o.dst p.1) hs M (if hs.length<=o.kmax then (o.kmax,JQ o.op (Q3 env) p.1)::pend else pend) R
       else QW (Q6 o.op (Q3 env) M) λp=>Jb (Q2 P) r (X7 env o.dst p.1) hs M pend R)
      (if o.kind=2 then JP hs.length M pend/\Jb (Q2 P) r (X7 env o.dst undef) (hs++[M]) M pend R else Jb (Q2 P) r (X7 env o.dst undef) hs M pend R):=λjN bL h=>by
     obtain⟨b,hw,h1,h2⟩:=Vl hG h;rw[hw];refine⟨λe=>?_,λe=>?_⟩
     .obtain⟨u,s',tb',h3,h4,aM,h5⟩:=h1 e;have bL:=bL u h3 (by rw[hw,e]);rw[z1 au,z0 bu,h3];refine⟨λU hτ=>?_,?_⟩
      .obtain⟨j,hj⟩:=xg.1 hτ;rw[zw] at hj;refine ZQ (bL U (b7 _ U hj ?_));simp only[GR,z6,zp,zI] at jN |-;exactλa ha=>(jN a ha).imp (λh=>by omega) id
      refine Qn aA bB r cq hB h5 (A:=A) (Rd:=Rd) (hl:=hl) (chg:=chg) (pd:=pd) (by rw[aM];exact hD) (λc hc=>?_) b7 dR aU h4 hK;split at hc
      .rcases zf.1 hc with rfl|hc
       .exact .inl λU hτ=>ZQ (bL U hτ)
       .exact hp c hc
      .exact hp c hc
     .obtain⟨s',tb',h4,aM,h5⟩:=h2 e;rw[z1 au];exact Qn aA bB r cq hB h5 (by rw[aM];exact hD) hp b7 dR aU h4 hK
    split at h
    .rename_i hg;cases hr:(Q6t o.op (gev [] s.env)&&GR A o.kmin) with
     |true =>rw[hr] at h;rw[z2] at hr;exact ro hr.2 (λu hu _=>M9 hG Gds.nil hr.1 hu) h
     |false =>
     rw[hr] at h;simp only[zO] at h;cases hb:(Nat.ble chg o.kmin||Hp A o.kmin (Nv o.op (gev [] s.env) s.own)) with
     |false=>rw[hb] at h;exact h.elim
     |true =>rw[hb] at h;exact rd _ (λq hq=>hq) hb h
    .rename_i j want hg;cases hr:(FI s j want o.op&&GR A o.kmin) with
     |true =>
      rw[hr] at h;rw[z2] at hr;obtain⟨hr,jN⟩:=hr;refine ro jN (λu hu hw=>?_) h;unfold FI at hr;split at hr
      .rename_i gs s1 dY;obtain⟨tb',bp,cT,b,dp,bm,bE⟩:=XJ hG dY;rw[hg,dp] at hw;have e:=osj hw;exact M9 bp (λg hg=>⟨bm e g hg,cT g hg⟩) hr hu
      .cases hr
     |false =>
     rw[hr] at h;simp only[zO] at h;cases hb:Nat.ble chg o.kmin with
     |false=>rw[hb] at h;exact h.elim
     |true =>rw[hb] at h;exact rd none (λq hq=>by cases hq) (by rw[hb];rfl) h
   .rw[z1 bu] at h;obtain⟨b,hw,h1,h2⟩:=Vl hG h;rw[hw];refine⟨λe=>?_,λe=>?_⟩
    .obtain⟨u,s',tb',h3,h4,aM,h5⟩:=h1 e;rw[z1 au,z1 bu,h3];exact Qn aA bB r cq hB h5 (by rw[aM];exact hD) hp b7 dR aU h4 hK
    .obtain⟨s',tb',h4,aM,h5⟩:=h2 e;rw[z1 au];exact Qn aA bB r cq hB h5 (by rw[aM];exact hD) hp b7 dR aU h4 hK
theorem Qo {C:Cx}(aA:COk P C) {B0 F0 D0:Heap}:∀ (ops:List DOper),(∀ o∈ops,o.kind=o.op.kind)->∀ {s:St}{env:Env}{M:Heap}{B F:Heap}{pl:Nat->Value}{tb:Nat->Option Bool},GBase B0 F0 D0 B F M->Gam P B F pl tb s env M->∀ {hl chg:Nat}{A Rd:List (Nat×Option Nat)}{hs:List Heap}{pend pd:List (Nat×(Heap->Prop))},DSt hs M pd hl chg A Rd s.own pl->(∀ c∈pend,(∀ U,B.Le U->c.2 U)\/c∈pd)->(∀ j U,hs[j]?=some U->GR A j=true->B.Le U)->chg<=hl->0<hl ->
  ∀ {K:St->Prop},Xh C ops s hl chg A Rd K->∀ {R:Env->Heap->Prop},(∀ s' af M',K s'->GRel P B0 F0 D0 s' af M'->R af M')->Zm (Q2 P) ops env hs M pend R
 |[],_,s,env,M,B,F,pl,tb,hB,hG,_,_,_,_,_,_,_,_,_,_,_,_,K,h,R,hK=>hK s env M h ⟨B,F,pl,tb,hB,hG⟩
 |o0::r,fF,s,env,M,B,F,pl,tb,hB,hG,hl,chg,A,Rd,hs,pend,pd,hD,hp,b7,dR,aU,K,h,R,hK=>by
  have eO:∀ {n:Nat}{U:Heap},B.Le U->JP n U pd->JP n U pend:=λ{n U} hb hv=>YT λc hc hn=>(hp c hc).elim (λh=>h U hb) λh=>Me hv h hn;have snoc:∀ {U:Heap}{A':List (Nat×Option Nat)},B.Le U->(∀ j,GR A' j=true->GR A j=true)->∀ j U',(hs++[U])[j]?=some U'->GR A' j=true->B.Le U':=λ{U A'} hb hA j U' hm hn=>by
   rcases Jk hm with⟨_,h1⟩|⟨_,rfl⟩
   .exact b7 j U' h1 (hA j hn)
   .exact hb
  have cq:∀ o∈r,o.kind=o.op.kind:=λo' eS=>fF o' (z9 _ eS);have l4:=fF o0 ze;unfold Xh at h;split at h
  .rename_i aS;have hw:=K9 hG aS;simp only[Zm];rw[hw];refine⟨λe=>(by cases e),λ_=>?_⟩;have bj:=hG.put o0.dst (show SR P B pl tb .any undef by simp[SR]);by_cases au:o0.kind=2
   .rw[z0 au] at h |-;obtain⟨k1,k2⟩:=hD.stay;exact⟨eO hG.leB k1,Qo aA r cq hB bj (by rw[Za];exact k2) hp (snoc hG.leB λ_ h=>h) (by omega) (by omega) h hK⟩
   .rw[z1 au] at h |-;exact Qo aA r cq hB bj (by rw[Za];exact hD) hp b7 dR aU h hK
  have bO:(E7 s.env o0).kind=(E7 s.env o0).op.kind:=by unfold E7;split<;>exact l4
  have dg:Zm (Q2 P) (E7 s.env o0::r) env hs M pend R->Zm (Q2 P) (o0::r) env hs M pend R:=λhv=>by
   unfold E7 at hv;split at hv
   .rename_i aS;simp only[Zm] at hv |-;rw[K9 hG aS];exact hv
   .exact hv
  refine dg ?_;clear dg;generalize E7 s.env o0=o at h bO |-
  replace h:=id h
  simp only[Zm];by_cases au:o.kind=2
  .rw[z0 au] at h
   have fin:∀ {u:Value}{M':Heap}{ts:List Nat}{v:SV}{s':St}{pl':Nat->Value},(∀ R',R' u M'->vop (Q2 P) o.op env M R')->Xh C r (s'.put o.dst v) (hl+1) (bif ts.isEmpty then chg else hl) (ts.map (λt=>(hl-1,some t))++A) (bif ts.isEmpty then Rd else Rd.map λr=>(r.1,none)) K->Gam P B F pl' tb s' env M'->SR P B pl' tb v u->(ts=[]->M'=M/\pl'=pl/\s'=s)->M.Le M'->Dead M M'->FrL ts s s' pl pl' M M' ->
     D4 (λR=>vop (Q2 P) o.op env M R) λv M'=>JP hs.length M' pend/\Zm (Q2 P) r (X7 env o.dst v) (hs++[M']) M' pend R:=λ{u M' ts v s' pl'} bG oA bp jh he hle hd cQ=>by
    cases ts with
    |nil =>obtain⟨rfl,rfl,rfl⟩:=he rfl;obtain⟨k1,k2⟩:=hD.stay;exact⟨u,M',bG _ ⟨rfl,rfl⟩,eO bp.leB k1,Qo aA r cq (ML hB hd) (bp.put o.dst jh) (by rw[Za];exact k2) hp (snoc bp.leB λ_ h=>h) (by simp only[List.isEmpty,zg] at *;omega) (by omega) oA hK⟩
    |cons t ts =>obtain⟨k1,k2⟩:=hD.call hle cQ aU;exact⟨u,M',bG _ ⟨rfl,rfl⟩,eO bp.leB k1,Qo aA r cq (ML hB hd) (bp.put o.dst jh) (by rw[Za];exact k2) hp (snoc bp.leB λ_ h=>Hf h) (by simp only[List.isEmpty,zO] at *;omega) (by omega) oA hK⟩
   split at h
   .rename_i f args bG;split at h
    .rename_i hg;rw[hg];refine⟨λ_=>?_,λe=>by cases e⟩;rw[z0 au]
     have oC:∀ {K':List Nat->SV->St->Prop},MG C (C.off+o.dst.getD 0) (.fn f [] []) (BK s.own (args.map (gev [] s.env))) s K'->(∀ ts v s',K' ts v s'->Xh C r (s'.put o.dst v) (hl+1) (bif ts.isEmpty then chg else hl) (ts.map (λt=>(hl-1,some t))++A) (bif ts.isEmpty then Rd else Rd.map λr=>(r.1,none)) K) ->
       D4 (λR=>vop (Q2 P) o.op env M R) λv M'=>JP hs.length M' pend/\Zm (Q2 P) r (X7 env o.dst v) (hs++[M']) M' pend R:=λ{K'} h qT=>by
      obtain⟨g,a,b,u,M',e,v,s',pl',h1,h2,h3,h4,h5,h6,h7,h8,h9⟩:=XS aA hG h (show SR P M Jz ZF (.fn f [] []) (.func (.func f) #[] #[]) by simp only[SR,SRs];exact⟨[],[],rfl,rfl,rfl⟩) (hG.gcall Gds.nil args);obtain⟨rfl,rfl,rfl⟩:=(by simpa using h1:f=g/\#[]=a/\#[]=b);refine fin (u:=u) (M':=M') (λR' hr=>?_) (qT _ _ _ h3) h4 h5 h6 h7 h8 h9;rw[bG];show VCalled P f (args.map (Q3 env)) M R';have:=h2.mono (R':=R') λu' aE ⟨e1,e2⟩=>by subst e1;subst e2;exact hr
      simpa using this
     split at h
     .rename_i x hx;split at h
      .rename_i jf uv;split at h
       .rename_i tt uw;cases gR:(waits o.dst.toList r&&AW false Rd hl [tt]) with
        |false=>rw[gR] at h;exact h.elim
        |true =>rw[gR] at h;simp only[zg] at h;rw[z2] at gR;refine .inr ⟨gR.1,?_⟩;rw[bG];show VCalled P f (args.map (Q3 env)) M _;refine aA.xf f jf uv x hx B F pl tb s env M _ _ _ _ _ tt hG (SRs.map λx _=>hG.evs Gds.nil x) uw h λv s' u M' k1 k2 k3 k4 k5=>?_;obtain⟨q1,q2⟩:=hD.writeD k5 (mk:=false) (λh=>by cases h) gR.2 aU;exact⟨eO k3.leB q1,Qo aA r cq (ML hB k2) (k3.put o.dst k4) (by rw[Za];exact q2) hp (snoc k3.leB λ_ h=>PL h) (by omega) (by omega) k1 hK⟩
       .exact h.elim
      .cases gR:(waits o.dst.toList r&&Rd.all (λq=>Nat.blt q.1 hl)) with
       |false=>rw[gR] at h;simp only[zO] at h;exact .inl (oC h λ_ _ _ h=>h)
       |true =>
        rw[gR] at h;simp only[zg] at h;rw[z2] at gR;refine .inr ⟨gR.1,?_⟩;rw[bG];show VCalled P f (args.map (Q3 env)) M _;have ax:∀ args:List Operand,SRs P B pl tb (args.map (gev [] s.env)) (args.map (Q3 env)):=λargs=>SRs.map λx _=>hG.evs Gds.nil x;refine aA.xs f x hx B F pl tb s env M _ _ _ _ _ hG (ax args) h λv s' B' F' pl' tb' u M' k1 k2 k3 k4=>?_;have ae:∀ c∈pd,c.1<hl:=λc hc=>by
         rcases hD.pend c hc with h1|⟨q,h1,h2,_⟩
         .exact h1
         .have:=z6.1 gR.2 q h1;rw[zI] at this;omega
        have ku:JP hs.length M' pd:=YT λc hc hle=>by have:=ae c hc;have:=hD.len;omega
        have qU:JP hs.length M' pend:=YT λc hc hn=>(hp c hc).elim (λh=>h M' (k2.b.trans k3.leB)) λh=>Me ku h hn;refine⟨qU,Qo aA r cq (hB.trans k2) (k3.put o.dst k4) (pd:=pd) ⟨by simp[hD.len],λj U hj ht=>?_,λc hc=>.inl (by have:=ae c hc;omega),λj U q i ht hu ck hi=>?_⟩ (λc hc=>(hp c hc).imp (λh U hτ=>h U (k2.b.trans hτ)) id) (λj U ht hn=>?_) (by omega) (by omega) k1 hK⟩
        .rcases Jk ht with⟨h1,_⟩|⟨_,h1⟩
         .rw[hD.len] at h1;omega
         .exact h1
        .rcases Jk ht with⟨h1,_⟩|⟨_,h1⟩
         .exfalso;rw[hD.len] at h1;simp only[Zb,zR,z2,zp,zI,zA,or_false] at hu;omega
         .rw[h1]
        .rcases Jk ht with⟨h1,_⟩|⟨_,h1⟩
         .exfalso;rw[hD.len] at h1;simp only[GR,zR,z2,zp,zI,Option.isSome_none,zA,or_false] at hn;omega
         .rw[h1];exact k3.leB
     .exact .inl (oC h λ_ _ _ h=>h)
    .rename_i j want hg;rw[hg];split at h
     .exact h.elim
     .rename_i gs s1 dY;obtain⟨tb',bp,cT,b,hw,bm,bE⟩:=XJ hG dY;have aM:=Y_ dY;rw[hw];split at h
      .rename_i cs v dG;cases cG:Vd v with
       |false=>rw[cG] at h;exact h.elim
       |true =>
       rw[cG] at h;simp only[zg] at h;obtain⟨h1,h2⟩:=Zj h;obtain⟨k1,k2⟩:=hD.stay;have lW:∀ x,DSt (hs++[M]) M pd (hl+1) chg A Rd (s1.put o.dst x).own pl:=λx=>by rw[Za,aM];exact k2
       refine⟨λe=>?_,λe=>?_⟩
       .rw[z0 au];have gM:Gds tb' gs:=λg hg=>⟨bm e g hg,cT g hg⟩;have l5:∀ {v u},SR P B pl tb' v u->SR P B pl tb' (.grd gs (GU v)) u:=λ{v u} hs=>by
         simp only[SR];obtain⟨h1,h2⟩:=He hs;exact⟨⟨cT,h2⟩,λ_=>h1,λ⟨g,hg,av⟩=>absurd (bm e g hg) av⟩
        simp only[gqc] at dG;split at dG
        .rename_i c v' heq;cases cH:v'.ret 0 with
         |false=>rw[cH] at dG;cases dG
         |true =>
          rw[cH] at dG;obtain⟨rfl,rfl⟩:=QO dG;obtain⟨g,a,b',h3,h4,_⟩:=ZO aA.cs (show SR P M Jz ZF (.fn f [] []) (.func (.func f) #[] #[]) by simp only[SR,SRs];exact⟨[],[],rfl,rfl,rfl⟩) (bp.gcall gM args) heq cH rfl (h2 (bm e) _ (by simp));obtain⟨rfl,rfl,rfl⟩:=(by simpa using h3:f=g/\#[]=a/\#[]=b');refine .inl ⟨Vh Jz v',M,?_,eO hG.leB k1,Qo aA r cq hB (bp.put o.dst (l5 ?_)) (lW _) hp (snoc hG.leB λ_ h=>h) (by omega) (by omega) (Ze h1) hK⟩
          .rw[bG];show VCalled P f (args.map (Q3 env)) M _;have:=h4.mono (R':=λu M'=>u=Vh Jz v'/\M'=M) λu M' hr=>by
            obtain⟨rfl,hu⟩:=hr.flat cH;exact⟨VM v' u cH cG hu,rfl⟩
           simpa using this
          .exact SR.retd (λj hj=>by omega) _ _ cH (R_ (P:=P) (pl:=Jz) (m:=0) (λj hj=>by omega) v' cH cG)
        .cases dG
       .rw[z0 au];obtain⟨g,dL,av⟩:=bE e;exact⟨eO hG.leB k1,Qo aA r cq hB (bp.put o.dst (by simp only[SR];exact⟨⟨cT,Hi v⟩,λae=>absurd (ae g dL) av,λ_=>trivial⟩)) (lW _) hp (snoc hG.leB λ_ h=>h) (by omega) (by omega) (Ze h1) hK⟩
      .split at h
       .rename_i cs v kP;obtain⟨c,ty,k,xs,nl,heq,rfl,rfl,hk,dM⟩:=R3 kP;obtain⟨h1,h2⟩:=Zj h;have frz:∀ {B' M':Heap},B'.Le M'->∀ j U',(hs++[M'])[j]?=some U'->GR ((hl-1,none)::A) j=true->B'.Le U':=λ{B' M'} hb j U' hm hn=>by
         rcases Jk hm with⟨h1,_⟩|⟨_,rfl⟩
         .simp only[GR,zR,z2,zp,zI,Option.isSome_none,zA,or_false] at hn;have:=hD.len;omega
         .exact hb
        refine⟨λe=>?_,λe=>?_⟩
        .rw[z0 au];have gM:Gds tb' gs:=λg hg=>⟨bm e g hg,cT g hg⟩;have fJ:=h2 (bm e) c (by simp);have g9:=h2 (bm e) (nl=true->xs=[]) (by simp);have dY:MG C (C.off+o.dst.getD 0) (.fn f [] []) (BK s1.own (args.map (gev gs s1.env))) s1 (λts v' s'=>ts=[C.off+o.dst.getD 0]/\v'=.lst (C.off+o.dst.getD 0)/\s'=s1.make (C.off+o.dst.getD 0) (.lst ty k xs nl)):=by
          unfold MG;rw[heq];dsimp only;have ak:(SV.ret [OB.lst ty k xs nl].length (.lst 0)&&([OB.lst ty k xs nl].all OB.ret&&(Nat.blt 0 C.nt&&([OB.lst ty k xs nl].all OB.isL&&Vd (.lst 0)))))=true:=by simp only[SV.ret,xy,zR,List.all_nil,xT,OB.ret,hk,Bool.true_and,OB.isL,Vd];rw[z2];exact⟨rfl,by rw[zI];exact dM⟩
          rw[ak];simp only[zg,FA,OB.wf];refine⟨fJ,g9,?_,?_,?_⟩
          .simp[List.range_succ]
          .simp[SV.ren]
          .simp[St.makes]
         obtain⟨g,a,b',u,M',ts,v',s',pl',h3,h4,⟨rfl,rfl,rfl⟩,h5,h6,_,h7,h8,h9⟩:=XS aA bp dY (show SR P M Jz ZF (.fn f [] []) (.func (.func f) #[] #[]) by simp only[SR,SRs];exact⟨[],[],rfl,rfl,rfl⟩) (bp.gcall gM args);obtain⟨rfl,rfl,rfl⟩:=(by simpa using h3:f=g/\#[]=a/\#[]=b');obtain⟨B',F',m1,m2,m3⟩:=RY bp.bf hk h5 h6 h8;have cQ:FrL [C.off+o.dst.getD 0] s ((s1.make (C.off+o.dst.getD 0) .dead).put o.dst (.grd gs (.val (.list k) xs))) pl pl' M M':=λq hq=>by obtain⟨f1,f2,f3⟩:=h9 q hq;rw[aM] at f3;refine⟨?_,f2,f3⟩;rw[Za,Vv _ _ _ (by simpa using hq),aM]
         obtain⟨k1,k2⟩:=hD.call h7 cQ aU;refine .inl ⟨u,M',?_,eO (m1.b.trans m2.leB) k1,Qo aA r cq (hB.trans m1) (m2.put o.dst ?_) k2.frozen (λc hc=>(hp c hc).imp (λh U hτ=>h U (m1.b.trans hτ)) id) (frz m2.leB) (by omega) (by omega) h1 hK⟩
         .rw[bG];show VCalled P f (args.map (Q3 env)) M _;simpa using h4
         .simp only[SR];exact⟨⟨cT,trivial⟩,λ_=>m3,λ⟨g,hg,av⟩=>absurd (bm e g hg) av⟩
        .rw[z0 au];obtain⟨g,dL,av⟩:=bE e;have cQ:FrL [C.off+o.dst.getD 0] s ((s1.make (C.off+o.dst.getD 0) .dead).put o.dst (.grd gs (.val (.list k) xs))) pl (Jv pl (C.off+o.dst.getD 0) undef) M M:=λq hq=>by
          have cC:q≠C.off+o.dst.getD 0:=by simpa using hq
          refine⟨?_,by simp[Jv,cC],λ_ _ _=>rfl⟩;rw[Za,Vv _ _ _ cC,aM]
         obtain⟨k1,k2⟩:=hD.call (.refl M) cQ aU;refine⟨eO hG.leB k1,Qo aA r cq hB ((bp.make (C.off+o.dst.getD 0) .dead undef bp.le (λ_ _ _ _ _=>rfl) trivial (λi hl _=>by cases hl)).put o.dst ?_) k2.frozen hp (frz hG.leB) (by omega) (by omega) h1 hK⟩;simp only[SR];exact⟨⟨cT,trivial⟩,λae=>absurd (ae g dL) av,λ_=>trivial⟩
       .exact h.elim
   .rename_i f args bG;split at h
    .rename_i hg;rw[hg];refine⟨λ_=>?_,λe=>by cases e⟩;rw[z0 au];refine .inl ?_;obtain⟨g,a,b,u,M',e,v,s',pl',h1,h2,h3,h4,h5,h6,h7,h8,h9⟩:=XS aA hG h (hG.gfun Gds.nil f) (hG.gcall Gds.nil args);refine fin (u:=u) (M':=M') (λR' hr=>?_) h3 h4 h5 h6 h7 h8 h9;rw[bG];exact Nn h1 (h2.mono (R':=R') λu' aE ⟨e1,e2⟩=>by subst e1;subst e2;exact hr)
    .exact h.elim
   .exact h.elim
   .exact h.elim
   .rename_i qR nE qS jM;split at h
    .rename_i hg;rw[hg];refine⟨λ_=>?_,λe=>by cases e⟩;rw[z0 au];have aC:CX o.op=false:=by
      cases ho:o.op<;>first|rfl|(exact absurd ho (qR _ _))|(exact absurd ho (nE _ _))|skip
      case ext x=>cases x<;>first|rfl|(exact absurd ho (qS _))|(exact absurd ho (jM _))
     cases kO:Lr C (o.dst.getD 0) o.op (gev [] s.env) with
     |true =>
      rw[kO] at h;simp only[zg] at h;cases hm:AW (Pv o.op) Rd hl (SW (C.off+o.dst.getD 0) o.op (gev [] s.env)) with
      |false=>rw[hm] at h;exact h.elim
      |true =>
       rw[hm] at h;simp only[zg] at h;obtain⟨u,M',pl',v,s',h1,h2,⟨h3,kM⟩,h4⟩:=HV (λx=>hG.evs (Gds.nil (tb:=tb)) x) hG h;have gx:∀ R',R' u M'->vop (Q2 P) o.op env M R':=λR' hr=>by
        have:vop (Q2 P) o.op env M R'=QW (Q6 o.op (Q3 env) M) λp=>R' p.1 p.2:=by
         cases ho:o.op with
         |callF f a=>rw[ho] at aC;cases aC
         |callV f a=>rw[ho] at aC;cases aC
         |ext x =>
          cases x with
          |nextMap y=>rw[ho] at h1;cases h1
          |_=>rfl
         |_=>rfl
        rw[this,h1];exact hr
       obtain⟨k1,k2⟩:=hD.writeD kM (λb9=>S5 b9 h1) hm aU;exact .inl ⟨u,M',gx _ ⟨rfl,rfl⟩,eO h3.leB k1,Qo aA r cq (ML hB (Ka h1)) (h3.put o.dst h4) (by rw[Za];exact k2) hp (snoc h3.leB λ_ h=>Hf h) (by omega) (by omega) h2 hK⟩
     |false =>
     rw[kO] at h;simp only[zO] at h;cases hm:((Pv o.op&&Ld Rd hl (Qx (C.off+o.dst.getD 0) o.op (gev [] s.env)))||TJ Rd hl (Qx (C.off+o.dst.getD 0) o.op (gev [] s.env))||(Tz o.op&&Q6u Rd hl (Qx (C.off+o.dst.getD 0) o.op (gev [] s.env)))) with
     |false=>rw[hm] at h;exact h.elim
     |true =>
      rw[hm] at h;simp only[zg] at h;obtain⟨u,M',pl',v,s',h1,h2,⟨h3,kM⟩,h4,hE⟩:=II hG h aC;have gx:∀ R',R' u M'->vop (Q2 P) o.op env M R':=λR' hr=>by
       have:vop (Q2 P) o.op env M R'=QW (Q6 o.op (Q3 env) M) λp=>R' p.1 p.2:=by
        cases ho:o.op with
        |callF f a=>rw[ho] at aC;cases aC
        |callV f a=>rw[ho] at aC;cases aC
        |ext x =>
         cases x with
         |nextMap y=>rw[ho] at h1;cases h1
         |_=>rfl
        |_=>rfl
       rw[this,h1];exact hr
      obtain⟨k1,k2⟩:=hD.write kM (λb9=>S5 b9 h1) hE hm aU;exact .inl ⟨u,M',gx _ ⟨rfl,rfl⟩,eO h3.leB k1,Qo aA r cq (ML hB (Ka h1)) (h3.put o.dst h4) (by rw[Za];exact k2) hp (snoc h3.leB λ_ h=>PL h) (by omega) (by omega) h2 hK⟩
    .exact h.elim
  .rw[z1 au] at h;have l6:o.op.kind≠2:=by rw[<-bO];exact au
   by_cases bu:o.kind=1
   .rw[z0 bu] at h
    have rd:∀ (rq:Option Nat),(∀ q,rq=some q->Nv o.op (gev [] s.env) s.own=some q)->(Nat.ble chg o.kmin||Hp A o.kmin rq)=true->gd1 C o s (λs'=>Xh C r s' hl chg A ((o.kmax,rq)::Rd) K) ->
      QW (J3 env o.guard) λb=>vif b (if o.kind=2 then (D4 (λR=>vop (Q2 P) o.op env M R) λv M'=>JP hs.length M' pend/\Zm (Q2 P) r (X7 env o.dst v) (hs++[M']) M' pend R)\/(waits o.dst.toList r=true/\vop (Q2 P) o.op env M λv M'=>JP hs.length M' pend/\Zm (Q2 P) r (X7 env o.dst v) (hs++[M']) M' pend R)
       else if o.kind=1 then QW (Q6 o.op (Q3 env) M) λp=>(∀ U∈hs.drop o.kmin,JQ o.op (Q3 env) p.1 U) /\
        Zm (Q2 P) r (X7 env o.dst p.1) hs M (if hs.length<=o.kmax then (o.kmax,JQ o.op (Q3 env) p.1)::pend else pend) R
       else QW (Q6 o.op (Q3 env) M) λp=>Zm (Q2 P) r (X7 env o.dst p.1) hs M pend R)
      (if o.kind=2 then JP hs.length M pend/\Zm (Q2 P) r (X7 env o.dst undef) (hs++[M]) M pend R else Zm (Q2 P) r (X7 env o.dst undef) hs M pend R):=λrq oB hc h=>by
     obtain⟨b,hw,h1,h2⟩:=Vl hG h;rw[hw];have l7:DSt hs M pd hl chg A ((o.kmax,rq)::Rd) s.own pl:=⟨hD.len,hD.same,λc hc=>(hD.pend c hc).imp id λ⟨r,k1,k2⟩=>⟨r,z9 _ k1,k2⟩,hD.fr⟩;refine⟨λe=>?_,λe=>?_⟩
     .obtain⟨u,s',tb',h3,h4,aM,h5⟩:=h1 e;rw[z1 au,z0 bu,h3];refine⟨λU hτ=>?_,?_⟩
      .obtain⟨j,hj⟩:=xg.1 hτ;rw[zw] at hj;rw[zp] at hc;rcases hc with hc|hc
       .have:=hD.same (o.kmin+j) U (by have:=zC hc;omega) hj;subst this;exact ZQ h3
       .unfold Hp at hc;split at hc
        .rename_i q;obtain⟨k1,i,bl,k2,k3,k4,k5⟩:=YU hG (oB q rfl) h3;have hu:Zb A (o.kmin+j) (q / 2)=true:=by
          simp only[Zb,z6,zp,zI] at hc |-;exactλa ha=>(hc a ha).imp (λh=>by omega) id
         have:=hD.fr (o.kmin+j) U (q / 2) i hj hu k1 k2;exact ZQ (k4 U (by rw[this];exact k3))
        .cases hc
      .by_cases hle:hs.length<=o.kmax
       .rw[z0 hle];refine Qo aA r cq hB h5 (A:=A) (Rd:=(o.kmax,rq)::Rd) (hl:=hl) (chg:=chg) (pd:=(o.kmax,JQ o.op (Q3 env) u)::pd) ?_ (λc hc=>?_) b7 dR aU h4 hK
        .rw[aM];refine⟨hD.len,hD.same,λc hc=>?_,hD.fr⟩;rcases zf.1 hc with rfl|hc
         .refine .inr ⟨_,ze,z5 _,?_⟩;cases rq with
          |none=>exactλU hτ=>ZQ (Hz l6 h3 hτ)
          |some q =>obtain⟨k1,i,bl,k2,k3,k4,k5⟩:=YU hG (oB q rfl) h3;exact⟨k1,i,bl,k2,k3,λU ht=>ZQ (k4 U ht),λho=>(let ⟨es,c,wr,x1,x2⟩:=k5 ho;⟨es,c,wr,x1,λU bS c' hl ht=>ZQ (x2 U bS c' hl ht)⟩)⟩
         .exact l7.pend c hc
        .rcases zf.1 hc with rfl|hc
         .exact .inr ze
         .exact(hp c hc).imp id λh=>z9 _ h
       .rw[z1 hle];exact Qo aA r cq hB h5 (A:=A) (Rd:=(o.kmax,rq)::Rd) (hl:=hl) (chg:=chg) (pd:=pd) (by rw[aM];exact l7) hp b7 dR aU h4 hK
     .obtain⟨s',tb',h4,aM,h5⟩:=h2 e;rw[z1 au];exact Qo aA r cq hB h5 (by rw[aM];exact l7) hp b7 dR aU h4 hK
    have ro:GR A o.kmin=true->(∀ u,Q6 o.op (Q3 env) M=some (u,M)->(J3 env o.guard=some true)->∀ U,B.Le U->Q6 o.op (Q3 env) U=some (u,U))->gd1 C o s (λs'=>Xh C r s' hl chg A Rd K) ->
      QW (J3 env o.guard) λb=>vif b (if o.kind=2 then (D4 (λR=>vop (Q2 P) o.op env M R) λv M'=>JP hs.length M' pend/\Zm (Q2 P) r (X7 env o.dst v) (hs++[M']) M' pend R)\/(waits o.dst.toList r=true/\vop (Q2 P) o.op env M λv M'=>JP hs.length M' pend/\Zm (Q2 P) r (X7 env o.dst v) (hs++[M']) M' pend R)
       else if o.kind=1 then QW (Q6 o.op (Q3 env) M) λp=>(∀ U∈hs.drop o.kmin,JQ o.op (Q3 env) p.1 U) /\
        Zm (Q2 P) r (X7 env o.dst p.1) hs M (if hs.length<=o.kmax then (o.kmax,JQ o.op (Q3 env) p.1)::pend else pend) R
       else QW (Q6 o.op (Q3 env) M) λp=>Zm (Q2 P) r (X7 env o.dst p.1) hs M pend R)
      (if o.kind=2 then JP hs.length M pend/\Zm (Q2 P) r (X7 env o.dst undef) (hs++[M]) M pend R else Zm (Q2 P) r (X7 env o.dst undef) hs M pend R):=λjN bL h=>by
     obtain⟨b,hw,h1,h2⟩:=Vl hG h;rw[hw];refine⟨λe=>?_,λe=>?_⟩
     .obtain⟨u,s',tb',h3,h4,aM,h5⟩:=h1 e;have bL:=bL u h3 (by rw[hw,e]);rw[z1 au,z0 bu,h3];refine⟨λU hτ=>?_,?_⟩
      .obtain⟨j,hj⟩:=xg.1 hτ;rw[zw] at hj;refine ZQ (bL U (b7 _ U hj ?_));simp only[GR,z6,zp,zI] at jN |-;exactλa ha=>(jN a ha).imp (λh=>by omega) id
      refine Qo aA r cq hB h5 (A:=A) (Rd:=Rd) (hl:=hl) (chg:=chg) (pd:=pd) (by rw[aM];exact hD) (λc hc=>?_) b7 dR aU h4 hK;split at hc
      .rcases zf.1 hc with rfl|hc
       .exact .inl λU hτ=>ZQ (bL U hτ)
       .exact hp c hc
      .exact hp c hc
     .obtain⟨s',tb',h4,aM,h5⟩:=h2 e;rw[z1 au];exact Qo aA r cq hB h5 (by rw[aM];exact hD) hp b7 dR aU h4 hK
    split at h
    .rename_i hg;cases hr:(Q6t o.op (gev [] s.env)&&GR A o.kmin) with
     |true =>rw[hr] at h;rw[z2] at hr;exact ro hr.2 (λu hu _=>M9 hG Gds.nil hr.1 hu) h
     |false =>
     rw[hr] at h;simp only[zO] at h;cases hb:(Nat.ble chg o.kmin||Hp A o.kmin (Nv o.op (gev [] s.env) s.own)) with
     |false=>rw[hb] at h;exact h.elim
     |true =>rw[hb] at h;exact rd _ (λq hq=>hq) hb h
    .rename_i j want hg;cases hr:(FI s j want o.op&&GR A o.kmin) with
     |true =>
      rw[hr] at h;rw[z2] at hr;obtain⟨hr,jN⟩:=hr;refine ro jN (λu hu hw=>?_) h;unfold FI at hr;split at hr
      .rename_i gs s1 dY;obtain⟨tb',bp,cT,b,dp,bm,bE⟩:=XJ hG dY;rw[hg,dp] at hw;have e:=osj hw;exact M9 bp (λg hg=>⟨bm e g hg,cT g hg⟩) hr hu
      .cases hr
     |false =>
     rw[hr] at h;simp only[zO] at h;cases hb:Nat.ble chg o.kmin with
     |false=>rw[hb] at h;exact h.elim
     |true =>rw[hb] at h;exact rd none (λq hq=>by cases hq) (by rw[hb];rfl) h
   .rw[z1 bu] at h;obtain⟨b,hw,h1,h2⟩:=Vl hG h;rw[hw];refine⟨λe=>?_,λe=>?_⟩
    .obtain⟨u,s',tb',h3,h4,aM,h5⟩:=h1 e;rw[z1 au,z1 bu,h3];exact Qo aA r cq hB h5 (by rw[aM];exact hD) hp b7 dR aU h4 hK
    .obtain⟨s',tb',h4,aM,h5⟩:=h2 e;rw[z1 au];exact Qo aA r cq hB h5 (by rw[aM];exact hD) hp b7 dR aU h4 hK
def Nb (pl:Nat->Value) (mp:List (Nat×Option Nat)):Nat->Value:=λt=>match Qp mp t with
 |some (some a)=>pl a
 |_=>.slice none 0 0
theorem La {h:Heap}{k k':Kind}{x:k.T}{y:k'.T}(e:MJ x y) {cs:List Value}(hk:KC h k' y cs):KC h k x cs:=by
 unfold MJ at e;split at e
 .rename_i z hz;obtain rfl:=TG hz;obtain rfl:=TX hz;subst e;exact hk
 .exact e.elim
mutual
theorem K0 {B:Heap}{pl:Nat->Value}{tb:Nat->Option Bool}{mp:List (Nat×Option Nat)}:∀ (p a:SV) (v:Value),BN mp p a->SR P B pl tb a v->SR P B (Nb pl mp) ZF p v
 |.any,a,v,_,_=>trivial
 |.val k x,a,v,h,hs=>by
  simp only[BN] at h;split at h
  .simp only[SR] at hs |-;exact La h hs
  .simp only[SR] at hs |-;exact La h (by simp[KC,hs.1])
  .split at h
   .subst h;simp only[SR] at hs |-;subst hs;exact⟨_,rfl,.inl ⟨rfl,rfl⟩⟩
   .exact h.elim
  .exact h.elim
 |.lst t,a,v,h,hs=>by
  simp only[BN] at h;split at h
  .split at h
   .rename_i e;simp only[SR,Nb,e] at hs |-;exact hs
   .exact h.elim
  .split at h
   .rename_i e;simp only[SR,Nb,e] at hs |-;exact⟨hs,_,_,_,hs⟩
   .exact h.elim
  .exact h.elim
 |.box t off,a,v,h,hs=>by
  simp only[BN] at h;split at h
  .split at h
   .rename_i e;obtain⟨e,rfl⟩:=e;simp only[SR,Nb,e] at hs |-;exact hs
   .exact h.elim
  .exact h.elim
 |.map t,a,v,h,hs=>by
  simp only[BN] at h;split at h
  .split at h
   .rename_i e;simp only[SR,Nb,e] at hs |-;exact hs
   .exact h.elim
  .exact h.elim
 |.dd t w,a,v,h,hs=>by
  simp only[BN] at h;split at h
  .split at h
   .simp only[SR] at hs |-;simp only[DR];exact .inl ⟨h,hs⟩
   .split at h
    .rename_i e;obtain⟨e,rfl⟩:=e;simp only[SR,DR,Nb,e] at hs |-;obtain⟨b,h1,h2⟩:=hs;exact .inr ⟨h,b,by rw[h1];rfl,h2⟩
    .exact h.elim
   .split at h
    .split at h
     .rename_i e;subst h;simp only[SR,DR,Nb,e] at hs |-;exact hs
     .exact h.elim
    .exact h.elim
   .exact h.elim
  .split at h
   .split at h
    .split at h
     .rename_i e;simp only[SR,Nb,e] at hs |-;exact hs
     .exact h.elim
    .exact h.elim
   .exact h.elim
  .split at h
   .split at h
    .split at h
     .rename_i e;simp only[SR,Nb,e] at hs |-;exact hs
     .exact h.elim
    .exact h.elim
   .split at h
    .rename_i e;simp only[SR,Nb,e] at hs |-;exact⟨hs,_,_,_,hs⟩
    .exact h.elim
   .exact h.elim
  .exact h.elim
 |.agg l,a,v,h,hs=>by
  simp only[BN] at h;split at h
  .rename_i l';simp only[SR] at hs |-;obtain⟨cs,h1,h2⟩:=hs;exact⟨cs,h1,QY l l' cs h h2⟩
  .exact h.elim
 |.tup l,a,v,h,hs=>by
  simp only[BN] at h;split at h
  .rename_i l';simp only[SR] at hs |-;obtain⟨cs,h1,h2⟩:=hs;exact⟨cs,h1,QY l l' cs h h2⟩
  .exact h.elim
 |.fn f x y,a,v,h,hs=>by
  simp only[BN] at h;split at h
  .split at h
   .rename_i e;subst e;simp only[SR] at hs |-;obtain⟨cs,ds,h1,h2,h3⟩:=hs;exact⟨cs,ds,h1,QY x _ cs h.1 h2,QY y _ ds h.2 h3⟩
   .exact h.elim
  .exact h.elim
 |.nilS,a,v,h,hs=>by
  simp only[BN] at h;split at h
  .simp only[SR] at hs |-;exact hs
  .exact h.elim
 |.nilP,a,v,h,hs=>by
  simp only[BN] at h;split at h
  .simp only[SR] at hs |-;exact hs
  .exact h.elim
 |.nilM,a,v,h,hs=>by
  simp only[BN] at h;split at h
  .simp only[SR] at hs |-;exact hs
  .exact h.elim
 |.nilF,a,v,h,hs=>by
  simp only[BN] at h;split at h
  .simp only[SR] at hs |-;exact hs
  .exact h.elim
 |.cp l off,a,v,h,hs=>by
  simp only[BN] at h;cases qV:SVs.pure l with
  |true =>rw[qV] at h;simp only[zg] at h;obtain⟨rfl,_⟩:=h;simp only[SR] at hs |-;obtain⟨b,c,e,wr,t,h1,h2,h3⟩:=hs;exact⟨b,c,e,wr,t,h1,h2,QZ l c qV h3⟩
  |false =>
   rw[qV] at h;simp only[zO] at h;split at h
   .split at h
    .rename_i l' dE he;subst he;simp only[SR] at hs |-;obtain⟨b,c,e,wr,t,h1,h2,h3⟩:=hs;exact⟨b,c,e,wr,t,h1,h2,QY l l' c h h3⟩
    .exact h.elim
   .exact h.elim
 |.pf ks r cS p,a,v,h,hs=>by simp only[BN] at h;subst h;simp only[SR] at hs |-;exact hs
 |.sub t lo n sz,a,v,h,hs=>by
  simp only[BN] at h;split at h
  .split at h
   .rename_i e;obtain⟨rfl,rfl,rfl⟩:=h;simp only[SR,Nb,e] at hs |-;exact hs
   .exact h.elim
  .exact h.elim
 |.elp _ _ _ _,_,_,h,_|.grd _ _,_,_,h,_|.bid _ _,_,_,h,_|.rop _ _ _ _,_,_,h,_=>by simp only[BN] at h
theorem QY {B:Heap}{pl:Nat->Value}{tb:Nat->Option Bool}{mp:List (Nat×Option Nat)}:∀ (p a:List SV) (v:List Value),VB mp p a->SRs P B pl tb a v->SRs P B (Nb pl mp) ZF p v
 |[],a,v,h,hs=>by simp only[VB] at h;subst h;exact hs
 |s::ss,[],v,h,hs=>by simp only[VB] at h
 |s::ss,a::bN,v,h,hs=>by simp only[VB] at h;simp only[SRs] at hs |-;obtain⟨x,y,h1,h2,h3⟩:=hs;exact⟨x,y,h1,K0 s a x h.1 h2,QY ss bN y h.2 h3⟩
theorem R8 {B:Heap}{pl pl':Nat->Value}{tb tb':Nat->Option Bool}:∀ (s:SV) (v:Value),s.pure=true->SR P B pl tb s v->SR P B pl' tb' s v
 |.any,v,_,_=>trivial
 |.val k x,v,_,h=>by simp only[SR] at h |-;exact h
 |.nilS,v,_,h|.nilP,v,_,h|.nilM,v,_,h|.nilF,v,_,h=>by simp only[SR] at h |-;exact h
 |.rop k l i off,v,_,h=>by simp only[SR] at h |-;exact h
 |.pf ks r cS p,v,_,h=>by simp only[SR] at h |-;exact h
 |.agg l,v,hp,h=>by simp only[SR] at h |-;obtain⟨cs,h1,h2⟩:=h;exact⟨cs,h1,QZ l cs hp h2⟩
 |.tup l,v,hp,h=>by simp only[SR] at h |-;obtain⟨cs,h1,h2⟩:=h;exact⟨cs,h1,QZ l cs hp h2⟩
 |.cp l off,v,hp,h=>by simp only[SR] at h |-;obtain⟨b,c,e,wr,t,h1,h2,h3⟩:=h;exact⟨b,c,e,wr,t,h1,h2,QZ l c hp h3⟩
 |.fn f a b,v,hp,h=>by simp only[SV.pure,z2] at hp;simp only[SR] at h |-;obtain⟨x,y,h1,h2,h3⟩:=h;exact⟨x,y,h1,QZ a x hp.1 h2,QZ b y hp.2 h3⟩
 |.lst _,_,h,_|.sub _ _ _ _,_,h,_|.elp _ _ _ _,_,h,_|.box _ _,_,h,_|.map _,_,h,_|.grd _ _,_,h,_|.bid _ _,_,h,_=>by cases h
theorem QZ {B:Heap}{pl pl':Nat->Value}{tb tb':Nat->Option Bool}:∀ (s:List SV) (v:List Value),SVs.pure s=true->SRs P B pl tb s v->SRs P B pl' tb' s v
 |[],v,_,h=>by simp only[SRs] at h |-;exact h
 |s::ss,v,hp,h=>by simp only[SVs.pure,z2] at hp;simp only[SRs] at h |-;obtain⟨x,y,h1,h2,h3⟩:=h;exact⟨x,y,h1,R8 s x hp.1 h2,QZ ss y hp.2 h3⟩
end
end
end Go.V
namespace Go.V
open Go
section
variable {P:Program}{B F:Heap}{pl:Nat->Value}{tb:Nat->Option Bool}{s:St}{env:Env}{M:Heap}
theorem Ui {k k':Kind}{xs:List k.T}{ys:List k'.T}(h:MJ (k:=.list k) xs (k':=.list k') ys):∃ e:k'=k,e▸ys=xs:=by
 unfold MJ at h;split at h
 .rename_i z hz;have e:=TG hz;obtain rfl:=Kind.list.inj e;obtain rfl:=TX hz;exact⟨rfl,h⟩
 .exact h.elim
theorem QU (hG:Gam P B F pl tb s env M) {mp:List (Nat×Option Nat)}{t:Nat}{b:OB}(h:Ij s mp t b) :
  OR P B (Nb pl mp) ZF M (Nb pl mp t) b/\(b.live=true->∀ i,Oid (Nb pl mp t) i->∃ a,Qp mp t=some (some a)/\(Q8 s.own a).live=true/\Oid (pl a) i):=by
 unfold Ij at h;split at h
 .rename_i a ha;have aY:Nb pl mp t=pl a:=by simp[Nb,ha]
  rw[aY];have ao:=hG.obj a;split at h
  .exact⟨trivial,λh=>by cases h⟩
  .rename_i ty k xs nl jg k' cI kH ho;split at h
   .rename_i e;subst e;obtain⟨h1,rfl⟩:=h;obtain⟨rfl,rfl⟩:=Ui h1;rw[ho] at ao;exact⟨ao,λ_ i hi=>⟨a,ha,by rw[ho];rfl,hi⟩⟩
   .exact h.elim
  .rename_i l u l' u' ho;split at h
   .rename_i e0;subst e0;rw[ho] at ao;obtain⟨i,c,e,t',h1,h2,h3,h4⟩:=ao;exact⟨⟨i,c,e,t',h1,h2,QY l l' c h h3,h4⟩,λ_ i hi=>⟨a,ha,by rw[ho];rfl,hi⟩⟩
   .exact h.elim
  .rename_i kk vk m jL lU m' ho;split at h
   .obtain⟨e,h1⟩:=Ui h;obtain⟨rfl,rfl⟩:=Kind.pair.inj e;subst h1;rw[ho] at ao;exact⟨ao,λ_ i hi=>⟨a,ha,by rw[ho];rfl,hi⟩⟩
   .exact h.elim
  .rename_i l vals l' kI ho;rw[ho] at ao;obtain⟨rfl,h⟩:=h;exact⟨QY l l' vals h ao,λh=>by cases h⟩
  .rename_i l q u l' q' u' ho;rw[ho] at ao;split at h
   .obtain⟨rfl,h⟩:=h;exact⟨⟨ao.1,QY l l' q.vals h ao.2.1,ao.2.2⟩,λ_ i hi=>⟨a,ha,by rw[ho];rfl,hi⟩⟩
   .obtain⟨rfl,h⟩:=h;exact⟨⟨ao.1,QY l l' q.vals h ao.2.1,ao.2.2⟩,λh=>by cases h⟩
   .exact h.elim
  .rename_i kk vk m dn jL lU m' rW ho;split at h
   .obtain⟨h,rfl⟩:=h;obtain⟨e,h1⟩:=Ui h;obtain⟨rfl,rfl⟩:=Kind.pair.inj e;subst h1;rw[ho] at ao;exact⟨ao,λ_ i hi=>⟨a,ha,by rw[ho];rfl,hi⟩⟩
   .exact h.elim
  .rename_i ty q k xs nl h0 jg q' k' cI kH rI ho;split at h
   .rename_i e;obtain⟨rfl,rfl⟩:=e;split at h
    .obtain⟨h1,rfl⟩:=h;obtain⟨rfl,rfl⟩:=Ui h1;rw[ho] at ao;exact⟨ao,λ_ i hi=>⟨a,ha,by rw[ho];rfl,hi⟩⟩
    .exact h.elim
   .exact h.elim
  .exact h.elim
 .rename_i ha;have aY:Nb pl mp t=.slice none 0 0:=by simp[Nb,ha]
  rw[aY];split at h
  .exact⟨.inl ⟨h.2,h.1,rfl⟩,λ_ i hi=>by cases hi⟩
  .split at h
   .obtain⟨rfl,rfl⟩:=h;refine⟨⟨[],λi=>⟨λh=>(by cases h),λ⟨b,h⟩=>(by cases h)⟩,List.nodup_nil,.inl ⟨rfl,rfl,rfl⟩,λi=>⟨λ⟨b,h⟩=>(by cases h),λh=>(by cases h)⟩,(λi b h=>by cases h),by simp[phd]⟩,λ_ i hi=>by cases hi⟩
   .exact h.elim
  .exact h.elim
 .exact h.elim
theorem V1 {α:Type _}(l:List (Nat×α)) (t:Nat) (x:α) (d:Nat):Qp (l++[(t,x)]) d=match Qp l d with|some y=>some y|none=>if t=d then some x else none:=by
 induction l with
 |nil =>
  simp only[xe,Qp];by_cases h:t=d
  .subst h;simp
  .rw[Zs h];simp[h]
 |cons p l ih =>obtain⟨k,y⟩:=p;simp only[zY,Qp,ih];cases Nat.beq k d<;>rfl
theorem Lp {α:Type _}{l:List (Nat×α)}{d:Nat}{x:α}(h:Qp l d=some x):∃ p∈l,p.1=d/\p.2=x:=by
 induction l with
 |nil=>cases h
 |cons p l ih =>
  obtain⟨k,y⟩:=p;simp only[Qp] at h;cases hb:Nat.beq k d with
  |true=>rw[hb] at h;obtain rfl:=osj h;exact⟨_,ze,zH hb,rfl⟩
  |false =>rw[hb] at h;obtain⟨p,h1,h2⟩:=ih h;exact⟨p,z9 _ h1,h2⟩
def Inj (mp:List (Nat×Option Nat)):Prop:=∀ t t' a,Qp mp t=some (some a)->Qp mp t'=some (some a)->t=t'
theorem Hl:∀ (l:List (Nat×Src)) (mp b_:List (Nat×Option Nat)),Q80 s l mp=some b_->Inj mp->Inj b_
 |[],mp,b_,h,hi=>by obtain rfl:=osj h;exact hi
 |(t,src)::r,mp,b_,h,hi=>by
  simp only[Q80] at h;split at h
  .rename_i a _;split at h
   .cases h
   .rename_i hc;refine Hl r _ _ h ?_;have cQ:∀ d,Qp mp d≠some (some a):=λd hd=>by
     obtain⟨p,h1,h2,h3⟩:=Lp hd;apply hc;simp only[zp];exact .inl (xi.2 ⟨p,h1,by rw[h3];simp⟩)
    intro t1 t2 a' h1 h2;rw[V1] at h1 h2;split at h1
    .rename_i y1 e1;split at h2
     .rename_i y2 e2;obtain rfl:=osj h1;obtain rfl:=osj h2;exact hi t1 t2 a' e1 e2
     .split at h2
      .obtain rfl:=osj (osj h2);obtain rfl:=osj h1;exact absurd e1 (cQ t1)
      .cases h2
    .split at h1
     .rename_i e1;obtain rfl:=osj (osj h1);split at h2
      .rename_i y2 e2;obtain rfl:=osj h2;exact absurd e2 (cQ t2)
      .split at h2
       .rename_i e2;omega
       .cases h2
     .cases h1
  .split at h
   .cases h
   .refine Hl r _ _ h ?_;intro t1 t2 a' h1 h2;rw[V1] at h1 h2;split at h1
    .rename_i y1 e1;split at h2
     .rename_i y2 e2;obtain rfl:=osj h1;obtain rfl:=osj h2;exact hi t1 t2 a' e1 e2
     .split at h2<;>cases h2
    .split at h1<;>cases h1
  .cases h
theorem Rz {mp:List (Nat×Option Nat)}:∀ {ow:List (Nat×Src×OB)},gmatch.obs s mp ow->∀ p∈ow,Ij s mp p.1 p.2.2
 |[],_,p,hp=>by cases hp
 |(t,src,b)::r,h,p,hp=>by
  simp only[gmatch.obs] at h;rcases zf.1 hp with rfl|hp
  .exact h.1
  .exact Rz h.2 p hp
theorem Vw {f:List (Nat×Src×OB)}:∀ (own:Own) (t:Nat),(∃ p∈f,p.1=t/\Q8 (f.foldl (λo p=>oset o p.1 p.2.2) own) t=p.2.2)\/Q8 (f.foldl (λo p=>oset o p.1 p.2.2) own) t=Q8 own t:=by
 induction f with
 |nil=>intro own t;exact .inr rfl
 |cons p f ih =>
  intro own t;simp only[w4];rcases ih (oset own p.1 p.2.2) t with⟨q,h1,h2⟩|h
  .exact .inl ⟨q,z9 _ h1,h2⟩
  .rw[h,Qi];by_cases e:t=p.1
   .rw[z0 e];exact .inl ⟨p,ze,e.symm,rfl⟩
   .rw[z1 e];exact .inr rfl
theorem Pu (hG:Gam P B F pl tb s env M) {mp:List (Nat×Option Nat)}:∀ (st:List (Nat×SV)) {e:List SV}{eV:Env},gmatch.slots s mp st->SRs P B (Nb pl mp) ZF e eV->SRs P B (Nb pl mp) ZF (st.foldl (λe p=>e.set p.1 p.2) e) (XD (st.map (·.1)) (BE (st.map (·.1)) env) eV)
 |[],e,eV,_,h=>h
 |(j,v)::r,e,eV,hs,h=>by simp only[gmatch.slots] at hs;simp only[w4,zF,BE,XD];exact Pu hG r hs.2 (h.set j (K0 v _ _ hs.1 (hG.env.getD j poison)))
theorem Im {B:Heap}{pl:Nat->Value}{tb:Nat->Option Bool}:∀ n,SRs P B pl tb (List.replicate n .any) (List.replicate n poison)
 |0=>by simp[SRs]
 |n+1=>by simp only[xt,SRs];exact⟨_,_,rfl,by simp[SR],Im n⟩
theorem Bd {B0 F0 D0:Heap}(hR:GRel P B0 F0 D0 s env M) {st:List (Nat×SV)}{ow:List (Nat×Src×OB)}(h:gmatch s st ow) (len:Nat):GRel P B0 F0 D0 (Z5 len st ow) (XD (st.map (·.1)) (BE (st.map (·.1)) env) (List.replicate len poison)) M:=by
 obtain⟨B,F,pl,tb,hB,hG⟩:=hR;unfold gmatch at h;split at h
 .rename_i mp l8;obtain⟨h1,h2⟩:=h;have eY:=Hl _ _ _ l8 (λt t' a h=>by cases h);have aH:=Rz h2;have ao:∀ t,(Q8 (Z5 len st ow).own t).live=true->Ij s mp t (Q8 (Z5 len st ow).own t):=λt hl=>by
   rcases Vw (f:=ow) [] t with⟨p,h3,h4,h5⟩|h3
   .have:=aH p h3;rw[h4,<-h5] at this;exact this
   .simp only[Z5] at hl;rw[h3] at hl;cases hl
  refine⟨B,F,Nb pl mp,ZF,hB,hG.bf,hG.le,Pu hG st h1 (Im len),λt=>?_,λt i hl hi=>?_,λt t' i av hl ck hi cF=>?_,λ_ _=>rfl⟩
  .cases hl:(Q8 (Z5 len st ow).own t).live with
   |true=>exact(QU hG (ao t hl)).1
   |false =>
    cases ho:Q8 (Z5 len st ow).own t with
    |dead=>trivial
    |stk l vals =>
     rcases Vw (f:=ow) [] t with⟨p,h3,h4,h5⟩|h3
     .have:=aH p h3;simp only[Z5] at ho;rw[<-h5,ho] at this;have h6:=(QU hG this).1;rw[h4] at h6;exact h6
     .simp only[Z5] at ho;rw[h3] at ho;cases ho
    |lpf l q u =>
     rcases Vw (f:=ow) [] t with⟨p,h3,h4,h5⟩|h3
     .have:=aH p h3;simp only[Z5] at ho;rw[<-h5,ho] at this;have h6:=(QU hG this).1;rw[h4] at h6;exact h6
     .simp only[Z5] at ho;rw[h3] at ho;cases ho
    |_=>rw[ho] at hl;cases hl
  .obtain⟨a,_,h4,h5⟩:=(QU hG (ao t hl)).2 hl i hi;exact hG.fresh a i h4 h5
  .obtain⟨a,e1,h4,h5⟩:=(QU hG (ao t hl)).2 hl i hi;obtain⟨a',e2,gX,qW⟩:=(QU hG (ao t' ck)).2 ck i cF;by_cases e:a=a'
   .subst e;exact av (eY t t' a e1 e2)
   .exact hG.sep a a' i e h4 gX h5 qW
 .exact h.elim
theorem Dw:∀ {dD cK:List SV}{vs:List Value}{B F:Heap}{s s':St},Gam P B F pl tb s env M->SRs P B pl tb dD vs->Q4v s dD=some (s',cK) ->
  ∃ B' F',GBase B F M B' F' M/\Gam P B' F' pl tb s' env M/\SRs P B' Jz ZF cK vs/\s'.env=s.env
 |[],cK,vs,B,F,s,s',hG,hs,h=>by simp only[Q4v,xd,Prod.mk.injEq] at h;obtain⟨rfl,rfl⟩:=h;exact⟨B,F,.of hG.bf (.refl _),hG,hs,rfl⟩
 |v::dD,cK,vs,B,F,s,s',hG,hs,h=>by
  simp only[SRs] at hs;obtain⟨u,us,rfl,h1,h2⟩:=hs
  have oD:∀ w:SV,SR P B pl tb w u->(bif w.pure then (match Q4v s dD with|some (s',r)=>some (s',w::r)|none=>none) else none)=some (s',cK) ->
    ∃ B' F',GBase B F M B' F' M/\Gam P B' F' pl tb s' env M/\SRs P B' Jz ZF cK (u::us)/\s'.env=s.env:=λw hw h=>by
   cases hp:w.pure with
   |false=>rw[hp] at h;cases h
   |true =>
    rw[hp] at h;simp only[zg] at h;split at h
    .rename_i s1 r heq;simp only[xd,Prod.mk.injEq] at h;obtain⟨rfl,rfl⟩:=h;obtain⟨B',F',k1,k2,k3,k4⟩:=Dw hG h2 heq;exact⟨B',F',k1,k2,by simp only[SRs];exact⟨u,us,rfl,SR.mono k1.b (λ_ _ h=>h) _ _ (R8 w u hp hw),k3⟩,k4⟩
    .cases h
  simp only[Q4v] at h;split at h
  .rename_i o;split at h
   .rename_i l _ ho;cases hp:SVs.pure l with
    |false=>rw[hp] at h;cases h
    |true =>
     rw[hp] at h;simp only[zg] at h;split at h
     .rename_i s1 r heq;simp only[xd,Prod.mk.injEq] at h;obtain⟨rfl,rfl⟩:=h;have ao:=hG.obj o;rw[ho] at ao;obtain⟨i,c,e,t,e1,e2,e3,_⟩:=ao;obtain⟨k1,k2⟩:=hG.freeze (o:=o) (i:=i) (by rw[ho];rfl) (by rw[e1];rfl);obtain⟨B',F',j1,j2,j3,j4⟩:=Dw k2 (SRs.mono k1.b (λ_ _ h=>h) _ _ h2) heq;refine⟨B',F',k1.trans j1,j2,?_,j4⟩;simp only[SRs];refine⟨u,us,rfl,?_,j3⟩;simp only[SR] at h1 |-;obtain⟨b,q1,q2⟩:=h1;rw[e1] at q1;obtain rfl:i=b:=by simpa using q1
      refine⟨i,c,e,true,t,j1.b.2 _ _ ?_,q2,SRs.mono (k1.trans j1).b (λ_ _ h=>h) _ _ (QZ l c hp e3)⟩;rw[Heap.q0n];exact e2
     .cases h
   .cases h
  .exact oD _ h1 h
theorem Gam.lpUpd (hG:Gam P B F pl tb s env M) {n:Nat}{b b0:Blk}(hF:F.get n=some b0) (hB:B.get n=none):Gam P B (F.upd n b) pl tb s env (M.upd n b):=by
 have av:∀ {d i},(Q8 s.own d).live=true->Oid (pl d) i->i≠n:=λh1 h2 e=>by have:=hG.fresh _ _ h1 h2;subst e;rw[hF] at this;cases this
 refine⟨⟨hG.bf.1,λi c hc=>?_⟩,⟨hG.le.1,λi c hc=>?_⟩,hG.env,λd=>(hG.obj d).mono (.refl _) (λ_ _ h=>h) λh1 i h2=>Heap.q0b _ _ (av h1 h2),λd i h1 h2=>?_,hG.sep,hG.free⟩
 .have:i≠n:=by rintro rfl;rw[hB] at hc;cases hc
  rw[Heap.q0b _ _ this];exact hG.bf.2 _ _ hc
 .by_cases e:i=n
  .subst e;rw[Heap.q0c _ _ (F.lt hF)] at hc;rw[Heap.q0c _ _ (x8 (F.lt hF) hG.le.1)];exact hc
  .rw[Heap.q0b _ _ e] at hc |-;exact hG.le.2 _ _ hc
 .rw[Heap.q0b _ _ (av h1 h2)];exact hG.fresh _ _ h1 h2
theorem Gam.lpKill (hG:Gam P B F pl tb s env M) {n:Nat}{b0:Blk}(hF:F.get n=some b0) (hB:B.get n=none):Gam P B (F.kill n) pl tb s env (M.kill n):=by
 have av:∀ {d i},(Q8 s.own d).live=true->Oid (pl d) i->i≠n:=λh1 h2 e=>by have:=hG.fresh _ _ h1 h2;subst e;rw[hF] at this;cases this
 refine⟨⟨hG.bf.1,λi c hc=>?_⟩,⟨hG.le.1,λi c hc=>?_⟩,hG.env,λd=>(hG.obj d).mono (.refl _) (λ_ _ h=>h) λh1 i h2=>Heap.q0d _ (av h1 h2),λd i h1 h2=>?_,hG.sep,hG.free⟩
 .have:i≠n:=by rintro rfl;rw[hB] at hc;cases hc
  rw[Heap.q0d _ this];exact hG.bf.2 _ _ hc
 .by_cases e:i=n
  .subst e;rw[Heap.q0g] at hc;cases hc
  .rw[Heap.q0d _ e] at hc |-;exact hG.le.2 _ _ hc
 .rw[Heap.q0d _ (av h1 h2)];exact hG.fresh _ _ h1 h2
theorem GRel.lpUpd {B1 F1 D0:Heap}(h:GRel P B1 F1 D0 s env M) {n:Nat}{b b0:Blk}(hF:F1.get n=some b0) (hB:B1.get n=none):GRel P B1 (F1.upd n b) D0 s env (M.upd n b):=by
 obtain⟨B,F,pl,tb,dH,hG⟩:=h;have oE:=dH.f.2 _ _ hF;have oF:=dH.x _ _ hF hB;refine⟨B,F.upd n b,pl,tb,⟨dH.b,⟨dH.f.1,λi c hc=>?_⟩,λi c h1 h2=>?_,⟨dH.d.1,λi h1 h2=>?_⟩⟩,hG.lpUpd oE oF⟩
 .by_cases e:i=n
  .subst e;rw[Heap.q0c _ _ (F1.lt hF)] at hc;rw[Heap.q0c _ _ (F.lt oE)];exact hc
  .rw[Heap.q0b _ _ e] at hc |-;exact dH.f.2 _ _ hc
 .by_cases e:i=n
  .subst e;exact oF
  .rw[Heap.q0b _ _ e] at h1;exact dH.x _ _ h1 h2
 .have hd:=dH.d.2 i h1 h2;have:i≠n:=by rintro rfl;rw[hG.le.2 _ _ oE] at hd;cases hd
  rw[Heap.q0b _ _ this];exact hd
theorem GRel.lpKill {B1 F1 D0:Heap}(h:GRel P B1 F1 D0 s env M) {n:Nat}{b0:Blk}(hF:F1.get n=some b0) (hB:B1.get n=none):GRel P B1 (F1.kill n) D0 s env (M.kill n):=by
 obtain⟨B,F,pl,tb,dH,hG⟩:=h;have oE:=dH.f.2 _ _ hF;have oF:=dH.x _ _ hF hB;refine⟨B,F.kill n,pl,tb,⟨dH.b,⟨dH.f.1,λi c hc=>?_⟩,λi c h1 h2=>?_,⟨dH.d.1,λi h1 h2=>?_⟩⟩,hG.lpKill oE oF⟩
 .by_cases e:i=n
  .subst e;rw[Heap.q0g] at hc;cases hc
  .rw[Heap.q0d _ e] at hc |-;exact dH.f.2 _ _ hc
 .by_cases e:i=n
  .subst e;exact oF
  .rw[Heap.q0d _ e] at h1;exact dH.x _ _ h1 h2
 .have hd:=dH.d.2 i h1 h2;by_cases e:i=n
  .subst e;exact Heap.q0g _ _
  .rw[Heap.q0d _ e];exact hd
theorem GRel.base {B0 F0 B1 F1 D0:Heap}(h:GRel P B1 F1 D0 s env M) (hb:B0.Le B1) (hf:F0.Le F1) (hx:∀ i b,F0.get i=some b->B0.get i=none->B1.get i=none):GRel P B0 F0 D0 s env M:=by obtain⟨B,F,pl,tb,dH,hG⟩:=h;exact⟨B,F,pl,tb,⟨hb.trans dH.b,hf.trans dH.f,λi b h1 h2=>dH.x i b (hf.2 _ _ h1) (hx i b h1 h2),dH.d⟩,hG⟩
theorem B7 (hG:Gam P B F pl tb s env M) {mp:List (Nat×Option Nat)}:∀ (st:List (Nat×SV)) {e:List SV},gmatch.slots s mp st->SRs P B (Nb pl mp) ZF e env->SRs P B (Nb pl mp) ZF (st.foldl (λe p=>e.set p.1 p.2) e) env
 |[],e,_,h=>h
 |(j,v)::r,e,hs,h=>by
  simp only[gmatch.slots] at hs;simp only[w4];refine B7 hG r hs.2 ?_;have:=h.set j (K0 v _ _ hs.1 (hG.env.getD j poison));by_cases hj:j<env.length
  .rwa [z4,z3 hj,Option.getD_some,List.set_getElem_self] at this
  .rw[List.set_eq_of_length_le (by rw[h.length];omega)];exact h
theorem CR {B:Heap}{pl:Nat->Value}{tb:Nat->Option Bool}:∀ (env:Env),SRs P B pl tb (List.replicate (List.length env) .any) env
 |[]=>by simp[SRs]
 |v::env=>by simp only[zP,xt,SRs];exact⟨_,_,rfl,by simp[SR],CR env⟩
theorem U7 {B0 F0 D0:Heap}(hR:GRel P B0 F0 D0 s env M) {st:List (Nat×SV)}{ow:List (Nat×Src×OB)}(h:gmatch s st ow):GRel P B0 F0 D0 (Z5 (List.length env) st ow) env M:=by
 obtain⟨B,F,pl,tb,hB,hG⟩:=hR;unfold gmatch at h;split at h
 .rename_i mp l8;obtain⟨h1,h2⟩:=h;have eY:=Hl _ _ _ l8 (λt t' a h=>by cases h);have aH:=Rz h2;have ao:∀ t,(Q8 (Z5 (List.length env) st ow).own t).live=true->Ij s mp t (Q8 (Z5 (List.length env) st ow).own t):=λt hl=>by
   rcases Vw (f:=ow) [] t with⟨p,h3,h4,h5⟩|h3
   .have:=aH p h3;rw[h4,<-h5] at this;exact this
   .simp only[Z5] at hl;rw[h3] at hl;cases hl
  refine⟨B,F,Nb pl mp,ZF,hB,hG.bf,hG.le,B7 hG st h1 (CR env),λt=>?_,λt i hl hi=>?_,λt t' i av hl ck hi cF=>?_,λ_ _=>rfl⟩
  .cases hl:(Q8 (Z5 (List.length env) st ow).own t).live with
   |true=>exact(QU hG (ao t hl)).1
   |false =>
    cases ho:Q8 (Z5 (List.length env) st ow).own t with
    |dead=>trivial
    |stk l vals =>
     rcases Vw (f:=ow) [] t with⟨p,h3,h4,h5⟩|h3
     .have:=aH p h3;simp only[Z5] at ho;rw[<-h5,ho] at this;have h6:=(QU hG this).1;rw[h4] at h6;exact h6
     .simp only[Z5] at ho;rw[h3] at ho;cases ho
    |lpf l q u =>
     rcases Vw (f:=ow) [] t with⟨p,h3,h4,h5⟩|h3
     .have:=aH p h3;simp only[Z5] at ho;rw[<-h5,ho] at this;have h6:=(QU hG this).1;rw[h4] at h6;exact h6
     .simp only[Z5] at ho;rw[h3] at ho;cases ho
    |_=>rw[ho] at hl;cases hl
  .obtain⟨a,_,h4,h5⟩:=(QU hG (ao t hl)).2 hl i hi;exact hG.fresh a i h4 h5
  .obtain⟨a,e1,h4,h5⟩:=(QU hG (ao t hl)).2 hl i hi;obtain⟨a',e2,gX,qW⟩:=(QU hG (ao t' ck)).2 ck i cF;by_cases e:a=a'
   .subst e;exact av (eY t t' a e1 e2)
   .exact hG.sep a a' i e h4 gX h5 qW
 .exact h.elim
theorem Ry {α:Type}{o:Option α}{f:α->Prop}(h:QW o f):∃ a,f a:=by
 cases o with
 |none=>exact h.elim
 |some a=>exact⟨a,h⟩
theorem COk.nx {C:Cx}(h:COk P C):COk P C.nx:=⟨h.cs,λf x hx=>(by cases hx),h.it,h.yl,h.iy,λf j _ x hx=>(by cases hx)⟩
theorem WY {S:VSpecs}{Q:Prop}:∀ {ops:List DOper}{env:Env}{hs:List Heap}{M:Heap}{pend:List (Nat×(Heap->Prop))},Jb S ops env hs M pend (λ_ _=>Q)->Q
 |[],_,_,_,_,h=>h
 |o::r,env,hs,M,pend,h=>by
  simp only[Jb] at h;obtain⟨b,h⟩:=Ry h;cases b with
  |true =>
   have h:=h.1 rfl;split at h
   .obtain⟨v,M',_,_,h⟩:=h;exact WY h
   .split at h
    .obtain⟨p,_,h⟩:=Ry h;exact WY h
    .obtain⟨p,h⟩:=Ry h;exact WY h
  |false =>
   have h:=h.2 rfl;split at h
   .exact WY h.2
   .exact WY h
theorem PO {C:Cx}{s:St}{st:List (Nat×SV)}{ow:List (Nat×Src×OB)}{Q:Prop}:∀ (ls:List (List DOper)),Q61 C ls s st ow Q->(∀ l∈ls,Xh C.nx l s 1 0 [] [] λs'=>Du s.env.length s' st ow)/\Q
 |[],h=>⟨λl hl=>(by cases hl),h⟩
 |l::ls,h=>by obtain⟨h1,h2⟩:=h;obtain⟨h3,h4⟩:=PO ls h2;exact⟨λl' ck=>(zf.1 ck).elim (λe=>e▸h1) (h3 l'),h4⟩
theorem Ua {B0 F0 D0:Heap}{s:St}{env:Env}{M:Heap}{n:Nat}(hR:GRel P B0 F0 D0 s env M) {st:List (Nat×SV)}{ow:List (Nat×Src×OB)}(h:Du n s st ow):GRel P B0 F0 D0 (Z5 n st ow) env M:=by
 unfold Du at h;cases hb:Nat.beq s.env.length n with
 |false=>rw[hb] at h;exact h.elim
 |true =>
  rw[hb] at h;have hl:env.length=n:=by rw[<-zH hb];obtain⟨_,_,_,_,_,hG⟩:=hR;exact hG.env.length.symm
  rw[<-hl];exact U7 hR h
theorem Y6 {C:Cx}(aA:COk P C) {B0 F0 D0:Heap}:∀ (aQ:List DSeg) {s:St}{env:Env}{M:Heap},GRel P B0 F0 D0 s env M->∀ {K:St->Prop},Rq C aQ s K->∀ {R:Env->Heap->Prop},(∀ s' af M',K s'->GRel P B0 F0 D0 s' af M'->R af M')->Mn (Q2 P) aQ env M R
 |[],s,env,M,hR,K,h,R,hK=>hK s env M h hR
 |.one o::r,s,env,M,hR,K,h,R,hK=>by refine Mb aA [o] hR (K:=λs'=>Rq C r s' K) h λs' af M' h1 h2=>?_;exact Y6 aA r h2 h1 hK
 |.alts [l]::r,s,env,M,hR,K,h,R,hK=>by
  simp only[Rq] at h;cases hd:Q43 l with
  |false =>
   rw[hd] at h;simp only[zO] at h;cases hk:l.all (λo=>o.kind==o.op.kind) with
   |false=>rw[hk] at h;exact h.elim
   |true =>
    rw[hk] at h;simp only[zg] at h;intro ops ho;obtain rfl:=z8.1 ho;obtain⟨B,F,pl,tb,hB,hG⟩:=hR;have one:∀ (j:Nat) (U:Heap),([M]:List Heap)[j]?=some U->U=M:=λj U ht=>by
     cases j with
     |zero=>simpa using ht.symm
     |succ j=>simp at ht
    exact Qo aA ops (λo ho=>by simpa using z6.1 hk o ho) hB hG (hl:=1) (chg:=0) (A:=[]) (Rd:=[]) ⟨rfl,λj U _ ht=>one j U ht,(λc hc=>absurd hc (by simp)),λj U q i ht _ _ _=>by rw[one j U ht]⟩ (pend:=[]) (pd:=[]) (λc hc=>absurd hc (by simp)) (λj U ht _=>by rw[one j U ht];exact hG.leB) (Nat.zero_le _) (Nat.succ_pos _) h λs' af M' h1 h2=>⟨af,M',.refl _ _ _,Y6 aA r h2 h1 hK⟩
  |true =>rw[hd] at h;refine Oi (l:=l) hd ?_;exact Mb aA _ hR h λs' af M' h1 h2=>Y6 aA r h2 h1 hK
 |.alts []::r,s,env,M,hR,K,h,R,hK=>h.elim
 |.alts (l::l2::ls)::r,s,env,M,hR,K,h,R,hK=>by
  simp only[Rq] at h;cases hk:(l::l2::ls).all (λl=>l.all λo=>o.kind==o.op.kind) with
  |false=>rw[hk] at h;exact h.elim
  |true =>
   rw[hk] at h;simp only[zg] at h;obtain⟨B,F,pl,tb,hB,hG⟩:=hR;have one:∀ (j:Nat) (U:Heap),([M]:List Heap)[j]?=some U->U=M:=λj U ht=>by
    cases j with
    |zero=>simpa using ht.symm
    |succ j=>simp at ht
   have run:∀ l'∈l::l2::ls,∀ {K':St->Prop},Xh C.nx l' s 1 0 [] [] K'->∀ {R':Env->Heap->Prop},(∀ s' af M',K' s'->GRel P B0 F0 D0 s' af M'->R' af M')->Jb (Q2 P) l' env [M] M [] R':=λl' ck K' h' R' qT =>
    Qn aA.nx rfl l' (λo ho=>by simpa using z6.1 (z6.1 hk l' ck) o ho) hB hG (hl:=1) (chg:=0) (A:=[]) (Rd:=[]) ⟨rfl,λj U _ ht=>one j U ht,(λc hc=>absurd hc (by simp)),λj U q i ht _ _ _=>by rw[one j U ht]⟩ (pend:=[]) (pd:=[]) (λc hc=>absurd hc (by simp)) (λj U ht _=>by rw[one j U ht];exact hG.leB) (Nat.zero_le _) (Nat.succ_pos _) h' qT
   obtain⟨s0,h0,h1⟩:=WY (run l ze h (R':=λ_ _=>∃ s0:St,_) λs' _ _ h' _=>⟨s',h'⟩);obtain⟨h2,h3⟩:=PO _ h1;intro ops ho;rcases zf.1 ho with rfl|eS
   .refine Y4 ?_;exact run ops ho h λs' af M' h' qX=>⟨af,M',.refl _ _ _,by
     obtain⟨k1,k2⟩:=h';exact Y6 aA r (Ua qX k1) (PO _ k2).2 hK⟩
   .refine Y4 ?_;exact run ops ho (h2 ops eS) λs' af M' h' qX=>⟨af,M',.refl _ _ _,Y6 aA r (Ua qX h') h3 hK⟩
theorem Hx:∀ (l:List Nat) (vs:List SV),(Q6j l vs).map (·.1)=l
 |[],_=>rfl
 |j::js,[]=>by simp[Q6j,Hx js []]
 |j::js,v::vs=>by simp[Q6j,Hx js vs]
theorem NR {B:Heap}{pl:Nat->Value}{tb:Nat->Option Bool}:∀ {ps:List Nat}{xs:List SV}{us:List Value}{e:List SV}{env:Env},SRs P B pl tb xs us->SRs P B pl tb e env->SRs P B pl tb (Gs e ps xs) (Hy env ps us)
 |[],xs,us,e,env,_,h=>by simpa [Gs,Hy] using h
 |p::ps,[],us,e,env,hx,h=>by simp only[SRs] at hx;subst hx;simpa [Gs,Hy] using h
 |p::ps,x::xs,us,e,env,hx,h=>by simp only[SRs] at hx;obtain⟨u,je,rfl,h1,h2⟩:=hx;simp only[Gs,Hy];exact NR h2 (h.set p h1)
def Z1x (F0:Heap):Option Nat->Prop
 |none=>True
 |some i=>∃ env r st pend,F0.get i=some (.obj (.lp env r st pend) true)
theorem Gam.dropLp {B F:Heap}{pl:Nat->Value}{tb:Nat->Option Bool}{s:St}{env:Env}{M:Heap}(hG:Gam P B F pl tb s env M) {o:Nat}{l:List SV}{q:LpD}{u:LpS}(ho:Q8 s.own o=.lpf l q u) (hl:u.live=true) :
  Gam P B F pl tb ⟨l,oset s.own o .dead,s.nx⟩ q.vals (M.kill q.i)/\M.get q.i=some (.obj (.lp q.vals q.r u.st u.pend) true):=by
 have ao:=hG.obj o;rw[ho] at ao;obtain⟨h1,h2,h3⟩:=ao;have jv:(Q8 s.own o).live=true:=by rw[ho];exact hl
 have jO:Oid (pl o) q.i:=by rw[h1];rfl
 have hF:=hG.fresh o q.i jv jO;have lv:∀ d,(Q8 (oset s.own o .dead) d).live=true->d≠o/\(Q8 s.own d).live=true:=λd h=>by
  rw[Qi] at h;by_cases e:d=o
  .rw[z0 e] at h;cases h
  .rw[z1 e] at h;exact⟨e,h⟩
 refine⟨⟨hG.bf,⟨hG.le.1,λj b hb=>?_⟩,h2,λd=>?_,λd i hd hi=>hG.fresh d i (lv d hd).2 hi,λd d' i e h h'=>hG.sep d d' i e (lv d h).2 (lv d' h').2,hG.free⟩,h3 hl⟩
 .have e:j≠q.i:=by rintro rfl;rw[hF] at hb;cases hb
  rw[Heap.q0d _ e];exact hG.le.2 _ _ hb
 .rw[Qi];by_cases e:d=o
  .rw[z0 e];trivial
  .rw[z1 e];refine (hG.obj d).mono (.refl _) (λ_ _ h=>h) λhd i hi=>?_;have:i≠q.i:=by rintro rfl;exact hG.sep d o q.i e hd jv hi jO
   exact Heap.q0d _ this
theorem IE (s:St) (o:Nat) (b:OB) (j:Nat):Q8 (s.make o b).own j=if j=o then b else (Q8 s.own j).kill o:=by
 simp only[St.make,Qi];by_cases h:j=o
 .subst h;simp
 .simp only[h,if_false,St.kill,Vs]
theorem Gam.enterLp {B F:Heap}{pl:Nat->Value}{tb:Nat->Option Bool}{s:St}{env:Env}{M:Heap}(hG:Gam P B F pl tb s env M) {o aK:Nat}{l:List SV}{q:LpD}(ho:Q8 s.own o=.lpf l q .rdy) (av:o≠aK)
  {args:List SV}{us:List Value}(ax:SRs P B pl tb args us) (ps:List Nat) :
  Gam P B (F.ins M q.i hG.le.1) (Jv pl aK poison) tb ⟨Gs (SVs.kill aK l) ps (SVs.kill aK args),oset (LK aK env s).own o (.lpf (SVs.kill aK l) q .busy),s.nx⟩ (Hy q.vals ps us) M:=by
 have q3:Gam P B F (Jv pl aK poison) tb (LK aK env s) env M:=by refine hG.make aK _ poison hG.le (λ_ _ _ _ _=>rfl) ?_ (λi hl _=>by cases hl);exact SRs.upd (.refl _) (λ_ _ h=>h) (λj hj=>by simp[Jv,hj]) _ _ hG.env
 have ao:=hG.obj o;rw[ho] at ao;obtain⟨h1,h2,h3⟩:=ao;have jv:(Q8 s.own o).live=true:=by rw[ho];rfl
 have g_:Jv pl aK poison o=.pointer (some ⟨q.i,0,none⟩):=by simp[Jv,av,h1]
 have ux:Q8 (LK aK env s).own o=.lpf (SVs.kill aK l) q .rdy:=by have:=IE s aK (.stk (SVs.kill aK s.env) env) o;unfold LK;rw[this,z1 av,ho];rfl
 have oG:(Q8 (LK aK env s).own o).live=true:=by rw[ux];rfl
 have jO:Oid (Jv pl aK poison o) q.i:=by rw[g_];rfl
 have hF:=q3.fresh o q.i oG jO;have cj:SRs P B (Jv pl aK poison) tb (SVs.kill aK l) q.vals:=SRs.upd (.refl _) (λ_ _ h=>h) (λj hj=>by simp[Jv,hj]) _ _ h2;have uy:SRs P B (Jv pl aK poison) tb (SVs.kill aK args) us:=SRs.upd (.refl _) (λ_ _ h=>h) (λj hj=>by simp[Jv,hj]) _ _ ax;have lv:∀ d,(Q8 (oset (LK aK env s).own o (.lpf (SVs.kill aK l) q .busy)) d).live=true->d≠o/\(Q8 (LK aK env s).own d).live=true:=λd h=>by
  rw[Qi] at h;by_cases e:d=o
  .rw[z0 e] at h;cases h
  .rw[z1 e] at h;exact⟨e,h⟩
 refine⟨q3.bf.trans (hG.le.ins _),hG.le.q1v _,NR uy cj,λd=>?_,λd i hd hi=>?_,λd d' i e h h'=>q3.sep d d' i e (lv d h).2 (lv d' h').2,q3.free⟩
 .show OR P B _ tb M _ (Q8 (oset _ o _) d);rw[Qi];by_cases e:d=o
  .subst e;rw[z0 rfl];exact⟨g_,cj,λh=>by cases h⟩
  .rw[z1 e];exact q3.obj d
 .obtain⟨e,r_⟩:=lv d hd;have:i≠q.i:=by rintro rfl;exact q3.sep d o q.i e r_ oG hi jO
  rw[Heap.q1c _ _ _ this];exact q3.fresh d i r_ hi
theorem Gam.leaveLp {B F:Heap}{pl:Nat->Value}{tb:Nat->Option Bool}{s:St}{env:Env}{M:Heap}(hG:Gam P B F pl tb s env M) {o aK:Nat}{l l2:List SV}{kJ:List Value}{q:LpD}{b0:Blk}(hF:F.get q.i=some b0) (hB:B.get q.i=none)
  (h2:Q8 s.own aK=.stk l2 kJ) (ho:Q8 s.own o=.lpf l q .busy) (u:LpS) :
  Gam P B (F.kill q.i) pl tb ⟨l2,oset (oset s.own aK .dead) o (.lpf l q u),s.nx⟩ kJ (M.upd q.i (.obj (.lp q.vals q.r u.st u.pend) true)):=by
 have ao:=hG.obj o;rw[ho] at ao;obtain⟨k1,k2,_⟩:=ao;have hk:=hG.obj aK;rw[h2] at hk;have hi:q.i<M.n:=M.lt (hG.le.2 _ _ hF);have av:∀ {d i},(Q8 s.own d).live=true->Oid (pl d) i->i≠q.i:=λh1 h2 e=>by have:=hG.fresh _ _ h1 h2;subst e;rw[hF] at this;cases this
 have jO:∀ i,Oid (pl o) i->i=q.i:=λi h=>by rw[k1] at h;exact(osj h).symm
 have hg:∀ d,Q8 (oset (oset s.own aK .dead) o (.lpf l q u)) d=if d=o then .lpf l q u else if d=aK then .dead else Q8 s.own d:=λd=>by rw[Qi,Qi]
 have lv:∀ d,d≠o->(Q8 (oset (oset s.own aK .dead) o (.lpf l q u)) d).live=true->(Q8 s.own d).live=true:=λd e h=>by
  rw[hg,z1 e] at h;split at h
  .cases h
  .exact h
 refine⟨⟨hG.bf.1,λj b hb=>?_⟩,⟨hG.le.1,λj b hb=>?_⟩,hk,λd=>?_,λd i hd cF=>?_,λd d' i e h h' h1 jd=>?_,hG.free⟩
 .have e:j≠q.i:=by rintro rfl;rw[hB] at hb;cases hb
  rw[Heap.q0d _ e];exact hG.bf.2 _ _ hb
 .by_cases e:j=q.i
  .subst e;rw[Heap.q0g] at hb;cases hb
  .rw[Heap.q0d _ e] at hb;rw[Heap.q0b _ _ e];exact hG.le.2 _ _ hb
 .show OR P B pl tb _ _ (Q8 (oset _ o _) d);rw[hg];by_cases e:d=o
  .subst e;rw[z0 rfl];exact⟨k1,k2,λ_=>Heap.q0c _ _ hi⟩
  .rw[z1 e];split
   .trivial
   .exact(hG.obj d).mono (.refl _) (λ_ _ h=>h) λhd i hi=>Heap.q0b _ _ (av hd hi)
 .by_cases e:d=o
  .subst e;rw[jO i cF];exact Heap.q0g _ _
  .rw[Heap.q0d _ (av (lv d e hd) cF)];exact hG.fresh d i (lv d e hd) cF
 .by_cases e1:d=o
  .subst e1;have e2:d'≠d:=λh=>e h.symm;exact av (lv d' e2 h') jd (jO i h1)
  .by_cases e2:d'=o
   .subst e2;exact av (lv d e1 h) h1 (jO i jd)
   .exact hG.sep d d' i e (lv d e1 h) (lv d' e2 h') h1 jd
theorem K2 {C:Cx}(aA:COk P C) {L:List (Nat×LoopAnn)}(vc:VCode):∀ {B0 F0 D0:Heap}(n:Nat) (K:Exit->St->Prop) (s:St) (env:Env) (M:Heap) (ro:Option Nat) (Q:Exit->Env->Heap->Prop),Z1x F0 ro->GRel P B0 F0 D0 s env M->gwp C L vc n K s->(∀ e s' af M',K e s'->GRel P B0 F0 D0 s' af M'->Q e af M')->vwp (Q2 P) vc ro Q env M:=by
 induction vc with
 |skip=>intro B0 F0 D0 n K s env M ro Q bL hR h hK;exact hK _ _ _ _ h hR
 |region ops=>intro B0 F0 D0 n K s env M ro Q bL hR h hK;exact Mb aA ops hR h λs' af M' h1 h2=>hK _ _ _ _ h1 h2
 |regionD aQ=>intro B0 F0 D0 n K s env M ro Q bL hR h hK;exact Y6 aA aQ hR h λs' af M' h1 h2=>hK _ _ _ _ h1 h2
 |rangeF g ps a b fA e6 =>
  intro B0 F0 D0 n K s env M ro Q bL hR h hK;simp only[gwp] at h;split at h
  .rename_i f first dD hg
   split at h
   .
    rename_i x hx;obtain⟨B,F,pl,tb,hB,hG⟩:=hR;have gQ:=hG.evs (Gds.nil (tb:=tb)) g;rw[hg] at gQ;simp only[SR] at gQ;obtain⟨x',y',bw,fb,oH⟩:=gQ;obtain⟨ij,mU⟩:=aA.iy f x hx;show vwp (Q2 P) (.rangeF g ps a b) ro Q env M;simp only[vwp,Lk,bw];have l9:(Q2 P).it f=some λi Y args M K=>Vg P i Y->VCallsTo P f args M K:=by simp only[Q2];rw[z0 ij]
    rw[l9];refine⟨?_,λr hY=>?_⟩
    .cases ro with
     |none=>trivial
     |some i =>obtain⟨e1,r1,st1,qY,hi⟩:=bL;exact⟨e1,r1,st1,qY,hG.le.2 _ _ (hB.f.2 _ _ hi)⟩
    generalize j5:C.off+2000000+n=o at h;generalize ef:100000*(o+1)-1=aK at h;have ai:o≠aK:=by omega
    let q:LpD:=⟨M.n,env,r⟩;let rdy:Blk:=.obj (.lp env r .ready none) true;let fl:Blk:=.obj (.lp env r .busy none) true;let p0:Value:=.pointer (some ⟨M.n,0,none⟩);have iK:Gam P B F (Jv pl o p0) tb (Z54 o q s) env (M.push rdy):=by refine hG.push o (.lpf (SVs.kill o s.env) q .rdy) p0 rdy rfl ⟨rfl,SRs.upd (.refl _) (λ_ _ h=>h) (λj hj=>by simp[Jv,hj]) _ _ hG.env,λ_=>Heap.q0a _ _⟩
    have kl:∀ {xs us},SRs P B pl tb xs us->SRs P B (Jv pl o p0) tb (SVs.kill o xs) us:=λh=>SRs.upd (.refl _) (λ_ _ h=>h) (λj hj=>by simp[Jv,hj]) _ _ h;have ax:SRs P B (Jv pl o p0) tb (SVs.kill o first++(.dd o .yv::SVs.kill o dD)) (x'++(.func (.yield M.n) #[] #[]::y')):=by refine (kl fb).append ?_;simp only[SRs,SR,DR];exact⟨_,_,rfl,⟨M.n,by simp[Jv,p0],rfl⟩,kl oH⟩
    have uz:Q0w P o (I8 o aK ps.length q (λK' s'=>gwp C L a n (Q19 (λs3=>gwp C L b n K' s3) λ_ _=>False) s') ps):=by
     intro B F pl tb s af M args us K R i hG ha hy g_ hK;unfold I8 at hy;split at hy
     .rename_i l q' u ho;split at hy
      .cases hlen:Nat.beq args.length ps.length with
       |false=>rw[hlen] at hy;exact hy.elim
       |true =>
       rw[hlen] at hy;simp only[zg] at hy;obtain⟨rfl,hy⟩:=hy;have ao:=hG.obj o;rw[ho] at ao;have hi:i=q.i:=by have h1:=ao.1;rw[g_] at h1;have:=osj (Value.pointer.inj h1);exact(Addr.mk.inj this).1
       subst hi;have l_:M.get q.i=some rdy:=ao.2.2 rfl;have jv:(Q8 s.own o).live=true:=by rw[ho];rfl
       have mV:F.get q.i=none:=hG.fresh o q.i jv (by rw[ao.1];rfl);have sd:B.get q.i=none:=by
        cases hb:B.get q.i with
        |none=>rfl
        |some b=>rw[hG.bf.2 _ _ hb] at mV;cases mV
       have kQ:=hG.enterLp ho ai ha ps;have iL:(F.ins M q.i hG.le.1).get q.i=some rdy:=by rw[Heap.q0n];exact l_
       have fG:(F.ins M q.i hG.le.1).n=M.n:=rfl;have aO:q.i<M.n:=M.lt l_;refine hY us M R ⟨l_,by rw[<-ha.length];exact(zH hlen),?_⟩;refine fA (B0:=B) (F0:=F.ins M q.i hG.le.1) (D0:=M) n _ _ _ M (some q.i) _ ⟨env,r,_,_,iL⟩ ⟨B,_,_,tb,.of kQ.bf (Dead.refl _),kQ⟩ (hy af) λe s3 qZ σ3 h7 h8=>?_;cases e with
       |normal =>
        have jB:σ3.get q.i=some rdy:=by obtain⟨B',F',pl',tb',q1,q2⟩:=h8;exact q2.le.2 _ _ (q1.f.2 _ _ iL)
        refine⟨jB,?_⟩;have h9:=h8.lpUpd (b:=fl) iL sd;have mX:((F.ins M q.i hG.le.1).upd q.i fl).get q.i=some fl:=Heap.q0c _ _ (by rw[fG];exact aO);refine e6 (B0:=B) (F0:=(F.ins M q.i hG.le.1).upd q.i fl) (D0:=M) n _ _ _ _ (some q.i) _ ⟨env,r,_,_,mX⟩ h9 h7 λe s4 q6 σ4 bT fT=>?_;obtain⟨B',F',pl',tb',q1,q2⟩:=fT;have pL:=q1.f.2 _ _ mX;have q_:=q1.x _ _ mX sd;have iM:σ4.get q.i=some fl:=q2.le.2 _ _ pL;unfold gyK at bT;split at bT
        .rename_i l2 kJ l3 q3 u3 au ra;split at bT
         .obtain⟨rfl,rfl,bT⟩:=bT;have base:∀ b,GBase B F M B' (F'.kill q.i) (σ4.upd q.i b):=λb=>by
           refine⟨q1.b,⟨?_,λj c hc=>?_⟩,λj c h1 h2=>?_,q1.d.trans (Dead.upd _ _ _ (by rw[iM];rfl))⟩
           .have h1:=q1.f.1;have h2:=hG.le.1;show F.n<=F'.n;have h3:((F.ins M q.i hG.le.1).upd q.i fl).n=M.n:=rfl;omega
           .have e:j≠q.i:=by rintro rfl;rw[mV] at hc;cases hc
            rw[Heap.q0d _ e];refine q1.f.2 _ _ ?_;rw[Heap.q0b _ _ e,Heap.q1c _ _ _ e];exact hc
           .have e:j≠q.i:=by rintro rfl;rw[mV] at h1;cases h1
            refine q1.x j c ?_ h2;rw[Heap.q0b _ _ e,Heap.q1c _ _ _ e];exact h1
          refine⟨iM,?_⟩;cases e with
          |normal=>exact hK _ _ B' _ pl' tb' _ _ bT (base _) (q2.leaveLp pL q_ au ra .rdy) (by simp[SR,KC])
          |ret=>exact hK _ _ B' _ pl' tb' _ _ bT (base _) (q2.leaveLp pL q_ au ra .ret) (by simp[SR,KC])
          |exit id=>exact hK _ _ B' _ pl' tb' _ _ bT (base _) (q2.leaveLp pL q_ au ra (.exit id)) (by simp[SR,KC])
          |_=>exact bT.elim
         .exact bT.elim
        .exact bT.elim
       |_=>exact h7.elim
      .exact hy.elim
     .exact hy.elim
    have aR:=mU B F _ tb _ env (M.push rdy) o _ _ _ (Q57 o q K) (λU=>Q1d Q env M.n poison U) iK ax uz (h q) λs' B' F' pl' tb' af M' hk hb dL=>by
     unfold Q57 at hk;split at hk
     .rename_i l q' u ho;have fin:∀ {e:Exit},u.live=true->q'=q->K e ⟨l,oset s'.own o .dead,s'.nx⟩->Q e env (M'.kill M.n)/\M'.get M.n=some (.obj (.lp env r u.st u.pend) true):=λ{e} hu hq uA=>by
       subst hq;obtain⟨g1,g2⟩:=dL.dropLp ho hu;refine⟨hK _ _ _ _ uA ⟨B',F',pl',tb',⟨hB.b.trans hb.b,hB.f.trans hb.f,λj c h1 h2=>hb.x j c (hB.f.2 _ _ h1) (hB.x j c h1 h2),hB.d.trans ((Dead.push _ _).trans (hb.d.trans (Dead.kill _ _)))⟩,g1⟩,g2⟩
      cases u with
      |busy=>exact hk.elim
      |rdy =>obtain⟨hq,hk⟩:=hk;obtain⟨k1,k2⟩:=fin rfl hq hk;unfold Q1d;rw[k2];exact⟨(by intro h;cases h),k1⟩
      |ret =>obtain⟨hq,hk⟩:=hk;obtain⟨k1,k2⟩:=fin rfl hq hk;unfold Q1d;rw[k2];exact⟨(by intro h;cases h),k1⟩
      |exit id =>obtain⟨hq,hk⟩:=hk;obtain⟨k1,k2⟩:=fin rfl hq hk;unfold Q1d;rw[k2];exact⟨(by intro h;cases h),k1⟩
     .exact hk.elim
    refine VCallsTo.mono (R:=λ_ U=>Q1d Q env M.n poison U) (by simpa using aR) λv U h=>h
   split at h
   rotate_left
   .exact h.elim
   split at h
   .rename_i it s1 cK A nH rb hA;split at h
    .rename_i c m ar xs hc;cases ep:Nat.beq ps.length ar with
     |false=>rw[ep] at h;exact h.elim
     |true =>
     rw[ep] at h;simp only[zg] at h;obtain⟨dI,p,d0,eH,I,uB,sg,sh⟩:=h;have ep:=zH ep;have hlen:s.env.length=env.length:=by obtain⟨B,F,pl,tb,_,hG⟩:=hR;exact hG.env.length
     rw[hlen] at sg sh;have ox:=hR;obtain⟨B,F,pl,tb,hB,hG⟩:=hR;have gQ:=hG.evs Gds.nil g;rw[hg] at gQ;simp only[SR] at gQ;obtain⟨x,y,bw,hx,hy⟩:=gQ;simp only[SRs] at hx;subst hx;obtain⟨B1,F1,oI,oJ,uC,j9⟩:=Dw hG hy rb;obtain⟨ij,rf⟩:=aA.it f it nH;obtain⟨oK,rh⟩:=rf B1 cK y c m ar xs uC hc dI;have uD:GRel P B1 F1 D0 (Z5 (List.length env) (A.st p d0) (A.own p d0)) env M:=U7 ⟨B1,F1,pl,tb,⟨.refl _,.refl _,λ_ _ _ h=>h,(hB.trans oI).d⟩,oJ⟩ eH;have mY:B1.get M.n=none:=B1.wf _ oJ.leB.1;have uE:F1.get M.n=none:=F1.wf _ oJ.le.1;show vwp (Q2 P) (.rangeF g ps a b) ro Q env M;simp only[vwp,Lk,bw];have l9:(Q2 P).it f=some λi Y args M K=>Vg P i Y->VCallsTo P f args M K:=by simp only[Q2];rw[z0 ij]
     rw[l9];refine⟨?_,λr hY=>?_⟩
     .cases ro with
      |none=>trivial
      |some i =>obtain⟨e1,r1,st1,qY,hi⟩:=bL;exact⟨e1,r1,st1,qY,hG.le.2 _ _ (hB.f.2 _ _ hi)⟩
     .let rdy:Blk:=.obj (.lp env r .ready none) true;let fl:Blk:=.obj (.lp env r .busy none) true;have kR:F1.Le (M.push rdy):=oJ.le.push rdy;let Fr:=F1.ins (M.push rdy) M.n kR.1;have iL:Fr.get M.n=some rdy:=by
       show (F1.ins _ _ _).get M.n=_;rw[Heap.q0n,Heap.q0a]
      have fG:Fr.n=M.n+1:=rfl;have uF:F1.Le Fr:=kR.ins M.n;let J:Nat->Heap->Prop:=λk U=>∃ d,I k d/\GRel P B1 Fr D0 (Z5 (List.length env) (A.st p d) (A.own p d)) env U;let E:Heap->Prop:=λU=>∃ cd e,U.get M.n=some (.obj (.lp env r .done (some cd)) true)/\((cd=.ret/\e=Exit.ret)\/∃ id,cd=.exit id/\e=Exit.exit id)/\Q e env (U.kill M.n);have back:∀ {s':St}{U:Heap},GRel P B1 (Fr.upd M.n fl) D0 s' env U->∀ b,GRel P B1 ((Fr.upd M.n fl).upd M.n b) D0 s' env (U.upd M.n b):=λh b =>
       h.lpUpd (b0:=fl) (Heap.q0c _ _ (by rw[fG];omega)) mY
      have iN:∀ {Fx:Heap}{b0:Blk}{s':St}{U:Heap},Fx.get M.n=some b0->(∀ i,i≠M.n->Fx.get i=F1.get i)->Fx.n=M.n+1->GRel P B1 Fx D0 s' env U->GRel P B0 F0 D0 s' env (U.kill M.n):=λ{Fx b0 s' U} h1 h2 h3 h4=>by
       refine (h4.lpKill h1 mY).base (hB.b.trans oI.b) ⟨?_,λi b hb=>?_⟩ λi b k1 k2=>(hB.trans oI).x i b k1 k2
       .show F0.n<=Fx.n;rw[h3];have:=(hB.trans oI).f.1;have:=oJ.le.1;omega
       .have bm:=(hB.trans oI).f.2 _ _ hb;have e:i≠M.n:=by rintro rfl;rw[uE] at bm;cases bm
        rw[Heap.q0d _ e,h2 i e];exact bm
      have jP:∀ i,i≠M.n->Fr.get i=F1.get i:=λi e=>Heap.q1c _ _ _ e;have aR:=rh M.n _ J E (M.push rdy) hY (λk U ⟨d,_,hd⟩=>?_) (λk us U hk ⟨d,ri,hd⟩ eo=>?_) ⟨d0,uB,?_⟩
      .refine VCallsTo.mono (R:=λ_ U=>J m U\/E U) (by simpa using aR) λv U qx=>?_;unfold Q1d;rcases qx with⟨d,ri,hd⟩|⟨cd,e,h1,h2,h3⟩
       .have l_:U.get M.n=some rdy:=by
         obtain⟨B',F',pl',tb',q1,q2⟩:=hd;exact q2.le.2 _ _ (q1.f.2 _ _ iL)
        rw[l_];exact⟨(by intro h;cases h),hK _ _ _ _ (sh d ri) (iN iL jP fG hd)⟩
       .rw[h1];refine⟨(by intro h;cases h),?_⟩;rcases h2 with⟨rfl,rfl⟩|⟨id,rfl,rfl⟩<;>exact h3
      .obtain⟨B',F',pl',tb',q1,q2⟩:=hd;exact q1.b.trans q2.leB
      .
       have l_:U.get M.n=some rdy:=by obtain⟨B',F',pl',tb',q1,q2⟩:=hd;exact q2.le.2 _ _ (q1.f.2 _ _ iL)
       refine⟨l_,by rw[ep,<-(oK k).1,eo.length],?_⟩;have hF:=sg k d hk ri env;have aS:GRel P B1 Fr D0 ⟨Gs (LK (2000000+n) env (Z5 (List.length env) (A.st p d) (A.own p d))).env ps (xs k),(LK (2000000+n) env (Z5 (List.length env) (A.st p d) (A.own p d))).own,0⟩ (Hy env ps us) U:=by
        obtain⟨B',F',pl',tb',q1,q2⟩:=hd;have q3:Gam P B' F' (Jv pl' (2000000+n) poison) tb' (LK (2000000+n) env (Z5 (List.length env) (A.st p d) (A.own p d))) env U:=by refine q2.make (2000000+n) _ poison q2.le (λ_ _ _ _ _=>rfl) ?_ (λi hl _=>by cases hl);exact SRs.upd (.refl _) (λ_ _ h=>h) (λj hj=>by simp[Jv,hj]) _ _ q2.env
        refine⟨B',F',Jv pl' (2000000+n) poison,tb',q1,⟨q3.bf,q3.le,NR ?_ q3.env,q3.obj,q3.fresh,q3.sep,?_⟩⟩
        .exact SRs.mono q1.b (λ_ _ h=>h) _ _ (QZ _ _ (oK k).2 eo)
        .exact q3.free
       refine fA (B0:=B1) (F0:=Fr) n _ _ _ U (some M.n) _ ⟨env,r,_,_,iL⟩ aS hF λe s3 qZ σ3 h7 h8=>?_;cases e with
       |normal =>
        have jB:σ3.get M.n=some rdy:=by obtain⟨B',F',pl',tb',q1,q2⟩:=h8;exact q2.le.2 _ _ (q1.f.2 _ _ iL)
        refine⟨jB,?_⟩;have h9:=h8.lpUpd (b:=fl) iL mY;have mX:(Fr.upd M.n fl).get M.n=some fl:=Heap.q0c _ _ (by rw[fG];omega);refine e6 (B0:=B1) (F0:=Fr.upd M.n fl) n _ _ _ _ (some M.n) _ ⟨env,r,_,_,mX⟩ h9 h7 λe s4 q6 σ4 bT fT=>?_;have iM:σ4.get M.n=some fl:=by obtain⟨B',F',pl',tb',q1,q2⟩:=fT;exact q2.le.2 _ _ (q1.f.2 _ _ mX)
        have sj:M.n<σ4.n:=σ4.lt iM;unfold O0 at bT;split at bT
        .rename_i l vs gy;obtain⟨rfl,bT⟩:=bT;have cQ:GRel P B1 (Fr.upd M.n fl) D0 ⟨l,s4.own,s4.nx⟩ vs σ4:=by
          obtain⟨B',F',pl',tb',q1,q2⟩:=fT;have:=q2.obj (2000000+n);rw[gy] at this;exact⟨B',F',pl',tb',q1,q2.bf,q2.le,this,q2.obj,q2.fresh,q2.sep,q2.free⟩
         have ma:∀ b,((Fr.upd M.n fl).upd M.n b).get M.n=some b:=λb=>Heap.q0c _ _ (by show M.n<Fr.n;rw[fG];omega);have rj:∀ b i,i≠M.n->((Fr.upd M.n fl).upd M.n b).get i=F1.get i:=λb i e=>by rw[Heap.q0b _ _ e,Heap.q0b _ _ e,jP i e]
         refine⟨iM,?_⟩;cases e with
         |normal =>
          obtain⟨d',oc,pJ⟩:=bT;refine .inl ⟨rfl,d',pJ,?_⟩;have:=(back (U7 cQ oc) rdy).base (B0:=B1) (F0:=Fr) (.refl _) ⟨z5 _,λi b hb=>?_⟩ λi b k1 k2=>k2
          .exact this
          .by_cases e:i=M.n
           .subst e;rw[iL] at hb;rw[ma];exact hb
           .rw[rj _ _ e,<-jP i e];exact hb
         |ret =>refine .inr ⟨rfl,_,_,Heap.q0c _ _ sj,.inl ⟨rfl,rfl⟩,hK _ _ _ _ bT (iN (ma _) (rj _) (by show Fr.n=_;exact fG) (back cQ _))⟩
         |exit id =>refine .inr ⟨rfl,_,_,Heap.q0c _ _ sj,.inr ⟨id,rfl,rfl⟩,hK _ _ _ _ bT (iN (ma _) (rj _) (by show Fr.n=_;exact fG) (back cQ _))⟩
         |_=>exact bT.elim
        .exact bT.elim
       |_=>exact h7.elim
      .
       obtain⟨B',F',pl',tb',q1,q2⟩:=uD;have hle:F'.Le (M.push rdy):=q2.le.push rdy;have uG:F'.get M.n=none:=F'.wf _ q2.le.1;have ao:∀ d i,(Q8 (Z5 (List.length env) (A.st p d0) (A.own p d0)).own d).live=true->Oid (pl' d) i->i<M.n:=λd i h1 h2=>(q2.obj d).q1a h1 h2;refine⟨B',F'.ins (M.push rdy) M.n hle.1,pl',tb',⟨q1.b,Heap.q1x q1.f _ _ _,λi b k1 k2=>?_,q1.d.trans (Dead.push _ _)⟩,⟨q2.bf.trans (hle.ins _),hle.q1v _,q2.env,λd=>(q2.obj d).mono (.refl _) (λ_ _ h=>h) λh1 i h2=>Heap.q0i _ _ (ao d i h1 h2),λd i h1 h2=>?_,q2.sep,q2.free⟩⟩
       .by_cases e:i=M.n
        .subst e;exact B'.wf _ q2.leB.1
        .rw[jP i e] at k1;exact q1.x i b k1 k2
       .rw[Heap.q1c _ _ _ (Nat.ne_of_lt (ao d i h1 h2))];exact q2.fresh d i h1 h2
    .exact h.elim
   .exact h.elim
  .exact h.elim
 |bad=>intro B0 F0 D0 n K s env M ro Q bL hR h hK;exact h.elim
 |ret=>intro B0 F0 D0 n K s env M ro Q bL hR h hK;exact hK _ _ _ _ h hR
 |exit id=>intro B0 F0 D0 n K s env M ro Q bL hR h hK;exact hK _ _ _ _ h hR
 |seq a b fA e6 =>
  intro B0 F0 D0 n K s env M ro Q bL hR h hK;refine fA n _ s env M ro _ bL hR h λe s' af M' h1 h2=>?_;cases e with
  |normal=>exact e6 n K s' af M' ro Q bL h2 h1 hK
  |_=>exact hK _ _ _ _ h1 h2
 |cond c a b fA e6 =>
  intro B0 F0 D0 n K s env M ro Q bL hR h hK;simp only[gwp] at h;split at h
  .rename_i t ht;have ox:=hR;obtain⟨B,F,pl,tb,hB,hG⟩:=hR;have:=NU hG ht;simp only[vwp,this,ID];cases t with
   |true=>exact⟨λ_=>fA n K s env M ro Q bL ox h hK,λe=>by cases e⟩
   |false=>exact⟨(λe=>by cases e),λ_=>e6 n K s env M ro Q bL ox h hK⟩
  split at h
  .rename_i t ht;obtain⟨B,F,pl,tb,hB,hG⟩:=hR;have:=XF ht (hG.evs Gds.nil c);simp only[vwp,this,ID];split at h
   .rename_i A hA;obtain⟨p,I,hF,hI⟩:=h;have fin:∀ e s' af M',Q64 s.env.length A p I K e s'->GRel P B0 F0 D0 s' af M'->Q e af M':=λe s' af M' h1 h2=>by
     cases e with
     |normal =>obtain⟨d,h3,h4⟩:=h1;exact hK _ _ _ _ (hI d h4) (Ua h2 h3)
     |_=>exact hK _ _ _ _ h1 h2
    exact⟨λe=>fA n _ s env M ro Q bL ⟨B,F,pl,tb,hB,hG⟩ (hF.1 e) fin,λe=>e6 n _ s env M ro Q bL ⟨B,F,pl,tb,hB,hG⟩ (hF.2 e) fin⟩
   exact⟨λe=>fA n K s env M ro Q bL ⟨B,F,pl,tb,hB,hG⟩ (h.1 e) hK,λe=>e6 n K s env M ro Q bL ⟨B,F,pl,tb,hB,hG⟩ (h.2 e) hK⟩
  .exact h.elim
 |block id b ih =>
  intro B0 F0 D0 n K s env M ro Q bL hR h hK;refine ih id _ s env M ro _ bL hR h λe s' af M' h1 h2=>?_;cases e with
  |exit hZ =>
   simp only[FP] at h1;simp only[AD];split
   .rename_i e;rw[z0 e] at h1;exact hK _ _ _ _ h1 h2
   .rename_i e;rw[z1 e] at h1;exact hK _ _ _ _ h1 h2
  |_=>exact hK _ _ _ _ h1 h2
 |loop b ih =>
  intro B0 F0 D0 n K s env M ro Q bL hR h hK;simp only[gwp] at h;split at h
  .rename_i A hA;obtain⟨p,d0,h1,I,μ,h2,h3⟩:=h;have hlen:s.env.length=env.length:=by obtain⟨B,F,pl,tb,_,hG⟩:=hR;exact hG.env.length
   have hk:∀ d,(A.st p d).map (·.1)=A.sl:=λd=>Hx _ _;refine⟨A.sl,λm vs M'=>∃ d,I d/\μ d=m/\GRel P B0 F0 D0 (Z5 s.env.length (A.st p d) (A.own p d)) (XD A.sl vs (List.replicate env.length poison)) M',μ d0,⟨d0,h2,rfl,?_⟩,λm vs M' ⟨d,h4,h5,h6⟩=>?_⟩
   .have:=Bd hR h1 s.env.length;rw[hk d0,hlen] at this;rw[hlen];exact this
   .refine ih n _ _ _ M' ro _ bL h6 (h3 d h4) λe s' af aE h7 h8=>?_;cases e with
    |normal =>
     simp only[Q3j] at h7;cases n7:Z3n s'.own with
     |false=>rw[n7] at h7;exact h7.elim
     |true =>
     rw[n7] at h7;obtain⟨d',h9,bT,fT⟩:=h7;refine⟨μ d',by omega,d',bT,rfl,?_⟩;have:=Bd h8 h9 s.env.length;rw[hk d',hlen] at this;rw[hlen];exact this
    |_=>exact hK _ _ _ _ h7 h8
  .exact h.elim
end
end Go.V
namespace Go.V
open Go
def L4 (s:St):VResult->Option SV
 |.tmp t=>some (s.env.getD t .any)
 |.cell a agg size=>bif Nat.blt 0 size then Q1c s.own agg size (s.env.getD a .any) else none
def X2 (s:St) (rs:List VResult):Option SV :=
 match rs with
 |[r]=>L4 s r
 |rs=>(rs.mapM (L4 s)).map .tup
def Q2o (mp:List (Nat×Option Nat)) (j:Nat) (a:Option Nat):Option (List (Nat×Option Nat)) :=
 if (Qp mp j).isSome then none else match a with
 |some x=>if mp.any λp=>p.2==some x then none else some (mp++[(j,a)])
 |none=>some (mp++[(j,a)])
mutual
def F_:SV->SV->List (Nat×Option Nat)->Option (List (Nat×Option Nat))
 |.lst j,v,mp=>match v with|.lst a=>Q2o mp j (some a)|.nilS=>Q2o mp j none|_=>none
 |.map j,v,mp=>match v with|.map a=>Q2o mp j (some a)|_=>none
 |.dd j w,v,mp=>match w with
  |.out=>(match v with
   |.dd a w'=>(match w' with|.out=>Q2o mp j (some a)|_=>none)
   |.nilS=>Q2o mp j none
   |_=>none)
  |_=>none
 |.box j _,v,mp=>match v with|.box a _=>Q2o mp j (some a)|_=>none
 |.agg l,v,mp=>match v with|.agg l'=>AV l l' mp|_=>none
 |.tup l,v,mp=>match v with|.tup l'=>AV l l' mp|_=>none
 |.any,_,mp=>some mp
 |.val _ _,_,mp=>some mp
 |.nilS,_,mp=>some mp
 |.nilP,_,mp=>some mp
 |.nilM,_,mp=>some mp
 |.nilF,_,mp=>some mp
 |.sub _ _ _ _,_,_|.elp _ _ _ _,_,_|.grd _ _,_,_|.cp _ _,_,_|.fn _ _ _,_,_|.rop _ _ _ _,_,_|.pf _ _ _ _,_,_|.bid _ _,_,_=>none
def AV:List SV->List SV->List (Nat×Option Nat)->Option (List (Nat×Option Nat))
 |[],_,mp=>some mp
 |s::ss,l,mp=>match l with
  |v::vs=>match F_ s v mp with|some mp=>AV ss vs mp|none=>none
  |[]=>none
end
def Q0g (s:St) (mp:List (Nat×Option Nat)):Nat->List OB->Prop
 |_,[]=>True
 |j,b::r=>Ij s mp j b/\Q0g s mp (j+1) r
def Nu (rs:List VResult) (v:SV) (bs:List OB):Exit->St->Prop:=λe s =>
 let fin:=match X2 s rs with
  |some r=>(match F_ v r [] with
   |some mp=>BN mp v r/\Q0g s mp 0 bs
   |none=>False)
  |none=>False
 match e with
 |.normal=>fin
 |.ret=>fin
 |_=>False
section
variable {P:Program}{B F:Heap}{pl:Nat->Value}{tb:Nat->Option Bool}{s:St}{env:Env}{M:Heap}
theorem HU (hG:Gam P B F pl tb s env M) {r:VResult}{v:SV}(h:L4 s r=some v):∃ u,Jm env M r=some u/\SR P B pl tb v u:=by
 cases r with
 |tmp t=>obtain rfl:=osj h;exact⟨_,rfl,hG.env.getD t undef⟩
 |cell a agg size =>
  simp only[L4] at h;cases hb:Nat.blt 0 size with
  |false=>rw[hb] at h;cases h
  |true =>rw[hb] at h;obtain⟨i,o,c,e,wr,t,u,h1,h2,h3,h4⟩:=Ph hG.leB hG.obj (by simpa [zI] using hb) h (hG.env.getD a undef);refine⟨u,?_,h4⟩;simp only[Jm,Q6,Q3,h1,h2,h3];rfl
theorem Jy (hG:Gam P B F pl tb s env M) {rs:List VResult}{v:SV}(h:X2 s rs=some v):∃ u,ZM env M rs=some u/\SR P B pl tb v u:=by
 have all:∀ (rs:List VResult) (l:List SV),rs.mapM (L4 s)=some l->∃ us,rs.mapM (Jm env M)=some us/\SRs P B pl tb l us:=by
  intro rs;induction rs with
  |nil=>intro l h;simp at h;subst h;exact⟨[],rfl,rfl⟩
  |cons r rs ih =>
   intro l h;rw[xk] at h;cases h1:L4 s r with
   |none=>simp[h1] at h
   |some a =>
    cases h2:rs.mapM (L4 s) with
    |none=>simp[h1,h2] at h
    |some l' =>simp[h1,h2] at h;subst h;obtain⟨u,h3,h4⟩:=HU hG h1;obtain⟨us,h5,h6⟩:=ih l' h2;exact⟨u::us,by rw[xk];simp[h3,h5],by simp only[SRs];exact⟨u,us,rfl,h4,h6⟩⟩
 have tup:(rs.mapM (L4 s)).map SV.tup=some v->∃ u,(rs.mapM (Jm env M)).map (λvs=>Value.tuple vs.toArray)=some u/\SR P B pl tb v u:=λh=>by simp only[zo] at h;obtain⟨l,h1,rfl⟩:=h;obtain⟨us,h2,h3⟩:=all rs l h1;exact⟨.tuple us.toArray,by rw[h2];rfl,by simp only[SR];exact⟨us,rfl,h3⟩⟩
 match rs,h,tup with
 |[r],h,_=>exact HU hG h
 |[],h,tup=>exact tup h
 |_::_::_,h,tup=>exact tup h
theorem Ma {mp b_:List (Nat×Option Nat)}{j:Nat}{a:Option Nat}(h:Q2o mp j a=some b_) (hi:Inj mp):Inj b_:=by
 unfold Q2o at h;split at h
 .cases h
 .split at h
  .rename_i x;split at h
   .cases h
   .rename_i hc;obtain rfl:=osj h;have cQ:∀ d,Qp mp d≠some (some x):=λd hd=>by
     obtain⟨p,h1,h2,h3⟩:=Lp hd;exact hc (xi.2 ⟨p,h1,by rw[h3];simp⟩)
    intro t1 t2 a' h1 h2;rw[V1] at h1 h2;split at h1
    .rename_i y1 e1;split at h2
     .rename_i y2 e2;obtain rfl:=osj h1;obtain rfl:=osj h2;exact hi t1 t2 a' e1 e2
     .split at h2
      .obtain rfl:=osj (osj h2);obtain rfl:=osj h1;exact absurd e1 (cQ t1)
      .cases h2
    .split at h1
     .obtain rfl:=osj (osj h1);split at h2
      .rename_i y2 e2;obtain rfl:=osj h2;exact absurd e2 (cQ t2)
      .split at h2
       .omega
       .cases h2
     .cases h1
  .obtain rfl:=osj h;intro t1 t2 a' h1 h2;rw[V1] at h1 h2;split at h1
   .rename_i y1 e1;split at h2
    .rename_i y2 e2;obtain rfl:=osj h1;obtain rfl:=osj h2;exact hi t1 t2 a' e1 e2
    .split at h2<;>cases h2
   .split at h1<;>cases h1
mutual
theorem Am:∀ (v r:SV) (mp b_:List (Nat×Option Nat)),F_ v r mp=some b_->Inj mp->Inj b_
 |.lst j,r,mp,b_,h,hi=>by
  simp only[F_] at h;split at h
  .exact Ma h hi
  .exact Ma h hi
  .cases h
 |.map j,r,mp,b_,h,hi=>by
  simp only[F_] at h;split at h
  .exact Ma h hi
  .cases h
 |.dd j w,r,mp,b_,h,hi=>by
  simp only[F_] at h;split at h
  .split at h
   .split at h
    .exact Ma h hi
    .cases h
   .exact Ma h hi
   .cases h
  .cases h
 |.box j _,r,mp,b_,h,hi=>by
  simp only[F_] at h;split at h
  .exact Ma h hi
  .cases h
 |.agg l,r,mp,b_,h,hi=>by
  simp only[F_] at h;split at h
  .exact P6 l _ mp b_ h hi
  .cases h
 |.tup l,r,mp,b_,h,hi=>by
  simp only[F_] at h;split at h
  .exact P6 l _ mp b_ h hi
  .cases h
 |.any,r,mp,b_,h,hi|.val _ _,r,mp,b_,h,hi|.nilS,r,mp,b_,h,hi|.nilP,r,mp,b_,h,hi|.nilM,r,mp,b_,h,hi|.nilF,r,mp,b_,h,hi=>by simp only[F_] at h;obtain rfl:=osj h;exact hi
 |.sub _ _ _ _,r,mp,b_,h,hi|.elp _ _ _ _,r,mp,b_,h,hi|.grd _ _,r,mp,b_,h,hi|.cp _ _,r,mp,b_,h,hi|.fn _ _ _,r,mp,b_,h,hi|.rop _ _ _ _,r,mp,b_,h,hi|.pf _ _ _ _,r,mp,b_,h,hi|.bid _ _,r,mp,b_,h,hi=>by cases h
theorem P6:∀ (v r:List SV) (mp b_:List (Nat×Option Nat)),AV v r mp=some b_->Inj mp->Inj b_
 |[],r,mp,b_,h,hi=>by simp only[AV] at h;obtain rfl:=osj h;exact hi
 |s::ss,[],mp,b_,h,hi=>by cases h
 |s::ss,r::rs,mp,b_,h,hi=>by
  simp only[AV] at h;split at h
  .rename_i sk h1;exact P6 ss rs sk b_ h (Am s r mp sk h1 hi)
  .cases h
end
theorem Lz {mp:List (Nat×Option Nat)}:∀ (bs:List OB) (n:Nat),Q0g s mp n bs->∀ j b,bs[j]?=some b->Ij s mp (n+j) b
 |[],n,_,j,b,hj=>by simp at hj
 |b0::r,n,h,j,b,hj=>by
  obtain⟨h1,h2⟩:=h;cases j with
  |zero=>simp at hj;subst hj;exact h1
  |succ j =>
   have:=Lz r (n+1) h2 j b (by simpa using hj)
   rwa [zk,xP 1 j] at this
mutual
theorem CA {n:Nat}{π:Nat->Nat}:∀ (v:SV) (u:Value),v.ret 0=true->SR P B pl tb v u->Ren n π u u
 |.val k x,u,h,hs=>by
  simp only[SR] at hs;cases k with
  |i ik=>simp only[KC] at hs;obtain rfl:=(zN hs).1;exact .plain _ rfl
  |bo=>simp only[KC] at hs;obtain rfl:=(zN hs).1;exact .plain _ rfl
  |st=>simp only[KC] at hs;obtain rfl:=(zN hs).1;exact .plain _ rfl
  |list k=>cases h
  |pair a b =>have h1:=KC.length hs;have h2:=a.size_pos;have h3:=b.size_pos;simp only[Kind.size,xy] at h1;omega
 |.nilS,u,_,hs|.nilP,u,_,hs|.nilM,u,_,hs|.nilF,u,_,hs=>by simp only[SR] at hs;subst hs;exact .plain _ rfl
 |.lst j,u,h,_|.box j _,u,h,_|.map j,u,h,_=>by simp[SV.ret,zI] at h
 |.dd j w,u,h,_=>by cases w<;>simp[SV.ret,zI] at h
 |.agg l,u,h,hs=>by simp only[SR] at hs;obtain⟨cs,rfl,h2⟩:=hs;have:=Pg (n:=n) (π:=π) l cs h h2;exact .agg _ _ rfl λi h3 _=>this _ (by simp)
 |.tup l,u,h,hs=>by simp only[SR] at hs;obtain⟨cs,rfl,h2⟩:=hs;have:=Pg (n:=n) (π:=π) l cs h h2;exact .tuple _ _ rfl λi h3 _=>this _ (by simp)
 |.any,_,h,_|.bid _ _,_,h,_|.grd _ _,_,h,_|.sub _ _ _ _,_,h,_|.elp _ _ _ _,_,h,_|.rop _ _ _ _,_,h,_|.cp _ _,_,h,_|.fn _ _ _,_,h,_|.pf _ _ _ _,_,h,_=>by cases h
theorem Pg {n:Nat}{π:Nat->Nat}:∀ (v:List SV) (u:List Value),SVs.ret 0 v=true->SRs P B pl tb v u->∀ x∈u,Ren n π x x
 |[],u,_,hs=>by simp only[SRs] at hs;subst hs;intro x hx;cases hx
 |s::ss,u,h,hs=>by
  simp only[SVs.ret,z2] at h;simp only[SRs] at hs;obtain⟨x,y,rfl,h1,h2⟩:=hs;intro z hz;rcases zf.1 hz with rfl|hz
  .exact CA s z h.1 h1
  .exact Pg ss y h.2 h2 z hz
end
theorem Ez (exact:Bool) {σ0:Heap}{sf:St}{mb:Env}{σf:Heap}(hR:GRel P σ0 σ0 σ0 sf mb σf) {rs:List VResult}{v:SV}{bs:List OB}{e:Exit}(hv:v.ret bs.length=true) (hb:bs.all OB.ret=true) (h:Nu rs v bs e sf) (hx:exact=true->bs.all OB.isL=true/\Vd v=true) :
  Z1m σ0 rs (λu M'=>if exact then u=Vh (Rh σ0 bs) v/\M'=BV σ0 bs else Ret P σ0 v bs u M') e mb σf:=by
 have main:(match X2 sf rs with
  |some r=>(match F_ v r [] with
   |some mp=>BN mp v r/\Q0g sf mp 0 bs
   |none=>False)
  |none=>False)->QW (ZM mb σf rs) λu=>∃ v' M',DropTo σ0 u σf v' M'/\(if exact then v'=Vh (Rh σ0 bs) v/\M'=BV σ0 bs else Ret P σ0 v bs v' M'):=λh=>by
  split at h
  .rename_i r hr;split at h
   .rename_i mp l8;obtain⟨h1,h2⟩:=h;obtain⟨B,F,pl,tb,⟨hB,hF,_,hd⟩,hG⟩:=hR;obtain⟨u,h3,h4⟩:=Jy hG hr;have jh:=K0 v r u h1 h4;have eY:=Am v r [] mp l8 (λt t' a h=>by cases h);have ao:∀ j b,bs[j]?=some b->Ij sf mp j b:=λj b hj=>by have:=Lz bs 0 h2 j b hj;rwa [zV] at this
    rw[h3];have hle:σ0.Le σf:=hF.trans hG.le;have hA:Agree σ0 σf:=λi hi=>by
     cases hg:σ0.get i with
     |none=>exact hd.2 i hi hg
     |some b=>exact hle.2 i b hg
    have aY:∀ j b,bs[j]?=some b->OR P hNil (Nb pl mp) ZF σf (Nb pl mp j) b/\∀ i,Oid (Nb pl mp j) i->σ0.get i=none/\σ0.n<=i:=λj b hj=>by
     obtain⟨k1,k2⟩:=QU hG (ao j b hj);have dF:=z6.1 hb b (zE hj);have al:b.live=true:=by cases b<;>first|rfl|cases dF
     refine⟨k1.retd dF λ_ _=>rfl,λi hi=>?_⟩;obtain⟨a,e1,e2,e3⟩:=k2 al i hi;have mY:=hG.fresh a i e2 e3;have hn:σ0.get i=none:=by
      cases hg:σ0.get i with
      |none=>rfl
      |some b=>rw[hF.2 i b hg] at mY;cases mY
     refine⟨hn,Nat.le_of_not_lt λah=>?_⟩;have bX:=hd.2 i ah hn;have ao:=hG.obj a;cases ho:Q8 sf.own a with
     |dead=>rw[ho] at e2;cases e2
     |lst ty k xs nl =>
      rw[ho] at ao;rcases ao with⟨_,_,h2⟩|⟨_,i',cap,c,t,h2,_,h3,_⟩
      .rw[h2] at e3;cases e3
      .rw[h2] at e3;obtain rfl:=osj e3;rw[h3] at bX;cases bX
     |cells l u=>rw[ho] at ao;obtain⟨i',c,e,t,h2,h3,_⟩:=ao;rw[h2] at e3;obtain rfl:=osj e3;rw[h3] at bX;cases bX
     |mapE kk vk m key n=>rw[ho] at ao;obtain⟨i',es,cl,r,e,h2,h3,_⟩:=ao;rw[h2] at e3;obtain rfl:=osj e3;rw[h3] at bX;cases bX
     |map kk vk m=>rw[ho] at ao;obtain⟨i',es,cl,h2,h3,_⟩:=ao;rw[h2] at e3;obtain rfl:=osj e3;rw[h3] at bX;cases bX
     |stk l vals=>rw[ho] at e2;cases e2
     |lpf l q s=>rw[ho] at ao e2;obtain⟨h2,_,h3⟩:=ao;rw[h2] at e3;obtain rfl:=osj e3;have h3:=h3 e2;rw[bX] at h3;cases h3
     |iter kk vk m dn=>rw[ho] at ao;obtain⟨j',i',es,cl,wr,seen,h2,h3,_⟩:=ao;rw[h2] at e3;obtain rfl:=osj e3;rw[h3] at bX;cases bX
     |deep ty q k xs nl hh =>rw[ho] at ao;obtain⟨is,_,d2,d3,_⟩:=DP.open ao;obtain⟨c,e,t,h⟩:=d2.cells i ((d3 i).1 e3);rw[h] at bX;cases bX
    have fE:∀ j j' i,j<bs.length->j'<bs.length->j≠j'->Oid (Nb pl mp j) i->Oid (Nb pl mp j') i->False:=λj j' i hj dw av hi cF=>by
     have bm:=z3 hj;have bE:=z3 dw;have r1:=z6.1 hb _ (zn hj);have r2:=z6.1 hb _ (zn dw);have l1:(bs[j]).live=true:=by cases nj:bs[j]<;>first|rfl|(rw[nj] at r1;cases r1)
     have l2:(bs[j']).live=true:=by cases nj:bs[j']<;>first|rfl|(rw[nj] at r2;cases r2)
     obtain⟨a,e1,e2,e3⟩:=(QU hG (ao j _ bm)).2 l1 i hi;obtain⟨a',uH,kG,uI⟩:=(QU hG (ao j' _ bE)).2 l2 i cF;by_cases e:a=a'
     .subst e;exact av (eY j j' a e1 uH)
     .exact hG.sep a a' i e e2 kG e3 uI
    cases hex:exact with
    |true =>obtain⟨hl,cG⟩:=hx hex;have oL:=E1 (P:=P) hA hle.1 hv cG hb hl (pl:=Nb pl mp) (u:=u) (λj b hj=>⟨(aY j b hj).1,λi hi=>((aY j b hj).2 i (DE hi)).2⟩) (λj j' i a b c d e=>fE j j' i a b c (DE d) (DE e)) (jh.retd (λj hj=>rfl) _ _ hv);exact⟨_,_,oL,by simp⟩
    |false =>
     simp only[zA,if_false];by_cases b7:bs=[]
     .subst b7;refine⟨u,σ0,.rename (λi=>i) (z5 _) (λi hi=>⟨rfl,(hA i hi).symm,.inl (hA i hi)⟩) (λi k1 k2=>by omega) (λ_ _ _ _ _ _ h=>h) (CA v u hv jh),?_⟩;exact⟨⟨Heap.Le.refl _,Dead.refl _⟩,λ_=>rfl,Jz,(λj b hj=>by simp at hj),(λj j' i hj=>by simp at hj),jh.retd (λj hj=>by simp at hj) _ _ hv⟩
     .exact⟨u,σf,.refl _ _ _,⟨hle,hd⟩,λe=>absurd e b7,Nb pl mp,aY,fE,jh.retd (λj hj=>rfl) _ _ hv⟩
   .exact h.elim
  .exact h.elim
 cases e with
 |normal=>exact main h
 |ret=>exact main h
 |_=>exact h.elim
def Q_ (nt:Nat) (args:List SV):St:=⟨args++List.replicate (nt-args.length) .any,[],0⟩
theorem AJ {args:List SV}{vs:List Value}(h:SRs P M Jz ZF args vs) (nt:Nat):GRel P M M M (Q_ nt args) (vs++List.replicate (nt-vs.length) undef) M:=by
 have uJ:∀ n,SRs P M Jz ZF (List.replicate n .any) (List.replicate n undef):=by
  intro n;induction n with
  |zero=>simp[SRs]
  |succ n ih=>simp only[xt,SRs];exact⟨_,_,rfl,by simp[SR],ih⟩
 refine⟨M,M,Jz,ZF,⟨Heap.Le.refl _,Heap.Le.refl _,(λi b h1 h2=>by rw[h2] at h1;cases h1),Dead.refl _⟩,Heap.Le.refl _,Heap.Le.refl _,?_,λd=>trivial,(λd i hl=>by cases hl),(λd d' i _ hl=>by cases hl),λ_ _=>rfl⟩;have:=h.length;simp only[Q_,this];exact h.append (uJ _)
theorem Fun.okC {f:Nat}{vc:VCode}{rs:List VResult}{nt:Nat}(h:Fun P f vc rs nt) (hm:P.follows .mixedOrders=true) {sp:CSp}
  (hb:∀ ap,Ok P ap->∀ args c v bs,sp ap args=some (c,v,bs)->c->∃ (C:Cx) (L:List (Nat×LoopAnn)) (cA:List SV),(∀ M vs,SRs P M Jz ZF args vs->SRs P M Jz ZF cA vs)/\COk P C/\gwp C L vc 0 (Nu rs v bs) (Q_ nt cA)):OkC P f sp:=by
 intro ap dA M args vs c v bs ax dh hv b7 hc;obtain⟨C,L,cA,h1,h2,h3⟩:=hb ap dA args c v bs dh hc;have main:∀ exact:Bool,(exact=true->bs.all OB.isL=true/\Vd v=true)->VCalled P f vs M λu M'=>if exact then u=Vh (Rh M bs) v/\M'=BV M bs else Ret P M v bs u M':=λexact hx=>by refine h.calls hm BL ?_;exact K2 h2 vc 0 _ _ _ M none _ trivial (AJ (h1 M vs ax) nt) h3 λe s' af M' k1 k2=>Ez exact k2 hv b7 k1 hx
 refine⟨(main false λe=>by cases e).mono λu M' hr=>by simpa using hr,λhl cG=>(main true λ_=>⟨hl,cG⟩).mono λu M' hr=>by simpa using hr⟩
theorem OkC.true {f:Nat}{sp:CSp}(h:OkC P f sp) (he:Xf P f) {M:Heap}{args:List SV}{vs:List Value}(ha:SRs P M Jz ZF args vs) {c:Prop}(hs:sp (λ_ _=>none) args=some (c,.val .bo true,[])) (hc:c) :
  VCallsTo P f vs M λv _=>v=.bool true:=by
 have:=(h (λ_ _=>none) (λ_ _ _ _ _ _ _ _ _ h=>by cases h) M args vs c _ [] ha hs rfl rfl hc).1;intro ρ w az hH hL;rcases this ρ w az hH hL with⟨_,h2⟩|⟨c',_,h2⟩
 .refine h2.mono λe w' ⟨c',h3,h4⟩=>⟨c',h3,h4.mono λu M' hr=>?_⟩;have:=(hr.flat rfl).2;simpa only [SR,KC,List.cons.injEq,and_true] using this
 .have:=h2 w (Like.refl ρ w);rw[NC he az w] at this;cases this
end
end Go.V
namespace Go.V
open Go
mutual
inductive AP:Type->Type 1 where
 |k (k:Kind):AP k.T
 |agg {D:Type}(l:AL D):AP D
 |ptr {D:Type}(l:AL D):AP D
 |fn (ks:List Kind) (r:Kind):AP ((AT ks->Prop)×(AT ks->r.T))
 |nilS:AP Unit
 |any:AP Unit
 |int (k:IntKind) (n:Int):AP Unit
inductive AL:Type->Type 1 where
 |nil:AL Unit
 |one {D:Type}(a:AP D):AL D
 |cons {D E:Type}(a:AP D) (r:AL E):AL (D×E)
end
def S6:(ks:List Kind)->AT ks->List SV
 |[],_=>[]
 |[k],x=>[IF k x]
 |k::k'::ks,x=>IF k x.1::S6 (k'::ks) x.2
abbrev Ap:=SV->List SV->Option (Prop×SV)
def Q06 (ap:Ap) (f:SV) (ks:List Kind) (r:Kind) (x:AT ks):Prop:=match ap f (S6 ks x) with
 |some (c,v)=>(match gap.asV r v with|some _=>c|none=>False)
 |none=>False
def fnP (ap:Ap) (f:SV) (ks:List Kind) (r:Kind) (x:AT ks):r.T:=match ap f (S6 ks x) with
 |some (_,v)=>(match gap.asV r v with|some y=>y|none=>r.dflt)
 |none=>r.dflt
mutual
def AP.dec (ap:Ap):{D:Type}->(p:AP D)->SV->Option D
 |_,.k k,v=>match k with
  |.list k=>view [] k v
  |.i ik=>T0 (.i ik) [v]
  |.bo=>T0 .bo [v]
  |.st=>T0 .st [v]
  |.pair _ _=>none
 |_,.agg l,v=>match v with|.agg vs=>AL.dec ap l vs|_=>none
 |_,.nilS,v=>match v with|.nilS=>some ()|_=>none
 |_,.any,_=>some ()
 |_,.int k n,v=>match T0 (.i k) [v] with|some x=>if (show Int from x)=n then some () else none|none=>none
 |_,.ptr l,v=>match v with|.cp vs 0=>AL.dec ap l vs|_=>none
 |_,.fn ks r,v=>match v with
  |.fn g a b=>some (Q06 ap (.fn g a b) ks r,fnP ap (.fn g a b) ks r)
  |.pf sq r' cS p=>some (Q06 ap (.pf sq r' cS p) ks r,fnP ap (.pf sq r' cS p) ks r)
  |_=>none
def AL.dec (ap:Ap):{D:Type}->(l:AL D)->List SV->Option D
 |_,.nil,vs=>match vs with|[]=>some ()|_=>none
 |_,.one a,vs=>match vs with|[v]=>AP.dec ap a v|_=>none
 |_,.cons a r,vs=>match vs with
  |v::vs=>(match AP.dec ap a v,AL.dec ap r vs with|some x,some y=>some (x,y)|_,_=>none)
  |[]=>none
end
mutual
def AP.can:{D:Type}->(p:AP D)->D->SV
 |_,.k k,x=>.val k x
 |_,.agg l,x=>.agg (AL.can l x)
 |_,.nilS,_=>.nilS
 |_,.any,_=>.any
 |_,.int k n,_=>.val (.i k) n
 |_,.ptr l,x=>.cp (AL.can l x) 0
 |_,.fn ks r,x=>.pf ks r x.1 x.2
def AL.can:{D:Type}->(l:AL D)->D->List SV
 |_,.nil,_=>[]
 |_,.one a,x=>[AP.can a x]
 |_,.cons a r,x=>AP.can a x.1::AL.can r x.2
end
def N2 {D:Type}(l:AL D) (pre:D->Prop) (res:D->SV) (obs:D->List OB):CSp:=λap args=>match AL.dec ap l args with
 |some d=>some (pre d,res d,obs d)
 |none=>none
section
variable {P:Program}{M:Heap}
theorem MV:∀ {ks:List Kind}{x:AT ks}{vs:List Value},TS M ks x vs->SRs P M Jz ZF (S6 ks x) vs
 |[],x,vs,h=>by simp only[TS] at h;subst h;simp[S6,SRs]
 |[k],x,vs,h=>by obtain⟨v,rfl,h1⟩:=h;simp only[S6,SRs];exact⟨v,[],rfl,X4 h1,rfl⟩
 |k::k'::ks,x,vs,h=>by obtain⟨v,cN,rfl,h1,h2⟩:=h;simp only[S6,SRs];exact⟨v,cN,rfl,X4 h1,MV h2⟩
theorem Ax {ap:Ap}(dA:Ok P ap) {f:SV}{v:Value}(hf:SR P M Jz ZF f v) (hv:∃ g a b,v=.func (.func g) a b) (ks:List Kind) (r:Kind):SR P M Jz ZF (.pf ks r (Q06 ap f ks r) (fnP ap f ks r)) v:=by
 obtain⟨g,a,b,rfl⟩:=hv;simp only[SR];refine⟨g,a,b,rfl,λx hd U vs hle cE=>?_⟩;unfold Q06 at hd;split at hd
 .rename_i c u oM;split at hd
  .rename_i y hy;obtain⟨h1,g',a',b',h2,h3⟩:=dA U f (S6 ks x) c u (.func (.func g) a b) vs (SR.mono hle (λ_ _ h=>h) _ _ hf) (MV cE) oM hd;obtain⟨rfl,rfl,rfl⟩:=(by simpa using h2:g=g'/\a=a'/\b=b');have hp:fnP ap f ks r x=y:=by simp[fnP,oM,hy]
   rw[hp];exact h3.mono λu' M' hu=>⟨hu.1,(PA hy hu.2).vcall (Ac _)⟩
  .exact hd.elim
 .exact hd.elim
mutual
theorem AP.q0k {ap:Ap}(dA:Ok P ap):∀ {D:Type}(p:AP D) {v:SV}{x:D}{u:Value},AP.dec ap p v=some x->SR P M Jz ZF v u->SR P M Jz ZF (AP.can p x) u
 |_,.k k,v,x,u,h,hs=>by
  have one:SRs P M Jz ZF [v] [u]:=by simp only[SRs];exact⟨u,[],rfl,hs,rfl⟩
  simp only[AP.can,SR];cases k with
  |list k =>have:=Y7 (own:=[]) (Heap.Le.refl M) (λd=>(trivial:OR P M Jz ZF M (Jz d) .dead)) (show view [] k v=some x from h) hs;exact⟨u,rfl,this⟩
  |i ik=>exact Qw (k:=.i ik) h one
  |bo=>exact Qw (k:=.bo) h one
  |st=>exact Qw (k:=.st) h one
  |pair a b=>cases h
 |_,.agg l,v,x,u,h,hs=>by
  simp only[AP.dec] at h;split at h
  .simp only[SR] at hs;obtain⟨cs,rfl,hs⟩:=hs;simp only[AP.can,SR];exact⟨cs,rfl,AL.q0k dA l h hs⟩
  .cases h
 |_,.any,v,x,u,h,hs=>by simp only[AP.can,SR]
 |_,.int k n,v,x,u,h,hs=>by
  have one:SRs P M Jz ZF [v] [u]:=by simp only[SRs];exact⟨u,[],rfl,hs,rfl⟩
  simp only[AP.dec] at h;split at h
  .rename_i y hy;split at h
   .rename_i e;subst e;simp only[AP.can,SR];exact Qw (k:=.i k) hy one
   .cases h
  .cases h
 |_,.nilS,v,x,u,h,hs=>by
  simp only[AP.dec] at h;split at h
  .simp only[AP.can];exact hs
  .cases h
 |_,.ptr l,v,x,u,h,hs=>by
  simp only[AP.dec] at h;split at h
  .simp only[SR] at hs;obtain⟨b,c,e,wr,t,h1,rfl,h3⟩:=hs;simp only[AP.can,SR];exact⟨b,c,e,wr,t,h1,rfl,AL.q0k dA l h h3⟩
  .cases h
 |_,.fn ks r,v,x,u,h,hs=>by
  simp only[AP.dec] at h;split at h
  .obtain rfl:=osj h;exact Ax dA hs (by simp only[SR] at hs;obtain⟨x,y,rfl,_⟩:=hs;exact⟨_,_,_,rfl⟩) ks r
  .obtain rfl:=osj h;exact Ax dA hs (by simp only[SR] at hs;obtain⟨g,x,y,rfl,_⟩:=hs;exact⟨_,_,_,rfl⟩) ks r
  .cases h
theorem AL.q0k {ap:Ap}(dA:Ok P ap):∀ {D:Type}(l:AL D) {vs:List SV}{x:D}{us:List Value},AL.dec ap l vs=some x->SRs P M Jz ZF vs us->SRs P M Jz ZF (AL.can l x) us
 |_,.nil,vs,x,us,h,hs=>by
  simp only[AL.dec] at h;split at h
  .exact hs
  .cases h
 |_,.one a,vs,x,us,h,hs=>by
  simp only[AL.dec] at h;split at h
  .obtain⟨u,rfl,h1⟩:=hs.one;simp only[AL.can,SRs];exact⟨u,[],rfl,AP.q0k dA a h h1,rfl⟩
  .cases h
 |_,.cons a r,vs,x,us,h,hs=>by
  simp only[AL.dec] at h;split at h
  .rename_i v cN;split at h
   .rename_i y z h1 h2;obtain rfl:=osj h;simp only[SRs] at hs;obtain⟨u,je,rfl,h3,h4⟩:=hs;simp only[AL.can,SRs];exact⟨u,je,rfl,AP.q0k dA a h1 h3,AL.q0k dA r h2 h4⟩
   .cases h
  .cases h
end
theorem CsOk.nil:CsOk P []:=λf sp h=>by cases h
theorem CsOk.cons {f:Nat}{sp:CSp}{cs:List (Nat×CSp)}(h:OkC P f sp) (t:CsOk P cs):CsOk P ((f,sp)::cs):=λg uK hg=>by
 simp only[Qp] at hg;cases hb:Nat.beq f g with
 |true=>rw[hb] at hg;obtain rfl:=zH hb;obtain rfl:=osj hg;exact h
 |false=>rw[hb] at hg;exact t g uK hg
theorem COk.cons {C:Cx}{f:Nat}{sp:CSp}(h:OkC P f sp) (t:COk P C):COk P {C with cs:=(f,sp)::C.cs}:=⟨CsOk.cons h t.cs,t.xs,t.it,t.yl,t.iy,t.xf⟩
theorem Q9m {f:Nat}{vc:VCode}{rs:List VResult}{nt:Nat}(h:Fun P f vc rs nt) (hm:P.follows .mixedOrders=true) {D:Type}{l:AL D}{pre:D->Prop}{res:D->SV}{obs:D->List OB}
  {C:Cx}(aA:COk P C) (L:D->List (Nat×LoopAnn)) (hb:∀ d,pre d->gwp C (L d) vc 0 (Nu rs (res d) (obs d)) (Q_ nt (AL.can l d))):OkC P f (N2 l pre res obs):=by
 refine h.okC hm λap dA args c v bs hs hc=>?_;unfold N2 at hs;split at hs
 .rename_i d hd;obtain⟨rfl,rfl,rfl⟩:=(by simpa using hs:pre d=c/\res d=v/\obs d=bs);exact⟨C,L d,AL.can l d,λM vs hv=>AL.q0k dA l hd hv,aA,hb d hc⟩
 .cases hs
theorem Zn {f:Nat}{vc:VCode}{rs:List VResult}{nt:Nat}(h:Fun P f vc rs nt) (hm:P.follows .mixedOrders=true) {D:Type}{l:AL D}{pre:D->Prop}{res:D->SV}{obs:D->List OB}
  {C:Cx}(aA:COk P C) {L:D->List (Nat×LoopAnn)}{V:D->Prop}(hq:∀ d,gwp C (L d) vc 0 (Nu rs (res d) (obs d)) (Q_ nt (AL.can l d))=V d) (hb:∀ d,pre d->V d):OkC P f (N2 l pre res obs) :=
 Q9m h hm aA L λd hp=>(hq d).mpr (hb d hp)
end
end Go.V
namespace Go.V
open Go
def Z1n (key:Nat) (vals:List Value) (rs:List VResult) (K:SV->St->Prop):Exit->St->Prop:=λe s =>
 let fin:=match X2 s rs,Q8 s.own key with
  |some r,.stk l vs=>vs=vals/\K r ⟨l,s.own,s.nx⟩
  |_,_=>False
 match e with
 |.normal=>fin
 |.ret=>fin
 |_=>False
def Q11 (C:Cx) (L:List Value->List (Nat×LoopAnn)) (vc:VCode) (rs:List VResult) (nt:Nat):XSp:=λd args s K =>
 ∀ vals,gwp {C with off:=100000*(d+1)} (L vals) vc 0 (Z1n (100000*(d+1)-1) vals rs K) ⟨SVs.kill (100000*(d+1)-1) args++List.replicate (nt-args.length) .any,(LK (100000*(d+1)-1) vals s).own,s.nx⟩
def Z2v (C:Cx) (L:List (Nat×LoopAnn)) (vc:VCode) (nt:Nat):Q6y:=λo args y s K =>
 gwp {C with off:=100000*(o+1),yl:=[y]} L vc 0 (λe s'=>match e with|.normal=>K s'|.ret=>K s'|_=>False) ⟨args++List.replicate (nt-args.length) .any,s.own,s.nx⟩
section
variable {P:Program}
theorem Ge {B:Heap}{pl:Nat->Value}{tb:Nat->Option Bool}:∀ n,SRs P B pl tb (List.replicate n .any) (List.replicate n undef)
 |0=>by simp[SRs]
 |n+1=>by simp only[xt,SRs];exact⟨_,_,rfl,by simp[SR],Ge n⟩
theorem Nj {f:Nat}{vc:VCode}{rs:List VResult}{nt:Nat}(h:Fun P f vc rs nt) (hm:P.follows .mixedOrders=true) {C:Cx}(aA:COk P C) (L:List Value->List (Nat×LoopAnn)):XOk P f (Q11 C L vc rs nt):=by
 intro B F pl tb s env M d args vs K R hG ha hx hK;have hx:=hx env;refine h.calls hm BL ?_;have q3:Gam P B F (Jv pl (100000*(d+1)-1) poison) tb (LK (100000*(d+1)-1) env s) env M:=by refine hG.make _ _ poison hG.le (λ_ _ _ _ _=>rfl) ?_ (λi hl _=>by cases hl);exact SRs.upd (.refl _) (λ_ _ h=>h) (λj hj=>by simp[Jv,hj]) _ _ hG.env
 have fc:COk P {C with off:=100000*(d+1)}:=⟨aA.cs,aA.xs,aA.it,aA.yl,aA.iy,aA.xf⟩;have ax:=SRs.upd (P:=P) (Heap.Le.refl B) (λ_ _ h=>h) (pl':=Jv pl (100000*(d+1)-1) poison) (tb':=tb) (o:=100000*(d+1)-1) (λj hj=>by simp[Jv,hj]) _ _ ha;have aS:GRel P B F M ⟨SVs.kill (100000*(d+1)-1) args++List.replicate (nt-args.length) .any,(LK (100000*(d+1)-1) env s).own,s.nx⟩ (vs++List.replicate (nt-vs.length) undef) M:=by refine⟨B,F,_,tb,.of hG.bf (.refl _),⟨q3.bf,q3.le,?_,q3.obj,q3.fresh,q3.sep,q3.free⟩⟩;rw[ha.length];exact ax.append (Ge _)
 refine K2 fc vc 0 _ _ _ M none _ trivial aS hx λe s' af M' h1 h2=>?_
 .have main:(match X2 s' rs,Q8 s'.own (100000*(d+1)-1) with
   |some r,.stk l vs=>vs=env/\K r ⟨l,s'.own,s'.nx⟩
   |_,_=>False)->QW (ZM af M' rs) λv=>∃ v' aE,DropTo M v M' v' aE/\R v' aE:=λh=>by
   obtain⟨B',F',pl',tb',k1,k2⟩:=h2;split at h
   .rename_i r l cN hr gy;obtain⟨rfl,h⟩:=h;obtain⟨u,h3,h4⟩:=Jy k2 hr;rw[h3];have ao:=k2.obj (100000*(d+1)-1);rw[gy] at ao;exact⟨u,M',.refl _ _ _,hK r _ B' F' pl' tb' u M' h k1 ⟨k2.bf,k2.le,ao,k2.obj,k2.fresh,k2.sep,k2.free⟩ h4⟩
   .exact h.elim
  cases e with
  |normal=>exact main h1
  |ret=>exact main h1
  |_=>exact h1.elim
theorem Fe {f:Nat}{vc:VCode}{nt:Nat}(h:Fun P f vc [] nt) (hm:P.follows .mixedOrders=true) {C:Cx}(aA:COk P C) (L:List (Nat×LoopAnn)):Q6o P f (Z2v C L vc nt):=by
 refine⟨h.enterable,λB F pl tb s env M o args vs y K R hG ha hy hx hK=>h.callsTo hm BL ?_⟩;have fc:COk P {C with off:=100000*(o+1),yl:=[(o,y)]}:=⟨aA.cs,aA.xs,aA.it,λo' y' h'=>by
  simp only[Qp] at h';cases hb:Nat.beq o o' with
  |true=>rw[hb] at h';obtain rfl:=zH hb;obtain rfl:=osj h';exact hy
  |false=>rw[hb] at h';exact(by cases h'),aA.iy,aA.xf⟩
 have aS:GRel P B F M ⟨args++List.replicate (nt-args.length) .any,s.own,s.nx⟩ (vs++List.replicate (nt-vs.length) undef) M:=by refine⟨B,F,pl,tb,.of hG.bf (Dead.refl _),⟨hG.bf,hG.le,?_,hG.obj,hG.fresh,hG.sep,hG.free⟩⟩;rw[ha.length];exact ha.append (Ge _)
 refine K2 fc vc 0 _ _ _ M none _ trivial aS hx λe s' af M' h1 h2=>?_;have main:K s'->QW (ZM af M' []) λv=>∃ v' aE,DropTo M v M' v' aE/\R aE:=λh=>by obtain⟨B',F',pl',tb',k1,k2⟩:=h2;exact⟨_,M',.refl _ _ _,hK s' B' F' pl' tb' af M' h k1 k2⟩
 cases e with
 |normal=>exact main h1
 |ret=>exact main h1
 |_=>exact h1.elim
end
end Go.V
namespace Go.V
open Go
def Z3g:SV->Option Nat
 |.lst o=>some o
 |.box o off=>bif Nat.beq off 0 then some o else none
 |_=>none
def lsv:OB->SV
 |.lst _ _ _ _=>.lst 0
 |_=>.box 0 0
def Z1c:SV->OB->Bool
 |.lst _,.lst _ _ _ _=>true
 |.box _ _,.cells _ _=>true
 |_,_=>false
abbrev LSp:=Ap->OB->List SV->Option (Prop×SV×OB)
def Eo (ap:Ap) (sp:LSp):XSp:=λ_ args s K =>
 match args with
 |a::args=>(match Z3g a with
  |some o=>bif (Q8 s.own o).ret&&Z1c a (Q8 s.own o) then (match sp ap (Q8 s.own o) (BK (oset s.own o .dead) args) with
    |some (c,v,b)=>bif v.ret 0&&b.ret then c/\K v ⟨s.env,oset s.own o b,s.nx⟩ else False
    |none=>False) else False
  |none=>False)
 |[]=>False
def Nf (nt:Nat) (a0:SV) (b:OB) (vals:List Value) (args:List SV):St:=⟨a0::(args++List.replicate (nt-(args.length+1)) .any),[(0,b),(4000000,.stk [a0] vals)],0⟩
def Fb (vals:List Value) (rs:List VResult) (v:SV) (b:OB) (a0:SV):Exit->St->Prop:=λe s =>
 let fin:=match X2 s rs,Q8 s.own 4000000 with
  |some r,.stk l vs=>vs=vals/\VB [(0,some 0)] [a0] l/\BN [] v r/\Ij s [(0,some 0)] 0 b
  |_,_=>False
 match e with
 |.normal=>fin
 |.ret=>fin
 |_=>False
section
variable {P:Program}
theorem Heap.Le.kill' {B M:Heap}(h:B.Le M) {i:Nat}(hi:B.get i=none):B.Le (M.kill i):=⟨h.1,λj b hb=>by
 have:j≠i:=by rintro rfl;rw[hi] at hb;cases hb
 rw[Heap.q0d _ this];exact h.2 _ _ hb⟩
theorem Heap.q1w (M:Heap) (i:Nat):(M.kill i).Le M:=⟨z5 _,λj b hb=>by
 by_cases e:j=i
 .subst e;rw[Heap.q0g] at hb;cases hb
 .rwa [Heap.q0d _ e] at hb⟩
def RE (M:Heap) (p:Value):Heap:=match oid p with|some i=>M.kill i|none=>M
theorem Q1n (M:Heap) (p:Value):(RE M p).Le M:=by
 unfold RE;split
 .exact Heap.q1w _ _
 .exact .refl _
theorem AA {B M:Heap}{p:Value}(h:B.Le M) (hi:∀ i,oid p=some i->B.get i=none):B.Le (RE M p):=by
 unfold RE;split
 .rename_i i e;exact h.kill' (hi i e)
 .exact h
theorem Ep {M:Heap}{p:Value}{i:Nat}(h:oid p=some i):(RE M p).get i=none:=by unfold RE;rw[h];exact Heap.q0g _ _
theorem Sn {M:Heap}{p:Value}{i:Nat}(h:oid p≠some i):(RE M p).get i=M.get i:=by
 unfold RE;split
 .rename_i j e;exact Heap.q0d _ (by rintro rfl;exact h e)
 .rfl
theorem Q5l {p:Value}{i:Nat}(hp:∀ l,p≠.tuple l) (h:Oid p i):oid p=some i:=by cases p<;>first|exact h|exact absurd rfl (hp _)
theorem OB.q2b {b:OB}(h:b.ret=true):b.live=true:=by cases b<;>first|rfl|cases h
theorem Q1b {o:Nat}{b:OB}(h:Z1c (.lst o) b=true):lsv b=.lst 0:=by cases b<;>first|rfl|cases h
theorem Q02 {o off:Nat}{b:OB}(h:Z1c (.box o off) b=true):lsv b=.box 0 0:=by cases b<;>first|rfl|cases h
theorem Q04 {f:Nat}{vc:VCode}{rs:List VResult}{nt:Nat}(h:Fun P f vc rs nt) (hm:P.follows .mixedOrders=true) {sp:LSp}{ap:Ap}
  (hb:∀ b args c v b',sp ap b args=some (c,v,b')->c->∃ (C:Cx) (L:List Value->List (Nat×LoopAnn)) (cA:List SV),SVs.pure cA=true/\(∀ M vs,SRs P M Jz ZF args vs->SRs P M Jz ZF cA vs)/\COk P C/\∀ vals,gwp C (L vals) vc 0 (Fb vals rs v b' (lsv b)) (Nf nt (lsv b) b vals cA)):XOk P f (Eo ap sp):=by
 intro B F pl tb s env M d args vs K R hG ha hx hK;unfold Eo at hx;split at hx
 .rename_i a args;split at hx
  .rename_i o aP;cases lX:((Q8 s.own o).ret&&Z1c a (Q8 s.own o)) with
   |false=>rw[lX] at hx;exact hx.elim
   |true =>
   rw[lX] at hx;simp only[zg] at hx;simp only[z2] at lX;obtain⟨mW,fv⟩:=lX;split at hx
   .rename_i c v b' dh;cases cH:(v.ret 0&&b'.ret) with
    |false=>rw[cH] at hx;exact hx.elim
    |true =>
    rw[cH] at hx;obtain⟨hc,hx⟩:=hx;simp only[z2] at cH;simp only[SRs] at ha;obtain⟨u,us,rfl,kS,eo⟩:=ha;have al:=OB.q2b mW;have ao:=hG.obj o;have bc:∀ i,oid (pl o)=some i->F.get i=none:=λi hi=>hG.fresh o i al (DE hi);have mc:∀ i,oid (pl o)=some i->B.get i=none:=λi hi=>by
     cases hg:B.get i with
     |none=>rfl
     |some b=>have:=hG.bf.2 _ _ hg;rw[bc i hi] at this;cases this
    have dM:∀ l,pl o≠.tuple l:=λl he=>by
     unfold Z3g at aP;split at aP
     .obtain rfl:=osj aP;simp only[SR] at kS;obtain⟨rfl,_,_,_,hs⟩:=kS;rw[he] at hs;cases hs
     .rename_i o' off;cases aX:Nat.beq off 0 with
      |false=>rw[aX] at aP;cases aP
      |true =>rw[aX] at aP;obtain rfl:=osj aP;simp only[SR] at kS;obtain⟨_,h,_⟩:=kS;rw[he] at h;cases h
     .cases aP
    have me:∀ (B:Heap) (pl':Nat->Value) (tb':Nat->Option Bool),(SR P B pl' tb' (lsv (Q8 s.own o)) u<->pl' 0=pl o):=λB pl' tb'=>by
     unfold Z3g at aP;split at aP
     .obtain rfl:=osj aP;simp only[SR] at kS;rw[Q1b fv];simp only[SR];obtain⟨rfl,hs⟩:=kS;exact⟨λh=>h.1.symm,λh=>⟨h.symm,hs⟩⟩
     .rename_i o' off;cases aX:Nat.beq off 0 with
      |false=>rw[aX] at aP;cases aP
      |true =>
       rw[aX] at aP;obtain rfl:=osj aP;obtain rfl:=zH aX;simp only[SR] at kS;rw[Q02 fv];simp only[SR];obtain⟨i,h1,rfl⟩:=kS;rw[h1];constructor
       .rintro⟨i',h2,h3⟩;rw[h2];simpa using h3.symm
       .intro h2;exact⟨i,h2,rfl⟩
     .cases aP
    obtain⟨C,L,cA,oN,rk,aA,hg⟩:=hb _ _ c v b' dh hc;have hg:=hg [u];let σc:=RE M (pl o);have pM:B.Le σc:=AA hG.leB mc;have rn:F.Le σc:=AA hG.le bc;have ax:SRs P σc Jz ZF cA us:=by
     refine rk σc us (XU (own:=oset s.own o .dead) pM (pl:=pl) (tb:=tb) (λd=>?_) eo);rw[Qi];by_cases e:d=o
     .rw[z0 e];trivial
     .rw[z1 e];exact(hG.obj d).mono (.refl _) (λ_ _ h=>h) λhl i hi=>Sn λjE=>hG.sep d o i e hl al hi (DE jE)
    let ji:Nat->Value:=λj=>if j=0 then pl o else poison
    have aS:GRel P σc σc M (Nf nt (lsv (Q8 s.own o)) (Q8 s.own o) [u] cA) (u::us++List.replicate (nt-(u::us).length) undef) M:=by
     refine⟨σc,σc,ji,ZF,⟨.refl _,.refl _,λ_ _ _ h=>h,.refl _⟩,.refl _,Q1n _ _,?_,λj=>?_,λj i h1 h2=>?_,λj j' i av h1 h2 h3 h4=>?_,λ_ _=>rfl⟩
     .simp only[Nf,SRs,zY];refine⟨u,_,rfl,(me _ _ _).2 (by simp[ji]),?_⟩;rw[ax.length,zP];refine SRs.append ?_ (Ge _);exact QZ _ _ oN ax
     .simp only[Nf,Q8];by_cases e0:j=0
      .subst e0;simp only[Nat.beq_refl,zg];exact ao.retd mW λi _=>rfl
      .rw[Zs (λe=>e0 e.symm),cond_false];by_cases e1:j=4000000
       .subst e1;simp only[Nat.beq_refl,zg];exact⟨u,[],rfl,(me _ _ _).2 (by simp[ji]),rfl⟩
       .rw[Zs (λe=>e1 e.symm),cond_false];trivial
     .simp only[Nf,Q8] at h1;by_cases e0:j=0
      .subst e0;exact Ep (Q5l dM h2)
      .rw[Zs (λe=>e0 e.symm),cond_false] at h1;by_cases e1:j=4000000
       .subst e1;cases h1
       .rw[Zs (λe=>e1 e.symm),cond_false] at h1;cases h1
     .have z:∀ j,(Q8 (Nf nt (lsv (Q8 s.own o)) (Q8 s.own o) [u] cA).own j).live=true->j=0:=λj h1=>by
       simp only[Nf,Q8] at h1;by_cases e0:j=0
       .exact e0
       .rw[Zs (λe=>e0 e.symm),cond_false] at h1;by_cases e1:j=4000000
        .subst e1;cases h1
        .rw[Zs (λe=>e1 e.symm),cond_false] at h1;cases h1
      exact av ((z j h1).trans (z j' h2).symm)
    refine h.calls hm BL ?_;refine K2 aA vc 0 _ _ _ M none _ trivial aS hg λe s' af M' h1 h2=>?_
    have main:(match X2 s' rs,Q8 s'.own 4000000 with
     |some r,.stk l vs=>vs=[u]/\VB [(0,some 0)] [lsv (Q8 s.own o)] l/\BN [] v r/\Ij s' [(0,some 0)] 0 b'
     |_,_=>False)->QW (ZM af M' rs) λv=>∃ v' aE,DropTo M v M' v' aE/\R v' aE:=λh=>by
     obtain⟨B',F',pl',tb',k1,k2⟩:=h2;split at h
     .rename_i r l cN hr gy;obtain⟨rfl,m1,m2,m3⟩:=h;obtain⟨w,h3,h4⟩:=Jy k2 hr;rw[h3];have fH:=k2.obj 4000000;rw[gy] at fH;have mf:pl' 0=pl o:=by
       have:=QY [lsv (Q8 s.own o)] l [u] m1 fH;simp only[SRs] at this;obtain⟨u',_,cw,h5,_⟩:=this;obtain rfl:u=u':=(zN cw).1;have:=(me _ _ _).1 h5;simpa [Nb,Qp] using this
      have iO:=(QU k2 m3).1;have l8:Nb pl' [(0,some 0)] 0=pl o:=by simpa [Nb,Qp] using mf
      rw[l8] at iO;have dg:=(K0 v r w m2 h4).retd (B':=B) (pl':=pl) (tb':=tb) (n:=0) (λj hj=>by omega) _ _ cH.1;have hle:σc.Le M':=k1.f.trans k2.le;refine⟨w,M',.refl _ _ _,hK v _ B F pl tb w M' hx (.of hG.bf k1.d) ⟨hG.bf,rn.trans hle,hG.env,λd=>?_,λd i q1 q2=>?_,λd d' i av q1 q2 q3 q4=>?_,hG.free⟩ dg⟩
      .simp only[Qi];by_cases e:d=o
       .subst e;rw[z0 rfl];exact iO.retd cH.2 λ_ _=>rfl
       .rw[z1 e];refine (hG.obj d).mono (.refl _) (λ_ _ h=>h) λhl i hi=>?_;have ah:=(hG.obj d).q1a hl hi;cases hg:M.get i with
        |none=>exact k1.d.2 i ah hg
        |some bb=>exact hle.2 _ _ (by rw[Sn λjE=>hG.sep d o i e hl al hi (DE jE)];exact hg)
      .simp only[Qi] at q1;by_cases e:d=o
       .subst e;exact hG.fresh d i al q2
       .rw[z1 e] at q1;exact hG.fresh d i q1 q2
      .have lv:∀ d,(Q8 (oset s.own o b') d).live=true->(Q8 s.own d).live=true:=λd h=>by
        rw[Qi] at h;by_cases e:d=o
        .subst e;exact al
        .rwa [z1 e] at h
       exact hG.sep d d' i av (lv d q1) (lv d' q2) q3 q4
     .exact h.elim
    cases e with
    |normal=>exact main h1
    |ret=>exact main h1
    |_=>exact h1.elim
   .exact hx.elim
  .exact hx.elim
 .exact hx.elim
mutual
theorem AP.q0m:∀ {D:Type}(p:AP D) (x:D),(AP.can p x).pure=true
 |_,.k k,x=>rfl
 |_,.agg l,x=>by simp only[AP.can,SV.pure];exact AL.q0m l x
 |_,.nilS,x=>rfl
 |_,.any,x=>rfl
 |_,.int k n,x=>rfl
 |_,.ptr l,x=>by simp only[AP.can,SV.pure];exact AL.q0m l x
 |_,.fn ks r,x=>rfl
theorem AL.q0m:∀ {D:Type}(l:AL D) (x:D),SVs.pure (AL.can l x)=true
 |_,.nil,x=>rfl
 |_,.one a,x=>by simp only[AL.can,SVs.pure,AP.q0m a x];rfl
 |_,.cons a r,x=>by simp only[AL.can,SVs.pure,AP.q0m a x.1,AL.q0m r x.2];rfl
end
def Iv (ty:Nat) (k:Kind) {D:Type}(l:AL D) (pre:List k.T->Bool->D->Prop) (res:List k.T->Bool->D->SV) (post:List k.T->Bool->D->List k.T):LSp:=λap b args=>match b with
 |.lst jg _k' xs nl=>if jg=ty then (match NS xs k,AL.dec ap l args with
  |some xs,some d=>some (pre xs nl d,res xs nl d,.lst ty k (post xs nl d) nl)
  |_,_=>none) else none
 |_=>none
theorem Rs {f:Nat}{vc:VCode}{rs:List VResult}{nt:Nat}(h:Fun P f vc rs nt) (hm:P.follows .mixedOrders=true) {ap:Ap}(dA:Ok P ap) {ty:Nat}{k:Kind}{D:Type}{l:AL D}{pre:List k.T->Bool->D->Prop}{res:List k.T->Bool->D->SV}{post:List k.T->Bool->D->List k.T}
  {C:Cx}(aA:COk P C) {L:List k.T->Bool->D->List Value->List (Nat×LoopAnn)}{V:List k.T->Bool->D->Prop}
  (hq:∀ xs nl d,(∀ vals,gwp C (L xs nl d vals) vc 0 (Fb vals rs (res xs nl d) (.lst ty k (post xs nl d) nl) (.lst 0)) (Nf nt (.lst 0) (.lst ty k xs nl) vals (AL.can l d)))=V xs nl d)
  (hb:∀ xs nl d,pre xs nl d->V xs nl d):XOk P f (Eo ap (Iv ty k l pre res post)):=by
 refine Q04 h hm λb args c v b' hs hc=>?_;unfold Iv at hs;split at hs
 .rename_i jg k' xs nl;split at hs
  .rename_i e;subst e;split at hs
   .rename_i ys d h1 h2;obtain⟨rfl,rfl,rfl⟩:=(by simpa using hs:pre ys nl d=c/\res ys nl d=v/\OB.lst jg k (post ys nl d) nl=b');unfold NS at h1;split at h1
    .rename_i e;subst e;obtain rfl:=osj h1;exact⟨C,L xs nl d,AL.can l d,AL.q0m l d,λM vs hv=>AL.q0k dA l h2 hv,aA,(hq xs nl d).mpr (hb xs nl d hc)⟩
    .cases h1
   .cases hs
  .cases hs
 .cases hs
end
end Go.V
namespace Go.V
open Go
abbrev lI {α:Type}(l:List α):Int:=(l.length:Int)
abbrev gD {α:Type}(l:List α) (i:Int) (d:α):α:=l.getD i.toNat d
abbrev sT {α:Type}(l:List α) (i:Int) (x:α):List α:=l.set i.toNat x
abbrev I64 (x:Int):Prop:=InK .i64 x
theorem Qh (x:Int):InK .i64 x<->-9223372036854775808<=x/\x<=9223372036854775807:=by simp[InK,IntKind.min,IntKind.max,IntKind.bits,IntKind.signed]
theorem Fo (x:Int):InK .u8 x<->0<=x/\x<=255:=by simp[InK,IntKind.min,IntKind.max,IntKind.bits,IntKind.signed]
theorem Pw (x:Int):InK .u64 x<->0<=x/\x<=18446744073709551615:=by simp[InK,IntKind.min,IntKind.max,IntKind.bits,IntKind.signed]
theorem LoopP.count {F:Int->(Int->Prop)->Prop}(n:Nat) (J:Nat->Prop) (h0:J 0) (hr:∀ k:Nat,k<=n->J k->∀ q:Int->Prop,(k<n->J (k+1)->q ((k:Int)+1))->F k q):LoopP F 0:=by refine⟨λd=>∃ k:Nat,d=k/\k<=n/\J k,λd=>n-d.toNat,⟨0,rfl,Nat.zero_le _,h0⟩,λd ⟨k,hd,hk,hJ⟩=>?_⟩;subst hd;refine hr k hk hJ _ λah rp=>⟨⟨k+1,by simp,ah,rp⟩,?_⟩;simp;omega
theorem LoopP.count2 {X:Type}{F:X×Int->(X×Int->Prop)->Prop}(n:Nat) (J:Nat->X->Prop) {x0:X}(h0:J 0 x0) (hr:∀ (k:Nat) (x:X),k<=n->J k x->∀ q:X×Int->Prop,(∀ x',k<n->J (k+1) x'->q (x',(k:Int)+1))->F (x,(k:Int)) q):LoopP F (x0,0):=by refine⟨λd=>∃ k:Nat,d.2=k/\k<=n/\J k d.1,λd=>n-d.2.toNat,⟨0,rfl,Nat.zero_le _,h0⟩,λ⟨x,d⟩ ⟨k,hd,hk,hJ⟩=>?_⟩;simp only at hd hJ;subst hd;refine hr k x hk hJ _ λx' ah rp=>⟨⟨k+1,by simp,ah,rp⟩,?_⟩;simp;omega
theorem Qg {α:Type}{l:List α}{k:Nat}{d:α}(h:k<l.length):l.getD k d=l[k]:=by simp[z4,z3 h]
theorem N_ {α:Type}{l:List α}{k:Nat}(h:k<l.length):l.take (k+1)=l.take k++[l[k]]:=by rw[List.take_succ_eq_append_getElem h]
section
variable {P:Program}
theorem st1 {S:VSpecs}{d:Nat}{op:VOp}{rest:List VOper}{env:Env}{M:Heap}{K:Env->Heap->Prop}{v:Value}(hv:∀ K',vop S op env M K'=QW (Q6 op (Q3 env) M) λp=>K' p.1 p.2) (h:Q6 op (Q3 env) M=some (v,M)) (hr:T1 S rest (env.set d v) M K):T1 S (⟨some d,op,none⟩::rest) env M K:=by show QW (some true) _;refine⟨λ_=>?_,λe=>by cases e⟩;rw[hv,h];exact hr
theorem YlOk.nil:∀ o y,Qp ([]:List (Nat×YSp)) o=some y->Q0w P o y:=λo y h=>by cases h
theorem IysOk.nil:∀ f x,Qp ([]:List (Nat×Q6y)) f=some x->Q6o P f x:=λf x h=>by cases h
theorem IysOk.cons {f:Nat}{x:Q6y}{l:List (Nat×Q6y)}(h:Q6o P f x) (t:∀ g y,Qp l g=some y->Q6o P g y):∀ g y,Qp ((f,x)::l) g=some y->Q6o P g y:=λg y hg=>by
 simp only[Qp] at hg;cases hb:Nat.beq f g with
 |true=>rw[hb] at hg;obtain rfl:=zH hb;obtain rfl:=osj hg;exact h
 |false=>rw[hb] at hg;exact t g y hg
theorem XsOk.nil:∀ f x,Qp ([]:List (Nat×XSp)) f=some x->XOk P f x:=λf x h=>by cases h
theorem XsOk.cons {f:Nat}{x:XSp}{l:List (Nat×XSp)}(h:XOk P f x) (t:∀ g y,Qp l g=some y->XOk P g y):∀ g y,Qp ((f,x)::l) g=some y->XOk P g y:=λg y hg=>by
 simp only[Qp] at hg;cases hb:Nat.beq f g with
 |true=>rw[hb] at hg;obtain rfl:=zH hb;obtain rfl:=osj hg;exact h
 |false=>rw[hb] at hg;exact t g y hg
theorem ItsOk.nil:∀ f x,Qp ([]:List (Nat×ISp)) f=some x->Q7e P f x:=λf x h=>by cases h
theorem ItsOk.cons {f:Nat}{x:ISp}{l:List (Nat×ISp)}(h:Q7e P f x) (t:∀ g y,Qp l g=some y->Q7e P g y):∀ g y,Qp ((f,x)::l) g=some y->Q7e P g y:=λg y hg=>by
 simp only[Qp] at hg;cases hb:Nat.beq f g with
 |true=>rw[hb] at hg;obtain rfl:=zH hb;obtain rfl:=osj hg;exact h
 |false=>rw[hb] at hg;exact t g y hg
def Vy:Ap:=λ_ _=>none
theorem Xp:Ok P Vy:=λ_ _ _ _ _ _ _ _ _ h=>by cases h
end
end Go.V
namespace Go.V
open Go
def C5 {α:Type}:Nat->α->List α->List α
 |0,x,l=>x::l
 |j+1,x,a::l=>a::C5 j x l
 |_+1,x,[]=>[x]
def Ce {α:Type}:Nat->List α->List α
 |0,_::l=>l
 |j+1,a::l=>a::Ce j l
 |_,[]=>[]
def RN (kk vk:Kind):OB->Option (List (kk.T×vk.T))
 |.map jL lU m=>if h:jL=kk/\lU=vk then some (h.1▸h.2▸m) else none
 |_=>none
def IZ (vals:List Value) (rs:List VResult) (v:SV) (kk vk:Kind) (post:List (kk.T×vk.T)->Prop):Exit->St->Prop:=λe s =>
 let fin:=match X2 s rs,Q8 s.own 4000000,RN kk vk (Q8 s.own 0) with
  |some r,.stk l vs,some m'=>vs=vals/\VB [(0,some 0)] [.map 0] l/\BN [] v r/\post m'
  |_,_,_=>False
 match e with
 |.normal=>fin
 |.ret=>fin
 |_=>False
section
variable {P:Program}
theorem Mj {kk vk:Kind}{b:OB}{m:List (kk.T×vk.T)}(h:RN kk vk b=some m):b=.map kk vk m:=by
 unfold RN at h;split at h
 .split at h
  .rename_i e;obtain⟨rfl,rfl⟩:=e;obtain rfl:=osj h;rfl
  .cases h
 .cases h
theorem F8:∀ (j:Nat) {l:List SV}{c:List Value}{o:Nat}{B:Heap}{pl:Nat->Value}{tb:Nat->Option Bool},l[j]?=some (.map o)->SRs P B pl tb l c ->
  ∃ w,SR P B pl tb (.map o) w/\SRs P B pl tb (Ce j l) (Ce j c)/\∀ (B':Heap) (pl':Nat->Value) (tb':Nat->Option Bool) (l':List SV) (x:SV),SRs P B' pl' tb' l' (Ce j c)->SR P B' pl' tb' x w->SRs P B' pl' tb' (C5 j x l') c
 |j,[],c,o,B,pl,tb,h,_=>by simp at h
 |0,a::l,c,o,B,pl,tb,h,hs=>by
  obtain rfl:a=.map o:=by simpa using h
  simp only[SRs] at hs;obtain⟨w,us,rfl,h1,h2⟩:=hs;exact⟨w,h1,h2,λB' pl' tb' l' x h3 h4=>by simp only[C5,SRs];exact⟨w,us,rfl,h4,h3⟩⟩
 |j+1,a::l,c,o,B,pl,tb,h,hs=>by
  simp only[SRs] at hs;obtain⟨u,us,rfl,h1,h2⟩:=hs;obtain⟨w,g1,g2,g3⟩:=F8 j (by simpa using h) h2;refine⟨w,g1,?_,λB' pl' tb' l' x h3 h4=>?_⟩
  .simp only[Ce,SRs];exact⟨u,_,rfl,h1,g2⟩
  .simp only[Ce] at h3
   match l',h3 with
   |[],h3=>simp only[SRs] at h3;cases h3
   |y::l',h3 =>simp only[SRs] at h3;obtain⟨u',je,e,h5,h6⟩:=h3;obtain⟨rfl,rfl⟩:=zN e;simp only[C5,SRs];exact⟨u,us,rfl,h5,g3 B' pl' tb' l' x h6 h4⟩
theorem XfOk.nil {xs:List (Nat×XSp)}:∀ f j,Qp ([]:List (Nat×Nat)) f=some j->∀ x,Qp xs f=some x->Q9p P f x j:=λf j h=>by cases h
theorem XfOk.cons {xs:List (Nat×XSp)}{g k:Nat}{y:XSp}{l:List (Nat×Nat)}(hy:Qp xs g=some y) (h:Q9p P g y k) (t:∀ f j,Qp l f=some j->∀ x,Qp xs f=some x->Q9p P f x j):∀ f j,Qp ((g,k)::l) f=some j->∀ x,Qp xs f=some x->Q9p P f x j:=λf j hf x hx=>by
 simp only[Qp] at hf;cases hb:Nat.beq g f with
 |true =>rw[hb] at hf;obtain rfl:=zH hb;obtain rfl:=osj hf;obtain rfl:=osj (hy.symm.trans hx);exact h
 |false=>rw[hb] at hf;exact t f j hf x hx
end
end Go.V
namespace Go.V
open Go
abbrev PSp (kk vk:Kind):=Ap->List SV->Option (Prop×List SV×(List (kk.T×vk.T)->Prop))
def Q0v (ap:Ap) (kk vk:Kind) (sp:PSp kk vk):XSp:=λd args s K=>match sp ap (BK s.own args) with
 |some (c,vs,post)=>bif SVs.ret 0 vs then c/\∀ m',post m'->K (.tup (.map d::vs)) (s.make d (.map kk vk m')) else False
 |none=>False
def YA (nt:Nat) (args:List SV):St:=⟨args++List.replicate (nt-args.length) .any,[],0⟩
def Q5i (rs:List VResult) (kk vk:Kind) (vs:List SV) (post:List (kk.T×vk.T)->Prop):Exit->St->Prop:=λe s =>
 let fin:=match X2 s rs with
  |some (.tup (.map k::r))=>(match RN kk vk (Q8 s.own k) with
   |some m'=>VB [] vs r/\post m'
   |none=>False)
  |_=>False
 match e with
 |.normal=>fin
 |.ret=>fin
 |_=>False
section
variable {P:Program}
theorem SRs.retd0 {B B':Heap}{pl pl':Nat->Value}{tb tb':Nat->Option Bool}:∀ (l:List SV) (us:List Value),SVs.ret 0 l=true->SRs P B pl tb l us->SRs P B' pl' tb' l us
 |[],us,_,h=>by simpa [SRs] using h
 |s::l,us,hr,h=>by simp only[SVs.ret,z2] at hr;simp only[SRs] at h |-;obtain⟨u,je,rfl,h1,h2⟩:=h;exact⟨u,je,rfl,h1.retd (n:=0) (λj hj=>by omega) _ _ hr.1,SRs.retd0 l je hr.2 h2⟩
theorem Q08 {f:Nat}{vc:VCode}{rs:List VResult}{nt:Nat}(h:Fun P f vc rs nt) (hm:P.follows .mixedOrders=true) {kk vk:Kind}(bC:(kk.flat&&vk.flat)=true) {sp:PSp kk vk}{ap:Ap}
  (hb:∀ gA c vs post,sp ap gA=some (c,vs,post)->c->∃ (C:Cx) (L:List (Nat×LoopAnn)) (fe:List SV),SVs.pure fe=true/\(∀ M us,SRs P M Jz ZF gA us->SRs P M Jz ZF fe us)/\COk P C/\gwp C L vc 0 (Q5i rs kk vk vs post) (YA nt fe)):XOk P f (Q0v ap kk vk sp):=by
 intro B F pl tb s env M d args vals K R hG ha hx hK;unfold Q0v at hx;split at hx
 .rename_i c vs post dh;cases cH:SVs.ret 0 vs with
  |false=>rw[cH] at hx;exact hx.elim
  |true =>
  rw[cH] at hx;obtain⟨hc,hx⟩:=hx;obtain⟨C,L,fe,dk,oO,fc,hg⟩:=hb _ c vs post dh hc;have ax:=oO M vals (XU (own:=s.own) hG.leB (pl:=pl) (tb:=tb) (λd=>hG.obj d) ha);have aS:GRel P M M M (YA nt fe) (vals++List.replicate (nt-vals.length) undef) M:=by
   refine⟨M,M,λ_=>poison,ZF,⟨.refl _,.refl _,λ_ _ _ h=>h,.refl _⟩,.refl _,.refl _,?_,λk=>?_,λk i' h1 h2=>?_,λk k' i' mg h1 h2 h3 h4=>?_,λ_ _=>rfl⟩
   .simp only[YA];rw[ax.length];exact SRs.append (QZ _ _ dk ax) (Ge _)
   .simp only[YA,Q8];trivial
   .simp only[YA,Q8] at h1;cases h1
   .simp only[YA,Q8] at h1;cases h1
  refine h.calls hm BL ?_;refine K2 fc vc 0 _ _ _ M none _ trivial aS hg λe s' af M' h1 h2=>?_
  have main:(match X2 s' rs with
   |some (.tup (.map k::r))=>(match RN kk vk (Q8 s'.own k) with
    |some m'=>VB [] vs r/\post m'
    |none=>False)
   |_=>False)->QW (ZM af M' rs) λv=>∃ v' aE,DropTo M v M' v' aE/\R v' aE:=λh=>by
   obtain⟨B',F',pl',tb',k1,k2⟩:=h2;split at h
   .rename_i k r hr;split at h
    .rename_i m' lr;obtain⟨g1,g2⟩:=h;have aM:=Mj lr;obtain⟨w,h3,h4⟩:=Jy k2 hr;rw[h3];simp only[SR,SRs] at h4;obtain⟨cs,rfl,mv,ws,rfl,⟨rfl,_⟩,h5⟩:=h4;have dg:=SRs.retd0 (B':=B) (pl':=Jv pl d (pl' k)) (tb':=tb) vs ws cH (QY vs r ws g1 h5);have ao:=k2.obj k;rw[aM] at ao;have hle:M.Le M':=k1.f.trans k2.le;have jQ:OR P B (Jv pl d (pl' k)) tb M' (pl' k) (.map kk vk m'):=ao.retd bC λ_ _=>rfl;have al:(Q8 s'.own k).live=true:=by rw[aM];rfl
     have fD:∀ i,Oid (pl' k) i->M.get i=none:=λi hi=>by
      cases hg:M.get i with
      |none=>rfl
      |some b =>have:=k2.fresh k i al hi;have h9:=k1.f.2 _ _ hg;rw[this] at h9;cases h9
     have mh:Gam P B F (Jv pl d (pl' k)) tb (s.make d (.map kk vk m')) env M':=by
      refine hG.make d _ (pl' k) (hG.le.trans hle) (λj i _ hl hi=>?_) jQ λi _ hi=>⟨?_,λj _ hl hj=>?_⟩
      .cases hg:M.get i with
       |none=>exact k1.d.2 i ((hG.obj j).q1a hl hi) hg
       |some bb=>exact hle.2 _ _ hg
      .cases hg:F.get i with
       |none=>rfl
       |some b=>have:=hG.le.2 _ _ hg;rw[fD i hi] at this;cases this
      .have ah:=(hG.obj j).q1a hl hj;have:=k1.d.2 i ah (fD i hi);obtain⟨id,es,clock,e1,e2,_⟩:=jQ;rw[e1] at hi;obtain rfl:id=i:=osj hi;rw[this] at e2;cases e2
     refine⟨_,M',.refl _ _ _,hK _ _ B F _ tb _ M' (hx m' g2) (.of hG.bf k1.d) mh ?_⟩;obtain⟨id,es,clock,e1,_⟩:=jQ;simp only[SR,SRs];exact⟨_,rfl,_,_,rfl,⟨by simp[Jv],_,e1⟩,dg⟩
    .exact h.elim
   .exact h.elim
  cases e with
  |normal=>exact main h1
  |ret=>exact main h1
  |_=>exact h1.elim
 .exact hx.elim
def Q6s {kk vk:Kind}{D:Type}(la:AL D) (pre:D->Prop) (res:D->List SV) (post:D->List (kk.T×vk.T)->Prop):PSp kk vk:=λap gA=>match AL.dec ap la gA with
 |some a=>some (pre a,res a,post a)
 |none=>none
theorem Q0b {f:Nat}{vc:VCode}{rs:List VResult}{nt:Nat}(h:Fun P f vc rs nt) (hm:P.follows .mixedOrders=true) {ap:Ap}(dA:Ok P ap) {kk vk:Kind}(bC:(kk.flat&&vk.flat)=true) {D:Type}{la:AL D}{pre:D->Prop}{res:D->List SV}{post:D->List (kk.T×vk.T)->Prop}
  {C:Cx}(aA:COk P C) {L:D->List (Nat×LoopAnn)}{V:D->Prop}
  (hq:∀ y,gwp C (L y) vc 0 (Q5i rs kk vk (res y) (post y)) (YA nt (AL.can la y))=V y)
  (hb:∀ y,pre y->V y):XOk P f (Q0v ap kk vk (Q6s la pre res post)):=Q08 h hm bC λgA c vs q hs hc=>by
 unfold Q6s at hs;split at hs
 .rename_i y h2;obtain⟨rfl,rfl,rfl⟩:=(by simpa using hs:pre y=c/\res y=vs/\post y=q);exact⟨C,L y,AL.can la y,AL.q0m la y,λM vs hv=>AL.q0k dA la h2 hv,aA,(hq y).mpr (hb y hc)⟩
 .cases hs
end
end Go.V
namespace Go.V
open Go
def callV (ap:Ap) (sp:CSp):XSp:=λd args s K =>
 let s1:=(⟨s.env++args,s.own,s.nx⟩:St).frzs (B6 args);let a1:=s1.env.drop s.env.length
 bif SVs.pure a1 then (match sp ap a1 with
  |some (c,v,bs)=>bif v.ret bs.length&&bs.all OB.isL then c/\K (v.ren d 500000) ((⟨s1.env.take s.env.length,s1.own,s1.nx⟩:St).makes d 500000 0 bs) else False
  |none=>False) else False
def pj4 {A B C D E:Type}(x:A×B×C×D×E):E:=x.2.2.2.2
def pj8 {A B C D A' B' C' D' E:Type}(x:A×B×C×D×A'×B'×C'×D'×E):E:=x.2.2.2.2.2.2.2.2
def Xz {A B C D A' B' C' D' A1 B1 C1 D1 A2 B2 C2 D2 E:Type}(x:A×B×C×D×A'×B'×C'×D'×A1×B1×C1×D1×A2×B2×C2×D2×E):E:=x.2.2.2.2.2.2.2.2.2.2.2.2.2.2.2.2
theorem Oq (x:Nat):BitVec.ofInt 64 (x:Int)=BitVec.ofNat 64 x:=by apply BitVec.eq_of_toNat_eq;simp
theorem Q6a {x i:Nat}(hi:i<=64):Xg .i64 x i=((x <<< i:Nat):Int):=by have:Nat.min i 64=i:=xS hi;simp only[Xg,zz,IntKind.bits,this,Nat.shiftLeft_eq];norm_cast
end Go.V
namespace Go.Proofs.Tryz
open Go Go.V Go.Proofs
def inI (n a b:Int):Bool:=decide (a<=n)&&decide (n<=b)
theorem nI (n a b:Int):(!inI n a b)=(decide (n<a)||decide (b<n)):=by simp only[inI,Bool.not_and];by_cases h1:a<=n<;>by_cases h2:n<=b<;>simp[h1,h2]<;>omega
def Il {α:Type}(l:List α) (p:α->Bool):Int:=match l.findIdx? p with|some i=>(i:Int)|none=>-1
def OH (l:List Int) (p:Int->Bool):Int:=match l.findIdx? p with|some i=>(i:Int)|none=>-1
theorem Ik {α:Type}{l:List α}{p:α->Bool}{k:Nat}(hk:k<l.length) (h:p l[k]=true) (hJ:(l.take k).any p=false):Il l p=k:=by
 have:l.findIdx? p=some k:=by rw[List.findIdx?_eq_some_iff_getElem];refine⟨hk,h,λj hj=>?_⟩;have hn:=xN.1 hJ l[j] (List.mem_take_iff_getElem.2 ⟨j,by omega,rfl⟩);simpa using hn
 simp[Il,this]
theorem Lt {α:Type}{l:List α}{p:α->Bool}(hJ:l.any p=false):Il l p=-1:=by
 have:l.findIdx? p=none:=by rw[List.findIdx?_eq_none_iff];intro x hx;have:=xN.1 hJ x hx;simpa using this
 simp[Il,this]
theorem Q1a {α:Type}(l:List α) (p:α->Bool):(decide (Il l p>=0))=l.any p:=by
 cases h:l.any p with
 |false=>rw[Lt h];rfl
 |true =>
  have:(l.findIdx? p).isSome=true:=by rw[List.findIdx?_isSome,h]
  obtain⟨i,hi⟩:=Option.isSome_iff_exists.1 this;have e:Il l p=(i:Int):=by simp[Il,hi]
  rw[e];exact xA (Int.natCast_nonneg i)
def TD:Nat->Nat->Nat
 |0,_=>0
 |h+1,n=>2*TD h n+(n / 2 ^ h) % 2
theorem Iu:∀ h n,TD h n<2 ^ h
 |0,_=>by simp[TD]
 |h+1,n=>by have:=Iu h n;have h2:(n / 2 ^ h) % 2<2:=xX _ (by omega);simp only[TD];rw[Nat.pow_succ];omega
theorem B_:∀ h n i,(TD h n).testBit i=(decide (i<h)&&n.testBit (h-1-i))
 |0,n,i=>by simp[TD]
 |h+1,n,0=>by simp only[TD];rw[Nat.testBit_zero,Nat.testBit_eq_decide_div_mod_eq];simp
 |h+1,n,i+1=>by have h2:(n / 2 ^ h) % 2<2:=xX _ (by omega);simp only[TD];rw[Nat.testBit_succ,show (2*TD h n+n / 2 ^ h % 2) / 2=TD h n by omega,B_ h n i];rw[show h+1-1-(i+1)=h-1-i by omega];congr 1;rw[decide_eq_decide];omega
def VP (s m x:Nat):Nat:=((x >>> s) &&& m) ||| ((x &&& m) <<< s)
theorem Q13 (s m x i:Nat):(VP s m x).testBit i=((x.testBit (s+i)&&m.testBit i)||(decide (s<=i)&&(x.testBit (i-s)&&m.testBit (i-s)))):=by unfold VP;rw[Nat.testBit_or,Nat.testBit_and,Nat.testBit_shiftRight,Nat.testBit_shiftLeft,Nat.testBit_and]
def VO (s i:Nat):Nat:=if i / s % 2=0 then i+s else i-s
def Z2x (s m:Nat):Bool:=(List.range 64).all λi=>m.testBit i==(i / s % 2==0)
theorem Sx {s m x i:Nat}(hs:s=1\/s=2\/s=4\/s=8\/s=16\/s=32) (hm:Z2x s m=true) (hx:x<2 ^ 64) (hi:i<64):(VP s m x).testBit i=x.testBit (VO s i):=by
 have rr:∀ j,j<64->m.testBit j=(j / s % 2==0):=λj hj=>by have:=z6.1 hm j (zr.2 hj);simpa using this
 have hb:∀ j,64<=j->x.testBit j=false:=λj hj=>Nat.testBit_lt_two_pow (x8 hx (Nat.pow_le_pow_right (by omega) hj));rw[Q13,rr i hi];unfold VO;by_cases h0:i / s % 2=0
 .rw[z0 h0,h0];simp only[beq_self_eq_true,xT];have hz:(decide (s<=i)&&(x.testBit (i-s)&&m.testBit (i-s)))=false:=by
   by_cases h1:s<=i
   .rw[rr (i-s) (by omega)];have:¬ ((i-s) / s % 2=0):=by rcases hs with rfl|rfl|rfl|rfl|rfl|rfl<;>omega
    simp[this]
   .simp[h1]
  rw[hz,xU,xP]
 .rw[z1 h0];have h1:s<=i:=by rcases hs with rfl|rfl|rfl|rfl|rfl|rfl<;>omega
  have h2:(i-s) / s % 2=0:=by rcases hs with rfl|rfl|rfl|rfl|rfl|rfl<;>omega
  rw[rr (i-s) (by omega),h2];simp[h0,h1]
theorem Nz {s m x:Nat}(hs:s=1\/s=2\/s=4\/s=8\/s=16\/s=32) (hx:x<2 ^ 64) (hm:m<2 ^ (64-s)):VP s m x<2 ^ 64:=by
 unfold VP;refine Nat.or_lt_two_pow ?_ ?_
 .exact xE Nat.and_le_left (xE (by rw[xR];exact Nat.div_le_self _ _) hx)
 .have h1:x &&& m<2 ^ (64-s):=xE Nat.and_le_right hm;rw[Nat.shiftLeft_eq];have h2:2 ^ 64=2 ^ (64-s)*2 ^ s:=by rw[<-Nat.pow_add];congr 1;omega
  rw[h2];exact Nat.mul_lt_mul_of_pos_right h1 (Nat.two_pow_pos s)
def Q9w (x:Nat):Nat:=VP 4 1085102592571150095 (VP 2 3689348814741910323 (VP 1 6148914691236517205 x))
def Q0o (x:Nat):Nat:=(VP 16 281470681808895 (VP 8 71777214294589695 x)) >>> 32 ||| ((VP 16 281470681808895 (VP 8 71777214294589695 x)) <<< 32) % 2 ^ 64
theorem Ak {x i:Nat}(hx:x<2 ^ 64) (hi:i<64):(Q9w x).testBit i=x.testBit (VO 1 (VO 2 (VO 4 i)))/\Q9w x<2 ^ 64:=by
 have b1:VP 1 6148914691236517205 x<2 ^ 64:=Nz (.inl rfl) hx (by decide);have b2:VP 2 3689348814741910323 (VP 1 6148914691236517205 x)<2 ^ 64:=Nz (.inr (.inl rfl)) b1 (by decide);have b3:=Nz (s:=4) (m:=1085102592571150095) (by omega) b2 (by decide);refine⟨?_,b3⟩;unfold Q9w;have e4:VO 4 i<64:=by unfold VO;split<;>omega
 have e2:VO 2 (VO 4 i)<64:=by generalize VO 4 i=j at e4;unfold VO;split<;>omega
 rw[Sx (by omega) (by decide) b2 hi,Sx (by omega) (by decide) b1 e4,Sx (by omega) (by decide) hx e2]
theorem Q0e {x i:Nat}(hx:x<2 ^ 64) (hi:i<64):(Q0o x).testBit i=x.testBit (VO 8 (VO 16 (VO 32 i))):=by
 have b1:VP 8 71777214294589695 x<2 ^ 64:=Nz (by omega) hx (by decide);have b2:VP 16 281470681808895 (VP 8 71777214294589695 x)<2 ^ 64:=Nz (by omega) b1 (by decide);have uL:(Q0o x).testBit i=(VP 16 281470681808895 (VP 8 71777214294589695 x)).testBit (VO 32 i):=by
  unfold Q0o;generalize VP 16 281470681808895 (VP 8 71777214294589695 x)=y at b2;rw[Nat.testBit_or,Nat.testBit_shiftRight,Nat.testBit_mod_two_pow,Nat.testBit_shiftLeft];unfold VO;by_cases h:i / 32 % 2=0
  .rw[z0 h,xP];have:¬ 32<=i:=by omega
   simp[this]
  .rw[z1 h];have h1:32<=i:=by omega
   have h2:y.testBit (32+i)=false:=Nat.testBit_lt_two_pow (x8 b2 (Nat.pow_le_pow_right (by omega) (by omega)));rw[h2];simp[h1,hi]
 have pN:VO 32 i<64:=by unfold VO;split<;>omega
 have di:VO 16 (VO 32 i)<64:=by generalize VO 32 i=j at pN;unfold VO;split<;>omega
 rw[uL,Sx (by omega) (by decide) b1 pN,Sx (by omega) (by decide) hx di]
theorem Q5o {x:Nat}(hx:x<2 ^ 64):Q0o x<2 ^ 64:=by unfold Q0o;have b1:VP 8 71777214294589695 x<2 ^ 64:=Nz (by omega) hx (by decide);have b2:VP 16 281470681808895 (VP 8 71777214294589695 x)<2 ^ 64:=Nz (by omega) b1 (by decide);refine Nat.or_lt_two_pow (xE (by rw[xR];exact Nat.div_le_self _ _) b2) (xX _ (by decide))
theorem Q62:∀ i,i<64->VO 1 (VO 2 (VO 4 (VO 8 (VO 16 (VO 32 i)))))=63-i:=by decide
theorem Z2y {x:Nat}(hx:x<2 ^ 64):Q0o (Q9w x)=TD 64 x:=by
 refine Nat.eq_of_testBit_eq λi=>?_;have h8:=(Ak (i:=0) hx (by omega)).2;rw[B_];by_cases hi:i<64
 .rw[Q0e h8 hi];have pN:VO 32 i<64:=by unfold VO;split<;>omega
  have di:VO 16 (VO 32 i)<64:=by generalize VO 32 i=j at pN;unfold VO;split<;>omega
  have e8:VO 8 (VO 16 (VO 32 i))<64:=by generalize VO 16 (VO 32 i)=j at di;unfold VO;split<;>omega
  rw[(Ak hx e8).1,Q62 i hi];simp[hi]
 .rw[Nat.testBit_lt_two_pow (x8 (Q5o h8) (Nat.pow_le_pow_right (by omega) (by omega)))];simp[hi]
theorem EG {f n:Nat}(hf:f<=64) (hn:n<2 ^ f):TD 64 n >>> (64-f)=TD f n:=by
 refine Nat.eq_of_testBit_eq λi=>?_;rw[Nat.testBit_shiftRight,B_,B_];by_cases hi:i<f
 .rw[xA hi,xA (show 64-f+i<64 by omega),Bool.true_and,Bool.true_and];congr 1;omega
 .rw[xO hi,xO (show ¬ 64-f+i<64 by omega)];rfl
theorem Q1h {x:Nat}(hx:x<2 ^ 64):(BitVec.ofInt 64 (x:Int)).toNat=x:=by rw[Oq,BitVec.toNat_ofNat,xq hx]
theorem Q5n (x:Nat):IntKind.wrap .u64 (x:Int)=((x % 2 ^ 64:Nat):Int):=by show (x:Int) % 18446744073709551616=_;omega
theorem Z4x {a b:Nat}(ha:a<2 ^ 64) (hb:b<2 ^ 64):Q7 .and .u64 (a:Int) (b:Int)=((a &&& b:Nat):Int):=by
 have e:(BitVec.ofInt 64 (a:Int) &&& BitVec.ofInt 64 (b:Int)).toNat=a &&& b:=by rw[BitVec.toNat_and,Q1h ha,Q1h hb]
 show IntKind.wrap .u64 ((BitVec.ofInt 64 (a:Int) &&& BitVec.ofInt 64 (b:Int)).toNat:Int)=_;rw[e,Q5n,xq (xE Nat.and_le_left ha)]
theorem orU {a b:Nat}(ha:a<2 ^ 64) (hb:b<2 ^ 64):Q7 .or .u64 (a:Int) (b:Int)=((a ||| b:Nat):Int):=by
 have e:(BitVec.ofInt 64 (a:Int) ||| BitVec.ofInt 64 (b:Int)).toNat=a ||| b:=by rw[BitVec.toNat_or,Q1h ha,Q1h hb]
 show IntKind.wrap .u64 ((BitVec.ofInt 64 (a:Int) ||| BitVec.ofInt 64 (b:Int)).toNat:Int)=_;rw[e,Q5n,xq (Nat.or_lt_two_pow ha hb)]
theorem Z2b {x i:Nat}(hi:i<=64):Z9 .u64 (x:Int) (i:Int)=((x >>> i:Nat):Int):=by have:Nat.min i 64=i:=xS hi;simp only[Z9,zz,IntKind.bits,this];rw[xR,Int.fdiv_eq_ediv_of_nonneg _ (Int.le_of_lt (Int.pow_pos (by omega)))];norm_cast
theorem Z5a {x i:Nat}(hi:i<=64):Xg .u64 (x:Int) (i:Int)=((x <<< i:Nat):Int):=by have:Nat.min i 64=i:=xS hi;simp only[Xg,zz,IntKind.bits,this,Nat.shiftLeft_eq];norm_cast
theorem Q8v {s m x:Nat}(hs:s=1\/s=2\/s=4\/s=8\/s=16\/s=32) (hx:x<2 ^ 64) (hm:m<2 ^ (64-s)) :
  Q7 .or .u64 (Q7 .and .u64 (Z9 .u64 (x:Int) (s:Int)) (m:Int)) (Xg .u64 (Q7 .and .u64 (x:Int) (m:Int)) (s:Int))=((VP s m x:Nat):Int)/\InK .u64 (Xg .u64 (Q7 .and .u64 (x:Int) (m:Int)) (s:Int))/\VP s m x<2 ^ 64:=by
 have oP:m<2 ^ 64:=x8 hm (Nat.pow_le_pow_right (by omega) (by omega));have bB:x >>> s<2 ^ 64:=xE (by rw[xR];exact Nat.div_le_self _ _) hx;have hl:(x &&& m) <<< s<2 ^ 64:=by
  have h1:x &&& m<2 ^ (64-s):=xE Nat.and_le_right hm;rw[Nat.shiftLeft_eq];have h2:2 ^ 64=2 ^ (64-s)*2 ^ s:=by rw[<-Nat.pow_add];congr 1;omega
  rw[h2];exact Nat.mul_lt_mul_of_pos_right h1 (Nat.two_pow_pos s)
 rw[Z2b (by omega),Z4x bB oP,Z4x hx oP,Z5a (by omega),orU (xE Nat.and_le_left bB) hl];refine⟨rfl,?_,Nz hs hx hm⟩;rw[Pw];generalize (x &&& m) <<< s=z at hl;omega
theorem sw1 {x:Nat}(hx:x<2 ^ 64):Q7 .or .u64 (Q7 .and .u64 (Z9 .u64 (x:Int) 1) 6148914691236517205) (Xg .u64 (Q7 .and .u64 (x:Int) 6148914691236517205) 1)=((VP 1 6148914691236517205 x:Nat):Int)/\InK .u64 (Xg .u64 (Q7 .and .u64 (x:Int) 6148914691236517205) 1)/\VP 1 6148914691236517205 x<2 ^ 64:=Q8v (s:=1) (m:=6148914691236517205) (by omega) hx (by decide)
theorem sw2 {x:Nat}(hx:x<2 ^ 64):Q7 .or .u64 (Q7 .and .u64 (Z9 .u64 (x:Int) 2) 3689348814741910323) (Xg .u64 (Q7 .and .u64 (x:Int) 3689348814741910323) 2)=((VP 2 3689348814741910323 x:Nat):Int)/\InK .u64 (Xg .u64 (Q7 .and .u64 (x:Int) 3689348814741910323) 2)/\VP 2 3689348814741910323 x<2 ^ 64:=Q8v (s:=2) (m:=3689348814741910323) (by omega) hx (by decide)
theorem sw4 {x:Nat}(hx:x<2 ^ 64):Q7 .or .u64 (Q7 .and .u64 (Z9 .u64 (x:Int) 4) 1085102592571150095) (Xg .u64 (Q7 .and .u64 (x:Int) 1085102592571150095) 4)=((VP 4 1085102592571150095 x:Nat):Int)/\InK .u64 (Xg .u64 (Q7 .and .u64 (x:Int) 1085102592571150095) 4)/\VP 4 1085102592571150095 x<2 ^ 64:=Q8v (s:=4) (m:=1085102592571150095) (by omega) hx (by decide)
theorem sw8 {x:Nat}(hx:x<2 ^ 64):Q7 .or .u64 (Q7 .and .u64 (Z9 .u64 (x:Int) 8) 71777214294589695) (Xg .u64 (Q7 .and .u64 (x:Int) 71777214294589695) 8)=((VP 8 71777214294589695 x:Nat):Int)/\InK .u64 (Xg .u64 (Q7 .and .u64 (x:Int) 71777214294589695) 8)/\VP 8 71777214294589695 x<2 ^ 64:=Q8v (s:=8) (m:=71777214294589695) (by omega) hx (by decide)
theorem Z5i {x:Nat}(hx:x<2 ^ 64):Q7 .or .u64 (Q7 .and .u64 (Z9 .u64 (x:Int) 16) 281470681808895) (Xg .u64 (Q7 .and .u64 (x:Int) 281470681808895) 16)=((VP 16 281470681808895 x:Nat):Int)/\InK .u64 (Xg .u64 (Q7 .and .u64 (x:Int) 281470681808895) 16)/\VP 16 281470681808895 x<2 ^ 64:=Q8v (s:=16) (m:=281470681808895) (by omega) hx (by decide)
theorem Z5j {x:Nat}(hx:x<2 ^ 64):Q7 .or .u64 (Z9 .u64 (x:Int) 32) (IntKind.wrap .u64 (Xg .u64 (x:Int) 32))=((x >>> 32 ||| (x <<< 32) % 2 ^ 64:Nat):Int):=by have h1:Z9 .u64 (x:Int) 32=((x >>> 32:Nat):Int):=Z2b (i:=32) (by omega);have h2:Xg .u64 (x:Int) 32=((x <<< 32:Nat):Int):=Z5a (i:=32) (by omega);rw[h1,h2,Q5n,orU (xE (by rw[xR];exact Nat.div_le_self _ _) hx) (xX _ (by decide))]
abbrev VQ:=Int×Int×Bool
def BC:VQ:=(0,(0,false))
def Zh (hk:Int) (c:VQ):Bool:=inI c.1 (-1) 59&&inI c.2.1 0 (2 ^ hk.toNat-1)
def QQ (hk:Int) (cs:List VQ):Int:=if !inI hk 1 24 then 3 else if 60<cs.length then 5 else if cs=[]\/(cs.any λc=>!Zh hk c)=true then 2 else 0
def Q92 (f row:Int):Int:=((TD f.toNat row.toNat:Nat):Int)
def Cg (hk:Int) (c:VQ):Int:=if c.2.2 then Q92 hk c.2.1 else c.2.1
theorem Q2r {n a b:Int}(h:(!inI n a b)=false):a<=n/\n<=b:=by unfold inI at h;simp at h;omega
theorem Z5m {k:Nat}(h:k<=62):Xg .i64 1 (k:Int)=((2 ^ k:Nat):Int):=by have:=Q6a (x:=1) (i:=k) (by omega);rw[Nat.shiftLeft_eq,xD] at this;exact this
theorem CC (k:Nat):(2:Int) ^ k=((2 ^ k:Nat):Int):=by simp
theorem Z07 {k:Nat}(h:k<=24):0<2 ^ k/\2 ^ k<=16777216:=⟨Nat.two_pow_pos k,Nat.pow_le_pow_right (n:=2) (by omega) h⟩
theorem ED {f:Int}{c:VQ}(h:Zh f c=true):0<=c.2.1/\c.2.1<2 ^ f.toNat:=by unfold Zh inI at h;simp only[z2,zi] at h;omega
theorem Q1j {hk:Int}{cs:List VQ}(h1:(!inI hk 1 24)=false) (h2:cs.length<=60) (h3:(!(!cs.isEmpty&&!(cs.any λc=>!Zh hk c)))=true):QQ hk cs=2:=by unfold QQ;rw[z1 (by rw[h1];decide),z1 (by omega),z0];simp only[Bool.not_and,Bool.not_not,zp,List.isEmpty_iff] at h3;exact h3
theorem Oc {hk:Int}{cs:List VQ}(h1:(!inI hk 1 24)=false) (h2:cs.length<=60) (h3:(!(!cs.isEmpty&&!(cs.any λc=>!Zh hk c)))=false):QQ hk cs=0/\cs≠[]/\∀ c∈cs,Zh hk c=true:=by
 simp only[Bool.not_and,Bool.not_not,Bool.or_eq_false_iff] at h3;have av:cs≠[]:=λe=>by rw[e] at h3;cases h3.1
 refine⟨?_,av,λc hc=>?_⟩
 .unfold QQ;rw[z1 (by rw[h1];decide),z1 (by omega),z1];rintro (h|h)
  .exact av h
  .rw[h3.2] at h;cases h
 .have:=xN.1 h3.2 c hc;simpa using this
theorem No {hk:Int}{cs:List VQ}(h:QQ hk cs=0):(1<=hk/\hk<=24)/\cs.length<=60/\cs≠[]/\∀ c∈cs,Zh hk c=true:=by
 unfold QQ at h;split at h
 .cases h
 .rename_i h1;have h1:(!inI hk 1 24)=false:=by simpa using h1
  split at h
  .cases h
  .split at h
   .cases h
   .rename_i h2 h3;refine⟨Q2r h1,by omega,λe=>h3 (.inl e),λc hc=>?_⟩;cases au:Zh hk c with
    |true=>rfl
    |false=>exact(h3 (.inr (xi.2 ⟨c,hc,by rw[au];rfl⟩))).elim
def J_:AL (List Int×((Int->Prop)×(Int->Bool))):=(.cons (.k (.list (.i .i64))) (.one (.fn [(.i .i64)] .bo)))
def YY (d:List Int×((Int->Prop)×(Int->Bool))):Prop:=d.1.length<=1000000/\∀ x∈d.1,d.2.1 x
def JJ (d:List Int×((Int->Prop)×(Int->Bool))):SV:=.val (.i .i64) (OH d.1 d.2.2)
def JK (d:List Int×((Int->Prop)×(Int->Bool))):List OB:=[]
def ZK:CSp:=N2 J_ YY JJ JK
def QR (l:List Int) (p:(Int->Prop)×(Int->Bool)):Prop :=
 ∃ (e2:Unit) (d20:Int),((l=l/\(SV.pf [(.i .i64)] .bo p.1 p.2=SV.pf [(.i .i64)] .bo p.1 p.2)/\(lI l)=(lI l)/\(0:Int)=d20/\True)/\(True)) /\
 LoopP (λ(d2:Int) (q2:(Int)->Prop) =>
  ((decide (d2<(lI l)))=true ->
   (0<=d2)/\(d2<(List.length l))/\(p.1 (gD l d2 0))/\((p.2 (gD l d2 0))=true ->
    (d2=(OH l p.2)/\(True))) /\
   ((p.2 (gD l d2 0))=false ->
    (I64 (d2+(1:Int)))/\(∃ d3:Int,((l=l/\(SV.pf [(.i .i64)] .bo p.1 p.2=SV.pf [(.i .i64)] .bo p.1 p.2)/\(lI l)=(lI l)/\(d2+(1:Int))=d3/\True)/\(True))/\q2 d3))) /\
  ((decide (d2<(lI l)))=false ->
   ((-1:Int)=(OH l p.2)/\(True)))) d20
def JN:Cx:=⟨[],[],19,[],0,[],[],[],[],false,[],[],[],[]⟩
def Kb (l:List Int) (p:(Int->Prop)×(Int->Bool)):List (Nat×LoopAnn):=[(0,⟨Unit,Int,[0,1,7,8],λe x=>[.val (.list (.i .i64)) l,.pf [(.i .i64)] .bo p.1 p.2,.val (.i .i64) (((List.length l):Nat):Int),.val (.i .i64) x],λe x=>[]⟩)]
theorem Ku (d:List Int×((Int->Prop)×(Int->Bool))):gwp (JN) (Kb d.1 d.2) Z1j 0 (Nu [.tmp 4] (JJ d) (JK d)) (Q_ 19 (AL.can J_ d))=QR d.1 d.2:=by kernel_rfl
abbrev Kv:Prop:=OkC Tryz.prog 142 ZK
theorem K3 (h:∀ (l:List Int) (p:(Int->Prop)×(Int->Bool)),(l.length<=1000000/\∀ x∈l,p.1 x)->QR l p):OkC Tryz.prog 142 ZK :=
 Zn FX mixed (C:=JN) (V:=λ(d:List Int×((Int->Prop)×(Int->Bool)))=>QR d.1 d.2) ⟨.nil,XsOk.nil,ItsOk.nil,YlOk.nil,IysOk.nil,XfOk.nil⟩ (Ku) λd hp=>h d.1 d.2 hp
theorem OE {l:List Int}{p:Int->Bool}{k:Nat}(hk:k<l.length) (h:p l[k]=true) (hJ:(l.take k).any p=false):OH l p=k:=by
 have:l.findIdx? p=some k:=by rw[List.findIdx?_eq_some_iff_getElem];refine⟨hk,h,λj hj=>?_⟩;have hn:=xN.1 hJ l[j] (List.mem_take_iff_getElem.2 ⟨j,by omega,rfl⟩);simpa using hn
 simp[OH,this]
theorem FC {l:List Int}{p:Int->Bool}(hJ:l.any p=false):OH l p=-1:=by
 have:l.findIdx? p=none:=by rw[List.findIdx?_eq_none_iff];intro x hx;have:=xN.1 hJ x hx;simpa using this
 simp[OH,this]
theorem C3 (l:List Int) (p:Int->Bool):decide (OH l p>=0)=l.any p:=by
 unfold OH;cases h:l.findIdx? p with
 |none =>
  have:=List.findIdx?_eq_none_iff.1 h;have:l.any p=false:=by rw[xN];intro x hx;simp[this x hx]
  rw[this];rfl
 |some i =>obtain⟨h1,h2,_⟩:=List.findIdx?_eq_some_iff_getElem.1 h;rw[xi.2 ⟨l[i],zn h1,h2⟩];simp
theorem K8:Kv:=K3 λl p hp=>by
 unfold QR;(try delta lI gD sT I64 Xz pj8 pj4);simp only[true_and,and_true,exists_eq_left',exists_const,zi,wg];refine LoopP.count l.length (λk=>(l.take k).any p.2=false) (by simp) λk bu hJ q hq=>?_;simp only[zz,Int.ofNat_lt,Qh];refine⟨λah=>?_,λbw=>?_⟩
 .rw[Qg ah];refine⟨by omega,ah,hp.2 _ (zn ah),λhx=>?_,λhx=>⟨by omega,hq ah ?_⟩⟩
  .rw[OE ah hx hJ]
  .rw[N_ ah,List.any_append,hJ];simp[hx]
 .rw[zD (by omega)] at hJ;rw[FC hJ]
def Jg:AL (List Int×((Int->Prop)×(Int->Bool))):=(.cons (.k (.list (.i .i64))) (.one (.fn [(.i .i64)] .bo)))
def Y0 (d:List Int×((Int->Prop)×(Int->Bool))):Prop:=d.1.length<=1000000/\∀ x∈d.1,d.2.1 x
def Ja (d:List Int×((Int->Prop)×(Int->Bool))):SV:=.val .bo (d.1.any d.2.2)
def J9 (d:List Int×((Int->Prop)×(Int->Bool))):List OB:=[]
def QK:CSp:=N2 Jg Y0 Ja J9
def Z4 (l:List Int) (p:(Int->Prop)×(Int->Bool)):Prop :=
 (l.length<=1000000/\∀ x∈l,(λ(x1:Int)=>p.1 x1) x)/\((decide ((OH l (λ(x1:Int)=>(p.2 x1)))>=(0:Int)))=(l.any p.2)/\(True))
def Jh:Cx:=⟨[],[(142,ZK)],9,[],0,[],[],[],[],false,[],[],[],[]⟩
def Yn (l:List Int) (p:(Int->Prop)×(Int->Bool)):List (Nat×LoopAnn):=[]
theorem Yi (d:List Int×((Int->Prop)×(Int->Bool))):gwp (Jh) (Yn d.1 d.2) Z0m 0 (Nu [.tmp 4] (Ja d) (J9 d)) (Q_ 9 (AL.can Jg d))=Z4 d.1 d.2:=by kernel_rfl
abbrev Ym:Prop:=OkC Tryz.prog 113 QK
theorem Yo (h:∀ (l:List Int) (p:(Int->Prop)×(Int->Bool)),(l.length<=1000000/\∀ x∈l,p.1 x)->Z4 l p):OkC Tryz.prog 113 QK :=
 Zn OC mixed (C:=Jh) (V:=λ(d:List Int×((Int->Prop)×(Int->Bool)))=>Z4 d.1 d.2) ⟨(.cons K8 .nil),XsOk.nil,ItsOk.nil,YlOk.nil,IysOk.nil,XfOk.nil⟩ (Yi) λd hp=>h d.1 d.2 hp
theorem Jf:Ym:=Yo λl p hp=>by exact⟨hp,C3 l p.2,trivial⟩
def VF:AL (Int×Int×Int):=(.cons (.k (.i .i64)) (.cons (.ptr (.one (.k (.i .i64)))) (.one (.ptr (.one (.k (.i .i64)))))))
def GQ (d:Int×Int×Int):Prop:=True
def KR (d:Int×Int×Int):SV:=.val .bo (decide (d.1<d.2.1)||decide (d.2.2<d.1))
def KL (d:Int×Int×Int):List OB:=[]
def Yw:CSp:=N2 VF GQ KR KL
def X8 (n:Int) (a:Int) (b:Int):Prop :=
 (((decide (n<a))||(decide (n > b)))=(decide (n<a)||decide (b<n))/\(True))
def VL:Cx:=⟨[],[],13,[],0,[],[],[],[],false,[],[],[],[]⟩
def Dv (n:Int) (a:Int) (b:Int):List (Nat×LoopAnn):=[]
theorem DK (d:Int×Int×Int):gwp (VL) (Dv d.1 d.2.1 d.2.2) Z0y 0 (Nu [.tmp 4] (KR d) (KL d)) (Q_ 13 (AL.can VF d))=X8 d.1 d.2.1 d.2.2:=by kernel_rfl
abbrev D_:Prop:=OkC Tryz.prog 125 Yw
theorem DH (h:∀ (n:Int) (a:Int) (b:Int),(True)->X8 n a b):OkC Tryz.prog 125 Yw :=
 Zn FL mixed (C:=VL) (V:=λ(d:Int×Int×Int)=>X8 d.1 d.2.1 d.2.2) ⟨.nil,XsOk.nil,ItsOk.nil,YlOk.nil,IysOk.nil,XfOk.nil⟩ (DK) λd hp=>h d.1 d.2.1 d.2.2 hp
theorem DM:D_:=DH λn a b _=>by unfold X8;(try delta lI gD sT I64 Xz pj8 pj4);exact(by and_intros<;>first|rfl|trivial|simp)
def NT:AL (Int×Int×List Int):=(.cons (.k (.i .i64)) (.cons (.k (.i .i64)) (.one (.k (.list (.i .i64))))))
def BY (d:Int×Int×List Int):Prop:=d.2.2.length<=1000000
def Us (d:Int×Int×List Int):SV:=.val .bo (!(d.2.2.any λn=>decide (n<d.1)||decide (d.2.1<n)))
def UB (d:Int×Int×List Int):List OB:=[]
def JA:CSp:=N2 NT BY Us UB
def Wb (a:Int) (b:Int) (l:List Int):Prop :=
 (l.length<=1000000/\∀ x∈l,(λ(x1:Int)=>True) x)/\((!(l.any (λ(x1:Int)=>(decide (x1<a)||decide (b<x1)))))=(!(l.any λn=>decide (n<a)||decide (b<n)))/\(True))
def NJ:Cx:=⟨[],[(113,QK),(125,Yw)],11,[],0,[],[],[],[],false,[],[],[],[]⟩
def PQ (a:Int) (b:Int) (l:List Int):List (Nat×LoopAnn):=[]
theorem HZ (d:Int×Int×List Int):gwp (NJ) (PQ d.1 d.2.1 d.2.2) c88 0 (Nu [.tmp 6] (Us d) (UB d)) (Q_ 11 (AL.can NT d))=Wb d.1 d.2.1 d.2.2:=by kernel_rfl
abbrev PD:Prop:=OkC Tryz.prog 88 JA
theorem HC (h:∀ (a:Int) (b:Int) (l:List Int),(l.length<=1000000)->Wb a b l):OkC Tryz.prog 88 JA :=
 Zn Q54 mixed (C:=NJ) (V:=λ(d:Int×Int×List Int)=>Wb d.1 d.2.1 d.2.2) ⟨(.cons Jf (.cons DM .nil)),XsOk.nil,ItsOk.nil,YlOk.nil,IysOk.nil,XfOk.nil⟩ (HZ) λd hp=>h d.1 d.2.1 d.2.2 hp
theorem Wo:PD:=HC λa b l h=>by unfold Wb;(try delta lI gD sT I64 Xz pj8 pj4);exact⟨⟨h,λ_ _=>trivial⟩,rfl,trivial⟩
def WG:AL (Int):=(.one (.k (.i .i64)))
def Um (d:Int):Prop:=True
def Ws (d:Int):SV:=.val .bo (inI d 1 24)
def Wd (d:Int):List OB:=[]
def Z3:CSp:=N2 WG Um Ws Wd
def Zy (f:Int):Prop :=
 ([f].length<=1000000)/\((!([f].any λn=>decide (n<(1:Int))||decide ((24:Int)<n)))=(inI f 1 24)/\(True))
def WH:Cx:=⟨[(3,(.i .i64))],[(88,JA)],6,[],0,[],[],[],[],false,[],[],[],[]⟩
def UK (f:Int):List (Nat×LoopAnn):=[]
theorem N9 (d:Int):gwp (WH) (UK d) c87 0 (Nu [.tmp 2] (Ws d) (Wd d)) (Q_ 6 (AL.can WG d))=Zy d:=by kernel_rfl
abbrev UJ:Prop:=OkC Tryz.prog 87 Z3
theorem N4 (h:∀ (f:Int),(True)->Zy f):OkC Tryz.prog 87 Z3 :=
 Zn Q4n mixed (C:=WH) (V:=λ(d:Int)=>Zy d) ⟨(.cons Wo .nil),XsOk.nil,ItsOk.nil,YlOk.nil,IysOk.nil,XfOk.nil⟩ (N9) λd hp=>h d hp
theorem JB:UJ:=N4 λf _=>by unfold Zy;(try delta lI gD sT I64 Xz pj8 pj4);have e:∀ n a b:Int,(decide (n<a)||decide (b<n))=!inI n a b:=λn a b=>(nI n a b).symm;simp only[List.any_cons,List.any_nil,xU,e,Bool.not_not,zP,List.length_nil];exact⟨by omega,(by and_intros<;>first|rfl|trivial|simp)⟩
def WV:AL (Int×List Int):=(.cons (.k (.i .i64)) (.one (.k (.list (.i .i64)))))
def U0 (d:Int×List Int):Prop:=1<=d.1/\d.1<=24/\d.2.length<=1000000
def Wv (d:Int×List Int):SV:=.val .bo (!(d.2.any λn=>!inI n 0 (2 ^ d.1.toNat-1)))
def Wm (d:Int×List Int):List OB:=[]
def ZN:CSp:=N2 WV U0 Wv Wm
def Zu (f:Int) (l:List Int):Prop :=
 (0<=f)/\(I64 (Xg .i64 (1:Int) f))/\(I64 ((Xg .i64 (1:Int) f)-(1:Int)))/\(l.length<=1000000)/\((!(l.any λn=>decide (n<(0:Int))||decide (((Xg .i64 (1:Int) f)-(1:Int))<n)))=(!(l.any λn=>!inI n 0 (2 ^ f.toNat-1)))/\(True))
def WS:Cx:=⟨[],[(88,JA)],10,[],0,[],[],[],[],false,[],[],[],[]⟩
def US (f:Int) (l:List Int):List (Nat×LoopAnn):=[]
theorem UT (d:Int×List Int):gwp (WS) (US d.1 d.2) Z1a 0 (Nu [.tmp 4] (Wv d) (Wm d)) (Q_ 10 (AL.can WV d))=Zu d.1 d.2:=by kernel_rfl
abbrev UP:Prop:=OkC Tryz.prog 102 ZN
theorem N6 (h:∀ (f:Int) (l:List Int),(1<=f/\f<=24/\l.length<=1000000)->Zu f l):OkC Tryz.prog 102 ZN :=
 Zn O5 mixed (C:=WS) (V:=λ(d:Int×List Int)=>Zu d.1 d.2) ⟨(.cons Wo .nil),XsOk.nil,ItsOk.nil,YlOk.nil,IysOk.nil,XfOk.nil⟩ (UT) λd hp=>h d.1 d.2 hp
theorem WK:UP:=N6 λf l h=>by obtain⟨h1,h2,h3⟩:=h;unfold Zu;(try delta lI gD sT I64 Xz pj8 pj4);have e:∀ n a b:Int,(decide (n<a)||decide (b<n))=!inI n a b:=λn a b=>(nI n a b).symm;obtain⟨k,rfl⟩:=xm (show 0<=f by omega);have hs:=Z5m (k:=k) (by omega);have hp:=Z07 (k:=k) (by omega);simp only[hs,e,zz,CC];exact⟨by omega,by simp only[Qh];omega,by simp only[Qh];omega,h3,(by and_intros<;>first|rfl|trivial|simp)⟩
def JV:AL (Int):=(.one (.k (.i .u64)))
def YP (d:Int):Prop:=0<=d/\d<=18446744073709551615
def JD (d:Int):SV:=.val (.i .u64) ((Q0o d.toNat:Nat):Int)
def JM (d:Int):List OB:=[]
def ZJ:CSp:=N2 JV YP JD JM
def QS (x:Int):Prop :=
 (0<=(8:Int))/\(0<=(8:Int))/\(InK .u64 (Xg .u64 (Q7 .and .u64 x (71777214294589695:Int)) (8:Int)))/\(0<=(16:Int))/\(0<=(16:Int))/\(InK .u64 (Xg .u64 (Q7 .and .u64 (Q7 .or .u64 (Q7 .and .u64 (Z9 .u64 x (8:Int)) (71777214294589695:Int)) (Xg .u64 (Q7 .and .u64 x (71777214294589695:Int)) (8:Int))) (281470681808895:Int)) (16:Int)))/\(0<=(32:Int))/\(0<=(32:Int))/\((Q7 .or .u64 (Z9 .u64 (Q7 .or .u64 (Q7 .and .u64 (Z9 .u64 (Q7 .or .u64 (Q7 .and .u64 (Z9 .u64 x (8:Int)) (71777214294589695:Int)) (Xg .u64 (Q7 .and .u64 x (71777214294589695:Int)) (8:Int))) (16:Int)) (281470681808895:Int)) (Xg .u64 (Q7 .and .u64 (Q7 .or .u64 (Q7 .and .u64 (Z9 .u64 x (8:Int)) (71777214294589695:Int)) (Xg .u64 (Q7 .and .u64 x (71777214294589695:Int)) (8:Int))) (281470681808895:Int)) (16:Int))) (32:Int)) (IntKind.wrap .u64 (Xg .u64 (Q7 .or .u64 (Q7 .and .u64 (Z9 .u64 (Q7 .or .u64 (Q7 .and .u64 (Z9 .u64 x (8:Int)) (71777214294589695:Int)) (Xg .u64 (Q7 .and .u64 x (71777214294589695:Int)) (8:Int))) (16:Int)) (281470681808895:Int)) (Xg .u64 (Q7 .and .u64 (Q7 .or .u64 (Q7 .and .u64 (Z9 .u64 x (8:Int)) (71777214294589695:Int)) (Xg .u64 (Q7 .and .u64 x (71777214294589695:Int)) (8:Int))) (281470681808895:Int)) (16:Int))) (32:Int))))=((Q0o x.toNat:Nat):Int)/\(True))
def JR:Cx:=⟨[],[],22,[20],0,[],[],[],[],false,[],[],[],[]⟩
def KA (x:Int):List (Nat×LoopAnn):=[]
theorem Ko (d:Int):gwp (JR) (KA d) Z0x 0 (Nu [.tmp 2] (JD d) (JM d)) (Q_ 22 (AL.can JV d))=QS d:=by kernel_rfl
abbrev Kq:Prop:=OkC Tryz.prog 184 ZJ
theorem Ks (h:∀ (x:Int),(0<=x/\x<=18446744073709551615)->QS x):OkC Tryz.prog 184 ZJ :=
 Zn IT mixed (C:=JR) (V:=λ(d:Int)=>QS d) ⟨.nil,XsOk.nil,ItsOk.nil,YlOk.nil,IysOk.nil,XfOk.nil⟩ (Ko) λd hp=>h d hp
theorem KD:Kq:=Ks λx h=>by
 obtain⟨h1,h2⟩:=h;unfold QS;(try delta lI gD sT I64 Xz pj8 pj4);obtain⟨n,rfl⟩:=xm h1;have hn:n<2 ^ 64:=by omega
 obtain⟨a1,a2,a3⟩:=sw8 hn;obtain⟨b1,b2,b3⟩:=Z5i a3;have c1:=Z5j b3;simp only[a1,b1,c1,zz];refine⟨by omega,by omega,a2,by omega,by omega,b2,by omega,by omega,?_⟩;exact(by and_intros<;>first|rfl|trivial|simp)
def WE:AL (Int):=(.one (.k (.i .u64)))
def VU (d:Int):Prop:=0<=d/\d<=18446744073709551615
def W6 (d:Int):SV:=.val (.i .u64) ((TD 64 d.toNat:Nat):Int)
def We (d:Int):List OB:=[]
def JY:CSp:=N2 WE VU W6 We
def Zt (x:Int):Prop :=
 (0<=(1:Int))/\(0<=(1:Int))/\(InK .u64 (Xg .u64 (Q7 .and .u64 x (6148914691236517205:Int)) (1:Int)))/\(0<=(2:Int))/\(0<=(2:Int))/\(InK .u64 (Xg .u64 (Q7 .and .u64 (Q7 .or .u64 (Q7 .and .u64 (Z9 .u64 x (1:Int)) (6148914691236517205:Int)) (Xg .u64 (Q7 .and .u64 x (6148914691236517205:Int)) (1:Int))) (3689348814741910323:Int)) (2:Int)))/\(0<=(4:Int))/\(0<=(4:Int))/\(InK .u64 (Xg .u64 (Q7 .and .u64 (Q7 .or .u64 (Q7 .and .u64 (Z9 .u64 (Q7 .or .u64 (Q7 .and .u64 (Z9 .u64 x (1:Int)) (6148914691236517205:Int)) (Xg .u64 (Q7 .and .u64 x (6148914691236517205:Int)) (1:Int))) (2:Int)) (3689348814741910323:Int)) (Xg .u64 (Q7 .and .u64 (Q7 .or .u64 (Q7 .and .u64 (Z9 .u64 x (1:Int)) (6148914691236517205:Int)) (Xg .u64 (Q7 .and .u64 x (6148914691236517205:Int)) (1:Int))) (3689348814741910323:Int)) (2:Int))) (1085102592571150095:Int)) (4:Int)))/\(0<=(Q7 .or .u64 (Q7 .and .u64 (Z9 .u64 (Q7 .or .u64 (Q7 .and .u64 (Z9 .u64 (Q7 .or .u64 (Q7 .and .u64 (Z9 .u64 x (1:Int)) (6148914691236517205:Int)) (Xg .u64 (Q7 .and .u64 x (6148914691236517205:Int)) (1:Int))) (2:Int)) (3689348814741910323:Int)) (Xg .u64 (Q7 .and .u64 (Q7 .or .u64 (Q7 .and .u64 (Z9 .u64 x (1:Int)) (6148914691236517205:Int)) (Xg .u64 (Q7 .and .u64 x (6148914691236517205:Int)) (1:Int))) (3689348814741910323:Int)) (2:Int))) (4:Int)) (1085102592571150095:Int)) (Xg .u64 (Q7 .and .u64 (Q7 .or .u64 (Q7 .and .u64 (Z9 .u64 (Q7 .or .u64 (Q7 .and .u64 (Z9 .u64 x (1:Int)) (6148914691236517205:Int)) (Xg .u64 (Q7 .and .u64 x (6148914691236517205:Int)) (1:Int))) (2:Int)) (3689348814741910323:Int)) (Xg .u64 (Q7 .and .u64 (Q7 .or .u64 (Q7 .and .u64 (Z9 .u64 x (1:Int)) (6148914691236517205:Int)) (Xg .u64 (Q7 .and .u64 x (6148914691236517205:Int)) (1:Int))) (3689348814741910323:Int)) (2:Int))) (1085102592571150095:Int)) (4:Int)))/\(Q7 .or .u64 (Q7 .and .u64 (Z9 .u64 (Q7 .or .u64 (Q7 .and .u64 (Z9 .u64 (Q7 .or .u64 (Q7 .and .u64 (Z9 .u64 x (1:Int)) (6148914691236517205:Int)) (Xg .u64 (Q7 .and .u64 x (6148914691236517205:Int)) (1:Int))) (2:Int)) (3689348814741910323:Int)) (Xg .u64 (Q7 .and .u64 (Q7 .or .u64 (Q7 .and .u64 (Z9 .u64 x (1:Int)) (6148914691236517205:Int)) (Xg .u64 (Q7 .and .u64 x (6148914691236517205:Int)) (1:Int))) (3689348814741910323:Int)) (2:Int))) (4:Int)) (1085102592571150095:Int)) (Xg .u64 (Q7 .and .u64 (Q7 .or .u64 (Q7 .and .u64 (Z9 .u64 (Q7 .or .u64 (Q7 .and .u64 (Z9 .u64 x (1:Int)) (6148914691236517205:Int)) (Xg .u64 (Q7 .and .u64 x (6148914691236517205:Int)) (1:Int))) (2:Int)) (3689348814741910323:Int)) (Xg .u64 (Q7 .and .u64 (Q7 .or .u64 (Q7 .and .u64 (Z9 .u64 x (1:Int)) (6148914691236517205:Int)) (Xg .u64 (Q7 .and .u64 x (6148914691236517205:Int)) (1:Int))) (3689348814741910323:Int)) (2:Int))) (1085102592571150095:Int)) (4:Int)))<=18446744073709551615)/\(((Q0o (Q7 .or .u64 (Q7 .and .u64 (Z9 .u64 (Q7 .or .u64 (Q7 .and .u64 (Z9 .u64 (Q7 .or .u64 (Q7 .and .u64 (Z9 .u64 x (1:Int)) (6148914691236517205:Int)) (Xg .u64 (Q7 .and .u64 x (6148914691236517205:Int)) (1:Int))) (2:Int)) (3689348814741910323:Int)) (Xg .u64 (Q7 .and .u64 (Q7 .or .u64 (Q7 .and .u64 (Z9 .u64 x (1:Int)) (6148914691236517205:Int)) (Xg .u64 (Q7 .and .u64 x (6148914691236517205:Int)) (1:Int))) (3689348814741910323:Int)) (2:Int))) (4:Int)) (1085102592571150095:Int)) (Xg .u64 (Q7 .and .u64 (Q7 .or .u64 (Q7 .and .u64 (Z9 .u64 (Q7 .or .u64 (Q7 .and .u64 (Z9 .u64 x (1:Int)) (6148914691236517205:Int)) (Xg .u64 (Q7 .and .u64 x (6148914691236517205:Int)) (1:Int))) (2:Int)) (3689348814741910323:Int)) (Xg .u64 (Q7 .and .u64 (Q7 .or .u64 (Q7 .and .u64 (Z9 .u64 x (1:Int)) (6148914691236517205:Int)) (Xg .u64 (Q7 .and .u64 x (6148914691236517205:Int)) (1:Int))) (3689348814741910323:Int)) (2:Int))) (1085102592571150095:Int)) (4:Int))).toNat:Nat):Int)=((TD 64 x.toNat:Nat):Int)/\(True))
def WR:Cx:=⟨[],[(184,ZJ)],26,[],0,[],[],[],[],false,[],[],[],[]⟩
def U_ (x:Int):List (Nat×LoopAnn):=[]
theorem UO (d:Int):gwp (WR) (U_ d) Z0z 0 (Nu [.tmp 2] (W6 d) (We d)) (Q_ 26 (AL.can WE d))=Zt d:=by kernel_rfl
abbrev UH:Prop:=OkC Tryz.prog 153 JY
theorem N1 (h:∀ (x:Int),(0<=x/\x<=18446744073709551615)->Zt x):OkC Tryz.prog 153 JY :=
 Zn I3 mixed (C:=WR) (V:=λ(d:Int)=>Zt d) ⟨(.cons KD .nil),XsOk.nil,ItsOk.nil,YlOk.nil,IysOk.nil,XfOk.nil⟩ (UO) λd hp=>h d hp
theorem UQ:UH:=N1 λx h=>by
 obtain⟨h1,h2⟩:=h;unfold Zt;(try delta lI gD sT I64 Xz pj8 pj4);obtain⟨n,rfl⟩:=xm h1;have hn:n<2 ^ 64:=by omega
 obtain⟨a1,a2,a3⟩:=sw1 hn;obtain⟨b1,b2,b3⟩:=sw2 a3;obtain⟨c1,c2,c3⟩:=sw4 b3;have hr:=Z2y hn;have he:VP 4 1085102592571150095 (VP 2 3689348814741910323 (VP 1 6148914691236517205 n))=Q9w n:=rfl;simp only[a1,b1,c1,zz];rw[he,hr];rw[he] at c3;refine⟨by omega,by omega,a2,by omega,by omega,b2,by omega,by omega,c2,⟨by omega,by omega⟩,?_⟩;exact(by and_intros<;>first|rfl|trivial|simp)
def Yh:AL (Int×Int):=(.cons (.k (.i .i64)) (.one (.k (.i .i64))))
def N3 (d:Int×Int):Prop:=1<=d.1/\d.1<=24/\0<=d.2/\d.2<2 ^ d.1.toNat
def WT (d:Int×Int):SV:=.val (.i .i64) (Q92 d.1 d.2)
def WJ (d:Int×Int):List OB:=[]
def Xd:CSp:=N2 Yh N3 WT WJ
def ZP (f:Int) (r:Int):Prop :=
 (InK .u64 r)/\(0<=r/\r<=18446744073709551615)/\(InK .u64 f)/\(InK .u64 ((64:Int)-f))/\(0<=((64:Int)-f))/\(I64 (Z9 .u64 ((TD 64 r.toNat:Nat):Int) ((64:Int)-f)))/\((Z9 .u64 ((TD 64 r.toNat:Nat):Int) ((64:Int)-f))=(Q92 f r)/\(True))
def Yq:Cx:=⟨[],[(153,JY)],13,[],0,[],[],[],[],false,[],[],[],[]⟩
def M1 (f:Int) (r:Int):List (Nat×LoopAnn):=[]
theorem Nk (d:Int×Int):gwp (Yq) (M1 d.1 d.2) Z0s 0 (Nu [.tmp 4] (WT d) (WJ d)) (Q_ 13 (AL.can Yh d))=ZP d.1 d.2:=by kernel_rfl
abbrev NO:Prop:=OkC Tryz.prog 137 Xd
theorem NY (h:∀ (f:Int) (r:Int),(1<=f/\f<=24/\0<=r/\r<2 ^ f.toNat)->ZP f r):OkC Tryz.prog 137 Xd :=
 Zn Ib mixed (C:=Yq) (V:=λ(d:Int×Int)=>ZP d.1 d.2) ⟨(.cons UQ .nil),XsOk.nil,ItsOk.nil,YlOk.nil,IysOk.nil,XfOk.nil⟩ (Nk) λd hp=>h d.1 d.2 hp
theorem Ny:NO:=NY λf r h=>by
 obtain⟨h1,h2,h3,h4⟩:=h;unfold ZP;(try delta lI gD sT I64 Xz pj8 pj4);obtain⟨k,rfl⟩:=xm (show 0<=f by omega);obtain⟨n,rfl⟩:=xm h3;simp only[zz,CC] at h4;have hp:=Z07 (k:=k) (by omega);have h4:n<2 ^ k:=by omega
 have hs:Z9 .u64 ((TD 64 n:Nat):Int) (64-(k:Int))=((TD k n:Nat):Int):=by rw[show (64-(k:Int))=((64-k:Nat):Int) by omega,Z2b (by omega),EG (by omega) h4]
 have hl:=Iu k n;simp only[zz,hs];refine⟨by simp only[Pw];omega,⟨by omega,by omega⟩,by simp only[Pw];omega,by simp only[Pw];omega,by omega,by simp only[Qh];omega,?_⟩;exact⟨by unfold Q92;simp only[zz],trivial⟩
def Xo:AL ((Int×Int×Bool)×Int):=(.cons (.agg (.cons (.k (.i .i64)) (.cons (.k (.i .i64)) (.one (.k .bo))))) (.one (.ptr (.one (.k (.i .i64))))))
def KJ (d:(Int×Int×Bool)×Int):Prop:=1<=d.2/\d.2<=24
def Xb (d:(Int×Int×Bool)×Int):SV:=.val .bo (!Zh d.2 (d.1.1,(d.1.2.1,d.1.2.2)))
def Xa (d:(Int×Int×Bool)×Int):List OB:=[]
def J8:CSp:=N2 Xo KJ Xb Xa
def Z0 (cn:Int) (cr:Int) (ct:Bool) (f:Int):Prop :=
 ([cn].length<=1000000)/\((!(!([cn].any λn=>decide (n<(-1:Int))||decide ((59:Int)<n))))=false->True)/\((!(!([cn].any λn=>decide (n<(-1:Int))||decide ((59:Int)<n))))=false->1<=f/\f<=24/\[cr].length<=1000000)/\(((!(!([cn].any λn=>decide (n<(-1:Int))||decide ((59:Int)<n))))||(!(!([cr].any λn=>!inI n 0 (2 ^ f.toNat-1)))))=(!Zh f (cn,(cr,ct)))/\(True))
def Xn:Cx:=⟨[(3,(.i .i64))],[(88,JA),(102,ZN)],17,[],0,[],[],[],[],false,[],[],[],[]⟩
def Vf (cn:Int) (cr:Int) (ct:Bool) (f:Int):List (Nat×LoopAnn):=[]
theorem V9 (d:(Int×Int×Bool)×Int):gwp (Xn) (Vf d.1.1 d.1.2.1 d.1.2.2 d.2) Z0j 0 (Nu [.tmp 3] (Xb d) (Xa d)) (Q_ 17 (AL.can Xo d))=Z0 d.1.1 d.1.2.1 d.1.2.2 d.2:=by kernel_rfl
abbrev Vb:Prop:=OkC Tryz.prog 123 J8
theorem Va (h:∀ (cn:Int) (cr:Int) (ct:Bool) (f:Int),(1<=f/\f<=24)->Z0 cn cr ct f):OkC Tryz.prog 123 J8 :=
 Zn Og mixed (C:=Xn) (V:=λ(d:(Int×Int×Bool)×Int)=>Z0 d.1.1 d.1.2.1 d.1.2.2 d.2) ⟨(.cons Wo (.cons WK .nil)),XsOk.nil,ItsOk.nil,YlOk.nil,IysOk.nil,XfOk.nil⟩ (V9) λd hp=>h d.1.1 d.1.2.1 d.1.2.2 d.2 hp
theorem V8:Vb:=Va λcn cr ct f h=>by obtain⟨h1,h2⟩:=h;unfold Z0;(try delta lI gD sT I64 Xz pj8 pj4);have e:∀ n a b:Int,(decide (n<a)||decide (b<n))=!inI n a b:=λn a b=>(nI n a b).symm;simp only[List.any_cons,List.any_nil,xU,e,Bool.not_not,zP,List.length_nil];refine⟨by omega,λ_=>trivial,λ_=>⟨h1,h2,by omega⟩,?_⟩;unfold Zh;rw[Bool.not_and];exact(by and_intros<;>first|rfl|trivial|simp)
def QI:AL ((List (Int×Int×Bool))×((Int×Int×Bool->Prop)×(Int×Int×Bool->Bool))):=(.cons (.k (.list (.pair (.i .i64) (.pair (.i .i64) .bo)))) (.one (.fn [(.pair (.i .i64) (.pair (.i .i64) .bo))] .bo)))
def ZR (d:(List (Int×Int×Bool))×((Int×Int×Bool->Prop)×(Int×Int×Bool->Bool))):Prop:=d.1.length<=1000000/\∀ x∈d.1,d.2.1 x
def QF (d:(List (Int×Int×Bool))×((Int×Int×Bool->Prop)×(Int×Int×Bool->Bool))):SV:=.val (.i .i64) (Il d.1 d.2.2)
def QG (d:(List (Int×Int×Bool))×((Int×Int×Bool->Prop)×(Int×Int×Bool->Bool))):List OB:=[]
def Qm:CSp:=N2 QI ZR QF QG
def Qb (l:List (Int×Int×Bool)) (p:(Int×Int×Bool->Prop)×(Int×Int×Bool->Bool)):Prop :=
 ∃ (e2:Unit) (d20:Int),((l=l/\(SV.pf [(.pair (.i .i64) (.pair (.i .i64) .bo))] .bo p.1 p.2=SV.pf [(.pair (.i .i64) (.pair (.i .i64) .bo))] .bo p.1 p.2)/\(lI l)=(lI l)/\(0:Int)=d20/\True)/\(True)) /\
 LoopP (λ(d2:Int) (q2:(Int)->Prop) =>
  ((decide (d2<(lI l)))=true ->
   (0<=d2)/\(d2<(List.length l))/\(p.1 ((gD l d2 (0,(0,false))).1,((gD l d2 (0,(0,false))).2.1,(gD l d2 (0,(0,false))).2.2)))/\((p.2 ((gD l d2 (0,(0,false))).1,((gD l d2 (0,(0,false))).2.1,(gD l d2 (0,(0,false))).2.2)))=true ->
    (d2=(Il l p.2)/\(True))) /\
   ((p.2 ((gD l d2 (0,(0,false))).1,((gD l d2 (0,(0,false))).2.1,(gD l d2 (0,(0,false))).2.2)))=false ->
    (I64 (d2+(1:Int)))/\(∃ d3:Int,((l=l/\(SV.pf [(.pair (.i .i64) (.pair (.i .i64) .bo))] .bo p.1 p.2=SV.pf [(.pair (.i .i64) (.pair (.i .i64) .bo))] .bo p.1 p.2)/\(lI l)=(lI l)/\(d2+(1:Int))=d3/\True)/\(True))/\q2 d3))) /\
  ((decide (d2<(lI l)))=false ->
   ((-1:Int)=(Il l p.2)/\(True)))) d20
def QH:Cx:=⟨[],[],19,[],0,[],[],[],[],false,[],[],[],[]⟩
def ZS (l:List (Int×Int×Bool)) (p:(Int×Int×Bool->Prop)×(Int×Int×Bool->Bool)):List (Nat×LoopAnn):=[(0,⟨Unit,Int,[0,1,7,8],λe x=>[.val (.list (.pair (.i .i64) (.pair (.i .i64) .bo))) l,.pf [(.pair (.i .i64) (.pair (.i .i64) .bo))] .bo p.1 p.2,.val (.i .i64) (((List.length l):Nat):Int),.val (.i .i64) x],λe x=>[]⟩)]
theorem ZY (d:(List (Int×Int×Bool))×((Int×Int×Bool->Prop)×(Int×Int×Bool->Bool))):gwp (QH) (ZS d.1 d.2) Z10 0 (Nu [.tmp 4] (QF d) (QG d)) (Q_ 19 (AL.can QI d))=Qb d.1 d.2:=by kernel_rfl
abbrev ZV:Prop:=OkC Tryz.prog 148 Qm
theorem ZW (h:∀ (l:List (Int×Int×Bool)) (p:(Int×Int×Bool->Prop)×(Int×Int×Bool->Bool)),(l.length<=1000000/\∀ x∈l,p.1 x)->Qb l p):OkC Tryz.prog 148 Qm :=
 Zn Od mixed (C:=QH) (V:=λ(d:(List (Int×Int×Bool))×((Int×Int×Bool->Prop)×(Int×Int×Bool->Bool)))=>Qb d.1 d.2) ⟨.nil,XsOk.nil,ItsOk.nil,YlOk.nil,IysOk.nil,XfOk.nil⟩ (ZY) λd hp=>h d.1 d.2 hp
theorem ZU:ZV:=ZW λl p hp=>by
 unfold Qb;(try delta lI gD sT I64 Xz pj8 pj4);simp only[true_and,and_true,exists_eq_left',exists_const,zi,wg];refine LoopP.count l.length (λk=>(l.take k).any p.2=false) (by simp) λk bu hJ q hq=>?_;simp only[zz,Int.ofNat_lt,Qh];refine⟨λah=>?_,λbw=>?_⟩
 .have ah:k<l.length:=by omega
  rw[Qg ah];refine⟨by omega,by omega,hp.2 _ (zn ah),λhx=>?_,λhx=>⟨by omega,hq ah ?_⟩⟩
  .rw[Ik ah hx hJ]
  .rw[N_ ah,List.any_append,hJ];simp[hx]
 .rw[zD (by omega)] at hJ;rw[Lt hJ]
def QD:AL ((List (Int×Int×Bool))×((Int×Int×Bool->Prop)×(Int×Int×Bool->Bool))):=(.cons (.k (.list (.pair (.i .i64) (.pair (.i .i64) .bo)))) (.one (.fn [(.pair (.i .i64) (.pair (.i .i64) .bo))] .bo)))
def Zl (d:(List (Int×Int×Bool))×((Int×Int×Bool->Prop)×(Int×Int×Bool->Bool))):Prop:=d.1.length<=1000000/\∀ x∈d.1,d.2.1 x
def QA (d:(List (Int×Int×Bool))×((Int×Int×Bool->Prop)×(Int×Int×Bool->Bool))):SV:=.val .bo (d.1.any d.2.2)
def QB (d:(List (Int×Int×Bool))×((Int×Int×Bool->Prop)×(Int×Int×Bool->Bool))):List OB:=[]
def Qj:CSp:=N2 QD Zl QA QB
def Q9 (l:List (Int×Int×Bool)) (p:(Int×Int×Bool->Prop)×(Int×Int×Bool->Bool)):Prop :=
 (l.length<=1000000/\∀ x∈l,(λ(x1:Int×Int×Bool)=>p.1 (x1.1,(x1.2.1,x1.2.2))) x)/\((decide ((Il l (λ(x1:Int×Int×Bool)=>(p.2 (x1.1,(x1.2.1,x1.2.2)))))>=(0:Int)))=(l.any p.2)/\(True))
def QE:Cx:=⟨[],[(148,Qm)],9,[],0,[],[],[],[],false,[],[],[],[]⟩
def ZD (l:List (Int×Int×Bool)) (p:(Int×Int×Bool->Prop)×(Int×Int×Bool->Bool)):List (Nat×LoopAnn):=[]
theorem ZC (d:(List (Int×Int×Bool))×((Int×Int×Bool->Prop)×(Int×Int×Bool->Bool))):gwp (QE) (ZD d.1 d.2) Z12 0 (Nu [.tmp 4] (QA d) (QB d)) (Q_ 9 (AL.can QD d))=Q9 d.1 d.2:=by kernel_rfl
abbrev ZA:Prop:=OkC Tryz.prog 124 Qj
theorem ZB (h:∀ (l:List (Int×Int×Bool)) (p:(Int×Int×Bool->Prop)×(Int×Int×Bool->Bool)),(l.length<=1000000/\∀ x∈l,p.1 x)->Q9 l p):OkC Tryz.prog 124 Qj :=
 Zn FN mixed (C:=QE) (V:=λ(d:(List (Int×Int×Bool))×((Int×Int×Bool->Prop)×(Int×Int×Bool->Bool)))=>Q9 d.1 d.2) ⟨(.cons ZU .nil),XsOk.nil,ItsOk.nil,YlOk.nil,IysOk.nil,XfOk.nil⟩ (ZC) λd hp=>h d.1 d.2 hp
theorem ZE:ZA:=ZB λl p hp=>by simp only[Q9];exact⟨hp,Q1a l p.2,trivial⟩
def Wt:AL (Int×List (Int×Int×Bool)):=(.cons (.k (.i .i64)) (.one (.k (.list (.pair (.i .i64) (.pair (.i .i64) .bo))))))
def Vi (d:Int×List (Int×Int×Bool)):Prop:=1<=d.1/\d.1<=24/\d.2.length<=1000000
def XV (d:Int×List (Int×Int×Bool)):SV:=.val .bo (!d.2.isEmpty&&!(d.2.any λc=>!Zh d.1 c))
def XT (d:Int×List (Int×Int×Bool)):List OB:=[]
def QX:CSp:=N2 Wt Vi XV XT
def Zd (f:Int) (cs:List (Int×Int×Bool)):Prop :=
 ((decide ((lI cs) > (0:Int)))=true->cs.length<=1000000/\∀ x∈cs,(λ(x1:Int×Int×Bool)=>1<=f/\f<=24) x)/\(((decide ((lI cs) > (0:Int)))&&(!(cs.any (λ(x1:Int×Int×Bool)=>(!Zh f (x1.1,(x1.2.1,x1.2.2)))))))=(!cs.isEmpty&&!(cs.any λc=>!Zh f c))/\(True))
def Wg:Cx:=⟨[],[(124,Qj),(123,J8)],16,[],0,[],[],[],[],false,[],[],[],[]⟩
def VX (f:Int) (cs:List (Int×Int×Bool)):List (Nat×LoopAnn):=[]
theorem Uk (d:Int×List (Int×Int×Bool)):gwp (Wg) (VX d.1 d.2) c86 0 (Nu [.tmp 4] (XV d) (XT d)) (Q_ 16 (AL.can Wt d))=Zd d.1 d.2:=by kernel_rfl
abbrev Uf:Prop:=OkC Tryz.prog 86 QX
theorem VT (h:∀ (f:Int) (cs:List (Int×Int×Bool)),(1<=f/\f<=24/\cs.length<=1000000)->Zd f cs):OkC Tryz.prog 86 QX :=
 Zn Q5t mixed (C:=Wg) (V:=λ(d:Int×List (Int×Int×Bool))=>Zd d.1 d.2) ⟨(.cons ZE (.cons V8 .nil)),XsOk.nil,ItsOk.nil,YlOk.nil,IysOk.nil,XfOk.nil⟩ (Uk) λd hp=>h d.1 d.2 hp
theorem Jl:Uf:=VT λf cs h=>by
 obtain⟨h1,h2,h3⟩:=h;unfold Zd;(try delta lI gD sT I64 Xz pj8 pj4);refine⟨λ_=>⟨h3,λ_ _=>⟨h1,h2⟩⟩,?_⟩;have:decide ((cs.length:Int) > 0)=!cs.isEmpty:=by cases cs<;>simp
 rw[this];exact(by and_intros<;>first|rfl|trivial|simp)
def Gu:Cx:=⟨[],[(87,Z3),(86,QX)],30,[],0,[],[],[],[],false,[],[],[],[]⟩
def NK:XSp:=Q11 Gu (λ_=>[]) Z11 [.cell 2 true 3,.tmp 3] 30
theorem MM:XOk Tryz.prog 103 NK:=Nj Ob mixed (C:=Gu) ⟨(.cons JB (.cons Jl .nil)),XsOk.nil,ItsOk.nil,YlOk.nil,IysOk.nil,XfOk.nil⟩ _
def K5:AL ((Int×(List (Int×Int×Bool))×Int)×Int):=(.cons (.agg (.cons (.k (.i .i64)) (.cons (.k (.list (.pair (.i .i64) (.pair (.i .i64) .bo)))) (.one (.k (.i .i64)))))) (.one (.k (.i .i64))))
def Mo (d:(Int×(List (Int×Int×Bool))×Int)×Int):Prop:=1<=d.1.2.2/\d.1.2.2<=24/\0<=d.2/\d.2<d.1.2.1.length/\∀ c∈d.1.2.1,Zh d.1.2.2 c=true
def YC (d:(Int×(List (Int×Int×Bool))×Int)×Int):SV:=.val (.i .i64) (Cg d.1.2.2 (d.1.2.1.getD d.2.toNat BC))
def Yz (d:(Int×(List (Int×Int×Bool))×Int)×Int):List OB:=[]
def Wp:CSp:=N2 K5 Mo YC Yz
def Jn (hk:Int) (cs:List (Int×Int×Bool)) (f:Int) (at_:Int):Prop :=
 (0<=at_)/\(at_<(List.length cs))/\((gD cs at_ (0,(0,false))).2.2=true ->
  (1<=f/\f<=24/\0<=((gD cs at_ (0,(0,false))).2.1)/\((gD cs at_ (0,(0,false))).2.1)<2 ^ f.toNat)/\((Q92 f ((gD cs at_ (0,(0,false))).2.1))=(Cg f (cs.getD at_.toNat BC))/\(True))) /\
 ((gD cs at_ (0,(0,false))).2.2=false ->
  (0<=at_)/\(at_<(List.length cs))/\((gD cs at_ (0,(0,false))).2.1=(Cg f (cs.getD at_.toNat BC))/\(True)))
def KB:Cx:=⟨[],[(137,Xd)],26,[],0,[],[],[],[],false,[],[],[],[]⟩
def Gj (hk:Int) (cs:List (Int×Int×Bool)) (f:Int) (at_:Int):List (Nat×LoopAnn):=[]
theorem Ga (d:(Int×(List (Int×Int×Bool))×Int)×Int):gwp (KB) (Gj d.1.1 d.1.2.1 d.1.2.2 d.2) Z1g 0 (Nu [.tmp 4] (YC d) (Yz d)) (Q_ 26 (AL.can K5 d))=Jn d.1.1 d.1.2.1 d.1.2.2 d.2:=by kernel_rfl
abbrev Gh:Prop:=OkC Tryz.prog 104 Wp
theorem Gl (h:∀ (hk:Int) (cs:List (Int×Int×Bool)) (f:Int) (at_:Int),(1<=f/\f<=24/\0<=at_/\at_<cs.length/\∀ c∈cs,Zh f c=true)->Jn hk cs f at_):OkC Tryz.prog 104 Wp :=
 Zn IP mixed (C:=KB) (V:=λ(d:(Int×(List (Int×Int×Bool))×Int)×Int)=>Jn d.1.1 d.1.2.1 d.1.2.2 d.2) ⟨(.cons Ny .nil),XsOk.nil,ItsOk.nil,YlOk.nil,IysOk.nil,XfOk.nil⟩ (Ga) λd hp=>h d.1.1 d.1.2.1 d.1.2.2 d.2 hp
theorem MZ:Gh:=Gl λhk cs f at_ h=>by
 obtain⟨h1,h2,h3,h4,h5⟩:=h;unfold Jn;(try delta lI gD sT I64 Xz pj8 pj4);have hd:∀ j,cs.getD j (0,(0,false))=cs.getD j BC:=λ_=>rfl;have hj:at_.toNat<cs.length:=by omega
 have hc:=ED (h5 _ (show cs.getD at_.toNat BC∈cs by rw[Qg hj];exact zn hj));simp only[hd,and_true];refine⟨h3,by omega,λc=>⟨⟨h1,h2,hc.1,hc.2⟩,?_⟩,λc=>⟨h3,by omega,?_⟩⟩
 .unfold Cg;rw[z0 c]
 .unfold Cg;rw[z1 (by rw[c];decide)]
def Kr:AL ((Int×(List (Int×Int×Bool))×Int)×Int×Int):=(.cons (.agg (.cons (.k (.i .i64)) (.cons (.k (.list (.pair (.i .i64) (.pair (.i .i64) .bo)))) (.one (.k (.i .i64)))))) (.cons (.k (.i .i64)) (.one (.k (.i .i64)))))
def Mp (d:(Int×(List (Int×Int×Bool))×Int)×Int×Int):Prop:=d.1.2.1≠[]/\d.1.2.1.length<=1000/\-1000000<=d.2.1/\d.2.1<=1000000/\-1000000<=d.2.2/\d.2.2<=1000000
def YE (d:(Int×(List (Int×Int×Bool))×Int)×Int×Int):SV:=.val (.i .i64) (Int.tmod (d.2.1+d.2.2) d.1.2.1.length)
def YF (d:(Int×(List (Int×Int×Bool))×Int)×Int×Int):List OB:=[]
def JF:CSp:=N2 Kr Mp YE YF
def Jp (hk:Int) (cs:List (Int×Int×Bool)) (f:Int) (at_:Int) (st:Int):Prop :=
 (I64 (at_+st))/\((lI cs)≠0)/\((Int.tmod (at_+st) (lI cs))=(Int.tmod (at_+st) cs.length)/\(True))
def Kh:Cx:=⟨[],[],15,[],0,[],[],[],[],false,[],[],[],[]⟩
def MX (hk:Int) (cs:List (Int×Int×Bool)) (f:Int) (at_:Int) (st:Int):List (Nat×LoopAnn):=[]
theorem Gc (d:(Int×(List (Int×Int×Bool))×Int)×Int×Int):gwp (Kh) (MX d.1.1 d.1.2.1 d.1.2.2 d.2.1 d.2.2) c78 0 (Nu [.tmp 6] (YE d) (YF d)) (Q_ 15 (AL.can Kr d))=Jp d.1.1 d.1.2.1 d.1.2.2 d.2.1 d.2.2:=by kernel_rfl
abbrev M_:Prop:=OkC Tryz.prog 78 JF
theorem G5 (h:∀ (hk:Int) (cs:List (Int×Int×Bool)) (f:Int) (at_:Int) (st:Int),(cs≠[]/\cs.length<=1000/\-1000000<=at_/\at_<=1000000/\-1000000<=st/\st<=1000000)->Jp hk cs f at_ st):OkC Tryz.prog 78 JF :=
 Zn Q6g mixed (C:=Kh) (V:=λ(d:(Int×(List (Int×Int×Bool))×Int)×Int×Int)=>Jp d.1.1 d.1.2.1 d.1.2.2 d.2.1 d.2.2) ⟨.nil,XsOk.nil,ItsOk.nil,YlOk.nil,IysOk.nil,XfOk.nil⟩ (Gc) λd hp=>h d.1.1 d.1.2.1 d.1.2.2 d.2.1 d.2.2 hp
theorem Kf:M_:=G5 λhk cs f at_ st h=>by obtain⟨h1,h2,h3,h4,h5,h6⟩:=h;unfold Jp;(try delta lI gD sT I64 Xz pj8 pj4);have:=xJ.2 h1;exact⟨by simp only[Qh];omega,by omega,rfl,trivial⟩
def Bo:AL (Int×List (Int×Int×Bool)):=(.one (.agg (.cons (.k (.i .i64)) (.one (.k (.list (.pair (.i .i64) (.pair (.i .i64) .bo))))))))
def Ru (d:Int×List (Int×Int×Bool)):Prop:=d.2.length<=1000
def Dn (d:Int×List (Int×Int×Bool)):SV:=.agg [.val (.i .i64) d.1,.lst 0]
def GA (d:Int×List (Int×Int×Bool)):List OB:=[.lst 87 (.pair (.i .i64) (.pair (.i .i64) .bo)) d.2 false]
def MY:CSp:=N2 Bo Ru Dn GA
def KK (hk:Int) (cs:List (Int×Int×Bool)):Prop :=
 (((List.length ([]:List (Int×Int×Bool)))+(List.length cs))*24<=70368744177664)/\((hk=hk/\True/\(([]:List SV)=[]))/\(((([]:List (Int×Int×Bool))++cs)=cs/\((List.isEmpty cs)&&false)=false)/\True))
def Bi:Cx:=⟨[(87,(.pair (.i .i64) (.pair (.i .i64) .bo)))],[],9,[],0,[],[],[],[],false,[],[],[],[]⟩
def Ll (hk:Int) (cs:List (Int×Int×Bool)):List (Nat×LoopAnn):=[]
theorem SN (d:Int×List (Int×Int×Bool)):gwp (Bi) (Ll d.1 d.2) c16 0 (Nu [.cell 2 true 2] (Dn d) (GA d)) (Q_ 9 (AL.can Bo d))=KK d.1 d.2:=by kernel_rfl
abbrev LI:Prop:=OkC Tryz.prog 16 MY
theorem Lh (h:∀ (hk:Int) (cs:List (Int×Int×Bool)),(cs.length<=1000)->KK hk cs):OkC Tryz.prog 16 MY :=
 Zn Q5g mixed (C:=Bi) (V:=λ(d:Int×List (Int×Int×Bool))=>KK d.1 d.2) ⟨.nil,XsOk.nil,ItsOk.nil,YlOk.nil,IysOk.nil,XfOk.nil⟩ (SN) λd hp=>h d.1 d.2 hp
theorem L0:LI:=Lh λhk cs h=>by unfold KK;(try delta lI gD sT I64 Xz pj8 pj4);simp only[List.length_nil,xe];refine⟨by omega,?_⟩;and_intros<;>first|rfl|trivial|simp
end Go.Proofs.Tryz
namespace Go.V
open Go
theorem SO {α:Type}:∀ (j:Nat) (x:α) (l:List α),(C5 j x l).length=l.length+1
 |0,_,_=>rfl
 |j+1,x,[]=>rfl
 |j+1,x,a::l=>by simp only[C5,zP];rw[SO j x l]
def Q1i (ap:Ap) (kk vk:Kind) (sp:PSp kk vk):XSp:=λd args s K=>match sp ap (BK s.own args) with
 |some (c,_,post)=>c/\∀ m',post m'->K (.map d) (s.make d (.map kk vk m'))
 |none=>False
def Q6e (rs:List VResult) (kk vk:Kind) (post:List (kk.T×vk.T)->Prop):Exit->St->Prop:=λe s =>
 let fin:=match X2 s rs with
  |some (.map k)=>(match RN kk vk (Q8 s.own k) with
   |some m'=>post m'
   |none=>False)
  |_=>False
 match e with
 |.normal=>fin
 |.ret=>fin
 |_=>False
section
variable {P:Program}
theorem Q09 {f:Nat}{vc:VCode}{rs:List VResult}{nt:Nat}(h:Fun P f vc rs nt) (hm:P.follows .mixedOrders=true) {kk vk:Kind}(bC:(kk.flat&&vk.flat)=true) {sp:PSp kk vk}{ap:Ap}
  (hb:∀ gA c vs post,sp ap gA=some (c,vs,post)->c->∃ (C:Cx) (L:List (Nat×LoopAnn)) (fe:List SV),SVs.pure fe=true/\(∀ M us,SRs P M Jz ZF gA us->SRs P M Jz ZF fe us)/\COk P C/\gwp C L vc 0 (Q6e rs kk vk post) (YA nt fe)):XOk P f (Q1i ap kk vk sp):=by
 intro B F pl tb s env M d args vals K R hG ha hx hK;unfold Q1i at hx;split at hx
 .rename_i c vs post dh;obtain⟨hc,hx⟩:=hx;obtain⟨C,L,fe,dk,oO,fc,hg⟩:=hb _ c vs post dh hc;have ax:=oO M vals (XU (own:=s.own) hG.leB (pl:=pl) (tb:=tb) (λd=>hG.obj d) ha);have aS:GRel P M M M (YA nt fe) (vals++List.replicate (nt-vals.length) undef) M:=by
   refine⟨M,M,λ_=>poison,ZF,⟨.refl _,.refl _,λ_ _ _ h=>h,.refl _⟩,.refl _,.refl _,?_,λk=>?_,λk i' h1 h2=>?_,λk k' i' mg h1 h2 h3 h4=>?_,λ_ _=>rfl⟩
   .simp only[YA];rw[ax.length];exact SRs.append (QZ _ _ dk ax) (Ge _)
   .simp only[YA,Q8];trivial
   .simp only[YA,Q8] at h1;cases h1
   .simp only[YA,Q8] at h1;cases h1
  refine h.calls hm BL ?_;refine K2 fc vc 0 _ _ _ M none _ trivial aS hg λe s' af M' h1 h2=>?_
  have main:(match X2 s' rs with
   |some (.map k)=>(match RN kk vk (Q8 s'.own k) with
    |some m'=>post m'
    |none=>False)
   |_=>False)->QW (ZM af M' rs) λv=>∃ v' aE,DropTo M v M' v' aE/\R v' aE:=λh=>by
   obtain⟨B',F',pl',tb',k1,k2⟩:=h2;split at h
   .rename_i k hr;split at h
    .rename_i m' lr;have g2:=h;have aM:=Mj lr;obtain⟨w,h3,h4⟩:=Jy k2 hr;rw[h3];simp only[SR] at h4;obtain⟨rfl,_⟩:=h4;have ao:=k2.obj k;rw[aM] at ao;have hle:M.Le M':=k1.f.trans k2.le;have jQ:OR P B (Jv pl d (pl' k)) tb M' (pl' k) (.map kk vk m'):=ao.retd bC λ_ _=>rfl;have al:(Q8 s'.own k).live=true:=by rw[aM];rfl
     have fD:∀ i,Oid (pl' k) i->M.get i=none:=λi hi=>by
      cases hg:M.get i with
      |none=>rfl
      |some b =>have:=k2.fresh k i al hi;have h9:=k1.f.2 _ _ hg;rw[this] at h9;cases h9
     have mh:Gam P B F (Jv pl d (pl' k)) tb (s.make d (.map kk vk m')) env M':=by
      refine hG.make d _ (pl' k) (hG.le.trans hle) (λj i _ hl hi=>?_) jQ λi _ hi=>⟨?_,λj _ hl hj=>?_⟩
      .cases hg:M.get i with
       |none=>exact k1.d.2 i ((hG.obj j).q1a hl hi) hg
       |some bb=>exact hle.2 _ _ hg
      .cases hg:F.get i with
       |none=>rfl
       |some b=>have:=hG.le.2 _ _ hg;rw[fD i hi] at this;cases this
      .have ah:=(hG.obj j).q1a hl hj;have:=k1.d.2 i ah (fD i hi);obtain⟨id,es,clock,e1,e2,_⟩:=jQ;rw[e1] at hi;obtain rfl:id=i:=osj hi;rw[this] at e2;cases e2
     refine⟨_,M',.refl _ _ _,hK _ _ B F _ tb _ M' (hx m' g2) (.of hG.bf k1.d) mh ?_⟩;obtain⟨id,es,clock,e1,_⟩:=jQ;simp only[SR];exact⟨by simp[Jv],_,e1⟩
    .exact h.elim
   .exact h.elim
  cases e with
  |normal=>exact main h1
  |ret=>exact main h1
  |_=>exact h1.elim
 .exact hx.elim
theorem Q0d {f:Nat}{vc:VCode}{rs:List VResult}{nt:Nat}(h:Fun P f vc rs nt) (hm:P.follows .mixedOrders=true) {ap:Ap}(dA:Ok P ap) {kk vk:Kind}(bC:(kk.flat&&vk.flat)=true) {D:Type}{la:AL D}{pre:D->Prop}{res:D->List SV}{post:D->List (kk.T×vk.T)->Prop}
  {C:Cx}(aA:COk P C) {L:D->List (Nat×LoopAnn)}{V:D->Prop}
  (hq:∀ y,gwp C (L y) vc 0 (Q6e rs kk vk (post y)) (YA nt (AL.can la y))=V y)
  (hb:∀ y,pre y->V y):XOk P f (Q1i ap kk vk (Q6s la pre res post)):=Q09 h hm bC λgA c vs q hs hc=>by
 unfold Q6s at hs;split at hs
 .rename_i y h2;obtain⟨rfl,rfl,rfl⟩:=(by simpa using hs:pre y=c/\res y=vs/\post y=q);exact⟨C,L y,AL.can la y,AL.q0m la y,λM vs hv=>AL.q0k dA la h2 hv,aA,(hq y).mpr (hb y hc)⟩
 .cases hs
end
end Go.V
namespace Go.V
open Go
abbrev KSp (kk vk:Kind):=Ap->List (kk.T×vk.T)->List SV->Option (Prop×SV×(List (kk.T×vk.T)->Prop))
def EO (ap:Ap) (j:Nat) (kk vk:Kind) (sp:KSp kk vk):XSp:=λ_ args s K =>
 match args[j]? with
 |some (.map o)=>(match RN kk vk (Q8 s.own o) with
  |some m=>(match sp ap m (BK (oset s.own o .dead) (Ce j args)) with
   |some (c,v,post)=>bif v.ret 0 then c/\∀ m',post m'->K v ⟨s.env,oset s.own o (.map kk vk m'),s.nx⟩ else False
   |none=>False)
  |none=>False)
 |_=>False
def NQ (nt j:Nat) (kk vk:Kind) (m:List (kk.T×vk.T)) (vals:List Value) (args:List SV):St:=⟨C5 j (.map 0) args++List.replicate (nt-(args.length+1)) .any,[(0,.map kk vk m),(4000000,.stk [.map 0] vals)],0⟩
def Q9j {kk vk:Kind}{D:Type}(la:AL D) (pre:List (kk.T×vk.T)->D->Prop) (res:List (kk.T×vk.T)->D->SV) (post:List (kk.T×vk.T)->D->List (kk.T×vk.T)->Prop):KSp kk vk:=λap m gA=>match AL.dec ap la gA with
 |some a=>some (pre m a,res m a,post m a)
 |none=>none
section
variable {P:Program}
theorem Q0a {f:Nat}{vc:VCode}{rs:List VResult}{nt:Nat}(h:Fun P f vc rs nt) (hm:P.follows .mixedOrders=true) {kk vk:Kind}(bC:(kk.flat&&vk.flat)=true) {sp:KSp kk vk}{ap:Ap}{j:Nat}
  (hb:∀ m gA c v post,sp ap m gA=some (c,v,post)->c->∃ (C:Cx) (L:List Value->List (Nat×LoopAnn)) (fe:List SV),SVs.pure fe=true/\(∀ M vs,SRs P M Jz ZF gA vs->SRs P M Jz ZF fe vs)/\COk P C/\∀ vals,gwp C (L vals) vc 0 (IZ vals rs v kk vk post) (NQ nt j kk vk m vals fe)):XOk P f (EO ap j kk vk sp):=by
 intro B F pl tb s env M d args vs K R hG ha hx hK;unfold EO at hx;split at hx
 .rename_i o gS;split at hx
  .rename_i m aF;have aM:=Mj aF;split at hx
   .rename_i c v post dh;cases cH:v.ret 0 with
    |false=>rw[cH] at hx;exact hx.elim
    |true =>
    rw[cH] at hx;obtain⟨hc,hx⟩:=hx;obtain⟨w,hw,ru,rv⟩:=F8 j gS ha;simp only[SR] at hw;obtain rfl:w=pl o:=hw.1;have al:(Q8 s.own o).live=true:=by rw[aM];rfl
    have ao:=hG.obj o;rw[aM] at ao;obtain⟨id,es,clock,g_,bc,eJ⟩:=ao;have oQ:F.get id=none:=hG.fresh o id al (by rw[g_];rfl);have mc:B.get id=none:=by
     cases hg:B.get id with
     |none=>rfl
     |some b=>have:=hG.bf.2 _ _ hg;rw[oQ] at this;cases this
    obtain⟨C,L,fe,dk,oO,fc,hg⟩:=hb _ _ c v post dh hc;have hg:=hg [pl o];have uM:oid (pl o)=some id:=by rw[g_];rfl
    let σc:=M.kill id;have pM:B.Le σc:=hG.leB.kill' mc;have rn:F.Le σc:=hG.le.kill' oQ;have ry:σc.Le M:=Heap.q1w _ _;have bP:∀ k,k≠id->σc.get k=M.get k:=λk hk=>Heap.q0d _ hk;have bL:∀ d,OR P σc Jz ZF σc (pl d) ((Q8 (oset s.own o .dead) d).kill d)\/True:=λ_=>.inr trivial;have uN:∀ (xs:List SV) (vs:List Value),SRs P B pl tb xs vs->SRs P σc Jz ZF (BK (oset s.own o .dead) xs) vs:=λxs vs bB=>by
     refine XU (own:=oset s.own o .dead) pM (pl:=pl) (tb:=tb) (λd=>?_) bB;rw[Qi];by_cases e:d=o
     .rw[z0 e];trivial
     .rw[z1 e];exact(hG.obj d).mono (.refl _) (λ_ _ h=>h) λhl i hi=>bP _ λjE=>hG.sep d o i e hl al hi (by rw[g_,jE];rfl)
    have ax:=oO σc _ (uN _ _ ru);let ji:Nat->Value:=λk=>if k=0 then pl o else poison
    have kT:∀ (B:Heap) (tb':Nat->Option Bool),SR P B ji tb' (.map 0) (pl o):=λB tb'=>by simp only[SR];exact⟨by simp[ji],_,g_⟩
    have aS:GRel P σc σc M (NQ nt j kk vk m [pl o] fe) (vs++List.replicate (nt-vs.length) undef) M:=by
     refine⟨σc,σc,ji,ZF,⟨.refl _,.refl _,λ_ _ _ h=>h,.refl _⟩,.refl _,ry,?_,λk=>?_,λk i' h1 h2=>?_,λk k' i' mg h1 h2 h3 h4=>?_,λ_ _=>rfl⟩
     .have h0:=rv σc ji ZF fe (.map 0) (QZ _ _ dk ax) (kT _ _);have hl:=h0.length;rw[SO] at hl;simp only[NQ];rw[hl];exact SRs.append h0 (Ge _)
     .simp only[NQ,Q8];by_cases e0:k=0
      .subst e0;simp only[Nat.beq_refl,zg];exact⟨id,es,clock,by simp[ji,g_],bc,eJ.mono pM⟩
      .rw[Zs (λe=>e0 e.symm),cond_false];by_cases e1:k=4000000
       .subst e1;simp only[Nat.beq_refl,zg];exact⟨pl o,[],rfl,kT _ _,rfl⟩
       .rw[Zs (λe=>e1 e.symm),cond_false];trivial
     .simp only[NQ,Q8] at h1;by_cases e0:k=0
      .subst e0;have:Oid (pl o) i':=by simpa [ji] using h2
       rw[g_] at this;obtain rfl:id=i':=osj this;exact Heap.q0g _ _
      .rw[Zs (λe=>e0 e.symm),cond_false] at h1;by_cases e1:k=4000000
       .subst e1;cases h1
       .rw[Zs (λe=>e1 e.symm),cond_false] at h1;cases h1
     .have z:∀ k,(Q8 (NQ nt j kk vk m [pl o] fe).own k).live=true->k=0:=λk h1=>by
       simp only[NQ,Q8] at h1;by_cases e0:k=0
       .exact e0
       .rw[Zs (λe=>e0 e.symm),cond_false] at h1;by_cases e1:k=4000000
        .subst e1;cases h1
        .rw[Zs (λe=>e1 e.symm),cond_false] at h1;cases h1
      exact mg ((z k h1).trans (z k' h2).symm)
    refine h.calls hm BL ?_;refine K2 fc vc 0 _ _ _ M none _ trivial aS hg λe s' af M' h1 h2=>?_
    have main:(match X2 s' rs,Q8 s'.own 4000000,RN kk vk (Q8 s'.own 0) with
     |some r,.stk l vs,some m'=>vs=[pl o]/\VB [(0,some 0)] [.map 0] l/\BN [] v r/\post m'
     |_,_,_=>False)->QW (ZM af M' rs) λv=>∃ v' aE,DropTo M v M' v' aE/\R v' aE:=λh=>by
     obtain⟨B',F',pl',tb',k1,k2⟩:=h2;split at h
     .rename_i r l' cN m' hr gy kL;obtain⟨rfl,m1,m2,m3⟩:=h;have eW:=Mj kL;obtain⟨w,h3,h4⟩:=Jy k2 hr;rw[h3];have fH:=k2.obj 4000000;rw[gy] at fH;have mf:pl' 0=pl o:=by
       have:=QY [.map 0] l' [pl o] m1 fH;simp only[SRs,SR] at this;obtain⟨u',_,cw,⟨h5,_⟩,_⟩:=this;obtain rfl:pl o=u':=(zN cw).1;simpa [Nb,Qp] using h5.symm
      have iO:=k2.obj 0;rw[eW,mf] at iO;have dg:=(K0 v r w m2 h4).retd (B':=B) (pl':=pl) (tb':=tb) (n:=0) (λj hj=>by omega) _ _ cH;have hle:σc.Le M':=k1.f.trans k2.le;have oR:∀ d,d≠o->(Q8 s.own d).live=true->∀ i,Oid (pl d) i->M'.get i=M.get i:=λd e hl i hi=>by
       have ah:=(hG.obj d).q1a hl hi;have uO:i≠id:=λjE=>hG.sep d o i e hl al hi (by rw[g_,jE];rfl);cases hg:M.get i with
       |none=>exact k1.d.2 i ah hg
       |some bb=>exact hle.2 _ _ (by rw[bP i uO];exact hg)
      have bR:∀ d,(Q8 (oset s.own o (.map kk vk m')) d).live=(Q8 s.own d).live:=λd=>by
       rw[Qi];by_cases e:d=o
       .subst e;rw[z0 rfl,al];rfl
       .rw[z1 e]
      refine⟨w,M',.refl _ _ _,hK v _ B F pl tb w M' (hx m' m3) (.of hG.bf k1.d) ⟨hG.bf,rn.trans hle,hG.env,λd=>?_,λd i q1 q2=>hG.fresh d i (by rw[<-bR d];exact q1) q2,λd d' i av q1 q2 q3 q4=>hG.sep d d' i av (by rw[<-bR d];exact q1) (by rw[<-bR d'];exact q2) q3 q4,hG.free⟩ dg⟩
      .simp only[Qi];by_cases e:d=o
       .subst e;rw[z0 rfl];exact iO.retd bC λ_ _=>rfl
       .rw[z1 e];exact(hG.obj d).mono (.refl _) (λ_ _ h=>h) λhl i hi=>oR d e hl i hi
     .exact h.elim
    cases e with
    |normal=>exact main h1
    |ret=>exact main h1
    |_=>exact h1.elim
   .exact hx.elim
  .exact hx.elim
 .exact hx.elim
theorem S8 {f:Nat}{vc:VCode}{rs:List VResult}{nt:Nat}(h:Fun P f vc rs nt) (hm:P.follows .mixedOrders=true) {ap:Ap}(dA:Ok P ap) {kk vk:Kind}(bC:(kk.flat&&vk.flat)=true) {j:Nat}{D:Type}{la:AL D}{pre:List (kk.T×vk.T)->D->Prop}{res:List (kk.T×vk.T)->D->SV}{post:List (kk.T×vk.T)->D->List (kk.T×vk.T)->Prop}
  {C:Cx}(aA:COk P C) {L:List (kk.T×vk.T)->D->List Value->List (Nat×LoopAnn)}{V:List (kk.T×vk.T)->D->Prop}
  (hq:∀ m y,(∀ vals,gwp C (L m y vals) vc 0 (IZ vals rs (res m y) kk vk (post m y)) (NQ nt j kk vk m vals (AL.can la y)))=V m y)
  (hb:∀ m y,pre m y->V m y):XOk P f (EO ap j kk vk (Q9j la pre res post)):=Q0a h hm bC λm gA c v q hs hc=>by
 unfold Q9j at hs;split at hs
 .rename_i y h2;obtain⟨rfl,rfl,rfl⟩:=(by simpa using hs:pre m y=c/\res m y=v/\post m y=q);exact⟨C,L m y,AL.can la y,AL.q0m la y,λM vs hv=>AL.q0k dA la h2 hv,aA,(hq m y).mpr (hb m y hc)⟩
 .cases hs
end
end Go.V