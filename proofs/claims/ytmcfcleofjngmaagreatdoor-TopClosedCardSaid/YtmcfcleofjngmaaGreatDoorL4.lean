
import Derived.Test.YtmcfcleofjngmaaGreatDoorL3
namespace Go.V
open Go
section
variable {P:Program}{B F:Heap}{pl:Nat->Value}{tb:Nat->Option Bool}{s:St}{env:Env}{U U':Heap}
theorem Q53 (pl:Nat->Value) (d:Nat):XT pl d (pl d)=pl:=by
 funext j;simp only[XT];split
 .rename_i e;rw[e]
 .rfl
theorem Gam.killed (h:Gam P B F pl tb s env U) (o:Nat):Gam P B F pl tb (s.make o .dead) env U:=by
 have:=h.make o .dead (pl o) h.le (λ_ _ _ _ _=>rfl) trivial λi hl=>by cases hl
 rwa [Q53] at this
theorem Q10 (s:St) (o:Nat) (b:OB) (j:Nat):Qb (s.make o b).own j=if j=o then b else (Qb s.own j).kill o:=by simp only[St.make,St.kill,Qm,Vz];split<;>rfl
theorem Gam.kills:∀ {mv:List Nat}{s:St},Gam P B F pl tb s env U->Gam P B F pl tb (s.kills mv) env U
 |[],_,h=>h
 |o::_,s,h=>Gam.kills (s:=s.make o .dead) (h.killed o)
theorem D5:∀ {mv:List Nat}{s:St}{j:Nat},(Qb (s.kills mv).own j).live=true->(Qb s.own j).live=true/\j∉mv
 |[],_,_,h=>⟨h,List.not_mem_nil⟩
 |o::mv,s,j,h=>by
  obtain⟨h1,h2⟩:=D5 (mv:=mv) (s:=s.make o .dead) h;rw[Q10] at h1;by_cases e:j=o
  .rw[z7 e] at h1;cases h1
  .rw[z6 e,OB.q0m] at h1;simp_all
theorem Pg:∀ {l:List Nat},Q97 l=true->l.Nodup
 |[],_=>List.nodup_nil
 |a::l,h=>by simp only[Q97,z0,zg] at h;refine xA.2 ⟨λhm=>?_,Pg h.2⟩;have:=h.1 a hm;simp at this
theorem Rows.rowsO {H:Heap}{k:Kind}(f:k.flat=true) {xs:List k.T}{cs:List Value}(h:Rows (KC B k) xs cs):RowsO (λx c is=>KO H none k x c is) xs cs []:=by
 induction h with
 |nil=>exact .nil
 |cons h _ ih=>exact .cons (is:=[]) (js:=[]) (KC.ko f (KC.flat f h)) ih
theorem KO.nil {H:Heap}{q:Option Nat}{k:Kind}:KO H q (.list k) [] [.slice none 0 0] []:=by unfold KO;exact .inl ⟨rfl,rfl,rfl⟩
theorem BH (hG:Gam P B F pl tb s env U):∀ {k:Kind}{q:Option Nat}{l:List SV}{x:k.T}{mv:List Nat}{cs:List Value},MN s.own q k l=some (x,mv)->mv.Nodup->SRs P B pl tb l cs ->
  ∃ is,KO U q k x cs is/\is.Nodup/\∀ i∈is,∃ m∈mv,(Qb s.own m).live=true/\Oid (pl m) i
 |.i ik,q,l,x,mv,cs,h,_,hs=>by simp only[MN,zj] at h;obtain⟨y,h1,h2⟩:=h;obtain⟨rfl,rfl⟩:=Prod.mk.inj h2;exact⟨[],KC.ko rfl (KC.flat (h:=B) rfl (QR h1 hs)),List.nodup_nil,λi hi=>by cases hi⟩
 |.bo,q,l,x,mv,cs,h,_,hs=>by simp only[MN,zj] at h;obtain⟨y,h1,h2⟩:=h;obtain⟨rfl,rfl⟩:=Prod.mk.inj h2;exact⟨[],KC.ko rfl (KC.flat (h:=B) rfl (QR h1 hs)),List.nodup_nil,λi hi=>by cases hi⟩
 |.st,q,l,x,mv,cs,h,_,hs=>by simp only[MN,zj] at h;obtain⟨y,h1,h2⟩:=h;obtain⟨rfl,rfl⟩:=Prod.mk.inj h2;exact⟨[],KC.ko rfl (KC.flat (h:=B) rfl (QR h1 hs)),List.nodup_nil,λi hi=>by cases hi⟩
 |.pair a b,q,l,x,mv,cs,h,hn,hs=>by
  simp only[MN] at h;split at h
  .rename_i x1 m x2 n h1 h2;obtain⟨rfl,rfl⟩:=Prod.mk.inj (osj h);have cJ:=hs.take a.size;have bJ:=hs.drop a.size;have gu:=List.nodup_append.1 hn;obtain⟨i1,k1,k2,k3⟩:=BH hG h1 gu.1 cJ;obtain⟨i2,g1,g2,g3⟩:=BH hG h2 gu.2.1 bJ;refine⟨i1++i2,?_,?_,λi hi=>?_⟩
   .simp only[KO]
    grind [List.take_append_drop]
   .refine List.nodup_append.2 ⟨k2,g2,λi hi j hj e=>?_⟩;subst e;obtain⟨m1,a1,a2,a3⟩:=k3 i hi;obtain⟨m2,b1,b2,b3⟩:=g3 i hj;exact hG.sep m1 m2 i (λe=>gu.2.2 m1 a1 m2 b1 e) a2 b2 a3 b3
   grind
  .cases h
 |.list k,q,[],x,mv,cs,h,_,hs=>by simp[MN] at h
 |.list k,q,_::_::_,x,mv,cs,h,_,hs=>by simp[MN] at h
 |.list k,q,[v],x,mv,cs,h,_,hs=>by
  obtain⟨u,rfl,h1⟩:=hs.one;simp only[MN] at h;split at h
  .obtain⟨rfl,rfl⟩:=Prod.mk.inj (osj h);simp only[SR] at h1;subst h1
   grind [KO.nil,List.nodup_nil]
  .rename_i e;split at h
   .rename_i ty k' xs nl ho;have ak:=hG.obj e;rw[ho] at ak;simp only[SR] at h1;cases hq:Q9s q ty&&k.flat with
    |false=>rw[hq] at h;cases h
    |true =>
     rw[hq] at h;simp only[zh,zj] at h;obtain⟨ys,h2,h3⟩:=h;obtain rfl:=XF h2;obtain rfl:=XA h2;obtain⟨rfl,rfl⟩:=Prod.mk.inj h3;rw[z0] at hq;have gP:∀ t,q=some t->ty=t:=λt e=>by subst e;have:=hq.1;simp only[Q9s,Nat.beq_eq] at this;exact this.symm
     rcases ak with⟨_,rfl,h8⟩|⟨_,i,cap,c,t,h8,h4,h5,h6,h7⟩
     .exact⟨[],by rw[h1.1,h8];exact KO.nil,List.nodup_nil,λi hi=>by cases hi⟩
     .refine⟨[i],?_,(by simp_all),λj hj=>⟨e,zF,by rw[ho];rfl,?_⟩⟩
      .simp only[KO];exact .inr ⟨i,cap,c,_,t,[],by rw[h1.1,h8],rfl,h4,h5,rfl,gP,h6,h7.rowsO hq.2⟩
      .obtain rfl:=zS.1 hj;rw[h8];rfl
   .cases h
  .rename_i e;split at h
   .rename_i ty q' k' xs nl ho;have ak:=hG.obj e;rw[ho] at ak;simp only[SR,DR] at h1;cases hq:Q9s q ty with
    |false=>rw[hq] at h;cases h
    |true =>
     rw[hq] at h;simp only[zh,zj] at h;obtain⟨ys,h2,h3⟩:=h;obtain rfl:=XF h2;obtain rfl:=XA h2;obtain⟨rfl,rfl⟩:=Prod.mk.inj h3;have gP:∀ t,q=some t->ty=t:=λt e=>by subst e;simp only[Q9s,Nat.beq_eq] at hq;exact hq.symm
     obtain⟨is,d1,d2,d3,d4⟩:=DP.open ak;refine⟨is,?_,d1,λj hj=>⟨e,zF,by rw[ho];rfl,(d3 j).2 hj⟩⟩;rw[h1.1];simp only[KO];rcases d2 with⟨rfl,h8,rfl⟩|⟨i,cap,c,t,js,h8,rfl,h4,h5,h6,h7⟩
     .exact .inl ⟨rfl,by rw[h8],rfl⟩
     .exact .inr ⟨i,cap,c,_,t,js,by rw[h8],rfl,h4,h5,rfl,gP,h6,h7.rowsO λ_ _ _ h=>h.weak⟩
   .cases h
  .cases h
def FrL (Ts:List Nat) (s s':St) (pl pl':Nat->Value) (U U':Heap):Prop :=
 ∀ q,q∉Ts->(Qb s'.own q).live=(Qb s.own q).live/\pl' q=pl q/\((Qb s.own q).live=true->∀ i,Oid (pl q) i->U'.get i=U.get i)
theorem FrL.mono {Ts rS:List Nat}{s s':St}{pl pl':Nat->Value}{U U':Heap}(h:FrL Ts s s' pl pl' U U') (hs:∀ t∈Ts,t∈rS):FrL rS s s' pl pl' U U':=λq hq=>h q λh=>hq (hs q h)
theorem M1:∀ {mv:List Nat}{s:St}{j:Nat},j∉mv->(Qb (s.kills mv).own j).live=(Qb s.own j).live
 |[],_,_,_=>rfl
 |o::mv,s,j,h=>by have:=M1 (mv:=mv) (s:=s.make o .dead) (j:=j) λe=>h (x4 _ e);rw[show s.kills (o::mv)=(s.make o .dead).kills mv from rfl,this,Q10,z6 (by simp_all),OB.q0m]
theorem PI {own:Own}:∀ {k:Kind}{q:Option Nat}{l:List SV}{x:k.T}{mv:List Nat},MN own q k l=some (x,mv)->∀ m∈mv,m∈Fl l
 |.i ik,q,l,x,mv,h,m,hm|.bo,q,l,x,mv,h,m,hm|.st,q,l,x,mv,h,m,hm=>by
  simp only[MN,zj] at h
  grind
 |.pair a b,q,l,x,mv,h,m,hm=>by
  simp only[MN] at h;split at h
  .rename_i x1 m1 x2 m2 h1 h2;obtain⟨rfl,rfl⟩:=Prod.mk.inj (osj h);have e:Fl l=Fl (l.take a.size)++Fl (l.drop a.size):=by
    unfold Fl;rw[<-List.flatMap_append,xH]
   rw[e];rcases xj.1 hm with hm|hm
   .exact xW _ (PI h1 m hm)
   .exact wu _ (PI h2 m hm)
  .cases h
 |.list k,q,[],x,mv,h,_,_=>by simp[MN] at h
 |.list k,q,_::_::_,x,mv,h,_,_=>by simp[MN] at h
 |.list k,q,[v],x,mv,h,m,hm=>by
  simp only[MN] at h;split at h
  .simp_all
  .split at h
   .rename_i e _ ty k' xs nl ho;cases hq:Q9s q ty&&k.flat with
    |false=>rw[hq] at h;cases h
    |true =>rw[hq] at h;simp only[zh,zj] at h;obtain⟨ys,_,h3⟩:=h;obtain⟨rfl,rfl⟩:=Prod.mk.inj h3;simpa [Fl,SV.thing] using hm
   .cases h
  .split at h
   .rename_i e _ ty q' k' xs nl ho;cases hq:Q9s q ty with
    |false=>rw[hq] at h;cases h
    |true =>rw[hq] at h;simp only[zh,zj] at h;obtain⟨ys,_,h3⟩:=h;obtain⟨rfl,rfl⟩:=Prod.mk.inj h3;simpa [Fl,SV.thing] using hm
   .cases h
  .cases h
theorem BO (hG:Gam P B F pl tb s env U) {mv js:List Nat}{d n0 ty cap:Nat}{q:Option Nat}{k:Kind}{xs:List k.T}{c:List Value}{e:El}{t:Bool}(hle:F.Le U')
  (iR:∀ i∈js,∃ m,(m=d\/m∈mv)/\(Qb s.own m).live=true/\Oid (pl m) i) (hn:js.Nodup) (iM:n0∉js) (hf:F.get n0=none) (eK:∀ j,j≠d->j∉mv->(Qb s.own j).live=true->¬ Oid (pl j) n0)
  (bC:U'.get n0=some (.cells c e true t)) (he:e=⟨k.size,ty⟩) (rT:∀ i∈js,U'.get i=U.get i) (cL:∀ j i,j≠d->j∉mv->(Qb s.own j).live=true->Oid (pl j) i->U'.get i=U.get i)
  (bK:RowsH (KO U q k) k.size none 0 xs (c.take (xs.length*k.size)) js) (bO:xs.length<=cap) (hc:cap*k.size<=c.length) :
  ∃ pl',(Gam P B F pl' tb ((s.kills mv).make d (.deep ty q k xs false none)) env U'/\FrL (d::mv) s ((s.kills mv).make d (.deep ty q k xs false none)) pl pl' U U')/\SR P B pl' tb (.dd d .out) (.slice (some ⟨n0,0,none⟩) xs.length cap):=by
 have nw:DO U' ty q k xs none (.slice (some ⟨n0,0,none⟩) xs.length cap) (n0::js):=.inr ⟨n0,cap,c,t,js,rfl,rfl,bO,by rw[bC,he],hc,bK.imp (by grind [KO.imp])⟩;have kY:=Q6r (v:=.slice (some ⟨n0,0,none⟩) xs.length cap) nw.cells;refine⟨XT pl d (mkP U' (.slice (some ⟨n0,0,none⟩) xs.length cap) (n0::js)),⟨hG.kills.make d _ _ hle (λj i hj hl hi=>?_) (DP.close (xA.2 ⟨iM,hn⟩) nw (by simp)) λi _ hi=>?_,λj hj=>?_⟩,?_⟩
 .grind [D5]
 .rcases zH.1 ((kY i).1 hi) with rfl|hi
  .grind [D5]
  .obtain⟨m,h1,h2,h3⟩:=iR i hi;refine⟨hG.fresh m i h2 h3,λj hj hl ho=>?_⟩;obtain⟨h4,h5⟩:=D5 hl;exact hG.sep j m i (by grind) h4 h2 ho h3
 .have h1:j≠d:=(by simp_all);have h2:j∉mv:=λe=>hj (x4 _ e);exact⟨by rw[KE _ _ _ h1,M1 h2],by simp[XT,h1],λhl i hi=>cL j i h1 h2 hl hi⟩
 .simp only[SR,DR,XZ];exact⟨rfl,_,_,_,rfl⟩
theorem Q0z (hG:Gam P B F pl tb s env U) (mv:List Nat) (d ty:Nat) (q:Option Nat) (k:Kind) :
  ∃ pl',(Gam P B F pl' tb ((s.kills mv).make d (.deep ty q k [] true none)) env U/\FrL (d::mv) s ((s.kills mv).make d (.deep ty q k [] true none)) pl pl' U U)/\SR P B pl' tb (.dd d .out) (.slice none 0 0):=by
 have nw:DO U ty q k [] none (.slice none 0 0) []:=.inl ⟨rfl,rfl,rfl⟩;have kY:=Q6r (v:=.slice none 0 0) nw.cells;refine⟨XT pl d (mkP U (.slice none 0 0) []),⟨hG.kills.make d _ _ hG.le (λ_ _ _ _ _=>rfl) (DP.close List.nodup_nil nw (by simp)) λi _ hi=>?_,λj hj=>?_⟩,?_⟩
 .cases (kY i).1 hi
 .have h1:j≠d:=(by simp_all);have h2:j∉mv:=λe=>hj (x4 _ e);exact⟨by rw[KE _ _ _ h1,M1 h2],by simp[XT,h1],λ_ _ _=>rfl⟩
 .simp only[SR,DR,XZ];exact⟨rfl,_,_,_,rfl⟩
theorem MJ (hG:Gam P B F pl tb s env U) {mv js:List Nat}{d ty cap:Nat}{q:Option Nat}{k:Kind}{xs:List k.T}{c:List Value}{e:El}{t:Bool}
  (iR:∀ i∈js,∃ m,(m=d\/m∈mv)/\(Qb s.own m).live=true/\Oid (pl m) i) (hn:js.Nodup) (he:e=⟨k.size,ty⟩)
  (bK:RowsH (KO U q k) k.size none 0 xs (c.take (xs.length*k.size)) js) (bO:xs.length<=cap) (hc:cap*k.size<=c.length) :
  ∃ pl',(Gam P B F pl' tb ((s.kills mv).make d (.deep ty q k xs false none)) env (U.push (.cells c e true t))/\FrL (d::mv) s ((s.kills mv).make d (.deep ty q k xs false none)) pl pl' U (U.push (.cells c e true t)))/\SR P B pl' tb (.dd d .out) (.slice (some ⟨U.n,0,none⟩) xs.length cap):=by
 have ao:∀ i∈js,i<U.n:=λi hi=>by obtain⟨m,_,h2,h3⟩:=iR i hi;exact(hG.obj m).q0y h2 h3
 exact BO hG (hG.le.push _) iR hn (λh=>wB _ (ao _ h)) hG.le.fresh (λj _ _ hl ho=>wB _ ((hG.obj j).q0y hl ho)) (Heap.q0a _ _) he (by grind [Heap.q0h]) (λj i _ _ hl hi=>Heap.q0h _ _ ((hG.obj j).q0y hl hi)) bK bO hc
def Q6j (P:Program) (B F:Heap) (tb:Nat->Option Bool) (o:VOp) (evV:Operand->Value) (env:Env) (U:Heap) (K:SV->St->Prop) (Ts:List Nat) (s:St) (pl:Nat->Value):Prop :=
 ∃ u U' pl' v s',Q7 o evV U=some (u,U')/\K v s'/\(Gam P B F pl' tb s' env U'/\FrL Ts s s' pl pl' U U')/\SR P B pl' tb v u
section
variable {C:Cx}{d:Nat}{ev:Operand->SV}{evV:Operand->Value}{K:SV->St->Prop}
theorem IE (aj:∀ x,SR P B pl tb (ev x) (evV x)) (hG:Gam P B F pl tb s env U) {e:El}{z:List Value}{n:Nat}{ps:List (Nat×Operand)}(h:gnd C d (.buildSlice e z n ps) ev s K):Q6j P B F tb (.buildSlice e z n ps) evV env U K (GN d (.buildSlice e z n ps) ev) s pl:=by
 simp only[gnd] at h;split at h
 .rename_i k _;split at h
  .rename_i hc;obtain⟨aD,hz⟩:=hc;have he:e=⟨k.size,e.ty⟩:=by cases e;simp only at aD;rw[aD]
   split at h
   .obtain⟨pl',h1,h2⟩:=MJ (q:=QQ C.el e.ty) (xs:=([]:List k.T)) (c:=[]) (cap:=0) (t:=true) (mv:=[]) (js:=[]) (d:=d) hG (λi hi=>by cases hi) List.nodup_nil he ⟨by simp,rfl⟩ (z9 _) (by simp);exact⟨_,_,pl',_,_,by rw[<-show Rx 0 z=[] by rw[VO];rfl];rfl,h,⟨h1.1,h1.2.mono λt ht=>by rw[zS.1 ht];exact zF⟩,h2⟩
   .rename_i x;split at h
    .rename_i l hl;split at h
     .rename_i y mv hy;cases hd:Q97 (d::mv) with
      |false=>rw[hd] at h;cases h
      |true =>
       rw[hd] at h;simp only[zh] at h;have gi:=xA.1 (Pg hd);obtain⟨cs,h1,h2,_⟩:=YA hl (aj x);obtain⟨js,h3,h4,h5⟩:=BH hG hy gi.2 h2;have hlen:=KC.length h3.kc;have fZ:=KC.length (KJ (h:=B) hz)
       obtain⟨pl',k1,k2⟩:=MJ (q:=QQ C.el e.ty) (xs:=[y]) (c:=cs) (cap:=1) (t:=true) (mv:=mv) (d:=d) hG (by grind) h4 he
        ⟨cs,[],js,[],by simp[<-hlen],by simp,by rw[z6 (by simp)];exact h3,rfl,rfl⟩ (z9 _) (by rw[hlen];simp)
       refine⟨_,_,pl',_,_,?_,h,⟨k1.1,k1.2.mono λt ht=>?_⟩,k2⟩
       rotate_left
       .rcases zH.1 ht with rfl|ht
        .exact zF
        .exact x4 _ (by grind [List.mem_append_left,PI])
       have e1:Rx 1 z=z:=by rw[VO];simp
       have e2:WR z 0 cs=cs:=by rw[Nq (by omega),zQ,wH,xB,List.drop_of_length_le (by omega),x7]
       simp only[Q7,e1,xm,List.map_nil,My,h1,Nat.zero_mul];rw[z7 ⟨by omega,by omega⟩,e2];rfl
     .cases h
    .cases h
   .cases h
  .cases h
 .cases h
theorem DO.sl {ty:Nat}{q:Option Nat}{k:Kind}{xs:List k.T}{v:Value}{is:List Nat}(hd:DO U ty q k xs none v is) (hn:is.Nodup) :
  ∃ a cap cs js,v=.slice a xs.length cap/\U.sl k.size v=some cs/\RowsH (KO U q k) k.size none 0 xs cs js/\(∀ i∈js,i∈is)/\js.Nodup/\cs.all cellOk=true/\cs.length=xs.length*k.size:=by
 rcases hd with⟨rfl,rfl,rfl⟩|⟨i,cap,c,t,js,rfl,rfl,h1,h3,h4,h5⟩
 .exact⟨_,_,[],[],rfl,rfl,⟨rfl,rfl⟩,λi hi=>hi,List.nodup_nil,rfl,by simp⟩
 .have hl:=h5.length KO.q0i;refine⟨_,_,c.take (xs.length*k.size),js,rfl,?_,h5,λi hi=>x4 _ hi,(xA.1 hn).2,(h5.rows (R':=KC U k) λ_ _ _ h=>h.kc).cellOk,hl⟩;have:=zn k.size h1;simp only[Heap.sl,h3]
  grind
theorem RR {α:Type}{l:List α}(h:l≠[]):l.isEmpty=false:=by simp_all
theorem Tn (aj:∀ x,SR P B pl tb (ev x) (evV x)) (hG:Gam P B F pl tb s env U) {e:El}{bytes:Nat}{x y:Operand}{b ty:Nat}{q:Option Nat}{k:Kind}{ys:List k.T}{qh:Bool}
  (hy:ev y=.dd b .out) (ho:Qb s.own b=.deep ty q k ys qh none) (gP:ty=e.ty) (aD:k.size=e.sz) :
  ∃ cs js,Q7 (.append e bytes x y) evV U=Y2 e bytes U (evV x) ys.length cs/\RowsH (KO U q k) k.size none 0 ys cs js/\js.Nodup/\(∀ i∈js,Oid (pl b) i)/\cs.length=ys.length*k.size/\e=⟨k.size,ty⟩/\(Qb s.own b).live=true:=by
 have hb:=aj y;rw[hy] at hb;simp only[SR,DR] at hb;have ak:=hG.obj b;rw[ho] at ak;obtain⟨is,d1,d2,d3,d4⟩:=DP.open ak;obtain⟨a,cap,cs,js,k1,k2,k3,k4,k5,k6,k7⟩:=d2.sl d1;rw[aD] at k2;refine⟨cs,js,?_,k3,k5,λi hi=>(d3 i).2 (k4 i hi),k7,by simp_all,by rw[ho];rfl⟩;have e1:evV y=.slice a ys.length cap:=by rw[hb.1,k1]
 rw[k1] at k2;simp only[Q7,e1,k2,k6,zq]
theorem Q9k (aj:∀ x,SR P B pl tb (ev x) (evV x)) (hG:Gam P B F pl tb s env U) {e:El}{bytes:Nat}{x y:Operand}(h:gnd C d (.append e bytes x y) ev s K):Q6j P B F tb (.append e bytes x y) evV env U K (GN d (.append e bytes x y) ev) s pl:=by
 have ha:=aj x;simp only[gnd] at h;split at h
 .rename_i b hx hy;rw[hx] at ha;simp only[SR] at ha;split at h
  .rename_i ty q k ys qh ho;split at h
   .rename_i hc;obtain⟨gP,aD⟩:=hc;cases hn:Q97 [d,b] with
    |false=>rw[hn] at h;cases h
    |true =>
     rw[hn] at h;simp only[zh,Ct,Z1t] at h;obtain⟨hb,h⟩:=h;have sub:∀ t∈[d,b],t∈GN d (.append e bytes x y) ev:=λt ht=>by simpa [GN,hx,hy,SV.thing] using ht
     obtain⟨cs,js,base,r1,r2,r3,r4,r5,r6⟩:=Tn (bytes:=bytes) (x:=x) aj hG hy ho gP aD;rw[ha] at base;by_cases hm:ys=[]
     .subst hm;obtain⟨pl',k1,k2⟩:=Q0z hG [b] d ty q k;exact⟨_,_,pl',_,_,by rw[base];rfl,h,⟨k1.1,k1.2.mono sub⟩,k2⟩
     .have dy:ys.length≠0:=(by grind);obtain⟨pl',k1,k2⟩:=MJ (mv:=[b]) (d:=d) (c:=cs) (cap:=ys.length) (t:=false) hG (by grind) r2 r5 (by rw[zL (by omega)];exact r1) (z9 _) (by omega);refine⟨_,_,pl',_,_,?_,h,by rw[RR hm];exact⟨k1.1,k1.2.mono sub⟩,k2⟩;rw[base];simp only[Y2]
      grind
   .cases h
  .cases h
 .rename_i o b hx hy;rw[hx] at ha;simp only[SR,DR] at ha;split at h
  .rename_i ty q k xs nl fQ q' k' ys qh lS ku;split at h
   .rename_i hc;obtain⟨qi,ny,aD,rfl⟩:=hc;split at h
    .rename_i fR fl;obtain rfl:=XF fl;obtain rfl:=XA fl;cases hn:Q97 [o,b] with
     |false=>rw[hn] at h;cases h
     |true =>
      rw[hn] at h;simp only[zh,Ct,Z1t] at h;obtain⟨hb,h⟩:=h;have iF:o≠b:=(by grind [List.nodup_cons,Pg,List.mem_cons_self]);have sub:∀ t∈[o,b],t∈GN d (.append e bytes x y) ev:=λt ht=>by
       have:t=o\/t=b:=by simpa using ht
       simp only[GN,hx,hy,SV.thing];simp_all
      obtain⟨cs,js,base,r1,r2,r3,r4,r5,r6⟩:=Tn (bytes:=bytes) (x:=x) aj hG hy ku ny aD;have ak:=hG.obj o;rw[lS] at ak;have aw:(Qb s.own o).live=true:=by rw[lS];rfl
      obtain⟨is,d1,d2,d3,d4⟩:=DP.open ak;have qj:fQ=ty:=ny.trans qi.symm;subst qj;rcases d2 with⟨rfl,h8,rfl⟩|⟨i,cap,c,t,jU,h8,rfl,h4,h5,h6,h7⟩
      .have gF:nl=true:=d4.2 h8;subst gF;rw[ha.1,h8] at base;simp only[List.length_nil,zQ] at hb;by_cases hm:fR=[]
       .subst hm;obtain⟨pl',k1,k2⟩:=Q0z hG [b] o fQ q k';exact⟨_,_,pl',_,_,by rw[base];rfl,h,⟨k1.1,k1.2.mono sub⟩,k2⟩
       .have dy:fR.length≠0:=(by grind);obtain⟨pl',k1,k2⟩:=MJ (mv:=[b]) (d:=o) (c:=cs) (cap:=fR.length) (t:=false) hG (by grind) r2 r5 (by rw[zL (by omega)];exact r1) (z9 _) (by omega);rw[RR hm] at h;refine⟨_,_,pl',_,_,?_,h,⟨k1.1,k1.2.mono sub⟩,k2⟩;rw[base];simp only[Y2]
        grind
      .have gF:nl=false:=by
        grind
       subst gF;rw[Bool.and_false] at h;rw[ha.1,h8] at base;have bt:F.get i=none:=hG.fresh o i aw ((d3 i).2 zF);have gi:=xA.1 d1;have iR:∀ j∈jU++js,∃ m,(m=o\/m∈[b])/\(Qb s.own m).live=true/\Oid (pl m) j:=(by grind);have gu:(jU++js).Nodup:=List.nodup_append.2 ⟨gi.2,r2,λj hj j' cN e=>by
        subst e;exact hG.sep o b j iF aw r6 ((d3 j).2 (x4 _ hj)) (r3 j cN)⟩
       have iM:i∉jU++js:=λhj=>(xj.1 hj).elim gi.1 λhj=>hG.sep o b i iF aw r6 ((d3 i).2 zF) (r3 i hj);have eK:∀ j,j≠o->j∉[b]->(Qb s.own j).live=true->¬ Oid (pl j) i:=λj hj _ hl hi=>hG.sep j o i hj hl aw hi ((d3 i).2 zF);have q1:xs.length*k'.size<=cap*k'.size:=zn _ h4;have nk:RowsH (KO U q k') k'.size none 0 (xs++fR) (c.take (xs.length*k'.size)++cs) (jU++js):=h7.append r1;have eo:=nk.length KO.q0i;have ao:∀ {j},j∈jU++js->j<U.n:=λhj=>by obtain⟨m,_,h2,h3⟩:=iR _ hj;exact(hG.obj m).q0y h2 h3
       simp only[Y2,h5] at base;rw[<-r5,z7 ⟨rfl,h4,by rw[<-aD];omega⟩] at base;by_cases hm:fR=[]
       .subst hm;simp only[List.length_nil,zq] at base;have qk:RowsH (KO U q k') k'.size none 0 (xs++[]) (c.take ((xs++[]).length*k'.size)) (jU++js):=by
         grind [List.length_eq_zero_iff]
        obtain⟨pl',k1,k2⟩:=BO (mv:=[b]) (d:=o) (n0:=i) (cap:=cap) hG hG.le iR gu iM bt eK h5 rfl (λ_ _=>rfl) (λ_ _ _ _ _ _=>rfl) qk (by simpa using h4) h6;refine⟨_,_,pl',_,_,?_,h,⟨k1.1,k1.2.mono sub⟩,k2⟩;rw[base];simp
       .have dy:fR.length≠0:=(by grind);rw[z6 dy] at base;by_cases aM:xs.length+fR.length<=cap
        .have ff:(xs.length+fR.length)*k'.size<=cap*k'.size:=zn _ aM;have dE:xs.length*k'.size+fR.length*k'.size<=cap*k'.size:=by rw[<-zI];exact ff
         rw[z7 aM,z7 ⟨trivial,by rw[<-aD];omega⟩] at base;have aW:RowsH (KO U q k') k'.size none 0 (xs++fR) ((WR c (0+xs.length*e.sz) cs).take ((xs++fR).length*k'.size)) (jU++js):=by
          have dL:0+xs.length*e.sz+cs.length<=c.length:=by rw[<-aD];omega
          rw[Nq dL,<-aD,zQ,List.take_left' (by rw[eo])];exact nk
         obtain⟨pl',k1,k2⟩:=BO (U':=U.upd i (.cells (WR c (0+xs.length*e.sz) cs) e true t)) (mv:=[b]) (d:=o) (n0:=i) (cap:=cap) hG (hG.le.upd bt _) iR gu iM bt eK (Heap.q0d _ _ (U.lt h5)) r5
          (by grind [Heap.q0b]) (by grind [Heap.q0b]) aW (by rw[zk];exact aM) (by rw[Yw];exact h6)
         exact⟨_,_,pl',_,_,by rw[base,zk],h,⟨k1.1,k1.2.mono sub⟩,k2⟩
        .rw[z6 aM,z7 (by simpa using hb)] at base;have gL:((c.drop 0).take (xs.length*e.sz)++cs)=c.take (xs.length*k'.size)++cs:=by rw[xy,aD]
         rw[gL] at base;have rU:RowsH (KO U q k') k'.size none 0 (xs++fR) ((c.take (xs.length*k'.size)++cs).take ((xs++fR).length*k'.size)) (jU++js):=by
          grind
         cases t with
         |true =>simp only[zq] at base;obtain⟨pl',k1,k2⟩:=MJ (mv:=[b]) (d:=o) (c:=c.take (xs.length*k'.size)++cs) (cap:=(xs++fR).length) (t:=false) hG iR gu r5 rU (z9 _) (by rw[eo];exact z9 _);exact⟨_,_,pl',_,_,by rw[base,zk],h,⟨k1.1,k1.2.mono sub⟩,k2⟩
         |false =>
          simp only[zr,if_false,zq] at base;have hn:(U.kill i).n=U.n:=rfl
          obtain⟨pl',k1,k2⟩:=BO (U':=(U.kill i).push (.cells (c.take (xs.length*k'.size)++cs) e true false)) (mv:=[b]) (d:=o) (n0:=U.n) (cap:=(xs++fR).length) hG ((hG.le.kill bt).push _) iR gu (λh=>wB _ (ao h)) hG.le.fresh (λj _ _ hl ho=>wB _ ((hG.obj j).q0y hl ho)) (by rw[<-hn,Heap.q0a]) r5
           (by grind [Heap.q0h,Heap.q0c]) (λj i' hj fL hl hi=>by
            rw[Heap.q0h _ _ (show i'<(U.kill i).n from (hG.obj j).q0y hl hi)]
            grind [Heap.q0c]) rU (z9 _) (by rw[eo];exact z9 _)
          exact⟨_,_,pl',_,_,by rw[base,zk],h,⟨k1.1,k1.2.mono sub⟩,k2⟩
    .cases h
   .cases h
  .cases h
 .cases h
theorem La (aj:∀ x,SR P B pl tb (ev x) (evV x)) (hG:Gam P B F pl tb s env U) {o:VOp}(h:gnd C d o ev s K):Q6j P B F tb o evV env U K (GN d o ev) s pl:=by
 cases o with
 |buildSlice e z n ps=>exact IE aj hG h
 |append e bytes x y=>exact Q9k aj hG h
 |_=>cases h
end
end
end Go.V
namespace Go.V
open Go
def Yv:Nat->Value:=λ_=>poison
def Wp:Nat->Option Bool:=λ_=>none
def hNil:Heap:=⟨λ_=>none,0,λ_ _=>rfl⟩
theorem Q17 (B:Heap):hNil.Le B:=⟨Nat.zero_le _,λi b h=>by cases h⟩
section
variable {P:Program}
mutual
theorem SR.retd {B B':Heap}{pl pl':Nat->Value}{tb tb':Nat->Option Bool}{n:Nat}(hp:∀ j,j<n->pl' j=pl j) :
  ∀ (s:SV) (v:Value),s.ret n=true->SR P B pl tb s v->SR P B' pl' tb' s v
 |.any,_,h,_|.bid _ _,_,h,_|.grd _ _,_,h,_|.sub _ _ _ _,_,h,_|.elp _ _ _ _,_,h,_|.rop _ _ _ _,_,h,_|.cp _ _,_,h,_|.fn _ _ _,_,h,_|.pf _ _ _ _,_,h,_=>by cases h
 |.val k x,v,h,hs=>by simp only[SR] at hs |-;exact KC.flat h hs
 |.nilS,v,_,hs|.nilP,v,_,hs|.nilM,v,_,hs|.nilF,v,_,hs=>by simp only[SR] at hs |-;exact hs
 |.lst j,v,h,hs=>by
  have hj:j<n:=by simpa [SV.ret,zB] using h
  simp only[SR] at hs |-;rw[hp j hj];exact hs
 |.map j,v,h,hs=>by
  have hj:j<n:=by simpa [SV.ret,zB] using h
  simp only[SR] at hs |-;rw[hp j hj];exact hs
 |.dd j w,v,h,hs=>by
  cases w with
  |out =>
   have hj:j<n:=by simpa [SV.ret,zB] using h
   simp only[SR] at hs |-;rw[hp j hj];exact hs
  |_=>cases h
 |.box j off,v,h,hs=>by
  have hj:j<n:=by simpa [SV.ret,zB] using h
  simp only[SR] at hs |-;rw[hp j hj];exact hs
 |.agg l,v,h,hs=>by simp only[SR] at hs |-;obtain⟨cs,h1,h2⟩:=hs;exact⟨cs,h1,SRs.retd hp l cs h h2⟩
 |.tup l,v,h,hs=>by simp only[SR] at hs |-;obtain⟨cs,h1,h2⟩:=hs;exact⟨cs,h1,SRs.retd hp l cs h h2⟩
theorem SRs.retd {B B':Heap}{pl pl':Nat->Value}{tb tb':Nat->Option Bool}{n:Nat}(hp:∀ j,j<n->pl' j=pl j) :
  ∀ (s:List SV) (v:List Value),SVs.ret n s=true->SRs P B pl tb s v->SRs P B' pl' tb' s v
 |[],v,_,hs=>by simp only[SRs] at hs |-;exact hs
 |s::ss,v,h,hs=>by simp only[SVs.ret,z0] at h;simp only[SRs] at hs |-;obtain⟨x,y,h1,h2,h3⟩:=hs;exact⟨x,y,h1,SR.retd hp s x h.1 h2,SRs.retd hp ss y h.2 h3⟩
end
mutual
theorem SR.ren {B:Heap}{pl pl':Nat->Value}{tb tb':Nat->Option Bool}{n d nt:Nat}(hp:∀ j,j<n->pl' (d+j*nt)=pl j) :
  ∀ (s:SV) (v:Value),s.ret n=true->SR P B pl tb s v->SR P B pl' tb' (s.ren d nt) v
 |.any,_,h,_|.bid _ _,_,h,_|.grd _ _,_,h,_|.sub _ _ _ _,_,h,_|.elp _ _ _ _,_,h,_|.rop _ _ _ _,_,h,_|.cp _ _,_,h,_|.fn _ _ _,_,h,_|.pf _ _ _ _,_,h,_=>by cases h
 |.val k x,v,h,hs=>by simp only[SR,SV.ren] at hs |-;exact hs
 |.nilS,v,_,hs|.nilP,v,_,hs|.nilM,v,_,hs|.nilF,v,_,hs=>by simp only[SR,SV.ren] at hs |-;exact hs
 |.lst j,v,h,hs=>by
  have hj:j<n:=by simpa [SV.ret,zB] using h
  simp only[SR,SV.ren] at hs |-;rw[hp j hj];exact hs
 |.map j,v,h,hs=>by
  have hj:j<n:=by simpa [SV.ret,zB] using h
  simp only[SR,SV.ren] at hs |-;rw[hp j hj];exact hs
 |.dd j w,v,h,hs=>by
  cases w with
  |out =>
   have hj:j<n:=by simpa [SV.ret,zB] using h
   simp only[SR,SV.ren] at hs |-;rw[hp j hj];exact hs
  |_=>cases h
 |.box j off,v,h,hs=>by
  have hj:j<n:=by simpa [SV.ret,zB] using h
  simp only[SR,SV.ren] at hs |-;rw[hp j hj];exact hs
 |.agg l,v,h,hs=>by simp only[SR,SV.ren] at hs |-;obtain⟨cs,h1,h2⟩:=hs;exact⟨cs,h1,SRs.ren hp l cs h h2⟩
 |.tup l,v,h,hs=>by simp only[SR,SV.ren] at hs |-;obtain⟨cs,h1,h2⟩:=hs;exact⟨cs,h1,SRs.ren hp l cs h h2⟩
theorem SRs.ren {B:Heap}{pl pl':Nat->Value}{tb tb':Nat->Option Bool}{n d nt:Nat}(hp:∀ j,j<n->pl' (d+j*nt)=pl j) :
  ∀ (s:List SV) (v:List Value),SVs.ret n s=true->SRs P B pl tb s v->SRs P B pl' tb' (SVs.ren d nt s) v
 |[],v,_,hs=>by simp only[SRs,SVs.ren] at hs |-;exact hs
 |s::ss,v,h,hs=>by simp only[SVs.ret,z0] at h;simp only[SRs,SVs.ren] at hs |-;obtain⟨x,y,h1,h2,h3⟩:=hs;exact⟨x,y,h1,SR.ren hp s x h.1 h2,SRs.ren hp ss y h.2 h3⟩
end
theorem MR.flat {B B':Heap}{kk vk:Kind}(h1:kk.flat=true) (h2:vk.flat=true):∀ {m:List (kk.T×vk.T)}{es:List Wl},MR B kk vk m es->MR B' kk vk m es
 |[],es,h=>h
 |m::ms,es,h=>by obtain⟨e,bM,k1,k2,k3,k4⟩:=h;exact⟨e,bM,k1,k2.flat h1,k3.flat h2,MR.flat h1 h2 k4⟩
theorem OR.retd {B B':Heap}{pl pl':Nat->Value}{tb tb':Nat->Option Bool}{U U':Heap}{p:Value}{b:OB}(hb:b.ret=true) (h:OR P B pl tb U p b) (hg:∀ i,Oid p i->U'.get i=U.get i):OR P B' pl' tb' U' p b:=by
 cases b with
 |dead=>trivial
 |lst ty k xs nl =>
  rcases h with h|⟨h0,i,cap,c,t,h1,h2,h3,h4,h5⟩
  .exact .inl h
  .exact .inr ⟨h0,i,cap,c,t,h1,h2,by rw[hg i (by rw[h1];rfl)];exact h3,h4,h5.mono λ_ _ e=>KC.flat hb e⟩
 |cells l u =>obtain⟨i,c,e,t,h1,h2,h3,h4⟩:=h;exact⟨i,c,e,t,h1,by rw[hg i (by rw[h1];rfl)];exact h2,SRs.retd (n:=0) (λj hj=>by omega) l c hb h3,h4⟩
 |map kk vk m =>simp only[OB.ret,z0] at hb;obtain⟨i,es,clock,h1,h2,h3⟩:=h;exact⟨i,es,clock,h1,by rw[hg i (by rw[h1];rfl)];exact h2,h3.1.flat hb.1 hb.2,h3.2⟩
 |stk l vals=>cases hb
 |deep ty q k xs nl hh=>exact DP.mono h hg
 |mapE kk vk m key n=>cases hb
 |fm ik l=>cases hb
 |iter kk vk m dn=>cases hb
 |rmap kk vk m=>cases hb
 |siter l pos=>cases hb
 |lpf l q s=>cases hb
def FI:(k:Kind)->k.T->List Value
 |.i ik,x=>[.int ik x]
 |.bo,x=>[.bool x]
 |.st,x=>[.string ⟨x.toArray⟩]
 |.list _,_=>[]
 |.pair a b,x=>FI a x.1++FI b x.2
def Q88:OB->Option Blk
 |.lst ty k xs nl=>if nl then none else some (.cells (xs.map (FI k)).flatten ⟨k.size,ty⟩ true false)
 |_=>none
def SU (U:Heap) (bs:List OB):Heap where
 get i:=if i<U.n then U.get i else (bs[i-U.n]?).bind Q88
 n:=U.n+bs.length
 wf i h:=by
  grind
def MA (U:Heap) (bs:List OB) (j:Nat):Value:=match bs[j]? with
 |some (.lst _ _ xs nl)=>if nl then .slice none 0 0 else .slice (some ⟨U.n+j,0,none⟩) xs.length xs.length
 |_=>poison
mutual
def UC (p:Nat->Value):SV->Value
 |.val k x=>(FI k x).headD poison
 |.nilS=>.slice none 0 0
 |.nilP=>.pointer none
 |.nilM=>.map none
 |.nilF=>.nilFunc
 |.lst j=>p j
 |.agg l=>.agg (Vt p l).toArray
 |.tup l=>.tuple (Vt p l).toArray
 |_=>poison
def Vt (p:Nat->Value):List SV->List Value
 |[]=>[]
 |s::ss=>UC p s::Vt p ss
end
def Dead (U U':Heap):Prop:=U.n<=U'.n/\∀ i,i<U.n->U.get i=none->U'.get i=none
theorem Dead.refl (U:Heap):Dead U U:=⟨z9 _,λ_ _ h=>h⟩
theorem Dead.trans {σ0 U U':Heap}(h:Dead σ0 U) (h':Dead U U'):Dead σ0 U':=⟨zO h.1 h'.1,λi hi hg=>h'.2 i (x3 hi h.1) (h.2 i hi hg)⟩
def Ret (P:Program) (U:Heap) (v:SV) (bs:List OB) (u:Value) (U':Heap):Prop :=
 (U.Le U'/\Dead U U')/\(bs=[]->U'=U)/\∃ pl:Nat->Value,(∀ j b,bs[j]?=some b->OR P hNil pl Wp U' (pl j) b/\∀ i,Oid (pl j) i->U.get i=none/\U.n<=i) /\
  (∀ j j' i,j<bs.length->j'<bs.length->j≠j'->Oid (pl j) i->Oid (pl j') i->False)/\SR P hNil pl Wp v u
def Z2g (P:Program) (ap:SV->List SV->Option (Prop×SV)):Prop :=
 ∀ U f args c v fV vs,SR P U Yv Wp f fV->SRs P U Yv Wp args vs->ap f args=some (c,v)->c->v.ret 0=true/\∃ g a b,fV=.func (.func g) a b/\VCalled P g (a.toList++vs++b.toList) U λu U'=>U'=U/\SR P hNil Yv Wp v u
def OkC (P:Program) (f:Nat) (sp:CSp):Prop :=
 ∀ ap,Z2g P ap->∀ U args vs c v bs,SRs P U Yv Wp args vs->sp ap args=some (c,v,bs)->v.ret bs.length=true->bs.all OB.ret=true->c->(VCalled P f vs U λu U'=>Ret P U v bs u U') /\
  (bs.all OB.isL=true->UM v=true->VCalled P f vs U λu U'=>u=UC (MA U bs) v/\U'=SU U bs)
def CsOk (P:Program) (cs:List (Nat×CSp)):Prop:=∀ f sp,QQ cs f=some sp->OkC P f sp
theorem VCalled.mono {f:FuncId}{args:List Value}{U:Heap}{R R':Value->Heap->Prop}(h:VCalled P f args U R) (hr:∀ v U',R v U'->R' v U'):VCalled P f args U R':=by
 intro ρ w ax hH hL;rcases h ρ w ax hH hL with⟨h1,h2⟩|⟨c,h1,h2⟩
 .exact .inl ⟨h1,h2.mono λ_ _ ⟨c,he,hg⟩=>⟨c,he,hg.mono hr⟩⟩
 .exact .inr ⟨c,h1.mono hr,h2⟩
theorem Sb {B:Heap}{pl:Nat->Value}{tb:Nat->Option Bool}{k:Kind}{v:SV}{u:Value}{x:k.T}(h:gap.asV k v=some x) (hs:SR P B pl tb v u):KV B k x u:=by
 unfold gap.asV at h;cases bN:k.one with
 |true =>rw[bN] at h;exact .inl ⟨bN,QR h (by simp only[SRs];exact⟨u,[],rfl,hs,rfl⟩)⟩
 |false =>
  rw[bN] at h;simp only[zP] at h;split at h
  .simp only[SR] at hs;obtain⟨cs,rfl,hs⟩:=hs;exact .inr ⟨bN,cs,rfl,QR h hs⟩
  .cases h
theorem Au {B:Heap}{pl:Nat->Value}{tb:Nat->Option Bool}:∀ {ks:List Kind}{args:List SV}{x:AT ks}{vs:List Value},gap.deca ks args=some x->SRs P B pl tb args vs->AH B ks x vs
 |[],[],x,vs,_,hs=>by simp only[SRs] at hs;exact hs
 |[],_::_,x,vs,h,_=>by cases h
 |[k],[],x,vs,h,_=>by cases h
 |[k],[v],x,vs,h,hs=>by obtain⟨u,rfl,h1⟩:=hs.one;exact⟨u,rfl,Sb h h1⟩
 |[k],_::_::_,x,vs,h,_=>by cases h
 |k::k'::ks,[],x,vs,h,_=>by cases h
 |k::k'::ks,v::args,x,vs,h,hs=>by
  simp only[gap.deca] at h;split at h
  .rename_i y z h1 h2;obtain rfl:=osj h;simp only[SRs] at hs;obtain⟨u,us,rfl,h3,h4⟩:=hs;exact⟨u,us,rfl,Sb h1 h3,Au h2 h4⟩
  .cases h
theorem Ret.flat {U U':Heap}{v:SV}{u:Value}(h:Ret P U v [] u U') (hv:v.ret 0=true):U'=U/\SR P hNil Yv Wp v u:=by obtain⟨_,h2,pl,_,_,h5⟩:=h;exact⟨h2 rfl,h5.retd (λj hj=>by omega) _ _ hv⟩
theorem KV.vcall {B U:Heap}(hB:B.Le U) {k:Kind}{x:k.T}{v:Value}(h:KV B k x v):KV U k x v:=by
 rcases h with⟨h1,h2⟩|⟨h1,cs,h2,h3⟩
 .exact .inl ⟨h1,h2.mono hB⟩
 .exact .inr ⟨h1,cs,h2,h3.mono hB⟩
theorem Pj:∀ {k:Kind}{x:k.T},k.flat=true->SVs.ret 0 (G2 k x)=true
 |.i _,_,_|.bo,_,_|.st,_,_=>rfl
 |.list _,_,h=>by cases h
 |.pair a b,x,h=>by
  simp only[Kind.flat,z0] at h;have app:∀ l m:List SV,SVs.ret 0 l=true->SVs.ret 0 m=true->SVs.ret 0 (l++m)=true:=by
   intro l m hl hm;induction l with
   |nil=>exact hm
   |cons s l ih =>simp only[SVs.ret,z0,xI] at hl |-;exact⟨hl.1,ih hl.2⟩
  exact app _ _ (Pj h.1) (Pj h.2)
theorem Q80 {k:Kind}{x:k.T}(h:k.flat=true):(Q7j k x).ret 0=true:=by
 cases k with
 |pair a b=>exact Pj (k:=.pair a b) h
 |list k=>cases h
 |_=>rfl
theorem AI {cs:List (Nat×CSp)}(h:CsOk P cs):∀ n,Z2g P (gap cs n)
 |0=>λU f args c v fV vs _ _ h=>by cases h
 |n+1=>by
  intro U f args c v fV vs hf ha hg hc;cases f with
  |fn g a b =>
   simp only[gap] at hg;split at hg
   .rename_i sp eX;split at hg
    .rename_i c' v' heq;cases hv:v'.ret 0 with
     |false=>rw[hv] at hg;cases hg
     |true =>rw[hv] at hg;simp only[zh,x8,Prod.mk.injEq] at hg;obtain⟨rfl,rfl⟩:=hg;simp only[SR] at hf;obtain⟨x,y,rfl,h1,h2⟩:=hf;refine⟨hv,g,x.toArray,y.toArray,rfl,?_⟩;have:=(h g sp eX (gap cs n) (AI h n) U (a++args++b) (x++vs++y) c' v' [] ((h1.append ha).append h2) heq hv rfl hc).1;simpa using this.mono λu U' hr=>hr.flat hv
    .cases hg
   .cases hg
  |pf ks r cD p =>
   simp only[gap] at hg;split at hg
   .rename_i x hx;cases hr:r.flat with
    |false=>rw[hr] at hg;cases hg
    |true =>rw[hr] at hg;obtain⟨rfl,rfl⟩:=ZN hg;simp only[SR] at hf;obtain⟨g,first,cap,rfl,aF⟩:=hf;have h2:=aF x hc U vs (Heap.Le.refl _) (Au hx ha);have dg:=Q80 (x:=p x) hr;exact⟨dg,g,first,cap,rfl,h2.mono λu U' hu=>⟨hu.1,(Yy (P:=P) (pl:=Yv) (tb:=Wp) hu.2).retd (λj hj=>by omega) _ _ dg⟩⟩
   .cases hg
  |_=>cases hg
end
end Go.V
namespace Go.V
open Go
theorem DropTo.rename2 {σ0 σf U':Heap}{v v':Value}(π:Nat->Nat) (h1:σ0.n<=U'.n)
  (h2:∀ i,i<σ0.n->π i=i/\U'.get i=σf.get i/\(σf.get i=σ0.get i\/∃ b,σf.get i=some b/\b.plain=true))
  (h3:∀ i,σ0.n<=i->i<U'.n->σ0.n<=π i/\((U'.get i=none/\σf.get (π i)=none)\/∃ b' b,U'.get i=some b'/\σf.get (π i)=some b/\BRen U'.n π b' b))
  (h4:∀ i j,σ0.n<=i->i<U'.n->σ0.n<=j->j<U'.n->π i=π j->i=j) (h5:Ren U'.n π v' v):DropTo σ0 v σf v' U':=by
 intro ρ0 w0 ρ w c fI hE hH hv;have hπ:∀ i,i<σ0.n->π i=i:=λi hi=>(h2 i hi).1;have aE:∀ i b',U'.get i=some b'->∃ b,σf.get (π i)=some b/\BRen U'.n π b' b:=λi b' hb=>by
  have hi:=U'.lt hb;rcases zm i σ0.n with ao|bZ
  .obtain⟨k1,k2,k3⟩:=h2 i ao;rw[k1];rw[k2] at hb;refine⟨b',hb,?_⟩;rcases k3 with k3|⟨b,k3,k4⟩
   .rw[k3] at hb;obtain⟨p,_,hB⟩:=fI.live i b' hb;exact hB.ren h1 hπ
   grind [osj,BRen.plain]
  grind
 have eI:∀ i j,i<U'.n->j<U'.n->π i=π j->i=j:=(by grind);have hX:Ext ρ0 σ0 w0 (λi=>if i<U'.n then ρ (π i) else none) U' w:=by
  refine⟨hE.os,hE.tape,hE.output,hE.size,hE.keep,?_,h1,λi hi p hp=>?_⟩
  .rintro B hB ⟨i,p,b,hp,hb,hw,rfl⟩;change (if i<U'.n then ρ (π i) else none)=some p at hp;split at hp
   .obtain⟨b0,bQ,b9⟩:=aE i b hb;exact hE.wr _ hB ⟨π i,p,b0,hp,bQ,by rw[<-b9.wr];exact hw,rfl⟩
   .cases hp
  .change (if i<U'.n then ρ (π i) else none)=some p at hp;split at hp
   .rw[hπ i hi] at hp;exact hE.pl i hi p hp
   .cases hp
 refine⟨λi=>if i<U'.n then ρ (π i) else none,h5.rel hv,fI.ext ⟨λi b' hb=>?_,λi hi=>?_,λi p hp=>?_,λi j p q b cy hp hq hb hw hx=>?_⟩ hX,hX⟩
 .obtain⟨b,bQ,b9⟩:=aE i b' hb;obtain⟨p,hp,hB⟩:=hH.live _ b bQ;exact⟨p,by simp[U'.lt hb,hp],b9.rel hB⟩
 .show (if i<U'.n then ρ (π i) else none)=none;split
  .rename_i ao;rcases zm i σ0.n with cM|bZ
   .obtain⟨k1,k2,_⟩:=h2 i cM;rw[k1];exact hH.dead i (by rw[<-k2];exact hi)
   .obtain⟨_,⟨_,k2⟩|⟨b1,b,k1,_⟩⟩:=h3 i bZ ao
    .exact hH.dead _ k2
    .rw[k1] at hi;cases hi
  .rfl
 .change (if i<U'.n then ρ (π i) else none)=some p at hp;split at hp
  .exact hH.lt _ p hp
  .cases hp
 .change (if i<U'.n then ρ (π i) else none)=some p at hp;change (if j<U'.n then ρ (π j) else none)=some q at hq;split at hp
  .rename_i hi;split at hq
   .rename_i hj;obtain⟨b0,bQ,b9⟩:=aE i b hb;exact hH.sep (π i) (π j) p q b0 (λe=>cy (eI i j hi hj e)) hp hq bQ (by rw[<-b9.wr];exact hw) hx
   .cases hq
  .cases hp
theorem KC.enc {h:Heap}:∀ {k:Kind}{x:k.T}{cs:List Value},k.flat=true->KC h k x cs->cs=FI k x
 |.i _,_,_,_,e|.bo,_,_,_,e|.st,_,_,_,e=>e
 |.list _,_,_,f,_=>by cases f
 |.pair a b,x,cs,f,e=>by simp only[Kind.flat,z0] at f;obtain⟨c1,c2,rfl,h1,h2⟩:=e;rw[KC.enc f.1 h1,KC.enc f.2 h2];rfl
theorem Rows.enc {h:Heap}{k:Kind}(hk:k.flat=true) {xs:List k.T}{cs:List Value}(hr:Rows (KC h k) xs cs):cs=(xs.map (FI k)).flatten:=by
 induction hr with
 |nil=>rfl
 |cons h _ ih=>rw[xm,List.flatten_cons,<-ih,KC.enc hk h]
theorem H_:∀ {k:Kind}{x:k.T},k.flat=true->(FI k x).all Zy=true
 |.i _,_,_|.bo,_,_|.st,_,_=>rfl
 |.list _,_,h=>by cases h
 |.pair a b,x,h=>by simp only[Kind.flat,z0] at h;simp only[FI,List.all_append,z0];exact⟨H_ h.1,H_ h.2⟩
section
variable {P:Program}
mutual
theorem Nk {B:Heap}{pl:Nat->Value}{tb:Nat->Option Bool}{n:Nat}:∀ (s:SV) (v:Value),s.ret n=true->UM s=true->SR P B pl tb s v->v=UC pl s
 |.val k x,v,h,_,hs=>by simp only[SR] at hs;have:=KC.enc h hs;simp only[UC,<-this,List.headD_cons]
 |.nilS,v,_,_,hs|.nilP,v,_,_,hs|.nilM,v,_,_,hs|.nilF,v,_,_,hs=>by simp only[SR] at hs;exact hs
 |.lst j,v,_,_,hs=>by simp only[SR] at hs;exact hs.1
 |.agg l,v,h,hb,hs=>by simp only[SR] at hs;obtain⟨cs,rfl,h2⟩:=hs;rw[BB l cs h hb h2];rfl
 |.tup l,v,h,hb,hs=>by simp only[SR] at hs;obtain⟨cs,rfl,h2⟩:=hs;rw[BB l cs h hb h2];rfl
 |.box _ _,_,_,hb,_|.map _,_,_,hb,_=>by cases hb
 |.any,_,h,_,_|.bid _ _,_,h,_,_|.grd _ _,_,h,_,_|.sub _ _ _ _,_,h,_,_|.elp _ _ _ _,_,h,_,_|.rop _ _ _ _,_,h,_,_|.cp _ _,_,h,_,_|.fn _ _ _,_,h,_,_|.pf _ _ _ _,_,h,_,_=>by cases h
theorem BB {B:Heap}{pl:Nat->Value}{tb:Nat->Option Bool}{n:Nat}:∀ (s:List SV) (v:List Value),SVs.ret n s=true->Gj s=true->SRs P B pl tb s v->v=Vt pl s
 |[],v,_,_,hs=>by simp only[SRs] at hs;exact hs
 |s::ss,v,h,hb,hs=>by simp only[SVs.ret,z0] at h;simp only[Gj,z0] at hb;simp only[SRs] at hs;obtain⟨x,y,rfl,h1,h2⟩:=hs;rw[Nk s x h.1 hb.1 h1,BB ss y h.2 hb.2 h2];rfl
end
theorem Q5l {k:Kind}{x:k.T}(h:k.flat=true):Zy ((FI k x).headD poison)=true\/(FI k x).headD poison=poison:=by
 have:=H_ (x:=x) h;cases e:FI k x with
 |nil=>exact .inr rfl
 |cons a l=>rw[e] at this;simp only[zW,z0] at this;exact .inl this.1
mutual
theorem Q1r {n m:Nat}{π:Nat->Nat}{p q:Nat->Value}(h:∀ j,j<m->Ren n π (p j) (q j)):∀ (s:SV),s.ret m=true->UM s=true->Ren n π (UC p s) (UC q s)
 |.val k x,hr,_=>by
  simp only[UC];rcases Q5l (x:=x) hr with h|h
  .exact .plain _ h
  .rw[h];exact .poison _
 |.nilS,_,_|.nilP,_,_|.nilM,_,_|.nilF,_,_=>.plain _ rfl
 |.lst j,hr,_=>h j (by simpa [SV.ret,zB] using hr)
 |.agg l,hr,hb=>by have:=SZ h l hr hb;simp only[UC];refine .agg _ _ (by simpa using this.1) λi h1 h2=>this.2 i _ _ (by simp) (by simp)
 |.tup l,hr,hb=>by have:=SZ h l hr hb;simp only[UC];refine .tuple _ _ (by simpa using this.1) λi h1 h2=>this.2 i _ _ (by simp) (by simp)
 |.box _ _,_,hb|.map _,_,hb=>by cases hb
 |.any,h,_|.bid _ _,h,_|.grd _ _,h,_|.sub _ _ _ _,h,_|.elp _ _ _ _,h,_|.rop _ _ _ _,h,_|.cp _ _,h,_|.fn _ _ _,h,_|.pf _ _ _ _,h,_=>by cases h
theorem SZ {n m:Nat}{π:Nat->Nat}{p q:Nat->Value}(h:∀ j,j<m->Ren n π (p j) (q j)):∀ (s:List SV),SVs.ret m s=true->Gj s=true->LRen n π (Vt p s) (Vt q s)
 |[],_,_=>⟨rfl,λi v c hv=>by simp[Vt] at hv⟩
 |s::ss,hr,hb=>by
  simp only[SVs.ret,z0] at hr;simp only[Gj,z0] at hb;have h1:=Q1r h s hr.1 hb.1;have h2:=SZ h ss hr.2 hb.2;refine⟨by simp[Vt,h2.1],λi v c hv hc=>?_⟩;cases i with
  |zero=>simp[Vt] at hv hc;subst hv;subst hc;exact h1
  |succ i=>simp[Vt] at hv hc;exact h2.2 i v c hv hc
end
mutual
theorem Iy {m:Nat}{S:Nat->Prop}{p q:Nat->Value}(h:∀ j,j<m->Weak S (p j) (q j)):∀ (s:SV),s.ret m=true->UM s=true->Weak S (UC p s) (UC q s)
 |.val k x,_,_=>.refl _
 |.nilS,_,_|.nilP,_,_|.nilM,_,_|.nilF,_,_=>.refl _
 |.lst j,hr,_=>h j (by simpa [SV.ret,zB] using hr)
 |.agg l,hr,hb=>by have:=Px h l hr hb;simp only[UC];exact .agg _ _ this.1 this.2
 |.tup l,hr,hb=>by have:=Px h l hr hb;simp only[UC];exact .tuple _ _ this.1 this.2
 |.box _ _,_,hb|.map _,_,hb=>by cases hb
 |.any,h,_|.bid _ _,h,_|.grd _ _,h,_|.sub _ _ _ _,h,_|.elp _ _ _ _,h,_|.rop _ _ _ _,h,_|.cp _ _,h,_|.fn _ _ _,h,_|.pf _ _ _ _,h,_=>by cases h
theorem Px {m:Nat}{S:Nat->Prop}{p q:Nat->Value}(h:∀ j,j<m->Weak S (p j) (q j)):∀ (s:List SV),SVs.ret m s=true->Gj s=true->(Vt p s).length=(Vt q s).length/\∀ (i:Nat) (a b:Value),(Vt p s)[i]?=some a->(Vt q s)[i]?=some b->Weak S a b
 |[],_,_=>⟨rfl,λi v c hv=>by simp[Vt] at hv⟩
 |s::ss,hr,hb=>by
  simp only[SVs.ret,z0] at hr;simp only[Gj,z0] at hb;have h1:=Iy h s hr.1 hb.1;have h2:=Px h ss hr.2 hb.2;refine⟨by simp[Vt,h2.1],λi v c hv hc=>?_⟩;cases i with
  |zero=>simp[Vt] at hv hc;subst hv;subst hc;exact h1
  |succ i=>simp[Vt] at hv hc;exact h2.2 i v c hv hc
end
theorem KC.ofEnc {h:Heap}:∀ {k:Kind}{x:k.T},k.flat=true->KC h k x (FI k x)
 |.i _,_,_|.bo,_,_|.st,_,_=>by simp[KC,FI]
 |.list _,_,f=>by cases f
 |.pair a b,x,f=>by simp only[Kind.flat,z0] at f;exact⟨_,_,rfl,KC.ofEnc f.1,KC.ofEnc f.2⟩
theorem Rows.ofEnc {h:Heap}{k:Kind}(hk:k.flat=true):∀ xs:List k.T,Rows (KC h k) xs (xs.map (FI k)).flatten
 |[]=>.nil
 |x::xs=>by rw[xm,List.flatten_cons];exact .cons (KC.ofEnc hk) (Rows.ofEnc hk xs)
mutual
theorem Eh {pl:Nat->Value}{m:Nat}(h:∀ j,j<m->∃ a n c,pl j=.slice a n c):∀ (s:SV),s.ret m=true->UM s=true->SR P hNil pl Wp s (UC pl s)
 |.val k x,hr,hb=>by have h1:=KC.ofEnc (h:=hNil) (x:=x) hr;have h2:=KC.length h1;rw[Kind.q1r hb] at h2;obtain⟨c,e⟩:=zR.1 h2;simp only[UC,SR,e,List.headD_cons];rw[e] at h1;exact h1
 |.nilS,_,_|.nilP,_,_|.nilM,_,_|.nilF,_,_=>by simp[UC,SR]
 |.lst j,hr,_=>by simp only[UC,SR];exact⟨trivial,h j (by simpa [SV.ret,zB] using hr)⟩
 |.agg l,hr,hb=>by simp only[UC,SR];exact⟨_,rfl,E0 h l hr hb⟩
 |.tup l,hr,hb=>by simp only[UC,SR];exact⟨_,rfl,E0 h l hr hb⟩
 |.box _ _,_,hb|.map _,_,hb=>by cases hb
 |.any,h,_|.bid _ _,h,_|.grd _ _,h,_|.sub _ _ _ _,h,_|.elp _ _ _ _,h,_|.rop _ _ _ _,h,_|.cp _ _,h,_|.fn _ _ _,h,_|.pf _ _ _ _,h,_=>by cases h
theorem E0 {pl:Nat->Value}{m:Nat}(h:∀ j,j<m->∃ a n c,pl j=.slice a n c):∀ (s:List SV),SVs.ret m s=true->Gj s=true->SRs P hNil pl Wp s (Vt pl s)
 |[],_,_=>by simp[Vt,SRs]
 |s::ss,hr,hb=>by simp only[SVs.ret,z0] at hr;simp only[Gj,z0] at hb;simp only[Vt,SRs];exact⟨_,_,rfl,Eh h s hr.1 hb.1,E0 h ss hr.2 hb.2⟩
end
theorem Z2r {U:Heap}{bs:List OB}(hl:bs.all OB.isL=true) {j:Nat}(hj:j<bs.length):∃ a n c,MA U bs j=.slice a n c:=by
 have hb:=zg.1 hl _ (zl hj);simp only[MA,z8 hj];cases e:bs[j] with
 |lst ty k xs nl=>cases nl<;>simp
 |_=>rw[e] at hb;cases hb
theorem Q3w {σ0 σf:Heap}(hA:Agree σ0 σf) (hn:σ0.n<=σf.n) {v:SV}{bs:List OB}(hv:v.ret bs.length=true) (cK:UM v=true) (hb:bs.all OB.ret=true) (hl:bs.all OB.isL=true) {pl:Nat->Value}{u:Value}
  (ak:∀ j b,bs[j]?=some b->OR P hNil pl Wp σf (pl j) b/\∀ i,oid (pl j)=some i->σ0.n<=i)
  (eK:∀ j j' i,j<bs.length->j'<bs.length->j≠j'->oid (pl j)=some i->oid (pl j')=some i->False) (hu:SR P hNil pl Wp v u) :
  DropTo σ0 u σf (UC (MA σ0 bs) v) (SU σ0 bs):=by
 have dt:=Nk v u hv cK hu;subst dt;have kind:∀ j,j<bs.length->∃ ty k xs nl,bs[j]?=some (.lst ty k xs nl)/\k.flat=true/\((nl=true/\xs=[]/\pl j=.slice none 0 0)\/(nl=false/\∃ i cap c t,pl j=.slice (some ⟨i,0,none⟩) xs.length cap/\xs.length<=cap/\σ0.n<=i/\σf.get i=some (.cells c ⟨k.size,ty⟩ true t)/\c.take (xs.length*k.size)=(xs.map (FI k)).flatten/\Rows (KC hNil k) xs (xs.map (FI k)).flatten)):=by
  intro j hj;have e:=z8 hj;have h1:=zg.1 hb _ (zl hj);have h2:=zg.1 hl _ (zl hj);obtain⟨ho,hi⟩:=ak j _ e;cases bX:bs[j] with
  |lst ty k xs nl =>
   rw[bX] at e ho h1;refine⟨ty,k,xs,nl,e,h1,?_⟩;rcases ho with⟨k1,k2,k3⟩|⟨k0,i,cap,c,t,k1,k2,k3,k4,k5⟩
   .exact .inl ⟨k1,k2,k3⟩
   .have k6:=Rows.enc h1 k5;exact .inr ⟨k0,i,cap,c,t,k1,k2,hi i (by rw[k1];rfl),k3,k6,by rw[<-k6];exact k5⟩
  |_=>rw[bX] at h2;cases h2
 let S:Nat->Bool:=λi=>(List.range bs.length).any λj=>decide (oid (pl j)=some i);have hS:∀ i,S i=true<->∃ j,j<bs.length/\oid (pl j)=some i:=(by grind);let σw:Heap:=⟨λi=>if S i=true then ((List.range bs.length).find? λj=>decide (oid (pl j)=some i)).bind λj=>(bs[j]?).bind Q88 else σf.get i,σf.n,λi hi=>by
  by_cases h:S i=true
  .obtain⟨j,hj,bt⟩:=(hS i).1 h;obtain⟨ty,k,xs,nl,_,_,h3⟩:=kind j hj;rcases h3 with⟨_,_,k3⟩|⟨_,i',cap,c,t,k1,_,_,k3,_⟩
   .rw[k3] at bt;cases bt
   .rw[k1] at bt;obtain rfl:=osj bt;exact absurd (σf.lt k3) (wC.2 hi)
  .rw[z6 h];exact σf.wf i hi⟩
 have cT:∀ j i,j<bs.length->oid (pl j)=some i->σw.get i=(bs[j]?).bind Q88:=λj i hj bt=>by
  have h1:S i=true:=(hS i).2 ⟨j,hj,bt⟩;show (if S i=true then _ else _)=_;rw[z7 h1];cases hf:(List.range bs.length).find? λj=>decide (oid (pl j)=some i) with
  |none=>have:=List.find?_eq_none.1 hf j (zG.2 hj);simp[bt] at this
  |some j' =>have h2:=List.find?_some hf;have h3:=zG.1 (List.mem_of_find?_eq_some hf);have h4:j'=j:=(by grind);subst h4;rfl
 let q:Nat->Value:=λj=>match pl j with
  |.slice (some a) n _=>.slice (some a) n n
  |v=>v
 have hq:∀ j,j<bs.length->Weak (λi=>S i=true) (pl j) (q j):=λj hj=>by
  obtain⟨ty,k,xs,nl,_,_,h3⟩:=kind j hj;rcases h3 with⟨_,_,k3⟩|⟨_,i',cap,c,t,k1,k2,_,k3,_⟩
  .simp only[q,k3];exact .refl _
  .simp only[q,k1];exact .sl _ _ _ ((hS i').2 ⟨j,hj,by rw[k1];rfl⟩) k2
 have nz:DropTo σ0 (UC pl v) σf (UC q v) σw:=by
  refine DropTo.weaken S (λi hi=>?_) rfl hn (λi hi=>?_) (λi hi=>?_) (Iy hq v hv cK)
  .grind
  .grind
  .obtain⟨j,hj,bt⟩:=(hS i).1 hi;obtain⟨ty,k,xs,nl,e,_,h3⟩:=kind j hj;rcases h3 with⟨_,_,k3⟩|⟨k0,i',cap,c,t,k1,k2,_,k3,k4,_⟩
   .rw[k3] at bt;cases bt
   .rw[k1] at bt;obtain rfl:=osj bt;refine⟨c,_,true,t,xs.length*k.size,k3,?_⟩;rw[cT j _ hj (by rw[k1];rfl),e];simp only[xg,Q88,k0];rw[k4];rfl
 have jL:∀ j i,j<bs.length->oid (pl j)=some i->i<σf.n:=λj i hj bt=>by
  obtain⟨ty,k,xs,nl,_,_,h3⟩:=kind j hj;rcases h3 with⟨_,_,k3⟩|⟨_,i',cap,c,t,k1,_,_,k3,_⟩
  .rw[k3] at bt;cases bt
  .rw[k1] at bt;obtain rfl:=osj bt;exact σf.lt k3
 let π:Nat->Nat:=λi=>if i<σ0.n then i else match oid (pl (i-σ0.n)) with
  |some id=>id
  |none=>σf.n+i
 have uE:σw.n=σf.n:=rfl;have nB:DropTo σ0 (UC q v) σw (UC (MA σ0 bs) v) (SU σ0 bs):=by
  refine DropTo.rename2 π (by simp[SU]) (λi hi=>⟨by simp[π,hi],?_,.inl ?_⟩) (λi h1 h2=>?_) (λi j h1 h2 h3 h4 he=>?_) (Q1r (λj hj=>?_) v hv cK)
  .have hs:S i=false:=by
    grind
   show (if i<σ0.n then _ else _)=(if S i=true then _ else _);rw[z7 hi,z6 (by simp[hs]),hA i hi]
  .have hs:S i=false:=by
    grind
   show (if S i=true then _ else _)=_;rw[z6 (by simp[hs]),hA i hi]
  .have hj:i-σ0.n<bs.length:=by simp[SU] at h2;omega
   have bZ:¬ i<σ0.n:=by omega
   obtain⟨ty,k,xs,nl,e,lZ,h3⟩:=kind _ hj;have nC:(SU σ0 bs).get i=(bs[i-σ0.n]?).bind Q88:=by show (if i<σ0.n then _ else _)=_;rw[z6 bZ]
   rcases h3 with⟨k0,_,k3⟩|⟨k0,i',cap,c,t,k1,k2,kZ,k3,k4,_⟩
   .have hp:π i=σf.n+i:=by simp only[π,z6 bZ,k3,oid]
    refine⟨by omega,.inl ⟨?_,σw.wf _ (by rw[hp,uE];omega)⟩⟩;rw[nC,e];simp[Q88,k0]
   .have hp:π i=i':=by simp only[π,z6 bZ,k1,oid]
    rw[hp];have hw:=cT _ i' hj (by rw[k1];rfl);rw[e] at hw;simp only[xg,Q88,k0] at hw;refine⟨kZ,.inr ⟨_,_,?_,hw,BRen.plain ?_⟩⟩
    .rw[nC,e];simp[Q88,k0]
    .simp only[Blk.plain,List.all_flatten,List.all_map];rw[zg];intro x _;exact H_ lZ
  .have hi:i-σ0.n<bs.length:=by simp[SU] at h2;omega
   have hj:j-σ0.n<bs.length:=by simp[SU] at h4;omega
   grind
  .obtain⟨ty,k,xs,nl,e,_,h3⟩:=kind j hj;rcases h3 with⟨k0,kx,k3⟩|⟨k0,i',cap,c,t,k1,k2,_,k3,_⟩
   .simp only[MA,e,k0,zq,q,k3];exact .plain _ rfl
   .simp only[MA,e,k0,zr,if_false,q,k1];have hp:π (σ0.n+j)=i':=by
     have:¬ σ0.n+j<σ0.n:=by omega
     simp only[π,z6 this,Nat.add_sub_cancel_left,k1,oid]
    have:=Ren.sl (n:=(SU σ0 bs).n) (π:=π) (σ0.n+j) 0 xs.length xs.length (by simp[SU];omega)
    rwa [hp] at this
 exact nz.trans nB
def OB.wfL:OB->Prop
 |.lst _ _ xs nl=>nl=true->xs=[]
 |_=>True
theorem O3 (σ0:Heap) {v:SV}{bs:List OB}(hv:v.ret bs.length=true) (cK:UM v=true) (hb:bs.all OB.ret=true) (hl:bs.all OB.isL=true) (hw:∀ b∈bs,b.wfL):Ret P σ0 v bs (UC (MA σ0 bs) v) (SU σ0 bs):=by
 have kind:∀ j,j<bs.length->∃ ty k xs nl,bs[j]?=some (.lst ty k xs nl)/\k.flat=true/\(nl=true->xs=[]):=λj hj=>by
  have e:=z8 hj;have h1:=zg.1 hb _ (zl hj);have h2:=zg.1 hl _ (zl hj);have h3:=hw _ (zl hj);cases bX:bs[j] with
  |lst ty k xs nl=>rw[bX] at e h1 h3;exact⟨ty,k,xs,nl,e,h1,h3⟩
  |_=>rw[bX] at h2;cases h2
 refine⟨⟨?_,?_⟩,?_,MA σ0 bs,λj b hj=>?_,λj j' i hj cN aK h1 h2=>?_,Eh (λj hj=>Z2r hl hj) v hv cK⟩
 .refine⟨by simp[SU],λi b hg=>?_⟩;show (if i<σ0.n then _ else _)=_;rw[z7 (σ0.lt hg)];exact hg
 .refine⟨by simp[SU],λi hi hg=>?_⟩;show (if i<σ0.n then _ else _)=_;rw[z7 hi];exact hg
 .rintro rfl;apply Heap.ext'
  .intro i;show (if i<σ0.n then _ else _)=_;by_cases hi:i<σ0.n
   .rw[z7 hi]
   .rw[z6 hi,σ0.wf i (by omega)];rfl
  .simp[SU]
 .have cP:j<bs.length:=(zp.1 hj).1;obtain⟨ty,k,xs,nl,e,lZ,h3⟩:=kind j cP;obtain rfl:=osj (e.symm.trans hj);cases nl with
  |true =>
   have hp:MA σ0 bs j=.slice none 0 0:=by simp[MA,e]
   rw[hp];exact⟨.inl ⟨rfl,h3 rfl,rfl⟩,λi hi=>by cases hi⟩
  |false =>
   have hp:MA σ0 bs j=.slice (some ⟨σ0.n+j,0,none⟩) xs.length xs.length:=by simp[MA,e]
   have k5:=Rows.ofEnc (h:=hNil) lZ xs;have eo:=k5.length KC.q0i;rw[hp];refine⟨.inr ⟨rfl,σ0.n+j,xs.length,(xs.map (FI k)).flatten,false,rfl,z9 _,?_,by omega,?_⟩,λi hi=>?_⟩
   .show (if σ0.n+j<σ0.n then _ else _)=_;rw[z6 (by omega),Nat.add_sub_cancel_left,e];simp[Q88]
   .rw[zL (by omega)];exact k5
   .obtain rfl:=osj hi;exact⟨σ0.wf _ (by simp),by simp⟩
 .obtain⟨ty,k,xs,nl,e,_,h3⟩:=kind j hj;obtain⟨fQ,k',cq,kX,e',_,fz⟩:=kind j' cN;simp only[MA,e] at h1;simp only[MA,e'] at h2;cases nl with
  |true=>simp[Oid,oid] at h1
  |false =>
   cases kX with
   |true=>simp[Oid,oid] at h2
   |false=>simp[Oid,oid] at h1 h2;omega
end
end Go.V
namespace Go.V
open Go
section
variable {P:Program}{B F:Heap}{pl:Nat->Value}{tb:Nat->Option Bool}{own:Own}{U:Heap}
mutual
theorem Q2d {bx:List SV->Nat->SV}(hle:B.Le U) (az:∀ d,OR P B pl tb U (pl d) (Qb own d))
  (k_:∀ l off b c e t,U.get b=some (.cells c e true t)->SRs P B pl tb l c->SR P U Yv Wp (bx l off) (.pointer (some ⟨b,off,none⟩))) :
  ∀ (s:SV) (v:Value),SR P B pl tb s v->SR P U Yv Wp (LO own bx s) v
 |.any,v,h=>by simp[LO,SR]
 |.val k x,v,h=>by simp only[LO,SR] at h |-;exact h.mono hle
 |.bid n c,v,h=>by simp only[LO,SR] at h |-;obtain⟨rfl,_⟩:=h;rfl
 |.grd gs s,v,h=>by simp[LO,SR]
 |.nilS,v,h=>by simp only[LO,SR] at h |-;exact h
 |.nilP,v,h=>by simp only[LO,SR] at h |-;exact h
 |.nilM,v,h=>by simp only[LO,SR] at h |-;exact h
 |.nilF,v,h=>by simp only[LO,SR] at h |-;exact h
 |.lst o,v,h=>by
  simp only[LO];split
  .rename_i ty k xs nl ho;have:view own k (.lst o)=some xs:=by simp[view,ho,N6]
   simp only[SR,KC];exact⟨v,rfl,(N8 hle az this h).mono (Heap.Le.refl _) λ_ _ e=>e.mono hle⟩
  .simp[SR]
 |.sub o lo n sz,v,h=>by
  simp only[LO];split
  .rename_i ty k xs nl ho;split
   .rename_i aD;have:view own k (.sub o lo n sz)=some ((xs.drop lo).take n):=by simp[view,ho,N6,aD]
    simp only[SR,KC];exact⟨v,rfl,(N8 hle az this h).mono (Heap.Le.refl _) λ_ _ e=>e.mono hle⟩
   .simp[SR]
  .simp[SR]
 |.elp o i off sz,v,h=>by simp[LO,SR]
 |.dd o w,v,h=>by
  simp only[LO];simp only[SR] at h;split
  .rename_i ty q k xs nl hole ho;have ak:=az o;rw[ho] at ak;have cQ:=DP.le ak;split
   .split
    .obtain⟨h1,_⟩:=h;simp only[SR,KC];refine⟨v,rfl,?_⟩;rw[h1];exact(DP.sl ak).mono cQ λ_ _ e=>e.mono cQ
    .simp[SR]
   .simp only[SR];exact KC.mono cQ h
   .simp only[SR];exact KC.mono cQ h.1
   .simp[SR]
  .simp[SR]
 |.map o,v,h=>by simp[LO,SR]
 |.tup l,v,h=>by simp[LO,SR]
 |.box o off,v,h=>by
  simp only[LO];split
  .rename_i l _ ho;have ak:=az o;rw[ho] at ak;obtain⟨i,c,e,t,h1,h2,h3,_⟩:=ak;simp only[SR] at h
   grind
  .simp[SR]
 |.rop k l i off,v,h=>by simp only[LO];exact SR.mono (tb:=tb) hle (λn c hn=>hn) (.rop k l i off) v h |> λh=>by simp only[SR] at h |-;exact h
 |.cp l off,v,h=>by simp only[LO,SR] at h |-;obtain⟨b,c,e,wr,t,h1,h2,h3⟩:=h;exact⟨b,c,e,wr,t,hle.2 _ _ h1,h2,WB hle az k_ l c h3⟩
 |.agg l,v,h=>by simp only[LO,SR] at h |-;obtain⟨cs,h1,h2⟩:=h;exact⟨cs,h1,WB hle az k_ l cs h2⟩
 |.fn f a b,v,h=>by simp only[LO,SR] at h |-;obtain⟨x,y,h1,h2,h3⟩:=h;exact⟨x,y,h1,WB hle az k_ a x h2,WB hle az k_ b y h3⟩
 |.pf ks r cD p,v,h=>by simp only[LO,SR] at h |-;exact h.mono hle
theorem WB {bx:List SV->Nat->SV}(hle:B.Le U) (az:∀ d,OR P B pl tb U (pl d) (Qb own d))
  (k_:∀ l off b c e t,U.get b=some (.cells c e true t)->SRs P B pl tb l c->SR P U Yv Wp (bx l off) (.pointer (some ⟨b,off,none⟩))) :
  ∀ (s:List SV) (v:List Value),SRs P B pl tb s v->SRs P U Yv Wp (RU own bx s) v
 |[],v,h=>by simp only[RU,SRs] at h |-;exact h
 |s::ss,v,h=>by simp only[RU,SRs] at h |-;obtain⟨x,y,h1,h2,h3⟩:=h;exact⟨x,y,h1,Q2d hle az k_ s x h2,WB hle az k_ ss y h3⟩
end
theorem U_ (hle:B.Le U) (az:∀ d,OR P B pl tb U (pl d) (Qb own d)) {l:List SV}{v:List Value}(h:SRs P B pl tb l v):SRs P U Yv Wp (CV own l) v:=by
 have h0:∀ {l v},SRs P B pl tb l v->SRs P U Yv Wp (J20 own l) v:=λh=>WB hle az (λ_ _ _ _ _ _ _ _=>by simp[SR]) _ _ h;have h1:∀ {l v},SRs P B pl tb l v->SRs P U Yv Wp (J28 own l) v:=λh=>WB hle az (λl off b c e t hg hs=>by
  simp only[SR];grind) _ _ h
 exact WB hle az (λl off b c e t hg hs=>by
  simp only[SR];grind) _ _ h
mutual
theorem Q6q {p q:Nat->Value}{n:Nat}(h:∀ j,j<n->p j=q j):∀ (s:SV),s.ret n=true->UC p s=UC q s
 |.val _ _,_|.nilS,_|.nilP,_|.nilM,_|.nilF,_=>by simp[UC]
 |.lst j,hr=>by simp only[UC];exact h j (by simpa [SV.ret,zB] using hr)
 |.agg l,hr=>by simp only[UC];rw[Fm h l hr]
 |.tup l,hr=>by simp only[UC];rw[Fm h l hr]
 |.box _ _,_|.map _,_=>by simp[UC]
 |.dd _ _,_=>by simp[UC]
 |.any,h|.bid _ _,h|.grd _ _,h|.sub _ _ _ _,h|.elp _ _ _ _,h|.rop _ _ _ _,h|.cp _ _,h|.fn _ _ _,h|.pf _ _ _ _,h=>by cases h
theorem Fm {p q:Nat->Value}{n:Nat}(h:∀ j,j<n->p j=q j):∀ (s:List SV),SVs.ret n s=true->Vt p s=Vt q s
 |[],_=>rfl
 |s::ss,hr=>by simp only[SVs.ret,z0] at hr;simp only[Vt];rw[Q6q h s hr.1,Fm h ss hr.2]
end
theorem Xe {cs:List (Nat×CSp)}(aC:CsOk P cs) {f:SV}{args:List SV}{c:Prop}{v:SV}{bs:List OB}{fV:Value}{vs:List Value}(hf:SR P U Yv Wp f fV) (ha:SRs P U Yv Wp args vs)
  (h:UT cs f args=some (c,v,bs)) (hv:v.ret bs.length=true) (hb:bs.all OB.ret=true) (hc:c):∃ g a b,fV=.func (.func g) a b/\(VCalled P g (a.toList++vs++b.toList) U λu U'=>Ret P U v bs u U') /\
  (bs.all OB.isL=true->UM v=true->VCalled P g (a.toList++vs++b.toList) U λu U'=>u=UC (MA U bs) v/\U'=SU U bs):=by
 have gen:(gap cs 3 f args).map (λx=>(x.1,x.2,([]:List OB)))=some (c,v,bs)->∃ g a b,fV=.func (.func g) a b/\(VCalled P g (a.toList++vs++b.toList) U λu U'=>Ret P U v bs u U') /\
   (bs.all OB.isL=true->UM v=true->VCalled P g (a.toList++vs++b.toList) U λu U'=>u=UC (MA U bs) v/\U'=SU U bs):=λh=>by
  simp only[zj] at h;obtain⟨⟨c',v'⟩,h1,h2⟩:=h;simp only[Prod.mk.injEq] at h2;obtain⟨rfl,rfl,rfl⟩:=h2;obtain⟨h3,g,a,b,rfl,h4⟩:=AI aC 3 U f args c' v' fV vs hf ha h1 hc;refine⟨g,a,b,rfl,h4.mono λu U' hu=>?_,λ_ cK=>h4.mono λu U' hu=>?_⟩
  .obtain⟨rfl,hu⟩:=hu;exact⟨⟨Heap.Le.refl _,Dead.refl _⟩,λ_=>rfl,Yv,(λj b hj=>by simp at hj),(λj j' i hj=>by simp at hj),hu⟩
  .obtain⟨rfl,hu⟩:=hu;have hz:SU U' []=U':=(O3 (P:=P) U' (v:=v') (bs:=[]) h3 cK rfl rfl (λb hb=>by cases hb)).2.1 rfl;refine⟨?_,hz.symm⟩;rw[Nk v' u h3 cK hu]
   grind [Q6q]
 cases f with
 |fn g a b =>
  simp only[UT] at h;split at h
  .rename_i sp eX;simp only[SR] at hf;obtain⟨x,y,rfl,h1,h2⟩:=hf;refine⟨g,x.toArray,y.toArray,rfl,?_⟩;simpa using aC g sp eX (gap cs 3) (AI aC 3) U (a++args++b) (x++vs++y) c v bs ((h1.append ha).append h2) h hv hb hc
  .cases h
 |_=>exact gen h
theorem Gam.q1u {s:St}{env:Env}{U':Heap}(h:Gam P B F pl tb s env U) (hl:U.Le U') {d:Nat}(aw:(Qb s.own d).live=true) {i:Nat}(hi:Oid (pl d) i):U'.get i=U.get i:=by
  have ao:=(h.obj d).q0y aw hi;cases hb:U.get i with
  |none =>
   have ak:=h.obj d;cases ho:Qb s.own d with
   |dead=>rw[ho] at aw;cases aw
   |lst ty k xs nl =>
    rw[ho] at ak;rcases ak with⟨_,_,h2⟩|⟨_,i',cap,c,t,h2,_,h3,_⟩
    .rw[h2] at hi;cases hi
    .rw[h2] at hi;obtain rfl:=osj hi;rw[h3] at hb;cases hb
   |cells l u=>rw[ho] at ak;obtain⟨i',c,e,t,h2,h3,_⟩:=ak;rw[h2] at hi;obtain rfl:=osj hi;rw[h3] at hb;cases hb
   |mapE kk vk m key n=>rw[ho] at ak;obtain⟨i',es,cl,r,e,h2,h3,_⟩:=ak;rw[h2] at hi;obtain rfl:=osj hi;rw[h3] at hb;cases hb
   |map kk vk m=>rw[ho] at ak;obtain⟨i',es,cl,h2,h3,_⟩:=ak;rw[h2] at hi;obtain rfl:=osj hi;rw[h3] at hb;cases hb
   |fm ik l=>rw[ho] at ak;obtain⟨i',es,cl,h2,h3,_⟩:=ak;rw[h2] at hi;obtain rfl:=osj hi;rw[h3] at hb;cases hb
   |stk l vals=>rw[ho] at aw;cases aw
   |lpf l q s=>rw[ho] at ak aw;obtain⟨h2,_,h3⟩:=ak;rw[h2] at hi;obtain rfl:=osj hi;have h3:=h3 aw;rw[hb] at h3;cases h3
   |iter kk vk m dn=>rw[ho] at ak;obtain⟨j',i',es,cl,wr,seen,h2,h3,_⟩:=ak;rw[h2] at hi;obtain rfl:=osj hi;rw[h3] at hb;cases hb
   |siter l pos=>rw[ho] at ak;obtain⟨j',s',h2,h3,_⟩:=ak;rw[h2] at hi;obtain rfl:=osj hi;rw[h3] at hb;cases hb
   |rmap kk vk m=>rw[ho] at aw;cases aw
   |deep ty q k xs nl hh =>rw[ho] at ak;obtain⟨is,_,d2,d3,_⟩:=DP.open ak;obtain⟨c,e,t,h⟩:=d2.cells i ((d3 i).1 hi);rw[h] at hb;cases hb
  |some b=>rw[hl.2 i b hb]
theorem Gam.heap {s:St}{env:Env}{U':Heap}(h:Gam P B F pl tb s env U) (hl:U.Le U'):Gam P B F pl tb s env U' :=
 ⟨h.bf,h.le.trans hl,h.env,λd=>(h.obj d).mono (Heap.Le.refl _) (λ_ _ h=>h) λaw _i hi=>h.q1u hl aw hi,h.fresh,h.sep,h.free⟩
theorem Sk {env:Env}{σ0:Heap}{d nt:Nat}(eA:0<nt) (fS:Nat->Value) (bs:List OB) (hB:F.Le σ0)
  (ak:∀ j b,bs[j]?=some b->b.ret=true/\OR P hNil fS Wp U (fS j) b/\∀ i,Oid (fS j) i->σ0.n<=i)
  (eK:∀ j j' i,j<bs.length->j'<bs.length->j≠j'->Oid (fS j) i->Oid (fS j') i->False) :
  ∀ (r:List OB) (j:Nat) (pl:Nat->Value) (s:St),bs.drop j=r->Gam P B F pl tb s env U->(∀ k i,(Qb s.own k).live=true->Oid (pl k) i->i<σ0.n\/∃ j'<j,j'<bs.length/\Oid (fS j') i/\k=d+j'*nt)->(∀ j'<j,j'<bs.length->pl (d+j'*nt)=fS j') ->
   ∃ pl',Gam P B F pl' tb (s.makes d nt j r) env U/\(∀ j'<bs.length,pl' (d+j'*nt)=fS j')/\∀ q,(∀ j'<bs.length,q≠d+j'*nt)->pl' q=pl q/\(Qb (s.makes d nt j r).own q).live=(Qb s.own q).live
 |[],j,pl,s,hr,hG,_,hp=>⟨pl,hG,λj' cN=>hp j' (by
   have:=congrArg List.length hr;simp at this;omega) cN,λq _=>⟨rfl,rfl⟩⟩
 |b::r,j,pl,s,hr,hG,hinv,hp=>by
  have cP:j<bs.length:=by
   grind [Nat.lt_or_ge,List.drop_eq_nil_of_le]
  have bX:bs[j]?=some b:=by
   have:(bs.drop j)[0]?=some b:=by rw[hr];rfl
   simpa using this
  have jb:bs.drop (j+1)=r:=by
   have:(bs.drop j).drop 1=r:=by rw[hr];rfl
   simpa [List.drop_drop,xY] using this
  obtain⟨h1,h2,h3⟩:=ak j b bX;have aZ:∀ j' ,j'≠j->d+j'*nt≠d+j*nt:=(by grind [Nat.eq_of_mul_eq_mul_right]);obtain⟨pl',k1,k2,k3⟩:∃ pl',Gam P B F pl' tb ((s.make (d+j*nt) b).makes d nt (j+1) r) env U/\(∀ j'<bs.length,pl' (d+j'*nt)=fS j')/\∀ q,(∀ j'<bs.length,q≠d+j'*nt)->pl' q=XT pl (d+j*nt) (fS j) q/\(Qb ((s.make (d+j*nt) b).makes d nt (j+1) r).own q).live=(Qb (s.make (d+j*nt) b).own q).live:=by
   refine Sk eA fS bs hB ak eK r (j+1) (XT pl (d+j*nt) (fS j)) _ jb (hG.make (d+j*nt) b (fS j) hG.le (λ_ _ _ _ _=>rfl) (h2.retd h1 λ_ _=>rfl) λi _ hi=>⟨F.wf _ (by have:=h3 i hi;have:=hB.1;omega),λk hk hl e=>?_⟩) (λk i hl hi=>?_) λj' cN ql=>?_
   .grind
   .by_cases hk:k=d+j*nt
    .subst hk;simp only[XT,zq] at hi
     grind
    .have cj:(Qb s.own k).live=true:=by
      simp only[St.make,St.kill,Qm,Vz,z6 hk] at hl
      rwa [OB.q0m] at hl
     simp only[XT,z6 hk] at hi
     grind
   .by_cases e:j'=j
    .subst e;simp[XT]
    .simp only[XT,z6 (aZ j' e)];exact hp j' (by omega) ql
  refine⟨pl',k1,k2,λq hq=>?_⟩;obtain⟨e1,e2⟩:=k3 q hq;refine⟨by rw[e1];simp[XT,hq j cP],?_⟩;show (Qb ((s.make (d+j*nt) b).makes d nt (j+1) r).own q).live=_;rw[e2];simp only[St.make,St.kill,Qm,Vz,z6 (hq j cP),OB.q0m]
theorem Ret.gamF {s:St}{env:Env}{d nt:Nat}(eA:0<nt) (hG:Gam P B F pl tb s env U) {v:SV}{bs:List OB}{u:Value}{U':Heap}(hv:v.ret bs.length=true) (hb:bs.all OB.ret=true) (h:Ret P U v bs u U') :
  ∃ pl',Gam P B F pl' tb (s.makes d nt 0 bs) env U'/\SR P B pl' tb (v.ren d nt) u/\∀ q,(∀ j'<bs.length,q≠d+j'*nt)->(Qb (s.makes d nt 0 bs).own q).live=(Qb s.own q).live/\pl' q=pl q/\((Qb s.own q).live=true->∀ i,Oid (pl q) i->U'.get i=U.get i):=by
 obtain⟨⟨h1,_⟩,_,fS,h2,h3,h4⟩:=h
 obtain⟨pl',h5,h6,h7⟩:=Sk (tb:=tb) (d:=d) eA fS bs hG.le (by grind) h3 bs 0 pl s rfl (hG.heap h1)
  (λk i hl hi=>.inl ((hG.obj k).q0y hl hi)) (λj' cN=>by omega)
 exact⟨pl',h5,SR.ren (tb:=Wp) (λj hj=>h6 j hj) _ _ hv (SR.mono (tb:=Wp) (tb':=Wp) (Q17 B) (λ_ _ h=>h) _ _ h4),λq hq=>⟨(h7 q hq).2,(h7 q hq).1,λhl i hi=>hG.q1u h1 hl hi⟩⟩
theorem Ret.gam {s:St}{env:Env}{d nt:Nat}(eA:0<nt) (hG:Gam P B F pl tb s env U) {v:SV}{bs:List OB}{u:Value}{U':Heap}(hv:v.ret bs.length=true) (hb:bs.all OB.ret=true) (h:Ret P U v bs u U') :
  ∃ pl',Gam P B F pl' tb (s.makes d nt 0 bs) env U'/\SR P B pl' tb (v.ren d nt) u:=by
 obtain⟨pl',h1,h2,_⟩:=h.gamF eA hG hv hb;exact⟨pl',h1,h2⟩
end
end Go.V
namespace Go.V
open Go
section
variable {P:Program}
structure GBase (B0 F0 D0 B F U:Heap):Prop where
 b:B0.Le B
 f:F0.Le F
 x:∀ i b,F0.get i=some b->B0.get i=none->B.get i=none
 d:Dead D0 U
theorem GBase.of {B F U:Heap}{U':Heap}(_hB:B.Le F) (h:Dead U U'):GBase B F U B F U':=⟨.refl _,.refl _,λ_ _ _ h=>h,h⟩
theorem GBase.trans {B0 F0 D0 B F U B' F' U':Heap}(h:GBase B0 F0 D0 B F U) (h':GBase B F U B' F' U'):GBase B0 F0 D0 B' F' U' :=
 ⟨h.b.trans h'.b,h.f.trans h'.f,λi b h1 h2=>h'.x i b (h.f.2 _ _ h1) (h.x i b h1 h2),h.d.trans h'.d⟩
def GRel (P:Program) (B0 F0 D0:Heap) (s:St) (env:Env) (U:Heap):Prop:=∃ B F pl tb,GBase B0 F0 D0 B F U/\Gam P B F pl tb s env U
theorem MW {B0 F0 D0 B F:Heap}{U U':Heap}(hB:GBase B0 F0 D0 B F U) (h:Dead U U'):GBase B0 F0 D0 B F U':=⟨hB.b,hB.f,hB.x,hB.d.trans h⟩
theorem Gam.evs {B F:Heap}{pl:Nat->Value}{tb:Nat->Option Bool}{s:St}{env:Env}{U:Heap}(h:Gam P B F pl tb s env U) {gs:List Gd}(hg:Gds tb gs) (x:Operand):SR P B pl tb (gev gs s.env x) (Q5 env x):=Q65 hg h.env x
theorem Gds.nil {tb:Nat->Option Bool}:Gds tb []:=λ_ h=>by cases h
theorem Q29 {gs:List Gd}{c:Prop}(h:Z1t gs c) (hg:∀ g∈gs,g.c=g.want):c:=by
 induction gs with
 |nil=>exact h
 |cons g gs ih=>exact ih (h (hg g (by simp))) λg' cW=>hg g' (by simp[cW])
theorem JC {gs:List Gd}{cs:List Prop}{q:Prop}(h:Ct gs cs q):q/\((∀ g∈gs,g.c=g.want)->∀ c∈cs,c):=by
 induction cs with
 |nil=>exact⟨h,λ_ c hc=>by cases hc⟩
 |cons c cs ih =>obtain⟨h1,h2⟩:=h;obtain⟨h3,h4⟩:=ih h2;exact⟨h3,(by grind [Q29])⟩
theorem Dead.push (U:Heap) (b:Blk):Dead U (U.push b):=⟨by simp,(by grind [Heap.q0h])⟩
theorem Dead.upd (U:Heap) (j:Nat) (b:Blk) (hj:(U.get j).isSome=true):Dead U (U.upd j b):=⟨by simp,(by grind [Heap.q0b])⟩
theorem Dead.kill (U:Heap) (j:Nat):Dead U (U.kill j):=⟨by simp,(by grind [Heap.q0g,Heap.q0c])⟩
theorem FV {e:El}{bytes m:Nat}{U U':Heap}{s u:Value}{xs:List Value}(h:Y2 e bytes U s m xs=some (u,U')):Dead U U':=by
 unfold Y2 at h;split at h
 .grind [ZN,Dead.refl,Dead.push]
 .split at h
  .rename_i hg;split at h
   .split at h
    .grind [ZN,Dead.refl]
    .split at h
     .grind [ZN,Dead.upd]
     .split at h
      .split at h
       .grind [ZN,Dead.push]
       .split at h
        .obtain⟨rfl,rfl⟩:=ZN h;exact(Dead.kill _ _).trans (Dead.push _ _)
        .cases h
      .cases h
   .cases h
  .cases h
 .grind [ZN,Dead.push]
 .cases h
theorem VR {o:VOp}{ev:Operand->Value}{U U':Heap}{u:Value}(h:Q7 o ev U=some (u,U')):Dead U U':=by
 by_cases hk:o.kind=2
 .cases o<;>first|(cases hk;done)|skip
  case alloc t z=>obtain⟨rfl,rfl⟩:=ZN h;exact Dead.push _ _
  case box t x =>
   simp only[Q7] at h
   grind [ZN,Dead.push]
  case buildSlice e z n ps =>
   simp only[Q7] at h
   grind [ZN,Dead.push]
  case makeSlice e b z l c =>
   simp only[Q7] at h
   grind [ZN,Dead.push]
  case store size a x =>
   simp only[Q7] at h
   grind [ZN,Dead.upd]
  case append e b x y =>
   simp only[Q7] at h
   grind [FV]
  case slice size x lo hi mx =>
   simp only[Q7] at h;split at h
   .have sl:∀ {l hh:Nat}{m:Option Nat}{v:Value},K7 size U v l hh m=some (u,U')->Dead U U':=λ{l hh m v} h=>by
     unfold K7 at h
     grind [ZN,Dead.refl,Dead.push]
    grind
   .cases h
  case callF f a=>cases h
  case callV f a=>cases h
  case ext x =>
   cases x<;>first|(cases hk;done)|skip
   case makeMap=>obtain⟨rfl,rfl⟩:=ZN h;exact Dead.push _ _
   case rangeStr x =>
    simp only[Q7,ZT] at h;split at h
    .obtain⟨rfl,rfl⟩:=ZN h;exact Dead.push _ _
    .cases h
   case nextStr x =>
    simp only[Q7,ZT] at h;split at h
    .split at h
     .rename_i hm;split at h
      .split at h
       .obtain⟨rfl,rfl⟩:=ZN h;exact Dead.upd _ _ _ (by rw[hm];rfl)
       .cases h
      .obtain⟨rfl,rfl⟩:=ZN h;exact Dead.refl _
     .cases h
    .cases h
   case mapUpdate mk m k v =>
    simp only[Q7,ZT] at h;split at h
    .split at h
     .rename_i hm;split at h
      .obtain⟨rfl,rfl⟩:=ZN h;refine Dead.upd _ _ _ ?_;unfold Heap.mapAt at hm
       grind
      .cases h
     .cases h
    .cases h
   case mapEntry mk z m k =>
    simp only[Q7,ZT] at h;split at h
    .split at h
     .rename_i hm;split at h
      .split at h
       all_goals
        obtain⟨rfl,rfl⟩:=ZN h;refine Dead.upd _ _ _ ?_;unfold Heap.mapAt at hm;split at hm
        .rename_i hg;rw[hg];rfl
        .cases hm
      .cases h
     .cases h
    .cases h
   case entryStore m s v =>
    simp only[Q7,ZT] at h;split at h
    .split at h
     .rename_i hm;split at h
      .split at h
       .obtain⟨rfl,rfl⟩:=ZN h;refine Dead.upd _ _ _ ?_;unfold Heap.mapAt at hm
        grind
       .cases h
      .cases h
     .cases h
    .cases h
   case delete mk m k =>
    simp only[Q7,ZT] at h;split at h
    .split at h
     .rename_i hm;split at h
      .obtain⟨rfl,rfl⟩:=ZN h;refine Dead.upd _ _ _ ?_;unfold Heap.mapAt at hm
       grind
      .cases h
     .cases h
    .cases h
   case rangeMap x =>
    simp only[Q7,ZT] at h
    grind [ZN,Dead.push]
   case nextMap x=>cases h
   case copy size a b =>
    simp only[Q7,ZT] at h
    grind [ZN,Dead.refl,Dead.upd]
   case clear z x =>
    simp only[Q7,ZT] at h
    grind [ZN,Dead.refl,Dead.upd]
   case strBytes e x =>
    simp only[Q7,ZT] at h
    grind [ZN,Dead.push]
   case unsafeStr e x n =>
    simp only[Q7,ZT] at h;split at h
    .grind [ZN,Dead.refl,Dead.upd]
    .cases h
 grind [H7,Dead.refl]
theorem Ga {B F:Heap}{pl:Nat->Value}{tb:Nat->Option Bool}{s:St}{env:Env}{U:Heap}(hG:Gam P B F pl tb s env U) {x:Operand}{b:Bool}(h:FN s.env x=some b):Q5 env x=.bool b:=by
 unfold FN at h;split at h
 .rename_i j;split at h
  .rename_i gs v he;split at h
   .split at h
    .rename_i k y;split at h
     .obtain rfl:=osj h;have:=hG.env.getD j undef;rw[he] at this;simp only[SR] at this;have h2:=this.2.1 (λg hg=>by cases hg);have h3:[env.getD j undef]=[Value.bool _]:=h2;exact(zY h3).1
     .cases h
    .cases h
   .cases h
  .cases h
 .cases h
theorem VV {B F:Heap}{pl:Nat->Value}{tb:Nat->Option Bool}{s:St}{env:Env}{U:Heap}(hG:Gam P B F pl tb s env U) {g:Option (Nat×Bool)}{t:Bool}(h:Q64 s.env g=some t):Xu env g=some t:=by
 unfold Q64 at h;split at h
 .cases h
 .rename_i j want;split at h
  .rename_i b hb;obtain rfl:=osj h;have:=Ga hG hb;simp only[Q5] at this;simp only[Xu,this]
  .cases h
theorem M4 {B F:Heap}{pl:Nat->Value}{tb:Nat->Option Bool}{s:St}{env:Env}{U:Heap}(hG:Gam P B F pl tb s env U) {gs:List Gd}(hg:Gds tb gs) {c a b:Operand}{v:SV}(h:Q3p gs s.env c a b=some v) :
  ∃ u,Q7 (.pick c a b) (Q5 env) U=some (u,U)/\SR P B pl tb v u:=by
 unfold Q3p at h;split at h
 .rename_i t ht;have e:=Ga hG ht;obtain rfl:=osj h;cases t with
  |true=>exact⟨Q5 env a,by simp only[Q7,e];rfl,hG.evs hg a⟩
  |false=>exact⟨Q5 env b,by simp only[Q7,e];rfl,hG.evs hg b⟩
 have hc:=hG.evs hg c;unfold Z02 at h;split at h
 .rename_i n t heq;rw[heq] at hc;simp only[SR] at hc;obtain⟨e,di⟩:=hc;have ht:∀ w,t=w->Gds tb (gs++[⟨n,w,t⟩]):=λw hw g cW=>by
   rcases xj.1 cW with h1|h1
   .exact hg g h1
   simp_all
  have hv:∀ u,(if t then Q5 env a else Q5 env b)=u->Q7 (.pick c a b) (Q5 env) U=some (u,U):=λu hu=>by simp only[Q7,e];rw[<-hu]
  split at h
  .rename_i b';simp only[zj] at h;obtain⟨y,h1,rfl⟩:=h;refine⟨.bool (t||y),hv _ ?_,Xk _⟩;cases t with
   |true=>rfl
   |false=>simpa using Yu h1 (hG.evs (ht false rfl) _)
  .rename_i a' aK;simp only[zj] at h;obtain⟨x,h1,rfl⟩:=h;refine⟨.bool (t&&x),hv _ ?_,Xk _⟩;cases t with
   |true=>simpa using Yu h1 (hG.evs (ht true rfl) _)
   |false=>rfl
  .split at h
   .rename_i k x k' y h1 h2;split at h
    .rename_i hk;subst hk;obtain rfl:=osj h;refine⟨.int k (if t then x else y),hv _ ?_,Yz _ _⟩;cases t with
     |true=>have:=hG.evs (ht true rfl) a;rw[h1] at this;exact X7 rfl this
     |false=>have:=hG.evs (ht false rfl) b;rw[h2] at this;exact X7 rfl this
    .cases h
   .rename_i x y h1 h2;obtain rfl:=osj h;refine⟨.bool (if t then x else y),hv _ ?_,Xk _⟩;cases t with
    |true=>have:=hG.evs (ht true rfl) a;rw[h1] at this;exact Yu rfl this
    |false=>have:=hG.evs (ht false rfl) b;rw[h2] at this;exact Yu rfl this
   .cases h
 .cases h
theorem Gam.bid {B F:Heap}{pl:Nat->Value}{tb:Nat->Option Bool}{s:St}{env:Env}{U:Heap}(hG:Gam P B F pl tb s env U) {j:Nat}{v:SV}{c:Bool}(hv:∀ tb',(∀ n c,tb n=some c->tb' n=some c)->tb' s.nx=some c->SR P B pl tb' v (env.getD j undef)) :
  ∃ tb',(∀ n c,tb n=some c->tb' n=some c)/\tb' s.nx=some c/\Gam P B F pl tb' ⟨s.env.set j v,s.own,s.nx+1⟩ env U:=by
 refine⟨λn=>if n=s.nx then some c else tb n,?_,by simp,?_⟩
 .intro n c' hn;by_cases e:n=s.nx
  .rw[e,hG.free _ (z9 _)] at hn;cases hn
  .simp only[z6 e];exact hn
 .have hm:∀ n c',tb n=some c'->(λn=>if n=s.nx then some c else tb n) n=some c':=λn c' hn=>by
   by_cases e:n=s.nx
   .rw[e,hG.free _ (z9 _)] at hn;cases hn
   .simp only[z6 e];exact hn
  refine⟨hG.bf,hG.le,?_,λd=>(hG.obj d).mono (Heap.Le.refl _) hm λ_ _ _=>rfl,hG.fresh,hG.sep,λn hn=>?_⟩
  .have h1:=SRs.mono (Heap.Le.refl B) hm _ _ hG.env;by_cases hj:j<env.length
   .have:=h1.set j (hv _ hm (by simp));simp_all
   .have:s.env.set j v=s.env:=List.set_eq_of_length_le (by rw[hG.env.length];omega);rw[this];exact h1
  .have:n≠s.nx:=by simp only at hn;omega
   simp only[z6 this];exact hG.free n (by simp only at hn;omega)
theorem Q5d {gs:List Gd}(h:¬ ∀ g∈gs,g.c=g.want):∃ g∈gs,g.c≠g.want:=by simp_all
theorem YC {B F:Heap}{pl:Nat->Value}{tb:Nat->Option Bool}{s:St}{env:Env}{U:Heap}(hG:Gam P B F pl tb s env U) {j:Nat}{want:Bool}{gs:List Gd}{s':St}(h:T0 s j want=some (gs,s')) :
  ∃ tb',Gam P B F pl tb' s' env U/\(∀ g∈gs,tb' g.id=some g.c)/\∃ b,Xu env (some (j,want))=some b/\(b=true->∀ g∈gs,g.c=g.want)/\(b=false->∃ g∈gs,g.c≠g.want):=by
 have hj:=hG.env.getD j undef;unfold T0 at h;split at h
 .rename_i c heq;obtain⟨rfl,rfl⟩:=ZN h;rw[heq] at hj;have hb:env.getD j undef=.bool c:=Yu (s:=.val .bo c) rfl hj;obtain⟨tb',h1,h2,h3⟩:=hG.bid (j:=j) (v:=.bid s.nx c) (c:=c) λtb' _ h=>by simp only[SR];exact⟨hb,h⟩
  refine⟨tb',h3,(by simp_all),c==want,by simp only[Xu,hb],λe g hg=>?_,λe=>⟨_,zS.2 rfl,?_⟩⟩
  .simp_all
  .simpa using e
 .rename_i n c heq;obtain⟨rfl,rfl⟩:=ZN h;rw[heq] at hj;simp only[SR] at hj;refine⟨tb,hG,(by simp_all),c==want,by simp only[Xu,hj.1],λe g hg=>?_,λe=>⟨_,zS.2 rfl,?_⟩⟩
  .simp_all
  .simpa using e
 .rename_i oS c heq;obtain⟨rfl,rfl⟩:=ZN h;rw[heq] at hj;simp only[SR] at hj;obtain⟨⟨k1,k0⟩,k2,k3⟩:=hj;obtain⟨tb',h1,h2,h3⟩:=hG.bid (j:=j) (v:=.grd oS (.bid s.nx c)) (c:=c) λtb' hm h=>by
   simp only[SR];exact⟨⟨λg hg=>hm _ _ (k1 g hg),h⟩,λhall=>⟨Yu (s:=.val .bo c) (P:=P) (B:=B) (pl:=pl) (tb:=tb) rfl (by simpa only [SR] using k2 hall),h⟩,k3⟩
  refine⟨tb',h3,λg hg=>?_,?_⟩
  .grind
  .by_cases hall:∀ g∈oS,g.c=g.want
   .have hb:env.getD j undef=.bool c:=Yu (s:=.val .bo c) (P:=P) (B:=B) (pl:=pl) (tb:=tb) rfl (by simpa only [SR] using k2 hall);refine⟨c==want,by simp only[Xu,hb],λe g hg=>?_,(by simp_all)⟩
    grind
   .have hex:=Q5d hall;refine⟨false,by simp only[Xu,k3 hex];rfl,(λe=>by cases e),λ_=>?_⟩;simp_all
 .rename_i oS n c heq;obtain⟨rfl,rfl⟩:=ZN h;rw[heq] at hj;simp only[SR] at hj;obtain⟨⟨k1,k0⟩,k2,k3⟩:=hj;refine⟨tb,hG,λg hg=>?_,?_⟩
  .rcases xj.1 hg with h4|h4
   .exact k1 g h4
   .obtain rfl:=zS.1 h4;exact k0
  .by_cases hall:∀ g∈oS,g.c=g.want
   .obtain⟨hb,di⟩:=k2 hall;refine⟨c==want,by simp only[Xu,hb],λe g hg=>?_,(by simp_all)⟩
    grind
   .have hex:=Q5d hall;refine⟨false,by simp only[Xu,k3 hex];rfl,(λe=>by cases e),λ_=>?_⟩;simp_all
 .cases h
theorem Gam.gcall {B F:Heap}{pl:Nat->Value}{tb:Nat->Option Bool}{s:St}{env:Env}{U:Heap}(hG:Gam P B F pl tb s env U) {gs:List Gd}(hg:Gds tb gs) (args:List Operand):SRs P U Yv Wp (CV s.own (args.map (gev gs s.env))) (args.map (Q5 env)) :=
 U_ hG.leB hG.obj (SRs.map λx _=>hG.evs hg x)
theorem Gam.gfun {B F:Heap}{pl:Nat->Value}{tb:Nat->Option Bool}{s:St}{env:Env}{U:Heap}(hG:Gam P B F pl tb s env U) {gs:List Gd}(hg:Gds tb gs) (f:Operand):SR P U Yv Wp ((CV s.own [gev gs s.env f]).getD 0 .any) (Q5 env f):=by have:=(U_ hG.leB hG.obj (show SRs P B pl tb [gev gs s.env f] [Q5 env f] by simp only[SRs];exact⟨_,[],rfl,hG.evs hg f,rfl⟩)).getD 0 poison;simpa using this
theorem G9 {env:Env}{f:Operand}{args:List Operand}{U:Heap}{K:Value->Heap->Prop}{g:FuncId}{a b:Array Value}(e:Q5 env f=.func (.func g) a b) (h:VCalled P g (a.toList++args.map (Q5 env)++b.toList) U K) :
  vop (Q3 P) (.callV f args) env U K:=by
 simp only[vop,e];exact h
def XOk (P:Program) (f:Nat) (x:XSp):Prop :=
 ∀ (B F:Heap) (pl:Nat->Value) (tb:Nat->Option Bool) (s:St) (env:Env) (U:Heap) (d:Nat) (args:List SV) (vs:List Value) (K:SV->St->Prop) (R:Value->Heap->Prop),
  Gam P B F pl tb s env U->SRs P B pl tb args vs->x d args s K ->
  (∀ v s' B' F' pl' tb' u U',K v s'->GBase B F U B' F' U'->Gam P B' F' pl' tb' s' env U'->SR P B' pl' tb' v u->R u U')->VCalled P f vs U R
def J0i (P:Program) (f:Nat) (x:XSp) (j:Nat):Prop :=
 ∀ (B F:Heap) (pl:Nat->Value) (tb:Nat->Option Bool) (s:St) (env:Env) (U:Heap) (d:Nat) (args:List SV) (vs:List Value) (K:SV->St->Prop) (R:Value->Heap->Prop) (t:Nat),
  Gam P B F pl tb s env U->SRs P B pl tb args vs->Z0m s.own j args=some t->x d args s K ->
  (∀ v s' u U',K v s'->Dead U U'->Gam P B F pl tb s' env U'->SR P B pl tb v u->FrL [t] s s' pl pl U U'->R u U')->VCalled P f vs U R
def J0z (P:Program) (f:Nat) (it:ISp):Prop:=Y9 P f /\
 ∀ (B:Heap) (args:List SV) (vs:List Value) (c:Prop) (m ar:Nat) (xs:Nat->List SV),SRs P B Yv Wp args vs->it args=some (c,m,ar,xs)->c ->
  (∀ k,(xs k).length=ar/\SVs.pure (xs k)=true)/\∀ (i:Nat) (Y:Co) (J:Nat->Heap->Prop) (E:Heap->Prop) (τ0:Heap),UQ P i Y->(∀ k Z,J k Z->B.Le Z) ->
   (∀ k us Z,k<m->J k Z->SRs P B Yv Wp (xs k) us->Y us Z λv Z'=>(v=.bool true/\J (k+1) Z')\/(v=.bool false/\E Z')) ->
   J 0 τ0->VCallsTo P f (.func (.yield i) #[] #[]::vs) τ0 λ_ Z=>J m Z\/E Z
def Q91 (P:Program) (o:Nat) (y:YSp):Prop :=
 ∀ (B F:Heap) (pl:Nat->Value) (tb:Nat->Option Bool) (s:St) (env:Env) (U:Heap) (args:List SV) (us:List Value) (K:SV->St->Prop) (R:Value->Heap->Prop) (i:Nat),
  Gam P B F pl tb s env U->SRs P B pl tb args us->y args s K->pl o=.pointer (some ⟨i,0,none⟩) ->
  (∀ v s' B' F' pl' tb' u U',K v s'->GBase B F U B' F' U'->Gam P B' F' pl' tb' s' env U'->SR P B' pl' tb' v u->R u U')->Lp P i us U R
def Z30 (P:Program) (f:Nat) (x:Z2v):Prop:=Y9 P f /\
 ∀ (B F:Heap) (pl:Nat->Value) (tb:Nat->Option Bool) (s:St) (env:Env) (U:Heap) (o:Nat) (args:List SV) (vs:List Value) (y:YSp) (K:St->Prop) (R:Heap->Prop),
  Gam P B F pl tb s env U->SRs P B pl tb args vs->Q91 P o y->x o args (o,y) s K ->
  (∀ s' B' F' pl' tb' ah U',K s'->GBase B F U B' F' U'->Gam P B' F' pl' tb' s' ah U'->R U')->VCallsTo P f vs U λ_=>R
structure COk (P:Program) (C:Cx):Prop where
 cs:CsOk P C.cs
 xs:∀ f x,QQ C.xs f=some x->XOk P f x
 it:∀ f x,QQ C.it f=some x->J0z P f x
 yl:∀ o y,QQ C.yl o=some y->Q91 P o y
 iy:∀ f x,QQ C.iy f=some x->Z30 P f x
 xf:∀ f j,QQ C.xf f=some j->∀ x,QQ C.xs f=some x->J0i P f x j
theorem LB {C:Cx}(aC:CsOk P C.cs) {B F:Heap}{pl:Nat->Value}{tb:Nat->Option Bool}{s:St}{env:Env}{U:Heap}(hG:Gam P B F pl tb s env U) {gs:List Gd}(hg:Gds tb gs) {raw:Bool}{o:VOp}{cs:List Prop}{v:SV}
  (h:gqc C raw o (gev gs s.env) s.own=some (cs,v)) (hc:∀ c∈cs,c) {K:Value->Heap->Prop}(hK:∀ u,SR P B pl tb v u->K u U):vop (Q3 P) o env U K:=by
 have flat:∀ {c:Prop}{v':SV},(bif v'.ret 0 then some ([c],v') else none)=some (cs,v)->v'.ret 0=true/\c/\v'=v:=λ{c v'} h=>by
  cases hv:v'.ret 0 with
  |false=>rw[hv] at h;cases h
  |true =>rw[hv] at h;obtain⟨rfl,rfl⟩:=ZN h;exact⟨rfl,hc _ (by simp),rfl⟩
 have quiet:∀ o,gq C.kt raw o (gev gs s.env) s.own=some (cs,v)->(∀ K,Zt (Q7 o (Q5 env) U) (λp=>K p.1 p.2)->vop (Q3 P) o env U K)->vop (Q3 P) o env U K:=λo h hv=>by obtain⟨u,h1,h2⟩:=Ew (hG.evs hg) (λ_=>rfl) hG.leB hG.obj h hc;exact hv K (by rw[h1];exact hK u h2)
 cases o
 case callF f args =>
  simp only[gqc] at h;split at h
  .rename_i c v' heq;obtain⟨h1,h2,rfl⟩:=flat h;obtain⟨g,a,b,h3,h4,_⟩:=Xe aC (show SR P U Yv Wp (.fn f [] []) (.func (.func f) #[] #[]) by simp only[SR,SRs];exact⟨[],[],rfl,rfl,rfl⟩) (hG.gcall hg args) heq h1 rfl h2;obtain⟨rfl,rfl,rfl⟩:=(by simpa using h3:f=g/\#[]=a/\#[]=b);have:=h4.mono (R':=K) λu U' hr=>by
    obtain⟨rfl,hu⟩:=hr.flat h1;exact hK u (hu.retd (λj hj=>by omega) _ _ h1)
   show VCalled P f (args.map (Q5 env)) U K;simpa using this
  .cases h
 case callV f args =>
  simp only[gqc] at h;split at h
  .rename_i c v' heq;obtain⟨h1,h2,rfl⟩:=flat h;obtain⟨g,a,b,h3,h4,_⟩:=Xe aC (hG.gfun hg f) (hG.gcall hg args) heq h1 rfl h2;exact G9 h3 (h4.mono λu U' hr=>by
    obtain⟨rfl,hu⟩:=hr.flat h1;exact hK u (hu.retd (λj hj=>by omega) _ _ h1))
  .cases h
 case ext x =>
  cases x
  case nextMap x=>cases h
  all_goals exact quiet _ h λ_ h=>h
 all_goals exact quiet _ h λ_ h=>h
end
end Go.V
namespace Go.V
open Go
section
variable {P:Program}
mutual
theorem Q19:∀ (v:SV) {K:SV->Prop},nmV v K->K v
 |.val k x,K,h=>by simp only[nmV] at h;exact h x rfl
 |.agg l,K,h=>by simp only[nmV] at h;exact Lu l h
 |.tup l,K,h=>by simp only[nmV] at h;exact Lu l h
 |.any,_,h|.dd _ _,_,h|.bid _ _,_,h|.grd _ _,_,h|.nilS,_,h|.nilP,_,h|.nilM,_,h|.nilF,_,h|.lst _,_,h|.sub _ _ _ _,_,h|.elp _ _ _ _,_,h|.rop _ _ _ _,_,h|.box _ _,_,h|.cp _ _,_,h|.map _,_,h|.fn _ _ _,_,h|.pf _ _ _ _,_,h=>by simp only[nmV] at h;exact h
theorem Lu:∀ (l:List SV) {K:List SV->Prop},Z2y l K->K l
 |[],K,h=>by simp only[Z2y] at h;exact h
 |v::r,K,h=>by simp only[Z2y] at h;exact Lu r (Q19 v h)
end
theorem Jv {C:Cx}{o:VOp}{ev:Operand->SV}{v:SV}{K:SV->Prop}(h:gnm C o ev v K):K v:=by
 unfold gnm at h
 grind [Q19]
theorem RA {B:Heap}{pl:Nat->Value}{tb:Nat->Option Bool}{v:SV}{u:Value}(h:SR P B pl tb v u):SR P B pl tb (Hy v) u/\gtb tb (Hy v):=by
 cases v with
 |bid n c=>simp only[SR] at h;obtain⟨rfl,_⟩:=h;exact⟨Xk _,trivial⟩
 |_=>exact⟨h,trivial⟩
theorem Rr {tb:Nat->Option Bool}(v:SV):gtb tb (Hy v):=by cases v<;>trivial
theorem Tk {C:Cx}(aC:COk P C) {B F:Heap}{pl:Nat->Value}{tb:Nat->Option Bool}{s:St}{env:Env}{U:Heap}(hG:Gam P B F pl tb s env U) {d:Nat}{f:SV}{args:List SV}{fV:Value}{vs:List Value}(hf:SR P B pl tb f fV) (ha:SRs P B pl tb args vs) {K:SV->St->Prop}(h:Q0w C d f args s K) {R:Value->Heap->Prop}
  (hK:∀ v s' B' F' pl' tb' u U',K v s'->GBase B F U B' F' U'->Gam P B' F' pl' tb' s' env U'->SR P B' pl' tb' v u->R u U'):∃ g a b,fV=.func (.func g) a b/\VCalled P g (a.toList++vs++b.toList) U R:=by
 unfold Q0w at h;have p8:SR P U Yv Wp ((CV s.own [f]).getD 0 .any) fV:=by have:=(U_ hG.leB hG.obj (show SRs P B pl tb [f] [fV] by simp only[SRs];exact⟨_,[],rfl,hf,rfl⟩)).getD 0 poison;simpa using this
 have jx:=U_ hG.leB hG.obj ha;split at h
 .rename_i c v bs heq;cases hb:(v.ret bs.length&&(bs.all OB.ret&&Nat.blt 0 C.nt)) with
  |false=>rw[hb] at h;exact h.elim
  |true =>rw[hb] at h;obtain⟨h1,h2⟩:=h;simp only[z0] at hb;obtain⟨g,a,b,e,aF,_⟩:=Xe aC.cs p8 jx heq hb.1 hb.2.1 h1;refine⟨g,a,b,e,aF.mono λu U' hr=>?_⟩;obtain⟨pl',h3,h4⟩:=hr.gam (nt:=C.nt) (d:=d) (by simpa [zB] using hb.2.2) hG hb.1 hb.2.1;exact hK _ _ B F pl' tb u U' h2 (.of hG.bf hr.1.2) h3 h4
 .exact h.elim
theorem PZ {C:Cx}(aC:COk P C) {B F:Heap}{pl:Nat->Value}{tb:Nat->Option Bool}{s:St}{env:Env}{U:Heap}(hG:Gam P B F pl tb s env U) {d:Nat}{f:SV}{args:List SV}{fV:Value}{vs:List Value}(hf:SR P B pl tb f fV) (ha:SRs P B pl tb args vs) {K:SV->St->Prop}(h:Aj C d f args s K) (uF:∀ o,f≠.dd o .yv) {R:Value->Heap->Prop}
  (hK:∀ v s' B' F' pl' tb' u U',K v s'->GBase B F U B' F' U'->Gam P B' F' pl' tb' s' env U'->SR P B' pl' tb' v u->R u U'):∃ g a b,fV=.func (.func g) a b/\VCalled P g (a.toList++vs++b.toList) U R:=by
 unfold Aj at h;split at h
 .rename_i g a b;split at h
  .rename_i x hx;have vU:=hf;simp only[SR] at hf;obtain⟨a',b',rfl,h1,h2⟩:=hf;refine⟨g,a'.toArray,b'.toArray,rfl,?_⟩;have:=aC.xs g x hx B F pl tb s env U d _ _ K R hG (h1.append (ha.append h2)) h hK;simpa using this
  .exact Tk aC hG hf ha h hK
 .exact(uF _ rfl).elim
 .exact Tk aC hG hf ha h hK
theorem Q3c {C:Cx}{B F:Heap}{pl:Nat->Value}{tb:Nat->Option Bool}{s:St}{env:Env}{U:Heap}(hG:Gam P B F pl tb s env U) {d:Nat}{o:VOp}{K:SV->St->Prop}(h:gnd C d o (gev [] s.env) s K) {R:Value->Heap->Prop}
  (hK:∀ v s' B' F' pl' tb' u U',K v s'->GBase B F U B' F' U'->Gam P B' F' pl' tb' s' env U'->SR P B' pl' tb' v u->R u U'):vop (Q3 P) o env U R:=by
 obtain⟨u,U',pl',v,s',h1,h2,h3,h4⟩:=La (λx=>hG.evs (Gds.nil (tb:=tb)) x) hG h;have fin:Zt (Q7 o (Q5 env) U) (λp=>R p.1 p.2):=by rw[h1];exact hK v s' B F pl' tb u U' h2 (.of hG.bf (VR h1)) h3.1 h4
 cases o
 case buildSlice e z n ps=>exact fin
 case makeSlice e b z l c=>exact fin
 case append e b x y=>exact fin
 case store size a x=>exact fin
 all_goals exact h.elim
section
variable {B F:Heap}{pl:Nat->Value}{tb:Nat->Option Bool}{s:St}{env:Env}{U:Heap}
def Heap.ins (B U:Heap) (i:Nat) (h:B.n<=U.n):Heap where
 get j:=if j=i then U.get i else B.get j
 n:=U.n
 wf j hj:=by
  by_cases e:j=i
  .simp only[z7 e];subst e;exact U.wf j hj
  .simp only[z6 e];exact B.wf j (zO h hj)
theorem Heap.q0k (B U:Heap) (i:Nat) (h:B.n<=U.n):(B.ins U i h).get i=U.get i:=by simp[Heap.ins]
theorem Heap.q1b (B U:Heap) {i j:Nat}(h:B.n<=U.n) (e:j≠i):(B.ins U i h).get j=B.get j:=by simp[Heap.ins,e]
theorem Heap.Le.ins {B U:Heap}(h:B.Le U) (i:Nat):B.Le (B.ins U i h.1):=⟨h.1,λj b hb=>by
 by_cases e:j=i
 .subst e;rw[Heap.q0k];exact h.2 _ _ hb
 .rw[Heap.q1b _ _ _ e];exact hb⟩
theorem Heap.Le.q1v {B U:Heap}(h:B.Le U) (i:Nat):(B.ins U i h.1).Le U:=⟨z9 _,λj b hb=>by
 by_cases e:j=i
 .grind [Heap.q0k]
 .rw[Heap.q1b _ _ _ e] at hb;exact h.2 _ _ hb⟩
theorem Heap.q1w {B F U:Heap}(h:B.Le F) (i:Nat) (hB:B.n<=U.n) (hF:F.n<=U.n):(B.ins U i hB).Le (F.ins U i hF):=⟨z9 _,λj b hb=>by
 by_cases e:j=i
 .grind [Heap.q0k]
 .rw[Heap.q1b _ _ _ e] at hb |-;exact h.2 _ _ hb⟩
theorem Gam.freeze (hG:Gam P B F pl tb s env U) {o i:Nat}(hl:(Qb s.own o).live=true) (hi:Oid (pl o) i) :
  GBase B F U (B.ins U i hG.leB.1) (F.ins U i hG.le.1) U/\Gam P (B.ins U i hG.leB.1) (F.ins U i hG.le.1) pl tb ⟨s.env,oset s.own o .dead,s.nx⟩ env U:=by
 have nD:=hG.fresh o i hl hi;have lv:∀ d,(Qb (oset s.own o .dead) d).live=true->d≠o/\(Qb s.own d).live=true:=λd h=>by
  rw[Qm] at h;by_cases e:d=o
  .rw[z7 e] at h;cases h
  .rw[z6 e] at h;exact⟨e,h⟩
 refine⟨⟨hG.leB.ins i,hG.le.ins i,λj b h1 h2=>?_,.refl _⟩,⟨Heap.q1w hG.bf i _ _,hG.le.q1v i,SRs.mono (hG.leB.ins i) (λ_ _ h=>h) _ _ hG.env,λd=>?_,λd j h1 h2=>?_,λd d' j aK h1 h2 h3 h4=>hG.sep d d' j aK (lv d h1).2 (lv d' h2).2 h3 h4,hG.free⟩⟩
 .grind [Heap.q1b]
 .simp only[Qm];by_cases e:d=o
  .rw[z7 e];trivial
  .rw[z6 e];exact(hG.obj d).mono (hG.leB.ins i) (λ_ _ h=>h) λ_ _ _=>rfl
 .obtain⟨aK,cf⟩:=lv d h1;have e:j≠i:=by rintro rfl;exact hG.sep d o j aK cf hl h2 hi
  rw[Heap.q1b _ _ _ e];exact hG.fresh d j cf h2
theorem Gam.own {s':St}(hG:Gam P B F pl tb s env U) (h1:s'.env=s.env) (h2:∀ d,Qb s'.own d=Qb s.own d) (h3:s'.nx=s.nx):Gam P B F pl tb s' env U :=
 ⟨hG.bf,hG.le,by rw[h1];exact hG.env,λd=>by rw[h2];exact hG.obj d,λd i=>by rw[h2];exact hG.fresh d i,λd d' i aK=>by rw[h2,h2];exact hG.sep d d' i aK,λn hn=>hG.free n (by rw[<-h3];exact hn)⟩
theorem Gam.drop (hG:Gam P B F pl tb s env U) (o:Nat):Gam P B F pl tb ⟨s.env,oset s.own o .dead,s.nx⟩ env U:=by
 have lv:∀ d,(Qb (oset s.own o .dead) d).live=true->d≠o/\(Qb s.own d).live=true:=λd h=>by
  rw[Qm] at h;by_cases e:d=o
  .rw[z7 e] at h;cases h
  .rw[z6 e] at h;exact⟨e,h⟩
 refine⟨hG.bf,hG.le,hG.env,λd=>?_,λd j h1 h2=>hG.fresh d j (lv d h1).2 h2,λd d' j aK h1 h2 h3 h4=>hG.sep d d' j aK (lv d h1).2 (lv d' h2).2 h3 h4,hG.free⟩;simp only[Qm];by_cases e:d=o
 .rw[z7 e];trivial
 .rw[z6 e];exact hG.obj d
theorem Oo (s:St) (d:Nat) (b:OB) (q:Nat):Qb (s.make d .dead).own q=Qb (oset (s.make d b).own d .dead) q:=by simp only[St.make,Qm];simp_all
theorem Q2f {C:Cx}(hG:Gam P B F pl tb s env U) {d:Nat}{x:Operand}{K:SV->St->Prop}(h:gn C d (.ext (.rangeMap x)) (gev [] s.env) s K) {R:Value->Heap->Prop}
  (hK:∀ v s' B' F' pl' tb' u U',K v s'->GBase B F U B' F' U'->Gam P B' F' pl' tb' s' env U'->SR P B' pl' tb' v u->R u U'):vop (Q3 P) (.ext (.rangeMap x)) env U R:=by
 have ha:=hG.evs (Gds.nil (tb:=tb)) x;simp only[gn] at h;split at h
 .rename_i o h1;rw[h1] at ha;simp only[SR] at ha;split at h
  .rename_i kk vk m ho;split at h
   .have ak:=hG.obj o;rw[ho] at ak;obtain⟨i,es,clock,h2,h3,h4⟩:=ak;obtain⟨g1,g2⟩:=hG.freeze (o:=o) (i:=i) (by rw[ho];rfl) (by rw[h2];rfl)
    have dI:=g2.push d (.iter kk vk m []) (.pointer (some ⟨U.n,0,none⟩)) (.obj (.iter i clock [] clock) true) rfl
     ⟨U.n,i,es,clock,true,[],rfl,Heap.q0a _ _,by rw[Heap.q0k];exact h3,h4.mono g1.b,rfl,λt r h=>by simp at h⟩
    show Zt (Q7 (.ext (.rangeMap x)) (Q5 env) U) _;have hv:Q7 (.ext (.rangeMap x)) (Q5 env) U=some (.pointer (some ⟨U.n,0,none⟩),U.push (.obj (.iter i clock [] clock) true)):=by simp only[Q7,ZT,ha.1,h2,Heap.mapAt,h3]
    rw[hv];exact hK _ _ _ _ _ _ _ _ h (g1.trans (.of g2.bf (Dead.push _ _))) dI (by simp only[SR,XZ];exact⟨_,rfl,rfl⟩)
   .exact h.elim
  .rename_i kk vk m ho;split at h
   .have ak:=hG.obj o;rw[ho] at ak;obtain⟨i,es,clock,wr,h2,h3,h4⟩:=ak
    have dI:=hG.push d (.iter kk vk m []) (.pointer (some ⟨U.n,0,none⟩)) (.obj (.iter i clock [] clock) true) rfl
     ⟨U.n,i,es,clock,wr,[],rfl,Heap.q0a _ _,h3,h4,rfl,λt r h=>by simp at h⟩
    show Zt (Q7 (.ext (.rangeMap x)) (Q5 env) U) _;have hv:Q7 (.ext (.rangeMap x)) (Q5 env) U=some (.pointer (some ⟨U.n,0,none⟩),U.push (.obj (.iter i clock [] clock) true)):=by have fz:=hG.leB.2 _ _ h3;simp only[Q7,ZT,ha.1,h2,Heap.mapAt,fz]
    rw[hv];exact hK _ _ _ _ _ _ _ _ h (.of hG.bf (Dead.push _ _)) dI (by simp only[SR,XZ];exact⟨_,rfl,rfl⟩)
   .exact h.elim
  .exact h.elim
 .exact h.elim
theorem Q42 {C:Cx}(hG:Gam P B F pl tb s env U) {d:Nat}{x:Operand}{K:SV->St->Prop}(h:gn C d (.ext (.rangeStr x)) (gev [] s.env) s K) {R:Value->Heap->Prop}
  (hK:∀ v s' B' F' pl' tb' u U',K v s'->GBase B F U B' F' U'->Gam P B' F' pl' tb' s' env U'->SR P B' pl' tb' v u->R u U'):vop (Q3 P) (.ext (.rangeStr x)) env U R:=by
 have ha:=hG.evs (Gds.nil (tb:=tb)) x;simp only[gn] at h;split at h
 .rename_i xs h1;have e1:=VX h1 ha;have dI:=hG.push d (.siter xs 0) (.pointer (some ⟨U.n,0,none⟩)) (.obj (.siter ⟨xs.toArray⟩ 0) true) rfl ⟨U.n,_,rfl,Heap.q0a _ _,by simp⟩;show Zt (Q7 (.ext (.rangeStr x)) (Q5 env) U) _;have hv:Q7 (.ext (.rangeStr x)) (Q5 env) U=some (.pointer (some ⟨U.n,0,none⟩),U.push (.obj (.siter ⟨xs.toArray⟩ 0) true)):=by
   simp only[Q7,ZT,e1]
  rw[hv];exact hK _ _ _ _ _ _ _ _ h (.of hG.bf (Dead.push _ _)) dI (by simp only[SR,XZ];exact⟨_,rfl,rfl⟩)
 .exact h.elim
theorem Q4q {C:Cx}(hG:Gam P B F pl tb s env U) {d:Nat}{x:Operand}{K:SV->St->Prop}(h:gn C d (.ext (.nextStr x)) (gev [] s.env) s K) {R:Value->Heap->Prop}
  (hK:∀ v s' B' F' pl' tb' u U',K v s'->GBase B F U B' F' U'->Gam P B' F' pl' tb' s' env U'->SR P B' pl' tb' v u->R u U'):vop (Q3 P) (.ext (.nextStr x)) env U R:=by
 have ha:=hG.evs (Gds.nil (tb:=tb)) x;simp only[gn] at h;split at h
 .rename_i o f h1;rw[h1] at ha;simp only[SR] at ha;split at h
  .rename_i l pos ho;split at h
   .rename_i hf;subst hf;have aw:(Qb s.own o).live=true:=by rw[ho];rfl
    have ak:=hG.obj o;rw[ho] at ak;obtain⟨j,bs,h2,h3,h4⟩:=ak;obtain⟨b,e2,e3⟩:=ha;rw[h2] at e2;obtain rfl:j=b:=by simpa using e2
    have bt:F.get j=none:=hG.fresh o j aw (by rw[h2];rfl);have cZ:∀ q i',q≠o->(Qb s.own q).live=true->Oid (pl q) i'->i'≠j:=λq i' hq hl hi e=>by subst e;exact hG.sep q o i' hq hl aw hi (by rw[h2];rfl)
    show Zt (Q7 (.ext (.nextStr x)) (Q5 env) U) _;by_cases hp:pos<l.length
    .obtain⟨hb,h⟩:=h.1 hp;have hg:bs.data.toList[pos]?=some (l.getD pos 0):=by
      rw[h4,zd,z8 hp];rfl
     have hv:Q7 (.ext (.nextStr x)) (Q5 env) U=some (.tuple #[.bool true,.int .i64 pos,.int .i32 (l.getD pos 0).toNat],U.upd j (.obj (.siter bs (pos+1)) true)):=by simp only[Q7,ZT,e3,h3,hg,z7 hb]
     rw[hv];refine hK _ _ _ _ _ _ _ _ h (.of hG.bf (Dead.upd _ _ _ (by rw[h3];rfl))) (hG.write o _ (hG.le.upd bt _) aw (by grind [Heap.q0b]) ⟨j,bs,h2,Heap.q0d _ _ (U.lt h3),h4⟩) ?_;simp only[SR,SRs];exact⟨_,rfl,_,_,rfl,rfl,_,_,rfl,rfl,_,_,rfl,rfl,rfl⟩
    .have h:=h.2 (by omega);have hg:bs.data.toList[pos]?=none:=by
      rw[h4];exact zE (by omega)
     have hv:Q7 (.ext (.nextStr x)) (Q5 env) U=some (.tuple #[.bool false],U):=by simp only[Q7,ZT,e3,h3,hg]
     rw[hv];exact hK _ _ _ _ _ _ _ _ h (.of hG.bf (Dead.refl U)) hG (by simp only[SR,SRs];exact⟨[.bool false],rfl,_,[],rfl,rfl,rfl⟩)
   .exact h.elim
  .exact h.elim
 .exact h.elim
theorem Q58 {C:Cx}(hG:Gam P B F pl tb s env U) {d:Nat}{x:Operand}{K:SV->St->Prop}(h:gn C d (.ext (.nextMap x)) (gev [] s.env) s K) {R:Value->Heap->Prop}
  (hK:∀ v s' B' F' pl' tb' u U',K v s'->GBase B F U B' F' U'->Gam P B' F' pl' tb' s' env U'->SR P B' pl' tb' v u->R u U'):vop (Q3 P) (.ext (.nextMap x)) env U R:=by
 have ha:=hG.evs (Gds.nil (tb:=tb)) x;simp only[gn] at h;split at h
 .rename_i o f h1;rw[h1] at ha;simp only[SR] at ha;split at h
  .rename_i kk vk m dn ho;split at h
   .rename_i hf;obtain⟨rfl,nE⟩:=hf;have aw:(Qb s.own o).live=true:=by rw[ho];rfl
    have ak:=hG.obj o;rw[ho] at ak;obtain⟨j,i,es,clock,wr,seen,h2,h3,h4,h5,h6⟩:=ak;obtain⟨b,e2,e3⟩:=ha;rw[h2] at e2;obtain rfl:j=b:=by simpa using e2
    have aH:U.mapAt i=some (es,clock,wr):=by simp[Heap.mapAt,hG.leB.2 _ _ h4]
    have hlen:=h5.1.length;obtain⟨hA,hB⟩:=h;have bt:F.get j=none:=hG.fresh o j aw (by rw[h2];rfl);have cZ:∀ q i',q≠o->(Qb s.own q).live=true->Oid (pl q) i'->i'≠j:=λq i' hq hl hi e=>by subst e;exact hG.sep q o i' hq hl aw hi (by rw[h2];rfl)
    show Q08 (Q5 env x) U R;unfold Q08;rw[e3];simp only[h3,aH];refine⟨?_,?_,λhall=>?_,λe he nb=>?_⟩
    .cases es with
     |nil=>simp
     |cons e es=>simp[h5.2.2 e (by simp)]
    .rw[zg];intro e he;obtain⟨r,hr⟩:=x5.1 he;obtain⟨_,k1,_⟩:=MR.at h5.1 hr;exact Ok nE k1
    .refine hK _ _ _ _ _ _ _ _ (hA λr hr=>?_) (.of hG.bf (Dead.refl U)) hG (by simp only[SR,SRs];exact⟨[.bool false],rfl,_,[],rfl,rfl,rfl⟩);have eo:r<es.length:=by omega
     have he:=z8 eo;have:=zg.1 hall es[r] (zl eo);have ao:=h5.2.2 _ (zl eo);rw[zt,zf] at this;rcases this with this|this
     .rw[List.contains_iff_mem] at this;obtain⟨t,ht⟩:=x5.1 this;have vV:t<seen.length:=(zp.1 ht).1;have rV:t<dn.length:=by have:=h6.1;omega
      obtain⟨e',k1,k2⟩:=h6.2 t dn[t] (z8 rV);rw[ht] at k2;have:=Om h5.2 he k1 (osj k2);rw[this];exact zl rV
     .omega
    .obtain⟨r,hr⟩:=x5.1 he;have eo:r<es.length:=(zp.1 hr).1;have uG:r∉dn:=λhm=>by
      obtain⟨t,ht⟩:=x5.1 hm;obtain⟨e',k1,k2⟩:=h6.2 t r ht
      grind
     refine hK _ _ _ _ _ _ _ _ (hB r (by omega) uG) (.of hG.bf (Dead.upd _ _ _ (by rw[h3];rfl))) (hG.write o _ (hG.le.upd bt _) aw (by grind [Heap.q0b]) ⟨j,i,es,clock,wr,seen++[e.2.2],h2,Heap.q0d _ _ (U.lt h3),h4,h5,?_,λt r' ht=>?_⟩) (by simp only[SR,SRs];exact⟨[.bool true,e.1,e.2.1],rfl,_,_,rfl,rfl,_,_,rfl,trivial,_,_,rfl,trivial,rfl⟩)
     .simp[h6.1]
     .rw[List.getElem?_append] at ht;split at ht
      .rename_i ao;obtain⟨e',k1,k2⟩:=h6.2 t r' ht
       grind
      .rename_i bZ;have h0:t-dn.length=0:=by
        grind
       rw[h0] at ht;obtain rfl:r=r':=by simpa using ht
       refine⟨e,hr,?_⟩;rw[xn (by have:=h6.1;omega),show t-seen.length=0 by have:=h6.1;omega];rfl
   .exact h.elim
  .exact h.elim
 .exact h.elim
theorem FB {d:Nat}(la:B.Le F) {ty:Nat}{k:Kind}{xs:List k.T}{nl:Bool}(hk:k.flat=true) {pl':Nat->Value}{u:Value}{U':Heap}(h1:Gam P B F pl' tb (s.make d (.lst ty k xs nl)) env U') (h2:SR P B pl' tb (.lst d) u) (hd:Dead U U') :
  ∃ B' F',GBase B F U B' F' U'/\Gam P B' F' pl' tb (s.make d .dead) env U'/\SR P B' pl' tb (.val (.list k) xs) u:=by
 have ak:=h1.obj d;have bC:Qb (s.make d (.lst ty k xs nl)).own d=.lst ty k xs nl:=by simp only[St.make,Qm,zq]
 rw[bC] at ak;simp only[SR] at h2;obtain⟨rfl,_⟩:=h2;rcases ak with⟨_,hx,hp⟩|⟨_,i,cap,c,t,hp,bO,hg,hlen,bK⟩
 .refine⟨B,F,.of la hd,(h1.drop d).own rfl (Oo s d _) rfl,?_⟩;simp only[SR];exact⟨_,rfl,.inl ⟨hx,hp⟩⟩
 .obtain⟨g1,g2⟩:=h1.freeze (o:=d) (i:=i) (by rw[bC];rfl) (by rw[hp];rfl);refine⟨_,_,(GBase.of la hd).trans g1,g2.own rfl (Oo s d _) rfl,?_⟩;simp only[SR];refine⟨_,rfl,.inr ⟨i,0,cap,c,⟨k.size,ty⟩,true,t,hp,bO,by rw[Heap.q0k];exact hg,rfl,by have:=zn k.size bO;omega,?_⟩⟩;rw[xy];exact bK.mono λ_ _ e=>KC.flat hk e
theorem Q1e {d nt:Nat}(eA:0<nt) (hG:Gam P B F pl tb s env U) {ty:Nat}{k:Kind}{xs:List k.T}{nl:Bool}(hk:k.flat=true) {u:Value}{U':Heap}(h:Ret P U (.lst 0) [.lst ty k xs nl] u U') :
  ∃ B' F' pl',GBase B F U B' F' U'/\Gam P B' F' pl' tb (s.make d .dead) env U'/\SR P B' pl' tb (.val (.list k) xs) u:=by
 obtain⟨pl',h1,h2⟩:=h.gam (d:=d) eA hG (by rfl) (by simp only[zW,List.all_nil,xM,OB.ret];exact hk);simp only[St.makes,Nat.zero_mul,z_,SV.ren] at h1 h2;obtain⟨B',F',k⟩:=FB hG.bf hk h1 h2 h.1.2;exact⟨B',F',pl',k⟩
theorem GX {nt:Nat}{r:Option (Prop×SV×List OB)}{c:Prop}{v:SV}(h:Q1w nt r=some (c,v)):∃ ty k xs nl,r=some (c,.lst 0,[.lst ty k xs nl])/\v=.val (.list k) xs/\k.flat=true/\0<nt:=by
 unfold Q1w at h;split at h
 .split at h
  .rename_i k xs _;cases hc:(k.flat&&Nat.blt 0 nt) with
   |false=>rw[hc] at h;cases h
   |true =>rw[hc] at h;obtain⟨rfl,rfl⟩:=ZN h;simp only[z0,zB] at hc;exact⟨_,_,_,_,rfl,rfl,hc.1,hc.2⟩
  .cases h
 .cases h
theorem OC {C:Cx}(aC:CsOk P C.cs) (hG:Gam P B F pl tb s env U) {gs:List Gd}(hg:Gds tb gs) {o:VOp}{c:Prop}{v:SV}{d:Nat}(h:En C o (gev gs s.env) s.own=some (c,v)) (hc:c) {K:Value->Heap->Prop}
  (hK:∀ u U' B' F' pl',GBase B F U B' F' U'->Gam P B' F' pl' tb (s.make d .dead) env U'->SR P B' pl' tb v u->K u U'):vop (Q3 P) o env U K:=by
 cases o<;>first|(cases h;done)|skip
 case callF f args =>
  simp only[En] at h;obtain⟨ty,k,xs,nl,heq,rfl,hk,eA⟩:=GX h;obtain⟨g,a,b,h3,h4,_⟩:=Xe aC (show SR P U Yv Wp (.fn f [] []) (.func (.func f) #[] #[]) by simp only[SR,SRs];exact⟨[],[],rfl,rfl,rfl⟩) (hG.gcall hg args) heq (by rfl) (by simp only[zW,List.all_nil,xM,OB.ret];exact hk) hc;obtain⟨rfl,rfl,rfl⟩:=(by simpa using h3:f=g/\#[]=a/\#[]=b);have:=h4.mono (R':=K) λu U' hr=>by obtain⟨B',F',pl',k1,k2,k3⟩:=Q1e (d:=d) eA hG hk hr;exact hK u U' B' F' pl' k1 k2 k3
  show VCalled P f (args.map (Q5 env)) U K;simpa using this
 case callV f args =>
  simp only[En] at h;obtain⟨ty,k,xs,nl,heq,rfl,hk,eA⟩:=GX h;obtain⟨g,a,b,h3,h4,_⟩:=Xe aC (hG.gfun hg f) (hG.gcall hg args) heq (by rfl) (by simp only[zW,List.all_nil,xM,OB.ret];exact hk) hc;exact G9 h3 (h4.mono λu U' hr=>by
   obtain⟨B',F',pl',k1,k2,k3⟩:=Q1e (d:=d) eA hG hk hr;exact hK u U' B' F' pl' k1 k2 k3)
 case buildSlice e z n ps =>
  simp only[En] at h;split at h
  .rename_i k uH;split at h
   .rename_i eP;split at h
    .rename_i xs hx;obtain⟨rfl,rfl⟩:=ZN h;have uI:gn C d (.buildSlice e z n ps) (gev gs s.env) s (λv s'=>v=.lst d/\s'=s.make d (.lst e.ty k xs false)):=by
      simp only[gn,uH,hx];simp_all
     obtain⟨u,U',pl',v,s',h1,⟨rfl,rfl⟩,⟨h3,_⟩,h4⟩:=Gl (λx=>hG.evs hg x) hG uI;obtain⟨B',F',k1,k2,k3⟩:=FB hG.bf eP.2.2 h3 h4 (VR h1);show Zt (Q7 (.buildSlice e z n ps) (Q5 env) U) _;rw[h1];exact hK u U' B' F' pl' k1 k2 k3
    .cases h
   .cases h
  .cases h
theorem O5 {C:Cx}{o:VOp}{ev:Operand->SV}{own:Own}{c:Prop}{v:SV}(h:En C o ev own=some (c,v)):∃ (k:Kind) (xs:List k.T),v=.val (.list k) xs:=by
 cases o<;>first|(cases h;done)|skip
 case callF=>simp only[En] at h;grind [GX]
 case callV=>simp only[En] at h;grind [GX]
 case buildSlice e z n ps =>
  simp only[En] at h
  grind
theorem Q8p {C:Cx}(aC:COk P C) {B F:Heap}{pl:Nat->Value}{tb:Nat->Option Bool}{s:St}{env:Env}{U:Heap}(hG:Gam P B F pl tb s env U) {d:Nat}{o:VOp}{K:SV->St->Prop}(h:gn C d o (gev [] s.env) s K) {R:Value->Heap->Prop}
  (hK:∀ v s' B' F' pl' tb' u U',K v s'->GBase B F U B' F' U'->Gam P B' F' pl' tb' s' env U'->SR P B' pl' tb' v u->R u U'):vop (Q3 P) o env U R:=by
 have aj:=hG.evs (Gds.nil (tb:=tb));have act:∀ o {T:Nat},NOk P B F tb o (Q5 env) env U K T s pl->(∀ R',Zt (Q7 o (Q5 env) U) (λp=>R' p.1 p.2)->vop (Q3 P) o env U R')->vop (Q3 P) o env U R:=λo _ ⟨u,U',pl',v,s',h1,h2,h3,h4⟩ hv=>hv R (by rw[h1];exact hK v s' B F pl' tb u U' h2 (.of hG.bf (VR h1)) h3.1 h4);have aA:∀ args:List Operand,SRs P B pl tb (args.map (gev [] s.env)) (args.map (Q5 env)):=(by grind [SRs.map,Gds.nil]);cases o
 case alloc t z=>exact act _ (Q69 aj hG h) λ_ h=>h
 case box t x=>exact act _ (Z5j aj hG h) λ_ h=>h
 case buildSlice e z n ps=>exact act _ (Gl aj hG h) λ_ h=>h
 case makeSlice e b z l c=>exact False.elim h
 case append e b x y=>exact act _ (Q0p aj hG h) λ_ h=>h
 case store size a x=>exact act _ (Q55 aj hG h) λ_ h=>h
 case callF f args =>
  simp only[gn] at h;obtain⟨g,a,b,h3,h4⟩:=PZ aC hG (show SR P B pl tb (.fn f [] []) (.func (.func f) #[] #[]) by simp only[SR,SRs];exact⟨[],[],rfl,rfl,rfl⟩) (aA args) h (λ_ e=>by cases e) hK;obtain⟨rfl,rfl,rfl⟩:=(by simpa using h3:f=g/\#[]=a/\#[]=b);show VCalled P f (args.map (Q5 env)) U R;simpa using h4
 case callV f args =>
  simp only[gn] at h;by_cases hy:∃ o,gev [] s.env f=.dd o .yv
  .obtain⟨o,hy⟩:=hy;have hf:=hG.evs (Gds.nil (tb:=tb)) f;have h':Aj C d (gev [] s.env f) (args.map (gev [] s.env)) s K:=h;rw[hy] at hf h';simp only[SR,DR] at hf;obtain⟨i,hp,hv⟩:=hf;simp only[Aj] at h';split at h'
   .rename_i y uJ;have:=aC.yl o y uJ B F pl tb s env U _ _ K R i hG (aA args) h' hp hK;simp only[vop,hv];exact this
   .exact h'.elim
  obtain⟨g,a,b,h3,h4⟩:=PZ aC hG (hG.evs Gds.nil f) (aA args) h (λo e=>hy ⟨o,e⟩) hK;exact G9 h3 h4
 case ext x =>
  cases x
  case mapUpdate mk m k v=>exact act _ (Ll aj hG h) λ_ h=>h
  case delete mk m k=>exact False.elim h
  case mapEntry mk z m k=>exact False.elim h
  case entryStore m s v=>exact False.elim h
  case copy size a b=>exact False.elim h
  case unsafeStr e a n=>exact act _ (L8 aj hG h) λ_ h=>h
  case strBytes e a=>exact act _ (AK aj hG h) λ_ h=>h
  case rangeMap a=>exact Q2f hG h hK
  case nextMap a=>exact Q58 hG h hK
  case rangeStr a=>exact Q42 hG h hK
  case nextStr a=>exact Q4q hG h hK
  all_goals exact h.elim
 all_goals exact h.elim
theorem Gam.frz (hG:Gam P B F pl tb s env U) (o:Nat):∃ B' F',GBase B F U B' F' U/\Gam P B' F' pl tb (s.frz o) env U:=by
 unfold St.frz;split
 .rename_i ty k xs nl ho;have fin:∀ {B' F':Heap},Gam P B' F' pl tb ⟨s.env,oset s.own o .dead,s.nx⟩ env U->KC B' (.list k) xs [pl o]->Gam P B' F' pl tb ⟨SVs.frz o k xs s.env,Q8e o k xs s.own,s.nx⟩ env U:=λ{B' F'} h hk=>by
   have e1:∀ d,Qb (Q8e o k xs s.own) d=(Qb (oset s.own o .dead) d).frz o k xs:=λd=>by
    rw[Q4x,Qm];by_cases e:d=o
    .rw[z7 e,z7 e];rfl
    .rw[z6 e,z6 e]
   have lv:∀ d,(Qb (Q8e o k xs s.own) d).live=(Qb (oset s.own o .dead) d).live:=λd=>by rw[e1,OB.q1z]
   refine⟨h.bf,h.le,SRs.frz hk _ _ h.env,λd=>?_,λd i h1 h2=>?_,λd d' i aK h1 h2=>?_,h.free⟩
   .simp only[e1];exact(h.obj d).frz hk
   .simp only[lv] at h1;exact h.fresh d i h1 h2
   .simp only[lv] at h1 h2;exact h.sep d d' i aK h1 h2
  have ak:=hG.obj o;rw[ho] at ak;rcases ak with⟨_,hx,hp⟩|⟨_,i,cap,c,t,hp,bO,hg,hlen,bK⟩
  .exact⟨B,F,.of hG.bf (.refl _),fin (hG.drop o) ⟨_,rfl,.inl ⟨hx,hp⟩⟩⟩
  .obtain⟨g1,g2⟩:=hG.freeze (o:=o) (i:=i) (by rw[ho];rfl) (by rw[hp];rfl);refine⟨_,_,g1,fin g2 ⟨_,rfl,.inr ⟨i,0,cap,c,⟨k.size,ty⟩,true,t,hp,bO,by rw[Heap.q0k];exact hg,rfl,by have:=zn k.size bO;omega,?_⟩⟩⟩;rw[xy];exact bK.mono λ_ _ e=>KC.mono g1.b e
 .exact⟨B,F,.of hG.bf (.refl _),hG⟩
theorem GRel.frzs {B0 F0 D0:Heap}:∀ (l:List Nat) {s:St},GRel P B0 F0 D0 s env U->GRel P B0 F0 D0 (s.frzs l) env U
 |[],_,h=>h
 |o::r,s,⟨B,F,pl,tb,hB,hG⟩=>by obtain⟨B',F',g1,g2⟩:=hG.frz o;exact GRel.frzs r ⟨B',F',pl,tb,hB.trans g1,g2⟩
end
theorem Lf {j:Nat}{f:Nat->Prop}:∀ {n i:Nat},Q0u (j:Int) f n i->i<=j->j<i+n->f j
 |0,i,_,h1,h2=>by omega
 |n+1,i,h,h1,h2=>by
  rcases zm i j with h3|h3
  .exact Lf h.2 h3 (by omega)
  .have:j=i:=by omega
   subst this;exact h.1 rfl
theorem Q59 {o:VOp}{len i:Nat}{f:Nat->VOp}(h:Z5i o=some (len,i,f)) {n:Nat}:(∃ size x,f n=.indexAddrArr len size x (.const (.int .i64 (Int.ofNat n))))\/∃ agg size x,f n=.indexArr len agg size x (.const (.int .i64 (Int.ofNat n))):=by
 unfold Z5i at h;split at h
 .cases h;exact .inl ⟨_,_,rfl⟩
 .cases h;exact .inr ⟨_,_,_,rfl⟩
 .cases h
theorem Q7m {o:VOp}{len i:Nat}{f:Nat->VOp}(h:Z5i o=some (len,i,f)) {S:VSpecs}{env:Env}{U:Heap}{k:IntKind}{n:Nat}(he:Q5 env (.tmp i)=.int k (n:Int)) {R:Value->Heap->Prop}(hv:vop S (f n) env U R):vop S o env U R:=by
 have hc:Q5 env (.const (.int .i64 (Int.ofNat n)))=.int .i64 (n:Int):=rfl;unfold Z5i at h;split at h
 .rename_i len size x t;cases h;change Zt (Q7 _ (Q5 env) U) _ at hv;change Zt (Q7 _ (Q5 env) U) _;simp only[Q7,he,hc] at hv |-
  grind
 .rename_i len agg size x t;cases h;change Zt (Q7 _ (Q5 env) U) _ at hv;change Zt (Q7 _ (Q5 env) U) _;simp only[Q7,he,hc] at hv |-
  grind
 .cases h
theorem AQ {C:Cx}(aC:COk P C) {B0 F0 D0:Heap}{s:St}{env:Env}{U:Heap}(hR:GRel P B0 F0 D0 s env U) {o:VOper}{K:St->Prop}(h:Z7v C o s K) {R:Env->Heap->Prop}(hK:∀ s' ah U',K s'->GRel P B0 F0 D0 s' ah U'->R ah U') :
  Zt (Xu env o.guard) λb=>vif b (vop (Q3 P) o.op env U λv U'=>R (Ww env o.dst v) U') (R (Ww env o.dst undef) U):=by
 unfold Z7v at h;split at h
 .rename_i hg;rw[hg];refine⟨λ_=>?_,λe=>by cases e⟩
  replace hR:=hR.frzs (Z2q C (o.dst.getD 0) o.op (gev [] s.env) s.own)
  generalize s.frzs (Z2q C (o.dst.getD 0) o.op (gev [] s.env) s.own)=s at h hR;obtain⟨B,F,pl,tb,hB,hG⟩:=hR;unfold J16 at h;split at h
  .rename_i len i f rW;split at h
   .rename_i k j hj;obtain⟨h1,h2,h3⟩:=h;obtain⟨n,rfl⟩:=zA h1;have hn:n<len:=by omega
    have h4:=Lf h3 (Nat.zero_le n) (by omega);have he:=X7 hj (hG.evs (Gds.nil (tb:=tb)) (.tmp i));split at h4
    .rename_i cs v dj;obtain⟨k1,k2⟩:=JC h4
     replace k1:=Jv k1
     have hv:=LB (C:=C) aC.cs hG Gds.nil (o:=f n) (raw:=C.raw.contains (o.dst.getD 0)) (cs:=cs) (v:=v) (by
      rw[<-dj];obtain⟨size,x,hf⟩|⟨agg,size,x,hf⟩:=Q59 rW<;>rw[hf];rfl;rfl) (k2 λg hg=>by cases hg) λu hu=>hK _ _ _ k1 ⟨B,F,pl,tb,hB,hG.put o.dst hu⟩
     exact Q7m rW he hv
    .exact h4.elim
   .exact h.elim
  unfold J0x at h;split at h
  .rename_i c a b bD;split at h
   .rename_i v hv;obtain⟨u,h1,h2⟩:=M4 hG Gds.nil hv;rw[bD];show Zt (Q7 (.pick c a b) (Q5 env) U) _;rw[h1];exact hK _ _ _ (Jv h) ⟨B,F,pl,tb,hB,hG.put o.dst h2⟩
   .exact h.elim
  .rename_i vW;cases hq:Q4j o.op with
   |true =>
    rw[hq] at h;simp only[zh] at h;split at h
    .rename_i cs v dj;obtain⟨h1,h2⟩:=JC h
     replace h1:=Jv h1
     refine LB (C:=C) aC.cs hG Gds.nil (raw:=C.raw.contains (o.dst.getD 0)) (cs:=cs) (v:=v) ?_ (h2 λg hg=>by cases hg) λu hu=>hK _ _ _ h1 ⟨B,F,pl,tb,hB,hG.put o.dst hu⟩;rw[<-dj];cases ho:o.op<;>first|rfl|(rw[ho] at hq;cases hq)
    .exact h.elim
   |false =>
    rw[hq] at h;simp only[zP] at h;split at h
    .rename_i bD;split at h
     .rename_i kk vk _;obtain⟨h1,h2⟩:=Q6c hG (C.off+o.dst.getD 0) kk vk;rw[bD];change R (Ww env o.dst (.map (some U.n))) (U.push (.obj (.map [] 0) true));exact hK _ _ _ h ⟨B,F,_,tb,MW hB (Dead.push _ _),h1.put o.dst h2⟩
     .rename_i ik _;obtain⟨h1,h2⟩:=Q99 hG (C.off+o.dst.getD 0) ik;rw[bD];change R (Ww env o.dst (.map (some U.n))) (U.push (.obj (.map [] 0) true));exact hK _ _ _ h ⟨B,F,_,tb,MW hB (Dead.push _ _),h1.put o.dst h2⟩
     .exact h.elim
    .rename_i bD;cases jV:IW C (o.dst.getD 0) o.op (gev [] s.env) with
     |true =>rw[jV] at h;simp only[zh] at h;exact Q3c hG h λv s' B' F' pl' tb' u U' h1 hd h2 h3=>hK _ _ _ h1 ⟨B',F',pl',tb',hB.trans hd,h2.put o.dst h3⟩
     |false =>rw[jV] at h;simp only[zP] at h;exact Q8p aC hG h λv s' B' F' pl' tb' u U' h1 hd h2 h3=>hK _ _ _ h1 ⟨B',F',pl',tb',hB.trans hd,h2.put o.dst h3⟩
 .rename_i j want hg;obtain⟨B,F,pl,tb,hB,hG⟩:=hR;rw[hg];split at h
  .exact h.elim
  .rename_i gs s' dG;obtain⟨tb',bj,di,b,hw,bQ,b9⟩:=YC hG dG;rw[hw];refine⟨λe=>?_,λe=>?_⟩
   .have gv:Gds tb' gs:=λg hg=>⟨bQ e g hg,di g hg⟩;have fin:∀ {v u},SR P B pl tb' v u->SR P B pl tb' (.grd gs (Hy v)) u:=λ{v u} hs=>by
     simp only[SR]
     grind [RA]
    split at h
    .rename_i c a b' bD;split at h
     .rename_i v hv;obtain⟨u,h1,h2⟩:=M4 bj gv hv;rw[bD];show Zt (Q7 (.pick c a b') (Q5 env) U) _;rw[h1];exact hK _ _ _ (Jv h) ⟨B,F,pl,tb',hB,bj.put o.dst (fin h2)⟩
     .exact h.elim
    .split at h
     .rename_i cs v dj;obtain⟨h1,h2⟩:=JC h
      replace h1:=Jv h1
      exact LB aC.cs bj gv dj (h2 (bQ e)) λu hu=>hK _ _ _ h1 ⟨B,F,pl,tb',hB,bj.put o.dst (fin hu)⟩
     .split at h
      .rename_i c v jW;obtain⟨h1,h2⟩:=JC h
       replace h1:=Jv h1
       refine OC aC.cs bj gv (d:=C.off+o.dst.getD 0) jW (h2 (bQ e) c (by simp)) λu U' B' F' pl' k1 k2 k3=>hK _ _ _ h1 ⟨B',F',pl',tb',hB.trans k1,k2.put o.dst ?_⟩;simp only[SR];refine⟨⟨di,?_⟩,λ_=>k3,(by grind)⟩;obtain⟨k,xs,rfl⟩:=O5 jW;trivial
      .exact h.elim
   .have fin:∀ v,SR P B pl tb' (.grd gs (Hy v)) undef:=λv=>by
     simp only[SR];obtain⟨g,hg,aK⟩:=b9 e;exact⟨⟨di,Rr v⟩,λhall=>absurd (hall g hg) aK,λ_=>trivial⟩
    split at h
    .split at h
     .exact hK _ _ _ (Jv h) ⟨B,F,pl,tb',hB,bj.put o.dst (fin _)⟩
     .exact h.elim
    .split at h
     .exact hK _ _ _ (Jv (JC h).1) ⟨B,F,pl,tb',hB,bj.put o.dst (fin _)⟩
     .split at h
      .rename_i c v jW;refine hK _ _ _ (Jv (JC h).1) ⟨B,F,_,tb',hB,(bj.make (C.off+o.dst.getD 0) .dead undef bj.le (λ_ _ _ _ _=>rfl) trivial (λi hl _=>by cases hl)).put o.dst ?_⟩;simp only[SR];obtain⟨g,hg,aK⟩:=b9 e;refine⟨⟨di,?_⟩,λhall=>absurd (hall g hg) aK,λ_=>trivial⟩;obtain⟨k,xs,rfl⟩:=O5 jW;trivial
      .exact h.elim
theorem Q6b {C:Cx}(aC:COk P C) {B0 F0 D0:Heap}{s:St}{env:Env}{U:Heap}(hR:GRel P B0 F0 D0 s env U) {o:VOper}{K:St->Prop}(h:gop C o s K) {R:Env->Heap->Prop}(hK:∀ s' ah U',K s'->GRel P B0 F0 D0 s' ah U'->R ah U') :
  Zt (Xu env o.guard) λb=>vif b (vop (Q3 P) o.op env U λv U'=>R (Ww env o.dst v) U') (R (Ww env o.dst undef) U):=by
 unfold gop at h;split at h
 .rename_i t ht;have qm:=hR;obtain⟨B,F,pl,tb,hB,hG⟩:=hR;rw[VV hG ht];cases t with
  |true =>simp only[zh] at h;exact AQ aC qm (o:=⟨o.dst,o.op,none⟩) h hK
  |false =>simp only[zP] at h;exact⟨(λe=>by cases e),λ_=>hK _ _ _ h ⟨B,F,pl,tb,hB,hG.put o.dst (by simp[SR])⟩⟩
 .exact AQ aC hR h hK
theorem OM {B0 F0 D0:Heap}{s s':St}{env:Env}{U:Heap}(hR:GRel P B0 F0 D0 s env U) {d:Nat}(h:Z1n d s=some s'):GRel P B0 F0 D0 s' env U:=by
 unfold Z1n at h;split at h
 .rename_i o off hd;cases hz:Nat.beq off 0 with
  |false=>rw[hz] at h;cases h
  |true =>
   rw[hz] at h;simp only[zh] at h;have hz:off=0:=zK hz;subst hz;split at h
   .rename_i l _ ho;simp only[x8] at h;subst h;obtain⟨B,F,pl,tb,hB,hG⟩:=hR;have ak:=hG.obj o;rw[ho] at ak;obtain⟨i,c,e,t,e1,e2,e3,_⟩:=ak;obtain⟨k1,k2⟩:=hG.freeze (o:=o) (i:=i) (by rw[ho];rfl) (by rw[e1];rfl);have h1:=hG.env.getD d undef;rw[hd] at h1;have sr:SR P (B.ins U i hG.leB.1) pl tb (.cp l 0) (env.getD d undef):=by
     simp only[SR] at h1 |-;obtain⟨b,q1,q2⟩:=h1;rw[e1] at q1;obtain rfl:i=b:=by simpa using q1
     refine⟨i,c,e,true,t,?_,q2,SRs.mono k1.b (λ_ _ h=>h) _ _ e3⟩;rw[Heap.q0k];exact e2
    have:=k2.put (some d) sr;refine⟨_,_,pl,tb,hB.trans k1,?_⟩;have e2:Ww env (some d) (env.getD d undef)=env:=by
     show env.set d _=env;rcases zm d env.length with h|h
     .simp_all
     .rw[List.set_eq_of_length_le h]
    rw[e2] at this;exact this
   .cases h
 .cases h
theorem Q0a {B0 F0 D0:Heap}{raw:List Nat}{s s':St}{env:Env}{U:Heap}(hR:GRel P B0 F0 D0 s env U) {d:Nat}(h:Z2c raw d s=some s'):GRel P B0 F0 D0 s' env U:=by
 unfold Z2c at h;split at h
 .rename_i r hr;split at h
  .rename_i kk vk m ho;simp only[x8] at h;subst h;obtain⟨B,F,pl,tb,hB,hG⟩:=hR;have ak:=hG.obj (r % 1000);rw[ho] at ak;obtain⟨i,es,clock,e1,e2,e3⟩:=ak;obtain⟨k1,k2⟩:=hG.freeze (o:=r % 1000) (i:=i) (by rw[ho];rfl) (by rw[e1];rfl);refine⟨_,_,pl,tb,hB.trans k1,k2.bf,k2.le,k2.env,λj=>?_,λj b hl hi=>?_,λj j' b aK hl cj=>?_,k2.free⟩
   .simp only[Qm];by_cases hj:j=r % 1000
    .subst hj;rw[z7 rfl];exact⟨i,es,clock,_,e1,by rw[Heap.q0k];exact e2,e3.mono k1.b⟩
    .rw[z6 hj];have:=k2.obj j;simp only[Qm,z6 hj] at this;exact this
   .simp only[Qm] at hl;by_cases hj:j=r % 1000
    .rw[z7 hj] at hl;cases hl
    .exact k2.fresh j b (by simpa [Qm,z6 hj] using hl) hi
   .simp only[Qm] at hl cj;by_cases hj:j=r % 1000
    .rw[z7 hj] at hl;cases hl
    .by_cases cN:j'=r % 1000
     .rw[z7 cN] at cj;cases cj
     .exact k2.sep j j' b aK (by simpa [Qm,z6 hj] using hl) (by simpa [Qm,z6 cN] using cj)
  .cases h
 .cases h
theorem Q4a {C:Cx}{B0 F0 D0:Heap}{s:St}{env:Env}{U:Heap}(hR:GRel P B0 F0 D0 s env U) {d:Option Nat}{K:St->Prop}(h:Z7n C d K s):∃ s2,K s2/\GRel P B0 F0 D0 s2 env U:=by
 unfold Z7n at h;split at h
 .exact⟨s,h,hR⟩
 .rename_i d;cases hb:C.spl.contains d with
  |false=>rw[hb] at h;exact⟨s,h,hR⟩
  |true =>
   rw[hb] at h;simp only[zh] at h;split at h
   .rename_i t ht;obtain⟨B,F,pl,tb,hB,hG⟩:=hR;have he:=Yu ht (hG.env.getD d undef);have bw:∀ v,SR P B pl tb v (env.getD d undef)->GRel P B0 F0 D0 (s.put (some d) v) env U:=λv hv=>by
     have:=hG.put (some d) hv;refine⟨B,F,pl,tb,hB,?_⟩;have e2:Ww env (some d) (env.getD d undef)=env:=by
      show env.set d _=env;rcases zm d env.length with h|h
      .rw[zd,z8 h];simp
      .rw[List.set_eq_of_length_le h]
     rw[e2] at this;exact this
    have sr:SR P B pl tb (.grd [] (.val .bo t)) (env.getD d undef):=by simp only[SR];exact⟨⟨(λg hg=>by cases hg),trivial⟩,(λ_=>by rw[he];simp[KC]),λ⟨g,hg,_⟩=>by cases hg⟩
    cases hc:C.raw.contains (3000000+d) with
    |true =>
     rw[hc] at h;cases t with
     |true=>exact⟨_,h,bw _ sr⟩
     |false=>exact⟨_,h,bw _ sr⟩
    |false =>
     rw[hc] at h;cases t with
     |true=>exact⟨_,h.1 rfl,bw _ sr⟩
     |false=>exact⟨_,h.2 rfl,bw _ sr⟩
   .split at h
    .rename_i ik x r hx hr;obtain⟨B,F,pl,tb,hB,hG⟩:=hR;have he:=X7 hx (hG.env.getD d undef);obtain⟨h1,h2,h3⟩:=h;obtain⟨n,rfl⟩:=zA (show 0<=x by omega);have h4:=Lf h3 (by omega) (by omega);refine⟨_,h4,B,F,pl,tb,hB,?_⟩;have:=hG.put (some d) (v:=.val (.i ik) (n:Int)) (u:=env.getD d undef) (by rw[he];simp[SR,KC]);have e2:Ww env (some d) (env.getD d undef)=env:=by
      show env.set d _=env;rcases zm d env.length with h|h
      .rw[zd,z8 h];simp
      .rw[List.set_eq_of_length_le h]
     rw[e2] at this;exact this
    .grind [OM,Q0a]
theorem D8 {C:Cx}(aC:COk P C) {B0 F0 D0:Heap}:∀ (ops:List VOper) {s:St}{env:Env}{U:Heap},GRel P B0 F0 D0 s env U->∀ {K:St->Prop},Z7m C ops s K->∀ {R:Env->Heap->Prop},(∀ s' ah U',K s'->GRel P B0 F0 D0 s' ah U'->R ah U')->SQ (Q3 P) ops env U R
 |[],s,env,U,hR,_K,h,_R,hK=>hK s env U h hR
 |_o::r,_s,_env,_σ,hR,_K,h,_R,hK=>Q6b (R:=λenv U=>SQ (Q3 P) r env U _R) aC hR h λ_ _ _ h1 h2=>by obtain⟨s2,k1,k2⟩:=Q4a h2 h1;exact D8 aC r k2 k1 hK
theorem Q4t {S:VSpecs}{l:List DOper}{rest:List DSeg}{env:Env}{U:Heap}{K:Env->Heap->Prop}(h:l.all (λo=>!(o.kind==2)&&!(o.op.kind==2))=true) (hv:SQ S (l.map dv) env U λenv U=>Dd S rest env U K):Dd S (.alts [l]::rest) env U K:=by
 intro ops ho;obtain rfl:=zS.1 ho;have key:∀ (l:List DOper) (env:Env) (pend:List (Nat×(Heap->Prop))) (K':Env->Heap->Prop),l.all (λo=>!(o.kind==2)&&!(o.op.kind==2))=true->SQ S (l.map dv) env U K'->J_ S l env [U] U pend K':=by
  intro l;induction l with
  |nil=>intro env pend K' _ h;exact h
  |cons o rest ih =>
   intro env pend K' hk h;simp only[zW,z0,Bool.not_eq_true',zN] at hk;obtain⟨⟨bG,aB⟩,hr⟩:=hk;have hr:rest.all (λo=>!(o.kind==2)&&!(o.op.kind==2))=true:=by simpa using hr
   simp only[xm,SQ,dv] at h;simp only[J_];cases hw:Xu env o.guard with
   |none=>rw[hw] at h;exact h.elim
   |some b =>
    rw[hw] at h;obtain⟨ht,hf⟩:=h;refine⟨λe=>?_,λe=>?_⟩
    .have ht:=ht e;obtain⟨p,hp,jb⟩:∃ p,Q7 o.op (Q5 env) U=some p/\SQ S (rest.map dv) (Ww env o.dst p.1) p.2 K':=by
      have:=ht;unfold vop at this;split at this
      .rename_i f bR heq;rw[heq] at aB;exact absurd rfl aB
      .rename_i f bR heq;rw[heq] at aB;exact absurd rfl aB
      .rename_i x heq;rw[heq] at aB;exact absurd rfl aB
      .cases dD:Q7 o.op (Q5 env) U with
       |none=>rw[dD] at this;exact this.elim
       |some p=>rw[dD] at this;exact⟨p,rfl,this⟩
     have hq:p.2=U:=(by grind [H7]);rw[hq] at jb;rw[z6 bG];split
     .rw[hp];refine⟨λZ hτ=>?_,ih _ _ _ hr jb⟩;have:Z=U:=by
       grind
      subst this;show Zt (Q7 o.op (Q5 env) Z) _;rw[hp];rfl
     .rw[hp];exact ih _ _ _ hr jb
    .simp_all
 have:=key ops env [] _ h hv;have mono:∀ (l:List DOper) (env:Env) (hs:List Heap) (Z:Heap) (pend:List (Nat×(Heap->Prop))) (A B:Env->Heap->Prop),l.all (λo=>!(o.kind==2)&&!(o.op.kind==2))=true->(∀ e s,A e s->B e s)->J_ S l env hs Z pend A->J_ S l env hs Z pend B:=by
  intro l;induction l with
  |nil=>intro env hs Z pend A B _ lT h;exact lT _ _ h
  |cons o rest ih =>
   intro env hs Z pend A B hk lT h;simp only[zW,z0,Bool.not_eq_true',zN] at hk;obtain⟨⟨bG,aB⟩,hr⟩:=hk;have hr:rest.all (λo=>!(o.kind==2)&&!(o.op.kind==2))=true:=by simpa using hr
   simp only[J_] at h |-;cases hw:Xu env o.guard with
   |none=>rw[hw] at h;exact h.elim
   |some b =>
    rw[hw] at h;obtain⟨ht,hf⟩:=h;refine⟨λe=>?_,λe=>?_⟩
    .have ht:=ht e;rw[z6 bG] at ht |-;by_cases pR:o.kind=1
     .rw[z7 pR] at ht |-;cases dD:Q7 o.op (Q5 env) Z with
      |none=>rw[dD] at ht;exact ht.elim
      |some p=>rw[dD] at ht;exact⟨ht.1,ih _ _ _ _ _ _ hr lT ht.2⟩
     .rw[z6 pR] at ht |-;cases dD:Q7 o.op (Q5 env) Z with
      |none=>rw[dD] at ht;exact ht.elim
      |some p=>rw[dD] at ht;exact ih _ _ _ _ _ _ hr lT ht
    .grind
 exact mono ops env _ _ _ _ _ h (λe s hs=>⟨e,s,.refl _ _ _,hs⟩) this
theorem Xh {op:VOp}{ev:Operand->Value}{u:Value}{Z Z':Heap}(h:Q7 op ev Z=some (u,Z')):Wy op ev u Z:=by unfold Wy;rw[h];rfl
theorem Jl (s:St) (d:Option Nat) (v:SV):(s.put d v).own=s.own:=by cases d<;>rfl
theorem Vx {s s':St}{j:Nat}{want:Bool}{gs:List Gd}(h:T0 s j want=some (gs,s')):s'.own=s.own:=by
 unfold T0 at h
 grind
theorem N1 {C:Cx}{B F:Heap}{pl:Nat->Value}{tb:Nat->Option Bool}{s:St}{env:Env}{U:Heap}(hG:Gam P B F pl tb s env U) {o:DOper}{K:St->Prop}(h:gd1 C o s K) :
  ∃ b,Xu env o.guard=some b/\(b=true->∃ u s' tb',Q7 o.op (Q5 env) U=some (u,U)/\K s'/\s'.own=s.own/\Gam P B F pl tb' s' (Ww env o.dst u) U)/\(b=false->∃ s' tb',K s'/\s'.own=s.own/\Gam P B F pl tb' s' (Ww env o.dst undef) U):=by
 unfold gd1 at h;split at h
 .rename_i hg;rw[hg];refine⟨true,rfl,λ_=>?_,λe=>by cases e⟩;split at h
  .rename_i c a b bD;split at h
   .rename_i v hv;obtain⟨u,h1,h2⟩:=M4 hG Gds.nil hv;exact⟨u,_,tb,by rw[bD];exact h1,Jv h,Jl _ _ _,hG.put o.dst h2⟩
   .exact h.elim
  .split at h
   .rename_i cs v dj;obtain⟨h1,h2⟩:=JC h;obtain⟨u,h3,h4⟩:=Ew (hG.evs (Gds.nil (tb:=tb))) (λ_=>rfl) hG.leB hG.obj dj (h2 λg hg=>by cases hg);exact⟨u,_,tb,h3,Jv h1,Jl _ _ _,hG.put o.dst h4⟩
   .exact h.elim
 .rename_i j want hg;rw[hg];split at h
  .exact h.elim
  .rename_i gs s' dG;obtain⟨tb',bj,di,b,hw,bQ,b9⟩:=YC hG dG;refine⟨b,hw,λe=>?_,λe=>?_⟩
   .have gv:Gds tb' gs:=λg hg=>⟨bQ e g hg,di g hg⟩;have fin:∀ {v u},SR P B pl tb' v u->SR P B pl tb' (.grd gs (Hy v)) u:=λ{v u} hs=>by
     simp only[SR]
     grind [RA]
    split at h
    .rename_i c a b' bD;split at h
     .rename_i v hv;obtain⟨u,h1,h2⟩:=M4 bj gv hv;exact⟨u,_,tb',by rw[bD];exact h1,Jv h,(Jl _ _ _).trans (Vx dG),bj.put o.dst (fin h2)⟩
     .exact h.elim
    .split at h
     .rename_i cs v dj;obtain⟨h1,h2⟩:=JC h;obtain⟨u,h3,h4⟩:=Ew (bj.evs gv) (λ_=>rfl) bj.leB bj.obj dj (h2 (bQ e));exact⟨u,_,tb',h3,Jv h1,(Jl _ _ _).trans (Vx dG),bj.put o.dst (fin h4)⟩
     .exact h.elim
   .have fin:∀ v,SR P B pl tb' (.grd gs (Hy v)) undef:=λv=>by
     simp only[SR];obtain⟨g,hg,aK⟩:=b9 e;exact⟨⟨di,Rr v⟩,λhall=>absurd (hall g hg) aK,λ_=>trivial⟩
    split at h
    .split at h
     .exact⟨_,tb',Jv h,(Jl _ _ _).trans (Vx dG),bj.put o.dst (fin _)⟩
     .exact h.elim
    .split at h
     .exact⟨_,tb',Jv (JC h).1,(Jl _ _ _).trans (Vx dG),bj.put o.dst (fin _)⟩
     .exact h.elim
theorem OL {bs:List OB}{q:Prop}(h:Q5w bs q):(∀ b∈bs,b.wf)/\q:=by
 induction bs with
 |nil=>exact⟨(λb hb=>by cases hb),h⟩
 |cons b r ih =>obtain⟨h1,h2⟩:=h;obtain⟨h3,h4⟩:=ih h2;exact(by simp_all)
mutual
theorem Q1x {d nt:Nat}:∀ (v:SV),v.ret 0=true->(v.ren d nt).ret 0=true
 |.val k x,h=>h
 |.nilS,_|.nilP,_|.nilM,_|.nilF,_=>rfl
 |.lst j,h|.box j _,h|.map j,h=>by simp[SV.ret,Nat.blt] at h
 |.agg l,h=>by simp only[SV.ren,SV.ret] at h |-;exact L1 l h
 |.tup l,h=>by simp only[SV.ren,SV.ret] at h |-;exact L1 l h
 |.any,h|.bid _ _,h|.grd _ _,h|.sub _ _ _ _,h|.elp _ _ _ _,h|.rop _ _ _ _,h|.cp _ _,h|.fn _ _ _,h|.pf _ _ _ _,h=>by cases h
theorem L1 {d nt:Nat}:∀ (v:List SV),SVs.ret 0 v=true->SVs.ret 0 (SVs.ren d nt v)=true
 |[],_=>rfl
 |s::ss,h=>by simp only[SVs.ret,SVs.ren,z0] at h |-;exact⟨Q1x s h.1,L1 ss h.2⟩
end
theorem YI {C:Cx}(aC:COk P C) {B F:Heap}{pl:Nat->Value}{tb:Nat->Option Bool}{s:St}{env:Env}{U:Heap}(hG:Gam P B F pl tb s env U) {d:Nat}{f:SV}{args:List SV}{K:List Nat->SV->St->Prop}(h:DV C d f args s K) {fV:Value}{vs:List Value}
  (hf:SR P U Yv Wp f fV) (ha:SRs P U Yv Wp args vs):∃ g a b u U' ts v s' pl',fV=.func (.func g) a b/\(VCalled P g (a.toList++vs++b.toList) U λu' aL=>u'=u/\aL=U')/\K ts v s'/\Gam P B F pl' tb s' env U'/\SR P B pl' tb v u/\(ts=[]->U'=U/\pl'=pl/\s'=s)/\U.Le U'/\Dead U U'/\FrL ts s s' pl pl' U U':=by
 unfold DV at h;split at h
 .rename_i c v bs heq;cases hb:(v.ret bs.length&&(bs.all OB.ret&&(Nat.blt 0 C.nt&&(bs.all OB.isL&&UM v)))) with
  |false=>rw[hb] at h;exact h.elim
  |true =>
   rw[hb] at h;obtain⟨h1,h2⟩:=h;obtain⟨h3,h4⟩:=OL h2;simp only[z0] at hb;obtain⟨hv,l4,eA,hl,cK⟩:=hb;obtain⟨g,a,b,e,_,hx⟩:=Xe aC.cs hf ha heq hv l4 h1;have dg:=O3 (P:=P) U hv cK l4 hl (λb hb=>by have:=h3 b hb;cases b<;>exact this);by_cases bY:bs=[]
   .subst bY;obtain⟨k1,k2⟩:=dg.flat hv;refine⟨g,a,b,_,_,_,_,_,pl,e,hx hl cK,h4,?_,?_,λ_=>⟨k1,rfl,rfl⟩,dg.1.1,dg.1.2,λq _=>⟨rfl,rfl,λ_ _ _=>by rw[k1]⟩⟩
    .rw[k1];exact hG
    .exact SR.retd (B:=hNil) (pl:=pl) (tb:=Wp) (n:=0) (λj hj=>by omega) _ _ (Q1x v hv) (by grind [SR.ren])
   .obtain⟨pl',h5,h6,h7⟩:=dg.gamF (nt:=C.nt) (d:=d) (by simpa [zB] using eA) hG hv l4;refine⟨g,a,b,_,_,_,_,_,pl',e,hx hl cK,h4,h5,h6,(by simp_all),dg.1.1,dg.1.2,λq hq=>h7 q λj hj e=>hq ?_⟩;exact zC.2 ⟨j,zG.2 hj,e.symm⟩
 .exact h.elim
def Q1l:VOp->Bool
 |.callF ..|.callV ..=>true
 |.ext (.rangeMap _)|.ext (.nextMap _)|.ext (.rangeStr _)|.ext (.nextStr _)=>true
 |_=>false
theorem Z72 {C:Cx}{B F:Heap}{pl:Nat->Value}{tb:Nat->Option Bool}{s:St}{env:Env}{U:Heap}(hG:Gam P B F pl tb s env U) {d:Nat}{o:VOp}{K:SV->St->Prop}(h:gn C d o (gev [] s.env) s K) (hc:Q1l o=false) :
  NOk P B F tb o (Q5 env) env U K (J0 d o (gev [] s.env)) s pl:=by
 have aj:=hG.evs (Gds.nil (tb:=tb));cases o
 case alloc t z=>exact Q69 aj hG h
 case box t x=>exact Z5j aj hG h
 case buildSlice e z n ps=>exact Gl aj hG h
 case makeSlice e b z l c=>exact False.elim h
 case append e b x y=>exact Q0p aj hG h
 case store size a x=>exact Q55 aj hG h
 case callF=>cases hc
 case callV=>cases hc
 case ext x =>
  cases x
  case mapUpdate mk m k v=>exact Ll aj hG h
  case delete mk m k=>exact False.elim h
  case mapEntry mk z m k=>exact False.elim h
  case entryStore m s v=>exact False.elim h
  case copy size a b=>exact False.elim h
  case unsafeStr e a n=>exact L8 aj hG h
  case strBytes e a=>exact AK aj hG h
  case rangeMap=>cases hc
  case nextMap=>cases hc
  case rangeStr=>cases hc
  case nextStr=>cases hc
  all_goals exact h.elim
 all_goals exact h.elim
theorem EZ {o:VOp}{ev:Operand->Value}{U U':Heap}{u:Value}(hm:Lm o=true) (h:Q7 o ev U=some (u,U')):U.Le U':=by
 have push:∀ b:Blk,U.Le (U.push b):=λb=>(Heap.Le.refl U).push b;cases o<;>first|(cases hm;done)|skip
 case alloc t z=>obtain⟨rfl,rfl⟩:=ZN h;exact push _
 case box t x =>
  simp only[Q7] at h
  grind
 case buildSlice e z n ps =>
  simp only[Q7] at h
  grind
 case makeSlice e b z l c =>
  simp only[Q7] at h
  grind
def stM:MK:=.agg [.int .i64,.int .i64]
def Z67:Option Wl->Value
 |some e=>e.2.1
 |none=>.int .i64 0
def LkE (es bM:List Wl):Prop:=(es.all (λe=>JY stM e.1)=true->bM.all (λe=>JY stM e.1)=true)/\(es.all (λe=>JY stM e.1)=true->∀ k,JY stM k=true->Z67 (Z7 k bM)=Z67 (Z7 k es))
theorem LkE.trans {a b c:List Wl}(h:LkE a b) (h':LkE b c):LkE a c:=⟨λk=>h'.1 (h.1 k),λk x hx=>(h'.2 (h.1 k) x hx).trans (h.2 k x hx)⟩
theorem Q6p {mk:MK}{z:Value}(h:stP mk z=true):mk=stM/\z=.int .i64 0:=by
 unfold stP at h;split at h
 .exact⟨rfl,by rw[eq_of_beq h]⟩
 .cases h
def Q33 (U:Heap) (own:Own) (pl:Nat->Value) (Q:Heap->Prop):Option Nat->Prop
 |none=>∀ Z,U.Le Z->Q Z
 |some q=>(Qb own (q / 2)).live=true/\∃ i b,Oid (pl (q / 2)) i/\U.get i=some b/\(∀ Z,Z.get i=some b->Q Z)/\(q % 2=1->∃ es c wr,b=.obj (.map es c) wr/\∀ Z bM c',LkE es bM->Z.get i=some (.obj (.map bM c') wr)->Q Z)
structure DSt (hs:List Heap) (U:Heap) (pend:List (Nat×(Heap->Prop))) (hl chg:Nat) (A R:List (Nat×Option Nat)) (own:Own) (pl:Nat->Value):Prop where
 len:hs.length=hl
 same:∀ j Z,chg<=j->hs[j]?=some Z->Z=U
 pend:∀ c∈pend,c.1<hl\/∃ r∈R,c.1<=r.1/\Q33 U own pl c.2 r.2
 fr:∀ j Z q i,hs[j]?=some Z->Jn A j q=true->(Qb own q).live=true->Oid (pl q) i->Z.get i=U.get i
theorem Va {r:Nat}{U:Heap}:∀ {l:List (Nat×(Heap->Prop))},(∀ c∈l,r<=c.1->c.2 U)->WQ r U l
 |[],_=>trivial
 |c::l,h=>⟨h c (by simp),Va λc' cX=>h c' (by simp[cX])⟩
theorem W_ {hs:List Heap}{U' Z:Heap}{j:Nat}(h:(hs++[U'])[j]?=some Z):(j<hs.length/\hs[j]?=some Z)\/(j=hs.length/\Z=U'):=by
 grind
theorem Cf {a:Nat×Option Nat}{A:List (Nat×Option Nat)}{j q:Nat}(h:Jn (a::A) j q=true) (hj:j<=a.1):(∃ t,a.2=some t/\t≠q)/\Jn A j q=true:=by
 simp only[Jn,zW,z0,zt,zB] at h;refine⟨?_,h.2⟩;rcases h.1 with h|h
 .omega
 .split at h
  .rename_i t ht;exact⟨t,ht,λe=>by subst e;simp at h⟩
  .cases h
theorem DSt.stay {hs:List Heap}{U:Heap}{pend:List (Nat×(Heap->Prop))}{hl chg:Nat}{A R:List (Nat×Option Nat)}{own:Own}{pl:Nat->Value}(h:DSt hs U pend hl chg A R own pl) :
  WQ hs.length U pend/\DSt (hs++[U]) U pend (hl+1) chg A R own pl:=by
 have hr:∀ c∈pend,∀ r∈R,Q33 U own pl c.2 r.2->c.2 U:=λc _ r _ aq=>by
  unfold Q33 at aq;split at aq
  .exact aq U (.refl _)
  grind
 refine⟨Va λc hc hle=>?_,⟨by simp[h.len],λj Z hj ht=>?_,λc hc=>?_,λj Z q i ht hu hl hi=>?_⟩⟩
 .rcases h.pend c hc with h1|⟨r,h1,_,h2⟩
  .rw[h.len] at hle;omega
  .exact hr c hc r h1 h2
 .rcases W_ ht with⟨_,h1⟩|⟨_,h1⟩
  .exact h.same j Z hj h1
  .exact h1
 .rcases h.pend c hc with h1|h1
  .exact .inl (by omega)
  .exact .inr h1
 .rcases W_ ht with⟨_,h1⟩|⟨_,rfl⟩
  .exact h.fr j Z q i h1 hu hl hi
  .rfl
theorem DSt.write {hs:List Heap}{U U':Heap}{pend:List (Nat×(Heap->Prop))}{hl chg:Nat}{A R:List (Nat×Option Nat)}{s s':St}{pl pl':Nat->Value}(h:DSt hs U pend hl chg A R s.own pl) {T:Nat}(hf:Fr T s s' pl pl' U U') {mk ext:Bool}(hm:mk=true->U.Le U')
  (hE:ext=true->(Qb s'.own T).live=true/\pl' T=pl T/\∃ i es c bM c',pl T=.map (some i)/\U.get i=some (.obj (.map es c) true)/\U'.get i=some (.obj (.map bM c') true)/\LkE es bM)
  (hc:((mk&&Iv R hl T)||Ay R hl T||(ext&&Z34 R hl T))=true) (bp:0<hl):WQ hs.length U' pend/\DSt (hs++[U']) U' pend (hl+1) hl ((hl-1,some T)::A) R s'.own pl':=by
 have hr:∀ Q:Heap->Prop,∀ r∈R,hl<=r.1->Q33 U s.own pl Q r.2->Q33 U' s'.own pl' Q r.2:=λQ r lb bZ aq=>by
  have hq:∀ q,r.2=some q->q / 2=T->q % 2=1/\ext=true:=λq hq e=>by
   subst e;simp only[zt,z0,Iv,Ay,Z34] at hc;rcases hc with (⟨_,hc⟩|hc)|⟨he,hc⟩
   .have:=zg.1 hc r lb;rw[hq] at this;simp only[zt,zB,Nat.beq_refl,x_,zr,or_false] at this;omega
   .have:=zg.1 hc r lb;rw[hq] at this;simp only[zt,zB,Nat.beq_refl,x_,zr,or_false] at this;omega
   .have:=zg.1 hc r lb;rw[hq] at this;simp only[zt,zB,Nat.beq_refl,x_,zr,false_or] at this
    grind [Nat.eq_of_beq_eq_true]
  cases e:r.2 with
  |none =>
   rw[e] at aq;have c_:mk=true:=by
    simp only[zt,z0,Ay,Z34] at hc;rcases hc with (⟨hc,_⟩|hc)|⟨_,hc⟩
    .exact hc
    .have:=zg.1 hc r lb;rw[e] at this;simp only[zt,zB,zr,or_false] at this;omega
    .have:=zg.1 hc r lb;rw[e] at this;simp only[zt,zB,zr,or_false] at this;omega
   exactλZ ht=>aq Z ((hm c_).trans ht)
  |some q =>
   rw[e] at aq;obtain⟨k1,i,b,k2,k3,k4⟩:=aq;by_cases nF:q / 2=T
   .obtain⟨ho,he⟩:=hq q e nF;obtain⟨g1,g2,i',es,c,bM,c',g3,g4,g5,g6⟩:=hE he;obtain⟨k5,k6⟩:=k4;obtain⟨vX,c0,wr,rfl,k7⟩:=k6 ho;rw[nF] at k1 k2;have hi:i=i':=Q66 (by rw[g3];rfl) k2;subst hi;rw[g4] at k3;cases k3;refine⟨by rw[nF];exact g1,i,_,by rw[nF,g2];exact k2,g5,λZ hτ=>k7 Z _ _ g6 hτ,λ_=>⟨_,_,_,rfl,λZ uK vY hl hτ=>k7 Z _ _ (g6.trans hl) hτ⟩⟩
   .obtain⟨f1,f2,f3⟩:=hf (q / 2) nF;exact⟨by rw[f1];exact k1,i,b,by rw[f2];exact k2,by rw[f3 k1 i k2];exact k3,k4⟩
 have now:∀ Q:Heap->Prop,∀ r,Q33 U' s'.own pl' Q r->Q U':=λQ r aq=>by
  unfold Q33 at aq;split at aq
  .exact aq U' (.refl _)
  grind
 refine⟨Va λc hc hle=>?_,⟨by simp[h.len],λj Z hj ht=>?_,λc hc=>?_,λj Z q i ht hu cj hi=>?_⟩⟩
 .rw[h.len] at hle;rcases h.pend c hc with h1|⟨r,h1,h2,h3⟩
  .omega
  grind
 .rcases W_ ht with⟨h1,_⟩|⟨_,h1⟩
  .rw[h.len] at h1;omega
  .exact h1
 .rcases h.pend c hc with h1|⟨r,h1,h2,h3⟩
  .exact .inl (by omega)
  grind
 .rcases W_ ht with⟨h1,h2⟩|⟨_,rfl⟩
  .rw[h.len] at h1;obtain⟨⟨t,ht,uL⟩,dt⟩:=Cf hu (by simp only;omega);obtain rfl:=osj ht;obtain⟨f1,f2,f3⟩:=hf q (Ne.symm uL);rw[f1] at cj;rw[f2] at hi;rw[f3 cj i hi];exact h.fr j Z q i h2 dt cj hi
  .rfl
theorem HU {ts:List Nat}{hl j q:Nat}{A:List (Nat×Option Nat)}(h:Jn (ts.map (λt=>(hl,some t))++A) j q=true) (hj:j<=hl):q∉ts/\Jn A j q=true:=by simp only[Jn,List.all_append,z0] at h |-;refine⟨λhm=>?_,h.2⟩;have:=zg.1 h.1 (hl,some q) (zC.2 ⟨q,hm,rfl⟩);simp only[zt,zB,Nat.beq_refl,x_,zr,or_false] at this;omega
theorem DSt.call {hs:List Heap}{U U':Heap}{pend:List (Nat×(Heap->Prop))}{hl chg:Nat}{A R:List (Nat×Option Nat)}{s s':St}{pl pl':Nat->Value}(h:DSt hs U pend hl chg A R s.own pl) (hle:U.Le U') {Ts:List Nat}(hf:FrL Ts s s' pl pl' U U') (bp:0<hl) :
  WQ hs.length U' pend/\DSt (hs++[U']) U' pend (hl+1) hl (Ts.map (λt=>(hl-1,some t))++A) (R.map λr=>(r.1,none)) s'.own pl':=by
 have hr:∀ Q r,Q33 U s.own pl Q r->∀ Z,U'.Le Z->Q Z:=λQ r aq Z ht=>by
  unfold Q33 at aq;split at aq
  .exact aq Z (hle.trans ht)
  .obtain⟨_,i,b,_,h2,h3,_⟩:=aq;exact h3 Z (ht.2 _ _ (hle.2 _ _ h2))
 refine⟨Va λc hc hle=>?_,⟨by simp[h.len],λj Z hj ht=>?_,λc hc=>?_,λj Z q i ht hu cj hi=>?_⟩⟩
 .rcases h.pend c hc with h1|⟨r,h1,_,h2⟩
  .rw[h.len] at hle;omega
  .exact hr _ _ h2 _ (.refl _)
 .rcases W_ ht with⟨h1,_⟩|⟨_,h1⟩
  .rw[h.len] at h1;omega
  .exact h1
 .rcases h.pend c hc with h1|⟨r,h1,h2,h3⟩
  .exact .inl (by omega)
  .exact .inr ⟨(r.1,none),zC.2 ⟨r,h1,rfl⟩,h2,hr _ _ h3⟩
 .rcases W_ ht with⟨h1,h2⟩|⟨_,rfl⟩
  .rw[h.len] at h1;obtain⟨hq,dt⟩:=HU hu (by omega);obtain⟨f1,f2,f3⟩:=hf q hq;rw[f1] at cj;rw[f2] at hi;rw[f3 cj i hi];exact h.fr j Z q i h2 dt cj hi
  .rfl
theorem DSt.writeD {hs:List Heap}{U U':Heap}{pend:List (Nat×(Heap->Prop))}{hl chg:Nat}{A R:List (Nat×Option Nat)}{s s':St}{pl pl':Nat->Value}(h:DSt hs U pend hl chg A R s.own pl) {Ts:List Nat}(hf:FrL Ts s s' pl pl' U U') {mk:Bool}(hm:mk=true->U.Le U')
  (hc:Q3q mk R hl Ts=true) (bp:0<hl):WQ hs.length U' pend/\DSt (hs++[U']) U' pend (hl+1) hl (Ts.map (λt=>(hl-1,some t))++A) R s'.own pl':=by
 have hr:∀ Q:Heap->Prop,∀ r∈R,hl<=r.1->Q33 U s.own pl Q r.2->Q33 U' s'.own pl' Q r.2:=λQ r lb bZ aq=>by
  have ld:=zg.1 hc r lb;have ld:(match r.2 with|some q=>Ts.all (λt=>!(Nat.beq (q / 2) t))|none=>mk)=true:=by rw[zt,zB] at ld;exact ld.resolve_left (by omega)
  cases e:r.2 with
  |none =>rw[e] at aq ld;exactλZ ht=>aq Z ((hm ld).trans ht)
  |some q =>
   rw[e] at aq ld;obtain⟨k1,i,b,k2,k3,k4⟩:=aq;obtain⟨f1,f2,f3⟩:=hf (q / 2) λhq=>by have:=zg.1 ld (q / 2) hq;simp at this
   exact⟨by rw[f1];exact k1,i,b,by rw[f2];exact k2,by rw[f3 k1 i k2];exact k3,k4⟩
 have now:∀ Q:Heap->Prop,∀ r,Q33 U' s'.own pl' Q r->Q U':=λQ r aq=>by
  unfold Q33 at aq;split at aq
  .exact aq U' (.refl _)
  grind
 refine⟨Va λc hc hle=>?_,⟨by simp[h.len],λj Z hj ht=>?_,λc hc=>?_,λj Z q i ht hu cj hi=>?_⟩⟩
 .rw[h.len] at hle;rcases h.pend c hc with h1|⟨r,h1,h2,h3⟩
  .omega
  grind
 .rcases W_ ht with⟨h1,_⟩|⟨_,h1⟩
  .rw[h.len] at h1;omega
  .exact h1
 .rcases h.pend c hc with h1|⟨r,h1,h2,h3⟩
  .exact .inl (by omega)
  grind
 .rcases W_ ht with⟨h1,h2⟩|⟨_,rfl⟩
  .rw[h.len] at h1;obtain⟨hq,dt⟩:=HU hu (by omega);obtain⟨f1,f2,f3⟩:=hf q hq;rw[f1] at cj;rw[f2] at hi;rw[f3 cj i hi];exact h.fr j Z q i h2 dt cj hi
  .rfl
theorem CF {hl d j q:Nat}{A:List (Nat×Option Nat)}(h:Jn ((hl,none)::A) j q=true):Jn ([d].map (λt=>(hl,some t))++A) j q=true:=by simp only[Jn,zW,z0,zt,zr,or_false,xm,List.map_nil,xI,xB] at h |-;exact⟨.inl h.1,h.2⟩
theorem DSt.frozen {hs:List Heap}{U:Heap}{pend:List (Nat×(Heap->Prop))}{hl chg m d:Nat}{A R:List (Nat×Option Nat)}{own:Own}{pl:Nat->Value}(h:DSt hs U pend hl chg ([d].map (λt=>(m,some t))++A) R own pl):DSt hs U pend hl chg ((m,none)::A) R own pl :=
 ⟨h.len,h.same,h.pend,λj Z q i ht hu=>h.fr j Z q i ht (CF hu)⟩
theorem Rw {ts:List Nat}{m j:Nat}{A:List (Nat×Option Nat)}(h:HP (ts.map (λt=>(m,some t))++A) j=true):HP A j=true:=by simp only[HP,List.all_append,z0] at h;exact h.2
theorem Ss {a:Nat×Option Nat}{j:Nat}{A:List (Nat×Option Nat)}(h:HP (a::A) j=true):HP A j=true:=by simp only[HP,zW,z0] at h;exact h.2
theorem Av {C:Cx}{f:SV}{args:List SV}{cs:List Prop}{v:SV}(h:Q4h C f args=some (cs,v)):∃ c ty k xs nl,UT C.cs f args=some (c,.lst 0,[.lst ty k xs nl])/\cs=[c,nl=true->xs=[]]/\v=.val (.list k) xs/\k.flat=true/\0<C.nt:=by
 unfold Q4h at h;split at h
 .rename_i heq;split at h
  .rename_i k xs nl;cases hc:(k.flat&&Nat.blt 0 C.nt) with
   |false=>rw[hc] at h;cases h
   |true =>rw[hc] at h;obtain⟨rfl,rfl⟩:=ZN h;simp only[z0,zB] at hc;exact(by grind)
  .cases h
 .cases h
theorem IZ {b:OB}(h:b.here=true):b.live=true:=by cases b<;>first|rfl|cases h
theorem Vc {B F:Heap}{pl:Nat->Value}{tb:Nat->Option Bool}{s:St}{env:Env}{U:Heap}(hG:Gam P B F pl tb s env U) {o:VOp}{q:Nat}(h:G6 o (gev [] s.env) s.own=some q) {u:Value}{σ2:Heap}(hv:Q7 o (Q5 env) U=some (u,σ2)) :
  (Qb s.own (q / 2)).live=true/\∃ i b,Oid (pl (q / 2)) i/\U.get i=some b/\(∀ Z,Z.get i=some b->Q7 o (Q5 env) Z=some (u,Z))/\(q % 2=1->∃ es c wr,b=.obj (.map es c) wr/\∀ Z bM c',LkE es bM->Z.get i=some (.obj (.map bM c') wr)->Q7 o (Q5 env) Z=some (u,Z)):=by
 have two:∀ q,2*q / 2=q:=λq=>by omega
 have nG:∀ q,(2*q+1) / 2=q:=λq=>by omega
 have odd:∀ {q} {X:Prop},2*q % 2=1->X:=λ{q X} h=>by omega
 unfold G6 at h;split at h
 .rename_i agg size a;have ha:=hG.evs (Gds.nil (tb:=tb)) a;have key:∀ q i off,(Qb s.own q).live=true->Oid (pl q) i->Q5 env a=.pointer (some ⟨i,off,none⟩)->(Qb s.own q).live=true/\∃ i b,Oid (pl q) i/\U.get i=some b/\∀ Z,Z.get i=some b->Q7 (.load agg size a) (Q5 env) Z=some (u,Z):=λq i off hl hi he=>by
   simp only[Q7,he] at hv;cases hb:U.get i with
   |none=>rw[hb] at hv;cases hv
   |some b =>
    refine⟨hl,i,b,hi,hb,λZ ht=>?_⟩;rw[hb] at hv;simp only[Q7,he,ht];cases b with
    |obj o wr=>cases hv
    |cells c e wr t =>
     simp only at hv |-;split at hv
     .obtain⟨rfl,rfl⟩:=ZN hv;rfl
     .cases hv
  split at h
  .rename_i q' off hx;rw[hx] at ha;simp only[SR] at ha;obtain⟨b,h1,h2⟩:=ha;cases hh:(Qb s.own q').here with
   |false=>rw[hh] at h;cases h
   |true =>rw[hh] at h;obtain rfl:=osj h;obtain⟨x1,y1,y2,y3,y4,y5⟩:=key q' b off (IZ hh) (by rw[h1];rfl) h2;exact⟨by rw[two];exact x1,y1,y2,by rw[two];exact y3,y4,y5,odd⟩
  .rename_i q' i off sz hx;rw[hx] at ha;simp only[SR] at ha;obtain⟨b,len,cap,h1,h2,h3,h4⟩:=ha;cases hh:(Qb s.own q').here with
   |false=>rw[hh] at h;cases h
   |true =>rw[hh] at h;obtain rfl:=osj h;obtain⟨x1,y1,y2,y3,y4,y5⟩:=key q' b _ (IZ hh) (by rw[h1];rfl) h4;exact⟨by rw[two];exact x1,y1,y2,by rw[two];exact y3,y4,y5,odd⟩
  .cases h
 .rename_i mk z x y;cases bu:stP mk z with
  |false=>rw[bu] at h;cases h
  |true =>
   rw[bu] at h;simp only[zh] at h;obtain⟨rfl,rfl⟩:=Q6p bu;split at h
   .rename_i q' hx;split at h
    .rename_i kk vk l ho;obtain rfl:=osj h;have ha:=hG.evs (Gds.nil (tb:=tb)) x;rw[hx] at ha;simp only[SR] at ha;have ak:=hG.obj q';rw[ho] at ak;obtain⟨id,es,c,h2,h3,_⟩:=ak;have aH:∀ (Z:Heap) bM c' wr,Z.get id=some (.obj (.map bM c') wr)->Z.mapAt id=some (bM,c',wr):=λZ bM c' wr hτ=>by simp[Heap.mapAt,hτ]
     simp only[Q7,ZT,ha.1,h2,aH _ _ _ _ h3] at hv;refine⟨by rw[nG,ho];rfl,id,_,by rw[nG,h2];rfl,h3,λZ hτ=>?_,λ_=>⟨es,c,true,rfl,λZ bM c' hl hτ=>?_⟩⟩
     .simp only[Q7,ZT,ha.1,h2,aH _ _ _ _ hτ]
      grind
     .simp only[Q7,ZT,ha.1,h2,aH _ _ _ _ hτ];split at hv
      .rename_i iO;split at hv
       .rename_i iP;rw[z7 iO,z7 (hl.1 iP)];have b_:=hl.2 iP _ iO;cases he:Z7 (Q5 env y) es with
        |some e =>
         rw[he] at hv b_;obtain⟨rfl,rfl⟩:=ZN hv;cases hm:Z7 (Q5 env y) bM with
         |some e'=>rw[hm] at b_;simp only[Z67] at b_;simp[b_]
         |none=>rw[hm] at b_;simp only[Z67] at b_;simp[<-b_]
        |none =>
         rw[he] at hv b_;obtain⟨rfl,rfl⟩:=ZN hv;cases hm:Z7 (Q5 env y) bM with
         |some e'=>rw[hm] at b_;simp only[Z67] at b_;simp[b_]
         |none=>rfl
       .cases hv
      .cases hv
    .cases h
   .cases h
 .rename_i sz x lo hi;split at h
  .rename_i q' hx;split at h
   .rename_i ty k xs nl ho;cases nl with
    |true=>cases h
    |false =>
     obtain rfl:=osj h;have ha:=hG.evs (Gds.nil (tb:=tb)) x;rw[hx] at ha;simp only[SR] at ha;have ak:=hG.obj q';rw[ho] at ak;rcases ak with⟨h0,_⟩|⟨_,i,cap,c,t,h3,h4,h5,h6,h7⟩
     .cases h0
     .refine⟨by rw[two,ho];rfl,i,_,by rw[two,h3];rfl,h5,λZ hτ=>?_,odd⟩;simp only[Q7,ha.1,h3] at hv |-;cases e1:Xs (Q5 env) lo 0 with
      |none=>rw[e1] at hv;cases hv
      |some a =>
       cases e2:Xs (Q5 env) hi xs.length with
       |none=>rw[e1,e2] at hv;cases hv
       |some b =>
        rw[e1,e2] at hv;simp only[K7,h5] at hv;simp only[K7,hτ];split at hv
        .simp_all
        .cases hv
   .cases h
  .cases h
 .cases h
theorem GR {r:Nat}{U:Heap}:∀ {l:List (Nat×(Heap->Prop))},WQ r U l->∀ {c},c∈l->r<=c.1->c.2 U
 |c::l,h,c',hc,hr=>by
  rcases zH.1 hc with rfl|hc
  .exact h.1 hr
  .exact GR h.2 hc hr
theorem D9 {B F:Heap}{pl:Nat->Value}{tb:Nat->Option Bool}{s:St}{env:Env}{U:Heap}(hG:Gam P B F pl tb s env U) {gs:List Gd}(hg:Gds tb gs) {o:VOp}(h:Z2z o (gev gs s.env)=true) {u:Value}{σ2:Heap}(hv:Q7 o (Q5 env) U=some (u,σ2)) :
  ∀ Z,B.Le Z->Q7 o (Q5 env) Z=some (u,Z):=by
 unfold Z2z at h;split at h
 .rename_i agg size a;have ha:=hG.evs hg a;have key:∀ i off,(∃ b,B.get i=some b)->Q5 env a=.pointer (some ⟨i,off,none⟩)->∀ Z,B.Le Z->Q7 (.load agg size a) (Q5 env) Z=some (u,Z):=λi off ⟨b,hb⟩ he Z hτ=>by
   simp only[Q7,he,hG.leB.2 _ _ hb] at hv;simp only[Q7,he,hτ.2 _ _ hb]
   grind
  split at h
  .rename_i k l i off hx;rw[hx] at ha;simp only[SR] at ha
   grind
  .rename_i l off hx;rw[hx] at ha;simp only[SR] at ha
   grind
  .cases h
 .cases h
theorem Q62 {C:Cx}{B F:Heap}{pl:Nat->Value}{tb:Nat->Option Bool}{s:St}{env:Env}{U:Heap}(hG:Gam P B F pl tb s env U) {d:Nat}{o:VOp}{K:SV->St->Prop}(h:gn C d o (gev [] s.env) s K) (hc:Q1l o=false) :
  ∃ u U' pl' v s',Q7 o (Q5 env) U=some (u,U')/\K v s'/\(Gam P B F pl' tb s' env U'/\Fr (J0 d o (gev [] s.env)) s s' pl pl' U U')/\SR P B pl' tb v u /\
  (Ah o=true->(Qb s'.own (J0 d o (gev [] s.env))).live=true/\pl' (J0 d o (gev [] s.env))=pl (J0 d o (gev [] s.env))/\∃ i es c bM c',pl (J0 d o (gev [] s.env))=.map (some i)/\U.get i=some (.obj (.map es c) true)/\U'.get i=some (.obj (.map bM c') true)/\LkE es bM):=by
 cases he:Ah o with
 |false =>obtain⟨u,U',pl',v,s',h1,h2,h3,h4⟩:=Z72 hG h hc;exact(by grind)
 |true =>
  unfold Ah at he;split at he
  .rename_i mk z m kx;obtain⟨rfl,rfl⟩:=Q6p he;exact False.elim h
  .cases he
def XE (S:VSpecs):List DOper->Env->List Heap->Heap->List (Nat×(Heap->Prop))->(Env->Heap->Prop)->Prop
 |[],env,_,U,_,K=>K env U
 |o::rest,env,hs,U,pend,K=>Zt (Xu env o.guard) λb =>
   vif b (if o.kind=2 then Hw (λR=>vop S o.op env U R) λv U'=>WQ hs.length U' pend/\XE S rest (Ww env o.dst v) (hs++[U']) U' pend K
     else if o.kind=1 then Zt (Q7 o.op (Q5 env) U) λp=>(∀ Z∈hs.drop o.kmin,Wy o.op (Q5 env) p.1 Z) /\
      XE S rest (Ww env o.dst p.1) hs U (if hs.length<=o.kmax then (o.kmax,Wy o.op (Q5 env) p.1)::pend else pend) K
     else Zt (Q7 o.op (Q5 env) U) λp=>XE S rest (Ww env o.dst p.1) hs U pend K)
    (if o.kind=2 then WQ hs.length U pend/\XE S rest (Ww env o.dst undef) (hs++[U]) U pend K else XE S rest (Ww env o.dst undef) hs U pend K)
theorem S_ {α:Type}{o:Option α}{f g:α->Prop}(h:Zt o f) (uM:∀ a,f a->g a):Zt o g:=by
 cases o with
 |none=>exact h.elim
 |some a=>exact uM a h
theorem Kc {S:VSpecs}{K:Env->Heap->Prop}:∀ {ops:List DOper}{env:Env}{hs:List Heap}{U:Heap}{pend:List (Nat×(Heap->Prop))},XE S ops env hs U pend K->J_ S ops env hs U pend K
 |[],_,_,_,_,h=>h
 |o::r,env,hs,U,pend,h=>by
  simp only[XE] at h;simp only[J_];refine S_ h λb h=>⟨λe=>?_,λe=>?_⟩
  .have h:=h.1 e;split at h
   .rename_i hk;rw[z7 hk];obtain⟨v,U',h1,h2,h3⟩:=h;exact .inl ⟨v,U',h1,h2,Kc h3⟩
   .rename_i hk;rw[z6 hk];split at h
    .rename_i bG;rw[z7 bG];exact S_ h λp h=>⟨h.1,Kc h.2⟩
    .rename_i bG;rw[z6 bG];exact S_ h λp h=>Kc h
  .have h:=h.2 e;split at h
   .rename_i hk;rw[z7 hk];exact⟨h.1,Kc h.2⟩
   .rename_i hk;rw[z6 hk];exact Kc h
theorem QC {C:Cx}(aC:COk P C) (bm:C.xs=[]) {B0 F0 D0:Heap}:∀ (ops:List DOper),(∀ o∈ops,o.kind=o.op.kind)->∀ {s:St}{env:Env}{U:Heap}{B F:Heap}{pl:Nat->Value}{tb:Nat->Option Bool},GBase B0 F0 D0 B F U->Gam P B F pl tb s env U->∀ {hl chg:Nat}{A Rd:List (Nat×Option Nat)}{hs:List Heap}{pend pd:List (Nat×(Heap->Prop))},DSt hs U pd hl chg A Rd s.own pl->(∀ c∈pend,(∀ Z,B.Le Z->c.2 Z)\/c∈pd)->(∀ j Z,hs[j]?=some Z->HP A j=true->B.Le Z)->chg<=hl->0<hl ->
  ∀ {K:St->Prop},Yg C ops s hl chg A Rd K->∀ {R:Env->Heap->Prop},(∀ s' ah U',K s'->GRel P B0 F0 D0 s' ah U'->R ah U')->XE (Q3 P) ops env hs U pend R
 |[],_,s,env,U,B,F,pl,tb,hB,hG,_,_,_,_,_,_,_,_,_,_,_,_,K,h,R,hK=>hK s env U h ⟨B,F,pl,tb,hB,hG⟩
 |o0::r,iG,s,env,U,B,F,pl,tb,hB,hG,hl,chg,A,Rd,hs,pend,pd,hD,hp,bY,eF,bp,K,h,R,hK=>by
  have eB:∀ {n:Nat}{Z:Heap},B.Le Z->WQ n Z pd->WQ n Z pend:=λ{n Z} hb hv=>Va λc hc hn=>(by grind [GR]);have snoc:∀ {Z:Heap}{A':List (Nat×Option Nat)},B.Le Z->(∀ j,HP A' j=true->HP A j=true)->∀ j Z',(hs++[Z])[j]?=some Z'->HP A' j=true->B.Le Z':=(by grind);have b7:∀ o∈r,o.kind=o.op.kind:=(by simp_all);have lf:=iG o0 zF;unfold Yg at h;split at h
  .rename_i bu;have hw:=VV hG bu;simp only[XE];rw[hw];refine⟨λe=>(by cases e),λ_=>?_⟩;have bw:=hG.put o0.dst (show SR P B pl tb .any undef by simp[SR]);by_cases aB:o0.kind=2
   .rw[z7 aB] at h |-;obtain⟨k1,k2⟩:=hD.stay;exact⟨eB hG.leB k1,QC aC bm r b7 hB bw (by rw[Jl];exact k2) hp (snoc hG.leB λ_ h=>h) (by omega) (by omega) h hK⟩
   .rw[z6 aB] at h |-;exact QC aC bm r b7 hB bw (by rw[Jl];exact hD) hp bY eF bp h hK
  have bH:(Q3i s.env o0).kind=(Q3i s.env o0).op.kind:=by unfold Q3i;split<;>exact lf
  have dW:XE (Q3 P) (Q3i s.env o0::r) env hs U pend R->XE (Q3 P) (o0::r) env hs U pend R:=λhv=>by
   unfold Q3i at hv;split at hv
   .rename_i bu;simp only[XE] at hv |-;rw[VV hG bu];exact hv
   .exact hv
  refine dW ?_;clear dW;generalize Q3i s.env o0=o at h bH |-
  replace h:=id h
  simp only[XE];by_cases aB:o.kind=2
  .rw[z7 aB] at h
   have fin:∀ {u:Value}{U':Heap}{ts:List Nat}{v:SV}{s':St}{pl':Nat->Value},(∀ R',R' u U'->vop (Q3 P) o.op env U R')->Yg C r (s'.put o.dst v) (hl+1) (bif ts.isEmpty then chg else hl) (ts.map (λt=>(hl-1,some t))++A) (bif ts.isEmpty then Rd else Rd.map λr=>(r.1,none)) K->Gam P B F pl' tb s' env U'->SR P B pl' tb v u->(ts=[]->U'=U/\pl'=pl/\s'=s)->U.Le U'->Dead U U'->FrL ts s s' pl pl' U U' ->
     Hw (λR=>vop (Q3 P) o.op env U R) λv U'=>WQ hs.length U' pend/\XE (Q3 P) r (Ww env o.dst v) (hs++[U']) U' pend R:=λ{u U' ts v s' pl'} bD nH bj iS he hle hd cL=>by
    cases ts with
    |nil =>obtain⟨rfl,rfl,rfl⟩:=he rfl;obtain⟨k1,k2⟩:=hD.stay;exact⟨u,U',bD _ ⟨rfl,rfl⟩,eB bj.leB k1,QC aC bm r b7 (MW hB hd) (bj.put o.dst iS) (by rw[Jl];exact k2) hp (snoc bj.leB λ_ h=>h) (by grind) (by omega) nH hK⟩
    |cons t ts =>obtain⟨k1,k2⟩:=hD.call hle cL bp;exact⟨u,U',bD _ ⟨rfl,rfl⟩,eB bj.leB k1,QC aC bm r b7 (MW hB hd) (bj.put o.dst iS) (by rw[Jl];exact k2) hp (snoc bj.leB λ_ h=>Rw h) (by simp_all) (by omega) nH hK⟩
   split at h
   .rename_i f args bD;split at h
    .rename_i hg;rw[hg];refine⟨λ_=>?_,λe=>by cases e⟩;rw[z7 aB];rw[bm] at h;simp only[QQ] at h;obtain⟨g,a,b,u,U',e,v,s',pl',h1,h2,h3,h4,h5,h6,h7,h8,h9⟩:=YI aC hG h (show SR P U Yv Wp (.fn f [] []) (.func (.func f) #[] #[]) by simp only[SR,SRs];exact⟨[],[],rfl,rfl,rfl⟩) (hG.gcall Gds.nil args);obtain⟨rfl,rfl,rfl⟩:=(by simpa using h1:f=g/\#[]=a/\#[]=b);refine fin (u:=u) (U':=U') (λR' hr=>?_) h3 h4 h5 h6 h7 h8 h9;rw[bD];show VCalled P f (args.map (Q5 env)) U R';have:=h2.mono (R':=R') (by simp_all);simpa using this
    .rename_i j want hg;rw[hg];split at h
     .exact h.elim
     .rename_i gs s1 dG;obtain⟨tb',bj,di,b,hw,bQ,b9⟩:=YC hG dG;have bc:=Vx dG;rw[hw];split at h
      .rename_i cs v dj;cases cK:UM v with
       |false=>rw[cK] at h;exact h.elim
       |true =>
       rw[cK] at h;simp only[zh] at h;obtain⟨h1,h2⟩:=JC h;obtain⟨k1,k2⟩:=hD.stay;have kZ:∀ x,DSt (hs++[U]) U pd (hl+1) chg A Rd (s1.put o.dst x).own pl:=(by grind [Jl]);refine⟨λe=>?_,λe=>?_⟩
       .rw[z7 aB];have gv:Gds tb' gs:=λg hg=>⟨bQ e g hg,di g hg⟩;have lg:∀ {v u},SR P B pl tb' v u->SR P B pl tb' (.grd gs (Hy v)) u:=λ{v u} hs=>by
         simp only[SR]
         grind [RA]
        simp only[gqc] at dj;split at dj
        .rename_i c v' heq;cases dC:v'.ret 0 with
         |false=>rw[dC] at dj;cases dj
         |true =>
          rw[dC] at dj;obtain⟨rfl,rfl⟩:=ZN dj;obtain⟨g,a,b',h3,h4,_⟩:=Xe aC.cs (show SR P U Yv Wp (.fn f [] []) (.func (.func f) #[] #[]) by simp only[SR,SRs];exact⟨[],[],rfl,rfl,rfl⟩) (bj.gcall gv args) heq dC rfl (h2 (bQ e) _ (by simp));obtain⟨rfl,rfl,rfl⟩:=(by simpa using h3:f=g/\#[]=a/\#[]=b');refine⟨UC Yv v',U,?_,eB hG.leB k1,QC aC bm r b7 hB (bj.put o.dst (lg ?_)) (kZ _) hp (snoc hG.leB λ_ h=>h) (by omega) (by omega) (Jv h1) hK⟩
          .rw[bD];show VCalled P f (args.map (Q5 env)) U _;have:=h4.mono (R':=λu U'=>u=UC Yv v'/\U'=U) λu U' hr=>by
            obtain⟨rfl,hu⟩:=hr.flat dC
            grind [Nk]
           simpa using this
          .exact SR.retd (λj hj=>by omega) _ _ dC (Eh (P:=P) (pl:=Yv) (m:=0) (λj hj=>by omega) v' dC cK)
        .cases dj
       .rw[z7 aB];obtain⟨g,cW,aK⟩:=b9 e;exact⟨eB hG.leB k1,QC aC bm r b7 hB (bj.put o.dst (by simp only[SR];exact⟨⟨di,Rr v⟩,λhall=>absurd (hall g cW) aK,λ_=>trivial⟩)) (kZ _) hp (snoc hG.leB λ_ h=>h) (by omega) (by omega) (Jv h1) hK⟩
      .split at h
       .rename_i cs v jW;obtain⟨c,ty,k,xs,nl,heq,rfl,rfl,hk,eA⟩:=Av jW;obtain⟨h1,h2⟩:=JC h;have frz:∀ {B' U':Heap},B'.Le U'->∀ j Z',(hs++[U'])[j]?=some Z'->HP ((hl-1,none)::A) j=true->B'.Le Z':=λ{B' U'} hb j Z' hm hn=>by
         rcases W_ hm with⟨h1,_⟩|⟨_,rfl⟩
         .simp only[HP,zW,z0,zt,zB,Option.isSome_none,zr,or_false] at hn;have:=hD.len;omega
         .exact hb
        refine⟨λe=>?_,λe=>?_⟩
        .rw[z7 aB];have gv:Gds tb' gs:=λg hg=>⟨bQ e g hg,di g hg⟩;have iO:=h2 (bQ e) c (by simp);have iP:=h2 (bQ e) (nl=true->xs=[]) (by simp);have dG:DV C (C.off+o.dst.getD 0) (.fn f [] []) (CV s1.own (args.map (gev gs s1.env))) s1 (λts v' s'=>ts=[C.off+o.dst.getD 0]/\v'=.lst (C.off+o.dst.getD 0)/\s'=s1.make (C.off+o.dst.getD 0) (.lst ty k xs nl)):=by
          unfold DV;rw[heq];dsimp only;have al:(SV.ret [OB.lst ty k xs nl].length (.lst 0)&&([OB.lst ty k xs nl].all OB.ret&&(Nat.blt 0 C.nt&&([OB.lst ty k xs nl].all OB.isL&&UM (.lst 0)))))=true:=by
           simp only[SV.ret,xt,zW,List.all_nil,xM,OB.ret,hk,Bool.true_and,OB.isL,UM];rw[z0]
           grind [Nat.blt_eq]
          rw[al];simp only[zh,Q5w,OB.wf];refine⟨iO,iP,?_,?_,?_⟩
          .simp[List.range_succ]
          .simp[SV.ren]
          .simp[St.makes]
         obtain⟨g,a,b',u,U',ts,v',s',pl',h3,h4,⟨rfl,rfl,rfl⟩,h5,h6,_,h7,h8,h9⟩:=YI aC bj dG (show SR P U Yv Wp (.fn f [] []) (.func (.func f) #[] #[]) by simp only[SR,SRs];exact⟨[],[],rfl,rfl,rfl⟩) (bj.gcall gv args);obtain⟨rfl,rfl,rfl⟩:=(by simpa using h3:f=g/\#[]=a/\#[]=b');obtain⟨B',F',m1,m2,m3⟩:=FB bj.bf hk h5 h6 h8;have cL:FrL [C.off+o.dst.getD 0] s ((s1.make (C.off+o.dst.getD 0) .dead).put o.dst (.grd gs (.val (.list k) xs))) pl pl' U U':=λq hq=>by
          obtain⟨f1,f2,f3⟩:=h9 q hq
          grind [Jl,KE]
         obtain⟨k1,k2⟩:=hD.call h7 cL bp;refine⟨u,U',?_,eB (m1.b.trans m2.leB) k1,QC aC bm r b7 (hB.trans m1) (m2.put o.dst ?_) k2.frozen (λc hc=>(hp c hc).imp (λh Z hτ=>h Z (m1.b.trans hτ)) id) (frz m2.leB) (by omega) (by omega) h1 hK⟩
         .rw[bD];show VCalled P f (args.map (Q5 env)) U _;simpa using h4
         .simp only[SR];exact⟨⟨di,trivial⟩,λ_=>m3,(by grind)⟩
        .rw[z7 aB];obtain⟨g,cW,aK⟩:=b9 e;have cL:FrL [C.off+o.dst.getD 0] s ((s1.make (C.off+o.dst.getD 0) .dead).put o.dst (.grd gs (.val (.list k) xs))) pl (XT pl (C.off+o.dst.getD 0) undef) U U:=λq hq=>by
          have dB:q≠C.off+o.dst.getD 0:=by simpa using hq
          refine⟨?_,by simp[XT,dB],λ_ _ _=>rfl⟩;rw[Jl,KE _ _ _ dB,bc]
         obtain⟨k1,k2⟩:=hD.call (.refl U) cL bp;refine⟨eB hG.leB k1,QC aC bm r b7 hB ((bj.make (C.off+o.dst.getD 0) .dead undef bj.le (λ_ _ _ _ _=>rfl) trivial (λi hl _=>by cases hl)).put o.dst ?_) k2.frozen hp (frz hG.leB) (by omega) (by omega) h1 hK⟩;simp only[SR];exact⟨⟨di,trivial⟩,λhall=>absurd (hall g cW) aK,λ_=>trivial⟩
       .exact h.elim
   .rename_i f args bD;split at h
    .rename_i hg;rw[hg];refine⟨λ_=>?_,λe=>by cases e⟩;rw[z7 aB];obtain⟨g,a,b,u,U',e,v,s',pl',h1,h2,h3,h4,h5,h6,h7,h8,h9⟩:=YI aC hG h (hG.gfun Gds.nil f) (hG.gcall Gds.nil args);refine fin (u:=u) (U':=U') (λR' hr=>?_) h3 h4 h5 h6 h7 h8 h9;rw[bD];exact G9 h1 (h2.mono (R':=R') (by simp_all))
    .exact h.elim
   .exact h.elim
   .exact h.elim
   .exact h.elim
   .exact h.elim
   .rename_i l5 oH qn gu lh lj;split at h
    .rename_i hg;rw[hg];refine⟨λ_=>?_,λe=>by cases e⟩;rw[z7 aB];have aF:Q1l o.op=false:=by
      cases ho:o.op<;>first|rfl|(exact absurd ho (l5 _ _))|(exact absurd ho (oH _ _))|skip
      case ext x=>cases x<;>first|rfl|(exact absurd ho (qn _))|(exact absurd ho (gu _))|(exact absurd ho (lh _))|(exact absurd ho (lj _))
     cases jV:IW C (o.dst.getD 0) o.op (gev [] s.env) with
     |true =>
      rw[jV] at h;simp only[zh] at h;cases hm:Q3q (Lm o.op) Rd hl (GN (C.off+o.dst.getD 0) o.op (gev [] s.env)) with
      |false=>rw[hm] at h;exact h.elim
      |true =>
       rw[hm] at h;simp only[zh] at h;obtain⟨u,U',pl',v,s',h1,h2,⟨h3,fz⟩,h4⟩:=La (λx=>hG.evs (Gds.nil (tb:=tb)) x) hG h;have fT:∀ R',R' u U'->vop (Q3 P) o.op env U R':=λR' hr=>by
        have:vop (Q3 P) o.op env U R'=Zt (Q7 o.op (Q5 env) U) λp=>R' p.1 p.2:=by
         cases ho:o.op with
         |callF f a=>rw[ho] at aF;cases aF
         |callV f a=>rw[ho] at aF;cases aF
         |ext x =>
          cases x with
          |nextMap y=>rw[ho] at h1;cases h1
          |_=>rfl
         |_=>rfl
        rw[this,h1];exact hr
       obtain⟨k1,k2⟩:=hD.writeD fz (λc_=>EZ c_ h1) hm bp;exact⟨u,U',fT _ ⟨rfl,rfl⟩,eB h3.leB k1,QC aC bm r b7 (MW hB (VR h1)) (h3.put o.dst h4) (by rw[Jl];exact k2) hp (snoc h3.leB λ_ h=>Rw h) (by omega) (by omega) h2 hK⟩
     |false =>
     rw[jV] at h;simp only[zP] at h;cases hm:((Lm o.op&&Iv Rd hl (J0 (C.off+o.dst.getD 0) o.op (gev [] s.env)))||Ay Rd hl (J0 (C.off+o.dst.getD 0) o.op (gev [] s.env))||(Ah o.op&&Z34 Rd hl (J0 (C.off+o.dst.getD 0) o.op (gev [] s.env)))) with
     |false=>rw[hm] at h;exact h.elim
     |true =>
      rw[hm] at h;simp only[zh] at h;obtain⟨u,U',pl',v,s',h1,h2,⟨h3,fz⟩,h4,hE⟩:=Q62 hG h aF;have fT:∀ R',R' u U'->vop (Q3 P) o.op env U R':=λR' hr=>by
       have:vop (Q3 P) o.op env U R'=Zt (Q7 o.op (Q5 env) U) λp=>R' p.1 p.2:=by
        cases ho:o.op with
        |callF f a=>rw[ho] at aF;cases aF
        |callV f a=>rw[ho] at aF;cases aF
        |ext x =>
         cases x with
         |nextMap y=>rw[ho] at h1;cases h1
         |_=>rfl
        |_=>rfl
       rw[this,h1];exact hr
      obtain⟨k1,k2⟩:=hD.write fz (λc_=>EZ c_ h1) hE hm bp;exact⟨u,U',fT _ ⟨rfl,rfl⟩,eB h3.leB k1,QC aC bm r b7 (MW hB (VR h1)) (h3.put o.dst h4) (by rw[Jl];exact k2) hp (snoc h3.leB λ_ h=>Ss h) (by omega) (by omega) h2 hK⟩
    .exact h.elim
  .rw[z6 aB] at h;have lk:o.op.kind≠2:=by rw[<-bH];exact aB
   by_cases bG:o.kind=1
   .rw[z7 bG] at h
    have rd:∀ (rq:Option Nat),(∀ q,rq=some q->G6 o.op (gev [] s.env) s.own=some q)->(Nat.ble chg o.kmin||Lb A o.kmin rq)=true->gd1 C o s (λs'=>Yg C r s' hl chg A ((o.kmax,rq)::Rd) K) ->
      Zt (Xu env o.guard) λb=>vif b (if o.kind=2 then Hw (λR=>vop (Q3 P) o.op env U R) λv U'=>WQ hs.length U' pend/\XE (Q3 P) r (Ww env o.dst v) (hs++[U']) U' pend R
       else if o.kind=1 then Zt (Q7 o.op (Q5 env) U) λp=>(∀ Z∈hs.drop o.kmin,Wy o.op (Q5 env) p.1 Z) /\
        XE (Q3 P) r (Ww env o.dst p.1) hs U (if hs.length<=o.kmax then (o.kmax,Wy o.op (Q5 env) p.1)::pend else pend) R
       else Zt (Q7 o.op (Q5 env) U) λp=>XE (Q3 P) r (Ww env o.dst p.1) hs U pend R)
      (if o.kind=2 then WQ hs.length U pend/\XE (Q3 P) r (Ww env o.dst undef) (hs++[U]) U pend R else XE (Q3 P) r (Ww env o.dst undef) hs U pend R):=λrq nJ hc h=>by
     obtain⟨b,hw,h1,h2⟩:=N1 hG h;rw[hw];have ll:DSt hs U pd hl chg A ((o.kmax,rq)::Rd) s.own pl:=⟨hD.len,hD.same,λc hc=>(hD.pend c hc).imp id (by simp_all),hD.fr⟩;refine⟨λe=>?_,λe=>?_⟩
     .obtain⟨u,s',tb',h3,h4,bc,h5⟩:=h1 e;rw[z6 aB,z7 bG,h3];refine⟨λZ hτ=>?_,?_⟩
      .obtain⟨j,hj⟩:=x5.1 hτ;rw[zZ] at hj;rw[zt] at hc;rcases hc with hc|hc
       .have:=hD.same (o.kmin+j) Z (by have:=zx hc;omega) hj;subst this;exact Xh h3
       .unfold Lb at hc;split at hc
        .rename_i q;obtain⟨k1,i,bl,k2,k3,k4,k5⟩:=Vc hG (nJ q rfl) h3;have hu:Jn A (o.kmin+j) (q / 2)=true:=by
          simp only[Jn,zg,zt,zB] at hc |-
          grind
         have:=hD.fr (o.kmin+j) Z (q / 2) i hj hu k1 k2
         grind [Xh]
        .cases hc
      .by_cases hle:hs.length<=o.kmax
       .rw[z7 hle];refine QC aC bm r b7 hB h5 (A:=A) (Rd:=(o.kmax,rq)::Rd) (hl:=hl) (chg:=chg) (pd:=(o.kmax,Wy o.op (Q5 env) u)::pd) ?_ (λc hc=>?_) bY eF bp h4 hK
        .rw[bc];refine⟨hD.len,hD.same,λc hc=>?_,hD.fr⟩;rcases zH.1 hc with rfl|hc
         .refine .inr ⟨_,zF,z9 _,?_⟩;cases rq with
          |none=>exactλZ hτ=>Xh (Lq lk h3 hτ)
          |some q =>obtain⟨k1,i,bl,k2,k3,k4,k5⟩:=Vc hG (nJ q rfl) h3;exact⟨k1,i,bl,k2,k3,λZ ht=>Xh (k4 Z ht),(by grind [Xh])⟩
         .exact ll.pend c hc
        grind
       .rw[z6 hle];exact QC aC bm r b7 hB h5 (A:=A) (Rd:=(o.kmax,rq)::Rd) (hl:=hl) (chg:=chg) (pd:=pd) (by rw[bc];exact ll) hp bY eF bp h4 hK
     .obtain⟨s',tb',h4,bc,h5⟩:=h2 e;rw[z6 aB];exact QC aC bm r b7 hB h5 (by rw[bc];exact ll) hp bY eF bp h4 hK
    have ro:HP A o.kmin=true->(∀ u,Q7 o.op (Q5 env) U=some (u,U)->(Xu env o.guard=some true)->∀ Z,B.Le Z->Q7 o.op (Q5 env) Z=some (u,Z))->gd1 C o s (λs'=>Yg C r s' hl chg A Rd K) ->
      Zt (Xu env o.guard) λb=>vif b (if o.kind=2 then Hw (λR=>vop (Q3 P) o.op env U R) λv U'=>WQ hs.length U' pend/\XE (Q3 P) r (Ww env o.dst v) (hs++[U']) U' pend R
       else if o.kind=1 then Zt (Q7 o.op (Q5 env) U) λp=>(∀ Z∈hs.drop o.kmin,Wy o.op (Q5 env) p.1 Z) /\
        XE (Q3 P) r (Ww env o.dst p.1) hs U (if hs.length<=o.kmax then (o.kmax,Wy o.op (Q5 env) p.1)::pend else pend) R
       else Zt (Q7 o.op (Q5 env) U) λp=>XE (Q3 P) r (Ww env o.dst p.1) hs U pend R)
      (if o.kind=2 then WQ hs.length U pend/\XE (Q3 P) r (Ww env o.dst undef) (hs++[U]) U pend R else XE (Q3 P) r (Ww env o.dst undef) hs U pend R):=λln bV h=>by
     obtain⟨b,hw,h1,h2⟩:=N1 hG h;rw[hw];refine⟨λe=>?_,λe=>?_⟩
     .obtain⟨u,s',tb',h3,h4,bc,h5⟩:=h1 e;have bV:=bV u h3 (by rw[hw,e]);rw[z6 aB,z7 bG,h3];refine⟨λZ hτ=>?_,?_⟩
      .obtain⟨j,hj⟩:=x5.1 hτ;rw[zZ] at hj;refine Xh (bV Z (bY _ Z hj ?_));simp only[HP,zg,zt,zB] at ln |-
       grind
      refine QC aC bm r b7 hB h5 (A:=A) (Rd:=Rd) (hl:=hl) (chg:=chg) (pd:=pd) (by rw[bc];exact hD) (λc hc=>?_) bY eF bp h4 hK;split at hc
      .rcases zH.1 hc with rfl|hc
       .grind [Xh]
       .exact hp c hc
      .exact hp c hc
     .obtain⟨s',tb',h4,bc,h5⟩:=h2 e;rw[z6 aB];exact QC aC bm r b7 hB h5 (by rw[bc];exact hD) hp bY eF bp h4 hK
    split at h
    .rename_i hg;cases hr:(Z2z o.op (gev [] s.env)&&HP A o.kmin) with
     |true =>rw[hr] at h;rw[z0] at hr;exact ro hr.2 (λu hu _=>D9 hG Gds.nil hr.1 hu) h
     |false =>
     rw[hr] at h;simp only[zP] at h;cases hb:(Nat.ble chg o.kmin||Lb A o.kmin (G6 o.op (gev [] s.env) s.own)) with
     |false=>rw[hb] at h;exact h.elim
     |true =>rw[hb] at h;exact rd _ (λq hq=>hq) hb h
    .rename_i j want hg;cases hr:(Q5i s j want o.op&&HP A o.kmin) with
     |true =>
      rw[hr] at h;rw[z0] at hr;obtain⟨hr,ln⟩:=hr;refine ro ln (λu hu hw=>?_) h;unfold Q5i at hr;split at hr
      .rename_i gs s1 dG;obtain⟨tb',bj,di,b,gI,bQ,b9⟩:=YC hG dG;rw[hg,gI] at hw;have e:=osj hw;exact D9 bj (λg hg=>⟨bQ e g hg,di g hg⟩) hr hu
      .cases hr
     |false =>
     rw[hr] at h;simp only[zP] at h;cases hb:Nat.ble chg o.kmin with
     |false=>rw[hb] at h;exact h.elim
     |true =>rw[hb] at h;exact rd none (λq hq=>by cases hq) (by rw[hb];rfl) h
   .rw[z6 bG] at h;obtain⟨b,hw,h1,h2⟩:=N1 hG h;rw[hw];refine⟨λe=>?_,λe=>?_⟩
    .obtain⟨u,s',tb',h3,h4,bc,h5⟩:=h1 e;rw[z6 aB,z6 bG,h3];exact QC aC bm r b7 hB h5 (by rw[bc];exact hD) hp bY eF bp h4 hK
    .obtain⟨s',tb',h4,bc,h5⟩:=h2 e;rw[z6 aB];exact QC aC bm r b7 hB h5 (by rw[bc];exact hD) hp bY eF bp h4 hK
theorem QF {C:Cx}(aC:COk P C) {B0 F0 D0:Heap}:∀ (ops:List DOper),(∀ o∈ops,o.kind=o.op.kind)->∀ {s:St}{env:Env}{U:Heap}{B F:Heap}{pl:Nat->Value}{tb:Nat->Option Bool},GBase B0 F0 D0 B F U->Gam P B F pl tb s env U->∀ {hl chg:Nat}{A Rd:List (Nat×Option Nat)}{hs:List Heap}{pend pd:List (Nat×(Heap->Prop))},DSt hs U pd hl chg A Rd s.own pl->(∀ c∈pend,(∀ Z,B.Le Z->c.2 Z)\/c∈pd)->(∀ j Z,hs[j]?=some Z->HP A j=true->B.Le Z)->chg<=hl->0<hl ->
  ∀ {K:St->Prop},Yg C ops s hl chg A Rd K->∀ {R:Env->Heap->Prop},(∀ s' ah U',K s'->GRel P B0 F0 D0 s' ah U'->R ah U')->J_ (Q3 P) ops env hs U pend R
 |[],_,s,env,U,B,F,pl,tb,hB,hG,_,_,_,_,_,_,_,_,_,_,_,_,K,h,R,hK=>hK s env U h ⟨B,F,pl,tb,hB,hG⟩
 |o0::r,iG,s,env,U,B,F,pl,tb,hB,hG,hl,chg,A,Rd,hs,pend,pd,hD,hp,bY,eF,bp,K,h,R,hK=>by
  have eB:∀ {n:Nat}{Z:Heap},B.Le Z->WQ n Z pd->WQ n Z pend:=λ{n Z} hb hv=>Va λc hc hn=>(by grind [GR]);have snoc:∀ {Z:Heap}{A':List (Nat×Option Nat)},B.Le Z->(∀ j,HP A' j=true->HP A j=true)->∀ j Z',(hs++[Z])[j]?=some Z'->HP A' j=true->B.Le Z':=(by grind);have b7:∀ o∈r,o.kind=o.op.kind:=(by simp_all);have lf:=iG o0 zF;unfold Yg at h;split at h
  .rename_i bu;have hw:=VV hG bu;simp only[J_];rw[hw];refine⟨λe=>(by cases e),λ_=>?_⟩;have bw:=hG.put o0.dst (show SR P B pl tb .any undef by simp[SR]);by_cases aB:o0.kind=2
   .rw[z7 aB] at h |-;obtain⟨k1,k2⟩:=hD.stay;exact⟨eB hG.leB k1,QF aC r b7 hB bw (by rw[Jl];exact k2) hp (snoc hG.leB λ_ h=>h) (by omega) (by omega) h hK⟩
   .rw[z6 aB] at h |-;exact QF aC r b7 hB bw (by rw[Jl];exact hD) hp bY eF bp h hK
  have bH:(Q3i s.env o0).kind=(Q3i s.env o0).op.kind:=by unfold Q3i;split<;>exact lf
  have dW:J_ (Q3 P) (Q3i s.env o0::r) env hs U pend R->J_ (Q3 P) (o0::r) env hs U pend R:=λhv=>by
   unfold Q3i at hv;split at hv
   .rename_i bu;simp only[J_] at hv |-;rw[VV hG bu];exact hv
   .exact hv
  refine dW ?_;clear dW;generalize Q3i s.env o0=o at h bH |-
  replace h:=id h
  simp only[J_];by_cases aB:o.kind=2
  .rw[z7 aB] at h
   have fin:∀ {u:Value}{U':Heap}{ts:List Nat}{v:SV}{s':St}{pl':Nat->Value},(∀ R',R' u U'->vop (Q3 P) o.op env U R')->Yg C r (s'.put o.dst v) (hl+1) (bif ts.isEmpty then chg else hl) (ts.map (λt=>(hl-1,some t))++A) (bif ts.isEmpty then Rd else Rd.map λr=>(r.1,none)) K->Gam P B F pl' tb s' env U'->SR P B pl' tb v u->(ts=[]->U'=U/\pl'=pl/\s'=s)->U.Le U'->Dead U U'->FrL ts s s' pl pl' U U' ->
     Hw (λR=>vop (Q3 P) o.op env U R) λv U'=>WQ hs.length U' pend/\J_ (Q3 P) r (Ww env o.dst v) (hs++[U']) U' pend R:=λ{u U' ts v s' pl'} bD nH bj iS he hle hd cL=>by
    cases ts with
    |nil =>obtain⟨rfl,rfl,rfl⟩:=he rfl;obtain⟨k1,k2⟩:=hD.stay;exact⟨u,U',bD _ ⟨rfl,rfl⟩,eB bj.leB k1,QF aC r b7 (MW hB hd) (bj.put o.dst iS) (by rw[Jl];exact k2) hp (snoc bj.leB λ_ h=>h) (by grind) (by omega) nH hK⟩
    |cons t ts =>obtain⟨k1,k2⟩:=hD.call hle cL bp;exact⟨u,U',bD _ ⟨rfl,rfl⟩,eB bj.leB k1,QF aC r b7 (MW hB hd) (bj.put o.dst iS) (by rw[Jl];exact k2) hp (snoc bj.leB λ_ h=>Rw h) (by simp_all) (by omega) nH hK⟩
   split at h
   .rename_i f args bD;split at h
    .rename_i hg;rw[hg];refine⟨λ_=>?_,λe=>by cases e⟩;rw[z7 aB]
     have nK:∀ {K':List Nat->SV->St->Prop},DV C (C.off+o.dst.getD 0) (.fn f [] []) (CV s.own (args.map (gev [] s.env))) s K'->(∀ ts v s',K' ts v s'->Yg C r (s'.put o.dst v) (hl+1) (bif ts.isEmpty then chg else hl) (ts.map (λt=>(hl-1,some t))++A) (bif ts.isEmpty then Rd else Rd.map λr=>(r.1,none)) K) ->
       Hw (λR=>vop (Q3 P) o.op env U R) λv U'=>WQ hs.length U' pend/\J_ (Q3 P) r (Ww env o.dst v) (hs++[U']) U' pend R:=λ{K'} h qo=>by
      obtain⟨g,a,b,u,U',e,v,s',pl',h1,h2,h3,h4,h5,h6,h7,h8,h9⟩:=YI aC hG h (show SR P U Yv Wp (.fn f [] []) (.func (.func f) #[] #[]) by simp only[SR,SRs];exact⟨[],[],rfl,rfl,rfl⟩) (hG.gcall Gds.nil args);obtain⟨rfl,rfl,rfl⟩:=(by simpa using h1:f=g/\#[]=a/\#[]=b);refine fin (u:=u) (U':=U') (λR' hr=>?_) (qo _ _ _ h3) h4 h5 h6 h7 h8 h9;rw[bD];show VCalled P f (args.map (Q5 env)) U R';have:=h2.mono (R':=R') (by simp_all);simpa using this
     split at h
     .rename_i x hx;split at h
      .rename_i jf uN;split at h
       .rename_i tt qj;cases gR:(waits o.dst.toList r&&Q3q false Rd hl [tt]) with
        |false=>rw[gR] at h;exact h.elim
        |true =>rw[gR] at h;simp only[zh] at h;rw[z0] at gR;refine .inr ⟨gR.1,?_⟩;rw[bD];show VCalled P f (args.map (Q5 env)) U _;refine aC.xf f jf uN x hx B F pl tb s env U _ _ _ _ _ tt hG (SRs.map λx _=>hG.evs Gds.nil x) qj h λv s' u U' k1 k2 k3 k4 k5=>?_;obtain⟨q1,q2⟩:=hD.writeD k5 (mk:=false) (λh=>by cases h) gR.2 bp;exact⟨eB k3.leB q1,QF aC r b7 (MW hB k2) (k3.put o.dst k4) (by rw[Jl];exact q2) hp (snoc k3.leB λ_ h=>Ss h) (by omega) (by omega) k1 hK⟩
       .exact h.elim
      .cases gR:(waits o.dst.toList r&&Rd.all (λq=>Nat.blt q.1 hl)) with
       |false=>rw[gR] at h;simp only[zP] at h;exact .inl (nK h λ_ _ _ h=>h)
       |true =>
        rw[gR] at h;simp only[zh] at h;rw[z0] at gR;refine .inr ⟨gR.1,?_⟩;rw[bD];show VCalled P f (args.map (Q5 env)) U _;have aA:∀ args:List Operand,SRs P B pl tb (args.map (gev [] s.env)) (args.map (Q5 env)):=λargs=>SRs.map λx _=>hG.evs Gds.nil x;refine aC.xs f x hx B F pl tb s env U _ _ _ _ _ hG (aA args) h λv s' B' F' pl' tb' u U' k1 k2 k3 k4=>?_;have hall:∀ c∈pd,c.1<hl:=λc hc=>by
         rcases hD.pend c hc with h1|⟨q,h1,h2,_⟩
         .exact h1
         grind [List.all_eq_true,Nat.blt_eq]
        have jH:WQ hs.length U' pd:=Va λc hc hle=>by have:=hall c hc;have:=hD.len;omega
        have qp:WQ hs.length U' pend:=Va λc hc hn=>(hp c hc).elim (λh=>h U' (k2.b.trans k3.leB)) λh=>GR jH h hn;refine⟨qp,QF aC r b7 (hB.trans k2) (k3.put o.dst k4) (pd:=pd) ⟨by simp[hD.len],λj Z hj ht=>?_,(by grind),λj Z q i ht hu cj hi=>?_⟩ (λc hc=>(hp c hc).imp (λh Z hτ=>h Z (k2.b.trans hτ)) id) (λj Z ht hn=>?_) (by omega) (by omega) k1 hK⟩
        .rcases W_ ht with⟨h1,_⟩|⟨_,h1⟩
         .rw[hD.len] at h1;omega
         .exact h1
        .rcases W_ ht with⟨h1,_⟩|⟨_,h1⟩
         .exfalso;rw[hD.len] at h1;simp only[Jn,zW,z0,zt,zB,zr,or_false] at hu;omega
         .rw[h1]
        .rcases W_ ht with⟨h1,_⟩|⟨_,h1⟩
         .exfalso;rw[hD.len] at h1;simp only[HP,zW,z0,zt,zB,Option.isSome_none,zr,or_false] at hn;omega
         .rw[h1];exact k3.leB
     .exact .inl (nK h λ_ _ _ h=>h)
    .rename_i j want hg;rw[hg];split at h
     .exact h.elim
     .rename_i gs s1 dG;obtain⟨tb',bj,di,b,hw,bQ,b9⟩:=YC hG dG;have bc:=Vx dG;rw[hw];split at h
      .rename_i cs v dj;cases cK:UM v with
       |false=>rw[cK] at h;exact h.elim
       |true =>
       rw[cK] at h;simp only[zh] at h;obtain⟨h1,h2⟩:=JC h;obtain⟨k1,k2⟩:=hD.stay;have kZ:∀ x,DSt (hs++[U]) U pd (hl+1) chg A Rd (s1.put o.dst x).own pl:=(by grind [Jl]);refine⟨λe=>?_,λe=>?_⟩
       .rw[z7 aB];have gv:Gds tb' gs:=λg hg=>⟨bQ e g hg,di g hg⟩;have lg:∀ {v u},SR P B pl tb' v u->SR P B pl tb' (.grd gs (Hy v)) u:=λ{v u} hs=>by
         simp only[SR]
         grind [RA]
        simp only[gqc] at dj;split at dj
        .rename_i c v' heq;cases dC:v'.ret 0 with
         |false=>rw[dC] at dj;cases dj
         |true =>
          rw[dC] at dj;obtain⟨rfl,rfl⟩:=ZN dj;obtain⟨g,a,b',h3,h4,_⟩:=Xe aC.cs (show SR P U Yv Wp (.fn f [] []) (.func (.func f) #[] #[]) by simp only[SR,SRs];exact⟨[],[],rfl,rfl,rfl⟩) (bj.gcall gv args) heq dC rfl (h2 (bQ e) _ (by simp));obtain⟨rfl,rfl,rfl⟩:=(by simpa using h3:f=g/\#[]=a/\#[]=b');refine .inl ⟨UC Yv v',U,?_,eB hG.leB k1,QF aC r b7 hB (bj.put o.dst (lg ?_)) (kZ _) hp (snoc hG.leB λ_ h=>h) (by omega) (by omega) (Jv h1) hK⟩
          .rw[bD];show VCalled P f (args.map (Q5 env)) U _;have:=h4.mono (R':=λu U'=>u=UC Yv v'/\U'=U) λu U' hr=>by
            obtain⟨rfl,hu⟩:=hr.flat dC
            grind [Nk]
           simpa using this
          .exact SR.retd (λj hj=>by omega) _ _ dC (Eh (P:=P) (pl:=Yv) (m:=0) (λj hj=>by omega) v' dC cK)
        .cases dj
       .rw[z7 aB];obtain⟨g,cW,aK⟩:=b9 e;exact⟨eB hG.leB k1,QF aC r b7 hB (bj.put o.dst (by simp only[SR];exact⟨⟨di,Rr v⟩,λhall=>absurd (hall g cW) aK,λ_=>trivial⟩)) (kZ _) hp (snoc hG.leB λ_ h=>h) (by omega) (by omega) (Jv h1) hK⟩
      .split at h
       .rename_i cs v jW;obtain⟨c,ty,k,xs,nl,heq,rfl,rfl,hk,eA⟩:=Av jW;obtain⟨h1,h2⟩:=JC h;have frz:∀ {B' U':Heap},B'.Le U'->∀ j Z',(hs++[U'])[j]?=some Z'->HP ((hl-1,none)::A) j=true->B'.Le Z':=λ{B' U'} hb j Z' hm hn=>by
         rcases W_ hm with⟨h1,_⟩|⟨_,rfl⟩
         .simp only[HP,zW,z0,zt,zB,Option.isSome_none,zr,or_false] at hn;have:=hD.len;omega
         .exact hb
        refine⟨λe=>?_,λe=>?_⟩
        .rw[z7 aB];have gv:Gds tb' gs:=λg hg=>⟨bQ e g hg,di g hg⟩;have iO:=h2 (bQ e) c (by simp);have iP:=h2 (bQ e) (nl=true->xs=[]) (by simp);have dG:DV C (C.off+o.dst.getD 0) (.fn f [] []) (CV s1.own (args.map (gev gs s1.env))) s1 (λts v' s'=>ts=[C.off+o.dst.getD 0]/\v'=.lst (C.off+o.dst.getD 0)/\s'=s1.make (C.off+o.dst.getD 0) (.lst ty k xs nl)):=by
          unfold DV;rw[heq];dsimp only;have al:(SV.ret [OB.lst ty k xs nl].length (.lst 0)&&([OB.lst ty k xs nl].all OB.ret&&(Nat.blt 0 C.nt&&([OB.lst ty k xs nl].all OB.isL&&UM (.lst 0)))))=true:=by
           simp only[SV.ret,xt,zW,List.all_nil,xM,OB.ret,hk,Bool.true_and,OB.isL,UM];rw[z0]
           grind [Nat.blt_eq]
          rw[al];simp only[zh,Q5w,OB.wf];refine⟨iO,iP,?_,?_,?_⟩
          .simp[List.range_succ]
          .simp[SV.ren]
          .simp[St.makes]
         obtain⟨g,a,b',u,U',ts,v',s',pl',h3,h4,⟨rfl,rfl,rfl⟩,h5,h6,_,h7,h8,h9⟩:=YI aC bj dG (show SR P U Yv Wp (.fn f [] []) (.func (.func f) #[] #[]) by simp only[SR,SRs];exact⟨[],[],rfl,rfl,rfl⟩) (bj.gcall gv args);obtain⟨rfl,rfl,rfl⟩:=(by simpa using h3:f=g/\#[]=a/\#[]=b');obtain⟨B',F',m1,m2,m3⟩:=FB bj.bf hk h5 h6 h8;have cL:FrL [C.off+o.dst.getD 0] s ((s1.make (C.off+o.dst.getD 0) .dead).put o.dst (.grd gs (.val (.list k) xs))) pl pl' U U':=λq hq=>by
          obtain⟨f1,f2,f3⟩:=h9 q hq
          grind [Jl,KE]
         obtain⟨k1,k2⟩:=hD.call h7 cL bp;refine .inl ⟨u,U',?_,eB (m1.b.trans m2.leB) k1,QF aC r b7 (hB.trans m1) (m2.put o.dst ?_) k2.frozen (λc hc=>(hp c hc).imp (λh Z hτ=>h Z (m1.b.trans hτ)) id) (frz m2.leB) (by omega) (by omega) h1 hK⟩
         .rw[bD];show VCalled P f (args.map (Q5 env)) U _;simpa using h4
         .simp only[SR];exact⟨⟨di,trivial⟩,λ_=>m3,(by grind)⟩
        .rw[z7 aB];obtain⟨g,cW,aK⟩:=b9 e;have cL:FrL [C.off+o.dst.getD 0] s ((s1.make (C.off+o.dst.getD 0) .dead).put o.dst (.grd gs (.val (.list k) xs))) pl (XT pl (C.off+o.dst.getD 0) undef) U U:=λq hq=>by
          have dB:q≠C.off+o.dst.getD 0:=by simpa using hq
          refine⟨?_,by simp[XT,dB],λ_ _ _=>rfl⟩;rw[Jl,KE _ _ _ dB,bc]
         obtain⟨k1,k2⟩:=hD.call (.refl U) cL bp;refine⟨eB hG.leB k1,QF aC r b7 hB ((bj.make (C.off+o.dst.getD 0) .dead undef bj.le (λ_ _ _ _ _=>rfl) trivial (λi hl _=>by cases hl)).put o.dst ?_) k2.frozen hp (frz hG.leB) (by omega) (by omega) h1 hK⟩;simp only[SR];exact⟨⟨di,trivial⟩,λhall=>absurd (hall g cW) aK,λ_=>trivial⟩
       .exact h.elim
   .rename_i f args bD;split at h
    .rename_i hg;rw[hg];refine⟨λ_=>?_,λe=>by cases e⟩;rw[z7 aB];refine .inl ?_;obtain⟨g,a,b,u,U',e,v,s',pl',h1,h2,h3,h4,h5,h6,h7,h8,h9⟩:=YI aC hG h (hG.gfun Gds.nil f) (hG.gcall Gds.nil args);refine fin (u:=u) (U':=U') (λR' hr=>?_) h3 h4 h5 h6 h7 h8 h9;rw[bD];exact G9 h1 (h2.mono (R':=R') (by simp_all))
    .exact h.elim
   .exact h.elim
   .exact h.elim
   .exact h.elim
   .exact h.elim
   .rename_i l5 oH qn gu lh lj;split at h
    .rename_i hg;rw[hg];refine⟨λ_=>?_,λe=>by cases e⟩;rw[z7 aB];have aF:Q1l o.op=false:=by
      cases ho:o.op<;>first|rfl|(exact absurd ho (l5 _ _))|(exact absurd ho (oH _ _))|skip
      case ext x=>cases x<;>first|rfl|(exact absurd ho (qn _))|(exact absurd ho (gu _))|(exact absurd ho (lh _))|(exact absurd ho (lj _))
     cases jV:IW C (o.dst.getD 0) o.op (gev [] s.env) with
     |true =>
      rw[jV] at h;simp only[zh] at h;cases hm:Q3q (Lm o.op) Rd hl (GN (C.off+o.dst.getD 0) o.op (gev [] s.env)) with
      |false=>rw[hm] at h;exact h.elim
      |true =>
       rw[hm] at h;simp only[zh] at h;obtain⟨u,U',pl',v,s',h1,h2,⟨h3,fz⟩,h4⟩:=La (λx=>hG.evs (Gds.nil (tb:=tb)) x) hG h;have fT:∀ R',R' u U'->vop (Q3 P) o.op env U R':=λR' hr=>by
        have:vop (Q3 P) o.op env U R'=Zt (Q7 o.op (Q5 env) U) λp=>R' p.1 p.2:=by
         cases ho:o.op with
         |callF f a=>rw[ho] at aF;cases aF
         |callV f a=>rw[ho] at aF;cases aF
         |ext x =>
          cases x with
          |nextMap y=>rw[ho] at h1;cases h1
          |_=>rfl
         |_=>rfl
        rw[this,h1];exact hr
       obtain⟨k1,k2⟩:=hD.writeD fz (λc_=>EZ c_ h1) hm bp;exact .inl ⟨u,U',fT _ ⟨rfl,rfl⟩,eB h3.leB k1,QF aC r b7 (MW hB (VR h1)) (h3.put o.dst h4) (by rw[Jl];exact k2) hp (snoc h3.leB λ_ h=>Rw h) (by omega) (by omega) h2 hK⟩
     |false =>
     rw[jV] at h;simp only[zP] at h;cases hm:((Lm o.op&&Iv Rd hl (J0 (C.off+o.dst.getD 0) o.op (gev [] s.env)))||Ay Rd hl (J0 (C.off+o.dst.getD 0) o.op (gev [] s.env))||(Ah o.op&&Z34 Rd hl (J0 (C.off+o.dst.getD 0) o.op (gev [] s.env)))) with
     |false=>rw[hm] at h;exact h.elim
     |true =>
      rw[hm] at h;simp only[zh] at h;obtain⟨u,U',pl',v,s',h1,h2,⟨h3,fz⟩,h4,hE⟩:=Q62 hG h aF;have fT:∀ R',R' u U'->vop (Q3 P) o.op env U R':=λR' hr=>by
       have:vop (Q3 P) o.op env U R'=Zt (Q7 o.op (Q5 env) U) λp=>R' p.1 p.2:=by
        cases ho:o.op with
        |callF f a=>rw[ho] at aF;cases aF
        |callV f a=>rw[ho] at aF;cases aF
        |ext x =>
         cases x with
         |nextMap y=>rw[ho] at h1;cases h1
         |_=>rfl
        |_=>rfl
       rw[this,h1];exact hr
      obtain⟨k1,k2⟩:=hD.write fz (λc_=>EZ c_ h1) hE hm bp;exact .inl ⟨u,U',fT _ ⟨rfl,rfl⟩,eB h3.leB k1,QF aC r b7 (MW hB (VR h1)) (h3.put o.dst h4) (by rw[Jl];exact k2) hp (snoc h3.leB λ_ h=>Ss h) (by omega) (by omega) h2 hK⟩
    .exact h.elim
  .rw[z6 aB] at h;have lk:o.op.kind≠2:=by rw[<-bH];exact aB
   by_cases bG:o.kind=1
   .rw[z7 bG] at h
    have rd:∀ (rq:Option Nat),(∀ q,rq=some q->G6 o.op (gev [] s.env) s.own=some q)->(Nat.ble chg o.kmin||Lb A o.kmin rq)=true->gd1 C o s (λs'=>Yg C r s' hl chg A ((o.kmax,rq)::Rd) K) ->
      Zt (Xu env o.guard) λb=>vif b (if o.kind=2 then (Hw (λR=>vop (Q3 P) o.op env U R) λv U'=>WQ hs.length U' pend/\J_ (Q3 P) r (Ww env o.dst v) (hs++[U']) U' pend R)\/(waits o.dst.toList r=true/\vop (Q3 P) o.op env U λv U'=>WQ hs.length U' pend/\J_ (Q3 P) r (Ww env o.dst v) (hs++[U']) U' pend R)
       else if o.kind=1 then Zt (Q7 o.op (Q5 env) U) λp=>(∀ Z∈hs.drop o.kmin,Wy o.op (Q5 env) p.1 Z) /\
        J_ (Q3 P) r (Ww env o.dst p.1) hs U (if hs.length<=o.kmax then (o.kmax,Wy o.op (Q5 env) p.1)::pend else pend) R
       else Zt (Q7 o.op (Q5 env) U) λp=>J_ (Q3 P) r (Ww env o.dst p.1) hs U pend R)
      (if o.kind=2 then WQ hs.length U pend/\J_ (Q3 P) r (Ww env o.dst undef) (hs++[U]) U pend R else J_ (Q3 P) r (Ww env o.dst undef) hs U pend R):=λrq nJ hc h=>by
     obtain⟨b,hw,h1,h2⟩:=N1 hG h;rw[hw];have ll:DSt hs U pd hl chg A ((o.kmax,rq)::Rd) s.own pl:=⟨hD.len,hD.same,λc hc=>(hD.pend c hc).imp id (by simp_all),hD.fr⟩;refine⟨λe=>?_,λe=>?_⟩
     .obtain⟨u,s',tb',h3,h4,bc,h5⟩:=h1 e;rw[z6 aB,z7 bG,h3];refine⟨λZ hτ=>?_,?_⟩
      .obtain⟨j,hj⟩:=x5.1 hτ;rw[zZ] at hj;rw[zt] at hc;rcases hc with hc|hc
       .have:=hD.same (o.kmin+j) Z (by have:=zx hc;omega) hj;subst this;exact Xh h3
       .unfold Lb at hc;split at hc
        .rename_i q;obtain⟨k1,i,bl,k2,k3,k4,k5⟩:=Vc hG (nJ q rfl) h3;have hu:Jn A (o.kmin+j) (q / 2)=true:=by
          simp only[Jn,zg,zt,zB] at hc |-
          grind
         have:=hD.fr (o.kmin+j) Z (q / 2) i hj hu k1 k2
         grind [Xh]
        .cases hc
      .by_cases hle:hs.length<=o.kmax
       .rw[z7 hle];refine QF aC r b7 hB h5 (A:=A) (Rd:=(o.kmax,rq)::Rd) (hl:=hl) (chg:=chg) (pd:=(o.kmax,Wy o.op (Q5 env) u)::pd) ?_ (λc hc=>?_) bY eF bp h4 hK
        .rw[bc];refine⟨hD.len,hD.same,λc hc=>?_,hD.fr⟩;rcases zH.1 hc with rfl|hc
         .refine .inr ⟨_,zF,z9 _,?_⟩;cases rq with
          |none=>exactλZ hτ=>Xh (Lq lk h3 hτ)
          |some q =>obtain⟨k1,i,bl,k2,k3,k4,k5⟩:=Vc hG (nJ q rfl) h3;exact⟨k1,i,bl,k2,k3,λZ ht=>Xh (k4 Z ht),(by grind [Xh])⟩
         .exact ll.pend c hc
        grind
       .rw[z6 hle];exact QF aC r b7 hB h5 (A:=A) (Rd:=(o.kmax,rq)::Rd) (hl:=hl) (chg:=chg) (pd:=pd) (by rw[bc];exact ll) hp bY eF bp h4 hK
     .obtain⟨s',tb',h4,bc,h5⟩:=h2 e;rw[z6 aB];exact QF aC r b7 hB h5 (by rw[bc];exact ll) hp bY eF bp h4 hK
    have ro:HP A o.kmin=true->(∀ u,Q7 o.op (Q5 env) U=some (u,U)->(Xu env o.guard=some true)->∀ Z,B.Le Z->Q7 o.op (Q5 env) Z=some (u,Z))->gd1 C o s (λs'=>Yg C r s' hl chg A Rd K) ->
      Zt (Xu env o.guard) λb=>vif b (if o.kind=2 then (Hw (λR=>vop (Q3 P) o.op env U R) λv U'=>WQ hs.length U' pend/\J_ (Q3 P) r (Ww env o.dst v) (hs++[U']) U' pend R)\/(waits o.dst.toList r=true/\vop (Q3 P) o.op env U λv U'=>WQ hs.length U' pend/\J_ (Q3 P) r (Ww env o.dst v) (hs++[U']) U' pend R)
       else if o.kind=1 then Zt (Q7 o.op (Q5 env) U) λp=>(∀ Z∈hs.drop o.kmin,Wy o.op (Q5 env) p.1 Z) /\
        J_ (Q3 P) r (Ww env o.dst p.1) hs U (if hs.length<=o.kmax then (o.kmax,Wy o.op (Q5 env) p.1)::pend else pend) R
       else Zt (Q7 o.op (Q5 env) U) λp=>J_ (Q3 P) r (Ww env o.dst p.1) hs U pend R)
      (if o.kind=2 then WQ hs.length U pend/\J_ (Q3 P) r (Ww env o.dst undef) (hs++[U]) U pend R else J_ (Q3 P) r (Ww env o.dst undef) hs U pend R):=λln bV h=>by
     obtain⟨b,hw,h1,h2⟩:=N1 hG h;rw[hw];refine⟨λe=>?_,λe=>?_⟩
     .obtain⟨u,s',tb',h3,h4,bc,h5⟩:=h1 e;have bV:=bV u h3 (by rw[hw,e]);rw[z6 aB,z7 bG,h3];refine⟨λZ hτ=>?_,?_⟩
      .obtain⟨j,hj⟩:=x5.1 hτ;rw[zZ] at hj;refine Xh (bV Z (bY _ Z hj ?_));simp only[HP,zg,zt,zB] at ln |-
       grind
      refine QF aC r b7 hB h5 (A:=A) (Rd:=Rd) (hl:=hl) (chg:=chg) (pd:=pd) (by rw[bc];exact hD) (λc hc=>?_) bY eF bp h4 hK;split at hc
      .rcases zH.1 hc with rfl|hc
       .grind [Xh]
       .exact hp c hc
      .exact hp c hc
     .obtain⟨s',tb',h4,bc,h5⟩:=h2 e;rw[z6 aB];exact QF aC r b7 hB h5 (by rw[bc];exact hD) hp bY eF bp h4 hK
    split at h
    .rename_i hg;cases hr:(Z2z o.op (gev [] s.env)&&HP A o.kmin) with
     |true =>rw[hr] at h;rw[z0] at hr;exact ro hr.2 (λu hu _=>D9 hG Gds.nil hr.1 hu) h
     |false =>
     rw[hr] at h;simp only[zP] at h;cases hb:(Nat.ble chg o.kmin||Lb A o.kmin (G6 o.op (gev [] s.env) s.own)) with
     |false=>rw[hb] at h;exact h.elim
     |true =>rw[hb] at h;exact rd _ (λq hq=>hq) hb h
    .rename_i j want hg;cases hr:(Q5i s j want o.op&&HP A o.kmin) with
     |true =>
      rw[hr] at h;rw[z0] at hr;obtain⟨hr,ln⟩:=hr;refine ro ln (λu hu hw=>?_) h;unfold Q5i at hr;split at hr
      .rename_i gs s1 dG;obtain⟨tb',bj,di,b,gI,bQ,b9⟩:=YC hG dG;rw[hg,gI] at hw;have e:=osj hw;exact D9 bj (λg hg=>⟨bQ e g hg,di g hg⟩) hr hu
      .cases hr
     |false =>
     rw[hr] at h;simp only[zP] at h;cases hb:Nat.ble chg o.kmin with
     |false=>rw[hb] at h;exact h.elim
     |true =>rw[hb] at h;exact rd none (λq hq=>by cases hq) (by rw[hb];rfl) h
   .rw[z6 bG] at h;obtain⟨b,hw,h1,h2⟩:=N1 hG h;rw[hw];refine⟨λe=>?_,λe=>?_⟩
    .obtain⟨u,s',tb',h3,h4,bc,h5⟩:=h1 e;rw[z6 aB,z6 bG,h3];exact QF aC r b7 hB h5 (by rw[bc];exact hD) hp bY eF bp h4 hK
    .obtain⟨s',tb',h4,bc,h5⟩:=h2 e;rw[z6 aB];exact QF aC r b7 hB h5 (by rw[bc];exact hD) hp bY eF bp h4 hK
def GF (pl:Nat->Value) (mp:List (Nat×Option Nat)):Nat->Value:=λt=>match QQ mp t with
 |some (some a)=>pl a
 |_=>.slice none 0 0
theorem ID {h:Heap}{k k':Kind}{x:k.T}{y:k'.T}(e:MM x y) {cs:List Value}(hk:KC h k' y cs):KC h k x cs:=by
 unfold MM at e
 grind [AR,AE]
mutual
theorem Nv {B:Heap}{pl:Nat->Value}{tb:Nat->Option Bool}{mp:List (Nat×Option Nat)}:∀ (p a:SV) (v:Value),RH mp p a->SR P B pl tb a v->SR P B (GF pl mp) Wp p v
 |.any,a,v,_,_=>trivial
 |.val k x,a,v,h,hs=>by
  simp only[RH] at h;split at h
  .simp only[SR] at hs |-;exact ID h hs
  .simp only[SR] at hs |-;exact ID h (by simp[KC,hs.1])
  .split at h
   .subst h;simp only[SR] at hs |-;subst hs;exact⟨_,rfl,.inl ⟨rfl,rfl⟩⟩
   .exact h.elim
  .exact h.elim
 |.lst t,a,v,h,hs=>by
  simp only[RH] at h;split at h
  .split at h
   .rename_i e;simp only[SR,GF,e] at hs |-;exact hs
   .exact h.elim
  .split at h
   .rename_i e;simp only[SR,GF,e] at hs |-;exact⟨hs,_,_,_,hs⟩
   .exact h.elim
  .exact h.elim
 |.box t off,a,v,h,hs=>by
  simp only[RH] at h;split at h
  .split at h
   .rename_i e;obtain⟨e,rfl⟩:=e;simp only[SR,GF,e] at hs |-;exact hs
   .exact h.elim
  .exact h.elim
 |.map t,a,v,h,hs=>by
  simp only[RH] at h;split at h
  .split at h
   .rename_i e;simp only[SR,GF,e] at hs |-;exact hs
   .exact h.elim
  .exact h.elim
 |.dd t w,a,v,h,hs=>by
  simp only[RH] at h;split at h
  .split at h
   .simp only[SR] at hs |-;simp only[DR];exact .inl ⟨h,hs⟩
   .split at h
    .rename_i e;obtain⟨e,rfl⟩:=e;simp only[SR,DR,GF,e] at hs |-;obtain⟨b,h1,h2⟩:=hs;exact .inr ⟨h,b,by rw[h1];rfl,h2⟩
    .exact h.elim
   .split at h
    .split at h
     .rename_i e;subst h;simp only[SR,DR,GF,e] at hs |-;exact hs
     .exact h.elim
    .exact h.elim
   .exact h.elim
  .split at h
   .split at h
    .split at h
     .rename_i e;simp only[SR,GF,e] at hs |-;exact hs
     .exact h.elim
    .exact h.elim
   .exact h.elim
  .split at h
   .split at h
    .split at h
     .rename_i e;simp only[SR,GF,e] at hs |-;exact hs
     .exact h.elim
    .exact h.elim
   .split at h
    .rename_i e;simp only[SR,GF,e] at hs |-;exact⟨hs,_,_,_,hs⟩
    .exact h.elim
   .exact h.elim
  .exact h.elim
 |.agg l,a,v,h,hs=>by
  simp only[RH] at h;split at h
  .rename_i l';simp only[SR] at hs |-;obtain⟨cs,h1,h2⟩:=hs;exact⟨cs,h1,JJ l l' cs h h2⟩
  .exact h.elim
 |.tup l,a,v,h,hs=>by
  simp only[RH] at h;split at h
  .rename_i l';simp only[SR] at hs |-;obtain⟨cs,h1,h2⟩:=hs;exact⟨cs,h1,JJ l l' cs h h2⟩
  .exact h.elim
 |.fn f x y,a,v,h,hs=>by
  simp only[RH] at h;split at h
  .split at h
   .rename_i e;subst e;simp only[SR] at hs |-;obtain⟨cs,ds,h1,h2,h3⟩:=hs;exact⟨cs,ds,h1,JJ x _ cs h.1 h2,JJ y _ ds h.2 h3⟩
   .exact h.elim
  .exact h.elim
 |.nilS,a,v,h,hs=>by
  simp only[RH] at h;split at h
  .simp only[SR] at hs |-;exact hs
  .exact h.elim
 |.nilP,a,v,h,hs=>by
  simp only[RH] at h;split at h
  .simp only[SR] at hs |-;exact hs
  .exact h.elim
 |.nilM,a,v,h,hs=>by
  simp only[RH] at h;split at h
  .simp only[SR] at hs |-;exact hs
  .exact h.elim
 |.nilF,a,v,h,hs=>by
  simp only[RH] at h;split at h
  .simp only[SR] at hs |-;exact hs
  .exact h.elim
 |.cp l off,a,v,h,hs=>by
  simp only[RH] at h;cases qq:SVs.pure l with
  |true =>rw[qq] at h;simp only[zh] at h;obtain⟨rfl,_⟩:=h;simp only[SR] at hs |-;obtain⟨b,c,e,wr,t,h1,h2,h3⟩:=hs;exact⟨b,c,e,wr,t,h1,h2,Xl l c qq h3⟩
  |false =>
   rw[qq] at h;simp only[zP] at h;split at h
   .split at h
    .rename_i l' df he;subst he;simp only[SR] at hs |-;obtain⟨b,c,e,wr,t,h1,h2,h3⟩:=hs;exact⟨b,c,e,wr,t,h1,h2,JJ l l' c h h3⟩
    .exact h.elim
   .exact h.elim
 |.pf ks r cD p,a,v,h,hs=>by simp only[RH] at h;subst h;simp only[SR] at hs |-;exact hs
 |.sub t lo n sz,a,v,h,hs=>by
  simp only[RH] at h;split at h
  .split at h
   .rename_i e;obtain⟨rfl,rfl,rfl⟩:=h;simp only[SR,GF,e] at hs |-;exact hs
   .exact h.elim
  .exact h.elim
 |.elp _ _ _ _,_,_,h,_|.grd _ _,_,_,h,_|.bid _ _,_,_,h,_|.rop _ _ _ _,_,_,h,_=>by simp only[RH] at h
theorem JJ {B:Heap}{pl:Nat->Value}{tb:Nat->Option Bool}{mp:List (Nat×Option Nat)}:∀ (p a:List SV) (v:List Value),Dh mp p a->SRs P B pl tb a v->SRs P B (GF pl mp) Wp p v
 |[],a,v,h,hs=>by simp only[Dh] at h;subst h;exact hs
 |s::ss,[],v,h,hs=>by simp only[Dh] at h
 |s::ss,a::bR,v,h,hs=>by simp only[Dh] at h;simp only[SRs] at hs |-;obtain⟨x,y,h1,h2,h3⟩:=hs;exact⟨x,y,h1,Nv s a x h.1 h2,JJ ss bR y h.2 h3⟩
theorem Ae {B:Heap}{pl pl':Nat->Value}{tb tb':Nat->Option Bool}:∀ (s:SV) (v:Value),s.pure=true->SR P B pl tb s v->SR P B pl' tb' s v
 |.any,v,_,_=>trivial
 |.val k x,v,_,h=>by simp only[SR] at h |-;exact h
 |.nilS,v,_,h|.nilP,v,_,h|.nilM,v,_,h|.nilF,v,_,h=>by simp only[SR] at h |-;exact h
 |.rop k l i off,v,_,h=>by simp only[SR] at h |-;exact h
 |.pf ks r cD p,v,_,h=>by simp only[SR] at h |-;exact h
 |.agg l,v,hp,h=>by simp only[SR] at h |-;obtain⟨cs,h1,h2⟩:=h;exact⟨cs,h1,Xl l cs hp h2⟩
 |.tup l,v,hp,h=>by simp only[SR] at h |-;obtain⟨cs,h1,h2⟩:=h;exact⟨cs,h1,Xl l cs hp h2⟩
 |.cp l off,v,hp,h=>by simp only[SR] at h |-;obtain⟨b,c,e,wr,t,h1,h2,h3⟩:=h;exact⟨b,c,e,wr,t,h1,h2,Xl l c hp h3⟩
 |.fn f a b,v,hp,h=>by simp only[SV.pure,z0] at hp;simp only[SR] at h |-;obtain⟨x,y,h1,h2,h3⟩:=h;exact⟨x,y,h1,Xl a x hp.1 h2,Xl b y hp.2 h3⟩
 |.lst _,_,h,_|.sub _ _ _ _,_,h,_|.elp _ _ _ _,_,h,_|.box _ _,_,h,_|.map _,_,h,_|.grd _ _,_,h,_|.bid _ _,_,h,_=>by cases h
theorem Xl {B:Heap}{pl pl':Nat->Value}{tb tb':Nat->Option Bool}:∀ (s:List SV) (v:List Value),SVs.pure s=true->SRs P B pl tb s v->SRs P B pl' tb' s v
 |[],v,_,h=>by simp only[SRs] at h |-;exact h
 |s::ss,v,hp,h=>by simp only[SVs.pure,z0] at hp;simp only[SRs] at h |-;obtain⟨x,y,h1,h2,h3⟩:=h;exact⟨x,y,h1,Ae s x hp.1 h2,Xl ss y hp.2 h3⟩
end
end
end Go.V
namespace Go.V
open Go
section
variable {P:Program}{B F:Heap}{pl:Nat->Value}{tb:Nat->Option Bool}{s:St}{env:Env}{U:Heap}
theorem VT {k k':Kind}{xs:List k.T}{ys:List k'.T}(h:MM (k:=.list k) xs (k':=.list k') ys):∃ e:k'=k,e▸ys=xs:=by
 unfold MM at h
 grind [AR,Kind.list.inj,AE]
theorem Zn (hG:Gam P B F pl tb s env U) {mp:List (Nat×Option Nat)}{t:Nat}{b:OB}(h:Q5u s mp t b) :
  OR P B (GF pl mp) Wp U (GF pl mp t) b/\(b.live=true->∀ i,Oid (GF pl mp t) i->∃ a,QQ mp t=some (some a)/\(Qb s.own a).live=true/\Oid (pl a) i):=by
 unfold Q5u at h;split at h
 .rename_i a ha;have aY:GF pl mp t=pl a:=by simp[GF,ha]
  rw[aY];have ak:=hG.obj a;split at h
  .exact⟨trivial,λh=>by cases h⟩
  .rename_i ty k xs nl fQ k' cq kX ho;split at h
   .rename_i e;subst e;obtain⟨h1,rfl⟩:=h;obtain⟨rfl,rfl⟩:=VT h1;rw[ho] at ak;exact⟨ak,(by simp_all)⟩
   .exact h.elim
  .rename_i l u l' u' ho;split at h
   .rename_i e0;subst e0;rw[ho] at ak;obtain⟨i,c,e,t',h1,h2,h3,h4⟩:=ak;exact⟨⟨i,c,e,t',h1,h2,JJ l l' c h h3,h4⟩,λ_ i hi=>⟨a,ha,by rw[ho];rfl,hi⟩⟩
   .exact h.elim
  .rename_i kk vk m iz jR m' ho;split at h
   .obtain⟨e,h1⟩:=VT h;obtain⟨rfl,rfl⟩:=Kind.pair.inj e;subst h1;rw[ho] at ak;exact⟨ak,(by simp_all)⟩
   .exact h.elim
  .rename_i l vals l' jS ho;rw[ho] at ak;obtain⟨rfl,h⟩:=h;exact⟨JJ l l' vals h ak,λh=>by cases h⟩
  .rename_i l q u l' q' u' ho;rw[ho] at ak;split at h
   .obtain⟨rfl,h⟩:=h;exact⟨⟨ak.1,JJ l l' q.vals h ak.2.1,ak.2.2⟩,λ_ i hi=>⟨a,ha,by rw[ho];rfl,hi⟩⟩
   .obtain⟨rfl,h⟩:=h;exact⟨⟨ak.1,JJ l l' q.vals h ak.2.1,ak.2.2⟩,λh=>by cases h⟩
   .exact h.elim
  .rename_i kk vk m dn iz jR m' rO ho;split at h
   .obtain⟨h,rfl⟩:=h;obtain⟨e,h1⟩:=VT h;obtain⟨rfl,rfl⟩:=Kind.pair.inj e;subst h1;rw[ho] at ak;exact⟨ak,(by simp_all)⟩
   .exact h.elim
  .rename_i kk vk m iz jR m' ho;split at h
   .obtain⟨e,h1⟩:=VT h;obtain⟨rfl,rfl⟩:=Kind.pair.inj e;subst h1;rw[ho] at ak;exact⟨ak,λh=>by cases h⟩
   .exact h.elim
  .rename_i l pos l' pos' ho;obtain⟨rfl,rfl⟩:=h;rw[ho] at ak;exact⟨ak,λ_ i hi=>⟨a,ha,by rw[ho];rfl,hi⟩⟩
  .rename_i ty q k xs nl h0 fQ q' k' cq kX rz ho;split at h
   .rename_i e;obtain⟨rfl,rfl⟩:=e;split at h
    .obtain⟨h1,rfl⟩:=h;obtain⟨rfl,rfl⟩:=VT h1;rw[ho] at ak;exact⟨ak,(by simp_all)⟩
    .exact h.elim
   .exact h.elim
  .rename_i ik l gT l' ho;split at h
   .rename_i e;obtain⟨rfl,rfl⟩:=e;rw[ho] at ak;exact⟨ak,(by simp_all)⟩
   .exact h.elim
  .exact h.elim
 .rename_i ha;have aY:GF pl mp t=.slice none 0 0:=by simp[GF,ha]
  rw[aY];split at h
  .exact⟨.inl ⟨h.2,h.1,rfl⟩,λ_ i hi=>by cases hi⟩
  .split at h
   .obtain⟨rfl,rfl⟩:=h;refine⟨⟨[],λi=>⟨λh=>(by cases h),λ⟨b,h⟩=>(by cases h)⟩,List.nodup_nil,.inl ⟨rfl,rfl,rfl⟩,λi=>⟨λ⟨b,h⟩=>(by cases h),λh=>(by cases h)⟩,(λi b h=>by cases h),by simp[phd]⟩,λ_ i hi=>by cases hi⟩
   .exact h.elim
  .exact h.elim
 .exact h.elim
theorem Uc {α:Type _}(l:List (Nat×α)) (t:Nat) (x:α) (d:Nat):QQ (l++[(t,x)]) d=match QQ l d with|some y=>some y|none=>if t=d then some x else none:=by
 induction l with
 |nil =>
  simp only[xB,QQ];by_cases h:t=d
  .subst h;simp
  .rw[W5 h];simp[h]
 |cons p l ih =>obtain⟨k,y⟩:=p;simp only[xI,QQ,ih];cases Nat.beq k d<;>rfl
theorem I2 {α:Type _}{l:List (Nat×α)}{d:Nat}{x:α}(h:QQ l d=some x):∃ p∈l,p.1=d/\p.2=x:=by
 induction l with
 |nil=>cases h
 |cons p l ih =>
  obtain⟨k,y⟩:=p;simp only[QQ] at h;cases hb:Nat.beq k d with
  |true=>rw[hb] at h;obtain rfl:=osj h;exact(by simp_all)
  |false =>rw[hb] at h;obtain⟨p,h1,h2⟩:=ih h;exact⟨p,x4 _ h1,h2⟩
def Inj (mp:List (Nat×Option Nat)):Prop:=∀ t t' a,QQ mp t=some (some a)->QQ mp t'=some (some a)->t=t'
theorem Rv:∀ (l:List (Nat×Src)) (mp bW:List (Nat×Option Nat)),Z5c s l mp=some bW->Inj mp->Inj bW
 |[],mp,bW,h,hi=>by obtain rfl:=osj h;exact hi
 |(t,src)::r,mp,bW,h,hi=>by
  simp only[Z5c] at h;split at h
  .rename_i a _;split at h
   .cases h
   .rename_i hc;refine Rv r _ _ h ?_;have cL:∀ d,QQ mp d≠some (some a):=λd hd=>by
     obtain⟨p,h1,h2,h3⟩:=I2 hd
     grind
    intro t1 t2 a' h1 h2;rw[Uc] at h1 h2;split at h1
    .rename_i y1 e1;split at h2
     .rename_i y2 e2;obtain rfl:=osj h1;obtain rfl:=osj h2;exact hi t1 t2 a' e1 e2
     simp_all
    .split at h1
     .rename_i e1;obtain rfl:=osj (osj h1);split at h2
      .simp_all
      simp_all
     .cases h1
  .split at h
   .cases h
   .refine Rv r _ _ h ?_;intro t1 t2 a' h1 h2;rw[Uc] at h1 h2;split at h1
    .rename_i y1 e1;split at h2
     .rename_i y2 e2;obtain rfl:=osj h1;obtain rfl:=osj h2;exact hi t1 t2 a' e1 e2
     .split at h2<;>cases h2
    .split at h1<;>cases h1
  .cases h
theorem FG {mp:List (Nat×Option Nat)}:∀ {ow:List (Nat×Src×OB)},gmatch.obs s mp ow->∀ p∈ow,Q5u s mp p.1 p.2.2
 |[],_,p,hp=>by cases hp
 |(t,src,b)::r,h,p,hp=>by
  simp only[gmatch.obs] at h;rcases zH.1 hp with rfl|hp
  .exact h.1
  .exact FG h.2 p hp
theorem Kv {f:List (Nat×Src×OB)}:∀ (own:Own) (t:Nat),(∃ p∈f,p.1=t/\Qb (f.foldl (λo p=>oset o p.1 p.2.2) own) t=p.2.2)\/Qb (f.foldl (λo p=>oset o p.1 p.2.2) own) t=Qb own t:=by
 induction f with
 |nil=>intro own t;exact .inr rfl
 |cons p f ih =>
  intro own t;simp only[wo];rcases ih (oset own p.1 p.2.2) t with⟨q,h1,h2⟩|h
  .grind
  .rw[h,Qm]
   grind
theorem RJ (hG:Gam P B F pl tb s env U) {mp:List (Nat×Option Nat)}:∀ (st:List (Nat×SV)) {e:List SV}{eV:Env},gmatch.slots s mp st->SRs P B (GF pl mp) Wp e eV->SRs P B (GF pl mp) Wp (st.foldl (λe p=>e.set p.1 p.2) e) (Yt (st.map (·.1)) (TN (st.map (·.1)) env) eV)
 |[],e,eV,_,h=>h
 |(j,v)::r,e,eV,hs,h=>by simp only[gmatch.slots] at hs;simp only[wo,xm,TN,Yt];exact RJ hG r hs.2 (h.set j (Nv v _ _ hs.1 (hG.env.getD j poison)))
theorem Q5e {B:Heap}{pl:Nat->Value}{tb:Nat->Option Bool}:∀ n,SRs P B pl tb (List.replicate n .any) (List.replicate n poison)
 |0=>by simp[SRs]
 |n+1=>by simp only[xx,SRs];exact⟨_,_,rfl,by simp[SR],Q5e n⟩
theorem Te {B0 F0 D0:Heap}(hR:GRel P B0 F0 D0 s env U) {st:List (Nat×SV)}{ow:List (Nat×Src×OB)}(h:gmatch s st ow) (len:Nat):GRel P B0 F0 D0 (ZJ len st ow) (Yt (st.map (·.1)) (TN (st.map (·.1)) env) (List.replicate len poison)) U:=by
 obtain⟨B,F,pl,tb,hB,hG⟩:=hR;unfold gmatch at h;split at h
 .rename_i mp lq;obtain⟨h1,h2⟩:=h;have eI:=Rv _ _ _ lq (λt t' a h=>by cases h);have a8:=FG h2;have ak:∀ t,(Qb (ZJ len st ow).own t).live=true->Q5u s mp t (Qb (ZJ len st ow).own t):=λt hl=>by
   rcases Kv (f:=ow) [] t with⟨p,h3,h4,h5⟩|h3
   .have:=a8 p h3;rw[h4,<-h5] at this;exact this
   .simp only[ZJ] at hl;rw[h3] at hl;cases hl
  refine⟨B,F,GF pl mp,Wp,hB,hG.bf,hG.le,RJ hG st h1 (Q5e len),λt=>?_,λt i hl hi=>?_,λt t' i aK hl cj hi cS=>?_,λ_ _=>rfl⟩
  .cases hl:(Qb (ZJ len st ow).own t).live with
   |true=>exact(Zn hG (ak t hl)).1
   |false =>
    cases ho:Qb (ZJ len st ow).own t with
    |dead=>trivial
    |stk l vals =>
     rcases Kv (f:=ow) [] t with⟨p,h3,h4,h5⟩|h3
     .have:=a8 p h3;simp only[ZJ] at ho
      grind [Zn]
     .simp only[ZJ] at ho;rw[h3] at ho;cases ho
    |rmap kk vk m =>
     rcases Kv (f:=ow) [] t with⟨p,h3,h4,h5⟩|h3
     .have:=a8 p h3;simp only[ZJ] at ho
      grind [Zn]
     .simp only[ZJ] at ho;rw[h3] at ho;cases ho
    |lpf l q u =>
     rcases Kv (f:=ow) [] t with⟨p,h3,h4,h5⟩|h3
     .have:=a8 p h3;simp only[ZJ] at ho
      grind [Zn]
     .simp only[ZJ] at ho;rw[h3] at ho;cases ho
    |_=>rw[ho] at hl;cases hl
  .obtain⟨a,_,h4,h5⟩:=(Zn hG (ak t hl)).2 hl i hi;exact hG.fresh a i h4 h5
  .obtain⟨a,e1,h4,h5⟩:=(Zn hG (ak t hl)).2 hl i hi;obtain⟨a',e2,iJ,qs⟩:=(Zn hG (ak t' cj)).2 cj i cS;by_cases e:a=a'
   .subst e;exact aK (eI t t' a e1 e2)
   .exact hG.sep a a' i e h4 iJ h5 qs
 .exact h.elim
theorem PF:∀ {de cw:List SV}{vs:List Value}{B F:Heap}{s s':St},Gam P B F pl tb s env U->SRs P B pl tb de vs->Z2p s de=some (s',cw) ->
  ∃ B' F',GBase B F U B' F' U/\Gam P B' F' pl tb s' env U/\SRs P B' Yv Wp cw vs/\s'.env=s.env
 |[],cw,vs,B,F,s,s',hG,hs,h=>by simp only[Z2p,x8,Prod.mk.injEq] at h;obtain⟨rfl,rfl⟩:=h;exact⟨B,F,.of hG.bf (.refl _),hG,hs,rfl⟩
 |v::de,cw,vs,B,F,s,s',hG,hs,h=>by
  simp only[SRs] at hs;obtain⟨u,us,rfl,h1,h2⟩:=hs
  have nL:∀ w:SV,SR P B pl tb w u->(bif w.pure then (match Z2p s de with|some (s',r)=>some (s',w::r)|none=>none) else none)=some (s',cw) ->
    ∃ B' F',GBase B F U B' F' U/\Gam P B' F' pl tb s' env U/\SRs P B' Yv Wp cw (u::us)/\s'.env=s.env:=λw hw h=>by
   cases hp:w.pure with
   |false=>rw[hp] at h;cases h
   |true =>
    rw[hp] at h;simp only[zh] at h;split at h
    .rename_i s1 r heq;simp only[x8,Prod.mk.injEq] at h;obtain⟨rfl,rfl⟩:=h;obtain⟨B',F',k1,k2,k3,k4⟩:=PF hG h2 heq;exact⟨B',F',k1,k2,by simp only[SRs];exact⟨u,us,rfl,SR.mono k1.b (λ_ _ h=>h) _ _ (Ae w u hp hw),k3⟩,k4⟩
    .cases h
  simp only[Z2p] at h;split at h
  .rename_i o;split at h
   .rename_i l _ ho;cases hp:SVs.pure l with
    |false=>rw[hp] at h;cases h
    |true =>
     rw[hp] at h;simp only[zh] at h;split at h
     .rename_i s1 r heq;simp only[x8,Prod.mk.injEq] at h;obtain⟨rfl,rfl⟩:=h;have ak:=hG.obj o;rw[ho] at ak;obtain⟨i,c,e,t,e1,e2,e3,_⟩:=ak;obtain⟨k1,k2⟩:=hG.freeze (o:=o) (i:=i) (by rw[ho];rfl) (by rw[e1];rfl);obtain⟨B',F',j1,j2,j3,j4⟩:=PF k2 (SRs.mono k1.b (λ_ _ h=>h) _ _ h2) heq;refine⟨B',F',k1.trans j1,j2,?_,j4⟩;simp only[SRs];refine⟨u,us,rfl,?_,j3⟩;simp only[SR] at h1 |-;obtain⟨b,q1,q2⟩:=h1;rw[e1] at q1;obtain rfl:i=b:=by simpa using q1
      refine⟨i,c,e,true,t,j1.b.2 _ _ ?_,q2,SRs.mono (k1.trans j1).b (λ_ _ h=>h) _ _ (Xl l c hp e3)⟩;rw[Heap.q0k];exact e2
     .cases h
   .cases h
  .exact nL _ h1 h
theorem Gam.lpUpd (hG:Gam P B F pl tb s env U) {n:Nat}{b b0:Blk}(hF:F.get n=some b0) (hB:B.get n=none):Gam P B (F.upd n b) pl tb s env (U.upd n b):=by
 have aK:∀ {d i},(Qb s.own d).live=true->Oid (pl d) i->i≠n:=λh1 h2 e=>by have:=hG.fresh _ _ h1 h2;subst e;rw[hF] at this;cases this
 refine⟨⟨hG.bf.1,λi c hc=>?_⟩,⟨hG.le.1,λi c hc=>?_⟩,hG.env,λd=>(hG.obj d).mono (.refl _) (λ_ _ h=>h) (by grind [Heap.q0b]),λd i h1 h2=>?_,hG.sep,hG.free⟩
 .have:i≠n:=by rintro rfl;rw[hB] at hc;cases hc
  rw[Heap.q0b _ _ this];exact hG.bf.2 _ _ hc
 .by_cases e:i=n
  .subst e;rw[Heap.q0d _ _ (F.lt hF)] at hc;rw[Heap.q0d _ _ (x3 (F.lt hF) hG.le.1)];exact hc
  .rw[Heap.q0b _ _ e] at hc |-;exact hG.le.2 _ _ hc
 .rw[Heap.q0b _ _ (aK h1 h2)];exact hG.fresh _ _ h1 h2
theorem Gam.lpKill (hG:Gam P B F pl tb s env U) {n:Nat}{b0:Blk}(hF:F.get n=some b0) (hB:B.get n=none):Gam P B (F.kill n) pl tb s env (U.kill n):=by
 have aK:∀ {d i},(Qb s.own d).live=true->Oid (pl d) i->i≠n:=λh1 h2 e=>by have:=hG.fresh _ _ h1 h2;subst e;rw[hF] at this;cases this
 refine⟨⟨hG.bf.1,λi c hc=>?_⟩,⟨hG.le.1,λi c hc=>?_⟩,hG.env,λd=>(hG.obj d).mono (.refl _) (λ_ _ h=>h) (by grind [Heap.q0c]),λd i h1 h2=>?_,hG.sep,hG.free⟩
 .have:i≠n:=by rintro rfl;rw[hB] at hc;cases hc
  rw[Heap.q0c _ this];exact hG.bf.2 _ _ hc
 .by_cases e:i=n
  .grind [Heap.q0g]
  .rw[Heap.q0c _ e] at hc |-;exact hG.le.2 _ _ hc
 .rw[Heap.q0c _ (aK h1 h2)];exact hG.fresh _ _ h1 h2
theorem GRel.lpUpd {B1 F1 D0:Heap}(h:GRel P B1 F1 D0 s env U) {n:Nat}{b b0:Blk}(hF:F1.get n=some b0) (hB:B1.get n=none):GRel P B1 (F1.upd n b) D0 s env (U.upd n b):=by
 obtain⟨B,F,pl,tb,dm,hG⟩:=h;have nM:=dm.f.2 _ _ hF;have nN:=dm.x _ _ hF hB;refine⟨B,F.upd n b,pl,tb,⟨dm.b,⟨dm.f.1,λi c hc=>?_⟩,λi c h1 h2=>?_,⟨dm.d.1,λi h1 h2=>?_⟩⟩,hG.lpUpd nM nN⟩
 .by_cases e:i=n
  .subst e;rw[Heap.q0d _ _ (F1.lt hF)] at hc;rw[Heap.q0d _ _ (F.lt nM)];exact hc
  .rw[Heap.q0b _ _ e] at hc |-;exact dm.f.2 _ _ hc
 .by_cases e:i=n
  .subst e;exact nN
  .rw[Heap.q0b _ _ e] at h1;exact dm.x _ _ h1 h2
 .have hd:=dm.d.2 i h1 h2;have:i≠n:=by rintro rfl;rw[hG.le.2 _ _ nM] at hd;cases hd
  rw[Heap.q0b _ _ this];exact hd
theorem GRel.lpKill {B1 F1 D0:Heap}(h:GRel P B1 F1 D0 s env U) {n:Nat}{b0:Blk}(hF:F1.get n=some b0) (hB:B1.get n=none):GRel P B1 (F1.kill n) D0 s env (U.kill n):=by
 obtain⟨B,F,pl,tb,dm,hG⟩:=h;have nM:=dm.f.2 _ _ hF;have nN:=dm.x _ _ hF hB;refine⟨B,F.kill n,pl,tb,⟨dm.b,⟨dm.f.1,λi c hc=>?_⟩,λi c h1 h2=>?_,⟨dm.d.1,λi h1 h2=>?_⟩⟩,hG.lpKill nM nN⟩
 .by_cases e:i=n
  .grind [Heap.q0g]
  .rw[Heap.q0c _ e] at hc |-;exact dm.f.2 _ _ hc
 .by_cases e:i=n
  .subst e;exact nN
  .rw[Heap.q0c _ e] at h1;exact dm.x _ _ h1 h2
 .have hd:=dm.d.2 i h1 h2
  grind [Heap.q0g,Heap.q0c]
theorem GRel.base {B0 F0 B1 F1 D0:Heap}(h:GRel P B1 F1 D0 s env U) (hb:B0.Le B1) (hf:F0.Le F1) (hx:∀ i b,F0.get i=some b->B0.get i=none->B1.get i=none):GRel P B0 F0 D0 s env U:=by obtain⟨B,F,pl,tb,dm,hG⟩:=h;exact⟨B,F,pl,tb,⟨hb.trans dm.b,hf.trans dm.f,λi b h1 h2=>dm.x i b (hf.2 _ _ h1) (hx i b h1 h2),dm.d⟩,hG⟩
theorem Ti (hG:Gam P B F pl tb s env U) {mp:List (Nat×Option Nat)}:∀ (st:List (Nat×SV)) {e:List SV},gmatch.slots s mp st->SRs P B (GF pl mp) Wp e env->SRs P B (GF pl mp) Wp (st.foldl (λe p=>e.set p.1 p.2) e) env
 |[],e,_,h=>h
 |(j,v)::r,e,hs,h=>by
  simp only[gmatch.slots] at hs;simp only[wo];refine Ti hG r hs.2 ?_;have:=h.set j (Nv v _ _ hs.1 (hG.env.getD j poison))
  grind [List.getElem?_eq_getElem,List.set_getElem_self,List.set_eq_of_length_le]
theorem Q28 {B:Heap}{pl:Nat->Value}{tb:Nat->Option Bool}:∀ (env:Env),SRs P B pl tb (List.replicate (List.length env) .any) env
 |[]=>by simp[SRs]
 |v::env=>by simp only[zw,xx,SRs];exact⟨_,_,rfl,by simp[SR],Q28 env⟩
theorem NL {B0 F0 D0:Heap}(hR:GRel P B0 F0 D0 s env U) {st:List (Nat×SV)}{ow:List (Nat×Src×OB)}(h:gmatch s st ow):GRel P B0 F0 D0 (ZJ (List.length env) st ow) env U:=by
 obtain⟨B,F,pl,tb,hB,hG⟩:=hR;unfold gmatch at h;split at h
 .rename_i mp lq;obtain⟨h1,h2⟩:=h;have eI:=Rv _ _ _ lq (λt t' a h=>by cases h);have a8:=FG h2;have ak:∀ t,(Qb (ZJ (List.length env) st ow).own t).live=true->Q5u s mp t (Qb (ZJ (List.length env) st ow).own t):=λt hl=>by
   rcases Kv (f:=ow) [] t with⟨p,h3,h4,h5⟩|h3
   .have:=a8 p h3;rw[h4,<-h5] at this;exact this
   .simp only[ZJ] at hl;rw[h3] at hl;cases hl
  refine⟨B,F,GF pl mp,Wp,hB,hG.bf,hG.le,Ti hG st h1 (Q28 env),λt=>?_,λt i hl hi=>?_,λt t' i aK hl cj hi cS=>?_,λ_ _=>rfl⟩
  .cases hl:(Qb (ZJ (List.length env) st ow).own t).live with
   |true=>exact(Zn hG (ak t hl)).1
   |false =>
    cases ho:Qb (ZJ (List.length env) st ow).own t with
    |dead=>trivial
    |stk l vals =>
     rcases Kv (f:=ow) [] t with⟨p,h3,h4,h5⟩|h3
     .have:=a8 p h3;simp only[ZJ] at ho
      grind [Zn]
     .simp only[ZJ] at ho;rw[h3] at ho;cases ho
    |rmap kk vk m =>
     rcases Kv (f:=ow) [] t with⟨p,h3,h4,h5⟩|h3
     .have:=a8 p h3;simp only[ZJ] at ho
      grind [Zn]
     .simp only[ZJ] at ho;rw[h3] at ho;cases ho
    |lpf l q u =>
     rcases Kv (f:=ow) [] t with⟨p,h3,h4,h5⟩|h3
     .have:=a8 p h3;simp only[ZJ] at ho
      grind [Zn]
     .simp only[ZJ] at ho;rw[h3] at ho;cases ho
    |_=>rw[ho] at hl;cases hl
  .obtain⟨a,_,h4,h5⟩:=(Zn hG (ak t hl)).2 hl i hi;exact hG.fresh a i h4 h5
  .obtain⟨a,e1,h4,h5⟩:=(Zn hG (ak t hl)).2 hl i hi;obtain⟨a',e2,iJ,qs⟩:=(Zn hG (ak t' cj)).2 cj i cS;by_cases e:a=a'
   .subst e;exact aK (eI t t' a e1 e2)
   .exact hG.sep a a' i e h4 iJ h5 qs
 .exact h.elim
theorem FH {α:Type}{o:Option α}{f:α->Prop}(h:Zt o f):∃ a,f a:=by
 cases o with
 |none=>exact h.elim
 |some a=>exact⟨a,h⟩
theorem COk.nx {C:Cx}(h:COk P C):COk P C.nx:=⟨h.cs,λf x hx=>(by cases hx),h.it,h.yl,h.iy,λf j _ x hx=>(by cases hx)⟩
theorem Kj {S:VSpecs}{Q:Prop}:∀ {ops:List DOper}{env:Env}{hs:List Heap}{U:Heap}{pend:List (Nat×(Heap->Prop))},XE S ops env hs U pend (λ_ _=>Q)->Q
 |[],_,_,_,_,h=>h
 |o::r,env,hs,U,pend,h=>by
  simp only[XE] at h;obtain⟨b,h⟩:=FH h;cases b with
  |true =>
   have h:=h.1 rfl;split at h
   .obtain⟨v,U',_,_,h⟩:=h;exact Kj h
   .split at h
    .obtain⟨p,_,h⟩:=FH h;exact Kj h
    .obtain⟨p,h⟩:=FH h;exact Kj h
  |false =>
   have h:=h.2 rfl;split at h
   .exact Kj h.2
   .exact Kj h
theorem RV {C:Cx}{s:St}{st:List (Nat×SV)}{ow:List (Nat×Src×OB)}{Q:Prop}:∀ (ls:List (List DOper)),Z1m C ls s st ow Q->(∀ l∈ls,Yg C.nx l s 1 0 [] [] λs'=>PW s.env.length s' st ow)/\Q
 |[],h=>⟨λl hl=>(by cases hl),h⟩
 |l::ls,h=>by obtain⟨h1,h2⟩:=h;obtain⟨h3,h4⟩:=RV ls h2;simp_all
theorem NN {B0 F0 D0:Heap}{s:St}{env:Env}{U:Heap}{n:Nat}(hR:GRel P B0 F0 D0 s env U) {st:List (Nat×SV)}{ow:List (Nat×Src×OB)}(h:PW n s st ow):GRel P B0 F0 D0 (ZJ n st ow) env U:=by
 unfold PW at h;cases hb:Nat.beq s.env.length n with
 |false=>rw[hb] at h;exact h.elim
 |true =>
  rw[hb] at h;have hl:env.length=n:=by rw[<-zK hb];obtain⟨_,_,_,_,_,hG⟩:=hR;exact hG.env.length.symm
  rw[<-hl];exact NL hR h
theorem Ka {C:Cx}(aC:COk P C) {B0 F0 D0:Heap}:∀ (aU:List DSeg) {s:St}{env:Env}{U:Heap},GRel P B0 F0 D0 s env U->∀ {K:St->Prop},EF C aU s K->∀ {R:Env->Heap->Prop},(∀ s' ah U',K s'->GRel P B0 F0 D0 s' ah U'->R ah U')->Dd (Q3 P) aU env U R
 |[],s,env,U,hR,K,h,R,hK=>hK s env U h hR
 |.one o::r,s,env,U,hR,K,h,R,hK=>by refine D8 aC [o] hR (K:=λs'=>EF C r s' K) h λs' ah U' h1 h2=>?_;exact Ka aC r h2 h1 hK
 |.alts [l]::r,s,env,U,hR,K,h,R,hK=>by
  simp only[EF] at h;cases hd:Z0d l with
  |false =>
   rw[hd] at h;simp only[zP] at h;cases hk:l.all (λo=>o.kind==o.op.kind) with
   |false=>rw[hk] at h;exact h.elim
   |true =>rw[hk] at h;simp only[zh] at h;intro ops ho;obtain rfl:=zS.1 ho;obtain⟨B,F,pl,tb,hB,hG⟩:=hR;have one:∀ (j:Nat) (Z:Heap),([U]:List Heap)[j]?=some Z->Z=U:=(by grind);exact QF aC ops (by simp_all) hB hG (hl:=1) (chg:=0) (A:=[]) (Rd:=[]) ⟨rfl,λj Z _ ht=>one j Z ht,(λc hc=>absurd hc (by simp)),(by grind)⟩ (pend:=[]) (pd:=[]) (λc hc=>absurd hc (by simp)) (λj Z ht _=>by rw[one j Z ht];exact hG.leB) (Nat.zero_le _) (Nat.succ_pos _) h λs' ah U' h1 h2=>⟨ah,U',.refl _ _ _,Ka aC r h2 h1 hK⟩
  |true =>rw[hd] at h;refine Q4t (l:=l) hd ?_;exact D8 aC _ hR h λs' ah U' h1 h2=>Ka aC r h2 h1 hK
 |.alts []::r,s,env,U,hR,K,h,R,hK=>h.elim
 |.alts (l::l2::ls)::r,s,env,U,hR,K,h,R,hK=>by
  simp only[EF] at h;cases hk:(l::l2::ls).all (λl=>l.all λo=>o.kind==o.op.kind) with
  |false=>rw[hk] at h;exact h.elim
  |true =>
   rw[hk] at h;simp only[zh] at h;obtain⟨B,F,pl,tb,hB,hG⟩:=hR;have one:∀ (j:Nat) (Z:Heap),([U]:List Heap)[j]?=some Z->Z=U:=(by grind);have run:∀ l'∈l::l2::ls,∀ {K':St->Prop},Yg C.nx l' s 1 0 [] [] K'->∀ {R':Env->Heap->Prop},(∀ s' ah U',K' s'->GRel P B0 F0 D0 s' ah U'->R' ah U')->XE (Q3 P) l' env [U] U [] R':=λl' cj K' h' R' qo =>
    QC aC.nx rfl l' (by grind) hB hG (hl:=1) (chg:=0) (A:=[]) (Rd:=[]) ⟨rfl,λj Z _ ht=>one j Z ht,(λc hc=>absurd hc (by simp)),(by grind)⟩ (pend:=[]) (pd:=[]) (λc hc=>absurd hc (by simp)) (λj Z ht _=>by rw[one j Z ht];exact hG.leB) (Nat.zero_le _) (Nat.succ_pos _) h' qo
   obtain⟨s0,h0,h1⟩:=Kj (run l zF h (R':=λ_ _=>∃ s0:St,_) λs' _ _ h' _=>⟨s',h'⟩);obtain⟨h2,h3⟩:=RV _ h1;intro ops ho;rcases zH.1 ho with rfl|gY
   .refine Kc ?_;exact run ops ho h λs' ah U' h' qt=>⟨ah,U',.refl _ _ _,by
     obtain⟨k1,k2⟩:=h';exact Ka aC r (NN qt k1) (RV _ k2).2 hK⟩
   .refine Kc ?_;exact run ops ho (h2 ops gY) λs' ah U' h' qt=>⟨ah,U',.refl _ _ _,Ka aC r (NN qt h') h3 hK⟩
theorem RS:∀ (l:List Nat) (vs:List SV),(Z32 l vs).map (·.1)=l
 |[],_=>rfl
 |j::js,[]=>by simp[Z32,RS js []]
 |j::js,v::vs=>by simp[Z32,RS js vs]
theorem GA {B:Heap}{pl:Nat->Value}{tb:Nat->Option Bool}:∀ {ps:List Nat}{xs:List SV}{us:List Value}{e:List SV}{env:Env},SRs P B pl tb xs us->SRs P B pl tb e env->SRs P B pl tb (B_ e ps xs) (Ly env ps us)
 |[],xs,us,e,env,_,h=>by simpa [B_,Ly] using h
 |p::ps,[],us,e,env,hx,h=>by simp only[SRs] at hx;subst hx;simpa [B_,Ly] using h
 |p::ps,x::xs,us,e,env,hx,h=>by simp only[SRs] at hx;obtain⟨u,lX,rfl,h1,h2⟩:=hx;simp only[B_,Ly];exact GA h2 (h.set p h1)
def Z8n (F0:Heap):Option Nat->Prop
 |none=>True
 |some i=>∃ env r st pend,F0.get i=some (.obj (.lp env r st pend) true)
theorem Gam.dropLp {B F:Heap}{pl:Nat->Value}{tb:Nat->Option Bool}{s:St}{env:Env}{U:Heap}(hG:Gam P B F pl tb s env U) {o:Nat}{l:List SV}{q:LpD}{u:LpS}(ho:Qb s.own o=.lpf l q u) (hl:u.live=true) :
  Gam P B F pl tb ⟨l,oset s.own o .dead,s.nx⟩ q.vals (U.kill q.i)/\U.get q.i=some (.obj (.lp q.vals q.r u.st u.pend) true):=by
 have ak:=hG.obj o;rw[ho] at ak;obtain⟨h1,h2,h3⟩:=ak;have ja:(Qb s.own o).live=true:=by rw[ho];exact hl
 have l6:Oid (pl o) q.i:=by rw[h1];rfl
 have hF:=hG.fresh o q.i ja l6;have lv:∀ d,(Qb (oset s.own o .dead) d).live=true->d≠o/\(Qb s.own d).live=true:=λd h=>by
  rw[Qm] at h;by_cases e:d=o
  .rw[z7 e] at h;cases h
  .rw[z6 e] at h;exact⟨e,h⟩
 refine⟨⟨hG.bf,⟨hG.le.1,λj b hb=>?_⟩,h2,λd=>?_,λd i hd hi=>hG.fresh d i (lv d hd).2 hi,λd d' i e h h'=>hG.sep d d' i e (lv d h).2 (lv d' h').2,hG.free⟩,h3 hl⟩
 .have e:j≠q.i:=by rintro rfl;rw[hF] at hb;cases hb
  rw[Heap.q0c _ e];exact hG.le.2 _ _ hb
 .rw[Qm];by_cases e:d=o
  .rw[z7 e];trivial
  .rw[z6 e];refine (hG.obj d).mono (.refl _) (λ_ _ h=>h) λhd i hi=>?_;have:i≠q.i:=by rintro rfl;exact hG.sep d o q.i e hd ja hi l6
   exact Heap.q0c _ this
theorem Q4v (s:St) (o:Nat) (b:OB) (j:Nat):Qb (s.make o b).own j=if j=o then b else (Qb s.own j).kill o:=by
 simp only[St.make,Qm];by_cases h:j=o
 .subst h;simp
 .simp only[h,if_false,St.kill,Vz]
theorem Gam.enterLp {B F:Heap}{pl:Nat->Value}{tb:Nat->Option Bool}{s:St}{env:Env}{U:Heap}(hG:Gam P B F pl tb s env U) {o aJ:Nat}{l:List SV}{q:LpD}(ho:Qb s.own o=.lpf l q .rdy) (aK:o≠aJ)
  {args:List SV}{us:List Value}(aA:SRs P B pl tb args us) (ps:List Nat) :
  Gam P B (F.ins U q.i hG.le.1) (XT pl aJ poison) tb ⟨B_ (SVs.kill aJ l) ps (SVs.kill aJ args),oset (Ov aJ env s).own o (.lpf (SVs.kill aJ l) q .busy),s.nx⟩ (Ly q.vals ps us) U:=by
 have q3:Gam P B F (XT pl aJ poison) tb (Ov aJ env s) env U:=by refine hG.make aJ _ poison hG.le (λ_ _ _ _ _=>rfl) ?_ (λi hl _=>by cases hl);exact SRs.upd (.refl _) (λ_ _ h=>h) (λj hj=>by simp[XT,hj]) _ _ hG.env
 have ak:=hG.obj o;rw[ho] at ak;obtain⟨h1,h2,h3⟩:=ak;have ja:(Qb s.own o).live=true:=by rw[ho];rfl
 have qu:XT pl aJ poison o=.pointer (some ⟨q.i,0,none⟩):=by simp[XT,aK,h1]
 have uO:Qb (Ov aJ env s).own o=.lpf (SVs.kill aJ l) q .rdy:=by have:=Q4v s aJ (.stk (SVs.kill aJ s.env) env) o;unfold Ov;rw[this,z6 aK,ho];rfl
 have nO:(Qb (Ov aJ env s).own o).live=true:=by rw[uO];rfl
 have l6:Oid (XT pl aJ poison o) q.i:=by rw[qu];rfl
 have hF:=q3.fresh o q.i nO l6;have b_:SRs P B (XT pl aJ poison) tb (SVs.kill aJ l) q.vals:=SRs.upd (.refl _) (λ_ _ h=>h) (λj hj=>by simp[XT,hj]) _ _ h2;have uP:SRs P B (XT pl aJ poison) tb (SVs.kill aJ args) us:=SRs.upd (.refl _) (λ_ _ h=>h) (λj hj=>by simp[XT,hj]) _ _ aA;have lv:∀ d,(Qb (oset (Ov aJ env s).own o (.lpf (SVs.kill aJ l) q .busy)) d).live=true->d≠o/\(Qb (Ov aJ env s).own d).live=true:=λd h=>by
  rw[Qm] at h;by_cases e:d=o
  .rw[z7 e] at h;cases h
  .rw[z6 e] at h;exact⟨e,h⟩
 refine⟨q3.bf.trans (hG.le.ins _),hG.le.q1v _,GA uP b_,λd=>?_,λd i hd hi=>?_,λd d' i e h h'=>q3.sep d d' i e (lv d h).2 (lv d' h').2,q3.free⟩
 .show OR P B _ tb U _ (Qb (oset _ o _) d);rw[Qm];by_cases e:d=o
  .subst e;rw[z7 rfl];exact⟨qu,b_,λh=>by cases h⟩
  .rw[z6 e];exact q3.obj d
 .obtain⟨e,dJ⟩:=lv d hd;have:i≠q.i:=by rintro rfl;exact q3.sep d o q.i e dJ nO hi l6
  rw[Heap.q1b _ _ _ this];exact q3.fresh d i dJ hi
theorem Gam.leaveLp {B F:Heap}{pl:Nat->Value}{tb:Nat->Option Bool}{s:St}{env:Env}{U:Heap}(hG:Gam P B F pl tb s env U) {o aJ:Nat}{l l2:List SV}{jT:List Value}{q:LpD}{b0:Blk}(hF:F.get q.i=some b0) (hB:B.get q.i=none)
  (h2:Qb s.own aJ=.stk l2 jT) (ho:Qb s.own o=.lpf l q .busy) (u:LpS) :
  Gam P B (F.kill q.i) pl tb ⟨l2,oset (oset s.own aJ .dead) o (.lpf l q u),s.nx⟩ jT (U.upd q.i (.obj (.lp q.vals q.r u.st u.pend) true)):=by
 have ak:=hG.obj o;rw[ho] at ak;obtain⟨k1,k2,_⟩:=ak;have hk:=hG.obj aJ;rw[h2] at hk;have hi:q.i<U.n:=U.lt (hG.le.2 _ _ hF);have aK:∀ {d i},(Qb s.own d).live=true->Oid (pl d) i->i≠q.i:=λh1 h2 e=>by have:=hG.fresh _ _ h1 h2;subst e;rw[hF] at this;cases this
 have l6:∀ i,Oid (pl o) i->i=q.i:=λi h=>by rw[k1] at h;exact(osj h).symm
 have hg:∀ d,Qb (oset (oset s.own aJ .dead) o (.lpf l q u)) d=if d=o then .lpf l q u else if d=aJ then .dead else Qb s.own d:=λd=>by rw[Qm,Qm]
 have lv:∀ d,d≠o->(Qb (oset (oset s.own aJ .dead) o (.lpf l q u)) d).live=true->(Qb s.own d).live=true:=λd e h=>by
  rw[hg,z6 e] at h;split at h
  .cases h
  .exact h
 refine⟨⟨hG.bf.1,λj b hb=>?_⟩,⟨hG.le.1,λj b hb=>?_⟩,hk,λd=>?_,λd i hd cS=>?_,λd d' i e h h' h1 jl=>?_,hG.free⟩
 .have e:j≠q.i:=by rintro rfl;rw[hB] at hb;cases hb
  rw[Heap.q0c _ e];exact hG.bf.2 _ _ hb
 .by_cases e:j=q.i
  .grind [Heap.q0g]
  .rw[Heap.q0c _ e] at hb;rw[Heap.q0b _ _ e];exact hG.le.2 _ _ hb
 .show OR P B pl tb _ _ (Qb (oset _ o _) d);rw[hg];by_cases e:d=o
  .subst e;rw[z7 rfl];exact⟨k1,k2,λ_=>Heap.q0d _ _ hi⟩
  .rw[z6 e];split
   .trivial
   .exact(hG.obj d).mono (.refl _) (λ_ _ h=>h) (by grind [Heap.q0b])
 .by_cases e:d=o
  .grind [Heap.q0g]
  .rw[Heap.q0c _ (aK (lv d e hd) cS)];exact hG.fresh d i (lv d e hd) cS
 .by_cases e1:d=o
  .grind
  .by_cases e2:d'=o
   .grind
   .exact hG.sep d d' i e (lv d e1 h) (lv d' e2 h') h1 jl
theorem BU {C:Cx}(aC:COk P C) {L:List (Nat×LoopAnn)}(vc:VCode):∀ {B0 F0 D0:Heap}(n:Nat) (K:Exit->St->Prop) (s:St) (env:Env) (U:Heap) (ro:Option Nat) (Q:Exit->Env->Heap->Prop),Z8n F0 ro->GRel P B0 F0 D0 s env U->gwp C L vc n K s->(∀ e s' ah U',K e s'->GRel P B0 F0 D0 s' ah U'->Q e ah U')->vwp (Q3 P) vc ro Q env U:=by
 induction vc with
 |skip=>intro B0 F0 D0 n K s env U ro Q bV hR h hK;exact hK _ _ _ _ h hR
 |region ops=>intro B0 F0 D0 n K s env U ro Q bV hR h hK;exact D8 aC ops hR h (by grind)
 |regionD aU=>intro B0 F0 D0 n K s env U ro Q bV hR h hK;exact Ka aC aU hR h (by grind)
 |rangeF g ps a b fw eW =>
  intro B0 F0 D0 n K s env U ro Q bV hR h hK;simp only[gwp] at h;split at h
  .rename_i f first de hg
   split at h
   .
    rename_i x hx;obtain⟨B,F,pl,tb,hB,hG⟩:=hR;have gH:=hG.evs (Gds.nil (tb:=tb)) g;rw[hg] at gH;simp only[SR] at gH;obtain⟨x',y',bZ,lr,nP⟩:=gH;obtain⟨h_,lY⟩:=aC.iy f x hx;show vwp (Q3 P) (.rangeF g ps a b) ro Q env U;simp only[vwp,O9,bZ];have lu:(Q3 P).it f=some λi Y args U K=>UQ P i Y->VCallsTo P f args U K:=by simp only[Q3];rw[z7 h_]
    rw[lu];refine⟨?_,λr hY=>?_⟩
    .cases ro with
     |none=>trivial
     |some i =>obtain⟨e1,r1,st1,qv,hi⟩:=bV;exact⟨e1,r1,st1,qv,hG.le.2 _ _ (hB.f.2 _ _ hi)⟩
    generalize jy:C.off+2000000+n=o at h;generalize fG:100000*(o+1)-1=aJ at h;have aq:o≠aJ:=by omega
    let q:LpD:=⟨U.n,env,r⟩;let rdy:Blk:=.obj (.lp env r .ready none) true;let eY:Blk:=.obj (.lp env r .busy none) true;let p0:Value:=.pointer (some ⟨U.n,0,none⟩);have dI:Gam P B F (XT pl o p0) tb (J22 o q s) env (U.push rdy):=by refine hG.push o (.lpf (SVs.kill o s.env) q .rdy) p0 rdy rfl ⟨rfl,SRs.upd (.refl _) (λ_ _ h=>h) (λj hj=>by simp[XT,hj]) _ _ hG.env,λ_=>Heap.q0a _ _⟩
    have kl:∀ {xs us},SRs P B pl tb xs us->SRs P B (XT pl o p0) tb (SVs.kill o xs) us:=λh=>SRs.upd (.refl _) (λ_ _ h=>h) (λj hj=>by simp[XT,hj]) _ _ h;have aA:SRs P B (XT pl o p0) tb (SVs.kill o first++(.dd o .yv::SVs.kill o de)) (x'++(.func (.yield U.n) #[] #[]::y')):=by refine (kl lr).append ?_;simp only[SRs,SR,DR];exact⟨_,_,rfl,⟨U.n,by simp[XT,p0],rfl⟩,kl nP⟩
    have uQ:Q91 P o (Q6g o aJ ps.length q (λK' s'=>gwp C L a n (Q84 (λs3=>gwp C L b n K' s3) λ_ _=>False) s') ps):=by
     intro B F pl tb s ah U args us K R i hG ha hy qu hK;unfold Q6g at hy;split at hy
     .rename_i l q' u ho;split at hy
      .cases hlen:Nat.beq args.length ps.length with
       |false=>rw[hlen] at hy;exact hy.elim
       |true =>
       rw[hlen] at hy;simp only[zh] at hy;obtain⟨rfl,hy⟩:=hy;have ak:=hG.obj o;rw[ho] at ak;have hi:i=q.i:=by have h1:=ak.1;simp_all
       subst hi;have l7:U.get q.i=some rdy:=ak.2.2 rfl;have ja:(Qb s.own o).live=true:=by rw[ho];rfl
       have nD:F.get q.i=none:=hG.fresh o q.i ja (by rw[ak.1];rfl);have rX:B.get q.i=none:=by
        cases hb:B.get q.i with
        |none=>rfl
        |some b=>rw[hG.bf.2 _ _ hb] at nD;cases nD
       have jX:=hG.enterLp ho aq ha ps;have jo:(F.ins U q.i hG.le.1).get q.i=some rdy:=by rw[Heap.q0k];exact l7
       have gN:(F.ins U q.i hG.le.1).n=U.n:=rfl;have aR:q.i<U.n:=U.lt l7;refine hY us U R ⟨l7,by rw[<-ha.length];exact(zK hlen),?_⟩;refine fw (B0:=B) (F0:=F.ins U q.i hG.le.1) (D0:=U) n _ _ _ U (some q.i) _ ⟨env,r,_,_,jo⟩ ⟨B,_,_,tb,.of jX.bf (Dead.refl _),jX⟩ (hy ah) λe s3 qw σ3 h7 h8=>?_;cases e with
       |normal =>
        have kH:σ3.get q.i=some rdy:=by obtain⟨B',F',pl',tb',q1,q2⟩:=h8;exact q2.le.2 _ _ (q1.f.2 _ _ jo)
        refine⟨kH,?_⟩;have h9:=h8.lpUpd (b:=eY) jo rX;have l8:((F.ins U q.i hG.le.1).upd q.i eY).get q.i=some eY:=(by grind [Heap.q0d]);refine eW (B0:=B) (F0:=(F.ins U q.i hG.le.1).upd q.i eY) (D0:=U) n _ _ _ _ (some q.i) _ ⟨env,r,_,_,l8⟩ h9 h7 λe s4 qx σ4 b8 iD=>?_;obtain⟨B',F',pl',tb',q1,q2⟩:=iD;have oT:=q1.f.2 _ _ l8;have qy:=q1.x _ _ l8 rX;have nQ:σ4.get q.i=some eY:=q2.le.2 _ _ oT;unfold gyK at b8;split at b8
        .rename_i l2 jT l3 q3 u3 aB qz;split at b8
         .obtain⟨rfl,rfl,b8⟩:=b8;have base:∀ b,GBase B F U B' (F'.kill q.i) (σ4.upd q.i b):=λb=>by
           refine⟨q1.b,⟨?_,λj c hc=>?_⟩,λj c h1 h2=>?_,q1.d.trans (Dead.upd _ _ _ (by rw[nQ];rfl))⟩
           .have h1:=q1.f.1;have h2:=hG.le.1;show F.n<=F'.n;have h3:((F.ins U q.i hG.le.1).upd q.i eY).n=U.n:=rfl;omega
           .have e:j≠q.i:=by rintro rfl;rw[nD] at hc;cases hc
            rw[Heap.q0c _ e];refine q1.f.2 _ _ ?_
            grind [Heap.q0b,Heap.q1b]
           .have e:j≠q.i:=by rintro rfl;rw[nD] at h1;cases h1
            refine q1.x j c ?_ h2
            grind [Heap.q0b,Heap.q1b]
          refine⟨nQ,?_⟩;cases e with
          |normal=>exact hK _ _ B' _ pl' tb' _ _ b8 (base _) (q2.leaveLp oT qy aB qz .rdy) (by simp[SR,KC])
          |ret=>exact hK _ _ B' _ pl' tb' _ _ b8 (base _) (q2.leaveLp oT qy aB qz .ret) (by simp[SR,KC])
          |exit id=>exact hK _ _ B' _ pl' tb' _ _ b8 (base _) (q2.leaveLp oT qy aB qz (.exit id)) (by simp[SR,KC])
          |_=>exact b8.elim
         .exact b8.elim
        .exact b8.elim
       |_=>exact h7.elim
      .exact hy.elim
     .exact hy.elim
    have aV:=lY B F _ tb _ env (U.push rdy) o _ _ _ (Z2o o q K) (λZ=>Q93 Q env U.n poison Z) dI aA uQ (h q) λs' B' F' pl' tb' ah U' hk hb cW=>by
     unfold Z2o at hk;split at hk
     .rename_i l q' u ho;have fin:∀ {e:Exit},u.live=true->q'=q->K e ⟨l,oset s'.own o .dead,s'.nx⟩->Q e env (U'.kill U.n)/\U'.get U.n=some (.obj (.lp env r u.st u.pend) true):=λ{e} hu hq uR=>by
       subst hq;obtain⟨g1,g2⟩:=cW.dropLp ho hu;refine⟨hK _ _ _ _ uR ⟨B',F',pl',tb',⟨hB.b.trans hb.b,hB.f.trans hb.f,λj c h1 h2=>hb.x j c (hB.f.2 _ _ h1) (hB.x j c h1 h2),hB.d.trans ((Dead.push _ _).trans (hb.d.trans (Dead.kill _ _)))⟩,g1⟩,g2⟩
      cases u with
      |busy=>exact hk.elim
      |rdy =>obtain⟨hq,hk⟩:=hk;obtain⟨k1,k2⟩:=fin rfl hq hk;unfold Q93;rw[k2];exact⟨(by intro h;cases h),k1⟩
      |ret =>obtain⟨hq,hk⟩:=hk;obtain⟨k1,k2⟩:=fin rfl hq hk;unfold Q93;rw[k2];exact⟨(by intro h;cases h),k1⟩
      |exit id =>obtain⟨hq,hk⟩:=hk;obtain⟨k1,k2⟩:=fin rfl hq hk;unfold Q93;rw[k2];exact⟨(by intro h;cases h),k1⟩
     .exact hk.elim
    refine VCallsTo.mono (R:=λ_ Z=>Q93 Q env U.n poison Z) (by simpa using aV) λv Z h=>h
   split at h
   rotate_left
   .exact h.elim
   split at h
   .rename_i it s1 cw A mH qA hA;split at h
    .rename_i c m ar xs hc;cases d_:Nat.beq ps.length ar with
     |false=>rw[d_] at h;exact h.elim
     |true =>
     rw[d_] at h;simp only[zh] at h;obtain⟨eP,p,d0,dy,I,uS,rY,uT⟩:=h;have d_:=zK d_;have hlen:s.env.length=env.length:=by obtain⟨B,F,pl,tb,_,hG⟩:=hR;exact hG.env.length
     rw[hlen] at rY uT;have qm:=hR;obtain⟨B,F,pl,tb,hB,hG⟩:=hR;have gH:=hG.evs Gds.nil g;rw[hg] at gH;simp only[SR] at gH;obtain⟨x,y,bZ,hx,hy⟩:=gH;simp only[SRs] at hx;subst hx;obtain⟨B1,F1,nR,nT,uU,lQ⟩:=PF hG hy qA;obtain⟨h_,qB⟩:=aC.it f it mH;obtain⟨nU,qC⟩:=qB B1 cw y c m ar xs uU hc eP;have uV:GRel P B1 F1 D0 (ZJ (List.length env) (A.st p d0) (A.own p d0)) env U:=NL ⟨B1,F1,pl,tb,⟨.refl _,.refl _,λ_ _ _ h=>h,(hB.trans nR).d⟩,nT⟩ dy;have l9:B1.get U.n=none:=B1.wf _ nT.leB.1;have vZ:F1.get U.n=none:=F1.wf _ nT.le.1;show vwp (Q3 P) (.rangeF g ps a b) ro Q env U;simp only[vwp,O9,bZ];have lu:(Q3 P).it f=some λi Y args U K=>UQ P i Y->VCallsTo P f args U K:=by simp only[Q3];rw[z7 h_]
     rw[lu];refine⟨?_,λr hY=>?_⟩
     .cases ro with
      |none=>trivial
      |some i =>obtain⟨e1,r1,st1,qv,hi⟩:=bV;exact⟨e1,r1,st1,qv,hG.le.2 _ _ (hB.f.2 _ _ hi)⟩
     .let rdy:Blk:=.obj (.lp env r .ready none) true;let eY:Blk:=.obj (.lp env r .busy none) true;have jY:F1.Le (U.push rdy):=nT.le.push rdy;let Fr:=F1.ins (U.push rdy) U.n jY.1;have jo:Fr.get U.n=some rdy:=by
       grind [Heap.q0k,Heap.q0a]
      have gN:Fr.n=U.n+1:=rfl;have uW:F1.Le Fr:=jY.ins U.n;let J:Nat->Heap->Prop:=λk Z=>∃ d,I k d/\GRel P B1 Fr D0 (ZJ (List.length env) (A.st p d) (A.own p d)) env Z;let E:Heap->Prop:=λZ=>∃ cd e,Z.get U.n=some (.obj (.lp env r .done (some cd)) true)/\((cd=.ret/\e=Exit.ret)\/∃ id,cd=.exit id/\e=Exit.exit id)/\Q e env (Z.kill U.n);have back:∀ {s':St}{Z:Heap},GRel P B1 (Fr.upd U.n eY) D0 s' env Z->∀ b,GRel P B1 ((Fr.upd U.n eY).upd U.n b) D0 s' env (Z.upd U.n b):=λh b =>
       h.lpUpd (b0:=eY) (Heap.q0d _ _ (by rw[gN];omega)) l9
      have jZ:∀ {Fx:Heap}{b0:Blk}{s':St}{Z:Heap},Fx.get U.n=some b0->(∀ i,i≠U.n->Fx.get i=F1.get i)->Fx.n=U.n+1->GRel P B1 Fx D0 s' env Z->GRel P B0 F0 D0 s' env (Z.kill U.n):=λ{Fx b0 s' Z} h1 h2 h3 h4=>by
       refine (h4.lpKill h1 l9).base (hB.b.trans nR.b) ⟨?_,λi b hb=>?_⟩ λi b k1 k2=>(hB.trans nR).x i b k1 k2
       .show F0.n<=Fx.n;rw[h3];have:=(hB.trans nR).f.1;have:=nT.le.1;omega
       .have bQ:=(hB.trans nR).f.2 _ _ hb
        grind [Heap.q0c]
      have qD:∀ i,i≠U.n->Fr.get i=F1.get i:=λi e=>Heap.q1b _ _ _ e;have aV:=qC U.n _ J E (U.push rdy) hY (λk Z ⟨d,_,hd⟩=>?_) (λk us Z hk ⟨d,rZ,hd⟩ eD=>?_) ⟨d0,uS,?_⟩
      .refine VCallsTo.mono (R:=λ_ Z=>J m Z\/E Z) (by simpa using aV) λv Z rK=>?_;unfold Q93;rcases rK with⟨d,rZ,hd⟩|⟨cd,e,h1,h2,h3⟩
       .have l7:Z.get U.n=some rdy:=by
         obtain⟨B',F',pl',tb',q1,q2⟩:=hd;exact q2.le.2 _ _ (q1.f.2 _ _ jo)
        grind
       grind
      .obtain⟨B',F',pl',tb',q1,q2⟩:=hd;exact q1.b.trans q2.leB
      .
       have l7:Z.get U.n=some rdy:=by obtain⟨B',F',pl',tb',q1,q2⟩:=hd;exact q2.le.2 _ _ (q1.f.2 _ _ jo)
       refine⟨l7,by rw[d_,<-(nU k).1,eD.length],?_⟩;have hF:=rY k d hk rZ env;have bu:GRel P B1 Fr D0 ⟨B_ (Ov (2000000+n) env (ZJ (List.length env) (A.st p d) (A.own p d))).env ps (xs k),(Ov (2000000+n) env (ZJ (List.length env) (A.st p d) (A.own p d))).own,0⟩ (Ly env ps us) Z:=by
        obtain⟨B',F',pl',tb',q1,q2⟩:=hd;have q3:Gam P B' F' (XT pl' (2000000+n) poison) tb' (Ov (2000000+n) env (ZJ (List.length env) (A.st p d) (A.own p d))) env Z:=by refine q2.make (2000000+n) _ poison q2.le (λ_ _ _ _ _=>rfl) ?_ (λi hl _=>by cases hl);exact SRs.upd (.refl _) (λ_ _ h=>h) (λj hj=>by simp[XT,hj]) _ _ q2.env
        refine⟨B',F',XT pl' (2000000+n) poison,tb',q1,⟨q3.bf,q3.le,GA ?_ q3.env,q3.obj,q3.fresh,q3.sep,?_⟩⟩
        .exact SRs.mono q1.b (λ_ _ h=>h) _ _ (Xl _ _ (nU k).2 eD)
        .exact q3.free
       refine fw (B0:=B1) (F0:=Fr) n _ _ _ Z (some U.n) _ ⟨env,r,_,_,jo⟩ bu hF λe s3 qw σ3 h7 h8=>?_;cases e with
       |normal =>
        have kH:σ3.get U.n=some rdy:=by obtain⟨B',F',pl',tb',q1,q2⟩:=h8;exact q2.le.2 _ _ (q1.f.2 _ _ jo)
        refine⟨kH,?_⟩;have h9:=h8.lpUpd (b:=eY) jo l9;have l8:(Fr.upd U.n eY).get U.n=some eY:=Heap.q0d _ _ (by rw[gN];omega);refine eW (B0:=B1) (F0:=Fr.upd U.n eY) n _ _ _ _ (some U.n) _ ⟨env,r,_,_,l8⟩ h9 h7 λe s4 qx σ4 b8 iD=>?_;have nQ:σ4.get U.n=some eY:=by obtain⟨B',F',pl',tb',q1,q2⟩:=iD;exact q2.le.2 _ _ (q1.f.2 _ _ l8)
        have r7:U.n<σ4.n:=σ4.lt nQ;unfold Q4u at b8;split at b8
        .rename_i l vs iH;obtain⟨rfl,b8⟩:=b8;have cL:GRel P B1 (Fr.upd U.n eY) D0 ⟨l,s4.own,s4.nx⟩ vs σ4:=by
          obtain⟨B',F',pl',tb',q1,q2⟩:=iD;have:=q2.obj (2000000+n);rw[iH] at this;exact⟨B',F',pl',tb',q1,q2.bf,q2.le,this,q2.obj,q2.fresh,q2.sep,q2.free⟩
         have nV:∀ b,((Fr.upd U.n eY).upd U.n b).get U.n=some b:=λb=>Heap.q0d _ _ (by show U.n<Fr.n;rw[gN];omega);have r8:∀ b i,i≠U.n->((Fr.upd U.n eY).upd U.n b).get i=F1.get i:=(by grind [Heap.q0b]);refine⟨nQ,?_⟩;cases e with
         |normal =>
          obtain⟨d',qe,uX⟩:=b8;refine .inl ⟨rfl,d',uX,?_⟩;have:=(back (NL cL qe) rdy).base (B0:=B1) (F0:=Fr) (.refl _) ⟨z9 _,λi b hb=>?_⟩ λi b k1 k2=>k2
          .exact this
          .grind
         |ret =>refine .inr ⟨rfl,_,_,Heap.q0d _ _ r7,.inl ⟨rfl,rfl⟩,hK _ _ _ _ b8 (jZ (nV _) (r8 _) (by show Fr.n=_;exact gN) (back cL _))⟩
         |exit id =>refine .inr ⟨rfl,_,_,Heap.q0d _ _ r7,.inr ⟨id,rfl,rfl⟩,hK _ _ _ _ b8 (jZ (nV _) (r8 _) (by show Fr.n=_;exact gN) (back cL _))⟩
         |_=>exact b8.elim
        .exact b8.elim
       |_=>exact h7.elim
      .
       obtain⟨B',F',pl',tb',q1,q2⟩:=uV;have hle:F'.Le (U.push rdy):=q2.le.push rdy;have uY:F'.get U.n=none:=F'.wf _ q2.le.1;have ak:∀ d i,(Qb (ZJ (List.length env) (A.st p d0) (A.own p d0)).own d).live=true->Oid (pl' d) i->i<U.n:=λd i h1 h2=>(q2.obj d).q0y h1 h2;refine⟨B',F'.ins (U.push rdy) U.n hle.1,pl',tb',⟨q1.b,Heap.q1w q1.f _ _ _,λi b k1 k2=>?_,q1.d.trans (Dead.push _ _)⟩,⟨q2.bf.trans (hle.ins _),hle.q1v _,q2.env,λd=>(q2.obj d).mono (.refl _) (λ_ _ h=>h) (by grind [Heap.q0h]),λd i h1 h2=>?_,q2.sep,q2.free⟩⟩
       .by_cases e:i=U.n
        .subst e;exact B'.wf _ q2.leB.1
        .rw[qD i e] at k1;exact q1.x i b k1 k2
       .rw[Heap.q1b _ _ _ (Nat.ne_of_lt (ak d i h1 h2))];exact q2.fresh d i h1 h2
    .exact h.elim
   .exact h.elim
  .exact h.elim
 |bad=>intro B0 F0 D0 n K s env U ro Q bV hR h hK;exact h.elim
 |ret=>intro B0 F0 D0 n K s env U ro Q bV hR h hK;exact hK _ _ _ _ h hR
 |exit id=>intro B0 F0 D0 n K s env U ro Q bV hR h hK;exact hK _ _ _ _ h hR
 |seq a b fw eW =>
  intro B0 F0 D0 n K s env U ro Q bV hR h hK;refine fw n _ s env U ro _ bV hR h λe s' ah U' h1 h2=>?_;cases e with
  |normal=>exact eW n K s' ah U' ro Q bV h2 h1 hK
  |_=>exact hK _ _ _ _ h1 h2
 |cond c a b fw eW =>
  intro B0 F0 D0 n K s env U ro Q bV hR h hK;simp only[gwp] at h;split at h
  .rename_i t ht;have qm:=hR;obtain⟨B,F,pl,tb,hB,hG⟩:=hR;have:=Ga hG ht;simp only[vwp,this,Q6w];cases t with
   |true=>exact⟨(by grind),λe=>by cases e⟩
   |false=>exact⟨(λe=>by cases e),(by grind)⟩
  split at h
  .rename_i t ht;obtain⟨B,F,pl,tb,hB,hG⟩:=hR;have:=Yu ht (hG.evs Gds.nil c);simp only[vwp,this,Q6w];split at h
   .rename_i A hA;obtain⟨p,I,hF,hI⟩:=h;have fin:∀ e s' ah U',Z1s s.env.length A p I K e s'->GRel P B0 F0 D0 s' ah U'->Q e ah U':=λe s' ah U' h1 h2=>by
     cases e with
     |normal =>obtain⟨d,h3,h4⟩:=h1;exact hK _ _ _ _ (hI d h4) (NN h2 h3)
     |_=>exact hK _ _ _ _ h1 h2
    exact⟨λe=>fw n _ s env U ro Q bV ⟨B,F,pl,tb,hB,hG⟩ (hF.1 e) fin,λe=>eW n _ s env U ro Q bV ⟨B,F,pl,tb,hB,hG⟩ (hF.2 e) fin⟩
   exact⟨λe=>fw n K s env U ro Q bV ⟨B,F,pl,tb,hB,hG⟩ (h.1 e) hK,λe=>eW n K s env U ro Q bV ⟨B,F,pl,tb,hB,hG⟩ (h.2 e) hK⟩
  .exact h.elim
 |block id b ih =>
  intro B0 F0 D0 n K s env U ro Q bV hR h hK;refine ih id _ s env U ro _ bV hR h λe s' ah U' h1 h2=>?_;cases e with
  |exit gV =>
   simp only[Q5x] at h1;simp only[Q1z];split
   .grind
   .grind
  |_=>exact hK _ _ _ _ h1 h2
 |loop b ih =>
  intro B0 F0 D0 n K s env U ro Q bV hR h hK;simp only[gwp] at h;split at h
  .rename_i A hA;obtain⟨p,d0,h1,I,μ,h2,h3⟩:=h;have hlen:s.env.length=env.length:=by obtain⟨B,F,pl,tb,_,hG⟩:=hR;exact hG.env.length
   have hk:∀ d,(A.st p d).map (·.1)=A.sl:=λd=>RS _ _;refine⟨A.sl,λm vs U'=>∃ d,I d/\μ d=m/\GRel P B0 F0 D0 (ZJ s.env.length (A.st p d) (A.own p d)) (Yt A.sl vs (List.replicate env.length poison)) U',μ d0,⟨d0,h2,rfl,?_⟩,λm vs U' ⟨d,h4,h5,h6⟩=>?_⟩
   .grind [Te]
   .refine ih n _ _ _ U' ro _ bV h6 (h3 d h4) λe s' ah aL h7 h8=>?_;cases e with
    |normal =>
     simp only[Q9u] at h7;cases m9:Z84 s'.own with
     |false=>rw[m9] at h7;exact h7.elim
     |true =>
     rw[m9] at h7;obtain⟨d',h9,b8,iD⟩:=h7;refine⟨μ d',by omega,d',b8,rfl,?_⟩;have:=Te h8 h9 s.env.length;rw[hk d',hlen] at this;rw[hlen];exact this
    |_=>exact hK _ _ _ _ h7 h8
  .exact h.elim
end
end Go.V
namespace Go.V
open Go
def I3 (s:St):VResult->Option SV
 |.tmp t=>some (s.env.getD t .any)
 |.cell a agg size=>bif Nat.blt 0 size then Q9i s.own agg size (s.env.getD a .any) else none
def M3 (s:St) (rs:List VResult):Option SV :=
 match rs with
 |[r]=>I3 s r
 |rs=>(rs.mapM (I3 s)).map .tup
def Z0z (mp:List (Nat×Option Nat)) (j:Nat) (a:Option Nat):Option (List (Nat×Option Nat)) :=
 if (QQ mp j).isSome then none else match a with
 |some x=>if mp.any λp=>p.2==some x then none else some (mp++[(j,a)])
 |none=>some (mp++[(j,a)])
mutual
def rmap:SV->SV->List (Nat×Option Nat)->Option (List (Nat×Option Nat))
 |.lst j,v,mp=>match v with|.lst a=>Z0z mp j (some a)|.nilS=>Z0z mp j none|_=>none
 |.map j,v,mp=>match v with|.map a=>Z0z mp j (some a)|_=>none
 |.dd j w,v,mp=>match w with
  |.out=>(match v with
   |.dd a w'=>(match w' with|.out=>Z0z mp j (some a)|_=>none)
   |.nilS=>Z0z mp j none
   |_=>none)
  |_=>none
 |.box j _,v,mp=>match v with|.box a _=>Z0z mp j (some a)|_=>none
 |.agg l,v,mp=>match v with|.agg l'=>Q2z l l' mp|_=>none
 |.tup l,v,mp=>match v with|.tup l'=>Q2z l l' mp|_=>none
 |.any,_,mp=>some mp
 |.val _ _,_,mp=>some mp
 |.nilS,_,mp=>some mp
 |.nilP,_,mp=>some mp
 |.nilM,_,mp=>some mp
 |.nilF,_,mp=>some mp
 |.sub _ _ _ _,_,_|.elp _ _ _ _,_,_|.grd _ _,_,_|.cp _ _,_,_|.fn _ _ _,_,_|.rop _ _ _ _,_,_|.pf _ _ _ _,_,_|.bid _ _,_,_=>none
def Q2z:List SV->List SV->List (Nat×Option Nat)->Option (List (Nat×Option Nat))
 |[],_,mp=>some mp
 |s::ss,l,mp=>match l with
  |v::vs=>match rmap s v mp with|some mp=>Q2z ss vs mp|none=>none
  |[]=>none
end
def Q8d (s:St) (mp:List (Nat×Option Nat)):Nat->List OB->Prop
 |_,[]=>True
 |j,b::r=>Q5u s mp j b/\Q8d s mp (j+1) r
def Y4 (rs:List VResult) (v:SV) (bs:List OB):Exit->St->Prop:=λe s =>
 let fin:=match M3 s rs with
  |some r=>(match rmap v r [] with
   |some mp=>RH mp v r/\Q8d s mp 0 bs
   |none=>False)
  |none=>False
 match e with
 |.normal=>fin
 |.ret=>fin
 |_=>False
section
variable {P:Program}{B F:Heap}{pl:Nat->Value}{tb:Nat->Option Bool}{s:St}{env:Env}{U:Heap}
theorem RK (hG:Gam P B F pl tb s env U) {r:VResult}{v:SV}(h:I3 s r=some v):∃ u,W2 env U r=some u/\SR P B pl tb v u:=by
 cases r with
 |tmp t=>obtain rfl:=osj h;exact⟨_,rfl,hG.env.getD t undef⟩
 |cell a agg size =>
  simp only[I3] at h;cases hb:Nat.blt 0 size with
  |false=>rw[hb] at h;cases h
  |true =>rw[hb] at h;obtain⟨i,o,c,e,wr,t,u,h1,h2,h3,h4⟩:=Sf hG.leB hG.obj (by simpa [zB] using hb) h (hG.env.getD a undef);refine⟨u,?_,h4⟩;simp only[W2,Q7,Q5,h1,h2,h3];rfl
theorem UD (hG:Gam P B F pl tb s env U) {rs:List VResult}{v:SV}(h:M3 s rs=some v):∃ u,Wq env U rs=some u/\SR P B pl tb v u:=by
 have all:∀ (rs:List VResult) (l:List SV),rs.mapM (I3 s)=some l->∃ us,rs.mapM (W2 env U)=some us/\SRs P B pl tb l us:=by
  intro rs;induction rs with
  |nil=>intro l h;simp at h;subst h;exact⟨[],rfl,rfl⟩
  |cons r rs ih =>
   intro l h;rw[x6] at h;cases h1:I3 s r with
   |none=>simp[h1] at h
   |some a =>
    cases h2:rs.mapM (I3 s) with
    |none=>simp[h1,h2] at h
    |some l' =>simp[h1,h2] at h;subst h;obtain⟨u,h3,h4⟩:=RK hG h1;obtain⟨us,h5,h6⟩:=ih l' h2;exact⟨u::us,by rw[x6];simp[h3,h5],by simp only[SRs];exact⟨u,us,rfl,h4,h6⟩⟩
 have tup:(rs.mapM (I3 s)).map SV.tup=some v->∃ u,(rs.mapM (W2 env U)).map (λvs=>Value.tuple vs.toArray)=some u/\SR P B pl tb v u:=λh=>by simp only[zj] at h;obtain⟨l,h1,rfl⟩:=h;obtain⟨us,h2,h3⟩:=all rs l h1;exact⟨.tuple us.toArray,by rw[h2];rfl,by simp only[SR];exact⟨us,rfl,h3⟩⟩
 match rs,h,tup with
 |[r],h,_=>exact RK hG h
 |[],h,tup=>exact tup h
 |_::_::_,h,tup=>exact tup h
theorem RB {mp bW:List (Nat×Option Nat)}{j:Nat}{a:Option Nat}(h:Z0z mp j a=some bW) (hi:Inj mp):Inj bW:=by
 unfold Z0z at h;split at h
 .cases h
 .split at h
  .rename_i x;split at h
   .cases h
   .rename_i hc;obtain rfl:=osj h;have cL:∀ d,QQ mp d≠some (some x):=(by grind [I2,List.any_eq_true]);intro t1 t2 a' h1 h2;rw[Uc] at h1 h2;split at h1
    .rename_i y1 e1;split at h2
     .rename_i y2 e2;obtain rfl:=osj h1;obtain rfl:=osj h2;exact hi t1 t2 a' e1 e2
     simp_all
    grind
  .obtain rfl:=osj h;intro t1 t2 a' h1 h2;rw[Uc] at h1 h2;split at h1
   .rename_i y1 e1;split at h2
    .rename_i y2 e2;obtain rfl:=osj h1;obtain rfl:=osj h2;exact hi t1 t2 a' e1 e2
    .split at h2<;>cases h2
   .split at h1<;>cases h1
mutual
theorem Q1v:∀ (v r:SV) (mp bW:List (Nat×Option Nat)),rmap v r mp=some bW->Inj mp->Inj bW
 |.lst j,r,mp,bW,h,hi=>by
  simp only[rmap] at h
  grind [RB]
 |.map j,r,mp,bW,h,hi=>by
  simp only[rmap] at h
  grind [RB]
 |.dd j w,r,mp,bW,h,hi=>by
  simp only[rmap] at h
  grind [RB]
 |.box j _,r,mp,bW,h,hi=>by
  simp only[rmap] at h
  grind [RB]
 |.agg l,r,mp,bW,h,hi=>by
  simp only[rmap] at h;split at h
  .exact Lk l _ mp bW h hi
  .cases h
 |.tup l,r,mp,bW,h,hi=>by
  simp only[rmap] at h;split at h
  .exact Lk l _ mp bW h hi
  .cases h
 |.any,r,mp,bW,h,hi|.val _ _,r,mp,bW,h,hi|.nilS,r,mp,bW,h,hi|.nilP,r,mp,bW,h,hi|.nilM,r,mp,bW,h,hi|.nilF,r,mp,bW,h,hi=>by simp only[rmap] at h;simp_all
 |.sub _ _ _ _,r,mp,bW,h,hi|.elp _ _ _ _,r,mp,bW,h,hi|.grd _ _,r,mp,bW,h,hi|.cp _ _,r,mp,bW,h,hi|.fn _ _ _,r,mp,bW,h,hi|.rop _ _ _ _,r,mp,bW,h,hi|.pf _ _ _ _,r,mp,bW,h,hi|.bid _ _,r,mp,bW,h,hi=>by cases h
theorem Lk:∀ (v r:List SV) (mp bW:List (Nat×Option Nat)),Q2z v r mp=some bW->Inj mp->Inj bW
 |[],r,mp,bW,h,hi=>by simp only[Q2z] at h;simp_all
 |s::ss,[],mp,bW,h,hi=>by cases h
 |s::ss,r::rs,mp,bW,h,hi=>by
  simp only[Q2z] at h;split at h
  .rename_i r9 h1;exact Lk ss rs r9 bW h (Q1v s r mp r9 h1 hi)
  .cases h
end
theorem I1 {mp:List (Nat×Option Nat)}:∀ (bs:List OB) (n:Nat),Q8d s mp n bs->∀ j b,bs[j]?=some b->Q5u s mp (n+j) b
 |[],n,_,j,b,hj=>by simp at hj
 |b0::r,n,h,j,b,hj=>by
  obtain⟨h1,h2⟩:=h;cases j with
  |zero=>simp at hj;subst hj;exact h1
  |succ j =>
   have:=I1 r (n+1) h2 j b (by simpa using hj)
   rwa [zu,xY 1 j] at this
mutual
theorem Q11 {n:Nat}{π:Nat->Nat}:∀ (v:SV) (u:Value),v.ret 0=true->SR P B pl tb v u->Ren n π u u
 |.val k x,u,h,hs=>by
  simp only[SR] at hs;cases k with
  |i ik=>simp only[KC] at hs;obtain rfl:=(zY hs).1;exact .plain _ rfl
  |bo=>simp only[KC] at hs;obtain rfl:=(zY hs).1;exact .plain _ rfl
  |st=>simp only[KC] at hs;obtain rfl:=(zY hs).1;exact .plain _ rfl
  |list k=>cases h
  |pair a b =>have h1:=KC.length hs;have h2:=a.size_pos;have h3:=b.size_pos;simp only[Kind.size,xt] at h1;omega
 |.nilS,u,_,hs|.nilP,u,_,hs|.nilM,u,_,hs|.nilF,u,_,hs=>by simp only[SR] at hs;subst hs;exact .plain _ rfl
 |.lst j,u,h,_|.box j _,u,h,_|.map j,u,h,_=>by simp[SV.ret,zB] at h
 |.dd j w,u,h,_=>by cases w<;>simp[SV.ret,zB] at h
 |.agg l,u,h,hs=>by simp only[SR] at hs;obtain⟨cs,rfl,h2⟩:=hs;have:=S6 (n:=n) (π:=π) l cs h h2;exact .agg _ _ rfl λi h3 _=>this _ (by simp)
 |.tup l,u,h,hs=>by simp only[SR] at hs;obtain⟨cs,rfl,h2⟩:=hs;have:=S6 (n:=n) (π:=π) l cs h h2;exact .tuple _ _ rfl λi h3 _=>this _ (by simp)
 |.any,_,h,_|.bid _ _,_,h,_|.grd _ _,_,h,_|.sub _ _ _ _,_,h,_|.elp _ _ _ _,_,h,_|.rop _ _ _ _,_,h,_|.cp _ _,_,h,_|.fn _ _ _,_,h,_|.pf _ _ _ _,_,h,_=>by cases h
theorem S6 {n:Nat}{π:Nat->Nat}:∀ (v:List SV) (u:List Value),SVs.ret 0 v=true->SRs P B pl tb v u->∀ x∈u,Ren n π x x
 |[],u,_,hs=>by simp only[SRs] at hs;subst hs;intro x hx;cases hx
 |s::ss,u,h,hs=>by
  simp only[SVs.ret,z0] at h;simp only[SRs] at hs;obtain⟨x,y,rfl,h1,h2⟩:=hs;intro z hz;rcases zH.1 hz with rfl|hz
  .exact Q11 s z h.1 h1
  .exact S6 ss y h.2 h2 z hz
end
theorem Q3x (exact:Bool) {σ0:Heap}{sf:St}{lx:Env}{σf:Heap}(hR:GRel P σ0 σ0 σ0 sf lx σf) {rs:List VResult}{v:SV}{bs:List OB}{e:Exit}(hv:v.ret bs.length=true) (hb:bs.all OB.ret=true) (h:Y4 rs v bs e sf) (hx:exact=true->bs.all OB.isL=true/\UM v=true) :
  Z7s σ0 rs (λu U'=>if exact then u=UC (MA σ0 bs) v/\U'=SU σ0 bs else Ret P σ0 v bs u U') e lx σf:=by
 have main:(match M3 sf rs with
  |some r=>(match rmap v r [] with
   |some mp=>RH mp v r/\Q8d sf mp 0 bs
   |none=>False)
  |none=>False)->Zt (Wq lx σf rs) λu=>∃ v' U',DropTo σ0 u σf v' U'/\(if exact then v'=UC (MA σ0 bs) v/\U'=SU σ0 bs else Ret P σ0 v bs v' U'):=λh=>by
  split at h
  .rename_i r hr;split at h
   .rename_i mp lq;obtain⟨h1,h2⟩:=h;obtain⟨B,F,pl,tb,⟨hB,hF,_,hd⟩,hG⟩:=hR;obtain⟨u,h3,h4⟩:=UD hG hr;have iS:=Nv v r u h1 h4;have eI:=Q1v v r [] mp lq (λt t' a h=>by cases h);have ak:∀ j b,bs[j]?=some b->Q5u sf mp j b:=λj b hj=>by have:=I1 bs 0 h2 j b hj;rwa [zQ] at this
    rw[h3];have hle:σ0.Le σf:=hF.trans hG.le;have hA:Agree σ0 σf:=λi hi=>by
     cases hg:σ0.get i with
     |none=>exact hd.2 i hi hg
     |some b=>exact hle.2 i b hg
    have aY:∀ j b,bs[j]?=some b->OR P hNil (GF pl mp) Wp σf (GF pl mp j) b/\∀ i,Oid (GF pl mp j) i->σ0.get i=none/\σ0.n<=i:=λj b hj=>by
     obtain⟨k1,k2⟩:=Zn hG (ak j b hj);have dg:=zg.1 hb b (xh hj);have aw:b.live=true:=by cases b<;>first|rfl|cases dg
     refine⟨k1.retd dg λ_ _=>rfl,λi hi=>?_⟩;obtain⟨a,e1,e2,e3⟩:=k2 aw i hi;have l9:=hG.fresh a i e2 e3;have hn:σ0.get i=none:=by
      cases hg:σ0.get i with
      |none=>rfl
      |some b=>rw[hF.2 i b hg] at l9;cases l9
     refine⟨hn,Nat.le_of_not_lt λao=>?_⟩;have a9:=hd.2 i ao hn;have ak:=hG.obj a;cases ho:Qb sf.own a with
     |dead=>rw[ho] at e2;cases e2
     |lst ty k xs nl =>
      rw[ho] at ak;rcases ak with⟨_,_,h2⟩|⟨_,i',cap,c,t,h2,_,h3,_⟩
      .rw[h2] at e3;cases e3
      .rw[h2] at e3;obtain rfl:=osj e3;rw[h3] at a9;cases a9
     |cells l u=>rw[ho] at ak;obtain⟨i',c,e,t,h2,h3,_⟩:=ak;rw[h2] at e3;obtain rfl:=osj e3;rw[h3] at a9;cases a9
     |mapE kk vk m key n=>rw[ho] at ak;obtain⟨i',es,cl,r,e,h2,h3,_⟩:=ak;rw[h2] at e3;obtain rfl:=osj e3;rw[h3] at a9;cases a9
     |map kk vk m=>rw[ho] at ak;obtain⟨i',es,cl,h2,h3,_⟩:=ak;rw[h2] at e3;obtain rfl:=osj e3;rw[h3] at a9;cases a9
     |fm ik l=>rw[ho] at ak;obtain⟨i',es,cl,h2,h3,_⟩:=ak;rw[h2] at e3;obtain rfl:=osj e3;rw[h3] at a9;cases a9
     |stk l vals=>rw[ho] at e2;cases e2
     |lpf l q s=>rw[ho] at ak e2;obtain⟨h2,_,h3⟩:=ak;rw[h2] at e3;obtain rfl:=osj e3;have h3:=h3 e2;rw[a9] at h3;cases h3
     |iter kk vk m dn=>rw[ho] at ak;obtain⟨j',i',es,cl,wr,seen,h2,h3,_⟩:=ak;rw[h2] at e3;obtain rfl:=osj e3;rw[h3] at a9;cases a9
     |siter l pos=>rw[ho] at ak;obtain⟨j',s',h2,h3,_⟩:=ak;rw[h2] at e3;obtain rfl:=osj e3;rw[h3] at a9;cases a9
     |rmap kk vk m=>rw[ho] at e2;cases e2
     |deep ty q k xs nl hh =>rw[ho] at ak;obtain⟨is,_,d2,d3,_⟩:=DP.open ak;obtain⟨c,e,t,h⟩:=d2.cells i ((d3 i).1 e3);rw[h] at a9;cases a9
    have eK:∀ j j' i,j<bs.length->j'<bs.length->j≠j'->Oid (GF pl mp j) i->Oid (GF pl mp j') i->False:=λj j' i hj cN aK hi cS=>by
     have bQ:=z8 hj;have b9:=z8 cN;have r1:=zg.1 hb _ (zl hj);have r2:=zg.1 hb _ (zl cN);have l1:(bs[j]).live=true:=by cases oC:bs[j]<;>first|rfl|(rw[oC] at r1;cases r1)
     have l2:(bs[j']).live=true:=by cases oC:bs[j']<;>first|rfl|(rw[oC] at r2;cases r2)
     obtain⟨a,e1,e2,e3⟩:=(Zn hG (ak j _ bQ)).2 l1 i hi;obtain⟨a',uZ,jQ,u4⟩:=(Zn hG (ak j' _ b9)).2 l2 i cS;by_cases e:a=a'
     .subst e;exact aK (eI j j' a e1 uZ)
     .exact hG.sep a a' i e e2 jQ e3 u4
    cases hex:exact with
    |true =>obtain⟨hl,cK⟩:=hx hex;have nW:=Q3w (P:=P) hA hle.1 hv cK hb hl (pl:=GF pl mp) (u:=u) (λj b hj=>⟨(aY j b hj).1,λi hi=>((aY j b hj).2 i (Po hi)).2⟩) (λj j' i a b c d e=>eK j j' i a b c (Po d) (Po e)) (iS.retd (λj hj=>rfl) _ _ hv);exact⟨_,_,nW,by simp⟩
    |false =>
     simp only[zr,if_false];by_cases bY:bs=[]
     .subst bY;refine⟨u,σ0,.rename (λi=>i) (z9 _) (λi hi=>⟨rfl,(hA i hi).symm,.inl (hA i hi)⟩) (λi k1 k2=>by omega) (λ_ _ _ _ _ _ h=>h) (Q11 v u hv iS),?_⟩;exact⟨⟨Heap.Le.refl _,Dead.refl _⟩,λ_=>rfl,Yv,(λj b hj=>by simp at hj),(λj j' i hj=>by simp at hj),iS.retd (λj hj=>by simp at hj) _ _ hv⟩
     .exact⟨u,σf,.refl _ _ _,⟨hle,hd⟩,λe=>absurd e bY,GF pl mp,aY,eK,iS.retd (λj hj=>rfl) _ _ hv⟩
   .exact h.elim
  .exact h.elim
 cases e with
 |normal=>exact main h
 |ret=>exact main h
 |_=>exact h.elim
def Qq (nt:Nat) (args:List SV):St:=⟨args++List.replicate (nt-args.length) .any,[],0⟩
theorem Q3s {args:List SV}{vs:List Value}(h:SRs P U Yv Wp args vs) (nt:Nat):GRel P U U U (Qq nt args) (vs++List.replicate (nt-vs.length) undef) U:=by
 have u5:∀ n,SRs P U Yv Wp (List.replicate n .any) (List.replicate n undef):=by
  intro n;induction n with
  |zero=>simp[SRs]
  |succ n ih=>simp only[xx,SRs];exact⟨_,_,rfl,by simp[SR],ih⟩
 refine⟨U,U,Yv,Wp,⟨Heap.Le.refl _,Heap.Le.refl _,(by simp_all),Dead.refl _⟩,Heap.Le.refl _,Heap.Le.refl _,?_,λd=>trivial,(λd i hl=>by cases hl),(λd d' i _ hl=>by cases hl),λ_ _=>rfl⟩;have:=h.length;simp only[Qq,this];exact h.append (u5 _)
theorem Fun.okC {f:Nat}{vc:VCode}{rs:List VResult}{nt:Nat}(h:Fun P f vc rs nt) (hm:P.follows .mixedOrders=true) {sp:CSp}
  (hb:∀ ap,Z2g P ap->∀ args c v bs,sp ap args=some (c,v,bs)->c->∃ (C:Cx) (L:List (Nat×LoopAnn)) (ck:List SV),(∀ U vs,SRs P U Yv Wp args vs->SRs P U Yv Wp ck vs)/\COk P C/\gwp C L vc 0 (Y4 rs v bs) (Qq nt ck)):OkC P f sp:=by
 intro ap dX U args vs c v bs aA eX hv bY hc;obtain⟨C,L,ck,h1,h2,h3⟩:=hb ap dX args c v bs eX hc;have main:∀ exact:Bool,(exact=true->bs.all OB.isL=true/\UM v=true)->VCalled P f vs U λu U'=>if exact then u=UC (MA U bs) v/\U'=SU U bs else Ret P U v bs u U':=λexact hx=>by refine h.calls hm LU ?_;exact BU h2 vc 0 _ _ _ U none _ trivial (Q3s (h1 U vs aA) nt) h3 λe s' ah U' k1 k2=>Q3x exact k2 hv bY k1 hx
 simp_all
theorem OkC.true {f:Nat}{sp:CSp}(h:OkC P f sp) (he:Y9 P f) {U:Heap}{args:List SV}{vs:List Value}(ha:SRs P U Yv Wp args vs) {c:Prop}(hs:sp (λ_ _=>none) args=some (c,.val .bo true,[])) (hc:c) :
  VCallsTo P f vs U λv _=>v=.bool true:=by
 have:=(h (λ_ _=>none) (λ_ _ _ _ _ _ _ _ _ h=>by cases h) U args vs c _ [] ha hs rfl rfl hc).1;intro ρ w ax hH hL;rcases this ρ w ax hH hL with⟨_,h2⟩|⟨c',_,h2⟩
 .refine h2.mono λe w' ⟨c',h3,h4⟩=>⟨c',h3,h4.mono λu U' hr=>?_⟩;have:=(hr.flat rfl).2;simpa only [SR,KC,List.cons.injEq,and_true] using this
 .have:=h2 w (Like.refl ρ w)
  grind [G0]
end
end Go.V
namespace Go.V
open Go
mutual
inductive AP:Type->Type 1 where
 |k (k:Kind):AP k.T
 |agg {D:Type}(l:AL D):AP D
 |ptr {D:Type}(l:AL D):AP D
 |fnx {D:Type}(g:Nat) (l:AL D):AP D
 |fn (ks:List Kind) (r:Kind):AP ((AT ks->Prop)×(AT ks->r.T))
 |nilS:AP Unit
 |any:AP Unit
 |int (k:IntKind) (n:Int):AP Unit
inductive AL:Type->Type 1 where
 |nil:AL Unit
 |one {D:Type}(a:AP D):AL D
 |cons {D E:Type}(a:AP D) (r:AL E):AL (D×E)
end
def FC:(ks:List Kind)->AT ks->List SV
 |[],_=>[]
 |[k],x=>[Q7j k x]
 |k::k'::ks,x=>Q7j k x.1::FC (k'::ks) x.2
abbrev Ap:=SV->List SV->Option (Prop×SV)
def Q7z (ap:Ap) (f:SV) (ks:List Kind) (r:Kind) (x:AT ks):Prop:=match ap f (FC ks x) with
 |some (c,v)=>(match gap.asV r v with|some _=>c|none=>False)
 |none=>False
def fnP (ap:Ap) (f:SV) (ks:List Kind) (r:Kind) (x:AT ks):r.T:=match ap f (FC ks x) with
 |some (_,v)=>(match gap.asV r v with|some y=>y|none=>r.dflt)
 |none=>r.dflt
mutual
def AP.dec (ap:Ap):{D:Type}->(p:AP D)->SV->Option D
 |_,.k k,v=>match k with
  |.list k=>view [] k v
  |.i ik=>Rk (.i ik) [v]
  |.bo=>Rk .bo [v]
  |.st=>Rk .st [v]
  |.pair _ _=>none
 |_,.agg l,v=>match v with|.agg vs=>AL.dec ap l vs|_=>none
 |_,.nilS,v=>match v with|.nilS=>some ()|_=>none
 |_,.any,_=>some ()
 |_,.int k n,v=>match Rk (.i k) [v] with|some x=>if (show Int from x)=n then some () else none|none=>none
 |_,.ptr l,v=>match v with|.cp vs 0=>AL.dec ap l vs|_=>none
 |_,.fnx g l,v=>match v with|.fn g' [] vs=>if g'=g then AL.dec ap l vs else none|_=>none
 |_,.fn ks r,v=>match v with
  |.fn g a b=>some (Q7z ap (.fn g a b) ks r,fnP ap (.fn g a b) ks r)
  |.pf r_ r' cD p=>some (Q7z ap (.pf r_ r' cD p) ks r,fnP ap (.pf r_ r' cD p) ks r)
  |_=>none
def AL.dec (ap:Ap):{D:Type}->(l:AL D)->List SV->Option D
 |_,.nil,vs=>match vs with|[]=>some ()|_=>none
 |_,.one a,vs=>match vs with|[v]=>AP.dec ap a v|_=>none
 |_,.cons a r,vs=>match vs with
  |v::vs=>(match AP.dec ap a v,AL.dec ap r vs with|some x,some y=>some (x,y)|_,_=>none)
  |[]=>none
end
mutual
def AP.can:{D:Type}->(p:AP D)->D->SV
 |_,.k k,x=>.val k x
 |_,.agg l,x=>.agg (AL.can l x)
 |_,.nilS,_=>.nilS
 |_,.any,_=>.any
 |_,.int k n,_=>.val (.i k) n
 |_,.ptr l,x=>.cp (AL.can l x) 0
 |_,.fnx g l,x=>.fn g [] (AL.can l x)
 |_,.fn ks r,x=>.pf ks r x.1 x.2
def AL.can:{D:Type}->(l:AL D)->D->List SV
 |_,.nil,_=>[]
 |_,.one a,x=>[AP.can a x]
 |_,.cons a r,x=>AP.can a x.1::AL.can r x.2
end
def Wt {D:Type}(l:AL D) (pre:D->Prop) (res:D->SV) (obs:D->List OB):CSp:=λap args=>match AL.dec ap l args with
 |some d=>some (pre d,res d,obs d)
 |none=>none
section
variable {P:Program}{U:Heap}
theorem Bm:∀ {ks:List Kind}{x:AT ks}{vs:List Value},AH U ks x vs->SRs P U Yv Wp (FC ks x) vs
 |[],x,vs,h=>by simp only[AH] at h;subst h;simp[FC,SRs]
 |[k],x,vs,h=>by obtain⟨v,rfl,h1⟩:=h;simp only[FC,SRs];grind [Yy]
 |k::k'::ks,x,vs,h=>by obtain⟨v,cE,rfl,h1,h2⟩:=h;simp only[FC,SRs];exact⟨v,cE,rfl,Yy h1,Bm h2⟩
theorem Q18 {ap:Ap}(dX:Z2g P ap) {f:SV}{v:Value}(hf:SR P U Yv Wp f v) (hv:∃ g a b,v=.func (.func g) a b) (ks:List Kind) (r:Kind):SR P U Yv Wp (.pf ks r (Q7z ap f ks r) (fnP ap f ks r)) v:=by
 obtain⟨g,a,b,rfl⟩:=hv;simp only[SR];refine⟨g,a,b,rfl,λx hd Z vs hle cn=>?_⟩;unfold Q7z at hd;split at hd
 .rename_i c u nX;split at hd
  .rename_i y hy;obtain⟨h1,g',a',b',h2,h3⟩:=dX Z f (FC ks x) c u (.func (.func g) a b) vs (SR.mono hle (λ_ _ h=>h) _ _ hf) (Bm cn) nX hd;obtain⟨rfl,rfl,rfl⟩:=(by simpa using h2:g=g'/\a=a'/\b=b');have hp:fnP ap f ks r x=y:=by simp[fnP,nX,hy]
   rw[hp];exact h3.mono λu' U' hu=>⟨hu.1,(Sb hy hu.2).vcall (Q17 _)⟩
  .exact hd.elim
 .exact hd.elim
mutual
theorem AP.q0l {ap:Ap}(dX:Z2g P ap):∀ {D:Type}(p:AP D) {v:SV}{x:D}{u:Value},AP.dec ap p v=some x->SR P U Yv Wp v u->SR P U Yv Wp (AP.can p x) u
 |_,.k k,v,x,u,h,hs=>by
  have one:SRs P U Yv Wp [v] [u]:=by simp only[SRs];exact⟨u,[],rfl,hs,rfl⟩
  simp only[AP.can,SR];cases k with
  |list k =>have:=N8 (own:=[]) (Heap.Le.refl U) (λd=>(trivial:OR P U Yv Wp U (Yv d) .dead)) (show view [] k v=some x from h) hs;exact⟨u,rfl,this⟩
  |i ik=>exact QR (k:=.i ik) h one
  |bo=>exact QR (k:=.bo) h one
  |st=>exact QR (k:=.st) h one
  |pair a b=>cases h
 |_,.agg l,v,x,u,h,hs=>by
  simp only[AP.dec] at h;split at h
  .simp only[SR] at hs;obtain⟨cs,rfl,hs⟩:=hs;simp only[AP.can,SR];exact⟨cs,rfl,AL.q0l dX l h hs⟩
  .cases h
 |_,.any,v,x,u,h,hs=>by simp only[AP.can,SR]
 |_,.int k n,v,x,u,h,hs=>by
  have one:SRs P U Yv Wp [v] [u]:=by simp only[SRs];exact⟨u,[],rfl,hs,rfl⟩
  simp only[AP.dec] at h;split at h
  .rename_i y hy;split at h
   .rename_i e;subst e;simp only[AP.can,SR];exact QR (k:=.i k) hy one
   .cases h
  .cases h
 |_,.nilS,v,x,u,h,hs=>by
  simp only[AP.dec] at h;split at h
  .simp only[AP.can];exact hs
  .cases h
 |_,.ptr l,v,x,u,h,hs=>by
  simp only[AP.dec] at h;split at h
  .simp only[SR] at hs;obtain⟨b,c,e,wr,t,h1,rfl,h3⟩:=hs;simp only[AP.can,SR];exact⟨b,c,e,wr,t,h1,rfl,AL.q0l dX l h h3⟩
  .cases h
 |_,.fnx g l,v,x,u,h,hs=>by
  simp only[AP.dec] at h;split at h
  .split at h
   .rename_i e;subst e;simp only[SR] at hs;obtain⟨a,b,rfl,h1,h2⟩:=hs;simp only[AP.can,SR];exact⟨a,b,rfl,h1,AL.q0l dX l h h2⟩
   .cases h
  .cases h
 |_,.fn ks r,v,x,u,h,hs=>by
  simp only[AP.dec] at h;split at h
  .obtain rfl:=osj h;exact Q18 dX hs (by simp only[SR] at hs;grind) ks r
  .obtain rfl:=osj h;exact Q18 dX hs (by simp only[SR] at hs;obtain⟨g,x,y,rfl,_⟩:=hs;exact⟨_,_,_,rfl⟩) ks r
  .cases h
theorem AL.q0l {ap:Ap}(dX:Z2g P ap):∀ {D:Type}(l:AL D) {vs:List SV}{x:D}{us:List Value},AL.dec ap l vs=some x->SRs P U Yv Wp vs us->SRs P U Yv Wp (AL.can l x) us
 |_,.nil,vs,x,us,h,hs=>by
  simp only[AL.dec] at h;split at h
  .exact hs
  .cases h
 |_,.one a,vs,x,us,h,hs=>by
  simp only[AL.dec] at h;split at h
  .obtain⟨u,rfl,h1⟩:=hs.one;simp only[AL.can,SRs];exact⟨u,[],rfl,AP.q0l dX a h h1,rfl⟩
  .cases h
 |_,.cons a r,vs,x,us,h,hs=>by
  simp only[AL.dec] at h;split at h
  .rename_i v cE;split at h
   .rename_i y z h1 h2;obtain rfl:=osj h;simp only[SRs] at hs;obtain⟨u,lX,rfl,h3,h4⟩:=hs;simp only[AL.can,SRs];exact⟨u,lX,rfl,AP.q0l dX a h1 h3,AL.q0l dX r h2 h4⟩
   .cases h
  .cases h
end
theorem CsOk.nil:CsOk P []:=λf sp h=>by cases h
theorem CsOk.cons {f:Nat}{sp:CSp}{cs:List (Nat×CSp)}(h:OkC P f sp) (t:CsOk P cs):CsOk P ((f,sp)::cs):=λg u6 hg=>by
 simp only[QQ] at hg;cases hb:Nat.beq f g with
 |true=>rw[hb] at hg;obtain rfl:=zK hb;obtain rfl:=osj hg;exact h
 |false=>rw[hb] at hg;exact t g u6 hg
theorem Z3o {f:Nat}{vc:VCode}{rs:List VResult}{nt:Nat}(h:Fun P f vc rs nt) (hm:P.follows .mixedOrders=true) {D:Type}{l:AL D}{pre:D->Prop}{res:D->SV}{obs:D->List OB}
  {C:Cx}(aC:COk P C) (L:D->List (Nat×LoopAnn)) (hb:∀ d,pre d->gwp C (L d) vc 0 (Y4 rs (res d) (obs d)) (Qq nt (AL.can l d))):OkC P f (Wt l pre res obs):=by
 refine h.okC hm λap dX args c v bs hs hc=>?_;unfold Wt at hs
 grind [AL.q0l]
theorem Qu {f:Nat}{vc:VCode}{rs:List VResult}{nt:Nat}(h:Fun P f vc rs nt) (hm:P.follows .mixedOrders=true) {D:Type}{l:AL D}{pre:D->Prop}{res:D->SV}{obs:D->List OB}
  {C:Cx}(aC:COk P C) {L:D->List (Nat×LoopAnn)}{V:D->Prop}(hq:∀ d,gwp C (L d) vc 0 (Y4 rs (res d) (obs d)) (Qq nt (AL.can l d))=V d) (hb:∀ d,pre d->V d):OkC P f (Wt l pre res obs) :=
 Z3o h hm aC L λd hp=>(hq d).mpr (hb d hp)
end
end Go.V
namespace Go.V
open Go
def Z92 (key:Nat) (vals:List Value) (rs:List VResult) (K:SV->St->Prop):Exit->St->Prop:=λe s =>
 let fin:=match M3 s rs,Qb s.own key with
  |some r,.stk l vs=>vs=vals/\K r ⟨l,s.own,s.nx⟩
  |_,_=>False
 match e with
 |.normal=>fin
 |.ret=>fin
 |_=>False
def Z1i:XSp:=λ_ args s K=>match args with
 |[v]=>K v s
 |_=>False
def FJ (C:Cx) (L:List Value->List (Nat×LoopAnn)) (vc:VCode) (rs:List VResult) (nt:Nat):XSp:=λd args s K =>
 ∀ vals,gwp {C with off:=100000*(d+1)} (L vals) vc 0 (Z92 (100000*(d+1)-1) vals rs K) ⟨SVs.kill (100000*(d+1)-1) args++List.replicate (nt-args.length) .any,(Ov (100000*(d+1)-1) vals s).own,s.nx⟩
def Z7w (C:Cx) (L:List (Nat×LoopAnn)) (vc:VCode) (nt:Nat):Z2v:=λo args y s K =>
 gwp {C with off:=100000*(o+1),yl:=[y]} L vc 0 (λe s'=>match e with|.normal=>K s'|.ret=>K s'|_=>False) ⟨args++List.replicate (nt-args.length) .any,s.own,s.nx⟩
section
variable {P:Program}
theorem Fg {B:Heap}{pl:Nat->Value}{tb:Nat->Option Bool}:∀ n,SRs P B pl tb (List.replicate n .any) (List.replicate n undef)
 |0=>by simp[SRs]
 |n+1=>by simp only[xx,SRs];exact⟨_,_,rfl,by simp[SR],Fg n⟩
theorem Q25 {f:Nat}(h:∀ (v:Value) (U:Heap) (K:Value->Heap->Prop),K v U->VCalled P f [v] U K):XOk P f Z1i:=by
 intro B F pl tb s env U d args vs K R hG ha hx hK
 match args,ha,hx with
 |[v],ha,hx =>simp only[SRs] at ha;obtain⟨u,_,rfl,h1,rfl⟩:=ha;exact h u U R (hK v s B F pl tb u U hx (.of hG.bf (.refl _)) hG h1)
 |[],_,hx=>exact hx.elim
 |_::_::_,_,hx=>exact hx.elim
theorem WN {f:Nat}{vc:VCode}{rs:List VResult}{nt:Nat}(h:Fun P f vc rs nt) (hm:P.follows .mixedOrders=true) {C:Cx}(aC:COk P C) (L:List Value->List (Nat×LoopAnn)):XOk P f (FJ C L vc rs nt):=by
 intro B F pl tb s env U d args vs K R hG ha hx hK;have hx:=hx env;refine h.calls hm LU ?_;have q3:Gam P B F (XT pl (100000*(d+1)-1) poison) tb (Ov (100000*(d+1)-1) env s) env U:=by refine hG.make _ _ poison hG.le (λ_ _ _ _ _=>rfl) ?_ (λi hl _=>by cases hl);exact SRs.upd (.refl _) (λ_ _ h=>h) (λj hj=>by simp[XT,hj]) _ _ hG.env
 have ly:COk P {C with off:=100000*(d+1)}:=⟨aC.cs,aC.xs,aC.it,aC.yl,aC.iy,aC.xf⟩;have aA:=SRs.upd (P:=P) (Heap.Le.refl B) (λ_ _ h=>h) (pl':=XT pl (100000*(d+1)-1) poison) (tb':=tb) (o:=100000*(d+1)-1) (λj hj=>by simp[XT,hj]) _ _ ha;have bu:GRel P B F U ⟨SVs.kill (100000*(d+1)-1) args++List.replicate (nt-args.length) .any,(Ov (100000*(d+1)-1) env s).own,s.nx⟩ (vs++List.replicate (nt-vs.length) undef) U:=by refine⟨B,F,_,tb,.of hG.bf (.refl _),⟨q3.bf,q3.le,?_,q3.obj,q3.fresh,q3.sep,q3.free⟩⟩;rw[ha.length];exact aA.append (Fg _)
 refine BU ly vc 0 _ _ _ U none _ trivial bu hx λe s' ah U' h1 h2=>?_
 .have main:(match M3 s' rs,Qb s'.own (100000*(d+1)-1) with
   |some r,.stk l vs=>vs=env/\K r ⟨l,s'.own,s'.nx⟩
   |_,_=>False)->Zt (Wq ah U' rs) λv=>∃ v' aL,DropTo U v U' v' aL/\R v' aL:=λh=>by
   obtain⟨B',F',pl',tb',k1,k2⟩:=h2;split at h
   .rename_i r l cE hr iH;obtain⟨rfl,h⟩:=h;obtain⟨u,h3,h4⟩:=UD k2 hr;rw[h3];have ak:=k2.obj (100000*(d+1)-1);rw[iH] at ak;exact⟨u,U',.refl _ _ _,hK r _ B' F' pl' tb' u U' h k1 ⟨k2.bf,k2.le,ak,k2.obj,k2.fresh,k2.sep,k2.free⟩ h4⟩
   .exact h.elim
  cases e with
  |normal=>exact main h1
  |ret=>exact main h1
  |_=>exact h1.elim
theorem Q0m {f:Nat}{vc:VCode}{nt:Nat}(h:Fun P f vc [] nt) (hm:P.follows .mixedOrders=true) {C:Cx}(aC:COk P C) (L:List (Nat×LoopAnn)):Z30 P f (Z7w C L vc nt):=by
 refine⟨h.enterable,λB F pl tb s env U o args vs y K R hG ha hy hx hK=>h.callsTo hm LU ?_⟩;have ly:COk P {C with off:=100000*(o+1),yl:=[(o,y)]}:=⟨aC.cs,aC.xs,aC.it,λo' y' h'=>by
  simp only[QQ] at h'
  grind [Nat.eq_of_beq_eq_true,osj],aC.iy,aC.xf⟩
 have bu:GRel P B F U ⟨args++List.replicate (nt-args.length) .any,s.own,s.nx⟩ (vs++List.replicate (nt-vs.length) undef) U:=by refine⟨B,F,pl,tb,.of hG.bf (Dead.refl _),⟨hG.bf,hG.le,?_,hG.obj,hG.fresh,hG.sep,hG.free⟩⟩;rw[ha.length];exact ha.append (Fg _)
 refine BU ly vc 0 _ _ _ U none _ trivial bu hx λe s' ah U' h1 h2=>?_;have main:K s'->Zt (Wq ah U' []) λv=>∃ v' aL,DropTo U v U' v' aL/\R aL:=λh=>by obtain⟨B',F',pl',tb',k1,k2⟩:=h2;exact⟨_,U',.refl _ _ _,hK s' B' F' pl' tb' ah U' h k1 k2⟩
 cases e with
 |normal=>exact main h1
 |ret=>exact main h1
 |_=>exact h1.elim
end
end Go.V
namespace Go.V
open Go
def Z9d:SV->Option Nat
 |.lst o=>some o
 |.box o off=>bif Nat.beq off 0 then some o else none
 |_=>none
def lsv:OB->SV
 |.lst _ _ _ _=>.lst 0
 |_=>.box 0 0
def Z7p:SV->OB->Bool
 |.lst _,.lst _ _ _ _=>true
 |.box _ _,.cells _ _=>true
 |_,_=>false
abbrev LSp:=Ap->OB->List SV->Option (Prop×SV×OB)
def Q3e (ap:Ap) (sp:LSp):XSp:=λ_ args s K =>
 match args with
 |a::args=>(match Z9d a with
  |some o=>bif (Qb s.own o).ret&&Z7p a (Qb s.own o) then (match sp ap (Qb s.own o) (CV (oset s.own o .dead) args) with
    |some (c,v,b)=>bif v.ret 0&&b.ret then c/\K v ⟨s.env,oset s.own o b,s.nx⟩ else False
    |none=>False) else False
  |none=>False)
 |[]=>False
def MX (nt:Nat) (a0:SV) (b:OB) (vals:List Value) (args:List SV):St:=⟨a0::(args++List.replicate (nt-(args.length+1)) .any),[(0,b),(4000000,.stk [a0] vals)],0⟩
def Q78 (vals:List Value) (rs:List VResult) (v:SV) (b:OB) (a0:SV):Exit->St->Prop:=λe s =>
 let fin:=match M3 s rs,Qb s.own 4000000 with
  |some r,.stk l vs=>vs=vals/\Dh [(0,some 0)] [a0] l/\RH [] v r/\Q5u s [(0,some 0)] 0 b
  |_,_=>False
 match e with
 |.normal=>fin
 |.ret=>fin
 |_=>False
section
variable {P:Program}
theorem Heap.Le.kill' {B U:Heap}(h:B.Le U) {i:Nat}(hi:B.get i=none):B.Le (U.kill i):=⟨h.1,λj b hb=>by
 have:j≠i:=by rintro rfl;rw[hi] at hb;cases hb
 rw[Heap.q0c _ this];exact h.2 _ _ hb⟩
theorem Heap.q2e (U:Heap) (i:Nat):(U.kill i).Le U:=⟨z9 _,(by grind [Heap.q0g,Heap.q0c])⟩
def Ed (U:Heap) (p:Value):Heap:=match oid p with|some i=>U.kill i|none=>U
theorem Q9j (U:Heap) (p:Value):(Ed U p).Le U:=by
 unfold Ed;split
 .exact Heap.q2e _ _
 .exact .refl _
theorem Q27 {B U:Heap}{p:Value}(h:B.Le U) (hi:∀ i,oid p=some i->B.get i=none):B.Le (Ed U p):=by
 unfold Ed;split
 .rename_i i e;exact h.kill' (hi i e)
 .exact h
theorem Q49 {U:Heap}{p:Value}{i:Nat}(h:oid p=some i):(Ed U p).get i=none:=by unfold Ed;rw[h];exact Heap.q0g _ _
theorem FL {U:Heap}{p:Value}{i:Nat}(h:oid p≠some i):(Ed U p).get i=U.get i:=by unfold Ed;grind [Heap.q0c]
theorem Z1h {p:Value}{i:Nat}(hp:∀ l,p≠.tuple l) (h:Oid p i):oid p=some i:=by cases p<;>first|exact h|exact absurd rfl (hp _)
theorem OB.q1x {b:OB}(h:b.ret=true):b.live=true:=by cases b<;>first|rfl|cases h
theorem Q8h {o:Nat}{b:OB}(h:Z7p (.lst o) b=true):lsv b=.lst 0:=by cases b<;>first|rfl|cases h
theorem Q96 {o off:Nat}{b:OB}(h:Z7p (.box o off) b=true):lsv b=.box 0 0:=by cases b<;>first|rfl|cases h
theorem Q8r {f:Nat}{vc:VCode}{rs:List VResult}{nt:Nat}(h:Fun P f vc rs nt) (hm:P.follows .mixedOrders=true) {sp:LSp}{ap:Ap}
  (hb:∀ b args c v b',sp ap b args=some (c,v,b')->c->∃ (C:Cx) (L:List Value->List (Nat×LoopAnn)) (ck:List SV),SVs.pure ck=true/\(∀ U vs,SRs P U Yv Wp args vs->SRs P U Yv Wp ck vs)/\COk P C/\∀ vals,gwp C (L vals) vc 0 (Q78 vals rs v b' (lsv b)) (MX nt (lsv b) b vals ck)):XOk P f (Q3e ap sp):=by
 intro B F pl tb s env U d args vs K R hG ha hx hK;unfold Q3e at hx;split at hx
 .rename_i a args;split at hx
  .rename_i o aZ;cases la:((Qb s.own o).ret&&Z7p a (Qb s.own o)) with
   |false=>rw[la] at hx;exact hx.elim
   |true =>
   rw[la] at hx;simp only[zh] at hx;simp only[z0] at la;obtain⟨l4,dz⟩:=la;split at hx
   .rename_i c v b' eX;cases dC:(v.ret 0&&b'.ret) with
    |false=>rw[dC] at hx;exact hx.elim
    |true =>
    rw[dC] at hx;obtain⟨hc,hx⟩:=hx;simp only[z0] at dC;simp only[SRs] at ha;obtain⟨u,us,rfl,l_,eD⟩:=ha;have aw:=OB.q1x l4;have ak:=hG.obj o;have bt:∀ i,oid (pl o)=some i->F.get i=none:=λi hi=>hG.fresh o i aw (Po hi);have qE:∀ i,oid (pl o)=some i->B.get i=none:=λi hi=>by
     cases hg:B.get i with
     |none=>rfl
     |some b=>have:=hG.bf.2 _ _ hg;rw[bt i hi] at this;cases this
    have eA:∀ l,pl o≠.tuple l:=λl he=>by
     unfold Z9d at aZ;split at aZ
     .obtain rfl:=osj aZ;simp only[SR] at l_
      grind
     .rename_i o' off;cases a_:Nat.beq off 0 with
      |false=>rw[a_] at aZ;cases aZ
      |true =>rw[a_] at aZ;obtain rfl:=osj aZ;simp only[SR] at l_;obtain⟨_,h,_⟩:=l_;rw[he] at h;cases h
     .cases aZ
    have lz:∀ (B:Heap) (pl':Nat->Value) (tb':Nat->Option Bool),(SR P B pl' tb' (lsv (Qb s.own o)) u<->pl' 0=pl o):=λB pl' tb'=>by
     unfold Z9d at aZ;split at aZ
     .obtain rfl:=osj aZ;simp only[SR] at l_;rw[Q8h dz];simp only[SR]
      grind
     .rename_i o' off;cases a_:Nat.beq off 0 with
      |false=>rw[a_] at aZ;cases aZ
      |true =>
       rw[a_] at aZ;obtain rfl:=osj aZ;obtain rfl:=zK a_;simp only[SR] at l_;rw[Q96 dz];simp only[SR];obtain⟨i,h1,rfl⟩:=l_;rw[h1];constructor
       .simp_all
       .intro h2;exact⟨i,h2,rfl⟩
     .cases aZ
    obtain⟨C,L,ck,sd,qF,aC,hg⟩:=hb _ _ c v b' eX hc;have hg:=hg [u];let σc:=Ed U (pl o);have u7:B.Le σc:=Q27 hG.leB qE;have u9:F.Le σc:=Q27 hG.le bt;have aA:SRs P σc Yv Wp ck us:=by
     refine qF σc us (U_ (own:=oset s.own o .dead) u7 (pl:=pl) (tb:=tb) (λd=>?_) eD);rw[Qm];by_cases e:d=o
     .rw[z7 e];trivial
     .rw[z6 e];exact(hG.obj d).mono (.refl _) (λ_ _ h=>h) λhl i hi=>FL λmK=>hG.sep d o i e hl aw hi (Po mK)
    let qG:Nat->Value:=λj=>if j=0 then pl o else poison
    have bu:GRel P σc σc U (MX nt (lsv (Qb s.own o)) (Qb s.own o) [u] ck) (u::us++List.replicate (nt-(u::us).length) undef) U:=by
     refine⟨σc,σc,qG,Wp,⟨.refl _,.refl _,λ_ _ _ h=>h,.refl _⟩,.refl _,Q9j _ _,?_,λj=>?_,λj i h1 h2=>?_,λj j' i aK h1 h2 h3 h4=>?_,λ_ _=>rfl⟩
     .simp only[MX,SRs,xI];refine⟨u,_,rfl,(lz _ _ _).2 (by simp[qG]),?_⟩;rw[aA.length,zw]
      grind [SRs.append,Fg,Xl]
     .simp only[MX,Qb];by_cases e0:j=0
      .subst e0;simp only[Nat.beq_refl,zh];exact ak.retd l4 λi _=>rfl
      .rw[W5 (λe=>e0 e.symm),cond_false];by_cases e1:j=4000000
       .subst e1;simp only[Nat.beq_refl,zh];exact⟨u,[],rfl,(lz _ _ _).2 (by simp[qG]),rfl⟩
       .rw[W5 (λe=>e1 e.symm),cond_false];trivial
     .simp only[MX,Qb] at h1;by_cases e0:j=0
      .grind [Q49,Z1h]
      .rw[W5 (λe=>e0 e.symm),cond_false] at h1;by_cases e1:j=4000000
       .subst e1;cases h1
       .rw[W5 (λe=>e1 e.symm),cond_false] at h1;cases h1
     .have z:∀ j,(Qb (MX nt (lsv (Qb s.own o)) (Qb s.own o) [u] ck).own j).live=true->j=0:=λj h1=>by
       simp only[MX,Qb] at h1;by_cases e0:j=0
       .exact e0
       .rw[W5 (λe=>e0 e.symm),cond_false] at h1;by_cases e1:j=4000000
        .subst e1;cases h1
        .rw[W5 (λe=>e1 e.symm),cond_false] at h1;cases h1
      grind
    refine h.calls hm LU ?_;refine BU aC vc 0 _ _ _ U none _ trivial bu hg λe s' ah U' h1 h2=>?_
    have main:(match M3 s' rs,Qb s'.own 4000000 with
     |some r,.stk l vs=>vs=[u]/\Dh [(0,some 0)] [lsv (Qb s.own o)] l/\RH [] v r/\Q5u s' [(0,some 0)] 0 b'
     |_,_=>False)->Zt (Wq ah U' rs) λv=>∃ v' aL,DropTo U v U' v' aL/\R v' aL:=λh=>by
     obtain⟨B',F',pl',tb',k1,k2⟩:=h2;split at h
     .rename_i r l cE hr iH;obtain⟨rfl,m1,m2,m3⟩:=h;obtain⟨w,h3,h4⟩:=UD k2 hr;rw[h3];have j5:=k2.obj 4000000;rw[iH] at j5;have qH:pl' 0=pl o:=by
       have:=JJ [lsv (Qb s.own o)] l [u] m1 j5;simp only[SRs] at this;obtain⟨u',_,dt,h5,_⟩:=this;obtain rfl:u=u':=(zY dt).1;have:=(lz _ _ _).1 h5;simpa [GF,QQ] using this
      have iF:=(Zn k2 m3).1;have lq:GF pl' [(0,some 0)] 0=pl o:=by simpa [GF,QQ] using qH
      rw[lq] at iF;have dW:=(Nv v r w m2 h4).retd (B':=B) (pl':=pl) (tb':=tb) (n:=0) (λj hj=>by omega) _ _ dC.1;have hle:σc.Le U':=k1.f.trans k2.le;refine⟨w,U',.refl _ _ _,hK v _ B F pl tb w U' hx (.of hG.bf k1.d) ⟨hG.bf,u9.trans hle,hG.env,λd=>?_,λd i q1 q2=>?_,λd d' i aK q1 q2 q3 q4=>?_,hG.free⟩ dW⟩
      .simp only[Qm];by_cases e:d=o
       .subst e;rw[z7 rfl];exact iF.retd dC.2 λ_ _=>rfl
       .rw[z6 e];refine (hG.obj d).mono (.refl _) (λ_ _ h=>h) λhl i hi=>?_;have ao:=(hG.obj d).q0y hl hi;cases hg:U.get i with
        |none=>exact k1.d.2 i ao hg
        |some bb=>exact hle.2 _ _ (by rw[FL λmK=>hG.sep d o i e hl aw hi (Po mK)];exact hg)
      .simp only[Qm] at q1;by_cases e:d=o
       .subst e;exact hG.fresh d i aw q2
       .rw[z6 e] at q1;exact hG.fresh d i q1 q2
      .have lv:∀ d,(Qb (oset s.own o b') d).live=true->(Qb s.own d).live=true:=λd h=>by
        rw[Qm] at h
        grind
       exact hG.sep d d' i aK (lv d q1) (lv d' q2) q3 q4
     .exact h.elim
    cases e with
    |normal=>exact main h1
    |ret=>exact main h1
    |_=>exact h1.elim
   .exact hx.elim
  .exact hx.elim
 .exact hx.elim
mutual
theorem AP.q0v:∀ {D:Type}(p:AP D) (x:D),(AP.can p x).pure=true
 |_,.k k,x=>rfl
 |_,.agg l,x=>by simp only[AP.can,SV.pure];exact AL.q0v l x
 |_,.nilS,x=>rfl
 |_,.any,x=>rfl
 |_,.int k n,x=>rfl
 |_,.ptr l,x=>by simp only[AP.can,SV.pure];exact AL.q0v l x
 |_,.fnx g l,x=>by simp only[AP.can,SV.pure,SVs.pure,AL.q0v l x];rfl
 |_,.fn ks r,x=>rfl
theorem AL.q0v:∀ {D:Type}(l:AL D) (x:D),SVs.pure (AL.can l x)=true
 |_,.nil,x=>rfl
 |_,.one a,x=>by simp only[AL.can,SVs.pure,AP.q0v a x];rfl
 |_,.cons a r,x=>by simp only[AL.can,SVs.pure,AP.q0v a x.1,AL.q0v r x.2];rfl
end
def Q75 (ty:Nat) (k:Kind) {D:Type}(l:AL D) (pre:List k.T->Bool->D->Prop) (res:List k.T->Bool->D->SV) (post:List k.T->Bool->D->List k.T):LSp:=λap b args=>match b with
 |.lst fQ _k' xs nl=>if fQ=ty then (match N6 xs k,AL.dec ap l args with
  |some xs,some d=>some (pre xs nl d,res xs nl d,.lst ty k (post xs nl d) nl)
  |_,_=>none) else none
 |_=>none
theorem Eg {f:Nat}{vc:VCode}{rs:List VResult}{nt:Nat}(h:Fun P f vc rs nt) (hm:P.follows .mixedOrders=true) {ap:Ap}(dX:Z2g P ap) {ty:Nat}{k:Kind}{D:Type}{l:AL D}{pre:List k.T->Bool->D->Prop}{res:List k.T->Bool->D->SV}{post:List k.T->Bool->D->List k.T}
  {C:Cx}(aC:COk P C) {L:List k.T->Bool->D->List Value->List (Nat×LoopAnn)}{V:List k.T->Bool->D->Prop}
  (hq:∀ xs nl d,(∀ vals,gwp C (L xs nl d vals) vc 0 (Q78 vals rs (res xs nl d) (.lst ty k (post xs nl d) nl) (.lst 0)) (MX nt (.lst 0) (.lst ty k xs nl) vals (AL.can l d)))=V xs nl d)
  (hb:∀ xs nl d,pre xs nl d->V xs nl d):XOk P f (Q3e ap (Q75 ty k l pre res post)):=by
 refine Q8r h hm λb args c v b' hs hc=>?_;unfold Q75 at hs;split at hs
 .rename_i fQ k' xs nl;split at hs
  .rename_i e;subst e;split at hs
   .rename_i ys d h1 h2;obtain⟨rfl,rfl,rfl⟩:=(by simpa using hs:pre ys nl d=c/\res ys nl d=v/\OB.lst fQ k (post ys nl d) nl=b');unfold N6 at h1;split at h1
    .rename_i e;subst e;obtain rfl:=osj h1;exact⟨C,L xs nl d,AL.can l d,AL.q0v l d,λU vs hv=>AL.q0l dX l h2 hv,aC,(hq xs nl d).mpr (hb xs nl d hc)⟩
    .cases h1
   .cases hs
  .cases hs
 .cases hs
end
end Go.V
namespace Go.V
open Go
abbrev lI {α:Type}(l:List α):Int:=(l.length:Int)
abbrev gD {α:Type}(l:List α) (i:Int) (d:α):α:=l.getD i.toNat d
abbrev sT {α:Type}(l:List α) (i:Int) (x:α):List α:=l.set i.toNat x
abbrev I64 (x:Int):Prop:=InK .i64 x
theorem Qf (x:Int):InK .i64 x<->-9223372036854775808<=x/\x<=9223372036854775807:=by simp[InK,IntKind.min,IntKind.max,IntKind.bits,IntKind.signed]
theorem Q70 (x:Int):InK .u8 x<->0<=x/\x<=255:=by simp[InK,IntKind.min,IntKind.max,IntKind.bits,IntKind.signed]
theorem Z2n (x:Int):InK .u16 x<->0<=x/\x<=65535:=by simp[InK,IntKind.min,IntKind.max,IntKind.bits,IntKind.signed]
theorem Ln (x:Int):InK .u64 x<->0<=x/\x<=18446744073709551615:=by simp[InK,IntKind.min,IntKind.max,IntKind.bits,IntKind.signed]
theorem LoopP.count {F:Int->(Int->Prop)->Prop}(n:Nat) (J:Nat->Prop) (h0:J 0) (hr:∀ k:Nat,k<=n->J k->∀ q:Int->Prop,(k<n->J (k+1)->q ((k:Int)+1))->F k q):LoopP F 0:=by
 refine⟨λd=>∃ k:Nat,d=k/\k<=n/\J k,λd=>n-d.toNat,⟨0,rfl,Nat.zero_le _,h0⟩,λd ⟨k,hd,hk,hJ⟩=>?_⟩
 grind
theorem LoopP.count1 {X:Type}{F:Int×X->(Int×X->Prop)->Prop}(n:Nat) (J:Nat->X->Prop) {x0:X}(h0:J 0 x0) (hr:∀ (k:Nat) (x:X),k<=n->J k x->∀ q:Int×X->Prop,(∀ x',k<n->J (k+1) x'->q ((k:Int)+1,x'))->F ((k:Int),x) q):LoopP F (0,x0):=by
 refine⟨λd=>∃ k:Nat,d.1=k/\k<=n/\J k d.2,λd=>n-d.1.toNat,⟨0,rfl,Nat.zero_le _,h0⟩,λ⟨d,x⟩ ⟨k,hd,hk,hJ⟩=>?_⟩
 grind
theorem LoopP.count2 {X:Type}{F:X×Int->(X×Int->Prop)->Prop}(n:Nat) (J:Nat->X->Prop) {x0:X}(h0:J 0 x0) (hr:∀ (k:Nat) (x:X),k<=n->J k x->∀ q:X×Int->Prop,(∀ x',k<n->J (k+1) x'->q (x',(k:Int)+1))->F (x,(k:Int)) q):LoopP F (x0,0):=by
 refine⟨λd=>∃ k:Nat,d.2=k/\k<=n/\J k d.1,λd=>n-d.2.toNat,⟨0,rfl,Nat.zero_le _,h0⟩,λ⟨x,d⟩ ⟨k,hd,hk,hJ⟩=>?_⟩
 grind
theorem Qc {α:Type}{l:List α}{k:Nat}{d:α}(h:k<l.length):l.getD k d=l[k]:=by simp_all
theorem ZG {α:Type}{l:List α}{k:Nat}(h:k<l.length):l.take (k+1)=l.take k++[l[k]]:=by rw[List.take_succ_eq_append_getElem h]
section
variable {P:Program}
theorem st1 {S:VSpecs}{d:Nat}{op:VOp}{rest:List VOper}{env:Env}{U:Heap}{K:Env->Heap->Prop}{v:Value}(hv:∀ K',vop S op env U K'=Zt (Q7 op (Q5 env) U) λp=>K' p.1 p.2) (h:Q7 op (Q5 env) U=some (v,U)) (hr:SQ S rest (env.set d v) U K):SQ S (⟨some d,op,none⟩::rest) env U K:=by show Zt (some true) _;refine⟨λ_=>?_,λe=>by cases e⟩;rw[hv,h];exact hr
theorem YlOk.nil:∀ o y,QQ ([]:List (Nat×YSp)) o=some y->Q91 P o y:=λo y h=>by cases h
theorem IysOk.nil:∀ f x,QQ ([]:List (Nat×Z2v)) f=some x->Z30 P f x:=λf x h=>by cases h
theorem IysOk.cons {f:Nat}{x:Z2v}{l:List (Nat×Z2v)}(h:Z30 P f x) (t:∀ g y,QQ l g=some y->Z30 P g y):∀ g y,QQ ((f,x)::l) g=some y->Z30 P g y:=λg y hg=>by
 simp only[QQ] at hg
 grind [Nat.eq_of_beq_eq_true,osj]
theorem XsOk.nil:∀ f x,QQ ([]:List (Nat×XSp)) f=some x->XOk P f x:=λf x h=>by cases h
theorem XsOk.cons {f:Nat}{x:XSp}{l:List (Nat×XSp)}(h:XOk P f x) (t:∀ g y,QQ l g=some y->XOk P g y):∀ g y,QQ ((f,x)::l) g=some y->XOk P g y:=λg y hg=>by
 simp only[QQ] at hg
 grind [Nat.eq_of_beq_eq_true,osj]
theorem ItsOk.nil:∀ f x,QQ ([]:List (Nat×ISp)) f=some x->J0z P f x:=λf x h=>by cases h
end
end Go.V
namespace Go.V
open Go
section
variable {P:Program}
theorem XfOk.nil {xs:List (Nat×XSp)}:∀ f j,QQ ([]:List (Nat×Nat)) f=some j->∀ x,QQ xs f=some x->J0i P f x j:=λf j h=>by cases h
end
end Go.V
namespace Go.V
open Go
def rb {A B C D E:Type}(x:A×B×C×D×E):E:=x.2.2.2.2
def rg {A B C D A' B' C' D' E:Type}(x:A×B×C×D×A'×B'×C'×D'×E):E:=x.2.2.2.2.2.2.2.2
def Q1 {A B C D A' B' C' D' A1 B1 C1 D1 A2 B2 C2 D2 E:Type}(x:A×B×C×D×A'×B'×C'×D'×A1×B1×C1×D1×A2×B2×C2×D2×E):E:=x.2.2.2.2.2.2.2.2.2.2.2.2.2.2.2.2
theorem Q40 {x:Nat}(h:x<9223372036854775808):IntKind.wrap .i64 (x:Int)=x:=by
 have e:((x:Int) % (18446744073709551616:Int))=x:=by omega
 have:¬ ((x:Int)>=9223372036854775808):=by omega
 show (if (true&&decide ((x:Int) % (18446744073709551616:Int)>=9223372036854775808))=true then (x:Int) % (18446744073709551616:Int)-18446744073709551616 else (x:Int) % (18446744073709551616:Int))=x;simp only[e,this,decide_false,Bool.and_false,zr,if_false]
theorem Q98 {x y:Nat}(h:x<9223372036854775808):x &&& y<9223372036854775808:=w8 Nat.and_le_left h
theorem I_ (x:Nat):BitVec.ofInt 64 (x:Int)=BitVec.ofNat 64 x:=by apply BitVec.eq_of_toNat_eq;simp
theorem toNat_ofInt {x:Nat}(h:x<9223372036854775808):(BitVec.ofInt 64 (x:Int)).toNat=x:=by rw[I_,BitVec.toNat_ofNat,xO (by omega)]
theorem Fe {x y:Nat}(hx:x<9223372036854775808) (hy:y<9223372036854775808):QB .and .i64 x y=((x &&& y:Nat):Int):=by
 have e:(BitVec.ofInt 64 (x:Int) &&& BitVec.ofInt 64 (y:Int)).toNat=x &&& y:=by rw[BitVec.toNat_and,toNat_ofInt hx,toNat_ofInt hy]
 show IntKind.wrap .i64 ((BitVec.ofInt 64 (x:Int) &&& BitVec.ofInt 64 (y:Int)).toNat:Int)=_;rw[e,Q40 (Q98 hx)]
theorem Z1c {x i:Nat}(hi:i<=64):UH .i64 x i=((x >>> i:Nat):Int):=by have:Nat.min i 64=i:=wq hi;simp only[UH,ze,IntKind.bits,this];rw[zV,Int.fdiv_eq_ediv_of_nonneg _ (Int.le_of_lt (Int.pow_pos (by omega)))];norm_cast
theorem Z2l {x i:Nat}(hx:x<9223372036854775808) (hi:i<=64):(QB .and .i64 (UH .i64 x i) 1==1)=x.testBit i:=by have h1:x >>> i<9223372036854775808:=w8 (by rw[zV];exact Nat.div_le_self _ _) hx;rw[Z1c hi,show (1:Int)=((1:Nat):Int) from rfl,Fe h1 (by omega),Nat.testBit];rw[Bool.eq_iff_iff];simp only[zU,bne_iff_ne,ne_eq];rw[Nat.and_comm,Nat.one_and_eq_mod_two];omega
def CSp.or (a b:CSp):CSp:=λap args=>match a ap args with
 |some r=>some r
 |none=>b ap args
theorem OkC.or {P:Program}{f:Nat}{a b:CSp}(ha:OkC P f a) (hb:OkC P f b):OkC P f (a.or b):=by
 intro ap dX U args vs c v bs hs h;unfold CSp.or at h;split at h
 .rename_i r hr;exact ha ap dX U args vs c v bs hs (hr.trans h)
 .exact hb ap dX U args vs c v bs hs h
end Go.V