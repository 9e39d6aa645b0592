
import Derived.Test.YtdpcdbeklccfnaaGreatDoorE3
namespace Go.V
open Go
section
variable {P:Program}
theorem EJ {tb:Nat->Option Bool}{v:SV}{o:Nat}(h:gtb tb v):gtb tb (v.stale o):=by
 cases v
 case bid n c=>exact h
 case dd o' w =>
  simp only[SV.stale];cases Nat.beq o' o with
  |false=>trivial
  |true=>cases w<;>trivial
 all_goals (simp only[SV.stale];first|trivial|(cases Nat.beq _ _<;>trivial))
mutual
theorem SR.stale {B:Heap}{pl pl':Nat->Value}{tb:Nat->Option Bool}{o:Nat}(hp:∀ d,d≠o->pl' d=pl d) (h1:phd (pl' o)=phd (pl o)) :
  ∀ (s:SV) (v:Value),SR P B pl tb s v->SR P B pl' tb (s.stale o) v
 |.any,_,_=>trivial
 |.val k x,v,h=>by simp only[SV.stale,SR] at h |-;exact h
 |.bid n c,v,h=>by simp only[SV.stale,SR] at h |-;exact h
 |.grd gs s,v,h=>by simp only[SV.stale,SR] at h |-;exact⟨⟨h.1.1,EJ h.1.2⟩,λhg=>SR.stale hp h1 s v (h.2.1 hg),h.2.2⟩
 |.nilS,v,h=>h
 |.nilP,v,h=>h
 |.nilM,v,h=>h
 |.nilF,v,h=>h
 |.lst o',v,h=>by
  by_cases e:o'=o
  .subst e;simp[SV.stale,SR]
  .simp only[SV.stale,Z2 e,cond_false];simp only[SR] at h |-;rw[hp _ e];exact h
 |.sub o' lo n sz,v,h=>by
  by_cases e:o'=o
  .subst e;simp[SV.stale,SR]
  .simp only[SV.stale,Z2 e,cond_false];simp only[SR] at h |-;rw[hp _ e];exact h
 |.elp o' i off sz,v,h=>by
  by_cases e:o'=o
  .subst e;simp[SV.stale,SR]
  .simp only[SV.stale,Z2 e,cond_false];simp only[SR] at h |-;rw[hp _ e];exact h
 |.box o' off,v,h=>by
  by_cases e:o'=o
  .subst e;simp[SV.stale,SR]
  .simp only[SV.stale,Z2 e,cond_false];simp only[SR] at h |-;rw[hp _ e];exact h
 |.map o',v,h=>by
  by_cases e:o'=o
  .subst e;simp[SV.stale,SR]
  .simp only[SV.stale,Z2 e,cond_false];simp only[SR] at h |-;rw[hp _ e];exact h
 |.dd o' w,v,h=>by
  by_cases e:o'=o
  .subst e;simp only[SV.stale,Nat.beq_refl,zh];cases w with
   |out=>simp only[SR,DR] at h |-;rw[h1];exact h
   |el i off sz=>simp only[SR,DR] at h |-;rw[h1];exact h
   |row _ _ _=>trivial
   |rowp _ _ _ _ _=>trivial
   |inn _ _=>trivial
   |inp _ _ _ _=>trivial
   |dat=>trivial
   |obx _=>trivial
   |yv=>trivial
  .simp only[SV.stale,Z2 e,cond_false];simp only[SR] at h |-;rw[hp _ e];exact h
 |.rop k l i off,v,h=>by simp only[SV.stale,SR] at h |-;exact h
 |.cp l off,v,h=>by simp only[SV.stale,SR] at h |-;obtain⟨b,c,e,wr,t,k1,k2,k3⟩:=h;exact⟨b,c,e,wr,t,k1,k2,SRs.stale hp h1 l c k3⟩
 |.agg l,v,h=>by simp only[SV.stale,SR] at h |-;obtain⟨cs,k1,k2⟩:=h;exact⟨cs,k1,SRs.stale hp h1 l cs k2⟩
 |.tup l,v,h=>by simp only[SV.stale,SR] at h |-;obtain⟨cs,k1,k2⟩:=h;exact⟨cs,k1,SRs.stale hp h1 l cs k2⟩
 |.fn f a b,v,h=>by simp only[SV.stale,SR] at h |-;obtain⟨x,y,k1,k2,k3⟩:=h;exact⟨x,y,k1,SRs.stale hp h1 a x k2,SRs.stale hp h1 b y k3⟩
 |.pf ks r cu p,v,h=>by simp only[SV.stale,SR] at h |-;exact h
theorem SRs.stale {B:Heap}{pl pl':Nat->Value}{tb:Nat->Option Bool}{o:Nat}(hp:∀ d,d≠o->pl' d=pl d) (h1:phd (pl' o)=phd (pl o)) :
  ∀ (s:List SV) (v:List Value),SRs P B pl tb s v->SRs P B pl' tb (SVs.stale o s) v
 |[],v,h=>h
 |s::ss,v,h=>by simp only[SVs.stale,SRs] at h |-;obtain⟨x,y,k1,k2,k3⟩:=h;exact⟨x,y,k1,SR.stale hp h1 s x k2,SRs.stale hp h1 ss y k3⟩
end
theorem OB.q0n (b:OB) (o:Nat):(b.stale o).live=b.live:=by cases b<;>rfl
theorem OR.stale {B:Heap}{pl pl':Nat->Value}{tb:Nat->Option Bool}{o:Nat}(hp:∀ d,d≠o->pl' d=pl d) (h1:phd (pl' o)=phd (pl o)) {U U':Heap}{p:Value}{b:OB}
  (h:OR P B pl tb U p b) (hg:b.live=true->∀ i,Oid p i->U'.get i=U.get i):OR P B pl' tb U' p (b.stale o):=by
 cases b with
 |dead=>trivial
 |lst ty k xs nl =>
  rcases h with h|⟨h1,i,cap,c,t,h2,h3,h4,h5,h6⟩
  .exact .inl h
  .exact .inr ⟨h1,i,cap,c,t,h2,h3,by rw[hg rfl i (by rw[h2];rfl)];exact h4,h5,h6⟩
 |cells l u =>obtain⟨i,c,e,t,h2,h3,h4,h5⟩:=h;exact⟨i,c,e,t,h2,by rw[hg rfl i (by rw[h2];rfl)];exact h3,SRs.stale hp h1 l c h4,h5⟩
 |mapE kk vk m key n =>obtain⟨i,es,clock,r,e,h2,h3,h4⟩:=h;exact⟨i,es,clock,r,e,h2,by rw[hg rfl i (by rw[h2];rfl)];exact h3,h4⟩
 |map kk vk m =>obtain⟨i,es,clock,h2,h3,h4⟩:=h;exact⟨i,es,clock,h2,by rw[hg rfl i (by rw[h2];rfl)];exact h3,h4⟩
 |fm ik l =>obtain⟨i,es,clock,h2,h3,h4⟩:=h;exact⟨i,es,clock,h2,by rw[hg rfl i (by rw[h2];rfl)];exact h3,h4⟩
 |stk l vals=>exact SRs.stale hp h1 l vals h
 |deep ty q k xs nl hh=>exact DP.mono h (hg rfl)
 |iter kk vk m dn =>obtain⟨j,i,es,clock,wr,seen,h2,h3,h4⟩:=h;exact⟨j,i,es,clock,wr,seen,h2,by rw[hg rfl j (by rw[h2];rfl)];exact h3,h4⟩
 |rmap kk vk m=>exact h
 |siter l pos =>obtain⟨j,s,h2,h3,h4⟩:=h;exact⟨j,s,h2,by rw[hg rfl j (by rw[h2];rfl)];exact h3,h4⟩
 |lpf l q s=>exact⟨h.1,SRs.stale hp h1 l q.vals h.2.1,λhl=>by rw[hg hl q.i (by rw[h.1];rfl)];exact h.2.2 hl⟩
theorem Xr (o:Nat):∀ (l:Own) (d:Nat),Qa (CB o l) d=(Qa l d).stale o
 |[],_=>rfl
 |(k,b)::r,d=>by
  simp only[CB,Qa];by_cases h:k=d
  .subst h;simp
  .rw[Z2 h];exact Xr o r d
end
section
variable {P:Program}{B F:Heap}{pl:Nat->Value}{tb:Nat->Option Bool}{s:St}{env:Env}{U U':Heap}
theorem Gam.dput (h:Gam P B F pl tb s env U) (o:Nat) (b:OB) (p:Value) (hle:F.Le U') (h1:phd p=phd (pl o))
  (cE:∀ j i,j≠o->(Qa s.own j).live=true->Oid (pl j) i->U'.get i=U.get i) (hb:OR P B (QR pl o p) tb U' p b)
  (hid:∀ i,b.live=true->Oid p i->F.get i=none/\∀ j,j≠o->(Qa s.own j).live=true->¬ Oid (pl j) i):Gam P B F (QR pl o p) tb (s.dput o b) env U':=by
 have hp:∀ j,j≠o->QR pl o p j=pl j:=λj hj=>by simp[QR,hj]
 have ij:phd (QR pl o p o)=phd (pl o):=by simpa [QR] using h1
 have hg:∀ j,Qa (s.dput o b).own j=if j=o then b else (Qa s.own j).stale o:=λj=>by simp only[St.dput,Qc,Xr]
 refine⟨h.bf,hle,SRs.stale hp ij _ _ h.env,λj=>?_,λj i hl hi=>?_,λj j' i aK hl bF hi bS=>?_,h.free⟩
 .rw[hg];by_cases hj:j=o
  .subst hj;rw[z6 rfl];simpa [QR] using hb
  .rw[z7 hj,hp j hj];exact(h.obj j).stale hp ij λhl i hi=>cE j i hj hl hi
 .rw[hg] at hl;by_cases hj:j=o
  .subst hj;rw[z6 rfl] at hl;simp only[QR,zx] at hi;exact(hid i hl hi).1
  .rw[z7 hj,OB.q0n] at hl;rw[hp j hj] at hi;exact h.fresh j i hl hi
 .rw[hg] at hl bF;by_cases hj:j=o
  .subst hj;rw[z6 rfl] at hl;have bc:j'≠j:=λe=>aK e.symm;rw[z7 bc,OB.q0n] at bF;rw[hp j' bc] at bS;simp only[QR,zx] at hi;exact(hid i hl hi).2 j' bc bF bS
  .rw[z7 hj,OB.q0n] at hl;rw[hp j hj] at hi;by_cases bc:j'=o
   .subst bc;rw[z6 rfl] at bF;simp only[QR,zx] at bS;exact(hid i bF bS).2 j hj hl hi
   .rw[z7 bc,OB.q0n] at bF;rw[hp j' bc] at bS;exact h.sep j j' i aK hl bF hi bS
theorem Fv (pl:Nat->Value) (d:Nat):QR pl d (pl d)=pl:=by
 funext j;simp only[QR];split
 .rename_i e;rw[e]
 .rfl
theorem Gam.killed (h:Gam P B F pl tb s env U) (o:Nat):Gam P B F pl tb (s.make o .dead) env U:=by
 have:=h.make o .dead (pl o) h.le (λ_ _ _ _ _=>rfl) trivial λi hl=>by cases hl
 rwa [Fv] at this
theorem Ag (s:St) (o:Nat) (b:OB) (j:Nat):Qa (s.make o b).own j=if j=o then b else (Qa s.own j).kill o:=by simp only[St.make,St.kill,Qc,Xy];split<;>rfl
theorem Gam.kills:∀ {mv:List Nat}{s:St},Gam P B F pl tb s env U->Gam P B F pl tb (s.kills mv) env U
 |[],_,h=>h
 |o::_,s,h=>Gam.kills (s:=s.make o .dead) (h.killed o)
theorem Wv:∀ {mv:List Nat}{s:St}{j:Nat},(Qa (s.kills mv).own j).live=true->(Qa s.own j).live=true/\j∉mv
 |[],_,_,h=>⟨h,List.not_mem_nil⟩
 |o::mv,s,j,h=>by
  obtain⟨h1,h2⟩:=Wv (mv:=mv) (s:=s.make o .dead) h;rw[Ag] at h1;by_cases e:j=o
  .rw[z6 e] at h1;cases h1
  .rw[z7 e,OB.q0m] at h1;simp_all
theorem YF:∀ {l:List Nat},Ew l=true->l.Nodup
 |[],_=>List.nodup_nil
 |a::l,h=>by simp only[Ew,z1,zf] at h;refine zO.2 ⟨λhm=>?_,YF h.2⟩;have:=h.1 a hm;simp at this
theorem Rows.rowsO {H:Heap}{k:Kind}(f:k.flat=true) {xs:List k.T}{cs:List Value}(h:Rows (KC B k) xs cs):RowsO (λx c is=>KO H none k x c is) xs cs []:=by
 induction h with
 |nil=>exact .nil
 |cons h _ ih=>exact .cons (is:=[]) (js:=[]) (KC.ko f (KC.flat f h)) ih
theorem KO.q1t {H:Heap}:∀ {k:Kind}{q:Option Nat}{x:k.T}{cs:List Value}{is:List Nat},k.flat=true->KO H q k x cs is->is=[]
 |.i _,_,_,_,_,_,h|.bo,_,_,_,_,_,h|.st,_,_,_,_,_,h=>by simp only[KO] at h;exact h.2
 |.list _,_,_,_,_,f,_=>by cases f
 |.pair a b,_,x,cs,is,f,h=>by simp only[Kind.flat,z1] at f;simp only[KO] at h;obtain⟨c1,c2,i1,i2,_,rfl,h1,h2⟩:=h;rw[KO.q1t f.1 h1,KO.q1t f.2 h2];rfl
theorem KO.nil {H:Heap}{q:Option Nat}{k:Kind}:KO H q (.list k) [] [.slice none 0 0] []:=by unfold KO;exact .inl ⟨rfl,rfl,rfl⟩
theorem K4 (hG:Gam P B F pl tb s env U):∀ {k:Kind}{q:Option Nat}{l:List SV}{x:k.T}{mv:List Nat}{cs:List Value},KA s.own q k l=some (x,mv)->mv.Nodup->SRs P B pl tb l cs ->
  ∃ is,KO U q k x cs is/\is.Nodup/\∀ i∈is,∃ m∈mv,(Qa s.own m).live=true/\Oid (pl m) i
 |.i ik,q,l,x,mv,cs,h,_,hs=>by simp only[KA,zk] at h;obtain⟨y,h1,h2⟩:=h;obtain⟨rfl,rfl⟩:=Prod.mk.inj h2;exact⟨[],KC.ko rfl (KC.flat (h:=B) rfl (Qm h1 hs)),List.nodup_nil,λi hi=>by cases hi⟩
 |.bo,q,l,x,mv,cs,h,_,hs=>by simp only[KA,zk] at h;obtain⟨y,h1,h2⟩:=h;obtain⟨rfl,rfl⟩:=Prod.mk.inj h2;exact⟨[],KC.ko rfl (KC.flat (h:=B) rfl (Qm h1 hs)),List.nodup_nil,λi hi=>by cases hi⟩
 |.st,q,l,x,mv,cs,h,_,hs=>by simp only[KA,zk] at h;obtain⟨y,h1,h2⟩:=h;obtain⟨rfl,rfl⟩:=Prod.mk.inj h2;exact⟨[],KC.ko rfl (KC.flat (h:=B) rfl (Qm h1 hs)),List.nodup_nil,λi hi=>by cases hi⟩
 |.pair a b,q,l,x,mv,cs,h,hn,hs=>by
  simp only[KA] at h;split at h
  .rename_i x1 m x2 n h1 h2;obtain⟨rfl,rfl⟩:=Prod.mk.inj (osj h);have fI:=hs.take a.size;have cU:=hs.drop a.size;have eJ:=List.nodup_append.1 hn;obtain⟨i1,k1,k2,k3⟩:=K4 hG h1 eJ.1 fI;obtain⟨i2,g1,g2,g3⟩:=K4 hG h2 eJ.2.1 cU;refine⟨i1++i2,?_,?_,λi hi=>?_⟩
   .simp only[KO]
    grind [List.take_append_drop]
   .refine List.nodup_append.2 ⟨k2,g2,λi hi j hj e=>?_⟩;subst e;obtain⟨m1,a1,a2,a3⟩:=k3 i hi;obtain⟨m2,b1,b2,b3⟩:=g3 i hj;exact hG.sep m1 m2 i (λe=>eJ.2.2 m1 a1 m2 b1 e) a2 b2 a3 b3
   grind
  .cases h
 |.list k,q,[],x,mv,cs,h,_,hs=>by simp[KA] at h
 |.list k,q,_::_::_,x,mv,cs,h,_,hs=>by simp[KA] at h
 |.list k,q,[v],x,mv,cs,h,_,hs=>by
  obtain⟨u,rfl,h1⟩:=hs.one;simp only[KA] at h;split at h
  .obtain⟨rfl,rfl⟩:=Prod.mk.inj (osj h);simp only[SR] at h1;subst h1
   grind [KO.nil,List.nodup_nil]
  .rename_i e;split at h
   .rename_i ty k' xs nl ho;have ah:=hG.obj e;rw[ho] at ah;simp only[SR] at h1;cases hq:Q0a q ty&&k.flat with
    |false=>rw[hq] at h;cases h
    |true =>
     rw[hq] at h;simp only[zh,zk] at h;obtain⟨ys,h2,h3⟩:=h;obtain rfl:=ZB h2;obtain rfl:=Zw h2;obtain⟨rfl,rfl⟩:=Prod.mk.inj h3;rw[z1] at hq;have gp:∀ t,q=some t->ty=t:=λt e=>by subst e;have:=hq.1;simp only[Q0a,Nat.beq_eq] at this;exact this.symm
     rcases ah with⟨_,rfl,h8⟩|⟨_,i,cap,c,t,h8,h4,h5,h6,h7⟩
     .exact⟨[],by rw[h1.1,h8];exact KO.nil,List.nodup_nil,λi hi=>by cases hi⟩
     .refine⟨[i],?_,(by simp_all),λj hj=>⟨e,zl,by rw[ho];rfl,?_⟩⟩
      .simp only[KO];exact .inr ⟨i,cap,c,_,t,[],by rw[h1.1,h8],rfl,h4,h5,rfl,gp,h6,h7.rowsO hq.2⟩
      .obtain rfl:=zK.1 hj;rw[h8];rfl
   .cases h
  .rename_i e;split at h
   .rename_i ty q' k' xs nl ho;have ah:=hG.obj e;rw[ho] at ah;simp only[SR,DR] at h1;cases hq:Q0a q ty with
    |false=>rw[hq] at h;cases h
    |true =>
     rw[hq] at h;simp only[zh,zk] at h;obtain⟨ys,h2,h3⟩:=h;obtain rfl:=ZB h2;obtain rfl:=Zw h2;obtain⟨rfl,rfl⟩:=Prod.mk.inj h3;have gp:∀ t,q=some t->ty=t:=λt e=>by subst e;simp only[Q0a,Nat.beq_eq] at hq;exact hq.symm
     obtain⟨is,d1,d2,d3,d4⟩:=DP.open ah;refine⟨is,?_,d1,λj hj=>⟨e,zl,by rw[ho];rfl,(d3 j).2 hj⟩⟩;rw[h1.1];simp only[KO];rcases d2 with⟨rfl,h8,rfl⟩|⟨i,cap,c,t,js,h8,rfl,h4,h5,h6,h7⟩
     .exact .inl ⟨rfl,by rw[h8],rfl⟩
     .exact .inr ⟨i,cap,c,_,t,js,by rw[h8],rfl,h4,h5,rfl,gp,h6,h7.rowsO λ_ _ _ h=>h.weak⟩
   .cases h
  .cases h
def FrL (Ts:List Nat) (s s':St) (pl pl':Nat->Value) (U U':Heap):Prop :=
 ∀ q,q∉Ts->(Qa s'.own q).live=(Qa s.own q).live/\pl' q=pl q/\((Qa s.own q).live=true->∀ i,Oid (pl q) i->U'.get i=U.get i)
theorem FrL.mono {Ts sd:List Nat}{s s':St}{pl pl':Nat->Value}{U U':Heap}(h:FrL Ts s s' pl pl' U U') (hs:∀ t∈Ts,t∈sd):FrL sd s s' pl pl' U U':=λq hq=>h q λh=>hq (hs q h)
theorem Wc:∀ {mv:List Nat}{s:St}{j:Nat},j∉mv->(Qa (s.kills mv).own j).live=(Qa s.own j).live
 |[],_,_,_=>rfl
 |o::mv,s,j,h=>by have:=Wc (mv:=mv) (s:=s.make o .dead) (j:=j) λe=>h (zA _ e);rw[show s.kills (o::mv)=(s.make o .dead).kills mv from rfl,this,Ag,z7 (by simp_all),OB.q0m]
theorem VD {own:Own}:∀ {k:Kind}{q:Option Nat}{l:List SV}{x:k.T}{mv:List Nat},KA own q k l=some (x,mv)->∀ m∈mv,m∈TS l
 |.i ik,q,l,x,mv,h,m,hm|.bo,q,l,x,mv,h,m,hm|.st,q,l,x,mv,h,m,hm=>by
  simp only[KA,zk] at h
  grind
 |.pair a b,q,l,x,mv,h,m,hm=>by
  simp only[KA] at h;split at h
  .rename_i x1 m1 x2 m2 h1 h2;obtain⟨rfl,rfl⟩:=Prod.mk.inj (osj h);have e:TS l=TS (l.take a.size)++TS (l.drop a.size):=by
    unfold TS;rw[<-List.flatMap_append,xh]
   rw[e];rcases zR.1 hm with hm|hm
   .exact xG _ (VD h1 m hm)
   .exact xn _ (VD h2 m hm)
  .cases h
 |.list k,q,[],x,mv,h,_,_=>by simp[KA] at h
 |.list k,q,_::_::_,x,mv,h,_,_=>by simp[KA] at h
 |.list k,q,[v],x,mv,h,m,hm=>by
  simp only[KA] at h;split at h
  .simp_all
  .split at h
   .rename_i e _ ty k' xs nl ho;cases hq:Q0a q ty&&k.flat with
    |false=>rw[hq] at h;cases h
    |true =>rw[hq] at h;simp only[zh,zk] at h;obtain⟨ys,_,h3⟩:=h;obtain⟨rfl,rfl⟩:=Prod.mk.inj h3;simpa [TS,SV.thing] using hm
   .cases h
  .split at h
   .rename_i e _ ty q' k' xs nl ho;cases hq:Q0a q ty with
    |false=>rw[hq] at h;cases h
    |true =>rw[hq] at h;simp only[zh,zk] at h;obtain⟨ys,_,h3⟩:=h;obtain⟨rfl,rfl⟩:=Prod.mk.inj h3;simpa [TS,SV.thing] using hm
   .cases h
  .cases h
theorem Ma (hG:Gam P B F pl tb s env U) {mv js:List Nat}{d n0 ty cap:Nat}{q:Option Nat}{k:Kind}{xs:List k.T}{c:List Value}{e:El}{t:Bool}(hle:F.Le U')
  (gR:∀ i∈js,∃ m,(m=d\/m∈mv)/\(Qa s.own m).live=true/\Oid (pl m) i) (hn:js.Nodup) (jo:n0∉js) (hf:F.get n0=none) (df:∀ j,j≠d->j∉mv->(Qa s.own j).live=true->¬ Oid (pl j) n0)
  (bm:U'.get n0=some (.cells c e true t)) (he:e=⟨k.size,ty⟩) (se:∀ i∈js,U'.get i=U.get i) (cE:∀ j i,j≠d->j∉mv->(Qa s.own j).live=true->Oid (pl j) i->U'.get i=U.get i)
  (a_:RowsH (KO U q k) k.size none 0 xs (c.take (xs.length*k.size)) js) (bL:xs.length<=cap) (hc:cap*k.size<=c.length) :
  ∃ pl',(Gam P B F pl' tb ((s.kills mv).make d (.deep ty q k xs false none)) env U'/\FrL (d::mv) s ((s.kills mv).make d (.deep ty q k xs false none)) pl pl' U U')/\SR P B pl' tb (.dd d .out) (.slice (some ⟨n0,0,none⟩) xs.length cap):=by
 have gS:DO U' ty q k xs none (.slice (some ⟨n0,0,none⟩) xs.length cap) (n0::js):=.inr ⟨n0,cap,c,t,js,rfl,rfl,bL,by rw[bm,he],hc,a_.imp (by grind [KO.imp])⟩;have gb:=B3 (v:=.slice (some ⟨n0,0,none⟩) xs.length cap) gS.cells;refine⟨QR pl d (mkP U' (.slice (some ⟨n0,0,none⟩) xs.length cap) (n0::js)),⟨hG.kills.make d _ _ hle (λj i hj hl hi=>?_) (DP.close (zO.2 ⟨jo,hn⟩) gS (by simp)) λi _ hi=>?_,λj hj=>?_⟩,?_⟩
 .grind [Wv]
 .rcases zD.1 ((gb i).1 hi) with rfl|hi
  .grind [Wv]
  .obtain⟨m,h1,h2,h3⟩:=gR i hi;refine⟨hG.fresh m i h2 h3,λj hj hl ho=>?_⟩;obtain⟨h4,h5⟩:=Wv hl;exact hG.sep j m i (by grind) h4 h2 ho h3
 .have h1:j≠d:=(by simp_all);have h2:j∉mv:=λe=>hj (zA _ e);exact⟨by rw[X0 _ _ _ h1,Wc h2],by simp[QR,h1],λhl i hi=>cE j i h1 h2 hl hi⟩
 .simp only[SR,DR,ZP];exact⟨rfl,_,_,_,rfl⟩
theorem Aa (hG:Gam P B F pl tb s env U) (mv:List Nat) (d ty:Nat) (q:Option Nat) (k:Kind) :
  ∃ pl',(Gam P B F pl' tb ((s.kills mv).make d (.deep ty q k [] true none)) env U/\FrL (d::mv) s ((s.kills mv).make d (.deep ty q k [] true none)) pl pl' U U)/\SR P B pl' tb (.dd d .out) (.slice none 0 0):=by
 have gS:DO U ty q k [] none (.slice none 0 0) []:=.inl ⟨rfl,rfl,rfl⟩;have gb:=B3 (v:=.slice none 0 0) gS.cells;refine⟨QR pl d (mkP U (.slice none 0 0) []),⟨hG.kills.make d _ _ hG.le (λ_ _ _ _ _=>rfl) (DP.close List.nodup_nil gS (by simp)) λi _ hi=>?_,λj hj=>?_⟩,?_⟩
 .cases (gb i).1 hi
 .have h1:j≠d:=(by simp_all);have h2:j∉mv:=λe=>hj (zA _ e);exact⟨by rw[X0 _ _ _ h1,Wc h2],by simp[QR,h1],λ_ _ _=>rfl⟩
 .simp only[SR,DR,ZP];exact⟨rfl,_,_,_,rfl⟩
theorem Yy (hG:Gam P B F pl tb s env U) {mv js:List Nat}{d ty cap:Nat}{q:Option Nat}{k:Kind}{xs:List k.T}{c:List Value}{e:El}{t:Bool}
  (gR:∀ i∈js,∃ m,(m=d\/m∈mv)/\(Qa s.own m).live=true/\Oid (pl m) i) (hn:js.Nodup) (he:e=⟨k.size,ty⟩)
  (a_:RowsH (KO U q k) k.size none 0 xs (c.take (xs.length*k.size)) js) (bL:xs.length<=cap) (hc:cap*k.size<=c.length) :
  ∃ pl',(Gam P B F pl' tb ((s.kills mv).make d (.deep ty q k xs false none)) env (U.push (.cells c e true t))/\FrL (d::mv) s ((s.kills mv).make d (.deep ty q k xs false none)) pl pl' U (U.push (.cells c e true t)))/\SR P B pl' tb (.dd d .out) (.slice (some ⟨U.n,0,none⟩) xs.length cap):=by
 have ai:∀ i∈js,i<U.n:=λi hi=>by obtain⟨m,_,h2,h3⟩:=gR i hi;exact(hG.obj m).q0s h2 h3
 exact Ma hG (hG.le.push _) gR hn (λh=>xS _ (ai _ h)) hG.le.fresh (λj _ _ hl ho=>xS _ ((hG.obj j).q0s hl ho)) (Heap.q0a _ _) he (by grind [Heap.q0g]) (λj i _ _ hl hi=>Heap.q0g _ _ ((hG.obj j).q0s hl hi)) a_ bL hc
def Dn (P:Program) (B F:Heap) (tb:Nat->Option Bool) (o:VOp) (evV:Operand->Value) (env:Env) (U:Heap) (K:SV->St->Prop) (Ts:List Nat) (s:St) (pl:Nat->Value):Prop :=
 ∃ u U' pl' v s',Q8 o evV U=some (u,U')/\K v s'/\(Gam P B F pl' tb s' env U'/\FrL Ts s s' pl pl' U U')/\SR P B pl' tb v u
section
variable {C:Cx}{d:Nat}{ev:Operand->SV}{evV:Operand->Value}{K:SV->St->Prop}
theorem RC (af:∀ x,SR P B pl tb (ev x) (evV x)) (hG:Gam P B F pl tb s env U) {e:El}{z:List Value}{n:Nat}{ps:List (Nat×Operand)}(h:gnd C d (.buildSlice e z n ps) ev s K):Dn P B F tb (.buildSlice e z n ps) evV env U K (X2 d (.buildSlice e z n ps) ev) s pl:=by
 simp only[gnd] at h;split at h
 .rename_i k _;split at h
  .rename_i hc;obtain⟨az,hz⟩:=hc;have he:e=⟨k.size,e.ty⟩:=by cases e;simp only at az;rw[az]
   split at h
   .obtain⟨pl',h1,h2⟩:=Yy (q:=Qp C.el e.ty) (xs:=([]:List k.T)) (c:=[]) (cap:=0) (t:=true) (mv:=[]) (js:=[]) (d:=d) hG (λi hi=>by cases hi) List.nodup_nil he ⟨by simp,rfl⟩ (zd _) (by simp);exact⟨_,_,pl',_,_,by rw[<-show Mf 0 z=[] by rw[X4];rfl];rfl,h,⟨h1.1,h1.2.mono λt ht=>by rw[zK.1 ht];exact zl⟩,h2⟩
   .rename_i x;split at h
    .rename_i l hl;split at h
     .rename_i y mv hy;cases hd:Ew (d::mv) with
      |false=>rw[hd] at h;cases h
      |true =>
       rw[hd] at h;simp only[zh] at h;have eS:=zO.1 (YF hd);obtain⟨cs,h1,h2,_⟩:=ZI hl (af x);obtain⟨js,h3,h4,h5⟩:=K4 hG hy eS.2 h2;have hlen:=KC.length h3.kc;have gj:=KC.length (Zg (h:=B) hz)
       obtain⟨pl',k1,k2⟩:=Yy (q:=Qp C.el e.ty) (xs:=[y]) (c:=cs) (cap:=1) (t:=true) (mv:=mv) (d:=d) hG (by grind) h4 he
        ⟨cs,[],js,[],by simp[<-hlen],by simp,by rw[z7 (by simp)];exact h3,rfl,rfl⟩ (zd _) (by rw[hlen];simp)
       refine⟨_,_,pl',_,_,?_,h,⟨k1.1,k1.2.mono λt ht=>?_⟩,k2⟩
       rotate_left
       .rcases zD.1 ht with rfl|ht
        .exact zl
        .exact zA _ (by grind [List.mem_append_left,VD])
       have e1:Mf 1 z=z:=by rw[X4];simp
       have e2:JH z 0 cs=cs:=by rw[Xx (by omega),zQ,List.take_zero,xB,List.drop_of_length_le (by omega),xA]
       simp only[Q8,e1,zS,List.map_nil,KD,h1,Nat.zero_mul];rw[z6 ⟨by omega,by omega⟩,e2];rfl
     .cases h
    .cases h
   .cases h
  .cases h
 .cases h
theorem Lo (af:∀ x,SR P B pl tb (ev x) (evV x)) (hG:Gam P B F pl tb s env U) {e:El}{bytes:Nat}{z:List Value}{l c:Operand}(h:gnd C d (.makeSlice e bytes z l c) ev s K):Dn P B F tb (.makeSlice e bytes z l c) evV env U K (X2 d (.makeSlice e bytes z l c) ev) s pl:=by
 simp only[gnd] at h;split at h
 .rename_i k k1 a k2 b _ h1 h2;have e1:=QS h1 (af l);have e2:=QS h2 (af c);split at h
  .rename_i hc;obtain⟨az,hz⟩:=hc;have he:e=⟨k.size,e.ty⟩:=by cases e;simp only at az;rw[az]
   simp only[G4,IB] at h;obtain⟨k3,k4,k5,k6,h⟩:=h;have hR:∀ x c is,KO U (Qp C.el e.ty) k x c is->c.length=k.size:=KO.q0f;have de:RowsH (KO U (Qp C.el e.ty) k) k.size none 0 (List.replicate b.toNat k.dflt) (Mf b.toNat z) []:=by rw[X4];exact RowsH.replicate (BB hz) _ _
   have bR:=de.length hR;rw[xy] at bR;have ht:=de.take hR a.toNat;rw[List.take_replicate,xX (by omega)] at ht;obtain⟨pl',g1,g2⟩:=Yy (q:=Qp C.el e.ty) (xs:=List.replicate a.toNat k.dflt) (c:=Mf b.toNat z) (cap:=b.toNat) (t:=true) (mv:=[]) (js:=[]) (d:=d) hG (λi hi=>by cases hi) List.nodup_nil he (by rw[xy];exact ht) (by simp;omega) (by rw[bR];exact zd _);refine⟨_,_,pl',_,_,?_,h,⟨g1.1,g1.2.mono λt ht=>(by rw[zK.1 ht];exact zl)⟩,g2⟩;simp only[Q8,e1,e2,xy]
   grind
  .cases h
 .cases h
theorem DO.sl {ty:Nat}{q:Option Nat}{k:Kind}{xs:List k.T}{v:Value}{is:List Nat}(hd:DO U ty q k xs none v is) (hn:is.Nodup) :
  ∃ a cap cs js,v=.slice a xs.length cap/\U.sl k.size v=some cs/\RowsH (KO U q k) k.size none 0 xs cs js/\(∀ i∈js,i∈is)/\js.Nodup/\cs.all cellOk=true/\cs.length=xs.length*k.size:=by
 rcases hd with⟨rfl,rfl,rfl⟩|⟨i,cap,c,t,js,rfl,rfl,h1,h3,h4,h5⟩
 .exact⟨_,_,[],[],rfl,rfl,⟨rfl,rfl⟩,λi hi=>hi,List.nodup_nil,rfl,by simp⟩
 .have hl:=h5.length KO.q0f;refine⟨_,_,c.take (xs.length*k.size),js,rfl,?_,h5,λi hi=>zA _ hi,(zO.1 hn).2,(h5.rows (R':=KC U k) λ_ _ _ h=>h.kc).cellOk,hl⟩;have:=zm k.size h1;simp only[Heap.sl,h3]
  grind
theorem BQ {α:Type}{l:List α}(h:l≠[]):l.isEmpty=false:=by simp_all
theorem Lv (af:∀ x,SR P B pl tb (ev x) (evV x)) (hG:Gam P B F pl tb s env U) {e:El}{bytes:Nat}{x y:Operand}{o:Nat}{kr:Kind}{lr:List kr.T}{i:Int}{ty:Nat}{q:Option Nat}{k':Kind}{xs:List (Kind.list k').T}{nl:Bool}{ys:List k'.T}
  (hx:ev x=.dd o (.row kr lr i)) (ho:Qa s.own o=.deep ty q (.list k') xs nl none) (hq:q=some e.ty) (az:k'.size=e.sz) (hy:view s.own k' (ev y)=some ys) (hf:k'.flat=true) (uf:o≠d)
  (hb:((xs.getD i.toNat []).length+ys.length)*bytes<=70368744177664) (aK:ys≠[]) (h:K (.lst d) ((s.dput o (.deep ty q (.list k') xs nl (some i.toNat))).make d (.lst e.ty k' (xs.getD i.toNat []++ys) false))) :
  Dn P B F tb (.append e bytes x y) evV env U K (X2 d (.append e bytes x y) ev) s pl:=by
 have ha:=af x;rw[hx] at ha;simp only[SR,DR] at ha;obtain⟨r7,bg,b,len,cap,c,e0,t,g1,g2,g3,g4,g5⟩:=ha;obtain⟨cs,ay,qz,aw,a_,pc⟩:=(Ws hG.leB hG.obj hy (af y)).sl;have al:cs.all cellOk=true:=a_.cellOk;have bR:=a_.length KC.q0f;rw[az] at aw;have ah:=hG.obj o;rw[ho] at ah;have ak:(Qa s.own o).live=true:=by rw[ho];rfl
 have hle:=DP.le ah;have lN:nl=true<->phd (pl o)=.slice none 0 0:=by obtain⟨_,_,_,_,_,_,h⟩:=ah;exact h
 obtain⟨is,d1,d2,d3,_⟩:=DP.open ah;rcases d2 with⟨_,h8,_⟩|⟨b',ao,c',t',js,h8,rfl,h4,h5,h6,h7⟩
 .rw[g1] at h8;cases h8
 rw[g1] at h8;obtain⟨rfl,rfl,rfl⟩:=(by simpa using h8:b=b'/\len=xs.length/\cap=ao);have dT:c'=c:=by have:=hle.2 _ _ g4;rw[h5] at this;cases this;rfl
 subst dT;have hi:i.toNat<xs.length:=by omega
 have fI:(Kind.list k').size=1:=rfl;rw[fI] at h6 h7;simp only[xO] at h6 h7;have cZ:xs.getD i.toNat []=xs[i.toNat]:=by simp_all
 have a8:((c'.take xs.length).drop (i.toNat*1)).take 1=[evV x]:=by
  apply zN
  grind
 obtain⟨dt,ix,du,rfl,k1,k2⟩:=RowsH.set (sz:=1) (h':=some i.toNat) (x:=xs[i.toNat]) (c':=[evV x]) (inew:=[]) (KO.q0f (k:=.list k')) h7 hi (by grind) rfl (by rw[zQ,z6 rfl]);rw[z7 (by simp),a8] at k2;have cY:(c'.take xs.length).take (i.toNat*1)++[evV x]++(c'.take xs.length).drop (i.toNat*1+1)=c'.take xs.length:=by
  grind [List.append_assoc,List.drop_drop,List.take_append_drop]
 rw[cY,List.set_getElem_self] at k1;have lO:=zO.1 d1;have lP:=List.nodup_append.1 lO.2;have pg:=List.nodup_append.1 lP.1;have gS:DO U ty q (.list k') xs (some i.toNat) (phd (pl o)) (b::(dt++[]++du)):=.inr ⟨b,cap,c',t',_,g1,rfl,h4,h5,by rw[fI,xO];exact h6,by rw[fI,xO];exact k1⟩;have lQ:=gS;rw[xA] at lQ;have qA:(b::(dt++du)).Nodup:=by
  grind
 have iZ:=B3 (v:=phd (pl o)) lQ.cells;have cX:∀ j∈b::(dt++du),j∈b::(dt++ix++du)/\j∉ix:=λj hj=>by
  rcases zD.1 hj with rfl|hj
  .simp_all
  .rcases zR.1 hj with hj|hj
   .exact⟨zA _ (xG _ (xG _ hj)),λh=>pg.2.2 j hj j h rfl⟩
   .exact⟨zA _ (xn _ hj),λh=>lP.2.2 j (xn _ h) j hj rfl⟩
 have er:Gam P B F (QR pl o (mkP U (phd (pl o)) (b::(dt++du)))) tb (s.dput o (.deep ty q (.list k') xs nl (some i.toNat))) env U:=by refine hG.dput o _ _ hG.le (Ci _ _ _) (λ_ _ _ _ _=>rfl) (DP.close qA lQ lN) λj _ hj=>?_;have hj:=(d3 j).2 (cX j ((iZ j).1 hj)).1;exact⟨hG.fresh o j ak hj,λj' bc hl dC=>hG.sep j' o j bc hl ak dC hj⟩
 have lR:∀ j,j≠d->(Qa (s.dput o (.deep ty q (.list k') xs nl (some i.toNat))).own j).live=true->(j=o\/(Qa s.own j).live=true):=λj _ hl=>by
  by_cases e:j=o
  .exact .inl e
  .simp only[St.dput,Qc,Xr,z7 e,OB.q0n] at hl;exact .inr hl
 have gy:∀ j∈ix,F.get j=none/\∀ j',j'≠d->(Qa (s.dput o (.deep ty q (.list k') xs nl (some i.toNat))).own j').live=true->¬ Oid (QR pl o (mkP U (phd (pl o)) (b::(dt++du))) j') j:=λj hj=>by
  have dp:=(d3 j).2 (zA _ (xG _ (xn _ hj)));refine⟨hG.fresh o j ak dp,λj' ph hl dC=>?_⟩;rcases lR j' ph hl with rfl|bF
  .simp only[QR,zx] at dC;exact(cX j ((iZ j).1 dC)).2 hj
  .by_cases e:j'=o
   .subst e;simp only[QR,zx] at dC;exact(cX j ((iZ j).1 dC)).2 hj
   .simp only[QR,z7 e] at dC;exact hG.sep j' o j e bF ak dC dp
 have base:Q8 (.append e bytes x y) evV U=Zv e bytes U (evV x) ys.length cs:=by simp only[Q8,pc] at aw |-;simp only[aw,al,zx]
 have he:e=⟨k'.size,e.ty⟩:=by cases e;simp only at az;rw[az]
 have dj:ys.length≠0:=(by grind);rw[cZ] at hb h
 have fin:∀ (U':Heap) (n0 gT:Nat) (c0:List Value) (t0:Bool),F.Le U'->Zv e bytes U (evV x) ys.length cs=some (.slice (some ⟨n0,0,none⟩) (xs[i.toNat]++ys).length gT,U')->(xs[i.toNat]++ys).length<=gT->U'.get n0=some (.cells c0 ⟨k'.size,e.ty⟩ true t0)->gT*k'.size<=c0.length->Rows (KC B k') (xs[i.toNat]++ys) (c0.take ((xs[i.toNat]++ys).length*k'.size)) ->
   (n0=U.n\/n0∈ix)->(∀ j,j<U.n->j∉ix->U'.get j=U.get j)->Dn P B F tb (.append e bytes x y) evV env U K (X2 d (.append e bytes x y) ev) s pl:=by
  intro U' n0 gT c0 t0 f1 f2 f3 f4 f5 f6 f7 f8;refine⟨_,U',QR (QR pl o (mkP U (phd (pl o)) (b::(dt++du)))) d (.slice (some ⟨n0,0,none⟩) (xs[i.toNat]++ys).length gT),_,_,by rw[base];exact f2,h,⟨er.make d _ _ f1 (λj i' hj hl hi=>?_) (.inr ⟨rfl,n0,gT,c0,t0,rfl,f3,f4,f5,f6⟩) λi' _ hi=>?_,λj hj=>?_⟩,?_⟩
  .exact f8 i' ((er.obj j).q0s hl hi) λhx=>(gy i' hx).2 j hj hl hi
  .obtain rfl:=osj hi;rcases f7 with rfl|f7
   .exact⟨hG.le.fresh,λj _ hl hi=>xS _ ((er.obj j).q0s hl hi)⟩
   .exact gy _ f7
  .have ph:j≠d:=λe=>hj (by rw[e];exact zl);have dp:j≠o:=λe=>hj (by simp only[X2,hx,SV.thing];grind);refine⟨by rw[X0 _ _ _ ph];simp only[St.dput,Qc,Xr,z7 dp,OB.q0n],by simp[QR,ph,dp],λhl i' hi=>f8 i' ((hG.obj j).q0s hl hi) λhx=>?_⟩;exact hG.sep j o i' dp hl ak hi (by grind)
  .simp only[SR,ZP];exact⟨trivial,_,_,_,rfl⟩
 simp only[KO] at k2;rcases k2 with⟨m1,m2,m3⟩|⟨r,gd,rc,re,rt,i_,m1,rfl,m3,m4,m5,m6,m7,m8⟩
 .
  obtain m2:=(zM m2).1;rw[m2] at fin;rw[m1] at hb fin;simp only[List.length_nil,zQ] at hb;refine fin (U.push (.cells cs e true false)) U.n ys.length cs false (hG.le.push _) ?_ (by simp) (by rw[Heap.q0a,he]) (by omega) (by grind) (.inl rfl) λj hj _=>Heap.q0g _ _ hj;simp only[Zv]
  grind
 .obtain m1:=(zM m1).1;rw[m1] at fin;have qB:Rows (KC B k') xs[i.toNat] (rc.take (xs[i.toNat].length*k'.size)):=by
   have key:∀ {xs:List k'.T}{cs:List Value}{js:List Nat},RowsO (λx c is=>KO U none k' x c is) xs cs js->Rows (KC B k') xs cs:=λh=>by
    induction h with
    |nil=>exact .nil
    |cons h _ ih=>exact .cons (KC.flat hf h.kc) ih
   exact key m8
  have jB:Rows (KC B k') (xs[i.toNat]++ys) (rc.take (xs[i.toNat].length*k'.size)++cs):=qB.append a_;have dU:=jB.length KC.q0f;have ug:re=e:=by have h9:=m6 e.ty hq;cases re;grind
  subst ug;have q1:xs[i.toNat].length*k'.size<=gd*k'.size:=zm _ m3;simp only[Zv,m4] at fin;rw[z6 ⟨trivial,m3,by rw[<-az];omega⟩,z7 dj] at fin;by_cases aG:xs[i.toNat].length+ys.length<=gd
  .have ff:(xs[i.toNat].length+ys.length)*k'.size<=gd*k'.size:=zm _ aG;have dD:xs[i.toNat].length*k'.size+ys.length*k'.size<=gd*k'.size:=by rw[<-zH];exact ff
   rw[z6 aG,z6 ⟨trivial,by rw[<-az];omega⟩] at fin;refine fin (U.upd r (.cells (JH rc (0+xs[i.toNat].length*re.sz) cs) re true rt)) r gd (JH rc (0+xs[i.toNat].length*re.sz) cs) rt (hG.le.upd (gy r zl).1 _) (by rw[zo]) (by rw[zo];exact aG) (by rw[Heap.q0d _ _ (U.lt m4),<-he]) (by rw[Zp];exact m7) ?_ (.inr zl) (by grind [Heap.q0b,List.mem_cons_self]);have dS:0+xs[i.toNat].length*re.sz+cs.length<=rc.length:=by rw[<-az];omega
   rw[Xx dS,<-az,zQ,List.take_left' (by rw[dU])];exact jB
  .rw[z7 aG,z6 (by simpa using hb)] at fin;have cY:((rc.drop 0).take (xs[i.toNat].length*re.sz)++cs)=rc.take (xs[i.toNat].length*k'.size)++cs:=by rw[xr,az]
   rw[cY] at fin;cases rt with
   |true =>simp only[zx] at fin;refine fin (U.push (.cells (rc.take (xs[i.toNat].length*k'.size)++cs) re true false)) U.n _ (rc.take (xs[i.toNat].length*k'.size)++cs) false (hG.le.push _) (by rw[zo]) (Nat.le_of_eq (zo)) (by rw[Heap.q0a,<-he]) (by grind) (by grind) (.inl rfl) λj hj _=>Heap.q0g _ _ hj
   |false =>simp only[zz,if_false,zx] at fin;refine fin ((U.kill r).push (.cells (rc.take (xs[i.toNat].length*k'.size)++cs) re true false)) U.n _ (rc.take (xs[i.toNat].length*k'.size)++cs) false ((hG.le.kill (gy r zl).1).push _) (by rw[zo]) (Nat.le_of_eq (zo)) (by rw[<-show (U.kill r).n=U.n from rfl,Heap.q0a,<-he]) (by grind) (by grind) (.inl rfl) λj hj hx=>?_;rw[Heap.q0g _ _ (show j<(U.kill r).n from hj)];exact(by grind [Heap.q0c,List.mem_cons_self])
theorem Gr (af:∀ x,SR P B pl tb (ev x) (evV x)) (hG:Gam P B F pl tb s env U) {e:El}{bytes:Nat}{x y:Operand}{b ty:Nat}{q:Option Nat}{k:Kind}{ys:List k.T}{qC:Bool}
  (hy:ev y=.dd b .out) (ho:Qa s.own b=.deep ty q k ys qC none) (gp:ty=e.ty) (az:k.size=e.sz) :
  ∃ cs js,Q8 (.append e bytes x y) evV U=Zv e bytes U (evV x) ys.length cs/\RowsH (KO U q k) k.size none 0 ys cs js/\js.Nodup/\(∀ i∈js,Oid (pl b) i)/\cs.length=ys.length*k.size/\e=⟨k.size,ty⟩/\(Qa s.own b).live=true:=by
 have hb:=af y;rw[hy] at hb;simp only[SR,DR] at hb;have ah:=hG.obj b;rw[ho] at ah;obtain⟨is,d1,d2,d3,d4⟩:=DP.open ah;obtain⟨a,cap,cs,js,k1,k2,k3,k4,k5,k6,k7⟩:=d2.sl d1;rw[az] at k2;refine⟨cs,js,?_,k3,k5,λi hi=>(d3 i).2 (k4 i hi),k7,by simp_all,by rw[ho];rfl⟩;have e1:evV y=.slice a ys.length cap:=by rw[hb.1,k1]
 rw[k1] at k2;simp only[Q8,e1,k2,k6,zx]
theorem Ol (af:∀ x,SR P B pl tb (ev x) (evV x)) (hG:Gam P B F pl tb s env U) {e:El}{bytes:Nat}{x y:Operand}(h:gnd C d (.append e bytes x y) ev s K):Dn P B F tb (.append e bytes x y) evV env U K (X2 d (.append e bytes x y) ev) s pl:=by
 have ha:=af x;simp only[gnd] at h;split at h
 .rename_i b hx hy;rw[hx] at ha;simp only[SR] at ha;split at h
  .rename_i ty q k ys qC ho;split at h
   .rename_i hc;obtain⟨gp,az⟩:=hc;cases hn:Ew [d,b] with
    |false=>rw[hn] at h;cases h
    |true =>
     rw[hn] at h;simp only[zh,G4,IB] at h;obtain⟨hb,h⟩:=h;have sub:∀ t∈[d,b],t∈X2 d (.append e bytes x y) ev:=λt ht=>by simpa [X2,hx,hy,SV.thing] using ht
     obtain⟨cs,js,base,r1,r2,r3,r4,r5,r6⟩:=Gr (bytes:=bytes) (x:=x) af hG hy ho gp az;rw[ha] at base;by_cases hm:ys=[]
     .subst hm;obtain⟨pl',k1,k2⟩:=Aa hG [b] d ty q k;exact⟨_,_,pl',_,_,by rw[base];rfl,h,⟨k1.1,k1.2.mono sub⟩,k2⟩
     .have dj:ys.length≠0:=(by grind);obtain⟨pl',k1,k2⟩:=Yy (mv:=[b]) (d:=d) (c:=cs) (cap:=ys.length) (t:=false) hG (by grind) r2 r5 (by rw[zC (by omega)];exact r1) (zd _) (by omega);refine⟨_,_,pl',_,_,?_,h,by rw[BQ hm];exact⟨k1.1,k1.2.mono sub⟩,k2⟩;rw[base];simp only[Zv]
      grind
   .cases h
  .cases h
 .rename_i o b hx hy;rw[hx] at ha;simp only[SR,DR] at ha;split at h
  .rename_i ty q k xs nl fy q' k' ys qC mE k_;split at h
   .rename_i hc;obtain⟨qD,nX,az,rfl⟩:=hc;split at h
    .rename_i gf fA;obtain rfl:=ZB fA;obtain rfl:=Zw fA;cases hn:Ew [o,b] with
     |false=>rw[hn] at h;cases h
     |true =>
      rw[hn] at h;simp only[zh,G4,IB] at h;obtain⟨hb,h⟩:=h;have nY:o≠b:=(by grind [List.nodup_cons,YF,List.mem_cons_self]);have sub:∀ t∈[o,b],t∈X2 d (.append e bytes x y) ev:=λt ht=>by
       have:t=o\/t=b:=by simpa using ht
       simp only[X2,hx,hy,SV.thing];simp_all
      obtain⟨cs,js,base,r1,r2,r3,r4,r5,r6⟩:=Gr (bytes:=bytes) (x:=x) af hG hy k_ nX az;have ah:=hG.obj o;rw[mE] at ah;have ak:(Qa s.own o).live=true:=by rw[mE];rfl
      obtain⟨is,d1,d2,d3,d4⟩:=DP.open ah;have qE:fy=ty:=nX.trans qD.symm;subst qE;rcases d2 with⟨rfl,h8,rfl⟩|⟨i,cap,c,t,kJ,h8,rfl,h4,h5,h6,h7⟩
      .have gK:nl=true:=d4.2 h8;subst gK;rw[ha.1,h8] at base;simp only[List.length_nil,zQ] at hb;by_cases hm:gf=[]
       .subst hm;obtain⟨pl',k1,k2⟩:=Aa hG [b] o fy q k';exact⟨_,_,pl',_,_,by rw[base];rfl,h,⟨k1.1,k1.2.mono sub⟩,k2⟩
       .have dj:gf.length≠0:=(by grind);obtain⟨pl',k1,k2⟩:=Yy (mv:=[b]) (d:=o) (c:=cs) (cap:=gf.length) (t:=false) hG (by grind) r2 r5 (by rw[zC (by omega)];exact r1) (zd _) (by omega);rw[BQ hm] at h;refine⟨_,_,pl',_,_,?_,h,⟨k1.1,k1.2.mono sub⟩,k2⟩;rw[base];simp only[Zv]
        grind
      .have gK:nl=false:=by
        grind
       subst gK;rw[Bool.and_false] at h;rw[ha.1,h8] at base;have hid:F.get i=none:=hG.fresh o i ak ((d3 i).2 zl);have eS:=zO.1 d1;have gR:∀ j∈kJ++js,∃ m,(m=o\/m∈[b])/\(Qa s.own m).live=true/\Oid (pl m) j:=(by grind);have eJ:(kJ++js).Nodup:=List.nodup_append.2 ⟨eS.2,r2,λj hj j' bc e=>by
        subst e;exact hG.sep o b j nY ak r6 ((d3 j).2 (zA _ hj)) (r3 j bc)⟩
       have jo:i∉kJ++js:=λhj=>(zR.1 hj).elim eS.1 λhj=>hG.sep o b i nY ak r6 ((d3 i).2 zl) (r3 i hj);have df:∀ j,j≠o->j∉[b]->(Qa s.own j).live=true->¬ Oid (pl j) i:=λj hj _ hl hi=>hG.sep j o i hj hl ak hi ((d3 i).2 zl);have q1:xs.length*k'.size<=cap*k'.size:=zm _ h4;have jB:RowsH (KO U q k') k'.size none 0 (xs++gf) (c.take (xs.length*k'.size)++cs) (kJ++js):=h7.append r1;have dU:=jB.length KO.q0f;have ai:∀ {j},j∈kJ++js->j<U.n:=λhj=>by obtain⟨m,_,h2,h3⟩:=gR _ hj;exact(hG.obj m).q0s h2 h3
       simp only[Zv,h5] at base;rw[<-r5,z6 ⟨rfl,h4,by rw[<-az];omega⟩] at base;by_cases hm:gf=[]
       .subst hm;simp only[List.length_nil,zx] at base;have qF:RowsH (KO U q k') k'.size none 0 (xs++[]) (c.take ((xs++[]).length*k'.size)) (kJ++js):=by
         grind [List.length_eq_zero_iff]
        obtain⟨pl',k1,k2⟩:=Ma (mv:=[b]) (d:=o) (n0:=i) (cap:=cap) hG hG.le gR eJ jo hid df h5 rfl (λ_ _=>rfl) (λ_ _ _ _ _ _=>rfl) qF (by simpa using h4) h6;refine⟨_,_,pl',_,_,?_,h,⟨k1.1,k1.2.mono sub⟩,k2⟩;rw[base];simp
       .have dj:gf.length≠0:=(by grind);rw[z7 dj] at base;by_cases aG:xs.length+gf.length<=cap
        .have ff:(xs.length+gf.length)*k'.size<=cap*k'.size:=zm _ aG;have dD:xs.length*k'.size+gf.length*k'.size<=cap*k'.size:=by rw[<-zH];exact ff
         rw[z6 aG,z6 ⟨trivial,by rw[<-az];omega⟩] at base;have bn:RowsH (KO U q k') k'.size none 0 (xs++gf) ((JH c (0+xs.length*e.sz) cs).take ((xs++gf).length*k'.size)) (kJ++js):=by
          have dS:0+xs.length*e.sz+cs.length<=c.length:=by rw[<-az];omega
          rw[Xx dS,<-az,zQ,List.take_left' (by rw[dU])];exact jB
         obtain⟨pl',k1,k2⟩:=Ma (U':=U.upd i (.cells (JH c (0+xs.length*e.sz) cs) e true t)) (mv:=[b]) (d:=o) (n0:=i) (cap:=cap) hG (hG.le.upd hid _) gR eJ jo hid df (Heap.q0d _ _ (U.lt h5)) r5
          (by grind [Heap.q0b]) (by grind [Heap.q0b]) bn (by rw[zo];exact aG) (by rw[Zp];exact h6)
         exact⟨_,_,pl',_,_,by rw[base,zo],h,⟨k1.1,k1.2.mono sub⟩,k2⟩
        .rw[z7 aG,z6 (by simpa using hb)] at base;have cY:((c.drop 0).take (xs.length*e.sz)++cs)=c.take (xs.length*k'.size)++cs:=by rw[xr,az]
         rw[cY] at base;have sg:RowsH (KO U q k') k'.size none 0 (xs++gf) ((c.take (xs.length*k'.size)++cs).take ((xs++gf).length*k'.size)) (kJ++js):=by
          grind
         cases t with
         |true =>simp only[zx] at base;obtain⟨pl',k1,k2⟩:=Yy (mv:=[b]) (d:=o) (c:=c.take (xs.length*k'.size)++cs) (cap:=(xs++gf).length) (t:=false) hG gR eJ r5 sg (zd _) (by rw[dU];exact zd _);exact⟨_,_,pl',_,_,by rw[base,zo],h,⟨k1.1,k1.2.mono sub⟩,k2⟩
         |false =>
          simp only[zz,if_false,zx] at base;have hn:(U.kill i).n=U.n:=rfl
          obtain⟨pl',k1,k2⟩:=Ma (U':=(U.kill i).push (.cells (c.take (xs.length*k'.size)++cs) e true false)) (mv:=[b]) (d:=o) (n0:=U.n) (cap:=(xs++gf).length) hG ((hG.le.kill hid).push _) gR eJ (λh=>xS _ (ai h)) hG.le.fresh (λj _ _ hl ho=>xS _ ((hG.obj j).q0s hl ho)) (by rw[<-hn,Heap.q0a]) r5
           (by grind [Heap.q0g,Heap.q0c]) (λj i' hj fg hl hi=>by
            rw[Heap.q0g _ _ (show i'<(U.kill i).n from (hG.obj j).q0s hl hi)]
            grind [Heap.q0c]) sg (zd _) (by rw[dU];exact zd _)
          exact⟨_,_,pl',_,_,by rw[base,zo],h,⟨k1.1,k1.2.mono sub⟩,k2⟩
    .cases h
   .cases h
  .cases h
 .rename_i _ o kr lr i hx;split at h
  .rename_i ty q k xs nl ho;split at h
   .rename_i k' ho;split at h
    .rename_i hc;split at h
     .rename_i ys hy;cases hn:k'.flat&&Ew [o,d] with
      |false=>rw[hn] at h;cases h
      |true =>rw[hn] at h;simp only[zh,G4,IB] at h;rw[z1] at hn;have uf:o≠d:=(by grind [List.nodup_cons,YF,List.mem_cons_self]);exact(by grind [Lv])
     .cases h
    .cases h
   .cases h
  .cases h
 .cases h
theorem L2 {c us:List Value}{m p n:Nat}(hl:us.length=n) (hp:p+n<=m) (hm:m<=c.length):(JH c p us).take m=(c.take m).take p++us++(c.take m).drop (p+n):=by
 rw[Xx (by omega),hl];have h1:(c.take p).length=p:=by rw[wi];omega
 grind [List.length_append,List.take_append,List.take_of_length_le,Nat.min_eq_left,List.drop_take]
theorem Q1d (af:∀ x,SR P B pl tb (ev x) (evV x)) (hG:Gam P B F pl tb s env U) {size:Nat}{a x:Operand}(h:gnd C d (.store size a x) ev s K):Dn P B F tb (.store size a x) evV env U K (X2 d (.store size a x) ev) s pl:=by
 have ha:=af a;simp only[gnd] at h;split at h
 .rename_i o i off sz vs h1 h2;obtain⟨us,h3,dF,h5⟩:=ZI h2 (af x);rw[h1] at ha;simp only[SR,DR] at ha;obtain⟨b,len,cap,g1,g2,g3,g4⟩:=ha;split at h
  .rename_i ty q k xs nl hole ho;split at h
   .rename_i hc;obtain⟨rfl,rfl,rfl⟩:=hc;split at h
    .rename_i y mv hy;cases hd:Ew (o::mv) with
     |false=>rw[hd] at h;cases h
     |true =>
      rw[hd] at h;simp only[zh] at h;have eS:=zO.1 (YF hd);obtain⟨js,t3,t4,t5⟩:=K4 hG hy eS.2 dF;have hlen:=KC.length t3.kc;have ah:=hG.obj o;rw[ho] at ah;have ak:(Qa s.own o).live=true:=by rw[ho];rfl
      obtain⟨is,d1,d2,d3,d4⟩:=DP.open ah;rcases d2 with⟨_,h8,_⟩|⟨b',ao,c,t,uh,h8,rfl,e4,e5,e6,e7⟩
      .rw[g1] at h8;cases h8
      rw[g1] at h8;obtain⟨rfl,rfl,rfl⟩:=(by simpa using h8:b=b'/\len=xs.length/\cap=ao);have hi:i.toNat<xs.length:=by omega
      have nZ:(hole=none\/hole=some i.toNat)/\K .any ((s.kills mv).dput o (.deep ty q k (xs.set i.toNat y) nl none)):=by
       grind
      obtain⟨hh,h⟩:=nZ;obtain⟨dt,ix,du,rfl,k1,_⟩:=RowsH.set (h':=none) (x:=y) (c':=us) (inew:=js) KO.q0f e7 hi (by grind) hlen (by rw[z7 (by simp)];exact t3);have az:(i.toNat+1)*k.size<=xs.length*k.size:=zm _ hi;rw[zH,xD] at az;have e8:=zm k.size e4;rw[<-L2 hlen az (by omega)] at k1;have hid:F.get b=none:=hG.fresh o b ak ((d3 b).2 zl);have lO:=zO.1 d1;have lP:=List.nodup_append.1 lO.2;have pg:=List.nodup_append.1 lP.1;have ui:∀ j∈js,∀ j'∈b::(dt++ix++du),j≠j':=λj hj j' bc e=>by subst e;obtain⟨m,m1,m2,m3⟩:=t5 j hj;exact hG.sep m o j (by grind) m2 ak m3 ((d3 j).2 bc)
      have eJ:(b::(dt++js++du)).Nodup:=by
       refine zO.2 ⟨λh=>?_,List.nodup_append.2 ⟨List.nodup_append.2 ⟨pg.1,t4,λj hj j' bc e=>?_⟩,lP.2.1,λj hj j' bc e=>?_⟩⟩
       .grind
       .grind
       grind
      have vG:b∉dt++js++du:=(zO.1 eJ).1;have gS:DO (U.upd b (.cells (JH c (i.toNat*k.size) us) ⟨k.size,ty⟩ true t)) ty q k (xs.set i.toNat y) none (phd (pl o)) (b::(dt++js++du)) :=
       .inr ⟨b,cap,JH c (i.toNat*k.size) us,t,_,by rw[g1,xi],rfl,by rw[xi];exact e4,Heap.q0d _ _ (U.lt e5),by rw[Zp];exact e6,by
        rw[xi];exact k1.imp (by grind [KO.imp,Heap.q0b])⟩
      have gb:=B3 (v:=phd (pl o)) gS.cells;refine⟨undef,U.upd b (.cells (JH c (i.toNat*k.size) us) ⟨k.size,ty⟩ true t),QR pl o (mkP (U.upd b (.cells (JH c (i.toNat*k.size) us) ⟨k.size,ty⟩ true t)) (phd (pl o)) (b::(dt++js++du))),_,_,?_,h,⟨?_,λj hj=>?_⟩,trivial⟩
      .simp only[Q8,g4,h3,e5,zU]
       grind
      .refine (hG.kills (mv:=mv)).dput o _ _ (hG.le.upd hid _) (Ci _ _ _) (λj j' hj hl bc=>?_) (DP.close eJ gS d4) λj _ hj=>?_
       .obtain⟨hl,_⟩:=Wv hl;exact Heap.q0b _ _ λe=>hG.sep j o j' hj hl ak bc (by simp_all)
       .have hj:=(gb j).1 hj;have key:∃ m,(m=o\/m∈mv)/\(Qa s.own m).live=true/\Oid (pl m) j:=by
         have own:j∈b::(dt++ix++du)->∃ m,(m=o\/m∈mv)/\(Qa s.own m).live=true/\Oid (pl m) j:=(by simp_all);rcases zD.1 hj with rfl|hj
         .exact own zl
         .rcases zR.1 hj with hj|hj
          .rcases zR.1 hj with hj|hj
           .simp_all
           simp_all
          simp_all
        obtain⟨m,m1,m2,m3⟩:=key;refine⟨hG.fresh m j m2 m3,λj' bc hl dC=>?_⟩;obtain⟨hl,fg⟩:=Wv hl;exact hG.sep j' m j (by grind) hl m2 dC m3
      .have dp:j≠o:=λe=>hj (by simp only[X2,h1,SV.thing];simp_all);have fg:j∉mv:=λe=>hj (by simp only[X2,h2];exact zA _ (xn _ (VD hy j e)));refine⟨by simp only[St.dput,Qc,Xr,z7 dp,OB.q0n];exact Wc fg,by simp[QR,dp],λhl i' hi=>Heap.q0b _ _ λe=>?_⟩;exact hG.sep j o i' dp hl ak hi (by simp_all)
    .cases h
   .cases h
  .cases h
 .rename_i o kr lr i j off vs h1 h2;obtain⟨us,h3,dF,h5⟩:=ZI h2 (af x);rw[h1] at ha;simp only[SR,DR] at ha;obtain⟨b,len,cap,c,e,t,r,rl,rc,aJ,re,rt,g1,g2,g3,g4,g5,g6,g7,g8,g9,g10,g11,g12⟩:=ha;split at h
  .rename_i ty q k xs nl ho;split at h
   .rename_i hc;obtain⟨rfl,rfl,rfl,hf⟩:=hc;split at h
    .rename_i y hy;have hk:=Qm hy dF;have hlen:=KC.length hk;have ah:=hG.obj o;rw[ho] at ah;have ak:(Qa s.own o).live=true:=by rw[ho];rfl
     have hle:=DP.le ah;obtain⟨is,d1,d2,d3,d4⟩:=DP.open ah;rcases d2 with⟨_,h8,_⟩|⟨b',ao,c0,t0,uh,h8,rfl,e4,e5,e6,e7⟩
     .rw[g1] at h8;cases h8
     rw[g1] at h8;obtain⟨rfl,rfl,rfl⟩:=(by simpa using h8:b=b'/\len=xs.length/\cap=ao);have dT:c0=c:=by have:=hle.2 _ _ g4;simp_all
     subst dT;have hi:i.toNat<xs.length:=by omega
     have fI:(Kind.list kr).size=1:=rfl;rw[fI] at e6 e7;simp only[xO] at e6 e7;have cZ:xs.getD i.toNat []=xs[i.toNat]:=by simp_all
     have a8:((c0.take xs.length).drop (i.toNat*1)).take 1=[.slice (some ⟨r,0,none⟩) rl rc]:=by
      apply zN;intro j;simp only[xO,xt,zZ]
      grind
     obtain⟨dt,ix,du,rfl,k1,k2⟩:=RowsH.set (sz:=1) (h':=some i.toNat) (x:=xs[i.toNat]) (c':=[.slice (some ⟨r,0,none⟩) rl rc]) (inew:=[]) (KO.q0f (k:=.list kr)) e7 hi (by grind) rfl (by rw[zQ,z6 rfl]);rw[z7 (by simp),a8] at k2;have cY:(c0.take xs.length).take (i.toNat*1)++[.slice (some ⟨r,0,none⟩) rl rc]++(c0.take xs.length).drop (i.toNat*1+1)=c0.take xs.length:=by
      grind [List.append_assoc,List.drop_drop,List.take_append_drop]
     rw[cY,List.set_getElem_self] at k1;have lO:=zO.1 d1;have lP:=List.nodup_append.1 lO.2;have pg:=List.nodup_append.1 lP.1;simp only[KO] at k2;rcases k2 with⟨_,m2,_⟩|⟨r',gd,uj,uk,um,i_,m1,rfl,m3,m4,m5,m6,m7,m8⟩
     .cases m2
     obtain⟨rfl,m1,rfl⟩:=(by simpa using m1:r=r'/\rl=xs[i.toNat].length/\rc=gd);have jB:aJ=uj/\re=uk/\rt=um:=by have:=hle.2 _ _ g9;simp_all
     obtain⟨rfl,rfl,rfl⟩:=jB;have hj:j.toNat<xs[i.toNat].length:=by omega
     have gR:(j.toNat+1)*kr.size<=xs[i.toNat].length*kr.size:=zm _ hj;rw[zH,xD] at gR;have q1:=zm kr.size m3;have hid:F.get r=none:=hG.fresh o r ak (by simp_all);have n6:b≠r:=(by simp_all);have sh:∀ m∈i_,m≠r:=(by grind);have k3:RowsH (KO (U.upd r (.cells (JH aJ (j.toNat*kr.size) us) re true rt)) q (.list kr)) 1 (some i.toNat) 0 xs (c0.take xs.length) (dt++[]++du):=k1.imp λx c' uo hr hj=>KO.imp hr (by grind [Heap.q0b,List.mem_cons_self,List.mem_append_right]);have de:KO (U.upd r (.cells (JH aJ (j.toNat*kr.size) us) re true rt)) q (.list kr) (xs[i.toNat].set j.toNat y) [.slice (some ⟨r,0,none⟩) rl rc] (r::i_):=by
      have gM:i_=[]:=by
       have key:∀ {xs:List kr.T}{cs:List Value}{js:List Nat},RowsO (λx c is=>KO U none kr x c is) xs cs js->js=[]:=λh=>by
        induction h with
        |nil=>rfl
        |cons h _ ih=>rw[ih,xA];exact KO.q1t hf h
       exact key m8
      subst gM;have uq:Rows (KC B kr) xs[i.toNat] (aJ.take (xs[i.toNat].length*kr.size)):=by
       have key:∀ {xs:List kr.T}{cs:List Value}{js:List Nat},RowsO (λx c is=>KO U none kr x c is) xs cs js->Rows (KC B kr) xs cs:=λh=>by
        induction h with
        |nil=>exact .nil
        |cons h _ ih=>exact .cons (KC.flat hf h.kc) ih
       exact key m8
      have bn:=uq.set KC.q0f hj hk;rw[<-L2 hlen gR (by omega)] at bn;simp only[KO];exact .inr ⟨r,rc,_,re,rt,[],by rw[xi,m1],rfl,by rw[xi];exact m3,Heap.q0d _ _ (U.lt m4),m5,m6,by rw[Zp];exact m7,by rw[xi];exact bn.rowsO hf⟩
     obtain⟨gU,vH,gV,ic,k4,gy⟩:=RowsH.set (sz:=1) (h':=none) (x:=xs[i.toNat].set j.toNat y) (c':=[.slice (some ⟨r,0,none⟩) rl rc]) (inew:=r::i_) (KO.q0f (k:=.list kr)) k3 hi (by grind) rfl (by rw[z7 (by simp)];exact de);rw[zQ,z6 rfl] at gy;subst gy;rw[cY] at k4;have aW:∀ m,m∈gU++r::i_++gV<->m∈dt++r::i_++du:=λm=>by
      have:m∈dt++[]++du<->m∈gU++[]++gV:=by rw[ic]
      simp only[xA,zR] at this;simp only[zR];constructor
      .grind
      grind
     have qG:(b::(gU++r::i_++gV)).Nodup:=by
      refine (List.Perm.cons b ?_).nodup_iff.1 d1;have p1:(dt++du).Perm (gU++gV):=by simp_all
      have p2:∀ (a b c:List Nat),(a++b++c).Perm (b++(a++c)):=(by grind)
      grind
     have gS:DO (U.upd r (.cells (JH aJ (j.toNat*kr.size) us) re true rt)) ty q (.list kr) (xs.set i.toNat (xs[i.toNat].set j.toNat y)) none (phd (pl o)) (b::(gU++r::i_++gV)) :=
      .inr ⟨b,cap,c0,t0,_,by rw[g1,xi],rfl,by rw[xi];exact e4,by rw[Heap.q0b _ _ n6];exact e5,by rw[fI,xO];exact e6,by
       simp_all⟩
     have gb:=B3 (v:=phd (pl o)) gS.cells;rw[cZ] at h;refine⟨undef,U.upd r (.cells (JH aJ (j.toNat*kr.size) us) re true rt),QR pl o (mkP (U.upd r (.cells (JH aJ (j.toNat*kr.size) us) re true rt)) (phd (pl o)) (b::(gU++r::i_++gV))),_,_,?_,h,⟨?_,λj0 h_=>?_⟩,trivial⟩
     .simp only[Q8,g12,h3,m4,zU]
      grind
     .refine hG.dput o _ _ (hG.le.upd hid _) (Ci _ _ _) (λj' i' bc hl bS=>?_) (DP.close qG gS d4) λm _ hm=>?_
      .exact Heap.q0b _ _ λe=>hG.sep j' o i' bc hl ak bS (by simp_all)
      .have hm:=(gb m).1 hm;have hm:m∈b::(dt++r::i_++du):=(by simp_all);exact⟨hG.fresh o m ak ((d3 m).2 hm),λj' bc hl dC=>hG.sep j' o m bc hl ak dC ((d3 m).2 hm)⟩
     .have dp:j0≠o:=λe=>h_ (by simp only[X2,h1,SV.thing];simp_all);refine⟨by simp only[St.dput,Qc,Xr,z7 dp,OB.q0n],by simp[QR,dp],λhl i' hi=>Heap.q0b _ _ λe=>?_⟩;exact hG.sep j0 o i' dp hl ak hi (by simp_all)
    .cases h
   .cases h
  .cases h
 .cases h
theorem DG (af:∀ x,SR P B pl tb (ev x) (evV x)) (hG:Gam P B F pl tb s env U) {o:VOp}(h:gnd C d o ev s K):Dn P B F tb o evV env U K (X2 d o ev) s pl:=by
 cases o with
 |buildSlice e z n ps=>exact RC af hG h
 |makeSlice e bytes z l c=>exact Lo af hG h
 |append e bytes x y=>exact Ol af hG h
 |store size a x=>exact Q1d af hG h
 |_=>cases h
end
end
end Go.V
namespace Go.V
open Go
def J3:Nat->Value:=λ_=>poison
def Zn:Nat->Option Bool:=λ_=>none
def hNil:Heap:=⟨λ_=>none,0,λ_ _=>rfl⟩
theorem CX (B:Heap):hNil.Le B:=⟨Nat.zero_le _,λi b h=>by cases h⟩
section
variable {P:Program}
mutual
theorem SR.retd {B B':Heap}{pl pl':Nat->Value}{tb tb':Nat->Option Bool}{n:Nat}(hp:∀ j,j<n->pl' j=pl j) :
  ∀ (s:SV) (v:Value),s.ret n=true->SR P B pl tb s v->SR P B' pl' tb' s v
 |.any,_,h,_|.bid _ _,_,h,_|.grd _ _,_,h,_|.sub _ _ _ _,_,h,_|.elp _ _ _ _,_,h,_|.rop _ _ _ _,_,h,_|.cp _ _,_,h,_|.fn _ _ _,_,h,_|.pf _ _ _ _,_,h,_=>by cases h
 |.val k x,v,h,hs=>by simp only[SR] at hs |-;exact KC.flat h hs
 |.nilS,v,_,hs|.nilP,v,_,hs|.nilM,v,_,hs|.nilF,v,_,hs=>by simp only[SR] at hs |-;exact hs
 |.lst j,v,h,hs=>by
  have hj:j<n:=by simpa [SV.ret,zG] using h
  simp only[SR] at hs |-;rw[hp j hj];exact hs
 |.map j,v,h,hs=>by
  have hj:j<n:=by simpa [SV.ret,zG] using h
  simp only[SR] at hs |-;rw[hp j hj];exact hs
 |.dd j w,v,h,hs=>by
  cases w with
  |out =>
   have hj:j<n:=by simpa [SV.ret,zG] using h
   simp only[SR] at hs |-;rw[hp j hj];exact hs
  |_=>cases h
 |.box j off,v,h,hs=>by
  have hj:j<n:=by simpa [SV.ret,zG] using h
  simp only[SR] at hs |-;rw[hp j hj];exact hs
 |.agg l,v,h,hs=>by simp only[SR] at hs |-;obtain⟨cs,h1,h2⟩:=hs;exact⟨cs,h1,SRs.retd hp l cs h h2⟩
 |.tup l,v,h,hs=>by simp only[SR] at hs |-;obtain⟨cs,h1,h2⟩:=hs;exact⟨cs,h1,SRs.retd hp l cs h h2⟩
theorem SRs.retd {B B':Heap}{pl pl':Nat->Value}{tb tb':Nat->Option Bool}{n:Nat}(hp:∀ j,j<n->pl' j=pl j) :
  ∀ (s:List SV) (v:List Value),SVs.ret n s=true->SRs P B pl tb s v->SRs P B' pl' tb' s v
 |[],v,_,hs=>by simp only[SRs] at hs |-;exact hs
 |s::ss,v,h,hs=>by simp only[SVs.ret,z1] at h;simp only[SRs] at hs |-;obtain⟨x,y,h1,h2,h3⟩:=hs;exact⟨x,y,h1,SR.retd hp s x h.1 h2,SRs.retd hp ss y h.2 h3⟩
end
mutual
theorem SR.ren {B:Heap}{pl pl':Nat->Value}{tb tb':Nat->Option Bool}{n d nt:Nat}(hp:∀ j,j<n->pl' (d+j*nt)=pl j) :
  ∀ (s:SV) (v:Value),s.ret n=true->SR P B pl tb s v->SR P B pl' tb' (s.ren d nt) v
 |.any,_,h,_|.bid _ _,_,h,_|.grd _ _,_,h,_|.sub _ _ _ _,_,h,_|.elp _ _ _ _,_,h,_|.rop _ _ _ _,_,h,_|.cp _ _,_,h,_|.fn _ _ _,_,h,_|.pf _ _ _ _,_,h,_=>by cases h
 |.val k x,v,h,hs=>by simp only[SR,SV.ren] at hs |-;exact hs
 |.nilS,v,_,hs|.nilP,v,_,hs|.nilM,v,_,hs|.nilF,v,_,hs=>by simp only[SR,SV.ren] at hs |-;exact hs
 |.lst j,v,h,hs=>by
  have hj:j<n:=by simpa [SV.ret,zG] using h
  simp only[SR,SV.ren] at hs |-;rw[hp j hj];exact hs
 |.map j,v,h,hs=>by
  have hj:j<n:=by simpa [SV.ret,zG] using h
  simp only[SR,SV.ren] at hs |-;rw[hp j hj];exact hs
 |.dd j w,v,h,hs=>by
  cases w with
  |out =>
   have hj:j<n:=by simpa [SV.ret,zG] using h
   simp only[SR,SV.ren] at hs |-;rw[hp j hj];exact hs
  |_=>cases h
 |.box j off,v,h,hs=>by
  have hj:j<n:=by simpa [SV.ret,zG] using h
  simp only[SR,SV.ren] at hs |-;rw[hp j hj];exact hs
 |.agg l,v,h,hs=>by simp only[SR,SV.ren] at hs |-;obtain⟨cs,h1,h2⟩:=hs;exact⟨cs,h1,SRs.ren hp l cs h h2⟩
 |.tup l,v,h,hs=>by simp only[SR,SV.ren] at hs |-;obtain⟨cs,h1,h2⟩:=hs;exact⟨cs,h1,SRs.ren hp l cs h h2⟩
theorem SRs.ren {B:Heap}{pl pl':Nat->Value}{tb tb':Nat->Option Bool}{n d nt:Nat}(hp:∀ j,j<n->pl' (d+j*nt)=pl j) :
  ∀ (s:List SV) (v:List Value),SVs.ret n s=true->SRs P B pl tb s v->SRs P B pl' tb' (SVs.ren d nt s) v
 |[],v,_,hs=>by simp only[SRs,SVs.ren] at hs |-;exact hs
 |s::ss,v,h,hs=>by simp only[SVs.ret,z1] at h;simp only[SRs,SVs.ren] at hs |-;obtain⟨x,y,h1,h2,h3⟩:=hs;exact⟨x,y,h1,SR.ren hp s x h.1 h2,SRs.ren hp ss y h.2 h3⟩
end
theorem MR.flat {B B':Heap}{kk vk:Kind}(h1:kk.flat=true) (h2:vk.flat=true):∀ {m:List (kk.T×vk.T)}{es:List ZZ},MR B kk vk m es->MR B' kk vk m es
 |[],es,h=>h
 |m::ms,es,h=>by obtain⟨e,bC,k1,k2,k3,k4⟩:=h;exact⟨e,bC,k1,k2.flat h1,k3.flat h2,MR.flat h1 h2 k4⟩
theorem OR.retd {B B':Heap}{pl pl':Nat->Value}{tb tb':Nat->Option Bool}{U U':Heap}{p:Value}{b:OB}(hb:b.ret=true) (h:OR P B pl tb U p b) (hg:∀ i,Oid p i->U'.get i=U.get i):OR P B' pl' tb' U' p b:=by
 cases b with
 |dead=>trivial
 |lst ty k xs nl =>
  rcases h with h|⟨h0,i,cap,c,t,h1,h2,h3,h4,h5⟩
  .exact .inl h
  .exact .inr ⟨h0,i,cap,c,t,h1,h2,by rw[hg i (by rw[h1];rfl)];exact h3,h4,h5.mono λ_ _ e=>KC.flat hb e⟩
 |cells l u =>obtain⟨i,c,e,t,h1,h2,h3,h4⟩:=h;exact⟨i,c,e,t,h1,by rw[hg i (by rw[h1];rfl)];exact h2,SRs.retd (n:=0) (λj hj=>by omega) l c hb h3,h4⟩
 |map kk vk m =>simp only[OB.ret,z1] at hb;obtain⟨i,es,clock,h1,h2,h3⟩:=h;exact⟨i,es,clock,h1,by rw[hg i (by rw[h1];rfl)];exact h2,h3.1.flat hb.1 hb.2,h3.2⟩
 |stk l vals=>cases hb
 |deep ty q k xs nl hh=>exact DP.mono h hg
 |mapE kk vk m key n=>cases hb
 |fm ik l=>cases hb
 |iter kk vk m dn=>cases hb
 |rmap kk vk m=>cases hb
 |siter l pos=>cases hb
 |lpf l q s=>cases hb
def Ry:(k:Kind)->k.T->List Value
 |.i ik,x=>[.int ik x]
 |.bo,x=>[.bool x]
 |.st,x=>[.string ⟨x.toArray⟩]
 |.list _,_=>[]
 |.pair a b,x=>Ry a x.1++Ry b x.2
def IX:OB->Option Blk
 |.lst ty k xs nl=>if nl then none else some (.cells (xs.map (Ry k)).flatten ⟨k.size,ty⟩ true false)
 |_=>none
def DH (U:Heap) (bs:List OB):Heap where
 get i:=if i<U.n then U.get i else (bs[i-U.n]?).bind IX
 n:=U.n+bs.length
 wf i h:=by
  grind
def Pp (U:Heap) (bs:List OB) (j:Nat):Value:=match bs[j]? with
 |some (.lst _ _ xs nl)=>if nl then .slice none 0 0 else .slice (some ⟨U.n+j,0,none⟩) xs.length xs.length
 |_=>poison
mutual
def Yl (p:Nat->Value):SV->Value
 |.val k x=>(Ry k x).headD poison
 |.nilS=>.slice none 0 0
 |.nilP=>.pointer none
 |.nilM=>.map none
 |.nilF=>.nilFunc
 |.lst j=>p j
 |.agg l=>.agg (Wa p l).toArray
 |.tup l=>.tuple (Wa p l).toArray
 |_=>poison
def Wa (p:Nat->Value):List SV->List Value
 |[]=>[]
 |s::ss=>Yl p s::Wa p ss
end
def Dead (U U':Heap):Prop:=U.n<=U'.n/\∀ i,i<U.n->U.get i=none->U'.get i=none
theorem Dead.refl (U:Heap):Dead U U:=⟨zd _,λ_ _ h=>h⟩
theorem Dead.trans {σ0 U U':Heap}(h:Dead σ0 U) (h':Dead U U'):Dead σ0 U':=⟨zW h.1 h'.1,λi hi hg=>h'.2 i (xm hi h.1) (h.2 i hi hg)⟩
def Ret (P:Program) (U:Heap) (v:SV) (bs:List OB) (u:Value) (U':Heap):Prop :=
 (U.Le U'/\Dead U U')/\(bs=[]->U'=U)/\∃ pl:Nat->Value,(∀ j b,bs[j]?=some b->OR P hNil pl Zn U' (pl j) b/\∀ i,Oid (pl j) i->U.get i=none/\U.n<=i) /\
  (∀ j j' i,j<bs.length->j'<bs.length->j≠j'->Oid (pl j) i->Oid (pl j') i->False)/\SR P hNil pl Zn v u
def O4 (P:Program) (ap:SV->List SV->Option (Prop×SV)):Prop :=
 ∀ U f args c v fV vs,SR P U J3 Zn f fV->SRs P U J3 Zn args vs->ap f args=some (c,v)->c->v.ret 0=true/\∃ g a b,fV=.func (.func g) a b/\VCalled P g (a.toList++vs++b.toList) U λu U'=>U'=U/\SR P hNil J3 Zn v u
def OkC (P:Program) (f:Nat) (sp:CSp):Prop :=
 ∀ ap,O4 P ap->∀ U args vs c v bs,SRs P U J3 Zn args vs->sp ap args=some (c,v,bs)->v.ret bs.length=true->bs.all OB.ret=true->c->(VCalled P f vs U λu U'=>Ret P U v bs u U') /\
  (bs.all OB.isL=true->Yp v=true->VCalled P f vs U λu U'=>u=Yl (Pp U bs) v/\U'=DH U bs)
def CsOk (P:Program) (cs:List (Nat×CSp)):Prop:=∀ f sp,Qp cs f=some sp->OkC P f sp
theorem VCalled.mono {f:FuncId}{args:List Value}{U:Heap}{R R':Value->Heap->Prop}(h:VCalled P f args U R) (hr:∀ v U',R v U'->R' v U'):VCalled P f args U R':=by
 intro ρ w au hH hL;rcases h ρ w au hH hL with⟨h1,h2⟩|⟨c,h1,h2⟩
 .exact .inl ⟨h1,h2.mono λ_ _ ⟨c,he,hg⟩=>⟨c,he,hg.mono hr⟩⟩
 .exact .inr ⟨c,h1.mono hr,h2⟩
theorem BC {B:Heap}{pl:Nat->Value}{tb:Nat->Option Bool}{k:Kind}{v:SV}{u:Value}{x:k.T}(h:gap.asV k v=some x) (hs:SR P B pl tb v u):KV B k x u:=by
 unfold gap.asV at h;cases bJ:k.one with
 |true =>rw[bJ] at h;exact .inl ⟨bJ,Qm h (by simp only[SRs];exact⟨u,[],rfl,hs,rfl⟩)⟩
 |false =>
  rw[bJ] at h;simp only[zT] at h;split at h
  .simp only[SR] at hs;obtain⟨cs,rfl,hs⟩:=hs;exact .inr ⟨bJ,cs,rfl,Qm h hs⟩
  .cases h
theorem Ph {B:Heap}{pl:Nat->Value}{tb:Nat->Option Bool}:∀ {ks:List Kind}{args:List SV}{x:AT ks}{vs:List Value},gap.deca ks args=some x->SRs P B pl tb args vs->PK B ks x vs
 |[],[],x,vs,_,hs=>by simp only[SRs] at hs;exact hs
 |[],_::_,x,vs,h,_=>by cases h
 |[k],[],x,vs,h,_=>by cases h
 |[k],[v],x,vs,h,hs=>by obtain⟨u,rfl,h1⟩:=hs.one;exact⟨u,rfl,BC h h1⟩
 |[k],_::_::_,x,vs,h,_=>by cases h
 |k::k'::ks,[],x,vs,h,_=>by cases h
 |k::k'::ks,v::args,x,vs,h,hs=>by
  simp only[gap.deca] at h;split at h
  .rename_i y z h1 h2;obtain rfl:=osj h;simp only[SRs] at hs;obtain⟨u,us,rfl,h3,h4⟩:=hs;exact⟨u,us,rfl,BC h1 h3,Ph h2 h4⟩
  .cases h
theorem Ret.flat {U U':Heap}{v:SV}{u:Value}(h:Ret P U v [] u U') (hv:v.ret 0=true):U'=U/\SR P hNil J3 Zn v u:=by obtain⟨_,h2,pl,_,_,h5⟩:=h;exact⟨h2 rfl,h5.retd (λj hj=>by omega) _ _ hv⟩
theorem KV.vcall {B U:Heap}(hB:B.Le U) {k:Kind}{x:k.T}{v:Value}(h:KV B k x v):KV U k x v:=by
 rcases h with⟨h1,h2⟩|⟨h1,cs,h2,h3⟩
 .exact .inl ⟨h1,h2.mono hB⟩
 .exact .inr ⟨h1,cs,h2,h3.mono hB⟩
theorem Mq:∀ {k:Kind}{x:k.T},k.flat=true->SVs.ret 0 (Vu k x)=true
 |.i _,_,_|.bo,_,_|.st,_,_=>rfl
 |.list _,_,h=>by cases h
 |.pair a b,x,h=>by
  simp only[Kind.flat,z1] at h;have app:∀ l m:List SV,SVs.ret 0 l=true->SVs.ret 0 m=true->SVs.ret 0 (l++m)=true:=by
   intro l m hl hm;induction l with
   |nil=>exact hm
   |cons s l ih =>simp only[SVs.ret,z1,xw] at hl |-;exact⟨hl.1,ih hl.2⟩
  exact app _ _ (Mq h.1) (Mq h.2)
theorem ON {k:Kind}{x:k.T}(h:k.flat=true):(IA k x).ret 0=true:=by
 cases k with
 |pair a b=>exact Mq (k:=.pair a b) h
 |list k=>cases h
 |_=>rfl
theorem FA {cs:List (Nat×CSp)}(h:CsOk P cs):∀ n,O4 P (gap cs n)
 |0=>λU f args c v fV vs _ _ h=>by cases h
 |n+1=>by
  intro U f args c v fV vs hf ha hg hc;cases f with
  |fn g a b =>
   simp only[gap] at hg;split at hg
   .rename_i sp eK;split at hg
    .rename_i c' v' heq;cases hv:v'.ret 0 with
     |false=>rw[hv] at hg;cases hg
     |true =>rw[hv] at hg;simp only[zh,xe,Prod.mk.injEq] at hg;obtain⟨rfl,rfl⟩:=hg;simp only[SR] at hf;obtain⟨x,y,rfl,h1,h2⟩:=hf;refine⟨hv,g,x.toArray,y.toArray,rfl,?_⟩;have:=(h g sp eK (gap cs n) (FA h n) U (a++args++b) (x++vs++y) c' v' [] ((h1.append ha).append h2) heq hv rfl hc).1;simpa using this.mono λu U' hr=>hr.flat hv
    .cases hg
   .cases hg
  |pf ks r cu p =>
   simp only[gap] at hg;split at hg
   .rename_i x hx;cases hr:r.flat with
    |false=>rw[hr] at hg;cases hg
    |true =>rw[hr] at hg;obtain⟨rfl,rfl⟩:=QK hg;simp only[SR] at hf;obtain⟨g,first,cap,rfl,aB⟩:=hf;have h2:=aB x hc U vs (Heap.Le.refl _) (Ph hx ha);have dz:=ON (x:=p x) hr;exact⟨dz,g,first,cap,rfl,h2.mono λu U' hu=>⟨hu.1,(JP (P:=P) (pl:=J3) (tb:=Zn) hu.2).retd (λj hj=>by omega) _ _ dz⟩⟩
   .cases hg
  |_=>cases hg
end
end Go.V
namespace Go.V
open Go
theorem DropTo.rename2 {σ0 σf U':Heap}{v v':Value}(π:Nat->Nat) (h1:σ0.n<=U'.n)
  (h2:∀ i,i<σ0.n->π i=i/\U'.get i=σf.get i/\(σf.get i=σ0.get i\/∃ b,σf.get i=some b/\b.plain=true))
  (h3:∀ i,σ0.n<=i->i<U'.n->σ0.n<=π i/\((U'.get i=none/\σf.get (π i)=none)\/∃ b' b,U'.get i=some b'/\σf.get (π i)=some b/\BRen U'.n π b' b))
  (h4:∀ i j,σ0.n<=i->i<U'.n->σ0.n<=j->j<U'.n->π i=π j->i=j) (h5:Ren U'.n π v' v):DropTo σ0 v σf v' U':=by
 intro ρ0 w0 ρ w c fS hE hH hv;have hπ:∀ i,i<σ0.n->π i=i:=λi hi=>(h2 i hi).1;have aC:∀ i b',U'.get i=some b'->∃ b,σf.get (π i)=some b/\BRen U'.n π b' b:=λi b' hb=>by
  have hi:=U'.lt hb;rcases zr i σ0.n with ai|bu
  .obtain⟨k1,k2,k3⟩:=h2 i ai;rw[k1];rw[k2] at hb;refine⟨b',hb,?_⟩;rcases k3 with k3|⟨b,k3,k4⟩
   .rw[k3] at hb;obtain⟨p,_,hB⟩:=fS.live i b' hb;exact hB.ren h1 hπ
   grind [osj,BRen.plain]
  grind
 have dN:∀ i j,i<U'.n->j<U'.n->π i=π j->i=j:=(by grind);have hX:Ext ρ0 σ0 w0 (λi=>if i<U'.n then ρ (π i) else none) U' w:=by
  refine⟨hE.os,hE.tape,hE.output,hE.size,hE.keep,?_,h1,λi hi p hp=>?_⟩
  .rintro B hB ⟨i,p,b,hp,hb,hw,rfl⟩;change (if i<U'.n then ρ (π i) else none)=some p at hp;split at hp
   .obtain⟨b0,bI,bP⟩:=aC i b hb;exact hE.wr _ hB ⟨π i,p,b0,hp,bI,by rw[<-bP.wr];exact hw,rfl⟩
   .cases hp
  .change (if i<U'.n then ρ (π i) else none)=some p at hp;split at hp
   .rw[hπ i hi] at hp;exact hE.pl i hi p hp
   .cases hp
 refine⟨λi=>if i<U'.n then ρ (π i) else none,h5.rel hv,fS.ext ⟨λi b' hb=>?_,λi hi=>?_,λi p hp=>?_,λi j p q b cB hp hq hb hw hx=>?_⟩ hX,hX⟩
 .obtain⟨b,bI,bP⟩:=aC i b' hb;obtain⟨p,hp,hB⟩:=hH.live _ b bI;exact⟨p,by simp[U'.lt hb,hp],bP.rel hB⟩
 .show (if i<U'.n then ρ (π i) else none)=none;split
  .rename_i ai;rcases zr i σ0.n with cS|bu
   .obtain⟨k1,k2,_⟩:=h2 i cS;rw[k1];exact hH.dead i (by rw[<-k2];exact hi)
   .obtain⟨_,⟨_,k2⟩|⟨b1,b,k1,_⟩⟩:=h3 i bu ai
    .exact hH.dead _ k2
    .rw[k1] at hi;cases hi
  .rfl
 .change (if i<U'.n then ρ (π i) else none)=some p at hp;split at hp
  .exact hH.lt _ p hp
  .cases hp
 .change (if i<U'.n then ρ (π i) else none)=some p at hp;change (if j<U'.n then ρ (π j) else none)=some q at hq;split at hp
  .rename_i hi;split at hq
   .rename_i hj;obtain⟨b0,bI,bP⟩:=aC i b hb;exact hH.sep (π i) (π j) p q b0 (λe=>cB (dN i j hi hj e)) hp hq bI (by rw[<-bP.wr];exact hw) hx
   .cases hq
  .cases hp
theorem KC.enc {h:Heap}:∀ {k:Kind}{x:k.T}{cs:List Value},k.flat=true->KC h k x cs->cs=Ry k x
 |.i _,_,_,_,e|.bo,_,_,_,e|.st,_,_,_,e=>e
 |.list _,_,_,f,_=>by cases f
 |.pair a b,x,cs,f,e=>by simp only[Kind.flat,z1] at f;obtain⟨c1,c2,rfl,h1,h2⟩:=e;rw[KC.enc f.1 h1,KC.enc f.2 h2];rfl
theorem Rows.enc {h:Heap}{k:Kind}(hk:k.flat=true) {xs:List k.T}{cs:List Value}(hr:Rows (KC h k) xs cs):cs=(xs.map (Ry k)).flatten:=by
 induction hr with
 |nil=>rfl
 |cons h _ ih=>rw[zS,List.flatten_cons,<-ih,KC.enc hk h]
theorem Ny:∀ {k:Kind}{x:k.T},k.flat=true->(Ry k x).all QA=true
 |.i _,_,_|.bo,_,_|.st,_,_=>rfl
 |.list _,_,h=>by cases h
 |.pair a b,x,h=>by simp only[Kind.flat,z1] at h;simp only[Ry,List.all_append,z1];exact⟨Ny h.1,Ny h.2⟩
section
variable {P:Program}
mutual
theorem Yu {B:Heap}{pl:Nat->Value}{tb:Nat->Option Bool}{n:Nat}:∀ (s:SV) (v:Value),s.ret n=true->Yp s=true->SR P B pl tb s v->v=Yl pl s
 |.val k x,v,h,_,hs=>by simp only[SR] at hs;have:=KC.enc h hs;simp only[Yl,<-this,List.headD_cons]
 |.nilS,v,_,_,hs|.nilP,v,_,_,hs|.nilM,v,_,_,hs|.nilF,v,_,_,hs=>by simp only[SR] at hs;exact hs
 |.lst j,v,_,_,hs=>by simp only[SR] at hs;exact hs.1
 |.agg l,v,h,hb,hs=>by simp only[SR] at hs;obtain⟨cs,rfl,h2⟩:=hs;rw[UQ l cs h hb h2];rfl
 |.tup l,v,h,hb,hs=>by simp only[SR] at hs;obtain⟨cs,rfl,h2⟩:=hs;rw[UQ l cs h hb h2];rfl
 |.box _ _,_,_,hb,_|.map _,_,_,hb,_=>by cases hb
 |.any,_,h,_,_|.bid _ _,_,h,_,_|.grd _ _,_,h,_,_|.sub _ _ _ _,_,h,_,_|.elp _ _ _ _,_,h,_,_|.rop _ _ _ _,_,h,_,_|.cp _ _,_,h,_,_|.fn _ _ _,_,h,_,_|.pf _ _ _ _,_,h,_,_=>by cases h
theorem UQ {B:Heap}{pl:Nat->Value}{tb:Nat->Option Bool}{n:Nat}:∀ (s:List SV) (v:List Value),SVs.ret n s=true->KG s=true->SRs P B pl tb s v->v=Wa pl s
 |[],v,_,_,hs=>by simp only[SRs] at hs;exact hs
 |s::ss,v,h,hb,hs=>by simp only[SVs.ret,z1] at h;simp only[KG,z1] at hb;simp only[SRs] at hs;obtain⟨x,y,rfl,h1,h2⟩:=hs;rw[Yu s x h.1 hb.1 h1,UQ ss y h.2 hb.2 h2];rfl
end
theorem EU {k:Kind}{x:k.T}(h:k.flat=true):QA ((Ry k x).headD poison)=true\/(Ry k x).headD poison=poison:=by
 have:=Ny (x:=x) h;cases e:Ry k x with
 |nil=>exact .inr rfl
 |cons a l=>rw[e] at this;simp only[zX,z1] at this;exact .inl this.1
mutual
theorem Ct {n m:Nat}{π:Nat->Nat}{p q:Nat->Value}(h:∀ j,j<m->Ren n π (p j) (q j)):∀ (s:SV),s.ret m=true->Yp s=true->Ren n π (Yl p s) (Yl q s)
 |.val k x,hr,_=>by
  simp only[Yl];rcases EU (x:=x) hr with h|h
  .exact .plain _ h
  .rw[h];exact .poison _
 |.nilS,_,_|.nilP,_,_|.nilM,_,_|.nilF,_,_=>.plain _ rfl
 |.lst j,hr,_=>h j (by simpa [SV.ret,zG] using hr)
 |.agg l,hr,hb=>by have:=Bu h l hr hb;simp only[Yl];refine .agg _ _ (by simpa using this.1) λi h1 h2=>this.2 i _ _ (by simp) (by simp)
 |.tup l,hr,hb=>by have:=Bu h l hr hb;simp only[Yl];refine .tuple _ _ (by simpa using this.1) λi h1 h2=>this.2 i _ _ (by simp) (by simp)
 |.box _ _,_,hb|.map _,_,hb=>by cases hb
 |.any,h,_|.bid _ _,h,_|.grd _ _,h,_|.sub _ _ _ _,h,_|.elp _ _ _ _,h,_|.rop _ _ _ _,h,_|.cp _ _,h,_|.fn _ _ _,h,_|.pf _ _ _ _,h,_=>by cases h
theorem Bu {n m:Nat}{π:Nat->Nat}{p q:Nat->Value}(h:∀ j,j<m->Ren n π (p j) (q j)):∀ (s:List SV),SVs.ret m s=true->KG s=true->LRen n π (Wa p s) (Wa q s)
 |[],_,_=>⟨rfl,λi v c hv=>by simp[Wa] at hv⟩
 |s::ss,hr,hb=>by
  simp only[SVs.ret,z1] at hr;simp only[KG,z1] at hb;have h1:=Ct h s hr.1 hb.1;have h2:=Bu h ss hr.2 hb.2;refine⟨by simp[Wa,h2.1],λi v c hv hc=>?_⟩;cases i with
  |zero=>simp[Wa] at hv hc;subst hv;subst hc;exact h1
  |succ i=>simp[Wa] at hv hc;exact h2.2 i v c hv hc
end
mutual
theorem Sp {m:Nat}{S:Nat->Prop}{p q:Nat->Value}(h:∀ j,j<m->Weak S (p j) (q j)):∀ (s:SV),s.ret m=true->Yp s=true->Weak S (Yl p s) (Yl q s)
 |.val k x,_,_=>.refl _
 |.nilS,_,_|.nilP,_,_|.nilM,_,_|.nilF,_,_=>.refl _
 |.lst j,hr,_=>h j (by simpa [SV.ret,zG] using hr)
 |.agg l,hr,hb=>by have:=MN h l hr hb;simp only[Yl];exact .agg _ _ this.1 this.2
 |.tup l,hr,hb=>by have:=MN h l hr hb;simp only[Yl];exact .tuple _ _ this.1 this.2
 |.box _ _,_,hb|.map _,_,hb=>by cases hb
 |.any,h,_|.bid _ _,h,_|.grd _ _,h,_|.sub _ _ _ _,h,_|.elp _ _ _ _,h,_|.rop _ _ _ _,h,_|.cp _ _,h,_|.fn _ _ _,h,_|.pf _ _ _ _,h,_=>by cases h
theorem MN {m:Nat}{S:Nat->Prop}{p q:Nat->Value}(h:∀ j,j<m->Weak S (p j) (q j)):∀ (s:List SV),SVs.ret m s=true->KG s=true->(Wa p s).length=(Wa q s).length/\∀ (i:Nat) (a b:Value),(Wa p s)[i]?=some a->(Wa q s)[i]?=some b->Weak S a b
 |[],_,_=>⟨rfl,λi v c hv=>by simp[Wa] at hv⟩
 |s::ss,hr,hb=>by
  simp only[SVs.ret,z1] at hr;simp only[KG,z1] at hb;have h1:=Sp h s hr.1 hb.1;have h2:=MN h ss hr.2 hb.2;refine⟨by simp[Wa,h2.1],λi v c hv hc=>?_⟩;cases i with
  |zero=>simp[Wa] at hv hc;subst hv;subst hc;exact h1
  |succ i=>simp[Wa] at hv hc;exact h2.2 i v c hv hc
end
theorem KC.ofEnc {h:Heap}:∀ {k:Kind}{x:k.T},k.flat=true->KC h k x (Ry k x)
 |.i _,_,_|.bo,_,_|.st,_,_=>by simp[KC,Ry]
 |.list _,_,f=>by cases f
 |.pair a b,x,f=>by simp only[Kind.flat,z1] at f;exact⟨_,_,rfl,KC.ofEnc f.1,KC.ofEnc f.2⟩
theorem Rows.ofEnc {h:Heap}{k:Kind}(hk:k.flat=true):∀ xs:List k.T,Rows (KC h k) xs (xs.map (Ry k)).flatten
 |[]=>.nil
 |x::xs=>by rw[zS,List.flatten_cons];exact .cons (KC.ofEnc hk) (Rows.ofEnc hk xs)
mutual
theorem Rw {pl:Nat->Value}{m:Nat}(h:∀ j,j<m->∃ a n c,pl j=.slice a n c):∀ (s:SV),s.ret m=true->Yp s=true->SR P hNil pl Zn s (Yl pl s)
 |.val k x,hr,hb=>by have h1:=KC.ofEnc (h:=hNil) (x:=x) hr;have h2:=KC.length h1;rw[Kind.q1v hb] at h2;obtain⟨c,e⟩:=z_.1 h2;simp only[Yl,SR,e,List.headD_cons];rw[e] at h1;exact h1
 |.nilS,_,_|.nilP,_,_|.nilM,_,_|.nilF,_,_=>by simp[Yl,SR]
 |.lst j,hr,_=>by simp only[Yl,SR];exact⟨trivial,h j (by simpa [SV.ret,zG] using hr)⟩
 |.agg l,hr,hb=>by simp only[Yl,SR];exact⟨_,rfl,R5 h l hr hb⟩
 |.tup l,hr,hb=>by simp only[Yl,SR];exact⟨_,rfl,R5 h l hr hb⟩
 |.box _ _,_,hb|.map _,_,hb=>by cases hb
 |.any,h,_|.bid _ _,h,_|.grd _ _,h,_|.sub _ _ _ _,h,_|.elp _ _ _ _,h,_|.rop _ _ _ _,h,_|.cp _ _,h,_|.fn _ _ _,h,_|.pf _ _ _ _,h,_=>by cases h
theorem R5 {pl:Nat->Value}{m:Nat}(h:∀ j,j<m->∃ a n c,pl j=.slice a n c):∀ (s:List SV),SVs.ret m s=true->KG s=true->SRs P hNil pl Zn s (Wa pl s)
 |[],_,_=>by simp[Wa,SRs]
 |s::ss,hr,hb=>by simp only[SVs.ret,z1] at hr;simp only[KG,z1] at hb;simp only[Wa,SRs];exact⟨_,_,rfl,Rw h s hr.1 hb.1,R5 h ss hr.2 hb.2⟩
end
theorem Q10 {U:Heap}{bs:List OB}(hl:bs.all OB.isL=true) {j:Nat}(hj:j<bs.length):∃ a n c,Pp U bs j=.slice a n c:=by
 have hb:=zf.1 hl _ (zq hj);simp only[Pp,z8 hj];cases e:bs[j] with
 |lst ty k xs nl=>cases nl<;>simp
 |_=>rw[e] at hb;cases hb
theorem E5 {σ0 σf:Heap}(hA:Agree σ0 σf) (hn:σ0.n<=σf.n) {v:SV}{bs:List OB}(hv:v.ret bs.length=true) (cR:Yp v=true) (hb:bs.all OB.ret=true) (hl:bs.all OB.isL=true) {pl:Nat->Value}{u:Value}
  (ah:∀ j b,bs[j]?=some b->OR P hNil pl Zn σf (pl j) b/\∀ i,oid (pl j)=some i->σ0.n<=i)
  (df:∀ j j' i,j<bs.length->j'<bs.length->j≠j'->oid (pl j)=some i->oid (pl j')=some i->False) (hu:SR P hNil pl Zn v u) :
  DropTo σ0 u σf (Yl (Pp σ0 bs) v) (DH σ0 bs):=by
 have dG:=Yu v u hv cR hu;subst dG;have kind:∀ j,j<bs.length->∃ ty k xs nl,bs[j]?=some (.lst ty k xs nl)/\k.flat=true/\((nl=true/\xs=[]/\pl j=.slice none 0 0)\/(nl=false/\∃ i cap c t,pl j=.slice (some ⟨i,0,none⟩) xs.length cap/\xs.length<=cap/\σ0.n<=i/\σf.get i=some (.cells c ⟨k.size,ty⟩ true t)/\c.take (xs.length*k.size)=(xs.map (Ry k)).flatten/\Rows (KC hNil k) xs (xs.map (Ry k)).flatten)):=by
  intro j hj;have e:=z8 hj;have h1:=zf.1 hb _ (zq hj);have h2:=zf.1 hl _ (zq hj);obtain⟨ho,hi⟩:=ah j _ e;cases bO:bs[j] with
  |lst ty k xs nl =>
   rw[bO] at e ho h1;refine⟨ty,k,xs,nl,e,h1,?_⟩;rcases ho with⟨k1,k2,k3⟩|⟨k0,i,cap,c,t,k1,k2,k3,k4,k5⟩
   .exact .inl ⟨k1,k2,k3⟩
   .have k6:=Rows.enc h1 k5;exact .inr ⟨k0,i,cap,c,t,k1,k2,hi i (by rw[k1];rfl),k3,k6,by rw[<-k6];exact k5⟩
  |_=>rw[bO] at h2;cases h2
 let S:Nat->Bool:=λi=>(List.range bs.length).any λj=>decide (oid (pl j)=some i);have hS:∀ i,S i=true<->∃ j,j<bs.length/\oid (pl j)=some i:=(by grind);let σw:Heap:=⟨λi=>if S i=true then ((List.range bs.length).find? λj=>decide (oid (pl j)=some i)).bind λj=>(bs[j]?).bind IX else σf.get i,σf.n,λi hi=>by
  by_cases h:S i=true
  .obtain⟨j,hj,hid⟩:=(hS i).1 h;obtain⟨ty,k,xs,nl,_,_,h3⟩:=kind j hj;rcases h3 with⟨_,_,k3⟩|⟨_,i',cap,c,t,k1,_,_,k3,_⟩
   .rw[k3] at hid;cases hid
   .rw[k1] at hid;obtain rfl:=osj hid;exact absurd (σf.lt k3) (w4.2 hi)
  .rw[z7 h];exact σf.wf i hi⟩
 have dk:∀ j i,j<bs.length->oid (pl j)=some i->σw.get i=(bs[j]?).bind IX:=λj i hj hid=>by
  have h1:S i=true:=(hS i).2 ⟨j,hj,hid⟩;show (if S i=true then _ else _)=_;rw[z6 h1];cases hf:(List.range bs.length).find? λj=>decide (oid (pl j)=some i) with
  |none=>have:=List.find?_eq_none.1 hf j (zL.2 hj);simp[hid] at this
  |some j' =>have h2:=List.find?_some hf;have h3:=zL.1 (List.mem_of_find?_eq_some hf);have h4:j'=j:=(by grind);subst h4;rfl
 let q:Nat->Value:=λj=>match pl j with
  |.slice (some a) n _=>.slice (some a) n n
  |v=>v
 have hq:∀ j,j<bs.length->Weak (λi=>S i=true) (pl j) (q j):=λj hj=>by
  obtain⟨ty,k,xs,nl,_,_,h3⟩:=kind j hj;rcases h3 with⟨_,_,k3⟩|⟨_,i',cap,c,t,k1,k2,_,k3,_⟩
  .simp only[q,k3];exact .refl _
  .simp only[q,k1];exact .sl _ _ _ ((hS i').2 ⟨j,hj,by rw[k1];rfl⟩) k2
 have n7:DropTo σ0 (Yl pl v) σf (Yl q v) σw:=by
  refine DropTo.weaken S (λi hi=>?_) rfl hn (λi hi=>?_) (λi hi=>?_) (Sp hq v hv cR)
  .grind
  .grind
  .obtain⟨j,hj,hid⟩:=(hS i).1 hi;obtain⟨ty,k,xs,nl,e,_,h3⟩:=kind j hj;rcases h3 with⟨_,_,k3⟩|⟨k0,i',cap,c,t,k1,k2,_,k3,k4,_⟩
   .rw[k3] at hid;cases hid
   .rw[k1] at hid;obtain rfl:=osj hid;refine⟨c,_,true,t,xs.length*k.size,k3,?_⟩;rw[dk j _ hj (by rw[k1];rfl),e];simp only[xl,IX,k0];rw[k4];rfl
 have kA:∀ j i,j<bs.length->oid (pl j)=some i->i<σf.n:=λj i hj hid=>by
  obtain⟨ty,k,xs,nl,_,_,h3⟩:=kind j hj;rcases h3 with⟨_,_,k3⟩|⟨_,i',cap,c,t,k1,_,_,k3,_⟩
  .rw[k3] at hid;cases hid
  .rw[k1] at hid;obtain rfl:=osj hid;exact σf.lt k3
 let π:Nat->Nat:=λi=>if i<σ0.n then i else match oid (pl (i-σ0.n)) with
  |some id=>id
  |none=>σf.n+i
 have ur:σw.n=σf.n:=rfl;have n8:DropTo σ0 (Yl q v) σw (Yl (Pp σ0 bs) v) (DH σ0 bs):=by
  refine DropTo.rename2 π (by simp[DH]) (λi hi=>⟨by simp[π,hi],?_,.inl ?_⟩) (λi h1 h2=>?_) (λi j h1 h2 h3 h4 he=>?_) (Ct (λj hj=>?_) v hv cR)
  .have hs:S i=false:=by
    grind
   show (if i<σ0.n then _ else _)=(if S i=true then _ else _);rw[z6 hi,z7 (by simp[hs]),hA i hi]
  .have hs:S i=false:=by
    grind
   show (if S i=true then _ else _)=_;rw[z7 (by simp[hs]),hA i hi]
  .have hj:i-σ0.n<bs.length:=by simp[DH] at h2;omega
   have bu:¬ i<σ0.n:=by omega
   obtain⟨ty,k,xs,nl,e,qH,h3⟩:=kind _ hj;have n9:(DH σ0 bs).get i=(bs[i-σ0.n]?).bind IX:=by show (if i<σ0.n then _ else _)=_;rw[z7 bu]
   rcases h3 with⟨k0,_,k3⟩|⟨k0,i',cap,c,t,k1,k2,lS,k3,k4,_⟩
   .have hp:π i=σf.n+i:=by simp only[π,z7 bu,k3,oid]
    refine⟨by omega,.inl ⟨?_,σw.wf _ (by rw[hp,ur];omega)⟩⟩;rw[n9,e];simp[IX,k0]
   .have hp:π i=i':=by simp only[π,z7 bu,k1,oid]
    rw[hp];have hw:=dk _ i' hj (by rw[k1];rfl);rw[e] at hw;simp only[xl,IX,k0] at hw;refine⟨lS,.inr ⟨_,_,?_,hw,BRen.plain ?_⟩⟩
    .rw[n9,e];simp[IX,k0]
    .simp only[Blk.plain,List.all_flatten,List.all_map];rw[zf];intro x _;exact Ny qH
  .have hi:i-σ0.n<bs.length:=by simp[DH] at h2;omega
   have hj:j-σ0.n<bs.length:=by simp[DH] at h4;omega
   grind
  .obtain⟨ty,k,xs,nl,e,_,h3⟩:=kind j hj;rcases h3 with⟨k0,kx,k3⟩|⟨k0,i',cap,c,t,k1,k2,_,k3,_⟩
   .simp only[Pp,e,k0,zx,q,k3];exact .plain _ rfl
   .simp only[Pp,e,k0,zz,if_false,q,k1];have hp:π (σ0.n+j)=i':=by
     have:¬ σ0.n+j<σ0.n:=by omega
     simp only[π,z7 this,Nat.add_sub_cancel_left,k1,oid]
    have:=Ren.sl (n:=(DH σ0 bs).n) (π:=π) (σ0.n+j) 0 xs.length xs.length (by simp[DH];omega)
    rwa [hp] at this
 exact n7.trans n8
def OB.wfL:OB->Prop
 |.lst _ _ xs nl=>nl=true->xs=[]
 |_=>True
theorem Sm (σ0:Heap) {v:SV}{bs:List OB}(hv:v.ret bs.length=true) (cR:Yp v=true) (hb:bs.all OB.ret=true) (hl:bs.all OB.isL=true) (hw:∀ b∈bs,b.wfL):Ret P σ0 v bs (Yl (Pp σ0 bs) v) (DH σ0 bs):=by
 have kind:∀ j,j<bs.length->∃ ty k xs nl,bs[j]?=some (.lst ty k xs nl)/\k.flat=true/\(nl=true->xs=[]):=λj hj=>by
  have e:=z8 hj;have h1:=zf.1 hb _ (zq hj);have h2:=zf.1 hl _ (zq hj);have h3:=hw _ (zq hj);cases bO:bs[j] with
  |lst ty k xs nl=>rw[bO] at e h1 h3;exact⟨ty,k,xs,nl,e,h1,h3⟩
  |_=>rw[bO] at h2;cases h2
 refine⟨⟨?_,?_⟩,?_,Pp σ0 bs,λj b hj=>?_,λj j' i hj bc aK h1 h2=>?_,Rw (λj hj=>Q10 hl hj) v hv cR⟩
 .refine⟨by simp[DH],λi b hg=>?_⟩;show (if i<σ0.n then _ else _)=_;rw[z6 (σ0.lt hg)];exact hg
 .refine⟨by simp[DH],λi hi hg=>?_⟩;show (if i<σ0.n then _ else _)=_;rw[z6 hi];exact hg
 .rintro rfl;apply Heap.ext'
  .intro i;show (if i<σ0.n then _ else _)=_;by_cases hi:i<σ0.n
   .rw[z6 hi]
   .rw[z7 hi,σ0.wf i (by omega)];rfl
  .simp[DH]
 .have cQ:j<bs.length:=(zu.1 hj).1;obtain⟨ty,k,xs,nl,e,qH,h3⟩:=kind j cQ;obtain rfl:=osj (e.symm.trans hj);cases nl with
  |true =>
   have hp:Pp σ0 bs j=.slice none 0 0:=by simp[Pp,e]
   rw[hp];exact⟨.inl ⟨rfl,h3 rfl,rfl⟩,λi hi=>by cases hi⟩
  |false =>
   have hp:Pp σ0 bs j=.slice (some ⟨σ0.n+j,0,none⟩) xs.length xs.length:=by simp[Pp,e]
   have k5:=Rows.ofEnc (h:=hNil) qH xs;have dU:=k5.length KC.q0f;rw[hp];refine⟨.inr ⟨rfl,σ0.n+j,xs.length,(xs.map (Ry k)).flatten,false,rfl,zd _,?_,by omega,?_⟩,λi hi=>?_⟩
   .show (if σ0.n+j<σ0.n then _ else _)=_;rw[z7 (by omega),Nat.add_sub_cancel_left,e];simp[IX]
   .rw[zC (by omega)];exact k5
   .obtain rfl:=osj hi;exact⟨σ0.wf _ (by simp),by simp⟩
 .obtain⟨ty,k,xs,nl,e,_,h3⟩:=kind j hj;obtain⟨fy,k',bN,gP,e',_,fk⟩:=kind j' bc;simp only[Pp,e] at h1;simp only[Pp,e'] at h2;cases nl with
  |true=>simp[Oid,oid] at h1
  |false =>
   cases gP with
   |true=>simp[Oid,oid] at h2
   |false=>simp[Oid,oid] at h1 h2;omega
end
end Go.V
namespace Go.V
open Go
section
variable {P:Program}{B F:Heap}{pl:Nat->Value}{tb:Nat->Option Bool}{own:Own}{U:Heap}
mutual
theorem E7 {bx:List SV->Nat->SV}(hle:B.Le U) (ax:∀ d,OR P B pl tb U (pl d) (Qa own d))
  (lT:∀ l off b c e t,U.get b=some (.cells c e true t)->SRs P B pl tb l c->SR P U J3 Zn (bx l off) (.pointer (some ⟨b,off,none⟩))) :
  ∀ (s:SV) (v:Value),SR P B pl tb s v->SR P U J3 Zn (Hf own bx s) v
 |.any,v,h=>by simp[Hf,SR]
 |.val k x,v,h=>by simp only[Hf,SR] at h |-;exact h.mono hle
 |.bid n c,v,h=>by simp only[Hf,SR] at h |-;obtain⟨rfl,_⟩:=h;rfl
 |.grd gs s,v,h=>by simp[Hf,SR]
 |.nilS,v,h=>by simp only[Hf,SR] at h |-;exact h
 |.nilP,v,h=>by simp only[Hf,SR] at h |-;exact h
 |.nilM,v,h=>by simp only[Hf,SR] at h |-;exact h
 |.nilF,v,h=>by simp only[Hf,SR] at h |-;exact h
 |.lst o,v,h=>by
  simp only[Hf];split
  .rename_i ty k xs nl ho;have:view own k (.lst o)=some xs:=by simp[view,ho,YM]
   simp only[SR,KC];exact⟨v,rfl,(Ws hle ax this h).mono (Heap.Le.refl _) λ_ _ e=>e.mono hle⟩
  .simp[SR]
 |.sub o lo n sz,v,h=>by
  simp only[Hf];split
  .rename_i ty k xs nl ho;split
   .rename_i az;have:view own k (.sub o lo n sz)=some ((xs.drop lo).take n):=by simp[view,ho,YM,az]
    simp only[SR,KC];exact⟨v,rfl,(Ws hle ax this h).mono (Heap.Le.refl _) λ_ _ e=>e.mono hle⟩
   .simp[SR]
  .simp[SR]
 |.elp o i off sz,v,h=>by simp[Hf,SR]
 |.dd o w,v,h=>by
  simp only[Hf];simp only[SR] at h;split
  .rename_i ty q k xs nl hole ho;have ah:=ax o;rw[ho] at ah;have c_:=DP.le ah;split
   .split
    .obtain⟨h1,_⟩:=h;simp only[SR,KC];refine⟨v,rfl,?_⟩;rw[h1];exact(DP.sl ah).mono c_ λ_ _ e=>e.mono c_
    .simp[SR]
   .simp only[SR];exact KC.mono c_ h
   .simp only[SR];exact KC.mono c_ h.1
   .simp[SR]
  .simp[SR]
 |.map o,v,h=>by simp[Hf,SR]
 |.tup l,v,h=>by simp[Hf,SR]
 |.box o off,v,h=>by
  simp only[Hf];split
  .rename_i l _ ho;have ah:=ax o;rw[ho] at ah;obtain⟨i,c,e,t,h1,h2,h3,_⟩:=ah;simp only[SR] at h
   grind
  .simp[SR]
 |.rop k l i off,v,h=>by simp only[Hf];exact SR.mono (tb:=tb) hle (λn c hn=>hn) (.rop k l i off) v h |> λh=>by simp only[SR] at h |-;exact h
 |.cp l off,v,h=>by simp only[Hf,SR] at h |-;obtain⟨b,c,e,wr,t,h1,h2,h3⟩:=h;exact⟨b,c,e,wr,t,hle.2 _ _ h1,h2,Ja hle ax lT l c h3⟩
 |.agg l,v,h=>by simp only[Hf,SR] at h |-;obtain⟨cs,h1,h2⟩:=h;exact⟨cs,h1,Ja hle ax lT l cs h2⟩
 |.fn f a b,v,h=>by simp only[Hf,SR] at h |-;obtain⟨x,y,h1,h2,h3⟩:=h;exact⟨x,y,h1,Ja hle ax lT a x h2,Ja hle ax lT b y h3⟩
 |.pf ks r cu p,v,h=>by simp only[Hf,SR] at h |-;exact h.mono hle
theorem Ja {bx:List SV->Nat->SV}(hle:B.Le U) (ax:∀ d,OR P B pl tb U (pl d) (Qa own d))
  (lT:∀ l off b c e t,U.get b=some (.cells c e true t)->SRs P B pl tb l c->SR P U J3 Zn (bx l off) (.pointer (some ⟨b,off,none⟩))) :
  ∀ (s:List SV) (v:List Value),SRs P B pl tb s v->SRs P U J3 Zn (Br own bx s) v
 |[],v,h=>by simp only[Br,SRs] at h |-;exact h
 |s::ss,v,h=>by simp only[Br,SRs] at h |-;obtain⟨x,y,h1,h2,h3⟩:=h;exact⟨x,y,h1,E7 hle ax lT s x h2,Ja hle ax lT ss y h3⟩
end
theorem VJ (hle:B.Le U) (ax:∀ d,OR P B pl tb U (pl d) (Qa own d)) {l:List SV}{v:List Value}(h:SRs P B pl tb l v):SRs P U J3 Zn (Pj own l) v:=by
 have h0:∀ {l v},SRs P B pl tb l v->SRs P U J3 Zn (Q75 own l) v:=λh=>Ja hle ax (λ_ _ _ _ _ _ _ _=>by simp[SR]) _ _ h;have h1:∀ {l v},SRs P B pl tb l v->SRs P U J3 Zn (Q7m own l) v:=λh=>Ja hle ax (λl off b c e t hg hs=>by
  simp only[SR];grind) _ _ h
 exact Ja hle ax (λl off b c e t hg hs=>by
  simp only[SR];grind) _ _ h
mutual
theorem I7 {p q:Nat->Value}{n:Nat}(h:∀ j,j<n->p j=q j):∀ (s:SV),s.ret n=true->Yl p s=Yl q s
 |.val _ _,_|.nilS,_|.nilP,_|.nilM,_|.nilF,_=>by simp[Yl]
 |.lst j,hr=>by simp only[Yl];exact h j (by simpa [SV.ret,zG] using hr)
 |.agg l,hr=>by simp only[Yl];rw[TX h l hr]
 |.tup l,hr=>by simp only[Yl];rw[TX h l hr]
 |.box _ _,_|.map _,_=>by simp[Yl]
 |.dd _ _,_=>by simp[Yl]
 |.any,h|.bid _ _,h|.grd _ _,h|.sub _ _ _ _,h|.elp _ _ _ _,h|.rop _ _ _ _,h|.cp _ _,h|.fn _ _ _,h|.pf _ _ _ _,h=>by cases h
theorem TX {p q:Nat->Value}{n:Nat}(h:∀ j,j<n->p j=q j):∀ (s:List SV),SVs.ret n s=true->Wa p s=Wa q s
 |[],_=>rfl
 |s::ss,hr=>by simp only[SVs.ret,z1] at hr;simp only[Wa];rw[I7 h s hr.1,TX h ss hr.2]
end
theorem Zh {cs:List (Nat×CSp)}(aw:CsOk P cs) {f:SV}{args:List SV}{c:Prop}{v:SV}{bs:List OB}{fV:Value}{vs:List Value}(hf:SR P U J3 Zn f fV) (ha:SRs P U J3 Zn args vs)
  (h:Yq cs f args=some (c,v,bs)) (hv:v.ret bs.length=true) (hb:bs.all OB.ret=true) (hc:c):∃ g a b,fV=.func (.func g) a b/\(VCalled P g (a.toList++vs++b.toList) U λu U'=>Ret P U v bs u U') /\
  (bs.all OB.isL=true->Yp v=true->VCalled P g (a.toList++vs++b.toList) U λu U'=>u=Yl (Pp U bs) v/\U'=DH U bs):=by
 have gen:(gap cs 3 f args).map (λx=>(x.1,x.2,([]:List OB)))=some (c,v,bs)->∃ g a b,fV=.func (.func g) a b/\(VCalled P g (a.toList++vs++b.toList) U λu U'=>Ret P U v bs u U') /\
   (bs.all OB.isL=true->Yp v=true->VCalled P g (a.toList++vs++b.toList) U λu U'=>u=Yl (Pp U bs) v/\U'=DH U bs):=λh=>by
  simp only[zk] at h;obtain⟨⟨c',v'⟩,h1,h2⟩:=h;simp only[Prod.mk.injEq] at h2;obtain⟨rfl,rfl,rfl⟩:=h2;obtain⟨h3,g,a,b,rfl,h4⟩:=FA aw 3 U f args c' v' fV vs hf ha h1 hc;refine⟨g,a,b,rfl,h4.mono λu U' hu=>?_,λ_ cR=>h4.mono λu U' hu=>?_⟩
  .obtain⟨rfl,hu⟩:=hu;exact⟨⟨Heap.Le.refl _,Dead.refl _⟩,λ_=>rfl,J3,(λj b hj=>by simp at hj),(λj j' i hj=>by simp at hj),hu⟩
  .obtain⟨rfl,hu⟩:=hu;have hz:DH U' []=U':=(Sm (P:=P) U' (v:=v') (bs:=[]) h3 cR rfl rfl (λb hb=>by cases hb)).2.1 rfl;refine⟨?_,hz.symm⟩;rw[Yu v' u h3 cR hu]
   grind [I7]
 cases f with
 |fn g a b =>
  simp only[Yq] at h;split at h
  .rename_i sp eK;simp only[SR] at hf;obtain⟨x,y,rfl,h1,h2⟩:=hf;refine⟨g,x.toArray,y.toArray,rfl,?_⟩;simpa using aw g sp eK (gap cs 3) (FA aw 3) U (a++args++b) (x++vs++y) c v bs ((h1.append ha).append h2) h hv hb hc
  .cases h
 |_=>exact gen h
theorem Gam.q1w {s:St}{env:Env}{U':Heap}(h:Gam P B F pl tb s env U) (hl:U.Le U') {d:Nat}(ak:(Qa s.own d).live=true) {i:Nat}(hi:Oid (pl d) i):U'.get i=U.get i:=by
  have ai:=(h.obj d).q0s ak hi;cases hb:U.get i with
  |none =>
   have ah:=h.obj d;cases ho:Qa s.own d with
   |dead=>rw[ho] at ak;cases ak
   |lst ty k xs nl =>
    rw[ho] at ah;rcases ah with⟨_,_,h2⟩|⟨_,i',cap,c,t,h2,_,h3,_⟩
    .rw[h2] at hi;cases hi
    .rw[h2] at hi;obtain rfl:=osj hi;rw[h3] at hb;cases hb
   |cells l u=>rw[ho] at ah;obtain⟨i',c,e,t,h2,h3,_⟩:=ah;rw[h2] at hi;obtain rfl:=osj hi;rw[h3] at hb;cases hb
   |mapE kk vk m key n=>rw[ho] at ah;obtain⟨i',es,cl,r,e,h2,h3,_⟩:=ah;rw[h2] at hi;obtain rfl:=osj hi;rw[h3] at hb;cases hb
   |map kk vk m=>rw[ho] at ah;obtain⟨i',es,cl,h2,h3,_⟩:=ah;rw[h2] at hi;obtain rfl:=osj hi;rw[h3] at hb;cases hb
   |fm ik l=>rw[ho] at ah;obtain⟨i',es,cl,h2,h3,_⟩:=ah;rw[h2] at hi;obtain rfl:=osj hi;rw[h3] at hb;cases hb
   |stk l vals=>rw[ho] at ak;cases ak
   |lpf l q s=>rw[ho] at ah ak;obtain⟨h2,_,h3⟩:=ah;rw[h2] at hi;obtain rfl:=osj hi;have h3:=h3 ak;rw[hb] at h3;cases h3
   |iter kk vk m dn=>rw[ho] at ah;obtain⟨j',i',es,cl,wr,seen,h2,h3,_⟩:=ah;rw[h2] at hi;obtain rfl:=osj hi;rw[h3] at hb;cases hb
   |siter l pos=>rw[ho] at ah;obtain⟨j',s',h2,h3,_⟩:=ah;rw[h2] at hi;obtain rfl:=osj hi;rw[h3] at hb;cases hb
   |rmap kk vk m=>rw[ho] at ak;cases ak
   |deep ty q k xs nl hh =>rw[ho] at ah;obtain⟨is,_,d2,d3,_⟩:=DP.open ah;obtain⟨c,e,t,h⟩:=d2.cells i ((d3 i).1 hi);rw[h] at hb;cases hb
  |some b=>rw[hl.2 i b hb]
theorem Gam.heap {s:St}{env:Env}{U':Heap}(h:Gam P B F pl tb s env U) (hl:U.Le U'):Gam P B F pl tb s env U' :=
 ⟨h.bf,h.le.trans hl,h.env,λd=>(h.obj d).mono (Heap.Le.refl _) (λ_ _ h=>h) λak _i hi=>h.q1w hl ak hi,h.fresh,h.sep,h.free⟩
theorem B6 {env:Env}{σ0:Heap}{d nt:Nat}(dV:0<nt) (dg:Nat->Value) (bs:List OB) (hB:F.Le σ0)
  (ah:∀ j b,bs[j]?=some b->b.ret=true/\OR P hNil dg Zn U (dg j) b/\∀ i,Oid (dg j) i->σ0.n<=i)
  (df:∀ j j' i,j<bs.length->j'<bs.length->j≠j'->Oid (dg j) i->Oid (dg j') i->False) :
  ∀ (r:List OB) (j:Nat) (pl:Nat->Value) (s:St),bs.drop j=r->Gam P B F pl tb s env U->(∀ k i,(Qa s.own k).live=true->Oid (pl k) i->i<σ0.n\/∃ j'<j,j'<bs.length/\Oid (dg j') i/\k=d+j'*nt)->(∀ j'<j,j'<bs.length->pl (d+j'*nt)=dg j') ->
   ∃ pl',Gam P B F pl' tb (s.makes d nt j r) env U/\(∀ j'<bs.length,pl' (d+j'*nt)=dg j')/\∀ q,(∀ j'<bs.length,q≠d+j'*nt)->pl' q=pl q/\(Qa (s.makes d nt j r).own q).live=(Qa s.own q).live
 |[],j,pl,s,hr,hG,_,hp=>⟨pl,hG,λj' bc=>hp j' (by
   have:=congrArg List.length hr;simp at this;omega) bc,λq _=>⟨rfl,rfl⟩⟩
 |b::r,j,pl,s,hr,hG,hinv,hp=>by
  have cQ:j<bs.length:=by
   grind [Nat.lt_or_ge,List.drop_eq_nil_of_le]
  have bO:bs[j]?=some b:=by
   have:(bs.drop j)[0]?=some b:=by rw[hr];rfl
   simpa using this
  have jN:bs.drop (j+1)=r:=by
   have:(bs.drop j).drop 1=r:=by rw[hr];rfl
   simpa [List.drop_drop,xR] using this
  obtain⟨h1,h2,h3⟩:=ah j b bO;have cm:∀ j' ,j'≠j->d+j'*nt≠d+j*nt:=(by grind [Nat.eq_of_mul_eq_mul_right]);obtain⟨pl',k1,k2,k3⟩:∃ pl',Gam P B F pl' tb ((s.make (d+j*nt) b).makes d nt (j+1) r) env U/\(∀ j'<bs.length,pl' (d+j'*nt)=dg j')/\∀ q,(∀ j'<bs.length,q≠d+j'*nt)->pl' q=QR pl (d+j*nt) (dg j) q/\(Qa ((s.make (d+j*nt) b).makes d nt (j+1) r).own q).live=(Qa (s.make (d+j*nt) b).own q).live:=by
   refine B6 dV dg bs hB ah df r (j+1) (QR pl (d+j*nt) (dg j)) _ jN (hG.make (d+j*nt) b (dg j) hG.le (λ_ _ _ _ _=>rfl) (h2.retd h1 λ_ _=>rfl) λi _ hi=>⟨F.wf _ (by have:=h3 i hi;have:=hB.1;omega),λk hk hl e=>?_⟩) (λk i hl hi=>?_) λj' bc lU=>?_
   .grind
   .by_cases hk:k=d+j*nt
    .subst hk;simp only[QR,zx] at hi
     grind
    .have bF:(Qa s.own k).live=true:=by
      simp only[St.make,St.kill,Qc,Xy,z7 hk] at hl
      rwa [OB.q0m] at hl
     simp only[QR,z7 hk] at hi
     grind
   .by_cases e:j'=j
    .subst e;simp[QR]
    .simp only[QR,z7 (cm j' e)];exact hp j' (by omega) lU
  refine⟨pl',k1,k2,λq hq=>?_⟩;obtain⟨e1,e2⟩:=k3 q hq;refine⟨by rw[e1];simp[QR,hq j cQ],?_⟩;show (Qa ((s.make (d+j*nt) b).makes d nt (j+1) r).own q).live=_;rw[e2];simp only[St.make,St.kill,Qc,Xy,z7 (hq j cQ),OB.q0m]
theorem Ret.gamF {s:St}{env:Env}{d nt:Nat}(dV:0<nt) (hG:Gam P B F pl tb s env U) {v:SV}{bs:List OB}{u:Value}{U':Heap}(hv:v.ret bs.length=true) (hb:bs.all OB.ret=true) (h:Ret P U v bs u U') :
  ∃ pl',Gam P B F pl' tb (s.makes d nt 0 bs) env U'/\SR P B pl' tb (v.ren d nt) u/\∀ q,(∀ j'<bs.length,q≠d+j'*nt)->(Qa (s.makes d nt 0 bs).own q).live=(Qa s.own q).live/\pl' q=pl q/\((Qa s.own q).live=true->∀ i,Oid (pl q) i->U'.get i=U.get i):=by
 obtain⟨⟨h1,_⟩,_,dg,h2,h3,h4⟩:=h
 obtain⟨pl',h5,h6,h7⟩:=B6 (tb:=tb) (d:=d) dV dg bs hG.le (by grind) h3 bs 0 pl s rfl (hG.heap h1)
  (λk i hl hi=>.inl ((hG.obj k).q0s hl hi)) (λj' bc=>by omega)
 exact⟨pl',h5,SR.ren (tb:=Zn) (λj hj=>h6 j hj) _ _ hv (SR.mono (tb:=Zn) (tb':=Zn) (CX B) (λ_ _ h=>h) _ _ h4),λq hq=>⟨(h7 q hq).2,(h7 q hq).1,λhl i hi=>hG.q1w h1 hl hi⟩⟩
theorem Ret.gam {s:St}{env:Env}{d nt:Nat}(dV:0<nt) (hG:Gam P B F pl tb s env U) {v:SV}{bs:List OB}{u:Value}{U':Heap}(hv:v.ret bs.length=true) (hb:bs.all OB.ret=true) (h:Ret P U v bs u U') :
  ∃ pl',Gam P B F pl' tb (s.makes d nt 0 bs) env U'/\SR P B pl' tb (v.ren d nt) u:=by
 obtain⟨pl',h1,h2,_⟩:=h.gamF dV hG hv hb;exact⟨pl',h1,h2⟩
end
end Go.V
namespace Go.V
open Go
section
variable {P:Program}
structure GBase (B0 F0 D0 B F U:Heap):Prop where
 b:B0.Le B
 f:F0.Le F
 x:∀ i b,F0.get i=some b->B0.get i=none->B.get i=none
 d:Dead D0 U
theorem GBase.of {B F U:Heap}{U':Heap}(_hB:B.Le F) (h:Dead U U'):GBase B F U B F U':=⟨.refl _,.refl _,λ_ _ _ h=>h,h⟩
theorem GBase.trans {B0 F0 D0 B F U B' F' U':Heap}(h:GBase B0 F0 D0 B F U) (h':GBase B F U B' F' U'):GBase B0 F0 D0 B' F' U' :=
 ⟨h.b.trans h'.b,h.f.trans h'.f,λi b h1 h2=>h'.x i b (h.f.2 _ _ h1) (h.x i b h1 h2),h.d.trans h'.d⟩
def GRel (P:Program) (B0 F0 D0:Heap) (s:St) (env:Env) (U:Heap):Prop:=∃ B F pl tb,GBase B0 F0 D0 B F U/\Gam P B F pl tb s env U
theorem Vp {B0 F0 D0 B F:Heap}{U U':Heap}(hB:GBase B0 F0 D0 B F U) (h:Dead U U'):GBase B0 F0 D0 B F U':=⟨hB.b,hB.f,hB.x,hB.d.trans h⟩
theorem Gam.evs {B F:Heap}{pl:Nat->Value}{tb:Nat->Option Bool}{s:St}{env:Env}{U:Heap}(h:Gam P B F pl tb s env U) {gs:List Gd}(hg:Gds tb gs) (x:Operand):SR P B pl tb (gev gs s.env x) (Q6 env x):=FX hg h.env x
theorem Gds.nil {tb:Nat->Option Bool}:Gds tb []:=λ_ h=>by cases h
theorem Ey {gs:List Gd}{c:Prop}(h:IB gs c) (hg:∀ g∈gs,g.c=g.want):c:=by
 induction gs with
 |nil=>exact h
 |cons g gs ih=>exact ih (h (hg g (by simp))) λg' dq=>hg g' (by simp[dq])
theorem Z3 {gs:List Gd}{cs:List Prop}{q:Prop}(h:G4 gs cs q):q/\((∀ g∈gs,g.c=g.want)->∀ c∈cs,c):=by
 induction cs with
 |nil=>exact⟨h,λ_ c hc=>by cases hc⟩
 |cons c cs ih =>obtain⟨h1,h2⟩:=h;obtain⟨h3,h4⟩:=ih h2;exact⟨h3,(by grind [Ey])⟩
theorem Dead.push (U:Heap) (b:Blk):Dead U (U.push b):=⟨by simp,(by grind [Heap.q0g])⟩
theorem Dead.upd (U:Heap) (j:Nat) (b:Blk) (hj:(U.get j).isSome=true):Dead U (U.upd j b):=⟨by simp,(by grind [Heap.q0b])⟩
theorem Dead.kill (U:Heap) (j:Nat):Dead U (U.kill j):=⟨by simp,(by grind [Heap.q0i,Heap.q0c])⟩
theorem SB {e:El}{bytes m:Nat}{U U':Heap}{s u:Value}{xs:List Value}(h:Zv e bytes U s m xs=some (u,U')):Dead U U':=by
 unfold Zv at h;split at h
 .grind [QK,Dead.refl,Dead.push]
 .split at h
  .rename_i hg;split at h
   .split at h
    .grind [QK,Dead.refl]
    .split at h
     .grind [QK,Dead.upd]
     .split at h
      .split at h
       .grind [QK,Dead.push]
       .split at h
        .obtain⟨rfl,rfl⟩:=QK h;exact(Dead.kill _ _).trans (Dead.push _ _)
        .cases h
      .cases h
   .cases h
  .cases h
 .grind [QK,Dead.push]
 .cases h
theorem WQ {o:VOp}{ev:Operand->Value}{U U':Heap}{u:Value}(h:Q8 o ev U=some (u,U')):Dead U U':=by
 by_cases hk:o.kind=2
 .cases o<;>first|(cases hk;done)|skip
  case alloc t z=>obtain⟨rfl,rfl⟩:=QK h;exact Dead.push _ _
  case box t x =>
   simp only[Q8] at h
   grind [QK,Dead.push]
  case buildSlice e z n ps =>
   simp only[Q8] at h
   grind [QK,Dead.push]
  case makeSlice e b z l c =>
   simp only[Q8] at h
   grind [QK,Dead.push]
  case store size a x =>
   simp only[Q8] at h
   grind [QK,Dead.upd]
  case append e b x y =>
   simp only[Q8] at h
   grind [SB]
  case slice size x lo hi mx =>
   simp only[Q8] at h;split at h
   .have sl:∀ {l hh:Nat}{m:Option Nat}{v:Value},Xe size U v l hh m=some (u,U')->Dead U U':=λ{l hh m v} h=>by
     unfold Xe at h
     grind [QK,Dead.refl,Dead.push]
    grind
   .cases h
  case callF f a=>cases h
  case callV f a=>cases h
  case ext x =>
   cases x<;>first|(cases hk;done)|skip
   case makeMap=>obtain⟨rfl,rfl⟩:=QK h;exact Dead.push _ _
   case rangeStr x =>
    simp only[Q8,QT] at h;split at h
    .obtain⟨rfl,rfl⟩:=QK h;exact Dead.push _ _
    .cases h
   case nextStr x =>
    simp only[Q8,QT] at h;split at h
    .split at h
     .rename_i hm;split at h
      .split at h
       .obtain⟨rfl,rfl⟩:=QK h;exact Dead.upd _ _ _ (by rw[hm];rfl)
       .cases h
      .obtain⟨rfl,rfl⟩:=QK h;exact Dead.refl _
     .cases h
    .cases h
   case mapUpdate mk m k v =>
    simp only[Q8,QT] at h;split at h
    .split at h
     .rename_i hm;split at h
      .obtain⟨rfl,rfl⟩:=QK h;refine Dead.upd _ _ _ ?_;unfold Heap.mapAt at hm
       grind
      .cases h
     .cases h
    .cases h
   case mapEntry mk z m k =>
    simp only[Q8,QT] at h;split at h
    .split at h
     .rename_i hm;split at h
      .split at h
       all_goals
        obtain⟨rfl,rfl⟩:=QK h;refine Dead.upd _ _ _ ?_;unfold Heap.mapAt at hm;split at hm
        .rename_i hg;rw[hg];rfl
        .cases hm
      .cases h
     .cases h
    .cases h
   case entryStore m s v =>
    simp only[Q8,QT] at h;split at h
    .split at h
     .rename_i hm;split at h
      .split at h
       .obtain⟨rfl,rfl⟩:=QK h;refine Dead.upd _ _ _ ?_;unfold Heap.mapAt at hm
        grind
       .cases h
      .cases h
     .cases h
    .cases h
   case delete mk m k =>
    simp only[Q8,QT] at h;split at h
    .split at h
     .rename_i hm;split at h
      .obtain⟨rfl,rfl⟩:=QK h;refine Dead.upd _ _ _ ?_;unfold Heap.mapAt at hm
       grind
      .cases h
     .cases h
    .cases h
   case rangeMap x =>
    simp only[Q8,QT] at h
    grind [QK,Dead.push]
   case nextMap x=>cases h
   case copy size a b =>
    simp only[Q8,QT] at h
    grind [QK,Dead.refl,Dead.upd]
   case clear z x =>
    simp only[Q8,QT] at h
    grind [QK,Dead.refl,Dead.upd]
   case strBytes e x =>
    simp only[Q8,QT] at h
    grind [QK,Dead.push]
   case unsafeStr e x n =>
    simp only[Q8,QT] at h;split at h
    .grind [QK,Dead.refl,Dead.upd]
    .cases h
 grind [NI,Dead.refl]
theorem KF {B F:Heap}{pl:Nat->Value}{tb:Nat->Option Bool}{s:St}{env:Env}{U:Heap}(hG:Gam P B F pl tb s env U) {x:Operand}{b:Bool}(h:RN s.env x=some b):Q6 env x=.bool b:=by
 unfold RN at h;split at h
 .rename_i j;split at h
  .rename_i gs v he;split at h
   .split at h
    .rename_i k y;split at h
     .obtain rfl:=osj h;have:=hG.env.getD j undef;rw[he] at this;simp only[SR] at this;have h2:=this.2.1 (λg hg=>by cases hg);have h3:[env.getD j undef]=[Value.bool _]:=h2;exact(zM h3).1
     .cases h
    .cases h
   .cases h
  .cases h
 .cases h
theorem WR {B F:Heap}{pl:Nat->Value}{tb:Nat->Option Bool}{s:St}{env:Env}{U:Heap}(hG:Gam P B F pl tb s env U) {g:Option (Nat×Bool)}{t:Bool}(h:F9 s.env g=some t):Zr env g=some t:=by
 unfold F9 at h;split at h
 .cases h
 .rename_i j want;split at h
  .rename_i b hb;obtain rfl:=osj h;have:=KF hG hb;simp only[Q6] at this;simp only[Zr,this]
  .cases h
theorem Ka {B F:Heap}{pl:Nat->Value}{tb:Nat->Option Bool}{s:St}{env:Env}{U:Heap}(hG:Gam P B F pl tb s env U) {gs:List Gd}(hg:Gds tb gs) {c a b:Operand}{v:SV}(h:AY gs s.env c a b=some v) :
  ∃ u,Q8 (.pick c a b) (Q6 env) U=some (u,U)/\SR P B pl tb v u:=by
 unfold AY at h;split at h
 .rename_i t ht;have e:=KF hG ht;obtain rfl:=osj h;cases t with
  |true=>exact⟨Q6 env a,by simp only[Q8,e];rfl,hG.evs hg a⟩
  |false=>exact⟨Q6 env b,by simp only[Q8,e];rfl,hG.evs hg b⟩
 have hc:=hG.evs hg c;unfold Q07 at h;split at h
 .rename_i n t heq;rw[heq] at hc;simp only[SR] at hc;obtain⟨e,dA⟩:=hc;have ht:∀ w,t=w->Gds tb (gs++[⟨n,w,t⟩]):=λw hw g dq=>by
   rcases zR.1 dq with h1|h1
   .exact hg g h1
   simp_all
  have hv:∀ u,(if t then Q6 env a else Q6 env b)=u->Q8 (.pick c a b) (Q6 env) U=some (u,U):=λu hu=>by simp only[Q8,e];rw[<-hu]
  split at h
  .rename_i b';simp only[zk] at h;obtain⟨y,h1,rfl⟩:=h;refine⟨.bool (t||y),hv _ ?_,Zo _⟩;cases t with
   |true=>rfl
   |false=>simpa using JK h1 (hG.evs (ht false rfl) _)
  .rename_i a' aK;simp only[zk] at h;obtain⟨x,h1,rfl⟩:=h;refine⟨.bool (t&&x),hv _ ?_,Zo _⟩;cases t with
   |true=>simpa using JK h1 (hG.evs (ht true rfl) _)
   |false=>rfl
  .split at h
   .rename_i k x k' y h1 h2;split at h
    .rename_i hk;subst hk;obtain rfl:=osj h;refine⟨.int k (if t then x else y),hv _ ?_,JT _ _⟩;cases t with
     |true=>have:=hG.evs (ht true rfl) a;rw[h1] at this;exact QS rfl this
     |false=>have:=hG.evs (ht false rfl) b;rw[h2] at this;exact QS rfl this
    .cases h
   .rename_i x y h1 h2;obtain rfl:=osj h;refine⟨.bool (if t then x else y),hv _ ?_,Zo _⟩;cases t with
    |true=>have:=hG.evs (ht true rfl) a;rw[h1] at this;exact JK rfl this
    |false=>have:=hG.evs (ht false rfl) b;rw[h2] at this;exact JK rfl this
   .cases h
 .cases h
theorem Gam.bid {B F:Heap}{pl:Nat->Value}{tb:Nat->Option Bool}{s:St}{env:Env}{U:Heap}(hG:Gam P B F pl tb s env U) {j:Nat}{v:SV}{c:Bool}(hv:∀ tb',(∀ n c,tb n=some c->tb' n=some c)->tb' s.nx=some c->SR P B pl tb' v (env.getD j undef)) :
  ∃ tb',(∀ n c,tb n=some c->tb' n=some c)/\tb' s.nx=some c/\Gam P B F pl tb' ⟨s.env.set j v,s.own,s.nx+1⟩ env U:=by
 refine⟨λn=>if n=s.nx then some c else tb n,?_,by simp,?_⟩
 .intro n c' hn;by_cases e:n=s.nx
  .rw[e,hG.free _ (zd _)] at hn;cases hn
  .simp only[z7 e];exact hn
 .have hm:∀ n c',tb n=some c'->(λn=>if n=s.nx then some c else tb n) n=some c':=λn c' hn=>by
   by_cases e:n=s.nx
   .rw[e,hG.free _ (zd _)] at hn;cases hn
   .simp only[z7 e];exact hn
  refine⟨hG.bf,hG.le,?_,λd=>(hG.obj d).mono (Heap.Le.refl _) hm λ_ _ _=>rfl,hG.fresh,hG.sep,λn hn=>?_⟩
  .have h1:=SRs.mono (Heap.Le.refl B) hm _ _ hG.env;by_cases hj:j<env.length
   .have:=h1.set j (hv _ hm (by simp));simp_all
   .have:s.env.set j v=s.env:=List.set_eq_of_length_le (by rw[hG.env.length];omega);rw[this];exact h1
  .have:n≠s.nx:=by simp only at hn;omega
   simp only[z7 this];exact hG.free n (by simp only at hn;omega)
theorem FN {gs:List Gd}(h:¬ ∀ g∈gs,g.c=g.want):∃ g∈gs,g.c≠g.want:=by simp_all
theorem JO {B F:Heap}{pl:Nat->Value}{tb:Nat->Option Bool}{s:St}{env:Env}{U:Heap}(hG:Gam P B F pl tb s env U) {j:Nat}{want:Bool}{gs:List Gd}{s':St}(h:Gp s j want=some (gs,s')) :
  ∃ tb',Gam P B F pl tb' s' env U/\(∀ g∈gs,tb' g.id=some g.c)/\∃ b,Zr env (some (j,want))=some b/\(b=true->∀ g∈gs,g.c=g.want)/\(b=false->∃ g∈gs,g.c≠g.want):=by
 have hj:=hG.env.getD j undef;unfold Gp at h;split at h
 .rename_i c heq;obtain⟨rfl,rfl⟩:=QK h;rw[heq] at hj;have hb:env.getD j undef=.bool c:=JK (s:=.val .bo c) rfl hj;obtain⟨tb',h1,h2,h3⟩:=hG.bid (j:=j) (v:=.bid s.nx c) (c:=c) λtb' _ h=>by simp only[SR];exact⟨hb,h⟩
  refine⟨tb',h3,(by simp_all),c==want,by simp only[Zr,hb],λe g hg=>?_,λe=>⟨_,zK.2 rfl,?_⟩⟩
  .simp_all
  .simpa using e
 .rename_i n c heq;obtain⟨rfl,rfl⟩:=QK h;rw[heq] at hj;simp only[SR] at hj;refine⟨tb,hG,(by simp_all),c==want,by simp only[Zr,hj.1],λe g hg=>?_,λe=>⟨_,zK.2 rfl,?_⟩⟩
  .simp_all
  .simpa using e
 .rename_i pj c heq;obtain⟨rfl,rfl⟩:=QK h;rw[heq] at hj;simp only[SR] at hj;obtain⟨⟨k1,k0⟩,k2,k3⟩:=hj;obtain⟨tb',h1,h2,h3⟩:=hG.bid (j:=j) (v:=.grd pj (.bid s.nx c)) (c:=c) λtb' hm h=>by
   simp only[SR];exact⟨⟨λg hg=>hm _ _ (k1 g hg),h⟩,λhall=>⟨JK (s:=.val .bo c) (P:=P) (B:=B) (pl:=pl) (tb:=tb) rfl (by simpa only [SR] using k2 hall),h⟩,k3⟩
  refine⟨tb',h3,λg hg=>?_,?_⟩
  .grind
  .by_cases hall:∀ g∈pj,g.c=g.want
   .have hb:env.getD j undef=.bool c:=JK (s:=.val .bo c) (P:=P) (B:=B) (pl:=pl) (tb:=tb) rfl (by simpa only [SR] using k2 hall);refine⟨c==want,by simp only[Zr,hb],λe g hg=>?_,(by simp_all)⟩
    grind
   .have hex:=FN hall;refine⟨false,by simp only[Zr,k3 hex];rfl,(λe=>by cases e),λ_=>?_⟩;simp_all
 .rename_i pj n c heq;obtain⟨rfl,rfl⟩:=QK h;rw[heq] at hj;simp only[SR] at hj;obtain⟨⟨k1,k0⟩,k2,k3⟩:=hj;refine⟨tb,hG,λg hg=>?_,?_⟩
  .rcases zR.1 hg with h4|h4
   .exact k1 g h4
   .obtain rfl:=zK.1 h4;exact k0
  .by_cases hall:∀ g∈pj,g.c=g.want
   .obtain⟨hb,dA⟩:=k2 hall;refine⟨c==want,by simp only[Zr,hb],λe g hg=>?_,(by simp_all)⟩
    grind
   .have hex:=FN hall;refine⟨false,by simp only[Zr,k3 hex];rfl,(λe=>by cases e),λ_=>?_⟩;simp_all
 .cases h
theorem Gam.gcall {B F:Heap}{pl:Nat->Value}{tb:Nat->Option Bool}{s:St}{env:Env}{U:Heap}(hG:Gam P B F pl tb s env U) {gs:List Gd}(hg:Gds tb gs) (args:List Operand):SRs P U J3 Zn (Pj s.own (args.map (gev gs s.env))) (args.map (Q6 env)) :=
 VJ hG.leB hG.obj (SRs.map λx _=>hG.evs hg x)
theorem Gam.gfun {B F:Heap}{pl:Nat->Value}{tb:Nat->Option Bool}{s:St}{env:Env}{U:Heap}(hG:Gam P B F pl tb s env U) {gs:List Gd}(hg:Gds tb gs) (f:Operand):SR P U J3 Zn ((Pj s.own [gev gs s.env f]).getD 0 .any) (Q6 env f):=by have:=(VJ hG.leB hG.obj (show SRs P B pl tb [gev gs s.env f] [Q6 env f] by simp only[SRs];exact⟨_,[],rfl,hG.evs hg f,rfl⟩)).getD 0 poison;simpa using this
theorem KI {env:Env}{f:Operand}{args:List Operand}{U:Heap}{K:Value->Heap->Prop}{g:FuncId}{a b:Array Value}(e:Q6 env f=.func (.func g) a b) (h:VCalled P g (a.toList++args.map (Q6 env)++b.toList) U K) :
  vop (Q5 P) (.callV f args) env U K:=by
 simp only[vop,e];exact h
def XOk (P:Program) (f:Nat) (x:XSp):Prop :=
 ∀ (B F:Heap) (pl:Nat->Value) (tb:Nat->Option Bool) (s:St) (env:Env) (U:Heap) (d:Nat) (args:List SV) (vs:List Value) (K:SV->St->Prop) (R:Value->Heap->Prop),
  Gam P B F pl tb s env U->SRs P B pl tb args vs->x d args s K ->
  (∀ v s' B' F' pl' tb' u U',K v s'->GBase B F U B' F' U'->Gam P B' F' pl' tb' s' env U'->SR P B' pl' tb' v u->R u U')->VCalled P f vs U R
def Q5a (P:Program) (f:Nat) (x:XSp) (j:Nat):Prop :=
 ∀ (B F:Heap) (pl:Nat->Value) (tb:Nat->Option Bool) (s:St) (env:Env) (U:Heap) (d:Nat) (args:List SV) (vs:List Value) (K:SV->St->Prop) (R:Value->Heap->Prop) (t:Nat),
  Gam P B F pl tb s env U->SRs P B pl tb args vs->Q03 s.own j args=some t->x d args s K ->
  (∀ v s' u U',K v s'->Dead U U'->Gam P B F pl tb s' env U'->SR P B pl tb v u->FrL [t] s s' pl pl U U'->R u U')->VCalled P f vs U R
def Q77 (P:Program) (f:Nat) (it:ISp):Prop:=ZT P f /\
 ∀ (B:Heap) (args:List SV) (vs:List Value) (c:Prop) (m ar:Nat) (xs:Nat->List SV),SRs P B J3 Zn args vs->it args=some (c,m,ar,xs)->c ->
  (∀ k,(xs k).length=ar/\SVs.pure (xs k)=true)/\∀ (i:Nat) (Y:Hr) (J:Nat->Heap->Prop) (E:Heap->Prop) (τ0:Heap),Yr P i Y->(∀ k Z,J k Z->B.Le Z) ->
   (∀ k us Z,k<m->J k Z->SRs P B J3 Zn (xs k) us->Y us Z λv Z'=>(v=.bool true/\J (k+1) Z')\/(v=.bool false/\E Z')) ->
   J 0 τ0->VCallsTo P f (.func (.yield i) #[] #[]::vs) τ0 λ_ Z=>J m Z\/E Z
def Oi (P:Program) (o:Nat) (y:YSp):Prop :=
 ∀ (B F:Heap) (pl:Nat->Value) (tb:Nat->Option Bool) (s:St) (env:Env) (U:Heap) (args:List SV) (us:List Value) (K:SV->St->Prop) (R:Value->Heap->Prop) (i:Nat),
  Gam P B F pl tb s env U->SRs P B pl tb args us->y args s K->pl o=.pointer (some ⟨i,0,none⟩) ->
  (∀ v s' B' F' pl' tb' u U',K v s'->GBase B F U B' F' U'->Gam P B' F' pl' tb' s' env U'->SR P B' pl' tb' v u->R u U')->BD P i us U R
def Q7s (P:Program) (f:Nat) (x:Q5n):Prop:=ZT P f /\
 ∀ (B F:Heap) (pl:Nat->Value) (tb:Nat->Option Bool) (s:St) (env:Env) (U:Heap) (o:Nat) (args:List SV) (vs:List Value) (y:YSp) (K:St->Prop) (R:Heap->Prop),
  Gam P B F pl tb s env U->SRs P B pl tb args vs->Oi P o y->x o args (o,y) s K ->
  (∀ s' B' F' pl' tb' ae U',K s'->GBase B F U B' F' U'->Gam P B' F' pl' tb' s' ae U'->R U')->VCallsTo P f vs U λ_=>R
structure COk (P:Program) (C:Cx):Prop where
 cs:CsOk P C.cs
 xs:∀ f x,Qp C.xs f=some x->XOk P f x
 it:∀ f x,Qp C.it f=some x->Q77 P f x
 yl:∀ o y,Qp C.yl o=some y->Oi P o y
 iy:∀ f x,Qp C.iy f=some x->Q7s P f x
 xf:∀ f j,Qp C.xf f=some j->∀ x,Qp C.xs f=some x->Q5a P f x j
theorem Dj {C:Cx}(aw:CsOk P C.cs) {B F:Heap}{pl:Nat->Value}{tb:Nat->Option Bool}{s:St}{env:Env}{U:Heap}(hG:Gam P B F pl tb s env U) {gs:List Gd}(hg:Gds tb gs) {raw:Bool}{o:VOp}{cs:List Prop}{v:SV}
  (h:gqc C raw o (gev gs s.env) s.own=some (cs,v)) (hc:∀ c∈cs,c) {K:Value->Heap->Prop}(hK:∀ u,SR P B pl tb v u->K u U):vop (Q5 P) o env U K:=by
 have flat:∀ {c:Prop}{v':SV},(bif v'.ret 0 then some ([c],v') else none)=some (cs,v)->v'.ret 0=true/\c/\v'=v:=λ{c v'} h=>by
  cases hv:v'.ret 0 with
  |false=>rw[hv] at h;cases h
  |true =>rw[hv] at h;obtain⟨rfl,rfl⟩:=QK h;exact⟨rfl,hc _ (by simp),rfl⟩
 have quiet:∀ o,gq C.kt raw o (gev gs s.env) s.own=some (cs,v)->(∀ K,QM (Q8 o (Q6 env) U) (λp=>K p.1 p.2)->vop (Q5 P) o env U K)->vop (Q5 P) o env U K:=λo h hv=>by obtain⟨u,h1,h2⟩:=Ro (hG.evs hg) (λ_=>rfl) hG.leB hG.obj h hc;exact hv K (by rw[h1];exact hK u h2)
 cases o
 case callF f args =>
  simp only[gqc] at h;split at h
  .rename_i c v' heq;obtain⟨h1,h2,rfl⟩:=flat h;obtain⟨g,a,b,h3,h4,_⟩:=Zh aw (show SR P U J3 Zn (.fn f [] []) (.func (.func f) #[] #[]) by simp only[SR,SRs];exact⟨[],[],rfl,rfl,rfl⟩) (hG.gcall hg args) heq h1 rfl h2;obtain⟨rfl,rfl,rfl⟩:=(by simpa using h3:f=g/\#[]=a/\#[]=b);have:=h4.mono (R':=K) λu U' hr=>by
    obtain⟨rfl,hu⟩:=hr.flat h1;exact hK u (hu.retd (λj hj=>by omega) _ _ h1)
   show VCalled P f (args.map (Q6 env)) U K;simpa using this
  .cases h
 case callV f args =>
  simp only[gqc] at h;split at h
  .rename_i c v' heq;obtain⟨h1,h2,rfl⟩:=flat h;obtain⟨g,a,b,h3,h4,_⟩:=Zh aw (hG.gfun hg f) (hG.gcall hg args) heq h1 rfl h2;exact KI h3 (h4.mono λu U' hr=>by
    obtain⟨rfl,hu⟩:=hr.flat h1;exact hK u (hu.retd (λj hj=>by omega) _ _ h1))
  .cases h
 case ext x =>
  cases x
  case nextMap x=>cases h
  all_goals exact quiet _ h λ_ h=>h
 all_goals exact quiet _ h λ_ h=>h
end
end Go.V
namespace Go.V
open Go
section
variable {P:Program}
mutual
theorem Cr:∀ (v:SV) {K:SV->Prop},nmV v K->K v
 |.val k x,K,h=>by simp only[nmV] at h;exact h x rfl
 |.agg l,K,h=>by simp only[nmV] at h;exact He l h
 |.tup l,K,h=>by simp only[nmV] at h;exact He l h
 |.any,_,h|.dd _ _,_,h|.bid _ _,_,h|.grd _ _,_,h|.nilS,_,h|.nilP,_,h|.nilM,_,h|.nilF,_,h|.lst _,_,h|.sub _ _ _ _,_,h|.elp _ _ _ _,_,h|.rop _ _ _ _,_,h|.box _ _,_,h|.cp _ _,_,h|.map _,_,h|.fn _ _ _,_,h|.pf _ _ _ _,_,h=>by simp only[nmV] at h;exact h
theorem He:∀ (l:List SV) {K:List SV->Prop},Q23 l K->K l
 |[],K,h=>by simp only[Q23] at h;exact h
 |v::r,K,h=>by simp only[Q23] at h;exact He r (Cr v h)
end
theorem Q_ {C:Cx}{o:VOp}{ev:Operand->SV}{v:SV}{K:SV->Prop}(h:gnm C o ev v K):K v:=by
 unfold gnm at h
 grind [Cr]
theorem D8 {B:Heap}{pl:Nat->Value}{tb:Nat->Option Bool}{v:SV}{u:Value}(h:SR P B pl tb v u):SR P B pl tb (NV v) u/\gtb tb (NV v):=by
 cases v with
 |bid n c=>simp only[SR] at h;obtain⟨rfl,_⟩:=h;exact⟨Zo _,trivial⟩
 |_=>exact⟨h,trivial⟩
theorem Dd {tb:Nat->Option Bool}(v:SV):gtb tb (NV v):=by cases v<;>trivial
theorem Gq {C:Cx}(aw:COk P C) {B F:Heap}{pl:Nat->Value}{tb:Nat->Option Bool}{s:St}{env:Env}{U:Heap}(hG:Gam P B F pl tb s env U) {d:Nat}{f:SV}{args:List SV}{fV:Value}{vs:List Value}(hf:SR P B pl tb f fV) (ha:SRs P B pl tb args vs) {K:SV->St->Prop}(h:Cs C d f args s K) {R:Value->Heap->Prop}
  (hK:∀ v s' B' F' pl' tb' u U',K v s'->GBase B F U B' F' U'->Gam P B' F' pl' tb' s' env U'->SR P B' pl' tb' v u->R u U'):∃ g a b,fV=.func (.func g) a b/\VCalled P g (a.toList++vs++b.toList) U R:=by
 unfold Cs at h;have qn:SR P U J3 Zn ((Pj s.own [f]).getD 0 .any) fV:=by have:=(VJ hG.leB hG.obj (show SRs P B pl tb [f] [fV] by simp only[SRs];exact⟨_,[],rfl,hf,rfl⟩)).getD 0 poison;simpa using this
 have jY:=VJ hG.leB hG.obj ha;split at h
 .rename_i c v bs heq;cases hb:(v.ret bs.length&&(bs.all OB.ret&&Nat.blt 0 C.nt)) with
  |false=>rw[hb] at h;exact h.elim
  |true =>rw[hb] at h;obtain⟨h1,h2⟩:=h;simp only[z1] at hb;obtain⟨g,a,b,e,aB,_⟩:=Zh aw.cs qn jY heq hb.1 hb.2.1 h1;refine⟨g,a,b,e,aB.mono λu U' hr=>?_⟩;obtain⟨pl',h3,h4⟩:=hr.gam (nt:=C.nt) (d:=d) (by simpa [zG] using hb.2.2) hG hb.1 hb.2.1;exact hK _ _ B F pl' tb u U' h2 (.of hG.bf hr.1.2) h3 h4
 .exact h.elim
theorem MX {C:Cx}(aw:COk P C) {B F:Heap}{pl:Nat->Value}{tb:Nat->Option Bool}{s:St}{env:Env}{U:Heap}(hG:Gam P B F pl tb s env U) {d:Nat}{f:SV}{args:List SV}{fV:Value}{vs:List Value}(hf:SR P B pl tb f fV) (ha:SRs P B pl tb args vs) {K:SV->St->Prop}(h:PI C d f args s K) (uu:∀ o,f≠.dd o .yv) {R:Value->Heap->Prop}
  (hK:∀ v s' B' F' pl' tb' u U',K v s'->GBase B F U B' F' U'->Gam P B' F' pl' tb' s' env U'->SR P B' pl' tb' v u->R u U'):∃ g a b,fV=.func (.func g) a b/\VCalled P g (a.toList++vs++b.toList) U R:=by
 unfold PI at h;split at h
 .rename_i g a b;split at h
  .rename_i x hx;have pk:=hf;simp only[SR] at hf;obtain⟨a',b',rfl,h1,h2⟩:=hf;refine⟨g,a'.toArray,b'.toArray,rfl,?_⟩;have:=aw.xs g x hx B F pl tb s env U d _ _ K R hG (h1.append (ha.append h2)) h hK;simpa using this
  .exact Gq aw hG hf ha h hK
 .exact(uu _ rfl).elim
 .exact Gq aw hG hf ha h hK
theorem AD {C:Cx}{B F:Heap}{pl:Nat->Value}{tb:Nat->Option Bool}{s:St}{env:Env}{U:Heap}(hG:Gam P B F pl tb s env U) {d:Nat}{o:VOp}{K:SV->St->Prop}(h:gnd C d o (gev [] s.env) s K) {R:Value->Heap->Prop}
  (hK:∀ v s' B' F' pl' tb' u U',K v s'->GBase B F U B' F' U'->Gam P B' F' pl' tb' s' env U'->SR P B' pl' tb' v u->R u U'):vop (Q5 P) o env U R:=by
 obtain⟨u,U',pl',v,s',h1,h2,h3,h4⟩:=DG (λx=>hG.evs (Gds.nil (tb:=tb)) x) hG h;have fin:QM (Q8 o (Q6 env) U) (λp=>R p.1 p.2):=by rw[h1];exact hK v s' B F pl' tb u U' h2 (.of hG.bf (WQ h1)) h3.1 h4
 cases o
 case buildSlice e z n ps=>exact fin
 case makeSlice e b z l c=>exact fin
 case append e b x y=>exact fin
 case store size a x=>exact fin
 all_goals exact h.elim
section
variable {B F:Heap}{pl:Nat->Value}{tb:Nat->Option Bool}{s:St}{env:Env}{U:Heap}
def Heap.ins (B U:Heap) (i:Nat) (h:B.n<=U.n):Heap where
 get j:=if j=i then U.get i else B.get j
 n:=U.n
 wf j hj:=by
  by_cases e:j=i
  .simp only[z6 e];subst e;exact U.wf j hj
  .simp only[z7 e];exact B.wf j (zW h hj)
theorem Heap.q0o (B U:Heap) (i:Nat) (h:B.n<=U.n):(B.ins U i h).get i=U.get i:=by simp[Heap.ins]
theorem Heap.q1c (B U:Heap) {i j:Nat}(h:B.n<=U.n) (e:j≠i):(B.ins U i h).get j=B.get j:=by simp[Heap.ins,e]
theorem Heap.Le.ins {B U:Heap}(h:B.Le U) (i:Nat):B.Le (B.ins U i h.1):=⟨h.1,λj b hb=>by
 by_cases e:j=i
 .subst e;rw[Heap.q0o];exact h.2 _ _ hb
 .rw[Heap.q1c _ _ _ e];exact hb⟩
theorem Heap.Le.q2d {B U:Heap}(h:B.Le U) (i:Nat):(B.ins U i h.1).Le U:=⟨zd _,λj b hb=>by
 by_cases e:j=i
 .grind [Heap.q0o]
 .rw[Heap.q1c _ _ _ e] at hb;exact h.2 _ _ hb⟩
theorem Heap.q2e {B F U:Heap}(h:B.Le F) (i:Nat) (hB:B.n<=U.n) (hF:F.n<=U.n):(B.ins U i hB).Le (F.ins U i hF):=⟨zd _,λj b hb=>by
 by_cases e:j=i
 .grind [Heap.q0o]
 .rw[Heap.q1c _ _ _ e] at hb |-;exact h.2 _ _ hb⟩
theorem Gam.freeze (hG:Gam P B F pl tb s env U) {o i:Nat}(hl:(Qa s.own o).live=true) (hi:Oid (pl o) i) :
  GBase B F U (B.ins U i hG.leB.1) (F.ins U i hG.le.1) U/\Gam P (B.ins U i hG.leB.1) (F.ins U i hG.le.1) pl tb ⟨s.env,oset s.own o .dead,s.nx⟩ env U:=by
 have n_:=hG.fresh o i hl hi;have lv:∀ d,(Qa (oset s.own o .dead) d).live=true->d≠o/\(Qa s.own d).live=true:=λd h=>by
  rw[Qc] at h;by_cases e:d=o
  .rw[z6 e] at h;cases h
  .rw[z7 e] at h;exact⟨e,h⟩
 refine⟨⟨hG.leB.ins i,hG.le.ins i,λj b h1 h2=>?_,.refl _⟩,⟨Heap.q2e hG.bf i _ _,hG.le.q2d i,SRs.mono (hG.leB.ins i) (λ_ _ h=>h) _ _ hG.env,λd=>?_,λd j h1 h2=>?_,λd d' j aK h1 h2 h3 h4=>hG.sep d d' j aK (lv d h1).2 (lv d' h2).2 h3 h4,hG.free⟩⟩
 .grind [Heap.q1c]
 .simp only[Qc];by_cases e:d=o
  .rw[z6 e];trivial
  .rw[z7 e];exact(hG.obj d).mono (hG.leB.ins i) (λ_ _ h=>h) λ_ _ _=>rfl
 .obtain⟨aK,bX⟩:=lv d h1;have e:j≠i:=by rintro rfl;exact hG.sep d o j aK bX hl h2 hi
  rw[Heap.q1c _ _ _ e];exact hG.fresh d j bX h2
theorem Gam.own {s':St}(hG:Gam P B F pl tb s env U) (h1:s'.env=s.env) (h2:∀ d,Qa s'.own d=Qa s.own d) (h3:s'.nx=s.nx):Gam P B F pl tb s' env U :=
 ⟨hG.bf,hG.le,by rw[h1];exact hG.env,λd=>by rw[h2];exact hG.obj d,λd i=>by rw[h2];exact hG.fresh d i,λd d' i aK=>by rw[h2,h2];exact hG.sep d d' i aK,λn hn=>hG.free n (by rw[<-h3];exact hn)⟩
theorem Gam.drop (hG:Gam P B F pl tb s env U) (o:Nat):Gam P B F pl tb ⟨s.env,oset s.own o .dead,s.nx⟩ env U:=by
 have lv:∀ d,(Qa (oset s.own o .dead) d).live=true->d≠o/\(Qa s.own d).live=true:=λd h=>by
  rw[Qc] at h;by_cases e:d=o
  .rw[z6 e] at h;cases h
  .rw[z7 e] at h;exact⟨e,h⟩
 refine⟨hG.bf,hG.le,hG.env,λd=>?_,λd j h1 h2=>hG.fresh d j (lv d h1).2 h2,λd d' j aK h1 h2 h3 h4=>hG.sep d d' j aK (lv d h1).2 (lv d' h2).2 h3 h4,hG.free⟩;simp only[Qc];by_cases e:d=o
 .rw[z6 e];trivial
 .rw[z7 e];exact hG.obj d
theorem Ss (s:St) (d:Nat) (b:OB) (q:Nat):Qa (s.make d .dead).own q=Qa (oset (s.make d b).own d .dead) q:=by simp only[St.make,Qc];simp_all
theorem Ec {C:Cx}(hG:Gam P B F pl tb s env U) {d:Nat}{x:Operand}{K:SV->St->Prop}(h:gn C d (.ext (.rangeMap x)) (gev [] s.env) s K) {R:Value->Heap->Prop}
  (hK:∀ v s' B' F' pl' tb' u U',K v s'->GBase B F U B' F' U'->Gam P B' F' pl' tb' s' env U'->SR P B' pl' tb' v u->R u U'):vop (Q5 P) (.ext (.rangeMap x)) env U R:=by
 have ha:=hG.evs (Gds.nil (tb:=tb)) x;simp only[gn] at h;split at h
 .rename_i o h1;rw[h1] at ha;simp only[SR] at ha;split at h
  .rename_i kk vk m ho;split at h
   .have ah:=hG.obj o;rw[ho] at ah;obtain⟨i,es,clock,h2,h3,h4⟩:=ah;obtain⟨g1,g2⟩:=hG.freeze (o:=o) (i:=i) (by rw[ho];rfl) (by rw[h2];rfl)
    have fB:=g2.push d (.iter kk vk m []) (.pointer (some ⟨U.n,0,none⟩)) (.obj (.iter i clock [] clock) true) rfl
     ⟨U.n,i,es,clock,true,[],rfl,Heap.q0a _ _,by rw[Heap.q0o];exact h3,h4.mono g1.b,rfl,λt r h=>by simp at h⟩
    show QM (Q8 (.ext (.rangeMap x)) (Q6 env) U) _;have hv:Q8 (.ext (.rangeMap x)) (Q6 env) U=some (.pointer (some ⟨U.n,0,none⟩),U.push (.obj (.iter i clock [] clock) true)):=by simp only[Q8,QT,ha.1,h2,Heap.mapAt,h3]
    rw[hv];exact hK _ _ _ _ _ _ _ _ h (g1.trans (.of g2.bf (Dead.push _ _))) fB (by simp only[SR,ZP];exact⟨_,rfl,rfl⟩)
   .exact h.elim
  .rename_i kk vk m ho;split at h
   .have ah:=hG.obj o;rw[ho] at ah;obtain⟨i,es,clock,wr,h2,h3,h4⟩:=ah
    have fB:=hG.push d (.iter kk vk m []) (.pointer (some ⟨U.n,0,none⟩)) (.obj (.iter i clock [] clock) true) rfl
     ⟨U.n,i,es,clock,wr,[],rfl,Heap.q0a _ _,h3,h4,rfl,λt r h=>by simp at h⟩
    show QM (Q8 (.ext (.rangeMap x)) (Q6 env) U) _;have hv:Q8 (.ext (.rangeMap x)) (Q6 env) U=some (.pointer (some ⟨U.n,0,none⟩),U.push (.obj (.iter i clock [] clock) true)):=by have fk:=hG.leB.2 _ _ h3;simp only[Q8,QT,ha.1,h2,Heap.mapAt,fk]
    rw[hv];exact hK _ _ _ _ _ _ _ _ h (.of hG.bf (Dead.push _ _)) fB (by simp only[SR,ZP];exact⟨_,rfl,rfl⟩)
   .exact h.elim
  .exact h.elim
 .exact h.elim
theorem Iv {C:Cx}(hG:Gam P B F pl tb s env U) {d:Nat}{x:Operand}{K:SV->St->Prop}(h:gn C d (.ext (.nextMap x)) (gev [] s.env) s K) {R:Value->Heap->Prop}
  (hK:∀ v s' B' F' pl' tb' u U',K v s'->GBase B F U B' F' U'->Gam P B' F' pl' tb' s' env U'->SR P B' pl' tb' v u->R u U'):vop (Q5 P) (.ext (.nextMap x)) env U R:=by
 have ha:=hG.evs (Gds.nil (tb:=tb)) x;simp only[gn] at h;split at h
 .rename_i o f h1;rw[h1] at ha;simp only[SR] at ha;split at h
  .rename_i kk vk m dn ho;split at h
   .rename_i hf;obtain⟨rfl,oa⟩:=hf;have ak:(Qa s.own o).live=true:=by rw[ho];rfl
    have ah:=hG.obj o;rw[ho] at ah;obtain⟨j,i,es,clock,wr,seen,h2,h3,h4,h5,h6⟩:=ah;obtain⟨b,e2,e3⟩:=ha;rw[h2] at e2;obtain rfl:j=b:=by simpa using e2
    have aE:U.mapAt i=some (es,clock,wr):=by simp[Heap.mapAt,hG.leB.2 _ _ h4]
    have hlen:=h5.1.length;obtain⟨hA,hB⟩:=h;have hid:F.get j=none:=hG.fresh o j ak (by rw[h2];rfl);have ck:∀ q i',q≠o->(Qa s.own q).live=true->Oid (pl q) i'->i'≠j:=λq i' hq hl hi e=>by subst e;exact hG.sep q o i' hq hl ak hi (by rw[h2];rfl)
    show LI (Q6 env x) U R;unfold LI;rw[e3];simp only[h3,aE];refine⟨?_,?_,λhall=>?_,λe he nS=>?_⟩
    .cases es with
     |nil=>simp
     |cons e es=>simp[h5.2.2 e (by simp)]
    .rw[zf];intro e he;obtain⟨r,hr⟩:=x8.1 he;obtain⟨_,k1,_⟩:=MR.at h5.1 hr;exact Lf oa k1
    .refine hK _ _ _ _ _ _ _ _ (hA λr hr=>?_) (.of hG.bf (Dead.refl U)) hG (by simp only[SR,SRs];exact⟨[.bool false],rfl,_,[],rfl,rfl,rfl⟩);have dU:r<es.length:=by omega
     have he:=z8 dU;have:=zf.1 hall es[r] (zq dU);have ai:=h5.2.2 _ (zq dU);rw[zt,zg] at this;rcases this with this|this
     .rw[List.contains_iff_mem] at this;obtain⟨t,ht⟩:=x8.1 this;have vI:t<seen.length:=(zu.1 ht).1;have si:t<dn.length:=by have:=h6.1;omega
      obtain⟨e',k1,k2⟩:=h6.2 t dn[t] (z8 si);rw[ht] at k2;have:=Sw h5.2 he k1 (osj k2);rw[this];exact zq si
     .omega
    .obtain⟨r,hr⟩:=x8.1 he;have dU:r<es.length:=(zu.1 hr).1;have sh:r∉dn:=λhm=>by
      obtain⟨t,ht⟩:=x8.1 hm;obtain⟨e',k1,k2⟩:=h6.2 t r ht
      grind
     refine hK _ _ _ _ _ _ _ _ (hB r (by omega) sh) (.of hG.bf (Dead.upd _ _ _ (by rw[h3];rfl))) (hG.write o _ (hG.le.upd hid _) ak (by grind [Heap.q0b]) ⟨j,i,es,clock,wr,seen++[e.2.2],h2,Heap.q0d _ _ (U.lt h3),h4,h5,?_,λt r' ht=>?_⟩) (by simp only[SR,SRs];exact⟨[.bool true,e.1,e.2.1],rfl,_,_,rfl,rfl,_,_,rfl,trivial,_,_,rfl,trivial,rfl⟩)
     .simp[h6.1]
     .rw[List.getElem?_append] at ht;split at ht
      .rename_i ai;obtain⟨e',k1,k2⟩:=h6.2 t r' ht
       grind
      .rename_i bu;have h0:t-dn.length=0:=by
        grind
       rw[h0] at ht;obtain rfl:r=r':=by simpa using ht
       refine⟨e,hr,?_⟩;rw[xk (by have:=h6.1;omega),show t-seen.length=0 by have:=h6.1;omega];rfl
   .exact h.elim
  .exact h.elim
 .exact h.elim
theorem TV {d:Nat}(jU:B.Le F) {ty:Nat}{k:Kind}{xs:List k.T}{nl:Bool}(hk:k.flat=true) {pl':Nat->Value}{u:Value}{U':Heap}(h1:Gam P B F pl' tb (s.make d (.lst ty k xs nl)) env U') (h2:SR P B pl' tb (.lst d) u) (hd:Dead U U') :
  ∃ B' F',GBase B F U B' F' U'/\Gam P B' F' pl' tb (s.make d .dead) env U'/\SR P B' pl' tb (.val (.list k) xs) u:=by
 have ah:=h1.obj d;have bm:Qa (s.make d (.lst ty k xs nl)).own d=.lst ty k xs nl:=by simp only[St.make,Qc,zx]
 rw[bm] at ah;simp only[SR] at h2;obtain⟨rfl,_⟩:=h2;rcases ah with⟨_,hx,hp⟩|⟨_,i,cap,c,t,hp,bL,hg,hlen,a_⟩
 .refine⟨B,F,.of jU hd,(h1.drop d).own rfl (Ss s d _) rfl,?_⟩;simp only[SR];exact⟨_,rfl,.inl ⟨hx,hp⟩⟩
 .obtain⟨g1,g2⟩:=h1.freeze (o:=d) (i:=i) (by rw[bm];rfl) (by rw[hp];rfl);refine⟨_,_,(GBase.of jU hd).trans g1,g2.own rfl (Ss s d _) rfl,?_⟩;simp only[SR];refine⟨_,rfl,.inr ⟨i,0,cap,c,⟨k.size,ty⟩,true,t,hp,bL,by rw[Heap.q0o];exact hg,rfl,by have:=zm k.size bL;omega,?_⟩⟩;rw[xr];exact a_.mono λ_ _ e=>KC.flat hk e
theorem CA {d nt:Nat}(dV:0<nt) (hG:Gam P B F pl tb s env U) {ty:Nat}{k:Kind}{xs:List k.T}{nl:Bool}(hk:k.flat=true) {u:Value}{U':Heap}(h:Ret P U (.lst 0) [.lst ty k xs nl] u U') :
  ∃ B' F' pl',GBase B F U B' F' U'/\Gam P B' F' pl' tb (s.make d .dead) env U'/\SR P B' pl' tb (.val (.list k) xs) u:=by
 obtain⟨pl',h1,h2⟩:=h.gam (d:=d) dV hG (by rfl) (by simp only[zX,List.all_nil,xI,OB.ret];exact hk);simp only[St.makes,Nat.zero_mul,zU,SV.ren] at h1 h2;obtain⟨B',F',k⟩:=TV hG.bf hk h1 h2 h.1.2;exact⟨B',F',pl',k⟩
theorem VH {nt:Nat}{r:Option (Prop×SV×List OB)}{c:Prop}{v:SV}(h:CM nt r=some (c,v)):∃ ty k xs nl,r=some (c,.lst 0,[.lst ty k xs nl])/\v=.val (.list k) xs/\k.flat=true/\0<nt:=by
 unfold CM at h;split at h
 .split at h
  .rename_i k xs _;cases hc:(k.flat&&Nat.blt 0 nt) with
   |false=>rw[hc] at h;cases h
   |true =>rw[hc] at h;obtain⟨rfl,rfl⟩:=QK h;simp only[z1,zG] at hc;exact⟨_,_,_,_,rfl,rfl,hc.1,hc.2⟩
  .cases h
 .cases h
theorem C3 {C:Cx}(aw:CsOk P C.cs) (hG:Gam P B F pl tb s env U) {gs:List Gd}(hg:Gds tb gs) {o:VOp}{c:Prop}{v:SV}{d:Nat}(h:Rt C o (gev gs s.env) s.own=some (c,v)) (hc:c) {K:Value->Heap->Prop}
  (hK:∀ u U' B' F' pl',GBase B F U B' F' U'->Gam P B' F' pl' tb (s.make d .dead) env U'->SR P B' pl' tb v u->K u U'):vop (Q5 P) o env U K:=by
 cases o<;>first|(cases h;done)|skip
 case callF f args =>
  simp only[Rt] at h;obtain⟨ty,k,xs,nl,heq,rfl,hk,dV⟩:=VH h;obtain⟨g,a,b,h3,h4,_⟩:=Zh aw (show SR P U J3 Zn (.fn f [] []) (.func (.func f) #[] #[]) by simp only[SR,SRs];exact⟨[],[],rfl,rfl,rfl⟩) (hG.gcall hg args) heq (by rfl) (by simp only[zX,List.all_nil,xI,OB.ret];exact hk) hc;obtain⟨rfl,rfl,rfl⟩:=(by simpa using h3:f=g/\#[]=a/\#[]=b);have:=h4.mono (R':=K) λu U' hr=>by obtain⟨B',F',pl',k1,k2,k3⟩:=CA (d:=d) dV hG hk hr;exact hK u U' B' F' pl' k1 k2 k3
  show VCalled P f (args.map (Q6 env)) U K;simpa using this
 case callV f args =>
  simp only[Rt] at h;obtain⟨ty,k,xs,nl,heq,rfl,hk,dV⟩:=VH h;obtain⟨g,a,b,h3,h4,_⟩:=Zh aw (hG.gfun hg f) (hG.gcall hg args) heq (by rfl) (by simp only[zX,List.all_nil,xI,OB.ret];exact hk) hc;exact KI h3 (h4.mono λu U' hr=>by
   obtain⟨B',F',pl',k1,k2,k3⟩:=CA (d:=d) dV hG hk hr;exact hK u U' B' F' pl' k1 k2 k3)
 case buildSlice e z n ps =>
  simp only[Rt] at h;split at h
  .rename_i k uv;split at h
   .rename_i dT;split at h
    .rename_i xs hx;obtain⟨rfl,rfl⟩:=QK h;have uw:gn C d (.buildSlice e z n ps) (gev gs s.env) s (λv s'=>v=.lst d/\s'=s.make d (.lst e.ty k xs false)):=by
      simp only[gn,uv,hx];simp_all
     obtain⟨u,U',pl',v,s',h1,⟨rfl,rfl⟩,⟨h3,_⟩,h4⟩:=Vq (λx=>hG.evs hg x) hG uw;obtain⟨B',F',k1,k2,k3⟩:=TV hG.bf dT.2.2 h3 h4 (WQ h1);show QM (Q8 (.buildSlice e z n ps) (Q6 env) U) _;rw[h1];exact hK u U' B' F' pl' k1 k2 k3
    .cases h
   .cases h
  .cases h
theorem SW {C:Cx}{o:VOp}{ev:Operand->SV}{own:Own}{c:Prop}{v:SV}(h:Rt C o ev own=some (c,v)):∃ (k:Kind) (xs:List k.T),v=.val (.list k) xs:=by
 cases o<;>first|(cases h;done)|skip
 case callF=>simp only[Rt] at h;grind [VH]
 case callV=>simp only[Rt] at h;grind [VH]
 case buildSlice e z n ps =>
  simp only[Rt] at h
  grind
theorem IK {C:Cx}(aw:COk P C) {B F:Heap}{pl:Nat->Value}{tb:Nat->Option Bool}{s:St}{env:Env}{U:Heap}(hG:Gam P B F pl tb s env U) {d:Nat}{o:VOp}{K:SV->St->Prop}(h:gn C d o (gev [] s.env) s K) {R:Value->Heap->Prop}
  (hK:∀ v s' B' F' pl' tb' u U',K v s'->GBase B F U B' F' U'->Gam P B' F' pl' tb' s' env U'->SR P B' pl' tb' v u->R u U'):vop (Q5 P) o env U R:=by
 have af:=hG.evs (Gds.nil (tb:=tb));have act:∀ o {T:Nat},NOk P B F tb o (Q6 env) env U K T s pl->(∀ R',QM (Q8 o (Q6 env) U) (λp=>R' p.1 p.2)->vop (Q5 P) o env U R')->vop (Q5 P) o env U R:=λo _ ⟨u,U',pl',v,s',h1,h2,h3,h4⟩ hv=>hv R (by rw[h1];exact hK v s' B F pl' tb u U' h2 (.of hG.bf (WQ h1)) h3.1 h4);have av:∀ args:List Operand,SRs P B pl tb (args.map (gev [] s.env)) (args.map (Q6 env)):=(by grind [SRs.map,Gds.nil]);cases o
 case alloc t z=>exact act _ (FG af hG h) λ_ h=>h
 case box t x=>exact act _ (Q2n af hG h) λ_ h=>h
 case buildSlice e z n ps=>exact act _ (Vq af hG h) λ_ h=>h
 case makeSlice e b z l c=>exact act _ (Hd af hG h) λ_ h=>h
 case append e b x y=>exact act _ (Ao af hG h) λ_ h=>h
 case store size a x=>exact act _ (I4 af hG h) λ_ h=>h
 case callF f args =>
  simp only[gn] at h;obtain⟨g,a,b,h3,h4⟩:=MX aw hG (show SR P B pl tb (.fn f [] []) (.func (.func f) #[] #[]) by simp only[SR,SRs];exact⟨[],[],rfl,rfl,rfl⟩) (av args) h (λ_ e=>by cases e) hK;obtain⟨rfl,rfl,rfl⟩:=(by simpa using h3:f=g/\#[]=a/\#[]=b);show VCalled P f (args.map (Q6 env)) U R;simpa using h4
 case callV f args =>
  simp only[gn] at h;by_cases hy:∃ o,gev [] s.env f=.dd o .yv
  .obtain⟨o,hy⟩:=hy;have hf:=hG.evs (Gds.nil (tb:=tb)) f;have h':PI C d (gev [] s.env f) (args.map (gev [] s.env)) s K:=h;rw[hy] at hf h';simp only[SR,DR] at hf;obtain⟨i,hp,hv⟩:=hf;simp only[PI] at h';split at h'
   .rename_i y ux;have:=aw.yl o y ux B F pl tb s env U _ _ K R i hG (av args) h' hp hK;simp only[vop,hv];exact this
   .exact h'.elim
  obtain⟨g,a,b,h3,h4⟩:=MX aw hG (hG.evs Gds.nil f) (av args) h (λo e=>hy ⟨o,e⟩) hK;exact KI h3 h4
 case ext x =>
  cases x
  case mapUpdate mk m k v=>exact act _ (DZ af hG h) λ_ h=>h
  case delete mk m k=>exact False.elim h
  case mapEntry mk z m k=>exact False.elim h
  case entryStore m s v=>exact False.elim h
  case copy size a b=>exact False.elim h
  case unsafeStr e a n=>exact act _ (Ha af hG h) λ_ h=>h
  case strBytes e a=>exact False.elim h
  case rangeMap a=>exact Ec hG h hK
  case nextMap a=>exact Iv hG h hK
  case rangeStr a=>exact False.elim h
  case nextStr a=>exact False.elim h
  all_goals exact h.elim
 all_goals exact h.elim
theorem Gam.frz (hG:Gam P B F pl tb s env U) (o:Nat):∃ B' F',GBase B F U B' F' U/\Gam P B' F' pl tb (s.frz o) env U:=by
 unfold St.frz;split
 .rename_i ty k xs nl ho;have fin:∀ {B' F':Heap},Gam P B' F' pl tb ⟨s.env,oset s.own o .dead,s.nx⟩ env U->KC B' (.list k) xs [pl o]->Gam P B' F' pl tb ⟨SVs.frz o k xs s.env,Ot o k xs s.own,s.nx⟩ env U:=λ{B' F'} h hk=>by
   have e1:∀ d,Qa (Ot o k xs s.own) d=(Qa (oset s.own o .dead) d).frz o k xs:=λd=>by
    rw[Ih,Qc];by_cases e:d=o
    .rw[z6 e,z6 e];rfl
    .rw[z7 e,z7 e]
   have lv:∀ d,(Qa (Ot o k xs s.own) d).live=(Qa (oset s.own o .dead) d).live:=λd=>by rw[e1,OB.q2h]
   refine⟨h.bf,h.le,SRs.frz hk _ _ h.env,λd=>?_,λd i h1 h2=>?_,λd d' i aK h1 h2=>?_,h.free⟩
   .simp only[e1];exact(h.obj d).frz hk
   .simp only[lv] at h1;exact h.fresh d i h1 h2
   .simp only[lv] at h1 h2;exact h.sep d d' i aK h1 h2
  have ah:=hG.obj o;rw[ho] at ah;rcases ah with⟨_,hx,hp⟩|⟨_,i,cap,c,t,hp,bL,hg,hlen,a_⟩
  .exact⟨B,F,.of hG.bf (.refl _),fin (hG.drop o) ⟨_,rfl,.inl ⟨hx,hp⟩⟩⟩
  .obtain⟨g1,g2⟩:=hG.freeze (o:=o) (i:=i) (by rw[ho];rfl) (by rw[hp];rfl);refine⟨_,_,g1,fin g2 ⟨_,rfl,.inr ⟨i,0,cap,c,⟨k.size,ty⟩,true,t,hp,bL,by rw[Heap.q0o];exact hg,rfl,by have:=zm k.size bL;omega,?_⟩⟩⟩;rw[xr];exact a_.mono λ_ _ e=>KC.mono g1.b e
 .exact⟨B,F,.of hG.bf (.refl _),hG⟩
theorem GRel.frzs {B0 F0 D0:Heap}:∀ (l:List Nat) {s:St},GRel P B0 F0 D0 s env U->GRel P B0 F0 D0 (s.frzs l) env U
 |[],_,h=>h
 |o::r,s,⟨B,F,pl,tb,hB,hG⟩=>by obtain⟨B',F',g1,g2⟩:=hG.frz o;exact GRel.frzs r ⟨B',F',pl,tb,hB.trans g1,g2⟩
end
theorem Ba {j:Nat}{f:Nat->Prop}:∀ {n i:Nat},A6 (j:Int) f n i->i<=j->j<i+n->f j
 |0,i,_,h1,h2=>by omega
 |n+1,i,h,h1,h2=>by
  rcases zr i j with h3|h3
  .exact Ba h.2 h3 (by omega)
  .have:j=i:=by omega
   subst this;exact h.1 rfl
theorem F5 {o:VOp}{len i:Nat}{f:Nat->VOp}(h:Q2i o=some (len,i,f)) {n:Nat}:(∃ size x,f n=.indexAddrArr len size x (.const (.int .i64 (Int.ofNat n))))\/∃ agg size x,f n=.indexArr len agg size x (.const (.int .i64 (Int.ofNat n))):=by
 unfold Q2i at h;split at h
 .cases h;exact .inl ⟨_,_,rfl⟩
 .cases h;exact .inr ⟨_,_,_,rfl⟩
 .cases h
theorem O8 {o:VOp}{len i:Nat}{f:Nat->VOp}(h:Q2i o=some (len,i,f)) {S:VSpecs}{env:Env}{U:Heap}{k:IntKind}{n:Nat}(he:Q6 env (.tmp i)=.int k (n:Int)) {R:Value->Heap->Prop}(hv:vop S (f n) env U R):vop S o env U R:=by
 have hc:Q6 env (.const (.int .i64 (Int.ofNat n)))=.int .i64 (n:Int):=rfl;unfold Q2i at h;split at h
 .rename_i len size x t;cases h;change QM (Q8 _ (Q6 env) U) _ at hv;change QM (Q8 _ (Q6 env) U) _;simp only[Q8,he,hc] at hv |-
  grind
 .rename_i len agg size x t;cases h;change QM (Q8 _ (Q6 env) U) _ at hv;change QM (Q8 _ (Q6 env) U) _;simp only[Q8,he,hc] at hv |-
  grind
 .cases h
theorem Py {C:Cx}(aw:COk P C) {B0 F0 D0:Heap}{s:St}{env:Env}{U:Heap}(hR:GRel P B0 F0 D0 s env U) {o:VOper}{K:St->Prop}(h:Q4n C o s K) {R:Env->Heap->Prop}(hK:∀ s' ae U',K s'->GRel P B0 F0 D0 s' ae U'->R ae U') :
  QM (Zr env o.guard) λb=>vif b (vop (Q5 P) o.op env U λv U'=>R (Jb env o.dst v) U') (R (Jb env o.dst undef) U):=by
 unfold Q4n at h;split at h
 .rename_i hg;rw[hg];refine⟨λ_=>?_,λe=>by cases e⟩
  replace hR:=hR.frzs (Q1b C (o.dst.getD 0) o.op (gev [] s.env) s.own)
  generalize s.frzs (Q1b C (o.dst.getD 0) o.op (gev [] s.env) s.own)=s at h hR;obtain⟨B,F,pl,tb,hB,hG⟩:=hR;unfold Q7g at h;split at h
  .rename_i len i f sj;split at h
   .rename_i k j hj;obtain⟨h1,h2,h3⟩:=h;obtain⟨n,rfl⟩:=zY h1;have hn:n<len:=by omega
    have h4:=Ba h3 (Nat.zero_le n) (by omega);have he:=QS hj (hG.evs (Gds.nil (tb:=tb)) (.tmp i));split at h4
    .rename_i cs v dh;obtain⟨k1,k2⟩:=Z3 h4
     replace k1:=Q_ k1
     have hv:=Dj (C:=C) aw.cs hG Gds.nil (o:=f n) (raw:=C.raw.contains (o.dst.getD 0)) (cs:=cs) (v:=v) (by
      rw[<-dh];obtain⟨size,x,hf⟩|⟨agg,size,x,hf⟩:=F5 sj<;>rw[hf];rfl;rfl) (k2 λg hg=>by cases hg) λu hu=>hK _ _ _ k1 ⟨B,F,pl,tb,hB,hG.put o.dst hu⟩
     exact O8 sj he hv
    .exact h4.elim
   .exact h.elim
  unfold Q6w at h;split at h
  .rename_i c a b bB;split at h
   .rename_i v hv;obtain⟨u,h1,h2⟩:=Ka hG Gds.nil hv;rw[bB];show QM (Q8 (.pick c a b) (Q6 env) U) _;rw[h1];exact hK _ _ _ (Q_ h) ⟨B,F,pl,tb,hB,hG.put o.dst h2⟩
   .exact h.elim
  .rename_i vJ;cases hq:EP o.op with
   |true =>
    rw[hq] at h;simp only[zh] at h;split at h
    .rename_i cs v dh;obtain⟨h1,h2⟩:=Z3 h
     replace h1:=Q_ h1
     refine Dj (C:=C) aw.cs hG Gds.nil (raw:=C.raw.contains (o.dst.getD 0)) (cs:=cs) (v:=v) ?_ (h2 λg hg=>by cases hg) λu hu=>hK _ _ _ h1 ⟨B,F,pl,tb,hB,hG.put o.dst hu⟩;rw[<-dh];cases ho:o.op<;>first|rfl|(rw[ho] at hq;cases hq)
    .exact h.elim
   |false =>
    rw[hq] at h;simp only[zT] at h;split at h
    .rename_i bB;split at h
     .rename_i kk vk _;obtain⟨h1,h2⟩:=F4 hG (C.off+o.dst.getD 0) kk vk;rw[bB];change R (Jb env o.dst (.map (some U.n))) (U.push (.obj (.map [] 0) true));exact hK _ _ _ h ⟨B,F,_,tb,Vp hB (Dead.push _ _),h1.put o.dst h2⟩
     .rename_i ik _;obtain⟨h1,h2⟩:=Ou hG (C.off+o.dst.getD 0) ik;rw[bB];change R (Jb env o.dst (.map (some U.n))) (U.push (.obj (.map [] 0) true));exact hK _ _ _ h ⟨B,F,_,tb,Vp hB (Dead.push _ _),h1.put o.dst h2⟩
     .exact h.elim
    .rename_i bB;cases ja:SA C (o.dst.getD 0) o.op (gev [] s.env) with
     |true =>rw[ja] at h;simp only[zh] at h;exact AD hG h λv s' B' F' pl' tb' u U' h1 hd h2 h3=>hK _ _ _ h1 ⟨B',F',pl',tb',hB.trans hd,h2.put o.dst h3⟩
     |false =>rw[ja] at h;simp only[zT] at h;exact IK aw hG h λv s' B' F' pl' tb' u U' h1 hd h2 h3=>hK _ _ _ h1 ⟨B',F',pl',tb',hB.trans hd,h2.put o.dst h3⟩
 .rename_i j want hg;obtain⟨B,F,pl,tb,hB,hG⟩:=hR;rw[hg];split at h
  .exact h.elim
  .rename_i gs s' cZ;obtain⟨tb',bh,dA,b,hw,bI,bP⟩:=JO hG cZ;rw[hw];refine⟨λe=>?_,λe=>?_⟩
   .have gB:Gds tb' gs:=λg hg=>⟨bI e g hg,dA g hg⟩;have fin:∀ {v u},SR P B pl tb' v u->SR P B pl tb' (.grd gs (NV v)) u:=λ{v u} hs=>by
     simp only[SR]
     grind [D8]
    split at h
    .rename_i c a b' bB;split at h
     .rename_i v hv;obtain⟨u,h1,h2⟩:=Ka bh gB hv;rw[bB];show QM (Q8 (.pick c a b') (Q6 env) U) _;rw[h1];exact hK _ _ _ (Q_ h) ⟨B,F,pl,tb',hB,bh.put o.dst (fin h2)⟩
     .exact h.elim
    .split at h
     .rename_i cs v dh;obtain⟨h1,h2⟩:=Z3 h
      replace h1:=Q_ h1
      exact Dj aw.cs bh gB dh (h2 (bI e)) λu hu=>hK _ _ _ h1 ⟨B,F,pl,tb',hB,bh.put o.dst (fin hu)⟩
     .split at h
      .rename_i c v kK;obtain⟨h1,h2⟩:=Z3 h
       replace h1:=Q_ h1
       refine C3 aw.cs bh gB (d:=C.off+o.dst.getD 0) kK (h2 (bI e) c (by simp)) λu U' B' F' pl' k1 k2 k3=>hK _ _ _ h1 ⟨B',F',pl',tb',hB.trans k1,k2.put o.dst ?_⟩;simp only[SR];refine⟨⟨dA,?_⟩,λ_=>k3,(by grind)⟩;obtain⟨k,xs,rfl⟩:=SW kK;trivial
      .exact h.elim
   .have fin:∀ v,SR P B pl tb' (.grd gs (NV v)) undef:=λv=>by
     simp only[SR];obtain⟨g,hg,aK⟩:=bP e;exact⟨⟨dA,Dd v⟩,λhall=>absurd (hall g hg) aK,λ_=>trivial⟩
    split at h
    .split at h
     .exact hK _ _ _ (Q_ h) ⟨B,F,pl,tb',hB,bh.put o.dst (fin _)⟩
     .exact h.elim
    .split at h
     .exact hK _ _ _ (Q_ (Z3 h).1) ⟨B,F,pl,tb',hB,bh.put o.dst (fin _)⟩
     .split at h
      .rename_i c v kK;refine hK _ _ _ (Q_ (Z3 h).1) ⟨B,F,_,tb',hB,(bh.make (C.off+o.dst.getD 0) .dead undef bh.le (λ_ _ _ _ _=>rfl) trivial (λi hl _=>by cases hl)).put o.dst ?_⟩;simp only[SR];obtain⟨g,hg,aK⟩:=bP e;refine⟨⟨dA,?_⟩,λhall=>absurd (hall g hg) aK,λ_=>trivial⟩;obtain⟨k,xs,rfl⟩:=SW kK;trivial
      .exact h.elim
theorem Iy {C:Cx}(aw:COk P C) {B0 F0 D0:Heap}{s:St}{env:Env}{U:Heap}(hR:GRel P B0 F0 D0 s env U) {o:VOper}{K:St->Prop}(h:gop C o s K) {R:Env->Heap->Prop}(hK:∀ s' ae U',K s'->GRel P B0 F0 D0 s' ae U'->R ae U') :
  QM (Zr env o.guard) λb=>vif b (vop (Q5 P) o.op env U λv U'=>R (Jb env o.dst v) U') (R (Jb env o.dst undef) U):=by
 unfold gop at h;split at h
 .rename_i t ht;have qI:=hR;obtain⟨B,F,pl,tb,hB,hG⟩:=hR;rw[WR hG ht];cases t with
  |true =>simp only[zh] at h;exact Py aw qI (o:=⟨o.dst,o.op,none⟩) h hK
  |false =>simp only[zT] at h;exact⟨(λe=>by cases e),λ_=>hK _ _ _ h ⟨B,F,pl,tb,hB,hG.put o.dst (by simp[SR])⟩⟩
 .exact Py aw hR h hK
theorem Cj {B0 F0 D0:Heap}{s s':St}{env:Env}{U:Heap}(hR:GRel P B0 F0 D0 s env U) {d:Nat}(h:Q1j d s=some s'):GRel P B0 F0 D0 s' env U:=by
 unfold Q1j at h;split at h
 .rename_i o off hd;cases hz:Nat.beq off 0 with
  |false=>rw[hz] at h;cases h
  |true =>
   rw[hz] at h;simp only[zh] at h;have hz:off=0:=zP hz;subst hz;split at h
   .rename_i l _ ho;simp only[xe] at h;subst h;obtain⟨B,F,pl,tb,hB,hG⟩:=hR;have ah:=hG.obj o;rw[ho] at ah;obtain⟨i,c,e,t,e1,e2,e3,_⟩:=ah;obtain⟨k1,k2⟩:=hG.freeze (o:=o) (i:=i) (by rw[ho];rfl) (by rw[e1];rfl);have h1:=hG.env.getD d undef;rw[hd] at h1;have sr:SR P (B.ins U i hG.leB.1) pl tb (.cp l 0) (env.getD d undef):=by
     simp only[SR] at h1 |-;obtain⟨b,q1,q2⟩:=h1;rw[e1] at q1;obtain rfl:i=b:=by simpa using q1
     refine⟨i,c,e,true,t,?_,q2,SRs.mono k1.b (λ_ _ h=>h) _ _ e3⟩;rw[Heap.q0o];exact e2
    have:=k2.put (some d) sr;refine⟨_,_,pl,tb,hB.trans k1,?_⟩;have e2:Jb env (some d) (env.getD d undef)=env:=by
     show env.set d _=env;rcases zr d env.length with h|h
     .simp_all
     .rw[List.set_eq_of_length_le h]
    rw[e2] at this;exact this
   .cases h
 .cases h
theorem Cl {B0 F0 D0:Heap}{raw:List Nat}{s s':St}{env:Env}{U:Heap}(hR:GRel P B0 F0 D0 s env U) {d:Nat}(h:Q1m raw d s=some s'):GRel P B0 F0 D0 s' env U:=by
 unfold Q1m at h;split at h
 .rename_i r hr;split at h
  .rename_i kk vk m ho;simp only[xe] at h;subst h;obtain⟨B,F,pl,tb,hB,hG⟩:=hR;have ah:=hG.obj (r % 1000);rw[ho] at ah;obtain⟨i,es,clock,e1,e2,e3⟩:=ah;obtain⟨k1,k2⟩:=hG.freeze (o:=r % 1000) (i:=i) (by rw[ho];rfl) (by rw[e1];rfl);refine⟨_,_,pl,tb,hB.trans k1,k2.bf,k2.le,k2.env,λj=>?_,λj b hl hi=>?_,λj j' b aK hl bF=>?_,k2.free⟩
   .simp only[Qc];by_cases hj:j=r % 1000
    .subst hj;rw[z6 rfl];exact⟨i,es,clock,_,e1,by rw[Heap.q0o];exact e2,e3.mono k1.b⟩
    .rw[z7 hj];have:=k2.obj j;simp only[Qc,z7 hj] at this;exact this
   .simp only[Qc] at hl;by_cases hj:j=r % 1000
    .rw[z6 hj] at hl;cases hl
    .exact k2.fresh j b (by simpa [Qc,z7 hj] using hl) hi
   .simp only[Qc] at hl bF;by_cases hj:j=r % 1000
    .rw[z6 hj] at hl;cases hl
    .by_cases bc:j'=r % 1000
     .rw[z6 bc] at bF;cases bF
     .exact k2.sep j j' b aK (by simpa [Qc,z7 hj] using hl) (by simpa [Qc,z7 bc] using bF)
  .cases h
 .cases h
theorem AU {C:Cx}{B0 F0 D0:Heap}{s:St}{env:Env}{U:Heap}(hR:GRel P B0 F0 D0 s env U) {d:Option Nat}{K:St->Prop}(h:Q4p C d K s):∃ s2,K s2/\GRel P B0 F0 D0 s2 env U:=by
 unfold Q4p at h;split at h
 .exact⟨s,h,hR⟩
 .rename_i d;cases hb:C.spl.contains d with
  |false=>rw[hb] at h;exact⟨s,h,hR⟩
  |true =>
   rw[hb] at h;simp only[zh] at h;split at h
   .rename_i t ht;obtain⟨B,F,pl,tb,hB,hG⟩:=hR;have he:=JK ht (hG.env.getD d undef);have bt:∀ v,SR P B pl tb v (env.getD d undef)->GRel P B0 F0 D0 (s.put (some d) v) env U:=λv hv=>by
     have:=hG.put (some d) hv;refine⟨B,F,pl,tb,hB,?_⟩;have e2:Jb env (some d) (env.getD d undef)=env:=by
      show env.set d _=env;rcases zr d env.length with h|h
      .rw[ze,z8 h];simp
      .rw[List.set_eq_of_length_le h]
     rw[e2] at this;exact this
    have sr:SR P B pl tb (.grd [] (.val .bo t)) (env.getD d undef):=by simp only[SR];exact⟨⟨(λg hg=>by cases hg),trivial⟩,(λ_=>by rw[he];simp[KC]),λ⟨g,hg,_⟩=>by cases hg⟩
    cases hc:C.raw.contains (3000000+d) with
    |true =>
     rw[hc] at h;cases t with
     |true=>exact⟨_,h,bt _ sr⟩
     |false=>exact⟨_,h,bt _ sr⟩
    |false =>
     rw[hc] at h;cases t with
     |true=>exact⟨_,h.1 rfl,bt _ sr⟩
     |false=>exact⟨_,h.2 rfl,bt _ sr⟩
   .split at h
    .rename_i ik x r hx hr;obtain⟨B,F,pl,tb,hB,hG⟩:=hR;have he:=QS hx (hG.env.getD d undef);obtain⟨h1,h2,h3⟩:=h;obtain⟨n,rfl⟩:=zY (show 0<=x by omega);have h4:=Ba h3 (by omega) (by omega);refine⟨_,h4,B,F,pl,tb,hB,?_⟩;have:=hG.put (some d) (v:=.val (.i ik) (n:Int)) (u:=env.getD d undef) (by rw[he];simp[SR,KC]);have e2:Jb env (some d) (env.getD d undef)=env:=by
      show env.set d _=env;rcases zr d env.length with h|h
      .rw[ze,z8 h];simp
      .rw[List.set_eq_of_length_le h]
     rw[e2] at this;exact this
    .grind [Cj,Cl]
theorem VC {C:Cx}(aw:COk P C) {B0 F0 D0:Heap}:∀ (ops:List VOper) {s:St}{env:Env}{U:Heap},GRel P B0 F0 D0 s env U->∀ {K:St->Prop},Q4o C ops s K->∀ {R:Env->Heap->Prop},(∀ s' ae U',K s'->GRel P B0 F0 D0 s' ae U'->R ae U')->P5 (Q5 P) ops env U R
 |[],s,env,U,hR,_K,h,_R,hK=>hK s env U h hR
 |_o::r,_s,_env,_σ,hR,_K,h,_R,hK=>Iy (R:=λenv U=>P5 (Q5 P) r env U _R) aw hR h λ_ _ _ h1 h2=>by obtain⟨s2,k1,k2⟩:=AU h2 h1;exact VC aw r k2 k1 hK
theorem FI {S:VSpecs}{l:List DOper}{rest:List DSeg}{env:Env}{U:Heap}{K:Env->Heap->Prop}(h:l.all (λo=>!(o.kind==2)&&!(o.op.kind==2))=true) (hv:P5 S (l.map dv) env U λenv U=>VS S rest env U K):VS S (.alts [l]::rest) env U K:=by
 intro ops ho;obtain rfl:=zK.1 ho;have key:∀ (l:List DOper) (env:Env) (pend:List (Nat×(Heap->Prop))) (K':Env->Heap->Prop),l.all (λo=>!(o.kind==2)&&!(o.op.kind==2))=true->P5 S (l.map dv) env U K'->Z9 S l env [U] U pend K':=by
  intro l;induction l with
  |nil=>intro env pend K' _ h;exact h
  |cons o rest ih =>
   intro env pend K' hk h;simp only[zX,z1,Bool.not_eq_true',zB] at hk;obtain⟨⟨aV,aA⟩,hr⟩:=hk;have hr:rest.all (λo=>!(o.kind==2)&&!(o.op.kind==2))=true:=by simpa using hr
   simp only[zS,P5,dv] at h;simp only[Z9];cases hw:Zr env o.guard with
   |none=>rw[hw] at h;exact h.elim
   |some b =>
    rw[hw] at h;obtain⟨ht,hf⟩:=h;refine⟨λe=>?_,λe=>?_⟩
    .have ht:=ht e;obtain⟨p,hp,jN⟩:∃ p,Q8 o.op (Q6 env) U=some p/\P5 S (rest.map dv) (Jb env o.dst p.1) p.2 K':=by
      have:=ht;unfold vop at this;split at this
      .rename_i f bQ heq;rw[heq] at aA;exact absurd rfl aA
      .rename_i f bQ heq;rw[heq] at aA;exact absurd rfl aA
      .rename_i x heq;rw[heq] at aA;exact absurd rfl aA
      .cases dL:Q8 o.op (Q6 env) U with
       |none=>rw[dL] at this;exact this.elim
       |some p=>rw[dL] at this;exact⟨p,rfl,this⟩
     have hq:p.2=U:=(by grind [NI]);rw[hq] at jN;rw[z7 aV];split
     .rw[hp];refine⟨λZ hτ=>?_,ih _ _ _ hr jN⟩;have:Z=U:=by
       grind
      subst this;show QM (Q8 o.op (Q6 env) Z) _;rw[hp];rfl
     .rw[hp];exact ih _ _ _ hr jN
    .simp_all
 have:=key ops env [] _ h hv;have mono:∀ (l:List DOper) (env:Env) (hs:List Heap) (Z:Heap) (pend:List (Nat×(Heap->Prop))) (A B:Env->Heap->Prop),l.all (λo=>!(o.kind==2)&&!(o.op.kind==2))=true->(∀ e s,A e s->B e s)->Z9 S l env hs Z pend A->Z9 S l env hs Z pend B:=by
  intro l;induction l with
  |nil=>intro env hs Z pend A B _ mF h;exact mF _ _ h
  |cons o rest ih =>
   intro env hs Z pend A B hk mF h;simp only[zX,z1,Bool.not_eq_true',zB] at hk;obtain⟨⟨aV,aA⟩,hr⟩:=hk;have hr:rest.all (λo=>!(o.kind==2)&&!(o.op.kind==2))=true:=by simpa using hr
   simp only[Z9] at h |-;cases hw:Zr env o.guard with
   |none=>rw[hw] at h;exact h.elim
   |some b =>
    rw[hw] at h;obtain⟨ht,hf⟩:=h;refine⟨λe=>?_,λe=>?_⟩
    .have ht:=ht e;rw[z7 aV] at ht |-;by_cases qc:o.kind=1
     .rw[z6 qc] at ht |-;cases dL:Q8 o.op (Q6 env) Z with
      |none=>rw[dL] at ht;exact ht.elim
      |some p=>rw[dL] at ht;exact⟨ht.1,ih _ _ _ _ _ _ hr mF ht.2⟩
     .rw[z7 qc] at ht |-;cases dL:Q8 o.op (Q6 env) Z with
      |none=>rw[dL] at ht;exact ht.elim
      |some p=>rw[dL] at ht;exact ih _ _ _ _ _ _ hr mF ht
    .grind
 exact mono ops env _ _ _ _ _ h (λe s hs=>⟨e,s,.refl _ _ _,hs⟩) this
theorem Zm {op:VOp}{ev:Operand->Value}{u:Value}{Z Z':Heap}(h:Q8 op ev Z=some (u,Z')):J4 op ev u Z:=by unfold J4;rw[h];rfl
theorem QV (s:St) (d:Option Nat) (v:SV):(s.put d v).own=s.own:=by cases d<;>rfl
theorem Wt {s s':St}{j:Nat}{want:Bool}{gs:List Gd}(h:Gp s j want=some (gs,s')):s'.own=s.own:=by
 unfold Gp at h
 grind
theorem YQ {C:Cx}{B F:Heap}{pl:Nat->Value}{tb:Nat->Option Bool}{s:St}{env:Env}{U:Heap}(hG:Gam P B F pl tb s env U) {o:DOper}{K:St->Prop}(h:gd1 C o s K) :
  ∃ b,Zr env o.guard=some b/\(b=true->∃ u s' tb',Q8 o.op (Q6 env) U=some (u,U)/\K s'/\s'.own=s.own/\Gam P B F pl tb' s' (Jb env o.dst u) U)/\(b=false->∃ s' tb',K s'/\s'.own=s.own/\Gam P B F pl tb' s' (Jb env o.dst undef) U):=by
 unfold gd1 at h;split at h
 .rename_i hg;rw[hg];refine⟨true,rfl,λ_=>?_,λe=>by cases e⟩;split at h
  .rename_i c a b bB;split at h
   .rename_i v hv;obtain⟨u,h1,h2⟩:=Ka hG Gds.nil hv;exact⟨u,_,tb,by rw[bB];exact h1,Q_ h,QV _ _ _,hG.put o.dst h2⟩
   .exact h.elim
  .split at h
   .rename_i cs v dh;obtain⟨h1,h2⟩:=Z3 h;obtain⟨u,h3,h4⟩:=Ro (hG.evs (Gds.nil (tb:=tb))) (λ_=>rfl) hG.leB hG.obj dh (h2 λg hg=>by cases hg);exact⟨u,_,tb,h3,Q_ h1,QV _ _ _,hG.put o.dst h4⟩
   .exact h.elim
 .rename_i j want hg;rw[hg];split at h
  .exact h.elim
  .rename_i gs s' cZ;obtain⟨tb',bh,dA,b,hw,bI,bP⟩:=JO hG cZ;refine⟨b,hw,λe=>?_,λe=>?_⟩
   .have gB:Gds tb' gs:=λg hg=>⟨bI e g hg,dA g hg⟩;have fin:∀ {v u},SR P B pl tb' v u->SR P B pl tb' (.grd gs (NV v)) u:=λ{v u} hs=>by
     simp only[SR]
     grind [D8]
    split at h
    .rename_i c a b' bB;split at h
     .rename_i v hv;obtain⟨u,h1,h2⟩:=Ka bh gB hv;exact⟨u,_,tb',by rw[bB];exact h1,Q_ h,(QV _ _ _).trans (Wt cZ),bh.put o.dst (fin h2)⟩
     .exact h.elim
    .split at h
     .rename_i cs v dh;obtain⟨h1,h2⟩:=Z3 h;obtain⟨u,h3,h4⟩:=Ro (bh.evs gB) (λ_=>rfl) bh.leB bh.obj dh (h2 (bI e));exact⟨u,_,tb',h3,Q_ h1,(QV _ _ _).trans (Wt cZ),bh.put o.dst (fin h4)⟩
     .exact h.elim
   .have fin:∀ v,SR P B pl tb' (.grd gs (NV v)) undef:=λv=>by
     simp only[SR];obtain⟨g,hg,aK⟩:=bP e;exact⟨⟨dA,Dd v⟩,λhall=>absurd (hall g hg) aK,λ_=>trivial⟩
    split at h
    .split at h
     .exact⟨_,tb',Q_ h,(QV _ _ _).trans (Wt cZ),bh.put o.dst (fin _)⟩
     .exact h.elim
    .split at h
     .exact⟨_,tb',Q_ (Z3 h).1,(QV _ _ _).trans (Wt cZ),bh.put o.dst (fin _)⟩
     .exact h.elim
theorem Cn {bs:List OB}{q:Prop}(h:EH bs q):(∀ b∈bs,b.wf)/\q:=by
 induction bs with
 |nil=>exact⟨(λb hb=>by cases hb),h⟩
 |cons b r ih =>obtain⟨h1,h2⟩:=h;obtain⟨h3,h4⟩:=ih h2;exact(by simp_all)
mutual
theorem A5 {d nt:Nat}:∀ (v:SV),v.ret 0=true->(v.ren d nt).ret 0=true
 |.val k x,h=>h
 |.nilS,_|.nilP,_|.nilM,_|.nilF,_=>rfl
 |.lst j,h|.box j _,h|.map j,h=>by simp[SV.ret,Nat.blt] at h
 |.agg l,h=>by simp only[SV.ren,SV.ret] at h |-;exact B7 l h
 |.tup l,h=>by simp only[SV.ren,SV.ret] at h |-;exact B7 l h
 |.any,h|.bid _ _,h|.grd _ _,h|.sub _ _ _ _,h|.elp _ _ _ _,h|.rop _ _ _ _,h|.cp _ _,h|.fn _ _ _,h|.pf _ _ _ _,h=>by cases h
theorem B7 {d nt:Nat}:∀ (v:List SV),SVs.ret 0 v=true->SVs.ret 0 (SVs.ren d nt v)=true
 |[],_=>rfl
 |s::ss,h=>by simp only[SVs.ret,SVs.ren,z1] at h |-;exact⟨A5 s h.1,B7 ss h.2⟩
end
theorem JS {C:Cx}(aw:COk P C) {B F:Heap}{pl:Nat->Value}{tb:Nat->Option Bool}{s:St}{env:Env}{U:Heap}(hG:Gam P B F pl tb s env U) {d:Nat}{f:SV}{args:List SV}{K:List Nat->SV->St->Prop}(h:Ux C d f args s K) {fV:Value}{vs:List Value}
  (hf:SR P U J3 Zn f fV) (ha:SRs P U J3 Zn args vs):∃ g a b u U' ts v s' pl',fV=.func (.func g) a b/\(VCalled P g (a.toList++vs++b.toList) U λu' aI=>u'=u/\aI=U')/\K ts v s'/\Gam P B F pl' tb s' env U'/\SR P B pl' tb v u/\(ts=[]->U'=U/\pl'=pl/\s'=s)/\U.Le U'/\Dead U U'/\FrL ts s s' pl pl' U U':=by
 unfold Ux at h;split at h
 .rename_i c v bs heq;cases hb:(v.ret bs.length&&(bs.all OB.ret&&(Nat.blt 0 C.nt&&(bs.all OB.isL&&Yp v)))) with
  |false=>rw[hb] at h;exact h.elim
  |true =>
   rw[hb] at h;obtain⟨h1,h2⟩:=h;obtain⟨h3,h4⟩:=Cn h2;simp only[z1] at hb;obtain⟨hv,n6,dV,hl,cR⟩:=hb;obtain⟨g,a,b,e,_,hx⟩:=Zh aw.cs hf ha heq hv n6 h1;have dz:=Sm (P:=P) U hv cR n6 hl (λb hb=>by have:=h3 b hb;cases b<;>exact this);by_cases b_:bs=[]
   .subst b_;obtain⟨k1,k2⟩:=dz.flat hv;refine⟨g,a,b,_,_,_,_,_,pl,e,hx hl cR,h4,?_,?_,λ_=>⟨k1,rfl,rfl⟩,dz.1.1,dz.1.2,λq _=>⟨rfl,rfl,λ_ _ _=>by rw[k1]⟩⟩
    .rw[k1];exact hG
    .exact SR.retd (B:=hNil) (pl:=pl) (tb:=Zn) (n:=0) (λj hj=>by omega) _ _ (A5 v hv) (by grind [SR.ren])
   .obtain⟨pl',h5,h6,h7⟩:=dz.gamF (nt:=C.nt) (d:=d) (by simpa [zG] using dV) hG hv n6;refine⟨g,a,b,_,_,_,_,_,pl',e,hx hl cR,h4,h5,h6,(by simp_all),dz.1.1,dz.1.2,λq hq=>h7 q λj hj e=>hq ?_⟩;exact x7.2 ⟨j,zL.2 hj,e.symm⟩
 .exact h.elim
def Cy:VOp->Bool
 |.callF ..|.callV ..=>true
 |.ext (.rangeMap _)|.ext (.nextMap _)|.ext (.rangeStr _)|.ext (.nextStr _)=>true
 |_=>false
theorem Q2m {C:Cx}{B F:Heap}{pl:Nat->Value}{tb:Nat->Option Bool}{s:St}{env:Env}{U:Heap}(hG:Gam P B F pl tb s env U) {d:Nat}{o:VOp}{K:SV->St->Prop}(h:gn C d o (gev [] s.env) s K) (hc:Cy o=false) :
  NOk P B F tb o (Q6 env) env U K (QN d o (gev [] s.env)) s pl:=by
 have af:=hG.evs (Gds.nil (tb:=tb));cases o
 case alloc t z=>exact FG af hG h
 case box t x=>exact Q2n af hG h
 case buildSlice e z n ps=>exact Vq af hG h
 case makeSlice e b z l c=>exact Hd af hG h
 case append e b x y=>exact Ao af hG h
 case store size a x=>exact I4 af hG h
 case callF=>cases hc
 case callV=>cases hc
 case ext x =>
  cases x
  case mapUpdate mk m k v=>exact DZ af hG h
  case delete mk m k=>exact False.elim h
  case mapEntry mk z m k=>exact False.elim h
  case entryStore m s v=>exact False.elim h
  case copy size a b=>exact False.elim h
  case unsafeStr e a n=>exact Ha af hG h
  case strBytes e a=>exact False.elim h
  case rangeMap=>cases hc
  case nextMap=>cases hc
  case rangeStr=>cases hc
  case nextStr=>cases hc
  all_goals exact h.elim
 all_goals exact h.elim
theorem R7 {o:VOp}{ev:Operand->Value}{U U':Heap}{u:Value}(hm:H8 o=true) (h:Q8 o ev U=some (u,U')):U.Le U':=by
 have push:∀ b:Blk,U.Le (U.push b):=λb=>(Heap.Le.refl U).push b;cases o<;>first|(cases hm;done)|skip
 case alloc t z=>obtain⟨rfl,rfl⟩:=QK h;exact push _
 case box t x =>
  simp only[Q8] at h
  grind
 case buildSlice e z n ps =>
  simp only[Q8] at h
  grind
 case makeSlice e b z l c =>
  simp only[Q8] at h
  grind
def stM:MK:=.agg [.int .i64,.int .i64]
def Q28:Option ZZ->Value
 |some e=>e.2.1
 |none=>.int .i64 0
def LkE (es bC:List ZZ):Prop:=(es.all (λe=>Za stM e.1)=true->bC.all (λe=>Za stM e.1)=true)/\(es.all (λe=>Za stM e.1)=true->∀ k,Za stM k=true->Q28 (Qv k bC)=Q28 (Qv k es))
theorem LkE.trans {a b c:List ZZ}(h:LkE a b) (h':LkE b c):LkE a c:=⟨λk=>h'.1 (h.1 k),λk x hx=>(h'.2 (h.1 k) x hx).trans (h.2 k x hx)⟩
theorem Fg {mk:MK}{z:Value}(h:stP mk z=true):mk=stM/\z=.int .i64 0:=by
 unfold stP at h;split at h
 .exact⟨rfl,by rw[eq_of_beq h]⟩
 .cases h
def Ej (U:Heap) (own:Own) (pl:Nat->Value) (Q:Heap->Prop):Option Nat->Prop
 |none=>∀ Z,U.Le Z->Q Z
 |some q=>(Qa own (q / 2)).live=true/\∃ i b,Oid (pl (q / 2)) i/\U.get i=some b/\(∀ Z,Z.get i=some b->Q Z)/\(q % 2=1->∃ es c wr,b=.obj (.map es c) wr/\∀ Z bC c',LkE es bC->Z.get i=some (.obj (.map bC c') wr)->Q Z)
structure DSt (hs:List Heap) (U:Heap) (pend:List (Nat×(Heap->Prop))) (hl chg:Nat) (A R:List (Nat×Option Nat)) (own:Own) (pl:Nat->Value):Prop where
 len:hs.length=hl
 same:∀ j Z,chg<=j->hs[j]?=some Z->Z=U
 pend:∀ c∈pend,c.1<hl\/∃ r∈R,c.1<=r.1/\Ej U own pl c.2 r.2
 fr:∀ j Z q i,hs[j]?=some Z->QW A j q=true->(Qa own q).live=true->Oid (pl q) i->Z.get i=U.get i
theorem W9 {r:Nat}{U:Heap}:∀ {l:List (Nat×(Heap->Prop))},(∀ c∈l,r<=c.1->c.2 U)->J8 r U l
 |[],_=>trivial
 |c::l,h=>⟨h c (by simp),W9 λc' cO=>h c' (by simp[cO])⟩
theorem Jg {hs:List Heap}{U' Z:Heap}{j:Nat}(h:(hs++[U'])[j]?=some Z):(j<hs.length/\hs[j]?=some Z)\/(j=hs.length/\Z=U'):=by
 grind
theorem Hq {a:Nat×Option Nat}{A:List (Nat×Option Nat)}{j q:Nat}(h:QW (a::A) j q=true) (hj:j<=a.1):(∃ t,a.2=some t/\t≠q)/\QW A j q=true:=by
 simp only[QW,zX,z1,zt,zG] at h;refine⟨?_,h.2⟩;rcases h.1 with h|h
 .omega
 .split at h
  .rename_i t ht;exact⟨t,ht,λe=>by subst e;simp at h⟩
  .cases h
theorem DSt.stay {hs:List Heap}{U:Heap}{pend:List (Nat×(Heap->Prop))}{hl chg:Nat}{A R:List (Nat×Option Nat)}{own:Own}{pl:Nat->Value}(h:DSt hs U pend hl chg A R own pl) :
  J8 hs.length U pend/\DSt (hs++[U]) U pend (hl+1) chg A R own pl:=by
 have hr:∀ c∈pend,∀ r∈R,Ej U own pl c.2 r.2->c.2 U:=λc _ r _ al=>by
  unfold Ej at al;split at al
  .exact al U (.refl _)
  grind
 refine⟨W9 λc hc hle=>?_,⟨by simp[h.len],λj Z hj ht=>?_,λc hc=>?_,λj Z q i ht hu hl hi=>?_⟩⟩
 .rcases h.pend c hc with h1|⟨r,h1,_,h2⟩
  .rw[h.len] at hle;omega
  .exact hr c hc r h1 h2
 .rcases Jg ht with⟨_,h1⟩|⟨_,h1⟩
  .exact h.same j Z hj h1
  .exact h1
 .rcases h.pend c hc with h1|h1
  .exact .inl (by omega)
  .exact .inr h1
 .rcases Jg ht with⟨_,h1⟩|⟨_,rfl⟩
  .exact h.fr j Z q i h1 hu hl hi
  .rfl
theorem DSt.write {hs:List Heap}{U U':Heap}{pend:List (Nat×(Heap->Prop))}{hl chg:Nat}{A R:List (Nat×Option Nat)}{s s':St}{pl pl':Nat->Value}(h:DSt hs U pend hl chg A R s.own pl) {T:Nat}(hf:Fr T s s' pl pl' U U') {mk ext:Bool}(hm:mk=true->U.Le U')
  (hE:ext=true->(Qa s'.own T).live=true/\pl' T=pl T/\∃ i es c bC c',pl T=.map (some i)/\U.get i=some (.obj (.map es c) true)/\U'.get i=some (.obj (.map bC c') true)/\LkE es bC)
  (hc:((mk&&Se R hl T)||PH R hl T||(ext&&Q1y R hl T))=true) (bk:0<hl):J8 hs.length U' pend/\DSt (hs++[U']) U' pend (hl+1) hl ((hl-1,some T)::A) R s'.own pl':=by
 have hr:∀ Q:Heap->Prop,∀ r∈R,hl<=r.1->Ej U s.own pl Q r.2->Ej U' s'.own pl' Q r.2:=λQ r lW bu al=>by
  have hq:∀ q,r.2=some q->q / 2=T->q % 2=1/\ext=true:=λq hq e=>by
   subst e;simp only[zt,z1,Se,PH,Q1y] at hc;rcases hc with (⟨_,hc⟩|hc)|⟨he,hc⟩
   .have:=zf.1 hc r lW;rw[hq] at this;simp only[zt,zG,Nat.beq_refl,xQ,zz,or_false] at this;omega
   .have:=zf.1 hc r lW;rw[hq] at this;simp only[zt,zG,Nat.beq_refl,xQ,zz,or_false] at this;omega
   .have:=zf.1 hc r lW;rw[hq] at this;simp only[zt,zG,Nat.beq_refl,xQ,zz,false_or] at this
    grind [Nat.eq_of_beq_eq_true]
  cases e:r.2 with
  |none =>
   rw[e] at al;have dw:mk=true:=by
    simp only[zt,z1,PH,Q1y] at hc;rcases hc with (⟨hc,_⟩|hc)|⟨_,hc⟩
    .exact hc
    .have:=zf.1 hc r lW;rw[e] at this;simp only[zt,zG,zz,or_false] at this;omega
    .have:=zf.1 hc r lW;rw[e] at this;simp only[zt,zG,zz,or_false] at this;omega
   exactλZ ht=>al Z ((hm dw).trans ht)
  |some q =>
   rw[e] at al;obtain⟨k1,i,b,k2,k3,k4⟩:=al;by_cases ob:q / 2=T
   .obtain⟨ho,he⟩:=hq q e ob;obtain⟨g1,g2,i',es,c,bC,c',g3,g4,g5,g6⟩:=hE he;obtain⟨k5,k6⟩:=k4;obtain⟨vK,c0,wr,rfl,k7⟩:=k6 ho;rw[ob] at k1 k2;have hi:i=i':=FM (by rw[g3];rfl) k2;subst hi;rw[g4] at k3;cases k3;refine⟨by rw[ob];exact g1,i,_,by rw[ob,g2];exact k2,g5,λZ hτ=>k7 Z _ _ g6 hτ,λ_=>⟨_,_,_,rfl,λZ uy vL hl hτ=>k7 Z _ _ (g6.trans hl) hτ⟩⟩
   .obtain⟨f1,f2,f3⟩:=hf (q / 2) ob;exact⟨by rw[f1];exact k1,i,b,by rw[f2];exact k2,by rw[f3 k1 i k2];exact k3,k4⟩
 have now:∀ Q:Heap->Prop,∀ r,Ej U' s'.own pl' Q r->Q U':=λQ r al=>by
  unfold Ej at al;split at al
  .exact al U' (.refl _)
  grind
 refine⟨W9 λc hc hle=>?_,⟨by simp[h.len],λj Z hj ht=>?_,λc hc=>?_,λj Z q i ht hu bF hi=>?_⟩⟩
 .rw[h.len] at hle;rcases h.pend c hc with h1|⟨r,h1,h2,h3⟩
  .omega
  grind
 .rcases Jg ht with⟨h1,_⟩|⟨_,h1⟩
  .rw[h.len] at h1;omega
  .exact h1
 .rcases h.pend c hc with h1|⟨r,h1,h2,h3⟩
  .exact .inl (by omega)
  grind
 .rcases Jg ht with⟨h1,h2⟩|⟨_,rfl⟩
  .rw[h.len] at h1;obtain⟨⟨t,ht,uz⟩,dG⟩:=Hq hu (by simp only;omega);obtain rfl:=osj ht;obtain⟨f1,f2,f3⟩:=hf q (Ne.symm uz);rw[f1] at bF;rw[f2] at hi;rw[f3 bF i hi];exact h.fr j Z q i h2 dG bF hi
  .rfl
theorem NP {ts:List Nat}{hl j q:Nat}{A:List (Nat×Option Nat)}(h:QW (ts.map (λt=>(hl,some t))++A) j q=true) (hj:j<=hl):q∉ts/\QW A j q=true:=by simp only[QW,List.all_append,z1] at h |-;refine⟨λhm=>?_,h.2⟩;have:=zf.1 h.1 (hl,some q) (x7.2 ⟨q,hm,rfl⟩);simp only[zt,zG,Nat.beq_refl,xQ,zz,or_false] at this;omega
theorem DSt.call {hs:List Heap}{U U':Heap}{pend:List (Nat×(Heap->Prop))}{hl chg:Nat}{A R:List (Nat×Option Nat)}{s s':St}{pl pl':Nat->Value}(h:DSt hs U pend hl chg A R s.own pl) (hle:U.Le U') {Ts:List Nat}(hf:FrL Ts s s' pl pl' U U') (bk:0<hl) :
  J8 hs.length U' pend/\DSt (hs++[U']) U' pend (hl+1) hl (Ts.map (λt=>(hl-1,some t))++A) (R.map λr=>(r.1,none)) s'.own pl':=by
 have hr:∀ Q r,Ej U s.own pl Q r->∀ Z,U'.Le Z->Q Z:=λQ r al Z ht=>by
  unfold Ej at al;split at al
  .exact al Z (hle.trans ht)
  .obtain⟨_,i,b,_,h2,h3,_⟩:=al;exact h3 Z (ht.2 _ _ (hle.2 _ _ h2))
 refine⟨W9 λc hc hle=>?_,⟨by simp[h.len],λj Z hj ht=>?_,λc hc=>?_,λj Z q i ht hu bF hi=>?_⟩⟩
 .rcases h.pend c hc with h1|⟨r,h1,_,h2⟩
  .rw[h.len] at hle;omega
  .exact hr _ _ h2 _ (.refl _)
 .rcases Jg ht with⟨h1,_⟩|⟨_,h1⟩
  .rw[h.len] at h1;omega
  .exact h1
 .rcases h.pend c hc with h1|⟨r,h1,h2,h3⟩
  .exact .inl (by omega)
  .exact .inr ⟨(r.1,none),x7.2 ⟨r,h1,rfl⟩,h2,hr _ _ h3⟩
 .rcases Jg ht with⟨h1,h2⟩|⟨_,rfl⟩
  .rw[h.len] at h1;obtain⟨hq,dG⟩:=NP hu (by omega);obtain⟨f1,f2,f3⟩:=hf q hq;rw[f1] at bF;rw[f2] at hi;rw[f3 bF i hi];exact h.fr j Z q i h2 dG bF hi
  .rfl
theorem DSt.writeD {hs:List Heap}{U U':Heap}{pend:List (Nat×(Heap->Prop))}{hl chg:Nat}{A R:List (Nat×Option Nat)}{s s':St}{pl pl':Nat->Value}(h:DSt hs U pend hl chg A R s.own pl) {Ts:List Nat}(hf:FrL Ts s s' pl pl' U U') {mk:Bool}(hm:mk=true->U.Le U')
  (hc:Ea mk R hl Ts=true) (bk:0<hl):J8 hs.length U' pend/\DSt (hs++[U']) U' pend (hl+1) hl (Ts.map (λt=>(hl-1,some t))++A) R s'.own pl':=by
 have hr:∀ Q:Heap->Prop,∀ r∈R,hl<=r.1->Ej U s.own pl Q r.2->Ej U' s'.own pl' Q r.2:=λQ r lW bu al=>by
  have lX:=zf.1 hc r lW;have lX:(match r.2 with|some q=>Ts.all (λt=>!(Nat.beq (q / 2) t))|none=>mk)=true:=by rw[zt,zG] at lX;exact lX.resolve_left (by omega)
  cases e:r.2 with
  |none =>rw[e] at al lX;exactλZ ht=>al Z ((hm lX).trans ht)
  |some q =>
   rw[e] at al lX;obtain⟨k1,i,b,k2,k3,k4⟩:=al;obtain⟨f1,f2,f3⟩:=hf (q / 2) λhq=>by have:=zf.1 lX (q / 2) hq;simp at this
   exact⟨by rw[f1];exact k1,i,b,by rw[f2];exact k2,by rw[f3 k1 i k2];exact k3,k4⟩
 have now:∀ Q:Heap->Prop,∀ r,Ej U' s'.own pl' Q r->Q U':=λQ r al=>by
  unfold Ej at al;split at al
  .exact al U' (.refl _)
  grind
 refine⟨W9 λc hc hle=>?_,⟨by simp[h.len],λj Z hj ht=>?_,λc hc=>?_,λj Z q i ht hu bF hi=>?_⟩⟩
 .rw[h.len] at hle;rcases h.pend c hc with h1|⟨r,h1,h2,h3⟩
  .omega
  grind
 .rcases Jg ht with⟨h1,_⟩|⟨_,h1⟩
  .rw[h.len] at h1;omega
  .exact h1
 .rcases h.pend c hc with h1|⟨r,h1,h2,h3⟩
  .exact .inl (by omega)
  grind
 .rcases Jg ht with⟨h1,h2⟩|⟨_,rfl⟩
  .rw[h.len] at h1;obtain⟨hq,dG⟩:=NP hu (by omega);obtain⟨f1,f2,f3⟩:=hf q hq;rw[f1] at bF;rw[f2] at hi;rw[f3 bF i hi];exact h.fr j Z q i h2 dG bF hi
  .rfl
theorem HQ {hl d j q:Nat}{A:List (Nat×Option Nat)}(h:QW ((hl,none)::A) j q=true):QW ([d].map (λt=>(hl,some t))++A) j q=true:=by simp only[QW,zX,z1,zt,zz,or_false,zS,List.map_nil,xw,xB] at h |-;exact⟨.inl h.1,h.2⟩
theorem DSt.frozen {hs:List Heap}{U:Heap}{pend:List (Nat×(Heap->Prop))}{hl chg m d:Nat}{A R:List (Nat×Option Nat)}{own:Own}{pl:Nat->Value}(h:DSt hs U pend hl chg ([d].map (λt=>(m,some t))++A) R own pl):DSt hs U pend hl chg ((m,none)::A) R own pl :=
 ⟨h.len,h.same,h.pend,λj Z q i ht hu=>h.fr j Z q i ht (HQ hu)⟩
theorem Df {ts:List Nat}{m j:Nat}{A:List (Nat×Option Nat)}(h:N7 (ts.map (λt=>(m,some t))++A) j=true):N7 A j=true:=by simp only[N7,List.all_append,z1] at h;exact h.2
theorem H3 {a:Nat×Option Nat}{j:Nat}{A:List (Nat×Option Nat)}(h:N7 (a::A) j=true):N7 A j=true:=by simp only[N7,zX,z1] at h;exact h.2
theorem Pu {C:Cx}{f:SV}{args:List SV}{cs:List Prop}{v:SV}(h:Fk C f args=some (cs,v)):∃ c ty k xs nl,Yq C.cs f args=some (c,.lst 0,[.lst ty k xs nl])/\cs=[c,nl=true->xs=[]]/\v=.val (.list k) xs/\k.flat=true/\0<C.nt:=by
 unfold Fk at h;split at h
 .rename_i heq;split at h
  .rename_i k xs nl;cases hc:(k.flat&&Nat.blt 0 C.nt) with
   |false=>rw[hc] at h;cases h
   |true =>rw[hc] at h;obtain⟨rfl,rfl⟩:=QK h;simp only[z1,zG] at hc;exact(by grind)
  .cases h
 .cases h
theorem RT {b:OB}(h:b.here=true):b.live=true:=by cases b<;>first|rfl|cases h
theorem Wl {B F:Heap}{pl:Nat->Value}{tb:Nat->Option Bool}{s:St}{env:Env}{U:Heap}(hG:Gam P B F pl tb s env U) {o:VOp}{q:Nat}(h:V2 o (gev [] s.env) s.own=some q) {u:Value}{σ2:Heap}(hv:Q8 o (Q6 env) U=some (u,σ2)) :
  (Qa s.own (q / 2)).live=true/\∃ i b,Oid (pl (q / 2)) i/\U.get i=some b/\(∀ Z,Z.get i=some b->Q8 o (Q6 env) Z=some (u,Z))/\(q % 2=1->∃ es c wr,b=.obj (.map es c) wr/\∀ Z bC c',LkE es bC->Z.get i=some (.obj (.map bC c') wr)->Q8 o (Q6 env) Z=some (u,Z)):=by
 have two:∀ q,2*q / 2=q:=λq=>by omega
 have oc:∀ q,(2*q+1) / 2=q:=λq=>by omega
 have odd:∀ {q} {X:Prop},2*q % 2=1->X:=λ{q X} h=>by omega
 unfold V2 at h;split at h
 .rename_i agg size a;have ha:=hG.evs (Gds.nil (tb:=tb)) a;have key:∀ q i off,(Qa s.own q).live=true->Oid (pl q) i->Q6 env a=.pointer (some ⟨i,off,none⟩)->(Qa s.own q).live=true/\∃ i b,Oid (pl q) i/\U.get i=some b/\∀ Z,Z.get i=some b->Q8 (.load agg size a) (Q6 env) Z=some (u,Z):=λq i off hl hi he=>by
   simp only[Q8,he] at hv;cases hb:U.get i with
   |none=>rw[hb] at hv;cases hv
   |some b =>
    refine⟨hl,i,b,hi,hb,λZ ht=>?_⟩;rw[hb] at hv;simp only[Q8,he,ht];cases b with
    |obj o wr=>cases hv
    |cells c e wr t =>
     simp only at hv |-;split at hv
     .obtain⟨rfl,rfl⟩:=QK hv;rfl
     .cases hv
  split at h
  .rename_i q' off hx;rw[hx] at ha;simp only[SR] at ha;obtain⟨b,h1,h2⟩:=ha;cases hh:(Qa s.own q').here with
   |false=>rw[hh] at h;cases h
   |true =>rw[hh] at h;obtain rfl:=osj h;obtain⟨x1,y1,y2,y3,y4,y5⟩:=key q' b off (RT hh) (by rw[h1];rfl) h2;exact⟨by rw[two];exact x1,y1,y2,by rw[two];exact y3,y4,y5,odd⟩
  .rename_i q' i off sz hx;rw[hx] at ha;simp only[SR] at ha;obtain⟨b,len,cap,h1,h2,h3,h4⟩:=ha;cases hh:(Qa s.own q').here with
   |false=>rw[hh] at h;cases h
   |true =>rw[hh] at h;obtain rfl:=osj h;obtain⟨x1,y1,y2,y3,y4,y5⟩:=key q' b _ (RT hh) (by rw[h1];rfl) h4;exact⟨by rw[two];exact x1,y1,y2,by rw[two];exact y3,y4,y5,odd⟩
  .cases h
 .rename_i mk z x y;cases bK:stP mk z with
  |false=>rw[bK] at h;cases h
  |true =>
   rw[bK] at h;simp only[zh] at h;obtain⟨rfl,rfl⟩:=Fg bK;split at h
   .rename_i q' hx;split at h
    .rename_i kk vk l ho;obtain rfl:=osj h;have ha:=hG.evs (Gds.nil (tb:=tb)) x;rw[hx] at ha;simp only[SR] at ha;have ah:=hG.obj q';rw[ho] at ah;obtain⟨id,es,c,h2,h3,_⟩:=ah;have aE:∀ (Z:Heap) bC c' wr,Z.get id=some (.obj (.map bC c') wr)->Z.mapAt id=some (bC,c',wr):=λZ bC c' wr hτ=>by simp[Heap.mapAt,hτ]
     simp only[Q8,QT,ha.1,h2,aE _ _ _ _ h3] at hv;refine⟨by rw[oc,ho];rfl,id,_,by rw[oc,h2];rfl,h3,λZ hτ=>?_,λ_=>⟨es,c,true,rfl,λZ bC c' hl hτ=>?_⟩⟩
     .simp only[Q8,QT,ha.1,h2,aE _ _ _ _ hτ]
      grind
     .simp only[Q8,QT,ha.1,h2,aE _ _ _ _ hτ];split at hv
      .rename_i jv;split at hv
       .rename_i jx;rw[z6 jv,z6 (hl.1 jx)];have b9:=hl.2 jx _ jv;cases he:Qv (Q6 env y) es with
        |some e =>
         rw[he] at hv b9;obtain⟨rfl,rfl⟩:=QK hv;cases hm:Qv (Q6 env y) bC with
         |some e'=>rw[hm] at b9;simp only[Q28] at b9;simp[b9]
         |none=>rw[hm] at b9;simp only[Q28] at b9;simp[<-b9]
        |none =>
         rw[he] at hv b9;obtain⟨rfl,rfl⟩:=QK hv;cases hm:Qv (Q6 env y) bC with
         |some e'=>rw[hm] at b9;simp only[Q28] at b9;simp[b9]
         |none=>rfl
       .cases hv
      .cases hv
    .cases h
   .cases h
 .rename_i sz x lo hi;split at h
  .rename_i q' hx;split at h
   .rename_i ty k xs nl ho;cases nl with
    |true=>cases h
    |false =>
     obtain rfl:=osj h;have ha:=hG.evs (Gds.nil (tb:=tb)) x;rw[hx] at ha;simp only[SR] at ha;have ah:=hG.obj q';rw[ho] at ah;rcases ah with⟨h0,_⟩|⟨_,i,cap,c,t,h3,h4,h5,h6,h7⟩
     .cases h0
     .refine⟨by rw[two,ho];rfl,i,_,by rw[two,h3];rfl,h5,λZ hτ=>?_,odd⟩;simp only[Q8,ha.1,h3] at hv |-;cases e1:Zq (Q6 env) lo 0 with
      |none=>rw[e1] at hv;cases hv
      |some a =>
       cases e2:Zq (Q6 env) hi xs.length with
       |none=>rw[e1,e2] at hv;cases hv
       |some b =>
        rw[e1,e2] at hv;simp only[Xe,h5] at hv;simp only[Xe,hτ];split at hv
        .simp_all
        .cases hv
   .cases h
  .cases h
 .cases h
theorem VI {r:Nat}{U:Heap}:∀ {l:List (Nat×(Heap->Prop))},J8 r U l->∀ {c},c∈l->r<=c.1->c.2 U
 |c::l,h,c',hc,hr=>by
  rcases zD.1 hc with rfl|hc
  .exact h.1 hr
  .exact VI h.2 hc hr
theorem VF {B F:Heap}{pl:Nat->Value}{tb:Nat->Option Bool}{s:St}{env:Env}{U:Heap}(hG:Gam P B F pl tb s env U) {gs:List Gd}(hg:Gds tb gs) {o:VOp}(h:Q20 o (gev gs s.env)=true) {u:Value}{σ2:Heap}(hv:Q8 o (Q6 env) U=some (u,σ2)) :
  ∀ Z,B.Le Z->Q8 o (Q6 env) Z=some (u,Z):=by
 unfold Q20 at h;split at h
 .rename_i agg size a;have ha:=hG.evs hg a;have key:∀ i off,(∃ b,B.get i=some b)->Q6 env a=.pointer (some ⟨i,off,none⟩)->∀ Z,B.Le Z->Q8 (.load agg size a) (Q6 env) Z=some (u,Z):=λi off ⟨b,hb⟩ he Z hτ=>by
   simp only[Q8,he,hG.leB.2 _ _ hb] at hv;simp only[Q8,he,hτ.2 _ _ hb]
   grind
  split at h
  .rename_i k l i off hx;rw[hx] at ha;simp only[SR] at ha
   grind
  .rename_i l off hx;rw[hx] at ha;simp only[SR] at ha
   grind
  .cases h
 .cases h
theorem Ic {C:Cx}{B F:Heap}{pl:Nat->Value}{tb:Nat->Option Bool}{s:St}{env:Env}{U:Heap}(hG:Gam P B F pl tb s env U) {d:Nat}{o:VOp}{K:SV->St->Prop}(h:gn C d o (gev [] s.env) s K) (hc:Cy o=false) :
  ∃ u U' pl' v s',Q8 o (Q6 env) U=some (u,U')/\K v s'/\(Gam P B F pl' tb s' env U'/\Fr (QN d o (gev [] s.env)) s s' pl pl' U U')/\SR P B pl' tb v u /\
  (PR o=true->(Qa s'.own (QN d o (gev [] s.env))).live=true/\pl' (QN d o (gev [] s.env))=pl (QN d o (gev [] s.env))/\∃ i es c bC c',pl (QN d o (gev [] s.env))=.map (some i)/\U.get i=some (.obj (.map es c) true)/\U'.get i=some (.obj (.map bC c') true)/\LkE es bC):=by
 cases he:PR o with
 |false =>obtain⟨u,U',pl',v,s',h1,h2,h3,h4⟩:=Q2m hG h hc;exact(by grind)
 |true =>
  unfold PR at he;split at he
  .rename_i mk z m kx;obtain⟨rfl,rfl⟩:=Fg he;exact False.elim h
  .cases he
def ZC (S:VSpecs):List DOper->Env->List Heap->Heap->List (Nat×(Heap->Prop))->(Env->Heap->Prop)->Prop
 |[],env,_,U,_,K=>K env U
 |o::rest,env,hs,U,pend,K=>QM (Zr env o.guard) λb =>
   vif b (if o.kind=2 then NL (λR=>vop S o.op env U R) λv U'=>J8 hs.length U' pend/\ZC S rest (Jb env o.dst v) (hs++[U']) U' pend K
     else if o.kind=1 then QM (Q8 o.op (Q6 env) U) λp=>(∀ Z∈hs.drop o.kmin,J4 o.op (Q6 env) p.1 Z) /\
      ZC S rest (Jb env o.dst p.1) hs U (if hs.length<=o.kmax then (o.kmax,J4 o.op (Q6 env) p.1)::pend else pend) K
     else QM (Q8 o.op (Q6 env) U) λp=>ZC S rest (Jb env o.dst p.1) hs U pend K)
    (if o.kind=2 then J8 hs.length U pend/\ZC S rest (Jb env o.dst undef) (hs++[U]) U pend K else ZC S rest (Jb env o.dst undef) hs U pend K)
theorem Dr {α:Type}{o:Option α}{f g:α->Prop}(h:QM o f) (uA:∀ a,f a->g a):QM o g:=by
 cases o with
 |none=>exact h.elim
 |some a=>exact uA a h
theorem Xo {S:VSpecs}{K:Env->Heap->Prop}:∀ {ops:List DOper}{env:Env}{hs:List Heap}{U:Heap}{pend:List (Nat×(Heap->Prop))},ZC S ops env hs U pend K->Z9 S ops env hs U pend K
 |[],_,_,_,_,h=>h
 |o::r,env,hs,U,pend,h=>by
  simp only[ZC] at h;simp only[Z9];refine Dr h λb h=>⟨λe=>?_,λe=>?_⟩
  .have h:=h.1 e;split at h
   .rename_i hk;rw[z6 hk];obtain⟨v,U',h1,h2,h3⟩:=h;exact .inl ⟨v,U',h1,h2,Xo h3⟩
   .rename_i hk;rw[z7 hk];split at h
    .rename_i aV;rw[z6 aV];exact Dr h λp h=>⟨h.1,Xo h.2⟩
    .rename_i aV;rw[z7 aV];exact Dr h λp h=>Xo h
  .have h:=h.2 e;split at h
   .rename_i hk;rw[z6 hk];exact⟨h.1,Xo h.2⟩
   .rename_i hk;rw[z7 hk];exact Xo h
theorem Qk {C:Cx}(aw:COk P C) (aZ:C.xs=[]) {B0 F0 D0:Heap}:∀ (ops:List DOper),(∀ o∈ops,o.kind=o.op.kind)->∀ {s:St}{env:Env}{U:Heap}{B F:Heap}{pl:Nat->Value}{tb:Nat->Option Bool},GBase B0 F0 D0 B F U->Gam P B F pl tb s env U->∀ {hl chg:Nat}{A Rd:List (Nat×Option Nat)}{hs:List Heap}{pend pd:List (Nat×(Heap->Prop))},DSt hs U pd hl chg A Rd s.own pl->(∀ c∈pend,(∀ Z,B.Le Z->c.2 Z)\/c∈pd)->(∀ j Z,hs[j]?=some Z->N7 A j=true->B.Le Z)->chg<=hl->0<hl ->
  ∀ {K:St->Prop},Jw C ops s hl chg A Rd K->∀ {R:Env->Heap->Prop},(∀ s' ae U',K s'->GRel P B0 F0 D0 s' ae U'->R ae U')->ZC (Q5 P) ops env hs U pend R
 |[],_,s,env,U,B,F,pl,tb,hB,hG,_,_,_,_,_,_,_,_,_,_,_,_,K,h,R,hK=>hK s env U h ⟨B,F,pl,tb,hB,hG⟩
 |o0::r,jb,s,env,U,B,F,pl,tb,hB,hG,hl,chg,A,Rd,hs,pend,pd,hD,hp,b_,eR,bk,K,h,R,hK=>by
  have eL:∀ {n:Nat}{Z:Heap},B.Le Z->J8 n Z pd->J8 n Z pend:=λ{n Z} hb hv=>W9 λc hc hn=>(by grind [VI]);have snoc:∀ {Z:Heap}{A':List (Nat×Option Nat)},B.Le Z->(∀ j,N7 A' j=true->N7 A j=true)->∀ j Z',(hs++[Z])[j]?=some Z'->N7 A' j=true->B.Le Z':=(by grind);have cg:∀ o∈r,o.kind=o.op.kind:=(by simp_all);have lY:=jb o0 zl;unfold Jw at h;split at h
  .rename_i bK;have hw:=WR hG bK;simp only[ZC];rw[hw];refine⟨λe=>(by cases e),λ_=>?_⟩;have bt:=hG.put o0.dst (show SR P B pl tb .any undef by simp[SR]);by_cases aA:o0.kind=2
   .rw[z6 aA] at h |-;obtain⟨k1,k2⟩:=hD.stay;exact⟨eL hG.leB k1,Qk aw aZ r cg hB bt (by rw[QV];exact k2) hp (snoc hG.leB λ_ h=>h) (by omega) (by omega) h hK⟩
   .rw[z7 aA] at h |-;exact Qk aw aZ r cg hB bt (by rw[QV];exact hD) hp b_ eR bk h hK
  have bG:(E0 s.env o0).kind=(E0 s.env o0).op.kind:=by unfold E0;split<;>exact lY
  have eu:ZC (Q5 P) (E0 s.env o0::r) env hs U pend R->ZC (Q5 P) (o0::r) env hs U pend R:=λhv=>by
   unfold E0 at hv;split at hv
   .rename_i bK;simp only[ZC] at hv |-;rw[WR hG bK];exact hv
   .exact hv
  refine eu ?_;clear eu;generalize E0 s.env o0=o at h bG |-
  replace h:=id h
  simp only[ZC];by_cases aA:o.kind=2
  .rw[z6 aA] at h
   have fin:∀ {u:Value}{U':Heap}{ts:List Nat}{v:SV}{s':St}{pl':Nat->Value},(∀ R',R' u U'->vop (Q5 P) o.op env U R')->Jw C r (s'.put o.dst v) (hl+1) (bif ts.isEmpty then chg else hl) (ts.map (λt=>(hl-1,some t))++A) (bif ts.isEmpty then Rd else Rd.map λr=>(r.1,none)) K->Gam P B F pl' tb s' env U'->SR P B pl' tb v u->(ts=[]->U'=U/\pl'=pl/\s'=s)->U.Le U'->Dead U U'->FrL ts s s' pl pl' U U' ->
     NL (λR=>vop (Q5 P) o.op env U R) λv U'=>J8 hs.length U' pend/\ZC (Q5 P) r (Jb env o.dst v) (hs++[U']) U' pend R:=λ{u U' ts v s' pl'} bB od bh iu he hle hd cE=>by
    cases ts with
    |nil =>obtain⟨rfl,rfl,rfl⟩:=he rfl;obtain⟨k1,k2⟩:=hD.stay;exact⟨u,U',bB _ ⟨rfl,rfl⟩,eL bh.leB k1,Qk aw aZ r cg (Vp hB hd) (bh.put o.dst iu) (by rw[QV];exact k2) hp (snoc bh.leB λ_ h=>h) (by grind) (by omega) od hK⟩
    |cons t ts =>obtain⟨k1,k2⟩:=hD.call hle cE bk;exact⟨u,U',bB _ ⟨rfl,rfl⟩,eL bh.leB k1,Qk aw aZ r cg (Vp hB hd) (bh.put o.dst iu) (by rw[QV];exact k2) hp (snoc bh.leB λ_ h=>Df h) (by simp_all) (by omega) od hK⟩
   split at h
   .rename_i f args bB;split at h
    .rename_i hg;rw[hg];refine⟨λ_=>?_,λe=>by cases e⟩;rw[z6 aA];rw[aZ] at h;simp only[Qp] at h;obtain⟨g,a,b,u,U',e,v,s',pl',h1,h2,h3,h4,h5,h6,h7,h8,h9⟩:=JS aw hG h (show SR P U J3 Zn (.fn f [] []) (.func (.func f) #[] #[]) by simp only[SR,SRs];exact⟨[],[],rfl,rfl,rfl⟩) (hG.gcall Gds.nil args);obtain⟨rfl,rfl,rfl⟩:=(by simpa using h1:f=g/\#[]=a/\#[]=b);refine fin (u:=u) (U':=U') (λR' hr=>?_) h3 h4 h5 h6 h7 h8 h9;rw[bB];show VCalled P f (args.map (Q6 env)) U R';have:=h2.mono (R':=R') (by simp_all);simpa using this
    .rename_i j want hg;rw[hg];split at h
     .exact h.elim
     .rename_i gs s1 cZ;obtain⟨tb',bh,dA,b,hw,bI,bP⟩:=JO hG cZ;have aP:=Wt cZ;rw[hw];split at h
      .rename_i cs v dh;cases cR:Yp v with
       |false=>rw[cR] at h;exact h.elim
       |true =>
       rw[cR] at h;simp only[zh] at h;obtain⟨h1,h2⟩:=Z3 h;obtain⟨k1,k2⟩:=hD.stay;have lS:∀ x,DSt (hs++[U]) U pd (hl+1) chg A Rd (s1.put o.dst x).own pl:=(by grind [QV]);refine⟨λe=>?_,λe=>?_⟩
       .rw[z6 aA];have gB:Gds tb' gs:=λg hg=>⟨bI e g hg,dA g hg⟩;have lZ:∀ {v u},SR P B pl tb' v u->SR P B pl tb' (.grd gs (NV v)) u:=λ{v u} hs=>by
         simp only[SR]
         grind [D8]
        simp only[gqc] at dh;split at dh
        .rename_i c v' heq;cases cA:v'.ret 0 with
         |false=>rw[cA] at dh;cases dh
         |true =>
          rw[cA] at dh;obtain⟨rfl,rfl⟩:=QK dh;obtain⟨g,a,b',h3,h4,_⟩:=Zh aw.cs (show SR P U J3 Zn (.fn f [] []) (.func (.func f) #[] #[]) by simp only[SR,SRs];exact⟨[],[],rfl,rfl,rfl⟩) (bh.gcall gB args) heq cA rfl (h2 (bI e) _ (by simp));obtain⟨rfl,rfl,rfl⟩:=(by simpa using h3:f=g/\#[]=a/\#[]=b');refine⟨Yl J3 v',U,?_,eL hG.leB k1,Qk aw aZ r cg hB (bh.put o.dst (lZ ?_)) (lS _) hp (snoc hG.leB λ_ h=>h) (by omega) (by omega) (Q_ h1) hK⟩
          .rw[bB];show VCalled P f (args.map (Q6 env)) U _;have:=h4.mono (R':=λu U'=>u=Yl J3 v'/\U'=U) λu U' hr=>by
            obtain⟨rfl,hu⟩:=hr.flat cA
            grind [Yu]
           simpa using this
          .exact SR.retd (λj hj=>by omega) _ _ cA (Rw (P:=P) (pl:=J3) (m:=0) (λj hj=>by omega) v' cA cR)
        .cases dh
       .rw[z6 aA];obtain⟨g,dq,aK⟩:=bP e;exact⟨eL hG.leB k1,Qk aw aZ r cg hB (bh.put o.dst (by simp only[SR];exact⟨⟨dA,Dd v⟩,λhall=>absurd (hall g dq) aK,λ_=>trivial⟩)) (lS _) hp (snoc hG.leB λ_ h=>h) (by omega) (by omega) (Q_ h1) hK⟩
      .split at h
       .rename_i cs v kK;obtain⟨c,ty,k,xs,nl,heq,rfl,rfl,hk,dV⟩:=Pu kK;obtain⟨h1,h2⟩:=Z3 h;have frz:∀ {B' U':Heap},B'.Le U'->∀ j Z',(hs++[U'])[j]?=some Z'->N7 ((hl-1,none)::A) j=true->B'.Le Z':=λ{B' U'} hb j Z' hm hn=>by
         rcases Jg hm with⟨h1,_⟩|⟨_,rfl⟩
         .simp only[N7,zX,z1,zt,zG,Option.isSome_none,zz,or_false] at hn;have:=hD.len;omega
         .exact hb
        refine⟨λe=>?_,λe=>?_⟩
        .rw[z6 aA];have gB:Gds tb' gs:=λg hg=>⟨bI e g hg,dA g hg⟩;have jv:=h2 (bI e) c (by simp);have jx:=h2 (bI e) (nl=true->xs=[]) (by simp);have cZ:Ux C (C.off+o.dst.getD 0) (.fn f [] []) (Pj s1.own (args.map (gev gs s1.env))) s1 (λts v' s'=>ts=[C.off+o.dst.getD 0]/\v'=.lst (C.off+o.dst.getD 0)/\s'=s1.make (C.off+o.dst.getD 0) (.lst ty k xs nl)):=by
          unfold Ux;rw[heq];dsimp only;have aj:(SV.ret [OB.lst ty k xs nl].length (.lst 0)&&([OB.lst ty k xs nl].all OB.ret&&(Nat.blt 0 C.nt&&([OB.lst ty k xs nl].all OB.isL&&Yp (.lst 0)))))=true:=by
           simp only[SV.ret,zw,zX,List.all_nil,xI,OB.ret,hk,Bool.true_and,OB.isL,Yp];rw[z1]
           grind [Nat.blt_eq]
          rw[aj];simp only[zh,EH,OB.wf];refine⟨jv,jx,?_,?_,?_⟩
          .simp[List.range_succ]
          .simp[SV.ren]
          .simp[St.makes]
         obtain⟨g,a,b',u,U',ts,v',s',pl',h3,h4,⟨rfl,rfl,rfl⟩,h5,h6,_,h7,h8,h9⟩:=JS aw bh cZ (show SR P U J3 Zn (.fn f [] []) (.func (.func f) #[] #[]) by simp only[SR,SRs];exact⟨[],[],rfl,rfl,rfl⟩) (bh.gcall gB args);obtain⟨rfl,rfl,rfl⟩:=(by simpa using h3:f=g/\#[]=a/\#[]=b');obtain⟨B',F',m1,m2,m3⟩:=TV bh.bf hk h5 h6 h8;have cE:FrL [C.off+o.dst.getD 0] s ((s1.make (C.off+o.dst.getD 0) .dead).put o.dst (.grd gs (.val (.list k) xs))) pl pl' U U':=λq hq=>by
          obtain⟨f1,f2,f3⟩:=h9 q hq
          grind [QV,X0]
         obtain⟨k1,k2⟩:=hD.call h7 cE bk;refine⟨u,U',?_,eL (m1.b.trans m2.leB) k1,Qk aw aZ r cg (hB.trans m1) (m2.put o.dst ?_) k2.frozen (λc hc=>(hp c hc).imp (λh Z hτ=>h Z (m1.b.trans hτ)) id) (frz m2.leB) (by omega) (by omega) h1 hK⟩
         .rw[bB];show VCalled P f (args.map (Q6 env)) U _;simpa using h4
         .simp only[SR];exact⟨⟨dA,trivial⟩,λ_=>m3,(by grind)⟩
        .rw[z6 aA];obtain⟨g,dq,aK⟩:=bP e;have cE:FrL [C.off+o.dst.getD 0] s ((s1.make (C.off+o.dst.getD 0) .dead).put o.dst (.grd gs (.val (.list k) xs))) pl (QR pl (C.off+o.dst.getD 0) undef) U U:=λq hq=>by
          have dJ:q≠C.off+o.dst.getD 0:=by simpa using hq
          refine⟨?_,by simp[QR,dJ],λ_ _ _=>rfl⟩;rw[QV,X0 _ _ _ dJ,aP]
         obtain⟨k1,k2⟩:=hD.call (.refl U) cE bk;refine⟨eL hG.leB k1,Qk aw aZ r cg hB ((bh.make (C.off+o.dst.getD 0) .dead undef bh.le (λ_ _ _ _ _=>rfl) trivial (λi hl _=>by cases hl)).put o.dst ?_) k2.frozen hp (frz hG.leB) (by omega) (by omega) h1 hK⟩;simp only[SR];exact⟨⟨dA,trivial⟩,λhall=>absurd (hall g dq) aK,λ_=>trivial⟩
       .exact h.elim
   .rename_i f args bB;split at h
    .rename_i hg;rw[hg];refine⟨λ_=>?_,λe=>by cases e⟩;rw[z6 aA];obtain⟨g,a,b,u,U',e,v,s',pl',h1,h2,h3,h4,h5,h6,h7,h8,h9⟩:=JS aw hG h (hG.gfun Gds.nil f) (hG.gcall Gds.nil args);refine fin (u:=u) (U':=U') (λR' hr=>?_) h3 h4 h5 h6 h7 h8 h9;rw[bB];exact KI h1 (h2.mono (R':=R') (by simp_all))
    .exact h.elim
   .exact h.elim
   .exact h.elim
   .exact h.elim
   .exact h.elim
   .rename_i oe oZ jc eJ l4 l5;split at h
    .rename_i hg;rw[hg];refine⟨λ_=>?_,λe=>by cases e⟩;rw[z6 aA];have aB:Cy o.op=false:=by
      cases ho:o.op<;>first|rfl|(exact absurd ho (oe _ _))|(exact absurd ho (oZ _ _))|skip
      case ext x=>cases x<;>first|rfl|(exact absurd ho (jc _))|(exact absurd ho (eJ _))|(exact absurd ho (l4 _))|(exact absurd ho (l5 _))
     cases ja:SA C (o.dst.getD 0) o.op (gev [] s.env) with
     |true =>
      rw[ja] at h;simp only[zh] at h;cases hm:Ea (H8 o.op) Rd hl (X2 (C.off+o.dst.getD 0) o.op (gev [] s.env)) with
      |false=>rw[hm] at h;exact h.elim
      |true =>
       rw[hm] at h;simp only[zh] at h;obtain⟨u,U',pl',v,s',h1,h2,⟨h3,fk⟩,h4⟩:=DG (λx=>hG.evs (Gds.nil (tb:=tb)) x) hG h;have gg:∀ R',R' u U'->vop (Q5 P) o.op env U R':=λR' hr=>by
        have:vop (Q5 P) o.op env U R'=QM (Q8 o.op (Q6 env) U) λp=>R' p.1 p.2:=by
         cases ho:o.op with
         |callF f a=>rw[ho] at aB;cases aB
         |callV f a=>rw[ho] at aB;cases aB
         |ext x =>
          cases x with
          |nextMap y=>rw[ho] at h1;cases h1
          |_=>rfl
         |_=>rfl
        rw[this,h1];exact hr
       obtain⟨k1,k2⟩:=hD.writeD fk (λdw=>R7 dw h1) hm bk;exact⟨u,U',gg _ ⟨rfl,rfl⟩,eL h3.leB k1,Qk aw aZ r cg (Vp hB (WQ h1)) (h3.put o.dst h4) (by rw[QV];exact k2) hp (snoc h3.leB λ_ h=>Df h) (by omega) (by omega) h2 hK⟩
     |false =>
     rw[ja] at h;simp only[zT] at h;cases hm:((H8 o.op&&Se Rd hl (QN (C.off+o.dst.getD 0) o.op (gev [] s.env)))||PH Rd hl (QN (C.off+o.dst.getD 0) o.op (gev [] s.env))||(PR o.op&&Q1y Rd hl (QN (C.off+o.dst.getD 0) o.op (gev [] s.env)))) with
     |false=>rw[hm] at h;exact h.elim
     |true =>
      rw[hm] at h;simp only[zh] at h;obtain⟨u,U',pl',v,s',h1,h2,⟨h3,fk⟩,h4,hE⟩:=Ic hG h aB;have gg:∀ R',R' u U'->vop (Q5 P) o.op env U R':=λR' hr=>by
       have:vop (Q5 P) o.op env U R'=QM (Q8 o.op (Q6 env) U) λp=>R' p.1 p.2:=by
        cases ho:o.op with
        |callF f a=>rw[ho] at aB;cases aB
        |callV f a=>rw[ho] at aB;cases aB
        |ext x =>
         cases x with
         |nextMap y=>rw[ho] at h1;cases h1
         |_=>rfl
        |_=>rfl
       rw[this,h1];exact hr
      obtain⟨k1,k2⟩:=hD.write fk (λdw=>R7 dw h1) hE hm bk;exact⟨u,U',gg _ ⟨rfl,rfl⟩,eL h3.leB k1,Qk aw aZ r cg (Vp hB (WQ h1)) (h3.put o.dst h4) (by rw[QV];exact k2) hp (snoc h3.leB λ_ h=>H3 h) (by omega) (by omega) h2 hK⟩
    .exact h.elim
  .rw[z7 aA] at h;have l6:o.op.kind≠2:=by rw[<-bG];exact aA
   by_cases aV:o.kind=1
   .rw[z6 aV] at h
    have rd:∀ (rq:Option Nat),(∀ q,rq=some q->V2 o.op (gev [] s.env) s.own=some q)->(Nat.ble chg o.kmin||Dx A o.kmin rq)=true->gd1 C o s (λs'=>Jw C r s' hl chg A ((o.kmax,rq)::Rd) K) ->
      QM (Zr env o.guard) λb=>vif b (if o.kind=2 then NL (λR=>vop (Q5 P) o.op env U R) λv U'=>J8 hs.length U' pend/\ZC (Q5 P) r (Jb env o.dst v) (hs++[U']) U' pend R
       else if o.kind=1 then QM (Q8 o.op (Q6 env) U) λp=>(∀ Z∈hs.drop o.kmin,J4 o.op (Q6 env) p.1 Z) /\
        ZC (Q5 P) r (Jb env o.dst p.1) hs U (if hs.length<=o.kmax then (o.kmax,J4 o.op (Q6 env) p.1)::pend else pend) R
       else QM (Q8 o.op (Q6 env) U) λp=>ZC (Q5 P) r (Jb env o.dst p.1) hs U pend R)
      (if o.kind=2 then J8 hs.length U pend/\ZC (Q5 P) r (Jb env o.dst undef) (hs++[U]) U pend R else ZC (Q5 P) r (Jb env o.dst undef) hs U pend R):=λrq og hc h=>by
     obtain⟨b,hw,h1,h2⟩:=YQ hG h;rw[hw];have l7:DSt hs U pd hl chg A ((o.kmax,rq)::Rd) s.own pl:=⟨hD.len,hD.same,λc hc=>(hD.pend c hc).imp id (by simp_all),hD.fr⟩;refine⟨λe=>?_,λe=>?_⟩
     .obtain⟨u,s',tb',h3,h4,aP,h5⟩:=h1 e;rw[z7 aA,z6 aV,h3];refine⟨λZ hτ=>?_,?_⟩
      .obtain⟨j,hj⟩:=x8.1 hτ;rw[zZ] at hj;rw[zt] at hc;rcases hc with hc|hc
       .have:=hD.same (o.kmin+j) Z (by have:=zF hc;omega) hj;subst this;exact Zm h3
       .unfold Dx at hc;split at hc
        .rename_i q;obtain⟨k1,i,bl,k2,k3,k4,k5⟩:=Wl hG (og q rfl) h3;have hu:QW A (o.kmin+j) (q / 2)=true:=by
          simp only[QW,zf,zt,zG] at hc |-
          grind
         have:=hD.fr (o.kmin+j) Z (q / 2) i hj hu k1 k2
         grind [Zm]
        .cases hc
      .by_cases hle:hs.length<=o.kmax
       .rw[z6 hle];refine Qk aw aZ r cg hB h5 (A:=A) (Rd:=(o.kmax,rq)::Rd) (hl:=hl) (chg:=chg) (pd:=(o.kmax,J4 o.op (Q6 env) u)::pd) ?_ (λc hc=>?_) b_ eR bk h4 hK
        .rw[aP];refine⟨hD.len,hD.same,λc hc=>?_,hD.fr⟩;rcases zD.1 hc with rfl|hc
         .refine .inr ⟨_,zl,zd _,?_⟩;cases rq with
          |none=>exactλZ hτ=>Zm (Bt l6 h3 hτ)
          |some q =>obtain⟨k1,i,bl,k2,k3,k4,k5⟩:=Wl hG (og q rfl) h3;exact⟨k1,i,bl,k2,k3,λZ ht=>Zm (k4 Z ht),(by grind [Zm])⟩
         .exact l7.pend c hc
        grind
       .rw[z7 hle];exact Qk aw aZ r cg hB h5 (A:=A) (Rd:=(o.kmax,rq)::Rd) (hl:=hl) (chg:=chg) (pd:=pd) (by rw[aP];exact l7) hp b_ eR bk h4 hK
     .obtain⟨s',tb',h4,aP,h5⟩:=h2 e;rw[z7 aA];exact Qk aw aZ r cg hB h5 (by rw[aP];exact l7) hp b_ eR bk h4 hK
    have ro:N7 A o.kmin=true->(∀ u,Q8 o.op (Q6 env) U=some (u,U)->(Zr env o.guard=some true)->∀ Z,B.Le Z->Q8 o.op (Q6 env) Z=some (u,Z))->gd1 C o s (λs'=>Jw C r s' hl chg A Rd K) ->
      QM (Zr env o.guard) λb=>vif b (if o.kind=2 then NL (λR=>vop (Q5 P) o.op env U R) λv U'=>J8 hs.length U' pend/\ZC (Q5 P) r (Jb env o.dst v) (hs++[U']) U' pend R
       else if o.kind=1 then QM (Q8 o.op (Q6 env) U) λp=>(∀ Z∈hs.drop o.kmin,J4 o.op (Q6 env) p.1 Z) /\
        ZC (Q5 P) r (Jb env o.dst p.1) hs U (if hs.length<=o.kmax then (o.kmax,J4 o.op (Q6 env) p.1)::pend else pend) R
       else QM (Q8 o.op (Q6 env) U) λp=>ZC (Q5 P) r (Jb env o.dst p.1) hs U pend R)
      (if o.kind=2 then J8 hs.length U pend/\ZC (Q5 P) r (Jb env o.dst undef) (hs++[U]) U pend R else ZC (Q5 P) r (Jb env o.dst undef) hs U pend R):=λl8 bW h=>by
     obtain⟨b,hw,h1,h2⟩:=YQ hG h;rw[hw];refine⟨λe=>?_,λe=>?_⟩
     .obtain⟨u,s',tb',h3,h4,aP,h5⟩:=h1 e;have bW:=bW u h3 (by rw[hw,e]);rw[z7 aA,z6 aV,h3];refine⟨λZ hτ=>?_,?_⟩
      .obtain⟨j,hj⟩:=x8.1 hτ;rw[zZ] at hj;refine Zm (bW Z (b_ _ Z hj ?_));simp only[N7,zf,zt,zG] at l8 |-
       grind
      refine Qk aw aZ r cg hB h5 (A:=A) (Rd:=Rd) (hl:=hl) (chg:=chg) (pd:=pd) (by rw[aP];exact hD) (λc hc=>?_) b_ eR bk h4 hK;split at hc
      .rcases zD.1 hc with rfl|hc
       .grind [Zm]
       .exact hp c hc
      .exact hp c hc
     .obtain⟨s',tb',h4,aP,h5⟩:=h2 e;rw[z7 aA];exact Qk aw aZ r cg hB h5 (by rw[aP];exact hD) hp b_ eR bk h4 hK
    split at h
    .rename_i hg;cases hr:(Q20 o.op (gev [] s.env)&&N7 A o.kmin) with
     |true =>rw[hr] at h;rw[z1] at hr;exact ro hr.2 (λu hu _=>VF hG Gds.nil hr.1 hu) h
     |false =>
     rw[hr] at h;simp only[zT] at h;cases hb:(Nat.ble chg o.kmin||Dx A o.kmin (V2 o.op (gev [] s.env) s.own)) with
     |false=>rw[hb] at h;exact h.elim
     |true =>rw[hb] at h;exact rd _ (λq hq=>hq) hb h
    .rename_i j want hg;cases hr:(Fy s j want o.op&&N7 A o.kmin) with
     |true =>
      rw[hr] at h;rw[z1] at hr;obtain⟨hr,l8⟩:=hr;refine ro l8 (λu hu hw=>?_) h;unfold Fy at hr;split at hr
      .rename_i gs s1 cZ;obtain⟨tb',bh,dA,b,fU,bI,bP⟩:=JO hG cZ;rw[hg,fU] at hw;have e:=osj hw;exact VF bh (λg hg=>⟨bI e g hg,dA g hg⟩) hr hu
      .cases hr
     |false =>
     rw[hr] at h;simp only[zT] at h;cases hb:Nat.ble chg o.kmin with
     |false=>rw[hb] at h;exact h.elim
     |true =>rw[hb] at h;exact rd none (λq hq=>by cases hq) (by rw[hb];rfl) h
   .rw[z7 aV] at h;obtain⟨b,hw,h1,h2⟩:=YQ hG h;rw[hw];refine⟨λe=>?_,λe=>?_⟩
    .obtain⟨u,s',tb',h3,h4,aP,h5⟩:=h1 e;rw[z7 aA,z7 aV,h3];exact Qk aw aZ r cg hB h5 (by rw[aP];exact hD) hp b_ eR bk h4 hK
    .obtain⟨s',tb',h4,aP,h5⟩:=h2 e;rw[z7 aA];exact Qk aw aZ r cg hB h5 (by rw[aP];exact hD) hp b_ eR bk h4 hK
theorem Qn {C:Cx}(aw:COk P C) {B0 F0 D0:Heap}:∀ (ops:List DOper),(∀ o∈ops,o.kind=o.op.kind)->∀ {s:St}{env:Env}{U:Heap}{B F:Heap}{pl:Nat->Value}{tb:Nat->Option Bool},GBase B0 F0 D0 B F U->Gam P B F pl tb s env U->∀ {hl chg:Nat}{A Rd:List (Nat×Option Nat)}{hs:List Heap}{pend pd:List (Nat×(Heap->Prop))},DSt hs U pd hl chg A Rd s.own pl->(∀ c∈pend,(∀ Z,B.Le Z->c.2 Z)\/c∈pd)->(∀ j Z,hs[j]?=some Z->N7 A j=true->B.Le Z)->chg<=hl->0<hl ->
  ∀ {K:St->Prop},Jw C ops s hl chg A Rd K->∀ {R:Env->Heap->Prop},(∀ s' ae U',K s'->GRel P B0 F0 D0 s' ae U'->R ae U')->Z9 (Q5 P) ops env hs U pend R
 |[],_,s,env,U,B,F,pl,tb,hB,hG,_,_,_,_,_,_,_,_,_,_,_,_,K,h,R,hK=>hK s env U h ⟨B,F,pl,tb,hB,hG⟩
 |o0::r,jb,s,env,U,B,F,pl,tb,hB,hG,hl,chg,A,Rd,hs,pend,pd,hD,hp,b_,eR,bk,K,h,R,hK=>by
  have eL:∀ {n:Nat}{Z:Heap},B.Le Z->J8 n Z pd->J8 n Z pend:=λ{n Z} hb hv=>W9 λc hc hn=>(by grind [VI]);have snoc:∀ {Z:Heap}{A':List (Nat×Option Nat)},B.Le Z->(∀ j,N7 A' j=true->N7 A j=true)->∀ j Z',(hs++[Z])[j]?=some Z'->N7 A' j=true->B.Le Z':=(by grind);have cg:∀ o∈r,o.kind=o.op.kind:=(by simp_all);have lY:=jb o0 zl;unfold Jw at h;split at h
  .rename_i bK;have hw:=WR hG bK;simp only[Z9];rw[hw];refine⟨λe=>(by cases e),λ_=>?_⟩;have bt:=hG.put o0.dst (show SR P B pl tb .any undef by simp[SR]);by_cases aA:o0.kind=2
   .rw[z6 aA] at h |-;obtain⟨k1,k2⟩:=hD.stay;exact⟨eL hG.leB k1,Qn aw r cg hB bt (by rw[QV];exact k2) hp (snoc hG.leB λ_ h=>h) (by omega) (by omega) h hK⟩
   .rw[z7 aA] at h |-;exact Qn aw r cg hB bt (by rw[QV];exact hD) hp b_ eR bk h hK
  have bG:(E0 s.env o0).kind=(E0 s.env o0).op.kind:=by unfold E0;split<;>exact lY
  have eu:Z9 (Q5 P) (E0 s.env o0::r) env hs U pend R->Z9 (Q5 P) (o0::r) env hs U pend R:=λhv=>by
   unfold E0 at hv;split at hv
   .rename_i bK;simp only[Z9] at hv |-;rw[WR hG bK];exact hv
   .exact hv
  refine eu ?_;clear eu;generalize E0 s.env o0=o at h bG |-
  replace h:=id h
  simp only[Z9];by_cases aA:o.kind=2
  .rw[z6 aA] at h
   have fin:∀ {u:Value}{U':Heap}{ts:List Nat}{v:SV}{s':St}{pl':Nat->Value},(∀ R',R' u U'->vop (Q5 P) o.op env U R')->Jw C r (s'.put o.dst v) (hl+1) (bif ts.isEmpty then chg else hl) (ts.map (λt=>(hl-1,some t))++A) (bif ts.isEmpty then Rd else Rd.map λr=>(r.1,none)) K->Gam P B F pl' tb s' env U'->SR P B pl' tb v u->(ts=[]->U'=U/\pl'=pl/\s'=s)->U.Le U'->Dead U U'->FrL ts s s' pl pl' U U' ->
     NL (λR=>vop (Q5 P) o.op env U R) λv U'=>J8 hs.length U' pend/\Z9 (Q5 P) r (Jb env o.dst v) (hs++[U']) U' pend R:=λ{u U' ts v s' pl'} bB od bh iu he hle hd cE=>by
    cases ts with
    |nil =>obtain⟨rfl,rfl,rfl⟩:=he rfl;obtain⟨k1,k2⟩:=hD.stay;exact⟨u,U',bB _ ⟨rfl,rfl⟩,eL bh.leB k1,Qn aw r cg (Vp hB hd) (bh.put o.dst iu) (by rw[QV];exact k2) hp (snoc bh.leB λ_ h=>h) (by grind) (by omega) od hK⟩
    |cons t ts =>obtain⟨k1,k2⟩:=hD.call hle cE bk;exact⟨u,U',bB _ ⟨rfl,rfl⟩,eL bh.leB k1,Qn aw r cg (Vp hB hd) (bh.put o.dst iu) (by rw[QV];exact k2) hp (snoc bh.leB λ_ h=>Df h) (by simp_all) (by omega) od hK⟩
   split at h
   .rename_i f args bB;split at h
    .rename_i hg;rw[hg];refine⟨λ_=>?_,λe=>by cases e⟩;rw[z6 aA]
     have oh:∀ {K':List Nat->SV->St->Prop},Ux C (C.off+o.dst.getD 0) (.fn f [] []) (Pj s.own (args.map (gev [] s.env))) s K'->(∀ ts v s',K' ts v s'->Jw C r (s'.put o.dst v) (hl+1) (bif ts.isEmpty then chg else hl) (ts.map (λt=>(hl-1,some t))++A) (bif ts.isEmpty then Rd else Rd.map λr=>(r.1,none)) K) ->
       NL (λR=>vop (Q5 P) o.op env U R) λv U'=>J8 hs.length U' pend/\Z9 (Q5 P) r (Jb env o.dst v) (hs++[U']) U' pend R:=λ{K'} h qJ=>by
      obtain⟨g,a,b,u,U',e,v,s',pl',h1,h2,h3,h4,h5,h6,h7,h8,h9⟩:=JS aw hG h (show SR P U J3 Zn (.fn f [] []) (.func (.func f) #[] #[]) by simp only[SR,SRs];exact⟨[],[],rfl,rfl,rfl⟩) (hG.gcall Gds.nil args);obtain⟨rfl,rfl,rfl⟩:=(by simpa using h1:f=g/\#[]=a/\#[]=b);refine fin (u:=u) (U':=U') (λR' hr=>?_) (qJ _ _ _ h3) h4 h5 h6 h7 h8 h9;rw[bB];show VCalled P f (args.map (Q6 env)) U R';have:=h2.mono (R':=R') (by simp_all);simpa using this
     split at h
     .rename_i x hx;split at h
      .rename_i jf uB;split at h
       .rename_i tt qE;cases ie:(waits o.dst.toList r&&Ea false Rd hl [tt]) with
        |false=>rw[ie] at h;exact h.elim
        |true =>rw[ie] at h;simp only[zh] at h;rw[z1] at ie;refine .inr ⟨ie.1,?_⟩;rw[bB];show VCalled P f (args.map (Q6 env)) U _;refine aw.xf f jf uB x hx B F pl tb s env U _ _ _ _ _ tt hG (SRs.map λx _=>hG.evs Gds.nil x) qE h λv s' u U' k1 k2 k3 k4 k5=>?_;obtain⟨q1,q2⟩:=hD.writeD k5 (mk:=false) (λh=>by cases h) ie.2 bk;exact⟨eL k3.leB q1,Qn aw r cg (Vp hB k2) (k3.put o.dst k4) (by rw[QV];exact q2) hp (snoc k3.leB λ_ h=>H3 h) (by omega) (by omega) k1 hK⟩
       .exact h.elim
      .cases ie:(waits o.dst.toList r&&Rd.all (λq=>Nat.blt q.1 hl)) with
       |false=>rw[ie] at h;simp only[zT] at h;exact .inl (oh h λ_ _ _ h=>h)
       |true =>
        rw[ie] at h;simp only[zh] at h;rw[z1] at ie;refine .inr ⟨ie.1,?_⟩;rw[bB];show VCalled P f (args.map (Q6 env)) U _;have av:∀ args:List Operand,SRs P B pl tb (args.map (gev [] s.env)) (args.map (Q6 env)):=λargs=>SRs.map λx _=>hG.evs Gds.nil x;refine aw.xs f x hx B F pl tb s env U _ _ _ _ _ hG (av args) h λv s' B' F' pl' tb' u U' k1 k2 k3 k4=>?_;have hall:∀ c∈pd,c.1<hl:=λc hc=>by
         rcases hD.pend c hc with h1|⟨q,h1,h2,_⟩
         .exact h1
         grind [List.all_eq_true,Nat.blt_eq]
        have kp:J8 hs.length U' pd:=W9 λc hc hle=>by have:=hall c hc;have:=hD.len;omega
        have qK:J8 hs.length U' pend:=W9 λc hc hn=>(hp c hc).elim (λh=>h U' (k2.b.trans k3.leB)) λh=>VI kp h hn;refine⟨qK,Qn aw r cg (hB.trans k2) (k3.put o.dst k4) (pd:=pd) ⟨by simp[hD.len],λj Z hj ht=>?_,(by grind),λj Z q i ht hu bF hi=>?_⟩ (λc hc=>(hp c hc).imp (λh Z hτ=>h Z (k2.b.trans hτ)) id) (λj Z ht hn=>?_) (by omega) (by omega) k1 hK⟩
        .rcases Jg ht with⟨h1,_⟩|⟨_,h1⟩
         .rw[hD.len] at h1;omega
         .exact h1
        .rcases Jg ht with⟨h1,_⟩|⟨_,h1⟩
         .exfalso;rw[hD.len] at h1;simp only[QW,zX,z1,zt,zG,zz,or_false] at hu;omega
         .rw[h1]
        .rcases Jg ht with⟨h1,_⟩|⟨_,h1⟩
         .exfalso;rw[hD.len] at h1;simp only[N7,zX,z1,zt,zG,Option.isSome_none,zz,or_false] at hn;omega
         .rw[h1];exact k3.leB
     .exact .inl (oh h λ_ _ _ h=>h)
    .rename_i j want hg;rw[hg];split at h
     .exact h.elim
     .rename_i gs s1 cZ;obtain⟨tb',bh,dA,b,hw,bI,bP⟩:=JO hG cZ;have aP:=Wt cZ;rw[hw];split at h
      .rename_i cs v dh;cases cR:Yp v with
       |false=>rw[cR] at h;exact h.elim
       |true =>
       rw[cR] at h;simp only[zh] at h;obtain⟨h1,h2⟩:=Z3 h;obtain⟨k1,k2⟩:=hD.stay;have lS:∀ x,DSt (hs++[U]) U pd (hl+1) chg A Rd (s1.put o.dst x).own pl:=(by grind [QV]);refine⟨λe=>?_,λe=>?_⟩
       .rw[z6 aA];have gB:Gds tb' gs:=λg hg=>⟨bI e g hg,dA g hg⟩;have lZ:∀ {v u},SR P B pl tb' v u->SR P B pl tb' (.grd gs (NV v)) u:=λ{v u} hs=>by
         simp only[SR]
         grind [D8]
        simp only[gqc] at dh;split at dh
        .rename_i c v' heq;cases cA:v'.ret 0 with
         |false=>rw[cA] at dh;cases dh
         |true =>
          rw[cA] at dh;obtain⟨rfl,rfl⟩:=QK dh;obtain⟨g,a,b',h3,h4,_⟩:=Zh aw.cs (show SR P U J3 Zn (.fn f [] []) (.func (.func f) #[] #[]) by simp only[SR,SRs];exact⟨[],[],rfl,rfl,rfl⟩) (bh.gcall gB args) heq cA rfl (h2 (bI e) _ (by simp));obtain⟨rfl,rfl,rfl⟩:=(by simpa using h3:f=g/\#[]=a/\#[]=b');refine .inl ⟨Yl J3 v',U,?_,eL hG.leB k1,Qn aw r cg hB (bh.put o.dst (lZ ?_)) (lS _) hp (snoc hG.leB λ_ h=>h) (by omega) (by omega) (Q_ h1) hK⟩
          .rw[bB];show VCalled P f (args.map (Q6 env)) U _;have:=h4.mono (R':=λu U'=>u=Yl J3 v'/\U'=U) λu U' hr=>by
            obtain⟨rfl,hu⟩:=hr.flat cA
            grind [Yu]
           simpa using this
          .exact SR.retd (λj hj=>by omega) _ _ cA (Rw (P:=P) (pl:=J3) (m:=0) (λj hj=>by omega) v' cA cR)
        .cases dh
       .rw[z6 aA];obtain⟨g,dq,aK⟩:=bP e;exact⟨eL hG.leB k1,Qn aw r cg hB (bh.put o.dst (by simp only[SR];exact⟨⟨dA,Dd v⟩,λhall=>absurd (hall g dq) aK,λ_=>trivial⟩)) (lS _) hp (snoc hG.leB λ_ h=>h) (by omega) (by omega) (Q_ h1) hK⟩
      .split at h
       .rename_i cs v kK;obtain⟨c,ty,k,xs,nl,heq,rfl,rfl,hk,dV⟩:=Pu kK;obtain⟨h1,h2⟩:=Z3 h;have frz:∀ {B' U':Heap},B'.Le U'->∀ j Z',(hs++[U'])[j]?=some Z'->N7 ((hl-1,none)::A) j=true->B'.Le Z':=λ{B' U'} hb j Z' hm hn=>by
         rcases Jg hm with⟨h1,_⟩|⟨_,rfl⟩
         .simp only[N7,zX,z1,zt,zG,Option.isSome_none,zz,or_false] at hn;have:=hD.len;omega
         .exact hb
        refine⟨λe=>?_,λe=>?_⟩
        .rw[z6 aA];have gB:Gds tb' gs:=λg hg=>⟨bI e g hg,dA g hg⟩;have jv:=h2 (bI e) c (by simp);have jx:=h2 (bI e) (nl=true->xs=[]) (by simp);have cZ:Ux C (C.off+o.dst.getD 0) (.fn f [] []) (Pj s1.own (args.map (gev gs s1.env))) s1 (λts v' s'=>ts=[C.off+o.dst.getD 0]/\v'=.lst (C.off+o.dst.getD 0)/\s'=s1.make (C.off+o.dst.getD 0) (.lst ty k xs nl)):=by
          unfold Ux;rw[heq];dsimp only;have aj:(SV.ret [OB.lst ty k xs nl].length (.lst 0)&&([OB.lst ty k xs nl].all OB.ret&&(Nat.blt 0 C.nt&&([OB.lst ty k xs nl].all OB.isL&&Yp (.lst 0)))))=true:=by
           simp only[SV.ret,zw,zX,List.all_nil,xI,OB.ret,hk,Bool.true_and,OB.isL,Yp];rw[z1]
           grind [Nat.blt_eq]
          rw[aj];simp only[zh,EH,OB.wf];refine⟨jv,jx,?_,?_,?_⟩
          .simp[List.range_succ]
          .simp[SV.ren]
          .simp[St.makes]
         obtain⟨g,a,b',u,U',ts,v',s',pl',h3,h4,⟨rfl,rfl,rfl⟩,h5,h6,_,h7,h8,h9⟩:=JS aw bh cZ (show SR P U J3 Zn (.fn f [] []) (.func (.func f) #[] #[]) by simp only[SR,SRs];exact⟨[],[],rfl,rfl,rfl⟩) (bh.gcall gB args);obtain⟨rfl,rfl,rfl⟩:=(by simpa using h3:f=g/\#[]=a/\#[]=b');obtain⟨B',F',m1,m2,m3⟩:=TV bh.bf hk h5 h6 h8;have cE:FrL [C.off+o.dst.getD 0] s ((s1.make (C.off+o.dst.getD 0) .dead).put o.dst (.grd gs (.val (.list k) xs))) pl pl' U U':=λq hq=>by
          obtain⟨f1,f2,f3⟩:=h9 q hq
          grind [QV,X0]
         obtain⟨k1,k2⟩:=hD.call h7 cE bk;refine .inl ⟨u,U',?_,eL (m1.b.trans m2.leB) k1,Qn aw r cg (hB.trans m1) (m2.put o.dst ?_) k2.frozen (λc hc=>(hp c hc).imp (λh Z hτ=>h Z (m1.b.trans hτ)) id) (frz m2.leB) (by omega) (by omega) h1 hK⟩
         .rw[bB];show VCalled P f (args.map (Q6 env)) U _;simpa using h4
         .simp only[SR];exact⟨⟨dA,trivial⟩,λ_=>m3,(by grind)⟩
        .rw[z6 aA];obtain⟨g,dq,aK⟩:=bP e;have cE:FrL [C.off+o.dst.getD 0] s ((s1.make (C.off+o.dst.getD 0) .dead).put o.dst (.grd gs (.val (.list k) xs))) pl (QR pl (C.off+o.dst.getD 0) undef) U U:=λq hq=>by
          have dJ:q≠C.off+o.dst.getD 0:=by simpa using hq
          refine⟨?_,by simp[QR,dJ],λ_ _ _=>rfl⟩;rw[QV,X0 _ _ _ dJ,aP]
         obtain⟨k1,k2⟩:=hD.call (.refl U) cE bk;refine⟨eL hG.leB k1,Qn aw r cg hB ((bh.make (C.off+o.dst.getD 0) .dead undef bh.le (λ_ _ _ _ _=>rfl) trivial (λi hl _=>by cases hl)).put o.dst ?_) k2.frozen hp (frz hG.leB) (by omega) (by omega) h1 hK⟩;simp only[SR];exact⟨⟨dA,trivial⟩,λhall=>absurd (hall g dq) aK,λ_=>trivial⟩
       .exact h.elim
   .rename_i f args bB;split at h
    .rename_i hg;rw[hg];refine⟨λ_=>?_,λe=>by cases e⟩;rw[z6 aA];refine .inl ?_;obtain⟨g,a,b,u,U',e,v,s',pl',h1,h2,h3,h4,h5,h6,h7,h8,h9⟩:=JS aw hG h (hG.gfun Gds.nil f) (hG.gcall Gds.nil args);refine fin (u:=u) (U':=U') (λR' hr=>?_) h3 h4 h5 h6 h7 h8 h9;rw[bB];exact KI h1 (h2.mono (R':=R') (by simp_all))
    .exact h.elim
   .exact h.elim
   .exact h.elim
   .exact h.elim
   .exact h.elim
   .rename_i oe oZ jc eJ l4 l5;split at h
    .rename_i hg;rw[hg];refine⟨λ_=>?_,λe=>by cases e⟩;rw[z6 aA];have aB:Cy o.op=false:=by
      cases ho:o.op<;>first|rfl|(exact absurd ho (oe _ _))|(exact absurd ho (oZ _ _))|skip
      case ext x=>cases x<;>first|rfl|(exact absurd ho (jc _))|(exact absurd ho (eJ _))|(exact absurd ho (l4 _))|(exact absurd ho (l5 _))
     cases ja:SA C (o.dst.getD 0) o.op (gev [] s.env) with
     |true =>
      rw[ja] at h;simp only[zh] at h;cases hm:Ea (H8 o.op) Rd hl (X2 (C.off+o.dst.getD 0) o.op (gev [] s.env)) with
      |false=>rw[hm] at h;exact h.elim
      |true =>
       rw[hm] at h;simp only[zh] at h;obtain⟨u,U',pl',v,s',h1,h2,⟨h3,fk⟩,h4⟩:=DG (λx=>hG.evs (Gds.nil (tb:=tb)) x) hG h;have gg:∀ R',R' u U'->vop (Q5 P) o.op env U R':=λR' hr=>by
        have:vop (Q5 P) o.op env U R'=QM (Q8 o.op (Q6 env) U) λp=>R' p.1 p.2:=by
         cases ho:o.op with
         |callF f a=>rw[ho] at aB;cases aB
         |callV f a=>rw[ho] at aB;cases aB
         |ext x =>
          cases x with
          |nextMap y=>rw[ho] at h1;cases h1
          |_=>rfl
         |_=>rfl
        rw[this,h1];exact hr
       obtain⟨k1,k2⟩:=hD.writeD fk (λdw=>R7 dw h1) hm bk;exact .inl ⟨u,U',gg _ ⟨rfl,rfl⟩,eL h3.leB k1,Qn aw r cg (Vp hB (WQ h1)) (h3.put o.dst h4) (by rw[QV];exact k2) hp (snoc h3.leB λ_ h=>Df h) (by omega) (by omega) h2 hK⟩
     |false =>
     rw[ja] at h;simp only[zT] at h;cases hm:((H8 o.op&&Se Rd hl (QN (C.off+o.dst.getD 0) o.op (gev [] s.env)))||PH Rd hl (QN (C.off+o.dst.getD 0) o.op (gev [] s.env))||(PR o.op&&Q1y Rd hl (QN (C.off+o.dst.getD 0) o.op (gev [] s.env)))) with
     |false=>rw[hm] at h;exact h.elim
     |true =>
      rw[hm] at h;simp only[zh] at h;obtain⟨u,U',pl',v,s',h1,h2,⟨h3,fk⟩,h4,hE⟩:=Ic hG h aB;have gg:∀ R',R' u U'->vop (Q5 P) o.op env U R':=λR' hr=>by
       have:vop (Q5 P) o.op env U R'=QM (Q8 o.op (Q6 env) U) λp=>R' p.1 p.2:=by
        cases ho:o.op with
        |callF f a=>rw[ho] at aB;cases aB
        |callV f a=>rw[ho] at aB;cases aB
        |ext x =>
         cases x with
         |nextMap y=>rw[ho] at h1;cases h1
         |_=>rfl
        |_=>rfl
       rw[this,h1];exact hr
      obtain⟨k1,k2⟩:=hD.write fk (λdw=>R7 dw h1) hE hm bk;exact .inl ⟨u,U',gg _ ⟨rfl,rfl⟩,eL h3.leB k1,Qn aw r cg (Vp hB (WQ h1)) (h3.put o.dst h4) (by rw[QV];exact k2) hp (snoc h3.leB λ_ h=>H3 h) (by omega) (by omega) h2 hK⟩
    .exact h.elim
  .rw[z7 aA] at h;have l6:o.op.kind≠2:=by rw[<-bG];exact aA
   by_cases aV:o.kind=1
   .rw[z6 aV] at h
    have rd:∀ (rq:Option Nat),(∀ q,rq=some q->V2 o.op (gev [] s.env) s.own=some q)->(Nat.ble chg o.kmin||Dx A o.kmin rq)=true->gd1 C o s (λs'=>Jw C r s' hl chg A ((o.kmax,rq)::Rd) K) ->
      QM (Zr env o.guard) λb=>vif b (if o.kind=2 then (NL (λR=>vop (Q5 P) o.op env U R) λv U'=>J8 hs.length U' pend/\Z9 (Q5 P) r (Jb env o.dst v) (hs++[U']) U' pend R)\/(waits o.dst.toList r=true/\vop (Q5 P) o.op env U λv U'=>J8 hs.length U' pend/\Z9 (Q5 P) r (Jb env o.dst v) (hs++[U']) U' pend R)
       else if o.kind=1 then QM (Q8 o.op (Q6 env) U) λp=>(∀ Z∈hs.drop o.kmin,J4 o.op (Q6 env) p.1 Z) /\
        Z9 (Q5 P) r (Jb env o.dst p.1) hs U (if hs.length<=o.kmax then (o.kmax,J4 o.op (Q6 env) p.1)::pend else pend) R
       else QM (Q8 o.op (Q6 env) U) λp=>Z9 (Q5 P) r (Jb env o.dst p.1) hs U pend R)
      (if o.kind=2 then J8 hs.length U pend/\Z9 (Q5 P) r (Jb env o.dst undef) (hs++[U]) U pend R else Z9 (Q5 P) r (Jb env o.dst undef) hs U pend R):=λrq og hc h=>by
     obtain⟨b,hw,h1,h2⟩:=YQ hG h;rw[hw];have l7:DSt hs U pd hl chg A ((o.kmax,rq)::Rd) s.own pl:=⟨hD.len,hD.same,λc hc=>(hD.pend c hc).imp id (by simp_all),hD.fr⟩;refine⟨λe=>?_,λe=>?_⟩
     .obtain⟨u,s',tb',h3,h4,aP,h5⟩:=h1 e;rw[z7 aA,z6 aV,h3];refine⟨λZ hτ=>?_,?_⟩
      .obtain⟨j,hj⟩:=x8.1 hτ;rw[zZ] at hj;rw[zt] at hc;rcases hc with hc|hc
       .have:=hD.same (o.kmin+j) Z (by have:=zF hc;omega) hj;subst this;exact Zm h3
       .unfold Dx at hc;split at hc
        .rename_i q;obtain⟨k1,i,bl,k2,k3,k4,k5⟩:=Wl hG (og q rfl) h3;have hu:QW A (o.kmin+j) (q / 2)=true:=by
          simp only[QW,zf,zt,zG] at hc |-
          grind
         have:=hD.fr (o.kmin+j) Z (q / 2) i hj hu k1 k2
         grind [Zm]
        .cases hc
      .by_cases hle:hs.length<=o.kmax
       .rw[z6 hle];refine Qn aw r cg hB h5 (A:=A) (Rd:=(o.kmax,rq)::Rd) (hl:=hl) (chg:=chg) (pd:=(o.kmax,J4 o.op (Q6 env) u)::pd) ?_ (λc hc=>?_) b_ eR bk h4 hK
        .rw[aP];refine⟨hD.len,hD.same,λc hc=>?_,hD.fr⟩;rcases zD.1 hc with rfl|hc
         .refine .inr ⟨_,zl,zd _,?_⟩;cases rq with
          |none=>exactλZ hτ=>Zm (Bt l6 h3 hτ)
          |some q =>obtain⟨k1,i,bl,k2,k3,k4,k5⟩:=Wl hG (og q rfl) h3;exact⟨k1,i,bl,k2,k3,λZ ht=>Zm (k4 Z ht),(by grind [Zm])⟩
         .exact l7.pend c hc
        grind
       .rw[z7 hle];exact Qn aw r cg hB h5 (A:=A) (Rd:=(o.kmax,rq)::Rd) (hl:=hl) (chg:=chg) (pd:=pd) (by rw[aP];exact l7) hp b_ eR bk h4 hK
     .obtain⟨s',tb',h4,aP,h5⟩:=h2 e;rw[z7 aA];exact Qn aw r cg hB h5 (by rw[aP];exact l7) hp b_ eR bk h4 hK
    have ro:N7 A o.kmin=true->(∀ u,Q8 o.op (Q6 env) U=some (u,U)->(Zr env o.guard=some true)->∀ Z,B.Le Z->Q8 o.op (Q6 env) Z=some (u,Z))->gd1 C o s (λs'=>Jw C r s' hl chg A Rd K) ->
      QM (Zr env o.guard) λb=>vif b (if o.kind=2 then (NL (λR=>vop (Q5 P) o.op env U R) λv U'=>J8 hs.length U' pend/\Z9 (Q5 P) r (Jb env o.dst v) (hs++[U']) U' pend R)\/(waits o.dst.toList r=true/\vop (Q5 P) o.op env U λv U'=>J8 hs.length U' pend/\Z9 (Q5 P) r (Jb env o.dst v) (hs++[U']) U' pend R)
       else if o.kind=1 then QM (Q8 o.op (Q6 env) U) λp=>(∀ Z∈hs.drop o.kmin,J4 o.op (Q6 env) p.1 Z) /\
        Z9 (Q5 P) r (Jb env o.dst p.1) hs U (if hs.length<=o.kmax then (o.kmax,J4 o.op (Q6 env) p.1)::pend else pend) R
       else QM (Q8 o.op (Q6 env) U) λp=>Z9 (Q5 P) r (Jb env o.dst p.1) hs U pend R)
      (if o.kind=2 then J8 hs.length U pend/\Z9 (Q5 P) r (Jb env o.dst undef) (hs++[U]) U pend R else Z9 (Q5 P) r (Jb env o.dst undef) hs U pend R):=λl8 bW h=>by
     obtain⟨b,hw,h1,h2⟩:=YQ hG h;rw[hw];refine⟨λe=>?_,λe=>?_⟩
     .obtain⟨u,s',tb',h3,h4,aP,h5⟩:=h1 e;have bW:=bW u h3 (by rw[hw,e]);rw[z7 aA,z6 aV,h3];refine⟨λZ hτ=>?_,?_⟩
      .obtain⟨j,hj⟩:=x8.1 hτ;rw[zZ] at hj;refine Zm (bW Z (b_ _ Z hj ?_));simp only[N7,zf,zt,zG] at l8 |-
       grind
      refine Qn aw r cg hB h5 (A:=A) (Rd:=Rd) (hl:=hl) (chg:=chg) (pd:=pd) (by rw[aP];exact hD) (λc hc=>?_) b_ eR bk h4 hK;split at hc
      .rcases zD.1 hc with rfl|hc
       .grind [Zm]
       .exact hp c hc
      .exact hp c hc
     .obtain⟨s',tb',h4,aP,h5⟩:=h2 e;rw[z7 aA];exact Qn aw r cg hB h5 (by rw[aP];exact hD) hp b_ eR bk h4 hK
    split at h
    .rename_i hg;cases hr:(Q20 o.op (gev [] s.env)&&N7 A o.kmin) with
     |true =>rw[hr] at h;rw[z1] at hr;exact ro hr.2 (λu hu _=>VF hG Gds.nil hr.1 hu) h
     |false =>
     rw[hr] at h;simp only[zT] at h;cases hb:(Nat.ble chg o.kmin||Dx A o.kmin (V2 o.op (gev [] s.env) s.own)) with
     |false=>rw[hb] at h;exact h.elim
     |true =>rw[hb] at h;exact rd _ (λq hq=>hq) hb h
    .rename_i j want hg;cases hr:(Fy s j want o.op&&N7 A o.kmin) with
     |true =>
      rw[hr] at h;rw[z1] at hr;obtain⟨hr,l8⟩:=hr;refine ro l8 (λu hu hw=>?_) h;unfold Fy at hr;split at hr
      .rename_i gs s1 cZ;obtain⟨tb',bh,dA,b,fU,bI,bP⟩:=JO hG cZ;rw[hg,fU] at hw;have e:=osj hw;exact VF bh (λg hg=>⟨bI e g hg,dA g hg⟩) hr hu
      .cases hr
     |false =>
     rw[hr] at h;simp only[zT] at h;cases hb:Nat.ble chg o.kmin with
     |false=>rw[hb] at h;exact h.elim
     |true =>rw[hb] at h;exact rd none (λq hq=>by cases hq) (by rw[hb];rfl) h
   .rw[z7 aV] at h;obtain⟨b,hw,h1,h2⟩:=YQ hG h;rw[hw];refine⟨λe=>?_,λe=>?_⟩
    .obtain⟨u,s',tb',h3,h4,aP,h5⟩:=h1 e;rw[z7 aA,z7 aV,h3];exact Qn aw r cg hB h5 (by rw[aP];exact hD) hp b_ eR bk h4 hK
    .obtain⟨s',tb',h4,aP,h5⟩:=h2 e;rw[z7 aA];exact Qn aw r cg hB h5 (by rw[aP];exact hD) hp b_ eR bk h4 hK
def YS (pl:Nat->Value) (mp:List (Nat×Option Nat)):Nat->Value:=λt=>match Qp mp t with
 |some (some a)=>pl a
 |_=>.slice none 0 0
theorem Sv {h:Heap}{k k':Kind}{x:k.T}{y:k'.T}(e:KZ x y) {cs:List Value}(hk:KC h k' y cs):KC h k x cs:=by
 unfold KZ at e
 grind [Pv,Pw]
mutual
theorem Wq {B:Heap}{pl:Nat->Value}{tb:Nat->Option Bool}{mp:List (Nat×Option Nat)}:∀ (p a:SV) (v:Value),D4 mp p a->SR P B pl tb a v->SR P B (YS pl mp) Zn p v
 |.any,a,v,_,_=>trivial
 |.val k x,a,v,h,hs=>by
  simp only[D4] at h;split at h
  .simp only[SR] at hs |-;exact Sv h hs
  .simp only[SR] at hs |-;exact Sv h (by simp[KC,hs.1])
  .split at h
   .subst h;simp only[SR] at hs |-;subst hs;exact⟨_,rfl,.inl ⟨rfl,rfl⟩⟩
   .exact h.elim
  .exact h.elim
 |.lst t,a,v,h,hs=>by
  simp only[D4] at h;split at h
  .split at h
   .rename_i e;simp only[SR,YS,e] at hs |-;exact hs
   .exact h.elim
  .split at h
   .rename_i e;simp only[SR,YS,e] at hs |-;exact⟨hs,_,_,_,hs⟩
   .exact h.elim
  .exact h.elim
 |.box t off,a,v,h,hs=>by
  simp only[D4] at h;split at h
  .split at h
   .rename_i e;obtain⟨e,rfl⟩:=e;simp only[SR,YS,e] at hs |-;exact hs
   .exact h.elim
  .exact h.elim
 |.map t,a,v,h,hs=>by
  simp only[D4] at h;split at h
  .split at h
   .rename_i e;simp only[SR,YS,e] at hs |-;exact hs
   .exact h.elim
  .exact h.elim
 |.dd t w,a,v,h,hs=>by
  simp only[D4] at h;split at h
  .split at h
   .simp only[SR] at hs |-;simp only[DR];exact .inl ⟨h,hs⟩
   .split at h
    .rename_i e;obtain⟨e,rfl⟩:=e;simp only[SR,DR,YS,e] at hs |-;obtain⟨b,h1,h2⟩:=hs;exact .inr ⟨h,b,by rw[h1];rfl,h2⟩
    .exact h.elim
   .split at h
    .split at h
     .rename_i e;subst h;simp only[SR,DR,YS,e] at hs |-;exact hs
     .exact h.elim
    .exact h.elim
   .exact h.elim
  .split at h
   .split at h
    .split at h
     .rename_i e;simp only[SR,YS,e] at hs |-;exact hs
     .exact h.elim
    .exact h.elim
   .exact h.elim
  .split at h
   .split at h
    .split at h
     .rename_i e;simp only[SR,YS,e] at hs |-;exact hs
     .exact h.elim
    .exact h.elim
   .split at h
    .rename_i e;simp only[SR,YS,e] at hs |-;exact⟨hs,_,_,_,hs⟩
    .exact h.elim
   .exact h.elim
  .exact h.elim
 |.agg l,a,v,h,hs=>by
  simp only[D4] at h;split at h
  .rename_i l';simp only[SR] at hs |-;obtain⟨cs,h1,h2⟩:=hs;exact⟨cs,h1,Z6 l l' cs h h2⟩
  .exact h.elim
 |.tup l,a,v,h,hs=>by
  simp only[D4] at h;split at h
  .rename_i l';simp only[SR] at hs |-;obtain⟨cs,h1,h2⟩:=hs;exact⟨cs,h1,Z6 l l' cs h h2⟩
  .exact h.elim
 |.fn f x y,a,v,h,hs=>by
  simp only[D4] at h;split at h
  .split at h
   .rename_i e;subst e;simp only[SR] at hs |-;obtain⟨cs,ds,h1,h2,h3⟩:=hs;exact⟨cs,ds,h1,Z6 x _ cs h.1 h2,Z6 y _ ds h.2 h3⟩
   .exact h.elim
  .exact h.elim
 |.nilS,a,v,h,hs=>by
  simp only[D4] at h;split at h
  .simp only[SR] at hs |-;exact hs
  .exact h.elim
 |.nilP,a,v,h,hs=>by
  simp only[D4] at h;split at h
  .simp only[SR] at hs |-;exact hs
  .exact h.elim
 |.nilM,a,v,h,hs=>by
  simp only[D4] at h;split at h
  .simp only[SR] at hs |-;exact hs
  .exact h.elim
 |.nilF,a,v,h,hs=>by
  simp only[D4] at h;split at h
  .simp only[SR] at hs |-;exact hs
  .exact h.elim
 |.cp l off,a,v,h,hs=>by
  simp only[D4] at h;cases qL:SVs.pure l with
  |true =>rw[qL] at h;simp only[zh] at h;obtain⟨rfl,_⟩:=h;simp only[SR] at hs |-;obtain⟨b,c,e,wr,t,h1,h2,h3⟩:=hs;exact⟨b,c,e,wr,t,h1,h2,Qx l c qL h3⟩
  |false =>
   rw[qL] at h;simp only[zT] at h;split at h
   .split at h
    .rename_i l' dy he;subst he;simp only[SR] at hs |-;obtain⟨b,c,e,wr,t,h1,h2,h3⟩:=hs;exact⟨b,c,e,wr,t,h1,h2,Z6 l l' c h h3⟩
    .exact h.elim
   .exact h.elim
 |.pf ks r cu p,a,v,h,hs=>by simp only[D4] at h;subst h;simp only[SR] at hs |-;exact hs
 |.sub t lo n sz,a,v,h,hs=>by
  simp only[D4] at h;split at h
  .split at h
   .rename_i e;obtain⟨rfl,rfl,rfl⟩:=h;simp only[SR,YS,e] at hs |-;exact hs
   .exact h.elim
  .exact h.elim
 |.elp _ _ _ _,_,_,h,_|.grd _ _,_,_,h,_|.bid _ _,_,_,h,_|.rop _ _ _ _,_,_,h,_=>by simp only[D4] at h
theorem Z6 {B:Heap}{pl:Nat->Value}{tb:Nat->Option Bool}{mp:List (Nat×Option Nat)}:∀ (p a:List SV) (v:List Value),VT mp p a->SRs P B pl tb a v->SRs P B (YS pl mp) Zn p v
 |[],a,v,h,hs=>by simp only[VT] at h;subst h;exact hs
 |s::ss,[],v,h,hs=>by simp only[VT] at h
 |s::ss,a::bQ,v,h,hs=>by simp only[VT] at h;simp only[SRs] at hs |-;obtain⟨x,y,h1,h2,h3⟩:=hs;exact⟨x,y,h1,Wq s a x h.1 h2,Z6 ss bQ y h.2 h3⟩
theorem Mr {B:Heap}{pl pl':Nat->Value}{tb tb':Nat->Option Bool}:∀ (s:SV) (v:Value),s.pure=true->SR P B pl tb s v->SR P B pl' tb' s v
 |.any,v,_,_=>trivial
 |.val k x,v,_,h=>by simp only[SR] at h |-;exact h
 |.nilS,v,_,h|.nilP,v,_,h|.nilM,v,_,h|.nilF,v,_,h=>by simp only[SR] at h |-;exact h
 |.rop k l i off,v,_,h=>by simp only[SR] at h |-;exact h
 |.pf ks r cu p,v,_,h=>by simp only[SR] at h |-;exact h
 |.agg l,v,hp,h=>by simp only[SR] at h |-;obtain⟨cs,h1,h2⟩:=h;exact⟨cs,h1,Qx l cs hp h2⟩
 |.tup l,v,hp,h=>by simp only[SR] at h |-;obtain⟨cs,h1,h2⟩:=h;exact⟨cs,h1,Qx l cs hp h2⟩
 |.cp l off,v,hp,h=>by simp only[SR] at h |-;obtain⟨b,c,e,wr,t,h1,h2,h3⟩:=h;exact⟨b,c,e,wr,t,h1,h2,Qx l c hp h3⟩
 |.fn f a b,v,hp,h=>by simp only[SV.pure,z1] at hp;simp only[SR] at h |-;obtain⟨x,y,h1,h2,h3⟩:=h;exact⟨x,y,h1,Qx a x hp.1 h2,Qx b y hp.2 h3⟩
 |.lst _,_,h,_|.sub _ _ _ _,_,h,_|.elp _ _ _ _,_,h,_|.box _ _,_,h,_|.map _,_,h,_|.grd _ _,_,h,_|.bid _ _,_,h,_=>by cases h
theorem Qx {B:Heap}{pl pl':Nat->Value}{tb tb':Nat->Option Bool}:∀ (s:List SV) (v:List Value),SVs.pure s=true->SRs P B pl tb s v->SRs P B pl' tb' s v
 |[],v,_,h=>by simp only[SRs] at h |-;exact h
 |s::ss,v,hp,h=>by simp only[SVs.pure,z1] at hp;simp only[SRs] at h |-;obtain⟨x,y,h1,h2,h3⟩:=h;exact⟨x,y,h1,Mr s x hp.1 h2,Qx ss y hp.2 h3⟩
end
end
end Go.V
namespace Go.V
open Go
section
variable {P:Program}{B F:Heap}{pl:Nat->Value}{tb:Nat->Option Bool}{s:St}{env:Env}{U:Heap}
theorem WX {k k':Kind}{xs:List k.T}{ys:List k'.T}(h:KZ (k:=.list k) xs (k':=.list k') ys):∃ e:k'=k,e▸ys=xs:=by
 unfold KZ at h
 grind [Pv,Kind.list.inj,Pw]
theorem Qs (hG:Gam P B F pl tb s env U) {mp:List (Nat×Option Nat)}{t:Nat}{b:OB}(h:Ak s mp t b) :
  OR P B (YS pl mp) Zn U (YS pl mp t) b/\(b.live=true->∀ i,Oid (YS pl mp t) i->∃ a,Qp mp t=some (some a)/\(Qa s.own a).live=true/\Oid (pl a) i):=by
 unfold Ak at h;split at h
 .rename_i a ha;have aU:YS pl mp t=pl a:=by simp[YS,ha]
  rw[aU];have ah:=hG.obj a;split at h
  .exact⟨trivial,λh=>by cases h⟩
  .rename_i ty k xs nl fy k' bN gP ho;split at h
   .rename_i e;subst e;obtain⟨h1,rfl⟩:=h;obtain⟨rfl,rfl⟩:=WX h1;rw[ho] at ah;exact⟨ah,(by simp_all)⟩
   .exact h.elim
  .rename_i l u l' u' ho;split at h
   .rename_i e0;subst e0;rw[ho] at ah;obtain⟨i,c,e,t',h1,h2,h3,h4⟩:=ah;exact⟨⟨i,c,e,t',h1,h2,Z6 l l' c h h3,h4⟩,λ_ i hi=>⟨a,ha,by rw[ho];rfl,hi⟩⟩
   .exact h.elim
  .rename_i kk vk m gQ kH m' ho;split at h
   .obtain⟨e,h1⟩:=WX h;obtain⟨rfl,rfl⟩:=Kind.pair.inj e;subst h1;rw[ho] at ah;exact⟨ah,(by simp_all)⟩
   .exact h.elim
  .rename_i l vals l' kI ho;rw[ho] at ah;obtain⟨rfl,h⟩:=h;exact⟨Z6 l l' vals h ah,λh=>by cases h⟩
  .rename_i l q u l' q' u' ho;rw[ho] at ah;split at h
   .obtain⟨rfl,h⟩:=h;exact⟨⟨ah.1,Z6 l l' q.vals h ah.2.1,ah.2.2⟩,λ_ i hi=>⟨a,ha,by rw[ho];rfl,hi⟩⟩
   .obtain⟨rfl,h⟩:=h;exact⟨⟨ah.1,Z6 l l' q.vals h ah.2.1,ah.2.2⟩,λh=>by cases h⟩
   .exact h.elim
  .rename_i kk vk m dn gQ kH m' rZ ho;split at h
   .obtain⟨h,rfl⟩:=h;obtain⟨e,h1⟩:=WX h;obtain⟨rfl,rfl⟩:=Kind.pair.inj e;subst h1;rw[ho] at ah;exact⟨ah,(by simp_all)⟩
   .exact h.elim
  .rename_i kk vk m gQ kH m' ho;split at h
   .obtain⟨e,h1⟩:=WX h;obtain⟨rfl,rfl⟩:=Kind.pair.inj e;subst h1;rw[ho] at ah;exact⟨ah,λh=>by cases h⟩
   .exact h.elim
  .rename_i l pos l' pos' ho;obtain⟨rfl,rfl⟩:=h;rw[ho] at ah;exact⟨ah,λ_ i hi=>⟨a,ha,by rw[ho];rfl,hi⟩⟩
  .rename_i ty q k xs nl h0 fy q' k' bN gP rL ho;split at h
   .rename_i e;obtain⟨rfl,rfl⟩:=e;split at h
    .obtain⟨h1,rfl⟩:=h;obtain⟨rfl,rfl⟩:=WX h1;rw[ho] at ah;exact⟨ah,(by simp_all)⟩
    .exact h.elim
   .exact h.elim
  .rename_i ik l il l' ho;split at h
   .rename_i e;obtain⟨rfl,rfl⟩:=e;rw[ho] at ah;exact⟨ah,(by simp_all)⟩
   .exact h.elim
  .exact h.elim
 .rename_i ha;have aU:YS pl mp t=.slice none 0 0:=by simp[YS,ha]
  rw[aU];split at h
  .exact⟨.inl ⟨h.2,h.1,rfl⟩,λ_ i hi=>by cases hi⟩
  .split at h
   .obtain⟨rfl,rfl⟩:=h;refine⟨⟨[],λi=>⟨λh=>(by cases h),λ⟨b,h⟩=>(by cases h)⟩,List.nodup_nil,.inl ⟨rfl,rfl,rfl⟩,λi=>⟨λ⟨b,h⟩=>(by cases h),λh=>(by cases h)⟩,(λi b h=>by cases h),by simp[phd]⟩,λ_ i hi=>by cases hi⟩
   .exact h.elim
  .exact h.elim
 .exact h.elim
theorem Y9 {α:Type _}(l:List (Nat×α)) (t:Nat) (x:α) (d:Nat):Qp (l++[(t,x)]) d=match Qp l d with|some y=>some y|none=>if t=d then some x else none:=by
 induction l with
 |nil =>
  simp only[xB,Qp];by_cases h:t=d
  .subst h;simp
  .rw[Z2 h];simp[h]
 |cons p l ih =>obtain⟨k,y⟩:=p;simp only[xw,Qp,ih];cases Nat.beq k d<;>rfl
theorem S_ {α:Type _}{l:List (Nat×α)}{d:Nat}{x:α}(h:Qp l d=some x):∃ p∈l,p.1=d/\p.2=x:=by
 induction l with
 |nil=>cases h
 |cons p l ih =>
  obtain⟨k,y⟩:=p;simp only[Qp] at h;cases hb:Nat.beq k d with
  |true=>rw[hb] at h;obtain rfl:=osj h;exact(by simp_all)
  |false =>rw[hb] at h;obtain⟨p,h1,h2⟩:=ih h;exact⟨p,zA _ h1,h2⟩
def Inj (mp:List (Nat×Option Nat)):Prop:=∀ t t' a,Qp mp t=some (some a)->Qp mp t'=some (some a)->t=t'
theorem D6:∀ (l:List (Nat×Src)) (mp bY:List (Nat×Option Nat)),Q2j s l mp=some bY->Inj mp->Inj bY
 |[],mp,bY,h,hi=>by obtain rfl:=osj h;exact hi
 |(t,src)::r,mp,bY,h,hi=>by
  simp only[Q2j] at h;split at h
  .rename_i a _;split at h
   .cases h
   .rename_i hc;refine D6 r _ _ h ?_;have cE:∀ d,Qp mp d≠some (some a):=λd hd=>by
     obtain⟨p,h1,h2,h3⟩:=S_ hd
     grind
    intro t1 t2 a' h1 h2;rw[Y9] at h1 h2;split at h1
    .rename_i y1 e1;split at h2
     .rename_i y2 e2;obtain rfl:=osj h1;obtain rfl:=osj h2;exact hi t1 t2 a' e1 e2
     simp_all
    .split at h1
     .rename_i e1;obtain rfl:=osj (osj h1);split at h2
      .simp_all
      simp_all
     .cases h1
  .split at h
   .cases h
   .refine D6 r _ _ h ?_;intro t1 t2 a' h1 h2;rw[Y9] at h1 h2;split at h1
    .rename_i y1 e1;split at h2
     .rename_i y2 e2;obtain rfl:=osj h1;obtain rfl:=osj h2;exact hi t1 t2 a' e1 e2
     .split at h2<;>cases h2
    .split at h1<;>cases h1
  .cases h
theorem PZ {mp:List (Nat×Option Nat)}:∀ {ow:List (Nat×Src×OB)},gmatch.obs s mp ow->∀ p∈ow,Ak s mp p.1 p.2.2
 |[],_,p,hp=>by cases hp
 |(t,src,b)::r,h,p,hp=>by
  simp only[gmatch.obs] at h;rcases zD.1 hp with rfl|hp
  .exact h.1
  .exact PZ h.2 p hp
theorem W0 {f:List (Nat×Src×OB)}:∀ (own:Own) (t:Nat),(∃ p∈f,p.1=t/\Qa (f.foldl (λo p=>oset o p.1 p.2.2) own) t=p.2.2)\/Qa (f.foldl (λo p=>oset o p.1 p.2.2) own) t=Qa own t:=by
 induction f with
 |nil=>intro own t;exact .inr rfl
 |cons p f ih =>
  intro own t;simp only[xu];rcases ih (oset own p.1 p.2.2) t with⟨q,h1,h2⟩|h
  .grind
  .rw[h,Qc]
   grind
theorem Bz (hG:Gam P B F pl tb s env U) {mp:List (Nat×Option Nat)}:∀ (st:List (Nat×SV)) {e:List SV}{eV:Env},gmatch.slots s mp st->SRs P B (YS pl mp) Zn e eV->SRs P B (YS pl mp) Zn (st.foldl (λe p=>e.set p.1 p.2) e) (JM (st.map (·.1)) (GJ (st.map (·.1)) env) eV)
 |[],e,eV,_,h=>h
 |(j,v)::r,e,eV,hs,h=>by simp only[gmatch.slots] at hs;simp only[xu,zS,GJ,JM];exact Bz hG r hs.2 (h.set j (Wq v _ _ hs.1 (hG.env.getD j poison)))
theorem FO {B:Heap}{pl:Nat->Value}{tb:Nat->Option Bool}:∀ n,SRs P B pl tb (List.replicate n .any) (List.replicate n poison)
 |0=>by simp[SRs]
 |n+1=>by simp only[xx,SRs];exact⟨_,_,rfl,by simp[SR],FO n⟩
theorem G9 {B0 F0 D0:Heap}(hR:GRel P B0 F0 D0 s env U) {st:List (Nat×SV)}{ow:List (Nat×Src×OB)}(h:gmatch s st ow) (len:Nat):GRel P B0 F0 D0 (QH len st ow) (JM (st.map (·.1)) (GJ (st.map (·.1)) env) (List.replicate len poison)) U:=by
 obtain⟨B,F,pl,tb,hB,hG⟩:=hR;unfold gmatch at h;split at h
 .rename_i mp l9;obtain⟨h1,h2⟩:=h;have dN:=D6 _ _ _ l9 (λt t' a h=>by cases h);have aW:=PZ h2;have ah:∀ t,(Qa (QH len st ow).own t).live=true->Ak s mp t (Qa (QH len st ow).own t):=λt hl=>by
   rcases W0 (f:=ow) [] t with⟨p,h3,h4,h5⟩|h3
   .have:=aW p h3;rw[h4,<-h5] at this;exact this
   .simp only[QH] at hl;rw[h3] at hl;cases hl
  refine⟨B,F,YS pl mp,Zn,hB,hG.bf,hG.le,Bz hG st h1 (FO len),λt=>?_,λt i hl hi=>?_,λt t' i aK hl bF hi bS=>?_,λ_ _=>rfl⟩
  .cases hl:(Qa (QH len st ow).own t).live with
   |true=>exact(Qs hG (ah t hl)).1
   |false =>
    cases ho:Qa (QH len st ow).own t with
    |dead=>trivial
    |stk l vals =>
     rcases W0 (f:=ow) [] t with⟨p,h3,h4,h5⟩|h3
     .have:=aW p h3;simp only[QH] at ho
      grind [Qs]
     .simp only[QH] at ho;rw[h3] at ho;cases ho
    |rmap kk vk m =>
     rcases W0 (f:=ow) [] t with⟨p,h3,h4,h5⟩|h3
     .have:=aW p h3;simp only[QH] at ho
      grind [Qs]
     .simp only[QH] at ho;rw[h3] at ho;cases ho
    |lpf l q u =>
     rcases W0 (f:=ow) [] t with⟨p,h3,h4,h5⟩|h3
     .have:=aW p h3;simp only[QH] at ho
      grind [Qs]
     .simp only[QH] at ho;rw[h3] at ho;cases ho
    |_=>rw[ho] at hl;cases hl
  .obtain⟨a,_,h4,h5⟩:=(Qs hG (ah t hl)).2 hl i hi;exact hG.fresh a i h4 h5
  .obtain⟨a,e1,h4,h5⟩:=(Qs hG (ah t hl)).2 hl i hi;obtain⟨a',e2,jj,qM⟩:=(Qs hG (ah t' bF)).2 bF i bS;by_cases e:a=a'
   .subst e;exact aK (dN t t' a e1 e2)
   .exact hG.sep a a' i e h4 jj h5 qM
 .exact h.elim
theorem My:∀ {dx cz:List SV}{vs:List Value}{B F:Heap}{s s':St},Gam P B F pl tb s env U->SRs P B pl tb dx vs->Q1f s dx=some (s',cz) ->
  ∃ B' F',GBase B F U B' F' U/\Gam P B' F' pl tb s' env U/\SRs P B' J3 Zn cz vs/\s'.env=s.env
 |[],cz,vs,B,F,s,s',hG,hs,h=>by simp only[Q1f,xe,Prod.mk.injEq] at h;obtain⟨rfl,rfl⟩:=h;exact⟨B,F,.of hG.bf (.refl _),hG,hs,rfl⟩
 |v::dx,cz,vs,B,F,s,s',hG,hs,h=>by
  simp only[SRs] at hs;obtain⟨u,us,rfl,h1,h2⟩:=hs
  have oi:∀ w:SV,SR P B pl tb w u->(bif w.pure then (match Q1f s dx with|some (s',r)=>some (s',w::r)|none=>none) else none)=some (s',cz) ->
    ∃ B' F',GBase B F U B' F' U/\Gam P B' F' pl tb s' env U/\SRs P B' J3 Zn cz (u::us)/\s'.env=s.env:=λw hw h=>by
   cases hp:w.pure with
   |false=>rw[hp] at h;cases h
   |true =>
    rw[hp] at h;simp only[zh] at h;split at h
    .rename_i s1 r heq;simp only[xe,Prod.mk.injEq] at h;obtain⟨rfl,rfl⟩:=h;obtain⟨B',F',k1,k2,k3,k4⟩:=My hG h2 heq;exact⟨B',F',k1,k2,by simp only[SRs];exact⟨u,us,rfl,SR.mono k1.b (λ_ _ h=>h) _ _ (Mr w u hp hw),k3⟩,k4⟩
    .cases h
  simp only[Q1f] at h;split at h
  .rename_i o;split at h
   .rename_i l _ ho;cases hp:SVs.pure l with
    |false=>rw[hp] at h;cases h
    |true =>
     rw[hp] at h;simp only[zh] at h;split at h
     .rename_i s1 r heq;simp only[xe,Prod.mk.injEq] at h;obtain⟨rfl,rfl⟩:=h;have ah:=hG.obj o;rw[ho] at ah;obtain⟨i,c,e,t,e1,e2,e3,_⟩:=ah;obtain⟨k1,k2⟩:=hG.freeze (o:=o) (i:=i) (by rw[ho];rfl) (by rw[e1];rfl);obtain⟨B',F',j1,j2,j3,j4⟩:=My k2 (SRs.mono k1.b (λ_ _ h=>h) _ _ h2) heq;refine⟨B',F',k1.trans j1,j2,?_,j4⟩;simp only[SRs];refine⟨u,us,rfl,?_,j3⟩;simp only[SR] at h1 |-;obtain⟨b,q1,q2⟩:=h1;rw[e1] at q1;obtain rfl:i=b:=by simpa using q1
      refine⟨i,c,e,true,t,j1.b.2 _ _ ?_,q2,SRs.mono (k1.trans j1).b (λ_ _ h=>h) _ _ (Qx l c hp e3)⟩;rw[Heap.q0o];exact e2
     .cases h
   .cases h
  .exact oi _ h1 h
theorem Gam.lpUpd (hG:Gam P B F pl tb s env U) {n:Nat}{b b0:Blk}(hF:F.get n=some b0) (hB:B.get n=none):Gam P B (F.upd n b) pl tb s env (U.upd n b):=by
 have aK:∀ {d i},(Qa s.own d).live=true->Oid (pl d) i->i≠n:=λh1 h2 e=>by have:=hG.fresh _ _ h1 h2;subst e;rw[hF] at this;cases this
 refine⟨⟨hG.bf.1,λi c hc=>?_⟩,⟨hG.le.1,λi c hc=>?_⟩,hG.env,λd=>(hG.obj d).mono (.refl _) (λ_ _ h=>h) (by grind [Heap.q0b]),λd i h1 h2=>?_,hG.sep,hG.free⟩
 .have:i≠n:=by rintro rfl;rw[hB] at hc;cases hc
  rw[Heap.q0b _ _ this];exact hG.bf.2 _ _ hc
 .by_cases e:i=n
  .subst e;rw[Heap.q0d _ _ (F.lt hF)] at hc;rw[Heap.q0d _ _ (xm (F.lt hF) hG.le.1)];exact hc
  .rw[Heap.q0b _ _ e] at hc |-;exact hG.le.2 _ _ hc
 .rw[Heap.q0b _ _ (aK h1 h2)];exact hG.fresh _ _ h1 h2
theorem Gam.lpKill (hG:Gam P B F pl tb s env U) {n:Nat}{b0:Blk}(hF:F.get n=some b0) (hB:B.get n=none):Gam P B (F.kill n) pl tb s env (U.kill n):=by
 have aK:∀ {d i},(Qa s.own d).live=true->Oid (pl d) i->i≠n:=λh1 h2 e=>by have:=hG.fresh _ _ h1 h2;subst e;rw[hF] at this;cases this
 refine⟨⟨hG.bf.1,λi c hc=>?_⟩,⟨hG.le.1,λi c hc=>?_⟩,hG.env,λd=>(hG.obj d).mono (.refl _) (λ_ _ h=>h) (by grind [Heap.q0c]),λd i h1 h2=>?_,hG.sep,hG.free⟩
 .have:i≠n:=by rintro rfl;rw[hB] at hc;cases hc
  rw[Heap.q0c _ this];exact hG.bf.2 _ _ hc
 .by_cases e:i=n
  .grind [Heap.q0i]
  .rw[Heap.q0c _ e] at hc |-;exact hG.le.2 _ _ hc
 .rw[Heap.q0c _ (aK h1 h2)];exact hG.fresh _ _ h1 h2
theorem GRel.lpUpd {B1 F1 D0:Heap}(h:GRel P B1 F1 D0 s env U) {n:Nat}{b b0:Blk}(hF:F1.get n=some b0) (hB:B1.get n=none):GRel P B1 (F1.upd n b) D0 s env (U.upd n b):=by
 obtain⟨B,F,pl,tb,dB,hG⟩:=h;have om:=dB.f.2 _ _ hF;have oo:=dB.x _ _ hF hB;refine⟨B,F.upd n b,pl,tb,⟨dB.b,⟨dB.f.1,λi c hc=>?_⟩,λi c h1 h2=>?_,⟨dB.d.1,λi h1 h2=>?_⟩⟩,hG.lpUpd om oo⟩
 .by_cases e:i=n
  .subst e;rw[Heap.q0d _ _ (F1.lt hF)] at hc;rw[Heap.q0d _ _ (F.lt om)];exact hc
  .rw[Heap.q0b _ _ e] at hc |-;exact dB.f.2 _ _ hc
 .by_cases e:i=n
  .subst e;exact oo
  .rw[Heap.q0b _ _ e] at h1;exact dB.x _ _ h1 h2
 .have hd:=dB.d.2 i h1 h2;have:i≠n:=by rintro rfl;rw[hG.le.2 _ _ om] at hd;cases hd
  rw[Heap.q0b _ _ this];exact hd
theorem GRel.lpKill {B1 F1 D0:Heap}(h:GRel P B1 F1 D0 s env U) {n:Nat}{b0:Blk}(hF:F1.get n=some b0) (hB:B1.get n=none):GRel P B1 (F1.kill n) D0 s env (U.kill n):=by
 obtain⟨B,F,pl,tb,dB,hG⟩:=h;have om:=dB.f.2 _ _ hF;have oo:=dB.x _ _ hF hB;refine⟨B,F.kill n,pl,tb,⟨dB.b,⟨dB.f.1,λi c hc=>?_⟩,λi c h1 h2=>?_,⟨dB.d.1,λi h1 h2=>?_⟩⟩,hG.lpKill om oo⟩
 .by_cases e:i=n
  .grind [Heap.q0i]
  .rw[Heap.q0c _ e] at hc |-;exact dB.f.2 _ _ hc
 .by_cases e:i=n
  .subst e;exact oo
  .rw[Heap.q0c _ e] at h1;exact dB.x _ _ h1 h2
 .have hd:=dB.d.2 i h1 h2
  grind [Heap.q0i,Heap.q0c]
theorem GRel.base {B0 F0 B1 F1 D0:Heap}(h:GRel P B1 F1 D0 s env U) (hb:B0.Le B1) (hf:F0.Le F1) (hx:∀ i b,F0.get i=some b->B0.get i=none->B1.get i=none):GRel P B0 F0 D0 s env U:=by obtain⟨B,F,pl,tb,dB,hG⟩:=h;exact⟨B,F,pl,tb,⟨hb.trans dB.b,hf.trans dB.f,λi b h1 h2=>dB.x i b (hf.2 _ _ h1) (hx i b h1 h2),dB.d⟩,hG⟩
theorem Gc (hG:Gam P B F pl tb s env U) {mp:List (Nat×Option Nat)}:∀ (st:List (Nat×SV)) {e:List SV},gmatch.slots s mp st->SRs P B (YS pl mp) Zn e env->SRs P B (YS pl mp) Zn (st.foldl (λe p=>e.set p.1 p.2) e) env
 |[],e,_,h=>h
 |(j,v)::r,e,hs,h=>by
  simp only[gmatch.slots] at hs;simp only[xu];refine Gc hG r hs.2 ?_;have:=h.set j (Wq v _ _ hs.1 (hG.env.getD j poison))
  grind [List.getElem?_eq_getElem,List.set_getElem_self,List.set_eq_of_length_le]
theorem C_ {B:Heap}{pl:Nat->Value}{tb:Nat->Option Bool}:∀ (env:Env),SRs P B pl tb (List.replicate (List.length env) .any) env
 |[]=>by simp[SRs]
 |v::env=>by simp only[xj,xx,SRs];exact⟨_,_,rfl,by simp[SR],C_ env⟩
theorem YU {B0 F0 D0:Heap}(hR:GRel P B0 F0 D0 s env U) {st:List (Nat×SV)}{ow:List (Nat×Src×OB)}(h:gmatch s st ow):GRel P B0 F0 D0 (QH (List.length env) st ow) env U:=by
 obtain⟨B,F,pl,tb,hB,hG⟩:=hR;unfold gmatch at h;split at h
 .rename_i mp l9;obtain⟨h1,h2⟩:=h;have dN:=D6 _ _ _ l9 (λt t' a h=>by cases h);have aW:=PZ h2;have ah:∀ t,(Qa (QH (List.length env) st ow).own t).live=true->Ak s mp t (Qa (QH (List.length env) st ow).own t):=λt hl=>by
   rcases W0 (f:=ow) [] t with⟨p,h3,h4,h5⟩|h3
   .have:=aW p h3;rw[h4,<-h5] at this;exact this
   .simp only[QH] at hl;rw[h3] at hl;cases hl
  refine⟨B,F,YS pl mp,Zn,hB,hG.bf,hG.le,Gc hG st h1 (C_ env),λt=>?_,λt i hl hi=>?_,λt t' i aK hl bF hi bS=>?_,λ_ _=>rfl⟩
  .cases hl:(Qa (QH (List.length env) st ow).own t).live with
   |true=>exact(Qs hG (ah t hl)).1
   |false =>
    cases ho:Qa (QH (List.length env) st ow).own t with
    |dead=>trivial
    |stk l vals =>
     rcases W0 (f:=ow) [] t with⟨p,h3,h4,h5⟩|h3
     .have:=aW p h3;simp only[QH] at ho
      grind [Qs]
     .simp only[QH] at ho;rw[h3] at ho;cases ho
    |rmap kk vk m =>
     rcases W0 (f:=ow) [] t with⟨p,h3,h4,h5⟩|h3
     .have:=aW p h3;simp only[QH] at ho
      grind [Qs]
     .simp only[QH] at ho;rw[h3] at ho;cases ho
    |lpf l q u =>
     rcases W0 (f:=ow) [] t with⟨p,h3,h4,h5⟩|h3
     .have:=aW p h3;simp only[QH] at ho
      grind [Qs]
     .simp only[QH] at ho;rw[h3] at ho;cases ho
    |_=>rw[ho] at hl;cases hl
  .obtain⟨a,_,h4,h5⟩:=(Qs hG (ah t hl)).2 hl i hi;exact hG.fresh a i h4 h5
  .obtain⟨a,e1,h4,h5⟩:=(Qs hG (ah t hl)).2 hl i hi;obtain⟨a',e2,jj,qM⟩:=(Qs hG (ah t' bF)).2 bF i bS;by_cases e:a=a'
   .subst e;exact aK (dN t t' a e1 e2)
   .exact hG.sep a a' i e h4 jj h5 qM
 .exact h.elim
theorem TF {α:Type}{o:Option α}{f:α->Prop}(h:QM o f):∃ a,f a:=by
 cases o with
 |none=>exact h.elim
 |some a=>exact⟨a,h⟩
theorem COk.nx {C:Cx}(h:COk P C):COk P C.nx:=⟨h.cs,λf x hx=>(by cases hx),h.it,h.yl,h.iy,λf j _ x hx=>(by cases hx)⟩
theorem Xp {S:VSpecs}{Q:Prop}:∀ {ops:List DOper}{env:Env}{hs:List Heap}{U:Heap}{pend:List (Nat×(Heap->Prop))},ZC S ops env hs U pend (λ_ _=>Q)->Q
 |[],_,_,_,_,h=>h
 |o::r,env,hs,U,pend,h=>by
  simp only[ZC] at h;obtain⟨b,h⟩:=TF h;cases b with
  |true =>
   have h:=h.1 rfl;split at h
   .obtain⟨v,U',_,_,h⟩:=h;exact Xp h
   .split at h
    .obtain⟨p,_,h⟩:=TF h;exact Xp h
    .obtain⟨p,h⟩:=TF h;exact Xp h
  |false =>
   have h:=h.2 rfl;split at h
   .exact Xp h.2
   .exact Xp h
theorem H0 {C:Cx}{s:St}{st:List (Nat×SV)}{ow:List (Nat×Src×OB)}{Q:Prop}:∀ (ls:List (List DOper)),Q1r C ls s st ow Q->(∀ l∈ls,Jw C.nx l s 1 0 [] [] λs'=>MI s.env.length s' st ow)/\Q
 |[],h=>⟨λl hl=>(by cases hl),h⟩
 |l::ls,h=>by obtain⟨h1,h2⟩:=h;obtain⟨h3,h4⟩:=H0 ls h2;simp_all
theorem Ke {B0 F0 D0:Heap}{s:St}{env:Env}{U:Heap}{n:Nat}(hR:GRel P B0 F0 D0 s env U) {st:List (Nat×SV)}{ow:List (Nat×Src×OB)}(h:MI n s st ow):GRel P B0 F0 D0 (QH n st ow) env U:=by
 unfold MI at h;cases hb:Nat.beq s.env.length n with
 |false=>rw[hb] at h;exact h.elim
 |true =>
  rw[hb] at h;have hl:env.length=n:=by rw[<-zP hb];obtain⟨_,_,_,_,_,hG⟩:=hR;exact hG.env.length.symm
  rw[<-hl];exact YU hR h
theorem Xz {C:Cx}(aw:COk P C) {B0 F0 D0:Heap}:∀ (aT:List DSeg) {s:St}{env:Env}{U:Heap},GRel P B0 F0 D0 s env U->∀ {K:St->Prop},Tq C aT s K->∀ {R:Env->Heap->Prop},(∀ s' ae U',K s'->GRel P B0 F0 D0 s' ae U'->R ae U')->VS (Q5 P) aT env U R
 |[],s,env,U,hR,K,h,R,hK=>hK s env U h hR
 |.one o::r,s,env,U,hR,K,h,R,hK=>by refine VC aw [o] hR (K:=λs'=>Tq C r s' K) h λs' ae U' h1 h2=>?_;exact Xz aw r h2 h1 hK
 |.alts [l]::r,s,env,U,hR,K,h,R,hK=>by
  simp only[Tq] at h;cases hd:Q0h l with
  |false =>
   rw[hd] at h;simp only[zT] at h;cases hk:l.all (λo=>o.kind==o.op.kind) with
   |false=>rw[hk] at h;exact h.elim
   |true =>rw[hk] at h;simp only[zh] at h;intro ops ho;obtain rfl:=zK.1 ho;obtain⟨B,F,pl,tb,hB,hG⟩:=hR;have one:∀ (j:Nat) (Z:Heap),([U]:List Heap)[j]?=some Z->Z=U:=(by grind);exact Qn aw ops (by simp_all) hB hG (hl:=1) (chg:=0) (A:=[]) (Rd:=[]) ⟨rfl,λj Z _ ht=>one j Z ht,(λc hc=>absurd hc (by simp)),(by grind)⟩ (pend:=[]) (pd:=[]) (λc hc=>absurd hc (by simp)) (λj Z ht _=>by rw[one j Z ht];exact hG.leB) (Nat.zero_le _) (Nat.succ_pos _) h λs' ae U' h1 h2=>⟨ae,U',.refl _ _ _,Xz aw r h2 h1 hK⟩
  |true =>rw[hd] at h;refine FI (l:=l) hd ?_;exact VC aw _ hR h λs' ae U' h1 h2=>Xz aw r h2 h1 hK
 |.alts []::r,s,env,U,hR,K,h,R,hK=>h.elim
 |.alts (l::l2::ls)::r,s,env,U,hR,K,h,R,hK=>by
  simp only[Tq] at h;cases hk:(l::l2::ls).all (λl=>l.all λo=>o.kind==o.op.kind) with
  |false=>rw[hk] at h;exact h.elim
  |true =>
   rw[hk] at h;simp only[zh] at h;obtain⟨B,F,pl,tb,hB,hG⟩:=hR;have one:∀ (j:Nat) (Z:Heap),([U]:List Heap)[j]?=some Z->Z=U:=(by grind);have run:∀ l'∈l::l2::ls,∀ {K':St->Prop},Jw C.nx l' s 1 0 [] [] K'->∀ {R':Env->Heap->Prop},(∀ s' ae U',K' s'->GRel P B0 F0 D0 s' ae U'->R' ae U')->ZC (Q5 P) l' env [U] U [] R':=λl' bF K' h' R' qJ =>
    Qk aw.nx rfl l' (by grind) hB hG (hl:=1) (chg:=0) (A:=[]) (Rd:=[]) ⟨rfl,λj Z _ ht=>one j Z ht,(λc hc=>absurd hc (by simp)),(by grind)⟩ (pend:=[]) (pd:=[]) (λc hc=>absurd hc (by simp)) (λj Z ht _=>by rw[one j Z ht];exact hG.leB) (Nat.zero_le _) (Nat.succ_pos _) h' qJ
   obtain⟨s0,h0,h1⟩:=Xp (run l zl h (R':=λ_ _=>∃ s0:St,_) λs' _ _ h' _=>⟨s',h'⟩);obtain⟨h2,h3⟩:=H0 _ h1;intro ops ho;rcases zD.1 ho with rfl|dC
   .refine Xo ?_;exact run ops ho h λs' ae U' h' qN=>⟨ae,U',.refl _ _ _,by
     obtain⟨k1,k2⟩:=h';exact Xz aw r (Ke qN k1) (H0 _ k2).2 hK⟩
   .refine Xo ?_;exact run ops ho (h2 ops dC) λs' ae U' h' qN=>⟨ae,U',.refl _ _ _,Xz aw r (Ke qN h') h3 hK⟩
theorem DD:∀ (l:List Nat) (vs:List SV),(Q1x l vs).map (·.1)=l
 |[],_=>rfl
 |j::js,[]=>by simp[Q1x,DD js []]
 |j::js,v::vs=>by simp[Q1x,DD js vs]
theorem VA {B:Heap}{pl:Nat->Value}{tb:Nat->Option Bool}:∀ {ps:List Nat}{xs:List SV}{us:List Value}{e:List SV}{env:Env},SRs P B pl tb xs us->SRs P B pl tb e env->SRs P B pl tb (NX e ps xs) (Dt env ps us)
 |[],xs,us,e,env,_,h=>by simpa [NX,Dt] using h
 |p::ps,[],us,e,env,hx,h=>by simp only[SRs] at hx;subst hx;simpa [NX,Dt] using h
 |p::ps,x::xs,us,e,env,hx,h=>by simp only[SRs] at hx;obtain⟨u,lG,rfl,h1,h2⟩:=hx;simp only[NX,Dt];exact VA h2 (h.set p h1)
def Q6l (F0:Heap):Option Nat->Prop
 |none=>True
 |some i=>∃ env r st pend,F0.get i=some (.obj (.lp env r st pend) true)
theorem Gam.dropLp {B F:Heap}{pl:Nat->Value}{tb:Nat->Option Bool}{s:St}{env:Env}{U:Heap}(hG:Gam P B F pl tb s env U) {o:Nat}{l:List SV}{q:LpD}{u:LpS}(ho:Qa s.own o=.lpf l q u) (hl:u.live=true) :
  Gam P B F pl tb ⟨l,oset s.own o .dead,s.nx⟩ q.vals (U.kill q.i)/\U.get q.i=some (.obj (.lp q.vals q.r u.st u.pend) true):=by
 have ah:=hG.obj o;rw[ho] at ah;obtain⟨h1,h2,h3⟩:=ah;have jL:(Qa s.own o).live=true:=by rw[ho];exact hl
 have mM:Oid (pl o) q.i:=by rw[h1];rfl
 have hF:=hG.fresh o q.i jL mM;have lv:∀ d,(Qa (oset s.own o .dead) d).live=true->d≠o/\(Qa s.own d).live=true:=λd h=>by
  rw[Qc] at h;by_cases e:d=o
  .rw[z6 e] at h;cases h
  .rw[z7 e] at h;exact⟨e,h⟩
 refine⟨⟨hG.bf,⟨hG.le.1,λj b hb=>?_⟩,h2,λd=>?_,λd i hd hi=>hG.fresh d i (lv d hd).2 hi,λd d' i e h h'=>hG.sep d d' i e (lv d h).2 (lv d' h').2,hG.free⟩,h3 hl⟩
 .have e:j≠q.i:=by rintro rfl;rw[hF] at hb;cases hb
  rw[Heap.q0c _ e];exact hG.le.2 _ _ hb
 .rw[Qc];by_cases e:d=o
  .rw[z6 e];trivial
  .rw[z7 e];refine (hG.obj d).mono (.refl _) (λ_ _ h=>h) λhd i hi=>?_;have:i≠q.i:=by rintro rfl;exact hG.sep d o q.i e hd jL hi mM
   exact Heap.q0c _ this
theorem Fq (s:St) (o:Nat) (b:OB) (j:Nat):Qa (s.make o b).own j=if j=o then b else (Qa s.own j).kill o:=by
 simp only[St.make,Qc];by_cases h:j=o
 .subst h;simp
 .simp only[h,if_false,St.kill,Xy]
theorem Gam.enterLp {B F:Heap}{pl:Nat->Value}{tb:Nat->Option Bool}{s:St}{env:Env}{U:Heap}(hG:Gam P B F pl tb s env U) {o aH:Nat}{l:List SV}{q:LpD}(ho:Qa s.own o=.lpf l q .rdy) (aK:o≠aH)
  {args:List SV}{us:List Value}(av:SRs P B pl tb args us) (ps:List Nat) :
  Gam P B (F.ins U q.i hG.le.1) (QR pl aH poison) tb ⟨NX (SVs.kill aH l) ps (SVs.kill aH args),oset (Lj aH env s).own o (.lpf (SVs.kill aH l) q .busy),s.nx⟩ (Dt q.vals ps us) U:=by
 have q3:Gam P B F (QR pl aH poison) tb (Lj aH env s) env U:=by refine hG.make aH _ poison hG.le (λ_ _ _ _ _=>rfl) ?_ (λi hl _=>by cases hl);exact SRs.upd (.refl _) (λ_ _ h=>h) (λj hj=>by simp[QR,hj]) _ _ hG.env
 have ah:=hG.obj o;rw[ho] at ah;obtain⟨h1,h2,h3⟩:=ah;have jL:(Qa s.own o).live=true:=by rw[ho];rfl
 have qO:QR pl aH poison o=.pointer (some ⟨q.i,0,none⟩):=by simp[QR,aK,h1]
 have uC:Qa (Lj aH env s).own o=.lpf (SVs.kill aH l) q .rdy:=by have:=Fq s aH (.stk (SVs.kill aH s.env) env) o;unfold Lj;rw[this,z7 aK,ho];rfl
 have oq:(Qa (Lj aH env s).own o).live=true:=by rw[uC];rfl
 have mM:Oid (QR pl aH poison o) q.i:=by rw[qO];rfl
 have hF:=q3.fresh o q.i oq mM;have b9:SRs P B (QR pl aH poison) tb (SVs.kill aH l) q.vals:=SRs.upd (.refl _) (λ_ _ h=>h) (λj hj=>by simp[QR,hj]) _ _ h2;have uD:SRs P B (QR pl aH poison) tb (SVs.kill aH args) us:=SRs.upd (.refl _) (λ_ _ h=>h) (λj hj=>by simp[QR,hj]) _ _ av;have lv:∀ d,(Qa (oset (Lj aH env s).own o (.lpf (SVs.kill aH l) q .busy)) d).live=true->d≠o/\(Qa (Lj aH env s).own d).live=true:=λd h=>by
  rw[Qc] at h;by_cases e:d=o
  .rw[z6 e] at h;cases h
  .rw[z7 e] at h;exact⟨e,h⟩
 refine⟨q3.bf.trans (hG.le.ins _),hG.le.q2d _,VA uD b9,λd=>?_,λd i hd hi=>?_,λd d' i e h h'=>q3.sep d d' i e (lv d h).2 (lv d' h').2,q3.free⟩
 .show OR P B _ tb U _ (Qa (oset _ o _) d);rw[Qc];by_cases e:d=o
  .subst e;rw[z6 rfl];exact⟨qO,b9,λh=>by cases h⟩
  .rw[z7 e];exact q3.obj d
 .obtain⟨e,sk⟩:=lv d hd;have:i≠q.i:=by rintro rfl;exact q3.sep d o q.i e sk oq hi mM
  rw[Heap.q1c _ _ _ this];exact q3.fresh d i sk hi
theorem Gam.leaveLp {B F:Heap}{pl:Nat->Value}{tb:Nat->Option Bool}{s:St}{env:Env}{U:Heap}(hG:Gam P B F pl tb s env U) {o aH:Nat}{l l2:List SV}{jA:List Value}{q:LpD}{b0:Blk}(hF:F.get q.i=some b0) (hB:B.get q.i=none)
  (h2:Qa s.own aH=.stk l2 jA) (ho:Qa s.own o=.lpf l q .busy) (u:LpS) :
  Gam P B (F.kill q.i) pl tb ⟨l2,oset (oset s.own aH .dead) o (.lpf l q u),s.nx⟩ jA (U.upd q.i (.obj (.lp q.vals q.r u.st u.pend) true)):=by
 have ah:=hG.obj o;rw[ho] at ah;obtain⟨k1,k2,_⟩:=ah;have hk:=hG.obj aH;rw[h2] at hk;have hi:q.i<U.n:=U.lt (hG.le.2 _ _ hF);have aK:∀ {d i},(Qa s.own d).live=true->Oid (pl d) i->i≠q.i:=λh1 h2 e=>by have:=hG.fresh _ _ h1 h2;subst e;rw[hF] at this;cases this
 have mM:∀ i,Oid (pl o) i->i=q.i:=λi h=>by rw[k1] at h;exact(osj h).symm
 have hg:∀ d,Qa (oset (oset s.own aH .dead) o (.lpf l q u)) d=if d=o then .lpf l q u else if d=aH then .dead else Qa s.own d:=λd=>by rw[Qc,Qc]
 have lv:∀ d,d≠o->(Qa (oset (oset s.own aH .dead) o (.lpf l q u)) d).live=true->(Qa s.own d).live=true:=λd e h=>by
  rw[hg,z7 e] at h;split at h
  .cases h
  .exact h
 refine⟨⟨hG.bf.1,λj b hb=>?_⟩,⟨hG.le.1,λj b hb=>?_⟩,hk,λd=>?_,λd i hd bS=>?_,λd d' i e h h' h1 ij=>?_,hG.free⟩
 .have e:j≠q.i:=by rintro rfl;rw[hB] at hb;cases hb
  rw[Heap.q0c _ e];exact hG.bf.2 _ _ hb
 .by_cases e:j=q.i
  .grind [Heap.q0i]
  .rw[Heap.q0c _ e] at hb;rw[Heap.q0b _ _ e];exact hG.le.2 _ _ hb
 .show OR P B pl tb _ _ (Qa (oset _ o _) d);rw[hg];by_cases e:d=o
  .subst e;rw[z6 rfl];exact⟨k1,k2,λ_=>Heap.q0d _ _ hi⟩
  .rw[z7 e];split
   .trivial
   .exact(hG.obj d).mono (.refl _) (λ_ _ h=>h) (by grind [Heap.q0b])
 .by_cases e:d=o
  .grind [Heap.q0i]
  .rw[Heap.q0c _ (aK (lv d e hd) bS)];exact hG.fresh d i (lv d e hd) bS
 .by_cases e1:d=o
  .grind
  .by_cases e2:d'=o
   .grind
   .exact hG.sep d d' i e (lv d e1 h) (lv d' e2 h') h1 ij
theorem Nb {C:Cx}(aw:COk P C) {L:List (Nat×LoopAnn)}(vc:VCode):∀ {B0 F0 D0:Heap}(n:Nat) (K:Exit->St->Prop) (s:St) (env:Env) (U:Heap) (ro:Option Nat) (Q:Exit->Env->Heap->Prop),Q6l F0 ro->GRel P B0 F0 D0 s env U->gwp C L vc n K s->(∀ e s' ae U',K e s'->GRel P B0 F0 D0 s' ae U'->Q e ae U')->vwp (Q5 P) vc ro Q env U:=by
 induction vc with
 |skip=>intro B0 F0 D0 n K s env U ro Q bW hR h hK;exact hK _ _ _ _ h hR
 |region ops=>intro B0 F0 D0 n K s env U ro Q bW hR h hK;exact VC aw ops hR h (by grind)
 |regionD aT=>intro B0 F0 D0 n K s env U ro Q bW hR h hK;exact Xz aw aT hR h (by grind)
 |rangeF g ps a b fH fj =>
  intro B0 F0 D0 n K s env U ro Q bW hR h hK;simp only[gwp] at h;split at h
  .rename_i f first dx hg
   split at h
   .
    rename_i x hx;obtain⟨B,F,pl,tb,hB,hG⟩:=hR;have gL:=hG.evs (Gds.nil (tb:=tb)) g;rw[hg] at gL;simp only[SR] at gL;obtain⟨x',y',bu,l_,ot⟩:=gL;obtain⟨iJ,gy⟩:=aw.iy f x hx;show vwp (Q5 P) (.rangeF g ps a b) ro Q env U;simp only[vwp,L5,bu];have ma:(Q5 P).it f=some λi Y args U K=>Yr P i Y->VCallsTo P f args U K:=by simp only[Q5];rw[z6 iJ]
    rw[ma];refine⟨?_,λr hY=>?_⟩
    .cases ro with
     |none=>trivial
     |some i =>obtain⟨e1,r1,st1,qP,hi⟩:=bW;exact⟨e1,r1,st1,qP,hG.le.2 _ _ (hB.f.2 _ _ hi)⟩
    generalize jZ:C.off+2000000+n=o at h;generalize fQ:100000*(o+1)-1=aH at h;have al:o≠aH:=by omega
    let q:LpD:=⟨U.n,env,r⟩;let rdy:Blk:=.obj (.lp env r .ready none) true;let fl:Blk:=.obj (.lp env r .busy none) true;let p0:Value:=.pointer (some ⟨U.n,0,none⟩);have fB:Gam P B F (QR pl o p0) tb (Q7q o q s) env (U.push rdy):=by refine hG.push o (.lpf (SVs.kill o s.env) q .rdy) p0 rdy rfl ⟨rfl,SRs.upd (.refl _) (λ_ _ h=>h) (λj hj=>by simp[QR,hj]) _ _ hG.env,λ_=>Heap.q0a _ _⟩
    have kl:∀ {xs us},SRs P B pl tb xs us->SRs P B (QR pl o p0) tb (SVs.kill o xs) us:=λh=>SRs.upd (.refl _) (λ_ _ h=>h) (λj hj=>by simp[QR,hj]) _ _ h;have av:SRs P B (QR pl o p0) tb (SVs.kill o first++(.dd o .yv::SVs.kill o dx)) (x'++(.func (.yield U.n) #[] #[]::y')):=by refine (kl l_).append ?_;simp only[SRs,SR,DR];exact⟨_,_,rfl,⟨U.n,by simp[QR,p0],rfl⟩,kl ot⟩
    have uE:Oi P o (FL o aH ps.length q (λK' s'=>gwp C L a n (OG (λs3=>gwp C L b n K' s3) λ_ _=>False) s') ps):=by
     intro B F pl tb s ae U args us K R i hG ha hy qO hK;unfold FL at hy;split at hy
     .rename_i l q' u ho;split at hy
      .cases hlen:Nat.beq args.length ps.length with
       |false=>rw[hlen] at hy;exact hy.elim
       |true =>
       rw[hlen] at hy;simp only[zh] at hy;obtain⟨rfl,hy⟩:=hy;have ah:=hG.obj o;rw[ho] at ah;have hi:i=q.i:=by have h1:=ah.1;simp_all
       subst hi;have mN:U.get q.i=some rdy:=ah.2.2 rfl;have jL:(Qa s.own o).live=true:=by rw[ho];rfl
       have n_:F.get q.i=none:=hG.fresh o q.i jL (by rw[ah.1];rfl);have so:B.get q.i=none:=by
        cases hb:B.get q.i with
        |none=>rfl
        |some b=>rw[hG.bf.2 _ _ hb] at n_;cases n_
       have kL:=hG.enterLp ho al ha ps;have jV:(F.ins U q.i hG.le.1).get q.i=some rdy:=by rw[Heap.q0o];exact mN
       have gW:(F.ins U q.i hG.le.1).n=U.n:=rfl;have aQ:q.i<U.n:=U.lt mN;refine hY us U R ⟨mN,by rw[<-ha.length];exact(zP hlen),?_⟩;refine fH (B0:=B) (F0:=F.ins U q.i hG.le.1) (D0:=U) n _ _ _ U (some q.i) _ ⟨env,r,_,_,jV⟩ ⟨B,_,_,tb,.of kL.bf (Dead.refl _),kL⟩ (hy ae) λe s3 qQ σ3 h7 h8=>?_;cases e with
       |normal =>
        have lq:σ3.get q.i=some rdy:=by obtain⟨B',F',pl',tb',q1,q2⟩:=h8;exact q2.le.2 _ _ (q1.f.2 _ _ jV)
        refine⟨lq,?_⟩;have h9:=h8.lpUpd (b:=fl) jV so;have mO:((F.ins U q.i hG.le.1).upd q.i fl).get q.i=some fl:=(by grind [Heap.q0d]);refine fj (B0:=B) (F0:=(F.ins U q.i hG.le.1).upd q.i fl) (D0:=U) n _ _ _ _ (some q.i) _ ⟨env,r,_,_,mO⟩ h9 h7 λe s4 qR σ4 cf ga=>?_;obtain⟨B',F',pl',tb',q1,q2⟩:=ga;have pn:=q1.f.2 _ _ mO;have qS:=q1.x _ _ mO so;have ou:σ4.get q.i=some fl:=q2.le.2 _ _ pn;unfold gyK at cf;split at cf
        .rename_i l2 jA l3 q3 u3 aA qT;split at cf
         .obtain⟨rfl,rfl,cf⟩:=cf;have base:∀ b,GBase B F U B' (F'.kill q.i) (σ4.upd q.i b):=λb=>by
           refine⟨q1.b,⟨?_,λj c hc=>?_⟩,λj c h1 h2=>?_,q1.d.trans (Dead.upd _ _ _ (by rw[ou];rfl))⟩
           .have h1:=q1.f.1;have h2:=hG.le.1;show F.n<=F'.n;have h3:((F.ins U q.i hG.le.1).upd q.i fl).n=U.n:=rfl;omega
           .have e:j≠q.i:=by rintro rfl;rw[n_] at hc;cases hc
            rw[Heap.q0c _ e];refine q1.f.2 _ _ ?_
            grind [Heap.q0b,Heap.q1c]
           .have e:j≠q.i:=by rintro rfl;rw[n_] at h1;cases h1
            refine q1.x j c ?_ h2
            grind [Heap.q0b,Heap.q1c]
          refine⟨ou,?_⟩;cases e with
          |normal=>exact hK _ _ B' _ pl' tb' _ _ cf (base _) (q2.leaveLp pn qS aA qT .rdy) (by simp[SR,KC])
          |ret=>exact hK _ _ B' _ pl' tb' _ _ cf (base _) (q2.leaveLp pn qS aA qT .ret) (by simp[SR,KC])
          |exit id=>exact hK _ _ B' _ pl' tb' _ _ cf (base _) (q2.leaveLp pn qS aA qT (.exit id)) (by simp[SR,KC])
          |_=>exact cf.elim
         .exact cf.elim
        .exact cf.elim
       |_=>exact h7.elim
      .exact hy.elim
     .exact hy.elim
    have aO:=gy B F _ tb _ env (U.push rdy) o _ _ _ (Q1e o q K) (λZ=>Oy Q env U.n poison Z) fB av uE (h q) λs' B' F' pl' tb' ae U' hk hb dq=>by
     unfold Q1e at hk;split at hk
     .rename_i l q' u ho;have fin:∀ {e:Exit},u.live=true->q'=q->K e ⟨l,oset s'.own o .dead,s'.nx⟩->Q e env (U'.kill U.n)/\U'.get U.n=some (.obj (.lp env r u.st u.pend) true):=λ{e} hu hq uF=>by
       subst hq;obtain⟨g1,g2⟩:=dq.dropLp ho hu;refine⟨hK _ _ _ _ uF ⟨B',F',pl',tb',⟨hB.b.trans hb.b,hB.f.trans hb.f,λj c h1 h2=>hb.x j c (hB.f.2 _ _ h1) (hB.x j c h1 h2),hB.d.trans ((Dead.push _ _).trans (hb.d.trans (Dead.kill _ _)))⟩,g1⟩,g2⟩
      cases u with
      |busy=>exact hk.elim
      |rdy =>obtain⟨hq,hk⟩:=hk;obtain⟨k1,k2⟩:=fin rfl hq hk;unfold Oy;rw[k2];exact⟨(by intro h;cases h),k1⟩
      |ret =>obtain⟨hq,hk⟩:=hk;obtain⟨k1,k2⟩:=fin rfl hq hk;unfold Oy;rw[k2];exact⟨(by intro h;cases h),k1⟩
      |exit id =>obtain⟨hq,hk⟩:=hk;obtain⟨k1,k2⟩:=fin rfl hq hk;unfold Oy;rw[k2];exact⟨(by intro h;cases h),k1⟩
     .exact hk.elim
    refine VCallsTo.mono (R:=λ_ Z=>Oy Q env U.n poison Z) (by simpa using aO) λv Z h=>h
   split at h
   rotate_left
   .exact h.elim
   split at h
   .rename_i it s1 cz A hit qU hA;split at h
    .rename_i c m ar xs hc;cases eC:Nat.beq ps.length ar with
     |false=>rw[eC] at h;exact h.elim
     |true =>
     rw[eC] at h;simp only[zh] at h;obtain⟨dT,p,d0,dj,I,uG,sq,uH⟩:=h;have eC:=zP eC;have hlen:s.env.length=env.length:=by obtain⟨B,F,pl,tb,_,hG⟩:=hR;exact hG.env.length
     rw[hlen] at sq uH;have qI:=hR;obtain⟨B,F,pl,tb,hB,hG⟩:=hR;have gL:=hG.evs Gds.nil g;rw[hg] at gL;simp only[SR] at gL;obtain⟨x,y,bu,hx,hy⟩:=gL;simp only[SRs] at hx;subst hx;obtain⟨B1,F1,mb,dP,uI,ic⟩:=My hG hy qU;obtain⟨iJ,qV⟩:=aw.it f it hit;obtain⟨ov,qW⟩:=qV B1 cz y c m ar xs uI hc dT;have uJ:GRel P B1 F1 D0 (QH (List.length env) (A.st p d0) (A.own p d0)) env U:=YU ⟨B1,F1,pl,tb,⟨.refl _,.refl _,λ_ _ _ h=>h,(hB.trans mb).d⟩,dP⟩ dj;have kM:B1.get U.n=none:=B1.wf _ dP.leB.1;have qX:F1.get U.n=none:=F1.wf _ dP.le.1;show vwp (Q5 P) (.rangeF g ps a b) ro Q env U;simp only[vwp,L5,bu];have ma:(Q5 P).it f=some λi Y args U K=>Yr P i Y->VCallsTo P f args U K:=by simp only[Q5];rw[z6 iJ]
     rw[ma];refine⟨?_,λr hY=>?_⟩
     .cases ro with
      |none=>trivial
      |some i =>obtain⟨e1,r1,st1,qP,hi⟩:=bW;exact⟨e1,r1,st1,qP,hG.le.2 _ _ (hB.f.2 _ _ hi)⟩
     .let rdy:Blk:=.obj (.lp env r .ready none) true;let fl:Blk:=.obj (.lp env r .busy none) true;have kN:F1.Le (U.push rdy):=dP.le.push rdy;let Fr:=F1.ins (U.push rdy) U.n kN.1;have jV:Fr.get U.n=some rdy:=by
       grind [Heap.q0o,Heap.q0a]
      have gW:Fr.n=U.n+1:=rfl;have uK:F1.Le Fr:=kN.ins U.n;let J:Nat->Heap->Prop:=λk Z=>∃ d,I k d/\GRel P B1 Fr D0 (QH (List.length env) (A.st p d) (A.own p d)) env Z;let E:Heap->Prop:=λZ=>∃ cd e,Z.get U.n=some (.obj (.lp env r .done (some cd)) true)/\((cd=.ret/\e=Exit.ret)\/∃ id,cd=.exit id/\e=Exit.exit id)/\Q e env (Z.kill U.n);have back:∀ {s':St}{Z:Heap},GRel P B1 (Fr.upd U.n fl) D0 s' env Z->∀ b,GRel P B1 ((Fr.upd U.n fl).upd U.n b) D0 s' env (Z.upd U.n b):=λh b =>
       h.lpUpd (b0:=fl) (Heap.q0d _ _ (by rw[gW];omega)) kM
      have kO:∀ {Fx:Heap}{b0:Blk}{s':St}{Z:Heap},Fx.get U.n=some b0->(∀ i,i≠U.n->Fx.get i=F1.get i)->Fx.n=U.n+1->GRel P B1 Fx D0 s' env Z->GRel P B0 F0 D0 s' env (Z.kill U.n):=λ{Fx b0 s' Z} h1 h2 h3 h4=>by
       refine (h4.lpKill h1 kM).base (hB.b.trans mb.b) ⟨?_,λi b hb=>?_⟩ λi b k1 k2=>(hB.trans mb).x i b k1 k2
       .show F0.n<=Fx.n;rw[h3];have:=(hB.trans mb).f.1;have:=dP.le.1;omega
       .have bI:=(hB.trans mb).f.2 _ _ hb
        grind [Heap.q0c]
      have qY:∀ i,i≠U.n->Fr.get i=F1.get i:=λi e=>Heap.q1c _ _ _ e;have aO:=qW U.n _ J E (U.push rdy) hY (λk Z ⟨d,_,hd⟩=>?_) (λk us Z hk ⟨d,su,hd⟩ dF=>?_) ⟨d0,uG,?_⟩
      .refine VCallsTo.mono (R:=λ_ Z=>J m Z\/E Z) (by simpa using aO) λv Z rW=>?_;unfold Oy;rcases rW with⟨d,su,hd⟩|⟨cd,e,h1,h2,h3⟩
       .have mN:Z.get U.n=some rdy:=by
         obtain⟨B',F',pl',tb',q1,q2⟩:=hd;exact q2.le.2 _ _ (q1.f.2 _ _ jV)
        grind
       grind
      .obtain⟨B',F',pl',tb',q1,q2⟩:=hd;exact q1.b.trans q2.leB
      .
       have mN:Z.get U.n=some rdy:=by obtain⟨B',F',pl',tb',q1,q2⟩:=hd;exact q2.le.2 _ _ (q1.f.2 _ _ jV)
       refine⟨mN,by rw[eC,<-(ov k).1,dF.length],?_⟩;have hF:=sq k d hk su env;have bK:GRel P B1 Fr D0 ⟨NX (Lj (2000000+n) env (QH (List.length env) (A.st p d) (A.own p d))).env ps (xs k),(Lj (2000000+n) env (QH (List.length env) (A.st p d) (A.own p d))).own,0⟩ (Dt env ps us) Z:=by
        obtain⟨B',F',pl',tb',q1,q2⟩:=hd;have q3:Gam P B' F' (QR pl' (2000000+n) poison) tb' (Lj (2000000+n) env (QH (List.length env) (A.st p d) (A.own p d))) env Z:=by refine q2.make (2000000+n) _ poison q2.le (λ_ _ _ _ _=>rfl) ?_ (λi hl _=>by cases hl);exact SRs.upd (.refl _) (λ_ _ h=>h) (λj hj=>by simp[QR,hj]) _ _ q2.env
        refine⟨B',F',QR pl' (2000000+n) poison,tb',q1,⟨q3.bf,q3.le,VA ?_ q3.env,q3.obj,q3.fresh,q3.sep,?_⟩⟩
        .exact SRs.mono q1.b (λ_ _ h=>h) _ _ (Qx _ _ (ov k).2 dF)
        .exact q3.free
       refine fH (B0:=B1) (F0:=Fr) n _ _ _ Z (some U.n) _ ⟨env,r,_,_,jV⟩ bK hF λe s3 qQ σ3 h7 h8=>?_;cases e with
       |normal =>
        have lq:σ3.get U.n=some rdy:=by obtain⟨B',F',pl',tb',q1,q2⟩:=h8;exact q2.le.2 _ _ (q1.f.2 _ _ jV)
        refine⟨lq,?_⟩;have h9:=h8.lpUpd (b:=fl) jV kM;have mO:(Fr.upd U.n fl).get U.n=some fl:=Heap.q0d _ _ (by rw[gW];omega);refine fj (B0:=B1) (F0:=Fr.upd U.n fl) n _ _ _ _ (some U.n) _ ⟨env,r,_,_,mO⟩ h9 h7 λe s4 qR σ4 cf ga=>?_;have ou:σ4.get U.n=some fl:=by obtain⟨B',F',pl',tb',q1,q2⟩:=ga;exact q2.le.2 _ _ (q1.f.2 _ _ mO)
        have sv:U.n<σ4.n:=σ4.lt ou;unfold Im at cf;split at cf
        .rename_i l vs jd;obtain⟨rfl,cf⟩:=cf;have cE:GRel P B1 (Fr.upd U.n fl) D0 ⟨l,s4.own,s4.nx⟩ vs σ4:=by
          obtain⟨B',F',pl',tb',q1,q2⟩:=ga;have:=q2.obj (2000000+n);rw[jd] at this;exact⟨B',F',pl',tb',q1,q2.bf,q2.le,this,q2.obj,q2.fresh,q2.sep,q2.free⟩
         have ox:∀ b,((Fr.upd U.n fl).upd U.n b).get U.n=some b:=λb=>Heap.q0d _ _ (by show U.n<Fr.n;rw[gW];omega);have sw:∀ b i,i≠U.n->((Fr.upd U.n fl).upd U.n b).get i=F1.get i:=(by grind [Heap.q0b]);refine⟨ou,?_⟩;cases e with
         |normal =>
          obtain⟨d',qv,uL⟩:=cf;refine .inl ⟨rfl,d',uL,?_⟩;have:=(back (YU cE qv) rdy).base (B0:=B1) (F0:=Fr) (.refl _) ⟨zd _,λi b hb=>?_⟩ λi b k1 k2=>k2
          .exact this
          .grind
         |ret =>refine .inr ⟨rfl,_,_,Heap.q0d _ _ sv,.inl ⟨rfl,rfl⟩,hK _ _ _ _ cf (kO (ox _) (sw _) (by show Fr.n=_;exact gW) (back cE _))⟩
         |exit id =>refine .inr ⟨rfl,_,_,Heap.q0d _ _ sv,.inr ⟨id,rfl,rfl⟩,hK _ _ _ _ cf (kO (ox _) (sw _) (by show Fr.n=_;exact gW) (back cE _))⟩
         |_=>exact cf.elim
        .exact cf.elim
       |_=>exact h7.elim
      .
       obtain⟨B',F',pl',tb',q1,q2⟩:=uJ;have hle:F'.Le (U.push rdy):=q2.le.push rdy;have uM:F'.get U.n=none:=F'.wf _ q2.le.1;have ah:∀ d i,(Qa (QH (List.length env) (A.st p d0) (A.own p d0)).own d).live=true->Oid (pl' d) i->i<U.n:=λd i h1 h2=>(q2.obj d).q0s h1 h2;refine⟨B',F'.ins (U.push rdy) U.n hle.1,pl',tb',⟨q1.b,Heap.q2e q1.f _ _ _,λi b k1 k2=>?_,q1.d.trans (Dead.push _ _)⟩,⟨q2.bf.trans (hle.ins _),hle.q2d _,q2.env,λd=>(q2.obj d).mono (.refl _) (λ_ _ h=>h) (by grind [Heap.q0g]),λd i h1 h2=>?_,q2.sep,q2.free⟩⟩
       .by_cases e:i=U.n
        .subst e;exact B'.wf _ q2.leB.1
        .rw[qY i e] at k1;exact q1.x i b k1 k2
       .rw[Heap.q1c _ _ _ (Nat.ne_of_lt (ah d i h1 h2))];exact q2.fresh d i h1 h2
    .exact h.elim
   .exact h.elim
  .exact h.elim
 |bad=>intro B0 F0 D0 n K s env U ro Q bW hR h hK;exact h.elim
 |ret=>intro B0 F0 D0 n K s env U ro Q bW hR h hK;exact hK _ _ _ _ h hR
 |exit id=>intro B0 F0 D0 n K s env U ro Q bW hR h hK;exact hK _ _ _ _ h hR
 |seq a b fH fj =>
  intro B0 F0 D0 n K s env U ro Q bW hR h hK;refine fH n _ s env U ro _ bW hR h λe s' ae U' h1 h2=>?_;cases e with
  |normal=>exact fj n K s' ae U' ro Q bW h2 h1 hK
  |_=>exact hK _ _ _ _ h1 h2
 |cond c a b fH fj =>
  intro B0 F0 D0 n K s env U ro Q bW hR h hK;simp only[gwp] at h;split at h
  .rename_i t ht;have qI:=hR;obtain⟨B,F,pl,tb,hB,hG⟩:=hR;have:=KF hG ht;simp only[vwp,this,Fu];cases t with
   |true=>exact⟨(by grind),λe=>by cases e⟩
   |false=>exact⟨(λe=>by cases e),(by grind)⟩
  split at h
  .rename_i t ht;obtain⟨B,F,pl,tb,hB,hG⟩:=hR;have:=JK ht (hG.evs Gds.nil c);simp only[vwp,this,Fu];split at h
   .rename_i A hA;obtain⟨p,I,hF,hI⟩:=h;have fin:∀ e s' ae U',Q0p s.env.length A p I K e s'->GRel P B0 F0 D0 s' ae U'->Q e ae U':=λe s' ae U' h1 h2=>by
     cases e with
     |normal =>obtain⟨d,h3,h4⟩:=h1;exact hK _ _ _ _ (hI d h4) (Ke h2 h3)
     |_=>exact hK _ _ _ _ h1 h2
    exact⟨λe=>fH n _ s env U ro Q bW ⟨B,F,pl,tb,hB,hG⟩ (hF.1 e) fin,λe=>fj n _ s env U ro Q bW ⟨B,F,pl,tb,hB,hG⟩ (hF.2 e) fin⟩
   exact⟨λe=>fH n K s env U ro Q bW ⟨B,F,pl,tb,hB,hG⟩ (h.1 e) hK,λe=>fj n K s env U ro Q bW ⟨B,F,pl,tb,hB,hG⟩ (h.2 e) hK⟩
  .exact h.elim
 |block id b ih =>
  intro B0 F0 D0 n K s env U ro Q bW hR h hK;refine ih id _ s env U ro _ bW hR h λe s' ae U' h1 h2=>?_;cases e with
  |exit iz =>
   simp only[Fp] at h1;simp only[CL];split
   .grind
   .grind
  |_=>exact hK _ _ _ _ h1 h2
 |loop b ih =>
  intro B0 F0 D0 n K s env U ro Q bW hR h hK;simp only[gwp] at h;split at h
  .rename_i A hA;obtain⟨p,d0,h1,I,μ,h2,h3⟩:=h;have hlen:s.env.length=env.length:=by obtain⟨B,F,pl,tb,_,hG⟩:=hR;exact hG.env.length
   have hk:∀ d,(A.st p d).map (·.1)=A.sl:=λd=>DD _ _;refine⟨A.sl,λm vs U'=>∃ d,I d/\μ d=m/\GRel P B0 F0 D0 (QH s.env.length (A.st p d) (A.own p d)) (JM A.sl vs (List.replicate env.length poison)) U',μ d0,⟨d0,h2,rfl,?_⟩,λm vs U' ⟨d,h4,h5,h6⟩=>?_⟩
   .grind [G9]
   .refine ih n _ _ _ U' ro _ bW h6 (h3 d h4) λe s' ae aI h7 h8=>?_;cases e with
    |normal =>
     simp only[Q0k] at h7;cases nP:Q51 s'.own with
     |false=>rw[nP] at h7;exact h7.elim
     |true =>
     rw[nP] at h7;obtain⟨d',h9,cf,ga⟩:=h7;refine⟨μ d',by omega,d',cf,rfl,?_⟩;have:=G9 h8 h9 s.env.length;rw[hk d',hlen] at this;rw[hlen];exact this
    |_=>exact hK _ _ _ _ h7 h8
  .exact h.elim
end
end Go.V
namespace Go.V
open Go
def RW (s:St):VResult->Option SV
 |.tmp t=>some (s.env.getD t .any)
 |.cell a agg size=>bif Nat.blt 0 size then IF s.own agg size (s.env.getD a .any) else none
def W_ (s:St) (rs:List VResult):Option SV :=
 match rs with
 |[r]=>RW s r
 |rs=>(rs.mapM (RW s)).map .tup
def OX (mp:List (Nat×Option Nat)) (j:Nat) (a:Option Nat):Option (List (Nat×Option Nat)) :=
 if (Qp mp j).isSome then none else match a with
 |some x=>if mp.any λp=>p.2==some x then none else some (mp++[(j,a)])
 |none=>some (mp++[(j,a)])
mutual
def rmap:SV->SV->List (Nat×Option Nat)->Option (List (Nat×Option Nat))
 |.lst j,v,mp=>match v with|.lst a=>OX mp j (some a)|.nilS=>OX mp j none|_=>none
 |.map j,v,mp=>match v with|.map a=>OX mp j (some a)|_=>none
 |.dd j w,v,mp=>match w with
  |.out=>(match v with
   |.dd a w'=>(match w' with|.out=>OX mp j (some a)|_=>none)
   |.nilS=>OX mp j none
   |_=>none)
  |_=>none
 |.box j _,v,mp=>match v with|.box a _=>OX mp j (some a)|_=>none
 |.agg l,v,mp=>match v with|.agg l'=>AK l l' mp|_=>none
 |.tup l,v,mp=>match v with|.tup l'=>AK l l' mp|_=>none
 |.any,_,mp=>some mp
 |.val _ _,_,mp=>some mp
 |.nilS,_,mp=>some mp
 |.nilP,_,mp=>some mp
 |.nilM,_,mp=>some mp
 |.nilF,_,mp=>some mp
 |.sub _ _ _ _,_,_|.elp _ _ _ _,_,_|.grd _ _,_,_|.cp _ _,_,_|.fn _ _ _,_,_|.rop _ _ _ _,_,_|.pf _ _ _ _,_,_|.bid _ _,_,_=>none
def AK:List SV->List SV->List (Nat×Option Nat)->Option (List (Nat×Option Nat))
 |[],_,mp=>some mp
 |s::ss,l,mp=>match l with
  |v::vs=>match rmap s v mp with|some mp=>AK ss vs mp|none=>none
  |[]=>none
end
def FJ (s:St) (mp:List (Nat×Option Nat)):Nat->List OB->Prop
 |_,[]=>True
 |j,b::r=>Ak s mp j b/\FJ s mp (j+1) r
def WC (rs:List VResult) (v:SV) (bs:List OB):Exit->St->Prop:=λe s =>
 let fin:=match W_ s rs with
  |some r=>(match rmap v r [] with
   |some mp=>D4 mp v r/\FJ s mp 0 bs
   |none=>False)
  |none=>False
 match e with
 |.normal=>fin
 |.ret=>fin
 |_=>False
section
variable {P:Program}{B F:Heap}{pl:Nat->Value}{tb:Nat->Option Bool}{s:St}{env:Env}{U:Heap}
theorem Du (hG:Gam P B F pl tb s env U) {r:VResult}{v:SV}(h:RW s r=some v):∃ u,ZO env U r=some u/\SR P B pl tb v u:=by
 cases r with
 |tmp t=>obtain rfl:=osj h;exact⟨_,rfl,hG.env.getD t undef⟩
 |cell a agg size =>
  simp only[RW] at h;cases hb:Nat.blt 0 size with
  |false=>rw[hb] at h;cases h
  |true =>rw[hb] at h;obtain⟨i,o,c,e,wr,t,u,h1,h2,h3,h4⟩:=Bw hG.leB hG.obj (by simpa [zG] using hb) h (hG.env.getD a undef);refine⟨u,?_,h4⟩;simp only[ZO,Q8,Q6,h1,h2,h3];rfl
theorem XD (hG:Gam P B F pl tb s env U) {rs:List VResult}{v:SV}(h:W_ s rs=some v):∃ u,J1 env U rs=some u/\SR P B pl tb v u:=by
 have all:∀ (rs:List VResult) (l:List SV),rs.mapM (RW s)=some l->∃ us,rs.mapM (ZO env U)=some us/\SRs P B pl tb l us:=by
  intro rs;induction rs with
  |nil=>intro l h;simp at h;subst h;exact⟨[],rfl,rfl⟩
  |cons r rs ih =>
   intro l h;rw[xd] at h;cases h1:RW s r with
   |none=>simp[h1] at h
   |some a =>
    cases h2:rs.mapM (RW s) with
    |none=>simp[h1,h2] at h
    |some l' =>simp[h1,h2] at h;subst h;obtain⟨u,h3,h4⟩:=Du hG h1;obtain⟨us,h5,h6⟩:=ih l' h2;exact⟨u::us,by rw[xd];simp[h3,h5],by simp only[SRs];exact⟨u,us,rfl,h4,h6⟩⟩
 have tup:(rs.mapM (RW s)).map SV.tup=some v->∃ u,(rs.mapM (ZO env U)).map (λvs=>Value.tuple vs.toArray)=some u/\SR P B pl tb v u:=λh=>by simp only[zk] at h;obtain⟨l,h1,rfl⟩:=h;obtain⟨us,h2,h3⟩:=all rs l h1;exact⟨.tuple us.toArray,by rw[h2];rfl,by simp only[SR];exact⟨us,rfl,h3⟩⟩
 match rs,h,tup with
 |[r],h,_=>exact Du hG h
 |[],h,tup=>exact tup h
 |_::_::_,h,tup=>exact tup h
theorem Dc {mp bY:List (Nat×Option Nat)}{j:Nat}{a:Option Nat}(h:OX mp j a=some bY) (hi:Inj mp):Inj bY:=by
 unfold OX at h;split at h
 .cases h
 .split at h
  .rename_i x;split at h
   .cases h
   .rename_i hc;obtain rfl:=osj h;have cE:∀ d,Qp mp d≠some (some x):=(by grind [S_,List.any_eq_true]);intro t1 t2 a' h1 h2;rw[Y9] at h1 h2;split at h1
    .rename_i y1 e1;split at h2
     .rename_i y2 e2;obtain rfl:=osj h1;obtain rfl:=osj h2;exact hi t1 t2 a' e1 e2
     simp_all
    grind
  .obtain rfl:=osj h;intro t1 t2 a' h1 h2;rw[Y9] at h1 h2;split at h1
   .rename_i y1 e1;split at h2
    .rename_i y2 e2;obtain rfl:=osj h1;obtain rfl:=osj h2;exact hi t1 t2 a' e1 e2
    .split at h2<;>cases h2
   .split at h1<;>cases h1
mutual
theorem Ty:∀ (v r:SV) (mp bY:List (Nat×Option Nat)),rmap v r mp=some bY->Inj mp->Inj bY
 |.lst j,r,mp,bY,h,hi=>by
  simp only[rmap] at h
  grind [Dc]
 |.map j,r,mp,bY,h,hi=>by
  simp only[rmap] at h
  grind [Dc]
 |.dd j w,r,mp,bY,h,hi=>by
  simp only[rmap] at h
  grind [Dc]
 |.box j _,r,mp,bY,h,hi=>by
  simp only[rmap] at h
  grind [Dc]
 |.agg l,r,mp,bY,h,hi=>by
  simp only[rmap] at h;split at h
  .exact Bc l _ mp bY h hi
  .cases h
 |.tup l,r,mp,bY,h,hi=>by
  simp only[rmap] at h;split at h
  .exact Bc l _ mp bY h hi
  .cases h
 |.any,r,mp,bY,h,hi|.val _ _,r,mp,bY,h,hi|.nilS,r,mp,bY,h,hi|.nilP,r,mp,bY,h,hi|.nilM,r,mp,bY,h,hi|.nilF,r,mp,bY,h,hi=>by simp only[rmap] at h;simp_all
 |.sub _ _ _ _,r,mp,bY,h,hi|.elp _ _ _ _,r,mp,bY,h,hi|.grd _ _,r,mp,bY,h,hi|.cp _ _,r,mp,bY,h,hi|.fn _ _ _,r,mp,bY,h,hi|.rop _ _ _ _,r,mp,bY,h,hi|.pf _ _ _ _,r,mp,bY,h,hi|.bid _ _,r,mp,bY,h,hi=>by cases h
theorem Bc:∀ (v r:List SV) (mp bY:List (Nat×Option Nat)),AK v r mp=some bY->Inj mp->Inj bY
 |[],r,mp,bY,h,hi=>by simp only[AK] at h;simp_all
 |s::ss,[],mp,bY,h,hi=>by cases h
 |s::ss,r::rs,mp,bY,h,hi=>by
  simp only[AK] at h;split at h
  .rename_i sx h1;exact Bc ss rs sx bY h (Ty s r mp sx h1 hi)
  .cases h
end
theorem Dw {mp:List (Nat×Option Nat)}:∀ (bs:List OB) (n:Nat),FJ s mp n bs->∀ j b,bs[j]?=some b->Ak s mp (n+j) b
 |[],n,_,j,b,hj=>by simp at hj
 |b0::r,n,h,j,b,hj=>by
  obtain⟨h1,h2⟩:=h;cases j with
  |zero=>simp at hj;subst hj;exact h1
  |succ j =>
   have:=Dw r (n+1) h2 j b (by simpa using hj)
   rwa [zE,xR 1 j] at this
mutual
theorem CY {n:Nat}{π:Nat->Nat}:∀ (v:SV) (u:Value),v.ret 0=true->SR P B pl tb v u->Ren n π u u
 |.val k x,u,h,hs=>by
  simp only[SR] at hs;cases k with
  |i ik=>simp only[KC] at hs;obtain rfl:=(zM hs).1;exact .plain _ rfl
  |bo=>simp only[KC] at hs;obtain rfl:=(zM hs).1;exact .plain _ rfl
  |st=>simp only[KC] at hs;obtain rfl:=(zM hs).1;exact .plain _ rfl
  |list k=>cases h
  |pair a b =>have h1:=KC.length hs;have h2:=a.size_pos;have h3:=b.size_pos;simp only[Kind.size,zw] at h1;omega
 |.nilS,u,_,hs|.nilP,u,_,hs|.nilM,u,_,hs|.nilF,u,_,hs=>by simp only[SR] at hs;subst hs;exact .plain _ rfl
 |.lst j,u,h,_|.box j _,u,h,_|.map j,u,h,_=>by simp[SV.ret,zG] at h
 |.dd j w,u,h,_=>by cases w<;>simp[SV.ret,zG] at h
 |.agg l,u,h,hs=>by simp only[SR] at hs;obtain⟨cs,rfl,h2⟩:=hs;have:=DF (n:=n) (π:=π) l cs h h2;exact .agg _ _ rfl λi h3 _=>this _ (by simp)
 |.tup l,u,h,hs=>by simp only[SR] at hs;obtain⟨cs,rfl,h2⟩:=hs;have:=DF (n:=n) (π:=π) l cs h h2;exact .tuple _ _ rfl λi h3 _=>this _ (by simp)
 |.any,_,h,_|.bid _ _,_,h,_|.grd _ _,_,h,_|.sub _ _ _ _,_,h,_|.elp _ _ _ _,_,h,_|.rop _ _ _ _,_,h,_|.cp _ _,_,h,_|.fn _ _ _,_,h,_|.pf _ _ _ _,_,h,_=>by cases h
theorem DF {n:Nat}{π:Nat->Nat}:∀ (v:List SV) (u:List Value),SVs.ret 0 v=true->SRs P B pl tb v u->∀ x∈u,Ren n π x x
 |[],u,_,hs=>by simp only[SRs] at hs;subst hs;intro x hx;cases hx
 |s::ss,u,h,hs=>by
  simp only[SVs.ret,z1] at h;simp only[SRs] at hs;obtain⟨x,y,rfl,h1,h2⟩:=hs;intro z hz;rcases zD.1 hz with rfl|hz
  .exact CY s z h.1 h1
  .exact DF ss y h.2 h2 z hz
end
theorem E9 (exact:Bool) {σ0:Heap}{sf:St}{mc:Env}{σf:Heap}(hR:GRel P σ0 σ0 σ0 sf mc σf) {rs:List VResult}{v:SV}{bs:List OB}{e:Exit}(hv:v.ret bs.length=true) (hb:bs.all OB.ret=true) (h:WC rs v bs e sf) (hx:exact=true->bs.all OB.isL=true/\Yp v=true) :
  Q4l σ0 rs (λu U'=>if exact then u=Yl (Pp σ0 bs) v/\U'=DH σ0 bs else Ret P σ0 v bs u U') e mc σf:=by
 have main:(match W_ sf rs with
  |some r=>(match rmap v r [] with
   |some mp=>D4 mp v r/\FJ sf mp 0 bs
   |none=>False)
  |none=>False)->QM (J1 mc σf rs) λu=>∃ v' U',DropTo σ0 u σf v' U'/\(if exact then v'=Yl (Pp σ0 bs) v/\U'=DH σ0 bs else Ret P σ0 v bs v' U'):=λh=>by
  split at h
  .rename_i r hr;split at h
   .rename_i mp l9;obtain⟨h1,h2⟩:=h;obtain⟨B,F,pl,tb,⟨hB,hF,_,hd⟩,hG⟩:=hR;obtain⟨u,h3,h4⟩:=XD hG hr;have iu:=Wq v r u h1 h4;have dN:=Ty v r [] mp l9 (λt t' a h=>by cases h);have ah:∀ j b,bs[j]?=some b->Ak sf mp j b:=λj b hj=>by have:=Dw bs 0 h2 j b hj;rwa [zQ] at this
    rw[h3];have hle:σ0.Le σf:=hF.trans hG.le;have hA:Agree σ0 σf:=λi hi=>by
     cases hg:σ0.get i with
     |none=>exact hd.2 i hi hg
     |some b=>exact hle.2 i b hg
    have aU:∀ j b,bs[j]?=some b->OR P hNil (YS pl mp) Zn σf (YS pl mp j) b/\∀ i,Oid (YS pl mp j) i->σ0.get i=none/\σ0.n<=i:=λj b hj=>by
     obtain⟨k1,k2⟩:=Qs hG (ah j b hj);have dz:=zf.1 hb b (xc hj);have ak:b.live=true:=by cases b<;>first|rfl|cases dz
     refine⟨k1.retd dz λ_ _=>rfl,λi hi=>?_⟩;obtain⟨a,e1,e2,e3⟩:=k2 ak i hi;have kM:=hG.fresh a i e2 e3;have hn:σ0.get i=none:=by
      cases hg:σ0.get i with
      |none=>rfl
      |some b=>rw[hF.2 i b hg] at kM;cases kM
     refine⟨hn,Nat.le_of_not_lt λai=>?_⟩;have aS:=hd.2 i ai hn;have ah:=hG.obj a;cases ho:Qa sf.own a with
     |dead=>rw[ho] at e2;cases e2
     |lst ty k xs nl =>
      rw[ho] at ah;rcases ah with⟨_,_,h2⟩|⟨_,i',cap,c,t,h2,_,h3,_⟩
      .rw[h2] at e3;cases e3
      .rw[h2] at e3;obtain rfl:=osj e3;rw[h3] at aS;cases aS
     |cells l u=>rw[ho] at ah;obtain⟨i',c,e,t,h2,h3,_⟩:=ah;rw[h2] at e3;obtain rfl:=osj e3;rw[h3] at aS;cases aS
     |mapE kk vk m key n=>rw[ho] at ah;obtain⟨i',es,cl,r,e,h2,h3,_⟩:=ah;rw[h2] at e3;obtain rfl:=osj e3;rw[h3] at aS;cases aS
     |map kk vk m=>rw[ho] at ah;obtain⟨i',es,cl,h2,h3,_⟩:=ah;rw[h2] at e3;obtain rfl:=osj e3;rw[h3] at aS;cases aS
     |fm ik l=>rw[ho] at ah;obtain⟨i',es,cl,h2,h3,_⟩:=ah;rw[h2] at e3;obtain rfl:=osj e3;rw[h3] at aS;cases aS
     |stk l vals=>rw[ho] at e2;cases e2
     |lpf l q s=>rw[ho] at ah e2;obtain⟨h2,_,h3⟩:=ah;rw[h2] at e3;obtain rfl:=osj e3;have h3:=h3 e2;rw[aS] at h3;cases h3
     |iter kk vk m dn=>rw[ho] at ah;obtain⟨j',i',es,cl,wr,seen,h2,h3,_⟩:=ah;rw[h2] at e3;obtain rfl:=osj e3;rw[h3] at aS;cases aS
     |siter l pos=>rw[ho] at ah;obtain⟨j',s',h2,h3,_⟩:=ah;rw[h2] at e3;obtain rfl:=osj e3;rw[h3] at aS;cases aS
     |rmap kk vk m=>rw[ho] at e2;cases e2
     |deep ty q k xs nl hh =>rw[ho] at ah;obtain⟨is,_,d2,d3,_⟩:=DP.open ah;obtain⟨c,e,t,h⟩:=d2.cells i ((d3 i).1 e3);rw[h] at aS;cases aS
    have df:∀ j j' i,j<bs.length->j'<bs.length->j≠j'->Oid (YS pl mp j) i->Oid (YS pl mp j') i->False:=λj j' i hj bc aK hi bS=>by
     have bI:=z8 hj;have bP:=z8 bc;have r1:=zf.1 hb _ (zq hj);have r2:=zf.1 hb _ (zq bc);have l1:(bs[j]).live=true:=by cases ka:bs[j]<;>first|rfl|(rw[ka] at r1;cases r1)
     have l2:(bs[j']).live=true:=by cases ka:bs[j']<;>first|rfl|(rw[ka] at r2;cases r2)
     obtain⟨a,e1,e2,e3⟩:=(Qs hG (ah j _ bI)).2 l1 i hi;obtain⟨a',qZ,jz,q9⟩:=(Qs hG (ah j' _ bP)).2 l2 i bS;by_cases e:a=a'
     .subst e;exact aK (dN j j' a e1 qZ)
     .exact hG.sep a a' i e e2 jz e3 q9
    cases hex:exact with
    |true =>obtain⟨hl,cR⟩:=hx hex;have oy:=E5 (P:=P) hA hle.1 hv cR hb hl (pl:=YS pl mp) (u:=u) (λj b hj=>⟨(aU j b hj).1,λi hi=>((aU j b hj).2 i (UO hi)).2⟩) (λj j' i a b c d e=>df j j' i a b c (UO d) (UO e)) (iu.retd (λj hj=>rfl) _ _ hv);exact⟨_,_,oy,by simp⟩
    |false =>
     simp only[zz,if_false];by_cases b_:bs=[]
     .subst b_;refine⟨u,σ0,.rename (λi=>i) (zd _) (λi hi=>⟨rfl,(hA i hi).symm,.inl (hA i hi)⟩) (λi k1 k2=>by omega) (λ_ _ _ _ _ _ h=>h) (CY v u hv iu),?_⟩;exact⟨⟨Heap.Le.refl _,Dead.refl _⟩,λ_=>rfl,J3,(λj b hj=>by simp at hj),(λj j' i hj=>by simp at hj),iu.retd (λj hj=>by simp at hj) _ _ hv⟩
     .exact⟨u,σf,.refl _ _ _,⟨hle,hd⟩,λe=>absurd e b_,YS pl mp,aU,df,iu.retd (λj hj=>rfl) _ _ hv⟩
   .exact h.elim
  .exact h.elim
 cases e with
 |normal=>exact main h
 |ret=>exact main h
 |_=>exact h.elim
def Qr (nt:Nat) (args:List SV):St:=⟨args++List.replicate (nt-args.length) .any,[],0⟩
theorem AI {args:List SV}{vs:List Value}(h:SRs P U J3 Zn args vs) (nt:Nat):GRel P U U U (Qr nt args) (vs++List.replicate (nt-vs.length) undef) U:=by
 have uN:∀ n,SRs P U J3 Zn (List.replicate n .any) (List.replicate n undef):=by
  intro n;induction n with
  |zero=>simp[SRs]
  |succ n ih=>simp only[xx,SRs];exact⟨_,_,rfl,by simp[SR],ih⟩
 refine⟨U,U,J3,Zn,⟨Heap.Le.refl _,Heap.Le.refl _,(by simp_all),Dead.refl _⟩,Heap.Le.refl _,Heap.Le.refl _,?_,λd=>trivial,(λd i hl=>by cases hl),(λd d' i _ hl=>by cases hl),λ_ _=>rfl⟩;have:=h.length;simp only[Qr,this];exact h.append (uN _)
theorem Fun.okC {f:Nat}{vc:VCode}{rs:List VResult}{nt:Nat}(h:Fun P f vc rs nt) (hm:P.follows .mixedOrders=true) {sp:CSp}
  (hb:∀ ap,O4 P ap->∀ args c v bs,sp ap args=some (c,v,bs)->c->∃ (C:Cx) (L:List (Nat×LoopAnn)) (br:List SV),(∀ U vs,SRs P U J3 Zn args vs->SRs P U J3 Zn br vs)/\COk P C/\gwp C L vc 0 (WC rs v bs) (Qr nt br)):OkC P f sp:=by
 intro ap dW U args vs c v bs av eK hv b_ hc;obtain⟨C,L,br,h1,h2,h3⟩:=hb ap dW args c v bs eK hc;have main:∀ exact:Bool,(exact=true->bs.all OB.isL=true/\Yp v=true)->VCalled P f vs U λu U'=>if exact then u=Yl (Pp U bs) v/\U'=DH U bs else Ret P U v bs u U':=λexact hx=>by refine h.calls hm T_ ?_;exact Nb h2 vc 0 _ _ _ U none _ trivial (AI (h1 U vs av) nt) h3 λe s' ae U' k1 k2=>E9 exact k2 hv b_ k1 hx
 simp_all
theorem OkC.true {f:Nat}{sp:CSp}(h:OkC P f sp) (he:ZT P f) {U:Heap}{args:List SV}{vs:List Value}(ha:SRs P U J3 Zn args vs) {c:Prop}(hs:sp (λ_ _=>none) args=some (c,.val .bo true,[])) (hc:c) :
  VCallsTo P f vs U λv _=>v=.bool true:=by
 have:=(h (λ_ _=>none) (λ_ _ _ _ _ _ _ _ _ h=>by cases h) U args vs c _ [] ha hs rfl rfl hc).1;intro ρ w au hH hL;rcases this ρ w au hH hL with⟨_,h2⟩|⟨c',_,h2⟩
 .refine h2.mono λe w' ⟨c',h3,h4⟩=>⟨c',h3,h4.mono λu U' hr=>?_⟩;have:=(hr.flat rfl).2;simpa only [SR,KC,List.cons.injEq,and_true] using this
 .have:=h2 w (Like.refl ρ w)
  grind [Y0]
end
end Go.V