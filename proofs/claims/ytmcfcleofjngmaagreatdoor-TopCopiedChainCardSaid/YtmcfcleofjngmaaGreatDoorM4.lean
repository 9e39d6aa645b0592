
import Derived.Test.YtmcfcleofjngmaaGreatDoorM3
namespace Go.V
open Go
section
variable {P:Program}
theorem Q7t {tb:Nat->Option Bool}{v:SV}{o:Nat}(h:gtb tb v):gtb tb (v.stale o):=by
 cases v
 case bid n c=>exact h
 case dd o' w =>
  simp only[SV.stale];cases Nat.beq o' o with
  |false=>trivial
  |true=>cases w<;>trivial
 all_goals (simp only[SV.stale];first|trivial|(cases Nat.beq _ _<;>trivial))
mutual
theorem SR.stale {B:Heap}{pl pl':Nat->Value}{tb:Nat->Option Bool}{o:Nat}(hp:∀ d,d≠o->pl' d=pl d) (h1:phd (pl' o)=phd (pl o)) :
  ∀ (s:SV) (v:Value),SR P B pl tb s v->SR P B pl' tb (s.stale o) v
 |.any,_,_=>trivial
 |.val k x,v,h=>by simp only[SV.stale,SR] at h |-;exact h
 |.bid n c,v,h=>by simp only[SV.stale,SR] at h |-;exact h
 |.grd gs s,v,h=>by simp only[SV.stale,SR] at h |-;exact⟨⟨h.1.1,Q7t h.1.2⟩,λhg=>SR.stale hp h1 s v (h.2.1 hg),h.2.2⟩
 |.nilS,v,h=>h
 |.nilP,v,h=>h
 |.nilM,v,h=>h
 |.nilF,v,h=>h
 |.lst o',v,h=>by
  by_cases e:o'=o
  .subst e;simp[SV.stale,SR]
  .simp only[SV.stale,Zn e,cond_false];simp only[SR] at h |-;rw[hp _ e];exact h
 |.sub o' lo n sz,v,h=>by
  by_cases e:o'=o
  .subst e;simp[SV.stale,SR]
  .simp only[SV.stale,Zn e,cond_false];simp only[SR] at h |-;rw[hp _ e];exact h
 |.elp o' i off sz,v,h=>by
  by_cases e:o'=o
  .subst e;simp[SV.stale,SR]
  .simp only[SV.stale,Zn e,cond_false];simp only[SR] at h |-;rw[hp _ e];exact h
 |.box o' off,v,h=>by
  by_cases e:o'=o
  .subst e;simp[SV.stale,SR]
  .simp only[SV.stale,Zn e,cond_false];simp only[SR] at h |-;rw[hp _ e];exact h
 |.map o',v,h=>by
  by_cases e:o'=o
  .subst e;simp[SV.stale,SR]
  .simp only[SV.stale,Zn e,cond_false];simp only[SR] at h |-;rw[hp _ e];exact h
 |.dd o' w,v,h=>by
  by_cases e:o'=o
  .subst e;simp only[SV.stale,Nat.beq_refl,ze];cases w with
   |out=>simp only[SR,DR] at h |-;rw[h1];exact h
   |el i off sz=>simp only[SR,DR] at h |-;rw[h1];exact h
   |row _ _ _=>trivial
   |rowp _ _ _ _ _=>trivial
   |inn _ _=>trivial
   |inp _ _ _ _=>trivial
   |dat=>trivial
   |obx _=>trivial
   |yv=>trivial
  .simp only[SV.stale,Zn e,cond_false];simp only[SR] at h |-;rw[hp _ e];exact h
 |.rop k l i off,v,h=>by simp only[SV.stale,SR] at h |-;exact h
 |.cp l off,v,h=>by simp only[SV.stale,SR] at h |-;obtain⟨b,c,e,wr,t,k1,k2,k3⟩:=h;exact⟨b,c,e,wr,t,k1,k2,SRs.stale hp h1 l c k3⟩
 |.agg l,v,h=>by simp only[SV.stale,SR] at h |-;obtain⟨cs,k1,k2⟩:=h;exact⟨cs,k1,SRs.stale hp h1 l cs k2⟩
 |.tup l,v,h=>by simp only[SV.stale,SR] at h |-;obtain⟨cs,k1,k2⟩:=h;exact⟨cs,k1,SRs.stale hp h1 l cs k2⟩
 |.fn f a b,v,h=>by simp only[SV.stale,SR] at h |-;obtain⟨x,y,k1,k2,k3⟩:=h;exact⟨x,y,k1,SRs.stale hp h1 a x k2,SRs.stale hp h1 b y k3⟩
 |.pf ks r cw p,v,h=>by simp only[SV.stale,SR] at h |-;exact h
theorem SRs.stale {B:Heap}{pl pl':Nat->Value}{tb:Nat->Option Bool}{o:Nat}(hp:∀ d,d≠o->pl' d=pl d) (h1:phd (pl' o)=phd (pl o)) :
  ∀ (s:List SV) (v:List Value),SRs P B pl tb s v->SRs P B pl' tb (SVs.stale o s) v
 |[],v,h=>h
 |s::ss,v,h=>by simp only[SVs.stale,SRs] at h |-;obtain⟨x,y,k1,k2,k3⟩:=h;exact⟨x,y,k1,SR.stale hp h1 s x k2,SRs.stale hp h1 ss y k3⟩
end
theorem OB.q0u (b:OB) (o:Nat):(b.stale o).live=b.live:=by cases b<;>rfl
theorem OR.stale {B:Heap}{pl pl':Nat->Value}{tb:Nat->Option Bool}{o:Nat}(hp:∀ d,d≠o->pl' d=pl d) (h1:phd (pl' o)=phd (pl o)) {U U':Heap}{p:Value}{b:OB}
  (h:OR P B pl tb U p b) (hg:b.live=true->∀ i,Oid p i->U'.get i=U.get i):OR P B pl' tb U' p (b.stale o):=by
 cases b with
 |dead=>trivial
 |lst ty k xs nl =>
  rcases h with h|⟨h1,i,cap,c,t,h2,h3,h4,h5,h6⟩
  .exact .inl h
  .exact .inr ⟨h1,i,cap,c,t,h2,h3,by rw[hg rfl i (by rw[h2];rfl)];exact h4,h5,h6⟩
 |cells l u =>obtain⟨i,c,e,t,h2,h3,h4,h5⟩:=h;exact⟨i,c,e,t,h2,by rw[hg rfl i (by rw[h2];rfl)];exact h3,SRs.stale hp h1 l c h4,h5⟩
 |mapE kk vk m key n =>obtain⟨i,es,clock,r,e,h2,h3,h4⟩:=h;exact⟨i,es,clock,r,e,h2,by rw[hg rfl i (by rw[h2];rfl)];exact h3,h4⟩
 |map kk vk m =>obtain⟨i,es,clock,h2,h3,h4⟩:=h;exact⟨i,es,clock,h2,by rw[hg rfl i (by rw[h2];rfl)];exact h3,h4⟩
 |fm ik l =>obtain⟨i,es,clock,h2,h3,h4⟩:=h;exact⟨i,es,clock,h2,by rw[hg rfl i (by rw[h2];rfl)];exact h3,h4⟩
 |stk l vals=>exact SRs.stale hp h1 l vals h
 |deep ty q k xs nl hh=>exact DP.mono h (hg rfl)
 |iter kk vk m dn =>obtain⟨j,i,es,clock,wr,seen,h2,h3,h4⟩:=h;exact⟨j,i,es,clock,wr,seen,h2,by rw[hg rfl j (by rw[h2];rfl)];exact h3,h4⟩
 |rmap kk vk m=>exact h
 |siter l pos =>obtain⟨j,s,h2,h3,h4⟩:=h;exact⟨j,s,h2,by rw[hg rfl j (by rw[h2];rfl)];exact h3,h4⟩
 |lpf l q s=>exact⟨h.1,SRs.stale hp h1 l q.vals h.2.1,λhl=>by rw[hg hl q.i (by rw[h.1];rfl)];exact h.2.2 hl⟩
theorem NQ (o:Nat):∀ (l:Own) (d:Nat),Q9 (Q33 o l) d=(Q9 l d).stale o
 |[],_=>rfl
 |(k,b)::r,d=>by
  simp only[Q33,Q9];by_cases h:k=d
  .subst h;simp
  .rw[Zn h];exact NQ o r d
end
section
variable {P:Program}{B F:Heap}{pl:Nat->Value}{tb:Nat->Option Bool}{s:St}{env:Env}{U U':Heap}
theorem Gam.dput (h:Gam P B F pl tb s env U) (o:Nat) (b:OB) (p:Value) (hle:F.Le U') (h1:phd p=phd (pl o))
  (cJ:∀ j i,j≠o->(Q9 s.own j).live=true->Oid (pl j) i->U'.get i=U.get i) (hb:OR P B (ZR pl o p) tb U' p b)
  (a8:∀ i,b.live=true->Oid p i->F.get i=none/\∀ j,j≠o->(Q9 s.own j).live=true->¬ Oid (pl j) i):Gam P B F (ZR pl o p) tb (s.dput o b) env U':=by
 have hp:∀ j,j≠o->ZR pl o p j=pl j:=λj hj=>by simp[ZR,hj]
 have lg:phd (ZR pl o p o)=phd (pl o):=by simpa [ZR] using h1
 have hg:∀ j,Q9 (s.dput o b).own j=if j=o then b else (Q9 s.own j).stale o:=λj=>by simp only[St.dput,Qa,NQ]
 refine⟨h.bf,hle,SRs.stale hp lg _ _ h.env,λj=>?_,λj i hl hi=>?_,λj j' i aG hl bN hi cf=>?_,h.free⟩
 .rw[hg];by_cases hj:j=o
  .subst hj;rw[z6 rfl];simpa [ZR] using hb
  .rw[z7 hj,hp j hj];exact(h.obj j).stale hp lg λhl i hi=>cJ j i hj hl hi
 .rw[hg] at hl;by_cases hj:j=o
  .subst hj;rw[z6 rfl] at hl;simp only[ZR,zt] at hi;exact(a8 i hl hi).1
  .rw[z7 hj,OB.q0u] at hl;rw[hp j hj] at hi;exact h.fresh j i hl hi
 .rw[hg] at hl bN;by_cases hj:j=o
  .subst hj;rw[z6 rfl] at hl;have bF:j'≠j:=λe=>aG e.symm;rw[z7 bF,OB.q0u] at bN;rw[hp j' bF] at cf;simp only[ZR,zt] at hi;exact(a8 i hl hi).2 j' bF bN cf
  .rw[z7 hj,OB.q0u] at hl;rw[hp j hj] at hi;by_cases bF:j'=o
   .subst bF;rw[z6 rfl] at bN;simp only[ZR,zt] at cf;exact(a8 i bN cf).2 j hj hl hi
   .rw[z7 bF,OB.q0u] at bN;rw[hp j' bF] at cf;exact h.sep j j' i aG hl bN hi cf
theorem Q8c (pl:Nat->Value) (d:Nat):ZR pl d (pl d)=pl:=by
 funext j;simp only[ZR];split
 .rename_i e;rw[e]
 .rfl
theorem Gam.killed (h:Gam P B F pl tb s env U) (o:Nat):Gam P B F pl tb (s.make o .dead) env U:=by
 have:=h.make o .dead (pl o) h.le (λ_ _ _ _ _=>rfl) trivial λi hl=>by cases hl
 rwa [Q8c] at this
theorem Q30 (s:St) (o:Nat) (b:OB) (j:Nat):Q9 (s.make o b).own j=if j=o then b else (Q9 s.own j).kill o:=by simp only[St.make,St.kill,Qa,Vl];split<;>rfl
theorem Gam.kills:∀ {mv:List Nat}{s:St},Gam P B F pl tb s env U->Gam P B F pl tb (s.kills mv) env U
 |[],_,h=>h
 |o::_,s,h=>Gam.kills (s:=s.make o .dead) (h.killed o)
theorem Vh:∀ {mv:List Nat}{s:St}{j:Nat},(Q9 (s.kills mv).own j).live=true->(Q9 s.own j).live=true/\j∉mv
 |[],_,_,h=>⟨h,List.not_mem_nil⟩
 |o::mv,s,j,h=>by
  obtain⟨h1,h2⟩:=Vh (mv:=mv) (s:=s.make o .dead) h;rw[Q30] at h1;by_cases e:j=o
  .rw[z6 e] at h1;cases h1
  .rw[z7 e,OB.q0o] at h1;simp_all
theorem DX:∀ {l:List Nat},Q6e l=true->l.Nodup
 |[],_=>List.nodup_nil
 |a::l,h=>by simp only[Q6e,z0,zf] at h;refine x8.2 ⟨λhm=>?_,DX h.2⟩;have:=h.1 a hm;simp at this
theorem Rows.rowsO {H:Heap}{k:Kind}(f:k.flat=true) {xs:List k.T}{cs:List Value}(h:Rows (KC B k) xs cs):RowsO (λx c is=>KO H none k x c is) xs cs []:=by
 induction h with
 |nil=>exact .nil
 |cons h _ ih=>exact .cons (is:=[]) (js:=[]) (KC.ko f (KC.flat f h)) ih
theorem KO.q1t {H:Heap}:∀ {k:Kind}{q:Option Nat}{x:k.T}{cs:List Value}{is:List Nat},k.flat=true->KO H q k x cs is->is=[]
 |.i _,_,_,_,_,_,h|.bo,_,_,_,_,_,h|.st,_,_,_,_,_,h=>by simp only[KO] at h;exact h.2
 |.list _,_,_,_,_,f,_=>by cases f
 |.pair a b,_,x,cs,is,f,h=>by simp only[Kind.flat,z0] at f;simp only[KO] at h;obtain⟨c1,c2,i1,i2,_,rfl,h1,h2⟩:=h;rw[KO.q1t f.1 h1,KO.q1t f.2 h2];rfl
theorem KO.nil {H:Heap}{q:Option Nat}{k:Kind}:KO H q (.list k) [] [.slice none 0 0] []:=by unfold KO;exact .inl ⟨rfl,rfl,rfl⟩
theorem NZ (hG:Gam P B F pl tb s env U):∀ {k:Kind}{q:Option Nat}{l:List SV}{x:k.T}{mv:List Nat}{cs:List Value},MZ s.own q k l=some (x,mv)->mv.Nodup->SRs P B pl tb l cs ->
  ∃ is,KO U q k x cs is/\is.Nodup/\∀ i∈is,∃ m∈mv,(Q9 s.own m).live=true/\Oid (pl m) i
 |.i ik,q,l,x,mv,cs,h,_,hs=>by simp only[MZ,zi] at h;obtain⟨y,h1,h2⟩:=h;obtain⟨rfl,rfl⟩:=Prod.mk.inj h2;exact⟨[],KC.ko rfl (KC.flat (h:=B) rfl (Qt h1 hs)),List.nodup_nil,λi hi=>by cases hi⟩
 |.bo,q,l,x,mv,cs,h,_,hs=>by simp only[MZ,zi] at h;obtain⟨y,h1,h2⟩:=h;obtain⟨rfl,rfl⟩:=Prod.mk.inj h2;exact⟨[],KC.ko rfl (KC.flat (h:=B) rfl (Qt h1 hs)),List.nodup_nil,λi hi=>by cases hi⟩
 |.st,q,l,x,mv,cs,h,_,hs=>by simp only[MZ,zi] at h;obtain⟨y,h1,h2⟩:=h;obtain⟨rfl,rfl⟩:=Prod.mk.inj h2;exact⟨[],KC.ko rfl (KC.flat (h:=B) rfl (Qt h1 hs)),List.nodup_nil,λi hi=>by cases hi⟩
 |.pair a b,q,l,x,mv,cs,h,hn,hs=>by
  simp only[MZ] at h;split at h
  .rename_i x1 m x2 n h1 h2;obtain⟨rfl,rfl⟩:=Prod.mk.inj (osj h);have fh:=hs.take a.size;have dw:=hs.drop a.size;have dU:=List.nodup_append.1 hn;obtain⟨i1,k1,k2,k3⟩:=NZ hG h1 dU.1 fh;obtain⟨i2,g1,g2,g3⟩:=NZ hG h2 dU.2.1 dw;refine⟨i1++i2,?_,?_,λi hi=>?_⟩
   .simp only[KO]
    grind [List.take_append_drop]
   .refine List.nodup_append.2 ⟨k2,g2,λi hi j hj e=>?_⟩;subst e;obtain⟨m1,a1,a2,a3⟩:=k3 i hi;obtain⟨m2,b1,b2,b3⟩:=g3 i hj;exact hG.sep m1 m2 i (λe=>dU.2.2 m1 a1 m2 b1 e) a2 b2 a3 b3
   grind
  .cases h
 |.list k,q,[],x,mv,cs,h,_,hs=>by simp[MZ] at h
 |.list k,q,_::_::_,x,mv,cs,h,_,hs=>by simp[MZ] at h
 |.list k,q,[v],x,mv,cs,h,_,hs=>by
  obtain⟨u,rfl,h1⟩:=hs.one;simp only[MZ] at h;split at h
  .obtain⟨rfl,rfl⟩:=Prod.mk.inj (osj h);simp only[SR] at h1;subst h1
   grind [KO.nil,List.nodup_nil]
  .rename_i e;split at h
   .rename_i ty k' xs nl ho;have ai:=hG.obj e;rw[ho] at ai;simp only[SR] at h1;cases hq:Z24 q ty&&k.flat with
    |false=>rw[hq] at h;cases h
    |true =>
     rw[hq] at h;simp only[ze,zi] at h;obtain⟨ys,h2,h3⟩:=h;obtain rfl:=JP h2;obtain rfl:=JS h2;obtain⟨rfl,rfl⟩:=Prod.mk.inj h3;rw[z0] at hq;have ig:∀ t,q=some t->ty=t:=λt e=>by subst e;have:=hq.1;simp only[Z24,Nat.beq_eq] at this;exact this.symm
     rcases ai with⟨_,rfl,h8⟩|⟨_,i,cap,c,t,h8,h4,h5,h6,h7⟩
     .exact⟨[],by rw[h1.1,h8];exact KO.nil,List.nodup_nil,λi hi=>by cases hi⟩
     .refine⟨[i],?_,(by simp_all),λj hj=>⟨e,zn,by rw[ho];rfl,?_⟩⟩
      .simp only[KO];exact .inr ⟨i,cap,c,_,t,[],by rw[h1.1,h8],rfl,h4,h5,rfl,ig,h6,h7.rowsO hq.2⟩
      .obtain rfl:=zK.1 hj;rw[h8];rfl
   .cases h
  .rename_i e;split at h
   .rename_i ty q' k' xs nl ho;have ai:=hG.obj e;rw[ho] at ai;simp only[SR,DR] at h1;cases hq:Z24 q ty with
    |false=>rw[hq] at h;cases h
    |true =>
     rw[hq] at h;simp only[ze,zi] at h;obtain⟨ys,h2,h3⟩:=h;obtain rfl:=JP h2;obtain rfl:=JS h2;obtain⟨rfl,rfl⟩:=Prod.mk.inj h3;have ig:∀ t,q=some t->ty=t:=λt e=>by subst e;simp only[Z24,Nat.beq_eq] at hq;exact hq.symm
     obtain⟨is,d1,d2,d3,d4⟩:=DP.open ai;refine⟨is,?_,d1,λj hj=>⟨e,zn,by rw[ho];rfl,(d3 j).2 hj⟩⟩;rw[h1.1];simp only[KO];rcases d2 with⟨rfl,h8,rfl⟩|⟨i,cap,c,t,js,h8,rfl,h4,h5,h6,h7⟩
     .exact .inl ⟨rfl,by rw[h8],rfl⟩
     .exact .inr ⟨i,cap,c,_,t,js,by rw[h8],rfl,h4,h5,rfl,ig,h6,h7.rowsO λ_ _ _ h=>h.weak⟩
   .cases h
  .cases h
def FrL (Ts:List Nat) (s s':St) (pl pl':Nat->Value) (U U':Heap):Prop :=
 ∀ q,q∉Ts->(Q9 s'.own q).live=(Q9 s.own q).live/\pl' q=pl q/\((Q9 s.own q).live=true->∀ i,Oid (pl q) i->U'.get i=U.get i)
theorem FrL.mono {Ts su:List Nat}{s s':St}{pl pl':Nat->Value}{U U':Heap}(h:FrL Ts s s' pl pl' U U') (hs:∀ t∈Ts,t∈su):FrL su s s' pl pl' U U':=λq hq=>h q λh=>hq (hs q h)
theorem Vg:∀ {mv:List Nat}{s:St}{j:Nat},j∉mv->(Q9 (s.kills mv).own j).live=(Q9 s.own j).live
 |[],_,_,_=>rfl
 |o::mv,s,j,h=>by have:=Vg (mv:=mv) (s:=s.make o .dead) (j:=j) λe=>h (zB _ e);rw[show s.kills (o::mv)=(s.make o .dead).kills mv from rfl,this,Q30,z7 (by simp_all),OB.q0o]
theorem B8 {own:Own}:∀ {k:Kind}{q:Option Nat}{l:List SV}{x:k.T}{mv:List Nat},MZ own q k l=some (x,mv)->∀ m∈mv,m∈FQ l
 |.i ik,q,l,x,mv,h,m,hm|.bo,q,l,x,mv,h,m,hm|.st,q,l,x,mv,h,m,hm=>by
  simp only[MZ,zi] at h
  grind
 |.pair a b,q,l,x,mv,h,m,hm=>by
  simp only[MZ] at h;split at h
  .rename_i x1 m1 x2 m2 h1 h2;obtain⟨rfl,rfl⟩:=Prod.mk.inj (osj h);have e:FQ l=FQ (l.take a.size)++FQ (l.drop a.size):=by
    unfold FQ;rw[<-List.flatMap_append,xA]
   rw[e];rcases xd.1 hm with hm|hm
   .exact x_ _ (B8 h1 m hm)
   .exact xQ _ (B8 h2 m hm)
  .cases h
 |.list k,q,[],x,mv,h,_,_=>by simp[MZ] at h
 |.list k,q,_::_::_,x,mv,h,_,_=>by simp[MZ] at h
 |.list k,q,[v],x,mv,h,m,hm=>by
  simp only[MZ] at h;split at h
  .simp_all
  .split at h
   .rename_i e _ ty k' xs nl ho;cases hq:Z24 q ty&&k.flat with
    |false=>rw[hq] at h;cases h
    |true =>rw[hq] at h;simp only[ze,zi] at h;obtain⟨ys,_,h3⟩:=h;obtain⟨rfl,rfl⟩:=Prod.mk.inj h3;simpa [FQ,SV.thing] using hm
   .cases h
  .split at h
   .rename_i e _ ty q' k' xs nl ho;cases hq:Z24 q ty with
    |false=>rw[hq] at h;cases h
    |true =>rw[hq] at h;simp only[ze,zi] at h;obtain⟨ys,_,h3⟩:=h;obtain⟨rfl,rfl⟩:=Prod.mk.inj h3;simpa [FQ,SV.thing] using hm
   .cases h
  .cases h
theorem PR (hG:Gam P B F pl tb s env U) {mv js:List Nat}{d n0 ty cap:Nat}{q:Option Nat}{k:Kind}{xs:List k.T}{c:List Value}{e:El}{t:Bool}(hle:F.Le U')
  (gK:∀ i∈js,∃ m,(m=d\/m∈mv)/\(Q9 s.own m).live=true/\Oid (pl m) i) (hn:js.Nodup) (gx:n0∉js) (hf:F.get n0=none) (eE:∀ j,j≠d->j∉mv->(Q9 s.own j).live=true->¬ Oid (pl j) n0)
  (bm:U'.get n0=some (.cells c e true t)) (he:e=⟨k.size,ty⟩) (kn:∀ i∈js,U'.get i=U.get i) (cJ:∀ j i,j≠d->j∉mv->(Q9 s.own j).live=true->Oid (pl j) i->U'.get i=U.get i)
  (ck:RowsH (KO U q k) k.size none 0 xs (c.take (xs.length*k.size)) js) (b8:xs.length<=cap) (hc:cap*k.size<=c.length) :
  ∃ pl',(Gam P B F pl' tb ((s.kills mv).make d (.deep ty q k xs false none)) env U'/\FrL (d::mv) s ((s.kills mv).make d (.deep ty q k xs false none)) pl pl' U U')/\SR P B pl' tb (.dd d .out) (.slice (some ⟨n0,0,none⟩) xs.length cap):=by
 have iP:DO U' ty q k xs none (.slice (some ⟨n0,0,none⟩) xs.length cap) (n0::js):=.inr ⟨n0,cap,c,t,js,rfl,rfl,b8,by rw[bm,he],hc,ck.imp (by grind [KO.imp])⟩;have fk:=EX (v:=.slice (some ⟨n0,0,none⟩) xs.length cap) iP.cells;refine⟨ZR pl d (mkP U' (.slice (some ⟨n0,0,none⟩) xs.length cap) (n0::js)),⟨hG.kills.make d _ _ hle (λj i hj hl hi=>?_) (DP.close (x8.2 ⟨gx,hn⟩) iP (by simp)) λi _ hi=>?_,λj hj=>?_⟩,?_⟩
 .grind [Vh]
 .rcases zN.1 ((fk i).1 hi) with rfl|hi
  .grind [Vh]
  .obtain⟨m,h1,h2,h3⟩:=gK i hi;refine⟨hG.fresh m i h2 h3,λj hj hl ho=>?_⟩;obtain⟨h4,h5⟩:=Vh hl;exact hG.sep j m i (by grind) h4 h2 ho h3
 .have h1:j≠d:=(by simp_all);have h2:j∉mv:=λe=>hj (zB _ e);exact⟨by rw[KA _ _ _ h1,Vg h2],by simp[ZR,h1],λhl i hi=>cJ j i h1 h2 hl hi⟩
 .simp only[SR,DR,Xo];exact⟨rfl,_,_,_,rfl⟩
theorem Q2x (hG:Gam P B F pl tb s env U) (mv:List Nat) (d ty:Nat) (q:Option Nat) (k:Kind) :
  ∃ pl',(Gam P B F pl' tb ((s.kills mv).make d (.deep ty q k [] true none)) env U/\FrL (d::mv) s ((s.kills mv).make d (.deep ty q k [] true none)) pl pl' U U)/\SR P B pl' tb (.dd d .out) (.slice none 0 0):=by
 have iP:DO U ty q k [] none (.slice none 0 0) []:=.inl ⟨rfl,rfl,rfl⟩;have fk:=EX (v:=.slice none 0 0) iP.cells;refine⟨ZR pl d (mkP U (.slice none 0 0) []),⟨hG.kills.make d _ _ hG.le (λ_ _ _ _ _=>rfl) (DP.close List.nodup_nil iP (by simp)) λi _ hi=>?_,λj hj=>?_⟩,?_⟩
 .cases (fk i).1 hi
 .have h1:j≠d:=(by simp_all);have h2:j∉mv:=λe=>hj (zB _ e);exact⟨by rw[KA _ _ _ h1,Vg h2],by simp[ZR,h1],λ_ _ _=>rfl⟩
 .simp only[SR,DR,Xo];exact⟨rfl,_,_,_,rfl⟩
theorem D6 (hG:Gam P B F pl tb s env U) {mv js:List Nat}{d ty cap:Nat}{q:Option Nat}{k:Kind}{xs:List k.T}{c:List Value}{e:El}{t:Bool}
  (gK:∀ i∈js,∃ m,(m=d\/m∈mv)/\(Q9 s.own m).live=true/\Oid (pl m) i) (hn:js.Nodup) (he:e=⟨k.size,ty⟩)
  (ck:RowsH (KO U q k) k.size none 0 xs (c.take (xs.length*k.size)) js) (b8:xs.length<=cap) (hc:cap*k.size<=c.length) :
  ∃ pl',(Gam P B F pl' tb ((s.kills mv).make d (.deep ty q k xs false none)) env (U.push (.cells c e true t))/\FrL (d::mv) s ((s.kills mv).make d (.deep ty q k xs false none)) pl pl' U (U.push (.cells c e true t)))/\SR P B pl' tb (.dd d .out) (.slice (some ⟨U.n,0,none⟩) xs.length cap):=by
 have aj:∀ i∈js,i<U.n:=λi hi=>by obtain⟨m,_,h2,h3⟩:=gK i hi;exact(hG.obj m).q0r h2 h3
 exact PR hG (hG.le.push _) gK hn (λh=>ya _ (aj _ h)) hG.le.fresh (λj _ _ hl ho=>ya _ ((hG.obj j).q0r hl ho)) (Heap.q0a _ _) he (by grind [Heap.q0i]) (λj i _ _ hl hi=>Heap.q0i _ _ ((hG.obj j).q0r hl hi)) ck b8 hc
def Q3j (P:Program) (B F:Heap) (tb:Nat->Option Bool) (o:VOp) (evV:Operand->Value) (env:Env) (U:Heap) (K:SV->St->Prop) (Ts:List Nat) (s:St) (pl:Nat->Value):Prop :=
 ∃ u U' pl' v s',Q8 o evV U=some (u,U')/\K v s'/\(Gam P B F pl' tb s' env U'/\FrL Ts s s' pl pl' U U')/\SR P B pl' tb v u
section
variable {C:Cx}{d:Nat}{ev:Operand->SV}{evV:Operand->Value}{K:SV->St->Prop}
theorem IC (al:∀ x,SR P B pl tb (ev x) (evV x)) (hG:Gam P B F pl tb s env U) {e:El}{z:List Value}{n:Nat}{ps:List (Nat×Operand)}(h:gnd C d (.buildSlice e z n ps) ev s K):Q3j P B F tb (.buildSlice e z n ps) evV env U K (U1 d (.buildSlice e z n ps) ev) s pl:=by
 simp only[gnd] at h;split at h
 .rename_i k _;split at h
  .rename_i hc;obtain⟨aC,hz⟩:=hc;have he:e=⟨k.size,e.ty⟩:=by cases e;simp only at aC;rw[aC]
   split at h
   .obtain⟨pl',h1,h2⟩:=D6 (q:=QF C.el e.ty) (xs:=([]:List k.T)) (c:=[]) (cap:=0) (t:=true) (mv:=[]) (js:=[]) (d:=d) hG (λi hi=>by cases hi) List.nodup_nil he ⟨by simp,rfl⟩ (z9 _) (by simp);exact⟨_,_,pl',_,_,by rw[<-show TW 0 z=[] by rw[KB];rfl];rfl,h,⟨h1.1,h1.2.mono λt ht=>by rw[zK.1 ht];exact zn⟩,h2⟩
   .rename_i x;split at h
    .rename_i l hl;split at h
     .rename_i y mv hy;cases hd:Q6e (d::mv) with
      |false=>rw[hd] at h;cases h
      |true =>
       rw[hd] at h;simp only[ze] at h;have ef:=x8.1 (DX hd);obtain⟨cs,h1,h2,_⟩:=X0 hl (al x);obtain⟨js,h3,h4,h5⟩:=NZ hG hy ef.2 h2;have hlen:=KC.length h3.kc;have gb:=KC.length (WG (h:=B) hz)
       obtain⟨pl',k1,k2⟩:=D6 (q:=QF C.el e.ty) (xs:=[y]) (c:=cs) (cap:=1) (t:=true) (mv:=mv) (d:=d) hG (by grind) h4 he
        ⟨cs,[],js,[],by simp[<-hlen],by simp,by rw[z7 (by simp)];exact h3,rfl,rfl⟩ (z9 _) (by rw[hlen];simp)
       refine⟨_,_,pl',_,_,?_,h,⟨k1.1,k1.2.mono λt ht=>?_⟩,k2⟩
       rotate_left
       .rcases zN.1 ht with rfl|ht
        .exact zn
        .exact zB _ (by grind [List.mem_append_left,B8])
       have e1:TW 1 z=z:=by rw[KB];simp
       have e2:Wz z 0 cs=cs:=by rw[Vm (by omega),zU,yj,xD,List.drop_of_length_le (by omega),xC]
       simp only[Q8,e1,zO,List.map_nil,Gf,h1,Nat.zero_mul];rw[z6 ⟨by omega,by omega⟩,e2];rfl
     .cases h
    .cases h
   .cases h
  .cases h
 .cases h
theorem DO.sl {ty:Nat}{q:Option Nat}{k:Kind}{xs:List k.T}{v:Value}{is:List Nat}(hd:DO U ty q k xs none v is) (hn:is.Nodup) :
  ∃ a cap cs js,v=.slice a xs.length cap/\U.sl k.size v=some cs/\RowsH (KO U q k) k.size none 0 xs cs js/\(∀ i∈js,i∈is)/\js.Nodup/\cs.all cellOk=true/\cs.length=xs.length*k.size:=by
 rcases hd with⟨rfl,rfl,rfl⟩|⟨i,cap,c,t,js,rfl,rfl,h1,h3,h4,h5⟩
 .exact⟨_,_,[],[],rfl,rfl,⟨rfl,rfl⟩,λi hi=>hi,List.nodup_nil,rfl,by simp⟩
 .have hl:=h5.length KO.q0f;refine⟨_,_,c.take (xs.length*k.size),js,rfl,?_,h5,λi hi=>zB _ hi,(x8.1 hn).2,(h5.rows (R':=KC U k) λ_ _ _ h=>h.kc).cellOk,hl⟩;have:=zk k.size h1;simp only[Heap.sl,h3]
  grind
theorem LY {α:Type}{l:List α}(h:l≠[]):l.isEmpty=false:=by simp_all
theorem R6 (al:∀ x,SR P B pl tb (ev x) (evV x)) (hG:Gam P B F pl tb s env U) {e:El}{bytes:Nat}{x y:Operand}{b ty:Nat}{q:Option Nat}{k:Kind}{ys:List k.T}{qz:Bool}
  (hy:ev y=.dd b .out) (ho:Q9 s.own b=.deep ty q k ys qz none) (ig:ty=e.ty) (aC:k.size=e.sz) :
  ∃ cs js,Q8 (.append e bytes x y) evV U=Wc e bytes U (evV x) ys.length cs/\RowsH (KO U q k) k.size none 0 ys cs js/\js.Nodup/\(∀ i∈js,Oid (pl b) i)/\cs.length=ys.length*k.size/\e=⟨k.size,ty⟩/\(Q9 s.own b).live=true:=by
 have hb:=al y;rw[hy] at hb;simp only[SR,DR] at hb;have ai:=hG.obj b;rw[ho] at ai;obtain⟨is,d1,d2,d3,d4⟩:=DP.open ai;obtain⟨a,cap,cs,js,k1,k2,k3,k4,k5,k6,k7⟩:=d2.sl d1;rw[aC] at k2;refine⟨cs,js,?_,k3,k5,λi hi=>(d3 i).2 (k4 i hi),k7,by simp_all,by rw[ho];rfl⟩;have e1:evV y=.slice a ys.length cap:=by rw[hb.1,k1]
 rw[k1] at k2;simp only[Q8,e1,k2,k6,zt]
theorem Z1a (al:∀ x,SR P B pl tb (ev x) (evV x)) (hG:Gam P B F pl tb s env U) {e:El}{bytes:Nat}{x y:Operand}(h:gnd C d (.append e bytes x y) ev s K):Q3j P B F tb (.append e bytes x y) evV env U K (U1 d (.append e bytes x y) ev) s pl:=by
 have ha:=al x;simp only[gnd] at h;split at h
 .rename_i b hx hy;rw[hx] at ha;simp only[SR] at ha;split at h
  .rename_i ty q k ys qz ho;split at h
   .rename_i hc;obtain⟨ig,aC⟩:=hc;cases hn:Q6e [d,b] with
    |false=>rw[hn] at h;cases h
    |true =>
     rw[hn] at h;simp only[ze,E0,Z23] at h;obtain⟨hb,h⟩:=h;have sub:∀ t∈[d,b],t∈U1 d (.append e bytes x y) ev:=λt ht=>by simpa [U1,hx,hy,SV.thing] using ht
     obtain⟨cs,js,base,r1,r2,r3,r4,r5,r6⟩:=R6 (bytes:=bytes) (x:=x) al hG hy ho ig aC;rw[ha] at base;by_cases hm:ys=[]
     .subst hm;obtain⟨pl',k1,k2⟩:=Q2x hG [b] d ty q k;exact⟨_,_,pl',_,_,by rw[base];rfl,h,⟨k1.1,k1.2.mono sub⟩,k2⟩
     .have dH:ys.length≠0:=(by grind);obtain⟨pl',k1,k2⟩:=D6 (mv:=[b]) (d:=d) (c:=cs) (cap:=ys.length) (t:=false) hG (by grind) r2 r5 (by rw[zI (by omega)];exact r1) (z9 _) (by omega);refine⟨_,_,pl',_,_,?_,h,by rw[LY hm];exact⟨k1.1,k1.2.mono sub⟩,k2⟩;rw[base];simp only[Wc]
      grind
   .cases h
  .cases h
 .rename_i o b hx hy;rw[hx] at ha;simp only[SR,DR] at ha;split at h
  .rename_i ty q k xs nl fT q' k' ys qz mh kN;split at h
   .rename_i hc;obtain⟨qA,nN,aC,rfl⟩:=hc;split at h
    .rename_i fU fj;obtain rfl:=JP fj;obtain rfl:=JS fj;cases hn:Q6e [o,b] with
     |false=>rw[hn] at h;cases h
     |true =>
      rw[hn] at h;simp only[ze,E0,Z23] at h;obtain⟨hb,h⟩:=h;have fl:o≠b:=(by grind [List.nodup_cons,DX,List.mem_cons_self]);have sub:∀ t∈[o,b],t∈U1 d (.append e bytes x y) ev:=λt ht=>by
       have:t=o\/t=b:=by simpa using ht
       simp only[U1,hx,hy,SV.thing];simp_all
      obtain⟨cs,js,base,r1,r2,r3,r4,r5,r6⟩:=R6 (bytes:=bytes) (x:=x) al hG hy kN nN aC;have ai:=hG.obj o;rw[mh] at ai;have af:(Q9 s.own o).live=true:=by rw[mh];rfl
      obtain⟨is,d1,d2,d3,d4⟩:=DP.open ai;have qB:fT=ty:=nN.trans qA.symm;subst qB;rcases d2 with⟨rfl,h8,rfl⟩|⟨i,cap,c,t,ku,h8,rfl,h4,h5,h6,h7⟩
      .have iz:nl=true:=d4.2 h8;subst iz;rw[ha.1,h8] at base;simp only[List.length_nil,zU] at hb;by_cases hm:fU=[]
       .subst hm;obtain⟨pl',k1,k2⟩:=Q2x hG [b] o fT q k';exact⟨_,_,pl',_,_,by rw[base];rfl,h,⟨k1.1,k1.2.mono sub⟩,k2⟩
       .have dH:fU.length≠0:=(by grind);obtain⟨pl',k1,k2⟩:=D6 (mv:=[b]) (d:=o) (c:=cs) (cap:=fU.length) (t:=false) hG (by grind) r2 r5 (by rw[zI (by omega)];exact r1) (z9 _) (by omega);rw[LY hm] at h;refine⟨_,_,pl',_,_,?_,h,⟨k1.1,k1.2.mono sub⟩,k2⟩;rw[base];simp only[Wc]
        grind
      .have iz:nl=false:=by
        grind
       subst iz;rw[Bool.and_false] at h;rw[ha.1,h8] at base;have a8:F.get i=none:=hG.fresh o i af ((d3 i).2 zn);have ef:=x8.1 d1;have gK:∀ j∈ku++js,∃ m,(m=o\/m∈[b])/\(Q9 s.own m).live=true/\Oid (pl m) j:=(by grind);have dU:(ku++js).Nodup:=List.nodup_append.2 ⟨ef.2,r2,λj hj j' bF e=>by
        subst e;exact hG.sep o b j fl af r6 ((d3 j).2 (zB _ hj)) (r3 j bF)⟩
       have gx:i∉ku++js:=λhj=>(xd.1 hj).elim ef.1 λhj=>hG.sep o b i fl af r6 ((d3 i).2 zn) (r3 i hj);have eE:∀ j,j≠o->j∉[b]->(Q9 s.own j).live=true->¬ Oid (pl j) i:=λj hj _ hl hi=>hG.sep j o i hj hl af hi ((d3 i).2 zn);have q1:xs.length*k'.size<=cap*k'.size:=zk _ h4;have lu:RowsH (KO U q k') k'.size none 0 (xs++fU) (c.take (xs.length*k'.size)++cs) (ku++js):=h7.append r1;have dQ:=lu.length KO.q0f;have aj:∀ {j},j∈ku++js->j<U.n:=λhj=>by obtain⟨m,_,h2,h3⟩:=gK _ hj;exact(hG.obj m).q0r h2 h3
       simp only[Wc,h5] at base;rw[<-r5,z6 ⟨rfl,h4,by rw[<-aC];omega⟩] at base;by_cases hm:fU=[]
       .subst hm;simp only[List.length_nil,zt] at base;have qC:RowsH (KO U q k') k'.size none 0 (xs++[]) (c.take ((xs++[]).length*k'.size)) (ku++js):=by
         grind [List.length_eq_zero_iff]
        obtain⟨pl',k1,k2⟩:=PR (mv:=[b]) (d:=o) (n0:=i) (cap:=cap) hG hG.le gK dU gx a8 eE h5 rfl (λ_ _=>rfl) (λ_ _ _ _ _ _=>rfl) qC (by simpa using h4) h6;refine⟨_,_,pl',_,_,?_,h,⟨k1.1,k1.2.mono sub⟩,k2⟩;rw[base];simp
       .have dH:fU.length≠0:=(by grind);rw[z7 dH] at base;by_cases aK:xs.length+fU.length<=cap
        .have fL:(xs.length+fU.length)*k'.size<=cap*k'.size:=zk _ aK;have gW:xs.length*k'.size+fU.length*k'.size<=cap*k'.size:=by rw[<-zF];exact fL
         rw[z6 aK,z6 ⟨trivial,by rw[<-aC];omega⟩] at base;have a7:RowsH (KO U q k') k'.size none 0 (xs++fU) ((Wz c (0+xs.length*e.sz) cs).take ((xs++fU).length*k'.size)) (ku++js):=by
          have dz:0+xs.length*e.sz+cs.length<=c.length:=by rw[<-aC];omega
          rw[Vm dz,<-aC,zU,List.take_left' (by rw[dQ])];exact lu
         obtain⟨pl',k1,k2⟩:=PR (U':=U.upd i (.cells (Wz c (0+xs.length*e.sz) cs) e true t)) (mv:=[b]) (d:=o) (n0:=i) (cap:=cap) hG (hG.le.upd a8 _) gK dU gx a8 eE (Heap.q0c _ _ (U.lt h5)) r5
          (by grind [Heap.q0b]) (by grind [Heap.q0b]) a7 (by rw[zG];exact aK) (by rw[Xa];exact h6)
         exact⟨_,_,pl',_,_,by rw[base,zG],h,⟨k1.1,k1.2.mono sub⟩,k2⟩
        .rw[z7 aK,z6 (by simpa using hb)] at base;have eC:((c.drop 0).take (xs.length*e.sz)++cs)=c.take (xs.length*k'.size)++cs:=by rw[xB,aC]
         rw[eC] at base;have sv:RowsH (KO U q k') k'.size none 0 (xs++fU) ((c.take (xs.length*k'.size)++cs).take ((xs++fU).length*k'.size)) (ku++js):=by
          grind
         cases t with
         |true =>simp only[zt] at base;obtain⟨pl',k1,k2⟩:=D6 (mv:=[b]) (d:=o) (c:=c.take (xs.length*k'.size)++cs) (cap:=(xs++fU).length) (t:=false) hG gK dU r5 sv (z9 _) (by rw[dQ];exact z9 _);exact⟨_,_,pl',_,_,by rw[base,zG],h,⟨k1.1,k1.2.mono sub⟩,k2⟩
         |false =>
          simp only[zm,if_false,zt] at base;have hn:(U.kill i).n=U.n:=rfl
          obtain⟨pl',k1,k2⟩:=PR (U':=(U.kill i).push (.cells (c.take (xs.length*k'.size)++cs) e true false)) (mv:=[b]) (d:=o) (n0:=U.n) (cap:=(xs++fU).length) hG ((hG.le.kill a8).push _) gK dU (λh=>ya _ (aj h)) hG.le.fresh (λj _ _ hl ho=>ya _ ((hG.obj j).q0r hl ho)) (by rw[<-hn,Heap.q0a]) r5
           (by grind [Heap.q0i,Heap.q0d]) (λj i' hj eP hl hi=>by
            rw[Heap.q0i _ _ (show i'<(U.kill i).n from (hG.obj j).q0r hl hi)]
            grind [Heap.q0d]) sv (z9 _) (by rw[dQ];exact z9 _)
          exact⟨_,_,pl',_,_,by rw[base,zG],h,⟨k1.1,k1.2.mono sub⟩,k2⟩
    .cases h
   .cases h
  .cases h
 .cases h
theorem IT {c us:List Value}{m p n:Nat}(hl:us.length=n) (hp:p+n<=m) (hm:m<=c.length):(Wz c p us).take m=(c.take m).take p++us++(c.take m).drop (p+n):=by
 rw[Vm (by omega),hl];have h1:(c.take p).length=p:=by rw[xP];omega
 grind [List.length_append,List.take_append,List.take_of_length_le,Nat.min_eq_left,List.drop_take]
theorem Z3v (al:∀ x,SR P B pl tb (ev x) (evV x)) (hG:Gam P B F pl tb s env U) {size:Nat}{a x:Operand}(h:gnd C d (.store size a x) ev s K):Q3j P B F tb (.store size a x) evV env U K (U1 d (.store size a x) ev) s pl:=by
 have ha:=al a;simp only[gnd] at h;split at h
 .rename_i o i off sz vs h1 h2;obtain⟨us,h3,dy,h5⟩:=X0 h2 (al x);rw[h1] at ha;simp only[SR,DR] at ha;obtain⟨b,len,cap,g1,g2,g3,g4⟩:=ha;split at h
  .rename_i ty q k xs nl hole ho;split at h
   .rename_i hc;obtain⟨rfl,rfl,rfl⟩:=hc;split at h
    .rename_i y mv hy;cases hd:Q6e (o::mv) with
     |false=>rw[hd] at h;cases h
     |true =>
      rw[hd] at h;simp only[ze] at h;have ef:=x8.1 (DX hd);obtain⟨js,t3,t4,t5⟩:=NZ hG hy ef.2 dy;have hlen:=KC.length t3.kc;have ai:=hG.obj o;rw[ho] at ai;have af:(Q9 s.own o).live=true:=by rw[ho];rfl
      obtain⟨is,d1,d2,d3,d4⟩:=DP.open ai;rcases d2 with⟨_,h8,_⟩|⟨b',aq,c,t,uE,h8,rfl,e4,e5,e6,e7⟩
      .rw[g1] at h8;cases h8
      rw[g1] at h8;obtain⟨rfl,rfl,rfl⟩:=(by simpa using h8:b=b'/\len=xs.length/\cap=aq);have hi:i.toNat<xs.length:=by omega
      have nO:(hole=none\/hole=some i.toNat)/\K .any ((s.kills mv).dput o (.deep ty q k (xs.set i.toNat y) nl none)):=by
       grind
      obtain⟨hh,h⟩:=nO;obtain⟨eR,ix,eS,rfl,k1,_⟩:=RowsH.set (h':=none) (x:=y) (c':=us) (inew:=js) KO.q0f e7 hi (by grind) hlen (by rw[z7 (by simp)];exact t3);have aC:(i.toNat+1)*k.size<=xs.length*k.size:=zk _ hi;rw[zF,xr] at aC;have e8:=zk k.size e4;rw[<-IT hlen aC (by omega)] at k1;have a8:F.get b=none:=hG.fresh o b af ((d3 b).2 zn);have jD:=x8.1 d1;have ph:=List.nodup_append.1 jD.2;have sx:=List.nodup_append.1 ph.1;have uF:∀ j∈js,∀ j'∈b::(eR++ix++eS),j≠j':=λj hj j' bF e=>by subst e;obtain⟨m,m1,m2,m3⟩:=t5 j hj;exact hG.sep m o j (by grind) m2 af m3 ((d3 j).2 bF)
      have dU:(b::(eR++js++eS)).Nodup:=by
       refine x8.2 ⟨λh=>?_,List.nodup_append.2 ⟨List.nodup_append.2 ⟨sx.1,t4,λj hj j' bF e=>?_⟩,ph.2.1,λj hj j' bF e=>?_⟩⟩
       .grind
       .grind
       grind
      have wm:b∉eR++js++eS:=(x8.1 dU).1;have iP:DO (U.upd b (.cells (Wz c (i.toNat*k.size) us) ⟨k.size,ty⟩ true t)) ty q k (xs.set i.toNat y) none (phd (pl o)) (b::(eR++js++eS)) :=
       .inr ⟨b,cap,Wz c (i.toNat*k.size) us,t,_,by rw[g1,zE],rfl,by rw[zE];exact e4,Heap.q0c _ _ (U.lt e5),by rw[Xa];exact e6,by
        rw[zE];exact k1.imp (by grind [KO.imp,Heap.q0b])⟩
      have fk:=EX (v:=phd (pl o)) iP.cells;refine⟨undef,U.upd b (.cells (Wz c (i.toNat*k.size) us) ⟨k.size,ty⟩ true t),ZR pl o (mkP (U.upd b (.cells (Wz c (i.toNat*k.size) us) ⟨k.size,ty⟩ true t)) (phd (pl o)) (b::(eR++js++eS))),_,_,?_,h,⟨?_,λj hj=>?_⟩,trivial⟩
      .simp only[Q8,g4,h3,e5,x4]
       grind
      .refine (hG.kills (mv:=mv)).dput o _ _ (hG.le.upd a8 _) (Q5s _ _ _) (λj j' hj hl bF=>?_) (DP.close dU iP d4) λj _ hj=>?_
       .obtain⟨hl,_⟩:=Vh hl;exact Heap.q0b _ _ λe=>hG.sep j o j' hj hl af bF (by simp_all)
       .have hj:=(fk j).1 hj;have key:∃ m,(m=o\/m∈mv)/\(Q9 s.own m).live=true/\Oid (pl m) j:=by
         have own:j∈b::(eR++ix++eS)->∃ m,(m=o\/m∈mv)/\(Q9 s.own m).live=true/\Oid (pl m) j:=(by simp_all);rcases zN.1 hj with rfl|hj
         .exact own zn
         .rcases xd.1 hj with hj|hj
          .rcases xd.1 hj with hj|hj
           .simp_all
           simp_all
          simp_all
        obtain⟨m,m1,m2,m3⟩:=key;refine⟨hG.fresh m j m2 m3,λj' bF hl fD=>?_⟩;obtain⟨hl,eP⟩:=Vh hl;exact hG.sep j' m j (by grind) hl m2 fD m3
      .have eD:j≠o:=λe=>hj (by simp only[U1,h1,SV.thing];simp_all);have eP:j∉mv:=λe=>hj (by simp only[U1,h2];exact zB _ (xQ _ (B8 hy j e)));refine⟨by simp only[St.dput,Qa,NQ,z7 eD,OB.q0u];exact Vg eP,by simp[ZR,eD],λhl i' hi=>Heap.q0b _ _ λe=>?_⟩;exact hG.sep j o i' eD hl af hi (by simp_all)
    .cases h
   .cases h
  .cases h
 .rename_i o kr lr i j off vs h1 h2;obtain⟨us,h3,dy,h5⟩:=X0 h2 (al x);rw[h1] at ha;simp only[SR,DR] at ha;obtain⟨b,len,cap,c,e,t,r,rl,rc,aM,re,rt,g1,g2,g3,g4,g5,g6,g7,g8,g9,wq,wu,uG⟩:=ha;split at h
  .rename_i ty q k xs nl ho;split at h
   .rename_i hc;obtain⟨rfl,rfl,rfl,hf⟩:=hc;split at h
    .rename_i y hy;have hk:=Qt hy dy;have hlen:=KC.length hk;have ai:=hG.obj o;rw[ho] at ai;have af:(Q9 s.own o).live=true:=by rw[ho];rfl
     have hle:=DP.le ai;obtain⟨is,d1,d2,d3,d4⟩:=DP.open ai;rcases d2 with⟨_,h8,_⟩|⟨b',aq,c0,t0,uE,h8,rfl,e4,e5,e6,e7⟩
     .rw[g1] at h8;cases h8
     rw[g1] at h8;obtain⟨rfl,rfl,rfl⟩:=(by simpa using h8:b=b'/\len=xs.length/\cap=aq);have eL:c0=c:=by have:=hle.2 _ _ g4;simp_all
     subst eL;have hi:i.toNat<xs.length:=by omega
     have fh:(Kind.list kr).size=1:=rfl;rw[fh] at e6 e7;simp only[y9] at e6 e7;have cW:xs.getD i.toNat []=xs[i.toNat]:=by simp_all
     have bz:((c0.take xs.length).drop (i.toNat*1)).take 1=[.slice (some ⟨r,0,none⟩) rl rc]:=by
      apply zT;intro j;simp only[y9,xu,zZ]
      grind
     obtain⟨eR,ix,eS,rfl,k1,k2⟩:=RowsH.set (sz:=1) (h':=some i.toNat) (x:=xs[i.toNat]) (c':=[.slice (some ⟨r,0,none⟩) rl rc]) (inew:=[]) (KO.q0f (k:=.list kr)) e7 hi (by grind) rfl (by rw[zU,z6 rfl]);rw[z7 (by simp),bz] at k2;have eC:(c0.take xs.length).take (i.toNat*1)++[.slice (some ⟨r,0,none⟩) rl rc]++(c0.take xs.length).drop (i.toNat*1+1)=c0.take xs.length:=by
      grind [List.append_assoc,List.drop_drop,List.take_append_drop]
     rw[eC,List.set_getElem_self] at k1;have jD:=x8.1 d1;have ph:=List.nodup_append.1 jD.2;have sx:=List.nodup_append.1 ph.1;simp only[KO] at k2;rcases k2 with⟨_,m2,_⟩|⟨r',qD,uH,uI,uJ,je,m1,rfl,m3,m4,m5,m6,m7,m8⟩
     .cases m2
     obtain⟨rfl,m1,rfl⟩:=(by simpa using m1:r=r'/\rl=xs[i.toNat].length/\rc=qD);have lu:aM=uH/\re=uI/\rt=uJ:=by have:=hle.2 _ _ g9;simp_all
     obtain⟨rfl,rfl,rfl⟩:=lu;have hj:j.toNat<xs[i.toNat].length:=by omega
     have gK:(j.toNat+1)*kr.size<=xs[i.toNat].length*kr.size:=zk _ hj;rw[zF,xr] at gK;have q1:=zk kr.size m3;have a8:F.get r=none:=hG.fresh o r af (by simp_all);have ky:b≠r:=(by simp_all);have sy:∀ m∈je,m≠r:=(by grind);have k3:RowsH (KO (U.upd r (.cells (Wz aM (j.toNat*kr.size) us) re true rt)) q (.list kr)) 1 (some i.toNat) 0 xs (c0.take xs.length) (eR++[]++eS):=k1.imp λx c' uK hr hj=>KO.imp hr (by grind [Heap.q0b,List.mem_cons_self,List.mem_append_right]);have dT:KO (U.upd r (.cells (Wz aM (j.toNat*kr.size) us) re true rt)) q (.list kr) (xs[i.toNat].set j.toNat y) [.slice (some ⟨r,0,none⟩) rl rc] (r::je):=by
      have gF:je=[]:=by
       have key:∀ {xs:List kr.T}{cs:List Value}{js:List Nat},RowsO (λx c is=>KO U none kr x c is) xs cs js->js=[]:=λh=>by
        induction h with
        |nil=>rfl
        |cons h _ ih=>rw[ih,xC];exact KO.q1t hf h
       exact key m8
      subst gF;have uL:Rows (KC B kr) xs[i.toNat] (aM.take (xs[i.toNat].length*kr.size)):=by
       have key:∀ {xs:List kr.T}{cs:List Value}{js:List Nat},RowsO (λx c is=>KO U none kr x c is) xs cs js->Rows (KC B kr) xs cs:=λh=>by
        induction h with
        |nil=>exact .nil
        |cons h _ ih=>exact .cons (KC.flat hf h.kc) ih
       exact key m8
      have a7:=uL.set KC.q0f hj hk;rw[<-IT hlen gK (by omega)] at a7;simp only[KO];exact .inr ⟨r,rc,_,re,rt,[],by rw[zE,m1],rfl,by rw[zE];exact m3,Heap.q0c _ _ (U.lt m4),m5,m6,by rw[Xa];exact m7,by rw[zE];exact a7.rowsO hf⟩
     obtain⟨gL,wx,gM,jO,k4,pj⟩:=RowsH.set (sz:=1) (h':=none) (x:=xs[i.toNat].set j.toNat y) (c':=[.slice (some ⟨r,0,none⟩) rl rc]) (inew:=r::je) (KO.q0f (k:=.list kr)) k3 hi (by grind) rfl (by rw[z7 (by simp)];exact dT);rw[zU,z6 rfl] at pj;subst pj;rw[eC] at k4;have aP:∀ m,m∈gL++r::je++gM<->m∈eR++r::je++eS:=λm=>by
      have:m∈eR++[]++eS<->m∈gL++[]++gM:=by rw[jO]
      simp only[xC,xd] at this;simp only[xd];constructor
      .grind
      grind
     have qE:(b::(gL++r::je++gM)).Nodup:=by
      refine (List.Perm.cons b ?_).nodup_iff.1 d1;have p1:(eR++eS).Perm (gL++gM):=by simp_all
      have p2:∀ (a b c:List Nat),(a++b++c).Perm (b++(a++c)):=(by grind)
      grind
     have iP:DO (U.upd r (.cells (Wz aM (j.toNat*kr.size) us) re true rt)) ty q (.list kr) (xs.set i.toNat (xs[i.toNat].set j.toNat y)) none (phd (pl o)) (b::(gL++r::je++gM)) :=
      .inr ⟨b,cap,c0,t0,_,by rw[g1,zE],rfl,by rw[zE];exact e4,by rw[Heap.q0b _ _ ky];exact e5,by rw[fh,y9];exact e6,by
       simp_all⟩
     have fk:=EX (v:=phd (pl o)) iP.cells;rw[cW] at h;refine⟨undef,U.upd r (.cells (Wz aM (j.toNat*kr.size) us) re true rt),ZR pl o (mkP (U.upd r (.cells (Wz aM (j.toNat*kr.size) us) re true rt)) (phd (pl o)) (b::(gL++r::je++gM))),_,_,?_,h,⟨?_,λj0 eJ=>?_⟩,trivial⟩
     .simp only[Q8,uG,h3,m4,x4]
      grind
     .refine hG.dput o _ _ (hG.le.upd a8 _) (Q5s _ _ _) (λj' i' bF hl cf=>?_) (DP.close qE iP d4) λm _ hm=>?_
      .exact Heap.q0b _ _ λe=>hG.sep j' o i' bF hl af cf (by simp_all)
      .have hm:=(fk m).1 hm;have hm:m∈b::(eR++r::je++eS):=(by simp_all);exact⟨hG.fresh o m af ((d3 m).2 hm),λj' bF hl fD=>hG.sep j' o m bF hl af fD ((d3 m).2 hm)⟩
     .have eD:j0≠o:=λe=>eJ (by simp only[U1,h1,SV.thing];simp_all);refine⟨by simp only[St.dput,Qa,NQ,z7 eD,OB.q0u],by simp[ZR,eD],λhl i' hi=>Heap.q0b _ _ λe=>?_⟩;exact hG.sep j0 o i' eD hl af hi (by simp_all)
    .cases h
   .cases h
  .cases h
 .cases h
theorem Lq (al:∀ x,SR P B pl tb (ev x) (evV x)) (hG:Gam P B F pl tb s env U) {o:VOp}(h:gnd C d o ev s K):Q3j P B F tb o evV env U K (U1 d o ev) s pl:=by
 cases o with
 |buildSlice e z n ps=>exact IC al hG h
 |append e bytes x y=>exact Z1a al hG h
 |store size a x=>exact Z3v al hG h
 |_=>cases h
end
end
end Go.V
namespace Go.V
open Go
def XU:Nat->Value:=λ_=>poison
def JE:Nat->Option Bool:=λ_=>none
def hNil:Heap:=⟨λ_=>none,0,λ_ _=>rfl⟩
theorem Q25 (B:Heap):hNil.Le B:=⟨Nat.zero_le _,λi b h=>by cases h⟩
section
variable {P:Program}
mutual
theorem SR.retd {B B':Heap}{pl pl':Nat->Value}{tb tb':Nat->Option Bool}{n:Nat}(hp:∀ j,j<n->pl' j=pl j) :
  ∀ (s:SV) (v:Value),s.ret n=true->SR P B pl tb s v->SR P B' pl' tb' s v
 |.any,_,h,_|.bid _ _,_,h,_|.grd _ _,_,h,_|.sub _ _ _ _,_,h,_|.elp _ _ _ _,_,h,_|.rop _ _ _ _,_,h,_|.cp _ _,_,h,_|.fn _ _ _,_,h,_|.pf _ _ _ _,_,h,_=>by cases h
 |.val k x,v,h,hs=>by simp only[SR] at hs |-;exact KC.flat h hs
 |.nilS,v,_,hs|.nilP,v,_,hs|.nilM,v,_,hs|.nilF,v,_,hs=>by simp only[SR] at hs |-;exact hs
 |.lst j,v,h,hs=>by
  have hj:j<n:=by simpa [SV.ret,zA] using h
  simp only[SR] at hs |-;rw[hp j hj];exact hs
 |.map j,v,h,hs=>by
  have hj:j<n:=by simpa [SV.ret,zA] using h
  simp only[SR] at hs |-;rw[hp j hj];exact hs
 |.dd j w,v,h,hs=>by
  cases w with
  |out =>
   have hj:j<n:=by simpa [SV.ret,zA] using h
   simp only[SR] at hs |-;rw[hp j hj];exact hs
  |_=>cases h
 |.box j off,v,h,hs=>by
  have hj:j<n:=by simpa [SV.ret,zA] using h
  simp only[SR] at hs |-;rw[hp j hj];exact hs
 |.agg l,v,h,hs=>by simp only[SR] at hs |-;obtain⟨cs,h1,h2⟩:=hs;exact⟨cs,h1,SRs.retd hp l cs h h2⟩
 |.tup l,v,h,hs=>by simp only[SR] at hs |-;obtain⟨cs,h1,h2⟩:=hs;exact⟨cs,h1,SRs.retd hp l cs h h2⟩
theorem SRs.retd {B B':Heap}{pl pl':Nat->Value}{tb tb':Nat->Option Bool}{n:Nat}(hp:∀ j,j<n->pl' j=pl j) :
  ∀ (s:List SV) (v:List Value),SVs.ret n s=true->SRs P B pl tb s v->SRs P B' pl' tb' s v
 |[],v,_,hs=>by simp only[SRs] at hs |-;exact hs
 |s::ss,v,h,hs=>by simp only[SVs.ret,z0] at h;simp only[SRs] at hs |-;obtain⟨x,y,h1,h2,h3⟩:=hs;exact⟨x,y,h1,SR.retd hp s x h.1 h2,SRs.retd hp ss y h.2 h3⟩
end
mutual
theorem SR.ren {B:Heap}{pl pl':Nat->Value}{tb tb':Nat->Option Bool}{n d nt:Nat}(hp:∀ j,j<n->pl' (d+j*nt)=pl j) :
  ∀ (s:SV) (v:Value),s.ret n=true->SR P B pl tb s v->SR P B pl' tb' (s.ren d nt) v
 |.any,_,h,_|.bid _ _,_,h,_|.grd _ _,_,h,_|.sub _ _ _ _,_,h,_|.elp _ _ _ _,_,h,_|.rop _ _ _ _,_,h,_|.cp _ _,_,h,_|.fn _ _ _,_,h,_|.pf _ _ _ _,_,h,_=>by cases h
 |.val k x,v,h,hs=>by simp only[SR,SV.ren] at hs |-;exact hs
 |.nilS,v,_,hs|.nilP,v,_,hs|.nilM,v,_,hs|.nilF,v,_,hs=>by simp only[SR,SV.ren] at hs |-;exact hs
 |.lst j,v,h,hs=>by
  have hj:j<n:=by simpa [SV.ret,zA] using h
  simp only[SR,SV.ren] at hs |-;rw[hp j hj];exact hs
 |.map j,v,h,hs=>by
  have hj:j<n:=by simpa [SV.ret,zA] using h
  simp only[SR,SV.ren] at hs |-;rw[hp j hj];exact hs
 |.dd j w,v,h,hs=>by
  cases w with
  |out =>
   have hj:j<n:=by simpa [SV.ret,zA] using h
   simp only[SR,SV.ren] at hs |-;rw[hp j hj];exact hs
  |_=>cases h
 |.box j off,v,h,hs=>by
  have hj:j<n:=by simpa [SV.ret,zA] using h
  simp only[SR,SV.ren] at hs |-;rw[hp j hj];exact hs
 |.agg l,v,h,hs=>by simp only[SR,SV.ren] at hs |-;obtain⟨cs,h1,h2⟩:=hs;exact⟨cs,h1,SRs.ren hp l cs h h2⟩
 |.tup l,v,h,hs=>by simp only[SR,SV.ren] at hs |-;obtain⟨cs,h1,h2⟩:=hs;exact⟨cs,h1,SRs.ren hp l cs h h2⟩
theorem SRs.ren {B:Heap}{pl pl':Nat->Value}{tb tb':Nat->Option Bool}{n d nt:Nat}(hp:∀ j,j<n->pl' (d+j*nt)=pl j) :
  ∀ (s:List SV) (v:List Value),SVs.ret n s=true->SRs P B pl tb s v->SRs P B pl' tb' (SVs.ren d nt s) v
 |[],v,_,hs=>by simp only[SRs,SVs.ren] at hs |-;exact hs
 |s::ss,v,h,hs=>by simp only[SVs.ret,z0] at h;simp only[SRs,SVs.ren] at hs |-;obtain⟨x,y,h1,h2,h3⟩:=hs;exact⟨x,y,h1,SR.ren hp s x h.1 h2,SRs.ren hp ss y h.2 h3⟩
end
theorem MR.flat {B B':Heap}{kk vk:Kind}(h1:kk.flat=true) (h2:vk.flat=true):∀ {m:List (kk.T×vk.T)}{es:List JO},MR B kk vk m es->MR B' kk vk m es
 |[],es,h=>h
 |m::ms,es,h=>by obtain⟨e,bJ,k1,k2,k3,k4⟩:=h;exact⟨e,bJ,k1,k2.flat h1,k3.flat h2,MR.flat h1 h2 k4⟩
theorem OR.retd {B B':Heap}{pl pl':Nat->Value}{tb tb':Nat->Option Bool}{U U':Heap}{p:Value}{b:OB}(hb:b.ret=true) (h:OR P B pl tb U p b) (hg:∀ i,Oid p i->U'.get i=U.get i):OR P B' pl' tb' U' p b:=by
 cases b with
 |dead=>trivial
 |lst ty k xs nl =>
  rcases h with h|⟨h0,i,cap,c,t,h1,h2,h3,h4,h5⟩
  .exact .inl h
  .exact .inr ⟨h0,i,cap,c,t,h1,h2,by rw[hg i (by rw[h1];rfl)];exact h3,h4,h5.mono λ_ _ e=>KC.flat hb e⟩
 |cells l u =>obtain⟨i,c,e,t,h1,h2,h3,h4⟩:=h;exact⟨i,c,e,t,h1,by rw[hg i (by rw[h1];rfl)];exact h2,SRs.retd (n:=0) (λj hj=>by omega) l c hb h3,h4⟩
 |map kk vk m =>simp only[OB.ret,z0] at hb;obtain⟨i,es,clock,h1,h2,h3⟩:=h;exact⟨i,es,clock,h1,by rw[hg i (by rw[h1];rfl)];exact h2,h3.1.flat hb.1 hb.2,h3.2⟩
 |stk l vals=>cases hb
 |deep ty q k xs nl hh=>exact DP.mono h hg
 |mapE kk vk m key n=>cases hb
 |fm ik l=>cases hb
 |iter kk vk m dn=>cases hb
 |rmap kk vk m=>cases hb
 |siter l pos=>cases hb
 |lpf l q s=>cases hb
def O_:(k:Kind)->k.T->List Value
 |.i ik,x=>[.int ik x]
 |.bo,x=>[.bool x]
 |.st,x=>[.string ⟨x.toArray⟩]
 |.list _,_=>[]
 |.pair a b,x=>O_ a x.1++O_ b x.2
def Z19:OB->Option Blk
 |.lst ty k xs nl=>if nl then none else some (.cells (xs.map (O_ k)).flatten ⟨k.size,ty⟩ true false)
 |_=>none
def CR (U:Heap) (bs:List OB):Heap where
 get i:=if i<U.n then U.get i else (bs[i-U.n]?).bind Z19
 n:=U.n+bs.length
 wf i h:=by
  grind
def EM (U:Heap) (bs:List OB) (j:Nat):Value:=match bs[j]? with
 |some (.lst _ _ xs nl)=>if nl then .slice none 0 0 else .slice (some ⟨U.n+j,0,none⟩) xs.length xs.length
 |_=>poison
mutual
def UY (p:Nat->Value):SV->Value
 |.val k x=>(O_ k x).headD poison
 |.nilS=>.slice none 0 0
 |.nilP=>.pointer none
 |.nilM=>.map none
 |.nilF=>.nilFunc
 |.lst j=>p j
 |.agg l=>.agg (Vb p l).toArray
 |.tup l=>.tuple (Vb p l).toArray
 |_=>poison
def Vb (p:Nat->Value):List SV->List Value
 |[]=>[]
 |s::ss=>UY p s::Vb p ss
end
def Dead (U U':Heap):Prop:=U.n<=U'.n/\∀ i,i<U.n->U.get i=none->U'.get i=none
theorem Dead.refl (U:Heap):Dead U U:=⟨z9 _,λ_ _ h=>h⟩
theorem Dead.trans {σ0 U U':Heap}(h:Dead σ0 U) (h':Dead U U'):Dead σ0 U':=⟨x6 h.1 h'.1,λi hi hg=>h'.2 i (zH hi h.1) (h.2 i hi hg)⟩
def Ret (P:Program) (U:Heap) (v:SV) (bs:List OB) (u:Value) (U':Heap):Prop :=
 (U.Le U'/\Dead U U')/\(bs=[]->U'=U)/\∃ pl:Nat->Value,(∀ j b,bs[j]?=some b->OR P hNil pl JE U' (pl j) b/\∀ i,Oid (pl j) i->U.get i=none/\U.n<=i) /\
  (∀ j j' i,j<bs.length->j'<bs.length->j≠j'->Oid (pl j) i->Oid (pl j') i->False)/\SR P hNil pl JE v u
def Q79 (P:Program) (ap:SV->List SV->Option (Prop×SV)):Prop :=
 ∀ U f args c v fV vs,SR P U XU JE f fV->SRs P U XU JE args vs->ap f args=some (c,v)->c->v.ret 0=true/\∃ g a b,fV=.func (.func g) a b/\VCalled P g (a.toList++vs++b.toList) U λu U'=>U'=U/\SR P hNil XU JE v u
def OkC (P:Program) (f:Nat) (sp:CSp):Prop :=
 ∀ ap,Q79 P ap->∀ U args vs c v bs,SRs P U XU JE args vs->sp ap args=some (c,v,bs)->v.ret bs.length=true->bs.all OB.ret=true->c->(VCalled P f vs U λu U'=>Ret P U v bs u U') /\
  (bs.all OB.isL=true->UN v=true->VCalled P f vs U λu U'=>u=UY (EM U bs) v/\U'=CR U bs)
def CsOk (P:Program) (cs:List (Nat×CSp)):Prop:=∀ f sp,QF cs f=some sp->OkC P f sp
theorem VCalled.mono {f:FuncId}{args:List Value}{U:Heap}{R R':Value->Heap->Prop}(h:VCalled P f args U R) (hr:∀ v U',R v U'->R' v U'):VCalled P f args U R':=by
 intro ρ w au hH hL;rcases h ρ w au hH hL with⟨h1,h2⟩|⟨c,h1,h2⟩
 .exact .inl ⟨h1,h2.mono λ_ _ ⟨c,he,hg⟩=>⟨c,he,hg.mono hr⟩⟩
 .exact .inr ⟨c,h1.mono hr,h2⟩
theorem L7 {B:Heap}{pl:Nat->Value}{tb:Nat->Option Bool}{k:Kind}{v:SV}{u:Value}{x:k.T}(h:gap.asV k v=some x) (hs:SR P B pl tb v u):KV B k x u:=by
 unfold gap.asV at h;cases bO:k.one with
 |true =>rw[bO] at h;exact .inl ⟨bO,Qt h (by simp only[SRs];exact⟨u,[],rfl,hs,rfl⟩)⟩
 |false =>
  rw[bO] at h;simp only[zM] at h;split at h
  .simp only[SR] at hs;obtain⟨cs,rfl,hs⟩:=hs;exact .inr ⟨bO,cs,rfl,Qt h hs⟩
  .cases h
theorem Em {B:Heap}{pl:Nat->Value}{tb:Nat->Option Bool}:∀ {ks:List Kind}{args:List SV}{x:AT ks}{vs:List Value},gap.deca ks args=some x->SRs P B pl tb args vs->E2 B ks x vs
 |[],[],x,vs,_,hs=>by simp only[SRs] at hs;exact hs
 |[],_::_,x,vs,h,_=>by cases h
 |[k],[],x,vs,h,_=>by cases h
 |[k],[v],x,vs,h,hs=>by obtain⟨u,rfl,h1⟩:=hs.one;exact⟨u,rfl,L7 h h1⟩
 |[k],_::_::_,x,vs,h,_=>by cases h
 |k::k'::ks,[],x,vs,h,_=>by cases h
 |k::k'::ks,v::args,x,vs,h,hs=>by
  simp only[gap.deca] at h;split at h
  .rename_i y z h1 h2;obtain rfl:=osj h;simp only[SRs] at hs;obtain⟨u,us,rfl,h3,h4⟩:=hs;exact⟨u,us,rfl,L7 h1 h3,Em h2 h4⟩
  .cases h
theorem Ret.flat {U U':Heap}{v:SV}{u:Value}(h:Ret P U v [] u U') (hv:v.ret 0=true):U'=U/\SR P hNil XU JE v u:=by obtain⟨_,h2,pl,_,_,h5⟩:=h;exact⟨h2 rfl,h5.retd (λj hj=>by omega) _ _ hv⟩
theorem KV.vcall {B U:Heap}(hB:B.Le U) {k:Kind}{x:k.T}{v:Value}(h:KV B k x v):KV U k x v:=by
 rcases h with⟨h1,h2⟩|⟨h1,cs,h2,h3⟩
 .exact .inl ⟨h1,h2.mono hB⟩
 .exact .inr ⟨h1,cs,h2,h3.mono hB⟩
theorem Tu:∀ {k:Kind}{x:k.T},k.flat=true->SVs.ret 0 (Dv k x)=true
 |.i _,_,_|.bo,_,_|.st,_,_=>rfl
 |.list _,_,h=>by cases h
 |.pair a b,x,h=>by
  simp only[Kind.flat,z0] at h;have app:∀ l m:List SV,SVs.ret 0 l=true->SVs.ret 0 m=true->SVs.ret 0 (l++m)=true:=by
   intro l m hl hm;induction l with
   |nil=>exact hm
   |cons s l ih =>simp only[SVs.ret,z0,xq] at hl |-;exact⟨hl.1,ih hl.2⟩
  exact app _ _ (Tu h.1) (Tu h.2)
theorem Q99 {k:Kind}{x:k.T}(h:k.flat=true):(Q8v k x).ret 0=true:=by
 cases k with
 |pair a b=>exact Tu (k:=.pair a b) h
 |list k=>cases h
 |_=>rfl
theorem E1 {cs:List (Nat×CSp)}(h:CsOk P cs):∀ n,Q79 P (gap cs n)
 |0=>λU f args c v fV vs _ _ h=>by cases h
 |n+1=>by
  intro U f args c v fV vs hf ha hg hc;cases f with
  |fn g a b =>
   simp only[gap] at hg;split at hg
   .rename_i sp df;split at hg
    .rename_i c' v' heq;cases hv:v'.ret 0 with
     |false=>rw[hv] at hg;cases hg
     |true =>rw[hv] at hg;simp only[ze,xp,Prod.mk.injEq] at hg;obtain⟨rfl,rfl⟩:=hg;simp only[SR] at hf;obtain⟨x,y,rfl,h1,h2⟩:=hf;refine⟨hv,g,x.toArray,y.toArray,rfl,?_⟩;have:=(h g sp df (gap cs n) (E1 h n) U (a++args++b) (x++vs++y) c' v' [] ((h1.append ha).append h2) heq hv rfl hc).1;simpa using this.mono λu U' hr=>hr.flat hv
    .cases hg
   .cases hg
  |pf ks r cw p =>
   simp only[gap] at hg;split at hg
   .rename_i x hx;cases hr:r.flat with
    |false=>rw[hr] at hg;cases hg
    |true =>rw[hr] at hg;obtain⟨rfl,rfl⟩:=Jf hg;simp only[SR] at hf;obtain⟨g,first,cap,rfl,aE⟩:=hf;have h2:=aE x hc U vs (Heap.Le.refl _) (Em hx ha);have dk:=Q99 (x:=p x) hr;exact⟨dk,g,first,cap,rfl,h2.mono λu U' hu=>⟨hu.1,(W6 (P:=P) (pl:=XU) (tb:=JE) hu.2).retd (λj hj=>by omega) _ _ dk⟩⟩
   .cases hg
  |_=>cases hg
end
end Go.V
namespace Go.V
open Go
theorem DropTo.rename2 {σ0 σf U':Heap}{v v':Value}(π:Nat->Nat) (h1:σ0.n<=U'.n)
  (h2:∀ i,i<σ0.n->π i=i/\U'.get i=σf.get i/\(σf.get i=σ0.get i\/∃ b,σf.get i=some b/\b.plain=true))
  (h3:∀ i,σ0.n<=i->i<U'.n->σ0.n<=π i/\((U'.get i=none/\σf.get (π i)=none)\/∃ b' b,U'.get i=some b'/\σf.get (π i)=some b/\BRen U'.n π b' b))
  (h4:∀ i j,σ0.n<=i->i<U'.n->σ0.n<=j->j<U'.n->π i=π j->i=j) (h5:Ren U'.n π v' v):DropTo σ0 v σf v' U':=by
 intro ρ0 w0 ρ w c fM hE hH hv;have hπ:∀ i,i<σ0.n->π i=i:=λi hi=>(h2 i hi).1;have aD:∀ i b',U'.get i=some b'->∃ b,σf.get (π i)=some b/\BRen U'.n π b' b:=λi b' hb=>by
  have hi:=U'.lt hb;rcases zo i σ0.n with aj|bI
  .obtain⟨k1,k2,k3⟩:=h2 i aj;rw[k1];rw[k2] at hb;refine⟨b',hb,?_⟩;rcases k3 with k3|⟨b,k3,k4⟩
   .rw[k3] at hb;obtain⟨p,_,hB⟩:=fM.live i b' hb;exact hB.ren h1 hπ
   grind [osj,BRen.plain]
  grind
 have eB:∀ i j,i<U'.n->j<U'.n->π i=π j->i=j:=(by grind);have hX:Ext ρ0 σ0 w0 (λi=>if i<U'.n then ρ (π i) else none) U' w:=by
  refine⟨hE.os,hE.tape,hE.output,hE.size,hE.keep,?_,h1,λi hi p hp=>?_⟩
  .rintro B hB ⟨i,p,b,hp,hb,hw,rfl⟩;change (if i<U'.n then ρ (π i) else none)=some p at hp;split at hp
   .obtain⟨b0,bM,bw⟩:=aD i b hb;exact hE.wr _ hB ⟨π i,p,b0,hp,bM,by rw[<-bw.wr];exact hw,rfl⟩
   .cases hp
  .change (if i<U'.n then ρ (π i) else none)=some p at hp;split at hp
   .rw[hπ i hi] at hp;exact hE.pl i hi p hp
   .cases hp
 refine⟨λi=>if i<U'.n then ρ (π i) else none,h5.rel hv,fM.ext ⟨λi b' hb=>?_,λi hi=>?_,λi p hp=>?_,λi j p q b cT hp hq hb hw hx=>?_⟩ hX,hX⟩
 .obtain⟨b,bM,bw⟩:=aD i b' hb;obtain⟨p,hp,hB⟩:=hH.live _ b bM;exact⟨p,by simp[U'.lt hb,hp],bw.rel hB⟩
 .show (if i<U'.n then ρ (π i) else none)=none;split
  .rename_i aj;rcases zo i σ0.n with cX|bI
   .obtain⟨k1,k2,_⟩:=h2 i cX;rw[k1];exact hH.dead i (by rw[<-k2];exact hi)
   .obtain⟨_,⟨_,k2⟩|⟨b1,b,k1,_⟩⟩:=h3 i bI aj
    .exact hH.dead _ k2
    .rw[k1] at hi;cases hi
  .rfl
 .change (if i<U'.n then ρ (π i) else none)=some p at hp;split at hp
  .exact hH.lt _ p hp
  .cases hp
 .change (if i<U'.n then ρ (π i) else none)=some p at hp;change (if j<U'.n then ρ (π j) else none)=some q at hq;split at hp
  .rename_i hi;split at hq
   .rename_i hj;obtain⟨b0,bM,bw⟩:=aD i b hb;exact hH.sep (π i) (π j) p q b0 (λe=>cT (eB i j hi hj e)) hp hq bM (by rw[<-bw.wr];exact hw) hx
   .cases hq
  .cases hp
theorem KC.enc {h:Heap}:∀ {k:Kind}{x:k.T}{cs:List Value},k.flat=true->KC h k x cs->cs=O_ k x
 |.i _,_,_,_,e|.bo,_,_,_,e|.st,_,_,_,e=>e
 |.list _,_,_,f,_=>by cases f
 |.pair a b,x,cs,f,e=>by simp only[Kind.flat,z0] at f;obtain⟨c1,c2,rfl,h1,h2⟩:=e;rw[KC.enc f.1 h1,KC.enc f.2 h2];rfl
theorem Rows.enc {h:Heap}{k:Kind}(hk:k.flat=true) {xs:List k.T}{cs:List Value}(hr:Rows (KC h k) xs cs):cs=(xs.map (O_ k)).flatten:=by
 induction hr with
 |nil=>rfl
 |cons h _ ih=>rw[zO,List.flatten_cons,<-ih,KC.enc hk h]
theorem HR:∀ {k:Kind}{x:k.T},k.flat=true->(O_ k x).all Zl=true
 |.i _,_,_|.bo,_,_|.st,_,_=>rfl
 |.list _,_,h=>by cases h
 |.pair a b,x,h=>by simp only[Kind.flat,z0] at h;simp only[O_,List.all_append,z0];exact⟨HR h.1,HR h.2⟩
section
variable {P:Program}
mutual
theorem Nu {B:Heap}{pl:Nat->Value}{tb:Nat->Option Bool}{n:Nat}:∀ (s:SV) (v:Value),s.ret n=true->UN s=true->SR P B pl tb s v->v=UY pl s
 |.val k x,v,h,_,hs=>by simp only[SR] at hs;have:=KC.enc h hs;simp only[UY,<-this,List.headD_cons]
 |.nilS,v,_,_,hs|.nilP,v,_,_,hs|.nilM,v,_,_,hs|.nilF,v,_,_,hs=>by simp only[SR] at hs;exact hs
 |.lst j,v,_,_,hs=>by simp only[SR] at hs;exact hs.1
 |.agg l,v,h,hb,hs=>by simp only[SR] at hs;obtain⟨cs,rfl,h2⟩:=hs;rw[H9 l cs h hb h2];rfl
 |.tup l,v,h,hb,hs=>by simp only[SR] at hs;obtain⟨cs,rfl,h2⟩:=hs;rw[H9 l cs h hb h2];rfl
 |.box _ _,_,_,hb,_|.map _,_,_,hb,_=>by cases hb
 |.any,_,h,_,_|.bid _ _,_,h,_,_|.grd _ _,_,h,_,_|.sub _ _ _ _,_,h,_,_|.elp _ _ _ _,_,h,_,_|.rop _ _ _ _,_,h,_,_|.cp _ _,_,h,_,_|.fn _ _ _,_,h,_,_|.pf _ _ _ _,_,h,_,_=>by cases h
theorem H9 {B:Heap}{pl:Nat->Value}{tb:Nat->Option Bool}{n:Nat}:∀ (s:List SV) (v:List Value),SVs.ret n s=true->De s=true->SRs P B pl tb s v->v=Vb pl s
 |[],v,_,_,hs=>by simp only[SRs] at hs;exact hs
 |s::ss,v,h,hb,hs=>by simp only[SVs.ret,z0] at h;simp only[De,z0] at hb;simp only[SRs] at hs;obtain⟨x,y,rfl,h1,h2⟩:=hs;rw[Nu s x h.1 hb.1 h1,H9 ss y h.2 hb.2 h2];rfl
end
theorem Q77 {k:Kind}{x:k.T}(h:k.flat=true):Zl ((O_ k x).headD poison)=true\/(O_ k x).headD poison=poison:=by
 have:=HR (x:=x) h;cases e:O_ k x with
 |nil=>exact .inr rfl
 |cons a l=>rw[e] at this;simp only[zP,z0] at this;exact .inl this.1
mutual
theorem Q34 {n m:Nat}{π:Nat->Nat}{p q:Nat->Value}(h:∀ j,j<m->Ren n π (p j) (q j)):∀ (s:SV),s.ret m=true->UN s=true->Ren n π (UY p s) (UY q s)
 |.val k x,hr,_=>by
  simp only[UY];rcases Q77 (x:=x) hr with h|h
  .exact .plain _ h
  .rw[h];exact .poison _
 |.nilS,_,_|.nilP,_,_|.nilM,_,_|.nilF,_,_=>.plain _ rfl
 |.lst j,hr,_=>h j (by simpa [SV.ret,zA] using hr)
 |.agg l,hr,hb=>by have:=Cb h l hr hb;simp only[UY];refine .agg _ _ (by simpa using this.1) λi h1 h2=>this.2 i _ _ (by simp) (by simp)
 |.tup l,hr,hb=>by have:=Cb h l hr hb;simp only[UY];refine .tuple _ _ (by simpa using this.1) λi h1 h2=>this.2 i _ _ (by simp) (by simp)
 |.box _ _,_,hb|.map _,_,hb=>by cases hb
 |.any,h,_|.bid _ _,h,_|.grd _ _,h,_|.sub _ _ _ _,h,_|.elp _ _ _ _,h,_|.rop _ _ _ _,h,_|.cp _ _,h,_|.fn _ _ _,h,_|.pf _ _ _ _,h,_=>by cases h
theorem Cb {n m:Nat}{π:Nat->Nat}{p q:Nat->Value}(h:∀ j,j<m->Ren n π (p j) (q j)):∀ (s:List SV),SVs.ret m s=true->De s=true->LRen n π (Vb p s) (Vb q s)
 |[],_,_=>⟨rfl,λi v c hv=>by simp[Vb] at hv⟩
 |s::ss,hr,hb=>by
  simp only[SVs.ret,z0] at hr;simp only[De,z0] at hb;have h1:=Q34 h s hr.1 hb.1;have h2:=Cb h ss hr.2 hb.2;refine⟨by simp[Vb,h2.1],λi v c hv hc=>?_⟩;cases i with
  |zero=>simp[Vb] at hv hc;subst hv;subst hc;exact h1
  |succ i=>simp[Vb] at hv hc;exact h2.2 i v c hv hc
end
mutual
theorem Oo {m:Nat}{S:Nat->Prop}{p q:Nat->Value}(h:∀ j,j<m->Weak S (p j) (q j)):∀ (s:SV),s.ret m=true->UN s=true->Weak S (UY p s) (UY q s)
 |.val k x,_,_=>.refl _
 |.nilS,_,_|.nilP,_,_|.nilM,_,_|.nilF,_,_=>.refl _
 |.lst j,hr,_=>h j (by simpa [SV.ret,zA] using hr)
 |.agg l,hr,hb=>by have:=T8 h l hr hb;simp only[UY];exact .agg _ _ this.1 this.2
 |.tup l,hr,hb=>by have:=T8 h l hr hb;simp only[UY];exact .tuple _ _ this.1 this.2
 |.box _ _,_,hb|.map _,_,hb=>by cases hb
 |.any,h,_|.bid _ _,h,_|.grd _ _,h,_|.sub _ _ _ _,h,_|.elp _ _ _ _,h,_|.rop _ _ _ _,h,_|.cp _ _,h,_|.fn _ _ _,h,_|.pf _ _ _ _,h,_=>by cases h
theorem T8 {m:Nat}{S:Nat->Prop}{p q:Nat->Value}(h:∀ j,j<m->Weak S (p j) (q j)):∀ (s:List SV),SVs.ret m s=true->De s=true->(Vb p s).length=(Vb q s).length/\∀ (i:Nat) (a b:Value),(Vb p s)[i]?=some a->(Vb q s)[i]?=some b->Weak S a b
 |[],_,_=>⟨rfl,λi v c hv=>by simp[Vb] at hv⟩
 |s::ss,hr,hb=>by
  simp only[SVs.ret,z0] at hr;simp only[De,z0] at hb;have h1:=Oo h s hr.1 hb.1;have h2:=T8 h ss hr.2 hb.2;refine⟨by simp[Vb,h2.1],λi v c hv hc=>?_⟩;cases i with
  |zero=>simp[Vb] at hv hc;subst hv;subst hc;exact h1
  |succ i=>simp[Vb] at hv hc;exact h2.2 i v c hv hc
end
theorem KC.ofEnc {h:Heap}:∀ {k:Kind}{x:k.T},k.flat=true->KC h k x (O_ k x)
 |.i _,_,_|.bo,_,_|.st,_,_=>by simp[KC,O_]
 |.list _,_,f=>by cases f
 |.pair a b,x,f=>by simp only[Kind.flat,z0] at f;exact⟨_,_,rfl,KC.ofEnc f.1,KC.ofEnc f.2⟩
theorem Rows.ofEnc {h:Heap}{k:Kind}(hk:k.flat=true):∀ xs:List k.T,Rows (KC h k) xs (xs.map (O_ k)).flatten
 |[]=>.nil
 |x::xs=>by rw[zO,List.flatten_cons];exact .cons (KC.ofEnc hk) (Rows.ofEnc hk xs)
mutual
theorem Fq {pl:Nat->Value}{m:Nat}(h:∀ j,j<m->∃ a n c,pl j=.slice a n c):∀ (s:SV),s.ret m=true->UN s=true->SR P hNil pl JE s (UY pl s)
 |.val k x,hr,hb=>by have h1:=KC.ofEnc (h:=hNil) (x:=x) hr;have h2:=KC.length h1;rw[Kind.q1q hb] at h2;obtain⟨c,e⟩:=z_.1 h2;simp only[UY,SR,e,List.headD_cons];rw[e] at h1;exact h1
 |.nilS,_,_|.nilP,_,_|.nilM,_,_|.nilF,_,_=>by simp[UY,SR]
 |.lst j,hr,_=>by simp only[UY,SR];exact⟨trivial,h j (by simpa [SV.ret,zA] using hr)⟩
 |.agg l,hr,hb=>by simp only[UY,SR];exact⟨_,rfl,Fu h l hr hb⟩
 |.tup l,hr,hb=>by simp only[UY,SR];exact⟨_,rfl,Fu h l hr hb⟩
 |.box _ _,_,hb|.map _,_,hb=>by cases hb
 |.any,h,_|.bid _ _,h,_|.grd _ _,h,_|.sub _ _ _ _,h,_|.elp _ _ _ _,h,_|.rop _ _ _ _,h,_|.cp _ _,h,_|.fn _ _ _,h,_|.pf _ _ _ _,h,_=>by cases h
theorem Fu {pl:Nat->Value}{m:Nat}(h:∀ j,j<m->∃ a n c,pl j=.slice a n c):∀ (s:List SV),SVs.ret m s=true->De s=true->SRs P hNil pl JE s (Vb pl s)
 |[],_,_=>by simp[Vb,SRs]
 |s::ss,hr,hb=>by simp only[SVs.ret,z0] at hr;simp only[De,z0] at hb;simp only[Vb,SRs];exact⟨_,_,rfl,Fq h s hr.1 hb.1,Fu h ss hr.2 hb.2⟩
end
theorem Z4e {U:Heap}{bs:List OB}(hl:bs.all OB.isL=true) {j:Nat}(hj:j<bs.length):∃ a n c,EM U bs j=.slice a n c:=by
 have hb:=zf.1 hl _ (zl hj);simp only[EM,z8 hj];cases e:bs[j] with
 |lst ty k xs nl=>cases nl<;>simp
 |_=>rw[e] at hb;cases hb
theorem Q4x {σ0 σf:Heap}(hA:Agree σ0 σf) (hn:σ0.n<=σf.n) {v:SV}{bs:List OB}(hv:v.ret bs.length=true) (cU:UN v=true) (hb:bs.all OB.ret=true) (hl:bs.all OB.isL=true) {pl:Nat->Value}{u:Value}
  (ai:∀ j b,bs[j]?=some b->OR P hNil pl JE σf (pl j) b/\∀ i,oid (pl j)=some i->σ0.n<=i)
  (eE:∀ j j' i,j<bs.length->j'<bs.length->j≠j'->oid (pl j)=some i->oid (pl j')=some i->False) (hu:SR P hNil pl JE v u) :
  DropTo σ0 u σf (UY (EM σ0 bs) v) (CR σ0 bs):=by
 have dJ:=Nu v u hv cU hu;subst dJ;have kind:∀ j,j<bs.length->∃ ty k xs nl,bs[j]?=some (.lst ty k xs nl)/\k.flat=true/\((nl=true/\xs=[]/\pl j=.slice none 0 0)\/(nl=false/\∃ i cap c t,pl j=.slice (some ⟨i,0,none⟩) xs.length cap/\xs.length<=cap/\σ0.n<=i/\σf.get i=some (.cells c ⟨k.size,ty⟩ true t)/\c.take (xs.length*k.size)=(xs.map (O_ k)).flatten/\Rows (KC hNil k) xs (xs.map (O_ k)).flatten)):=by
  intro j hj;have e:=z8 hj;have h1:=zf.1 hb _ (zl hj);have h2:=zf.1 hl _ (zl hj);obtain⟨ho,hi⟩:=ai j _ e;cases bY:bs[j] with
  |lst ty k xs nl =>
   rw[bY] at e ho h1;refine⟨ty,k,xs,nl,e,h1,?_⟩;rcases ho with⟨k1,k2,k3⟩|⟨k0,i,cap,c,t,k1,k2,k3,k4,k5⟩
   .exact .inl ⟨k1,k2,k3⟩
   .have k6:=Rows.enc h1 k5;exact .inr ⟨k0,i,cap,c,t,k1,k2,hi i (by rw[k1];rfl),k3,k6,by rw[<-k6];exact k5⟩
  |_=>rw[bY] at h2;cases h2
 let S:Nat->Bool:=λi=>(List.range bs.length).any λj=>decide (oid (pl j)=some i);have hS:∀ i,S i=true<->∃ j,j<bs.length/\oid (pl j)=some i:=(by grind);let σw:Heap:=⟨λi=>if S i=true then ((List.range bs.length).find? λj=>decide (oid (pl j)=some i)).bind λj=>(bs[j]?).bind Z19 else σf.get i,σf.n,λi hi=>by
  by_cases h:S i=true
  .obtain⟨j,hj,a8⟩:=(hS i).1 h;obtain⟨ty,k,xs,nl,_,_,h3⟩:=kind j hj;rcases h3 with⟨_,_,k3⟩|⟨_,i',cap,c,t,k1,_,_,k3,_⟩
   .rw[k3] at a8;cases a8
   .rw[k1] at a8;obtain rfl:=osj a8;exact absurd (σf.lt k3) (yd.2 hi)
  .rw[z7 h];exact σf.wf i hi⟩
 have cg:∀ j i,j<bs.length->oid (pl j)=some i->σw.get i=(bs[j]?).bind Z19:=λj i hj a8=>by
  have h1:S i=true:=(hS i).2 ⟨j,hj,a8⟩;show (if S i=true then _ else _)=_;rw[z6 h1];cases hf:(List.range bs.length).find? λj=>decide (oid (pl j)=some i) with
  |none=>have:=List.find?_eq_none.1 hf j (xk.2 hj);simp[a8] at this
  |some j' =>have h2:=List.find?_some hf;have h3:=xk.1 (List.mem_of_find?_eq_some hf);have h4:j'=j:=(by grind);subst h4;rfl
 let q:Nat->Value:=λj=>match pl j with
  |.slice (some a) n _=>.slice (some a) n n
  |v=>v
 have hq:∀ j,j<bs.length->Weak (λi=>S i=true) (pl j) (q j):=λj hj=>by
  obtain⟨ty,k,xs,nl,_,_,h3⟩:=kind j hj;rcases h3 with⟨_,_,k3⟩|⟨_,i',cap,c,t,k1,k2,_,k3,_⟩
  .simp only[q,k3];exact .refl _
  .simp only[q,k1];exact .sl _ _ _ ((hS i').2 ⟨j,hj,by rw[k1];rfl⟩) k2
 have nP:DropTo σ0 (UY pl v) σf (UY q v) σw:=by
  refine DropTo.weaken S (λi hi=>?_) rfl hn (λi hi=>?_) (λi hi=>?_) (Oo hq v hv cU)
  .grind
  .grind
  .obtain⟨j,hj,a8⟩:=(hS i).1 hi;obtain⟨ty,k,xs,nl,e,_,h3⟩:=kind j hj;rcases h3 with⟨_,_,k3⟩|⟨k0,i',cap,c,t,k1,k2,_,k3,k4,_⟩
   .rw[k3] at a8;cases a8
   .rw[k1] at a8;obtain rfl:=osj a8;refine⟨c,_,true,t,xs.length*k.size,k3,?_⟩;rw[cg j _ hj (by rw[k1];rfl),e];simp only[xi,Z19,k0];rw[k4];rfl
 have jY:∀ j i,j<bs.length->oid (pl j)=some i->i<σf.n:=λj i hj a8=>by
  obtain⟨ty,k,xs,nl,_,_,h3⟩:=kind j hj;rcases h3 with⟨_,_,k3⟩|⟨_,i',cap,c,t,k1,_,_,k3,_⟩
  .rw[k3] at a8;cases a8
  .rw[k1] at a8;obtain rfl:=osj a8;exact σf.lt k3
 let π:Nat->Nat:=λi=>if i<σ0.n then i else match oid (pl (i-σ0.n)) with
  |some id=>id
  |none=>σf.n+i
 have uM:σw.n=σf.n:=rfl;have nQ:DropTo σ0 (UY q v) σw (UY (EM σ0 bs) v) (CR σ0 bs):=by
  refine DropTo.rename2 π (by simp[CR]) (λi hi=>⟨by simp[π,hi],?_,.inl ?_⟩) (λi h1 h2=>?_) (λi j h1 h2 h3 h4 he=>?_) (Q34 (λj hj=>?_) v hv cU)
  .have hs:S i=false:=by
    grind
   show (if i<σ0.n then _ else _)=(if S i=true then _ else _);rw[z6 hi,z7 (by simp[hs]),hA i hi]
  .have hs:S i=false:=by
    grind
   show (if S i=true then _ else _)=_;rw[z7 (by simp[hs]),hA i hi]
  .have hj:i-σ0.n<bs.length:=by simp[CR] at h2;omega
   have bI:¬ i<σ0.n:=by omega
   obtain⟨ty,k,xs,nl,e,qF,h3⟩:=kind _ hj;have nR:(CR σ0 bs).get i=(bs[i-σ0.n]?).bind Z19:=by show (if i<σ0.n then _ else _)=_;rw[z7 bI]
   rcases h3 with⟨k0,_,k3⟩|⟨k0,i',cap,c,t,k1,k2,lx,k3,k4,_⟩
   .have hp:π i=σf.n+i:=by simp only[π,z7 bI,k3,oid]
    refine⟨by omega,.inl ⟨?_,σw.wf _ (by rw[hp,uM];omega)⟩⟩;rw[nR,e];simp[Z19,k0]
   .have hp:π i=i':=by simp only[π,z7 bI,k1,oid]
    rw[hp];have hw:=cg _ i' hj (by rw[k1];rfl);rw[e] at hw;simp only[xi,Z19,k0] at hw;refine⟨lx,.inr ⟨_,_,?_,hw,BRen.plain ?_⟩⟩
    .rw[nR,e];simp[Z19,k0]
    .simp only[Blk.plain,List.all_flatten,List.all_map];rw[zf];intro x _;exact HR qF
  .have hi:i-σ0.n<bs.length:=by simp[CR] at h2;omega
   have hj:j-σ0.n<bs.length:=by simp[CR] at h4;omega
   grind
  .obtain⟨ty,k,xs,nl,e,_,h3⟩:=kind j hj;rcases h3 with⟨k0,kx,k3⟩|⟨k0,i',cap,c,t,k1,k2,_,k3,_⟩
   .simp only[EM,e,k0,zt,q,k3];exact .plain _ rfl
   .simp only[EM,e,k0,zm,if_false,q,k1];have hp:π (σ0.n+j)=i':=by
     have:¬ σ0.n+j<σ0.n:=by omega
     simp only[π,z7 this,Nat.add_sub_cancel_left,k1,oid]
    have:=Ren.sl (n:=(CR σ0 bs).n) (π:=π) (σ0.n+j) 0 xs.length xs.length (by simp[CR];omega)
    rwa [hp] at this
 exact nP.trans nQ
def OB.wfL:OB->Prop
 |.lst _ _ xs nl=>nl=true->xs=[]
 |_=>True
theorem Oq (σ0:Heap) {v:SV}{bs:List OB}(hv:v.ret bs.length=true) (cU:UN v=true) (hb:bs.all OB.ret=true) (hl:bs.all OB.isL=true) (hw:∀ b∈bs,b.wfL):Ret P σ0 v bs (UY (EM σ0 bs) v) (CR σ0 bs):=by
 have kind:∀ j,j<bs.length->∃ ty k xs nl,bs[j]?=some (.lst ty k xs nl)/\k.flat=true/\(nl=true->xs=[]):=λj hj=>by
  have e:=z8 hj;have h1:=zf.1 hb _ (zl hj);have h2:=zf.1 hl _ (zl hj);have h3:=hw _ (zl hj);cases bY:bs[j] with
  |lst ty k xs nl=>rw[bY] at e h1 h3;exact⟨ty,k,xs,nl,e,h1,h3⟩
  |_=>rw[bY] at h2;cases h2
 refine⟨⟨?_,?_⟩,?_,EM σ0 bs,λj b hj=>?_,λj j' i hj bF aG h1 h2=>?_,Fq (λj hj=>Z4e hl hj) v hv cU⟩
 .refine⟨by simp[CR],λi b hg=>?_⟩;show (if i<σ0.n then _ else _)=_;rw[z6 (σ0.lt hg)];exact hg
 .refine⟨by simp[CR],λi hi hg=>?_⟩;show (if i<σ0.n then _ else _)=_;rw[z6 hi];exact hg
 .rintro rfl;apply Heap.ext'
  .intro i;show (if i<σ0.n then _ else _)=_;by_cases hi:i<σ0.n
   .rw[z6 hi]
   .rw[z7 hi,σ0.wf i (by omega)];rfl
  .simp[CR]
 .have cM:j<bs.length:=(zq.1 hj).1;obtain⟨ty,k,xs,nl,e,qF,h3⟩:=kind j cM;obtain rfl:=osj (e.symm.trans hj);cases nl with
  |true =>
   have hp:EM σ0 bs j=.slice none 0 0:=by simp[EM,e]
   rw[hp];exact⟨.inl ⟨rfl,h3 rfl,rfl⟩,λi hi=>by cases hi⟩
  |false =>
   have hp:EM σ0 bs j=.slice (some ⟨σ0.n+j,0,none⟩) xs.length xs.length:=by simp[EM,e]
   have k5:=Rows.ofEnc (h:=hNil) qF xs;have dQ:=k5.length KC.q0f;rw[hp];refine⟨.inr ⟨rfl,σ0.n+j,xs.length,(xs.map (O_ k)).flatten,false,rfl,z9 _,?_,by omega,?_⟩,λi hi=>?_⟩
   .show (if σ0.n+j<σ0.n then _ else _)=_;rw[z7 (by omega),Nat.add_sub_cancel_left,e];simp[Z19]
   .rw[zI (by omega)];exact k5
   .obtain rfl:=osj hi;exact⟨σ0.wf _ (by simp),by simp⟩
 .obtain⟨ty,k,xs,nl,e,_,h3⟩:=kind j hj;obtain⟨fT,k',cy,kg,e',_,hU⟩:=kind j' bF;simp only[EM,e] at h1;simp only[EM,e'] at h2;cases nl with
  |true=>simp[Oid,oid] at h1
  |false =>
   cases kg with
   |true=>simp[Oid,oid] at h2
   |false=>simp[Oid,oid] at h1 h2;omega
end
end Go.V
namespace Go.V
open Go
section
variable {P:Program}{B F:Heap}{pl:Nat->Value}{tb:Nat->Option Bool}{own:Own}{U:Heap}
mutual
theorem Q3t {bx:List SV->Nat->SV}(hle:B.Le U) (aB:∀ d,OR P B pl tb U (pl d) (Q9 own d))
  (ly:∀ l off b c e t,U.get b=some (.cells c e true t)->SRs P B pl tb l c->SR P U XU JE (bx l off) (.pointer (some ⟨b,off,none⟩))) :
  ∀ (s:SV) (v:Value),SR P B pl tb s v->SR P U XU JE (Ct own bx s) v
 |.any,v,h=>by simp[Ct,SR]
 |.val k x,v,h=>by simp only[Ct,SR] at h |-;exact h.mono hle
 |.bid n c,v,h=>by simp only[Ct,SR] at h |-;obtain⟨rfl,_⟩:=h;rfl
 |.grd gs s,v,h=>by simp[Ct,SR]
 |.nilS,v,h=>by simp only[Ct,SR] at h |-;exact h
 |.nilP,v,h=>by simp only[Ct,SR] at h |-;exact h
 |.nilM,v,h=>by simp only[Ct,SR] at h |-;exact h
 |.nilF,v,h=>by simp only[Ct,SR] at h |-;exact h
 |.lst o,v,h=>by
  simp only[Ct];split
  .rename_i ty k xs nl ho;have:view own k (.lst o)=some xs:=by simp[view,ho,NB]
   simp only[SR,KC];exact⟨v,rfl,(DJ hle aB this h).mono (Heap.Le.refl _) λ_ _ e=>e.mono hle⟩
  .simp[SR]
 |.sub o lo n sz,v,h=>by
  simp only[Ct];split
  .rename_i ty k xs nl ho;split
   .rename_i aC;have:view own k (.sub o lo n sz)=some ((xs.drop lo).take n):=by simp[view,ho,NB,aC]
    simp only[SR,KC];exact⟨v,rfl,(DJ hle aB this h).mono (Heap.Le.refl _) λ_ _ e=>e.mono hle⟩
   .simp[SR]
  .simp[SR]
 |.elp o i off sz,v,h=>by simp[Ct,SR]
 |.dd o w,v,h=>by
  simp only[Ct];simp only[SR] at h;split
  .rename_i ty q k xs nl hole ho;have ai:=aB o;rw[ho] at ai;have cZ:=DP.le ai;split
   .split
    .obtain⟨h1,_⟩:=h;simp only[SR,KC];refine⟨v,rfl,?_⟩;rw[h1];exact(DP.sl ai).mono cZ λ_ _ e=>e.mono cZ
    .simp[SR]
   .simp only[SR];exact KC.mono cZ h
   .simp only[SR];exact KC.mono cZ h.1
   .simp[SR]
  .simp[SR]
 |.map o,v,h=>by simp[Ct,SR]
 |.tup l,v,h=>by simp[Ct,SR]
 |.box o off,v,h=>by
  simp only[Ct];split
  .rename_i l _ ho;have ai:=aB o;rw[ho] at ai;obtain⟨i,c,e,t,h1,h2,h3,_⟩:=ai;simp only[SR] at h
   grind
  .simp[SR]
 |.rop k l i off,v,h=>by simp only[Ct];exact SR.mono (tb:=tb) hle (λn c hn=>hn) (.rop k l i off) v h |> λh=>by simp only[SR] at h |-;exact h
 |.cp l off,v,h=>by simp only[Ct,SR] at h |-;obtain⟨b,c,e,wr,t,h1,h2,h3⟩:=h;exact⟨b,c,e,wr,t,hle.2 _ _ h1,h2,XM hle aB ly l c h3⟩
 |.agg l,v,h=>by simp only[Ct,SR] at h |-;obtain⟨cs,h1,h2⟩:=h;exact⟨cs,h1,XM hle aB ly l cs h2⟩
 |.fn f a b,v,h=>by simp only[Ct,SR] at h |-;obtain⟨x,y,h1,h2,h3⟩:=h;exact⟨x,y,h1,XM hle aB ly a x h2,XM hle aB ly b y h3⟩
 |.pf ks r cw p,v,h=>by simp only[Ct,SR] at h |-;exact h.mono hle
theorem XM {bx:List SV->Nat->SV}(hle:B.Le U) (aB:∀ d,OR P B pl tb U (pl d) (Q9 own d))
  (ly:∀ l off b c e t,U.get b=some (.cells c e true t)->SRs P B pl tb l c->SR P U XU JE (bx l off) (.pointer (some ⟨b,off,none⟩))) :
  ∀ (s:List SV) (v:List Value),SRs P B pl tb s v->SRs P U XU JE (LH own bx s) v
 |[],v,h=>by simp only[LH,SRs] at h |-;exact h
 |s::ss,v,h=>by simp only[LH,SRs] at h |-;obtain⟨x,y,h1,h2,h3⟩:=h;exact⟨x,y,h1,Q3t hle aB ly s x h2,XM hle aB ly ss y h3⟩
end
theorem WD (hle:B.Le U) (aB:∀ d,OR P B pl tb U (pl d) (Q9 own d)) {l:List SV}{v:List Value}(h:SRs P B pl tb l v):SRs P U XU JE (Rv own l) v:=by
 have h0:∀ {l v},SRs P B pl tb l v->SRs P U XU JE (J39 own l) v:=λh=>XM hle aB (λ_ _ _ _ _ _ _ _=>by simp[SR]) _ _ h;have h1:∀ {l v},SRs P B pl tb l v->SRs P U XU JE (J4o own l) v:=λh=>XM hle aB (λl off b c e t hg hs=>by
  simp only[SR];grind) _ _ h
 exact XM hle aB (λl off b c e t hg hs=>by
  simp only[SR];grind) _ _ h
mutual
theorem Q6l {p q:Nat->Value}{n:Nat}(h:∀ j,j<n->p j=q j):∀ (s:SV),s.ret n=true->UY p s=UY q s
 |.val _ _,_|.nilS,_|.nilP,_|.nilM,_|.nilF,_=>by simp[UY]
 |.lst j,hr=>by simp only[UY];exact h j (by simpa [SV.ret,zA] using hr)
 |.agg l,hr=>by simp only[UY];rw[Fz h l hr]
 |.tup l,hr=>by simp only[UY];rw[Fz h l hr]
 |.box _ _,_|.map _,_=>by simp[UY]
 |.dd _ _,_=>by simp[UY]
 |.any,h|.bid _ _,h|.grd _ _,h|.sub _ _ _ _,h|.elp _ _ _ _,h|.rop _ _ _ _,h|.cp _ _,h|.fn _ _ _,h|.pf _ _ _ _,h=>by cases h
theorem Fz {p q:Nat->Value}{n:Nat}(h:∀ j,j<n->p j=q j):∀ (s:List SV),SVs.ret n s=true->Vb p s=Vb q s
 |[],_=>rfl
 |s::ss,hr=>by simp only[SVs.ret,z0] at hr;simp only[Vb];rw[Q6l h s hr.1,Fz h ss hr.2]
end
theorem Jm {cs:List (Nat×CSp)}(az:CsOk P cs) {f:SV}{args:List SV}{c:Prop}{v:SV}{bs:List OB}{fV:Value}{vs:List Value}(hf:SR P U XU JE f fV) (ha:SRs P U XU JE args vs)
  (h:UQ cs f args=some (c,v,bs)) (hv:v.ret bs.length=true) (hb:bs.all OB.ret=true) (hc:c):∃ g a b,fV=.func (.func g) a b/\(VCalled P g (a.toList++vs++b.toList) U λu U'=>Ret P U v bs u U') /\
  (bs.all OB.isL=true->UN v=true->VCalled P g (a.toList++vs++b.toList) U λu U'=>u=UY (EM U bs) v/\U'=CR U bs):=by
 have gen:(gap cs 3 f args).map (λx=>(x.1,x.2,([]:List OB)))=some (c,v,bs)->∃ g a b,fV=.func (.func g) a b/\(VCalled P g (a.toList++vs++b.toList) U λu U'=>Ret P U v bs u U') /\
   (bs.all OB.isL=true->UN v=true->VCalled P g (a.toList++vs++b.toList) U λu U'=>u=UY (EM U bs) v/\U'=CR U bs):=λh=>by
  simp only[zi] at h;obtain⟨⟨c',v'⟩,h1,h2⟩:=h;simp only[Prod.mk.injEq] at h2;obtain⟨rfl,rfl,rfl⟩:=h2;obtain⟨h3,g,a,b,rfl,h4⟩:=E1 az 3 U f args c' v' fV vs hf ha h1 hc;refine⟨g,a,b,rfl,h4.mono λu U' hu=>?_,λ_ cU=>h4.mono λu U' hu=>?_⟩
  .obtain⟨rfl,hu⟩:=hu;exact⟨⟨Heap.Le.refl _,Dead.refl _⟩,λ_=>rfl,XU,(λj b hj=>by simp at hj),(λj j' i hj=>by simp at hj),hu⟩
  .obtain⟨rfl,hu⟩:=hu;have hz:CR U' []=U':=(Oq (P:=P) U' (v:=v') (bs:=[]) h3 cU rfl rfl (λb hb=>by cases hb)).2.1 rfl;refine⟨?_,hz.symm⟩;rw[Nu v' u h3 cU hu]
   grind [Q6l]
 cases f with
 |fn g a b =>
  simp only[UQ] at h;split at h
  .rename_i sp df;simp only[SR] at hf;obtain⟨x,y,rfl,h1,h2⟩:=hf;refine⟨g,x.toArray,y.toArray,rfl,?_⟩;simpa using az g sp df (gap cs 3) (E1 az 3) U (a++args++b) (x++vs++y) c v bs ((h1.append ha).append h2) h hv hb hc
  .cases h
 |_=>exact gen h
theorem Gam.q1w {s:St}{env:Env}{U':Heap}(h:Gam P B F pl tb s env U) (hl:U.Le U') {d:Nat}(af:(Q9 s.own d).live=true) {i:Nat}(hi:Oid (pl d) i):U'.get i=U.get i:=by
  have aj:=(h.obj d).q0r af hi;cases hb:U.get i with
  |none =>
   have ai:=h.obj d;cases ho:Q9 s.own d with
   |dead=>rw[ho] at af;cases af
   |lst ty k xs nl =>
    rw[ho] at ai;rcases ai with⟨_,_,h2⟩|⟨_,i',cap,c,t,h2,_,h3,_⟩
    .rw[h2] at hi;cases hi
    .rw[h2] at hi;obtain rfl:=osj hi;rw[h3] at hb;cases hb
   |cells l u=>rw[ho] at ai;obtain⟨i',c,e,t,h2,h3,_⟩:=ai;rw[h2] at hi;obtain rfl:=osj hi;rw[h3] at hb;cases hb
   |mapE kk vk m key n=>rw[ho] at ai;obtain⟨i',es,cl,r,e,h2,h3,_⟩:=ai;rw[h2] at hi;obtain rfl:=osj hi;rw[h3] at hb;cases hb
   |map kk vk m=>rw[ho] at ai;obtain⟨i',es,cl,h2,h3,_⟩:=ai;rw[h2] at hi;obtain rfl:=osj hi;rw[h3] at hb;cases hb
   |fm ik l=>rw[ho] at ai;obtain⟨i',es,cl,h2,h3,_⟩:=ai;rw[h2] at hi;obtain rfl:=osj hi;rw[h3] at hb;cases hb
   |stk l vals=>rw[ho] at af;cases af
   |lpf l q s=>rw[ho] at ai af;obtain⟨h2,_,h3⟩:=ai;rw[h2] at hi;obtain rfl:=osj hi;have h3:=h3 af;rw[hb] at h3;cases h3
   |iter kk vk m dn=>rw[ho] at ai;obtain⟨j',i',es,cl,wr,seen,h2,h3,_⟩:=ai;rw[h2] at hi;obtain rfl:=osj hi;rw[h3] at hb;cases hb
   |siter l pos=>rw[ho] at ai;obtain⟨j',s',h2,h3,_⟩:=ai;rw[h2] at hi;obtain rfl:=osj hi;rw[h3] at hb;cases hb
   |rmap kk vk m=>rw[ho] at af;cases af
   |deep ty q k xs nl hh =>rw[ho] at ai;obtain⟨is,_,d2,d3,_⟩:=DP.open ai;obtain⟨c,e,t,h⟩:=d2.cells i ((d3 i).1 hi);rw[h] at hb;cases hb
  |some b=>rw[hl.2 i b hb]
theorem Gam.heap {s:St}{env:Env}{U':Heap}(h:Gam P B F pl tb s env U) (hl:U.Le U'):Gam P B F pl tb s env U' :=
 ⟨h.bf,h.le.trans hl,h.env,λd=>(h.obj d).mono (Heap.Le.refl _) (λ_ _ h=>h) λaf _i hi=>h.q1w hl af hi,h.fresh,h.sep,h.free⟩
theorem Ls {env:Env}{σ0:Heap}{d nt:Nat}(ek:0<nt) (fW:Nat->Value) (bs:List OB) (hB:F.Le σ0)
  (ai:∀ j b,bs[j]?=some b->b.ret=true/\OR P hNil fW JE U (fW j) b/\∀ i,Oid (fW j) i->σ0.n<=i)
  (eE:∀ j j' i,j<bs.length->j'<bs.length->j≠j'->Oid (fW j) i->Oid (fW j') i->False) :
  ∀ (r:List OB) (j:Nat) (pl:Nat->Value) (s:St),bs.drop j=r->Gam P B F pl tb s env U->(∀ k i,(Q9 s.own k).live=true->Oid (pl k) i->i<σ0.n\/∃ j'<j,j'<bs.length/\Oid (fW j') i/\k=d+j'*nt)->(∀ j'<j,j'<bs.length->pl (d+j'*nt)=fW j') ->
   ∃ pl',Gam P B F pl' tb (s.makes d nt j r) env U/\(∀ j'<bs.length,pl' (d+j'*nt)=fW j')/\∀ q,(∀ j'<bs.length,q≠d+j'*nt)->pl' q=pl q/\(Q9 (s.makes d nt j r).own q).live=(Q9 s.own q).live
 |[],j,pl,s,hr,hG,_,hp=>⟨pl,hG,λj' bF=>hp j' (by
   have:=congrArg List.length hr;simp at this;omega) bF,λq _=>⟨rfl,rfl⟩⟩
 |b::r,j,pl,s,hr,hG,hinv,hp=>by
  have cM:j<bs.length:=by
   grind [Nat.lt_or_ge,List.drop_eq_nil_of_le]
  have bY:bs[j]?=some b:=by
   have:(bs.drop j)[0]?=some b:=by rw[hr];rfl
   simpa using this
  have iq:bs.drop (j+1)=r:=by
   have:(bs.drop j).drop 1=r:=by rw[hr];rfl
   simpa [List.drop_drop,w5] using this
  obtain⟨h1,h2,h3⟩:=ai j b bY;have aL:∀ j' ,j'≠j->d+j'*nt≠d+j*nt:=(by grind [Nat.eq_of_mul_eq_mul_right]);obtain⟨pl',k1,k2,k3⟩:∃ pl',Gam P B F pl' tb ((s.make (d+j*nt) b).makes d nt (j+1) r) env U/\(∀ j'<bs.length,pl' (d+j'*nt)=fW j')/\∀ q,(∀ j'<bs.length,q≠d+j'*nt)->pl' q=ZR pl (d+j*nt) (fW j) q/\(Q9 ((s.make (d+j*nt) b).makes d nt (j+1) r).own q).live=(Q9 (s.make (d+j*nt) b).own q).live:=by
   refine Ls ek fW bs hB ai eE r (j+1) (ZR pl (d+j*nt) (fW j)) _ iq (hG.make (d+j*nt) b (fW j) hG.le (λ_ _ _ _ _=>rfl) (h2.retd h1 λ_ _=>rfl) λi _ hi=>⟨F.wf _ (by have:=h3 i hi;have:=hB.1;omega),λk hk hl e=>?_⟩) (λk i hl hi=>?_) λj' bF qG=>?_
   .grind
   .by_cases hk:k=d+j*nt
    .subst hk;simp only[ZR,zt] at hi
     grind
    .have bN:(Q9 s.own k).live=true:=by
      simp only[St.make,St.kill,Qa,Vl,z7 hk] at hl
      rwa [OB.q0o] at hl
     simp only[ZR,z7 hk] at hi
     grind
   .by_cases e:j'=j
    .subst e;simp[ZR]
    .simp only[ZR,z7 (aL j' e)];exact hp j' (by omega) qG
  refine⟨pl',k1,k2,λq hq=>?_⟩;obtain⟨e1,e2⟩:=k3 q hq;refine⟨by rw[e1];simp[ZR,hq j cM],?_⟩;show (Q9 ((s.make (d+j*nt) b).makes d nt (j+1) r).own q).live=_;rw[e2];simp only[St.make,St.kill,Qa,Vl,z7 (hq j cM),OB.q0o]
theorem Ret.gamF {s:St}{env:Env}{d nt:Nat}(ek:0<nt) (hG:Gam P B F pl tb s env U) {v:SV}{bs:List OB}{u:Value}{U':Heap}(hv:v.ret bs.length=true) (hb:bs.all OB.ret=true) (h:Ret P U v bs u U') :
  ∃ pl',Gam P B F pl' tb (s.makes d nt 0 bs) env U'/\SR P B pl' tb (v.ren d nt) u/\∀ q,(∀ j'<bs.length,q≠d+j'*nt)->(Q9 (s.makes d nt 0 bs).own q).live=(Q9 s.own q).live/\pl' q=pl q/\((Q9 s.own q).live=true->∀ i,Oid (pl q) i->U'.get i=U.get i):=by
 obtain⟨⟨h1,_⟩,_,fW,h2,h3,h4⟩:=h
 obtain⟨pl',h5,h6,h7⟩:=Ls (tb:=tb) (d:=d) ek fW bs hG.le (by grind) h3 bs 0 pl s rfl (hG.heap h1)
  (λk i hl hi=>.inl ((hG.obj k).q0r hl hi)) (λj' bF=>by omega)
 exact⟨pl',h5,SR.ren (tb:=JE) (λj hj=>h6 j hj) _ _ hv (SR.mono (tb:=JE) (tb':=JE) (Q25 B) (λ_ _ h=>h) _ _ h4),λq hq=>⟨(h7 q hq).2,(h7 q hq).1,λhl i hi=>hG.q1w h1 hl hi⟩⟩
theorem Ret.gam {s:St}{env:Env}{d nt:Nat}(ek:0<nt) (hG:Gam P B F pl tb s env U) {v:SV}{bs:List OB}{u:Value}{U':Heap}(hv:v.ret bs.length=true) (hb:bs.all OB.ret=true) (h:Ret P U v bs u U') :
  ∃ pl',Gam P B F pl' tb (s.makes d nt 0 bs) env U'/\SR P B pl' tb (v.ren d nt) u:=by
 obtain⟨pl',h1,h2,_⟩:=h.gamF ek hG hv hb;exact⟨pl',h1,h2⟩
end
end Go.V
namespace Go.V
open Go
section
variable {P:Program}
structure GBase (B0 F0 D0 B F U:Heap):Prop where
 b:B0.Le B
 f:F0.Le F
 x:∀ i b,F0.get i=some b->B0.get i=none->B.get i=none
 d:Dead D0 U
theorem GBase.of {B F U:Heap}{U':Heap}(_hB:B.Le F) (h:Dead U U'):GBase B F U B F U':=⟨.refl _,.refl _,λ_ _ _ h=>h,h⟩
theorem GBase.trans {B0 F0 D0 B F U B' F' U':Heap}(h:GBase B0 F0 D0 B F U) (h':GBase B F U B' F' U'):GBase B0 F0 D0 B' F' U' :=
 ⟨h.b.trans h'.b,h.f.trans h'.f,λi b h1 h2=>h'.x i b (h.f.2 _ _ h1) (h.x i b h1 h2),h.d.trans h'.d⟩
def GRel (P:Program) (B0 F0 D0:Heap) (s:St) (env:Env) (U:Heap):Prop:=∃ B F pl tb,GBase B0 F0 D0 B F U/\Gam P B F pl tb s env U
theorem D5 {B0 F0 D0 B F:Heap}{U U':Heap}(hB:GBase B0 F0 D0 B F U) (h:Dead U U'):GBase B0 F0 D0 B F U':=⟨hB.b,hB.f,hB.x,hB.d.trans h⟩
theorem Gam.evs {B F:Heap}{pl:Nat->Value}{tb:Nat->Option Bool}{s:St}{env:Env}{U:Heap}(h:Gam P B F pl tb s env U) {gs:List Gd}(hg:Gds tb gs) (x:Operand):SR P B pl tb (gev gs s.env x) (Q5 env x):=Q6q hg h.env x
theorem Gds.nil {tb:Nat->Option Bool}:Gds tb []:=λ_ h=>by cases h
theorem Q5b {gs:List Gd}{c:Prop}(h:Z23 gs c) (hg:∀ g∈gs,g.c=g.want):c:=by
 induction gs with
 |nil=>exact h
 |cons g gs ih=>exact ih (h (hg g (by simp))) λg' de=>hg g' (by simp[de])
theorem ZX {gs:List Gd}{cs:List Prop}{q:Prop}(h:E0 gs cs q):q/\((∀ g∈gs,g.c=g.want)->∀ c∈cs,c):=by
 induction cs with
 |nil=>exact⟨h,λ_ c hc=>by cases hc⟩
 |cons c cs ih =>obtain⟨h1,h2⟩:=h;obtain⟨h3,h4⟩:=ih h2;exact⟨h3,(by grind [Q5b])⟩
theorem Dead.push (U:Heap) (b:Blk):Dead U (U.push b):=⟨by simp,(by grind [Heap.q0i])⟩
theorem Dead.upd (U:Heap) (j:Nat) (b:Blk) (hj:(U.get j).isSome=true):Dead U (U.upd j b):=⟨by simp,(by grind [Heap.q0b])⟩
theorem Dead.kill (U:Heap) (j:Nat):Dead U (U.kill j):=⟨by simp,(by grind [Heap.q0g,Heap.q0d])⟩
theorem IS {e:El}{bytes m:Nat}{U U':Heap}{s u:Value}{xs:List Value}(h:Wc e bytes U s m xs=some (u,U')):Dead U U':=by
 unfold Wc at h;split at h
 .grind [Jf,Dead.refl,Dead.push]
 .split at h
  .rename_i hg;split at h
   .split at h
    .grind [Jf,Dead.refl]
    .split at h
     .grind [Jf,Dead.upd]
     .split at h
      .split at h
       .grind [Jf,Dead.push]
       .split at h
        .obtain⟨rfl,rfl⟩:=Jf h;exact(Dead.kill _ _).trans (Dead.push _ _)
        .cases h
      .cases h
   .cases h
  .cases h
 .grind [Jf,Dead.push]
 .cases h
theorem VM {o:VOp}{ev:Operand->Value}{U U':Heap}{u:Value}(h:Q8 o ev U=some (u,U')):Dead U U':=by
 by_cases hk:o.kind=2
 .cases o<;>first|(cases hk;done)|skip
  case alloc t z=>obtain⟨rfl,rfl⟩:=Jf h;exact Dead.push _ _
  case box t x =>
   simp only[Q8] at h
   grind [Jf,Dead.push]
  case buildSlice e z n ps =>
   simp only[Q8] at h
   grind [Jf,Dead.push]
  case makeSlice e b z l c =>
   simp only[Q8] at h
   grind [Jf,Dead.push]
  case store size a x =>
   simp only[Q8] at h
   grind [Jf,Dead.upd]
  case append e b x y =>
   simp only[Q8] at h
   grind [IS]
  case slice size x lo hi mx =>
   simp only[Q8] at h;split at h
   .have sl:∀ {l hh:Nat}{m:Option Nat}{v:Value},YK size U v l hh m=some (u,U')->Dead U U':=λ{l hh m v} h=>by
     unfold YK at h
     grind [Jf,Dead.refl,Dead.push]
    grind
   .cases h
  case callF f a=>cases h
  case callV f a=>cases h
  case ext x =>
   cases x<;>first|(cases hk;done)|skip
   case makeMap=>obtain⟨rfl,rfl⟩:=Jf h;exact Dead.push _ _
   case rangeStr x =>
    simp only[Q8,J5] at h;split at h
    .obtain⟨rfl,rfl⟩:=Jf h;exact Dead.push _ _
    .cases h
   case nextStr x =>
    simp only[Q8,J5] at h;split at h
    .split at h
     .rename_i hm;split at h
      .split at h
       .obtain⟨rfl,rfl⟩:=Jf h;exact Dead.upd _ _ _ (by rw[hm];rfl)
       .cases h
      .obtain⟨rfl,rfl⟩:=Jf h;exact Dead.refl _
     .cases h
    .cases h
   case mapUpdate mk m k v =>
    simp only[Q8,J5] at h;split at h
    .split at h
     .rename_i hm;split at h
      .obtain⟨rfl,rfl⟩:=Jf h;refine Dead.upd _ _ _ ?_;unfold Heap.mapAt at hm
       grind
      .cases h
     .cases h
    .cases h
   case mapEntry mk z m k =>
    simp only[Q8,J5] at h;split at h
    .split at h
     .rename_i hm;split at h
      .split at h
       all_goals
        obtain⟨rfl,rfl⟩:=Jf h;refine Dead.upd _ _ _ ?_;unfold Heap.mapAt at hm;split at hm
        .rename_i hg;rw[hg];rfl
        .cases hm
      .cases h
     .cases h
    .cases h
   case entryStore m s v =>
    simp only[Q8,J5] at h;split at h
    .split at h
     .rename_i hm;split at h
      .split at h
       .obtain⟨rfl,rfl⟩:=Jf h;refine Dead.upd _ _ _ ?_;unfold Heap.mapAt at hm
        grind
       .cases h
      .cases h
     .cases h
    .cases h
   case delete mk m k =>
    simp only[Q8,J5] at h;split at h
    .split at h
     .rename_i hm;split at h
      .obtain⟨rfl,rfl⟩:=Jf h;refine Dead.upd _ _ _ ?_;unfold Heap.mapAt at hm
       grind
      .cases h
     .cases h
    .cases h
   case rangeMap x =>
    simp only[Q8,J5] at h
    grind [Jf,Dead.push]
   case nextMap x=>cases h
   case copy size a b =>
    simp only[Q8,J5] at h
    grind [Jf,Dead.refl,Dead.upd]
   case clear z x =>
    simp only[Q8,J5] at h
    grind [Jf,Dead.refl,Dead.upd]
   case strBytes e x =>
    simp only[Q8,J5] at h
    grind [Jf,Dead.push]
   case unsafeStr e x n =>
    simp only[Q8,J5] at h;split at h
    .grind [Jf,Dead.refl,Dead.upd]
    .cases h
 grind [HZ,Dead.refl]
theorem D4 {B F:Heap}{pl:Nat->Value}{tb:Nat->Option Bool}{s:St}{env:Env}{U:Heap}(hG:Gam P B F pl tb s env U) {x:Operand}{b:Bool}(h:O4 s.env x=some b):Q5 env x=.bool b:=by
 unfold O4 at h;split at h
 .rename_i j;split at h
  .rename_i gs v he;split at h
   .split at h
    .rename_i k y;split at h
     .obtain rfl:=osj h;have:=hG.env.getD j undef;rw[he] at this;simp only[SR] at this;have h2:=this.2.1 (λg hg=>by cases hg);have h3:[env.getD j undef]=[Value.bool _]:=h2;exact(zR h3).1
     .cases h
    .cases h
   .cases h
  .cases h
 .cases h
theorem Vt {B F:Heap}{pl:Nat->Value}{tb:Nat->Option Bool}{s:St}{env:Env}{U:Heap}(hG:Gam P B F pl tb s env U) {g:Option (Nat×Bool)}{t:Bool}(h:Q6o s.env g=some t):JD env g=some t:=by
 unfold Q6o at h;split at h
 .cases h
 .rename_i j want;split at h
  .rename_i b hb;obtain rfl:=osj h;have:=D4 hG hb;simp only[Q5] at this;simp only[JD,this]
  .cases h
theorem NY {B F:Heap}{pl:Nat->Value}{tb:Nat->Option Bool}{s:St}{env:Env}{U:Heap}(hG:Gam P B F pl tb s env U) {gs:List Gd}(hg:Gds tb gs) {c a b:Operand}{v:SV}(h:Q5d gs s.env c a b=some v) :
  ∃ u,Q8 (.pick c a b) (Q5 env) U=some (u,U)/\SR P B pl tb v u:=by
 unfold Q5d at h;split at h
 .rename_i t ht;have e:=D4 hG ht;obtain rfl:=osj h;cases t with
  |true=>exact⟨Q5 env a,by simp only[Q8,e];rfl,hG.evs hg a⟩
  |false=>exact⟨Q5 env b,by simp only[Q8,e];rfl,hG.evs hg b⟩
 have hc:=hG.evs hg c;unfold Z3g at h;split at h
 .rename_i n t heq;rw[heq] at hc;simp only[SR] at hc;obtain⟨e,dm⟩:=hc;have ht:∀ w,t=w->Gds tb (gs++[⟨n,w,t⟩]):=λw hw g de=>by
   rcases xd.1 de with h1|h1
   .exact hg g h1
   simp_all
  have hv:∀ u,(if t then Q5 env a else Q5 env b)=u->Q8 (.pick c a b) (Q5 env) U=some (u,U):=λu hu=>by simp only[Q8,e];rw[<-hu]
  split at h
  .rename_i b';simp only[zi] at h;obtain⟨y,h1,rfl⟩:=h;refine⟨.bool (t||y),hv _ ?_,Vq _⟩;cases t with
   |true=>rfl
   |false=>simpa using K4 h1 (hG.evs (ht false rfl) _)
  .rename_i a' aG;simp only[zi] at h;obtain⟨x,h1,rfl⟩:=h;refine⟨.bool (t&&x),hv _ ?_,Vq _⟩;cases t with
   |true=>simpa using K4 h1 (hG.evs (ht true rfl) _)
   |false=>rfl
  .split at h
   .rename_i k x k' y h1 h2;split at h
    .rename_i hk;subst hk;obtain rfl:=osj h;refine⟨.int k (if t then x else y),hv _ ?_,Kx _ _⟩;cases t with
     |true=>have:=hG.evs (ht true rfl) a;rw[h1] at this;exact Jt rfl this
     |false=>have:=hG.evs (ht false rfl) b;rw[h2] at this;exact Jt rfl this
    .cases h
   .rename_i x y h1 h2;obtain rfl:=osj h;refine⟨.bool (if t then x else y),hv _ ?_,Vq _⟩;cases t with
    |true=>have:=hG.evs (ht true rfl) a;rw[h1] at this;exact K4 rfl this
    |false=>have:=hG.evs (ht false rfl) b;rw[h2] at this;exact K4 rfl this
   .cases h
 .cases h
theorem Gam.bid {B F:Heap}{pl:Nat->Value}{tb:Nat->Option Bool}{s:St}{env:Env}{U:Heap}(hG:Gam P B F pl tb s env U) {j:Nat}{v:SV}{c:Bool}(hv:∀ tb',(∀ n c,tb n=some c->tb' n=some c)->tb' s.nx=some c->SR P B pl tb' v (env.getD j undef)) :
  ∃ tb',(∀ n c,tb n=some c->tb' n=some c)/\tb' s.nx=some c/\Gam P B F pl tb' ⟨s.env.set j v,s.own,s.nx+1⟩ env U:=by
 refine⟨λn=>if n=s.nx then some c else tb n,?_,by simp,?_⟩
 .intro n c' hn;by_cases e:n=s.nx
  .rw[e,hG.free _ (z9 _)] at hn;cases hn
  .simp only[z7 e];exact hn
 .have hm:∀ n c',tb n=some c'->(λn=>if n=s.nx then some c else tb n) n=some c':=λn c' hn=>by
   by_cases e:n=s.nx
   .rw[e,hG.free _ (z9 _)] at hn;cases hn
   .simp only[z7 e];exact hn
  refine⟨hG.bf,hG.le,?_,λd=>(hG.obj d).mono (Heap.Le.refl _) hm λ_ _ _=>rfl,hG.fresh,hG.sep,λn hn=>?_⟩
  .have h1:=SRs.mono (Heap.Le.refl B) hm _ _ hG.env;by_cases hj:j<env.length
   .have:=h1.set j (hv _ hm (by simp));simp_all
   .have:s.env.set j v=s.env:=List.set_eq_of_length_le (by rw[hG.env.length];omega);rw[this];exact h1
  .have:n≠s.nx:=by simp only at hn;omega
   simp only[z7 this];exact hG.free n (by simp only at hn;omega)
theorem Q6p {gs:List Gd}(h:¬ ∀ g∈gs,g.c=g.want):∃ g∈gs,g.c≠g.want:=by simp_all
theorem WU {B F:Heap}{pl:Nat->Value}{tb:Nat->Option Bool}{s:St}{env:Env}{U:Heap}(hG:Gam P B F pl tb s env U) {j:Nat}{want:Bool}{gs:List Gd}{s':St}(h:TX s j want=some (gs,s')) :
  ∃ tb',Gam P B F pl tb' s' env U/\(∀ g∈gs,tb' g.id=some g.c)/\∃ b,JD env (some (j,want))=some b/\(b=true->∀ g∈gs,g.c=g.want)/\(b=false->∃ g∈gs,g.c≠g.want):=by
 have hj:=hG.env.getD j undef;unfold TX at h;split at h
 .rename_i c heq;obtain⟨rfl,rfl⟩:=Jf h;rw[heq] at hj;have hb:env.getD j undef=.bool c:=K4 (s:=.val .bo c) rfl hj;obtain⟨tb',h1,h2,h3⟩:=hG.bid (j:=j) (v:=.bid s.nx c) (c:=c) λtb' _ h=>by simp only[SR];exact⟨hb,h⟩
  refine⟨tb',h3,(by simp_all),c==want,by simp only[JD,hb],λe g hg=>?_,λe=>⟨_,zK.2 rfl,?_⟩⟩
  .simp_all
  .simpa using e
 .rename_i n c heq;obtain⟨rfl,rfl⟩:=Jf h;rw[heq] at hj;simp only[SR] at hj;refine⟨tb,hG,(by simp_all),c==want,by simp only[JD,hj.1],λe g hg=>?_,λe=>⟨_,zK.2 rfl,?_⟩⟩
  .simp_all
  .simpa using e
 .rename_i pn c heq;obtain⟨rfl,rfl⟩:=Jf h;rw[heq] at hj;simp only[SR] at hj;obtain⟨⟨k1,k0⟩,k2,k3⟩:=hj;obtain⟨tb',h1,h2,h3⟩:=hG.bid (j:=j) (v:=.grd pn (.bid s.nx c)) (c:=c) λtb' hm h=>by
   simp only[SR];exact⟨⟨λg hg=>hm _ _ (k1 g hg),h⟩,λhall=>⟨K4 (s:=.val .bo c) (P:=P) (B:=B) (pl:=pl) (tb:=tb) rfl (by simpa only [SR] using k2 hall),h⟩,k3⟩
  refine⟨tb',h3,λg hg=>?_,?_⟩
  .grind
  .by_cases hall:∀ g∈pn,g.c=g.want
   .have hb:env.getD j undef=.bool c:=K4 (s:=.val .bo c) (P:=P) (B:=B) (pl:=pl) (tb:=tb) rfl (by simpa only [SR] using k2 hall);refine⟨c==want,by simp only[JD,hb],λe g hg=>?_,(by simp_all)⟩
    grind
   .have hex:=Q6p hall;refine⟨false,by simp only[JD,k3 hex];rfl,(λe=>by cases e),λ_=>?_⟩;simp_all
 .rename_i pn n c heq;obtain⟨rfl,rfl⟩:=Jf h;rw[heq] at hj;simp only[SR] at hj;obtain⟨⟨k1,k0⟩,k2,k3⟩:=hj;refine⟨tb,hG,λg hg=>?_,?_⟩
  .rcases xd.1 hg with h4|h4
   .exact k1 g h4
   .obtain rfl:=zK.1 h4;exact k0
  .by_cases hall:∀ g∈pn,g.c=g.want
   .obtain⟨hb,dm⟩:=k2 hall;refine⟨c==want,by simp only[JD,hb],λe g hg=>?_,(by simp_all)⟩
    grind
   .have hex:=Q6p hall;refine⟨false,by simp only[JD,k3 hex];rfl,(λe=>by cases e),λ_=>?_⟩;simp_all
 .cases h
theorem Gam.gcall {B F:Heap}{pl:Nat->Value}{tb:Nat->Option Bool}{s:St}{env:Env}{U:Heap}(hG:Gam P B F pl tb s env U) {gs:List Gd}(hg:Gds tb gs) (args:List Operand):SRs P U XU JE (Rv s.own (args.map (gev gs s.env))) (args.map (Q5 env)) :=
 WD hG.leB hG.obj (SRs.map λx _=>hG.evs hg x)
theorem Gam.gfun {B F:Heap}{pl:Nat->Value}{tb:Nat->Option Bool}{s:St}{env:Env}{U:Heap}(hG:Gam P B F pl tb s env U) {gs:List Gd}(hg:Gds tb gs) (f:Operand):SR P U XU JE ((Rv s.own [gev gs s.env f]).getD 0 .any) (Q5 env f):=by have:=(WD hG.leB hG.obj (show SRs P B pl tb [gev gs s.env f] [Q5 env f] by simp only[SRs];exact⟨_,[],rfl,hG.evs hg f,rfl⟩)).getD 0 poison;simpa using this
theorem DC {env:Env}{f:Operand}{args:List Operand}{U:Heap}{K:Value->Heap->Prop}{g:FuncId}{a b:Array Value}(e:Q5 env f=.func (.func g) a b) (h:VCalled P g (a.toList++args.map (Q5 env)++b.toList) U K) :
  vop (Q4 P) (.callV f args) env U K:=by
 simp only[vop,e];exact h
def XOk (P:Program) (f:Nat) (x:XSp):Prop :=
 ∀ (B F:Heap) (pl:Nat->Value) (tb:Nat->Option Bool) (s:St) (env:Env) (U:Heap) (d:Nat) (args:List SV) (vs:List Value) (K:SV->St->Prop) (R:Value->Heap->Prop),
  Gam P B F pl tb s env U->SRs P B pl tb args vs->x d args s K ->
  (∀ v s' B' F' pl' tb' u U',K v s'->GBase B F U B' F' U'->Gam P B' F' pl' tb' s' env U'->SR P B' pl' tb' v u->R u U')->VCalled P f vs U R
def J3t (P:Program) (f:Nat) (x:XSp) (j:Nat):Prop :=
 ∀ (B F:Heap) (pl:Nat->Value) (tb:Nat->Option Bool) (s:St) (env:Env) (U:Heap) (d:Nat) (args:List SV) (vs:List Value) (K:SV->St->Prop) (R:Value->Heap->Prop) (t:Nat),
  Gam P B F pl tb s env U->SRs P B pl tb args vs->Z1x s.own j args=some t->x d args s K ->
  (∀ v s' u U',K v s'->Dead U U'->Gam P B F pl tb s' env U'->SR P B pl tb v u->FrL [t] s s' pl pl U U'->R u U')->VCalled P f vs U R
def J2y (P:Program) (f:Nat) (it:ISp):Prop:=Wf P f /\
 ∀ (B:Heap) (args:List SV) (vs:List Value) (c:Prop) (m ar:Nat) (xs:Nat->List SV),SRs P B XU JE args vs->it args=some (c,m,ar,xs)->c ->
  (∀ k,(xs k).length=ar/\SVs.pure (xs k)=true)/\∀ (i:Nat) (Y:CD) (J:Nat->Heap->Prop) (E:Heap->Prop) (τ0:Heap),UR P i Y->(∀ k Z,J k Z->B.Le Z) ->
   (∀ k us Z,k<m->J k Z->SRs P B XU JE (xs k) us->Y us Z λv Z'=>(v=.bool true/\J (k+1) Z')\/(v=.bool false/\E Z')) ->
   J 0 τ0->VCallsTo P f (.func (.yield i) #[] #[]::vs) τ0 λ_ Z=>J m Z\/E Z
def Q9e (P:Program) (o:Nat) (y:YSp):Prop :=
 ∀ (B F:Heap) (pl:Nat->Value) (tb:Nat->Option Bool) (s:St) (env:Env) (U:Heap) (args:List SV) (us:List Value) (K:SV->St->Prop) (R:Value->Heap->Prop) (i:Nat),
  Gam P B F pl tb s env U->SRs P B pl tb args us->y args s K->pl o=.pointer (some ⟨i,0,none⟩) ->
  (∀ v s' B' F' pl' tb' u U',K v s'->GBase B F U B' F' U'->Gam P B' F' pl' tb' s' env U'->SR P B' pl' tb' v u->R u U')->SN P i us U R
def Z5c (P:Program) (f:Nat) (x:Z5b):Prop:=Wf P f /\
 ∀ (B F:Heap) (pl:Nat->Value) (tb:Nat->Option Bool) (s:St) (env:Env) (U:Heap) (o:Nat) (args:List SV) (vs:List Value) (y:YSp) (K:St->Prop) (R:Heap->Prop),
  Gam P B F pl tb s env U->SRs P B pl tb args vs->Q9e P o y->x o args (o,y) s K ->
  (∀ s' B' F' pl' tb' ae U',K s'->GBase B F U B' F' U'->Gam P B' F' pl' tb' s' ae U'->R U')->VCallsTo P f vs U λ_=>R
structure COk (P:Program) (C:Cx):Prop where
 cs:CsOk P C.cs
 xs:∀ f x,QF C.xs f=some x->XOk P f x
 it:∀ f x,QF C.it f=some x->J2y P f x
 yl:∀ o y,QF C.yl o=some y->Q9e P o y
 iy:∀ f x,QF C.iy f=some x->Z5c P f x
 xf:∀ f j,QF C.xf f=some j->∀ x,QF C.xs f=some x->J3t P f x j
theorem Cr {C:Cx}(az:CsOk P C.cs) {B F:Heap}{pl:Nat->Value}{tb:Nat->Option Bool}{s:St}{env:Env}{U:Heap}(hG:Gam P B F pl tb s env U) {gs:List Gd}(hg:Gds tb gs) {raw:Bool}{o:VOp}{cs:List Prop}{v:SV}
  (h:gqc C raw o (gev gs s.env) s.own=some (cs,v)) (hc:∀ c∈cs,c) {K:Value->Heap->Prop}(hK:∀ u,SR P B pl tb v u->K u U):vop (Q4 P) o env U K:=by
 have flat:∀ {c:Prop}{v':SV},(bif v'.ret 0 then some ([c],v') else none)=some (cs,v)->v'.ret 0=true/\c/\v'=v:=λ{c v'} h=>by
  cases hv:v'.ret 0 with
  |false=>rw[hv] at h;cases h
  |true =>rw[hv] at h;obtain⟨rfl,rfl⟩:=Jf h;exact⟨rfl,hc _ (by simp),rfl⟩
 have quiet:∀ o,gq C.kt raw o (gev gs s.env) s.own=some (cs,v)->(∀ K,Zm (Q8 o (Q5 env) U) (λp=>K p.1 p.2)->vop (Q4 P) o env U K)->vop (Q4 P) o env U K:=λo h hv=>by obtain⟨u,h1,h2⟩:=FN (hG.evs hg) (λ_=>rfl) hG.leB hG.obj h hc;exact hv K (by rw[h1];exact hK u h2)
 cases o
 case callF f args =>
  simp only[gqc] at h;split at h
  .rename_i c v' heq;obtain⟨h1,h2,rfl⟩:=flat h;obtain⟨g,a,b,h3,h4,_⟩:=Jm az (show SR P U XU JE (.fn f [] []) (.func (.func f) #[] #[]) by simp only[SR,SRs];exact⟨[],[],rfl,rfl,rfl⟩) (hG.gcall hg args) heq h1 rfl h2;obtain⟨rfl,rfl,rfl⟩:=(by simpa using h3:f=g/\#[]=a/\#[]=b);have:=h4.mono (R':=K) λu U' hr=>by
    obtain⟨rfl,hu⟩:=hr.flat h1;exact hK u (hu.retd (λj hj=>by omega) _ _ h1)
   show VCalled P f (args.map (Q5 env)) U K;simpa using this
  .cases h
 case callV f args =>
  simp only[gqc] at h;split at h
  .rename_i c v' heq;obtain⟨h1,h2,rfl⟩:=flat h;obtain⟨g,a,b,h3,h4,_⟩:=Jm az (hG.gfun hg f) (hG.gcall hg args) heq h1 rfl h2;exact DC h3 (h4.mono λu U' hr=>by
    obtain⟨rfl,hu⟩:=hr.flat h1;exact hK u (hu.retd (λj hj=>by omega) _ _ h1))
  .cases h
 case ext x =>
  cases x
  case nextMap x=>cases h
  all_goals exact quiet _ h λ_ h=>h
 all_goals exact quiet _ h λ_ h=>h
end
end Go.V
namespace Go.V
open Go
section
variable {P:Program}
mutual
theorem Q38:∀ (v:SV) {K:SV->Prop},nmV v K->K v
 |.val k x,K,h=>by simp only[nmV] at h;exact h x rfl
 |.agg l,K,h=>by simp only[nmV] at h;exact LI l h
 |.tup l,K,h=>by simp only[nmV] at h;exact LI l h
 |.any,_,h|.dd _ _,_,h|.bid _ _,_,h|.grd _ _,_,h|.nilS,_,h|.nilP,_,h|.nilM,_,h|.nilF,_,h|.lst _,_,h|.sub _ _ _ _,_,h|.elp _ _ _ _,_,h|.rop _ _ _ _,_,h|.box _ _,_,h|.cp _ _,_,h|.map _,_,h|.fn _ _ _,_,h|.pf _ _ _ _,_,h=>by simp only[nmV] at h;exact h
theorem LI:∀ (l:List SV) {K:List SV->Prop},Z5n l K->K l
 |[],K,h=>by simp only[Z5n] at h;exact h
 |v::r,K,h=>by simp only[Z5n] at h;exact LI r (Q38 v h)
end
theorem ZQ {C:Cx}{o:VOp}{ev:Operand->SV}{v:SV}{K:SV->Prop}(h:gnm C o ev v K):K v:=by
 unfold gnm at h
 grind [Q38]
theorem Si {B:Heap}{pl:Nat->Value}{tb:Nat->Option Bool}{v:SV}{u:Value}(h:SR P B pl tb v u):SR P B pl tb (P2 v) u/\gtb tb (P2 v):=by
 cases v with
 |bid n c=>simp only[SR] at h;obtain⟨rfl,_⟩:=h;exact⟨Vq _,trivial⟩
 |_=>exact⟨h,trivial⟩
theorem S7 {tb:Nat->Option Bool}(v:SV):gtb tb (P2 v):=by cases v<;>trivial
theorem R2 {C:Cx}(az:COk P C) {B F:Heap}{pl:Nat->Value}{tb:Nat->Option Bool}{s:St}{env:Env}{U:Heap}(hG:Gam P B F pl tb s env U) {d:Nat}{f:SV}{args:List SV}{fV:Value}{vs:List Value}(hf:SR P B pl tb f fV) (ha:SRs P B pl tb args vs) {K:SV->St->Prop}(h:Q3b C d f args s K) {R:Value->Heap->Prop}
  (hK:∀ v s' B' F' pl' tb' u U',K v s'->GBase B F U B' F' U'->Gam P B' F' pl' tb' s' env U'->SR P B' pl' tb' v u->R u U'):∃ g a b,fV=.func (.func g) a b/\VCalled P g (a.toList++vs++b.toList) U R:=by
 unfold Q3b at h;have qp:SR P U XU JE ((Rv s.own [f]).getD 0 .any) fV:=by have:=(WD hG.leB hG.obj (show SRs P B pl tb [f] [fV] by simp only[SRs];exact⟨_,[],rfl,hf,rfl⟩)).getD 0 poison;simpa using this
 have jK:=WD hG.leB hG.obj ha;split at h
 .rename_i c v bs heq;cases hb:(v.ret bs.length&&(bs.all OB.ret&&Nat.blt 0 C.nt)) with
  |false=>rw[hb] at h;exact h.elim
  |true =>rw[hb] at h;obtain⟨h1,h2⟩:=h;simp only[z0] at hb;obtain⟨g,a,b,e,aE,_⟩:=Jm az.cs qp jK heq hb.1 hb.2.1 h1;refine⟨g,a,b,e,aE.mono λu U' hr=>?_⟩;obtain⟨pl',h3,h4⟩:=hr.gam (nt:=C.nt) (d:=d) (by simpa [zA] using hb.2.2) hG hb.1 hb.2.1;exact hK _ _ B F pl' tb u U' h2 (.of hG.bf hr.1.2) h3 h4
 .exact h.elim
theorem R5 {C:Cx}(az:COk P C) {B F:Heap}{pl:Nat->Value}{tb:Nat->Option Bool}{s:St}{env:Env}{U:Heap}(hG:Gam P B F pl tb s env U) {d:Nat}{f:SV}{args:List SV}{fV:Value}{vs:List Value}(hf:SR P B pl tb f fV) (ha:SRs P B pl tb args vs) {K:SV->St->Prop}(h:Eb C d f args s K) (uN:∀ o,f≠.dd o .yv) {R:Value->Heap->Prop}
  (hK:∀ v s' B' F' pl' tb' u U',K v s'->GBase B F U B' F' U'->Gam P B' F' pl' tb' s' env U'->SR P B' pl' tb' v u->R u U'):∃ g a b,fV=.func (.func g) a b/\VCalled P g (a.toList++vs++b.toList) U R:=by
 unfold Eb at h;split at h
 .rename_i g a b;split at h
  .rename_i x hx;have wz:=hf;simp only[SR] at hf;obtain⟨a',b',rfl,h1,h2⟩:=hf;refine⟨g,a'.toArray,b'.toArray,rfl,?_⟩;have:=az.xs g x hx B F pl tb s env U d _ _ K R hG (h1.append (ha.append h2)) h hK;simpa using this
  .exact R2 az hG hf ha h hK
 .exact(uN _ rfl).elim
 .exact R2 az hG hf ha h hK
theorem Q3z {C:Cx}{B F:Heap}{pl:Nat->Value}{tb:Nat->Option Bool}{s:St}{env:Env}{U:Heap}(hG:Gam P B F pl tb s env U) {d:Nat}{o:VOp}{K:SV->St->Prop}(h:gnd C d o (gev [] s.env) s K) {R:Value->Heap->Prop}
  (hK:∀ v s' B' F' pl' tb' u U',K v s'->GBase B F U B' F' U'->Gam P B' F' pl' tb' s' env U'->SR P B' pl' tb' v u->R u U'):vop (Q4 P) o env U R:=by
 obtain⟨u,U',pl',v,s',h1,h2,h3,h4⟩:=Lq (λx=>hG.evs (Gds.nil (tb:=tb)) x) hG h;have fin:Zm (Q8 o (Q5 env) U) (λp=>R p.1 p.2):=by rw[h1];exact hK v s' B F pl' tb u U' h2 (.of hG.bf (VM h1)) h3.1 h4
 cases o
 case buildSlice e z n ps=>exact fin
 case makeSlice e b z l c=>exact fin
 case append e b x y=>exact fin
 case store size a x=>exact fin
 all_goals exact h.elim
section
variable {B F:Heap}{pl:Nat->Value}{tb:Nat->Option Bool}{s:St}{env:Env}{U:Heap}
def Heap.ins (B U:Heap) (i:Nat) (h:B.n<=U.n):Heap where
 get j:=if j=i then U.get i else B.get j
 n:=U.n
 wf j hj:=by
  by_cases e:j=i
  .simp only[z6 e];subst e;exact U.wf j hj
  .simp only[z7 e];exact B.wf j (x6 h hj)
theorem Heap.q0m (B U:Heap) (i:Nat) (h:B.n<=U.n):(B.ins U i h).get i=U.get i:=by simp[Heap.ins]
theorem Heap.q1d (B U:Heap) {i j:Nat}(h:B.n<=U.n) (e:j≠i):(B.ins U i h).get j=B.get j:=by simp[Heap.ins,e]
theorem Heap.Le.ins {B U:Heap}(h:B.Le U) (i:Nat):B.Le (B.ins U i h.1):=⟨h.1,λj b hb=>by
 by_cases e:j=i
 .subst e;rw[Heap.q0m];exact h.2 _ _ hb
 .rw[Heap.q1d _ _ _ e];exact hb⟩
theorem Heap.Le.q1x {B U:Heap}(h:B.Le U) (i:Nat):(B.ins U i h.1).Le U:=⟨z9 _,λj b hb=>by
 by_cases e:j=i
 .grind [Heap.q0m]
 .rw[Heap.q1d _ _ _ e] at hb;exact h.2 _ _ hb⟩
theorem Heap.q1z {B F U:Heap}(h:B.Le F) (i:Nat) (hB:B.n<=U.n) (hF:F.n<=U.n):(B.ins U i hB).Le (F.ins U i hF):=⟨z9 _,λj b hb=>by
 by_cases e:j=i
 .grind [Heap.q0m]
 .rw[Heap.q1d _ _ _ e] at hb |-;exact h.2 _ _ hb⟩
theorem Gam.freeze (hG:Gam P B F pl tb s env U) {o i:Nat}(hl:(Q9 s.own o).live=true) (hi:Oid (pl o) i) :
  GBase B F U (B.ins U i hG.leB.1) (F.ins U i hG.le.1) U/\Gam P (B.ins U i hG.leB.1) (F.ins U i hG.le.1) pl tb ⟨s.env,oset s.own o .dead,s.nx⟩ env U:=by
 have nT:=hG.fresh o i hl hi;have lv:∀ d,(Q9 (oset s.own o .dead) d).live=true->d≠o/\(Q9 s.own d).live=true:=λd h=>by
  rw[Qa] at h;by_cases e:d=o
  .rw[z6 e] at h;cases h
  .rw[z7 e] at h;exact⟨e,h⟩
 refine⟨⟨hG.leB.ins i,hG.le.ins i,λj b h1 h2=>?_,.refl _⟩,⟨Heap.q1z hG.bf i _ _,hG.le.q1x i,SRs.mono (hG.leB.ins i) (λ_ _ h=>h) _ _ hG.env,λd=>?_,λd j h1 h2=>?_,λd d' j aG h1 h2 h3 h4=>hG.sep d d' j aG (lv d h1).2 (lv d' h2).2 h3 h4,hG.free⟩⟩
 .grind [Heap.q1d]
 .simp only[Qa];by_cases e:d=o
  .rw[z6 e];trivial
  .rw[z7 e];exact(hG.obj d).mono (hG.leB.ins i) (λ_ _ h=>h) λ_ _ _=>rfl
 .obtain⟨aG,bV⟩:=lv d h1;have e:j≠i:=by rintro rfl;exact hG.sep d o j aG bV hl h2 hi
  rw[Heap.q1d _ _ _ e];exact hG.fresh d j bV h2
theorem Gam.own {s':St}(hG:Gam P B F pl tb s env U) (h1:s'.env=s.env) (h2:∀ d,Q9 s'.own d=Q9 s.own d) (h3:s'.nx=s.nx):Gam P B F pl tb s' env U :=
 ⟨hG.bf,hG.le,by rw[h1];exact hG.env,λd=>by rw[h2];exact hG.obj d,λd i=>by rw[h2];exact hG.fresh d i,λd d' i aG=>by rw[h2,h2];exact hG.sep d d' i aG,λn hn=>hG.free n (by rw[<-h3];exact hn)⟩
theorem Gam.drop (hG:Gam P B F pl tb s env U) (o:Nat):Gam P B F pl tb ⟨s.env,oset s.own o .dead,s.nx⟩ env U:=by
 have lv:∀ d,(Q9 (oset s.own o .dead) d).live=true->d≠o/\(Q9 s.own d).live=true:=λd h=>by
  rw[Qa] at h;by_cases e:d=o
  .rw[z6 e] at h;cases h
  .rw[z7 e] at h;exact⟨e,h⟩
 refine⟨hG.bf,hG.le,hG.env,λd=>?_,λd j h1 h2=>hG.fresh d j (lv d h1).2 h2,λd d' j aG h1 h2 h3 h4=>hG.sep d d' j aG (lv d h1).2 (lv d' h2).2 h3 h4,hG.free⟩;simp only[Qa];by_cases e:d=o
 .rw[z6 e];trivial
 .rw[z7 e];exact hG.obj d
theorem OZ (s:St) (d:Nat) (b:OB) (q:Nat):Q9 (s.make d .dead).own q=Q9 (oset (s.make d b).own d .dead) q:=by simp only[St.make,Qa];simp_all
theorem Q4m {C:Cx}(hG:Gam P B F pl tb s env U) {d:Nat}{x:Operand}{K:SV->St->Prop}(h:gn C d (.ext (.rangeMap x)) (gev [] s.env) s K) {R:Value->Heap->Prop}
  (hK:∀ v s' B' F' pl' tb' u U',K v s'->GBase B F U B' F' U'->Gam P B' F' pl' tb' s' env U'->SR P B' pl' tb' v u->R u U'):vop (Q4 P) (.ext (.rangeMap x)) env U R:=by
 have ha:=hG.evs (Gds.nil (tb:=tb)) x;simp only[gn] at h;split at h
 .rename_i o h1;rw[h1] at ha;simp only[SR] at ha;split at h
  .rename_i kk vk m ho;split at h
   .have ai:=hG.obj o;rw[ho] at ai;obtain⟨i,es,clock,h2,h3,h4⟩:=ai;obtain⟨g1,g2⟩:=hG.freeze (o:=o) (i:=i) (by rw[ho];rfl) (by rw[h2];rfl)
    have fp:=g2.push d (.iter kk vk m []) (.pointer (some ⟨U.n,0,none⟩)) (.obj (.iter i clock [] clock) true) rfl
     ⟨U.n,i,es,clock,true,[],rfl,Heap.q0a _ _,by rw[Heap.q0m];exact h3,h4.mono g1.b,rfl,λt r h=>by simp at h⟩
    show Zm (Q8 (.ext (.rangeMap x)) (Q5 env) U) _;have hv:Q8 (.ext (.rangeMap x)) (Q5 env) U=some (.pointer (some ⟨U.n,0,none⟩),U.push (.obj (.iter i clock [] clock) true)):=by simp only[Q8,J5,ha.1,h2,Heap.mapAt,h3]
    rw[hv];exact hK _ _ _ _ _ _ _ _ h (g1.trans (.of g2.bf (Dead.push _ _))) fp (by simp only[SR,Xo];exact⟨_,rfl,rfl⟩)
   .exact h.elim
  .rename_i kk vk m ho;split at h
   .have ai:=hG.obj o;rw[ho] at ai;obtain⟨i,es,clock,wr,h2,h3,h4⟩:=ai
    have fp:=hG.push d (.iter kk vk m []) (.pointer (some ⟨U.n,0,none⟩)) (.obj (.iter i clock [] clock) true) rfl
     ⟨U.n,i,es,clock,wr,[],rfl,Heap.q0a _ _,h3,h4,rfl,λt r h=>by simp at h⟩
    show Zm (Q8 (.ext (.rangeMap x)) (Q5 env) U) _;have hv:Q8 (.ext (.rangeMap x)) (Q5 env) U=some (.pointer (some ⟨U.n,0,none⟩),U.push (.obj (.iter i clock [] clock) true)):=by have hU:=hG.leB.2 _ _ h3;simp only[Q8,J5,ha.1,h2,Heap.mapAt,hU]
    rw[hv];exact hK _ _ _ _ _ _ _ _ h (.of hG.bf (Dead.push _ _)) fp (by simp only[SR,Xo];exact⟨_,rfl,rfl⟩)
   .exact h.elim
  .exact h.elim
 .exact h.elim
theorem Q6m {C:Cx}(hG:Gam P B F pl tb s env U) {d:Nat}{x:Operand}{K:SV->St->Prop}(h:gn C d (.ext (.nextMap x)) (gev [] s.env) s K) {R:Value->Heap->Prop}
  (hK:∀ v s' B' F' pl' tb' u U',K v s'->GBase B F U B' F' U'->Gam P B' F' pl' tb' s' env U'->SR P B' pl' tb' v u->R u U'):vop (Q4 P) (.ext (.nextMap x)) env U R:=by
 have ha:=hG.evs (Gds.nil (tb:=tb)) x;simp only[gn] at h;split at h
 .rename_i o f h1;rw[h1] at ha;simp only[SR] at ha;split at h
  .rename_i kk vk m dn ho;split at h
   .rename_i hf;obtain⟨rfl,nU⟩:=hf;have af:(Q9 s.own o).live=true:=by rw[ho];rfl
    have ai:=hG.obj o;rw[ho] at ai;obtain⟨j,i,es,clock,wr,seen,h2,h3,h4,h5,h6⟩:=ai;obtain⟨b,e2,e3⟩:=ha;rw[h2] at e2;obtain rfl:j=b:=by simpa using e2
    have aA:U.mapAt i=some (es,clock,wr):=by simp[Heap.mapAt,hG.leB.2 _ _ h4]
    have hlen:=h5.1.length;obtain⟨hA,hB⟩:=h;have a8:F.get j=none:=hG.fresh o j af (by rw[h2];rfl);have cE:∀ q i',q≠o->(Q9 s.own q).live=true->Oid (pl q) i'->i'≠j:=λq i' hq hl hi e=>by subst e;exact hG.sep q o i' hq hl af hi (by rw[h2];rfl)
    show Q0h (Q5 env x) U R;unfold Q0h;rw[e3];simp only[h3,aA];refine⟨?_,?_,λhall=>?_,λe he sh=>?_⟩
    .cases es with
     |nil=>simp
     |cons e es=>simp[h5.2.2 e (by simp)]
    .rw[zf];intro e he;obtain⟨r,hr⟩:=xc.1 he;obtain⟨_,k1,_⟩:=MR.at h5.1 hr;exact Oj nU k1
    .refine hK _ _ _ _ _ _ _ _ (hA λr hr=>?_) (.of hG.bf (Dead.refl U)) hG (by simp only[SR,SRs];exact⟨[.bool false],rfl,_,[],rfl,rfl,rfl⟩);have dQ:r<es.length:=by omega
     have he:=z8 dQ;have:=zf.1 hall es[r] (zl dQ);have aj:=h5.2.2 _ (zl dQ);rw[zr,zh] at this;rcases this with this|this
     .rw[List.contains_iff_mem] at this;obtain⟨t,ht⟩:=xc.1 this;have wA:t<seen.length:=(zq.1 ht).1;have sA:t<dn.length:=by have:=h6.1;omega
      obtain⟨e',k1,k2⟩:=h6.2 t dn[t] (z8 sA);rw[ht] at k2;have:=Pa h5.2 he k1 (osj k2);rw[this];exact zl sA
     .omega
    .obtain⟨r,hr⟩:=xc.1 he;have dQ:r<es.length:=(zq.1 hr).1;have sy:r∉dn:=λhm=>by
      obtain⟨t,ht⟩:=xc.1 hm;obtain⟨e',k1,k2⟩:=h6.2 t r ht
      grind
     refine hK _ _ _ _ _ _ _ _ (hB r (by omega) sy) (.of hG.bf (Dead.upd _ _ _ (by rw[h3];rfl))) (hG.write o _ (hG.le.upd a8 _) af (by grind [Heap.q0b]) ⟨j,i,es,clock,wr,seen++[e.2.2],h2,Heap.q0c _ _ (U.lt h3),h4,h5,?_,λt r' ht=>?_⟩) (by simp only[SR,SRs];exact⟨[.bool true,e.1,e.2.1],rfl,_,_,rfl,rfl,_,_,rfl,trivial,_,_,rfl,trivial,rfl⟩)
     .simp[h6.1]
     .rw[List.getElem?_append] at ht;split at ht
      .rename_i aj;obtain⟨e',k1,k2⟩:=h6.2 t r' ht
       grind
      .rename_i bI;have h0:t-dn.length=0:=by
        grind
       rw[h0] at ht;obtain rfl:r=r':=by simpa using ht
       refine⟨e,hr,?_⟩;rw[xF (by have:=h6.1;omega),show t-seen.length=0 by have:=h6.1;omega];rfl
   .exact h.elim
  .exact h.elim
 .exact h.elim
theorem Il {d:Nat}(lz:B.Le F) {ty:Nat}{k:Kind}{xs:List k.T}{nl:Bool}(hk:k.flat=true) {pl':Nat->Value}{u:Value}{U':Heap}(h1:Gam P B F pl' tb (s.make d (.lst ty k xs nl)) env U') (h2:SR P B pl' tb (.lst d) u) (hd:Dead U U') :
  ∃ B' F',GBase B F U B' F' U'/\Gam P B' F' pl' tb (s.make d .dead) env U'/\SR P B' pl' tb (.val (.list k) xs) u:=by
 have ai:=h1.obj d;have bm:Q9 (s.make d (.lst ty k xs nl)).own d=.lst ty k xs nl:=by simp only[St.make,Qa,zt]
 rw[bm] at ai;simp only[SR] at h2;obtain⟨rfl,_⟩:=h2;rcases ai with⟨_,hx,hp⟩|⟨_,i,cap,c,t,hp,b8,hg,hlen,ck⟩
 .refine⟨B,F,.of lz hd,(h1.drop d).own rfl (OZ s d _) rfl,?_⟩;simp only[SR];exact⟨_,rfl,.inl ⟨hx,hp⟩⟩
 .obtain⟨g1,g2⟩:=h1.freeze (o:=d) (i:=i) (by rw[bm];rfl) (by rw[hp];rfl);refine⟨_,_,(GBase.of lz hd).trans g1,g2.own rfl (OZ s d _) rfl,?_⟩;simp only[SR];refine⟨_,rfl,.inr ⟨i,0,cap,c,⟨k.size,ty⟩,true,t,hp,b8,by rw[Heap.q0m];exact hg,rfl,by have:=zk k.size b8;omega,?_⟩⟩;rw[xB];exact ck.mono λ_ _ e=>KC.flat hk e
theorem Q2i {d nt:Nat}(ek:0<nt) (hG:Gam P B F pl tb s env U) {ty:Nat}{k:Kind}{xs:List k.T}{nl:Bool}(hk:k.flat=true) {u:Value}{U':Heap}(h:Ret P U (.lst 0) [.lst ty k xs nl] u U') :
  ∃ B' F' pl',GBase B F U B' F' U'/\Gam P B' F' pl' tb (s.make d .dead) env U'/\SR P B' pl' tb (.val (.list k) xs) u:=by
 obtain⟨pl',h1,h2⟩:=h.gam (d:=d) ek hG (by rfl) (by simp only[zP,List.all_nil,xW,OB.ret];exact hk);simp only[St.makes,Nat.zero_mul,x4,SV.ren] at h1 h2;obtain⟨B',F',k⟩:=Il hG.bf hk h1 h2 h.1.2;exact⟨B',F',pl',k⟩
theorem DS {nt:Nat}{r:Option (Prop×SV×List OB)}{c:Prop}{v:SV}(h:Q39 nt r=some (c,v)):∃ ty k xs nl,r=some (c,.lst 0,[.lst ty k xs nl])/\v=.val (.list k) xs/\k.flat=true/\0<nt:=by
 unfold Q39 at h;split at h
 .split at h
  .rename_i k xs _;cases hc:(k.flat&&Nat.blt 0 nt) with
   |false=>rw[hc] at h;cases h
   |true =>rw[hc] at h;obtain⟨rfl,rfl⟩:=Jf h;simp only[z0,zA] at hc;exact⟨_,_,_,_,rfl,rfl,hc.1,hc.2⟩
  .cases h
 .cases h
theorem Q0q {C:Cx}(az:CsOk P C.cs) (hG:Gam P B F pl tb s env U) {gs:List Gd}(hg:Gds tb gs) {o:VOp}{c:Prop}{v:SV}{d:Nat}(h:FO C o (gev gs s.env) s.own=some (c,v)) (hc:c) {K:Value->Heap->Prop}
  (hK:∀ u U' B' F' pl',GBase B F U B' F' U'->Gam P B' F' pl' tb (s.make d .dead) env U'->SR P B' pl' tb v u->K u U'):vop (Q4 P) o env U K:=by
 cases o<;>first|(cases h;done)|skip
 case callF f args =>
  simp only[FO] at h;obtain⟨ty,k,xs,nl,heq,rfl,hk,ek⟩:=DS h;obtain⟨g,a,b,h3,h4,_⟩:=Jm az (show SR P U XU JE (.fn f [] []) (.func (.func f) #[] #[]) by simp only[SR,SRs];exact⟨[],[],rfl,rfl,rfl⟩) (hG.gcall hg args) heq (by rfl) (by simp only[zP,List.all_nil,xW,OB.ret];exact hk) hc;obtain⟨rfl,rfl,rfl⟩:=(by simpa using h3:f=g/\#[]=a/\#[]=b);have:=h4.mono (R':=K) λu U' hr=>by obtain⟨B',F',pl',k1,k2,k3⟩:=Q2i (d:=d) ek hG hk hr;exact hK u U' B' F' pl' k1 k2 k3
  show VCalled P f (args.map (Q5 env)) U K;simpa using this
 case callV f args =>
  simp only[FO] at h;obtain⟨ty,k,xs,nl,heq,rfl,hk,ek⟩:=DS h;obtain⟨g,a,b,h3,h4,_⟩:=Jm az (hG.gfun hg f) (hG.gcall hg args) heq (by rfl) (by simp only[zP,List.all_nil,xW,OB.ret];exact hk) hc;exact DC h3 (h4.mono λu U' hr=>by
   obtain⟨B',F',pl',k1,k2,k3⟩:=Q2i (d:=d) ek hG hk hr;exact hK u U' B' F' pl' k1 k2 k3)
 case buildSlice e z n ps =>
  simp only[FO] at h;split at h
  .rename_i k uO;split at h
   .rename_i eL;split at h
    .rename_i xs hx;obtain⟨rfl,rfl⟩:=Jf h;have uP:gn C d (.buildSlice e z n ps) (gev gs s.env) s (λv s'=>v=.lst d/\s'=s.make d (.lst e.ty k xs false)):=by
      simp only[gn,uO,hx];simp_all
     obtain⟨u,U',pl',v,s',h1,⟨rfl,rfl⟩,⟨h3,_⟩,h4⟩:=GO (λx=>hG.evs hg x) hG uP;obtain⟨B',F',k1,k2,k3⟩:=Il hG.bf eL.2.2 h3 h4 (VM h1);show Zm (Q8 (.buildSlice e z n ps) (Q5 env) U) _;rw[h1];exact hK u U' B' F' pl' k1 k2 k3
    .cases h
   .cases h
  .cases h
theorem Ol {C:Cx}{o:VOp}{ev:Operand->SV}{own:Own}{c:Prop}{v:SV}(h:FO C o ev own=some (c,v)):∃ (k:Kind) (xs:List k.T),v=.val (.list k) xs:=by
 cases o<;>first|(cases h;done)|skip
 case callF=>simp only[FO] at h;grind [DS]
 case callV=>simp only[FO] at h;grind [DS]
 case buildSlice e z n ps =>
  simp only[FO] at h
  grind
theorem Z05 {C:Cx}(az:COk P C) {B F:Heap}{pl:Nat->Value}{tb:Nat->Option Bool}{s:St}{env:Env}{U:Heap}(hG:Gam P B F pl tb s env U) {d:Nat}{o:VOp}{K:SV->St->Prop}(h:gn C d o (gev [] s.env) s K) {R:Value->Heap->Prop}
  (hK:∀ v s' B' F' pl' tb' u U',K v s'->GBase B F U B' F' U'->Gam P B' F' pl' tb' s' env U'->SR P B' pl' tb' v u->R u U'):vop (Q4 P) o env U R:=by
 have al:=hG.evs (Gds.nil (tb:=tb));have act:∀ o {T:Nat},NOk P B F tb o (Q5 env) env U K T s pl->(∀ R',Zm (Q8 o (Q5 env) U) (λp=>R' p.1 p.2)->vop (Q4 P) o env U R')->vop (Q4 P) o env U R:=λo _ ⟨u,U',pl',v,s',h1,h2,h3,h4⟩ hv=>hv R (by rw[h1];exact hK v s' B F pl' tb u U' h2 (.of hG.bf (VM h1)) h3.1 h4);have ax:∀ args:List Operand,SRs P B pl tb (args.map (gev [] s.env)) (args.map (Q5 env)):=(by grind [SRs.map,Gds.nil]);cases o
 case alloc t z=>exact act _ (Q8x al hG h) λ_ h=>h
 case box t x=>exact act _ (Z62 al hG h) λ_ h=>h
 case buildSlice e z n ps=>exact act _ (GO al hG h) λ_ h=>h
 case makeSlice e b z l c=>exact act _ (Cn al hG h) λ_ h=>h
 case append e b x y=>exact act _ (Q3m al hG h) λ_ h=>h
 case store size a x=>exact act _ (Q7w al hG h) λ_ h=>h
 case callF f args =>
  simp only[gn] at h;obtain⟨g,a,b,h3,h4⟩:=R5 az hG (show SR P B pl tb (.fn f [] []) (.func (.func f) #[] #[]) by simp only[SR,SRs];exact⟨[],[],rfl,rfl,rfl⟩) (ax args) h (λ_ e=>by cases e) hK;obtain⟨rfl,rfl,rfl⟩:=(by simpa using h3:f=g/\#[]=a/\#[]=b);show VCalled P f (args.map (Q5 env)) U R;simpa using h4
 case callV f args =>
  simp only[gn] at h;by_cases hy:∃ o,gev [] s.env f=.dd o .yv
  .obtain⟨o,hy⟩:=hy;have hf:=hG.evs (Gds.nil (tb:=tb)) f;have h':Eb C d (gev [] s.env f) (args.map (gev [] s.env)) s K:=h;rw[hy] at hf h';simp only[SR,DR] at hf;obtain⟨i,hp,hv⟩:=hf;simp only[Eb] at h';split at h'
   .rename_i y uQ;have:=az.yl o y uQ B F pl tb s env U _ _ K R i hG (ax args) h' hp hK;simp only[vop,hv];exact this
   .exact h'.elim
  obtain⟨g,a,b,h3,h4⟩:=R5 az hG (hG.evs Gds.nil f) (ax args) h (λo e=>hy ⟨o,e⟩) hK;exact DC h3 h4
 case ext x =>
  cases x
  case mapUpdate mk m k v=>exact act _ (L2 al hG h) λ_ h=>h
  case delete mk m k=>exact act _ (Q3a al hG h) λ_ h=>h
  case mapEntry mk z m k=>exact act _ (Ev al hG h) λ_ h=>h
  case entryStore m s v=>exact act _ (TJ al hG h) λ_ h=>h
  case copy size a b=>exact False.elim h
  case unsafeStr e a n=>exact False.elim h
  case strBytes e a=>exact False.elim h
  case rangeMap a=>exact Q4m hG h hK
  case nextMap a=>exact Q6m hG h hK
  case rangeStr a=>exact False.elim h
  case nextStr a=>exact False.elim h
  all_goals exact h.elim
 all_goals exact h.elim
theorem Gam.frz (hG:Gam P B F pl tb s env U) (o:Nat):∃ B' F',GBase B F U B' F' U/\Gam P B' F' pl tb (s.frz o) env U:=by
 unfold St.frz;split
 .rename_i ty k xs nl ho;have fin:∀ {B' F':Heap},Gam P B' F' pl tb ⟨s.env,oset s.own o .dead,s.nx⟩ env U->KC B' (.list k) xs [pl o]->Gam P B' F' pl tb ⟨SVs.frz o k xs s.env,Q9q o k xs s.own,s.nx⟩ env U:=λ{B' F'} h hk=>by
   have e1:∀ d,Q9 (Q9q o k xs s.own) d=(Q9 (oset s.own o .dead) d).frz o k xs:=λd=>by
    rw[Q6r,Qa];by_cases e:d=o
    .rw[z6 e,z6 e];rfl
    .rw[z7 e,z7 e]
   have lv:∀ d,(Q9 (Q9q o k xs s.own) d).live=(Q9 (oset s.own o .dead) d).live:=λd=>by rw[e1,OB.q2c]
   refine⟨h.bf,h.le,SRs.frz hk _ _ h.env,λd=>?_,λd i h1 h2=>?_,λd d' i aG h1 h2=>?_,h.free⟩
   .simp only[e1];exact(h.obj d).frz hk
   .simp only[lv] at h1;exact h.fresh d i h1 h2
   .simp only[lv] at h1 h2;exact h.sep d d' i aG h1 h2
  have ai:=hG.obj o;rw[ho] at ai;rcases ai with⟨_,hx,hp⟩|⟨_,i,cap,c,t,hp,b8,hg,hlen,ck⟩
  .exact⟨B,F,.of hG.bf (.refl _),fin (hG.drop o) ⟨_,rfl,.inl ⟨hx,hp⟩⟩⟩
  .obtain⟨g1,g2⟩:=hG.freeze (o:=o) (i:=i) (by rw[ho];rfl) (by rw[hp];rfl);refine⟨_,_,g1,fin g2 ⟨_,rfl,.inr ⟨i,0,cap,c,⟨k.size,ty⟩,true,t,hp,b8,by rw[Heap.q0m];exact hg,rfl,by have:=zk k.size b8;omega,?_⟩⟩⟩;rw[xB];exact ck.mono λ_ _ e=>KC.mono g1.b e
 .exact⟨B,F,.of hG.bf (.refl _),hG⟩
theorem GRel.frzs {B0 F0 D0:Heap}:∀ (l:List Nat) {s:St},GRel P B0 F0 D0 s env U->GRel P B0 F0 D0 (s.frzs l) env U
 |[],_,h=>h
 |o::r,s,⟨B,F,pl,tb,hB,hG⟩=>by obtain⟨B',F',g1,g2⟩:=hG.frz o;exact GRel.frzs r ⟨B',F',pl,tb,hB.trans g1,g2⟩
end
theorem L1 {j:Nat}{f:Nat->Prop}:∀ {n i:Nat},Q35 (j:Int) f n i->i<=j->j<i+n->f j
 |0,i,_,h1,h2=>by omega
 |n+1,i,h,h1,h2=>by
  rcases zo i j with h3|h3
  .exact L1 h.2 h3 (by omega)
  .have:j=i:=by omega
   subst this;exact h.1 rfl
theorem Q8o {o:VOp}{len i:Nat}{f:Nat->VOp}(h:Z97 o=some (len,i,f)) {n:Nat}:(∃ size x,f n=.indexAddrArr len size x (.const (.int .i64 (Int.ofNat n))))\/∃ agg size x,f n=.indexArr len agg size x (.const (.int .i64 (Int.ofNat n))):=by
 unfold Z97 at h;split at h
 .cases h;exact .inl ⟨_,_,rfl⟩
 .cases h;exact .inr ⟨_,_,_,rfl⟩
 .cases h
theorem Z04 {o:VOp}{len i:Nat}{f:Nat->VOp}(h:Z97 o=some (len,i,f)) {S:VSpecs}{env:Env}{U:Heap}{k:IntKind}{n:Nat}(he:Q5 env (.tmp i)=.int k (n:Int)) {R:Value->Heap->Prop}(hv:vop S (f n) env U R):vop S o env U R:=by
 have hc:Q5 env (.const (.int .i64 (Int.ofNat n)))=.int .i64 (n:Int):=rfl;unfold Z97 at h;split at h
 .rename_i len size x t;cases h;change Zm (Q8 _ (Q5 env) U) _ at hv;change Zm (Q8 _ (Q5 env) U) _;simp only[Q8,he,hc] at hv |-
  grind
 .rename_i len agg size x t;cases h;change Zm (Q8 _ (Q5 env) U) _ at hv;change Zm (Q8 _ (Q5 env) U) _;simp only[Q8,he,hc] at hv |-
  grind
 .cases h
theorem E3 {C:Cx}(az:COk P C) {B0 F0 D0:Heap}{s:St}{env:Env}{U:Heap}(hR:GRel P B0 F0 D0 s env U) {o:VOper}{K:St->Prop}(h:Z9n C o s K) {R:Env->Heap->Prop}(hK:∀ s' ae U',K s'->GRel P B0 F0 D0 s' ae U'->R ae U') :
  Zm (JD env o.guard) λb=>vif b (vop (Q4 P) o.op env U λv U'=>R (XH env o.dst v) U') (R (XH env o.dst undef) U):=by
 unfold Z9n at h;split at h
 .rename_i hg;rw[hg];refine⟨λ_=>?_,λe=>by cases e⟩
  replace hR:=hR.frzs (Z3s C (o.dst.getD 0) o.op (gev [] s.env) s.own)
  generalize s.frzs (Z3s C (o.dst.getD 0) o.op (gev [] s.env) s.own)=s at h hR;obtain⟨B,F,pl,tb,hB,hG⟩:=hR;unfold J37 at h;split at h
  .rename_i len i f sB;split at h
   .rename_i k j hj;obtain⟨h1,h2,h3⟩:=h;obtain⟨n,rfl⟩:=zJ h1;have hn:n<len:=by omega
    have h4:=L1 h3 (Nat.zero_le n) (by omega);have he:=Jt hj (hG.evs (Gds.nil (tb:=tb)) (.tmp i));split at h4
    .rename_i cs v dp;obtain⟨k1,k2⟩:=ZX h4
     replace k1:=ZQ k1
     have hv:=Cr (C:=C) az.cs hG Gds.nil (o:=f n) (raw:=C.raw.contains (o.dst.getD 0)) (cs:=cs) (v:=v) (by
      rw[<-dp];obtain⟨size,x,hf⟩|⟨agg,size,x,hf⟩:=Q8o sB<;>rw[hf];rfl;rfl) (k2 λg hg=>by cases hg) λu hu=>hK _ _ _ k1 ⟨B,F,pl,tb,hB,hG.put o.dst hu⟩
     exact Z04 sB he hv
    .exact h4.elim
   .exact h.elim
  unfold J3n at h;split at h
  .rename_i c a b bD;split at h
   .rename_i v hv;obtain⟨u,h1,h2⟩:=NY hG Gds.nil hv;rw[bD];show Zm (Q8 (.pick c a b) (Q5 env) U) _;rw[h1];exact hK _ _ _ (ZQ h) ⟨B,F,pl,tb,hB,hG.put o.dst h2⟩
   .exact h.elim
  .rename_i wB;cases hq:Q5u o.op with
   |true =>
    rw[hq] at h;simp only[ze] at h;split at h
    .rename_i cs v dp;obtain⟨h1,h2⟩:=ZX h
     replace h1:=ZQ h1
     refine Cr (C:=C) az.cs hG Gds.nil (raw:=C.raw.contains (o.dst.getD 0)) (cs:=cs) (v:=v) ?_ (h2 λg hg=>by cases hg) λu hu=>hK _ _ _ h1 ⟨B,F,pl,tb,hB,hG.put o.dst hu⟩;rw[<-dp];cases ho:o.op<;>first|rfl|(rw[ho] at hq;cases hq)
    .exact h.elim
   |false =>
    rw[hq] at h;simp only[zM] at h;split at h
    .rename_i bD;split at h
     .rename_i kk vk _;obtain⟨h1,h2⟩:=Q7x hG (C.off+o.dst.getD 0) kk vk;rw[bD];change R (XH env o.dst (.map (some U.n))) (U.push (.obj (.map [] 0) true));exact hK _ _ _ h ⟨B,F,_,tb,D5 hB (Dead.push _ _),h1.put o.dst h2⟩
     .rename_i ik _;obtain⟨h1,h2⟩:=Q9t hG (C.off+o.dst.getD 0) ik;rw[bD];change R (XH env o.dst (.map (some U.n))) (U.push (.obj (.map [] 0) true));exact hK _ _ _ h ⟨B,F,_,tb,D5 hB (Dead.push _ _),h1.put o.dst h2⟩
     .exact h.elim
    .rename_i bD;cases kz:O7 C (o.dst.getD 0) o.op (gev [] s.env) with
     |true =>rw[kz] at h;simp only[ze] at h;exact Q3z hG h λv s' B' F' pl' tb' u U' h1 hd h2 h3=>hK _ _ _ h1 ⟨B',F',pl',tb',hB.trans hd,h2.put o.dst h3⟩
     |false =>rw[kz] at h;simp only[zM] at h;exact Z05 az hG h λv s' B' F' pl' tb' u U' h1 hd h2 h3=>hK _ _ _ h1 ⟨B',F',pl',tb',hB.trans hd,h2.put o.dst h3⟩
 .rename_i j want hg;obtain⟨B,F,pl,tb,hB,hG⟩:=hR;rw[hg];split at h
  .exact h.elim
  .rename_i gs s' cW;obtain⟨tb',bk,dm,b,hw,bM,bw⟩:=WU hG cW;rw[hw];refine⟨λe=>?_,λe=>?_⟩
   .have gu:Gds tb' gs:=λg hg=>⟨bM e g hg,dm g hg⟩;have fin:∀ {v u},SR P B pl tb' v u->SR P B pl tb' (.grd gs (P2 v)) u:=λ{v u} hs=>by
     simp only[SR]
     grind [Si]
    split at h
    .rename_i c a b' bD;split at h
     .rename_i v hv;obtain⟨u,h1,h2⟩:=NY bk gu hv;rw[bD];show Zm (Q8 (.pick c a b') (Q5 env) U) _;rw[h1];exact hK _ _ _ (ZQ h) ⟨B,F,pl,tb',hB,bk.put o.dst (fin h2)⟩
     .exact h.elim
    .split at h
     .rename_i cs v dp;obtain⟨h1,h2⟩:=ZX h
      replace h1:=ZQ h1
      exact Cr az.cs bk gu dp (h2 (bM e)) λu hu=>hK _ _ _ h1 ⟨B,F,pl,tb',hB,bk.put o.dst (fin hu)⟩
     .split at h
      .rename_i c v kA;obtain⟨h1,h2⟩:=ZX h
       replace h1:=ZQ h1
       refine Q0q az.cs bk gu (d:=C.off+o.dst.getD 0) kA (h2 (bM e) c (by simp)) λu U' B' F' pl' k1 k2 k3=>hK _ _ _ h1 ⟨B',F',pl',tb',hB.trans k1,k2.put o.dst ?_⟩;simp only[SR];refine⟨⟨dm,?_⟩,λ_=>k3,(by grind)⟩;obtain⟨k,xs,rfl⟩:=Ol kA;trivial
      .exact h.elim
   .have fin:∀ v,SR P B pl tb' (.grd gs (P2 v)) undef:=λv=>by
     simp only[SR];obtain⟨g,hg,aG⟩:=bw e;exact⟨⟨dm,S7 v⟩,λhall=>absurd (hall g hg) aG,λ_=>trivial⟩
    split at h
    .split at h
     .exact hK _ _ _ (ZQ h) ⟨B,F,pl,tb',hB,bk.put o.dst (fin _)⟩
     .exact h.elim
    .split at h
     .exact hK _ _ _ (ZQ (ZX h).1) ⟨B,F,pl,tb',hB,bk.put o.dst (fin _)⟩
     .split at h
      .rename_i c v kA;refine hK _ _ _ (ZQ (ZX h).1) ⟨B,F,_,tb',hB,(bk.make (C.off+o.dst.getD 0) .dead undef bk.le (λ_ _ _ _ _=>rfl) trivial (λi hl _=>by cases hl)).put o.dst ?_⟩;simp only[SR];obtain⟨g,hg,aG⟩:=bw e;refine⟨⟨dm,?_⟩,λhall=>absurd (hall g hg) aG,λ_=>trivial⟩;obtain⟨k,xs,rfl⟩:=Ol kA;trivial
      .exact h.elim
theorem Q5w {C:Cx}(az:COk P C) {B0 F0 D0:Heap}{s:St}{env:Env}{U:Heap}(hR:GRel P B0 F0 D0 s env U) {o:VOper}{K:St->Prop}(h:gop C o s K) {R:Env->Heap->Prop}(hK:∀ s' ae U',K s'->GRel P B0 F0 D0 s' ae U'->R ae U') :
  Zm (JD env o.guard) λb=>vif b (vop (Q4 P) o.op env U λv U'=>R (XH env o.dst v) U') (R (XH env o.dst undef) U):=by
 unfold gop at h;split at h
 .rename_i t ht;have qH:=hR;obtain⟨B,F,pl,tb,hB,hG⟩:=hR;rw[Vt hG ht];cases t with
  |true =>simp only[ze] at h;exact E3 az qH (o:=⟨o.dst,o.op,none⟩) h hK
  |false =>simp only[zM] at h;exact⟨(λe=>by cases e),λ_=>hK _ _ _ h ⟨B,F,pl,tb,hB,hG.put o.dst (by simp[SR])⟩⟩
 .exact E3 az hR h hK
theorem Q1j {B0 F0 D0:Heap}{s s':St}{env:Env}{U:Heap}(hR:GRel P B0 F0 D0 s env U) {d:Nat}(h:Z4k d s=some s'):GRel P B0 F0 D0 s' env U:=by
 unfold Z4k at h;split at h
 .rename_i o off hd;cases hz:Nat.beq off 0 with
  |false=>rw[hz] at h;cases h
  |true =>
   rw[hz] at h;simp only[ze] at h;have hz:off=0:=zL hz;subst hz;split at h
   .rename_i l _ ho;simp only[xp] at h;subst h;obtain⟨B,F,pl,tb,hB,hG⟩:=hR;have ai:=hG.obj o;rw[ho] at ai;obtain⟨i,c,e,t,e1,e2,e3,_⟩:=ai;obtain⟨k1,k2⟩:=hG.freeze (o:=o) (i:=i) (by rw[ho];rfl) (by rw[e1];rfl);have h1:=hG.env.getD d undef;rw[hd] at h1;have sr:SR P (B.ins U i hG.leB.1) pl tb (.cp l 0) (env.getD d undef):=by
     simp only[SR] at h1 |-;obtain⟨b,q1,q2⟩:=h1;rw[e1] at q1;obtain rfl:i=b:=by simpa using q1
     refine⟨i,c,e,true,t,?_,q2,SRs.mono k1.b (λ_ _ h=>h) _ _ e3⟩;rw[Heap.q0m];exact e2
    have:=k2.put (some d) sr;refine⟨_,_,pl,tb,hB.trans k1,?_⟩;have e2:XH env (some d) (env.getD d undef)=env:=by
     show env.set d _=env;rcases zo d env.length with h|h
     .simp_all
     .rw[List.set_eq_of_length_le h]
    rw[e2] at this;exact this
   .cases h
 .cases h
theorem Q1o {B0 F0 D0:Heap}{raw:List Nat}{s s':St}{env:Env}{U:Heap}(hR:GRel P B0 F0 D0 s env U) {d:Nat}(h:Z3q raw d s=some s'):GRel P B0 F0 D0 s' env U:=by
 unfold Z3q at h;split at h
 .rename_i r hr;split at h
  .rename_i kk vk m ho;simp only[xp] at h;subst h;obtain⟨B,F,pl,tb,hB,hG⟩:=hR;have ai:=hG.obj (r % 1000);rw[ho] at ai;obtain⟨i,es,clock,e1,e2,e3⟩:=ai;obtain⟨k1,k2⟩:=hG.freeze (o:=r % 1000) (i:=i) (by rw[ho];rfl) (by rw[e1];rfl);refine⟨_,_,pl,tb,hB.trans k1,k2.bf,k2.le,k2.env,λj=>?_,λj b hl hi=>?_,λj j' b aG hl bN=>?_,k2.free⟩
   .simp only[Qa];by_cases hj:j=r % 1000
    .subst hj;rw[z6 rfl];exact⟨i,es,clock,_,e1,by rw[Heap.q0m];exact e2,e3.mono k1.b⟩
    .rw[z7 hj];have:=k2.obj j;simp only[Qa,z7 hj] at this;exact this
   .simp only[Qa] at hl;by_cases hj:j=r % 1000
    .rw[z6 hj] at hl;cases hl
    .exact k2.fresh j b (by simpa [Qa,z7 hj] using hl) hi
   .simp only[Qa] at hl bN;by_cases hj:j=r % 1000
    .rw[z6 hj] at hl;cases hl
    .by_cases bF:j'=r % 1000
     .rw[z6 bF] at bN;cases bN
     .exact k2.sep j j' b aG (by simpa [Qa,z7 hj] using hl) (by simpa [Qa,z7 bF] using bN)
  .cases h
 .cases h
theorem Q47 {C:Cx}{B0 F0 D0:Heap}{s:St}{env:Env}{U:Heap}(hR:GRel P B0 F0 D0 s env U) {d:Option Nat}{K:St->Prop}(h:Z9g C d K s):∃ s2,K s2/\GRel P B0 F0 D0 s2 env U:=by
 unfold Z9g at h;split at h
 .exact⟨s,h,hR⟩
 .rename_i d;cases hb:C.spl.contains d with
  |false=>rw[hb] at h;exact⟨s,h,hR⟩
  |true =>
   rw[hb] at h;simp only[ze] at h;split at h
   .rename_i t ht;obtain⟨B,F,pl,tb,hB,hG⟩:=hR;have he:=K4 ht (hG.env.getD d undef);have bj:∀ v,SR P B pl tb v (env.getD d undef)->GRel P B0 F0 D0 (s.put (some d) v) env U:=λv hv=>by
     have:=hG.put (some d) hv;refine⟨B,F,pl,tb,hB,?_⟩;have e2:XH env (some d) (env.getD d undef)=env:=by
      show env.set d _=env;rcases zo d env.length with h|h
      .rw[zj,z8 h];simp
      .rw[List.set_eq_of_length_le h]
     rw[e2] at this;exact this
    have sr:SR P B pl tb (.grd [] (.val .bo t)) (env.getD d undef):=by simp only[SR];exact⟨⟨(λg hg=>by cases hg),trivial⟩,(λ_=>by rw[he];simp[KC]),λ⟨g,hg,_⟩=>by cases hg⟩
    cases hc:C.raw.contains (3000000+d) with
    |true =>
     rw[hc] at h;cases t with
     |true=>exact⟨_,h,bj _ sr⟩
     |false=>exact⟨_,h,bj _ sr⟩
    |false =>
     rw[hc] at h;cases t with
     |true=>exact⟨_,h.1 rfl,bj _ sr⟩
     |false=>exact⟨_,h.2 rfl,bj _ sr⟩
   .split at h
    .rename_i ik x r hx hr;obtain⟨B,F,pl,tb,hB,hG⟩:=hR;have he:=Jt hx (hG.env.getD d undef);obtain⟨h1,h2,h3⟩:=h;obtain⟨n,rfl⟩:=zJ (show 0<=x by omega);have h4:=L1 h3 (by omega) (by omega);refine⟨_,h4,B,F,pl,tb,hB,?_⟩;have:=hG.put (some d) (v:=.val (.i ik) (n:Int)) (u:=env.getD d undef) (by rw[he];simp[SR,KC]);have e2:XH env (some d) (env.getD d undef)=env:=by
      show env.set d _=env;rcases zo d env.length with h|h
      .rw[zj,z8 h];simp
      .rw[List.set_eq_of_length_le h]
     rw[e2] at this;exact this
    .grind [Q1j,Q1o]
theorem DM {C:Cx}(az:COk P C) {B0 F0 D0:Heap}:∀ (ops:List VOper) {s:St}{env:Env}{U:Heap},GRel P B0 F0 D0 s env U->∀ {K:St->Prop},Z9q C ops s K->∀ {R:Env->Heap->Prop},(∀ s' ae U',K s'->GRel P B0 F0 D0 s' ae U'->R ae U')->A0 (Q4 P) ops env U R
 |[],s,env,U,hR,_K,h,_R,hK=>hK s env U h hR
 |_o::r,_s,_env,_σ,hR,_K,h,_R,hK=>Q5w (R:=λenv U=>A0 (Q4 P) r env U _R) az hR h λ_ _ _ h1 h2=>by obtain⟨s2,k1,k2⟩:=Q47 h2 h1;exact DM az r k2 k1 hK
theorem Q85 {S:VSpecs}{l:List DOper}{rest:List DSeg}{env:Env}{U:Heap}{K:Env->Heap->Prop}(h:l.all (λo=>!(o.kind==2)&&!(o.op.kind==2))=true) (hv:A0 S (l.map dv) env U λenv U=>Bj S rest env U K):Bj S (.alts [l]::rest) env U K:=by
 intro ops ho;obtain rfl:=zK.1 ho;have key:∀ (l:List DOper) (env:Env) (pend:List (Nat×(Heap->Prop))) (K':Env->Heap->Prop),l.all (λo=>!(o.kind==2)&&!(o.op.kind==2))=true->A0 S (l.map dv) env U K'->Z_ S l env [U] U pend K':=by
  intro l;induction l with
  |nil=>intro env pend K' _ h;exact h
  |cons o rest ih =>
   intro env pend K' hk h;simp only[zP,z0,Bool.not_eq_true',y0] at hk;obtain⟨⟨bp,aw⟩,hr⟩:=hk;have hr:rest.all (λo=>!(o.kind==2)&&!(o.op.kind==2))=true:=by simpa using hr
   simp only[zO,A0,dv] at h;simp only[Z_];cases hw:JD env o.guard with
   |none=>rw[hw] at h;exact h.elim
   |some b =>
    rw[hw] at h;obtain⟨ht,hf⟩:=h;refine⟨λe=>?_,λe=>?_⟩
    .have ht:=ht e;obtain⟨p,hp,iq⟩:∃ p,Q8 o.op (Q5 env) U=some p/\A0 S (rest.map dv) (XH env o.dst p.1) p.2 K':=by
      have:=ht;unfold vop at this;split at this
      .rename_i f bS heq;rw[heq] at aw;exact absurd rfl aw
      .rename_i f bS heq;rw[heq] at aw;exact absurd rfl aw
      .rename_i x heq;rw[heq] at aw;exact absurd rfl aw
      .cases dB:Q8 o.op (Q5 env) U with
       |none=>rw[dB] at this;exact this.elim
       |some p=>rw[dB] at this;exact⟨p,rfl,this⟩
     have hq:p.2=U:=(by grind [HZ]);rw[hq] at iq;rw[z7 bp];split
     .rw[hp];refine⟨λZ hτ=>?_,ih _ _ _ hr iq⟩;have:Z=U:=by
       grind
      subst this;show Zm (Q8 o.op (Q5 env) Z) _;rw[hp];rfl
     .rw[hp];exact ih _ _ _ hr iq
    .simp_all
 have:=key ops env [] _ h hv;have mono:∀ (l:List DOper) (env:Env) (hs:List Heap) (Z:Heap) (pend:List (Nat×(Heap->Prop))) (A B:Env->Heap->Prop),l.all (λo=>!(o.kind==2)&&!(o.op.kind==2))=true->(∀ e s,A e s->B e s)->Z_ S l env hs Z pend A->Z_ S l env hs Z pend B:=by
  intro l;induction l with
  |nil=>intro env hs Z pend A B _ ml h;exact ml _ _ h
  |cons o rest ih =>
   intro env hs Z pend A B hk ml h;simp only[zP,z0,Bool.not_eq_true',y0] at hk;obtain⟨⟨bp,aw⟩,hr⟩:=hk;have hr:rest.all (λo=>!(o.kind==2)&&!(o.op.kind==2))=true:=by simpa using hr
   simp only[Z_] at h |-;cases hw:JD env o.guard with
   |none=>rw[hw] at h;exact h.elim
   |some b =>
    rw[hw] at h;obtain⟨ht,hf⟩:=h;refine⟨λe=>?_,λe=>?_⟩
    .have ht:=ht e;rw[z7 bp] at ht |-;by_cases o7:o.kind=1
     .rw[z6 o7] at ht |-;cases dB:Q8 o.op (Q5 env) Z with
      |none=>rw[dB] at ht;exact ht.elim
      |some p=>rw[dB] at ht;exact⟨ht.1,ih _ _ _ _ _ _ hr ml ht.2⟩
     .rw[z7 o7] at ht |-;cases dB:Q8 o.op (Q5 env) Z with
      |none=>rw[dB] at ht;exact ht.elim
      |some p=>rw[dB] at ht;exact ih _ _ _ _ _ _ hr ml ht
    .grind
 exact mono ops env _ _ _ _ _ h (λe s hs=>⟨e,s,.refl _ _ _,hs⟩) this
theorem Jk {op:VOp}{ev:Operand->Value}{u:Value}{Z Z':Heap}(h:Q8 op ev Z=some (u,Z')):XD op ev u Z:=by unfold XD;rw[h];rfl
theorem ZN (s:St) (d:Option Nat) (v:SV):(s.put d v).own=s.own:=by cases d<;>rfl
theorem Vj {s s':St}{j:Nat}{want:Bool}{gs:List Gd}(h:TX s j want=some (gs,s')):s'.own=s.own:=by
 unfold TX at h
 grind
theorem Nf {C:Cx}{B F:Heap}{pl:Nat->Value}{tb:Nat->Option Bool}{s:St}{env:Env}{U:Heap}(hG:Gam P B F pl tb s env U) {o:DOper}{K:St->Prop}(h:gd1 C o s K) :
  ∃ b,JD env o.guard=some b/\(b=true->∃ u s' tb',Q8 o.op (Q5 env) U=some (u,U)/\K s'/\s'.own=s.own/\Gam P B F pl tb' s' (XH env o.dst u) U)/\(b=false->∃ s' tb',K s'/\s'.own=s.own/\Gam P B F pl tb' s' (XH env o.dst undef) U):=by
 unfold gd1 at h;split at h
 .rename_i hg;rw[hg];refine⟨true,rfl,λ_=>?_,λe=>by cases e⟩;split at h
  .rename_i c a b bD;split at h
   .rename_i v hv;obtain⟨u,h1,h2⟩:=NY hG Gds.nil hv;exact⟨u,_,tb,by rw[bD];exact h1,ZQ h,ZN _ _ _,hG.put o.dst h2⟩
   .exact h.elim
  .split at h
   .rename_i cs v dp;obtain⟨h1,h2⟩:=ZX h;obtain⟨u,h3,h4⟩:=FN (hG.evs (Gds.nil (tb:=tb))) (λ_=>rfl) hG.leB hG.obj dp (h2 λg hg=>by cases hg);exact⟨u,_,tb,h3,ZQ h1,ZN _ _ _,hG.put o.dst h4⟩
   .exact h.elim
 .rename_i j want hg;rw[hg];split at h
  .exact h.elim
  .rename_i gs s' cW;obtain⟨tb',bk,dm,b,hw,bM,bw⟩:=WU hG cW;refine⟨b,hw,λe=>?_,λe=>?_⟩
   .have gu:Gds tb' gs:=λg hg=>⟨bM e g hg,dm g hg⟩;have fin:∀ {v u},SR P B pl tb' v u->SR P B pl tb' (.grd gs (P2 v)) u:=λ{v u} hs=>by
     simp only[SR]
     grind [Si]
    split at h
    .rename_i c a b' bD;split at h
     .rename_i v hv;obtain⟨u,h1,h2⟩:=NY bk gu hv;exact⟨u,_,tb',by rw[bD];exact h1,ZQ h,(ZN _ _ _).trans (Vj cW),bk.put o.dst (fin h2)⟩
     .exact h.elim
    .split at h
     .rename_i cs v dp;obtain⟨h1,h2⟩:=ZX h;obtain⟨u,h3,h4⟩:=FN (bk.evs gu) (λ_=>rfl) bk.leB bk.obj dp (h2 (bM e));exact⟨u,_,tb',h3,ZQ h1,(ZN _ _ _).trans (Vj cW),bk.put o.dst (fin h4)⟩
     .exact h.elim
   .have fin:∀ v,SR P B pl tb' (.grd gs (P2 v)) undef:=λv=>by
     simp only[SR];obtain⟨g,hg,aG⟩:=bw e;exact⟨⟨dm,S7 v⟩,λhall=>absurd (hall g hg) aG,λ_=>trivial⟩
    split at h
    .split at h
     .exact⟨_,tb',ZQ h,(ZN _ _ _).trans (Vj cW),bk.put o.dst (fin _)⟩
     .exact h.elim
    .split at h
     .exact⟨_,tb',ZQ (ZX h).1,(ZN _ _ _).trans (Vj cW),bk.put o.dst (fin _)⟩
     .exact h.elim
theorem Q1m {bs:List OB}{q:Prop}(h:Q7z bs q):(∀ b∈bs,b.wf)/\q:=by
 induction bs with
 |nil=>exact⟨(λb hb=>by cases hb),h⟩
 |cons b r ih =>obtain⟨h1,h2⟩:=h;obtain⟨h3,h4⟩:=ih h2;exact(by simp_all)
mutual
theorem Q3l {d nt:Nat}:∀ (v:SV),v.ret 0=true->(v.ren d nt).ret 0=true
 |.val k x,h=>h
 |.nilS,_|.nilP,_|.nilM,_|.nilF,_=>rfl
 |.lst j,h|.box j _,h|.map j,h=>by simp[SV.ret,Nat.blt] at h
 |.agg l,h=>by simp only[SV.ren,SV.ret] at h |-;exact L4 l h
 |.tup l,h=>by simp only[SV.ren,SV.ret] at h |-;exact L4 l h
 |.any,h|.bid _ _,h|.grd _ _,h|.sub _ _ _ _,h|.elp _ _ _ _,h|.rop _ _ _ _,h|.cp _ _,h|.fn _ _ _,h|.pf _ _ _ _,h=>by cases h
theorem L4 {d nt:Nat}:∀ (v:List SV),SVs.ret 0 v=true->SVs.ret 0 (SVs.ren d nt v)=true
 |[],_=>rfl
 |s::ss,h=>by simp only[SVs.ret,SVs.ren,z0] at h |-;exact⟨Q3l s h.1,L4 ss h.2⟩
end
theorem WT {C:Cx}(az:COk P C) {B F:Heap}{pl:Nat->Value}{tb:Nat->Option Bool}{s:St}{env:Env}{U:Heap}(hG:Gam P B F pl tb s env U) {d:Nat}{f:SV}{args:List SV}{K:List Nat->SV->St->Prop}(h:BI C d f args s K) {fV:Value}{vs:List Value}
  (hf:SR P U XU JE f fV) (ha:SRs P U XU JE args vs):∃ g a b u U' ts v s' pl',fV=.func (.func g) a b/\(VCalled P g (a.toList++vs++b.toList) U λu' aF=>u'=u/\aF=U')/\K ts v s'/\Gam P B F pl' tb s' env U'/\SR P B pl' tb v u/\(ts=[]->U'=U/\pl'=pl/\s'=s)/\U.Le U'/\Dead U U'/\FrL ts s s' pl pl' U U':=by
 unfold BI at h;split at h
 .rename_i c v bs heq;cases hb:(v.ret bs.length&&(bs.all OB.ret&&(Nat.blt 0 C.nt&&(bs.all OB.isL&&UN v)))) with
  |false=>rw[hb] at h;exact h.elim
  |true =>
   rw[hb] at h;obtain⟨h1,h2⟩:=h;obtain⟨h3,h4⟩:=Q1m h2;simp only[z0] at hb;obtain⟨hv,ky,ek,hl,cU⟩:=hb;obtain⟨g,a,b,e,_,hx⟩:=Jm az.cs hf ha heq hv ky h1;have dk:=Oq (P:=P) U hv cU ky hl (λb hb=>by have:=h3 b hb;cases b<;>exact this);by_cases b_:bs=[]
   .subst b_;obtain⟨k1,k2⟩:=dk.flat hv;refine⟨g,a,b,_,_,_,_,_,pl,e,hx hl cU,h4,?_,?_,λ_=>⟨k1,rfl,rfl⟩,dk.1.1,dk.1.2,λq _=>⟨rfl,rfl,λ_ _ _=>by rw[k1]⟩⟩
    .rw[k1];exact hG
    .exact SR.retd (B:=hNil) (pl:=pl) (tb:=JE) (n:=0) (λj hj=>by omega) _ _ (Q3l v hv) (by grind [SR.ren])
   .obtain⟨pl',h5,h6,h7⟩:=dk.gamF (nt:=C.nt) (d:=d) (by simpa [zA] using ek) hG hv ky;refine⟨g,a,b,_,_,_,_,_,pl',e,hx hl cU,h4,h5,h6,(by simp_all),dk.1.1,dk.1.2,λq hq=>h7 q λj hj e=>hq ?_⟩;exact zS.2 ⟨j,xk.2 hj,e.symm⟩
 .exact h.elim
def Q1v:VOp->Bool
 |.callF ..|.callV ..=>true
 |.ext (.rangeMap _)|.ext (.nextMap _)|.ext (.rangeStr _)|.ext (.nextStr _)=>true
 |_=>false
theorem Z85 {C:Cx}{B F:Heap}{pl:Nat->Value}{tb:Nat->Option Bool}{s:St}{env:Env}{U:Heap}(hG:Gam P B F pl tb s env U) {d:Nat}{o:VOp}{K:SV->St->Prop}(h:gn C d o (gev [] s.env) s K) (hc:Q1v o=false) :
  NOk P B F tb o (Q5 env) env U K (Z1 d o (gev [] s.env)) s pl:=by
 have al:=hG.evs (Gds.nil (tb:=tb));cases o
 case alloc t z=>exact Q8x al hG h
 case box t x=>exact Z62 al hG h
 case buildSlice e z n ps=>exact GO al hG h
 case makeSlice e b z l c=>exact Cn al hG h
 case append e b x y=>exact Q3m al hG h
 case store size a x=>exact Q7w al hG h
 case callF=>cases hc
 case callV=>cases hc
 case ext x =>
  cases x
  case mapUpdate mk m k v=>exact L2 al hG h
  case delete mk m k=>exact Q3a al hG h
  case mapEntry mk z m k=>exact Ev al hG h
  case entryStore m s v=>exact TJ al hG h
  case copy size a b=>exact False.elim h
  case unsafeStr e a n=>exact False.elim h
  case strBytes e a=>exact False.elim h
  case rangeMap=>cases hc
  case nextMap=>cases hc
  case rangeStr=>cases hc
  case nextStr=>cases hc
  all_goals exact h.elim
 all_goals exact h.elim
theorem Ib {o:VOp}{ev:Operand->Value}{U U':Heap}{u:Value}(hm:LR o=true) (h:Q8 o ev U=some (u,U')):U.Le U':=by
 have push:∀ b:Blk,U.Le (U.push b):=λb=>(Heap.Le.refl U).push b;cases o<;>first|(cases hm;done)|skip
 case alloc t z=>obtain⟨rfl,rfl⟩:=Jf h;exact push _
 case box t x =>
  simp only[Q8] at h
  grind
 case buildSlice e z n ps =>
  simp only[Q8] at h
  grind
 case makeSlice e b z l c =>
  simp only[Q8] at h
  grind
def stM:MK:=.agg [.int .i64,.int .i64]
def Z4i:Option JO->Value
 |some e=>e.2.1
 |none=>.int .i64 0
def LkE (es bJ:List JO):Prop:=(es.all (λe=>ZF stM e.1)=true->bJ.all (λe=>ZF stM e.1)=true)/\(es.all (λe=>ZF stM e.1)=true->∀ k,ZF stM k=true->Z4i (Qh k bJ)=Z4i (Qh k es))
theorem LkE.trans {a b c:List JO}(h:LkE a b) (h':LkE b c):LkE a c:=⟨λk=>h'.1 (h.1 k),λk x hx=>(h'.2 (h.1 k) x hx).trans (h.2 k x hx)⟩
theorem Q1g {v:Value}(h:ZF stM v=true):∃ a b,v=.agg #[.int .i64 a,.int .i64 b]:=by
 cases v with
 |agg l =>
  simp only[ZF,stM] at h;obtain⟨l⟩:=l
  match l,h with
  |[],h=>simp[fits] at h
  |[x],h=>cases x<;>simp[fits,Z0q] at h
  |[x,y],h =>simp only[fits,z0] at h;obtain⟨hx,hy,_⟩:=h;cases x<;>simp[Z0q] at hx;cases y<;>simp[Z0q] at hy;simp_all
  |x::y::z::r,h=>simp[fits] at h
 |_=>simp[ZF,stM] at h
theorem Z38 {a b c e:Int}:XT (.agg #[.int .i64 a,.int .i64 b]) (.agg #[.int .i64 c,.int .i64 e])=(a==c&&b==e):=by simp[XT,QD,UE]
theorem Q89 {k0:Value}{clock:Nat}(iw:ZF stM k0=true):∀ {es:List JO},LkE es (Qx k0 (Z4i (Qh k0 es)) clock es).1
 |[]=>by refine⟨λ_=>by simp[Qx,iw],λ_ k hk=>?_⟩;simp only[Qx,Qh];cases XT k k0<;>rfl
 |e::es=>by
  have ih:=Q89 (clock:=clock) iw (es:=es);simp only[Qx,Qh];cases he:XT k0 e.1 with
  |true =>
   simp only[zt];refine⟨λh=>?_,λh k hk=>?_⟩
   .grind
   .simp only[zP,z0] at h;obtain⟨a,b,rfl⟩:=Q1g iw;obtain⟨a1,b1,h1⟩:=Q1g h.1;obtain⟨a2,b2,rfl⟩:=Q1g hk;have heq:(a==a1&&b==b1)=true:=by rw[<-Z38,<-h1];exact he
    simp only[z0,zX] at heq;obtain⟨rfl,rfl⟩:=heq;simp only[Qh,h1,Z38];cases (a2==a&&b2==b)<;>rfl
  |false =>
   simp only[zm,if_false];refine⟨λh=>?_,λh k hk=>?_⟩
   .simp only[zP,z0] at h |-;exact⟨h.1,ih.1 h.2⟩
   .simp only[zP,z0] at h;simp only[Qh];cases XT k e.1 with
    |true=>rfl
    |false=>exact ih.2 h.2 k hk
theorem Q6h {mk:MK}{z:Value}(h:stP mk z=true):mk=stM/\z=.int .i64 0:=by
 unfold stP at h;split at h
 .exact⟨rfl,by rw[eq_of_beq h]⟩
 .cases h
def Q4q (U:Heap) (own:Own) (pl:Nat->Value) (Q:Heap->Prop):Option Nat->Prop
 |none=>∀ Z,U.Le Z->Q Z
 |some q=>(Q9 own (q / 2)).live=true/\∃ i b,Oid (pl (q / 2)) i/\U.get i=some b/\(∀ Z,Z.get i=some b->Q Z)/\(q % 2=1->∃ es c wr,b=.obj (.map es c) wr/\∀ Z bJ c',LkE es bJ->Z.get i=some (.obj (.map bJ c') wr)->Q Z)
structure DSt (hs:List Heap) (U:Heap) (pend:List (Nat×(Heap->Prop))) (hl chg:Nat) (A R:List (Nat×Option Nat)) (own:Own) (pl:Nat->Value):Prop where
 len:hs.length=hl
 same:∀ j Z,chg<=j->hs[j]?=some Z->Z=U
 pend:∀ c∈pend,c.1<hl\/∃ r∈R,c.1<=r.1/\Q4q U own pl c.2 r.2
 fr:∀ j Z q i,hs[j]?=some Z->ZO A j q=true->(Q9 own q).live=true->Oid (pl q) i->Z.get i=U.get i
theorem V4 {r:Nat}{U:Heap}:∀ {l:List (Nat×(Heap->Prop))},(∀ c∈l,r<=c.1->c.2 U)->XK r U l
 |[],_=>trivial
 |c::l,h=>⟨h c (by simp),V4 λc' dg=>h c' (by simp[dg])⟩
theorem W2 {hs:List Heap}{U' Z:Heap}{j:Nat}(h:(hs++[U'])[j]?=some Z):(j<hs.length/\hs[j]?=some Z)\/(j=hs.length/\Z=U'):=by
 grind
theorem AS {a:Nat×Option Nat}{A:List (Nat×Option Nat)}{j q:Nat}(h:ZO (a::A) j q=true) (hj:j<=a.1):(∃ t,a.2=some t/\t≠q)/\ZO A j q=true:=by
 simp only[ZO,zP,z0,zr,zA] at h;refine⟨?_,h.2⟩;rcases h.1 with h|h
 .omega
 .split at h
  .rename_i t ht;exact⟨t,ht,λe=>by subst e;simp at h⟩
  .cases h
theorem DSt.stay {hs:List Heap}{U:Heap}{pend:List (Nat×(Heap->Prop))}{hl chg:Nat}{A R:List (Nat×Option Nat)}{own:Own}{pl:Nat->Value}(h:DSt hs U pend hl chg A R own pl) :
  XK hs.length U pend/\DSt (hs++[U]) U pend (hl+1) chg A R own pl:=by
 have hr:∀ c∈pend,∀ r∈R,Q4q U own pl c.2 r.2->c.2 U:=λc _ r _ ak=>by
  unfold Q4q at ak;split at ak
  .exact ak U (.refl _)
  grind
 refine⟨V4 λc hc hle=>?_,⟨by simp[h.len],λj Z hj ht=>?_,λc hc=>?_,λj Z q i ht hu hl hi=>?_⟩⟩
 .rcases h.pend c hc with h1|⟨r,h1,_,h2⟩
  .rw[h.len] at hle;omega
  .exact hr c hc r h1 h2
 .rcases W2 ht with⟨_,h1⟩|⟨_,h1⟩
  .exact h.same j Z hj h1
  .exact h1
 .rcases h.pend c hc with h1|h1
  .exact .inl (by omega)
  .exact .inr h1
 .rcases W2 ht with⟨_,h1⟩|⟨_,rfl⟩
  .exact h.fr j Z q i h1 hu hl hi
  .rfl
theorem DSt.write {hs:List Heap}{U U':Heap}{pend:List (Nat×(Heap->Prop))}{hl chg:Nat}{A R:List (Nat×Option Nat)}{s s':St}{pl pl':Nat->Value}(h:DSt hs U pend hl chg A R s.own pl) {T:Nat}(hf:Fr T s s' pl pl' U U') {mk ext:Bool}(hm:mk=true->U.Le U')
  (hE:ext=true->(Q9 s'.own T).live=true/\pl' T=pl T/\∃ i es c bJ c',pl T=.map (some i)/\U.get i=some (.obj (.map es c) true)/\U'.get i=some (.obj (.map bJ c') true)/\LkE es bJ)
  (hc:((mk&&IM R hl T)||E8 R hl T||(ext&&Z5j R hl T))=true) (br:0<hl):XK hs.length U' pend/\DSt (hs++[U']) U' pend (hl+1) hl ((hl-1,some T)::A) R s'.own pl':=by
 have hr:∀ Q:Heap->Prop,∀ r∈R,hl<=r.1->Q4q U s.own pl Q r.2->Q4q U' s'.own pl' Q r.2:=λQ r lA bI ak=>by
  have hq:∀ q,r.2=some q->q / 2=T->q % 2=1/\ext=true:=λq hq e=>by
   subst e;simp only[zr,z0,IM,E8,Z5j] at hc;rcases hc with (⟨_,hc⟩|hc)|⟨he,hc⟩
   .have:=zf.1 hc r lA;rw[hq] at this;simp only[zr,zA,Nat.beq_refl,y7,zm,or_false] at this;omega
   .have:=zf.1 hc r lA;rw[hq] at this;simp only[zr,zA,Nat.beq_refl,y7,zm,or_false] at this;omega
   .have:=zf.1 hc r lA;rw[hq] at this;simp only[zr,zA,Nat.beq_refl,y7,zm,false_or] at this
    grind [Nat.eq_of_beq_eq_true]
  cases e:r.2 with
  |none =>
   rw[e] at ak;have bL:mk=true:=by
    simp only[zr,z0,E8,Z5j] at hc;rcases hc with (⟨hc,_⟩|hc)|⟨_,hc⟩
    .exact hc
    .have:=zf.1 hc r lA;rw[e] at this;simp only[zr,zA,zm,or_false] at this;omega
    .have:=zf.1 hc r lA;rw[e] at this;simp only[zr,zA,zm,or_false] at this;omega
   exactλZ ht=>ak Z ((hm bL).trans ht)
  |some q =>
   rw[e] at ak;obtain⟨k1,i,b,k2,k3,k4⟩:=ak;by_cases nV:q / 2=T
   .obtain⟨ho,he⟩:=hq q e nV;obtain⟨g1,g2,i',es,c,bJ,c',g3,g4,g5,g6⟩:=hE he;obtain⟨k5,k6⟩:=k4;obtain⟨wC,c0,wr,rfl,k7⟩:=k6 ho;rw[nV] at k1 k2;have hi:i=i':=Q7s (by rw[g3];rfl) k2;subst hi;rw[g4] at k3;cases k3;refine⟨by rw[nV];exact g1,i,_,by rw[nV,g2];exact k2,g5,λZ hτ=>k7 Z _ _ g6 hτ,λ_=>⟨_,_,_,rfl,λZ uR wD hl hτ=>k7 Z _ _ (g6.trans hl) hτ⟩⟩
   .obtain⟨f1,f2,f3⟩:=hf (q / 2) nV;exact⟨by rw[f1];exact k1,i,b,by rw[f2];exact k2,by rw[f3 k1 i k2];exact k3,k4⟩
 have now:∀ Q:Heap->Prop,∀ r,Q4q U' s'.own pl' Q r->Q U':=λQ r ak=>by
  unfold Q4q at ak;split at ak
  .exact ak U' (.refl _)
  grind
 refine⟨V4 λc hc hle=>?_,⟨by simp[h.len],λj Z hj ht=>?_,λc hc=>?_,λj Z q i ht hu bN hi=>?_⟩⟩
 .rw[h.len] at hle;rcases h.pend c hc with h1|⟨r,h1,h2,h3⟩
  .omega
  grind
 .rcases W2 ht with⟨h1,_⟩|⟨_,h1⟩
  .rw[h.len] at h1;omega
  .exact h1
 .rcases h.pend c hc with h1|⟨r,h1,h2,h3⟩
  .exact .inl (by omega)
  grind
 .rcases W2 ht with⟨h1,h2⟩|⟨_,rfl⟩
  .rw[h.len] at h1;obtain⟨⟨t,ht,uS⟩,dJ⟩:=AS hu (by simp only;omega);obtain rfl:=osj ht;obtain⟨f1,f2,f3⟩:=hf q (Ne.symm uS);rw[f1] at bN;rw[f2] at hi;rw[f3 bN i hi];exact h.fr j Z q i h2 dJ bN hi
  .rfl
theorem HJ {ts:List Nat}{hl j q:Nat}{A:List (Nat×Option Nat)}(h:ZO (ts.map (λt=>(hl,some t))++A) j q=true) (hj:j<=hl):q∉ts/\ZO A j q=true:=by simp only[ZO,List.all_append,z0] at h |-;refine⟨λhm=>?_,h.2⟩;have:=zf.1 h.1 (hl,some q) (zS.2 ⟨q,hm,rfl⟩);simp only[zr,zA,Nat.beq_refl,y7,zm,or_false] at this;omega
theorem DSt.call {hs:List Heap}{U U':Heap}{pend:List (Nat×(Heap->Prop))}{hl chg:Nat}{A R:List (Nat×Option Nat)}{s s':St}{pl pl':Nat->Value}(h:DSt hs U pend hl chg A R s.own pl) (hle:U.Le U') {Ts:List Nat}(hf:FrL Ts s s' pl pl' U U') (br:0<hl) :
  XK hs.length U' pend/\DSt (hs++[U']) U' pend (hl+1) hl (Ts.map (λt=>(hl-1,some t))++A) (R.map λr=>(r.1,none)) s'.own pl':=by
 have hr:∀ Q r,Q4q U s.own pl Q r->∀ Z,U'.Le Z->Q Z:=λQ r ak Z ht=>by
  unfold Q4q at ak;split at ak
  .exact ak Z (hle.trans ht)
  .obtain⟨_,i,b,_,h2,h3,_⟩:=ak;exact h3 Z (ht.2 _ _ (hle.2 _ _ h2))
 refine⟨V4 λc hc hle=>?_,⟨by simp[h.len],λj Z hj ht=>?_,λc hc=>?_,λj Z q i ht hu bN hi=>?_⟩⟩
 .rcases h.pend c hc with h1|⟨r,h1,_,h2⟩
  .rw[h.len] at hle;omega
  .exact hr _ _ h2 _ (.refl _)
 .rcases W2 ht with⟨h1,_⟩|⟨_,h1⟩
  .rw[h.len] at h1;omega
  .exact h1
 .rcases h.pend c hc with h1|⟨r,h1,h2,h3⟩
  .exact .inl (by omega)
  .exact .inr ⟨(r.1,none),zS.2 ⟨r,h1,rfl⟩,h2,hr _ _ h3⟩
 .rcases W2 ht with⟨h1,h2⟩|⟨_,rfl⟩
  .rw[h.len] at h1;obtain⟨hq,dJ⟩:=HJ hu (by omega);obtain⟨f1,f2,f3⟩:=hf q hq;rw[f1] at bN;rw[f2] at hi;rw[f3 bN i hi];exact h.fr j Z q i h2 dJ bN hi
  .rfl
theorem DSt.writeD {hs:List Heap}{U U':Heap}{pend:List (Nat×(Heap->Prop))}{hl chg:Nat}{A R:List (Nat×Option Nat)}{s s':St}{pl pl':Nat->Value}(h:DSt hs U pend hl chg A R s.own pl) {Ts:List Nat}(hf:FrL Ts s s' pl pl' U U') {mk:Bool}(hm:mk=true->U.Le U')
  (hc:Q56 mk R hl Ts=true) (br:0<hl):XK hs.length U' pend/\DSt (hs++[U']) U' pend (hl+1) hl (Ts.map (λt=>(hl-1,some t))++A) R s'.own pl':=by
 have hr:∀ Q:Heap->Prop,∀ r∈R,hl<=r.1->Q4q U s.own pl Q r.2->Q4q U' s'.own pl' Q r.2:=λQ r lA bI ak=>by
  have lB:=zf.1 hc r lA;have lB:(match r.2 with|some q=>Ts.all (λt=>!(Nat.beq (q / 2) t))|none=>mk)=true:=by rw[zr,zA] at lB;exact lB.resolve_left (by omega)
  cases e:r.2 with
  |none =>rw[e] at ak lB;exactλZ ht=>ak Z ((hm lB).trans ht)
  |some q =>
   rw[e] at ak lB;obtain⟨k1,i,b,k2,k3,k4⟩:=ak;obtain⟨f1,f2,f3⟩:=hf (q / 2) λhq=>by have:=zf.1 lB (q / 2) hq;simp at this
   exact⟨by rw[f1];exact k1,i,b,by rw[f2];exact k2,by rw[f3 k1 i k2];exact k3,k4⟩
 have now:∀ Q:Heap->Prop,∀ r,Q4q U' s'.own pl' Q r->Q U':=λQ r ak=>by
  unfold Q4q at ak;split at ak
  .exact ak U' (.refl _)
  grind
 refine⟨V4 λc hc hle=>?_,⟨by simp[h.len],λj Z hj ht=>?_,λc hc=>?_,λj Z q i ht hu bN hi=>?_⟩⟩
 .rw[h.len] at hle;rcases h.pend c hc with h1|⟨r,h1,h2,h3⟩
  .omega
  grind
 .rcases W2 ht with⟨h1,_⟩|⟨_,h1⟩
  .rw[h.len] at h1;omega
  .exact h1
 .rcases h.pend c hc with h1|⟨r,h1,h2,h3⟩
  .exact .inl (by omega)
  grind
 .rcases W2 ht with⟨h1,h2⟩|⟨_,rfl⟩
  .rw[h.len] at h1;obtain⟨hq,dJ⟩:=HJ hu (by omega);obtain⟨f1,f2,f3⟩:=hf q hq;rw[f1] at bN;rw[f2] at hi;rw[f3 bN i hi];exact h.fr j Z q i h2 dJ bN hi
  .rfl
theorem Al {hl d j q:Nat}{A:List (Nat×Option Nat)}(h:ZO ((hl,none)::A) j q=true):ZO ([d].map (λt=>(hl,some t))++A) j q=true:=by simp only[ZO,zP,z0,zr,zm,or_false,zO,List.map_nil,xq,xD] at h |-;exact⟨.inl h.1,h.2⟩
theorem DSt.frozen {hs:List Heap}{U:Heap}{pend:List (Nat×(Heap->Prop))}{hl chg m d:Nat}{A R:List (Nat×Option Nat)}{own:Own}{pl:Nat->Value}(h:DSt hs U pend hl chg ([d].map (λt=>(m,some t))++A) R own pl):DSt hs U pend hl chg ((m,none)::A) R own pl :=
 ⟨h.len,h.same,h.pend,λj Z q i ht hu=>h.fr j Z q i ht (Al hu)⟩
theorem Sb {ts:List Nat}{m j:Nat}{A:List (Nat×Option Nat)}(h:Pc (ts.map (λt=>(m,some t))++A) j=true):Pc A j=true:=by simp only[Pc,List.all_append,z0] at h;exact h.2
theorem Co {a:Nat×Option Nat}{j:Nat}{A:List (Nat×Option Nat)}(h:Pc (a::A) j=true):Pc A j=true:=by simp only[Pc,zP,z0] at h;exact h.2
theorem EN {C:Cx}{f:SV}{args:List SV}{cs:List Prop}{v:SV}(h:Q82 C f args=some (cs,v)):∃ c ty k xs nl,UQ C.cs f args=some (c,.lst 0,[.lst ty k xs nl])/\cs=[c,nl=true->xs=[]]/\v=.val (.list k) xs/\k.flat=true/\0<C.nt:=by
 unfold Q82 at h;split at h
 .rename_i heq;split at h
  .rename_i k xs nl;cases hc:(k.flat&&Nat.blt 0 C.nt) with
   |false=>rw[hc] at h;cases h
   |true =>rw[hc] at h;obtain⟨rfl,rfl⟩:=Jf h;simp only[z0,zA] at hc;exact(by grind)
  .cases h
 .cases h
theorem OT {b:OB}(h:b.here=true):b.live=true:=by cases b<;>first|rfl|cases h
theorem Vc {B F:Heap}{pl:Nat->Value}{tb:Nat->Option Bool}{s:St}{env:Env}{U:Heap}(hG:Gam P B F pl tb s env U) {o:VOp}{q:Nat}(h:GA o (gev [] s.env) s.own=some q) {u:Value}{σ2:Heap}(hv:Q8 o (Q5 env) U=some (u,σ2)) :
  (Q9 s.own (q / 2)).live=true/\∃ i b,Oid (pl (q / 2)) i/\U.get i=some b/\(∀ Z,Z.get i=some b->Q8 o (Q5 env) Z=some (u,Z))/\(q % 2=1->∃ es c wr,b=.obj (.map es c) wr/\∀ Z bJ c',LkE es bJ->Z.get i=some (.obj (.map bJ c') wr)->Q8 o (Q5 env) Z=some (u,Z)):=by
 have two:∀ q,2*q / 2=q:=λq=>by omega
 have nW:∀ q,(2*q+1) / 2=q:=λq=>by omega
 have odd:∀ {q} {X:Prop},2*q % 2=1->X:=λ{q X} h=>by omega
 unfold GA at h;split at h
 .rename_i agg size a;have ha:=hG.evs (Gds.nil (tb:=tb)) a;have key:∀ q i off,(Q9 s.own q).live=true->Oid (pl q) i->Q5 env a=.pointer (some ⟨i,off,none⟩)->(Q9 s.own q).live=true/\∃ i b,Oid (pl q) i/\U.get i=some b/\∀ Z,Z.get i=some b->Q8 (.load agg size a) (Q5 env) Z=some (u,Z):=λq i off hl hi he=>by
   simp only[Q8,he] at hv;cases hb:U.get i with
   |none=>rw[hb] at hv;cases hv
   |some b =>
    refine⟨hl,i,b,hi,hb,λZ ht=>?_⟩;rw[hb] at hv;simp only[Q8,he,ht];cases b with
    |obj o wr=>cases hv
    |cells c e wr t =>
     simp only at hv |-;split at hv
     .obtain⟨rfl,rfl⟩:=Jf hv;rfl
     .cases hv
  split at h
  .rename_i q' off hx;rw[hx] at ha;simp only[SR] at ha;obtain⟨b,h1,h2⟩:=ha;cases hh:(Q9 s.own q').here with
   |false=>rw[hh] at h;cases h
   |true =>rw[hh] at h;obtain rfl:=osj h;obtain⟨x1,y1,y2,y3,y4,y5⟩:=key q' b off (OT hh) (by rw[h1];rfl) h2;exact⟨by rw[two];exact x1,y1,y2,by rw[two];exact y3,y4,y5,odd⟩
  .rename_i q' i off sz hx;rw[hx] at ha;simp only[SR] at ha;obtain⟨b,len,cap,h1,h2,h3,h4⟩:=ha;cases hh:(Q9 s.own q').here with
   |false=>rw[hh] at h;cases h
   |true =>rw[hh] at h;obtain rfl:=osj h;obtain⟨x1,y1,y2,y3,y4,y5⟩:=key q' b _ (OT hh) (by rw[h1];rfl) h4;exact⟨by rw[two];exact x1,y1,y2,by rw[two];exact y3,y4,y5,odd⟩
  .cases h
 .rename_i mk z x y;cases a9:stP mk z with
  |false=>rw[a9] at h;cases h
  |true =>
   rw[a9] at h;simp only[ze] at h;obtain⟨rfl,rfl⟩:=Q6h a9;split at h
   .rename_i q' hx;split at h
    .rename_i kk vk l ho;obtain rfl:=osj h;have ha:=hG.evs (Gds.nil (tb:=tb)) x;rw[hx] at ha;simp only[SR] at ha;have ai:=hG.obj q';rw[ho] at ai;obtain⟨id,es,c,h2,h3,_⟩:=ai;have aA:∀ (Z:Heap) bJ c' wr,Z.get id=some (.obj (.map bJ c') wr)->Z.mapAt id=some (bJ,c',wr):=λZ bJ c' wr hτ=>by simp[Heap.mapAt,hτ]
     simp only[Q8,J5,ha.1,h2,aA _ _ _ _ h3] at hv;refine⟨by rw[nW,ho];rfl,id,_,by rw[nW,h2];rfl,h3,λZ hτ=>?_,λ_=>⟨es,c,true,rfl,λZ bJ c' hl hτ=>?_⟩⟩
     .simp only[Q8,J5,ha.1,h2,aA _ _ _ _ hτ]
      grind
     .simp only[Q8,J5,ha.1,h2,aA _ _ _ _ hτ];split at hv
      .rename_i ja;split at hv
       .rename_i jb;rw[z6 ja,z6 (hl.1 jb)];have cN:=hl.2 jb _ ja;cases he:Qh (Q5 env y) es with
        |some e =>
         rw[he] at hv cN;obtain⟨rfl,rfl⟩:=Jf hv;cases hm:Qh (Q5 env y) bJ with
         |some e'=>rw[hm] at cN;simp only[Z4i] at cN;simp[cN]
         |none=>rw[hm] at cN;simp only[Z4i] at cN;simp[<-cN]
        |none =>
         rw[he] at hv cN;obtain⟨rfl,rfl⟩:=Jf hv;cases hm:Qh (Q5 env y) bJ with
         |some e'=>rw[hm] at cN;simp only[Z4i] at cN;simp[cN]
         |none=>rfl
       .cases hv
      .cases hv
    .cases h
   .cases h
 .rename_i sz x lo hi;split at h
  .rename_i q' hx;split at h
   .rename_i ty k xs nl ho;cases nl with
    |true=>cases h
    |false =>
     obtain rfl:=osj h;have ha:=hG.evs (Gds.nil (tb:=tb)) x;rw[hx] at ha;simp only[SR] at ha;have ai:=hG.obj q';rw[ho] at ai;rcases ai with⟨h0,_⟩|⟨_,i,cap,c,t,h3,h4,h5,h6,h7⟩
     .cases h0
     .refine⟨by rw[two,ho];rfl,i,_,by rw[two,h3];rfl,h5,λZ hτ=>?_,odd⟩;simp only[Q8,ha.1,h3] at hv |-;cases e1:Jz (Q5 env) lo 0 with
      |none=>rw[e1] at hv;cases hv
      |some a =>
       cases e2:Jz (Q5 env) hi xs.length with
       |none=>rw[e1,e2] at hv;cases hv
       |some b =>
        rw[e1,e2] at hv;simp only[YK,h5] at hv;simp only[YK,hτ];split at hv
        .simp_all
        .cases hv
   .cases h
  .cases h
 .cases h
theorem DV {r:Nat}{U:Heap}:∀ {l:List (Nat×(Heap->Prop))},XK r U l->∀ {c},c∈l->r<=c.1->c.2 U
 |c::l,h,c',hc,hr=>by
  rcases zN.1 hc with rfl|hc
  .exact h.1 hr
  .exact DV h.2 hc hr
theorem B3 {B F:Heap}{pl:Nat->Value}{tb:Nat->Option Bool}{s:St}{env:Env}{U:Heap}(hG:Gam P B F pl tb s env U) {gs:List Gd}(hg:Gds tb gs) {o:VOp}(h:Z5i o (gev gs s.env)=true) {u:Value}{σ2:Heap}(hv:Q8 o (Q5 env) U=some (u,σ2)) :
  ∀ Z,B.Le Z->Q8 o (Q5 env) Z=some (u,Z):=by
 unfold Z5i at h;split at h
 .rename_i agg size a;have ha:=hG.evs hg a;have key:∀ i off,(∃ b,B.get i=some b)->Q5 env a=.pointer (some ⟨i,off,none⟩)->∀ Z,B.Le Z->Q8 (.load agg size a) (Q5 env) Z=some (u,Z):=λi off ⟨b,hb⟩ he Z hτ=>by
   simp only[Q8,he,hG.leB.2 _ _ hb] at hv;simp only[Q8,he,hτ.2 _ _ hb]
   grind
  split at h
  .rename_i k l i off hx;rw[hx] at ha;simp only[SR] at ha
   grind
  .rename_i l off hx;rw[hx] at ha;simp only[SR] at ha
   grind
  .cases h
 .cases h
theorem Q72 {C:Cx}{B F:Heap}{pl:Nat->Value}{tb:Nat->Option Bool}{s:St}{env:Env}{U:Heap}(hG:Gam P B F pl tb s env U) {d:Nat}{o:VOp}{K:SV->St->Prop}(h:gn C d o (gev [] s.env) s K) (hc:Q1v o=false) :
  ∃ u U' pl' v s',Q8 o (Q5 env) U=some (u,U')/\K v s'/\(Gam P B F pl' tb s' env U'/\Fr (Z1 d o (gev [] s.env)) s s' pl pl' U U')/\SR P B pl' tb v u /\
  (EA o=true->(Q9 s'.own (Z1 d o (gev [] s.env))).live=true/\pl' (Z1 d o (gev [] s.env))=pl (Z1 d o (gev [] s.env))/\∃ i es c bJ c',pl (Z1 d o (gev [] s.env))=.map (some i)/\U.get i=some (.obj (.map es c) true)/\U'.get i=some (.obj (.map bJ c') true)/\LkE es bJ):=by
 cases he:EA o with
 |false =>obtain⟨u,U',pl',v,s',h1,h2,h3,h4⟩:=Z85 hG h hc;exact(by grind)
 |true =>
  unfold EA at he;split at he
  .rename_i mk z m kx;obtain⟨rfl,rfl⟩:=Q6h he;obtain⟨u,U',v,s',T,kv,aX,i,es,c,rfl,h1,h2,h3,h4,h5,h6,h7,h8,h9,bW,gJ⟩:=Sw (hG.evs (Gds.nil (tb:=tb))) hG h;refine⟨u,U',pl,v,s',h1,h2,h3,h4,λ_=>⟨h5,rfl,i,es,c,_,_,h6,h7,h8,?_⟩⟩;have:aX=Z4i (Qh kv es):=by rw[gJ];cases Qh kv es<;>rfl
   rw[this];exact Q89 h9
  .cases he
def JN (S:VSpecs):List DOper->Env->List Heap->Heap->List (Nat×(Heap->Prop))->(Env->Heap->Prop)->Prop
 |[],env,_,U,_,K=>K env U
 |o::rest,env,hs,U,pend,K=>Zm (JD env o.guard) λb =>
   vif b (if o.kind=2 then PF (λR=>vop S o.op env U R) λv U'=>XK hs.length U' pend/\JN S rest (XH env o.dst v) (hs++[U']) U' pend K
     else if o.kind=1 then Zm (Q8 o.op (Q5 env) U) λp=>(∀ Z∈hs.drop o.kmin,XD o.op (Q5 env) p.1 Z) /\
      JN S rest (XH env o.dst p.1) hs U (if hs.length<=o.kmax then (o.kmax,XD o.op (Q5 env) p.1)::pend else pend) K
     else Zm (Q8 o.op (Q5 env) U) λp=>JN S rest (XH env o.dst p.1) hs U pend K)
    (if o.kind=2 then XK hs.length U pend/\JN S rest (XH env o.dst undef) (hs++[U]) U pend K else JN S rest (XH env o.dst undef) hs U pend K)
theorem C6 {α:Type}{o:Option α}{f g:α->Prop}(h:Zm o f) (uT:∀ a,f a->g a):Zm o g:=by
 cases o with
 |none=>exact h.elim
 |some a=>exact uT a h
theorem YX {S:VSpecs}{K:Env->Heap->Prop}:∀ {ops:List DOper}{env:Env}{hs:List Heap}{U:Heap}{pend:List (Nat×(Heap->Prop))},JN S ops env hs U pend K->Z_ S ops env hs U pend K
 |[],_,_,_,_,h=>h
 |o::r,env,hs,U,pend,h=>by
  simp only[JN] at h;simp only[Z_];refine C6 h λb h=>⟨λe=>?_,λe=>?_⟩
  .have h:=h.1 e;split at h
   .rename_i hk;rw[z6 hk];obtain⟨v,U',h1,h2,h3⟩:=h;exact .inl ⟨v,U',h1,h2,YX h3⟩
   .rename_i hk;rw[z7 hk];split at h
    .rename_i bp;rw[z6 bp];exact C6 h λp h=>⟨h.1,YX h.2⟩
    .rename_i bp;rw[z7 bp];exact C6 h λp h=>YX h
  .have h:=h.2 e;split at h
   .rename_i hk;rw[z6 hk];exact⟨h.1,YX h.2⟩
   .rename_i hk;rw[z7 hk];exact YX h
theorem Qw {C:Cx}(az:COk P C) (bH:C.xs=[]) {B0 F0 D0:Heap}:∀ (ops:List DOper),(∀ o∈ops,o.kind=o.op.kind)->∀ {s:St}{env:Env}{U:Heap}{B F:Heap}{pl:Nat->Value}{tb:Nat->Option Bool},GBase B0 F0 D0 B F U->Gam P B F pl tb s env U->∀ {hl chg:Nat}{A Rd:List (Nat×Option Nat)}{hs:List Heap}{pend pd:List (Nat×(Heap->Prop))},DSt hs U pd hl chg A Rd s.own pl->(∀ c∈pend,(∀ Z,B.Le Z->c.2 Z)\/c∈pd)->(∀ j Z,hs[j]?=some Z->Pc A j=true->B.Le Z)->chg<=hl->0<hl ->
  ∀ {K:St->Prop},Wg C ops s hl chg A Rd K->∀ {R:Env->Heap->Prop},(∀ s' ae U',K s'->GRel P B0 F0 D0 s' ae U'->R ae U')->JN (Q4 P) ops env hs U pend R
 |[],_,s,env,U,B,F,pl,tb,hB,hG,_,_,_,_,_,_,_,_,_,_,_,_,K,h,R,hK=>hK s env U h ⟨B,F,pl,tb,hB,hG⟩
 |o0::r,iQ,s,env,U,B,F,pl,tb,hB,hG,hl,chg,A,Rd,hs,pend,pd,hD,hp,b_,dI,br,K,h,R,hK=>by
  have eo:∀ {n:Nat}{Z:Heap},B.Le Z->XK n Z pd->XK n Z pend:=λ{n Z} hb hv=>V4 λc hc hn=>(by grind [DV]);have snoc:∀ {Z:Heap}{A':List (Nat×Option Nat)},B.Le Z->(∀ j,Pc A' j=true->Pc A j=true)->∀ j Z',(hs++[Z])[j]?=some Z'->Pc A' j=true->B.Le Z':=(by grind);have b9:∀ o∈r,o.kind=o.op.kind:=(by simp_all);have lC:=iQ o0 zn;unfold Wg at h;split at h
  .rename_i a9;have hw:=Vt hG a9;simp only[JN];rw[hw];refine⟨λe=>(by cases e),λ_=>?_⟩;have bj:=hG.put o0.dst (show SR P B pl tb .any undef by simp[SR]);by_cases aw:o0.kind=2
   .rw[z6 aw] at h |-;obtain⟨k1,k2⟩:=hD.stay;exact⟨eo hG.leB k1,Qw az bH r b9 hB bj (by rw[ZN];exact k2) hp (snoc hG.leB λ_ h=>h) (by omega) (by omega) h hK⟩
   .rw[z7 aw] at h |-;exact Qw az bH r b9 hB bj (by rw[ZN];exact hD) hp b_ dI br h hK
  have bG:(Q4g s.env o0).kind=(Q4g s.env o0).op.kind:=by unfold Q4g;split<;>exact lC
  have cS:JN (Q4 P) (Q4g s.env o0::r) env hs U pend R->JN (Q4 P) (o0::r) env hs U pend R:=λhv=>by
   unfold Q4g at hv;split at hv
   .rename_i a9;simp only[JN] at hv |-;rw[Vt hG a9];exact hv
   .exact hv
  refine cS ?_;clear cS;generalize Q4g s.env o0=o at h bG |-
  replace h:=id h
  simp only[JN];by_cases aw:o.kind=2
  .rw[z6 aw] at h
   have fin:∀ {u:Value}{U':Heap}{ts:List Nat}{v:SV}{s':St}{pl':Nat->Value},(∀ R',R' u U'->vop (Q4 P) o.op env U R')->Wg C r (s'.put o.dst v) (hl+1) (bif ts.isEmpty then chg else hl) (ts.map (λt=>(hl-1,some t))++A) (bif ts.isEmpty then Rd else Rd.map λr=>(r.1,none)) K->Gam P B F pl' tb s' env U'->SR P B pl' tb v u->(ts=[]->U'=U/\pl'=pl/\s'=s)->U.Le U'->Dead U U'->FrL ts s s' pl pl' U U' ->
     PF (λR=>vop (Q4 P) o.op env U R) λv U'=>XK hs.length U' pend/\JN (Q4 P) r (XH env o.dst v) (hs++[U']) U' pend R:=λ{u U' ts v s' pl'} bD nX bk jg he hle hd cJ=>by
    cases ts with
    |nil =>obtain⟨rfl,rfl,rfl⟩:=he rfl;obtain⟨k1,k2⟩:=hD.stay;exact⟨u,U',bD _ ⟨rfl,rfl⟩,eo bk.leB k1,Qw az bH r b9 (D5 hB hd) (bk.put o.dst jg) (by rw[ZN];exact k2) hp (snoc bk.leB λ_ h=>h) (by grind) (by omega) nX hK⟩
    |cons t ts =>obtain⟨k1,k2⟩:=hD.call hle cJ br;exact⟨u,U',bD _ ⟨rfl,rfl⟩,eo bk.leB k1,Qw az bH r b9 (D5 hB hd) (bk.put o.dst jg) (by rw[ZN];exact k2) hp (snoc bk.leB λ_ h=>Sb h) (by simp_all) (by omega) nX hK⟩
   split at h
   .rename_i f args bD;split at h
    .rename_i hg;rw[hg];refine⟨λ_=>?_,λe=>by cases e⟩;rw[z6 aw];rw[bH] at h;simp only[QF] at h;obtain⟨g,a,b,u,U',e,v,s',pl',h1,h2,h3,h4,h5,h6,h7,h8,h9⟩:=WT az hG h (show SR P U XU JE (.fn f [] []) (.func (.func f) #[] #[]) by simp only[SR,SRs];exact⟨[],[],rfl,rfl,rfl⟩) (hG.gcall Gds.nil args);obtain⟨rfl,rfl,rfl⟩:=(by simpa using h1:f=g/\#[]=a/\#[]=b);refine fin (u:=u) (U':=U') (λR' hr=>?_) h3 h4 h5 h6 h7 h8 h9;rw[bD];show VCalled P f (args.map (Q5 env)) U R';have:=h2.mono (R':=R') (by simp_all);simpa using this
    .rename_i j want hg;rw[hg];split at h
     .exact h.elim
     .rename_i gs s1 cW;obtain⟨tb',bk,dm,b,hw,bM,bw⟩:=WU hG cW;have aN:=Vj cW;rw[hw];split at h
      .rename_i cs v dp;cases cU:UN v with
       |false=>rw[cU] at h;exact h.elim
       |true =>
       rw[cU] at h;simp only[ze] at h;obtain⟨h1,h2⟩:=ZX h;obtain⟨k1,k2⟩:=hD.stay;have lx:∀ x,DSt (hs++[U]) U pd (hl+1) chg A Rd (s1.put o.dst x).own pl:=(by grind [ZN]);refine⟨λe=>?_,λe=>?_⟩
       .rw[z6 aw];have gu:Gds tb' gs:=λg hg=>⟨bM e g hg,dm g hg⟩;have lD:∀ {v u},SR P B pl tb' v u->SR P B pl tb' (.grd gs (P2 v)) u:=λ{v u} hs=>by
         simp only[SR]
         grind [Si]
        simp only[gqc] at dp;split at dp
        .rename_i c v' heq;cases cF:v'.ret 0 with
         |false=>rw[cF] at dp;cases dp
         |true =>
          rw[cF] at dp;obtain⟨rfl,rfl⟩:=Jf dp;obtain⟨g,a,b',h3,h4,_⟩:=Jm az.cs (show SR P U XU JE (.fn f [] []) (.func (.func f) #[] #[]) by simp only[SR,SRs];exact⟨[],[],rfl,rfl,rfl⟩) (bk.gcall gu args) heq cF rfl (h2 (bM e) _ (by simp));obtain⟨rfl,rfl,rfl⟩:=(by simpa using h3:f=g/\#[]=a/\#[]=b');refine⟨UY XU v',U,?_,eo hG.leB k1,Qw az bH r b9 hB (bk.put o.dst (lD ?_)) (lx _) hp (snoc hG.leB λ_ h=>h) (by omega) (by omega) (ZQ h1) hK⟩
          .rw[bD];show VCalled P f (args.map (Q5 env)) U _;have:=h4.mono (R':=λu U'=>u=UY XU v'/\U'=U) λu U' hr=>by
            obtain⟨rfl,hu⟩:=hr.flat cF
            grind [Nu]
           simpa using this
          .exact SR.retd (λj hj=>by omega) _ _ cF (Fq (P:=P) (pl:=XU) (m:=0) (λj hj=>by omega) v' cF cU)
        .cases dp
       .rw[z6 aw];obtain⟨g,de,aG⟩:=bw e;exact⟨eo hG.leB k1,Qw az bH r b9 hB (bk.put o.dst (by simp only[SR];exact⟨⟨dm,S7 v⟩,λhall=>absurd (hall g de) aG,λ_=>trivial⟩)) (lx _) hp (snoc hG.leB λ_ h=>h) (by omega) (by omega) (ZQ h1) hK⟩
      .split at h
       .rename_i cs v kA;obtain⟨c,ty,k,xs,nl,heq,rfl,rfl,hk,ek⟩:=EN kA;obtain⟨h1,h2⟩:=ZX h;have frz:∀ {B' U':Heap},B'.Le U'->∀ j Z',(hs++[U'])[j]?=some Z'->Pc ((hl-1,none)::A) j=true->B'.Le Z':=λ{B' U'} hb j Z' hm hn=>by
         rcases W2 hm with⟨h1,_⟩|⟨_,rfl⟩
         .simp only[Pc,zP,z0,zr,zA,Option.isSome_none,zm,or_false] at hn;have:=hD.len;omega
         .exact hb
        refine⟨λe=>?_,λe=>?_⟩
        .rw[z6 aw];have gu:Gds tb' gs:=λg hg=>⟨bM e g hg,dm g hg⟩;have ja:=h2 (bM e) c (by simp);have jb:=h2 (bM e) (nl=true->xs=[]) (by simp);have cW:BI C (C.off+o.dst.getD 0) (.fn f [] []) (Rv s1.own (args.map (gev gs s1.env))) s1 (λts v' s'=>ts=[C.off+o.dst.getD 0]/\v'=.lst (C.off+o.dst.getD 0)/\s'=s1.make (C.off+o.dst.getD 0) (.lst ty k xs nl)):=by
          unfold BI;rw[heq];dsimp only;have ah:(SV.ret [OB.lst ty k xs nl].length (.lst 0)&&([OB.lst ty k xs nl].all OB.ret&&(Nat.blt 0 C.nt&&([OB.lst ty k xs nl].all OB.isL&&UN (.lst 0)))))=true:=by
           simp only[SV.ret,xL,zP,List.all_nil,xW,OB.ret,hk,Bool.true_and,OB.isL,UN];rw[z0]
           grind [Nat.blt_eq]
          rw[ah];simp only[ze,Q7z,OB.wf];refine⟨ja,jb,?_,?_,?_⟩
          .simp[List.range_succ]
          .simp[SV.ren]
          .simp[St.makes]
         obtain⟨g,a,b',u,U',ts,v',s',pl',h3,h4,⟨rfl,rfl,rfl⟩,h5,h6,_,h7,h8,h9⟩:=WT az bk cW (show SR P U XU JE (.fn f [] []) (.func (.func f) #[] #[]) by simp only[SR,SRs];exact⟨[],[],rfl,rfl,rfl⟩) (bk.gcall gu args);obtain⟨rfl,rfl,rfl⟩:=(by simpa using h3:f=g/\#[]=a/\#[]=b');obtain⟨B',F',m1,m2,m3⟩:=Il bk.bf hk h5 h6 h8;have cJ:FrL [C.off+o.dst.getD 0] s ((s1.make (C.off+o.dst.getD 0) .dead).put o.dst (.grd gs (.val (.list k) xs))) pl pl' U U':=λq hq=>by
          obtain⟨f1,f2,f3⟩:=h9 q hq
          grind [ZN,KA]
         obtain⟨k1,k2⟩:=hD.call h7 cJ br;refine⟨u,U',?_,eo (m1.b.trans m2.leB) k1,Qw az bH r b9 (hB.trans m1) (m2.put o.dst ?_) k2.frozen (λc hc=>(hp c hc).imp (λh Z hτ=>h Z (m1.b.trans hτ)) id) (frz m2.leB) (by omega) (by omega) h1 hK⟩
         .rw[bD];show VCalled P f (args.map (Q5 env)) U _;simpa using h4
         .simp only[SR];exact⟨⟨dm,trivial⟩,λ_=>m3,(by grind)⟩
        .rw[z6 aw];obtain⟨g,de,aG⟩:=bw e;have cJ:FrL [C.off+o.dst.getD 0] s ((s1.make (C.off+o.dst.getD 0) .dead).put o.dst (.grd gs (.val (.list k) xs))) pl (ZR pl (C.off+o.dst.getD 0) undef) U U:=λq hq=>by
          have cD:q≠C.off+o.dst.getD 0:=by simpa using hq
          refine⟨?_,by simp[ZR,cD],λ_ _ _=>rfl⟩;rw[ZN,KA _ _ _ cD,aN]
         obtain⟨k1,k2⟩:=hD.call (.refl U) cJ br;refine⟨eo hG.leB k1,Qw az bH r b9 hB ((bk.make (C.off+o.dst.getD 0) .dead undef bk.le (λ_ _ _ _ _=>rfl) trivial (λi hl _=>by cases hl)).put o.dst ?_) k2.frozen hp (frz hG.leB) (by omega) (by omega) h1 hK⟩;simp only[SR];exact⟨⟨dm,trivial⟩,λhall=>absurd (hall g de) aG,λ_=>trivial⟩
       .exact h.elim
   .rename_i f args bD;split at h
    .rename_i hg;rw[hg];refine⟨λ_=>?_,λe=>by cases e⟩;rw[z6 aw];obtain⟨g,a,b,u,U',e,v,s',pl',h1,h2,h3,h4,h5,h6,h7,h8,h9⟩:=WT az hG h (hG.gfun Gds.nil f) (hG.gcall Gds.nil args);refine fin (u:=u) (U':=U') (λR' hr=>?_) h3 h4 h5 h6 h7 h8 h9;rw[bD];exact DC h1 (h2.mono (R':=R') (by simp_all))
    .exact h.elim
   .exact h.elim
   .exact h.elim
   .exact h.elim
   .exact h.elim
   .rename_i qI oZ qJ dU lE lF;split at h
    .rename_i hg;rw[hg];refine⟨λ_=>?_,λe=>by cases e⟩;rw[z6 aw];have aE:Q1v o.op=false:=by
      cases ho:o.op<;>first|rfl|(exact absurd ho (qI _ _))|(exact absurd ho (oZ _ _))|skip
      case ext x=>cases x<;>first|rfl|(exact absurd ho (qJ _))|(exact absurd ho (dU _))|(exact absurd ho (lE _))|(exact absurd ho (lF _))
     cases kz:O7 C (o.dst.getD 0) o.op (gev [] s.env) with
     |true =>
      rw[kz] at h;simp only[ze] at h;cases hm:Q56 (LR o.op) Rd hl (U1 (C.off+o.dst.getD 0) o.op (gev [] s.env)) with
      |false=>rw[hm] at h;exact h.elim
      |true =>
       rw[hm] at h;simp only[ze] at h;obtain⟨u,U',pl',v,s',h1,h2,⟨h3,hU⟩,h4⟩:=Lq (λx=>hG.evs (Gds.nil (tb:=tb)) x) hG h;have fX:∀ R',R' u U'->vop (Q4 P) o.op env U R':=λR' hr=>by
        have:vop (Q4 P) o.op env U R'=Zm (Q8 o.op (Q5 env) U) λp=>R' p.1 p.2:=by
         cases ho:o.op with
         |callF f a=>rw[ho] at aE;cases aE
         |callV f a=>rw[ho] at aE;cases aE
         |ext x =>
          cases x with
          |nextMap y=>rw[ho] at h1;cases h1
          |_=>rfl
         |_=>rfl
        rw[this,h1];exact hr
       obtain⟨k1,k2⟩:=hD.writeD hU (λbL=>Ib bL h1) hm br;exact⟨u,U',fX _ ⟨rfl,rfl⟩,eo h3.leB k1,Qw az bH r b9 (D5 hB (VM h1)) (h3.put o.dst h4) (by rw[ZN];exact k2) hp (snoc h3.leB λ_ h=>Sb h) (by omega) (by omega) h2 hK⟩
     |false =>
     rw[kz] at h;simp only[zM] at h;cases hm:((LR o.op&&IM Rd hl (Z1 (C.off+o.dst.getD 0) o.op (gev [] s.env)))||E8 Rd hl (Z1 (C.off+o.dst.getD 0) o.op (gev [] s.env))||(EA o.op&&Z5j Rd hl (Z1 (C.off+o.dst.getD 0) o.op (gev [] s.env)))) with
     |false=>rw[hm] at h;exact h.elim
     |true =>
      rw[hm] at h;simp only[ze] at h;obtain⟨u,U',pl',v,s',h1,h2,⟨h3,hU⟩,h4,hE⟩:=Q72 hG h aE;have fX:∀ R',R' u U'->vop (Q4 P) o.op env U R':=λR' hr=>by
       have:vop (Q4 P) o.op env U R'=Zm (Q8 o.op (Q5 env) U) λp=>R' p.1 p.2:=by
        cases ho:o.op with
        |callF f a=>rw[ho] at aE;cases aE
        |callV f a=>rw[ho] at aE;cases aE
        |ext x =>
         cases x with
         |nextMap y=>rw[ho] at h1;cases h1
         |_=>rfl
        |_=>rfl
       rw[this,h1];exact hr
      obtain⟨k1,k2⟩:=hD.write hU (λbL=>Ib bL h1) hE hm br;exact⟨u,U',fX _ ⟨rfl,rfl⟩,eo h3.leB k1,Qw az bH r b9 (D5 hB (VM h1)) (h3.put o.dst h4) (by rw[ZN];exact k2) hp (snoc h3.leB λ_ h=>Co h) (by omega) (by omega) h2 hK⟩
    .exact h.elim
  .rw[z7 aw] at h;have lG:o.op.kind≠2:=by rw[<-bG];exact aw
   by_cases bp:o.kind=1
   .rw[z6 bp] at h
    have rd:∀ (rq:Option Nat),(∀ q,rq=some q->GA o.op (gev [] s.env) s.own=some q)->(Nat.ble chg o.kmin||L3 A o.kmin rq)=true->gd1 C o s (λs'=>Wg C r s' hl chg A ((o.kmax,rq)::Rd) K) ->
      Zm (JD env o.guard) λb=>vif b (if o.kind=2 then PF (λR=>vop (Q4 P) o.op env U R) λv U'=>XK hs.length U' pend/\JN (Q4 P) r (XH env o.dst v) (hs++[U']) U' pend R
       else if o.kind=1 then Zm (Q8 o.op (Q5 env) U) λp=>(∀ Z∈hs.drop o.kmin,XD o.op (Q5 env) p.1 Z) /\
        JN (Q4 P) r (XH env o.dst p.1) hs U (if hs.length<=o.kmax then (o.kmax,XD o.op (Q5 env) p.1)::pend else pend) R
       else Zm (Q8 o.op (Q5 env) U) λp=>JN (Q4 P) r (XH env o.dst p.1) hs U pend R)
      (if o.kind=2 then XK hs.length U pend/\JN (Q4 P) r (XH env o.dst undef) (hs++[U]) U pend R else JN (Q4 P) r (XH env o.dst undef) hs U pend R):=λrq nY hc h=>by
     obtain⟨b,hw,h1,h2⟩:=Nf hG h;rw[hw];have lH:DSt hs U pd hl chg A ((o.kmax,rq)::Rd) s.own pl:=⟨hD.len,hD.same,λc hc=>(hD.pend c hc).imp id (by simp_all),hD.fr⟩;refine⟨λe=>?_,λe=>?_⟩
     .obtain⟨u,s',tb',h3,h4,aN,h5⟩:=h1 e;rw[z7 aw,z6 bp,h3];refine⟨λZ hτ=>?_,?_⟩
      .obtain⟨j,hj⟩:=xc.1 hτ;rw[zZ] at hj;rw[zr] at hc;rcases hc with hc|hc
       .have:=hD.same (o.kmin+j) Z (by have:=zx hc;omega) hj;subst this;exact Jk h3
       .unfold L3 at hc;split at hc
        .rename_i q;obtain⟨k1,i,bl,k2,k3,k4,k5⟩:=Vc hG (nY q rfl) h3;have hu:ZO A (o.kmin+j) (q / 2)=true:=by
          simp only[ZO,zf,zr,zA] at hc |-
          grind
         have:=hD.fr (o.kmin+j) Z (q / 2) i hj hu k1 k2
         grind [Jk]
        .cases hc
      .by_cases hle:hs.length<=o.kmax
       .rw[z6 hle];refine Qw az bH r b9 hB h5 (A:=A) (Rd:=(o.kmax,rq)::Rd) (hl:=hl) (chg:=chg) (pd:=(o.kmax,XD o.op (Q5 env) u)::pd) ?_ (λc hc=>?_) b_ dI br h4 hK
        .rw[aN];refine⟨hD.len,hD.same,λc hc=>?_,hD.fr⟩;rcases zN.1 hc with rfl|hc
         .refine .inr ⟨_,zn,z9 _,?_⟩;cases rq with
          |none=>exactλZ hτ=>Jk (Ly lG h3 hτ)
          |some q =>obtain⟨k1,i,bl,k2,k3,k4,k5⟩:=Vc hG (nY q rfl) h3;exact⟨k1,i,bl,k2,k3,λZ ht=>Jk (k4 Z ht),(by grind [Jk])⟩
         .exact lH.pend c hc
        grind
       .rw[z7 hle];exact Qw az bH r b9 hB h5 (A:=A) (Rd:=(o.kmax,rq)::Rd) (hl:=hl) (chg:=chg) (pd:=pd) (by rw[aN];exact lH) hp b_ dI br h4 hK
     .obtain⟨s',tb',h4,aN,h5⟩:=h2 e;rw[z7 aw];exact Qw az bH r b9 hB h5 (by rw[aN];exact lH) hp b_ dI br h4 hK
    have ro:Pc A o.kmin=true->(∀ u,Q8 o.op (Q5 env) U=some (u,U)->(JD env o.guard=some true)->∀ Z,B.Le Z->Q8 o.op (Q5 env) Z=some (u,Z))->gd1 C o s (λs'=>Wg C r s' hl chg A Rd K) ->
      Zm (JD env o.guard) λb=>vif b (if o.kind=2 then PF (λR=>vop (Q4 P) o.op env U R) λv U'=>XK hs.length U' pend/\JN (Q4 P) r (XH env o.dst v) (hs++[U']) U' pend R
       else if o.kind=1 then Zm (Q8 o.op (Q5 env) U) λp=>(∀ Z∈hs.drop o.kmin,XD o.op (Q5 env) p.1 Z) /\
        JN (Q4 P) r (XH env o.dst p.1) hs U (if hs.length<=o.kmax then (o.kmax,XD o.op (Q5 env) p.1)::pend else pend) R
       else Zm (Q8 o.op (Q5 env) U) λp=>JN (Q4 P) r (XH env o.dst p.1) hs U pend R)
      (if o.kind=2 then XK hs.length U pend/\JN (Q4 P) r (XH env o.dst undef) (hs++[U]) U pend R else JN (Q4 P) r (XH env o.dst undef) hs U pend R):=λlJ bQ h=>by
     obtain⟨b,hw,h1,h2⟩:=Nf hG h;rw[hw];refine⟨λe=>?_,λe=>?_⟩
     .obtain⟨u,s',tb',h3,h4,aN,h5⟩:=h1 e;have bQ:=bQ u h3 (by rw[hw,e]);rw[z7 aw,z6 bp,h3];refine⟨λZ hτ=>?_,?_⟩
      .obtain⟨j,hj⟩:=xc.1 hτ;rw[zZ] at hj;refine Jk (bQ Z (b_ _ Z hj ?_));simp only[Pc,zf,zr,zA] at lJ |-
       grind
      refine Qw az bH r b9 hB h5 (A:=A) (Rd:=Rd) (hl:=hl) (chg:=chg) (pd:=pd) (by rw[aN];exact hD) (λc hc=>?_) b_ dI br h4 hK;split at hc
      .rcases zN.1 hc with rfl|hc
       .grind [Jk]
       .exact hp c hc
      .exact hp c hc
     .obtain⟨s',tb',h4,aN,h5⟩:=h2 e;rw[z7 aw];exact Qw az bH r b9 hB h5 (by rw[aN];exact hD) hp b_ dI br h4 hK
    split at h
    .rename_i hg;cases hr:(Z5i o.op (gev [] s.env)&&Pc A o.kmin) with
     |true =>rw[hr] at h;rw[z0] at hr;exact ro hr.2 (λu hu _=>B3 hG Gds.nil hr.1 hu) h
     |false =>
     rw[hr] at h;simp only[zM] at h;cases hb:(Nat.ble chg o.kmin||L3 A o.kmin (GA o.op (gev [] s.env) s.own)) with
     |false=>rw[hb] at h;exact h.elim
     |true =>rw[hb] at h;exact rd _ (λq hq=>hq) hb h
    .rename_i j want hg;cases hr:(Q87 s j want o.op&&Pc A o.kmin) with
     |true =>
      rw[hr] at h;rw[z0] at hr;obtain⟨hr,lJ⟩:=hr;refine ro lJ (λu hu hw=>?_) h;unfold Q87 at hr;split at hr
      .rename_i gs s1 cW;obtain⟨tb',bk,dm,b,gC,bM,bw⟩:=WU hG cW;rw[hg,gC] at hw;have e:=osj hw;exact B3 bk (λg hg=>⟨bM e g hg,dm g hg⟩) hr hu
      .cases hr
     |false =>
     rw[hr] at h;simp only[zM] at h;cases hb:Nat.ble chg o.kmin with
     |false=>rw[hb] at h;exact h.elim
     |true =>rw[hb] at h;exact rd none (λq hq=>by cases hq) (by rw[hb];rfl) h
   .rw[z7 bp] at h;obtain⟨b,hw,h1,h2⟩:=Nf hG h;rw[hw];refine⟨λe=>?_,λe=>?_⟩
    .obtain⟨u,s',tb',h3,h4,aN,h5⟩:=h1 e;rw[z7 aw,z7 bp,h3];exact Qw az bH r b9 hB h5 (by rw[aN];exact hD) hp b_ dI br h4 hK
    .obtain⟨s',tb',h4,aN,h5⟩:=h2 e;rw[z7 aw];exact Qw az bH r b9 hB h5 (by rw[aN];exact hD) hp b_ dI br h4 hK
theorem Qy {C:Cx}(az:COk P C) {B0 F0 D0:Heap}:∀ (ops:List DOper),(∀ o∈ops,o.kind=o.op.kind)->∀ {s:St}{env:Env}{U:Heap}{B F:Heap}{pl:Nat->Value}{tb:Nat->Option Bool},GBase B0 F0 D0 B F U->Gam P B F pl tb s env U->∀ {hl chg:Nat}{A Rd:List (Nat×Option Nat)}{hs:List Heap}{pend pd:List (Nat×(Heap->Prop))},DSt hs U pd hl chg A Rd s.own pl->(∀ c∈pend,(∀ Z,B.Le Z->c.2 Z)\/c∈pd)->(∀ j Z,hs[j]?=some Z->Pc A j=true->B.Le Z)->chg<=hl->0<hl ->
  ∀ {K:St->Prop},Wg C ops s hl chg A Rd K->∀ {R:Env->Heap->Prop},(∀ s' ae U',K s'->GRel P B0 F0 D0 s' ae U'->R ae U')->Z_ (Q4 P) ops env hs U pend R
 |[],_,s,env,U,B,F,pl,tb,hB,hG,_,_,_,_,_,_,_,_,_,_,_,_,K,h,R,hK=>hK s env U h ⟨B,F,pl,tb,hB,hG⟩
 |o0::r,iQ,s,env,U,B,F,pl,tb,hB,hG,hl,chg,A,Rd,hs,pend,pd,hD,hp,b_,dI,br,K,h,R,hK=>by
  have eo:∀ {n:Nat}{Z:Heap},B.Le Z->XK n Z pd->XK n Z pend:=λ{n Z} hb hv=>V4 λc hc hn=>(by grind [DV]);have snoc:∀ {Z:Heap}{A':List (Nat×Option Nat)},B.Le Z->(∀ j,Pc A' j=true->Pc A j=true)->∀ j Z',(hs++[Z])[j]?=some Z'->Pc A' j=true->B.Le Z':=(by grind);have b9:∀ o∈r,o.kind=o.op.kind:=(by simp_all);have lC:=iQ o0 zn;unfold Wg at h;split at h
  .rename_i a9;have hw:=Vt hG a9;simp only[Z_];rw[hw];refine⟨λe=>(by cases e),λ_=>?_⟩;have bj:=hG.put o0.dst (show SR P B pl tb .any undef by simp[SR]);by_cases aw:o0.kind=2
   .rw[z6 aw] at h |-;obtain⟨k1,k2⟩:=hD.stay;exact⟨eo hG.leB k1,Qy az r b9 hB bj (by rw[ZN];exact k2) hp (snoc hG.leB λ_ h=>h) (by omega) (by omega) h hK⟩
   .rw[z7 aw] at h |-;exact Qy az r b9 hB bj (by rw[ZN];exact hD) hp b_ dI br h hK
  have bG:(Q4g s.env o0).kind=(Q4g s.env o0).op.kind:=by unfold Q4g;split<;>exact lC
  have cS:Z_ (Q4 P) (Q4g s.env o0::r) env hs U pend R->Z_ (Q4 P) (o0::r) env hs U pend R:=λhv=>by
   unfold Q4g at hv;split at hv
   .rename_i a9;simp only[Z_] at hv |-;rw[Vt hG a9];exact hv
   .exact hv
  refine cS ?_;clear cS;generalize Q4g s.env o0=o at h bG |-
  replace h:=id h
  simp only[Z_];by_cases aw:o.kind=2
  .rw[z6 aw] at h
   have fin:∀ {u:Value}{U':Heap}{ts:List Nat}{v:SV}{s':St}{pl':Nat->Value},(∀ R',R' u U'->vop (Q4 P) o.op env U R')->Wg C r (s'.put o.dst v) (hl+1) (bif ts.isEmpty then chg else hl) (ts.map (λt=>(hl-1,some t))++A) (bif ts.isEmpty then Rd else Rd.map λr=>(r.1,none)) K->Gam P B F pl' tb s' env U'->SR P B pl' tb v u->(ts=[]->U'=U/\pl'=pl/\s'=s)->U.Le U'->Dead U U'->FrL ts s s' pl pl' U U' ->
     PF (λR=>vop (Q4 P) o.op env U R) λv U'=>XK hs.length U' pend/\Z_ (Q4 P) r (XH env o.dst v) (hs++[U']) U' pend R:=λ{u U' ts v s' pl'} bD nX bk jg he hle hd cJ=>by
    cases ts with
    |nil =>obtain⟨rfl,rfl,rfl⟩:=he rfl;obtain⟨k1,k2⟩:=hD.stay;exact⟨u,U',bD _ ⟨rfl,rfl⟩,eo bk.leB k1,Qy az r b9 (D5 hB hd) (bk.put o.dst jg) (by rw[ZN];exact k2) hp (snoc bk.leB λ_ h=>h) (by grind) (by omega) nX hK⟩
    |cons t ts =>obtain⟨k1,k2⟩:=hD.call hle cJ br;exact⟨u,U',bD _ ⟨rfl,rfl⟩,eo bk.leB k1,Qy az r b9 (D5 hB hd) (bk.put o.dst jg) (by rw[ZN];exact k2) hp (snoc bk.leB λ_ h=>Sb h) (by simp_all) (by omega) nX hK⟩
   split at h
   .rename_i f args bD;split at h
    .rename_i hg;rw[hg];refine⟨λ_=>?_,λe=>by cases e⟩;rw[z6 aw]
     have nZ:∀ {K':List Nat->SV->St->Prop},BI C (C.off+o.dst.getD 0) (.fn f [] []) (Rv s.own (args.map (gev [] s.env))) s K'->(∀ ts v s',K' ts v s'->Wg C r (s'.put o.dst v) (hl+1) (bif ts.isEmpty then chg else hl) (ts.map (λt=>(hl-1,some t))++A) (bif ts.isEmpty then Rd else Rd.map λr=>(r.1,none)) K) ->
       PF (λR=>vop (Q4 P) o.op env U R) λv U'=>XK hs.length U' pend/\Z_ (Q4 P) r (XH env o.dst v) (hs++[U']) U' pend R:=λ{K'} h qK=>by
      obtain⟨g,a,b,u,U',e,v,s',pl',h1,h2,h3,h4,h5,h6,h7,h8,h9⟩:=WT az hG h (show SR P U XU JE (.fn f [] []) (.func (.func f) #[] #[]) by simp only[SR,SRs];exact⟨[],[],rfl,rfl,rfl⟩) (hG.gcall Gds.nil args);obtain⟨rfl,rfl,rfl⟩:=(by simpa using h1:f=g/\#[]=a/\#[]=b);refine fin (u:=u) (U':=U') (λR' hr=>?_) (qK _ _ _ h3) h4 h5 h6 h7 h8 h9;rw[bD];show VCalled P f (args.map (Q5 env)) U R';have:=h2.mono (R':=R') (by simp_all);simpa using this
     split at h
     .rename_i x hx;split at h
      .rename_i jf uU;split at h
       .rename_i tt qB;cases gX:(waits o.dst.toList r&&Q56 false Rd hl [tt]) with
        |false=>rw[gX] at h;exact h.elim
        |true =>rw[gX] at h;simp only[ze] at h;rw[z0] at gX;refine .inr ⟨gX.1,?_⟩;rw[bD];show VCalled P f (args.map (Q5 env)) U _;refine az.xf f jf uU x hx B F pl tb s env U _ _ _ _ _ tt hG (SRs.map λx _=>hG.evs Gds.nil x) qB h λv s' u U' k1 k2 k3 k4 k5=>?_;obtain⟨q1,q2⟩:=hD.writeD k5 (mk:=false) (λh=>by cases h) gX.2 br;exact⟨eo k3.leB q1,Qy az r b9 (D5 hB k2) (k3.put o.dst k4) (by rw[ZN];exact q2) hp (snoc k3.leB λ_ h=>Co h) (by omega) (by omega) k1 hK⟩
       .exact h.elim
      .cases gX:(waits o.dst.toList r&&Rd.all (λq=>Nat.blt q.1 hl)) with
       |false=>rw[gX] at h;simp only[zM] at h;exact .inl (nZ h λ_ _ _ h=>h)
       |true =>
        rw[gX] at h;simp only[ze] at h;rw[z0] at gX;refine .inr ⟨gX.1,?_⟩;rw[bD];show VCalled P f (args.map (Q5 env)) U _;have ax:∀ args:List Operand,SRs P B pl tb (args.map (gev [] s.env)) (args.map (Q5 env)):=λargs=>SRs.map λx _=>hG.evs Gds.nil x;refine az.xs f x hx B F pl tb s env U _ _ _ _ _ hG (ax args) h λv s' B' F' pl' tb' u U' k1 k2 k3 k4=>?_;have hall:∀ c∈pd,c.1<hl:=λc hc=>by
         rcases hD.pend c hc with h1|⟨q,h1,h2,_⟩
         .exact h1
         grind [List.all_eq_true,Nat.blt_eq]
        have jU:XK hs.length U' pd:=V4 λc hc hle=>by have:=hall c hc;have:=hD.len;omega
        have qL:XK hs.length U' pend:=V4 λc hc hn=>(hp c hc).elim (λh=>h U' (k2.b.trans k3.leB)) λh=>DV jU h hn;refine⟨qL,Qy az r b9 (hB.trans k2) (k3.put o.dst k4) (pd:=pd) ⟨by simp[hD.len],λj Z hj ht=>?_,(by grind),λj Z q i ht hu bN hi=>?_⟩ (λc hc=>(hp c hc).imp (λh Z hτ=>h Z (k2.b.trans hτ)) id) (λj Z ht hn=>?_) (by omega) (by omega) k1 hK⟩
        .rcases W2 ht with⟨h1,_⟩|⟨_,h1⟩
         .rw[hD.len] at h1;omega
         .exact h1
        .rcases W2 ht with⟨h1,_⟩|⟨_,h1⟩
         .exfalso;rw[hD.len] at h1;simp only[ZO,zP,z0,zr,zA,zm,or_false] at hu;omega
         .rw[h1]
        .rcases W2 ht with⟨h1,_⟩|⟨_,h1⟩
         .exfalso;rw[hD.len] at h1;simp only[Pc,zP,z0,zr,zA,Option.isSome_none,zm,or_false] at hn;omega
         .rw[h1];exact k3.leB
     .exact .inl (nZ h λ_ _ _ h=>h)
    .rename_i j want hg;rw[hg];split at h
     .exact h.elim
     .rename_i gs s1 cW;obtain⟨tb',bk,dm,b,hw,bM,bw⟩:=WU hG cW;have aN:=Vj cW;rw[hw];split at h
      .rename_i cs v dp;cases cU:UN v with
       |false=>rw[cU] at h;exact h.elim
       |true =>
       rw[cU] at h;simp only[ze] at h;obtain⟨h1,h2⟩:=ZX h;obtain⟨k1,k2⟩:=hD.stay;have lx:∀ x,DSt (hs++[U]) U pd (hl+1) chg A Rd (s1.put o.dst x).own pl:=(by grind [ZN]);refine⟨λe=>?_,λe=>?_⟩
       .rw[z6 aw];have gu:Gds tb' gs:=λg hg=>⟨bM e g hg,dm g hg⟩;have lD:∀ {v u},SR P B pl tb' v u->SR P B pl tb' (.grd gs (P2 v)) u:=λ{v u} hs=>by
         simp only[SR]
         grind [Si]
        simp only[gqc] at dp;split at dp
        .rename_i c v' heq;cases cF:v'.ret 0 with
         |false=>rw[cF] at dp;cases dp
         |true =>
          rw[cF] at dp;obtain⟨rfl,rfl⟩:=Jf dp;obtain⟨g,a,b',h3,h4,_⟩:=Jm az.cs (show SR P U XU JE (.fn f [] []) (.func (.func f) #[] #[]) by simp only[SR,SRs];exact⟨[],[],rfl,rfl,rfl⟩) (bk.gcall gu args) heq cF rfl (h2 (bM e) _ (by simp));obtain⟨rfl,rfl,rfl⟩:=(by simpa using h3:f=g/\#[]=a/\#[]=b');refine .inl ⟨UY XU v',U,?_,eo hG.leB k1,Qy az r b9 hB (bk.put o.dst (lD ?_)) (lx _) hp (snoc hG.leB λ_ h=>h) (by omega) (by omega) (ZQ h1) hK⟩
          .rw[bD];show VCalled P f (args.map (Q5 env)) U _;have:=h4.mono (R':=λu U'=>u=UY XU v'/\U'=U) λu U' hr=>by
            obtain⟨rfl,hu⟩:=hr.flat cF
            grind [Nu]
           simpa using this
          .exact SR.retd (λj hj=>by omega) _ _ cF (Fq (P:=P) (pl:=XU) (m:=0) (λj hj=>by omega) v' cF cU)
        .cases dp
       .rw[z6 aw];obtain⟨g,de,aG⟩:=bw e;exact⟨eo hG.leB k1,Qy az r b9 hB (bk.put o.dst (by simp only[SR];exact⟨⟨dm,S7 v⟩,λhall=>absurd (hall g de) aG,λ_=>trivial⟩)) (lx _) hp (snoc hG.leB λ_ h=>h) (by omega) (by omega) (ZQ h1) hK⟩
      .split at h
       .rename_i cs v kA;obtain⟨c,ty,k,xs,nl,heq,rfl,rfl,hk,ek⟩:=EN kA;obtain⟨h1,h2⟩:=ZX h;have frz:∀ {B' U':Heap},B'.Le U'->∀ j Z',(hs++[U'])[j]?=some Z'->Pc ((hl-1,none)::A) j=true->B'.Le Z':=λ{B' U'} hb j Z' hm hn=>by
         rcases W2 hm with⟨h1,_⟩|⟨_,rfl⟩
         .simp only[Pc,zP,z0,zr,zA,Option.isSome_none,zm,or_false] at hn;have:=hD.len;omega
         .exact hb
        refine⟨λe=>?_,λe=>?_⟩
        .rw[z6 aw];have gu:Gds tb' gs:=λg hg=>⟨bM e g hg,dm g hg⟩;have ja:=h2 (bM e) c (by simp);have jb:=h2 (bM e) (nl=true->xs=[]) (by simp);have cW:BI C (C.off+o.dst.getD 0) (.fn f [] []) (Rv s1.own (args.map (gev gs s1.env))) s1 (λts v' s'=>ts=[C.off+o.dst.getD 0]/\v'=.lst (C.off+o.dst.getD 0)/\s'=s1.make (C.off+o.dst.getD 0) (.lst ty k xs nl)):=by
          unfold BI;rw[heq];dsimp only;have ah:(SV.ret [OB.lst ty k xs nl].length (.lst 0)&&([OB.lst ty k xs nl].all OB.ret&&(Nat.blt 0 C.nt&&([OB.lst ty k xs nl].all OB.isL&&UN (.lst 0)))))=true:=by
           simp only[SV.ret,xL,zP,List.all_nil,xW,OB.ret,hk,Bool.true_and,OB.isL,UN];rw[z0]
           grind [Nat.blt_eq]
          rw[ah];simp only[ze,Q7z,OB.wf];refine⟨ja,jb,?_,?_,?_⟩
          .simp[List.range_succ]
          .simp[SV.ren]
          .simp[St.makes]
         obtain⟨g,a,b',u,U',ts,v',s',pl',h3,h4,⟨rfl,rfl,rfl⟩,h5,h6,_,h7,h8,h9⟩:=WT az bk cW (show SR P U XU JE (.fn f [] []) (.func (.func f) #[] #[]) by simp only[SR,SRs];exact⟨[],[],rfl,rfl,rfl⟩) (bk.gcall gu args);obtain⟨rfl,rfl,rfl⟩:=(by simpa using h3:f=g/\#[]=a/\#[]=b');obtain⟨B',F',m1,m2,m3⟩:=Il bk.bf hk h5 h6 h8;have cJ:FrL [C.off+o.dst.getD 0] s ((s1.make (C.off+o.dst.getD 0) .dead).put o.dst (.grd gs (.val (.list k) xs))) pl pl' U U':=λq hq=>by
          obtain⟨f1,f2,f3⟩:=h9 q hq
          grind [ZN,KA]
         obtain⟨k1,k2⟩:=hD.call h7 cJ br;refine .inl ⟨u,U',?_,eo (m1.b.trans m2.leB) k1,Qy az r b9 (hB.trans m1) (m2.put o.dst ?_) k2.frozen (λc hc=>(hp c hc).imp (λh Z hτ=>h Z (m1.b.trans hτ)) id) (frz m2.leB) (by omega) (by omega) h1 hK⟩
         .rw[bD];show VCalled P f (args.map (Q5 env)) U _;simpa using h4
         .simp only[SR];exact⟨⟨dm,trivial⟩,λ_=>m3,(by grind)⟩
        .rw[z6 aw];obtain⟨g,de,aG⟩:=bw e;have cJ:FrL [C.off+o.dst.getD 0] s ((s1.make (C.off+o.dst.getD 0) .dead).put o.dst (.grd gs (.val (.list k) xs))) pl (ZR pl (C.off+o.dst.getD 0) undef) U U:=λq hq=>by
          have cD:q≠C.off+o.dst.getD 0:=by simpa using hq
          refine⟨?_,by simp[ZR,cD],λ_ _ _=>rfl⟩;rw[ZN,KA _ _ _ cD,aN]
         obtain⟨k1,k2⟩:=hD.call (.refl U) cJ br;refine⟨eo hG.leB k1,Qy az r b9 hB ((bk.make (C.off+o.dst.getD 0) .dead undef bk.le (λ_ _ _ _ _=>rfl) trivial (λi hl _=>by cases hl)).put o.dst ?_) k2.frozen hp (frz hG.leB) (by omega) (by omega) h1 hK⟩;simp only[SR];exact⟨⟨dm,trivial⟩,λhall=>absurd (hall g de) aG,λ_=>trivial⟩
       .exact h.elim
   .rename_i f args bD;split at h
    .rename_i hg;rw[hg];refine⟨λ_=>?_,λe=>by cases e⟩;rw[z6 aw];refine .inl ?_;obtain⟨g,a,b,u,U',e,v,s',pl',h1,h2,h3,h4,h5,h6,h7,h8,h9⟩:=WT az hG h (hG.gfun Gds.nil f) (hG.gcall Gds.nil args);refine fin (u:=u) (U':=U') (λR' hr=>?_) h3 h4 h5 h6 h7 h8 h9;rw[bD];exact DC h1 (h2.mono (R':=R') (by simp_all))
    .exact h.elim
   .exact h.elim
   .exact h.elim
   .exact h.elim
   .exact h.elim
   .rename_i qI oZ qJ dU lE lF;split at h
    .rename_i hg;rw[hg];refine⟨λ_=>?_,λe=>by cases e⟩;rw[z6 aw];have aE:Q1v o.op=false:=by
      cases ho:o.op<;>first|rfl|(exact absurd ho (qI _ _))|(exact absurd ho (oZ _ _))|skip
      case ext x=>cases x<;>first|rfl|(exact absurd ho (qJ _))|(exact absurd ho (dU _))|(exact absurd ho (lE _))|(exact absurd ho (lF _))
     cases kz:O7 C (o.dst.getD 0) o.op (gev [] s.env) with
     |true =>
      rw[kz] at h;simp only[ze] at h;cases hm:Q56 (LR o.op) Rd hl (U1 (C.off+o.dst.getD 0) o.op (gev [] s.env)) with
      |false=>rw[hm] at h;exact h.elim
      |true =>
       rw[hm] at h;simp only[ze] at h;obtain⟨u,U',pl',v,s',h1,h2,⟨h3,hU⟩,h4⟩:=Lq (λx=>hG.evs (Gds.nil (tb:=tb)) x) hG h;have fX:∀ R',R' u U'->vop (Q4 P) o.op env U R':=λR' hr=>by
        have:vop (Q4 P) o.op env U R'=Zm (Q8 o.op (Q5 env) U) λp=>R' p.1 p.2:=by
         cases ho:o.op with
         |callF f a=>rw[ho] at aE;cases aE
         |callV f a=>rw[ho] at aE;cases aE
         |ext x =>
          cases x with
          |nextMap y=>rw[ho] at h1;cases h1
          |_=>rfl
         |_=>rfl
        rw[this,h1];exact hr
       obtain⟨k1,k2⟩:=hD.writeD hU (λbL=>Ib bL h1) hm br;exact .inl ⟨u,U',fX _ ⟨rfl,rfl⟩,eo h3.leB k1,Qy az r b9 (D5 hB (VM h1)) (h3.put o.dst h4) (by rw[ZN];exact k2) hp (snoc h3.leB λ_ h=>Sb h) (by omega) (by omega) h2 hK⟩
     |false =>
     rw[kz] at h;simp only[zM] at h;cases hm:((LR o.op&&IM Rd hl (Z1 (C.off+o.dst.getD 0) o.op (gev [] s.env)))||E8 Rd hl (Z1 (C.off+o.dst.getD 0) o.op (gev [] s.env))||(EA o.op&&Z5j Rd hl (Z1 (C.off+o.dst.getD 0) o.op (gev [] s.env)))) with
     |false=>rw[hm] at h;exact h.elim
     |true =>
      rw[hm] at h;simp only[ze] at h;obtain⟨u,U',pl',v,s',h1,h2,⟨h3,hU⟩,h4,hE⟩:=Q72 hG h aE;have fX:∀ R',R' u U'->vop (Q4 P) o.op env U R':=λR' hr=>by
       have:vop (Q4 P) o.op env U R'=Zm (Q8 o.op (Q5 env) U) λp=>R' p.1 p.2:=by
        cases ho:o.op with
        |callF f a=>rw[ho] at aE;cases aE
        |callV f a=>rw[ho] at aE;cases aE
        |ext x =>
         cases x with
         |nextMap y=>rw[ho] at h1;cases h1
         |_=>rfl
        |_=>rfl
       rw[this,h1];exact hr
      obtain⟨k1,k2⟩:=hD.write hU (λbL=>Ib bL h1) hE hm br;exact .inl ⟨u,U',fX _ ⟨rfl,rfl⟩,eo h3.leB k1,Qy az r b9 (D5 hB (VM h1)) (h3.put o.dst h4) (by rw[ZN];exact k2) hp (snoc h3.leB λ_ h=>Co h) (by omega) (by omega) h2 hK⟩
    .exact h.elim
  .rw[z7 aw] at h;have lG:o.op.kind≠2:=by rw[<-bG];exact aw
   by_cases bp:o.kind=1
   .rw[z6 bp] at h
    have rd:∀ (rq:Option Nat),(∀ q,rq=some q->GA o.op (gev [] s.env) s.own=some q)->(Nat.ble chg o.kmin||L3 A o.kmin rq)=true->gd1 C o s (λs'=>Wg C r s' hl chg A ((o.kmax,rq)::Rd) K) ->
      Zm (JD env o.guard) λb=>vif b (if o.kind=2 then (PF (λR=>vop (Q4 P) o.op env U R) λv U'=>XK hs.length U' pend/\Z_ (Q4 P) r (XH env o.dst v) (hs++[U']) U' pend R)\/(waits o.dst.toList r=true/\vop (Q4 P) o.op env U λv U'=>XK hs.length U' pend/\Z_ (Q4 P) r (XH env o.dst v) (hs++[U']) U' pend R)
       else if o.kind=1 then Zm (Q8 o.op (Q5 env) U) λp=>(∀ Z∈hs.drop o.kmin,XD o.op (Q5 env) p.1 Z) /\
        Z_ (Q4 P) r (XH env o.dst p.1) hs U (if hs.length<=o.kmax then (o.kmax,XD o.op (Q5 env) p.1)::pend else pend) R
       else Zm (Q8 o.op (Q5 env) U) λp=>Z_ (Q4 P) r (XH env o.dst p.1) hs U pend R)
      (if o.kind=2 then XK hs.length U pend/\Z_ (Q4 P) r (XH env o.dst undef) (hs++[U]) U pend R else Z_ (Q4 P) r (XH env o.dst undef) hs U pend R):=λrq nY hc h=>by
     obtain⟨b,hw,h1,h2⟩:=Nf hG h;rw[hw];have lH:DSt hs U pd hl chg A ((o.kmax,rq)::Rd) s.own pl:=⟨hD.len,hD.same,λc hc=>(hD.pend c hc).imp id (by simp_all),hD.fr⟩;refine⟨λe=>?_,λe=>?_⟩
     .obtain⟨u,s',tb',h3,h4,aN,h5⟩:=h1 e;rw[z7 aw,z6 bp,h3];refine⟨λZ hτ=>?_,?_⟩
      .obtain⟨j,hj⟩:=xc.1 hτ;rw[zZ] at hj;rw[zr] at hc;rcases hc with hc|hc
       .have:=hD.same (o.kmin+j) Z (by have:=zx hc;omega) hj;subst this;exact Jk h3
       .unfold L3 at hc;split at hc
        .rename_i q;obtain⟨k1,i,bl,k2,k3,k4,k5⟩:=Vc hG (nY q rfl) h3;have hu:ZO A (o.kmin+j) (q / 2)=true:=by
          simp only[ZO,zf,zr,zA] at hc |-
          grind
         have:=hD.fr (o.kmin+j) Z (q / 2) i hj hu k1 k2
         grind [Jk]
        .cases hc
      .by_cases hle:hs.length<=o.kmax
       .rw[z6 hle];refine Qy az r b9 hB h5 (A:=A) (Rd:=(o.kmax,rq)::Rd) (hl:=hl) (chg:=chg) (pd:=(o.kmax,XD o.op (Q5 env) u)::pd) ?_ (λc hc=>?_) b_ dI br h4 hK
        .rw[aN];refine⟨hD.len,hD.same,λc hc=>?_,hD.fr⟩;rcases zN.1 hc with rfl|hc
         .refine .inr ⟨_,zn,z9 _,?_⟩;cases rq with
          |none=>exactλZ hτ=>Jk (Ly lG h3 hτ)
          |some q =>obtain⟨k1,i,bl,k2,k3,k4,k5⟩:=Vc hG (nY q rfl) h3;exact⟨k1,i,bl,k2,k3,λZ ht=>Jk (k4 Z ht),(by grind [Jk])⟩
         .exact lH.pend c hc
        grind
       .rw[z7 hle];exact Qy az r b9 hB h5 (A:=A) (Rd:=(o.kmax,rq)::Rd) (hl:=hl) (chg:=chg) (pd:=pd) (by rw[aN];exact lH) hp b_ dI br h4 hK
     .obtain⟨s',tb',h4,aN,h5⟩:=h2 e;rw[z7 aw];exact Qy az r b9 hB h5 (by rw[aN];exact lH) hp b_ dI br h4 hK
    have ro:Pc A o.kmin=true->(∀ u,Q8 o.op (Q5 env) U=some (u,U)->(JD env o.guard=some true)->∀ Z,B.Le Z->Q8 o.op (Q5 env) Z=some (u,Z))->gd1 C o s (λs'=>Wg C r s' hl chg A Rd K) ->
      Zm (JD env o.guard) λb=>vif b (if o.kind=2 then (PF (λR=>vop (Q4 P) o.op env U R) λv U'=>XK hs.length U' pend/\Z_ (Q4 P) r (XH env o.dst v) (hs++[U']) U' pend R)\/(waits o.dst.toList r=true/\vop (Q4 P) o.op env U λv U'=>XK hs.length U' pend/\Z_ (Q4 P) r (XH env o.dst v) (hs++[U']) U' pend R)
       else if o.kind=1 then Zm (Q8 o.op (Q5 env) U) λp=>(∀ Z∈hs.drop o.kmin,XD o.op (Q5 env) p.1 Z) /\
        Z_ (Q4 P) r (XH env o.dst p.1) hs U (if hs.length<=o.kmax then (o.kmax,XD o.op (Q5 env) p.1)::pend else pend) R
       else Zm (Q8 o.op (Q5 env) U) λp=>Z_ (Q4 P) r (XH env o.dst p.1) hs U pend R)
      (if o.kind=2 then XK hs.length U pend/\Z_ (Q4 P) r (XH env o.dst undef) (hs++[U]) U pend R else Z_ (Q4 P) r (XH env o.dst undef) hs U pend R):=λlJ bQ h=>by
     obtain⟨b,hw,h1,h2⟩:=Nf hG h;rw[hw];refine⟨λe=>?_,λe=>?_⟩
     .obtain⟨u,s',tb',h3,h4,aN,h5⟩:=h1 e;have bQ:=bQ u h3 (by rw[hw,e]);rw[z7 aw,z6 bp,h3];refine⟨λZ hτ=>?_,?_⟩
      .obtain⟨j,hj⟩:=xc.1 hτ;rw[zZ] at hj;refine Jk (bQ Z (b_ _ Z hj ?_));simp only[Pc,zf,zr,zA] at lJ |-
       grind
      refine Qy az r b9 hB h5 (A:=A) (Rd:=Rd) (hl:=hl) (chg:=chg) (pd:=pd) (by rw[aN];exact hD) (λc hc=>?_) b_ dI br h4 hK;split at hc
      .rcases zN.1 hc with rfl|hc
       .grind [Jk]
       .exact hp c hc
      .exact hp c hc
     .obtain⟨s',tb',h4,aN,h5⟩:=h2 e;rw[z7 aw];exact Qy az r b9 hB h5 (by rw[aN];exact hD) hp b_ dI br h4 hK
    split at h
    .rename_i hg;cases hr:(Z5i o.op (gev [] s.env)&&Pc A o.kmin) with
     |true =>rw[hr] at h;rw[z0] at hr;exact ro hr.2 (λu hu _=>B3 hG Gds.nil hr.1 hu) h
     |false =>
     rw[hr] at h;simp only[zM] at h;cases hb:(Nat.ble chg o.kmin||L3 A o.kmin (GA o.op (gev [] s.env) s.own)) with
     |false=>rw[hb] at h;exact h.elim
     |true =>rw[hb] at h;exact rd _ (λq hq=>hq) hb h
    .rename_i j want hg;cases hr:(Q87 s j want o.op&&Pc A o.kmin) with
     |true =>
      rw[hr] at h;rw[z0] at hr;obtain⟨hr,lJ⟩:=hr;refine ro lJ (λu hu hw=>?_) h;unfold Q87 at hr;split at hr
      .rename_i gs s1 cW;obtain⟨tb',bk,dm,b,gC,bM,bw⟩:=WU hG cW;rw[hg,gC] at hw;have e:=osj hw;exact B3 bk (λg hg=>⟨bM e g hg,dm g hg⟩) hr hu
      .cases hr
     |false =>
     rw[hr] at h;simp only[zM] at h;cases hb:Nat.ble chg o.kmin with
     |false=>rw[hb] at h;exact h.elim
     |true =>rw[hb] at h;exact rd none (λq hq=>by cases hq) (by rw[hb];rfl) h
   .rw[z7 bp] at h;obtain⟨b,hw,h1,h2⟩:=Nf hG h;rw[hw];refine⟨λe=>?_,λe=>?_⟩
    .obtain⟨u,s',tb',h3,h4,aN,h5⟩:=h1 e;rw[z7 aw,z7 bp,h3];exact Qy az r b9 hB h5 (by rw[aN];exact hD) hp b_ dI br h4 hK
    .obtain⟨s',tb',h4,aN,h5⟩:=h2 e;rw[z7 aw];exact Qy az r b9 hB h5 (by rw[aN];exact hD) hp b_ dI br h4 hK
def Gj (pl:Nat->Value) (mp:List (Nat×Option Nat)):Nat->Value:=λt=>match QF mp t with
 |some (some a)=>pl a
 |_=>.slice none 0 0
theorem IB {h:Heap}{k k':Kind}{x:k.T}{y:k'.T}(e:GS x y) {cs:List Value}(hk:KC h k' y cs):KC h k x cs:=by
 unfold GS at e
 grind [Eo,EJ]
mutual
theorem Vk {B:Heap}{pl:Nat->Value}{tb:Nat->Option Bool}{mp:List (Nat×Option Nat)}:∀ (p a:SV) (v:Value),RR mp p a->SR P B pl tb a v->SR P B (Gj pl mp) JE p v
 |.any,a,v,_,_=>trivial
 |.val k x,a,v,h,hs=>by
  simp only[RR] at h;split at h
  .simp only[SR] at hs |-;exact IB h hs
  .simp only[SR] at hs |-;exact IB h (by simp[KC,hs.1])
  .split at h
   .subst h;simp only[SR] at hs |-;subst hs;exact⟨_,rfl,.inl ⟨rfl,rfl⟩⟩
   .exact h.elim
  .exact h.elim
 |.lst t,a,v,h,hs=>by
  simp only[RR] at h;split at h
  .split at h
   .rename_i e;simp only[SR,Gj,e] at hs |-;exact hs
   .exact h.elim
  .split at h
   .rename_i e;simp only[SR,Gj,e] at hs |-;exact⟨hs,_,_,_,hs⟩
   .exact h.elim
  .exact h.elim
 |.box t off,a,v,h,hs=>by
  simp only[RR] at h;split at h
  .split at h
   .rename_i e;obtain⟨e,rfl⟩:=e;simp only[SR,Gj,e] at hs |-;exact hs
   .exact h.elim
  .exact h.elim
 |.map t,a,v,h,hs=>by
  simp only[RR] at h;split at h
  .split at h
   .rename_i e;simp only[SR,Gj,e] at hs |-;exact hs
   .exact h.elim
  .exact h.elim
 |.dd t w,a,v,h,hs=>by
  simp only[RR] at h;split at h
  .split at h
   .simp only[SR] at hs |-;simp only[DR];exact .inl ⟨h,hs⟩
   .split at h
    .rename_i e;obtain⟨e,rfl⟩:=e;simp only[SR,DR,Gj,e] at hs |-;obtain⟨b,h1,h2⟩:=hs;exact .inr ⟨h,b,by rw[h1];rfl,h2⟩
    .exact h.elim
   .split at h
    .split at h
     .rename_i e;subst h;simp only[SR,DR,Gj,e] at hs |-;exact hs
     .exact h.elim
    .exact h.elim
   .exact h.elim
  .split at h
   .split at h
    .split at h
     .rename_i e;simp only[SR,Gj,e] at hs |-;exact hs
     .exact h.elim
    .exact h.elim
   .exact h.elim
  .split at h
   .split at h
    .split at h
     .rename_i e;simp only[SR,Gj,e] at hs |-;exact hs
     .exact h.elim
    .exact h.elim
   .split at h
    .rename_i e;simp only[SR,Gj,e] at hs |-;exact⟨hs,_,_,_,hs⟩
    .exact h.elim
   .exact h.elim
  .exact h.elim
 |.agg l,a,v,h,hs=>by
  simp only[RR] at h;split at h
  .rename_i l';simp only[SR] at hs |-;obtain⟨cs,h1,h2⟩:=hs;exact⟨cs,h1,Zt l l' cs h h2⟩
  .exact h.elim
 |.tup l,a,v,h,hs=>by
  simp only[RR] at h;split at h
  .rename_i l';simp only[SR] at hs |-;obtain⟨cs,h1,h2⟩:=hs;exact⟨cs,h1,Zt l l' cs h h2⟩
  .exact h.elim
 |.fn f x y,a,v,h,hs=>by
  simp only[RR] at h;split at h
  .split at h
   .rename_i e;subst e;simp only[SR] at hs |-;obtain⟨cs,ds,h1,h2,h3⟩:=hs;exact⟨cs,ds,h1,Zt x _ cs h.1 h2,Zt y _ ds h.2 h3⟩
   .exact h.elim
  .exact h.elim
 |.nilS,a,v,h,hs=>by
  simp only[RR] at h;split at h
  .simp only[SR] at hs |-;exact hs
  .exact h.elim
 |.nilP,a,v,h,hs=>by
  simp only[RR] at h;split at h
  .simp only[SR] at hs |-;exact hs
  .exact h.elim
 |.nilM,a,v,h,hs=>by
  simp only[RR] at h;split at h
  .simp only[SR] at hs |-;exact hs
  .exact h.elim
 |.nilF,a,v,h,hs=>by
  simp only[RR] at h;split at h
  .simp only[SR] at hs |-;exact hs
  .exact h.elim
 |.cp l off,a,v,h,hs=>by
  simp only[RR] at h;cases qM:SVs.pure l with
  |true =>rw[qM] at h;simp only[ze] at h;obtain⟨rfl,_⟩:=h;simp only[SR] at hs |-;obtain⟨b,c,e,wr,t,h1,h2,h3⟩:=hs;exact⟨b,c,e,wr,t,h1,h2,Zu l c qM h3⟩
  |false =>
   rw[qM] at h;simp only[zM] at h;split at h
   .split at h
    .rename_i l' dj he;subst he;simp only[SR] at hs |-;obtain⟨b,c,e,wr,t,h1,h2,h3⟩:=hs;exact⟨b,c,e,wr,t,h1,h2,Zt l l' c h h3⟩
    .exact h.elim
   .exact h.elim
 |.pf ks r cw p,a,v,h,hs=>by simp only[RR] at h;subst h;simp only[SR] at hs |-;exact hs
 |.sub t lo n sz,a,v,h,hs=>by
  simp only[RR] at h;split at h
  .split at h
   .rename_i e;obtain⟨rfl,rfl,rfl⟩:=h;simp only[SR,Gj,e] at hs |-;exact hs
   .exact h.elim
  .exact h.elim
 |.elp _ _ _ _,_,_,h,_|.grd _ _,_,_,h,_|.bid _ _,_,_,h,_|.rop _ _ _ _,_,_,h,_=>by simp only[RR] at h
theorem Zt {B:Heap}{pl:Nat->Value}{tb:Nat->Option Bool}{mp:List (Nat×Option Nat)}:∀ (p a:List SV) (v:List Value),Nh mp p a->SRs P B pl tb a v->SRs P B (Gj pl mp) JE p v
 |[],a,v,h,hs=>by simp only[Nh] at h;subst h;exact hs
 |s::ss,[],v,h,hs=>by simp only[Nh] at h
 |s::ss,a::bS,v,h,hs=>by simp only[Nh] at h;simp only[SRs] at hs |-;obtain⟨x,y,h1,h2,h3⟩:=hs;exact⟨x,y,h1,Vk s a x h.1 h2,Zt ss bS y h.2 h3⟩
theorem A_ {B:Heap}{pl pl':Nat->Value}{tb tb':Nat->Option Bool}:∀ (s:SV) (v:Value),s.pure=true->SR P B pl tb s v->SR P B pl' tb' s v
 |.any,v,_,_=>trivial
 |.val k x,v,_,h=>by simp only[SR] at h |-;exact h
 |.nilS,v,_,h|.nilP,v,_,h|.nilM,v,_,h|.nilF,v,_,h=>by simp only[SR] at h |-;exact h
 |.rop k l i off,v,_,h=>by simp only[SR] at h |-;exact h
 |.pf ks r cw p,v,_,h=>by simp only[SR] at h |-;exact h
 |.agg l,v,hp,h=>by simp only[SR] at h |-;obtain⟨cs,h1,h2⟩:=h;exact⟨cs,h1,Zu l cs hp h2⟩
 |.tup l,v,hp,h=>by simp only[SR] at h |-;obtain⟨cs,h1,h2⟩:=h;exact⟨cs,h1,Zu l cs hp h2⟩
 |.cp l off,v,hp,h=>by simp only[SR] at h |-;obtain⟨b,c,e,wr,t,h1,h2,h3⟩:=h;exact⟨b,c,e,wr,t,h1,h2,Zu l c hp h3⟩
 |.fn f a b,v,hp,h=>by simp only[SV.pure,z0] at hp;simp only[SR] at h |-;obtain⟨x,y,h1,h2,h3⟩:=h;exact⟨x,y,h1,Zu a x hp.1 h2,Zu b y hp.2 h3⟩
 |.lst _,_,h,_|.sub _ _ _ _,_,h,_|.elp _ _ _ _,_,h,_|.box _ _,_,h,_|.map _,_,h,_|.grd _ _,_,h,_|.bid _ _,_,h,_=>by cases h
theorem Zu {B:Heap}{pl pl':Nat->Value}{tb tb':Nat->Option Bool}:∀ (s:List SV) (v:List Value),SVs.pure s=true->SRs P B pl tb s v->SRs P B pl' tb' s v
 |[],v,_,h=>by simp only[SRs] at h |-;exact h
 |s::ss,v,hp,h=>by simp only[SVs.pure,z0] at hp;simp only[SRs] at h |-;obtain⟨x,y,h1,h2,h3⟩:=h;exact⟨x,y,h1,A_ s x hp.1 h2,Zu ss y hp.2 h3⟩
end
end
end Go.V
namespace Go.V
open Go
section
variable {P:Program}{B F:Heap}{pl:Nat->Value}{tb:Nat->Option Bool}{s:St}{env:Env}{U:Heap}
theorem VU {k k':Kind}{xs:List k.T}{ys:List k'.T}(h:GS (k:=.list k) xs (k':=.list k') ys):∃ e:k'=k,e▸ys=xs:=by
 unfold GS at h
 grind [Eo,Kind.list.inj,EJ]
theorem QX (hG:Gam P B F pl tb s env U) {mp:List (Nat×Option Nat)}{t:Nat}{b:OB}(h:Q7g s mp t b) :
  OR P B (Gj pl mp) JE U (Gj pl mp t) b/\(b.live=true->∀ i,Oid (Gj pl mp t) i->∃ a,QF mp t=some (some a)/\(Q9 s.own a).live=true/\Oid (pl a) i):=by
 unfold Q7g at h;split at h
 .rename_i a ha;have aY:Gj pl mp t=pl a:=by simp[Gj,ha]
  rw[aY];have ai:=hG.obj a;split at h
  .exact⟨trivial,λh=>by cases h⟩
  .rename_i ty k xs nl fT k' cy kg ho;split at h
   .rename_i e;subst e;obtain⟨h1,rfl⟩:=h;obtain⟨rfl,rfl⟩:=VU h1;rw[ho] at ai;exact⟨ai,(by simp_all)⟩
   .exact h.elim
  .rename_i l u l' u' ho;split at h
   .rename_i e0;subst e0;rw[ho] at ai;obtain⟨i,c,e,t',h1,h2,h3,h4⟩:=ai;exact⟨⟨i,c,e,t',h1,h2,Zt l l' c h h3,h4⟩,λ_ i hi=>⟨a,ha,by rw[ho];rfl,hi⟩⟩
   .exact h.elim
  .rename_i kk vk m gI jd m' ho;split at h
   .obtain⟨e,h1⟩:=VU h;obtain⟨rfl,rfl⟩:=Kind.pair.inj e;subst h1;rw[ho] at ai;exact⟨ai,(by simp_all)⟩
   .exact h.elim
  .rename_i l vals l' ki ho;rw[ho] at ai;obtain⟨rfl,h⟩:=h;exact⟨Zt l l' vals h ai,λh=>by cases h⟩
  .rename_i l q u l' q' u' ho;rw[ho] at ai;split at h
   .obtain⟨rfl,h⟩:=h;exact⟨⟨ai.1,Zt l l' q.vals h ai.2.1,ai.2.2⟩,λ_ i hi=>⟨a,ha,by rw[ho];rfl,hi⟩⟩
   .obtain⟨rfl,h⟩:=h;exact⟨⟨ai.1,Zt l l' q.vals h ai.2.1,ai.2.2⟩,λh=>by cases h⟩
   .exact h.elim
  .rename_i kk vk m dn gI jd m' si ho;split at h
   .obtain⟨h,rfl⟩:=h;obtain⟨e,h1⟩:=VU h;obtain⟨rfl,rfl⟩:=Kind.pair.inj e;subst h1;rw[ho] at ai;exact⟨ai,(by simp_all)⟩
   .exact h.elim
  .rename_i kk vk m gI jd m' ho;split at h
   .obtain⟨e,h1⟩:=VU h;obtain⟨rfl,rfl⟩:=Kind.pair.inj e;subst h1;rw[ho] at ai;exact⟨ai,λh=>by cases h⟩
   .exact h.elim
  .rename_i l pos l' pos' ho;obtain⟨rfl,rfl⟩:=h;rw[ho] at ai;exact⟨ai,λ_ i hi=>⟨a,ha,by rw[ho];rfl,hi⟩⟩
  .rename_i ty q k xs nl h0 fT q' k' cy kg rQ ho;split at h
   .rename_i e;obtain⟨rfl,rfl⟩:=e;split at h
    .obtain⟨h1,rfl⟩:=h;obtain⟨rfl,rfl⟩:=VU h1;rw[ho] at ai;exact⟨ai,(by simp_all)⟩
    .exact h.elim
   .exact h.elim
  .rename_i ik l g_ l' ho;split at h
   .rename_i e;obtain⟨rfl,rfl⟩:=e;rw[ho] at ai;exact⟨ai,(by simp_all)⟩
   .exact h.elim
  .exact h.elim
 .rename_i ha;have aY:Gj pl mp t=.slice none 0 0:=by simp[Gj,ha]
  rw[aY];split at h
  .exact⟨.inl ⟨h.2,h.1,rfl⟩,λ_ i hi=>by cases hi⟩
  .split at h
   .obtain⟨rfl,rfl⟩:=h;refine⟨⟨[],λi=>⟨λh=>(by cases h),λ⟨b,h⟩=>(by cases h)⟩,List.nodup_nil,.inl ⟨rfl,rfl,rfl⟩,λi=>⟨λ⟨b,h⟩=>(by cases h),λh=>(by cases h)⟩,(λi b h=>by cases h),by simp[phd]⟩,λ_ i hi=>by cases hi⟩
   .exact h.elim
  .exact h.elim
 .exact h.elim
theorem Ui {α:Type _}(l:List (Nat×α)) (t:Nat) (x:α) (d:Nat):QF (l++[(t,x)]) d=match QF l d with|some y=>some y|none=>if t=d then some x else none:=by
 induction l with
 |nil =>
  simp only[xD,QF];by_cases h:t=d
  .subst h;simp
  .rw[Zn h];simp[h]
 |cons p l ih =>obtain⟨k,y⟩:=p;simp only[xq,QF,ih];cases Nat.beq k d<;>rfl
theorem Ot {α:Type _}{l:List (Nat×α)}{d:Nat}{x:α}(h:QF l d=some x):∃ p∈l,p.1=d/\p.2=x:=by
 induction l with
 |nil=>cases h
 |cons p l ih =>
  obtain⟨k,y⟩:=p;simp only[QF] at h;cases hb:Nat.beq k d with
  |true=>rw[hb] at h;obtain rfl:=osj h;exact(by simp_all)
  |false =>rw[hb] at h;obtain⟨p,h1,h2⟩:=ih h;exact⟨p,zB _ h1,h2⟩
def Inj (mp:List (Nat×Option Nat)):Prop:=∀ t t' a,QF mp t=some (some a)->QF mp t'=some (some a)->t=t'
theorem S8:∀ (l:List (Nat×Src)) (mp bX:List (Nat×Option Nat)),Z6n s l mp=some bX->Inj mp->Inj bX
 |[],mp,bX,h,hi=>by obtain rfl:=osj h;exact hi
 |(t,src)::r,mp,bX,h,hi=>by
  simp only[Z6n] at h;split at h
  .rename_i a _;split at h
   .cases h
   .rename_i hc;refine S8 r _ _ h ?_;have cJ:∀ d,QF mp d≠some (some a):=λd hd=>by
     obtain⟨p,h1,h2,h3⟩:=Ot hd
     grind
    intro t1 t2 a' h1 h2;rw[Ui] at h1 h2;split at h1
    .rename_i y1 e1;split at h2
     .rename_i y2 e2;obtain rfl:=osj h1;obtain rfl:=osj h2;exact hi t1 t2 a' e1 e2
     simp_all
    .split at h1
     .rename_i e1;obtain rfl:=osj (osj h1);split at h2
      .simp_all
      simp_all
     .cases h1
  .split at h
   .cases h
   .refine S8 r _ _ h ?_;intro t1 t2 a' h1 h2;rw[Ui] at h1 h2;split at h1
    .rename_i y1 e1;split at h2
     .rename_i y2 e2;obtain rfl:=osj h1;obtain rfl:=osj h2;exact hi t1 t2 a' e1 e2
     .split at h2<;>cases h2
    .split at h1<;>cases h1
  .cases h
theorem F2 {mp:List (Nat×Option Nat)}:∀ {ow:List (Nat×Src×OB)},gmatch.obs s mp ow->∀ p∈ow,Q7g s mp p.1 p.2.2
 |[],_,p,hp=>by cases hp
 |(t,src,b)::r,h,p,hp=>by
  simp only[gmatch.obs] at h;rcases zN.1 hp with rfl|hp
  .exact h.1
  .exact F2 h.2 p hp
theorem Kv {f:List (Nat×Src×OB)}:∀ (own:Own) (t:Nat),(∃ p∈f,p.1=t/\Q9 (f.foldl (λo p=>oset o p.1 p.2.2) own) t=p.2.2)\/Q9 (f.foldl (λo p=>oset o p.1 p.2.2) own) t=Q9 own t:=by
 induction f with
 |nil=>intro own t;exact .inr rfl
 |cons p f ih =>
  intro own t;simp only[xY];rcases ih (oset own p.1 p.2.2) t with⟨q,h1,h2⟩|h
  .grind
  .rw[h,Qa]
   grind
theorem Lf (hG:Gam P B F pl tb s env U) {mp:List (Nat×Option Nat)}:∀ (st:List (Nat×SV)) {e:List SV}{eV:Env},gmatch.slots s mp st->SRs P B (Gj pl mp) JE e eV->SRs P B (Gj pl mp) JE (st.foldl (λe p=>e.set p.1 p.2) e) (Wx (st.map (·.1)) (RE (st.map (·.1)) env) eV)
 |[],e,eV,_,h=>h
 |(j,v)::r,e,eV,hs,h=>by simp only[gmatch.slots] at hs;simp only[xY,zO,RE,Wx];exact Lf hG r hs.2 (h.set j (Vk v _ _ hs.1 (hG.env.getD j poison)))
theorem Q6i {B:Heap}{pl:Nat->Value}{tb:Nat->Option Bool}:∀ n,SRs P B pl tb (List.replicate n .any) (List.replicate n poison)
 |0=>by simp[SRs]
 |n+1=>by simp only[xw,SRs];exact⟨_,_,rfl,by simp[SR],Q6i n⟩
theorem R3 {B0 F0 D0:Heap}(hR:GRel P B0 F0 D0 s env U) {st:List (Nat×SV)}{ow:List (Nat×Src×OB)}(h:gmatch s st ow) (len:Nat):GRel P B0 F0 D0 (Zq len st ow) (Wx (st.map (·.1)) (RE (st.map (·.1)) env) (List.replicate len poison)) U:=by
 obtain⟨B,F,pl,tb,hB,hG⟩:=hR;unfold gmatch at h;split at h
 .rename_i mp lK;obtain⟨h1,h2⟩:=h;have eB:=S8 _ _ _ lK (λt t' a h=>by cases h);have aP:=F2 h2;have ai:∀ t,(Q9 (Zq len st ow).own t).live=true->Q7g s mp t (Q9 (Zq len st ow).own t):=λt hl=>by
   rcases Kv (f:=ow) [] t with⟨p,h3,h4,h5⟩|h3
   .have:=aP p h3;rw[h4,<-h5] at this;exact this
   .simp only[Zq] at hl;rw[h3] at hl;cases hl
  refine⟨B,F,Gj pl mp,JE,hB,hG.bf,hG.le,Lf hG st h1 (Q6i len),λt=>?_,λt i hl hi=>?_,λt t' i aG hl bN hi cf=>?_,λ_ _=>rfl⟩
  .cases hl:(Q9 (Zq len st ow).own t).live with
   |true=>exact(QX hG (ai t hl)).1
   |false =>
    cases ho:Q9 (Zq len st ow).own t with
    |dead=>trivial
    |stk l vals =>
     rcases Kv (f:=ow) [] t with⟨p,h3,h4,h5⟩|h3
     .have:=aP p h3;simp only[Zq] at ho
      grind [QX]
     .simp only[Zq] at ho;rw[h3] at ho;cases ho
    |rmap kk vk m =>
     rcases Kv (f:=ow) [] t with⟨p,h3,h4,h5⟩|h3
     .have:=aP p h3;simp only[Zq] at ho
      grind [QX]
     .simp only[Zq] at ho;rw[h3] at ho;cases ho
    |lpf l q u =>
     rcases Kv (f:=ow) [] t with⟨p,h3,h4,h5⟩|h3
     .have:=aP p h3;simp only[Zq] at ho
      grind [QX]
     .simp only[Zq] at ho;rw[h3] at ho;cases ho
    |_=>rw[ho] at hl;cases hl
  .obtain⟨a,_,h4,h5⟩:=(QX hG (ai t hl)).2 hl i hi;exact hG.fresh a i h4 h5
  .obtain⟨a,e1,h4,h5⟩:=(QX hG (ai t hl)).2 hl i hi;obtain⟨a',e2,iW,qN⟩:=(QX hG (ai t' bN)).2 bN i cf;by_cases e:a=a'
   .subst e;exact aG (eB t t' a e1 e2)
   .exact hG.sep a a' i e h4 iW h5 qN
 .exact h.elim
theorem TF:∀ {di cC:List SV}{vs:List Value}{B F:Heap}{s s':St},Gam P B F pl tb s env U->SRs P B pl tb di vs->Z3i s di=some (s',cC) ->
  ∃ B' F',GBase B F U B' F' U/\Gam P B' F' pl tb s' env U/\SRs P B' XU JE cC vs/\s'.env=s.env
 |[],cC,vs,B,F,s,s',hG,hs,h=>by simp only[Z3i,xp,Prod.mk.injEq] at h;obtain⟨rfl,rfl⟩:=h;exact⟨B,F,.of hG.bf (.refl _),hG,hs,rfl⟩
 |v::di,cC,vs,B,F,s,s',hG,hs,h=>by
  simp only[SRs] at hs;obtain⟨u,us,rfl,h1,h2⟩:=hs
  have n6:∀ w:SV,SR P B pl tb w u->(bif w.pure then (match Z3i s di with|some (s',r)=>some (s',w::r)|none=>none) else none)=some (s',cC) ->
    ∃ B' F',GBase B F U B' F' U/\Gam P B' F' pl tb s' env U/\SRs P B' XU JE cC (u::us)/\s'.env=s.env:=λw hw h=>by
   cases hp:w.pure with
   |false=>rw[hp] at h;cases h
   |true =>
    rw[hp] at h;simp only[ze] at h;split at h
    .rename_i s1 r heq;simp only[xp,Prod.mk.injEq] at h;obtain⟨rfl,rfl⟩:=h;obtain⟨B',F',k1,k2,k3,k4⟩:=TF hG h2 heq;exact⟨B',F',k1,k2,by simp only[SRs];exact⟨u,us,rfl,SR.mono k1.b (λ_ _ h=>h) _ _ (A_ w u hp hw),k3⟩,k4⟩
    .cases h
  simp only[Z3i] at h;split at h
  .rename_i o;split at h
   .rename_i l _ ho;cases hp:SVs.pure l with
    |false=>rw[hp] at h;cases h
    |true =>
     rw[hp] at h;simp only[ze] at h;split at h
     .rename_i s1 r heq;simp only[xp,Prod.mk.injEq] at h;obtain⟨rfl,rfl⟩:=h;have ai:=hG.obj o;rw[ho] at ai;obtain⟨i,c,e,t,e1,e2,e3,_⟩:=ai;obtain⟨k1,k2⟩:=hG.freeze (o:=o) (i:=i) (by rw[ho];rfl) (by rw[e1];rfl);obtain⟨B',F',j1,j2,j3,j4⟩:=TF k2 (SRs.mono k1.b (λ_ _ h=>h) _ _ h2) heq;refine⟨B',F',k1.trans j1,j2,?_,j4⟩;simp only[SRs];refine⟨u,us,rfl,?_,j3⟩;simp only[SR] at h1 |-;obtain⟨b,q1,q2⟩:=h1;rw[e1] at q1;obtain rfl:i=b:=by simpa using q1
      refine⟨i,c,e,true,t,j1.b.2 _ _ ?_,q2,SRs.mono (k1.trans j1).b (λ_ _ h=>h) _ _ (Zu l c hp e3)⟩;rw[Heap.q0m];exact e2
     .cases h
   .cases h
  .exact n6 _ h1 h
theorem Gam.lpUpd (hG:Gam P B F pl tb s env U) {n:Nat}{b b0:Blk}(hF:F.get n=some b0) (hB:B.get n=none):Gam P B (F.upd n b) pl tb s env (U.upd n b):=by
 have aG:∀ {d i},(Q9 s.own d).live=true->Oid (pl d) i->i≠n:=λh1 h2 e=>by have:=hG.fresh _ _ h1 h2;subst e;rw[hF] at this;cases this
 refine⟨⟨hG.bf.1,λi c hc=>?_⟩,⟨hG.le.1,λi c hc=>?_⟩,hG.env,λd=>(hG.obj d).mono (.refl _) (λ_ _ h=>h) (by grind [Heap.q0b]),λd i h1 h2=>?_,hG.sep,hG.free⟩
 .have:i≠n:=by rintro rfl;rw[hB] at hc;cases hc
  rw[Heap.q0b _ _ this];exact hG.bf.2 _ _ hc
 .by_cases e:i=n
  .subst e;rw[Heap.q0c _ _ (F.lt hF)] at hc;rw[Heap.q0c _ _ (zH (F.lt hF) hG.le.1)];exact hc
  .rw[Heap.q0b _ _ e] at hc |-;exact hG.le.2 _ _ hc
 .rw[Heap.q0b _ _ (aG h1 h2)];exact hG.fresh _ _ h1 h2
theorem Gam.lpKill (hG:Gam P B F pl tb s env U) {n:Nat}{b0:Blk}(hF:F.get n=some b0) (hB:B.get n=none):Gam P B (F.kill n) pl tb s env (U.kill n):=by
 have aG:∀ {d i},(Q9 s.own d).live=true->Oid (pl d) i->i≠n:=λh1 h2 e=>by have:=hG.fresh _ _ h1 h2;subst e;rw[hF] at this;cases this
 refine⟨⟨hG.bf.1,λi c hc=>?_⟩,⟨hG.le.1,λi c hc=>?_⟩,hG.env,λd=>(hG.obj d).mono (.refl _) (λ_ _ h=>h) (by grind [Heap.q0d]),λd i h1 h2=>?_,hG.sep,hG.free⟩
 .have:i≠n:=by rintro rfl;rw[hB] at hc;cases hc
  rw[Heap.q0d _ this];exact hG.bf.2 _ _ hc
 .by_cases e:i=n
  .grind [Heap.q0g]
  .rw[Heap.q0d _ e] at hc |-;exact hG.le.2 _ _ hc
 .rw[Heap.q0d _ (aG h1 h2)];exact hG.fresh _ _ h1 h2
theorem GRel.lpUpd {B1 F1 D0:Heap}(h:GRel P B1 F1 D0 s env U) {n:Nat}{b b0:Blk}(hF:F1.get n=some b0) (hB:B1.get n=none):GRel P B1 (F1.upd n b) D0 s env (U.upd n b):=by
 obtain⟨B,F,pl,tb,du,hG⟩:=h;have n7:=du.f.2 _ _ hF;have n8:=du.x _ _ hF hB;refine⟨B,F.upd n b,pl,tb,⟨du.b,⟨du.f.1,λi c hc=>?_⟩,λi c h1 h2=>?_,⟨du.d.1,λi h1 h2=>?_⟩⟩,hG.lpUpd n7 n8⟩
 .by_cases e:i=n
  .subst e;rw[Heap.q0c _ _ (F1.lt hF)] at hc;rw[Heap.q0c _ _ (F.lt n7)];exact hc
  .rw[Heap.q0b _ _ e] at hc |-;exact du.f.2 _ _ hc
 .by_cases e:i=n
  .subst e;exact n8
  .rw[Heap.q0b _ _ e] at h1;exact du.x _ _ h1 h2
 .have hd:=du.d.2 i h1 h2;have:i≠n:=by rintro rfl;rw[hG.le.2 _ _ n7] at hd;cases hd
  rw[Heap.q0b _ _ this];exact hd
theorem GRel.lpKill {B1 F1 D0:Heap}(h:GRel P B1 F1 D0 s env U) {n:Nat}{b0:Blk}(hF:F1.get n=some b0) (hB:B1.get n=none):GRel P B1 (F1.kill n) D0 s env (U.kill n):=by
 obtain⟨B,F,pl,tb,du,hG⟩:=h;have n7:=du.f.2 _ _ hF;have n8:=du.x _ _ hF hB;refine⟨B,F.kill n,pl,tb,⟨du.b,⟨du.f.1,λi c hc=>?_⟩,λi c h1 h2=>?_,⟨du.d.1,λi h1 h2=>?_⟩⟩,hG.lpKill n7 n8⟩
 .by_cases e:i=n
  .grind [Heap.q0g]
  .rw[Heap.q0d _ e] at hc |-;exact du.f.2 _ _ hc
 .by_cases e:i=n
  .subst e;exact n8
  .rw[Heap.q0d _ e] at h1;exact du.x _ _ h1 h2
 .have hd:=du.d.2 i h1 h2
  grind [Heap.q0g,Heap.q0d]
theorem GRel.base {B0 F0 B1 F1 D0:Heap}(h:GRel P B1 F1 D0 s env U) (hb:B0.Le B1) (hf:F0.Le F1) (hx:∀ i b,F0.get i=some b->B0.get i=none->B1.get i=none):GRel P B0 F0 D0 s env U:=by obtain⟨B,F,pl,tb,du,hG⟩:=h;exact⟨B,F,pl,tb,⟨hb.trans du.b,hf.trans du.f,λi b h1 h2=>du.x i b (hf.2 _ _ h1) (hx i b h1 h2),du.d⟩,hG⟩
theorem TZ (hG:Gam P B F pl tb s env U) {mp:List (Nat×Option Nat)}:∀ (st:List (Nat×SV)) {e:List SV},gmatch.slots s mp st->SRs P B (Gj pl mp) JE e env->SRs P B (Gj pl mp) JE (st.foldl (λe p=>e.set p.1 p.2) e) env
 |[],e,_,h=>h
 |(j,v)::r,e,hs,h=>by
  simp only[gmatch.slots] at hs;simp only[xY];refine TZ hG r hs.2 ?_;have:=h.set j (Vk v _ _ hs.1 (hG.env.getD j poison))
  grind [List.getElem?_eq_getElem,List.set_getElem_self,List.set_eq_of_length_le]
theorem Q36 {B:Heap}{pl:Nat->Value}{tb:Nat->Option Bool}:∀ (env:Env),SRs P B pl tb (List.replicate (List.length env) .any) env
 |[]=>by simp[SRs]
 |v::env=>by simp only[zV,xw,SRs];exact⟨_,_,rfl,by simp[SR],Q36 env⟩
theorem Mk {B0 F0 D0:Heap}(hR:GRel P B0 F0 D0 s env U) {st:List (Nat×SV)}{ow:List (Nat×Src×OB)}(h:gmatch s st ow):GRel P B0 F0 D0 (Zq (List.length env) st ow) env U:=by
 obtain⟨B,F,pl,tb,hB,hG⟩:=hR;unfold gmatch at h;split at h
 .rename_i mp lK;obtain⟨h1,h2⟩:=h;have eB:=S8 _ _ _ lK (λt t' a h=>by cases h);have aP:=F2 h2;have ai:∀ t,(Q9 (Zq (List.length env) st ow).own t).live=true->Q7g s mp t (Q9 (Zq (List.length env) st ow).own t):=λt hl=>by
   rcases Kv (f:=ow) [] t with⟨p,h3,h4,h5⟩|h3
   .have:=aP p h3;rw[h4,<-h5] at this;exact this
   .simp only[Zq] at hl;rw[h3] at hl;cases hl
  refine⟨B,F,Gj pl mp,JE,hB,hG.bf,hG.le,TZ hG st h1 (Q36 env),λt=>?_,λt i hl hi=>?_,λt t' i aG hl bN hi cf=>?_,λ_ _=>rfl⟩
  .cases hl:(Q9 (Zq (List.length env) st ow).own t).live with
   |true=>exact(QX hG (ai t hl)).1
   |false =>
    cases ho:Q9 (Zq (List.length env) st ow).own t with
    |dead=>trivial
    |stk l vals =>
     rcases Kv (f:=ow) [] t with⟨p,h3,h4,h5⟩|h3
     .have:=aP p h3;simp only[Zq] at ho
      grind [QX]
     .simp only[Zq] at ho;rw[h3] at ho;cases ho
    |rmap kk vk m =>
     rcases Kv (f:=ow) [] t with⟨p,h3,h4,h5⟩|h3
     .have:=aP p h3;simp only[Zq] at ho
      grind [QX]
     .simp only[Zq] at ho;rw[h3] at ho;cases ho
    |lpf l q u =>
     rcases Kv (f:=ow) [] t with⟨p,h3,h4,h5⟩|h3
     .have:=aP p h3;simp only[Zq] at ho
      grind [QX]
     .simp only[Zq] at ho;rw[h3] at ho;cases ho
    |_=>rw[ho] at hl;cases hl
  .obtain⟨a,_,h4,h5⟩:=(QX hG (ai t hl)).2 hl i hi;exact hG.fresh a i h4 h5
  .obtain⟨a,e1,h4,h5⟩:=(QX hG (ai t hl)).2 hl i hi;obtain⟨a',e2,iW,qN⟩:=(QX hG (ai t' bN)).2 bN i cf;by_cases e:a=a'
   .subst e;exact aG (eB t t' a e1 e2)
   .exact hG.sep a a' i e h4 iW h5 qN
 .exact h.elim
theorem ER {α:Type}{o:Option α}{f:α->Prop}(h:Zm o f):∃ a,f a:=by
 cases o with
 |none=>exact h.elim
 |some a=>exact⟨a,h⟩
theorem COk.nx {C:Cx}(h:COk P C):COk P C.nx:=⟨h.cs,λf x hx=>(by cases hx),h.it,h.yl,h.iy,λf j _ x hx=>(by cases hx)⟩
theorem K1 {S:VSpecs}{Q:Prop}:∀ {ops:List DOper}{env:Env}{hs:List Heap}{U:Heap}{pend:List (Nat×(Heap->Prop))},JN S ops env hs U pend (λ_ _=>Q)->Q
 |[],_,_,_,_,h=>h
 |o::r,env,hs,U,pend,h=>by
  simp only[JN] at h;obtain⟨b,h⟩:=ER h;cases b with
  |true =>
   have h:=h.1 rfl;split at h
   .obtain⟨v,U',_,_,h⟩:=h;exact K1 h
   .split at h
    .obtain⟨p,_,h⟩:=ER h;exact K1 h
    .obtain⟨p,h⟩:=ER h;exact K1 h
  |false =>
   have h:=h.2 rfl;split at h
   .exact K1 h.2
   .exact K1 h
theorem Lz {C:Cx}{s:St}{st:List (Nat×SV)}{ow:List (Nat×Src×OB)}{Q:Prop}:∀ (ls:List (List DOper)),Z3n C ls s st ow Q->(∀ l∈ls,Wg C.nx l s 1 0 [] [] λs'=>T4 s.env.length s' st ow)/\Q
 |[],h=>⟨λl hl=>(by cases hl),h⟩
 |l::ls,h=>by obtain⟨h1,h2⟩:=h;obtain⟨h3,h4⟩:=Lz ls h2;simp_all
theorem NR {B0 F0 D0:Heap}{s:St}{env:Env}{U:Heap}{n:Nat}(hR:GRel P B0 F0 D0 s env U) {st:List (Nat×SV)}{ow:List (Nat×Src×OB)}(h:T4 n s st ow):GRel P B0 F0 D0 (Zq n st ow) env U:=by
 unfold T4 at h;cases hb:Nat.beq s.env.length n with
 |false=>rw[hb] at h;exact h.elim
 |true =>
  rw[hb] at h;have hl:env.length=n:=by rw[<-zL hb];obtain⟨_,_,_,_,_,hG⟩:=hR;exact hG.env.length.symm
  rw[<-hl];exact Mk hR h
theorem K2 {C:Cx}(az:COk P C) {B0 F0 D0:Heap}:∀ (aT:List DSeg) {s:St}{env:Env}{U:Heap},GRel P B0 F0 D0 s env U->∀ {K:St->Prop},Fk C aT s K->∀ {R:Env->Heap->Prop},(∀ s' ae U',K s'->GRel P B0 F0 D0 s' ae U'->R ae U')->Bj (Q4 P) aT env U R
 |[],s,env,U,hR,K,h,R,hK=>hK s env U h hR
 |.one o::r,s,env,U,hR,K,h,R,hK=>by refine DM az [o] hR (K:=λs'=>Fk C r s' K) h λs' ae U' h1 h2=>?_;exact K2 az r h2 h1 hK
 |.alts [l]::r,s,env,U,hR,K,h,R,hK=>by
  simp only[Fk] at h;cases hd:Z1u l with
  |false =>
   rw[hd] at h;simp only[zM] at h;cases hk:l.all (λo=>o.kind==o.op.kind) with
   |false=>rw[hk] at h;exact h.elim
   |true =>rw[hk] at h;simp only[ze] at h;intro ops ho;obtain rfl:=zK.1 ho;obtain⟨B,F,pl,tb,hB,hG⟩:=hR;have one:∀ (j:Nat) (Z:Heap),([U]:List Heap)[j]?=some Z->Z=U:=(by grind);exact Qy az ops (by simp_all) hB hG (hl:=1) (chg:=0) (A:=[]) (Rd:=[]) ⟨rfl,λj Z _ ht=>one j Z ht,(λc hc=>absurd hc (by simp)),(by grind)⟩ (pend:=[]) (pd:=[]) (λc hc=>absurd hc (by simp)) (λj Z ht _=>by rw[one j Z ht];exact hG.leB) (Nat.zero_le _) (Nat.succ_pos _) h λs' ae U' h1 h2=>⟨ae,U',.refl _ _ _,K2 az r h2 h1 hK⟩
  |true =>rw[hd] at h;refine Q85 (l:=l) hd ?_;exact DM az _ hR h λs' ae U' h1 h2=>K2 az r h2 h1 hK
 |.alts []::r,s,env,U,hR,K,h,R,hK=>h.elim
 |.alts (l::l2::ls)::r,s,env,U,hR,K,h,R,hK=>by
  simp only[Fk] at h;cases hk:(l::l2::ls).all (λl=>l.all λo=>o.kind==o.op.kind) with
  |false=>rw[hk] at h;exact h.elim
  |true =>
   rw[hk] at h;simp only[ze] at h;obtain⟨B,F,pl,tb,hB,hG⟩:=hR;have one:∀ (j:Nat) (Z:Heap),([U]:List Heap)[j]?=some Z->Z=U:=(by grind);have run:∀ l'∈l::l2::ls,∀ {K':St->Prop},Wg C.nx l' s 1 0 [] [] K'->∀ {R':Env->Heap->Prop},(∀ s' ae U',K' s'->GRel P B0 F0 D0 s' ae U'->R' ae U')->JN (Q4 P) l' env [U] U [] R':=λl' bN K' h' R' qK =>
    Qw az.nx rfl l' (by grind) hB hG (hl:=1) (chg:=0) (A:=[]) (Rd:=[]) ⟨rfl,λj Z _ ht=>one j Z ht,(λc hc=>absurd hc (by simp)),(by grind)⟩ (pend:=[]) (pd:=[]) (λc hc=>absurd hc (by simp)) (λj Z ht _=>by rw[one j Z ht];exact hG.leB) (Nat.zero_le _) (Nat.succ_pos _) h' qK
   obtain⟨s0,h0,h1⟩:=K1 (run l zn h (R':=λ_ _=>∃ s0:St,_) λs' _ _ h' _=>⟨s',h'⟩);obtain⟨h2,h3⟩:=Lz _ h1;intro ops ho;rcases zN.1 ho with rfl|fD
   .refine YX ?_;exact run ops ho h λs' ae U' h' qO=>⟨ae,U',.refl _ _ _,by
     obtain⟨k1,k2⟩:=h';exact K2 az r (NR qO k1) (Lz _ k2).2 hK⟩
   .refine YX ?_;exact run ops ho (h2 ops fD) λs' ae U' h' qO=>⟨ae,U',.refl _ _ _,K2 az r (NR qO h') h3 hK⟩
theorem LO:∀ (l:List Nat) (vs:List SV),(Z5e l vs).map (·.1)=l
 |[],_=>rfl
 |j::js,[]=>by simp[Z5e,LO js []]
 |j::js,v::vs=>by simp[Z5e,LO js vs]
theorem Gs {B:Heap}{pl:Nat->Value}{tb:Nat->Option Bool}:∀ {ps:List Nat}{xs:List SV}{us:List Value}{e:List SV}{env:Env},SRs P B pl tb xs us->SRs P B pl tb e env->SRs P B pl tb (HV e ps xs) (Li env ps us)
 |[],xs,us,e,env,_,h=>by simpa [HV,Li] using h
 |p::ps,[],us,e,env,hx,h=>by simp only[SRs] at hx;subst hx;simpa [HV,Li] using h
 |p::ps,x::xs,us,e,env,hx,h=>by simp only[SRs] at hx;obtain⟨u,j9,rfl,h1,h2⟩:=hx;simp only[HV,Li];exact Gs h2 (h.set p h1)
def J23 (F0:Heap):Option Nat->Prop
 |none=>True
 |some i=>∃ env r st pend,F0.get i=some (.obj (.lp env r st pend) true)
theorem Gam.dropLp {B F:Heap}{pl:Nat->Value}{tb:Nat->Option Bool}{s:St}{env:Env}{U:Heap}(hG:Gam P B F pl tb s env U) {o:Nat}{l:List SV}{q:LpD}{u:LpS}(ho:Q9 s.own o=.lpf l q u) (hl:u.live=true) :
  Gam P B F pl tb ⟨l,oset s.own o .dead,s.nx⟩ q.vals (U.kill q.i)/\U.get q.i=some (.obj (.lp q.vals q.r u.st u.pend) true):=by
 have ai:=hG.obj o;rw[ho] at ai;obtain⟨h1,h2,h3⟩:=ai;have jt:(Q9 s.own o).live=true:=by rw[ho];exact hl
 have mr:Oid (pl o) q.i:=by rw[h1];rfl
 have hF:=hG.fresh o q.i jt mr;have lv:∀ d,(Q9 (oset s.own o .dead) d).live=true->d≠o/\(Q9 s.own d).live=true:=λd h=>by
  rw[Qa] at h;by_cases e:d=o
  .rw[z6 e] at h;cases h
  .rw[z7 e] at h;exact⟨e,h⟩
 refine⟨⟨hG.bf,⟨hG.le.1,λj b hb=>?_⟩,h2,λd=>?_,λd i hd hi=>hG.fresh d i (lv d hd).2 hi,λd d' i e h h'=>hG.sep d d' i e (lv d h).2 (lv d' h').2,hG.free⟩,h3 hl⟩
 .have e:j≠q.i:=by rintro rfl;rw[hF] at hb;cases hb
  rw[Heap.q0d _ e];exact hG.le.2 _ _ hb
 .rw[Qa];by_cases e:d=o
  .rw[z6 e];trivial
  .rw[z7 e];refine (hG.obj d).mono (.refl _) (λ_ _ h=>h) λhd i hi=>?_;have:i≠q.i:=by rintro rfl;exact hG.sep d o q.i e hd jt hi mr
   exact Heap.q0d _ this
theorem Q8s (s:St) (o:Nat) (b:OB) (j:Nat):Q9 (s.make o b).own j=if j=o then b else (Q9 s.own j).kill o:=by
 simp only[St.make,Qa];by_cases h:j=o
 .subst h;simp
 .simp only[h,if_false,St.kill,Vl]
theorem Gam.enterLp {B F:Heap}{pl:Nat->Value}{tb:Nat->Option Bool}{s:St}{env:Env}{U:Heap}(hG:Gam P B F pl tb s env U) {o aJ:Nat}{l:List SV}{q:LpD}(ho:Q9 s.own o=.lpf l q .rdy) (aG:o≠aJ)
  {args:List SV}{us:List Value}(ax:SRs P B pl tb args us) (ps:List Nat) :
  Gam P B (F.ins U q.i hG.le.1) (ZR pl aJ poison) tb ⟨HV (SVs.kill aJ l) ps (SVs.kill aJ args),oset (Q08 aJ env s).own o (.lpf (SVs.kill aJ l) q .busy),s.nx⟩ (Li q.vals ps us) U:=by
 have q3:Gam P B F (ZR pl aJ poison) tb (Q08 aJ env s) env U:=by refine hG.make aJ _ poison hG.le (λ_ _ _ _ _=>rfl) ?_ (λi hl _=>by cases hl);exact SRs.upd (.refl _) (λ_ _ h=>h) (λj hj=>by simp[ZR,hj]) _ _ hG.env
 have ai:=hG.obj o;rw[ho] at ai;obtain⟨h1,h2,h3⟩:=ai;have jt:(Q9 s.own o).live=true:=by rw[ho];rfl
 have iR:ZR pl aJ poison o=.pointer (some ⟨q.i,0,none⟩):=by simp[ZR,aG,h1]
 have uV:Q9 (Q08 aJ env s).own o=.lpf (SVs.kill aJ l) q .rdy:=by have:=Q8s s aJ (.stk (SVs.kill aJ s.env) env) o;unfold Q08;rw[this,z7 aG,ho];rfl
 have n9:(Q9 (Q08 aJ env s).own o).live=true:=by rw[uV];rfl
 have mr:Oid (ZR pl aJ poison o) q.i:=by rw[iR];rfl
 have hF:=q3.fresh o q.i n9 mr;have cN:SRs P B (ZR pl aJ poison) tb (SVs.kill aJ l) q.vals:=SRs.upd (.refl _) (λ_ _ h=>h) (λj hj=>by simp[ZR,hj]) _ _ h2;have uW:SRs P B (ZR pl aJ poison) tb (SVs.kill aJ args) us:=SRs.upd (.refl _) (λ_ _ h=>h) (λj hj=>by simp[ZR,hj]) _ _ ax;have lv:∀ d,(Q9 (oset (Q08 aJ env s).own o (.lpf (SVs.kill aJ l) q .busy)) d).live=true->d≠o/\(Q9 (Q08 aJ env s).own d).live=true:=λd h=>by
  rw[Qa] at h;by_cases e:d=o
  .rw[z6 e] at h;cases h
  .rw[z7 e] at h;exact⟨e,h⟩
 refine⟨q3.bf.trans (hG.le.ins _),hG.le.q1x _,Gs uW cN,λd=>?_,λd i hd hi=>?_,λd d' i e h h'=>q3.sep d d' i e (lv d h).2 (lv d' h').2,q3.free⟩
 .show OR P B _ tb U _ (Q9 (oset _ o _) d);rw[Qa];by_cases e:d=o
  .subst e;rw[z6 rfl];exact⟨iR,cN,λh=>by cases h⟩
  .rw[z7 e];exact q3.obj d
 .obtain⟨e,po⟩:=lv d hd;have:i≠q.i:=by rintro rfl;exact q3.sep d o q.i e po n9 hi mr
  rw[Heap.q1d _ _ _ this];exact q3.fresh d i po hi
theorem Gam.leaveLp {B F:Heap}{pl:Nat->Value}{tb:Nat->Option Bool}{s:St}{env:Env}{U:Heap}(hG:Gam P B F pl tb s env U) {o aJ:Nat}{l l2:List SV}{kj:List Value}{q:LpD}{b0:Blk}(hF:F.get q.i=some b0) (hB:B.get q.i=none)
  (h2:Q9 s.own aJ=.stk l2 kj) (ho:Q9 s.own o=.lpf l q .busy) (u:LpS) :
  Gam P B (F.kill q.i) pl tb ⟨l2,oset (oset s.own aJ .dead) o (.lpf l q u),s.nx⟩ kj (U.upd q.i (.obj (.lp q.vals q.r u.st u.pend) true)):=by
 have ai:=hG.obj o;rw[ho] at ai;obtain⟨k1,k2,_⟩:=ai;have hk:=hG.obj aJ;rw[h2] at hk;have hi:q.i<U.n:=U.lt (hG.le.2 _ _ hF);have aG:∀ {d i},(Q9 s.own d).live=true->Oid (pl d) i->i≠q.i:=λh1 h2 e=>by have:=hG.fresh _ _ h1 h2;subst e;rw[hF] at this;cases this
 have mr:∀ i,Oid (pl o) i->i=q.i:=λi h=>by rw[k1] at h;exact(osj h).symm
 have hg:∀ d,Q9 (oset (oset s.own aJ .dead) o (.lpf l q u)) d=if d=o then .lpf l q u else if d=aJ then .dead else Q9 s.own d:=λd=>by rw[Qa,Qa]
 have lv:∀ d,d≠o->(Q9 (oset (oset s.own aJ .dead) o (.lpf l q u)) d).live=true->(Q9 s.own d).live=true:=λd e h=>by
  rw[hg,z7 e] at h;split at h
  .cases h
  .exact h
 refine⟨⟨hG.bf.1,λj b hb=>?_⟩,⟨hG.le.1,λj b hb=>?_⟩,hk,λd=>?_,λd i hd cf=>?_,λd d' i e h h' h1 lg=>?_,hG.free⟩
 .have e:j≠q.i:=by rintro rfl;rw[hB] at hb;cases hb
  rw[Heap.q0d _ e];exact hG.bf.2 _ _ hb
 .by_cases e:j=q.i
  .grind [Heap.q0g]
  .rw[Heap.q0d _ e] at hb;rw[Heap.q0b _ _ e];exact hG.le.2 _ _ hb
 .show OR P B pl tb _ _ (Q9 (oset _ o _) d);rw[hg];by_cases e:d=o
  .subst e;rw[z6 rfl];exact⟨k1,k2,λ_=>Heap.q0c _ _ hi⟩
  .rw[z7 e];split
   .trivial
   .exact(hG.obj d).mono (.refl _) (λ_ _ h=>h) (by grind [Heap.q0b])
 .by_cases e:d=o
  .grind [Heap.q0g]
  .rw[Heap.q0d _ (aG (lv d e hd) cf)];exact hG.fresh d i (lv d e hd) cf
 .by_cases e1:d=o
  .grind
  .by_cases e2:d'=o
   .grind
   .exact hG.sep d d' i e (lv d e1 h) (lv d' e2 h') h1 lg
theorem VO {C:Cx}(az:COk P C) {L:List (Nat×LoopAnn)}(vc:VCode):∀ {B0 F0 D0:Heap}(n:Nat) (K:Exit->St->Prop) (s:St) (env:Env) (U:Heap) (ro:Option Nat) (Q:Exit->Env->Heap->Prop),J23 F0 ro->GRel P B0 F0 D0 s env U->gwp C L vc n K s->(∀ e s' ae U',K e s'->GRel P B0 F0 D0 s' ae U'->Q e ae U')->vwp (Q4 P) vc ro Q env U:=by
 induction vc with
 |skip=>intro B0 F0 D0 n K s env U ro Q bQ hR h hK;exact hK _ _ _ _ h hR
 |region ops=>intro B0 F0 D0 n K s env U ro Q bQ hR h hK;exact DM az ops hR h (by grind)
 |regionD aT=>intro B0 F0 D0 n K s env U ro Q bQ hR h hK;exact K2 az aT hR h (by grind)
 |rangeF g ps a b fz ff =>
  intro B0 F0 D0 n K s env U ro Q bQ hR h hK;simp only[gwp] at h;split at h
  .rename_i f first di hg
   split at h
   .
    rename_i x hx;obtain⟨B,F,pl,tb,hB,hG⟩:=hR;have gB:=hG.evs (Gds.nil (tb:=tb)) g;rw[hg] at gB;simp only[SR] at gB;obtain⟨x',y',bI,lL,n_⟩:=gB;obtain⟨iB,pj⟩:=az.iy f x hx;show vwp (Q4 P) (.rangeF g ps a b) ro Q env U;simp only[vwp,OJ,bI];have lM:(Q4 P).it f=some λi Y args U K=>UR P i Y->VCallsTo P f args U K:=by simp only[Q4];rw[z6 iB]
    rw[lM];refine⟨?_,λr hY=>?_⟩
    .cases ro with
     |none=>trivial
     |some i =>obtain⟨e1,r1,st1,qP,hi⟩:=bQ;exact⟨e1,r1,st1,qP,hG.le.2 _ _ (hB.f.2 _ _ hi)⟩
    generalize jL:C.off+2000000+n=o at h;generalize fI:100000*(o+1)-1=aJ at h;have ak:o≠aJ:=by omega
    let q:LpD:=⟨U.n,env,r⟩;let rdy:Blk:=.obj (.lp env r .ready none) true;let eT:Blk:=.obj (.lp env r .busy none) true;let p0:Value:=.pointer (some ⟨U.n,0,none⟩);have fp:Gam P B F (ZR pl o p0) tb (J3e o q s) env (U.push rdy):=by refine hG.push o (.lpf (SVs.kill o s.env) q .rdy) p0 rdy rfl ⟨rfl,SRs.upd (.refl _) (λ_ _ h=>h) (λj hj=>by simp[ZR,hj]) _ _ hG.env,λ_=>Heap.q0a _ _⟩
    have kl:∀ {xs us},SRs P B pl tb xs us->SRs P B (ZR pl o p0) tb (SVs.kill o xs) us:=λh=>SRs.upd (.refl _) (λ_ _ h=>h) (λj hj=>by simp[ZR,hj]) _ _ h;have ax:SRs P B (ZR pl o p0) tb (SVs.kill o first++(.dd o .yv::SVs.kill o di)) (x'++(.func (.yield U.n) #[] #[]::y')):=by refine (kl lL).append ?_;simp only[SRs,SR,DR];exact⟨_,_,rfl,⟨U.n,by simp[ZR,p0],rfl⟩,kl n_⟩
    have uX:Q9e P o (Q8t o aJ ps.length q (λK' s'=>gwp C L a n (Q9b (λs3=>gwp C L b n K' s3) λ_ _=>False) s') ps):=by
     intro B F pl tb s ae U args us K R i hG ha hy iR hK;unfold Q8t at hy;split at hy
     .rename_i l q' u ho;split at hy
      .cases hlen:Nat.beq args.length ps.length with
       |false=>rw[hlen] at hy;exact hy.elim
       |true =>
       rw[hlen] at hy;simp only[ze] at hy;obtain⟨rfl,hy⟩:=hy;have ai:=hG.obj o;rw[ho] at ai;have hi:i=q.i:=by have h1:=ai.1;simp_all
       subst hi;have mu:U.get q.i=some rdy:=ai.2.2 rfl;have jt:(Q9 s.own o).live=true:=by rw[ho];rfl
       have nT:F.get q.i=none:=hG.fresh o q.i jt (by rw[ai.1];rfl);have sC:B.get q.i=none:=by
        cases hb:B.get q.i with
        |none=>rfl
        |some b=>rw[hG.bf.2 _ _ hb] at nT;cases nT
       have kB:=hG.enterLp ho ak ha ps;have jE:(F.ins U q.i hG.le.1).get q.i=some rdy:=by rw[Heap.q0m];exact mu
       have gN:(F.ins U q.i hG.le.1).n=U.n:=rfl;have aS:q.i<U.n:=U.lt mu;refine hY us U R ⟨mu,by rw[<-ha.length];exact(zL hlen),?_⟩;refine fz (B0:=B) (F0:=F.ins U q.i hG.le.1) (D0:=U) n _ _ _ U (some q.i) _ ⟨env,r,_,_,jE⟩ ⟨B,_,_,tb,.of kB.bf (Dead.refl _),kB⟩ (hy ae) λe s3 qQ σ3 h7 h8=>?_;cases e with
       |normal =>
        have kW:σ3.get q.i=some rdy:=by obtain⟨B',F',pl',tb',q1,q2⟩:=h8;exact q2.le.2 _ _ (q1.f.2 _ _ jE)
        refine⟨kW,?_⟩;have h9:=h8.lpUpd (b:=eT) jE sC;have mw:((F.ins U q.i hG.le.1).upd q.i eT).get q.i=some eT:=(by grind [Heap.q0c]);refine ff (B0:=B) (F0:=(F.ins U q.i hG.le.1).upd q.i eT) (D0:=U) n _ _ _ _ (some q.i) _ ⟨env,r,_,_,mw⟩ h9 h7 λe s4 qR σ4 bW gJ=>?_;obtain⟨B',F',pl',tb',q1,q2⟩:=gJ;have pq:=q1.f.2 _ _ mw;have qS:=q1.x _ _ mw sC;have lN:σ4.get q.i=some eT:=q2.le.2 _ _ pq;unfold gyK at bW;split at bW
        .rename_i l2 kj l3 q3 u3 aw qT;split at bW
         .obtain⟨rfl,rfl,bW⟩:=bW;have base:∀ b,GBase B F U B' (F'.kill q.i) (σ4.upd q.i b):=λb=>by
           refine⟨q1.b,⟨?_,λj c hc=>?_⟩,λj c h1 h2=>?_,q1.d.trans (Dead.upd _ _ _ (by rw[lN];rfl))⟩
           .have h1:=q1.f.1;have h2:=hG.le.1;show F.n<=F'.n;have h3:((F.ins U q.i hG.le.1).upd q.i eT).n=U.n:=rfl;omega
           .have e:j≠q.i:=by rintro rfl;rw[nT] at hc;cases hc
            rw[Heap.q0d _ e];refine q1.f.2 _ _ ?_
            grind [Heap.q0b,Heap.q1d]
           .have e:j≠q.i:=by rintro rfl;rw[nT] at h1;cases h1
            refine q1.x j c ?_ h2
            grind [Heap.q0b,Heap.q1d]
          refine⟨lN,?_⟩;cases e with
          |normal=>exact hK _ _ B' _ pl' tb' _ _ bW (base _) (q2.leaveLp pq qS aw qT .rdy) (by simp[SR,KC])
          |ret=>exact hK _ _ B' _ pl' tb' _ _ bW (base _) (q2.leaveLp pq qS aw qT .ret) (by simp[SR,KC])
          |exit id=>exact hK _ _ B' _ pl' tb' _ _ bW (base _) (q2.leaveLp pq qS aw qT (.exit id)) (by simp[SR,KC])
          |_=>exact bW.elim
         .exact bW.elim
        .exact bW.elim
       |_=>exact h7.elim
      .exact hy.elim
     .exact hy.elim
    have aW:=pj B F _ tb _ env (U.push rdy) o _ _ _ (Z4h o q K) (λZ=>Z17 Q env U.n poison Z) fp ax uX (h q) λs' B' F' pl' tb' ae U' hk hb de=>by
     unfold Z4h at hk;split at hk
     .rename_i l q' u ho;have fin:∀ {e:Exit},u.live=true->q'=q->K e ⟨l,oset s'.own o .dead,s'.nx⟩->Q e env (U'.kill U.n)/\U'.get U.n=some (.obj (.lp env r u.st u.pend) true):=λ{e} hu hq uY=>by
       subst hq;obtain⟨g1,g2⟩:=de.dropLp ho hu;refine⟨hK _ _ _ _ uY ⟨B',F',pl',tb',⟨hB.b.trans hb.b,hB.f.trans hb.f,λj c h1 h2=>hb.x j c (hB.f.2 _ _ h1) (hB.x j c h1 h2),hB.d.trans ((Dead.push _ _).trans (hb.d.trans (Dead.kill _ _)))⟩,g1⟩,g2⟩
      cases u with
      |busy=>exact hk.elim
      |rdy =>obtain⟨hq,hk⟩:=hk;obtain⟨k1,k2⟩:=fin rfl hq hk;unfold Z17;rw[k2];exact⟨(by intro h;cases h),k1⟩
      |ret =>obtain⟨hq,hk⟩:=hk;obtain⟨k1,k2⟩:=fin rfl hq hk;unfold Z17;rw[k2];exact⟨(by intro h;cases h),k1⟩
      |exit id =>obtain⟨hq,hk⟩:=hk;obtain⟨k1,k2⟩:=fin rfl hq hk;unfold Z17;rw[k2];exact⟨(by intro h;cases h),k1⟩
     .exact hk.elim
    refine VCallsTo.mono (R:=λ_ Z=>Z17 Q env U.n poison Z) (by simpa using aW) λv Z h=>h
   split at h
   rotate_left
   .exact h.elim
   split at h
   .rename_i it s1 cC A mZ qU hA;split at h
    .rename_i c m ar xs hc;cases dV:Nat.beq ps.length ar with
     |false=>rw[dV] at h;exact h.elim
     |true =>
     rw[dV] at h;simp only[ze] at h;obtain⟨eL,p,d0,dH,I,uZ,sD,u4⟩:=h;have dV:=zL dV;have hlen:s.env.length=env.length:=by obtain⟨B,F,pl,tb,_,hG⟩:=hR;exact hG.env.length
     rw[hlen] at sD u4;have qH:=hR;obtain⟨B,F,pl,tb,hB,hG⟩:=hR;have gB:=hG.evs Gds.nil g;rw[hg] at gB;simp only[SR] at gB;obtain⟨x,y,bI,hx,hy⟩:=gB;simp only[SRs] at hx;subst hx;obtain⟨B1,F1,oa,ob,u5,jO⟩:=TF hG hy qU;obtain⟨iB,qV⟩:=az.it f it mZ;obtain⟨oc,qW⟩:=qV B1 cC y c m ar xs u5 hc eL;have u6:GRel P B1 F1 D0 (Zq (List.length env) (A.st p d0) (A.own p d0)) env U:=Mk ⟨B1,F1,pl,tb,⟨.refl _,.refl _,λ_ _ _ h=>h,(hB.trans oa).d⟩,ob⟩ dH;have mz:B1.get U.n=none:=B1.wf _ ob.leB.1;have wE:F1.get U.n=none:=F1.wf _ ob.le.1;show vwp (Q4 P) (.rangeF g ps a b) ro Q env U;simp only[vwp,OJ,bI];have lM:(Q4 P).it f=some λi Y args U K=>UR P i Y->VCallsTo P f args U K:=by simp only[Q4];rw[z6 iB]
     rw[lM];refine⟨?_,λr hY=>?_⟩
     .cases ro with
      |none=>trivial
      |some i =>obtain⟨e1,r1,st1,qP,hi⟩:=bQ;exact⟨e1,r1,st1,qP,hG.le.2 _ _ (hB.f.2 _ _ hi)⟩
     .let rdy:Blk:=.obj (.lp env r .ready none) true;let eT:Blk:=.obj (.lp env r .busy none) true;have kC:F1.Le (U.push rdy):=ob.le.push rdy;let Fr:=F1.ins (U.push rdy) U.n kC.1;have jE:Fr.get U.n=some rdy:=by
       grind [Heap.q0m,Heap.q0a]
      have gN:Fr.n=U.n+1:=rfl;have u7:F1.Le Fr:=kC.ins U.n;let J:Nat->Heap->Prop:=λk Z=>∃ d,I k d/\GRel P B1 Fr D0 (Zq (List.length env) (A.st p d) (A.own p d)) env Z;let E:Heap->Prop:=λZ=>∃ cd e,Z.get U.n=some (.obj (.lp env r .done (some cd)) true)/\((cd=.ret/\e=Exit.ret)\/∃ id,cd=.exit id/\e=Exit.exit id)/\Q e env (Z.kill U.n);have back:∀ {s':St}{Z:Heap},GRel P B1 (Fr.upd U.n eT) D0 s' env Z->∀ b,GRel P B1 ((Fr.upd U.n eT).upd U.n b) D0 s' env (Z.upd U.n b):=λh b =>
       h.lpUpd (b0:=eT) (Heap.q0c _ _ (by rw[gN];omega)) mz
      have kD:∀ {Fx:Heap}{b0:Blk}{s':St}{Z:Heap},Fx.get U.n=some b0->(∀ i,i≠U.n->Fx.get i=F1.get i)->Fx.n=U.n+1->GRel P B1 Fx D0 s' env Z->GRel P B0 F0 D0 s' env (Z.kill U.n):=λ{Fx b0 s' Z} h1 h2 h3 h4=>by
       refine (h4.lpKill h1 mz).base (hB.b.trans oa.b) ⟨?_,λi b hb=>?_⟩ λi b k1 k2=>(hB.trans oa).x i b k1 k2
       .show F0.n<=Fx.n;rw[h3];have:=(hB.trans oa).f.1;have:=ob.le.1;omega
       .have bM:=(hB.trans oa).f.2 _ _ hb
        grind [Heap.q0d]
      have qX:∀ i,i≠U.n->Fr.get i=F1.get i:=λi e=>Heap.q1d _ _ _ e;have aW:=qW U.n _ J E (U.push rdy) hY (λk Z ⟨d,_,hd⟩=>?_) (λk us Z hk ⟨d,sE,hd⟩ dy=>?_) ⟨d0,uZ,?_⟩
      .refine VCallsTo.mono (R:=λ_ Z=>J m Z\/E Z) (by simpa using aW) λv Z r_=>?_;unfold Z17;rcases r_ with⟨d,sE,hd⟩|⟨cd,e,h1,h2,h3⟩
       .have mu:Z.get U.n=some rdy:=by
         obtain⟨B',F',pl',tb',q1,q2⟩:=hd;exact q2.le.2 _ _ (q1.f.2 _ _ jE)
        grind
       grind
      .obtain⟨B',F',pl',tb',q1,q2⟩:=hd;exact q1.b.trans q2.leB
      .
       have mu:Z.get U.n=some rdy:=by obtain⟨B',F',pl',tb',q1,q2⟩:=hd;exact q2.le.2 _ _ (q1.f.2 _ _ jE)
       refine⟨mu,by rw[dV,<-(oc k).1,dy.length],?_⟩;have hF:=sD k d hk sE env;have a9:GRel P B1 Fr D0 ⟨HV (Q08 (2000000+n) env (Zq (List.length env) (A.st p d) (A.own p d))).env ps (xs k),(Q08 (2000000+n) env (Zq (List.length env) (A.st p d) (A.own p d))).own,0⟩ (Li env ps us) Z:=by
        obtain⟨B',F',pl',tb',q1,q2⟩:=hd;have q3:Gam P B' F' (ZR pl' (2000000+n) poison) tb' (Q08 (2000000+n) env (Zq (List.length env) (A.st p d) (A.own p d))) env Z:=by refine q2.make (2000000+n) _ poison q2.le (λ_ _ _ _ _=>rfl) ?_ (λi hl _=>by cases hl);exact SRs.upd (.refl _) (λ_ _ h=>h) (λj hj=>by simp[ZR,hj]) _ _ q2.env
        refine⟨B',F',ZR pl' (2000000+n) poison,tb',q1,⟨q3.bf,q3.le,Gs ?_ q3.env,q3.obj,q3.fresh,q3.sep,?_⟩⟩
        .exact SRs.mono q1.b (λ_ _ h=>h) _ _ (Zu _ _ (oc k).2 dy)
        .exact q3.free
       refine fz (B0:=B1) (F0:=Fr) n _ _ _ Z (some U.n) _ ⟨env,r,_,_,jE⟩ a9 hF λe s3 qQ σ3 h7 h8=>?_;cases e with
       |normal =>
        have kW:σ3.get U.n=some rdy:=by obtain⟨B',F',pl',tb',q1,q2⟩:=h8;exact q2.le.2 _ _ (q1.f.2 _ _ jE)
        refine⟨kW,?_⟩;have h9:=h8.lpUpd (b:=eT) jE mz;have mw:(Fr.upd U.n eT).get U.n=some eT:=Heap.q0c _ _ (by rw[gN];omega);refine ff (B0:=B1) (F0:=Fr.upd U.n eT) n _ _ _ _ (some U.n) _ ⟨env,r,_,_,mw⟩ h9 h7 λe s4 qR σ4 bW gJ=>?_;have lN:σ4.get U.n=some eT:=by obtain⟨B',F',pl',tb',q1,q2⟩:=gJ;exact q2.le.2 _ _ (q1.f.2 _ _ mw)
        have sF:U.n<σ4.n:=σ4.lt lN;unfold Q7b at bW;split at bW
        .rename_i l vs fY;obtain⟨rfl,bW⟩:=bW;have cJ:GRel P B1 (Fr.upd U.n eT) D0 ⟨l,s4.own,s4.nx⟩ vs σ4:=by
          obtain⟨B',F',pl',tb',q1,q2⟩:=gJ;have:=q2.obj (2000000+n);rw[fY] at this;exact⟨B',F',pl',tb',q1,q2.bf,q2.le,this,q2.obj,q2.fresh,q2.sep,q2.free⟩
         have od:∀ b,((Fr.upd U.n eT).upd U.n b).get U.n=some b:=λb=>Heap.q0c _ _ (by show U.n<Fr.n;rw[gN];omega);have sG:∀ b i,i≠U.n->((Fr.upd U.n eT).upd U.n b).get i=F1.get i:=(by grind [Heap.q0b]);refine⟨lN,?_⟩;cases e with
         |normal =>
          obtain⟨d',lq,u9⟩:=bW;refine .inl ⟨rfl,d',u9,?_⟩;have:=(back (Mk cJ lq) rdy).base (B0:=B1) (F0:=Fr) (.refl _) ⟨z9 _,λi b hb=>?_⟩ λi b k1 k2=>k2
          .exact this
          .grind
         |ret =>refine .inr ⟨rfl,_,_,Heap.q0c _ _ sF,.inl ⟨rfl,rfl⟩,hK _ _ _ _ bW (kD (od _) (sG _) (by show Fr.n=_;exact gN) (back cJ _))⟩
         |exit id =>refine .inr ⟨rfl,_,_,Heap.q0c _ _ sF,.inr ⟨id,rfl,rfl⟩,hK _ _ _ _ bW (kD (od _) (sG _) (by show Fr.n=_;exact gN) (back cJ _))⟩
         |_=>exact bW.elim
        .exact bW.elim
       |_=>exact h7.elim
      .
       obtain⟨B',F',pl',tb',q1,q2⟩:=u6;have hle:F'.Le (U.push rdy):=q2.le.push rdy;have u_:F'.get U.n=none:=F'.wf _ q2.le.1;have ai:∀ d i,(Q9 (Zq (List.length env) (A.st p d0) (A.own p d0)).own d).live=true->Oid (pl' d) i->i<U.n:=λd i h1 h2=>(q2.obj d).q0r h1 h2;refine⟨B',F'.ins (U.push rdy) U.n hle.1,pl',tb',⟨q1.b,Heap.q1z q1.f _ _ _,λi b k1 k2=>?_,q1.d.trans (Dead.push _ _)⟩,⟨q2.bf.trans (hle.ins _),hle.q1x _,q2.env,λd=>(q2.obj d).mono (.refl _) (λ_ _ h=>h) (by grind [Heap.q0i]),λd i h1 h2=>?_,q2.sep,q2.free⟩⟩
       .by_cases e:i=U.n
        .subst e;exact B'.wf _ q2.leB.1
        .rw[qX i e] at k1;exact q1.x i b k1 k2
       .rw[Heap.q1d _ _ _ (Nat.ne_of_lt (ai d i h1 h2))];exact q2.fresh d i h1 h2
    .exact h.elim
   .exact h.elim
  .exact h.elim
 |bad=>intro B0 F0 D0 n K s env U ro Q bQ hR h hK;exact h.elim
 |ret=>intro B0 F0 D0 n K s env U ro Q bQ hR h hK;exact hK _ _ _ _ h hR
 |exit id=>intro B0 F0 D0 n K s env U ro Q bQ hR h hK;exact hK _ _ _ _ h hR
 |seq a b fz ff =>
  intro B0 F0 D0 n K s env U ro Q bQ hR h hK;refine fz n _ s env U ro _ bQ hR h λe s' ae U' h1 h2=>?_;cases e with
  |normal=>exact ff n K s' ae U' ro Q bQ h2 h1 hK
  |_=>exact hK _ _ _ _ h1 h2
 |cond c a b fz ff =>
  intro B0 F0 D0 n K s env U ro Q bQ hR h hK;simp only[gwp] at h;split at h
  .rename_i t ht;have qH:=hR;obtain⟨B,F,pl,tb,hB,hG⟩:=hR;have:=D4 hG ht;simp only[vwp,this,Q80];cases t with
   |true=>exact⟨(by grind),λe=>by cases e⟩
   |false=>exact⟨(λe=>by cases e),(by grind)⟩
  split at h
  .rename_i t ht;obtain⟨B,F,pl,tb,hB,hG⟩:=hR;have:=K4 ht (hG.evs Gds.nil c);simp only[vwp,this,Q80];split at h
   .rename_i A hA;obtain⟨p,I,hF,hI⟩:=h;have fin:∀ e s' ae U',Z4c s.env.length A p I K e s'->GRel P B0 F0 D0 s' ae U'->Q e ae U':=λe s' ae U' h1 h2=>by
     cases e with
     |normal =>obtain⟨d,h3,h4⟩:=h1;exact hK _ _ _ _ (hI d h4) (NR h2 h3)
     |_=>exact hK _ _ _ _ h1 h2
    exact⟨λe=>fz n _ s env U ro Q bQ ⟨B,F,pl,tb,hB,hG⟩ (hF.1 e) fin,λe=>ff n _ s env U ro Q bQ ⟨B,F,pl,tb,hB,hG⟩ (hF.2 e) fin⟩
   exact⟨λe=>fz n K s env U ro Q bQ ⟨B,F,pl,tb,hB,hG⟩ (h.1 e) hK,λe=>ff n K s env U ro Q bQ ⟨B,F,pl,tb,hB,hG⟩ (h.2 e) hK⟩
  .exact h.elim
 |block id b ih =>
  intro B0 F0 D0 n K s env U ro Q bQ hR h hK;refine ih id _ s env U ro _ bQ hR h λe s' ae U' h1 h2=>?_;cases e with
  |exit ia =>
   simp only[Q7k] at h1;simp only[Q1s];split
   .grind
   .grind
  |_=>exact hK _ _ _ _ h1 h2
 |loop b ih =>
  intro B0 F0 D0 n K s env U ro Q bQ hR h hK;simp only[gwp] at h;split at h
  .rename_i A hA;obtain⟨p,d0,h1,I,μ,h2,h3⟩:=h;have hlen:s.env.length=env.length:=by obtain⟨B,F,pl,tb,_,hG⟩:=hR;exact hG.env.length
   have hk:∀ d,(A.st p d).map (·.1)=A.sl:=λd=>LO _ _;refine⟨A.sl,λm vs U'=>∃ d,I d/\μ d=m/\GRel P B0 F0 D0 (Zq s.env.length (A.st p d) (A.own p d)) (Wx A.sl vs (List.replicate env.length poison)) U',μ d0,⟨d0,h2,rfl,?_⟩,λm vs U' ⟨d,h4,h5,h6⟩=>?_⟩
   .grind [R3]
   .refine ih n _ _ _ U' ro _ bQ h6 (h3 d h4) λe s' ae aF h7 h8=>?_;cases e with
    |normal =>
     simp only[Z21] at h7;cases nD:J2e s'.own with
     |false=>rw[nD] at h7;exact h7.elim
     |true =>
     rw[nD] at h7;obtain⟨d',h9,bW,gJ⟩:=h7;refine⟨μ d',by omega,d',bW,rfl,?_⟩;have:=R3 h8 h9 s.env.length;rw[hk d',hlen] at this;rw[hlen];exact this
    |_=>exact hK _ _ _ _ h7 h8
  .exact h.elim
end
end Go.V
namespace Go.V
open Go
def O5 (s:St):VResult->Option SV
 |.tmp t=>some (s.env.getD t .any)
 |.cell a agg size=>bif Nat.blt 0 size then Q9a s.own agg size (s.env.getD a .any) else none
def W5 (s:St) (rs:List VResult):Option SV :=
 match rs with
 |[r]=>O5 s r
 |rs=>(rs.mapM (O5 s)).map .tup
def Z34 (mp:List (Nat×Option Nat)) (j:Nat) (a:Option Nat):Option (List (Nat×Option Nat)) :=
 if (QF mp j).isSome then none else match a with
 |some x=>if mp.any λp=>p.2==some x then none else some (mp++[(j,a)])
 |none=>some (mp++[(j,a)])
mutual
def rmap:SV->SV->List (Nat×Option Nat)->Option (List (Nat×Option Nat))
 |.lst j,v,mp=>match v with|.lst a=>Z34 mp j (some a)|.nilS=>Z34 mp j none|_=>none
 |.map j,v,mp=>match v with|.map a=>Z34 mp j (some a)|_=>none
 |.dd j w,v,mp=>match w with
  |.out=>(match v with
   |.dd a w'=>(match w' with|.out=>Z34 mp j (some a)|_=>none)
   |.nilS=>Z34 mp j none
   |_=>none)
  |_=>none
 |.box j _,v,mp=>match v with|.box a _=>Z34 mp j (some a)|_=>none
 |.agg l,v,mp=>match v with|.agg l'=>Q4v l l' mp|_=>none
 |.tup l,v,mp=>match v with|.tup l'=>Q4v l l' mp|_=>none
 |.any,_,mp=>some mp
 |.val _ _,_,mp=>some mp
 |.nilS,_,mp=>some mp
 |.nilP,_,mp=>some mp
 |.nilM,_,mp=>some mp
 |.nilF,_,mp=>some mp
 |.sub _ _ _ _,_,_|.elp _ _ _ _,_,_|.grd _ _,_,_|.cp _ _,_,_|.fn _ _ _,_,_|.rop _ _ _ _,_,_|.pf _ _ _ _,_,_|.bid _ _,_,_=>none
def Q4v:List SV->List SV->List (Nat×Option Nat)->Option (List (Nat×Option Nat))
 |[],_,mp=>some mp
 |s::ss,l,mp=>match l with
  |v::vs=>match rmap s v mp with|some mp=>Q4v ss vs mp|none=>none
  |[]=>none
end
def Z11 (s:St) (mp:List (Nat×Option Nat)):Nat->List OB->Prop
 |_,[]=>True
 |j,b::r=>Q7g s mp j b/\Z11 s mp (j+1) r
def WB (rs:List VResult) (v:SV) (bs:List OB):Exit->St->Prop:=λe s =>
 let fin:=match W5 s rs with
  |some r=>(match rmap v r [] with
   |some mp=>RR mp v r/\Z11 s mp 0 bs
   |none=>False)
  |none=>False
 match e with
 |.normal=>fin
 |.ret=>fin
 |_=>False
section
variable {P:Program}{B F:Heap}{pl:Nat->Value}{tb:Nat->Option Bool}{s:St}{env:Env}{U:Heap}
theorem Cj (hG:Gam P B F pl tb s env U) {r:VResult}{v:SV}(h:O5 s r=some v):∃ u,X5 env U r=some u/\SR P B pl tb v u:=by
 cases r with
 |tmp t=>obtain rfl:=osj h;exact⟨_,rfl,hG.env.getD t undef⟩
 |cell a agg size =>
  simp only[O5] at h;cases hb:Nat.blt 0 size with
  |false=>rw[hb] at h;cases h
  |true =>rw[hb] at h;obtain⟨i,o,c,e,wr,t,u,h1,h2,h3,h4⟩:=SM hG.leB hG.obj (by simpa [zA] using hb) h (hG.env.getD a undef);refine⟨u,?_,h4⟩;simp only[X5,Q8,Q5,h1,h2,h3];rfl
theorem Xh (hG:Gam P B F pl tb s env U) {rs:List VResult}{v:SV}(h:W5 s rs=some v):∃ u,Jl env U rs=some u/\SR P B pl tb v u:=by
 have all:∀ (rs:List VResult) (l:List SV),rs.mapM (O5 s)=some l->∃ us,rs.mapM (X5 env U)=some us/\SRs P B pl tb l us:=by
  intro rs;induction rs with
  |nil=>intro l h;simp at h;subst h;exact⟨[],rfl,rfl⟩
  |cons r rs ih =>
   intro l h;rw[xg] at h;cases h1:O5 s r with
   |none=>simp[h1] at h
   |some a =>
    cases h2:rs.mapM (O5 s) with
    |none=>simp[h1,h2] at h
    |some l' =>simp[h1,h2] at h;subst h;obtain⟨u,h3,h4⟩:=Cj hG h1;obtain⟨us,h5,h6⟩:=ih l' h2;exact⟨u::us,by rw[xg];simp[h3,h5],by simp only[SRs];exact⟨u,us,rfl,h4,h6⟩⟩
 have tup:(rs.mapM (O5 s)).map SV.tup=some v->∃ u,(rs.mapM (X5 env U)).map (λvs=>Value.tuple vs.toArray)=some u/\SR P B pl tb v u:=λh=>by simp only[zi] at h;obtain⟨l,h1,rfl⟩:=h;obtain⟨us,h2,h3⟩:=all rs l h1;exact⟨.tuple us.toArray,by rw[h2];rfl,by simp only[SR];exact⟨us,rfl,h3⟩⟩
 match rs,h,tup with
 |[r],h,_=>exact Cj hG h
 |[],h,tup=>exact tup h
 |_::_::_,h,tup=>exact tup h
theorem RW {mp bX:List (Nat×Option Nat)}{j:Nat}{a:Option Nat}(h:Z34 mp j a=some bX) (hi:Inj mp):Inj bX:=by
 unfold Z34 at h;split at h
 .cases h
 .split at h
  .rename_i x;split at h
   .cases h
   .rename_i hc;obtain rfl:=osj h;have cJ:∀ d,QF mp d≠some (some x):=(by grind [Ot,List.any_eq_true]);intro t1 t2 a' h1 h2;rw[Ui] at h1 h2;split at h1
    .rename_i y1 e1;split at h2
     .rename_i y2 e2;obtain rfl:=osj h1;obtain rfl:=osj h2;exact hi t1 t2 a' e1 e2
     simp_all
    grind
  .obtain rfl:=osj h;intro t1 t2 a' h1 h2;rw[Ui] at h1 h2;split at h1
   .rename_i y1 e1;split at h2
    .rename_i y2 e2;obtain rfl:=osj h1;obtain rfl:=osj h2;exact hi t1 t2 a' e1 e2
    .split at h2<;>cases h2
   .split at h1<;>cases h1
mutual
theorem Q29:∀ (v r:SV) (mp bX:List (Nat×Option Nat)),rmap v r mp=some bX->Inj mp->Inj bX
 |.lst j,r,mp,bX,h,hi=>by
  simp only[rmap] at h
  grind [RW]
 |.map j,r,mp,bX,h,hi=>by
  simp only[rmap] at h
  grind [RW]
 |.dd j w,r,mp,bX,h,hi=>by
  simp only[rmap] at h
  grind [RW]
 |.box j _,r,mp,bX,h,hi=>by
  simp only[rmap] at h
  grind [RW]
 |.agg l,r,mp,bX,h,hi=>by
  simp only[rmap] at h;split at h
  .exact Cf l _ mp bX h hi
  .cases h
 |.tup l,r,mp,bX,h,hi=>by
  simp only[rmap] at h;split at h
  .exact Cf l _ mp bX h hi
  .cases h
 |.any,r,mp,bX,h,hi|.val _ _,r,mp,bX,h,hi|.nilS,r,mp,bX,h,hi|.nilP,r,mp,bX,h,hi|.nilM,r,mp,bX,h,hi|.nilF,r,mp,bX,h,hi=>by simp only[rmap] at h;simp_all
 |.sub _ _ _ _,r,mp,bX,h,hi|.elp _ _ _ _,r,mp,bX,h,hi|.grd _ _,r,mp,bX,h,hi|.cp _ _,r,mp,bX,h,hi|.fn _ _ _,r,mp,bX,h,hi|.rop _ _ _ _,r,mp,bX,h,hi|.pf _ _ _ _,r,mp,bX,h,hi|.bid _ _,r,mp,bX,h,hi=>by cases h
theorem Cf:∀ (v r:List SV) (mp bX:List (Nat×Option Nat)),Q4v v r mp=some bX->Inj mp->Inj bX
 |[],r,mp,bX,h,hi=>by simp only[Q4v] at h;simp_all
 |s::ss,[],mp,bX,h,hi=>by cases h
 |s::ss,r::rs,mp,bX,h,hi=>by
  simp only[Q4v] at h;split at h
  .rename_i sH h1;exact Cf ss rs sH bX h (Q29 s r mp sH h1 hi)
  .cases h
end
theorem Iy {mp:List (Nat×Option Nat)}:∀ (bs:List OB) (n:Nat),Z11 s mp n bs->∀ j b,bs[j]?=some b->Q7g s mp (n+j) b
 |[],n,_,j,b,hj=>by simp at hj
 |b0::r,n,h,j,b,hj=>by
  obtain⟨h1,h2⟩:=h;cases j with
  |zero=>simp at hj;subst hj;exact h1
  |succ j =>
   have:=Iy r (n+1) h2 j b (by simpa using hj)
   rwa [zw,w5 1 j] at this
mutual
theorem Q2y {n:Nat}{π:Nat->Nat}:∀ (v:SV) (u:Value),v.ret 0=true->SR P B pl tb v u->Ren n π u u
 |.val k x,u,h,hs=>by
  simp only[SR] at hs;cases k with
  |i ik=>simp only[KC] at hs;obtain rfl:=(zR hs).1;exact .plain _ rfl
  |bo=>simp only[KC] at hs;obtain rfl:=(zR hs).1;exact .plain _ rfl
  |st=>simp only[KC] at hs;obtain rfl:=(zR hs).1;exact .plain _ rfl
  |list k=>cases h
  |pair a b =>have h1:=KC.length hs;have h2:=a.size_pos;have h3:=b.size_pos;simp only[Kind.size,xL] at h1;omega
 |.nilS,u,_,hs|.nilP,u,_,hs|.nilM,u,_,hs|.nilF,u,_,hs=>by simp only[SR] at hs;subst hs;exact .plain _ rfl
 |.lst j,u,h,_|.box j _,u,h,_|.map j,u,h,_=>by simp[SV.ret,zA] at h
 |.dd j w,u,h,_=>by cases w<;>simp[SV.ret,zA] at h
 |.agg l,u,h,hs=>by simp only[SR] at hs;obtain⟨cs,rfl,h2⟩:=hs;have:=SO (n:=n) (π:=π) l cs h h2;exact .agg _ _ rfl λi h3 _=>this _ (by simp)
 |.tup l,u,h,hs=>by simp only[SR] at hs;obtain⟨cs,rfl,h2⟩:=hs;have:=SO (n:=n) (π:=π) l cs h h2;exact .tuple _ _ rfl λi h3 _=>this _ (by simp)
 |.any,_,h,_|.bid _ _,_,h,_|.grd _ _,_,h,_|.sub _ _ _ _,_,h,_|.elp _ _ _ _,_,h,_|.rop _ _ _ _,_,h,_|.cp _ _,_,h,_|.fn _ _ _,_,h,_|.pf _ _ _ _,_,h,_=>by cases h
theorem SO {n:Nat}{π:Nat->Nat}:∀ (v:List SV) (u:List Value),SVs.ret 0 v=true->SRs P B pl tb v u->∀ x∈u,Ren n π x x
 |[],u,_,hs=>by simp only[SRs] at hs;subst hs;intro x hx;cases hx
 |s::ss,u,h,hs=>by
  simp only[SVs.ret,z0] at h;simp only[SRs] at hs;obtain⟨x,y,rfl,h1,h2⟩:=hs;intro z hz;rcases zN.1 hz with rfl|hz
  .exact Q2y s z h.1 h1
  .exact SO ss y h.2 h2 z hz
end
theorem Q4p (exact:Bool) {σ0:Heap}{sf:St}{lO:Env}{σf:Heap}(hR:GRel P σ0 σ0 σ0 sf lO σf) {rs:List VResult}{v:SV}{bs:List OB}{e:Exit}(hv:v.ret bs.length=true) (hb:bs.all OB.ret=true) (h:WB rs v bs e sf) (hx:exact=true->bs.all OB.isL=true/\UN v=true) :
  Z9p σ0 rs (λu U'=>if exact then u=UY (EM σ0 bs) v/\U'=CR σ0 bs else Ret P σ0 v bs u U') e lO σf:=by
 have main:(match W5 sf rs with
  |some r=>(match rmap v r [] with
   |some mp=>RR mp v r/\Z11 sf mp 0 bs
   |none=>False)
  |none=>False)->Zm (Jl lO σf rs) λu=>∃ v' U',DropTo σ0 u σf v' U'/\(if exact then v'=UY (EM σ0 bs) v/\U'=CR σ0 bs else Ret P σ0 v bs v' U'):=λh=>by
  split at h
  .rename_i r hr;split at h
   .rename_i mp lK;obtain⟨h1,h2⟩:=h;obtain⟨B,F,pl,tb,⟨hB,hF,_,hd⟩,hG⟩:=hR;obtain⟨u,h3,h4⟩:=Xh hG hr;have jg:=Vk v r u h1 h4;have eB:=Q29 v r [] mp lK (λt t' a h=>by cases h);have ai:∀ j b,bs[j]?=some b->Q7g sf mp j b:=λj b hj=>by have:=Iy bs 0 h2 j b hj;rwa [zU] at this
    rw[h3];have hle:σ0.Le σf:=hF.trans hG.le;have hA:Agree σ0 σf:=λi hi=>by
     cases hg:σ0.get i with
     |none=>exact hd.2 i hi hg
     |some b=>exact hle.2 i b hg
    have aY:∀ j b,bs[j]?=some b->OR P hNil (Gj pl mp) JE σf (Gj pl mp j) b/\∀ i,Oid (Gj pl mp j) i->σ0.get i=none/\σ0.n<=i:=λj b hj=>by
     obtain⟨k1,k2⟩:=QX hG (ai j b hj);have dk:=zf.1 hb b (xe hj);have af:b.live=true:=by cases b<;>first|rfl|cases dk
     refine⟨k1.retd dk λ_ _=>rfl,λi hi=>?_⟩;obtain⟨a,e1,e2,e3⟩:=k2 af i hi;have mz:=hG.fresh a i e2 e3;have hn:σ0.get i=none:=by
      cases hg:σ0.get i with
      |none=>rfl
      |some b=>rw[hF.2 i b hg] at mz;cases mz
     refine⟨hn,Nat.le_of_not_lt λaj=>?_⟩;have bn:=hd.2 i aj hn;have ai:=hG.obj a;cases ho:Q9 sf.own a with
     |dead=>rw[ho] at e2;cases e2
     |lst ty k xs nl =>
      rw[ho] at ai;rcases ai with⟨_,_,h2⟩|⟨_,i',cap,c,t,h2,_,h3,_⟩
      .rw[h2] at e3;cases e3
      .rw[h2] at e3;obtain rfl:=osj e3;rw[h3] at bn;cases bn
     |cells l u=>rw[ho] at ai;obtain⟨i',c,e,t,h2,h3,_⟩:=ai;rw[h2] at e3;obtain rfl:=osj e3;rw[h3] at bn;cases bn
     |mapE kk vk m key n=>rw[ho] at ai;obtain⟨i',es,cl,r,e,h2,h3,_⟩:=ai;rw[h2] at e3;obtain rfl:=osj e3;rw[h3] at bn;cases bn
     |map kk vk m=>rw[ho] at ai;obtain⟨i',es,cl,h2,h3,_⟩:=ai;rw[h2] at e3;obtain rfl:=osj e3;rw[h3] at bn;cases bn
     |fm ik l=>rw[ho] at ai;obtain⟨i',es,cl,h2,h3,_⟩:=ai;rw[h2] at e3;obtain rfl:=osj e3;rw[h3] at bn;cases bn
     |stk l vals=>rw[ho] at e2;cases e2
     |lpf l q s=>rw[ho] at ai e2;obtain⟨h2,_,h3⟩:=ai;rw[h2] at e3;obtain rfl:=osj e3;have h3:=h3 e2;rw[bn] at h3;cases h3
     |iter kk vk m dn=>rw[ho] at ai;obtain⟨j',i',es,cl,wr,seen,h2,h3,_⟩:=ai;rw[h2] at e3;obtain rfl:=osj e3;rw[h3] at bn;cases bn
     |siter l pos=>rw[ho] at ai;obtain⟨j',s',h2,h3,_⟩:=ai;rw[h2] at e3;obtain rfl:=osj e3;rw[h3] at bn;cases bn
     |rmap kk vk m=>rw[ho] at e2;cases e2
     |deep ty q k xs nl hh =>rw[ho] at ai;obtain⟨is,_,d2,d3,_⟩:=DP.open ai;obtain⟨c,e,t,h⟩:=d2.cells i ((d3 i).1 e3);rw[h] at bn;cases bn
    have eE:∀ j j' i,j<bs.length->j'<bs.length->j≠j'->Oid (Gj pl mp j) i->Oid (Gj pl mp j') i->False:=λj j' i hj bF aG hi cf=>by
     have bM:=z8 hj;have bw:=z8 bF;have r1:=zf.1 hb _ (zl hj);have r2:=zf.1 hb _ (zl bF);have l1:(bs[j]).live=true:=by cases mJ:bs[j]<;>first|rfl|(rw[mJ] at r1;cases r1)
     have l2:(bs[j']).live=true:=by cases mJ:bs[j']<;>first|rfl|(rw[mJ] at r2;cases r2)
     obtain⟨a,e1,e2,e3⟩:=(QX hG (ai j _ bM)).2 l1 i hi;obtain⟨a',vd,kf,ve⟩:=(QX hG (ai j' _ bw)).2 l2 i cf;by_cases e:a=a'
     .subst e;exact aG (eB j j' a e1 vd)
     .exact hG.sep a a' i e e2 kf e3 ve
    cases hex:exact with
    |true =>obtain⟨hl,cU⟩:=hx hex;have oe:=Q4x (P:=P) hA hle.1 hv cU hb hl (pl:=Gj pl mp) (u:=u) (λj b hj=>⟨(aY j b hj).1,λi hi=>((aY j b hj).2 i (Tg hi)).2⟩) (λj j' i a b c d e=>eE j j' i a b c (Tg d) (Tg e)) (jg.retd (λj hj=>rfl) _ _ hv);exact⟨_,_,oe,by simp⟩
    |false =>
     simp only[zm,if_false];by_cases b_:bs=[]
     .subst b_;refine⟨u,σ0,.rename (λi=>i) (z9 _) (λi hi=>⟨rfl,(hA i hi).symm,.inl (hA i hi)⟩) (λi k1 k2=>by omega) (λ_ _ _ _ _ _ h=>h) (Q2y v u hv jg),?_⟩;exact⟨⟨Heap.Le.refl _,Dead.refl _⟩,λ_=>rfl,XU,(λj b hj=>by simp at hj),(λj j' i hj=>by simp at hj),jg.retd (λj hj=>by simp at hj) _ _ hv⟩
     .exact⟨u,σf,.refl _ _ _,⟨hle,hd⟩,λe=>absurd e b_,Gj pl mp,aY,eE,jg.retd (λj hj=>rfl) _ _ hv⟩
   .exact h.elim
  .exact h.elim
 cases e with
 |normal=>exact main h
 |ret=>exact main h
 |_=>exact h.elim
def Qn (nt:Nat) (args:List SV):St:=⟨args++List.replicate (nt-args.length) .any,[],0⟩
theorem Q4z {args:List SV}{vs:List Value}(h:SRs P U XU JE args vs) (nt:Nat):GRel P U U U (Qn nt args) (vs++List.replicate (nt-vs.length) undef) U:=by
 have vf:∀ n,SRs P U XU JE (List.replicate n .any) (List.replicate n undef):=by
  intro n;induction n with
  |zero=>simp[SRs]
  |succ n ih=>simp only[xw,SRs];exact⟨_,_,rfl,by simp[SR],ih⟩
 refine⟨U,U,XU,JE,⟨Heap.Le.refl _,Heap.Le.refl _,(by simp_all),Dead.refl _⟩,Heap.Le.refl _,Heap.Le.refl _,?_,λd=>trivial,(λd i hl=>by cases hl),(λd d' i _ hl=>by cases hl),λ_ _=>rfl⟩;have:=h.length;simp only[Qn,this];exact h.append (vf _)
theorem Fun.okC {f:Nat}{vc:VCode}{rs:List VResult}{nt:Nat}(h:Fun P f vc rs nt) (hm:P.follows .mixedOrders=true) {sp:CSp}
  (hb:∀ ap,Q79 P ap->∀ args c v bs,sp ap args=some (c,v,bs)->c->∃ (C:Cx) (L:List (Nat×LoopAnn)) (cm:List SV),(∀ U vs,SRs P U XU JE args vs->SRs P U XU JE cm vs)/\COk P C/\gwp C L vc 0 (WB rs v bs) (Qn nt cm)):OkC P f sp:=by
 intro ap dF U args vs c v bs ax df hv b_ hc;obtain⟨C,L,cm,h1,h2,h3⟩:=hb ap dF args c v bs df hc;have main:∀ exact:Bool,(exact=true->bs.all OB.isL=true/\UN v=true)->VCalled P f vs U λu U'=>if exact then u=UY (EM U bs) v/\U'=CR U bs else Ret P U v bs u U':=λexact hx=>by refine h.calls hm Rw ?_;exact VO h2 vc 0 _ _ _ U none _ trivial (Q4z (h1 U vs ax) nt) h3 λe s' ae U' k1 k2=>Q4p exact k2 hv b_ k1 hx
 simp_all
theorem OkC.true {f:Nat}{sp:CSp}(h:OkC P f sp) (he:Wf P f) {U:Heap}{args:List SV}{vs:List Value}(ha:SRs P U XU JE args vs) {c:Prop}(hs:sp (λ_ _=>none) args=some (c,.val .bo true,[])) (hc:c) :
  VCallsTo P f vs U λv _=>v=.bool true:=by
 have:=(h (λ_ _=>none) (λ_ _ _ _ _ _ _ _ _ h=>by cases h) U args vs c _ [] ha hs rfl rfl hc).1;intro ρ w au hH hL;rcases this ρ w au hH hL with⟨_,h2⟩|⟨c',_,h2⟩
 .refine h2.mono λe w' ⟨c',h3,h4⟩=>⟨c',h3,h4.mono λu U' hr=>?_⟩;have:=(hr.flat rfl).2;simpa only [SR,KC,List.cons.injEq,and_true] using this
 .have:=h2 w (Like.refl ρ w)
  grind [GQ]
end
end Go.V
namespace Go.V
open Go
mutual
inductive AP:Type->Type 1 where
 |k (k:Kind):AP k.T
 |agg {D:Type}(l:AL D):AP D
 |ptr {D:Type}(l:AL D):AP D
 |fnx {D:Type}(g:Nat) (l:AL D):AP D
 |fn (ks:List Kind) (r:Kind):AP ((AT ks->Prop)×(AT ks->r.T))
 |nilS:AP Unit
 |any:AP Unit
 |int (k:IntKind) (n:Int):AP Unit
inductive AL:Type->Type 1 where
 |nil:AL Unit
 |one {D:Type}(a:AP D):AL D
 |cons {D E:Type}(a:AP D) (r:AL E):AL (D×E)
end
def Fo:(ks:List Kind)->AT ks->List SV
 |[],_=>[]
 |[k],x=>[Q8v k x]
 |k::k'::ks,x=>Q8v k x.1::Fo (k'::ks) x.2
abbrev Ap:=SV->List SV->Option (Prop×SV)
def Q93 (ap:Ap) (f:SV) (ks:List Kind) (r:Kind) (x:AT ks):Prop:=match ap f (Fo ks x) with
 |some (c,v)=>(match gap.asV r v with|some _=>c|none=>False)
 |none=>False
def fnP (ap:Ap) (f:SV) (ks:List Kind) (r:Kind) (x:AT ks):r.T:=match ap f (Fo ks x) with
 |some (_,v)=>(match gap.asV r v with|some y=>y|none=>r.dflt)
 |none=>r.dflt
mutual
def AP.dec (ap:Ap):{D:Type}->(p:AP D)->SV->Option D
 |_,.k k,v=>match k with
  |.list k=>view [] k v
  |.i ik=>RG (.i ik) [v]
  |.bo=>RG .bo [v]
  |.st=>RG .st [v]
  |.pair _ _=>none
 |_,.agg l,v=>match v with|.agg vs=>AL.dec ap l vs|_=>none
 |_,.nilS,v=>match v with|.nilS=>some ()|_=>none
 |_,.any,_=>some ()
 |_,.int k n,v=>match RG (.i k) [v] with|some x=>if (show Int from x)=n then some () else none|none=>none
 |_,.ptr l,v=>match v with|.cp vs 0=>AL.dec ap l vs|_=>none
 |_,.fnx g l,v=>match v with|.fn g' [] vs=>if g'=g then AL.dec ap l vs else none|_=>none
 |_,.fn ks r,v=>match v with
  |.fn g a b=>some (Q93 ap (.fn g a b) ks r,fnP ap (.fn g a b) ks r)
  |.pf sI r' cw p=>some (Q93 ap (.pf sI r' cw p) ks r,fnP ap (.pf sI r' cw p) ks r)
  |_=>none
def AL.dec (ap:Ap):{D:Type}->(l:AL D)->List SV->Option D
 |_,.nil,vs=>match vs with|[]=>some ()|_=>none
 |_,.one a,vs=>match vs with|[v]=>AP.dec ap a v|_=>none
 |_,.cons a r,vs=>match vs with
  |v::vs=>(match AP.dec ap a v,AL.dec ap r vs with|some x,some y=>some (x,y)|_,_=>none)
  |[]=>none
end
mutual
def AP.can:{D:Type}->(p:AP D)->D->SV
 |_,.k k,x=>.val k x
 |_,.agg l,x=>.agg (AL.can l x)
 |_,.nilS,_=>.nilS
 |_,.any,_=>.any
 |_,.int k n,_=>.val (.i k) n
 |_,.ptr l,x=>.cp (AL.can l x) 0
 |_,.fnx g l,x=>.fn g [] (AL.can l x)
 |_,.fn ks r,x=>.pf ks r x.1 x.2
def AL.can:{D:Type}->(l:AL D)->D->List SV
 |_,.nil,_=>[]
 |_,.one a,x=>[AP.can a x]
 |_,.cons a r,x=>AP.can a x.1::AL.can r x.2
end
def Wt {D:Type}(l:AL D) (pre:D->Prop) (res:D->SV) (obs:D->List OB):CSp:=λap args=>match AL.dec ap l args with
 |some d=>some (pre d,res d,obs d)
 |none=>none
section
variable {P:Program}{U:Heap}
theorem He:∀ {ks:List Kind}{x:AT ks}{vs:List Value},E2 U ks x vs->SRs P U XU JE (Fo ks x) vs
 |[],x,vs,h=>by simp only[E2] at h;subst h;simp[Fo,SRs]
 |[k],x,vs,h=>by obtain⟨v,rfl,h1⟩:=h;simp only[Fo,SRs];grind [W6]
 |k::k'::ks,x,vs,h=>by obtain⟨v,cG,rfl,h1,h2⟩:=h;simp only[Fo,SRs];exact⟨v,cG,rfl,W6 h1,He h2⟩
theorem Q26 {ap:Ap}(dF:Q79 P ap) {f:SV}{v:Value}(hf:SR P U XU JE f v) (hv:∃ g a b,v=.func (.func g) a b) (ks:List Kind) (r:Kind):SR P U XU JE (.pf ks r (Q93 ap f ks r) (fnP ap f ks r)) v:=by
 obtain⟨g,a,b,rfl⟩:=hv;simp only[SR];refine⟨g,a,b,rfl,λx hd Z vs hle cz=>?_⟩;unfold Q93 at hd;split at hd
 .rename_i c u og;split at hd
  .rename_i y hy;obtain⟨h1,g',a',b',h2,h3⟩:=dF Z f (Fo ks x) c u (.func (.func g) a b) vs (SR.mono hle (λ_ _ h=>h) _ _ hf) (He cz) og hd;obtain⟨rfl,rfl,rfl⟩:=(by simpa using h2:g=g'/\a=a'/\b=b');have hp:fnP ap f ks r x=y:=by simp[fnP,og,hy]
   rw[hp];exact h3.mono λu' U' hu=>⟨hu.1,(L7 hy hu.2).vcall (Q25 _)⟩
  .exact hd.elim
 .exact hd.elim
mutual
theorem AP.q0k {ap:Ap}(dF:Q79 P ap):∀ {D:Type}(p:AP D) {v:SV}{x:D}{u:Value},AP.dec ap p v=some x->SR P U XU JE v u->SR P U XU JE (AP.can p x) u
 |_,.k k,v,x,u,h,hs=>by
  have one:SRs P U XU JE [v] [u]:=by simp only[SRs];exact⟨u,[],rfl,hs,rfl⟩
  simp only[AP.can,SR];cases k with
  |list k =>have:=DJ (own:=[]) (Heap.Le.refl U) (λd=>(trivial:OR P U XU JE U (XU d) .dead)) (show view [] k v=some x from h) hs;exact⟨u,rfl,this⟩
  |i ik=>exact Qt (k:=.i ik) h one
  |bo=>exact Qt (k:=.bo) h one
  |st=>exact Qt (k:=.st) h one
  |pair a b=>cases h
 |_,.agg l,v,x,u,h,hs=>by
  simp only[AP.dec] at h;split at h
  .simp only[SR] at hs;obtain⟨cs,rfl,hs⟩:=hs;simp only[AP.can,SR];exact⟨cs,rfl,AL.q0k dF l h hs⟩
  .cases h
 |_,.any,v,x,u,h,hs=>by simp only[AP.can,SR]
 |_,.int k n,v,x,u,h,hs=>by
  have one:SRs P U XU JE [v] [u]:=by simp only[SRs];exact⟨u,[],rfl,hs,rfl⟩
  simp only[AP.dec] at h;split at h
  .rename_i y hy;split at h
   .rename_i e;subst e;simp only[AP.can,SR];exact Qt (k:=.i k) hy one
   .cases h
  .cases h
 |_,.nilS,v,x,u,h,hs=>by
  simp only[AP.dec] at h;split at h
  .simp only[AP.can];exact hs
  .cases h
 |_,.ptr l,v,x,u,h,hs=>by
  simp only[AP.dec] at h;split at h
  .simp only[SR] at hs;obtain⟨b,c,e,wr,t,h1,rfl,h3⟩:=hs;simp only[AP.can,SR];exact⟨b,c,e,wr,t,h1,rfl,AL.q0k dF l h h3⟩
  .cases h
 |_,.fnx g l,v,x,u,h,hs=>by
  simp only[AP.dec] at h;split at h
  .split at h
   .rename_i e;subst e;simp only[SR] at hs;obtain⟨a,b,rfl,h1,h2⟩:=hs;simp only[AP.can,SR];exact⟨a,b,rfl,h1,AL.q0k dF l h h2⟩
   .cases h
  .cases h
 |_,.fn ks r,v,x,u,h,hs=>by
  simp only[AP.dec] at h;split at h
  .obtain rfl:=osj h;exact Q26 dF hs (by simp only[SR] at hs;grind) ks r
  .obtain rfl:=osj h;exact Q26 dF hs (by simp only[SR] at hs;obtain⟨g,x,y,rfl,_⟩:=hs;exact⟨_,_,_,rfl⟩) ks r
  .cases h
theorem AL.q0k {ap:Ap}(dF:Q79 P ap):∀ {D:Type}(l:AL D) {vs:List SV}{x:D}{us:List Value},AL.dec ap l vs=some x->SRs P U XU JE vs us->SRs P U XU JE (AL.can l x) us
 |_,.nil,vs,x,us,h,hs=>by
  simp only[AL.dec] at h;split at h
  .exact hs
  .cases h
 |_,.one a,vs,x,us,h,hs=>by
  simp only[AL.dec] at h;split at h
  .obtain⟨u,rfl,h1⟩:=hs.one;simp only[AL.can,SRs];exact⟨u,[],rfl,AP.q0k dF a h h1,rfl⟩
  .cases h
 |_,.cons a r,vs,x,us,h,hs=>by
  simp only[AL.dec] at h;split at h
  .rename_i v cG;split at h
   .rename_i y z h1 h2;obtain rfl:=osj h;simp only[SRs] at hs;obtain⟨u,j9,rfl,h3,h4⟩:=hs;simp only[AL.can,SRs];exact⟨u,j9,rfl,AP.q0k dF a h1 h3,AL.q0k dF r h2 h4⟩
   .cases h
  .cases h
end
theorem CsOk.nil:CsOk P []:=λf sp h=>by cases h
theorem CsOk.cons {f:Nat}{sp:CSp}{cs:List (Nat×CSp)}(h:OkC P f sp) (t:CsOk P cs):CsOk P ((f,sp)::cs):=λg vg hg=>by
 simp only[QF] at hg;cases hb:Nat.beq f g with
 |true=>rw[hb] at hg;obtain rfl:=zL hb;obtain rfl:=osj hg;exact h
 |false=>rw[hb] at hg;exact t g vg hg
theorem Z8y {f:Nat}{vc:VCode}{rs:List VResult}{nt:Nat}(h:Fun P f vc rs nt) (hm:P.follows .mixedOrders=true) {D:Type}{l:AL D}{pre:D->Prop}{res:D->SV}{obs:D->List OB}
  {C:Cx}(az:COk P C) (L:D->List (Nat×LoopAnn)) (hb:∀ d,pre d->gwp C (L d) vc 0 (WB rs (res d) (obs d)) (Qn nt (AL.can l d))):OkC P f (Wt l pre res obs):=by
 refine h.okC hm λap dF args c v bs hs hc=>?_;unfold Wt at hs
 grind [AL.q0k]
theorem Qr {f:Nat}{vc:VCode}{rs:List VResult}{nt:Nat}(h:Fun P f vc rs nt) (hm:P.follows .mixedOrders=true) {D:Type}{l:AL D}{pre:D->Prop}{res:D->SV}{obs:D->List OB}
  {C:Cx}(az:COk P C) {L:D->List (Nat×LoopAnn)}{V:D->Prop}(hq:∀ d,gwp C (L d) vc 0 (WB rs (res d) (obs d)) (Qn nt (AL.can l d))=V d) (hb:∀ d,pre d->V d):OkC P f (Wt l pre res obs) :=
 Z8y h hm az L λd hp=>(hq d).mpr (hb d hp)
end
end Go.V
namespace Go.V
open Go
def J2i (key:Nat) (vals:List Value) (rs:List VResult) (K:SV->St->Prop):Exit->St->Prop:=λe s =>
 let fin:=match W5 s rs,Q9 s.own key with
  |some r,.stk l vs=>vs=vals/\K r ⟨l,s.own,s.nx⟩
  |_,_=>False
 match e with
 |.normal=>fin
 |.ret=>fin
 |_=>False
def Q5i (C:Cx) (L:List Value->List (Nat×LoopAnn)) (vc:VCode) (rs:List VResult) (nt:Nat):XSp:=λd args s K =>
 ∀ vals,gwp {C with off:=100000*(d+1)} (L vals) vc 0 (J2i (100000*(d+1)-1) vals rs K) ⟨SVs.kill (100000*(d+1)-1) args++List.replicate (nt-args.length) .any,(Q08 (100000*(d+1)-1) vals s).own,s.nx⟩
def J19 (C:Cx) (L:List (Nat×LoopAnn)) (vc:VCode) (nt:Nat):Z5b:=λo args y s K =>
 gwp {C with off:=100000*(o+1),yl:=[y]} L vc 0 (λe s'=>match e with|.normal=>K s'|.ret=>K s'|_=>False) ⟨args++List.replicate (nt-args.length) .any,s.own,s.nx⟩
section
variable {P:Program}
theorem Hk {B:Heap}{pl:Nat->Value}{tb:Nat->Option Bool}:∀ n,SRs P B pl tb (List.replicate n .any) (List.replicate n undef)
 |0=>by simp[SRs]
 |n+1=>by simp only[xw,SRs];exact⟨_,_,rfl,by simp[SR],Hk n⟩
theorem U4 {f:Nat}{vc:VCode}{rs:List VResult}{nt:Nat}(h:Fun P f vc rs nt) (hm:P.follows .mixedOrders=true) {C:Cx}(az:COk P C) (L:List Value->List (Nat×LoopAnn)):XOk P f (Q5i C L vc rs nt):=by
 intro B F pl tb s env U d args vs K R hG ha hx hK;have hx:=hx env;refine h.calls hm Rw ?_;have q3:Gam P B F (ZR pl (100000*(d+1)-1) poison) tb (Q08 (100000*(d+1)-1) env s) env U:=by refine hG.make _ _ poison hG.le (λ_ _ _ _ _=>rfl) ?_ (λi hl _=>by cases hl);exact SRs.upd (.refl _) (λ_ _ h=>h) (λj hj=>by simp[ZR,hj]) _ _ hG.env
 have eF:COk P {C with off:=100000*(d+1)}:=⟨az.cs,az.xs,az.it,az.yl,az.iy,az.xf⟩;have ax:=SRs.upd (P:=P) (Heap.Le.refl B) (λ_ _ h=>h) (pl':=ZR pl (100000*(d+1)-1) poison) (tb':=tb) (o:=100000*(d+1)-1) (λj hj=>by simp[ZR,hj]) _ _ ha;have a9:GRel P B F U ⟨SVs.kill (100000*(d+1)-1) args++List.replicate (nt-args.length) .any,(Q08 (100000*(d+1)-1) env s).own,s.nx⟩ (vs++List.replicate (nt-vs.length) undef) U:=by refine⟨B,F,_,tb,.of hG.bf (.refl _),⟨q3.bf,q3.le,?_,q3.obj,q3.fresh,q3.sep,q3.free⟩⟩;rw[ha.length];exact ax.append (Hk _)
 refine VO eF vc 0 _ _ _ U none _ trivial a9 hx λe s' ae U' h1 h2=>?_
 .have main:(match W5 s' rs,Q9 s'.own (100000*(d+1)-1) with
   |some r,.stk l vs=>vs=env/\K r ⟨l,s'.own,s'.nx⟩
   |_,_=>False)->Zm (Jl ae U' rs) λv=>∃ v' aF,DropTo U v U' v' aF/\R v' aF:=λh=>by
   obtain⟨B',F',pl',tb',k1,k2⟩:=h2;split at h
   .rename_i r l cG hr fY;obtain⟨rfl,h⟩:=h;obtain⟨u,h3,h4⟩:=Xh k2 hr;rw[h3];have ai:=k2.obj (100000*(d+1)-1);rw[fY] at ai;exact⟨u,U',.refl _ _ _,hK r _ B' F' pl' tb' u U' h k1 ⟨k2.bf,k2.le,ai,k2.obj,k2.fresh,k2.sep,k2.free⟩ h4⟩
   .exact h.elim
  cases e with
  |normal=>exact main h1
  |ret=>exact main h1
  |_=>exact h1.elim
theorem Q8b {f:Nat}{vc:VCode}{nt:Nat}(h:Fun P f vc [] nt) (hm:P.follows .mixedOrders=true) {C:Cx}(az:COk P C) (L:List (Nat×LoopAnn)):Z5c P f (J19 C L vc nt):=by
 refine⟨h.enterable,λB F pl tb s env U o args vs y K R hG ha hy hx hK=>h.callsTo hm Rw ?_⟩;have eF:COk P {C with off:=100000*(o+1),yl:=[(o,y)]}:=⟨az.cs,az.xs,az.it,λo' y' h'=>by
  simp only[QF] at h'
  grind [Nat.eq_of_beq_eq_true,osj],az.iy,az.xf⟩
 have a9:GRel P B F U ⟨args++List.replicate (nt-args.length) .any,s.own,s.nx⟩ (vs++List.replicate (nt-vs.length) undef) U:=by refine⟨B,F,pl,tb,.of hG.bf (Dead.refl _),⟨hG.bf,hG.le,?_,hG.obj,hG.fresh,hG.sep,hG.free⟩⟩;rw[ha.length];exact ha.append (Hk _)
 refine VO eF vc 0 _ _ _ U none _ trivial a9 hx λe s' ae U' h1 h2=>?_;have main:K s'->Zm (Jl ae U' []) λv=>∃ v' aF,DropTo U v U' v' aF/\R aF:=λh=>by obtain⟨B',F',pl',tb',k1,k2⟩:=h2;exact⟨_,U',.refl _ _ _,hK s' B' F' pl' tb' ae U' h k1 k2⟩
 cases e with
 |normal=>exact main h1
 |ret=>exact main h1
 |_=>exact h1.elim
end
end Go.V