/- A framework for walks, contracts of functions, and their proofs: part 6. -/
import Derived.ProofKit
import Derived.OpenShut
import Derived.LaidMore
import Derived.Carry
import Derived.Lib.SmallJoins
import Derived.Deep.Slices
import Derived.Test.YtfblnfcecfjbpaaGreatF5
noncomputable section
set_option linter.unusedVariables false
set_option maxRecDepth 100000
namespace Go.Proofs.Tryz
open Go Go.V Go.Proofs
def Jd (n mo:Nat):List (Int×Int):=(List.range n).flatMap λ(a:Nat)=>(List.range (mo+1)).map λ(f:Nat)=>((a:Int),(f:Int))
def Gk (n:Int) (p:Int×Int) (s:Int):Int×Int:=(Int.tmod (p.1+s) n,p.2+if s=1 then 0 else 1)
def Bh (n mo:Int) (p:Int×Int) (w:Int) (q:Int×Int) (s:Int):Int:=if Gk n p s=q/\q.2<=mo then w else 0
def Lu (n mo:Int) (wv:Int->Bool) (p:Int×Int) (w:Int) (q:Int×Int):Int:=if wv p.1=true then Bh n mo p w q 0+Bh n mo p w q 1+Bh n mo p w q 2 else 0
def wyK (n mo:Nat) (wv:Nat->Int->Bool):Nat->Int×Int->Int
 |0,q=>if 0<=q.1/\q.1<(n:Int)/\q.2=0 then 1 else 0
 |k+1,q=>((Jd n mo).map λp=>Lu n mo (wv k) p (wyK n mo wv k p) q).sum
def MapW (n mo:Nat) (m:List ((Int×Int)×Int)) (W:Int×Int->Int):Prop:=(m.map (·.1)).Nodup/\(∀ e∈m,e.2=W e.1/\0<e.2/\e.1∈Jd n mo)/\∀ q,W q≠0->∃ e∈m,e.1=q
theorem Xv {n mo:Nat}{q:Int×Int}:q∈Jd n mo<->(0<=q.1/\q.1<n)/\0<=q.2/\q.2<=mo:=by
 unfold Jd;simp only[List.mem_flatMap,zr,zq];constructor
 .rintro⟨a,ha,f,hf,rfl⟩;dsimp only;omega
 .intro h;exact⟨q.1.toNat,by omega,q.2.toNat,by omega,by ext<;>dsimp only<;>omega⟩
theorem M8 (n mo:Nat):(Jd n mo).Nodup:=by unfold Jd;refine List.pairwise_flatMap.2 ⟨λa _=>xI.2 ((List.nodup_range (n:=mo+1)).imp λh e=>h (by have:=(Prod.ext_iff.1 e).2;dsimp only at this;omega)),(List.nodup_range (n:=n)).imp λ{a b} h x hx y hy e=>?_⟩;obtain⟨f,_,rfl⟩:=zq.1 hx;obtain⟨g,_,rfl⟩:=zq.1 hy;have:=(Prod.ext_iff.1 e).1;dsimp only at this;omega
theorem Ah {l l':List Int}(h:l.Perm l'):l.sum=l'.sum:=by
 induction h with
 |nil=>rfl
 |cons x _ ih=>simp only[xH];omega
 |swap x y l=>simp only[xH];omega
 |trans _ _ h1 h2=>exact h1.trans h2
theorem H9 {α:Type}{f:α->Int}:∀ {l:List α},(∀ x∈l,f x=0)->(l.map f).sum=0
 |[],_=>rfl
 |x::l,h=>by rw[zF,xH,h x (ze ..),H9 λy hy=>h y (z9 _ hy)];rfl
theorem Vt {α:Type}{f:α->Int}:∀ {l:List α},(∀ x∈l,0<=f x)->0<=(l.map f).sum
 |[],_=>Int.le_refl _
 |x::l,h=>by have h1:=h x (ze ..);have h2:=Vt (l:=l) λy hy=>h y (z9 _ hy);rw[zF,xH];omega
theorem Rn {α:Type}(f:α->Int) (a b:List α):((a++b).map f).sum=(a.map f).sum+(b.map f).sum:=by rw[xB,List.sum_append_int]
theorem Pm {n mo:Nat}{m:List ((Int×Int)×Int)}{W:Int×Int->Int}(h:MapW n mo m W) (G:Int×Int->Int->Int) (h0:∀ p,G p 0=0):(m.map λe=>G e.1 e.2).sum=((Jd n mo).map λp=>G p (W p)).sum:=by
 obtain⟨h1,h2,h3⟩:=h;have e1:(m.map λe=>G e.1 e.2)=(m.map (·.1)).map λp=>G p (W p):=by
  rw[w5];exact x9 λe he=>by show G e.1 e.2=G e.1 (W e.1);rw[(h2 e he).1]
 have hp:((m.map (·.1))++(Jd n mo).filter λp=>!(m.map (·.1)).contains p).Perm (Jd n mo):=by
  refine (xG (List.nodup_append.2 ⟨h1,(M8 n mo).filter _,λa ha b hb e=>?_⟩) (M8 n mo)).2 λa=>?_
  .subst e;have:=(zy.1 hb).2;simp at this;obtain⟨x,hx⟩:=zq.1 ha;exact this x.2 (by rw[<-hx.2];exact hx.1)
  .rw[zu,zy];constructor
   .rintro (h|h)
    .obtain⟨e,he,rfl⟩:=zq.1 h;exact(h2 e he).2.2
    .exact h.1
   .intro h;by_cases hc:a∈m.map (·.1)
    .exact .inl hc
    .exact .inr ⟨h,by simpa using hc⟩
 rw[e1,<-Ah (hp.map λp=>G p (W p)),Rn];have:(((Jd n mo).filter λp=>!(m.map (·.1)).contains p).map λp=>G p (W p)).sum=0:=H9 λp hp=>by
  have hc:=(zy.1 hp).2;have:W p=0:=by
   by_cases e:W p=0
   .exact e
   .obtain⟨x,hx,rfl⟩:=h3 p e;have:x.1∈m.map (·.1):=zq.2 ⟨x,hx,rfl⟩;simp[this] at hc
  rw[this,h0]
 rw[this];omega
def XA (m:List ((Int×Int)×Int)) (k:Int×Int):Int:=gq.aget (.pair (.i .i64) (.i .i64)) m k 0
def Nt (m:List ((Int×Int)×Int)) (k:Int×Int) (v:Int):List ((Int×Int)×Int):=UI (.pair (.i .i64) (.i .i64)) m k v
theorem Z0o {a b:Int×Int}:gq.keq (.pair (.i .i64) (.i .i64)) a b=true<->a=b:=by show ((a.1==b.1)&&(a.2==b.2))=true<->_;simp only[z2,zS,Prod.ext_iff]
theorem Km (a:Int×Int) (b:Int) (m:List ((Int×Int)×Int)) (k:Int×Int):XA ((a,b)::m) k=if k=a then b else XA m k:=by
 show (if gq.keq (.pair (.i .i64) (.i .i64)) k a=true then b else gq.aget (.pair (.i .i64) (.i .i64)) m k 0)=_;by_cases h:k=a
 .rw[z0 (Z0o.2 h),z0 h]
 .rw[z1 (λe=>h (Z0o.1 e)),z1 h];rfl
theorem Kz (a:Int×Int) (b:Int) (m:List ((Int×Int)×Int)) (k:Int×Int) (v:Int):Nt ((a,b)::m) k v=if k=a then (k,v)::m else (a,b)::Nt m k v:=by
 show (if gq.keq (.pair (.i .i64) (.i .i64)) k a=true then (k,v)::m else (a,b)::UI (.pair (.i .i64) (.i .i64)) m k v)=_;by_cases h:k=a
 .rw[z0 (Z0o.2 h),z0 h]
 .rw[z1 (λe=>h (Z0o.1 e)),z1 h];rfl
theorem FY {m:List ((Int×Int)×Int)}(hn:(m.map (·.1)).Nodup) {e:(Int×Int)×Int}(he:e∈m):XA m e.1=e.2:=by
 induction m with
 |nil=>cases he
 |cons x m ih =>
  obtain⟨a,b⟩:=x;rw[zF,zU] at hn;rw[Km];rcases zf.1 he with rfl|he
  .rw[z0 rfl]
  .have:e.1≠a:=λh=>hn.1 (by rw[<-h];exact zq.2 ⟨e,he,rfl⟩);rw[z1 this];exact ih hn.2 he
theorem Sm {k:Int×Int}:∀ {m:List ((Int×Int)×Int)},(∀ e∈m,e.1≠k)->XA m k=0
 |[],_=>rfl
 |(a,b)::m,h=>by rw[Km,z1 λe=>h (a,b) (ze ..) e.symm];exact Sm λe he=>h e (z9 _ he)
theorem MapW.get {n mo:Nat}{m:List ((Int×Int)×Int)}{W:Int×Int->Int}(h:MapW n mo m W) (q:Int×Int):XA m q=W q:=by
 by_cases hz:W q=0
 .rw[hz];refine Sm λe he hq=>?_;have:=h.2.1 e he;rw[hq,hz] at this;omega
 .obtain⟨e,he,rfl⟩:=h.2.2 q hz;rw[FY h.1 he];exact(h.2.1 e he).1
theorem CG (k:Int×Int) (v:Int):∀ (m:List ((Int×Int)×Int)),(m.map (·.1)).Nodup->(∀ e∈Nt m k v,e=(k,v)\/e∈m/\e.1≠k)/\(k,v)∈Nt m k v/\(∀ e∈m,e.1≠k->e∈Nt m k v)/\((Nt m k v).map (·.1)).Nodup
 |[],_=>⟨λe he=>.inl (z8.1 he),z8.2 rfl,λe he=>(by cases he),List.pairwise_singleton _ _⟩
 |(a,b)::m,hn=>by
  rw[zF,zU] at hn;obtain⟨h1,h2,h3,h4⟩:=CG k v m hn.2;rw[Kz];by_cases hk:k=a
  .subst hk;rw[z0 rfl];refine⟨λe he=>?_,ze ..,λe he av=>?_,by rw[zF,zU];exact hn⟩
   .rcases zf.1 he with h|h
    .exact .inl h
    .exact .inr ⟨z9 _ h,λe2=>hn.1 (zq.2 ⟨e,h,e2⟩)⟩
   .rcases zf.1 he with h|h
    .rw[h] at av;exact(av rfl).elim
    .exact z9 _ h
  .rw[z1 hk];refine⟨λe he=>?_,z9 _ h2,λe he av=>?_,?_⟩
   .rcases zf.1 he with h|h
    .subst h;exact .inr ⟨ze ..,λe=>hk e.symm⟩
    .rcases h1 e h with h|h
     .exact .inl h
     .exact .inr ⟨z9 _ h.1,h.2⟩
   .rcases zf.1 he with h|h
    .rw[h];exact ze ..
    .exact z9 _ (h3 e h av)
   .rw[zF,zU];refine⟨λhm=>?_,h4⟩;obtain⟨e,he,lD⟩:=zq.1 hm;rcases h1 e he with h|h
    .rw[h] at lD;exact hk lD
    .exact hn.1 (zq.2 ⟨e,h.1,lD⟩)
theorem MapW.add {n mo:Nat}{m:List ((Int×Int)×Int)}{W:Int×Int->Int}(h:MapW n mo m W) (hW:∀ q,0<=W q) {k:Int×Int}{w:Int}(hw:0<w) (hk:k∈Jd n mo):MapW n mo (Nt m k (XA m k+w)) (λq=>W q+if q=k then w else 0):=by
 obtain⟨p1,p2,p3,p4⟩:=CG k (XA m k+w) m h.1;have hg:=h.get k;have vC:=hW k;refine⟨p4,λe he=>?_,λq hq=>?_⟩
 .rcases p1 e he with rfl|⟨h1,h2⟩
  .dsimp only;rw[z0 rfl];exact⟨by omega,by omega,hk⟩
  .dsimp only;rw[z1 h2];have:=h.2.1 e h1;exact⟨by omega,this.2⟩
 .by_cases e:q=k
  .exact⟨_,p2,e.symm⟩
  .dsimp only at hq;rw[z1 e] at hq;obtain⟨x,hx,rfl⟩:=h.2.2 q (by omega);exact⟨x,p3 x hx e,rfl⟩
theorem MapW.congr {n mo:Nat}{m:List ((Int×Int)×Int)}{W W':Int×Int->Int}(h:MapW n mo m W) (e:∀ q,W q=W' q):MapW n mo m W':=by have:W=W':=funext e;rw[<-this];exact h
theorem MapW.nil (n mo:Nat):MapW n mo [] λ_=>0:=⟨List.nodup_nil,(λe he=>by cases he),λq hq=>(hq rfl).elim⟩
theorem Un {n mo:Int}{p:Int×Int}{w:Int}{q:Int×Int}{s:Int}(hw:0<=w):0<=Bh n mo p w q s/\Bh n mo p w q s<=w:=by unfold Bh;split<;>omega
theorem P5 {n mo:Int}{wv:Int->Bool}{p:Int×Int}{w:Int}{q:Int×Int}(hw:0<=w):0<=Lu n mo wv p w q:=by have h0:=(Un (n:=n) (mo:=mo) (p:=p) (q:=q) (s:=0) hw).1;have h1:=(Un (n:=n) (mo:=mo) (p:=p) (q:=q) (s:=1) hw).1;have h2:=(Un (n:=n) (mo:=mo) (p:=p) (q:=q) (s:=2) hw).1;unfold Lu;split<;>omega
theorem DQ (n mo:Nat) (wv:Nat->Int->Bool):∀ k q,0<=wyK n mo wv k q
 |0,q=>by simp only[wyK];split<;>omega
 |k+1,q=>Vt λp _=>P5 (DQ n mo wv k p)
theorem RW (n mo:Nat) (wv:Nat->Int->Bool) (hn:0<n):∀ k q,wyK n mo wv k q≠0->q∈Jd n mo
 |0,q,h=>by
  simp only[wyK] at h;split at h
  .rename_i h2;rw[Xv];omega
  .exact(h rfl).elim
 |k+1,q,h=>by
  simp only[wyK] at h;by_cases hq:q∈Jd n mo
  .exact hq
  .exfalso;refine h (H9 λp hp=>?_);rw[Xv] at hp hq;have z:∀ s:Int,0<=s->Bh n mo p (wyK n mo wv k p) q s=0:=λs hs=>by
    unfold Bh;rw[z1];rintro⟨h1,h2⟩;apply hq;have e1:=(Prod.ext_iff.1 h1).1;have e2:=(Prod.ext_iff.1 h1).2;unfold Gk at e1 e2;dsimp only at e1 e2;rw[Int.tmod_eq_emod_of_nonneg (by omega)] at e1;have b1:=Int.emod_nonneg (p.1+s) (show (n:Int)≠0 by omega);have b2:=Int.emod_lt_of_pos (p.1+s) (show (0:Int)<n by omega);split at e2<;>omega
   unfold Lu;rw[z 0 (by omega),z 1 (by omega),z 2 (by omega)];split<;>rfl
theorem FH {α:Type}{f:α->Int}{B:Int}(hB:0<=B):∀ {l:List α},l.Nodup->(∀ x∈l,0<=f x/\f x<=B)->(∀ x∈l,∀ y∈l,f x≠0->f y≠0->x=y)->(l.map f).sum<=B
 |[],_,_,_=>hB
 |x::l,hn,hb,h1=>by
  rw[zU] at hn;rw[zF,xH];by_cases hx:f x=0
  .have:=FH hB hn.2 (λy hy=>hb y (z9 _ hy)) λy hy z hz=>h1 y (z9 _ hy) z (z9 _ hz);omega
  .have hz:(l.map f).sum=0:=H9 λy hy=>by
    by_cases e:f y=0
    .exact e
    .exact(hn.1 (by rw[h1 x (ze ..) y (z9 _ hy) hx e];exact hy)).elim
   have:=hb x (ze ..);omega
theorem Q6d {n:Int}{p p':Int×Int}{s:Int}(hs:0<=s) (h1:0<=p.1/\p.1<n) (h2:0<=p'.1/\p'.1<n) (h:Gk n p s=Gk n p' s):p=p':=by
 have e1:=(Prod.ext_iff.1 h).1;have e2:=(Prod.ext_iff.1 h).2;unfold Gk at e1 e2;dsimp only at e1 e2;rw[Int.tmod_eq_emod_of_nonneg (by omega),Int.tmod_eq_emod_of_nonneg (by omega)] at e1;have h3:p.1=p'.1:=by
  have a1:=Int.emod_add_emod p.1 n s;have:=Int.emod_emod_of_dvd;have d:(p.1-p'.1) % n=0:=by
   have:(p.1+s-(p'.1+s)) % n=0:=Int.emod_eq_emod_iff_emod_sub_eq_zero.1 e1
   rwa [show p.1+s-(p'.1+s)=p.1-p'.1 by omega] at this
  obtain⟨c,hc⟩:=Int.dvd_of_emod_eq_zero d;have c1:c<1:=by
   by_cases h:1<=c
   .have:=Int.mul_le_mul_of_nonneg_left h (show 0<=n by omega);omega
   .omega
  have c2:-1<c:=by
   by_cases h:c<=-1
   .have:=Int.mul_le_mul_of_nonneg_left h (show 0<=n by omega);omega
   .omega
  have:c=0:=by omega
  rw[this] at hc;omega
 exact Prod.ext h3 (by omega)
theorem Q1v {α:Type}{f g:α->Int}:∀ {l:List α},(∀ x∈l,f x<=g x)->(l.map f).sum<=(l.map g).sum
 |[],_=>Int.le_refl _
 |x::l,h=>by have h1:=h x (ze ..);have h2:=Q1v (l:=l) λy hy=>h y (z9 _ hy);rw[zF,zF,xH,xH];omega
theorem LR {α:Type}(f g:α->Int):∀ (l:List α),(l.map λx=>f x+g x).sum=(l.map f).sum+(l.map g).sum
 |[]=>rfl
 |x::l=>by have:=LR f g l;rw[zF,zF,zF,xH,xH,xH];omega
theorem I_ {n mo:Nat}{V:Int×Int->Int}{q:Int×Int}{s B:Int}(hs:0<=s) (hB:0<=B) (hV:∀ p,0<=V p) (hb:∀ p∈Jd n mo,Gk n p s=q->V p<=B):((Jd n mo).map λp=>Bh n mo p (V p) q s).sum<=B:=by
 refine FH hB (M8 n mo) (λp hp=>?_) λp hp p' bk h1 h2=>?_
 .have:=Un (n:=n) (mo:=mo) (p:=p) (q:=q) (s:=s) (hV p);refine⟨this.1,?_⟩;by_cases hq:Gk n p s=q
  .have:=hb p hp hq;omega
  .unfold Bh;rw[z1 λh=>hq h.1];exact hB
 .rw[Xv] at hp bk;have e1:Gk n p s=q:=by
   by_cases h:Gk n p s=q
   .exact h
   .unfold Bh at h1;rw[z1 λh'=>h h'.1] at h1;exact(h1 rfl).elim
  have e2:Gk n p' s=q:=by
   by_cases h:Gk n p' s=q
   .exact h
   .unfold Bh at h2;rw[z1 λh'=>h h'.1] at h2;exact(h2 rfl).elim
  exact Q6d hs hp.1 bk.1 (e1.trans e2.symm)
theorem CJ {n mo:Nat}(wv:Nat->Int->Bool) (hn:0<n):∀ (k:Nat) (q:Int×Int),0<=q.2->wyK n mo wv k q<=((2*k+1) ^ q.2.toNat:Nat)
 |0,q,hq=>by simp only[wyK];have:0<(2*0+1) ^ q.2.toNat:=Nat.pow_pos (by omega);split<;>omega
 |k+1,q,hq=>by
  have jM:=DQ n mo wv k;have h0:wyK n mo wv (k+1) q<=((Jd n mo).map λp=>(Bh n mo p (wyK n mo wv k p) q 0+Bh n mo p (wyK n mo wv k p) q 1)+Bh n mo p (wyK n mo wv k p) q 2).sum:=Q1v λp _=>by have a0:=(Un (n:=n) (mo:=mo) (p:=p) (q:=q) (s:=0) (jM p)).1;have a1:=(Un (n:=n) (mo:=mo) (p:=p) (q:=q) (s:=1) (jM p)).1;have a2:=(Un (n:=n) (mo:=mo) (p:=p) (q:=q) (s:=2) (jM p)).1;unfold Lu;split<;>omega
  rw[LR,LR] at h0;obtain⟨f,hf⟩:∃ f:Nat,q.2=f:=⟨q.2.toNat,by omega⟩;have b1:((Jd n mo).map λp=>Bh n mo p (wyK n mo wv k p) q 1).sum<=((2*k+1) ^ f:Nat):=I_ (by omega) (by omega) jM λp hp he=>by
   rw[Xv] at hp;have e2:=(Prod.ext_iff.1 he).2;unfold Gk at e2;dsimp only at e2;rw[z0 rfl] at e2;have:=CJ (n:=n) (mo:=mo) wv hn k p hp.2.1
   rwa [show p.2.toNat=f by omega] at this
  have bs:∀ s:Int,0<=s->s≠1->((Jd n mo).map λp=>Bh n mo p (wyK n mo wv k p) q s).sum<=((if f=0 then 0 else (2*k+1) ^ (f-1):Nat):Int):=λs hs jK=>I_ hs (by omega) jM λp hp he=>by
   rw[Xv] at hp;have e2:=(Prod.ext_iff.1 he).2;unfold Gk at e2;dsimp only at e2;rw[z1 jK] at e2;have:=CJ (n:=n) (mo:=mo) wv hn k p hp.2.1;rw[z1 (by omega)]
   rwa [show p.2.toNat=f-1 by omega] at this
  have b0:=bs 0 (by omega) (by omega);have b2:=bs 2 (by omega) (by omega);rw[hf,zz];have key:(2*k+1) ^ f+2*(if f=0 then 0 else (2*k+1) ^ (f-1))<=(2*(k+1)+1) ^ f:=by
   cases f with
   |zero=>simp
   |succ g =>
    rw[z1 (by omega),Nat.add_sub_cancel];have hp:(2*k+1) ^ g<=(2*(k+1)+1) ^ g:=Nat.pow_le_pow_left (by omega) g;have h1:(2*k+1) ^ (g+1)+2*(2*k+1) ^ g=(2*k+1) ^ g*(2*(k+1)+1):=by
     rw[Nat.pow_succ];generalize (2*k+1) ^ g=A;have:A*(2*(k+1)+1)=A*(2*k+1)+A*2:=by rw[<-Nat.mul_add];congr 1
     omega
    rw[h1,Nat.pow_succ];exact zm _ hp
  omega
theorem CN {α:Type}{d:α}{m:List α}{F:α->Int}{dn:List Nat}(hn:dn.Nodup) (ah:∀ r∈dn,r<m.length) (hF:∀ x∈m,0<=F x):(dn.map λr=>F (m.getD r d)).sum<=(m.map F).sum/\((∀ r,r<m.length->r∈dn)->(dn.map λr=>F (m.getD r d)).sum=(m.map F).sum):=by
 have e:m.map F=(List.range m.length).map λr=>F (m.getD r d):=by
  refine List.ext_getElem (by simp) λi h1 h2=>?_;have hi:i<m.length:=by simpa using h1
  rw[xF,xF,List.getElem_range,Qg hi]
 have hp:(dn++(List.range m.length).filter λr=>!dn.contains r).Perm (List.range m.length):=by
  refine (xG (List.nodup_append.2 ⟨hn,(List.nodup_range (n:=m.length)).filter _,λa ha b hb e=>?_⟩) List.nodup_range).2 λa=>?_
  .subst e;have:=(zy.1 hb).2;simp[ha] at this
  .rw[zu,zy,zr];constructor
   .rintro (h|h)
    .exact ah a h
    .exact h.1
   .intro h;by_cases hc:a∈dn
    .exact .inl hc
    .exact .inr ⟨h,by simpa using hc⟩
 rw[e,<-Ah (hp.map λr=>F (m.getD r d)),Rn];constructor
 .have:0<=(((List.range m.length).filter λr=>!dn.contains r).map λr=>F (m.getD r d)).sum:=Vt λr hr=>by
   have hr:=zr.1 (zy.1 hr).1;rw[Qg hr];exact hF _ (zn hr)
  omega
 .intro h;have:(List.range m.length).filter (λr=>!dn.contains r)=[]:=List.filter_eq_nil_iff.2 λr hr=>by have:=h r (zr.1 hr);simp[this]
  rw[this];simp
def wvB (hk:Int) (cs:List VQ) (cl:List Int) (k:Nat) (a:Int):Bool:=(cl.getD k 0==-1)||(cl.getD k 0==Cg hk (cs.getD a.toNat BC))
theorem LG (k:Int×Int) (a b:Int):∀ m:List ((Int×Int)×Int),Nt (Nt m k a) k b=Nt m k b
 |[]=>by show Nt [(k,a)] k b=[(k,b)];rw[Kz,z0 rfl]
 |(x,v)::m=>by
  rw[Kz,Kz];by_cases h:k=x
  .rw[z0 h,z0 h,Kz,z0 rfl]
  .rw[z1 h,z1 h,Kz,z1 h,LG k a b m]
theorem Ly (k q:Int×Int) (v:Int):∀ m:List ((Int×Int)×Int),XA (Nt m k v) q=if q=k then v else XA m q
 |[]=>by show XA [(k,v)] q=_;rw[Km]
 |(x,w)::m=>by
  rw[Kz];by_cases h:k=x
  .subst h;rw[z0 rfl,Km,Km];split<;>rfl
  .rw[z1 h,Km,Ly k q v m,Km];by_cases h2:q=x
   .subst h2;rw[z0 rfl,z0 rfl,z1 (λe=>h e.symm)]
   .rw[z1 h2,z1 h2]
def AM (n mo:Int) (p:Int×Int) (w:Int) (m:List ((Int×Int)×Int)) (s:Int):List ((Int×Int)×Int):=if (Gk n p s).2<=mo then Nt m (Gk n p s) (XA m (Gk n p s)+w) else m
def Q6l (n mo:Int) (p:Int×Int) (w:Int) (m:List ((Int×Int)×Int)):List ((Int×Int)×Int):=AM n mo p w (AM n mo p w (AM n mo p w m 0) 1) 2
theorem Q0l (n mo:Int) (p:Int×Int) (w:Int) (m:List ((Int×Int)×Int)) (s:Int) (q:Int×Int):XA (AM n mo p w m s) q=XA m q+Bh n mo p w q s:=by
 unfold AM Bh;by_cases h:(Gk n p s).2<=mo
 .rw[z0 h,Ly];by_cases e:q=Gk n p s
  .rw[z0 e,z0 ⟨e.symm,by rw[e];exact h⟩,e]
  .rw[z1 e,z1 (λx=>e x.1.symm)];omega
 .rw[z1 h,z1 (λx=>h (by rw[x.1];exact x.2))];omega
theorem FG {n mo:Nat}{m:List ((Int×Int)×Int)}{W:Int×Int->Int}(h:MapW n mo m W) (hW:∀ q,0<=W q) {p:Int×Int}{w s:Int}(hw:0<w) (hn:0<n) (hp:0<=p.1/\0<=p.2) (hs:0<=s):MapW n mo (AM n mo p w m s) (λq=>W q+Bh n mo p w q s):=by
 unfold AM;by_cases hc:(Gk n p s).2<=mo
 .rw[z0 hc];refine (h.add hW hw (k:=Gk n p s) ?_).congr λq=>?_
  .rw[Xv];have b1:=Int.emod_nonneg (p.1+s) (show (n:Int)≠0 by omega);have b2:=Int.emod_lt_of_pos (p.1+s) (show (0:Int)<n by omega);refine⟨?_,?_,hc⟩
   .unfold Gk;dsimp only;rw[Int.tmod_eq_emod_of_nonneg (by omega)];exact⟨b1,b2⟩
   .unfold Gk;dsimp only;split<;>omega
  .unfold Bh;by_cases e:q=Gk n p s
   .rw[z0 e,z0 ⟨e.symm,by rw[e];exact hc⟩]
   .rw[z1 e,z1 (λx=>e x.1.symm)]
 .rw[z1 hc];exact h.congr λq=>by
   unfold Bh;rw[z1 (λx=>hc (by rw[x.1];exact x.2))];omega
theorem Q81 {n mo:Nat}{m:List ((Int×Int)×Int)}{W:Int×Int->Int}(h:MapW n mo m W) (hW:∀ q,0<=W q) {p:Int×Int}{w:Int}(hw:0<w) (hn:0<n) (hp:0<=p.1/\0<=p.2):MapW n mo (Q6l n mo p w m) (λq=>W q+(Bh n mo p w q 0+Bh n mo p w q 1+Bh n mo p w q 2)):=by have z:=λq s=>(Un (n:=n) (mo:=mo) (p:=p) (q:=q) (s:=s) (Int.le_of_lt hw)).1;have h1:=FG h hW hw hn hp (s:=0) (by omega);have h2:=FG h1 (λq=>by have:=hW q;have:=z q 0;omega) hw hn hp (s:=1) (by omega);have h3:=FG h2 (λq=>by have:=hW q;have:=z q 0;have:=z q 1;omega) hw hn hp (s:=2) (by omega);exact h3.congr λq=>by omega
def WQ:AL (Int×Int×(List (Int×Int×Bool))×Int):=(.cons (.k (.i .i64)) (.one (.ptr (.cons (.k (.i .i64)) (.cons (.k (.list (.pair (.i .i64) (.pair (.i .i64) .bo)))) (.one (.k (.i .i64))))))))
def U4 (d:Int×Int×(List (Int×Int×Bool))×Int):Prop:=1<=d.2.2.2/\d.2.2.2<=24
def Wy (d:Int×Int×(List (Int×Int×Bool))×Int):SV:=.val .bo (decide (d.1≠-1)&&!inI d.1 0 (2 ^ d.2.2.2.toNat-1))
def Wf (d:Int×Int×(List (Int×Int×Bool))×Int):List OB:=[]
def JO:CSp:=N2 WQ U4 Wy Wf
def Zz (r:Int) (hk:Int) (cs:List (Int×Int×Bool)) (f:Int):Prop :=
 ((r != (-1:Int))=true->True)/\((r != (-1:Int))=true->1<=f/\f<=24/\[r].length<=1000000)/\(((r != (-1:Int))&&(!(!([r].any λn=>!inI n 0 (2 ^ f.toNat-1)))))=(decide (r≠-1)&&!inI r 0 (2 ^ f.toNat-1))/\(True))
def WM:Cx:=⟨[(3,(.i .i64))],[(102,ZN)],14,[],0,[],[],[],[],false,[],[],[],[]⟩
def UZ (r:Int) (hk:Int) (cs:List (Int×Int×Bool)) (f:Int):List (Nat×LoopAnn):=[]
theorem UF (d:Int×Int×(List (Int×Int×Bool))×Int):gwp (WM) (UZ d.1 d.2.1 d.2.2.1 d.2.2.2) Z0v 0 (Nu [.tmp 3] (Wy d) (Wf d)) (Q_ 14 (AL.can WQ d))=Zz d.1 d.2.1 d.2.2.1 d.2.2.2:=by kernel_rfl
abbrev UW:Prop:=OkC Tryz.prog 112 JO
theorem N5 (h:∀ (r:Int) (hk:Int) (cs:List (Int×Int×Bool)) (f:Int),(1<=f/\f<=24)->Zz r hk cs f):OkC Tryz.prog 112 JO :=
 Zn Is mixed (C:=WM) (V:=λ(d:Int×Int×(List (Int×Int×Bool))×Int)=>Zz d.1 d.2.1 d.2.2.1 d.2.2.2) ⟨(.cons WK .nil),XsOk.nil,ItsOk.nil,YlOk.nil,IysOk.nil,XfOk.nil⟩ (UF) λd hp=>h d.1 d.2.1 d.2.2.1 d.2.2.2 hp
theorem UX:UW:=N5 λr hk cs f h=>by
 unfold Zz;(try delta lI gD sT I64 Xz pj8 pj4);refine⟨λ_=>trivial,λ_=>⟨h.1,h.2,by simp⟩,?_,trivial⟩;simp only[List.any_cons,List.any_nil,xU,Bool.not_not];congr 1;by_cases e:r=-1
 .subst e;rfl
 .simp[e]
def MD:AL (Int):=(.one (.k (.i .i64)))
def Pf (d:Int):Prop:=True
def NI (d:Int):SV:=.val (.i .i64) (if d=1 then 0 else 1)
def Nr (d:Int):List OB:=[]
def Ub:CSp:=N2 MD Pf NI Nr
def Y9 (s:Int):Prop :=
 ((s==(1:Int))=true ->
  ((0:Int)=(if s=1 then 0 else 1)/\(True))) /\
 ((s==(1:Int))=false ->
  ((1:Int)=(if s=1 then 0 else 1)/\(True)))
def MF:Cx:=⟨[],[],5,[],0,[],[],[],[],false,[],[],[],[]⟩
def Tl (s:Int):List (Nat×LoopAnn):=[]
theorem PY (d:Int):gwp (MF) (Tl d) c77 0 (Nu [.tmp 2] (NI d) (Nr d)) (Q_ 5 (AL.can MD d))=Y9 d:=by kernel_rfl
abbrev Tg:Prop:=OkC Tryz.prog 77 Ub
theorem Td (h:∀ (s:Int),(True)->Y9 s):OkC Tryz.prog 77 Ub :=
 Zn Q5f mixed (C:=MF) (V:=λ(d:Int)=>Y9 d) ⟨.nil,XsOk.nil,ItsOk.nil,YlOk.nil,IysOk.nil,XfOk.nil⟩ (PY) λd hp=>h d hp
theorem T7:Tg:=Td λs _=>by
 unfold Y9;(try delta lI gD sT I64 Xz pj8 pj4);refine⟨λc=>⟨?_,trivial⟩,λc=>⟨?_,trivial⟩⟩
 .rw[z0 (eq_of_beq c)]
 .rw[z1 (λe=>by rw[e] at c;cases c)]
def XM:AL ((Int×(List (Int×Int×Bool))×Int×List Int)×Int×Int):=(.cons (.agg (.cons (.k (.i .i64)) (.cons (.k (.list (.pair (.i .i64) (.pair (.i .i64) .bo)))) (.cons (.k (.i .i64)) (.one (.k (.list (.i .i64)))))))) (.cons (.k (.i .i64)) (.one (.k (.i .i64)))))
def Ve (d:(Int×(List (Int×Int×Bool))×Int×List Int)×Int×Int):Prop:=1<=d.1.2.2.1/\d.1.2.2.1<=24/\0<=d.2.1/\d.2.1<d.1.2.2.2.length/\0<=d.2.2/\d.2.2<d.1.2.1.length/\∀ c∈d.1.2.1,Zh d.1.2.2.1 c=true
def Xe (d:(Int×(List (Int×Int×Bool))×Int×List Int)×Int×Int):SV:=.val .bo (wvB d.1.2.2.1 d.1.2.1 d.1.2.2.2 d.2.1.toNat d.2.2)
def Xi (d:(Int×(List (Int×Int×Bool))×Int×List Int)×Int×Int):List OB:=[]
def Jq:CSp:=N2 XM Ve Xe Xi
def Z8 (hk:Int) (cs:List (Int×Int×Bool)) (f:Int) (cl:List Int) (pk:Int) (at_:Int):Prop :=
 (0<=pk)/\(pk<(List.length cl))/\(((gD cl pk 0)==(-1:Int))=false->0<=pk)/\(((gD cl pk 0)==(-1:Int))=false->pk<(List.length cl))/\(((gD cl pk 0)==(-1:Int))=false->1<=f/\f<=24/\0<=at_/\at_<cs.length/\∀ c∈cs,Zh f c=true)/\((((gD cl pk 0)==(-1:Int))||((gD cl pk 0)==(Cg f (cs.getD at_.toNat BC))))=(wvB f cs cl pk.toNat at_)/\(True))
def XK:Cx:=⟨[],[(104,Wp)],25,[],0,[],[],[],[],false,[],[],[],[]⟩
def VA (hk:Int) (cs:List (Int×Int×Bool)) (f:Int) (cl:List Int) (pk:Int) (at_:Int):List (Nat×LoopAnn):=[]
theorem Vx (d:(Int×(List (Int×Int×Bool))×Int×List Int)×Int×Int):gwp (XK) (VA d.1.1 d.1.2.1 d.1.2.2.1 d.1.2.2.2 d.2.1 d.2.2) Z0u 0 (Nu [.tmp 6] (Xe d) (Xi d)) (Q_ 25 (AL.can XM d))=Z8 d.1.1 d.1.2.1 d.1.2.2.1 d.1.2.2.2 d.2.1 d.2.2:=by kernel_rfl
abbrev VK:Prop:=OkC Tryz.prog 116 Jq
theorem Vk (h:∀ (hk:Int) (cs:List (Int×Int×Bool)) (f:Int) (cl:List Int) (pk:Int) (at_:Int),(1<=f/\f<=24/\0<=pk/\pk<cl.length/\0<=at_/\at_<cs.length/\∀ c∈cs,Zh f c=true)->Z8 hk cs f cl pk at_):OkC Tryz.prog 116 Jq :=
 Zn IY mixed (C:=XK) (V:=λ(d:(Int×(List (Int×Int×Bool))×Int×List Int)×Int×Int)=>Z8 d.1.1 d.1.2.1 d.1.2.2.1 d.1.2.2.2 d.2.1 d.2.2) ⟨(.cons MZ .nil),XsOk.nil,ItsOk.nil,YlOk.nil,IysOk.nil,XfOk.nil⟩ (Vx) λd hp=>h d.1.1 d.1.2.1 d.1.2.2.1 d.1.2.2.2 d.2.1 d.2.2 hp
theorem Vo:VK:=Vk λhk cs f cl pk at_ h=>by obtain⟨h1,h2,h3,h4,h5,h6,h7⟩:=h;unfold Z8;(try delta lI gD sT I64 Xz pj8 pj4);exact⟨h3,h4,λ_=>h3,λ_=>h4,λ_=>⟨h1,h2,h5,h6,h7⟩,(by and_intros<;>first|rfl|trivial|simp)⟩
def Wq:AL ((Int×(List (Int×Int×Bool))×Int×List Int)×(Int×Int)×Int×Int):=(.cons (.agg (.cons (.k (.i .i64)) (.cons (.k (.list (.pair (.i .i64) (.pair (.i .i64) .bo)))) (.cons (.k (.i .i64)) (.one (.k (.list (.i .i64)))))))) (.cons (.agg (.cons (.k (.i .i64)) (.one (.k (.i .i64))))) (.cons (.k (.i .i64)) (.one (.k (.i .i64))))))
def VZ (m:List ((Int×Int)×Int)) (a:(Int×(List (Int×Int×Bool))×Int×List Int)×(Int×Int)×Int×Int):Prop:=0<=a.2.1.1/\a.2.1.1<a.1.2.1.length/\a.1.2.1.length<=60/\0<=a.2.1.2/\a.2.1.2<=6/\0<=a.2.2.2/\a.2.2.2<=6/\0<=a.2.2.1/\a.2.2.1<=4000000000000000/\∀ q,0<=XA m q/\XA m q<=4000000000000000
def Wk (m:List ((Int×Int)×Int)) (a:(Int×(List (Int×Int×Bool))×Int×List Int)×(Int×Int)×Int×Int):SV:=.tup []
def XQ (m:List ((Int×Int)×Int)) (a:(Int×(List (Int×Int×Bool))×Int×List Int)×(Int×Int)×Int×Int) (m2:List ((Int×Int)×Int)):Prop:=m2=Q6l a.1.2.1.length a.2.2.2 (a.2.1.1,a.2.1.2) a.2.2.1 m
def JX:XSp:=EO Vy 1 (.pair (.i .i64) (.i .i64)) (.i .i64) (Q9j Wq VZ Wk XQ)
def Zw (m:List ((Int×Int)×Int)) (hk:Int) (cs:List (Int×Int×Bool)) (f:Int) (cl:List Int) (sa:Int) (sf:Int) (wy:Int) (mo:Int):Prop:=∀ vals:List Value,
 ∃ (e3:Unit) (d30:(List ((Int×Int)×Int))×Int),((True/\wy=wy/\mo=mo/\True/\True/\(0:Int)=d30.2/\True)/\((m=d30.1)/\(hk=hk/\cs=cs/\f=f/\cl=cl/\(([]:List SV)=[]))/\(sa=sa/\sf=sf/\(([]:List SV)=[]))/\(vals=vals/\(True/\(([]:List SV)=[])))/\True)) /\
 LoopP (λ(d3:(List ((Int×Int)×Int))×Int) (q3:((List ((Int×Int)×Int))×Int)->Prop) =>
  ((decide (d3.2<(3:Int)))=true ->
   (cs≠[]/\cs.length<=1000/\-1000000<=sa/\sa<=1000000/\-1000000<=d3.2/\d3.2<=1000000)/\(True)/\(I64 (sf+(if d3.2=1 then 0 else 1)))/\((True/\wy=wy/\mo=mo/\True/\True/\True/\d3.2=d3.2/\((Int.tmod (sa+d3.2) cs.length)=(Int.tmod (sa+d3.2) cs.length)/\(sf+(if d3.2=1 then 0 else 1))=(sf+(if d3.2=1 then 0 else 1))/\(([]:List SV)=[]))/\True)/\((d3.1=d3.1)/\(hk=hk/\cs=cs/\f=f/\cl=cl/\(([]:List SV)=[]))/\(sa=sa/\sf=sf/\(([]:List SV)=[]))/\((0:Int)=(0:Int)/\(0:Int)=(0:Int)/\(([]:List SV)=[]))/\(vals=vals/\(True/\(([]:List SV)=[])))/\True))/\((cs≠[]/\cs.length<=1000/\-1000000<=sa/\sa<=1000000/\-1000000<=d3.2/\d3.2<=1000000)/\(True)/\(I64 (sf+(if d3.2=1 then 0 else 1)))/\((True/\wy=wy/\mo=mo/\True/\True/\True/\d3.2=d3.2/\((Int.tmod (sa+d3.2) cs.length)=(Int.tmod (sa+d3.2) cs.length)/\(sf+(if d3.2=1 then 0 else 1))=(sf+(if d3.2=1 then 0 else 1))/\(([]:List SV)=[]))/\True)/\((d3.1=d3.1)/\(hk=hk/\cs=cs/\f=f/\cl=cl/\(([]:List SV)=[]))/\(sa=sa/\sf=sf/\(([]:List SV)=[]))/\((0:Int)=(0:Int)/\(0:Int)=(0:Int)/\(([]:List SV)=[]))/\(vals=vals/\(True/\(([]:List SV)=[])))/\True)))/\((cs≠[]/\cs.length<=1000/\-1000000<=sa/\sa<=1000000/\-1000000<=d3.2/\d3.2<=1000000)/\(True)/\(I64 (sf+(if d3.2=1 then 0 else 1)))/\((True/\wy=wy/\mo=mo/\True/\True/\True/\d3.2=d3.2/\((Int.tmod (sa+d3.2) cs.length)=(Int.tmod (sa+d3.2) cs.length)/\(sf+(if d3.2=1 then 0 else 1))=(sf+(if d3.2=1 then 0 else 1))/\(([]:List SV)=[]))/\True)/\((d3.1=d3.1)/\(hk=hk/\cs=cs/\f=f/\cl=cl/\(([]:List SV)=[]))/\(sa=sa/\sf=sf/\(([]:List SV)=[]))/\((0:Int)=(0:Int)/\(0:Int)=(0:Int)/\(([]:List SV)=[]))/\(vals=vals/\(True/\(([]:List SV)=[])))/\True)))/\((decide ((sf+(if d3.2=1 then 0 else 1))<=mo))=true ->
    (I64 ((gq.aget (.pair (.i .i64) (.i .i64)) d3.1 ((Int.tmod (sa+d3.2) cs.length),(sf+(if d3.2=1 then 0 else 1))) 0)+wy))/\∀ n4:Int,
     n4=n4 /\
     (I64 (d3.2+(1:Int)))/\(∃ d5:(List ((Int×Int)×Int))×Int,((True/\wy=wy/\mo=mo/\True/\True/\(d3.2+(1:Int))=d5.2/\True)/\(((UI (.pair (.i .i64) (.i .i64)) (UI (.pair (.i .i64) (.i .i64)) d3.1 ((Int.tmod (sa+d3.2) cs.length),(sf+(if d3.2=1 then 0 else 1))) (gq.aget (.pair (.i .i64) (.i .i64)) d3.1 ((Int.tmod (sa+d3.2) cs.length),(sf+(if d3.2=1 then 0 else 1))) 0)) ((Int.tmod (sa+d3.2) cs.length),(sf+(if d3.2=1 then 0 else 1))) ((gq.aget (.pair (.i .i64) (.i .i64)) d3.1 ((Int.tmod (sa+d3.2) cs.length),(sf+(if d3.2=1 then 0 else 1))) 0)+wy))=d5.1)/\(hk=hk/\cs=cs/\f=f/\cl=cl/\(([]:List SV)=[]))/\(sa=sa/\sf=sf/\(([]:List SV)=[]))/\(vals=vals/\(True/\(([]:List SV)=[])))/\True))/\q3 d5)) /\
   ((decide ((sf+(if d3.2=1 then 0 else 1))<=mo))=false ->
    (I64 (d3.2+(1:Int)))/\(∃ d6:(List ((Int×Int)×Int))×Int,((True/\wy=wy/\mo=mo/\True/\True/\(d3.2+(1:Int))=d6.2/\True)/\((d3.1=d6.1)/\(hk=hk/\cs=cs/\f=f/\cl=cl/\(([]:List SV)=[]))/\(sa=sa/\sf=sf/\(([]:List SV)=[]))/\(vals=vals/\(True/\(([]:List SV)=[])))/\True))/\q3 d6))) /\
  ((decide (d3.2<(3:Int)))=false ->
   (vals=vals/\(True/\(([]:List SV)=[]))/\((([]:List SV)=[]))/\(d3.1=Q6l cs.length mo (sa,sf) wy m)))) d30
def WU:Cx:=⟨[],[(78,JF),(77,Ub)],39,[],0,[],[],[],[1,3,4,5,7,11,12,26],false,[],[],[],[]⟩
def WI (m:List ((Int×Int)×Int)) (hk:Int) (cs:List (Int×Int×Bool)) (f:Int) (cl:List Int) (sa:Int) (sf:Int) (wy:Int) (mo:Int) (vals:List Value):List (Nat×LoopAnn):=[(0,⟨Unit,(List ((Int×Int)×Int))×Int,[1,3,4,5,7,12],λe x=>[.map 0,.val (.i .i64) wy,.val (.i .i64) mo,.box 5 0,.box 7 0,.val (.i .i64) x.2],λe x=>[(0,.slot 1,.map (.pair (.i .i64) (.i .i64)) (.i .i64) x.1),(5,.slot 5,.cells [.val (.i .i64) hk,.val (.list (.pair (.i .i64) (.pair (.i .i64) .bo))) cs,.val (.i .i64) f,.val (.list (.i .i64)) cl] (some 134)),(7,.slot 7,.cells [.val (.i .i64) sa,.val (.i .i64) sf] (some 145)),(4000000,.key 4000000,.stk [.map 0] vals)]⟩)]
theorem UG (m:List ((Int×Int)×Int)) (a:(Int×(List (Int×Int×Bool))×Int×List Int)×(Int×Int)×Int×Int):(∀ vals,gwp WU (WI m a.1.1 a.1.2.1 a.1.2.2.1 a.1.2.2.2 a.2.1.1 a.2.1.2 a.2.2.1 a.2.2.2 vals) Z0r 0 (IZ vals [] (Wk m a) (.pair (.i .i64) (.i .i64)) (.i .i64) (XQ m a)) (NQ 39 1 (.pair (.i .i64) (.i .i64)) (.i .i64) m vals (AL.can Wq a)))=Zw m a.1.1 a.1.2.1 a.1.2.2.1 a.1.2.2.2 a.2.1.1 a.2.1.2 a.2.2.1 a.2.2.2:=by kernel_rfl
abbrev UY:Prop:=XOk Tryz.prog 145 JX
theorem UU (h:∀ (m:List ((Int×Int)×Int)) (hk:Int) (cs:List (Int×Int×Bool)) (f:Int) (cl:List Int) (sa:Int) (sf:Int) (wy:Int) (mo:Int),(0<=sa/\sa<cs.length/\cs.length<=60/\0<=sf/\sf<=6/\0<=mo/\mo<=6/\0<=wy/\wy<=4000000000000000/\∀ q,0<=XA m q/\XA m q<=4000000000000000)->Zw m hk cs f cl sa sf wy mo):XOk Tryz.prog 145 JX :=
 S8 Ih mixed Xp rfl (C:=WU) ⟨(.cons Kf (.cons T7 .nil)),XsOk.nil,ItsOk.nil,YlOk.nil,IysOk.nil,XfOk.nil⟩ (L:=λm (a:(Int×(List (Int×Int×Bool))×Int×List Int)×(Int×Int)×Int×Int) vals=>WI m a.1.1 a.1.2.1 a.1.2.2.1 a.1.2.2.2 a.2.1.1 a.2.1.2 a.2.2.1 a.2.2.2 vals) (V:=λm (a:(Int×(List (Int×Int×Bool))×Int×List Int)×(Int×Int)×Int×Int)=>Zw m a.1.1 a.1.2.1 a.1.2.2.1 a.1.2.2.2 a.2.1.1 a.2.1.2 a.2.2.1 a.2.2.2) UG λm a hp=>h m a.1.1 a.1.2.1 a.1.2.2.1 a.1.2.2.2 a.2.1.1 a.2.1.2 a.2.2.1 a.2.2.2 hp
theorem U9:UY:=UU λm hk cs f cl sa sf wy mo h=>by
 obtain⟨h1,h2,h3,h4,h5,h6,h7,h8,h9,bT⟩:=h;unfold Zw;(try delta lI gD sT I64 Xz pj8 pj4);intro vals;have av:cs≠[]:=λe=>by rw[e] at h2;simp at h2;omega
 refine⟨(),(m,0),(by and_intros<;>first|rfl|trivial),?_⟩
 let P:Nat->List ((Int×Int)×Int):=λk=>match k with
  |0=>m
  |1=>AM cs.length mo (sa,sf) wy m 0
  |2=>AM cs.length mo (sa,sf) wy (AM cs.length mo (sa,sf) wy m 0) 1
  |_=>Q6l cs.length mo (sa,sf) wy m
 have hP:∀ k:Nat,k<3->P (k+1)=AM cs.length mo (sa,sf) wy (P k) k:=λk hk=>by
  match k,hk with
  |0,_=>rfl
  |1,_=>rfl
  |2,_=>rfl
 have hb:∀ k:Nat,k<=3->∀ q,0<=XA (P k) q/\XA (P k) q<=4000000000000000+k*4000000000000000:=λk=>by
  induction k with
  |zero=>intro _ q;have:=bT q;exact⟨this.1,by show XA m q<=_;omega⟩
  |succ k ih =>intro hk q;rw[hP k (by omega),Q0l];have a1:=ih (by omega) q;have a2:=Un (n:=cs.length) (mo:=mo) (p:=(sa,sf)) (q:=q) (s:=(k:Int)) h8;omega
 refine LoopP.count2 3 (λk d=>d=P k) rfl ?_;intro k d nK hd q hq;subst hd;dsimp only;refine⟨λg=>?_,λg=>?_⟩
 .have g:k<3:=by have:=zl g;omega
  have cC:=λx'=>hq x' g;have hs:I64 (sf+(if (k:Int)=1 then 0 else 1)):=by (try delta I64);simp only[Qh];split<;>omega
  have mi:cs≠[]/\cs.length<=1000/\-1000000<=sa/\sa<=1000000/\-1000000<=(k:Int)/\(k:Int)<=1000000:=⟨av,by omega,by omega,by omega,by omega,by omega⟩;refine⟨mi,trivial,hs,by and_intros<;>first|rfl|trivial,⟨mi,trivial,hs,by and_intros<;>first|rfl|trivial⟩,⟨mi,trivial,hs,by and_intros<;>first|rfl|trivial⟩,λc=>?_,λc=>?_⟩
  .have c:=zl c;have vD:=hb k (by omega) (Gk cs.length (sa,sf) k);have e1:gq.aget (.pair (.i .i64) (.i .i64)) (P k) ((Int.tmod (sa+(k:Int)) cs.length),(sf+(if (k:Int)=1 then 0 else 1))) (0:Int)=XA (P k) (Gk cs.length (sa,sf) k):=rfl;refine⟨?_,λn4=>⟨rfl,?_,?_⟩⟩
   .rw[e1];simp only[Qh];omega
   .simp only[Qh];omega
   .refine⟨(P (k+1),(k:Int)+1),?_,cC _ rfl⟩;have e2:P (k+1)=Nt (Nt (P k) (Gk cs.length (sa,sf) k) (XA (P k) (Gk cs.length (sa,sf) k))) (Gk cs.length (sa,sf) k) (XA (P k) (Gk cs.length (sa,sf) k)+wy):=by
     rw[LG,hP k g];unfold AM;rw[z0 (show (Gk cs.length (sa,sf) k).2<=mo from c)]
    refine⟨by and_intros<;>first|rfl|trivial,?_⟩;refine⟨e2.symm,?_⟩;and_intros<;>first|rfl|trivial
  .have c:=zK c;refine⟨by simp only[Qh];omega,(P (k+1),(k:Int)+1),⟨by and_intros<;>first|rfl|trivial,?_⟩,cC _ rfl⟩;refine⟨?_,by and_intros<;>first|rfl|trivial⟩;show P k=P (k+1);rw[hP k g];unfold AM;rw[z1 (show ¬ (Gk cs.length (sa,sf) k).2<=mo from c)]
 .have g:k=3:=by have:=zK g;omega
  subst g;and_intros<;>first|rfl|trivial
theorem Mg:∀ {l m:List Nat},l.Nodup->(∀ x∈l,x∈m)->l.length<=m.length
 |[],_,_,_=>Nat.zero_le _
 |x::l,m,hn,hs=>by rw[zU] at hn;have hx:x∈m:=hs x (ze ..);have:=Mg (l:=l) (m:=m.erase x) hn.2 λy hy=>(List.mem_erase_of_ne (by rintro rfl;exact hn.1 hy)).2 (hs y (z9 _ hy));rw[List.length_erase_of_mem hx] at this;have:=List.length_pos_of_mem hx;rw[zP];omega
theorem Dy {dn:List Nat}{r:Nat}(h:dn.Nodup) (hr:r∉dn):(dn++[r]).Nodup :=
 List.nodup_append.2 ⟨h,List.pairwise_singleton _ _,λa ha b hb e=>by rw[z8] at hb;subst hb;subst e;exact hr ha⟩
theorem LoopP.rng {X:Type}{F:X×List Nat->(X×List Nat->Prop)->Prop}(n:Nat) (J:X->List Nat->Prop) {x0:X}(h0:J x0 [])
  (hr:∀ (x:X) (dn:List Nat),dn.Nodup->(∀ r∈dn,r<n)->J x dn->∀ q:X×List Nat->Prop,(∀ (r:Nat) (x':X),r<n->r∉dn->J x' (dn++[r])->q (x',dn++[r]))->F (x,dn) q):LoopP F (x0,[]):=by
 refine⟨λd=>d.2.Nodup/\(∀ r∈d.2,r<n)/\J d.1 d.2,λd=>n-d.2.length,⟨List.nodup_nil,(λr hr=>by cases hr),h0⟩,λ⟨x,dn⟩ ⟨h1,h2,h3⟩=>?_⟩;have h1:dn.Nodup:=h1;refine hr x dn h1 h2 h3 _ λr x' ah fY hJ=>?_;have hn:=Dy h1 fY;have hb:∀ y∈dn++[r],y<n:=λy hy=>by
  rcases zu.1 hy with h|h
  .exact h2 y h
  .rw[z8] at h;omega
 refine⟨⟨hn,hb,hJ⟩,?_⟩;have:=Mg hn (m:=List.range n) λy hy=>zr.2 (hb y hy);rw[wh,zB,xy] at this;have e:(dn++[r]).length=dn.length+1:=by simp
 show n-(dn++[r]).length<n-dn.length;omega
theorem Z50 {b e:Nat}(hb:b<=121) (he:e<=6):b ^ e<=3138428376721:=by
 have h1:b ^ e<=121 ^ e:=Nat.pow_le_pow_left hb e;have h2:121 ^ e<=121 ^ 6:=Nat.pow_le_pow_right (by omega) he;have h3:121 ^ 6=3138428376721:=by decide
 omega
theorem Q9z {n mo:Nat}(wv:Nat->Int->Bool) (hn:0<n) (gU:mo<=6) {k:Nat}(hk:k<=60) (q:Int×Int):0<=wyK n mo wv k q/\wyK n mo wv k q<=4000000000000000:=by
 refine⟨DQ n mo wv k q,?_⟩;by_cases hz:wyK n mo wv k q=0
 .omega
 .have hg:=Xv.1 (RW n mo wv hn k q hz);have h1:=CJ (n:=n) (mo:=mo) wv hn k q hg.2.1;have h2:=Z50 (b:=2*k+1) (e:=q.2.toNat) (by omega) (by omega);omega
def Q6b (k:Nat) (q:Int×Int):Int:=if 0<=q.1/\q.1<(k:Int)/\q.2=0 then 1 else 0
theorem Q07 {n mo:Nat}{m:List ((Int×Int)×Int)}{k:Nat}(h:MapW n mo m (Q6b k)) (hk:k<n):MapW n mo (Nt m ((k:Int),0) 1) (Q6b (k+1)):=by
 have hg:XA m ((k:Int),0)=0:=by rw[h.get];unfold Q6b;rw[z1 (by dsimp only;omega)]
 have:=h.add (λq=>by unfold Q6b;split<;>omega) (k:=((k:Int),0)) (w:=1) (by omega) (by rw[Xv];dsimp only;omega);rw[hg] at this;refine this.congr λq=>?_;unfold Q6b;by_cases e:q=((k:Int),0)
 .subst e;rw[z1 (by dsimp only;omega),z0 rfl,z0 (by dsimp only;omega)];rfl
 .rw[z1 e];have:¬ (q.1=k/\q.2=0):=λh=>e (Prod.ext h.1 h.2);by_cases c:0<=q.1/\q.1<(k:Int)/\q.2=0
  .rw[z0 c,z0 (by omega)];rfl
  .rw[z1 c,z1 (by omega)];rfl
def Q5j (n mo:Nat) (wv:Int->Bool) (m:List ((Int×Int)×Int)) (dn:List Nat) (q:Int×Int):Int:=(dn.map λr=>Lu n mo wv (m.getD r ((0,0),0)).1 (m.getD r ((0,0),0)).2 q).sum
theorem SY (n mo:Nat) (wv:Int->Bool) (m:List ((Int×Int)×Int)) (dn:List Nat) (r:Nat) (q:Int×Int):Q5j n mo wv m (dn++[r]) q=Q5j n mo wv m dn q+Lu n mo wv (m.getD r ((0,0),0)).1 (m.getD r ((0,0),0)).2 q:=by unfold Q5j;rw[Rn];simp
theorem Q4a {n mo:Nat}{wv:Nat->Int->Bool}{k:Nat}{m:List ((Int×Int)×Int)}(h:MapW n mo m (wyK n mo wv k)) {dn:List Nat}(hn:dn.Nodup) (ah:∀ r∈dn,r<m.length) (q:Int×Int) :
  0<=Q5j n mo (wv k) m dn q/\Q5j n mo (wv k) m dn q<=wyK n mo wv (k+1) q/\((∀ r,r<m.length->r∈dn)->Q5j n mo (wv k) m dn q=wyK n mo wv (k+1) q):=by
 have br:∀ x∈m,0<=Lu n mo (wv k) x.1 x.2 q:=λx hx=>P5 (Int.le_of_lt (h.2.1 x hx).2.1);have h1:=CN (d:=(((0,0),0):(Int×Int)×Int)) (F:=λx=>Lu n mo (wv k) x.1 x.2 q) hn ah br;have h2:=Pm h (λp w=>Lu n mo (wv k) p w q) λp=>by
  unfold Lu Bh;split
  .split<;>split<;>split<;>rfl
  .rfl
 have e:wyK n mo wv (k+1) q=((Jd n mo).map λp=>Lu n mo (wv k) p (wyK n mo wv k p) q).sum:=rfl;rw[e,<-h2];refine⟨Vt λr hr=>?_,h1.1,h1.2⟩;have:=ah r hr;rw[Qg this];exact br _ (zn this)
def Wa:AL ((Int×(List (Int×Int×Bool))×Int×List Int)×Int):=(.cons (.agg (.cons (.k (.i .i64)) (.cons (.k (.list (.pair (.i .i64) (.pair (.i .i64) .bo)))) (.cons (.k (.i .i64)) (.one (.k (.list (.i .i64)))))))) (.one (.k (.i .i64))))
def U8 (a:(Int×(List (Int×Int×Bool))×Int×List Int)×Int):Prop:=a.1.2.2.1=a.1.1/\QQ a.1.1 a.1.2.1=0/\a.1.2.2.2.length<=60/\(∀ r∈a.1.2.2.2,-1<=r/\r<2 ^ a.1.1.toNat)/\0<=a.2/\a.2<=6
def Uj (a:(Int×(List (Int×Int×Bool))×Int×List Int)×Int):List SV:=[]
def XX (a:(Int×(List (Int×Int×Bool))×Int×List Int)×Int) (m:List ((Int×Int)×Int)):Prop:=MapW a.1.2.1.length a.2.toNat m (wyK a.1.2.1.length a.2.toNat (λk=>wvB a.1.1 a.1.2.1 a.1.2.2.2 k) a.1.2.2.2.length)
def JU:XSp:=Q1i Vy (.pair (.i .i64) (.i .i64)) (.i .i64) (Q6s Wa U8 Uj XX)
abbrev Wh (hk:Int) (cs:List (Int×Int×Bool)) (f:Int) (cl:List Int):=(hk=hk/\cs=cs/\f=f/\cl=cl/\(([]:List SV)=[]))
def Zv (hk:Int) (cs:List (Int×Int×Bool)) (f:Int) (cl:List Int) (mo:Int):Prop :=
 ∃ (e3:Unit) (d30:(List ((Int×Int)×Int))×Int),((mo=mo/\True/\True/\(lI cs)=(lI cs)/\(0:Int)=d30.2/\True)/\((Wh hk cs f cl)/\(([]:List ((Int×Int)×Int))=d30.1)/\True)) /\
 LoopP (λ(d3:(List ((Int×Int)×Int))×Int) (q3:((List ((Int×Int)×Int))×Int)->Prop) =>
  ((decide (d3.2<(lI cs)))=true ->
   (I64 (d3.2+(1:Int)))/\(∃ d4:(List ((Int×Int)×Int))×Int,((mo=mo/\True/\True/\(lI cs)=(lI cs)/\(d3.2+(1:Int))=d4.2/\True)/\((Wh hk cs f cl)/\((UI (.pair (.i .i64) (.i .i64)) d3.1 (d3.2,(0:Int)) (1:Int))=d4.1)/\True))/\q3 d4)) /\
  ((decide (d3.2<(lI cs)))=false ->
   ∃ (e7:Unit) (d70:(List ((Int×Int)×Int))×Int),((mo=mo/\True/\True/\(lI cl)=(lI cl)/\(0:Int)=d70.2/\True)/\((Wh hk cs f cl)/\(d3.1=d70.1)/\True)) /\
   LoopP (λ(d7:(List ((Int×Int)×Int))×Int) (q7:((List ((Int×Int)×Int))×Int)->Prop) =>
    ((decide (d7.2<(lI cl)))=true ->
     ∃ (aI:Int×Int×(List ((Int×Int)×Int))) (d100:(List ((Int×Int)×Int))×(List Nat)),((mo=mo/\True/\d7.2=aI.1/\True/\(lI cl)=(lI cl)/\d7.2=aI.2.1/\True/\True)/\((Wh hk cs f cl)/\(([]:List ((Int×Int)×Int))=d100.1)/\(d7.1=aI.2.2/\([]:List Nat)=d100.2)/\True)) /\
     LoopP (λ(d10:(List ((Int×Int)×Int))×(List Nat)) (mj:((List ((Int×Int)×Int))×(List Nat))->Prop) =>
      ((∀ r:Nat,r<(List.length aI.2.2)->r∈d10.2) ->
       (false=true ->
        (d10.2≠[])/\(1<=f/\f<=24/\0<=aI.1/\aI.1<cl.length/\0<=((List.getD aI.2.2 (List.getLastD d10.2 0) ((0,0),0)).1.1)/\((List.getD aI.2.2 (List.getLastD d10.2 0) ((0,0),0)).1.1)<cs.length/\∀ c∈cs,Zh f c=true)/\((wvB f cs cl aI.1.toNat ((List.getD aI.2.2 (List.getLastD d10.2 0) ((0,0),0)).1.1))=true ->
         (0<=((List.getD aI.2.2 (List.getLastD d10.2 0) ((0,0),0)).1.1)/\((List.getD aI.2.2 (List.getLastD d10.2 0) ((0,0),0)).1.1)<cs.length/\cs.length<=60/\0<=((List.getD aI.2.2 (List.getLastD d10.2 0) ((0,0),0)).1.2)/\((List.getD aI.2.2 (List.getLastD d10.2 0) ((0,0),0)).1.2)<=6/\0<=mo/\mo<=6/\0<=((List.getD aI.2.2 (List.getLastD d10.2 0) ((0,0),0)).2)/\((List.getD aI.2.2 (List.getLastD d10.2 0) ((0,0),0)).2)<=4000000000000000/\∀ q,0<=XA d10.1 q/\XA d10.1 q<=4000000000000000)/\(∀ ml:List ((Int×Int)×Int),(ml=Q6l cs.length mo (((List.getD aI.2.2 (List.getLastD d10.2 0) ((0,0),0)).1.1),((List.getD aI.2.2 (List.getLastD d10.2 0) ((0,0),0)).1.2)) ((List.getD aI.2.2 (List.getLastD d10.2 0) ((0,0),0)).2) d10.1)->(∃ d13:(List ((Int×Int)×Int))×(List Nat),((mo=mo/\True/\aI.1=aI.1/\True/\(lI cl)=(lI cl)/\aI.2.1=aI.2.1/\True/\True)/\((Wh hk cs f cl)/\(ml=d13.1)/\(aI.2.2=aI.2.2/\d10.2=d13.2)/\True))/\mj d13))) /\
        ((wvB f cs cl aI.1.toNat ((List.getD aI.2.2 (List.getLastD d10.2 0) ((0,0),0)).1.1))=false ->
         (∃ d14:(List ((Int×Int)×Int))×(List Nat),((mo=mo/\True/\aI.1=aI.1/\True/\(lI cl)=(lI cl)/\aI.2.1=aI.2.1/\True/\True)/\((Wh hk cs f cl)/\(d10.1=d14.1)/\(aI.2.2=aI.2.2/\d10.2=d14.2)/\True))/\mj d14))) /\
       (false=false ->
        (I64 (aI.2.1+(1:Int)))/\(∃ d15:(List ((Int×Int)×Int))×Int,((mo=mo/\True/\True/\(lI cl)=(lI cl)/\(aI.2.1+(1:Int))=d15.2/\True)/\((Wh hk cs f cl)/\(d10.1=d15.1)/\True))/\q7 d15))) /\
      (∀ fm:Nat,fm<(List.length aI.2.2)->fm∉d10.2 ->
       (true=true ->
        ((d10.2++[fm])≠[])/\(1<=f/\f<=24/\0<=aI.1/\aI.1<cl.length/\0<=((List.getD aI.2.2 (List.getLastD (d10.2++[fm]) 0) ((0,0),0)).1.1)/\((List.getD aI.2.2 (List.getLastD (d10.2++[fm]) 0) ((0,0),0)).1.1)<cs.length/\∀ c∈cs,Zh f c=true)/\((wvB f cs cl aI.1.toNat ((List.getD aI.2.2 (List.getLastD (d10.2++[fm]) 0) ((0,0),0)).1.1))=true ->
         (0<=((List.getD aI.2.2 (List.getLastD (d10.2++[fm]) 0) ((0,0),0)).1.1)/\((List.getD aI.2.2 (List.getLastD (d10.2++[fm]) 0) ((0,0),0)).1.1)<cs.length/\cs.length<=60/\0<=((List.getD aI.2.2 (List.getLastD (d10.2++[fm]) 0) ((0,0),0)).1.2)/\((List.getD aI.2.2 (List.getLastD (d10.2++[fm]) 0) ((0,0),0)).1.2)<=6/\0<=mo/\mo<=6/\0<=((List.getD aI.2.2 (List.getLastD (d10.2++[fm]) 0) ((0,0),0)).2)/\((List.getD aI.2.2 (List.getLastD (d10.2++[fm]) 0) ((0,0),0)).2)<=4000000000000000/\∀ q,0<=XA d10.1 q/\XA d10.1 q<=4000000000000000)/\(∀ su:List ((Int×Int)×Int),(su=Q6l cs.length mo (((List.getD aI.2.2 (List.getLastD (d10.2++[fm]) 0) ((0,0),0)).1.1),((List.getD aI.2.2 (List.getLastD (d10.2++[fm]) 0) ((0,0),0)).1.2)) ((List.getD aI.2.2 (List.getLastD (d10.2++[fm]) 0) ((0,0),0)).2) d10.1)->(∃ d17:(List ((Int×Int)×Int))×(List Nat),((mo=mo/\True/\aI.1=aI.1/\True/\(lI cl)=(lI cl)/\aI.2.1=aI.2.1/\True/\True)/\((Wh hk cs f cl)/\(su=d17.1)/\(aI.2.2=aI.2.2/\(d10.2++[fm])=d17.2)/\True))/\mj d17))) /\
        ((wvB f cs cl aI.1.toNat ((List.getD aI.2.2 (List.getLastD (d10.2++[fm]) 0) ((0,0),0)).1.1))=false ->
         (∃ d18:(List ((Int×Int)×Int))×(List Nat),((mo=mo/\True/\aI.1=aI.1/\True/\(lI cl)=(lI cl)/\aI.2.1=aI.2.1/\True/\True)/\((Wh hk cs f cl)/\(d10.1=d18.1)/\(aI.2.2=aI.2.2/\(d10.2++[fm])=d18.2)/\True))/\mj d18))) /\
       (true=false ->
        (I64 (aI.2.1+(1:Int)))/\(∃ d19:(List ((Int×Int)×Int))×Int,((mo=mo/\True/\True/\(lI cl)=(lI cl)/\(aI.2.1+(1:Int))=d19.2/\True)/\((Wh hk cs f cl)/\(d10.1=d19.1)/\True))/\q7 d19)))) d100) /\
    ((decide (d7.2<(lI cl)))=false ->
     (MapW cs.length mo.toNat d7.1 (wyK cs.length mo.toNat (λk=>wvB hk cs cl k) cl.length)))) d70)) d30
def WB:Cx:=⟨[(1000011,(.pair (.pair (.i .i64) (.i .i64)) (.i .i64))),(1000030,(.pair (.pair (.i .i64) (.i .i64)) (.i .i64)))],[(116,Jq)],52,[],0,[(145,JX)],[],[],[],false,[],[],[],[]⟩
def WC (hk:Int) (cs:List (Int×Int×Bool)) (f:Int) (cl:List Int) (mo:Int):List (Nat×LoopAnn):=[(0,⟨Unit,(List ((Int×Int)×Int))×Int,[1,2,5,16,17],λe x=>[.val (.i .i64) mo,.box 2 0,.map 11,.val (.i .i64) (((List.length cs):Nat):Int),.val (.i .i64) x.2],λe x=>[(2,.slot 2,.cells [.val (.i .i64) hk,.val (.list (.pair (.i .i64) (.pair (.i .i64) .bo))) cs,.val (.i .i64) f,.val (.list (.i .i64)) cl] (some 134)),(11,.slot 5,.map (.pair (.i .i64) (.i .i64)) (.i .i64) x.1)]⟩),
 (2,⟨Unit,(List ((Int×Int)×Int))×Int,[1,2,5,26,27],λe x=>[.val (.i .i64) mo,.box 2 0,.map 11,.val (.i .i64) (((List.length cl):Nat):Int),.val (.i .i64) x.2],λe x=>[(2,.slot 2,.cells [.val (.i .i64) hk,.val (.list (.pair (.i .i64) (.pair (.i .i64) .bo))) cs,.val (.i .i64) f,.val (.list (.i .i64)) cl] (some 134)),(11,.slot 5,.map (.pair (.i .i64) (.i .i64)) (.i .i64) x.1)]⟩),
 (4,⟨Int×Int×(List ((Int×Int)×Int)),(List ((Int×Int)×Int))×(List Nat),[1,2,7,8,26,27,32],λe x=>[.val (.i .i64) mo,.box 2 0,.val (.i .i64) e.1,.map 30,.val (.i .i64) (((List.length cl):Nat):Int),.val (.i .i64) e.2.1,.box 32 0],λe x=>[(2,.slot 2,.cells [.val (.i .i64) hk,.val (.list (.pair (.i .i64) (.pair (.i .i64) .bo))) cs,.val (.i .i64) f,.val (.list (.i .i64)) cl] (some 134)),(30,.slot 8,.map (.pair (.i .i64) (.i .i64)) (.i .i64) x.1),(32,.slot 32,.iter (.pair (.i .i64) (.i .i64)) (.i .i64) e.2.2 x.2)]⟩)]
theorem N8 (a:(Int×(List (Int×Int×Bool))×Int×List Int)×Int):gwp WB (WC a.1.1 a.1.2.1 a.1.2.2.1 a.1.2.2.2 a.2) Z17 0 (Q6e [.tmp 4] (.pair (.i .i64) (.i .i64)) (.i .i64) (XX a)) (YA 52 (AL.can Wa a))=Zv a.1.1 a.1.2.1 a.1.2.2.1 a.1.2.2.2 a.2:=by kernel_rfl
abbrev N0:Prop:=XOk Tryz.prog 118 JU
theorem UR (h:∀ (hk:Int) (cs:List (Int×Int×Bool)) (f:Int) (cl:List Int) (mo:Int),(f=hk/\QQ hk cs=0/\cl.length<=60/\(∀ r∈cl,-1<=r/\r<2 ^ hk.toNat)/\0<=mo/\mo<=6)->Zv hk cs f cl mo):XOk Tryz.prog 118 JU :=
 Q0d Io mixed Xp rfl (C:=WB) ⟨(.cons Vo .nil),(XsOk.cons U9 XsOk.nil),ItsOk.nil,YlOk.nil,IysOk.nil,XfOk.nil⟩ (L:=λ(a:(Int×(List (Int×Int×Bool))×Int×List Int)×Int)=>WC a.1.1 a.1.2.1 a.1.2.2.1 a.1.2.2.2 a.2) (V:=λ(a:(Int×(List (Int×Int×Bool))×Int×List Int)×Int)=>Zv a.1.1 a.1.2.1 a.1.2.2.1 a.1.2.2.2 a.2) N8 λa hp=>h a.1.1 a.1.2.1 a.1.2.2.1 a.1.2.2.2 a.2 hp
theorem VW:N0:=UR λhk cs f cl mo h=>by
 obtain⟨h1,h2,h3,h4,h5,h6⟩:=h;subst h1;obtain⟨hf,cg,av,ai⟩:=No h2;have br:=xJ.2 av;unfold Zv;(try delta Wh);(try delta lI gD sT I64 Xz pj8 pj4);refine⟨(),([],0),(by and_intros<;>first|rfl|trivial),?_⟩;refine LoopP.count2 cs.length (λk m=>MapW cs.length mo.toNat m (Q6b k)) ((MapW.nil _ _).congr λq=>by unfold Q6b;rw[z1 (by omega)]) ?_;intro k m hk hm q hq;dsimp only;refine⟨λg=>?_,λg=>?_⟩
 .have g:k<cs.length:=by have:=zl g;omega
  refine⟨by simp only[Qh];omega,(Nt m ((k:Int),0) 1,(k:Int)+1),(by and_intros<;>first|rfl|trivial),hq _ g (Q07 hm g)⟩
 .have g:k=cs.length:=by have:=zK g;omega
  subst g;refine⟨(),(m,0),(by and_intros<;>first|rfl|trivial),?_⟩;refine LoopP.count2 cl.length (λk m=>MapW cs.length mo.toNat m (wyK cs.length mo.toNat (λk=>wvB f cs cl k) k)) (hm.congr λq=>rfl) ?_;clear hm hq;intro k m hk hm q hq;dsimp only;refine⟨λg=>?_,λg=>?_⟩
  .have g:k<cl.length:=by have:=zl g;omega
   refine⟨((k:Int),(k:Int),m),([],[]),(by and_intros<;>first|rfl|trivial),?_⟩;refine LoopP.rng m.length (λx dn=>MapW cs.length mo.toNat x (Q5j cs.length mo.toNat (wvB f cs cl k) m dn)) ((MapW.nil _ _).congr λq=>rfl) ?_;intro x dn hn ah hx q' cC;dsimp only;refine⟨λae=>⟨(λc=>by cases c),λ_=>⟨by simp only[Qh];omega,(x,(k:Int)+1),(by and_intros<;>first|rfl|trivial),hq _ g ?_⟩⟩,λr hr fY=>⟨λ_=>?_,(λc=>by cases c)⟩⟩
   .exact hx.congr λq=>(Q4a (wv:=λk=>wvB f cs cl k) hm hn ah q).2.2 ae
   .have d_:List.getLastD (dn++[r]) 0=r:=by simp
    have aH:m[r]∈m:=zn hr;have he:=hm.2.1 _ aH;have mn:=Xv.1 he.2.2;have hW:=Q9z (n:=cs.length) (mo:=mo.toNat) (λk=>wvB f cs cl k) br (by omega) (k:=k) (by omega) m[r].1;have oS:=λq=>Q4a (wv:=λk=>wvB f cs cl k) hm hn ah q;have uP:=λq=>Q9z (n:=cs.length) (mo:=mo.toNat) (λk=>wvB f cs cl k) br (by omega) (k:=k+1) (by omega) q;simp only[d_,Qg hr,zz];refine⟨by simp,⟨hf.1,hf.2,by omega,by omega,mn.1.1,mn.1.2,ai⟩,λc=>⟨⟨mn.1.1,mn.1.2,cg,mn.2.1,by omega,h5,h6,by omega,by omega,λq=>?_⟩,λm' kL=>⟨(m',dn++[r]),(by and_intros<;>first|rfl|trivial),cC r m' hr fY ?_⟩⟩,λc=>⟨(x,dn++[r]),(by and_intros<;>first|rfl|trivial),cC r x hr fY ?_⟩⟩
    .rw[hx.get q];have:=oS q;have:=uP q;omega
    .subst kL;have gU:((mo.toNat:Nat):Int)=mo:=by omega
     have:=Q81 hx (λq=>(oS q).1) (p:=m[r].1) (w:=m[r].2) he.2.1 br ⟨mn.1.1,mn.2.1⟩;rw[gU] at this;refine MapW.congr this λq=>?_;rw[SY,Qg hr];unfold Lu;rw[z0 c,gU]
    .refine hx.congr λq=>?_;rw[SY,Qg hr];unfold Lu;rw[z1 (by rw[c];decide)];omega
  .have g:k=cl.length:=by have:=zK g;omega
   subst g;exact hm
def Ci (hk:Int) (cs:List VQ) (cl:List Int) (fa:Int):Int:=((Jd cs.length fa.toNat).map (wyK cs.length fa.toNat (λk=>wvB hk cs cl k) cl.length)).sum
theorem Q1m (n mo:Nat):(Jd n mo).length=n*(mo+1):=by
 unfold Jd;rw[List.length_flatMap];have:(λ(a:Nat)=>((List.range (mo+1)).map λ(f:Nat)=>(((a:Int),(f:Int)):Int×Int)).length)=λ_=>mo+1:=by funext a;simp
 rw[this];induction n with
 |zero=>simp
 |succ n ih=>rw[List.range_succ,xB,List.sum_append,ih];simp[Nat.succ_mul]
theorem Ii {α:Type}{f:α->Int}{B:Int}:∀ {l:List α},(∀ x∈l,f x<=B)->(l.map f).sum<=l.length*B
 |[],_=>by simp
 |x::l,h=>by
  have h1:=h x (ze ..);have h2:=Ii (l:=l) λy hy=>h y (z9 _ hy);rw[zF,xH,zP];have:((l.length+1:Nat):Int)*B=l.length*B+B:=by rw[Int.natCast_add,Int.add_mul];simp
  omega
theorem Z0i {n mo:Nat}(wv:Nat->Int->Bool) (hn:0<n) (eB:n<=60) (gU:mo<=6) {k:Nat}(hk:k<=60):((Jd n mo).map (wyK n mo wv k)).sum<=420*3138428376721:=by
 have h1:=Ii (l:=Jd n mo) (f:=wyK n mo wv k) (B:=3138428376721) λq hq=>by have hg:=Xv.1 hq;have h1:=CJ (n:=n) (mo:=mo) wv hn k q hg.2.1;have h2:=Z50 (b:=2*k+1) (e:=q.2.toNat) (by omega) (by omega);omega
 rw[Q1m] at h1;have:n*(mo+1)<=60*7:=Nat.mul_le_mul eB (by omega);have:((n*(mo+1):Nat):Int)*3138428376721<=420*3138428376721:=Int.mul_le_mul_of_nonneg_right (by omega) (by omega);omega
def NP:AL ((Int×List (Int×Int×Bool))×List Int×Int):=(.cons (.agg (.cons (.k (.i .i64)) (.one (.k (.list (.pair (.i .i64) (.pair (.i .i64) .bo))))))) (.cons (.k (.list (.i .i64))) (.one (.k (.i .i64)))))
def P1 (a:(Int×List (Int×Int×Bool))×List Int×Int):Prop:=QQ a.1.1 a.1.2=0/\a.2.1.length<=60/\(∀ r∈a.2.1,-1<=r/\r<2 ^ a.1.1.toNat)/\0<=a.2.2/\a.2.2<=6
def Np (a:(Int×List (Int×Int×Bool))×List Int×Int):List SV:=[.val (.i .i64) (0:Int)]
def Uv (a:(Int×List (Int×Int×Bool))×List Int×Int) (m:List ((Int×Int)×Int)):Prop:=MapW a.1.2.length a.2.2.toNat m (wyK a.1.2.length a.2.2.toNat (λk=>wvB a.1.1 a.1.2 a.2.1 k) a.2.1.length)
def YR:XSp:=Q0v Vy (.pair (.i .i64) (.i .i64)) (.i .i64) (Q6s NP P1 Np Uv)
def Y8 (hk:Int) (cs:List (Int×Int×Bool)) (cl:List Int) (fa:Int):Prop :=
 ∀ w1:List Value,∀ w2:List Value,(True)/\((!(inI hk 1 24))=true ->
  w2=w2/\w1=w1/\False) /\
 ((!(inI hk 1 24))=false ->
  ((decide ((lI cs) > (60:Int)))=true ->
   w2=w2/\w1=w1/\False) /\
  ((decide ((lI cs) > (60:Int)))=false ->
   (1<=hk/\hk<=24/\cs.length<=1000000)/\((!(!cs.isEmpty&&!(cs.any λc=>!Zh hk c)))=true ->
    w2=w2/\w1=w1/\False) /\
   ((!(!cs.isEmpty&&!(cs.any λc=>!Zh hk c)))=false ->
    w2=w2/\((decide ((lI cl) > (60:Int)))=true ->
     w1=w1/\False) /\
    ((decide ((lI cl) > (60:Int)))=false ->
     (cl.length<=1000000/\∀ x∈cl,(λ(x1:Int)=>1<=hk/\hk<=24) x)/\((cl.any (λ(x1:Int)=>(decide (x1≠-1)&&!inI x1 0 (2 ^ hk.toNat-1))))=true ->
      w1=w1/\False) /\
     ((cl.any (λ(x1:Int)=>(decide (x1≠-1)&&!inI x1 0 (2 ^ hk.toNat-1))))=false ->
      w1=w1/\([fa].length<=1000000)/\((!(!([fa].any λn=>decide (n<(0:Int))||decide ((6:Int)<n))))=true ->
       False) /\
      ((!(!([fa].any λn=>decide (n<(0:Int))||decide ((6:Int)<n))))=false ->
       (hk=hk/\QQ hk cs=0/\cl.length<=60/\(∀ r∈cl,-1<=r/\r<2 ^ hk.toNat)/\0<=fa/\fa<=6)/\(∀ m3:List ((Int×Int)×Int),(MapW cs.length fa.toNat m3 (wyK cs.length fa.toNat (λk=>wvB hk cs cl k) cl.length))->(((0:Int)=(0:Int)/\(([]:List SV)=[]))/\(MapW cs.length fa.toNat m3 (wyK cs.length fa.toNat (λk=>wvB hk cs cl k) cl.length))))))))))
def J0:Cx:=⟨[],[(87,Z3),(86,QX),(113,QK),(112,JO)],33,[3000017],0,[(103,NK)],[],[],[],false,[],[],[17],[]⟩
def Z_:List (Nat×LoopAnn):=[]
def MI:Cx:=⟨[(3,(.i .i64))],[(88,JA)],28,[3000016],0,[(73,Q11 J0 (λ_=>Z_) c73 [.cell 4 true 4,.tmp 5] 33),(118,JU)],[],[],[],false,[],[],[16],[]⟩
def MB (hk:Int) (cs:List (Int×Int×Bool)) (cl:List Int) (fa:Int):List (Nat×LoopAnn):=[]
theorem PZ (a:(Int×List (Int×Int×Bool))×List Int×Int):gwp MI (MB a.1.1 a.1.2 a.2.1 a.2.2) c79 0 (Q5i [.tmp 6,.tmp 7] (.pair (.i .i64) (.i .i64)) (.i .i64) (Np a) (Uv a)) (YA 28 (AL.can NP a))=Y8 a.1.1 a.1.2 a.2.1 a.2.2:=by kernel_rfl
abbrev Tm:Prop:=XOk Tryz.prog 79 YR
theorem PV (h:∀ (hk:Int) (cs:List (Int×Int×Bool)) (cl:List Int) (fa:Int),(QQ hk cs=0/\cl.length<=60/\(∀ r∈cl,-1<=r/\r<2 ^ hk.toNat)/\0<=fa/\fa<=6)->Y8 hk cs cl fa):XOk Tryz.prog 79 YR :=
 Q0b Q4w mixed Xp rfl (C:=MI) ⟨(.cons Wo .nil),(XsOk.cons (Nj Q5q mixed (C:=J0) ⟨(.cons JB (.cons Jl (.cons Jf (.cons UX .nil)))),(XsOk.cons MM XsOk.nil),ItsOk.nil,YlOk.nil,IysOk.nil,XfOk.nil⟩ (λ_=>Z_)) (XsOk.cons VW XsOk.nil)),ItsOk.nil,YlOk.nil,IysOk.nil,XfOk.nil⟩ (L:=λ(a:(Int×List (Int×Int×Bool))×List Int×Int)=>MB a.1.1 a.1.2 a.2.1 a.2.2) (V:=λ(a:(Int×List (Int×Int×Bool))×List Int×Int)=>Y8 a.1.1 a.1.2 a.2.1 a.2.2) PZ λa hp=>h a.1.1 a.1.2 a.2.1 a.2.2 hp
theorem NV:Tm:=PV λhk cs cl fa h=>by
 obtain⟨h1,h2,h3,h4,h5⟩:=h;obtain⟨hf,cg,av,ai⟩:=No h1;unfold Y8;(try delta lI gD sT I64 Xz pj8 pj4);have c1:(!inI hk 1 24)=false:=by simp only[inI,xQ,z2,zi];omega
 have c2:(!(!cs.isEmpty&&!(cs.any λc=>!Zh hk c)))=false:=by
  have e1:cs.isEmpty=false:=by cases cs with|nil=>exact(av rfl).elim|cons _ _=>rfl
  have e2:(cs.any λc=>!Zh hk c)=false:=xN.2 λc hc=>by rw[ai c hc];decide
  rw[e1,e2];rfl
 have c3:(cl.any λx=>(decide (x≠-1)&&!inI x 0 (2 ^ hk.toNat-1)))=false:=xN.2 λx hx=>by
  have:=h3 x hx;by_cases e:x=-1
  .simp[e]
  .have e2:inI x 0 (2 ^ hk.toNat-1)=true:=by
    simp only[inI,z2,zi];omega
   rw[e2];simp
 have c4:(!(!([fa].any λn=>decide (n<(0:Int))||decide ((6:Int)<n))))=false:=by simp only[List.any_cons,List.any_nil,xU,Bool.not_not,Bool.or_eq_false_iff,wg];omega
 have d1:decide ((((List.length cs):Nat):Int) > (60:Int))=false:=xO (by omega);have d2:decide ((((List.length cl):Nat):Int) > (60:Int))=false:=xO (by omega);intro w1 w2;rw[c1,c2,c3,c4,d1,d2];refine⟨trivial,(λc=>by cases c),λ_=>⟨(λc=>by cases c),λ_=>⟨⟨hf.1,hf.2,by omega⟩,(λc=>by cases c),λ_=>⟨rfl,(λc=>by cases c),λ_=>⟨⟨by omega,λ_ _=>hf⟩,(λc=>by cases c),λ_=>⟨rfl,by simp,(λc=>by cases c),λ_=>⟨⟨rfl,h1,h2,h3,h4,h5⟩,λm hm=>⟨(by and_intros<;>first|rfl|trivial|simp),hm⟩⟩⟩⟩⟩⟩⟩⟩
def Gt:AL ((Int×List (Int×Int×Bool))×List Int×Int):=(.cons (.agg (.cons (.k (.i .i64)) (.one (.k (.list (.pair (.i .i64) (.pair (.i .i64) .bo))))))) (.cons (.k (.list (.i .i64))) (.one (.k (.i .i64)))))
def T9 (d:(Int×List (Int×Int×Bool))×List Int×Int):Prop:=QQ d.1.1 d.1.2=0/\d.2.1.length<=60/\(∀ r∈d.2.1,-1<=r/\r<2 ^ d.1.1.toNat)/\0<=d.2.2/\d.2.2<=6
def MN (d:(Int×List (Int×Int×Bool))×List Int×Int):SV:=.tup [.val (.i .i64) (Ci d.1.1 d.1.2 d.2.1 d.2.2),.val (.i .i64) (0:Int)]
def MA (d:(Int×List (Int×Int×Bool))×List Int×Int):List OB:=[]
def Nw:CSp:=N2 Gt T9 MN MA
def YL (hk:Int) (cs:List (Int×Int×Bool)) (cl:List Int) (fa:Int):Prop :=
 (QQ hk cs=0/\cl.length<=60/\(∀ r∈cl,-1<=r/\r<2 ^ hk.toNat)/\0<=fa/\fa<=6)/\(∀ m1:List ((Int×Int)×Int),(MapW cs.length fa.toNat m1 (wyK cs.length fa.toNat (λk=>wvB hk cs cl k) cl.length))->∃ (e4:(List ((Int×Int)×Int))) (d40:Int×(List Nat)),(((0:Int)=d40.1/\(0:Int)=(0:Int)/\True/\True)/\((m1=e4/\([]:List Nat)=d40.2)/\True)) /\
 LoopP (λ(d4:Int×(List Nat)) (q4:(Int×(List Nat))->Prop) =>
  ((∀ r:Nat,r<(List.length e4)->r∈d4.2) ->
   (false=true ->
    (d4.2≠[])/\(I64 (d4.1+(List.getD e4 (List.getLastD d4.2 0) ((0,0),0)).2))/\(∃ d6:Int×(List Nat),(((d4.1+(List.getD e4 (List.getLastD d4.2 0) ((0,0),0)).2)=d6.1/\(0:Int)=(0:Int)/\True/\True)/\((e4=e4/\d4.2=d6.2)/\True))/\q4 d6)) /\
   (false=false ->
    ((d4.1=(Ci hk cs cl fa)/\(0:Int)=(0:Int)/\(([]:List SV)=[]))/\(True)))) /\
  (∀ r5:Nat,r5<(List.length e4)->r5∉d4.2 ->
   (true=true ->
    ((d4.2++[r5])≠[])/\(I64 (d4.1+(List.getD e4 (List.getLastD (d4.2++[r5]) 0) ((0,0),0)).2))/\(∃ d7:Int×(List Nat),(((d4.1+(List.getD e4 (List.getLastD (d4.2++[r5]) 0) ((0,0),0)).2)=d7.1/\(0:Int)=(0:Int)/\True/\True)/\((e4=e4/\(d4.2++[r5])=d7.2)/\True))/\q4 d7)) /\
   (true=false ->
    ((d4.1=(Ci hk cs cl fa)/\(0:Int)=(0:Int)/\(([]:List SV)=[]))/\(True))))) d40)
def Dk:Cx:=⟨[],[],29,[],0,[(79,YR)],[],[],[],false,[],[],[],[]⟩
def Rl (hk:Int) (cs:List (Int×Int×Bool)) (cl:List Int) (fa:Int):List (Nat×LoopAnn):=[(0,⟨(List ((Int×Int)×Int)),Int×(List Nat),[6,7,19],λe x=>[.val (.i .i64) x.1,.val (.i .i64) (0:Int),.box 19 0],λe x=>[(19,.slot 19,.iter (.pair (.i .i64) (.i .i64)) (.i .i64) e x.2)]⟩)]
theorem RZ (d:(Int×List (Int×Int×Bool))×List Int×Int):gwp (Dk) (Rl d.1.1 d.1.2 d.2.1 d.2.2) c27 0 (Nu [.tmp 6,.tmp 7] (MN d) (MA d)) (Q_ 29 (AL.can Gt d))=YL d.1.1 d.1.2 d.2.1 d.2.2:=by kernel_rfl
abbrev S1:Prop:=OkC Tryz.prog 27 Nw
theorem Rt (h:∀ (hk:Int) (cs:List (Int×Int×Bool)) (cl:List Int) (fa:Int),(QQ hk cs=0/\cl.length<=60/\(∀ r∈cl,-1<=r/\r<2 ^ hk.toNat)/\0<=fa/\fa<=6)->YL hk cs cl fa):OkC Tryz.prog 27 Nw :=
 Zn Q65 mixed (C:=Dk) (V:=λ(d:(Int×List (Int×Int×Bool))×List Int×Int)=>YL d.1.1 d.1.2 d.2.1 d.2.2) ⟨.nil,(XsOk.cons NV XsOk.nil),ItsOk.nil,YlOk.nil,IysOk.nil,XfOk.nil⟩ (RZ) λd hp=>h d.1.1 d.1.2 d.2.1 d.2.2 hp
theorem S7:S1:=Rt λhk cs cl fa h=>by
 obtain⟨h1,h2,h3,h4,h5⟩:=id h;obtain⟨hf,cg,av,ai⟩:=No h1;have br:=xJ.2 av;unfold YL;(try delta lI gD sT I64 Xz pj8 pj4);refine⟨h,λm hm=>⟨m,(0,[]),(by and_intros<;>first|rfl|trivial),?_⟩⟩;refine LoopP.rng m.length (λs dn=>s=(dn.map λr=>(m.getD r ((0,0),0)).2).sum) rfl ?_;intro s dn hn ah hs q hq;dsimp only;have hp:∀ x∈m,0<=(λx:(Int×Int)×Int=>x.2) x:=λx hx=>Int.le_of_lt (hm.2.1 x hx).2.1;have iJ:=Pm hm (λ_ w=>w) λ_=>rfl;have hb:=Z0i (n:=cs.length) (mo:=fa.toNat) (λk=>wvB hk cs cl k) br (by omega) (by omega) (k:=cl.length) (by omega);have hV:(m.map λx=>x.2).sum=Ci hk cs cl fa:=iJ;have vE:Ci hk cs cl fa<=420*3138428376721:=hb;have ep:=λ(dn:List Nat) (hn:dn.Nodup) (ah:∀ r∈dn,r<m.length)=>CN (d:=(((0,0),0):(Int×Int)×Int)) (F:=λx=>x.2) hn ah hp;refine⟨λae=>⟨(λc=>by cases c),λ_=>⟨⟨?_,rfl,rfl⟩,trivial⟩⟩,λr hr fY=>⟨λ_=>?_,(λc=>by cases c)⟩⟩
 .rw[hs,<-hV];exact(ep dn hn ah).2 ae
 .have d_:List.getLastD (dn++[r]) 0=r:=by simp
  have a8:s+(m.getD r ((0,0),0)).2=((dn++[r]).map λr=>(m.getD r ((0,0),0)).2).sum:=by rw[hs,Rn];simp
  simp only[d_];have aH:=λy (hy:y∈dn++[r])=>show y<m.length from (zu.1 hy).elim (ah y) λh=>by rw[z8] at h;omega
  have hle:=(ep (dn++[r]) (Dy hn fY) aH).1;have bw:0<=((dn++[r]).map λr=>(m.getD r ((0,0),0)).2).sum:=Vt λy hy=>by have:=aH y hy;rw[Qg this];exact hp _ (zn this)
  refine⟨by simp,?_,(s+(m.getD r ((0,0),0)).2,dn++[r]),(by and_intros<;>first|rfl|trivial),hq r _ hr fY a8⟩;simp only[Qh];rw[a8];omega
def Z58 (a b:Int):Int:=if a<b then -1 else if b<a then 1 else 0
def OP:XSp:=λ_ _ _ _=>False
theorem Sf {P:Program}{f:Nat}:XOk P f OP:=λ_ _ _ _ _ _ _ _ _ _ _ _ _ _ hx _=>hx.elim
def len8T:List UInt8:=[0,1,2,2,3,3,3,3,4,4,4,4,4,4,4,4,5,5,5,5,5,5,5,5,5,5,5,5,5,5,5,5,6,6,6,6,6,6,6,6,6,6,6,6,6,6,6,6,6,6,6,6,6,6,6,6,6,6,6,6,6,6,6,6,7,7,7,7,7,7,7,7,7,7,7,7,7,7,7,7,7,7,7,7,7,7,7,7,7,7,7,7,7,7,7,7,7,7,7,7,7,7,7,7,7,7,7,7,7,7,7,7,7,7,7,7,7,7,7,7,7,7,7,7,7,7,7,7,8,8,8,8,8,8,8,8,8,8,8,8,8,8,8,8,8,8,8,8,8,8,8,8,8,8,8,8,8,8,8,8,8,8,8,8,8,8,8,8,8,8,8,8,8,8,8,8,8,8,8,8,8,8,8,8,8,8,8,8,8,8,8,8,8,8,8,8,8,8,8,8,8,8,8,8,8,8,8,8,8,8,8,8,8,8,8,8,8,8,8,8,8,8,8,8,8,8,8,8,8,8,8,8,8,8,8,8,8,8,8,8,8,8,8,8,8,8,8,8,8,8,8,8,8,8,8,8]
def Rb (x:Int):Int:=((UInt8.toNat (List.getD len8T (Int.toNat x) 0):Nat):Int)
def Yk (p:Int×Int):Int:=Z58 p.1 p.2
def LL {α:Type}[Inhabited α] (lt:α->α->Bool) (a:Nat):Nat->List α->List α
 |0,xs=>xs
 |j+1,xs=>if a<j+1/\lt (xs.getD (j+1) default) (xs.getD j default)=true then LL lt a j ((xs.set (j+1) (xs.getD j default)).set j (xs.getD (j+1) default)) else xs
def OK {α:Type}[Inhabited α] (lt:α->α->Bool) (a:Nat):Nat->List α->List α
 |0,xs=>xs
 |n+1,xs=>LL lt a (a+1+n) (OK lt a n xs)
def Th {α:Type}[Inhabited α] (f:α×α->Int) (xs:List α) (a b:Nat):List α:=OK (λx y=>decide (f (x,y)<0)) a (b-a-1) xs
section
variable {α:Type}[Inhabited α] {lt:α->α->Bool}
theorem Ls {xs:List α}{j:Nat}(h:j+1<xs.length):((xs.set (j+1) (xs.getD j default)).set j (xs.getD (j+1) default)).Perm xs:=by rw[Qg (show j<xs.length by omega),Qg h];exact List.set_set_perm h (by omega)
theorem SM {a:Nat}:∀ j {xs:List α},j<xs.length->(LL lt a j xs).Perm xs
 |0,_,_=>.refl _
 |j+1,xs,h=>by
  unfold LL;split
  .exact(SM j (by simp;omega)).trans (Ls h)
  .exact .refl _
theorem GB {a:Nat}{xs:List α}:∀ n,a+n<xs.length\/n=0->(OK lt a n xs).Perm xs
 |0,_=>.refl _
 |n+1,h=>by have ih:=GB (a:=a) (xs:=xs) n (by omega);unfold OK;exact(SM _ (by rw[ih.length_eq];omega)).trans ih
theorem D5 {f:α×α->Int}{xs:List α}{a b:Nat}(h:b<=xs.length):(Th f xs a b).Perm xs:=GB _ (by omega)
theorem IL {a j:Nat}{xs:List α}(hj:a<j) (h:lt (xs.getD j default) (xs.getD (j-1) default)=true):LL lt a j xs=LL lt a (j-1) ((xs.set j (xs.getD (j-1) default)).set (j-1) (xs.getD j default)):=by obtain⟨k,rfl⟩:∃ k,j=k+1:=⟨j-1,by omega⟩;rw[Nat.add_sub_cancel] at h |-;rw[LL,z0 ⟨hj,h⟩]
theorem FU {a j:Nat}{xs:List α}(h:¬ (a<j/\lt (xs.getD j default) (xs.getD (j-1) default)=true)):LL lt a j xs=xs:=by
 cases j with
 |zero=>rfl
 |succ k=>rw[Nat.add_sub_cancel] at h;rw[LL,z1 h]
theorem As {xs:List α}{j q:Nat}(h:j+1<xs.length):((xs.set (j+1) (xs.getD j default)).set j (xs.getD (j+1) default)).getD q default=if q=j then xs.getD (j+1) default else if q=j+1 then xs.getD j default else xs.getD q default:=by
 simp only[z4,xu,xx];by_cases h1:j=q
 .subst h1;rw[z0 rfl,z0 (by omega),z0 rfl];rfl
 .rw[z1 h1,z1 (show ¬ q=j from λe=>h1 e.symm)];by_cases h2:j+1=q
  .subst h2;rw[z0 rfl,z0 h,z0 rfl];rfl
  .rw[z1 h2,z1 (show ¬ q=j+1 from λe=>h2 e.symm)]
def Q1t (lt:α->α->Bool) (i:Nat) (xs:List α):Prop:=∀ p q,p<q->q<=i->lt (xs.getD q default) (xs.getD p default)=false
theorem Lc (has:∀ x y,lt x y=true->lt y x=false) (mq:∀ x y z,lt y x=false->lt z y=false->lt z x=false) {i:Nat}:∀ j {xs:List α},j<=i->i<xs.length->(∀ p q,p<q->q<=i->q≠j->lt (xs.getD q default) (xs.getD p default)=false)->Q1t lt i (LL lt 0 j xs)
 |0,xs,_,_,h=>λp q h1 h2=>by rw[LL];exact h p q h1 h2 (by omega)
 |j+1,xs,hj,hi,h=>by
  rw[LL];split
  .rename_i hc;refine Lc has mq j (by omega) (by simp;exact hi) λp q h1 h2 h3=>?_;rw[As (by omega),As (by omega),z1 h3];by_cases hq:q=j+1
   .rw[z0 hq];by_cases hp:p=j
    .rw[z0 hp];exact has _ _ hc.2
    .rw[z1 hp,z1 (by omega)];exact h p j (by omega) (by omega) (by omega)
   .rw[z1 hq];by_cases hp:p=j
    .rw[z0 hp];exact h (j+1) q (by omega) h2 (by omega)
    .rw[z1 hp];by_cases dk:p=j+1
     .rw[z0 dk];exact h j q (by omega) h2 (by omega)
     .rw[z1 dk];exact h p q h1 h2 (by omega)
  .rename_i hc;have hc:lt (xs.getD (j+1) default) (xs.getD j default)=false:=by
    cases h5:lt (xs.getD (j+1) default) (xs.getD j default) with
    |false=>rfl
    |true=>exact(hc ⟨by omega,h5⟩).elim
   intro p q h1 h2;by_cases hq:q=j+1
   .subst hq;by_cases hp:p=j
    .subst hp;exact hc
    .exact mq _ _ _ (h p j (by omega) (by omega) (by omega)) hc
   .exact h p q h1 h2 hq
theorem Li (has:∀ x y,lt x y=true->lt y x=false) (mq:∀ x y z,lt y x=false->lt z y=false->lt z x=false) {xs:List α}:∀ n,n<xs.length->Q1t lt n (OK lt 0 n xs)
 |0,_=>λp q h1 h2=>by omega
 |n+1,h=>by have ih:=Li has mq (xs:=xs) n (by omega);have hp:=GB (lt:=lt) (a:=0) (xs:=xs) n (by omega);unfold OK;rw[show 0+1+n=n+1 by omega];exact Lc has mq (n+1) (z5 _) (by rw[hp.length_eq];omega) λp q h1 h2 h3=>ih p q h1 (by omega)
theorem Fu {f:α×α->Int}(has:∀ x y,f (x,y)<0->¬ f (y,x)<0) (mq:∀ x y z,¬ f (y,x)<0->¬ f (z,y)<0->¬ f (z,x)<0) (xs:List α):(Th f xs 0 xs.length).Pairwise λx y=>¬ f (y,x)<0:=by
 cases hx:xs with
 |nil=>exact List.Pairwise.nil
 |cons x0 t =>
  have hlen:0<xs.length:=by rw[hx];simp
  rw[<-hx];have h:=Li (lt:=λx y=>decide (f (x,y)<0)) (λx y h=>by simpa using has x y (by simpa using h)) (λx y z h1 h2=>by simpa using mq x y z (by simpa using h1) (by simpa using h2)) (xs:=xs) (xs.length-0-1) (by omega);have hl:=(D5 (f:=f) (a:=0) (z5 xs.length)).length_eq;refine List.pairwise_iff_getElem.2 λp q hp hq rz=>?_;have:=h p q rz (by omega);have cC:(OK (λx y=>decide (f (x,y)<0)) 0 (xs.length-0-1) xs).getD q default=(Th f xs 0 xs.length)[q]:=Qg hq;have bk:(OK (λx y=>decide (f (x,y)<0)) 0 (xs.length-0-1) xs).getD p default=(Th f xs 0 xs.length)[p]:=Qg hp;rw[cC,bk] at this;simpa using this
end
theorem GF {x y:Int}:Yk (x,y)<0<->x<y:=by unfold Yk Z58;dsimp only;split<;>(try split)<;>omega
theorem Z3c (xs:List Int):(Th Yk xs 0 xs.length).Pairwise (·<=·) :=
 (Fu (f:=Yk) (λx y h h2=>by rw[GF] at h h2;omega) (λx y z h1 h2 h3=>by rw[GF] at h1 h2 h3;omega) xs).imp λh=>by rw[GF] at h;omega
theorem Z39 {xs:List Int}(h:xs.Nodup):(Th Yk xs 0 xs.length).Pairwise (·<·):=by
 have h2:=(D5 (f:=Yk) (a:=0) (z5 xs.length)).nodup_iff.2 h;exact((Z3c xs).and h2).imp λh=>by have:=h.1;have:=h.2;omega
theorem Q69 {a j:Nat}{α:Type}[Inhabited α] {f:α×α->Int}{ys T:List α}(e:LL (λx y=>decide (f (x,y)<0)) a j ys=T) (h:¬ (a<j/\f (ys.getD j default,ys.getD (j-1) default)<0)):ys=T:=by rw[<-e,FU];intro hh;exact h ⟨hh.1,by simpa using hh.2⟩
theorem Q0p {a j:Nat}{α:Type}[Inhabited α] {f:α×α->Int}{ys T:List α}(e:LL (λx y=>decide (f (x,y)<0)) a j ys=T) (hj:a<j) (h:f (ys.getD j default,ys.getD (j-1) default)<0):LL (λx y=>decide (f (x,y)<0)) a (j-1) ((ys.set j (ys.getD (j-1) default)).set (j-1) (ys.getD j default))=T:=by rw[<-e,IL hj (by simpa using h)]
theorem EK {α:Type}[Inhabited α] {xs:List α}{j:Nat}(h0:0<j) (h:j<xs.length):((xs.set j (xs.getD (j-1) default)).set (j-1) (xs.getD j default)).Perm xs:=by obtain⟨k,rfl⟩:∃ k,j=k+1:=⟨j-1,by omega⟩;exact Ls h
def Ur:AL (Int):=(.one (.k (.i .i64)))
def DD (d:Int):Prop:=True
def VC (d:Int):SV:=.val .bo false
def VN (d:Int):List OB:=[]
def Kk:CSp:=N2 Ur DD VC VN
def Xu (a:Int):Prop :=
 ((a != a)=false/\(True))
def Uz:Cx:=⟨[],[],6,[],0,[],[],[],[],false,[],[],[],[]⟩
def BP (a:Int):List (Nat×LoopAnn):=[]
theorem Bw (d:Int):gwp (Uz) (BP d) Z1k 0 (Nu [.tmp 2] (VC d) (VN d)) (Q_ 6 (AL.can Ur d))=Xu d:=by kernel_rfl
abbrev BG:Prop:=OkC Tryz.prog 111 Kk
theorem BX (h:∀ (a:Int),(True)->Xu a):OkC Tryz.prog 111 Kk :=
 Zn F9 mixed (C:=Uz) (V:=λ(d:Int)=>Xu d) ⟨.nil,XsOk.nil,ItsOk.nil,YlOk.nil,IysOk.nil,XfOk.nil⟩ (Bw) λd hp=>h d hp
theorem BH:BG:=BX λa _=>by unfold Xu;(try delta lI gD sT I64 Xz pj8 pj4);simp
def K_:AL (Int):=(.one (.k (.i .u32)))
def MU (d:Int):Prop:=False
def K4 (d:Int):SV:=.val (.i .i64) (Rb d)
def Kp (d:Int):List OB:=[]
def WZ:CSp:=N2 K_ MU K4 Kp
def Wz (x:Int):Prop :=
 ((decide (x>=(65536:Int)))=true ->
  (0<=(16:Int))/\((decide ((Z9 .u32 x (16:Int))>=(256:Int)))=true ->
   (0<=(8:Int))/\(I64 ((16:Int)+(8:Int)))/\(InK .u8 (Z9 .u32 (Z9 .u32 x (16:Int)) (8:Int)))/\(0<=(Z9 .u32 (Z9 .u32 x (16:Int)) (8:Int)))/\((Z9 .u32 (Z9 .u32 x (16:Int)) (8:Int))<(List.length len8T))/\(I64 ((UInt8.toNat (gD len8T (Z9 .u32 (Z9 .u32 x (16:Int)) (8:Int)) 0):Nat):Int))/\(I64 (((16:Int)+(8:Int))+((UInt8.toNat (gD len8T (Z9 .u32 (Z9 .u32 x (16:Int)) (8:Int)) 0):Nat):Int)))/\((((16:Int)+(8:Int))+((UInt8.toNat (gD len8T (Z9 .u32 (Z9 .u32 x (16:Int)) (8:Int)) 0):Nat):Int))=(Rb x)/\(True))) /\
  ((decide ((Z9 .u32 x (16:Int))>=(256:Int)))=false ->
   (InK .u8 (Z9 .u32 x (16:Int)))/\(0<=(Z9 .u32 x (16:Int)))/\((Z9 .u32 x (16:Int))<(List.length len8T))/\(I64 ((UInt8.toNat (gD len8T (Z9 .u32 x (16:Int)) 0):Nat):Int))/\(I64 ((16:Int)+((UInt8.toNat (gD len8T (Z9 .u32 x (16:Int)) 0):Nat):Int)))/\(((16:Int)+((UInt8.toNat (gD len8T (Z9 .u32 x (16:Int)) 0):Nat):Int))=(Rb x)/\(True)))) /\
 ((decide (x>=(65536:Int)))=false ->
  ((decide (x>=(256:Int)))=true ->
   (0<=(8:Int))/\(I64 ((0:Int)+(8:Int)))/\(InK .u8 (Z9 .u32 x (8:Int)))/\(0<=(Z9 .u32 x (8:Int)))/\((Z9 .u32 x (8:Int))<(List.length len8T))/\(I64 ((UInt8.toNat (gD len8T (Z9 .u32 x (8:Int)) 0):Nat):Int))/\(I64 (((0:Int)+(8:Int))+((UInt8.toNat (gD len8T (Z9 .u32 x (8:Int)) 0):Nat):Int)))/\((((0:Int)+(8:Int))+((UInt8.toNat (gD len8T (Z9 .u32 x (8:Int)) 0):Nat):Int))=(Rb x)/\(True))) /\
  ((decide (x>=(256:Int)))=false ->
   (InK .u8 x)/\(0<=x)/\(x<(List.length len8T))/\(I64 ((UInt8.toNat (gD len8T x 0):Nat):Int))/\(I64 ((0:Int)+((UInt8.toNat (gD len8T x 0):Nat):Int)))/\(((0:Int)+((UInt8.toNat (gD len8T x 0):Nat):Int))=(Rb x)/\(True))))
def KX:Cx:=⟨[],[],19,[],0,[],[],[],[],false,[],[],[],[]⟩
def Gv (x:Int):List (Nat×LoopAnn):=[]
theorem GN (d:Int):gwp (KX) (Gv d) Z14 0 (Nu [.tmp 2] (K4 d) (Kp d)) (Q_ 19 (AL.can K_ d))=Wz d:=by kernel_rfl
abbrev GX:Prop:=OkC Tryz.prog 163 WZ
theorem GM (h:∀ (x:Int),(False)->Wz x):OkC Tryz.prog 163 WZ :=
 Zn IQ mixed (C:=KX) (V:=λ(d:Int)=>Wz d) ⟨.nil,XsOk.nil,ItsOk.nil,YlOk.nil,IysOk.nil,XfOk.nil⟩ (GN) λd hp=>h d hp
theorem Df:GX:=GM λx h=>h.elim
def KW:AL (Int):=(.one (.k (.i .u64)))
def G2 (d:Int):Prop:=0<=d/\d<=255
def Kd (d:Int):SV:=.val (.i .i64) (Rb d)
def Ke (d:Int):List OB:=[]
def WX:CSp:=N2 KW G2 Kd Ke
abbrev Wc (x:Int):=(Z9 .u64 (Z9 .u64 x (32:Int)) (16:Int))
abbrev GG (x:Int):=(Z9 .u64 (Z9 .u64 x (32:Int)) (8:Int))
abbrev GV (x:Int):=(Z9 .u64 (Z9 .u64 x (16:Int)) (8:Int))
abbrev Hk (x:Int):=((UInt8.toNat (gD len8T (Z9 .u64 (Wc x) (8:Int)) 0):Nat):Int)
abbrev H6 (x:Int):=((UInt8.toNat (gD len8T (Z9 .u64 x (32:Int)) 0):Nat):Int)
abbrev H4 (x:Int):=((UInt8.toNat (gD len8T (Z9 .u64 x (16:Int)) 0):Nat):Int)
abbrev H0 (x:Int):=((UInt8.toNat (gD len8T (Z9 .u64 x (8:Int)) 0):Nat):Int)
abbrev Ha :=(((32:Int)+(16:Int))+(8:Int))
abbrev Hg :=(((0:Int)+(16:Int))+(8:Int))
abbrev H5 (x:Int):=((UInt8.toNat (gD len8T (Wc x) 0):Nat):Int)
abbrev GI (x:Int):=((UInt8.toNat (gD len8T (GG x) 0):Nat):Int)
abbrev Gx (x:Int):=((UInt8.toNat (gD len8T (GV x) 0):Nat):Int)
def JE (x:Int):Prop :=
 ((decide (x>=(4294967296:Int)))=true ->
  (0<=(32:Int))/\((decide ((Z9 .u64 x (32:Int))>=(65536:Int)))=true ->
   (0<=(16:Int))/\(I64 ((32:Int)+(16:Int)))/\((decide ((Wc x)>=(256:Int)))=true ->
    (0<=(8:Int))/\(I64 Ha)/\(InK .u8 (Z9 .u64 (Wc x) (8:Int)))/\(0<=(Z9 .u64 (Wc x) (8:Int)))/\((Z9 .u64 (Wc x) (8:Int))<(List.length len8T))/\(I64 (Hk x))/\(I64 (Ha+(Hk x)))/\((Ha+(Hk x))=(Rb x)/\(True))) /\
   ((decide ((Wc x)>=(256:Int)))=false ->
    (InK .u8 (Wc x))/\(0<=(Wc x))/\((Wc x)<(List.length len8T))/\(I64 (H5 x))/\(I64 (((32:Int)+(16:Int))+(H5 x)))/\((((32:Int)+(16:Int))+(H5 x))=(Rb x)/\(True)))) /\
  ((decide ((Z9 .u64 x (32:Int))>=(65536:Int)))=false ->
   ((decide ((Z9 .u64 x (32:Int))>=(256:Int)))=true ->
    (0<=(8:Int))/\(I64 ((32:Int)+(8:Int)))/\(InK .u8 (GG x))/\(0<=(GG x))/\((GG x)<(List.length len8T))/\(I64 (GI x))/\(I64 (((32:Int)+(8:Int))+(GI x)))/\((((32:Int)+(8:Int))+(GI x))=(Rb x)/\(True))) /\
   ((decide ((Z9 .u64 x (32:Int))>=(256:Int)))=false ->
    (InK .u8 (Z9 .u64 x (32:Int)))/\(0<=(Z9 .u64 x (32:Int)))/\((Z9 .u64 x (32:Int))<(List.length len8T))/\(I64 (H6 x))/\(I64 ((32:Int)+(H6 x)))/\(((32:Int)+(H6 x))=(Rb x)/\(True))))) /\
 ((decide (x>=(4294967296:Int)))=false ->
  ((decide (x>=(65536:Int)))=true ->
   (0<=(16:Int))/\(I64 ((0:Int)+(16:Int)))/\((decide ((Z9 .u64 x (16:Int))>=(256:Int)))=true ->
    (0<=(8:Int))/\(I64 Hg)/\(InK .u8 (GV x))/\(0<=(GV x))/\((GV x)<(List.length len8T))/\(I64 (Gx x))/\(I64 (Hg+(Gx x)))/\((Hg+(Gx x))=(Rb x)/\(True))) /\
   ((decide ((Z9 .u64 x (16:Int))>=(256:Int)))=false ->
    (InK .u8 (Z9 .u64 x (16:Int)))/\(0<=(Z9 .u64 x (16:Int)))/\((Z9 .u64 x (16:Int))<(List.length len8T))/\(I64 (H4 x))/\(I64 (((0:Int)+(16:Int))+(H4 x)))/\((((0:Int)+(16:Int))+(H4 x))=(Rb x)/\(True)))) /\
  ((decide (x>=(65536:Int)))=false ->
   ((decide (x>=(256:Int)))=true ->
    (0<=(8:Int))/\(I64 ((0:Int)+(8:Int)))/\(InK .u8 (Z9 .u64 x (8:Int)))/\(0<=(Z9 .u64 x (8:Int)))/\((Z9 .u64 x (8:Int))<(List.length len8T))/\(I64 (H0 x))/\(I64 (((0:Int)+(8:Int))+(H0 x)))/\((((0:Int)+(8:Int))+(H0 x))=(Rb x)/\(True))) /\
   ((decide (x>=(256:Int)))=false ->
    (InK .u8 x)/\(0<=x)/\(x<(List.length len8T))/\(I64 ((UInt8.toNat (gD len8T x 0):Nat):Int))/\(I64 ((0:Int)+((UInt8.toNat (gD len8T x 0):Nat):Int)))/\(((0:Int)+((UInt8.toNat (gD len8T x 0):Nat):Int))=(Rb x)/\(True)))))
def KT:Cx:=⟨[],[],25,[],0,[],[],[],[],false,[],[],[],[]⟩
def GZ (x:Int):List (Nat×LoopAnn):=[]
theorem Di (d:Int):gwp (KT) (GZ d) Z0t 0 (Nu [.tmp 2] (Kd d) (Ke d)) (Q_ 25 (AL.can KW d))=JE d:=by kernel_rfl
abbrev GY:Prop:=OkC Tryz.prog 164 WX
theorem Dm (h:∀ (x:Int),(0<=x/\x<=255)->JE x):OkC Tryz.prog 164 WX :=
 Zn Iz mixed (C:=KT) (V:=λ(d:Int)=>JE d) ⟨.nil,XsOk.nil,ItsOk.nil,YlOk.nil,IysOk.nil,XfOk.nil⟩ (Di) λd hp=>h d hp
theorem Gm:GY:=Dm λx h=>by
 obtain⟨h1,h2⟩:=h;unfold JE;(try delta Wc GG GV Hk H6 H4 H0 Ha Hg H5 GI Gx);(try delta lI gD sT I64 Xz pj8 pj4);have ah:(UInt8.toNat (List.getD len8T (Int.toNat x) 0):Int)<=255:=by have:=(List.getD len8T (Int.toNat x) 0).toNat_lt;omega
 refine⟨λc=>by simp at c;omega,λ_=>⟨λc=>by simp at c;omega,λ_=>⟨λc=>by simp at c;omega,λ_=>?_⟩⟩⟩;have hl:len8T.length=256:=by decide +kernel
 rw[hl];simp only[Fo,Qh];refine⟨by omega,h1,by omega,by omega,by omega,?_⟩;unfold Rb;rw[Int.zero_add];exact(by and_intros<;>first|rfl|trivial|simp)
def UC:AL (Int):=(.one (.k (.i .u64)))
def DL (d:Int):Prop:=0<=d/\d<=255
def Vj (d:Int):SV:=.val (.i .i64) (Rb d)
def Vz (d:Int):List OB:=[]
def Ki:CSp:=N2 UC DL Vj Vz
def Xt (x:Int):Prop :=
 (false=true ->
  (InK .u32 x)/\(False)/\((Rb x)=(Rb x)/\(True))) /\
 (false=false ->
  (0<=x/\x<=255)/\((Rb x)=(Rb x)/\(True)))
def UA:Cx:=⟨[],[(163,WZ),(164,WX)],8,[],0,[],[],[],[],false,[],[],[],[]⟩
def BM (x:Int):List (Nat×LoopAnn):=[]
theorem BU (d:Int):gwp (UA) (BM d) Z0l 0 (Nu [.tmp 2] (Vj d) (Vz d)) (Q_ 8 (AL.can UC d))=Xt d:=by kernel_rfl
abbrev BW:Prop:=OkC Tryz.prog 141 Ki
theorem BA (h:∀ (x:Int),(0<=x/\x<=255)->Xt x):OkC Tryz.prog 141 Ki :=
 Zn Fz mixed (C:=UA) (V:=λ(d:Int)=>Xt d) ⟨(.cons Df (.cons Gm .nil)),XsOk.nil,ItsOk.nil,YlOk.nil,IysOk.nil,XfOk.nil⟩ (BU) λd hp=>h d hp
theorem BJ:BW:=BA λx h=>by unfold Xt;(try delta lI gD sT I64 Xz pj8 pj4);exact⟨(λc=>by cases c),λ_=>⟨h,(by and_intros<;>first|rfl|trivial|simp)⟩⟩
def NZ:AL (Int×Int):=(.cons (.k (.i .i64)) (.one (.k (.i .i64))))
def BR (d:Int×Int):Prop:=True
def UE (d:Int×Int):SV:=.val .bo (decide (d.1<d.2))
def Uy (d:Int×Int):List OB:=[]
def V7:CSp:=N2 NZ BR UE Uy
def W9 (a:Int) (b:Int):Prop :=
 (True)/\(false=true->True)/\(((false&&(!false))||(decide (a<b)))=(decide (a<b))/\(True))
def NF:Cx:=⟨[],[(111,Kk)],17,[],0,[],[],[],[],false,[],[],[],[]⟩
def PG (a:Int) (b:Int):List (Nat×LoopAnn):=[]
theorem HQ (d:Int×Int):gwp (NF) (PG d.1 d.2) Z0p 0 (Nu [.tmp 4] (UE d) (Uy d)) (Q_ 17 (AL.can NZ d))=W9 d.1 d.2:=by kernel_rfl
abbrev HW:Prop:=OkC Tryz.prog 173 V7
theorem HN (h:∀ (a:Int) (b:Int),(True)->W9 a b):OkC Tryz.prog 173 V7 :=
 Zn F2 mixed (C:=NF) (V:=λ(d:Int×Int)=>W9 d.1 d.2) ⟨(.cons BH .nil),XsOk.nil,ItsOk.nil,YlOk.nil,IysOk.nil,XfOk.nil⟩ (HQ) λd hp=>h d.1 d.2 hp
theorem Px:HW:=HN λa b=>by unfold W9;(try delta lI gD sT I64 Xz pj8 pj4);simp
def ZG:AL (Int×Int):=(.cons (.k (.i .i64)) (.one (.k (.i .i64))))
def XC (xs:List Int) (nl:Bool) (d:Int×Int):Prop:=0<=d.1/\d.1<=d.2/\d.2<=xs.length/\xs.length<=12
def Zo (xs:List Int) (nl:Bool) (d:Int×Int):SV:=.tup []
def Zi (xs:List Int) (nl:Bool) (d:Int×Int):List Int:=(Th Yk xs d.1.toNat d.2.toNat)
def QT:XSp:=Eo Vy (Iv 3 (.i .i64) ZG XC Zo Zi)
def Qs (xs:List Int) (nl:Bool) (a:Int) (b:Int):Prop:=∀ vals:List Value,
 (I64 (a+(1:Int)))/\∃ (e2:Unit) (d20:(List Int)×Bool×Int),((True/\a=a/\b=b/\(a+(1:Int))=d20.2.2/\True)/\((xs=d20.1/\nl=d20.2.1)/\(vals=vals/\(True/\(([]:List SV)=[])))/\True)) /\
 LoopP (λ(d2:(List Int)×Bool×Int) (q2:((List Int)×Bool×Int)->Prop) =>
  ((decide (d2.2.2<b))=true ->
   ∃ (e5:Bool×Int) (d50:(List Int)×Int),((True/\a=a/\b=b/\d2.2.2=e5.2/\d2.2.2=d50.2/\True)/\((d2.1=d50.1/\d2.2.1=e5.1)/\(vals=vals/\(True/\(([]:List SV)=[])))/\True)) /\
   LoopP (λ(d5:(List Int)×Int) (q5:((List Int)×Int)->Prop) =>
    ((decide (d5.2 > a))=true->0<=d5.2)/\((decide (d5.2 > a))=true->d5.2<(List.length d5.1))/\((decide (d5.2 > a))=true->InK .i64 (d5.2-(1:Int)))/\((decide (d5.2 > a))=true->0<=(d5.2-(1:Int)))/\((decide (d5.2 > a))=true->(d5.2-(1:Int))<(List.length d5.1))/\((decide (d5.2 > a))=true->True)/\(((decide (d5.2 > a))&&(decide ((gD d5.1 d5.2 0)<(gD d5.1 (d5.2-(1:Int)) 0))))=true ->
     (I64 (d5.2-(1:Int)))/\(I64 (d5.2-(1:Int)))/\(0<=(d5.2-(1:Int)))/\((d5.2-(1:Int))<(List.length d5.1))/\(0<=d5.2)/\(d5.2<(List.length d5.1))/\(0<=d5.2)/\(d5.2<(List.length d5.1))/\(0<=(d5.2-(1:Int)))/\((d5.2-(1:Int))<(List.length (sT d5.1 d5.2 (gD d5.1 (d5.2-(1:Int)) 0))))/\(I64 (d5.2-(1:Int)))/\(∃ d6:(List Int)×Int,((True/\a=a/\b=b/\e5.2=e5.2/\(d5.2-(1:Int))=d6.2/\True)/\(((sT (sT d5.1 d5.2 (gD d5.1 (d5.2-(1:Int)) 0)) (d5.2-(1:Int)) (gD d5.1 d5.2 0))=d6.1/\e5.1=e5.1)/\(vals=vals/\(True/\(([]:List SV)=[])))/\True))/\q5 d6)) /\
    (((decide (d5.2 > a))&&(decide ((gD d5.1 d5.2 0)<(gD d5.1 (d5.2-(1:Int)) 0))))=false ->
     (I64 (e5.2+(1:Int)))/\(∃ d7:(List Int)×Bool×Int,((True/\a=a/\b=b/\(e5.2+(1:Int))=d7.2.2/\True)/\((d5.1=d7.1/\e5.1=d7.2.1)/\(vals=vals/\(True/\(([]:List SV)=[])))/\True))/\q2 d7))) d50) /\
  ((decide (d2.2.2<b))=false ->
   (vals=vals/\(True/\(([]:List SV)=[]))/\((([]:List SV)=[]))/\(d2.1=(Th Yk xs a.toNat b.toNat)/\d2.2.1=nl)))) d20
def ZI:Cx:=⟨[],[(173,V7)],49,[],0,[],[],[],[],false,[],[],[],[]⟩
def ZH (xs:List Int) (nl:Bool) (a:Int) (b:Int) (vals:List Value):List (Nat×LoopAnn):=[(0,⟨Unit,(List Int)×Bool×Int,[0,1,2,6],λe x=>[.lst 0,.val (.i .i64) a,.val (.i .i64) b,.val (.i .i64) x.2.2],λe x=>[(0,.slot 0,.lst 3 (.i .i64) x.1 x.2.1),(4000000,.key 4000000,.stk [.lst 0] vals)]⟩),
 (2,⟨Bool×Int,(List Int)×Int,[0,1,2,6,7],λe x=>[.lst 0,.val (.i .i64) a,.val (.i .i64) b,.val (.i .i64) e.2,.val (.i .i64) x.2],λe x=>[(0,.slot 0,.lst 3 (.i .i64) x.1 e.1),(4000000,.key 4000000,.stk [.lst 0] vals)]⟩)]
theorem XZ (xs:List Int) (nl:Bool) (d:Int×Int):(∀ vals,gwp ZI (ZH xs nl d.1 d.2 vals) Z18 0 (Fb vals [] (Zo xs nl d) (.lst 3 (.i .i64) (Zi xs nl d) nl) (.lst 0)) (Nf 49 (.lst 0) (.lst 3 (.i .i64) xs nl) vals (AL.can ZG d)))=Qs xs nl d.1 d.2:=by kernel_rfl
abbrev X_:Prop:=XOk Tryz.prog 167 QT
theorem W0 (h:∀ (xs:List Int) (nl:Bool) (a:Int) (b:Int),(0<=a/\a<=b/\b<=xs.length/\xs.length<=12)->Qs xs nl a b):XOk Tryz.prog 167 QT :=
 Rs FJ mixed Xp (C:=ZI) ⟨(.cons Px .nil),XsOk.nil,ItsOk.nil,YlOk.nil,IysOk.nil,XfOk.nil⟩ (L:=λxs nl (d:Int×Int) vals=>ZH xs nl d.1 d.2 vals) (V:=λxs nl (d:Int×Int)=>Qs xs nl d.1 d.2) XZ λxs nl d hp=>h xs nl d.1 d.2 hp
theorem XG:X_:=W0 λxs nl a b h=>by
 obtain⟨h1,h2,h3,h4⟩:=h;unfold Qs;(try delta lI gD sT I64 Xz pj8 pj4);intro vals;have hI:∀ e:Int,-1000<=e->e<=1000->InK .i64 e:=λe _ _=>by simp only[Qh];omega
 obtain⟨a,rfl⟩:∃ n:Nat,a=n:=⟨a.toNat,by omega⟩;obtain⟨b,rfl⟩:∃ n:Nat,b=n:=⟨b.toNat,by omega⟩;simp only[zz];refine⟨hI _ (by omega) (by omega),(),(xs,nl,(a:Int)+1),(by and_intros<;>first|rfl|trivial|simp),?_⟩;refine⟨λd=>∃ n:Nat,d.2.2=(a:Int)+1+n/\(n=0\/a+1+n<=b)/\nl=d.2.1/\d.1=OK (λx y=>decide (Yk (x,y)<0)) a n xs,λd=>(1000-d.2.2).toNat,⟨0,by simp,.inl rfl,rfl,rfl⟩,?_⟩;rintro⟨ys,kH,i⟩ ⟨n,e1,e2,e3,e4⟩;dsimp only at e1 e2 e3 e4 |-;subst e1 e3;refine⟨λc=>?_,λc=>?_⟩
 .have c:a+1+n<b:=by simp at c;omega
  have hp:ys.Perm xs:=by rw[e4];exact GB _ (by omega)
  have hlen:=hp.length_eq;refine⟨(nl,(a:Int)+1+n),(ys,(a:Int)+1+n),(by and_intros<;>first|rfl|trivial|simp),?_⟩;dsimp only;refine⟨λd=>∃ j:Nat,d.2=j/\j<=a+1+n/\d.1.Perm xs/\LL (λx y=>decide (Yk (x,y)<0)) a j d.1=OK (λx y=>decide (Yk (x,y)<0)) a (n+1) xs,λd=>d.2.toNat,⟨a+1+n,by simp,z5 _,hp,by rw[e4];rfl⟩,?_⟩;rintro⟨zs,j'⟩ ⟨j,f1,f2,f3,f4⟩;dsimp only at f1 f3 f4 |-;subst f1;have vF:=f3.length_eq;have n6:((j:Int)-1).toNat=j-1:=by omega
  simp only[zz,n6];refine⟨λg=>by omega,λg=>by omega,λg=>hI _ (by omega) (by omega),λg=>by simp at g;omega,λg=>by omega,λ_=>trivial,λg=>?_,λg=>?_⟩
  .have g:a<j/\zs.getD j 0<zs.getD (j-1) 0:=by simpa using g
   refine⟨hI _ (by omega) (by omega),hI _ (by omega) (by omega),by omega,by omega,by omega,by omega,by omega,by omega,by omega,by rw[xx];omega,hI _ (by omega) (by omega),((zs.set j (zs.getD (j-1) 0)).set (j-1) (zs.getD j 0),(j:Int)-1),(by and_intros<;>first|rfl|trivial|simp),⟨j-1,by omega,by omega,(EK (by omega) (by omega)).trans f3,Q0p f4 g.1 (GF.2 g.2)⟩,by dsimp only;omega⟩
  .refine⟨hI _ (by omega) (by omega),(zs,nl,(a:Int)+1+n+1),(by and_intros<;>first|rfl|trivial|simp),⟨n+1,by simp;omega,by omega,rfl,Q69 f4 λhh=>?_⟩,by dsimp only;omega⟩;have h7:zs.getD j 0<zs.getD (j-1) 0:=GF.1 hh.2;have h8:a<j:=hh.1;rw[xA (show (j:Int) > a by omega),xA h7] at g;cases g
 .have hn:n=b-a-1:=by simp at c;omega
  rw[e4,hn];exact(by and_intros<;>first|rfl|trivial|simp)
def JL:AL (Int×Int×Int):=(.cons (.k (.i .i64)) (.cons (.k (.i .i64)) (.one (.k (.i .i64)))))
def Yt (xs:List Int) (nl:Bool) (d:Int×Int×Int):Prop:=d.1=0/\d.2.1=xs.length/\xs.length<=12
def Jr (xs:List Int) (nl:Bool) (d:Int×Int×Int):SV:=.tup []
def Ji (xs:List Int) (nl:Bool) (d:Int×Int×Int):List Int:=(Th Yk xs 0 xs.length)
def Zr:XSp:=Eo Vy (Iv 3 (.i .i64) JL Yt Jr Ji)
def QP (xs:List Int) (nl:Bool) (a:Int) (b:Int) (li:Int):Prop:=∀ vals:List Value,
 ∃ (e3:Unit) (d30:Unit),((True/\a=a/\b=b/\li=li/\true=true/\true=true/\True)/\((xs=xs/\nl=nl)/\(vals=vals/\(True/\(([]:List SV)=[])))/\True)) /\
 LoopP (λ(d3:Unit) (q3:(Unit)->Prop) =>
  (I64 (b-a))/\((decide ((b-a)<=(12:Int)))=true ->
   (0<=a/\a<=b/\b<=xs.length/\xs.length<=12)/\(vals=vals/\(True/\(([]:List SV)=[]))/\((([]:List SV)=[]))/\((Th Yk xs a.toNat b.toNat)=(Th Yk xs 0 xs.length)/\nl=nl))) /\
  ((decide ((b-a)<=(12:Int)))=false ->
   ((li==(0:Int))=true ->
    False) /\
   ((li==(0:Int))=false ->
    ((!true)=true ->
     False) /\
    ((!true)=false ->
     False)))) d30
def JG:Cx:=⟨[],[],134,[],0,[(167,QT),(168,OP),(169,OP),(170,OP)],[],[],[],false,[],[],[],[]⟩
def JC (xs:List Int) (nl:Bool) (a:Int) (b:Int) (li:Int) (vals:List Value):List (Nat×LoopAnn):=[(0,⟨Unit,Unit,[0,1,2,3,8,9],λe x=>[.lst 0,.val (.i .i64) a,.val (.i .i64) b,.val (.i .i64) li,.val .bo true,.val .bo true],λe x=>[(0,.slot 0,.lst 3 (.i .i64) xs nl),(4000000,.key 4000000,.stk [.lst 0] vals)]⟩)]
theorem YX (xs:List Int) (nl:Bool) (d:Int×Int×Int):(∀ vals,gwp JG (JC xs nl d.1 d.2.1 d.2.2 vals) Z1i 0 (Fb vals [] (Jr xs nl d) (.lst 3 (.i .i64) (Ji xs nl d) nl) (.lst 0)) (Nf 134 (.lst 0) (.lst 3 (.i .i64) xs nl) vals (AL.can JL d)))=QP xs nl d.1 d.2.1 d.2.2:=by kernel_rfl
abbrev YO:Prop:=XOk Tryz.prog 147 Zr
theorem YJ (h:∀ (xs:List Int) (nl:Bool) (a:Int) (b:Int) (li:Int),(a=0/\b=xs.length/\xs.length<=12)->QP xs nl a b li):XOk Tryz.prog 147 Zr :=
 Rs IA mixed Xp (C:=JG) ⟨.nil,(XsOk.cons XG (XsOk.cons Sf (XsOk.cons Sf (XsOk.cons Sf XsOk.nil)))),ItsOk.nil,YlOk.nil,IysOk.nil,XfOk.nil⟩ (L:=λxs nl (d:Int×Int×Int) vals=>JC xs nl d.1 d.2.1 d.2.2 vals) (V:=λxs nl (d:Int×Int×Int)=>QP xs nl d.1 d.2.1 d.2.2) YX λxs nl d hp=>h xs nl d.1 d.2.1 d.2.2 hp
theorem Yu:YO:=YJ λxs nl a b li h=>by
 obtain⟨rfl,rfl,h2⟩:=h;unfold QP;(try delta lI gD sT I64 Xz pj8 pj4);intro vals;refine⟨(),(),(by and_intros<;>first|rfl|trivial|simp),?_⟩;refine⟨λ_=>True,λ_=>0,trivial,?_⟩;rintro⟨⟩ -
 refine⟨by simp only[Qh];omega,λ_=>⟨⟨by omega,by omega,by omega,h2⟩,(by and_intros<;>first|rfl|trivial|simp)⟩,λc=>by simp at c;omega⟩
def WW:AL (Unit):=.nil
def U2 (xs:List Int) (nl:Bool) (d:Unit):Prop:=xs.length<=12
def Wn (xs:List Int) (nl:Bool) (d:Unit):SV:=.tup []
def XI (xs:List Int) (nl:Bool) (d:Unit):List Int:=(Th Yk xs 0 xs.length)
def JW:XSp:=Eo Vy (Iv 3 (.i .i64) WW U2 Wn XI)
def Zx (xs:List Int) (nl:Bool) :Prop:=∀ vals:List Value,
 (InK .u64 (lI xs))/\(0<=(lI xs)/\(lI xs)<=255)/\((0:Int)=0/\(lI xs)=xs.length/\xs.length<=12)/\(vals=vals/\(True/\(([]:List SV)=[]))/\((([]:List SV)=[]))/\((Th Yk xs 0 xs.length)=(Th Yk xs 0 xs.length)/\nl=nl))
def WO:Cx:=⟨[],[(141,Ki)],11,[],0,[(147,Zr)],[],[],[],false,[],[],[],[]⟩
def WN (xs:List Int) (nl:Bool)  (vals:List Value):List (Nat×LoopAnn):=[]
theorem UN (xs:List Int) (nl:Bool) (d:Unit):(∀ vals,gwp WO (WN xs nl  vals) Z0k 0 (Fb vals [] (Wn xs nl d) (.lst 3 (.i .i64) (XI xs nl d) nl) (.lst 0)) (Nf 11 (.lst 0) (.lst 3 (.i .i64) xs nl) vals (AL.can WW d)))=Zx xs nl :=by kernel_rfl
abbrev Na:Prop:=XOk Tryz.prog 120 JW
theorem UL (h:∀ (xs:List Int) (nl:Bool) ,(xs.length<=12)->Zx xs nl ):XOk Tryz.prog 120 JW :=
 Rs I1 mixed Xp (C:=WO) ⟨(.cons BJ .nil),(XsOk.cons Yu XsOk.nil),ItsOk.nil,YlOk.nil,IysOk.nil,XfOk.nil⟩ (L:=λxs nl (d:Unit) vals=>WN xs nl  vals) (V:=λxs nl (d:Unit)=>Zx xs nl ) UN λxs nl d hp=>h xs nl  hp
theorem U1:Na:=UL λxs nl h=>by unfold Zx;(try delta lI gD sT I64 Xz pj8 pj4);intro vals;refine⟨by simp only[Pw];omega,⟨by omega,by omega⟩,⟨rfl,rfl,h⟩,?_⟩;exact(by and_intros<;>first|rfl|trivial|simp)
end Go.Proofs.Tryz
namespace Go.Proofs.Tryz
open Go Go.V Go.Proofs
theorem Cp (a b:Int):Hm a b=max a b:=by unfold Hm;split<;>omega
section
variable (nm:Nat->Int) (wo:Nat->Bool) (n:Nat)
def arP (a i:Nat):Nat:=(a+i) % n
def ChR (a:Nat):List Nat->Prop
 |[]=>False
 |[o]=>o=0
 |j::i::t=>i<j/\j<n/\wo (arP n a j)=false/\nm (arP n a i)<nm (arP n a j)/\ChR a (i::t)
def inR (at_:Nat) (r:List Int) (m:Nat):List Int:=(List.range m).foldl (λr b=>if 0<r.getD b 0/\wo at_=false/\nm b<nm at_ then r.set at_ (Hm (r.getD at_ 0) (r.getD b 0+1)) else r) r
def N7 (a:Nat):Nat->List Int
 |0=>(List.replicate n 0).set a 1
 |k+1=>inR nm wo (arP n a k) (N7 a k) n
def PT (a:Nat):Nat->Int
 |0=>0
 |k+1=>Hm (PT a k) ((N7 nm wo n a (k+1)).getD (arP n a k) 0)
def Xc:Nat->Int
 |0=>0
 |k+1=>if wo k=true then Xc k else Hm (Xc k) (PT nm wo n k n)
end
section
variable {nm:Nat->Int}{wo:Nat->Bool}{n:Nat}
theorem Bs (hn:0<n) (a i:Nat):arP n a i<n:=xX _ hn
theorem Ri {a i j:Nat}(ha:a<n) (hi:i<n) (hj:j<n) (h:arP n a i=arP n a j):i=j:=by
 unfold arP at h;have e:∀ k,k<n->(a+k) % n=if a+k<n then a+k else a+k-n:=λk hk=>by
  split
  .exact xq (by assumption)
  .rw[Nat.mod_eq_sub_mod (by omega),xq (by omega)]
 rw[e i hi,e j hj] at h;split at h<;>split at h<;>omega
theorem RL {a:Nat}(ha:a<n):arP n a 0=a:=xq ha
theorem Q10 {a p:Nat}(ha:a<n) (hp:p<n):∃ i,i<n/\arP n a i=p:=by
 by_cases h:a<=p
 .exact⟨p-a,by omega,by unfold arP;rw[show a+(p-a)=p by omega,xq hp]⟩
 .exact⟨p+n-a,by omega,by unfold arP;rw[show a+(p+n-a)=p+n by omega,Nat.add_mod_right,xq hp]⟩
theorem An {at_:Nat}{r:List Int}{m:Nat}:inR nm wo at_ r (m+1)=if 0<(inR nm wo at_ r m).getD m 0/\wo at_=false/\nm m<nm at_ then (inR nm wo at_ r m).set at_ (Hm ((inR nm wo at_ r m).getD at_ 0) ((inR nm wo at_ r m).getD m 0+1)) else inR nm wo at_ r m:=by unfold inR;rw[List.range_succ,List.foldl_append];rfl
theorem HI {r:List Int}{i j:Nat}{v:Int}(hi:i<r.length):(r.set i v).getD j 0=if i=j then v else r.getD j 0:=by
 rw[z4,xu];by_cases h:i=j
 .subst h;rw[z0 rfl,z0 rfl,z0 hi];rfl
 .rw[z1 h,z1 h,z4]
theorem Hc {at_:Nat}{r:List Int}(dJ:at_<r.length):∀ m,m<=r.length->(inR nm wo at_ r m).length=r.length/\(∀ p,p≠at_->(inR nm wo at_ r m).getD p 0=r.getD p 0)/\r.getD at_ 0<=(inR nm wo at_ r m).getD at_ 0 /\
  (∀ b,b<m->0<r.getD b 0->wo at_=false->nm b<nm at_->r.getD b 0+1<=(inR nm wo at_ r m).getD at_ 0) /\
  ((inR nm wo at_ r m).getD at_ 0=r.getD at_ 0\/∃ b,b<m/\0<r.getD b 0/\wo at_=false/\nm b<nm at_/\(inR nm wo at_ r m).getD at_ 0=r.getD b 0+1)
 |0,_=>⟨rfl,λ_ _=>rfl,Int.le_refl _,λb hb=>by omega,.inl rfl⟩
 |m+1,hm=>by
  obtain⟨h1,h2,h3,h4,h5⟩:=Hc dJ m (by omega);rw[An];by_cases hc:0<(inR nm wo at_ r m).getD m 0/\wo at_=false/\nm m<nm at_
  .rw[z0 hc];have fz:m≠at_:=λe=>by rw[e] at hc;omega
   have hb:=h2 m fz;have eg:=Cp ((inR nm wo at_ r m).getD at_ 0) ((inR nm wo at_ r m).getD m 0+1);have aW:∀ p,((inR nm wo at_ r m).set at_ (Hm ((inR nm wo at_ r m).getD at_ 0) ((inR nm wo at_ r m).getD m 0+1))).getD p 0=if at_=p then Hm ((inR nm wo at_ r m).getD at_ 0) ((inR nm wo at_ r m).getD m 0+1) else (inR nm wo at_ r m).getD p 0:=λp=>HI (by rw[h1];exact dJ)
   refine⟨by rw[xx];exact h1,λp hp=>?_,?_,λb bm bE iX iM=>?_,?_⟩
   .rw[aW,z1 (Ne.symm hp)];exact h2 p hp
   .rw[aW,z0 rfl];omega
   .rw[aW,z0 rfl];by_cases e:b=m
    .subst e;omega
    .have:=h4 b (by omega) bE iX iM;omega
   .rw[aW,z0 rfl];by_cases e:(inR nm wo at_ r m).getD at_ 0<=(inR nm wo at_ r m).getD m 0+1
    .exact .inr ⟨m,by omega,by omega,hc.2.1,hc.2.2,by omega⟩
    .rcases h5 with h5|⟨b,g1,g2,g3,g4,g5⟩
     .exact .inl (by omega)
     .exact .inr ⟨b,by omega,g2,g3,g4,by omega⟩
  .rw[z1 hc];refine⟨h1,h2,h3,λb bm bE iX iM=>?_,?_⟩
   .by_cases e:b=m
    .subst e;have fz:b≠at_:=λe=>by rw[e] at iM;omega
     exact(hc ⟨by rw[h2 b fz];exact bE,iX,iM⟩).elim
    .exact h4 b (by omega) bE iX iM
   .rcases h5 with h5|⟨b,g1,g2⟩
    .exact .inl h5
    .exact .inr ⟨b,by omega,g2⟩
theorem Q1o {a:Nat}(hn:0<n):∀ {j:Nat}{t:List Nat},ChR nm wo n a (j::t)->j<n
 |j,[],h=>by have:j=0:=h;omega
 |j,i::t,h=>h.2.1
theorem SL {a:Nat}(ha:a<n):∀ k,k<=n->(N7 nm wo n a k).length=n/\(∀ j,j<n->0<=(N7 nm wo n a k).getD (arP n a j) 0/\(0<(N7 nm wo n a k).getD (arP n a j) 0->(j<k\/j=0)/\∃ t,ChR nm wo n a (j::t)/\((j::t).length:Int)=(N7 nm wo n a k).getD (arP n a j) 0)) /\
  (∀ j t,(j<k\/j=0)->ChR nm wo n a (j::t)->((j::t).length:Int)<=(N7 nm wo n a k).getD (arP n a j) 0)
 |0,_=>by
  have hn:0<n:=by omega
  have hl:(List.replicate n (0:Int)).length=n:=xL;have hz:∀ p,(List.replicate n (0:Int)).getD p 0=0:=λp=>by
   rw[z4];cases h:(List.replicate n (0:Int))[p]? with
   |none=>rfl
   |some x=>exact(List.mem_replicate.1 (zE h)).2
  have hg:∀ j,(N7 nm wo n a 0).getD j 0=if a=j then 1 else 0:=λj=>by show ((List.replicate n (0:Int)).set a 1).getD j 0=_;rw[HI (by rw[hl];exact ha),hz]
  refine⟨by show ((List.replicate n (0:Int)).set a 1).length=n;rw[xx,hl],λj hj=>?_,λj t hj hc=>?_⟩
  .rw[hg];refine⟨by split<;>omega,λh=>?_⟩;have e:a=arP n a j:=by
    by_cases e:a=arP n a j
    .exact e
    .rw[z1 e] at h;omega
   have fI:j=0:=Ri ha hj hn (by rw[RL ha];exact e.symm);subst fI;exact⟨.inr rfl,[],rfl,by rw[z0 e];rfl⟩
  .have fI:j=0:=by omega
   subst fI;rw[hg,RL ha,z0 rfl];cases t with
   |nil=>simp
   |cons i t=>have:i<0:=hc.1;omega
 |k+1,hk=>by
  have hn:0<n:=by omega
  obtain⟨h1,h2,h3⟩:=SL ha k (by omega);have dJ:arP n a k<(N7 nm wo n a k).length:=by rw[h1];exact Bs hn a k
  obtain⟨g1,g2,g3,g4,g5⟩:=Hc (nm:=nm) (wo:=wo) dJ n (by omega);have e:N7 nm wo n a (k+1)=inR nm wo (arP n a k) (N7 nm wo n a k) n:=rfl;rw[e];have a_:∀ j,j<n->j≠k->(inR nm wo (arP n a k) (N7 nm wo n a k) n).getD (arP n a j) 0=(N7 nm wo n a k).getD (arP n a j) 0:=λj hj av=>g2 _ λe=>av (Ri ha hj (by omega) e);refine⟨g1.trans h1,λj hj=>?_,λj t hj hc=>?_⟩
  .by_cases cW:j=k
   .subst cW;have hb:=(h2 j hj).1;refine⟨by omega,λhp=>⟨.inl (by omega),?_⟩⟩;rcases g5 with g5|⟨b,b1,b2,b3,b4,b5⟩
    .rw[g5] at hp |-;obtain⟨_,t,q1,q2⟩:=(h2 j hj).2 hp;exact⟨t,q1,q2⟩
    .obtain⟨i,hi,rfl⟩:=Q10 ha b1;obtain⟨oT,t,q1,q2⟩:=(h2 i hi).2 b2;have bY:i<j:=by
      rcases oT with oT|oT
      .exact oT
      .subst oT;rcases Nat.eq_zero_or_pos j with e0|e0
       .subst e0;omega
       .exact e0
     refine⟨i::t,⟨bY,hj,b3,b4,q1⟩,?_⟩;rw[b5,<-q2];simp
   .rw[a_ j hj cW];refine⟨(h2 j hj).1,λhp=>?_⟩;obtain⟨q0,q⟩:=(h2 j hj).2 hp;exact⟨by omega,q⟩
  .have aN:=Q1o hn hc;by_cases cW:j=k
   .subst cW;cases t with
    |nil =>have fI:j=0:=hc;have:=h3 j [] (.inr fI) hc;omega
    |cons i t =>
     obtain⟨c1,c2,c3,c4,c5⟩:=hc;have hi:=h3 i t (.inl c1) c5;have br:0<(N7 nm wo n a j).getD (arP n a i) 0:=by simp only[zP] at hi;omega
     have:=g4 (arP n a i) (Bs hn a i) br c3 c4;simp only[zP] at hi |-;omega
   .rw[a_ j aN cW];exact h3 j t (by omega) hc
theorem Lg {a:Nat}(ha:a<n):∀ k,k<=n->0<=PT nm wo n a k/\(∀ j t,j<k->ChR nm wo n a (j::t)->((j::t).length:Int)<=PT nm wo n a k)/\(PT nm wo n a k=0\/∃ j t,j<k/\ChR nm wo n a (j::t)/\((j::t).length:Int)=PT nm wo n a k)
 |0,_=>⟨Int.le_refl _,λj t h=>by omega,.inl rfl⟩
 |k+1,hk=>by
  obtain⟨h1,h2,h3⟩:=Lg ha k (by omega);obtain⟨_,r2,r3⟩:=SL (nm:=nm) (wo:=wo) ha (k+1) hk;have e:PT nm wo n a (k+1)=Hm (PT nm wo n a k) ((N7 nm wo n a (k+1)).getD (arP n a k) 0):=rfl;have eg:=Cp (PT nm wo n a k) ((N7 nm wo n a (k+1)).getD (arP n a k) 0);obtain⟨p1,p2⟩:=r2 k (by omega);rw[e];refine⟨by clear p2;omega,λj t hj hc=>?_,?_⟩
  .by_cases cW:j=k
   .subst cW;have:=r3 j t (.inl (by clear p2;omega)) hc;clear p2;omega
   .have:=h2 j t (by clear p2;omega) hc;clear p2;omega
  .by_cases hle:PT nm wo n a k<=(N7 nm wo n a (k+1)).getD (arP n a k) 0
   .by_cases hz:(N7 nm wo n a (k+1)).getD (arP n a k) 0=0
    .exact .inl (by clear p2;omega)
    .obtain⟨_,t,q1,q2⟩:=p2 (by clear p2;omega);exact .inr ⟨k,t,by clear p2;omega,q1,by clear p2;omega⟩
   .rcases h3 with h3|⟨j,t,q1,q2,q3⟩
    .exact .inl (by clear p2;omega)
    .exact .inr ⟨j,t,by clear p2;omega,q2,by clear p2;omega⟩
theorem TE:∀ k,k<=n->0<=Xc nm wo n k/\(∀ a,a<k->wo a=false->∀ j t,ChR nm wo n a (j::t)->((j::t).length:Int)<=Xc nm wo n k)/\(Xc nm wo n k=0\/∃ a,a<k/\wo a=false/\∃ j t,ChR nm wo n a (j::t)/\((j::t).length:Int)=Xc nm wo n k)
 |0,_=>⟨Int.le_refl _,λa h=>by omega,.inl rfl⟩
 |k+1,hk=>by
  obtain⟨h1,h2,h3⟩:=TE k (by omega);obtain⟨m1,m2,m3⟩:=Lg (nm:=nm) (wo:=wo) (show k<n by omega) n (z5 _);simp only[Xc];by_cases hw:wo k=true
  .rw[z0 hw];refine⟨h1,λa ha fg j t hc=>?_,?_⟩
   .by_cases e:a=k
    .subst e;rw[hw] at fg;cases fg
    .exact h2 a (by omega) fg j t hc
   .rcases h3 with h3|⟨a,q1,q2⟩
    .exact .inl h3
    .exact .inr ⟨a,by omega,q2⟩
  .rw[z1 hw];have hw:wo k=false:=by simpa using hw
   have eg:=Cp (Xc nm wo n k) (PT nm wo n k n);refine⟨by omega,λa ha fg j t hc=>?_,?_⟩
   .by_cases e:a=k
    .subst e;have:=m2 j t (Q1o (by omega) hc) hc;omega
    .have:=h2 a (by omega) fg j t hc;omega
   .by_cases hle:Xc nm wo n k<=PT nm wo n k n
    .rcases m3 with m3|⟨j,t,q1,q2,q3⟩
     .exact .inl (by omega)
     .exact .inr ⟨k,by omega,hw,j,t,q2,by omega⟩
    .rcases h3 with h3|⟨a,q1,q2,j,t,q3,q4⟩
     .exact .inl (by omega)
     .exact .inr ⟨a,by omega,q2,j,t,q3,by omega⟩
end
def kpL (kp:Nat->Bool) (n:Nat):List Nat:=(List.range n).filter kp
def OI (l:List Int):Prop:=∃ A B,l=A++B/\(B++A).Pairwise (·<·)
def Tx (n a p:Nat):Nat:=if a<=p then p-a else p+n-a
section
variable {nm:Nat->Int}{wo:Nat->Bool}{n:Nat}
theorem Dj {a p:Nat}(ha:a<n) (hp:p<n):Tx n a p<n/\arP n a (Tx n a p)=p:=by
 unfold Tx arP;split
 .exact⟨by omega,by rw[show a+(p-a)=p by omega,xq hp]⟩
 .exact⟨by omega,by rw[show a+(p+n-a)=p+n by omega,Nat.add_mod_right,xq hp]⟩
theorem U5 {kp:Nat->Bool}{p:Nat}:p∈kpL kp n<->p<n/\kp p=true:=by unfold kpL;rw[zy,zr]
theorem Mm (kp:Nat->Bool) (n:Nat):(kpL kp n).Pairwise (·<·):=List.Pairwise.filter _ List.pairwise_lt_range
theorem Ba {a:Nat}:∀ {L:List Nat},L.Pairwise (·<·)->L=L.filter (λp=>decide (p<a))++L.filter (λp=>!decide (p<a))
 |[],_=>rfl
 |x::t,h=>by
  obtain⟨h1,h2⟩:=xw.1 h;by_cases hx:x<a
  .rw[List.filter_cons_of_pos (by simpa using hx),List.filter_cons_of_neg (by simpa using hx),zY,<-Ba h2]
  .have e:t.filter (λp=>decide (p<a))=[]:=List.filter_eq_nil_iff.2 λy hy=>by have:=h1 y hy;simp;omega
   have e2:t.filter (λp=>!decide (p<a))=t:=List.filter_eq_self.2 λy hy=>by have:=h1 y hy;simp;omega
   rw[List.filter_cons_of_neg (by simpa using hx),List.filter_cons_of_pos (by simpa using hx),e,e2];rfl
theorem Sw {a:Nat}(ha:a<n) (fg:wo a=false):∀ {R:List Nat},ChR nm wo n a R->R≠[]/\R.Pairwise (λx y=>y<x/\nm (arP n a y)<nm (arP n a x))/\∀ o∈R,o<n/\wo (arP n a o)=false
 |[],h=>h.elim
 |[o],h=>by have h0:o=0:=h;subst h0;refine⟨by simp,List.pairwise_singleton _ _,λo ho=>?_⟩;rw[z8.1 ho,RL ha];exact⟨by omega,fg⟩
 |j::i::t,h=>by
  obtain⟨h1,h2,h3,h4,h5⟩:=h;obtain⟨g1,g2,g3⟩:=Sw ha fg h5;refine⟨by simp,List.Pairwise.cons (λy hy=>?_) g2,λo ho=>?_⟩
  .rcases zf.1 hy with rfl|hy
   .exact⟨h1,h4⟩
   .have:=(xw.1 g2).1 y hy;exact⟨by omega,by omega⟩
  .rcases zf.1 ho with rfl|ho
   .exact⟨h2,h3⟩
   .exact g3 o ho
theorem Q36 {a:Nat}:∀ {R:List Nat}(av:R≠[]),R.getLast av=0->R.Pairwise (λx y=>y<x/\nm (arP n a y)<nm (arP n a x))->(∀ o∈R,o<n/\wo (arP n a o)=false)->ChR nm wo n a R
 |[],h,_,_,_=>(h rfl).elim
 |[o],_,h,_,_=>h
 |j::i::t,_,h,hp,ho=>by obtain⟨p1,p2⟩:=xw.1 hp;have h1:=p1 i (ze ..);have h2:=ho j (ze ..);exact⟨h1.1,h2.1,h2.2,h1.2,Q36 (R:=i::t) (by simp) (by rw[List.getLast_cons (by simp)] at h;exact h) p2 λo hm=>ho o (z9 _ hm)⟩
theorem Q52 {R:List Nat}{f:Nat->Int}(h:R.Pairwise (λx y=>y<x/\f y<f x)) {x y:Nat}(hx:x∈R) (hy:y∈R) (ah:x<y):f x<f y:=by
 obtain⟨i,hi,rfl⟩:=List.getElem_of_mem hx;obtain⟨j,hj,rfl⟩:=List.getElem_of_mem hy;have hp:=List.pairwise_iff_getElem.1 h;rcases Nat.lt_trichotomy i j with h1|h1|h1
 .have:=(hp i j hi hj h1).1;omega
 .subst h1;omega
 .exact(hp j i hj hi h1).2
theorem O4 {a:Nat}(ha:a<n) (fg:wo a=false) {R:List Nat}(hc:ChR nm wo n a R):∃ kp:Nat->Bool,(∀ p,kp p=true->p<n/\wo p=false)/\OI ((kpL kp n).map nm)/\(kpL kp n).length=R.length:=by
 obtain⟨h1,h2,h3⟩:=Sw ha fg hc;have aH:∀ p,p∈kpL (λp=>decide (p∈R.map (arP n a))) n<->p∈R.map (arP n a):=λp=>by rw[U5,zi];refine⟨λh=>h.2,λh=>⟨?_,h⟩⟩;obtain⟨o,ho,rfl⟩:=zq.1 h;exact Bs (by omega) a o
 have aX:∀ p,p∈kpL (λp=>decide (p∈R.map (arP n a))) n->Tx n a p∈R/\p=arP n a (Tx n a p):=λp hp=>by obtain⟨o,ho,rfl⟩:=zq.1 ((aH p).1 hp);have ah:arP n a o<n:=Bs (by omega) a o;obtain⟨q1,q2⟩:=Dj ha ah;have:Tx n a (arP n a o)=o:=Ri ha q1 (h3 o ho).1 q2;rw[this];exact⟨ho,rfl⟩
 refine⟨λp=>decide (p∈R.map (arP n a)),λp hp=>?_,?_,?_⟩
 .obtain⟨o,ho,rfl⟩:=zq.1 (zl hp);exact⟨Bs (by omega) a o,(h3 o ho).2⟩
 .have hs:=Mm (λp=>decide (p∈R.map (arP n a))) n;have dh:=Ba (a:=a) hs;have ah:∀ p∈kpL (λp=>decide (p∈R.map (arP n a))) n,p<n:=λp hp=>(U5.1 hp).1;generalize kpL (λp=>decide (p∈R.map (arP n a))) n=L at *
  refine⟨(L.filter λp=>decide (p<a)).map nm,(L.filter λp=>!decide (p<a)).map nm,by rw[<-xB,<-dh],?_⟩;rw[<-xB,xI];have g8:((L.filter λp=>!decide (p<a))++(L.filter λp=>decide (p<a))).Pairwise (λx y=>Tx n a x<Tx n a y):=by
   refine List.pairwise_append.2 ⟨(hs.filter _).imp_of_mem λ{x y} hx hy h=>?_,(hs.filter _).imp_of_mem λ{x y} hx hy h=>?_,λx hx y hy=>?_⟩
   .have q1:=(zy.1 hx).2;have q2:=(zy.1 hy).2;simp at q1 q2;unfold Tx;rw[z0 q1,z0 q2];omega
   .have q1:=(zy.1 hx).2;have q2:=(zy.1 hy).2;simp at q1 q2;unfold Tx;rw[z1 (by omega),z1 (by omega)];omega
   .have q1:=(zy.1 hx).2;have q2:=(zy.1 hy).2;have q3:=ah x (zy.1 hx).1;simp at q1 q2;unfold Tx;rw[z0 q1,z1 (by omega)];omega
  refine g8.imp_of_mem λ{x y} hx hy h=>?_;have mx:x∈L:=by rcases zu.1 hx with h|h<;>exact(zy.1 h).1
  have my:y∈L:=by rcases zu.1 hy with h|h<;>exact(zy.1 h).1
  obtain⟨x1,x2⟩:=aX x mx;obtain⟨y1,y2⟩:=aX y my;have:=Q52 (f:=λo=>nm (arP n a o)) h2 x1 y1 h;rw[<-x2,<-y2] at this;exact this
 .have eA:(R.map (arP n a)).Nodup:=by
   refine xI.2 (h2.imp_of_mem λ{x y} hx hy h e=>?_);have:=Ri ha (h3 x hx).1 (h3 y hy).1 e;omega
  have hp:(kpL (λp=>decide (p∈R.map (arP n a))) n).Perm (R.map (arP n a)):=(xG ((Mm _ n).imp λh=>by omega) eA).2 aH;rw[hp.length_eq,x_]
theorem Fg {kp:Nat->Bool}(hk:∀ p,kp p=true->wo p=false) (av:kpL kp n≠[]) (ho:OI ((kpL kp n).map nm)):∃ a,a<n/\wo a=false/\∃ j t,ChR nm wo n a (j::t)/\(j::t).length=(kpL kp n).length:=by
 have hs:=Mm kp n;have aH:∀ p∈kpL kp n,p<n/\wo p=false:=λp hp=>⟨(U5.1 hp).1,hk p (U5.1 hp).2⟩;generalize kpL kp n=L at *
 obtain⟨A,B,hL,hB,g8⟩:∃ A B:List Nat,L=A++B/\B≠[]/\((B++A).map nm).Pairwise (·<·):=by
  obtain⟨A',B',h1,h2⟩:=ho;obtain⟨A,B,e1,e2,e3⟩:=List.map_eq_append_iff.1 h1;by_cases hB:B=[]
  .subst hB;refine⟨[],A,by simpa using e1,λe=>av (by rw[e1,e];rfl),?_⟩;rw[xC,e2];rw[<-e3] at h2;simpa using h2
  .exact⟨A,B,e1,hB,by rw[xB,e2,e3];exact h2⟩
 cases B with
 |nil=>exact(hB rfl).elim
 |cons a B =>
 have uQ:a∈L:=by rw[hL];simp
 obtain⟨ha,fg⟩:=aH a uQ;rw[hL] at hs;obtain⟨s1,s2,s3⟩:=List.pairwise_append.1 hs;have bw:∀ p∈a::B,a<=p:=λp hp=>by
  rcases zf.1 hp with rfl|hp
  .exact z5 _
  .exact Nat.le_of_lt ((xw.1 s2).1 p hp)
 have ah:∀ p∈A,p<a:=λp hp=>s3 p hp a (ze ..);have hQ:∀ p∈(a::B)++A,p<n/\wo p=false:=λp hp=>aH p (by
  rw[hL];rcases zu.1 hp with h|h
  .exact xl _ h
  .exact xr _ h)
 have aX:(((a::B)++A).map (Tx n a)).Pairwise (λx y=>x<y/\nm (arP n a x)<nm (arP n a y)):=by
  have h1:((a::B)++A).Pairwise (λx y=>Tx n a x<Tx n a y):=by
   refine List.pairwise_append.2 ⟨s2.imp_of_mem λ{x y} hx hy h=>?_,s1.imp_of_mem λ{x y} hx hy h=>?_,λx hx y hy=>?_⟩
   .have:=bw x hx;have:=bw y hy;unfold Tx;rw[z0 (by omega),z0 (by omega)];omega
   .have:=ah x hx;have:=ah y hy;unfold Tx;rw[z1 (by omega),z1 (by omega)];omega
   .have:=bw x hx;have:=ah y hy;have:=(hQ x (xr _ hx)).1;unfold Tx;rw[z0 (by omega),z1 (by omega)];omega
  rw[xI];refine (h1.and (xI.1 g8)).imp_of_mem λ{x y} hx hy h=>⟨h.1,?_⟩;rw[(Dj ha (hQ x hx).1).2,(Dj ha (hQ y hy).1).2];exact h.2
 have dR:ChR nm wo n a (((a::B)++A).map (Tx n a)).reverse:=by
  refine Q36 (by simp) ?_ (List.pairwise_reverse.2 aX) λo ho=>?_
  .rw[List.getLast_reverse];simp[Tx]
  .rw[List.mem_reverse] at ho;obtain⟨p,hp,rfl⟩:=zq.1 ho;obtain⟨q1,q2⟩:=Dj ha (hQ p hp).1;exact⟨q1,by rw[q2];exact(hQ p hp).2⟩
 refine⟨a,ha,fg,?_⟩;have hlen:(((a::B)++A).map (Tx n a)).reverse.length=L.length:=by rw[List.length_reverse,x_,hL,zB,zB,xP]
 cases hr:(((a::B)++A).map (Tx n a)).reverse with
 |nil=>rw[hr] at dR;exact dR.elim
 |cons j t=>exact⟨j,t,by rw[<-hr];exact dR,by rw[<-hr];exact hlen⟩
theorem Hn (nm:Nat->Int) (wo:Nat->Bool) (n:Nat):(∀ kp:Nat->Bool,(∀ p,kp p=true->wo p=false)->OI ((kpL kp n).map nm)->((kpL kp n).length:Int)<=Xc nm wo n n) /\
  ∃ kp:Nat->Bool,(∀ p,kp p=true->p<n/\wo p=false)/\OI ((kpL kp n).map nm)/\((kpL kp n).length:Int)=Xc nm wo n n:=by
 obtain⟨h1,h2,h3⟩:=TE (nm:=nm) (wo:=wo) (n:=n) n (z5 _);refine⟨λkp hk ho=>?_,?_⟩
 .by_cases av:kpL kp n=[]
  .rw[av];exact h1
  .obtain⟨a,ha,fg,j,t,hc,hl⟩:=Fg hk av ho;rw[<-hl];exact h2 a ha fg j t hc
 .rcases h3 with h3|⟨a,ha,fg,j,t,hc,hl⟩
  .have e:kpL (λ_=>false) n=[]:=by unfold kpL;simp
   exact⟨λ_=>false,(λp hp=>by cases hp),(by rw[e];exact⟨[],[],rfl,.nil⟩),(by rw[e,h3];rfl)⟩
  .obtain⟨kp,k1,k2,k3⟩:=O4 ha fg hc;exact⟨kp,k1,k2,by rw[k3,hl]⟩
end
def woL (l:List Int) (p:Nat):Bool:=decide ((p:Int)∈l)
section
variable (nm:Nat->Int) (n:Nat)
def YM:Int:=Xc nm (λ_=>false) n n
def mvK:Nat->List Int
 |0=>[]
 |k+1=>if ((mvK k).length:Int)+YM nm n=n then mvK k else if Xc nm (woL (mvK k++[(k:Int)])) n n<YM nm n then mvK k else mvK k++[(k:Int)]
end
section
variable {nm:Nat->Int}{n:Nat}
theorem TM:∀ {l m:List Int},l.Nodup->(∀ x∈l,x∈m)->l.length<=m.length
 |[],_,_,_=>Nat.zero_le _
 |x::l,m,hn,hs=>by have hn:=zU.1 hn;have hx:=hs x (ze ..);have:=TM (l:=l) (m:=m.erase x) hn.2 λy hy=>(List.mem_erase_of_ne (by rintro rfl;exact hn.1 hy)).2 (hs y (z9 _ hy));rw[List.length_erase_of_mem hx] at this;have:0<m.length:=List.length_pos_of_mem hx;simp only[zP];omega
def Q6q (nm:Nat->Int) (n:Nat) (kp:Nat->Bool):Prop:=OI ((kpL kp n).map nm)/\((kpL kp n).length:Int)=YM nm n
theorem Py {kp:Nat->Bool}(h:OI ((kpL kp n).map nm)):((kpL kp n).length:Int)<=YM nm n:=(Hn nm (λ_=>false) n).1 kp (λ_ _=>rfl) h
theorem VG (kp:Nat->Bool):∀ n,(kpL kp n).length+(kpL (λp=>!kp p) n).length=n
 |0=>rfl
 |n+1=>by have ih:=VG kp n;unfold kpL at ih |-;rw[List.range_succ,List.filter_append,List.filter_append,zB,zB];cases h:kp n<;>simp[h]<;>omega
theorem CF:∀ k,k<=n->(mvK nm n k).Pairwise (·<·)/\(∀ i∈mvK nm n k,0<=i/\i<(k:Int))/\(∃ kp,Q6q nm n kp/\∀ p,kp p=true->woL (mvK nm n k) p=false) /\
  (∀ kp,Q6q nm n kp->∀ p,p<k->(∀ q,q<p->kp q=!woL (mvK nm n k) q)->kp p=false->(p:Int)∈mvK nm n k)
 |0,_=>by refine⟨.nil,(λi hi=>by cases hi),?_,λkp _ p hp=>by omega⟩;obtain⟨kp,k1,k2,k3⟩:=(Hn nm (λ_=>false) n).2;exact⟨kp,⟨k2,k3⟩,λp _=>by simp[mvK,woL]⟩
 |k+1,hk=>by
  obtain⟨h1,h2,⟨sw,h3,h4⟩,h5⟩:=CF k (by omega);have hex:∀ i∈mvK nm n k,0<=i/\i<((k+1:Nat):Int):=λi hi=>by have:=h2 i hi;omega
  simp only[mvK];by_cases c1:((mvK nm n k).length:Int)+YM nm n=n
  .rw[z0 c1];refine⟨h1,hex,⟨sw,h3,h4⟩,λkp ho p hp ha hf=>?_⟩;by_cases oU:p=k
   .subst oU;exfalso;have hc:=VG kp n;have hlen:((kpL (λp=>!kp p) n).length:Int)=(mvK nm n p).length:=by have:=ho.2;omega
    have eU:((p:Int)::mvK nm n p).length<=((kpL (λq=>!kp q) n).map λ(q:Nat)=>(q:Int)).length:=by
     have eA:((p:Int)::mvK nm n p).Nodup:=zU.2 ⟨λhm=>by have:=h2 _ hm;omega,h1.imp λh=>by omega⟩;refine TM eA λx hx=>?_;rcases zf.1 hx with rfl|hx
     .exact zq.2 ⟨p,U5.2 ⟨by omega,by rw[hf];rfl⟩,rfl⟩
     .have hb:=h2 x hx;refine zq.2 ⟨x.toNat,U5.2 ⟨by omega,?_⟩,by omega⟩;rw[ha x.toNat (by omega)];unfold woL;rw[show ((x.toNat:Nat):Int)=x by omega,xA hx];rfl
    rw[x_,zP] at eU;omega
   .exact h5 kp ho p (by omega) ha hf
  .rw[z1 c1];obtain⟨s1,uR,s2,s3,s4⟩:=Hn nm (woL (mvK nm n k++[(k:Int)])) n;have sx:∀ q:Nat,woL (mvK nm n k++[(k:Int)]) q=(woL (mvK nm n k) q||decide (q=k)):=λq=>by
    unfold woL;simp only[zu,z8];rw[Bool.eq_iff_iff];simp only[zp,zi];constructor
    .rintro (h|h)
     .exact .inl h
     .exact .inr (by omega)
    .rintro (h|h)
     .exact .inl h
     .exact .inr (by omega)
   by_cases c2:Xc nm (woL (mvK nm n k++[(k:Int)])) n n<YM nm n
   .rw[z0 c2];refine⟨h1,hex,⟨sw,h3,h4⟩,λkp ho p hp ha hf=>?_⟩;by_cases oU:p=k
    .subst oU;exfalso;have:=s1 kp (λq hq=>by
      rw[sx];by_cases uS:q<p
      .have:=ha q uS;rw[hq] at this;have h9:woL (mvK nm n p) q=false:=by cases h:woL (mvK nm n p) q<;>simp[h] at this<;>rfl
       rw[h9,xO (by omega)];rfl
      .have av:q≠p:=λe=>by rw[e,hf] at hq;cases hq
       have h9:woL (mvK nm n p) q=false:=xO λhm=>by have:=h2 _ hm;omega
       rw[h9,xO av];rfl) ho.1
     have:=ho.2;omega
    .exact h5 kp ho p (by omega) ha hf
   .rw[z1 c2];refine⟨List.pairwise_append.2 ⟨h1,List.pairwise_singleton _ _,λx hx y hy=>by rw[z8.1 hy];have:=h2 x hx;omega⟩,λi hi=>?_,⟨uR,⟨s3,?_⟩,λp hp=>(s2 p hp).2⟩,λkp ho p hp ha hf=>?_⟩
    .rcases zu.1 hi with hi|hi
     .exact hex i hi
     .rw[z8.1 hi];omega
    .have:=Py (nm:=nm) (n:=n) s3;omega
    .by_cases oU:p=k
     .subst oU;exact xl _ (z8.2 rfl)
     .refine xr _ (h5 kp ho p (by omega) (λq hq=>?_) hf);rw[ha q hq,sx,xO (by omega),xU]
theorem X5:(mvK nm n n).Pairwise (·<·)/\(∀ i∈mvK nm n n,0<=i/\i<(n:Int))/\Q6q nm n (λp=>!woL (mvK nm n n) p)/\((mvK nm n n).length:Int)+YM nm n=n /\
  (∀ kp,Q6q nm n kp->∀ p,p<n->(∀ q,q<p->kp q=!woL (mvK nm n n) q)->kp p=false->(p:Int)∈mvK nm n n):=by
 obtain⟨h1,h2,⟨kp,h3,h4⟩,h5⟩:=CF (nm:=nm) (n:=n) n (z5 _);have heq:∀ p,p<n->kp p=!woL (mvK nm n n) p:=by
  intro p;induction p using Nat.strongRecOn with
  |ind p ih =>
   intro hp;cases hk:kp p with
   |true=>rw[h4 p hk];rfl
   |false =>have:=h5 kp h3 p hp (λq hq=>ih q hq (by omega)) hk;have h9:woL (mvK nm n n) p=true:=xA this;rw[h9];rfl
 have hL:kpL kp n=kpL (λp=>!woL (mvK nm n n) p) n:=List.filter_congr λp hp=>heq p (zr.1 hp);have hO:Q6q nm n (λp=>!woL (mvK nm n n) p):=by unfold Q6q at h3 |-;rw[<-hL];exact h3
 refine⟨h1,h2,hO,?_,h5⟩;have hc:=VG (λp=>!woL (mvK nm n n) p) n;have hlen:(kpL (λp=>!!woL (mvK nm n n) p) n).length=(mvK nm n n).length:=by
  have hp:((kpL (λp=>!!woL (mvK nm n n) p) n).map λ(q:Nat)=>(q:Int)).Perm (mvK nm n n):=by
   refine (xG (xI.2 ((Mm _ n).imp λh=>by omega)) (h1.imp λh=>by omega)).2 λx=>?_;rw[zq];constructor
   .rintro⟨q,hq,rfl⟩;have:=(U5.1 hq).2;rw[Bool.not_not] at this;exact zl this
   .intro hx;have hb:=h2 x hx;refine⟨x.toNat,U5.2 ⟨by omega,?_⟩,by omega⟩;rw[Bool.not_not];unfold woL;rw[show ((x.toNat:Nat):Int)=x by omega,xA hx]
  rw[<-hp.length_eq,x_]
 have:=hO.2;omega
end
def SG:List Int->Nat
 |x::y::t=>(if y<x then 1 else 0)+SG (y::t)
 |_=>0
def Z33 (l:List Int):Nat:=SG l+if l.headD 0<l.getLastD 0 then 1 else 0
theorem Uc:∀ {l:List Int},l.Nodup->(SG l=0<->l.Pairwise (·<·))
 |[],_=>⟨λ_=>.nil,λ_=>rfl⟩
 |[x],_=>⟨λ_=>List.pairwise_singleton _ _,λ_=>rfl⟩
 |x::y::t,h=>by
  obtain⟨h1,h2⟩:=zU.1 h;have ih:=Uc h2;simp only[SG];constructor
  .intro e;have ah:x<y:=by
    have av:x≠y:=λe=>h1 (by rw[e];exact ze ..);by_cases hc:y<x
    .rw[z0 hc] at e;omega
    .omega
   have hp:=ih.1 (by omega);refine List.Pairwise.cons (λz hz=>?_) hp;rcases zf.1 hz with rfl|hz
   .exact ah
   .have:=(xw.1 hp).1 z hz;omega
  .intro hp;obtain⟨p1,p2⟩:=xw.1 hp;have:=p1 y (ze ..);rw[ih.2 p2,z1 (by omega)]
theorem Lf:∀ {l:List Int},l.Nodup->SG l=1->∃ A B,l=A++B/\A≠[]/\B≠[]/\A.Pairwise (·<·)/\B.Pairwise (·<·)
 |[],_,h=>by cases h
 |[x],_,h=>by cases h
 |x::y::t,hn,h=>by
  obtain⟨h1,h2⟩:=zU.1 hn;simp only[SG] at h;by_cases hc:y<x
  .rw[z0 hc] at h;exact⟨[x],y::t,rfl,by simp,by simp,List.pairwise_singleton _ _,(Uc h2).1 (by omega)⟩
  .rw[z1 hc,zV] at h;obtain⟨A,B,e,a1,b1,a2,b2⟩:=Lf h2 h;refine⟨x::A,B,by rw[e];rfl,by simp,b1,?_,b2⟩;cases A with
   |nil=>exact(a1 rfl).elim
   |cons z A =>
    obtain rfl:y=z:=(zN e).1;have av:x≠y:=λe=>h1 (by rw[e];exact ze ..);refine List.Pairwise.cons (λw hw=>?_) a2;rcases zf.1 hw with rfl|hw
    .omega
    .have:=(xw.1 a2).1 w hw;omega
theorem DY:∀ {A B:List Int},A≠[]->B≠[]->SG (A++B)=SG A+(if B.headD 0<A.getLastD 0 then 1 else 0)+SG B
 |[],_,h,_=>(h rfl).elim
 |[x],B,_,hB=>by
  cases B with
  |nil=>exact(hB rfl).elim
  |cons y t=>simp[SG]
 |x::y::t,B,_,hB=>by
  have ih:=DY (A:=y::t) (B:=B) (by simp) hB;rw[zY,zY];simp only[SG];rw[<-zY,ih];have:(x::y::t).getLastD 0=(y::t).getLastD 0:=by simp[]
  rw[this];omega
theorem Ia {l:List Int}(hn:l.Nodup):OI l<->Z33 l<=1:=by
 unfold Z33;have cJ:∀ {B:List Int},B≠[]->B.getLastD 0∈B:=λ{B} h=>by rw[xn,List.getLast?_eq_some_getLast h];exact List.getLast_mem h
 have kU:∀ {B:List Int},B≠[]->B.headD 0∈B:=λ{B} h=>by
  cases B with
  |nil=>exact(h rfl).elim
  |cons x t=>exact ze ..
 constructor
 .rintro⟨A,B,rfl,h⟩;obtain⟨h1,h2,h3⟩:=List.pairwise_append.1 h;by_cases hA:A=[]
  .subst hA;have:=(Uc hn).2 (by simpa using h1);rw[this];split<;>omega
  .by_cases hB:B=[]
   .subst hB;have:=(Uc hn).2 (by simpa using h2);rw[this];split<;>omega
   .obtain⟨n1,n2,_⟩:=List.nodup_append.1 hn;rw[DY hA hB,(Uc n1).2 h2,(Uc n2).2 h1];have hh:(A++B).headD 0=A.headD 0:=by cases A with|nil=>exact(hA rfl).elim|cons x t=>rfl
    have hl:(A++B).getLastD 0=B.getLastD 0:=by rw[xn,xn,List.getLast?_append];rw[List.getLast?_eq_some_getLast hB];rfl
    have:=h3 (B.getLastD 0) (cJ hB) (A.headD 0) (kU hA);rw[hh,hl,z1 (show ¬ A.headD 0<B.getLastD 0 by omega)];split<;>omega
 .intro h;by_cases h0:SG l=0
  .exact⟨[],l,rfl,by simpa using (Uc hn).1 h0⟩
  .have h1:SG l=1:=by split at h<;>omega
   obtain⟨A,B,e,a1,b1,a2,b2⟩:=Lf hn h1;subst e;have hh:(A++B).headD 0=A.headD 0:=by cases A with|nil=>exact(a1 rfl).elim|cons x t=>rfl
   have hl:(A++B).getLastD 0=B.getLastD 0:=by rw[xn,xn,List.getLast?_append];rw[List.getLast?_eq_some_getLast b1];rfl
   rw[h1,hh,hl] at h;have ke:¬ A.headD 0<B.getLastD 0:=λhc=>by rw[z0 hc] at h;omega
   obtain⟨_,_,n3⟩:=List.nodup_append.1 hn;have av:=n3 (A.headD 0) (kU a1) (B.getLastD 0) (cJ b1);refine⟨A,B,rfl,List.pairwise_append.2 ⟨b2,a2,λx hx y hy=>?_⟩⟩;have rQ:x<=B.getLastD 0:=by
    rw[xn,List.getLast?_eq_some_getLast b1];have hs:B=B.dropLast++[B.getLast b1]:=(List.dropLast_concat_getLast b1).symm;rw[hs] at hx b2;rcases zu.1 hx with hx|hx
    .have:=(List.pairwise_append.1 b2).2.2 x hx _ (z8.2 rfl);show x<=B.getLast b1;omega
    .rw[z8.1 hx];exact Int.le_refl _
   have vG:A.headD 0<=y:=by
    cases A with
    |nil=>cases hy
    |cons z t =>
     rcases zf.1 hy with rfl|hy
     .exact Int.le_refl _
     .have:=(xw.1 a2).1 y hy;show z<=y;omega
   omega
def ZT (l:List Int) (i:Int):Int:=if l.length=0 then 0 else l.getD (Int.tmod i l.length).toNat 0
theorem A8 {l:List Int}{i:Int}(h:∀ x∈l,0<=x/\x<=255) (hi:0<=i):0<=ZT l i/\ZT l i<=255:=by
 unfold ZT;split
 .omega
 .rename_i hz;have e:=Int.tmod_eq_emod_of_nonneg (b:=(l.length:Int)) hi;have g1:=Int.emod_nonneg i (show (l.length:Int)≠0 by omega);have g2:=Int.emod_lt_of_pos i (show (0:Int)<l.length by omega);have g3:(Int.tmod i l.length).toNat<l.length:=by omega
  rw[Qg g3];exact h _ (zn g3)
theorem A_ {α:Type}{l:List α}{i k:Nat}{d:α}(hi:i<l.length) (hk:k<l.length):((l.set i (l.getD k d)).set k (l.getD i d)).Perm l:=by
 rw[Qg hi,Qg hk];by_cases h:i=k
 .subst h;simp
 .exact List.set_set_perm hi hk
theorem XW (a:Int) (b:Bool) (m:List (Int×Bool)) (e:Int) (d:Bool):gq.aget (.i .i64) ((a,b)::m) e d=if e=a then b else gq.aget (.i .i64) m e d:=by show (if (e==a)=true then b else gq.aget (.i .i64) m e d)=_;simp only[zS]
theorem Mc (a:Int) (b:Bool) (m:List (Int×Bool)) (k:Int) (v:Bool):UI (.i .i64) ((a,b)::m) k v=if k=a then (k,v)::m else (a,b)::UI (.i .i64) m k v:=by show (if (k==a)=true then (k,v)::m else (a,b)::UI (.i .i64) m k v)=_;simp only[zS]
theorem IJ {F:List Int}{k:Int}(h:k∉F):UI (.i .i64) (F.map λx=>(x,true)) k true=(F++[k]).map λx=>(x,true):=by
 induction F with
 |nil=>rfl
 |cons a F ih =>have h1:k≠a:=λe=>h (by rw[e];exact ze);have h2:k∉F:=λe=>h (z9 _ e);simp only[zF,zY];rw[Mc,z1 h1,ih h2]
theorem FT {F:List Int}{k:Int}:gq.aget (.i .i64) (F.map λx=>(x,true)) k false=decide (k∈F):=by
 induction F with
 |nil=>rfl
 |cons a F ih =>
  simp only[zF];rw[XW,ih];by_cases e:k=a
  .simp[e]
  .simp[e]
def nmC (cs:List VQ) (i:Nat):Int:=(cs.getD i BC).1
def woM (m:List (Int×Bool)) (p:Nat):Bool:=gq.aget (.i .i64) m (p:Int) false
def Jw (hk:Int) (cs:List VQ):Int:=if QQ hk cs≠0 then QQ hk cs else if (-1:Int)∈cs.map (·.1) then 9 else if (cs.map (·.1)).Nodup then 0 else 6
def XR (hk:Int) (cs:List VQ):List Int:=if Jw hk cs=0 then mvK (nmC cs) cs.length cs.length else []
theorem Gn:∀ {m:List (Int×Bool)}{k:Int},(∀ p∈m,p.2=true)->gq.aget (.i .i64) m k false=true->(UI (.i .i64) m k true).length=m.length/\∀ p∈UI (.i .i64) m k true,p.2=true
 |[],k,_,h=>by cases h
 |(a,b)::m,k,ht,h=>by
  rw[XW] at h;rw[Mc];by_cases e:k=a
  .rw[z0 e];exact⟨rfl,λp hp=>by
    rcases zf.1 hp with rfl|hp
    .rfl
    .exact ht p (z9 _ hp)⟩
  .rw[z1 e] at h |-;obtain⟨h1,h2⟩:=Gn (m:=m) (k:=k) (λp hp=>ht p (z9 _ hp)) h;refine⟨by rw[zP,zP,h1],λp hp=>?_⟩;rcases zf.1 hp with rfl|hp
   .exact ht _ (ze ..)
   .exact h2 p hp
theorem Ul:∀ {m:List (Int×Bool)}{k:Int},(∀ p∈m,p.2=true)->gq.aget (.i .i64) m k false=false->(UI (.i .i64) m k true).length=m.length+1/\∀ p∈UI (.i .i64) m k true,p.2=true
 |[],k,_,h=>⟨rfl,λp hp=>by
   have hp:p∈[(k,true)]:=hp;rw[z8.1 hp]⟩
 |(a,b)::m,k,ht,h=>by
  rw[XW] at h;rw[Mc];by_cases e:k=a
  .rw[z0 e] at h;have:=ht (a,b) (ze ..);rw[h] at this;cases this
  .rw[z1 e] at h |-;obtain⟨h1,h2⟩:=Ul (m:=m) (k:=k) (λp hp=>ht p (z9 _ hp)) h;refine⟨by rw[zP,zP,h1],λp hp=>?_⟩;rcases zf.1 hp with rfl|hp
   .exact ht _ (ze ..)
   .exact h2 p hp
theorem LC (k:Int) (v:Bool):∀ (m:List (Int×Bool)) (e:Int),gq.aget (.i .i64) (UI (.i .i64) m k v) e false=if e=k then v else gq.aget (.i .i64) m e false
 |[],e=>by have:UI (.i .i64) ([]:List (Int×Bool)) k v=[(k,v)]:=rfl;rw[this,XW]
 |(a,b)::m,e=>by
  rw[Mc];by_cases h:k=a
  .subst h;rw[z0 rfl,XW,XW];split<;>rfl
  .rw[z1 h,XW,XW,LC k v m e];by_cases h2:e=a
   .rw[z0 h2,z0 h2,z1 (λh3=>h (h3.symm.trans h2))]
   .rw[z1 h2,z1 h2]
structure SeenI (l:List Int) (m:List (Int×Bool)) (k:Nat):Prop where
 get:∀ x,gq.aget (.i .i64) m x false=decide (x∈l.take k)
 tr:∀ p∈m,p.2=true
 le:m.length<=k
 nd:m.length=k<->(l.take k).Nodup
theorem SeenI.nil (l:List Int):SeenI l [] 0:=⟨λx=>by simp[gq.aget],(λp hp=>by cases hp),z5 _,by simp⟩
theorem SeenI.put {l:List Int}{m:List (Int×Bool)}{k:Nat}(h:SeenI l m k) (hk:k<l.length):SeenI l (UI (.i .i64) m (l.getD k 0) true) (k+1):=by
 have et:l.take (k+1)=l.take k++[l.getD k 0]:=by rw[N_ hk,Qg hk]
 have hle:=h.le;refine⟨λx=>?_,?_,?_,?_⟩
 .rw[LC,et];by_cases e:x=l.getD k 0
  .rw[z0 e,xA];rw[e];exact xl _ (z8.2 rfl)
  .rw[z1 e,h.get];refine decide_eq_decide.2 ⟨λhx=>xr _ hx,λhx=>?_⟩;rcases zu.1 hx with hx|hx
   .exact hx
   .exact(e (z8.1 hx)).elim
 .cases c:gq.aget (.i .i64) m (l.getD k 0) false with
  |true=>exact(Gn h.tr c).2
  |false=>exact(Ul h.tr c).2
 .cases c:gq.aget (.i .i64) m (l.getD k 0) false with
  |true=>rw[(Gn h.tr c).1];omega
  |false=>rw[(Ul h.tr c).1];omega
 .rw[et,List.nodup_append];have c1:=h.get (l.getD k 0);cases c:gq.aget (.i .i64) m (l.getD k 0) false with
  |true =>rw[c] at c1;rw[(Gn h.tr c).1];refine⟨λe=>by omega,λe=>?_⟩;exact(e.2.2 _ (zl c1.symm) _ (z8.2 rfl) rfl).elim
  |false =>
   rw[c] at c1;rw[(Ul h.tr c).1];have c2:=zK c1.symm;refine⟨λe=>⟨h.nd.1 (by omega),by simp,λa ha b hb e2=>?_⟩,λe=>?_⟩
   .rw[z8.1 hb] at e2;rw[e2] at ha;exact c2 ha
   .have:=h.nd.2 e.1;omega
theorem SeenI.full {l:List Int}{m:List (Int×Bool)}(h:SeenI l m l.length):gq.aget (.i .i64) m (-1) false=decide ((-1:Int)∈l)/\(decide ((m.length:Int)<(l.length:Int))=decide (¬ l.Nodup)):=by have h1:=h.get (-1);have h2:=h.nd;have h3:=h.le;rw[List.take_length] at h1 h2;refine⟨h1,decide_eq_decide.2 ?_⟩;rw[<-h2];omega
def RD (cs:List VQ):Int:=if (cs.any λc=>decide (c.1<0))=true then 9 else if (cs.map (·.1)).Nodup then 0 else 6
theorem So {hk:Int}{cs:List VQ}(h:QQ hk cs=0):Jw hk cs=RD cs:=by
 have hz:=(No h).2.2.2;unfold Jw RD;rw[z1 (by omega)];have e:((-1:Int)∈cs.map (·.1))<->(cs.any λc=>decide (c.1<0))=true:=by
  rw[xi];constructor
  .intro hm;obtain⟨c,hc,e⟩:=zq.1 hm;exact⟨c,hc,xA (by omega)⟩
  .rintro⟨c,hc,e⟩;have e:=zl e;have h1:=hz c hc;unfold Zh inI at h1;simp only[z2,zi] at h1;exact zq.2 ⟨c,hc,by omega⟩
 by_cases c:(-1:Int)∈cs.map (·.1)
 .rw[z0 c,z0 (e.1 c)]
 .rw[z1 c,z1 (λh=>c (e.2 h))]
theorem Iq (nm:Nat->Int) (wo:Nat->Bool) (n:Nat):0<=Xc nm wo n n/\Xc nm wo n n<=n/\∀ k,k<n->wo k=true->Xc nm wo n n<n:=by
 obtain⟨kp,h1,_,h3⟩:=(Hn nm wo n).2;have hc:=VG kp n;refine⟨by omega,by omega,λk hk hw=>?_⟩;have hf:kp k=false:=by
  cases h:kp k with
  |false=>rfl
  |true=>have:=(h1 k h).2;rw[hw] at this;cases this
 have hm:k∈kpL (λp=>!kp p) n:=U5.2 ⟨hk,by rw[hf];rfl⟩;have:=List.length_pos_of_mem hm;omega
theorem Ff (nm:Nat->Int) (n:Nat):∀ k,(mvK nm n k).length<=k
 |0=>z5 _
 |k+1=>by
  have:=Ff nm n k;unfold mvK;split
  .omega
  .split
   .omega
   .rw[zB];simp;omega
theorem Aw (nm:Nat->Int) (n:Nat):∀ k,∀ x∈mvK nm n k,x<(k:Int)
 |0,x,h=>by cases h
 |k+1,x,h=>by
  unfold mvK at h;split at h
  .have:=Aw nm n k x h;omega
  .split at h
   .have:=Aw nm n k x h;omega
   .rcases zu.1 h with h|h
    .have:=Aw nm n k x h;omega
    .rw[z8.1 h];omega
theorem CE {nm:Nat->Int}{n j:Nat}(h:((mvK nm n j).length:Int)+YM nm n=n):∀ d,mvK nm n (j+d)=mvK nm n j
 |0=>rfl
 |d+1=>by have ih:=CE h d;show (if ((mvK nm n (j+d)).length:Int)+YM nm n=n then mvK nm n (j+d) else _)=_;rw[ih,z0 h]
theorem Q4p (F:List Int):woM (F.map λx=>(x,true))=woL F:=by
 funext p
 unfold woM woL;exact FT
theorem Fp {F:List Int}{k:Int}(h:k∉F):Q1g (.i .i64) ((F++[k]).map λx=>(x,true)) k=F.map λx=>(x,true):=by
 have st:∀ (a:Int) (m:List (Int×Bool)),Q1g (.i .i64) ((a,true)::m) k=if k=a then m else (a,true)::Q1g (.i .i64) m k:=λa m=>by show (if (k==a)=true then m else (a,true)::Q1g (.i .i64) m k)=_;simp only[zS]
 induction F with
 |nil =>rw[xe,zF,st,z0 rfl]
 |cons a F ih =>have h1:k≠a:=λe=>h (by rw[e];exact ze);rw[zY,zF,st,z1 h1,ih λe=>h (z9 _ e)];rfl
theorem LV {nm:Nat->Int}{wo:Nat->Bool}{n a:Nat}(ha:a<n):∀ k,k<=n->(N7 nm wo n a k).length=n/\∀ p,(N7 nm wo n a k).getD p 0<=(k:Int)+1
 |0,_=>by
  refine⟨by simp[N7],λp=>?_⟩;show ((List.replicate n (0:Int)).set a 1).getD p 0<=_;rw[HI (by simpa using ha)];split
  .omega
  .by_cases hp:p<n
   .rw[Qg (by simpa using hp)];simp
   .rw[z4,zj (by simpa using hp)];simp
 |k+1,hk=>by
  obtain⟨h1,h2⟩:=LV ha k (by omega) (nm:=nm) (wo:=wo);have dJ:arP n a k<(N7 nm wo n a k).length:=by rw[h1];exact Bs (by omega) a k
  obtain⟨i1,i2,_,_,i5⟩:=Hc (nm:=nm) (wo:=wo) dJ n (by omega);have e:N7 nm wo n a (k+1)=inR nm wo (arP n a k) (N7 nm wo n a k) n:=rfl;rw[e];refine⟨i1.trans h1,λp=>?_⟩;by_cases hp:p=arP n a k
  .rw[hp];rcases i5 with i5|⟨b,_,_,_,_,i5⟩
   .rw[i5];have:=h2 (arP n a k);omega
   .rw[i5];have:=h2 b;omega
  .rw[i2 p hp];have:=h2 p;omega
theorem Q9t {nm:Nat->Int}{wo:Nat->Bool}{n a k m:Nat}(ha:a<n) (hk:k<n) (hm:m<=n):(inR nm wo (arP n a k) (N7 nm wo n a k) m).length=n/\∀ p,(inR nm wo (arP n a k) (N7 nm wo n a k) m).getD p 0<=(k:Int)+2:=by
 obtain⟨h1,h2⟩:=LV ha k (by omega) (nm:=nm) (wo:=wo);have dJ:arP n a k<(N7 nm wo n a k).length:=by rw[h1];exact Bs (by omega) a k
 obtain⟨i1,i2,_,_,i5⟩:=Hc (nm:=nm) (wo:=wo) dJ m (by omega);refine⟨i1.trans h1,λp=>?_⟩;by_cases hp:p=arP n a k
 .rw[hp];rcases i5 with i5|⟨b,_,_,_,_,i5⟩
  .rw[i5];have:=h2 (arP n a k);omega
  .rw[i5];have:=h2 b;omega
 .rw[i2 p hp];have:=h2 p;omega
theorem OV (kp:Nat->Bool) (k:Nat):kpL kp (k+1)=kpL kp k++if kp k=true then [k] else []:=by unfold kpL;rw[List.range_succ,List.filter_append];congr 1;cases h:kp k<;>simp[h]
def Kn:AL ((Int×(List (Int×Int×Bool))×Int)×Int):=(.cons (.agg (.cons (.k (.i .i64)) (.cons (.k (.list (.pair (.i .i64) (.pair (.i .i64) .bo)))) (.one (.k (.i .i64)))))) (.one (.k (.i .i64))))
def G9 (m:List (Int×Bool)) (a:(Int×(List (Int×Int×Bool))×Int)×Int):Prop:=0<=a.2/\a.2<a.1.2.1.length/\a.1.2.1.length<=1000
def Kl (m:List (Int×Bool)) (a:(Int×(List (Int×Int×Bool))×Int)×Int):SV:=.val (.i .i64) (PT (nmC a.1.2.1) (woM m) a.1.2.1.length a.2.toNat a.1.2.1.length)
def Yy (m:List (Int×Bool)) (a:(Int×(List (Int×Int×Bool))×Int)×Int) (m2:List (Int×Bool)):Prop:=m2=m
def Y3:XSp:=EO Vy 2 (.i .i64) .bo (Q9j Kn G9 Kl Yy)
def JH (m:List (Int×Bool)) (hk:Int) (cs:List (Int×Int×Bool)) (f:Int) (fi:Int):Prop:=∀ vals:List Value,
 (0<=(lI cs))/\((lI cs)<=(lI cs))/\((lI cs)*8<=70368744177664)/\((lI cs)<=70368744177664)/\(0<=fi)/\(fi<(List.length (List.replicate (Int.toNat (lI cs)) (0:Int))))/\∀ w1:List Value,w1=w1/\∀ w2:LpD,∃ (e5:Int×(List (Int×Int×Bool))×Int×Int×Int×Int×(List (Int×Int×Bool))×Int×Int×(List (Int×Bool))×Int×(List (Int×Int×Bool))×Int×(List (Int×Int×Bool))×Int×Int×Int×(List (Int×Int×Bool))×Int×Int×LpD×(List Value)) (d50:Int×Int×(List Int)),((True/\True/\True/\(lI cs)=(pj4 e5).1/\(0:Int)=d50.1/\True)/\((hk=e5.1/\cs=e5.2.1/\f=e5.2.2.1/\(([]:List SV)=[]))/\(fi=e5.2.2.2.1/\(([]:List SV)=[]))/\((pj4 (Xz e5)).1=w2/\((hk=(pj4 e5).2.1/\cs=(pj4 e5).2.2.1/\f=(pj4 e5).2.2.2.1/\(([]:List SV)=[]))/\fi=(pj8 e5).1/\True/\True/\True/\True/\True/\True/\True/\True/\True/\True/\True/\cs=(pj4 (pj8 e5)).2.1/\(lI cs)=(pj4 (pj8 e5)).2.2.1/\True/\True/\fi=(pj4 (pj8 e5)).2.2.2.1/\True/\(hk=(Xz e5).1/\cs=(Xz e5).2.1/\f=(Xz e5).2.2.1/\(([]:List SV)=[]))/\fi=(Xz e5).2.2.2.1/\(((([]:List SV)=[]))/\(True/\True/\(([]:List SV)=[])))/\True/\True/\True/\True/\True/\True/\True/\True/\True/\True/\True/\True/\True/\True/\True/\True/\True/\True/\True/\True/\True/\True/\True/\True/\True/\True/\True/\True/\True/\True/\True/\True/\True/\True/\True/\True/\True/\True/\True/\True/\True/\True/\True/\True/\True/\True/\True/\True/\True/\True/\True/\(([]:List SV)=[])))/\(m=(pj8 e5).2.1)/\(hk=(pj8 e5).2.2.1/\cs=(pj8 e5).2.2.2.1/\f=(pj4 (pj8 e5)).1/\(([]:List SV)=[]))/\(True/\(([]:List SV)=[]))/\((0:Int)=d50.2.1/\(([]:List SV)=[]))/\(True/\(([]:List SV)=[]))/\((sT (List.replicate (Int.toNat (lI cs)) (0:Int)) fi (1:Int))=d50.2.2/\false=false)/\((pj4 (Xz e5)).2=vals/\(True/\(([]:List SV)=[])))/\True)) /\
 LoopP (λ(d5:Int×Int×(List Int)) (q5:(Int×Int×(List Int))->Prop) =>
  ((decide (d5.1<(pj4 e5).1))=true ->
   (e5.2.1≠[]/\e5.2.1.length<=1000/\-1000000<=e5.2.2.2.1/\e5.2.2.2.1<=1000000/\-1000000<=d5.1/\d5.1<=1000000)/\(pj4 (Xz e5)).1=w2/\∀ w6:List Value,∃ (e9:Int×Int×Int×LpD×Int×Int×Bool×Int×Int×Int×(List Value)) (d90:(List Int)×Int),((True/\True/\True/\True/\(Int.tmod (e5.2.2.2.1+d5.1) e5.2.1.length)=e9.2.1/\True/\(lI d5.2.2)=e9.2.2.1/\(0:Int)=d90.2/\True)/\(((pj8 e5).2.2.1=hk/\(pj8 e5).2.2.2.1=cs/\(pj4 (pj8 e5)).1=f/\(([]:List SV)=[]))/\(True/\(([]:List SV)=[]))/\((pj8 e5).2.1=m)/\(d5.2.1=e9.1/\(([]:List SV)=[]))/\(True/\(([]:List SV)=[]))/\(d5.2.2=d90.1/\false=false)/\(e9.2.2.2.1=(pj4 (Xz e5)).1/\(((pj4 e5).2.1=hk/\(pj4 e5).2.2.1=cs/\(pj4 e5).2.2.2.1=f/\(([]:List SV)=[]))/\(pj8 e5).1=fi/\True/\True/\True/\True/\True/\True/\True/\True/\True/\True/\True/\(pj4 (pj8 e5)).2.1=cs/\(pj4 (pj8 e5)).2.2.1=(lI cs)/\True/\True/\(pj4 (pj8 e5)).2.2.2.1=fi/\True/\((Xz e5).1=hk/\(Xz e5).2.1=cs/\(Xz e5).2.2.1=f/\(([]:List SV)=[]))/\(Xz e5).2.2.2.1=fi/\(((([]:List SV)=[]))/\(True/\True/\(([]:List SV)=[])))/\True/\True/\True/\True/\True/\True/\True/\True/\True/\True/\True/\True/\True/\True/\True/\True/\True/\True/\True/\True/\True/\True/\True/\True/\True/\True/\True/\True/\True/\True/\True/\True/\True/\True/\True/\True/\True/\True/\True/\True/\True/\True/\True/\True/\True/\True/\True/\True/\True/\True/\True/\(([]:List SV)=[])))/\(e5.1=hk/\e5.2.1=cs/\e5.2.2.1=f/\(([]:List SV)=[]))/\(e5.2.2.2.1=fi/\(([]:List SV)=[]))/\(vals=(pj4 (Xz e5)).2/\(True/\(([]:List SV)=[])))/\((pj8 e9).2.2=w6/\(True/\True/\True/\True/\d5.1=(pj4 e9).1/\True/\True/\True/\(pj4 e5).1=(lI cs)/\d5.1=(pj4 e9).2.1/\(decide (d5.1<(pj4 e5).1))=(pj4 e9).2.2.1/\d5.1=(pj4 e9).2.2.2.1/\True/\(e5.1=hk/\e5.2.1=cs/\e5.2.2.1=f/\(([]:List SV)=[]))/\e5.2.2.2.1=fi/\d5.1=(pj8 e9).1/\(Int.tmod (e5.2.2.2.1+d5.1) e5.2.1.length)=(pj8 e9).2.1/\True/\True/\True/\(([]:List SV)=[])))/\True)) /\
   LoopP (λ(d9:(List Int)×Int) (q9:((List Int)×Int)->Prop) =>
    ((decide (d9.2<e9.2.2.1))=true ->
     (0<=d9.2)/\(d9.2<(List.length d9.1))/\(((decide ((gD d9.1 d9.2 0) > (0:Int)))&&(!(gq.aget (.i .i64) m e9.2.1 false)))=true->0<=e9.2.1)/\(((decide ((gD d9.1 d9.2 0) > (0:Int)))&&(!(gq.aget (.i .i64) m e9.2.1 false)))=true->e9.2.1<(List.length cs))/\(((decide ((gD d9.1 d9.2 0) > (0:Int)))&&(!(gq.aget (.i .i64) m e9.2.1 false)))=true->0<=d9.2)/\(((decide ((gD d9.1 d9.2 0) > (0:Int)))&&(!(gq.aget (.i .i64) m e9.2.1 false)))=true->d9.2<(List.length cs))/\((((decide ((gD d9.1 d9.2 0) > (0:Int)))&&(!(gq.aget (.i .i64) m e9.2.1 false)))&&(decide ((gD cs e9.2.1 (0,(0,false))).1 > (gD cs d9.2 (0,(0,false))).1)))=true ->
      (0<=e9.2.1)/\(e9.2.1<(List.length d9.1))/\(I64 ((gD d9.1 d9.2 0)+(1:Int)))/\(0<=e9.2.1)/\(e9.2.1<(List.length d9.1))/\(I64 (d9.2+(1:Int)))/\(∃ d10:(List Int)×Int,((True/\True/\True/\True/\e9.2.1=e9.2.1/\True/\e9.2.2.1=e9.2.2.1/\(d9.2+(1:Int))=d10.2/\True)/\((hk=hk/\cs=cs/\f=f/\(([]:List SV)=[]))/\(True/\(([]:List SV)=[]))/\(m=m)/\(e9.1=e9.1/\(([]:List SV)=[]))/\(True/\(([]:List SV)=[]))/\((sT d9.1 e9.2.1 (Hm (gD d9.1 e9.2.1 0) ((gD d9.1 d9.2 0)+(1:Int))))=d10.1/\false=false)/\(e9.2.2.2.1=e9.2.2.2.1/\((hk=hk/\cs=cs/\f=f/\(([]:List SV)=[]))/\fi=fi/\True/\True/\True/\True/\True/\True/\True/\True/\True/\True/\True/\cs=cs/\(lI cs)=(lI cs)/\True/\True/\fi=fi/\True/\(hk=hk/\cs=cs/\f=f/\(([]:List SV)=[]))/\fi=fi/\(((([]:List SV)=[]))/\(True/\True/\(([]:List SV)=[])))/\True/\True/\True/\True/\True/\True/\True/\True/\True/\True/\True/\True/\True/\True/\True/\True/\True/\True/\True/\True/\True/\True/\True/\True/\True/\True/\True/\True/\True/\True/\True/\True/\True/\True/\True/\True/\True/\True/\True/\True/\True/\True/\True/\True/\True/\True/\True/\True/\True/\True/\True/\(([]:List SV)=[])))/\(hk=hk/\cs=cs/\f=f/\(([]:List SV)=[]))/\(fi=fi/\(([]:List SV)=[]))/\(vals=vals/\(True/\(([]:List SV)=[])))/\((pj8 e9).2.2=(pj8 e9).2.2/\(True/\True/\True/\True/\(pj4 e9).1=(pj4 e9).1/\True/\True/\True/\(lI cs)=(lI cs)/\(pj4 e9).2.1=(pj4 e9).2.1/\(pj4 e9).2.2.1=(pj4 e9).2.2.1/\(pj4 e9).2.2.2.1=(pj4 e9).2.2.2.1/\True/\(hk=hk/\cs=cs/\f=f/\(([]:List SV)=[]))/\fi=fi/\(pj8 e9).1=(pj8 e9).1/\(pj8 e9).2.1=(pj8 e9).2.1/\True/\True/\True/\(([]:List SV)=[])))/\True))/\q9 d10)) /\
     ((((decide ((gD d9.1 d9.2 0) > (0:Int)))&&(!(gq.aget (.i .i64) m e9.2.1 false)))&&(decide ((gD cs e9.2.1 (0,(0,false))).1 > (gD cs d9.2 (0,(0,false))).1)))=false ->
      (I64 (d9.2+(1:Int)))/\(∃ d11:(List Int)×Int,((True/\True/\True/\True/\e9.2.1=e9.2.1/\True/\e9.2.2.1=e9.2.2.1/\(d9.2+(1:Int))=d11.2/\True)/\((hk=hk/\cs=cs/\f=f/\(([]:List SV)=[]))/\(True/\(([]:List SV)=[]))/\(m=m)/\(e9.1=e9.1/\(([]:List SV)=[]))/\(True/\(([]:List SV)=[]))/\(d9.1=d11.1/\false=false)/\(e9.2.2.2.1=e9.2.2.2.1/\((hk=hk/\cs=cs/\f=f/\(([]:List SV)=[]))/\fi=fi/\True/\True/\True/\True/\True/\True/\True/\True/\True/\True/\True/\cs=cs/\(lI cs)=(lI cs)/\True/\True/\fi=fi/\True/\(hk=hk/\cs=cs/\f=f/\(([]:List SV)=[]))/\fi=fi/\(((([]:List SV)=[]))/\(True/\True/\(([]:List SV)=[])))/\True/\True/\True/\True/\True/\True/\True/\True/\True/\True/\True/\True/\True/\True/\True/\True/\True/\True/\True/\True/\True/\True/\True/\True/\True/\True/\True/\True/\True/\True/\True/\True/\True/\True/\True/\True/\True/\True/\True/\True/\True/\True/\True/\True/\True/\True/\True/\True/\True/\True/\True/\(([]:List SV)=[])))/\(hk=hk/\cs=cs/\f=f/\(([]:List SV)=[]))/\(fi=fi/\(([]:List SV)=[]))/\(vals=vals/\(True/\(([]:List SV)=[])))/\((pj8 e9).2.2=(pj8 e9).2.2/\(True/\True/\True/\True/\(pj4 e9).1=(pj4 e9).1/\True/\True/\True/\(lI cs)=(lI cs)/\(pj4 e9).2.1=(pj4 e9).2.1/\(pj4 e9).2.2.1=(pj4 e9).2.2.1/\(pj4 e9).2.2.2.1=(pj4 e9).2.2.2.1/\True/\(hk=hk/\cs=cs/\f=f/\(([]:List SV)=[]))/\fi=fi/\(pj8 e9).1=(pj8 e9).1/\(pj8 e9).2.1=(pj8 e9).2.1/\True/\True/\True/\(([]:List SV)=[])))/\True))/\q9 d11))) /\
    ((decide (d9.2<e9.2.2.1))=false ->
     (0<=e9.2.1)/\(e9.2.1<(List.length d9.1))/\(pj8 e9).2.2=w6/\e9.2.2.2.1=w2/\((!true)=true ->
      e9.2.2.2.1=w2/\(vals=vals/\(True/\(([]:List SV)=[]))/\(Hm e9.1 (gD d9.1 e9.2.1 0))=(PT (nmC cs) (woM m) cs.length fi.toNat cs.length)/\(m=m))) /\
     ((!true)=false ->
      (I64 ((pj4 e9).2.1+(1:Int)))/\(∃ d12:Int×Int×(List Int),((True/\True/\True/\(lI cs)=(pj4 e5).1/\((pj4 e9).2.1+(1:Int))=d12.1/\True)/\((hk=e5.1/\cs=e5.2.1/\f=e5.2.2.1/\(([]:List SV)=[]))/\(fi=e5.2.2.2.1/\(([]:List SV)=[]))/\((pj4 (Xz e5)).1=e9.2.2.2.1/\((hk=(pj4 e5).2.1/\cs=(pj4 e5).2.2.1/\f=(pj4 e5).2.2.2.1/\(([]:List SV)=[]))/\fi=(pj8 e5).1/\True/\True/\True/\True/\True/\True/\True/\True/\True/\True/\True/\cs=(pj4 (pj8 e5)).2.1/\(lI cs)=(pj4 (pj8 e5)).2.2.1/\True/\True/\fi=(pj4 (pj8 e5)).2.2.2.1/\True/\(hk=(Xz e5).1/\cs=(Xz e5).2.1/\f=(Xz e5).2.2.1/\(([]:List SV)=[]))/\fi=(Xz e5).2.2.2.1/\(((([]:List SV)=[]))/\(True/\True/\(([]:List SV)=[])))/\True/\True/\True/\True/\True/\True/\True/\True/\True/\True/\True/\True/\True/\True/\True/\True/\True/\True/\True/\True/\True/\True/\True/\True/\True/\True/\True/\True/\True/\True/\True/\True/\True/\True/\True/\True/\True/\True/\True/\True/\True/\True/\True/\True/\True/\True/\True/\True/\True/\True/\True/\(([]:List SV)=[])))/\(m=(pj8 e5).2.1)/\(hk=(pj8 e5).2.2.1/\cs=(pj8 e5).2.2.2.1/\f=(pj4 (pj8 e5)).1/\(([]:List SV)=[]))/\(True/\(([]:List SV)=[]))/\((Hm e9.1 (gD d9.1 e9.2.1 0))=d12.2.1/\(([]:List SV)=[]))/\(True/\(([]:List SV)=[]))/\(d9.1=d12.2.2/\false=false)/\((pj4 (Xz e5)).2=vals/\(True/\(([]:List SV)=[])))/\True))/\q5 d12)))) d90) /\
  ((decide (d5.1<(pj4 e5).1))=false ->
   (pj4 (Xz e5)).1=w2/\((pj4 (Xz e5)).2=vals/\(True/\(([]:List SV)=[]))/\d5.2.1=(PT (nmC cs) (woM m) cs.length fi.toNat cs.length)/\((pj8 e5).2.1=m)))) d50
def Zg:Cx:=⟨[],[],6,[],0,[],[],[],[],false,[],[],[],[]⟩
def Zf:List (Nat×LoopAnn):=[]
def Z7:Cx:=⟨[],[(78,JF)],20,[],0,[],[],[],[],false,[],[],[],[]⟩
def Z6:List (Nat×LoopAnn):=[(0,⟨Int×(List (Int×Int×Bool))×Int×Int×Int×Int×(List (Int×Int×Bool))×Int×Int×(List (Int×Bool))×Int×(List (Int×Int×Bool))×Int×(List (Int×Int×Bool))×Int×Int×Int×(List (Int×Int×Bool))×Int×Int×LpD×(List Value),Int×Int×(List Int),[0,1,2,8,9],λe x=>[.dd 2000000 .yv,.box 2200002 0,.box 2200003 0,.val (.i .i64) e.2.2.2.2.1,.val (.i .i64) x.1],λe x=>[(2200002,.slot 1,.cells [.val (.i .i64) e.1,.val (.list (.pair (.i .i64) (.pair (.i .i64) .bo))) e.2.1,.val (.i .i64) e.2.2.1] (some 119)),(2200003,.slot 2,.cells [.val (.i .i64) e.2.2.2.1] (some 3)),(2000000,.key 2000000,.lpf [.agg [.val (.i .i64) e.2.2.2.2.2.1,.val (.list (.pair (.i .i64) (.pair (.i .i64) .bo))) e.2.2.2.2.2.2.1,.val (.i .i64) e.2.2.2.2.2.2.2.1],.val (.i .i64) e.2.2.2.2.2.2.2.2.1,.map 0,.box 3 0,.any,.box 5 0,.box 6 0,.box 7 0,.any,.any,.any,.box 3 0,.box 3 1,.val (.list (.pair (.i .i64) (.pair (.i .i64) .bo))) e.2.2.2.2.2.2.2.2.2.2.2.2.2.1,.val (.i .i64) e.2.2.2.2.2.2.2.2.2.2.2.2.2.2.1,.lst 15,.lst 15,.val (.i .i64) e.2.2.2.2.2.2.2.2.2.2.2.2.2.2.2.1,.any,.agg [.val (.i .i64) e.2.2.2.2.2.2.2.2.2.2.2.2.2.2.2.2.1,.val (.list (.pair (.i .i64) (.pair (.i .i64) .bo))) e.2.2.2.2.2.2.2.2.2.2.2.2.2.2.2.2.2.1,.val (.i .i64) e.2.2.2.2.2.2.2.2.2.2.2.2.2.2.2.2.2.2.1],.val (.i .i64) e.2.2.2.2.2.2.2.2.2.2.2.2.2.2.2.2.2.2.2.1,.fn 154 [] [.box 2200002 0,.box 2200003 0],.any,.any,.any,.any,.any,.any,.any,.any,.any,.any,.any,.any,.any,.any,.any,.any,.any,.any,.any,.any,.any,.any,.any,.any,.any,.any,.any,.any,.any,.any,.any,.any,.any,.any,.any,.any,.any,.any,.any,.any,.any,.any,.any,.any,.any,.any,.any,.any,.any,.any,.any] e.2.2.2.2.2.2.2.2.2.2.2.2.2.2.2.2.2.2.2.2.1 .rdy),(0,.key 0,.map (.i .i64) .bo e.2.2.2.2.2.2.2.2.2.1),(3,.key 3,.cells [.val (.i .i64) e.2.2.2.2.2.2.2.2.2.2.1,.val (.list (.pair (.i .i64) (.pair (.i .i64) .bo))) e.2.2.2.2.2.2.2.2.2.2.2.1,.val (.i .i64) e.2.2.2.2.2.2.2.2.2.2.2.2.1] (some 119)),(5,.key 5,.cells [.map 0] (some 122)),(6,.key 6,.cells [.val (.i .i64) x.2.1] (some 3)),(7,.key 7,.cells [.lst 15] (some 27)),(15,.cell 7 0,.lst 3 (.i .i64) x.2.2 false),(4000000,.key 4000000,.stk [.map 0] e.2.2.2.2.2.2.2.2.2.2.2.2.2.2.2.2.2.2.2.2.2)]⟩)]
def KP:Cx:=⟨[(3,(.i .i64))],[],73,[],0,[(138,Q11 Zg (λ_=>Zf) Z0n [.tmp 4] 6)],[],[],[],false,[],[(154,Z2v Z7 Z6 Z16 20)],[],[]⟩
def KM (m:List (Int×Bool)) (hk:Int) (cs:List (Int×Int×Bool)) (f:Int) (fi:Int) (vals:List Value):List (Nat×LoopAnn):=[(2,⟨Int×Int×Int×LpD×Int×Int×Bool×Int×Int×Int×(List Value),(List Int)×Int,[3,5,6,7,8,23,24,25],λe x=>[.box 3 0,.box 5 0,.box 6 0,.box 7 0,.val (.i .i64) e.2.1,.lst 15,.val (.i .i64) e.2.2.1,.val (.i .i64) x.2],λe x=>[(3,.slot 3,.cells [.val (.i .i64) hk,.val (.list (.pair (.i .i64) (.pair (.i .i64) .bo))) cs,.val (.i .i64) f] (some 119)),(5,.slot 5,.cells [.map 0] (some 122)),(0,.cell 5 0,.map (.i .i64) .bo m),(6,.slot 6,.cells [.val (.i .i64) e.1] (some 3)),(7,.slot 7,.cells [.lst 15] (some 27)),(15,.cell 7 0,.lst 3 (.i .i64) x.1 false),(2000000,.key 2000000,.lpf [.agg [.val (.i .i64) hk,.val (.list (.pair (.i .i64) (.pair (.i .i64) .bo))) cs,.val (.i .i64) f],.val (.i .i64) fi,.map 0,.box 3 0,.any,.box 5 0,.box 6 0,.box 7 0,.any,.any,.any,.box 3 0,.box 3 1,.val (.list (.pair (.i .i64) (.pair (.i .i64) .bo))) cs,.val (.i .i64) (((List.length cs):Nat):Int),.lst 15,.lst 15,.val (.i .i64) fi,.any,.agg [.val (.i .i64) hk,.val (.list (.pair (.i .i64) (.pair (.i .i64) .bo))) cs,.val (.i .i64) f],.val (.i .i64) fi,.fn 154 [] [.box 2200002 0,.box 2200003 0],.any,.any,.any,.any,.any,.any,.any,.any,.any,.any,.any,.any,.any,.any,.any,.any,.any,.any,.any,.any,.any,.any,.any,.any,.any,.any,.any,.any,.any,.any,.any,.any,.any,.any,.any,.any,.any,.any,.any,.any,.any,.any,.any,.any,.any,.any,.any,.any,.any,.any,.any] e.2.2.2.1 .busy),(2200002,.key 2200002,.cells [.val (.i .i64) hk,.val (.list (.pair (.i .i64) (.pair (.i .i64) .bo))) cs,.val (.i .i64) f] (some 119)),(2200003,.key 2200003,.cells [.val (.i .i64) fi] (some 3)),(4000000,.key 4000000,.stk [.map 0] vals),(200000099999,.key 200000099999,.stk [.dd 2000000 .yv,.box 2200002 0,.box 2200003 0,.any,.val (.i .i64) e.2.2.2.2.1,.any,.any,.any,.val (.i .i64) (((List.length cs):Nat):Int),.val (.i .i64) e.2.2.2.2.2.1,.val .bo e.2.2.2.2.2.2.1,.val (.i .i64) e.2.2.2.2.2.2.2.1,.dd 2000000 .yv,.agg [.val (.i .i64) hk,.val (.list (.pair (.i .i64) (.pair (.i .i64) .bo))) cs,.val (.i .i64) f],.val (.i .i64) fi,.val (.i .i64) e.2.2.2.2.2.2.2.2.1,.val (.i .i64) e.2.2.2.2.2.2.2.2.2.1,.any,.any,.any] e.2.2.2.2.2.2.2.2.2.2)]⟩)]
theorem D9 (m:List (Int×Bool)) (a:(Int×(List (Int×Int×Bool))×Int)×Int):(∀ vals,gwp KP (KM m a.1.1 a.1.2.1 a.1.2.2 a.2 vals) Z1d 0 (IZ vals [.cell 6 false 1] (Kl m a) (.i .i64) .bo (Yy m a)) (NQ 73 2 (.i .i64) .bo m vals (AL.can Kn a)))=JH m a.1.1 a.1.2.1 a.1.2.2 a.2:=by kernel_rfl
abbrev GP:Prop:=XOk Tryz.prog 107 Y3
theorem Dl (h:∀ (m:List (Int×Bool)) (hk:Int) (cs:List (Int×Int×Bool)) (f:Int) (fi:Int),(0<=fi/\fi<cs.length/\cs.length<=1000)->JH m hk cs f fi):XOk Tryz.prog 107 Y3 :=
 S8 Fa mixed Xp rfl (C:=KP) ⟨.nil,(XsOk.cons (Nj Fw mixed (C:=Zg) ⟨.nil,XsOk.nil,ItsOk.nil,YlOk.nil,IysOk.nil,XfOk.nil⟩ (λ_=>Zf)) XsOk.nil),ItsOk.nil,YlOk.nil,(IysOk.cons (Fe I0 mixed (C:=Z7) ⟨(.cons Kf .nil),XsOk.nil,ItsOk.nil,YlOk.nil,IysOk.nil,XfOk.nil⟩ Z6) IysOk.nil),XfOk.nil⟩ (L:=λm (a:(Int×(List (Int×Int×Bool))×Int)×Int) vals=>KM m a.1.1 a.1.2.1 a.1.2.2 a.2 vals) (V:=λm (a:(Int×(List (Int×Int×Bool))×Int)×Int)=>JH m a.1.1 a.1.2.1 a.1.2.2 a.2) D9 λm a hp=>h m a.1.1 a.1.2.1 a.1.2.2 a.2 hp
set_option maxHeartbeats 1000000 in
theorem G0:GP:=Dl λm hk cs f fi h=>by
 obtain⟨h1,h2,h3⟩:=h;unfold JH;(try delta lI gD sT I64 Xz pj8 pj4);intro vals;obtain⟨a,rfl⟩:=xm h1;have ha:a<cs.length:=by omega
 have jY:0<cs.length:=by omega
 have av:cs≠[]:=xJ.1 jY;repeat (first|(refine And.intro (by first|omega|(simp;omega)|rfl|trivial) ?_))
 intro w1;repeat (first|refine⟨trivial,?_⟩|refine⟨rfl,?_⟩)
 intro w2;refine⟨(hk,cs,f,(a:Int),(cs.length:Int),hk,cs,f,(a:Int),m,hk,cs,f,cs,(cs.length:Int),(a:Int),hk,cs,f,(a:Int),w2,vals),(0,0,(List.replicate cs.length 0).set a 1),by and_intros<;>first|rfl|trivial,?_⟩;refine⟨λd=>∃ k:Nat,k<=cs.length/\d=((k:Int),PT (nmC cs) (woM m) cs.length a k,N7 (nmC cs) (woM m) cs.length a k),λd=>cs.length-d.1.toNat,⟨0,by omega,rfl⟩,?_⟩;rintro _ ⟨k,bu,rfl⟩;dsimp only;refine⟨λc=>?_,λc=>?_⟩
 .have ah:k<cs.length:=by have:=zl c;omega
  have uT:Int.tmod ((a:Int)+(k:Int)) (cs.length:Int)=((arP cs.length a k:Nat):Int):=by rw[Int.tmod_eq_emod_of_nonneg (by omega)];rfl
  have dJ:=Bs jY a k;have dm:=(LV ha k bu (nm:=nmC cs) (wo:=woM m)).1;rw[uT];refine⟨⟨av,h3,by omega,by omega,by omega,by omega⟩,?_⟩;repeat (first|refine⟨trivial,?_⟩|refine⟨rfl,?_⟩)
  intro w6;generalize hA:arP cs.length a k=A at *
  refine⟨(PT (nmC cs) (woM m) cs.length a k,(A:Int),((N7 (nmC cs) (woM m) cs.length a k).length:Int),w2,(k:Int),(k:Int),true,(k:Int),(k:Int),(A:Int),w6),(N7 (nmC cs) (woM m) cs.length a k,0),?_,?_⟩
  .and_intros<;>first|rfl|trivial|exact c
  refine⟨λd=>∃ b:Nat,b<=cs.length/\d=(inR (nmC cs) (woM m) A (N7 (nmC cs) (woM m) cs.length a k) b,(b:Int)),λd=>cs.length-d.2.toNat,⟨0,by omega,rfl⟩,?_⟩;rintro _ ⟨b,bm,rfl⟩;dsimp only;obtain⟨il,ib⟩:=Q9t (nm:=nmC cs) (wo:=woM m) (m:=b) ha ah bm;rw[hA] at il ib;refine⟨λc2=>?_,λc2=>?_⟩
  .have oV:b<cs.length:=by have:=zl c2;omega
   have pO:=An (nm:=nmC cs) (wo:=woM m) (at_:=A) (r:=N7 (nmC cs) (woM m) cs.length a k) (m:=b);generalize inR (nmC cs) (woM m) A (N7 (nmC cs) (woM m) cs.length a k) b=r at *
   have nj:=ib b;simp only[zz];have ak:(((decide (r.getD b 0 > 0)&&!(gq.aget (.i .i64) m (A:Int) false))&&decide ((cs.getD A (0,(0,false))).1 > (cs.getD b (0,(0,false))).1))=true)<->(0<r.getD b 0/\woM m A=false/\nmC cs b<nmC cs A):=by
    simp only[z2,zi,Bool.not_eq_true',gt_iff_lt];unfold woM nmC BC;constructor
    .rintro⟨⟨p,q⟩,s⟩;exact⟨p,q,s⟩
    .rintro⟨p,q,s⟩;exact⟨⟨p,q⟩,s⟩
   repeat (first|(refine And.intro (by first|omega|rfl|trivial|(intro _;omega)) ?_))
   refine⟨λc3=>?_,λc3=>?_⟩
   .have c4:=ak.1 c3;rw[z0 c4] at pO;repeat (first|(refine And.intro (by first|omega|(rw[Qh];omega)|rfl|trivial) ?_))
    refine⟨(r.set A (Hm (r.getD A 0) (r.getD b 0+1)),(b:Int)+1),by and_intros<;>first|rfl|trivial,⟨b+1,oV,by rw[pO];rfl⟩,by dsimp only;omega⟩
   .have c4:¬ (0<r.getD b 0/\woM m A=false/\nmC cs b<nmC cs A):=λc4=>by
     rw[ak.2 c4] at c3;cases c3
    rw[z1 c4] at pO;repeat (first|(refine And.intro (by first|omega|(rw[Qh];omega)|rfl|trivial) ?_))
    refine⟨(r,(b:Int)+1),by and_intros<;>first|rfl|trivial,⟨b+1,oV,by rw[pO];rfl⟩,by dsimp only;omega⟩
  .have bE:b=cs.length:=by have:=zK c2;omega
   subst bE;have er:inR (nmC cs) (woM m) A (N7 (nmC cs) (woM m) cs.length a k) cs.length=N7 (nmC cs) (woM m) cs.length a (k+1):=by rw[<-hA];rfl
   have em:PT (nmC cs) (woM m) cs.length a (k+1)=Hm (PT (nmC cs) (woM m) cs.length a k) ((N7 (nmC cs) (woM m) cs.length a (k+1)).getD A 0):=by rw[<-hA];rfl
   simp only[zz];rw[er] at il |-;rw[<-em];repeat (first|(refine And.intro (by first|omega|rfl|trivial) ?_))
   refine⟨λc3=>by simp at c3,λ_=>?_⟩;refine⟨by rw[Qh];omega,((k:Int)+1,PT (nmC cs) (woM m) cs.length a (k+1),N7 (nmC cs) (woM m) cs.length a (k+1)),by and_intros<;>first|rfl|trivial,⟨k+1,ah,rfl⟩,by dsimp only;omega⟩
 .have au:k=cs.length:=by have:=zK c;omega
  subst au;rw[zz];and_intros<;>first|rfl|trivial
def Kx:AL (Int×(List (Int×Int×Bool))×Int):=(.one (.agg (.cons (.k (.i .i64)) (.cons (.k (.list (.pair (.i .i64) (.pair (.i .i64) .bo)))) (.one (.k (.i .i64)))))))
def G8 (m:List (Int×Bool)) (a:Int×(List (Int×Int×Bool))×Int):Prop:=a.2.1.length<=1000
def Ky (m:List (Int×Bool)) (a:Int×(List (Int×Int×Bool))×Int):SV:=.val (.i .i64) (Xc (nmC a.2.1) (woM m) a.2.1.length a.2.1.length)
def YG (m:List (Int×Bool)) (a:Int×(List (Int×Int×Bool))×Int) (m2:List (Int×Bool)):Prop:=m2=m
def W_:XSp:=EO Vy 1 (.i .i64) .bo (Q9j Kx G8 Ky YG)
def JI (m:List (Int×Bool)) (hk:Int) (cs:List (Int×Int×Bool)) (f:Int):Prop:=∀ vals:List Value,
 ∃ (e3:Unit) (d30:(List (Int×Bool))×Int×Int),((True/\True/\(0:Int)=d30.2.1/\(lI cs)=(lI cs)/\(0:Int)=d30.2.2/\True)/\((m=d30.1)/\(hk=hk/\cs=cs/\f=f/\(([]:List SV)=[]))/\(vals=vals/\(True/\(([]:List SV)=[])))/\True)) /\
 LoopP (λ(d3:(List (Int×Bool))×Int×Int) (q3:((List (Int×Bool))×Int×Int)->Prop) =>
  ((decide (d3.2.2<(lI cs)))=true ->
   ((!(gq.aget (.i .i64) d3.1 d3.2.2 false))=true ->
    (0<=d3.2.2/\d3.2.2<cs.length/\cs.length<=1000)/\(∀ m4:List (Int×Bool),(m4=d3.1)->(I64 (d3.2.2+(1:Int)))/\(∃ d5:(List (Int×Bool))×Int×Int,((True/\True/\(Hm d3.2.1 (PT (nmC cs) (woM d3.1) cs.length d3.2.2.toNat cs.length))=d5.2.1/\(lI cs)=(lI cs)/\(d3.2.2+(1:Int))=d5.2.2/\True)/\((m4=d5.1)/\(hk=hk/\cs=cs/\f=f/\(([]:List SV)=[]))/\(vals=vals/\(True/\(([]:List SV)=[])))/\True))/\q3 d5))) /\
   ((!(gq.aget (.i .i64) d3.1 d3.2.2 false))=false ->
    (I64 (d3.2.2+(1:Int)))/\(∃ d6:(List (Int×Bool))×Int×Int,((True/\True/\d3.2.1=d6.2.1/\(lI cs)=(lI cs)/\(d3.2.2+(1:Int))=d6.2.2/\True)/\((d3.1=d6.1)/\(hk=hk/\cs=cs/\f=f/\(([]:List SV)=[]))/\(vals=vals/\(True/\(([]:List SV)=[])))/\True))/\q3 d6))) /\
  ((decide (d3.2.2<(lI cs)))=false ->
   (vals=vals/\(True/\(([]:List SV)=[]))/\d3.2.1=(Xc (nmC cs) (woM m) cs.length cs.length)/\(d3.1=m)))) d30
def KZ:Cx:=⟨[],[],25,[],0,[(107,Y3)],[],[],[],false,[],[],[],[]⟩
def V3 (m:List (Int×Bool)) (hk:Int) (cs:List (Int×Int×Bool)) (f:Int) (vals:List Value):List (Nat×LoopAnn):=[(0,⟨Unit,(List (Int×Bool))×Int×Int,[1,2,4,9,10],λe x=>[.map 0,.box 2 0,.val (.i .i64) x.2.1,.val (.i .i64) (((List.length cs):Nat):Int),.val (.i .i64) x.2.2],λe x=>[(0,.slot 1,.map (.i .i64) .bo x.1),(2,.slot 2,.cells [.val (.i .i64) hk,.val (.list (.pair (.i .i64) (.pair (.i .i64) .bo))) cs,.val (.i .i64) f] (some 119)),(4000000,.key 4000000,.stk [.map 0] vals)]⟩)]
theorem GL (m:List (Int×Bool)) (a:Int×(List (Int×Int×Bool))×Int):(∀ vals,gwp KZ (V3 m a.1 a.2.1 a.2.2 vals) c63 0 (IZ vals [.tmp 4] (Ky m a) (.i .i64) .bo (YG m a)) (NQ 25 1 (.i .i64) .bo m vals (AL.can Kx a)))=JI m a.1 a.2.1 a.2.2:=by kernel_rfl
abbrev Dc:Prop:=XOk Tryz.prog 63 W_
theorem Dp (h:∀ (m:List (Int×Bool)) (hk:Int) (cs:List (Int×Int×Bool)) (f:Int),(cs.length<=1000)->JI m hk cs f):XOk Tryz.prog 63 W_ :=
 S8 Q4z mixed Xp rfl (C:=KZ) ⟨.nil,(XsOk.cons G0 XsOk.nil),ItsOk.nil,YlOk.nil,IysOk.nil,XfOk.nil⟩ (L:=λm (a:Int×(List (Int×Int×Bool))×Int) vals=>V3 m a.1 a.2.1 a.2.2 vals) (V:=λm (a:Int×(List (Int×Int×Bool))×Int)=>JI m a.1 a.2.1 a.2.2) GL λm a hp=>h m a.1 a.2.1 a.2.2 hp
theorem Gg:Dc:=Dp λm hk cs f h=>by
 unfold JI;(try delta lI gD sT I64 Xz pj8 pj4);intro vals;refine⟨(),(m,0,0),by and_intros<;>first|rfl|trivial,?_⟩;refine⟨λd=>∃ k:Nat,k<=cs.length/\d=(m,Xc (nmC cs) (woM m) cs.length k,(k:Int)),λd=>cs.length-d.2.2.toNat,⟨0,by omega,rfl⟩,?_⟩;rintro _ ⟨k,bu,rfl⟩;dsimp only;refine⟨λc=>?_,λc=>?_⟩
 .have ah:k<cs.length:=by have:=zl c;omega
  refine⟨λc2=>?_,λc2=>?_⟩
  .have hw:woM m k=false:=by
    show gq.aget (.i .i64) m (k:Int) false=false;simpa using c2
   refine⟨⟨by omega,by omega,h⟩,λm4 hm=>?_⟩;subst hm;have e:Xc (nmC cs) (woM m4) cs.length (k+1)=Hm (Xc (nmC cs) (woM m4) cs.length k) (PT (nmC cs) (woM m4) cs.length k cs.length):=by show (if woM m4 k=true then _ else _)=_;rw[hw,z1 (by decide)]
   refine⟨by rw[Qh];omega,(m4,Xc (nmC cs) (woM m4) cs.length (k+1),(k:Int)+1),?_,⟨k+1,ah,rfl⟩,by dsimp only;omega⟩;rw[zz,e];and_intros<;>first|rfl|trivial
  .have hw:woM m k=true:=by
    show gq.aget (.i .i64) m (k:Int) false=true;simpa using c2
   have e:Xc (nmC cs) (woM m) cs.length (k+1)=Xc (nmC cs) (woM m) cs.length k:=by show (if woM m k=true then _ else _)=_;rw[z0 hw]
   refine⟨by rw[Qh];omega,(m,Xc (nmC cs) (woM m) cs.length (k+1),(k:Int)+1),?_,⟨k+1,ah,rfl⟩,by dsimp only;omega⟩;rw[e];and_intros<;>first|rfl|trivial
 .have au:k=cs.length:=by have:=zK c;omega
  subst au;and_intros<;>first|rfl|trivial
def MS:AL (Int×List (Int×Int×Bool)):=(.one (.agg (.cons (.k (.i .i64)) (.one (.k (.list (.pair (.i .i64) (.pair (.i .i64) .bo))))))))
def Hq (d:Int×List (Int×Int×Bool)):Prop:=d.2.length<=1000
def Nm (d:Int×List (Int×Int×Bool)):SV:=.tup [.lst 0,.val (.i .i64) (Jw d.1 d.2)]
def Ns (d:Int×List (Int×Int×Bool)):List OB:=[.lst 3 (.i .i64) (XR d.1 d.2) ((XR d.1 d.2).isEmpty)]
def VV:CSp:=N2 MS Hq Nm Ns
abbrev Wj (cs:List (Int×Int×Bool)):=(Xc (nmC cs) (woM ([]:List (Int×Bool))) cs.length cs.length)
abbrev M7 (hk:Int) (cs:List (Int×Int×Bool)):=(((XR hk cs)=[]/\(XR hk cs).isEmpty=true)/\True)
def Yb (hk:Int) (cs:List (Int×Int×Bool)):Prop :=
 ∀ w1:List Value,∀ w2:List Value,(True)/\((!(inI hk 1 24))=true ->
  w2=w2/\w1=w1/\((True/\(3:Int)=(Jw hk cs)/\(([]:List SV)=[]))/\(M7 hk cs))) /\
 ((!(inI hk 1 24))=false ->
  (((decide ((lI cs) > (60:Int)))=true ->
   w2=w2/\w1=w1/\((True/\(5:Int)=(Jw hk cs)/\(([]:List SV)=[]))/\(M7 hk cs))) /\
  ((decide ((lI cs) > (60:Int)))=false ->
   (1<=hk/\hk<=24/\cs.length<=1000000)/\((!(!cs.isEmpty&&!(cs.any λc=>!Zh hk c)))=true ->
    w2=w2/\w1=w1/\((True/\(2:Int)=(Jw hk cs)/\(([]:List SV)=[]))/\(M7 hk cs))) /\
   ((!(!cs.isEmpty&&!(cs.any λc=>!Zh hk c)))=false ->
    w2=w2/\∃ (e5:Int×(List (Int×Int×Bool))×Int×Int×Int×(List (Int×Int×Bool))×Int×(List (Int×Int×Bool))×Int×Int×(List (Int×Int×Bool))×Int×(List (Int×Int×Bool))×Int×Int×(List (Int×Int×Bool))×(List Value)) (d50:(List (Int×Bool))×Int),((True/\True/\True/\True/\cs=(pj4 e5).2.2.2.1/\(lI cs)=(pj8 e5).1/\(0:Int)=d50.2/\True)/\((hk=e5.1/\cs=e5.2.1/\(([]:List SV)=[]))/\((0:Int)=e5.2.2.1/\True/\(0:Int)=e5.2.2.2.1/\(([]:List SV)=[]))/\(hk=(pj4 e5).1/\cs=(pj4 e5).2.1/\hk=(pj4 e5).2.2.1/\(([]:List SV)=[]))/\(([]:List (Int×Bool))=d50.1)/\((Xz e5)=w1/\((hk=(pj8 e5).2.1/\cs=(pj8 e5).2.2.1/\(([]:List SV)=[]))/\True/\True/\(0:Int)=(pj4 (pj8 e5)).2.1/\True/\True/\True/\True/\True/\(hk=(pj4 (pj8 e5)).2.2.1/\cs=(pj4 (pj8 e5)).2.2.2.1/\(([]:List SV)=[]))/\True/\True/\True/\True/\True/\True/\True/\True/\True/\True/\True/\True/\True/\True/\True/\True/\True/\True/\True/\True/\True/\True/\True/\True/\True/\True/\True/\True/\True/\True/\True/\True/\True/\True/\True/\True/\True/\True/\True/\(([]:List SV)=[])))/\(hk=(pj8 e5).2.2.2.1/\cs=(pj4 (pj8 e5)).1/\(([]:List SV)=[]))/\True)) /\
    LoopP (λ(d5:(List (Int×Bool))×Int) (q5:((List (Int×Bool))×Int)->Prop) =>
     ((decide (d5.2<(pj8 e5).1))=true ->
      (0<=d5.2)/\(d5.2<(List.length (pj4 e5).2.2.2.1))/\(I64 (d5.2+(1:Int)))/\(∃ d6:(List (Int×Bool))×Int,((True/\True/\True/\True/\(pj4 e5).2.2.2.1=(pj4 e5).2.2.2.1/\(pj8 e5).1=(pj8 e5).1/\(d5.2+(1:Int))=d6.2/\True)/\((e5.1=e5.1/\e5.2.1=e5.2.1/\(([]:List SV)=[]))/\(e5.2.2.1=e5.2.2.1/\True/\e5.2.2.2.1=e5.2.2.2.1/\(([]:List SV)=[]))/\((pj4 e5).1=(pj4 e5).1/\(pj4 e5).2.1=(pj4 e5).2.1/\(pj4 e5).2.2.1=(pj4 e5).2.2.1/\(([]:List SV)=[]))/\((UI (.i .i64) d5.1 (gD (pj4 e5).2.2.2.1 d5.2 (0,(0,false))).1 true)=d6.1)/\((Xz e5)=(Xz e5)/\(((pj8 e5).2.1=(pj8 e5).2.1/\(pj8 e5).2.2.1=(pj8 e5).2.2.1/\(([]:List SV)=[]))/\True/\True/\(pj4 (pj8 e5)).2.1=(pj4 (pj8 e5)).2.1/\True/\True/\True/\True/\True/\((pj4 (pj8 e5)).2.2.1=(pj4 (pj8 e5)).2.2.1/\(pj4 (pj8 e5)).2.2.2.1=(pj4 (pj8 e5)).2.2.2.1/\(([]:List SV)=[]))/\True/\True/\True/\True/\True/\True/\True/\True/\True/\True/\True/\True/\True/\True/\True/\True/\True/\True/\True/\True/\True/\True/\True/\True/\True/\True/\True/\True/\True/\True/\True/\True/\True/\True/\True/\True/\True/\True/\True/\(([]:List SV)=[])))/\((pj8 e5).2.2.2.1=(pj8 e5).2.2.2.1/\(pj4 (pj8 e5)).1=(pj4 (pj8 e5)).1/\(([]:List SV)=[]))/\True))/\q5 d6)) /\
     ((decide (d5.2<(pj8 e5).1))=false ->
      ((gq.aget (.i .i64) d5.1 (-1:Int) false)=true ->
       (Xz e5)=w1/\((True/\(9:Int)=(Jw hk cs)/\(([]:List SV)=[]))/\(M7 hk cs))) /\
      ((gq.aget (.i .i64) d5.1 (-1:Int) false)=false ->
       ((decide ((lI d5.1)<(lI e5.2.1)))=true ->
        (Xz e5)=w1/\((True/\(6:Int)=(Jw hk cs)/\(([]:List SV)=[]))/\(M7 hk cs))) /\
       ((decide ((lI d5.1)<(lI e5.2.1)))=false ->
        (Xz e5)=w1/\((pj4 e5).2.1.length<=1000)/\(∀ m7:List (Int×Bool),(m7=([]:List (Int×Bool)))->∃ (vH:Unit) (d110:(List Int)×(List (Int×Bool))×Int),((True/\True/\True/\True/\(Xc (nmC (pj4 e5).2.1) (woM ([]:List (Int×Bool))) (pj4 e5).2.1.length (pj4 e5).2.1.length)=(Wj cs)/\(lI (pj4 (pj8 e5)).1)=(lI cs)/\(0:Int)=d110.2.2/\True)/\(((pj8 e5).2.2.2.1=hk/\(pj4 (pj8 e5)).1=cs/\(([]:List SV)=[]))/\(d110.1=[]/\(List.isEmpty d110.1)=true)/\((pj4 e5).1=hk/\(pj4 e5).2.1=cs/\(pj4 e5).2.2.1=hk/\(([]:List SV)=[]))/\(m7=d110.2.1)/\True)) /\
        LoopP (λ(d11:(List Int)×(List (Int×Bool))×Int) (sy:((List Int)×(List (Int×Bool))×Int)->Prop) =>
         ((decide (d11.2.2<(lI cs)))=true ->
          (cs.length<=1000)/\(∀ ml:List (Int×Bool),(ml=(UI (.i .i64) d11.2.1 d11.2.2 true))->((decide ((Xc (nmC cs) (woM (UI (.i .i64) d11.2.1 d11.2.2 true)) cs.length cs.length)<(Wj cs)))=true ->
           (I64 (d11.2.2+(1:Int)))/\(∃ d13:(List Int)×(List (Int×Bool))×Int,((True/\True/\True/\True/\(Wj cs)=(Wj cs)/\(lI cs)=(lI cs)/\(d11.2.2+(1:Int))=d13.2.2/\True)/\((hk=hk/\cs=cs/\(([]:List SV)=[]))/\(d11.1=d13.1/\(List.isEmpty d11.1)=(List.isEmpty d13.1))/\(hk=hk/\cs=cs/\hk=hk/\(([]:List SV)=[]))/\((Q1g (.i .i64) ml d11.2.2)=d13.2.1)/\True))/\sy d13)) /\
          ((decide ((Xc (nmC cs) (woM (UI (.i .i64) d11.2.1 d11.2.2 true)) cs.length cs.length)<(Wj cs)))=false ->
           (((List.length d11.1)+(List.length [d11.2.2]))*8<=70368744177664)/\(I64 ((lI (d11.1++[d11.2.2]))+(Wj cs)))/\((((lI (d11.1++[d11.2.2]))+(Wj cs))==(lI cs))=true ->
            ((True/\(0:Int)=(Jw hk cs)/\(([]:List SV)=[]))/\(((d11.1++[d11.2.2])=(XR hk cs)/\false=(XR hk cs).isEmpty)/\True))) /\
           ((((lI (d11.1++[d11.2.2]))+(Wj cs))==(lI cs))=false ->
            (I64 (d11.2.2+(1:Int)))/\(∃ d14:(List Int)×(List (Int×Bool))×Int,((True/\True/\True/\True/\(Wj cs)=(Wj cs)/\(lI cs)=(lI cs)/\(d11.2.2+(1:Int))=d14.2.2/\True)/\((hk=hk/\cs=cs/\(([]:List SV)=[]))/\((d11.1++[d11.2.2])=d14.1/\false=(List.isEmpty d14.1))/\(hk=hk/\cs=cs/\hk=hk/\(([]:List SV)=[]))/\(ml=d14.2.1)/\True))/\sy d14))))) /\
         ((decide (d11.2.2<(lI cs)))=false ->
          ((True/\(0:Int)=(Jw hk cs)/\(([]:List SV)=[]))/\((d11.1=(XR hk cs)/\(List.isEmpty d11.1)=(XR hk cs).isEmpty)/\True)))) d110))))) d50))))
def Ju:Cx:=⟨[(1000018,(.pair (.i .i64) .bo))],[(87,Z3),(86,QX)],43,[3000015],0,[(103,NK)],[],[],[],false,[],[],[15],[]⟩
def Jt:List (Nat×LoopAnn):=[(0,⟨Int×(List (Int×Int×Bool))×Int×Int×Int×(List (Int×Int×Bool))×Int×(List (Int×Int×Bool))×Int×Int×(List (Int×Int×Bool))×Int×(List (Int×Int×Bool))×Int×Int×(List (Int×Int×Bool))×(List Value),(List (Int×Bool))×Int,[1,2,4,6,20,21,22],λe x=>[.box 1100001 0,.box 1100002 0,.box 1100004 0,.map 1100018,.val (.list (.pair (.i .i64) (.pair (.i .i64) .bo))) e.2.2.2.2.2.2.2.1,.val (.i .i64) e.2.2.2.2.2.2.2.2.1,.val (.i .i64) x.2],λe x=>[(1100001,.slot 1,.cells [.val (.i .i64) e.1,.val (.list (.pair (.i .i64) (.pair (.i .i64) .bo))) e.2.1] (some 24)),(1100002,.slot 2,.cells [.val (.i .i64) e.2.2.1,.nilS,.val (.i .i64) e.2.2.2.1] (some 119)),(1100004,.slot 4,.cells [.val (.i .i64) e.2.2.2.2.1,.val (.list (.pair (.i .i64) (.pair (.i .i64) .bo))) e.2.2.2.2.2.1,.val (.i .i64) e.2.2.2.2.2.2.1] (some 119)),(1100018,.slot 6,.map (.i .i64) .bo x.1),(1099999,.key 1099999,.stk [.agg [.val (.i .i64) e.2.2.2.2.2.2.2.2.2.1,.val (.list (.pair (.i .i64) (.pair (.i .i64) .bo))) e.2.2.2.2.2.2.2.2.2.2.1],.box 1 0,.nilS,.val (.i .i64) e.2.2.2.2.2.2.2.2.2.2.2.2.2.1,.any,.any,.any,.any,.any,.agg [.val (.i .i64) e.2.2.2.2.2.2.2.2.2.2.2.2.2.2.1,.val (.list (.pair (.i .i64) (.pair (.i .i64) .bo))) e.2.2.2.2.2.2.2.2.2.2.2.2.2.2.2.1],.any,.any,.any,.any,.any,.any,.any,.any,.any,.any,.any,.any,.any,.any,.any,.any,.any,.any,.any,.any,.any,.any,.any,.any,.any,.any,.any,.any,.any,.any,.any,.any,.any,.any,.any,.any,.any,.any,.any] e.2.2.2.2.2.2.2.2.2.2.2.2.2.2.2.2),(1,.key 1,.cells [.val (.i .i64) e.2.2.2.2.2.2.2.2.2.2.2.1,.val (.list (.pair (.i .i64) (.pair (.i .i64) .bo))) e.2.2.2.2.2.2.2.2.2.2.2.2.1] (some 24))]⟩)]
def ME:Cx:=⟨[(3,(.i .i64)),(1000016,(.pair (.i .i64) .bo))],[],49,[3000014],0,[(62,Q11 Ju (λ_=>Jt) c62 [.cell 2 true 3,.tmp 3] 43),(63,W_)],[],[],[],false,[],[],[14],[]⟩
def Ty (hk:Int) (cs:List (Int×Int×Bool)):List (Nat×LoopAnn):=[(0,⟨Unit,(List Int)×(List (Int×Bool))×Int,[1,2,4,5,6,22,23],λe x=>[.box 1 0,.lst 38,.box 4 0,.map 16,.val (.i .i64) (Xc (nmC cs) (woM ([]:List (Int×Bool))) cs.length cs.length),.val (.i .i64) (((List.length cs):Nat):Int),.val (.i .i64) x.2.2],λe x=>[(1,.slot 1,.cells [.val (.i .i64) hk,.val (.list (.pair (.i .i64) (.pair (.i .i64) .bo))) cs] (some 24)),(38,.slot 2,.lst 3 (.i .i64) x.1 (List.isEmpty x.1)),(4,.slot 4,.cells [.val (.i .i64) hk,.val (.list (.pair (.i .i64) (.pair (.i .i64) .bo))) cs,.val (.i .i64) hk] (some 119)),(16,.slot 5,.map (.i .i64) .bo x.2.1)]⟩)]
theorem Ti (d:Int×List (Int×Int×Bool)):gwp (ME) (Ty d.1 d.2) c17 0 (Nu [.tmp 2,.tmp 3] (Nm d) (Ns d)) (Q_ 49 (AL.can MS d))=Yb d.1 d.2:=by kernel_rfl
abbrev PW:Prop:=OkC Tryz.prog 17 VV
theorem T2 (h:∀ (hk:Int) (cs:List (Int×Int×Bool)),(cs.length<=1000)->Yb hk cs):OkC Tryz.prog 17 VV :=
 Zn Q5x mixed (C:=ME) (V:=λ(d:Int×List (Int×Int×Bool))=>Yb d.1 d.2) ⟨.nil,(XsOk.cons (Nj Q5r mixed (C:=Ju) ⟨(.cons JB (.cons Jl .nil)),(XsOk.cons MM XsOk.nil),ItsOk.nil,YlOk.nil,IysOk.nil,XfOk.nil⟩ (λ_=>Jt)) (XsOk.cons Gg XsOk.nil)),ItsOk.nil,YlOk.nil,IysOk.nil,XfOk.nil⟩ (Ti) λd hp=>h d.1 d.2 hp
set_option maxHeartbeats 1000000 in
theorem P_:PW:=T2 λhk cs h=>by
 have iP:∀ e:Int,Jw hk cs=e->e≠0->(e=Jw hk cs)/\XR hk cs=[]/\(XR hk cs).isEmpty=true:=λe h1 h2=>by
  have:XR hk cs=[]:=by unfold XR;rw[z1 (by omega)]
  exact⟨h1.symm,this,by rw[this];rfl⟩
 have bE:∀ e:Int,QQ hk cs=e->e≠0->Jw hk cs=e:=λe h1 h2=>by unfold Jw;rw[z0 (by omega)];exact h1
 unfold Yb;(try delta Wj M7);(try delta lI gD sT I64 Xz pj8 pj4);intro w1 w2;repeat (first|refine⟨trivial,?_⟩|refine⟨rfl,?_⟩)
 refine⟨λc1=>?_,λc1=>?_⟩
 .repeat (first|refine⟨trivial,?_⟩|refine⟨rfl,?_⟩)
  have e:QQ hk cs=3:=by unfold QQ;rw[z0 c1]
  obtain⟨u,v,w⟩:=iP 3 (bE 3 e (by decide)) (by decide);and_intros<;>first|rfl|trivial|assumption
 repeat (first|refine⟨trivial,?_⟩|refine⟨rfl,?_⟩)
 refine⟨λc2=>?_,λc2=>?_⟩
 .have c2:60<cs.length:=by have:=zl c2;omega
  have e:QQ hk cs=5:=by unfold QQ;rw[z1 (by rw[c1];decide),z0 c2]
  obtain⟨u,v,w⟩:=iP 5 (bE 5 e (by decide)) (by decide);and_intros<;>first|rfl|trivial|assumption
 have c2:cs.length<=60:=by have:=zK c2;omega
 obtain⟨i1,i2⟩:=Q2r c1;repeat (first|refine⟨trivial,?_⟩|refine⟨rfl,?_⟩)
 refine⟨⟨i1,i2,by omega⟩,λc3=>?_,λc3=>?_⟩
 .obtain⟨u,v,w⟩:=iP 2 (bE 2 (Q1j c1 c2 c3) (by decide)) (by decide);and_intros<;>first|rfl|trivial|assumption
 obtain⟨be,av,ai⟩:=Oc c1 c2 c3;repeat (first|refine⟨trivial,?_⟩|refine⟨rfl,?_⟩)
 refine⟨(hk,cs,0,0,hk,cs,hk,cs,(cs.length:Int),hk,cs,hk,cs,0,hk,cs,w1),([],0),by and_intros<;>first|rfl|trivial,?_⟩;refine⟨λd=>∃ k:Nat,k<=cs.length/\d.2=(k:Int)/\SeenI (cs.map (·.1)) d.1 k,λd=>cs.length-d.2.toNat,⟨0,by omega,rfl,SeenI.nil _⟩,?_⟩;rintro⟨mm,_⟩ ⟨k,bu,rfl,hS⟩;dsimp only at hS |-;refine⟨λc=>?_,λc=>?_⟩
 .have ah:k<cs.length:=by have:=zl c;omega
  have hp:=hS.put (by simpa using ah);have eg:(cs.map (·.1)).getD k 0=(cs.getD k (0,(0,false))).1:=by
   rw[Qg (by simpa using ah),Qg ah,xF]
  rw[eg] at hp;simp only[zz];exact⟨by omega,by omega,by rw[Qh];omega,(UI (.i .i64) mm (cs.getD k (0,(0,false))).1 true,(k:Int)+1),by and_intros<;>first|rfl|trivial,⟨k+1,ah,rfl,hp⟩,by dsimp only;omega⟩
 .have au:k=cs.length:=by have:=zK c;omega
  subst au;have hl:(cs.map (·.1)).length=cs.length:=x_ ..;rw[<-hl] at hS;obtain⟨f1,f2⟩:=hS.full;rw[hl] at f2;refine⟨λc4=>?_,λc4=>?_⟩
  .rw[f1] at c4;have e:Jw hk cs=9:=by unfold Jw;rw[z1 (by omega),z0 (zl c4)]
   obtain⟨u,v,w⟩:=iP 9 e (by decide);and_intros<;>first|rfl|trivial|assumption
  rw[f1] at c4;have c4:=zK c4;refine⟨λc5=>?_,λc5=>?_⟩
  .rw[f2] at c5;have e:Jw hk cs=6:=by unfold Jw;rw[z1 (by omega),z1 c4,z1 (zl c5)]
   obtain⟨u,v,w⟩:=iP 6 e (by decide);and_intros<;>first|rfl|trivial|assumption
  rw[f2] at c5;have eA:(cs.map (·.1)).Nodup:=Decidable.not_not.1 (zK c5);have en:Jw hk cs=0:=by unfold Jw;rw[z1 (by omega),z1 c4,z0 eA]
  have em:XR hk cs=mvK (nmC cs) cs.length cs.length:=by unfold XR;rw[z0 en]
  rw[en,em];have kV:Xc (nmC cs) (woM ([]:List (Int×Bool))) cs.length cs.length=YM (nmC cs) cs.length:=rfl;rw[kV];obtain⟨b1,b2,_⟩:=Iq (nmC cs) (λ_=>false) cs.length;have b1:0<=YM (nmC cs) cs.length:=b1;have b2:YM (nmC cs) cs.length<=cs.length:=b2;clear kV hS f1 f2;repeat (first|refine⟨trivial,?_⟩|refine⟨rfl,?_⟩)
  refine⟨h,λm7 uU=>?_⟩;subst uU;refine⟨(),([],[],0),by and_intros<;>first|rfl|trivial,?_⟩;refine⟨λd=>∃ k:Nat,k<=cs.length/\d=(mvK (nmC cs) cs.length k,(mvK (nmC cs) cs.length k).map (λx=>(x,true)),(k:Int))/\(((mvK (nmC cs) cs.length k).length:Int)+YM (nmC cs) cs.length≠cs.length\/YM (nmC cs) cs.length=cs.length),λd=>cs.length-d.2.2.toNat,⟨0,by omega,rfl,?_⟩,?_⟩
  .by_cases q:YM (nmC cs) cs.length=cs.length
   .exact .inr q
   .left;show ((([]:List Int).length:Nat):Int)+_≠_;simpa using q
  rintro _ ⟨k,bu,rfl,hq⟩;dsimp only;have mN:(k:Int)∉mvK (nmC cs) cs.length k:=λhm=>by have:=Aw _ _ _ _ hm;omega
  have dA:=IJ mN;have hlen:=Ff (nmC cs) cs.length k;have kW:mvK (nmC cs) cs.length (k+1)=if ((mvK (nmC cs) cs.length k).length:Int)+YM (nmC cs) cs.length=cs.length then mvK (nmC cs) cs.length k else if Xc (nmC cs) (woL (mvK (nmC cs) cs.length k++[(k:Int)])) cs.length cs.length<YM (nmC cs) cs.length then mvK (nmC cs) cs.length k else mvK (nmC cs) cs.length k++[(k:Int)]:=rfl
  refine⟨λc=>?_,λc=>?_⟩
  .have ah:k<cs.length:=by have:=zl c;omega
   have uV:woL (mvK (nmC cs) cs.length k++[(k:Int)]) k=true:=xA (xl _ (z8.2 rfl));obtain⟨_,_,b3⟩:=Iq (nmC cs) (woL (mvK (nmC cs) cs.length k++[(k:Int)])) cs.length;have b3:=b3 k ah uV;refine⟨h,λml oW=>?_⟩;rw[dA] at oW;subst oW;rw[dA,Q4p,Fp mN];refine⟨λc6=>?_,λc6=>?_⟩
   .have c6:=zl c6;have es:mvK (nmC cs) cs.length (k+1)=mvK (nmC cs) cs.length k:=by
     rw[kW,z0 c6,ite_self]
    refine⟨by rw[Qh];omega,(mvK (nmC cs) cs.length (k+1),(mvK (nmC cs) cs.length (k+1)).map (λx=>(x,true)),(k:Int)+1),?_,⟨k+1,ah,rfl,by rw[es];exact hq⟩,by dsimp only;omega⟩;rw[es];and_intros<;>first|rfl|trivial
   .have c6:=zK c6;have uW:((mvK (nmC cs) cs.length k).length:Int)+YM (nmC cs) cs.length≠cs.length:=by
     rcases hq with hq|hq
     .exact hq
     .omega
    have es:mvK (nmC cs) cs.length (k+1)=mvK (nmC cs) cs.length k++[(k:Int)]:=by rw[kW,z1 uW,z1 c6]
    have cj:(mvK (nmC cs) cs.length k++[(k:Int)]).length=(mvK (nmC cs) cs.length k).length+1:=by simp
    have gP:(mvK (nmC cs) cs.length k++[(k:Int)]).isEmpty=false:=by simp
    rw[<-es] at cj gP |-;refine⟨by simp;omega,by rw[Qh];omega,λc7=>?_,λc7=>?_⟩
    .have c7:((mvK (nmC cs) cs.length (k+1)).length:Int)+YM (nmC cs) cs.length=cs.length:=by simpa using c7
     have aS:=CE c7 (cs.length-(k+1));rw[show k+1+(cs.length-(k+1))=cs.length by omega] at aS;rw[aS];and_intros<;>first|rfl|trivial|exact gP.symm
    .have c7:((mvK (nmC cs) cs.length (k+1)).length:Int)+YM (nmC cs) cs.length≠cs.length:=by simpa using c7
     refine⟨by rw[Qh];omega,(mvK (nmC cs) cs.length (k+1),(mvK (nmC cs) cs.length (k+1)).map (λx=>(x,true)),(k:Int)+1),?_,⟨k+1,ah,rfl,.inl c7⟩,by dsimp only;omega⟩;and_intros<;>first|rfl|trivial|exact gP.symm
  .have au:k=cs.length:=by have:=zK c;omega
   subst au;and_intros<;>first|rfl|trivial
end Go.Proofs.Tryz
namespace Go.Proofs.Tryz
open Go Go.V Go.Proofs
def mxC (i:Nat):VQ:=((i:Int)+Int.tdiv i 3,(Int.tmod i 4,false))
def mx0 (n:Nat):List VQ:=(List.range n).map mxC
def Cz (by_:List Int) (l:List VQ) (i:Nat):List VQ:=(l.set (Int.tmod (ZT by_ i) (l.length:Int)).toNat (l.getD i BC)).set i (l.getD (Int.tmod (ZT by_ i) (l.length:Int)).toNat BC)
def mxD (by_:List Int) (l:List VQ):Nat->List VQ
 |0=>l
 |m+1=>Cz by_ (mxD by_ l m) m
def DI (by_:List Int):Nat:=if by_.length=0 then 1 else if by_.length<40 then by_.length else 40
def Qe (by_:List Int):List VQ:=mxD by_ (mx0 (DI by_)) (DI by_)
theorem PH (n:Nat):(mx0 n).length=n:=by unfold mx0;simp
theorem Se {by_:List Int}(hb:∀ x∈by_,0<=x/\x<=255) {l:List VQ}:∀ m,m<=l.length->(mxD by_ l m).Perm l
 |0,_=>.refl _
 |m+1,h=>by have ih:=Se hb (l:=l) m (by omega);unfold mxD Cz;have hl:=ih.length_eq;have h0:=(A8 hb (show (0:Int)<=(m:Int) by omega)).1;have h1:=Int.tmod_nonneg ((mxD by_ l m).length:Int) h0;have h2:=Int.tmod_lt_of_pos (ZT by_ (m:Nat)) (show (0:Int)<((mxD by_ l m).length:Int) by omega);exact(A_ (by omega) (by omega)).trans ih
theorem RQ (by_:List Int):1<=DI by_/\DI by_<=40:=by unfold DI;split<;>(try split)<;>omega
theorem CZ {by_:List Int}(hb:∀ x∈by_,0<=x/\x<=255):(Qe by_).Perm (mx0 (DI by_)):=Se hb _ (by rw[PH];exact z5 _)
theorem FQ {by_:List Int}(hb:∀ x∈by_,0<=x/\x<=255):(Qe by_).length=DI by_:=by rw[(CZ hb).length_eq,PH]
theorem Q7d {i:Nat}(h:i<40):Zh 2 (mxC i)=true/\0<=(mxC i).1:=by have e1:=Int.tdiv_eq_ediv_of_nonneg (b:=3) (show (0:Int)<=(i:Int) by omega);have e2:=Int.tmod_eq_emod_of_nonneg (b:=4) (show (0:Int)<=(i:Int) by omega);unfold Zh mxC inI;simp only[e1,e2,z2,zi];refine⟨⟨⟨by omega,by omega⟩,by omega,?_⟩,by omega⟩;show _<=(3:Int);omega
theorem Q3k {by_:List Int}(hb:∀ x∈by_,0<=x/\x<=255):(∀ c∈Qe by_,Zh 2 c=true/\0<=c.1)/\((Qe by_).map (·.1)).Nodup:=by
 have hp:=CZ hb;have hn:=RQ by_;constructor
 .intro c hc;obtain⟨i,hi,rfl⟩:=zq.1 (hp.mem_iff.1 hc);exact Q7d (by have:=zr.1 hi;omega)
 .refine (hp.map (·.1)).nodup_iff.2 ?_;unfold mx0;rw[w5];refine (xI.2 (List.pairwise_lt_range.imp λ{a b} h=>?_));have e1:=Int.tdiv_eq_ediv_of_nonneg (b:=3) (show (0:Int)<=(a:Int) by omega);have e2:=Int.tdiv_eq_ediv_of_nonneg (b:=3) (show (0:Int)<=(b:Int) by omega);simp only[Function.comp,mxC,e1,e2];omega
theorem Q58 {by_:List Int}(hb:∀ x∈by_,0<=x/\x<=255):Jw 2 (Qe by_)=0:=by
 obtain⟨h1,h2⟩:=Q3k hb;have hn:=RQ by_;have hl:=FQ hb;have he:QQ 2 (Qe by_)=0:=by
  unfold QQ;rw[z1 (by decide),z1 (by omega),z1 ?_];rintro (e|e)
  .rw[e] at hl;simp at hl;omega
  .obtain⟨c,hc,h⟩:=xi.1 e;rw[(h1 c hc).1] at h;cases h
 rw[So he];unfold RD;rw[z1,z0 h2];intro e;obtain⟨c,hc,h⟩:=xi.1 e;have:=(h1 c hc).2;have:=zl h;omega
def VS (cs:List VQ) (out:List Bool):Nat -> Int × Int × Int
  | 0 => (-1, -1, 0)
  | k + 1 => if out.getD k false = true then VS cs out k else
      (if (VS cs out k).1 < 0 then nmC cs k else (VS cs out k).1, nmC cs k,
       if (VS cs out k).1 < 0 then (VS cs out k).2.2 else if nmC cs k < (VS cs out k).2.1 then (VS cs out k).2.2 + 1 else (VS cs out k).2.2)
def Q4r (s:Int×Int×Int):Bool:=(decide ((if s.1<s.2.1 then s.2.2+1 else s.2.2)<=1)||decide (s.1<0))||(s.1==s.2.1)
def S2 (cs:List VQ) (out:List Bool):Bool:=Q4r (VS cs out cs.length)
theorem Oh {cs:List VQ}{out:List Bool}(h0:∀ k,k<cs.length->0<=nmC cs k):∀ k,k<=cs.length ->
  ((kpL (λp=>!out.getD p false) k).map (nmC cs)=[]/\VS cs out k=(-1,-1,0)) \/
  (∃ x t,(kpL (λp=>!out.getD p false) k).map (nmC cs)=x::t/\0<=x/\VS cs out k=(x,(x::t).getLastD 0,(SG (x::t):Int)))
 |0,_=>.inl ⟨rfl,rfl⟩
 |k+1,hk=>by
  have ih:=Oh h0 (out:=out) k (by omega);have hn:=h0 k (by omega);rw[OV];cases ho:out.getD k false with
  |true =>
   have e:VS cs out (k+1)=VS cs out k:=by show (if _ then _ else _)=_;rw[z0 ho]
   rw[e];simpa using ih
  |false =>
   have e:VS cs out (k+1)=(if (VS cs out k).1<0 then nmC cs k else (VS cs out k).1,nmC cs k,if (VS cs out k).1<0 then (VS cs out k).2.2 else if nmC cs k<(VS cs out k).2.1 then (VS cs out k).2.2+1 else (VS cs out k).2.2):=by show (if _ then _ else _)=_;rw[z1 (by rw[ho];decide)]
   rw[e,z0 (by rfl),xB];refine .inr ?_;rcases ih with⟨h1,h2⟩|⟨x,t,h1,hx,h2⟩
   .rw[h1,h2];exact⟨nmC cs k,[],rfl,hn,by simp[SG]⟩
   .rw[h1,h2];refine⟨x,t++[nmC cs k],rfl,hx,?_⟩;have ha:=DY (A:=x::t) (B:=[nmC cs k]) (by simp) (by simp);rw[zY] at ha;have hl:(x::(t++[nmC cs k])).getLastD 0=nmC cs k:=by
     rw[<-zY,xn,List.getLast?_append];rfl
    rw[ha,hl];have hz:SG [nmC cs k]=0:=rfl;have hd:([nmC cs k]:List Int).headD 0=nmC cs k:=rfl;rw[hz,hd];dsimp only;rw[z1 (by omega),z1 (by omega)];refine Prod.ext rfl (Prod.ext rfl ?_);dsimp only;split<;>omega
theorem Fj (cs:List VQ) (out:List Bool):∀ k,0<=(VS cs out k).2.2/\(VS cs out k).2.2<=k
 |0=>⟨Int.le_refl _,Int.le_refl _⟩
 |k+1=>by
  have ih:=Fj cs out k;unfold VS;split
  .omega
  .dsimp only;split
   .omega
   .split<;>omega
theorem Fs {cs:List VQ}(h:(cs.map (·.1)).Nodup) (kp:Nat->Bool):((kpL kp cs.length).map (nmC cs)).Nodup:=by
 have e:cs.map (·.1)=(List.range cs.length).map (nmC cs):=by
  refine List.ext_getElem (by simp) λi h1 h2=>?_;have hi:i<cs.length:=by simpa using h1
  simp only[xF,List.getElem_range,nmC,Qg hi]
 rw[e] at h;exact h.sublist ((List.filter_sublist).map _)
theorem H2 {cs:List VQ}{out:List Bool}(h0:∀ k,k<cs.length->0<=nmC cs k) (hn:(cs.map (·.1)).Nodup):S2 cs out=true<->OI ((kpL (λp=>!out.getD p false) cs.length).map (nmC cs)):=by
 have hd:=Fs hn (λp=>!out.getD p false);rw[Ia hd];unfold S2;rcases Oh (out:=out) h0 cs.length (z5 _) with⟨h1,h2⟩|⟨x,t,h1,hx,h2⟩
 .rw[h1,h2];exact⟨λ_=>by decide,λ_=>by decide⟩
 .rw[h1] at hd;rw[h1,h2];unfold Q4r Z33;dsimp only;have hh:(x::t).headD 0=x:=rfl;rw[hh];by_cases hl:x=(x::t).getLastD 0
  .have ht:t=[]:=by
    cases t with
    |nil=>rfl
    |cons y r =>
     exfalso;have hm:(x::y::r).getLastD 0∈y::r:=by rw[xn,List.getLast?_cons_cons,List.getLast?_eq_some_getLast (by simp)];exact List.getLast_mem _
     rw[<-hl] at hm;exact(zU.1 hd).1 hm
   subst ht;exact⟨λ_=>by simp[SG],λ_=>by simp⟩
  .have e1:(x==(x::t).getLastD 0)=false:=beq_false_of_ne hl;rw[e1,xO (show ¬ x<0 by omega),xU,xU,zi];split<;>omega
theorem Q0c {A B:List Int}(h:OI (A++B)):OI (B++A):=by
 obtain⟨X,Y,e,hs⟩:=h;rcases List.append_eq_append_iff.1 e with⟨Z,rfl,rfl⟩|⟨Z,rfl,rfl⟩
 .exact⟨Z,Y++A,by simp,by simpa using hs⟩
 .exact⟨B++X,Z,by simp,by simpa using hs⟩
theorem Fl {nm nm':Nat->Int}{kp kp':Nat->Bool}{f g:Nat}(h1:∀ p,p<g->nm' p=nm (f+p)/\kp' p=kp (f+p)) (h2:∀ p,p<f->nm' (g+p)=nm p/\kp' (g+p)=kp p) :
  ∃ A B,(kpL kp (f+g)).map nm=A++B/\(kpL kp' (g+f)).map nm'=B++A:=by
 refine⟨((List.range f).filter kp).map nm,((List.range g).filter λp=>kp (f+p)).map λp=>nm (f+p),?_,?_⟩
 .unfold kpL;rw[List.range_add,List.filter_append,xB,List.filter_map,w5];rfl
 .unfold kpL;rw[List.range_add,List.filter_append,xB,List.filter_map,w5];have e1:(List.range g).filter kp'=(List.range g).filter λp=>kp (f+p):=List.filter_congr λp hp=>(h1 p (zr.1 hp)).2;have e2:(List.range f).filter (kp' ∘ λp=>g+p)=(List.range f).filter kp:=List.filter_congr λp hp=>(h2 p (zr.1 hp)).2;rw[e1,e2];congr 1
  .exact x9 λp hp=>(h1 p (zr.1 (zy.1 hp).1)).1
  .exact x9 λp hp=>(h2 p (zr.1 (zy.1 hp).1)).1
theorem Ic {nm nm':Nat->Int}{f g:Nat}(h1:∀ p,p<g->nm' p=nm (f+p)) (h2:∀ p,p<f->nm' (g+p)=nm p):YM nm (f+g)<=YM nm' (g+f):=by
 obtain⟨-,-,⟨ho,hc⟩,-⟩:=X5 (nm:=nm) (n:=f+g);generalize (λp=>!woL (mvK nm (f+g) (f+g)) p)=kp at ho hc
 obtain⟨A,B,e1,e2⟩:=Fl (nm:=nm) (nm':=nm') (kp:=kp) (kp':=λp=>if p<g then kp (f+p) else kp (p-g)) (f:=f) (g:=g)
  (λp hp=>⟨h1 p hp,z0 hp⟩) (λp hp=>⟨h2 p hp,by show (if _ then _ else _)=_;rw[z1 (by omega),Nat.add_sub_cancel_left]⟩)
 rw[e1] at ho;have h3:=Q0c ho;rw[<-e2] at h3;have h4:=Py h3;have l1:=congrArg List.length e1;have l2:=congrArg List.length e2;simp only[x_,zB] at l1 l2;omega
theorem OM {nm nm':Nat->Int}{f g:Nat}(h1:∀ p,p<g->nm' p=nm (f+p)) (h2:∀ p,p<f->nm' (g+p)=nm p):YM nm' (g+f)=YM nm (f+g) :=
 Int.le_antisymm (Ic (nm:=nm') (nm':=nm) (f:=g) (g:=f) (λp hp=>(h2 p hp).symm) (λp hp=>(h1 p hp).symm)) (Ic h1 h2)
theorem FE {cs:List VQ}{f:Nat}(hf:f<=cs.length):(mvK (nmC (cs.drop f++cs.take f)) cs.length cs.length).length=(mvK (nmC cs) cs.length cs.length).length:=by
 obtain⟨-,-,-,h1,-⟩:=X5 (nm:=nmC (cs.drop f++cs.take f)) (n:=cs.length);obtain⟨-,-,-,h2,-⟩:=X5 (nm:=nmC cs) (n:=cs.length);obtain⟨g,hg⟩:∃ g,cs.length=f+g:=⟨cs.length-f,by omega⟩;have hd:(cs.drop f).length=g:=by rw[xM];omega
 have h:=OM (nm:=nmC cs) (nm':=nmC (cs.drop f++cs.take f)) (f:=f) (g:=g) (λp hp=>by
   unfold nmC;rw[z4,x6 (by omega),zw,<-z4]) (λp hp=>by
   unfold nmC;rw[z4,xc (by omega),hd,Nat.add_sub_cancel_left,zL,z0 hp,<-z4])
 rw[xP g f,<-hg] at h;omega
theorem Q0t {cs:List VQ}(hl:1<=cs.length/\cs.length<=60) (h1:∀ c∈cs,Zh 2 c=true/\0<=c.1) (h2:(cs.map (·.1)).Nodup):Jw 2 cs=0:=by
 have he:QQ 2 cs=0:=by
  unfold QQ;rw[z1 (by decide),z1 (by omega),z1 ?_];rintro (e|e)
  .rw[e] at hl;simp at hl
  .obtain⟨c,hc,h⟩:=xi.1 e;rw[(h1 c hc).1] at h;cases h
 rw[So he];unfold RD;rw[z1,z0 h2];intro e;obtain⟨c,hc,h⟩:=xi.1 e;have:=(h1 c hc).2;have:=zl h;omega
def A0 (l:List Int) (n:Nat):Nat->List Bool
 |0=>List.replicate n false
 |k+1=>(A0 l n k).set (l.getD k 0).toNat true
theorem Al {l:List Int}{n:Nat}(hb:∀ i∈l,0<=i/\i<(n:Int)):∀ k,k<=l.length->(A0 l n k).length=n/\∀ p,p<n->(A0 l n k).getD p false=decide ((p:Int)∈l.take k)
 |0,_=>⟨by unfold A0;simp,λp hp=>by unfold A0;simp[hp]⟩
 |k+1,hk=>by
  obtain⟨h1,h2⟩:=Al hb k (by omega);have hx:=hb _ (zn (show k<l.length by omega));unfold A0;refine⟨by rw[xx];exact h1,λp hp=>?_⟩;rw[Qg (show k<l.length by omega),List.take_succ_eq_append_getElem (show k<l.length by omega)];have e:((A0 l n k).set l[k].toNat true).getD p false=if l[k].toNat=p then true else (A0 l n k).getD p false:=by
   rw[z4,xu];split
   .rw[z0 (by omega)];rfl
   .rw[z4]
  rw[e,h2 p hp];split
  .exact(xA (xl _ (z8.2 (by omega)))).symm
  .refine decide_eq_decide.2 ⟨λh=>xr _ h,λh=>?_⟩;rcases zu.1 h with h|h
   .exact h
   .have:=z8.1 h;omega
theorem Ox (n:Nat):(kpL (λp=>!(List.replicate n false).getD p false) n)=List.range n:=by unfold kpL;refine List.filter_eq_self.2 λp _=>?_;rw[z4,List.getElem?_replicate];split<;>rfl
theorem Q2f (s:List Bool):(kpL (λp=>s.getD p false) s.length).length=s.count true:=by
 have e:s=(List.range s.length).map λp=>s.getD p false:=by refine List.ext_getElem (by simp) λi h1 h2=>?_;simp only[xF,List.getElem_range,Qg h1]
 unfold kpL;rw[<-List.countP_eq_length_filter,List.count];conv=>rhs;rw[e]
 rw[List.countP_map];refine List.countP_congr λp _=>?_;simp only[Function.comp];generalize s.getD p false=b;cases b<;>simp
section
variable {cs:List VQ}(h0:∀ k,k<cs.length->0<=nmC cs k) (hn:(cs.map (·.1)).Nodup)
include h0 hn
theorem Q68 {out:List Bool}(hl:∀ p,p<cs.length->out.getD p false=woL (mvK (nmC cs) cs.length cs.length) p):S2 cs out=true:=by
 obtain⟨-,-,⟨ho,-⟩,-⟩:=X5 (nm:=nmC cs) (n:=cs.length);refine (H2 h0 hn).2 ?_;have e:kpL (λp=>!out.getD p false) cs.length=kpL (λp=>!woL (mvK (nmC cs) cs.length cs.length) p) cs.length:=List.filter_congr λp hp=>by rw[hl p (zr.1 hp)]
 rw[e];exact ho
theorem OQ:(((mvK (nmC cs) cs.length cs.length).length:Int)==0)=S2 cs (List.replicate cs.length false):=by
 obtain⟨-,-,⟨ho,-⟩,h4,-⟩:=X5 (nm:=nmC cs) (n:=cs.length);rw[Bool.eq_iff_iff,zS,H2 h0 hn];constructor
 .intro h;have hz:mvK (nmC cs) cs.length cs.length=[]:=zW.1 (by omega);rw[hz] at ho;rw[Ox];have e:kpL (λp=>!woL [] p) cs.length=List.range cs.length:=List.filter_eq_self.2 λp _=>rfl;rw[e] at ho;exact ho
 .intro h;have h3:=Py h;rw[Ox,wh] at h3;omega
theorem Z0f {s:List Bool}(hs:s.length=cs.length) (h:S2 cs s=true):(mvK (nmC cs) cs.length cs.length).length<=s.count true:=by obtain⟨-,-,-,h4,-⟩:=X5 (nm:=nmC cs) (n:=cs.length);have h3:=Py ((H2 h0 hn).1 h);have h5:=VG (λp=>s.getD p false) cs.length;have h6:=Q2f s;rw[hs] at h6;omega
theorem IC {s:List Bool}(hs:s.length=cs.length) (h:S2 cs s=true) (hc:s.count true=(mvK (nmC cs) cs.length cs.length).length) {i:Nat}(hi:i<cs.length)
  (ha:∀ q,q<i->s.getD q false=woL (mvK (nmC cs) cs.length cs.length) q) (ht:s.getD i false=true):woL (mvK (nmC cs) cs.length cs.length) i=true:=by
 obtain⟨-,-,-,h4,h5⟩:=X5 (nm:=nmC cs) (n:=cs.length);have hO:=(H2 h0 hn).1 h;have h6:=VG (λp=>s.getD p false) cs.length;have h7:=Q2f s;rw[hs] at h7;refine xA (h5 (λp=>!s.getD p false) ⟨hO,by omega⟩ i hi (λq hq=>by rw[ha q hq]) (by rw[ht];rfl))
omit h0 hn in
theorem Z0c (hl:1<=cs.length):(mvK (nmC cs) cs.length cs.length).length<cs.length:=by
 obtain⟨-,-,-,h4,-⟩:=X5 (nm:=nmC cs) (n:=cs.length);have e:kpL (λp=>decide (p=0)) cs.length=[0]:=by obtain⟨m,hm⟩:∃ m,cs.length=m+1:=⟨cs.length-1,by omega⟩;rw[hm];unfold kpL;rw[List.range_succ_eq_map,List.filter_cons_of_pos (by rfl)];congr 1;refine List.filter_eq_nil_iff.2 λx hx=>?_;obtain⟨y,_,rfl⟩:=zq.1 hx;simp
 have h3:=Py (nm:=nmC cs) (n:=cs.length) (kp:=λp=>decide (p=0)) (by rw[e];exact⟨[],[nmC cs 0],rfl,by simp⟩);rw[e] at h3;simp only[zP,List.length_nil] at h3;omega
end
theorem count_set {s:List Bool}{a:Nat}(ha:a<s.length) (h:s.getD a false=false):(s.set a true).count true=s.count true+1:=by rw[Qg ha] at h;rw[List.count_set ha,h];simp
def Nh:AL (List Int×Int):=(.cons (.k (.list (.i .u8))) (.one (.k (.i .i64))))
def Bx (d:List Int×Int):Prop:=d.1.length<=9223372036854775807/\0<=d.2/\∀ x∈d.1,0<=x/\x<=255
def Ux (d:List Int×Int):SV:=.val (.i .i64) (ZT d.1 d.2)
def Uu (d:List Int×Int):List OB:=[]
def V4:CSp:=N2 Nh Bx Ux Uu
def W3 (l:List Int) (i:Int):Prop :=
 (((lI l)==(0:Int))=true ->
  ((0:Int)=(ZT l i)/\(True))) /\
 (((lI l)==(0:Int))=false ->
  ((lI l)≠0)/\(0<=(Int.tmod i (lI l)))/\((Int.tmod i (lI l))<(List.length l))/\(I64 (gD l (Int.tmod i (lI l)) 0))/\((gD l (Int.tmod i (lI l)) 0)=(ZT l i)/\(True)))
def Nc:Cx:=⟨[],[],16,[],0,[],[],[],[],false,[],[],[],[]⟩
def Pz (l:List Int) (i:Int):List (Nat×LoopAnn):=[]
theorem PC (d:List Int×Int):gwp (Nc) (Pz d.1 d.2) c50 0 (Nu [.tmp 4] (Ux d) (Uu d)) (Q_ 16 (AL.can Nh d))=W3 d.1 d.2:=by kernel_rfl
abbrev HP:Prop:=OkC Tryz.prog 50 V4
theorem Pa (h:∀ (l:List Int) (i:Int),(l.length<=9223372036854775807/\0<=i/\∀ x∈l,0<=x/\x<=255)->W3 l i):OkC Tryz.prog 50 V4 :=
 Zn Q4l mixed (C:=Nc) (V:=λ(d:List Int×Int)=>W3 d.1 d.2) ⟨.nil,XsOk.nil,ItsOk.nil,YlOk.nil,IysOk.nil,XfOk.nil⟩ (PC) λd hp=>h d.1 d.2 hp
theorem PK:HP:=Pa λl i h=>by
 obtain⟨h1,h2,h3⟩:=h;unfold W3;(try delta lI gD sT I64 Xz pj8 pj4);refine⟨λhx=>?_,λhx=>?_⟩
 .have:l.length=0:=by have:=eq_of_beq hx;omega
  unfold ZT;rw[z0 this];exact(by and_intros<;>first|rfl|trivial|simp)
 .have h0:l.length≠0:=by have:=ne_of_beq_false hx;omega
  have e:=Int.tmod_eq_emod_of_nonneg (b:=(l.length:Int)) h2;have g1:=Int.emod_nonneg i (show (l.length:Int)≠0 by omega);have g2:=Int.emod_lt_of_pos i (show (0:Int)<l.length by omega);have g3:(Int.tmod i l.length).toNat<l.length:=by omega
  have g4:=h3 _ (by rw[Qg g3];exact zn g3:l.getD (Int.tmod i l.length).toNat 0∈l);refine⟨by omega,by omega,by omega,by rw[Qh];omega,?_⟩;unfold ZT;rw[z1 h0];exact(by and_intros<;>first|rfl|trivial|simp)
def Mz:AL (List Int):=(.one (.k (.list (.i .u8))))
def P3 (d:List Int):Prop:=d.length<=9223372036854775807/\∀ x∈d,0<=x/\x<=255
def NL (d:List Int):SV:=.agg [.val (.i .i64) (2:Int),.lst 0]
def M3 (d:List Int):List OB:=[.lst 87 (.pair (.i .i64) (.pair (.i .i64) .bo)) (Qe d) false]
def Up:CSp:=N2 Mz P3 NL M3
def Yd (by_:List Int):Prop :=
 ∃ (e4:Unit) (d40:(List (Int×Int×Bool))×Int),((by_=by_/\True/\True/\(0:Int)=d40.2/\True)/\(((0:Int)=(0:Int)/\True/\(([]:List SV)=[]))/\((2:Int)=(2:Int)/\True/\(([]:List SV)=[]))/\(d40.1=[]/\(List.isEmpty d40.1)=true)/\True)) /\
 LoopP (λ(d4:(List (Int×Int×Bool))×Int) (q4:((List (Int×Int×Bool))×Int)->Prop) =>
  (((d4.2==(0:Int))||((decide (d4.2<(lI by_)))&&(decide (d4.2<(40:Int)))))=true ->
   ((3:Int)≠0)/\(I64 (Int.tdiv d4.2 (3:Int)))/\(I64 (d4.2+(Int.tdiv d4.2 (3:Int))))/\((4:Int)≠0)/\(((List.length d4.1)+(List.length [((d4.2+(Int.tdiv d4.2 (3:Int))),((Int.tmod d4.2 (4:Int)),false))]))*24<=70368744177664)/\(I64 (d4.2+(1:Int)))/\(∃ d5:(List (Int×Int×Bool))×Int,((by_=by_/\True/\True/\(d4.2+(1:Int))=d5.2/\True)/\(((0:Int)=(0:Int)/\True/\(([]:List SV)=[]))/\((2:Int)=(2:Int)/\True/\(([]:List SV)=[]))/\((d4.1++[((d4.2+(Int.tdiv d4.2 (3:Int))),((Int.tmod d4.2 (4:Int)),false))])=d5.1/\false=(List.isEmpty d5.1))/\True))/\q4 d5)) /\
  (((d4.2==(0:Int))||((decide (d4.2<(lI by_)))&&(decide (d4.2<(40:Int)))))=false ->
   ∃ (e8:Unit) (d80:(List (Int×Int×Bool))×Int),((by_=by_/\True/\True/\(0:Int)=d80.2/\True)/\(((0:Int)=(0:Int)/\True/\(([]:List SV)=[]))/\((2:Int)=(2:Int)/\True/\(([]:List SV)=[]))/\(d4.1=d80.1/\(List.isEmpty d4.1)=(List.isEmpty d80.1))/\True)) /\
   LoopP (λ(d8:(List (Int×Int×Bool))×Int) (q8:((List (Int×Int×Bool))×Int)->Prop) =>
    ((decide (d8.2<(lI d8.1)))=true ->
     (by_.length<=9223372036854775807/\0<=d8.2/\∀ x∈by_,0<=x/\x<=255)/\((lI d8.1)≠0)/\(0<=d8.2)/\(d8.2<(List.length d8.1))/\(0<=(Int.tmod (ZT by_ d8.2) (lI d8.1)))/\((Int.tmod (ZT by_ d8.2) (lI d8.1))<(List.length d8.1))/\((by_=by_/\True/\True/\d8.2=d8.2/\(Int.tmod (ZT by_ d8.2) (lI d8.1))=(Int.tmod (ZT by_ d8.2) (lI d8.1))/\True/\True/\((gD d8.1 (Int.tmod (ZT by_ d8.2) (lI d8.1)) (0,(0,false))).1=(gD d8.1 (Int.tmod (ZT by_ d8.2) (lI d8.1)) (0,(0,false))).1/\(gD d8.1 (Int.tmod (ZT by_ d8.2) (lI d8.1)) (0,(0,false))).2.1=(gD d8.1 (Int.tmod (ZT by_ d8.2) (lI d8.1)) (0,(0,false))).2.1/\(gD d8.1 (Int.tmod (ZT by_ d8.2) (lI d8.1)) (0,(0,false))).2.2=(gD d8.1 (Int.tmod (ZT by_ d8.2) (lI d8.1)) (0,(0,false))).2.2/\(([]:List SV)=[]))/\True)/\(((0:Int)=(0:Int)/\True/\(([]:List SV)=[]))/\((2:Int)=(2:Int)/\True/\(([]:List SV)=[]))/\((gD d8.1 d8.2 (0,(0,false))).1=(gD d8.1 d8.2 (0,(0,false))).1/\(gD d8.1 d8.2 (0,(0,false))).2.1=(gD d8.1 d8.2 (0,(0,false))).2.1/\(gD d8.1 d8.2 (0,(0,false))).2.2=(gD d8.1 d8.2 (0,(0,false))).2.2/\(([]:List SV)=[]))/\((0:Int)=(0:Int)/\(0:Int)=(0:Int)/\false=false/\(([]:List SV)=[]))/\(d8.1=d8.1/\(List.isEmpty d8.1)=(List.isEmpty d8.1))/\True))/\((0<=d8.2)/\(d8.2<(List.length d8.1))/\(0<=(Int.tmod (ZT by_ d8.2) (lI d8.1)))/\((Int.tmod (ZT by_ d8.2) (lI d8.1))<(List.length d8.1))/\((by_=by_/\True/\True/\d8.2=d8.2/\(Int.tmod (ZT by_ d8.2) (lI d8.1))=(Int.tmod (ZT by_ d8.2) (lI d8.1))/\True/\True/\((gD d8.1 (Int.tmod (ZT by_ d8.2) (lI d8.1)) (0,(0,false))).1=(gD d8.1 (Int.tmod (ZT by_ d8.2) (lI d8.1)) (0,(0,false))).1/\(gD d8.1 (Int.tmod (ZT by_ d8.2) (lI d8.1)) (0,(0,false))).2.1=(gD d8.1 (Int.tmod (ZT by_ d8.2) (lI d8.1)) (0,(0,false))).2.1/\(gD d8.1 (Int.tmod (ZT by_ d8.2) (lI d8.1)) (0,(0,false))).2.2=(gD d8.1 (Int.tmod (ZT by_ d8.2) (lI d8.1)) (0,(0,false))).2.2/\(([]:List SV)=[]))/\True)/\(((0:Int)=(0:Int)/\True/\(([]:List SV)=[]))/\((2:Int)=(2:Int)/\True/\(([]:List SV)=[]))/\((gD d8.1 d8.2 (0,(0,false))).1=(gD d8.1 d8.2 (0,(0,false))).1/\(gD d8.1 d8.2 (0,(0,false))).2.1=(gD d8.1 d8.2 (0,(0,false))).2.1/\(gD d8.1 d8.2 (0,(0,false))).2.2=(gD d8.1 d8.2 (0,(0,false))).2.2/\(([]:List SV)=[]))/\((0:Int)=(0:Int)/\(0:Int)=(0:Int)/\false=false/\(([]:List SV)=[]))/\(d8.1=d8.1/\(List.isEmpty d8.1)=(List.isEmpty d8.1))/\True)))/\(0<=(Int.tmod (ZT by_ d8.2) (lI d8.1)))/\((Int.tmod (ZT by_ d8.2) (lI d8.1))<(List.length d8.1))/\(((Int.tmod (ZT by_ d8.2) (lI d8.1)) != d8.2)=true ->
      (0<=d8.2)/\(d8.2<(List.length (sT d8.1 (Int.tmod (ZT by_ d8.2) (lI d8.1)) ((gD d8.1 d8.2 (0,(0,false))).1,((gD d8.1 d8.2 (0,(0,false))).2.1,(gD d8.1 d8.2 (0,(0,false))).2.2)))))/\(I64 (d8.2+(1:Int)))/\(∃ d9:(List (Int×Int×Bool))×Int,((by_=by_/\True/\True/\(d8.2+(1:Int))=d9.2/\True)/\(((0:Int)=(0:Int)/\True/\(([]:List SV)=[]))/\((2:Int)=(2:Int)/\True/\(([]:List SV)=[]))/\((sT (sT d8.1 (Int.tmod (ZT by_ d8.2) (lI d8.1)) ((gD d8.1 d8.2 (0,(0,false))).1,((gD d8.1 d8.2 (0,(0,false))).2.1,(gD d8.1 d8.2 (0,(0,false))).2.2))) d8.2 ((gD d8.1 (Int.tmod (ZT by_ d8.2) (lI d8.1)) (0,(0,false))).1,((gD d8.1 (Int.tmod (ZT by_ d8.2) (lI d8.1)) (0,(0,false))).2.1,(gD d8.1 (Int.tmod (ZT by_ d8.2) (lI d8.1)) (0,(0,false))).2.2)))=d9.1/\(List.isEmpty d8.1)=(List.isEmpty d9.1))/\True))/\q8 d9)) /\
     (((Int.tmod (ZT by_ d8.2) (lI d8.1)) != d8.2)=false ->
      (I64 (d8.2+(1:Int)))/\(∃ d10:(List (Int×Int×Bool))×Int,((by_=by_/\True/\True/\(d8.2+(1:Int))=d10.2/\True)/\(((0:Int)=(0:Int)/\True/\(([]:List SV)=[]))/\((2:Int)=(2:Int)/\True/\(([]:List SV)=[]))/\((sT d8.1 (Int.tmod (ZT by_ d8.2) (lI d8.1)) ((gD d8.1 d8.2 (0,(0,false))).1,((gD d8.1 d8.2 (0,(0,false))).2.1,(gD d8.1 d8.2 (0,(0,false))).2.2)))=d10.1/\(List.isEmpty d8.1)=(List.isEmpty d10.1))/\True))/\q8 d10))) /\
    ((decide (d8.2<(lI d8.1)))=false ->
     (((2:Int)=(2:Int)/\True/\(([]:List SV)=[]))/\((d8.1=(Qe by_)/\(List.isEmpty d8.1)=false)/\True)))) d80)) d40
def Mw:Cx:=⟨[(87,(.pair (.i .i64) (.pair (.i .i64) .bo)))],[(50,V4)],74,[],0,[],[],[],[0,2,3,5,6,7,8,59],false,[],[],[],[]⟩
def Ta (by_:List Int):List (Nat×LoopAnn):=[(0,⟨Unit,(List (Int×Int×Bool))×Int,[0,2,3,4],λe x=>[.val (.list (.i .u8)) by_,.box 2 0,.box 3 0,.val (.i .i64) x.2],λe x=>[(2,.slot 2,.cells [.val (.i .i64) (0:Int),.nilS] (some 24)),(3,.slot 3,.cells [.val (.i .i64) (2:Int),.lst 34] (some 24)),(34,.cell 3 1,.lst 87 (.pair (.i .i64) (.pair (.i .i64) .bo)) x.1 (List.isEmpty x.1))]⟩),
 (2,⟨Unit,(List (Int×Int×Bool))×Int,[0,2,3,5],λe x=>[.val (.list (.i .u8)) by_,.box 2 0,.box 3 0,.val (.i .i64) x.2],λe x=>[(2,.slot 2,.cells [.val (.i .i64) (0:Int),.nilS] (some 24)),(3,.slot 3,.cells [.val (.i .i64) (2:Int),.lst 34] (some 24)),(34,.cell 3 1,.lst 87 (.pair (.i .i64) (.pair (.i .i64) .bo)) x.1 (List.isEmpty x.1))]⟩)]
theorem T5 (d:List Int):gwp (Mw) (Ta d) c51 0 (Nu [.cell 2 true 2] (NL d) (M3 d)) (Q_ 74 (AL.can Mz d))=Yd d:=by kernel_rfl
abbrev Tp:Prop:=OkC Tryz.prog 51 Up
theorem Tc (h:∀ (by_:List Int),(by_.length<=9223372036854775807/\∀ x∈by_,0<=x/\x<=255)->Yd by_):OkC Tryz.prog 51 Up :=
 Zn Q5w mixed (C:=Mw) (V:=λ(d:List Int)=>Yd d) ⟨(.cons PK .nil),XsOk.nil,ItsOk.nil,YlOk.nil,IysOk.nil,XfOk.nil⟩ (T5) λd hp=>h d hp
theorem Tu:Tp:=Tc λby_ h=>by
 obtain⟨h1,h2⟩:=h;have hN:=RQ by_;unfold Yd;(try delta lI gD sT I64 Xz pj8 pj4);refine⟨(),([],0),(by and_intros<;>first|rfl|trivial),?_⟩;refine⟨λd=>∃ k:Nat,k<=DI by_/\d=(mx0 k,(k:Int)),λd=>DI by_-d.2.toNat,⟨0,by omega,rfl⟩,?_⟩;rintro _ ⟨k,hk,rfl⟩;dsimp only;have hc:(((k:Int)==0)||(decide ((k:Int)<by_.length)&&decide ((k:Int)<40)))=decide (k<DI by_):=by rw[Bool.eq_iff_iff];simp only[zp,z2,zi,zS];unfold DI at hk |-;split at hk<;>(try split at hk)<;>(try split)<;>(try split)<;>omega
 rw[hc];refine⟨λc=>?_,λc=>?_⟩
 .have c:=zl c;have e1:=Int.tdiv_eq_ediv_of_nonneg (b:=3) (show (0:Int)<=(k:Int) by omega);have hl:=PH k;refine⟨by decide,by rw[Qh,e1];omega,by rw[Qh,e1];omega,by decide,?_,by rw[Qh];omega,?_⟩
  .rw[hl];simp only[zP,List.length_nil];omega
  .refine⟨(mx0 (k+1),((k+1:Nat):Int)),?_,⟨k+1,by omega,rfl⟩,by dsimp only;omega⟩;have he:mx0 k++[(((k:Int)+Int.tdiv k 3),(Int.tmod k 4,false))]=mx0 (k+1):=by
    unfold mx0;rw[List.range_succ,xB];rfl
   rw[he];have av:false=(mx0 (k+1)).isEmpty:=by rw[<-he];cases mx0 k<;>rfl
   and_intros<;>first|rfl|trivial|exact av|(push_cast;rfl)
 .have c:=zK c;have ef:k=DI by_:=by omega
  subst ef;refine⟨(),(mx0 (DI by_),0),(by and_intros<;>first|rfl|trivial),?_⟩;refine⟨λd=>∃ m:Nat,m<=DI by_/\d=(mxD by_ (mx0 (DI by_)) m,(m:Int)),λd=>DI by_-d.2.toNat,⟨0,by omega,rfl⟩,?_⟩;rintro _ ⟨m,hm,rfl⟩;dsimp only;have hl:(mxD by_ (mx0 (DI by_)) m).length=DI by_:=by rw[(Se h2 m (by rw[PH];exact hm)).length_eq,PH]
  have aS:mxD by_ (mx0 (DI by_)) (m+1)=Cz by_ (mxD by_ (mx0 (DI by_)) m) m:=rfl;have gO:Qe by_=mxD by_ (mx0 (DI by_)) (DI by_):=rfl;rw[gO];generalize mx0 (DI by_)=l0 at *
  generalize rA:mxD by_ l0 (m+1)=l2 at *
  generalize uX:mxD by_ l0 m=l1 at *
  refine⟨λc=>?_,λc=>?_⟩
  .have c:=zl c;have hb:=A8 h2 (show (0:Int)<=(m:Int) by omega);have t1:=Int.tmod_nonneg (l1.length:Int) hb.1;have t2:=Int.tmod_lt_of_pos (ZT by_ m) (show (0:Int)<(l1.length:Int) by omega);unfold Cz at aS;generalize Int.tmod (ZT by_ (m:Int)) (l1.length:Int)=k at *
   obtain⟨k,rfl⟩:=xm t1;simp only[zz] at aS |-;have cj:l2.length=l1.length:=by rw[aS,xx,xx]
   have oX:l1.isEmpty=l2.isEmpty:=by
    cases l1 with
    |nil=>simp at t2;omega
    |cons _ _=>cases l2 with|nil=>simp at cj|cons _ _=>rfl
   have fin:∃ m':Nat,m'<=DI by_/\((l2,((m:Int)+1)):List VQ×Int)=(mxD by_ l0 m',(m':Int)):=⟨m+1,by omega,by rw[Prod.mk.injEq];exact⟨rA.symm,by push_cast;rfl⟩⟩;have iQ:DI by_-((l2,((m:Int)+1)):List VQ×Int).2.toNat<DI by_-((m:Int)).toNat:=by dsimp only;omega
   unfold BC at aS;subst aS;refine⟨⟨h1,by omega,h2⟩,by omega,by omega,by omega,by omega,by omega,(by and_intros<;>first|rfl|trivial),⟨by omega,by omega,by omega,by omega,(by and_intros<;>first|rfl|trivial)⟩,by omega,by omega,λav=>⟨by omega,by rw[xx];omega,by rw[Qh];omega,(_,(m:Int)+1),?_,fin,iQ⟩,λheq=>⟨by rw[Qh];omega,(_,(m:Int)+1),?_,fin,iQ⟩⟩
   .and_intros<;>first|rfl|trivial|exact oX
   .have mO:k=m:=by
     have:=zl (p:=(k:Int)=m) (by simpa using heq);omega
    subst mO;and_intros<;>first|rfl|trivial|exact oX|exact(List.set_set _).symm
  .have c:=zK c;have eW:m=DI by_:=by omega
   subst eW;refine⟨⟨rfl,trivial,rfl⟩,⟨uX.symm,?_⟩,trivial⟩;cases l1 with
   |nil=>simp at hl;omega
   |cons _ _=>rfl
def Uw:AL ((Int×List (Int×Int×Bool))×List Bool):=(.cons (.agg (.cons (.k (.i .i64)) (.one (.k (.list (.pair (.i .i64) (.pair (.i .i64) .bo))))))) (.one (.k (.list .bo))))
def DF (d:(Int×List (Int×Int×Bool))×List Bool):Prop:=d.1.2.length<=1000/\d.2.length=d.1.2.length
def Vm (d:(Int×List (Int×Int×Bool))×List Bool):SV:=.val .bo (S2 d.1.2 d.2)
def Vu (d:(Int×List (Int×Int×Bool))×List Bool):List OB:=[]
def KI:CSp:=N2 Uw DF Vm Vu
def Xr (hk:Int) (cs:List (Int×Int×Bool)) (out:List Bool):Prop :=
 ∃ (e3:Unit) (d30:Int×Int×Int×Int),((out=out/\True/\(-1:Int)=d30.1/\(-1:Int)=d30.2.1/\(0:Int)=d30.2.2.1/\(0:Int)=d30.2.2.2/\True)/\((hk=hk/\cs=cs/\(([]:List SV)=[]))/\True)) /\
 LoopP (λ(d3:Int×Int×Int×Int) (q3:(Int×Int×Int×Int)->Prop) =>
  ((decide (d3.2.2.2<(lI cs)))=true ->
   (0<=d3.2.2.2)/\(d3.2.2.2<(List.length out))/\((gD out d3.2.2.2 false)=true ->
    (I64 (d3.2.2.2+(1:Int)))/\(∃ d4:Int×Int×Int×Int,((out=out/\True/\d3.1=d4.1/\d3.2.1=d4.2.1/\d3.2.2.1=d4.2.2.1/\(d3.2.2.2+(1:Int))=d4.2.2.2/\True)/\((hk=hk/\cs=cs/\(([]:List SV)=[]))/\True))/\q3 d4)) /\
   ((gD out d3.2.2.2 false)=false ->
    (0<=d3.2.2.2)/\(d3.2.2.2<(List.length cs))/\((decide (d3.1<(0:Int)))=true ->
     (I64 (d3.2.2.2+(1:Int)))/\(∃ d5:Int×Int×Int×Int,((out=out/\True/\(gD cs d3.2.2.2 (0,(0,false))).1=d5.1/\(gD cs d3.2.2.2 (0,(0,false))).1=d5.2.1/\d3.2.2.1=d5.2.2.1/\(d3.2.2.2+(1:Int))=d5.2.2.2/\True)/\((hk=hk/\cs=cs/\(([]:List SV)=[]))/\True))/\q3 d5)) /\
    ((decide (d3.1<(0:Int)))=false ->
     ((decide ((gD cs d3.2.2.2 (0,(0,false))).1<d3.2.1))=true ->
      (I64 (d3.2.2.1+(1:Int)))/\(I64 (d3.2.2.2+(1:Int)))/\(∃ d6:Int×Int×Int×Int,((out=out/\True/\d3.1=d6.1/\(gD cs d3.2.2.2 (0,(0,false))).1=d6.2.1/\(d3.2.2.1+(1:Int))=d6.2.2.1/\(d3.2.2.2+(1:Int))=d6.2.2.2/\True)/\((hk=hk/\cs=cs/\(([]:List SV)=[]))/\True))/\q3 d6)) /\
     ((decide ((gD cs d3.2.2.2 (0,(0,false))).1<d3.2.1))=false ->
      (I64 (d3.2.2.2+(1:Int)))/\(∃ d7:Int×Int×Int×Int,((out=out/\True/\d3.1=d7.1/\(gD cs d3.2.2.2 (0,(0,false))).1=d7.2.1/\d3.2.2.1=d7.2.2.1/\(d3.2.2.2+(1:Int))=d7.2.2.2/\True)/\((hk=hk/\cs=cs/\(([]:List SV)=[]))/\True))/\q3 d7))))) /\
  ((decide (d3.2.2.2<(lI cs)))=false ->
   ((decide (d3.1<d3.2.1))=true ->
    (I64 (d3.2.2.1+(1:Int)))/\((((decide ((d3.2.2.1+(1:Int))<=(1:Int)))||(decide (d3.1<(0:Int))))||(d3.1==d3.2.1))=(S2 cs out)/\(True))) /\
   ((decide (d3.1<d3.2.1))=false ->
    ((((decide (d3.2.2.1<=(1:Int)))||(decide (d3.1<(0:Int))))||(d3.1==d3.2.1))=(S2 cs out)/\(True))))) d30
def UD:Cx:=⟨[],[],52,[],0,[],[],[],[],false,[],[],[],[]⟩
def BQ (hk:Int) (cs:List (Int×Int×Bool)) (out:List Bool):List (Nat×LoopAnn):=[(0,⟨Unit,Int×Int×Int×Int,[1,2,5,6,7,8],λe x=>[.val (.list .bo) out,.box 2 0,.val (.i .i64) x.1,.val (.i .i64) x.2.1,.val (.i .i64) x.2.2.1,.val (.i .i64) x.2.2.2],λe x=>[(2,.slot 2,.cells [.val (.i .i64) hk,.val (.list (.pair (.i .i64) (.pair (.i .i64) .bo))) cs] (some 24))]⟩)]
theorem BB (d:(Int×List (Int×Int×Bool))×List Bool):gwp (UD) (BQ d.1.1 d.1.2 d.2) c52 0 (Nu [.tmp 4] (Vm d) (Vu d)) (Q_ 52 (AL.can Uw d))=Xr d.1.1 d.1.2 d.2:=by kernel_rfl
abbrev Bz:Prop:=OkC Tryz.prog 52 KI
theorem BD (h:∀ (hk:Int) (cs:List (Int×Int×Bool)) (out:List Bool),(cs.length<=1000/\out.length=cs.length)->Xr hk cs out):OkC Tryz.prog 52 KI :=
 Zn Q4i mixed (C:=UD) (V:=λ(d:(Int×List (Int×Int×Bool))×List Bool)=>Xr d.1.1 d.1.2 d.2) ⟨.nil,XsOk.nil,ItsOk.nil,YlOk.nil,IysOk.nil,XfOk.nil⟩ (BB) λd hp=>h d.1.1 d.1.2 d.2 hp
theorem BS:Bz:=BD λhk cs out h=>by
 obtain⟨h1,h2⟩:=h;unfold Xr;(try delta lI gD sT I64 Xz pj8 pj4);refine⟨(),(-1,-1,0,0),(by and_intros<;>first|rfl|trivial),?_⟩;refine⟨λd=>∃ k:Nat,k<=cs.length/\d=((VS cs out k).1,(VS cs out k).2.1,(VS cs out k).2.2,(k:Int)),λd=>cs.length-d.2.2.2.toNat,⟨0,by omega,rfl⟩,?_⟩;rintro _ ⟨k,hk,rfl⟩;dsimp only;simp only[zz];have hb:=Fj cs out k;have aS:VS cs out (k+1)=if out.getD k false=true then VS cs out k else (if (VS cs out k).1<0 then nmC cs k else (VS cs out k).1,nmC cs k,if (VS cs out k).1<0 then (VS cs out k).2.2 else if nmC cs k<(VS cs out k).2.1 then (VS cs out k).2.2+1 else (VS cs out k).2.2):=rfl
 have uY:nmC cs k=(cs.getD k (0,(0,false))).1:=rfl;rw[uY] at aS;refine⟨λc=>?_,λc=>?_⟩
 .have c:=zl c;have fin:∀ s:Int×Int×Int,VS cs out (k+1)=s->∃ k':Nat,k'<=cs.length/\((s.1,s.2.1,s.2.2,((k:Int)+1)):Int×Int×Int×Int)=((VS cs out k').1,(VS cs out k').2.1,(VS cs out k').2.2,(k':Int)):=λs e=>⟨k+1,by omega,by rw[e];push_cast;rfl⟩;have iQ:cs.length-((k:Int)+1).toNat<cs.length-k:=by omega
  refine⟨by omega,by omega,λho=>?_,λho=>?_⟩
  .rw[z0 ho] at aS;exact⟨by rw[Qh];omega,_,(by and_intros<;>first|rfl|trivial),fin _ aS,iQ⟩
  .rw[z1 (by rw[ho];decide)] at aS;refine⟨by omega,by omega,λhf=>?_,λhf=>⟨λhg=>?_,λhg=>?_⟩⟩
   .have hf:=zl hf;rw[z0 hf,z0 hf] at aS;exact⟨by rw[Qh];omega,_,(by and_intros<;>first|rfl|trivial),fin _ aS,iQ⟩
   .have hf:=zK hf;have hg:=zl hg;rw[z1 hf,z1 hf,z0 hg] at aS;exact⟨by rw[Qh];omega,by rw[Qh];omega,_,(by and_intros<;>first|rfl|trivial),fin _ aS,iQ⟩
   .have hf:=zK hf;have hg:=zK hg;rw[z1 hf,z1 hf,z1 hg] at aS;exact⟨by rw[Qh];omega,_,(by and_intros<;>first|rfl|trivial),fin _ aS,iQ⟩
 .have c:=zK c;have ef:k=cs.length:=by omega
  subst ef;unfold S2 Q4r;refine⟨λhf=>⟨by rw[Qh];omega,?_,trivial⟩,λhf=>⟨?_,trivial⟩⟩
  .rw[z0 (zl hf)]
  .rw[z1 (zK hf)]
end Go.Proofs.Tryz
namespace Go.V
open Go
theorem Q0u {P:Program}{M:Heap}:Ret P M (.val .bo true) [] (.bool true) M :=
 ⟨⟨.refl _,Dead.refl _⟩,λ_=>rfl,Jz,λj b hj=>by simp at hj,λj j' i hj=>by simp at hj,by simp[SR,KC]⟩
theorem Q01 {P:Program}{f:Nat}(h:∀ (M:Heap) (K:Value->Heap->Prop),K (.bool true) M->VCalled P f [] M K):OkC P f (N2 (.nil:AL Unit) (λ_=>True) (λ_=>.val .bo true) (λ_=>[])):=by
 intro ap dA M args vs c v bs ax hs hv b7 hc;unfold N2 at hs;split at hs
 .rename_i d hd;obtain⟨rfl,rfl,rfl⟩:=(by simpa using hs:True=c/\SV.val .bo true=v/\[]=bs);have:vs=[]:=by
   cases args with
   |nil=>simpa [SRs] using ax
   |cons a l=>simp[AL.dec] at hd
  subst this;refine⟨h M _ Q0u,λ_ _=>h M _ ⟨rfl,?_⟩⟩;unfold BV;cases M;simp only[List.length_nil,zM,List.getElem?_nil,Option.bind_none,Heap.mk.injEq,and_true];funext i;split
  .rfl
  .rename_i wf hi;exact wf i (by simpa using hi)
 .cases hs
end Go.V
namespace Go.V
open Go Go.ChangeShapes Go.WideShapes Go.RowKit Go.Deep Go.Joins
def Heap.RO (M:Heap):Prop:=∀ i b,M.get i=some b->b.wr=false
structure View (w:World) (ρ:Plc) (M:Heap):Prop where
 rel:HRel ρ M w
 ro:M.RO
structure More (ρ:Plc) (M:Heap) (ρ':Plc) (M':Heap):Prop where
 n:M.n<=M'.n
 pl:∀ i,i<M.n->∀ p,ρ' i=some p->ρ i=some p
 ag:Agree M M'
theorem More.refl (ρ:Plc) (M:Heap):More ρ M ρ M:=⟨z5 _,λ_ _ _ h=>h,Agree.refl _⟩
theorem More.trans {ρ ρ' eP:Plc}{M M' aE:Heap}(h:More ρ M ρ' M') (k:More ρ' M' eP aE):More ρ M eP aE :=
 ⟨zZ h.n k.n,λi hi p hp=>h.pl i hi p (k.pl i (x8 hi h.n) p hp),h.ag.trans k.ag h.n⟩
def Z4r (w:World):Prop:=∀ g cs,OY g=some cs->∃ e f,w.heap[g]?=some (.cells cs.toArray e f)
theorem View.emptyT (w:World) (ht:Z4r w):View w (λ_=>none) Heap.empty where
 rel:=⟨⟨λi b h=>(by cases h),λ_ _=>rfl,λi p h=>(by cases h),λi j p q b _ h=>(by cases h)⟩,λg cs hg=>⟨ht g cs hg,λ⟨_,_,_,h,_⟩=>by cases h⟩⟩
 ro:=λi b h=>by cases h
theorem View.add {w:World}{ρ:Plc}{M:Heap}(h:View w ρ M) (p:Pl) (c:List Value) {C:Array Value}{e:TypeId}{f:Nat×Nat}(hb:w.heap[p.blk]?=some (.cells C e f)) (hs:p.shift+p.ext<=C.size) (hl:c.length<=p.ext) (ht:e=p.esz.ty)
  (hc:∀ (k:Nat) (v:Value),c[k]?=some v->∃ u,w.cell? ⟨p.blk,p.shift+k,none⟩=some u/\VRel ρ M.n v u) :
  View w (ρ.put M.n (some p)) (M.push (.cells c p.esz false p.tight))/\More ρ M (ρ.put M.n (some p)) (M.push (.cells c p.esz false p.tight)):=by
 have aY:∀ i,i<M.n->∀ q,(ρ.put M.n (some p)) i=some q->ρ i=some q:=λi hi q hq=>by unfold Plc.put at hq;rwa [z1 (by omega)] at hq
 have bL:(M.push (.cells c p.esz false p.tight)).RO:=λi b hi=>by
  by_cases e:i=M.n
  .subst e;rw[Heap.q0a] at hi;obtain rfl:=osj hi;rfl
  .rw[Heap.q0e _ _ e] at hi;exact h.ro i b hi
 refine⟨⟨⟨⟨?_,?_,?_,?_⟩,λg cs hg=>⟨(h.rel.tab g cs hg).1,λ⟨i,_,b,_,hi,hw,_⟩=>by rw[bL i b hi] at hw;cases hw⟩⟩,bL⟩,⟨by simp,aY,λi hi=>Heap.q0i _ _ hi⟩⟩
 .intro i b hi;by_cases aO:i=M.n
  .subst aO;rw[Heap.q0a] at hi;obtain rfl:=osj hi;refine⟨p,by simp[Plc.put],rfl,rfl,hl,⟨C,e,f,hb,hs,ht⟩,λk v hk=>?_,λh=>by cases h⟩;obtain⟨u,hu,hv⟩:=hc k v hk;exact⟨u,hu,hv.mono (by simp) aY⟩
  .rw[Heap.q0e _ _ aO] at hi;obtain⟨q,hq,hB⟩:=h.rel.live i b hi;exact⟨q,by simp[Plc.put,aO,hq],hB.mono (by simp) aY rfl⟩
 .intro i hi;by_cases aO:i=M.n
  .subst aO;rw[Heap.q0a] at hi;cases hi
  .rw[Heap.q0e _ _ aO] at hi;simp[Plc.put,aO,h.rel.dead i hi]
 .intro i q hq;by_cases aO:i=M.n
  .subst aO;simp[Plc.put] at hq;subst hq;exact(x3.1 hb).1
  .simp[Plc.put,aO] at hq;exact h.rel.lt i q hq
 .intro i j q r b _ _ _ cu hw _;rw[bL i b cu] at hw;cases hw
theorem Om {P:Program}{fits:TypeId->Bool}{d:Nat}{e:TypeId}{count off n:Nat}(h:rowAt P fits d e count off n=true):off<=count*P.cellsOf e:=by
 cases d with
 |zero=>cases h
 |succ d =>
  unfold rowAt at h;by_cases hs:P.cellsOf e=0
  .simp[hs] at h
  .have br:0<P.cellsOf e:=Nat.pos_of_ne_zero hs;simp only[hs,if_false,zp,z2,zS,zi] at h;have hd:=Nat.div_add_mod off (P.cellsOf e);have hm:=xX off br;rcases h with⟨⟨h1,h2⟩,_⟩|⟨h1,_⟩
   .have:P.cellsOf e*(off / P.cellsOf e)<=P.cellsOf e*count:=Nat.mul_le_mul_left _ (by omega);rw[xY count];omega
   .have:P.cellsOf e*(off / P.cellsOf e+1)<=P.cellsOf e*count:=Nat.mul_le_mul_left _ (by omega);rw[Nat.mul_add] at this;rw[xY count];omega
theorem R1 {P:Program}:∀ {d:Nat}{e:TypeId}{count off:Nat}{u:TypeId}{n:Nat},liesAt P d e count off u n=true->off<=count*P.cellsOf e
 |0,_,_,_,_,_,h=>by cases h
 |d+1,e,count,off,u,n,h=>by
  unfold liesAt at h;rw[zp] at h;rcases h with h|h
  .exact Om h
  .split at h
   .exact R1 h
   .cases h
theorem SX {P:Program}{w:World}{r:Reach}{base:Nat}{a:Addr}{e:TypeId}{n:Nat}(h:w.has P r base a e n):∃ C row f,w.heap[a.block]?=some (.cells C row f)/\a.off<=C.size/\a.spot=none:=by
 obtain⟨_,hs,row,cells,eT,hl⟩:=h;unfold World.shape? at eT;split at eT
 .rename_i C e' f hb;obtain⟨rfl,rfl⟩:=(by simpa using eT:e'=row/\C.size=cells);exact⟨C,e',f,hb,zZ (R1 hl) (Nat.div_mul_le_self _ _),hs⟩
 .cases eT
theorem Br {P:Program}{w:World}{r:Reach}{base:Nat}{t e:TypeId}{v:Value}(ht:P.underlying t=some (.slice e)) (h:Cell.okWide P w r base t v) :
  v=.slice none 0 0\/∃ a len cap,v=.slice (some a) len cap/\w.has P r base a e cap:=by
 unfold Cell.okWide at h;rw[ht] at h;have h':Cell.ok P w r base t v:=by split at h<;>first|exact h|simp_all
 unfold Cell.ok at h';rw[ht] at h';split at h'<;>first|exact .inl rfl|(cases h';done)|skip
 all_goals first|(rename_i h1 h2;simp_all;done)|skip
 all_goals first|(simp_all;exact⟨_,_,_,⟨rfl,rfl,rfl⟩,h'.2.2⟩)|(simp_all)
theorem Q7m {k:IntKind}{x:Int}(h:(Lit.int k x).wf=true):k.min<=x/\x<=k.max:=by simpa [Lit.wf] using h
theorem View.calls {P:Program}{f:FuncId}{w:World}{ρ:Plc}{M:Heap}(h:View w ρ M) {args:List Value}{az:Array Value}(hl:LRel ρ M.n args az.toList) (hc:VCallsTo P f args M λv _=>v=.bool true) :
  Calls P f az w λe w'=>e=.returned (.bool true)/\Below w.heap.size w w':=by
 refine (hc ρ w az h.rel hl).mono λe w' ⟨c,he,v,ρ',M',hv,hr,_,hx⟩=>?_;subst hv;have:c=.bool true:=by cases hr;rfl
 subst this;exact⟨he,hx.os,hx.tape,hx.output,hx.size,λB hB=>hx.keep B hB λ⟨i,p,b,_,hi,hw,_⟩=>by rw[h.ro i b hi] at hw;cases hw⟩
theorem Dg {H:Type}{enc:TypeId×Value->H}{P:Program}(hl:laidOutB P=true) {W W':World}{sp:Nat->Bool}(hb:Below W.heap.size W W') :
  ∀ {ts:List TypeId}{vs:List Value}{ds:List (DataW H)}{ps:List MemPlace},(∀ t∈ts,P.readableRec t=true/\t<P.types.size)->DataW.TrodAll enc P W 0 (λ_=>true) true ts vs ds ps->(∀ p∈ps,p.block<W.heap.size)->(∀ p∈ps,sp p.block=true) ->
   DataW.TrodAll enc P W' 0 sp true ts vs ds ps
 |[],vs,ds,ps,_,h,_,_=>by obtain⟨rfl,rfl,rfl⟩:=trodAll_nil h;rfl
 |t::ts,vs,ds,ps,ht,h,ah,hs=>by
  obtain⟨v,cN,d,ds',p,q,rfl,rfl,rfl,h1,h2⟩:=trodAll_cons h;obtain⟨r1,r2⟩:=ht t (by simp);exact⟨p,q,WideElems.Trod_stays hl r1 r2 h1 (λx hx=>hb.same (ah x (by simp[hx]))) (λx hx=>hs x (by simp[hx])),
   Dg hl hb (λt mF=>ht t (by simp[mF])) h2 (λx hx=>ah x (by simp[hx])) (λx hx=>hs x (by simp[hx])),rfl⟩
theorem F3 {H:Type}{enc:TypeId×Value->H}{P:Program}{f:Func}{s:ChangeSpec}{apart fresh handsOn again:Bool}{W W':World}{args:Array Value}{ds gs:List (DataW H)}{before:List MemPlace}{tb:TypeId}
  (hl:laidOutB P=true) (hp:f.params.toList.all (λt=>P.readableRec t&&decide (t<P.types.size))=true) (kX:s.vars=[]) (hr:f.resultTypes=#[tb]) (bm:P.underlying tb=some .bool) (hs:s.fn H ds={results:=[.lit (.bool true)],args:=ds})
  (hW:DataW.Whole enc P f.params.toList s.vars apart W args.toList ds gs before) (hb:Below W.heap.size W W'):s.post enc P f apart fresh handsOn again W args (.bool true) W':=by
 have ah:∀ p∈before,p.block<W.heap.size:=λp hp=>hW.lt p hp;have uZ:=hW;obtain⟨p,q,hA,hV,rfl,hz,hn⟩:=hW;rw[kX] at hV;obtain⟨rfl,rfl⟩:=trodVars_none hV;have bk:∀ t∈f.params.toList,P.readableRec t=true/\t<P.types.size:=λt ht=>by have:=z6.1 hp t ht;simpa using this
 have eX:s.fn H (ds++[])={results:=[.lit (.bool true)],args:=ds}:=by rw[xC];exact hs
 have dg:∀ (b:Nat) (sp:Nat->Bool) (hd:Bool),DataW.TrodAll enc P W' b sp hd f.resultTypes.toList ((Value.bool true).resultList f.resultTypes.size) (s.fn H (ds++[])).results []:=λb sp hd=>by rw[eX,hr];exact trodAll_mk1 (shut_bool bm _)
 have ax:∀ sp:Nat->Bool,(∀ x∈p++[],sp x.block=true)->DataW.TrodAll enc P W' 0 sp true f.params.toList args.toList (s.fn H (ds++[])).args p:=λsp dh=>by rw[eX];exact Dg hl hb bk hA (λx hx=>ah x (by simp[hx])) (λx hx=>dh x (by simp[hx]))
 have cE:∀ sp:Nat->Bool,DataW.TrodVars enc P W' sp s.vars (s.fn H (ds++[])).vars []:=λsp=>by rw[eX,kX];rfl
 have hold:∀ x∈p++[],(λb=>decide (b<W.heap.size)) x.block=true:=λx hx=>by simpa using ah x hx
 refine⟨ds,[],p++[],[],p,[],uZ,dg _ _ _,ax _ hold,cE _,World.keptBut_mono (λx hx=>⟨hx,?_⟩) (hb.frame (·∈p++[])),λ_=>?_⟩
 .exact .inr (by simpa using hx)
 .refine⟨ok_one hr rfl (okWide_bool_mk bm _),_,_,([]++p)++[],⟨[]++p,[],trodAll_append (ax _ (λ_ _=>rfl)) (dg _ _ _),cE _,rfl,?_,?_⟩,?_⟩
  .intro b off hx;have aO:MemPlace.cell b off∈p++[]:=by simpa using hx
   rw[hb.frozen (ah _ aO)];exact hz b off aO
  .intro ha;simpa using hn ha
  .intro x hx _;simpa using hx
def KFs (T:Kind->TypeId->Bool) (sz:TypeId->Nat):Kind->List (TypeId×Nat)->Nat->Bool
 |_,[],_=>false
 |k,[p],off=>p.2==off&&(sz p.1==k.size&&T k p.1)
 |.pair a b,p::q::r,off=>p.2==off&&(sz p.1==a.size&&(T a p.1&&KFs T sz b (q::r) (off+a.size)))
 |_,_::_::_,_=>false
def Kind.row:Kind->Bool
 |.list k=>k.flat
 |_=>false
def Z4j (P:Program) (t:TypeId):Bool:=match P.underlying t with|some (.slice _)=>true|_=>false
def KTy (P:Program):Nat->Kind->TypeId->Bool
 |0,_,_=>false
 |n+1,k,t=>match P.underlying t with
  |some (.struct fs)=>P.cellsOf t==k.size&&KFs (KTy P n) P.cellsOf k (fs.toList.map λf=>(f.type,f.offset)) 0
  |some (.array m e)=>P.cellsOf t==k.size&&KFs (KTy P n) P.cellsOf k ((List.range m).map λi=>(e,i*P.cellsOf e)) 0
  |some (.int ik)=>(match k with|.i k'=>decide (k'=ik)|_=>false)
  |some .bool=>(match k with|.bo=>true|_=>false)
  |some .string=>(match k with|.st=>true|_=>false)
  |some (.slice e)=>(match k with|.list k'=>P.cellsOf e==k'.size&&((k'.flat||(k'.row&&Z4j P e))&&KTy P n k' e)|_=>false)
  |_=>false
def KWf:(k:Kind)->k.T->Prop
 |.i ik,x=>InK ik x
 |.bo,_=>True
 |.st,s=>s.length<=maxLen
 |.list k,l=>l.length<=maxLen/\∀ x∈l,KWf k x
 |.pair a b,x=>KWf a x.1/\KWf b x.2
theorem More.le {ρ ρ':Plc}{M M':Heap}(h:More ρ M ρ' M'):M.Le M':=⟨h.n,λi b hb=>by rw[h.ag i (M.lt hb)];exact hb⟩
def ArgIs (w:World) (ρ:Plc) (M:Heap) (k:Kind) (cs:List Value):Prop :=
 ∃ ρ' M' vs x,View w ρ' M'/\More ρ M ρ' M'/\LRel ρ' M'.n vs cs/\KC M' k x vs/\KWf k x
theorem ArgIs.pair {w:World}{ρ:Plc}{M:Heap}{a b:Kind}{cs ds:List Value}(h1:ArgIs w ρ M a cs) (h2:∀ ρ M,View w ρ M->ArgIs w ρ M b ds):ArgIs w ρ M (.pair a b) (cs++ds):=by obtain⟨ρ1,σ1,sA,x1,k1,k2,k3,k4,k5⟩:=h1;obtain⟨ρ2,M2,kJ,x2,m1,m2,m3,m4,m5⟩:=h2 ρ1 σ1 k1;exact⟨ρ2,M2,sA++kJ,(x1,x2),m1,k2.trans m2,(k3.mono m2.n m2.pl).append m3,⟨sA,kJ,rfl,k4.mono m2.le,m4⟩,k5,m5⟩
section
variable {H:Type}{enc:TypeId×Value->H}{P:Program}{w:World}{r:Reach}{base:Nat}
def okc (P:Program) (w:World) (r:Reach) (base:Nat) (ts:List TypeId) (cs:List Value):Prop:=∀ (i:Nat) v u,cs[i]?=some v->ts[i]?=some u->Cell.okWide P w r base u v
theorem Cv {T:Kind->TypeId->Bool}{sz:TypeId->Nat}{g:TypeId->Option (List TypeId)}(hT:∀ k t ts,T k t=true->g t=some ts->ts.length=k.size) :
  ∀ {k:Kind}{L:List (TypeId×Nat)}{off:Nat}{hU:List (List TypeId)},KFs T sz k L off=true->L.mapM (λp=>g p.1)=some hU->hU.flatten.length=k.size
 |k,[],_,_,h,_=>by simp[KFs] at h
 |k,[p],off,hU,h,hm=>by
  simp only[KFs,z2] at h;cases hg:g p.1 with
  |none=>simp[hg] at hm
  |some ts =>simp[hg] at hm;subst hm;simpa using hT _ _ _ h.2.2 hg
 |.pair a b,p::q::r,off,hU,h,hm=>by
  simp only[KFs,z2] at h;rw[xk] at hm;cases hg:g p.1 with
  |none=>simp[hg] at hm
  |some ts =>
   cases hr:(q::r).mapM (λp=>g p.1) with
   |none=>simp[hg,hr] at hm
   |some tr =>simp[hg,hr] at hm;subst hm;have:=Cv hT h.2.2.2 hr;simp only[List.flatten_cons,zB,this,hT _ _ _ h.2.2.1 hg,Kind.size]
 |.i _,_::_::_,_,_,h,_|.bo,_::_::_,_,_,h,_|.st,_::_::_,_,_,h,_|.list _,_::_::_,_,_,h,_=>by cases h
theorem Dh {α β γ:Type}{f:α->β}{g:β->Option γ}:∀ (l:List α),(l.map f).mapM g=l.mapM (λx=>g (f x))
 |[]=>rfl
 |a::l=>by simp only[zF,xk,Dh l]
theorem Dz {β:Type}{x:β}{f:Nat->Option β}(h:∀ i,f i=some x):∀ l:List Nat,l.mapM f=some (List.replicate l.length x)
 |[]=>rfl
 |a::l=>by simp[xk,h,Dz h l,xt]
theorem Cd:∀ {n:Nat}{k:Kind}{t:TypeId}{d:Nat}{ts:List TypeId},KTy P n k t=true->P.cellTypes d t=some ts->ts.length=k.size
 |0,_,_,_,_,h,_=>by cases h
 |_+1,_,_,0,_,_,h=>by cases h
 |n+1,k,t,d+1,ts,h,ht=>by
  have ih:∀ k t ts,KTy P n k t=true->P.cellTypes d t=some ts->ts.length=k.size:=λk t ts h1 h2=>Cd h1 h2;unfold Program.cellTypes at ht;unfold KTy at h;cases hu:P.underlying t with
  |none=>rw[hu] at h;cases h
  |some u =>
   rw[hu] at h ht;cases u<;>first|(cases h;done)|skip
   all_goals simp only at h ht
   .split at h<;>first|(cases h;done)|(obtain rfl:=osj ht;rfl)
   .split at h<;>first|(cases h;done)|(obtain rfl:=osj ht;rfl)
   .split at h<;>first|(cases h;done)|(obtain rfl:=osj ht;rfl)
   .split at h<;>first|(cases h;done)|(obtain rfl:=osj ht;rfl)
   .rename_i m e;rw[z2] at h;cases hc:P.cellTypes d e with
    |none=>rw[hc] at ht;cases ht
    |some te =>rw[hc] at ht;obtain rfl:=osj ht;refine Cv (g:=λt=>P.cellTypes d t) ih h.2 ?_;rw[Dh,Dz (x:=te) (λ_=>hc)];simp
   .rename_i fs;rw[z2] at h;cases hc:fs.toList.mapM λf=>P.cellTypes d f.type with
    |none=>rw[hc] at ht;cases ht
    |some hU =>rw[hc] at ht;obtain rfl:=osj ht;refine Cv (g:=λt=>P.cellTypes d t) ih h.2 ?_;rw[Dh];exact hc
theorem Db {T:Kind->TypeId->Bool}{sz:TypeId->Nat}{Q:TypeId->List Value->Prop}{R:Kind->List Value->Prop}(hT:∀ k t cs,T k t=true->Q t cs->R k cs) (hR:∀ a b cs ds,R a cs->R b ds->R (.pair a b) (cs++ds)) (cs:List Value) :
  ∀ {k:Kind}{L:List (TypeId×Nat)}{off:Nat},KFs T sz k L off=true->(∀ p∈L,Q p.1 ((cs.drop p.2).take (sz p.1)))->R k ((cs.drop off).take k.size)
 |k,[],_,h,_=>by simp[KFs] at h
 |k,[p],off,h,hq=>by simp only[KFs,z2,zS] at h;have:=hq p (by simp);rw[h.1,h.2.1] at this;exact hT _ _ _ h.2.2 this
 |.pair a b,p::q::r,off,h,hq=>by
  simp only[KFs,z2,zS] at h;have h1:=hq p (by simp);rw[h.1,h.2.1] at h1;have h2:=Db hT hR cs h.2.2.2 λx hx=>hq x (z9 _ hx);have e:(cs.drop off).take (Kind.pair a b).size=(cs.drop off).take a.size++(cs.drop (off+a.size)).take b.size:=by rw[Kind.size,List.take_add,List.drop_drop]
  rw[e];exact hR _ _ _ _ (hT _ _ _ h.2.2.1 h1) h2
 |.i _,_::_::_,_,h,_|.bo,_::_::_,_,h,_|.st,_::_::_,_,h,_|.list _,_::_::_,_,h,_=>by cases h
def FlatIs (k:Kind) (cs:List Value):Prop:=∃ y:k.T,(∀ h,KC h k y cs)/\KWf k y/\∀ ρ m,LRel ρ m cs cs
theorem FlatIs.pair {a b:Kind}{cs ds:List Value}(h1:FlatIs a cs) (h2:FlatIs b ds):FlatIs (.pair a b) (cs++ds):=by obtain⟨x,k1,k2,k3⟩:=h1;obtain⟨y,m1,m2,m3⟩:=h2;exact⟨(x,y),λh=>⟨cs,ds,rfl,k1 h,m1 h⟩,⟨k2,m2⟩,fun ρ m=>(k3 ρ m).append (m3 ρ m)⟩
theorem LRel.one {ρ:Plc}{n:Nat}{v c:Value}(h:VRel ρ n v c):LRel ρ n [v] [c]:=.cons h (.nil _ _)
theorem Gq {fs:Array Field}{f:Field}(h:f∈fs.toList):∃ i:Nat,fs[i]?=some f:=by obtain⟨i,hi,rfl⟩:=List.mem_iff_getElem.1 h;exact⟨i,by simp at hi;simp[hi]⟩
theorem Hh {sp:Nat->Bool}{held:Bool}:∀ {n:Nat}{k:Kind}{t:TypeId}{fuel:Nat}{cs:List Value}{x:DataW H×List MemPlace},KTy P n k t=true->k.flat=true->DataW.trod enc P w base sp held fuel t cs=some x->FlatIs k cs
 |0,_,_,_,_,_,h,_,_=>by cases h
 |n+1,k,t,fuel,cs,x,h,hf,hx=>by
  unfold KTy at h;cases hu:P.underlying t with
  |none=>rw[hu] at h;cases h
  |some u =>
   rw[hu] at h;have hR:∀ a b cs ds,((a.flat=true->FlatIs a cs)/\True)->((b.flat=true->FlatIs b ds)/\True)->(((Kind.pair a b).flat=true->FlatIs (.pair a b) (cs++ds))/\True):=λa b cs ds h1 h2=>⟨λhf=>by
    simp only[Kind.flat,z2] at hf;exact(h1.1 hf.1).pair (h2.1 hf.2),trivial⟩
   have hT:∀ k t cs,KTy P n k t=true->(∃ fuel x,DataW.trod enc P w base sp held fuel t cs=some x)->((k.flat=true->FlatIs k cs)/\True):=λk t cs h1 ⟨fuel,x,h2⟩=>⟨λhf=>Hh h1 hf h2,trivial⟩;cases u<;>first|(cases h;done)|skip
   all_goals simp only at h
   .split at h<;>first|(cases h;done)|skip
    obtain⟨b,rfl,_⟩:=DataW.trod_bool hu hx;exact⟨b,λ_=>rfl,trivial,λ_ _=>.one (.bool _)⟩
   .split at h<;>first|(cases h;done)|skip
    obtain rfl:=zl h;obtain⟨z,rfl,_,hw⟩:=DataW.trod_int hu hx;exact⟨z,λ_=>rfl,Q7m hw,λ_ _=>.one (.int _ _)⟩
   .split at h<;>first|(cases h;done)|skip
    obtain⟨s,rfl,_,hs⟩:=DataW.trod_string hu hx;exact⟨s.data.toList,λ_=>rfl,hs,λ_ _=>.one (.string _)⟩
   .split at h<;>first|(cases h;done)|(cases hf;done)
   .rename_i m e;simp only[z2,zS] at h;obtain⟨xs,m',_,_,hl,fZ,hx⟩:=DataW.trod_array hu hx;have:=(Db (R:=λk cs=>(k.flat=true->FlatIs k cs)/\True) hT hR cs h.2 λp hp=>by
     simp only[zq,zr] at hp;obtain⟨i,hi,rfl⟩:=hp;have:=hx i hi;rw[z3 (by omega)] at this;exact⟨_,_,this⟩).1 hf
    rwa [zX,zD (by omega)] at this
   .rename_i fs;simp only[z2,zS] at h;obtain⟨xs,m',_,_,hl,fZ,hx⟩:=DataW.trod_struct hu hx;have:=(Db (R:=λk cs=>(k.flat=true->FlatIs k cs)/\True) hT hR cs h.2 λp hp=>by
     simp only[zq] at hp;obtain⟨f,lL,rfl⟩:=hp;obtain⟨i,hi⟩:=Gq lL;have:=hx i f hi;have fP:i<fs.size:=(x3.1 hi).1;rw[z3 (by omega)] at this;exact⟨_,_,this⟩).1 hf
    rwa [zX,zD (by omega)] at this
theorem Rows.range {α:Type}{R:α->List Value->Prop}{n:Nat}{c:List Value}{x:Nat->α}:∀ (m:Nat),(∀ i,i<m->R (x i) ((c.drop (i*n)).take n))->Rows R ((List.range m).map x) (c.take (m*n))
 |0,_=>by simp;exact .nil
 |m+1,h=>by
  have e:c.take ((m+1)*n)=c.take (m*n)++(c.drop (m*n)).take n:=by rw[zG,xD,List.take_add]
  rw[List.range_succ,xB,e];exact(Rows.range m λi hi=>h i (by omega)).append (by simpa using Rows.cons (h m (by omega)) .nil)
theorem Bc {α:Type}[Inhabited α] {m:Nat}{p:Nat->α->Prop}(h:∀ i,i<m->∃ x,p i x):∃ f:Nat->α,∀ i,i<m->p i (f i) :=
 ⟨λi=>if hi:i<m then (h i hi).choose else default,λi hi=>by simp only[hi,dif_pos];exact(h i hi).choose_spec⟩
instance KInh (k:Kind):Inhabited k.T:=⟨k.dflt⟩
theorem View.list {ρ:Plc}{M:Heap}(h:View w ρ M) {n:Nat}{k:Kind}{t e:TypeId}{fuel:Nat}{cs:List Value}{x:DataW H×List MemPlace}(hu:P.underlying t=some (.slice e)) (hs:P.cellsOf e=k.size) (hf:k.flat=true) (hk:KTy P n k e=true)
  (hx:DataW.trod enc P w 0 (λ_=>true) true fuel t cs=some x) (ai:okc P w r base [t] cs):ArgIs w ρ M (.list k) cs:=by
 rcases open_slice hu hx with⟨rfl,_⟩|⟨a,len,cap,m,fu,D,Pl,rfl,hb,hl,hm,eW,_,hel⟩
 .exact⟨ρ,M,[.slice none 0 0],[],h,More.refl _ _,.one .nilSl,⟨_,rfl,.inl ⟨rfl,rfl⟩⟩,by simp[maxLen],λ_ hx=>by cases hx⟩
 simp only[zx] at eW;subst eW;rw[hs] at hel;have mr:w.has P r base a e m:=by
  rcases Br hu (ai 0 _ t rfl rfl) with hh|⟨a',rB,aq,hh,h2⟩
  .cases hh
  .cases hh;exact h2
 obtain⟨C,row,f,aB,aX,dh⟩:=SX mr;obtain⟨blk,off,spot⟩:=a;simp only at aB aX dh;subst dh;have gg:∀ i,(⟨blk,off,none⟩:Addr).add i=⟨blk,off+i,none⟩:=λi=>by unfold Addr.add;split<;>simp_all
 obtain⟨X,hX⟩:=Bc (α:=k.T×List Value) (m:=m) (p:=λi p=>p.2.length=k.size/\(∀ j,j<k.size->w.cell? ⟨blk,off+i*k.size+j,none⟩=p.2[j]?)/\(∀ h,KC h k p.1 p.2)/\KWf k p.1/\∀ ρ m,LRel ρ m p.2 p.2) λi hi=>by
  obtain⟨cs',h1,h2⟩:=hel i hi;obtain⟨_,k1,k2⟩:=World.cells?_some h1;obtain⟨y,m1,m2,m3⟩:=Hh hk hf h2;refine⟨(y,cs'),k1,λj hj=>?_,m1,m2,m3⟩;have:=k2 j hj;rw[gg] at this;have e2:(⟨blk,off+i*k.size,none⟩:Addr).add j=⟨blk,off+i*k.size+j,none⟩:=by unfold Addr.add;split<;>simp_all
  rw[e2] at this;exact this
 have br:=k.size_pos;let c:List Value:=(List.range (m*k.size)).map λj=>((X (j / k.size)).2[j % k.size]?).getD undef;have cg:c.length=m*k.size:=by simp[c]
 have hdiv:∀ j,j<m*k.size->j / k.size<m:=λj hj=>Nat.div_lt_of_lt_mul (by rw[xY];exact hj);have a9:∀ j,j<m*k.size->∃ v,c[j]?=some v/\w.cell? ⟨blk,off+j,none⟩=some v/\∀ ρ m,VRel ρ m v v:=λj hj=>by
  have h1:=hX (j / k.size) (hdiv j hj);have fk:j % k.size<k.size:=xX _ br;have h2:=h1.2.1 _ fk;have e:off+j / k.size*k.size+j % k.size=off+j:=by rw[zk,Nat.div_add_mod']
  rw[e] at h2;have h3:j % k.size<(X (j / k.size)).2.length:=by rw[h1.1];exact fk
  refine⟨(X (j / k.size)).2[j % k.size],?_,?_,fun ρ m=>(h1.2.2.2.2 ρ m).2 _ _ _ (z3 h3) (z3 h3)⟩
  .simp only[c,zQ,List.getElem?_range hj,xj,z3 h3,Option.getD_some]
  .rw[h2,z3 h3]
 have mu:∀ i,i<m->(c.drop (i*k.size)).take k.size=(X i).2:=λi hi=>by
  have h1:=hX i hi;have hle:i*k.size+k.size<=m*k.size:=by have:(i+1)*k.size<=m*k.size:=zm _ hi;rw[zG] at this;omega
  apply zT;intro j;by_cases hj:j<k.size
  .rw[List.getElem?_take_of_lt hj,zw];have eE:i*k.size+j<m*k.size:=by omega
   have e1:(i*k.size+j) / k.size=i:=by rw[xY,Nat.mul_add_div br,Nat.div_eq_of_lt hj,zM]
   have e2:(i*k.size+j) % k.size=j:=by rw[xY,Nat.mul_add_mod,xq hj]
   have h3:j<(X i).2.length:=by rw[h1.1];exact hj
   simp only[c,zQ,List.getElem?_range eE,xj,e1,e2,z3 h3,Option.getD_some]
  .rw[zj (by simp;omega),zj (by omega)]
 have aD:off+m*k.size<=C.size:=by
  rcases Nat.eq_zero_or_pos (m*k.size) with h0|h0
  .omega
  .obtain⟨v,_,h2,_⟩:=a9 (m*k.size-1) (by omega);unfold World.cell? at h2;simp only[aB] at h2;have:=(x3.1 (by simpa using h2)).1;omega
 obtain⟨hv,gU⟩:=h.add ⟨blk,off,m*k.size,⟨k.size,row⟩,false⟩ c aB aD (by simp[cg]) rfl (λj v hj=>by
  have bU:j<m*k.size:=by rw[<-cg];exact(z7.1 hj).1
  obtain⟨v',h1,h2,h3⟩:=a9 j bU;obtain rfl:=osj (hj.symm.trans h1);exact⟨v,h2,h3 _ _⟩)
 have hlen:((List.range len).map λi=>(X i).1).length=len:=by simp
 refine⟨_,_,[.slice (some ⟨M.n,0,none⟩) len m],(List.range len).map λi=>(X i).1,hv,gU,.one ?_,⟨_,rfl,.inr ⟨M.n,0,m,c,⟨k.size,row⟩,false,false,by rw[hlen],by rw[hlen];exact hl,Heap.q0a _ _,rfl,?_,?_⟩⟩,?_,λy hy=>?_⟩
 .refine .sl _ _ _ _ _ _ (by simp) λp hp=>?_;simp[Plc.put] at hp;subst hp;exact⟨z5 _,(λh=>by cases h),.inr ⟨0,by simp,by simp,.inl rfl⟩⟩
 .rw[hlen,cg,zV];exact zm _ hl
 .rw[hlen,zX];refine Rows.range len λi hi=>?_;rw[mu i (by omega)];exact(hX i (by omega)).2.2.1 _
 .rw[hlen];exact zZ hl hm
 .obtain⟨i,hi,rfl⟩:=zq.1 hy;exact(hX i (by have:=zr.1 hi;omega)).2.2.2.1
theorem View.listH {ρ:Plc}{M:Heap}(h:View w ρ M) {n:Nat}{k:Kind}{t e:TypeId}{fuel:Nat}{cs:List Value}{x:DataW H×List MemPlace}(hu:P.underlying t=some (.slice e)) (hs:P.cellsOf e=k.size) (hf:k.flat=true) (hk:KTy P n k e=true)
  (hx:DataW.trod enc P w 0 (λ_=>true) true fuel t cs=some x) (hA:∃ (b:Nat) (C:Array Value) (e:TypeId) (f:Nat×Nat),w.heap[b]?=some (Obj.cells C e f)):ArgIs w ρ M (.list k) cs:=by
 rcases open_slice hu hx with⟨rfl,_⟩|⟨a,len,cap,m,fu,D,Pl,rfl,hb,hl,hm,eW,_,hel⟩
 .exact⟨ρ,M,[.slice none 0 0],[],h,More.refl _ _,.one .nilSl,⟨_,rfl,.inl ⟨rfl,rfl⟩⟩,by simp[maxLen],λ_ hx=>by cases hx⟩
 simp only[zx] at eW;subst eW;rw[hs] at hel;have br:=k.size_pos;by_cases cM:m=0
 .
  subst cM;obtain rfl:len=0:=by omega
  obtain⟨b0,C0,e0,f0,pV⟩:=hA;obtain⟨hv,gU⟩:=h.add ⟨b0,0,0,⟨k.size,e0⟩,false⟩ [] pV (Nat.zero_le _) (z5 _) rfl (λj v hj=>by simp at hj);refine⟨_,_,[.slice (some ⟨M.n,0,none⟩) 0 0],[],hv,gU,.one ?_,⟨_,rfl,.inr ⟨M.n,0,0,[],⟨k.size,e0⟩,false,false,rfl,z5 _,Heap.q0a _ _,rfl,?_,?_⟩⟩,by simp[KWf],λy hy=>by cases hy⟩
  .refine .sl _ _ _ _ _ _ (by simp) λp hp=>⟨z5 _,λ_=>rfl,.inl ⟨rfl,rfl⟩⟩
  .simp
  .simpa using Rows.nil
 obtain⟨C,row,f,aB,aX,dh⟩:∃ C row f,w.heap[a.block]?=some (Obj.cells C row f)/\a.off<=C.size/\a.spot=none:=by
  obtain⟨cs',h1,_⟩:=hel 0 (by omega);obtain⟨_,c1,c2⟩:=World.cells?_some h1;have c3:=c2 0 br;have e0:(a.add (0*k.size)).add 0=a:=by simp[Addr.add]
  rw[e0,z3 (by omega)] at c3;unfold World.cell? at c3;split at c3
  .rename_i C row f aB;split at c3
   .cases c3
   .rename_i hs;exact⟨C,row,f,aB,Nat.le_of_lt (x3.1 c3).1,by simpa using hs⟩
  .cases c3
 obtain⟨blk,off,spot⟩:=a;simp only at aB aX dh;subst dh;have gg:∀ i,(⟨blk,off,none⟩:Addr).add i=⟨blk,off+i,none⟩:=λi=>by unfold Addr.add;split<;>simp_all
 obtain⟨X,hX⟩:=Bc (α:=k.T×List Value) (m:=m) (p:=λi p=>p.2.length=k.size/\(∀ j,j<k.size->w.cell? ⟨blk,off+i*k.size+j,none⟩=p.2[j]?)/\(∀ h,KC h k p.1 p.2)/\KWf k p.1/\∀ ρ m,LRel ρ m p.2 p.2) λi hi=>by
  obtain⟨cs',h1,h2⟩:=hel i hi;obtain⟨_,k1,k2⟩:=World.cells?_some h1;obtain⟨y,m1,m2,m3⟩:=Hh hk hf h2;refine⟨(y,cs'),k1,λj hj=>?_,m1,m2,m3⟩;have:=k2 j hj;rw[gg] at this;have e2:(⟨blk,off+i*k.size,none⟩:Addr).add j=⟨blk,off+i*k.size+j,none⟩:=by unfold Addr.add;split<;>simp_all
  rw[e2] at this;exact this
 let c:List Value:=(List.range (m*k.size)).map λj=>((X (j / k.size)).2[j % k.size]?).getD undef;have cg:c.length=m*k.size:=by simp[c]
 have hdiv:∀ j,j<m*k.size->j / k.size<m:=λj hj=>Nat.div_lt_of_lt_mul (by rw[xY];exact hj);have a9:∀ j,j<m*k.size->∃ v,c[j]?=some v/\w.cell? ⟨blk,off+j,none⟩=some v/\∀ ρ m,VRel ρ m v v:=λj hj=>by
  have h1:=hX (j / k.size) (hdiv j hj);have fk:j % k.size<k.size:=xX _ br;have h2:=h1.2.1 _ fk;have e:off+j / k.size*k.size+j % k.size=off+j:=by rw[zk,Nat.div_add_mod']
  rw[e] at h2;have h3:j % k.size<(X (j / k.size)).2.length:=by rw[h1.1];exact fk
  refine⟨(X (j / k.size)).2[j % k.size],?_,?_,fun ρ m=>(h1.2.2.2.2 ρ m).2 _ _ _ (z3 h3) (z3 h3)⟩
  .simp only[c,zQ,List.getElem?_range hj,xj,z3 h3,Option.getD_some]
  .rw[h2,z3 h3]
 have mu:∀ i,i<m->(c.drop (i*k.size)).take k.size=(X i).2:=λi hi=>by
  have h1:=hX i hi;have hle:i*k.size+k.size<=m*k.size:=by have:(i+1)*k.size<=m*k.size:=zm _ hi;rw[zG] at this;omega
  apply zT;intro j;by_cases hj:j<k.size
  .rw[List.getElem?_take_of_lt hj,zw];have eE:i*k.size+j<m*k.size:=by omega
   have e1:(i*k.size+j) / k.size=i:=by rw[xY,Nat.mul_add_div br,Nat.div_eq_of_lt hj,zM]
   have e2:(i*k.size+j) % k.size=j:=by rw[xY,Nat.mul_add_mod,xq hj]
   have h3:j<(X i).2.length:=by rw[h1.1];exact hj
   simp only[c,zQ,List.getElem?_range eE,xj,e1,e2,z3 h3,Option.getD_some]
  .rw[zj (by simp;omega),zj (by omega)]
 have aD:off+m*k.size<=C.size:=by
  rcases Nat.eq_zero_or_pos (m*k.size) with h0|h0
  .omega
  .obtain⟨v,_,h2,_⟩:=a9 (m*k.size-1) (by omega);unfold World.cell? at h2;simp only[aB] at h2;have:=(x3.1 (by simpa using h2)).1;omega
 obtain⟨hv,gU⟩:=h.add ⟨blk,off,m*k.size,⟨k.size,row⟩,false⟩ c aB aD (by simp[cg]) rfl (λj v hj=>by
  have bU:j<m*k.size:=by rw[<-cg];exact(z7.1 hj).1
  obtain⟨v',h1,h2,h3⟩:=a9 j bU;obtain rfl:=osj (hj.symm.trans h1);exact⟨v,h2,h3 _ _⟩)
 have hlen:((List.range len).map λi=>(X i).1).length=len:=by simp
 refine⟨_,_,[.slice (some ⟨M.n,0,none⟩) len m],(List.range len).map λi=>(X i).1,hv,gU,.one ?_,⟨_,rfl,.inr ⟨M.n,0,m,c,⟨k.size,row⟩,false,false,by rw[hlen],by rw[hlen];exact hl,Heap.q0a _ _,rfl,?_,?_⟩⟩,?_,λy hy=>?_⟩
 .refine .sl _ _ _ _ _ _ (by simp) λp hp=>?_;simp[Plc.put] at hp;subst hp;exact⟨z5 _,(λh=>by cases h),.inr ⟨0,by simp,by simp,.inl rfl⟩⟩
 .rw[hlen,cg,zV];exact zm _ hl
 .rw[hlen,zX];refine Rows.range len λi hi=>?_;rw[mu i (by omega)];exact(hX i (by omega)).2.2.1 _
 .rw[hlen];exact zZ hl hm
 .obtain⟨i,hi,rfl⟩:=zq.1 hy;exact(hX i (by have:=zr.1 hi;omega)).2.2.2.1
theorem View.list2 {ρ:Plc}{M:Heap}(h:View w ρ M) {n:Nat}{k:Kind}{t e e2:TypeId}{fuel:Nat}{cs:List Value}{x:DataW H×List MemPlace}(hu:P.underlying t=some (.slice e)) (hs:P.cellsOf e=1)
  (mK:P.underlying e=some (.slice e2)) (dB:P.cellsOf e2=k.size) (hf:k.flat=true) (hk:KTy P n k e2=true)
  (hx:DataW.trod enc P w 0 (λ_=>true) true fuel t cs=some x) (ai:okc P w r base [t] cs):ArgIs w ρ M (.list (.list k)) cs:=by
 rcases open_slice hu hx with⟨rfl,_⟩|⟨a,len,cap,m,fu,D,Pl,rfl,hb,hl,hm,eW,_,hel⟩
 .exact⟨ρ,M,[.slice none 0 0],[],h,More.refl _ _,.one .nilSl,⟨_,rfl,.inl ⟨rfl,rfl⟩⟩,by simp[maxLen],λ_ hx=>by cases hx⟩
 simp only[zx] at eW;subst eW;rw[hs] at hel;have mr:w.has P r base a e m:=by
  rcases Br hu (ai 0 _ t rfl rfl) with hh|⟨a',rB,aq,hh,h2⟩
  .cases hh
  .cases hh;exact h2
 obtain⟨C,row,f,aB,aX,dh⟩:=SX mr;obtain⟨blk,off,spot⟩:=a;simp only at aB aX dh;subst dh;have gg:∀ i,(⟨blk,off,none⟩:Addr).add i=⟨blk,off+i,none⟩:=λi=>by unfold Addr.add;split<;>simp_all
 have rows:∀ j,j<=m->∃ ρ' M',∃ vs:List Value,∃ xs:List (List k.T),View w ρ' M'/\More ρ M ρ' M'/\vs.length=j/\xs.length=j/\(∀ (i:Nat) v,vs[i]?=some v->∃ u,w.cell? ⟨blk,off+i,none⟩=some u/\VRel ρ' M'.n v u) /\
   Rows (KC M' (.list k)) xs vs/\∀ y∈xs,KWf (.list k) y:=by
  intro j;induction j with
  |zero=>exactλ_=>⟨ρ,M,[],[],h,More.refl _ _,rfl,rfl,λi v hi=>by simp at hi,.nil,λy hy=>by cases hy⟩
  |succ j ih =>
   intro hj;obtain⟨ρ1,σ1,vs,xs,k1,k2,k3,k4,k5,k6,k7⟩:=ih (by omega);obtain⟨cs',h1,h2⟩:=hel j (by omega);obtain⟨_,c1,c2⟩:=World.cells?_some h1;have c3:=c2 0 (by omega);obtain⟨u,rfl⟩:=z_.1 c1;have kG:((⟨blk,off,none⟩:Addr).add (j*1)).add 0=⟨blk,off+j,none⟩:=by rw[gg,Nat.mul_one];unfold Addr.add;split<;>simp_all
   rw[kG] at c3;have c4:w.cell? ⟨blk,off+j,none⟩=some u:=c3;obtain⟨ρ2,M2,vv,y,m1,m2,m3,m4,m5⟩:=k1.listH mK dB hf hk h2 ⟨blk,C,row,f,aB⟩;have ni:vv.length=1:=by obtain⟨v,rfl,_⟩:=m4;rfl
   obtain⟨v,rfl⟩:=z_.1 ni;refine⟨ρ2,M2,vs++[v],xs++[y],m1,k2.trans m2,by rw[zB,k3];rfl,by rw[zB,k4];rfl,λi v' hi=>?_,?_,λz hz=>?_⟩
   .by_cases bY:i<vs.length
    .rw[x6 bY] at hi;obtain⟨u',g1,g2⟩:=k5 i v' hi;exact⟨u',g1,g2.mono m2.n m2.pl⟩
    .have fP:i<(vs++[v]).length:=(z7.1 hi).1;rw[zB,xy] at fP;have u1:i=j:=by omega
     subst u1;rw[xc (by omega),k3,wa] at hi;obtain rfl:=osj hi;exact⟨u,c4,m3.2 0 _ _ rfl rfl⟩
   .exact(k6.mono λ_ _ hc=>KC.mono m2.le hc).append (by simpa using Rows.cons m4 .nil)
   .rcases zu.1 hz with hz|hz
    .exact k7 z hz
    .rw[z8.1 hz];exact m5
 obtain⟨ρ1,σ1,vs,xs,k1,k2,k3,k4,k5,k6,k7⟩:=rows m (z5 _);have aD:off+m<=C.size:=by
  rcases Nat.eq_zero_or_pos m with h0|h0
  .omega
  .obtain⟨u,h2,_⟩:=k5 (m-1) _ (z3 (by omega));unfold World.cell? at h2;simp only[aB] at h2;have:=(x3.1 (by simpa using h2)).1;omega
 obtain⟨hv,gU⟩:=k1.add ⟨blk,off,m,⟨1,row⟩,false⟩ vs aB aD (by simp[k3]) rfl (λj v hj=>k5 j v hj);have hR:Rows (KC (σ1.push (.cells vs ⟨1,row⟩ false false)) (.list k)) xs vs:=k6.mono λ_ _ hc=>KC.mono gU.le hc;have hlen:(xs.take len).length=len:=by rw[xV,k4];omega
 have oY:(Kind.list k).size=1:=rfl;refine⟨_,_,[.slice (some ⟨σ1.n,0,none⟩) len m],xs.take len,hv,k2.trans gU,.one ?_,⟨_,rfl,.inr ⟨σ1.n,0,m,vs,⟨1,row⟩,false,false,by rw[hlen],by rw[hlen];exact hl,Heap.q0a _ _,rfl,?_,?_⟩⟩,?_,λy hy=>?_⟩
 .refine .sl _ _ _ _ _ _ (by simp) λp hp=>?_;simp[Plc.put] at hp;subst hp;exact⟨z5 _,(λh=>by cases h),.inr ⟨0,by simp,by simp,.inl rfl⟩⟩
 .rw[oY,k3];omega
 .rw[hlen,oY,zX];exact Rows.take (λ_ _ hc=>KC.length hc) hR len
 .rw[hlen];exact zZ hl hm
 .exact k7 y (List.mem_of_mem_take hy)
def Kind.lev1:Kind->Bool
 |.list k=>k.flat||k.row
 |.pair a b=>a.lev1&&b.lev1
 |_=>true
theorem CU {ts:List TypeId}{cs:List Value}(h:okc P w r base ts cs) (o n:Nat):okc P w r base ((ts.drop o).take n) ((cs.drop o).take n):=λi v u h1 h2=>by
 have hi:i<n:=by have:=(z7.1 h1).1;rw[xV] at this;omega
 rw[List.getElem?_take_of_lt hi,zw] at h1 h2;exact h _ v u h1 h2
theorem Pd {T:Kind->TypeId->Bool}{sz:TypeId->Nat}{g:TypeId->Option (List TypeId)}(hT:∀ k t ts,T k t=true->g t=some ts->ts.length=k.size) :
  ∀ {k:Kind}{L:List (TypeId×Nat)}{off:Nat}{hU:List (List TypeId)},KFs T sz k L off=true->L.mapM (λp=>g p.1)=some hU->∀ p∈L,off<=p.2/\g p.1=some ((hU.flatten.drop (p.2-off)).take (sz p.1))
 |k,[],_,_,h,_=>by simp[KFs] at h
 |k,[p],off,hU,h,hm=>by
  simp only[KFs,z2,zS] at h;intro p' hp;obtain rfl:=z8.1 hp;cases hg:g p'.1 with
  |none=>simp[hg] at hm
  |some ts =>
   simp[hg] at hm;subst hm;refine⟨by omega,?_⟩;rw[h.1,wa,zX,h.2.1,zD]
   .simp
   .simp[hT _ _ _ h.2.2 hg]
 |.pair a b,p::q::r,off,hU,h,hm=>by
  simp only[KFs,z2,zS] at h;rw[xk] at hm;intro p' hp;cases hg:g p.1 with
  |none=>simp[hg] at hm
  |some ts =>
   cases hr:(q::r).mapM (λp=>g p.1) with
   |none=>simp[hg,hr] at hm
   |some tr =>
    simp[hg,hr] at hm;subst hm;have hlen:=hT _ _ _ h.2.2.1 hg;rcases zf.1 hp with rfl|hp
    .refine⟨by omega,?_⟩;rw[hg,h.1,wa,zX,h.2.1,List.flatten_cons,List.take_append,<-hlen,wa,we,xC,List.take_length]
    .obtain⟨h1,h2⟩:=Pd hT h.2.2.2 hr p' hp;refine⟨by omega,?_⟩;have e1:ts.drop (p'.2-off)=[]:=List.drop_eq_nil_of_le (by omega);have e2:p'.2-off-a.size=p'.2-(off+a.size):=by omega
     rw[h2,List.flatten_cons,List.drop_append,hlen,e1,e2,xe]
 |.i _,_::_::_,_,_,h,_|.bo,_::_::_,_,_,h,_|.st,_::_::_,_,_,h,_|.list _,_::_::_,_,_,h,_=>by cases h
theorem Rp:∀ {n:Nat}{k:Kind}{t:TypeId}{d:Nat}{ts:List TypeId}{fuel:Nat}{cs:List Value}{x:DataW H×List MemPlace},KTy P n k t=true->k.lev1=true->P.cellTypes d t=some ts->okc P w r base ts cs->DataW.trod enc P w 0 (λ_=>true) true fuel t cs=some x->∀ ρ M,View w ρ M->ArgIs w ρ M k cs
 |0,_,_,_,_,_,_,_,h,_,_,_,_=>by cases h
 |_+1,_,_,0,_,_,_,_,_,_,h,_,_=>by cases h
 |n+1,k,t,d+1,ts,fuel,cs,x,h,hf,ff,ai,hx=>by
  intro ρ M hv;by_cases bC:k.flat=true
  .obtain⟨y,h1,h2,h3⟩:=Hh h bC hx;exact⟨ρ,M,cs,y,hv,More.refl _ _,h3 _ _,h1 _,h2⟩
  unfold KTy at h;cases hu:P.underlying t with
  |none=>rw[hu] at h;cases h
  |some u =>
   rw[hu] at h;let Q:TypeId->List Value->Prop:=λt cs=>(∃ fuel x,DataW.trod enc P w 0 (λ_=>true) true fuel t cs=some x)/\∃ ts,P.cellTypes d t=some ts/\okc P w r base ts cs;let R:Kind->List Value->Prop:=λk cs=>k.lev1=true->∀ ρ M,View w ρ M->ArgIs w ρ M k cs;have hR:∀ a b cs ds,R a cs->R b ds->R (.pair a b) (cs++ds):=λa b cs ds h1 h2 hl ρ M hv=>by simp only[Kind.lev1,z2] at hl;exact(h1 hl.1 ρ M hv).pair fun ρ M hv=>h2 hl.2 ρ M hv
   have hT:∀ k t cs,KTy P n k t=true->Q t cs->R k cs:=λk t cs h1 ⟨⟨fuel,x,h2⟩,ts,h3,h4⟩ hl=>Rp h1 hl h3 h4 h2;have hlen:∀ k t ts,KTy P n k t=true->P.cellTypes d t=some ts->ts.length=k.size:=λk t ts h1 h2=>Cd h1 h2;unfold Program.cellTypes at ff;rw[hu] at ff;cases u<;>first|(cases h;done)|skip
   all_goals simp only at h
   .split at h<;>first|(cases h;done)|(exact absurd rfl bC)
   .split at h<;>first|(cases h;done)|(exact absurd rfl bC)
   .split at h<;>first|(cases h;done)|(exact absurd rfl bC)
   .rename_i e;split at h<;>first|(cases h;done)|skip
    simp only[z2,zS] at h;simp only[xd] at ff;subst ff;rcases zp _ _▸h.2.1 with hk|hk
    .exact hv.list hu h.1 hk h.2.2 hx ai
    .rename_i k';rw[z2] at hk;obtain⟨hk,gG⟩:=hk;cases k'<;>first|(cases hk;done)|skip
     rename_i k2;have h3:=h.2.2;unfold Z4j at gG;split at gG<;>first|(cases gG;done)|skip
     rename_i e2 mK;cases n with
     |zero=>cases h3
     |succ n =>unfold KTy at h3;rw[mK] at h3;simp only[z2,zS] at h3;exact hv.list2 hu h.1 mK h3.1 hk h3.2.2 hx ai
   .rename_i m e;simp only[z2,zS] at h;obtain⟨xs,m',_,_,hl,fZ,hx⟩:=DataW.trod_array hu hx;simp only at ff;cases hc:P.cellTypes d e with
    |none=>rw[hc] at ff;cases ff
    |some te =>
     rw[hc] at ff;obtain rfl:=osj ff;have nT:((List.range m).map λi=>(e,i*P.cellsOf e)).mapM (λp:TypeId×Nat=>P.cellTypes d p.1)=some (List.replicate m te):=by rw[Dh,Dz (x:=te) (λ_=>hc)];simp
     have:=Db (Q:=Q) (R:=R) hT hR cs h.2 (λp hp=>by
      have j6:=Pd (g:=λt=>P.cellTypes d t) hlen h.2 nT p hp;simp only[zq,zr] at hp;obtain⟨i,hi,rfl⟩:=hp;have:=hx i hi;rw[z3 (by omega)] at this;exact⟨⟨_,_,this⟩,_,j6.2,CU ai _ _⟩) hf ρ M hv
     rwa [zX,zD (by omega)] at this
   .rename_i fs;simp only[z2,zS] at h;obtain⟨xs,m',_,_,hl,fZ,hx⟩:=DataW.trod_struct hu hx;simp only at ff;cases hc:fs.toList.mapM λf=>P.cellTypes d f.type with
    |none=>rw[hc] at ff;cases ff
    |some hU =>
     rw[hc] at ff;obtain rfl:=osj ff;have nT:(fs.toList.map λf=>(f.type,f.offset)).mapM (λp:TypeId×Nat=>P.cellTypes d p.1)=some hU:=by rw[Dh];exact hc
     have:=Db (Q:=Q) (R:=R) hT hR cs h.2 (λp hp=>by
      have j6:=Pd (g:=λt=>P.cellTypes d t) hlen h.2 nT p hp;simp only[zq] at hp;obtain⟨f,lL,rfl⟩:=hp;obtain⟨i,hi⟩:=Gq lL;have:=hx i f hi;have fP:i<fs.size:=(x3.1 hi).1;rw[z3 (by omega)] at this;exact⟨⟨_,_,this⟩,_,j6.2,CU ai _ _⟩) hf ρ M hv
     rwa [zX,zD (by omega)] at this
def isAgg (P:Program) (t:TypeId):Bool:=match P.underlying t with
 |some (.struct _)=>true
 |some (.array _ _)=>true
 |_=>false
theorem View.arg {ρ:Plc}{M:Heap}(h:View w ρ M) {n:Nat}{k:Kind}{t:TypeId}{v:Value}{d:DataW H}{p:List MemPlace}(hk:KTy P n k t=true) (hl:k.lev1=true) (ha:isAgg P t=!k.one) (ai:Value.okWide P w r base t v) (hd:DataW.Trod enc P w 0 (λ_=>true) true t v d p) :
  ∃ ρ' M' vv x,View w ρ' M'/\More ρ M ρ' M'/\VRel ρ' M'.n vv v/\KV M' k x vv/\KWf k x:=by
 obtain⟨fuel,hd⟩:=hd;by_cases eD:isAgg P t=true
 .have bQ:k.one=false:=by rw[eD] at ha;simpa using ha.symm
  have:∃ cs,v=.agg cs/\cs.size=P.cellsOf t/\Row.okWide P w r base t cs:=by
   unfold isAgg at eD;unfold Value.okWide at ai;split at eD<;>first|(cases eD;done)|skip
   .rename_i hu;rw[hu] at ai;exact ai
   .rename_i hu;rw[hu] at ai;exact ai
  obtain⟨cs,rfl,aD,ts,ff,_,cL⟩:=this;have hlen:=Cd hk ff;have aA:P.cellsOf t=k.size:=by
   unfold isAgg at eD;cases n with
   |zero=>cases hk
   |succ n =>
    unfold KTy at hk;split at eD<;>first|(cases eD;done)|skip
    all_goals
     rename_i hu;rw[hu] at hk;simp only[z2,zS] at hk;exact hk.1
  have mw:okc P w r base ts cs.toList:=λi v u h1 h2=>by have hi:i<ts.length:=(z7.1 h2).1;obtain⟨u',h3,h4⟩:=cL i v (by simpa using h1);rw[xq hi] at h3;obtain rfl:=osj (h2.symm.trans h3);exact h4
  obtain⟨ρ',M',vs,x,k1,k2,k3,k4,k5⟩:=Rp hk hl ff mw (show DataW.trod enc P w 0 _ true fuel t cs.toList=_ from hd) ρ M h;exact⟨ρ',M',.agg vs.toArray,x,k1,k2,VRel.q1m (ds:=cs.toList) k3,.inr ⟨bQ,vs,rfl,k4⟩,k5⟩
 .have bQ:k.one=true:=by
   have:isAgg P t=false:=by simpa using eD
   rw[this] at ha;simpa using ha.symm
  have iI:=Kind.q1p bQ;have a9:Cell.okWide P w r base t v/\v.cells.toList=[v]:=by
   have h1:isAgg P t=false:=by simpa using eD
   unfold isAgg at h1;have h2:Cell.okWide P w r base t v:=by
    unfold Value.okWide at ai;split at ai
    .rename_i hu;rw[hu] at h1;cases h1
    .rename_i hu;rw[hu] at h1;cases h1
    .exact ai
   refine⟨h2,?_⟩;cases v<;>first|rfl|skip
   all_goals
    exfalso;cases n with
    |zero=>cases hk
    |succ n =>
     unfold KTy at hk;unfold Cell.okWide Cell.ok at h2;cases hu:P.underlying t with
     |none=>rw[hu] at hk;cases hk
     |some u =>rw[hu] at hk h2 h1;cases u<;>first|(cases hk;done)|(cases h1;done)|(cases h2;done)|(simp at h2;done)
  have ff:P.cellTypes 1 t=some [t]:=by
   have h1:isAgg P t=false:=by simpa using eD
   unfold isAgg at h1;unfold Program.cellTypes;cases n with
   |zero=>cases hk
   |succ n =>
    unfold KTy at hk;cases hu:P.underlying t with
    |none=>rw[hu] at hk;cases hk
    |some u =>rw[hu] at h1;cases u<;>first|rfl|(cases h1;done)
  rw[a9.2] at hd;have mw:okc P w r base [t] [v]:=λi v' u h1 h2=>by
   cases i with
   |zero=>cases h1;cases h2;exact a9.1
   |succ i=>simp at h1
  obtain⟨ρ',M',vs,x,k1,k2,k3,k4,k5⟩:=Rp hk hl ff mw hd ρ M h;have:vs.length=1:=by rw[KC.length k4];exact iI
  obtain⟨vv,rfl⟩:=z_.1 this;exact⟨ρ',M',vv,x,k1,k2,k3.2 0 _ _ rfl rfl,.inl ⟨bQ,k4⟩,k5⟩
def AWf:(ks:List Kind)->AT ks->Prop
 |[],_=>True
 |[k],x=>KWf k x
 |k::k'::ks,x=>KWf k x.1/\AWf (k'::ks) x.2
def Q6v (P:Program):List Kind->List TypeId->Bool
 |[],[]=>true
 |k::ks,t::ts=>(KTy P 8 k t&&(k.lev1&&(isAgg P t==!k.one)))&&Q6v P ks ts
 |_,_=>false
theorem View.args:∀ {ks:List Kind}{ts:List TypeId}{vs:List Value}{ds:List (DataW H)}{ps:List MemPlace}{ρ:Plc}{M:Heap},View w ρ M->Q6v P ks ts=true->(∀ (j:Nat) t v,ts[j]?=some t->vs[j]?=some v->Value.okWide P w r base t v)->DataW.TrodAll enc P w 0 (λ_=>true) true ts vs ds ps ->
  ∃ ρ' M' mZ x,View w ρ' M'/\More ρ M ρ' M'/\LRel ρ' M'.n mZ vs/\TS M' ks x mZ/\AWf ks x
 |[],[],vs,ds,ps,ρ,M,h,_,_,hA=>by obtain⟨rfl,rfl,rfl⟩:=trodAll_nil hA;exact⟨ρ,M,[],(),h,More.refl _ _,.nil _ _,rfl,trivial⟩
 |[k],[t],vs,ds,ps,ρ,M,h,hk,hv,hA=>by obtain⟨v,cN,d,ds',p,q,rfl,rfl,rfl,h1,h2⟩:=trodAll_cons hA;obtain⟨rfl,rfl,rfl⟩:=trodAll_nil h2;simp only[Q6v,z2,zS] at hk;obtain⟨ρ',M',vv,x,k1,k2,k3,k4,k5⟩:=h.arg hk.1.1 hk.1.2.1 hk.1.2.2 (hv 0 t v rfl rfl) h1;exact⟨ρ',M',[vv],x,k1,k2,.one k3,⟨vv,rfl,k4⟩,k5⟩
 |k::k'::ks,t::ts,vs,ds,ps,ρ,M,h,hk,hv,hA=>by obtain⟨v,cN,d,ds',p,q,rfl,rfl,rfl,h1,h2⟩:=trodAll_cons hA;simp only[Q6v,z2,zS] at hk;obtain⟨ρ1,σ1,vv,x,k1,k2,k3,k4,k5⟩:=h.arg hk.1.1 hk.1.2.1 hk.1.2.2 (hv 0 t v rfl rfl) h1;obtain⟨ρ2,M2,mZ,y,m1,m2,m3,m4,m5⟩:=k1.args (ks:=k'::ks) hk.2 (λj t v h1 h2=>hv (j+1) t v h1 h2) h2;exact⟨ρ2,M2,vv::mZ,(x,y),m1,k2.trans m2,.cons (k3.mono m2.n m2.pl) m3,⟨vv,mZ,rfl,k4.vcall m2.le,m4⟩,k5,m5⟩
 |[],_::_,_,_,_,_,_,_,hk,_,_|_::_,[],_,_,_,_,_,_,hk,_,_|[_],_::_::_,_,_,_,_,_,_,hk,_,_=>by simp[Q6v] at hk
theorem IH (hT:Z4r w) {f:Nat}{sp:CSp}(dh:OkC P f sp) (he:Xf P f) {ks:List Kind}{ts:List TypeId}{args:Array Value}{ds:List (DataW H)}{ps:List MemPlace}(hk:Q6v P ks ts=true)
  (hv:∀ (j:Nat) t v,ts[j]?=some t->args.toList[j]?=some v->Value.okWide P w r base t v) (hA:DataW.TrodAll enc P w 0 (λ_=>true) true ts args.toList ds ps)
  (hs:∀ x:AT ks,AWf ks x->∃ c,sp (λ_ _=>none) (S6 ks x)=some (c,.val .bo true,[])/\c):Calls P f args w λe w'=>e=.returned (.bool true)/\Below w.heap.size w w':=by
 obtain⟨ρ,M,mZ,x,k1,k2,k3,k4,k5⟩:=(View.emptyT w hT).args hk hv hA;obtain⟨c,h1,h2⟩:=hs x k5;exact k1.calls k3 (dh.true he (MV k4) h1 h2)
end
end Go.V
namespace Go.V
open Go
theorem Pe {H:Type}{enc:TypeId×Value->H}{P:Program}{w:World}{b:Nat}{sp:Nat->Bool}{hd:Bool}:∀ {ts:List TypeId}{vs:List Value}{ds:List (DataW H)}{ps:List MemPlace},DataW.TrodAll enc P w b sp hd ts vs ds ps->ds.length=ts.length
 |[],[],[],_,_=>rfl
 |t::ts,v::vs,d::ds,ps,h=>by obtain⟨p,q,_,h2,_⟩:=h;simp[Pe h2]
 |[],[],_::_,_,h|[],_::_,_,_,h|_::_,[],_,_,h|_::_,_::_,[],_,h=>h.elim
end Go.V
namespace Go.Proofs.Tryz
open Go Go.V
def Z4t:List (Option FEnt):=[
 none,
 none,
 some (.code c2 [] 1),
 some (.code c3 [.tmp 2] 84),
 some (.code c4 [.tmp 4] 203),
 some (.code c5 [.tmp 2] 92),
 some (.code c6 [.tmp 6] 129),
 some (.code c7 [.tmp 4] 283),
 some (.code c8 [.tmp 6] 207),
 some (.code c9 [.tmp 2] 249),
 some (.code c10 [.tmp 6] 205),
 some (.code c11 [.tmp 2] 265),
 some (.code c12 [.tmp 4] 132),
 some (.code c13 [.tmp 4] 228),
 some (.code c14 [.tmp 6] 133),
 some (.code c15 [.tmp 0] 226),
 some (.code c16 [.cell 2 true 2] 9),
 some (.codeJ c17 [.tmp 2,.tmp 3] 49),
 some (.codeJ c18 [.cell 2 true 2,.tmp 3] 34),
 some (.code c19 [.tmp 2] 32),
 some (.code c20 [.tmp 2] 45),
 some (.code c21 [.tmp 4] 17),
 some (.code c22 [.tmp 4] 26),
 some (.code c23 [.tmp 2] 74),
 some (.code c24 [.cell 2 true 2] 44),
 some (.code c25 [.tmp 2] 6),
 some (.codeJ c26 [.tmp 4,.tmp 5,.tmp 6,.tmp 7] 79),
 some (.codeJ c27 [.tmp 6,.tmp 7] 29),
 some (.codeJ c28 [.tmp 6,.tmp 7] 33),
 some (.code c29 [.tmp 4] 15),
 some (.code c30 [.tmp 6] 15),
 some (.code c31 [.cell 4 true 4,.tmp 5] 41),
 some (.code c32 [.tmp 6,.tmp 7] 60),
 some (.code c33 [.tmp 2] 37),
 some (.code c34 [.cell 2 true 3] 34),
 some (.code c35 [.tmp 2] 36),
 some (.codeJ c36 [.tmp 2,.tmp 3] 34),
 some (.codeJ c37 [.cell 2 false 1,.tmp 3] 44),
 some (.code c38 [.tmp 2] 78),
 some (.code c39 [.tmp 4] 63),
 some (.code c40 [.tmp 2] 5),
 some (.code c41 [.tmp 4] 27),
 some (.codeJ c42 [.tmp 6,.tmp 7] 57),
 some (.codeJ c43 [.tmp 2,.tmp 3] 45),
 some (.code c44 [.tmp 8] 46),
 some (.code c45 [.tmp 4] 66),
 some (.code c46 [.cell 2 true 2] 50),
 some (.codeJ c47 [.cell 2 true 2,.tmp 3] 54),
 some (.codeJ c48 [.tmp 6,.tmp 7,.tmp 8] 58),
 some (.code c49 [.tmp 4] 20),
 some (.code c50 [.tmp 4] 16),
 some (.code c51 [.cell 2 true 2] 74),
 some (.code c52 [.tmp 4] 52),
 some (.code c53 [.cell 2 true 2] 37),
 some (.code c54 [.tmp 4,.tmp 5,.tmp 6,.tmp 7,.tmp 8] 91),
 some (.code c55 [.cell 2 true 3,.tmp 3] 165),
 some (.code c56 [.tmp 4] 37),
 some (.code c57 [.tmp 2] 11),
 some (.code c58 [.cell 2 true 2,.tmp 3] 54),
 some (.code c59 [.tmp 6,.tmp 7,.tmp 8] 65),
 some (.code c60 [.cell 0 true 2] 8),
 some (.code c61 [.cell 2 true 3] 23),
 some (.code c62 [.cell 2 true 3,.tmp 3] 43),
 some (.code c63 [.tmp 4] 25),
 some (.code c64 [.tmp 4] 12),
 some (.code c65 [.tmp 2] 4),
 some (.code c66 [.tmp 4] 10),
 some (.code c67 [.tmp 4] 20),
 some (.code c68 [.tmp 4] 14),
 some (.code c69 [.tmp 4] 26),
 some (.code c70 [.tmp 4] 55),
 some (.code c71 [.tmp 4] 41),
 some (.code c72 [.tmp 4] 33),
 some (.code c73 [.cell 4 true 4,.tmp 5] 33),
 some (.code c74 [.tmp 2] 70),
 some (.code c75 [.tmp 2] 25),
 some (.code c76 [.tmp 4] 19),
 some (.code c77 [.tmp 2] 5),
 some (.code c78 [.tmp 6] 15),
 some (.code c79 [.tmp 6,.tmp 7] 28),
 some (.code c80 [.tmp 2] 9),
 some (.code c81 [.tmp 2] 4),
 some (.code c82 [.tmp 4] 30),
 some (.code c83 [.tmp 4] 24),
 some (.code c84 [.tmp 2] 7),
 some (.code c85 [.tmp 3] 9),
 some (.code c86 [.tmp 4] 16),
 some (.code c87 [.tmp 2] 6),
 some (.code c88 [.tmp 6] 11),
 some (.code c89 [.tmp 4] 9),
 some (.code c90 [.cell 4 false 1] 39),
 some (.code c91 [.tmp 4] 76),
 some (.code c92 [.cell 6 false 1] 110),
 some (.code c93 [.tmp 4] 26),
 some (.code c94 [.tmp 4] 19),
 some (.code c95 [.tmp 6] 29),
 some (.code c96 [.tmp 4] 9),
 some (.code c97 [.tmp 2] 9),
 some (.code c98 [.tmp 6] 88),
 some (.code c99 [.tmp 4] 6),
 some (.code Z41 [.tmp 4] 9),
 some (.code Z3l [.tmp 4] 23),
 some (.code Z1a [.tmp 4] 10),
 some (.code Z11 [.cell 2 true 3,.tmp 3] 30),
 some (.code Z1g [.tmp 4] 26),
 some (.code Z3v [.tmp 4] 11),
 some (.code Z3t [.cell 2 true 3] 5),
 some (.code Z1d [.cell 6 false 1] 73),
 some (.code Z29 [.tmp 2] 5),
 some (.code Z1q [] 14),
 some (.code Z20 [] 16),
 some (.code Z1k [.tmp 2] 6),
 some (.code Z0v [.tmp 3] 14),
 some (.code Z0m [.tmp 4] 9),
 some (.code Z2t [.tmp 2] 4),
 some (.code Z1o [.tmp 4] 48),
 some (.code Z0u [.tmp 6] 25),
 some (.code Z1y [] 28),
 some (.code Z17 [.tmp 4] 52),
 some (.code Z1h [.tmp 2] 5),
 some (.code Z0k [] 11),
 some (.code Z1l [] 14),
 some (.code Z37 [.tmp 6] 79),
 some (.code Z0j [.tmp 3] 17),
 some (.code Z12 [.tmp 4] 9),
 some (.code Z0y [.tmp 4] 13),
 some (.code Z31 [.tmp 4] 19),
 some (.code Z3p [.tmp 6] 8),
 some (.code Z44 [] 14),
 some (.code Z42 [.tmp 4] 36),
 some (.code Z1r [.tmp 4] 66),
 some (.code Z3z [.tmp 4] 26),
 some (.code Z3r [.tmp 6] 22),
 some (.code Z3d [.tmp 3] 12),
 some (.code Z4c [.tmp 4] 143),
 some (.code Z3w [] 31),
 some (.code Z2l [.tmp 4] 19),
 some (.code Z0s [.tmp 4] 13),
 some (.code Z0n [.tmp 4] 6),
 some (.code Z1u [.tmp 4] 13),
 some (.code Z3e [] 148),
 some (.code Z0l [.tmp 2] 8),
 some (.code Z1j [.tmp 4] 19),
 some (.code Z3q [] 19),
 some (.code Z30 [.tmp 4,.tmp 5] 30),
 some (.code Z0r [] 39),
 some (.code Z19 [.tmp 4] 13),
 some (.code Z1i [] 134),
 some (.code Z10 [.tmp 4] 19),
 some (.code Z1v [] 45),
 some (.code Z1t [.tmp 8] 55),
 some (.code Z3b [] 148),
 some (.code Z36 [.tmp 4] 18),
 some (.code Z0z [.tmp 2] 26),
 some (.code Z16 [] 20),
 some (.code Z2r [] 53),
 some (.code Z3f [] 60),
 some (.code Z2c [] 67),
 some (.code Z4d [.tmp 8,.tmp 9] 63),
 some (.code Z2z [] 34),
 some (.code Z49 [.tmp 8] 141),
 some (.code Z32 [.tmp 10] 90),
 some (.code Z2a [.tmp 10,.tmp 11] 178),
 some (.code Z14 [.tmp 2] 19),
 some (.code Z0t [.tmp 2] 25),
 some (.code Z3i [.tmp 4,.tmp 5] 17),
 some (.code Z3y [.tmp 4,.tmp 5] 51),
 some (.code Z18 [] 49),
 some (.code Z1p [] 56),
 some (.code Z2s [] 65),
 some (.code Z2j [.tmp 6,.tmp 7] 57),
 some (.code Z43 [] 32),
 some (.code Z3h [.tmp 6] 133),
 some (.code Z0p [.tmp 4] 17),
 some (.code Z2n [.tmp 8] 84),
 some (.code Z28 [.tmp 8,.tmp 9] 168),
 some (.code Z2g [] 53),
 some (.code Z45 [] 60),
 some (.code Z3x [] 67),
 some (.code Z24 [.tmp 8,.tmp 9] 63),
 some (.code Z3s [] 34),
 some (.code Z4b [.tmp 8] 141),
 some (.code Z2e [.tmp 10] 90),
 some (.code Z35 [.tmp 10,.tmp 11] 178),
 some (.code Z0x [.tmp 2] 22),
 some (.code Z47 [] 82),
 some (.code Z23 [.tmp 2] 7),
 some (.code Z27 [.tmp 2] 33),
 some (.code Z2i [.tmp 8] 18),
 some (.code Z48 [.tmp 12] 41),
 some (.code Z46 [] 76),
 some (.code Z3j [.tmp 6] 15),
 some (.code Z21 [.tmp 10] 36),
 some (.code Z38 [] 82),
 some (.code Z2q [.tmp 8] 18),
 some (.code Z2p [.tmp 12] 41),
 some (.code Z1z [.tmp 10,.tmp 11] 32),
 some (.code Z2u [.tmp 8,.tmp 9] 28),
 some (.code Z2m [.tmp 10,.tmp 11] 32)]
def FK:Tab:=λf=>(Z4t[f]?).join
theorem Q4y:EntsOk Tryz.prog 0 Z4t:=⟨trivial,trivial,Z4u,Z53,Z57,Z52,Z4e,Z4q,fun8,Z4s,Q8r,Q8h,Q7x,Q8l,Q7t,Q50,Q5g,Q5x,Q85,Q7n,Q9r,Q9x,Q7h,Q8w,Z05,Q8c,Q7q,Q65,Q4u,Q72,Q88,Q9n,Z04,Q7i,Q94,Q7j,Q71,Q83,Q82,Z0e,Q8d,Z0b,Q7y,Q8q,Q9e,Q9i,Q8g,Q7z,Q9k,Q8n,Q4l,Q5w,Q4i,Q7o,Q8o,Q97,Q8p,Q9q,Z0d,Z00,Q9h,Q73,Q5r,Q4z,Q7w,Z0g,Q95,Q7r,Q98,Q8m,Z01,Q84,Q7s,Q5q,Q77,Q9v,Q8b,Q5f,Q6g,Q4w,Q4o,Q4j,Q75,Q8t,Q7b,Q9u,Q5t,Q4n,Q54,Q76,Q8f,Q9c,Q74,Q9d,Q6z,Q9f,Q9l,Q89,Q96,Q7v,Q2k,Q2e,O5,Ob,IP,Q3e,Q3g,Fa,Q46,Q38,Q29,F9,Is,OC,Q31,Q3c,IY,Q42,Io,FZ,I1,Oe,Q2y,Og,FN,FL,Q20,Q3n,Q3f,Q21,Q3a,Q3t,Q3b,Q28,Q2h,Q35,Q48,Ib,Fw,Q2q,Q1z,Fz,FX,Q41,Q2l,Ih,F6,IA,Od,Q3l,Q25,Q2x,Q1q,I3,I0,Q33,Q2b,Q1s,Q2s,Q24,Q3p,Q4g,Q3r,IQ,Iz,Q2t,Q2u,FJ,Q1u,Q44,Q3o,Q22,Q3z,F2,Q2m,Q32,Q3w,Q34,Q3m,Q3u,Q2p,Q3d,Q2c,Q2a,IT,Q2v,Q4d,Q4e,Q1y,Q3h,Q3s,Q2n,Q27,Q2w,Q3x,Q49,Q2z,Q3v,Q4c,trivial⟩
theorem Pt:TabOk Tryz.prog FK:=AB Q4y
def mMoved:Memo:=⟨[.agg #[.int .i64 4,.slice (some ⟨0,0,none⟩) 5 5]],[⟨[.int .i64 0,.int .i64 1,.bool false,.int .i64 3,.int .i64 8,.bool false,.int .i64 1,.int .i64 2,.bool false,.int .i64 2,.int .i64 4,.bool false,.int .i64 4,.int .i64 15,.bool false],⟨3,87⟩,true⟩],.tuple #[.slice (some ⟨1,0,none⟩) 1 1,.int .i64 0],[⟨[.int .i64 1],⟨1,3⟩,false⟩]⟩
end Go.Proofs.Tryz
