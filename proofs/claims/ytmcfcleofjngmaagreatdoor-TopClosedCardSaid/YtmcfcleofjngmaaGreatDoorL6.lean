
import Derived.ProofKit
import Derived.OpenShut
import Derived.LaidMore
import Derived.Carry
import Derived.Lib.SmallJoins
import Derived.Deep.Slices
import Derived.Test.YtmcfcleofjngmaaGreatDoorL5
noncomputable section
set_option linter.unusedVariables false
set_option maxRecDepth 100000
namespace Go.Proofs.Tryz
open Go Go.V Go.Proofs
theorem Z26:∀ h:Nat,h<24->pcN 24 (2 ^ h)=1/\tzN (2 ^ h)=h:=by decide +kernel
theorem Tl (lw:List Int) (row:Int):(ZF lw row).length=lw.length:=by simp[ZF]
theorem HT {lw:List Int}{r:Int}{w:Nat}(hw:w<lw.length):(ZF lw r).getD w 0=if r.toNat.testBit (lw.getD w 0).toNat then 120 else 46:=by rw[Qc (by rw[Tl];exact hw),Qc hw];simp[ZF]
def Y8 (W:List Int) (h k:Nat):List Nat:=(List.range k).filter λw=>W.getD w 0==((h:Nat):Int)
theorem SA (W:List Int) (h k:Nat):Y8 W h (k+1)=Y8 W h k++(if W.getD k 0=((h:Nat):Int) then [k] else []):=by
 unfold Y8;rw[List.range_succ,List.filter_append];congr 1;by_cases e:W.getD k 0=((h:Nat):Int)
 .rw[z7 e];simp only[xT,List.filter_nil,e,beq_self_eq_true,zq]
 .rw[z6 e];simp only[xT,List.filter_nil,zN.2 e];rfl
theorem T7 (W:List Int) (h:Nat):∀ (m i:Nat),∃ r,Y8 W h (i+m)=Y8 W h i++r
 |0,i=>⟨[],by simp⟩
 |m+1,i=>by obtain⟨r,hr⟩:=T7 W h m i;refine⟨r++(if W.getD (i+m) 0=((h:Nat):Int) then [i+m] else []),?_⟩;rw[<-zu,SA,hr,zJ]
theorem Q5v {W:List Int}{h i n:Nat}(hi:i<n) (e:W.getD i 0=((h:Nat):Int)):(Y8 W h i).length<(Y8 W h n).length/\(Y8 W h n).getD (Y8 W h i).length 0=i:=by
 obtain⟨r,hr⟩:=T7 W h (n-(i+1)) (i+1);rw[show i+1+(n-(i+1))=n by omega,SA,z7 e] at hr;rw[hr];constructor
 .simp only[zk,zw,List.length_nil];omega
 .rw[zJ,zd,xn (by omega),wy];rfl
def ptD (p h:Nat):Dmg:=(1,((p:Int),((h:Int),(0,false))))
def ptR (R:List Int) (p h:Nat):List Int:=R.set p (((R.getD p 0).toNat ^^^ 2 ^ h:Nat):Int)
theorem Z7t {W l:List Int}{k:Nat}(hk:k<l.length):(l.map (ZF W)).getD k []=ZF W (l.getD k 0):=by rw[Qc (by simpa using hk),xP,Qc hk]
theorem Z0p {hd:Int}{rows:List Int}(h2:1<=hd) (h3:hd<=24) (h5:rows.length<=60) (h4:1<=rows.length) (h6:∀ x∈rows,0<=x/\x<2 ^ hd.toNat):Q4 hd rows=0:=by
 have e1:inI hd 1 24=true:=by simp[inI];omega
 have e2:(rows.any λx=>!inI x 0 (2 ^ hd.toNat-1))=false:=by
  rw[xw];intro x hx;have:=h6 x hx;have e3:inI x 0 (2 ^ hd.toNat-1)=true:=by unfold inI;simp only[z0,zf];omega
  rw[e3];simp
 unfold Q4;rw[z6 (by rw[e1];simp),z6 (by omega),z6 (by omega),z6 (by rw[e2];simp)]
theorem Z4v {hk:Int}{lw:List Int}(h1:1<=hk) (h2:hk<=24) (h3:lw.length<=96) (h4:1<=lw.length) (h5:∀ x∈lw,0<=x/\x<hk):Xr hk lw=0:=by
 have e1:inI hk 1 24=true:=by simp[inI];omega
 have e2:(lw.any λx=>!inI x 0 (hk-1))=false:=by
  rw[xw];intro x hx;have:=h5 x hx;have e3:inI x 0 (hk-1)=true:=by unfold inI;simp only[z0,zf];omega
  rw[e3];simp
 unfold Xr;rw[z6 (by rw[e1];simp),z6 (by omega),z6 (by omega),z6 (by rw[e2];simp)]
section
variable {H:Int}{W R:List Int}{p h:Nat}
theorem Z5z (hp:p<R.length) (hh:(h:Int)<H) (hw:1<=W.length):BK H R W (ptD p h)=true:=by
 have h1:inI (p:Int) 0 ((R.length:Int)-1)=true:=by unfold inI;simp only[z0,zf];omega
 have h2:inI (h:Int) 0 (H-1)=true:=by unfold inI;simp only[z0,zf];omega
 have h3:inI (0:Int) 0 ((W.length:Int)-1)=true:=by unfold inI;simp only[z0,zf];omega
 unfold BK ptD;simp only[h1,h2,h3];rfl
theorem Z0k (ht:Q6 H W H R=0) (hp:p<R.length) (hr:R.length<=120) (hh:(h:Int)<H) (hw:1<=W.length):Qs H W H R [ptD p h] (R.length:Int)=0 :=
 Z00 ht (λz hz=>by rw[zS.1 hz];exact Z5z hp hh hw) (by simp) (by omega) (by omega)
theorem Q1u:XR W H R [ptD p h]=(ptR R p h).map (ZF W):=rfl
theorem Q6z {α:Type}(l:List α) (d:α):((List.range l.length).map λi=>l.getD (i % l.length) d)=l:=by refine List.ext_getElem (by simp) λi h1 h2=>?_;rw[xP,List.getElem_range,xO h2,Qc h2]
theorem Q1a (he:Qs H W H R [ptD p h] (R.length:Int)=0):KN H W H R [ptD p h] (R.length:Int)=(ptR R p h).map (ZF W)/\KN H W H R [] (R.length:Int)=R.map (ZF W):=by
 have h0:=OZ he;constructor
 .unfold KN;rw[z7 he];unfold Q92;rw[Q1u,ze];have:=Q6z ((ptR R p h).map (ZF W)) [];rw[show ((ptR R p h).map (ZF W)).length=R.length by simp[ptR]] at this |-;exact this
 .unfold KN;rw[z7 h0];unfold Q92;rw[show XR W H R []=R.map (ZF W) from rfl,ze];have:=Q6z (R.map (ZF W)) [];rw[show (R.map (ZF W)).length=R.length by simp] at this |-;exact this
theorem Z38 (w0:∀ x∈W,0<=x):Q7i p (ZF W (((R.getD p 0).toNat ^^^ 2 ^ h:Nat):Int)) (ZF W (R.getD p 0))=(Y8 W h W.length).map λ(w:Nat)=>((p:Int),((w:Int),((R.getD p 0).toNat ^^^ 2 ^ h).testBit h)):=by
 unfold Q7i Y8;rw[Tl];have key:∀ w,w<W.length->((ZF W (((R.getD p 0).toNat ^^^ 2 ^ h:Nat):Int)).getD w 0 != (ZF W (R.getD p 0)).getD w 0)=(W.getD w 0==((h:Nat):Int)):=λw hw=>by
  rw[HT hw,HT hw,ze,Nat.testBit_xor,Nat.testBit_two_pow];have:=w0 _ (Kq hw);by_cases e:W.getD w 0=((h:Nat):Int)
  .have e2:h=(W.getD w 0).toNat:=by omega
   rw[<-e2,e];cases (R.getD p 0).toNat.testBit h<;>simp
  .have e2:¬ h=(W.getD w 0).toNat:=by omega
   simp only[e2,decide_false,Bool.xor_false];rw[zN.2 e];simp
 have e1:((List.range W.length).filter λ(w:Nat)=>(ZF W (((R.getD p 0).toNat ^^^ 2 ^ h:Nat):Int)).getD w 0 != (ZF W (R.getD p 0)).getD w 0)=(List.range W.length).filter λw=>W.getD w 0==((h:Nat):Int) :=
  List.filter_congr λw hw=>key w (zG.1 hw)
 rw[e1];refine xk λw hw=>?_;obtain⟨gG,lC⟩:=xR.1 hw;have gG:=zG.1 gG;have lC:W.getD w 0=((h:Nat):Int):=eq_of_beq lC;rw[HT gG,ze,lC,ze];congr 2;cases ((R.getD p 0).toNat ^^^ 2 ^ h).testBit h<;>rfl
theorem Q8f (he:Qs H W H R [ptD p h] (R.length:Int)=0) (hp:p<R.length) (w0:∀ x∈W,0<=x):SY H W H R [ptD p h] (R.length:Int)=(Y8 W h W.length).map λ(w:Nat)=>((p:Int),((w:Int),((R.getD p 0).toNat ^^^ 2 ^ h).testBit h)):=by
 obtain⟨c1,c2⟩:=Q1a he;have h0:=OZ he;have e0:SY H W H R [ptD p h] (R.length:Int)=Z2t (KN H W H R [ptD p h] (R.length:Int)) (KN H W H R [] (R.length:Int)):=by unfold SY KN;rw[z7 he,z7 he,z7 h0]
 rw[e0,c1,c2,<-Z38 (R:=R) (p:=p) (h:=h) w0];have hk:∀ k,k<R.length->Q7i k (((ptR R p h).map (ZF W)).getD k []) ((R.map (ZF W)).getD k [])=if k=p then Q7i p (ZF W (((R.getD p 0).toNat ^^^ 2 ^ h:Nat):Int)) (ZF W (R.getD p 0)) else []:=λk hk=>by
  rw[Z7t (by simpa [ptR] using hk),Z7t hk];unfold ptR;by_cases e:k=p
  .subst e;rw[z7 rfl,Qc (by simpa using hk),List.getElem_set_self]
  .rw[z6 e,Qc (by simpa using hk),List.getElem_set_ne (λx=>e x.symm),<-Qc (d:=0) hk,Q5c]
 have hl:((ptR R p h).map (ZF W)).length=R.length:=by simp[ptR]
 have ind:∀ k,k<=R.length->Hf ((ptR R p h).map (ZF W)) (R.map (ZF W)) k=if k<=p then [] else Q7i p (ZF W (((R.getD p 0).toNat ^^^ 2 ^ h:Nat):Int)) (ZF W (R.getD p 0)):=by
  intro k;induction k with
  |zero=>intro _;simp[Hf]
  |succ k ih =>
   intro aB;have e:Hf ((ptR R p h).map (ZF W)) (R.map (ZF W)) (k+1)=Hf ((ptR R p h).map (ZF W)) (R.map (ZF W)) k++Q7i k (((ptR R p h).map (ZF W)).getD k []) ((R.map (ZF W)).getD k []):=by unfold Hf;rw[List.range_succ,List.flatMap_append];simp only[List.flatMap_cons,List.flatMap_nil,x7]
   rw[e,ih (by omega),hk k (by omega)];rcases Nat.lt_trichotomy k p with x|x|x
   .rw[z7 (by omega),z6 (by omega),z7 (by omega)];rfl
   .rw[z7 (by omega),z7 x,z6 (by omega)];rfl
   .rw[z6 (by omega),z6 (by omega),z6 (by omega),x7]
 have:=ind R.length (z9 _);rw[z6 (by omega)] at this;rw[<-this];unfold Z2t Hf;rw[hl]
theorem Z3u {n:Nat}(hr:∀ x∈R,0<=x/\x<2 ^ n) (hp:p<R.length) (hh:h<n):∀ x∈ptR R p h,0<=x/\x<2 ^ n:=λx hx=>by
 rcases List.mem_or_eq_of_mem_set hx with e|e
 .exact hr x e
 .have h1:=hr _ (Kq hp);have gj:=Kw n;have:=Nat.xor_lt_two_pow (x:=(R.getD p 0).toNat) (y:=2 ^ h) (n:=n) (by omega) (Nat.pow_lt_pow_right (by omega) hh);rw[e];omega
end
def Z0e (R:List Int) (k h:Nat):List Int:=R.set k (((R.getD k 0).toNat ||| 2 ^ h:Nat):Int)
section
variable {H:Int}{W R:List Int}{k h n:Nat}
theorem Q9m:(Z0e R k h).length=R.length:=by simp[Z0e]
theorem PY:(ptR R k h).length=R.length:=by simp[ptR]
theorem Z1x (hr:∀ x∈R,0<=x/\x<2 ^ n) (hp:k<R.length) (hh:h<n):∀ x∈Z0e R k h,0<=x/\x<2 ^ n:=λx hx=>by
 rcases List.mem_or_eq_of_mem_set hx with e|e
 .exact hr x e
 .have h1:=hr _ (Kq hp);have gj:=Kw n;have:=Nat.or_lt_two_pow (x:=(R.getD k 0).toNat) (y:=2 ^ h) (n:=n) (by omega) (Nat.pow_lt_pow_right (by omega) hh);rw[e];omega
theorem Q9f (hp:k<R.length):((Z0e R k h).getD k 0).toNat.testBit h=true:=by unfold Z0e;rw[Qc (by simpa using hp),List.getElem_set_self,ze,Nat.testBit_or,Nat.testBit_two_pow_self,Bool.or_true]
theorem Q1h (hp:k<R.length):(ptR R k h).getD k 0=(((R.getD k 0).toNat ^^^ 2 ^ h:Nat):Int):=by unfold ptR;rw[Qc (by simpa using hp),List.getElem_set_self]
theorem Q5o {i:Nat}(e:i≠k):(ptR R k h).getD i 0=R.getD i 0:=by unfold ptR;rw[zd,List.getElem?_set_ne (λx=>e x.symm),<-zd]
theorem Q7u {r h:Nat}(hb:r.testBit h=true):(r ^^^ 2 ^ h) ^^^ ((r ^^^ 2 ^ h) &&& r)=0/\r ^^^ (r &&& (r ^^^ 2 ^ h))=2 ^ h:=by
 constructor<;>refine Nat.eq_of_testBit_eq λi=>?_
 .simp only[Nat.testBit_xor,Nat.testBit_and,Nat.testBit_two_pow,Nat.zero_testBit];by_cases e:h=i
  .subst e;simp[hb]
  .simp[e]
 .simp only[Nat.testBit_xor,Nat.testBit_and,Nat.testBit_two_pow];by_cases e:h=i
  .subst e;simp[hb]
  .simp[e]
theorem Q9g (hp:k<R.length) (hb:(R.getD k 0).toNat.testBit h=true) (hh:h<24):Q15 R (ptR R k h)=true/\Q7g R (ptR R k h)=1:=by
 obtain⟨o1,o2⟩:=Q7u hb;have hB:Q15 R (ptR R k h)=true:=by
  unfold Q15;rw[zg];intro i hi;by_cases e:i=k
  .subst e;rw[Q1h hp,ze,o1];rfl
  .rw[Q5o e,Nat.and_self,Nat.xor_self];rfl
 have hM:∀ i,Z0a R (ptR R k h) i=if i=k then 2 ^ h else 0:=λi=>by
  unfold Z0a;by_cases e:i=k
  .subst e;rw[Q1h hp,ze,o2,z7 rfl]
  .rw[Q5o e,Nat.and_self,Nat.xor_self,z6 e]
 have h0:pcN 24 0=0:=by decide +kernel
 have hS:∀ m,Q2x R (ptR R k h) m=if m<=k then 0 else 1:=by
  intro m;induction m with
  |zero=>simp[Q2x]
  |succ m ih =>
   unfold Q2x;rw[ih,hM m];rcases Nat.lt_trichotomy m k with x|x|x
   .rw[z7 (by omega),z6 (by omega),z7 (by omega),h0]
   .rw[z7 (by omega),z7 x,z6 (by omega),(Z26 h hh).1]
   .rw[z6 (by omega),z6 (by omega),z6 (by omega),h0]
 refine⟨hB,?_⟩;unfold Q7g;rw[z7 hB,hS,z6 (by rw[PY];omega)];rfl
theorem Z0y (h1:Q4 H R=0) (h2:Q4 H (ptR R k h)=0):Y1 1 [(H,R),(H,ptR R k h)]=0:=by
 have hs:WM [(H,R),(H,ptR R k h)]=0:=by unfold WM;rw[An];simp[h1,h2,PY]
 unfold Y1;rw[hs];simp
theorem Q8a (h1:Q4 H R=0) (h2:Q4 H (ptR R k h)=0) (hp:k<R.length) (hb:(R.getD k 0).toNat.testBit h=true) (hh:h<24):At 1 H R H (ptR R k h)=true/\Ac 1 H R H (ptR R k h)=1:=by obtain⟨a,b⟩:=Q9g hp hb hh;have ho:=Z0y h1 h2;unfold At Ac;rw[z7 ho,z7 ho];exact⟨a,b⟩
theorem Z1y:∀ h:Nat,h<8->∀ x:Nat,x<256->x.testBit h=true->Tp ((x ^^^ 2 ^ h:Nat):Int)≠Tp (x:Int):=by decide +kernel
theorem Z4j:∀ x:Nat,x<256->(0:Int)<=Tp (x:Int)/\Tp (x:Int)<=27624:=by decide +kernel
theorem Z27 (h1:Q4 H R=0) (h2:Q4 H (ptR R k h)=0) (hr:∀ x∈R,0<=x/\x<256) (hp:k<R.length) (hb:(R.getD k 0).toNat.testBit h=true) (hh:h<8):V8 H (ptR R k h) (J4 H R)=0/\AD H (ptR R k h) (J4 H R)=[(k:Int)]:=by
 have e1:J4 H R=R.map Tp:=by unfold J4;rw[z7 h1]
 have e2:J4 H (ptR R k h)=(ptR R k h).map Tp:=by unfold J4;rw[z7 h2]
 have hk:∀ x∈R,0<=Tp x/\Tp x<=27624:=λx hx=>by have:=hr x hx;have h3:=Z4j x.toNat (by omega);rw[show ((x.toNat:Nat):Int)=x by omega] at h3;exact h3
 have e3:V8 H (ptR R k h) (R.map Tp)=0:=by
  unfold V8;rw[z6 (by rw[h2];simp)];unfold Ur;rw[z6 (by simp[PY]),z6];intro hx;obtain⟨y,hy,h3⟩:=xS.1 hx;obtain⟨x,hx,rfl⟩:=zC.1 hy;have:=hk x hx;have e4:inI (Tp x) (-1) 27624=true:=by unfold inI;simp only[z0,zf];omega
  rw[e4] at h3;cases h3
 rw[e1];refine⟨e3,?_⟩;unfold AD;rw[z7 e3,e2,zM];have hf:∀ i,i<R.length->((R.map Tp).getD i 0 != -1&&(R.map Tp).getD i 0 != ((ptR R k h).map Tp).getD i 0)=(i==k):=λi hi=>by
  have a1:(R.map Tp).getD i 0=Tp (R.getD i 0):=by rw[Qc (by simpa using hi),xP,Qc hi]
  have a2:((ptR R k h).map Tp).getD i 0=Tp ((ptR R k h).getD i 0):=by
   have gf:i<(ptR R k h).length:=by rw[PY];exact hi
   rw[Qc (by simpa using gf),xP,Qc gf]
  have hm:=hk _ (Kq hi);rw[a1,a2,show (Tp (R.getD i 0) != -1)=true by rw[bne_iff_ne];omega,Bool.true_and];by_cases e:i=k
  .subst e;have hx:=hr _ (Kq hi);have h3:=Z1y h hh (R.getD i 0).toNat (by omega) hb;rw[show (((R.getD i 0).toNat:Nat):Int)=R.getD i 0 by omega] at h3;rw[Q1h hi];rw[beq_self_eq_true,bne_iff_ne];exactλx=>h3 x.symm
  .rw[Q5o e,bne_self_eq_false];exact(zN.2 e).symm
 rw[List.filter_congr λi hi=>hf i (zG.1 hi)];have hg:∀ m,(List.range m).filter (λi=>i==k)=if m<=k then [] else [k]:=by
  intro m;induction m with
  |zero=>simp
  |succ m ih =>
   rw[List.range_succ,List.filter_append,ih];rcases Nat.lt_trichotomy m k with x|x|x
   .rw[z7 (by omega),z7 (by omega)];simp[show ¬ m=k by omega]
   .rw[z7 (by omega),z6 (by omega)];simp[x]
   .rw[z6 (by omega),z6 (by omega)];simp[show ¬ m=k by omega]
 rw[hg,z6 (by omega)];rfl
theorem Z1f (ht:Q6 H W H R=0) (w0:∀ x∈W,0<=x) (w2:W.length<=60) (r2:R.length<=60) (hp:k<R.length) (hh:(h:Int)<H) (hw:∃ w,w<W.length/\W.getD w 0=(h:Int)) (hb:(R.getD k 0).toNat.testBit h=true) :
  SY H W H R [ptD k h] (R.length:Int)≠[]/\(SY H W H R [ptD k h] (R.length:Int)).length<=60/\Yb H W H R (SY H W H R [ptD k h] (R.length:Int))=0/\ptD k h∈TH H W H R (SY H W H R [ptD k h] (R.length:Int))/\Ou H W H R (SY H W H R [ptD k h] (R.length:Int))=false:=by
 obtain⟨w,gG,lC⟩:=hw;have he:=Z0k ht hp (by omega) hh (by omega);rw[Q8f he hp w0];have hn:((R.getD k 0).toNat ^^^ 2 ^ h).testBit h=false:=by rw[Nat.testBit_xor,hb,Nat.testBit_two_pow_self];rfl
 rw[hn];obtain⟨a1,a2⟩:=Q5v gG lC;have hle:(Y8 W h W.length).length<=W.length:=by unfold Y8;exact zO (List.length_filter_le _ _) (by simp)
 have a8:∀ v∈Y8 W h W.length,v<W.length/\W.getD v 0=(h:Int):=λv hv=>by obtain⟨b1,b2⟩:=xR.1 hv;exact⟨zG.1 b1,eq_of_beq b2⟩
 have sk:w∈Y8 W h W.length:=xR.2 ⟨zG.2 gG,by rw[lC];exact beq_self_eq_true _⟩;have aK:(Y8 W h W.length).map (λ(w:Nat)=>((k:Int),((w:Int),false)))≠[]:=by intro x;rw[List.map_eq_nil_iff] at x;rw[x] at a1;simp at a1
 have kz:Yb H W H R ((Y8 W h W.length).map λ(w:Nat)=>((k:Int),((w:Int),false)))=0:=by
  unfold Yb;rw[z6 (by rw[ht];simp),z6 (by rw[zM];omega),z6];intro hx;obtain⟨s,hs,h3⟩:=xS.1 hx;obtain⟨v,hv,rfl⟩:=zC.1 hs;have:=(a8 v hv).1;have e1:Q2r W ((k:Int),((v:Int),false))=true:=by unfold Q2r inI;simp only[z0,zf];omega
  rw[e1] at h3;cases h3
 have dz:∀ v∈Y8 W h W.length,Ot (XR W H R [ptD k h]) ((k:Int),((v:Int),false))=true:=λv hv=>by obtain⟨v1,v2⟩:=a8 v hv;have hl:(ptR R k h).length=R.length:=PY;rw[Q1u];unfold Ot;dsimp only;rw[ze,ze,zM,hl,xO hp,Z7t (by rw[hl];exact hp),HT v1,v2,Q1h hp,ze,ze,hn];rfl
 have l5:Ot (XR W H R []) ((k:Int),((w:Int),false))=false:=by rw[show XR W H R []=R.map (ZF W) from rfl];unfold Ot;dsimp only;rw[ze,ze,zM,xO hp,Z7t hp,HT gG,lC,ze,hb];rfl
 have qU:((k:Int),((w:Int),false))∈(Y8 W h W.length).map (λ(w:Nat)=>((k:Int),((w:Int),false))):=zC.2 ⟨w,sk,rfl⟩;have hall:((Y8 W h W.length).map λ(w:Nat)=>((k:Int),((w:Int),false))).all (Ot (XR W H R [ptD k h]))=true:=zg.2 λs hs=>by obtain⟨v,hv,rfl⟩:=zC.1 hs;exact dz v hv
 have qV:(XR W H R [ptD k h]==XR W H R [])=false:=by rw[zN];intro e;have:=dz w sk;rw[e,l5] at this;cases this
 refine⟨aK,by rw[zM];omega,kz,?_,?_⟩
 .unfold TH;rw[z7 kz];refine xR.2 ⟨?_,?_⟩
  .have hH:0<H.toNat:=by omega
   have h2:h<H.toNat:=by omega
   unfold dmA;simp only[zJ];refine xW _ (zC.2 ⟨k*H.toNat+h,zG.2 ?_,?_⟩)
   .have:=zn H.toNat (show k+1<=R.length from hp);rw[zI] at this;omega
   .rw[xY,Nat.add_mul_div_right _ _ hH,Nat.div_eq_of_lt h2,Nat.add_mul_mod_self_right,xO h2,zQ];rfl
  .unfold MA;rw[qV,hall];rfl
 .unfold Ou;rw[z7 kz,<-xN,zg];intro hx;have:=hx _ qU;rw[l5] at this;cases this
end
end Go.Proofs.Tryz
namespace Go.Proofs.Tryz
open Go Go.V Go.Proofs
def pdH (h8:Int):Int:=2+Int.tmod h8 7
def pdR (hk:Int) (rs:List Int):List Int:=if rs=[] then [1] else (rs.take 12).map λr=>r % 2 ^ hk.toNat
theorem LA {h8:Int}(h:0<=h8):2<=pdH h8/\pdH h8<=8:=by have t1:=Int.tmod_nonneg (7:Int) h;have t2:=Int.tmod_lt_of_pos h8 (show (0:Int)<7 by decide);unfold pdH;omega
theorem Q73 {hk:Int}{rs:List Int}:(pdR hk rs).length=if rs=[] then 1 else min 12 rs.length:=by unfold pdR;split<;>simp
theorem Z1b {hk:Int}{rs:List Int}{i:Nat}(h:i<rs.length) (hc:i<12):(pdR hk rs)[i]?=some (rs.getD i 0 % 2 ^ hk.toNat):=by
 have aK:rs≠[]:=by rintro rfl;simp at h
 unfold pdR;rw[z6 aK];simp[hc,h]
theorem Q9v {hk:Int}{rs:List Int}(h:1<=hk/\hk<=24):pdR hk rs≠[]/\(pdR hk rs).length<=12/\∀ x∈pdR hk rs,0<=x/\x<2 ^ hk.toNat:=by
 have hp:=L0 h.1 h.2;refine⟨?_,by rw[Q73];split<;>omega,λx hx=>?_⟩
 .unfold pdR;split
  .simp
  .rename_i aK;simpa using aK
 .unfold pdR at hx;split at hx
  .rw[zS.1 hx];omega
  .simp only[zC] at hx;obtain⟨y,_,rfl⟩:=hx;exact⟨Int.emod_nonneg _ (by omega),Int.emod_lt_of_pos _ (by omega)⟩
def Y5 (H:Int):List Int:=((List.range H.toNat).map λ(i:Nat)=>(i:Int))++(List.range (H.toNat-2)).map λ(i:Nat)=>H-2-i
theorem Q95 {H:Int}(h:2<=H):(Y5 H).length=2*H.toNat-2:=by unfold Y5;simp;omega
theorem Z14 {H:Int}(h:2<=H):∀ x∈Y5 H,0<=x/\x<H:=λx hx=>by
 unfold Y5 at hx;rcases xj.1 hx with hx|hx
 .obtain⟨i,hi,rfl⟩:=zC.1 hx;have:=zG.1 hi;omega
 .obtain⟨i,hi,rfl⟩:=zC.1 hx;have:=zG.1 hi;omega
theorem Z25 {H:Int}{i:Nat}(hi:(i:Int)<H):(Y5 H).getD i 0=(i:Int):=by
 have hl:i<((List.range H.toNat).map λ(i:Nat)=>(i:Int)).length:=by simp;omega
 unfold Y5;rw[zd,x9 hl,z8 hl];simp
def Mi:AL (Int×List Int):=(.cons (.k (.i .u8)) (.one (.k (.list (.i .u16)))))
def Pt (d:Int×List Int):Prop:=0<=d.1/\d.1<=255/\d.2.length<=9223372036854775807/\∀ x∈d.2,0<=x/\x<=65535
def Nn (d:Int×List Int):SV:=.agg [.val (.i .i64) (pdH d.1),.lst 0]
def UW (d:Int×List Int):List OB:=[.lst 3 (.i .i64) (pdR (pdH d.1) d.2) false]
def VK:CSp:=Wt Mi Pt Nn UW
abbrev YV (h8:Int):=((2:Int)+(Int.tmod h8 (7:Int)))
abbrev Rt :=((0:Int)=(0:Int)/\True/\nS)
abbrev RD (h8:Int):=((YV h8)=(YV h8)/\True/\nS)
def Yn (h8:Int) (rs:List Int):Prop :=
 (I64 h8)/\((7:Int)≠0)/\(I64 (YV h8))/\∃ (e4:Unit) (d40:(List Int)×Int),((rs=rs/\True/\True/\(0:Int)=d40.2/\True)/\(Rt/\(RD h8)/\(d40.1=[]/\d40.1.isEmpty=true)/\True)) /\
 LoopP (λ(d4:(List Int)×Int) (q4:((List Int)×Int)->Prop) =>
  (((d4.2==(0:Int))||((decide (d4.2<(lI rs)))&&(decide (d4.2<(12:Int)))))=true ->
   ((decide (d4.2<(lI rs)))=true ->
    (0<=d4.2)/\(d4.2<rs.length)/\(I64 (gD rs d4.2 0))/\(InK .u64 (YV h8))/\(0<=(YV h8))/\(I64 (YN .i64 (1:Int) (YV h8)))/\((YN .i64 (1:Int) (YV h8))≠0)/\((d4.1.length+(List.length [(Int.tmod (gD rs d4.2 0) (YN .i64 (1:Int) (YV h8)))]))*8<=70368744177664)/\(I64 (d4.2+(1:Int)))/\(∃ d5:(List Int)×Int,((rs=rs/\True/\True/\(d4.2+(1:Int))=d5.2/\True)/\(Rt/\(RD h8)/\((d4.1++[(Int.tmod (gD rs d4.2 0) (YN .i64 (1:Int) (YV h8)))])=d5.1/\false=d5.1.isEmpty)/\True))/\q4 d5)) /\
   ((decide (d4.2<(lI rs)))=false ->
    ((d4.1.length+(List.length [(1:Int)]))*8<=70368744177664)/\(I64 (d4.2+(1:Int)))/\(∃ d6:(List Int)×Int,((rs=rs/\True/\True/\(d4.2+(1:Int))=d6.2/\True)/\(Rt/\(RD h8)/\((d4.1++[(1:Int)])=d6.1/\false=d6.1.isEmpty)/\True))/\q4 d6))) /\
  (((d4.2==(0:Int))||((decide (d4.2<(lI rs)))&&(decide (d4.2<(12:Int)))))=false ->
   (((YV h8)=(pdH h8)/\True/\nS)/\((d4.1=(pdR (pdH h8) rs)/\d4.1.isEmpty=false)/\True)))) d40
def Me:Cx:=⟨[(3,(.i .i64))],[],48,[],0,[],[],[],[],false,[],[],[],[]⟩
def TY (h8:Int) (rs:List Int):List (Nat×LoopAnn):=[(0,⟨Unit,(List Int)×Int,[1,4,5,6],λe x=>[.val (.list (.i .u16)) rs,.box 4 0,.box 5 0,.val (.i .i64) x.2],λe x=>[(4,.slot 4,.cells [.val (.i .i64) (0:Int),.nilS] (some 28)),(5,.slot 5,.cells [.val (.i .i64) ((2:Int)+(Int.tmod h8 (7:Int))),.lst 45] (some 28)),(45,.cell 5 1,.lst 3 (.i .i64) x.1 (List.isEmpty x.1))]⟩)]
theorem TQ (d:Int×List Int):gwp (Me) (TY d.1 d.2) c20 0 (Y4 [.cell 4 true 2] (Nn d) (UW d)) (Qq 48 (AL.can Mi d))=Yn d.1 d.2:=by kernel_rfl
abbrev R2:Prop:=OkC Tryz.prog 20 VK
theorem TR (h:∀ (h8:Int) (rs:List Int),(0<=h8/\h8<=255/\rs.length<=9223372036854775807/\∀ x∈rs,0<=x/\x<=65535)->Yn h8 rs):OkC Tryz.prog 20 VK :=
 Qu Z5d mixed (C:=Me) (V:=λ(d:Int×List Int)=>Yn d.1 d.2) ⟨.nil,XsOk.nil,ItsOk.nil,YlOk.nil,IysOk.nil,XfOk.nil⟩ (TQ) λd hp=>h d.1 d.2 hp
theorem Ra:R2:=TR λh8 rs h=>by
 obtain⟨h0,h1,h2,h3⟩:=h;unfold Yn;(try delta YV Rt RD);(try delta lI gD sT I64 Q1 rg rb zD nS);have hr:=LA h0;rw[show 2+Int.tmod h8 7=pdH h8 from rfl];generalize pdH h8=H at hr |-;have hs:YN .i64 1 H=2 ^ H.toNat/\4<=(2:Int) ^ H.toNat/\(2:Int) ^ H.toNat<=256:=by rcases (show H=2\/H=3\/H=4\/H=5\/H=6\/H=7\/H=8 by omega) with h|h|h|h|h|h|h<;>subst h<;>decide
 obtain⟨hs,kJ,dS⟩:=hs;rw[hs];obtain⟨k1,k2,k3⟩:=Q9v (rs:=rs) (show 1<=H/\H<=24 by omega);refine⟨by rw[Qf];omega,by decide,by rw[Qf];omega,(),([],0),(by and_intros<;>first|rfl|trivial|simp),?_⟩;refine LoopP.count2 (pdR H rs).length (λk xs=>xs=(pdR H rs).take k) (by simp) λk xs hk hJ q hq=>?_;subst hJ;dsimp only;have cr:((pdR H rs).take k).length=k:=by rw[wv];omega
 have hlen:=Q73 (hk:=H) (rs:=rs);refine⟨λc=>?_,λc=>?_⟩
 .have c:k=0\/k<rs.length/\k<12:=by simp at c;omega
  have ao:k<(pdR H rs).length:=by
   rw[hlen];by_cases aK:rs=[]
   .subst aK;simp at c |-;omega
   .have:=xK.2 aK;rw[z6 aK];omega
  refine⟨λc2=>?_,λc2=>?_⟩
  .have c2:k<rs.length:=by simpa using c2
   have hx:=h3 _ (by rw[Qc c2];exact zl c2:rs.getD k 0∈rs);have e:=Z1b (hk:=H) c2 (show k<12 by omega);simp only[ze];rw[Int.tmod_eq_emod_of_nonneg hx.1];refine⟨by omega,by omega,by rw[Qf];omega,⟨show (0:Int)<=H by omega,show H<=18446744073709551615 by omega⟩,by omega,by rw[Qf];omega,by omega,by rw[cr,xt];omega,by rw[Qf];omega,((pdR H rs).take (k+1),(k:Int)+1),?_,hq _ ao rfl⟩;rw[List.take_add_one,e];and_intros<;>first|rfl|trivial|simp
  .have c2:¬ k<rs.length:=by simpa using c2
   have k0:k=0:=by omega
   have r0:rs=[]:=xp.1 (by omega);subst k0 r0;refine⟨by simp,by rw[Qf];decide,([1],1),?_,hq [1] ao rfl⟩;and_intros<;>first|rfl|trivial|simp
 .have c:¬ (k=0\/k<rs.length/\k<12):=by simp at c;omega
  have aB:k=(pdR H rs).length:=by
   have:(pdR H rs).length<=k:=by
    rw[hlen];by_cases aK:rs=[]
    .rw[z7 aK];omega
    .rw[z6 aK];omega
   omega
  rw[aB,List.take_length]
  have:(pdR H rs).isEmpty=false:=by cases hm:pdR H rs with
   |nil=>exact absurd hm k1
   |cons a l=>rfl
  and_intros<;>first|rfl|trivial|exact this
def DB:AL (Int×List Int):=(.one (.agg (.cons (.k (.i .i64)) (.one (.k (.list (.i .i64)))))))
def SW (d:Int×List Int):Prop:=d.2.length<=1000
def G7 (d:Int×List Int):SV:=.agg [.val (.i .i64) d.1,.lst 0]
def G3 (d:Int×List Int):List OB:=[.lst 3 (.i .i64) d.2 false]
def Vg:CSp:=Wt DB SW G7 G3
def Kk (hd:Int) (rows:List Int):Prop :=
 (((List.length ([]:List Int))+rows.length)*8<=70368744177664)/\((hd=hd/\True/\nS)/\(((([]:List Int)++rows)=rows/\(rows.isEmpty&&false)=false)/\True))
def D_:Cx:=⟨[(3,(.i .i64))],[],9,[],0,[],[],[],[],false,[],[],[],[]⟩
def A6 (hd:Int) (rows:List Int):List (Nat×LoopAnn):=[]
theorem Cd (d:Int×List Int):gwp (D_) (A6 d.1 d.2) c6 0 (Y4 [.cell 2 true 2] (G7 d) (G3 d)) (Qq 9 (AL.can DB d))=Kk d.1 d.2:=by kernel_rfl
abbrev Cl:Prop:=OkC Tryz.prog 6 Vg
theorem C7 (h:∀ (hd:Int) (rows:List Int),(rows.length<=1000)->Kk hd rows):OkC Tryz.prog 6 Vg :=
 Qu J08 mixed (C:=D_) (V:=λ(d:Int×List Int)=>Kk d.1 d.2) ⟨.nil,XsOk.nil,ItsOk.nil,YlOk.nil,IysOk.nil,XfOk.nil⟩ (Cd) λd hp=>h d.1 d.2 hp
theorem B4:Cl:=C7 λhd rows h=>by
 (unfold Kk;(try delta lI gD sT I64 Q1 rg rb zD nS);simp);omega
def Du:AL (List Int):=(.one (.k (.list (.i .i64))))
def L4 (d:List Int):Prop:=d.length<=1000
def Gq (d:List Int):SV:=.lst 0
def M_ (d:List Int):List OB:=[.lst 3 (.i .i64) d false]
def Vd:CSp:=Wt Du L4 Gq M_
def Ks (l:List Int):Prop :=
 (((List.length ([]:List Int))+l.length)*8<=70368744177664)/\(True/\(((([]:List Int)++l)=l/\(l.isEmpty&&false)=false)/\True))
def Bb:Cx:=⟨[(3,(.i .i64))],[],6,[],0,[],[],[],[],false,[],[],[],[]⟩
def Cs (l:List Int):List (Nat×LoopAnn):=[]
theorem Cb (d:List Int):gwp (Bb) (Cs d) c15 0 (Y4 [.tmp 2] (Gq d) (M_ d)) (Qq 6 (AL.can Du d))=Ks d:=by kernel_rfl
abbrev LR:Prop:=OkC Tryz.prog 15 Vd
theorem CL (h:∀ (l:List Int),(l.length<=1000)->Ks l):OkC Tryz.prog 15 Vd :=
 Qu Z3w mixed (C:=Bb) (V:=λ(d:List Int)=>Ks d) ⟨.nil,XsOk.nil,ItsOk.nil,YlOk.nil,IysOk.nil,XfOk.nil⟩ (Cb) λd hp=>h d hp
theorem DE:LR:=CL λl h=>by
 (unfold Ks;(try delta lI gD sT I64 Q1 rg rb zD nS);simp);omega
def B7:AL (List Int×List Int):=(.cons (.k (.list (.i .i64))) (.one (.k (.list (.i .i64)))))
def SB (d:List Int×List Int):Prop:=d.1.length<=1000000
def Gt (d:List Int×List Int):SV:=.val .bo (d.1==d.2)
def Gp (d:List Int×List Int):List OB:=[]
def NM:CSp:=Wt B7 SB Gt Gp
def Kn (a:List Int) (b:List Int):Prop :=
 (((lI a) != (lI b))=true ->
  (false=(a==b)/\(True))) /\
 (((lI a) != (lI b))=false ->
  ∃ (e2:Unit) (d20:Int),((a=a/\b=b/\(0:Int)=d20/\True)/\(True)) /\
  LoopP (λ(d2:Int) (q2:(Int)->Prop) =>
   ((decide (d2<(lI a)))=true ->
    (0<=d2)/\(d2<a.length)/\(0<=d2)/\(d2<b.length)/\(((gD a d2 0) != (gD b d2 0))=true ->
     (false=(a==b)/\(True))) /\
    (((gD a d2 0) != (gD b d2 0))=false ->
     (I64 (d2+(1:Int)))/\(∃ d3:Int,((a=a/\b=b/\(d2+(1:Int))=d3/\True)/\(True))/\q2 d3))) /\
   ((decide (d2<(lI a)))=false ->
    (true=(a==b)/\(True)))) d20)
def DX:Cx:=⟨[],[],26,[],0,[],[],[],[],false,[],[],[],[]⟩
def Ce (a:List Int) (b:List Int):List (Nat×LoopAnn):=[(0,⟨Unit,Int,[0,1,5],λe x=>[.val (.list (.i .i64)) a,.val (.list (.i .i64)) b,.val (.i .i64) x],λe x=>[]⟩)]
theorem CM (d:List Int×List Int):gwp (DX) (Ce d.1 d.2) c16 0 (Y4 [.tmp 4] (Gt d) (Gp d)) (Qq 26 (AL.can B7 d))=Kn d.1 d.2:=by kernel_rfl
abbrev CE:Prop:=OkC Tryz.prog 16 NM
theorem Cz (h:∀ (a:List Int) (b:List Int),(a.length<=1000000)->Kn a b):OkC Tryz.prog 16 NM :=
 Qu Z6k mixed (C:=DX) (V:=λ(d:List Int×List Int)=>Kn d.1 d.2) ⟨.nil,XsOk.nil,ItsOk.nil,YlOk.nil,IysOk.nil,XfOk.nil⟩ (CM) λd hp=>h d.1 d.2 hp
theorem LZ:CE:=Cz λl m oU=>by
 unfold Kn;(try delta lI gD sT I64 Q1 rg rb zD nS);simp only[true_and,and_true,exists_eq_left',exists_const,zf,zy,bne_iff_ne,ne_eq,bne_eq_false_iff_eq];refine⟨λh=>?_,λh=>?_⟩
 .symm;rw[zN];rintro rfl;exact h rfl
 have h:l.length=m.length:=by omega
 refine LoopP.count l.length (λk=>l.take k=m.take k) rfl λk bG hJ q hq=>?_;simp only[ze,Int.ofNat_lt,Qf];refine⟨λao=>?_,λbZ=>?_⟩
 .rw[Qc ao,Qc (by omega)];refine⟨by omega,ao,by omega,by omega,λhx=>?_,λhx=>⟨by omega,hq ao ?_⟩⟩
  .symm;rw[zN];rintro rfl;exact hx rfl
  .rw[ZG ao,ZG (by omega),hJ,hx]
 .rw[zL (by omega),zL (by omega)] at hJ;simp[hJ]
def Dn:AL (Int×List Int):=(.cons (.k (.i .u8)) (.one (.k (.list (.i .u16)))))
def RY (d:Int×List Int):Prop:=0<=d.1/\d.1<=255/\d.2.length<=9223372036854775807/\∀ x∈d.2,0<=x/\x<=65535
def MB (d:Int×List Int):SV:=.agg [.val (.i .i64) (pdH d.1),.lst 0,.val (.i .i64) (pdH d.1),.lst 1]
def Gc (d:Int×List Int):List OB:=[.lst 3 (.i .i64) (Y5 (pdH d.1)) false,.lst 3 (.i .i64) (pdR (pdH d.1) d.2) false]
def NQ:CSp:=Wt Dn RY MB Gc
abbrev GS (h8:Int):=((pdH h8)=(pdH h8)/\True/\(pdH h8)=(pdH h8)/\True/\nS)
abbrev H0 :=((0:Int)=(0:Int)/\True/\(0:Int)=(0:Int)/\True/\nS)
abbrev GU (h8:Int) (rs:List Int):=((pdR (pdH h8) rs)=(pdR (pdH h8) rs)/\false=false)
def Ku (h8:Int) (rs:List Int):Prop :=
 (0<=h8/\h8<=255/\rs.length<=9223372036854775807/\∀ x∈rs,0<=x/\x<=65535)/\∃ (e4:Unit) (d40:(List Int)×Int),((True/\True/\(0:Int)=d40.2/\True)/\(H0/\(GS h8)/\(d40.1=[]/\d40.1.isEmpty=true)/\(GU h8 rs)/\True)) /\
 LoopP (λ(d4:(List Int)×Int) (q4:((List Int)×Int)->Prop) =>
  ((decide (d4.2<(pdH h8)))=true ->
   ((d4.1.length+(List.length [d4.2]))*8<=70368744177664)/\(I64 (d4.2+(1:Int)))/\(∃ d5:(List Int)×Int,((True/\True/\(d4.2+(1:Int))=d5.2/\True)/\(H0/\(GS h8)/\((d4.1++[d4.2])=d5.1/\false=d5.1.isEmpty)/\(GU h8 rs)/\True))/\q4 d5)) /\
  ((decide (d4.2<(pdH h8)))=false ->
   (I64 ((pdH h8)-(2:Int)))/\∃ (e8:Unit) (d80:(List Int)×Int),((True/\True/\((pdH h8)-(2:Int))=d80.2/\True)/\(H0/\(GS h8)/\(d4.1=d80.1/\d4.1.isEmpty=d80.1.isEmpty)/\(GU h8 rs)/\True)) /\
   LoopP (λ(d8:(List Int)×Int) (q8:((List Int)×Int)->Prop) =>
    ((decide (d8.2 > (0:Int)))=true ->
     ((d8.1.length+(List.length [d8.2]))*8<=70368744177664)/\(I64 (d8.2-(1:Int)))/\(∃ d9:(List Int)×Int,((True/\True/\(d8.2-(1:Int))=d9.2/\True)/\(H0/\(GS h8)/\((d8.1++[d8.2])=d9.1/\false=d9.1.isEmpty)/\(GU h8 rs)/\True))/\q8 d9)) /\
    ((decide (d8.2 > (0:Int)))=false ->
     ((GS h8)/\((d8.1=(Y5 (pdH h8))/\d8.1.isEmpty=false)/\(GU h8 rs)/\True)))) d80)) d40
def DG:Cx:=⟨[(3,(.i .i64))],[(20,VK)],49,[],0,[],[],[],[],false,[],[],[],[]⟩
def Cm (h8:Int) (rs:List Int):List (Nat×LoopAnn):=[(0,⟨Unit,(List Int)×Int,[4,5,6],λe x=>[.box 4 0,.box 5 0,.val (.i .i64) x.2],λe x=>[(4,.slot 4,.cells [.val (.i .i64) (0:Int),.nilS,.val (.i .i64) (0:Int),.nilS] (some 30)),(5,.slot 5,.cells [.val (.i .i64) (pdH h8),.lst 29,.val (.i .i64) (pdH h8),.lst 10] (some 30)),(29,.cell 5 1,.lst 3 (.i .i64) x.1 (List.isEmpty x.1)),(10,.cell 5 3,.lst 3 (.i .i64) (pdR (pdH h8) rs) false)]⟩),
 (2,⟨Unit,(List Int)×Int,[4,5,7],λe x=>[.box 4 0,.box 5 0,.val (.i .i64) x.2],λe x=>[(4,.slot 4,.cells [.val (.i .i64) (0:Int),.nilS,.val (.i .i64) (0:Int),.nilS] (some 30)),(5,.slot 5,.cells [.val (.i .i64) (pdH h8),.lst 29,.val (.i .i64) (pdH h8),.lst 10] (some 30)),(29,.cell 5 1,.lst 3 (.i .i64) x.1 (List.isEmpty x.1)),(10,.cell 5 3,.lst 3 (.i .i64) (pdR (pdH h8) rs) false)]⟩)]
theorem CN (d:Int×List Int):gwp (DG) (Cm d.1 d.2) c5 0 (Y4 [.cell 4 true 4] (MB d) (Gc d)) (Qq 49 (AL.can Dn d))=Ku d.1 d.2:=by kernel_rfl
abbrev A0:Prop:=OkC Tryz.prog 5 NQ
theorem C_ (h:∀ (h8:Int) (rs:List Int),(0<=h8/\h8<=255/\rs.length<=9223372036854775807/\∀ x∈rs,0<=x/\x<=65535)->Ku h8 rs):OkC Tryz.prog 5 NQ :=
 Qu J1u mixed (C:=DG) (V:=λ(d:Int×List Int)=>Ku d.1 d.2) ⟨(.cons Ra .nil),XsOk.nil,ItsOk.nil,YlOk.nil,IysOk.nil,XfOk.nil⟩ (CN) λd hp=>h d.1 d.2 hp
theorem Cg:A0:=C_ λh8 rs h=>by
 unfold Ku;(try delta GS H0 GU);(try delta lI gD sT I64 Q1 rg rb zD nS)
 (try simp only[zf,zy,and_true,true_and])
 obtain⟨n1,n2⟩:=LA h.1;refine⟨h,?_⟩;generalize pdR (pdH h8) rs=R;generalize pdH h8=H at *
 refine⟨(),([],0),(by and_intros<;>first|rfl|trivial|simp),?_⟩;refine LoopP.count2 H.toNat (λk l=>l=(List.range k).map λ(i:Nat)=>(i:Int)) rfl ?_;rintro k l hk rfl q hq;have fg:((List.range k).map λ(i:Nat)=>(i:Int)).length=k:=by simp
 have hs:((List.range (k+1)).map λ(i:Nat)=>(i:Int))=((List.range k).map λ(i:Nat)=>(i:Int))++[(k:Int)]:=by rw[List.range_succ,xd];rfl
 dsimp only;simp only[Qf,fg];refine⟨λao=>⟨by simp only[zw,List.length_nil];omega,by omega,(((List.range k).map λ(i:Nat)=>(i:Int))++[(k:Int)],(k:Int)+1),?_,hq _ (by omega) hs.symm⟩,λbZ=>⟨by omega,(),(((List.range k).map λ(i:Nat)=>(i:Int)),H-2),(by and_intros<;>first|rfl|trivial|simp),?_⟩⟩
 .have:(((List.range k).map λ(i:Nat)=>(i:Int))++[(k:Int)]).isEmpty=false:=by simp
  and_intros<;>first|rfl|trivial|exact this.symm
 .have ve:k=H.toNat:=by omega
  subst ve;refine⟨λd=>∃ j:Nat,(j:Int)<=H-2/\d.2=H-2-(j:Int)/\d.1=((List.range H.toNat).map λ(i:Nat)=>(i:Int))++(List.range j).map λ(i:Nat)=>H-2-i,λd=>d.2.toNat,⟨0,by omega,by simp,by simp⟩,?_⟩;rintro⟨l,x⟩ ⟨j,hj,e1,e2⟩;dsimp only at e1 e2 |-;subst e1;have hl:l.length=H.toNat+j:=by rw[e2];simp
  have hs:((List.range H.toNat).map λ(i:Nat)=>(i:Int))++((List.range (j+1)).map λ(i:Nat)=>H-2-i)=l++[H-2-(j:Int)]:=by rw[e2,List.range_succ,xd,zJ];rfl
  (try simp only[Qf])
  refine⟨λml=>⟨by simp only[zw,List.length_nil];omega,by omega,(l++[H-2-(j:Int)],H-2-(j:Int)-1),?_,⟨j+1,by omega,by dsimp only;omega,hs.symm⟩,by dsimp only;omega⟩,λhle=>?_⟩
  .have:(l++[H-2-(j:Int)]).isEmpty=false:=by simp
   and_intros<;>first|rfl|trivial|exact this.symm
  .have vf:j=H.toNat-2:=by omega
   subst vf;have hm:l=Y5 H:=e2;have aK:l.isEmpty=false:=by rw[List.isEmpty_eq_false_iff];rintro rfl;simp at hl;omega
   and_intros<;>first|rfl|trivial|exact hm|exact aK
def GH:AL (Int×List Int×Int×List Int):=(.one (.agg (.cons (.k (.i .i64)) (.cons (.k (.list (.i .i64))) (.cons (.k (.i .i64)) (.one (.k (.list (.i .i64)))))))))
def TX (d:Int×List Int×Int×List Int):Prop:=d.2.1.length<=1000/\d.2.2.2.length<=1000
def Md (d:Int×List Int×Int×List Int):SV:=.agg [.val (.i .i64) d.1,.lst 0,.val (.i .i64) d.2.2.1,.lst 1]
def Ml (d:Int×List Int×Int×List Int):List OB:=[.lst 3 (.i .i64) d.2.1 false,.lst 3 (.i .i64) d.2.2.2 false]
def UE:CSp:=Wt GH TX Md Ml
def YW (hk:Int) (lw:List Int) (hd:Int) (rows:List Int):Prop :=
 (lw.length<=1000)/\(false=true->lw=[])/\(rows.length<=1000)/\(false=true->rows=[])/\((hk=hk/\True/\hd=hd/\True/\nS)/\((lw=lw/\false=false)/\(rows=rows/\false=false)/\True))
def MS:Cx:=⟨[],[(15,Vd),(6,Vg)],15,[],0,[],[],[],[],false,[],[],[],[]⟩
def LF (hk:Int) (lw:List Int) (hd:Int) (rows:List Int):List (Nat×LoopAnn):=[]
theorem SC (d:Int×List Int×Int×List Int):gwp (MS) (LF d.1 d.2.1 d.2.2.1 d.2.2.2) c9 0 (Y4 [.cell 2 true 4] (Md d) (Ml d)) (Qq 15 (AL.can GH d))=YW d.1 d.2.1 d.2.2.1 d.2.2.2:=by kernel_rfl
abbrev RX:Prop:=OkC Tryz.prog 9 UE
theorem SK (h:∀ (hk:Int) (lw:List Int) (hd:Int) (rows:List Int),(lw.length<=1000/\rows.length<=1000)->YW hk lw hd rows):OkC Tryz.prog 9 UE :=
 Qu J0n mixed (C:=MS) (V:=λ(d:Int×List Int×Int×List Int)=>YW d.1 d.2.1 d.2.2.1 d.2.2.2) ⟨(.cons DE (.cons B4 .nil)),XsOk.nil,ItsOk.nil,YlOk.nil,IysOk.nil,XfOk.nil⟩ (SC) λd hp=>h d.1 d.2.1 d.2.2.1 d.2.2.2 hp
theorem SG:RX:=SK λhk lw hd rows h=>by
 unfold YW;(try delta lI gD sT I64 Q1 rg rb zD nS)
 (try simp only[and_true])
 obtain⟨h1,h2⟩:=h;and_intros<;>first|trivial|omega|(intro c;cases c)
def GD:AL ((Int×List Int)×List (Int×List Int)):=(.cons (.agg (.cons (.k (.i .i64)) (.one (.k (.list (.i .i64)))))) (.one (.ptr (.one (.k (.list (.pair (.i .i64) (.list (.i .i64)))))))))
def Rb (d:(Int×List Int)×List (Int×List Int)):Prop:=d.2≠[]
def M8 (d:(Int×List Int)×List (Int×List Int)):SV:=.val .bo (decide (d.1.1≠(d.2.getD 0 (0,[])).1)||decide (d.1.2.length≠(d.2.getD 0 (0,[])).2.length))
def M7 (d:(Int×List Int)×List (Int×List Int)):List OB:=[]
def UP:CSp:=Wt GD Rb M8 M7
def YQ (hd:Int) (rows:List Int) (l:List (Int×List Int)):Prop :=
 (0<=(0:Int))/\((0:Int)<l.length)/\((hd != (gD l (0:Int) (0,[])).1)=false->0<=(0:Int))/\((hd != (gD l (0:Int) (0,[])).1)=false->(0:Int)<l.length)/\(((hd != (gD l (0:Int) (0,[])).1)||((lI rows) != (((List.length (gD l (0:Int) (0,[])).2):Nat):Int)))=(decide (hd≠(l.getD 0 (0,[])).1)||decide (rows.length≠(l.getD 0 (0,[])).2.length))/\(True))
def Ge:Cx:=⟨[],[],22,[],0,[],[],[],[],false,[],[],[],[]⟩
def S5 (hd:Int) (rows:List Int) (l:List (Int×List Int)):List (Nat×LoopAnn):=[]
theorem L6 (d:(Int×List Int)×List (Int×List Int)):gwp (Ge) (S5 d.1.1 d.1.2 d.2) Z85 0 (Y4 [.tmp 3] (M8 d) (M7 d)) (Qq 22 (AL.can GD d))=YQ d.1.1 d.1.2 d.2:=by kernel_rfl
abbrev SO:Prop:=OkC Tryz.prog 111 UP
theorem Sl (h:∀ (hd:Int) (rows:List Int) (l:List (Int×List Int)),(l≠[])->YQ hd rows l):OkC Tryz.prog 111 UP :=
 Qu Z0v mixed (C:=Ge) (V:=λ(d:(Int×List Int)×List (Int×List Int))=>YQ d.1.1 d.1.2 d.2) ⟨.nil,XsOk.nil,ItsOk.nil,YlOk.nil,IysOk.nil,XfOk.nil⟩ (L6) λd hp=>h d.1.1 d.1.2 d.2 hp
theorem LI:SO:=Sl λhd rows l h=>by
 unfold YQ;(try delta lI gD sT I64 Q1 rg rb zD nS)
 (try simp only[and_true])
 have:0<l.length:=xK.2 h;refine⟨by omega,by omega,λ_=>by omega,λ_=>by omega,?_⟩;simp only[Int.toNat_zero];congr 1
 .by_cases e:hd=(l.getD 0 (0,[])).1
  .rw[xc (by simpa using e),e,bne_self_eq_false]
  .rw[xe e];exact bne_iff_ne.2 e
 .by_cases e:rows.length=(l.getD 0 (0,[])).2.length
  .rw[xc (by simpa using e),e,bne_self_eq_false]
  .rw[xe e];exact bne_iff_ne.2 (by omega)
def ZP:AL ((List (Int×List Int))×((Int×List Int->Prop)×(Int×List Int->Bool))):=(.cons (.k (.list (.pair (.i .i64) (.list (.i .i64))))) (.one (.fn [(.pair (.i .i64) (.list (.i .i64)))] .bo)))
def W6 (d:(List (Int×List Int))×((Int×List Int->Prop)×(Int×List Int->Bool))):Prop:=d.1.length<=1000000/\∀ x∈d.1,d.2.1 x
def ZK (d:(List (Int×List Int))×((Int×List Int->Prop)×(Int×List Int->Bool))):SV:=.val (.i .i64) (Ek d.1 d.2.2)
def ZI (d:(List (Int×List Int))×((Int×List Int->Prop)×(Int×List Int->Bool))):List OB:=[]
def QZ:CSp:=Wt ZP W6 ZK ZI
def Qt (l:List (Int×List Int)) (p:(Int×List Int->Prop)×(Int×List Int->Bool)):Prop :=
 ∃ (e2:Unit) (d20:Int),((l=l/\(SV.pf [(.pair (.i .i64) (.list (.i .i64)))] .bo p.1 p.2=SV.pf [(.pair (.i .i64) (.list (.i .i64)))] .bo p.1 p.2)/\(lI l)=(lI l)/\(0:Int)=d20/\True)/\(True)) /\
 LoopP (λ(d2:Int) (q2:(Int)->Prop) =>
  ((decide (d2<(lI l)))=true ->
   (0<=d2)/\(d2<l.length)/\(p.1 ((gD l d2 (0,[])).1,(gD l d2 (0,[])).2))/\((p.2 ((gD l d2 (0,[])).1,(gD l d2 (0,[])).2))=true ->
    (d2=(Ek l p.2)/\(True))) /\
   ((p.2 ((gD l d2 (0,[])).1,(gD l d2 (0,[])).2))=false ->
    (I64 (d2+(1:Int)))/\(∃ d3:Int,((l=l/\(SV.pf [(.pair (.i .i64) (.list (.i .i64)))] .bo p.1 p.2=SV.pf [(.pair (.i .i64) (.list (.i .i64)))] .bo p.1 p.2)/\(lI l)=(lI l)/\(d2+(1:Int))=d3/\True)/\(True))/\q2 d3))) /\
  ((decide (d2<(lI l)))=false ->
   ((-1:Int)=(Ek l p.2)/\(True)))) d20
def ZO:Cx:=⟨[],[],19,[],0,[],[],[],[],false,[],[],[],[]⟩
def Wd (l:List (Int×List Int)) (p:(Int×List Int->Prop)×(Int×List Int->Bool)):List (Nat×LoopAnn):=[(0,⟨Unit,Int,[0,1,7,8],λe x=>[.val (.list (.pair (.i .i64) (.list (.i .i64)))) l,.pf [(.pair (.i .i64) (.list (.i .i64)))] .bo p.1 p.2,.val (.i .i64) ((l.length:Nat):Int),.val (.i .i64) x],λe x=>[]⟩)]
theorem Wh (d:(List (Int×List Int))×((Int×List Int->Prop)×(Int×List Int->Bool))):gwp (ZO) (Wd d.1 d.2) Z87 0 (Y4 [.tmp 4] (ZK d) (ZI d)) (Qq 19 (AL.can ZP d))=Qt d.1 d.2:=by kernel_rfl
abbrev We:Prop:=OkC Tryz.prog 141 QZ
theorem Wg (h:∀ (l:List (Int×List Int)) (p:(Int×List Int->Prop)×(Int×List Int->Bool)),(l.length<=1000000/\∀ x∈l,p.1 x)->Qt l p):OkC Tryz.prog 141 QZ :=
 Qu Q9q mixed (C:=ZO) (V:=λ(d:(List (Int×List Int))×((Int×List Int->Prop)×(Int×List Int->Bool)))=>Qt d.1 d.2) ⟨.nil,XsOk.nil,ItsOk.nil,YlOk.nil,IysOk.nil,XfOk.nil⟩ (Wh) λd hp=>h d.1 d.2 hp
theorem Wf:We:=Wg λl p hp=>by
 unfold Qt;(try delta lI gD sT I64 Q1 rg rb zD nS);simp only[true_and,and_true,exists_eq_left',exists_const,zf,zy];refine LoopP.count l.length (λk=>(l.take k).any p.2=false) (by simp) λk bG hJ q hq=>?_;simp only[ze,Int.ofNat_lt,Qf];refine⟨λao=>?_,λbZ=>?_⟩
 .have ao:k<l.length:=by omega
  rw[Qc ao];refine⟨by omega,by omega,hp.2 _ (zl ao),λhx=>?_,λhx=>⟨by omega,hq ao ?_⟩⟩
  .rw[SF ao hx hJ]
  .rw[ZG ao,List.any_append,hJ];simp[hx]
 .rw[zL (by omega)] at hJ;rw[BW hJ]
def ZA:AL ((List (Int×List Int))×((Int×List Int->Prop)×(Int×List Int->Bool))):=(.cons (.k (.list (.pair (.i .i64) (.list (.i .i64))))) (.one (.fn [(.pair (.i .i64) (.list (.i .i64)))] .bo)))
def Xz (d:(List (Int×List Int))×((Int×List Int->Prop)×(Int×List Int->Bool))):Prop:=d.1.length<=1000000/\∀ x∈d.1,d.2.1 x
def Zz (d:(List (Int×List Int))×((Int×List Int->Prop)×(Int×List Int->Bool))):SV:=.val .bo (d.1.any d.2.2)
def Zx (d:(List (Int×List Int))×((Int×List Int->Prop)×(Int×List Int->Bool))):List OB:=[]
def QJ:CSp:=Wt ZA Xz Zz Zx
def Qp (l:List (Int×List Int)) (p:(Int×List Int->Prop)×(Int×List Int->Bool)):Prop :=
 (l.length<=1000000/\∀ x∈l,(λ(x1:Int×List Int)=>p.1 (x1.1,x1.2)) x)/\((decide ((Ek l (λ(x1:Int×List Int)=>(p.2 (x1.1,x1.2))))>=(0:Int)))=(l.any p.2)/\(True))
def ZC:Cx:=⟨[],[(141,QZ)],9,[],0,[],[],[],[],false,[],[],[],[]⟩
def XM (l:List (Int×List Int)) (p:(Int×List Int->Prop)×(Int×List Int->Bool)):List (Nat×LoopAnn):=[]
theorem XK (d:(List (Int×List Int))×((Int×List Int->Prop)×(Int×List Int->Bool))):gwp (ZC) (XM d.1 d.2) Z8w 0 (Y4 [.tmp 4] (Zz d) (Zx d)) (Qq 9 (AL.can ZA d))=Qp d.1 d.2:=by kernel_rfl
abbrev XJ:Prop:=OkC Tryz.prog 112 QJ
theorem XI (h:∀ (l:List (Int×List Int)) (p:(Int×List Int->Prop)×(Int×List Int->Bool)),(l.length<=1000000/\∀ x∈l,p.1 x)->Qp l p):OkC Tryz.prog 112 QJ :=
 Qu Q9t mixed (C:=ZC) (V:=λ(d:(List (Int×List Int))×((Int×List Int->Prop)×(Int×List Int->Bool)))=>Qp d.1 d.2) ⟨(.cons Wf .nil),XsOk.nil,ItsOk.nil,YlOk.nil,IysOk.nil,XfOk.nil⟩ (XK) λd hp=>h d.1 d.2 hp
theorem XL:XJ:=XI λl p hp=>by simp only[Qp];exact⟨hp,EX l p.2,trivial⟩
def Ha:AL (List (Int×List Int)):=(.one (.k (.list (.pair (.i .i64) (.list (.i .i64))))))
def LP (d:List (Int×List Int)):Prop:=d.length<=1000/\∀ x∈d,x.2.length<=1000
def Dr (d:List (Int×List Int)):SV:=.val (.i .i64) (WM d)
def Dz (d:List (Int×List Int)):List OB:=[]
def GM:CSp:=Wt Ha LP Dr Dz
abbrev Ev (l:List (Int×List Int)):=(l.any (λ(x1:Int×List Int)=>(decide (x1.1≠(l.getD 0 (0,[])).1)||decide (x1.2.length≠(l.getD 0 (0,[])).2.length))))
def Vq (l:List (Int×List Int)):Prop :=
 ((decide ((lI l) > (10:Int)))=true ->
  ((5:Int)=(WM l)/\(True))) /\
 ((decide ((lI l) > (10:Int)))=false ->
  (((lI l)==(0:Int))=true ->
   ((7:Int)=(WM l)/\(True))) /\
  (((lI l)==(0:Int))=false ->
   ∃ (e3:Unit) (d30:Int),((True/\l=l/\(lI l)=(lI l)/\(0:Int)=d30/\True)/\((l=l/\nS)/\True)) /\
   LoopP (λ(d3:Int) (q3:(Int)->Prop) =>
    ((decide (d3<(lI l)))=true ->
     (0<=d3)/\(d3<l.length)/\(((gD l d3 (0,[])).2).length<=1000000)/\(((Q4 ((gD l d3 (0,[])).1) ((gD l d3 (0,[])).2)) != (0:Int))=true ->
      ((Q4 ((gD l d3 (0,[])).1) ((gD l d3 (0,[])).2))=(WM l)/\(True))) /\
     (((Q4 ((gD l d3 (0,[])).1) ((gD l d3 (0,[])).2)) != (0:Int))=false ->
      (I64 (d3+(1:Int)))/\(∃ d4:Int,((True/\l=l/\(lI l)=(lI l)/\(d3+(1:Int))=d4/\True)/\((l=l/\nS)/\True))/\q3 d4))) /\
    ((decide (d3<(lI l)))=false ->
     (l.length<=1000000/\∀ x∈l,(λ(x1:Int×List Int)=>l≠[]) x)/\((Ev l)=true ->
      ((4:Int)=(WM l)/\(True))) /\
     ((Ev l)=false ->
      ((0:Int)=(WM l)/\(True))))) d30))
def HB:Cx:=⟨[],[(45,Vi),(112,QJ),(111,UP)],31,[],0,[],[],[],[],false,[],[],[],[]⟩
def EJ (l:List (Int×List Int)):List (Nat×LoopAnn):=[(1,⟨Unit,Int,[1,15,16,17],λe x=>[.box 1 0,.val (.list (.pair (.i .i64) (.list (.i .i64)))) l,.val (.i .i64) ((l.length:Nat):Int),.val (.i .i64) x],λe x=>[(1,.slot 1,.cells [.val (.list (.pair (.i .i64) (.list (.i .i64)))) l] (some 61))]⟩)]
theorem EG (d:List (Int×List Int)):gwp (HB) (EJ d) c72 0 (Y4 [.tmp 2] (Dr d) (Dz d)) (Qq 31 (AL.can Ha d))=Vq d:=by kernel_rfl
abbrev F3:Prop:=OkC Tryz.prog 72 GM
theorem Eb (h:∀ (l:List (Int×List Int)),(l.length<=1000/\∀ x∈l,x.2.length<=1000)->Vq l):OkC Tryz.prog 72 GM :=
 Qu Z3f mixed (C:=HB) (V:=λ(d:List (Int×List Int))=>Vq d) ⟨(.cons B9 (.cons XL (.cons LI .nil))),XsOk.nil,ItsOk.nil,YlOk.nil,IysOk.nil,XfOk.nil⟩ (EG) λd hp=>h d hp
theorem F5:F3:=Eb λl hl=>by
 unfold Vq;(try delta Ev);(try delta lI gD sT I64 Q1 rg rb zD nS)
 (try simp only[zf,zy,and_true,true_and])
 obtain⟨h1,h2⟩:=hl;refine⟨λh=>by unfold WM;rw[z7 (by omega)],λh=>⟨λh3=>?_,λh3=>?_⟩⟩
 .have:l=[]:=xp.1 (by have:=eq_of_beq h3;omega);unfold WM;rw[z6 (by omega),z7 this]
 have aK:l≠[]:=by rintro rfl;simp at h3
 have hu:WM l=if DZ l≠0 then DZ l else if l.any (λd=>decide (d.1≠(l.getD 0 (0,[])).1)||decide (d.2.length≠(l.getD 0 (0,[])).2.length)) then 4 else 0:=by unfold WM;rw[z6 (by omega),z6 aK]
 refine⟨(),0,(by and_intros<;>first|rfl|trivial|simp),?_⟩;refine LoopP.count l.length (λk=>∀ x∈l.take k,Q4 x.1 x.2=0) (by simp) λk hk hJ q hq=>?_;simp only[ze,Qf];refine⟨λao=>?_,λbZ=>?_⟩
 .have ao:k<l.length:=by omega
  rw[Qc ao];have h5:=h2 _ (zl ao);refine⟨by omega,by omega,by omega,λhx=>?_,λhx=>⟨by omega,(k:Int)+1,(by and_intros<;>first|rfl|trivial|simp),hq ao ?_⟩⟩
  .have hx:Q4 l[k].1 l[k].2≠0:=bne_iff_ne.1 hx;have hf:l.find? (λd=>decide (Q4 d.1 d.2≠0))=some l[k]:=by
    rw[List.find?_eq_some_iff_getElem];refine⟨xe hx,k,ao,rfl,λj hj=>?_⟩;have:=hJ l[j] (List.mem_take_iff_getElem.2 ⟨j,by omega,rfl⟩);simp[this]
   have hc:DZ l=Q4 l[k].1 l[k].2:=by unfold DZ;rw[hf]
   rw[hu,hc,z7 hx]
  .have hx:Q4 l[k].1 l[k].2=0:=by simpa using hx
   intro x pO;rw[ZG ao] at pO;rcases xj.1 pO with h6|h6
   .exact hJ x h6
   .rw[zS.1 h6];exact hx
 .rw[zL (by omega)] at hJ;have hf:l.find? (λd=>decide (Q4 d.1 d.2≠0))=none:=by
   rw[List.find?_eq_none];intro x hx;simp[hJ x hx]
  have hc:DZ l=0:=by unfold DZ;rw[hf]
  rw[hu,hc];refine⟨⟨by omega,λ_ _=>aK⟩,λhx=>?_,λhx=>?_⟩
  .rw[hx];rfl
  .rw[hx];rfl
def Nm:AL ((Int×Bool)×List Int):=(.cons (.agg (.cons (.k (.i .i64)) (.one (.k .bo)))) (.one (.k (.list (.i .i64)))))
def HR (d:(Int×Bool)×List Int):Prop:=1<=d.1.1/\d.1.1<=24/\d.2≠[]/\d.2.length<=110/\∀ x∈d.2,0<=x/\x<2 ^ d.1.1.toNat
def Uw (d:(Int×Bool)×List Int):SV:=.lst 0
def Uv (d:(Int×Bool)×List Int):List OB:=[.lst 3 (.i .i64) (P6 d.1.1 d.1.2 d.2) false]
def KR:CSp:=Wt Nm HR Uw Uv
def WY (h:Int) (t:Bool) (rows:List Int):Prop :=
 (rows≠[]/\rows.length<=110)/\∃ (e3:Unit) (d30:(List Int)×Int),((True/\True/\(lI rows)=(lI rows)/\(0:Int)=d30.2/\True)/\((h=h/\t=t/\nS)/\(rows=d30.1/\false=false)/\True)) /\
 LoopP (λ(d3:(List Int)×Int) (q3:((List Int)×Int)->Prop) =>
  ((decide (d3.2<(lI rows)))=true ->
   (t=true ->
    (0<=d3.2)/\(d3.2<d3.1.length)/\(0<=h/\h<=24)/\(0<=d3.2)/\(d3.2<d3.1.length)/\(I64 (d3.2+(1:Int)))/\(∃ d4:(List Int)×Int,((True/\True/\(lI rows)=(lI rows)/\(d3.2+(1:Int))=d4.2/\True)/\((h=h/\t=t/\nS)/\((sT d3.1 d3.2 (QB .xor .i64 (gD d3.1 d3.2 0) (2 ^ h.toNat-1)))=d4.1/\false=false)/\True))/\q3 d4)) /\
   (t=false ->
    (I64 (d3.2+(1:Int)))/\(∃ d5:(List Int)×Int,((True/\True/\(lI rows)=(lI rows)/\(d3.2+(1:Int))=d5.2/\True)/\((h=h/\t=t/\nS)/\(d3.1=d5.1/\false=false)/\True))/\q3 d5))) /\
  ((decide (d3.2<(lI rows)))=false ->
   (True/\((d3.1=(P6 h t rows)/\false=false)/\True)))) d30
def Ns:Cx:=⟨[],[(76,ZL),(96,GY)],27,[],0,[],[],[],[],false,[],[],[],[]⟩
def P7 (h:Int) (t:Bool) (rows:List Int):List (Nat×LoopAnn):=[(0,⟨Unit,(List Int)×Int,[2,5,10,11],λe x=>[.box 2 0,.lst 8,.val (.i .i64) ((rows.length:Nat):Int),.val (.i .i64) x.2],λe x=>[(2,.slot 2,.cells [.val (.i .i64) h,.val .bo t] (some 80)),(8,.slot 5,.lst 3 (.i .i64) x.1 false)]⟩)]
theorem PU (d:(Int×Bool)×List Int):gwp (Ns) (P7 d.1.1 d.1.2 d.2) c73 0 (Y4 [.tmp 4] (Uw d) (Uv d)) (Qq 27 (AL.can Nm d))=WY d.1.1 d.1.2 d.2:=by kernel_rfl
abbrev Pq:Prop:=OkC Tryz.prog 73 KR
theorem PG (h:∀ (h:Int) (t:Bool) (rows:List Int),(1<=h/\h<=24/\rows≠[]/\rows.length<=110/\∀ x∈rows,0<=x/\x<2 ^ h.toNat)->WY h t rows):OkC Tryz.prog 73 KR :=
 Qu Z6c mixed (C:=Ns) (V:=λ(d:(Int×Bool)×List Int)=>WY d.1.1 d.1.2 d.2) ⟨(.cons XX (.cons Sn .nil)),XsOk.nil,ItsOk.nil,YlOk.nil,IysOk.nil,XfOk.nil⟩ (PU) λd hp=>h d.1.1 d.1.2 d.2 hp
theorem PS:Pq:=PG λh t rows hp=>by
 unfold WY;(try delta lI gD sT I64 Q1 rg rb zD nS)
 (try simp only[zf,zy,and_true,true_and])
 obtain⟨h1,h2,h3,h4,h5⟩:=hp;refine⟨⟨h3,h4⟩,(),(rows,0),(by and_intros<;>first|rfl|trivial|simp),?_⟩;refine LoopP.count2 rows.length (λk l=>l.length=rows.length/\∀ i,i<rows.length->l.getD i 0=if i<k/\t=true then (((rows.getD i 0).toNat ^^^ (2 ^ h.toNat-1):Nat):Int) else rows.getD i 0) ⟨rfl,λi _=>by simp⟩ ?_;rintro k l hk ⟨hl,hJ⟩ q hq;dsimp only;simp only[ze,Qf,hl];refine⟨λao=>⟨λht=>?_,λht=>?_⟩,λbZ=>?_⟩
 .have ao:k<rows.length:=by omega
  have hx:=h5 _ (Kq ao);have aB:=hJ k ao;rw[z6 (by omega)] at aB;have gj:=PL (h:=h) (by omega) h2;have kJ:(2:Int) ^ h.toNat-1=((2 ^ h.toNat-1:Nat):Int):=by have:=Nat.one_le_two_pow (n:=h.toNat);push_cast [this];rfl
  have e1:QB .xor .i64 (l.getD k 0) (2 ^ h.toNat-1)=(((rows.getD k 0).toNat ^^^ (2 ^ h.toNat-1):Nat):Int):=by
   rw[aB,kJ];conv=>lhs;rw[show rows.getD k 0=(((rows.getD k 0).toNat:Nat):Int) by omega]
   exact J0f (by omega) (by omega)
  refine⟨by omega,by omega,⟨by omega,h2⟩,by omega,by omega,by omega,(l.set k (QB .xor .i64 (l.getD k 0) (2 ^ h.toNat-1)),(k:Int)+1),(by and_intros<;>first|rfl|trivial|simp),hq _ ao ⟨by simpa using hl,λi hi=>?_⟩⟩;by_cases e:i=k
  .subst e;rw[Qc (by simpa [hl] using hi),List.getElem_set_self,e1,z7 ⟨by omega,ht⟩]
  .have:(l.set k (QB .xor .i64 (l.getD k 0) (2 ^ h.toNat-1))).getD i 0=l.getD i 0:=by
    rw[zd,List.getElem?_set_ne (λx=>e x.symm),<-zd]
   rw[this,hJ i hi];by_cases e2:i<k
   .rw[z7 ⟨e2,ht⟩,z7 ⟨by omega,ht⟩]
   .rw[z6 (by omega),z6 (by omega)]
 .have ao:k<rows.length:=by omega
  refine⟨by omega,(l,(k:Int)+1),(by and_intros<;>first|rfl|trivial|simp),hq _ ao ⟨hl,λi hi=>?_⟩⟩;rw[hJ i hi,z6 (by rw[ht];simp),z6 (by rw[ht];simp)]
 .have gy:k=rows.length:=by omega
  subst gy;refine List.ext_getElem ?_ λi a1 a2=>?_
  .unfold P6;split<;>simp[hl]
  .have hi:i<rows.length:=by omega
   rw[<-Qc (d:=0) a1,<-Qc (d:=0) a2,hJ i hi];cases t with
   |true =>rw[z7 ⟨hi,rfl⟩];show _=(rows.map λr=>((r.toNat ^^^ (2 ^ h.toNat-1):Nat):Int)).getD i 0;rw[Qc hi,Qc (l:=rows.map _) (by simpa using hi),xP]
   |false =>rw[z6 (by simp)];rfl
def Ty:AL (List Int×List Int):=(.cons (.k (.list (.i .i64))) (.one (.k (.list (.i .i64)))))
def Fv (d:List Int×List Int):Prop:=d.2.length<=d.1.length/\d.2.length<=60/\(∀ x∈d.1,0<=x/\x<16777216)/\∀ x∈d.2,0<=x/\x<16777216
def Hb (d:List Int×List Int):SV:=.tup [.val (.i .i64) (Q7g d.1 d.2),.val .bo (Q15 d.1 d.2)]
def Hr (d:List Int×List Int):List OB:=[]
def Bg:CSp:=Wt Ty Fv Hb Hr
def Ub (a:List Int) (b:List Int):Prop :=
 ∃ (e2:Unit) (d20:Int×Int),((a=a/\(0:Int)=d20.1/\b=b/\(lI b)=(lI b)/\(0:Int)=d20.2/\True)/\(True)) /\
 LoopP (λ(d2:Int×Int) (q2:(Int×Int)->Prop) =>
  ((decide (d2.2<(lI b)))=true ->
   (0<=d2.2)/\(d2.2<b.length)/\(0<=d2.2)/\(d2.2<a.length)/\(((QB .andNot .i64 (gD b d2.2 0) (gD a d2.2 0)) != (0:Int))=true ->
    (((0:Int)=(Q7g a b)/\false=(Q15 a b)/\nS)/\(True))) /\
   (((QB .andNot .i64 (gD b d2.2 0) (gD a d2.2 0)) != (0:Int))=false ->
    (0<=d2.2)/\(d2.2<a.length)/\(InK .u64 (QB .andNot .i64 (gD a d2.2 0) (gD b d2.2 0)))/\(0<=(QB .andNot .i64 (gD a d2.2 0) (gD b d2.2 0))/\(QB .andNot .i64 (gD a d2.2 0) (gD b d2.2 0))<16777216)/\(I64 (d2.1+((pcN 24 (QB .andNot .i64 (gD a d2.2 0) (gD b d2.2 0)).toNat:Nat):Int)))/\(I64 (d2.2+(1:Int)))/\(∃ d3:Int×Int,((a=a/\(d2.1+((pcN 24 (QB .andNot .i64 (gD a d2.2 0) (gD b d2.2 0)).toNat:Nat):Int))=d3.1/\b=b/\(lI b)=(lI b)/\(d2.2+(1:Int))=d3.2/\True)/\(True))/\q2 d3))) /\
  ((decide (d2.2<(lI b)))=false ->
   ((d2.1=(Q7g a b)/\true=(Q15 a b)/\nS)/\(True)))) d20
def TD:Cx:=⟨[],[(74,X_)],34,[],0,[],[],[],[],false,[],[],[],[]⟩
def FY (a:List Int) (b:List Int):List (Nat×LoopAnn):=[(0,⟨Unit,Int×Int,[0,4,8,9,10],λe x=>[.val (.list (.i .i64)) a,.val (.i .i64) x.1,.val (.list (.i .i64)) b,.val (.i .i64) ((b.length:Nat):Int),.val (.i .i64) x.2],λe x=>[]⟩)]
theorem FU (d:List Int×List Int):gwp (TD) (FY d.1 d.2) c32 0 (Y4 [.tmp 4,.tmp 5] (Hb d) (Hr d)) (Qq 34 (AL.can Ty d))=Ub d.1 d.2:=by kernel_rfl
abbrev Oq:Prop:=OkC Tryz.prog 32 Bg
theorem Ih (h:∀ (a:List Int) (b:List Int),(b.length<=a.length/\b.length<=60/\(∀ x∈a,0<=x/\x<16777216)/\∀ x∈b,0<=x/\x<16777216)->Ub a b):OkC Tryz.prog 32 Bg :=
 Qu Z3z mixed (C:=TD) (V:=λ(d:List Int×List Int)=>Ub d.1 d.2) ⟨(.cons UZ .nil),XsOk.nil,ItsOk.nil,YlOk.nil,IysOk.nil,XfOk.nil⟩ (FU) λd hp=>h d.1 d.2 hp
theorem Z0i (a b:List Int):∀ k,Q2x a b k<=24*k
 |0=>by simp[Q2x]
 |k+1=>by have:=Z0i a b k;have:=Q9y 24 (Z0a a b k);unfold Q2x;omega
theorem Oc:Oq:=Ih λa b h=>by
 unfold Ub;(try delta lI gD sT I64 Q1 rg rb zD nS)
 (try simp only[zf,zy,and_true,true_and])
 obtain⟨h1,h2,h3,h4⟩:=h;refine⟨(),(0,0),(by and_intros<;>first|rfl|trivial|simp),?_⟩;refine LoopP.count2 b.length (λk n=>n=((Q2x a b k:Nat):Int)/\∀ i,i<k->(b.getD i 0).toNat ^^^ ((b.getD i 0).toNat &&& (a.getD i 0).toNat)=0) ⟨rfl,λi hi=>by omega⟩ ?_;rintro k n hk ⟨rfl,hJ⟩ q hq;dsimp only;simp only[ze,Qf,Ln];refine⟨λao=>?_,λbZ=>?_⟩
 .have ao:k<b.length:=by omega
  have ha:=h3 _ (Kq (show k<a.length by omega));have hb:=h4 _ (Kq ao);have e1:QB .andNot .i64 (b.getD k 0) (a.getD k 0)=(((b.getD k 0).toNat ^^^ ((b.getD k 0).toNat &&& (a.getD k 0).toNat):Nat):Int):=by have:=(PD (a:=(b.getD k 0).toNat) (b:=(a.getD k 0).toNat) (by omega) (by omega)).1;rw[show (((b.getD k 0).toNat:Nat):Int)=b.getD k 0 by omega,show (((a.getD k 0).toNat:Nat):Int)=a.getD k 0 by omega] at this;exact this
  have e2:QB .andNot .i64 (a.getD k 0) (b.getD k 0)=((Z0a a b k:Nat):Int)/\Z0a a b k<=(a.getD k 0).toNat:=by have:=PD (a:=(a.getD k 0).toNat) (b:=(b.getD k 0).toNat) (by omega) (by omega);rw[show (((b.getD k 0).toNat:Nat):Int)=b.getD k 0 by omega,show (((a.getD k 0).toNat:Nat):Int)=a.getD k 0 by omega] at this;exact this
  rw[e1,e2.1];simp only[ze];have hm:=e2.2;have hle:=Z0i a b k;have wc:=Q9y 24 (Z0a a b k);refine⟨by omega,by omega,by omega,by omega,λhx=>?_,λhx=>⟨by omega,by omega,by omega,by omega,by omega,by omega,(((Q2x a b (k+1):Nat):Int),(k:Int)+1),?_,hq _ ao ⟨rfl,λi hi=>?_⟩⟩⟩
  .have hx:=bne_iff_ne.1 hx;have hB:Q15 a b=false:=by
    unfold Q15;rw[<-xN,zg];intro h;have:=eq_of_beq (h k (zG.2 ao));exact hx (by rw[this];rfl)
   unfold Q7g;rw[hB];exact⟨rfl,rfl⟩
  .have e3:((Q2x a b (k+1):Nat):Int)=((Q2x a b k:Nat):Int)+((pcN 24 (Z0a a b k):Nat):Int):=by simp only[Q2x];push_cast;rfl
   dsimp only;rw[e3];and_intros<;>first|rfl|trivial
  .by_cases e:i=k
   .subst e;have hx:(((b.getD i 0).toNat ^^^ ((b.getD i 0).toNat &&& (a.getD i 0).toNat):Nat):Int)=0:=by simpa using hx
    omega
   .exact hJ i (by omega)
 .have gy:k=b.length:=by omega
  subst gy;have hB:Q15 a b=true:=by unfold Q15;rw[zg];intro i hi;rw[hJ i (zG.1 hi)];rfl
  unfold Q7g;rw[hB];exact⟨rfl,rfl⟩
def Na:AL (Int×List Int):=(.cons (.k (.i .i64)) (.one (.k (.list (.i .i64)))))
def Hg (d:Int×List Int):Prop:=d.2.length<=1000000
def Un (d:Int×List Int):SV:=.val (.i .i64) (Ur d.1 d.2)
def Ux (d:Int×List Int):List OB:=[]
def KX:CSp:=Wt Na Hg Un Ux
def WS (n:Int) (ks:List Int):Prop :=
 (((lI ks) != n)=true ->
  ((4:Int)=(Ur n ks)/\(True))) /\
 (((lI ks) != n)=false ->
  (ks.length<=1000000)/\((!(!(ks.any λn=>decide (n<(-1:Int))||decide ((27624:Int)<n))))=true ->
   ((2:Int)=(Ur n ks)/\(True))) /\
  ((!(!(ks.any λn=>decide (n<(-1:Int))||decide ((27624:Int)<n))))=false ->
   ((0:Int)=(Ur n ks)/\(True))))
def Np:Cx:=⟨[],[(95,Vn)],14,[],0,[],[],[],[],false,[],[],[],[]⟩
def PX (n:Int) (ks:List Int):List (Nat×LoopAnn):=[]
theorem Ps (d:Int×List Int):gwp (Np) (PX d.1 d.2) c48 0 (Y4 [.tmp 4] (Un d) (Ux d)) (Qq 14 (AL.can Na d))=WS d.1 d.2:=by kernel_rfl
abbrev Pv:Prop:=OkC Tryz.prog 48 KX
theorem P8 (h:∀ (n:Int) (ks:List Int),(ks.length<=1000000)->WS n ks):OkC Tryz.prog 48 KX :=
 Qu Z3x mixed (C:=Np) (V:=λ(d:Int×List Int)=>WS d.1 d.2) ⟨(.cons Dt .nil),XsOk.nil,ItsOk.nil,YlOk.nil,IysOk.nil,XfOk.nil⟩ (Ps) λd hp=>h d.1 d.2 hp
theorem PE:Pv:=P8 λn ks h=>by
 unfold WS;(try delta lI gD sT I64 Q1 rg rb zD nS)
 (try simp only[and_true])
 have e:(ks.any λn=>decide (n < -1)||decide (27624<n))=ks.any λk=>!inI k (-1) 27624:=by
  congr 1;funext k
  unfold inI;by_cases a1:k < -1
  .rw[xe a1,xc (show ¬ -1<=k by omega)];rfl
  .rw[xc a1,xe (show -1<=k by omega)];by_cases a2:27624<k
   .rw[xe a2,xc (show ¬ k<=27624 by omega)];rfl
   .rw[xc a2,xe (show k<=27624 by omega)];rfl
 rw[e,Bool.not_not];refine⟨λh1=>by unfold Ur;rw[z7 (bne_iff_ne.1 h1)],λh1=>⟨h,λh2=>?_,λh2=>?_⟩⟩
 all_goals
  have h1:(ks.length:Int)=n:=by simpa using h1
  unfold Ur;rw[z6 (by omega),h2];rfl
def HI:AL ((Int×List Int)×List Int):=(.cons (.agg (.cons (.k (.i .i64)) (.one (.k (.list (.i .i64)))))) (.one (.k (.list (.i .i64)))))
def LW (d:(Int×List Int)×List Int):Prop:=d.1.2.length<=1000/\d.2.length<=1000
def DM (d:(Int×List Int)×List Int):SV:=.tup [.lst 0,.val (.i .i64) (V8 d.1.1 d.1.2 d.2)]
def Bc (d:(Int×List Int)×List Int):List OB:=[.lst 3 (.i .i64) (AD d.1.1 d.1.2 d.2) ((AD d.1.1 d.1.2 d.2).isEmpty)]
def Gf:CSp:=Wt HI LW DM Bc
abbrev H9 (hd:Int) (rows:List Int):=((J4 hd rows)=(J4 hd rows)/\(List.isEmpty (J4 hd rows))=(List.isEmpty (J4 hd rows)))
def Vf (hd:Int) (rows:List Int) (ks:List Int):Prop :=
 (rows.length<=1000)/\(((Q4 hd rows)==(0:Int))=true ->
  (ks.length<=1000000)/\(((Ur (lI rows) ks) != (0:Int))=true ->
   ((True/\(Ur (lI rows) ks)=(V8 hd rows ks)/\nS)/\(((AD hd rows ks)=[]/\(AD hd rows ks).isEmpty=true)/\True))) /\
  (((Ur (lI rows) ks) != (0:Int))=false ->
   ∃ (e4:Unit) (d40:(List Int)×Int),((True/\True/\ks=ks/\(lI ks)=(lI ks)/\(0:Int)=d40.2/\True)/\((d40.1=[]/\d40.1.isEmpty=true)/\((J4 hd rows)=(J4 hd rows)/\(J4 hd rows).isEmpty=(List.isEmpty (J4 hd rows)))/\True)) /\
   LoopP (λ(d4:(List Int)×Int) (q4:((List Int)×Int)->Prop) =>
    ((decide (d4.2<(lI ks)))=true ->
     (0<=d4.2)/\(d4.2<ks.length)/\(((gD ks d4.2 0) != (-1:Int))=true->0<=d4.2)/\(((gD ks d4.2 0) != (-1:Int))=true->d4.2<(List.length (J4 hd rows)))/\((((gD ks d4.2 0) != (-1:Int))&&((gD ks d4.2 0) != (gD (J4 hd rows) d4.2 0)))=true ->
      ((d4.1.length+(List.length [d4.2]))*8<=70368744177664)/\(I64 (d4.2+(1:Int)))/\(∃ d5:(List Int)×Int,((True/\True/\ks=ks/\(lI ks)=(lI ks)/\(d4.2+(1:Int))=d5.2/\True)/\(((d4.1++[d4.2])=d5.1/\false=d5.1.isEmpty)/\(H9 hd rows)/\True))/\q4 d5)) /\
     ((((gD ks d4.2 0) != (-1:Int))&&((gD ks d4.2 0) != (gD (J4 hd rows) d4.2 0)))=false ->
      (I64 (d4.2+(1:Int)))/\(∃ d6:(List Int)×Int,((True/\True/\ks=ks/\(lI ks)=(lI ks)/\(d4.2+(1:Int))=d6.2/\True)/\((d4.1=d6.1/\d4.1.isEmpty=d6.1.isEmpty)/\(H9 hd rows)/\True))/\q4 d6))) /\
    ((decide (d4.2<(lI ks)))=false ->
     ((True/\(0:Int)=(V8 hd rows ks)/\nS)/\((d4.1=(AD hd rows ks)/\d4.1.isEmpty=(AD hd rows ks).isEmpty)/\True)))) d40)) /\
 (((Q4 hd rows)==(0:Int))=false ->
  (((Q4 hd rows) != (0:Int))=true ->
   ((True/\(Q4 hd rows)=(V8 hd rows ks)/\nS)/\(((AD hd rows ks)=[]/\(AD hd rows ks).isEmpty=true)/\True))) /\
  (((Q4 hd rows) != (0:Int))=false ->
   ∃ (ae:Unit) (d100:(List Int)×Int),((True/\True/\ks=ks/\(lI ks)=(lI ks)/\(0:Int)=d100.2/\True)/\((d100.1=[]/\d100.1.isEmpty=true)/\((J4 hd rows)=(J4 hd rows)/\(J4 hd rows).isEmpty=(List.isEmpty (J4 hd rows)))/\True)) /\
   LoopP (λ(d10:(List Int)×Int) (iI:((List Int)×Int)->Prop) =>
    ((decide (d10.2<(lI ks)))=true ->
     (0<=d10.2)/\(d10.2<ks.length)/\(((gD ks d10.2 0) != (-1:Int))=true->0<=d10.2)/\(((gD ks d10.2 0) != (-1:Int))=true->d10.2<(List.length (J4 hd rows)))/\((((gD ks d10.2 0) != (-1:Int))&&((gD ks d10.2 0) != (gD (J4 hd rows) d10.2 0)))=true ->
      ((d10.1.length+(List.length [d10.2]))*8<=70368744177664)/\(I64 (d10.2+(1:Int)))/\(∃ d11:(List Int)×Int,((True/\True/\ks=ks/\(lI ks)=(lI ks)/\(d10.2+(1:Int))=d11.2/\True)/\(((d10.1++[d10.2])=d11.1/\false=d11.1.isEmpty)/\(H9 hd rows)/\True))/\iI d11)) /\
     ((((gD ks d10.2 0) != (-1:Int))&&((gD ks d10.2 0) != (gD (J4 hd rows) d10.2 0)))=false ->
      (I64 (d10.2+(1:Int)))/\(∃ d12:(List Int)×Int,((True/\True/\ks=ks/\(lI ks)=(lI ks)/\(d10.2+(1:Int))=d12.2/\True)/\((d10.1=d12.1/\d10.1.isEmpty=d12.1.isEmpty)/\(H9 hd rows)/\True))/\iI d12))) /\
    ((decide (d10.2<(lI ks)))=false ->
     ((True/\(0:Int)=(V8 hd rows ks)/\nS)/\((d10.1=(AD hd rows ks)/\d10.1.isEmpty=(AD hd rows ks).isEmpty)/\True)))) d100))
def HW:Cx:=⟨[(3,(.i .i64))],[(13,NO),(48,KX)],47,[],0,[],[],[],[],false,[],[],[],[]⟩
def Er (hd:Int) (rows:List Int) (ks:List Int):List (Nat×LoopAnn):=[(0,⟨Unit,(List Int)×Int,[4,6,24,25,26],λe x=>[.lst 44,.lst 11,.val (.list (.i .i64)) ks,.val (.i .i64) ((ks.length:Nat):Int),.val (.i .i64) x.2],λe x=>[(44,.slot 4,.lst 3 (.i .i64) x.1 (List.isEmpty x.1)),(11,.slot 6,.lst 3 (.i .i64) (J4 hd rows) (List.isEmpty (J4 hd rows)))]⟩)]
theorem Em (d:(Int×List Int)×List Int):gwp (HW) (Er d.1.1 d.1.2 d.2) c14 0 (Y4 [.tmp 4,.tmp 5] (DM d) (Bc d)) (Qq 47 (AL.can HI d))=Vf d.1.1 d.1.2 d.2:=by kernel_rfl
abbrev AX:Prop:=OkC Tryz.prog 14 Gf
theorem Ez (h:∀ (hd:Int) (rows:List Int) (ks:List Int),(rows.length<=1000/\ks.length<=1000)->Vf hd rows ks):OkC Tryz.prog 14 Gf :=
 Qu Z6m mixed (C:=HW) (V:=λ(d:(Int×List Int)×List Int)=>Vf d.1.1 d.1.2 d.2) ⟨(.cons Tq (.cons PE .nil)),XsOk.nil,ItsOk.nil,YlOk.nil,IysOk.nil,XfOk.nil⟩ (Em) λd hp=>h d.1.1 d.1.2 d.2 hp
theorem F9:AX:=Ez λhd rows ks h=>by
 unfold Vf;(try delta H9);(try delta lI gD sT I64 Q1 rg rb zD nS)
 (try simp only[zf,zy,and_true,true_and])
 obtain⟨h1,h2⟩:=h;refine⟨h1,λhp=>⟨by omega,λhx=>?_,λhx=>?_⟩,λhp=>⟨λhx=>?_,λhx=>?_⟩⟩
 .have qK:Q4 hd rows=0:=eq_of_beq hp;have hx:=bne_iff_ne.1 hx;have e:V8 hd rows ks=Ur rows.length ks:=by unfold V8;rw[z6 (by omega)]
  have e2:AD hd rows ks=[]:=by unfold AD;rw[z6 (by rw[e];exact hx)]
  rw[e,e2];and_intros<;>first|rfl|trivial
 .have qK:Q4 hd rows=0:=eq_of_beq hp;have hx:Ur rows.length ks=0:=by simpa using hx
  have e:V8 hd rows ks=0:=by unfold V8;rw[z6 (by omega)];exact hx
  have e2:AD hd rows ks=((List.range ks.length).filter λi=>ks.getD i 0 != -1&&ks.getD i 0 != (J4 hd rows).getD i 0).map λ(i:Nat)=>(i:Int):=by unfold AD;rw[z7 e]
  have cr:ks.length=rows.length:=by
   unfold Ur at hx;split at hx
   .cases hx
   .omega
  have hW:(J4 hd rows).length=rows.length:=by unfold J4;rw[z7 qK,zM]
  rw[e,e2];clear e e2 hx;refine⟨(),([],0),(by and_intros<;>first|rfl|trivial|simp),?_⟩;refine LoopP.count2 ks.length (λk l=>l=((List.range k).filter λi=>ks.getD i 0 != -1&&ks.getD i 0 != (J4 hd rows).getD i 0).map λ(i:Nat)=>(i:Int)) rfl ?_;rintro k l hk rfl q hq;have fg:(((List.range k).filter λi=>ks.getD i 0 != -1&&ks.getD i 0 != (J4 hd rows).getD i 0).map λ(i:Nat)=>(i:Int)).length<=k:=by rw[zM];exact zO (List.length_filter_le _ _) (by simp)
  have hs:(((List.range (k+1)).filter λi=>ks.getD i 0 != -1&&ks.getD i 0 != (J4 hd rows).getD i 0).map λ(i:Nat)=>(i:Int))=(((List.range k).filter λi=>ks.getD i 0 != -1&&ks.getD i 0 != (J4 hd rows).getD i 0).map λ(i:Nat)=>(i:Int))++(if (ks.getD k 0 != -1&&ks.getD k 0 != (J4 hd rows).getD k 0)=true then [(k:Int)] else []):=by
   rw[List.range_succ,List.filter_append,xd];congr 1;by_cases c:(ks.getD k 0 != -1&&ks.getD k 0 != (J4 hd rows).getD k 0)=true
   .rw[z7 c,xT,z7 c];rfl
   .rw[z6 c,xT,z6 c];rfl
  generalize b_:(((List.range k).filter λi=>ks.getD i 0 != -1&&ks.getD i 0 != (J4 hd rows).getD i 0).map λ(i:Nat)=>(i:Int))=l at fg hs hq |-;dsimp only;simp only[ze,Qf];refine⟨λao=>⟨by omega,by omega,λ_=>by omega,λ_=>by omega,λc=>⟨by simp only[zw,List.length_nil];omega,by omega,(l++[(k:Int)],(k:Int)+1),?_,hq _ (by omega) (by rw[hs,z7 c])⟩,λc=>⟨by omega,(l,(k:Int)+1),(by and_intros<;>first|rfl|trivial|simp),hq _ (by omega) (by rw[hs,z6 (by rw[c];simp),x7])⟩⟩,λbZ=>?_⟩
  .have:(l++[(k:Int)]).isEmpty=false:=by simp
   and_intros<;>first|rfl|trivial|exact this.symm
  .have:k=ks.length:=by omega
   subst this;rw[b_];and_intros<;>first|rfl|trivial
 .have hx:=bne_iff_ne.1 hx;have e:V8 hd rows ks=Q4 hd rows:=by unfold V8;rw[z7 hx]
  have e2:AD hd rows ks=[]:=by unfold AD;rw[z6 (by rw[e];exact hx)]
  rw[e,e2];and_intros<;>first|rfl|trivial
 .have hx:Q4 hd rows=0:=by simpa using hx
  rw[hx] at hp;simp at hp
def Ta:AL (Int×(Int×List Int)×Int×List Int):=(.cons (.k (.i .i64)) (.cons (.agg (.cons (.k (.i .i64)) (.one (.k (.list (.i .i64)))))) (.one (.agg (.cons (.k (.i .i64)) (.one (.k (.list (.i .i64)))))))))
def AW (d:Int×(Int×List Int)×Int×List Int):Prop:=d.2.1.2.length<=1000/\d.2.2.2.length<=1000
def Hu (d:Int×(Int×List Int)×Int×List Int):SV:=.tup [.val .bo (At d.1 d.2.1.1 d.2.1.2 d.2.2.1 d.2.2.2),.val (.i .i64) (Ac d.1 d.2.1.1 d.2.1.2 d.2.2.1 d.2.2.2),.val (.i .i64) (Y1 d.1 [(d.2.1.1,d.2.1.2),(d.2.2.1,d.2.2.2)])]
def BN (d:Int×(Int×List Int)×Int×List Int):List OB:=[]
def Bt:CSp:=Wt Ta AW Hu BN
def Ul (w:Int) (hd:Int) (rows:List Int) (aP:Int) (au:List Int):Prop :=
 ∀ w1:List Value,([(hd,rows),(aP,au)].length<=1000/\∀ x∈[(hd,rows),(aP,au)],x.2.length<=1000)/\(((WM [(hd,rows),(aP,au)]) != (0:Int))=true ->
  w1=w1/\(((WM [(hd,rows),(aP,au)]) != (0:Int))=true ->
   ((false=(At w hd rows aP au)/\(0:Int)=(Ac w hd rows aP au)/\(WM [(hd,rows),(aP,au)])=(Y1 w [(hd,rows),(aP,au)])/\nS)/\(True))) /\
  (((WM [(hd,rows),(aP,au)]) != (0:Int))=false ->
   False)) /\
 (((WM [(hd,rows),(aP,au)]) != (0:Int))=false ->
  (((w != (1:Int))&&(w != (2:Int)))=true ->
   w1=w1/\(((2:Int) != (0:Int))=true ->
    ((false=(At w hd rows aP au)/\(0:Int)=(Ac w hd rows aP au)/\(2:Int)=(Y1 w [(hd,rows),(aP,au)])/\nS)/\(True))) /\
   (((2:Int) != (0:Int))=false ->
    False)) /\
  (((w != (1:Int))&&(w != (2:Int)))=false ->
   (0<=(0:Int))/\((0:Int)<(List.length [(hd,rows),(aP,au)]))/\∃ (e5:Int×Bool×(List (Int×List Int))×Int×Int×Int×(List Int)×Int×(List Int)×Int×(List Int)×Int×(List Int)×Bool×Int×Int×Int×Int×(List Int)×Int×(List Int)×(List Value)) (d50:(List (List Int))×Int),((True/\True/\(lI [(hd,rows),(aP,au)])=e5.2.2.2.1/\(0:Int)=d50.2/\True)/\(((gD [(hd,rows),(aP,au)] (0:Int) (0,[])).1=e5.1/\(w==(2:Int))=e5.2.1/\True/\nS)/\(d50.1=[]/\d50.1.isEmpty=true)/\([(hd,rows),(aP,au)]=e5.2.2.1/\false=false)/\((rb (Q1 e5)).2=w1/\(w=(rb e5).1/\(hd=(rb e5).2.1/\rows=(rb e5).2.2.1/\nS)/\(aP=(rb e5).2.2.2.1/\au=(rg e5).1/\nS)/\True/\True/\True/\false=(rb (rg e5)).2.1/\(0:Int)=(rb (rg e5)).2.2.1/\(0:Int)=(rb (rg e5)).2.2.2.1/\True/\True/\w=(Q1 e5).1/\(hd=(Q1 e5).2.1/\rows=(Q1 e5).2.2.1/\nS)/\(aP=(Q1 e5).2.2.2.1/\au=(rb (Q1 e5)).1/\nS)/\True/\True/\True/\True/\True/\True/\True/\True/\True/\True/\True/\True/\True/\True/\True/\True/\True/\True/\True/\True/\True/\nS))/\(hd=(rg e5).2.1/\rows=(rg e5).2.2.1/\nS)/\(aP=(rg e5).2.2.2.1/\au=(rb (rg e5)).1/\nS)/\True)) /\
   LoopP (λ(d5:(List (List Int))×Int) (q5:((List (List Int))×Int)->Prop) =>
    ((decide (d5.2<e5.2.2.2.1))=true ->
     (0<=d5.2)/\(d5.2<e5.2.2.1.length)/\(1<=e5.1/\e5.1<=24/\((gD e5.2.2.1 d5.2 (0,[])).2)≠[]/\((gD e5.2.2.1 d5.2 (0,[])).2).length<=110/\∀ x∈((gD e5.2.2.1 d5.2 (0,[])).2),0<=x/\x<2 ^ e5.1.toNat)/\(false=true->(P6 e5.1 e5.2.1 ((gD e5.2.2.1 d5.2 (0,[])).2))=[])/\((d5.1.length+(List.length [(P6 e5.1 e5.2.1 ((gD e5.2.2.1 d5.2 (0,[])).2))]))*24<=70368744177664)/\(I64 (d5.2+(1:Int)))/\(∃ d6:(List (List Int))×Int,((True/\True/\e5.2.2.2.1=e5.2.2.2.1/\(d5.2+(1:Int))=d6.2/\True)/\((e5.1=e5.1/\e5.2.1=e5.2.1/\True/\nS)/\((d5.1++[(P6 e5.1 e5.2.1 ((gD e5.2.2.1 d5.2 (0,[])).2))])=d6.1/\false=d6.1.isEmpty)/\(e5.2.2.1=e5.2.2.1/\false=false)/\((rb (Q1 e5)).2=(rb (Q1 e5)).2/\((rb e5).1=(rb e5).1/\((rb e5).2.1=(rb e5).2.1/\(rb e5).2.2.1=(rb e5).2.2.1/\nS)/\((rb e5).2.2.2.1=(rb e5).2.2.2.1/\(rg e5).1=(rg e5).1/\nS)/\True/\True/\True/\(rb (rg e5)).2.1=(rb (rg e5)).2.1/\(rb (rg e5)).2.2.1=(rb (rg e5)).2.2.1/\(rb (rg e5)).2.2.2.1=(rb (rg e5)).2.2.2.1/\True/\True/\(Q1 e5).1=(Q1 e5).1/\((Q1 e5).2.1=(Q1 e5).2.1/\(Q1 e5).2.2.1=(Q1 e5).2.2.1/\nS)/\((Q1 e5).2.2.2.1=(Q1 e5).2.2.2.1/\(rb (Q1 e5)).1=(rb (Q1 e5)).1/\nS)/\True/\True/\True/\True/\True/\True/\True/\True/\True/\True/\True/\True/\True/\True/\True/\True/\True/\True/\True/\True/\True/\nS))/\((rg e5).2.1=(rg e5).2.1/\(rg e5).2.2.1=(rg e5).2.2.1/\nS)/\((rg e5).2.2.2.1=(rg e5).2.2.2.1/\(rb (rg e5)).1=(rb (rg e5)).1/\nS)/\True))/\q5 d6)) /\
    ((decide (d5.2<e5.2.2.2.1))=false ->
     (rb (Q1 e5)).2=w1/\(((0:Int) != (0:Int))=true ->
      ((false=(At w hd rows aP au)/\(0:Int)=(Ac w hd rows aP au)/\(0:Int)=(Y1 w [(hd,rows),(aP,au)])/\nS)/\(True))) /\
     (((0:Int) != (0:Int))=false ->
      (0<=(0:Int))/\((0:Int)<d5.1.length)/\(0<=(1:Int))/\((1:Int)<d5.1.length)/\((gD d5.1 (1:Int) []).length<=(gD d5.1 (0:Int) []).length/\(gD d5.1 (1:Int) []).length<=60/\(∀ x∈(gD d5.1 (0:Int) []),0<=x/\x<16777216)/\∀ x∈(gD d5.1 (1:Int) []),0<=x/\x<16777216)/\(((Q15 (gD d5.1 (0:Int) []) (gD d5.1 (1:Int) []))=(At w hd rows aP au)/\(Q7g (gD d5.1 (0:Int) []) (gD d5.1 (1:Int) []))=(Ac w hd rows aP au)/\(0:Int)=(Y1 w [(hd,rows),(aP,au)])/\nS)/\(True))))) d50))
def K9:Cx:=⟨[(24,(.list (.i .i64)))],[(72,GM),(73,KR)],48,[],0,[],[],[(24,3)],[],false,[],[],[],[]⟩
def K5:List (Nat×LoopAnn):=[(0,⟨Int×Bool×(List (Int×List Int))×Int×Int×Int×(List Int)×Int×(List Int)×Int×(List Int)×Int×(List Int)×Bool×Int×Int×Int×Int×(List Int)×Int×(List Int)×(List Value),(List (List Int))×Int,[4,30,31,32],λe x=>[.box 1600004 0,.lst 14,.val (.i .i64) e.2.2.2.1,.val (.i .i64) x.2],λe x=>[(1600004,.slot 4,.cells [.val (.i .i64) e.1,.val .bo e.2.1,.dd 1600044 .out] (some 83)),(1600044,.cell 1600004 2,.deep 24 (some 3) (.list (.i .i64)) x.1 (List.isEmpty x.1) none),(14,.slot 30,.lst 28 (.pair (.i .i64) (.list (.i .i64))) e.2.2.1 false),(1599999,.key 1599999,.stk [.val (.i .i64) (rb e).1,.agg [.val (.i .i64) (rb e).2.1,.val (.list (.i .i64)) (rb e).2.2.1],.agg [.val (.i .i64) (rb e).2.2.2.1,.val (.list (.i .i64)) (rg e).1],.any,.box 4 0,.box 5 0,.val .bo (rb (rg e)).2.1,.val (.i .i64) (rb (rg e)).2.2.1,.val (.i .i64) (rb (rg e)).2.2.2.1,.any,.any,.val (.i .i64) (Q1 e).1,.agg [.val (.i .i64) (Q1 e).2.1,.val (.list (.i .i64)) (Q1 e).2.2.1],.agg [.val (.i .i64) (Q1 e).2.2.2.1,.val (.list (.i .i64)) (rb (Q1 e)).1],.lst 14,.any,.any,.any,.any,.any,.any,.any,.any,.any,.any,.any,.any,.any,.any,.any,.any,.any,.any,.any,.any] (rb (Q1 e)).2),(4,.key 4,.cells [.val (.i .i64) (rg e).2.1,.val (.list (.i .i64)) (rg e).2.2.1] (some 28)),(5,.key 5,.cells [.val (.i .i64) (rg e).2.2.2.1,.val (.list (.i .i64)) (rb (rg e)).1] (some 28))]⟩)]
def Tu:Cx:=⟨[(28,(.pair (.i .i64) (.list (.i .i64))))],[(32,Bg)],35,[14],0,[(31,FJ K9 (λ_=>K5) c31 [.cell 4 true 3,.tmp 5] 48)],[],[],[],false,[],[],[],[]⟩
def On (w:Int) (hd:Int) (rows:List Int) (aP:Int) (au:List Int):List (Nat×LoopAnn):=[]
theorem IF (d:Int×(Int×List Int)×Int×List Int):gwp (Tu) (On d.1 d.2.1.1 d.2.1.2 d.2.2.1 d.2.2.2) c7 0 (Y4 [.tmp 6,.tmp 7,.tmp 8] (Hu d) (BN d)) (Qq 35 (AL.can Ta d))=Ul d.1 d.2.1.1 d.2.1.2 d.2.2.1 d.2.2.2:=by kernel_rfl
abbrev IA:Prop:=OkC Tryz.prog 7 Bt
theorem O6 (h:∀ (w:Int) (hd:Int) (rows:List Int) (aP:Int) (au:List Int),(rows.length<=1000/\au.length<=1000)->Ul w hd rows aP au):OkC Tryz.prog 7 Bt :=
 Qu J29 mixed (C:=Tu) (V:=λ(d:Int×(Int×List Int)×Int×List Int)=>Ul d.1 d.2.1.1 d.2.1.2 d.2.2.1 d.2.2.2) ⟨(.cons Oc .nil),(XsOk.cons (WN Z6a mixed (C:=K9) ⟨(.cons F5 (.cons PS .nil)),XsOk.nil,ItsOk.nil,YlOk.nil,IysOk.nil,XfOk.nil⟩ (λ_=>K5)) XsOk.nil),ItsOk.nil,YlOk.nil,IysOk.nil,XfOk.nil⟩ (IF) λd hp=>h d.1 d.2.1.1 d.2.1.2 d.2.2.1 d.2.2.2 hp
theorem Z2m {hd aP:Int}{rows au:List Int}(h:WM [(hd,rows),(aP,au)]=0):Q4 hd rows=0/\Q4 aP au=0/\aP=hd/\au.length=rows.length:=by
 unfold WM at h;rw[An] at h;by_cases a:Q4 hd rows=0
 .by_cases b:Q4 aP au=0
  .refine⟨a,b,?_⟩;simpa [a,b] using h
  .simp[a,b] at h
 .simp[a] at h
theorem Z0r {h:Int}{t:Bool}{rows:List Int}(h1:1<=h) (h2:h<=24) (hr:∀ x∈rows,0<=x/\x<2 ^ h.toNat):(P6 h t rows).length=rows.length/\∀ x∈P6 h t rows,0<=x/\x<16777216:=by
 have gj:=Kw h.toNat;have dS:=Z2h (h:=h.toNat) (by omega);unfold P6;split
 .refine⟨by simp,λx hx=>?_⟩;obtain⟨r,jb,rfl⟩:=zC.1 hx;have:=hr r jb;have:=Nat.one_le_two_pow (n:=h.toNat);have:=Nat.xor_lt_two_pow (x:=r.toNat) (y:=2 ^ h.toNat-1) (n:=24) (by omega) (by omega);omega
 .exact⟨rfl,λx hx=>by have:=hr x hx;omega⟩
theorem IM:IA:=O6 λw hd rows aP au h=>by
 unfold Ul;(try delta lI gD sT I64 Q1 rg rb zD nS)
 (try simp only[zf,zy,and_true,true_and])
 intro w1;obtain⟨l1,l2⟩:=h;refine⟨⟨by simp,λx hx=>?_⟩,λhs=>⟨λ_=>?_,λhx=>?_⟩,λhs=>?_⟩
 .rcases zH.1 hx with rfl|hx
  .exact l1
  .rw[zS.1 hx];exact l2
 .have hs:=bne_iff_ne.1 hs;have ho:Y1 w [(hd,rows),(aP,au)]=WM [(hd,rows),(aP,au)]:=by unfold Y1;rw[z7 hs]
  unfold At Ac;rw[ho,z6 hs,z6 hs];exact⟨rfl,rfl,rfl⟩
 .rw[hx] at hs;cases hs
 have hs:WM [(hd,rows),(aP,au)]=0:=by simpa using hs
 obtain⟨q1,q2,q3,q4⟩:=Z2m hs;subst q3;obtain⟨z1,z2,z3,z4,z5⟩:=Z9l q1;obtain⟨_,_,y3,y4,y5⟩:=Z9l q2;have ho:Y1 w [(aP,rows),(aP,au)]=if w=1\/w=2 then 0 else 2:=by unfold Y1;rw[z6 (by omega)]
 refine⟨λhw=>⟨λ_=>?_,λhx=>by simp at hx⟩,λhw=>⟨by omega,by simp,?_⟩⟩
 .have hw:¬ (w=1\/w=2):=by
   rw[z0,bne_iff_ne,bne_iff_ne] at hw;omega
  unfold At Ac;rw[ho,z6 hw];exact⟨rfl,rfl,rfl⟩
 .have hw:w=1\/w=2:=by
   by_cases a:w=1
   .exact Or.inl a
   .by_cases b:w=2
    .exact Or.inr b
    .simp[a,b] at hw
  rw[z7 hw] at ho;have hB:At w aP rows aP au=Q15 (P6 aP (w==2) rows) (P6 aP (w==2) au):=by unfold At;rw[z7 ho]
  have hN:Ac w aP rows aP au=Q7g (P6 aP (w==2) rows) (P6 aP (w==2) au):=by unfold Ac;rw[z7 ho]
  rw[hB,hN,ho];obtain⟨a1,a2⟩:=Z0r (t:=w==2) z1 z2 z5;obtain⟨b1,b2⟩:=Z0r (t:=w==2) z1 z2 y5;refine⟨(aP,(w==2),[(aP,rows),(aP,au)],2,w,aP,rows,aP,au,aP,rows,aP,au,false,0,0,w,aP,rows,aP,au,w1),([],0),(by and_intros<;>first|rfl|trivial|simp),?_⟩;dsimp only;refine LoopP.count2 2 (λk l=>l=[P6 aP (w==2) rows,P6 aP (w==2) au].take k) rfl ?_;rintro k l hk rfl q hq;simp only[Qf,ze,zw,List.length_nil,true_and];refine⟨λao=>?_,λbZ=>⟨λhx=>by simp at hx,λ_=>?_⟩⟩
  .rcases (show k=0\/k=1 by omega) with rfl|rfl
   .have oV:=hq [P6 aP (w==2) rows] (by omega) rfl;refine⟨by omega,by omega,⟨z1,z2,λc=>z4 ?_,(show rows.length<=110 by omega),z5⟩,λc=>?_,?_,by omega,([P6 aP (w==2) rows],1),?_,oV⟩
    .have c:rows=[]:=c;rw[c];rfl
    .cases c
    .simp
    .exact⟨rfl,rfl,rfl⟩
   .have oV:=hq [P6 aP (w==2) rows,P6 aP (w==2) au] (by omega) rfl;refine⟨by omega,by omega,⟨z1,z2,λc=>y4 ?_,(show au.length<=110 by omega),y5⟩,λc=>?_,?_,by omega,([P6 aP (w==2) rows,P6 aP (w==2) au],2),?_,oV⟩
    .have c:au=[]:=c;rw[c];rfl
    .cases c
    .simp
    .exact⟨rfl,rfl,rfl⟩
  .have:k=2:=by omega
   subst this;refine⟨by omega,by simp,by omega,by simp,⟨?_,?_,a2,b2⟩,by and_intros<;>first|rfl|trivial⟩
   .show (P6 aP (w==2) au).length<=(P6 aP (w==2) rows).length;omega
   .show (P6 aP (w==2) au).length<=60;omega
def Gu:AL ((Int×Int×Bool)×List (List UInt8)):=(.cons (.agg (.cons (.k (.i .i64)) (.cons (.k (.i .i64)) (.one (.k .bo))))) (.one (.ptr (.one (.k (.list .st))))))
def R1 (d:(Int×Int×Bool)×List (List UInt8)):Prop:=d.2≠[]/\0<=d.1.1/\0<=d.1.2.1/\∀ s∈d.2,d.1.2.1<s.length
def M9 (d:(Int×Int×Bool)×List (List UInt8)):SV:=.val .bo (!(Ot d.2 (d.1.1,(d.1.2.1,d.1.2.2))))
def Mm (d:(Int×Int×Bool)×List (List UInt8)):List OB:=[]
def UU:CSp:=Wt Gu R1 M9 Mm
def YR (sp:Int) (sw:Int) (su:Bool) (cl:List (List UInt8)):Prop :=
 ((lI cl)≠0)/\(0<=(Int.tmod sp (lI cl)))/\((Int.tmod sp (lI cl))<cl.length)/\(0<=sw)/\(sw<(List.length (gD cl (Int.tmod sp (lI cl)) [])))/\((!((((UInt8.toNat (gD (gD cl (Int.tmod sp (lI cl)) []) sw 0):Nat):Int)==(120:Int))==su))=(!(Ot cl (sp,(sw,su))))/\(True))
def Gb:Cx:=⟨[],[],19,[],0,[],[],[],[],false,[],[],[],[]⟩
def RP (sp:Int) (sw:Int) (su:Bool) (cl:List (List UInt8)):List (Nat×LoopAnn):=[]
theorem SD (d:(Int×Int×Bool)×List (List UInt8)):gwp (Gb) (RP d.1.1 d.1.2.1 d.1.2.2 d.2) c94 0 (Y4 [.tmp 3] (M9 d) (Mm d)) (Qq 19 (AL.can Gu d))=YR d.1.1 d.1.2.1 d.1.2.2 d.2:=by kernel_rfl
abbrev RQ:Prop:=OkC Tryz.prog 94 UU
theorem Lr (h:∀ (sp:Int) (sw:Int) (su:Bool) (cl:List (List UInt8)),(cl≠[]/\0<=sp/\0<=sw/\∀ s∈cl,sw<s.length)->YR sp sw su cl):OkC Tryz.prog 94 UU :=
 Qu Z4q mixed (C:=Gb) (V:=λ(d:(Int×Int×Bool)×List (List UInt8))=>YR d.1.1 d.1.2.1 d.1.2.2 d.2) ⟨.nil,XsOk.nil,ItsOk.nil,YlOk.nil,IysOk.nil,XfOk.nil⟩ (SD) λd hp=>h d.1.1 d.1.2.1 d.1.2.2 d.2 hp
theorem RM:RQ:=Lr λsp sw su cl h=>by
 obtain⟨h1,h2,h3,h4⟩:=h;unfold YR;(try delta lI gD sT I64 Q1 rg rb zD nS);have hl:0<cl.length:=xK.2 h1;have e:sp.tmod (cl.length:Int)=((sp.toNat % cl.length:Nat):Int):=by
  conv=>lhs;rw[show sp=((sp.toNat:Nat):Int) by omega]
  rfl
 have hm:=xJ sp.toNat hl;have h5:=h4 _ (zl hm);rw[e];simp only[ze];rw[<-Qc (d:=[]) hm] at h5;refine⟨by omega,by omega,by omega,h3,h5,?_,trivial⟩;rw[Q4o];rfl
def Zi:AL ((List (Int×Int×Bool))×((Int×Int×Bool->Prop)×(Int×Int×Bool->Bool))):=(.cons (.k (.list (.pair (.i .i64) (.pair (.i .i64) .bo)))) (.one (.fn [(.pair (.i .i64) (.pair (.i .i64) .bo))] .bo)))
def X3 (d:(List (Int×Int×Bool))×((Int×Int×Bool->Prop)×(Int×Int×Bool->Bool))):Prop:=d.1.length<=1000000/\∀ x∈d.1,d.2.1 x
def Zd (d:(List (Int×Int×Bool))×((Int×Int×Bool->Prop)×(Int×Int×Bool->Bool))):SV:=.val (.i .i64) (Ek d.1 d.2.2)
def Zc (d:(List (Int×Int×Bool))×((Int×Int×Bool->Prop)×(Int×Int×Bool->Bool))):List OB:=[]
def Qy:CSp:=Wt Zi X3 Zd Zc
def Qk (l:List (Int×Int×Bool)) (p:(Int×Int×Bool->Prop)×(Int×Int×Bool->Bool)):Prop :=
 ∃ (e2:Unit) (d20:Int),((l=l/\(SV.pf [(.pair (.i .i64) (.pair (.i .i64) .bo))] .bo p.1 p.2=SV.pf [(.pair (.i .i64) (.pair (.i .i64) .bo))] .bo p.1 p.2)/\(lI l)=(lI l)/\(0:Int)=d20/\True)/\(True)) /\
 LoopP (λ(d2:Int) (q2:(Int)->Prop) =>
  ((decide (d2<(lI l)))=true ->
   (0<=d2)/\(d2<l.length)/\(p.1 ((gD l d2 (0,(0,false))).1,((gD l d2 (0,(0,false))).2.1,(gD l d2 (0,(0,false))).2.2)))/\((p.2 ((gD l d2 (0,(0,false))).1,((gD l d2 (0,(0,false))).2.1,(gD l d2 (0,(0,false))).2.2)))=true ->
    (d2=(Ek l p.2)/\(True))) /\
   ((p.2 ((gD l d2 (0,(0,false))).1,((gD l d2 (0,(0,false))).2.1,(gD l d2 (0,(0,false))).2.2)))=false ->
    (I64 (d2+(1:Int)))/\(∃ d3:Int,((l=l/\(SV.pf [(.pair (.i .i64) (.pair (.i .i64) .bo))] .bo p.1 p.2=SV.pf [(.pair (.i .i64) (.pair (.i .i64) .bo))] .bo p.1 p.2)/\(lI l)=(lI l)/\(d2+(1:Int))=d3/\True)/\(True))/\q2 d3))) /\
  ((decide (d2<(lI l)))=false ->
   ((-1:Int)=(Ek l p.2)/\(True)))) d20
def Zh:Cx:=⟨[],[],19,[],0,[],[],[],[],false,[],[],[],[]⟩
def X9 (l:List (Int×Int×Bool)) (p:(Int×Int×Bool->Prop)×(Int×Int×Bool->Bool)):List (Nat×LoopAnn):=[(0,⟨Unit,Int,[0,1,7,8],λe x=>[.val (.list (.pair (.i .i64) (.pair (.i .i64) .bo))) l,.pf [(.pair (.i .i64) (.pair (.i .i64) .bo))] .bo p.1 p.2,.val (.i .i64) ((l.length:Nat):Int),.val (.i .i64) x],λe x=>[]⟩)]
theorem X4 (d:(List (Int×Int×Bool))×((Int×Int×Bool->Prop)×(Int×Int×Bool->Bool))):gwp (Zh) (X9 d.1 d.2) c91 0 (Y4 [.tmp 4] (Zd d) (Zc d)) (Qq 19 (AL.can Zi d))=Qk d.1 d.2:=by kernel_rfl
abbrev X5:Prop:=OkC Tryz.prog 91 Qy
theorem Xa (h:∀ (l:List (Int×Int×Bool)) (p:(Int×Int×Bool->Prop)×(Int×Int×Bool->Bool)),(l.length<=1000000/\∀ x∈l,p.1 x)->Qk l p):OkC Tryz.prog 91 Qy :=
 Qu Z5u mixed (C:=Zh) (V:=λ(d:(List (Int×Int×Bool))×((Int×Int×Bool->Prop)×(Int×Int×Bool->Bool)))=>Qk d.1 d.2) ⟨.nil,XsOk.nil,ItsOk.nil,YlOk.nil,IysOk.nil,XfOk.nil⟩ (X4) λd hp=>h d.1 d.2 hp
theorem X8:X5:=Xa λl p hp=>by
 unfold Qk;(try delta lI gD sT I64 Q1 rg rb zD nS);simp only[true_and,and_true,exists_eq_left',exists_const,zf,zy];refine LoopP.count l.length (λk=>(l.take k).any p.2=false) (by simp) λk bG hJ q hq=>?_;simp only[ze,Int.ofNat_lt,Qf];refine⟨λao=>?_,λbZ=>?_⟩
 .have ao:k<l.length:=by omega
  rw[Qc ao];refine⟨by omega,by omega,hp.2 _ (zl ao),λhx=>?_,λhx=>⟨by omega,hq ao ?_⟩⟩
  .rw[SF ao hx hJ]
  .rw[ZG ao,List.any_append,hJ];simp[hx]
 .rw[zL (by omega)] at hJ;rw[BW hJ]
def Z4:AL ((List (Int×Int×Bool))×((Int×Int×Bool->Prop)×(Int×Int×Bool->Bool))):=(.cons (.k (.list (.pair (.i .i64) (.pair (.i .i64) .bo)))) (.one (.fn [(.pair (.i .i64) (.pair (.i .i64) .bo))] .bo)))
def Ju (d:(List (Int×Int×Bool))×((Int×Int×Bool->Prop)×(Int×Int×Bool->Bool))):Prop:=d.1.length<=1000000/\∀ x∈d.1,d.2.1 x
def QW (d:(List (Int×Int×Bool))×((Int×Int×Bool->Prop)×(Int×Int×Bool->Bool))):SV:=.val .bo (d.1.any d.2.2)
def QU (d:(List (Int×Int×Bool))×((Int×Int×Bool->Prop)×(Int×Int×Bool->Bool))):List OB:=[]
def Qi:CSp:=Wt Z4 Ju QW QU
def Qe (l:List (Int×Int×Bool)) (p:(Int×Int×Bool->Prop)×(Int×Int×Bool->Bool)):Prop :=
 (l.length<=1000000/\∀ x∈l,(λ(x1:Int×Int×Bool)=>p.1 (x1.1,(x1.2.1,x1.2.2))) x)/\((decide ((Ek l (λ(x1:Int×Int×Bool)=>(p.2 (x1.1,(x1.2.1,x1.2.2)))))>=(0:Int)))=(l.any p.2)/\(True))
def Z0:Cx:=⟨[],[(91,Qy)],9,[],0,[],[],[],[],false,[],[],[],[]⟩
def Jz (l:List (Int×Int×Bool)) (p:(Int×Int×Bool->Prop)×(Int×Int×Bool->Bool)):List (Nat×LoopAnn):=[]
theorem Jy (d:(List (Int×Int×Bool))×((Int×Int×Bool->Prop)×(Int×Int×Bool->Bool))):gwp (Z0) (Jz d.1 d.2) c42 0 (Y4 [.tmp 4] (QW d) (QU d)) (Qq 9 (AL.can Z4 d))=Qe d.1 d.2:=by kernel_rfl
abbrev JF:Prop:=OkC Tryz.prog 42 Qi
theorem JH (h:∀ (l:List (Int×Int×Bool)) (p:(Int×Int×Bool->Prop)×(Int×Int×Bool->Bool)),(l.length<=1000000/\∀ x∈l,p.1 x)->Qe l p):OkC Tryz.prog 42 Qi :=
 Qu Z4l mixed (C:=Z0) (V:=λ(d:(List (Int×Int×Bool))×((Int×Int×Bool->Prop)×(Int×Int×Bool->Bool)))=>Qe d.1 d.2) ⟨(.cons X8 .nil),XsOk.nil,ItsOk.nil,YlOk.nil,IysOk.nil,XfOk.nil⟩ (Jy) λd hp=>h d.1 d.2 hp
theorem Z2:JF:=JH λl p hp=>by simp only[Qe];exact⟨hp,EX l p.2,trivial⟩
def Hq:AL (List (List UInt8)×List (Int×Int×Bool)):=(.cons (.k (.list .st)) (.one (.k (.list (.pair (.i .i64) (.pair (.i .i64) .bo))))))
def CK (d:List (List UInt8)×List (Int×Int×Bool)):Prop:=d.1≠[]/\d.2.length<=1000/\∀ z∈d.2,0<=z.1/\0<=z.2.1/\∀ s∈d.1,z.2.1<s.length
def DK (d:List (List UInt8)×List (Int×Int×Bool)):SV:=.val .bo (d.2.all (Ot d.1))
def DH (d:List (List UInt8)×List (Int×Int×Bool)):List OB:=[]
def GL:CSp:=Wt Hq CK DK DH
def Vv (cl:List (List UInt8)) (ss:List (Int×Int×Bool)):Prop :=
 (ss.length<=1000000/\∀ x∈ss,(λ(x1:Int×Int×Bool)=>cl≠[]/\0<=x1.1/\0<=x1.2.1/\∀ s∈cl,x1.2.1<s.length) x)/\((!(ss.any (λ(x1:Int×Int×Bool)=>(!(Ot cl (x1.1,(x1.2.1,x1.2.2)))))))=(ss.all (Ot cl))/\(True))
def Hk:Cx:=⟨[],[(42,Qi),(94,UU)],9,[],0,[],[],[],[],false,[],[],[],[]⟩
def Fb (cl:List (List UInt8)) (ss:List (Int×Int×Bool)):List (Nat×LoopAnn):=[]
theorem A_ (d:List (List UInt8)×List (Int×Int×Bool)):gwp (Hk) (Fb d.1 d.2) c44 0 (Y4 [.tmp 4] (DK d) (DH d)) (Qq 9 (AL.can Hq d))=Vv d.1 d.2:=by kernel_rfl
abbrev E9:Prop:=OkC Tryz.prog 44 GL
theorem AY (h:∀ (cl:List (List UInt8)) (ss:List (Int×Int×Bool)),(cl≠[]/\ss.length<=1000/\∀ z∈ss,0<=z.1/\0<=z.2.1/\∀ s∈cl,z.2.1<s.length)->Vv cl ss):OkC Tryz.prog 44 GL :=
 Qu Z51 mixed (C:=Hk) (V:=λ(d:List (List UInt8)×List (Int×Int×Bool))=>Vv d.1 d.2) ⟨(.cons Z2 (.cons RM .nil)),XsOk.nil,ItsOk.nil,YlOk.nil,IysOk.nil,XfOk.nil⟩ (A_) λd hp=>h d.1 d.2 hp
theorem Fs:E9:=AY λcl ss h=>by obtain⟨h1,h2,h3⟩:=h;unfold Vv;(try delta lI gD sT I64 Q1 rg rb zD nS);refine⟨⟨by omega,λx hx=>⟨h1,h3 x hx⟩⟩,?_,trivial⟩;rw[List.not_any_eq_all_not];simp
def DL:AL ((Int×Int×Bool)×Int×List Int×Int×List Int):=(.cons (.agg (.cons (.k (.i .i64)) (.cons (.k (.i .i64)) (.one (.k .bo))))) (.one (.ptr (.cons (.k (.i .i64)) (.cons (.k (.list (.i .i64))) (.cons (.k (.i .i64)) (.one (.k (.list (.i .i64))))))))))
def SL (d:(Int×Int×Bool)×Int×List Int×Int×List Int):Prop:=d.2.2.1.length<=110
def Gv (d:(Int×Int×Bool)×Int×List Int×Int×List Int):SV:=.val .bo (!(Q2r d.2.2.1 (d.1.1,(d.1.2.1,d.1.2.2))))
def Gn (d:(Int×Int×Bool)×Int×List Int×Int×List Int):List OB:=[]
def NH:CSp:=Wt DL SL Gv Gn
def Kp (sp:Int) (sw:Int) (su:Bool) (hk:Int) (lw:List Int) (hd:Int) (rows:List Int):Prop :=
 ([sp].length<=1000000)/\((!(!([sp].any λn=>decide (n<(0:Int))||decide ((119:Int)<n))))=false->InK .i64 ((lI lw)-(1:Int)))/\((!(!([sp].any λn=>decide (n<(0:Int))||decide ((119:Int)<n))))=false->True)/\((!(!([sp].any λn=>decide (n<(0:Int))||decide ((119:Int)<n))))=false->[sw].length<=1000000)/\(((!(!([sp].any λn=>decide (n<(0:Int))||decide ((119:Int)<n))))||(!(!([sw].any λn=>decide (n<(0:Int))||decide (((lI lw)-(1:Int))<n)))))=(!(Q2r lw (sp,(sw,su))))/\(True))
def Dx:Cx:=⟨[(3,(.i .i64))],[(40,Y6)],21,[],0,[],[],[],[],false,[],[],[],[]⟩
def Cn (sp:Int) (sw:Int) (su:Bool) (hk:Int) (lw:List Int) (hd:Int) (rows:List Int):List (Nat×LoopAnn):=[]
theorem Ch (d:(Int×Int×Bool)×Int×List Int×Int×List Int):gwp (Dx) (Cn d.1.1 d.1.2.1 d.1.2.2 d.2.1 d.2.2.1 d.2.2.2.1 d.2.2.2.2) c39 0 (Y4 [.tmp 3] (Gv d) (Gn d)) (Qq 21 (AL.can DL d))=Kp d.1.1 d.1.2.1 d.1.2.2 d.2.1 d.2.2.1 d.2.2.2.1 d.2.2.2.2:=by kernel_rfl
abbrev CO:Prop:=OkC Tryz.prog 39 NH
theorem LV (h:∀ (sp:Int) (sw:Int) (su:Bool) (hk:Int) (lw:List Int) (hd:Int) (rows:List Int),(lw.length<=110)->Kp sp sw su hk lw hd rows):OkC Tryz.prog 39 NH :=
 Qu Z3g mixed (C:=Dx) (V:=λ(d:(Int×Int×Bool)×Int×List Int×Int×List Int)=>Kp d.1.1 d.1.2.1 d.1.2.2 d.2.1 d.2.2.1 d.2.2.2.1 d.2.2.2.2) ⟨(.cons VF .nil),XsOk.nil,ItsOk.nil,YlOk.nil,IysOk.nil,XfOk.nil⟩ (Ch) λd hp=>h d.1.1 d.1.2.1 d.1.2.2 d.2.1 d.2.2.1 d.2.2.2.1 d.2.2.2.2 hp
theorem CB:CO:=LV λsp sw su hk lw hd rows h=>by unfold Kp;(try delta lI gD sT I64 Q1 rg rb zD nS);have e:∀ n a b:Int,(decide (n<a)||decide (b<n))=!inI n a b:=λn a b=>(nI n a b).symm;simp only[List.any_cons,List.any_nil,xV,zw,List.length_nil,e,Bool.not_not];refine⟨by omega,λ_=>by rw[Qf];omega,λ_=>trivial,λ_=>by omega,?_,trivial⟩;unfold Q2r;rw[Bool.not_and]
def W4:AL (List (List UInt8)×List (List UInt8)):=(.cons (.k (.list .st)) (.one (.k (.list .st))))
def Kx (d:List (List UInt8)×List (List UInt8)):Prop:=d.1.length<=1000000
def XN (d:List (List UInt8)×List (List UInt8)):SV:=.val .bo (d.1==d.2)
def XQ (d:List (List UInt8)×List (List UInt8)):List OB:=[]
def Jx:CSp:=Wt W4 Kx XN XQ
def Zs (a:List (List UInt8)) (b:List (List UInt8)):Prop :=
 (((lI a) != (lI b))=true ->
  (false=(a==b)/\(True))) /\
 (((lI a) != (lI b))=false ->
  ∃ (e2:Unit) (d20:Int),((a=a/\b=b/\(lI a)=(lI a)/\(0:Int)=d20/\True)/\(True)) /\
  LoopP (λ(d2:Int) (q2:(Int)->Prop) =>
   ((decide (d2<(lI a)))=true ->
    (0<=d2)/\(d2<a.length)/\(0<=d2)/\(d2<b.length)/\((!((gD a d2 [])==(gD b d2 [])))=true ->
     (false=(a==b)/\(True))) /\
    ((!((gD a d2 [])==(gD b d2 [])))=false ->
     (I64 (d2+(1:Int)))/\(∃ d3:Int,((a=a/\b=b/\(lI a)=(lI a)/\(d2+(1:Int))=d3/\True)/\(True))/\q2 d3))) /\
   ((decide (d2<(lI a)))=false ->
    (true=(a==b)/\(True)))) d20)
def W3:Cx:=⟨[],[],26,[],0,[],[],[],[],false,[],[],[],[]⟩
def V2 (a:List (List UInt8)) (b:List (List UInt8)):List (Nat×LoopAnn):=[(0,⟨Unit,Int,[0,1,12,13],λe x=>[.val (.list .st) a,.val (.list .st) b,.val (.i .i64) ((a.length:Nat):Int),.val (.i .i64) x],λe x=>[]⟩)]
theorem KZ (d:List (List UInt8)×List (List UInt8)):gwp (W3) (V2 d.1 d.2) c93 0 (Y4 [.tmp 4] (XN d) (XQ d)) (Qq 26 (AL.can W4 d))=Zs d.1 d.2:=by kernel_rfl
abbrev K_:Prop:=OkC Tryz.prog 93 Jx
theorem V1 (h:∀ (a:List (List UInt8)) (b:List (List UInt8)),(a.length<=1000000)->Zs a b):OkC Tryz.prog 93 Jx :=
 Qu Z63 mixed (C:=W3) (V:=λ(d:List (List UInt8)×List (List UInt8))=>Zs d.1 d.2) ⟨.nil,XsOk.nil,ItsOk.nil,YlOk.nil,IysOk.nil,XfOk.nil⟩ (KZ) λd hp=>h d.1 d.2 hp
theorem KS:K_:=V1 λa b h=>by
 unfold Zs;(try delta lI gD sT I64 Q1 rg rb zD nS);refine⟨λhl=>⟨?_,trivial⟩,λhl=>⟨(),0,(by and_intros<;>first|rfl|trivial|simp),?_⟩⟩
 .have hl:a.length≠b.length:=by have:=bne_iff_ne.1 hl;omega
  exact(zN.2 λe=>hl (by rw[e])).symm
 .have hl:a.length=b.length:=by have:=bne_eq_false_iff_eq.1 hl;omega
  refine LoopP.count a.length (λk=>∀ i,i<k->a.getD i []=b.getD i []) (λi hi=>by omega) (λk hk hJ q hq=>?_);simp only[ze];refine⟨λc=>?_,λc=>⟨?_,trivial⟩⟩
  .have c:k<a.length:=by simpa using c
   refine⟨by omega,by omega,by omega,by omega,λaK=>⟨?_,trivial⟩,λheq=>⟨by rw[Qf];omega,_,(by and_intros<;>first|rfl|trivial|simp),hq c λi hi=>?_⟩⟩
   .have aK:a.getD k []≠b.getD k []:=by simpa using aK
    exact(zN.2 λe=>aK (by rw[e])).symm
   .have heq:a.getD k []=b.getD k []:=by simpa using heq
    rcases Nat.lt_succ_iff_lt_or_eq.1 hi with h1|rfl
    .exact hJ i h1
    .exact heq
  .have c:k=a.length:=by
    have:¬ k<a.length:=by simpa using c
    omega
   have e:a=b:=List.ext_getElem hl λi h1 h2=>by
    have:=hJ i (by omega)
    rwa [Qc h1,Qc h2] at this
   rw[e];simp
def Tg:AL ((Int×List Int×Int×List Int)×List (Int×Int×Bool)):=(.cons (.agg (.cons (.k (.i .i64)) (.cons (.k (.list (.i .i64))) (.cons (.k (.i .i64)) (.one (.k (.list (.i .i64)))))))) (.one (.k (.list (.pair (.i .i64) (.pair (.i .i64) .bo))))))
def ER (d:(Int×List Int×Int×List Int)×List (Int×Int×Bool)):Prop:=d.1.2.1.length<=110/\d.1.2.2.2.length<=110/\d.2.length<=1000
def HO (d:(Int×List Int×Int×List Int)×List (Int×Int×Bool)):SV:=.tup [.lst 0,.val .bo (Ou d.1.1 d.1.2.1 d.1.2.2.1 d.1.2.2.2 d.2),.val (.i .i64) (Yb d.1.1 d.1.2.1 d.1.2.2.1 d.1.2.2.2 d.2)]
def BY (d:(Int×List Int×Int×List Int)×List (Int×Int×Bool)):List OB:=[.lst 36 (.pair (.i .i64) (.pair (.i .i64) (.pair (.i .i64) (.pair (.i .i64) .bo)))) (TH d.1.1 d.1.2.1 d.1.2.2.1 d.1.2.2.2 d.2) ((TH d.1.1 d.1.2.1 d.1.2.2.1 d.1.2.2.2 d.2).isEmpty)]
def BE:CSp:=Wt Tg ER HO BY
abbrev LG:=λ(d14:(List (Int×Int×Int×Int×Bool))×Int) (aX:Int×Int×Int×Int×Int×(List Int)×Int×(List Int)×(List (Int×Int×Bool))×LpD×Int×(List Int)×Int×(List Int)×(List (List UInt8))×LpD) (oZ:_->Prop) (vg:Int)=>(∃ ( aO:Int×Int×Int×Int×Int×Int×Int×Int×( List Int )×Int×( List Int )×( List ( Int×Int×Bool ) )×LpD×Int×( List Int )×Int×( List Int )×( List ( List UInt8 ) )×LpD ) ( o3:( List ( Int×Int×Int×Int×Bool ) )×Int ) ,( ( True/\aX.1=aO.1/\aX.2.1=aO.2.1/\True/\vg=aO.2.2.1/\( aX.2.2.1=aO.2.2.2.1/\aX.2.2.2.1=aO.2.2.2.2.1/\( ( [ ]:List SV )=[ ] ) )/\d14.2=aO.2.2.2.2.2.1/\aX.1=aO.2.2.2.2.2.2.1/\( 0:Int )=o3.2/\True )/\( ( d14.1=o3.1/\( List.isEmpty d14.1 )=( List.isEmpty o3.1 ) )/\( aO.2.2.2.2.2.2.2.2.2.2.2.2.1=(rg aX).2.1/\( True/\True/\True/\True/\True/\True/\True/\True/\True/\True/\True/\True/\True/\True/\True/\True/\True/\True/\True/\True/\True/\True/\True/\True/\True/\True/\True/\True/\True/\True/\True/\True/\True/\True/\True/\True/\True/\True/\True/\True/\True/\True/\True/\True/\( ( [ ]:List SV )=[ ] ) ) )/\( (rb aX).1=aO.2.2.2.2.2.2.2.1/\(rb aX).2.1=aO.2.2.2.2.2.2.2.2.1/\(rb aX).2.2.1=aO.2.2.2.2.2.2.2.2.2.1/\(rb aX).2.2.2.1=aO.2.2.2.2.2.2.2.2.2.2.1/\( ( [ ]:List SV )=[ ] ) )/\( (rg aX).1=aO.2.2.2.2.2.2.2.2.2.2.2.1/\( ( [ ]:List SV )=[ ] ) )/\( True/\( ( [ ]:List SV )=[ ] ) )/\( aO.2.2.2.2.2.2.2.2.2.2.2.2.2.2.2.2.2.2=(rb (rg aX)).2.2.2/\( True/\True/\True/\True/\True/\True/\True/\True/\True/\True/\True/\True/\True/\True/\True/\True/\True/\True/\True/\True/\True/\True/\True/\True/\True/\True/\True/\( ( [ ]:List SV )=[ ] ) ) )/\( (rg aX).2.2.1=aO.2.2.2.2.2.2.2.2.2.2.2.2.2.1/\(rg aX).2.2.2.1=aO.2.2.2.2.2.2.2.2.2.2.2.2.2.2.1/\(rb (rg aX)).1=aO.2.2.2.2.2.2.2.2.2.2.2.2.2.2.2.1/\(rb (rg aX)).2.1=aO.2.2.2.2.2.2.2.2.2.2.2.2.2.2.2.2.1/\( ( [ ]:List SV )=[ ] ) )/\( True/\( ( [ ]:List SV )=[ ] ) )/\( True/\( ( [ ]:List SV )=[ ] ) )/\( (rb (rg aX)).2.2.1=aO.2.2.2.2.2.2.2.2.2.2.2.2.2.2.2.2.2.1/\false=false )/\True ) )/\LoopP ( λ( iT:( List ( Int×Int×Int×Int×Bool ) )×Int ) ( vh:( ( List ( Int×Int×Int×Int×Bool ) )×Int )->Prop )=>( ( decide ( iT.2<aO.2.2.2.2.2.2.1 ) )=true->( ( ( List.length iT.1 )+( List.length [ ( aO.2.2.1 ,( iT.2 ,( ( 0:Int ) ,( ( 0:Int ) ,false ) ) ) ) ] ) )*40<=70368744177664 )/\( I64 ( iT.2+( 1:Int ) ) )/\( ∃ o4:( List ( Int×Int×Int×Int×Bool ) )×Int ,( ( True/\aO.1=aO.1/\aO.2.1=aO.2.1/\True/\aO.2.2.1=aO.2.2.1/\( aO.2.2.2.1=aO.2.2.2.1/\aO.2.2.2.2.1=aO.2.2.2.2.1/\( ( [ ]:List SV )=[ ] ) )/\aO.2.2.2.2.2.1=aO.2.2.2.2.2.1/\aO.2.2.2.2.2.2.1=aO.2.2.2.2.2.2.1/\( iT.2+( 1:Int ) )=o4.2/\True )/\( ( ( iT.1++[ ( aO.2.2.1 ,( iT.2 ,( ( 0:Int ) ,( ( 0:Int ) ,false ) ) ) ) ] )=o4.1/\false=( List.isEmpty o4.1 ) )/\( aO.2.2.2.2.2.2.2.2.2.2.2.2.1=aO.2.2.2.2.2.2.2.2.2.2.2.2.1/\( True/\True/\True/\True/\True/\True/\True/\True/\True/\True/\True/\True/\True/\True/\True/\True/\True/\True/\True/\True/\True/\True/\True/\True/\True/\True/\True/\True/\True/\True/\True/\True/\True/\True/\True/\True/\True/\True/\True/\True/\True/\True/\True/\True/\( ( [ ]:List SV )=[ ] ) ) )/\( aO.2.2.2.2.2.2.2.1=aO.2.2.2.2.2.2.2.1/\aO.2.2.2.2.2.2.2.2.1=aO.2.2.2.2.2.2.2.2.1/\aO.2.2.2.2.2.2.2.2.2.1=aO.2.2.2.2.2.2.2.2.2.1/\aO.2.2.2.2.2.2.2.2.2.2.1=aO.2.2.2.2.2.2.2.2.2.2.1/\( ( [ ]:List SV )=[ ] ) )/\( aO.2.2.2.2.2.2.2.2.2.2.2.1=aO.2.2.2.2.2.2.2.2.2.2.2.1/\( ( [ ]:List SV )=[ ] ) )/\( True/\( ( [ ]:List SV )=[ ] ) )/\( aO.2.2.2.2.2.2.2.2.2.2.2.2.2.2.2.2.2.2=aO.2.2.2.2.2.2.2.2.2.2.2.2.2.2.2.2.2.2/\( True/\True/\True/\True/\True/\True/\True/\True/\True/\True/\True/\True/\True/\True/\True/\True/\True/\True/\True/\True/\True/\True/\True/\True/\True/\True/\True/\( ( [ ]:List SV )=[ ] ) ) )/\( aO.2.2.2.2.2.2.2.2.2.2.2.2.2.1=aO.2.2.2.2.2.2.2.2.2.2.2.2.2.1/\aO.2.2.2.2.2.2.2.2.2.2.2.2.2.2.1=aO.2.2.2.2.2.2.2.2.2.2.2.2.2.2.1/\aO.2.2.2.2.2.2.2.2.2.2.2.2.2.2.2.1=aO.2.2.2.2.2.2.2.2.2.2.2.2.2.2.2.1/\aO.2.2.2.2.2.2.2.2.2.2.2.2.2.2.2.2.1=aO.2.2.2.2.2.2.2.2.2.2.2.2.2.2.2.2.1/\( ( [ ]:List SV )=[ ] ) )/\( True/\( ( [ ]:List SV )=[ ] ) )/\( True/\( ( [ ]:List SV )=[ ] ) )/\( aO.2.2.2.2.2.2.2.2.2.2.2.2.2.2.2.2.2.1=aO.2.2.2.2.2.2.2.2.2.2.2.2.2.2.2.2.2.1/\false=false )/\True ) )/\vh o4 ) )/\( ( decide ( iT.2<aO.2.2.2.2.2.2.1 ) )=false->( I64 ( aO.2.2.2.2.2.1+( 1:Int ) ) )/\( ∃ o5:( List ( Int×Int×Int×Int×Bool ) )×Int ,( ( True/\aO.1=aX.1/\aO.2.1=aX.2.1/\True/\( aO.2.2.2.1=aX.2.2.1/\aO.2.2.2.2.1=aX.2.2.2.1/\( ( [ ]:List SV )=[ ] ) )/\( aO.2.2.2.2.2.1+( 1:Int ) )=o5.2/\True )/\( ( iT.1=o5.1/\( List.isEmpty iT.1 )=( List.isEmpty o5.1 ) )/\( (rg aX).2.1=aO.2.2.2.2.2.2.2.2.2.2.2.2.1/\( True/\True/\True/\True/\True/\True/\True/\True/\True/\True/\True/\True/\True/\True/\True/\True/\True/\True/\True/\True/\True/\True/\True/\True/\True/\True/\True/\True/\True/\True/\True/\True/\True/\True/\True/\True/\True/\True/\True/\True/\True/\True/\True/\True/\( ( [ ]:List SV )=[ ] ) ) )/\( aO.2.2.2.2.2.2.2.1=(rb aX).1/\aO.2.2.2.2.2.2.2.2.1=(rb aX).2.1/\aO.2.2.2.2.2.2.2.2.2.1=(rb aX).2.2.1/\aO.2.2.2.2.2.2.2.2.2.2.1=(rb aX).2.2.2.1/\( ( [ ]:List SV )=[ ] ) )/\( aO.2.2.2.2.2.2.2.2.2.2.2.1=(rg aX).1/\( ( [ ]:List SV )=[ ] ) )/\( True/\( ( [ ]:List SV )=[ ] ) )/\( (rb (rg aX)).2.2.2=aO.2.2.2.2.2.2.2.2.2.2.2.2.2.2.2.2.2.2/\( True/\True/\True/\True/\True/\True/\True/\True/\True/\True/\True/\True/\True/\True/\True/\True/\True/\True/\True/\True/\True/\True/\True/\True/\True/\True/\True/\( ( [ ]:List SV )=[ ] ) ) )/\( aO.2.2.2.2.2.2.2.2.2.2.2.2.2.1=(rg aX).2.2.1/\aO.2.2.2.2.2.2.2.2.2.2.2.2.2.2.1=(rg aX).2.2.2.1/\aO.2.2.2.2.2.2.2.2.2.2.2.2.2.2.2.1=(rb (rg aX)).1/\aO.2.2.2.2.2.2.2.2.2.2.2.2.2.2.2.2.1=(rb (rg aX)).2.1/\( ( [ ]:List SV )=[ ] ) )/\( True/\( ( [ ]:List SV )=[ ] ) )/\( True/\( ( [ ]:List SV )=[ ] ) )/\( aO.2.2.2.2.2.2.2.2.2.2.2.2.2.2.2.2.2.1=(rb (rg aX)).2.2.1/\false=false )/\True ) )/\oZ o5 ) ) ) o3:Prop)
abbrev Yq :=(True/\True/\True/\True/\True/\True/\True/\True/\True/\True/\True/\True/\True/\True/\True/\True/\True/\True/\True/\True/\True/\True/\True/\True/\True/\True/\True/\True/\True/\True/\True/\True/\True/\True/\True/\True/\True/\True/\True/\True/\True/\True/\True/\True/\nS)
abbrev Yp :=(True/\True/\True/\True/\True/\True/\True/\True/\True/\True/\True/\True/\True/\True/\True/\True/\True/\True/\True/\True/\True/\True/\True/\True/\True/\True/\True/\nS)
abbrev QA :=(True/\nS)
abbrev ZE :=(List (Int×Int×Int×Int×Bool))
def Uo (hk:Int) (lw:List Int) (hd:Int) (rows:List Int) (ss:List (Int × Int × Bool)):Prop :=
  (lw.length <= 110 /\ rows.length <= 110) /\ (((Q6 hk lw hd rows) != (0:Int)) = true ->
    ((True /\ false = (Ou hk lw hd rows ss) /\ (Q6 hk lw hd rows) = Yb hk lw hd rows ss /\ nS) /\ (((TH hk lw hd rows ss) = [] /\ (TH hk lw hd rows ss).isEmpty = true) /\ True))) /\
  (((Q6 hk lw hd rows) != (0:Int)) = false ->
    ((decide ((lI ss) > (60:Int))) = true ->
      ((True /\ false = (Ou hk lw hd rows ss) /\ (5:Int) = Yb hk lw hd rows ss /\ nS) /\ (((TH hk lw hd rows ss) = [] /\ (TH hk lw hd rows ss).isEmpty = true) /\ True))) /\
    ((decide ((lI ss) > (60:Int))) = false ->
      (ss.length <= 1000000 /\ ∀ x ∈ ss, (λ(x1:Int × Int × Bool) => lw.length <= 110) x) /\ ((ss.any (λ(x1:Int × Int × Bool) => (!(Q2r lw (x1.1, (x1.2.1, x1.2.2)))))) = true ->
        ((True /\ false = (Ou hk lw hd rows ss) /\ (2:Int) = Yb hk lw hd rows ss /\ nS) /\ (((TH hk lw hd rows ss) = [] /\ (TH hk lw hd rows ss).isEmpty = true) /\ True))) /\
      ((ss.any (λ(x1:Int × Int × Bool) => (!(Q2r lw (x1.1, (x1.2.1, x1.2.2)))))) = false ->
        ∀ w1:LpD, (Q6 hk lw hd rows = 0 /\ lw.length <= 110 /\ rows.length <= 110) /\ ∀ w2:LpD, (I64 ((lI rows) * hd)) /\ ∃ (e6:Int × Int × Int × Int × Int × (List Int) × Int × (List Int) × (List (Int × Int × Bool)) × LpD × Int × (List Int) × Int × (List Int) × (List (List UInt8)) × LpD) (d60:ZE × Int), ((True /\ (lI rows) = e6.1 /\ hd = e6.2.1 /\ (lI lw) = e6.2.2.1 /\ True /\ ((lI rows) * hd) = e6.2.2.2.1 /\ (0:Int) = d60.2 /\ True) /\ ((d60.1 = [] /\ d60.1.isEmpty = true) /\ ((rg e6).2.1 = w1 /\ Yq) /\ (hk = (rb e6).1 /\ lw = (rb e6).2.1 /\ hd = (rb e6).2.2.1 /\ rows = (rb e6).2.2.2.1 /\ nS) /\ (ss = (rg e6).1 /\ nS) /\ QA /\ ((rb (rg e6)).2.2.2 = w2 /\ Yp) /\ (hk = (rg e6).2.2.1 /\ lw = (rg e6).2.2.2.1 /\ hd = (rb (rg e6)).1 /\ rows = (rb (rg e6)).2.1 /\ nS) /\ QA /\ QA /\ ((XR lw hd rows []) = (rb (rg e6)).2.2.1 /\ false = false) /\ True)) /\
        LoopP (λ(d6:ZE × Int) (q6:(ZE × Int) -> Prop) =>
          ((decide (d6.2 < e6.2.2.2.1)) = true ->
            (e6.2.1 ≠ 0) /\ (I64 (Int.tdiv d6.2 e6.2.1)) /\ (e6.2.1 ≠ 0) /\ ((d6.1.length + (List.length [((1:Int), ((Int.tdiv d6.2 e6.2.1), ((Int.tmod d6.2 e6.2.1), ((0:Int), false))))])) * 40 <= 70368744177664) /\ (I64 (d6.2 + (1:Int))) /\ (∃ d7:ZE × Int, ((True /\ e6.1 = e6.1 /\ e6.2.1 = e6.2.1 /\ e6.2.2.1 = e6.2.2.1 /\ True /\ e6.2.2.2.1 = e6.2.2.2.1 /\ (d6.2 + (1:Int)) = d7.2 /\ True) /\ (((d6.1 ++ [((1:Int), ((Int.tdiv d6.2 e6.2.1), ((Int.tmod d6.2 e6.2.1), ((0:Int), false))))]) = d7.1 /\ false = d7.1.isEmpty) /\ ((rg e6).2.1 = (rg e6).2.1 /\ Yq) /\ ((rb e6).1 = (rb e6).1 /\ (rb e6).2.1 = (rb e6).2.1 /\ (rb e6).2.2.1 = (rb e6).2.2.1 /\ (rb e6).2.2.2.1 = (rb e6).2.2.2.1 /\ nS) /\ ((rg e6).1 = (rg e6).1 /\ nS) /\ QA /\ ((rb (rg e6)).2.2.2 = (rb (rg e6)).2.2.2 /\ Yp) /\ ((rg e6).2.2.1 = (rg e6).2.2.1 /\ (rg e6).2.2.2.1 = (rg e6).2.2.2.1 /\ (rb (rg e6)).1 = (rb (rg e6)).1 /\ (rb (rg e6)).2.1 = (rb (rg e6)).2.1 /\ nS) /\ QA /\ QA /\ ((rb (rg e6)).2.2.1 = (rb (rg e6)).2.2.1 /\ false = false) /\ True)) /\ q6 d7)) /\
          ((decide (d6.2 < e6.2.2.2.1)) = false ->
            ∃ (ae:Int × Int × Int × Int × (List Int) × Int × (List Int) × (List (Int × Int × Bool)) × LpD × Int × (List Int) × Int × (List Int) × (List (List UInt8)) × LpD) (d100:ZE × Int), ((True /\ e6.1 = ae.1 /\ e6.2.2.1 = ae.2.1 /\ True /\ e6.2.1 = ae.2.2.1 /\ (0:Int) = d100.2 /\ True) /\ ((d6.1 = d100.1 /\ d6.1.isEmpty = d100.1.isEmpty) /\ ((rg ae).1 = (rg e6).2.1 /\ Yq) /\ ((rb e6).1 = ae.2.2.2.1 /\ (rb e6).2.1 = (rb ae).1 /\ (rb e6).2.2.1 = (rb ae).2.1 /\ (rb e6).2.2.2.1 = (rb ae).2.2.1 /\ nS) /\ ((rg e6).1 = (rb ae).2.2.2.1 /\ nS) /\ QA /\ ((rb (rg ae)).2.2 = (rb (rg e6)).2.2.2 /\ Yp) /\ ((rg e6).2.2.1 = (rg ae).2.1 /\ (rg e6).2.2.2.1 = (rg ae).2.2.1 /\ (rb (rg e6)).1 = (rg ae).2.2.2.1 /\ (rb (rg e6)).2.1 = (rb (rg ae)).1 /\ nS) /\ QA /\ QA /\ ((rb (rg e6)).2.2.1 = (rb (rg ae)).2.1 /\ false = false) /\ True)) /\
            LoopP (λ(d10:ZE × Int) (iI:(ZE × Int) -> Prop) =>
              ((decide (d10.2 < ae.2.2.1)) = true ->
                ((d10.1.length + (List.length [((2:Int), ((0:Int), (d10.2, ((0:Int), false)))), ((2:Int), ((0:Int), (d10.2, ((0:Int), true))))])) * 40 <= 70368744177664) /\ (I64 (d10.2 + (1:Int))) /\ (∃ d11:ZE × Int, ((True /\ ae.1 = ae.1 /\ ae.2.1 = ae.2.1 /\ True /\ ae.2.2.1 = ae.2.2.1 /\ (d10.2 + (1:Int)) = d11.2 /\ True) /\ (((d10.1 ++ [((2:Int), ((0:Int), (d10.2, ((0:Int), false)))), ((2:Int), ((0:Int), (d10.2, ((0:Int), true))))]) = d11.1 /\ false = d11.1.isEmpty) /\ ((rg ae).1 = (rg ae).1 /\ Yq) /\ (ae.2.2.2.1 = ae.2.2.2.1 /\ (rb ae).1 = (rb ae).1 /\ (rb ae).2.1 = (rb ae).2.1 /\ (rb ae).2.2.1 = (rb ae).2.2.1 /\ nS) /\ ((rb ae).2.2.2.1 = (rb ae).2.2.2.1 /\ nS) /\ QA /\ ((rb (rg ae)).2.2 = (rb (rg ae)).2.2 /\ Yp) /\ ((rg ae).2.1 = (rg ae).2.1 /\ (rg ae).2.2.1 = (rg ae).2.2.1 /\ (rg ae).2.2.2.1 = (rg ae).2.2.2.1 /\ (rb (rg ae)).1 = (rb (rg ae)).1 /\ nS) /\ QA /\ QA /\ ((rb (rg ae)).2.1 = (rb (rg ae)).2.1 /\ false = false) /\ True)) /\ iI d11)) /\
              ((decide (d10.2 < ae.2.2.1)) = false ->
                ∃ (aX:Int × Int × Int × Int × Int × (List Int) × Int × (List Int) × (List (Int × Int × Bool)) × LpD × Int × (List Int) × Int × (List Int) × (List (List UInt8)) × LpD) (d140:ZE × Int), ((True /\ ae.1 = aX.1 /\ ae.2.1 = aX.2.1 /\ True /\ ((3:Int) = aX.2.2.1 /\ (4:Int) = aX.2.2.2.1 /\ nS) /\ (0:Int) = d140.2 /\ True) /\ ((d10.1 = d140.1 /\ d10.1.isEmpty = d140.1.isEmpty) /\ ((rg aX).2.1 = (rg ae).1 /\ Yq) /\ (ae.2.2.2.1 = (rb aX).1 /\ (rb ae).1 = (rb aX).2.1 /\ (rb ae).2.1 = (rb aX).2.2.1 /\ (rb ae).2.2.1 = (rb aX).2.2.2.1 /\ nS) /\ ((rb ae).2.2.2.1 = (rg aX).1 /\ nS) /\ QA /\ ((rb (rg aX)).2.2.2 = (rb (rg ae)).2.2 /\ Yp) /\ ((rg ae).2.1 = (rg aX).2.2.1 /\ (rg ae).2.2.1 = (rg aX).2.2.2.1 /\ (rg ae).2.2.2.1 = (rb (rg aX)).1 /\ (rb (rg ae)).1 = (rb (rg aX)).2.1 /\ nS) /\ QA /\ QA /\ ((rb (rg ae)).2.1 = (rb (rg aX)).2.2.1 /\ false = false) /\ True)) /\
                LoopP (λ(d14:ZE × Int) (oZ:(ZE × Int) -> Prop) =>
                  ((decide (d14.2 < (2:Int))) = true ->
                    (0 <= d14.2) /\ (d14.2 < (2:Int)) /\
                    (d14.2 = (0:Int) ->
                       (LG d14 aX oZ aX.2.2.1)) /\
                    (d14.2 = (1:Int) ->
                       (LG d14 aX oZ aX.2.2.2.1)) /\
                    True) /\
                  ((decide (d14.2 < (2:Int))) = false ->
                    ∃ (bk:Int × Int × (List Int) × Int × (List Int) × (List (Int × Int × Bool)) × LpD × Int × (List Int) × Int × (List Int) × (List (List UInt8)) × LpD) (jr:ZE × Int), ((True /\ True /\ aX.2.1 = bk.1 /\ (0:Int) = jr.2 /\ True) /\ ((d14.1 = jr.1 /\ d14.1.isEmpty = (List.isEmpty jr.1)) /\ ((rb bk).2.2.1 = (rg aX).2.1 /\ Yq) /\ ((rb aX).1 = bk.2.1 /\ (rb aX).2.1 = bk.2.2.1 /\ (rb aX).2.2.1 = bk.2.2.2.1 /\ (rb aX).2.2.2.1 = (rb bk).1 /\ nS) /\ ((rg aX).1 = (rb bk).2.1 /\ nS) /\ QA /\ ((rb (rg bk)) = (rb (rg aX)).2.2.2 /\ Yp) /\ ((rg aX).2.2.1 = (rb bk).2.2.2.1 /\ (rg aX).2.2.2.1 = (rg bk).1 /\ (rb (rg aX)).1 = (rg bk).2.1 /\ (rb (rg aX)).2.1 = (rg bk).2.2.1 /\ nS) /\ QA /\ QA /\ ((rb (rg aX)).2.2.1 = (rg bk).2.2.2.1 /\ false = false) /\ True)) /\
                    LoopP (λ(d27:ZE × Int) (vi:(ZE × Int) -> Prop) =>
                      ((decide (d27.2 < bk.1)) = true ->
                        ((d27.1.length + (List.length [((5:Int), ((0:Int), ((0:Int), (d27.2, false))))])) * 40 <= 70368744177664) /\ (I64 (d27.2 + (1:Int))) /\ (∃ d28:ZE × Int, ((True /\ True /\ bk.1 = bk.1 /\ (d27.2 + (1:Int)) = d28.2 /\ True) /\ (((d27.1 ++ [((5:Int), ((0:Int), ((0:Int), (d27.2, false))))]) = d28.1 /\ false = d28.1.isEmpty) /\ ((rb bk).2.2.1 = (rb bk).2.2.1 /\ Yq) /\ (bk.2.1 = bk.2.1 /\ bk.2.2.1 = bk.2.2.1 /\ bk.2.2.2.1 = bk.2.2.2.1 /\ (rb bk).1 = (rb bk).1 /\ nS) /\ ((rb bk).2.1 = (rb bk).2.1 /\ nS) /\ QA /\ ((rb (rg bk)) = (rb (rg bk)) /\ Yp) /\ ((rb bk).2.2.2.1 = (rb bk).2.2.2.1 /\ (rg bk).1 = (rg bk).1 /\ (rg bk).2.1 = (rg bk).2.1 /\ (rg bk).2.2.1 = (rg bk).2.2.1 /\ nS) /\ QA /\ QA /\ ((rg bk).2.2.2.1 = (rg bk).2.2.2.1 /\ false = false) /\ True)) /\ vi d28)) /\
                      ((decide (d27.2 < bk.1)) = false ->
                        ∃ (ai:ZE × Int × Int × (List Int) × Int × (List Int) × (List (Int × Int × Bool)) × LpD × Int × (List Int) × Int × (List Int) × (List (List UInt8)) × LpD) (jt:Int × ZE), ((True /\ True /\ (lI d27.1) = ai.2.1 /\ (0:Int) = jt.1 /\ True) /\ ((d27.1 = ai.1 /\ d27.1.isEmpty = (List.isEmpty ai.1)) /\ ((rb ai).2.2.2.1 = (rb bk).2.2.1 /\ Yq) /\ (bk.2.1 = ai.2.2.1 /\ bk.2.2.1 = ai.2.2.2.1 /\ bk.2.2.2.1 = (rb ai).1 /\ (rb bk).1 = (rb ai).2.1 /\ nS) /\ ((rb bk).2.1 = (rb ai).2.2.1 /\ nS) /\ QA /\ (jt.2 = [] /\ (List.isEmpty jt.2) = true) /\ ((rb (rg ai)).2 = (rb (rg bk)) /\ Yp) /\ ((rb bk).2.2.2.1 = (rg ai).1 /\ (rg bk).1 = (rg ai).2.1 /\ (rg bk).2.1 = (rg ai).2.2.1 /\ (rg bk).2.2.1 = (rg ai).2.2.2.1 /\ nS) /\ QA /\ QA /\ ((rg bk).2.2.2.1 = (rb (rg ai)).1 /\ false = false) /\ True)) /\
                        LoopP (λ(d32:Int × ZE) (qW:(Int × ZE) -> Prop) =>
                          ((decide (d32.1 < ai.2.1)) = true ->
                            (0 <= d32.1) /\ (d32.1 < (List.length ai.1)) /\ (rb (rg ai)).2 = w2 /\ ∀ lD:List Value, (Q6 (rg ai).1 (rg ai).2.1 (rg ai).2.2.1 (rg ai).2.2.2.1 = 0 /\ (rg ai).2.1.length <= 110 /\ (rg ai).2.2.2.1.length <= 110 /\ [((gD ai.1 d32.1 zD).1, ((gD ai.1 d32.1 zD).2.1, ((gD ai.1 d32.1 zD).2.2.1, ((gD ai.1 d32.1 zD).2.2.2.1, (gD ai.1 d32.1 zD).2.2.2.2))))].length = 1 /\ ∀ z ∈ [((gD ai.1 d32.1 zD).1, ((gD ai.1 d32.1 zD).2.1, ((gD ai.1 d32.1 zD).2.2.1, ((gD ai.1 d32.1 zD).2.2.2.1, (gD ai.1 d32.1 zD).2.2.2.2))))], BK (rg ai).2.2.1 (rg ai).2.2.2.1 (rg ai).2.1 z = true) /\ ((XR (rg ai).2.1 (rg ai).2.2.1 (rg ai).2.2.2.1 [((gD ai.1 d32.1 zD).1, ((gD ai.1 d32.1 zD).2.1, ((gD ai.1 d32.1 zD).2.2.1, ((gD ai.1 d32.1 zD).2.2.2.1, (gD ai.1 d32.1 zD).2.2.2.2))))]).length <= 1000000) /\ (((!((XR (rg ai).2.1 (rg ai).2.2.1 (rg ai).2.2.2.1 [((gD ai.1 d32.1 zD).1, ((gD ai.1 d32.1 zD).2.1, ((gD ai.1 d32.1 zD).2.2.1, ((gD ai.1 d32.1 zD).2.2.2.1, (gD ai.1 d32.1 zD).2.2.2.2))))]) == (rb (rg ai)).1)) = true ->
                              (rb ai).2.2.2.1 = w1 /\ ∀ om:List Value, ((XR (rg ai).2.1 (rg ai).2.2.1 (rg ai).2.2.2.1 [((gD ai.1 d32.1 zD).1, ((gD ai.1 d32.1 zD).2.1, ((gD ai.1 d32.1 zD).2.2.1, ((gD ai.1 d32.1 zD).2.2.2.1, (gD ai.1 d32.1 zD).2.2.2.2))))]) ≠ [] /\ (rb ai).2.2.1.length <= 1000 /\ ∀ z ∈ (rb ai).2.2.1, 0 <= z.1 /\ 0 <= z.2.1 /\ ∀ s ∈ (XR (rg ai).2.1 (rg ai).2.2.1 (rg ai).2.2.2.1 [((gD ai.1 d32.1 zD).1, ((gD ai.1 d32.1 zD).2.1, ((gD ai.1 d32.1 zD).2.2.1, ((gD ai.1 d32.1 zD).2.2.2.1, (gD ai.1 d32.1 zD).2.2.2.2))))]), z.2.1 < s.length) /\ (((rb ai).2.2.1.all (Ot (XR (rg ai).2.1 (rg ai).2.2.1 (rg ai).2.2.2.1 [((gD ai.1 d32.1 zD).1, ((gD ai.1 d32.1 zD).2.1, ((gD ai.1 d32.1 zD).2.2.1, ((gD ai.1 d32.1 zD).2.2.2.1, (gD ai.1 d32.1 zD).2.2.2.2))))]))) = true ->
                                ((d32.2.length + (List.length [((gD ai.1 d32.1 zD).1, ((gD ai.1 d32.1 zD).2.1, ((gD ai.1 d32.1 zD).2.2.1, ((gD ai.1 d32.1 zD).2.2.2.1, (gD ai.1 d32.1 zD).2.2.2.2))))])) * 40 <= 70368744177664) /\ om = om /\ (rb ai).2.2.2.1 = w1 /\ lD = lD /\ (rb (rg ai)).2 = w2 /\ (I64 (d32.1 + (1:Int))) /\ (∃ d35:Int × ZE, ((True /\ True /\ ai.2.1 = ai.2.1 /\ (d32.1 + (1:Int)) = d35.1 /\ True) /\ ((ai.1 = ai.1 /\ (List.isEmpty ai.1) = (List.isEmpty ai.1)) /\ ((rb ai).2.2.2.1 = (rb ai).2.2.2.1 /\ Yq) /\ (ai.2.2.1 = ai.2.2.1 /\ ai.2.2.2.1 = ai.2.2.2.1 /\ (rb ai).1 = (rb ai).1 /\ (rb ai).2.1 = (rb ai).2.1 /\ nS) /\ ((rb ai).2.2.1 = (rb ai).2.2.1 /\ nS) /\ QA /\ ((d32.2 ++ [((gD ai.1 d32.1 zD).1, ((gD ai.1 d32.1 zD).2.1, ((gD ai.1 d32.1 zD).2.2.1, ((gD ai.1 d32.1 zD).2.2.2.1, (gD ai.1 d32.1 zD).2.2.2.2))))]) = d35.2 /\ false = d35.2.isEmpty) /\ ((rb (rg ai)).2 = (rb (rg ai)).2 /\ Yp) /\ ((rg ai).1 = (rg ai).1 /\ (rg ai).2.1 = (rg ai).2.1 /\ (rg ai).2.2.1 = (rg ai).2.2.1 /\ (rg ai).2.2.2.1 = (rg ai).2.2.2.1 /\ nS) /\ QA /\ QA /\ ((rb (rg ai)).1 = (rb (rg ai)).1 /\ false = false) /\ True)) /\ qW d35)) /\
                              (((rb ai).2.2.1.all (Ot (XR (rg ai).2.1 (rg ai).2.2.1 (rg ai).2.2.2.1 [((gD ai.1 d32.1 zD).1, ((gD ai.1 d32.1 zD).2.1, ((gD ai.1 d32.1 zD).2.2.1, ((gD ai.1 d32.1 zD).2.2.2.1, (gD ai.1 d32.1 zD).2.2.2.2))))]))) = false ->
                                om = om /\ (rb ai).2.2.2.1 = w1 /\ lD = lD /\ (rb (rg ai)).2 = w2 /\ (I64 (d32.1 + (1:Int))) /\ (∃ d36:Int × ZE, ((True /\ True /\ ai.2.1 = ai.2.1 /\ (d32.1 + (1:Int)) = d36.1 /\ True) /\ ((ai.1 = ai.1 /\ (List.isEmpty ai.1) = (List.isEmpty ai.1)) /\ ((rb ai).2.2.2.1 = (rb ai).2.2.2.1 /\ Yq) /\ (ai.2.2.1 = ai.2.2.1 /\ ai.2.2.2.1 = ai.2.2.2.1 /\ (rb ai).1 = (rb ai).1 /\ (rb ai).2.1 = (rb ai).2.1 /\ nS) /\ ((rb ai).2.2.1 = (rb ai).2.2.1 /\ nS) /\ QA /\ (d32.2 = d36.2 /\ d32.2.isEmpty = d36.2.isEmpty) /\ ((rb (rg ai)).2 = (rb (rg ai)).2 /\ Yp) /\ ((rg ai).1 = (rg ai).1 /\ (rg ai).2.1 = (rg ai).2.1 /\ (rg ai).2.2.1 = (rg ai).2.2.1 /\ (rg ai).2.2.2.1 = (rg ai).2.2.2.1 /\ nS) /\ QA /\ QA /\ ((rb (rg ai)).1 = (rb (rg ai)).1 /\ false = false) /\ True)) /\ qW d36))) /\
                            ((!((XR (rg ai).2.1 (rg ai).2.2.1 (rg ai).2.2.2.1 [((gD ai.1 d32.1 zD).1, ((gD ai.1 d32.1 zD).2.1, ((gD ai.1 d32.1 zD).2.2.1, ((gD ai.1 d32.1 zD).2.2.2.1, (gD ai.1 d32.1 zD).2.2.2.2))))]) == (rb (rg ai)).1)) = false ->
                              lD = lD /\ (rb (rg ai)).2 = w2 /\ (I64 (d32.1 + (1:Int))) /\ (∃ d37:Int × ZE, ((True /\ True /\ ai.2.1 = ai.2.1 /\ (d32.1 + (1:Int)) = d37.1 /\ True) /\ ((ai.1 = ai.1 /\ (List.isEmpty ai.1) = (List.isEmpty ai.1)) /\ ((rb ai).2.2.2.1 = (rb ai).2.2.2.1 /\ Yq) /\ (ai.2.2.1 = ai.2.2.1 /\ ai.2.2.2.1 = ai.2.2.2.1 /\ (rb ai).1 = (rb ai).1 /\ (rb ai).2.1 = (rb ai).2.1 /\ nS) /\ ((rb ai).2.2.1 = (rb ai).2.2.1 /\ nS) /\ QA /\ (d32.2 = d37.2 /\ d32.2.isEmpty = d37.2.isEmpty) /\ ((rb (rg ai)).2 = (rb (rg ai)).2 /\ Yp) /\ ((rg ai).1 = (rg ai).1 /\ (rg ai).2.1 = (rg ai).2.1 /\ (rg ai).2.2.1 = (rg ai).2.2.1 /\ (rg ai).2.2.2.1 = (rg ai).2.2.2.1 /\ nS) /\ QA /\ QA /\ ((rb (rg ai)).1 = (rb (rg ai)).1 /\ false = false) /\ True)) /\ qW d37)))) /\
                          ((decide (d32.1 < ai.2.1)) = false ->
                            (rb (rg ai)).2 = w2 /\ (rb ai).2.2.2.1 = w1 /\ (Q6 ai.2.2.1 ai.2.2.2.1 (rb ai).1 (rb ai).2.1 = 0 /\ ai.2.2.2.1.length <= 110 /\ (rb ai).2.1.length <= 110) /\ (false = true -> (XR ai.2.2.2.1 (rb ai).1 (rb ai).2.1 []) = []) /\ ((XR ai.2.2.2.1 (rb ai).1 (rb ai).2.1 []) ≠ [] /\ (rb ai).2.2.1.length <= 1000 /\ ∀ z ∈ (rb ai).2.2.1, 0 <= z.1 /\ 0 <= z.2.1 /\ ∀ s ∈ (XR ai.2.2.2.1 (rb ai).1 (rb ai).2.1 []), z.2.1 < s.length) /\ ((True /\ ((rb ai).2.2.1.all (Ot (XR ai.2.2.2.1 (rb ai).1 (rb ai).2.1 []))) = (Ou hk lw hd rows ss) /\ (0:Int) = Yb hk lw hd rows ss /\ nS) /\ ((d32.2 = (TH hk lw hd rows ss) /\ d32.2.isEmpty = (TH hk lw hd rows ss).isEmpty) /\ True)))) jt)) jr)) d140)) d100)) d60)))
def Za:Cx:=⟨[(36,(.pair (.i .i64) (.pair (.i .i64) (.pair (.i .i64) (.pair (.i .i64) .bo)))))],[],96,[3000094],0,[],[],[],[],false,[],[],[94],[]⟩
def Zb:List (Nat×LoopAnn):=[(0,⟨Int×Int×Int×Int×Int×(List Int)×Int×(List Int)×(List (Int×Int×Bool))×LpD×Int×(List Int)×Int×(List Int)×(List (List UInt8))×LpD,(List (Int×Int×Int×Int×Bool))×Int,[1,4,5,6,7,32,33],λe x=>[.dd 200002200000 .yv,.val (.i .i64) e.1,.val (.i .i64) e.2.1,.val (.i .i64) e.2.2.1,.lst 20000220000100045,.val (.i .i64) e.2.2.2.1,.val (.i .i64) x.2],λe x=>[(20000220000100045,.slot 7,.lst 36 (.pair (.i .i64) (.pair (.i .i64) (.pair (.i .i64) (.pair (.i .i64) .bo)))) x.1 (List.isEmpty x.1)),(2000001,.key 2000001,.lpf [.any,.any,.box 2 0,.box 3 0,.box 4 0,.any,.any,.any,.any,.any,.any,.any,.any,.any,.any,.any,.any,.any,.any,.any,.any,.any,.any,.any,.any,.any,.any,.any,.any,.any,.any,.any,.any,.any,.any,.any,.any,.any,.any,.any,.any,.any,.any,.any] (rg e).2.1 .rdy),(2,.key 2,.cells [.val (.i .i64) (rb e).1,.val (.list (.i .i64)) (rb e).2.1,.val (.i .i64) (rb e).2.2.1,.val (.list (.i .i64)) (rb e).2.2.2.1] (some 30)),(3,.key 3,.cells [.val (.list (.pair (.i .i64) (.pair (.i .i64) .bo))) (rg e).1] (some 47)),(4,.key 4,.cells [.nilS] (some 45)),(200002200000,.key 200002200000,.lpf [.any,.any,.box 200000200002 0,.box 200000200003 0,.box 200000200004 0,.any,.any,.any,.any,.any,.any,.any,.any,.any,.any,.any,.any,.any,.any,.any,.any,.any,.any,.any,.any,.any,.any] (rb (rg e)).2.2.2 .rdy),(200000200002,.key 200000200002,.cells [.val (.i .i64) (rg e).2.2.1,.val (.list (.i .i64)) (rg e).2.2.2.1,.val (.i .i64) (rb (rg e)).1,.val (.list (.i .i64)) (rb (rg e)).2.1] (some 90)),(200000200003,.key 200000200003,.cells [.dd 2000001 .yv] (some 173)),(200000200004,.key 200000200004,.cells [.lst 200000200008] (some 41)),(200000200008,.cell 200000200004 0,.lst 9 .st (rb (rg e)).2.2.1 false)]⟩),
 (2,⟨Int×Int×Int×Int×(List Int)×Int×(List Int)×(List (Int×Int×Bool))×LpD×Int×(List Int)×Int×(List Int)×(List (List UInt8))×LpD,(List (Int×Int×Int×Int×Bool))×Int,[1,4,6,7,47,48],λe x=>[.dd 200002200000 .yv,.val (.i .i64) e.1,.val (.i .i64) e.2.1,.lst 20000220000100045,.val (.i .i64) e.2.2.1,.val (.i .i64) x.2],λe x=>[(20000220000100045,.slot 7,.lst 36 (.pair (.i .i64) (.pair (.i .i64) (.pair (.i .i64) (.pair (.i .i64) .bo)))) x.1 (List.isEmpty x.1)),(2000001,.key 2000001,.lpf [.any,.any,.box 2 0,.box 3 0,.box 4 0,.any,.any,.any,.any,.any,.any,.any,.any,.any,.any,.any,.any,.any,.any,.any,.any,.any,.any,.any,.any,.any,.any,.any,.any,.any,.any,.any,.any,.any,.any,.any,.any,.any,.any,.any,.any,.any,.any,.any] (rg e).1 .rdy),(2,.key 2,.cells [.val (.i .i64) e.2.2.2.1,.val (.list (.i .i64)) (rb e).1,.val (.i .i64) (rb e).2.1,.val (.list (.i .i64)) (rb e).2.2.1] (some 30)),(3,.key 3,.cells [.val (.list (.pair (.i .i64) (.pair (.i .i64) .bo))) (rb e).2.2.2.1] (some 47)),(4,.key 4,.cells [.nilS] (some 45)),(200002200000,.key 200002200000,.lpf [.any,.any,.box 200000200002 0,.box 200000200003 0,.box 200000200004 0,.any,.any,.any,.any,.any,.any,.any,.any,.any,.any,.any,.any,.any,.any,.any,.any,.any,.any,.any,.any,.any,.any] (rb (rg e)).2.2 .rdy),(200000200002,.key 200000200002,.cells [.val (.i .i64) (rg e).2.1,.val (.list (.i .i64)) (rg e).2.2.1,.val (.i .i64) (rg e).2.2.2.1,.val (.list (.i .i64)) (rb (rg e)).1] (some 90)),(200000200003,.key 200000200003,.cells [.dd 2000001 .yv] (some 173)),(200000200004,.key 200000200004,.cells [.lst 200000200008] (some 41)),(200000200008,.cell 200000200004 0,.lst 9 .st (rb (rg e)).2.1 false)]⟩),
 (4,⟨Int×Int×Int×Int×Int×(List Int)×Int×(List Int)×(List (Int×Int×Bool))×LpD×Int×(List Int)×Int×(List Int)×(List (List UInt8))×LpD,(List (Int×Int×Int×Int×Bool))×Int,[1,4,6,7,59,60],λe x=>[.dd 200002200000 .yv,.val (.i .i64) e.1,.val (.i .i64) e.2.1,.lst 20000220000100045,.agg [.val (.i .i64) e.2.2.1,.val (.i .i64) e.2.2.2.1],.val (.i .i64) x.2],λe x=>[(20000220000100045,.slot 7,.lst 36 (.pair (.i .i64) (.pair (.i .i64) (.pair (.i .i64) (.pair (.i .i64) .bo)))) x.1 (List.isEmpty x.1)),(2000001,.key 2000001,.lpf [.any,.any,.box 2 0,.box 3 0,.box 4 0,.any,.any,.any,.any,.any,.any,.any,.any,.any,.any,.any,.any,.any,.any,.any,.any,.any,.any,.any,.any,.any,.any,.any,.any,.any,.any,.any,.any,.any,.any,.any,.any,.any,.any,.any,.any,.any,.any,.any] (rg e).2.1 .rdy),(2,.key 2,.cells [.val (.i .i64) (rb e).1,.val (.list (.i .i64)) (rb e).2.1,.val (.i .i64) (rb e).2.2.1,.val (.list (.i .i64)) (rb e).2.2.2.1] (some 30)),(3,.key 3,.cells [.val (.list (.pair (.i .i64) (.pair (.i .i64) .bo))) (rg e).1] (some 47)),(4,.key 4,.cells [.nilS] (some 45)),(200002200000,.key 200002200000,.lpf [.any,.any,.box 200000200002 0,.box 200000200003 0,.box 200000200004 0,.any,.any,.any,.any,.any,.any,.any,.any,.any,.any,.any,.any,.any,.any,.any,.any,.any,.any,.any,.any,.any,.any] (rb (rg e)).2.2.2 .rdy),(200000200002,.key 200000200002,.cells [.val (.i .i64) (rg e).2.2.1,.val (.list (.i .i64)) (rg e).2.2.2.1,.val (.i .i64) (rb (rg e)).1,.val (.list (.i .i64)) (rb (rg e)).2.1] (some 90)),(200000200003,.key 200000200003,.cells [.dd 2000001 .yv] (some 173)),(200000200004,.key 200000200004,.cells [.lst 200000200008] (some 41)),(200000200008,.cell 200000200004 0,.lst 9 .st (rb (rg e)).2.2.1 false)]⟩),
 (6,⟨Int×Int×Int×Int×Int×Int×Int×Int×(List Int)×Int×(List Int)×(List (Int×Int×Bool))×LpD×Int×(List Int)×Int×(List Int)×(List (List UInt8))×LpD,(List (Int×Int×Int×Int×Bool))×Int,[1,4,6,7,11,59,60,63,64],λe x=>[.dd 200002200000 .yv,.val (.i .i64) e.1,.val (.i .i64) e.2.1,.lst 20000220000100045,.val (.i .i64) e.2.2.1,.agg [.val (.i .i64) e.2.2.2.1,.val (.i .i64) (rb e).1],.val (.i .i64) (rb e).2.1,.val (.i .i64) (rb e).2.2.1,.val (.i .i64) x.2],λe x=>[(20000220000100045,.slot 7,.lst 36 (.pair (.i .i64) (.pair (.i .i64) (.pair (.i .i64) (.pair (.i .i64) .bo)))) x.1 (List.isEmpty x.1)),(2000001,.key 2000001,.lpf [.any,.any,.box 2 0,.box 3 0,.box 4 0,.any,.any,.any,.any,.any,.any,.any,.any,.any,.any,.any,.any,.any,.any,.any,.any,.any,.any,.any,.any,.any,.any,.any,.any,.any,.any,.any,.any,.any,.any,.any,.any,.any,.any,.any,.any,.any,.any,.any] (rb (rg e)).1 .rdy),(2,.key 2,.cells [.val (.i .i64) (rb e).2.2.2.1,.val (.list (.i .i64)) (rg e).1,.val (.i .i64) (rg e).2.1,.val (.list (.i .i64)) (rg e).2.2.1] (some 30)),(3,.key 3,.cells [.val (.list (.pair (.i .i64) (.pair (.i .i64) .bo))) (rg e).2.2.2.1] (some 47)),(4,.key 4,.cells [.nilS] (some 45)),(200002200000,.key 200002200000,.lpf [.any,.any,.box 200000200002 0,.box 200000200003 0,.box 200000200004 0,.any,.any,.any,.any,.any,.any,.any,.any,.any,.any,.any,.any,.any,.any,.any,.any,.any,.any,.any,.any,.any,.any] (Q1 e).2.2 .rdy),(200000200002,.key 200000200002,.cells [.val (.i .i64) (rb (rg e)).2.1,.val (.list (.i .i64)) (rb (rg e)).2.2.1,.val (.i .i64) (rb (rg e)).2.2.2.1,.val (.list (.i .i64)) (Q1 e).1] (some 90)),(200000200003,.key 200000200003,.cells [.dd 2000001 .yv] (some 173)),(200000200004,.key 200000200004,.cells [.lst 200000200008] (some 41)),(200000200008,.cell 200000200004 0,.lst 9 .st (Q1 e).2.1 false)]⟩),
 (8,⟨Int×Int×(List Int)×Int×(List Int)×(List (Int×Int×Bool))×LpD×Int×(List Int)×Int×(List Int)×(List (List UInt8))×LpD,(List (Int×Int×Int×Int×Bool))×Int,[1,7,75,76],λe x=>[.dd 200002200000 .yv,.lst 20000220000100045,.val (.i .i64) e.1,.val (.i .i64) x.2],λe x=>[(20000220000100045,.slot 7,.lst 36 (.pair (.i .i64) (.pair (.i .i64) (.pair (.i .i64) (.pair (.i .i64) .bo)))) x.1 (List.isEmpty x.1)),(2000001,.key 2000001,.lpf [.any,.any,.box 2 0,.box 3 0,.box 4 0,.any,.any,.any,.any,.any,.any,.any,.any,.any,.any,.any,.any,.any,.any,.any,.any,.any,.any,.any,.any,.any,.any,.any,.any,.any,.any,.any,.any,.any,.any,.any,.any,.any,.any,.any,.any,.any,.any,.any] (rb e).2.2.1 .rdy),(2,.key 2,.cells [.val (.i .i64) e.2.1,.val (.list (.i .i64)) e.2.2.1,.val (.i .i64) e.2.2.2.1,.val (.list (.i .i64)) (rb e).1] (some 30)),(3,.key 3,.cells [.val (.list (.pair (.i .i64) (.pair (.i .i64) .bo))) (rb e).2.1] (some 47)),(4,.key 4,.cells [.nilS] (some 45)),(200002200000,.key 200002200000,.lpf [.any,.any,.box 200000200002 0,.box 200000200003 0,.box 200000200004 0,.any,.any,.any,.any,.any,.any,.any,.any,.any,.any,.any,.any,.any,.any,.any,.any,.any,.any,.any,.any,.any,.any] (rb (rg e)) .rdy),(200000200002,.key 200000200002,.cells [.val (.i .i64) (rb e).2.2.2.1,.val (.list (.i .i64)) (rg e).1,.val (.i .i64) (rg e).2.1,.val (.list (.i .i64)) (rg e).2.2.1] (some 90)),(200000200003,.key 200000200003,.cells [.dd 2000001 .yv] (some 173)),(200000200004,.key 200000200004,.cells [.lst 200000200008] (some 41)),(200000200008,.cell 200000200004 0,.lst 9 .st (rg e).2.2.2.1 false)]⟩),
 (10,⟨(List (Int×Int×Int×Int×Bool))×Int×Int×(List Int)×Int×(List Int)×(List (Int×Int×Bool))×LpD×Int×(List Int)×Int×(List Int)×(List (List UInt8))×LpD,Int×(List (Int×Int×Int×Int×Bool)),[1,85,86,87],λe x=>[.dd 200002200000 .yv,.lst 20000220000100045,.val (.i .i64) e.2.1,.val (.i .i64) x.1],λe x=>[(20000220000100045,.slot 85,.lst 36 (.pair (.i .i64) (.pair (.i .i64) (.pair (.i .i64) (.pair (.i .i64) .bo)))) e.1 (List.isEmpty e.1)),(2000001,.key 2000001,.lpf [.any,.any,.box 2 0,.box 3 0,.box 4 0,.any,.any,.any,.any,.any,.any,.any,.any,.any,.any,.any,.any,.any,.any,.any,.any,.any,.any,.any,.any,.any,.any,.any,.any,.any,.any,.any,.any,.any,.any,.any,.any,.any,.any,.any,.any,.any,.any,.any] (rb e).2.2.2.1 .rdy),(2,.key 2,.cells [.val (.i .i64) e.2.2.1,.val (.list (.i .i64)) e.2.2.2.1,.val (.i .i64) (rb e).1,.val (.list (.i .i64)) (rb e).2.1] (some 30)),(3,.key 3,.cells [.val (.list (.pair (.i .i64) (.pair (.i .i64) .bo))) (rb e).2.2.1] (some 47)),(4,.key 4,.cells [.lst 37] (some 45)),(37,.cell 4 0,.lst 36 (.pair (.i .i64) (.pair (.i .i64) (.pair (.i .i64) (.pair (.i .i64) .bo)))) x.2 (List.isEmpty x.2)),(200002200000,.key 200002200000,.lpf [.any,.any,.box 200000200002 0,.box 200000200003 0,.box 200000200004 0,.any,.any,.any,.any,.any,.any,.any,.any,.any,.any,.any,.any,.any,.any,.any,.any,.any,.any,.any,.any,.any,.any] (rb (rg e)).2 .rdy),(200000200002,.key 200000200002,.cells [.val (.i .i64) (rg e).1,.val (.list (.i .i64)) (rg e).2.1,.val (.i .i64) (rg e).2.2.1,.val (.list (.i .i64)) (rg e).2.2.2.1] (some 90)),(200000200003,.key 200000200003,.cells [.dd 2000001 .yv] (some 173)),(200000200004,.key 200000200004,.cells [.lst 200000200008] (some 41)),(200000200008,.cell 200000200004 0,.lst 9 .st (rb (rg e)).1 false)]⟩)]
def XD:Cx:=⟨[(36,(.pair (.i .i64) (.pair (.i .i64) (.pair (.i .i64) (.pair (.i .i64) .bo)))))],[(34,CSp.or Ji Zf),(93,Jx)],27,[3000026],0,[],[],[],[],false,[],[(92,Z7w Za Zb c92 96)],[20,26],[]⟩
def XG:List (Nat×LoopAnn):=[]
def Tc:Cx:=⟨[(36,(.pair (.i .i64) (.pair (.i .i64) (.pair (.i .i64) (.pair (.i .i64) .bo)))))],[(41,WT),(42,Qi),(39,NH),(44,GL),(34,CSp.or Ji Zf)],44,[],0,[],[],[],[],false,[],[(43,Z7w XD XG c43 27)],[],[]⟩
def FO (hk:Int) (lw:List Int) (hd:Int) (rows:List Int) (ss:List (Int×Int×Bool)):List (Nat×LoopAnn):=[]
theorem Iz (d:(Int×List Int×Int×List Int)×List (Int×Int×Bool)):gwp (Tc) (FO d.1.1 d.1.2.1 d.1.2.2.1 d.1.2.2.2 d.2) c12 0 (Y4 [.cell 4 false 1,.tmp 5,.tmp 6] (HO d) (BY d)) (Qq 44 (AL.can Tg d))=Uo d.1.1 d.1.2.1 d.1.2.2.1 d.1.2.2.2 d.2:=by kernel_rfl
abbrev Il:Prop:=OkC Tryz.prog 12 BE
theorem I7 (h:∀ (hk:Int) (lw:List Int) (hd:Int) (rows:List Int) (ss:List (Int×Int×Bool)),(lw.length<=110/\rows.length<=110/\ss.length<=1000)->Uo hk lw hd rows ss):OkC Tryz.prog 12 BE :=
 Qu Z6u mixed (C:=Tc) (V:=λ(d:(Int×List Int×Int×List Int)×List (Int×Int×Bool))=>Uo d.1.1 d.1.2.1 d.1.2.2.1 d.1.2.2.2 d.2) ⟨(.cons Ud (.cons Z2 (.cons CB (.cons Fs (.cons (OkC.or XV Je) .nil))))),XsOk.nil,ItsOk.nil,YlOk.nil,(IysOk.cons (Q0m Z4c mixed (C:=XD) ⟨(.cons (OkC.or XV Je) (.cons KS .nil)),XsOk.nil,ItsOk.nil,YlOk.nil,(IysOk.cons (Q0m Z6o mixed (C:=Za) ⟨.nil,XsOk.nil,ItsOk.nil,YlOk.nil,IysOk.nil,XfOk.nil⟩ Zb) IysOk.nil),XfOk.nil⟩ XG) IysOk.nil),XfOk.nil⟩ (Iz) λd hp=>h d.1.1 d.1.2.1 d.1.2.2.1 d.1.2.2.2 d.2 hp
set_option maxHeartbeats 1000000 in
theorem Od:Il:=I7 λhk lw hd rows ss h=>by
 obtain⟨cJ,bJ,so⟩:=h;unfold Uo;(try delta LG Yq Yp QA ZE);(try delta lI gD sT I64 Q1 rg rb zD nS);refine⟨⟨cJ,bJ⟩,λh1=>?_,λh1=>⟨λh2=>?_,λh2=>⟨⟨by omega,λ_ _=>cJ⟩,λh3=>?_,λh3=>?_⟩⟩⟩
 .have h1:Q6 hk lw hd rows≠0:=by simpa using h1
  have e:Yb hk lw hd rows ss=Q6 hk lw hd rows:=by unfold Yb;rw[z7 h1]
  have e1:TH hk lw hd rows ss=[]:=by unfold TH;rw[z6 (by omega)]
  have e2:Ou hk lw hd rows ss=false:=by unfold Ou;rw[z6 (by omega)]
  rw[e,e1,e2];exact(by and_intros<;>first|rfl|trivial|simp)
 .have h1:Q6 hk lw hd rows=0:=by simpa using h1
  have h2:60<ss.length:=by have:=xE h2;omega
  have e:Yb hk lw hd rows ss=5:=by unfold Yb;rw[z6 (by omega),z7 h2]
  have e1:TH hk lw hd rows ss=[]:=by unfold TH;rw[z6 (by omega)]
  have e2:Ou hk lw hd rows ss=false:=by unfold Ou;rw[z6 (by omega)]
  rw[e,e1,e2];exact(by and_intros<;>first|rfl|trivial|simp)
 .have h1:Q6 hk lw hd rows=0:=by simpa using h1
  have h2:¬ 60<ss.length:=by have:=xQ h2;omega
  have e:Yb hk lw hd rows ss=2:=by unfold Yb;rw[z6 (by omega),z6 h2,z7 h3]
  have e1:TH hk lw hd rows ss=[]:=by unfold TH;rw[z6 (by omega)]
  have e2:Ou hk lw hd rows ss=false:=by unfold Ou;rw[z6 (by omega)]
  rw[e,e1,e2];exact(by and_intros<;>first|rfl|trivial|simp)
 .have h1:Q6 hk lw hd rows=0:=by simpa using h1
  have h2:¬ 60<ss.length:=by have:=xQ h2;omega
  have e:Yb hk lw hd rows ss=0:=by unfold Yb;rw[z6 (by omega),z6 h2,z6];rw[show (ss.any λs=>!Q2r lw s)=false from h3];simp
  have e1:TH hk lw hd rows ss=(dmA hd rows lw).filter (MA lw hd rows ss):=by unfold TH;rw[z7 e]
  have e2:Ou hk lw hd rows ss=ss.all (Ot (XR lw hd rows [])):=by unfold Ou;rw[z7 e]
  obtain⟨_,_,eH⟩:=Q8t e;rw[e,e1,e2];clear e e1 e2 h3;obtain⟨f0,f1,f2,f3,f4,f5,f6⟩:=NR h1;obtain⟨k1,k2⟩:=Im (ds:=[]) h1 (λz hz=>by cases hz);have nj:((hd.toNat:Nat):Int)=hd:=by omega
  have dy:rows.length*hd.toNat<=60*24:=Nat.mul_le_mul f5 (by omega);have lN:(rows.length:Int)*hd=((rows.length*hd.toNat:Nat):Int):=by push_cast;rw[nj]
  have vj:1<=lw.length:=by have:=S2 f0;omega
  refineλw1=>⟨⟨h1,cJ,bJ⟩,λw2=>⟨by rw[lN,Qf];omega,((rows.length:Int),hd,(lw.length:Int),(rows.length:Int)*hd,hk,lw,hd,rows,ss,w1,hk,lw,hd,rows,XR lw hd rows [],w2),([],0),(by and_intros<;>first|rfl|trivial|simp),?_⟩⟩;dsimp only;rw[lN];refine LoopP.count2 (rows.length*hd.toNat) (λk x=>x=dmC hd.toNat k) rfl (λk x aB hx q hq=>?_);subst hx;dsimp only;refine⟨λc=>?_,λc=>?_⟩
  .have c:k<rows.length*hd.toNat:=by have:=xE c;omega
   have hq:=hq _ c rfl;rw[Q8b] at hq;have t1:Int.tdiv (k:Int) hd=((k / hd.toNat:Nat):Int):=by
    conv=>lhs;rw[<-nj]
    rfl
   have t2:Int.tmod (k:Int) hd=((k % hd.toNat:Nat):Int):=by
    conv=>lhs;rw[<-nj]
    rfl
   have t3:k / hd.toNat<=k:=Nat.div_le_self _ _;rw[t1,t2];clear t1 t2;generalize k / hd.toNat=a at *
   generalize k % hd.toNat=b at *
   refine⟨by omega,by rw[Qf];omega,by omega,by rw[Q05];simp only[zw,List.length_nil];omega,by rw[Qf];omega,_,?_,hq⟩;exact(by and_intros<;>first|rfl|trivial|simp)
  .have c:k=rows.length*hd.toNat:=by
    have:=xQ c;omega
   subst c;refine⟨((rows.length:Int),(lw.length:Int),hd,hk,lw,hd,rows,ss,w1,hk,lw,hd,rows,XR lw hd rows [],w2),(dmC hd.toNat (rows.length*hd.toNat),0),(by and_intros<;>first|rfl|trivial|simp),?_⟩;dsimp only;have we:=Q05 hd.toNat (rows.length*hd.toNat);generalize hA:dmC hd.toNat (rows.length*hd.toNat)=A1 at *
   refine LoopP.count2 hd.toNat (λk x=>x=A1++dmN k) (by simp[dmN]) (λk x aB hx q hq=>?_);subst hx;dsimp only;refine⟨λc=>?_,λc=>?_⟩
   .have c:k<hd.toNat:=by
     have:(k:Int)<hd:=by simpa using c
     omega
    have hq:=hq _ c rfl;rw[Q1j,<-zJ] at hq;refine⟨by rw[zk,E8];simp only[zw,List.length_nil];omega,by rw[Qf];omega,_,?_,hq⟩;exact(by and_intros<;>first|rfl|trivial|simp)
   .have c:k=hd.toNat:=by
     have:¬ (k:Int)<hd:=by simpa using c
     omega
    subst c;refine⟨((rows.length:Int),(lw.length:Int),3,4,hk,lw,hd,rows,ss,w1,hk,lw,hd,rows,XR lw hd rows [],w2),(A1++dmN hd.toNat,0),(by and_intros<;>first|rfl|trivial|simp),?_⟩;dsimp only;have wg:(A1++dmN hd.toNat).length<=1600:=by rw[zk,E8];omega
    have qX:dmA hd rows lw=A1++dmN hd.toNat++dmP 3 rows.length++dmP 4 rows.length++dmT lw.length:=by unfold dmA;rw[hA]
    generalize A1++dmN hd.toNat=A2 at *
    refine⟨λd=>d=(A2,0)\/d=(A2++dmP 3 rows.length,1)\/d=(A2++dmP 3 rows.length++dmP 4 rows.length,2),λd=>(2-d.2).toNat,.inl rfl,?_⟩;rintro _ (rfl|rfl|rfl)
    .dsimp only;refine⟨λ_=>⟨by omega,by omega,λ_=>?_,λc=>by (cases c),trivial⟩,λc=>by (simp at c)⟩
     .refine⟨((rows.length:Int),(lw.length:Int),3,3,4,0,(rows.length:Int),hk,lw,hd,rows,ss,w1,hk,lw,hd,rows,XR lw hd rows [],w2),(A2,0),(by and_intros<;>first|rfl|trivial|simp),?_⟩;dsimp only;refine LoopP.count2 rows.length (λk x=>x=A2++dmP 3 k) (by simp[dmP]) (λk x aB hx q hq=>?_);subst hx;dsimp only;refine⟨λc=>?_,λc=>?_⟩
      .have c:k<rows.length:=by have:=xE c;omega
       have hq:=hq _ c rfl;rw[Q20,<-zJ] at hq;refine⟨by simp only[zk,PV,zw,List.length_nil];omega,by rw[Qf];omega,_,?_,hq⟩;exact(by and_intros<;>first|rfl|trivial|simp)
      .have c:k=rows.length:=by have:=xQ c;omega
       subst c;exact⟨by rw[Qf];omega,(A2++dmP 3 rows.length,0+1),(by and_intros<;>first|rfl|trivial|simp),.inr (.inl rfl),by simp⟩
    .dsimp only;have wh:(A2++dmP 3 rows.length).length<=1700:=by rw[zk,PV];omega
     generalize A2++dmP 3 rows.length=A3 at *
     refine⟨λ_=>⟨by omega,by omega,λc=>by (cases c),λ_=>?_,trivial⟩,λc=>by (simp at c)⟩
     .refine⟨((rows.length:Int),(lw.length:Int),4,3,4,1,(rows.length:Int),hk,lw,hd,rows,ss,w1,hk,lw,hd,rows,XR lw hd rows [],w2),(A3,0),(by and_intros<;>first|rfl|trivial|simp),?_⟩;dsimp only;refine LoopP.count2 rows.length (λk x=>x=A3++dmP 4 k) (by simp[dmP]) (λk x aB hx q hq=>?_);subst hx;dsimp only;refine⟨λc=>?_,λc=>?_⟩
      .have c:k<rows.length:=by have:=xE c;omega
       have hq:=hq _ c rfl;rw[Q20,<-zJ] at hq;refine⟨by simp only[zk,PV,zw,List.length_nil];omega,by rw[Qf];omega,_,?_,hq⟩;exact(by and_intros<;>first|rfl|trivial|simp)
      .have c:k=rows.length:=by have:=xQ c;omega
       subst c;exact⟨by rw[Qf];omega,(A3++dmP 4 rows.length,1+1),(by and_intros<;>first|rfl|trivial|simp),.inr (.inr rfl),by simp⟩
    .dsimp only;refine⟨λc=>by (simp at c),λ_=>?_⟩;have vl:(A2++dmP 3 rows.length++dmP 4 rows.length).length<=1800:=by rw[zk,zk,PV,PV];omega
     generalize A2++dmP 3 rows.length++dmP 4 rows.length=A4 at *
     refine⟨((lw.length:Int),hk,lw,hd,rows,ss,w1,hk,lw,hd,rows,XR lw hd rows [],w2),(A4,0),(by and_intros<;>first|rfl|trivial|simp),?_⟩;dsimp only;refine LoopP.count2 lw.length (λk x=>x=A4++dmT k) (by simp[dmT]) (λk x aB hx q hq=>?_);subst hx;dsimp only;refine⟨λc=>?_,λc=>?_⟩
     .have c:k<lw.length:=by have:=xE c;omega
      have hq:=hq _ c rfl;rw[Q8m,<-zJ] at hq;refine⟨by simp only[zk,ON,zw,List.length_nil];omega,by rw[Qf];omega,_,?_,hq⟩;exact(by and_intros<;>first|rfl|trivial|simp)
     .have c:k=lw.length:=by have:=xQ c;omega
      subst c;rw[<-qX];have wi:(dmA hd rows lw).length<=2000:=by rw[qX,zk,ON];omega
      have sq:=Z3c (hd:=hd) (rows:=rows) (lw:=lw) f2 f4 vj;clear qX vl;generalize dmA hd rows lw=A at *
      refine⟨(A,(A.length:Int),hk,lw,hd,rows,ss,w1,hk,lw,hd,rows,XR lw hd rows [],w2),(0,[]),(by and_intros<;>first|rfl|trivial|simp),?_⟩;dsimp only;refine LoopP.count1 A.length (λk x=>x=(A.take k).filter (MA lw hd rows ss)) rfl (λk x aB hx q hq=>?_);subst hx;dsimp only;simp only[ze];refine⟨λc=>?_,λc=>?_⟩
      .have c:k<A.length:=by have:=xE c;omega
       have ex:((A.getD k (0,(0,(0,(0,false))))).1,((A.getD k (0,(0,(0,(0,false))))).2.1,((A.getD k (0,(0,(0,(0,false))))).2.2.1,((A.getD k (0,(0,(0,(0,false))))).2.2.2.1,(A.getD k (0,(0,(0,(0,false))))).2.2.2.2))))=A.getD k (0,(0,(0,(0,false)))):=rfl;rw[ex];have hx:A.getD k (0,(0,(0,(0,false))))∈A:=by rw[Qc c];exact zl c
       have lZ:(A.take (k+1)).filter (MA lw hd rows ss)=(A.take k).filter (MA lw hd rows ss)++(if MA lw hd rows ss (A.getD k (0,(0,(0,(0,false)))))=true then [A.getD k (0,(0,(0,(0,false))))] else []):=by rw[ZG c,List.filter_append,Qc c];congr 1;rw[xT];split<;>rfl
       have hq:=hq _ c rfl;rw[lZ] at hq;clear lZ ex;have vn:=List.length_filter_le (MA lw hd rows ss) (A.take k);rw[wv] at vn;generalize (A.take k).filter (MA lw hd rows ss)=L at *
       generalize A.getD k (0,(0,(0,(0,false))))=x at *
       obtain⟨r1,r2⟩:=Im (ds:=[x]) h1 (λz hz=>by rw[zS.1 hz];exact sq _ hx);refine⟨by omega,by omega,trivial,λlD=>⟨⟨h1,cJ,bJ,rfl,λz hz=>by rw[zS.1 hz];exact sq _ hx⟩,by omega,λaK=>⟨trivial,λom=>⟨⟨λe=>by rw[e] at r1;simp at r1;omega,so,λz hz=>?_⟩,λhf=>?_,λhf=>?_⟩⟩,λheq=>?_⟩⟩
       .obtain⟨g1,_,g3,g4⟩:=Oh (eH z hz);exact⟨g1,g3,λs hs=>by rw[(r2 s hs).1];exact g4⟩
       .have hP:MA lw hd rows ss x=true:=by unfold MA;rw[aK,hf];rfl
        rw[z7 hP] at hq;refine⟨by simp only[zw,List.length_nil];omega,trivial,trivial,trivial,trivial,by rw[Qf];omega,((k:Int)+1,L++[x]),?_,hq⟩;exact(by and_intros<;>first|rfl|trivial|simp)
       .have hP:¬ MA lw hd rows ss x=true:=by unfold MA;rw[hf];simp
        rw[z6 hP,x7] at hq;repeat (refine And.intro trivial ?_)
        refine⟨by rw[Qf];omega,((k:Int)+1,L),?_,hq⟩;exact(by and_intros<;>first|rfl|trivial|simp)
       .have hP:¬ MA lw hd rows ss x=true:=by unfold MA;rw[heq];simp
        rw[z6 hP,x7] at hq;repeat (refine And.intro trivial ?_)
        refine⟨by rw[Qf];omega,((k:Int)+1,L),?_,hq⟩;exact(by and_intros<;>first|rfl|trivial|simp)
      .have c:k=A.length:=by have:=xQ c;omega
       subst c;rw[List.take_length];repeat (refine And.intro trivial ?_)
       refine⟨⟨h1,cJ,bJ⟩,(λc=>by cases c),⟨λe=>by rw[e] at k1;simp at k1;omega,so,λz hz=>?_⟩,?_⟩
       .obtain⟨g1,_,g3,g4⟩:=Oh (eH z hz);exact⟨g1,g3,λs hs=>by rw[(k2 s hs).1];exact g4⟩
       .exact(by and_intros<;>first|rfl|trivial|simp)
end Go.Proofs.Tryz
namespace Go.V
open Go
theorem Q9c {P:Program}{U:Heap}:Ret P U (.val .bo true) [] (.bool true) U :=
 ⟨⟨.refl _,Dead.refl _⟩,λ_=>rfl,Yv,λj b hj=>by simp at hj,λj j' i hj=>by simp at hj,by simp[SR,KC]⟩
theorem Fa {P:Program}{f:Nat}(h:∀ (U:Heap) (K:Value->Heap->Prop),K (.bool true) U->VCalled P f [] U K):OkC P f (Wt (.nil:AL Unit) (λ_=>True) (λ_=>.val .bo true) (λ_=>[])):=by
 intro ap dX U args vs c v bs aA hs hv bY hc;unfold Wt at hs;split at hs
 .rename_i d hd;obtain⟨rfl,rfl,rfl⟩:=(by simpa using hs:True=c/\SV.val .bo true=v/\[]=bs);have:vs=[]:=by
   cases args with
   |nil=>simpa [SRs] using aA
   |cons a l=>simp[AL.dec] at hd
  subst this;refine⟨h U _ Q9c,λ_ _=>h U _ ⟨rfl,?_⟩⟩;unfold SU;cases U;simp only[List.length_nil,z_,List.getElem?_nil,Option.bind_none,Heap.mk.injEq,and_true];funext i;split
  .rfl
  .rename_i wf hi;exact wf i (by simpa using hi)
 .cases hs
end Go.V
namespace Go.V
open Go Go.ChangeShapes Go.WideShapes Go.RowKit Go.Deep Go.Joins
def Heap.RO (U:Heap):Prop:=∀ i b,U.get i=some b->b.wr=false
structure View (w:World) (ρ:Plc) (U:Heap):Prop where
 rel:HRel ρ U w
 ro:U.RO
structure More (ρ:Plc) (U:Heap) (ρ':Plc) (U':Heap):Prop where
 n:U.n<=U'.n
 pl:∀ i,i<U.n->∀ p,ρ' i=some p->ρ i=some p
 ag:Agree U U'
theorem More.refl (ρ:Plc) (U:Heap):More ρ U ρ U:=⟨z9 _,λ_ _ _ h=>h,Agree.refl _⟩
theorem More.trans {ρ ρ' eC:Plc}{U U' aL:Heap}(h:More ρ U ρ' U') (k:More ρ' U' eC aL):More ρ U eC aL :=
 ⟨zO h.n k.n,λi hi p hp=>h.pl i hi p (k.pl i (x3 hi h.n) p hp),h.ag.trans k.ag h.n⟩
def Z9o (w:World):Prop:=∀ g cs,Q7e g=some cs->∃ e f,w.heap[g]?=some (.cells cs.toArray e f)
theorem View.emptyT (w:World) (ht:Z9o w):View w (λ_=>none) Heap.empty where
 rel:=⟨⟨λi b h=>(by cases h),λ_ _=>rfl,λi p h=>(by cases h),λi j p q b _ h=>(by cases h)⟩,λg cs hg=>⟨ht g cs hg,λ⟨_,_,_,h,_⟩=>by cases h⟩⟩
 ro:=λi b h=>by cases h
theorem View.add {w:World}{ρ:Plc}{U:Heap}(h:View w ρ U) (p:Pl) (c:List Value) {C:Array Value}{e:TypeId}{f:Nat×Nat}(hb:w.heap[p.blk]?=some (.cells C e f)) (hs:p.shift+p.ext<=C.size) (hl:c.length<=p.ext) (ht:e=p.esz.ty)
  (hc:∀ (k:Nat) (v:Value),c[k]?=some v->∃ u,w.cell? ⟨p.blk,p.shift+k,none⟩=some u/\VRel ρ U.n v u) :
  View w (ρ.put U.n (some p)) (U.push (.cells c p.esz false p.tight))/\More ρ U (ρ.put U.n (some p)) (U.push (.cells c p.esz false p.tight)):=by
 have aY:∀ i,i<U.n->∀ q,(ρ.put U.n (some p)) i=some q->ρ i=some q:=λi hi q hq=>by unfold Plc.put at hq;rwa [z6 (by omega)] at hq
 have bV:(U.push (.cells c p.esz false p.tight)).RO:=λi b hi=>by
  by_cases e:i=U.n
  .subst e;rw[Heap.q0a] at hi;obtain rfl:=osj hi;rfl
  .rw[Heap.q0e _ _ e] at hi;exact h.ro i b hi
 refine⟨⟨⟨⟨?_,?_,?_,?_⟩,λg cs hg=>⟨(h.rel.tab g cs hg).1,λ⟨i,_,b,_,hi,hw,_⟩=>by rw[bV i b hi] at hw;cases hw⟩⟩,bV⟩,⟨by simp,aY,λi hi=>Heap.q0h _ _ hi⟩⟩
 .intro i b hi;by_cases aR:i=U.n
  .subst aR;rw[Heap.q0a] at hi;obtain rfl:=osj hi;refine⟨p,by simp[Plc.put],rfl,rfl,hl,⟨C,e,f,hb,hs,ht⟩,λk v hk=>?_,λh=>by cases h⟩;obtain⟨u,hu,hv⟩:=hc k v hk;exact⟨u,hu,hv.mono (by simp) aY⟩
  .rw[Heap.q0e _ _ aR] at hi;obtain⟨q,hq,hB⟩:=h.rel.live i b hi;exact⟨q,by simp[Plc.put,aR,hq],hB.mono (by simp) aY rfl⟩
 .intro i hi;by_cases aR:i=U.n
  .grind [Heap.q0a]
  .rw[Heap.q0e _ _ aR] at hi;simp[Plc.put,aR,h.rel.dead i hi]
 .intro i q hq;by_cases aR:i=U.n
  .subst aR;simp[Plc.put] at hq
   grind
  .simp[Plc.put,aR] at hq;exact h.rel.lt i q hq
 .intro i j q r b _ _ _ cm hw _;rw[bV i b cm] at hw;cases hw
theorem Q52 {P:Program}{fits:TypeId->Bool}{d:Nat}{e:TypeId}{count off n:Nat}(h:rowAt P fits d e count off n=true):off<=count*P.cellsOf e:=by
 cases d with
 |zero=>cases h
 |succ d =>
  unfold rowAt at h;by_cases hs:P.cellsOf e=0
  .simp[hs] at h
  .have dx:0<P.cellsOf e:=Nat.pos_of_ne_zero hs;simp only[hs,if_false,zt,z0,zU,zf] at h;have hd:=Nat.div_add_mod off (P.cellsOf e);have hm:=xJ off dx;rcases h with⟨⟨h1,h2⟩,_⟩|⟨h1,_⟩
   .have:P.cellsOf e*(off / P.cellsOf e)<=P.cellsOf e*count:=Nat.mul_le_mul_left _ (by omega);rw[wx count];omega
   .have:P.cellsOf e*(off / P.cellsOf e+1)<=P.cellsOf e*count:=Nat.mul_le_mul_left _ (by omega)
    grind
theorem Ak {P:Program}:∀ {d:Nat}{e:TypeId}{count off:Nat}{u:TypeId}{n:Nat},liesAt P d e count off u n=true->off<=count*P.cellsOf e
 |0,_,_,_,_,_,h=>by cases h
 |d+1,e,count,off,u,n,h=>by
  unfold liesAt at h;rw[zt] at h;rcases h with h|h
  .exact Q52 h
  .split at h
   .exact Ak h
   .cases h
theorem I8 {P:Program}{w:World}{r:Reach}{base:Nat}{a:Addr}{e:TypeId}{n:Nat}(h:w.has P r base a e n):∃ C row f,w.heap[a.block]?=some (.cells C row f)/\a.off<=C.size/\a.spot=none:=by
 obtain⟨_,hs,row,cells,cY,hl⟩:=h;unfold World.shape? at cY;split at cY
 .rename_i C e' f hb;obtain⟨rfl,rfl⟩:=(by simpa using cY:e'=row/\C.size=cells);exact⟨C,e',f,hb,zO (Ak hl) (Nat.div_mul_le_self _ _),hs⟩
 .cases cY
theorem Tj {P:Program}{w:World}{r:Reach}{base:Nat}{t e:TypeId}{v:Value}(ht:P.underlying t=some (.slice e)) (h:Cell.okWide P w r base t v) :
  v=.slice none 0 0\/∃ a len cap,v=.slice (some a) len cap/\w.has P r base a e cap:=by
 unfold Cell.okWide at h;rw[ht] at h;have h':Cell.ok P w r base t v:=by omega
 unfold Cell.ok at h'
 grind
theorem Z4a {k:IntKind}{x:Int}(h:(Lit.int k x).wf=true):k.min<=x/\x<=k.max:=by simpa [Lit.wf] using h
theorem View.calls {P:Program}{f:FuncId}{w:World}{ρ:Plc}{U:Heap}(h:View w ρ U) {args:List Value}{ax:Array Value}(hl:LRel ρ U.n args ax.toList) (hc:VCallsTo P f args U λv _=>v=.bool true) :
  Calls P f ax w λe w'=>e=.returned (.bool true)/\Below w.heap.size w w':=by
 refine (hc ρ w ax h.rel hl).mono λe w' ⟨c,he,v,ρ',U',hv,hr,_,hx⟩=>?_;subst hv;have:c=.bool true:=by cases hr;rfl
 subst this;exact⟨he,hx.os,hx.tape,hx.output,hx.size,λB hB=>hx.keep B hB λ⟨i,p,b,_,hi,hw,_⟩=>by rw[h.ro i b hi] at hw;cases hw⟩
theorem He {H:Type}{enc:TypeId×Value->H}{P:Program}(hl:laidOutB P=true) {W W':World}{sp:Nat->Bool}(hb:Below W.heap.size W W') :
  ∀ {ts:List TypeId}{vs:List Value}{ds:List (DataW H)}{ps:List MemPlace},(∀ t∈ts,P.readableRec t=true/\t<P.types.size)->DataW.TrodAll enc P W 0 (λ_=>true) true ts vs ds ps->(∀ p∈ps,p.block<W.heap.size)->(∀ p∈ps,sp p.block=true) ->
   DataW.TrodAll enc P W' 0 sp true ts vs ds ps
 |[],vs,ds,ps,_,h,_,_=>by obtain⟨rfl,rfl,rfl⟩:=trodAll_nil h;rfl
 |t::ts,vs,ds,ps,ht,h,ao,hs=>by
  obtain⟨v,cE,d,ds',p,q,rfl,rfl,rfl,h1,h2⟩:=trodAll_cons h;obtain⟨r1,r2⟩:=ht t (by simp);exact⟨p,q,WideElems.Trod_stays hl r1 r2 h1 (λx hx=>hb.same (ao x (by simp[hx]))) (λx hx=>hs x (by simp[hx])),
   He hl hb (λt o8=>ht t (by simp[o8])) h2 (λx hx=>ao x (by simp[hx])) (λx hx=>hs x (by simp[hx])),rfl⟩
theorem Q6u {H:Type}{enc:TypeId×Value->H}{P:Program}{f:Func}{s:ChangeSpec}{apart fresh handsOn again:Bool}{W W':World}{args:Array Value}{ds gs:List (DataW H)}{before:List MemPlace}{tb:TypeId}
  (hl:laidOutB P=true) (hp:f.params.toList.all (λt=>P.readableRec t&&decide (t<P.types.size))=true) (ke:s.vars=[]) (hr:f.resultTypes=#[tb]) (bQ:P.underlying tb=some .bool) (hs:s.fn H ds={results:=[.lit (.bool true)],args:=ds})
  (hW:DataW.Whole enc P f.params.toList s.vars apart W args.toList ds gs before) (hb:Below W.heap.size W W'):s.post enc P f apart fresh handsOn again W args (.bool true) W':=by
 have ao:∀ p∈before,p.block<W.heap.size:=λp hp=>hW.lt p hp;have vp:=hW;obtain⟨p,q,hA,hV,rfl,hz,hn⟩:=hW;rw[ke] at hV;obtain⟨rfl,rfl⟩:=trodVars_none hV;have bz:∀ t∈f.params.toList,P.readableRec t=true/\t<P.types.size:=(by grind);have eH:s.fn H (ds++[])={results:=[.lit (.bool true)],args:=ds}:=by rw[x7];exact hs
 have dW:∀ (b:Nat) (sp:Nat->Bool) (hd:Bool),DataW.TrodAll enc P W' b sp hd f.resultTypes.toList ((Value.bool true).resultList f.resultTypes.size) (s.fn H (ds++[])).results []:=λb sp hd=>by rw[eH,hr];exact trodAll_mk1 (shut_bool bQ _)
 have aA:∀ sp:Nat->Bool,(∀ x∈p++[],sp x.block=true)->DataW.TrodAll enc P W' 0 sp true f.params.toList args.toList (s.fn H (ds++[])).args p:=(by grind [He]);have cn:∀ sp:Nat->Bool,DataW.TrodVars enc P W' sp s.vars (s.fn H (ds++[])).vars []:=λsp=>by rw[eH,ke];rfl
 have hold:∀ x∈p++[],(λb=>decide (b<W.heap.size)) x.block=true:=λx hx=>by simpa using ao x hx
 refine⟨ds,[],p++[],[],p,[],vp,dW _ _ _,aA _ hold,cn _,World.keptBut_mono (λx hx=>⟨hx,?_⟩) (hb.frame (·∈p++[])),λ_=>?_⟩
 .exact .inr (by simpa using hx)
 .refine⟨ok_one hr rfl (okWide_bool_mk bQ _),_,_,([]++p)++[],⟨[]++p,[],trodAll_append (aA _ (λ_ _=>rfl)) (dW _ _ _),cn _,rfl,?_,?_⟩,?_⟩
  .intro b off hx;have aR:MemPlace.cell b off∈p++[]:=by simpa using hx
   rw[hb.frozen (ao _ aR)];exact hz b off aR
  .intro ha;simpa using hn ha
  .intro x hx _;simpa using hx
def KFs (T:Kind->TypeId->Bool) (sz:TypeId->Nat):Kind->List (TypeId×Nat)->Nat->Bool
 |_,[],_=>false
 |k,[p],off=>p.2==off&&(sz p.1==k.size&&T k p.1)
 |.pair a b,p::q::r,off=>p.2==off&&(sz p.1==a.size&&(T a p.1&&KFs T sz b (q::r) (off+a.size)))
 |_,_::_::_,_=>false
def Kind.row:Kind->Bool
 |.list k=>k.flat
 |_=>false
def J24 (P:Program) (t:TypeId):Bool:=match P.underlying t with|some (.slice _)=>true|_=>false
def KTy (P:Program):Nat->Kind->TypeId->Bool
 |0,_,_=>false
 |n+1,k,t=>match P.underlying t with
  |some (.struct fs)=>P.cellsOf t==k.size&&KFs (KTy P n) P.cellsOf k (fs.toList.map λf=>(f.type,f.offset)) 0
  |some (.array m e)=>P.cellsOf t==k.size&&KFs (KTy P n) P.cellsOf k ((List.range m).map λi=>(e,i*P.cellsOf e)) 0
  |some (.int ik)=>(match k with|.i k'=>decide (k'=ik)|_=>false)
  |some .bool=>(match k with|.bo=>true|_=>false)
  |some .string=>(match k with|.st=>true|_=>false)
  |some (.slice e)=>(match k with|.list k'=>P.cellsOf e==k'.size&&((k'.flat||(k'.row&&J24 P e))&&KTy P n k' e)|_=>false)
  |_=>false
def KWf:(k:Kind)->k.T->Prop
 |.i ik,x=>InK ik x
 |.bo,_=>True
 |.st,s=>s.length<=maxLen
 |.list k,l=>l.length<=maxLen/\∀ x∈l,KWf k x
 |.pair a b,x=>KWf a x.1/\KWf b x.2
theorem More.le {ρ ρ':Plc}{U U':Heap}(h:More ρ U ρ' U'):U.Le U':=⟨h.n,λi b hb=>by rw[h.ag i (U.lt hb)];exact hb⟩
def ArgIs (w:World) (ρ:Plc) (U:Heap) (k:Kind) (cs:List Value):Prop :=
 ∃ ρ' U' vs x,View w ρ' U'/\More ρ U ρ' U'/\LRel ρ' U'.n vs cs/\KC U' k x vs/\KWf k x
theorem ArgIs.pair {w:World}{ρ:Plc}{U:Heap}{a b:Kind}{cs ds:List Value}(h1:ArgIs w ρ U a cs) (h2:∀ ρ U,View w ρ U->ArgIs w ρ U b ds):ArgIs w ρ U (.pair a b) (cs++ds):=by obtain⟨ρ1,σ1,oW,x1,k1,k2,k3,k4,k5⟩:=h1;obtain⟨ρ2,σ2,jT,x2,m1,m2,m3,m4,m5⟩:=h2 ρ1 σ1 k1;exact⟨ρ2,σ2,oW++jT,(x1,x2),m1,k2.trans m2,(k3.mono m2.n m2.pl).append m3,⟨oW,jT,rfl,k4.mono m2.le,m4⟩,k5,m5⟩
section
variable {H:Type}{enc:TypeId×Value->H}{P:Program}{w:World}{r:Reach}{base:Nat}
def okc (P:Program) (w:World) (r:Reach) (base:Nat) (ts:List TypeId) (cs:List Value):Prop:=∀ (i:Nat) v u,cs[i]?=some v->ts[i]?=some u->Cell.okWide P w r base u v
theorem Q0j {T:Kind->TypeId->Bool}{sz:TypeId->Nat}{g:TypeId->Option (List TypeId)}(hT:∀ k t ts,T k t=true->g t=some ts->ts.length=k.size) :
  ∀ {k:Kind}{L:List (TypeId×Nat)}{off:Nat}{gU:List (List TypeId)},KFs T sz k L off=true->L.mapM (λp=>g p.1)=some gU->gU.flatten.length=k.size
 |k,[],_,_,h,_=>by simp[KFs] at h
 |k,[p],off,gU,h,hm=>by
  simp only[KFs,z0] at h;cases hg:g p.1 with
  |none=>simp[hg] at hm
  |some ts =>simp[hg] at hm;subst hm;simpa using hT _ _ _ h.2.2 hg
 |.pair a b,p::q::r,off,gU,h,hm=>by
  simp only[KFs,z0] at h;rw[x6] at hm;cases hg:g p.1 with
  |none=>simp[hg] at hm
  |some ts =>
   cases hr:(q::r).mapM (λp=>g p.1) with
   |none=>simp[hg,hr] at hm
   |some tr =>simp[hg,hr] at hm;subst hm;have:=Q0j hT h.2.2.2 hr;simp only[List.flatten_cons,zk,this,hT _ _ _ h.2.2.1 hg,Kind.size]
 |.i _,_::_::_,_,_,h,_|.bo,_::_::_,_,_,h,_|.st,_::_::_,_,_,h,_|.list _,_::_::_,_,_,h,_=>by cases h
theorem BS {α β γ:Type}{f:α->β}{g:β->Option γ}:∀ (l:List α),(l.map f).mapM g=l.mapM (λx=>g (f x))
 |[]=>rfl
 |a::l=>by simp only[xm,x6,BS l]
theorem PH {β:Type}{x:β}{f:Nat->Option β}(h:∀ i,f i=some x):∀ l:List Nat,l.mapM f=some (List.replicate l.length x)
 |[]=>rfl
 |a::l=>by simp[x6,h,PH h l,xx]
theorem OF:∀ {n:Nat}{k:Kind}{t:TypeId}{d:Nat}{ts:List TypeId},KTy P n k t=true->P.cellTypes d t=some ts->ts.length=k.size
 |0,_,_,_,_,h,_=>by cases h
 |_+1,_,_,0,_,_,h=>by cases h
 |n+1,k,t,d+1,ts,h,ht=>by
  have ih:∀ k t ts,KTy P n k t=true->P.cellTypes d t=some ts->ts.length=k.size:=λk t ts h1 h2=>OF h1 h2;unfold Program.cellTypes at ht;unfold KTy at h;cases hu:P.underlying t with
  |none=>rw[hu] at h;cases h
  |some u =>
   rw[hu] at h ht;cases u<;>first|(cases h;done)|skip
   all_goals simp only at h ht
   .split at h<;>first|(cases h;done)|(obtain rfl:=osj ht;rfl)
   .split at h<;>first|(cases h;done)|(obtain rfl:=osj ht;rfl)
   .split at h<;>first|(cases h;done)|(obtain rfl:=osj ht;rfl)
   .split at h<;>first|(cases h;done)|(obtain rfl:=osj ht;rfl)
   .rename_i m e;rw[z0] at h;cases hc:P.cellTypes d e with
    |none=>rw[hc] at ht;cases ht
    |some te =>rw[hc] at ht;obtain rfl:=osj ht;refine Q0j (g:=λt=>P.cellTypes d t) ih h.2 ?_;rw[BS,PH (x:=te) (λ_=>hc)];simp
   .rename_i fs;rw[z0] at h;cases hc:fs.toList.mapM λf=>P.cellTypes d f.type with
    |none=>rw[hc] at ht;cases ht
    |some gU =>rw[hc] at ht;obtain rfl:=osj ht;refine Q0j (g:=λt=>P.cellTypes d t) ih h.2 ?_;rw[BS];exact hc
theorem HM {T:Kind->TypeId->Bool}{sz:TypeId->Nat}{Q:TypeId->List Value->Prop}{R:Kind->List Value->Prop}(hT:∀ k t cs,T k t=true->Q t cs->R k cs) (hR:∀ a b cs ds,R a cs->R b ds->R (.pair a b) (cs++ds)) (cs:List Value) :
  ∀ {k:Kind}{L:List (TypeId×Nat)}{off:Nat},KFs T sz k L off=true->(∀ p∈L,Q p.1 ((cs.drop p.2).take (sz p.1)))->R k ((cs.drop off).take k.size)
 |k,[],_,h,_=>by simp[KFs] at h
 |k,[p],off,h,hq=>by
  simp only[KFs,z0,zU] at h
  grind
 |.pair a b,p::q::r,off,h,hq=>by
  simp only[KFs,z0,zU] at h;have h1:=hq p (by simp);rw[h.1,h.2.1] at h1;have h2:=HM hT hR cs h.2.2.2 (by simp_all);have e:(cs.drop off).take (Kind.pair a b).size=(cs.drop off).take a.size++(cs.drop (off+a.size)).take b.size:=by rw[Kind.size,List.take_add,List.drop_drop]
  grind
 |.i _,_::_::_,_,h,_|.bo,_::_::_,_,h,_|.st,_::_::_,_,h,_|.list _,_::_::_,_,h,_=>by cases h
def FlatIs (k:Kind) (cs:List Value):Prop:=∃ y:k.T,(∀ h,KC h k y cs)/\KWf k y/\∀ ρ m,LRel ρ m cs cs
theorem FlatIs.pair {a b:Kind}{cs ds:List Value}(h1:FlatIs a cs) (h2:FlatIs b ds):FlatIs (.pair a b) (cs++ds):=by obtain⟨x,k1,k2,k3⟩:=h1;obtain⟨y,m1,m2,m3⟩:=h2;exact⟨(x,y),λh=>⟨cs,ds,rfl,k1 h,m1 h⟩,⟨k2,m2⟩,fun ρ m=>(k3 ρ m).append (m3 ρ m)⟩
theorem LRel.one {ρ:Plc}{n:Nat}{v c:Value}(h:VRel ρ n v c):LRel ρ n [v] [c]:=.cons h (.nil _ _)
theorem Hn {fs:Array Field}{f:Field}(h:f∈fs.toList):∃ i:Nat,fs[i]?=some f:=by obtain⟨i,hi,rfl⟩:=List.mem_iff_getElem.1 h;exact⟨i,by simp at hi;simp[hi]⟩
theorem Rs {sp:Nat->Bool}{held:Bool}:∀ {n:Nat}{k:Kind}{t:TypeId}{fuel:Nat}{cs:List Value}{x:DataW H×List MemPlace},KTy P n k t=true->k.flat=true->DataW.trod enc P w base sp held fuel t cs=some x->FlatIs k cs
 |0,_,_,_,_,_,h,_,_=>by cases h
 |n+1,k,t,fuel,cs,x,h,hf,hx=>by
  unfold KTy at h;cases hu:P.underlying t with
  |none=>rw[hu] at h;cases h
  |some u =>
   rw[hu] at h;have hR:∀ a b cs ds,((a.flat=true->FlatIs a cs)/\True)->((b.flat=true->FlatIs b ds)/\True)->(((Kind.pair a b).flat=true->FlatIs (.pair a b) (cs++ds))/\True):=λa b cs ds h1 h2=>⟨λhf=>by
    simp only[Kind.flat,z0] at hf;exact(h1.1 hf.1).pair (h2.1 hf.2),trivial⟩
   have hT:∀ k t cs,KTy P n k t=true->(∃ fuel x,DataW.trod enc P w base sp held fuel t cs=some x)->((k.flat=true->FlatIs k cs)/\True):=λk t cs h1 ⟨fuel,x,h2⟩=>⟨λhf=>Rs h1 hf h2,trivial⟩;cases u<;>first|(cases h;done)|skip
   all_goals simp only at h
   .split at h<;>first|(cases h;done)|skip
    obtain⟨b,rfl,_⟩:=DataW.trod_bool hu hx;exact⟨b,λ_=>rfl,trivial,λ_ _=>.one (.bool _)⟩
   .split at h<;>first|(cases h;done)|skip
    obtain rfl:=xE h;obtain⟨z,rfl,_,hw⟩:=DataW.trod_int hu hx;exact⟨z,λ_=>rfl,Z4a hw,λ_ _=>.one (.int _ _)⟩
   .split at h<;>first|(cases h;done)|skip
    obtain⟨s,rfl,_,hs⟩:=DataW.trod_string hu hx;exact⟨s.data.toList,λ_=>rfl,hs,λ_ _=>.one (.string _)⟩
   .split at h<;>first|(cases h;done)|(cases hf;done)
   .rename_i m e;simp only[z0,zU] at h;obtain⟨xs,m',_,_,hl,fp,hx⟩:=DataW.trod_array hu hx;have:=(HM (R:=λk cs=>(k.flat=true->FlatIs k cs)/\True) hT hR cs h.2 (by grind)).1 hf
    grind
   .rename_i fs;simp only[z0,zU] at h;obtain⟨xs,m',_,_,hl,fp,hx⟩:=DataW.trod_struct hu hx;have:=(HM (R:=λk cs=>(k.flat=true->FlatIs k cs)/\True) hT hR cs h.2 (by grind [Hn,Array.getElem?_eq_some_iff,List.getElem?_eq_getElem])).1 hf
    grind
theorem Rows.range {α:Type}{R:α->List Value->Prop}{n:Nat}{c:List Value}{x:Nat->α}:∀ (m:Nat),(∀ i,i<m->R (x i) ((c.drop (i*n)).take n))->Rows R ((List.range m).map x) (c.take (m*n))
 |0,_=>by simp;exact .nil
 |m+1,h=>by
  have e:c.take ((m+1)*n)=c.take (m*n)++(c.drop (m*n)).take n:=by rw[zI,xD,List.take_add]
  rw[List.range_succ,xd,e];exact(Rows.range m λi hi=>h i (by omega)).append (by simpa using Rows.cons (h m (by omega)) .nil)
theorem Tv {α:Type}[Inhabited α] {m:Nat}{p:Nat->α->Prop}(h:∀ i,i<m->∃ x,p i x):∃ f:Nat->α,∀ i,i<m->p i (f i) :=
 ⟨λi=>if hi:i<m then (h i hi).choose else default,(by grind)⟩
instance KInh (k:Kind):Inhabited k.T:=⟨k.dflt⟩
theorem View.list {ρ:Plc}{U:Heap}(h:View w ρ U) {n:Nat}{k:Kind}{t e:TypeId}{fuel:Nat}{cs:List Value}{x:DataW H×List MemPlace}(hu:P.underlying t=some (.slice e)) (hs:P.cellsOf e=k.size) (hf:k.flat=true) (hk:KTy P n k e=true)
  (hx:DataW.trod enc P w 0 (λ_=>true) true fuel t cs=some x) (aq:okc P w r base [t] cs):ArgIs w ρ U (.list k) cs:=by
 rcases open_slice hu hx with⟨rfl,_⟩|⟨a,len,cap,m,fu,D,Pl,rfl,hb,hl,hm,fM,_,hel⟩
 .exact⟨ρ,U,[.slice none 0 0],[],h,More.refl _ _,.one .nilSl,⟨_,rfl,.inl ⟨rfl,rfl⟩⟩,by simp[maxLen],λ_ hx=>by cases hx⟩
 simp only[zq] at fM;subst fM;rw[hs] at hel;have lE:w.has P r base a e m:=by
  rcases Tj hu (aq 0 _ t rfl rfl) with hh|⟨a',qY,av,hh,h2⟩
  .cases hh
  .cases hh;exact h2
 obtain⟨C,row,f,aE,a_,eX⟩:=I8 lE;obtain⟨blk,off,spot⟩:=a;simp only at aE a_ eX;subst eX;have fH:∀ i,(⟨blk,off,none⟩:Addr).add i=⟨blk,off+i,none⟩:=λi=>by unfold Addr.add;split<;>simp_all
 obtain⟨X,hX⟩:=Tv (α:=k.T×List Value) (m:=m) (p:=λi p=>p.2.length=k.size/\(∀ j,j<k.size->w.cell? ⟨blk,off+i*k.size+j,none⟩=p.2[j]?)/\(∀ h,KC h k p.1 p.2)/\KWf k p.1/\∀ ρ m,LRel ρ m p.2 p.2) λi hi=>by
  obtain⟨cs',h1,h2⟩:=hel i hi;obtain⟨_,k1,k2⟩:=World.cells?_some h1;obtain⟨y,m1,m2,m3⟩:=Rs hk hf h2;refine⟨(y,cs'),k1,λj hj=>?_,m1,m2,m3⟩;have:=k2 j hj;rw[fH] at this;have e2:(⟨blk,off+i*k.size,none⟩:Addr).add j=⟨blk,off+i*k.size+j,none⟩:=by unfold Addr.add;split<;>simp_all
  rw[e2] at this;exact this
 have dx:=k.size_pos;let c:List Value:=(List.range (m*k.size)).map λj=>((X (j / k.size)).2[j % k.size]?).getD undef;have cz:c.length=m*k.size:=by simp[c]
 have hdiv:∀ j,j<m*k.size->j / k.size<m:=λj hj=>Nat.div_lt_of_lt_mul (by rw[wx];exact hj);have bI:∀ j,j<m*k.size->∃ v,c[j]?=some v/\w.cell? ⟨blk,off+j,none⟩=some v/\∀ ρ m,VRel ρ m v v:=λj hj=>by
  have h1:=hX (j / k.size) (hdiv j hj);have fL:j % k.size<k.size:=xJ _ dx;have h2:=h1.2.1 _ fL;have e:off+j / k.size*k.size+j % k.size=off+j:=by rw[zu,Nat.div_add_mod']
  rw[e] at h2;have h3:j % k.size<(X (j / k.size)).2.length:=by rw[h1.1];exact fL
  refine⟨(X (j / k.size)).2[j % k.size],?_,?_,fun ρ m=>(h1.2.2.2.2 ρ m).2 _ _ _ (z8 h3) (z8 h3)⟩
  .grind
  .rw[h2,z8 h3]
 have qZ:∀ i,i<m->(c.drop (i*k.size)).take k.size=(X i).2:=λi hi=>by
  have h1:=hX i hi;have hle:i*k.size+k.size<=m*k.size:=by have:(i+1)*k.size<=m*k.size:=zn _ hi;rw[zI] at this;omega
  apply zT
  grind
 have aD:off+m*k.size<=C.size:=by
  rcases Nat.eq_zero_or_pos (m*k.size) with h0|h0
  .omega
  .obtain⟨v,_,h2,_⟩:=bI (m*k.size-1) (by omega);unfold World.cell? at h2
   grind
 obtain⟨hv,kf⟩:=h.add ⟨blk,off,m*k.size,⟨k.size,row⟩,false⟩ c aE aD (by simp[cz]) rfl (by grind);have hlen:((List.range len).map λi=>(X i).1).length=len:=by simp
 refine⟨_,_,[.slice (some ⟨U.n,0,none⟩) len m],(List.range len).map λi=>(X i).1,hv,kf,.one ?_,⟨_,rfl,.inr ⟨U.n,0,m,c,⟨k.size,row⟩,false,false,by rw[hlen],by rw[hlen];exact hl,Heap.q0a _ _,rfl,?_,?_⟩⟩,?_,λy hy=>?_⟩
 .refine .sl _ _ _ _ _ _ (by simp) λp hp=>?_;simp[Plc.put] at hp;subst hp;simp_all
 .rw[hlen,cz,zQ];exact zn _ hl
 .grind [Rows.range]
 .rw[hlen];exact zO hl hm
 grind
theorem View.listH {ρ:Plc}{U:Heap}(h:View w ρ U) {n:Nat}{k:Kind}{t e:TypeId}{fuel:Nat}{cs:List Value}{x:DataW H×List MemPlace}(hu:P.underlying t=some (.slice e)) (hs:P.cellsOf e=k.size) (hf:k.flat=true) (hk:KTy P n k e=true)
  (hx:DataW.trod enc P w 0 (λ_=>true) true fuel t cs=some x) (hA:∃ (b:Nat) (C:Array Value) (e:TypeId) (f:Nat×Nat),w.heap[b]?=some (Obj.cells C e f)):ArgIs w ρ U (.list k) cs:=by
 rcases open_slice hu hx with⟨rfl,_⟩|⟨a,len,cap,m,fu,D,Pl,rfl,hb,hl,hm,fM,_,hel⟩
 .exact⟨ρ,U,[.slice none 0 0],[],h,More.refl _ _,.one .nilSl,⟨_,rfl,.inl ⟨rfl,rfl⟩⟩,by simp[maxLen],λ_ hx=>by cases hx⟩
 simp only[zq] at fM;subst fM;rw[hs] at hel;have dx:=k.size_pos;by_cases bO:m=0
 .
  subst bO;obtain rfl:len=0:=by omega
  obtain⟨b0,C0,e0,f0,o_⟩:=hA;obtain⟨hv,kf⟩:=h.add ⟨b0,0,0,⟨k.size,e0⟩,false⟩ [] o_ (Nat.zero_le _) (z9 _) rfl (λj v hj=>by simp at hj);refine⟨_,_,[.slice (some ⟨U.n,0,none⟩) 0 0],[],hv,kf,.one ?_,⟨_,rfl,.inr ⟨U.n,0,0,[],⟨k.size,e0⟩,false,false,rfl,z9 _,Heap.q0a _ _,rfl,?_,?_⟩⟩,by simp[KWf],λy hy=>by cases hy⟩
  .refine .sl _ _ _ _ _ _ (by simp) (by omega)
  .simp
  .simpa using Rows.nil
 obtain⟨C,row,f,aE,a_,eX⟩:∃ C row f,w.heap[a.block]?=some (Obj.cells C row f)/\a.off<=C.size/\a.spot=none:=by
  obtain⟨cs',h1,_⟩:=hel 0 (by omega);obtain⟨_,c1,c2⟩:=World.cells?_some h1;have c3:=c2 0 dx;have e0:(a.add (0*k.size)).add 0=a:=by simp[Addr.add]
  rw[e0,z8 (by omega)] at c3;unfold World.cell? at c3;split at c3
  .rename_i C row f aE;split at c3
   .cases c3
   .rename_i hs;exact⟨C,row,f,aE,(by grind),by simpa using hs⟩
  .cases c3
 obtain⟨blk,off,spot⟩:=a;simp only at aE a_ eX;subst eX;have fH:∀ i,(⟨blk,off,none⟩:Addr).add i=⟨blk,off+i,none⟩:=λi=>by unfold Addr.add;split<;>simp_all
 obtain⟨X,hX⟩:=Tv (α:=k.T×List Value) (m:=m) (p:=λi p=>p.2.length=k.size/\(∀ j,j<k.size->w.cell? ⟨blk,off+i*k.size+j,none⟩=p.2[j]?)/\(∀ h,KC h k p.1 p.2)/\KWf k p.1/\∀ ρ m,LRel ρ m p.2 p.2) λi hi=>by
  obtain⟨cs',h1,h2⟩:=hel i hi;obtain⟨_,k1,k2⟩:=World.cells?_some h1;obtain⟨y,m1,m2,m3⟩:=Rs hk hf h2;refine⟨(y,cs'),k1,λj hj=>?_,m1,m2,m3⟩;have:=k2 j hj;rw[fH] at this;have e2:(⟨blk,off+i*k.size,none⟩:Addr).add j=⟨blk,off+i*k.size+j,none⟩:=by unfold Addr.add;split<;>simp_all
  rw[e2] at this;exact this
 let c:List Value:=(List.range (m*k.size)).map λj=>((X (j / k.size)).2[j % k.size]?).getD undef;have cz:c.length=m*k.size:=by simp[c]
 have hdiv:∀ j,j<m*k.size->j / k.size<m:=λj hj=>Nat.div_lt_of_lt_mul (by rw[wx];exact hj);have bI:∀ j,j<m*k.size->∃ v,c[j]?=some v/\w.cell? ⟨blk,off+j,none⟩=some v/\∀ ρ m,VRel ρ m v v:=λj hj=>by
  have h1:=hX (j / k.size) (hdiv j hj);have fL:j % k.size<k.size:=xJ _ dx;have h2:=h1.2.1 _ fL;have e:off+j / k.size*k.size+j % k.size=off+j:=by rw[zu,Nat.div_add_mod']
  rw[e] at h2;have h3:j % k.size<(X (j / k.size)).2.length:=by rw[h1.1];exact fL
  refine⟨(X (j / k.size)).2[j % k.size],?_,?_,fun ρ m=>(h1.2.2.2.2 ρ m).2 _ _ _ (z8 h3) (z8 h3)⟩
  .grind
  .rw[h2,z8 h3]
 have qZ:∀ i,i<m->(c.drop (i*k.size)).take k.size=(X i).2:=λi hi=>by
  have h1:=hX i hi;have hle:i*k.size+k.size<=m*k.size:=by have:(i+1)*k.size<=m*k.size:=zn _ hi;rw[zI] at this;omega
  apply zT
  grind
 have aD:off+m*k.size<=C.size:=by
  rcases Nat.eq_zero_or_pos (m*k.size) with h0|h0
  .omega
  .obtain⟨v,_,h2,_⟩:=bI (m*k.size-1) (by omega);unfold World.cell? at h2
   grind
 obtain⟨hv,kf⟩:=h.add ⟨blk,off,m*k.size,⟨k.size,row⟩,false⟩ c aE aD (by simp[cz]) rfl (by grind);have hlen:((List.range len).map λi=>(X i).1).length=len:=by simp
 refine⟨_,_,[.slice (some ⟨U.n,0,none⟩) len m],(List.range len).map λi=>(X i).1,hv,kf,.one ?_,⟨_,rfl,.inr ⟨U.n,0,m,c,⟨k.size,row⟩,false,false,by rw[hlen],by rw[hlen];exact hl,Heap.q0a _ _,rfl,?_,?_⟩⟩,?_,λy hy=>?_⟩
 .refine .sl _ _ _ _ _ _ (by simp) λp hp=>?_;simp[Plc.put] at hp;subst hp;simp_all
 .rw[hlen,cz,zQ];exact zn _ hl
 .grind [Rows.range]
 .rw[hlen];exact zO hl hm
 grind
theorem View.list2 {ρ:Plc}{U:Heap}(h:View w ρ U) {n:Nat}{k:Kind}{t e e2:TypeId}{fuel:Nat}{cs:List Value}{x:DataW H×List MemPlace}(hu:P.underlying t=some (.slice e)) (hs:P.cellsOf e=1)
  (lO:P.underlying e=some (.slice e2)) (bJ:P.cellsOf e2=k.size) (hf:k.flat=true) (hk:KTy P n k e2=true)
  (hx:DataW.trod enc P w 0 (λ_=>true) true fuel t cs=some x) (aq:okc P w r base [t] cs):ArgIs w ρ U (.list (.list k)) cs:=by
 rcases open_slice hu hx with⟨rfl,_⟩|⟨a,len,cap,m,fu,D,Pl,rfl,hb,hl,hm,fM,_,hel⟩
 .exact⟨ρ,U,[.slice none 0 0],[],h,More.refl _ _,.one .nilSl,⟨_,rfl,.inl ⟨rfl,rfl⟩⟩,by simp[maxLen],λ_ hx=>by cases hx⟩
 simp only[zq] at fM;subst fM;rw[hs] at hel;have lE:w.has P r base a e m:=by
  rcases Tj hu (aq 0 _ t rfl rfl) with hh|⟨a',qY,av,hh,h2⟩
  .cases hh
  .cases hh;exact h2
 obtain⟨C,row,f,aE,a_,eX⟩:=I8 lE;obtain⟨blk,off,spot⟩:=a;simp only at aE a_ eX;subst eX;have fH:∀ i,(⟨blk,off,none⟩:Addr).add i=⟨blk,off+i,none⟩:=λi=>by unfold Addr.add;split<;>simp_all
 have rows:∀ j,j<=m->∃ ρ' U',∃ vs:List Value,∃ xs:List (List k.T),View w ρ' U'/\More ρ U ρ' U'/\vs.length=j/\xs.length=j/\(∀ (i:Nat) v,vs[i]?=some v->∃ u,w.cell? ⟨blk,off+i,none⟩=some u/\VRel ρ' U'.n v u) /\
   Rows (KC U' (.list k)) xs vs/\∀ y∈xs,KWf (.list k) y:=by
  intro j;induction j with
  |zero=>exactλ_=>⟨ρ,U,[],[],h,More.refl _ _,rfl,rfl,λi v hi=>by simp at hi,.nil,λy hy=>by cases hy⟩
  |succ j ih =>
   intro hj;obtain⟨ρ1,σ1,vs,xs,k1,k2,k3,k4,k5,k6,k7⟩:=ih (by omega);obtain⟨cs',h1,h2⟩:=hel j (by omega);obtain⟨_,c1,c2⟩:=World.cells?_some h1;have c3:=c2 0 (by omega);obtain⟨u,rfl⟩:=zR.1 c1;have jQ:((⟨blk,off,none⟩:Addr).add (j*1)).add 0=⟨blk,off+j,none⟩:=by rw[fH,wA];unfold Addr.add;split<;>simp_all
   rw[jQ] at c3;have c4:w.cell? ⟨blk,off+j,none⟩=some u:=c3;obtain⟨ρ2,σ2,vv,y,m1,m2,m3,m4,m5⟩:=k1.listH lO bJ hf hk h2 ⟨blk,C,row,f,aE⟩;have mi:vv.length=1:=by obtain⟨v,rfl,_⟩:=m4;rfl
   obtain⟨v,rfl⟩:=zR.1 mi;refine⟨ρ2,σ2,vs++[v],xs++[y],m1,k2.trans m2,by rw[zk,k3];rfl,by rw[zk,k4];rfl,λi v' hi=>?_,?_,λz hz=>?_⟩
   .by_cases cy:i<vs.length
    .rw[x9 cy] at hi;obtain⟨u',g1,g2⟩:=k5 i v' hi;exact⟨u',g1,g2.mono m2.n m2.pl⟩
    .have hZ:i<(vs++[v]).length:=(zp.1 hi).1;rw[zk,xt] at hZ;have vq:i=j:=by omega
     subst vq;rw[xn (by omega),k3,wy] at hi;obtain rfl:=osj hi;exact⟨u,c4,m3.2 0 _ _ rfl rfl⟩
   .exact(k6.mono λ_ _ hc=>KC.mono m2.le hc).append (by simpa using Rows.cons m4 .nil)
   .grind
 obtain⟨ρ1,σ1,vs,xs,k1,k2,k3,k4,k5,k6,k7⟩:=rows m (z9 _);have aD:off+m<=C.size:=by
  rcases Nat.eq_zero_or_pos m with h0|h0
  .omega
  .obtain⟨u,h2,_⟩:=k5 (m-1) _ (z8 (by omega));unfold World.cell? at h2
   grind
 obtain⟨hv,kf⟩:=k1.add ⟨blk,off,m,⟨1,row⟩,false⟩ vs aE aD (by simp[k3]) rfl (λj v hj=>k5 j v hj);have hR:Rows (KC (σ1.push (.cells vs ⟨1,row⟩ false false)) (.list k)) xs vs:=k6.mono λ_ _ hc=>KC.mono kf.le hc;have hlen:(xs.take len).length=len:=by rw[wv,k4];omega
 have q_:(Kind.list k).size=1:=rfl;refine⟨_,_,[.slice (some ⟨σ1.n,0,none⟩) len m],xs.take len,hv,k2.trans kf,.one ?_,⟨_,rfl,.inr ⟨σ1.n,0,m,vs,⟨1,row⟩,false,false,by rw[hlen],by rw[hlen];exact hl,Heap.q0a _ _,rfl,?_,?_⟩⟩,?_,λy hy=>?_⟩
 .refine .sl _ _ _ _ _ _ (by simp) λp hp=>?_;simp[Plc.put] at hp;subst hp;simp_all
 .rw[q_,k3];omega
 .grind [Rows.take,KC.length]
 .rw[hlen];exact zO hl hm
 .exact k7 y (List.mem_of_mem_take hy)
def Kind.lev1:Kind->Bool
 |.list k=>k.flat||k.row
 |.pair a b=>a.lev1&&b.lev1
 |_=>true
theorem Q1n {ts:List TypeId}{cs:List Value}(h:okc P w r base ts cs) (o n:Nat):okc P w r base ((ts.drop o).take n) ((cs.drop o).take n):=λi v u h1 h2=>by
 have hi:i<n:=by
  grind
 rw[List.getElem?_take_of_lt hi,zZ] at h1 h2;exact h _ v u h1 h2
theorem RW {T:Kind->TypeId->Bool}{sz:TypeId->Nat}{g:TypeId->Option (List TypeId)}(hT:∀ k t ts,T k t=true->g t=some ts->ts.length=k.size) :
  ∀ {k:Kind}{L:List (TypeId×Nat)}{off:Nat}{gU:List (List TypeId)},KFs T sz k L off=true->L.mapM (λp=>g p.1)=some gU->∀ p∈L,off<=p.2/\g p.1=some ((gU.flatten.drop (p.2-off)).take (sz p.1))
 |k,[],_,_,h,_=>by simp[KFs] at h
 |k,[p],off,gU,h,hm=>by
  simp only[KFs,z0,zU] at h;intro p' hp;obtain rfl:=zS.1 hp;cases hg:g p'.1 with
  |none=>simp[hg] at hm
  |some ts =>
   simp[hg] at hm;subst hm;refine⟨by omega,?_⟩;rw[h.1,wy,xy,h.2.1,zL]
   .simp
   .simp[hT _ _ _ h.2.2 hg]
 |.pair a b,p::q::r,off,gU,h,hm=>by
  simp only[KFs,z0,zU] at h;rw[x6] at hm;intro p' hp;cases hg:g p.1 with
  |none=>simp[hg] at hm
  |some ts =>
   cases hr:(q::r).mapM (λp=>g p.1) with
   |none=>simp[hg,hr] at hm
   |some tr =>
    simp[hg,hr] at hm;subst hm;have hlen:=hT _ _ _ h.2.2.1 hg;rcases zH.1 hp with rfl|hp
    .simp_all
    .obtain⟨h1,h2⟩:=RW hT h.2.2.2 hr p' hp
     grind [List.drop_eq_nil_of_le,List.flatten_cons,List.drop_append]
 |.i _,_::_::_,_,_,h,_|.bo,_::_::_,_,_,h,_|.st,_::_::_,_,_,h,_|.list _,_::_::_,_,_,h,_=>by cases h
theorem EA:∀ {n:Nat}{k:Kind}{t:TypeId}{d:Nat}{ts:List TypeId}{fuel:Nat}{cs:List Value}{x:DataW H×List MemPlace},KTy P n k t=true->k.lev1=true->P.cellTypes d t=some ts->okc P w r base ts cs->DataW.trod enc P w 0 (λ_=>true) true fuel t cs=some x->∀ ρ U,View w ρ U->ArgIs w ρ U k cs
 |0,_,_,_,_,_,_,_,h,_,_,_,_=>by cases h
 |_+1,_,_,0,_,_,_,_,_,_,h,_,_=>by cases h
 |n+1,k,t,d+1,ts,fuel,cs,x,h,hf,eN,aq,hx=>by
  intro ρ U hv;by_cases gw:k.flat=true
  .obtain⟨y,h1,h2,h3⟩:=Rs h gw hx;exact⟨ρ,U,cs,y,hv,More.refl _ _,h3 _ _,h1 _,h2⟩
  unfold KTy at h;cases hu:P.underlying t with
  |none=>rw[hu] at h;cases h
  |some u =>
   rw[hu] at h;let Q:TypeId->List Value->Prop:=λt cs=>(∃ fuel x,DataW.trod enc P w 0 (λ_=>true) true fuel t cs=some x)/\∃ ts,P.cellTypes d t=some ts/\okc P w r base ts cs;let R:Kind->List Value->Prop:=λk cs=>k.lev1=true->∀ ρ U,View w ρ U->ArgIs w ρ U k cs;have hR:∀ a b cs ds,R a cs->R b ds->R (.pair a b) (cs++ds):=λa b cs ds h1 h2 hl ρ U hv=>by simp only[Kind.lev1,z0] at hl;exact(h1 hl.1 ρ U hv).pair fun ρ U hv=>h2 hl.2 ρ U hv
   have hT:∀ k t cs,KTy P n k t=true->Q t cs->R k cs:=λk t cs h1 ⟨⟨fuel,x,h2⟩,ts,h3,h4⟩ hl=>EA h1 hl h3 h4 h2;have hlen:∀ k t ts,KTy P n k t=true->P.cellTypes d t=some ts->ts.length=k.size:=λk t ts h1 h2=>OF h1 h2;unfold Program.cellTypes at eN;rw[hu] at eN;cases u<;>first|(cases h;done)|skip
   all_goals simp only at h
   .split at h<;>first|(cases h;done)|(exact absurd rfl gw)
   .split at h<;>first|(cases h;done)|(exact absurd rfl gw)
   .split at h<;>first|(cases h;done)|(exact absurd rfl gw)
   .rename_i e;split at h<;>first|(cases h;done)|skip
    simp only[z0,zU] at h;simp only[x8] at eN;subst eN;rcases zt _ _▸h.2.1 with hk|hk
    .exact hv.list hu h.1 hk h.2.2 hx aq
    .rename_i k';rw[z0] at hk;obtain⟨hk,gb⟩:=hk;cases k'<;>first|(cases hk;done)|skip
     rename_i k2;have h3:=h.2.2;unfold J24 at gb;split at gb<;>first|(cases gb;done)|skip
     rename_i e2 lO;cases n with
     |zero=>cases h3
     |succ n =>unfold KTy at h3;rw[lO] at h3;simp only[z0,zU] at h3;exact hv.list2 hu h.1 lO h3.1 hk h3.2.2 hx aq
   .rename_i m e;simp only[z0,zU] at h;obtain⟨xs,m',_,_,hl,fp,hx⟩:=DataW.trod_array hu hx;simp only at eN;cases hc:P.cellTypes d e with
    |none=>rw[hc] at eN;cases eN
    |some te =>
     rw[hc] at eN;obtain rfl:=osj eN;have mV:((List.range m).map λi=>(e,i*P.cellsOf e)).mapM (λp:TypeId×Nat=>P.cellTypes d p.1)=some (List.replicate m te):=by rw[BS,PH (x:=te) (λ_=>hc)];simp
     have:=HM (Q:=Q) (R:=R) hT hR cs h.2 (λp hp=>by
      have gP:=RW (g:=λt=>P.cellTypes d t) hlen h.2 mV p hp
      grind [List.getElem?_eq_getElem,Q1n]) hf ρ U hv
     rwa [xy,zL (by omega)] at this
   .rename_i fs;simp only[z0,zU] at h;obtain⟨xs,m',_,_,hl,fp,hx⟩:=DataW.trod_struct hu hx;simp only at eN;cases hc:fs.toList.mapM λf=>P.cellTypes d f.type with
    |none=>rw[hc] at eN;cases eN
    |some gU =>
     rw[hc] at eN;obtain rfl:=osj eN;have mV:(fs.toList.map λf=>(f.type,f.offset)).mapM (λp:TypeId×Nat=>P.cellTypes d p.1)=some gU:=by rw[BS];exact hc
     have:=HM (Q:=Q) (R:=R) hT hR cs h.2 (λp hp=>by
      have gP:=RW (g:=λt=>P.cellTypes d t) hlen h.2 mV p hp
      grind [Hn,Array.getElem?_eq_some_iff,List.getElem?_eq_getElem,Q1n]) hf ρ U hv
     rwa [xy,zL (by omega)] at this
def isAgg (P:Program) (t:TypeId):Bool:=match P.underlying t with
 |some (.struct _)=>true
 |some (.array _ _)=>true
 |_=>false
theorem View.arg {ρ:Plc}{U:Heap}(h:View w ρ U) {n:Nat}{k:Kind}{t:TypeId}{v:Value}{d:DataW H}{p:List MemPlace}(hk:KTy P n k t=true) (hl:k.lev1=true) (ha:isAgg P t=!k.one) (aq:Value.okWide P w r base t v) (hd:DataW.Trod enc P w 0 (λ_=>true) true t v d p) :
  ∃ ρ' U' vv x,View w ρ' U'/\More ρ U ρ' U'/\VRel ρ' U'.n vv v/\KV U' k x vv/\KWf k x:=by
 obtain⟨fuel,hd⟩:=hd;by_cases fX:isAgg P t=true
 .have bN:k.one=false:=by rw[fX] at ha;simpa using ha.symm
  have:∃ cs,v=.agg cs/\cs.size=P.cellsOf t/\Row.okWide P w r base t cs:=by
   unfold isAgg at fX;unfold Value.okWide at aq
   grind
  obtain⟨cs,rfl,aD,ts,eN,_,cO⟩:=this;have hlen:=OF hk eN;have aC:P.cellsOf t=k.size:=by
   unfold isAgg at fX;cases n with
   |zero=>cases hk
   |succ n =>
    unfold KTy at hk;split at fX<;>first|(cases fX;done)|skip
    all_goals
     rename_i hu;rw[hu] at hk;simp only[z0,zU] at hk;exact hk.1
  have lF:okc P w r base ts cs.toList:=λi v u h1 h2=>by
   grind [List.getElem?_eq_some_iff,Nat.mod_eq_of_lt,osj]
  obtain⟨ρ',U',vs,x,k1,k2,k3,k4,k5⟩:=EA hk hl eN lF (show DataW.trod enc P w 0 _ true fuel t cs.toList=_ from hd) ρ U h;exact⟨ρ',U',.agg vs.toArray,x,k1,k2,VRel.q1m (ds:=cs.toList) k3,.inr ⟨bN,vs,rfl,k4⟩,k5⟩
 .have bN:k.one=true:=by
   simp_all
  have iE:=Kind.q1r bN;have bI:Cell.okWide P w r base t v/\v.cells.toList=[v]:=by
   have h1:isAgg P t=false:=by simpa using fX
   unfold isAgg at h1;have h2:Cell.okWide P w r base t v:=by
    unfold Value.okWide at aq
    grind
   refine⟨h2,?_⟩;cases v<;>first|rfl|skip
   all_goals
    exfalso;cases n with
    |zero=>cases hk
    |succ n =>
     unfold KTy at hk;unfold Cell.okWide Cell.ok at h2;cases hu:P.underlying t with
     |none=>rw[hu] at hk;cases hk
     |some u =>rw[hu] at hk h2 h1;cases u<;>first|(cases hk;done)|(cases h1;done)|(cases h2;done)|(simp at h2;done)
  have eN:P.cellTypes 1 t=some [t]:=by
   have h1:isAgg P t=false:=by simpa using fX
   unfold isAgg at h1;unfold Program.cellTypes;cases n with
   |zero=>cases hk
   |succ n =>
    unfold KTy at hk;cases hu:P.underlying t with
    |none=>rw[hu] at hk;cases hk
    |some u =>rw[hu] at h1;cases u<;>first|rfl|(cases h1;done)
  rw[bI.2] at hd;have lF:okc P w r base [t] [v]:=λi v' u h1 h2=>by
   grind
  obtain⟨ρ',U',vs,x,k1,k2,k3,k4,k5⟩:=EA hk hl eN lF hd ρ U h;have:vs.length=1:=by rw[KC.length k4];exact iE
  obtain⟨vv,rfl⟩:=zR.1 this;exact⟨ρ',U',vv,x,k1,k2,k3.2 0 _ _ rfl rfl,.inl ⟨bN,k4⟩,k5⟩
def AWf:(ks:List Kind)->AT ks->Prop
 |[],_=>True
 |[k],x=>KWf k x
 |k::k'::ks,x=>KWf k x.1/\AWf (k'::ks) x.2
def Z2u (P:Program):List Kind->List TypeId->Bool
 |[],[]=>true
 |k::ks,t::ts=>(KTy P 8 k t&&(k.lev1&&(isAgg P t==!k.one)))&&Z2u P ks ts
 |_,_=>false
theorem View.args:∀ {ks:List Kind}{ts:List TypeId}{vs:List Value}{ds:List (DataW H)}{ps:List MemPlace}{ρ:Plc}{U:Heap},View w ρ U->Z2u P ks ts=true->(∀ (j:Nat) t v,ts[j]?=some t->vs[j]?=some v->Value.okWide P w r base t v)->DataW.TrodAll enc P w 0 (λ_=>true) true ts vs ds ps ->
  ∃ ρ' U' mc x,View w ρ' U'/\More ρ U ρ' U'/\LRel ρ' U'.n mc vs/\AH U' ks x mc/\AWf ks x
 |[],[],vs,ds,ps,ρ,U,h,_,_,hA=>by obtain⟨rfl,rfl,rfl⟩:=trodAll_nil hA;exact⟨ρ,U,[],(),h,More.refl _ _,.nil _ _,rfl,trivial⟩
 |[k],[t],vs,ds,ps,ρ,U,h,hk,hv,hA=>by obtain⟨v,cE,d,ds',p,q,rfl,rfl,rfl,h1,h2⟩:=trodAll_cons hA;obtain⟨rfl,rfl,rfl⟩:=trodAll_nil h2;simp only[Z2u,z0,zU] at hk;obtain⟨ρ',U',vv,x,k1,k2,k3,k4,k5⟩:=h.arg hk.1.1 hk.1.2.1 hk.1.2.2 (hv 0 t v rfl rfl) h1;exact⟨ρ',U',[vv],x,k1,k2,.one k3,⟨vv,rfl,k4⟩,k5⟩
 |k::k'::ks,t::ts,vs,ds,ps,ρ,U,h,hk,hv,hA=>by obtain⟨v,cE,d,ds',p,q,rfl,rfl,rfl,h1,h2⟩:=trodAll_cons hA;simp only[Z2u,z0,zU] at hk;obtain⟨ρ1,σ1,vv,x,k1,k2,k3,k4,k5⟩:=h.arg hk.1.1 hk.1.2.1 hk.1.2.2 (hv 0 t v rfl rfl) h1;obtain⟨ρ2,σ2,mc,y,m1,m2,m3,m4,m5⟩:=k1.args (ks:=k'::ks) hk.2 (λj t v h1 h2=>hv (j+1) t v h1 h2) h2;exact⟨ρ2,σ2,vv::mc,(x,y),m1,k2.trans m2,.cons (k3.mono m2.n m2.pl) m3,⟨vv,mc,rfl,k4.vcall m2.le,m4⟩,k5,m5⟩
 |[],_::_,_,_,_,_,_,_,hk,_,_|_::_,[],_,_,_,_,_,_,hk,_,_|[_],_::_::_,_,_,_,_,_,_,hk,_,_=>by simp[Z2u] at hk
theorem Q6m (hT:Z9o w) {f:Nat}{sp:CSp}(eX:OkC P f sp) (he:Y9 P f) {ks:List Kind}{ts:List TypeId}{args:Array Value}{ds:List (DataW H)}{ps:List MemPlace}(hk:Z2u P ks ts=true)
  (hv:∀ (j:Nat) t v,ts[j]?=some t->args.toList[j]?=some v->Value.okWide P w r base t v) (hA:DataW.TrodAll enc P w 0 (λ_=>true) true ts args.toList ds ps)
  (hs:∀ x:AT ks,AWf ks x->∃ c,sp (λ_ _=>none) (FC ks x)=some (c,.val .bo true,[])/\c):Calls P f args w λe w'=>e=.returned (.bool true)/\Below w.heap.size w w':=by
 obtain⟨ρ,U,mc,x,k1,k2,k3,k4,k5⟩:=(View.emptyT w hT).args hk hv hA;obtain⟨c,h1,h2⟩:=hs x k5;exact k1.calls k3 (eX.true he (Bm k4) h1 h2)
end
end Go.V
namespace Go.V
open Go
theorem Lo {H:Type}{enc:TypeId×Value->H}{P:Program}{w:World}{b:Nat}{sp:Nat->Bool}{hd:Bool}:∀ {ts:List TypeId}{vs:List Value}{ds:List (DataW H)}{ps:List MemPlace},DataW.TrodAll enc P w b sp hd ts vs ds ps->ds.length=ts.length
 |[],[],[],_,_=>rfl
 |t::ts,v::vs,d::ds,ps,h=>by obtain⟨p,q,_,h2,_⟩:=h;simp[Lo h2]
 |[],[],_::_,_,h|[],_::_,_,_,h|_::_,[],_,_,h|_::_,_::_,[],_,h=>h.elim
end Go.V
namespace Go.Proofs.Tryz
open Go Go.V
def J2b:List (Option FEnt):=[
 none,
 none,
 some (.code c2 [] 1),
 some (.code c3 [.tmp 6] 243),
 some (.code c4 [.tmp 6] 193),
 some (.code c5 [.cell 4 true 4] 49),
 some (.code c6 [.cell 2 true 2] 9),
 some (.code c7 [.tmp 6,.tmp 7,.tmp 8] 35),
 some (.code c8 [.tmp 6,.tmp 7] 38),
 some (.code c9 [.cell 2 true 4] 15),
 some (.codeJ c10 [.tmp 4,.tmp 5] 43),
 some (.code c11 [.cell 6 false 1,.tmp 7] 48),
 some (.code c12 [.cell 4 false 1,.tmp 5,.tmp 6] 44),
 some (.code c13 [.tmp 2,.tmp 3] 27),
 some (.code c14 [.tmp 4,.tmp 5] 47),
 some (.code c15 [.tmp 2] 6),
 some (.code c16 [.tmp 4] 26),
 some (.code c17 [.tmp 0] 52),
 some (.code c18 [.tmp 0] 54),
 some (.code c19 [.tmp 0] 70),
 some (.code c20 [.cell 4 true 2] 48),
 some (.code c21 [.tmp 6] 42),
 some (.code c22 [.cell 2 true 2,.tmp 3] 54),
 some (.code c23 [.cell 2 true 2,.tmp 3] 34),
 some (.code c24 [.cell 4 true 2] 60),
 some (.codeJ c25 [.tmp 6,.tmp 7,.tmp 8] 58),
 some (.code c26 [.tmp 2] 15),
 some (.code c27 [.cell 4 true 2,.tmp 5] 24),
 some (.code c28 [.tmp 2] 21),
 some (.code c29 [.tmp 4] 17),
 some (.code c30 [.tmp 0] 65),
 some (.code c31 [.cell 4 true 3,.tmp 5] 48),
 some (.code c32 [.tmp 4,.tmp 5] 34),
 some (.code c33 [.tmp 6] 18),
 some (.codeJ c34 [.tmp 4] 79),
 some (.code c35 [.tmp 2] 27),
 some (.code c36 [.tmp 2] 28),
 some (.code c37 [.tmp 4] 22),
 some (.code c38 [.tmp 4] 6),
 some (.code c39 [.tmp 3] 21),
 some (.code c40 [.tmp 6] 11),
 some (.code c41 [.tmp 2] 24),
 some (.code c42 [.tmp 4] 9),
 some (.code c43 [] 27),
 some (.code c44 [.tmp 4] 9),
 some (.code c45 [.tmp 2] 27),
 some (.code c46 [.cell 2 true 2] 21),
 some (.code c47 [.tmp 2] 9),
 some (.code c48 [.tmp 4] 14),
 some (.codeJ c49 [.cell 4 true 2,.tmp 5,.tmp 6] 78),
 some (.code c50 [.cell 0 true 4] 6),
 some (.code c51 [.cell 6 false 1,.cell 7 false 1,.cell 8 false 1] 35),
 some (.code c52 [.tmp 4,.tmp 5,.tmp 6] 78),
 some (.code c53 [.cell 6 true 2,.cell 7 true 2,.tmp 8,.tmp 9] 93),
 some (.code c54 [.cell 6 true 2] 62),
 some (.code c55 [.tmp 2] 6),
 some (.code c56 [.tmp 4] 10),
 some (.code c57 [.cell 2 true 3,.tmp 3] 43),
 some (.code c58 [.tmp 4] 12),
 some (.code c59 [.tmp 2] 4),
 some (.code c60 [.tmp 4] 10),
 some (.code c61 [.tmp 4] 20),
 some (.code c62 [.cell 2 true 2] 9),
 some (.code c63 [.tmp 4] 16),
 some (.code c64 [.cell 2 true 3,.tmp 3] 30),
 some (.code c65 [.tmp 6] 11),
 some (.code c66 [.tmp 4] 26),
 some (.code c67 [.tmp 6] 15),
 some (.code c68 [.cell 4 true 2] 11),
 some (.code c69 [.tmp 2] 36),
 some (.codeJ c70 [.tmp 2,.tmp 3] 49),
 some (.codeJ c71 [.tmp 6,.tmp 7] 29),
 some (.code c72 [.tmp 2] 31),
 some (.code c73 [.tmp 4] 27),
 some (.code c74 [.tmp 2] 35),
 some (.code c75 [.tmp 4] 21),
 some (.code c76 [.tmp 2] 8),
 some (.code c77 [.tmp 2] 8),
 some (.code c78 [] 9),
 some (.code c79 [.tmp 4] 12),
 some (.code c80 [.tmp 2] 8),
 some (.code c81 [.tmp 0] 3),
 some (.code c82 [.tmp 6] 11),
 some (.code c83 [.tmp 6] 11),
 some (.code c84 [.tmp 4] 17),
 some (.code c85 [.tmp 2] 4),
 some (.code c86 [.tmp 6] 17),
 some (.code c87 [.tmp 2] 14),
 some (.code c88 [] 37),
 some (.code c89 [.tmp 4] 9),
 some (.code c90 [.tmp 4] 13),
 some (.code c91 [.tmp 4] 19),
 some (.code c92 [] 96),
 some (.code c93 [.tmp 4] 26),
 some (.code c94 [.tmp 3] 19),
 some (.code c95 [.tmp 6] 11),
 some (.code c96 [.tmp 2] 6),
 some (.code c97 [.tmp 2] 14),
 some (.code c98 [.tmp 4] 48),
 some (.code c99 [.tmp 2] 32),
 some (.code J0g [.cell 6 true 3] 72),
 some (.code J1m [.cell 6 true 2,.cell 7 true 2] 20),
 some (.code J1l [.tmp 2] 5),
 some (.code J1i [] 14),
 some (.code J17 [] 16),
 some (.code J1w [.tmp 2] 6),
 some (.code J1g [.tmp 4] 16),
 some (.code J1x [.tmp 4] 13),
 some (.code J1r [.tmp 4] 13),
 some (.code J26 [.tmp 4] 25),
 some (.code J1k [.tmp 6,.tmp 7] 28),
 some (.code Z85 [.tmp 3] 22),
 some (.code Z8w [.tmp 4] 9),
 some (.code Z8o [.tmp 3] 9),
 some (.code J02 [.tmp 4] 80),
 some (.code Z9g [.tmp 4] 9),
 some (.code Z8g [] 63),
 some (.code Z7r [] 18),
 some (.code Z7u [] 36),
 some (.code Z7y [] 34),
 some (.code Z7o [] 35),
 some (.code Z7l [] 11),
 some (.code Z90 [.tmp 4] 13),
 some (.code Z8i [.tmp 4] 13),
 some (.code Z95 [] 20),
 some (.code Z9b [.tmp 4] 19),
 some (.code Z8f [.tmp 4] 13),
 some (.code J11 [.tmp 4,.tmp 5] 30),
 some (.code J2d [.tmp 2] 5),
 some (.code J27 [.tmp 4] 6),
 some (.code J0m [.cell 6 true 2] 45),
 some (.code J0e [.tmp 4] 74),
 some (.code J1p [.tmp 4] 13),
 some (.code J06 [] 148),
 some (.code J0k [.tmp 2] 8),
 some (.code J23 [.tmp 3] 17),
 some (.code J0y [.tmp 4] 9),
 some (.code J0t [.tmp 2] 26),
 some (.code J0l [.cell 6 false 1] 73),
 some (.code J2a [.cell 4 true 4,.tmp 5] 33),
 some (.code J0s [.tmp 4] 52),
 some (.code Z87 [.tmp 4] 19),
 some (.code J04 [.tmp 4] 19),
 some (.code Z9a [] 53),
 some (.code J25 [] 220),
 some .same,
 some (.code J21 [.tmp 4,.tmp 5] 17),
 some (.code J1y [.tmp 4,.tmp 5] 51),
 some (.code J1n [.tmp 4] 13),
 some (.code J1c [] 22),
 some (.code J1e [] 53),
 some (.code J0r [] 60),
 some (.code J1f [] 67),
 some (.code J0v [.tmp 8,.tmp 9] 63),
 some (.code J0p [] 34),
 some (.code J18 [.tmp 8] 141),
 some (.code J10 [.tmp 10] 90),
 some (.code J13 [.tmp 10,.tmp 11] 178),
 some (.code J2c [.tmp 2] 19),
 some (.code J07 [.tmp 2] 25),
 some (.code J0u [.tmp 4] 19),
 some (.code J1v [.tmp 2] 22),
 some (.code J0o [.tmp 4] 6),
 some (.code J0c [.tmp 3] 14),
 some (.code J1b [.tmp 6] 25),
 some (.code J1o [] 39),
 some (.code J1h [] 58),
 some (.code J19 [] 82),
 some (.code J1s [.tmp 2] 7),
 some (.code J0d [.tmp 2] 33),
 some (.code J1q [.tmp 8] 18),
 some (.code J0a [.tmp 12] 41),
 some (.code J12 [] 20),
 some (.code J05 [.tmp 2] 5),
 some (.code J09 [] 38),
 some (.code J1a [.tmp 10,.tmp 11] 32)]
def tab:Tab:=λf=>(J2b[f]?).join
theorem Z1k:EntsOk Tryz.prog 0 J2b:=⟨trivial,trivial,J2h,fun3,J2f,J1u,J08,J29,Z9z,J0n,Z64,Z3d,Z6u,Z52,Z6m,Z3w,Z6k,Z58,Z6s,Z4h,Z5d,Z9k,Z8u,J00,Z8m,Z8y,Z8z,Z9w,Z9y,Z9x,J01,Z6a,Z3z,Z75,Z28,Z7b,Z42,Z6r,Z5k,Z3g,Z7d,Z68,Z4l,Z4c,Z51,Z7e,Z3s,Z3i,Z3x,Z8r,Z9i,Z98,Z9c,Z8a,Z94,Z7z,Z82,Z99,Z88,Z8b,Z81,Z91,Z9m,Z8k,Z8v,Z9v,Z9p,Z8e,Z97,Z96,Z9e,Z9q,Z3f,Z6c,Z55,Z70,Z6y,Z2i,Z5v,Z69,Z77,Z1z,Z40,Z4b,Z6n,Z3v,Z4w,Z7f,Z6z,Z61,Z6v,Z5u,Z6o,Z63,Z4q,Z78,Z6h,Z6x,Z8s,Z9n,Z54,Z6q,Z53,Z39,Z7c,Z5y,Z59,Z4i,Z5t,Z35,Z4f,Z0v,Q9t,Z01,Z0s,Z03,Z0c,Q6h,Q5p,Q7a,Q6e,Q7d,Z0t,Z08,Z0b,Z0o,Z0q,Z3p,Z7i,Z3a,Z5q,Z43,Z62,Z6j,Z46,Z66,Z6e,Z4p,Z76,Z79,Z6p,Q9q,Q9w,Z0h,Z5a,OP,Z6b,Z3j,Z3e,Z5h,Z45,Z4z,Z44,Z7a,Z5m,Z3t,Z60,Z5g,Z6l,Z6t,Z4r,Z57,Z4m,Z4u,Z3m,Z3k,Z36,Z71,Z6i,Z4k,Z73,Z4n,Z4o,Z3y,Z4g,Z3q,trivial⟩
theorem Q79:TabOk Tryz.prog tab:=Q9e Z1k
end Go.Proofs.Tryz