/- A framework for walks, contracts of functions, and their proofs: part 5. -/
import Derived.Test.YtdjglebmapcdmaaGreatDoorB4
set_option linter.unusedVariables false
set_option maxRecDepth 100000
namespace Go.Proofs.Tryz
open Go Go.V Go.Proofs
theorem nI (n a b:Int):(!inI n a b)=(decide (n<a)||decide (b<n)):=by
 unfold inI
 grind
theorem Z6y {KK:Kind}{V:Type}(hk:∀ a b:KK.T,gq.keq KK a b=true<->a=b) (k:KK.T) (v:V) (e:KK.T) (d:V):∀ m:List (KK.T×V),(e=k->gq.aget KK (Dk KK m k v) e d=v/\gq.ahas KK (Dk KK m k v) e=true)/\(e≠k->gq.aget KK (Dk KK m k v) e d=gq.aget KK m e d/\gq.ahas KK (Dk KK m k v) e=gq.ahas KK m e)
 |[]=>by
  refine⟨λh=>?_,λh=>?_⟩
  .subst h;have:=(hk e e).2 rfl;exact⟨by show (if gq.keq KK e e=true then v else d)=v;rw[z2 this],by show (gq.keq KK e e||false)=true;rw[this];rfl⟩
  .have:gq.keq KK e k=false:=by
    grind
   exact⟨by show (if gq.keq KK e k=true then v else d)=d;rw[this,z0 (by decide)],by show (gq.keq KK e k||false)=false;rw[this];rfl⟩
 |(a,b)::m=>by
  obtain⟨i1,i2⟩:=Z6y hk k v e d m;have eP:Dk KK ((a,b)::m) k v=if gq.keq KK k a=true then (k,v)::m else (a,b)::Dk KK m k v:=rfl
  have eG:∀ (a:KK.T) (b:V) m,gq.aget KK ((a,b)::m) e d=if gq.keq KK e a=true then b else gq.aget KK m e d:=λ_ _ _=>rfl
  have eH:∀ (a:KK.T) (b:V) m,gq.ahas KK ((a,b)::m) e=(gq.keq KK e a||gq.ahas KK m e):=λ_ _ _=>rfl
  grind
def nxL (len:Nat) (lt b:Bool):Nat:=if b=lt then len+1 else 1
def nxF (len fi:Nat) (lt b:Bool):Nat:=if b=lt then fi else if fi=0 then len else fi
def Zp (row fx k:Nat) (b:Bool):Int:=if row.testBit k=b then 0 else if fx.testBit k=true then 1048576 else 1
def Z66 (B:Nat) (top:Bool) (len fi:Nat) (lt:Bool):Int:=if (fi=0\/(lt=top/\B<len+fi)) then 1048576 else 0
def brV (B len:Nat) (lt:Bool) (Z5z c:Int) (b:Bool):Int:=if nxL len lt b<=B then Q72 Z5z c else Z5z
def Qr (row fx B:Nat) (top:Bool):Nat->Nat->Nat->Bool->Int
 |0,len,fi,lt=>Z66 B top len fi lt
 |k+1,len,fi,lt=>brV B len lt (brV B len lt 1048576 (Zp row fx k false+Qr row fx B top k (nxL len lt false) (nxF len fi lt false) false) false) (Zp row fx k true+Qr row fx B top k (nxL len lt true) (nxF len fi lt true) true) true
def Sk (row fx B:Nat) (top:Bool) (f:Nat->Bool):Nat->Nat->Nat->Bool->Int
 |0,len,fi,lt=>Z66 B top len fi lt
 |k+1,len,fi,lt=>if nxL len lt (f k)<=B then Zp row fx k (f k)+Sk row fx B top f k (nxL len lt (f k)) (nxF len fi lt (f k)) (f k) else 1048576
theorem KL (a b:Int):Q72 a b=min a b:=by unfold Q72;split<;>omega
theorem WG (row fx k:Nat) (b:Bool):0<=Zp row fx k b/\Zp row fx k b<=1048576:=by unfold Zp;split;omega;split<;>omega
theorem UO (row fx B:Nat) (top:Bool):∀ k len fi lt,0<=Qr row fx B top k len fi lt/\Qr row fx B top k len fi lt<=1048576
 |0,len,fi,lt=>by unfold Qr Z66;split<;>omega
 |k+1,len,fi,lt=>by
  have h1:=UO row fx B top k (nxL len lt false) (nxF len fi lt false) false;have h2:=UO row fx B top k (nxL len lt true) (nxF len fi lt true) true;have c1:=WG row fx k false;have c2:=WG row fx k true;unfold Qr brV
  grind [KL]
theorem Ta {row fx B:Nat}{top:Bool}{f g:Nat->Bool}:∀ k len fi lt,(∀ j,j<k->f j=g j)->Sk row fx B top f k len fi lt=Sk row fx B top g k len fi lt
 |0,_,_,_,_=>rfl
 |k+1,len,fi,lt,h=>by unfold Sk;rw[h k (by omega),Ta k _ _ _ λj hj=>h j (by omega)]
theorem CY (row fx B:Nat) (top:Bool) (k len fi:Nat) (lt:Bool):(∀ b,nxL len lt b<=B->Qr row fx B top (k+1) len fi lt<=Zp row fx k b+Qr row fx B top k (nxL len lt b) (nxF len fi lt b) b) /\
  (Qr row fx B top (k+1) len fi lt<1048576->∃ b,nxL len lt b<=B/\Qr row fx B top (k+1) len fi lt=Zp row fx k b+Qr row fx B top k (nxL len lt b) (nxF len fi lt b) b):=by
 rw[Qr];unfold brV;simp only[KL];refine⟨λb hb=>?_,λh=>?_⟩
 .cases b<;>rw[z2 hb]<;>(try split)<;>omega
 grind
theorem Q2j (row fx B:Nat) (top:Bool) (f:Nat->Bool):∀ k len fi lt,Qr row fx B top k len fi lt<=Sk row fx B top f k len fi lt
 |0,_,_,_=>Int.le_refl _
 |k+1,len,fi,lt=>by
  unfold Sk;by_cases h:nxL len lt (f k)<=B
  .rw[z2 h];have h1:=(CY row fx B top k len fi lt).1 (f k) h;have h2:=Q2j row fx B top f k (nxL len lt (f k)) (nxF len fi lt (f k)) (f k);omega
  .rw[z0 h];exact(UO ..).2
def pkB (row fx B:Nat) (top:Bool) (k len fi:Nat) (lt:Bool):Bool:=!(decide (nxL len lt false<=B)&&decide (Zp row fx k false+Qr row fx B top k (nxL len lt false) (nxF len fi lt false) false=Qr row fx B top (k+1) len fi lt))
theorem Z3y {row fx B:Nat}{top:Bool}{k len fi:Nat}{lt:Bool}(h:Qr row fx B top (k+1) len fi lt<1048576):nxL len lt (pkB row fx B top k len fi lt)<=B/\Qr row fx B top (k+1) len fi lt=Zp row fx k (pkB row fx B top k len fi lt)+Qr row fx B top k (nxL len lt (pkB row fx B top k len fi lt)) (nxF len fi lt (pkB row fx B top k len fi lt)) (pkB row fx B top k len fi lt):=by
 obtain⟨b,h1,h2⟩:=(CY row fx B top k len fi lt).2 h;cases hp:pkB row fx B top k len fi lt with
 |false =>unfold pkB at hp;simp only[zH,z1,ze] at hp;exact⟨hp.1,hp.2.symm⟩
 |true =>
  cases b with
  |true=>exact⟨h1,h2⟩
  |false =>exfalso;unfold pkB at hp;rw[zL h1,zL h2.symm] at hp;cases hp
def Q48 (row fx B:Nat) (top:Bool):Nat->Nat->Nat->Bool->Nat
 |0,_,_,_=>0
 |k+1,len,fi,lt=>(if pkB row fx B top k len fi lt=true then 2 ^ k else 0)+Q48 row fx B top k (nxL len lt (pkB row fx B top k len fi lt)) (nxF len fi lt (pkB row fx B top k len fi lt)) (pkB row fx B top k len fi lt)
theorem Q33 (row fx B:Nat) (top:Bool):∀ k len fi lt,Q48 row fx B top k len fi lt<2 ^ k
 |0,_,_,_=>by simp[Q48]
 |k+1,len,fi,lt=>by unfold Q48;have:=Q33 row fx B top k (nxL len lt (pkB row fx B top k len fi lt)) (nxF len fi lt (pkB row fx B top k len fi lt)) (pkB row fx B top k len fi lt);rw[Nat.pow_succ];split<;>omega
theorem Q7u {k n:Nat}{b:Bool}(h:n<2 ^ k):((if b=true then 2 ^ k else 0)+n).testBit k=b/\∀ j,j<k->((if b=true then 2 ^ k else 0)+n).testBit j=n.testBit j:=by
 cases b with
 |false =>
  refine⟨?_,λj hj=>?_⟩
  .rw[z0 (by decide),zN,Nat.testBit_lt_two_pow h]
  .rw[z0 (by decide),zN]
 |true =>
  rw[z2 rfl];refine⟨?_,λj hj=>?_⟩
  .rw[Nat.testBit_two_pow_add_eq,Nat.testBit_lt_two_pow h];rfl
  .rw[Nat.testBit_two_pow_add_gt hj]
theorem Q1v {row fx B:Nat}{top:Bool}:∀ k len fi lt,Qr row fx B top k len fi lt<1048576->Sk row fx B top (Q48 row fx B top k len fi lt).testBit k len fi lt=Qr row fx B top k len fi lt
 |0,_,_,_,_=>rfl
 |k+1,len,fi,lt,h=>by
  obtain⟨h1,h2⟩:=Z3y h;rw[h2];unfold Q48 Sk;generalize pkB row fx B top k len fi lt=b at *
  have hc:=WG row fx k b;have ih:=Q1v (row:=row) (fx:=fx) (B:=B) (top:=top) k (nxL len lt b) (nxF len fi lt b) b (by omega);have hl:=Q33 row fx B top k (nxL len lt b) (nxF len fi lt b) b;generalize Q48 row fx B top k (nxL len lt b) (nxF len fi lt b) b=n at *
  obtain⟨t1,t2⟩:=Q7u (b:=b) hl;rw[t1,z2 h1,Ta k _ _ _ t2,ih]
def YV (row fx B H:Nat) (top:Bool):Int:=Zp row fx (H-1) top+Qr row fx B top (H-1) 1 0 top
def Tj (row fx B H:Nat):Bool:=decide (YV row fx B H true<Q72 (YV row fx B H false) 1048576)
def Kq (row fx B H:Nat):Int:=if Tj row fx B H=true then YV row fx B H true else Q72 (YV row fx B H false) 1048576
def Mp (row fx B H:Nat):Nat:=if Kq row fx B H<1048576 then (if Tj row fx B H=true then 2 ^ (H-1) else 0)+Q48 row fx B (Tj row fx B H) (H-1) 1 0 (Tj row fx B H) else 0
def okW (H B:Nat) (f:Nat->Bool):Prop:=∀ k,k<H->∃ j,1<=j/\j<=B/\f ((k+j) % H)≠f k
def vP (B:Nat) (top:Bool) (f:Nat->Bool):Nat->Nat->Nat->Bool->Prop
 |0,len,fi,lt=>¬ (fi=0\/(lt=top/\B<len+fi))
 |k+1,len,fi,lt=>nxL len lt (f k)<=B/\vP B top f k (nxL len lt (f k)) (nxF len fi lt (f k)) (f k)
def cS (row fx:Nat) (f:Nat->Bool):Nat->Int
 |0=>0
 |k+1=>Zp row fx k (f k)+cS row fx f k
theorem Z6j (row fx:Nat) (f:Nat->Bool):∀ k,0<=cS row fx f k
 |0=>Int.le_refl _
 |k+1=>by have:=Z6j row fx f k;have:=WG row fx k (f k);unfold cS;omega
theorem Ig {row fx B:Nat}{top:Bool}{f:Nat->Bool}:∀ k len fi lt,(vP B top f k len fi lt->Sk row fx B top f k len fi lt=cS row fx f k)/\(¬ vP B top f k len fi lt->1048576<=Sk row fx B top f k len fi lt)
 |0,len,fi,lt=>by
  unfold vP Sk Z66 cS
  grind
 |k+1,len,fi,lt=>by
  obtain⟨h1,h2⟩:=Ig (row:=row) (fx:=fx) (B:=B) (top:=top) (f:=f) k (nxL len lt (f k)) (nxF len fi lt (f k)) (f k);have hc:=WG row fx k (f k);unfold vP Sk cS
  grind
def StB (H:Nat) (f:Nat->Bool) (k len fi:Nat):Prop:=1<=len/\k+len<=H/\(∀ j,j<len->f (k+j)=f k) /\
 (fi=0/\k+len=H\/1<=fi/\k+len+fi<=H/\f (k+len)≠f k/\(∀ j,j<fi->f (H-1-j)=f (H-1))/\f (H-1-fi)≠f (H-1))
theorem Q4w {H:Nat}{f:Nat->Bool}{k len fi:Nat}(h:StB H f (k+1) len fi):StB H f k (nxL len (f (k+1)) (f k)) (nxF len fi (f (k+1)) (f k)):=by
 obtain⟨h1,h2,h3,h4⟩:=h;unfold nxL nxF;by_cases e:f k=f (k+1)
 .rw[z2 e,z2 e];refine⟨by omega,by omega,λj hj=>?_,?_⟩
  .cases j with
   |zero=>rfl
   |succ j =>have:=h3 j (by omega);rw[show k+(j+1)=k+1+j by omega,this,e]
  grind
 .rw[z0 e,z0 e];refine⟨by omega,by omega,(by simp_all),.inr ?_⟩;rcases h4 with⟨a,b⟩|⟨a,b,c,d,g⟩
  .rw[z2 a];have ht:∀ j,j<len->f (H-1-j)=f (k+1):=λj hj=>by
    have:=h3 (len-1-j) (by omega)
    grind
   grind
  grind
theorem Z42 {H B:Nat}{f:Nat->Bool}(hB:1<=B):∀ k len fi,StB H f k len fi->len<=B->vP B (f (H-1)) f k len fi (f k)->(∀ i,k<=i->i+B<H->∃ j,1<=j/\j<=B/\f (i+j)≠f i)->okW H B f
 |0,len,fi,hs,hl,hv,hw=>by
  obtain⟨h1,h2,h3,h4⟩:=hs;unfold vP at hv;rcases h4 with⟨a,b⟩|⟨a,b,c,d,g⟩
  .exact(hv (.inl a)).elim
  intro i hi;by_cases e:i+B<H
  .obtain⟨j,j1,j2,j3⟩:=hw i (by omega) e;exact⟨j,j1,j2,by rw[zE (by omega)];exact j3⟩
  .apply Classical.byContradiction;intro hn;have hall:∀ j,1<=j->j<=B->f ((i+j) % H)=f i:=(by simp_all);have et:f (H-1)=f i:=by
    by_cases e2:i=H-1
    .rw[<-e2]
    .have:=hall (H-1-i) (by omega) (by omega);rw[zE (by omega),show i+(H-1-i)=H-1 by omega] at this;exact this
   have e0:f 0=f i:=by have:=hall (H-i) (by omega) (by omega);rw[show i+(H-i)=H by omega,Nat.mod_self] at this;exact this
   have hle:len+fi<=B:=by simp_all
   have iJ:H<=i+fi:=by
    apply Classical.byContradiction;intro h;by_cases e2:i=H-1-fi
    .rw[<-e2,et] at g;exact g rfl
    .have:=hall (H-1-fi-i) (by omega) (by omega);rw[zE (by omega),show i+(H-1-fi-i)=H-1-fi by omega] at this;exact g (by rw[this,et])
   have:=hall (H-i+len) (by omega) (by omega);rw[show i+(H-i+len)=len+H by omega,Nat.add_mod_right,zE (by omega)] at this;simp_all
 |k+1,len,fi,hs,hl,hv,hw=>by
  unfold vP at hv;have cI:=Q4w hs;refine Z42 hB k _ _ cI hv.1 hv.2 λi hi kV=>?_;by_cases e:i=k
  .subst e;obtain⟨h1,h2,h3,h4⟩:=cI
   grind
  .exact hw i (by omega) kV
theorem Z3f {H B:Nat}{f:Nat->Bool}(ho:okW H B f):∀ k len fi,StB H f k len fi->vP B (f (H-1)) f k len fi (f k)
 |0,len,fi,hs=>by
  obtain⟨h1,h2,h3,h4⟩:=hs;unfold vP;rcases h4 with⟨a,b⟩|⟨a,b,c,d,g⟩
  .exfalso;obtain⟨j,j1,j2,j3⟩:=ho 0 (by omega);have hm:=x6 (0+j) (show 0<H by omega);simp_all
  .rintro (h|⟨h,h5⟩)
   .omega
   .obtain⟨j,j1,j2,j3⟩:=ho (H-fi) (by omega);have ht:f (H-fi)=f (H-1):=by
     have:=d (fi-1) (by omega)
     grind
    by_cases e:j<fi
    .rw[zE (by omega),ht] at j3;have:=d (fi-1-j) (by omega)
     grind
    .have e2:(H-fi+j) % H=j-fi:=by
      rw[show H-fi+j=(j-fi)+H by omega,Nat.add_mod_right,zE (by omega)]
     grind
 |k+1,len,fi,hs=>by
  have cI:=Q4w hs;unfold vP;refine⟨?_,Z3f ho k _ _ cI⟩;obtain⟨h1,h2,h3,-⟩:=cI;generalize nxL len (f (k+1)) (f k)=nT at *
  apply Classical.byContradiction;intro hn;obtain⟨j,j1,j2,j3⟩:=ho k (by omega);rw[zE (by omega)] at j3;exact j3 (h3 j (by omega))
theorem Z7d {H B:Nat}{f:Nat->Bool}(hH:1<=H) (hB:1<=B):vP B (f (H-1)) f (H-1) 1 0 (f (H-1))<->okW H B f:=by
 have hs:StB H f (H-1) 1 0:=⟨z5 _,by omega,(by simp_all),.inl ⟨rfl,by omega⟩⟩
 grind [Z42,Z3f]
def Z2n (row fx B H:Nat) (f:Nat->Bool):Int:=Zp row fx (H-1) (f (H-1))+Sk row fx B (f (H-1)) f (H-1) 1 0 (f (H-1))
theorem Z3w {row fx B H:Nat}{f:Nat->Bool}(hH:1<=H) (hB:1<=B):(okW H B f->Z2n row fx B H f=cS row fx f H)/\(¬ okW H B f->1048576<=Z2n row fx B H f):=by obtain⟨h1,h2⟩:=Ig (row:=row) (fx:=fx) (B:=B) (top:=f (H-1)) (f:=f) (H-1) 1 0 (f (H-1));rw[Z7d hH hB] at h1 h2;have hc:=WG row fx (H-1) (f (H-1));unfold Z2n;refine⟨λh=>?_,λh=>by have:=h2 h;omega⟩;rw[h1 h];obtain⟨m,rfl⟩:∃ m,H=m+1:=⟨H-1,by omega⟩;rfl
theorem Z4y {row fx B H:Nat}(f:Nat->Bool):Kq row fx B H<=Z2n row fx B H f\/1048576<=Z2n row fx B H f:=by
 have h1:=Q2j row fx B (f (H-1)) f (H-1) 1 0 (f (H-1));have hs:YV row fx B H (f (H-1))<=Z2n row fx B H f:=by unfold YV Z2n;omega
 unfold Kq Tj;rw[KL];by_cases c:YV row fx B H true<min (YV row fx B H false) 1048576
 .rw[zL c,z2 rfl];cases hf:f (H-1) with
  |true=>rw[hf] at hs;exact .inl hs
  |false=>rw[hf] at hs;left;omega
 .rw[xL c,z0 (by decide)];cases hf:f (H-1) with
  |true=>rw[hf] at hs;omega
  |false=>rw[hf] at hs;left;omega
theorem Z1v {row fx B H:Nat}(hH:1<=H) (h:Kq row fx B H<1048576):Mp row fx B H<2 ^ H/\Z2n row fx B H (Mp row fx B H).testBit=Kq row fx B H:=by
 have aY:Kq row fx B H=YV row fx B H (Tj row fx B H):=by
  unfold Kq at h |-;cases ht:Tj row fx B H with
  |true=>rw[z2 rfl]
  |false =>rw[ht,z0 (by decide),KL] at h;rw[z0 (by decide),KL];omega
 unfold Mp;rw[z2 h];rw[aY] at h |-;generalize Tj row fx B H=b at *
 have hl:=Q33 row fx B b (H-1) 1 0 b;have hc:=WG row fx (H-1) b;have hp:=Q1v (row:=row) (fx:=fx) (B:=B) (top:=b) (H-1) 1 0 b (by unfold YV at h;omega);obtain⟨t1,t2⟩:=Q7u (b:=b) hl;refine⟨?_,?_⟩
 .obtain⟨m,rfl⟩:∃ m,H=m+1:=⟨H-1,by omega⟩
  grind
 .unfold Z2n YV
  grind [Ta]
theorem Q9n {row fx:Nat}{f:Nat->Bool}:∀ k,(cS row fx f k<1048576->∀ j,j<k->fx.testBit j=true->f j=row.testBit j)/\((∀ j,j<k->fx.testBit j=true->f j=row.testBit j)->cS row fx f k<=k)
 |0=>⟨λ_ j hj=>by omega,λ_=>by simp[cS]⟩
 |k+1=>by
  obtain⟨h1,h2⟩:=Q9n (row:=row) (fx:=fx) (f:=f) k;have hn:=Z6j row fx f k;have hc:=WG row fx k (f k);refine⟨λh j hj hx=>?_,λh=>?_⟩
  .unfold cS at h;by_cases e:j=k
   .subst e;unfold Zp at h
    grind
   .exact h1 (by omega) j (by omega) hx
  .have:=h2 λj hj=>h j (by omega);unfold cS Zp
   grind
theorem Q2t {row fx B H:Nat}(hH:1<=H/\H<=24) (hB:1<=B) (h:Kq row fx B H<1048576):Mp row fx B H<2 ^ H/\okW H B (Mp row fx B H).testBit/\(∀ j,j<H->fx.testBit j=true->(Mp row fx B H).testBit j=row.testBit j)/\Kq row fx B H=cS row fx (Mp row fx B H).testBit H:=by
 obtain⟨h1,h2⟩:=Z1v hH.1 h;obtain⟨t1,t2⟩:=Z3w (row:=row) (fx:=fx) (f:=(Mp row fx B H).testBit) hH.1 hB;have ho:okW H B (Mp row fx B H).testBit:=(by grind)
 grind [Q9n]
theorem bind_none {row fx B H:Nat}(hH:1<=H/\H<=24) (hB:1<=B) {f:Nat->Bool}(ho:okW H B f) (hf:∀ j,j<H->fx.testBit j=true->f j=row.testBit j):Kq row fx B H<1048576:=by have e:=(Z3w (row:=row) (fx:=fx) (f:=f) hH.1 hB).1 ho;have hc:=(Q9n (row:=row) (fx:=fx) (f:=f) H).2 hf;rcases Z4y (row:=row) (fx:=fx) (B:=B) (H:=H) f with h|h<;>omega
def PA (ln:Int) (lt b:Bool):Int:=if b=lt then ln+1 else 1
def Es (ln fi:Int) (lt b:Bool):Int:=if b=lt then fi else if fi=0 then ln else fi
theorem Q4n (n:Nat) (lt b:Bool):PA (n:Int) lt b=((nxL n lt b:Nat):Int):=by unfold PA nxL;split<;>simp
theorem Q45 (n m:Nat) (lt b:Bool):Es (n:Int) (m:Int) lt b=((nxF n m lt b:Nat):Int):=by
 unfold Es nxF
 grind
theorem Q80 {n B:Nat}{lt b:Bool}(h:1<=n):1<=nxL n lt b/\nxL n lt b<=n+1:=by unfold nxL;split<;>omega
theorem Q90 {n m B:Nat}{lt b:Bool}(h:n<=B) (h2:m<=B):nxF n m lt b<=B:=by unfold nxF;split;exact h2;split<;>omega
abbrev BKk:Kind:=.pair (.i .i64) (.pair (.i .i64) (.pair (.i .i64) .bo))
def EF (rw fx bd:Int) (tp:Bool) (m:List ((Int×Int×Int×Bool)×Int)):Prop:=∀ k:Int×Int×Int×Bool,gq.ahas BKk m k=true->gq.aget BKk m k 0=Qr rw.toNat fx.toNat bd.toNat tp k.1.toNat k.2.1.toNat k.2.2.1.toNat k.2.2.2
def Q2y (hd:Int) (rows aA:List Int) (bd:Int) (k:Nat):Int:=Kq (rows.getD k 0).toNat (aA.getD k 0).toNat bd.toNat hd.toNat
def Z7u (hd:Int) (rows aA:List Int) (bd:Int) (k:Nat):Int:=((Mp (rows.getD k 0).toNat (aA.getD k 0).toNat bd.toNat hd.toNat:Nat):Int)
def PI (hd:Int) (rows aA:List Int) (bd:Int):Bool:=(List.range rows.length).any λk=>decide (1048576<=Q2y hd rows aA bd k)
def Q6 (hd:Int) (rows aA:List Int) (bd:Int):Int:=if Qb hd rows≠0 then Qb hd rows else if aA.length≠rows.length then 4 else if (aA.any λn=>!inI n 0 (2 ^ hd.toNat-1))=true then 2 else if inI bd 1 24=false then 3 else if PI hd rows aA bd=true then 9 else 0
def Rm (hd:Int) (rows aA:List Int) (bd:Int) (n:Nat):List Int:=(List.range n).map (Z7u hd rows aA bd)
def Hd (hd:Int) (rows aA:List Int) (bd:Int):Nat->Int
 |0=>0
 |n+1=>Hd hd rows aA bd n+Q2y hd rows aA bd n
def QJ (hd:Int) (rows aA:List Int) (bd:Int):List Int:=if Q6 hd rows aA bd=0 then Rm hd rows aA bd rows.length else []
def DQ (hd:Int) (rows aA:List Int) (bd:Int):Int:=if Q6 hd rows aA bd=0 then Hd hd rows aA bd rows.length else 0
theorem Q6e (hd:Int) (rows aA:List Int) (bd:Int) (n:Nat):Rm hd rows aA bd (n+1)=Rm hd rows aA bd n++[Z7u hd rows aA bd n]:=by simp[Rm,List.range_succ]
theorem E6 (hd:Int) (rows aA:List Int) (bd:Int) (n:Nat):(Rm hd rows aA bd n).length=n:=by simp[Rm]
theorem Z74 (a b:BKk.T):gq.keq BKk a b=true<->a=b:=by obtain⟨a1,a2,a3,a4⟩:=a;obtain⟨b1,b2,b3,b4⟩:=b;show ((a1==b1)&&((a2==b2)&&((a3==b3)&&(a4==b4))))=true<->_;simp_all
theorem O0 (rw_ fx bd:Int) (tp:Bool):EF rw_ fx bd tp []:=λk h=>by cases h
theorem Z3b {rw_ fx bd:Int}{tp:Bool}{m:List ((Int×Int×Int×Bool)×Int)}{k:Int×Int×Int×Bool}{v:Int}(h:EF rw_ fx bd tp m) (hv:v=Qr rw_.toNat fx.toNat bd.toNat tp k.1.toNat k.2.1.toNat k.2.2.1.toNat k.2.2.2):EF rw_ fx bd tp (Dk BKk m k v):=λe he=>by
 obtain⟨h1,h2⟩:=Z6y Z74 k v e (0:Int) m;by_cases c:e=k
 .rw[(h1 c).1,c];exact hv
 .rw[(h2 c).2] at he;rw[(h2 c).1];exact h e he
theorem J14 {hd:Int}{rows:List Int}(h:Qb hd rows=0):1<=hd/\hd<=24/\rows.length<=60/\rows.length≠0/\∀ x∈rows,0<=x/\x<2 ^ hd.toNat:=by
 unfold Qb at h;split at h
 .cases h
 .rename_i h1;split at h
  .cases h
  .rename_i h2;split at h
   .cases h
   .rename_i h3;split at h
    .cases h
    .rename_i h4;have h1:1<=hd/\hd<=24:=by simpa [inI] using h1
     refine⟨h1.1,h1.2,by omega,h3,λx hx=>?_⟩;have h5:∀ x∈rows,inI x 0 (2 ^ hd.toNat-1)=true:=by simpa using h4
     have:=h5 x hx;simp only[inI,z1,ze] at this;omega
def Mw:AL (Int×Int×Int):=(.cons (.k (.i .i64)) (.cons (.ptr (.one (.k (.i .i64)))) (.one (.ptr (.one (.k (.i .i64)))))))
def Rc (d:Int×Int×Int):Prop:=True
def Nk (d:Int×Int×Int):SV:=.val .bo (decide (d.1<d.2.1)||decide (d.2.2<d.1))
def N9 (d:Int×Int×Int):List OB:=[]
def Vf:CSp:=XD Mw Rc Nk N9
def Kf (n:Int) (a:Int) (b:Int):Prop :=
 (((decide (n<a))||(decide (n > b)))=(decide (n<a)||decide (b<n))/\(True))
def M5:Cx:=⟨[],[],13,[],0,[],[],[],[],false,[],[],[],[]⟩
def S7 (n:Int) (a:Int) (b:Int):List (Nat×LoopAnn):=[]
theorem Sq (d:Int×Int×Int):gwp (M5) (S7 d.1 d.2.1 d.2.2) c43 0 (Wj [.tmp 4] (Nk d) (N9 d)) (Qp 13 (AL.can Mw d))=Kf d.1 d.2.1 d.2.2:=by kernel_rfl
abbrev S4:Prop:=OkC Tryz.prog 43 Vf
theorem Sg (h:∀ (n:Int) (a:Int) (b:Int),(True)->Kf n a b):OkC Tryz.prog 43 Vf :=
 Qs J0n mixed (C:=M5) (V:=λ(d:Int×Int×Int)=>Kf d.1 d.2.1 d.2.2) ⟨.nil,XsOk.nil,ItsOk.nil,YlOk.nil,IysOk.nil,XfOk.nil⟩ (Sq) λd hp=>h d.1 d.2.1 d.2.2 hp
theorem So:S4:=Sg λn a b _=>by exact⟨rfl,trivial⟩
def B_:AL (Int×Int×List Int):=(.cons (.k (.i .i64)) (.cons (.k (.i .i64)) (.one (.k (.list (.i .i64))))))
def L7 (d:Int×Int×List Int):Prop:=d.2.2.length<=1000000
def D6 (d:Int×Int×List Int):SV:=.val .bo (!(d.2.2.any λn=>decide (n<d.1)||decide (d.2.1<n)))
def GV (d:Int×Int×List Int):List OB:=[]
def Xi:CSp:=XD B_ L7 D6 GV
def Uw (a:Int) (b:Int) (l:List Int):Prop :=
 (l.length<=1000000/\∀ x∈l,(λ(x1:Int)=>True) x)/\((!(l.any (λ(x1:Int)=>(decide (x1<a)||decide (b<x1)))))=(!(l.any λn=>decide (n<a)||decide (b<n)))/\(True))
def Ba:Cx:=⟨[],[(42,QF),(43,Vf)],11,[],0,[],[],[],[],false,[],[],[],[]⟩
def A0 (a:Int) (b:Int) (l:List Int):List (Nat×LoopAnn):=[]
theorem Aa (d:Int×Int×List Int):gwp (Ba) (A0 d.1 d.2.1 d.2.2) c21 0 (Wj [.tmp 6] (D6 d) (GV d)) (Qp 11 (AL.can B_ d))=Uw d.1 d.2.1 d.2.2:=by kernel_rfl
abbrev Ep:Prop:=OkC Tryz.prog 21 Xi
theorem E9 (h:∀ (a:Int) (b:Int) (l:List Int),(l.length<=1000000)->Uw a b l):OkC Tryz.prog 21 Xi :=
 Qs J0o mixed (C:=Ba) (V:=λ(d:Int×Int×List Int)=>Uw d.1 d.2.1 d.2.2) ⟨(.cons Zz (.cons So .nil)),XsOk.nil,ItsOk.nil,YlOk.nil,IysOk.nil,XfOk.nil⟩ (Aa) λd hp=>h d.1 d.2.1 d.2.2 hp
theorem Yk:Ep:=E9 λa b l h=>by exact⟨⟨h,λ_ _=>trivial⟩,rfl,trivial⟩
def P5:AL (Int×List Int):=(.one (.agg (.cons (.k (.i .i64)) (.one (.k (.list (.i .i64)))))))
def E8 (d:Int×List Int):Prop:=d.2.length<=1000000
def By (d:Int×List Int):SV:=.val (.i .i64) (Qb d.1 d.2)
def BR (d:Int×List Int):List OB:=[]
def X9:CSp:=XD P5 E8 By BR
def Ku (hd:Int) (rows:List Int):Prop :=
 ([hd].length<=1000000)/\((!(!([hd].any λn=>decide (n<(1:Int))||decide ((24:Int)<n))))=true ->
  ((2:Int)=(Qb hd rows)/\(True))) /\
 ((!(!([hd].any λn=>decide (n<(1:Int))||decide ((24:Int)<n))))=false ->
  ((decide ((lI rows) > (60:Int)))=true ->
   ((5:Int)=(Qb hd rows)/\(True))) /\
  ((decide ((lI rows) > (60:Int)))=false ->
   (((lI rows)==(0:Int))=true ->
    ((7:Int)=(Qb hd rows)/\(True))) /\
   (((lI rows)==(0:Int))=false ->
    (0<=hd)/\(I64 (Wk .i64 (1:Int) hd))/\(I64 ((Wk .i64 (1:Int) hd)-(1:Int)))/\(rows.length<=1000000)/\((!(!(rows.any λn=>decide (n<(0:Int))||decide (((Wk .i64 (1:Int) hd)-(1:Int))<n))))=true ->
     ((2:Int)=(Qb hd rows)/\(True))) /\
    ((!(!(rows.any λn=>decide (n<(0:Int))||decide (((Wk .i64 (1:Int) hd)-(1:Int))<n))))=false ->
     ((0:Int)=(Qb hd rows)/\(True))))))
def Pa:Cx:=⟨[(3,(.i .i64))],[(21,Xi)],28,[],0,[],[],[],[],false,[],[],[],[]⟩
def Ex (hd:Int) (rows:List Int):List (Nat×LoopAnn):=[]
theorem FX (d:Int×List Int):gwp (Pa) (Ex d.1 d.2) c20 0 (Wj [.tmp 2] (By d) (BR d)) (Qp 28 (AL.can P5 d))=Ku d.1 d.2:=by kernel_rfl
abbrev F3:Prop:=OkC Tryz.prog 20 X9
theorem Fv (h:∀ (hd:Int) (rows:List Int),(rows.length<=1000000)->Ku hd rows):OkC Tryz.prog 20 X9 :=
 Qs Z9b mixed (C:=Pa) (V:=λ(d:Int×List Int)=>Ku d.1 d.2) ⟨(.cons Yk .nil),XsOk.nil,ItsOk.nil,YlOk.nil,IysOk.nil,XfOk.nil⟩ (FX) λd hp=>h d.1 d.2 hp
theorem Q7w {h:Int}(h1:0<=h) (h2:h<=62):Wk .i64 1 h=2 ^ h.toNat:=by obtain⟨n,rfl⟩:=z8 h1;have:Nat.min n 64=n:=xF (by omega);simp only[Wk,z4,IntKind.bits,this,Int.one_mul]
theorem Mb {h:Int}(h1:1<=h) (h2:h<=24):(2:Int)<=2 ^ h.toNat/\(2:Int) ^ h.toNat<=16777216:=by
 obtain⟨n,rfl⟩:=z8 (show 0<=h by omega);have a1:2 ^ 1<=2 ^ n:=(by grind);have a2:2 ^ n<=2 ^ 24:=Nat.pow_le_pow_right (by omega) (by omega)
 grind
theorem WA:F3:=Fv λhd rows hl=>by
 unfold Ku;(try delta lI gD sT I64 Q2 pj8 pj4);simp only[true_and,and_true,eq_self_iff_true,exists_eq_left',exists_const,ze,zG,zD,bne_iff_ne,ne_eq,zW,bne_eq_false_iff_eq,Bool.not_eq_true',zH,z_,xH,z4,Int.ofNat_lt,gt_iff_lt,ge_iff_le,Bool.not_not];simp only[<-nI];refine⟨by simp,λh1=>by simp at h1;simp[Qb,h1],λh1=>⟨λh2=>?_,λh2=>⟨λh3=>?_,λh3=>?_⟩⟩⟩;all_goals simp only[List.any_cons,List.any_nil,xN,zH] at h1
 .have:60<rows.length:=by omega
  simp[Qb,h1,this]
 .have h3:rows.length=0:=by omega
  simp[Qb,h1,h3]
 have oH:¬ 60<rows.length:=by omega
 have iM:¬ rows.length=0:=by omega
 have hi:1<=hd/\hd<=24:=by simpa [inI] using h1
 have hp:=Mb hi.1 hi.2;have uB:Qb hd rows=if rows.any (λx=>!inI x 0 (2 ^ hd.toNat-1)) then 2 else 0:=by simp only[Qb,h1,oH,iM];simp
 rw[uB];simp only[Q7,Q7w (show 0<=hd by omega) (by omega)]
 grind
theorem Od {x h:Int}(hx:0<=x/\x<16777216) (h0:0<=h/\h<=24):((Qf .and .i64 (Zg .i64 x h) 1)==1)=x.toNat.testBit h.toNat:=by
 obtain⟨n,rfl⟩:=z8 hx.1;obtain⟨i,rfl⟩:=z8 h0.1;have:Nat.min i 64=i:=xF (by omega);have e1:Zg .i64 (n:Int) i=((n >>> i:Nat):Int):=by
  simp only[Zg,z4,IntKind.bits,this]
  grind [Nat.shiftRight_eq_div_pow,Int.fdiv_eq_ediv_of_nonneg,Int.le_of_lt,Int.pow_pos]
 have h1:n >>> i<=n:=by rw[zA];exact Nat.div_le_self _ _
 have e2:Qf .and .i64 ((n >>> i:Nat):Int) 1=(((n >>> i) &&& 1:Nat):Int):=by
  generalize n >>> i=y at *
  have e:(BitVec.ofInt 64 ((y:Nat):Int) &&& BitVec.ofInt 64 ((1:Nat):Int)).toNat=y &&& 1:=by simp_all
  have hle:y &&& 1<=1:=Nat.and_le_right;show IntKind.wrap .i64 ((BitVec.ofInt 64 ((y:Nat):Int) &&& BitVec.ofInt 64 ((1:Nat):Int)).toNat:Int)=_;rw[e];generalize y &&& 1=c at *
  simp[IntKind.wrap,IntKind.bits,IntKind.signed];omega
 rw[e1,e2,z4,z4,Nat.testBit]
 grind
def Vr:AL ((Int×Int×Unit×Unit×Unit×Unit)×Int×Bool):=(.cons (.ptr (.cons (.k (.i .i64)) (.cons (.k (.i .i64)) (.cons .any (.cons .any (.cons .any (.one .any))))))) (.cons (.k (.i .i64)) (.one (.k .bo))))
def Bq (d:(Int×Int×Unit×Unit×Unit×Unit)×Int×Bool):Prop:=(0<=d.1.1/\d.1.1<16777216)/\(0<=d.1.2.1/\d.1.2.1<16777216)/\0<=d.2.1/\d.2.1<=24
def K_ (d:(Int×Int×Unit×Unit×Unit×Unit)×Int×Bool):SV:=.val (.i .i64) (Zp d.1.1.toNat d.1.2.1.toNat d.2.1.toNat d.2.2)
def KY (d:(Int×Int×Unit×Unit×Unit×Unit)×Int×Bool):List OB:=[]
def Xb:CSp:=XD Vr Bq K_ KY
def JJ (rw:Int) (fx:Int) (h:Int) (lt:Bool):Prop :=
 (0<=h)/\((((Qf .and .i64 (Zg .i64 rw h) (1:Int))==(1:Int))==lt)=true ->
  ((0:Int)=(Zp rw.toNat fx.toNat h.toNat lt)/\(True))) /\
 ((((Qf .and .i64 (Zg .i64 rw h) (1:Int))==(1:Int))==lt)=false ->
  (0<=h)/\(((Qf .and .i64 (Zg .i64 fx h) (1:Int))==(1:Int))=true ->
   ((1048576:Int)=(Zp rw.toNat fx.toNat h.toNat lt)/\(True))) /\
  (((Qf .and .i64 (Zg .i64 fx h) (1:Int))==(1:Int))=false ->
   ((1:Int)=(Zp rw.toNat fx.toNat h.toNat lt)/\(True))))
def Vw:Cx:=⟨[],[],29,[],0,[],[],[],[],false,[],[],[],[]⟩
def HQ (rw:Int) (fx:Int) (h:Int) (lt:Bool):List (Nat×LoopAnn):=[]
theorem HW (d:(Int×Int×Unit×Unit×Unit×Unit)×Int×Bool):gwp (Vw) (HQ d.1.1 d.1.2.1 d.2.1 d.2.2) c45 0 (Wj [.tmp 6] (K_ d) (KY d)) (Qp 29 (AL.can Vr d))=JJ d.1.1 d.1.2.1 d.2.1 d.2.2:=by kernel_rfl
abbrev HR:Prop:=OkC Tryz.prog 45 Xb
theorem HV (h:∀ (rw:Int) (fx:Int) (h:Int) (lt:Bool),((0<=rw/\rw<16777216)/\(0<=fx/\fx<16777216)/\0<=h/\h<=24)->JJ rw fx h lt):OkC Tryz.prog 45 Xb :=
 Qs J0g mixed (C:=Vw) (V:=λ(d:(Int×Int×Unit×Unit×Unit×Unit)×Int×Bool)=>JJ d.1.1 d.1.2.1 d.2.1 d.2.2) ⟨.nil,XsOk.nil,ItsOk.nil,YlOk.nil,IysOk.nil,XfOk.nil⟩ (HW) λd hp=>h d.1.1 d.1.2.1 d.2.1 d.2.2 hp
theorem Vp:HR:=HV λrw_ fx h lt hp=>by obtain⟨h1,h2,h3,h4⟩:=hp;unfold JJ;(try delta lI gD sT I64 Q2 pj8 pj4);rw[Od h1 ⟨h3,h4⟩,Od h2 ⟨h3,h4⟩];unfold Zp;simp_all
def VC:AL ((Unit×Unit×Unit×Int×Unit×Unit)×(Int×Int×Int×Bool)×Bool):=(.cons (.ptr (.cons .any (.cons .any (.cons .any (.cons (.k (.i .i64)) (.cons .any (.one .any))))))) (.cons (.agg (.cons (.k (.i .i64)) (.cons (.k (.i .i64)) (.cons (.k (.i .i64)) (.one (.k .bo)))))) (.one (.k .bo))))
def D_ (d:(Unit×Unit×Unit×Int×Unit×Unit)×(Int×Int×Int×Bool)×Bool):Prop:=(0<=d.2.1.1/\d.2.1.1<=24)/\(1<=d.2.1.2.1/\d.2.1.2.1<=24)/\(0<=d.2.1.2.2.1/\d.2.1.2.2.1<=24)
def V1 (d:(Unit×Unit×Unit×Int×Unit×Unit)×(Int×Int×Int×Bool)×Bool):SV:=.tup [.agg [.val (.i .i64) (d.2.1.1-1),.val (.i .i64) (PA d.2.1.2.1 d.2.1.2.2.2 d.2.2),.val (.i .i64) (Es d.2.1.2.1 d.2.1.2.2.1 d.2.1.2.2.2 d.2.2),.val .bo d.2.2],.val .bo (decide (PA d.2.1.2.1 d.2.1.2.2.2 d.2.2<=d.1.2.2.2.1))]
def V0 (d:(Unit×Unit×Unit×Int×Unit×Unit)×(Int×Int×Int×Bool)×Bool):List OB:=[]
def X6:CSp:=XD VC D_ V1 V0
def JG (bd:Int) (lf:Int) (ln:Int) (fi:Int) (lt:Bool) (b:Bool):Prop :=
 (I64 (lf-(1:Int)))/\((b==lt)=true ->
  (I64 (ln+(1:Int)))/\((((lf-(1:Int))=(lf-1)/\(ln+(1:Int))=(PA ln lt b)/\fi=(Es ln fi lt b)/\b=b/\(([]:List SV)=[]))/\(decide ((ln+(1:Int))<=bd))=(decide (PA ln lt b<=bd))/\(([]:List SV)=[]))/\(True))) /\
 ((b==lt)=false ->
  ((fi==(0:Int))=true ->
   ((((lf-(1:Int))=(lf-1)/\(1:Int)=(PA ln lt b)/\ln=(Es ln fi lt b)/\b=b/\(([]:List SV)=[]))/\(decide ((1:Int)<=bd))=(decide (PA ln lt b<=bd))/\(([]:List SV)=[]))/\(True))) /\
  ((fi==(0:Int))=false ->
   ((((lf-(1:Int))=(lf-1)/\(1:Int)=(PA ln lt b)/\fi=(Es ln fi lt b)/\b=b/\(([]:List SV)=[]))/\(decide ((1:Int)<=bd))=(decide (PA ln lt b<=bd))/\(([]:List SV)=[]))/\(True))))
def Vl:Cx:=⟨[],[],40,[],0,[],[],[],[],false,[],[],[],[]⟩
def HK (bd:Int) (lf:Int) (ln:Int) (fi:Int) (lt:Bool) (b:Bool):List (Nat×LoopAnn):=[]
theorem HN (d:(Unit×Unit×Unit×Int×Unit×Unit)×(Int×Int×Int×Bool)×Bool):gwp (Vl) (HK d.1.2.2.2.1 d.2.1.1 d.2.1.2.1 d.2.1.2.2.1 d.2.1.2.2.2 d.2.2) c48 0 (Wj [.cell 6 true 4,.tmp 7] (V1 d) (V0 d)) (Qp 40 (AL.can VC d))=JG d.1.2.2.2.1 d.2.1.1 d.2.1.2.1 d.2.1.2.2.1 d.2.1.2.2.2 d.2.2:=by kernel_rfl
abbrev HY:Prop:=OkC Tryz.prog 48 X6
theorem HZ (h:∀ (bd:Int) (lf:Int) (ln:Int) (fi:Int) (lt:Bool) (b:Bool),((0<=lf/\lf<=24)/\(1<=ln/\ln<=24)/\(0<=fi/\fi<=24))->JG bd lf ln fi lt b):OkC Tryz.prog 48 X6 :=
 Qs Z8d mixed (C:=Vl) (V:=λ(d:(Unit×Unit×Unit×Int×Unit×Unit)×(Int×Int×Int×Bool)×Bool)=>JG d.1.2.2.2.1 d.2.1.1 d.2.1.2.1 d.2.1.2.2.1 d.2.1.2.2.2 d.2.2) ⟨.nil,XsOk.nil,ItsOk.nil,YlOk.nil,IysOk.nil,XfOk.nil⟩ (HN) λd hp=>h d.1.2.2.2.1 d.2.1.1 d.2.1.2.1 d.2.1.2.2.1 d.2.1.2.2.2 d.2.2 hp
theorem Vy:HY:=HZ λbd lf ln fi lt b hp=>by
 obtain⟨h1,h2,h3⟩:=hp;unfold JG;(try delta lI gD sT I64 Q2 pj8 pj4);unfold PA Es;refine⟨by rw[Q7];omega,λc=>?_,λc=>⟨λc2=>?_,λc2=>?_⟩⟩
 .have c:=eq_of_beq c;refine⟨by rw[Q7];omega,?_⟩;simp_all
 .simp_all
 simp_all
def SG:AL (Bool):=(.one (.k .bo))
def ID (d:Bool):Prop:=True
def Tn (d:Bool):SV:=.val (.i .i64) (if d=true then 1 else 0)
def Rk (d:Bool):List OB:=[]
def Tc:CSp:=XD SG ID Tn Rk
def Nn (b:Bool):Prop :=
 (b=true ->
  ((1:Int)=(if b=true then 1 else 0)/\(True))) /\
 (b=false ->
  ((0:Int)=(if b=true then 1 else 0)/\(True)))
def Sz:Cx:=⟨[],[],4,[],0,[],[],[],[],false,[],[],[],[]⟩
def Q2b (b:Bool):List (Nat×LoopAnn):=[]
theorem Q2h (d:Bool):gwp (Sz) (Q2b d) c47 0 (Wj [.tmp 2] (Tn d) (Rk d)) (Qp 4 (AL.can SG d))=Nn d:=by kernel_rfl
abbrev Q19:Prop:=OkC Tryz.prog 47 Tc
theorem Q1s (h:∀ (b:Bool),(True)->Nn b):OkC Tryz.prog 47 Tc :=
 Qs Z9n mixed (C:=Sz) (V:=λ(d:Bool)=>Nn d) ⟨.nil,XsOk.nil,ItsOk.nil,YlOk.nil,IysOk.nil,XfOk.nil⟩ (Q2h) λd hp=>h d hp
theorem Q2d:Q19:=Q1s λb _=>by unfold Nn;cases b<;>simp
def Xl:AL (Int×Int×Int×Int×Bool):=(.cons (.k (.i .i64)) (.cons (.k (.i .i64)) (.cons (.k (.i .i64)) (.cons (.k (.i .i64)) (.one (.k .bo))))))
def Xn:AL (Int×Int×Int×Bool):=(.one (.agg (.cons (.k (.i .i64)) (.cons (.k (.i .i64)) (.cons (.k (.i .i64)) (.one (.k .bo)))))))
def K8 (m:List ((Int×Int×Int×Bool)×Int)) (c:Int×Int×Int×Int×Bool) (a:Int×Int×Int×Bool):Prop:=(0<=c.1/\c.1<16777216)/\(0<=c.2.1/\c.2.1<16777216)/\(1<=c.2.2.2.1/\c.2.2.2.1<=24)/\(0<=a.1/\a.1<=23)/\(1<=a.2.1/\a.2.1<=24)/\(0<=a.2.2.1/\a.2.2.1<=24)/\EF c.1 c.2.1 c.2.2.2.1 c.2.2.2.2 m
def Xj (m:List ((Int×Int×Int×Bool)×Int)) (c:Int×Int×Int×Int×Bool) (a:Int×Int×Int×Bool):SV:=.val (.i .i64) (Qr c.1.toNat c.2.1.toNat c.2.2.2.1.toNat c.2.2.2.2 a.1.toNat a.2.1.toNat a.2.2.1.toNat a.2.2.2)
def X8 (m:List ((Int×Int×Int×Bool)×Int)) (c:Int×Int×Int×Int×Bool) (a:Int×Int×Int×Bool) (m2:List ((Int×Int×Int×Bool)×Int)):Prop:=EF c.1 c.2.1 c.2.2.2.1 c.2.2.2.2 m2
def KQ (c:Int×Int×Int×Int×Bool) (a:Int×Int×Int×Bool):Nat:=a.1.toNat
def Wi:XSp:=S1 Sx 5 (.pair (.i .i64) (.pair (.i .i64) (.pair (.i .i64) .bo))) (.i .i64) (Z2o Xl Xn K8 Xj X8)
def Jh (dG:Nat) (m:List ((Int×Int×Int×Bool)×Int)) (rw:Int) (fx:Int) (hk:Int) (bd:Int) (tp:Bool) (lf:Int) (ln:Int) (fi:Int) (lt:Bool):Prop:=∀ vals:List Value,
 ((lf==(0:Int))=true ->
  ((fi==(0:Int))=false->(lt==tp)=true->InK .i64 (ln+fi))/\(((fi==(0:Int))||((lt==tp)&&(decide ((ln+fi) > bd))))=true ->
   (vals=vals/\(True/\(([]:List SV)=[]))/\(1048576:Int)=(Qr rw.toNat fx.toNat bd.toNat tp lf.toNat ln.toNat fi.toNat lt)/\(EF rw fx bd tp m))) /\
  (((fi==(0:Int))||((lt==tp)&&(decide ((ln+fi) > bd))))=false ->
   (vals=vals/\(True/\(([]:List SV)=[]))/\(0:Int)=(Qr rw.toNat fx.toNat bd.toNat tp lf.toNat ln.toNat fi.toNat lt)/\(EF rw fx bd tp m)))) /\
 ((lf==(0:Int))=false ->
  ((gq.ahas (.pair (.i .i64) (.pair (.i .i64) (.pair (.i .i64) .bo))) m (lf,(ln,(fi,lt))))=true ->
   (vals=vals/\(True/\(([]:List SV)=[]))/\(gq.aget (.pair (.i .i64) (.pair (.i .i64) (.pair (.i .i64) .bo))) m (lf,(ln,(fi,lt))) 0)=(Qr rw.toNat fx.toNat bd.toNat tp lf.toNat ln.toNat fi.toNat lt)/\(EF rw fx bd tp m))) /\
  ((gq.ahas (.pair (.i .i64) (.pair (.i .i64) (.pair (.i .i64) .bo))) m (lf,(ln,(fi,lt))))=false ->
   ∃ (e3:Unit) (d30:(List ((Int×Int×Int×Bool)×Int))×Int×Int),(((rw=rw/\fx=fx/\hk=hk/\bd=bd/\tp=tp/\True/\(([]:List SV)=[]))/\True/\(1048576:Int)=d30.2.1/\(false=false/\true=true/\(([]:List SV)=[]))/\(0:Int)=d30.2.2/\True)/\((m=d30.1)/\(lf=lf/\ln=ln/\fi=fi/\lt=lt/\(([]:List SV)=[]))/\(vals=vals/\(True/\(([]:List SV)=[])))/\True)) /\
   LoopP (λ(d3:(List ((Int×Int×Int×Bool)×Int))×Int×Int) (q3:((List ((Int×Int×Int×Bool)×Int))×Int×Int)->Prop) =>
    ((decide (d3.2.2<(2:Int)))=true ->
     (0<=d3.2.2)/\(d3.2.2<(2:Int)) /\
     (d3.2.2=(0:Int) ->
      ((0<=lf/\lf<=24)/\(1<=ln/\ln<=24)/\(0<=fi/\fi<=24))/\((decide (PA ln lt false<=bd))=true ->
       ((0<=rw/\rw<16777216)/\(0<=fx/\fx<16777216)/\0<=(lf-1)/\(lf-1)<=24)/\(((0<=rw/\rw<16777216)/\(0<=fx/\fx<16777216)/\(1<=bd/\bd<=24)/\(0<=(lf-1)/\(lf-1)<=23)/\(1<=(PA ln lt false)/\(PA ln lt false)<=24)/\(0<=(Es ln fi lt false)/\(Es ln fi lt false)<=24)/\EF rw fx bd tp d3.1)/\((lf-1).toNat)<dG)/\(∀ m4:List ((Int×Int×Int×Bool)×Int),(EF rw fx bd tp m4)->(I64 ((Zp rw.toNat fx.toNat (lf-1).toNat false)+(Qr rw.toNat fx.toNat bd.toNat tp (lf-1).toNat (PA ln lt false).toNat (Es ln fi lt false).toNat false)))/\(I64 (d3.2.2+(1:Int)))/\(∃ d5:(List ((Int×Int×Int×Bool)×Int))×Int×Int,(((rw=rw/\fx=fx/\hk=hk/\bd=bd/\tp=tp/\True/\(([]:List SV)=[]))/\True/\(Q72 d3.2.1 ((Zp rw.toNat fx.toNat (lf-1).toNat false)+(Qr rw.toNat fx.toNat bd.toNat tp (lf-1).toNat (PA ln lt false).toNat (Es ln fi lt false).toNat false)))=d5.2.1/\(false=false/\true=true/\(([]:List SV)=[]))/\(d3.2.2+(1:Int))=d5.2.2/\True)/\((m4=d5.1)/\(lf=lf/\ln=ln/\fi=fi/\lt=lt/\(([]:List SV)=[]))/\(vals=vals/\(True/\(([]:List SV)=[])))/\True))/\q3 d5))) /\
      ((decide (PA ln lt false<=bd))=false ->
       (I64 (d3.2.2+(1:Int)))/\(∃ d6:(List ((Int×Int×Int×Bool)×Int))×Int×Int,(((rw=rw/\fx=fx/\hk=hk/\bd=bd/\tp=tp/\True/\(([]:List SV)=[]))/\True/\d3.2.1=d6.2.1/\(false=false/\true=true/\(([]:List SV)=[]))/\(d3.2.2+(1:Int))=d6.2.2/\True)/\((d3.1=d6.1)/\(lf=lf/\ln=ln/\fi=fi/\lt=lt/\(([]:List SV)=[]))/\(vals=vals/\(True/\(([]:List SV)=[])))/\True))/\q3 d6))) /\
     (d3.2.2=(1:Int) ->
      ((0<=lf/\lf<=24)/\(1<=ln/\ln<=24)/\(0<=fi/\fi<=24))/\((decide (PA ln lt true<=bd))=true ->
       ((0<=rw/\rw<16777216)/\(0<=fx/\fx<16777216)/\0<=(lf-1)/\(lf-1)<=24)/\(((0<=rw/\rw<16777216)/\(0<=fx/\fx<16777216)/\(1<=bd/\bd<=24)/\(0<=(lf-1)/\(lf-1)<=23)/\(1<=(PA ln lt true)/\(PA ln lt true)<=24)/\(0<=(Es ln fi lt true)/\(Es ln fi lt true)<=24)/\EF rw fx bd tp d3.1)/\((lf-1).toNat)<dG)/\(∀ m7:List ((Int×Int×Int×Bool)×Int),(EF rw fx bd tp m7)->(I64 ((Zp rw.toNat fx.toNat (lf-1).toNat true)+(Qr rw.toNat fx.toNat bd.toNat tp (lf-1).toNat (PA ln lt true).toNat (Es ln fi lt true).toNat true)))/\(I64 (d3.2.2+(1:Int)))/\(∃ d8:(List ((Int×Int×Int×Bool)×Int))×Int×Int,(((rw=rw/\fx=fx/\hk=hk/\bd=bd/\tp=tp/\True/\(([]:List SV)=[]))/\True/\(Q72 d3.2.1 ((Zp rw.toNat fx.toNat (lf-1).toNat true)+(Qr rw.toNat fx.toNat bd.toNat tp (lf-1).toNat (PA ln lt true).toNat (Es ln fi lt true).toNat true)))=d8.2.1/\(false=false/\true=true/\(([]:List SV)=[]))/\(d3.2.2+(1:Int))=d8.2.2/\True)/\((m7=d8.1)/\(lf=lf/\ln=ln/\fi=fi/\lt=lt/\(([]:List SV)=[]))/\(vals=vals/\(True/\(([]:List SV)=[])))/\True))/\q3 d8))) /\
      ((decide (PA ln lt true<=bd))=false ->
       (I64 (d3.2.2+(1:Int)))/\(∃ d9:(List ((Int×Int×Int×Bool)×Int))×Int×Int,(((rw=rw/\fx=fx/\hk=hk/\bd=bd/\tp=tp/\True/\(([]:List SV)=[]))/\True/\d3.2.1=d9.2.1/\(false=false/\true=true/\(([]:List SV)=[]))/\(d3.2.2+(1:Int))=d9.2.2/\True)/\((d3.1=d9.1)/\(lf=lf/\ln=ln/\fi=fi/\lt=lt/\(([]:List SV)=[]))/\(vals=vals/\(True/\(([]:List SV)=[])))/\True))/\q3 d9))) /\
     True) /\
    ((decide (d3.2.2<(2:Int)))=false ->
     (vals=vals/\(True/\(([]:List SV)=[]))/\d3.2.1=(Qr rw.toNat fx.toNat bd.toNat tp lf.toNat ln.toNat fi.toNat lt)/\(EF rw fx bd tp (Dk (.pair (.i .i64) (.pair (.i .i64) (.pair (.i .i64) .bo))) d3.1 (lf,(ln,(fi,lt))) d3.2.1))))) d30))
def cx_point_binder_least:Cx:=⟨[],[(48,X6),(45,Xb)],81,[],0,[],[],[],[],false,[],[],[],[]⟩
def V2 (m:List ((Int×Int×Int×Bool)×Int)) (rw:Int) (fx:Int) (hk:Int) (bd:Int) (tp:Bool) (lf:Int) (ln:Int) (fi:Int) (lt:Bool) (vals:List Value):List (Nat×LoopAnn):=[(0,⟨Unit,(List ((Int×Int×Int×Bool)×Int))×Int×Int,[0,3,7,50,51],λe x=>[.cp [.val (.i .i64) rw,.val (.i .i64) fx,.val (.i .i64) hk,.val (.i .i64) bd,.val .bo tp,.map 0] 0,.box 3 0,.val (.i .i64) x.2.1,.agg [.val .bo false,.val .bo true],.val (.i .i64) x.2.2],λe x=>[(0,.key 0,.map (.pair (.i .i64) (.pair (.i .i64) (.pair (.i .i64) .bo))) (.i .i64) x.1),(3,.slot 3,.cells [.val (.i .i64) lf,.val (.i .i64) ln,.val (.i .i64) fi,.val .bo lt] (some 98)),(4000000,.key 4000000,.stk [.map 0] vals)]⟩)]
theorem H5 (dG:Nat) (m:List ((Int×Int×Int×Bool)×Int)) (c:Int×Int×Int×Int×Bool) (a:Int×Int×Int×Bool):(∀ vals,gwp {cx_point_binder_least with xs:=(46,S1 Sx 5 (.pair (.i .i64) (.pair (.i .i64) (.pair (.i .i64) .bo))) (.i .i64) (Z2o Xl Xn (λm c a=>K8 m c a/\KQ c a<dG) Xj X8))::cx_point_binder_least.xs} (V2 m c.1 c.2.1 c.2.2.1 c.2.2.2.1 c.2.2.2.2 a.1 a.2.1 a.2.2.1 a.2.2.2 vals) c46 0 (O2 vals [.tmp 4] (Xj m c a) (.pair (.i .i64) (.pair (.i .i64) (.pair (.i .i64) .bo))) (.i .i64) (X8 m c a)) (mstart 81 5 (.pair (.i .i64) (.pair (.i .i64) (.pair (.i .i64) .bo))) (.i .i64) m vals (AL.can Xl c) (AL.can Xn a)))=Jh dG m c.1 c.2.1 c.2.2.1 c.2.2.2.1 c.2.2.2.2 a.1 a.2.1 a.2.2.1 a.2.2.2:=by kernel_rfl
abbrev Bj:Prop:=Z6p Tryz.prog 46 Wi 5
theorem Hk (h:∀ (dG:Nat) (m:List ((Int×Int×Int×Bool)×Int)) (rw:Int) (fx:Int) (hk:Int) (bd:Int) (tp:Bool) (lf:Int) (ln:Int) (fi:Int) (lt:Bool),((0<=rw/\rw<16777216)/\(0<=fx/\fx<16777216)/\(1<=bd/\bd<=24)/\(0<=lf/\lf<=23)/\(1<=ln/\ln<=24)/\(0<=fi/\fi<=24)/\EF rw fx bd tp m)->(lf.toNat)=dG->Jh dG m rw fx hk bd tp lf ln fi lt):Z6p Tryz.prog 46 Wi 5 :=
 Q8i Z84 mixed M8 rfl (μ:=KQ) (C:=cx_point_binder_least) ⟨(.cons Vy (.cons Vp .nil)),XsOk.nil,ItsOk.nil,YlOk.nil,IysOk.nil,XfOk.nil⟩ rfl (L:=λm (c:Int×Int×Int×Int×Bool) (a:Int×Int×Int×Bool) vals=>V2 m c.1 c.2.1 c.2.2.1 c.2.2.2.1 c.2.2.2.2 a.1 a.2.1 a.2.2.1 a.2.2.2 vals) (V:=λdG m (c:Int×Int×Int×Int×Bool) (a:Int×Int×Int×Bool)=>Jh dG m c.1 c.2.1 c.2.2.1 c.2.2.2.1 c.2.2.2.2 a.1 a.2.1 a.2.2.1 a.2.2.2) H5 λn m c a hp hn=>h n m c.1 c.2.1 c.2.2.1 c.2.2.2.1 c.2.2.2.2 a.1 a.2.1 a.2.2.1 a.2.2.2 hp hn
theorem K6:Bj:=Hk λdG m rw_ fx hk bd tp lf ln fi lt h hn=>by
 obtain⟨h1,h2,h3,h4,h5,h6,h7⟩:=h;unfold Jh;(try delta lI gD sT I64 Q2 pj8 pj4);intro vals;simp only[true_and,and_true];obtain⟨k,rfl⟩:=z8 h4.1;obtain⟨n,rfl⟩:=z8 (show 0<=ln by omega);obtain⟨f,rfl⟩:=z8 h6.1;obtain⟨B,rfl⟩:=z8 (show 0<=bd by omega);simp only[Q4n,Q45,z4] at hn |-;refine⟨λc=>?_,λc=>⟨λc2=>?_,λc2=>?_⟩⟩
 .have c:k=0:=by have:=eq_of_beq c;omega
  subst c;refine⟨λ_ _=>by rw[Q7];omega,λc2=>⟨?_,h7⟩,λc2=>⟨?_,h7⟩⟩
  .unfold Qr Z66;rw[z2];simp only[zp,zD,z1,ze] at c2;rcases c2 with c2|⟨c2,c3⟩
   .left;omega
   .right;exact⟨c2,by omega⟩
  .unfold Qr Z66;rw[z0];simp only[Bool.or_eq_false_iff,zW,Bool.and_eq_false_iff,zG] at c2;rintro (c3|⟨c3,c4⟩)
   .exact c2.1 (by omega)
   .rcases c2.2 with c5|c5
    .exact c5 c3
    .exact c5 (by omega)
 .exact⟨h7 ((k:Int),(n:Int),(f:Int),lt) c2,h7⟩
 .have c:k≠0:=by
   have c:¬ ((k:Int)=0):=by simpa using c
   omega
  obtain⟨k,rfl⟩:∃ j,k=j+1:=⟨k-1,by omega⟩;have ek:((k+1:Nat):Int)-1=(k:Int):=by omega
  simp only[ek,z4] at hn |-;have bl:∀ b,0<=Zp rw_.toNat fx.toNat k b/\Zp rw_.toNat fx.toNat k b<=1048576:=λb=>WG _ _ _ _;have ll:∀ b,0<=Qr rw_.toNat fx.toNat B tp k (nxL n lt b) (nxF n f lt b) b/\Qr rw_.toNat fx.toNat B tp k (nxL n lt b) (nxF n f lt b) b<=1048576:=λb=>UO _ _ _ _ _ _ _ _;have nl:∀ b,nxL n lt b<=B->1<=nxL n lt b/\nxL n lt b<=24:=λb h=>⟨(Q80 (B:=B) (by omega)).1,by omega⟩;have nf:∀ b,nxF n f lt b<=24:=λb=>Q90 (by omega) (by omega);have step:Qr rw_.toNat fx.toNat B tp (k+1) n f lt=brV B n lt (brV B n lt 1048576 (Zp rw_.toNat fx.toNat k false+Qr rw_.toNat fx.toNat B tp k (nxL n lt false) (nxF n f lt false) false) false) (Zp rw_.toNat fx.toNat k true+Qr rw_.toNat fx.toNat B tp k (nxL n lt true) (nxF n f lt true) true) true:=rfl;refine⟨(),(m,1048576,0),by and_intros<;>first|rfl|trivial,?_⟩;refine⟨λd=>EF rw_ fx (B:Int) tp d.1/\(d.2.2=0/\d.2.1=1048576\/d.2.2=1/\d.2.1=brV B n lt 1048576 (Zp rw_.toNat fx.toNat k false+Qr rw_.toNat fx.toNat B tp k (nxL n lt false) (nxF n f lt false) false) false\/d.2.2=2/\d.2.1=Qr rw_.toNat fx.toNat B tp (k+1) n f lt),λd=>2-d.2.2.toNat,⟨h7,.inl ⟨rfl,rfl⟩⟩,?_⟩;rintro⟨m1,b,i⟩ ⟨e1,e2⟩;dsimp only at e1 e2 |-;refine⟨λg=>?_,λg=>?_⟩
  .have g:=z7 g;refine⟨by omega,by omega,λi0=>?_,λi1=>?_⟩
   .subst i0;have eb:b=1048576:=by rcases e2 with e|e|e<;>omega
    refine⟨⟨by omega,by omega,by omega⟩,λc3=>?_,λc3=>?_⟩
    .have c3:=z7 c3;have iA:nxL n lt false<=B:=by omega
     have w1:=nl false iA;have w2:=nf false;have w3:=bl false;have w4:=ll false;refine⟨⟨h1,h2,by omega,by omega⟩,⟨⟨h1,h2,by omega,by omega,by omega,by omega,e1⟩,by omega⟩,λm4 qC=>⟨by rw[Q7];omega,by rw[Q7];omega,(m4,Q72 b (Zp rw_.toNat fx.toNat k false+Qr rw_.toNat fx.toNat B tp k (nxL n lt false) (nxF n f lt false) false),1),by and_intros<;>first|rfl|trivial,⟨qC,.inr (.inl ⟨rfl,?_⟩)⟩,by dsimp only;decide⟩⟩;dsimp only;rw[eb];unfold brV;rw[z2 iA]
    .have c3:=z6 c3;have iA:¬ nxL n lt false<=B:=by omega
     refine⟨by rw[Q7];omega,(m1,b,1),by and_intros<;>first|rfl|trivial,⟨e1,.inr (.inl ⟨rfl,?_⟩)⟩,by dsimp only;decide⟩;dsimp only;rw[eb];unfold brV;rw[z0 iA]
   .subst i1;have eb:b=brV B n lt 1048576 (Zp rw_.toNat fx.toNat k false+Qr rw_.toNat fx.toNat B tp k (nxL n lt false) (nxF n f lt false) false) false:=by
     rcases e2 with e|e|e
     .omega
     .exact e.2
     .omega
    refine⟨⟨by omega,by omega,by omega⟩,λc3=>?_,λc3=>?_⟩
    .have c3:=z7 c3;have iA:nxL n lt true<=B:=by omega
     have w1:=nl true iA;have w2:=nf true;have w3:=bl true;have w4:=ll true;refine⟨⟨h1,h2,by omega,by omega⟩,⟨⟨h1,h2,by omega,by omega,by omega,by omega,e1⟩,by omega⟩,λm4 qC=>⟨by rw[Q7];omega,by rw[Q7];omega,(m4,Q72 b (Zp rw_.toNat fx.toNat k true+Qr rw_.toNat fx.toNat B tp k (nxL n lt true) (nxF n f lt true) true),2),by and_intros<;>first|rfl|trivial,⟨qC,.inr (.inr ⟨rfl,?_⟩)⟩,by dsimp only;decide⟩⟩;dsimp only;rw[eb,step];exact(z2 iA).symm
    .have c3:=z6 c3;have iA:¬ nxL n lt true<=B:=by omega
     refine⟨by rw[Q7];omega,(m1,b,2),by and_intros<;>first|rfl|trivial,⟨e1,.inr (.inr ⟨rfl,?_⟩)⟩,by dsimp only;decide⟩;dsimp only;rw[eb,step];exact(z0 iA).symm
  .have g:=z6 g;have eb:b=Qr rw_.toNat fx.toNat B tp (k+1) n f lt:=by
    rcases e2 with e|e|e
    .omega
    .omega
    .exact e.2
   exact⟨eb,Z3b e1 eb⟩
def R8:AL ((Int×List Int)×List Int×Int):=(.cons (.agg (.cons (.k (.i .i64)) (.one (.k (.list (.i .i64)))))) (.cons (.k (.list (.i .i64))) (.one (.k (.i .i64)))))
def ER (d:(Int×List Int)×List Int×Int):Prop:=d.1.2.length<=1000/\d.2.1.length<=1000
def Pp (d:(Int×List Int)×List Int×Int):SV:=.tup [.agg [.val (.i .i64) (if Q6 d.1.1 d.1.2 d.2.1 d.2.2=0 then d.1.1 else 0),.lst 0],.val (.i .i64) (DQ d.1.1 d.1.2 d.2.1 d.2.2),.val (.i .i64) (Q6 d.1.1 d.1.2 d.2.1 d.2.2)]
def P2 (d:(Int×List Int)×List Int×Int):List OB:=[.lst 3 (.i .i64) (QJ d.1.1 d.1.2 d.2.1 d.2.2) ((QJ d.1.1 d.1.2 d.2.1 d.2.2).isEmpty)]
def Nx:CSp:=XD R8 ER Pp P2
abbrev Q2e:=λ(d25:(List ((Int×Int×Int×Bool)×Int))×Int) (ao:Int×Int×Int×Int×Bool×Int×(List Int)×Int×Int×(List Int)×Int×(List Int)×Int×Int×Int×(List Int)×Int×Int×Bool×Int×Int×Int×(List Int)×Int×Int×Int×Int×Int×Int×Int×Int×Bool×(List Value)) (ae:Int×Int×Int×Int×Bool×Int×Int×Int×Int×Int×Bool×Int×Bool×Bool×(List Int)×Int×Int×(List Int)×Int×(List Int)×Int×Int×Int×(List Int)×Int×Int×Bool×Int×Int×Int×(List Int)×Int×Int×Int×Int×Int×Int×Int×Int×Bool×(List Value)) (gJ:_->Prop) (bj:Bool)=>(( I64 ( (pj8 ae).2.2.2.1-( Zp ae.1.toNat ae.2.1.toNat ( (pj4 ae).2.2.2.1-( 1:Int ) ).toNat bj ) ) )/\( 0<=( 1:Int ) )/\( I64 ( Wk .i64 (pj4 ae).2.1 ( 1:Int ) ) )/\( True )/\( ∃ gK:( List ( ( Int×Int×Int×Bool )×Int ) )×Int×Int×Int×Int×Bool×Int ,( ( True/\( Qf .or .i64 ( Wk .i64 (pj4 ae).2.1 ( 1:Int ) ) ( if bj=true then 1 else 0 ) )=gK.2.1/\(pj4 ae).2.2.1=(pj4 ao).2.1/\True/\( (pj8 ae).2.2.2.1-( Zp ae.1.toNat ae.2.1.toNat ( (pj4 ae).2.2.2.1-( 1:Int ) ).toNat bj ) )=gK.2.2.2.2.2.2/\True )/\( ( ae.1=ao.1/\ae.2.1=ao.2.1/\ae.2.2.1=ao.2.2.1/\ae.2.2.2.1=ao.2.2.2.1/\(pj4 ae).1=(pj4 ao).1/\True/\( ( [ ]:List SV )=[ ] ) )/\( d25.1=gK.1 )/\( ( (pj4 ae).2.2.2.1-1 )=gK.2.2.1/\( PA (pj8 ae).1 (pj8 ae).2.2.1 bj )=gK.2.2.2.1/\( Es (pj8 ae).1 (pj8 ae).2.1 (pj8 ae).2.2.1 bj )=gK.2.2.2.2.1/\bj=gK.2.2.2.2.2.1/\( ( [ ]:List SV )=[ ] ) )/\( (Q2 (Q2 ao))=(pj8 (Q2 (Q2 ae)))/\( True/\(pj4 (pj8 ae)).2.2.1=(pj4 ao).2.2.1/\(pj4 (pj8 ae)).2.2.2.1=(pj4 ao).2.2.2.1/\True/\True/\True/\True/\(pj4 (Q2 ae)).1=(pj4 (pj8 ao)).1/\True/\True/\(pj4 (Q2 ae)).2.1=(pj4 (pj8 ao)).2.1/\(pj4 (Q2 ae)).2.2.1=(pj4 (pj8 ao)).2.2.1/\True/\True/\True/\True/\True/\True/\True/\True/\True/\True/\True/\True/\True/\True/\True/\True/\True/\True/\True/\True/\True/\True/\True/\True/\True/\True/\True/\True/\True/\True/\True/\True/\True/\True/\True/\True/\(pj4 (Q2 ae)).2.2.2.1=(pj4 (pj8 ao)).2.2.2.1/\(pj8 (Q2 ae)).1=(Q2 ao).1/\(pj8 (Q2 ae)).2.1=(Q2 ao).2.1/\(pj8 (Q2 ae)).2.2.1=(Q2 ao).2.2.1/\(pj8 (Q2 ae)).2.2.2.1=(Q2 ao).2.2.2.1/\True/\(pj4 (pj8 (Q2 ae))).1=(pj4 (Q2 ao)).1/\True/\(pj4 (pj8 (Q2 ae))).2.1=(pj4 (Q2 ao)).2.1/\(pj4 (pj8 (Q2 ae))).2.2.1=(pj4 (Q2 ao)).2.2.1/\(pj4 (pj8 (Q2 ae))).2.2.2.1=(pj4 (Q2 ao)).2.2.2.1/\True/\(Q2 (Q2 ae)).1=(pj8 (Q2 ao)).1/\True/\(Q2 (Q2 ae)).2.1=(pj8 (Q2 ao)).2.1/\(Q2 (Q2 ae)).2.2.1=(pj8 (Q2 ao)).2.2.1/\( (Q2 (Q2 ae)).2.2.2.1=(pj8 (Q2 ao)).2.2.2.1/\(pj4 (Q2 (Q2 ae))).1=(pj4 (pj8 (Q2 ao))).1/\(pj4 (Q2 (Q2 ae))).2.1=(pj4 (pj8 (Q2 ao))).2.1/\(pj4 (Q2 (Q2 ae))).2.2.1=(pj4 (pj8 (Q2 ao))).2.2.1/\(pj4 (Q2 (Q2 ae))).2.2.2.1=(pj4 (pj8 (Q2 ao))).2.2.2.1/\True/\( ( [ ]:List SV )=[ ] ) )/\True/\True/\True/\True/\True/\True/\True/\True/\True/\True/\True/\True/\True/\True/\True/\True/\True/\True/\True/\( ( [ ]:List SV )=[ ] ) ) )/\( (Q2 ae).1=(pj8 ao).1/\(Q2 ae).2.1=(pj8 ao).2.1/\( ( [ ]:List SV )=[ ] ) )/\( (Q2 ae).2.2.1=(pj8 ao).2.2.1/\True/\( ( [ ]:List SV )=[ ] ) )/\( (Q2 ae).2.2.2.1=(pj8 ao).2.2.2.1/\( List.isEmpty (Q2 ae).2.2.2.1 )=( List.isEmpty (pj8 ao).2.2.2.1 ) )/\True ) )/\gJ gK ):Prop)
abbrev Q0w:=λ(d25:(List ((Int×Int×Int×Bool)×Int))×Int) (ao:Int×Int×Int×Int×Bool×Int×(List Int)×Int×Int×(List Int)×Int×(List Int)×Int×Int×Int×(List Int)×Int×Int×Bool×Int×Int×Int×(List Int)×Int×Int×Int×Int×Int×Int×Int×Int×Bool×(List Value)) (ae:Int×Int×Int×Int×Bool×Int×Int×Int×Int×Int×Bool×Int×Bool×Bool×(List Int)×Int×Int×(List Int)×Int×(List Int)×Int×Int×Int×(List Int)×Int×Int×Bool×Int×Int×Int×(List Int)×Int×Int×Int×Int×Int×Int×Int×Int×Bool×(List Value)) (gJ:_->Prop) (lx:_->Prop) (bj:Bool)=>(( false=true->( Q2e d25 ao ae gJ bj ) )/\( false=false->( I64 ( d25.2+( 1:Int ) ) )/\( ∃ gK:( List ( ( Int×Int×Int×Bool )×Int ) )×Int ,( ( True/\(pj4 ae).2.1=(pj4 ae).2.1/\(pj4 ae).2.2.1=(pj4 ae).2.2.1/\True/\(pj8 ae).2.2.2.1=(pj8 ae).2.2.2.1/\( (pj4 (pj8 ae)).1=(pj4 (pj8 ae)).1/\(pj4 (pj8 ae)).2.1=(pj4 (pj8 ae)).2.1/\( ( [ ]:List SV )=[ ] ) )/\( d25.2+( 1:Int ) )=gK.2/\True )/\( ( ae.1=ae.1/\ae.2.1=ae.2.1/\ae.2.2.1=ae.2.2.1/\ae.2.2.2.1=ae.2.2.2.1/\(pj4 ae).1=(pj4 ae).1/\True/\( ( [ ]:List SV )=[ ] ) )/\( d25.1=gK.1 )/\( (pj4 ae).2.2.2.1=(pj4 ae).2.2.2.1/\(pj8 ae).1=(pj8 ae).1/\(pj8 ae).2.1=(pj8 ae).2.1/\(pj8 ae).2.2.1=(pj8 ae).2.2.1/\( ( [ ]:List SV )=[ ] ) )/\( (pj8 (Q2 (Q2 ae)))=(pj8 (Q2 (Q2 ae)))/\( True/\(pj4 (pj8 ae)).2.2.1=(pj4 (pj8 ae)).2.2.1/\(pj4 (pj8 ae)).2.2.2.1=(pj4 (pj8 ae)).2.2.2.1/\True/\True/\True/\True/\(pj4 (Q2 ae)).1=(pj4 (Q2 ae)).1/\True/\True/\(pj4 (Q2 ae)).2.1=(pj4 (Q2 ae)).2.1/\(pj4 (Q2 ae)).2.2.1=(pj4 (Q2 ae)).2.2.1/\True/\True/\True/\True/\True/\True/\True/\True/\True/\True/\True/\True/\True/\True/\True/\True/\True/\True/\True/\True/\True/\True/\True/\True/\True/\True/\True/\True/\True/\True/\True/\True/\True/\True/\True/\True/\(pj4 (Q2 ae)).2.2.2.1=(pj4 (Q2 ae)).2.2.2.1/\(pj8 (Q2 ae)).1=(pj8 (Q2 ae)).1/\(pj8 (Q2 ae)).2.1=(pj8 (Q2 ae)).2.1/\(pj8 (Q2 ae)).2.2.1=(pj8 (Q2 ae)).2.2.1/\(pj8 (Q2 ae)).2.2.2.1=(pj8 (Q2 ae)).2.2.2.1/\True/\(pj4 (pj8 (Q2 ae))).1=(pj4 (pj8 (Q2 ae))).1/\True/\(pj4 (pj8 (Q2 ae))).2.1=(pj4 (pj8 (Q2 ae))).2.1/\(pj4 (pj8 (Q2 ae))).2.2.1=(pj4 (pj8 (Q2 ae))).2.2.1/\(pj4 (pj8 (Q2 ae))).2.2.2.1=(pj4 (pj8 (Q2 ae))).2.2.2.1/\True/\(Q2 (Q2 ae)).1=(Q2 (Q2 ae)).1/\True/\(Q2 (Q2 ae)).2.1=(Q2 (Q2 ae)).2.1/\(Q2 (Q2 ae)).2.2.1=(Q2 (Q2 ae)).2.2.1/\( (Q2 (Q2 ae)).2.2.2.1=(Q2 (Q2 ae)).2.2.2.1/\(pj4 (Q2 (Q2 ae))).1=(pj4 (Q2 (Q2 ae))).1/\(pj4 (Q2 (Q2 ae))).2.1=(pj4 (Q2 (Q2 ae))).2.1/\(pj4 (Q2 (Q2 ae))).2.2.1=(pj4 (Q2 (Q2 ae))).2.2.1/\(pj4 (Q2 (Q2 ae))).2.2.2.1=(pj4 (Q2 (Q2 ae))).2.2.2.1/\True/\( ( [ ]:List SV )=[ ] ) )/\True/\True/\True/\True/\True/\True/\True/\True/\True/\True/\True/\True/\True/\True/\True/\True/\True/\True/\True/\( ( [ ]:List SV )=[ ] ) ) )/\( (Q2 ae).1=(Q2 ae).1/\(Q2 ae).2.1=(Q2 ae).2.1/\( ( [ ]:List SV )=[ ] ) )/\( (Q2 ae).2.2.1=(Q2 ae).2.2.1/\True/\( ( [ ]:List SV )=[ ] ) )/\( (Q2 ae).2.2.2.1=(Q2 ae).2.2.2.1/\( List.isEmpty (Q2 ae).2.2.2.1 )=( List.isEmpty (Q2 ae).2.2.2.1 ) )/\True ) )/\lx gK ) ):Prop)
abbrev Ch:=λ(d9:Bool×Int×Int×Int×Int×Bool×Int) (e9:Int×Int×Int×Int×Bool×Bool×(List Int)×Int×Int×(List Int)×Int×(List Int)×Int×Int×Int×(List Int)×Int×Int×Bool×Int×Int×Int×(List Int)×Int×Int×Int×Int×Int×Int×Int×Int×Bool×(List Value)) (q9:_->Prop) (bj:Bool)=>(∀ sd:List Value ,( I64 ( e9.2.2.1-( 1:Int ) ) )/\sd=sd/\( I64 ( e9.2.2.1-( 1:Int ) ) )/\( ( 0<=e9.1/\e9.1<16777216 )/\( 0<=e9.2.1/\e9.2.1<16777216 )/\0<=( e9.2.2.1-( 1:Int ) )/\( e9.2.2.1-( 1:Int ) )<=24 )/\( ( 0<=e9.1/\e9.1<16777216 )/\( 0<=e9.2.1/\e9.2.1<16777216 )/\( 1<=e9.2.2.2.1/\e9.2.2.2.1<=24 )/\( 0<=( e9.2.2.1-( 1:Int ) )/\( e9.2.2.1-( 1:Int ) )<=23 )/\( 1<=( 1:Int )/\( 1:Int )<=24 )/\( 0<=( 0:Int )/\( 0:Int )<=24 )/\EF e9.1 e9.2.1 e9.2.2.2.1 bj ( [ ]:List ( ( Int×Int×Int×Bool )×Int ) ) )/\( ∀ uC:List ( ( Int×Int×Int×Bool )×Int ) ,( EF e9.1 e9.2.1 e9.2.2.2.1 bj uC )->( I64 ( ( Zp e9.1.toNat e9.2.1.toNat ( e9.2.2.1-( 1:Int ) ).toNat bj )+( Qr e9.1.toNat e9.2.1.toNat e9.2.2.2.1.toNat bj ( e9.2.2.1-( 1:Int ) ).toNat ( 1:Int ).toNat ( 0:Int ).toNat bj ) ) )/\( ( decide ( ( ( Zp e9.1.toNat e9.2.1.toNat ( e9.2.2.1-( 1:Int ) ).toNat bj )+( Qr e9.1.toNat e9.2.1.toNat e9.2.2.2.1.toNat bj ( e9.2.2.1-( 1:Int ) ).toNat ( 1:Int ).toNat ( 0:Int ).toNat bj ) )<d9.2.1 ) )=true->( I64 ( (pj4 d9).2.2+( 1:Int ) ) )/\( ∃ gL:Bool×Int×Int×Int×Int×Bool×Int ,( ( True/\( ( Zp e9.1.toNat e9.2.1.toNat ( e9.2.2.1-( 1:Int ) ).toNat bj )+( Qr e9.1.toNat e9.2.1.toNat e9.2.2.2.1.toNat bj ( e9.2.2.1-( 1:Int ) ).toNat ( 1:Int ).toNat ( 0:Int ).toNat bj ) )=gL.2.1/\True/\( (pj4 e9).1=(pj4 e9).1/\(pj4 e9).2.1=(pj4 e9).2.1/\( ( [ ]:List SV )=[ ] ) )/\( (pj4 d9).2.2+( 1:Int ) )=gL.2.2.2.2.2.2/\True )/\( ( e9.1=e9.1/\e9.2.1=e9.2.1/\e9.2.2.1=e9.2.2.1/\e9.2.2.2.1=e9.2.2.2.1/\bj=gL.1/\True/\( ( [ ]:List SV )=[ ] ) )/\( ( e9.2.2.1-( 1:Int ) )=gL.2.2.1/\( 1:Int )=gL.2.2.2.1/\( 0:Int )=gL.2.2.2.2.1/\bj=gL.2.2.2.2.2.1/\( ( [ ]:List SV )=[ ] ) )/\( (Q2 (Q2 e9))=(Q2 (Q2 e9))/\( True/\(pj4 e9).2.2.1=(pj4 e9).2.2.1/\(pj4 e9).2.2.2.1=(pj4 e9).2.2.2.1/\True/\True/\True/\True/\(pj4 (pj8 e9)).1=(pj4 (pj8 e9)).1/\True/\True/\(pj4 (pj8 e9)).2.1=(pj4 (pj8 e9)).2.1/\(pj4 (pj8 e9)).2.2.1=(pj4 (pj8 e9)).2.2.1/\True/\True/\True/\True/\True/\True/\True/\True/\True/\True/\True/\True/\True/\True/\True/\True/\True/\True/\True/\True/\True/\True/\True/\True/\True/\True/\True/\True/\True/\True/\True/\True/\True/\True/\True/\True/\(pj4 (pj8 e9)).2.2.2.1=(pj4 (pj8 e9)).2.2.2.1/\(Q2 e9).1=(Q2 e9).1/\(Q2 e9).2.1=(Q2 e9).2.1/\(Q2 e9).2.2.1=(Q2 e9).2.2.1/\(Q2 e9).2.2.2.1=(Q2 e9).2.2.2.1/\True/\(pj4 (Q2 e9)).1=(pj4 (Q2 e9)).1/\True/\(pj4 (Q2 e9)).2.1=(pj4 (Q2 e9)).2.1/\(pj4 (Q2 e9)).2.2.1=(pj4 (Q2 e9)).2.2.1/\(pj4 (Q2 e9)).2.2.2.1=(pj4 (Q2 e9)).2.2.2.1/\True/\(pj8 (Q2 e9)).1=(pj8 (Q2 e9)).1/\True/\(pj8 (Q2 e9)).2.1=(pj8 (Q2 e9)).2.1/\(pj8 (Q2 e9)).2.2.1=(pj8 (Q2 e9)).2.2.1/\( (pj8 (Q2 e9)).2.2.2.1=(pj8 (Q2 e9)).2.2.2.1/\(pj4 (pj8 (Q2 e9))).1=(pj4 (pj8 (Q2 e9))).1/\(pj4 (pj8 (Q2 e9))).2.1=(pj4 (pj8 (Q2 e9))).2.1/\(pj4 (pj8 (Q2 e9))).2.2.1=(pj4 (pj8 (Q2 e9))).2.2.1/\(pj4 (pj8 (Q2 e9))).2.2.2.1=(pj4 (pj8 (Q2 e9))).2.2.2.1/\True/\( ( [ ]:List SV )=[ ] ) )/\True/\True/\True/\True/\True/\True/\True/\True/\True/\True/\True/\True/\True/\True/\True/\True/\True/\True/\True/\( ( [ ]:List SV )=[ ] ) ) )/\( (pj8 e9).1=(pj8 e9).1/\(pj8 e9).2.1=(pj8 e9).2.1/\( ( [ ]:List SV )=[ ] ) )/\( (pj8 e9).2.2.1=(pj8 e9).2.2.1/\True/\( ( [ ]:List SV )=[ ] ) )/\( (pj8 e9).2.2.2.1=(pj8 e9).2.2.2.1/\( List.isEmpty (pj8 e9).2.2.2.1 )=( List.isEmpty (pj8 e9).2.2.2.1 ) )/\True ) )/\q9 gL ) )/\( ( decide ( ( ( Zp e9.1.toNat e9.2.1.toNat ( e9.2.2.1-( 1:Int ) ).toNat bj )+( Qr e9.1.toNat e9.2.1.toNat e9.2.2.2.1.toNat bj ( e9.2.2.1-( 1:Int ) ).toNat ( 1:Int ).toNat ( 0:Int ).toNat bj ) )<d9.2.1 ) )=false->( I64 ( (pj4 d9).2.2+( 1:Int ) ) )/\( ∃ jW:Bool×Int×Int×Int×Int×Bool×Int ,( ( True/\d9.2.1=jW.2.1/\True/\( (pj4 e9).1=(pj4 e9).1/\(pj4 e9).2.1=(pj4 e9).2.1/\( ( [ ]:List SV )=[ ] ) )/\( (pj4 d9).2.2+( 1:Int ) )=jW.2.2.2.2.2.2/\True )/\( ( e9.1=e9.1/\e9.2.1=e9.2.1/\e9.2.2.1=e9.2.2.1/\e9.2.2.2.1=e9.2.2.2.1/\bj=jW.1/\True/\( ( [ ]:List SV )=[ ] ) )/\( d9.2.2.1=jW.2.2.1/\d9.2.2.2.1=jW.2.2.2.1/\(pj4 d9).1=jW.2.2.2.2.1/\(pj4 d9).2.1=jW.2.2.2.2.2.1/\( ( [ ]:List SV )=[ ] ) )/\( (Q2 (Q2 e9))=(Q2 (Q2 e9))/\( True/\(pj4 e9).2.2.1=(pj4 e9).2.2.1/\(pj4 e9).2.2.2.1=(pj4 e9).2.2.2.1/\True/\True/\True/\True/\(pj4 (pj8 e9)).1=(pj4 (pj8 e9)).1/\True/\True/\(pj4 (pj8 e9)).2.1=(pj4 (pj8 e9)).2.1/\(pj4 (pj8 e9)).2.2.1=(pj4 (pj8 e9)).2.2.1/\True/\True/\True/\True/\True/\True/\True/\True/\True/\True/\True/\True/\True/\True/\True/\True/\True/\True/\True/\True/\True/\True/\True/\True/\True/\True/\True/\True/\True/\True/\True/\True/\True/\True/\True/\True/\(pj4 (pj8 e9)).2.2.2.1=(pj4 (pj8 e9)).2.2.2.1/\(Q2 e9).1=(Q2 e9).1/\(Q2 e9).2.1=(Q2 e9).2.1/\(Q2 e9).2.2.1=(Q2 e9).2.2.1/\(Q2 e9).2.2.2.1=(Q2 e9).2.2.2.1/\True/\(pj4 (Q2 e9)).1=(pj4 (Q2 e9)).1/\True/\(pj4 (Q2 e9)).2.1=(pj4 (Q2 e9)).2.1/\(pj4 (Q2 e9)).2.2.1=(pj4 (Q2 e9)).2.2.1/\(pj4 (Q2 e9)).2.2.2.1=(pj4 (Q2 e9)).2.2.2.1/\True/\(pj8 (Q2 e9)).1=(pj8 (Q2 e9)).1/\True/\(pj8 (Q2 e9)).2.1=(pj8 (Q2 e9)).2.1/\(pj8 (Q2 e9)).2.2.1=(pj8 (Q2 e9)).2.2.1/\( (pj8 (Q2 e9)).2.2.2.1=(pj8 (Q2 e9)).2.2.2.1/\(pj4 (pj8 (Q2 e9))).1=(pj4 (pj8 (Q2 e9))).1/\(pj4 (pj8 (Q2 e9))).2.1=(pj4 (pj8 (Q2 e9))).2.1/\(pj4 (pj8 (Q2 e9))).2.2.1=(pj4 (pj8 (Q2 e9))).2.2.1/\(pj4 (pj8 (Q2 e9))).2.2.2.1=(pj4 (pj8 (Q2 e9))).2.2.2.1/\True/\( ( [ ]:List SV )=[ ] ) )/\True/\True/\True/\True/\True/\True/\True/\True/\True/\True/\True/\True/\True/\True/\True/\True/\True/\True/\True/\( ( [ ]:List SV )=[ ] ) ) )/\( (pj8 e9).1=(pj8 e9).1/\(pj8 e9).2.1=(pj8 e9).2.1/\( ( [ ]:List SV )=[ ] ) )/\( (pj8 e9).2.2.1=(pj8 e9).2.2.1/\True/\( ( [ ]:List SV )=[ ] ) )/\( (pj8 e9).2.2.2.1=(pj8 e9).2.2.2.1/\( List.isEmpty (pj8 e9).2.2.2.1 )=( List.isEmpty (pj8 e9).2.2.2.1 ) )/\True ) )/\q9 jW ) ) ):Prop)
abbrev CQ:=λ(d25:(List ((Int×Int×Int×Bool)×Int))×Int) (ao:Int×Int×Int×Int×Bool×Int×(List Int)×Int×Int×(List Int)×Int×(List Int)×Int×Int×Int×(List Int)×Int×Int×Bool×Int×Int×Int×(List Int)×Int×Int×Int×Int×Int×Int×Int×Int×Bool×(List Value)) (ae:Int×Int×Int×Int×Bool×Int×Int×Int×Int×Int×Bool×Int×Bool×Bool×(List Int)×Int×Int×(List Int)×Int×(List Int)×Int×Int×Int×(List Int)×Int×Int×Bool×Int×Int×Int×(List Int)×Int×Int×Int×Int×Int×Int×Int×Int×Bool×(List Value)) (gJ:_->Prop) (lx:_->Prop) (bj:Bool)=>(( ( 0<=(pj4 ae).2.2.2.1/\(pj4 ae).2.2.2.1<=24 )/\( 1<=(pj8 ae).1/\(pj8 ae).1<=24 )/\( 0<=(pj8 ae).2.1/\(pj8 ae).2.1<=24 ) )/\( I64 ( (pj4 ae).2.2.2.1-( 1:Int ) ) )/\( ( 0<=ae.1/\ae.1<16777216 )/\( 0<=ae.2.1/\ae.2.1<16777216 )/\0<=( (pj4 ae).2.2.2.1-( 1:Int ) )/\( (pj4 ae).2.2.2.1-( 1:Int ) )<=24 )/\( ( ( decide ( PA (pj8 ae).1 (pj8 ae).2.2.1 bj<=ae.2.2.2.1 ) )=true->( ( 0<=ae.1/\ae.1<16777216 )/\( 0<=ae.2.1/\ae.2.1<16777216 )/\( 1<=ae.2.2.2.1/\ae.2.2.2.1<=24 )/\( 0<=( (pj4 ae).2.2.2.1-1 )/\( (pj4 ae).2.2.2.1-1 )<=23 )/\( 1<=( PA (pj8 ae).1 (pj8 ae).2.2.1 bj )/\( PA (pj8 ae).1 (pj8 ae).2.2.1 bj )<=24 )/\( 0<=( Es (pj8 ae).1 (pj8 ae).2.1 (pj8 ae).2.2.1 bj )/\( Es (pj8 ae).1 (pj8 ae).2.1 (pj8 ae).2.2.1 bj )<=24 )/\EF ae.1 ae.2.1 ae.2.2.2.1 (pj4 ae).1 d25.1 )/\( ∀ qD:List ( ( Int×Int×Int×Bool )×Int ) ,( EF ae.1 ae.2.1 ae.2.2.2.1 (pj4 ae).1 qD )->( I64 ( ( Zp ae.1.toNat ae.2.1.toNat ( (pj4 ae).2.2.2.1-( 1:Int ) ).toNat bj )+( Qr ae.1.toNat ae.2.1.toNat ae.2.2.2.1.toNat (pj4 ae).1 ( (pj4 ae).2.2.2.1-1 ).toNat ( PA (pj8 ae).1 (pj8 ae).2.2.1 bj ).toNat ( Es (pj8 ae).1 (pj8 ae).2.1 (pj8 ae).2.2.1 bj ).toNat bj ) ) )/\( ( ( ( Zp ae.1.toNat ae.2.1.toNat ( (pj4 ae).2.2.2.1-( 1:Int ) ).toNat bj )+( Qr ae.1.toNat ae.2.1.toNat ae.2.2.2.1.toNat (pj4 ae).1 ( (pj4 ae).2.2.2.1-1 ).toNat ( PA (pj8 ae).1 (pj8 ae).2.2.1 bj ).toNat ( Es (pj8 ae).1 (pj8 ae).2.1 (pj8 ae).2.2.1 bj ).toNat bj ) )==(pj8 ae).2.2.2.1 )=true->( I64 ( (pj8 ae).2.2.2.1-( Zp ae.1.toNat ae.2.1.toNat ( (pj4 ae).2.2.2.1-( 1:Int ) ).toNat bj ) ) )/\( 0<=( 1:Int ) )/\( I64 ( Wk .i64 (pj4 ae).2.1 ( 1:Int ) ) )/\( True )/\( ∃ jX:( List ( ( Int×Int×Int×Bool )×Int ) )×Int×Int×Int×Int×Bool×Int ,( ( True/\( Qf .or .i64 ( Wk .i64 (pj4 ae).2.1 ( 1:Int ) ) ( if bj=true then 1 else 0 ) )=jX.2.1/\(pj4 ae).2.2.1=(pj4 ao).2.1/\True/\( (pj8 ae).2.2.2.1-( Zp ae.1.toNat ae.2.1.toNat ( (pj4 ae).2.2.2.1-( 1:Int ) ).toNat bj ) )=jX.2.2.2.2.2.2/\True )/\( ( ae.1=ao.1/\ae.2.1=ao.2.1/\ae.2.2.1=ao.2.2.1/\ae.2.2.2.1=ao.2.2.2.1/\(pj4 ae).1=(pj4 ao).1/\True/\( ( [ ]:List SV )=[ ] ) )/\( qD=jX.1 )/\( ( (pj4 ae).2.2.2.1-1 )=jX.2.2.1/\( PA (pj8 ae).1 (pj8 ae).2.2.1 bj )=jX.2.2.2.1/\( Es (pj8 ae).1 (pj8 ae).2.1 (pj8 ae).2.2.1 bj )=jX.2.2.2.2.1/\bj=jX.2.2.2.2.2.1/\( ( [ ]:List SV )=[ ] ) )/\( (Q2 (Q2 ao))=(pj8 (Q2 (Q2 ae)))/\( True/\(pj4 (pj8 ae)).2.2.1=(pj4 ao).2.2.1/\(pj4 (pj8 ae)).2.2.2.1=(pj4 ao).2.2.2.1/\True/\True/\True/\True/\(pj4 (Q2 ae)).1=(pj4 (pj8 ao)).1/\True/\True/\(pj4 (Q2 ae)).2.1=(pj4 (pj8 ao)).2.1/\(pj4 (Q2 ae)).2.2.1=(pj4 (pj8 ao)).2.2.1/\True/\True/\True/\True/\True/\True/\True/\True/\True/\True/\True/\True/\True/\True/\True/\True/\True/\True/\True/\True/\True/\True/\True/\True/\True/\True/\True/\True/\True/\True/\True/\True/\True/\True/\True/\True/\(pj4 (Q2 ae)).2.2.2.1=(pj4 (pj8 ao)).2.2.2.1/\(pj8 (Q2 ae)).1=(Q2 ao).1/\(pj8 (Q2 ae)).2.1=(Q2 ao).2.1/\(pj8 (Q2 ae)).2.2.1=(Q2 ao).2.2.1/\(pj8 (Q2 ae)).2.2.2.1=(Q2 ao).2.2.2.1/\True/\(pj4 (pj8 (Q2 ae))).1=(pj4 (Q2 ao)).1/\True/\(pj4 (pj8 (Q2 ae))).2.1=(pj4 (Q2 ao)).2.1/\(pj4 (pj8 (Q2 ae))).2.2.1=(pj4 (Q2 ao)).2.2.1/\(pj4 (pj8 (Q2 ae))).2.2.2.1=(pj4 (Q2 ao)).2.2.2.1/\True/\(Q2 (Q2 ae)).1=(pj8 (Q2 ao)).1/\True/\(Q2 (Q2 ae)).2.1=(pj8 (Q2 ao)).2.1/\(Q2 (Q2 ae)).2.2.1=(pj8 (Q2 ao)).2.2.1/\( (Q2 (Q2 ae)).2.2.2.1=(pj8 (Q2 ao)).2.2.2.1/\(pj4 (Q2 (Q2 ae))).1=(pj4 (pj8 (Q2 ao))).1/\(pj4 (Q2 (Q2 ae))).2.1=(pj4 (pj8 (Q2 ao))).2.1/\(pj4 (Q2 (Q2 ae))).2.2.1=(pj4 (pj8 (Q2 ao))).2.2.1/\(pj4 (Q2 (Q2 ae))).2.2.2.1=(pj4 (pj8 (Q2 ao))).2.2.2.1/\True/\( ( [ ]:List SV )=[ ] ) )/\True/\True/\True/\True/\True/\True/\True/\True/\True/\True/\True/\True/\True/\True/\True/\True/\True/\True/\True/\( ( [ ]:List SV )=[ ] ) ) )/\( (Q2 ae).1=(pj8 ao).1/\(Q2 ae).2.1=(pj8 ao).2.1/\( ( [ ]:List SV )=[ ] ) )/\( (Q2 ae).2.2.1=(pj8 ao).2.2.1/\True/\( ( [ ]:List SV )=[ ] ) )/\( (Q2 ae).2.2.2.1=(pj8 ao).2.2.2.1/\( List.isEmpty (Q2 ae).2.2.2.1 )=( List.isEmpty (pj8 ao).2.2.2.1 ) )/\True ) )/\gJ jX ) )/\( ( ( ( Zp ae.1.toNat ae.2.1.toNat ( (pj4 ae).2.2.2.1-( 1:Int ) ).toNat bj )+( Qr ae.1.toNat ae.2.1.toNat ae.2.2.2.1.toNat (pj4 ae).1 ( (pj4 ae).2.2.2.1-1 ).toNat ( PA (pj8 ae).1 (pj8 ae).2.2.1 bj ).toNat ( Es (pj8 ae).1 (pj8 ae).2.1 (pj8 ae).2.2.1 bj ).toNat bj ) )==(pj8 ae).2.2.2.1 )=false->( I64 ( d25.2+( 1:Int ) ) )/\( ∃ gL:( List ( ( Int×Int×Int×Bool )×Int ) )×Int ,( ( True/\(pj4 ae).2.1=(pj4 ae).2.1/\(pj4 ae).2.2.1=(pj4 ae).2.2.1/\True/\(pj8 ae).2.2.2.1=(pj8 ae).2.2.2.1/\( (pj4 (pj8 ae)).1=(pj4 (pj8 ae)).1/\(pj4 (pj8 ae)).2.1=(pj4 (pj8 ae)).2.1/\( ( [ ]:List SV )=[ ] ) )/\( d25.2+( 1:Int ) )=gL.2/\True )/\( ( ae.1=ae.1/\ae.2.1=ae.2.1/\ae.2.2.1=ae.2.2.1/\ae.2.2.2.1=ae.2.2.2.1/\(pj4 ae).1=(pj4 ae).1/\True/\( ( [ ]:List SV )=[ ] ) )/\( qD=gL.1 )/\( (pj4 ae).2.2.2.1=(pj4 ae).2.2.2.1/\(pj8 ae).1=(pj8 ae).1/\(pj8 ae).2.1=(pj8 ae).2.1/\(pj8 ae).2.2.1=(pj8 ae).2.2.1/\( ( [ ]:List SV )=[ ] ) )/\( (pj8 (Q2 (Q2 ae)))=(pj8 (Q2 (Q2 ae)))/\( True/\(pj4 (pj8 ae)).2.2.1=(pj4 (pj8 ae)).2.2.1/\(pj4 (pj8 ae)).2.2.2.1=(pj4 (pj8 ae)).2.2.2.1/\True/\True/\True/\True/\(pj4 (Q2 ae)).1=(pj4 (Q2 ae)).1/\True/\True/\(pj4 (Q2 ae)).2.1=(pj4 (Q2 ae)).2.1/\(pj4 (Q2 ae)).2.2.1=(pj4 (Q2 ae)).2.2.1/\True/\True/\True/\True/\True/\True/\True/\True/\True/\True/\True/\True/\True/\True/\True/\True/\True/\True/\True/\True/\True/\True/\True/\True/\True/\True/\True/\True/\True/\True/\True/\True/\True/\True/\True/\True/\(pj4 (Q2 ae)).2.2.2.1=(pj4 (Q2 ae)).2.2.2.1/\(pj8 (Q2 ae)).1=(pj8 (Q2 ae)).1/\(pj8 (Q2 ae)).2.1=(pj8 (Q2 ae)).2.1/\(pj8 (Q2 ae)).2.2.1=(pj8 (Q2 ae)).2.2.1/\(pj8 (Q2 ae)).2.2.2.1=(pj8 (Q2 ae)).2.2.2.1/\True/\(pj4 (pj8 (Q2 ae))).1=(pj4 (pj8 (Q2 ae))).1/\True/\(pj4 (pj8 (Q2 ae))).2.1=(pj4 (pj8 (Q2 ae))).2.1/\(pj4 (pj8 (Q2 ae))).2.2.1=(pj4 (pj8 (Q2 ae))).2.2.1/\(pj4 (pj8 (Q2 ae))).2.2.2.1=(pj4 (pj8 (Q2 ae))).2.2.2.1/\True/\(Q2 (Q2 ae)).1=(Q2 (Q2 ae)).1/\True/\(Q2 (Q2 ae)).2.1=(Q2 (Q2 ae)).2.1/\(Q2 (Q2 ae)).2.2.1=(Q2 (Q2 ae)).2.2.1/\( (Q2 (Q2 ae)).2.2.2.1=(Q2 (Q2 ae)).2.2.2.1/\(pj4 (Q2 (Q2 ae))).1=(pj4 (Q2 (Q2 ae))).1/\(pj4 (Q2 (Q2 ae))).2.1=(pj4 (Q2 (Q2 ae))).2.1/\(pj4 (Q2 (Q2 ae))).2.2.1=(pj4 (Q2 (Q2 ae))).2.2.1/\(pj4 (Q2 (Q2 ae))).2.2.2.1=(pj4 (Q2 (Q2 ae))).2.2.2.1/\True/\( ( [ ]:List SV )=[ ] ) )/\True/\True/\True/\True/\True/\True/\True/\True/\True/\True/\True/\True/\True/\True/\True/\True/\True/\True/\True/\( ( [ ]:List SV )=[ ] ) ) )/\( (Q2 ae).1=(Q2 ae).1/\(Q2 ae).2.1=(Q2 ae).2.1/\( ( [ ]:List SV )=[ ] ) )/\( (Q2 ae).2.2.1=(Q2 ae).2.2.1/\True/\( ( [ ]:List SV )=[ ] ) )/\( (Q2 ae).2.2.2.1=(Q2 ae).2.2.2.1/\( List.isEmpty (Q2 ae).2.2.2.1 )=( List.isEmpty (Q2 ae).2.2.2.1 ) )/\True ) )/\lx gL ) ) ) )/\( ( decide ( PA (pj8 ae).1 (pj8 ae).2.2.1 bj<=ae.2.2.2.1 ) )=false->( Q0w d25 ao ae gJ lx bj ) ) ):Prop)
abbrev G2 (hd:Int) (rows:List Int) (aA:List Int) (bd:Int):=((0:Int)=(if Q6 hd rows aA bd=0 then hd else 0)/\True/\(([]:List SV)=[]))
abbrev NA :=(List ((Int×Int×Int×Bool)×Int))
abbrev GD (hd:Int) (rows:List Int) (aA:List Int) (bd:Int):=(((QJ hd rows aA bd)=[]/\(QJ hd rows aA bd).isEmpty=true)/\True)
def VE (hd:Int) (rows:List Int) (aA:List Int) (bd:Int):Prop :=
  (rows.length <= 1000000) /\ (((Qb hd rows) != (0:Int)) = true ->
    (((G2 hd rows aA bd) /\ (0:Int) = (DQ hd rows aA bd) /\ (Qb hd rows) = (Q6 hd rows aA bd) /\ (([]:List SV) = [])) /\ (GD hd rows aA bd))) /\
  (((Qb hd rows) != (0:Int)) = false ->
    (((lI aA) != (lI rows)) = true ->
      (((G2 hd rows aA bd) /\ (0:Int) = (DQ hd rows aA bd) /\ (4:Int) = (Q6 hd rows aA bd) /\ (([]:List SV) = [])) /\ (GD hd rows aA bd))) /\
    (((lI aA) != (lI rows)) = false ->
      (0 <= hd) /\ (I64 (Wk .i64 (1:Int) hd)) /\ (I64 ((Wk .i64 (1:Int) hd) - (1:Int))) /\ (aA.length <= 1000000) /\ ((!(!(aA.any λn => decide (n < (0:Int)) || decide (((Wk .i64 (1:Int) hd) - (1:Int)) < n)))) = true ->
        (((G2 hd rows aA bd) /\ (0:Int) = (DQ hd rows aA bd) /\ (2:Int) = (Q6 hd rows aA bd) /\ (([]:List SV) = [])) /\ (GD hd rows aA bd))) /\
      ((!(!(aA.any λn => decide (n < (0:Int)) || decide (((Wk .i64 (1:Int) hd) - (1:Int)) < n)))) = false ->
        ([bd].length <= 1000000) /\ ((!(!([bd].any λn => decide (n < (1:Int)) || decide ((24:Int) < n)))) = true ->
          (((G2 hd rows aA bd) /\ (0:Int) = (DQ hd rows aA bd) /\ (3:Int) = (Q6 hd rows aA bd) /\ (([]:List SV) = [])) /\ (GD hd rows aA bd))) /\
        ((!(!([bd].any λn => decide (n < (1:Int)) || decide ((24:Int) < n)))) = false ->
          ∃ (e4:Unit) (d40:(List Int) × Int × Int), ((aA = aA /\ bd = bd /\ True /\ True /\ (0:Int) = d40.2.1 /\ rows = rows /\ (lI rows) = (lI rows) /\ (0:Int) = d40.2.2 /\ True) /\ ((hd = hd /\ rows = rows /\ (([]:List SV) = [])) /\ (hd = hd /\ True /\ (([]:List SV) = [])) /\ (d40.1 = [] /\ (List.isEmpty d40.1) = true) /\ True)) /\
          LoopP (λ(d4:(List Int) × Int × Int) (q4:((List Int) × Int × Int) -> Prop) =>
            ((decide (d4.2.2 < (lI rows))) = true ->
              (0 <= d4.2.2) /\ (d4.2.2 < (List.length rows)) /\ (0 <= d4.2.2) /\ (d4.2.2 < (List.length aA)) /\ ∀ w5:List Value, ∃ (e9:Int × Int × Int × Int × Bool × Bool × (List Int) × Int × Int × (List Int) × Int × (List Int) × Int × Int × Int × (List Int) × Int × Int × Bool × Int × Int × Int × (List Int) × Int × Int × Int × Int × Int × Int × Int × Int × Bool × (List Value)) (d90:Bool × Int × Int × Int × Int × Bool × Int), ((True /\ (1048576:Int) = d90.2.1 /\ True /\ (false = (pj4 e9).1 /\ true = (pj4 e9).2.1 /\ (([]:List SV) = [])) /\ (0:Int) = (pj4 d90).2.2 /\ True) /\ (((gD rows d4.2.2 0) = e9.1 /\ (gD aA d4.2.2 0) = e9.2.1 /\ hd = e9.2.2.1 /\ bd = e9.2.2.2.1 /\ false = d90.1 /\ True /\ (([]:List SV) = [])) /\ ((0:Int) = d90.2.2.1 /\ (0:Int) = d90.2.2.2.1 /\ (0:Int) = (pj4 d90).1 /\ false = (pj4 d90).2.1 /\ (([]:List SV) = [])) /\ ((Q2 (Q2 e9)) = w5 /\ (True /\ aA = (pj4 e9).2.2.1 /\ bd = (pj4 e9).2.2.2.1 /\ True /\ True /\ True /\ True /\ d4.2.1 = (pj4 (pj8 e9)).1 /\ True /\ True /\ d4.2.2 = (pj4 (pj8 e9)).2.1 /\ (gD rows d4.2.2 0) = (pj4 (pj8 e9)).2.2.1 /\ True /\ True /\ True /\ True /\ True /\ True /\ True /\ True /\ True /\ True /\ True /\ True /\ True /\ True /\ True /\ True /\ True /\ True /\ True /\ True /\ True /\ True /\ True /\ True /\ True /\ True /\ True /\ True /\ True /\ True /\ True /\ True /\ True /\ True /\ True /\ True /\ rows = (pj4 (pj8 e9)).2.2.2.1 /\ (lI rows) = (Q2 e9).1 /\ d4.2.2 = (Q2 e9).2.1 /\ (decide (d4.2.2 < (lI rows))) = (Q2 e9).2.2.1 /\ d4.2.2 = (Q2 e9).2.2.2.1 /\ True /\ (gD rows d4.2.2 0) = (pj4 (Q2 e9)).1 /\ True /\ (gD rows d4.2.2 0) = (pj4 (Q2 e9)).2.1 /\ aA = (pj4 (Q2 e9)).2.2.1 /\ d4.2.2 = (pj4 (Q2 e9)).2.2.2.1 /\ True /\ (gD aA d4.2.2 0) = (pj8 (Q2 e9)).1 /\ True /\ hd = (pj8 (Q2 e9)).2.1 /\ bd = (pj8 (Q2 e9)).2.2.1 /\ ((gD rows d4.2.2 0) = (pj8 (Q2 e9)).2.2.2.1 /\ (gD aA d4.2.2 0) = (pj4 (pj8 (Q2 e9))).1 /\ hd = (pj4 (pj8 (Q2 e9))).2.1 /\ bd = (pj4 (pj8 (Q2 e9))).2.2.1 /\ false = (pj4 (pj8 (Q2 e9))).2.2.2.1 /\ True /\ (([]:List SV) = [])) /\ True /\ True /\ True /\ True /\ True /\ True /\ True /\ True /\ True /\ True /\ True /\ True /\ True /\ True /\ True /\ True /\ True /\ True /\ True /\ (([]:List SV) = []))) /\ (hd = (pj8 e9).1 /\ rows = (pj8 e9).2.1 /\ (([]:List SV) = [])) /\ (hd = (pj8 e9).2.2.1 /\ True /\ (([]:List SV) = [])) /\ (d4.1 = (pj8 e9).2.2.2.1 /\ (List.isEmpty d4.1) = (List.isEmpty (pj8 e9).2.2.2.1)) /\ True)) /\
              LoopP (λ(d9:Bool × Int × Int × Int × Int × Bool × Int) (q9:(Bool × Int × Int × Int × Int × Bool × Int) -> Prop) =>
                ((decide ((pj4 d9).2.2 < (2:Int))) = true ->
                  (0 <= (pj4 d9).2.2) /\ ((pj4 d9).2.2 < (2:Int)) /\
                  ((pj4 d9).2.2 = (0:Int) ->
                     (Ch d9 e9 q9 (pj4 e9).1)) /\
                  ((pj4 d9).2.2 = (1:Int) ->
                     (Ch d9 e9 q9 (pj4 e9).2.1)) /\
                  True) /\
                ((decide ((pj4 d9).2.2 < (2:Int))) = false ->
                  ((decide (d9.2.1 >= (1048576:Int))) = true ->
                    (Q2 (Q2 e9)) = w5 /\ ((decide ((1048576:Int) >= (1048576:Int))) = true ->
                      (((G2 hd rows aA bd) /\ (0:Int) = (DQ hd rows aA bd) /\ (9:Int) = (Q6 hd rows aA bd) /\ (([]:List SV) = [])) /\ (GD hd rows aA bd))) /\
                    ((decide ((1048576:Int) >= (1048576:Int))) = false ->
                      (((List.length (pj8 e9).2.2.2.1) + (List.length [(0:Int)])) * 8 <= 70368744177664) /\ (I64 ((pj4 (pj8 e9)).1 + (1048576:Int))) /\ (I64 ((Q2 e9).2.1 + (1:Int))) /\ (∃ d18:(List Int) × Int × Int, (((pj4 e9).2.2.1 = aA /\ (pj4 e9).2.2.2.1 = bd /\ True /\ True /\ ((pj4 (pj8 e9)).1 + (1048576:Int)) = d18.2.1 /\ (pj4 (pj8 e9)).2.2.2.1 = rows /\ (Q2 e9).1 = (lI rows) /\ ((Q2 e9).2.1 + (1:Int)) = d18.2.2 /\ True) /\ (((pj8 e9).1 = hd /\ (pj8 e9).2.1 = rows /\ (([]:List SV) = [])) /\ ((pj8 e9).2.2.1 = hd /\ True /\ (([]:List SV) = [])) /\ (((pj8 e9).2.2.2.1 ++ [(0:Int)]) = d18.1 /\ false = (List.isEmpty d18.1)) /\ True)) /\ q4 d18))) /\
                  ((decide (d9.2.1 >= (1048576:Int))) = false ->
                    ∀ qE:List Value, (I64 (e9.2.2.1 - (1:Int))) /\ qE = qE /\ (I64 (e9.2.2.1 - (1:Int))) /\ ((0 <= e9.1 /\ e9.1 < 16777216) /\ (0 <= e9.2.1 /\ e9.2.1 < 16777216) /\ 0 <= (e9.2.2.1 - (1:Int)) /\ (e9.2.2.1 - (1:Int)) <= 24) /\ (I64 (d9.2.1 - (Zp e9.1.toNat e9.2.1.toNat (e9.2.2.1 - (1:Int)).toNat (pj4 d9).2.1))) /\ (True) /\ ∃ (ao:Int × Int × Int × Int × Bool × Int × (List Int) × Int × Int × (List Int) × Int × (List Int) × Int × Int × Int × (List Int) × Int × Int × Bool × Int × Int × Int × (List Int) × Int × Int × Int × Int × Int × Int × Int × Int × Bool × (List Value)) (cX:NA × Int × Int × Int × Int × Bool × Int), ((True /\ (if (pj4 d9).2.1 = true then 1 else 0) = cX.2.1 /\ d9.2.1 = (pj4 ao).2.1 /\ True /\ (d9.2.1 - (Zp e9.1.toNat e9.2.1.toNat (e9.2.2.1 - (1:Int)).toNat (pj4 d9).2.1)) = (pj4 cX).2.2 /\ True) /\ ((e9.1 = ao.1 /\ e9.2.1 = ao.2.1 /\ e9.2.2.1 = ao.2.2.1 /\ e9.2.2.2.1 = ao.2.2.2.1 /\ (pj4 d9).2.1 = (pj4 ao).1 /\ True /\ (([]:List SV) = [])) /\ (([]:List ((Int × Int × Int × Bool) × Int)) = cX.1) /\ (d9.2.2.1 = cX.2.2.1 /\ d9.2.2.2.1 = cX.2.2.2.1 /\ (pj4 d9).1 = (pj4 cX).1 /\ (pj4 d9).2.1 = (pj4 cX).2.1 /\ (([]:List SV) = [])) /\ ((Q2 (Q2 ao)) = (Q2 (Q2 e9)) /\ (True /\ (pj4 e9).2.2.1 = (pj4 ao).2.2.1 /\ (pj4 e9).2.2.2.1 = (pj4 ao).2.2.2.1 /\ True /\ True /\ True /\ True /\ (pj4 (pj8 e9)).1 = (pj4 (pj8 ao)).1 /\ True /\ True /\ (pj4 (pj8 e9)).2.1 = (pj4 (pj8 ao)).2.1 /\ (pj4 (pj8 e9)).2.2.1 = (pj4 (pj8 ao)).2.2.1 /\ True /\ True /\ True /\ True /\ True /\ True /\ True /\ True /\ True /\ True /\ True /\ True /\ True /\ True /\ True /\ True /\ True /\ True /\ True /\ True /\ True /\ True /\ True /\ True /\ True /\ True /\ True /\ True /\ True /\ True /\ True /\ True /\ True /\ True /\ True /\ True /\ (pj4 (pj8 e9)).2.2.2.1 = (pj4 (pj8 ao)).2.2.2.1 /\ (Q2 e9).1 = (Q2 ao).1 /\ (Q2 e9).2.1 = (Q2 ao).2.1 /\ (Q2 e9).2.2.1 = (Q2 ao).2.2.1 /\ (Q2 e9).2.2.2.1 = (Q2 ao).2.2.2.1 /\ True /\ (pj4 (Q2 e9)).1 = (pj4 (Q2 ao)).1 /\ True /\ (pj4 (Q2 e9)).2.1 = (pj4 (Q2 ao)).2.1 /\ (pj4 (Q2 e9)).2.2.1 = (pj4 (Q2 ao)).2.2.1 /\ (pj4 (Q2 e9)).2.2.2.1 = (pj4 (Q2 ao)).2.2.2.1 /\ True /\ (pj8 (Q2 e9)).1 = (pj8 (Q2 ao)).1 /\ True /\ (pj8 (Q2 e9)).2.1 = (pj8 (Q2 ao)).2.1 /\ (pj8 (Q2 e9)).2.2.1 = (pj8 (Q2 ao)).2.2.1 /\ ((pj8 (Q2 e9)).2.2.2.1 = (pj8 (Q2 ao)).2.2.2.1 /\ (pj4 (pj8 (Q2 e9))).1 = (pj4 (pj8 (Q2 ao))).1 /\ (pj4 (pj8 (Q2 e9))).2.1 = (pj4 (pj8 (Q2 ao))).2.1 /\ (pj4 (pj8 (Q2 e9))).2.2.1 = (pj4 (pj8 (Q2 ao))).2.2.1 /\ (pj4 (pj8 (Q2 e9))).2.2.2.1 = (pj4 (pj8 (Q2 ao))).2.2.2.1 /\ True /\ (([]:List SV) = [])) /\ True /\ True /\ True /\ True /\ True /\ True /\ True /\ True /\ True /\ True /\ True /\ True /\ True /\ True /\ True /\ True /\ True /\ True /\ True /\ (([]:List SV) = []))) /\ ((pj8 e9).1 = (pj8 ao).1 /\ (pj8 e9).2.1 = (pj8 ao).2.1 /\ (([]:List SV) = [])) /\ ((pj8 e9).2.2.1 = (pj8 ao).2.2.1 /\ True /\ (([]:List SV) = [])) /\ ((pj8 e9).2.2.2.1 = (pj8 ao).2.2.2.1 /\ (List.isEmpty (pj8 e9).2.2.2.1) = (List.isEmpty (pj8 ao).2.2.2.1)) /\ True)) /\
                    LoopP (λ(d22:NA × Int × Int × Int × Int × Bool × Int) (gJ:(NA × Int × Int × Int × Int × Bool × Int) -> Prop) =>
                      ((decide (d22.2.2.1 > (0:Int))) = true ->
                        ∃ (ae:Int × Int × Int × Int × Bool × Int × Int × Int × Int × Int × Bool × Int × Bool × Bool × (List Int) × Int × Int × (List Int) × Int × (List Int) × Int × Int × Int × (List Int) × Int × Int × Bool × Int × Int × Int × (List Int) × Int × Int × Int × Int × Int × Int × Int × Int × Bool × (List Value)) (ly:NA × Int), ((True /\ d22.2.1 = (pj4 ae).2.1 /\ (pj4 ao).2.1 = (pj4 ae).2.2.1 /\ True /\ (pj4 d22).2.2 = (pj8 ae).2.2.2.1 /\ (false = (pj4 (pj8 ae)).1 /\ true = (pj4 (pj8 ae)).2.1 /\ (([]:List SV) = [])) /\ (0:Int) = ly.2 /\ True) /\ ((ao.1 = ae.1 /\ ao.2.1 = ae.2.1 /\ ao.2.2.1 = ae.2.2.1 /\ ao.2.2.2.1 = ae.2.2.2.1 /\ (pj4 ao).1 = (pj4 ae).1 /\ True /\ (([]:List SV) = [])) /\ (d22.1 = ly.1) /\ (d22.2.2.1 = (pj4 ae).2.2.2.1 /\ d22.2.2.2.1 = (pj8 ae).1 /\ (pj4 d22).1 = (pj8 ae).2.1 /\ (pj4 d22).2.1 = (pj8 ae).2.2.1 /\ (([]:List SV) = [])) /\ ((pj8 (Q2 (Q2 ae))) = (Q2 (Q2 ao)) /\ (True /\ (pj4 ao).2.2.1 = (pj4 (pj8 ae)).2.2.1 /\ (pj4 ao).2.2.2.1 = (pj4 (pj8 ae)).2.2.2.1 /\ True /\ True /\ True /\ True /\ (pj4 (pj8 ao)).1 = (pj4 (Q2 ae)).1 /\ True /\ True /\ (pj4 (pj8 ao)).2.1 = (pj4 (Q2 ae)).2.1 /\ (pj4 (pj8 ao)).2.2.1 = (pj4 (Q2 ae)).2.2.1 /\ True /\ True /\ True /\ True /\ True /\ True /\ True /\ True /\ True /\ True /\ True /\ True /\ True /\ True /\ True /\ True /\ True /\ True /\ True /\ True /\ True /\ True /\ True /\ True /\ True /\ True /\ True /\ True /\ True /\ True /\ True /\ True /\ True /\ True /\ True /\ True /\ (pj4 (pj8 ao)).2.2.2.1 = (pj4 (Q2 ae)).2.2.2.1 /\ (Q2 ao).1 = (pj8 (Q2 ae)).1 /\ (Q2 ao).2.1 = (pj8 (Q2 ae)).2.1 /\ (Q2 ao).2.2.1 = (pj8 (Q2 ae)).2.2.1 /\ (Q2 ao).2.2.2.1 = (pj8 (Q2 ae)).2.2.2.1 /\ True /\ (pj4 (Q2 ao)).1 = (pj4 (pj8 (Q2 ae))).1 /\ True /\ (pj4 (Q2 ao)).2.1 = (pj4 (pj8 (Q2 ae))).2.1 /\ (pj4 (Q2 ao)).2.2.1 = (pj4 (pj8 (Q2 ae))).2.2.1 /\ (pj4 (Q2 ao)).2.2.2.1 = (pj4 (pj8 (Q2 ae))).2.2.2.1 /\ True /\ (pj8 (Q2 ao)).1 = (Q2 (Q2 ae)).1 /\ True /\ (pj8 (Q2 ao)).2.1 = (Q2 (Q2 ae)).2.1 /\ (pj8 (Q2 ao)).2.2.1 = (Q2 (Q2 ae)).2.2.1 /\ ((pj8 (Q2 ao)).2.2.2.1 = (Q2 (Q2 ae)).2.2.2.1 /\ (pj4 (pj8 (Q2 ao))).1 = (pj4 (Q2 (Q2 ae))).1 /\ (pj4 (pj8 (Q2 ao))).2.1 = (pj4 (Q2 (Q2 ae))).2.1 /\ (pj4 (pj8 (Q2 ao))).2.2.1 = (pj4 (Q2 (Q2 ae))).2.2.1 /\ (pj4 (pj8 (Q2 ao))).2.2.2.1 = (pj4 (Q2 (Q2 ae))).2.2.2.1 /\ True /\ (([]:List SV) = [])) /\ True /\ True /\ True /\ True /\ True /\ True /\ True /\ True /\ True /\ True /\ True /\ True /\ True /\ True /\ True /\ True /\ True /\ True /\ True /\ (([]:List SV) = []))) /\ ((pj8 ao).1 = (Q2 ae).1 /\ (pj8 ao).2.1 = (Q2 ae).2.1 /\ (([]:List SV) = [])) /\ ((pj8 ao).2.2.1 = (Q2 ae).2.2.1 /\ True /\ (([]:List SV) = [])) /\ ((pj8 ao).2.2.2.1 = (Q2 ae).2.2.2.1 /\ (List.isEmpty (pj8 ao).2.2.2.1) = (List.isEmpty (Q2 ae).2.2.2.1)) /\ True)) /\
                        LoopP (λ(d25:NA × Int) (lx:(NA × Int) -> Prop) =>
                          ((decide (d25.2 < (2:Int))) = true ->
                            (0 <= d25.2) /\ (d25.2 < (2:Int)) /\
                            (d25.2 = (0:Int) ->
                               (CQ d25 ao ae gJ lx (pj4 (pj8 ae)).1)) /\
                            (d25.2 = (1:Int) ->
                               (CQ d25 ao ae gJ lx (pj4 (pj8 ae)).2.1)) /\
                            True) /\
                          ((decide (d25.2 < (2:Int))) = false ->
                            (∃ d36:NA × Int × Int × Int × Int × Bool × Int, ((True /\ (pj4 ae).2.1 = d36.2.1 /\ (pj4 ae).2.2.1 = (pj4 ao).2.1 /\ True /\ (pj8 ae).2.2.2.1 = (pj4 d36).2.2 /\ True) /\ ((ae.1 = ao.1 /\ ae.2.1 = ao.2.1 /\ ae.2.2.1 = ao.2.2.1 /\ ae.2.2.2.1 = ao.2.2.2.1 /\ (pj4 ae).1 = (pj4 ao).1 /\ True /\ (([]:List SV) = [])) /\ (d25.1 = d36.1) /\ ((pj4 ae).2.2.2.1 = d36.2.2.1 /\ (pj8 ae).1 = d36.2.2.2.1 /\ (pj8 ae).2.1 = (pj4 d36).1 /\ (pj8 ae).2.2.1 = (pj4 d36).2.1 /\ (([]:List SV) = [])) /\ ((Q2 (Q2 ao)) = (pj8 (Q2 (Q2 ae))) /\ (True /\ (pj4 (pj8 ae)).2.2.1 = (pj4 ao).2.2.1 /\ (pj4 (pj8 ae)).2.2.2.1 = (pj4 ao).2.2.2.1 /\ True /\ True /\ True /\ True /\ (pj4 (Q2 ae)).1 = (pj4 (pj8 ao)).1 /\ True /\ True /\ (pj4 (Q2 ae)).2.1 = (pj4 (pj8 ao)).2.1 /\ (pj4 (Q2 ae)).2.2.1 = (pj4 (pj8 ao)).2.2.1 /\ True /\ True /\ True /\ True /\ True /\ True /\ True /\ True /\ True /\ True /\ True /\ True /\ True /\ True /\ True /\ True /\ True /\ True /\ True /\ True /\ True /\ True /\ True /\ True /\ True /\ True /\ True /\ True /\ True /\ True /\ True /\ True /\ True /\ True /\ True /\ True /\ (pj4 (Q2 ae)).2.2.2.1 = (pj4 (pj8 ao)).2.2.2.1 /\ (pj8 (Q2 ae)).1 = (Q2 ao).1 /\ (pj8 (Q2 ae)).2.1 = (Q2 ao).2.1 /\ (pj8 (Q2 ae)).2.2.1 = (Q2 ao).2.2.1 /\ (pj8 (Q2 ae)).2.2.2.1 = (Q2 ao).2.2.2.1 /\ True /\ (pj4 (pj8 (Q2 ae))).1 = (pj4 (Q2 ao)).1 /\ True /\ (pj4 (pj8 (Q2 ae))).2.1 = (pj4 (Q2 ao)).2.1 /\ (pj4 (pj8 (Q2 ae))).2.2.1 = (pj4 (Q2 ao)).2.2.1 /\ (pj4 (pj8 (Q2 ae))).2.2.2.1 = (pj4 (Q2 ao)).2.2.2.1 /\ True /\ (Q2 (Q2 ae)).1 = (pj8 (Q2 ao)).1 /\ True /\ (Q2 (Q2 ae)).2.1 = (pj8 (Q2 ao)).2.1 /\ (Q2 (Q2 ae)).2.2.1 = (pj8 (Q2 ao)).2.2.1 /\ ((Q2 (Q2 ae)).2.2.2.1 = (pj8 (Q2 ao)).2.2.2.1 /\ (pj4 (Q2 (Q2 ae))).1 = (pj4 (pj8 (Q2 ao))).1 /\ (pj4 (Q2 (Q2 ae))).2.1 = (pj4 (pj8 (Q2 ao))).2.1 /\ (pj4 (Q2 (Q2 ae))).2.2.1 = (pj4 (pj8 (Q2 ao))).2.2.1 /\ (pj4 (Q2 (Q2 ae))).2.2.2.1 = (pj4 (pj8 (Q2 ao))).2.2.2.1 /\ True /\ (([]:List SV) = [])) /\ True /\ True /\ True /\ True /\ True /\ True /\ True /\ True /\ True /\ True /\ True /\ True /\ True /\ True /\ True /\ True /\ True /\ True /\ True /\ (([]:List SV) = []))) /\ ((Q2 ae).1 = (pj8 ao).1 /\ (Q2 ae).2.1 = (pj8 ao).2.1 /\ (([]:List SV) = [])) /\ ((Q2 ae).2.2.1 = (pj8 ao).2.2.1 /\ True /\ (([]:List SV) = [])) /\ ((Q2 ae).2.2.2.1 = (pj8 ao).2.2.2.1 /\ (List.isEmpty (Q2 ae).2.2.2.1) = (List.isEmpty (pj8 ao).2.2.2.1)) /\ True)) /\ gJ d36))) ly) /\
                      ((decide (d22.2.2.1 > (0:Int))) = false ->
                        (Q2 (Q2 ao)) = w5 /\ ((decide ((pj4 ao).2.1 >= (1048576:Int))) = true ->
                          (((G2 hd rows aA bd) /\ (0:Int) = (DQ hd rows aA bd) /\ (9:Int) = (Q6 hd rows aA bd) /\ (([]:List SV) = [])) /\ (GD hd rows aA bd))) /\
                        ((decide ((pj4 ao).2.1 >= (1048576:Int))) = false ->
                          (((List.length (pj8 ao).2.2.2.1) + (List.length [d22.2.1])) * 8 <= 70368744177664) /\ (I64 ((pj4 (pj8 ao)).1 + (pj4 ao).2.1)) /\ (I64 ((Q2 ao).2.1 + (1:Int))) /\ (∃ d37:(List Int) × Int × Int, (((pj4 ao).2.2.1 = aA /\ (pj4 ao).2.2.2.1 = bd /\ True /\ True /\ ((pj4 (pj8 ao)).1 + (pj4 ao).2.1) = d37.2.1 /\ (pj4 (pj8 ao)).2.2.2.1 = rows /\ (Q2 ao).1 = (lI rows) /\ ((Q2 ao).2.1 + (1:Int)) = d37.2.2 /\ True) /\ (((pj8 ao).1 = hd /\ (pj8 ao).2.1 = rows /\ (([]:List SV) = [])) /\ ((pj8 ao).2.2.1 = hd /\ True /\ (([]:List SV) = [])) /\ (((pj8 ao).2.2.2.1 ++ [d22.2.1]) = d37.1 /\ false = (List.isEmpty d37.1)) /\ True)) /\ q4 d37)))) cX))) d90) /\
            ((decide (d4.2.2 < (lI rows))) = false ->
              (((hd = (if Q6 hd rows aA bd = 0 then hd else 0) /\ True /\ (([]:List SV) = [])) /\ d4.2.1 = (DQ hd rows aA bd) /\ (0:Int) = (Q6 hd rows aA bd) /\ (([]:List SV) = [])) /\ ((d4.1 = (QJ hd rows aA bd) /\ (List.isEmpty d4.1) = (QJ hd rows aA bd).isEmpty) /\ True)))) d40))))
def QW:Cx:=⟨[(1000008,(.pair (.pair (.i .i64) (.pair (.i .i64) (.pair (.i .i64) .bo))) (.i .i64)))],[],20,[],0,[],[],[],[],false,[],[],[],[]⟩
def QV:List (Nat×LoopAnn):=[]
def JR:Cx:=⟨[],[(45,Xb),(47,Tc),(48,X6)],102,[],0,[(44,Q5s QW (λ_=>QV) c44 [.cell 4 true 4] 20),(46,Wi)],[],[],[],false,[],[],[81],[(46,5)]⟩
def JO:List (Nat×LoopAnn):=[(0,⟨Int×Int×Int×Int×Bool×Bool×(List Int)×Int×Int×(List Int)×Int×(List Int)×Int×Int×Int×(List Int)×Int×Int×Bool×Int×Int×Int×(List Int)×Int×Int×Int×Int×Int×Int×Int×Int×Bool×(List Value),Bool×Int×Int×Int×Int×Bool×Int,[0,3,4,15,16],λe x=>[.box 65 0,.val (.i .i64) x.2.1,.box 6700004 0,.agg [.val .bo e.2.2.2.2.1,.val .bo e.2.2.2.2.2.1],.val (.i .i64) x.2.2.2.2.2.2],λe x=>[(65,.slot 0,.cells [.val (.i .i64) e.1,.val (.i .i64) e.2.1,.val (.i .i64) e.2.2.1,.val (.i .i64) e.2.2.2.1,.val .bo x.1,.any] (some 62)),(6700004,.slot 4,.cells [.val (.i .i64) x.2.2.1,.val (.i .i64) x.2.2.2.1,.val (.i .i64) x.2.2.2.2.1,.val .bo x.2.2.2.2.2.1] (some 98)),(6699999,.key 6699999,.stk [.any,.val (.list (.i .i64)) e.2.2.2.2.2.2.1,.val (.i .i64) e.2.2.2.2.2.2.2.1,.box 3 0,.any,.any,.box 6 0,.val (.i .i64) e.2.2.2.2.2.2.2.2.2.2.2.2.1,.any,.any,.val (.i .i64) e.2.2.2.2.2.2.2.2.2.2.2.2.2.1,.val (.i .i64) e.2.2.2.2.2.2.2.2.2.2.2.2.2.2.1,.any,.any,.any,.any,.any,.any,.any,.any,.any,.any,.any,.any,.any,.any,.any,.any,.any,.any,.any,.any,.any,.any,.any,.any,.any,.any,.any,.any,.any,.any,.any,.any,.any,.any,.any,.any,.val (.list (.i .i64)) e.2.2.2.2.2.2.2.2.2.2.2.2.2.2.2.1,.val (.i .i64) e.2.2.2.2.2.2.2.2.2.2.2.2.2.2.2.2.1,.val (.i .i64) e.2.2.2.2.2.2.2.2.2.2.2.2.2.2.2.2.2.1,.val .bo e.2.2.2.2.2.2.2.2.2.2.2.2.2.2.2.2.2.2.1,.val (.i .i64) e.2.2.2.2.2.2.2.2.2.2.2.2.2.2.2.2.2.2.2.1,.any,.val (.i .i64) e.2.2.2.2.2.2.2.2.2.2.2.2.2.2.2.2.2.2.2.2.1,.any,.val (.i .i64) e.2.2.2.2.2.2.2.2.2.2.2.2.2.2.2.2.2.2.2.2.2.1,.val (.list (.i .i64)) e.2.2.2.2.2.2.2.2.2.2.2.2.2.2.2.2.2.2.2.2.2.2.1,.val (.i .i64) e.2.2.2.2.2.2.2.2.2.2.2.2.2.2.2.2.2.2.2.2.2.2.2.1,.any,.val (.i .i64) e.2.2.2.2.2.2.2.2.2.2.2.2.2.2.2.2.2.2.2.2.2.2.2.2.1,.box 3 0,.val (.i .i64) e.2.2.2.2.2.2.2.2.2.2.2.2.2.2.2.2.2.2.2.2.2.2.2.2.2.1,.val (.i .i64) e.2.2.2.2.2.2.2.2.2.2.2.2.2.2.2.2.2.2.2.2.2.2.2.2.2.2.1,.agg [.val (.i .i64) e.2.2.2.2.2.2.2.2.2.2.2.2.2.2.2.2.2.2.2.2.2.2.2.2.2.2.2.1,.val (.i .i64) e.2.2.2.2.2.2.2.2.2.2.2.2.2.2.2.2.2.2.2.2.2.2.2.2.2.2.2.2.1,.val (.i .i64) e.2.2.2.2.2.2.2.2.2.2.2.2.2.2.2.2.2.2.2.2.2.2.2.2.2.2.2.2.2.1,.val (.i .i64) e.2.2.2.2.2.2.2.2.2.2.2.2.2.2.2.2.2.2.2.2.2.2.2.2.2.2.2.2.2.2.1,.val .bo e.2.2.2.2.2.2.2.2.2.2.2.2.2.2.2.2.2.2.2.2.2.2.2.2.2.2.2.2.2.2.2.1,.nilM],.box 65 0,.any,.any,.any,.any,.any,.any,.any,.any,.any,.any,.any,.any,.any,.any,.any,.any,.any,.any] e.2.2.2.2.2.2.2.2.2.2.2.2.2.2.2.2.2.2.2.2.2.2.2.2.2.2.2.2.2.2.2.2),(3,.key 3,.cells [.val (.i .i64) e.2.2.2.2.2.2.2.2.1,.val (.list (.i .i64)) e.2.2.2.2.2.2.2.2.2.1] (some 26)),(6,.key 6,.cells [.val (.i .i64) e.2.2.2.2.2.2.2.2.2.2.1,.lst 76] (some 26)),(76,.cell 6 1,.lst 3 (.i .i64) e.2.2.2.2.2.2.2.2.2.2.2.1 (List.isEmpty e.2.2.2.2.2.2.2.2.2.2.2.1))]⟩),
 (2,⟨Int×Int×Int×Int×Bool×Int×(List Int)×Int×Int×(List Int)×Int×(List Int)×Int×Int×Int×(List Int)×Int×Int×Bool×Int×Int×Int×(List Int)×Int×Int×Int×Int×Int×Int×Int×Int×Bool×(List Value),(List ((Int×Int×Int×Bool)×Int))×Int×Int×Int×Int×Bool×Int,[0,2,3,4,9],λe x=>[.box 65 0,.val (.i .i64) x.2.1,.val (.i .i64) e.2.2.2.2.2.1,.box 6700004 0,.val (.i .i64) x.2.2.2.2.2.2],λe x=>[(65,.slot 0,.cells [.val (.i .i64) e.1,.val (.i .i64) e.2.1,.val (.i .i64) e.2.2.1,.val (.i .i64) e.2.2.2.1,.val .bo e.2.2.2.2.1,.map 670004600008] (some 62)),(670004600008,.cell 65 5,.map (.pair (.i .i64) (.pair (.i .i64) (.pair (.i .i64) .bo))) (.i .i64) x.1),(6700004,.slot 4,.cells [.val (.i .i64) x.2.2.1,.val (.i .i64) x.2.2.2.1,.val (.i .i64) x.2.2.2.2.1,.val .bo x.2.2.2.2.2.1] (some 98)),(6699999,.key 6699999,.stk [.any,.val (.list (.i .i64)) e.2.2.2.2.2.2.1,.val (.i .i64) e.2.2.2.2.2.2.2.1,.box 3 0,.any,.any,.box 6 0,.val (.i .i64) e.2.2.2.2.2.2.2.2.2.2.2.2.1,.any,.any,.val (.i .i64) e.2.2.2.2.2.2.2.2.2.2.2.2.2.1,.val (.i .i64) e.2.2.2.2.2.2.2.2.2.2.2.2.2.2.1,.any,.any,.any,.any,.any,.any,.any,.any,.any,.any,.any,.any,.any,.any,.any,.any,.any,.any,.any,.any,.any,.any,.any,.any,.any,.any,.any,.any,.any,.any,.any,.any,.any,.any,.any,.any,.val (.list (.i .i64)) e.2.2.2.2.2.2.2.2.2.2.2.2.2.2.2.1,.val (.i .i64) e.2.2.2.2.2.2.2.2.2.2.2.2.2.2.2.2.1,.val (.i .i64) e.2.2.2.2.2.2.2.2.2.2.2.2.2.2.2.2.2.1,.val .bo e.2.2.2.2.2.2.2.2.2.2.2.2.2.2.2.2.2.2.1,.val (.i .i64) e.2.2.2.2.2.2.2.2.2.2.2.2.2.2.2.2.2.2.2.1,.any,.val (.i .i64) e.2.2.2.2.2.2.2.2.2.2.2.2.2.2.2.2.2.2.2.2.1,.any,.val (.i .i64) e.2.2.2.2.2.2.2.2.2.2.2.2.2.2.2.2.2.2.2.2.2.1,.val (.list (.i .i64)) e.2.2.2.2.2.2.2.2.2.2.2.2.2.2.2.2.2.2.2.2.2.2.1,.val (.i .i64) e.2.2.2.2.2.2.2.2.2.2.2.2.2.2.2.2.2.2.2.2.2.2.2.1,.any,.val (.i .i64) e.2.2.2.2.2.2.2.2.2.2.2.2.2.2.2.2.2.2.2.2.2.2.2.2.1,.box 3 0,.val (.i .i64) e.2.2.2.2.2.2.2.2.2.2.2.2.2.2.2.2.2.2.2.2.2.2.2.2.2.1,.val (.i .i64) e.2.2.2.2.2.2.2.2.2.2.2.2.2.2.2.2.2.2.2.2.2.2.2.2.2.2.1,.agg [.val (.i .i64) e.2.2.2.2.2.2.2.2.2.2.2.2.2.2.2.2.2.2.2.2.2.2.2.2.2.2.2.1,.val (.i .i64) e.2.2.2.2.2.2.2.2.2.2.2.2.2.2.2.2.2.2.2.2.2.2.2.2.2.2.2.2.1,.val (.i .i64) e.2.2.2.2.2.2.2.2.2.2.2.2.2.2.2.2.2.2.2.2.2.2.2.2.2.2.2.2.2.1,.val (.i .i64) e.2.2.2.2.2.2.2.2.2.2.2.2.2.2.2.2.2.2.2.2.2.2.2.2.2.2.2.2.2.2.1,.val .bo e.2.2.2.2.2.2.2.2.2.2.2.2.2.2.2.2.2.2.2.2.2.2.2.2.2.2.2.2.2.2.2.1,.nilM],.box 65 0,.any,.any,.any,.any,.any,.any,.any,.any,.any,.any,.any,.any,.any,.any,.any,.any,.any,.any] e.2.2.2.2.2.2.2.2.2.2.2.2.2.2.2.2.2.2.2.2.2.2.2.2.2.2.2.2.2.2.2.2),(3,.key 3,.cells [.val (.i .i64) e.2.2.2.2.2.2.2.2.1,.val (.list (.i .i64)) e.2.2.2.2.2.2.2.2.2.1] (some 26)),(6,.key 6,.cells [.val (.i .i64) e.2.2.2.2.2.2.2.2.2.2.1,.lst 76] (some 26)),(76,.cell 6 1,.lst 3 (.i .i64) e.2.2.2.2.2.2.2.2.2.2.2.1 (List.isEmpty e.2.2.2.2.2.2.2.2.2.2.2.1))]⟩),
 (4,⟨Int×Int×Int×Int×Bool×Int×Int×Int×Int×Int×Bool×Int×Bool×Bool×(List Int)×Int×Int×(List Int)×Int×(List Int)×Int×Int×Int×(List Int)×Int×Int×Bool×Int×Int×Int×(List Int)×Int×Int×Int×Int×Int×Int×Int×Int×Bool×(List Value),(List ((Int×Int×Int×Bool)×Int))×Int,[0,2,3,4,9,63,64],λe x=>[.box 65 0,.val (.i .i64) e.2.2.2.2.2.1,.val (.i .i64) e.2.2.2.2.2.2.1,.box 6700004 0,.val (.i .i64) e.2.2.2.2.2.2.2.2.2.2.2.1,.agg [.val .bo e.2.2.2.2.2.2.2.2.2.2.2.2.1,.val .bo e.2.2.2.2.2.2.2.2.2.2.2.2.2.1],.val (.i .i64) x.2],λe x=>[(65,.slot 0,.cells [.val (.i .i64) e.1,.val (.i .i64) e.2.1,.val (.i .i64) e.2.2.1,.val (.i .i64) e.2.2.2.1,.val .bo e.2.2.2.2.1,.map 670004600008] (some 62)),(670004600008,.cell 65 5,.map (.pair (.i .i64) (.pair (.i .i64) (.pair (.i .i64) .bo))) (.i .i64) x.1),(6700004,.slot 4,.cells [.val (.i .i64) e.2.2.2.2.2.2.2.1,.val (.i .i64) e.2.2.2.2.2.2.2.2.1,.val (.i .i64) e.2.2.2.2.2.2.2.2.2.1,.val .bo e.2.2.2.2.2.2.2.2.2.2.1] (some 98)),(6699999,.key 6699999,.stk [.any,.val (.list (.i .i64)) e.2.2.2.2.2.2.2.2.2.2.2.2.2.2.1,.val (.i .i64) e.2.2.2.2.2.2.2.2.2.2.2.2.2.2.2.1,.box 3 0,.any,.any,.box 6 0,.val (.i .i64) e.2.2.2.2.2.2.2.2.2.2.2.2.2.2.2.2.2.2.2.2.1,.any,.any,.val (.i .i64) e.2.2.2.2.2.2.2.2.2.2.2.2.2.2.2.2.2.2.2.2.2.1,.val (.i .i64) e.2.2.2.2.2.2.2.2.2.2.2.2.2.2.2.2.2.2.2.2.2.2.1,.any,.any,.any,.any,.any,.any,.any,.any,.any,.any,.any,.any,.any,.any,.any,.any,.any,.any,.any,.any,.any,.any,.any,.any,.any,.any,.any,.any,.any,.any,.any,.any,.any,.any,.any,.any,.val (.list (.i .i64)) e.2.2.2.2.2.2.2.2.2.2.2.2.2.2.2.2.2.2.2.2.2.2.2.1,.val (.i .i64) e.2.2.2.2.2.2.2.2.2.2.2.2.2.2.2.2.2.2.2.2.2.2.2.2.1,.val (.i .i64) e.2.2.2.2.2.2.2.2.2.2.2.2.2.2.2.2.2.2.2.2.2.2.2.2.2.1,.val .bo e.2.2.2.2.2.2.2.2.2.2.2.2.2.2.2.2.2.2.2.2.2.2.2.2.2.2.1,.val (.i .i64) e.2.2.2.2.2.2.2.2.2.2.2.2.2.2.2.2.2.2.2.2.2.2.2.2.2.2.2.1,.any,.val (.i .i64) e.2.2.2.2.2.2.2.2.2.2.2.2.2.2.2.2.2.2.2.2.2.2.2.2.2.2.2.2.1,.any,.val (.i .i64) e.2.2.2.2.2.2.2.2.2.2.2.2.2.2.2.2.2.2.2.2.2.2.2.2.2.2.2.2.2.1,.val (.list (.i .i64)) e.2.2.2.2.2.2.2.2.2.2.2.2.2.2.2.2.2.2.2.2.2.2.2.2.2.2.2.2.2.2.1,.val (.i .i64) e.2.2.2.2.2.2.2.2.2.2.2.2.2.2.2.2.2.2.2.2.2.2.2.2.2.2.2.2.2.2.2.1,.any,.val (.i .i64) e.2.2.2.2.2.2.2.2.2.2.2.2.2.2.2.2.2.2.2.2.2.2.2.2.2.2.2.2.2.2.2.2.1,.box 3 0,.val (.i .i64) e.2.2.2.2.2.2.2.2.2.2.2.2.2.2.2.2.2.2.2.2.2.2.2.2.2.2.2.2.2.2.2.2.2.1,.val (.i .i64) e.2.2.2.2.2.2.2.2.2.2.2.2.2.2.2.2.2.2.2.2.2.2.2.2.2.2.2.2.2.2.2.2.2.2.1,.agg [.val (.i .i64) e.2.2.2.2.2.2.2.2.2.2.2.2.2.2.2.2.2.2.2.2.2.2.2.2.2.2.2.2.2.2.2.2.2.2.2.1,.val (.i .i64) e.2.2.2.2.2.2.2.2.2.2.2.2.2.2.2.2.2.2.2.2.2.2.2.2.2.2.2.2.2.2.2.2.2.2.2.2.1,.val (.i .i64) e.2.2.2.2.2.2.2.2.2.2.2.2.2.2.2.2.2.2.2.2.2.2.2.2.2.2.2.2.2.2.2.2.2.2.2.2.2.1,.val (.i .i64) e.2.2.2.2.2.2.2.2.2.2.2.2.2.2.2.2.2.2.2.2.2.2.2.2.2.2.2.2.2.2.2.2.2.2.2.2.2.2.1,.val .bo e.2.2.2.2.2.2.2.2.2.2.2.2.2.2.2.2.2.2.2.2.2.2.2.2.2.2.2.2.2.2.2.2.2.2.2.2.2.2.2.1,.nilM],.box 65 0,.any,.any,.any,.any,.any,.any,.any,.any,.any,.any,.any,.any,.any,.any,.any,.any,.any,.any] e.2.2.2.2.2.2.2.2.2.2.2.2.2.2.2.2.2.2.2.2.2.2.2.2.2.2.2.2.2.2.2.2.2.2.2.2.2.2.2.2),(3,.key 3,.cells [.val (.i .i64) e.2.2.2.2.2.2.2.2.2.2.2.2.2.2.2.2.1,.val (.list (.i .i64)) e.2.2.2.2.2.2.2.2.2.2.2.2.2.2.2.2.2.1] (some 26)),(6,.key 6,.cells [.val (.i .i64) e.2.2.2.2.2.2.2.2.2.2.2.2.2.2.2.2.2.2.1,.lst 76] (some 26)),(76,.cell 6 1,.lst 3 (.i .i64) e.2.2.2.2.2.2.2.2.2.2.2.2.2.2.2.2.2.2.2.1 (List.isEmpty e.2.2.2.2.2.2.2.2.2.2.2.2.2.2.2.2.2.2.2.1))]⟩)]
def TZ:Cx:=⟨[(3,(.i .i64))],[(20,X9),(21,Xi)],84,[],0,[(22,Q5s JR (λ_=>JO) c22 [.tmp 2,.tmp 3] 102)],[],[],[],false,[],[],[],[]⟩
def OA (hd:Int) (rows:List Int) (aA:List Int) (bd:Int):List (Nat×LoopAnn):=[(1,⟨Unit,(List Int)×Int×Int,[1,2,3,6,7,48,49,50],λe x=>[.val (.list (.i .i64)) aA,.val (.i .i64) bd,.box 3 0,.box 6 0,.val (.i .i64) x.2.1,.val (.list (.i .i64)) rows,.val (.i .i64) (((List.length rows):Nat):Int),.val (.i .i64) x.2.2],λe x=>[(3,.slot 3,.cells [.val (.i .i64) hd,.val (.list (.i .i64)) rows] (some 26)),(6,.slot 6,.cells [.val (.i .i64) hd,.lst 76] (some 26)),(76,.cell 6 1,.lst 3 (.i .i64) x.1 (List.isEmpty x.1))]⟩)]
theorem Ot (d:(Int×List Int)×List Int×Int):gwp (TZ) (OA d.1.1 d.1.2 d.2.1 d.2.2) c6 0 (Wj [.cell 6 true 2,.tmp 7,.tmp 8] (Pp d) (P2 d)) (Qp 84 (AL.can R8 d))=VE d.1.1 d.1.2 d.2.1 d.2.2:=by kernel_rfl
abbrev IV:Prop:=OkC Tryz.prog 6 Nx
theorem IH (h:∀ (hd:Int) (rows:List Int) (aA:List Int) (bd:Int),(rows.length<=1000/\aA.length<=1000)->VE hd rows aA bd):OkC Tryz.prog 6 Nx :=
 Qs J20 mixed (C:=TZ) (V:=λ(d:(Int×List Int)×List Int×Int)=>VE d.1.1 d.1.2 d.2.1 d.2.2) ⟨(.cons WA (.cons Yk .nil)),(XsOk.cons (Vc J0s mixed (C:=JR) ⟨(.cons Vp (.cons Q2d (.cons Vy .nil))),(XsOk.cons (Vc Z91 mixed (C:=QW) ⟨.nil,XsOk.nil,ItsOk.nil,YlOk.nil,IysOk.nil,XfOk.nil⟩ (λ_=>QV)) (XsOk.cons K6.1 XsOk.nil)),ItsOk.nil,YlOk.nil,IysOk.nil,(XfOk.cons rfl K6.2 XfOk.nil)⟩ (λ_=>JO)) XsOk.nil),ItsOk.nil,YlOk.nil,IysOk.nil,XfOk.nil⟩ (Ot) λd hp=>h d.1.1 d.1.2 d.2.1 d.2.2 hp
theorem J1o (n a b:Int):(!inI n a b)=(decide (n<a)||decide (b<n)):=by unfold inI;rw[Bool.not_and,<-decide_not,<-decide_not];congr 1<;>(rw[decide_eq_decide];omega)
theorem Z17 (l:List Int) (a:Int):(l++[a]).isEmpty=false:=by cases l<;>rfl
theorem Z38 {hd:Int}{rows aA:List Int}{bd E:Int}(h:Q6 hd rows aA bd=E) (h0:E≠0):((0:Int)=if Q6 hd rows aA bd=0 then hd else 0)/\(0:Int)=DQ hd rows aA bd/\E=Q6 hd rows aA bd/\QJ hd rows aA bd=[]/\(QJ hd rows aA bd).isEmpty=true:=by
 have e:QJ hd rows aA bd=[]:=by unfold QJ;rw[z0 (by omega)]
 exact⟨by rw[z0 (by omega)],by unfold DQ;rw[z0 (by omega)],h.symm,e,by rw[e];rfl⟩
theorem Z3x {r:Nat}(hr:r<16777216) (b:Bool):Qf .or .i64 (Wk .i64 (r:Int) 1) (if b=true then 1 else 0)=((2*r+(if b=true then 1 else 0):Nat):Int)/\InK .i64 (Wk .i64 (r:Int) 1):=by
 have e1:Wk .i64 (r:Int) 1=((2*r:Nat):Int):=by show (r:Int)*2 ^ (Nat.min (1:Int).toNat 64)=_;rw[show Nat.min (1:Int).toNat 64=1 from rfl];omega
 rw[e1];refine⟨?_,by rw[Q7];omega⟩;have e3:∀ c:Nat,c<2->Qf .or .i64 ((2*r:Nat):Int) (c:Int)=((2*r+c:Nat):Int):=λc hc=>by
  have e:(BitVec.ofInt 64 ((2*r:Nat):Int) ||| BitVec.ofInt 64 ((c:Nat):Int)).toNat=2*r+c:=by
   rw[BitVec.toNat_or,BitVec.toNat_ofInt,BitVec.toNat_ofInt];have h1:(((2*r:Nat):Int) % ((2 ^ 64:Nat):Int)).toNat=2 ^ 1*r:=by omega
   have h2:(((c:Nat):Int) % ((2 ^ 64:Nat):Int)).toNat=c:=by omega
   rw[h1,h2,<-Nat.two_pow_add_eq_or_of_lt (by omega)]
  show IntKind.wrap .i64 ((BitVec.ofInt 64 ((2*r:Nat):Int) ||| BitVec.ofInt 64 ((c:Nat):Int)).toNat:Int)=_;rw[e];simp[IntKind.wrap,IntKind.bits,IntKind.signed];omega
 cases b with
 |true=>exact e3 1 (by omega)
 |false=>exact e3 0 (by omega)
theorem Q9t {hd:Int}{rows aA:List Int}{bd:Int}{i:Nat}(hi:i<rows.length) (h:1048576<=Q2y hd rows aA bd i):PI hd rows aA bd=true:=by unfold PI;rw[xy];exact⟨i,zS.2 hi,by rw[ze];exact h⟩
theorem Q9b {hd:Int}{rows aA:List Int}{bd:Int}(h:∀ i,i<rows.length->Q2y hd rows aA bd i<1048576):PI hd rows aA bd=false:=by unfold PI;rw[xe];intro i hi;have:=h i (zS.1 hi);rw[ze];omega
theorem Q41 (hd:Int) (rows aA:List Int) (bd:Int):∀ n,(∀ j,j<n->Q2y hd rows aA bd j<1048576)->0<=Hd hd rows aA bd n/\Hd hd rows aA bd n<=1048576*n
 |0,_=>by simp[Hd]
 |n+1,h=>by
  have ih:=Q41 hd rows aA bd n λj hj=>h j (by omega);have h1:=h n (by omega);have h0:0<=Q2y hd rows aA bd n:=by have s1:=(UO (rows.getD n 0).toNat (aA.getD n 0).toNat bd.toNat true (hd.toNat-1) 1 0 true).1;have s2:=(UO (rows.getD n 0).toNat (aA.getD n 0).toNat bd.toNat false (hd.toNat-1) 1 0 false).1;have c1:=(WG (rows.getD n 0).toNat (aA.getD n 0).toNat (hd.toNat-1) true).1;have c2:=(WG (rows.getD n 0).toNat (aA.getD n 0).toNat (hd.toNat-1) false).1;unfold Q2y Kq YV;rw[KL];split<;>omega
  unfold Hd;omega
set_option maxHeartbeats 4000000 in
theorem TT:IV:=IH λhd rows aA bd h=>by
 unfold VE;delta Q2e Q0w Ch CQ G2 NA GD;(try delta lI gD sT I64 Q2 pj8 pj4);have e:∀ n a b:Int,(decide (n<a)||decide (b<n))=!inI n a b:=λn a b=>(J1o n a b).symm;simp only[List.any_cons,List.any_nil,xN,e,Bool.not_not,zJ,List.length_nil,true_and,and_true];have fail:∀ E:Int,Q6 hd rows aA bd=E->E≠0->_:=λE h h0=>Z38 h h0;refine⟨by omega,λc=>?_,λc=>⟨λc2=>?_,λc2=>?_⟩⟩
 .have c:Qb hd rows≠0:=by simpa using c
  obtain⟨f1,f2,f3,f4,f5⟩:=fail _ (show Q6 hd rows aA bd=Qb hd rows by unfold Q6;rw[z2 c]) c;and_intros<;>first|exact f1|exact f2|exact f3|exact f4|exact f5|trivial
 all_goals have c:Qb hd rows=0:=by simpa using c
 .have c2:aA.length≠rows.length:=λh=>by rw[h] at c2;simp at c2
  obtain⟨f1,f2,f3,f4,f5⟩:=fail 4 (show Q6 hd rows aA bd=4 by unfold Q6;rw[z0 (by omega),z2 c2]) (by decide);and_intros<;>first|exact f1|exact f2|exact f3|exact f4|exact f5|trivial
 have c2:aA.length=rows.length:=by
  apply Classical.byContradiction;intro h;have:((((aA.length:Nat):Int)) != ((rows.length:Nat):Int))=true:=by rw[bne_iff_ne];omega
  rw[this] at c2;cases c2
 obtain⟨p1,p2,p3,p4,p5⟩:=J14 c;have hp:=Mb p1 p2;have sh:Wk .i64 1 hd=2 ^ hd.toNat:=Q7w (by omega) (by omega);rw[sh];refine⟨by omega,by rw[Q7];omega,by rw[Q7];omega,by omega,λc3=>?_,λc3=>⟨by omega,λc4=>?_,λc4=>?_⟩⟩
 .obtain⟨f1,f2,f3,f4,f5⟩:=fail 2 (show Q6 hd rows aA bd=2 by unfold Q6;rw[z0 (by omega),z0 (by omega),z2 c3]) (by decide);and_intros<;>first|exact f1|exact f2|exact f3|exact f4|exact f5|trivial
 .have c4:inI bd 1 24=false:=by simpa using c4
  obtain⟨f1,f2,f3,f4,f5⟩:=fail 3 (show Q6 hd rows aA bd=3 by unfold Q6;rw[z0 (by omega),z0 (by omega),z0 (by rw[c3];decide),z2 c4]) (by decide);and_intros<;>first|exact f1|exact f2|exact f3|exact f4|exact f5|trivial
 have c4:inI bd 1 24=true:=by simpa using c4
 have pP:1<=bd/\bd<=24:=by unfold inI at c4;simpa using c4
 have iA:∀ x∈aA,0<=x/\x<16777216:=λx hx=>by have h1:=xe.1 c3 x hx;unfold inI at h1;simp only[z_,zH,z1,ze] at h1;omega
 have eb:Q6 hd rows aA bd=if PI hd rows aA bd=true then 9 else 0:=by unfold Q6;rw[z0 (by omega),z0 (by omega),z0 (by rw[c3];decide),z0 (by rw[c4];decide)]
 clear c3 c4 sh;obtain⟨H,rfl⟩:=z8 (show 0<=hd by omega);obtain⟨B,rfl⟩:=z8 (show 0<=bd by omega);refine⟨(),([],0,0),by and_intros<;>first|rfl|trivial,?_⟩;refine⟨λd=>∃ i:Nat,i<=rows.length/\(∀ j,j<i->Q2y H rows aA B j<1048576)/\d=(Rm H rows aA B i,Hd H rows aA B i,(i:Int)),λd=>rows.length-d.2.2.toNat,⟨0,by omega,λj hj=>by omega,rfl⟩,?_⟩;rintro _ ⟨i,hi,hall,rfl⟩;dsimp only;refine⟨λg=>?_,λg=>?_⟩
 .have g:i<rows.length:=by have:=z7 g;omega
  have nb:=Q41 H rows aA B i hall;have wl:=E6 H rows aA B i;have hR:0<=rows.getD i 0/\rows.getD i 0<16777216:=by have:=p5 (rows.getD i 0) (by rw[Qg g];exact zh g);omega
  have hX:0<=aA.getD i 0/\aA.getD i 0<16777216:=iA (aA.getD i 0) (by rw[Qg (show i<aA.length by omega)];exact zh _);have hC:Q2y H rows aA B i=Kq (rows.getD i 0).toNat (aA.getD i 0).toNat B H:=rfl;have hW:Z7u H rows aA B i=((Mp (rows.getD i 0).toNat (aA.getD i 0).toNat B H:Nat):Int):=rfl;have gY:∀ j,j<i+1->Q2y H rows aA B i<1048576->Q2y H rows aA B j<1048576:=λj hj h=>by
   by_cases e:j=i
   .subst e;exact h
   .exact hall j (by omega)
  have ws:=Q6e H rows aA B i;have ns:Hd H rows aA B (i+1)=Hd H rows aA B i+Q2y H rows aA B i:=rfl;simp only[z4];refine⟨by omega,by omega,by omega,by omega,λw5=>?_⟩;generalize rows.getD i 0=R at *
  generalize aA.getD i 0=X at *
  have nU:∀ tp k ln fi lt,0<=Qr R.toNat X.toNat B tp k ln fi lt/\Qr R.toNat X.toNat B tp k ln fi lt<=1048576:=λtp k ln fi lt=>UO _ _ _ _ _ _ _ _;have cin:∀ k b,0<=Zp R.toNat X.toNat k b/\Zp R.toNat X.toNat k b<=1048576:=λk b=>WG _ _ _ _;have eH:((H:Int)-1).toNat=H-1:=by omega
  have eS:∀ tp,YV R.toNat X.toNat B H tp=Zp R.toNat X.toNat (H-1) tp+Qr R.toNat X.toNat B tp (H-1) 1 0 tp:=λ_=>rfl;refine⟨(R,X,(H:Int),(B:Int),false,true,aA,(B:Int),(H:Int),rows,(H:Int),Rm H rows aA B i,Hd H rows aA B i,(i:Int),R,rows,(rows.length:Int),(i:Int),decide ((i:Int)<(rows.length:Int)),(i:Int),R,R,aA,(i:Int),X,(H:Int),(B:Int),R,X,(H:Int),(B:Int),false,w5),(false,1048576,0,0,0,false,0),by and_intros<;>first|rfl|trivial,?_⟩;dsimp only;simp only[eH,z4,show (1:Int).toNat=1 from rfl,show (0:Int).toNat=0 from rfl,<-eS];refine⟨λd=>d.2.2.2.2.2.2=0/\d=(false,1048576,0,0,0,false,0)\/d.2.2.2.2.2.2=1/\d.2.1=Q72 (YV R.toNat X.toNat B H false) 1048576/\(d.2.1<1048576->d.2.2=((H:Int)-1,1,0,false,1))\/d.2.2.2.2.2.2=2/\d.2.1=Kq R.toNat X.toNat B H/\(d.2.1<1048576->d.2.2=((H:Int)-1,1,0,Tj R.toNat X.toNat B H,2)),λd=>2-d.2.2.2.2.2.2.toNat,.inl ⟨rfl,rfl⟩,?_⟩;rintro⟨v7,ch,oM,oN,oO,oP,q⟩ hq;dsimp only at hq |-;refine⟨λg2=>?_,λg2=>?_⟩
  .have g2:=z7 g2;refine⟨by omega,by omega,λq0=>?_,λq1=>?_⟩
   .subst q0;have dB:ch=1048576:=by
     rcases hq with⟨_,hq⟩|⟨hq,_⟩|⟨hq,_⟩
     .cases hq;rfl
     .omega
     .omega
    have s1:=nU false (H-1) 1 0 false;have s2:=cin (H-1) false;intro lz;refine⟨by rw[Q7];omega,by rw[Q7];omega,⟨hR,hX,by omega,by omega⟩,⟨hR,hX,by omega,by omega,by omega,by omega,O0 _ _ _ _⟩,λuD _=>⟨by rw[Q7,eS];omega,λc5=>⟨by rw[Q7];omega,(false,YV R.toNat X.toNat B H false,(H:Int)-1,1,0,false,1),by and_intros<;>first|rfl|trivial,.inr (.inl ⟨rfl,?_,λ_=>rfl⟩),by dsimp only;decide⟩,λc5=>⟨by rw[Q7];omega,(false,ch,oM,oN,oO,oP,1),by and_intros<;>first|rfl|trivial,.inr (.inl ⟨rfl,?_,λh=>?_⟩),by dsimp only;decide⟩⟩⟩
    .have c5:=z7 c5;dsimp only;rw[KL];omega
    .have c5:=z6 c5;dsimp only;rw[KL];omega
    .dsimp only at h;omega
   .subst q1;obtain⟨eU,fh⟩:ch=Q72 (YV R.toNat X.toNat B H false) 1048576/\(ch<1048576->(oM,oN,oO,oP,(1:Int))=((H:Int)-1,1,0,false,1)):=by
     rcases hq with⟨hq,_⟩|⟨_,hq⟩|⟨hq,_⟩
     .omega
     .exact hq
     .omega
    have s1:=nU true (H-1) 1 0 true;have s2:=cin (H-1) true;intro lz;refine⟨by rw[Q7];omega,by rw[Q7];omega,⟨hR,hX,by omega,by omega⟩,⟨hR,hX,by omega,by omega,by omega,by omega,O0 _ _ _ _⟩,λuD _=>⟨by rw[Q7,eS];omega,λc5=>⟨by rw[Q7];omega,(true,YV R.toNat X.toNat B H true,(H:Int)-1,1,0,true,2),by and_intros<;>first|rfl|trivial,.inr (.inr ⟨rfl,?_,λ_=>?_⟩),by dsimp only;decide⟩,λc5=>⟨by rw[Q7];omega,(true,ch,oM,oN,oO,oP,2),by and_intros<;>first|rfl|trivial,.inr (.inr ⟨rfl,?_,λh=>?_⟩),by dsimp only;decide⟩⟩⟩
    .have c5:=z7 c5;have:Tj R.toNat X.toNat B H=true:=by unfold Tj;rw[ze,<-eU];exact c5
     dsimp only;unfold Kq;rw[this,z2 rfl]
    .have c5:=z7 c5;have:Tj R.toNat X.toNat B H=true:=by unfold Tj;rw[ze,<-eU];exact c5
     dsimp only;rw[this]
    .have c5:=z6 c5;have:Tj R.toNat X.toNat B H=false:=by unfold Tj;rw[zG,<-eU];exact c5
     dsimp only;unfold Kq;rw[this,z0 (by decide)];exact eU
    .have c5:=z6 c5;have:Tj R.toNat X.toNat B H=false:=by unfold Tj;rw[zG,<-eU];exact c5
     dsimp only at h |-;rw[this];have:=fh h;simp only[Prod.mk.injEq] at this;simp only[Prod.mk.injEq];exact⟨this.1,this.2.1,this.2.2.1,this.2.2.2.1,trivial⟩
  .have g2:=z6 g2;obtain⟨eU,fh⟩:ch=Kq R.toNat X.toNat B H/\(ch<1048576->(oM,oN,oO,oP,q)=((H:Int)-1,1,0,Tj R.toNat X.toNat B H,2)):=by
    rcases hq with⟨hq,_⟩|⟨hq,_⟩|⟨_,hq⟩
    .omega
    .omega
    .exact hq
   refine⟨λc5=>?_,λc5=>?_⟩
   .have c5:=z7 c5;have bad:Q6 (H:Int) rows aA (B:Int)=9:=by rw[eb,z2 (Q9t g (by rw[hC];omega))]
    obtain⟨f1,f2,f3,f4,f5⟩:=fail 9 bad (by decide);refine⟨trivial,λ_=>?_,λc6=>absurd c6 (by decide)⟩;and_intros<;>first|exact f1|exact f2|exact f3|exact f4|exact f5|trivial
   .have c5:=z6 c5;have aj:Kq R.toNat X.toNat B H<1048576:=by omega
    have fh:=fh (by omega);simp only[Prod.mk.injEq] at fh;obtain⟨rfl,rfl,rfl,rfl,rfl⟩:=fh;have aY:Kq R.toNat X.toNat B H=YV R.toNat X.toNat B H (Tj R.toNat X.toNat B H):=by
     have h2:=aj;unfold Kq at h2 |-;cases ht:Tj R.toNat X.toNat B H with
     |true=>rw[z2 rfl]
     |false =>rw[ht,z0 (by decide),KL] at h2;rw[z0 (by decide),KL];omega
    have jS:Mp R.toNat X.toNat B H=(if Tj R.toNat X.toNat B H=true then 2 ^ (H-1) else 0)+Q48 R.toNat X.toNat B (Tj R.toNat X.toNat B H) (H-1) 1 0 (Tj R.toNat X.toNat B H):=by unfold Mp;rw[z2 aj]
    subst eU;generalize Tj R.toNat X.toNat B H=tp at *
    have s1:=nU tp (H-1) 1 0 tp;have s2:=cin (H-1) tp;have v8:=eS tp;intro qE;refine⟨by rw[Q7];omega,by rw[Q7];omega,⟨hR,hX,by omega,by omega⟩,by rw[Q7];omega,(R,X,(H:Int),(B:Int),tp,Kq R.toNat X.toNat B H,aA,(B:Int),(H:Int),rows,(H:Int),Rm H rows aA B i,Hd H rows aA B i,(i:Int),R,rows,(rows.length:Int),(i:Int),decide ((i:Int)<(rows.length:Int)),(i:Int),R,R,aA,(i:Int),X,(H:Int),(B:Int),R,X,(H:Int),(B:Int),false,w5),([],(if tp=true then 1 else 0),(H:Int)-1,1,0,tp,Kq R.toNat X.toNat B H-Zp R.toNat X.toNat (H-1) tp),by and_intros<;>first|rfl|trivial,?_⟩;dsimp only;refine⟨λd=>∃ (k n f r:Nat),EF R X B tp d.1/\k<=H-1/\(1<=n/\n<=24)/\f<=24/\r<2 ^ (H-k)/\d.2.1=(r:Int)/\d.2.2.1=(k:Int)/\d.2.2.2.1=(n:Int)/\d.2.2.2.2.1=(f:Int)/\d.2.2.2.2.2.2=Qr R.toNat X.toNat B tp k n f d.2.2.2.2.2.1/\d.2.2.2.2.2.2<1048576/\r*2 ^ k+Q48 R.toNat X.toNat B tp k n f d.2.2.2.2.2.1=Mp R.toNat X.toNat B H,λd=>d.2.2.1.toNat,⟨H-1,1,0,(if tp=true then 1 else 0),O0 _ _ _ _,z5 _,by omega,by omega,?_,?_,by dsimp only;omega,rfl,rfl,?_,?_,?_⟩,?_⟩
    .rw[show H-(H-1)=1 by omega];split<;>decide
    .dsimp only;split<;>rfl
    .dsimp only;omega
    .dsimp only;omega
    .dsimp only;rw[jS];split<;>simp
    rintro⟨m1,row,lf,ln,fi,lt,left⟩ ⟨k,n,f,r,jh,hk,hn,hf,hr,rfl,rfl,rfl,rfl,fX,uE,cP⟩;dsimp only at jh fX uE cP |-;refine⟨λg3=>?_,λg3=>?_⟩
    .have g3:=z7 g3;obtain⟨k,rfl⟩:∃ j,k=j+1:=⟨k-1,by omega⟩;have ek:((k+1:Nat):Int)-1=(k:Int):=by omega
     have mz:Qr R.toNat X.toNat B tp (k+1) n f lt<1048576:=by omega
     have nV:r<16777216:=by have:=Nat.pow_le_pow_right (show 1<=2 by omega) (show H-(k+1)<=24 by omega);omega
     obtain⟨uF,se⟩:=Z3y mz;have rk:Q48 R.toNat X.toNat B tp (k+1) n f lt=(if pkB R.toNat X.toNat B tp k n f lt=true then 2 ^ k else 0)+Q48 R.toNat X.toNat B tp k (nxL n lt (pkB R.toNat X.toNat B tp k n f lt)) (nxF n f lt (pkB R.toNat X.toNat B tp k n f lt)) (pkB R.toNat X.toNat B tp k n f lt):=rfl;refine⟨(R,X,(H:Int),(B:Int),tp,(r:Int),Kq R.toNat X.toNat B H,((k+1:Nat):Int),(n:Int),(f:Int),lt,left,false,true,aA,(B:Int),(H:Int),rows,(H:Int),Rm H rows aA B i,Hd H rows aA B i,(i:Int),R,rows,(rows.length:Int),(i:Int),decide ((i:Int)<(rows.length:Int)),(i:Int),R,R,aA,(i:Int),X,(H:Int),(B:Int),R,X,(H:Int),(B:Int),false,w5),(m1,0),by and_intros<;>first|rfl|trivial,?_⟩;dsimp only;simp only[ek,Q4n,Q45,z4];have iB:pkB R.toNat X.toNat B tp k n f lt=!(decide (nxL n lt false<=B)&&decide (Zp R.toNat X.toNat k false+Qr R.toNat X.toNat B tp k (nxL n lt false) (nxF n f lt false) false=Qr R.toNat X.toNat B tp (k+1) n f lt)):=rfl;refine⟨λd=>EF R X B tp d.1/\(d.2=0\/d.2=1/\pkB R.toNat X.toNat B tp k n f lt=true),λd=>2-d.2.toNat,⟨jh,.inl rfl⟩,?_⟩;rintro⟨m2,q⟩ ⟨fg,hq⟩;dsimp only at fg hq |-;have take:∀ b:Bool,pkB R.toNat X.toNat B tp k n f lt=b->(2*r+(if b=true then 1 else 0))<2 ^ (H-k)/\left-Zp R.toNat X.toNat k b=Qr R.toNat X.toNat B tp k (nxL n lt b) (nxF n f lt b) b/\(2*r+(if b=true then 1 else 0))*2 ^ k+Q48 R.toNat X.toNat B tp k (nxL n lt b) (nxF n f lt b) b=Mp R.toNat X.toNat B H:=λb hb=>by
      rw[hb] at se rk;refine⟨?_,by omega,?_⟩
      .rw[show H-k=(H-(k+1))+1 by omega,Nat.pow_succ];split<;>omega
      .rw[<-cP,rk,Nat.pow_succ,zB];have:2*r*2 ^ k=r*(2 ^ k*2):=by rw[xZ 2 r,Nat.mul_assoc,xZ 2]
       rw[this];cases b<;>simp<;>omega
     refine⟨λg4=>?_,λg4=>?_⟩
     .have g4:=z7 g4;refine⟨by omega,by omega,λq0=>?_,λq1=>?_⟩
      .subst q0;have w1:=cin k false;have w2:=nU tp k (nxL n lt false) (nxF n f lt false) false;have w3:nxF n f lt false<=24:=Q90 hn.2 hf;refine⟨⟨by omega,by omega,by omega⟩,by rw[Q7];omega,⟨hR,hX,by omega,by omega⟩,λc6=>?_,λc6=>?_⟩
       .have c6:=z7 c6;have uG:nxL n lt false<=B:=by omega
        have w4:=(Q80 (B:=B) (lt:=lt) (b:=false) hn.1).1;refine⟨⟨hR,hX,by omega,by omega,by omega,by omega,fg⟩,λoQ jo=>⟨by rw[Q7];omega,λc7=>?_,λc7=>?_⟩⟩
        .have c7:=eq_of_beq c7;have hb:pkB R.toNat X.toNat B tp k n f lt=false:=by rw[iB,zL uG,zL (by omega)];rfl
         obtain⟨t1,t2,t3⟩:=take false hb;obtain⟨o1,o2⟩:=Z3x nV false;refine⟨by rw[Q7];omega,by omega,o2,(oQ,((2*r+(if false=true then 1 else 0):Nat):Int),(k:Int),((nxL n lt false:Nat):Int),((nxF n f lt false:Nat):Int),false,left-Zp R.toNat X.toNat k false),?_,⟨k,nxL n lt false,nxF n f lt false,2*r+(if false=true then 1 else 0),jo,by omega,by omega,w3,t1,rfl,rfl,rfl,rfl,t2,?_,t3⟩,by dsimp only;omega⟩
         .and_intros<;>first|rfl|trivial|exact o1
         .dsimp only;rw[t2];omega
        .have c7:¬ (Zp R.toNat X.toNat k false+Qr R.toNat X.toNat B tp k (nxL n lt false) (nxF n f lt false) false=left):=by simpa using c7
         have hb:pkB R.toNat X.toNat B tp k n f lt=true:=by rw[iB,xL (show ¬ (Zp R.toNat X.toNat k false+Qr R.toNat X.toNat B tp k (nxL n lt false) (nxF n f lt false) false=Qr R.toNat X.toNat B tp (k+1) n f lt) by rw[<-fX];exact c7)];simp
         refine⟨by rw[Q7];omega,(oQ,1),?_,⟨jo,.inr ⟨rfl,hb⟩⟩,by dsimp only;decide⟩;and_intros<;>first|rfl|trivial
       .have c6:=z6 c6;have hb:pkB R.toNat X.toNat B tp k n f lt=true:=by rw[iB,xL (show ¬ nxL n lt false<=B by omega)];simp
        refine⟨(λh=>by cases h),λ_=>⟨by rw[Q7];omega,(m2,1),?_,⟨fg,.inr ⟨rfl,hb⟩⟩,by dsimp only;decide⟩⟩;and_intros<;>first|rfl|trivial
      .subst q1;have hb:pkB R.toNat X.toNat B tp k n f lt=true:=by rcases hq with h|h;omega;exact h.2
       have w1:=cin k true;have w2:=nU tp k (nxL n lt true) (nxF n f lt true) true;have w3:nxF n f lt true<=24:=Q90 hn.2 hf;rw[hb] at uF se;have w4:=(Q80 (B:=B) (lt:=lt) (b:=true) hn.1).1;refine⟨⟨by omega,by omega,by omega⟩,by rw[Q7];omega,⟨hR,hX,by omega,by omega⟩,λc6=>?_,λc6=>?_⟩
       .refine⟨⟨hR,hX,by omega,by omega,by omega,by omega,fg⟩,λoQ jo=>⟨by rw[Q7];omega,λc7=>?_,λc7=>?_⟩⟩
        .obtain⟨t1,t2,t3⟩:=take true hb;obtain⟨o1,o2⟩:=Z3x nV true;refine⟨by rw[Q7];omega,by omega,o2,(oQ,((2*r+(if true=true then 1 else 0):Nat):Int),(k:Int),((nxL n lt true:Nat):Int),((nxF n f lt true:Nat):Int),true,left-Zp R.toNat X.toNat k true),?_,⟨k,nxL n lt true,nxF n f lt true,2*r+(if true=true then 1 else 0),jo,by omega,by omega,w3,t1,rfl,rfl,rfl,rfl,t2,?_,t3⟩,by dsimp only;omega⟩
         .and_intros<;>first|rfl|trivial|exact o1
         .dsimp only;rw[t2];omega
        .exfalso;have c7:¬ (Zp R.toNat X.toNat k true+Qr R.toNat X.toNat B tp k (nxL n lt true) (nxF n f lt true) true=left):=by simpa using c7
         omega
       .exfalso;have c6:=z6 c6;omega
     .exfalso;have g4:=z6 g4;rcases hq with h|⟨h,_⟩<;>omega
    .have g3:=z6 g3;have k0:k=0:=by omega
     subst k0;have cP:r=Mp R.toNat X.toNat B H:=by simpa [Q48] using cP
     refine⟨rfl,λc6=>?_,λc6=>⟨?_,by rw[Q7];omega,by rw[Q7];omega,(Rm H rows aA B (i+1),Hd H rows aA B (i+1),(i:Int)+1),?_,⟨i+1,g,λj hj=>gY j hj (by rw[hC];exact aj),rfl⟩,by dsimp only;omega⟩⟩
     .exfalso;have c6:=z7 c6;omega
     .rw[wl];omega
     .rw[ws,ns,hW,hC,cP];and_intros<;>first|rfl|trivial|exact(Z17 _ _).symm
 .have g:i=rows.length:=by have:=z6 g;omega
  subst g;have qF:Q6 (H:Int) rows aA (B:Int)=0:=by rw[eb,z0 (by rw[Q9b hall];decide)]
  have e1:QJ (H:Int) rows aA (B:Int)=Rm H rows aA B rows.length:=by unfold QJ;rw[z2 qF]
  have e2:DQ (H:Int) rows aA (B:Int)=Hd H rows aA B rows.length:=by unfold DQ;rw[z2 qF]
  rw[qF,e1,e2,z2 rfl];and_intros<;>first|rfl|trivial
theorem Z5s (a b:Nat):Int.tmod (a:Int) (b:Int)=((a % b:Nat):Int):=rfl
def XX (p:List Bool) (w:Nat):Bool:=p.getD (w % p.length) false
def bgB (p:List Bool) (w:Nat):Bool:=XX p w != XX p (w+p.length-1)
def UA (p:List Bool) (w:Nat):Nat:=if bgB p w then ((List.range (p.length+1)).find? λk=>decide (1<=k)&&(XX p (w+k) != XX p w)).getD 0 else if w=0/\∀ j,j<p.length->XX p j=XX p 0 then 1000 else 0
def Z3n (i bd:Int) (p:List Bool) (w:Nat):Option (Int×Int×Int×Bool):=if 0<UA p w/\bd<UA p w then some (i,(w:Int),(UA p w:Int),p.getD w false) else none
def U2 (i bd:Int) (p:List Bool) (n:Nat):List (Int×Int×Int×Bool):=(List.range n).filterMap (Z3n i bd p)
theorem Q8y {p:List Bool}{w:Nat}(h:w<p.length):XX p w=p.getD w false:=by rw[XX,zE h]
theorem HB (p:List Bool) (w:Nat):XX p (w % p.length)=XX p w:=by simp[XX]
theorem Q4v (p:List Bool) (w k:Nat):XX p (w % p.length+k)=XX p (w+k):=by simp[XX]
theorem Oa {p:List Bool}(h:p≠[]) (w:Nat):bgB p (w % p.length)=bgB p w:=by have h0:0<p.length:=zt.2 h;unfold bgB;rw[HB,Nat.add_sub_assoc h0,Nat.add_sub_assoc h0,Q4v]
theorem Hu (i bd:Int) (p:List Bool) (n:Nat):U2 i bd p (n+1)=U2 i bd p n++(Z3n i bd p n).toList:=by simp only[U2,List.range_succ,List.filterMap_append];congr 1
theorem Q1d (i bd:Int) (p:List Bool) (n:Nat):(U2 i bd p n).length<=n:=by
 have:=List.length_filterMap_le (Z3n i bd p) (List.range n)
 rwa [wC] at this
theorem Q54 {p:List Bool}{w k:Nat}(hb:bgB p w=true) (hk:1<=k) (hn:k<=p.length) (hd:XX p (w+k)≠XX p w) (he:∀ j,1<=j->j<k->XX p (w+j)=XX p w):UA p w=k:=by
 unfold UA;rw[z2 hb];have:(List.range (p.length+1)).find? (λk=>decide (1<=k)&&(XX p (w+k) != XX p w))=some k:=by
  refine List.find?_range_eq_some.2 ⟨?_,by simp;omega,λj hj=>?_⟩
  .simp[hk,hd]
  .rcases Nat.eq_zero_or_pos j with h0|h0
   .simp[h0]
   .simp[he j h0 hj]
 rw[this];rfl
theorem TD {p:List Bool}{w:Nat}(hb:bgB p w=false) (h:w≠0\/∃ j,j<p.length/\XX p j≠XX p 0):UA p w=0:=by
 unfold UA;rw[z0 (by simp[hb]),z0];rintro⟨h1,h2⟩;rcases h with h|⟨j,h3,h4⟩
 .exact h h1
 .exact h4 (h2 j h3)
theorem CT {p:List Bool}(h:∀ j,j<p.length->XX p j=XX p 0) (h0:p≠[]):UA p 0=1000:=by
 unfold UA;have hl:0<p.length:=zt.2 h0;have:bgB p 0=false:=by unfold bgB;rw[<-HB p (0+p.length-1),h _ (x6 _ hl)];simp
 rw[z0 (by simp[this]),z2 ⟨rfl,h⟩]
theorem Ou {p:List Bool}(h0:p≠[]) {w k:Nat}(h:∀ j,1<=j->j<=k->bgB p (w+j)=false):∀ j,j<=k->XX p (w+j)=XX p w
 |0,_=>rfl
 |j+1,hj=>by have h1:=Ou h0 h j (by omega);have h2:=h (j+1) (by omega) hj;have hl:0<p.length:=zt.2 h0;simp only[bgB,bne_eq_false_iff_eq] at h2;rw[h2,<-h1];unfold XX;congr 1;rw[show w+(j+1)+p.length-1=w+j+p.length by omega,Nat.add_mod_right]
theorem S8 {i bd:Int}{p:List Bool}{a:Nat}:∀ {k:Nat},(∀ j,a<=j->j<a+k->UA p j=0)->U2 i bd p (a+k)=U2 i bd p a
 |0,_=>rfl
 |k+1,h=>by rw[<-zo,Hu,S8 λj h1 h2=>h j h1 (by omega)];have:=h (a+k) (by omega) (by omega);simp[Z3n,this]
theorem Q01 {p:List Bool}{f:Nat}(hf:f<p.length) (hb:bgB p f=true):∃ j,j<p.length/\XX p j≠XX p 0:=by
 by_cases h:XX p f=XX p 0
 .refine⟨(f+p.length-1) % p.length,x6 _ (by omega),?_⟩;rw[HB,<-h];have:XX p f≠XX p (f+p.length-1):=by simpa [bgB] using hb
  exact Ne.symm this
 .exact⟨f,hf,h⟩
theorem Q28 {i bd:Int}{p:List Bool}{k:Nat}(hk:k<p.length) (hb:bgB p k=true) (h:∀ j,j<k->bgB p j=false):U2 i bd p k=[]:=by have h1:=S8 (i:=i) (bd:=bd) (p:=p) (a:=0) (k:=k) λj _ hj=>TD (h j (by omega)) (.inr (Q01 hk hb));rw[zN] at h1;rw[h1];rfl
theorem Q6r {i bd:Int}{p:List Bool}(h0:p≠[]) (h:∀ j,j<p.length->bgB p j=false):U2 i bd p p.length=if bd<1000 then [(i,0,1000,p.getD 0 false)] else []:=by
 have hl:0<p.length:=zt.2 h0;have hs:∀ j,j<p.length->XX p j=XX p 0:=λj hj=>by
  have:=Ou (w:=0) (k:=p.length-1) h0 (λj _ h2=>by rw[zN];exact h j (by omega)) j (by omega)
  rwa [zN] at this
 have h1:=S8 (i:=i) (bd:=bd) (p:=p) (a:=1) (k:=p.length-1) λj h2 hj=>TD (h j (by omega)) (.inl (by omega));rw[show 1+(p.length-1)=p.length by omega] at h1;rw[h1,show (1:Nat)=0+1 from rfl,Hu];have e:U2 i bd p 0=[]:=rfl;rw[e,xp,Z3n,CT hs h0];by_cases hb:bd<1000
 .rw[z2 hb,z2 ⟨by omega,by simpa using hb⟩];rfl
 .rw[z0 hb,z0 λh=>hb (by simpa using h.2)];rfl
theorem Gm {hd:Int}{rows:List Int}(h:Qb hd rows=0):1<=hd/\hd<=24/\rows.length<=60/\rows.length≠0/\∀ x∈rows,0<=x/\x<2 ^ hd.toNat:=by
 unfold Qb at h;split at h
 .cases h
 .rename_i h1;split at h
  .cases h
  .rename_i h2;split at h
   .cases h
   .rename_i h3;split at h
    .cases h
    .rename_i h4;have h1:1<=hd/\hd<=24:=by simpa [inI] using h1
     refine⟨h1.1,h1.2,by omega,h3,λx hx=>?_⟩;have h5:∀ x∈rows,inI x 0 (2 ^ hd.toNat-1)=true:=by simpa using h4
     have:=h5 x hx;simp only[inI,z1,ze] at this;omega
def Q3e (hk bd s:Int):Bool:=decide (Kq s.toNat s.toNat bd.toNat hk.toNat<1048576)
def J02 (row hk bd:Int):Bool:=(List.range hk.toNat).all λk=>decide (((UA (Sw row hk.toNat) k:Nat):Int)<=bd)
def UW (p:List Bool) (w l:Nat):Prop:=∀ j,j<l->XX p (w+j)=XX p w
def Z4r (p:List Bool):Prop:=∀ j,j<p.length->XX p j=XX p 0
theorem Z21 (p:List Bool) (w:Nat):XX p (w+p.length)=XX p w:=by unfold XX;rw[Nat.add_mod_right]
theorem Z5n {p:List Bool}{w l:Nat}(h:UW p w l) (hl:p.length<=l) (h0:p≠[]):Z4r p:=by
 have hn:0<p.length:=zt.2 h0;have key:∀ i,XX p i=XX p w:=λi=>by
  have hm:=x6 w hn;have hi:=x6 i hn;by_cases c:w % p.length<=i % p.length
  .have:=h (i % p.length-w % p.length) (by omega);rw[<-this];unfold XX;congr 1;rw[<-Nat.mod_add_mod,show w % p.length+(i % p.length-w % p.length)=i % p.length by omega,Nat.mod_mod]
  .have:=h (i % p.length+p.length-w % p.length) (by omega);rw[<-this];unfold XX;congr 1;rw[<-Nat.mod_add_mod,show w % p.length+(i % p.length+p.length-w % p.length)=i % p.length+p.length by omega,Nat.add_mod_right,Nat.mod_mod]
 exactλj _=>by rw[key j,key 0]
theorem Q1t {p:List Bool}(h0:p≠[]) {w:Nat}(hb:bgB p w=true):∃ k,1<=k/\k<p.length/\UA p w=k/\UW p w k/\XX p (w+k)≠XX p w:=by
 have hn:0<p.length:=zt.2 h0;have hd:XX p (w+(p.length-1))≠XX p w:=by
  have:XX p w≠XX p (w+p.length-1):=by simpa [bgB] using hb
  rw[show w+(p.length-1)=w+p.length-1 by omega];exactλh=>this h.symm
 have ex:∀ m,m<=p.length-1->(∃ k,1<=k/\k<=m/\UW p w k/\XX p (w+k)≠XX p w)\/UW p w (m+1):=λm=>by
  induction m with
  |zero=>exactλ_=>.inr λj hj=>by rw[show j=0 by omega];rfl
  |succ m ih =>
   intro hm;rcases ih (by omega) with⟨k,a,b,c⟩|h
   .exact .inl ⟨k,a,by omega,c⟩
   .by_cases e:XX p (w+(m+1))=XX p w
    .refine .inr λj hj=>?_;by_cases e2:j=m+1
     .rw[e2];exact e
     .exact h j (by omega)
    .exact .inl ⟨m+1,by omega,z5 _,h,e⟩
 rcases ex (p.length-1) (z5 _) with⟨k,a,b,c,d⟩|h
 .exact⟨k,a,by omega,Q54 hb a (by omega) d (λj _ hj=>c j hj),c,d⟩
 .exact(hd (h (p.length-1) (by omega))).elim
theorem Q4u {p:List Bool}(h0:p≠[]) (hu:¬ Z4r p):∀ (f:Nat) (w l:Nat),p.length<=l+f->1<=l->UW p w l->∃ w',w'<p.length/\bgB p w'=true/\l<=UA p w'
 |0,w,l,hf,hl,h=>(hu (Z5n h (by omega) h0)).elim
 |f+1,w,l,hf,hl,h=>by
  have hn:0<p.length:=zt.2 h0;cases hb:bgB p w with
  |true =>
   have bh:bgB p (w % p.length)=true:=by rw[Oa h0];exact hb
   obtain⟨k,k1,k2,k3,k4,k5⟩:=Q1t h0 bh;refine⟨w % p.length,x6 _ hn,bh,?_⟩;rw[k3];apply Classical.byContradiction;intro c;have:=h k (by omega);rw[Q4v,HB] at k5;exact k5 this
  |false =>
   have e:XX p w=XX p (w+p.length-1):=by simpa [bgB] using hb
   have hw:UW p (w+p.length-1) (l+1):=λj hj=>by
    cases j with
    |zero=>rfl
    |succ j =>rw[show w+p.length-1+(j+1)=w+j+p.length by omega,Z21,h j (by omega),e]
   obtain⟨w',a,b,c⟩:=Q4u h0 hu f (w+p.length-1) (l+1) (by omega) (by omega) hw;exact⟨w',a,b,by omega⟩
theorem Z2e {p:List Bool}(h0:p≠[]) (hu:¬ Z4r p) {w l:Nat}(hl:1<=l) (h:UW p w l):∃ w',w'<p.length/\l<=UA p w':=by obtain⟨w',a,_,c⟩:=Q4u h0 hu p.length w l (by omega) hl h;exact⟨w',a,c⟩
theorem Q8p {p:List Bool}(h0:p≠[]) (hu:¬ Z4r p) (w:Nat):UA p w<p.length/\UW p w (UA p w):=by
 have hn:0<p.length:=zt.2 h0;cases hb:bgB p w with
 |true =>obtain⟨k,k1,k2,k3,k4,k5⟩:=Q1t h0 hb;rw[k3];exact⟨k2,k4⟩
 |false =>
  have:UA p w=0:=by refine TD hb (.inr ?_);apply Classical.byContradiction;intro h;exact hu λj hj=>Classical.byContradiction λh2=>h ⟨j,hj,h2⟩
  rw[this];exact⟨hn,λj hj=>by omega⟩
theorem Q71 {p:List Bool}(h0:p≠[]) (hu:Z4r p):UA p 0=1000/\∀ w,w<p.length->UA p w=1000\/UA p w=0:=by
 refine⟨CT hu h0,λw hw=>?_⟩;have hn:0<p.length:=zt.2 h0;by_cases e:w=0
 .subst e;exact .inl (CT hu h0)
 .right;have key:∀ i,XX p i=XX p 0:=λi=>by rw[<-HB,hu _ (x6 _ hn)]
  exact TD (by unfold bgB;rw[key,key (w+p.length-1)];simp) (.inl e)
theorem Q8r {p:List Bool}(h0:p≠[]) {B:Nat}(hB:B<1000):okW p.length B (λi=>p.getD i false)<->∀ k,k<p.length->UA p k<=B:=by
 have hn:0<p.length:=zt.2 h0;have ew:∀ i,p.getD (i % p.length) false=XX p i:=λi=>rfl;constructor
 .intro h k hk;have hu:¬ Z4r p:=λhu=>by
   obtain⟨j,j1,j2,j3⟩:=h 0 hn;dsimp only at j3;rw[zN] at j3;have:=hu (j % p.length) (x6 _ hn);rw[HB,<-ew] at this;rw[this] at j3;exact j3 (by rw[XX,Nat.zero_mod])
  obtain⟨a,b⟩:=Q8p h0 hu k;apply Classical.byContradiction;intro c;obtain⟨j,j1,j2,j3⟩:=h k hk;have:=b j (by omega);dsimp only at j3;rw[ew] at j3;exact j3 (by rw[this,Q8y hk])
 .intro h k hk;apply Classical.byContradiction;intro c;have hw:UW p k (B+1):=λj hj=>by
   by_cases e:j=0
   .rw[e];rfl
   .apply Classical.byContradiction;intro d;refine c ⟨j,by omega,by omega,?_⟩;dsimp only;rw[ew];intro h2;exact d (by rw[h2,Q8y hk])
  by_cases hu:Z4r p
  .have:=h 0 hn;rw[(Q71 h0 hu).1] at this;omega
  .obtain⟨w',a,b⟩:=Z2e h0 hu (by omega) hw;have:=h w' a;omega
theorem Q2a {H B:Nat}{f g:Nat->Bool}(kO:∀ i,i<H->f i=g i) (h:okW H B f):okW H B g:=λk hk=>by obtain⟨j,a,b,c⟩:=h k hk;exact⟨j,a,b,by rw[<-kO k hk,<-kO _ (x6 _ (by omega))];exact c⟩
section
variable {H B:Nat}{lw:List Int}
def bdR (H B r:Nat):Prop:=r<2 ^ H/\okW H B r.testBit
theorem Q97 (hH:1<=H/\H<=24) (hB:1<=B) (s:Nat):Q3e (H:Int) (B:Int) (s:Int)=true<->∃ r,bdR H B r/\∀ j,j<H->s.testBit j=true->r.testBit j=true:=by
 unfold Q3e;simp only[z4,ze];constructor
 .intro h;obtain⟨a,b,c,_⟩:=Q2t hH hB h;exact⟨_,⟨a,b⟩,λj hj hs=>by rw[c j hj hs,hs]⟩
 .rintro⟨r,⟨_,b⟩,c⟩;exact bind_none hH hB b λj hj hs=>by rw[c j hj hs,hs]
end
theorem Z1j {H B r:Nat}(hH:1<=H) (hB:B<1000):J02 (r:Int) (H:Int) (B:Int)=true<->okW H B r.testBit:=by
 have hl:=Om (r:Int) H;have h0:Sw (r:Int) H≠[]:=λh=>by rw[h] at hl;simp at hl;omega
 have hb:=Q8r h0 hB;rw[hl] at hb;have e:okW H B r.testBit<->okW H B (λi=>(Sw (r:Int) H).getD i false):=by
  have kO:∀ i,i<H->r.testBit i=(Sw (r:Int) H).getD i false:=λi hi=>by rw[Q96 hi,z4]
  exact⟨Q2a kO,Q2a λi hi=>(kO i hi).symm⟩
 rw[e,hb];unfold J02;rw[z4,zg];constructor
 .intro h k hk;have:=h k (zS.2 hk);rw[ze] at this;omega
 .intro h k hk;rw[ze];have:=h k (zS.1 hk);omega
theorem Q9d {i bd:Int}{p:List Bool}{n:Nat}(h:∀ k,k<n->((UA p k:Nat):Int)<=bd):U2 i bd p n=[]:=by unfold U2;rw[List.filterMap_eq_nil_iff];intro k hk;have:=h k (zS.1 hk);unfold Z3n;rw[z0 (by omega)]
theorem Q55 {H B:Nat}(hH:1<=H/\H<=24) (hB:1<=B):Q3e (H:Int) (B:Int) 0=true<->∃ r,bdR H B r:=by rw[show (0:Int)=((0:Nat):Int) from rfl,Q97 hH hB 0];exact⟨λ⟨r,h,_⟩=>⟨r,h⟩,λ⟨r,h⟩=>⟨r,h,λj _ hs=>by simp at hs⟩⟩
theorem A9 {H B row:Nat}(hH:1<=H/\H<=24) (hB:1<=B):Kq row 0 B H<1048576<->∃ r,bdR H B r :=
 ⟨λh=>by obtain⟨h1,h2,_⟩:=Q2t hH hB h;exact⟨_,h1,h2⟩,λ⟨r,h⟩=>bind_none hH hB h.2 λj _ hs=>by simp at hs⟩
def pcN (n x:Nat):Nat:=((List.range n).filter λk=>x.testBit k).length
def swA (x:Nat):Nat:=((x >>> 1) &&& 6148914691236517205)+(x &&& 6148914691236517205)
def swB (x:Nat):Nat:=((x >>> 2) &&& 3689348814741910323)+(x &&& 3689348814741910323)
def swC (x:Nat):Nat:=((x >>> 4)+x) &&& 1085102592571150095
def swD (x:Nat):Nat:=x+(x >>> 8)
def swE (x:Nat):Nat:=x+(x >>> 16)
def swF (x:Nat):Nat:=x+(x >>> 32)
def swN (x:Nat):Nat:=swF (swE (swD (swC (swB (swA x))))) &&& 127
theorem Jk {h l M m k:Nat}(hl:l<2 ^ 8) (hk:k<=8) (hm:m<2 ^ (8-k)):((2 ^ 8*h+l) >>> k) &&& (2 ^ 8*M+m)=2 ^ 8*((h >>> k) &&& M)+((l >>> k) &&& m):=by
 have sg:m<2 ^ 8:=zQ hm (Nat.pow_le_pow_right (by omega) (by omega));refine Nat.eq_of_testBit_eq λj=>?_;have oR:(l >>> k) &&& m<2 ^ 8:=xj Nat.and_le_right sg;rw[Nat.testBit_and,Nat.testBit_shiftRight,Nat.testBit_two_pow_mul_add _ hl,Nat.testBit_two_pow_mul_add _ sg,Nat.testBit_two_pow_mul_add _ oR];by_cases h1:j<8
 .rw[z2 h1,z2 h1,Nat.testBit_and,Nat.testBit_shiftRight];by_cases h2:k+j<8
  .rw[z2 h2]
  .have:m.testBit j=false:=Nat.testBit_lt_two_pow (zQ hm (Nat.pow_le_pow_right (by omega) (by omega)));rw[this,Bool.and_false,Bool.and_false]
 .rw[z0 h1,z0 h1,z0 (by omega),Nat.testBit_and,Nat.testBit_shiftRight];congr 2;omega
theorem Q8h {h l:Nat}(hl:l<2 ^ 8):swA (2 ^ 8*h+l)=2 ^ 8*(((h >>> 1) &&& 24019198012642645)+(h &&& 24019198012642645))+(((l >>> 1) &&& 85)+(l &&& 85)):=by
 have h1:=Jk (h:=h) (M:=24019198012642645) (m:=85) (k:=1) hl (by omega) (by decide);have h2:=Jk (h:=h) (M:=24019198012642645) (m:=85) (k:=0) hl (by omega) (by decide);rw[Nat.shiftRight_zero,Nat.shiftRight_zero,Nat.shiftRight_zero] at h2;have e:(6148914691236517205:Nat)=2 ^ 8*24019198012642645+85:=by decide
 unfold swA;rw[e,h1,h2,wK];omega
theorem Q91 {h l:Nat}(hl:l<2 ^ 8):swB (2 ^ 8*h+l)=2 ^ 8*(((h >>> 2) &&& 14411518807585587)+(h &&& 14411518807585587))+(((l >>> 2) &&& 51)+(l &&& 51)):=by
 have h1:=Jk (h:=h) (M:=14411518807585587) (m:=51) (k:=2) hl (by omega) (by decide);have h2:=Jk (h:=h) (M:=14411518807585587) (m:=51) (k:=0) hl (by omega) (by decide);rw[Nat.shiftRight_zero,Nat.shiftRight_zero,Nat.shiftRight_zero] at h2;have e:(3689348814741910323:Nat)=2 ^ 8*14411518807585587+51:=by decide
 unfold swB;rw[e,h1,h2,wK];omega
theorem Z56:∀ b:Fin 256,∃ p q:Fin 5,swB (swA b.val)=16*q.val+p.val/\q.val+p.val=pcN 8 b.val:=by decide +kernel
theorem Hx (n x:Nat):pcN (n+1) x=pcN n x+(if x.testBit n then 1 else 0):=by
 unfold pcN;rw[List.range_succ,List.filter_append,zP];by_cases h:x.testBit n=true
 .simp[h]
 .simp[h]
theorem Z3k {h l:Nat}(hl:l<2 ^ 8):∀ n,n<=8->pcN n (2 ^ 8*h+l)=pcN n l
 |0,_=>rfl
 |n+1,hn=>by rw[Hx n (2 ^ 8*h+l),Hx n l,Z3k hl n (by omega),Nat.testBit_two_pow_mul_add _ hl,z2 (show n<8 by omega)]
theorem AY {h l:Nat}(hl:l<2 ^ 8):∀ n,pcN (n+8) (2 ^ 8*h+l)=pcN n h+pcN 8 l
 |0=>by rw[zN,Z3k hl 8 (z5 _)];simp[pcN]
 |n+1=>by rw[show n+1+8=(n+8)+1 by omega,Hx (n+8),AY hl n,Hx n h,Nat.testBit_two_pow_mul_add _ hl,z0 (show ¬ n+8<8 by omega),Nat.add_sub_cancel];omega
theorem Z3o (n x:Nat):pcN n x<=n:=by have:=List.length_filter_le (λk=>x.testBit k) (List.range n);unfold pcN;simpa using this
theorem nib {a b c d e f:Nat}(ha:a<16) (hb:b<16) (hc:c<16) (hd:d<16) (he:e<16) (hf:f<16):(a+16*b+256*c+4096*d+65536*e+1048576*f) &&& 1085102592571150095=a+256*c+65536*e:=by
 have key:∀ {m:Nat}(h l M:Nat),l<2 ^ 4->m<2 ^ 4->(2 ^ 4*h+l) &&& (2 ^ 4*M+m)=2 ^ 4*(h &&& M)+(l &&& m):=λ{m} h l M hl hm=>by
  refine Nat.eq_of_testBit_eq λj=>?_;have oR:l &&& m<2 ^ 4:=xj Nat.and_le_right hm;rw[Nat.testBit_and,Nat.testBit_two_pow_mul_add _ hl,Nat.testBit_two_pow_mul_add _ hm,Nat.testBit_two_pow_mul_add _ oR];by_cases h1:j<4
  .rw[z2 h1,z2 h1,z2 h1,Nat.testBit_and]
  .rw[z0 h1,z0 h1,z0 h1,Nat.testBit_and]
 have k0:=key (m:=15) (b+16*c+256*d+4096*e+65536*f) a 67818912035696880 (by omega) (by decide);have k1:=key (m:=0) (c+16*d+256*e+4096*f) b 4238682002231055 (by omega) (by decide);have k2:=key (m:=15) (d+16*e+256*f) c 264917625139440 (by omega) (by decide);have k3:=key (m:=0) (e+16*f) d 16557351571215 (by omega) (by decide);have k4:=key (m:=15) f e 1034834473200 (by omega) (by decide);have k5:=key (m:=0) 0 f 64677154575 (by omega) (by decide);have an:∀ x:Nat,x<16->x &&& 15=x:=λx hx=>by rw[show (15:Nat)=2 ^ 4-1 by decide,Nat.and_two_pow_sub_one_eq_mod];omega
 rw[Nat.and_zero,Nat.zero_and] at k5;rw[an e he] at k4;rw[Nat.and_zero] at k3;rw[an c hc] at k2;rw[Nat.and_zero] at k1;rw[an a ha] at k0;have e0:a+16*b+256*c+4096*d+65536*e+1048576*f=2 ^ 4*(b+16*c+256*d+4096*e+65536*f)+a:=by omega
 have e1:b+16*c+256*d+4096*e+65536*f=2 ^ 4*(c+16*d+256*e+4096*f)+b:=by omega
 have e2:c+16*d+256*e+4096*f=2 ^ 4*(d+16*e+256*f)+c:=by omega
 have e3:d+16*e+256*f=2 ^ 4*(e+16*f)+d:=by omega
 have e4:e+16*f=2 ^ 4*f+e:=by omega
 have e5:f=2 ^ 4*0+f:=by omega
 have m0:(1085102592571150095:Nat)=2 ^ 4*67818912035696880+15:=by decide
 have m1:(67818912035696880:Nat)=2 ^ 4*4238682002231055+0:=by decide
 have m2:(4238682002231055:Nat)=2 ^ 4*264917625139440+15:=by decide
 have m3:(264917625139440:Nat)=2 ^ 4*16557351571215+0:=by decide
 have m4:(16557351571215:Nat)=2 ^ 4*1034834473200+15:=by decide
 have m5:(1034834473200:Nat)=2 ^ 4*64677154575+0:=by decide
 have r4:f &&& 1034834473200=0:=by
  have:(2 ^ 4*0+f) &&& (2 ^ 4*64677154575+0)=0:=by rw[k5]
  rwa [<-m5,Nat.mul_zero,zN] at this
 rw[r4] at k4;rw[e0,m0,k0,e1,m1,k1,e2,m2,k2,e3,m3,k3,e4,m4,k4];omega
theorem DY {x M m:Nat}(hx:x<256) (h:M % 256=m):x &&& M=x &&& m:=by
 refine Nat.eq_of_testBit_eq λj=>?_;rw[Nat.testBit_and,Nat.testBit_and,<-h,show 256=2 ^ 8 by decide,Nat.testBit_mod_two_pow];by_cases h1:j<8
 .simp[h1]
 .have:x.testBit j=false:=Nat.testBit_lt_two_pow (zQ hx (by rw[show 256=2 ^ 8 by decide];exact Nat.pow_le_pow_right (by omega) (by omega)));simp[this]
theorem Q5j {b:Nat}(h:b<256):swA b=((b >>> 1) &&& 85)+(b &&& 85):=by unfold swA;rw[DY (m:=85) h (by decide),DY (m:=85) (x:=b >>> 1) (by rw[zA];omega) (by decide)]
theorem Z0z {b:Nat}(h:b<256):swB b=((b >>> 2) &&& 51)+(b &&& 51):=by unfold swB;rw[DY (m:=51) h (by decide),DY (m:=51) (x:=b >>> 2) (by rw[zA];omega) (by decide)]
theorem Q92 {b0 b1 b2:Nat}(h0:b0<256) (h1:b1<256) (h2:b2<256):swB (2 ^ 8*(2 ^ 8*b2+b1)+b0)=2 ^ 8*(2 ^ 8*swB b2+swB b1)+swB b0:=by have a0:=Q91 (h:=2 ^ 8*b2+b1) (l:=b0) (by omega);have a1:=Jk (h:=b2) (l:=b1) (M:=56294995342131) (m:=51) (k:=2) (by omega) (by omega) (by decide);have a2:=Jk (h:=b2) (l:=b1) (M:=56294995342131) (m:=51) (k:=0) (by omega) (by omega) (by decide);rw[Nat.shiftRight_zero,Nat.shiftRight_zero,Nat.shiftRight_zero,show 2 ^ 8*56294995342131+51=14411518807585587 by decide] at a2;rw[show 2 ^ 8*56294995342131+51=14411518807585587 by decide] at a1;rw[a0,a1,a2,Z0z h0,Z0z h1,Z0z h2,DY (M:=56294995342131) (m:=51) h2 (by decide),DY (M:=56294995342131) (m:=51) (x:=b2 >>> 2) (by rw[zA];omega) (by decide)];omega
theorem Q8s {b:Nat}(h:b<256):swA b<256:=by rw[Q5j h];have h1:(b >>> 1) &&& 85<=85:=Nat.and_le_right;have h2:b &&& 85<=85:=Nat.and_le_right;omega
theorem Z76 {x:Nat}(h:x<16777216):swN x=pcN 24 x:=by
 obtain⟨b0,b1,b2,h0,h1,h2,rfl⟩:∃ b0 b1 b2,b0<256/\b1<256/\b2<256/\x=2 ^ 8*(2 ^ 8*b2+b1)+b0:=⟨x % 256,x / 256 % 256,x / 65536,by omega,by omega,by omega,by omega⟩;obtain⟨p0,q0,e0,s0⟩:=Z56 ⟨b0,h0⟩;obtain⟨p1,q1,e1,s1⟩:=Z56 ⟨b1,h1⟩;obtain⟨p2,q2,e2,s2⟩:=Z56 ⟨b2,h2⟩;dsimp only at e0 e1 e2 s0 s1 s2;have hp:pcN 24 (2 ^ 8*(2 ^ 8*b2+b1)+b0)=pcN 8 b2+pcN 8 b1+pcN 8 b0:=by rw[show 24=(8+8)+8 by omega,AY (by omega),AY (by omega)]
 have hA:swA (2 ^ 8*(2 ^ 8*b2+b1)+b0)=2 ^ 8*(2 ^ 8*swA b2+swA b1)+swA b0:=by have a0:=Q8h (h:=2 ^ 8*b2+b1) (l:=b0) (by omega);have a1:=Jk (h:=b2) (l:=b1) (M:=93824992236885) (m:=85) (k:=1) (by omega) (by omega) (by decide);have a2:=Jk (h:=b2) (l:=b1) (M:=93824992236885) (m:=85) (k:=0) (by omega) (by omega) (by decide);rw[Nat.shiftRight_zero,Nat.shiftRight_zero,Nat.shiftRight_zero,show 2 ^ 8*93824992236885+85=24019198012642645 by decide] at a2;rw[show 2 ^ 8*93824992236885+85=24019198012642645 by decide] at a1;rw[a0,a1,a2,Q5j h0,Q5j h1,Q5j h2,DY (M:=93824992236885) (m:=85) h2 (by decide),DY (M:=93824992236885) (m:=85) (x:=b2 >>> 1) (by rw[zA];omega) (by decide)];omega
 have hz:swB (swA (2 ^ 8*(2 ^ 8*b2+b1)+b0))=65536*(16*q2.val+p2.val)+256*(16*q1.val+p1.val)+(16*q0.val+p0.val):=by rw[hA,Q92 (Q8s h0) (Q8s h1) (Q8s h2),e0,e1,e2];omega
 rw[hp,<-s0,<-s1,<-s2];unfold swN;rw[hz];have v9:=p0.isLt;have lU:=p1.isLt;have cU:=p2.isLt;have v_:=q0.isLt;have si:=q1.isLt;have nW:=q2.isLt;generalize p0.val=u0 at *;generalize p1.val=u1 at *;generalize p2.val=u2 at *
 generalize q0.val=v0 at *;generalize q1.val=v1 at *;generalize q2.val=v2 at *
 have hC:swC (65536*(16*v2+u2)+256*(16*v1+u1)+(16*v0+u0))=(v0+u0)+256*(v1+u1)+65536*(v2+u2):=by have:=nib (a:=v0+u0) (b:=u1+v0) (c:=v1+u1) (d:=u2+v1) (e:=v2+u2) (f:=v2) (by omega) (by omega) (by omega) (by omega) (by omega) (by omega);unfold swC;rw[<-this,zA];congr 1;omega
 rw[hC,show (127:Nat)=2 ^ 7-1 by decide,Nat.and_two_pow_sub_one_eq_mod];unfold swF swE swD;simp only[zA];obtain⟨w0,k0,l0⟩:∃ w,v0+u0=w/\w<=8:=⟨_,rfl,by omega⟩;obtain⟨w1,k1,l1⟩:∃ w,v1+u1=w/\w<=8:=⟨_,rfl,by omega⟩;obtain⟨w2,k2,l2⟩:∃ w,v2+u2=w/\w<=8:=⟨_,rfl,by omega⟩;rw[k0,k1,k2];clear hz hC hp hA e0 e1 e2 s0 s1 s2;have d1:(w0+256*w1+65536*w2) / 2 ^ 8=w1+256*w2:=by omega
 rw[d1];have d2:(w0+256*w1+65536*w2+(w1+256*w2)) / 2 ^ 16=w2:=by omega
 rw[d2];have d3:(w0+256*w1+65536*w2+(w1+256*w2)+w2) / 2 ^ 32=0:=by omega
 rw[d3];omega
def KP (ds:List (Int×List Int)):Int:=match ds.find? (λd=>decide (Qb d.1 d.2≠0)) with|some d=>Qb d.1 d.2|none=>0
def RS (n:Nat) (q:Nat->Bool):Nat:=L4 ((List.range n).map q)
def IQ (pk hk:Nat) (p:Int×Int->Bool):List Int:=(List.range pk).map λ(i:Nat)=>((RS hk (λj=>p ((i:Int),(j:Int))):Nat):Int)
theorem Q6t:∀ (l:List Bool) (b:Bool),L4 (l++[b])=L4 l ||| (if b then 1 <<< l.length else 0):=by
 intro l b;refine Nat.eq_of_testBit_eq λk=>?_;rw[Cm,Nat.testBit_or,Cm];rcases Nat.lt_trichotomy k l.length with h|h|h
 .rw[z9,xD h,<-z9];cases b
  .simp
  .simp only[zn,Nat.one_shiftLeft,Nat.testBit_two_pow];have:¬ l.length=k:=by omega
   simp[this]
 .subst h;cases b
  .simp[z9]
  .simp[z9,Nat.one_shiftLeft,Nat.testBit_two_pow]
 .have h1:(l++[b]).getD k false=false:=by
   rw[z9,xb (by simp;omega)];rfl
  have h2:l.getD k false=false:=by rw[z9,xb (by omega)];rfl
  rw[h1,h2];cases b
  .simp
  .simp only[zn,Nat.one_shiftLeft,Nat.testBit_two_pow];have:¬ l.length=k:=by omega
   simp[this]
theorem Q6x (n:Nat) (q:Nat->Bool):RS (n+1) q=RS n q ||| (if q n then 1 <<< n else 0):=by unfold RS;rw[List.range_succ,xw,zx,List.map_nil,Q6t];simp
theorem Z1x (n:Nat) (q:Nat->Bool):RS n q<2 ^ n:=by have:=Q4b ((List.range n).map q);simpa [RS] using this
theorem Sy (pk hk:Nat) (p:Int×Int->Bool):(IQ pk hk p).length=pk:=by simp[IQ]
theorem Q5v {pk hk:Nat}{p:Int×Int->Bool}{i:Nat}(h:i<pk):(IQ pk hk p).getD i 0=((RS hk (λj=>p ((i:Int),(j:Int))):Nat):Int):=by rw[Qg (by rw[Sy];exact h)];simp[IQ]
theorem Iy (a b:Int×List Int):KP [a,b]=if Qb a.1 a.2≠0 then Qb a.1 a.2 else Qb b.1 b.2:=by unfold KP;by_cases h1:Qb a.1 a.2=0<;>by_cases h2:Qb b.1 b.2=0<;>simp[h1,h2]
def tzK:Nat->Nat->Nat
 |0,_=>0
 |f+1,n=>if n % 2=1 then 0 else 1+tzK f (n / 2)
def tzN (n:Nat):Nat:=if n=0 then 64 else tzK 64 n
theorem Q57:∀ f n,0<n->n<2 ^ f->tzK f n<f/\∃ m,n=2 ^ tzK f n*(2*m+1)
 |0,n,h0,h1=>by simp at h1;omega
 |f+1,n,h0,h1=>by
  unfold tzK;split
  .rename_i h;exact⟨by omega,n / 2,by omega⟩
  .rename_i h;have hp:2 ^ (f+1)=2*2 ^ f:=by rw[Nat.pow_succ];omega
   obtain⟨h2,m,h3⟩:=Q57 f (n / 2) (by omega) (by omega);refine⟨by omega,m,?_⟩;rw[xV,Nat.pow_succ,xZ (2 ^ _) 2,Nat.mul_assoc,<-h3];omega
theorem Q08 {n:Nat}(h0:0<n) (h1:n<2 ^ 64):tzN n<64/\∃ m,n=2 ^ tzN n*(2*m+1):=by unfold tzN;rw[z0 (by omega)];exact Q57 64 n h0 h1
theorem Z0n {t m:Nat}(i:Nat):(2 ^ t*(2*m+1)-1).testBit i=if i<t then true else if i=t then false else (2 ^ t*(2*m+1)).testBit i:=by
 have hp:0<2 ^ t:=Nat.two_pow_pos t;have e:2 ^ t*(2*m+1)-1=2 ^ t*(2*m)+(2 ^ t-1):=by rw[wK,wI];omega
 rw[e,Nat.testBit_two_pow_mul_add _ (by omega)];split
 .rename_i h;rw[Nat.testBit_two_pow_sub_one];simpa using h
 .rename_i h;split
  .rename_i h2;subst h2;simp
  .rename_i h2;rw[Nat.testBit_two_pow_mul];obtain⟨k,hk⟩:∃ k,i-t=k+1:=⟨i-t-1,by omega⟩;have hd:decide (i>=t)=true:=zL (by omega);rw[hd,hk,Nat.testBit_succ,Nat.testBit_succ,Bool.true_and];congr 1;omega
theorem Z59 {n:Nat}(h0:0<n) (h1:n<2 ^ 64):n &&& (2 ^ 64-n)=2 ^ tzN n:=by
 obtain⟨ht,m,hm⟩:=Q08 h0 h1;generalize tzN n=t at *
 refine Nat.eq_of_testBit_eq λi=>?_;have e:2 ^ 64-n=2 ^ 64-((n-1)+1):=by omega
 rw[Nat.testBit_and,e,Nat.testBit_two_pow_sub_succ (by omega),Nat.testBit_two_pow,hm,Z0n];by_cases h2:i<t
 .rw[z2 h2,Nat.testBit_two_pow_mul,xL (show ¬ i>=t by omega),xL (show ¬ t=i by omega)];rfl
 .rw[z0 h2];by_cases h3:i=t
  .subst h3;rw[z2 rfl,Nat.testBit_two_pow_mul];simp;omega
  .rw[z0 h3,xL (show ¬ t=i by omega)];cases (2 ^ t*(2*m+1)).testBit i<;>simp
theorem Z7h:∀ t:Nat,t<64->Go.V.t64[(2 ^ t*285870213051353865 % 18446744073709551616) / 288230376151711744]?=some (t:Int):=by decide +kernel
theorem Em {a b:Nat}(ha:a<2 ^ 64) (hb:b<2 ^ 64):Qf .and .u64 (a:Int) (b:Int)=((a &&& b:Nat):Int):=by
 have e:(BitVec.ofInt 64 ((a:Nat):Int) &&& BitVec.ofInt 64 ((b:Nat):Int)).toNat=a &&& b:=by rw[BitVec.toNat_and,BitVec.toNat_ofInt,BitVec.toNat_ofInt];congr 1<;>omega
 have aj:a &&& b<2 ^ 64:=xj Nat.and_le_left ha;show IntKind.wrap .u64 ((BitVec.ofInt 64 ((a:Nat):Int) &&& BitVec.ofInt 64 ((b:Nat):Int)).toNat:Int)=_;rw[e];simp[IntKind.wrap,IntKind.bits,IntKind.signed];omega
theorem IE {x i:Nat}(hi:i<=64):Zg .u64 x i=((x >>> i:Nat):Int):=by have:Nat.min i 64=i:=xF hi;simp only[Zg,z4,IntKind.bits,this];rw[zA,Int.fdiv_eq_ediv_of_nonneg _ (Int.le_of_lt (Int.pow_pos (by omega)))];norm_cast
theorem E0 (y k:Nat):y >>> k<=y:=by rw[zA];exact Nat.div_le_self _ _
theorem opA {y:Nat}(h:y<2 ^ 60):Qf .and .u64 (Zg .u64 (y:Int) 1) 6148914691236517205+Qf .and .u64 (y:Int) 6148914691236517205=((swA y:Nat):Int)/\swA y<=2*y:=by have h1:=E0 y 1;have e1:Zg .u64 (y:Int) 1=((y >>> 1:Nat):Int):=IE (i:=1) (by omega);have e2:=Em (a:=y >>> 1) (b:=6148914691236517205) (by omega) (by omega);have e3:=Em (a:=y) (b:=6148914691236517205) (by omega) (by omega);have l1:y >>> 1 &&& 6148914691236517205<=y >>> 1:=Nat.and_le_left;have l2:y &&& 6148914691236517205<=y:=Nat.and_le_left;exact⟨by rw[e1];exact(congr (congrArg HAdd.hAdd e2) e3).trans (xY _ _).symm,by unfold swA;omega⟩
theorem opB {y:Nat}(h:y<2 ^ 60):Qf .and .u64 (Zg .u64 (y:Int) 2) 3689348814741910323+Qf .and .u64 (y:Int) 3689348814741910323=((swB y:Nat):Int)/\swB y<=2*y:=by have h1:=E0 y 2;have e1:Zg .u64 (y:Int) 2=((y >>> 2:Nat):Int):=IE (i:=2) (by omega);have e2:=Em (a:=y >>> 2) (b:=3689348814741910323) (by omega) (by omega);have e3:=Em (a:=y) (b:=3689348814741910323) (by omega) (by omega);have l1:y >>> 2 &&& 3689348814741910323<=y >>> 2:=Nat.and_le_left;have l2:y &&& 3689348814741910323<=y:=Nat.and_le_left;exact⟨by rw[e1];exact(congr (congrArg HAdd.hAdd e2) e3).trans (xY _ _).symm,by unfold swB;omega⟩
theorem opC {y:Nat}(h:y<2 ^ 60):Qf .and .u64 (Zg .u64 (y:Int) 4+(y:Int)) 1085102592571150095=((swC y:Nat):Int)/\swC y<=2*y/\Zg .u64 (y:Int) 4+(y:Int)=((y >>> 4+y:Nat):Int):=by
 have h1:=E0 y 4;have e1:Zg .u64 (y:Int) 4=((y >>> 4:Nat):Int):=IE (i:=4) (by omega);have e2:=Em (a:=y >>> 4+y) (b:=1085102592571150095) (by omega) (by omega);have l1:(y >>> 4+y) &&& 1085102592571150095<=y >>> 4+y:=Nat.and_le_left;have e3:Zg .u64 (y:Int) 4+(y:Int)=((y >>> 4+y:Nat):Int):=by rw[e1];exact(xY _ _).symm
 exact⟨by rw[e3];exact e2,by unfold swC;omega,e3⟩
theorem opS {y k:Nat}(hk:k<=64):(y:Int)+Zg .u64 (y:Int) (k:Int)=((y+y >>> k:Nat):Int)/\y+y >>> k<=2*y:=by have h1:=E0 y k;exact⟨by rw[IE hk];exact(xY _ _).symm,by omega⟩
def Ug (hd:Int) (rows:List Int) (hd1:Int) (af:List Int):Int:=if KP [(hd,rows),(hd1,af)]≠0 then KP [(hd,rows),(hd1,af)] else if (decide (hd=hd1)&&decide (rows.length=af.length))=false then 4 else 0
def Ic (rows af:List Int) (k:Nat):Nat:=(rows.getD k 0).toNat ^^^ (af.getD k 0).toNat
def Ht (rows af:List Int):Nat->Int×Int×Int
 |0=>(0,0,0)
 |k+1=>if ((Ht rows af k).1==0&&(Ic rows af k != 0))=true then ((Ht rows af k).1+(pcN 24 (Ic rows af k):Int),(k:Int),(tzN (Ic rows af k):Int)) else ((Ht rows af k).1+(pcN 24 (Ic rows af k):Int),(Ht rows af k).2.1,(Ht rows af k).2.2)
def FL (hd:Int) (rows:List Int) (hd1:Int) (af:List Int):Int×Int×Int:=if Ug hd rows hd1 af=0 then Ht rows af rows.length else (0,0,0)
theorem Q5e (rows af:List Int) (k:Nat):(Ht rows af (k+1)).1=(Ht rows af k).1+(pcN 24 (Ic rows af k):Int):=by rw[show Ht rows af (k+1)=if ((Ht rows af k).1==0&&(Ic rows af k != 0))=true then ((Ht rows af k).1+(pcN 24 (Ic rows af k):Int),(k:Int),(tzN (Ic rows af k):Int)) else ((Ht rows af k).1+(pcN 24 (Ic rows af k):Int),(Ht rows af k).2.1,(Ht rows af k).2.2) from rfl];split<;>rfl
theorem Q7x (rows af:List Int):∀ k:Nat,0<=(Ht rows af k).1/\(Ht rows af k).1<=24*k
 |0=>by unfold Ht;simp
 |k+1=>by have ih:=Q7x rows af k;have:=Z3o 24 (Ic rows af k);rw[Q5e];omega
theorem Q4t {x h:Nat}(hx:x<2 ^ h):∀ m,pcN (h+m) x=pcN h x
 |0=>rfl
 |m+1=>by have:x.testBit (h+m)=false:=Nat.testBit_lt_two_pow (zQ hx (Nat.pow_le_pow_right (by omega) (by omega)));rw[show h+(m+1)=(h+m)+1 by omega,Hx,Q4t hx m,this];rfl
theorem Q9p {H:Int}{R S:List Int}(a:Qb H R=0) (b:Qb H S=0) (h:R.length=S.length):Ug H R H S=0:=by
 have c:KP [(H,R),(H,S)]=0:=by rw[Iy];simp[a,b]
 unfold Ug;rw[z0 (by omega),z0 (by rw[zL rfl,zL h];decide)]
def Kb (hd:Int) (rows:List Int) (bd:Int):Int:=if Qb hd rows≠0 then Qb hd rows else if inI bd 0 1000=false then 3 else 0
def Q70 (hd:Int) (rows:List Int) (bd:Int) (n:Nat):List (Int×Int×Int×Bool):=((List.range n).map λ(i:Nat)=>U2 (i:Int) bd (Sw (rows.getD i 0) hd.toNat) hd.toNat).flatten
def E_ (hd:Int) (rows:List Int) (bd:Int):List (Int×Int×Int×Bool):=if Kb hd rows bd=0 then Q70 hd rows bd rows.length else []
theorem AK (hd:Int) (rows:List Int) (bd:Int) (n:Nat):Q70 hd rows bd (n+1)=Q70 hd rows bd n++U2 (n:Int) bd (Sw (rows.getD n 0) hd.toNat) hd.toNat:=by simp only[Q70,List.range_succ,xw,List.flatten_append,zx,List.map_nil,List.flatten_cons,List.flatten_nil,xn]
theorem Q36 {i bd:Int}{p:List Bool}{f L:Nat}(hf:f<p.length) (hb:bgB p f=true) (hL:1<=L) (uH:L<=p.length) (hn:∀ j,1<=j->j<L->bgB p (f+j)=false) (he:bgB p (f+L)=true) :
  U2 i bd p (f+1)=U2 i bd p f++(if bd<(L:Int) then [(i,(f:Int),(L:Int),p.getD f false)] else []):=by
 have h0:p≠[]:=by rintro rfl;simp at hf
 have hs:=Ou (w:=f) (k:=L-1) h0 λj h1 h2=>hn j h1 (by omega);have hd:XX p (f+L)≠XX p f:=by
  have h1:XX p (f+L)≠XX p (f+L+p.length-1):=by simpa [bgB] using he
  rw[show f+L+p.length-1=f+(L-1)+p.length by omega] at h1;have h2:XX p (f+(L-1)+p.length)=XX p (f+(L-1)):=by unfold XX;rw[Nat.add_mod_right]
  rwa [h2,hs (L-1) (z5 _)] at h1
 have hlen:UA p f=L:=Q54 hb hL uH hd λj _ h2=>hs j (by omega);rw[Hu,Z3n,hlen];by_cases hb:bd<(L:Int)
 .rw[z2 hb,z2 ⟨by omega,hb⟩];rfl
 .rw[z0 hb,z0 λh=>hb h.2];rfl
theorem Q9m {i bd:Int}{p:List Bool}{j:Nat}(hb:bgB p j=false) (hk:∃ t,t<j/\bgB p t=true):U2 i bd p (j+1)=U2 i bd p j:=by obtain⟨t,h1,_⟩:=hk;rw[Hu,Z3n,TD hb (.inl (by omega))];simp
theorem Q40 (hd:Int) (rows:List Int) (bd:Int):∀ n,(Q70 hd rows bd n).length<=n*hd.toNat
 |0=>by simp[Q70]
 |n+1=>by have h1:=Q40 hd rows bd n;have h2:=Q1d n bd (Sw (rows.getD n 0) hd.toNat) hd.toNat;rw[AK,zP,zB,xx];omega
def Us:AL ((Int×List Int)×Int):=(.cons (.agg (.cons (.k (.i .i64)) (.one (.k (.list (.i .i64)))))) (.one (.k (.i .i64))))
def HL (d:(Int×List Int)×Int):Prop:=1<=d.1.1/\d.1.1<=24/\0<=d.2/\d.2<d.1.2.length/\d.1.2.length<=60/\(∀ x∈d.1.2,0<=x/\x<16777216)
def VA (d:(Int×List Int)×Int):SV:=.lst 0
def Vu (d:(Int×List Int)×Int):List OB:=[.lst 4 .bo (Sw (d.1.2.getD d.2.toNat 0) d.1.1.toNat) ((Sw (d.1.2.getD d.2.toNat 0) d.1.1.toNat).isEmpty)]
def YL:CSp:=XD Us HL VA Vu
def X4 (hd:Int) (rows:List Int) (pk:Int):Prop :=
 ∃ (e4:Unit) (d40:(List Bool)×Int),((pk=pk/\True/\True/\hd=hd/\(0:Int)=d40.2/\True)/\((hd=hd/\rows=rows/\(([]:List SV)=[]))/\(d40.1=[]/\(List.isEmpty d40.1)=true)/\True)) /\
 LoopP (λ(d4:(List Bool)×Int) (q4:((List Bool)×Int)->Prop) =>
  ((decide (d4.2<hd))=true ->
   (0<=pk)/\(pk<(List.length rows))/\(0<=d4.2)/\(((List.length d4.1)+(List.length [((Qf .and .i64 (Zg .i64 (gD rows pk 0) d4.2) (1:Int))==(1:Int))]))*1<=70368744177664)/\(I64 (d4.2+(1:Int)))/\(∃ d5:(List Bool)×Int,((pk=pk/\True/\True/\hd=hd/\(d4.2+(1:Int))=d5.2/\True)/\((hd=hd/\rows=rows/\(([]:List SV)=[]))/\((d4.1++[((Qf .and .i64 (Zg .i64 (gD rows pk 0) d4.2) (1:Int))==(1:Int))])=d5.1/\false=(List.isEmpty d5.1))/\True))/\q4 d5)) /\
  ((decide (d4.2<hd))=false ->
   (True/\((d4.1=(Sw (rows.getD pk.toNat 0) hd.toNat)/\(List.isEmpty d4.1)=(Sw (rows.getD pk.toNat 0) hd.toNat).isEmpty)/\True)))) d40
def Uh:Cx:=⟨[(4,.bo)],[],27,[],0,[],[],[],[],false,[],[],[],[]⟩
def PO (hd:Int) (rows:List Int) (pk:Int):List (Nat×LoopAnn):=[(0,⟨Unit,(List Bool)×Int,[1,2,4,8,9],λe x=>[.val (.i .i64) pk,.box 2 0,.lst 24,.val (.i .i64) hd,.val (.i .i64) x.2],λe x=>[(2,.slot 2,.cells [.val (.i .i64) hd,.val (.list (.i .i64)) rows] (some 90)),(24,.slot 4,.lst 4 .bo x.1 (List.isEmpty x.1))]⟩)]
theorem Tb (d:(Int×List Int)×Int):gwp (Uh) (PO d.1.1 d.1.2 d.2) c60 0 (Wj [.tmp 4] (VA d) (Vu d)) (Qp 27 (AL.can Us d))=X4 d.1.1 d.1.2 d.2:=by kernel_rfl
abbrev PR:Prop:=OkC Tryz.prog 60 YL
theorem T7 (h:∀ (hd:Int) (rows:List Int) (pk:Int),(1<=hd/\hd<=24/\0<=pk/\pk<rows.length/\rows.length<=60/\(∀ x∈rows,0<=x/\x<16777216))->X4 hd rows pk):OkC Tryz.prog 60 YL :=
 Qs Z88 mixed (C:=Uh) (V:=λ(d:(Int×List Int)×Int)=>X4 d.1.1 d.1.2 d.2) ⟨.nil,XsOk.nil,ItsOk.nil,YlOk.nil,IysOk.nil,XfOk.nil⟩ (Tb) λd hp=>h d.1.1 d.1.2 d.2 hp
theorem Ti:PR:=T7 λhd rows pk h=>by
 obtain⟨h1,h2,h3,h4,h5,h6⟩:=h;unfold X4;(try delta lI gD sT I64 Q2 pj8 pj4);simp only[true_and,and_true];have hk:pk.toNat<rows.length:=by omega
 have hx:=h6 (rows.getD pk.toNat 0) (by rw[Qg hk];exact zh hk);obtain⟨H,rfl⟩:=z8 (show 0<=hd by omega);generalize rows.getD pk.toNat 0=r at *
 rw[z4];refine⟨(),([],0),by and_intros<;>first|rfl|trivial,?_⟩;refine⟨λd=>∃ i:Nat,i<=H/\d=(Sw r i,(i:Int)),λd=>H-d.2.toNat,⟨0,by omega,rfl⟩,?_⟩;rintro _ ⟨i,hi,rfl⟩;dsimp only;refine⟨λg=>?_,λg=>?_⟩
 .have g:i<H:=by have:=z7 g;omega
  have hb:=Od (h:=(i:Int)) hx ⟨by omega,by omega⟩;rw[z4] at hb;rw[hb];refine⟨by omega,by omega,by omega,by rw[Om];simp only[zJ,List.length_nil];omega,by rw[Q7];omega,(Sw r (i+1),(i:Int)+1),?_,⟨i+1,g,rfl⟩,by dsimp only;omega⟩;rw[Q84];and_intros<;>first|rfl|trivial|exact(by cases Sw r i<;>rfl)
 .have g:i=H:=by have:=z6 g;omega
  rw[g];and_intros<;>first|rfl|trivial
def VB:AL (Int×List Bool):=(.cons (.k (.i .i64)) (.one (.ptr (.one (.k (.list .bo))))))
def H6 (d:Int×List Bool):Prop:=0<=d.1/\d.1<d.2.length/\d.2.length<=1000
def V8 (d:Int×List Bool):SV:=.val .bo (bgB d.2 d.1.toNat)
def V5 (d:Int×List Bool):List OB:=[]
def WS:CSp:=XD VB H6 V8 V5
def JF (w:Int) (p:List Bool):Prop :=
 (0<=w)/\(w<(List.length p))/\(I64 (w+(lI p)))/\(I64 ((w+(lI p))-(1:Int)))/\((lI p)≠0)/\(0<=(Int.tmod ((w+(lI p))-(1:Int)) (lI p)))/\((Int.tmod ((w+(lI p))-(1:Int)) (lI p))<(List.length p))/\((!((gD p w false)==(gD p (Int.tmod ((w+(lI p))-(1:Int)) (lI p)) false)))=(bgB p w.toNat)/\(True))
def Vs:Cx:=⟨[],[],20,[],0,[],[],[],[],false,[],[],[],[]⟩
def HO (w:Int) (p:List Bool):List (Nat×LoopAnn):=[]
theorem HU (d:Int×List Bool):gwp (Vs) (HO d.1 d.2) c81 0 (Wj [.tmp 3] (V8 d) (V5 d)) (Qp 20 (AL.can VB d))=JF d.1 d.2:=by kernel_rfl
abbrev HP:Prop:=OkC Tryz.prog 81 WS
theorem HT (h:∀ (w:Int) (p:List Bool),(0<=w/\w<p.length/\p.length<=1000)->JF w p):OkC Tryz.prog 81 WS :=
 Qs Z8p mixed (C:=Vs) (V:=λ(d:Int×List Bool)=>JF d.1 d.2) ⟨.nil,XsOk.nil,ItsOk.nil,YlOk.nil,IysOk.nil,XfOk.nil⟩ (HU) λd hp=>h d.1 d.2 hp
theorem HJ:HP:=HT λw p h=>by
 obtain⟨h1,h2,h3⟩:=h;unfold JF;(try delta lI gD sT I64 Q2 pj8 pj4);obtain⟨n,rfl⟩:=z8 h1;have e:(n:Int)+(p.length:Int)-1=((n+p.length-1:Nat):Int):=by omega
 have hm:=x6 (n+p.length-1) (show 0<p.length by omega);rw[e,Z5s,z4,z4];refine⟨by omega,by omega,by rw[Q7];omega,by rw[Q7];omega,by omega,by omega,by omega,?_,trivial⟩;unfold bgB XX;rw[zE (show n<p.length by omega)];rfl
end Go.Proofs.Tryz
namespace Go.Proofs.Tryz
open Go Go.V Go.Proofs
def BO:AL ((Int×List Int)×Unit×Int):=(.cons (.agg (.cons (.k (.i .i64)) (.one (.k (.list (.i .i64)))))) (.cons (.int .i64 1) (.one (.k (.i .i64)))))
def Ln (d:(Int×List Int)×Unit×Int):Prop:=d.1.2.length<=1000
def GZ (d:(Int×List Int)×Unit×Int):SV:=.tup [.lst 0,.val (.i .i64) (Kb d.1.1 d.1.2 d.2.2)]
def GU (d:(Int×List Int)×Unit×Int):List OB:=[.lst 67 (.pair (.i .i64) (.pair (.i .i64) (.pair (.i .i64) .bo))) (E_ d.1.1 d.1.2 d.2.2) ((E_ d.1.1 d.1.2 d.2.2).isEmpty)]
def KB:CSp:=XD BO Ln GZ GU
abbrev QC :=(True/\(([]:List SV)=[]))
abbrev YG :=(((([]:List SV)=[]))/\(True/\True/\True/\(([]:List SV)=[])))
abbrev W1 :=((1:Int)=(1:Int)/\(([]:List SV)=[]))
abbrev IW (hd:Int) (rows:List Int):=(True/\(1:Int)=(1:Int)/\True/\True/\True/\True/\True/\True/\True/\True/\True/\True/\True/\True/\True/\True/\True/\True/\True/\True/\True/\True/\True/\True/\True/\True/\True/\True/\(hd=hd/\rows=rows/\(([]:List SV)=[]))/\(hd=hd/\rows=rows/\(([]:List SV)=[]))/\(1:Int)=(1:Int)/\True/\True/\True/\True/\True/\True/\True/\True/\True/\True/\True/\(([]:List SV)=[]))
abbrev Xy :=(List (Int×Int×Int×Bool))
abbrev G7 :=(((([]:List SV)=[]))/\QC)
abbrev Gl :=(QC/\((([]:List SV)=[])))
abbrev Nq (hd:Int) (rows:List Int):=(hd=hd/\rows=rows/\(([]:List SV)=[]))
def Yx (hd:Int) (rows:List Int) (bd:Int):Prop :=
 (rows.length<=1000000)/\∃ (e3:Unit),J15 (λ(q3:(Unit)->Prop) =>
 (((Qb hd rows) != (0:Int))=true ->
  ((True/\(Qb hd rows)=(Kb hd rows bd)/\(([]:List SV)=[]))/\(((E_ hd rows bd)=[]/\(E_ hd rows bd).isEmpty=true)/\True))) /\
 (((Qb hd rows) != (0:Int))=false ->
  ([bd].length<=1000000)/\((!(!([bd].any λn=>decide (n<(0:Int))||decide ((1000:Int)<n))))=true ->
   ((True/\(3:Int)=(Kb hd rows bd)/\(([]:List SV)=[]))/\(((E_ hd rows bd)=[]/\(E_ hd rows bd).isEmpty=true)/\True))) /\
  ((!(!([bd].any λn=>decide (n<(0:Int))||decide ((1000:Int)<n))))=false ->
   (∃ d4:Unit,(((1:Int)=(1:Int)/\True/\True/\True/\True)/\((Nq hd rows)/\(bd=bd/\(([]:List SV)=[]))/\QC/\True))/\q3 d4))))
 (λ(d3:Unit) =>
  ∀ w5:List Value,((True/\True/\True/\True/\(lI rows)=(lI rows)/\True)/\((Nq hd rows)/\(bd=bd/\(([]:List SV)=[]))/\QC/\(w5=w5/\(IW hd rows))/\(Nq hd rows)/\W1/\((((Nq hd rows)/\(([]:List SV)=[]))/\((([]:List SV)=[])))/\(([]:List SV)=[]))/\((0:Int)=(0:Int)/\(([]:List SV)=[]))/\True))/\(((True/\True/\True/\True/\(lI rows)=(lI rows)/\True)/\((Nq hd rows)/\(bd=bd/\(([]:List SV)=[]))/\QC/\(w5=w5/\(IW hd rows))/\(Nq hd rows)/\W1/\((((Nq hd rows)/\(([]:List SV)=[]))/\((([]:List SV)=[])))/\(([]:List SV)=[]))/\((0:Int)=(0:Int)/\(([]:List SV)=[]))/\True)))/\w5=w5/\∀ w6:LpD,∃ (aB:Int×(List Int)×Int×Int×(List Int)×Int×Int×(List Int)×Int×(List Int)×Int×LpD) (d100:Int×Xy),((True/\True/\True/\(lI rows)=aB.2.2.1/\(0:Int)=d100.1/\True)/\(((((hd=aB.1/\rows=aB.2.1/\(([]:List SV)=[]))/\(([]:List SV)=[]))/\((([]:List SV)=[])))/\(([]:List SV)=[]))/\W1/\QC/\((pj8 aB).2.2.2=w6/\(True/\(1:Int)=(1:Int)/\True/\True/\True/\True/\True/\True/\True/\True/\True/\True/\True/\True/\True/\True/\True/\True/\True/\True/\True/\True/\True/\True/\True/\True/\True/\True/\(hd=(pj4 aB).2.2.1/\rows=(pj4 aB).2.2.2.1/\(([]:List SV)=[]))/\(hd=(pj8 aB).1/\rows=(pj8 aB).2.1/\(([]:List SV)=[]))/\(1:Int)=(1:Int)/\YG/\True/\True/\True/\True/\True/\True/\True/\True/\True/\True/\(([]:List SV)=[])))/\(hd=aB.2.2.2.1/\rows=(pj4 aB).1/\(([]:List SV)=[]))/\(bd=(pj4 aB).2.1/\(([]:List SV)=[]))/\QC/\(d100.2=[]/\(List.isEmpty d100.2)=true)/\((lI rows)=(pj8 aB).2.2.1/\(([]:List SV)=[]))/\True)) /\
  LoopP (λ(d10:Int×Xy) (iP:(Int×Xy)->Prop) =>
   ((decide (d10.1<aB.2.2.1))=true ->
    (1<=aB.1/\aB.1<=24/\0<=d10.1/\d10.1<aB.2.1.length/\aB.2.1.length<=60/\(∀ x∈aB.2.1,0<=x/\x<16777216))/\∀ dT:LpD,∃ (ak:(List Bool)×Int×Int×(List Int)×Int×Int×(List Int)×Int×(List Int)×Int×Int×(List Int)×LpD×Int×Int×Int×Bool×Int×Int×(List Int)×Int×LpD) (iC:Bool×Int×Xy),((True/\True/\G7/\true=iC.1/\(lI (Sw (aB.2.1.getD d10.1.toNat 0) aB.1.toNat))=ak.2.1/\(0:Int)=iC.2.1/\True)/\(QC/\((Sw (aB.2.1.getD d10.1.toNat 0) aB.1.toNat)=ak.1/\(Sw (aB.2.1.getD d10.1.toNat 0) aB.1.toNat).isEmpty=(List.isEmpty ak.1))/\((pj4 (pj8 ak)).1=(pj8 aB).2.2.2/\(True/\(1:Int)=(1:Int)/\True/\True/\True/\True/\True/\True/\True/\True/\True/\True/\True/\True/\True/\True/\True/\True/\True/\True/\True/\True/\True/\True/\True/\True/\True/\True/\((pj4 aB).2.2.1=(pj4 ak).2.1/\(pj4 aB).2.2.2.1=(pj4 ak).2.2.1/\(([]:List SV)=[]))/\((pj8 aB).1=(pj4 ak).2.2.2.1/\(pj8 aB).2.1=(pj8 ak).1/\(([]:List SV)=[]))/\(1:Int)=(1:Int)/\YG/\True/\True/\True/\True/\True/\True/\True/\True/\True/\True/\(([]:List SV)=[])))/\(aB.2.2.2.1=ak.2.2.1/\(pj4 aB).1=ak.2.2.2.1/\(([]:List SV)=[]))/\((pj4 aB).2.1=(pj4 ak).1/\(([]:List SV)=[]))/\QC/\(d10.2=iC.2.2/\(List.isEmpty d10.2)=(List.isEmpty iC.2.2))/\((pj8 aB).2.2.1=(pj8 ak).2.1/\(([]:List SV)=[]))/\((((aB.1=(pj8 ak).2.2.1/\aB.2.1=(pj8 ak).2.2.2.1/\(([]:List SV)=[]))/\(([]:List SV)=[]))/\((([]:List SV)=[])))/\(([]:List SV)=[]))/\W1/\((pj4 (Q2 ak)).2=dT/\(True/\True/\True/\True/\True/\True/\True/\True/\aB.2.2.1=(pj4 (pj8 ak)).2.2.1/\d10.1=(pj4 (pj8 ak)).2.2.2.1/\(decide (d10.1<aB.2.2.1))=(Q2 ak).1/\d10.1=(Q2 ak).2.1/\(((aB.1=(Q2 ak).2.2.1/\aB.2.1=(Q2 ak).2.2.2.1/\(([]:List SV)=[]))/\(([]:List SV)=[]))/\((([]:List SV)=[])))/\d10.1=(pj4 (Q2 ak)).1/\True/\Gl/\True/\True/\True/\True/\True/\True/\True/\True/\True/\True/\True/\True/\True/\True/\True/\True/\True/\True/\True/\True/\True/\(([]:List SV)=[])))/\QC/\(d10.1=(pj4 (pj8 ak)).2.1/\(([]:List SV)=[]))/\True)) /\
    LoopP (λ(d14:Bool×Int×Xy) (qG:(Bool×Int×Xy)->Prop) =>
     ((decide (d14.2.1<ak.2.1))=true ->
      (0<=d14.2.1/\d14.2.1<ak.1.length/\ak.1.length<=1000)/\((!(bgB ak.1 d14.2.1.toNat))=true ->
       (I64 (d14.2.1+(1:Int)))/\(∃ d15:Bool×Int×Xy,((True/\True/\G7/\d14.1=d15.1/\ak.2.1=ak.2.1/\(d14.2.1+(1:Int))=d15.2.1/\True)/\(QC/\(ak.1=ak.1/\(List.isEmpty ak.1)=(List.isEmpty ak.1))/\((pj4 (pj8 ak)).1=(pj4 (pj8 ak)).1/\(True/\(1:Int)=(1:Int)/\True/\True/\True/\True/\True/\True/\True/\True/\True/\True/\True/\True/\True/\True/\True/\True/\True/\True/\True/\True/\True/\True/\True/\True/\True/\True/\((pj4 ak).2.1=(pj4 ak).2.1/\(pj4 ak).2.2.1=(pj4 ak).2.2.1/\(([]:List SV)=[]))/\((pj4 ak).2.2.2.1=(pj4 ak).2.2.2.1/\(pj8 ak).1=(pj8 ak).1/\(([]:List SV)=[]))/\(1:Int)=(1:Int)/\YG/\True/\True/\True/\True/\True/\True/\True/\True/\True/\True/\(([]:List SV)=[])))/\(ak.2.2.1=ak.2.2.1/\ak.2.2.2.1=ak.2.2.2.1/\(([]:List SV)=[]))/\((pj4 ak).1=(pj4 ak).1/\(([]:List SV)=[]))/\QC/\(d14.2.2=d15.2.2/\(List.isEmpty d14.2.2)=(List.isEmpty d15.2.2))/\((pj8 ak).2.1=(pj8 ak).2.1/\(([]:List SV)=[]))/\(((((pj8 ak).2.2.1=(pj8 ak).2.2.1/\(pj8 ak).2.2.2.1=(pj8 ak).2.2.2.1/\(([]:List SV)=[]))/\(([]:List SV)=[]))/\((([]:List SV)=[])))/\(([]:List SV)=[]))/\W1/\((pj4 (Q2 ak)).2=(pj4 (Q2 ak)).2/\(True/\True/\True/\True/\True/\True/\True/\True/\(pj4 (pj8 ak)).2.2.1=(pj4 (pj8 ak)).2.2.1/\(pj4 (pj8 ak)).2.2.2.1=(pj4 (pj8 ak)).2.2.2.1/\(Q2 ak).1=(Q2 ak).1/\(Q2 ak).2.1=(Q2 ak).2.1/\((((Q2 ak).2.2.1=(Q2 ak).2.2.1/\(Q2 ak).2.2.2.1=(Q2 ak).2.2.2.1/\(([]:List SV)=[]))/\(([]:List SV)=[]))/\((([]:List SV)=[])))/\(pj4 (Q2 ak)).1=(pj4 (Q2 ak)).1/\True/\Gl/\True/\True/\True/\True/\True/\True/\True/\True/\True/\True/\True/\True/\True/\True/\True/\True/\True/\True/\True/\True/\True/\(([]:List SV)=[])))/\QC/\((pj4 (pj8 ak)).2.1=(pj4 (pj8 ak)).2.1/\(([]:List SV)=[]))/\True))/\qG d15)) /\
      ((!(bgB ak.1 d14.2.1.toNat))=false ->
       (0<=d14.2.1)/\(d14.2.1<(List.length ak.1))/\∃ (aw:(List Bool)×Bool×Int×Int×Bool×Int×Int×Int×(List Int)×Int×Xy×Int×(List Int)×Int×(List Int)×Int×Int×(List Int)×LpD×Int×Int×Int×Bool×Int×Int×(List Int)×Int×LpD) (nX:Int),((True/\True/\G7/\false=aw.2.1/\d14.2.1=aw.2.2.1/\True/\ak.2.1=(pj4 aw).2.1/\d14.2.1=(pj4 aw).2.2.1/\True)/\(QC/\(ak.1=aw.1/\(List.isEmpty ak.1)=(List.isEmpty aw.1))/\(d14.2.1=aw.2.2.2.1/\(1:Int)=nX/\(gD ak.1 d14.2.1 false)=(pj4 aw).1/\(([]:List SV)=[]))/\((Q2 aw).2.2.1=(pj4 (pj8 ak)).1/\(True/\(1:Int)=(1:Int)/\True/\True/\True/\True/\True/\True/\True/\True/\True/\True/\True/\True/\True/\True/\True/\True/\True/\True/\True/\True/\True/\True/\True/\True/\True/\True/\((pj4 ak).2.1=(pj8 aw).2.2.2.1/\(pj4 ak).2.2.1=(pj4 (pj8 aw)).1/\(([]:List SV)=[]))/\((pj4 ak).2.2.2.1=(pj4 (pj8 aw)).2.1/\(pj8 ak).1=(pj4 (pj8 aw)).2.2.1/\(([]:List SV)=[]))/\(1:Int)=(1:Int)/\YG/\True/\True/\True/\True/\True/\True/\True/\True/\True/\True/\(([]:List SV)=[])))/\(ak.2.2.1=(pj4 aw).2.2.2.1/\ak.2.2.2.1=(pj8 aw).1/\(([]:List SV)=[]))/\((pj4 ak).1=(pj8 aw).2.1/\(([]:List SV)=[]))/\QC/\(d14.2.2=(pj8 aw).2.2.1/\(List.isEmpty d14.2.2)=(List.isEmpty (pj8 aw).2.2.1))/\((pj8 ak).2.1=(pj4 (pj8 aw)).2.2.2.1/\(([]:List SV)=[]))/\(((((pj8 ak).2.2.1=(Q2 aw).1/\(pj8 ak).2.2.2.1=(Q2 aw).2.1/\(([]:List SV)=[]))/\(([]:List SV)=[]))/\((([]:List SV)=[])))/\(([]:List SV)=[]))/\W1/\((pj8 (Q2 aw)).2.2.2=(pj4 (Q2 ak)).2/\(True/\True/\True/\True/\True/\True/\True/\True/\(pj4 (pj8 ak)).2.2.1=(pj4 (Q2 aw)).1/\(pj4 (pj8 ak)).2.2.2.1=(pj4 (Q2 aw)).2.1/\(Q2 ak).1=(pj4 (Q2 aw)).2.2.1/\(Q2 ak).2.1=(pj4 (Q2 aw)).2.2.2.1/\((((Q2 ak).2.2.1=(pj8 (Q2 aw)).1/\(Q2 ak).2.2.2.1=(pj8 (Q2 aw)).2.1/\(([]:List SV)=[]))/\(([]:List SV)=[]))/\((([]:List SV)=[])))/\(pj4 (Q2 ak)).1=(pj8 (Q2 aw)).2.2.1/\True/\Gl/\True/\True/\True/\True/\True/\True/\True/\True/\True/\True/\True/\True/\True/\True/\True/\True/\True/\True/\True/\True/\True/\(([]:List SV)=[])))/\QC/\((pj4 (pj8 ak)).2.1=(Q2 aw).2.2.2.1/\(([]:List SV)=[]))/\True)) /\
       LoopP (λ(d18:Int) (uI:(Int)->Prop) =>
        (I64 (aw.2.2.1+d18))/\((lI aw.1)≠0)/\(0<=(Int.tmod (aw.2.2.1+d18) (lI aw.1))/\(Int.tmod (aw.2.2.1+d18) (lI aw.1))<aw.1.length/\aw.1.length<=1000)/\((!(bgB aw.1 (Int.tmod (aw.2.2.1+d18) (lI aw.1)).toNat))=true ->
         (I64 (d18+(1:Int)))/\(∃ d19:Int,((True/\True/\G7/\aw.2.1=aw.2.1/\aw.2.2.1=aw.2.2.1/\True/\(pj4 aw).2.1=(pj4 aw).2.1/\(pj4 aw).2.2.1=(pj4 aw).2.2.1/\True)/\(QC/\(aw.1=aw.1/\(List.isEmpty aw.1)=(List.isEmpty aw.1))/\(aw.2.2.2.1=aw.2.2.2.1/\(d18+(1:Int))=d19/\(pj4 aw).1=(pj4 aw).1/\(([]:List SV)=[]))/\((Q2 aw).2.2.1=(Q2 aw).2.2.1/\(True/\(1:Int)=(1:Int)/\True/\True/\True/\True/\True/\True/\True/\True/\True/\True/\True/\True/\True/\True/\True/\True/\True/\True/\True/\True/\True/\True/\True/\True/\True/\True/\((pj8 aw).2.2.2.1=(pj8 aw).2.2.2.1/\(pj4 (pj8 aw)).1=(pj4 (pj8 aw)).1/\(([]:List SV)=[]))/\((pj4 (pj8 aw)).2.1=(pj4 (pj8 aw)).2.1/\(pj4 (pj8 aw)).2.2.1=(pj4 (pj8 aw)).2.2.1/\(([]:List SV)=[]))/\(1:Int)=(1:Int)/\YG/\True/\True/\True/\True/\True/\True/\True/\True/\True/\True/\(([]:List SV)=[])))/\((pj4 aw).2.2.2.1=(pj4 aw).2.2.2.1/\(pj8 aw).1=(pj8 aw).1/\(([]:List SV)=[]))/\((pj8 aw).2.1=(pj8 aw).2.1/\(([]:List SV)=[]))/\QC/\((pj8 aw).2.2.1=(pj8 aw).2.2.1/\(List.isEmpty (pj8 aw).2.2.1)=(List.isEmpty (pj8 aw).2.2.1))/\((pj4 (pj8 aw)).2.2.2.1=(pj4 (pj8 aw)).2.2.2.1/\(([]:List SV)=[]))/\(((((Q2 aw).1=(Q2 aw).1/\(Q2 aw).2.1=(Q2 aw).2.1/\(([]:List SV)=[]))/\(([]:List SV)=[]))/\((([]:List SV)=[])))/\(([]:List SV)=[]))/\W1/\((pj8 (Q2 aw)).2.2.2=(pj8 (Q2 aw)).2.2.2/\(True/\True/\True/\True/\True/\True/\True/\True/\(pj4 (Q2 aw)).1=(pj4 (Q2 aw)).1/\(pj4 (Q2 aw)).2.1=(pj4 (Q2 aw)).2.1/\(pj4 (Q2 aw)).2.2.1=(pj4 (Q2 aw)).2.2.1/\(pj4 (Q2 aw)).2.2.2.1=(pj4 (Q2 aw)).2.2.2.1/\((((pj8 (Q2 aw)).1=(pj8 (Q2 aw)).1/\(pj8 (Q2 aw)).2.1=(pj8 (Q2 aw)).2.1/\(([]:List SV)=[]))/\(([]:List SV)=[]))/\((([]:List SV)=[])))/\(pj8 (Q2 aw)).2.2.1=(pj8 (Q2 aw)).2.2.1/\True/\Gl/\True/\True/\True/\True/\True/\True/\True/\True/\True/\True/\True/\True/\True/\True/\True/\True/\True/\True/\True/\True/\True/\(([]:List SV)=[])))/\QC/\((Q2 aw).2.2.2.1=(Q2 aw).2.2.2.1/\(([]:List SV)=[]))/\True))/\uI d19)) /\
        ((!(bgB aw.1 (Int.tmod (aw.2.2.1+d18) (lI aw.1)).toNat))=false ->
         (pj8 (Q2 aw)).2.2.2=dT/\∀ nY:List Value,(Q2 aw).2.2.1=w6/\∀ nZ:List Value,((decide (d18 > (pj8 aw).2.1))=true ->
          (((List.length (pj8 aw).2.2.1)+(List.length [((Q2 aw).2.2.2.1,(aw.2.2.2.1,(d18,(pj4 aw).1)))]))*32<=70368744177664)/\nZ=nZ/\(Q2 aw).2.2.1=w6/\nY=nY/\(pj8 (Q2 aw)).2.2.2=dT/\(I64 ((pj4 aw).2.2.1+(1:Int)))/\(∃ d22:Bool×Int×Xy,((True/\True/\G7/\aw.2.1=d22.1/\(pj4 aw).2.1=ak.2.1/\((pj4 aw).2.2.1+(1:Int))=d22.2.1/\True)/\(QC/\(aw.1=ak.1/\(List.isEmpty aw.1)=(List.isEmpty ak.1))/\((pj4 (pj8 ak)).1=(Q2 aw).2.2.1/\(True/\(1:Int)=(1:Int)/\True/\True/\True/\True/\True/\True/\True/\True/\True/\True/\True/\True/\True/\True/\True/\True/\True/\True/\True/\True/\True/\True/\True/\True/\True/\True/\((pj8 aw).2.2.2.1=(pj4 ak).2.1/\(pj4 (pj8 aw)).1=(pj4 ak).2.2.1/\(([]:List SV)=[]))/\((pj4 (pj8 aw)).2.1=(pj4 ak).2.2.2.1/\(pj4 (pj8 aw)).2.2.1=(pj8 ak).1/\(([]:List SV)=[]))/\(1:Int)=(1:Int)/\YG/\True/\True/\True/\True/\True/\True/\True/\True/\True/\True/\(([]:List SV)=[])))/\((pj4 aw).2.2.2.1=ak.2.2.1/\(pj8 aw).1=ak.2.2.2.1/\(([]:List SV)=[]))/\((pj8 aw).2.1=(pj4 ak).1/\(([]:List SV)=[]))/\QC/\(((pj8 aw).2.2.1++[((Q2 aw).2.2.2.1,(aw.2.2.2.1,(d18,(pj4 aw).1)))])=d22.2.2/\false=(List.isEmpty d22.2.2))/\((pj4 (pj8 aw)).2.2.2.1=(pj8 ak).2.1/\(([]:List SV)=[]))/\(((((Q2 aw).1=(pj8 ak).2.2.1/\(Q2 aw).2.1=(pj8 ak).2.2.2.1/\(([]:List SV)=[]))/\(([]:List SV)=[]))/\((([]:List SV)=[])))/\(([]:List SV)=[]))/\W1/\((pj4 (Q2 ak)).2=(pj8 (Q2 aw)).2.2.2/\(True/\True/\True/\True/\True/\True/\True/\True/\(pj4 (Q2 aw)).1=(pj4 (pj8 ak)).2.2.1/\(pj4 (Q2 aw)).2.1=(pj4 (pj8 ak)).2.2.2.1/\(pj4 (Q2 aw)).2.2.1=(Q2 ak).1/\(pj4 (Q2 aw)).2.2.2.1=(Q2 ak).2.1/\((((pj8 (Q2 aw)).1=(Q2 ak).2.2.1/\(pj8 (Q2 aw)).2.1=(Q2 ak).2.2.2.1/\(([]:List SV)=[]))/\(([]:List SV)=[]))/\((([]:List SV)=[])))/\(pj8 (Q2 aw)).2.2.1=(pj4 (Q2 ak)).1/\True/\Gl/\True/\True/\True/\True/\True/\True/\True/\True/\True/\True/\True/\True/\True/\True/\True/\True/\True/\True/\True/\True/\True/\(([]:List SV)=[])))/\QC/\((Q2 aw).2.2.2.1=(pj4 (pj8 ak)).2.1/\(([]:List SV)=[]))/\True))/\qG d22)) /\
         ((decide (d18 > (pj8 aw).2.1))=false ->
          nZ=nZ/\(Q2 aw).2.2.1=w6/\nY=nY/\(pj8 (Q2 aw)).2.2.2=dT/\(I64 ((pj4 aw).2.2.1+(1:Int)))/\(∃ d23:Bool×Int×Xy,((True/\True/\G7/\aw.2.1=d23.1/\(pj4 aw).2.1=ak.2.1/\((pj4 aw).2.2.1+(1:Int))=d23.2.1/\True)/\(QC/\(aw.1=ak.1/\(List.isEmpty aw.1)=(List.isEmpty ak.1))/\((pj4 (pj8 ak)).1=(Q2 aw).2.2.1/\(True/\(1:Int)=(1:Int)/\True/\True/\True/\True/\True/\True/\True/\True/\True/\True/\True/\True/\True/\True/\True/\True/\True/\True/\True/\True/\True/\True/\True/\True/\True/\True/\((pj8 aw).2.2.2.1=(pj4 ak).2.1/\(pj4 (pj8 aw)).1=(pj4 ak).2.2.1/\(([]:List SV)=[]))/\((pj4 (pj8 aw)).2.1=(pj4 ak).2.2.2.1/\(pj4 (pj8 aw)).2.2.1=(pj8 ak).1/\(([]:List SV)=[]))/\(1:Int)=(1:Int)/\YG/\True/\True/\True/\True/\True/\True/\True/\True/\True/\True/\(([]:List SV)=[])))/\((pj4 aw).2.2.2.1=ak.2.2.1/\(pj8 aw).1=ak.2.2.2.1/\(([]:List SV)=[]))/\((pj8 aw).2.1=(pj4 ak).1/\(([]:List SV)=[]))/\QC/\((pj8 aw).2.2.1=d23.2.2/\(List.isEmpty (pj8 aw).2.2.1)=(List.isEmpty d23.2.2))/\((pj4 (pj8 aw)).2.2.2.1=(pj8 ak).2.1/\(([]:List SV)=[]))/\(((((Q2 aw).1=(pj8 ak).2.2.1/\(Q2 aw).2.1=(pj8 ak).2.2.2.1/\(([]:List SV)=[]))/\(([]:List SV)=[]))/\((([]:List SV)=[])))/\(([]:List SV)=[]))/\W1/\((pj4 (Q2 ak)).2=(pj8 (Q2 aw)).2.2.2/\(True/\True/\True/\True/\True/\True/\True/\True/\(pj4 (Q2 aw)).1=(pj4 (pj8 ak)).2.2.1/\(pj4 (Q2 aw)).2.1=(pj4 (pj8 ak)).2.2.2.1/\(pj4 (Q2 aw)).2.2.1=(Q2 ak).1/\(pj4 (Q2 aw)).2.2.2.1=(Q2 ak).2.1/\((((pj8 (Q2 aw)).1=(Q2 ak).2.2.1/\(pj8 (Q2 aw)).2.1=(Q2 ak).2.2.2.1/\(([]:List SV)=[]))/\(([]:List SV)=[]))/\((([]:List SV)=[])))/\(pj8 (Q2 aw)).2.2.1=(pj4 (Q2 ak)).1/\True/\Gl/\True/\True/\True/\True/\True/\True/\True/\True/\True/\True/\True/\True/\True/\True/\True/\True/\True/\True/\True/\True/\True/\(([]:List SV)=[])))/\QC/\((Q2 aw).2.2.2.1=(pj4 (pj8 ak)).2.1/\(([]:List SV)=[]))/\True))/\qG d23)))) nX)) /\
     ((decide (d14.2.1<ak.2.1))=false ->
      (d14.1=true ->
       (0<=(0:Int))/\((0:Int)<(List.length ak.1))/\(pj4 (Q2 ak)).2=dT/\∀ n6:List Value,(pj4 (pj8 ak)).1=w6/\∀ n7:List Value,((decide ((1000:Int) > (pj4 ak).1))=true ->
        (((List.length d14.2.2)+(List.length [((pj4 (pj8 ak)).2.1,((0:Int),((1000:Int),(gD ak.1 (0:Int) false))))]))*32<=70368744177664)/\n7=n7/\(pj4 (pj8 ak)).1=w6/\n6=n6/\(pj4 (Q2 ak)).2=dT/\(pj4 (Q2 ak)).2=dT/\(I64 ((pj4 (pj8 ak)).2.2.2.1+(1:Int)))/\(∃ d26:Int×Xy,((True/\True/\True/\(pj4 (pj8 ak)).2.2.1=aB.2.2.1/\((pj4 (pj8 ak)).2.2.2.1+(1:Int))=d26.1/\True)/\((((((pj8 ak).2.2.1=aB.1/\(pj8 ak).2.2.2.1=aB.2.1/\(([]:List SV)=[]))/\(([]:List SV)=[]))/\((([]:List SV)=[])))/\(([]:List SV)=[]))/\W1/\QC/\((pj8 aB).2.2.2=(pj4 (pj8 ak)).1/\(True/\(1:Int)=(1:Int)/\True/\True/\True/\True/\True/\True/\True/\True/\True/\True/\True/\True/\True/\True/\True/\True/\True/\True/\True/\True/\True/\True/\True/\True/\True/\True/\((pj4 ak).2.1=(pj4 aB).2.2.1/\(pj4 ak).2.2.1=(pj4 aB).2.2.2.1/\(([]:List SV)=[]))/\((pj4 ak).2.2.2.1=(pj8 aB).1/\(pj8 ak).1=(pj8 aB).2.1/\(([]:List SV)=[]))/\(1:Int)=(1:Int)/\YG/\True/\True/\True/\True/\True/\True/\True/\True/\True/\True/\(([]:List SV)=[])))/\(ak.2.2.1=aB.2.2.2.1/\ak.2.2.2.1=(pj4 aB).1/\(([]:List SV)=[]))/\((pj4 ak).1=(pj4 aB).2.1/\(([]:List SV)=[]))/\QC/\((d14.2.2++[((pj4 (pj8 ak)).2.1,((0:Int),((1000:Int),(gD ak.1 (0:Int) false))))])=d26.2/\false=(List.isEmpty d26.2))/\((pj8 ak).2.1=(pj8 aB).2.2.1/\(([]:List SV)=[]))/\True))/\iP d26)) /\
       ((decide ((1000:Int) > (pj4 ak).1))=false ->
        n7=n7/\(pj4 (pj8 ak)).1=w6/\n6=n6/\(pj4 (Q2 ak)).2=dT/\(pj4 (Q2 ak)).2=dT/\(I64 ((pj4 (pj8 ak)).2.2.2.1+(1:Int)))/\(∃ d27:Int×Xy,((True/\True/\True/\(pj4 (pj8 ak)).2.2.1=aB.2.2.1/\((pj4 (pj8 ak)).2.2.2.1+(1:Int))=d27.1/\True)/\((((((pj8 ak).2.2.1=aB.1/\(pj8 ak).2.2.2.1=aB.2.1/\(([]:List SV)=[]))/\(([]:List SV)=[]))/\((([]:List SV)=[])))/\(([]:List SV)=[]))/\W1/\QC/\((pj8 aB).2.2.2=(pj4 (pj8 ak)).1/\(True/\(1:Int)=(1:Int)/\True/\True/\True/\True/\True/\True/\True/\True/\True/\True/\True/\True/\True/\True/\True/\True/\True/\True/\True/\True/\True/\True/\True/\True/\True/\True/\((pj4 ak).2.1=(pj4 aB).2.2.1/\(pj4 ak).2.2.1=(pj4 aB).2.2.2.1/\(([]:List SV)=[]))/\((pj4 ak).2.2.2.1=(pj8 aB).1/\(pj8 ak).1=(pj8 aB).2.1/\(([]:List SV)=[]))/\(1:Int)=(1:Int)/\YG/\True/\True/\True/\True/\True/\True/\True/\True/\True/\True/\(([]:List SV)=[])))/\(ak.2.2.1=aB.2.2.2.1/\ak.2.2.2.1=(pj4 aB).1/\(([]:List SV)=[]))/\((pj4 ak).1=(pj4 aB).2.1/\(([]:List SV)=[]))/\QC/\(d14.2.2=d27.2/\(List.isEmpty d14.2.2)=(List.isEmpty d27.2))/\((pj8 ak).2.1=(pj8 aB).2.2.1/\(([]:List SV)=[]))/\True))/\iP d27))) /\
      (d14.1=false ->
       (pj4 (Q2 ak)).2=dT/\(I64 ((pj4 (pj8 ak)).2.2.2.1+(1:Int)))/\(∃ d28:Int×Xy,((True/\True/\True/\(pj4 (pj8 ak)).2.2.1=aB.2.2.1/\((pj4 (pj8 ak)).2.2.2.1+(1:Int))=d28.1/\True)/\((((((pj8 ak).2.2.1=aB.1/\(pj8 ak).2.2.2.1=aB.2.1/\(([]:List SV)=[]))/\(([]:List SV)=[]))/\((([]:List SV)=[])))/\(([]:List SV)=[]))/\W1/\QC/\((pj8 aB).2.2.2=(pj4 (pj8 ak)).1/\(True/\(1:Int)=(1:Int)/\True/\True/\True/\True/\True/\True/\True/\True/\True/\True/\True/\True/\True/\True/\True/\True/\True/\True/\True/\True/\True/\True/\True/\True/\True/\True/\((pj4 ak).2.1=(pj4 aB).2.2.1/\(pj4 ak).2.2.1=(pj4 aB).2.2.2.1/\(([]:List SV)=[]))/\((pj4 ak).2.2.2.1=(pj8 aB).1/\(pj8 ak).1=(pj8 aB).2.1/\(([]:List SV)=[]))/\(1:Int)=(1:Int)/\YG/\True/\True/\True/\True/\True/\True/\True/\True/\True/\True/\(([]:List SV)=[])))/\(ak.2.2.1=aB.2.2.2.1/\ak.2.2.2.1=(pj4 aB).1/\(([]:List SV)=[]))/\((pj4 ak).1=(pj4 aB).2.1/\(([]:List SV)=[]))/\QC/\(d14.2.2=d28.2/\(List.isEmpty d14.2.2)=(List.isEmpty d28.2))/\((pj8 ak).2.1=(pj8 aB).2.2.1/\(([]:List SV)=[]))/\True))/\iP d28)))) iC) /\
   ((decide (d10.1<aB.2.2.1))=false ->
    (pj8 aB).2.2.2=w6/\((True/\(0:Int)=(Kb hd rows bd)/\(([]:List SV)=[]))/\((d10.2=(E_ hd rows bd)/\(List.isEmpty d10.2)=(E_ hd rows bd).isEmpty)/\True)))) d100)
def J8:Cx:=⟨[],[],21,[3000014],0,[],[],[],[2,3,5,6,12],false,[],[],[14],[]⟩
def J9:List (Nat×LoopAnn):=[]
def QP:Cx:=⟨[],[(81,WS)],50,[3000041],0,[],[],[],[],false,[],[],[41],[]⟩
def QO:List (Nat×LoopAnn):=[(0,⟨(List Bool)×Int×Int×(List Int)×Int×Int×(List Int)×Int×(List Int)×Int×Int×(List Int)×LpD×Int×Int×Int×Bool×Int×Int×(List Int)×Int×LpD,Bool×Int×(List (Int×Int×Int×Bool)),[1,2,4,5,10,11],λe x=>[.dd 200002200002 .yv,.box 20000220000300002 0,.fn 81 [] [.box 20000220000300002 0],.val .bo x.1,.val (.i .i64) e.2.1,.val (.i .i64) x.2.1],λe x=>[(20000220000300002,.slot 2,.cells [.lst 200000200014] (some 123)),(200000200014,.cell 20000220000300002 0,.lst 4 .bo e.1 (List.isEmpty e.1)),(2000001,.key 2000001,.lpf [.any,.val (.i .i64) (1:Int),.any,.box 3 0,.any,.box 5 0,.box 6 0,.any,.any,.any,.any,.any,.any,.any,.any,.any,.any,.any,.any,.any,.any,.any,.any,.any,.any,.any,.any,.any,.agg [.val (.i .i64) e.2.2.2.2.2.1,.val (.list (.i .i64)) e.2.2.2.2.2.2.1],.agg [.val (.i .i64) e.2.2.2.2.2.2.2.1,.val (.list (.i .i64)) e.2.2.2.2.2.2.2.2.1],.val (.i .i64) (1:Int),.fn 62 [] [.box 3200006 0,.box 3200005 0,.box 3200003 0],.any,.any,.any,.any,.any,.any,.any,.any,.any,.any] e.2.2.2.2.2.2.2.2.2.2.2.2.1 .rdy),(3,.key 3,.cells [.val (.i .i64) e.2.2.1,.val (.list (.i .i64)) e.2.2.2.1] (some 26)),(5,.key 5,.cells [.val (.i .i64) e.2.2.2.2.1] (some 3)),(6,.key 6,.cells [.lst 40] (some 45)),(40,.cell 6 0,.lst 67 (.pair (.i .i64) (.pair (.i .i64) (.pair (.i .i64) .bo))) x.2.2 (List.isEmpty x.2.2)),(3200006,.key 3200006,.cells [.val (.i .i64) e.2.2.2.2.2.2.2.2.2.1] (some 3)),(3200005,.key 3200005,.cells [.fn 60 [.agg [.val (.i .i64) e.2.2.2.2.2.2.2.2.2.2.1,.val (.list (.i .i64)) e.2.2.2.2.2.2.2.2.2.2.2.1]] []] (some 119)),(3200003,.key 3200003,.cells [.val (.i .i64) (1:Int)] (some 49)),(200002200002,.key 200002200002,.lpf [.any,.any,.box 3200005 0,.box 3200003 0,.box 200000200004 0,.box 200000200005 0,.any,.any,.val (.i .i64) e.2.2.2.2.2.2.2.2.2.2.2.2.2.2.1,.val (.i .i64) e.2.2.2.2.2.2.2.2.2.2.2.2.2.2.2.1,.val .bo e.2.2.2.2.2.2.2.2.2.2.2.2.2.2.2.2.1,.val (.i .i64) e.2.2.2.2.2.2.2.2.2.2.2.2.2.2.2.2.2.1,.fn 60 [.agg [.val (.i .i64) e.2.2.2.2.2.2.2.2.2.2.2.2.2.2.2.2.2.2.1,.val (.list (.i .i64)) e.2.2.2.2.2.2.2.2.2.2.2.2.2.2.2.2.2.2.2.1]] [],.val (.i .i64) e.2.2.2.2.2.2.2.2.2.2.2.2.2.2.2.2.2.2.2.2.1,.lst 200000200014,.fn 63 [.lst 200000200014] [],.any,.any,.any,.any,.any,.any,.any,.any,.any,.any,.any,.any,.any,.any,.any,.any,.any,.any,.any,.any,.any] e.2.2.2.2.2.2.2.2.2.2.2.2.2.2.2.2.2.2.2.2.2 .rdy),(200000200004,.key 200000200004,.cells [.dd 2000001 .yv] (some 120)),(200000200005,.key 200000200005,.cells [.val (.i .i64) e.2.2.2.2.2.2.2.2.2.2.2.2.2.1] (some 3))]⟩),
 (2,⟨(List Bool)×Bool×Int×Int×Bool×Int×Int×Int×(List Int)×Int×(List (Int×Int×Int×Bool))×Int×(List Int)×Int×(List Int)×Int×Int×(List Int)×LpD×Int×Int×Int×Bool×Int×Int×(List Int)×Int×LpD,Int,[1,2,4,5,6,7,10,11],λe x=>[.dd 200002200002 .yv,.box 20000220000300002 0,.fn 81 [] [.box 20000220000300002 0],.val .bo e.2.1,.val (.i .i64) e.2.2.1,.box 20000220000300007 0,.val (.i .i64) e.2.2.2.2.2.1,.val (.i .i64) e.2.2.2.2.2.2.1],λe x=>[(20000220000300002,.slot 2,.cells [.lst 200000200014] (some 123)),(200000200014,.cell 20000220000300002 0,.lst 4 .bo e.1 (List.isEmpty e.1)),(20000220000300007,.slot 7,.cells [.val (.i .i64) e.2.2.2.1,.val (.i .i64) x,.val .bo e.2.2.2.2.1] (some 125)),(2000001,.key 2000001,.lpf [.any,.val (.i .i64) (1:Int),.any,.box 3 0,.any,.box 5 0,.box 6 0,.any,.any,.any,.any,.any,.any,.any,.any,.any,.any,.any,.any,.any,.any,.any,.any,.any,.any,.any,.any,.any,.agg [.val (.i .i64) e.2.2.2.2.2.2.2.2.2.2.2.1,.val (.list (.i .i64)) e.2.2.2.2.2.2.2.2.2.2.2.2.1],.agg [.val (.i .i64) e.2.2.2.2.2.2.2.2.2.2.2.2.2.1,.val (.list (.i .i64)) e.2.2.2.2.2.2.2.2.2.2.2.2.2.2.1],.val (.i .i64) (1:Int),.fn 62 [] [.box 3200006 0,.box 3200005 0,.box 3200003 0],.any,.any,.any,.any,.any,.any,.any,.any,.any,.any] e.2.2.2.2.2.2.2.2.2.2.2.2.2.2.2.2.2.2.1 .rdy),(3,.key 3,.cells [.val (.i .i64) e.2.2.2.2.2.2.2.1,.val (.list (.i .i64)) e.2.2.2.2.2.2.2.2.1] (some 26)),(5,.key 5,.cells [.val (.i .i64) e.2.2.2.2.2.2.2.2.2.1] (some 3)),(6,.key 6,.cells [.lst 40] (some 45)),(40,.cell 6 0,.lst 67 (.pair (.i .i64) (.pair (.i .i64) (.pair (.i .i64) .bo))) e.2.2.2.2.2.2.2.2.2.2.1 (List.isEmpty e.2.2.2.2.2.2.2.2.2.2.1)),(3200006,.key 3200006,.cells [.val (.i .i64) e.2.2.2.2.2.2.2.2.2.2.2.2.2.2.2.1] (some 3)),(3200005,.key 3200005,.cells [.fn 60 [.agg [.val (.i .i64) e.2.2.2.2.2.2.2.2.2.2.2.2.2.2.2.2.1,.val (.list (.i .i64)) e.2.2.2.2.2.2.2.2.2.2.2.2.2.2.2.2.2.1]] []] (some 119)),(3200003,.key 3200003,.cells [.val (.i .i64) (1:Int)] (some 49)),(200002200002,.key 200002200002,.lpf [.any,.any,.box 3200005 0,.box 3200003 0,.box 200000200004 0,.box 200000200005 0,.any,.any,.val (.i .i64) e.2.2.2.2.2.2.2.2.2.2.2.2.2.2.2.2.2.2.2.2.1,.val (.i .i64) e.2.2.2.2.2.2.2.2.2.2.2.2.2.2.2.2.2.2.2.2.2.1,.val .bo e.2.2.2.2.2.2.2.2.2.2.2.2.2.2.2.2.2.2.2.2.2.2.1,.val (.i .i64) e.2.2.2.2.2.2.2.2.2.2.2.2.2.2.2.2.2.2.2.2.2.2.2.1,.fn 60 [.agg [.val (.i .i64) e.2.2.2.2.2.2.2.2.2.2.2.2.2.2.2.2.2.2.2.2.2.2.2.2.1,.val (.list (.i .i64)) e.2.2.2.2.2.2.2.2.2.2.2.2.2.2.2.2.2.2.2.2.2.2.2.2.2.1]] [],.val (.i .i64) e.2.2.2.2.2.2.2.2.2.2.2.2.2.2.2.2.2.2.2.2.2.2.2.2.2.2.1,.lst 200000200014,.fn 63 [.lst 200000200014] [],.any,.any,.any,.any,.any,.any,.any,.any,.any,.any,.any,.any,.any,.any,.any,.any,.any,.any,.any,.any,.any] e.2.2.2.2.2.2.2.2.2.2.2.2.2.2.2.2.2.2.2.2.2.2.2.2.2.2.2 .rdy),(200000200004,.key 200000200004,.cells [.dd 2000001 .yv] (some 120)),(200000200005,.key 200000200005,.cells [.val (.i .i64) e.2.2.2.2.2.2.2.2.2.2.2.2.2.2.2.2.2.2.2.1] (some 3))]⟩)]
def ZS:Cx:=⟨[],[(60,YL)],37,[3000026,3000035],0,[],[],[],[],false,[],[(63,Z6i QP QO c63 50)],[26,35],[]⟩
def ZP:List (Nat×LoopAnn):=[(0,⟨Int×(List Int)×Int×Int×(List Int)×Int×Int×(List Int)×Int×(List Int)×Int×LpD,Int×(List (Int×Int×Int×Bool)),[2,3,4,8,9],λe x=>[.box 3200005 0,.box 3200003 0,.box 200000200004 0,.val (.i .i64) e.2.2.1,.val (.i .i64) x.1],λe x=>[(3200005,.slot 2,.cells [.fn 60 [.agg [.val (.i .i64) e.1,.val (.list (.i .i64)) e.2.1]] []] (some 119)),(3200003,.slot 3,.cells [.val (.i .i64) (1:Int)] (some 49)),(200000200004,.slot 4,.cells [.dd 2000001 .yv] (some 120)),(2000001,.key 2000001,.lpf [.any,.val (.i .i64) (1:Int),.any,.box 3 0,.any,.box 5 0,.box 6 0,.any,.any,.any,.any,.any,.any,.any,.any,.any,.any,.any,.any,.any,.any,.any,.any,.any,.any,.any,.any,.any,.agg [.val (.i .i64) e.2.2.2.2.2.2.1,.val (.list (.i .i64)) e.2.2.2.2.2.2.2.1],.agg [.val (.i .i64) e.2.2.2.2.2.2.2.2.1,.val (.list (.i .i64)) e.2.2.2.2.2.2.2.2.2.1],.val (.i .i64) (1:Int),.fn 62 [] [.box 3200006 0,.box 3200005 0,.box 3200003 0],.any,.any,.any,.any,.any,.any,.any,.any,.any,.any] e.2.2.2.2.2.2.2.2.2.2.2 .rdy),(3,.key 3,.cells [.val (.i .i64) e.2.2.2.1,.val (.list (.i .i64)) e.2.2.2.2.1] (some 26)),(5,.key 5,.cells [.val (.i .i64) e.2.2.2.2.2.1] (some 3)),(6,.key 6,.cells [.lst 40] (some 45)),(40,.cell 6 0,.lst 67 (.pair (.i .i64) (.pair (.i .i64) (.pair (.i .i64) .bo))) x.2 (List.isEmpty x.2)),(3200006,.key 3200006,.cells [.val (.i .i64) e.2.2.2.2.2.2.2.2.2.2.1] (some 3))]⟩)]
def BU:Cx:=⟨[(3,(.i .i64)),(67,(.pair (.i .i64) (.pair (.i .i64) (.pair (.i .i64) .bo))))],[(20,X9),(21,Xi)],42,[3000016],0,[(37,Q5s J8 (λ_=>J9) c37 [.tmp 4] 21)],[],[],[],false,[],[(62,Z6i ZS ZP c62 37)],[16],[]⟩
def AR (hd:Int) (rows:List Int) (bd:Int):List (Nat×LoopAnn):=[(3000012,⟨Unit,Unit,[1,3,5,6],λe x=>[.val (.i .i64) (1:Int),.box 3 0,.box 5 0,.box 6 0],λe x=>[(3,.slot 3,.cells [.val (.i .i64) hd,.val (.list (.i .i64)) rows] (some 26)),(5,.slot 5,.cells [.val (.i .i64) bd] (some 3)),(6,.slot 6,.cells [.nilS] (some 45))]⟩)]
theorem A5 (d:(Int×List Int)×Unit×Int):gwp (BU) (AR d.1.1 d.1.2 d.2.2) c16 0 (Wj [.cell 6 false 1,.tmp 7] (GZ d) (GU d)) (Qp 42 (AL.can BO d))=Yx d.1.1 d.1.2 d.2.2:=by kernel_rfl
abbrev Ag:Prop:=OkC Tryz.prog 16 KB
theorem Eo (h:∀ (hd:Int) (rows:List Int) (bd:Int),(rows.length<=1000)->Yx hd rows bd):OkC Tryz.prog 16 KB :=
 Qs Z8j mixed (C:=BU) (V:=λ(d:(Int×List Int)×Unit×Int)=>Yx d.1.1 d.1.2 d.2.2) ⟨(.cons WA (.cons Yk .nil)),(XsOk.cons (Vc Z9c mixed (C:=J8) ⟨.nil,XsOk.nil,ItsOk.nil,YlOk.nil,IysOk.nil,XfOk.nil⟩ (λ_=>J9)) XsOk.nil),ItsOk.nil,YlOk.nil,(IysOk.cons (OQ Z9z mixed (C:=ZS) ⟨(.cons Ti .nil),XsOk.nil,ItsOk.nil,YlOk.nil,(IysOk.cons (OQ Z8e mixed (C:=QP) ⟨(.cons HJ .nil),XsOk.nil,ItsOk.nil,YlOk.nil,IysOk.nil,XfOk.nil⟩ QO) IysOk.nil),XfOk.nil⟩ ZP) IysOk.nil),XfOk.nil⟩ (A5) λd hp=>h d.1.1 d.1.2 d.2.2 hp
set_option maxHeartbeats 1600000 in
theorem DU:Ag:=Eo λhd rows bd h=>by
 unfold Yx;delta QC YG W1 IW Xy G7 Gl Nq;(try delta lI gD sT I64 Q2 pj8 pj4);have ea:(!(!([bd].any λn=>decide (n<0)||decide (1000<n))))=!inI bd 0 1000:=by rw[Bool.eq_iff_iff];simp[inI]<;>omega
 rw[ea];refine⟨by omega,(),λ_=>Qb hd rows=0/\inI bd 0 1000=true,⟨λhe=>?_,λhe=>⟨by simp,λhb=>?_,λhb=>?_⟩⟩,?_⟩
 .have he:Qb hd rows≠0:=by simpa using he
  have e:Kb hd rows bd=Qb hd rows:=by simp[Kb,he]
  have e2:E_ hd rows bd=[]:=by simp[E_,e,he]
  rw[e,e2];exact(by and_intros<;>first|rfl|trivial|simp)
 .have he:Qb hd rows=0:=by simpa using he
  have hb:inI bd 0 1000=false:=by simpa using hb
  have e:Kb hd rows bd=3:=by simp[Kb,he,hb]
  have e2:E_ hd rows bd=[]:=by simp[E_,e]
  rw[e,e2];exact(by and_intros<;>first|rfl|trivial|simp)
 .exact⟨(),(by and_intros<;>first|rfl|trivial|simp),by simpa using he,by simpa using hb⟩
 rintro _ ⟨he,hb⟩ w5;have e:Kb hd rows bd=0:=by simp[Kb,he,hb]
 have e2:E_ hd rows bd=Q70 hd rows bd rows.length:=by simp[E_,e]
 rw[e,e2];have pP:0<=bd/\bd<=1000:=by simpa [inI] using hb
 obtain⟨p1,p2,p3,p4,p5⟩:=Gm he;have pI:=Mb p1 p2;have fZ:∀ x∈rows,0<=x/\x<16777216:=λx hx=>by have:=p5 x hx;omega
 have hN:=λi=>AK hd rows bd i;have sj:=λi=>Q40 hd rows bd i;clear e e2 ea hb he pI p5;obtain⟨H,rfl⟩:=z8 (show 0<=hd by omega);simp only[z4] at hN sj;repeat refine⟨by and_intros<;>first|rfl|trivial,?_⟩
 intro w6;refine⟨((H:Int),rows,(rows.length:Int),(H:Int),rows,bd,(H:Int),rows,(H:Int),rows,(rows.length:Int),w6),(0,[]),by and_intros<;>first|rfl|trivial,?_⟩;refine⟨λd=>∃ i:Nat,i<=rows.length/\d=((i:Int),Q70 (H:Int) rows bd i),λd=>rows.length-d.1.toNat,⟨0,by omega,by simp[Q70]⟩,?_⟩;rintro _ ⟨i,hi,rfl⟩;dsimp only;refine⟨λg=>?_,λg=>?_⟩
 .have g:i<rows.length:=by have:=z7 g;omega
  refine⟨⟨by omega,by omega,by omega,by omega,by omega,fZ⟩,λdT=>?_⟩;have hn:=hN i;have ep:=sj i;have dy:i*H<=60*24:=Nat.mul_le_mul (by omega) (by omega);simp only[z4];have aX:=Om (rows.getD i 0) H;generalize Sw (rows.getD i 0) H=p at hn aX |-;generalize wa:Q70 (H:Int) rows bd i=N at hn ep |-;have h0:p≠[]:=by rintro rfl;simp at aX;omega
  have hn:Q70 (H:Int) rows bd (i+1)=N++U2 i bd p p.length:=by rw[aX];exact hn
  refine⟨(p,(p.length:Int),(H:Int),rows,bd,(H:Int),rows,(H:Int),rows,(rows.length:Int),(H:Int),rows,w6,(i:Int),(rows.length:Int),(i:Int),decide ((i:Int)<(rows.length:Int)),(i:Int),(H:Int),rows,(i:Int),dT),(true,0,N),by and_intros<;>first|rfl|trivial,?_⟩;dsimp only;refine⟨λd=>∃ j:Nat,j<=p.length/\d.2.1=(j:Int)/\(d.1=true/\(∀ t,t<j->bgB p t=false)/\d.2.2=N\/d.1=false/\(∃ t,t<j/\bgB p t=true)/\d.2.2=N++U2 i bd p j),λd=>p.length-d.2.1.toNat,⟨0,by omega,rfl,.inl ⟨rfl,λt ht=>by omega,rfl⟩⟩,?_⟩;rintro⟨en,j',xs⟩ ⟨j,hj,di,hJ⟩;dsimp only at di hJ |-;subst di;have eR:=Q1d i bd p j;have eN:xs.length<=2000:=by
   rcases hJ with⟨_,_,h3⟩|⟨_,_,h3⟩<;>rw[h3]
   .omega
   .rw[zP];omega
  refine⟨λg2=>?_,λg2=>?_⟩
  .have g2:j<p.length:=by have:=z7 g2;omega
   simp only[z4];refine⟨⟨by omega,by omega,by omega⟩,λhb=>?_,λhb=>?_⟩
   .have hb:bgB p j=false:=by simpa using hb
    refine⟨by rw[Q7];omega,(en,(j:Int)+1,xs),by and_intros<;>first|rfl|trivial,⟨j+1,by omega,by dsimp only;omega,?_⟩,by dsimp only;omega⟩;rcases hJ with⟨h1,h2,h3⟩|⟨h1,⟨t,ht,cR⟩,h3⟩
    .refine .inl ⟨h1,λt ht=>?_,h3⟩;rcases Nat.lt_succ_iff_lt_or_eq.1 ht with ht|rfl
     .exact h2 t ht
     .exact hb
    .exact .inr ⟨h1,⟨t,by omega,cR⟩,by dsimp only;rw[Q9m hb ⟨t,ht,cR⟩];exact h3⟩
   .have hb:bgB p j=true:=by simpa using hb
    have bO:xs=N++U2 i bd p j:=by
     rcases hJ with⟨_,h2,h3⟩|⟨_,_,h3⟩
     .rw[Q28 g2 hb h2,xn];exact h3
     .exact h3
    refine⟨by omega,by omega,?_⟩;refine⟨(p,false,(j:Int),(j:Int),p.getD j false,(p.length:Int),(j:Int),(H:Int),rows,bd,xs,(H:Int),rows,(H:Int),rows,(rows.length:Int),(H:Int),rows,w6,(i:Int),(rows.length:Int),(i:Int),decide ((i:Int)<(rows.length:Int)),(i:Int),(H:Int),rows,(i:Int),dT),1,by and_intros<;>first|rfl|trivial,?_⟩;dsimp only;refine⟨λd=>∃ L:Nat,d=L/\1<=L/\L<=p.length/\∀ t,1<=t->t<L->bgB p (j+t)=false,λd=>p.length+1-d.toNat,⟨1,rfl,by omega,by omega,λt h1 h2=>by omega⟩,?_⟩;rintro _ ⟨L,rfl,uJ,uK,sk⟩;have e3:(j:Int)+(L:Int)=((j+L:Nat):Int):=by omega
    have hm:(j+L) % p.length<p.length:=x6 _ (by omega);simp only[e3,Z5s,z4,Oa h0];refine⟨by rw[Q7];omega,by omega,⟨by omega,by omega,by omega⟩,λhx=>?_,λhx=>?_⟩
    .have hx:bgB p (j+L)=false:=by simpa using hx
     have wb:L<p.length:=by
      rcases zu L p.length with h1|h1
      .exact h1
      .exfalso;have:L=p.length:=by omega
       subst this;rw[<-Oa h0,Nat.add_mod_right,Oa h0,hb] at hx;cases hx
     refine⟨by rw[Q7];omega,(L:Int)+1,by and_intros<;>first|rfl|trivial,⟨L+1,by omega,by omega,by omega,λt h1 h2=>?_⟩,by omega⟩;rcases Nat.lt_succ_iff_lt_or_eq.1 h2 with h2|rfl
     .exact sk t h1 h2
     .exact hx
    .have hx:bgB p (j+L)=true:=by simpa using hx
     have oS:=Q36 (i:=i) (bd:=bd) g2 hb uJ uK sk hx;have fin:∀ ys,ys=N++U2 i bd p (j+1)->∃ j2:Nat,j2<=p.length/\((j:Int)+1)=(j2:Int)/\(false=true/\(∀ t,t<j2->bgB p t=false)/\ys=N\/false=false/\(∃ t,t<j2/\bgB p t=true)/\ys=N++U2 i bd p j2):=λys hy=>⟨j+1,by omega,by omega,.inr ⟨rfl,⟨j,by omega,hb⟩,hy⟩⟩;repeat first|refine⟨trivial,?_⟩|refine⟨rfl,?_⟩
     intro nY;repeat first|refine⟨trivial,?_⟩|refine⟨rfl,?_⟩
     intro nZ;refine⟨λgG=>?_,λhle=>?_⟩
     .have gG:bd<(L:Int):=by have:=z7 gG;omega
      rw[z2 gG] at oS;refine⟨by simp only[xm];omega,?_⟩;repeat first|refine⟨trivial,?_⟩|refine⟨rfl,?_⟩
      refine⟨by rw[Q7];omega,(false,(j:Int)+1,xs++[((i:Int),(j:Int),(L:Int),p.getD j false)]),?_,fin _ (by rw[oS,bO,zX]),by dsimp only;omega⟩;have:(xs++[((i:Int),(j:Int),(L:Int),p.getD j false)]).isEmpty=false:=by simp
      rw[this];and_intros<;>first|rfl|trivial
     .have hle:¬ bd<(L:Int):=by have:=z6 hle;omega
      rw[z0 hle,xn] at oS;repeat first|refine⟨trivial,?_⟩|refine⟨rfl,?_⟩
      exact⟨by rw[Q7];omega,(false,(j:Int)+1,xs),by and_intros<;>first|rfl|trivial,fin _ (by rw[oS,bO]),by dsimp only;omega⟩
  .have g2:j=p.length:=by have:=z6 g2;omega
   subst g2;have fin:∀ ys,ys=N++U2 i bd p p.length->∃ i2:Nat,i2<=rows.length/\(((i:Int)+1,ys):Int×List (Int×Int×Int×Bool))=((i2:Int),Q70 (H:Int) rows bd i2):=λys hy=>⟨i+1,by omega,by rw[hy,<-hn];rfl⟩;refine⟨λuL=>?_,λuM=>?_⟩
   .obtain⟨_,h2,h3⟩:en=true/\(∀ t,t<p.length->bgB p t=false)/\xs=N:=by
     rcases hJ with h|⟨h1,_⟩
     .exact h
     .rw[uL] at h1;cases h1
    have gg:=Q6r (i:=i) (bd:=bd) h0 h2;refine⟨by omega,by omega,?_⟩;repeat first|refine⟨trivial,?_⟩|refine⟨rfl,?_⟩
    intro n6;repeat first|refine⟨trivial,?_⟩|refine⟨rfl,?_⟩
    intro n7;refine⟨λgG=>?_,λhle=>?_⟩
    .have gG:bd<1000:=by have:=z7 gG;omega
     rw[z2 gG] at gg;refine⟨by simp only[xm];omega,?_⟩;repeat first|refine⟨trivial,?_⟩|refine⟨rfl,?_⟩
     refine⟨by rw[Q7];omega,((i:Int)+1,xs++[((i:Int),0,1000,p.getD 0 false)]),?_,fin _ (by rw[gg,h3]),by dsimp only;omega⟩;have:(xs++[((i:Int),(0:Int),(1000:Int),p.getD 0 false)]).isEmpty=false:=by simp
     rw[this];and_intros<;>first|rfl|trivial
    .have hle:¬ bd<1000:=by have:=z6 hle;omega
     rw[z0 hle] at gg;repeat first|refine⟨trivial,?_⟩|refine⟨rfl,?_⟩
     exact⟨by rw[Q7];omega,((i:Int)+1,xs),by and_intros<;>first|rfl|trivial,fin _ (by rw[gg,h3,xn]),by dsimp only;omega⟩
   .have h3:xs=N++U2 i bd p p.length:=by
     rcases hJ with⟨h1,_⟩|⟨_,_,h3⟩
     .rw[uM] at h1;cases h1
     .exact h3
    repeat first|refine⟨trivial,?_⟩|refine⟨rfl,?_⟩
    exact⟨by rw[Q7];omega,((i:Int)+1,xs),by and_intros<;>first|rfl|trivial,fin _ h3,by dsimp only;omega⟩
 .have g:i=rows.length:=by have:=z6 g;omega
  subst g;and_intros<;>first|rfl|trivial
def czT:VCode :=
 .seq (.region [
  ⟨(some 2),.move (.const (.int .i64 (0))),none⟩])
 (.seq (.seq (.region [
  ⟨(some 3),.move (.tmp 0),none⟩,
  ⟨(some 4),.cmp .eql (.tmp 3) (.const (.int .u64 (0))),none⟩])
 (.cond (.tmp 4) (.seq (.region [
   ⟨(some 2),.move (.const (.int .i64 (64))),none⟩])
  (.ret))
  (.skip)))
 (.seq (.region [
  ⟨(some 5),.move (.tmp 0),none⟩,
  ⟨(some 6),.move (.tmp 0),none⟩,
  ⟨(some 7),.un .neg (.tmp 6),none⟩,
  ⟨(some 8),.bits .and (.tmp 5) (.tmp 7),none⟩,
  ⟨(some 9),.arith .mul (.tmp 8) (.const (.int .u64 (285870213051353865))),none⟩,
  ⟨(some 10),.shift .shr (.tmp 9) (.const (.int .u64 (58))),none⟩,
  ⟨(some 11),.indexAddrArr 64 1 (.global 1) (.tmp 10),none⟩,
  ⟨(some 12),.load false 1 (.tmp 11),none⟩,
  ⟨(some 13),.convI .i64 (.tmp 12),none⟩,
  ⟨(some 2),.move (.tmp 13),none⟩])
 (.ret)))
theorem Nm {S:VSpecs}{op:VOp}{d:Option Nat}{l:List VOper}{env:Env}{U:Heap}{K:Env->Heap->Prop}(v:Value) (h:∀ Q:Value->Heap->Prop,Q v U->vop S op env U Q) (hK:F7 S l (Wg env d v) U K):F7 S (⟨d,op,none⟩::l) env U K:=by show vif true _ _;exact⟨λ_=>h _ hK,λh=>by cases h⟩
theorem Z5r {S:VSpecs}{op:BinOp}{x y:Operand}{env:Env}{U:Heap}{Q:Value->Heap->Prop}{k:IntKind}{a b:Int}(hx:Q5 env x=.int k a) (hy:Q5 env y=.int k b) (h:Q (.bool (Z7y op a b)) U):vop S (.cmp op x y) env U Q:=by simp only[vop,Qc,hx,hy,zn,Zc];exact h
theorem Z2v {S:VSpecs}{op:BinOp}{x y:Operand}{env:Env}{U:Heap}{Q:Value->Heap->Prop}{k:IntKind}{a b:Int}(hx:Q5 env x=.int k a) (hy:Q5 env y=.int k b) (h:Q (.int k (Qf op k a b)) U):vop S (.bits op x y) env U Q:=by simp only[vop,Qc,hx,hy,zn,Zc];exact h
theorem Q9s {S:VSpecs}{op:BinOp}{x y:Operand}{env:Env}{U:Heap}{Q:Value->Heap->Prop}{k:IntKind}{a b:Int}(hx:Q5 env x=.int k a) (hy:Q5 env y=.int k b) (h:Q (.int k (CP op k a b)) U):vop S (.arith op x y) env U Q:=by simp only[vop,Qc,hx,hy,zn,Zc];exact h
theorem Q8g {S:VSpecs}{op:BinOp}{x y:Operand}{env:Env}{U:Heap}{Q:Value->Heap->Prop}{k k':IntKind}{a b:Int}(hx:Q5 env x=.int k a) (hy:Q5 env y=.int k' b) (h0:0<=b) (h:Q (.int k (Ad op k a b)) U):vop S (.shift op x y) env U Q:=by simp only[vop,Qc,hx,hy,h0,zn,Zc];exact h
theorem Z1z {S:VSpecs}{x:Operand}{env:Env}{U:Heap}{Q:Value->Heap->Prop}{k k':IntKind}{a:Int}(hx:Q5 env x=.int k a) (h:Q (.int k' (k'.wrap a)) U):vop S (.convI k' x) env U Q:=by simp only[vop,Qc,hx,Zc];exact h
theorem Z48 {S:VSpecs}{len size g o s:Nat}{x y:Operand}{env:Env}{U:Heap}{Q:Value->Heap->Prop}{k':IntKind}{b:Int}(hx:Q5 env x=.pointer (some ⟨g,o,some s⟩)) (hy:Q5 env y=.int k' b) (h0:0<=b/\b<len) (h:Q (.pointer (some ⟨g,o+b.toNat*size,some s⟩)) U):vop S (.indexAddrArr len size x y) env U Q:=by simp only[vop,Qc,hx,hy,h0,wM,zn,Zc];exact h
theorem Z2k {S:VSpecs}{size g o s:Nat}{agg:Bool}{x:Operand}{env:Env}{U:Heap}{Q:Value->Heap->Prop}{c:List Value}{v:Value}(hx:Q5 env x=.pointer (some ⟨g,o,some s⟩)) (hg:Z40 g=some c) (hp:c.all Jy=true) (hv:VZ agg size c o=some v) (h:Q v U):vop S (.load agg size x) env U Q:=by simp only[vop,Qc,hx,hg,hp,hv,zn,Zc];exact h
theorem ON (x:Int):IntKind.wrap .u64 x=x % 18446744073709551616:=by show (if (false&&decide (x % (18446744073709551616:Int)>=9223372036854775808))=true then x % (18446744073709551616:Int)-18446744073709551616 else x % (18446744073709551616:Int))=_;simp
theorem TH {x:Nat}(h:x<2 ^ 64):(BitVec.ofInt 64 (x:Int)).toNat=x:=by rw[Q27,BitVec.toNat_ofNat,zE h]
theorem Z1w {x y:Nat}(hx:x<2 ^ 64) (hy:y<2 ^ 64):Qf .and .u64 x y=((x &&& y:Nat):Int):=by
 have e:(BitVec.ofInt 64 (x:Int) &&& BitVec.ofInt 64 (y:Int)).toNat=x &&& y:=by rw[BitVec.toNat_and,TH hx,TH hy]
 show IntKind.wrap .u64 ((BitVec.ofInt 64 (x:Int) &&& BitVec.ofInt 64 (y:Int)).toNat:Int)=_;have hl:x &&& y<=x:=Nat.and_le_left;rw[e,ON];omega
set_option maxHeartbeats 2000000 in
theorem Z6f {P:Program}{f:Nat}(h:Fun P f czT [.tmp 2] 14) (hm:P.follows .mixedOrders=true) {x:Int}(h0:0<=x) (h1:x<=18446744073709551615) {U:Heap}{K:Value->Heap->Prop}(hK:K (.int .i64 (tzN x.toNat)) U):VCalled P f [.int .u64 x] U K:=by
 refine h.calls hm Ol ?_;obtain⟨n,rfl⟩:=z8 h0;have h1:n<2 ^ 64:=by omega
 rw[z4] at hK;unfold czT;refine Nm (.int .i64 0) (λ_ h=>h) ?_;refine Nm (.int .u64 n) (λ_ h=>h) ?_;refine Nm (.bool ((n:Int)==0)) (λ_ h=>Z5r (k:=.u64) (a:=n) (b:=0) rfl rfl h) ?_;show vif ((n:Int)==0) _ _;refine⟨λhz=>?_,λhz=>?_⟩
 .have hz:n=0:=by have:=eq_of_beq hz;omega
  subst hz;refine Nm (.int .i64 64) (λ_ h=>h) ?_;exact⟨_,_,DropTo.refl _ _ _,hK⟩
 have hz:0<n:=by
  rcases Nat.eq_zero_or_pos n with h|h
  .subst h;cases hz
  .exact h
 refine Nm (.int .u64 n) (λ_ h=>h) ?_;refine Nm (.int .u64 n) (λ_ h=>h) ?_;refine Nm (.int .u64 (IntKind.u64.wrap (0-(n:Int)))) (λ_ h=>h) ?_;have hand:Qf .and .u64 n (IntKind.u64.wrap (0-(n:Int)))=((2 ^ tzN n:Nat):Int):=by
  have e:IntKind.u64.wrap (0-(n:Int))=((2 ^ 64-n:Nat):Int):=by rw[ON];omega
  rw[e,Z1w h1 (by omega),Z59 hz h1]
 refine Nm (.int .u64 ((2 ^ tzN n:Nat):Int)) (λ_ h=>Z2v (k:=.u64) (a:=n) (b:=IntKind.u64.wrap (0-(n:Int))) rfl rfl (by rw[hand];exact h)) ?_;have hmul:CP .mul .u64 ((2 ^ tzN n:Nat):Int) 285870213051353865=((2 ^ tzN n*285870213051353865 % 18446744073709551616:Nat):Int):=by show IntKind.wrap .u64 (((2 ^ tzN n:Nat):Int)*285870213051353865)=_;rw[ON];omega
 refine Nm (.int .u64 ((2 ^ tzN n*285870213051353865 % 18446744073709551616:Nat):Int)) (λ_ h=>Q9s (k:=.u64) (a:=((2 ^ tzN n:Nat):Int)) (b:=285870213051353865) rfl rfl (by rw[hmul];exact h)) ?_;have qH:Ad .shr .u64 ((2 ^ tzN n*285870213051353865 % 18446744073709551616:Nat):Int) 58=((2 ^ tzN n*285870213051353865 % 18446744073709551616 / 288230376151711744:Nat):Int):=by show Int.fdiv _ 288230376151711744=_;rw[Int.fdiv_eq_ediv_of_nonneg _ (by decide)];omega
 refine Nm (.int .u64 ((2 ^ tzN n*285870213051353865 % 18446744073709551616 / 288230376151711744:Nat):Int)) (λ_ h=>Q8g (k:=.u64) (k':=.u64) (a:=((2 ^ tzN n*285870213051353865 % 18446744073709551616:Nat):Int)) (b:=58) rfl rfl (by decide) (by rw[qH];exact h)) ?_;have qI:=Z7h (tzN n) (Q08 hz h1).1;have aj:2 ^ tzN n*285870213051353865 % 18446744073709551616 / 288230376151711744<64:=by omega
 generalize 2 ^ tzN n*285870213051353865 % 18446744073709551616 / 288230376151711744=k at *
 refine Nm (.pointer (some ⟨1,0+(k:Int).toNat*1,some 0⟩)) (λ_ h=>Z48 (g:=1) (o:=0) (s:=0) (b:=k) (k':=.u64) rfl rfl (by omega) h) ?_;have hv:VZ false 1 (Go.V.t64.map λx=>Value.int .u8 x) (0+(k:Int).toNat*1)=some (.int .u8 (tzN n)):=by show (Go.V.t64.map λx=>Value.int .u8 x)[0+(k:Int).toNat*1]?=_;rw[z4,wI,zN,xC,qI];rfl
 refine Nm (.int .u8 (tzN n)) (λ_ h=>Z2k (g:=1) (s:=0) (o:=0+(k:Int).toNat*1) (c:=Go.V.t64.map λx=>Value.int .u8 x) rfl rfl (by decide) hv h) ?_;have uN:=(Q08 hz h1).1;have fO:IntKind.i64.wrap (tzN n:Int)=tzN n:=InK.wrap (k:=.i64) ((Q7 _).2 (by omega));refine Nm (.int .i64 (tzN n)) (λ_ h=>Z1z (k:=.u8) (a:=tzN n) rfl (by rw[fO];exact h)) ?_;refine Nm (.int .i64 (tzN n)) (λ_ h=>h) ?_;exact⟨_,_,DropTo.refl _ _ _,hK⟩
theorem Q6f {P:Program}{U:Heap}{v:SV}{u:Value}(h:SR P hNil X1 ZU v u):Ret P U v [] u U :=
 ⟨⟨.refl _,Dead.refl _⟩,λ_=>rfl,X1,λj b hj=>by simp at hj,λj j' i hj=>by simp at hj,h⟩
theorem Q9k (U:Heap):Eu U []=U:=by
 unfold Eu;cases U;simp only[List.length_nil,zY,List.getElem?_nil,Option.bind_none,Heap.mk.injEq,and_true];funext i;split
 .rfl
 .rename_i wf hi;exact(wf i (by simpa using hi)).symm
theorem Z5j {P:Program}{f:Nat}{pre:Int->Prop}{r:Int->Int}(h:∀ x,pre x->∀ (U:Heap) (K:Value->Heap->Prop),K (.int .i64 (r x)) U->VCalled P f [.int .u64 x] U K) :
  OkC P f (XD (.one (.k (.i .u64)):AL Int) pre (λd=>.val (.i .i64) (r d)) (λ_=>[])):=by
 intro ap du U args vs c v bs az hs hv bW hc;unfold XD at hs;split at hs
 .rename_i d hd;obtain⟨rfl,rfl,rfl⟩:=(by simpa using hs:pre d=c/\SV.val (.i .i64) (r d)=v/\[]=bs)
  match args,az,hd with
  |[],_,hd=>simp[AL.dec] at hd
  |a::x::l,_,hd=>simp[AL.dec] at hd
  |[a],az,hd =>
   simp only[AL.dec] at hd;obtain⟨u1,oT,rfl,s1,az⟩:=az;have az:oT=[]:=az;subst az;have k1:KC U (.i .u64) d [u1]:=QK (k:=.i .u64) hd ⟨u1,[],rfl,s1,rfl⟩;have e1:u1=.int .u64 d:=by simpa [KC] using k1
   subst e1;refine⟨h d hc U _ (Q6f (by simp[SR,KC])),λ_ _=>h d hc U _ ⟨?_,(Q9k U).symm⟩⟩;simp[NM,Q0b]
 .cases hs
theorem Q1i {P:Program}{f:Nat}{D:Type}{l:AL D}{pre:D->Prop}{res:D->SV}{obs:D->List OB}(h:∀ d,pre d->False):OkC P f (XD l pre res obs):=by
 intro ap du U args vs c v bs az hs hv bW hc;unfold XD at hs;split at hs
 .rename_i d hd;have:pre d<->c:=by simp at hs;exact hs.1
  exact(h d (this.2 hc)).elim
 .cases hs
def V_:AL (Int):=(.one (.k (.i .u64)))
def Vg (d:Int):Prop:=0<=d/\d<=18446744073709551615
def Vd (d:Int):SV:=.val (.i .i64) ((tzN d.toNat:Nat):Int)
def Ve (d:Int):List OB:=[]
def XI:CSp:=XD V_ Vg Vd Ve
abbrev VY:Prop:=OkC Tryz.prog 65 XI
theorem VT:VY :=
 Z5j (pre:=λx=>0<=x/\x<=18446744073709551615) (r:=λx=>((tzN x.toNat:Nat):Int)) λx hx U K hK =>
  Z6f (f:=65) (by rw[show czT=c65 by kernel_rfl];exact Z8o) mixed hx.1 hx.2 hK
def VU:AL (Int):=(.one (.k (.i .u32)))
def Vh (d:Int):Prop:=False
def Vi (d:Int):SV:=.val (.i .i64) ((tzN d.toNat:Nat):Int)
def Vj (d:Int):List OB:=[]
def XE:CSp:=XD VU Vh Vi Vj
abbrev VP:Prop:=OkC Tryz.prog 64 XE
theorem U5:VP:=Q1i λ_ h=>h
def We:AL (Int):=(.one (.k (.i .u64)))
def US (d:Int):Prop:=0<=d/\d<=18446744073709551615
def XU (d:Int):SV:=.val (.i .i64) ((tzN d.toNat:Nat):Int)
def XL (d:Int):List OB:=[]
def Jp:CSp:=XD We US XU XL
def Zr (x:Int):Prop :=
 (false=true ->
  (InK .u32 x)/\(False)/\(((tzN x.toNat:Nat):Int)=((tzN x.toNat:Nat):Int)/\(True))) /\
 (false=false ->
  (0<=x/\x<=18446744073709551615)/\(((tzN x.toNat:Nat):Int)=((tzN x.toNat:Nat):Int)/\(True)))
def Wc:Cx:=⟨[],[(64,XE),(65,XI)],8,[],0,[],[],[],[],false,[],[],[],[]⟩
def N5 (x:Int):List (Nat×LoopAnn):=[]
theorem N4 (d:Int):gwp (Wc) (N5 d) c40 0 (Wj [.tmp 2] (XU d) (XL d)) (Qp 8 (AL.can We d))=Zr d:=by kernel_rfl
abbrev N8:Prop:=OkC Tryz.prog 40 Jp
theorem N3 (h:∀ (x:Int),(0<=x/\x<=18446744073709551615)->Zr x):OkC Tryz.prog 40 Jp :=
 Qs Z9q mixed (C:=Wc) (V:=λ(d:Int)=>Zr d) ⟨(.cons U5 (.cons VT .nil)),XsOk.nil,ItsOk.nil,YlOk.nil,IysOk.nil,XfOk.nil⟩ (N4) λd hp=>h d hp
theorem N6:N8:=N3 λx h=>by unfold Zr;(try delta lI gD sT I64 Q2 pj8 pj4);refine⟨(λh=>by cases h),λ_=>⟨h,?_⟩⟩;and_intros<;>first|rfl|trivial
def MN:AL (Int):=(.one (.k (.i .u32)))
def NH (d:Int):Prop:=False
def NK (d:Int):SV:=.val (.i .i64) (0:Int)
def NT (d:Int):List OB:=[]
def Yd:CSp:=XD MN NH NK NT
abbrev MJ:Prop:=OkC Tryz.prog 66 Yd
theorem Mo:MJ:=Q1i λ_ h=>h
def WZ:AL (Int):=(.one (.k (.i .u64)))
def NF (d:Int):Prop:=0<=d/\d<16777216
def Wo (d:Int):SV:=.val (.i .i64) ((pcN 24 d.toNat:Nat):Int)
def Ws (d:Int):List OB:=[]
def X7:CSp:=XD WZ NF Wo Ws
abbrev G8 (x:Int):=(Qf .and .u64 ((Zg .u64 ((Qf .and .u64 (Zg .u64 ((Qf .and .u64 (Zg .u64 x (1:Int)) (6148914691236517205:Int))+(Qf .and .u64 x (6148914691236517205:Int))) (2:Int)) (3689348814741910323:Int))+(Qf .and .u64 ((Qf .and .u64 (Zg .u64 x (1:Int)) (6148914691236517205:Int))+(Qf .and .u64 x (6148914691236517205:Int))) (3689348814741910323:Int))) (4:Int))+((Qf .and .u64 (Zg .u64 ((Qf .and .u64 (Zg .u64 x (1:Int)) (6148914691236517205:Int))+(Qf .and .u64 x (6148914691236517205:Int))) (2:Int)) (3689348814741910323:Int))+(Qf .and .u64 ((Qf .and .u64 (Zg .u64 x (1:Int)) (6148914691236517205:Int))+(Qf .and .u64 x (6148914691236517205:Int))) (3689348814741910323:Int)))) (1085102592571150095:Int))
abbrev LN (x:Int):=(((G8 x)+(Zg .u64 (G8 x) (8:Int)))+(Zg .u64 ((G8 x)+(Zg .u64 (G8 x) (8:Int))) (16:Int)))
abbrev Ca (x:Int):=((Qf .and .u64 (Zg .u64 ((Qf .and .u64 (Zg .u64 x (1:Int)) (6148914691236517205:Int))+(Qf .and .u64 x (6148914691236517205:Int))) (2:Int)) (3689348814741910323:Int))+(Qf .and .u64 ((Qf .and .u64 (Zg .u64 x (1:Int)) (6148914691236517205:Int))+(Qf .and .u64 x (6148914691236517205:Int))) (3689348814741910323:Int)))
abbrev LR (x:Int):=((LN x)+(Zg .u64 (LN x) (32:Int)))
def ZG (x:Int):Prop :=
 (0<=(1:Int))/\(InK .u64 ((Qf .and .u64 (Zg .u64 x (1:Int)) (6148914691236517205:Int))+(Qf .and .u64 x (6148914691236517205:Int))))/\(0<=(2:Int))/\(InK .u64 (Ca x))/\(0<=(4:Int))/\(InK .u64 ((Zg .u64 (Ca x) (4:Int))+(Ca x)))/\(0<=(8:Int))/\(InK .u64 ((G8 x)+(Zg .u64 (G8 x) (8:Int))))/\(0<=(16:Int))/\(InK .u64 (LN x))/\(0<=(32:Int))/\(InK .u64 (LR x))/\(I64 (LR x))/\((Qf .and .i64 (LR x) (127:Int))=((pcN 24 x.toNat:Nat):Int)/\(True))
def Y6:Cx:=⟨[],[],35,[],0,[],[],[],[],false,[],[],[],[]⟩
def Mi (x:Int):List (Nat×LoopAnn):=[]
theorem Md (d:Int):gwp (Y6) (Mi d) c67 0 (Wj [.tmp 2] (Wo d) (Ws d)) (Qp 35 (AL.can WZ d))=ZG d:=by kernel_rfl
abbrev MP:Prop:=OkC Tryz.prog 67 X7
theorem Mg (h:∀ (x:Int),(0<=x/\x<16777216)->ZG x):OkC Tryz.prog 67 X7 :=
 Qs Z9d mixed (C:=Y6) (V:=λ(d:Int)=>ZG d) ⟨.nil,XsOk.nil,ItsOk.nil,YlOk.nil,IysOk.nil,XfOk.nil⟩ (Md) λd hp=>h d hp
theorem Mh:MP:=Mg λx h=>by
 obtain⟨h1,h2⟩:=h;obtain⟨n,rfl⟩:=z8 h1;unfold ZG;(try delta G8 LN Ca LR);(try delta lI gD sT I64 Q2 pj8 pj4);have hn:n<16777216:=by omega
 obtain⟨a1,a2⟩:=opA (y:=n) (by omega);obtain⟨b1,b2⟩:=opB (y:=swA n) (by omega);obtain⟨c1,c2,c3⟩:=opC (y:=swB (swA n)) (by omega);obtain⟨d1,d2⟩:=opS (y:=swC (swB (swA n))) (k:=8) (by omega);obtain⟨e1,e2⟩:=opS (y:=swD (swC (swB (swA n)))) (k:=16) (by omega);obtain⟨f1,f2⟩:=opS (y:=swE (swD (swC (swB (swA n))))) (k:=32) (by omega);have d0:swD (swC (swB (swA n)))=swC (swB (swA n))+swC (swB (swA n)) >>> 8:=rfl;have e0:swE (swD (swC (swB (swA n))))=swD (swC (swB (swA n)))+swD (swC (swB (swA n))) >>> 16:=rfl;have f0:swF (swE (swD (swC (swB (swA n)))))=swE (swD (swC (swB (swA n))))+swE (swD (swC (swB (swA n)))) >>> 32:=rfl;rw[<-d0] at d1 d2;rw[<-e0] at e1 e2;rw[<-f0] at f1 f2;have g1:=Q51 (x:=swF (swE (swD (swC (swB (swA n)))))) (y:=127) (by omega) (by omega);have g2:=Z76 hn;unfold swN at g2;have u:∀ m:Nat,m<2 ^ 60->InK .u64 (m:Int):=λm hm=>by rw[PS];omega
 have i:∀ m:Nat,m<2 ^ 60->InK .i64 (m:Int):=λm hm=>by rw[Q7];omega
 have d1:((swC (swB (swA n)):Nat):Int)+Zg .u64 ((swC (swB (swA n)):Nat):Int) 8=((swD (swC (swB (swA n))):Nat):Int):=d1;have e1:((swD (swC (swB (swA n))):Nat):Int)+Zg .u64 ((swD (swC (swB (swA n))):Nat):Int) 16=((swE (swD (swC (swB (swA n)))):Nat):Int):=e1;have f1:((swE (swD (swC (swB (swA n)))):Nat):Int)+Zg .u64 ((swE (swD (swC (swB (swA n)))):Nat):Int) 32=((swF (swE (swD (swC (swB (swA n))))):Nat):Int):=f1;have g1:Qf .and .i64 ((swF (swE (swD (swC (swB (swA n))))):Nat):Int) 127=_:=g1;rw[a1,b1,c1,c3,d1,e1,f1,g1,g2];have hC:swB (swA n) >>> 4+swB (swA n)<2 ^ 60:=by have:=E0 (swB (swA n)) 4;omega
 repeat' (first|with_reducible exact u _ (by omega)|with_reducible exact i _ (by omega)|with_reducible exact u _ hC|exact trivial|omega|(rw[z4];done)|with_reducible refine And.intro ?_ ?_)
def Ka:AL (Int):=(.one (.k (.i .u64)))
def Gh (d:Int):Prop:=0<=d/\d<16777216
def YF (d:Int):SV:=.val (.i .i64) ((pcN 24 d.toNat:Nat):Int)
def Yp (d:Int):List OB:=[]
def XP:CSp:=XD Ka Gh YF Yp
def Z_ (x:Int):Prop :=
 (false=true ->
  (InK .u32 x)/\(False)/\((0:Int)=((pcN 24 x.toNat:Nat):Int)/\(True))) /\
 (false=false ->
  (0<=x/\x<16777216)/\(((pcN 24 x.toNat:Nat):Int)=((pcN 24 x.toNat:Nat):Int)/\(True)))
def K9:Cx:=⟨[],[(66,Yd),(67,X7)],8,[],0,[],[],[],[],false,[],[],[],[]⟩
def DB (x:Int):List (Nat×LoopAnn):=[]
theorem DJ (d:Int):gwp (K9) (DB d) c41 0 (Wj [.tmp 2] (YF d) (Yp d)) (Qp 8 (AL.can Ka d))=Z_ d:=by kernel_rfl
abbrev DD:Prop:=OkC Tryz.prog 41 XP
theorem DM (h:∀ (x:Int),(0<=x/\x<16777216)->Z_ x):OkC Tryz.prog 41 XP :=
 Qs Z85 mixed (C:=K9) (V:=λ(d:Int)=>Z_ d) ⟨(.cons Mo (.cons Mh .nil)),XsOk.nil,ItsOk.nil,YlOk.nil,IysOk.nil,XfOk.nil⟩ (DJ) λd hp=>h d hp
theorem Df:DD:=DM λx h=>by unfold Z_;(try delta lI gD sT I64 Q2 pj8 pj4);refine⟨(λc=>by cases c),λ_=>⟨h,?_⟩⟩;exact(by and_intros<;>first|rfl|trivial|simp)
def P4:AL (List (Int×List Int)):=(.one (.k (.list (.pair (.i .i64) (.list (.i .i64))))))
def Cd (d:List (Int×List Int)):Prop:=d.length<=1000/\∀ x∈d,x.2.length<=1000000
def Bt (d:List (Int×List Int)):SV:=.val (.i .i64) (KP d)
def Bk (d:List (Int×List Int)):List OB:=[]
def G0:CSp:=XD P4 Cd Bt Bk
def KI (ds:List (Int×List Int)):Prop :=
 ∃ (e2:Unit) (d20:Int),((ds=ds/\(lI ds)=(lI ds)/\(0:Int)=d20/\True)/\(True)) /\
 LoopP (λ(d2:Int) (q2:(Int)->Prop) =>
  ((decide (d2<(lI ds)))=true ->
   (0<=d2)/\(d2<(List.length ds))/\(((gD ds d2 (0,[])).2).length<=1000000)/\(((Qb ((gD ds d2 (0,[])).1) ((gD ds d2 (0,[])).2)) != (0:Int))=true ->
    ((Qb ((gD ds d2 (0,[])).1) ((gD ds d2 (0,[])).2))=(KP ds)/\(True))) /\
   (((Qb ((gD ds d2 (0,[])).1) ((gD ds d2 (0,[])).2)) != (0:Int))=false ->
    (I64 (d2+(1:Int)))/\(∃ d3:Int,((ds=ds/\(lI ds)=(lI ds)/\(d2+(1:Int))=d3/\True)/\(True))/\q2 d3))) /\
  ((decide (d2<(lI ds)))=false ->
   ((0:Int)=(KP ds)/\(True)))) d20
def Ps:Cx:=⟨[],[(20,X9)],18,[],0,[],[],[],[],false,[],[],[],[]⟩
def Fq (ds:List (Int×List Int)):List (Nat×LoopAnn):=[(0,⟨Unit,Int,[6,7,8],λe x=>[.val (.list (.pair (.i .i64) (.list (.i .i64)))) ds,.val (.i .i64) (((List.length ds):Nat):Int),.val (.i .i64) x],λe x=>[]⟩)]
theorem EU (d:List (Int×List Int)):gwp (Ps) (Fq d) c38 0 (Wj [.tmp 2] (Bt d) (Bk d)) (Qp 18 (AL.can P4 d))=KI d:=by kernel_rfl
abbrev FB:Prop:=OkC Tryz.prog 38 G0
theorem FA (h:∀ (ds:List (Int×List Int)),(ds.length<=1000/\∀ x∈ds,x.2.length<=1000000)->KI ds):OkC Tryz.prog 38 G0 :=
 Qs J0b mixed (C:=Ps) (V:=λ(d:List (Int×List Int))=>KI d) ⟨(.cons WA .nil),XsOk.nil,ItsOk.nil,YlOk.nil,IysOk.nil,XfOk.nil⟩ (EU) λd hp=>h d hp
theorem EP:FB:=FA λds h=>by
 obtain⟨h1,h2⟩:=h;unfold KI;(try delta lI gD sT I64 Q2 pj8 pj4)
 (try simp only[ze,zG])
 refine⟨(),0,(by and_intros<;>first|rfl|trivial|simp),?_⟩;refine LoopP.count ds.length (λk=>∀ i (hi:i<ds.length),i<k->Qb ds[i].1 ds[i].2=0) (λi _ hi=>by omega) λk hk hJ q hq=>?_;simp only[z4,Q7];refine⟨λaj=>?_,λb8=>?_⟩
 .have qJ:k<ds.length:=by omega
  rw[Qg qJ];refine⟨by omega,by omega,h2 _ (zh qJ),λhx=>?_,λhx=>⟨by omega,_,(by and_intros<;>first|rfl|trivial|simp),hq (by omega) λi dj hi=>?_⟩⟩
  .have hx:Qb ds[k].1 ds[k].2≠0:=by simpa using hx
   have:ds.find? (λd=>decide (Qb d.1 d.2≠0))=some ds[k]:=by rw[List.find?_eq_some_iff_getElem];refine⟨by simpa using hx,k,qJ,rfl,λj hj=>?_⟩;simpa using hJ j (by omega) hj
   refine⟨?_,trivial⟩;unfold KP;rw[this]
  .rcases Nat.lt_succ_iff_lt_or_eq.1 hi with hi|rfl
   .exact hJ i dj hi
   .simpa using hx
 .have hk:k=ds.length:=by omega
  subst hk;have:ds.find? (λd=>decide (Qb d.1 d.2≠0))=none:=by rw[List.find?_eq_none];intro d hd;obtain⟨i,hi,rfl⟩:=List.getElem_of_mem hd;simpa using hJ i hi hi
  refine⟨?_,trivial⟩;unfold KP;rw[this]
def BG:AL ((Int×List Int)×Int×List Int):=(.cons (.agg (.cons (.k (.i .i64)) (.one (.k (.list (.i .i64)))))) (.one (.agg (.cons (.k (.i .i64)) (.one (.k (.list (.i .i64))))))))
def Lx (d:(Int×List Int)×Int×List Int):Prop:=True
def GQ (d:(Int×List Int)×Int×List Int):SV:=.val .bo (decide (d.1.1=d.2.1)&&decide (d.1.2.length=d.2.2.length))
def De (d:(Int×List Int)×Int×List Int):List OB:=[]
def NW:CSp:=XD BG Lx GQ De
def Yl (hd:Int) (rows:List Int) (hd1:Int) (af:List Int):Prop :=
 (((hd==hd1)&&((lI rows)==(lI af)))=(decide (hd=hd1)&&decide (rows.length=af.length))/\(True))
def H4:Cx:=⟨[],[],19,[],0,[],[],[],[],false,[],[],[],[]⟩
def AO (hd:Int) (rows:List Int) (hd1:Int) (af:List Int):List (Nat×LoopAnn):=[]
theorem AX (d:(Int×List Int)×Int×List Int):gwp (H4) (AO d.1.1 d.1.2 d.2.1 d.2.2) c39 0 (Wj [.tmp 4] (GQ d) (De d)) (Qp 19 (AL.can BG d))=Yl d.1.1 d.1.2 d.2.1 d.2.2:=by kernel_rfl
abbrev CN:Prop:=OkC Tryz.prog 39 NW
theorem AN (h:∀ (hd:Int) (rows:List Int) (hd1:Int) (af:List Int),(True)->Yl hd rows hd1 af):OkC Tryz.prog 39 NW :=
 Qs Z9e mixed (C:=H4) (V:=λ(d:(Int×List Int)×Int×List Int)=>Yl d.1.1 d.1.2 d.2.1 d.2.2) ⟨.nil,XsOk.nil,ItsOk.nil,YlOk.nil,IysOk.nil,XfOk.nil⟩ (AX) λd hp=>h d.1.1 d.1.2 d.2.1 d.2.2 hp
theorem CS:CN:=AN λhd rows hd1 af _=>by
 unfold Yl;(try delta lI gD sT I64 Q2 pj8 pj4);have e1:(hd==hd1)=decide (hd=hd1):=by rw[Bool.eq_iff_iff];simp
 have e2:((rows.length:Int)==af.length)=decide (rows.length=af.length):=by rw[Bool.eq_iff_iff];simp;omega
 rw[e1,e2];exact(by and_intros<;>first|rfl|trivial|simp)
def BS:AL ((Int×List Int)×Int×List Int):=(.cons (.agg (.cons (.k (.i .i64)) (.one (.k (.list (.i .i64)))))) (.one (.agg (.cons (.k (.i .i64)) (.one (.k (.list (.i .i64))))))))
def Lj (d:(Int×List Int)×Int×List Int):Prop:=d.1.2.length<=1000/\d.2.2.length<=1000
def D5 (d:(Int×List Int)×Int×List Int):SV:=.tup [.val (.i .i64) ((FL d.1.1 d.1.2 d.2.1 d.2.2).1),.val (.i .i64) ((FL d.1.1 d.1.2 d.2.1 d.2.2).2.1),.val (.i .i64) ((FL d.1.1 d.1.2 d.2.1 d.2.2).2.2),.val (.i .i64) (Ug d.1.1 d.1.2 d.2.1 d.2.2)]
def Db (d:(Int×List Int)×Int×List Int):List OB:=[]
def NY:CSp:=XD BS Lj D5 Db
def YI (hd:Int) (rows:List Int) (hd1:Int) (af:List Int):Prop :=
 ([(hd,rows),(hd1,af)].length<=1000/\∀ x∈[(hd,rows),(hd1,af)],x.2.length<=1000000)/\(((KP [(hd,rows),(hd1,af)]) != (0:Int))=true ->
  (((0:Int)=((FL hd rows hd1 af).1)/\(0:Int)=((FL hd rows hd1 af).2.1)/\(0:Int)=((FL hd rows hd1 af).2.2)/\(KP [(hd,rows),(hd1,af)])=(Ug hd rows hd1 af)/\(([]:List SV)=[]))/\(True))) /\
 (((KP [(hd,rows),(hd1,af)]) != (0:Int))=false ->
  (True)/\((!(decide (hd=hd1)&&decide (rows.length=af.length)))=true ->
   (((0:Int)=((FL hd rows hd1 af).1)/\(0:Int)=((FL hd rows hd1 af).2.1)/\(0:Int)=((FL hd rows hd1 af).2.2)/\(4:Int)=(Ug hd rows hd1 af)/\(([]:List SV)=[]))/\(True))) /\
  ((!(decide (hd=hd1)&&decide (rows.length=af.length)))=false ->
   ∃ (e3:Unit) (d30:Int×Int×Int×Int),((True/\(0:Int)=d30.1/\(0:Int)=d30.2.1/\(0:Int)=d30.2.2.1/\rows=rows/\(lI rows)=(lI rows)/\(0:Int)=d30.2.2.2/\True)/\((hd1=hd1/\af=af/\(([]:List SV)=[]))/\True)) /\
   LoopP (λ(d3:Int×Int×Int×Int) (q3:(Int×Int×Int×Int)->Prop) =>
    ((decide (d3.2.2.2<(lI rows)))=true ->
     (0<=d3.2.2.2)/\(d3.2.2.2<(List.length rows))/\(0<=d3.2.2.2)/\(d3.2.2.2<(List.length af))/\(InK .u64 (Qf .xor .i64 (gD rows d3.2.2.2 0) (gD af d3.2.2.2 0)))/\(((d3.1==(0:Int))&&((Qf .xor .i64 (gD rows d3.2.2.2 0) (gD af d3.2.2.2 0)) != (0:Int)))=true ->
      (0<=(Qf .xor .i64 (gD rows d3.2.2.2 0) (gD af d3.2.2.2 0))/\(Qf .xor .i64 (gD rows d3.2.2.2 0) (gD af d3.2.2.2 0))<=18446744073709551615)/\(0<=(Qf .xor .i64 (gD rows d3.2.2.2 0) (gD af d3.2.2.2 0))/\(Qf .xor .i64 (gD rows d3.2.2.2 0) (gD af d3.2.2.2 0))<16777216)/\(I64 (d3.1+((pcN 24 (Qf .xor .i64 (gD rows d3.2.2.2 0) (gD af d3.2.2.2 0)).toNat:Nat):Int)))/\(I64 (d3.2.2.2+(1:Int)))/\(∃ d4:Int×Int×Int×Int,((True/\(d3.1+((pcN 24 (Qf .xor .i64 (gD rows d3.2.2.2 0) (gD af d3.2.2.2 0)).toNat:Nat):Int))=d4.1/\d3.2.2.2=d4.2.1/\((tzN (Qf .xor .i64 (gD rows d3.2.2.2 0) (gD af d3.2.2.2 0)).toNat:Nat):Int)=d4.2.2.1/\rows=rows/\(lI rows)=(lI rows)/\(d3.2.2.2+(1:Int))=d4.2.2.2/\True)/\((hd1=hd1/\af=af/\(([]:List SV)=[]))/\True))/\q3 d4)) /\
     (((d3.1==(0:Int))&&((Qf .xor .i64 (gD rows d3.2.2.2 0) (gD af d3.2.2.2 0)) != (0:Int)))=false ->
      (0<=(Qf .xor .i64 (gD rows d3.2.2.2 0) (gD af d3.2.2.2 0))/\(Qf .xor .i64 (gD rows d3.2.2.2 0) (gD af d3.2.2.2 0))<16777216)/\(I64 (d3.1+((pcN 24 (Qf .xor .i64 (gD rows d3.2.2.2 0) (gD af d3.2.2.2 0)).toNat:Nat):Int)))/\(I64 (d3.2.2.2+(1:Int)))/\(∃ d5:Int×Int×Int×Int,((True/\(d3.1+((pcN 24 (Qf .xor .i64 (gD rows d3.2.2.2 0) (gD af d3.2.2.2 0)).toNat:Nat):Int))=d5.1/\d3.2.1=d5.2.1/\d3.2.2.1=d5.2.2.1/\rows=rows/\(lI rows)=(lI rows)/\(d3.2.2.2+(1:Int))=d5.2.2.2/\True)/\((hd1=hd1/\af=af/\(([]:List SV)=[]))/\True))/\q3 d5))) /\
    ((decide (d3.2.2.2<(lI rows)))=false ->
     ((d3.1=((FL hd rows hd1 af).1)/\d3.2.1=((FL hd rows hd1 af).2.1)/\d3.2.2.1=((FL hd rows hd1 af).2.2)/\(0:Int)=(Ug hd rows hd1 af)/\(([]:List SV)=[]))/\(True)))) d30))
def Bp:Cx:=⟨[(26,(.pair (.i .i64) (.list (.i .i64))))],[(38,G0),(39,NW),(40,Jp),(41,XP)],58,[14],0,[],[],[],[],false,[],[],[],[]⟩
def CR (hd:Int) (rows:List Int) (hd1:Int) (af:List Int):List (Nat×LoopAnn):=[(1,⟨Unit,Int×Int×Int×Int,[3,4,5,6,26,27,28],λe x=>[.box 3 0,.val (.i .i64) x.1,.val (.i .i64) x.2.1,.val (.i .i64) x.2.2.1,.val (.list (.i .i64)) rows,.val (.i .i64) (((List.length rows):Nat):Int),.val (.i .i64) x.2.2.2],λe x=>[(3,.slot 3,.cells [.val (.i .i64) hd1,.val (.list (.i .i64)) af] (some 26))]⟩)]
theorem Cv (d:(Int×List Int)×Int×List Int):gwp (Bp) (CR d.1.1 d.1.2 d.2.1 d.2.2) c18 0 (Wj [.tmp 4,.tmp 5,.tmp 6,.tmp 7] (D5 d) (Db d)) (Qp 58 (AL.can BS d))=YI d.1.1 d.1.2 d.2.1 d.2.2:=by kernel_rfl
abbrev Au:Prop:=OkC Tryz.prog 18 NY
theorem Cj (h:∀ (hd:Int) (rows:List Int) (hd1:Int) (af:List Int),(rows.length<=1000/\af.length<=1000)->YI hd rows hd1 af):OkC Tryz.prog 18 NY :=
 Qs Z8i mixed (C:=Bp) (V:=λ(d:(Int×List Int)×Int×List Int)=>YI d.1.1 d.1.2 d.2.1 d.2.2) ⟨(.cons EP (.cons CS (.cons N6 (.cons Df .nil)))),XsOk.nil,ItsOk.nil,YlOk.nil,IysOk.nil,XfOk.nil⟩ (Cv) λd hp=>h d.1.1 d.1.2 d.2.1 d.2.2 hp
theorem Z1i {hd:Int}{rows af:List Int}{k:Nat}(p1:1<=hd/\hd<=24) (h1:∀ x∈rows,0<=x/\x<2 ^ hd.toNat) (h2:∀ x∈af,0<=x/\x<2 ^ hd.toNat) (k1:k<rows.length) (k2:k<af.length):Qf .xor .i64 (rows.getD k 0) (af.getD k 0)=((Ic rows af k:Nat):Int)/\Ic rows af k<16777216:=by
 have a:=h1 _ (O7 k1);have b:=h2 _ (O7 k2);have hp:=Mb p1.1 p1.2;have hx:((rows.getD k 0).toNat:Int)=rows.getD k 0:=by omega
 have hy:((af.getD k 0).toNat:Int)=af.getD k 0:=by omega
 refine⟨?_,?_⟩
 .have:=Z31 (x:=(rows.getD k 0).toNat) (y:=(af.getD k 0).toNat) (by omega) (by omega);rw[hx,hy] at this;exact this
 .exact Nat.xor_lt_two_pow (n:=24) (by omega) (by omega)
theorem CI:Au:=Cj λhd rows hd1 af h=>by
 obtain⟨h1,h2⟩:=h;unfold YI;(try delta lI gD sT I64 Q2 pj8 pj4);refine⟨⟨by simp,λd hd=>?_⟩,λhe=>?_,λhe=>⟨trivial,λhl=>?_,λhl=>?_⟩⟩
 .rcases zK.1 hd with rfl|hd
  .dsimp only;omega
  .rw[zO.1 hd];dsimp only;omega
 .have he:KP [(hd,rows),(hd1,af)]≠0:=by simpa using he
  have e:Ug hd rows hd1 af=KP [(hd,rows),(hd1,af)]:=by unfold Ug;rw[z2 he]
  have e2:FL hd rows hd1 af=(0,0,0):=by unfold FL;rw[z0 (by rw[e];exact he)]
  rw[e2,e];exact(by and_intros<;>first|rfl|trivial|simp)
 .have he:KP [(hd,rows),(hd1,af)]=0:=by simpa using he
  have hl:(decide (hd=hd1)&&decide (rows.length=af.length))=false:=Eq.mp (Bool.not_eq_true' _) hl;have e:Ug hd rows hd1 af=4:=by unfold Ug;rw[z0 (by omega),z2 hl]
  have e2:FL hd rows hd1 af=(0,0,0):=by unfold FL;rw[z0 (by omega)]
  rw[e2,e];exact(by and_intros<;>first|rfl|trivial|simp)
 .have he:KP [(hd,rows),(hd1,af)]=0:=by simpa using he
  have hl:(decide (hd=hd1)&&decide (rows.length=af.length))=true:=Eq.mp (zH _) hl;have e:Ug hd rows hd1 af=0:=by unfold Ug;rw[z0 (by omega),z0 (by rw[hl];decide)]
  have e2:FL hd rows hd1 af=Ht rows af rows.length:=by unfold FL;rw[z2 e]
  rw[z1,ze,ze] at hl;obtain⟨rfl,wc⟩:=hl;rw[Iy] at he;have a1:Qb hd rows=0:=by
   by_cases a1:Qb hd rows=0
   .exact a1
   .simp[a1] at he
  have a2:Qb hd af=0:=by simpa [a1] using he
  obtain⟨p1,p2,p3,p4,p5⟩:=Gm a1;obtain⟨r1,r2,r3,r4,r5⟩:=Gm a2;rw[e2,e];refine⟨(),(0,0,0,0),(by and_intros<;>first|rfl|trivial|simp),?_⟩;refine⟨λd=>∃ k:Nat,k<=rows.length/\d=((Ht rows af k).1,(Ht rows af k).2.1,(Ht rows af k).2.2,(k:Int)),λd=>rows.length-d.2.2.2.toNat,⟨0,by omega,rfl⟩,?_⟩;rintro _ ⟨k,hk,rfl⟩;dsimp only;simp only[z4];refine⟨λaj=>?_,λb8=>?_⟩
  .have aj:k<rows.length:=by have:=z7 aj;omega
   obtain⟨w1,w2⟩:=Z1i ⟨p1,p2⟩ p5 r5 aj (by omega);rw[w1];have hb:=Q7x rows af k;have wg:=Z3o 24 (Ic rows af k);have aY:Ht rows af (k+1)=if ((Ht rows af k).1==0&&(Ic rows af k != 0))=true then ((Ht rows af k).1+(pcN 24 (Ic rows af k):Int),(k:Int),(tzN (Ic rows af k):Int)) else ((Ht rows af k).1+(pcN 24 (Ic rows af k):Int),(Ht rows af k).2.1,(Ht rows af k).2.2):=rfl
   have hc:(((Ic rows af k:Nat):Int) != 0)=(Ic rows af k != 0):=by rw[Bool.eq_iff_iff];simp
   rw[hc];simp only[z4];have fin:∃ k':Nat,k'<=rows.length/\((Ht rows af (k+1)).1,(Ht rows af (k+1)).2.1,(Ht rows af (k+1)).2.2,(k:Int)+1)=((Ht rows af k').1,(Ht rows af k').2.1,(Ht rows af k').2.2,(k':Int)):=⟨k+1,aj,rfl⟩;refine⟨by omega,by omega,by omega,by omega,by rw[PS];omega,λc=>?_,λc=>?_⟩
   .rw[z2 c] at aY;refine⟨⟨by omega,by omega⟩,⟨by omega,by omega⟩,by rw[Q7];omega,by rw[Q7];omega,_,?_,fin,by dsimp only;omega⟩;rw[aY];exact(by and_intros<;>first|rfl|trivial|simp)
   .rw[z0 (by rw[c];decide)] at aY;refine⟨⟨by omega,by omega⟩,by rw[Q7];omega,by rw[Q7];omega,_,?_,fin,by dsimp only;omega⟩;rw[aY];exact(by and_intros<;>first|rfl|trivial|simp)
  .have:k=rows.length:=by have:=z6 b8;omega
   subst this;exact(by and_intros<;>first|rfl|trivial|simp)
def MH:AL (Int×Int×Int):=(.cons (.k (.i .i64)) (.cons (.ptr (.one (.k (.i .i64)))) (.one (.ptr (.one (.k (.i .i64)))))))
def TI (d:Int×Int×Int):Prop:=True
def Nr (d:Int×Int×Int):SV:=.val .bo (decide (d.1<d.2.1)||decide (d.2.2<d.1))
def Nd (d:Int×Int×Int):List OB:=[]
def Vb:CSp:=XD MH TI Nr Nd
def X_ (n:Int) (a:Int) (b:Int):Prop :=
 (((decide (n<a))||(decide (n > b)))=(decide (n<a)||decide (b<n))/\(True))
def My:Cx:=⟨[],[],13,[],0,[],[],[],[],false,[],[],[],[]⟩
def RH (n:Int) (a:Int) (b:Int):List (Nat×LoopAnn):=[]
theorem S0 (d:Int×Int×Int):gwp (My) (RH d.1 d.2.1 d.2.2) c58 0 (Wj [.tmp 4] (Nr d) (Nd d)) (Qp 13 (AL.can MH d))=X_ d.1 d.2.1 d.2.2:=by kernel_rfl
abbrev Sc:Prop:=OkC Tryz.prog 58 Vb
theorem RP (h:∀ (n:Int) (a:Int) (b:Int),(True)->X_ n a b):OkC Tryz.prog 58 Vb :=
 Qs Z9l mixed (C:=My) (V:=λ(d:Int×Int×Int)=>X_ d.1 d.2.1 d.2.2) ⟨.nil,XsOk.nil,ItsOk.nil,YlOk.nil,IysOk.nil,XfOk.nil⟩ (S0) λd hp=>h d.1 d.2.1 d.2.2 hp
theorem RW:Sc:=RP λn a b _=>by unfold X_;(try delta lI gD sT I64 Q2 pj8 pj4);exact(by and_intros<;>first|rfl|trivial|simp)
def B3:AL (Int×Int×List Int):=(.cons (.k (.i .i64)) (.cons (.k (.i .i64)) (.one (.k (.list (.i .i64))))))
def Lc (d:Int×Int×List Int):Prop:=d.2.2.length<=1000000
def D7 (d:Int×Int×List Int):SV:=.val .bo (!(d.2.2.any λn=>decide (n<d.1)||decide (d.2.1<n)))
def Dc (d:Int×Int×List Int):List OB:=[]
def Jo:CSp:=XD B3 Lc D7 Dc
def Yf (a:Int) (b:Int) (l:List Int):Prop :=
 (l.length<=1000000/\∀ x∈l,(λ(x1:Int)=>True) x)/\((!(l.any (λ(x1:Int)=>(decide (x1<a)||decide (b<x1)))))=(!(l.any λn=>decide (n<a)||decide (b<n)))/\(True))
def H7:Cx:=⟨[],[(42,QF),(58,Vb)],11,[],0,[],[],[],[],false,[],[],[],[]⟩
def E1 (a:Int) (b:Int) (l:List Int):List (Nat×LoopAnn):=[]
theorem CD (d:Int×Int×List Int):gwp (H7) (E1 d.1 d.2.1 d.2.2) c34 0 (Wj [.tmp 6] (D7 d) (Dc d)) (Qp 11 (AL.can B3 d))=Yf d.1 d.2.1 d.2.2:=by kernel_rfl
abbrev Av:Prop:=OkC Tryz.prog 34 Jo
theorem Ck (h:∀ (a:Int) (b:Int) (l:List Int),(l.length<=1000000)->Yf a b l):OkC Tryz.prog 34 Jo :=
 Qs Z87 mixed (C:=H7) (V:=λ(d:Int×Int×List Int)=>Yf d.1 d.2.1 d.2.2) ⟨(.cons Zz (.cons RW .nil)),XsOk.nil,ItsOk.nil,YlOk.nil,IysOk.nil,XfOk.nil⟩ (CD) λd hp=>h d.1 d.2.1 d.2.2 hp
theorem XV:Av:=Ck λa b l h=>by unfold Yf;(try delta lI gD sT I64 Q2 pj8 pj4);exact⟨⟨h,λ_ _=>trivial⟩,rfl,trivial⟩
def K1:AL (Int):=(.one (.k (.i .i64)))
def Gx (d:Int):Prop:=True
def Yz (d:Int):SV:=.val .bo (inI d 1 24)
def Yt (d:Int):List OB:=[]
def QD:CSp:=XD K1 Gx Yz Yt
def J0 (f:Int):Prop :=
 ([f].length<=1000000)/\((!([f].any λn=>decide (n<(1:Int))||decide ((24:Int)<n)))=(inI f 1 24)/\(True))
def K0:Cx:=⟨[(3,(.i .i64))],[(34,Jo)],6,[],0,[],[],[],[],false,[],[],[],[]⟩
def DE (f:Int):List (Nat×LoopAnn):=[]
theorem DI (d:Int):gwp (K0) (DE d) c26 0 (Wj [.tmp 2] (Yz d) (Yt d)) (Qp 6 (AL.can K1 d))=J0 d:=by kernel_rfl
abbrev Dz:Prop:=OkC Tryz.prog 26 QD
theorem Dm (h:∀ (f:Int),(True)->J0 f):OkC Tryz.prog 26 QD :=
 Qs J05 mixed (C:=K0) (V:=λ(d:Int)=>J0 d) ⟨(.cons XV .nil),XsOk.nil,ItsOk.nil,YlOk.nil,IysOk.nil,XfOk.nil⟩ (DI) λd hp=>h d hp
theorem Z0:Dz:=Dm λf _=>by unfold J0;(try delta lI gD sT I64 Q2 pj8 pj4);have e:∀ n a b:Int,(decide (n<a)||decide (b<n))=!inI n a b:=λn a b=>(nI n a b).symm;simp only[List.any_cons,List.any_nil,xN,e,Bool.not_not,zJ,List.length_nil];exact⟨by omega,(by and_intros<;>first|rfl|trivial|simp)⟩
def K5:AL (Int×List Int):=(.cons (.k (.i .i64)) (.one (.k (.list (.i .i64)))))
def Gw (d:Int×List Int):Prop:=1<=d.1/\d.1<=24/\d.2.length<=1000000
def Ym (d:Int×List Int):SV:=.val .bo (!(d.2.any λn=>!inI n 0 (2 ^ d.1.toNat-1)))
def Yv (d:Int×List Int):List OB:=[]
def ZA:CSp:=XD K5 Gw Ym Yv
def ZY (f:Int) (l:List Int):Prop :=
 (0<=f)/\(I64 (Wk .i64 (1:Int) f))/\(I64 ((Wk .i64 (1:Int) f)-(1:Int)))/\(l.length<=1000000)/\((!(l.any λn=>decide (n<(0:Int))||decide (((Wk .i64 (1:Int) f)-(1:Int))<n)))=(!(l.any λn=>!inI n 0 (2 ^ f.toNat-1)))/\(True))
def K4:Cx:=⟨[],[(34,Jo)],10,[],0,[],[],[],[],false,[],[],[],[]⟩
def Dq (f:Int) (l:List Int):List (Nat×LoopAnn):=[]
theorem DG (d:Int×List Int):gwp (K4) (Dq d.1 d.2) c27 0 (Wj [.tmp 4] (Ym d) (Yv d)) (Qp 10 (AL.can K5 d))=ZY d.1 d.2:=by kernel_rfl
abbrev Dx:Prop:=OkC Tryz.prog 27 ZA
theorem Dv (h:∀ (f:Int) (l:List Int),(1<=f/\f<=24/\l.length<=1000000)->ZY f l):OkC Tryz.prog 27 ZA :=
 Qs Z8t mixed (C:=K4) (V:=λ(d:Int×List Int)=>ZY d.1 d.2) ⟨(.cons XV .nil),XsOk.nil,ItsOk.nil,YlOk.nil,IysOk.nil,XfOk.nil⟩ (DG) λd hp=>h d.1 d.2 hp
theorem Xm:Dx:=Dv λf l h=>by obtain⟨h1,h2,h3⟩:=h;unfold ZY;(try delta lI gD sT I64 Q2 pj8 pj4);have e:∀ n a b:Int,(decide (n<a)||decide (b<n))=!inI n a b:=λn a b=>(nI n a b).symm;obtain⟨k,rfl⟩:=z8 (show 0<=f by omega);have hs:=J1r (k:=k) (by omega);have hp:=Z6h (k:=k) (by omega);simp only[hs,e,z4,Q4s];exact⟨by omega,by simp only[Q7];omega,by simp only[Q7];omega,h3,(by and_intros<;>first|rfl|trivial|simp)⟩
def XH:AL (Int):=(.one (.k (.i .u64)))
def VX (d:Int):Prop:=0<=d/\d<=18446744073709551615
def Xp (d:Int):SV:=.val (.i .u64) ((Z32 d.toNat:Nat):Int)
def XC (d:Int):List OB:=[]
def Jc:CSp:=XD XH VX Xp XC
abbrev C4 (x:Int):=(Qf .or .u64 (Qf .and .u64 (Zg .u64 x (8:Int)) (71777214294589695:Int)) (Wk .u64 (Qf .and .u64 x (71777214294589695:Int)) (8:Int)))
abbrev Ob (x:Int):=(Qf .or .u64 (Qf .and .u64 (Zg .u64 (C4 x) (16:Int)) (281470681808895:Int)) (Wk .u64 (Qf .and .u64 (C4 x) (281470681808895:Int)) (16:Int)))
def Zk (x:Int):Prop :=
 (0<=(8:Int))/\(0<=(8:Int))/\(InK .u64 (Wk .u64 (Qf .and .u64 x (71777214294589695:Int)) (8:Int)))/\(0<=(16:Int))/\(0<=(16:Int))/\(InK .u64 (Wk .u64 (Qf .and .u64 (C4 x) (281470681808895:Int)) (16:Int)))/\(0<=(32:Int))/\(0<=(32:Int))/\((Qf .or .u64 (Zg .u64 (Ob x) (32:Int)) (IntKind.wrap .u64 (Wk .u64 (Ob x) (32:Int))))=((Z32 x.toNat:Nat):Int)/\(True))
def XK:Cx:=⟨[],[],22,[20],0,[],[],[],[],false,[],[],[],[]⟩
def UX (x:Int):List (Nat×LoopAnn):=[]
theorem UQ (d:Int):gwp (XK) (UX d) c97 0 (Wj [.tmp 2] (Xp d) (XC d)) (Qp 22 (AL.can XH d))=Zk d:=by kernel_rfl
abbrev Uz:Prop:=OkC Tryz.prog 97 Jc
theorem UI (h:∀ (x:Int),(0<=x/\x<=18446744073709551615)->Zk x):OkC Tryz.prog 97 Jc :=
 Qs J0f mixed (C:=XK) (V:=λ(d:Int)=>Zk d) ⟨.nil,XsOk.nil,ItsOk.nil,YlOk.nil,IysOk.nil,XfOk.nil⟩ (UQ) λd hp=>h d hp
theorem Uv:Uz:=UI λx h=>by
 obtain⟨h1,h2⟩:=h;unfold Zk;(try delta C4 Ob);(try delta lI gD sT I64 Q2 pj8 pj4);obtain⟨n,rfl⟩:=z8 h1;have hn:n<2 ^ 64:=by omega
 obtain⟨a1,a2,a3⟩:=sw8 hn;obtain⟨b1,b2,b3⟩:=J1y a3;have c1:=J1n b3;simp only[a1,b1,c1,z4];refine⟨by omega,by omega,a2,by omega,by omega,b2,by omega,by omega,?_⟩;exact(by and_intros<;>first|rfl|trivial|simp)
def YS:AL (Int):=(.one (.k (.i .u64)))
def Gc (d:Int):Prop:=0<=d/\d<=18446744073709551615
def YC (d:Int):SV:=.val (.i .u64) ((Ie 64 d.toNat:Nat):Int)
def YN (d:Int):List OB:=[]
def XQ:CSp:=XD YS Gc YC YN
abbrev LS (x:Int):=(Qf .or .u64 (Qf .and .u64 (Zg .u64 (Qf .or .u64 (Qf .and .u64 (Zg .u64 x (1:Int)) (6148914691236517205:Int)) (Wk .u64 (Qf .and .u64 x (6148914691236517205:Int)) (1:Int))) (2:Int)) (3689348814741910323:Int)) (Wk .u64 (Qf .and .u64 (Qf .or .u64 (Qf .and .u64 (Zg .u64 x (1:Int)) (6148914691236517205:Int)) (Wk .u64 (Qf .and .u64 x (6148914691236517205:Int)) (1:Int))) (3689348814741910323:Int)) (2:Int)))
abbrev LG (x:Int):=(Qf .or .u64 (Qf .and .u64 (Zg .u64 (LS x) (4:Int)) (1085102592571150095:Int)) (Wk .u64 (Qf .and .u64 (LS x) (1085102592571150095:Int)) (4:Int)))
def ZZ (x:Int):Prop :=
 (0<=(1:Int))/\(0<=(1:Int))/\(InK .u64 (Wk .u64 (Qf .and .u64 x (6148914691236517205:Int)) (1:Int)))/\(0<=(2:Int))/\(0<=(2:Int))/\(InK .u64 (Wk .u64 (Qf .and .u64 (Qf .or .u64 (Qf .and .u64 (Zg .u64 x (1:Int)) (6148914691236517205:Int)) (Wk .u64 (Qf .and .u64 x (6148914691236517205:Int)) (1:Int))) (3689348814741910323:Int)) (2:Int)))/\(0<=(4:Int))/\(0<=(4:Int))/\(InK .u64 (Wk .u64 (Qf .and .u64 (LS x) (1085102592571150095:Int)) (4:Int)))/\(0<=(LG x)/\(LG x)<=18446744073709551615)/\(((Z32 (LG x).toNat:Nat):Int)=((Ie 64 x.toNat:Nat):Int)/\(True))
def YU:Cx:=⟨[],[(97,Jc)],26,[],0,[],[],[],[],false,[],[],[],[]⟩
def Dn (x:Int):List (Nat×LoopAnn):=[]
theorem Dh (d:Int):gwp (YU) (Dn d) c80 0 (Wj [.tmp 2] (YC d) (YN d)) (Qp 26 (AL.can YS d))=ZZ d:=by kernel_rfl
abbrev DC:Prop:=OkC Tryz.prog 80 XQ
theorem Dg (h:∀ (x:Int),(0<=x/\x<=18446744073709551615)->ZZ x):OkC Tryz.prog 80 XQ :=
 Qs J0j mixed (C:=YU) (V:=λ(d:Int)=>ZZ d) ⟨(.cons Uv .nil),XsOk.nil,ItsOk.nil,YlOk.nil,IysOk.nil,XfOk.nil⟩ (Dh) λd hp=>h d hp
theorem Dj:DC:=Dg λx h=>by
 obtain⟨h1,h2⟩:=h;unfold ZZ;(try delta LS LG);(try delta lI gD sT I64 Q2 pj8 pj4);obtain⟨n,rfl⟩:=z8 h1;have hn:n<2 ^ 64:=by omega
 obtain⟨a1,a2,a3⟩:=sw1 hn;obtain⟨b1,b2,b3⟩:=sw2 a3;obtain⟨c1,c2,c3⟩:=sw4 b3;have hr:=Z82 hn;have he:MV 4 1085102592571150095 (MV 2 3689348814741910323 (MV 1 6148914691236517205 n))=Z7r n:=rfl;simp only[a1,b1,c1,z4];rw[he,hr];rw[he] at c3;refine⟨by omega,by omega,a2,by omega,by omega,b2,by omega,by omega,c2,⟨by omega,by omega⟩,?_⟩;exact(by and_intros<;>first|rfl|trivial|simp)
def KW:AL (Int×Int):=(.cons (.k (.i .i64)) (.one (.k (.i .i64))))
def DH (d:Int×Int):Prop:=1<=d.1/\d.1<=24/\0<=d.2/\d.2<2 ^ d.1.toNat
def YX (d:Int×Int):SV:=.val (.i .i64) (Z73 d.1 d.2)
def YY (d:Int×Int):List OB:=[]
def Wh:CSp:=XD KW DH YX YY
def Je (f:Int) (r:Int):Prop :=
 (InK .u64 r)/\(0<=r/\r<=18446744073709551615)/\(InK .u64 f)/\(InK .u64 ((64:Int)-f))/\(0<=((64:Int)-f))/\(I64 (Zg .u64 ((Ie 64 r.toNat:Nat):Int) ((64:Int)-f)))/\((Zg .u64 ((Ie 64 r.toNat:Nat):Int) ((64:Int)-f))=(Z73 f r)/\(True))
def V4:Cx:=⟨[],[(80,XQ)],13,[],0,[],[],[],[],false,[],[],[],[]⟩
def Bf (f:Int) (r:Int):List (Nat×LoopAnn):=[]
theorem Hc (d:Int×Int):gwp (V4) (Bf d.1 d.2) c59 0 (Wj [.tmp 4] (YX d) (YY d)) (Qp 13 (AL.can KW d))=Je d.1 d.2:=by kernel_rfl
abbrev BI:Prop:=OkC Tryz.prog 59 Wh
theorem BZ (h:∀ (f:Int) (r:Int),(1<=f/\f<=24/\0<=r/\r<2 ^ f.toNat)->Je f r):OkC Tryz.prog 59 Wh :=
 Qs J0c mixed (C:=V4) (V:=λ(d:Int×Int)=>Je d.1 d.2) ⟨(.cons Dj .nil),XsOk.nil,ItsOk.nil,YlOk.nil,IysOk.nil,XfOk.nil⟩ (Hc) λd hp=>h d.1 d.2 hp
theorem Hi:BI:=BZ λf r h=>by
 obtain⟨h1,h2,h3,h4⟩:=h;unfold Je;(try delta lI gD sT I64 Q2 pj8 pj4);obtain⟨k,rfl⟩:=z8 (show 0<=f by omega);obtain⟨n,rfl⟩:=z8 h3;simp only[z4,Q4s] at h4;have hp:=Z6h (k:=k) (by omega);have h4:n<2 ^ k:=by omega
 have hs:Zg .u64 ((Ie 64 n:Nat):Int) (64-(k:Int))=((Ie k n:Nat):Int):=by rw[show (64-(k:Int))=((64-k:Nat):Int) by omega,Z8k (by omega),Q7g (by omega) h4]
 have hl:=Q8j k n;simp only[z4,hs];refine⟨by simp only[PS];omega,⟨by omega,by omega⟩,by simp only[PS];omega,by simp only[PS];omega,by omega,by simp only[Q7];omega,?_⟩;exact⟨by unfold Z73;simp only[z4],trivial⟩
def Wv:AL ((Int×Int×Bool)×Int):=(.cons (.agg (.cons (.k (.i .i64)) (.cons (.k (.i .i64)) (.one (.k .bo))))) (.one (.ptr (.one (.k (.i .i64))))))
def N7 (d:(Int×Int×Bool)×Int):Prop:=1<=d.2/\d.2<=24
def Wf (d:(Int×Int×Bool)×Int):SV:=.val .bo (!Zt d.2 (d.1.1,(d.1.2.1,d.1.2.2)))
def Wd (d:(Int×Int×Bool)×Int):List OB:=[]
def JS:CSp:=XD Wv N7 Wf Wd
def Zw (cn:Int) (cr:Int) (ct:Bool) (f:Int):Prop :=
 ([cn].length<=1000000)/\((!(!([cn].any λn=>decide (n<(-1:Int))||decide ((59:Int)<n))))=false->True)/\((!(!([cn].any λn=>decide (n<(-1:Int))||decide ((59:Int)<n))))=false->1<=f/\f<=24/\[cr].length<=1000000)/\(((!(!([cn].any λn=>decide (n<(-1:Int))||decide ((59:Int)<n))))||(!(!([cr].any λn=>!inI n 0 (2 ^ f.toNat-1)))))=(!Zt f (cn,(cr,ct)))/\(True))
def Wz:Cx:=⟨[(3,(.i .i64))],[(34,Jo),(27,ZA)],17,[],0,[],[],[],[],false,[],[],[],[]⟩
def NJ (cn:Int) (cr:Int) (ct:Bool) (f:Int):List (Nat×LoopAnn):=[]
theorem NV (d:(Int×Int×Bool)×Int):gwp (Wz) (NJ d.1.1 d.1.2.1 d.1.2.2 d.2) c78 0 (Wj [.tmp 3] (Wf d) (Wd d)) (Qp 17 (AL.can Wv d))=Zw d.1.1 d.1.2.1 d.1.2.2 d.2:=by kernel_rfl
abbrev NO:Prop:=OkC Tryz.prog 78 JS
theorem M0 (h:∀ (cn:Int) (cr:Int) (ct:Bool) (f:Int),(1<=f/\f<=24)->Zw cn cr ct f):OkC Tryz.prog 78 JS :=
 Qs Z8z mixed (C:=Wz) (V:=λ(d:(Int×Int×Bool)×Int)=>Zw d.1.1 d.1.2.1 d.1.2.2 d.2) ⟨(.cons XV (.cons Xm .nil)),XsOk.nil,ItsOk.nil,YlOk.nil,IysOk.nil,XfOk.nil⟩ (NV) λd hp=>h d.1.1 d.1.2.1 d.1.2.2 d.2 hp
theorem NZ:NO:=M0 λcn cr ct f h=>by obtain⟨h1,h2⟩:=h;unfold Zw;(try delta lI gD sT I64 Q2 pj8 pj4);have e:∀ n a b:Int,(decide (n<a)||decide (b<n))=!inI n a b:=λn a b=>(nI n a b).symm;simp only[List.any_cons,List.any_nil,xN,e,Bool.not_not,zJ,List.length_nil];refine⟨by omega,λ_=>trivial,λ_=>⟨h1,h2,by omega⟩,?_⟩;unfold Zt;rw[Bool.not_and];exact(by and_intros<;>first|rfl|trivial|simp)
def Z4:AL ((List (Int×Int×Bool))×((Int×Int×Bool->Prop)×(Int×Int×Bool->Bool))):=(.cons (.k (.list (.pair (.i .i64) (.pair (.i .i64) .bo)))) (.one (.fn [(.pair (.i .i64) (.pair (.i .i64) .bo))] .bo)))
def Jf (d:(List (Int×Int×Bool))×((Int×Int×Bool->Prop)×(Int×Int×Bool->Bool))):Prop:=d.1.length<=1000000/\∀ x∈d.1,d.2.1 x
def QZ (d:(List (Int×Int×Bool))×((Int×Int×Bool->Prop)×(Int×Int×Bool->Bool))):SV:=.val (.i .i64) (Z0u d.1 d.2.2)
def QY (d:(List (Int×Int×Bool))×((Int×Int×Bool->Prop)×(Int×Int×Bool->Bool))):List OB:=[]
def Qx:CSp:=XD Z4 Jf QZ QY
def Qj (l:List (Int×Int×Bool)) (p:(Int×Int×Bool->Prop)×(Int×Int×Bool->Bool)):Prop :=
 ∃ (e2:Unit) (d20:Int),((l=l/\(SV.pf [(.pair (.i .i64) (.pair (.i .i64) .bo))] .bo p.1 p.2=SV.pf [(.pair (.i .i64) (.pair (.i .i64) .bo))] .bo p.1 p.2)/\(lI l)=(lI l)/\(0:Int)=d20/\True)/\(True)) /\
 LoopP (λ(d2:Int) (q2:(Int)->Prop) =>
  ((decide (d2<(lI l)))=true ->
   (0<=d2)/\(d2<(List.length l))/\(p.1 ((gD l d2 (0,(0,false))).1,((gD l d2 (0,(0,false))).2.1,(gD l d2 (0,(0,false))).2.2)))/\((p.2 ((gD l d2 (0,(0,false))).1,((gD l d2 (0,(0,false))).2.1,(gD l d2 (0,(0,false))).2.2)))=true ->
    (d2=(Z0u l p.2)/\(True))) /\
   ((p.2 ((gD l d2 (0,(0,false))).1,((gD l d2 (0,(0,false))).2.1,(gD l d2 (0,(0,false))).2.2)))=false ->
    (I64 (d2+(1:Int)))/\(∃ d3:Int,((l=l/\(SV.pf [(.pair (.i .i64) (.pair (.i .i64) .bo))] .bo p.1 p.2=SV.pf [(.pair (.i .i64) (.pair (.i .i64) .bo))] .bo p.1 p.2)/\(lI l)=(lI l)/\(d2+(1:Int))=d3/\True)/\(True))/\q2 d3))) /\
  ((decide (d2<(lI l)))=false ->
   ((-1:Int)=(Z0u l p.2)/\(True)))) d20
def Z3:Cx:=⟨[],[],19,[],0,[],[],[],[],false,[],[],[],[]⟩
def Jr (l:List (Int×Int×Bool)) (p:(Int×Int×Bool->Prop)×(Int×Int×Bool->Bool)):List (Nat×LoopAnn):=[(0,⟨Unit,Int,[0,1,7,8],λe x=>[.val (.list (.pair (.i .i64) (.pair (.i .i64) .bo))) l,.pf [(.pair (.i .i64) (.pair (.i .i64) .bo))] .bo p.1 p.2,.val (.i .i64) (((List.length l):Nat):Int),.val (.i .i64) x],λe x=>[]⟩)]
theorem Jt (d:(List (Int×Int×Bool))×((Int×Int×Bool->Prop)×(Int×Int×Bool->Bool))):gwp (Z3) (Jr d.1 d.2) c96 0 (Wj [.tmp 4] (QZ d) (QY d)) (Qp 19 (AL.can Z4 d))=Qj d.1 d.2:=by kernel_rfl
abbrev Jw:Prop:=OkC Tryz.prog 96 Qx
theorem Ju (h:∀ (l:List (Int×Int×Bool)) (p:(Int×Int×Bool->Prop)×(Int×Int×Bool->Bool)),(l.length<=1000000/\∀ x∈l,p.1 x)->Qj l p):OkC Tryz.prog 96 Qx :=
 Qs Z8g mixed (C:=Z3) (V:=λ(d:(List (Int×Int×Bool))×((Int×Int×Bool->Prop)×(Int×Int×Bool->Bool)))=>Qj d.1 d.2) ⟨.nil,XsOk.nil,ItsOk.nil,YlOk.nil,IysOk.nil,XfOk.nil⟩ (Jt) λd hp=>h d.1 d.2 hp
theorem Jn:Jw:=Ju λl p hp=>by
 unfold Qj;(try delta lI gD sT I64 Q2 pj8 pj4);simp only[true_and,and_true,eq_self_iff_true,exists_eq_left',exists_const,ze,zG,zD,bne_iff_ne,ne_eq,zW,bne_eq_false_iff_eq,Bool.not_eq_true',zH,z_,xH,z4,Int.ofNat_lt,gt_iff_lt,ge_iff_le];refine LoopP.count l.length (λk=>(l.take k).any p.2=false) (by simp) λk bn hJ q hq=>?_;simp only[true_and,and_true,eq_self_iff_true,exists_eq_left',exists_const,ze,zG,zD,bne_iff_ne,ne_eq,zW,bne_eq_false_iff_eq,Bool.not_eq_true',zH,z_,xH,z4,Int.ofNat_lt,gt_iff_lt,ge_iff_le,Q7];refine⟨λaj=>?_,λb8=>?_⟩
 .have aj:k<l.length:=by omega
  rw[Qg aj];refine⟨by omega,by omega,hp.2 _ (zh aj),λhx=>?_,λhx=>⟨by omega,hq aj ?_⟩⟩
  .rw[Q95 aj hx hJ]
  .rw[XJ aj,List.any_append,hJ];simp[hx]
 .rw[x9 (by omega)] at hJ;rw[Q0g hJ]
def QU:AL ((List (Int×Int×Bool))×((Int×Int×Bool->Prop)×(Int×Int×Bool->Bool))):=(.cons (.k (.list (.pair (.i .i64) (.pair (.i .i64) .bo)))) (.one (.fn [(.pair (.i .i64) (.pair (.i .i64) .bo))] .bo)))
def ZV (d:(List (Int×Int×Bool))×((Int×Int×Bool->Prop)×(Int×Int×Bool->Bool))):Prop:=d.1.length<=1000000/\∀ x∈d.1,d.2.1 x
def QR (d:(List (Int×Int×Bool))×((Int×Int×Bool->Prop)×(Int×Int×Bool->Bool))):SV:=.val .bo (d.1.any d.2.2)
def QS (d:(List (Int×Int×Bool))×((Int×Int×Bool->Prop)×(Int×Int×Bool->Bool))):List OB:=[]
def Qt:CSp:=XD QU ZV QR QS
def Qh (l:List (Int×Int×Bool)) (p:(Int×Int×Bool->Prop)×(Int×Int×Bool->Bool)):Prop :=
 (l.length<=1000000/\∀ x∈l,(λ(x1:Int×Int×Bool)=>p.1 (x1.1,(x1.2.1,x1.2.2))) x)/\((decide ((Z0u l (λ(x1:Int×Int×Bool)=>(p.2 (x1.1,(x1.2.1,x1.2.2)))))>=(0:Int)))=(l.any p.2)/\(True))
def QT:Cx:=⟨[],[(96,Qx)],9,[],0,[],[],[],[],false,[],[],[],[]⟩
def J3 (l:List (Int×Int×Bool)) (p:(Int×Int×Bool->Prop)×(Int×Int×Bool->Bool)):List (Nat×LoopAnn):=[]
theorem J7 (d:(List (Int×Int×Bool))×((Int×Int×Bool->Prop)×(Int×Int×Bool->Bool))):gwp (QT) (J3 d.1 d.2) c79 0 (Wj [.tmp 4] (QR d) (QS d)) (Qp 9 (AL.can QU d))=Qh d.1 d.2:=by kernel_rfl
abbrev J5:Prop:=OkC Tryz.prog 79 Qt
theorem J4 (h:∀ (l:List (Int×Int×Bool)) (p:(Int×Int×Bool->Prop)×(Int×Int×Bool->Bool)),(l.length<=1000000/\∀ x∈l,p.1 x)->Qh l p):OkC Tryz.prog 79 Qt :=
 Qs Z8l mixed (C:=QT) (V:=λ(d:(List (Int×Int×Bool))×((Int×Int×Bool->Prop)×(Int×Int×Bool->Bool)))=>Qh d.1 d.2) ⟨(.cons Jn .nil),XsOk.nil,ItsOk.nil,YlOk.nil,IysOk.nil,XfOk.nil⟩ (J7) λd hp=>h d.1 d.2 hp
theorem J6:J5:=J4 λl p hp=>by simp only[Qh];exact⟨hp,Z1g l p.2,trivial⟩
def Yo:AL (Int×List (Int×Int×Bool)):=(.cons (.k (.i .i64)) (.one (.k (.list (.pair (.i .i64) (.pair (.i .i64) .bo))))))
def MS (d:Int×List (Int×Int×Bool)):Prop:=1<=d.1/\d.1<=24/\d.2.length<=1000000
def Y1 (d:Int×List (Int×Int×Bool)):SV:=.val .bo (!d.2.isEmpty&&!(d.2.any λc=>!Zt d.1 c))
def WW (d:Int×List (Int×Int×Bool)):List OB:=[]
def QL:CSp:=XD Yo MS Y1 WW
def ZO (f:Int) (cs:List (Int×Int×Bool)):Prop :=
 ((decide ((lI cs) > (0:Int)))=true->cs.length<=1000000/\∀ x∈cs,(λ(x1:Int×Int×Bool)=>1<=f/\f<=24) x)/\(((decide ((lI cs) > (0:Int)))&&(!(cs.any (λ(x1:Int×Int×Bool)=>(!Zt f (x1.1,(x1.2.1,x1.2.2)))))))=(!cs.isEmpty&&!(cs.any λc=>!Zt f c))/\(True))
def Yc:Cx:=⟨[],[(79,Qt),(78,JS)],16,[],0,[],[],[],[],false,[],[],[],[]⟩
def G9 (f:Int) (cs:List (Int×Int×Bool)):List (Nat×LoopAnn):=[]
theorem Gg (d:Int×List (Int×Int×Bool)):gwp (Yc) (G9 d.1 d.2) c57 0 (Wj [.tmp 4] (Y1 d) (WW d)) (Qp 16 (AL.can Yo d))=ZO d.1 d.2:=by kernel_rfl
abbrev Gk:Prop:=OkC Tryz.prog 57 QL
theorem Gs (h:∀ (f:Int) (cs:List (Int×Int×Bool)),(1<=f/\f<=24/\cs.length<=1000000)->ZO f cs):OkC Tryz.prog 57 QL :=
 Qs Z9y mixed (C:=Yc) (V:=λ(d:Int×List (Int×Int×Bool))=>ZO d.1 d.2) ⟨(.cons J6 (.cons NZ .nil)),XsOk.nil,ItsOk.nil,YlOk.nil,IysOk.nil,XfOk.nil⟩ (Gg) λd hp=>h d.1 d.2 hp
theorem Zl:Gk:=Gs λf cs h=>by
 obtain⟨h1,h2,h3⟩:=h;unfold ZO;(try delta lI gD sT I64 Q2 pj8 pj4);refine⟨λ_=>⟨h3,λ_ _=>⟨h1,h2⟩⟩,?_⟩;have:decide ((cs.length:Int) > 0)=!cs.isEmpty:=by cases cs<;>simp
 rw[this];exact(by and_intros<;>first|rfl|trivial|simp)
def Rw:Cx:=⟨[],[(26,QD),(57,QL)],30,[],0,[],[],[],[],false,[],[],[],[]⟩
def KX:XSp:=Q5s Rw (λ_=>[]) c33 [.cell 2 true 3,.tmp 3] 30
theorem KH:XOk Tryz.prog 33 KX:=Vc Z8u mixed (C:=Rw) ⟨(.cons Z0 (.cons Zl .nil)),XsOk.nil,ItsOk.nil,YlOk.nil,IysOk.nil,XfOk.nil⟩ _
def P6:AL (Int×List Int):=(.one (.agg (.cons (.k (.i .i64)) (.one (.k (.list (.i .i64)))))))
def AW (d:Int×List Int):Prop:=d.2.length<=1000
def BB (d:Int×List Int):SV:=.tup [.agg [.val (.i .i64) (Jd d.1 d.2),.lst 0],.val (.i .i64) (Y3 d.1 d.2)]
def Bi (d:Int×List Int):List OB:=[.lst 69 (.pair (.i .i64) (.pair (.i .i64) .bo)) (YW d.1 d.2) ((YW d.1 d.2).isEmpty)]
def Gz:CSp:=XD P6 AW BB Bi
def Kz (hk:Int) (rows:List Int):Prop :=
 (True)/\((!(inI hk 1 24))=true ->
  ((((0:Int)=(Jd hk rows)/\True/\(([]:List SV)=[]))/\(2:Int)=(Y3 hk rows)/\(([]:List SV)=[]))/\(((YW hk rows)=[]/\(YW hk rows).isEmpty=true)/\True))) /\
 ((!(inI hk 1 24))=false ->
  ((decide ((lI rows) > (60:Int)))=true ->
   ((((0:Int)=(Jd hk rows)/\True/\(([]:List SV)=[]))/\(5:Int)=(Y3 hk rows)/\(([]:List SV)=[]))/\(((YW hk rows)=[]/\(YW hk rows).isEmpty=true)/\True))) /\
  ((decide ((lI rows) > (60:Int)))=false ->
   (((lI rows)==(0:Int))=true ->
    ((((0:Int)=(Jd hk rows)/\True/\(([]:List SV)=[]))/\(7:Int)=(Y3 hk rows)/\(([]:List SV)=[]))/\(((YW hk rows)=[]/\(YW hk rows).isEmpty=true)/\True))) /\
   (((lI rows)==(0:Int))=false ->
    (1<=hk/\hk<=24/\rows.length<=1000000)/\((!(!(rows.any λn=>!inI n 0 (2 ^ hk.toNat-1))))=true ->
     ((((0:Int)=(Jd hk rows)/\True/\(([]:List SV)=[]))/\(2:Int)=(Y3 hk rows)/\(([]:List SV)=[]))/\(((YW hk rows)=[]/\(YW hk rows).isEmpty=true)/\True))) /\
    ((!(!(rows.any λn=>!inI n 0 (2 ^ hk.toNat-1))))=false ->
     ∃ (e4:Unit) (d40:(List (Int×Int×Bool))×Int),((True/\rows=rows/\(lI rows)=(lI rows)/\(0:Int)=d40.2/\True)/\((hk=hk/\True/\(([]:List SV)=[]))/\(d40.1=[]/\(List.isEmpty d40.1)=true)/\True)) /\
     LoopP (λ(d4:(List (Int×Int×Bool))×Int) (q4:((List (Int×Int×Bool))×Int)->Prop) =>
      ((decide (d4.2<(lI rows)))=true ->
       (0<=d4.2)/\(d4.2<(List.length rows))/\(((List.length d4.1)+(List.length [(d4.2,((gD rows d4.2 0),false))]))*24<=70368744177664)/\(I64 (d4.2+(1:Int)))/\(∃ d5:(List (Int×Int×Bool))×Int,((True/\rows=rows/\(lI rows)=(lI rows)/\(d4.2+(1:Int))=d5.2/\True)/\((hk=hk/\True/\(([]:List SV)=[]))/\((d4.1++[(d4.2,((gD rows d4.2 0),false))])=d5.1/\false=(List.isEmpty d5.1))/\True))/\q4 d5)) /\
      ((decide (d4.2<(lI rows)))=false ->
       (((hk=(Jd hk rows)/\True/\(([]:List SV)=[]))/\(0:Int)=(Y3 hk rows)/\(([]:List SV)=[]))/\((d4.1=(YW hk rows)/\(List.isEmpty d4.1)=(YW hk rows).isEmpty)/\True)))) d40))))
def PL:Cx:=⟨[(69,(.pair (.i .i64) (.pair (.i .i64) .bo)))],[(26,QD),(27,ZA)],54,[],0,[],[],[],[],false,[],[],[],[]⟩
def EE (hk:Int) (rows:List Int):List (Nat×LoopAnn):=[(1,⟨Unit,(List (Int×Int×Bool))×Int,[2,37,38,39],λe x=>[.box 2 0,.val (.list (.i .i64)) rows,.val (.i .i64) (((List.length rows):Nat):Int),.val (.i .i64) x.2],λe x=>[(2,.slot 2,.cells [.val (.i .i64) hk,.lst 50] (some 36)),(50,.cell 2 1,.lst 69 (.pair (.i .i64) (.pair (.i .i64) .bo)) x.1 (List.isEmpty x.1))]⟩)]
theorem F8 (d:Int×List Int):gwp (PL) (EE d.1 d.2) c10 0 (Wj [.cell 2 true 2,.tmp 3] (BB d) (Bi d)) (Qp 54 (AL.can P6 d))=Kz d.1 d.2:=by kernel_rfl
abbrev EO:Prop:=OkC Tryz.prog 10 Gz
theorem Fw (h:∀ (hk:Int) (rows:List Int),(rows.length<=1000)->Kz hk rows):OkC Tryz.prog 10 Gz :=
 Qs J0a mixed (C:=PL) (V:=λ(d:Int×List Int)=>Kz d.1 d.2) ⟨(.cons Z0 (.cons Xm .nil)),XsOk.nil,ItsOk.nil,YlOk.nil,IysOk.nil,XfOk.nil⟩ (F8) λd hp=>h d.1 d.2 hp
theorem F5:EO:=Fw λhk rows h=>by
 unfold Kz;(try delta lI gD sT I64 Q2 pj8 pj4);simp only[true_and,and_true,Bool.not_not];refine⟨λc=>?_,λc=>⟨λc2=>?_,λc2=>⟨λc3=>?_,λc3=>⟨?_,λc4=>?_,λc4=>?_⟩⟩⟩⟩
 .exact Oh (by unfold Y3;rw[z2 c]) (by omega)
 .have c2:=z7 c2;exact Oh (by unfold Y3;rw[z0 (by rw[c];decide),z2 (by omega)]) (by omega)
 .have c2:=z6 c2;have c3:rows=[]:=List.eq_nil_of_length_eq_zero (by have:=z7 c3;omega);exact Oh (by unfold Y3;rw[z0 (by rw[c];decide),z0 (by omega),z2 c3]) (by omega)
 .have c:=SN c;exact⟨c.1,c.2,by omega⟩
 .have c2:=z6 c2;have c3:rows≠[]:=λe=>by rw[e] at c3;cases c3
  exact Oh (by unfold Y3;rw[z0 (by rw[c];decide),z0 (by omega),z0 c3,z2 c4]) (by omega)
 .have c2:=z6 c2;have c3:rows≠[]:=λe=>by rw[e] at c3;cases c3
  have e0:Y3 hk rows=0:=by unfold Y3;rw[z0 (by rw[c];decide),z0 (by omega),z0 c3,z0 (by rw[c4];decide)]
  have e1:Jd hk rows=hk:=by unfold Jd;rw[z2 e0]
  have e2:YW hk rows=Co rows:=by unfold YW;rw[z2 e0]
  rw[e0,e1,e2];refine⟨(),([],0),(by and_intros<;>first|rfl|trivial),?_⟩;refine LoopP.count2 rows.length (λk l=>l=Z4d rows k) rfl ?_;rintro k l hk hJ q hq;subst hJ;dsimp only;simp only[z4];refine⟨λg=>?_,λg=>?_⟩
  .have g:k<rows.length:=by have:=z7 g;omega
   have hl:=Z28 rows k;refine⟨by omega,by omega,by simp only[zJ,List.length_nil];omega,by simp only[Q7];omega,(Z4d rows (k+1),(k:Int)+1),?_,hq _ g rfl⟩;rw[Z05];and_intros<;>first|rfl|trivial|simp
  .have g:k=rows.length:=by have:=z6 g;omega
   subst g;exact(by and_intros<;>first|rfl|trivial|simp)
def N1:AL ((Int×(List (Int×Int×Bool))×Int)×Int):=(.cons (.agg (.cons (.k (.i .i64)) (.cons (.k (.list (.pair (.i .i64) (.pair (.i .i64) .bo)))) (.one (.k (.i .i64)))))) (.one (.k (.i .i64))))
def HS (d:(Int×(List (Int×Int×Bool))×Int)×Int):Prop:=1<=d.1.2.2/\d.1.2.2<=24/\0<=d.2/\d.2<d.1.2.1.length/\∀ c∈d.1.2.1,Zt d.1.2.2 c=true
def Vt (d:(Int×(List (Int×Int×Bool))×Int)×Int):SV:=.val (.i .i64) (BP d.1.2.2 (d.1.2.1.getD d.2.toNat Ya))
def Vx (d:(Int×(List (Int×Int×Bool))×Int)×Int):List OB:=[]
def Xu:CSp:=XD N1 HS Vt Vx
def Xa (hk:Int) (cs:List (Int×Int×Bool)) (f:Int) (at_:Int):Prop :=
 (0<=at_)/\(at_<(List.length cs))/\((gD cs at_ (0,(0,false))).2.2=true ->
  (1<=f/\f<=24/\0<=((gD cs at_ (0,(0,false))).2.1)/\((gD cs at_ (0,(0,false))).2.1)<2 ^ f.toNat)/\((Z73 f ((gD cs at_ (0,(0,false))).2.1))=(BP f (cs.getD at_.toNat Ya))/\(True))) /\
 ((gD cs at_ (0,(0,false))).2.2=false ->
  (0<=at_)/\(at_<(List.length cs))/\((gD cs at_ (0,(0,false))).2.1=(BP f (cs.getD at_.toNat Ya))/\(True)))
def UZ:Cx:=⟨[],[(59,Wh)],26,[],0,[],[],[],[],false,[],[],[],[]⟩
def PV (hk:Int) (cs:List (Int×Int×Bool)) (f:Int) (at_:Int):List (Nat×LoopAnn):=[]
theorem PQ (d:(Int×(List (Int×Int×Bool))×Int)×Int):gwp (UZ) (PV d.1.1 d.1.2.1 d.1.2.2 d.2) c35 0 (Wj [.tmp 4] (Vt d) (Vx d)) (Qp 26 (AL.can N1 d))=Xa d.1.1 d.1.2.1 d.1.2.2 d.2:=by kernel_rfl
abbrev P_:Prop:=OkC Tryz.prog 35 Xu
theorem PN (h:∀ (hk:Int) (cs:List (Int×Int×Bool)) (f:Int) (at_:Int),(1<=f/\f<=24/\0<=at_/\at_<cs.length/\∀ c∈cs,Zt f c=true)->Xa hk cs f at_):OkC Tryz.prog 35 Xu :=
 Qs J08 mixed (C:=UZ) (V:=λ(d:(Int×(List (Int×Int×Bool))×Int)×Int)=>Xa d.1.1 d.1.2.1 d.1.2.2 d.2) ⟨(.cons Hi .nil),XsOk.nil,ItsOk.nil,YlOk.nil,IysOk.nil,XfOk.nil⟩ (PQ) λd hp=>h d.1.1 d.1.2.1 d.1.2.2 d.2 hp
theorem UL:P_:=PN λhk cs f at_ h=>by
 obtain⟨h1,h2,h3,h4,h5⟩:=h;unfold Xa;(try delta lI gD sT I64 Q2 pj8 pj4);have hd:∀ j,cs.getD j (0,(0,false))=cs.getD j Ya:=λ_=>rfl;have hj:at_.toNat<cs.length:=by omega
 have hc:=Q6s (h5 _ (show cs.getD at_.toNat Ya∈cs by rw[Qg hj];exact zh hj));simp only[hd,and_true];refine⟨h3,by omega,λc=>⟨⟨h1,h2,hc.1,hc.2⟩,?_⟩,λc=>⟨h3,by omega,?_⟩⟩
 .unfold BP;rw[z2 c]
 .unfold BP;rw[z0 (by rw[c];decide)]
def Ul:AL ((Int×(List (Int×Int×Bool))×Int)×Int×Int):=(.cons (.agg (.cons (.k (.i .i64)) (.cons (.k (.list (.pair (.i .i64) (.pair (.i .i64) .bo)))) (.one (.k (.i .i64)))))) (.cons (.k (.i .i64)) (.one (.k (.i .i64)))))
def HX (d:(Int×(List (Int×Int×Bool))×Int)×Int×Int):Prop:=d.1.2.1≠[]/\d.1.2.1.length<=1000/\-1000000<=d.2.1/\d.2.1<=1000000/\-1000000<=d.2.2/\d.2.2<=1000000
def Vm (d:(Int×(List (Int×Int×Bool))×Int)×Int×Int):SV:=.val (.i .i64) (Int.tmod (d.2.1+d.2.2) d.1.2.1.length)
def Vv (d:(Int×(List (Int×Int×Bool))×Int)×Int×Int):List OB:=[]
def Jg:CSp:=XD Ul HX Vm Vv
def X3 (hk:Int) (cs:List (Int×Int×Bool)) (f:Int) (at_:Int) (st:Int):Prop :=
 (I64 (at_+st))/\((lI cs)≠0)/\((Int.tmod (at_+st) (lI cs))=(Int.tmod (at_+st) cs.length)/\(True))
def Ue:Cx:=⟨[],[],15,[],0,[],[],[],[],false,[],[],[],[]⟩
def T2 (hk:Int) (cs:List (Int×Int×Bool)) (f:Int) (at_:Int) (st:Int):List (Nat×LoopAnn):=[]
theorem Tg (d:(Int×(List (Int×Int×Bool))×Int)×Int×Int):gwp (Ue) (T2 d.1.1 d.1.2.1 d.1.2.2 d.2.1 d.2.2) c36 0 (Wj [.tmp 6] (Vm d) (Vv d)) (Qp 15 (AL.can Ul d))=X3 d.1.1 d.1.2.1 d.1.2.2 d.2.1 d.2.2:=by kernel_rfl
abbrev PW:Prop:=OkC Tryz.prog 36 Jg
theorem Tk (h:∀ (hk:Int) (cs:List (Int×Int×Bool)) (f:Int) (at_:Int) (st:Int),(cs≠[]/\cs.length<=1000/\-1000000<=at_/\at_<=1000000/\-1000000<=st/\st<=1000000)->X3 hk cs f at_ st):OkC Tryz.prog 36 Jg :=
 Qs J0q mixed (C:=Ue) (V:=λ(d:(Int×(List (Int×Int×Bool))×Int)×Int×Int)=>X3 d.1.1 d.1.2.1 d.1.2.2 d.2.1 d.2.2) ⟨.nil,XsOk.nil,ItsOk.nil,YlOk.nil,IysOk.nil,XfOk.nil⟩ (Tg) λd hp=>h d.1.1 d.1.2.1 d.1.2.2 d.2.1 d.2.2 hp
theorem WQ:PW:=Tk λhk cs f at_ st h=>by obtain⟨h1,h2,h3,h4,h5,h6⟩:=h;unfold X3;(try delta lI gD sT I64 Q2 pj8 pj4);have:=zt.2 h1;exact⟨by simp only[Q7];omega,by omega,rfl,trivial⟩
def Pv:AL ((Int×List (Int×Int×Bool))×Int×List Int):=(.cons (.agg (.cons (.k (.i .i64)) (.one (.k (.list (.pair (.i .i64) (.pair (.i .i64) .bo))))))) (.cons (.k (.i .i64)) (.one (.k (.list (.i .i64))))))
def Am (d:(Int×List (Int×Int×Bool))×Int×List Int):Prop:=d.1.2.length<=1000/\d.2.2.length<=1000
def Bm (d:(Int×List (Int×Int×Bool))×Int×List Int):SV:=.tup [.lst 0,.val (.i .i64) (Me d.1.1 d.1.2 d.2.1 d.2.2),.val (.i .i64) (Ja d.1.1 d.1.2 d.2.1 d.2.2)]
def BL (d:(Int×List (Int×Int×Bool))×Int×List Int):List OB:=[.lst 3 (.i .i64) (H9 d.1.1 d.1.2 d.2.1 d.2.2) ((H9 d.1.1 d.1.2 d.2.1 d.2.2).isEmpty)]
def VK:CSp:=XD Pv Am Bm BL
abbrev HD (hk:Int) (cs:List (Int×Int×Bool)) (a:Int) (st:List Int):=(((H9 hk cs a st)=[]/\(H9 hk cs a st).isEmpty=true)/\True)
abbrev VH (cs:List (Int×Int×Bool)) (a:Int):=(!(!([a].any λn=>decide (n<(0:Int))||decide (((lI cs)-(1:Int))<n))))
abbrev VF (st:List Int):=(!(!(st.any λn=>decide (n<(0:Int))||decide ((2:Int)<n))))
abbrev Hw (hk:Int) (cs:List (Int×Int×Bool)) (a:Int) (st:List Int):=((True/\(0:Int)=(Me hk cs a st)/\(5:Int)=(Ja hk cs a st)/\(([]:List SV)=[]))/\(HD hk cs a st))
abbrev Hq (hk:Int) (cs:List (Int×Int×Bool)) (a:Int) (st:List Int):=((True/\(0:Int)=(Me hk cs a st)/\(2:Int)=(Ja hk cs a st)/\(([]:List SV)=[]))/\(HD hk cs a st))
abbrev TS (hk:Int) (cs:List (Int×Int×Bool)) (a:Int) (st:List Int):=((True/\(0:Int)=(Me hk cs a st)/\(7:Int)=(Ja hk cs a st)/\(([]:List SV)=[]))/\(HD hk cs a st))
abbrev U1 (hk:Int) (cs:List (Int×Int×Bool)):=(hk=hk/\cs=cs/\hk=hk/\(([]:List SV)=[]))
abbrev U6 (st:List Int):=(decide ((lI st) > (60:Int)))
def KE (hk:Int) (cs:List (Int×Int×Bool)) (a:Int) (st:List Int):Prop :=
 ∀ w1:List Value,(True)/\((!(inI hk 1 24))=true ->
  w1=w1/\(((3:Int) != (0:Int))=true ->
   ((True/\(0:Int)=(Me hk cs a st)/\(3:Int)=(Ja hk cs a st)/\(([]:List SV)=[]))/\(HD hk cs a st))) /\
  (((3:Int) != (0:Int))=false ->
   (I64 ((lI cs)-(1:Int)))/\([a].length<=1000000)/\((VH cs a)=true ->
    (TS hk cs a st)) /\
   ((VH cs a)=false ->
    ((U6 st)=true ->
     (Hw hk cs a st)) /\
    ((U6 st)=false ->
     (st.length<=1000000)/\((VF st)=true ->
      (Hq hk cs a st)) /\
     ((VF st)=false ->
      ∃ (e5:Unit) (d50:(List Int)×Int×Int),((True/\a=d50.2.1/\True/\st=st/\(lI st)=(lI st)/\(0:Int)=d50.2.2/\True)/\((d50.1=[]/\(List.isEmpty d50.1)=true)/\(U1 hk cs)/\True)) /\
      LoopP (λ(d5:(List Int)×Int×Int) (q5:((List Int)×Int×Int)->Prop) =>
       ((decide (d5.2.2<(lI st)))=true ->
        (0<=d5.2.2)/\(d5.2.2<(List.length st))/\(1<=hk/\hk<=24/\0<=d5.2.1/\d5.2.1<cs.length/\∀ c∈cs,Zt hk c=true)/\(((List.length d5.1)+(List.length [(BP hk (cs.getD d5.2.1.toNat Ya))]))*8<=70368744177664)/\(cs≠[]/\cs.length<=1000/\-1000000<=d5.2.1/\d5.2.1<=1000000/\-1000000<=(gD st d5.2.2 0)/\(gD st d5.2.2 0)<=1000000)/\(I64 (d5.2.2+(1:Int)))/\(∃ d6:(List Int)×Int×Int,((True/\(Int.tmod (d5.2.1+(gD st d5.2.2 0)) cs.length)=d6.2.1/\True/\st=st/\(lI st)=(lI st)/\(d5.2.2+(1:Int))=d6.2.2/\True)/\(((d5.1++[(BP hk (cs.getD d5.2.1.toNat Ya))])=d6.1/\false=(List.isEmpty d6.1))/\(U1 hk cs)/\True))/\q5 d6)) /\
       ((decide (d5.2.2<(lI st)))=false ->
        ((True/\d5.2.1=(Me hk cs a st)/\(0:Int)=(Ja hk cs a st)/\(([]:List SV)=[]))/\((d5.1=(H9 hk cs a st)/\(List.isEmpty d5.1)=(H9 hk cs a st).isEmpty)/\True)))) d50))))) /\
 ((!(inI hk 1 24))=false ->
  ((decide ((lI cs) > (60:Int)))=true ->
   w1=w1/\(((5:Int) != (0:Int))=true ->
    (Hw hk cs a st)) /\
   (((5:Int) != (0:Int))=false ->
    (I64 ((lI cs)-(1:Int)))/\([a].length<=1000000)/\((VH cs a)=true ->
     (TS hk cs a st)) /\
    ((VH cs a)=false ->
     ((U6 st)=true ->
      (Hw hk cs a st)) /\
     ((U6 st)=false ->
      (st.length<=1000000)/\((VF st)=true ->
       (Hq hk cs a st)) /\
      ((VF st)=false ->
       ∃ (aB:Unit) (d100:(List Int)×Int×Int),((True/\a=d100.2.1/\True/\st=st/\(lI st)=(lI st)/\(0:Int)=d100.2.2/\True)/\((d100.1=[]/\(List.isEmpty d100.1)=true)/\(U1 hk cs)/\True)) /\
       LoopP (λ(d10:(List Int)×Int×Int) (iP:((List Int)×Int×Int)->Prop) =>
        ((decide (d10.2.2<(lI st)))=true ->
         (0<=d10.2.2)/\(d10.2.2<(List.length st))/\(1<=hk/\hk<=24/\0<=d10.2.1/\d10.2.1<cs.length/\∀ c∈cs,Zt hk c=true)/\(((List.length d10.1)+(List.length [(BP hk (cs.getD d10.2.1.toNat Ya))]))*8<=70368744177664)/\(cs≠[]/\cs.length<=1000/\-1000000<=d10.2.1/\d10.2.1<=1000000/\-1000000<=(gD st d10.2.2 0)/\(gD st d10.2.2 0)<=1000000)/\(I64 (d10.2.2+(1:Int)))/\(∃ d11:(List Int)×Int×Int,((True/\(Int.tmod (d10.2.1+(gD st d10.2.2 0)) cs.length)=d11.2.1/\True/\st=st/\(lI st)=(lI st)/\(d10.2.2+(1:Int))=d11.2.2/\True)/\(((d10.1++[(BP hk (cs.getD d10.2.1.toNat Ya))])=d11.1/\false=(List.isEmpty d11.1))/\(U1 hk cs)/\True))/\iP d11)) /\
        ((decide (d10.2.2<(lI st)))=false ->
         ((True/\d10.2.1=(Me hk cs a st)/\(0:Int)=(Ja hk cs a st)/\(([]:List SV)=[]))/\((d10.1=(H9 hk cs a st)/\(List.isEmpty d10.1)=(H9 hk cs a st).isEmpty)/\True)))) d100))))) /\
  ((decide ((lI cs) > (60:Int)))=false ->
   (1<=hk/\hk<=24/\cs.length<=1000000)/\((!(!cs.isEmpty&&!(cs.any λc=>!Zt hk c)))=true ->
    w1=w1/\(((2:Int) != (0:Int))=true ->
     (Hq hk cs a st)) /\
    (((2:Int) != (0:Int))=false ->
     (I64 ((lI cs)-(1:Int)))/\([a].length<=1000000)/\((VH cs a)=true ->
      (TS hk cs a st)) /\
     ((VH cs a)=false ->
      ((U6 st)=true ->
       (Hw hk cs a st)) /\
      ((U6 st)=false ->
       (st.length<=1000000)/\((VF st)=true ->
        (Hq hk cs a st)) /\
       ((VF st)=false ->
        ∃ (aD:Unit) (dU:(List Int)×Int×Int),((True/\a=dU.2.1/\True/\st=st/\(lI st)=(lI st)/\(0:Int)=dU.2.2/\True)/\((dU.1=[]/\(List.isEmpty dU.1)=true)/\(U1 hk cs)/\True)) /\
        LoopP (λ(d15:(List Int)×Int×Int) (qK:((List Int)×Int×Int)->Prop) =>
         ((decide (d15.2.2<(lI st)))=true ->
          (0<=d15.2.2)/\(d15.2.2<(List.length st))/\(1<=hk/\hk<=24/\0<=d15.2.1/\d15.2.1<cs.length/\∀ c∈cs,Zt hk c=true)/\(((List.length d15.1)+(List.length [(BP hk (cs.getD d15.2.1.toNat Ya))]))*8<=70368744177664)/\(cs≠[]/\cs.length<=1000/\-1000000<=d15.2.1/\d15.2.1<=1000000/\-1000000<=(gD st d15.2.2 0)/\(gD st d15.2.2 0)<=1000000)/\(I64 (d15.2.2+(1:Int)))/\(∃ d16:(List Int)×Int×Int,((True/\(Int.tmod (d15.2.1+(gD st d15.2.2 0)) cs.length)=d16.2.1/\True/\st=st/\(lI st)=(lI st)/\(d15.2.2+(1:Int))=d16.2.2/\True)/\(((d15.1++[(BP hk (cs.getD d15.2.1.toNat Ya))])=d16.1/\false=(List.isEmpty d16.1))/\(U1 hk cs)/\True))/\qK d16)) /\
         ((decide (d15.2.2<(lI st)))=false ->
          ((True/\d15.2.1=(Me hk cs a st)/\(0:Int)=(Ja hk cs a st)/\(([]:List SV)=[]))/\((d15.1=(H9 hk cs a st)/\(List.isEmpty d15.1)=(H9 hk cs a st).isEmpty)/\True)))) dU))))) /\
   ((!(!cs.isEmpty&&!(cs.any λc=>!Zt hk c)))=false ->
    w1=w1/\(((0:Int) != (0:Int))=true ->
     ((True/\(0:Int)=(Me hk cs a st)/\(0:Int)=(Ja hk cs a st)/\(([]:List SV)=[]))/\(HD hk cs a st))) /\
    (((0:Int) != (0:Int))=false ->
     (I64 ((lI cs)-(1:Int)))/\([a].length<=1000000)/\((VH cs a)=true ->
      (TS hk cs a st)) /\
     ((VH cs a)=false ->
      ((U6 st)=true ->
       (Hw hk cs a st)) /\
      ((U6 st)=false ->
       (st.length<=1000000)/\((VF st)=true ->
        (Hq hk cs a st)) /\
       ((VF st)=false ->
        ∃ (so:Unit) (iD:(List Int)×Int×Int),((True/\a=iD.2.1/\True/\st=st/\(lI st)=(lI st)/\(0:Int)=iD.2.2/\True)/\((iD.1=[]/\(List.isEmpty iD.1)=true)/\(U1 hk cs)/\True)) /\
        LoopP (λ(d20:(List Int)×Int×Int) (uO:((List Int)×Int×Int)->Prop) =>
         ((decide (d20.2.2<(lI st)))=true ->
          (0<=d20.2.2)/\(d20.2.2<(List.length st))/\(1<=hk/\hk<=24/\0<=d20.2.1/\d20.2.1<cs.length/\∀ c∈cs,Zt hk c=true)/\(((List.length d20.1)+(List.length [(BP hk (cs.getD d20.2.1.toNat Ya))]))*8<=70368744177664)/\(cs≠[]/\cs.length<=1000/\-1000000<=d20.2.1/\d20.2.1<=1000000/\-1000000<=(gD st d20.2.2 0)/\(gD st d20.2.2 0)<=1000000)/\(I64 (d20.2.2+(1:Int)))/\(∃ d21:(List Int)×Int×Int,((True/\(Int.tmod (d20.2.1+(gD st d20.2.2 0)) cs.length)=d21.2.1/\True/\st=st/\(lI st)=(lI st)/\(d20.2.2+(1:Int))=d21.2.2/\True)/\(((d20.1++[(BP hk (cs.getD d20.2.1.toNat Ya))])=d21.1/\false=(List.isEmpty d21.1))/\(U1 hk cs)/\True))/\uO d21)) /\
         ((decide (d20.2.2<(lI st)))=false ->
          ((True/\d20.2.1=(Me hk cs a st)/\(0:Int)=(Ja hk cs a st)/\(([]:List SV)=[]))/\((d20.1=(H9 hk cs a st)/\(List.isEmpty d20.1)=(H9 hk cs a st).isEmpty)/\True)))) iD)))))))
def Pc:Cx:=⟨[(3,(.i .i64))],[(26,QD),(34,Jo),(35,Xu),(36,Jg),(57,QL)],58,[],0,[(33,KX)],[],[],[],false,[],[],[],[]⟩
def Fm (hk:Int) (cs:List (Int×Int×Bool)) (a:Int) (st:List Int):List (Nat×LoopAnn):=[(1,⟨Unit,(List Int)×Int×Int,[6,7,9,39,40,41],λe x=>[.lst 50,.val (.i .i64) x.2.1,.box 9 0,.val (.list (.i .i64)) st,.val (.i .i64) (((List.length st):Nat):Int),.val (.i .i64) x.2.2],λe x=>[(50,.slot 6,.lst 3 (.i .i64) x.1 (List.isEmpty x.1)),(9,.slot 9,.cells [.val (.i .i64) hk,.val (.list (.pair (.i .i64) (.pair (.i .i64) .bo))) cs,.val (.i .i64) hk] (some 77))]⟩)]
theorem EK (d:(Int×List (Int×Int×Bool))×Int×List Int):gwp (Pc) (Fm d.1.1 d.1.2 d.2.1 d.2.2) c13 0 (Wj [.tmp 6,.tmp 7,.tmp 8] (Bm d) (BL d)) (Qp 58 (AL.can Pv d))=KE d.1.1 d.1.2 d.2.1 d.2.2:=by kernel_rfl
abbrev FC:Prop:=OkC Tryz.prog 13 VK
theorem EV (h:∀ (hk:Int) (cs:List (Int×Int×Bool)) (a:Int) (st:List Int),(cs.length<=1000/\st.length<=1000)->KE hk cs a st):OkC Tryz.prog 13 VK :=
 Qs J0d mixed (C:=Pc) (V:=λ(d:(Int×List (Int×Int×Bool))×Int×List Int)=>KE d.1.1 d.1.2 d.2.1 d.2.2) ⟨(.cons Z0 (.cons XV (.cons UL (.cons WQ (.cons Zl .nil))))),(XsOk.cons KH XsOk.nil),ItsOk.nil,YlOk.nil,IysOk.nil,XfOk.nil⟩ (EK) λd hp=>h d.1.1 d.1.2 d.2.1 d.2.2 hp
end Go.Proofs.Tryz