
import Derived.ProofKit
import Derived.OpenShut
import Derived.LaidMore
import Derived.Carry
import Derived.Lib.SmallJoins
import Derived.Deep.Slices
import Derived.Test.YtmcfcleofjngmaaGreatDoorM5
noncomputable section
set_option linter.unusedVariables false
set_option maxRecDepth 100000
namespace Go.Proofs.Tryz
open Go Go.V Go.Proofs
def Q01 (hk:Int) (cs:List YB) (cl:List Int) (fa:Int):Int:=((Xj cs.length fa.toNat).map (wyK cs.length fa.toNat (λk=>wvB hk cs cl k) cl.length)).sum
theorem Z0i (n mo:Nat):(Xj n mo).length=n*(mo+1):=by
 unfold Xj;rw[List.length_flatMap];have:(λ(a:Nat)=>((List.range (mo+1)).map λ(f:Nat)=>(((a:Int),(f:Int)):Int×Int)).length)=λ_=>mo+1:=by funext a;simp
 rw[this];induction n with
 |zero=>simp
 |succ n ih=>rw[List.range_succ,xS,List.sum_append,ih];simp[Nat.succ_mul]
theorem Q5v {α:Type}{f:α->Int}{B:Int}:∀ {l:List α},(∀ x∈l,f x<=B)->(l.map f).sum<=l.length*B
 |[],_=>by simp
 |x::l,h=>by
  have h1:=h x (zn ..);have h2:=Q5v (l:=l) λy hy=>h y (zB _ hy);rw[zO,xV,zV];have:((l.length+1:Nat):Int)*B=l.length*B+B:=by rw[ye,Int.add_mul];simp
  omega
theorem Z94 {n mo:Nat}(wv:Nat->Int->Bool) (hn:0<n) (fP:n<=60) (gP:mo<=6) {k:Nat}(hk:k<=60):((Xj n mo).map (wyK n mo wv k)).sum<=420*3138428376721:=by
 have h1:=Q5v (l:=Xj n mo) (f:=wyK n mo wv k) (B:=3138428376721) λq hq=>by have hg:=Kh.1 hq;have h1:=Q2p (n:=n) (mo:=mo) wv hn k q hg.2.1;have h2:=J34 (b:=2*k+1) (e:=q.2.toNat) (by omega) (by omega);omega
 rw[Z0i] at h1;have:n*(mo+1)<=60*7:=Nat.mul_le_mul fP (by omega);omega
def Dl:AL ((Int×List (Int×Int×Bool))×List Int×Int):=(.cons (.agg (.cons (.k (.i .i64)) (.one (.k (.list (.pair (.i .i64) (.pair (.i .i64) .bo))))))) (.cons (.k (.list (.i .i64))) (.one (.k (.i .i64)))))
def LF (a:(Int×List (Int×Int×Bool))×List Int×Int):Prop:=QJ a.1.1 a.1.2=0/\a.2.1.length<=60/\(∀ r∈a.2.1,-1<=r/\r<2 ^ a.1.1.toNat)/\0<=a.2.2/\a.2.2<=6
def GL (a:(Int×List (Int×Int×Bool))×List Int×Int):List SV:=[.val (.i .i64) (0:Int)]
def ME (a:(Int×List (Int×Int×Bool))×List Int×Int) (m:List ((Int×Int)×Int)):Prop:=MapW a.1.2.length a.2.2.toNat m (wyK a.1.2.length a.2.2.toNat (λk=>wvB a.1.1 a.1.2 a.2.1 k) a.2.1.length)
def Me:XSp:=Z1h EF (.pair (.i .i64) (.i .i64)) (.i .i64) (Z5f Dl LF GL ME)
def Kl (hk:Int) (cs:List (Int×Int×Bool)) (cl:List Int) (fa:Int):Prop :=
 ∀ w1:List Value,∀ w2:List Value,(True)/\((!(inI hk 1 24))=true ->
  w2=w2/\w1=w1/\False) /\
 ((!(inI hk 1 24))=false ->
  ((decide ((lI cs) > (60:Int)))=true ->
   w2=w2/\w1=w1/\False) /\
  ((decide ((lI cs) > (60:Int)))=false ->
   (1<=hk/\hk<=24/\cs.length<=1000000)/\((!(!cs.isEmpty&&!(cs.any λc=>!Zv hk c)))=true ->
    w2=w2/\w1=w1/\False) /\
   ((!(!cs.isEmpty&&!(cs.any λc=>!Zv hk c)))=false ->
    w2=w2/\((decide ((lI cl) > (60:Int)))=true ->
     w1=w1/\False) /\
    ((decide ((lI cl) > (60:Int)))=false ->
     (cl.length<=1000000/\∀ x∈cl,(λ(x1:Int)=>1<=hk/\hk<=24) x)/\((cl.any (λ(x1:Int)=>(decide (x1≠-1)&&!inI x1 0 (2 ^ hk.toNat-1))))=true ->
      w1=w1/\False) /\
     ((cl.any (λ(x1:Int)=>(decide (x1≠-1)&&!inI x1 0 (2 ^ hk.toNat-1))))=false ->
      w1=w1/\([fa].length<=1000000)/\((!(!([fa].any λn=>decide (n<(0:Int))||decide ((6:Int)<n))))=true ->
       False) /\
      ((!(!([fa].any λn=>decide (n<(0:Int))||decide ((6:Int)<n))))=false ->
       (hk=hk/\QJ hk cs=0/\cl.length<=60/\(∀ r∈cl,-1<=r/\r<2 ^ hk.toNat)/\0<=fa/\fa<=6)/\(∀ m3:List ((Int×Int)×Int),(MapW cs.length fa.toNat m3 (wyK cs.length fa.toNat (λk=>wvB hk cs cl k) cl.length))->(((0:Int)=(0:Int)/\nS)/\(MapW cs.length fa.toNat m3 (wyK cs.length fa.toNat (λk=>wvB hk cs cl k) cl.length))))))))))
def JA:Cx:=⟨[],[(55,QA),(106,QK),(89,QH),(163,XP)],33,[3000017],0,[(64,KD)],[],[],[],false,[],[],[17],[]⟩
def JB:List (Nat×LoopAnn):=[]
def Bx:Cx:=⟨[(3,(.i .i64))],[(65,Jq)],28,[3000016],0,[(139,Q5i JA (λ_=>JB) J0d [.cell 4 true 4,.tmp 5] 33),(140,XO)],[],[],[],false,[],[],[16],[]⟩
def Bo (hk:Int) (cs:List (Int×Int×Bool)) (cl:List Int) (fa:Int):List (Nat×LoopAnn):=[]
theorem CG (a:(Int×List (Int×Int×Bool))×List Int×Int):gwp Bx (Bo a.1.1 a.1.2 a.2.1 a.2.2) J10 0 (Z56 [.tmp 6,.tmp 7] (.pair (.i .i64) (.i .i64)) (.i .i64) (GL a) (ME a)) (KQ 28 (AL.can Dl a))=Kl a.1.1 a.1.2 a.2.1 a.2.2:=by kernel_rfl
abbrev Ak:Prop:=XOk Tryz.prog 110 Me
theorem AW (h:∀ (hk:Int) (cs:List (Int×Int×Bool)) (cl:List Int) (fa:Int),(QJ hk cs=0/\cl.length<=60/\(∀ r∈cl,-1<=r/\r<2 ^ hk.toNat)/\0<=fa/\fa<=6)->Kl hk cs cl fa):XOk Tryz.prog 110 Me :=
 Z06 Z1n mixed Du rfl (C:=Bx) ⟨(.cons XQ .nil),(XsOk.cons (U4 Z2x mixed (C:=JA) ⟨(.cons QY (.cons Zk (.cons ZB (.cons MT .nil)))),(XsOk.cons Kf XsOk.nil),ItsOk.nil,YlOk.nil,IysOk.nil,XfOk.nil⟩ (λ_=>JB)) (XsOk.cons Mi XsOk.nil)),ItsOk.nil,YlOk.nil,IysOk.nil,XfOk.nil⟩ (L:=λ(a:(Int×List (Int×Int×Bool))×List Int×Int)=>Bo a.1.1 a.1.2 a.2.1 a.2.2) (V:=λ(a:(Int×List (Int×Int×Bool))×List Int×Int)=>Kl a.1.1 a.1.2 a.2.1 a.2.2) CG λa hp=>h a.1.1 a.1.2 a.2.1 a.2.2 hp
theorem LQ:Ak:=AW λhk cs cl fa h=>by
 obtain⟨h1,h2,h3,h4,h5⟩:=h;obtain⟨hf,cu,aG,ak⟩:=LV h1;unfold Kl;(try delta lI gD sT I64 Z6 rg rb zD nS);have c1:(!inI hk 1 24)=false:=by simp only[inI,xM,z0,zh];omega
 have c2:(!(!cs.isEmpty&&!(cs.any λc=>!Zv hk c)))=false:=by simp_all
 have c3:(cl.any λx=>(decide (x≠-1)&&!inI x 0 (2 ^ hk.toNat-1)))=false:=xU.2 λx hx=>by
  have:=h3 x hx;by_cases e:x=-1
  .simp[e]
  .have e2:inI x 0 (2 ^ hk.toNat-1)=true:=by
    simp only[inI,z0,zh];omega
   rw[e2];simp
 have c4:(!(!([fa].any λn=>decide (n<(0:Int))||decide ((6:Int)<n))))=false:=by simp_all
 have d1:decide (((cs.length:Nat):Int) > (60:Int))=false:=xl (by omega);have d2:decide (((cl.length:Nat):Int) > (60:Int))=false:=xl (by omega);intro w1 w2
 grind
def Pw:AL ((Int×List (Int×Int×Bool))×List Int×Int):=(.cons (.agg (.cons (.k (.i .i64)) (.one (.k (.list (.pair (.i .i64) (.pair (.i .i64) .bo))))))) (.cons (.k (.list (.i .i64))) (.one (.k (.i .i64)))))
def CS (d:(Int×List (Int×Int×Bool))×List Int×Int):Prop:=QJ d.1.1 d.1.2=0/\d.2.1.length<=60/\(∀ r∈d.2.1,-1<=r/\r<2 ^ d.1.1.toNat)/\0<=d.2.2/\d.2.2<=6
def H2 (d:(Int×List (Int×Int×Bool))×List Int×Int):SV:=.tup [.val (.i .i64) (Q01 d.1.1 d.1.2 d.2.1 d.2.2),.val (.i .i64) (0:Int)]
def H4 (d:(Int×List (Int×Int×Bool))×List Int×Int):List OB:=[]
def GD:CSp:=Wt Pw CS H2 H4
def V1 (hk:Int) (cs:List (Int×Int×Bool)) (cl:List Int) (fa:Int):Prop :=
 (QJ hk cs=0/\cl.length<=60/\(∀ r∈cl,-1<=r/\r<2 ^ hk.toNat)/\0<=fa/\fa<=6)/\(∀ m1:List ((Int×Int)×Int),(MapW cs.length fa.toNat m1 (wyK cs.length fa.toNat (λk=>wvB hk cs cl k) cl.length))->∃ (e4:(List ((Int×Int)×Int))) (d40:Int×(List Nat)),(((0:Int)=d40.1/\(0:Int)=(0:Int)/\True/\True)/\((m1=e4/\([]:List Nat)=d40.2)/\True)) /\
 LoopP (λ(d4:Int×(List Nat)) (q4:(Int×(List Nat))->Prop) =>
  ((∀ r:Nat,r<e4.length->r∈d4.2) ->
   (false=true ->
    (d4.2≠[])/\(I64 (d4.1+(List.getD e4 (List.getLastD d4.2 0) ((0,0),0)).2))/\(∃ d6:Int×(List Nat),(((d4.1+(List.getD e4 (List.getLastD d4.2 0) ((0,0),0)).2)=d6.1/\(0:Int)=(0:Int)/\True/\True)/\((e4=e4/\d4.2=d6.2)/\True))/\q4 d6)) /\
   (false=false ->
    ((d4.1=(Q01 hk cs cl fa)/\(0:Int)=(0:Int)/\nS)/\(True)))) /\
  (∀ r5:Nat,r5<e4.length->r5∉d4.2 ->
   (true=true ->
    ((d4.2++[r5])≠[])/\(I64 (d4.1+(List.getD e4 (List.getLastD (d4.2++[r5]) 0) ((0,0),0)).2))/\(∃ d7:Int×(List Nat),(((d4.1+(List.getD e4 (List.getLastD (d4.2++[r5]) 0) ((0,0),0)).2)=d7.1/\(0:Int)=(0:Int)/\True/\True)/\((e4=e4/\(d4.2++[r5])=d7.2)/\True))/\q4 d7)) /\
   (true=false ->
    ((d4.1=(Q01 hk cs cl fa)/\(0:Int)=(0:Int)/\nS)/\(True))))) d40)
def Pv:Cx:=⟨[],[],29,[],0,[(110,Me)],[],[],[],false,[],[],[],[]⟩
def FV (hk:Int) (cs:List (Int×Int×Bool)) (cl:List Int) (fa:Int):List (Nat×LoopAnn):=[(0,⟨(List ((Int×Int)×Int)),Int×(List Nat),[6,7,19],λe x=>[.val (.i .i64) x.1,.val (.i .i64) (0:Int),.box 19 0],λe x=>[(19,.slot 19,.iter (.pair (.i .i64) (.i .i64)) (.i .i64) e x.2)]⟩)]
theorem F7 (d:(Int×List (Int×Int×Bool))×List Int×Int):gwp (Pv) (FV d.1.1 d.1.2 d.2.1 d.2.2) c71 0 (WB [.tmp 6,.tmp 7] (H2 d) (H4 d)) (Qn 29 (AL.can Pw d))=V1 d.1.1 d.1.2 d.2.1 d.2.2:=by kernel_rfl
abbrev FA:Prop:=OkC Tryz.prog 71 GD
theorem Ft (h:∀ (hk:Int) (cs:List (Int×Int×Bool)) (cl:List Int) (fa:Int),(QJ hk cs=0/\cl.length<=60/\(∀ r∈cl,-1<=r/\r<2 ^ hk.toNat)/\0<=fa/\fa<=6)->V1 hk cs cl fa):OkC Tryz.prog 71 GD :=
 Qr Z7w mixed (C:=Pv) (V:=λ(d:(Int×List (Int×Int×Bool))×List Int×Int)=>V1 d.1.1 d.1.2 d.2.1 d.2.2) ⟨.nil,(XsOk.cons LQ XsOk.nil),ItsOk.nil,YlOk.nil,IysOk.nil,XfOk.nil⟩ (F7) λd hp=>h d.1.1 d.1.2 d.2.1 d.2.2 hp
theorem Ie:FA:=Ft λhk cs cl fa h=>by
 obtain⟨h1,h2,h3,h4,h5⟩:=id h;obtain⟨hf,cu,aG,ak⟩:=LV h1;have bh:=zW.2 aG;unfold V1;(try delta lI gD sT I64 Z6 rg rb zD nS);refine⟨h,λm hm=>⟨m,(0,[]),(by and_intros<;>first|rfl|trivial),?_⟩⟩;refine LoopP.rng m.length (λs dn=>s=(dn.map λr=>(m.getD r ((0,0),0)).2).sum) rfl ?_;intro s dn hn aj hs q hq;dsimp only;have hp:∀ x∈m,0<=(λx:(Int×Int)×Int=>x.2) x:=λx hx=>Int.le_of_lt (hm.2.1 x hx).2.1;have rn:=L8 hm (λ_ w=>w) λ_=>rfl;have hb:=Z94 (n:=cs.length) (mo:=fa.toNat) (λk=>wvB hk cs cl k) bh (by omega) (by omega) (k:=cl.length) (by omega);have hV:(m.map λx=>x.2).sum=Q01 hk cs cl fa:=rn;have wM:Q01 hk cs cl fa<=420*3138428376721:=hb;have dV:=λ(dn:List Nat) (hn:dn.Nodup) (aj:∀ r∈dn,r<m.length)=>Q2m (d:=(((0,0),0):(Int×Int)×Int)) (F:=λx=>x.2) hn aj hp;refine⟨λhall=>⟨(λc=>by cases c),λ_=>⟨⟨?_,rfl,rfl⟩,trivial⟩⟩,λr hr jJ=>⟨λ_=>?_,(λc=>by cases c)⟩⟩
 .simp_all
 .have iT:List.getLastD (dn++[r]) 0=r:=by simp
  have a_:s+(m.getD r ((0,0),0)).2=((dn++[r]).map λr=>(m.getD r ((0,0),0)).2).sum:=by rw[hs,F6];simp
  simp only[iT];have aP:=λy (hy:y∈dn++[r])=>show y<m.length from (xd.1 hy).elim (aj y) λh=>by rw[zK] at h;omega
  have hle:=(dV (dn++[r]) (E5 hn jJ) aP).1;have bI:0<=((dn++[r]).map λr=>(m.getD r ((0,0),0)).2).sum:=Nd (by grind)
  grind [Qc]
theorem J59 {a b:Nat}(ha:a<2 ^ 62) (hb:b<2 ^ 62):Qb .xor .i64 (a:Int) (b:Int)=((a ^^^ b:Nat):Int):=by
 have e:(BitVec.ofInt 64 ((a:Nat):Int) ^^^ BitVec.ofInt 64 ((b:Nat):Int)).toNat=a ^^^ b:=by
  grind
 have aj:a ^^^ b<2 ^ 62:=Nat.xor_lt_two_pow ha hb;show IntKind.wrap .i64 ((BitVec.ofInt 64 ((a:Nat):Int) ^^^ BitVec.ofInt 64 ((b:Nat):Int)).toNat:Int)=_;rw[e];generalize a ^^^ b=c at *
 simp[IntKind.wrap,IntKind.bits,IntKind.signed];omega
theorem J32 {a b:Nat}(ha:a<2 ^ 62) (hb:b<2 ^ 62):Qb .or .i64 (a:Int) (b:Int)=((a ||| b:Nat):Int):=by
 have e:(BitVec.ofInt 64 ((a:Nat):Int) ||| BitVec.ofInt 64 ((b:Nat):Int)).toNat=a ||| b:=by
  grind
 have aj:a ||| b<2 ^ 62:=Nat.or_lt_two_pow ha hb
 show IntKind.wrap .i64 ((BitVec.ofInt 64 ((a:Nat):Int) ||| BitVec.ofInt 64 ((b:Nat):Int)).toNat:Int)=_;rw[e];generalize a ||| b=c at *
 simp[IntKind.wrap,IntKind.bits,IntKind.signed];omega
theorem J4w {a b:Nat}(ha:a<2 ^ 62) (hb:b<2 ^ 62):Qb .and .i64 (a:Int) (b:Int)=((a &&& b:Nat):Int):=by
 have e:(BitVec.ofInt 64 ((a:Nat):Int) &&& BitVec.ofInt 64 ((b:Nat):Int)).toNat=a &&& b:=by
  grind
 have aj:a &&& b<=a:=Nat.and_le_left;show IntKind.wrap .i64 ((BitVec.ofInt 64 ((a:Nat):Int) &&& BitVec.ofInt 64 ((b:Nat):Int)).toNat:Int)=_;rw[e];generalize a &&& b=c at *
 simp[IntKind.wrap,IntKind.bits,IntKind.signed];omega
theorem J54 {a:Nat}{h:Int}(h0:0<=h) (h1:h<=62):YA .i64 (a:Int) h=((a*2 ^ h.toNat:Nat):Int):=by unfold YA;rw[show Nat.min h.toNat (IntKind.bits .i64)=h.toNat from xJ (show h.toNat<=64 by omega)];push_cast;rfl
theorem Z76 {h:Int}(h0:0<=h) (h1:h<=62):YA .i64 1 h=((2 ^ h.toNat:Nat):Int):=by have:=J54 (a:=1) h0 h1;rw[xr] at this;exact this
theorem Z84 {h:Nat}(h1:h<=24):2 ^ h<=2 ^ 24:=Nat.pow_le_pow_right (by omega) h1
theorem Z3m {h:Int}(h0:0<=h) (h1:h<24):InK .i64 (YA .i64 1 h):=by
 have:=Z84 (h:=h.toNat) (by omega)
 grind [Z76,Qc]
theorem Pg (n:Nat):(2:Int) ^ n=((2 ^ n:Nat):Int):=by push_cast;rfl
def pcN (n x:Nat):Nat:=((List.range n).filter λk=>x.testBit k).length
def swA (x:Nat):Nat:=((x >>> 1) &&& 6148914691236517205)+(x &&& 6148914691236517205)
def swB (x:Nat):Nat:=((x >>> 2) &&& 3689348814741910323)+(x &&& 3689348814741910323)
def swC (x:Nat):Nat:=((x >>> 4)+x) &&& 1085102592571150095
def swD (x:Nat):Nat:=x+(x >>> 8)
def swE (x:Nat):Nat:=x+(x >>> 16)
def swF (x:Nat):Nat:=x+(x >>> 32)
def swN (x:Nat):Nat:=swF (swE (swD (swC (swB (swA x))))) &&& 127
theorem Jp {h l M m k:Nat}(hl:l<2 ^ 8) (hk:k<=8) (hm:m<2 ^ (8-k)):((2 ^ 8*h+l) >>> k) &&& (2 ^ 8*M+m)=2 ^ 8*((h >>> k) &&& M)+((l >>> k) &&& m):=by
 have sO:m<2 ^ 8:=zH hm (Nat.pow_le_pow_right (by omega) (by omega));refine Nat.eq_of_testBit_eq λj=>?_;have py:(l >>> k) &&& m<2 ^ 8:=xh Nat.and_le_right sO;rw[Nat.testBit_and,Nat.testBit_shiftRight,Nat.testBit_two_pow_mul_add _ hl,Nat.testBit_two_pow_mul_add _ sO,Nat.testBit_two_pow_mul_add _ py];by_cases h1:j<8
 .rw[z6 h1,z6 h1,Nat.testBit_and,Nat.testBit_shiftRight];by_cases h2:k+j<8
  .rw[z6 h2]
  .have:m.testBit j=false:=Nat.testBit_lt_two_pow (zH hm (Nat.pow_le_pow_right (by omega) (by omega)));simp_all
 grind
theorem Q7j {h l:Nat}(hl:l<2 ^ 8):swA (2 ^ 8*h+l)=2 ^ 8*(((h >>> 1) &&& 24019198012642645)+(h &&& 24019198012642645))+(((l >>> 1) &&& 85)+(l &&& 85)):=by
 have h1:=Jp (h:=h) (M:=24019198012642645) (m:=85) (k:=1) hl (by omega) (by decide);have h2:=Jp (h:=h) (M:=24019198012642645) (m:=85) (k:=0) hl (by omega) (by decide);rw[Nat.shiftRight_zero,Nat.shiftRight_zero,Nat.shiftRight_zero] at h2;have e:(6148914691236517205:Nat)=2 ^ 8*24019198012642645+85:=by decide
 unfold swA;rw[e,h1,h2,Nat.mul_add];omega
theorem Q8q {h l:Nat}(hl:l<2 ^ 8):swB (2 ^ 8*h+l)=2 ^ 8*(((h >>> 2) &&& 14411518807585587)+(h &&& 14411518807585587))+(((l >>> 2) &&& 51)+(l &&& 51)):=by
 have h1:=Jp (h:=h) (M:=14411518807585587) (m:=51) (k:=2) hl (by omega) (by decide);have h2:=Jp (h:=h) (M:=14411518807585587) (m:=51) (k:=0) hl (by omega) (by decide);rw[Nat.shiftRight_zero,Nat.shiftRight_zero,Nat.shiftRight_zero] at h2;have e:(3689348814741910323:Nat)=2 ^ 8*14411518807585587+51:=by decide
 unfold swB;rw[e,h1,h2,Nat.mul_add];omega
theorem Z3t:∀ b:Fin 256,∃ p q:Fin 5,swB (swA b.val)=16*q.val+p.val/\q.val+p.val=pcN 8 b.val:=by decide +kernel
theorem S1 (n x:Nat):pcN (n+1) x=pcN n x+(if x.testBit n then 1 else 0):=by
 unfold pcN
 grind [List.range_succ,List.length_append]
theorem Z3c {h l:Nat}(hl:l<2 ^ 8):∀ n,n<=8->pcN n (2 ^ 8*h+l)=pcN n l
 |0,_=>rfl
 |n+1,hn=>by rw[S1 n (2 ^ 8*h+l),S1 n l,Z3c hl n (by omega),Nat.testBit_two_pow_mul_add _ hl,z6 (show n<8 by omega)]
theorem C5 {h l:Nat}(hl:l<2 ^ 8):∀ n,pcN (n+8) (2 ^ 8*h+l)=pcN n h+pcN 8 l
 |0=>by rw[zU,Z3c hl 8 (z9 _)];simp[pcN]
 |n+1=>by rw[show n+1+8=(n+8)+1 by omega,S1 (n+8),C5 hl n,S1 n h,Nat.testBit_two_pow_mul_add _ hl,z7 (show ¬ n+8<8 by omega),Nat.add_sub_cancel];omega
theorem Z29 (n x:Nat):pcN n x<=n:=by have:=List.length_filter_le (λk=>x.testBit k) (List.range n);unfold pcN;simpa using this
theorem nib {a b c d e f:Nat}(ha:a<16) (hb:b<16) (hc:c<16) (hd:d<16) (he:e<16) (hf:f<16):(a+16*b+256*c+4096*d+65536*e+1048576*f) &&& 1085102592571150095=a+256*c+65536*e:=by
 have key:∀ {m:Nat}(h l M:Nat),l<2 ^ 4->m<2 ^ 4->(2 ^ 4*h+l) &&& (2 ^ 4*M+m)=2 ^ 4*(h &&& M)+(l &&& m):=λ{m} h l M hl hm=>by
  refine Nat.eq_of_testBit_eq λj=>?_;have py:l &&& m<2 ^ 4:=xh Nat.and_le_right hm;rw[Nat.testBit_and,Nat.testBit_two_pow_mul_add _ hl,Nat.testBit_two_pow_mul_add _ hm,Nat.testBit_two_pow_mul_add _ py]
  grind
 have k0:=key (m:=15) (b+16*c+256*d+4096*e+65536*f) a 67818912035696880 (by omega) (by decide);have k1:=key (m:=0) (c+16*d+256*e+4096*f) b 4238682002231055 (by omega) (by decide);have k2:=key (m:=15) (d+16*e+256*f) c 264917625139440 (by omega) (by decide);have k3:=key (m:=0) (e+16*f) d 16557351571215 (by omega) (by decide);have k4:=key (m:=15) f e 1034834473200 (by omega) (by decide);have k5:=key (m:=0) 0 f 64677154575 (by omega) (by decide);have an:∀ x:Nat,x<16->x &&& 15=x:=λx hx=>by rw[show (15:Nat)=2 ^ 4-1 by decide,Nat.and_two_pow_sub_one_eq_mod];omega
 grind
theorem FE {x M m:Nat}(hx:x<256) (h:M % 256=m):x &&& M=x &&& m:=by
 refine Nat.eq_of_testBit_eq λj=>?_;rw[Nat.testBit_and,Nat.testBit_and,<-h,show 256=2 ^ 8 by decide,Nat.testBit_mod_two_pow];by_cases h1:j<8
 .simp[h1]
 .have:x.testBit j=false:=Nat.testBit_lt_two_pow (zH hx (by rw[show 256=2 ^ 8 by decide];exact Nat.pow_le_pow_right (by omega) (by omega)));simp[this]
theorem Z1k {b:Nat}(h:b<256):swA b=((b >>> 1) &&& 85)+(b &&& 85):=by
 unfold swA
 grind [FE,Nat.shiftRight_eq_div_pow]
theorem Z6r {b:Nat}(h:b<256):swB b=((b >>> 2) &&& 51)+(b &&& 51):=by
 unfold swB
 grind [FE,Nat.shiftRight_eq_div_pow]
theorem Q7d {b0 b1 b2:Nat}(h0:b0<256) (h1:b1<256) (h2:b2<256):swB (2 ^ 8*(2 ^ 8*b2+b1)+b0)=2 ^ 8*(2 ^ 8*swB b2+swB b1)+swB b0:=by
 have a0:=Q8q (h:=2 ^ 8*b2+b1) (l:=b0) (by omega);have a1:=Jp (h:=b2) (l:=b1) (M:=56294995342131) (m:=51) (k:=2) (by omega) (by omega) (by decide);have a2:=Jp (h:=b2) (l:=b1) (M:=56294995342131) (m:=51) (k:=0) (by omega) (by omega) (by decide)
 grind [Z6r,FE,Nat.shiftRight_eq_div_pow]
theorem Z8s {b:Nat}(h:b<256):swA b<256:=by
 grind [Z1k,Nat.and_le_right]
theorem Z7x {x:Nat}(h:x<16777216):swN x=pcN 24 x:=by
 obtain⟨b0,b1,b2,h0,h1,h2,rfl⟩:∃ b0 b1 b2,b0<256/\b1<256/\b2<256/\x=2 ^ 8*(2 ^ 8*b2+b1)+b0:=⟨x % 256,x / 256 % 256,x / 65536,by omega,by omega,by omega,by omega⟩;obtain⟨p0,q0,e0,s0⟩:=Z3t ⟨b0,h0⟩;obtain⟨p1,q1,e1,s1⟩:=Z3t ⟨b1,h1⟩;obtain⟨p2,q2,e2,s2⟩:=Z3t ⟨b2,h2⟩;dsimp only at e0 e1 e2 s0 s1 s2;have hp:pcN 24 (2 ^ 8*(2 ^ 8*b2+b1)+b0)=pcN 8 b2+pcN 8 b1+pcN 8 b0:=by rw[show 24=(8+8)+8 by omega,C5 (by omega),C5 (by omega)]
 have hA:swA (2 ^ 8*(2 ^ 8*b2+b1)+b0)=2 ^ 8*(2 ^ 8*swA b2+swA b1)+swA b0:=by
  have a0:=Q7j (h:=2 ^ 8*b2+b1) (l:=b0) (by omega);have a1:=Jp (h:=b2) (l:=b1) (M:=93824992236885) (m:=85) (k:=1) (by omega) (by omega) (by decide);have a2:=Jp (h:=b2) (l:=b1) (M:=93824992236885) (m:=85) (k:=0) (by omega) (by omega) (by decide)
  grind [Z1k,FE,Nat.shiftRight_eq_div_pow]
 have hz:swB (swA (2 ^ 8*(2 ^ 8*b2+b1)+b0))=65536*(16*q2.val+p2.val)+256*(16*q1.val+p1.val)+(16*q0.val+p0.val):=by
  grind [Q7d,Z8s]
 rw[hp,<-s0,<-s1,<-s2];unfold swN;rw[hz];have wN:=p0.isLt;have mi:=p1.isLt;have d_:=p2.isLt;have wO:=q0.isLt;have sM:=q1.isLt;have j7:=q2.isLt;generalize p0.val=u0 at *;generalize p1.val=u1 at *;generalize p2.val=u2 at *
 generalize q0.val=v0 at *;generalize q1.val=v1 at *;generalize q2.val=v2 at *
 have hC:swC (65536*(16*v2+u2)+256*(16*v1+u1)+(16*v0+u0))=(v0+u0)+256*(v1+u1)+65536*(v2+u2):=by
  have:=nib (a:=v0+u0) (b:=u1+v0) (c:=v1+u1) (d:=u2+v1) (e:=v2+u2) (f:=v2) (by omega) (by omega) (by omega) (by omega) (by omega) (by omega);unfold swC
  grind [Nat.shiftRight_eq_div_pow]
 rw[hC,show (127:Nat)=2 ^ 7-1 by decide,Nat.and_two_pow_sub_one_eq_mod];unfold swF swE swD;simp only[zQ];obtain⟨w0,k0,l0⟩:∃ w,v0+u0=w/\w<=8:=⟨_,rfl,by omega⟩;obtain⟨w1,k1,l1⟩:∃ w,v1+u1=w/\w<=8:=⟨_,rfl,by omega⟩;obtain⟨w2,k2,l2⟩:∃ w,v2+u2=w/\w<=8:=⟨_,rfl,by omega⟩;rw[k0,k1,k2];clear hz hC hp hA e0 e1 e2 s0 s1 s2;have d1:(w0+256*w1+65536*w2) / 2 ^ 8=w1+256*w2:=by omega
 rw[d1];have d2:(w0+256*w1+65536*w2+(w1+256*w2)) / 2 ^ 16=w2:=by omega
 rw[d2];have d3:(w0+256*w1+65536*w2+(w1+256*w2)+w2) / 2 ^ 32=0:=by omega
 rw[d3];omega
def Uz (ds:List (Int×List Int)):Int:=match ds.find? (λd=>decide (Qs d.1 d.2≠0)) with|some d=>Qs d.1 d.2|none=>0
theorem Q5a (a b:Int×List Int):Uz [a,b]=if Qs a.1 a.2≠0 then Qs a.1 a.2 else Qs b.1 b.2:=by
 unfold Uz
 grind
def tzK:Nat->Nat->Nat
 |0,_=>0
 |f+1,n=>if n % 2=1 then 0 else 1+tzK f (n / 2)
def tzN (n:Nat):Nat:=if n=0 then 64 else tzK 64 n
theorem LS {a b:Nat}(ha:a<2 ^ 64) (hb:b<2 ^ 64):Qb .and .u64 (a:Int) (b:Int)=((a &&& b:Nat):Int):=by
 have e:(BitVec.ofInt 64 ((a:Nat):Int) &&& BitVec.ofInt 64 ((b:Nat):Int)).toNat=a &&& b:=by
  grind
 have aj:a &&& b<2 ^ 64:=xh Nat.and_le_left ha;show IntKind.wrap .u64 ((BitVec.ofInt 64 ((a:Nat):Int) &&& BitVec.ofInt 64 ((b:Nat):Int)).toNat:Int)=_;rw[e];simp[IntKind.wrap,IntKind.bits,IntKind.signed];omega
theorem FP {x i:Nat}(hi:i<=64):Zz .u64 x i=((x >>> i:Nat):Int):=by
 have:Nat.min i 64=i:=xJ hi;simp only[Zz,zd,IntKind.bits,this]
 grind [Nat.shiftRight_eq_div_pow,Int.fdiv_eq_ediv_of_nonneg,Int.le_of_lt,Int.pow_pos]
theorem SJ (y k:Nat):y >>> k<=y:=by rw[zQ];exact Nat.div_le_self _ _
theorem opA {y:Nat}(h:y<2 ^ 60):Qb .and .u64 (Zz .u64 (y:Int) 1) 6148914691236517205+Qb .and .u64 (y:Int) 6148914691236517205=((swA y:Nat):Int)/\swA y<=2*y:=by have h1:=SJ y 1;have e1:Zz .u64 (y:Int) 1=((y >>> 1:Nat):Int):=FP (i:=1) (by omega);have e2:=LS (a:=y >>> 1) (b:=6148914691236517205) (by omega) (by omega);have e3:=LS (a:=y) (b:=6148914691236517205) (by omega) (by omega);have l1:y >>> 1 &&& 6148914691236517205<=y >>> 1:=Nat.and_le_left;have l2:y &&& 6148914691236517205<=y:=Nat.and_le_left;exact⟨by rw[e1];exact(congr (congrArg HAdd.hAdd e2) e3).trans (ye _ _).symm,by unfold swA;omega⟩
theorem opB {y:Nat}(h:y<2 ^ 60):Qb .and .u64 (Zz .u64 (y:Int) 2) 3689348814741910323+Qb .and .u64 (y:Int) 3689348814741910323=((swB y:Nat):Int)/\swB y<=2*y:=by have h1:=SJ y 2;have e1:Zz .u64 (y:Int) 2=((y >>> 2:Nat):Int):=FP (i:=2) (by omega);have e2:=LS (a:=y >>> 2) (b:=3689348814741910323) (by omega) (by omega);have e3:=LS (a:=y) (b:=3689348814741910323) (by omega) (by omega);have l1:y >>> 2 &&& 3689348814741910323<=y >>> 2:=Nat.and_le_left;have l2:y &&& 3689348814741910323<=y:=Nat.and_le_left;exact⟨by rw[e1];exact(congr (congrArg HAdd.hAdd e2) e3).trans (ye _ _).symm,by unfold swB;omega⟩
theorem opC {y:Nat}(h:y<2 ^ 60):Qb .and .u64 (Zz .u64 (y:Int) 4+(y:Int)) 1085102592571150095=((swC y:Nat):Int)/\swC y<=2*y/\Zz .u64 (y:Int) 4+(y:Int)=((y >>> 4+y:Nat):Int):=by
 have h1:=SJ y 4;have e1:Zz .u64 (y:Int) 4=((y >>> 4:Nat):Int):=FP (i:=4) (by omega);have e2:=LS (a:=y >>> 4+y) (b:=1085102592571150095) (by omega) (by omega);have l1:(y >>> 4+y) &&& 1085102592571150095<=y >>> 4+y:=Nat.and_le_left;have e3:Zz .u64 (y:Int) 4+(y:Int)=((y >>> 4+y:Nat):Int):=by omega
 exact⟨by rw[e3];exact e2,by unfold swC;omega,e3⟩
theorem opS {y k:Nat}(hk:k<=64):(y:Int)+Zz .u64 (y:Int) (k:Int)=((y+y >>> k:Nat):Int)/\y+y >>> k<=2*y:=by
 grind [SJ,FP,Int.natCast_add]
def WC:AL (Int):=(.one (.k (.i .u64)))
def UL (d:Int):Prop:=0<=d/\d<16777216
def Wn (d:Int):SV:=.val (.i .i64) ((pcN 24 d.toNat:Nat):Int)
def Wk (d:Int):List OB:=[]
def X9:CSp:=Wt WC UL Wn Wk
abbrev NX (x:Int):=(Qb .and .u64 ((Zz .u64 ((Qb .and .u64 (Zz .u64 ((Qb .and .u64 (Zz .u64 x (1:Int)) (6148914691236517205:Int))+(Qb .and .u64 x (6148914691236517205:Int))) (2:Int)) (3689348814741910323:Int))+(Qb .and .u64 ((Qb .and .u64 (Zz .u64 x (1:Int)) (6148914691236517205:Int))+(Qb .and .u64 x (6148914691236517205:Int))) (3689348814741910323:Int))) (4:Int))+((Qb .and .u64 (Zz .u64 ((Qb .and .u64 (Zz .u64 x (1:Int)) (6148914691236517205:Int))+(Qb .and .u64 x (6148914691236517205:Int))) (2:Int)) (3689348814741910323:Int))+(Qb .and .u64 ((Qb .and .u64 (Zz .u64 x (1:Int)) (6148914691236517205:Int))+(Qb .and .u64 x (6148914691236517205:Int))) (3689348814741910323:Int)))) (1085102592571150095:Int))
abbrev Ss (x:Int):=(((NX x)+(Zz .u64 (NX x) (8:Int)))+(Zz .u64 ((NX x)+(Zz .u64 (NX x) (8:Int))) (16:Int)))
abbrev Sf (x:Int):=((Qb .and .u64 (Zz .u64 ((Qb .and .u64 (Zz .u64 x (1:Int)) (6148914691236517205:Int))+(Qb .and .u64 x (6148914691236517205:Int))) (2:Int)) (3689348814741910323:Int))+(Qb .and .u64 ((Qb .and .u64 (Zz .u64 x (1:Int)) (6148914691236517205:Int))+(Qb .and .u64 x (6148914691236517205:Int))) (3689348814741910323:Int)))
abbrev RY (x:Int):=((Ss x)+(Zz .u64 (Ss x) (32:Int)))
def ZJ (x:Int):Prop :=
 (0<=(1:Int))/\(InK .u64 ((Qb .and .u64 (Zz .u64 x (1:Int)) (6148914691236517205:Int))+(Qb .and .u64 x (6148914691236517205:Int))))/\(0<=(2:Int))/\(InK .u64 (Sf x))/\(0<=(4:Int))/\(InK .u64 ((Zz .u64 (Sf x) (4:Int))+(Sf x)))/\(0<=(8:Int))/\(InK .u64 ((NX x)+(Zz .u64 (NX x) (8:Int))))/\(0<=(16:Int))/\(InK .u64 (Ss x))/\(0<=(32:Int))/\(InK .u64 (RY x))/\(I64 (RY x))/\((Qb .and .i64 (RY x) (127:Int))=((pcN 24 x.toNat:Nat):Int)/\(True))
def WH:Cx:=⟨[],[],35,[],0,[],[],[],[],false,[],[],[],[]⟩
def Ni (x:Int):List (Nat×LoopAnn):=[]
theorem N1 (d:Int):gwp (WH) (Ni d) c74 0 (WB [.tmp 2] (Wn d) (Wk d)) (Qn 35 (AL.can WC d))=ZJ d:=by kernel_rfl
abbrev Ny:Prop:=OkC Tryz.prog 74 X9
theorem Nc (h:∀ (x:Int),(0<=x/\x<16777216)->ZJ x):OkC Tryz.prog 74 X9 :=
 Qr Z89 mixed (C:=WH) (V:=λ(d:Int)=>ZJ d) ⟨.nil,XsOk.nil,ItsOk.nil,YlOk.nil,IysOk.nil,XfOk.nil⟩ (N1) λd hp=>h d hp
theorem Nr:Ny:=Nc λx h=>by
 obtain⟨h1,h2⟩:=h;obtain⟨n,rfl⟩:=zJ h1;unfold ZJ;(try delta NX Ss Sf RY);(try delta lI gD sT I64 Z6 rg rb zD nS);have hn:n<16777216:=by omega
 obtain⟨a1,a2⟩:=opA (y:=n) (by omega);obtain⟨b1,b2⟩:=opB (y:=swA n) (by omega);obtain⟨c1,c2,c3⟩:=opC (y:=swB (swA n)) (by omega);obtain⟨d1,d2⟩:=opS (y:=swC (swB (swA n))) (k:=8) (by omega);obtain⟨e1,e2⟩:=opS (y:=swD (swC (swB (swA n)))) (k:=16) (by omega);obtain⟨f1,f2⟩:=opS (y:=swE (swD (swC (swB (swA n))))) (k:=32) (by omega);have d0:swD (swC (swB (swA n)))=swC (swB (swA n))+swC (swB (swA n)) >>> 8:=rfl;have e0:swE (swD (swC (swB (swA n))))=swD (swC (swB (swA n)))+swD (swC (swB (swA n))) >>> 16:=rfl;have f0:swF (swE (swD (swC (swB (swA n)))))=swE (swD (swC (swB (swA n))))+swE (swD (swC (swB (swA n)))) >>> 32:=rfl;rw[<-d0] at d1 d2;rw[<-e0] at e1 e2;rw[<-f0] at f1 f2;have g1:=Z0b (x:=swF (swE (swD (swC (swB (swA n)))))) (y:=127) (by omega) (by omega);have g2:=Z7x hn;unfold swN at g2;have u:∀ m:Nat,m<2 ^ 60->InK .u64 (m:Int):=λm hm=>by rw[D3];omega
 have i:∀ m:Nat,m<2 ^ 60->InK .i64 (m:Int):=λm hm=>by rw[Qc];omega
 have d1:((swC (swB (swA n)):Nat):Int)+Zz .u64 ((swC (swB (swA n)):Nat):Int) 8=((swD (swC (swB (swA n))):Nat):Int):=d1;have e1:((swD (swC (swB (swA n))):Nat):Int)+Zz .u64 ((swD (swC (swB (swA n))):Nat):Int) 16=((swE (swD (swC (swB (swA n)))):Nat):Int):=e1;have f1:((swE (swD (swC (swB (swA n)))):Nat):Int)+Zz .u64 ((swE (swD (swC (swB (swA n)))):Nat):Int) 32=((swF (swE (swD (swC (swB (swA n))))):Nat):Int):=f1;have g1:Qb .and .i64 ((swF (swE (swD (swC (swB (swA n))))):Nat):Int) 127=_:=g1;rw[a1,b1,c1,c3,d1,e1,f1,g1,g2];have hC:swB (swA n) >>> 4+swB (swA n)<2 ^ 60:=by have:=SJ (swB (swA n)) 4;omega
 repeat' (first|with_reducible exact u _ (by omega)|with_reducible exact i _ (by omega)|with_reducible exact u _ hC|exact trivial|omega|(rw[zd];done)|with_reducible refine And.intro ?_ ?_)
def MI:AL (Int×Int×Int):=(.cons (.k (.i .i64)) (.cons (.ptr (.one (.k (.i .i64)))) (.one (.ptr (.one (.k (.i .i64)))))))
def Tk (d:Int×Int×Int):Prop:=True
def N2 (d:Int×Int×Int):SV:=.val .bo (decide (d.1<d.2.1)||decide (d.2.2<d.1))
def Ng (d:Int×Int×Int):List OB:=[]
def VD:CSp:=Wt MI Tk N2 Ng
def KJ (n:Int) (a:Int) (b:Int):Prop :=
 (((decide (n<a))||(decide (n > b)))=(decide (n<a)||decide (b<n))/\(True))
def Ms:Cx:=⟨[],[],13,[],0,[],[],[],[],false,[],[],[],[]⟩
def RP (n:Int) (a:Int) (b:Int):List (Nat×LoopAnn):=[]
theorem Re (d:Int×Int×Int):gwp (Ms) (RP d.1 d.2.1 d.2.2) J11 0 (WB [.tmp 4] (N2 d) (Ng d)) (Qn 13 (AL.can MI d))=KJ d.1 d.2.1 d.2.2:=by kernel_rfl
abbrev Rf:Prop:=OkC Tryz.prog 126 VD
theorem Ry (h:∀ (n:Int) (a:Int) (b:Int),(True)->KJ n a b):OkC Tryz.prog 126 VD :=
 Qr Z2v mixed (C:=Ms) (V:=λ(d:Int×Int×Int)=>KJ d.1 d.2.1 d.2.2) ⟨.nil,XsOk.nil,ItsOk.nil,YlOk.nil,IysOk.nil,XfOk.nil⟩ (Re) λd hp=>h d.1 d.2.1 d.2.2 hp
theorem Rs:Rf:=Ry λn a b _=>by exact⟨rfl,trivial⟩
def Bs:AL (Int×Int×List Int):=(.cons (.k (.i .i64)) (.cons (.k (.i .i64)) (.one (.k (.list (.i .i64))))))
def La (d:Int×Int×List Int):Prop:=d.2.2.length<=1000000
def GY (d:Int×Int×List Int):SV:=.val .bo (!(d.2.2.any λn=>decide (n<d.1)||decide (d.2.1<n)))
def Gm (d:Int×Int×List Int):List OB:=[]
def M0:CSp:=Wt Bs La GY Gm
def UC (a:Int) (b:Int) (l:List Int):Prop :=
 (l.length<=1000000/\∀ x∈l,(λ(x1:Int)=>True) x)/\((!(l.any (λ(x1:Int)=>(decide (x1<a)||decide (b<x1)))))=(!(l.any λn=>decide (n<a)||decide (b<n)))/\(True))
def BC:Cx:=⟨[],[(89,QH),(126,VD)],11,[],0,[],[],[],[],false,[],[],[],[]⟩
def Ac (a:Int) (b:Int) (l:List Int):List (Nat×LoopAnn):=[]
theorem Aj (d:Int×Int×List Int):gwp (BC) (Ac d.1 d.2.1 d.2.2) c95 0 (WB [.tmp 6] (GY d) (Gm d)) (Qn 11 (AL.can Bs d))=UC d.1 d.2.1 d.2.2:=by kernel_rfl
abbrev Af:Prop:=OkC Tryz.prog 95 M0
theorem CP (h:∀ (a:Int) (b:Int) (l:List Int),(l.length<=1000000)->UC a b l):OkC Tryz.prog 95 M0 :=
 Qr Z5z mixed (C:=BC) (V:=λ(d:Int×Int×List Int)=>UC d.1 d.2.1 d.2.2) ⟨(.cons ZB (.cons Rs .nil)),XsOk.nil,ItsOk.nil,YlOk.nil,IysOk.nil,XfOk.nil⟩ (Aj) λd hp=>h d.1 d.2.1 d.2.2 hp
theorem AI:Af:=CP λa b l h=>by exact⟨⟨h,λ_ _=>trivial⟩,rfl,trivial⟩
def SQ:AL (Int):=(.one (.k (.i .i64)))
def OM (d:Int):Prop:=0<=d/\d<=24
def TG (d:Int):SV:=.val (.i .i64) (2 ^ d.toNat-1)
def R7 (d:Int):List OB:=[]
def B9:CSp:=Wt SQ OM TG R7
def M6 (h:Int):Prop :=
 (0<=h)/\(I64 (YA .i64 (1:Int) h))/\(I64 ((YA .i64 (1:Int) h)-(1:Int)))/\(((YA .i64 (1:Int) h)-(1:Int))=(2 ^ h.toNat-1)/\(True))
def Cd:Cx:=⟨[],[],6,[],0,[],[],[],[],false,[],[],[],[]⟩
def Q0t (h:Int):List (Nat×LoopAnn):=[]
theorem Q0g (d:Int):gwp (Cd) (Q0t d) c96 0 (WB [.tmp 2] (TG d) (R7 d)) (Qn 6 (AL.can SQ d))=M6 d:=by kernel_rfl
abbrev Q0d:Prop:=OkC Tryz.prog 96 B9
theorem Q0j (h:∀ (h:Int),(0<=h/\h<=24)->M6 h):OkC Tryz.prog 96 B9 :=
 Qr Z8j mixed (C:=Cd) (V:=λ(d:Int)=>M6 d) ⟨.nil,XsOk.nil,ItsOk.nil,YlOk.nil,IysOk.nil,XfOk.nil⟩ (Q0g) λd hp=>h d hp
theorem Z0w {h:Int}(h1:0<=h) (h2:h<=62):YA .i64 1 h=2 ^ h.toNat:=by obtain⟨n,rfl⟩:=zJ h1;have:Nat.min n 64=n:=xJ (by omega);simp only[YA,zd,IntKind.bits,this,Int.one_mul]
theorem EH {h:Int}(h1:0<=h) (h2:h<=24):(1:Int)<=2 ^ h.toNat/\(2:Int) ^ h.toNat<=16777216:=by
 obtain⟨n,rfl⟩:=zJ h1;have a1:2 ^ 0<=2 ^ n:=Nat.pow_le_pow_right (by omega) (by omega);have a2:2 ^ n<=2 ^ 24:=Nat.pow_le_pow_right (by omega) (by omega);simp only[zd];have e:((2:Int) ^ n)=((2 ^ n:Nat):Int):=by norm_cast
 rw[e];omega
theorem Cc:Q0d:=Q0j λh hh=>by unfold M6;(try delta lI gD sT I64 Z6 rg rb zD nS);have:=EH hh.1 hh.2;rw[Z0w hh.1 (by omega),Qc,Qc];exact⟨hh.1,by omega,by omega,rfl,trivial⟩
def BG:AL (Int×List Int):=(.one (.agg (.cons (.k (.i .i64)) (.one (.k (.list (.i .i64)))))))
def Lw (d:Int×List Int):Prop:=d.2.length<=1000000
def Dz (d:Int×List Int):SV:=.val (.i .i64) (Qs d.1 d.2)
def GF (d:Int×List Int):List OB:=[]
def M5:CSp:=Wt BG Lw Dz GF
def Kp (hd:Int) (rows:List Int):Prop :=
 ([hd].length<=1000000)/\((!(!([hd].any λn=>decide (n<(1:Int))||decide ((24:Int)<n))))=true ->
  ((2:Int)=(Qs hd rows)/\(True))) /\
 ((!(!([hd].any λn=>decide (n<(1:Int))||decide ((24:Int)<n))))=false ->
  ((decide ((lI rows) > (60:Int)))=true ->
   ((5:Int)=(Qs hd rows)/\(True))) /\
  ((decide ((lI rows) > (60:Int)))=false ->
   (((lI rows)==(0:Int))=true ->
    ((7:Int)=(Qs hd rows)/\(True))) /\
   (((lI rows)==(0:Int))=false ->
    (0<=hd/\hd<=24)/\(rows.length<=1000000)/\((!(!(rows.any λn=>decide (n<(0:Int))||decide ((2 ^ hd.toNat-1)<n))))=true ->
     ((2:Int)=(Qs hd rows)/\(True))) /\
    ((!(!(rows.any λn=>decide (n<(0:Int))||decide ((2 ^ hd.toNat-1)<n))))=false ->
     ((0:Int)=(Qs hd rows)/\(True))))))
def Bv:Cx:=⟨[(3,(.i .i64))],[(95,M0),(96,B9)],27,[],0,[],[],[],[],false,[],[],[],[]⟩
def An (hd:Int) (rows:List Int):List (Nat×LoopAnn):=[]
theorem Ag (d:Int×List Int):gwp (Bv) (An d.1 d.2) c45 0 (WB [.tmp 2] (Dz d) (GF d)) (Qn 27 (AL.can BG d))=Kp d.1 d.2:=by kernel_rfl
abbrev Aq:Prop:=OkC Tryz.prog 45 M5
theorem CL (h:∀ (hd:Int) (rows:List Int),(rows.length<=1000000)->Kp hd rows):OkC Tryz.prog 45 M5 :=
 Qr Z8d mixed (C:=Bv) (V:=λ(d:Int×List Int)=>Kp d.1 d.2) ⟨(.cons AI (.cons Cc .nil)),XsOk.nil,ItsOk.nil,YlOk.nil,IysOk.nil,XfOk.nil⟩ (Ag) λd hp=>h d.1 d.2 hp
theorem CC:Aq:=CL λhd rows hl=>by
 unfold Kp;(try delta lI gD sT I64 Z6 rg rb zD nS);simp only[and_true,zh,zz,zX,ne_eq,y0,gt_iff_lt,Bool.not_not];simp only[<-nI];refine⟨by simp,λh1=>by simp at h1;simp[Qs,h1],λh1=>⟨λh2=>?_,λh2=>⟨λh3=>?_,λh3=>?_⟩⟩⟩;all_goals simp only[List.any_cons,List.any_nil,y8,xM] at h1
 .have:60<rows.length:=by omega
  simp[Qs,h1,this]
 .have h3:rows.length=0:=by omega
  simp[Qs,h1,h3]
 have o_:¬ 60<rows.length:=by omega
 have hU:¬ rows.length=0:=by omega
 have hi:1<=hd/\hd<=24:=by simpa [inI] using h1
 have vD:Qs hd rows=if rows.any (λx=>!inI x 0 (2 ^ hd.toNat-1)) then 2 else 0:=by simp only[Qs,h1,o_,hU];simp
 rw[vD];refine⟨by omega,by omega,λh=>by rw[z6 h],λh=>by rw[h];rfl⟩
theorem Q5y {h:Int}(h1:1<=h) (h2:h<=24):(2:Int)<=2 ^ h.toNat/\(2:Int) ^ h.toNat<=16777216:=by
 obtain⟨n,rfl⟩:=zJ (show 0<=h by omega);have a1:2 ^ 1<=2 ^ n:=(by grind);have a2:2 ^ n<=2 ^ 24:=Nat.pow_le_pow_right (by omega) (by omega)
 grind
theorem LD {n mo:Nat}{wv:Nat->Int->Bool}{k:Nat}{L L':List ((Int×Int)×Int)}(h:(Xj n mo).map (λq=>(q,wyK n mo wv k q))=L)
  (h':(Xj n mo).map (λq=>(q,((Xj n mo).map λp=>OL n mo (wv k) p (WX L p) q).sum))=L'):(Xj n mo).map (λq=>(q,wyK n mo wv (k+1) q))=L':=by
 have hL:∀ p∈Xj n mo,WX L p=wyK n mo wv k p:=λp hp=>by
  have hn:(L.map (·.1)).Nodup:=by
   grind [List.map_map,List.map_id,Ba]
  have hm:(p,wyK n mo wv k p)∈L:=by grind
  exact Q5q hn hm
 rw[<-h'];refine xm λq _=>?_;have:((Xj n mo).map λp=>OL n mo (wv k) p (WX L p) q)=(Xj n mo).map λp=>OL n mo (wv k) p (wyK n mo wv k p) q:=(by simp_all);rw[this];rfl
def five:List YB:=[(0,1,false),(3,8,false),(1,2,false),(2,4,false),(4,15,false)]
def Z2t:List Int:=[8,2,2,-1,1]
theorem Z6v:(Xj 5 2).map (λq=>(q,wyK 5 2 (λk=>wvB 4 five Z2t k) 0 q))=[((0,0),1),((0,1),0),((0,2),0),((1,0),1),((1,1),0),((1,2),0),((2,0),1),((2,1),0),((2,2),0),((3,0),1),((3,1),0),((3,2),0),((4,0),1),((4,1),0),((4,2),0)]:=by kernel_rfl
theorem Z5r:(Xj 5 2).map (λq=>(q,wyK 5 2 (λk=>wvB 4 five Z2t k) 1 q))=[((0,0),0),((0,1),0),((0,2),0),((1,0),0),((1,1),1),((1,2),0),((2,0),1),((2,1),0),((2,2),0),((3,0),0),((3,1),1),((3,2),0),((4,0),0),((4,1),0),((4,2),0)]:=LD Z6v (by kernel_rfl)
theorem Z7k:(Xj 5 2).map (λq=>(q,wyK 5 2 (λk=>wvB 4 five Z2t k) 2 q))=[((0,0),0),((0,1),0),((0,2),0),((1,0),0),((1,1),0),((1,2),0),((2,0),0),((2,1),1),((2,2),0),((3,0),1),((3,1),0),((3,2),0),((4,0),0),((4,1),1),((4,2),0)]:=LD Z5r (by kernel_rfl)
theorem Z9c:(Xj 5 2).map (λq=>(q,wyK 5 2 (λk=>wvB 4 five Z2t k) 3 q))=[((0,0),0),((0,1),0),((0,2),0),((1,0),0),((1,1),0),((1,2),0),((2,0),0),((2,1),0),((2,2),1),((3,0),0),((3,1),1),((3,2),0),((4,0),0),((4,1),0),((4,2),1)]:=LD Z7k (by kernel_rfl)
theorem Z5u:(Xj 5 2).map (λq=>(q,wyK 5 2 (λk=>wvB 4 five Z2t k) 4 q))=[((0,0),0),((0,1),0),((0,2),2),((1,0),0),((1,1),0),((1,2),0),((2,0),0),((2,1),0),((2,2),0),((3,0),0),((3,1),0),((3,2),2),((4,0),0),((4,1),1),((4,2),0)]:=LD Z9c (by kernel_rfl)
theorem Z8q:(Xj 5 2).map (λq=>(q,wyK 5 2 (λk=>wvB 4 five Z2t k) 5 q))=[((0,0),0),((0,1),0),((0,2),0),((1,0),0),((1,1),0),((1,2),2),((2,0),0),((2,1),0),((2,2),0),((3,0),0),((3,1),0),((3,2),0),((4,0),0),((4,1),0),((4,2),0)]:=LD Z5u (by kernel_rfl)
theorem Q5r:Q01 4 five Z2t 2=2:=by
 have h:(((Xj 5 2).map (λq=>(q,wyK 5 2 (λk=>wvB 4 five Z2t k) 5 q))).map λx=>x.2).sum=2:=by rw[Z8q];rfl
 rw[yb] at h;exact h
def BW:AL (List Int×Int):=(.cons (.k (.list (.i .u8))) (.one (.k (.i .i64))))
def Cs (d:List Int×Int):Prop:=d.1.length<=9223372036854775807/\0<=d.2/\∀ x∈d.1,0<=x/\x<=255
def DB (d:List Int×Int):SV:=.val (.i .i64) (Zc d.1 d.2)
def Dr (d:List Int×Int):List OB:=[]
def M7:CSp:=Wt BW Cs DB Dr
def Kd (l:List Int) (i:Int):Prop :=
 (((lI l)==(0:Int))=true ->
  ((0:Int)=(Zc l i)/\(True))) /\
 (((lI l)==(0:Int))=false ->
  ((lI l)≠0)/\(0<=(Int.tmod i (lI l)))/\((Int.tmod i (lI l))<l.length)/\(I64 (gD l (Int.tmod i (lI l)) 0))/\((gD l (Int.tmod i (lI l)) 0)=(Zc l i)/\(True)))
def BM:Cx:=⟨[],[],16,[],0,[],[],[],[],false,[],[],[],[]⟩
def CN (l:List Int) (i:Int):List (Nat×LoopAnn):=[]
theorem A3 (d:List Int×Int):gwp (BM) (CN d.1 d.2) c63 0 (WB [.tmp 4] (DB d) (Dr d)) (Qn 16 (AL.can BW d))=Kd d.1 d.2:=by kernel_rfl
abbrev A7:Prop:=OkC Tryz.prog 63 M7
theorem AE (h:∀ (l:List Int) (i:Int),(l.length<=9223372036854775807/\0<=i/\∀ x∈l,0<=x/\x<=255)->Kd l i):OkC Tryz.prog 63 M7 :=
 Qr Z6k mixed (C:=BM) (V:=λ(d:List Int×Int)=>Kd d.1 d.2) ⟨.nil,XsOk.nil,ItsOk.nil,YlOk.nil,IysOk.nil,XfOk.nil⟩ (A3) λd hp=>h d.1 d.2 hp
theorem AH:A7:=AE λl i h=>by
 obtain⟨h1,h2,h3⟩:=h;unfold Kd;(try delta lI gD sT I64 Z6 rg rb zD nS);refine⟨λhx=>?_,λhx=>?_⟩
 .have:l.length=0:=by have:=eq_of_beq hx;omega
  unfold Zc;rw[z6 this];exact(by and_intros<;>first|rfl|trivial|simp)
 .have h0:l.length≠0:=by have:=ne_of_beq_false hx;omega
  have e:=Int.tmod_eq_emod_of_nonneg (b:=(l.length:Int)) h2;have g1:=Int.emod_nonneg i (show (l.length:Int)≠0 by omega);have g2:=Int.emod_lt_of_pos i (show (0:Int)<l.length by omega);have g3:(Int.tmod i l.length).toNat<l.length:=by omega
  have g4:=h3 _ (by rw[Qf g3];exact zl g3:l.getD (Int.tmod i l.length).toNat 0∈l);refine⟨by omega,by omega,by omega,by rw[Qc];omega,?_⟩;unfold Zc;simp_all
def BH:AL (List Int×List Int):=(.cons (.k (.list (.i .i64))) (.one (.k (.list (.i .i64)))))
def Ci (d:List Int×List Int):Prop:=d.1.length<=1000000
def Db (d:List Int×List Int):SV:=.val .bo (d.1==d.2)
def Gu (d:List Int×List Int):List OB:=[]
def Y2:CSp:=Wt BH Ci Db Gu
def Km (a:List Int) (b:List Int):Prop :=
 (((lI a) != (lI b))=true ->
  (false=(a==b)/\(True))) /\
 (((lI a) != (lI b))=false ->
  ∃ (e2:Unit) (d20:Int),((a=a/\b=b/\(0:Int)=d20/\True)/\(True)) /\
  LoopP (λ(d2:Int) (q2:(Int)->Prop) =>
   ((decide (d2<(lI a)))=true ->
    (0<=d2)/\(d2<a.length)/\(0<=d2)/\(d2<b.length)/\(((gD a d2 0) != (gD b d2 0))=true ->
     (false=(a==b)/\(True))) /\
    (((gD a d2 0) != (gD b d2 0))=false ->
     (I64 (d2+(1:Int)))/\(∃ d3:Int,((a=a/\b=b/\(d2+(1:Int))=d3/\True)/\(True))/\q2 d3))) /\
   ((decide (d2<(lI a)))=false ->
    (true=(a==b)/\(True)))) d20)
def BB:Cx:=⟨[],[],26,[],0,[],[],[],[],false,[],[],[],[]⟩
def AK (a:List Int) (b:List Int):List (Nat×LoopAnn):=[(0,⟨Unit,Int,[0,1,5],λe x=>[.val (.list (.i .i64)) a,.val (.list (.i .i64)) b,.val (.i .i64) x],λe x=>[]⟩)]
theorem Cu (d:List Int×List Int):gwp (BB) (AK d.1 d.2) c16 0 (WB [.tmp 4] (Db d) (Gu d)) (Qn 26 (AL.can BH d))=Km d.1 d.2:=by kernel_rfl
abbrev At:Prop:=OkC Tryz.prog 16 Y2
theorem AG (h:∀ (a:List Int) (b:List Int),(a.length<=1000000)->Km a b):OkC Tryz.prog 16 Y2 :=
 Qr Z7s mixed (C:=BB) (V:=λ(d:List Int×List Int)=>Km d.1 d.2) ⟨.nil,XsOk.nil,ItsOk.nil,YlOk.nil,IysOk.nil,XfOk.nil⟩ (Cu) λd hp=>h d.1 d.2 hp
theorem UU:At:=AG λl m py=>by
 unfold Km;(try delta lI gD sT I64 Z6 rg rb zD nS);simp only[true_and,and_true,exists_eq_left',exists_const,zh,zz,bne_iff_ne,ne_eq,bne_eq_false_iff_eq];refine⟨λh=>?_,λh=>?_⟩
 .grind
 have h:l.length=m.length:=by omega
 refine LoopP.count l.length (λk=>l.take k=m.take k) rfl λk bp hJ q hq=>?_;simp only[zd,Int.ofNat_lt,Qc]
 grind [Qf,beq_eq_false_iff_ne,QV,List.take_of_length_le]
def BF:AL (Int):=(.one (.k (.i .i64)))
def LU (d:Int):Prop:=0<=d/\d<=10000
def Dw (d:Int):SV:=.lst 0
def Da (d:Int):List OB:=[.lst 3 (.i .i64) (List.replicate d.toNat (1:Int)) false]
def NJ:CSp:=Wt BF LU Dw Da
def Ka (n:Int):Prop :=
 ∃ (e2:Unit) (d20:(List Int)×Int),((n=n/\True/\(0:Int)=d20.2/\True)/\((([]:List Int)=d20.1/\false=false)/\True)) /\
 LoopP (λ(d2:(List Int)×Int) (q2:((List Int)×Int)->Prop) =>
  ((decide (d2.2<n))=true ->
   ((d2.1.length+(List.length [(1:Int)]))*8<=70368744177664)/\(I64 (d2.2+(1:Int)))/\(∃ d3:(List Int)×Int,((n=n/\True/\(d2.2+(1:Int))=d3.2/\True)/\(((d2.1++[(1:Int)])=d3.1/\false=false)/\True))/\q2 d3)) /\
  ((decide (d2.2<n))=false ->
   (True/\((d2.1=(List.replicate n.toNat (1:Int))/\false=false)/\True)))) d20
def Bm:Cx:=⟨[(3,(.i .i64))],[],15,[],0,[],[],[],[],false,[],[],[],[]⟩
def CM (n:Int):List (Nat×LoopAnn):=[(0,⟨Unit,(List Int)×Int,[0,3,4],λe x=>[.val (.i .i64) n,.lst 5,.val (.i .i64) x.2],λe x=>[(5,.slot 3,.lst 3 (.i .i64) x.1 false)]⟩)]
theorem AV (d:Int):gwp (Bm) (CM d) c26 0 (WB [.tmp 2] (Dw d) (Da d)) (Qn 15 (AL.can BF d))=Ka d:=by kernel_rfl
abbrev CV:Prop:=OkC Tryz.prog 26 NJ
theorem C_ (h:∀ (n:Int),(0<=n/\n<=10000)->Ka n):OkC Tryz.prog 26 NJ :=
 Qr Z8g mixed (C:=Bm) (V:=λ(d:Int)=>Ka d) ⟨.nil,XsOk.nil,ItsOk.nil,YlOk.nil,IysOk.nil,XfOk.nil⟩ (AV) λd hp=>h d hp
theorem Ad:CV:=C_ λn h=>by
 unfold Ka;(try delta lI gD sT I64 Z6 rg rb zD nS);obtain⟨m,rfl⟩:=zJ h.1;have hm:m<=10000:=by omega
 refine⟨(),([],0),(by simp_all),?_⟩;refine LoopP.count2 m (λk xs=>xs=List.replicate k (1:Int)) rfl λk xs hk hJ q hq=>?_
 grind [Qc,List.replicate_succ',Int.toNat_natCast]
def BL:AL (Int×List Int):=(.one (.agg (.cons (.k (.i .i64)) (.one (.k (.list (.i .i64)))))))
def Cg (d:Int×List Int):Prop:=d.2.length<=1000
def DG (d:Int×List Int):SV:=.agg [.val (.i .i64) d.1,.lst 0]
def G_ (d:Int×List Int):List OB:=[.lst 3 (.i .i64) d.2 false]
def Yr:CSp:=Wt BL Cg DG G_
def Kk (hd:Int) (rows:List Int):Prop :=
 (((List.length ([]:List Int))+rows.length)*8<=70368744177664)/\((hd=hd/\True/\nS)/\(((([]:List Int)++rows)=rows/\(rows.isEmpty&&false)=false)/\True))
def Bq:Cx:=⟨[(3,(.i .i64))],[],9,[],0,[],[],[],[],false,[],[],[],[]⟩
def Ao (hd:Int) (rows:List Int):List (Nat×LoopAnn):=[]
theorem Au (d:Int×List Int):gwp (Bq) (Ao d.1 d.2) c6 0 (WB [.cell 2 true 2] (DG d) (G_ d)) (Qn 9 (AL.can BL d))=Kk d.1 d.2:=by kernel_rfl
abbrev A6:Prop:=OkC Tryz.prog 6 Yr
theorem AB (h:∀ (hd:Int) (rows:List Int),(rows.length<=1000)->Kk hd rows):OkC Tryz.prog 6 Yr :=
 Qr J38 mixed (C:=Bq) (V:=λ(d:Int×List Int)=>Kk d.1 d.2) ⟨.nil,XsOk.nil,ItsOk.nil,YlOk.nil,IysOk.nil,XfOk.nil⟩ (Au) λd hp=>h d.1 d.2 hp
theorem UD:A6:=AB λhd rows h=>by
 (unfold Kk;(try delta lI gD sT I64 Z6 rg rb zD nS);simp);omega
def Bt:AL (Int×List (Int×Int×Bool)):=(.one (.agg (.cons (.k (.i .i64)) (.one (.k (.list (.pair (.i .i64) (.pair (.i .i64) .bo))))))))
def Ce (d:Int×List (Int×Int×Bool)):Prop:=d.2.length<=1000
def Dq (d:Int×List (Int×Int×Bool)):SV:=.agg [.val (.i .i64) d.1,.lst 0]
def DI (d:Int×List (Int×Int×Bool)):List OB:=[.lst 129 (.pair (.i .i64) (.pair (.i .i64) .bo)) d.2 false]
def KZ:CSp:=Wt Bt Ce Dq DI
def Kj (hk:Int) (cs:List (Int×Int×Bool)):Prop :=
 (((List.length ([]:List (Int×Int×Bool)))+cs.length)*24<=70368744177664)/\((hk=hk/\True/\nS)/\(((([]:List (Int×Int×Bool))++cs)=cs/\(cs.isEmpty&&false)=false)/\True))
def BD:Cx:=⟨[(129,(.pair (.i .i64) (.pair (.i .i64) .bo)))],[],9,[],0,[],[],[],[],false,[],[],[],[]⟩
def AD (hk:Int) (cs:List (Int×Int×Bool)):List (Nat×LoopAnn):=[]
theorem Ar (d:Int×List (Int×Int×Bool)):gwp (BD) (AD d.1 d.2) c62 0 (WB [.cell 2 true 2] (Dq d) (DI d)) (Qn 9 (AL.can Bt d))=Kj d.1 d.2:=by kernel_rfl
abbrev Ai:Prop:=OkC Tryz.prog 62 KZ
theorem AF (h:∀ (hk:Int) (cs:List (Int×Int×Bool)),(cs.length<=1000)->Kj hk cs):OkC Tryz.prog 62 KZ :=
 Qr Z5v mixed (C:=BD) (V:=λ(d:Int×List (Int×Int×Bool))=>Kj d.1 d.2) ⟨.nil,XsOk.nil,ItsOk.nil,YlOk.nil,IysOk.nil,XfOk.nil⟩ (Ar) λd hp=>h d.1 d.2 hp
theorem BY:Ai:=AF λhk cs h=>by
 (unfold Kj;(try delta lI gD sT I64 Z6 rg rb zD nS);simp);omega
def pdH (h8:Int):Int:=2+Int.tmod h8 7
def pdR (hk:Int) (rs:List Int):List Int:=if rs=[] then [1] else (rs.take 12).map λr=>r % 2 ^ hk.toNat
theorem Q07 {h8:Int}(h:0<=h8):2<=pdH h8/\pdH h8<=8:=by have t1:=Int.tmod_nonneg (7:Int) h;have t2:=Int.tmod_lt_of_pos h8 (show (0:Int)<7 by decide);unfold pdH;omega
theorem Q8k {hk:Int}{rs:List Int}:(pdR hk rs).length=if rs=[] then 1 else min 12 rs.length:=by unfold pdR;split<;>simp
theorem Z41 {hk:Int}{rs:List Int}{i:Nat}(h:i<rs.length) (hc:i<12):(pdR hk rs)[i]?=some (rs.getD i 0 % 2 ^ hk.toNat):=by
 have aG:rs≠[]:=by rintro rfl;simp at h
 unfold pdR;simp_all
theorem Z2u {hk:Int}{rs:List Int}(h:1<=hk/\hk<=24):pdR hk rs≠[]/\(pdR hk rs).length<=12/\∀ x∈pdR hk rs,0<=x/\x<2 ^ hk.toNat:=by
 have hp:=Q5y h.1 h.2;refine⟨?_,by rw[Q8k];split<;>omega,λx hx=>?_⟩
 .unfold pdR;split
  .simp
  .rename_i aG;simpa using aG
 .unfold pdR at hx;split at hx
  .rw[zK.1 hx];omega
  .simp only[zS] at hx;omega
def Z5l (by_:List Int) (i n:Nat):Nat:=(Int.tmod (Zc by_ i) n).toNat
def J3h (by_:List Int) (i:Nat):Bool:=Int.tmod (Zc by_ ((i:Int)+1)) 3==0
def Q1u (by_:List Int) (l:List YB) (i:Nat):List YB :=
 let s:=(l.set (Z5l by_ i l.length) (l.getD i WY)).set i (l.getD (Z5l by_ i l.length) WY)
 s.set i ((s.getD i WY).1,((s.getD i WY).2.1,J3h by_ i))
def F8 (by_:List Int) (l:List YB):Nat->List YB
 |0=>l
 |m+1=>Q1u by_ (F8 by_ l m) m
def Z16 (by_:List Int) (l:List YB):List YB:=F8 by_ l l.length
theorem Fj (by_:List Int) (l:List YB):∀ m,(F8 by_ l m).length=l.length
 |0=>rfl
 |m+1=>by unfold F8 Q1u;simp only[zE];exact Fj by_ l m
def Mr:AL (Int×List Int):=(.cons (.k (.i .u8)) (.one (.k (.list (.i .u16)))))
def Tv (d:Int×List Int):Prop:=0<=d.1/\d.1<=255/\d.2.length<=9223372036854775807/\∀ x∈d.2,0<=x/\x<=65535
def Nl (d:Int×List Int):SV:=.agg [.val (.i .i64) (pdH d.1),.lst 0]
def N4 (d:Int×List Int):List OB:=[.lst 3 (.i .i64) (pdR (pdH d.1) d.2) false]
def Vr:CSp:=Wt Mr Tv Nl N4
abbrev Yd (h8:Int):=((2:Int)+(Int.tmod h8 (7:Int)))
abbrev Sa :=((0:Int)=(0:Int)/\True/\nS)
abbrev Sp (h8:Int):=((Yd h8)=(Yd h8)/\True/\nS)
def Ws (h8:Int) (rs:List Int):Prop :=
 (I64 h8)/\((7:Int)≠0)/\(I64 (Yd h8))/\∃ (e4:Unit) (d40:(List Int)×Int),((rs=rs/\True/\True/\(0:Int)=d40.2/\True)/\(Sa/\(Sp h8)/\(d40.1=[]/\d40.1.isEmpty=true)/\True)) /\
 LoopP (λ(d4:(List Int)×Int) (q4:((List Int)×Int)->Prop) =>
  (((d4.2==(0:Int))||((decide (d4.2<(lI rs)))&&(decide (d4.2<(12:Int)))))=true ->
   ((decide (d4.2<(lI rs)))=true ->
    (0<=d4.2)/\(d4.2<rs.length)/\(I64 (gD rs d4.2 0))/\(InK .u64 (Yd h8))/\(0<=(Yd h8))/\(I64 (YA .i64 (1:Int) (Yd h8)))/\((YA .i64 (1:Int) (Yd h8))≠0)/\((d4.1.length+(List.length [(Int.tmod (gD rs d4.2 0) (YA .i64 (1:Int) (Yd h8)))]))*8<=70368744177664)/\(I64 (d4.2+(1:Int)))/\(∃ d5:(List Int)×Int,((rs=rs/\True/\True/\(d4.2+(1:Int))=d5.2/\True)/\(Sa/\(Sp h8)/\((d4.1++[(Int.tmod (gD rs d4.2 0) (YA .i64 (1:Int) (Yd h8)))])=d5.1/\false=d5.1.isEmpty)/\True))/\q4 d5)) /\
   ((decide (d4.2<(lI rs)))=false ->
    ((d4.1.length+(List.length [(1:Int)]))*8<=70368744177664)/\(I64 (d4.2+(1:Int)))/\(∃ d6:(List Int)×Int,((rs=rs/\True/\True/\(d4.2+(1:Int))=d6.2/\True)/\(Sa/\(Sp h8)/\((d4.1++[(1:Int)])=d6.1/\false=d6.1.isEmpty)/\True))/\q4 d6))) /\
  (((d4.2==(0:Int))||((decide (d4.2<(lI rs)))&&(decide (d4.2<(12:Int)))))=false ->
   (((Yd h8)=(pdH h8)/\True/\nS)/\((d4.1=(pdR (pdH h8) rs)/\d4.1.isEmpty=false)/\True)))) d40
def MF:Cx:=⟨[(3,(.i .i64))],[],48,[],0,[],[],[],[],false,[],[],[],[]⟩
def RC (h8:Int) (rs:List Int):List (Nat×LoopAnn):=[(0,⟨Unit,(List Int)×Int,[1,4,5,6],λe x=>[.val (.list (.i .u16)) rs,.box 4 0,.box 5 0,.val (.i .i64) x.2],λe x=>[(4,.slot 4,.cells [.val (.i .i64) (0:Int),.nilS] (some 28)),(5,.slot 5,.cells [.val (.i .i64) ((2:Int)+(Int.tmod h8 (7:Int))),.lst 45] (some 28)),(45,.cell 5 1,.lst 3 (.i .i64) x.1 (List.isEmpty x.1))]⟩)]
theorem Rz (d:Int×List Int):gwp (MF) (RC d.1 d.2) c20 0 (WB [.cell 4 true 2] (Nl d) (N4 d)) (Qn 48 (AL.can Mr d))=Ws d.1 d.2:=by kernel_rfl
abbrev Rp:Prop:=OkC Tryz.prog 20 Vr
theorem Rj (h:∀ (h8:Int) (rs:List Int),(0<=h8/\h8<=255/\rs.length<=9223372036854775807/\∀ x∈rs,0<=x/\x<=65535)->Ws h8 rs):OkC Tryz.prog 20 Vr :=
 Qr Z75 mixed (C:=MF) (V:=λ(d:Int×List Int)=>Ws d.1 d.2) ⟨.nil,XsOk.nil,ItsOk.nil,YlOk.nil,IysOk.nil,XfOk.nil⟩ (Rz) λd hp=>h d.1 d.2 hp
theorem RA:Rp:=Rj λh8 rs h=>by
 obtain⟨h0,h1,h2,h3⟩:=h;unfold Ws;(try delta Yd Sa Sp);(try delta lI gD sT I64 Z6 rg rb zD nS);have hr:=Q07 h0;rw[show 2+Int.tmod h8 7=pdH h8 from rfl];generalize pdH h8=H at hr |-;have hs:YA .i64 1 H=2 ^ H.toNat/\4<=(2:Int) ^ H.toNat/\(2:Int) ^ H.toNat<=256:=by rcases (show H=2\/H=3\/H=4\/H=5\/H=6\/H=7\/H=8 by omega) with h|h|h|h|h|h|h<;>subst h<;>decide
 obtain⟨hs,mi,d_⟩:=hs;rw[hs];obtain⟨k1,k2,k3⟩:=Z2u (rs:=rs) (show 1<=H/\H<=24 by omega);refine⟨by rw[Qc];omega,by decide,by rw[Qc];omega,(),([],0),(by simp_all),?_⟩;refine LoopP.count2 (pdR H rs).length (λk xs=>xs=(pdR H rs).take k) (by simp) λk xs hk hJ q hq=>?_;subst hJ;dsimp only;have cL:((pdR H rs).take k).length=k:=by rw[xP];omega
 have hlen:=Q8k (hk:=H) (rs:=rs);refine⟨λc=>?_,λc=>?_⟩
 .have c:k=0\/k<rs.length/\k<12:=by simp at c;omega
  have aj:k<(pdR H rs).length:=by
   grind
  refine⟨λc2=>?_,λc2=>?_⟩
  .have c2:k<rs.length:=by simpa using c2
   have hx:=h3 _ (by rw[Qf c2];exact zl c2:rs.getD k 0∈rs);have e:=Z41 (hk:=H) c2 (show k<12 by omega);simp only[zd];rw[Int.tmod_eq_emod_of_nonneg hx.1];refine⟨by omega,by omega,by rw[Qc];omega,⟨show (0:Int)<=H by omega,show H<=18446744073709551615 by omega⟩,by omega,by rw[Qc];omega,by omega,by rw[cL,xL];omega,by rw[Qc];omega,((pdR H rs).take (k+1),(k:Int)+1),?_,hq _ aj rfl⟩;rw[List.take_add_one,e];simp_all
  .have c2:¬ k<rs.length:=by simpa using c2
   have k0:k=0:=by omega
   have r0:rs=[]:=x5.1 (by omega);subst k0 r0;refine⟨by simp,by rw[Qc];decide,([1],1),?_,hq [1] aj rfl⟩;simp_all
 grind
def GP:AL ((Int×List (Int×Int×Bool))×List Int):=(.cons (.agg (.cons (.k (.i .i64)) (.one (.k (.list (.pair (.i .i64) (.pair (.i .i64) .bo))))))) (.one (.k (.list (.i .u8)))))
def RF (d:(Int×List (Int×Int×Bool))×List Int):Prop:=d.1.2.length<=60/\d.2.length<=9223372036854775807/\∀ x∈d.2,0<=x/\x<=255
def Mq (d:(Int×List (Int×Int×Bool))×List Int):SV:=.agg [.val (.i .i64) d.1.1,.lst 0]
def Mw (d:(Int×List (Int×Int×Bool))×List Int):List OB:=[.lst 129 (.pair (.i .i64) (.pair (.i .i64) .bo)) (Z16 d.2 d.1.2) false]
def UX:CSp:=Wt GP RF Mq Mw
abbrev DK :=((0:Int)=(0:Int)/\True/\nS)
abbrev Mj (hk:Int):=(hk=hk/\True/\nS)
abbrev Fv :=((0:Int)=(0:Int)/\(0:Int)=(0:Int)/\false=false/\nS)
def Y9 (hk:Int) (cs:List (Int×Int×Bool)) (by_:List Int):Prop :=
 (cs.length<=1000)/\∃ (e3:Unit) (d30:(List (Int×Int×Bool))×Int),((by_=by_/\True/\True/\(0:Int)=d30.2/\True)/\((Mj hk)/\(cs=d30.1/\false=false)/\DK/\True)) /\
 LoopP (λ(d3:(List (Int×Int×Bool))×Int) (q3:((List (Int×Int×Bool))×Int)->Prop) =>
  ((decide (d3.2<(lI d3.1)))=true ->
   (by_.length<=9223372036854775807/\0<=d3.2/\∀ x∈by_,0<=x/\x<=255)/\((lI d3.1)≠0)/\(0<=d3.2)/\(d3.2<d3.1.length)/\(0<=(Int.tmod (Zc by_ d3.2) (lI d3.1)))/\((Int.tmod (Zc by_ d3.2) (lI d3.1))<d3.1.length)/\((by_=by_/\True/\True/\d3.2=d3.2/\(Int.tmod (Zc by_ d3.2) (lI d3.1))=(Int.tmod (Zc by_ d3.2) (lI d3.1))/\True/\True/\((gD d3.1 (Int.tmod (Zc by_ d3.2) (lI d3.1)) (0,(0,false))).1=(gD d3.1 (Int.tmod (Zc by_ d3.2) (lI d3.1)) (0,(0,false))).1/\(gD d3.1 (Int.tmod (Zc by_ d3.2) (lI d3.1)) (0,(0,false))).2.1=(gD d3.1 (Int.tmod (Zc by_ d3.2) (lI d3.1)) (0,(0,false))).2.1/\(gD d3.1 (Int.tmod (Zc by_ d3.2) (lI d3.1)) (0,(0,false))).2.2=(gD d3.1 (Int.tmod (Zc by_ d3.2) (lI d3.1)) (0,(0,false))).2.2/\nS)/\True)/\((Mj hk)/\DK/\((gD d3.1 d3.2 (0,(0,false))).1=(gD d3.1 d3.2 (0,(0,false))).1/\(gD d3.1 d3.2 (0,(0,false))).2.1=(gD d3.1 d3.2 (0,(0,false))).2.1/\(gD d3.1 d3.2 (0,(0,false))).2.2=(gD d3.1 d3.2 (0,(0,false))).2.2/\nS)/\Fv/\(d3.1=d3.1/\false=false)/\True))/\((0<=d3.2)/\(d3.2<d3.1.length)/\(0<=(Int.tmod (Zc by_ d3.2) (lI d3.1)))/\((Int.tmod (Zc by_ d3.2) (lI d3.1))<d3.1.length)/\((by_=by_/\True/\True/\d3.2=d3.2/\(Int.tmod (Zc by_ d3.2) (lI d3.1))=(Int.tmod (Zc by_ d3.2) (lI d3.1))/\True/\True/\((gD d3.1 (Int.tmod (Zc by_ d3.2) (lI d3.1)) (0,(0,false))).1=(gD d3.1 (Int.tmod (Zc by_ d3.2) (lI d3.1)) (0,(0,false))).1/\(gD d3.1 (Int.tmod (Zc by_ d3.2) (lI d3.1)) (0,(0,false))).2.1=(gD d3.1 (Int.tmod (Zc by_ d3.2) (lI d3.1)) (0,(0,false))).2.1/\(gD d3.1 (Int.tmod (Zc by_ d3.2) (lI d3.1)) (0,(0,false))).2.2=(gD d3.1 (Int.tmod (Zc by_ d3.2) (lI d3.1)) (0,(0,false))).2.2/\nS)/\True)/\((Mj hk)/\DK/\((gD d3.1 d3.2 (0,(0,false))).1=(gD d3.1 d3.2 (0,(0,false))).1/\(gD d3.1 d3.2 (0,(0,false))).2.1=(gD d3.1 d3.2 (0,(0,false))).2.1/\(gD d3.1 d3.2 (0,(0,false))).2.2=(gD d3.1 d3.2 (0,(0,false))).2.2/\nS)/\Fv/\(d3.1=d3.1/\false=false)/\True)))/\(0<=(Int.tmod (Zc by_ d3.2) (lI d3.1)))/\((Int.tmod (Zc by_ d3.2) (lI d3.1))<d3.1.length)/\(((Int.tmod (Zc by_ d3.2) (lI d3.1)) != d3.2)=true ->
    (0<=d3.2)/\(d3.2<(List.length (sT d3.1 (Int.tmod (Zc by_ d3.2) (lI d3.1)) ((gD d3.1 d3.2 (0,(0,false))).1,((gD d3.1 d3.2 (0,(0,false))).2.1,(gD d3.1 d3.2 (0,(0,false))).2.2)))))/\(I64 (d3.2+(1:Int)))/\(by_.length<=9223372036854775807/\0<=(d3.2+(1:Int))/\∀ x∈by_,0<=x/\x<=255)/\((3:Int)≠0)/\(0<=d3.2)/\(d3.2<(List.length (sT (sT d3.1 (Int.tmod (Zc by_ d3.2) (lI d3.1)) ((gD d3.1 d3.2 (0,(0,false))).1,((gD d3.1 d3.2 (0,(0,false))).2.1,(gD d3.1 d3.2 (0,(0,false))).2.2))) d3.2 ((gD d3.1 (Int.tmod (Zc by_ d3.2) (lI d3.1)) (0,(0,false))).1,((gD d3.1 (Int.tmod (Zc by_ d3.2) (lI d3.1)) (0,(0,false))).2.1,(gD d3.1 (Int.tmod (Zc by_ d3.2) (lI d3.1)) (0,(0,false))).2.2)))))/\(I64 (d3.2+(1:Int)))/\(∃ d4:(List (Int×Int×Bool))×Int,((by_=by_/\True/\True/\(d3.2+(1:Int))=d4.2/\True)/\((Mj hk)/\((sT (sT (sT d3.1 (Int.tmod (Zc by_ d3.2) (lI d3.1)) ((gD d3.1 d3.2 (0,(0,false))).1,((gD d3.1 d3.2 (0,(0,false))).2.1,(gD d3.1 d3.2 (0,(0,false))).2.2))) d3.2 ((gD d3.1 (Int.tmod (Zc by_ d3.2) (lI d3.1)) (0,(0,false))).1,((gD d3.1 (Int.tmod (Zc by_ d3.2) (lI d3.1)) (0,(0,false))).2.1,(gD d3.1 (Int.tmod (Zc by_ d3.2) (lI d3.1)) (0,(0,false))).2.2))) d3.2 ((gD (sT (sT d3.1 (Int.tmod (Zc by_ d3.2) (lI d3.1)) ((gD d3.1 d3.2 (0,(0,false))).1,((gD d3.1 d3.2 (0,(0,false))).2.1,(gD d3.1 d3.2 (0,(0,false))).2.2))) d3.2 ((gD d3.1 (Int.tmod (Zc by_ d3.2) (lI d3.1)) (0,(0,false))).1,((gD d3.1 (Int.tmod (Zc by_ d3.2) (lI d3.1)) (0,(0,false))).2.1,(gD d3.1 (Int.tmod (Zc by_ d3.2) (lI d3.1)) (0,(0,false))).2.2))) d3.2 (0,(0,false))).1,((gD (sT (sT d3.1 (Int.tmod (Zc by_ d3.2) (lI d3.1)) ((gD d3.1 d3.2 (0,(0,false))).1,((gD d3.1 d3.2 (0,(0,false))).2.1,(gD d3.1 d3.2 (0,(0,false))).2.2))) d3.2 ((gD d3.1 (Int.tmod (Zc by_ d3.2) (lI d3.1)) (0,(0,false))).1,((gD d3.1 (Int.tmod (Zc by_ d3.2) (lI d3.1)) (0,(0,false))).2.1,(gD d3.1 (Int.tmod (Zc by_ d3.2) (lI d3.1)) (0,(0,false))).2.2))) d3.2 (0,(0,false))).2.1,((Int.tmod (Zc by_ (d3.2+(1:Int))) (3:Int))==(0:Int)))))=d4.1/\false=false)/\DK/\True))/\q3 d4)) /\
   (((Int.tmod (Zc by_ d3.2) (lI d3.1)) != d3.2)=false ->
    (I64 (d3.2+(1:Int)))/\(by_.length<=9223372036854775807/\0<=(d3.2+(1:Int))/\∀ x∈by_,0<=x/\x<=255)/\((3:Int)≠0)/\(0<=d3.2)/\(d3.2<(List.length (sT d3.1 (Int.tmod (Zc by_ d3.2) (lI d3.1)) ((gD d3.1 d3.2 (0,(0,false))).1,((gD d3.1 d3.2 (0,(0,false))).2.1,(gD d3.1 d3.2 (0,(0,false))).2.2)))))/\(I64 (d3.2+(1:Int)))/\(∃ d5:(List (Int×Int×Bool))×Int,((by_=by_/\True/\True/\(d3.2+(1:Int))=d5.2/\True)/\((Mj hk)/\((sT (sT d3.1 (Int.tmod (Zc by_ d3.2) (lI d3.1)) ((gD d3.1 d3.2 (0,(0,false))).1,((gD d3.1 d3.2 (0,(0,false))).2.1,(gD d3.1 d3.2 (0,(0,false))).2.2))) d3.2 ((gD (sT d3.1 (Int.tmod (Zc by_ d3.2) (lI d3.1)) ((gD d3.1 d3.2 (0,(0,false))).1,((gD d3.1 d3.2 (0,(0,false))).2.1,(gD d3.1 d3.2 (0,(0,false))).2.2))) d3.2 (0,(0,false))).1,((gD (sT d3.1 (Int.tmod (Zc by_ d3.2) (lI d3.1)) ((gD d3.1 d3.2 (0,(0,false))).1,((gD d3.1 d3.2 (0,(0,false))).2.1,(gD d3.1 d3.2 (0,(0,false))).2.2))) d3.2 (0,(0,false))).2.1,((Int.tmod (Zc by_ (d3.2+(1:Int))) (3:Int))==(0:Int)))))=d5.1/\false=false)/\DK/\True))/\q3 d5))) /\
  ((decide (d3.2<(lI d3.1)))=false ->
   ((Mj hk)/\((d3.1=(Z16 by_ cs)/\false=false)/\True)))) d30
def Gx:Cx:=⟨[],[(62,KZ),(63,M7)],60,[],0,[],[],[],[1,2,4,5,6,7,8,34],false,[],[],[],[]⟩
def SF (hk:Int) (cs:List (Int×Int×Bool)) (by_:List Int):List (Nat×LoopAnn):=[(0,⟨Unit,(List (Int×Int×Bool))×Int,[1,2,4,5],λe x=>[.val (.list (.i .u8)) by_,.box 2 0,.box 4 0,.val (.i .i64) x.2],λe x=>[(2,.slot 2,.cells [.val (.i .i64) hk,.lst 10] (some 66)),(10,.cell 2 1,.lst 129 (.pair (.i .i64) (.pair (.i .i64) .bo)) x.1 false),(4,.slot 4,.cells [.val (.i .i64) (0:Int),.nilS] (some 66))]⟩)]
theorem Lp (d:(Int×List (Int×Int×Bool))×List Int):gwp (Gx) (SF d.1.1 d.1.2 d.2) c24 0 (WB [.cell 4 true 2] (Mq d) (Mw d)) (Qn 60 (AL.can GP d))=Y9 d.1.1 d.1.2 d.2:=by kernel_rfl
abbrev Ch:Prop:=OkC Tryz.prog 24 UX
theorem LP (h:∀ (hk:Int) (cs:List (Int×Int×Bool)) (by_:List Int),(cs.length<=60/\by_.length<=9223372036854775807/\∀ x∈by_,0<=x/\x<=255)->Y9 hk cs by_):OkC Tryz.prog 24 UX :=
 Qr Z95 mixed (C:=Gx) (V:=λ(d:(Int×List (Int×Int×Bool))×List Int)=>Y9 d.1.1 d.1.2 d.2) ⟨(.cons BY (.cons AH .nil)),XsOk.nil,ItsOk.nil,YlOk.nil,IysOk.nil,XfOk.nil⟩ (Lp) λd hp=>h d.1.1 d.1.2 d.2 hp
theorem Cp:Ch:=LP λhk cs by_ h=>by
 obtain⟨h1,h2,h3⟩:=h;unfold Y9;(try delta DK Mj Fv);(try delta lI gD sT I64 Z6 rg rb zD nS);refine⟨by omega,(),(cs,0),(by and_intros<;>first|rfl|trivial|simp),?_⟩;refine LoopP.count2 cs.length (λk xs=>xs=F8 by_ cs k) rfl λk xs hk hJ q hq=>?_;have hl:=Fj by_ cs k;subst hJ;dsimp only;refine⟨λc=>?_,λc=>?_⟩
 .have c:k<(F8 by_ cs k).length:=by simpa using c
  have aj:k<cs.length:=by omega
  have hq:q (Q1u by_ (F8 by_ cs k) k,(k:Int)+1):=hq _ aj rfl;have t1:=Int.tmod_nonneg ((F8 by_ cs k).length:Int) (Q1x h3 (show (0:Int)<=(k:Int) by omega)).1;have t2:=Int.tmod_lt_of_pos (Zc by_ k) (show (0:Int)<((F8 by_ cs k).length:Int) by omega);unfold Q1u Z5l J3h at hq;dsimp only at hq;generalize Int.tmod (Zc by_ (k:Int)) ((F8 by_ cs k).length:Int)=z at *
  obtain⟨z,rfl⟩:=zJ t1;simp only[zd] at hq |-;generalize F8 by_ cs k=X at *
  unfold WY at hq;have j7:((z:Int) != (k:Int))=false->q ((X.set z (X.getD k (0,(0,false)))).set k (((X.set z (X.getD k (0,(0,false)))).getD k (0,(0,false))).1,(((X.set z (X.getD k (0,(0,false)))).getD k (0,(0,false))).2.1,Int.tmod (Zc by_ ((k:Int)+1)) 3==0)),(k:Int)+1):=by
   intro c2;have e:z=k:=by grind
   simp_all
  have l1:∀ u v,(X.set u v).length=cs.length:=(by simp_all);have l2:∀ u v u' v',((X.set u v).set u' v').length=cs.length:=(by simp_all)
  repeat' (first
   |with_reducible refine And.intro ?_ ?_
   |assumption
   |omega
   |(rw[Qc];omega)
   |(rw[l1];omega)
   |(rw[l2];omega)
   |rfl
   |trivial
   |decide
   |(refine⟨_,?_,hq⟩;and_intros<;>first|rfl|trivial)
   |(refine⟨_,?_,j7 (by assumption)⟩;and_intros<;>first|rfl|trivial)
   |intro c2)
 .have c:¬ k<(F8 by_ cs k).length:=by simpa using c
  have aw:k=cs.length:=by omega
  subst aw;and_intros<;>first|rfl|trivial
def GR:AL (Unit):=.nil
def RS (d:Unit):Prop:=True
def My (d:Unit):SV:=.val .bo true
def Mu (d:Unit):List OB:=[]
def UH:CSp:=Wt GR RS My Mu
abbrev S0 :=((((((Jd (4:Int) [((0:Int),((1:Int),false)),((3:Int),((8:Int),false)),((1:Int),((2:Int),false)),((2:Int),((4:Int),false)),((4:Int),((15:Int),false))] (0:Int) [(1:Int),(1:Int),(0:Int),(2:Int)])==(0:Int))&&((QL (4:Int) [((0:Int),((1:Int),false)),((3:Int),((8:Int),false)),((1:Int),((2:Int),false)),((2:Int),((4:Int),false)),((4:Int),((15:Int),false))])==(0:Int)))&&((0:Int)==(0:Int)))&&((Th (4:Int) [((0:Int),((1:Int),false)),((3:Int),((8:Int),false)),((1:Int),((2:Int),false)),((2:Int),((4:Int),false)),((4:Int),((15:Int),false))] (0:Int) [(1:Int),(1:Int),(0:Int),(2:Int)])==[(1:Int),(8:Int),(2:Int),(2:Int)]))&&((Md (4:Int) [((0:Int),((1:Int),false)),((3:Int),((8:Int),false)),((1:Int),((2:Int),false)),((2:Int),((4:Int),false)),((4:Int),((15:Int),false))] (0:Int) [(1:Int),(1:Int),(0:Int),(2:Int)])==(4:Int)))
abbrev Pn :=([((0:Int),((1:Int),false)),((3:Int),((8:Int),false)),((1:Int),((2:Int),false)),((2:Int),((4:Int),false)),((4:Int),((15:Int),false))].length<=1000)
abbrev EP :=((((Jd (4:Int) [((0:Int),((1:Int),false)),((3:Int),((8:Int),false)),((1:Int),((2:Int),false)),((2:Int),((4:Int),false)),((4:Int),((15:Int),false))] (0:Int) [(1:Int),(1:Int),(0:Int),(2:Int)])==(0:Int))&&((QL (4:Int) [((0:Int),((1:Int),false)),((3:Int),((8:Int),false)),((1:Int),((2:Int),false)),((2:Int),((4:Int),false)),((4:Int),((15:Int),false))])==(0:Int)))&&((0:Int)==(0:Int)))
abbrev zthain_3 :=(Q09 (4:Int) [((0:Int),((1:Int),false)),((3:Int),((8:Int),false)),((1:Int),((2:Int),false)),((2:Int),((4:Int),false)),((4:Int),((15:Int),false))])
abbrev P4 :=((4:Int),((15:Int),false))
abbrev PD :=((0:Int),((1:Int),false))
abbrev Pd :=((3:Int),((8:Int),false))
abbrev P_ :=((1:Int),((2:Int),false))
abbrev PX :=((2:Int),((4:Int),false))
def Y6 :Prop :=
 Pn/\([PD,Pd,P_,PX,P4].length<=1000/\[(1:Int),(1:Int),(0:Int),(2:Int)].length<=1000)/\Pn/\Pn/\Pn/\(QJ (4:Int) [PD,Pd,P_,PX,P4]=0/\[(8:Int),(2:Int),(2:Int),(-1:Int),(1:Int)].length<=60/\(∀ r∈[(8:Int),(2:Int),(2:Int),(-1:Int),(1:Int)],-1<=r/\r<2 ^ (4:Int).toNat)/\0<=(2:Int)/\(2:Int)<=6)/\(EP=true->True)/\(EP=true->(Th (4:Int) [PD,Pd,P_,PX,P4] (0:Int) [(1:Int),(1:Int),(0:Int),(2:Int)]).length<=1000000)/\(S0=true->True)/\(S0=true->zthain_3.length<=1000000)/\(((S0&&(zthain_3==[(1:Int)]))&&((Q01 (4:Int) [PD,Pd,P_,PX,P4] [(8:Int),(2:Int),(2:Int),(-1:Int),(1:Int)] (2:Int))==(2:Int)))=true/\(True))
def Gq:Cx:=⟨[(3,(.i .i64)),(129,(.pair (.i .i64) (.pair (.i .i64) .bo)))],[(62,KZ),(25,V6),(70,NH),(71,GD),(16,Y2)],65,[],0,[],[],[],[],false,[],[],[],[]⟩
def SD :List (Nat×LoopAnn):=[]
theorem L5 (d:Unit):gwp (Gq) (SD ) c30 0 (WB [.tmp 0] (My d) (Mu d)) (Qn 65 (AL.can GR d))=Y6 :=by kernel_rfl
abbrev Ln:Prop:=OkC Tryz.prog 30 UH
theorem Lr (h:(True)->Y6 ):OkC Tryz.prog 30 UH :=
 Qr Z60 mixed (C:=Gq) (V:=λ(d:Unit)=>Y6 ) ⟨(.cons BY (.cons H3 (.cons Ax (.cons Ie (.cons UU .nil))))),XsOk.nil,ItsOk.nil,YlOk.nil,IysOk.nil,XfOk.nil⟩ (L5) λd hp=>h  hp
theorem SZ:Ln:=Lr λ_=>by
 unfold Y6;(try delta S0 Pn EP zthain_3 P4 PD Pd P_ PX);(try delta lI gD sT I64 Z6 rg rb zD nS);have e1:Jd 4 [(0,(1,false)),(3,(8,false)),(1,(2,false)),(2,(4,false)),(4,(15,false))] 0 [1,1,0,2]=0:=by decide +kernel
 have e2:QL 4 [(0,(1,false)),(3,(8,false)),(1,(2,false)),(2,(4,false)),(4,(15,false))]=0:=by decide +kernel
 have e3:Th 4 [(0,(1,false)),(3,(8,false)),(1,(2,false)),(2,(4,false)),(4,(15,false))] 0 [1,1,0,2]=[1,8,2,2]:=by decide +kernel
 have e4:Md 4 [(0,(1,false)),(3,(8,false)),(1,(2,false)),(2,(4,false)),(4,(15,false))] 0 [1,1,0,2]=4:=by decide +kernel
 have e5:Q09 4 [(0,(1,false)),(3,(8,false)),(1,(2,false)),(2,(4,false)),(4,(15,false))]=[1]:=by decide +kernel
 have e6:Q01 4 [(0,(1,false)),(3,(8,false)),(1,(2,false)),(2,(4,false)),(4,(15,false))] [8,2,2,-1,1] 2=2:=Q5r;have e7:QJ 4 [(0,(1,false)),(3,(8,false)),(1,(2,false)),(2,(4,false)),(4,(15,false))]=0:=by decide +kernel
 simp only[e1,e2,e3,e4,e5,e6,e7];and_intros<;>first|decide|exactλ_=>by decide
theorem Q9u {rows:List Int}{i:Nat}(h:i<rows.length):(Ro rows).getD i WY=((i:Int),(rows.getD i 0,false)):=by rw[Qf (by simpa [Ro] using h)];simp[Ro]
theorem DY (rows:List Int):(Ro rows).length=rows.length:=by simp[Ro]
theorem Z4z {n:Nat}{k:Nat}(h:k<n):(List.replicate n (1:Int)).getD k 0=1:=by rw[Qf (by simpa using h)];simp
theorem E_ {n m:Nat}(hn:0<n):∀ k,k<=m->k<n->atK n 0 (List.replicate m (1:Int)) k=(k:Int)
 |0,_,_=>rfl
 |k+1,hk,eX=>by have ih:=E_ hn k (by omega) (by omega) (m:=m);unfold atK;rw[ih,Z4z (by omega),Int.tmod_eq_emod_of_nonneg (by omega),Int.emod_eq_of_lt (by omega) (by omega)];rfl
theorem Q8r {n:Nat}(hn:0<n):atK n 0 (List.replicate n (1:Int)) n=0:=by obtain⟨m,rfl⟩:∃ m,n=m+1:=⟨n-1,by omega⟩;have ih:=E_ (n:=m+1) (m:=m+1) hn m (by omega) (by omega);unfold atK;simp_all
theorem LB {hk:Int}{rows:List Int}{L:List YB}(h1:1<=hk/\hk<=24) (hr:∀ x∈rows,0<=x/\x<2 ^ hk.toNat) (hl:L.length=rows.length) (h0:rows≠[]) (oA:rows.length<=60) (hb:∀ c∈L,0<=c.1/\c.1<rows.length/\c.2.1=rows.getD c.1.toNat 0):QJ hk L=0:=by
 unfold QJ;have i1:inI hk 1 24=true:=by unfold inI;simp_all
 rw[z7 (by rw[i1];decide),z7 (by omega),z7];rintro (h|h)
 .grind
 .obtain⟨c,hc,bw⟩:=xE.1 h;obtain⟨c1,c2,c3⟩:=hb c hc;have aj:c.1.toNat<rows.length:=by omega
  have h4:=hr (rows.getD c.1.toNat 0) (by rw[Qf aj];exact zl aj);rw[<-c3] at h4;have:Zv hk c=true:=by
   unfold Zv inI
   grind
  rw[this] at bw;cases bw
theorem Q0m {hk:Int}{rows:List Int}(h1:1<=hk/\hk<=24) (hr:∀ x∈rows,0<=x/\x<2 ^ hk.toNat) (h0:rows≠[]) (oA:rows.length<=60) :
  Jd hk (Ro rows) 0 (List.replicate rows.length 1)=0/\Th hk (Ro rows) 0 (List.replicate rows.length 1)=rows/\Md hk (Ro rows) 0 (List.replicate rows.length 1)=0:=by
 have hn:0<rows.length:=zW.2 h0;have be:QJ hk (Ro rows)=0:=LB h1 hr (DY rows) h0 oA λc hc=>by obtain⟨i,hi,rfl⟩:=zS.1 hc;simp_all
 have we:Jd hk (Ro rows) 0 (List.replicate rows.length 1)=0:=by
  unfold Jd;rw[z7 (by omega),DY,z7,z7 (by simpa using oA),z7]
  .rw[xE];rintro⟨x,hx,hb⟩;rw[(List.mem_replicate.1 hx).2] at hb;cases hb
  .rw[show inI 0 0 ((rows.length:Int)-1)=true by unfold inI;rw[x3 (by omega),x3 (by omega)];rfl];decide
 refine⟨we,?_,?_⟩
 .unfold Th;rw[z6 we,xK];refine List.ext_getElem (Oh _ _ _ _ _) λi h2 h3=>?_;simp only[AR,xN,List.getElem_range];rw[DY,E_ hn i (by omega) h3,zd,Q9u h3,Qf h3];rfl
 .unfold Md;rw[z6 we,xK,DY];exact Q8r hn
theorem Q0v {hk:Int}{rows:List Int}(h1:1<=hk/\hk<=24) (hr:∀ x∈rows,0<=x/\x<2 ^ hk.toNat) (h0:rows≠[]) (oA:rows.length<=60):WR hk rows=0:=by
 unfold WR;have i1:inI hk 1 24=true:=by unfold inI;simp_all
 rw[z7 (by rw[i1];decide),z7 (by omega),z7 h0,z7];rw[xE];rintro⟨x,hx,hb⟩;have:=hr x hx;rw[show inI x 0 (2 ^ hk.toNat-1)=true by unfold inI;rw[x3 (by omega),x3 (by omega)];rfl] at hb;cases hb
structure MarkI (rows:List Int) (L:List YB):Prop where
 len:L.length=rows.length
 val:∀ c∈L,0<=c.1/\c.1<rows.length/\c.2.1=rows.getD c.1.toNat 0
 nd:(L.map (·.1)).Nodup
theorem Z1d (rows:List Int):MarkI rows (Ro rows):=by
 refine⟨DY rows,λc hc=>?_,?_⟩
 .obtain⟨i,hi,rfl⟩:=zS.1 hc;simp_all
 .unfold Ro
  grind [List.map_map,List.nodup_range]
theorem MarkI.perm {rows:List Int}{L M:List YB}(h:MarkI rows L) (hp:M.Perm L):MarkI rows M :=
 ⟨hp.length_eq.trans h.len,λc hc=>h.val c (hp.mem_iff.1 hc),(hp.map (·.1)).nodup_iff.2 h.nd⟩
theorem MarkI.set {rows:List Int}{L:List YB}(h:MarkI rows L) {k:Nat}(hk:k<L.length) (b:Bool):MarkI rows (L.set k ((L.getD k WY).1,((L.getD k WY).2.1,b))):=by
 refine⟨by rw[zE];exact h.len,λc hc=>?_,?_⟩
 .rcases List.mem_or_eq_of_mem_set hc with hc|rfl
  .exact h.val c hc
  .rw[Qf hk];exact h.val L[k] (zl hk)
 .have e:(L.set k ((L.getD k WY).1,((L.getD k WY).2.1,b))).map (·.1)=L.map (·.1):=by
   rw[List.map_set,Qf hk];refine List.ext_getElem (by simp) λi h1 h2=>?_
   grind
  rw[e];exact h.nd
theorem MarkI.mix {rows by_:List Int}{L:List YB}(h:MarkI rows L) (hb:∀ x∈by_,0<=x/\x<=255):∀ m,m<=L.length->MarkI rows (F8 by_ L m)
 |0,_=>h
 |m+1,hm=>by
  have ih:=MarkI.mix h hb m (by omega);have hl:=Fj by_ L m;have t1:=Int.tmod_nonneg ((F8 by_ L m).length:Int) (Q1x hb (show (0:Int)<=(m:Int) by omega)).1;have t2:=Int.tmod_lt_of_pos (Zc by_ m) (show (0:Int)<((F8 by_ L m).length:Int) by omega);have hk:Z5l by_ m (F8 by_ L m).length<(F8 by_ L m).length:=by unfold Z5l;omega
  have sw:=Q54 (l:=F8 by_ L m) (i:=Z5l by_ m (F8 by_ L m).length) (k:=m) (d:=WY) hk (by omega);have ip:=ih.perm sw;exact ip.set (k:=m) (by rw[zE,zE];omega) _
theorem Q0i {hk:Int}{rows:List Int}{L:List YB}(h:MarkI rows L) (hb:QJ hk L=0):QL hk L=0:=by unfold QL;rw[z7 (by omega),z7,z6 h.nd];intro hm;obtain⟨c,hc,e⟩:=zS.1 hm;have:=(h.val c hc).1;omega
def J4k:Nat->Nat->List Int
 |0,_=>[]
 |f+1,n=>if n=0 then [] else (tzN n:Int)::J4k f (n &&& (n-1))
def Wz (n:Nat):List Int:=J4k n n
abbrev Des:=Int×List Int
def ZV (l:List Des):Int:=if 10<l.length then 5 else if l=[] then 7 else if Uz l≠0 then Uz l else if l.any (λd=>decide (d.1≠(l.getD 0 (0,[])).1)||decide (d.2.length≠(l.getD 0 (0,[])).2.length)) then 4 else 0
def Jh (w:Int) (l:List Des):Int:=if ZV l≠0 then ZV l else if w=1\/w=2 then 0 else 2
def Ub (h:Int) (t:Bool) (rows:List Int):List Int:=if t then rows.map λr=>((r.toNat ^^^ (2 ^ h.toNat-1):Nat):Int) else rows
def OA (w:Int) (l:List Des):Int:=if Jh w l=0 then (l.getD 0 (0,[])).1 else 0
def Z47 (a b:List Int) (i:Nat):Nat:=(a.getD i 0).toNat ^^^ ((a.getD i 0).toNat &&& (b.getD i 0).toNat)
def Q3x (a b:List Int):Bool:=(List.range b.length).all λi=>(b.getD i 0).toNat ^^^ ((b.getD i 0).toNat &&& (a.getD i 0).toNat)==0
def Q5l (a b:List Int):Nat->Nat
 |0=>0
 |k+1=>Q5l a b k+pcN 24 (Z47 a b k)
def Q64 (a b:List Int):Int:=if Q3x a b then (Q5l a b b.length:Nat) else 0
def Q5m (w hd:Int) (rows:List Int) (aR:Int) (ao:List Int):Bool:=if Jh w [(hd,rows),(aR,ao)]=0 then Q3x (Ub hd (w==2) rows) (Ub hd (w==2) ao) else false
def Q5j (w hd:Int) (rows:List Int) (aR:Int) (ao:List Int):Int:=if Jh w [(hd,rows),(aR,ao)]=0 then Q64 (Ub hd (w==2) rows) (Ub hd (w==2) ao) else 0
def AX (ss:List (List Int)) (i:Nat):Nat:=ss.foldl (λa s=>a ||| (s.getD i 0).toNat) 0
def D_ (ss:List (List Int)):List Int:=(List.range (ss.getD 0 []).length).map λi=>((AX ss i:Nat):Int)
theorem DZ {a b:Nat}(ha:a<2 ^ 62) (hb:b<2 ^ 62):Qb .andNot .i64 (a:Int) (b:Int)=((a ^^^ (a &&& b):Nat):Int)/\a ^^^ (a &&& b)<=a:=by
 have rp:∀ i,(a ^^^ (a &&& b)).testBit i=(a.testBit i&&!b.testBit i):=(by grind);have e:(BitVec.ofInt 64 ((a:Nat):Int) &&& ~~~BitVec.ofInt 64 ((b:Nat):Int)).toNat=a ^^^ (a &&& b):=by
  rw[BitVec.toNat_and,BitVec.toNat_not,BitVec.toNat_ofInt,BitVec.toNat_ofInt];have h1:(((a:Nat):Int) % ((2 ^ 64:Nat):Int)).toNat=a:=by omega
  have h2:(((b:Nat):Int) % ((2 ^ 64:Nat):Int)).toNat=b:=by omega
  rw[h1,h2];refine Nat.eq_of_testBit_eq λi=>?_;rw[rp,Nat.testBit_and,show 2 ^ 64-1-b=2 ^ 64-(b+1) by omega,Nat.testBit_two_pow_sub_succ (by omega)];by_cases hi:i<64
  .rw[x3 hi];rfl
  .rw[Nat.testBit_lt_two_pow (show a<2 ^ i from zH ha (Nat.pow_le_pow_right (by omega) (by omega)))];rfl
 have hle:a ^^^ (a &&& b)<=a:=by have:a ^^^ (a &&& b)=a &&& (a ^^^ (a &&& b)):=(by grind);rw[this];exact Nat.and_le_left
 refine⟨?_,hle⟩;show IntKind.wrap .i64 ((BitVec.ofInt 64 ((a:Nat):Int) &&& ~~~BitVec.ofInt 64 ((b:Nat):Int)).toNat:Int)=_;rw[e];generalize a ^^^ (a &&& b)=c at *
 simp[IntKind.wrap,IntKind.bits,IntKind.signed];omega
theorem J2g {hd:Int}{rows:List Int}(h:Qs hd rows=0):1<=hd/\hd<=24/\rows.length<=60/\rows.length≠0/\∀ x∈rows,0<=x/\x<2 ^ hd.toNat:=by
 unfold Qs at h;split at h
 .cases h
 .rename_i h1;split at h
  .cases h
  .rename_i h2;split at h
   .cases h
   .rename_i h3;split at h
    .cases h
    .rename_i h4;have h1:1<=hd/\hd<=24:=by simpa [inI] using h1
     refine⟨h1.1,h1.2,by omega,h3,λx hx=>?_⟩;have h5:∀ x∈rows,inI x 0 (2 ^ hd.toNat-1)=true:=by simpa using h4
     have:=h5 x hx;simp only[inI,z0,zh] at this;omega
def Q61 (w hd:Int) (l:List Int) (b:Int):List Int:=l.set ((b.toNat / 8) % l.length) (if w=1 then (((l.getD ((b.toNat / 8) % l.length) 0).toNat ^^^ ((l.getD ((b.toNat / 8) % l.length) 0).toNat &&& 2 ^ (b.toNat % hd.toNat)):Nat):Int) else (((l.getD ((b.toNat / 8) % l.length) 0).toNat ||| 2 ^ (b.toNat % hd.toNat):Nat):Int))
def Q92 (w hd:Int) (rows by_:List Int):List Int:=(by_.take 6).foldl (Q61 w hd) rows
def Ec (w hd:Int) (rows:List Int) (by_:List (List Int)):List Des:=if by_=[] then [(hd,Q92 w hd rows [9,2])] else (by_.take 5).map λs=>(hd,Q92 w hd rows s)
def Ti (w:Int) (l:List Des):List Int:=if Jh w l=0 then Ub (l.getD 0 (0,[])).1 (w==2) (D_ (l.map λd=>Ub (l.getD 0 (0,[])).1 (w==2) d.2)) else []
def SubR (R V:List Int):Prop:=V.length=R.length/\∀ k,k<R.length->0<=V.getD k 0/\(V.getD k 0).toNat &&& (R.getD k 0).toNat=(V.getD k 0).toNat
theorem SubR.refl {R:List Int}(h:∀ x∈R,0<=x):SubR R R:=⟨rfl,(by simp_all)⟩
theorem SubR.ok {R V:List Int}{n:Nat}(h:SubR R V) (hr:∀ x∈R,0<=x/\x<2 ^ n):∀ x∈V,0<=x/\x<2 ^ n:=λx hx=>by
 obtain⟨i,hi,rfl⟩:=List.getElem_of_mem hx;have gA:i<R.length:=by have:=h.1;omega
 obtain⟨a,b⟩:=h.2 i gA
 grind [XX,Nat.and_le_right,Qf]
theorem Q7v {x m r:Nat}(h:x &&& r=x):(x ^^^ (x &&& m)) &&& r=x ^^^ (x &&& m):=by
 grind
theorem SubR.los {R V:List Int}{hd b:Int}(h:SubR R V) (hR:R≠[]):SubR R (Q61 1 hd V b):=by
 have hl:=h.1;have bh:0<R.length:=zW.2 hR;unfold Q61;rw[z6 rfl];refine⟨by rw[zE];exact hl,λk hk=>?_⟩;obtain⟨a,c⟩:=h.2 k hk;by_cases e:(b.toNat / 8) % V.length=k
 .grind [Qf,List.length_set,List.getElem_set_self,Int.toNat_natCast,Q7v]
 simp_all
theorem Z3j {R:List Int}{hd:Int}{by_:List Int}(hR:R≠[]) (h:∀ x∈R,0<=x):SubR R (Q92 1 hd R by_):=by
 unfold Q92;generalize by_.take 6=l;have:∀ (l V:List Int),SubR R V->SubR R (l.foldl (Q61 1 hd) V):=by
  intro l;induction l with
  |nil=>exactλV hV=>hV
  |cons b l ih=>exactλV hV=>ih _ (hV.los hR)
 exact this l R (.refl h)
theorem Sg {ss:List (List Int)}{k i:Nat}:(AX ss k).testBit i=ss.any λs=>(s.getD k 0).toNat.testBit i:=by
 have:∀ (l:List (List Int)) (a:Nat),(l.foldl (λa s=>a ||| (s.getD k 0).toNat) a).testBit i=(a.testBit i||l.any λs=>(s.getD k 0).toNat.testBit i):=by
  intro l;induction l with
  |nil=>intro a;simp
  |cons s l ih=>intro a;rw[xY,ih,Nat.testBit_or,List.any_cons,Bool.or_assoc]
 unfold AX;rw[this ss 0];simp
theorem Z4d {ss:List (List Int)}{k:Nat}(hk:k<(ss.getD 0 []).length):(D_ ss).getD k 0=((AX ss k:Nat):Int):=by unfold D_;simp_all
theorem Q2e {ss:List (List Int)}:(D_ ss).length=(ss.getD 0 []).length:=by simp[D_]
theorem Gw {α:Type}{l:List α}{d:α}(h:l≠[]):l.getD 0 d∈l:=by
 grind
theorem Z10 {R:List Int}{ss:List (List Int)}(hn:ss≠[]) (h:∀ s∈ss,SubR R s):SubR R (D_ ss)/\(∀ s∈ss,SubR (D_ ss) s)/\(R∈ss->(∀ x∈R,0<=x)->D_ ss=R):=by
 have h0:(ss.getD 0 []).length=R.length:=(h _ (Gw hn)).1;have hl:(D_ ss).length=R.length:=by rw[Q2e,h0]
 have dh:∀ k,k<R.length->(D_ ss).getD k 0=((AX ss k:Nat):Int):=λk hk=>Z4d (by omega);have fh:SubR R (D_ ss):=⟨hl,λk hk=>by
  rw[dh k hk,zd];refine⟨by omega,Nat.eq_of_testBit_eq λi=>?_⟩;rw[Nat.testBit_and,Sg];cases hb:ss.any λs=>(s.getD k 0).toNat.testBit i with
  |false=>rfl
  |true =>
   obtain⟨s,hs,hb⟩:=xE.1 hb;have:=congrArg (λz=>z.testBit i) ((h s hs).2 k hk).2;simp only[Nat.testBit_and,hb,Bool.true_and] at this;rw[this];rfl⟩
 have dw:∀ s∈ss,SubR (D_ ss) s:=λs hs=>⟨by rw[(h s hs).1,hl],λk hk=>by
  rw[hl] at hk;refine⟨((h s hs).2 k hk).1,Nat.eq_of_testBit_eq λi=>?_⟩;rw[dh k hk,zd,Nat.testBit_and,Sg]
  grind⟩
 refine⟨fh,dw,λhR hp=>List.ext_getElem hl λk h1 h2=>?_⟩;have a:=(fh.2 k h2).2;have b:=((dw R hR).2 k h1).2
 grind [XX,Qf]
theorem Z0j {R F:List Int}(h:SubR R F):Q3x R F=true:=by unfold Q3x;rw[zf];intro k hk;rw[((h.2 k (by have:=xk.1 hk;have:=h.1;omega))).2,Nat.xor_self];rfl
theorem Q78 (R:List Int):Q64 R R=0:=by
 have h0:pcN 24 0=0:=by decide +kernel
 have:∀ k,Q5l R R k=0:=by
  intro k;induction k with
  |zero=>rfl
  |succ k ih=>unfold Q5l Z47;rw[ih,Nat.and_self,Nat.xor_self,h0]
 unfold Q64;rw[this];split<;>rfl
theorem Z0k {r f v:Nat}(h:v &&& f=v):v &&& (r ^^^ (r &&& f))=0:=by
 grind
theorem Z5x {w hd:Int}{R:List Int}{by_:List (List Int)}:Ec w hd R by_≠[]/\(Ec w hd R by_).length<=5:=by
 unfold Ec
 grind
theorem Z4x {hd:Int}{R:List Int}{by_:List (List Int)}(hR:R≠[]) (h:∀ x∈R,0<=x):∀ d∈Ec 1 hd R by_,d.1=hd/\SubR R d.2:=λd po=>by
 unfold Ec at po
 grind [List.mem_singleton,Z3j]
def Dh:AL ((Int×List Int)×List (Int×List Int)):=(.cons (.agg (.cons (.k (.i .i64)) (.one (.k (.list (.i .i64)))))) (.one (.ptr (.one (.k (.list (.pair (.i .i64) (.list (.i .i64)))))))))
def Rr (d:(Int×List Int)×List (Int×List Int)):Prop:=d.2≠[]
def Mz (d:(Int×List Int)×List (Int×List Int)):SV:=.val .bo (decide (d.1.1≠(d.2.getD 0 (0,[])).1)||decide (d.1.2.length≠(d.2.getD 0 (0,[])).2.length))
def MB (d:(Int×List Int)×List (Int×List Int)):List OB:=[]
def UP:CSp:=Wt Dh Rr Mz MB
def Y5 (hd:Int) (rows:List Int) (l:List (Int×List Int)):Prop :=
 (0<=(0:Int))/\((0:Int)<l.length)/\((hd != (gD l (0:Int) (0,[])).1)=false->0<=(0:Int))/\((hd != (gD l (0:Int) (0,[])).1)=false->(0:Int)<l.length)/\(((hd != (gD l (0:Int) (0,[])).1)||((lI rows) != (((List.length (gD l (0:Int) (0,[])).2):Nat):Int)))=(decide (hd≠(l.getD 0 (0,[])).1)||decide (rows.length≠(l.getD 0 (0,[])).2.length))/\(True))
def GG:Cx:=⟨[],[],22,[],0,[],[],[],[],false,[],[],[],[]⟩
def SE (hd:Int) (rows:List Int) (l:List (Int×List Int)):List (Nat×LoopAnn):=[]
theorem SU (d:(Int×List Int)×List (Int×List Int)):gwp (GG) (SE d.1.1 d.1.2 d.2) J12 0 (WB [.tmp 3] (Mz d) (MB d)) (Qn 22 (AL.can Dh d))=Y5 d.1.1 d.1.2 d.2:=by kernel_rfl
abbrev Lh:Prop:=OkC Tryz.prog 111 UP
theorem Lt (h:∀ (hd:Int) (rows:List Int) (l:List (Int×List Int)),(l≠[])->Y5 hd rows l):OkC Tryz.prog 111 UP :=
 Qr Z35 mixed (C:=GG) (V:=λ(d:(Int×List Int)×List (Int×List Int))=>Y5 d.1.1 d.1.2 d.2) ⟨.nil,XsOk.nil,ItsOk.nil,YlOk.nil,IysOk.nil,XfOk.nil⟩ (SU) λd hp=>h d.1.1 d.1.2 d.2 hp
theorem Ca:Lh:=Lt λhd rows l h=>by unfold Y5;grind
def Zr:AL ((List (Int×List Int))×((Int×List Int->Prop)×(Int×List Int->Bool))):=(.cons (.k (.list (.pair (.i .i64) (.list (.i .i64))))) (.one (.fn [(.pair (.i .i64) (.list (.i .i64)))] .bo)))
def Xb (d:(List (Int×List Int))×((Int×List Int->Prop)×(Int×List Int->Bool))):Prop:=d.1.length<=1000000/\∀ x∈d.1,d.2.1 x
def Zo (d:(List (Int×List Int))×((Int×List Int->Prop)×(Int×List Int->Bool))):SV:=.val (.i .i64) (Q0o d.1 d.2.2)
def Zp (d:(List (Int×List Int))×((Int×List Int->Prop)×(Int×List Int->Bool))):List OB:=[]
def QM:CSp:=Wt Zr Xb Zo Zp
def Qo (l:List (Int×List Int)) (p:(Int×List Int->Prop)×(Int×List Int->Bool)):Prop :=
 ∃ (e2:Unit) (d20:Int),((l=l/\(SV.pf [(.pair (.i .i64) (.list (.i .i64)))] .bo p.1 p.2=SV.pf [(.pair (.i .i64) (.list (.i .i64)))] .bo p.1 p.2)/\(lI l)=(lI l)/\(0:Int)=d20/\True)/\(True)) /\
 LoopP (λ(d2:Int) (q2:(Int)->Prop) =>
  ((decide (d2<(lI l)))=true ->
   (0<=d2)/\(d2<l.length)/\(p.1 ((gD l d2 (0,[])).1,(gD l d2 (0,[])).2))/\((p.2 ((gD l d2 (0,[])).1,(gD l d2 (0,[])).2))=true ->
    (d2=(Q0o l p.2)/\(True))) /\
   ((p.2 ((gD l d2 (0,[])).1,(gD l d2 (0,[])).2))=false ->
    (I64 (d2+(1:Int)))/\(∃ d3:Int,((l=l/\(SV.pf [(.pair (.i .i64) (.list (.i .i64)))] .bo p.1 p.2=SV.pf [(.pair (.i .i64) (.list (.i .i64)))] .bo p.1 p.2)/\(lI l)=(lI l)/\(d2+(1:Int))=d3/\True)/\(True))/\q2 d3))) /\
  ((decide (d2<(lI l)))=false ->
   ((-1:Int)=(Q0o l p.2)/\(True)))) d20
def Zs:Cx:=⟨[],[],19,[],0,[],[],[],[],false,[],[],[],[]⟩
def Xk (l:List (Int×List Int)) (p:(Int×List Int->Prop)×(Int×List Int->Bool)):List (Nat×LoopAnn):=[(0,⟨Unit,Int,[0,1,7,8],λe x=>[.val (.list (.pair (.i .i64) (.list (.i .i64)))) l,.pf [(.pair (.i .i64) (.list (.i .i64)))] .bo p.1 p.2,.val (.i .i64) ((l.length:Nat):Int),.val (.i .i64) x],λe x=>[]⟩)]
theorem Xl (d:(List (Int×List Int))×((Int×List Int->Prop)×(Int×List Int->Bool))):gwp (Zs) (Xk d.1 d.2) J2a 0 (WB [.tmp 4] (Zo d) (Zp d)) (Qn 19 (AL.can Zr d))=Qo d.1 d.2:=by kernel_rfl
abbrev Xq:Prop:=OkC Tryz.prog 141 QM
theorem Xn (h:∀ (l:List (Int×List Int)) (p:(Int×List Int->Prop)×(Int×List Int->Bool)),(l.length<=1000000/\∀ x∈l,p.1 x)->Qo l p):OkC Tryz.prog 141 QM :=
 Qr Z1t mixed (C:=Zs) (V:=λ(d:(List (Int×List Int))×((Int×List Int->Prop)×(Int×List Int->Bool)))=>Qo d.1 d.2) ⟨.nil,XsOk.nil,ItsOk.nil,YlOk.nil,IysOk.nil,XfOk.nil⟩ (Xl) λd hp=>h d.1 d.2 hp
theorem Xp:Xq:=Xn λl p hp=>by
 unfold Qo;(try delta lI gD sT I64 Z6 rg rb zD nS);simp only[true_and,and_true,exists_eq_left',exists_const,zh,zz];refine LoopP.count l.length (λk=>(l.take k).any p.2=false) (by simp) λk bp hJ q hq=>?_;simp only[zd,Int.ofNat_lt,Qc];refine⟨λaj=>?_,λbI=>?_⟩
 .grind [Qf,List.getElem_mem,Q04,QV]
 grind [List.take_of_length_le,Cq]
def Zd:AL ((List (Int×List Int))×((Int×List Int->Prop)×(Int×List Int->Bool))):=(.cons (.k (.list (.pair (.i .i64) (.list (.i .i64))))) (.one (.fn [(.pair (.i .i64) (.list (.i .i64)))] .bo)))
def JJ (d:(List (Int×List Int))×((Int×List Int->Prop)×(Int×List Int->Bool))):Prop:=d.1.length<=1000000/\∀ x∈d.1,d.2.1 x
def Za (d:(List (Int×List Int))×((Int×List Int->Prop)×(Int×List Int->Bool))):SV:=.val .bo (d.1.any d.2.2)
def Z8 (d:(List (Int×List Int))×((Int×List Int->Prop)×(Int×List Int->Bool))):List OB:=[]
def QB:CSp:=Wt Zd JJ Za Z8
def Qm (l:List (Int×List Int)) (p:(Int×List Int->Prop)×(Int×List Int->Bool)):Prop :=
 (l.length<=1000000/\∀ x∈l,(λ(x1:Int×List Int)=>p.1 (x1.1,x1.2)) x)/\((decide ((Q0o l (λ(x1:Int×List Int)=>(p.2 (x1.1,x1.2))))>=(0:Int)))=(l.any p.2)/\(True))
def Zh:Cx:=⟨[],[(141,QM)],9,[],0,[],[],[],[],false,[],[],[],[]⟩
def JZ (l:List (Int×List Int)) (p:(Int×List Int->Prop)×(Int×List Int->Bool)):List (Nat×LoopAnn):=[]
theorem JV (d:(List (Int×List Int))×((Int×List Int->Prop)×(Int×List Int->Bool))):gwp (Zh) (JZ d.1 d.2) J21 0 (WB [.tmp 4] (Za d) (Z8 d)) (Qn 9 (AL.can Zd d))=Qm d.1 d.2:=by kernel_rfl
abbrev JY:Prop:=OkC Tryz.prog 112 QB
theorem JX (h:∀ (l:List (Int×List Int)) (p:(Int×List Int->Prop)×(Int×List Int->Bool)),(l.length<=1000000/\∀ x∈l,p.1 x)->Qm l p):OkC Tryz.prog 112 QB :=
 Qr Z32 mixed (C:=Zh) (V:=λ(d:(List (Int×List Int))×((Int×List Int->Prop)×(Int×List Int->Bool)))=>Qm d.1 d.2) ⟨(.cons Xp .nil),XsOk.nil,ItsOk.nil,YlOk.nil,IysOk.nil,XfOk.nil⟩ (JV) λd hp=>h d.1 d.2 hp
theorem JW:JY:=JX λl p hp=>by simp only[Qm];exact⟨hp,Q2g l p.2,trivial⟩
def HW:AL (List (Int×List Int)):=(.one (.k (.list (.pair (.i .i64) (.list (.i .i64))))))
def Ab (d:List (Int×List Int)):Prop:=d.length<=1000/\∀ x∈d,x.2.length<=1000
def Bn (d:List (Int×List Int)):SV:=.val (.i .i64) (ZV d)
def BQ (d:List (Int×List Int)):List OB:=[]
def Uf:CSp:=Wt HW Ab Bn BQ
abbrev FK (l:List (Int×List Int)):=(l.any (λ(x1:Int×List Int)=>(decide (x1.1≠(l.getD 0 (0,[])).1)||decide (x1.2.length≠(l.getD 0 (0,[])).2.length))))
def K_ (l:List (Int×List Int)):Prop :=
 ((decide ((lI l) > (10:Int)))=true ->
  ((5:Int)=(ZV l)/\(True))) /\
 ((decide ((lI l) > (10:Int)))=false ->
  (((lI l)==(0:Int))=true ->
   ((7:Int)=(ZV l)/\(True))) /\
  (((lI l)==(0:Int))=false ->
   ∃ (e3:Unit) (d30:Int),((True/\l=l/\(lI l)=(lI l)/\(0:Int)=d30/\True)/\((l=l/\nS)/\True)) /\
   LoopP (λ(d3:Int) (q3:(Int)->Prop) =>
    ((decide (d3<(lI l)))=true ->
     (0<=d3)/\(d3<l.length)/\(((gD l d3 (0,[])).2).length<=1000000)/\(((Qs ((gD l d3 (0,[])).1) ((gD l d3 (0,[])).2)) != (0:Int))=true ->
      ((Qs ((gD l d3 (0,[])).1) ((gD l d3 (0,[])).2))=(ZV l)/\(True))) /\
     (((Qs ((gD l d3 (0,[])).1) ((gD l d3 (0,[])).2)) != (0:Int))=false ->
      (I64 (d3+(1:Int)))/\(∃ d4:Int,((True/\l=l/\(lI l)=(lI l)/\(d3+(1:Int))=d4/\True)/\((l=l/\nS)/\True))/\q3 d4))) /\
    ((decide (d3<(lI l)))=false ->
     (l.length<=1000000/\∀ x∈l,(λ(x1:Int×List Int)=>l≠[]) x)/\((FK l)=true ->
      ((4:Int)=(ZV l)/\(True))) /\
     ((FK l)=false ->
      ((0:Int)=(ZV l)/\(True))))) d30))
def HQ:Cx:=⟨[],[(45,M5),(112,QB),(111,UP)],31,[],0,[],[],[],[],false,[],[],[],[]⟩
def FC (l:List (Int×List Int)):List (Nat×LoopAnn):=[(1,⟨Unit,Int,[1,15,16,17],λe x=>[.box 1 0,.val (.list (.pair (.i .i64) (.list (.i .i64)))) l,.val (.i .i64) ((l.length:Nat):Int),.val (.i .i64) x],λe x=>[(1,.slot 1,.cells [.val (.list (.pair (.i .i64) (.list (.i .i64)))) l] (some 61))]⟩)]
theorem FG (d:List (Int×List Int)):gwp (HQ) (FC d) c72 0 (WB [.tmp 2] (Bn d) (BQ d)) (Qn 31 (AL.can HW d))=K_ d:=by kernel_rfl
abbrev Ff:Prop:=OkC Tryz.prog 72 Uf
theorem F4 (h:∀ (l:List (Int×List Int)),(l.length<=1000/\∀ x∈l,x.2.length<=1000)->K_ l):OkC Tryz.prog 72 Uf :=
 Qr Z8u mixed (C:=HQ) (V:=λ(d:List (Int×List Int))=>K_ d) ⟨(.cons CC (.cons JW (.cons Ca .nil))),XsOk.nil,ItsOk.nil,YlOk.nil,IysOk.nil,XfOk.nil⟩ (FG) λd hp=>h d hp
theorem PW:Ff:=F4 λl hl=>by
 unfold K_;(try delta FK);(try delta lI gD sT I64 Z6 rg rb zD nS)
 (try simp only[zh,zz,and_true,true_and])
 obtain⟨h1,h2⟩:=hl;refine⟨λh=>by unfold ZV;rw[z6 (by omega)],λh=>⟨λh3=>?_,λh3=>?_⟩⟩
 .have:l=[]:=(by simp_all);unfold ZV;rw[z7 (by omega),z6 this]
 have aG:l≠[]:=by rintro rfl;simp at h3
 have hu:ZV l=if Uz l≠0 then Uz l else if l.any (λd=>decide (d.1≠(l.getD 0 (0,[])).1)||decide (d.2.length≠(l.getD 0 (0,[])).2.length)) then 4 else 0:=by unfold ZV;rw[z7 (by omega),z7 aG]
 refine⟨(),0,(by omega),?_⟩;refine LoopP.count l.length (λk=>∀ x∈l.take k,Qs x.1 x.2=0) (by simp) λk hk hJ q hq=>?_;simp only[zd,Qc];refine⟨λaj=>?_,λbI=>?_⟩
 .have aj:k<l.length:=by omega
  rw[Qf aj];have h5:=h2 _ (zl aj);refine⟨by omega,by omega,by omega,λhx=>?_,λhx=>⟨by omega,(k:Int)+1,(by omega),hq aj ?_⟩⟩
  .have hx:Qs l[k].1 l[k].2≠0:=bne_iff_ne.1 hx;have hf:l.find? (λd=>decide (Qs d.1 d.2≠0))=some l[k]:=by
    grind [List.find?_eq_some_iff_getElem,decide_eq_true,List.mem_take_iff_getElem]
   have hc:Uz l=Qs l[k].1 l[k].2:=by unfold Uz;rw[hf]
   rw[hu,hc,z6 hx]
  grind [QV,List.mem_singleton]
 .rw[zI (by omega)] at hJ;have hf:l.find? (λd=>decide (Qs d.1 d.2≠0))=none:=by
   simp_all
  have hc:Uz l=0:=by unfold Uz;rw[hf]
  grind
def Yx:AL (List Int):=(.one (.k (.list (.i .i64))))
def NC (d:List Int):Prop:=d≠[]/\d.length<=110
def WK (d:List Int):SV:=.lst 0
def WM (d:List Int):List OB:=[.lst 3 (.i .i64) d false]
def Xi:CSp:=Wt Yx NC WK WM
def ZP (l:List Int):Prop :=
 (l≠[])/\(false=true ->
  (True/\((l=[]/\false=true)/\True))) /\
 (false=false ->
  (((List.length ([]:List Int))+l.length)*8<=70368744177664)/\(True/\(((([]:List Int)++l)=l/\(l.isEmpty&&false)=false)/\True)))
def Yo:Cx:=⟨[(3,(.i .i64))],[],8,[],0,[],[],[],[],false,[],[],[],[]⟩
def M8 (l:List Int):List (Nat×LoopAnn):=[]
theorem NG (d:List Int):gwp (Yo) (M8 d) c76 0 (WB [.tmp 2] (WK d) (WM d)) (Qn 8 (AL.can Yx d))=ZP d:=by kernel_rfl
abbrev Mf:Prop:=OkC Tryz.prog 76 Xi
theorem Mo (h:∀ (l:List Int),(l≠[]/\l.length<=110)->ZP l):OkC Tryz.prog 76 Xi :=
 Qr Z7j mixed (C:=Yo) (V:=λ(d:List Int)=>ZP d) ⟨.nil,XsOk.nil,ItsOk.nil,YlOk.nil,IysOk.nil,XfOk.nil⟩ (NG) λd hp=>h d hp
theorem M4:Mf:=Mo λl h=>by simp[ZP,h.1];omega
def Ns:AL ((Int×Bool)×List Int):=(.cons (.agg (.cons (.k (.i .i64)) (.one (.k .bo)))) (.one (.k (.list (.i .i64)))))
def PJ (d:(Int×Bool)×List Int):Prop:=1<=d.1.1/\d.1.1<=24/\d.2≠[]/\d.2.length<=110/\∀ x∈d.2,0<=x/\x<2 ^ d.1.1.toNat
def Ue (d:(Int×Bool)×List Int):SV:=.lst 0
def Uk (d:(Int×Bool)×List Int):List OB:=[.lst 3 (.i .i64) (Ub d.1.1 d.1.2 d.2) false]
def Xd:CSp:=Wt Ns PJ Ue Uk
def XV (h:Int) (t:Bool) (rows:List Int):Prop :=
 (rows≠[]/\rows.length<=110)/\∃ (e3:Unit) (d30:(List Int)×Int),((True/\True/\(lI rows)=(lI rows)/\(0:Int)=d30.2/\True)/\((h=h/\t=t/\nS)/\(rows=d30.1/\false=false)/\True)) /\
 LoopP (λ(d3:(List Int)×Int) (q3:((List Int)×Int)->Prop) =>
  ((decide (d3.2<(lI rows)))=true ->
   (t=true ->
    (0<=d3.2)/\(d3.2<d3.1.length)/\(0<=h/\h<=24)/\(0<=d3.2)/\(d3.2<d3.1.length)/\(I64 (d3.2+(1:Int)))/\(∃ d4:(List Int)×Int,((True/\True/\(lI rows)=(lI rows)/\(d3.2+(1:Int))=d4.2/\True)/\((h=h/\t=t/\nS)/\((sT d3.1 d3.2 (Qb .xor .i64 (gD d3.1 d3.2 0) (2 ^ h.toNat-1)))=d4.1/\false=false)/\True))/\q3 d4)) /\
   (t=false ->
    (I64 (d3.2+(1:Int)))/\(∃ d5:(List Int)×Int,((True/\True/\(lI rows)=(lI rows)/\(d3.2+(1:Int))=d5.2/\True)/\((h=h/\t=t/\nS)/\(d3.1=d5.1/\false=false)/\True))/\q3 d5))) /\
  ((decide (d3.2<(lI rows)))=false ->
   (True/\((d3.1=(Ub h t rows)/\false=false)/\True)))) d30
def No:Cx:=⟨[],[(76,Xi),(96,B9)],27,[],0,[],[],[],[],false,[],[],[],[]⟩
def Ty (h:Int) (t:Bool) (rows:List Int):List (Nat×LoopAnn):=[(0,⟨Unit,(List Int)×Int,[2,5,10,11],λe x=>[.box 2 0,.lst 8,.val (.i .i64) ((rows.length:Nat):Int),.val (.i .i64) x.2],λe x=>[(2,.slot 2,.cells [.val (.i .i64) h,.val .bo t] (some 80)),(8,.slot 5,.lst 3 (.i .i64) x.1 false)]⟩)]
theorem Tq (d:(Int×Bool)×List Int):gwp (No) (Ty d.1.1 d.1.2 d.2) c73 0 (WB [.tmp 4] (Ue d) (Uk d)) (Qn 27 (AL.can Ns d))=XV d.1.1 d.1.2 d.2:=by kernel_rfl
abbrev Tl:Prop:=OkC Tryz.prog 73 Xd
theorem Tx (h:∀ (h:Int) (t:Bool) (rows:List Int),(1<=h/\h<=24/\rows≠[]/\rows.length<=110/\∀ x∈rows,0<=x/\x<2 ^ h.toNat)->XV h t rows):OkC Tryz.prog 73 Xd :=
 Qr Z8v mixed (C:=No) (V:=λ(d:(Int×Bool)×List Int)=>XV d.1.1 d.1.2 d.2) ⟨(.cons M4 (.cons Cc .nil)),XsOk.nil,ItsOk.nil,YlOk.nil,IysOk.nil,XfOk.nil⟩ (Tq) λd hp=>h d.1.1 d.1.2 d.2 hp
theorem K9:Tl:=Tx λh t rows hp=>by
 unfold XV;(try delta lI gD sT I64 Z6 rg rb zD nS)
 (try simp only[zh,zz,and_true,true_and])
 obtain⟨h1,h2,h3,h4,h5⟩:=hp;refine⟨⟨h3,h4⟩,(),(rows,0),(by simp_all),?_⟩;refine LoopP.count2 rows.length (λk l=>l.length=rows.length/\∀ i,i<rows.length->l.getD i 0=if i<k/\t=true then (((rows.getD i 0).toNat ^^^ (2 ^ h.toNat-1):Nat):Int) else rows.getD i 0) ⟨rfl,λi _=>by simp⟩ ?_;rintro k l hk ⟨hl,hJ⟩ q hq;dsimp only;simp only[zd,Qc,hl];refine⟨λaj=>⟨λht=>?_,λht=>?_⟩,λbI=>?_⟩
 .have aj:k<rows.length:=by omega
  have hx:=h5 _ (XX aj);have aw:=hJ k aj;rw[z7 (by omega)] at aw;have fx:=EH (h:=h) (by omega) h2;have mi:(2:Int) ^ h.toNat-1=((2 ^ h.toNat-1:Nat):Int):=by
   grind
  have e1:Qb .xor .i64 (l.getD k 0) (2 ^ h.toNat-1)=(((rows.getD k 0).toNat ^^^ (2 ^ h.toNat-1):Nat):Int):=by
   grind [J59]
  refine⟨by omega,by omega,⟨by omega,h2⟩,by omega,by omega,by omega,(l.set k (Qb .xor .i64 (l.getD k 0) (2 ^ h.toNat-1)),(k:Int)+1),(by simp_all),hq _ aj ⟨by simpa using hl,λi hi=>?_⟩⟩;by_cases e:i=k
  .simp_all
  .have:(l.set k (Qb .xor .i64 (l.getD k 0) (2 ^ h.toNat-1))).getD i 0=l.getD i 0:=by
    grind
   rw[this,hJ i hi];by_cases e2:i<k
   .grind
   omega
 .grind
 .have eX:k=rows.length:=by omega
  subst eX;refine List.ext_getElem ?_ λi a1 a2=>?_
  .unfold Ub;split<;>simp[hl]
  .have hi:i<rows.length:=by omega
   rw[<-Qf (d:=0) a1,<-Qf (d:=0) a2,hJ i hi];cases t with
   |true =>rw[z6 ⟨hi,rfl⟩];show _=(rows.map λr=>((r.toNat ^^^ (2 ^ h.toNat-1):Nat):Int)).getD i 0;rw[Qf hi,Qf (l:=rows.map _) (by simpa using hi),xN]
   |false =>rw[z7 (by simp)];rfl
def TV:AL (List Int×List Int):=(.cons (.k (.list (.i .i64))) (.one (.k (.list (.i .i64)))))
def Fb (d:List Int×List Int):Prop:=d.2.length<=d.1.length/\d.2.length<=60/\(∀ x∈d.1,0<=x/\x<16777216)/\∀ x∈d.2,0<=x/\x<16777216
def PT (d:List Int×List Int):SV:=.tup [.val (.i .i64) (Q64 d.1 d.2),.val .bo (Q3x d.1 d.2)]
def PZ (d:List Int×List Int):List OB:=[]
def Hb:CSp:=Wt TV Fb PT PZ
def Us (a:List Int) (b:List Int):Prop :=
 ∃ (e2:Unit) (d20:Int×Int),((a=a/\(0:Int)=d20.1/\b=b/\(lI b)=(lI b)/\(0:Int)=d20.2/\True)/\(True)) /\
 LoopP (λ(d2:Int×Int) (q2:(Int×Int)->Prop) =>
  ((decide (d2.2<(lI b)))=true ->
   (0<=d2.2)/\(d2.2<b.length)/\(0<=d2.2)/\(d2.2<a.length)/\(((Qb .andNot .i64 (gD b d2.2 0) (gD a d2.2 0)) != (0:Int))=true ->
    (((0:Int)=(Q64 a b)/\false=(Q3x a b)/\nS)/\(True))) /\
   (((Qb .andNot .i64 (gD b d2.2 0) (gD a d2.2 0)) != (0:Int))=false ->
    (0<=d2.2)/\(d2.2<a.length)/\(InK .u64 (Qb .andNot .i64 (gD a d2.2 0) (gD b d2.2 0)))/\(0<=(Qb .andNot .i64 (gD a d2.2 0) (gD b d2.2 0))/\(Qb .andNot .i64 (gD a d2.2 0) (gD b d2.2 0))<16777216)/\(I64 (d2.1+((pcN 24 (Qb .andNot .i64 (gD a d2.2 0) (gD b d2.2 0)).toNat:Nat):Int)))/\(I64 (d2.2+(1:Int)))/\(∃ d3:Int×Int,((a=a/\(d2.1+((pcN 24 (Qb .andNot .i64 (gD a d2.2 0) (gD b d2.2 0)).toNat:Nat):Int))=d3.1/\b=b/\(lI b)=(lI b)/\(d2.2+(1:Int))=d3.2/\True)/\(True))/\q2 d3))) /\
  ((decide (d2.2<(lI b)))=false ->
   ((d2.1=(Q64 a b)/\true=(Q3x a b)/\nS)/\(True)))) d20
def TH:Cx:=⟨[],[(74,X9)],34,[],0,[],[],[],[],false,[],[],[],[]⟩
def OX (a:List Int) (b:List Int):List (Nat×LoopAnn):=[(0,⟨Unit,Int×Int,[0,4,8,9,10],λe x=>[.val (.list (.i .i64)) a,.val (.i .i64) x.1,.val (.list (.i .i64)) b,.val (.i .i64) ((b.length:Nat):Int),.val (.i .i64) x.2],λe x=>[]⟩)]
theorem IL (d:List Int×List Int):gwp (TH) (OX d.1 d.2) c32 0 (WB [.tmp 4,.tmp 5] (PT d) (PZ d)) (Qn 34 (AL.can TV d))=Us d.1 d.2:=by kernel_rfl
abbrev OS:Prop:=OkC Tryz.prog 32 Hb
theorem Q02 (h:∀ (a:List Int) (b:List Int),(b.length<=a.length/\b.length<=60/\(∀ x∈a,0<=x/\x<16777216)/\∀ x∈b,0<=x/\x<16777216)->Us a b):OkC Tryz.prog 32 Hb :=
 Qr Z80 mixed (C:=TH) (V:=λ(d:List Int×List Int)=>Us d.1 d.2) ⟨(.cons Nr .nil),XsOk.nil,ItsOk.nil,YlOk.nil,IysOk.nil,XfOk.nil⟩ (IL) λd hp=>h d.1 d.2 hp
theorem Z2m (a b:List Int):∀ k,Q5l a b k<=24*k
 |0=>by simp[Q5l]
 |k+1=>by have:=Z2m a b k;have:=Z29 24 (Z47 a b k);unfold Q5l;omega
theorem Iv:OS:=Q02 λa b h=>by
 unfold Us;(try delta lI gD sT I64 Z6 rg rb zD nS)
 (try simp only[zh,zz,and_true,true_and])
 obtain⟨h1,h2,h3,h4⟩:=h;refine⟨(),(0,0),(by omega),?_⟩;refine LoopP.count2 b.length (λk n=>n=((Q5l a b k:Nat):Int)/\∀ i,i<k->(b.getD i 0).toNat ^^^ ((b.getD i 0).toNat &&& (a.getD i 0).toNat)=0) ⟨rfl,λi hi=>by omega⟩ ?_;rintro k n hk ⟨rfl,hJ⟩ q hq;dsimp only;simp only[zd,Qc,D3];refine⟨λaj=>?_,λbI=>?_⟩
 .have aj:k<b.length:=by omega
  have ha:=h3 _ (XX (show k<a.length by omega));have hb:=h4 _ (XX aj);have e1:Qb .andNot .i64 (b.getD k 0) (a.getD k 0)=(((b.getD k 0).toNat ^^^ ((b.getD k 0).toNat &&& (a.getD k 0).toNat):Nat):Int):=by have:=(DZ (a:=(b.getD k 0).toNat) (b:=(a.getD k 0).toNat) (by omega) (by omega)).1;rw[show (((b.getD k 0).toNat:Nat):Int)=b.getD k 0 by omega,show (((a.getD k 0).toNat:Nat):Int)=a.getD k 0 by omega] at this;exact this
  have e2:Qb .andNot .i64 (a.getD k 0) (b.getD k 0)=((Z47 a b k:Nat):Int)/\Z47 a b k<=(a.getD k 0).toNat:=by have:=DZ (a:=(a.getD k 0).toNat) (b:=(b.getD k 0).toNat) (by omega) (by omega);rw[show (((b.getD k 0).toNat:Nat):Int)=b.getD k 0 by omega,show (((a.getD k 0).toNat:Nat):Int)=a.getD k 0 by omega] at this;exact this
  rw[e1,e2.1];simp only[zd];have hm:=e2.2;have hle:=Z2m a b k;have wP:=Z29 24 (Z47 a b k);refine⟨by omega,by omega,by omega,by omega,λhx=>?_,λhx=>⟨by omega,by omega,by omega,by omega,by omega,by omega,(((Q5l a b (k+1):Nat):Int),(k:Int)+1),?_,hq _ aj ⟨rfl,λi hi=>?_⟩⟩⟩
  .have hx:=bne_iff_ne.1 hx;have hB:Q3x a b=false:=by
    unfold Q3x
    grind
   unfold Q64;rw[hB];exact⟨rfl,rfl⟩
  .have e3:((Q5l a b (k+1):Nat):Int)=((Q5l a b k:Nat):Int)+((pcN 24 (Z47 a b k):Nat):Int):=by simp only[Q5l];push_cast;rfl
   omega
  grind
 .have eX:k=b.length:=by omega
  subst eX;have hB:Q3x a b=true:=by unfold Q3x;simp_all
  unfold Q64;rw[hB];exact⟨rfl,rfl⟩
def TN:AL (Int×(Int×List Int)×Int×List Int):=(.cons (.k (.i .i64)) (.cons (.agg (.cons (.k (.i .i64)) (.one (.k (.list (.i .i64)))))) (.one (.agg (.cons (.k (.i .i64)) (.one (.k (.list (.i .i64)))))))))
def EY (d:Int×(Int×List Int)×Int×List Int):Prop:=d.2.1.2.length<=1000/\d.2.2.2.length<=1000
def P6 (d:Int×(Int×List Int)×Int×List Int):SV:=.tup [.val .bo (Q5m d.1 d.2.1.1 d.2.1.2 d.2.2.1 d.2.2.2),.val (.i .i64) (Q5j d.1 d.2.1.1 d.2.1.2 d.2.2.1 d.2.2.2),.val (.i .i64) (Jh d.1 [(d.2.1.1,d.2.1.2),(d.2.2.1,d.2.2.2)])]
def Pq (d:Int×(Int×List Int)×Int×List Int):List OB:=[]
def Hl:CSp:=Wt TN EY P6 Pq
def Up (w:Int) (hd:Int) (rows:List Int) (aR:Int) (ao:List Int):Prop :=
 ∀ w1:List Value,([(hd,rows),(aR,ao)].length<=1000/\∀ x∈[(hd,rows),(aR,ao)],x.2.length<=1000)/\(((ZV [(hd,rows),(aR,ao)]) != (0:Int))=true ->
  w1=w1/\(((ZV [(hd,rows),(aR,ao)]) != (0:Int))=true ->
   ((false=(Q5m w hd rows aR ao)/\(0:Int)=(Q5j w hd rows aR ao)/\(ZV [(hd,rows),(aR,ao)])=(Jh w [(hd,rows),(aR,ao)])/\nS)/\(True))) /\
  (((ZV [(hd,rows),(aR,ao)]) != (0:Int))=false ->
   False)) /\
 (((ZV [(hd,rows),(aR,ao)]) != (0:Int))=false ->
  (((w != (1:Int))&&(w != (2:Int)))=true ->
   w1=w1/\(((2:Int) != (0:Int))=true ->
    ((false=(Q5m w hd rows aR ao)/\(0:Int)=(Q5j w hd rows aR ao)/\(2:Int)=(Jh w [(hd,rows),(aR,ao)])/\nS)/\(True))) /\
   (((2:Int) != (0:Int))=false ->
    False)) /\
  (((w != (1:Int))&&(w != (2:Int)))=false ->
   (0<=(0:Int))/\((0:Int)<(List.length [(hd,rows),(aR,ao)]))/\∃ (e5:Int×Bool×(List (Int×List Int))×Int×Int×Int×(List Int)×Int×(List Int)×Int×(List Int)×Int×(List Int)×Bool×Int×Int×Int×Int×(List Int)×Int×(List Int)×(List Value)) (d50:(List (List Int))×Int),((True/\True/\(lI [(hd,rows),(aR,ao)])=e5.2.2.2.1/\(0:Int)=d50.2/\True)/\(((gD [(hd,rows),(aR,ao)] (0:Int) (0,[])).1=e5.1/\(w==(2:Int))=e5.2.1/\True/\nS)/\(d50.1=[]/\d50.1.isEmpty=true)/\([(hd,rows),(aR,ao)]=e5.2.2.1/\false=false)/\((rb (Z6 e5)).2=w1/\(w=(rb e5).1/\(hd=(rb e5).2.1/\rows=(rb e5).2.2.1/\nS)/\(aR=(rb e5).2.2.2.1/\ao=(rg e5).1/\nS)/\True/\True/\True/\false=(rb (rg e5)).2.1/\(0:Int)=(rb (rg e5)).2.2.1/\(0:Int)=(rb (rg e5)).2.2.2.1/\True/\True/\w=(Z6 e5).1/\(hd=(Z6 e5).2.1/\rows=(Z6 e5).2.2.1/\nS)/\(aR=(Z6 e5).2.2.2.1/\ao=(rb (Z6 e5)).1/\nS)/\True/\True/\True/\True/\True/\True/\True/\True/\True/\True/\True/\True/\True/\True/\True/\True/\True/\True/\True/\True/\True/\nS))/\(hd=(rg e5).2.1/\rows=(rg e5).2.2.1/\nS)/\(aR=(rg e5).2.2.2.1/\ao=(rb (rg e5)).1/\nS)/\True)) /\
   LoopP (λ(d5:(List (List Int))×Int) (q5:((List (List Int))×Int)->Prop) =>
    ((decide (d5.2<e5.2.2.2.1))=true ->
     (0<=d5.2)/\(d5.2<e5.2.2.1.length)/\(1<=e5.1/\e5.1<=24/\((gD e5.2.2.1 d5.2 (0,[])).2)≠[]/\((gD e5.2.2.1 d5.2 (0,[])).2).length<=110/\∀ x∈((gD e5.2.2.1 d5.2 (0,[])).2),0<=x/\x<2 ^ e5.1.toNat)/\(false=true->(Ub e5.1 e5.2.1 ((gD e5.2.2.1 d5.2 (0,[])).2))=[])/\((d5.1.length+(List.length [(Ub e5.1 e5.2.1 ((gD e5.2.2.1 d5.2 (0,[])).2))]))*24<=70368744177664)/\(I64 (d5.2+(1:Int)))/\(∃ d6:(List (List Int))×Int,((True/\True/\e5.2.2.2.1=e5.2.2.2.1/\(d5.2+(1:Int))=d6.2/\True)/\((e5.1=e5.1/\e5.2.1=e5.2.1/\True/\nS)/\((d5.1++[(Ub e5.1 e5.2.1 ((gD e5.2.2.1 d5.2 (0,[])).2))])=d6.1/\false=d6.1.isEmpty)/\(e5.2.2.1=e5.2.2.1/\false=false)/\((rb (Z6 e5)).2=(rb (Z6 e5)).2/\((rb e5).1=(rb e5).1/\((rb e5).2.1=(rb e5).2.1/\(rb e5).2.2.1=(rb e5).2.2.1/\nS)/\((rb e5).2.2.2.1=(rb e5).2.2.2.1/\(rg e5).1=(rg e5).1/\nS)/\True/\True/\True/\(rb (rg e5)).2.1=(rb (rg e5)).2.1/\(rb (rg e5)).2.2.1=(rb (rg e5)).2.2.1/\(rb (rg e5)).2.2.2.1=(rb (rg e5)).2.2.2.1/\True/\True/\(Z6 e5).1=(Z6 e5).1/\((Z6 e5).2.1=(Z6 e5).2.1/\(Z6 e5).2.2.1=(Z6 e5).2.2.1/\nS)/\((Z6 e5).2.2.2.1=(Z6 e5).2.2.2.1/\(rb (Z6 e5)).1=(rb (Z6 e5)).1/\nS)/\True/\True/\True/\True/\True/\True/\True/\True/\True/\True/\True/\True/\True/\True/\True/\True/\True/\True/\True/\True/\True/\nS))/\((rg e5).2.1=(rg e5).2.1/\(rg e5).2.2.1=(rg e5).2.2.1/\nS)/\((rg e5).2.2.2.1=(rg e5).2.2.2.1/\(rb (rg e5)).1=(rb (rg e5)).1/\nS)/\True))/\q5 d6)) /\
    ((decide (d5.2<e5.2.2.2.1))=false ->
     (rb (Z6 e5)).2=w1/\(((0:Int) != (0:Int))=true ->
      ((false=(Q5m w hd rows aR ao)/\(0:Int)=(Q5j w hd rows aR ao)/\(0:Int)=(Jh w [(hd,rows),(aR,ao)])/\nS)/\(True))) /\
     (((0:Int) != (0:Int))=false ->
      (0<=(0:Int))/\((0:Int)<d5.1.length)/\(0<=(1:Int))/\((1:Int)<d5.1.length)/\((gD d5.1 (1:Int) []).length<=(gD d5.1 (0:Int) []).length/\(gD d5.1 (1:Int) []).length<=60/\(∀ x∈(gD d5.1 (0:Int) []),0<=x/\x<16777216)/\∀ x∈(gD d5.1 (1:Int) []),0<=x/\x<16777216)/\(((Q3x (gD d5.1 (0:Int) []) (gD d5.1 (1:Int) []))=(Q5m w hd rows aR ao)/\(Q64 (gD d5.1 (0:Int) []) (gD d5.1 (1:Int) []))=(Q5j w hd rows aR ao)/\(0:Int)=(Jh w [(hd,rows),(aR,ao)])/\nS)/\(True))))) d50))
def YE:Cx:=⟨[(24,(.list (.i .i64)))],[(72,Uf),(73,Xd)],48,[],0,[],[],[(24,3)],[],false,[],[],[],[]⟩
def YD:List (Nat×LoopAnn):=[(0,⟨Int×Bool×(List (Int×List Int))×Int×Int×Int×(List Int)×Int×(List Int)×Int×(List Int)×Int×(List Int)×Bool×Int×Int×Int×Int×(List Int)×Int×(List Int)×(List Value),(List (List Int))×Int,[4,30,31,32],λe x=>[.box 1600004 0,.lst 14,.val (.i .i64) e.2.2.2.1,.val (.i .i64) x.2],λe x=>[(1600004,.slot 4,.cells [.val (.i .i64) e.1,.val .bo e.2.1,.dd 1600044 .out] (some 83)),(1600044,.cell 1600004 2,.deep 24 (some 3) (.list (.i .i64)) x.1 (List.isEmpty x.1) none),(14,.slot 30,.lst 28 (.pair (.i .i64) (.list (.i .i64))) e.2.2.1 false),(1599999,.key 1599999,.stk [.val (.i .i64) (rb e).1,.agg [.val (.i .i64) (rb e).2.1,.val (.list (.i .i64)) (rb e).2.2.1],.agg [.val (.i .i64) (rb e).2.2.2.1,.val (.list (.i .i64)) (rg e).1],.any,.box 4 0,.box 5 0,.val .bo (rb (rg e)).2.1,.val (.i .i64) (rb (rg e)).2.2.1,.val (.i .i64) (rb (rg e)).2.2.2.1,.any,.any,.val (.i .i64) (Z6 e).1,.agg [.val (.i .i64) (Z6 e).2.1,.val (.list (.i .i64)) (Z6 e).2.2.1],.agg [.val (.i .i64) (Z6 e).2.2.2.1,.val (.list (.i .i64)) (rb (Z6 e)).1],.lst 14,.any,.any,.any,.any,.any,.any,.any,.any,.any,.any,.any,.any,.any,.any,.any,.any,.any,.any,.any,.any] (rb (Z6 e)).2),(4,.key 4,.cells [.val (.i .i64) (rg e).2.1,.val (.list (.i .i64)) (rg e).2.2.1] (some 28)),(5,.key 5,.cells [.val (.i .i64) (rg e).2.2.2.1,.val (.list (.i .i64)) (rb (rg e)).1] (some 28))]⟩)]
def R4:Cx:=⟨[(28,(.pair (.i .i64) (.list (.i .i64))))],[(32,Hb)],35,[14],0,[(31,Q5i YE (λ_=>YD) c31 [.cell 4 true 3,.tmp 5] 48)],[],[],[],false,[],[],[],[]⟩
def IW (w:Int) (hd:Int) (rows:List Int) (aR:Int) (ao:List Int):List (Nat×LoopAnn):=[]
theorem OG (d:Int×(Int×List Int)×Int×List Int):gwp (R4) (IW d.1 d.2.1.1 d.2.1.2 d.2.2.1 d.2.2.2) c7 0 (WB [.tmp 6,.tmp 7,.tmp 8] (P6 d) (Pq d)) (Qn 35 (AL.can TN d))=Up d.1 d.2.1.1 d.2.1.2 d.2.2.1 d.2.2.2:=by kernel_rfl
abbrev Og:Prop:=OkC Tryz.prog 7 Hl
theorem OK (h:∀ (w:Int) (hd:Int) (rows:List Int) (aR:Int) (ao:List Int),(rows.length<=1000/\ao.length<=1000)->Up w hd rows aR ao):OkC Tryz.prog 7 Hl :=
 Qr J4p mixed (C:=R4) (V:=λ(d:Int×(Int×List Int)×Int×List Int)=>Up d.1 d.2.1.1 d.2.1.2 d.2.2.1 d.2.2.2) ⟨(.cons Iv .nil),(XsOk.cons (U4 Z3p mixed (C:=YE) ⟨(.cons PW (.cons K9 .nil)),XsOk.nil,ItsOk.nil,YlOk.nil,IysOk.nil,XfOk.nil⟩ (λ_=>YD)) XsOk.nil),ItsOk.nil,YlOk.nil,IysOk.nil,XfOk.nil⟩ (OG) λd hp=>h d.1 d.2.1.1 d.2.1.2 d.2.2.1 d.2.2.2 hp
theorem Z52 {hd aR:Int}{rows ao:List Int}(h:ZV [(hd,rows),(aR,ao)]=0):Qs hd rows=0/\Qs aR ao=0/\aR=hd/\ao.length=rows.length:=by
 unfold ZV at h
 grind [Q5a]
theorem Z1o {h:Int}{t:Bool}{rows:List Int}(h1:1<=h) (h2:h<=24) (hr:∀ x∈rows,0<=x/\x<2 ^ h.toNat):(Ub h t rows).length=rows.length/\∀ x∈Ub h t rows,0<=x/\x<16777216:=by
 have fx:=Pg h.toNat;have d_:=Z84 (h:=h.toNat) (by omega);unfold Ub;split
 .refine⟨by simp,λx hx=>?_⟩;obtain⟨r,iq,rfl⟩:=zS.1 hx;have:=hr r iq;have:=Nat.one_le_two_pow (n:=h.toNat);have:=Nat.xor_lt_two_pow (x:=r.toNat) (y:=2 ^ h.toNat-1) (n:=24) (by omega) (by omega);omega
 grind
theorem IJ:Og:=OK λw hd rows aR ao h=>by
 unfold Up;(try delta lI gD sT I64 Z6 rg rb zD nS)
 (try simp only[zh,zz,and_true,true_and])
 intro w1;obtain⟨l1,l2⟩:=h;refine⟨⟨by simp,λx hx=>?_⟩,λhs=>⟨λ_=>?_,λhx=>?_⟩,λhs=>?_⟩
 .grind
 .have hs:=bne_iff_ne.1 hs;have ho:Jh w [(hd,rows),(aR,ao)]=ZV [(hd,rows),(aR,ao)]:=by unfold Jh;rw[z6 hs]
  unfold Q5m Q5j;simp_all
 .rw[hx] at hs;cases hs
 have hs:ZV [(hd,rows),(aR,ao)]=0:=by simpa using hs
 obtain⟨q1,q2,q3,q4⟩:=Z52 hs;subst q3;obtain⟨z1,z2,z3,z4,z5⟩:=J2g q1;obtain⟨_,_,y3,y4,y5⟩:=J2g q2;have ho:Jh w [(aR,rows),(aR,ao)]=if w=1\/w=2 then 0 else 2:=by unfold Jh;rw[z7 (by omega)]
 refine⟨λhw=>⟨λ_=>?_,λhx=>by simp at hx⟩,λhw=>⟨by omega,by simp,?_⟩⟩
 .have hw:¬ (w=1\/w=2):=by
   simp_all
  unfold Q5m Q5j;simp_all
 .have hw:w=1\/w=2:=by
   grind
  rw[z6 hw] at ho;have hB:Q5m w aR rows aR ao=Q3x (Ub aR (w==2) rows) (Ub aR (w==2) ao):=by unfold Q5m;rw[z6 ho]
  have hN:Q5j w aR rows aR ao=Q64 (Ub aR (w==2) rows) (Ub aR (w==2) ao):=by unfold Q5j;rw[z6 ho]
  rw[hB,hN,ho];obtain⟨a1,a2⟩:=Z1o (t:=w==2) z1 z2 z5;obtain⟨b1,b2⟩:=Z1o (t:=w==2) z1 z2 y5;refine⟨(aR,(w==2),[(aR,rows),(aR,ao)],2,w,aR,rows,aR,ao,aR,rows,aR,ao,false,0,0,w,aR,rows,aR,ao,w1),([],0),(by simp_all),?_⟩;dsimp only;refine LoopP.count2 2 (λk l=>l=[Ub aR (w==2) rows,Ub aR (w==2) ao].take k) rfl ?_;rintro k l hk rfl q hq;simp only[Qc,zd,zV,List.length_nil,true_and];refine⟨λaj=>?_,λbI=>⟨λhx=>by simp at hx,λ_=>?_⟩⟩
  .grind
  .have:k=2:=by omega
   simp_all
def TL:AL (List (List Int)):=(.one (.k (.list (.list (.i .i64)))))
def I0 (d:List (List Int)):Prop:=d≠[]/\d.length<=100/\∀ s∈d,s.length=(d.getD 0 []).length/\s.length<=60/\∀ x∈s,0<=x/\x<16777216
def PK (d:List (List Int)):SV:=.lst 0
def HN (d:List (List Int)):List OB:=[.lst 3 (.i .i64) (D_ d) false]
def HG:CSp:=Wt TL I0 PK HN
def UB (ss:List (List Int)):Prop :=
 (0<=(0:Int))/\((0:Int)<ss.length)/\(0<=(lI (gD ss (0:Int) [])))/\((lI (gD ss (0:Int) []))<=(lI (gD ss (0:Int) [])))/\((lI (gD ss (0:Int) []))*8<=70368744177664)/\((lI (gD ss (0:Int) []))<=70368744177664)/\∃ (e2:Unit) (d20:(List Int)×Int),((True/\ss=ss/\(lI ss)=(lI ss)/\(0:Int)=d20.2/\True)/\(((List.replicate (Int.toNat (lI (gD ss (0:Int) []))) (0:Int))=d20.1/\false=false)/\True)) /\
 LoopP (λ(d2:(List Int)×Int) (q2:((List Int)×Int)->Prop) =>
  ((decide (d2.2<(lI ss)))=true ->
   (0<=d2.2)/\(d2.2<ss.length)/\∃ (e4:Int×(List Int)×Int) (d40:(List Int)×Int),((True/\ss=ss/\(lI ss)=(lI ss)/\d2.2=e4.1/\(gD ss d2.2 [])=e4.2.1/\(lI (gD ss d2.2 []))=e4.2.2/\(0:Int)=d40.2/\True)/\((d2.1=d40.1/\false=false)/\True)) /\
   LoopP (λ(d4:(List Int)×Int) (q4:((List Int)×Int)->Prop) =>
    ((decide (d4.2<e4.2.2))=true ->
     (0<=d4.2)/\(d4.2<e4.2.1.length)/\(0<=d4.2)/\(d4.2<d4.1.length)/\(0<=d4.2)/\(d4.2<d4.1.length)/\(I64 (d4.2+(1:Int)))/\(∃ d5:(List Int)×Int,((True/\ss=ss/\(lI ss)=(lI ss)/\e4.1=e4.1/\e4.2.1=e4.2.1/\e4.2.2=e4.2.2/\(d4.2+(1:Int))=d5.2/\True)/\(((sT d4.1 d4.2 (Qb .or .i64 (gD d4.1 d4.2 0) (gD e4.2.1 d4.2 0)))=d5.1/\false=false)/\True))/\q4 d5)) /\
    ((decide (d4.2<e4.2.2))=false ->
     (I64 (e4.1+(1:Int)))/\(∃ d6:(List Int)×Int,((True/\ss=ss/\(lI ss)=(lI ss)/\(e4.1+(1:Int))=d6.2/\True)/\((d4.1=d6.1/\false=false)/\True))/\q2 d6))) d40) /\
  ((decide (d2.2<(lI ss)))=false ->
   (True/\((d2.1=(D_ ss)/\false=false)/\True)))) d20
def TT:Cx:=⟨[(3,(.i .i64))],[],36,[],0,[],[],[],[],false,[],[],[],[]⟩
def Od (ss:List (List Int)):List (Nat×LoopAnn):=[(0,⟨Unit,(List Int)×Int,[3,13,14,15],λe x=>[.lst 12,.val (.list (.list (.i .i64))) ss,.val (.i .i64) ((ss.length:Nat):Int),.val (.i .i64) x.2],λe x=>[(12,.slot 3,.lst 3 (.i .i64) x.1 false)]⟩),
 (2,⟨Int×(List Int)×Int,(List Int)×Int,[3,13,14,15,19,20,21],λe x=>[.lst 12,.val (.list (.list (.i .i64))) ss,.val (.i .i64) ((ss.length:Nat):Int),.val (.i .i64) e.1,.val (.list (.i .i64)) e.2.1,.val (.i .i64) e.2.2,.val (.i .i64) x.2],λe x=>[(12,.slot 3,.lst 3 (.i .i64) x.1 false)]⟩)]
theorem Oi (d:List (List Int)):gwp (TT) (Od d) c69 0 (WB [.tmp 2] (PK d) (HN d)) (Qn 36 (AL.can TL d))=UB d:=by kernel_rfl
abbrev IY:Prop:=OkC Tryz.prog 69 HG
theorem IK (h:∀ (ss:List (List Int)),(ss≠[]/\ss.length<=100/\∀ s∈ss,s.length=(ss.getD 0 []).length/\s.length<=60/\∀ x∈s,0<=x/\x<16777216)->UB ss):OkC Tryz.prog 69 HG :=
 Qr Z99 mixed (C:=TT) (V:=λ(d:List (List Int))=>UB d) ⟨.nil,XsOk.nil,ItsOk.nil,YlOk.nil,IysOk.nil,XfOk.nil⟩ (Oi) λd hp=>h d hp
theorem IE:IY:=IK λss h=>by
 unfold UB;(try delta lI gD sT I64 Z6 rg rb zD nS)
 (try simp only[zh,zz,and_true,true_and])
 obtain⟨h1,h2,h3⟩:=h;have bh:0<ss.length:=zW.2 h1;have oA:(ss.getD 0 []).length<=60:=(h3 _ (Gw h1)).2.1;simp only[Int.toNat_zero,zd];refine⟨by omega,by omega,by omega,by omega,by omega,by omega,(),(List.replicate (ss.getD 0 []).length 0,0),(by simp_all),?_⟩;have a9:∀ (k i:Nat),AX (ss.take k) i<16777216:=λk i=>by
  refine Nat.lt_of_not_le λbI=>?_;obtain⟨j,hj,hb⟩:=Nat.exists_ge_and_testBit_of_ge_two_pow (show AX (ss.take k) i>=2 ^ 24 from bI);rw[Sg] at hb;obtain⟨s,hs,hb⟩:=xE.1 hb;have hs:=List.mem_of_mem_take hs;have hx:(s.getD i 0).toNat<2 ^ 24:=by
   grind [XX,List.getElem?_eq_none]
  rw[Nat.testBit_lt_two_pow (zH hx (Nat.pow_le_pow_right (by omega) hj))] at hb;cases hb
 have iF:∀ (k:Nat) (hk:k<ss.length) (i:Nat),AX (ss.take (k+1)) i=AX (ss.take k) i ||| (ss[k].getD i 0).toNat:=λk hk i=>by unfold AX;rw[QV hk,List.foldl_append];rfl
 refine LoopP.count2 ss.length (λk l=>l=(List.range (ss.getD 0 []).length).map λi=>((AX (ss.take k) i:Nat):Int)) ?_ ?_
 .refine List.ext_getElem (by simp) λi a b=>?_;simp[AX]
 rintro k l hk rfl q hq;dsimp only;simp only[zd,Qc];refine⟨λaj=>?_,λbI=>?_⟩
 .have aj:k<ss.length:=by omega
  rw[Qf aj];obtain⟨s1,s2,s3⟩:=h3 _ (zl aj);have ji:=iF k aj;generalize ss[k]=s at s1 s2 s3 ji |-;refine⟨by omega,by omega,((k:Int),s,(s.length:Int)),((List.range (ss.getD 0 []).length).map λi=>((AX (ss.take k) i:Nat):Int),0),(by simp_all),?_⟩;dsimp only;refine LoopP.count2 s.length (λm l=>l=(List.range (ss.getD 0 []).length).map λi=>((AX (ss.take (if i<m then k+1 else k)) i:Nat):Int)) (by simp) ?_;rintro m l hm rfl q2 j7;simp only[zd];refine⟨λgQ=>?_,λvE=>?_⟩
  .have gQ:m<s.length:=by omega
   have hx:=s3 _ (XX gQ);have hlen:((List.range (ss.getD 0 []).length).map λi=>((AX (ss.take (if i<m then k+1 else k)) i:Nat):Int)).length=(ss.getD 0 []).length:=by simp
   have vF:((List.range (ss.getD 0 []).length).map λi=>((AX (ss.take (if i<m then k+1 else k)) i:Nat):Int)).getD m 0=((AX (ss.take k) m:Nat):Int):=by simp_all
   have hb:=a9 k m;have e1:Qb .or .i64 ((AX (ss.take k) m:Nat):Int) (s.getD m 0)=((AX (ss.take (k+1)) m:Nat):Int):=by
    grind [J32]
   rw[vF,e1,hlen];refine⟨by omega,by omega,by omega,by omega,by omega,by omega,by omega,(_,(m:Int)+1),⟨rfl,rfl⟩,j7 _ gQ ?_⟩;refine List.ext_getElem (by simp) λi a b=>?_;rw[List.getElem_set];simp only[xN,List.getElem_range]
   grind
  .refine⟨by omega,(_,(k:Int)+1),⟨rfl,rfl⟩,hq _ aj ?_⟩;refine xm λi hi=>?_
   grind
 .have:k=ss.length:=by omega
  subst this;unfold D_;rw[List.take_length]
def VI:AL ((Int×Bool)×List Int):=(.cons (.agg (.cons (.k (.i .i64)) (.one (.k .bo)))) (.one (.k (.list (.i .i64)))))
def Bk (d:(Int×Bool)×List Int):Prop:=1<=d.1.1/\d.1.1<=24/\d.2≠[]/\d.2.length<=110/\∀ x∈d.2,0<=x/\x<2 ^ d.1.1.toNat
def KM (d:(Int×Bool)×List Int):SV:=.agg [.val (.i .i64) d.1.1,.lst 0]
def KP (d:(Int×Bool)×List Int):List OB:=[.lst 3 (.i .i64) (Ub d.1.1 d.1.2 d.2) false]
def Yv:CSp:=Wt VI Bk KM KP
def X4 (h:Int) (t:Bool) (rows:List Int):Prop :=
 (1<=h/\h<=24/\rows≠[]/\rows.length<=110/\∀ x∈rows,0<=x/\x<2 ^ h.toNat)/\(false=true->(Ub h t rows)=[])/\((h=h/\True/\nS)/\(((Ub h t rows)=(Ub h t rows)/\false=false)/\True))
def U9:Cx:=⟨[],[(73,Xd)],11,[],0,[],[],[],[],false,[],[],[],[]⟩
def H5 (h:Int) (t:Bool) (rows:List Int):List (Nat×LoopAnn):=[]
theorem Hq (d:(Int×Bool)×List Int):gwp (U9) (H5 d.1.1 d.1.2 d.2) c68 0 (WB [.cell 4 true 2] (KM d) (KP d)) (Qn 11 (AL.can VI d))=X4 d.1.1 d.1.2 d.2:=by kernel_rfl
abbrev Hm:Prop:=OkC Tryz.prog 68 Yv
theorem HE (h:∀ (h:Int) (t:Bool) (rows:List Int),(1<=h/\h<=24/\rows≠[]/\rows.length<=110/\∀ x∈rows,0<=x/\x<2 ^ h.toNat)->X4 h t rows):OkC Tryz.prog 68 Yv :=
 Qr Z71 mixed (C:=U9) (V:=λ(d:(Int×Bool)×List Int)=>X4 d.1.1 d.1.2 d.2) ⟨(.cons K9 .nil),XsOk.nil,ItsOk.nil,YlOk.nil,IysOk.nil,XfOk.nil⟩ (Hq) λd hp=>h d.1.1 d.1.2 d.2 hp
theorem H8:Hm:=HE λh t rows hp=>by unfold X4;simp_all
def HL:AL (Int×List (Int×List Int)):=(.cons (.k (.i .i64)) (.one (.k (.list (.pair (.i .i64) (.list (.i .i64)))))))
def AU (d:Int×List (Int×List Int)):Prop:=d.2.length<=1000/\∀ x∈d.2,x.2.length<=1000
def BJ (d:Int×List (Int×List Int)):SV:=.tup [.agg [.val (.i .i64) (OA d.1 d.2),.lst 0],.val (.i .i64) (Jh d.1 d.2)]
def H0 (d:Int×List (Int×List Int)):List OB:=[.lst 3 (.i .i64) (Ti d.1 d.2) ((Ti d.1 d.2).isEmpty)]
def Dx:CSp:=Wt HL AU BJ H0
abbrev It :=(([]:List (List Int))≠[]/\([]:List (List Int)).length<=100/\∀ s∈([]:List (List Int)),s.length=(([]:List (List Int)).getD 0 []).length/\s.length<=60/\∀ x∈s,0<=x/\x<16777216)
abbrev F_ :=(1<=(0:Int)/\(0:Int)<=24/\(D_ ([]:List (List Int)))≠[]/\(D_ ([]:List (List Int))).length<=110/\∀ x∈(D_ ([]:List (List Int))),0<=x/\x<2 ^ (0:Int).toNat)
abbrev ES (w:Int) (l:List (Int×List Int)):=((((0:Int)=(OA w l)/\True/\nS)/\(0:Int)=(Jh w l)/\nS)/\(((Ub (0:Int) false (D_ ([]:List (List Int))))=(Ti w l)/\false=(Ti w l).isEmpty)/\True))
def Vd (w:Int) (l:List (Int×List Int)):Prop :=
 ∀ w1:List Value,(l.length<=1000/\∀ x∈l,x.2.length<=1000)/\(((ZV l) != (0:Int))=true ->
  w1=w1/\(((ZV l) != (0:Int))=true ->
   ((((0:Int)=(OA w l)/\True/\nS)/\(ZV l)=(Jh w l)/\nS)/\(((Ti w l)=[]/\(Ti w l).isEmpty=true)/\True))) /\
  (((ZV l) != (0:Int))=false ->
   It/\(false=true->(D_ ([]:List (List Int)))=[])/\F_/\(ES w l))) /\
 (((ZV l) != (0:Int))=false ->
  (((w != (1:Int))&&(w != (2:Int)))=true ->
   w1=w1/\(((2:Int) != (0:Int))=true ->
    ((((0:Int)=(OA w l)/\True/\nS)/\(2:Int)=(Jh w l)/\nS)/\(((Ti w l)=[]/\(Ti w l).isEmpty=true)/\True))) /\
   (((2:Int) != (0:Int))=false ->
    It/\(false=true->(D_ ([]:List (List Int)))=[])/\F_/\(ES w l))) /\
  (((w != (1:Int))&&(w != (2:Int)))=false ->
   (0<=(0:Int))/\((0:Int)<l.length)/\∃ (e5:Int×Bool×(List (Int×List Int))×Int×Int×(List (Int×List Int))×Int×Int×Int×(List (Int×List Int))×(List Value)) (d50:(List (List Int))×Int),((True/\l=e5.2.2.1/\(lI l)=e5.2.2.2.1/\(0:Int)=d50.2/\True)/\(((gD l (0:Int) (0,[])).1=e5.1/\(w==(2:Int))=e5.2.1/\True/\nS)/\(d50.1=[]/\d50.1.isEmpty=true)/\((rg e5).2.2=w1/\(w=(rb e5).1/\l=(rb e5).2.1/\True/\True/\True/\(0:Int)=(rb e5).2.2.2.1/\True/\True/\True/\w=(rg e5).1/\l=(rg e5).2.1/\True/\True/\True/\True/\True/\True/\True/\True/\True/\True/\True/\True/\True/\nS))/\((0:Int)=(rb e5).2.2.1/\True/\nS)/\True)) /\
   LoopP (λ(d5:(List (List Int))×Int) (q5:((List (List Int))×Int)->Prop) =>
    ((decide (d5.2<e5.2.2.2.1))=true ->
     (0<=d5.2)/\(d5.2<e5.2.2.1.length)/\(1<=e5.1/\e5.1<=24/\((gD e5.2.2.1 d5.2 (0,[])).2)≠[]/\((gD e5.2.2.1 d5.2 (0,[])).2).length<=110/\∀ x∈((gD e5.2.2.1 d5.2 (0,[])).2),0<=x/\x<2 ^ e5.1.toNat)/\(false=true->(Ub e5.1 e5.2.1 ((gD e5.2.2.1 d5.2 (0,[])).2))=[])/\((d5.1.length+(List.length [(Ub e5.1 e5.2.1 ((gD e5.2.2.1 d5.2 (0,[])).2))]))*24<=70368744177664)/\(I64 (d5.2+(1:Int)))/\(∃ d6:(List (List Int))×Int,((True/\e5.2.2.1=e5.2.2.1/\e5.2.2.2.1=e5.2.2.2.1/\(d5.2+(1:Int))=d6.2/\True)/\((e5.1=e5.1/\e5.2.1=e5.2.1/\True/\nS)/\((d5.1++[(Ub e5.1 e5.2.1 ((gD e5.2.2.1 d5.2 (0,[])).2))])=d6.1/\false=d6.1.isEmpty)/\((rg e5).2.2=(rg e5).2.2/\((rb e5).1=(rb e5).1/\(rb e5).2.1=(rb e5).2.1/\True/\True/\True/\(rb e5).2.2.2.1=(rb e5).2.2.2.1/\True/\True/\True/\(rg e5).1=(rg e5).1/\(rg e5).2.1=(rg e5).2.1/\True/\True/\True/\True/\True/\True/\True/\True/\True/\True/\True/\True/\True/\nS))/\((rb e5).2.2.1=(rb e5).2.2.1/\True/\nS)/\True))/\q5 d6)) /\
    ((decide (d5.2<e5.2.2.2.1))=false ->
     (rg e5).2.2=w1/\(((0:Int) != (0:Int))=true ->
      ((((0:Int)=(OA w l)/\True/\nS)/\(0:Int)=(Jh w l)/\nS)/\(((Ti w l)=[]/\(Ti w l).isEmpty=true)/\True))) /\
     (((0:Int) != (0:Int))=false ->
      (d5.1≠[]/\d5.1.length<=100/\∀ s∈d5.1,s.length=(d5.1.getD 0 []).length/\s.length<=60/\∀ x∈s,0<=x/\x<16777216)/\(false=true->(D_ d5.1)=[])/\(1<=e5.1/\e5.1<=24/\(D_ d5.1)≠[]/\(D_ d5.1).length<=110/\∀ x∈(D_ d5.1),0<=x/\x<2 ^ e5.1.toNat)/\(((e5.1=(OA w l)/\True/\nS)/\(0:Int)=(Jh w l)/\nS)/\(((Ub e5.1 e5.2.1 (D_ d5.1))=(Ti w l)/\false=(Ti w l).isEmpty)/\True))))) d50))
def Y4:Cx:=⟨[(24,(.list (.i .i64)))],[(72,Uf),(73,Xd)],48,[],0,[],[],[(24,3)],[],false,[],[],[],[]⟩
def Yz:List (Nat×LoopAnn):=[(0,⟨Int×Bool×(List (Int×List Int))×Int×Int×(List (Int×List Int))×Int×Int×Int×(List (Int×List Int))×(List Value),(List (List Int))×Int,[4,30,31,32],λe x=>[.box 1200004 0,.val (.list (.pair (.i .i64) (.list (.i .i64)))) e.2.2.1,.val (.i .i64) e.2.2.2.1,.val (.i .i64) x.2],λe x=>[(1200004,.slot 4,.cells [.val (.i .i64) e.1,.val .bo e.2.1,.dd 1200044 .out] (some 83)),(1200044,.cell 1200004 2,.deep 24 (some 3) (.list (.i .i64)) x.1 (List.isEmpty x.1) none),(1199999,.key 1199999,.stk [.val (.i .i64) (rb e).1,.val (.list (.pair (.i .i64) (.list (.i .i64)))) (rb e).2.1,.any,.any,.box 4 0,.val (.i .i64) (rb e).2.2.2.1,.any,.any,.any,.val (.i .i64) (rg e).1,.val (.list (.pair (.i .i64) (.list (.i .i64)))) (rg e).2.1,.any,.any,.any,.any,.any,.any,.any,.any,.any,.any,.any,.any,.any] (rg e).2.2),(4,.key 4,.cells [.val (.i .i64) (rb e).2.2.1,.nilS] (some 28))]⟩)]
def HY:Cx:=⟨[],[(69,HG),(68,Yv)],24,[],0,[(31,Q5i Y4 (λ_=>Yz) c31 [.cell 4 true 3,.tmp 5] 48)],[],[],[],false,[],[],[],[]⟩
def EZ (w:Int) (l:List (Int×List Int)):List (Nat×LoopAnn):=[]
theorem FT (d:Int×List (Int×List Int)):gwp (HY) (EZ d.1 d.2) c27 0 (WB [.cell 4 true 2,.tmp 5] (BJ d) (H0 d)) (Qn 24 (AL.can HL d))=Vd d.1 d.2:=by kernel_rfl
abbrev FD:Prop:=OkC Tryz.prog 27 Dx
theorem Fm (h:∀ (w:Int) (l:List (Int×List Int)),(l.length<=1000/\∀ x∈l,x.2.length<=1000)->Vd w l):OkC Tryz.prog 27 Dx :=
 Qr Z98 mixed (C:=HY) (V:=λ(d:Int×List (Int×List Int))=>Vd d.1 d.2) ⟨(.cons IE (.cons H8 .nil)),(XsOk.cons (U4 Z3p mixed (C:=Y4) ⟨(.cons PW (.cons K9 .nil)),XsOk.nil,ItsOk.nil,YlOk.nil,IysOk.nil,XfOk.nil⟩ (λ_=>Yz)) XsOk.nil),ItsOk.nil,YlOk.nil,IysOk.nil,XfOk.nil⟩ (FT) λd hp=>h d.1 d.2 hp
theorem Z3x {l:List Des}(h:ZV l=0):l≠[]/\l.length<=10/\∀ d∈l,Qs d.1 d.2=0/\d.1=(l.getD 0 (0,[])).1/\d.2.length=(l.getD 0 (0,[])).2.length:=by
 unfold ZV at h;split at h
 .cases h
 .split at h
  .cases h
  .rename_i h1 h2;split at h
   .exact absurd h ‹_›
   .rename_i h3;split at h
    .cases h
    .rename_i h4;have h3:Uz l=0:=by simpa using h3
     refine⟨h2,by omega,λd hd=>?_⟩;have p1:Qs d.1 d.2=0:=by
      unfold Uz at h3
      grind
     grind
theorem I4:FD:=Fm λw l h=>by
 unfold Vd;(try delta It F_ ES);(try delta lI gD sT I64 Z6 rg rb zD nS)
 (try simp only[zh,zz,and_true,true_and])
 intro w1;refine⟨h,λhs=>⟨λ_=>?_,λhx=>?_⟩,λhs=>?_⟩
 .have hs:=bne_iff_ne.1 hs;have ho:Jh w l=ZV l:=by unfold Jh;rw[z6 hs]
  unfold Ti OA;simp_all
 .rw[hx] at hs;cases hs
 have hs:ZV l=0:=by simpa using hs
 obtain⟨q1,q2,q3⟩:=Z3x hs;have bh:0<l.length:=zW.2 q1;have ho:Jh w l=if w=1\/w=2 then 0 else 2:=by unfold Jh;rw[z7 (by omega)]
 refine⟨λhw=>⟨λ_=>?_,λhx=>by simp at hx⟩,λhw=>⟨by omega,by omega,?_⟩⟩
 .have hw:¬ (w=1\/w=2):=by
   simp_all
  unfold Ti OA;simp_all
 .have hw:w=1\/w=2:=by
   grind
  rw[z6 hw] at ho;have hH:OA w l=(l.getD 0 (0,[])).1:=by unfold OA;rw[z6 ho]
  have hF:Ti w l=Ub (l.getD 0 (0,[])).1 (w==2) (D_ (l.map λd=>Ub (l.getD 0 (0,[])).1 (w==2) d.2)):=by unfold Ti;rw[z6 ho]
  rw[hH,hF,ho];have hall:∀ d∈l,1<=(l.getD 0 (0,[])).1/\(l.getD 0 (0,[])).1<=24/\d.2.length<=60/\d.2≠[]/\d.2.length=(l.getD 0 (0,[])).2.length/\∀ x∈d.2,0<=x/\x<2 ^ (l.getD 0 (0,[])).1.toNat:=λd hd=>by
   obtain⟨a1,a2,a3⟩:=q3 d hd;obtain⟨z1,z2,z3,z4,z5⟩:=J2g a1
   grind
  generalize wQ:(l.getD 0 (0,[])).1=H at hall |-;generalize i_:(l.getD 0 (0,[])).2.length=n at hall;have h0:=hall _ (Gw (d:=(0,[])) q1);have jF:∀ d∈l,(Ub H (w==2) d.2).length=n/\n<=60/\n≠0/\∀ x∈Ub H (w==2) d.2,0<=x/\x<2 ^ H.toNat:=λd hd=>by
   obtain⟨b1,b2,b3,b4,b5,b6⟩:=hall d hd;have fx:=Pg H.toNat;have wR:=Nat.one_le_two_pow (n:=H.toNat);refine⟨?_,by omega,(by grind),?_⟩
   .unfold Ub;split<;>simp[b5]
   .unfold Ub;split
    .intro x hx;obtain⟨r,iq,rfl⟩:=zS.1 hx;have:=b6 r iq;have:=Nat.xor_lt_two_pow (x:=r.toNat) (y:=2 ^ H.toNat-1) (n:=H.toNat) (by omega) (by omega);omega
    .exact b6
  refine⟨(H,(w==2),l,(l.length:Int),w,l,0,0,w,l,w1),([],0),?_,?_⟩
  .simp_all
  dsimp only;refine LoopP.count2 l.length (λk x=>x=(l.map λd=>Ub H (w==2) d.2).take k) rfl ?_;rintro k x hk rfl q hq;have dC:((l.map λd=>Ub H (w==2) d.2).take k).length=k:=by simp_all
  simp only[Qc,zd,dC,true_and];refine⟨λaj=>?_,λbI=>?_⟩
  .grind [Qf,List.getElem_mem,List.length_cons,List.length_nil,QV,List.length_map]
  .rw[zI (by rw[xG];omega)];refine⟨λhx=>by simp at hx,λ_=>?_⟩;have aG:(l.map λd=>Ub H (w==2) d.2)≠[]:=by simp_all
   have hS:∀ s∈(l.map λd=>Ub H (w==2) d.2),s.length=n/\n<=60/\n≠0/\∀ x∈s,0<=x/\x<2 ^ H.toNat:=λs hs=>by obtain⟨d,hd,rfl⟩:=zS.1 hs;exact jF d hd
   have vG:(l.map λd=>Ub H (w==2) d.2).length<=10:=by rw[xG];exact q2
   generalize (l.map λd=>Ub H (w==2) d.2)=S at aG hS vG |-;have vH:=hS _ (Gw (d:=[]) aG);have wS:(D_ S).length=n:=by rw[Q2e];exact vH.1
   have fx:=Pg H.toNat;have rr:=Z84 (h:=H.toNat) (by omega);have hJ:∀ x∈D_ S,0<=x/\x<2 ^ H.toNat:=λx hx=>by
    unfold D_ at hx;obtain⟨i,hi,rfl⟩:=zS.1 hx;have gQ:AX S i<2 ^ H.toNat:=by
     refine Nat.lt_of_not_le λbI=>?_;obtain⟨j,hj,hb⟩:=Nat.exists_ge_and_testBit_of_ge_two_pow bI;rw[Sg] at hb;obtain⟨s,hs,hb⟩:=xE.1 hb;have hx:(s.getD i 0).toNat<2 ^ H.toNat:=by
      grind [XX,List.getElem?_eq_none,Nat.two_pow_pos]
     grind [Nat.testBit_lt_two_pow,Nat.lt_of_lt_of_le,Nat.pow_le_pow_right]
    omega
   have sP:D_ S≠[]:=by grind
   have wT:(Ub H (w==2) (D_ S)).isEmpty=false:=by
    rw[List.isEmpty_eq_false_iff];unfold Ub;split
    .rw[ne_eq,List.map_eq_nil_iff];exact sP
    .exact sP
   grind
theorem Z46 {hd:Int}{rows:List Int}(h2:1<=hd) (h3:hd<=24) (h5:rows.length<=60) (h4:1<=rows.length) (h6:∀ x∈rows,0<=x/\x<2 ^ hd.toNat):Qs hd rows=0:=by
 have e1:inI hd 1 24=true:=by simp[inI];omega
 have e2:(rows.any λx=>!inI x 0 (2 ^ hd.toNat-1))=false:=by
  rw[xU];intro x hx;have:=h6 x hx;have e3:inI x 0 (2 ^ hd.toNat-1)=true:=by unfold inI;simp only[z0,zh];omega
  rw[e3];simp
 unfold Qs;rw[z7 (by rw[e1];simp),z7 (by omega),z7 (by omega),z7 (by rw[e2];simp)]
theorem Q1t {H:Int}{R:List Int}{L:List Des}(hk:1<=H/\H<=24) (r1:R≠[]) (r2:R.length<=60) (r3:∀ x∈R,0<=x/\x<2 ^ H.toNat) (l1:L≠[]) (l2:L.length<=10) (l3:∀ d∈L,d.1=H/\SubR R d.2):Jh 1 L=0/\OA 1 L=H/\Ti 1 L=D_ (L.map (·.2)):=by
 have vI:∀ d∈L,Qs d.1 d.2=0:=λd hd=>by obtain⟨a,b⟩:=l3 d hd;have:=b.1;have:=zW.2 r1;rw[a];exact Z46 hk.1 hk.2 (by omega) (by omega) (b.ok r3)
 have h0:=l3 _ (Gw (d:=(0,[])) l1);have hs:ZV L=0:=by
  have hc:Uz L=0:=by
   unfold Uz;have:L.find? (λd=>decide (Qs d.1 d.2≠0))=none:=by rw[List.find?_eq_none];intro d hd;simp[vI d hd]
   rw[this]
  have ha:(L.any λd=>decide (d.1≠(L.getD 0 (0,[])).1)||decide (d.2.length≠(L.getD 0 (0,[])).2.length))=false:=by rw[xU];intro d hd;obtain⟨a,b⟩:=l3 d hd;rw[a,b.1,h0.1,h0.2.1];simp
  unfold ZV;rw[z7 (by omega),z7 l1,z7 (by omega),ha];rfl
 have ho:Jh 1 L=0:=by unfold Jh;rw[z7 (by omega)];rfl
 refine⟨ho,by unfold OA;rw[z6 ho];exact h0.1,?_⟩;have ht:∀ (h:Int) (l:List Int),Ub h ((1:Int)==2) l=l:=λ_ _=>rfl;unfold Ti;rw[z6 ho];simp only[ht]
theorem Q95 {H:Int}{R F:List Int}(hk:1<=H/\H<=24) (r1:R≠[]) (r2:R.length<=60) (r3:∀ x∈R,0<=x/\x<2 ^ H.toNat) (hF:SubR R F):Jh 1 [(H,R),(H,F)]=0/\Q5m 1 H R H F=true/\Q5j 1 H R H F=Q64 R F:=by
 have ho:=(Q1t (L:=[(H,R),(H,F)]) hk r1 r2 r3 (by simp) (by simp) (λd hd=>by
  rcases zN.1 hd with rfl|hd
  .exact⟨rfl,.refl λx hx=>(r3 x hx).1⟩
  .rw[zK.1 hd];exact⟨rfl,hF⟩)).1
 refine⟨ho,?_,?_⟩
 .unfold Q5m;rw[z6 ho];exact Z0j hF
 .unfold Q5j;rw[z6 ho];rfl
def GX:AL ((Int×List Int)×Int×List Int):=(.cons (.agg (.cons (.k (.i .i64)) (.one (.k (.list (.i .i64)))))) (.one (.agg (.cons (.k (.i .i64)) (.one (.k (.list (.i .i64))))))))
def RT (d:(Int×List Int)×Int×List Int):Prop:=d.1.2.length<=1000000
def MD (d:(Int×List Int)×Int×List Int):SV:=.val .bo (decide (d.1.1=d.2.1)&&(d.1.2==d.2.2))
def Mt (d:(Int×List Int)×Int×List Int):List OB:=[]
def UT:CSp:=Wt GX RT MD Mt
def Y1 (hd:Int) (rows:List Int) (aR:Int) (ao:List Int):Prop :=
 ((hd==aR)=true->rows.length<=1000000)/\(((hd==aR)&&(rows==ao))=(decide (hd=aR)&&(rows==ao))/\(True))
def DF:Cx:=⟨[],[(16,Y2)],17,[],0,[],[],[],[],false,[],[],[],[]⟩
def Lx (hd:Int) (rows:List Int) (aR:Int) (ao:List Int):List (Nat×LoopAnn):=[]
theorem C8 (d:(Int×List Int)×Int×List Int):gwp (DF) (Lx d.1.1 d.1.2 d.2.1 d.2.2) c29 0 (WB [.tmp 4] (MD d) (Mt d)) (Qn 17 (AL.can GX d))=Y1 d.1.1 d.1.2 d.2.1 d.2.2:=by kernel_rfl
abbrev C4:Prop:=OkC Tryz.prog 29 UT
theorem Sz (h:∀ (hd:Int) (rows:List Int) (aR:Int) (ao:List Int),(rows.length<=1000000)->Y1 hd rows aR ao):OkC Tryz.prog 29 UT :=
 Qr Z7m mixed (C:=DF) (V:=λ(d:(Int×List Int)×Int×List Int)=>Y1 d.1.1 d.1.2 d.2.1 d.2.2) ⟨(.cons UU .nil),XsOk.nil,ItsOk.nil,YlOk.nil,IysOk.nil,XfOk.nil⟩ (C8) λd hp=>h d.1.1 d.1.2 d.2.1 d.2.2 hp
theorem SK:C4:=Sz λhd rows aR ao h=>by unfold Y1;grind
def BE:AL (Int×(Int×List Int)×List Int):=(.cons (.k (.i .i64)) (.cons (.agg (.cons (.k (.i .i64)) (.one (.k (.list (.i .i64)))))) (.one (.k (.list (.i .u8))))))
def SP (d:Int×(Int×List Int)×List Int):Prop:=(d.1=1\/d.1=2)/\1<=d.2.1.1/\d.2.1.1<=24/\d.2.1.2≠[]/\d.2.1.2.length<=1000/\(∀ x∈d.2.1.2,0<=x/\x<16777216)/\d.2.2.length<=9223372036854775807/\∀ x∈d.2.2,0<=x/\x<=255
def Dn (d:Int×(Int×List Int)×List Int):SV:=.agg [.val (.i .i64) d.2.1.1,.lst 0]
def Gt (d:Int×(Int×List Int)×List Int):List OB:=[.lst 3 (.i .i64) (Q92 d.1 d.2.1.1 d.2.1.2 d.2.2) false]
def M9:CSp:=Wt BE SP Dn Gt
abbrev S5 :=((0:Int)=(0:Int)/\True/\nS)
abbrev P8 (hd:Int):=(hd=hd/\True/\nS)
def Ko (w:Int) (hd:Int) (rows:List Int) (by_:List Int):Prop :=
 (rows.length<=1000)/\∃ (e3:Unit) (d30:(List Int)×Int),((w=w/\by_=by_/\True/\True/\True/\(0:Int)=d30.2/\True)/\((hd=hd/\rows=rows/\nS)/\S5/\(P8 hd)/\(rows=d30.1/\false=false)/\True)) /\
 LoopP (λ(d3:(List Int)×Int) (q3:((List Int)×Int)->Prop) =>
  (((decide (d3.2<(lI by_)))&&(decide (d3.2<(6:Int))))=true ->
   (0<=d3.2)/\(d3.2<by_.length)/\(I64 (gD by_ d3.2 0))/\((8:Int)≠0)/\(I64 (Int.tdiv (gD by_ d3.2 0) (8:Int)))/\((lI d3.1)≠0)/\(0<=d3.2)/\(d3.2<by_.length)/\(I64 (gD by_ d3.2 0))/\(hd≠0)/\(InK .u64 (Int.tmod (gD by_ d3.2 0) hd))/\(0<=(Int.tmod (gD by_ d3.2 0) hd))/\(I64 (YA .i64 (1:Int) (Int.tmod (gD by_ d3.2 0) hd)))/\((w==(1:Int))=true ->
    (0<=(Int.tmod (Int.tdiv (gD by_ d3.2 0) (8:Int)) (lI d3.1)))/\((Int.tmod (Int.tdiv (gD by_ d3.2 0) (8:Int)) (lI d3.1))<d3.1.length)/\(0<=(Int.tmod (Int.tdiv (gD by_ d3.2 0) (8:Int)) (lI d3.1)))/\((Int.tmod (Int.tdiv (gD by_ d3.2 0) (8:Int)) (lI d3.1))<d3.1.length)/\(I64 (d3.2+(1:Int)))/\(∃ d4:(List Int)×Int,((w=w/\by_=by_/\True/\True/\True/\(d3.2+(1:Int))=d4.2/\True)/\((hd=hd/\rows=rows/\nS)/\S5/\(P8 hd)/\((sT d3.1 (Int.tmod (Int.tdiv (gD by_ d3.2 0) (8:Int)) (lI d3.1)) (Qb .andNot .i64 (gD d3.1 (Int.tmod (Int.tdiv (gD by_ d3.2 0) (8:Int)) (lI d3.1)) 0) (YA .i64 (1:Int) (Int.tmod (gD by_ d3.2 0) hd))))=d4.1/\false=false)/\True))/\q3 d4)) /\
   ((w==(1:Int))=false ->
    (0<=(Int.tmod (Int.tdiv (gD by_ d3.2 0) (8:Int)) (lI d3.1)))/\((Int.tmod (Int.tdiv (gD by_ d3.2 0) (8:Int)) (lI d3.1))<d3.1.length)/\(0<=(Int.tmod (Int.tdiv (gD by_ d3.2 0) (8:Int)) (lI d3.1)))/\((Int.tmod (Int.tdiv (gD by_ d3.2 0) (8:Int)) (lI d3.1))<d3.1.length)/\(I64 (d3.2+(1:Int)))/\(∃ d5:(List Int)×Int,((w=w/\by_=by_/\True/\True/\True/\(d3.2+(1:Int))=d5.2/\True)/\((hd=hd/\rows=rows/\nS)/\S5/\(P8 hd)/\((sT d3.1 (Int.tmod (Int.tdiv (gD by_ d3.2 0) (8:Int)) (lI d3.1)) (Qb .or .i64 (gD d3.1 (Int.tmod (Int.tdiv (gD by_ d3.2 0) (8:Int)) (lI d3.1)) 0) (YA .i64 (1:Int) (Int.tmod (gD by_ d3.2 0) hd))))=d5.1/\false=false)/\True))/\q3 d5))) /\
  (((decide (d3.2<(lI by_)))&&(decide (d3.2<(6:Int))))=false ->
   ((P8 hd)/\((d3.1=(Q92 w hd rows by_)/\false=false)/\True)))) d30
def BV:Cx:=⟨[],[(6,Yr)],62,[],0,[],[],[],[],false,[],[],[],[]⟩
def A4 (w:Int) (hd:Int) (rows:List Int) (by_:List Int):List (Nat×LoopAnn):=[(0,⟨Unit,(List Int)×Int,[0,2,4,6,7,8],λe x=>[.val (.i .i64) w,.val (.list (.i .u8)) by_,.box 4 0,.box 6 0,.box 7 0,.val (.i .i64) x.2],λe x=>[(4,.slot 4,.cells [.val (.i .i64) hd,.val (.list (.i .i64)) rows] (some 28)),(6,.slot 6,.cells [.val (.i .i64) (0:Int),.nilS] (some 28)),(7,.slot 7,.cells [.val (.i .i64) hd,.lst 12] (some 28)),(12,.cell 7 1,.lst 3 (.i .i64) x.1 false)]⟩)]
theorem AQ (d:Int×(Int×List Int)×List Int):gwp (BV) (A4 d.1 d.2.1.1 d.2.1.2 d.2.2) c54 0 (WB [.cell 6 true 2] (Dn d) (Gt d)) (Qn 62 (AL.can BE d))=Ko d.1 d.2.1.1 d.2.1.2 d.2.2:=by kernel_rfl
abbrev CQ:Prop:=OkC Tryz.prog 54 M9
theorem CJ (h:∀ (w:Int) (hd:Int) (rows:List Int) (by_:List Int),((w=1\/w=2)/\1<=hd/\hd<=24/\rows≠[]/\rows.length<=1000/\(∀ x∈rows,0<=x/\x<16777216)/\by_.length<=9223372036854775807/\∀ x∈by_,0<=x/\x<=255)->Ko w hd rows by_):OkC Tryz.prog 54 M9 :=
 Qr Z6x mixed (C:=BV) (V:=λ(d:Int×(Int×List Int)×List Int)=>Ko d.1 d.2.1.1 d.2.1.2 d.2.2) ⟨(.cons UD .nil),XsOk.nil,ItsOk.nil,YlOk.nil,IysOk.nil,XfOk.nil⟩ (AQ) λd hp=>h d.1 d.2.1.1 d.2.1.2 d.2.2 hp
theorem CY:CQ:=CJ λw hd rows by_ h=>by
 unfold Ko;(try delta S5 P8);(try delta lI gD sT I64 Z6 rg rb zD nS)
 (try simp only[and_true,true_and])
 obtain⟨h1,h2,h3,h4,h5,h6,h7,h8⟩:=h;have bh:0<rows.length:=zW.2 h4;refine⟨by omega,(),(rows,0),(by simp_all),?_⟩;refine LoopP.count2 (min 6 by_.length) (λk l=>l=(by_.take k).foldl (Q61 w hd) rows/\l.length=rows.length/\∀ x∈l,0<=x/\x<16777216) ⟨rfl,rfl,h6⟩ ?_;rintro k l hk ⟨hl,dC,vJ⟩ q hq;dsimp only;simp only[zd,Qc,D3];refine⟨λaj=>?_,λbI=>?_⟩
 .rw[z0,zh,zh] at aj;have aj:k<by_.length/\k<6:=by omega
  have hb:=h8 _ (XX aj.1);have ji:(by_.take (k+1)).foldl (Q61 w hd) rows=Q61 w hd l (by_.getD k 0):=by
   grind [QV,Qf]
  generalize by_.getD k 0=b at hb ji |-;obtain⟨n,rfl⟩:=zJ hb.1;obtain⟨H,rfl⟩:=zJ (show 0<=hd by omega);have e1:Int.tdiv (n:Int) 8=((n / 8:Nat):Int):=rfl;have e2:Int.tmod ((n / 8:Nat):Int) (l.length:Int)=((n / 8 % l.length:Nat):Int):=rfl;have e3:Int.tmod (n:Int) (H:Int)=((n % H:Nat):Int):=rfl;have jW:=xT (n / 8) (show l.length > 0 by omega);have gZ:=xT n (show H > 0 by omega);rw[e1,e2,e3];have hx:=vJ _ (XX jW);have hp:=Z84 (h:=n % H) (by omega);have es:YA .i64 1 ((n % H:Nat):Int)=((2 ^ (n % H):Nat):Int):=by rw[Z76 (by omega) (by omega),zd]
  rw[es];simp only[zd];have a7:∀ y:Int,0<=y->y<16777216->∀ x∈l.set (n / 8 % l.length) y,0<=x/\x<16777216:=(by grind);have eA:Qb .andNot .i64 (l.getD (n / 8 % l.length) 0) ((2 ^ (n % H):Nat):Int)=(((l.getD (n / 8 % l.length) 0).toNat ^^^ ((l.getD (n / 8 % l.length) 0).toNat &&& 2 ^ (n % H)):Nat):Int)/\(l.getD (n / 8 % l.length) 0).toNat ^^^ ((l.getD (n / 8 % l.length) 0).toNat &&& 2 ^ (n % H))<=(l.getD (n / 8 % l.length) 0).toNat:=by
   have:=DZ (a:=(l.getD (n / 8 % l.length) 0).toNat) (b:=2 ^ (n % H)) (by omega) (by omega)
   grind
  have eO:Qb .or .i64 (l.getD (n / 8 % l.length) 0) ((2 ^ (n % H):Nat):Int)=(((l.getD (n / 8 % l.length) 0).toNat ||| 2 ^ (n % H):Nat):Int):=by
   conv=>lhs;rw[show l.getD (n / 8 % l.length) 0=(((l.getD (n / 8 % l.length) 0).toNat:Nat):Int) by omega]
   exact J32 (by omega) (by omega)
  have wU:=Nat.or_lt_two_pow (x:=(l.getD (n / 8 % l.length) 0).toNat) (y:=2 ^ (n % H)) (n:=24) (by omega) (by have:=Nat.pow_lt_pow_right (a:=2) (by omega) (show n % H<24 by omega);omega);have el:∀ y,y=Q61 w (H:Int) l (n:Int)->y=(by_.take (k+1)).foldl (Q61 w (H:Int)) rows:=λy hy=>by rw[ji];exact hy
  have hI:=Z3m (h:=((n % H:Nat):Int)) (by omega) (by omega);rw[es,Qc] at hI
  (try simp only[es])
  refine⟨by omega,by omega,by omega,by omega,by omega,by omega,by omega,by omega,by omega,by omega,by omega,by omega,hI,λhw=>?_,λhw=>?_⟩
  .have hw:w=1:=by simpa using hw
   refine⟨by omega,by omega,by omega,by omega,by omega,(_,(k:Int)+1),⟨rfl,rfl⟩,hq _ (by omega) ⟨el _ ?_,by rw[zE];exact dC,?_⟩⟩
   .rw[eA.1];unfold Q61;rw[z6 hw];rfl
   grind
  .have hw:¬ w=1:=by simpa using hw
   refine⟨by omega,by omega,by omega,by omega,by omega,(_,(k:Int)+1),⟨rfl,rfl⟩,hq _ (by omega) ⟨el _ ?_,by rw[zE];exact dC,?_⟩⟩
   .rw[eO];unfold Q61;rw[z7 hw];rfl
   grind
 .rw[Bool.and_eq_false_iff,zz,zz] at bI;have eX:by_.take k=by_.take 6:=by
   grind [Nat.le_total,List.take_of_length_le]
  rw[hl,eX];rfl
def MM:AL (Int×(Int×List Int)×List (List Int)):=(.cons (.k (.i .i64)) (.cons (.agg (.cons (.k (.i .i64)) (.one (.k (.list (.i .i64)))))) (.one (.k (.list (.list (.i .u8)))))))
def Td (d:Int×(Int×List Int)×List (List Int)):Prop:=(d.1=1\/d.1=2)/\1<=d.2.1.1/\d.2.1.1<=24/\d.2.1.2≠[]/\d.2.1.2.length<=1000/\(∀ x∈d.2.1.2,0<=x/\x<16777216)/\d.2.2.length<=9223372036854775807/\∀ s∈d.2.2,s.length<=9223372036854775807/\∀ x∈s,0<=x/\x<=255
def Nt (d:Int×(Int×List Int)×List (List Int)):SV:=.dd 0 .out
def NA (d:Int×(Int×List Int)×List (List Int)):List OB:=[.deep 28 none (.pair (.i .i64) (.list (.i .i64))) (Ec d.1 d.2.1.1 d.2.1.2 d.2.2) false none]
def Vu:CSp:=Wt MM Td Nt NA
def Ww (w:Int) (hd:Int) (rows:List Int) (by_:List (List Int)):Prop :=
 ∃ (e3:Unit) (d30:(List (Int×List Int))×Int),((w=w/\by_=by_/\True/\True/\(0:Int)=d30.2/\True)/\((hd=hd/\rows=rows/\nS)/\(([]:List (Int×List Int))=d30.1/\false=false)/\True)) /\
 LoopP (λ(d3:(List (Int×List Int))×Int) (q3:((List (Int×List Int))×Int)->Prop) =>
  (((d3.2==(0:Int))||((decide (d3.2<(lI by_)))&&(decide (d3.2<(5:Int)))))=true ->
   ((decide (d3.2<(lI by_)))=true ->
    (0<=d3.2)/\(d3.2<by_.length)/\((w=1\/w=2)/\1<=hd/\hd<=24/\rows≠[]/\rows.length<=1000/\(∀ x∈rows,0<=x/\x<16777216)/\(gD by_ d3.2 []).length<=9223372036854775807/\∀ x∈(gD by_ d3.2 []),0<=x/\x<=255)/\((d3.1.length+(List.length [(hd,(Q92 w hd rows (gD by_ d3.2 [])))]))*32<=70368744177664)/\(I64 (d3.2+(1:Int)))/\(∃ d4:(List (Int×List Int))×Int,((w=w/\by_=by_/\True/\True/\(d3.2+(1:Int))=d4.2/\True)/\((hd=hd/\rows=rows/\nS)/\((d3.1++[(hd,(Q92 w hd rows (gD by_ d3.2 [])))])=d4.1/\false=false)/\True))/\q3 d4)) /\
   ((decide (d3.2<(lI by_)))=false ->
    ((w=1\/w=2)/\1<=hd/\hd<=24/\rows≠[]/\rows.length<=1000/\(∀ x∈rows,0<=x/\x<16777216)/\[(9:Int),(2:Int)].length<=9223372036854775807/\∀ x∈[(9:Int),(2:Int)],0<=x/\x<=255)/\((d3.1.length+(List.length [(hd,(Q92 w hd rows [(9:Int),(2:Int)]))]))*32<=70368744177664)/\(I64 (d3.2+(1:Int)))/\(∃ d5:(List (Int×List Int))×Int,((w=w/\by_=by_/\True/\True/\(d3.2+(1:Int))=d5.2/\True)/\((hd=hd/\rows=rows/\nS)/\((d3.1++[(hd,(Q92 w hd rows [(9:Int),(2:Int)]))])=d5.1/\false=false)/\True))/\q3 d5))) /\
  (((d3.2==(0:Int))||((decide (d3.2<(lI by_)))&&(decide (d3.2<(5:Int)))))=false ->
   (True/\((d3.1=(Ec w hd rows by_)/\false=false)/\True)))) d30
def ML:Cx:=⟨[(5,(.i .u8)),(28,(.pair (.i .i64) (.list (.i .i64))))],[(54,M9)],42,[],0,[],[],[],[],false,[],[],[],[]⟩
def RJ (w:Int) (hd:Int) (rows:List Int) (by_:List (List Int)):List (Nat×LoopAnn):=[(0,⟨Unit,(List (Int×List Int))×Int,[0,2,4,7,8],λe x=>[.val (.i .i64) w,.val (.list (.list (.i .u8))) by_,.box 4 0,.dd 10 .out,.val (.i .i64) x.2],λe x=>[(4,.slot 4,.cells [.val (.i .i64) hd,.val (.list (.i .i64)) rows] (some 28)),(10,.slot 7,.deep 28 none (.pair (.i .i64) (.list (.i .i64))) x.1 false none)]⟩)]
theorem Rc (d:Int×(Int×List Int)×List (List Int)):gwp (ML) (RJ d.1 d.2.1.1 d.2.1.2 d.2.2) c21 0 (WB [.tmp 6] (Nt d) (NA d)) (Qn 42 (AL.can MM d))=Ww d.1 d.2.1.1 d.2.1.2 d.2.2:=by kernel_rfl
abbrev Ri:Prop:=OkC Tryz.prog 21 Vu
theorem Rh (h:∀ (w:Int) (hd:Int) (rows:List Int) (by_:List (List Int)),((w=1\/w=2)/\1<=hd/\hd<=24/\rows≠[]/\rows.length<=1000/\(∀ x∈rows,0<=x/\x<16777216)/\by_.length<=9223372036854775807/\∀ s∈by_,s.length<=9223372036854775807/\∀ x∈s,0<=x/\x<=255)->Ww w hd rows by_):OkC Tryz.prog 21 Vu :=
 Qr Z7c mixed (C:=ML) (V:=λ(d:Int×(Int×List Int)×List (List Int))=>Ww d.1 d.2.1.1 d.2.1.2 d.2.2) ⟨(.cons CY .nil),XsOk.nil,ItsOk.nil,YlOk.nil,IysOk.nil,XfOk.nil⟩ (Rc) λd hp=>h d.1 d.2.1.1 d.2.1.2 d.2.2 hp
theorem Rm:Ri:=Rh λw hd rows by_ h=>by
 unfold Ww;(try delta lI gD sT I64 Z6 rg rb zD nS)
 (try simp only[zh,zz,and_true,true_and])
 obtain⟨h1,h2,h3,h4,h5,h6,h7,h8⟩:=h;refine⟨(),([],0),(by simp_all),?_⟩;refine LoopP.count2 (if by_=[] then 1 else min 5 by_.length) (λk l=>l=(Ec w hd rows by_).take k) rfl ?_;rintro k l hk rfl q hq;have cu:(Ec w hd rows by_).length=if by_=[] then 1 else min 5 by_.length:=by unfold Ec;split<;>simp
 have dC:((Ec w hd rows by_).take k).length=k:=by rw[xP];omega
 dsimp only;simp only[zd,Qc,dC];refine⟨λaj=>⟨λhb=>?_,λhb=>?_⟩,λbI=>?_⟩
 .have hb:k<by_.length:=by omega
  have aG:by_≠[]:=by rintro rfl;simp at hb
  rw[z7 aG] at cu hk hq;have wV:k<5:=by
   grind
  have hs:=h8 _ (zl hb);rw[Qf hb];refine⟨by omega,by omega,⟨h1,h2,h3,h4,h5,h6,hs⟩,by grind,by omega,(_,(k:Int)+1),⟨rfl,rfl⟩,hq _ (by omega) ?_⟩;have gQ:k<(Ec w hd rows by_).length:=by omega
  rw[QV gQ];congr 1;unfold Ec;simp[aG]
 .have hb:¬ k<by_.length:=by omega
  have iw:k=0:=by simp_all
  subst iw;have aG:by_=[]:=x5.1 (by omega);rw[z6 aG] at hq;refine⟨⟨h1,h2,h3,h4,h5,h6,by simp,λx hx=>?_⟩,by simp,by omega,(_,_),⟨rfl,rfl⟩,hq _ (by omega) ?_⟩
  .grind
  .unfold Ec;rw[z6 aG];rfl
 grind
def BR:AL (List (Int×List Int)):=(.one (.k (.list (.pair (.i .i64) (.list (.i .i64))))))
def LZ (d:List (Int×List Int)):Prop:=d.length<=1000/\∀ x∈d,x.2.length<=1000
def Gv (d:List (Int×List Int)):SV:=.dd 0 .out
def D8 (d:List (Int×List Int)):List OB:=[.deep 28 none (.pair (.i .i64) (.list (.i .i64))) d false none]
def NS:CSp:=Wt BR LZ Gv D8
def Ki (l:List (Int×List Int)):Prop :=
 ∃ (e2:Unit) (d20:(List (Int×List Int))×Int),((l=l/\True/\(0:Int)=d20.2/\True)/\((([]:List (Int×List Int))=d20.1/\false=false)/\True)) /\
 LoopP (λ(d2:(List (Int×List Int))×Int) (q2:((List (Int×List Int))×Int)->Prop) =>
  ((decide (d2.2<(lI l)))=true ->
   (0<=d2.2)/\(d2.2<l.length)/\(((gD l d2.2 (0,[])).2).length<=1000)/\((d2.1.length+(List.length [(((gD l d2.2 (0,[])).1),((gD l d2.2 (0,[])).2))]))*32<=70368744177664)/\(I64 (d2.2+(1:Int)))/\(∃ d3:(List (Int×List Int))×Int,((l=l/\True/\(d2.2+(1:Int))=d3.2/\True)/\(((d2.1++[(((gD l d2.2 (0,[])).1),((gD l d2.2 (0,[])).2))])=d3.1/\false=false)/\True))/\q2 d3)) /\
  ((decide (d2.2<(lI l)))=false ->
   (True/\((d2.1=l/\false=false)/\True)))) d20
def Bu:Cx:=⟨[(28,(.pair (.i .i64) (.list (.i .i64))))],[(6,Yr)],21,[],0,[],[],[],[],false,[],[],[],[]⟩
def AA (l:List (Int×List Int)):List (Nat×LoopAnn):=[(0,⟨Unit,(List (Int×List Int))×Int,[0,3,4],λe x=>[.val (.list (.pair (.i .i64) (.list (.i .i64)))) l,.dd 5 .out,.val (.i .i64) x.2],λe x=>[(5,.slot 3,.deep 28 none (.pair (.i .i64) (.list (.i .i64))) x.1 false none)]⟩)]
theorem A8 (d:List (Int×List Int)):gwp (Bu) (AA d) c28 0 (WB [.tmp 2] (Gv d) (D8 d)) (Qn 21 (AL.can BR d))=Ki d:=by kernel_rfl
abbrev Ae:Prop:=OkC Tryz.prog 28 NS
theorem A9 (h:∀ (l:List (Int×List Int)),(l.length<=1000/\∀ x∈l,x.2.length<=1000)->Ki l):OkC Tryz.prog 28 NS :=
 Qr Z6u mixed (C:=Bu) (V:=λ(d:List (Int×List Int))=>Ki d) ⟨(.cons UD .nil),XsOk.nil,ItsOk.nil,YlOk.nil,IysOk.nil,XfOk.nil⟩ (A8) λd hp=>h d hp
theorem A5:Ae:=A9 λl h=>by
 unfold Ki;(try delta lI gD sT I64 Z6 rg rb zD nS)
 (try simp only[zh,zz,and_true,true_and])
 refine⟨(),([],0),(by simp_all),?_⟩;refine LoopP.count2 l.length (λk x=>x=l.take k) rfl ?_;rintro k x hk rfl q hq;have dC:(l.take k).length=k:=by rw[xP];omega
 dsimp only;simp only[zd,Qc,dC]
 grind [Qf,List.getElem_mem,List.length_cons,List.length_nil,QV,List.take_of_length_le]
end Go.Proofs.Tryz
namespace Go.V
open Go
theorem Q9r {P:Program}{U:Heap}:Ret P U (.val .bo true) [] (.bool true) U :=
 ⟨⟨.refl _,Dead.refl _⟩,λ_=>rfl,XU,λj b hj=>by simp at hj,λj j' i hj=>by simp at hj,by simp[SR,KC]⟩
theorem Q9p {P:Program}{f:Nat}(h:∀ (U:Heap) (K:Value->Heap->Prop),K (.bool true) U->VCalled P f [] U K):OkC P f (Wt (.nil:AL Unit) (λ_=>True) (λ_=>.val .bo true) (λ_=>[])):=by
 intro ap dF U args vs c v bs ax hs hv b_ hc;unfold Wt at hs;split at hs
 .rename_i d hd;obtain⟨rfl,rfl,rfl⟩:=(by simpa using hs:True=c/\SV.val .bo true=v/\[]=bs);have:vs=[]:=by
   cases args with
   |nil=>simpa [SRs] using ax
   |cons a l=>simp[AL.dec] at hd
  subst this;refine⟨h U _ Q9r,λ_ _=>h U _ ⟨rfl,?_⟩⟩;unfold CR;cases U;simp only[List.length_nil,x4,List.getElem?_nil,Option.bind_none,Heap.mk.injEq,and_true];funext i;split
  .rfl
  .rename_i wf hi;exact wf i (by simpa using hi)
 .cases hs
end Go.V
namespace Go.V
open Go Go.ChangeShapes Go.WideShapes Go.RowKit Go.Deep Go.Joins
def Heap.RO (U:Heap):Prop:=∀ i b,U.get i=some b->b.wr=false
structure View (w:World) (ρ:Plc) (U:Heap):Prop where
 rel:HRel ρ U w
 ro:U.RO
structure More (ρ:Plc) (U:Heap) (ρ':Plc) (U':Heap):Prop where
 n:U.n<=U'.n
 pl:∀ i,i<U.n->∀ p,ρ' i=some p->ρ i=some p
 ag:Agree U U'
theorem More.refl (ρ:Plc) (U:Heap):More ρ U ρ U:=⟨z9 _,λ_ _ _ h=>h,Agree.refl _⟩
theorem More.trans {ρ ρ' ep:Plc}{U U' aF:Heap}(h:More ρ U ρ' U') (k:More ρ' U' ep aF):More ρ U ep aF :=
 ⟨x6 h.n k.n,λi hi p hp=>h.pl i hi p (k.pl i (zH hi h.n) p hp),h.ag.trans k.ag h.n⟩
def J1s (w:World):Prop:=∀ g cs,Q9k g=some cs->∃ e f,w.heap[g]?=some (.cells cs.toArray e f)
theorem View.emptyT (w:World) (ht:J1s w):View w (λ_=>none) Heap.empty where
 rel:=⟨⟨λi b h=>(by cases h),λ_ _=>rfl,λi p h=>(by cases h),λi j p q b _ h=>(by cases h)⟩,λg cs hg=>⟨ht g cs hg,λ⟨_,_,_,h,_⟩=>by cases h⟩⟩
 ro:=λi b h=>by cases h
theorem View.add {w:World}{ρ:Plc}{U:Heap}(h:View w ρ U) (p:Pl) (c:List Value) {C:Array Value}{e:TypeId}{f:Nat×Nat}(hb:w.heap[p.blk]?=some (.cells C e f)) (hs:p.shift+p.ext<=C.size) (hl:c.length<=p.ext) (ht:e=p.esz.ty)
  (hc:∀ (k:Nat) (v:Value),c[k]?=some v->∃ u,w.cell? ⟨p.blk,p.shift+k,none⟩=some u/\VRel ρ U.n v u) :
  View w (ρ.put U.n (some p)) (U.push (.cells c p.esz false p.tight))/\More ρ U (ρ.put U.n (some p)) (U.push (.cells c p.esz false p.tight)):=by
 have aY:∀ i,i<U.n->∀ q,(ρ.put U.n (some p)) i=some q->ρ i=some q:=λi hi q hq=>by unfold Plc.put at hq;rwa [z7 (by omega)] at hq
 have bQ:(U.push (.cells c p.esz false p.tight)).RO:=λi b hi=>by
  by_cases e:i=U.n
  .subst e;rw[Heap.q0a] at hi;obtain rfl:=osj hi;rfl
  .rw[Heap.q0e _ _ e] at hi;exact h.ro i b hi
 refine⟨⟨⟨⟨?_,?_,?_,?_⟩,λg cs hg=>⟨(h.rel.tab g cs hg).1,λ⟨i,_,b,_,hi,hw,_⟩=>by rw[bQ i b hi] at hw;cases hw⟩⟩,bQ⟩,⟨by simp,aY,λi hi=>Heap.q0i _ _ hi⟩⟩
 .intro i b hi;by_cases aS:i=U.n
  .subst aS;rw[Heap.q0a] at hi;obtain rfl:=osj hi;refine⟨p,by simp[Plc.put],rfl,rfl,hl,⟨C,e,f,hb,hs,ht⟩,λk v hk=>?_,λh=>by cases h⟩;obtain⟨u,hu,hv⟩:=hc k v hk;exact⟨u,hu,hv.mono (by simp) aY⟩
  .rw[Heap.q0e _ _ aS] at hi;obtain⟨q,hq,hB⟩:=h.rel.live i b hi;exact⟨q,by simp[Plc.put,aS,hq],hB.mono (by simp) aY rfl⟩
 .intro i hi;by_cases aS:i=U.n
  .grind [Heap.q0a]
  .rw[Heap.q0e _ _ aS] at hi;simp[Plc.put,aS,h.rel.dead i hi]
 .intro i q hq;by_cases aS:i=U.n
  .subst aS;simp[Plc.put] at hq
   grind
  .simp[Plc.put,aS] at hq;exact h.rel.lt i q hq
 .intro i j q r b _ _ _ cq hw _;rw[bQ i b cq] at hw;cases hw
theorem Q6j {P:Program}{fits:TypeId->Bool}{d:Nat}{e:TypeId}{count off n:Nat}(h:rowAt P fits d e count off n=true):off<=count*P.cellsOf e:=by
 cases d with
 |zero=>cases h
 |succ d =>
  unfold rowAt at h;by_cases hs:P.cellsOf e=0
  .simp[hs] at h
  .have bh:0<P.cellsOf e:=Nat.pos_of_ne_zero hs;simp only[hs,if_false,zr,z0,zX,zh] at h;have hd:=Nat.div_add_mod off (P.cellsOf e);have hm:=xT off bh;rcases h with⟨⟨h1,h2⟩,_⟩|⟨h1,_⟩
   .have:P.cellsOf e*(off / P.cellsOf e)<=P.cellsOf e*count:=Nat.mul_le_mul_left _ (by omega);rw[Nat.mul_comm count];omega
   .have:P.cellsOf e*(off / P.cellsOf e+1)<=P.cellsOf e*count:=Nat.mul_le_mul_left _ (by omega)
    grind
theorem Er {P:Program}:∀ {d:Nat}{e:TypeId}{count off:Nat}{u:TypeId}{n:Nat},liesAt P d e count off u n=true->off<=count*P.cellsOf e
 |0,_,_,_,_,_,h=>by cases h
 |d+1,e,count,off,u,n,h=>by
  unfold liesAt at h;rw[zr] at h;rcases h with h|h
  .exact Q6j h
  .split at h
   .exact Er h
   .cases h
theorem Ix {P:Program}{w:World}{r:Reach}{base:Nat}{a:Addr}{e:TypeId}{n:Nat}(h:w.has P r base a e n):∃ C row f,w.heap[a.block]?=some (.cells C row f)/\a.off<=C.size/\a.spot=none:=by
 obtain⟨_,hs,row,cells,dP,hl⟩:=h;unfold World.shape? at dP;split at dP
 .rename_i C e' f hb;obtain⟨rfl,rfl⟩:=(by simpa using dP:e'=row/\C.size=cells);exact⟨C,e',f,hb,x6 (Er hl) (Nat.div_mul_le_self _ _),hs⟩
 .cases dP
theorem R0 {P:Program}{w:World}{r:Reach}{base:Nat}{t e:TypeId}{v:Value}(ht:P.underlying t=some (.slice e)) (h:Cell.okWide P w r base t v) :
  v=.slice none 0 0\/∃ a len cap,v=.slice (some a) len cap/\w.has P r base a e cap:=by
 unfold Cell.okWide at h;rw[ht] at h;have h':Cell.ok P w r base t v:=by omega
 unfold Cell.ok at h'
 grind
theorem Z7r {k:IntKind}{x:Int}(h:(Lit.int k x).wf=true):k.min<=x/\x<=k.max:=by simpa [Lit.wf] using h
theorem View.calls {P:Program}{f:FuncId}{w:World}{ρ:Plc}{U:Heap}(h:View w ρ U) {args:List Value}{au:Array Value}(hl:LRel ρ U.n args au.toList) (hc:VCallsTo P f args U λv _=>v=.bool true) :
  Calls P f au w λe w'=>e=.returned (.bool true)/\Below w.heap.size w w':=by
 refine (hc ρ w au h.rel hl).mono λe w' ⟨c,he,v,ρ',U',hv,hr,_,hx⟩=>?_;subst hv;have:c=.bool true:=by cases hr;rfl
 subst this;exact⟨he,hx.os,hx.tape,hx.output,hx.size,λB hB=>hx.keep B hB λ⟨i,p,b,_,hi,hw,_⟩=>by rw[h.ro i b hi] at hw;cases hw⟩
theorem HP {H:Type}{enc:TypeId×Value->H}{P:Program}(hl:laidOutB P=true) {W W':World}{sp:Nat->Bool}(hb:Below W.heap.size W W') :
  ∀ {ts:List TypeId}{vs:List Value}{ds:List (DataW H)}{ps:List MemPlace},(∀ t∈ts,P.readableRec t=true/\t<P.types.size)->DataW.TrodAll enc P W 0 (λ_=>true) true ts vs ds ps->(∀ p∈ps,p.block<W.heap.size)->(∀ p∈ps,sp p.block=true) ->
   DataW.TrodAll enc P W' 0 sp true ts vs ds ps
 |[],vs,ds,ps,_,h,_,_=>by obtain⟨rfl,rfl,rfl⟩:=trodAll_nil h;rfl
 |t::ts,vs,ds,ps,ht,h,aj,hs=>by
  obtain⟨v,cG,d,ds',p,q,rfl,rfl,rfl,h1,h2⟩:=trodAll_cons h;obtain⟨r1,r2⟩:=ht t (by simp);exact⟨p,q,WideElems.Trod_stays hl r1 r2 h1 (λx hx=>hb.same (aj x (by simp[hx]))) (λx hx=>hs x (by simp[hx])),
   HP hl hb (λt pD=>ht t (by simp[pD])) h2 (λx hx=>aj x (by simp[hx])) (λx hx=>hs x (by simp[hx])),rfl⟩
theorem Q7u {H:Type}{enc:TypeId×Value->H}{P:Program}{f:Func}{s:ChangeSpec}{apart fresh handsOn again:Bool}{W W':World}{args:Array Value}{ds gs:List (DataW H)}{before:List MemPlace}{tb:TypeId}
  (hl:laidOutB P=true) (hp:f.params.toList.all (λt=>P.readableRec t&&decide (t<P.types.size))=true) (kH:s.vars=[]) (hr:f.resultTypes=#[tb]) (bM:P.underlying tb=some .bool) (hs:s.fn H ds={results:=[.lit (.bool true)],args:=ds})
  (hW:DataW.Whole enc P f.params.toList s.vars apart W args.toList ds gs before) (hb:Below W.heap.size W W'):s.post enc P f apart fresh handsOn again W args (.bool true) W':=by
 have aj:∀ p∈before,p.block<W.heap.size:=λp hp=>hW.lt p hp;have vK:=hW;obtain⟨p,q,hA,hV,rfl,hz,hn⟩:=hW;rw[kH] at hV;obtain⟨rfl,rfl⟩:=trodVars_none hV;have bE:∀ t∈f.params.toList,P.readableRec t=true/\t<P.types.size:=(by grind);have fy:s.fn H (ds++[])={results:=[.lit (.bool true)],args:=ds}:=by rw[xC];exact hs
 have cS:∀ (b:Nat) (sp:Nat->Bool) (hd:Bool),DataW.TrodAll enc P W' b sp hd f.resultTypes.toList ((Value.bool true).resultList f.resultTypes.size) (s.fn H (ds++[])).results []:=λb sp hd=>by rw[fy,hr];exact trodAll_mk1 (shut_bool bM _)
 have ax:∀ sp:Nat->Bool,(∀ x∈p++[],sp x.block=true)->DataW.TrodAll enc P W' 0 sp true f.params.toList args.toList (s.fn H (ds++[])).args p:=(by grind [HP]);have cz:∀ sp:Nat->Bool,DataW.TrodVars enc P W' sp s.vars (s.fn H (ds++[])).vars []:=λsp=>by rw[fy,kH];rfl
 have hold:∀ x∈p++[],(λb=>decide (b<W.heap.size)) x.block=true:=λx hx=>by simpa using aj x hx
 refine⟨ds,[],p++[],[],p,[],vK,cS _ _ _,ax _ hold,cz _,World.keptBut_mono (λx hx=>⟨hx,?_⟩) (hb.frame (·∈p++[])),λ_=>?_⟩
 .exact .inr (by simpa using hx)
 .refine⟨ok_one hr rfl (okWide_bool_mk bM _),_,_,([]++p)++[],⟨[]++p,[],trodAll_append (ax _ (λ_ _=>rfl)) (cS _ _ _),cz _,rfl,?_,?_⟩,?_⟩
  .intro b off hx;have aS:MemPlace.cell b off∈p++[]:=by simpa using hx
   rw[hb.frozen (aj _ aS)];exact hz b off aS
  .intro ha;simpa using hn ha
  .intro x hx _;simpa using hx
def KFs (T:Kind->TypeId->Bool) (sz:TypeId->Nat):Kind->List (TypeId×Nat)->Nat->Bool
 |_,[],_=>false
 |k,[p],off=>p.2==off&&(sz p.1==k.size&&T k p.1)
 |.pair a b,p::q::r,off=>p.2==off&&(sz p.1==a.size&&(T a p.1&&KFs T sz b (q::r) (off+a.size)))
 |_,_::_::_,_=>false
def Kind.row:Kind->Bool
 |.list k=>k.flat
 |_=>false
def J4d (P:Program) (t:TypeId):Bool:=match P.underlying t with|some (.slice _)=>true|_=>false
def KTy (P:Program):Nat->Kind->TypeId->Bool
 |0,_,_=>false
 |n+1,k,t=>match P.underlying t with
  |some (.struct fs)=>P.cellsOf t==k.size&&KFs (KTy P n) P.cellsOf k (fs.toList.map λf=>(f.type,f.offset)) 0
  |some (.array m e)=>P.cellsOf t==k.size&&KFs (KTy P n) P.cellsOf k ((List.range m).map λi=>(e,i*P.cellsOf e)) 0
  |some (.int ik)=>(match k with|.i k'=>decide (k'=ik)|_=>false)
  |some .bool=>(match k with|.bo=>true|_=>false)
  |some .string=>(match k with|.st=>true|_=>false)
  |some (.slice e)=>(match k with|.list k'=>P.cellsOf e==k'.size&&((k'.flat||(k'.row&&J4d P e))&&KTy P n k' e)|_=>false)
  |_=>false
def KWf:(k:Kind)->k.T->Prop
 |.i ik,x=>InK ik x
 |.bo,_=>True
 |.st,s=>s.length<=maxLen
 |.list k,l=>l.length<=maxLen/\∀ x∈l,KWf k x
 |.pair a b,x=>KWf a x.1/\KWf b x.2
theorem More.le {ρ ρ':Plc}{U U':Heap}(h:More ρ U ρ' U'):U.Le U':=⟨h.n,λi b hb=>by rw[h.ag i (U.lt hb)];exact hb⟩
def ArgIs (w:World) (ρ:Plc) (U:Heap) (k:Kind) (cs:List Value):Prop :=
 ∃ ρ' U' vs x,View w ρ' U'/\More ρ U ρ' U'/\LRel ρ' U'.n vs cs/\KC U' k x vs/\KWf k x
theorem ArgIs.pair {w:World}{ρ:Plc}{U:Heap}{a b:Kind}{cs ds:List Value}(h1:ArgIs w ρ U a cs) (h2:∀ ρ U,View w ρ U->ArgIs w ρ U b ds):ArgIs w ρ U (.pair a b) (cs++ds):=by obtain⟨ρ1,σ1,sQ,x1,k1,k2,k3,k4,k5⟩:=h1;obtain⟨ρ2,σ2,kj,x2,m1,m2,m3,m4,m5⟩:=h2 ρ1 σ1 k1;exact⟨ρ2,σ2,sQ++kj,(x1,x2),m1,k2.trans m2,(k3.mono m2.n m2.pl).append m3,⟨sQ,kj,rfl,k4.mono m2.le,m4⟩,k5,m5⟩
section
variable {H:Type}{enc:TypeId×Value->H}{P:Program}{w:World}{r:Reach}{base:Nat}
def okc (P:Program) (w:World) (r:Reach) (base:Nat) (ts:List TypeId) (cs:List Value):Prop:=∀ (i:Nat) v u,cs[i]?=some v->ts[i]?=some u->Cell.okWide P w r base u v
theorem Q10 {T:Kind->TypeId->Bool}{sz:TypeId->Nat}{g:TypeId->Option (List TypeId)}(hT:∀ k t ts,T k t=true->g t=some ts->ts.length=k.size) :
  ∀ {k:Kind}{L:List (TypeId×Nat)}{off:Nat}{hZ:List (List TypeId)},KFs T sz k L off=true->L.mapM (λp=>g p.1)=some hZ->hZ.flatten.length=k.size
 |k,[],_,_,h,_=>by simp[KFs] at h
 |k,[p],off,hZ,h,hm=>by
  simp only[KFs,z0] at h;cases hg:g p.1 with
  |none=>simp[hg] at hm
  |some ts =>simp[hg] at hm;subst hm;simpa using hT _ _ _ h.2.2 hg
 |.pair a b,p::q::r,off,hZ,h,hm=>by
  simp only[KFs,z0] at h;rw[xg] at hm;cases hg:g p.1 with
  |none=>simp[hg] at hm
  |some ts =>
   cases hr:(q::r).mapM (λp=>g p.1) with
   |none=>simp[hg,hr] at hm
   |some tr =>simp[hg,hr] at hm;subst hm;have:=Q10 hT h.2.2.2 hr;simp only[List.flatten_cons,zG,this,hT _ _ _ h.2.2.1 hg,Kind.size]
 |.i _,_::_::_,_,_,h,_|.bo,_::_::_,_,_,h,_|.st,_::_::_,_,_,h,_|.list _,_::_::_,_,_,h,_=>by cases h
theorem Pb {α β γ:Type}{f:α->β}{g:β->Option γ}:∀ (l:List α),(l.map f).mapM g=l.mapM (λx=>g (f x))
 |[]=>rfl
 |a::l=>by simp only[zO,xg,Pb l]
theorem Tp {β:Type}{x:β}{f:Nat->Option β}(h:∀ i,f i=some x):∀ l:List Nat,l.mapM f=some (List.replicate l.length x)
 |[]=>rfl
 |a::l=>by simp[xg,h,Tp h l,xw]
theorem Q0e:∀ {n:Nat}{k:Kind}{t:TypeId}{d:Nat}{ts:List TypeId},KTy P n k t=true->P.cellTypes d t=some ts->ts.length=k.size
 |0,_,_,_,_,h,_=>by cases h
 |_+1,_,_,0,_,_,h=>by cases h
 |n+1,k,t,d+1,ts,h,ht=>by
  have ih:∀ k t ts,KTy P n k t=true->P.cellTypes d t=some ts->ts.length=k.size:=λk t ts h1 h2=>Q0e h1 h2;unfold Program.cellTypes at ht;unfold KTy at h;cases hu:P.underlying t with
  |none=>rw[hu] at h;cases h
  |some u =>
   rw[hu] at h ht;cases u<;>first|(cases h;done)|skip
   all_goals simp only at h ht
   .split at h<;>first|(cases h;done)|(obtain rfl:=osj ht;rfl)
   .split at h<;>first|(cases h;done)|(obtain rfl:=osj ht;rfl)
   .split at h<;>first|(cases h;done)|(obtain rfl:=osj ht;rfl)
   .split at h<;>first|(cases h;done)|(obtain rfl:=osj ht;rfl)
   .rename_i m e;rw[z0] at h;cases hc:P.cellTypes d e with
    |none=>rw[hc] at ht;cases ht
    |some te =>rw[hc] at ht;obtain rfl:=osj ht;refine Q10 (g:=λt=>P.cellTypes d t) ih h.2 ?_;rw[Pb,Tp (x:=te) (λ_=>hc)];simp
   .rename_i fs;rw[z0] at h;cases hc:fs.toList.mapM λf=>P.cellTypes d f.type with
    |none=>rw[hc] at ht;cases ht
    |some hZ =>rw[hc] at ht;obtain rfl:=osj ht;refine Q10 (g:=λt=>P.cellTypes d t) ih h.2 ?_;rw[Pb];exact hc
theorem HK {T:Kind->TypeId->Bool}{sz:TypeId->Nat}{Q:TypeId->List Value->Prop}{R:Kind->List Value->Prop}(hT:∀ k t cs,T k t=true->Q t cs->R k cs) (hR:∀ a b cs ds,R a cs->R b ds->R (.pair a b) (cs++ds)) (cs:List Value) :
  ∀ {k:Kind}{L:List (TypeId×Nat)}{off:Nat},KFs T sz k L off=true->(∀ p∈L,Q p.1 ((cs.drop p.2).take (sz p.1)))->R k ((cs.drop off).take k.size)
 |k,[],_,h,_=>by simp[KFs] at h
 |k,[p],off,h,hq=>by
  simp only[KFs,z0,zX] at h
  grind
 |.pair a b,p::q::r,off,h,hq=>by
  simp only[KFs,z0,zX] at h;have h1:=hq p (by simp);rw[h.1,h.2.1] at h1;have h2:=HK hT hR cs h.2.2.2 (by simp_all);have e:(cs.drop off).take (Kind.pair a b).size=(cs.drop off).take a.size++(cs.drop (off+a.size)).take b.size:=by rw[Kind.size,List.take_add,List.drop_drop]
  grind
 |.i _,_::_::_,_,h,_|.bo,_::_::_,_,h,_|.st,_::_::_,_,h,_|.list _,_::_::_,_,h,_=>by cases h
def FlatIs (k:Kind) (cs:List Value):Prop:=∃ y:k.T,(∀ h,KC h k y cs)/\KWf k y/\∀ ρ m,LRel ρ m cs cs
theorem FlatIs.pair {a b:Kind}{cs ds:List Value}(h1:FlatIs a cs) (h2:FlatIs b ds):FlatIs (.pair a b) (cs++ds):=by obtain⟨x,k1,k2,k3⟩:=h1;obtain⟨y,m1,m2,m3⟩:=h2;exact⟨(x,y),λh=>⟨cs,ds,rfl,k1 h,m1 h⟩,⟨k2,m2⟩,fun ρ m=>(k3 ρ m).append (m3 ρ m)⟩
theorem LRel.one {ρ:Plc}{n:Nat}{v c:Value}(h:VRel ρ n v c):LRel ρ n [v] [c]:=.cons h (.nil _ _)
theorem Pp {fs:Array Field}{f:Field}(h:f∈fs.toList):∃ i:Nat,fs[i]?=some f:=by obtain⟨i,hi,rfl⟩:=List.mem_iff_getElem.1 h;exact⟨i,by simp at hi;simp[hi]⟩
theorem So {sp:Nat->Bool}{held:Bool}:∀ {n:Nat}{k:Kind}{t:TypeId}{fuel:Nat}{cs:List Value}{x:DataW H×List MemPlace},KTy P n k t=true->k.flat=true->DataW.trod enc P w base sp held fuel t cs=some x->FlatIs k cs
 |0,_,_,_,_,_,h,_,_=>by cases h
 |n+1,k,t,fuel,cs,x,h,hf,hx=>by
  unfold KTy at h;cases hu:P.underlying t with
  |none=>rw[hu] at h;cases h
  |some u =>
   rw[hu] at h;have hR:∀ a b cs ds,((a.flat=true->FlatIs a cs)/\True)->((b.flat=true->FlatIs b ds)/\True)->(((Kind.pair a b).flat=true->FlatIs (.pair a b) (cs++ds))/\True):=λa b cs ds h1 h2=>⟨λhf=>by
    simp only[Kind.flat,z0] at hf;exact(h1.1 hf.1).pair (h2.1 hf.2),trivial⟩
   have hT:∀ k t cs,KTy P n k t=true->(∃ fuel x,DataW.trod enc P w base sp held fuel t cs=some x)->((k.flat=true->FlatIs k cs)/\True):=λk t cs h1 ⟨fuel,x,h2⟩=>⟨λhf=>So h1 hf h2,trivial⟩;cases u<;>first|(cases h;done)|skip
   all_goals simp only at h
   .split at h<;>first|(cases h;done)|skip
    obtain⟨b,rfl,_⟩:=DataW.trod_bool hu hx;exact⟨b,λ_=>rfl,trivial,λ_ _=>.one (.bool _)⟩
   .split at h<;>first|(cases h;done)|skip
    obtain rfl:=zu h;obtain⟨z,rfl,_,hw⟩:=DataW.trod_int hu hx;exact⟨z,λ_=>rfl,Z7r hw,λ_ _=>.one (.int _ _)⟩
   .split at h<;>first|(cases h;done)|skip
    obtain⟨s,rfl,_,hs⟩:=DataW.trod_string hu hx;exact⟨s.data.toList,λ_=>rfl,hs,λ_ _=>.one (.string _)⟩
   .split at h<;>first|(cases h;done)|(cases hf;done)
   .rename_i m e;simp only[z0,zX] at h;obtain⟨xs,m',_,_,hl,gg,hx⟩:=DataW.trod_array hu hx;have:=(HK (R:=λk cs=>(k.flat=true->FlatIs k cs)/\True) hT hR cs h.2 (by grind)).1 hf
    grind
   .rename_i fs;simp only[z0,zX] at h;obtain⟨xs,m',_,_,hl,gg,hx⟩:=DataW.trod_struct hu hx;have:=(HK (R:=λk cs=>(k.flat=true->FlatIs k cs)/\True) hT hR cs h.2 (by grind [Pp,Array.getElem?_eq_some_iff,List.getElem?_eq_getElem])).1 hf
    grind
theorem Rows.range {α:Type}{R:α->List Value->Prop}{n:Nat}{c:List Value}{x:Nat->α}:∀ (m:Nat),(∀ i,i<m->R (x i) ((c.drop (i*n)).take n))->Rows R ((List.range m).map x) (c.take (m*n))
 |0,_=>by simp;exact .nil
 |m+1,h=>by
  have e:c.take ((m+1)*n)=c.take (m*n)++(c.drop (m*n)).take n:=by rw[zF,xr,List.take_add]
  rw[List.range_succ,xS,e];exact(Rows.range m λi hi=>h i (by omega)).append (by simpa using Rows.cons (h m (by omega)) .nil)
theorem R8 {α:Type}[Inhabited α] {m:Nat}{p:Nat->α->Prop}(h:∀ i,i<m->∃ x,p i x):∃ f:Nat->α,∀ i,i<m->p i (f i) :=
 ⟨λi=>if hi:i<m then (h i hi).choose else default,(by grind)⟩
instance KInh (k:Kind):Inhabited k.T:=⟨k.dflt⟩
theorem View.list {ρ:Plc}{U:Heap}(h:View w ρ U) {n:Nat}{k:Kind}{t e:TypeId}{fuel:Nat}{cs:List Value}{x:DataW H×List MemPlace}(hu:P.underlying t=some (.slice e)) (hs:P.cellsOf e=k.size) (hf:k.flat=true) (hk:KTy P n k e=true)
  (hx:DataW.trod enc P w 0 (λ_=>true) true fuel t cs=some x) (ak:okc P w r base [t] cs):ArgIs w ρ U (.list k) cs:=by
 rcases open_slice hu hx with⟨rfl,_⟩|⟨a,len,cap,m,fu,D,Pl,rfl,hb,hl,hm,fe,_,hel⟩
 .exact⟨ρ,U,[.slice none 0 0],[],h,More.refl _ _,.one .nilSl,⟨_,rfl,.inl ⟨rfl,rfl⟩⟩,by simp[maxLen],λ_ hx=>by cases hx⟩
 simp only[zt] at fe;subst fe;rw[hs] at hel;have lX:w.has P r base a e m:=by
  rcases R0 hu (ak 0 _ t rfl rfl) with hh|⟨a',ru,aq,hh,h2⟩
  .cases hh
  .cases hh;exact h2
 obtain⟨C,row,f,aD,aU,df⟩:=Ix lX;obtain⟨blk,off,spot⟩:=a;simp only at aD aU df;subst df;have fJ:∀ i,(⟨blk,off,none⟩:Addr).add i=⟨blk,off+i,none⟩:=λi=>by unfold Addr.add;split<;>simp_all
 obtain⟨X,hX⟩:=R8 (α:=k.T×List Value) (m:=m) (p:=λi p=>p.2.length=k.size/\(∀ j,j<k.size->w.cell? ⟨blk,off+i*k.size+j,none⟩=p.2[j]?)/\(∀ h,KC h k p.1 p.2)/\KWf k p.1/\∀ ρ m,LRel ρ m p.2 p.2) λi hi=>by
  obtain⟨cs',h1,h2⟩:=hel i hi;obtain⟨_,k1,k2⟩:=World.cells?_some h1;obtain⟨y,m1,m2,m3⟩:=So hk hf h2;refine⟨(y,cs'),k1,λj hj=>?_,m1,m2,m3⟩;have:=k2 j hj;rw[fJ] at this;have e2:(⟨blk,off+i*k.size,none⟩:Addr).add j=⟨blk,off+i*k.size+j,none⟩:=by unfold Addr.add;split<;>simp_all
  rw[e2] at this;exact this
 have bh:=k.size_pos;let c:List Value:=(List.range (m*k.size)).map λj=>((X (j / k.size)).2[j % k.size]?).getD undef;have cu:c.length=m*k.size:=by simp[c]
 have hdiv:∀ j,j<m*k.size->j / k.size<m:=λj hj=>Nat.div_lt_of_lt_mul (by rw[Nat.mul_comm];exact hj);have bz:∀ j,j<m*k.size->∃ v,c[j]?=some v/\w.cell? ⟨blk,off+j,none⟩=some v/\∀ ρ m,VRel ρ m v v:=λj hj=>by
  have h1:=hX (j / k.size) (hdiv j hj);have eP:j % k.size<k.size:=xT _ bh;have h2:=h1.2.1 _ eP;have e:off+j / k.size*k.size+j % k.size=off+j:=by rw[zw,Nat.div_add_mod']
  rw[e] at h2;have h3:j % k.size<(X (j / k.size)).2.length:=by rw[h1.1];exact eP
  refine⟨(X (j / k.size)).2[j % k.size],?_,?_,fun ρ m=>(h1.2.2.2.2 ρ m).2 _ _ _ (z8 h3) (z8 h3)⟩
  .grind
  .rw[h2,z8 h3]
 have rv:∀ i,i<m->(c.drop (i*k.size)).take k.size=(X i).2:=λi hi=>by
  have h1:=hX i hi;have hle:i*k.size+k.size<=m*k.size:=by have:(i+1)*k.size<=m*k.size:=zk _ hi;rw[zF] at this;omega
  apply zT
  grind
 have aC:off+m*k.size<=C.size:=by
  rcases Nat.eq_zero_or_pos (m*k.size) with h0|h0
  .omega
  .obtain⟨v,_,h2,_⟩:=bz (m*k.size-1) (by omega);unfold World.cell? at h2
   grind
 obtain⟨hv,gP⟩:=h.add ⟨blk,off,m*k.size,⟨k.size,row⟩,false⟩ c aD aC (by simp[cu]) rfl (by grind);have hlen:((List.range len).map λi=>(X i).1).length=len:=by simp
 refine⟨_,_,[.slice (some ⟨U.n,0,none⟩) len m],(List.range len).map λi=>(X i).1,hv,gP,.one ?_,⟨_,rfl,.inr ⟨U.n,0,m,c,⟨k.size,row⟩,false,false,by rw[hlen],by rw[hlen];exact hl,Heap.q0a _ _,rfl,?_,?_⟩⟩,?_,λy hy=>?_⟩
 .refine .sl _ _ _ _ _ _ (by simp) λp hp=>?_;simp[Plc.put] at hp;subst hp;simp_all
 .rw[hlen,cu,zU];exact zk _ hl
 .grind [Rows.range]
 .rw[hlen];exact x6 hl hm
 grind
theorem View.listH {ρ:Plc}{U:Heap}(h:View w ρ U) {n:Nat}{k:Kind}{t e:TypeId}{fuel:Nat}{cs:List Value}{x:DataW H×List MemPlace}(hu:P.underlying t=some (.slice e)) (hs:P.cellsOf e=k.size) (hf:k.flat=true) (hk:KTy P n k e=true)
  (hx:DataW.trod enc P w 0 (λ_=>true) true fuel t cs=some x) (hA:∃ (b:Nat) (C:Array Value) (e:TypeId) (f:Nat×Nat),w.heap[b]?=some (Obj.cells C e f)):ArgIs w ρ U (.list k) cs:=by
 rcases open_slice hu hx with⟨rfl,_⟩|⟨a,len,cap,m,fu,D,Pl,rfl,hb,hl,hm,fe,_,hel⟩
 .exact⟨ρ,U,[.slice none 0 0],[],h,More.refl _ _,.one .nilSl,⟨_,rfl,.inl ⟨rfl,rfl⟩⟩,by simp[maxLen],λ_ hx=>by cases hx⟩
 simp only[zt] at fe;subst fe;rw[hs] at hel;have bh:=k.size_pos;by_cases b8:m=0
 .
  subst b8;obtain rfl:len=0:=by omega
  obtain⟨b0,C0,e0,f0,pF⟩:=hA;obtain⟨hv,gP⟩:=h.add ⟨b0,0,0,⟨k.size,e0⟩,false⟩ [] pF (Nat.zero_le _) (z9 _) rfl (λj v hj=>by simp at hj);refine⟨_,_,[.slice (some ⟨U.n,0,none⟩) 0 0],[],hv,gP,.one ?_,⟨_,rfl,.inr ⟨U.n,0,0,[],⟨k.size,e0⟩,false,false,rfl,z9 _,Heap.q0a _ _,rfl,?_,?_⟩⟩,by simp[KWf],λy hy=>by cases hy⟩
  .refine .sl _ _ _ _ _ _ (by simp) (by omega)
  .simp
  .simpa using Rows.nil
 obtain⟨C,row,f,aD,aU,df⟩:∃ C row f,w.heap[a.block]?=some (Obj.cells C row f)/\a.off<=C.size/\a.spot=none:=by
  obtain⟨cs',h1,_⟩:=hel 0 (by omega);obtain⟨_,c1,c2⟩:=World.cells?_some h1;have c3:=c2 0 bh;have e0:(a.add (0*k.size)).add 0=a:=by simp[Addr.add]
  rw[e0,z8 (by omega)] at c3;unfold World.cell? at c3;split at c3
  .rename_i C row f aD;split at c3
   .cases c3
   .rename_i hs;exact⟨C,row,f,aD,(by grind),by simpa using hs⟩
  .cases c3
 obtain⟨blk,off,spot⟩:=a;simp only at aD aU df;subst df;have fJ:∀ i,(⟨blk,off,none⟩:Addr).add i=⟨blk,off+i,none⟩:=λi=>by unfold Addr.add;split<;>simp_all
 obtain⟨X,hX⟩:=R8 (α:=k.T×List Value) (m:=m) (p:=λi p=>p.2.length=k.size/\(∀ j,j<k.size->w.cell? ⟨blk,off+i*k.size+j,none⟩=p.2[j]?)/\(∀ h,KC h k p.1 p.2)/\KWf k p.1/\∀ ρ m,LRel ρ m p.2 p.2) λi hi=>by
  obtain⟨cs',h1,h2⟩:=hel i hi;obtain⟨_,k1,k2⟩:=World.cells?_some h1;obtain⟨y,m1,m2,m3⟩:=So hk hf h2;refine⟨(y,cs'),k1,λj hj=>?_,m1,m2,m3⟩;have:=k2 j hj;rw[fJ] at this;have e2:(⟨blk,off+i*k.size,none⟩:Addr).add j=⟨blk,off+i*k.size+j,none⟩:=by unfold Addr.add;split<;>simp_all
  rw[e2] at this;exact this
 let c:List Value:=(List.range (m*k.size)).map λj=>((X (j / k.size)).2[j % k.size]?).getD undef;have cu:c.length=m*k.size:=by simp[c]
 have hdiv:∀ j,j<m*k.size->j / k.size<m:=λj hj=>Nat.div_lt_of_lt_mul (by rw[Nat.mul_comm];exact hj);have bz:∀ j,j<m*k.size->∃ v,c[j]?=some v/\w.cell? ⟨blk,off+j,none⟩=some v/\∀ ρ m,VRel ρ m v v:=λj hj=>by
  have h1:=hX (j / k.size) (hdiv j hj);have eP:j % k.size<k.size:=xT _ bh;have h2:=h1.2.1 _ eP;have e:off+j / k.size*k.size+j % k.size=off+j:=by rw[zw,Nat.div_add_mod']
  rw[e] at h2;have h3:j % k.size<(X (j / k.size)).2.length:=by rw[h1.1];exact eP
  refine⟨(X (j / k.size)).2[j % k.size],?_,?_,fun ρ m=>(h1.2.2.2.2 ρ m).2 _ _ _ (z8 h3) (z8 h3)⟩
  .grind
  .rw[h2,z8 h3]
 have rv:∀ i,i<m->(c.drop (i*k.size)).take k.size=(X i).2:=λi hi=>by
  have h1:=hX i hi;have hle:i*k.size+k.size<=m*k.size:=by have:(i+1)*k.size<=m*k.size:=zk _ hi;rw[zF] at this;omega
  apply zT
  grind
 have aC:off+m*k.size<=C.size:=by
  rcases Nat.eq_zero_or_pos (m*k.size) with h0|h0
  .omega
  .obtain⟨v,_,h2,_⟩:=bz (m*k.size-1) (by omega);unfold World.cell? at h2
   grind
 obtain⟨hv,gP⟩:=h.add ⟨blk,off,m*k.size,⟨k.size,row⟩,false⟩ c aD aC (by simp[cu]) rfl (by grind);have hlen:((List.range len).map λi=>(X i).1).length=len:=by simp
 refine⟨_,_,[.slice (some ⟨U.n,0,none⟩) len m],(List.range len).map λi=>(X i).1,hv,gP,.one ?_,⟨_,rfl,.inr ⟨U.n,0,m,c,⟨k.size,row⟩,false,false,by rw[hlen],by rw[hlen];exact hl,Heap.q0a _ _,rfl,?_,?_⟩⟩,?_,λy hy=>?_⟩
 .refine .sl _ _ _ _ _ _ (by simp) λp hp=>?_;simp[Plc.put] at hp;subst hp;simp_all
 .rw[hlen,cu,zU];exact zk _ hl
 .grind [Rows.range]
 .rw[hlen];exact x6 hl hm
 grind
theorem View.list2 {ρ:Plc}{U:Heap}(h:View w ρ U) {n:Nat}{k:Kind}{t e e2:TypeId}{fuel:Nat}{cs:List Value}{x:DataW H×List MemPlace}(hu:P.underlying t=some (.slice e)) (hs:P.cellsOf e=1)
  (mb:P.underlying e=some (.slice e2)) (dw:P.cellsOf e2=k.size) (hf:k.flat=true) (hk:KTy P n k e2=true)
  (hx:DataW.trod enc P w 0 (λ_=>true) true fuel t cs=some x) (ak:okc P w r base [t] cs):ArgIs w ρ U (.list (.list k)) cs:=by
 rcases open_slice hu hx with⟨rfl,_⟩|⟨a,len,cap,m,fu,D,Pl,rfl,hb,hl,hm,fe,_,hel⟩
 .exact⟨ρ,U,[.slice none 0 0],[],h,More.refl _ _,.one .nilSl,⟨_,rfl,.inl ⟨rfl,rfl⟩⟩,by simp[maxLen],λ_ hx=>by cases hx⟩
 simp only[zt] at fe;subst fe;rw[hs] at hel;have lX:w.has P r base a e m:=by
  rcases R0 hu (ak 0 _ t rfl rfl) with hh|⟨a',ru,aq,hh,h2⟩
  .cases hh
  .cases hh;exact h2
 obtain⟨C,row,f,aD,aU,df⟩:=Ix lX;obtain⟨blk,off,spot⟩:=a;simp only at aD aU df;subst df;have fJ:∀ i,(⟨blk,off,none⟩:Addr).add i=⟨blk,off+i,none⟩:=λi=>by unfold Addr.add;split<;>simp_all
 have rows:∀ j,j<=m->∃ ρ' U',∃ vs:List Value,∃ xs:List (List k.T),View w ρ' U'/\More ρ U ρ' U'/\vs.length=j/\xs.length=j/\(∀ (i:Nat) v,vs[i]?=some v->∃ u,w.cell? ⟨blk,off+i,none⟩=some u/\VRel ρ' U'.n v u) /\
   Rows (KC U' (.list k)) xs vs/\∀ y∈xs,KWf (.list k) y:=by
  intro j;induction j with
  |zero=>exactλ_=>⟨ρ,U,[],[],h,More.refl _ _,rfl,rfl,λi v hi=>by simp at hi,.nil,λy hy=>by cases hy⟩
  |succ j ih =>
   intro hj;obtain⟨ρ1,σ1,vs,xs,k1,k2,k3,k4,k5,k6,k7⟩:=ih (by omega);obtain⟨cs',h1,h2⟩:=hel j (by omega);obtain⟨_,c1,c2⟩:=World.cells?_some h1;have c3:=c2 0 (by omega);obtain⟨u,rfl⟩:=z_.1 c1;have kf:((⟨blk,off,none⟩:Addr).add (j*1)).add 0=⟨blk,off+j,none⟩:=by rw[fJ,y9];unfold Addr.add;split<;>simp_all
   rw[kf] at c3;have c4:w.cell? ⟨blk,off+j,none⟩=some u:=c3;obtain⟨ρ2,σ2,vv,y,m1,m2,m3,m4,m5⟩:=k1.listH mb dw hf hk h2 ⟨blk,C,row,f,aD⟩;have mI:vv.length=1:=by obtain⟨v,rfl,_⟩:=m4;rfl
   obtain⟨v,rfl⟩:=z_.1 mI;refine⟨ρ2,σ2,vs++[v],xs++[y],m1,k2.trans m2,by rw[zG,k3];rfl,by rw[zG,k4];rfl,λi v' hi=>?_,?_,λz hz=>?_⟩
   .by_cases cT:i<vs.length
    .rw[xH cT] at hi;obtain⟨u',g1,g2⟩:=k5 i v' hi;exact⟨u',g1,g2.mono m2.n m2.pl⟩
    .have mj:i<(vs++[v]).length:=(zq.1 hi).1;rw[zG,xL] at mj;have vL:i=j:=by omega
     subst vL;rw[xF (by omega),k3,Nat.sub_self] at hi;obtain rfl:=osj hi;exact⟨u,c4,m3.2 0 _ _ rfl rfl⟩
   .exact(k6.mono λ_ _ hc=>KC.mono m2.le hc).append (by simpa using Rows.cons m4 .nil)
   .grind
 obtain⟨ρ1,σ1,vs,xs,k1,k2,k3,k4,k5,k6,k7⟩:=rows m (z9 _);have aC:off+m<=C.size:=by
  rcases Nat.eq_zero_or_pos m with h0|h0
  .omega
  .obtain⟨u,h2,_⟩:=k5 (m-1) _ (z8 (by omega));unfold World.cell? at h2
   grind
 obtain⟨hv,gP⟩:=k1.add ⟨blk,off,m,⟨1,row⟩,false⟩ vs aD aC (by simp[k3]) rfl (λj v hj=>k5 j v hj);have hR:Rows (KC (σ1.push (.cells vs ⟨1,row⟩ false false)) (.list k)) xs vs:=k6.mono λ_ _ hc=>KC.mono gP.le hc;have hlen:(xs.take len).length=len:=by rw[xP,k4];omega
 have ry:(Kind.list k).size=1:=rfl;refine⟨_,_,[.slice (some ⟨σ1.n,0,none⟩) len m],xs.take len,hv,k2.trans gP,.one ?_,⟨_,rfl,.inr ⟨σ1.n,0,m,vs,⟨1,row⟩,false,false,by rw[hlen],by rw[hlen];exact hl,Heap.q0a _ _,rfl,?_,?_⟩⟩,?_,λy hy=>?_⟩
 .refine .sl _ _ _ _ _ _ (by simp) λp hp=>?_;simp[Plc.put] at hp;subst hp;simp_all
 .rw[ry,k3];omega
 .grind [Rows.take,KC.length]
 .rw[hlen];exact x6 hl hm
 .exact k7 y (List.mem_of_mem_take hy)
def Kind.lev1:Kind->Bool
 |.list k=>k.flat||k.row
 |.pair a b=>a.lev1&&b.lev1
 |_=>true
theorem Q37 {ts:List TypeId}{cs:List Value}(h:okc P w r base ts cs) (o n:Nat):okc P w r base ((ts.drop o).take n) ((cs.drop o).take n):=λi v u h1 h2=>by
 have hi:i<n:=by
  grind
 rw[List.getElem?_take_of_lt hi,zZ] at h1 h2;exact h _ v u h1 h2
theorem C9 {T:Kind->TypeId->Bool}{sz:TypeId->Nat}{g:TypeId->Option (List TypeId)}(hT:∀ k t ts,T k t=true->g t=some ts->ts.length=k.size) :
  ∀ {k:Kind}{L:List (TypeId×Nat)}{off:Nat}{hZ:List (List TypeId)},KFs T sz k L off=true->L.mapM (λp=>g p.1)=some hZ->∀ p∈L,off<=p.2/\g p.1=some ((hZ.flatten.drop (p.2-off)).take (sz p.1))
 |k,[],_,_,h,_=>by simp[KFs] at h
 |k,[p],off,hZ,h,hm=>by
  simp only[KFs,z0,zX] at h;intro p' hp;obtain rfl:=zK.1 hp;cases hg:g p'.1 with
  |none=>simp[hg] at hm
  |some ts =>
   simp[hg] at hm;subst hm;refine⟨by omega,?_⟩;rw[h.1,Nat.sub_self,xB,h.2.1,zI]
   .simp
   .simp[hT _ _ _ h.2.2 hg]
 |.pair a b,p::q::r,off,hZ,h,hm=>by
  simp only[KFs,z0,zX] at h;rw[xg] at hm;intro p' hp;cases hg:g p.1 with
  |none=>simp[hg] at hm
  |some ts =>
   cases hr:(q::r).mapM (λp=>g p.1) with
   |none=>simp[hg,hr] at hm
   |some tr =>
    simp[hg,hr] at hm;subst hm;have hlen:=hT _ _ _ h.2.2.1 hg;rcases zN.1 hp with rfl|hp
    .simp_all
    .obtain⟨h1,h2⟩:=C9 hT h.2.2.2 hr p' hp
     grind [List.drop_eq_nil_of_le,List.flatten_cons,List.drop_append]
 |.i _,_::_::_,_,_,h,_|.bo,_::_::_,_,_,h,_|.st,_::_::_,_,_,h,_|.list _,_::_::_,_,_,h,_=>by cases h
theorem Iq:∀ {n:Nat}{k:Kind}{t:TypeId}{d:Nat}{ts:List TypeId}{fuel:Nat}{cs:List Value}{x:DataW H×List MemPlace},KTy P n k t=true->k.lev1=true->P.cellTypes d t=some ts->okc P w r base ts cs->DataW.trod enc P w 0 (λ_=>true) true fuel t cs=some x->∀ ρ U,View w ρ U->ArgIs w ρ U k cs
 |0,_,_,_,_,_,_,_,h,_,_,_,_=>by cases h
 |_+1,_,_,0,_,_,_,_,_,_,h,_,_=>by cases h
 |n+1,k,t,d+1,ts,fuel,cs,x,h,hf,eH,ak,hx=>by
  intro ρ U hv;by_cases bA:k.flat=true
  .obtain⟨y,h1,h2,h3⟩:=So h bA hx;exact⟨ρ,U,cs,y,hv,More.refl _ _,h3 _ _,h1 _,h2⟩
  unfold KTy at h;cases hu:P.underlying t with
  |none=>rw[hu] at h;cases h
  |some u =>
   rw[hu] at h;let Q:TypeId->List Value->Prop:=λt cs=>(∃ fuel x,DataW.trod enc P w 0 (λ_=>true) true fuel t cs=some x)/\∃ ts,P.cellTypes d t=some ts/\okc P w r base ts cs;let R:Kind->List Value->Prop:=λk cs=>k.lev1=true->∀ ρ U,View w ρ U->ArgIs w ρ U k cs;have hR:∀ a b cs ds,R a cs->R b ds->R (.pair a b) (cs++ds):=λa b cs ds h1 h2 hl ρ U hv=>by simp only[Kind.lev1,z0] at hl;exact(h1 hl.1 ρ U hv).pair fun ρ U hv=>h2 hl.2 ρ U hv
   have hT:∀ k t cs,KTy P n k t=true->Q t cs->R k cs:=λk t cs h1 ⟨⟨fuel,x,h2⟩,ts,h3,h4⟩ hl=>Iq h1 hl h3 h4 h2;have hlen:∀ k t ts,KTy P n k t=true->P.cellTypes d t=some ts->ts.length=k.size:=λk t ts h1 h2=>Q0e h1 h2;unfold Program.cellTypes at eH;rw[hu] at eH;cases u<;>first|(cases h;done)|skip
   all_goals simp only at h
   .split at h<;>first|(cases h;done)|(exact absurd rfl bA)
   .split at h<;>first|(cases h;done)|(exact absurd rfl bA)
   .split at h<;>first|(cases h;done)|(exact absurd rfl bA)
   .rename_i e;split at h<;>first|(cases h;done)|skip
    simp only[z0,zX] at h;simp only[xp] at eH;subst eH;rcases zr _ _▸h.2.1 with hk|hk
    .exact hv.list hu h.1 hk h.2.2 hx ak
    .rename_i k';rw[z0] at hk;obtain⟨hk,gi⟩:=hk;cases k'<;>first|(cases hk;done)|skip
     rename_i k2;have h3:=h.2.2;unfold J4d at gi;split at gi<;>first|(cases gi;done)|skip
     rename_i e2 mb;cases n with
     |zero=>cases h3
     |succ n =>unfold KTy at h3;rw[mb] at h3;simp only[z0,zX] at h3;exact hv.list2 hu h.1 mb h3.1 hk h3.2.2 hx ak
   .rename_i m e;simp only[z0,zX] at h;obtain⟨xs,m',_,_,hl,gg,hx⟩:=DataW.trod_array hu hx;simp only at eH;cases hc:P.cellTypes d e with
    |none=>rw[hc] at eH;cases eH
    |some te =>
     rw[hc] at eH;obtain rfl:=osj eH;have nr:((List.range m).map λi=>(e,i*P.cellsOf e)).mapM (λp:TypeId×Nat=>P.cellTypes d p.1)=some (List.replicate m te):=by rw[Pb,Tp (x:=te) (λ_=>hc)];simp
     have:=HK (Q:=Q) (R:=R) hT hR cs h.2 (λp hp=>by
      have ig:=C9 (g:=λt=>P.cellTypes d t) hlen h.2 nr p hp
      grind [List.getElem?_eq_getElem,Q37]) hf ρ U hv
     rwa [xB,zI (by omega)] at this
   .rename_i fs;simp only[z0,zX] at h;obtain⟨xs,m',_,_,hl,gg,hx⟩:=DataW.trod_struct hu hx;simp only at eH;cases hc:fs.toList.mapM λf=>P.cellTypes d f.type with
    |none=>rw[hc] at eH;cases eH
    |some hZ =>
     rw[hc] at eH;obtain rfl:=osj eH;have nr:(fs.toList.map λf=>(f.type,f.offset)).mapM (λp:TypeId×Nat=>P.cellTypes d p.1)=some hZ:=by rw[Pb];exact hc
     have:=HK (Q:=Q) (R:=R) hT hR cs h.2 (λp hp=>by
      have ig:=C9 (g:=λt=>P.cellTypes d t) hlen h.2 nr p hp
      grind [Pp,Array.getElem?_eq_some_iff,List.getElem?_eq_getElem,Q37]) hf ρ U hv
     rwa [xB,zI (by omega)] at this
def isAgg (P:Program) (t:TypeId):Bool:=match P.underlying t with
 |some (.struct _)=>true
 |some (.array _ _)=>true
 |_=>false
theorem View.arg {ρ:Plc}{U:Heap}(h:View w ρ U) {n:Nat}{k:Kind}{t:TypeId}{v:Value}{d:DataW H}{p:List MemPlace}(hk:KTy P n k t=true) (hl:k.lev1=true) (ha:isAgg P t=!k.one) (ak:Value.okWide P w r base t v) (hd:DataW.Trod enc P w 0 (λ_=>true) true t v d p) :
  ∃ ρ' U' vv x,View w ρ' U'/\More ρ U ρ' U'/\VRel ρ' U'.n vv v/\KV U' k x vv/\KWf k x:=by
 obtain⟨fuel,hd⟩:=hd;by_cases f_:isAgg P t=true
 .have bO:k.one=false:=by rw[f_] at ha;simpa using ha.symm
  have:∃ cs,v=.agg cs/\cs.size=P.cellsOf t/\Row.okWide P w r base t cs:=by
   unfold isAgg at f_;unfold Value.okWide at ak
   grind
  obtain⟨cs,rfl,aC,ts,eH,_,cY⟩:=this;have hlen:=Q0e hk eH;have az:P.cellsOf t=k.size:=by
   unfold isAgg at f_;cases n with
   |zero=>cases hk
   |succ n =>
    unfold KTy at hk;split at f_<;>first|(cases f_;done)|skip
    all_goals
     rename_i hu;rw[hu] at hk;simp only[z0,zX] at hk;exact hk.1
  have lY:okc P w r base ts cs.toList:=λi v u h1 h2=>by
   grind [List.getElem?_eq_some_iff,Nat.mod_eq_of_lt,osj]
  obtain⟨ρ',U',vs,x,k1,k2,k3,k4,k5⟩:=Iq hk hl eH lY (show DataW.trod enc P w 0 _ true fuel t cs.toList=_ from hd) ρ U h;exact⟨ρ',U',.agg vs.toArray,x,k1,k2,VRel.q1n (ds:=cs.toList) k3,.inr ⟨bO,vs,rfl,k4⟩,k5⟩
 .have bO:k.one=true:=by
   simp_all
  have oB:=Kind.q1q bO;have bz:Cell.okWide P w r base t v/\v.cells.toList=[v]:=by
   have h1:isAgg P t=false:=by simpa using f_
   unfold isAgg at h1;have h2:Cell.okWide P w r base t v:=by
    unfold Value.okWide at ak
    grind
   refine⟨h2,?_⟩;cases v<;>first|rfl|skip
   all_goals
    exfalso;cases n with
    |zero=>cases hk
    |succ n =>
     unfold KTy at hk;unfold Cell.okWide Cell.ok at h2;cases hu:P.underlying t with
     |none=>rw[hu] at hk;cases hk
     |some u =>rw[hu] at hk h2 h1;cases u<;>first|(cases hk;done)|(cases h1;done)|(cases h2;done)|(simp at h2;done)
  have eH:P.cellTypes 1 t=some [t]:=by
   have h1:isAgg P t=false:=by simpa using f_
   unfold isAgg at h1;unfold Program.cellTypes;cases n with
   |zero=>cases hk
   |succ n =>
    unfold KTy at hk;cases hu:P.underlying t with
    |none=>rw[hu] at hk;cases hk
    |some u =>rw[hu] at h1;cases u<;>first|rfl|(cases h1;done)
  rw[bz.2] at hd;have lY:okc P w r base [t] [v]:=λi v' u h1 h2=>by
   grind
  obtain⟨ρ',U',vs,x,k1,k2,k3,k4,k5⟩:=Iq hk hl eH lY hd ρ U h;have:vs.length=1:=by rw[KC.length k4];exact oB
  obtain⟨vv,rfl⟩:=z_.1 this;exact⟨ρ',U',vv,x,k1,k2,k3.2 0 _ _ rfl rfl,.inl ⟨bO,k4⟩,k5⟩
def AWf:(ks:List Kind)->AT ks->Prop
 |[],_=>True
 |[k],x=>KWf k x
 |k::k'::ks,x=>KWf k x.1/\AWf (k'::ks) x.2
def Z5g (P:Program):List Kind->List TypeId->Bool
 |[],[]=>true
 |k::ks,t::ts=>(KTy P 8 k t&&(k.lev1&&(isAgg P t==!k.one)))&&Z5g P ks ts
 |_,_=>false
theorem View.args:∀ {ks:List Kind}{ts:List TypeId}{vs:List Value}{ds:List (DataW H)}{ps:List MemPlace}{ρ:Plc}{U:Heap},View w ρ U->Z5g P ks ts=true->(∀ (j:Nat) t v,ts[j]?=some t->vs[j]?=some v->Value.okWide P w r base t v)->DataW.TrodAll enc P w 0 (λ_=>true) true ts vs ds ps ->
  ∃ ρ' U' mC x,View w ρ' U'/\More ρ U ρ' U'/\LRel ρ' U'.n mC vs/\E2 U' ks x mC/\AWf ks x
 |[],[],vs,ds,ps,ρ,U,h,_,_,hA=>by obtain⟨rfl,rfl,rfl⟩:=trodAll_nil hA;exact⟨ρ,U,[],(),h,More.refl _ _,.nil _ _,rfl,trivial⟩
 |[k],[t],vs,ds,ps,ρ,U,h,hk,hv,hA=>by obtain⟨v,cG,d,ds',p,q,rfl,rfl,rfl,h1,h2⟩:=trodAll_cons hA;obtain⟨rfl,rfl,rfl⟩:=trodAll_nil h2;simp only[Z5g,z0,zX] at hk;obtain⟨ρ',U',vv,x,k1,k2,k3,k4,k5⟩:=h.arg hk.1.1 hk.1.2.1 hk.1.2.2 (hv 0 t v rfl rfl) h1;exact⟨ρ',U',[vv],x,k1,k2,.one k3,⟨vv,rfl,k4⟩,k5⟩
 |k::k'::ks,t::ts,vs,ds,ps,ρ,U,h,hk,hv,hA=>by obtain⟨v,cG,d,ds',p,q,rfl,rfl,rfl,h1,h2⟩:=trodAll_cons hA;simp only[Z5g,z0,zX] at hk;obtain⟨ρ1,σ1,vv,x,k1,k2,k3,k4,k5⟩:=h.arg hk.1.1 hk.1.2.1 hk.1.2.2 (hv 0 t v rfl rfl) h1;obtain⟨ρ2,σ2,mC,y,m1,m2,m3,m4,m5⟩:=k1.args (ks:=k'::ks) hk.2 (λj t v h1 h2=>hv (j+1) t v h1 h2) h2;exact⟨ρ2,σ2,vv::mC,(x,y),m1,k2.trans m2,.cons (k3.mono m2.n m2.pl) m3,⟨vv,mC,rfl,k4.vcall m2.le,m4⟩,k5,m5⟩
 |[],_::_,_,_,_,_,_,_,hk,_,_|_::_,[],_,_,_,_,_,_,hk,_,_|[_],_::_::_,_,_,_,_,_,_,hk,_,_=>by simp[Z5g] at hk
theorem Q8l (hT:J1s w) {f:Nat}{sp:CSp}(df:OkC P f sp) (he:Wf P f) {ks:List Kind}{ts:List TypeId}{args:Array Value}{ds:List (DataW H)}{ps:List MemPlace}(hk:Z5g P ks ts=true)
  (hv:∀ (j:Nat) t v,ts[j]?=some t->args.toList[j]?=some v->Value.okWide P w r base t v) (hA:DataW.TrodAll enc P w 0 (λ_=>true) true ts args.toList ds ps)
  (hs:∀ x:AT ks,AWf ks x->∃ c,sp (λ_ _=>none) (Fo ks x)=some (c,.val .bo true,[])/\c):Calls P f args w λe w'=>e=.returned (.bool true)/\Below w.heap.size w w':=by
 obtain⟨ρ,U,mC,x,k1,k2,k3,k4,k5⟩:=(View.emptyT w hT).args hk hv hA;obtain⟨c,h1,h2⟩:=hs x k5;exact k1.calls k3 (df.true he (He k4) h1 h2)
end
end Go.V
namespace Go.V
open Go
theorem SW {H:Type}{enc:TypeId×Value->H}{P:Program}{w:World}{b:Nat}{sp:Nat->Bool}{hd:Bool}:∀ {ts:List TypeId}{vs:List Value}{ds:List (DataW H)}{ps:List MemPlace},DataW.TrodAll enc P w b sp hd ts vs ds ps->ds.length=ts.length
 |[],[],[],_,_=>rfl
 |t::ts,v::vs,d::ds,ps,h=>by obtain⟨p,q,_,h2,_⟩:=h;simp[SW h2]
 |[],[],_::_,_,h|[],_::_,_,_,h|_::_,[],_,_,h|_::_,_::_,[],_,h=>h.elim
end Go.V
namespace Go.Proofs.Tryz
open Go Go.V
def J35:List (Option FEnt):=[
 none,
 none,
 some (.code c2 [] 1),
 some (.code c3 [.tmp 6] 243),
 some (.code c4 [.tmp 6] 193),
 some (.code c5 [.cell 4 true 4] 49),
 some (.code c6 [.cell 2 true 2] 9),
 some (.code c7 [.tmp 6,.tmp 7,.tmp 8] 35),
 some (.code c8 [.tmp 6,.tmp 7] 38),
 some (.code c9 [.cell 2 true 4] 15),
 some (.codeJ c10 [.tmp 4,.tmp 5] 43),
 some (.code c11 [.cell 6 false 1,.tmp 7] 48),
 some (.code c12 [.cell 4 false 1,.tmp 5,.tmp 6] 44),
 some (.code c13 [.tmp 2,.tmp 3] 27),
 some (.code c14 [.tmp 4,.tmp 5] 47),
 some (.code c15 [.tmp 2] 6),
 some (.code c16 [.tmp 4] 26),
 some (.code c17 [.tmp 0] 52),
 some (.code c18 [.tmp 0] 54),
 some (.code c19 [.tmp 0] 70),
 some (.code c20 [.cell 4 true 2] 48),
 some (.code c21 [.tmp 6] 42),
 some (.code c22 [.cell 2 true 2,.tmp 3] 54),
 some (.code c23 [.cell 2 true 2,.tmp 3] 34),
 some (.code c24 [.cell 4 true 2] 60),
 some (.codeJ c25 [.tmp 6,.tmp 7,.tmp 8] 58),
 some (.code c26 [.tmp 2] 15),
 some (.code c27 [.cell 4 true 2,.tmp 5] 24),
 some (.code c28 [.tmp 2] 21),
 some (.code c29 [.tmp 4] 17),
 some (.code c30 [.tmp 0] 65),
 some (.code c31 [.cell 4 true 3,.tmp 5] 48),
 some (.code c32 [.tmp 4,.tmp 5] 34),
 some (.code c33 [.tmp 6] 18),
 some (.codeJ c34 [.tmp 4] 79),
 some (.code c35 [.tmp 2] 27),
 some (.code c36 [.tmp 2] 28),
 some (.code c37 [.tmp 4] 22),
 some (.code c38 [.tmp 4] 6),
 some (.code c39 [.tmp 3] 21),
 some (.code c40 [.tmp 6] 11),
 some (.code c41 [.tmp 2] 24),
 some (.code c42 [.tmp 4] 9),
 some (.code c43 [] 27),
 some (.code c44 [.tmp 4] 9),
 some (.code c45 [.tmp 2] 27),
 some (.code c46 [.cell 2 true 2] 21),
 some (.code c47 [.tmp 2] 9),
 some (.code c48 [.tmp 4] 14),
 some (.codeJ c49 [.cell 4 true 2,.tmp 5,.tmp 6] 78),
 some (.code c50 [.cell 0 true 4] 6),
 some (.code c51 [.cell 6 false 1,.cell 7 false 1,.cell 8 false 1] 35),
 some (.code c52 [.tmp 4,.tmp 5,.tmp 6] 78),
 some (.code c53 [.cell 6 true 2,.cell 7 true 2,.tmp 8,.tmp 9] 93),
 some (.code c54 [.cell 6 true 2] 62),
 some (.code c55 [.tmp 2] 6),
 some (.code c56 [.tmp 4] 10),
 some (.code c57 [.cell 2 true 3,.tmp 3] 43),
 some (.code c58 [.tmp 4] 12),
 some (.code c59 [.tmp 2] 4),
 some (.code c60 [.tmp 4] 10),
 some (.code c61 [.tmp 4] 20),
 some (.code c62 [.cell 2 true 2] 9),
 some (.code c63 [.tmp 4] 16),
 some (.code c64 [.cell 2 true 3,.tmp 3] 30),
 some (.code c65 [.tmp 6] 11),
 some (.code c66 [.tmp 4] 26),
 some (.code c67 [.tmp 6] 15),
 some (.code c68 [.cell 4 true 2] 11),
 some (.code c69 [.tmp 2] 36),
 some (.codeJ c70 [.tmp 2,.tmp 3] 49),
 some (.codeJ c71 [.tmp 6,.tmp 7] 29),
 some (.code c72 [.tmp 2] 31),
 some (.code c73 [.tmp 4] 27),
 some (.code c74 [.tmp 2] 35),
 some (.code c75 [.tmp 4] 21),
 some (.code c76 [.tmp 2] 8),
 some (.code c77 [.tmp 2] 8),
 some (.code c78 [] 9),
 some (.code c79 [.tmp 4] 12),
 some (.code c80 [.tmp 2] 8),
 some (.code c81 [.tmp 0] 3),
 some (.code c82 [.tmp 6] 11),
 some (.code c83 [.tmp 6] 11),
 some (.code c84 [.tmp 4] 17),
 some (.code c85 [.tmp 2] 4),
 some (.code c86 [.tmp 6] 17),
 some (.code c87 [.tmp 2] 14),
 some (.code c88 [] 37),
 some (.code c89 [.tmp 4] 9),
 some (.code c90 [.tmp 4] 13),
 some (.code c91 [.tmp 4] 19),
 some (.code c92 [] 96),
 some (.code c93 [.tmp 4] 26),
 some (.code c94 [.tmp 3] 19),
 some (.code c95 [.tmp 6] 11),
 some (.code c96 [.tmp 2] 6),
 some (.code c97 [.tmp 2] 14),
 some (.code c98 [.tmp 4] 48),
 some (.code c99 [.tmp 2] 32),
 some (.code J3b [.cell 6 true 3] 72),
 some (.code J3c [.cell 6 true 2,.cell 7 true 2] 20),
 some (.code J09 [.tmp 2] 5),
 some (.code Z9r [] 14),
 some (.code J29 [] 16),
 some (.code J01 [.tmp 2] 6),
 some (.code J27 [.tmp 4] 16),
 some (.code J0s [.tmp 4] 13),
 some (.code J1x [.tmp 4] 13),
 some (.code J1j [.tmp 4] 25),
 some (.code J10 [.tmp 6,.tmp 7] 28),
 some (.code J12 [.tmp 3] 22),
 some (.code J21 [.tmp 4] 9),
 some (.code J3s [.tmp 3] 9),
 some (.code J4f [.tmp 4] 80),
 some (.code J47 [.tmp 4] 9),
 some (.code J2x [] 63),
 some (.code J49 [] 18),
 some (.code J3a [] 36),
 some (.code J4i [] 34),
 some (.code J3f [] 35),
 some (.code J3p [] 11),
 some (.code J3y [.tmp 4] 13),
 some (.code J3i [.tmp 4] 13),
 some (.code J3j [] 20),
 some (.code J0t [.tmp 4] 19),
 some (.code J11 [.tmp 4] 13),
 some (.code J33 [.tmp 4,.tmp 5] 30),
 some (.code J3k [.tmp 2] 5),
 some (.code J3g [.tmp 4] 6),
 some (.code J31 [.cell 6 true 2] 45),
 some (.code J40 [.tmp 4] 74),
 some (.code J2h [.tmp 4] 13),
 some (.code J1c [] 148),
 some (.code J1f [.tmp 2] 8),
 some (.code Z9w [.tmp 3] 17),
 some (.code J2p [.tmp 4] 9),
 some (.code J2t [.tmp 2] 26),
 some (.code J03 [.cell 6 false 1] 73),
 some (.code J0d [.cell 4 true 4,.tmp 5] 33),
 some (.code J1h [.tmp 4] 52),
 some (.code J2a [.tmp 4] 19),
 some (.code J3o [.tmp 4] 19),
 some (.code J3q [] 53),
 some (.code J4n [] 220),
 some .same,
 some (.code J2v [.tmp 4,.tmp 5] 17),
 some (.code J4m [.tmp 4,.tmp 5] 51),
 some (.code J4g [.tmp 4] 13),
 some (.code J4a [] 22),
 some (.code J14 [] 53),
 some (.code J48 [] 60),
 some (.code J4e [] 67),
 some (.code J36 [.tmp 8,.tmp 9] 63),
 some (.code J3z [] 34),
 some (.code J4h [.tmp 8] 141),
 some (.code J3m [.tmp 10] 90),
 some (.code J4j [.tmp 10,.tmp 11] 178),
 some (.code Z9z [.tmp 2] 19),
 some (.code J1o [.tmp 2] 25),
 some (.code J2u [.tmp 4] 19),
 some (.code J02 [.tmp 2] 22),
 some (.code J1p [.tmp 4] 6),
 some (.code J0c [.tmp 3] 14),
 some (.code J0j [.tmp 6] 25),
 some (.code J0a [] 39),
 some (.code J4b [] 58),
 some (.code J4q [] 82),
 some (.code J2z [.tmp 2] 7),
 some (.code J43 [.tmp 2] 33),
 some (.code J41 [.tmp 8] 18),
 some (.code J3x [.tmp 12] 41),
 some (.code J1z [] 20),
 some (.code J2d [.tmp 2] 5),
 some (.code J4c [] 38),
 some (.code J30 [.tmp 10,.tmp 11] 32)]
def tab:Tab:=λf=>(J35[f]?).join
theorem Z4p:EntsOk Tryz.prog 0 J35:=⟨trivial,trivial,J4y,J5b,fun4,J51,J38,J4p,J4u,J4v,J2l,J26,J0f,J24,J18,J1a,Z7s,J2k,J0l,Z8c,Z75,Z7c,Z9e,Z6h,Z95,Z82,Z8g,Z98,Z6u,Z7m,Z60,Z3p,Z80,J17,J06,J2n,J0e,J08,J0p,J04,J25,J1t,J0k,J20,J1y,Z8d,J0i,J1n,J1l,J1r,J1q,J0o,J2o,J16,Z6x,Z7g,Z67,Z4l,Z6s,Z8p,Z7n,Z9a,Z5v,Z6k,Z9b,Z7h,Z6g,Z7e,Z71,Z99,Z77,Z7w,Z8u,Z8v,Z89,J1d,Z7j,J2j,Z9v,Z9s,J2s,J0q,J0v,J2m,J2q,J0b,J00,J0y,J0w,Z93,J05,J1v,J2b,J0m,J13,Z5z,Z8j,J0h,J1e,J0u,Z6a,Z69,Z3b,Z2k,Z1s,Z30,Z28,Z2n,Z3f,Z3d,Z1n,Z35,Z32,Z7y,Z6o,Z7a,Z8i,Z7b,Z8o,Z78,Z7f,Z6l,Z5s,Z8x,Z7l,Z1q,Z2v,Z70,Z6c,Z7d,Z7z,Z91,Z22,Z2l,Z1j,Z2i,Z37,Z20,Z36,Z2x,Z31,Z1t,Z9d,Z68,Z66,Z3y,Z96,Z81,Z7v,Z8m,Z2c,Z5t,Z7i,Z90,Z7o,Z63,Z8n,Z6e,Z2s,Z1i,Z2r,Z1z,Z2h,Z25,Z2g,Z2q,Z8r,Z72,Z6f,Z61,Z86,Z8w,Z1m,Z2p,Z5q,Z6p,trivial⟩
theorem Z87:TabOk Tryz.prog tab:=Z0t Z4p
end Go.Proofs.Tryz