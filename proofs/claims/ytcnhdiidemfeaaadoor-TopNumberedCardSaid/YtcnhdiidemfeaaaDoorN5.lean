/- A framework for walks, contracts of functions, and their proofs: part 5. -/
import Derived.Test.YtcnhdiidemfeaaaDoorN4
set_option linter.unusedVariables false
set_option maxRecDepth 100000
namespace Go.Proofs.Tryd
open Go Go.V Go.Proofs
abbrev q4 {A B C D E:Type}(x:A×B×C×D×E):E:=x.2.2.2.2
def inI (n a b:Int):Bool:=decide (a<=n)&&decide (n<=b)
def Q48 (l:List Int) (p:Int->Bool):Int:=match l.findIdx? p with|some i=>(i:Int)|none=>-1
def Q21 {α:Type}(l:List α) (p:α->Bool):Int:=match l.findIdx? p with|some i=>(i:Int)|none=>-1
def QW (hd:Int) (rows:List Int):Int:=if !inI hd 1 24 then 2 else if 60<rows.length then 5 else if rows.length=0 then 7 else if rows.any (λx=>!inI x 0 (2 ^ hd.toNat-1)) then 2 else 0
theorem Q2r {α:Type}{l:List α}{p:α->Bool}{k:Nat}(hk:k<l.length) (h:p l[k]=true) (hJ:(l.take k).any p=false):Q21 l p=k:=by
 have:l.findIdx? p=some k:=by rw[List.findIdx?_eq_some_iff_getElem];refine⟨hk,h,λj hj=>?_⟩;have hn:=xM.1 hJ l[j] (List.mem_take_iff_getElem.2 ⟨j,by omega,rfl⟩);simpa using hn
 simp[Q21,this]
theorem Ex {α:Type}{l:List α}{p:α->Bool}(hJ:l.any p=false):Q21 l p=-1:=by
 have:l.findIdx? p=none:=by rw[List.findIdx?_eq_none_iff];intro x hx;have:=xM.1 hJ x hx;simpa using this
 simp[Q21,this]
theorem Q6a {α:Type}(l:List α) (p:α->Bool):(decide (Q21 l p>=0))=l.any p:=by
 cases h:l.any p with
 |false=>rw[Ex h];rfl
 |true =>
  have:(l.findIdx? p).isSome=true:=by rw[List.findIdx?_isSome,h]
  obtain⟨i,hi⟩:=Option.isSome_iff_exists.1 this;have e:Q21 l p=(i:Int):=by simp[Q21,hi]
  rw[e];exact zn (Int.natCast_nonneg i)
def rowAt (rows:List Int) (p:Int):Nat:=(rows.getD (p.toNat % rows.length) 0).toNat
def C8:Nat->Nat->Nat
 |0,_=>0
 |h+1,n=>2*C8 h n+(n / 2 ^ h) % 2
theorem Q2b:∀ h n,C8 h n<2 ^ h
 |0,_=>by simp[C8]
 |h+1,n=>by have:=Q2b h n;have h2:(n / 2 ^ h) % 2<2:=wc _ (by omega);simp only[C8];rw[Nat.pow_succ];omega
theorem Tk:∀ h n i,(C8 h n).testBit i=(decide (i<h)&&n.testBit (h-1-i))
 |0,n,i=>by simp[C8]
 |h+1,n,0=>by simp only[C8];rw[Nat.testBit_zero,Nat.testBit_eq_decide_div_mod_eq];simp
 |h+1,n,i+1=>by have h2:(n / 2 ^ h) % 2<2:=wc _ (by omega);simp only[C8];rw[Nat.testBit_succ,show (2*C8 h n+n / 2 ^ h % 2) / 2=C8 h n by omega,Tk h n i];rw[show h+1-1-(i+1)=h-1-i by omega];congr 1;rw[decide_eq_decide];omega
def Uv (s m x:Nat):Nat:=((x >>> s) &&& m) ||| ((x &&& m) <<< s)
theorem Q51 (s m x i:Nat):(Uv s m x).testBit i=((x.testBit (s+i)&&m.testBit i)||(decide (s<=i)&&(x.testBit (i-s)&&m.testBit (i-s)))):=by unfold Uv;rw[Nat.testBit_or,Nat.testBit_and,Nat.testBit_shiftRight,Nat.testBit_shiftLeft,Nat.testBit_and]
def Uw (s i:Nat):Nat:=if i / s % 2=0 then i+s else i-s
def Z3u (s m:Nat):Bool:=(List.range 64).all λi=>m.testBit i==(i / s % 2==0)
theorem EH {s m x i:Nat}(hs:s=1\/s=2\/s=4\/s=8\/s=16\/s=32) (hm:Z3u s m=true) (hx:x<2 ^ 64) (hi:i<64):(Uv s m x).testBit i=x.testBit (Uw s i):=by
 have qL:∀ j,j<64->m.testBit j=(j / s % 2==0):=λj hj=>by have:=zg.1 hm j (zW.2 hj);simpa using this
 have hb:∀ j,64<=j->x.testBit j=false:=λj hj=>Nat.testBit_lt_two_pow (zZ hx (Nat.pow_le_pow_right (by omega) hj));rw[Q51,qL i hi];unfold Uw;by_cases h0:i / s % 2=0
 .rw[z6 h0,h0];simp only[beq_self_eq_true,xU];have hz:(decide (s<=i)&&(x.testBit (i-s)&&m.testBit (i-s)))=false:=by
   by_cases h1:s<=i
   .rw[qL (i-s) (by omega)];have:¬ ((i-s) / s % 2=0):=by rcases hs with rfl|rfl|rfl|rfl|rfl|rfl<;>omega
    simp[this]
   .simp[h1]
  rw[hz,xZ,xX]
 .rw[z0 h0];have h1:s<=i:=by rcases hs with rfl|rfl|rfl|rfl|rfl|rfl<;>omega
  have h2:(i-s) / s % 2=0:=by rcases hs with rfl|rfl|rfl|rfl|rfl|rfl<;>omega
  rw[qL (i-s) (by omega),h2];simp[h0,h1]
theorem Mv {s m x:Nat}(hs:s=1\/s=2\/s=4\/s=8\/s=16\/s=32) (hx:x<2 ^ 64) (hm:m<2 ^ (64-s)):Uv s m x<2 ^ 64:=by
 unfold Uv;refine Nat.or_lt_two_pow ?_ ?_
 .exact xC Nat.and_le_left (xC (by rw[xW];exact Nat.div_le_self _ _) hx)
 .have h1:x &&& m<2 ^ (64-s):=xC Nat.and_le_right hm;rw[Nat.shiftLeft_eq];have h2:2 ^ 64=2 ^ (64-s)*2 ^ s:=by rw[<-Nat.pow_add];congr 1;omega
  rw[h2];exact Nat.mul_lt_mul_of_pos_right h1 (Nat.two_pow_pos s)
def Z03 (x:Nat):Nat:=Uv 4 1085102592571150095 (Uv 2 3689348814741910323 (Uv 1 6148914691236517205 x))
def Q4y (x:Nat):Nat:=(Uv 16 281470681808895 (Uv 8 71777214294589695 x)) >>> 32 ||| ((Uv 16 281470681808895 (Uv 8 71777214294589695 x)) <<< 32) % 2 ^ 64
theorem O4 {x i:Nat}(hx:x<2 ^ 64) (hi:i<64):(Z03 x).testBit i=x.testBit (Uw 1 (Uw 2 (Uw 4 i)))/\Z03 x<2 ^ 64:=by
 have b1:Uv 1 6148914691236517205 x<2 ^ 64:=Mv (.inl rfl) hx (by decide);have b2:Uv 2 3689348814741910323 (Uv 1 6148914691236517205 x)<2 ^ 64:=Mv (.inr (.inl rfl)) b1 (by decide);have b3:=Mv (s:=4) (m:=1085102592571150095) (by omega) b2 (by decide);refine⟨?_,b3⟩;unfold Z03;have e4:Uw 4 i<64:=by unfold Uw;split<;>omega
 have e2:Uw 2 (Uw 4 i)<64:=by generalize Uw 4 i=j at e4;unfold Uw;split<;>omega
 rw[EH (by omega) (by decide) b2 hi,EH (by omega) (by decide) b1 e4,EH (by omega) (by decide) hx e2]
theorem Q60 {x i:Nat}(hx:x<2 ^ 64) (hi:i<64):(Q4y x).testBit i=x.testBit (Uw 8 (Uw 16 (Uw 32 i))):=by
 have b1:Uv 8 71777214294589695 x<2 ^ 64:=Mv (by omega) hx (by decide);have b2:Uv 16 281470681808895 (Uv 8 71777214294589695 x)<2 ^ 64:=Mv (by omega) b1 (by decide);have uB:(Q4y x).testBit i=(Uv 16 281470681808895 (Uv 8 71777214294589695 x)).testBit (Uw 32 i):=by
  unfold Q4y;generalize Uv 16 281470681808895 (Uv 8 71777214294589695 x)=y at b2;rw[Nat.testBit_or,Nat.testBit_shiftRight,Nat.testBit_mod_two_pow,Nat.testBit_shiftLeft];unfold Uw;by_cases h:i / 32 % 2=0
  .rw[z6 h,xX];have:¬ 32<=i:=by omega
   simp[this]
  .rw[z0 h];have h1:32<=i:=by omega
   have h2:y.testBit (32+i)=false:=Nat.testBit_lt_two_pow (zZ b2 (Nat.pow_le_pow_right (by omega) (by omega)));rw[h2];simp[h1,hi]
 have oZ:Uw 32 i<64:=by unfold Uw;split<;>omega
 have iM:Uw 16 (Uw 32 i)<64:=by generalize Uw 32 i=j at oZ;unfold Uw;split<;>omega
 rw[uB,EH (by omega) (by decide) b1 oZ,EH (by omega) (by decide) hx iM]
theorem Q7q {x:Nat}(hx:x<2 ^ 64):Q4y x<2 ^ 64:=by unfold Q4y;have b1:Uv 8 71777214294589695 x<2 ^ 64:=Mv (by omega) hx (by decide);have b2:Uv 16 281470681808895 (Uv 8 71777214294589695 x)<2 ^ 64:=Mv (by omega) b1 (by decide);refine Nat.or_lt_two_pow (xC (by rw[xW];exact Nat.div_le_self _ _) b2) (wc _ (by decide))
theorem Q8z:∀ i,i<64->Uw 1 (Uw 2 (Uw 4 (Uw 8 (Uw 16 (Uw 32 i)))))=63-i:=by decide
theorem Z3r {x:Nat}(hx:x<2 ^ 64):Q4y (Z03 x)=C8 64 x:=by
 refine Nat.eq_of_testBit_eq λi=>?_;have h8:=(O4 (i:=0) hx (by omega)).2;rw[Tk];by_cases hi:i<64
 .rw[Q60 h8 hi];have oZ:Uw 32 i<64:=by unfold Uw;split<;>omega
  have iM:Uw 16 (Uw 32 i)<64:=by generalize Uw 32 i=j at oZ;unfold Uw;split<;>omega
  have e8:Uw 8 (Uw 16 (Uw 32 i))<64:=by generalize Uw 16 (Uw 32 i)=j at iM;unfold Uw;split<;>omega
  rw[(O4 hx e8).1,Q8z i hi];simp[hi]
 .rw[Nat.testBit_lt_two_pow (zZ (Q7q h8) (Nat.pow_le_pow_right (by omega) (by omega)))];simp[hi]
theorem Q0w {f n:Nat}(hf:f<=64) (hn:n<2 ^ f):C8 64 n >>> (64-f)=C8 f n:=by
 refine Nat.eq_of_testBit_eq λi=>?_;rw[Nat.testBit_shiftRight,Tk,Tk];by_cases hi:i<f
 .rw[zn hi,zn (show 64-f+i<64 by omega),Bool.true_and,Bool.true_and];congr 1;omega
 .rw[zU hi,zU (show ¬ 64-f+i<64 by omega)];rfl
theorem Q4g {x:Nat}(hx:x<2 ^ 64):(BitVec.ofInt 64 (x:Int)).toNat=x:=by rw[Rq,BitVec.toNat_ofNat,xm hx]
theorem Q8q (x:Nat):IntKind.wrap .u64 (x:Int)=((x % 2 ^ 64:Nat):Int):=by show (x:Int) % 18446744073709551616=_;omega
theorem Z4y {a b:Nat}(ha:a<2 ^ 64) (hb:b<2 ^ 64):QM .and .u64 (a:Int) (b:Int)=((a &&& b:Nat):Int):=by
 have e:(BitVec.ofInt 64 (a:Int) &&& BitVec.ofInt 64 (b:Int)).toNat=a &&& b:=by rw[BitVec.toNat_and,Q4g ha,Q4g hb]
 show IntKind.wrap .u64 ((BitVec.ofInt 64 (a:Int) &&& BitVec.ofInt 64 (b:Int)).toNat:Int)=_;rw[e,Q8q,xm (xC Nat.and_le_left ha)]
theorem orU {a b:Nat}(ha:a<2 ^ 64) (hb:b<2 ^ 64):QM .or .u64 (a:Int) (b:Int)=((a ||| b:Nat):Int):=by
 have e:(BitVec.ofInt 64 (a:Int) ||| BitVec.ofInt 64 (b:Int)).toNat=a ||| b:=by rw[BitVec.toNat_or,Q4g ha,Q4g hb]
 show IntKind.wrap .u64 ((BitVec.ofInt 64 (a:Int) ||| BitVec.ofInt 64 (b:Int)).toNat:Int)=_;rw[e,Q8q,xm (Nat.or_lt_two_pow ha hb)]
theorem Z3h {x i:Nat}(hi:i<=64):JK .u64 (x:Int) (i:Int)=((x >>> i:Nat):Int):=by have:Nat.min i 64=i:=w5 hi;simp only[JK,zf,IntKind.bits,this];rw[xW,Int.fdiv_eq_ediv_of_nonneg _ (Int.le_of_lt (Int.pow_pos (by omega)))];norm_cast
theorem Z5h {x i:Nat}(hi:i<=64):K0 .u64 (x:Int) (i:Int)=((x <<< i:Nat):Int):=by have:Nat.min i 64=i:=w5 hi;simp only[K0,zf,IntKind.bits,this,Nat.shiftLeft_eq];norm_cast
theorem Z0w {s m x:Nat}(hs:s=1\/s=2\/s=4\/s=8\/s=16\/s=32) (hx:x<2 ^ 64) (hm:m<2 ^ (64-s)) :
  QM .or .u64 (QM .and .u64 (JK .u64 (x:Int) (s:Int)) (m:Int)) (K0 .u64 (QM .and .u64 (x:Int) (m:Int)) (s:Int))=((Uv s m x:Nat):Int)/\InK .u64 (K0 .u64 (QM .and .u64 (x:Int) (m:Int)) (s:Int))/\Uv s m x<2 ^ 64:=by
 have oa:m<2 ^ 64:=zZ hm (Nat.pow_le_pow_right (by omega) (by omega));have bq:x >>> s<2 ^ 64:=xC (by rw[xW];exact Nat.div_le_self _ _) hx;have hl:(x &&& m) <<< s<2 ^ 64:=by
  have h1:x &&& m<2 ^ (64-s):=xC Nat.and_le_right hm;rw[Nat.shiftLeft_eq];have h2:2 ^ 64=2 ^ (64-s)*2 ^ s:=by rw[<-Nat.pow_add];congr 1;omega
  rw[h2];exact Nat.mul_lt_mul_of_pos_right h1 (Nat.two_pow_pos s)
 rw[Z3h (by omega),Z4y bq oa,Z4y hx oa,Z5h (by omega),orU (xC Nat.and_le_left bq) hl];refine⟨rfl,?_,Mv hs hx hm⟩;rw[Hj];generalize (x &&& m) <<< s=z at hl;omega
theorem sw1 {x:Nat}(hx:x<2 ^ 64):QM .or .u64 (QM .and .u64 (JK .u64 (x:Int) 1) 6148914691236517205) (K0 .u64 (QM .and .u64 (x:Int) 6148914691236517205) 1)=((Uv 1 6148914691236517205 x:Nat):Int)/\InK .u64 (K0 .u64 (QM .and .u64 (x:Int) 6148914691236517205) 1)/\Uv 1 6148914691236517205 x<2 ^ 64:=Z0w (s:=1) (m:=6148914691236517205) (by omega) hx (by decide)
theorem sw2 {x:Nat}(hx:x<2 ^ 64):QM .or .u64 (QM .and .u64 (JK .u64 (x:Int) 2) 3689348814741910323) (K0 .u64 (QM .and .u64 (x:Int) 3689348814741910323) 2)=((Uv 2 3689348814741910323 x:Nat):Int)/\InK .u64 (K0 .u64 (QM .and .u64 (x:Int) 3689348814741910323) 2)/\Uv 2 3689348814741910323 x<2 ^ 64:=Z0w (s:=2) (m:=3689348814741910323) (by omega) hx (by decide)
theorem sw4 {x:Nat}(hx:x<2 ^ 64):QM .or .u64 (QM .and .u64 (JK .u64 (x:Int) 4) 1085102592571150095) (K0 .u64 (QM .and .u64 (x:Int) 1085102592571150095) 4)=((Uv 4 1085102592571150095 x:Nat):Int)/\InK .u64 (K0 .u64 (QM .and .u64 (x:Int) 1085102592571150095) 4)/\Uv 4 1085102592571150095 x<2 ^ 64:=Z0w (s:=4) (m:=1085102592571150095) (by omega) hx (by decide)
theorem sw8 {x:Nat}(hx:x<2 ^ 64):QM .or .u64 (QM .and .u64 (JK .u64 (x:Int) 8) 71777214294589695) (K0 .u64 (QM .and .u64 (x:Int) 71777214294589695) 8)=((Uv 8 71777214294589695 x:Nat):Int)/\InK .u64 (K0 .u64 (QM .and .u64 (x:Int) 71777214294589695) 8)/\Uv 8 71777214294589695 x<2 ^ 64:=Z0w (s:=8) (m:=71777214294589695) (by omega) hx (by decide)
theorem Z64 {x:Nat}(hx:x<2 ^ 64):QM .or .u64 (QM .and .u64 (JK .u64 (x:Int) 16) 281470681808895) (K0 .u64 (QM .and .u64 (x:Int) 281470681808895) 16)=((Uv 16 281470681808895 x:Nat):Int)/\InK .u64 (K0 .u64 (QM .and .u64 (x:Int) 281470681808895) 16)/\Uv 16 281470681808895 x<2 ^ 64:=Z0w (s:=16) (m:=281470681808895) (by omega) hx (by decide)
theorem Z5t {x:Nat}(hx:x<2 ^ 64):QM .or .u64 (JK .u64 (x:Int) 32) (IntKind.wrap .u64 (K0 .u64 (x:Int) 32))=((x >>> 32 ||| (x <<< 32) % 2 ^ 64:Nat):Int):=by have h1:JK .u64 (x:Int) 32=((x >>> 32:Nat):Int):=Z3h (i:=32) (by omega);have h2:K0 .u64 (x:Int) 32=((x <<< 32:Nat):Int):=Z5h (i:=32) (by omega);rw[h1,h2,Q8q,orU (xC (by rw[xW];exact Nat.div_le_self _ _) hx) (wc _ (by decide))]
abbrev Xo:=Int×Int×Bool
def Z_:Xo:=(0,(0,false))
def Zb (hk:Int) (c:Xo):Bool:=inI c.1 (-1) 59&&inI c.2.1 0 (2 ^ hk.toNat-1)
def Qu (hk:Int) (cs:List Xo):Int:=if !inI hk 1 24 then 3 else if 60<cs.length then 5 else if cs=[]\/(cs.any λc=>!Zb hk c)=true then 2 else 0
def Z1j (f row:Int):Int:=((C8 f.toNat row.toNat:Nat):Int)
def G0 (hk:Int) (c:Xo):Int:=if c.2.2 then Z1j hk c.2.1 else c.2.1
def Wk (hk:Int) (rows:List Int):Int:=if !inI hk 1 24 then 2 else if 60<rows.length then 5 else if rows=[] then 7 else if (rows.any λr=>!inI r 0 (2 ^ hk.toNat-1))=true then 2 else 0
def Rx (rows:List Int):List Xo:=(List.range rows.length).map λ(i:Nat)=>((i:Int),(rows.getD i 0,false))
def Ve (hk:Int) (rows:List Int):Int:=if Wk hk rows=0 then hk else 0
def BG (hk:Int) (rows:List Int):List Xo:=if Wk hk rows=0 then Rx rows else []
def atK (n a:Int) (st:List Int):Nat->Int
 |0=>a
 |k+1=>Int.tmod (atK n a st k+st.getD k 0) n
def L9 (hk:Int) (cs:List Xo) (a:Int) (st:List Int) (k:Nat):List Int:=(List.range k).map λi=>G0 hk (cs.getD (atK cs.length a st i).toNat Z_)
def ZX (hk:Int) (cs:List Xo) (a:Int) (st:List Int):Int:=if Qu hk cs≠0 then Qu hk cs else if !inI a 0 ((cs.length:Int)-1) then 7 else if 60<st.length then 5 else if (st.any λs=>!inI s 0 2)=true then 2 else 0
def Pq (hk:Int) (cs:List Xo) (a:Int) (st:List Int):List Int:=if ZX hk cs a st=0 then L9 hk cs a st st.length else []
def UQ (hk:Int) (cs:List Xo) (a:Int) (st:List Int):Int:=if ZX hk cs a st=0 then atK cs.length a st st.length else 0
theorem P6 {n a b:Int}(h:(!inI n a b)=false):a<=n/\n<=b:=by unfold inI at h;simp at h;omega
theorem Z5w {k:Nat}(h:k<=62):K0 .i64 1 (k:Int)=((2 ^ k:Nat):Int):=by have:=Q8p (x:=1) (i:=k) (by omega);rw[Nat.shiftLeft_eq,xL] at this;exact this
theorem IH (k:Nat):(2:Int) ^ k=((2 ^ k:Nat):Int):=by simp
theorem Z0f {k:Nat}(h:k<=24):0<2 ^ k/\2 ^ k<=16777216:=⟨Nat.two_pow_pos k,Nat.pow_le_pow_right (n:=2) (by omega) h⟩
theorem Oq {f:Int}{c:Xo}(h:Zb f c=true):0<=c.2.1/\c.2.1<2 ^ f.toNat:=by unfold Zb inI at h;simp only[z8,zr] at h;omega
theorem Cq {hk:Int}{cs:List Xo}(h1:(!inI hk 1 24)=false) (h2:cs.length<=60) (h3:(!(!cs.isEmpty&&!(cs.any λc=>!Zb hk c)))=true):Qu hk cs=2:=by unfold Qu;rw[z0 (by rw[h1];decide),z0 (by omega),z6];simp only[Bool.not_and,Bool.not_not,zy,List.isEmpty_iff] at h3;exact h3
theorem TS {hk:Int}{cs:List Xo}(h1:(!inI hk 1 24)=false) (h2:cs.length<=60) (h3:(!(!cs.isEmpty&&!(cs.any λc=>!Zb hk c)))=false):Qu hk cs=0/\cs≠[]/\∀ c∈cs,Zb hk c=true:=by
 simp only[Bool.not_and,Bool.not_not,Bool.or_eq_false_iff] at h3;have aB:cs≠[]:=λe=>by rw[e] at h3;cases h3.1
 refine⟨?_,aB,λc hc=>?_⟩
 .unfold Qu;rw[z0 (by rw[h1];decide),z0 (by omega),z0];rintro (h|h)
  .exact aB h
  .rw[h3.2] at h;cases h
 .have:=xM.1 h3.2 c hc;simpa using this
def Q86 (rows:List Int) (k:Nat):List Xo:=(List.range k).map λ(i:Nat)=>((i:Int),(rows.getD i 0,false))
theorem Q2x (rows:List Int) (k:Nat):Q86 rows (k+1)=Q86 rows k++[((k:Int),(rows.getD k 0,false))]:=by unfold Q86;rw[List.range_succ,xH];rfl
theorem Q5c (rows:List Int) (k:Nat):(Q86 rows k).length=k:=by simp[Q86]
theorem Cf {hk:Int}{rows:List Int}{e:Int}(h:Wk hk rows=e) (h0:e≠0):(0=Ve hk rows/\e=Wk hk rows)/\BG hk rows=[]/\(BG hk rows).isEmpty=true:=by
 have h1:Wk hk rows≠0:=by omega
 have h2:BG hk rows=[]:=by unfold BG;rw[z0 h1]
 have h3:Ve hk rows=0:=by unfold Ve;rw[z0 h1]
 rw[h2,h3];exact⟨⟨rfl,h.symm⟩,rfl,rfl⟩
theorem VY {hk a:Int}{cs:List Xo}{st:List Int}{e:Int}(h:ZX hk cs a st=e) (h0:e≠0):(0=UQ hk cs a st/\e=ZX hk cs a st)/\Pq hk cs a st=[]/\(Pq hk cs a st).isEmpty=true:=by
 have h1:ZX hk cs a st≠0:=by omega
 have h2:Pq hk cs a st=[]:=by unfold Pq;rw[z0 h1]
 have h3:UQ hk cs a st=0:=by unfold UQ;rw[z0 h1]
 rw[h2,h3];exact⟨⟨rfl,h.symm⟩,rfl,rfl⟩
theorem OF (hk:Int) (cs:List Xo) (a:Int) (st:List Int) (k:Nat):L9 hk cs a st (k+1)=L9 hk cs a st k++[G0 hk (cs.getD (atK cs.length a st k).toNat Z_)]:=by unfold L9;rw[List.range_succ,xH];rfl
theorem AW (hk:Int) (cs:List Xo) (a:Int) (st:List Int) (k:Nat):(L9 hk cs a st k).length=k:=by simp[L9]
theorem Q6v {n:Nat}{a:Int}{st:List Int}(hn:0<n) (h0:0<=a) (h1:a<n) (hs:∀ s∈st,0<=s):∀ k,0<=atK n a st k/\atK n a st k<n
 |0=>⟨h0,h1⟩
 |k+1=>by
  have ih:=Q6v hn h0 h1 hs k;have hg:0<=st.getD k 0:=by
   rw[ze];cases h:st[k]? with
   |none=>exact Int.le_refl _
   |some x=>exact hs x (x8 h)
  simp only[atK];rw[Int.tmod_eq_emod_of_nonneg (by omega)];exact⟨Int.emod_nonneg _ (by omega),Int.emod_lt_of_pos _ (by omega)⟩
theorem TJ {hk:Int}{cs:List Xo}(h:Qu hk cs=0):(1<=hk/\hk<=24)/\cs.length<=60/\cs≠[]/\∀ c∈cs,Zb hk c=true:=by
 unfold Qu at h;split at h
 .cases h
 .rename_i h1;have h1:(!inI hk 1 24)=false:=by simpa using h1
  split at h
  .cases h
  .split at h
   .cases h
   .rename_i h2 h3;refine⟨P6 h1,by omega,λe=>h3 (.inl e),λc hc=>?_⟩;cases au:Zb hk c with
    |true=>rfl
    |false=>exact(h3 (.inr (xI.2 ⟨c,hc,by rw[au];rfl⟩))).elim
def FL (a b:Int):Int:=if a<b then -1 else if b<a then 1 else 0
def Q6d:XSp:=λ_ _ _ _=>False
theorem Cr {P:Program}{f:Nat}:XOk P f Q6d:=λ_ _ _ _ _ _ _ _ _ _ _ _ _ _ hx _=>hx.elim
def len8T:List UInt8:=[0,1,2,2,3,3,3,3,4,4,4,4,4,4,4,4,5,5,5,5,5,5,5,5,5,5,5,5,5,5,5,5,6,6,6,6,6,6,6,6,6,6,6,6,6,6,6,6,6,6,6,6,6,6,6,6,6,6,6,6,6,6,6,6,7,7,7,7,7,7,7,7,7,7,7,7,7,7,7,7,7,7,7,7,7,7,7,7,7,7,7,7,7,7,7,7,7,7,7,7,7,7,7,7,7,7,7,7,7,7,7,7,7,7,7,7,7,7,7,7,7,7,7,7,7,7,7,7,8,8,8,8,8,8,8,8,8,8,8,8,8,8,8,8,8,8,8,8,8,8,8,8,8,8,8,8,8,8,8,8,8,8,8,8,8,8,8,8,8,8,8,8,8,8,8,8,8,8,8,8,8,8,8,8,8,8,8,8,8,8,8,8,8,8,8,8,8,8,8,8,8,8,8,8,8,8,8,8,8,8,8,8,8,8,8,8,8,8,8,8,8,8,8,8,8,8,8,8,8,8,8,8,8,8,8,8,8,8,8,8,8,8,8,8,8,8,8,8,8,8,8,8,8,8,8,8]
def C4 (x:Int):Int:=((UInt8.toNat (List.getD len8T (Int.toNat x) 0):Nat):Int)
def F8 {α:Type}[Inhabited α] (lt:α->α->Bool) (a:Nat):Nat->List α->List α
 |0,xs=>xs
 |j+1,xs=>if a<j+1/\lt (xs.getD (j+1) default) (xs.getD j default)=true then F8 lt a j ((xs.set (j+1) (xs.getD j default)).set j (xs.getD (j+1) default)) else xs
def Q4b {α:Type}[Inhabited α] (lt:α->α->Bool) (a:Nat):Nat->List α->List α
 |0,xs=>xs
 |n+1,xs=>F8 lt a (a+1+n) (Q4b lt a n xs)
def TF {α:Type}[Inhabited α] (f:α×α->Int) (xs:List α) (a b:Nat):List α:=Q4b (λx y=>decide (f (x,y)<0)) a (b-a-1) xs
section
variable {α:Type}[Inhabited α] {lt:α->α->Bool}
theorem EG {xs:List α}{j:Nat}(h:j+1<xs.length):((xs.set (j+1) (xs.getD j default)).set j (xs.getD (j+1) default)).Perm xs:=by rw[Q9 (show j<xs.length by omega),Q9 h];exact List.set_set_perm h (by omega)
theorem Ey {a:Nat}:∀ j {xs:List α},j<xs.length->(F8 lt a j xs).Perm xs
 |0,_,_=>.refl _
 |j+1,xs,h=>by
  unfold F8;split
  .exact(Ey j (by simp;omega)).trans (EG h)
  .exact .refl _
theorem Hd {a:Nat}{xs:List α}:∀ n,a+n<xs.length\/n=0->(Q4b lt a n xs).Perm xs
 |0,_=>.refl _
 |n+1,h=>by have ih:=Hd (a:=a) (xs:=xs) n (by omega);unfold Q4b;exact(Ey _ (by rw[ih.length_eq];omega)).trans ih
theorem TW {f:α×α->Int}{xs:List α}{a b:Nat}(h:b<=xs.length):(TF f xs a b).Perm xs:=Hd _ (by omega)
theorem Q10 {a j:Nat}{xs:List α}(hj:a<j) (h:lt (xs.getD j default) (xs.getD (j-1) default)=true):F8 lt a j xs=F8 lt a (j-1) ((xs.set j (xs.getD (j-1) default)).set (j-1) (xs.getD j default)):=by obtain⟨k,rfl⟩:∃ k,j=k+1:=⟨j-1,by omega⟩;rw[Nat.add_sub_cancel] at h |-;rw[F8,z6 ⟨hj,h⟩]
theorem Q2i {a j:Nat}{xs:List α}(h:¬ (a<j/\lt (xs.getD j default) (xs.getD (j-1) default)=true)):F8 lt a j xs=xs:=by
 cases j with
 |zero=>rfl
 |succ k=>rw[Nat.add_sub_cancel] at h;rw[F8,z0 h]
theorem Iv {xs:List α}{j q:Nat}(h:j+1<xs.length):((xs.set (j+1) (xs.getD j default)).set j (xs.getD (j+1) default)).getD q default=if q=j then xs.getD (j+1) default else if q=j+1 then xs.getD j default else xs.getD q default:=by
 simp only[ze,xx,xj];by_cases h1:j=q
 .subst h1;rw[z6 rfl,z6 (by omega),z6 rfl];rfl
 .rw[z0 h1,z0 (show ¬ q=j from λe=>h1 e.symm)];by_cases h2:j+1=q
  .subst h2;rw[z6 rfl,z6 h,z6 rfl];rfl
  .rw[z0 h2,z0 (show ¬ q=j+1 from λe=>h2 e.symm)]
def Q73 (lt:α->α->Bool) (i:Nat) (xs:List α):Prop:=∀ p q,p<q->q<=i->lt (xs.getD q default) (xs.getD p default)=false
theorem AS (has:∀ x y,lt x y=true->lt y x=false) (lF:∀ x y z,lt y x=false->lt z y=false->lt z x=false) {i:Nat}:∀ j {xs:List α},j<=i->i<xs.length->(∀ p q,p<q->q<=i->q≠j->lt (xs.getD q default) (xs.getD p default)=false)->Q73 lt i (F8 lt 0 j xs)
 |0,xs,_,_,h=>λp q h1 h2=>by rw[F8];exact h p q h1 h2 (by omega)
 |j+1,xs,hj,hi,h=>by
  rw[F8];split
  .rename_i hc;refine AS has lF j (by omega) (by simp;exact hi) λp q h1 h2 h3=>?_;rw[Iv (by omega),Iv (by omega),z0 h3];by_cases hq:q=j+1
   .rw[z6 hq];by_cases hp:p=j
    .rw[z6 hp];exact has _ _ hc.2
    .rw[z0 hp,z0 (by omega)];exact h p j (by omega) (by omega) (by omega)
   .rw[z0 hq];by_cases hp:p=j
    .rw[z6 hp];exact h (j+1) q (by omega) h2 (by omega)
    .rw[z0 hp];by_cases cN:p=j+1
     .rw[z6 cN];exact h j q (by omega) h2 (by omega)
     .rw[z0 cN];exact h p q h1 h2 (by omega)
  .rename_i hc;have hc:lt (xs.getD (j+1) default) (xs.getD j default)=false:=by
    cases h5:lt (xs.getD (j+1) default) (xs.getD j default) with
    |false=>rfl
    |true=>exact(hc ⟨by omega,h5⟩).elim
   intro p q h1 h2;by_cases hq:q=j+1
   .subst hq;by_cases hp:p=j
    .subst hp;exact hc
    .exact lF _ _ _ (h p j (by omega) (by omega) (by omega)) hc
   .exact h p q h1 h2 hq
theorem EV (has:∀ x y,lt x y=true->lt y x=false) (lF:∀ x y z,lt y x=false->lt z y=false->lt z x=false) {xs:List α}:∀ n,n<xs.length->Q73 lt n (Q4b lt 0 n xs)
 |0,_=>λp q h1 h2=>by omega
 |n+1,h=>by have ih:=EV has lF (xs:=xs) n (by omega);have hp:=Hd (lt:=lt) (a:=0) (xs:=xs) n (by omega);unfold Q4b;rw[show 0+1+n=n+1 by omega];exact AS has lF (n+1) (zd _) (by rw[hp.length_eq];omega) λp q h1 h2 h3=>ih p q h1 (by omega)
theorem Q3n {f:α×α->Int}(has:∀ x y,f (x,y)<0->¬ f (y,x)<0) (lF:∀ x y z,¬ f (y,x)<0->¬ f (z,y)<0->¬ f (z,x)<0) (xs:List α):(TF f xs 0 xs.length).Pairwise λx y=>¬ f (y,x)<0:=by
 cases hx:xs with
 |nil=>exact List.Pairwise.nil
 |cons x0 t =>
  have hlen:0<xs.length:=by rw[hx];simp
  rw[<-hx];have h:=EV (lt:=λx y=>decide (f (x,y)<0)) (λx y h=>by simpa using has x y (by simpa using h)) (λx y z h1 h2=>by simpa using lF x y z (by simpa using h1) (by simpa using h2)) (xs:=xs) (xs.length-0-1) (by omega);have hl:=(TW (f:=f) (a:=0) (zd xs.length)).length_eq;refine List.pairwise_iff_getElem.2 λp q hp hq uC=>?_;have:=h p q uC (by omega);have cu:(Q4b (λx y=>decide (f (x,y)<0)) 0 (xs.length-0-1) xs).getD q default=(TF f xs 0 xs.length)[q]:=Q9 hq;have a9:(Q4b (λx y=>decide (f (x,y)<0)) 0 (xs.length-0-1) xs).getD p default=(TF f xs 0 xs.length)[p]:=Q9 hp;rw[cu,a9] at this;simpa using this
end
theorem Q8w {a j:Nat}{α:Type}[Inhabited α] {f:α×α->Int}{ys T:List α}(e:F8 (λx y=>decide (f (x,y)<0)) a j ys=T) (h:¬ (a<j/\f (ys.getD j default,ys.getD (j-1) default)<0)):ys=T:=by rw[<-e,Q2i];intro hh;exact h ⟨hh.1,by simpa using hh.2⟩
theorem Q6f {a j:Nat}{α:Type}[Inhabited α] {f:α×α->Int}{ys T:List α}(e:F8 (λx y=>decide (f (x,y)<0)) a j ys=T) (hj:a<j) (h:f (ys.getD j default,ys.getD (j-1) default)<0):F8 (λx y=>decide (f (x,y)<0)) a (j-1) ((ys.set j (ys.getD (j-1) default)).set (j-1) (ys.getD j default))=T:=by rw[<-e,Q10 hj (by simpa using h)]
theorem Q03 {α:Type}[Inhabited α] {xs:List α}{j:Nat}(h0:0<j) (h:j<xs.length):((xs.set j (xs.getD (j-1) default)).set (j-1) (xs.getD j default)).Perm xs:=by obtain⟨k,rfl⟩:∃ k,j=k+1:=⟨j-1,by omega⟩;exact EG h
theorem nI (n a b:Int):(!inI n a b)=(decide (n<a)||decide (b<n)):=by
 unfold inI;by_cases h1:a<=n<;>by_cases h2:n<=b
 .rw[zn h1,zn h2,zU (by omega),zU (by omega)];rfl
 .rw[zn h1,zU h2,zU (by omega),zn (by omega)];rfl
 .rw[zU h1,zn h2,zn (by omega),zU (by omega)];rfl
 .rw[zU h1,zU h2,zn (by omega),zn (by omega)];rfl
end Go.Proofs.Tryd
namespace Go.Proofs.Tryd
open Go Go.V Go.Proofs
def X7:AL (List Int×((Int->Prop)×(Int->Bool))):=(.cons (.k (.list (.i .i64))) (.one (.fn [(.i .i64)] .bo)))
def Kf (d:List Int×((Int->Prop)×(Int->Bool))):Prop:=d.1.length<=1000000/\∀ x∈d.1,d.2.1 x
def JU (d:List Int×((Int->Prop)×(Int->Bool))):SV:=.val (.i .i64) (Q48 d.1 d.2.2)
def X2 (d:List Int×((Int->Prop)×(Int->Bool))):List OB:=[]
def ZZ:CSp:=Yo X7 Kf JU X2
def Zc (l:List Int) (p:(Int->Prop)×(Int->Bool)):Prop :=
 ∃ (e2:Unit) (d20:Int),((l=l/\(SV.pf [(.i .i64)] .bo p.1 p.2=SV.pf [(.i .i64)] .bo p.1 p.2)/\(lI l)=(lI l)/\(0:Int)=d20/\True)/\(True)) /\
 LoopP (λ(d2:Int) (q2:(Int)->Prop) =>
  ((decide (d2<(lI l)))=true ->
   (0<=d2)/\(d2<(List.length l))/\(p.1 (gD l d2 0))/\((p.2 (gD l d2 0))=true ->
    (d2=(Q48 l p.2)/\(True))) /\
   ((p.2 (gD l d2 0))=false ->
    (I64 (d2+(1:Int)))/\(∃ d3:Int,((l=l/\(SV.pf [(.i .i64)] .bo p.1 p.2=SV.pf [(.i .i64)] .bo p.1 p.2)/\(lI l)=(lI l)/\(d2+(1:Int))=d3/\True)/\(True))/\q2 d3))) /\
  ((decide (d2<(lI l)))=false ->
   ((-1:Int)=(Q48 l p.2)/\(True)))) d20
def Xb:Cx:=⟨[],[],19,[],0,[],[],[],[],false,[],[],[],[]⟩
def Ku (l:List Int) (p:(Int->Prop)×(Int->Bool)):List (Nat×LoopAnn):=[(0,⟨Unit,Int,[0,1,7,8],λe x=>[.val (.list (.i .i64)) l,.pf [(.i .i64)] .bo p.1 p.2,.val (.i .i64) (((List.length l):Nat):Int),.val (.i .i64) x],λe x=>[]⟩)]
theorem V6 (d:List Int×((Int->Prop)×(Int->Bool))):gwp (Xb) (Ku d.1 d.2) c72 0 (K9 [.tmp 4] (JU d) (X2 d)) (QC 19 (AL.can X7 d))=Zc d.1 d.2:=by kernel_rfl
abbrev KS:Prop:=OkC Tryd.prog 72 ZZ
theorem Kx (h:∀ (l:List Int) (p:(Int->Prop)×(Int->Bool)),(l.length<=1000000/\∀ x∈l,p.1 x)->Zc l p):OkC Tryd.prog 72 ZZ :=
 QK Z23 mixed (C:=Xb) (V:=λ(d:List Int×((Int->Prop)×(Int->Bool)))=>Zc d.1 d.2) ⟨.nil,XsOk.nil,ItsOk.nil,YlOk.nil,IysOk.nil,XfOk.nil⟩ (V6) λd hp=>h d.1 d.2 hp
theorem Q3l {l:List Int}{p:Int->Bool}{k:Nat}(hk:k<l.length) (h:p l[k]=true) (hJ:(l.take k).any p=false):Q48 l p=k:=by
 have:l.findIdx? p=some k:=by rw[List.findIdx?_eq_some_iff_getElem];refine⟨hk,h,λj hj=>?_⟩;have hn:=xM.1 hJ l[j] (List.mem_take_iff_getElem.2 ⟨j,by omega,rfl⟩);simpa using hn
 simp[Q48,this]
theorem Q3j {l:List Int}{p:Int->Bool}(hJ:l.any p=false):Q48 l p=-1:=by
 have:l.findIdx? p=none:=by rw[List.findIdx?_eq_none_iff];intro x hx;have:=xM.1 hJ x hx;simpa using this
 simp[Q48,this]
theorem FG (l:List Int) (p:Int->Bool):decide (Q48 l p>=0)=l.any p:=by
 unfold Q48;cases h:l.findIdx? p with
 |none =>
  have:=List.findIdx?_eq_none_iff.1 h;have:l.any p=false:=by rw[xM];intro x hx;simp[this x hx]
  rw[this];rfl
 |some i =>obtain⟨h1,h2,_⟩:=List.findIdx?_eq_some_iff_getElem.1 h;rw[xI.2 ⟨l[i],zl h1,h2⟩];simp
theorem KE:KS:=Kx λl p hp=>by
 unfold Zc;(try delta lI gD sT I64 J_ pj8 pj4);simp only[true_and,and_true,eq_self_iff_true,exists_eq_left',exists_const,zr,xd,zK,bne_iff_ne,ne_eq,x7,bne_eq_false_iff_eq,Bool.not_eq_true',z_,xk,xS,zf,Int.ofNat_lt,gt_iff_lt,ge_iff_le];refine LoopP.count l.length (λk=>(l.take k).any p.2=false) (by simp) λk bg hJ q hq=>?_;simp only[true_and,and_true,eq_self_iff_true,exists_eq_left',exists_const,zr,xd,zK,bne_iff_ne,ne_eq,x7,bne_eq_false_iff_eq,Bool.not_eq_true',z_,xk,xS,zf,Int.ofNat_lt,gt_iff_lt,ge_iff_le,Qd];refine⟨λai=>?_,λcy=>?_⟩
 .rw[Q9 ai];refine⟨by omega,ai,hp.2 _ (zl ai),λhx=>?_,λhx=>⟨by omega,hq ai ?_⟩⟩
  .rw[Q3l ai hx hJ]
  .rw[J1 ai,List.any_append,hJ];simp[hx]
 .rw[x3 (by omega)] at hJ;rw[Q3j hJ]
def JB:AL (List Int×((Int->Prop)×(Int->Bool))):=(.cons (.k (.list (.i .i64))) (.one (.fn [(.i .i64)] .bo)))
def Y9 (d:List Int×((Int->Prop)×(Int->Bool))):Prop:=d.1.length<=1000000/\∀ x∈d.1,d.2.1 x
def Ju (d:List Int×((Int->Prop)×(Int->Bool))):SV:=.val .bo (d.1.any d.2.2)
def Jx (d:List Int×((Int->Prop)×(Int->Bool))):List OB:=[]
def Qx:CSp:=Yo JB Y9 Ju Jx
def Zp (l:List Int) (p:(Int->Prop)×(Int->Bool)):Prop :=
 (l.length<=1000000/\∀ x∈l,(λ(x1:Int)=>p.1 x1) x)/\((decide ((Q48 l (λ(x1:Int)=>(p.2 x1)))>=(0:Int)))=(l.any p.2)/\(True))
def JD:Cx:=⟨[],[(72,ZZ)],9,[],0,[],[],[],[],false,[],[],[],[]⟩
def YG (l:List Int) (p:(Int->Prop)×(Int->Bool)):List (Nat×LoopAnn):=[]
theorem YK (d:List Int×((Int->Prop)×(Int->Bool))):gwp (JD) (YG d.1 d.2) c55 0 (K9 [.tmp 4] (Ju d) (Jx d)) (QC 9 (AL.can JB d))=Zp d.1 d.2:=by kernel_rfl
abbrev YD:Prop:=OkC Tryd.prog 55 Qx
theorem YH (h:∀ (l:List Int) (p:(Int->Prop)×(Int->Bool)),(l.length<=1000000/\∀ x∈l,p.1 x)->Zp l p):OkC Tryd.prog 55 Qx :=
 QK Q9x mixed (C:=JD) (V:=λ(d:List Int×((Int->Prop)×(Int->Bool)))=>Zp d.1 d.2) ⟨(.cons KE .nil),XsOk.nil,ItsOk.nil,YlOk.nil,IysOk.nil,XfOk.nil⟩ (YK) λd hp=>h d.1 d.2 hp
theorem Zn:YD:=YH λl p hp=>by exact⟨hp,FG l p.2,trivial⟩
def Ut:AL (Int×Int×Int):=(.cons (.k (.i .i64)) (.cons (.ptr (.one (.k (.i .i64)))) (.one (.ptr (.one (.k (.i .i64)))))))
def DT (d:Int×Int×Int):Prop:=True
def VB (d:Int×Int×Int):SV:=.val .bo (decide (d.1<d.2.1)||decide (d.2.2<d.1))
def Vi (d:Int×Int×Int):List OB:=[]
def YQ:CSp:=Yo Ut DT VB Vi
def Xp (n:Int) (a:Int) (b:Int):Prop :=
 (((decide (n<a))||(decide (n > b)))=(decide (n<a)||decide (b<n))/\(True))
def Uk:Cx:=⟨[],[],13,[],0,[],[],[],[],false,[],[],[],[]⟩
def Hl (n:Int) (a:Int) (b:Int):List (Nat×LoopAnn):=[]
theorem HL (d:Int×Int×Int):gwp (Uk) (Hl d.1 d.2.1 d.2.2) c56 0 (K9 [.tmp 4] (VB d) (Vi d)) (QC 13 (AL.can Ut d))=Xp d.1 d.2.1 d.2.2:=by kernel_rfl
abbrev Hh:Prop:=OkC Tryd.prog 56 YQ
theorem HP (h:∀ (n:Int) (a:Int) (b:Int),(True)->Xp n a b):OkC Tryd.prog 56 YQ :=
 QK Z0z mixed (C:=Uk) (V:=λ(d:Int×Int×Int)=>Xp d.1 d.2.1 d.2.2) ⟨.nil,XsOk.nil,ItsOk.nil,YlOk.nil,IysOk.nil,XfOk.nil⟩ (HL) λd hp=>h d.1 d.2.1 d.2.2 hp
theorem Hp:Hh:=HP λn a b _=>by unfold Xp;(try delta lI gD sT I64 J_ pj8 pj4);exact(by and_intros<;>first|rfl|trivial|simp)
def ME:AL (Int×Int×List Int):=(.cons (.k (.i .i64)) (.cons (.k (.i .i64)) (.one (.k (.list (.i .i64))))))
def Po (d:Int×Int×List Int):Prop:=d.2.2.length<=1000000
def Ng (d:Int×Int×List Int):SV:=.val .bo (!(d.2.2.any λn=>decide (n<d.1)||decide (d.2.1<n)))
def Nb (d:Int×Int×List Int):List OB:=[]
def Ja:CSp:=Yo ME Po Ng Nb
def WR (a:Int) (b:Int) (l:List Int):Prop :=
 (l.length<=1000000/\∀ x∈l,(λ(x1:Int)=>True) x)/\((!(l.any (λ(x1:Int)=>(decide (x1<a)||decide (b<x1)))))=(!(l.any λn=>decide (n<a)||decide (b<n)))/\(True))
def G1:Cx:=⟨[],[(55,Qx),(56,YQ)],11,[],0,[],[],[],[],false,[],[],[],[]⟩
def Ro (a:Int) (b:Int) (l:List Int):List (Nat×LoopAnn):=[]
theorem TZ (d:Int×Int×List Int):gwp (G1) (Ro d.1 d.2.1 d.2.2) c35 0 (K9 [.tmp 6] (Ng d) (Nb d)) (QC 11 (AL.can ME d))=WR d.1 d.2.1 d.2.2:=by kernel_rfl
abbrev R9:Prop:=OkC Tryd.prog 35 Ja
theorem Ry (h:∀ (a:Int) (b:Int) (l:List Int),(l.length<=1000000)->WR a b l):OkC Tryd.prog 35 Ja :=
 QK Z1x mixed (C:=G1) (V:=λ(d:Int×Int×List Int)=>WR d.1 d.2.1 d.2.2) ⟨(.cons Zn (.cons Hp .nil)),XsOk.nil,ItsOk.nil,YlOk.nil,IysOk.nil,XfOk.nil⟩ (TZ) λd hp=>h d.1 d.2.1 d.2.2 hp
theorem Xk:R9:=Ry λa b l h=>by unfold WR;(try delta lI gD sT I64 J_ pj8 pj4);exact⟨⟨h,λ_ _=>trivial⟩,rfl,trivial⟩
def Y4:AL (Int):=(.one (.k (.i .i64)))
def N4 (d:Int):Prop:=True
def Wp (d:Int):SV:=.val .bo (inI d 1 24)
def Ww (d:Int):List OB:=[]
def Qv:CSp:=Yo Y4 N4 Wp Ww
def ZM (f:Int):Prop :=
 ([f].length<=1000000)/\((!([f].any λn=>decide (n<(1:Int))||decide ((24:Int)<n)))=(inI f 1 24)/\(True))
def Y7:Cx:=⟨[(3,(.i .i64))],[(35,Ja)],6,[],0,[],[],[],[],false,[],[],[],[]⟩
def NF (f:Int):List (Nat×LoopAnn):=[]
theorem NG (d:Int):gwp (Y7) (NF d) c20 0 (K9 [.tmp 2] (Wp d) (Ww d)) (QC 6 (AL.can Y4 d))=ZM d:=by kernel_rfl
abbrev NN:Prop:=OkC Tryd.prog 20 Qv
theorem NL (h:∀ (f:Int),(True)->ZM f):OkC Tryd.prog 20 Qv :=
 QK Q9t mixed (C:=Y7) (V:=λ(d:Int)=>ZM d) ⟨(.cons Xk .nil),XsOk.nil,ItsOk.nil,YlOk.nil,IysOk.nil,XfOk.nil⟩ (NG) λd hp=>h d hp
theorem QQ:NN:=NL λf _=>by unfold ZM;(try delta lI gD sT I64 J_ pj8 pj4);have e:∀ n a b:Int,(decide (n<a)||decide (b<n))=!inI n a b:=λn a b=>(nI n a b).symm;simp only[List.any_cons,List.any_nil,xZ,e,Bool.not_not,zG,List.length_nil];exact⟨by omega,(by and_intros<;>first|rfl|trivial|simp)⟩
def Y6:AL (Int×List Int):=(.cons (.k (.i .i64)) (.one (.k (.list (.i .i64)))))
def UB (d:Int×List Int):Prop:=1<=d.1/\d.1<=24/\d.2.length<=1000000
def WM (d:Int×List Int):SV:=.val .bo (!(d.2.any λn=>!inI n 0 (2 ^ d.1.toNat-1)))
def WE (d:Int×List Int):List OB:=[]
def Zo:CSp:=Yo Y6 UB WM WE
def ZN (f:Int) (l:List Int):Prop :=
 (0<=f)/\(I64 (K0 .i64 (1:Int) f))/\(I64 ((K0 .i64 (1:Int) f)-(1:Int)))/\(l.length<=1000000)/\((!(l.any λn=>decide (n<(0:Int))||decide (((K0 .i64 (1:Int) f)-(1:Int))<n)))=(!(l.any λn=>!inI n 0 (2 ^ f.toNat-1)))/\(True))
def Y8:Cx:=⟨[],[(35,Ja)],10,[],0,[],[],[],[],false,[],[],[],[]⟩
def Ny (f:Int) (l:List Int):List (Nat×LoopAnn):=[]
theorem NB (d:Int×List Int):gwp (Y8) (Ny d.1 d.2) c21 0 (K9 [.tmp 4] (WM d) (WE d)) (QC 10 (AL.can Y6 d))=ZN d.1 d.2:=by kernel_rfl
abbrev NO:Prop:=OkC Tryd.prog 21 Zo
theorem NP (h:∀ (f:Int) (l:List Int),(1<=f/\f<=24/\l.length<=1000000)->ZN f l):OkC Tryd.prog 21 Zo :=
 QK Z28 mixed (C:=Y8) (V:=λ(d:Int×List Int)=>ZN d.1 d.2) ⟨(.cons Xk .nil),XsOk.nil,ItsOk.nil,YlOk.nil,IysOk.nil,XfOk.nil⟩ (NB) λd hp=>h d.1 d.2 hp
theorem JR:NO:=NP λf l h=>by obtain⟨h1,h2,h3⟩:=h;unfold ZN;(try delta lI gD sT I64 J_ pj8 pj4);have e:∀ n a b:Int,(decide (n<a)||decide (b<n))=!inI n a b:=λn a b=>(nI n a b).symm;obtain⟨k,rfl⟩:=zM (show 0<=f by omega);have hs:=Z5w (k:=k) (by omega);have hp:=Z0f (k:=k) (by omega);simp only[hs,e,zf,IH];exact⟨by omega,by simp only[Qd];omega,by simp only[Qd];omega,h3,(by and_intros<;>first|rfl|trivial|simp)⟩
def Xe:AL (Int):=(.one (.k (.i .u64)))
def Ka (d:Int):Prop:=0<=d/\d<=18446744073709551615
def X4 (d:Int):SV:=.val (.i .u64) ((Q4y d.toNat:Nat):Int)
def X5 (d:Int):List OB:=[]
def ZY:CSp:=Yo Xe Ka X4 X5
abbrev Ti (x:Int):=(QM .or .u64 (QM .and .u64 (JK .u64 x (8:Int)) (71777214294589695:Int)) (K0 .u64 (QM .and .u64 x (71777214294589695:Int)) (8:Int)))
abbrev Cg (x:Int):=(QM .or .u64 (QM .and .u64 (JK .u64 (Ti x) (16:Int)) (281470681808895:Int)) (K0 .u64 (QM .and .u64 (Ti x) (281470681808895:Int)) (16:Int)))
def Z9 (x:Int):Prop :=
 (0<=(8:Int))/\(0<=(8:Int))/\(InK .u64 (K0 .u64 (QM .and .u64 x (71777214294589695:Int)) (8:Int)))/\(0<=(16:Int))/\(0<=(16:Int))/\(InK .u64 (K0 .u64 (QM .and .u64 (Ti x) (281470681808895:Int)) (16:Int)))/\(0<=(32:Int))/\(0<=(32:Int))/\((QM .or .u64 (JK .u64 (Cg x) (32:Int)) (IntKind.wrap .u64 (K0 .u64 (Cg x) (32:Int))))=((Q4y x.toNat:Nat):Int)/\(True))
def Xh:Cx:=⟨[],[],22,[20],0,[],[],[],[],false,[],[],[],[]⟩
def KW (x:Int):List (Nat×LoopAnn):=[]
theorem KA (d:Int):gwp (Xh) (KW d) c92 0 (K9 [.tmp 2] (X4 d) (X5 d)) (QC 22 (AL.can Xe d))=Z9 d:=by kernel_rfl
abbrev KY:Prop:=OkC Tryd.prog 92 ZY
theorem Va (h:∀ (x:Int),(0<=x/\x<=18446744073709551615)->Z9 x):OkC Tryd.prog 92 ZY :=
 QK Z06 mixed (C:=Xh) (V:=λ(d:Int)=>Z9 d) ⟨.nil,XsOk.nil,ItsOk.nil,YlOk.nil,IysOk.nil,XfOk.nil⟩ (KA) λd hp=>h d hp
theorem KD:KY:=Va λx h=>by
 obtain⟨h1,h2⟩:=h;unfold Z9;(try delta Ti Cg);(try delta lI gD sT I64 J_ pj8 pj4);obtain⟨n,rfl⟩:=zM h1;have hn:n<2 ^ 64:=by omega
 obtain⟨a1,a2,a3⟩:=sw8 hn;obtain⟨b1,b2,b3⟩:=Z64 a3;have c1:=Z5t b3;simp only[a1,b1,c1,zf];refine⟨by omega,by omega,a2,by omega,by omega,b2,by omega,by omega,?_⟩;exact(by and_intros<;>first|rfl|trivial|simp)
def WT:AL (Int):=(.one (.k (.i .u64)))
def Uy (d:Int):Prop:=0<=d/\d<=18446744073709551615
def WG (d:Int):SV:=.val (.i .u64) ((C8 64 d.toNat:Nat):Int)
def WH (d:Int):List OB:=[]
def Xi:CSp:=Yo WT Uy WG WH
abbrev T5 (x:Int):=(QM .or .u64 (QM .and .u64 (JK .u64 (QM .or .u64 (QM .and .u64 (JK .u64 x (1:Int)) (6148914691236517205:Int)) (K0 .u64 (QM .and .u64 x (6148914691236517205:Int)) (1:Int))) (2:Int)) (3689348814741910323:Int)) (K0 .u64 (QM .and .u64 (QM .or .u64 (QM .and .u64 (JK .u64 x (1:Int)) (6148914691236517205:Int)) (K0 .u64 (QM .and .u64 x (6148914691236517205:Int)) (1:Int))) (3689348814741910323:Int)) (2:Int)))
abbrev Tf (x:Int):=(QM .or .u64 (QM .and .u64 (JK .u64 (T5 x) (4:Int)) (1085102592571150095:Int)) (K0 .u64 (QM .and .u64 (T5 x) (1085102592571150095:Int)) (4:Int)))
def ZO (x:Int):Prop :=
 (0<=(1:Int))/\(0<=(1:Int))/\(InK .u64 (K0 .u64 (QM .and .u64 x (6148914691236517205:Int)) (1:Int)))/\(0<=(2:Int))/\(0<=(2:Int))/\(InK .u64 (K0 .u64 (QM .and .u64 (QM .or .u64 (QM .and .u64 (JK .u64 x (1:Int)) (6148914691236517205:Int)) (K0 .u64 (QM .and .u64 x (6148914691236517205:Int)) (1:Int))) (3689348814741910323:Int)) (2:Int)))/\(0<=(4:Int))/\(0<=(4:Int))/\(InK .u64 (K0 .u64 (QM .and .u64 (T5 x) (1085102592571150095:Int)) (4:Int)))/\(0<=(Tf x)/\(Tf x)<=18446744073709551615)/\(((Q4y (Tf x).toNat:Nat):Int)=((C8 64 x.toNat:Nat):Int)/\(True))
def WW:Cx:=⟨[],[(92,ZY)],26,[],0,[],[],[],[],false,[],[],[],[]⟩
def NT (x:Int):List (Nat×LoopAnn):=[]
theorem NC (d:Int):gwp (WW) (NT d) c73 0 (K9 [.tmp 2] (WG d) (WH d)) (QC 26 (AL.can WT d))=ZO d:=by kernel_rfl
abbrev Nw:Prop:=OkC Tryd.prog 73 Xi
theorem NU (h:∀ (x:Int),(0<=x/\x<=18446744073709551615)->ZO x):OkC Tryd.prog 73 Xi :=
 QK Z0i mixed (C:=WW) (V:=λ(d:Int)=>ZO d) ⟨(.cons KD .nil),XsOk.nil,ItsOk.nil,YlOk.nil,IysOk.nil,XfOk.nil⟩ (NC) λd hp=>h d hp
theorem ND:Nw:=NU λx h=>by
 obtain⟨h1,h2⟩:=h;unfold ZO;(try delta T5 Tf);(try delta lI gD sT I64 J_ pj8 pj4);obtain⟨n,rfl⟩:=zM h1;have hn:n<2 ^ 64:=by omega
 obtain⟨a1,a2,a3⟩:=sw1 hn;obtain⟨b1,b2,b3⟩:=sw2 a3;obtain⟨c1,c2,c3⟩:=sw4 b3;have hr:=Z3r hn;have he:Uv 4 1085102592571150095 (Uv 2 3689348814741910323 (Uv 1 6148914691236517205 n))=Z03 n:=rfl;simp only[a1,b1,c1,zf];rw[he,hr];rw[he] at c3;refine⟨by omega,by omega,a2,by omega,by omega,b2,by omega,by omega,c2,⟨by omega,by omega⟩,?_⟩;exact(by and_intros<;>first|rfl|trivial|simp)
def YL:AL (Int×Int):=(.cons (.k (.i .i64)) (.one (.k (.i .i64))))
def NV (d:Int×Int):Prop:=1<=d.1/\d.1<=24/\0<=d.2/\d.2<2 ^ d.1.toNat
def Y0 (d:Int×Int):SV:=.val (.i .i64) (Z1j d.1 d.2)
def WX (d:Int×Int):List OB:=[]
def XF:CSp:=Yo YL NV Y0 WX
def J2 (f:Int) (r:Int):Prop :=
 (InK .u64 r)/\(0<=r/\r<=18446744073709551615)/\(InK .u64 f)/\(InK .u64 ((64:Int)-f))/\(0<=((64:Int)-f))/\(I64 (JK .u64 ((C8 64 r.toNat:Nat):Int) ((64:Int)-f)))/\((JK .u64 ((C8 64 r.toNat:Nat):Int) ((64:Int)-f))=(Z1j f r)/\(True))
def YJ:Cx:=⟨[],[(73,Xi)],13,[],0,[],[],[],[],false,[],[],[],[]⟩
def MH (f:Int) (r:Int):List (Nat×LoopAnn):=[]
theorem MU (d:Int×Int):gwp (YJ) (MH d.1 d.2) c57 0 (K9 [.tmp 4] (Y0 d) (WX d)) (QC 13 (AL.can YL d))=J2 d.1 d.2:=by kernel_rfl
abbrev Mc:Prop:=OkC Tryd.prog 57 XF
theorem Mp (h:∀ (f:Int) (r:Int),(1<=f/\f<=24/\0<=r/\r<2 ^ f.toNat)->J2 f r):OkC Tryd.prog 57 XF :=
 QK Z1f mixed (C:=YJ) (V:=λ(d:Int×Int)=>J2 d.1 d.2) ⟨(.cons ND .nil),XsOk.nil,ItsOk.nil,YlOk.nil,IysOk.nil,XfOk.nil⟩ (MU) λd hp=>h d.1 d.2 hp
theorem Mj:Mc:=Mp λf r h=>by
 obtain⟨h1,h2,h3,h4⟩:=h;unfold J2;(try delta lI gD sT I64 J_ pj8 pj4);obtain⟨k,rfl⟩:=zM (show 0<=f by omega);obtain⟨n,rfl⟩:=zM h3;simp only[zf,IH] at h4;have hp:=Z0f (k:=k) (by omega);have h4:n<2 ^ k:=by omega
 have hs:JK .u64 ((C8 64 n:Nat):Int) (64-(k:Int))=((C8 k n:Nat):Int):=by rw[show (64-(k:Int))=((64-k:Nat):Int) by omega,Z3h (by omega),Q0w (by omega) h4]
 have hl:=Q2b k n;simp only[zf,hs];refine⟨by simp only[Hj];omega,⟨by omega,by omega⟩,by simp only[Hj];omega,by simp only[Hj];omega,by omega,by simp only[Qd];omega,?_⟩;exact⟨by unfold Z1j;simp only[zf],trivial⟩
def XH:AL ((Int×Int×Bool)×Int):=(.cons (.agg (.cons (.k (.i .i64)) (.cons (.k (.i .i64)) (.one (.k .bo))))) (.one (.ptr (.one (.k (.i .i64))))))
def Vf (d:(Int×Int×Bool)×Int):Prop:=1<=d.2/\d.2<=24
def XE (d:(Int×Int×Bool)×Int):SV:=.val .bo (!Zb d.2 (d.1.1,(d.1.2.1,d.1.2.2)))
def XD (d:(Int×Int×Bool)×Int):List OB:=[]
def Js:CSp:=Yo XH Vf XE XD
def Zk (cn:Int) (cr:Int) (ct:Bool) (f:Int):Prop :=
 ([cn].length<=1000000)/\((!(!([cn].any λn=>decide (n<(-1:Int))||decide ((59:Int)<n))))=false->True)/\((!(!([cn].any λn=>decide (n<(-1:Int))||decide ((59:Int)<n))))=false->1<=f/\f<=24/\[cr].length<=1000000)/\(((!(!([cn].any λn=>decide (n<(-1:Int))||decide ((59:Int)<n))))||(!(!([cr].any λn=>!inI n 0 (2 ^ f.toNat-1)))))=(!Zb f (cn,(cr,ct)))/\(True))
def XK:Cx:=⟨[(3,(.i .i64))],[(35,Ja),(21,Zo)],17,[],0,[],[],[],[],false,[],[],[],[]⟩
def VS (cn:Int) (cr:Int) (ct:Bool) (f:Int):List (Nat×LoopAnn):=[]
theorem VJ (d:(Int×Int×Bool)×Int):gwp (XK) (VS d.1.1 d.1.2.1 d.1.2.2 d.2) c70 0 (K9 [.tmp 3] (XE d) (XD d)) (QC 17 (AL.can XH d))=Zk d.1.1 d.1.2.1 d.1.2.2 d.2:=by kernel_rfl
abbrev VK:Prop:=OkC Tryd.prog 70 Js
theorem VN (h:∀ (cn:Int) (cr:Int) (ct:Bool) (f:Int),(1<=f/\f<=24)->Zk cn cr ct f):OkC Tryd.prog 70 Js :=
 QK Z01 mixed (C:=XK) (V:=λ(d:(Int×Int×Bool)×Int)=>Zk d.1.1 d.1.2.1 d.1.2.2 d.2) ⟨(.cons Xk (.cons JR .nil)),XsOk.nil,ItsOk.nil,YlOk.nil,IysOk.nil,XfOk.nil⟩ (VJ) λd hp=>h d.1.1 d.1.2.1 d.1.2.2 d.2 hp
theorem VI:VK:=VN λcn cr ct f h=>by obtain⟨h1,h2⟩:=h;unfold Zk;(try delta lI gD sT I64 J_ pj8 pj4);have e:∀ n a b:Int,(decide (n<a)||decide (b<n))=!inI n a b:=λn a b=>(nI n a b).symm;simp only[List.any_cons,List.any_nil,xZ,e,Bool.not_not,zG,List.length_nil];refine⟨by omega,λ_=>trivial,λ_=>⟨h1,h2,by omega⟩,?_⟩;unfold Zb;rw[Bool.not_and];exact(by and_intros<;>first|rfl|trivial|simp)
def QU:AL ((List (Int×Int×Bool))×((Int×Int×Bool->Prop)×(Int×Int×Bool->Bool))):=(.cons (.k (.list (.pair (.i .i64) (.pair (.i .i64) .bo)))) (.one (.fn [(.pair (.i .i64) (.pair (.i .i64) .bo))] .bo)))
def J3 (d:(List (Int×Int×Bool))×((Int×Int×Bool->Prop)×(Int×Int×Bool->Bool))):Prop:=d.1.length<=1000000/\∀ x∈d.1,d.2.1 x
def QP (d:(List (Int×Int×Bool))×((Int×Int×Bool->Prop)×(Int×Int×Bool->Bool))):SV:=.val (.i .i64) (Q21 d.1 d.2.2)
def QN (d:(List (Int×Int×Bool))×((Int×Int×Bool->Prop)×(Int×Int×Bool->Bool))):List OB:=[]
def Qp:CSp:=Yo QU J3 QP QN
def Qe (l:List (Int×Int×Bool)) (p:(Int×Int×Bool->Prop)×(Int×Int×Bool->Bool)):Prop :=
 ∃ (e2:Unit) (d20:Int),((l=l/\(SV.pf [(.pair (.i .i64) (.pair (.i .i64) .bo))] .bo p.1 p.2=SV.pf [(.pair (.i .i64) (.pair (.i .i64) .bo))] .bo p.1 p.2)/\(lI l)=(lI l)/\(0:Int)=d20/\True)/\(True)) /\
 LoopP (λ(d2:Int) (q2:(Int)->Prop) =>
  ((decide (d2<(lI l)))=true ->
   (0<=d2)/\(d2<(List.length l))/\(p.1 ((gD l d2 (0,(0,false))).1,((gD l d2 (0,(0,false))).2.1,(gD l d2 (0,(0,false))).2.2)))/\((p.2 ((gD l d2 (0,(0,false))).1,((gD l d2 (0,(0,false))).2.1,(gD l d2 (0,(0,false))).2.2)))=true ->
    (d2=(Q21 l p.2)/\(True))) /\
   ((p.2 ((gD l d2 (0,(0,false))).1,((gD l d2 (0,(0,false))).2.1,(gD l d2 (0,(0,false))).2.2)))=false ->
    (I64 (d2+(1:Int)))/\(∃ d3:Int,((l=l/\(SV.pf [(.pair (.i .i64) (.pair (.i .i64) .bo))] .bo p.1 p.2=SV.pf [(.pair (.i .i64) (.pair (.i .i64) .bo))] .bo p.1 p.2)/\(lI l)=(lI l)/\(d2+(1:Int))=d3/\True)/\(True))/\q2 d3))) /\
  ((decide (d2<(lI l)))=false ->
   ((-1:Int)=(Q21 l p.2)/\(True)))) d20
def QR:Cx:=⟨[],[],19,[],0,[],[],[],[],false,[],[],[],[]⟩
def J9 (l:List (Int×Int×Bool)) (p:(Int×Int×Bool->Prop)×(Int×Int×Bool->Bool)):List (Nat×LoopAnn):=[(0,⟨Unit,Int,[0,1,7,8],λe x=>[.val (.list (.pair (.i .i64) (.pair (.i .i64) .bo))) l,.pf [(.pair (.i .i64) (.pair (.i .i64) .bo))] .bo p.1 p.2,.val (.i .i64) (((List.length l):Nat):Int),.val (.i .i64) x],λe x=>[]⟩)]
theorem Jd (d:(List (Int×Int×Bool))×((Int×Int×Bool->Prop)×(Int×Int×Bool->Bool))):gwp (QR) (J9 d.1 d.2) c91 0 (K9 [.tmp 4] (QP d) (QN d)) (QC 19 (AL.can QU d))=Qe d.1 d.2:=by kernel_rfl
abbrev J8:Prop:=OkC Tryd.prog 91 Qp
theorem Je (h:∀ (l:List (Int×Int×Bool)) (p:(Int×Int×Bool->Prop)×(Int×Int×Bool->Bool)),(l.length<=1000000/\∀ x∈l,p.1 x)->Qe l p):OkC Tryd.prog 91 Qp :=
 QK Z0j mixed (C:=QR) (V:=λ(d:(List (Int×Int×Bool))×((Int×Int×Bool->Prop)×(Int×Int×Bool->Bool)))=>Qe d.1 d.2) ⟨.nil,XsOk.nil,ItsOk.nil,YlOk.nil,IysOk.nil,XfOk.nil⟩ (Jd) λd hp=>h d.1 d.2 hp
theorem Jf:J8:=Je λl p hp=>by
 unfold Qe;(try delta lI gD sT I64 J_ pj8 pj4);simp only[true_and,and_true,eq_self_iff_true,exists_eq_left',exists_const,zr,xd,zK,bne_iff_ne,ne_eq,x7,bne_eq_false_iff_eq,Bool.not_eq_true',z_,xk,xS,zf,Int.ofNat_lt,gt_iff_lt,ge_iff_le];refine LoopP.count l.length (λk=>(l.take k).any p.2=false) (by simp) λk bg hJ q hq=>?_;simp only[true_and,and_true,eq_self_iff_true,exists_eq_left',exists_const,zr,xd,zK,bne_iff_ne,ne_eq,x7,bne_eq_false_iff_eq,Bool.not_eq_true',z_,xk,xS,zf,Int.ofNat_lt,gt_iff_lt,ge_iff_le,Qd];refine⟨λai=>?_,λcy=>?_⟩
 .have ai:k<l.length:=by omega
  rw[Q9 ai];refine⟨by omega,by omega,hp.2 _ (zl ai),λhx=>?_,λhx=>⟨by omega,hq ai ?_⟩⟩
  .rw[Q2r ai hx hJ]
  .rw[J1 ai,List.any_append,hJ];simp[hx]
 .rw[x3 (by omega)] at hJ;rw[Ex hJ]
def QJ:AL ((List (Int×Int×Bool))×((Int×Int×Bool->Prop)×(Int×Int×Bool->Bool))):=(.cons (.k (.list (.pair (.i .i64) (.pair (.i .i64) .bo)))) (.one (.fn [(.pair (.i .i64) (.pair (.i .i64) .bo))] .bo)))
def ZK (d:(List (Int×Int×Bool))×((Int×Int×Bool->Prop)×(Int×Int×Bool->Bool))):Prop:=d.1.length<=1000000/\∀ x∈d.1,d.2.1 x
def QH (d:(List (Int×Int×Bool))×((Int×Int×Bool->Prop)×(Int×Int×Bool->Bool))):SV:=.val .bo (d.1.any d.2.2)
def QG (d:(List (Int×Int×Bool))×((Int×Int×Bool->Prop)×(Int×Int×Bool->Bool))):List OB:=[]
def Ql:CSp:=Yo QJ ZK QH QG
def Qb (l:List (Int×Int×Bool)) (p:(Int×Int×Bool->Prop)×(Int×Int×Bool->Bool)):Prop :=
 (l.length<=1000000/\∀ x∈l,(λ(x1:Int×Int×Bool)=>p.1 (x1.1,(x1.2.1,x1.2.2))) x)/\((decide ((Q21 l (λ(x1:Int×Int×Bool)=>(p.2 (x1.1,(x1.2.1,x1.2.2)))))>=(0:Int)))=(l.any p.2)/\(True))
def QI:Cx:=⟨[],[(91,Qp)],9,[],0,[],[],[],[],false,[],[],[],[]⟩
def ZU (l:List (Int×Int×Bool)) (p:(Int×Int×Bool->Prop)×(Int×Int×Bool->Bool)):List (Nat×LoopAnn):=[]
theorem ZT (d:(List (Int×Int×Bool))×((Int×Int×Bool->Prop)×(Int×Int×Bool->Bool))):gwp (QI) (ZU d.1 d.2) c71 0 (K9 [.tmp 4] (QH d) (QG d)) (QC 9 (AL.can QJ d))=Qb d.1 d.2:=by kernel_rfl
abbrev ZW:Prop:=OkC Tryd.prog 71 Ql
theorem ZV (h:∀ (l:List (Int×Int×Bool)) (p:(Int×Int×Bool->Prop)×(Int×Int×Bool->Bool)),(l.length<=1000000/\∀ x∈l,p.1 x)->Qb l p):OkC Tryd.prog 71 Ql :=
 QK Z0l mixed (C:=QI) (V:=λ(d:(List (Int×Int×Bool))×((Int×Int×Bool->Prop)×(Int×Int×Bool->Bool)))=>Qb d.1 d.2) ⟨(.cons Jf .nil),XsOk.nil,ItsOk.nil,YlOk.nil,IysOk.nil,XfOk.nil⟩ (ZT) λd hp=>h d.1 d.2 hp
theorem ZS:ZW:=ZV λl p hp=>by simp only[Qb];exact⟨hp,Q6a l p.2,trivial⟩
def WK:AL (Int×List (Int×Int×Bool)):=(.cons (.k (.i .i64)) (.one (.k (.list (.pair (.i .i64) (.pair (.i .i64) .bo))))))
def U4 (d:Int×List (Int×Int×Bool)):Prop:=1<=d.1/\d.1<=24/\d.2.length<=1000000
def Wd (d:Int×List (Int×Int×Bool)):SV:=.val .bo (!d.2.isEmpty&&!(d.2.any λc=>!Zb d.1 c))
def Wc (d:Int×List (Int×Int×Bool)):List OB:=[]
def QD:CSp:=Yo WK U4 Wd Wc
def ZB (f:Int) (cs:List (Int×Int×Bool)):Prop :=
 ((decide ((lI cs) > (0:Int)))=true->cs.length<=1000000/\∀ x∈cs,(λ(x1:Int×Int×Bool)=>1<=f/\f<=24) x)/\(((decide ((lI cs) > (0:Int)))&&(!(cs.any (λ(x1:Int×Int×Bool)=>(!Zb f (x1.1,(x1.2.1,x1.2.2)))))))=(!cs.isEmpty&&!(cs.any λc=>!Zb f c))/\(True))
def WQ:Cx:=⟨[],[(71,Ql),(70,Js)],16,[],0,[],[],[],[],false,[],[],[],[]⟩
def Na (f:Int) (cs:List (Int×Int×Bool)):List (Nat×LoopAnn):=[]
theorem UA (d:Int×List (Int×Int×Bool)):gwp (WQ) (Na d.1 d.2) c54 0 (K9 [.tmp 4] (Wd d) (Wc d)) (QC 16 (AL.can WK d))=ZB d.1 d.2:=by kernel_rfl
abbrev N2:Prop:=OkC Tryd.prog 54 QD
theorem N0 (h:∀ (f:Int) (cs:List (Int×Int×Bool)),(1<=f/\f<=24/\cs.length<=1000000)->ZB f cs):OkC Tryd.prog 54 QD :=
 QK Z0n mixed (C:=WQ) (V:=λ(d:Int×List (Int×Int×Bool))=>ZB d.1 d.2) ⟨(.cons ZS (.cons VI .nil)),XsOk.nil,ItsOk.nil,YlOk.nil,IysOk.nil,XfOk.nil⟩ (UA) λd hp=>h d.1 d.2 hp
theorem Za:N2:=N0 λf cs h=>by
 obtain⟨h1,h2,h3⟩:=h;unfold ZB;(try delta lI gD sT I64 J_ pj8 pj4);refine⟨λ_=>⟨h3,λ_ _=>⟨h1,h2⟩⟩,?_⟩;have:decide ((cs.length:Int) > 0)=!cs.isEmpty:=by cases cs<;>simp
 rw[this];exact(by and_intros<;>first|rfl|trivial|simp)
def BU:Cx:=⟨[],[(20,Qv),(54,QD)],30,[],0,[],[],[],[],false,[],[],[],[]⟩
def YE:XSp:=Q4c BU (λ_=>[]) c34 [.cell 2 true 3,.tmp 3] 30
theorem YB:XOk Tryd.prog 34 YE:=US Z1c mixed (C:=BU) ⟨(.cons QQ (.cons Za .nil)),XsOk.nil,ItsOk.nil,YlOk.nil,IysOk.nil,XfOk.nil⟩ _
def GI:AL (Int×List Int):=(.one (.agg (.cons (.k (.i .i64)) (.one (.k (.list (.i .i64)))))))
def RU (d:Int×List Int):Prop:=d.2.length<=1000
def Mu (d:Int×List Int):SV:=.tup [.agg [.val (.i .i64) (Ve d.1 d.2),.lst 0],.val (.i .i64) (Wk d.1 d.2)]
def NY (d:Int×List Int):List OB:=[.lst 40 (.pair (.i .i64) (.pair (.i .i64) .bo)) (BG d.1 d.2) ((BG d.1 d.2).isEmpty)]
def UL:CSp:=Yo GI RU Mu NY
def Yt (hk:Int) (rows:List Int):Prop :=
 (True)/\((!(inI hk 1 24))=true ->
  ((((0:Int)=(Ve hk rows)/\True/\(([]:List SV)=[]))/\(2:Int)=(Wk hk rows)/\(([]:List SV)=[]))/\(((BG hk rows)=[]/\(BG hk rows).isEmpty=true)/\True))) /\
 ((!(inI hk 1 24))=false ->
  ((decide ((lI rows) > (60:Int)))=true ->
   ((((0:Int)=(Ve hk rows)/\True/\(([]:List SV)=[]))/\(5:Int)=(Wk hk rows)/\(([]:List SV)=[]))/\(((BG hk rows)=[]/\(BG hk rows).isEmpty=true)/\True))) /\
  ((decide ((lI rows) > (60:Int)))=false ->
   (((lI rows)==(0:Int))=true ->
    ((((0:Int)=(Ve hk rows)/\True/\(([]:List SV)=[]))/\(7:Int)=(Wk hk rows)/\(([]:List SV)=[]))/\(((BG hk rows)=[]/\(BG hk rows).isEmpty=true)/\True))) /\
   (((lI rows)==(0:Int))=false ->
    (1<=hk/\hk<=24/\rows.length<=1000000)/\((!(!(rows.any λn=>!inI n 0 (2 ^ hk.toNat-1))))=true ->
     ((((0:Int)=(Ve hk rows)/\True/\(([]:List SV)=[]))/\(2:Int)=(Wk hk rows)/\(([]:List SV)=[]))/\(((BG hk rows)=[]/\(BG hk rows).isEmpty=true)/\True))) /\
    ((!(!(rows.any λn=>!inI n 0 (2 ^ hk.toNat-1))))=false ->
     ∃ (e4:Unit) (d40:(List (Int×Int×Bool))×Int),((True/\rows=rows/\(lI rows)=(lI rows)/\(0:Int)=d40.2/\True)/\((hk=hk/\True/\(([]:List SV)=[]))/\(d40.1=[]/\(List.isEmpty d40.1)=true)/\True)) /\
     LoopP (λ(d4:(List (Int×Int×Bool))×Int) (q4:((List (Int×Int×Bool))×Int)->Prop) =>
      ((decide (d4.2<(lI rows)))=true ->
       (0<=d4.2)/\(d4.2<(List.length rows))/\(((List.length d4.1)+(List.length [(d4.2,((gD rows d4.2 0),false))]))*24<=70368744177664)/\(I64 (d4.2+(1:Int)))/\(∃ d5:(List (Int×Int×Bool))×Int,((True/\rows=rows/\(lI rows)=(lI rows)/\(d4.2+(1:Int))=d5.2/\True)/\((hk=hk/\True/\(([]:List SV)=[]))/\((d4.1++[(d4.2,((gD rows d4.2 0),false))])=d5.1/\false=(List.isEmpty d5.1))/\True))/\q4 d5)) /\
      ((decide (d4.2<(lI rows)))=false ->
       (((hk=(Ve hk rows)/\True/\(([]:List SV)=[]))/\(0:Int)=(Wk hk rows)/\(([]:List SV)=[]))/\((d4.1=(BG hk rows)/\(List.isEmpty d4.1)=(BG hk rows).isEmpty)/\True)))) d40))))
def GA:Cx:=⟨[(40,(.pair (.i .i64) (.pair (.i .i64) .bo)))],[(20,Qv),(21,Zo)],54,[],0,[],[],[],[],false,[],[],[],[]⟩
def SO (hk:Int) (rows:List Int):List (Nat×LoopAnn):=[(1,⟨Unit,(List (Int×Int×Bool))×Int,[2,37,38,39],λe x=>[.box 2 0,.val (.list (.i .i64)) rows,.val (.i .i64) (((List.length rows):Nat):Int),.val (.i .i64) x.2],λe x=>[(2,.slot 2,.cells [.val (.i .i64) hk,.lst 50] (some 34)),(50,.cell 2 1,.lst 40 (.pair (.i .i64) (.pair (.i .i64) .bo)) x.1 (List.isEmpty x.1))]⟩)]
theorem Lm (d:Int×List Int):gwp (GA) (SO d.1 d.2) c7 0 (K9 [.cell 2 true 2,.tmp 3] (Mu d) (NY d)) (QC 54 (AL.can GI d))=Yt d.1 d.2:=by kernel_rfl
abbrev La:Prop:=OkC Tryd.prog 7 UL
theorem SK (h:∀ (hk:Int) (rows:List Int),(rows.length<=1000)->Yt hk rows):OkC Tryd.prog 7 UL :=
 QK Z5d mixed (C:=GA) (V:=λ(d:Int×List Int)=>Yt d.1 d.2) ⟨(.cons QQ (.cons JR .nil)),XsOk.nil,ItsOk.nil,YlOk.nil,IysOk.nil,XfOk.nil⟩ (Lm) λd hp=>h d.1 d.2 hp
theorem SA:La:=SK λhk rows h=>by
 unfold Yt;(try delta lI gD sT I64 J_ pj8 pj4);simp only[true_and,and_true,Bool.not_not];refine⟨λc=>?_,λc=>⟨λc2=>?_,λc2=>⟨λc3=>?_,λc3=>⟨?_,λc4=>?_,λc4=>?_⟩⟩⟩⟩
 .exact Cf (by unfold Wk;rw[z6 c]) (by omega)
 .have c2:=zk c2;exact Cf (by unfold Wk;rw[z0 (by rw[c];decide),z6 (by omega)]) (by omega)
 .have c2:=zj c2;have c3:rows=[]:=List.eq_nil_of_length_eq_zero (by have:=zk c3;omega);exact Cf (by unfold Wk;rw[z0 (by rw[c];decide),z0 (by omega),z6 c3]) (by omega)
 .have c:=P6 c;exact⟨c.1,c.2,by omega⟩
 .have c2:=zj c2;have c3:rows≠[]:=λe=>by rw[e] at c3;cases c3
  exact Cf (by unfold Wk;rw[z0 (by rw[c];decide),z0 (by omega),z0 c3,z6 c4]) (by omega)
 .have c2:=zj c2;have c3:rows≠[]:=λe=>by rw[e] at c3;cases c3
  have e0:Wk hk rows=0:=by unfold Wk;rw[z0 (by rw[c];decide),z0 (by omega),z0 c3,z0 (by rw[c4];decide)]
  have e1:Ve hk rows=hk:=by unfold Ve;rw[z6 e0]
  have e2:BG hk rows=Rx rows:=by unfold BG;rw[z6 e0]
  rw[e0,e1,e2];refine⟨(),([],0),(by and_intros<;>first|rfl|trivial),?_⟩;refine LoopP.count2 rows.length (λk l=>l=Q86 rows k) rfl ?_;rintro k l hk hJ q hq;subst hJ;dsimp only;simp only[zf];refine⟨λg=>?_,λg=>?_⟩
  .have g:k<rows.length:=by have:=zk g;omega
   have hl:=Q5c rows k;refine⟨by omega,by omega,by simp only[zG,List.length_nil];omega,by simp only[Qd];omega,(Q86 rows (k+1),(k:Int)+1),?_,hq _ g rfl⟩;rw[Q2x];and_intros<;>first|rfl|trivial|simp
  .have g:k=rows.length:=by have:=zj g;omega
   subst g;exact(by and_intros<;>first|rfl|trivial|simp)
def KI:AL ((Int×(List (Int×Int×Bool))×Int)×Int):=(.cons (.agg (.cons (.k (.i .i64)) (.cons (.k (.list (.pair (.i .i64) (.pair (.i .i64) .bo)))) (.one (.k (.i .i64)))))) (.one (.k (.i .i64))))
def Gq (d:(Int×(List (Int×Int×Bool))×Int)×Int):Prop:=1<=d.1.2.2/\d.1.2.2<=24/\0<=d.2/\d.2<d.1.2.1.length/\∀ c∈d.1.2.1,Zb d.1.2.2 c=true
def YZ (d:(Int×(List (Int×Int×Bool))×Int)×Int):SV:=.val (.i .i64) (G0 d.1.2.2 (d.1.2.1.getD d.2.toNat Z_))
def K1 (d:(Int×(List (Int×Int×Bool))×Int)×Int):List OB:=[]
def X3:CSp:=Yo KI Gq YZ K1
def JG (hk:Int) (cs:List (Int×Int×Bool)) (f:Int) (at_:Int):Prop :=
 (0<=at_)/\(at_<(List.length cs))/\((gD cs at_ (0,(0,false))).2.2=true ->
  (1<=f/\f<=24/\0<=((gD cs at_ (0,(0,false))).2.1)/\((gD cs at_ (0,(0,false))).2.1)<2 ^ f.toNat)/\((Z1j f ((gD cs at_ (0,(0,false))).2.1))=(G0 f (cs.getD at_.toNat Z_))/\(True))) /\
 ((gD cs at_ (0,(0,false))).2.2=false ->
  (0<=at_)/\(at_<(List.length cs))/\((gD cs at_ (0,(0,false))).2.1=(G0 f (cs.getD at_.toNat Z_))/\(True)))
def Kz:Cx:=⟨[],[(57,XF)],26,[],0,[],[],[],[],false,[],[],[],[]⟩
def Dx (hk:Int) (cs:List (Int×Int×Bool)) (f:Int) (at_:Int):List (Nat×LoopAnn):=[]
theorem Dh (d:(Int×(List (Int×Int×Bool))×Int)×Int):gwp (Kz) (Dx d.1.1 d.1.2.1 d.1.2.2 d.2) c36 0 (K9 [.tmp 4] (YZ d) (K1 d)) (QC 26 (AL.can KI d))=JG d.1.1 d.1.2.1 d.1.2.2 d.2:=by kernel_rfl
abbrev DA:Prop:=OkC Tryd.prog 36 X3
theorem Dw (h:∀ (hk:Int) (cs:List (Int×Int×Bool)) (f:Int) (at_:Int),(1<=f/\f<=24/\0<=at_/\at_<cs.length/\∀ c∈cs,Zb f c=true)->JG hk cs f at_):OkC Tryd.prog 36 X3 :=
 QK Z2l mixed (C:=Kz) (V:=λ(d:(Int×(List (Int×Int×Bool))×Int)×Int)=>JG d.1.1 d.1.2.1 d.1.2.2 d.2) ⟨(.cons Mj .nil),XsOk.nil,ItsOk.nil,YlOk.nil,IysOk.nil,XfOk.nil⟩ (Dh) λd hp=>h d.1.1 d.1.2.1 d.1.2.2 d.2 hp
theorem Vc:DA:=Dw λhk cs f at_ h=>by
 obtain⟨h1,h2,h3,h4,h5⟩:=h;unfold JG;(try delta lI gD sT I64 J_ pj8 pj4);have hd:∀ j,cs.getD j (0,(0,false))=cs.getD j Z_:=λ_=>rfl;have hj:at_.toNat<cs.length:=by omega
 have hc:=Oq (h5 _ (show cs.getD at_.toNat Z_∈cs by rw[Q9 hj];exact zl hj));simp only[hd,and_true];refine⟨h3,by omega,λc=>⟨⟨h1,h2,hc.1,hc.2⟩,?_⟩,λc=>⟨h3,by omega,?_⟩⟩
 .unfold G0;rw[z6 c]
 .unfold G0;rw[z0 (by rw[c];decide)]
def KN:AL ((Int×(List (Int×Int×Bool))×Int)×Int×Int):=(.cons (.agg (.cons (.k (.i .i64)) (.cons (.k (.list (.pair (.i .i64) (.pair (.i .i64) .bo)))) (.one (.k (.i .i64)))))) (.cons (.k (.i .i64)) (.one (.k (.i .i64)))))
def Gr (d:(Int×(List (Int×Int×Bool))×Int)×Int×Int):Prop:=d.1.2.1≠[]/\d.1.2.1.length<=1000/\-1000000<=d.2.1/\d.2.1<=1000000/\-1000000<=d.2.2/\d.2.2<=1000000
def YW (d:(Int×(List (Int×Int×Bool))×Int)×Int×Int):SV:=.val (.i .i64) (Int.tmod (d.2.1+d.2.2) d.1.2.1.length)
def YX (d:(Int×(List (Int×Int×Bool))×Int)×Int×Int):List OB:=[]
def J5:CSp:=Yo KN Gr YW YX
def JJ (hk:Int) (cs:List (Int×Int×Bool)) (f:Int) (at_:Int) (st:Int):Prop :=
 (I64 (at_+st))/\((lI cs)≠0)/\((Int.tmod (at_+st) (lI cs))=(Int.tmod (at_+st) cs.length)/\(True))
def KX:Cx:=⟨[],[],15,[],0,[],[],[],[],false,[],[],[],[]⟩
def Dy (hk:Int) (cs:List (Int×Int×Bool)) (f:Int) (at_:Int) (st:Int):List (Nat×LoopAnn):=[]
theorem Dr (d:(Int×(List (Int×Int×Bool))×Int)×Int×Int):gwp (KX) (Dy d.1.1 d.1.2.1 d.1.2.2 d.2.1 d.2.2) c37 0 (K9 [.tmp 6] (YW d) (YX d)) (QC 15 (AL.can KN d))=JJ d.1.1 d.1.2.1 d.1.2.2 d.2.1 d.2.2:=by kernel_rfl
abbrev Dn:Prop:=OkC Tryd.prog 37 J5
theorem Dt (h:∀ (hk:Int) (cs:List (Int×Int×Bool)) (f:Int) (at_:Int) (st:Int),(cs≠[]/\cs.length<=1000/\-1000000<=at_/\at_<=1000000/\-1000000<=st/\st<=1000000)->JJ hk cs f at_ st):OkC Tryd.prog 37 J5 :=
 QK Z0c mixed (C:=KX) (V:=λ(d:(Int×(List (Int×Int×Bool))×Int)×Int×Int)=>JJ d.1.1 d.1.2.1 d.1.2.2 d.2.1 d.2.2) ⟨.nil,XsOk.nil,ItsOk.nil,YlOk.nil,IysOk.nil,XfOk.nil⟩ (Dr) λd hp=>h d.1.1 d.1.2.1 d.1.2.2 d.2.1 d.2.2 hp
theorem W3:Dn:=Dt λhk cs f at_ st h=>by obtain⟨h1,h2,h3,h4,h5,h6⟩:=h;unfold JJ;(try delta lI gD sT I64 J_ pj8 pj4);have:=xh.2 h1;exact⟨by simp only[Qd];omega,by omega,rfl,trivial⟩
def GL:AL ((Int×List (Int×Int×Bool))×Int×List Int):=(.cons (.agg (.cons (.k (.i .i64)) (.one (.k (.list (.pair (.i .i64) (.pair (.i .i64) .bo))))))) (.cons (.k (.i .i64)) (.one (.k (.list (.i .i64))))))
def S4 (d:(Int×List (Int×Int×Bool))×Int×List Int):Prop:=d.1.2.length<=1000/\d.2.2.length<=1000
def Mh (d:(Int×List (Int×Int×Bool))×Int×List Int):SV:=.tup [.lst 0,.val (.i .i64) (UQ d.1.1 d.1.2 d.2.1 d.2.2),.val (.i .i64) (ZX d.1.1 d.1.2 d.2.1 d.2.2)]
def Mg (d:(Int×List (Int×Int×Bool))×Int×List Int):List OB:=[.lst 3 (.i .i64) (Pq d.1.1 d.1.2 d.2.1 d.2.2) ((Pq d.1.1 d.1.2 d.2.1 d.2.2).isEmpty)]
def K2:CSp:=Yo GL S4 Mh Mg
abbrev G6 (hk:Int) (cs:List (Int×Int×Bool)) (a:Int) (st:List Int):=(((Pq hk cs a st)=[]/\(Pq hk cs a st).isEmpty=true)/\True)
abbrev Kh (cs:List (Int×Int×Bool)) (a:Int):=(!(!([a].any λn=>decide (n<(0:Int))||decide (((lI cs)-(1:Int))<n))))
abbrev Kj (st:List Int):=(!(!(st.any λn=>decide (n<(0:Int))||decide ((2:Int)<n))))
abbrev G4 (hk:Int) (cs:List (Int×Int×Bool)) (a:Int) (st:List Int):=((True/\(0:Int)=(UQ hk cs a st)/\(5:Int)=(ZX hk cs a st)/\(([]:List SV)=[]))/\(G6 hk cs a st))
abbrev G3 (hk:Int) (cs:List (Int×Int×Bool)) (a:Int) (st:List Int):=((True/\(0:Int)=(UQ hk cs a st)/\(2:Int)=(ZX hk cs a st)/\(([]:List SV)=[]))/\(G6 hk cs a st))
abbrev B4 (hk:Int) (cs:List (Int×Int×Bool)) (a:Int) (st:List Int):=((True/\(0:Int)=(UQ hk cs a st)/\(7:Int)=(ZX hk cs a st)/\(([]:List SV)=[]))/\(G6 hk cs a st))
abbrev Kc (hk:Int) (cs:List (Int×Int×Bool)):=(hk=hk/\cs=cs/\hk=hk/\(([]:List SV)=[]))
abbrev Kn (st:List Int):=(decide ((lI st) > (60:Int)))
def Yx (hk:Int) (cs:List (Int×Int×Bool)) (a:Int) (st:List Int):Prop :=
 ∀ w1:List Value,(True)/\((!(inI hk 1 24))=true ->
  w1=w1/\(((3:Int) != (0:Int))=true ->
   ((True/\(0:Int)=(UQ hk cs a st)/\(3:Int)=(ZX hk cs a st)/\(([]:List SV)=[]))/\(G6 hk cs a st))) /\
  (((3:Int) != (0:Int))=false ->
   (I64 ((lI cs)-(1:Int)))/\([a].length<=1000000)/\((Kh cs a)=true ->
    (B4 hk cs a st)) /\
   ((Kh cs a)=false ->
    ((Kn st)=true ->
     (G4 hk cs a st)) /\
    ((Kn st)=false ->
     (st.length<=1000000)/\((Kj st)=true ->
      (G3 hk cs a st)) /\
     ((Kj st)=false ->
      ∃ (e5:Unit) (d50:(List Int)×Int×Int),((True/\a=d50.2.1/\True/\st=st/\(lI st)=(lI st)/\(0:Int)=d50.2.2/\True)/\((d50.1=[]/\(List.isEmpty d50.1)=true)/\(Kc hk cs)/\True)) /\
      LoopP (λ(d5:(List Int)×Int×Int) (q5:((List Int)×Int×Int)->Prop) =>
       ((decide (d5.2.2<(lI st)))=true ->
        (0<=d5.2.2)/\(d5.2.2<(List.length st))/\(1<=hk/\hk<=24/\0<=d5.2.1/\d5.2.1<cs.length/\∀ c∈cs,Zb hk c=true)/\(((List.length d5.1)+(List.length [(G0 hk (cs.getD d5.2.1.toNat Z_))]))*8<=70368744177664)/\(cs≠[]/\cs.length<=1000/\-1000000<=d5.2.1/\d5.2.1<=1000000/\-1000000<=(gD st d5.2.2 0)/\(gD st d5.2.2 0)<=1000000)/\(I64 (d5.2.2+(1:Int)))/\(∃ d6:(List Int)×Int×Int,((True/\(Int.tmod (d5.2.1+(gD st d5.2.2 0)) cs.length)=d6.2.1/\True/\st=st/\(lI st)=(lI st)/\(d5.2.2+(1:Int))=d6.2.2/\True)/\(((d5.1++[(G0 hk (cs.getD d5.2.1.toNat Z_))])=d6.1/\false=(List.isEmpty d6.1))/\(Kc hk cs)/\True))/\q5 d6)) /\
       ((decide (d5.2.2<(lI st)))=false ->
        ((True/\d5.2.1=(UQ hk cs a st)/\(0:Int)=(ZX hk cs a st)/\(([]:List SV)=[]))/\((d5.1=(Pq hk cs a st)/\(List.isEmpty d5.1)=(Pq hk cs a st).isEmpty)/\True)))) d50))))) /\
 ((!(inI hk 1 24))=false ->
  ((decide ((lI cs) > (60:Int)))=true ->
   w1=w1/\(((5:Int) != (0:Int))=true ->
    (G4 hk cs a st)) /\
   (((5:Int) != (0:Int))=false ->
    (I64 ((lI cs)-(1:Int)))/\([a].length<=1000000)/\((Kh cs a)=true ->
     (B4 hk cs a st)) /\
    ((Kh cs a)=false ->
     ((Kn st)=true ->
      (G4 hk cs a st)) /\
     ((Kn st)=false ->
      (st.length<=1000000)/\((Kj st)=true ->
       (G3 hk cs a st)) /\
      ((Kj st)=false ->
       ∃ (aS:Unit) (d100:(List Int)×Int×Int),((True/\a=d100.2.1/\True/\st=st/\(lI st)=(lI st)/\(0:Int)=d100.2.2/\True)/\((d100.1=[]/\(List.isEmpty d100.1)=true)/\(Kc hk cs)/\True)) /\
       LoopP (λ(d10:(List Int)×Int×Int) (mj:((List Int)×Int×Int)->Prop) =>
        ((decide (d10.2.2<(lI st)))=true ->
         (0<=d10.2.2)/\(d10.2.2<(List.length st))/\(1<=hk/\hk<=24/\0<=d10.2.1/\d10.2.1<cs.length/\∀ c∈cs,Zb hk c=true)/\(((List.length d10.1)+(List.length [(G0 hk (cs.getD d10.2.1.toNat Z_))]))*8<=70368744177664)/\(cs≠[]/\cs.length<=1000/\-1000000<=d10.2.1/\d10.2.1<=1000000/\-1000000<=(gD st d10.2.2 0)/\(gD st d10.2.2 0)<=1000000)/\(I64 (d10.2.2+(1:Int)))/\(∃ d11:(List Int)×Int×Int,((True/\(Int.tmod (d10.2.1+(gD st d10.2.2 0)) cs.length)=d11.2.1/\True/\st=st/\(lI st)=(lI st)/\(d10.2.2+(1:Int))=d11.2.2/\True)/\(((d10.1++[(G0 hk (cs.getD d10.2.1.toNat Z_))])=d11.1/\false=(List.isEmpty d11.1))/\(Kc hk cs)/\True))/\mj d11)) /\
        ((decide (d10.2.2<(lI st)))=false ->
         ((True/\d10.2.1=(UQ hk cs a st)/\(0:Int)=(ZX hk cs a st)/\(([]:List SV)=[]))/\((d10.1=(Pq hk cs a st)/\(List.isEmpty d10.1)=(Pq hk cs a st).isEmpty)/\True)))) d100))))) /\
  ((decide ((lI cs) > (60:Int)))=false ->
   (1<=hk/\hk<=24/\cs.length<=1000000)/\((!(!cs.isEmpty&&!(cs.any λc=>!Zb hk c)))=true ->
    w1=w1/\(((2:Int) != (0:Int))=true ->
     (G3 hk cs a st)) /\
    (((2:Int) != (0:Int))=false ->
     (I64 ((lI cs)-(1:Int)))/\([a].length<=1000000)/\((Kh cs a)=true ->
      (B4 hk cs a st)) /\
     ((Kh cs a)=false ->
      ((Kn st)=true ->
       (G4 hk cs a st)) /\
      ((Kn st)=false ->
       (st.length<=1000000)/\((Kj st)=true ->
        (G3 hk cs a st)) /\
       ((Kj st)=false ->
        ∃ (av:Unit) (dR:(List Int)×Int×Int),((True/\a=dR.2.1/\True/\st=st/\(lI st)=(lI st)/\(0:Int)=dR.2.2/\True)/\((dR.1=[]/\(List.isEmpty dR.1)=true)/\(Kc hk cs)/\True)) /\
        LoopP (λ(d15:(List Int)×Int×Int) (qM:((List Int)×Int×Int)->Prop) =>
         ((decide (d15.2.2<(lI st)))=true ->
          (0<=d15.2.2)/\(d15.2.2<(List.length st))/\(1<=hk/\hk<=24/\0<=d15.2.1/\d15.2.1<cs.length/\∀ c∈cs,Zb hk c=true)/\(((List.length d15.1)+(List.length [(G0 hk (cs.getD d15.2.1.toNat Z_))]))*8<=70368744177664)/\(cs≠[]/\cs.length<=1000/\-1000000<=d15.2.1/\d15.2.1<=1000000/\-1000000<=(gD st d15.2.2 0)/\(gD st d15.2.2 0)<=1000000)/\(I64 (d15.2.2+(1:Int)))/\(∃ d16:(List Int)×Int×Int,((True/\(Int.tmod (d15.2.1+(gD st d15.2.2 0)) cs.length)=d16.2.1/\True/\st=st/\(lI st)=(lI st)/\(d15.2.2+(1:Int))=d16.2.2/\True)/\(((d15.1++[(G0 hk (cs.getD d15.2.1.toNat Z_))])=d16.1/\false=(List.isEmpty d16.1))/\(Kc hk cs)/\True))/\qM d16)) /\
         ((decide (d15.2.2<(lI st)))=false ->
          ((True/\d15.2.1=(UQ hk cs a st)/\(0:Int)=(ZX hk cs a st)/\(([]:List SV)=[]))/\((d15.1=(Pq hk cs a st)/\(List.isEmpty d15.1)=(Pq hk cs a st).isEmpty)/\True)))) dR))))) /\
   ((!(!cs.isEmpty&&!(cs.any λc=>!Zb hk c)))=false ->
    w1=w1/\(((0:Int) != (0:Int))=true ->
     ((True/\(0:Int)=(UQ hk cs a st)/\(0:Int)=(ZX hk cs a st)/\(([]:List SV)=[]))/\(G6 hk cs a st))) /\
    (((0:Int) != (0:Int))=false ->
     (I64 ((lI cs)-(1:Int)))/\([a].length<=1000000)/\((Kh cs a)=true ->
      (B4 hk cs a st)) /\
     ((Kh cs a)=false ->
      ((Kn st)=true ->
       (G4 hk cs a st)) /\
      ((Kn st)=false ->
       (st.length<=1000000)/\((Kj st)=true ->
        (G3 hk cs a st)) /\
       ((Kj st)=false ->
        ∃ (lG:Unit) (eC:(List Int)×Int×Int),((True/\a=eC.2.1/\True/\st=st/\(lI st)=(lI st)/\(0:Int)=eC.2.2/\True)/\((eC.1=[]/\(List.isEmpty eC.1)=true)/\(Kc hk cs)/\True)) /\
        LoopP (λ(d20:(List Int)×Int×Int) (qN:((List Int)×Int×Int)->Prop) =>
         ((decide (d20.2.2<(lI st)))=true ->
          (0<=d20.2.2)/\(d20.2.2<(List.length st))/\(1<=hk/\hk<=24/\0<=d20.2.1/\d20.2.1<cs.length/\∀ c∈cs,Zb hk c=true)/\(((List.length d20.1)+(List.length [(G0 hk (cs.getD d20.2.1.toNat Z_))]))*8<=70368744177664)/\(cs≠[]/\cs.length<=1000/\-1000000<=d20.2.1/\d20.2.1<=1000000/\-1000000<=(gD st d20.2.2 0)/\(gD st d20.2.2 0)<=1000000)/\(I64 (d20.2.2+(1:Int)))/\(∃ d21:(List Int)×Int×Int,((True/\(Int.tmod (d20.2.1+(gD st d20.2.2 0)) cs.length)=d21.2.1/\True/\st=st/\(lI st)=(lI st)/\(d20.2.2+(1:Int))=d21.2.2/\True)/\(((d20.1++[(G0 hk (cs.getD d20.2.1.toNat Z_))])=d21.1/\false=(List.isEmpty d21.1))/\(Kc hk cs)/\True))/\qN d21)) /\
         ((decide (d20.2.2<(lI st)))=false ->
          ((True/\d20.2.1=(UQ hk cs a st)/\(0:Int)=(ZX hk cs a st)/\(([]:List SV)=[]))/\((d20.1=(Pq hk cs a st)/\(List.isEmpty d20.1)=(Pq hk cs a st).isEmpty)/\True)))) eC)))))))
def GH:Cx:=⟨[(3,(.i .i64))],[(20,Qv),(35,Ja),(36,X3),(37,J5),(54,QD)],58,[],0,[(34,YE)],[],[],[],false,[],[],[],[]⟩
def Lg (hk:Int) (cs:List (Int×Int×Bool)) (a:Int) (st:List Int):List (Nat×LoopAnn):=[(1,⟨Unit,(List Int)×Int×Int,[6,7,9,39,40,41],λe x=>[.lst 50,.val (.i .i64) x.2.1,.box 9 0,.val (.list (.i .i64)) st,.val (.i .i64) (((List.length st):Nat):Int),.val (.i .i64) x.2.2],λe x=>[(50,.slot 6,.lst 3 (.i .i64) x.1 (List.isEmpty x.1)),(9,.slot 9,.cells [.val (.i .i64) hk,.val (.list (.pair (.i .i64) (.pair (.i .i64) .bo))) cs,.val (.i .i64) hk] (some 70))]⟩)]
theorem Se (d:(Int×List (Int×Int×Bool))×Int×List Int):gwp (GH) (Lg d.1.1 d.1.2 d.2.1 d.2.2) c14 0 (K9 [.tmp 6,.tmp 7,.tmp 8] (Mh d) (Mg d)) (QC 58 (AL.can GL d))=Yx d.1.1 d.1.2 d.2.1 d.2.2:=by kernel_rfl
abbrev L3:Prop:=OkC Tryd.prog 14 K2
theorem Lb (h:∀ (hk:Int) (cs:List (Int×Int×Bool)) (a:Int) (st:List Int),(cs.length<=1000/\st.length<=1000)->Yx hk cs a st):OkC Tryd.prog 14 K2 :=
 QK Z2r mixed (C:=GH) (V:=λ(d:(Int×List (Int×Int×Bool))×Int×List Int)=>Yx d.1.1 d.1.2 d.2.1 d.2.2) ⟨(.cons QQ (.cons Xk (.cons Vc (.cons W3 (.cons Za .nil))))),(XsOk.cons YB XsOk.nil),ItsOk.nil,YlOk.nil,IysOk.nil,XfOk.nil⟩ (Se) λd hp=>h d.1.1 d.1.2 d.2.1 d.2.2 hp
theorem GS:L3:=Lb λhk cs a st h=>by
 obtain⟨h1,h2⟩:=h;unfold Yx;(try delta G6 Kh Kj G4 G3 B4 Kc Kn);(try delta lI gD sT I64 J_ pj8 pj4);intro vals;have e:∀ n a b:Int,(decide (n<a)||decide (b<n))=!inI n a b:=λn a b=>(nI n a b).symm;simp only[true_and,and_true,List.any_cons,List.any_nil,xZ,e,Bool.not_not,zG,List.length_nil];refine⟨λc=>⟨λ_=>?_,(λd=>by cases d)⟩,λc=>⟨λc2=>⟨λ_=>?_,(λd=>by cases d)⟩,λc2=>⟨?_,λc3=>⟨λ_=>?_,(λd=>by cases d)⟩,λc3=>⟨(λd=>by cases d),λ_=>?_⟩⟩⟩⟩
 .have hb:Qu hk cs=3:=by unfold Qu;rw[z6 c]
  exact VY (by unfold ZX;rw[hb];rfl) (by omega)
 .have c2:=zk c2;have hb:Qu hk cs=5:=by unfold Qu;rw[z0 (by rw[c];decide),z6 (by omega)]
  exact VY (by unfold ZX;rw[hb];rfl) (by omega)
 .have c:=P6 c;exact⟨c.1,c.2,by omega⟩
 .have c2:=zj c2;have hb:=Cq c (by omega) c3;exact VY (by unfold ZX;rw[hb];rfl) (by omega)
 .have c2:=zj c2;obtain⟨hb,aB,ak⟩:=TS c (by omega) c3;have hc:=P6 c;have bp:=xh.2 aB;refine⟨by simp only[Qd];omega,by omega,λc4=>?_,λc4=>⟨λc5=>?_,λc5=>⟨by omega,λc6=>?_,λc6=>?_⟩⟩⟩
  .exact VY (by unfold ZX;rw[hb,z0 (by omega),z6 c4]) (by omega)
  .have c5:=zk c5;exact VY (by unfold ZX;rw[hb,z0 (by omega),z0 (by rw[c4];decide),z6 (by omega)]) (by omega)
  .have c5:=zj c5;exact VY (by unfold ZX;rw[hb,z0 (by omega),z0 (by rw[c4];decide),z0 (by omega),z6 c6]) (by omega)
  .have c5:=zj c5;have e0:ZX hk cs a st=0:=by unfold ZX;rw[hb,z0 (by omega),z0 (by rw[c4];decide),z0 (by omega),z0 (by rw[c6];decide)]
   have e1:UQ hk cs a st=atK cs.length a st st.length:=by unfold UQ;rw[z6 e0]
   have e2:Pq hk cs a st=L9 hk cs a st st.length:=by unfold Pq;rw[z6 e0]
   have ha:=P6 c4;have aY:∀ s∈st,0<=s/\s<=2:=λs hs=>by have:=xM.1 c6 s hs;exact P6 (by simpa using this)
   rw[e0,e1,e2];refine⟨(),([],a,0),(by and_intros<;>first|rfl|trivial),?_⟩;refine⟨λd=>∃ k:Nat,d.2.2=k/\k<=st.length/\d.1=L9 hk cs a st k/\d.2.1=atK cs.length a st k,λd=>st.length-d.2.2.toNat,⟨0,rfl,by omega,rfl,rfl⟩,?_⟩;rintro⟨l,p,k'⟩ ⟨k,f1,f2,f3,f4⟩;dsimp only at f1 f3 f4 |-;subst f1 f3 f4;have aO:=Q6v (a:=a) (st:=st) bp (by omega) (by omega) (λs hs=>(aY s hs).1) k;simp only[zf];refine⟨λg=>?_,λg=>?_⟩
   .have g:k<st.length:=by have:=zk g;omega
    have hs:=aY (st.getD k 0) (by rw[Q9 g];exact zl g);have hl:=AW hk cs a st k;refine⟨by omega,by omega,⟨hc.1,hc.2,aO.1,by omega,ak⟩,by omega,⟨aB,h1,by omega,by omega,by omega,by omega⟩,by simp only[Qd];omega,(L9 hk cs a st (k+1),atK cs.length a st (k+1),(k:Int)+1),?_,⟨k+1,by simp,by omega,rfl,rfl⟩,by dsimp only;omega⟩;rw[OF];and_intros<;>first|rfl|trivial|simp
   .have g:k=st.length:=by have:=zj g;omega
    subst g;exact(by and_intros<;>first|rfl|trivial|simp)
def Nm:AL (Int):=(.one (.k (.i .i64)))
def HO (d:Int):Prop:=True
def Uo (d:Int):SV:=.val .bo false
def Uf (d:Int):List OB:=[]
def KL:CSp:=Yo Nm HO Uo Uf
def XW (a:Int):Prop :=
 ((a != a)=false/\(True))
def Nc:Cx:=⟨[],[],6,[],0,[],[],[],[],false,[],[],[],[]⟩
def PM (a:Int):List (Nat×LoopAnn):=[]
theorem Pt (d:Int):gwp (Nc) (PM d) c53 0 (K9 [.tmp 2] (Uo d) (Uf d)) (QC 6 (AL.can Nm d))=XW d:=by kernel_rfl
abbrev PA:Prop:=OkC Tryd.prog 53 KL
theorem Pp (h:∀ (a:Int),(True)->XW a):OkC Tryd.prog 53 KL :=
 QK Z04 mixed (C:=Nc) (V:=λ(d:Int)=>XW d) ⟨.nil,XsOk.nil,ItsOk.nil,YlOk.nil,IysOk.nil,XfOk.nil⟩ (Pt) λd hp=>h d hp
theorem Py:PA:=Pp λa _=>by unfold XW;(try delta lI gD sT I64 J_ pj8 pj4);simp
def Vr:AL (Int×Int):=(.cons (.k (.i .i64)) (.one (.k (.i .i64))))
def DH (d:Int×Int):Prop:=True
def KU (d:Int×Int):SV:=.val (.i .i64) (FL d.1 d.2)
def V0 (d:Int×Int):List OB:=[]
def Yh:CSp:=Yo Vr DH KU V0
def JX (a:Int) (b:Int):Prop :=
 (True)/\(True)/\(false=true ->
  (false=true ->
   ((0:Int)=(FL a b)/\(True))) /\
  (false=false ->
   ((-1:Int)=(FL a b)/\(True)))) /\
 (false=false ->
  (false=true ->
   ((1:Int)=(FL a b)/\(True))) /\
  (false=false ->
   ((decide (a<b))=true ->
    ((-1:Int)=(FL a b)/\(True))) /\
   ((decide (a<b))=false ->
    ((decide (a > b))=true ->
     ((1:Int)=(FL a b)/\(True))) /\
    ((decide (a > b))=false ->
     ((0:Int)=(FL a b)/\(True))))))
def Vk:Cx:=⟨[],[(53,KL)],20,[],0,[],[],[],[],false,[],[],[],[]⟩
def DL (a:Int) (b:Int):List (Nat×LoopAnn):=[]
theorem By (d:Int×Int):gwp (Vk) (DL d.1 d.2) c33 0 (K9 [.tmp 4] (KU d) (V0 d)) (QC 20 (AL.can Vr d))=JX d.1 d.2:=by kernel_rfl
abbrev BQ:Prop:=OkC Tryd.prog 33 Yh
theorem DS (h:∀ (a:Int) (b:Int),(True)->JX a b):OkC Tryd.prog 33 Yh :=
 QK Z0r mixed (C:=Vk) (V:=λ(d:Int×Int)=>JX d.1 d.2) ⟨(.cons Py .nil),XsOk.nil,ItsOk.nil,YlOk.nil,IysOk.nil,XfOk.nil⟩ (By) λd hp=>h d.1 d.2 hp
theorem BE:BQ:=DS λa b _=>by
 unfold JX;(try delta lI gD sT I64 J_ pj8 pj4);simp only[zr,xd,true_and,and_true,eq_self_iff_true,exists_eq_left',exists_const,zr,xd,zK,bne_iff_ne,ne_eq,x7,bne_eq_false_iff_eq,Bool.not_eq_true',z_,xk,xS,zf,Int.ofNat_lt,gt_iff_lt,ge_iff_le,forall_eq,true_implies,false_implies,zw,Bool.or_self,Bool.and_self,xZ,Bool.false_or,Bool.or_true,Bool.true_or,Bool.and_false,Bool.false_and,xU,Bool.true_and,wh,Bool.not_false,implies_true,forall_const,decide_false,decide_true,not_false_eq_true,not_true_eq_false];unfold FL;refine⟨λh=>?_,λh=>⟨λh2=>?_,λh2=>?_⟩⟩
 .rw[z6 h]
 .rw[z0 h,z6 h2]
 .rw[z0 h,z0 h2]
def MY:AL ((Int×Int×Bool)×Int×Int×Bool):=(.cons (.agg (.cons (.k (.i .i64)) (.cons (.k (.i .i64)) (.one (.k .bo))))) (.one (.agg (.cons (.k (.i .i64)) (.cons (.k (.i .i64)) (.one (.k .bo)))))))
def PU (d:(Int×Int×Bool)×Int×Int×Bool):Prop:=True
def Nh (d:(Int×Int×Bool)×Int×Int×Bool):SV:=.val (.i .i64) (FL d.1.1 d.2.1)
def Nn (d:(Int×Int×Bool)×Int×Int×Bool):List OB:=[]
def Yy:CSp:=Yo MY PU Nh Nn
def Wu (cn:Int) (cr:Int) (ct:Bool) (dn:Int) (dr:Int) (dt:Bool):Prop :=
 (True)/\((FL cn dn)=(FL cn dn)/\(True))
def MS:Cx:=⟨[],[(33,Yh)],10,[],0,[],[],[],[],false,[],[],[],[]⟩
def TY (cn:Int) (cr:Int) (ct:Bool) (dn:Int) (dr:Int) (dt:Bool):List (Nat×LoopAnn):=[]
theorem TH (d:(Int×Int×Bool)×Int×Int×Bool):gwp (MS) (TY d.1.1 d.1.2.1 d.1.2.2 d.2.1 d.2.2.1 d.2.2.2) c32 0 (K9 [.tmp 4] (Nh d) (Nn d)) (QC 10 (AL.can MY d))=Wu d.1.1 d.1.2.1 d.1.2.2 d.2.1 d.2.2.1 d.2.2.2:=by kernel_rfl
abbrev Rg:Prop:=OkC Tryd.prog 32 Yy
theorem RA (h:∀ (cn:Int) (cr:Int) (ct:Bool) (dn:Int) (dr:Int) (dt:Bool),(True)->Wu cn cr ct dn dr dt):OkC Tryd.prog 32 Yy :=
 QK Z1o mixed (C:=MS) (V:=λ(d:(Int×Int×Bool)×Int×Int×Bool)=>Wu d.1.1 d.1.2.1 d.1.2.2 d.2.1 d.2.2.1 d.2.2.2) ⟨(.cons BE .nil),XsOk.nil,ItsOk.nil,YlOk.nil,IysOk.nil,XfOk.nil⟩ (TH) λd hp=>h d.1.1 d.1.2.1 d.1.2.2 d.2.1 d.2.2.1 d.2.2.2 hp
theorem Mo:Rg:=RA λcn cr ct dn dr dt _=>by unfold Wu;exact(by and_intros<;>first|rfl|trivial|simp)
def VA:AL (Int):=(.one (.k (.i .u32)))
def DB (d:Int):Prop:=False
def KZ (d:Int):SV:=.val (.i .i64) (C4 d)
def V3 (d:Int):List OB:=[]
def Ya:CSp:=Yo VA DB KZ V3
def Wz (x:Int):Prop :=
 ((decide (x>=(65536:Int)))=true ->
  (0<=(16:Int))/\((decide ((JK .u32 x (16:Int))>=(256:Int)))=true ->
   (0<=(8:Int))/\(I64 ((16:Int)+(8:Int)))/\(InK .u8 (JK .u32 (JK .u32 x (16:Int)) (8:Int)))/\(0<=(JK .u32 (JK .u32 x (16:Int)) (8:Int)))/\((JK .u32 (JK .u32 x (16:Int)) (8:Int))<(List.length len8T))/\(I64 ((UInt8.toNat (gD len8T (JK .u32 (JK .u32 x (16:Int)) (8:Int)) 0):Nat):Int))/\(I64 (((16:Int)+(8:Int))+((UInt8.toNat (gD len8T (JK .u32 (JK .u32 x (16:Int)) (8:Int)) 0):Nat):Int)))/\((((16:Int)+(8:Int))+((UInt8.toNat (gD len8T (JK .u32 (JK .u32 x (16:Int)) (8:Int)) 0):Nat):Int))=(C4 x)/\(True))) /\
  ((decide ((JK .u32 x (16:Int))>=(256:Int)))=false ->
   (InK .u8 (JK .u32 x (16:Int)))/\(0<=(JK .u32 x (16:Int)))/\((JK .u32 x (16:Int))<(List.length len8T))/\(I64 ((UInt8.toNat (gD len8T (JK .u32 x (16:Int)) 0):Nat):Int))/\(I64 ((16:Int)+((UInt8.toNat (gD len8T (JK .u32 x (16:Int)) 0):Nat):Int)))/\(((16:Int)+((UInt8.toNat (gD len8T (JK .u32 x (16:Int)) 0):Nat):Int))=(C4 x)/\(True)))) /\
 ((decide (x>=(65536:Int)))=false ->
  ((decide (x>=(256:Int)))=true ->
   (0<=(8:Int))/\(I64 ((0:Int)+(8:Int)))/\(InK .u8 (JK .u32 x (8:Int)))/\(0<=(JK .u32 x (8:Int)))/\((JK .u32 x (8:Int))<(List.length len8T))/\(I64 ((UInt8.toNat (gD len8T (JK .u32 x (8:Int)) 0):Nat):Int))/\(I64 (((0:Int)+(8:Int))+((UInt8.toNat (gD len8T (JK .u32 x (8:Int)) 0):Nat):Int)))/\((((0:Int)+(8:Int))+((UInt8.toNat (gD len8T (JK .u32 x (8:Int)) 0):Nat):Int))=(C4 x)/\(True))) /\
  ((decide (x>=(256:Int)))=false ->
   (InK .u8 x)/\(0<=x)/\(x<(List.length len8T))/\(I64 ((UInt8.toNat (gD len8T x 0):Nat):Int))/\(I64 ((0:Int)+((UInt8.toNat (gD len8T x 0):Nat):Int)))/\(((0:Int)+((UInt8.toNat (gD len8T x 0):Nat):Int))=(C4 x)/\(True))))
def Vv:Cx:=⟨[],[],19,[],0,[],[],[],[],false,[],[],[],[]⟩
def Bw (x:Int):List (Nat×LoopAnn):=[]
theorem Be (d:Int):gwp (Vv) (Bw d) c89 0 (K9 [.tmp 2] (KZ d) (V3 d)) (QC 19 (AL.can VA d))=Wz d:=by kernel_rfl
abbrev Hf:Prop:=OkC Tryd.prog 89 Ya
theorem BD (h:∀ (x:Int),(False)->Wz x):OkC Tryd.prog 89 Ya :=
 QK Z0e mixed (C:=Vv) (V:=λ(d:Int)=>Wz d) ⟨.nil,XsOk.nil,ItsOk.nil,YlOk.nil,IysOk.nil,XfOk.nil⟩ (Be) λd hp=>h d hp
theorem BC:Hf:=BD λx h=>h.elim
def VF:AL (Int):=(.one (.k (.i .u64)))
def Dp (d:Int):Prop:=0<=d/\d<=255
def KF (d:Int):SV:=.val (.i .i64) (C4 d)
def V4 (d:Int):List OB:=[]
def Yi:CSp:=Yo VF Dp KF V4
abbrev WS (x:Int):=(JK .u64 (JK .u64 x (32:Int)) (16:Int))
abbrev Bz (x:Int):=(JK .u64 (JK .u64 x (32:Int)) (8:Int))
abbrev Bf (x:Int):=(JK .u64 (JK .u64 x (16:Int)) (8:Int))
abbrev PY (x:Int):=((UInt8.toNat (gD len8T (JK .u64 (WS x) (8:Int)) 0):Nat):Int)
abbrev T9 (x:Int):=((UInt8.toNat (gD len8T (JK .u64 x (32:Int)) 0):Nat):Int)
abbrev Tc (x:Int):=((UInt8.toNat (gD len8T (JK .u64 x (16:Int)) 0):Nat):Int)
abbrev T1 (x:Int):=((UInt8.toNat (gD len8T (JK .u64 x (8:Int)) 0):Nat):Int)
abbrev T8 :=(((32:Int)+(16:Int))+(8:Int))
abbrev T4 :=(((0:Int)+(16:Int))+(8:Int))
abbrev T3 (x:Int):=((UInt8.toNat (gD len8T (WS x) 0):Nat):Int)
abbrev DV (x:Int):=((UInt8.toNat (gD len8T (Bz x) 0):Nat):Int)
abbrev Bn (x:Int):=((UInt8.toNat (gD len8T (Bf x) 0):Nat):Int)
def JT (x:Int):Prop :=
 ((decide (x>=(4294967296:Int)))=true ->
  (0<=(32:Int))/\((decide ((JK .u64 x (32:Int))>=(65536:Int)))=true ->
   (0<=(16:Int))/\(I64 ((32:Int)+(16:Int)))/\((decide ((WS x)>=(256:Int)))=true ->
    (0<=(8:Int))/\(I64 T8)/\(InK .u8 (JK .u64 (WS x) (8:Int)))/\(0<=(JK .u64 (WS x) (8:Int)))/\((JK .u64 (WS x) (8:Int))<(List.length len8T))/\(I64 (PY x))/\(I64 (T8+(PY x)))/\((T8+(PY x))=(C4 x)/\(True))) /\
   ((decide ((WS x)>=(256:Int)))=false ->
    (InK .u8 (WS x))/\(0<=(WS x))/\((WS x)<(List.length len8T))/\(I64 (T3 x))/\(I64 (((32:Int)+(16:Int))+(T3 x)))/\((((32:Int)+(16:Int))+(T3 x))=(C4 x)/\(True)))) /\
  ((decide ((JK .u64 x (32:Int))>=(65536:Int)))=false ->
   ((decide ((JK .u64 x (32:Int))>=(256:Int)))=true ->
    (0<=(8:Int))/\(I64 ((32:Int)+(8:Int)))/\(InK .u8 (Bz x))/\(0<=(Bz x))/\((Bz x)<(List.length len8T))/\(I64 (DV x))/\(I64 (((32:Int)+(8:Int))+(DV x)))/\((((32:Int)+(8:Int))+(DV x))=(C4 x)/\(True))) /\
   ((decide ((JK .u64 x (32:Int))>=(256:Int)))=false ->
    (InK .u8 (JK .u64 x (32:Int)))/\(0<=(JK .u64 x (32:Int)))/\((JK .u64 x (32:Int))<(List.length len8T))/\(I64 (T9 x))/\(I64 ((32:Int)+(T9 x)))/\(((32:Int)+(T9 x))=(C4 x)/\(True))))) /\
 ((decide (x>=(4294967296:Int)))=false ->
  ((decide (x>=(65536:Int)))=true ->
   (0<=(16:Int))/\(I64 ((0:Int)+(16:Int)))/\((decide ((JK .u64 x (16:Int))>=(256:Int)))=true ->
    (0<=(8:Int))/\(I64 T4)/\(InK .u8 (Bf x))/\(0<=(Bf x))/\((Bf x)<(List.length len8T))/\(I64 (Bn x))/\(I64 (T4+(Bn x)))/\((T4+(Bn x))=(C4 x)/\(True))) /\
   ((decide ((JK .u64 x (16:Int))>=(256:Int)))=false ->
    (InK .u8 (JK .u64 x (16:Int)))/\(0<=(JK .u64 x (16:Int)))/\((JK .u64 x (16:Int))<(List.length len8T))/\(I64 (Tc x))/\(I64 (((0:Int)+(16:Int))+(Tc x)))/\((((0:Int)+(16:Int))+(Tc x))=(C4 x)/\(True)))) /\
  ((decide (x>=(65536:Int)))=false ->
   ((decide (x>=(256:Int)))=true ->
    (0<=(8:Int))/\(I64 ((0:Int)+(8:Int)))/\(InK .u8 (JK .u64 x (8:Int)))/\(0<=(JK .u64 x (8:Int)))/\((JK .u64 x (8:Int))<(List.length len8T))/\(I64 (T1 x))/\(I64 (((0:Int)+(8:Int))+(T1 x)))/\((((0:Int)+(8:Int))+(T1 x))=(C4 x)/\(True))) /\
   ((decide (x>=(256:Int)))=false ->
    (InK .u8 x)/\(0<=x)/\(x<(List.length len8T))/\(I64 ((UInt8.toNat (gD len8T x 0):Nat):Int))/\(I64 ((0:Int)+((UInt8.toNat (gD len8T x 0):Nat):Int)))/\(((0:Int)+((UInt8.toNat (gD len8T x 0):Nat):Int))=(C4 x)/\(True)))))
def VC:Cx:=⟨[],[],25,[],0,[],[],[],[],false,[],[],[],[]⟩
def H6 (x:Int):List (Nat×LoopAnn):=[]
theorem B9 (d:Int):gwp (VC) (H6 d) c90 0 (K9 [.tmp 2] (KF d) (V4 d)) (QC 25 (AL.can VF d))=JT d:=by kernel_rfl
abbrev DX:Prop:=OkC Tryd.prog 90 Yi
theorem Bp (h:∀ (x:Int),(0<=x/\x<=255)->JT x):OkC Tryd.prog 90 Yi :=
 QK Z1g mixed (C:=VC) (V:=λ(d:Int)=>JT d) ⟨.nil,XsOk.nil,ItsOk.nil,YlOk.nil,IysOk.nil,XfOk.nil⟩ (B9) λd hp=>h d hp
theorem Bk:DX:=Bp λx h=>by
 obtain⟨h1,h2⟩:=h;unfold JT;(try delta WS Bz Bf PY T9 Tc T1 T8 T4 T3 DV Bn);(try delta lI gD sT I64 J_ pj8 pj4);have ai:(UInt8.toNat (List.getD len8T (Int.toNat x) 0):Int)<=255:=by have:=(List.getD len8T (Int.toNat x) 0).toNat_lt;omega
 refine⟨λc=>by simp at c;omega,λ_=>⟨λc=>by simp at c;omega,λ_=>⟨λc=>by simp at c;omega,λ_=>?_⟩⟩⟩;have hl:len8T.length=256:=by decide +kernel
 rw[hl];simp only[Q3e,Qd];refine⟨by omega,h1,by omega,by omega,by omega,?_⟩;unfold C4;rw[Int.zero_add];exact(by and_intros<;>first|rfl|trivial|simp)
def Nj:AL (Int):=(.one (.k (.i .u64)))
def HA (d:Int):Prop:=0<=d/\d<=255
def Uq (d:Int):SV:=.val (.i .i64) (C4 d)
def U7 (d:Int):List OB:=[]
def V1:CSp:=Yo Nj HA Uq U7
def XV (x:Int):Prop :=
 (false=true ->
  (InK .u32 x)/\(False)/\((C4 x)=(C4 x)/\(True))) /\
 (false=false ->
  (0<=x/\x<=255)/\((C4 x)=(C4 x)/\(True)))
def Nr:Cx:=⟨[],[(89,Ya),(90,Yi)],8,[],0,[],[],[],[],false,[],[],[],[]⟩
def PK (x:Int):List (Nat×LoopAnn):=[]
theorem PE (d:Int):gwp (Nr) (PK d) c69 0 (K9 [.tmp 2] (Uq d) (U7 d)) (QC 8 (AL.can Nj d))=XV d:=by kernel_rfl
abbrev PH:Prop:=OkC Tryd.prog 69 V1
theorem PQ (h:∀ (x:Int),(0<=x/\x<=255)->XV x):OkC Tryd.prog 69 V1 :=
 QK Z1u mixed (C:=Nr) (V:=λ(d:Int)=>XV d) ⟨(.cons BC (.cons Bk .nil)),XsOk.nil,ItsOk.nil,YlOk.nil,IysOk.nil,XfOk.nil⟩ (PE) λd hp=>h d hp
theorem PV:PH:=PQ λx h=>by unfold XV;(try delta lI gD sT I64 J_ pj8 pj4);exact⟨(λc=>by cases c),λ_=>⟨h,(by and_intros<;>first|rfl|trivial|simp)⟩⟩
def Z7:AL (Int×Int×(((Int×Int×Bool)×(Int×Int×Bool)->Prop)×((Int×Int×Bool)×(Int×Int×Bool)->Int))):=(.cons (.k (.i .i64)) (.cons (.k (.i .i64)) (.one (.fn [(.pair (.i .i64) (.pair (.i .i64) .bo)),(.pair (.i .i64) (.pair (.i .i64) .bo))] (.i .i64)))))
def Jq (xs:List (Int×Int×Bool)) (nl:Bool) (d:Int×Int×(((Int×Int×Bool)×(Int×Int×Bool)->Prop)×((Int×Int×Bool)×(Int×Int×Bool)->Int))):Prop:=0<=d.1/\d.1<=d.2.1/\d.2.1<=xs.length/\xs.length<=12/\(∀ x∈xs,∀ y∈xs,d.2.2.1 (x,y))
def Z1 (xs:List (Int×Int×Bool)) (nl:Bool) (d:Int×Int×(((Int×Int×Bool)×(Int×Int×Bool)->Prop)×((Int×Int×Bool)×(Int×Int×Bool)->Int))):SV:=.tup []
def Q_ (xs:List (Int×Int×Bool)) (nl:Bool) (d:Int×Int×(((Int×Int×Bool)×(Int×Int×Bool)->Prop)×((Int×Int×Bool)×(Int×Int×Bool)->Int))):List (Int×Int×Bool):=(TF d.2.2.2 xs d.1.toNat d.2.1.toNat)
def Qw:XSp:=Q0r (gap [] 3) (Q36 40 (.pair (.i .i64) (.pair (.i .i64) .bo)) Z7 Jq Z1 Q_)
def Qj (xs:List (Int×Int×Bool)) (nl:Bool) (a:Int) (b:Int) (p:((Int×Int×Bool)×(Int×Int×Bool)->Prop)×((Int×Int×Bool)×(Int×Int×Bool)->Int)):Prop:=∀ vals:List Value,
 (I64 (a+(1:Int)))/\∃ (e2:Unit) (d20:(List (Int×Int×Bool))×Bool×Int),((True/\a=a/\b=b/\(SV.pf [(.pair (.i .i64) (.pair (.i .i64) .bo)),(.pair (.i .i64) (.pair (.i .i64) .bo))] (.i .i64) p.1 p.2=SV.pf [(.pair (.i .i64) (.pair (.i .i64) .bo)),(.pair (.i .i64) (.pair (.i .i64) .bo))] (.i .i64) p.1 p.2)/\(a+(1:Int))=d20.2.2/\True)/\((xs=d20.1/\nl=d20.2.1)/\(vals=vals/\(True/\(([]:List SV)=[])))/\True)) /\
 LoopP (λ(d2:(List (Int×Int×Bool))×Bool×Int) (q2:((List (Int×Int×Bool))×Bool×Int)->Prop) =>
  ((decide (d2.2.2<b))=true ->
   ∃ (e5:Bool×Int) (d50:(List (Int×Int×Bool))×Int),((True/\a=a/\b=b/\(SV.pf [(.pair (.i .i64) (.pair (.i .i64) .bo)),(.pair (.i .i64) (.pair (.i .i64) .bo))] (.i .i64) p.1 p.2=SV.pf [(.pair (.i .i64) (.pair (.i .i64) .bo)),(.pair (.i .i64) (.pair (.i .i64) .bo))] (.i .i64) p.1 p.2)/\d2.2.2=e5.2/\d2.2.2=d50.2/\True)/\((d2.1=d50.1/\d2.2.1=e5.1)/\(vals=vals/\(True/\(([]:List SV)=[])))/\True)) /\
   LoopP (λ(d5:(List (Int×Int×Bool))×Int) (q5:((List (Int×Int×Bool))×Int)->Prop) =>
    ((decide (d5.2 > a))=true->0<=d5.2)/\((decide (d5.2 > a))=true->d5.2<(List.length d5.1))/\((decide (d5.2 > a))=true->InK .i64 (d5.2-(1:Int)))/\((decide (d5.2 > a))=true->0<=(d5.2-(1:Int)))/\((decide (d5.2 > a))=true->(d5.2-(1:Int))<(List.length d5.1))/\((decide (d5.2 > a))=true->p.1 (((gD d5.1 d5.2 (0,(0,false))).1,((gD d5.1 d5.2 (0,(0,false))).2.1,(gD d5.1 d5.2 (0,(0,false))).2.2)),((gD d5.1 (d5.2-(1:Int)) (0,(0,false))).1,((gD d5.1 (d5.2-(1:Int)) (0,(0,false))).2.1,(gD d5.1 (d5.2-(1:Int)) (0,(0,false))).2.2))))/\(((decide (d5.2 > a))&&(decide ((p.2 (((gD d5.1 d5.2 (0,(0,false))).1,((gD d5.1 d5.2 (0,(0,false))).2.1,(gD d5.1 d5.2 (0,(0,false))).2.2)),((gD d5.1 (d5.2-(1:Int)) (0,(0,false))).1,((gD d5.1 (d5.2-(1:Int)) (0,(0,false))).2.1,(gD d5.1 (d5.2-(1:Int)) (0,(0,false))).2.2))))<(0:Int))))=true ->
     (I64 (d5.2-(1:Int)))/\(I64 (d5.2-(1:Int)))/\(0<=(d5.2-(1:Int)))/\((d5.2-(1:Int))<(List.length d5.1))/\(0<=d5.2)/\(d5.2<(List.length d5.1))/\(0<=d5.2)/\(d5.2<(List.length d5.1))/\(0<=(d5.2-(1:Int)))/\((d5.2-(1:Int))<(List.length (sT d5.1 d5.2 ((gD d5.1 (d5.2-(1:Int)) (0,(0,false))).1,((gD d5.1 (d5.2-(1:Int)) (0,(0,false))).2.1,(gD d5.1 (d5.2-(1:Int)) (0,(0,false))).2.2)))))/\(I64 (d5.2-(1:Int)))/\(∃ d6:(List (Int×Int×Bool))×Int,((True/\a=a/\b=b/\(SV.pf [(.pair (.i .i64) (.pair (.i .i64) .bo)),(.pair (.i .i64) (.pair (.i .i64) .bo))] (.i .i64) p.1 p.2=SV.pf [(.pair (.i .i64) (.pair (.i .i64) .bo)),(.pair (.i .i64) (.pair (.i .i64) .bo))] (.i .i64) p.1 p.2)/\e5.2=e5.2/\(d5.2-(1:Int))=d6.2/\True)/\(((sT (sT d5.1 d5.2 ((gD d5.1 (d5.2-(1:Int)) (0,(0,false))).1,((gD d5.1 (d5.2-(1:Int)) (0,(0,false))).2.1,(gD d5.1 (d5.2-(1:Int)) (0,(0,false))).2.2))) (d5.2-(1:Int)) ((gD d5.1 d5.2 (0,(0,false))).1,((gD d5.1 d5.2 (0,(0,false))).2.1,(gD d5.1 d5.2 (0,(0,false))).2.2)))=d6.1/\e5.1=e5.1)/\(vals=vals/\(True/\(([]:List SV)=[])))/\True))/\q5 d6)) /\
    (((decide (d5.2 > a))&&(decide ((p.2 (((gD d5.1 d5.2 (0,(0,false))).1,((gD d5.1 d5.2 (0,(0,false))).2.1,(gD d5.1 d5.2 (0,(0,false))).2.2)),((gD d5.1 (d5.2-(1:Int)) (0,(0,false))).1,((gD d5.1 (d5.2-(1:Int)) (0,(0,false))).2.1,(gD d5.1 (d5.2-(1:Int)) (0,(0,false))).2.2))))<(0:Int))))=false ->
     (I64 (e5.2+(1:Int)))/\(∃ d7:(List (Int×Int×Bool))×Bool×Int,((True/\a=a/\b=b/\(SV.pf [(.pair (.i .i64) (.pair (.i .i64) .bo)),(.pair (.i .i64) (.pair (.i .i64) .bo))] (.i .i64) p.1 p.2=SV.pf [(.pair (.i .i64) (.pair (.i .i64) .bo)),(.pair (.i .i64) (.pair (.i .i64) .bo))] (.i .i64) p.1 p.2)/\(e5.2+(1:Int))=d7.2.2/\True)/\((d5.1=d7.1/\e5.1=d7.2.1)/\(vals=vals/\(True/\(([]:List SV)=[])))/\True))/\q2 d7))) d50) /\
  ((decide (d2.2.2<b))=false ->
   (vals=vals/\(True/\(([]:List SV)=[]))/\((([]:List SV)=[]))/\(d2.1=(TF p.2 xs a.toNat b.toNat)/\d2.2.1=nl)))) d20
def Z8:Cx:=⟨[],[],53,[],0,[],[],[],[],false,[],[],[],[]⟩
def Z6 (xs:List (Int×Int×Bool)) (nl:Bool) (a:Int) (b:Int) (p:((Int×Int×Bool)×(Int×Int×Bool)->Prop)×((Int×Int×Bool)×(Int×Int×Bool)->Int)) (vals:List Value):List (Nat×LoopAnn):=[(0,⟨Unit,(List (Int×Int×Bool))×Bool×Int,[0,1,2,3,8],λe x=>[.lst 0,.val (.i .i64) a,.val (.i .i64) b,.pf [(.pair (.i .i64) (.pair (.i .i64) .bo)),(.pair (.i .i64) (.pair (.i .i64) .bo))] (.i .i64) p.1 p.2,.val (.i .i64) x.2.2],λe x=>[(0,.slot 0,.lst 40 (.pair (.i .i64) (.pair (.i .i64) .bo)) x.1 x.2.1),(4000000,.key 4000000,.stk [.lst 0] vals)]⟩),
 (2,⟨Bool×Int,(List (Int×Int×Bool))×Int,[0,1,2,3,8,9],λe x=>[.lst 0,.val (.i .i64) a,.val (.i .i64) b,.pf [(.pair (.i .i64) (.pair (.i .i64) .bo)),(.pair (.i .i64) (.pair (.i .i64) .bo))] (.i .i64) p.1 p.2,.val (.i .i64) e.2,.val (.i .i64) x.2],λe x=>[(0,.slot 0,.lst 40 (.pair (.i .i64) (.pair (.i .i64) .bo)) x.1 e.1),(4000000,.key 4000000,.stk [.lst 0] vals)]⟩)]
theorem Jz (xs:List (Int×Int×Bool)) (nl:Bool) (d:Int×Int×(((Int×Int×Bool)×(Int×Int×Bool)->Prop)×((Int×Int×Bool)×(Int×Int×Bool)->Int))):(∀ vals,gwp Z8 (Z6 xs nl d.1 d.2.1 d.2.2 vals) c81 0 (Q39 vals [] (Z1 xs nl d) (.lst 40 (.pair (.i .i64) (.pair (.i .i64) .bo)) (Q_ xs nl d) nl) (.lst 0)) (Mz 53 (.lst 0) (.lst 40 (.pair (.i .i64) (.pair (.i .i64) .bo)) xs nl) vals (AL.can Z7 d)))=Qj xs nl d.1 d.2.1 d.2.2:=by kernel_rfl
abbrev JA:Prop:=XOk Tryd.prog 81 Qw
theorem Jy (h:∀ (xs:List (Int×Int×Bool)) (nl:Bool) (a:Int) (b:Int) (p:((Int×Int×Bool)×(Int×Int×Bool)->Prop)×((Int×Int×Bool)×(Int×Int×Bool)->Int)),(0<=a/\a<=b/\b<=xs.length/\xs.length<=12/\(∀ x∈xs,∀ y∈xs,p.1 (x,y)))->Qj xs nl a b p):XOk Tryd.prog 81 Qw :=
 CM Z0k mixed (Cc .nil 3) (C:=Z8) ⟨.nil,XsOk.nil,ItsOk.nil,YlOk.nil,IysOk.nil,XfOk.nil⟩ (L:=λxs nl (d:Int×Int×(((Int×Int×Bool)×(Int×Int×Bool)->Prop)×((Int×Int×Bool)×(Int×Int×Bool)->Int))) vals=>Z6 xs nl d.1 d.2.1 d.2.2 vals) (V:=λxs nl (d:Int×Int×(((Int×Int×Bool)×(Int×Int×Bool)->Prop)×((Int×Int×Bool)×(Int×Int×Bool)->Int)))=>Qj xs nl d.1 d.2.1 d.2.2) Jz λxs nl d hp=>h xs nl d.1 d.2.1 d.2.2 hp
theorem Jt:JA:=Jy λxs nl a b p h=>by
 obtain⟨h1,h2,h3,h4,h5⟩:=h;unfold Qj;(try delta lI gD sT I64 J_ pj8 pj4);intro vals;have hI:∀ e:Int,-1000<=e->e<=1000->InK .i64 e:=λe _ _=>by simp only[Qd];omega
 obtain⟨a,rfl⟩:∃ n:Nat,a=n:=⟨a.toNat,by omega⟩;obtain⟨b,rfl⟩:∃ n:Nat,b=n:=⟨b.toNat,by omega⟩;simp only[zf];refine⟨hI _ (by omega) (by omega),(),(xs,nl,(a:Int)+1),(by and_intros<;>first|rfl|trivial|simp),?_⟩;refine⟨λd=>∃ n:Nat,d.2.2=(a:Int)+1+n/\(n=0\/a+1+n<=b)/\nl=d.2.1/\d.1=Q4b (λx y=>decide (p.2 (x,y)<0)) a n xs,λd=>(1000-d.2.2).toNat,⟨0,by simp,.inl rfl,rfl,rfl⟩,?_⟩;rintro⟨ys,jY,i⟩ ⟨n,e1,e2,e3,e4⟩;dsimp only at e1 e2 e3 e4 |-;subst e1 e3;refine⟨λc=>?_,λc=>?_⟩
 .have c:a+1+n<b:=by simp at c;omega
  have hp:ys.Perm xs:=by rw[e4];exact Hd _ (by omega)
  have hlen:=hp.length_eq;refine⟨(nl,(a:Int)+1+n),(ys,(a:Int)+1+n),(by and_intros<;>first|rfl|trivial|simp),?_⟩;dsimp only;refine⟨λd=>∃ j:Nat,d.2=j/\j<=a+1+n/\d.1.Perm xs/\F8 (λx y=>decide (p.2 (x,y)<0)) a j d.1=Q4b (λx y=>decide (p.2 (x,y)<0)) a (n+1) xs,λd=>d.2.toNat,⟨a+1+n,by simp,zd _,hp,by rw[e4];rfl⟩,?_⟩;rintro⟨zs,j'⟩ ⟨j,f1,f2,f3,f4⟩;dsimp only at f1 f3 f4 |-;subst f1;have vS:=f3.length_eq;have nj:((j:Int)-1).toNat=j-1:=by omega
  simp only[zf,nj];refine⟨λg=>by omega,λg=>by omega,λg=>hI _ (by omega) (by omega),λg=>by simp at g;omega,λg=>by omega,λg=>by rw[Q9 (show j<zs.length by omega),Q9 (show j-1<zs.length by omega)];exact h5 _ (f3.mem_iff.1 (zl _)) _ (f3.mem_iff.1 (zl _)),λg=>?_,λg=>?_⟩
  .have g:a<j/\p.2 (zs.getD j (0,(0,false)),zs.getD (j-1) (0,(0,false)))<0:=by simpa using g
   refine⟨hI _ (by omega) (by omega),hI _ (by omega) (by omega),by omega,by omega,by omega,by omega,by omega,by omega,by omega,by rw[xj];omega,hI _ (by omega) (by omega),((zs.set j (zs.getD (j-1) (0,(0,false)))).set (j-1) (zs.getD j (0,(0,false))),(j:Int)-1),(by and_intros<;>first|rfl|trivial|simp),⟨j-1,by omega,by omega,(Q03 (by omega) (by omega)).trans f3,Q6f f4 g.1 g.2⟩,by dsimp only;omega⟩
  .refine⟨hI _ (by omega) (by omega),(zs,nl,(a:Int)+1+n+1),(by and_intros<;>first|rfl|trivial|simp),⟨n+1,by simp;omega,by omega,rfl,Q8w f4 λhh=>?_⟩,by dsimp only;omega⟩;have h7:p.2 (zs.getD j (0,(0,false)),zs.getD (j-1) (0,(0,false)))<0:=hh.2;have h8:a<j:=hh.1;rw[zn (show (j:Int) > a by omega),zn h7] at g;cases g
 .have hn:n=b-a-1:=by simp at c;omega
  rw[e4,hn];exact(by and_intros<;>first|rfl|trivial|simp)
def Zs:AL (Int×Int×Int×(((Int×Int×Bool)×(Int×Int×Bool)->Prop)×((Int×Int×Bool)×(Int×Int×Bool)->Int))):=(.cons (.k (.i .i64)) (.cons (.k (.i .i64)) (.cons (.k (.i .i64)) (.one (.fn [(.pair (.i .i64) (.pair (.i .i64) .bo)),(.pair (.i .i64) (.pair (.i .i64) .bo))] (.i .i64))))))
def Xj (xs:List (Int×Int×Bool)) (nl:Bool) (d:Int×Int×Int×(((Int×Int×Bool)×(Int×Int×Bool)->Prop)×((Int×Int×Bool)×(Int×Int×Bool)->Int))):Prop:=d.1=0/\d.2.1=xs.length/\xs.length<=12/\(∀ x∈xs,∀ y∈xs,d.2.2.2.1 (x,y))
def Zq (xs:List (Int×Int×Bool)) (nl:Bool) (d:Int×Int×Int×(((Int×Int×Bool)×(Int×Int×Bool)->Prop)×((Int×Int×Bool)×(Int×Int×Bool)->Int))):SV:=.tup []
def Zi (xs:List (Int×Int×Bool)) (nl:Bool) (d:Int×Int×Int×(((Int×Int×Bool)×(Int×Int×Bool)->Prop)×((Int×Int×Bool)×(Int×Int×Bool)->Int))):List (Int×Int×Bool):=(TF d.2.2.2.2 xs 0 xs.length)
def QL:XSp:=Q0r (gap [] 3) (Q36 40 (.pair (.i .i64) (.pair (.i .i64) .bo)) Zs Xj Zq Zi)
def Qo (xs:List (Int×Int×Bool)) (nl:Bool) (a:Int) (b:Int) (li:Int) (p:((Int×Int×Bool)×(Int×Int×Bool)->Prop)×((Int×Int×Bool)×(Int×Int×Bool)->Int)):Prop:=∀ vals:List Value,
 ∃ (e3:Unit) (d30:Unit),((True/\a=a/\b=b/\li=li/\(SV.pf [(.pair (.i .i64) (.pair (.i .i64) .bo)),(.pair (.i .i64) (.pair (.i .i64) .bo))] (.i .i64) p.1 p.2=SV.pf [(.pair (.i .i64) (.pair (.i .i64) .bo)),(.pair (.i .i64) (.pair (.i .i64) .bo))] (.i .i64) p.1 p.2)/\true=true/\true=true/\True)/\((xs=xs/\nl=nl)/\(vals=vals/\(True/\(([]:List SV)=[])))/\True)) /\
 LoopP (λ(d3:Unit) (q3:(Unit)->Prop) =>
  (I64 (b-a))/\((decide ((b-a)<=(12:Int)))=true ->
   (0<=a/\a<=b/\b<=xs.length/\xs.length<=12/\(∀ x∈xs,∀ y∈xs,(λ(x1:(Int×Int×Bool)×(Int×Int×Bool))=>p.1 ((x1.1.1,(x1.1.2.1,x1.1.2.2)),(x1.2.1,(x1.2.2.1,x1.2.2.2)))) (x,y)))/\(vals=vals/\(True/\(([]:List SV)=[]))/\((([]:List SV)=[]))/\((TF (λ(x1:(Int×Int×Bool)×(Int×Int×Bool))=>(p.2 ((x1.1.1,(x1.1.2.1,x1.1.2.2)),(x1.2.1,(x1.2.2.1,x1.2.2.2))))) xs a.toNat b.toNat)=(TF p.2 xs 0 xs.length)/\nl=nl))) /\
  ((decide ((b-a)<=(12:Int)))=false ->
   ((li==(0:Int))=true ->
    False) /\
   ((li==(0:Int))=false ->
    ((!true)=true ->
     False) /\
    ((!true)=false ->
     False)))) d30
def Zr:Cx:=⟨[],[],148,[],0,[(81,Qw),(82,Q6d),(83,Q6d),(84,Q6d)],[],[],[],false,[],[],[],[]⟩
def Zw (xs:List (Int×Int×Bool)) (nl:Bool) (a:Int) (b:Int) (li:Int) (p:((Int×Int×Bool)×(Int×Int×Bool)->Prop)×((Int×Int×Bool)×(Int×Int×Bool)->Int)) (vals:List Value):List (Nat×LoopAnn):=[(0,⟨Unit,Unit,[0,1,2,3,4,10,11],λe x=>[.lst 0,.val (.i .i64) a,.val (.i .i64) b,.val (.i .i64) li,.pf [(.pair (.i .i64) (.pair (.i .i64) .bo)),(.pair (.i .i64) (.pair (.i .i64) .bo))] (.i .i64) p.1 p.2,.val .bo true,.val .bo true],λe x=>[(0,.slot 0,.lst 40 (.pair (.i .i64) (.pair (.i .i64) .bo)) xs nl),(4000000,.key 4000000,.stk [.lst 0] vals)]⟩)]
theorem XA (xs:List (Int×Int×Bool)) (nl:Bool) (d:Int×Int×Int×(((Int×Int×Bool)×(Int×Int×Bool)->Prop)×((Int×Int×Bool)×(Int×Int×Bool)->Int))):(∀ vals,gwp Zr (Zw xs nl d.1 d.2.1 d.2.2.1 d.2.2.2 vals) c68 0 (Q39 vals [] (Zq xs nl d) (.lst 40 (.pair (.i .i64) (.pair (.i .i64) .bo)) (Zi xs nl d) nl) (.lst 0)) (Mz 148 (.lst 0) (.lst 40 (.pair (.i .i64) (.pair (.i .i64) .bo)) xs nl) vals (AL.can Zs d)))=Qo xs nl d.1 d.2.1 d.2.2.1 d.2.2.2:=by kernel_rfl
abbrev Xx:Prop:=XOk Tryd.prog 68 QL
theorem Xy (h:∀ (xs:List (Int×Int×Bool)) (nl:Bool) (a:Int) (b:Int) (li:Int) (p:((Int×Int×Bool)×(Int×Int×Bool)->Prop)×((Int×Int×Bool)×(Int×Int×Bool)->Int)),(a=0/\b=xs.length/\xs.length<=12/\(∀ x∈xs,∀ y∈xs,p.1 (x,y)))->Qo xs nl a b li p):XOk Tryd.prog 68 QL :=
 CM Z2v mixed (Cc .nil 3) (C:=Zr) ⟨.nil,(XsOk.cons Jt (XsOk.cons Cr (XsOk.cons Cr (XsOk.cons Cr XsOk.nil)))),ItsOk.nil,YlOk.nil,IysOk.nil,XfOk.nil⟩ (L:=λxs nl (d:Int×Int×Int×(((Int×Int×Bool)×(Int×Int×Bool)->Prop)×((Int×Int×Bool)×(Int×Int×Bool)->Int))) vals=>Zw xs nl d.1 d.2.1 d.2.2.1 d.2.2.2 vals) (V:=λxs nl (d:Int×Int×Int×(((Int×Int×Bool)×(Int×Int×Bool)->Prop)×((Int×Int×Bool)×(Int×Int×Bool)->Int)))=>Qo xs nl d.1 d.2.1 d.2.2.1 d.2.2.2) XA λxs nl d hp=>h xs nl d.1 d.2.1 d.2.2.1 d.2.2.2 hp
theorem Xm:Xx:=Xy λxs nl a b li p h=>by
 obtain⟨rfl,rfl,h2,h3⟩:=h;unfold Qo;(try delta lI gD sT I64 J_ pj8 pj4);intro vals;refine⟨(),(),(by and_intros<;>first|rfl|trivial|simp),?_⟩;refine⟨λ_=>True,λ_=>0,trivial,?_⟩;rintro⟨⟩ -
 refine⟨by simp only[Qd];omega,λ_=>⟨⟨by omega,by omega,by omega,h2,h3⟩,(by and_intros<;>first|rfl|trivial|simp)⟩,λc=>by simp at c;omega⟩
def QY:AL (((Int×Int×Bool)×(Int×Int×Bool)->Prop)×((Int×Int×Bool)×(Int×Int×Bool)->Int)):=(.one (.fn [(.pair (.i .i64) (.pair (.i .i64) .bo)),(.pair (.i .i64) (.pair (.i .i64) .bo))] (.i .i64)))
def Jc (xs:List (Int×Int×Bool)) (nl:Bool) (d:((Int×Int×Bool)×(Int×Int×Bool)->Prop)×((Int×Int×Bool)×(Int×Int×Bool)->Int)):Prop:=xs.length<=12/\(∀ x∈xs,∀ y∈xs,d.1 (x,y))
def QS (xs:List (Int×Int×Bool)) (nl:Bool) (d:((Int×Int×Bool)×(Int×Int×Bool)->Prop)×((Int×Int×Bool)×(Int×Int×Bool)->Int)):SV:=.tup []
def QO (xs:List (Int×Int×Bool)) (nl:Bool) (d:((Int×Int×Bool)×(Int×Int×Bool)->Prop)×((Int×Int×Bool)×(Int×Int×Bool)->Int)):List (Int×Int×Bool):=(TF d.2 xs 0 xs.length)
def Qr:XSp:=Q0r (gap [(32,Yy)] 3) (Q36 40 (.pair (.i .i64) (.pair (.i .i64) .bo)) QY Jc QS QO)
def Qg (xs:List (Int×Int×Bool)) (nl:Bool) (p:((Int×Int×Bool)×(Int×Int×Bool)->Prop)×((Int×Int×Bool)×(Int×Int×Bool)->Int)):Prop:=∀ vals:List Value,
 (InK .u64 (lI xs))/\(0<=(lI xs)/\(lI xs)<=255)/\((0:Int)=0/\(lI xs)=xs.length/\xs.length<=12/\(∀ x∈xs,∀ y∈xs,(λ(x1:(Int×Int×Bool)×(Int×Int×Bool))=>p.1 ((x1.1.1,(x1.1.2.1,x1.1.2.2)),(x1.2.1,(x1.2.2.1,x1.2.2.2)))) (x,y)))/\(vals=vals/\(True/\(([]:List SV)=[]))/\((([]:List SV)=[]))/\((TF (λ(x1:(Int×Int×Bool)×(Int×Int×Bool))=>(p.2 ((x1.1.1,(x1.1.2.1,x1.1.2.2)),(x1.2.1,(x1.2.2.1,x1.2.2.2))))) xs 0 xs.length)=(TF p.2 xs 0 xs.length)/\nl=nl))
def QZ:Cx:=⟨[],[(69,V1)],14,[],0,[(68,QL)],[],[],[],false,[],[],[],[]⟩
def Z0 (xs:List (Int×Int×Bool)) (nl:Bool) (p:((Int×Int×Bool)×(Int×Int×Bool)->Prop)×((Int×Int×Bool)×(Int×Int×Bool)->Int)) (vals:List Value):List (Nat×LoopAnn):=[]
theorem Jn (xs:List (Int×Int×Bool)) (nl:Bool) (d:((Int×Int×Bool)×(Int×Int×Bool)->Prop)×((Int×Int×Bool)×(Int×Int×Bool)->Int)):(∀ vals,gwp QZ (Z0 xs nl d vals) c51 0 (Q39 vals [] (QS xs nl d) (.lst 40 (.pair (.i .i64) (.pair (.i .i64) .bo)) (QO xs nl d) nl) (.lst 0)) (Mz 14 (.lst 0) (.lst 40 (.pair (.i .i64) (.pair (.i .i64) .bo)) xs nl) vals (AL.can QY d)))=Qg xs nl d:=by kernel_rfl
abbrev Jm:Prop:=XOk Tryd.prog 51 Qr
theorem Jk (h:∀ (xs:List (Int×Int×Bool)) (nl:Bool) (p:((Int×Int×Bool)×(Int×Int×Bool)->Prop)×((Int×Int×Bool)×(Int×Int×Bool)->Int)),(xs.length<=12/\(∀ x∈xs,∀ y∈xs,p.1 (x,y)))->Qg xs nl p):XOk Tryd.prog 51 Qr :=
 CM Z1a mixed (Cc (.cons Mo .nil) 3) (C:=QZ) ⟨(.cons PV .nil),(XsOk.cons Xm XsOk.nil),ItsOk.nil,YlOk.nil,IysOk.nil,XfOk.nil⟩ (L:=λxs nl (d:((Int×Int×Bool)×(Int×Int×Bool)->Prop)×((Int×Int×Bool)×(Int×Int×Bool)->Int)) vals=>Z0 xs nl d vals) (V:=λxs nl (d:((Int×Int×Bool)×(Int×Int×Bool)->Prop)×((Int×Int×Bool)×(Int×Int×Bool)->Int))=>Qg xs nl d) Jn λxs nl d hp=>h xs nl d hp
theorem Jb:Jm:=Jk λxs nl p h=>by unfold Qg;(try delta lI gD sT I64 J_ pj8 pj4);intro vals;have:=h.1;refine⟨by simp only[Hj];omega,⟨by omega,by omega⟩,⟨rfl,rfl,h.1,h.2⟩,?_⟩;exact(by and_intros<;>first|rfl|trivial|simp)
theorem Fq (a b:Int):PZ a b=max a b:=by unfold PZ;split<;>omega
section
variable (nm:Nat->Int) (wo:Nat->Bool) (n:Nat)
def arP (a i:Nat):Nat:=(a+i) % n
def ChR (a:Nat):List Nat->Prop
 |[]=>False
 |[o]=>o=0
 |j::i::t=>i<j/\j<n/\wo (arP n a j)=false/\nm (arP n a i)<nm (arP n a j)/\ChR a (i::t)
def inR (at_:Nat) (r:List Int) (m:Nat):List Int:=(List.range m).foldl (λr b=>if 0<r.getD b 0/\wo at_=false/\nm b<nm at_ then r.set at_ (PZ (r.getD at_ 0) (r.getD b 0+1)) else r) r
def NR (a:Nat):Nat->List Int
 |0=>(List.replicate n 0).set a 1
 |k+1=>inR nm wo (arP n a k) (NR a k) n
def Sa (a:Nat):Nat->Int
 |0=>0
 |k+1=>PZ (Sa a k) ((NR nm wo n a (k+1)).getD (arP n a k) 0)
def XL:Nat->Int
 |0=>0
 |k+1=>if wo k=true then XL k else PZ (XL k) (Sa nm wo n k n)
end
section
variable {nm:Nat->Int}{wo:Nat->Bool}{n:Nat}
theorem Pg (hn:0<n) (a i:Nat):arP n a i<n:=wc _ hn
theorem CX {a i j:Nat}(ha:a<n) (hi:i<n) (hj:j<n) (h:arP n a i=arP n a j):i=j:=by
 unfold arP at h;have e:∀ k,k<n->(a+k) % n=if a+k<n then a+k else a+k-n:=λk hk=>by
  split
  .exact xm (by assumption)
  .rw[Nat.mod_eq_sub_mod (by omega),xm (by omega)]
 rw[e i hi,e j hj] at h;split at h<;>split at h<;>omega
theorem CW {a:Nat}(ha:a<n):arP n a 0=a:=xm ha
theorem Q5k {a p:Nat}(ha:a<n) (hp:p<n):∃ i,i<n/\arP n a i=p:=by
 by_cases h:a<=p
 .exact⟨p-a,by omega,by unfold arP;rw[show a+(p-a)=p by omega,xm hp]⟩
 .exact⟨p+n-a,by omega,by unfold arP;rw[show a+(p+n-a)=p+n by omega,Nat.add_mod_right,xm hp]⟩
theorem IS {at_:Nat}{r:List Int}{m:Nat}:inR nm wo at_ r (m+1)=if 0<(inR nm wo at_ r m).getD m 0/\wo at_=false/\nm m<nm at_ then (inR nm wo at_ r m).set at_ (PZ ((inR nm wo at_ r m).getD at_ 0) ((inR nm wo at_ r m).getD m 0+1)) else inR nm wo at_ r m:=by unfold inR;rw[List.range_succ,List.foldl_append];rfl
theorem Tu {r:List Int}{i j:Nat}{v:Int}(hi:i<r.length):(r.set i v).getD j 0=if i=j then v else r.getD j 0:=by
 rw[ze,xx];by_cases h:i=j
 .subst h;rw[z6 rfl,z6 rfl,z6 hi];rfl
 .rw[z0 h,z0 h,ze]
theorem T2 {at_:Nat}{r:List Int}(dm:at_<r.length):∀ m,m<=r.length->(inR nm wo at_ r m).length=r.length/\(∀ p,p≠at_->(inR nm wo at_ r m).getD p 0=r.getD p 0)/\r.getD at_ 0<=(inR nm wo at_ r m).getD at_ 0 /\
  (∀ b,b<m->0<r.getD b 0->wo at_=false->nm b<nm at_->r.getD b 0+1<=(inR nm wo at_ r m).getD at_ 0) /\
  ((inR nm wo at_ r m).getD at_ 0=r.getD at_ 0\/∃ b,b<m/\0<r.getD b 0/\wo at_=false/\nm b<nm at_/\(inR nm wo at_ r m).getD at_ 0=r.getD b 0+1)
 |0,_=>⟨rfl,λ_ _=>rfl,Int.le_refl _,λb hb=>by omega,.inl rfl⟩
 |m+1,hm=>by
  obtain⟨h1,h2,h3,h4,h5⟩:=T2 dm m (by omega);rw[IS];by_cases hc:0<(inR nm wo at_ r m).getD m 0/\wo at_=false/\nm m<nm at_
  .rw[z6 hc];have eU:m≠at_:=λe=>by rw[e] at hc;omega
   have hb:=h2 m eU;have eg:=Fq ((inR nm wo at_ r m).getD at_ 0) ((inR nm wo at_ r m).getD m 0+1);have bw:∀ p,((inR nm wo at_ r m).set at_ (PZ ((inR nm wo at_ r m).getD at_ 0) ((inR nm wo at_ r m).getD m 0+1))).getD p 0=if at_=p then PZ ((inR nm wo at_ r m).getD at_ 0) ((inR nm wo at_ r m).getD m 0+1) else (inR nm wo at_ r m).getD p 0:=λp=>Tu (by rw[h1];exact dm)
   refine⟨by rw[xj];exact h1,λp hp=>?_,?_,λb bE a_ iC ij=>?_,?_⟩
   .rw[bw,z0 (Ne.symm hp)];exact h2 p hp
   .rw[bw,z6 rfl];omega
   .rw[bw,z6 rfl];by_cases e:b=m
    .subst e;omega
    .have:=h4 b (by omega) a_ iC ij;omega
   .rw[bw,z6 rfl];by_cases e:(inR nm wo at_ r m).getD at_ 0<=(inR nm wo at_ r m).getD m 0+1
    .exact .inr ⟨m,by omega,by omega,hc.2.1,hc.2.2,by omega⟩
    .rcases h5 with h5|⟨b,g1,g2,g3,g4,g5⟩
     .exact .inl (by omega)
     .exact .inr ⟨b,by omega,g2,g3,g4,by omega⟩
  .rw[z0 hc];refine⟨h1,h2,h3,λb bE a_ iC ij=>?_,?_⟩
   .by_cases e:b=m
    .subst e;have eU:b≠at_:=λe=>by rw[e] at ij;omega
     exact(hc ⟨by rw[h2 b eU];exact a_,iC,ij⟩).elim
    .exact h4 b (by omega) a_ iC ij
   .rcases h5 with h5|⟨b,g1,g2⟩
    .exact .inl h5
    .exact .inr ⟨b,by omega,g2⟩
theorem Q75 {a:Nat}(hn:0<n):∀ {j:Nat}{t:List Nat},ChR nm wo n a (j::t)->j<n
 |j,[],h=>by have:j=0:=h;omega
 |j,i::t,h=>h.2.1
theorem Ew {a:Nat}(ha:a<n):∀ k,k<=n->(NR nm wo n a k).length=n/\(∀ j,j<n->0<=(NR nm wo n a k).getD (arP n a j) 0/\(0<(NR nm wo n a k).getD (arP n a j) 0->(j<k\/j=0)/\∃ t,ChR nm wo n a (j::t)/\((j::t).length:Int)=(NR nm wo n a k).getD (arP n a j) 0)) /\
  (∀ j t,(j<k\/j=0)->ChR nm wo n a (j::t)->((j::t).length:Int)<=(NR nm wo n a k).getD (arP n a j) 0)
 |0,_=>by
  have hn:0<n:=by omega
  have hl:(List.replicate n (0:Int)).length=n:=xQ;have hz:∀ p,(List.replicate n (0:Int)).getD p 0=0:=λp=>by
   rw[ze];cases h:(List.replicate n (0:Int))[p]? with
   |none=>rfl
   |some x=>exact(List.mem_replicate.1 (x8 h)).2
  have hg:∀ j,(NR nm wo n a 0).getD j 0=if a=j then 1 else 0:=λj=>by show ((List.replicate n (0:Int)).set a 1).getD j 0=_;rw[Tu (by rw[hl];exact ha),hz]
  refine⟨by show ((List.replicate n (0:Int)).set a 1).length=n;rw[xj,hl],λj hj=>?_,λj t hj hc=>?_⟩
  .rw[hg];refine⟨by split<;>omega,λh=>?_⟩;have e:a=arP n a j:=by
    by_cases e:a=arP n a j
    .exact e
    .rw[z0 e] at h;omega
   have fb:j=0:=CX ha hj hn (by rw[CW ha];exact e.symm);subst fb;exact⟨.inr rfl,[],rfl,by rw[z6 e];rfl⟩
  .have fb:j=0:=by omega
   subst fb;rw[hg,CW ha,z6 rfl];cases t with
   |nil=>simp
   |cons i t=>have:i<0:=hc.1;omega
 |k+1,hk=>by
  have hn:0<n:=by omega
  obtain⟨h1,h2,h3⟩:=Ew ha k (by omega);have dm:arP n a k<(NR nm wo n a k).length:=by rw[h1];exact Pg hn a k
  obtain⟨g1,g2,g3,g4,g5⟩:=T2 (nm:=nm) (wo:=wo) dm n (by omega);have e:NR nm wo n a (k+1)=inR nm wo (arP n a k) (NR nm wo n a k) n:=rfl;rw[e];have bZ:∀ j,j<n->j≠k->(inR nm wo (arP n a k) (NR nm wo n a k) n).getD (arP n a j) 0=(NR nm wo n a k).getD (arP n a j) 0:=λj hj aB=>g2 _ λe=>aB (CX ha hj (by omega) e);refine⟨g1.trans h1,λj hj=>?_,λj t hj hc=>?_⟩
  .by_cases cM:j=k
   .subst cM;have hb:=(h2 j hj).1;refine⟨by omega,λhp=>⟨.inl (by omega),?_⟩⟩;rcases g5 with g5|⟨b,b1,b2,b3,b4,b5⟩
    .rw[g5] at hp |-;obtain⟨_,t,q1,q2⟩:=(h2 j hj).2 hp;exact⟨t,q1,q2⟩
    .obtain⟨i,hi,rfl⟩:=Q5k ha b1;obtain⟨ob,t,q1,q2⟩:=(h2 i hi).2 b2;have b_:i<j:=by
      rcases ob with ob|ob
      .exact ob
      .subst ob;rcases Nat.eq_zero_or_pos j with e0|e0
       .subst e0;omega
       .exact e0
     refine⟨i::t,⟨b_,hj,b3,b4,q1⟩,?_⟩;rw[b5,<-q2];simp
   .rw[bZ j hj cM];refine⟨(h2 j hj).1,λhp=>?_⟩;obtain⟨q0,q⟩:=(h2 j hj).2 hp;exact⟨by omega,q⟩
  .have aM:=Q75 hn hc;by_cases cM:j=k
   .subst cM;cases t with
    |nil =>have fb:j=0:=hc;have:=h3 j [] (.inr fb) hc;omega
    |cons i t =>
     obtain⟨c1,c2,c3,c4,c5⟩:=hc;have hi:=h3 i t (.inl c1) c5;have bp:0<(NR nm wo n a j).getD (arP n a i) 0:=by simp only[zG] at hi;omega
     have:=g4 (arP n a i) (Pg hn a i) bp c3 c4;simp only[zG] at hi |-;omega
   .rw[bZ j aM cM];exact h3 j t (by omega) hc
theorem E_ {a:Nat}(ha:a<n):∀ k,k<=n->0<=Sa nm wo n a k/\(∀ j t,j<k->ChR nm wo n a (j::t)->((j::t).length:Int)<=Sa nm wo n a k)/\(Sa nm wo n a k=0\/∃ j t,j<k/\ChR nm wo n a (j::t)/\((j::t).length:Int)=Sa nm wo n a k)
 |0,_=>⟨Int.le_refl _,λj t h=>by omega,.inl rfl⟩
 |k+1,hk=>by
  obtain⟨h1,h2,h3⟩:=E_ ha k (by omega);obtain⟨_,r2,r3⟩:=Ew (nm:=nm) (wo:=wo) ha (k+1) hk;have e:Sa nm wo n a (k+1)=PZ (Sa nm wo n a k) ((NR nm wo n a (k+1)).getD (arP n a k) 0):=rfl;have eg:=Fq (Sa nm wo n a k) ((NR nm wo n a (k+1)).getD (arP n a k) 0);obtain⟨p1,p2⟩:=r2 k (by omega);rw[e];refine⟨by clear p2;omega,λj t hj hc=>?_,?_⟩
  .by_cases cM:j=k
   .subst cM;have:=r3 j t (.inl (by clear p2;omega)) hc;clear p2;omega
   .have:=h2 j t (by clear p2;omega) hc;clear p2;omega
  .by_cases hle:Sa nm wo n a k<=(NR nm wo n a (k+1)).getD (arP n a k) 0
   .by_cases hz:(NR nm wo n a (k+1)).getD (arP n a k) 0=0
    .exact .inl (by clear p2;omega)
    .obtain⟨_,t,q1,q2⟩:=p2 (by clear p2;omega);exact .inr ⟨k,t,by clear p2;omega,q1,by clear p2;omega⟩
   .rcases h3 with h3|⟨j,t,q1,q2,q3⟩
    .exact .inl (by clear p2;omega)
    .exact .inr ⟨j,t,by clear p2;omega,q2,by clear p2;omega⟩
theorem Cb:∀ k,k<=n->0<=XL nm wo n k/\(∀ a,a<k->wo a=false->∀ j t,ChR nm wo n a (j::t)->((j::t).length:Int)<=XL nm wo n k)/\(XL nm wo n k=0\/∃ a,a<k/\wo a=false/\∃ j t,ChR nm wo n a (j::t)/\((j::t).length:Int)=XL nm wo n k)
 |0,_=>⟨Int.le_refl _,λa h=>by omega,.inl rfl⟩
 |k+1,hk=>by
  obtain⟨h1,h2,h3⟩:=Cb k (by omega);obtain⟨m1,m2,m3⟩:=E_ (nm:=nm) (wo:=wo) (show k<n by omega) n (zd _);simp only[XL];by_cases hw:wo k=true
  .rw[z6 hw];refine⟨h1,λa ha eH j t hc=>?_,?_⟩
   .by_cases e:a=k
    .subst e;rw[hw] at eH;cases eH
    .exact h2 a (by omega) eH j t hc
   .rcases h3 with h3|⟨a,q1,q2⟩
    .exact .inl h3
    .exact .inr ⟨a,by omega,q2⟩
  .rw[z0 hw];have hw:wo k=false:=by simpa using hw
   have eg:=Fq (XL nm wo n k) (Sa nm wo n k n);refine⟨by omega,λa ha eH j t hc=>?_,?_⟩
   .by_cases e:a=k
    .subst e;have:=m2 j t (Q75 (by omega) hc) hc;omega
    .have:=h2 a (by omega) eH j t hc;omega
   .by_cases hle:XL nm wo n k<=Sa nm wo n k n
    .rcases m3 with m3|⟨j,t,q1,q2,q3⟩
     .exact .inl (by omega)
     .exact .inr ⟨k,by omega,hw,j,t,q2,by omega⟩
    .rcases h3 with h3|⟨a,q1,q2,j,t,q3,q4⟩
     .exact .inl (by omega)
     .exact .inr ⟨a,by omega,q2,j,t,q3,by omega⟩
end
def kpL (kp:Nat->Bool) (n:Nat):List Nat:=(List.range n).filter kp
def Z36 (l:List Int):Prop:=∃ A B,l=A++B/\(B++A).Pairwise (·<·)
def Ll (n a p:Nat):Nat:=if a<=p then p-a else p+n-a
section
variable {nm:Nat->Int}{wo:Nat->Bool}{n:Nat}
theorem BI {a p:Nat}(ha:a<n) (hp:p<n):Ll n a p<n/\arP n a (Ll n a p)=p:=by
 unfold Ll arP;split
 .exact⟨by omega,by rw[show a+(p-a)=p by omega,xm hp]⟩
 .exact⟨by omega,by rw[show a+(p+n-a)=p+n by omega,Nat.add_mod_right,xm hp]⟩
theorem Rh {kp:Nat->Bool}{p:Nat}:p∈kpL kp n<->p<n/\kp p=true:=by unfold kpL;rw[zT,zW]
theorem HE (kp:Nat->Bool) (n:Nat):(kpL kp n).Pairwise (·<·):=List.Pairwise.filter _ List.pairwise_lt_range
theorem Pa {a:Nat}:∀ {L:List Nat},L.Pairwise (·<·)->L=L.filter (λp=>decide (p<a))++L.filter (λp=>!decide (p<a))
 |[],_=>rfl
 |x::t,h=>by
  obtain⟨h1,h2⟩:=x_.1 h;by_cases hx:x<a
  .rw[List.filter_cons_of_pos (by simpa using hx),List.filter_cons_of_neg (by simpa using hx),xu,<-Pa h2]
  .have e:t.filter (λp=>decide (p<a))=[]:=List.filter_eq_nil_iff.2 λy hy=>by have:=h1 y hy;simp;omega
   have e2:t.filter (λp=>!decide (p<a))=t:=List.filter_eq_self.2 λy hy=>by have:=h1 y hy;simp;omega
   rw[List.filter_cons_of_neg (by simpa using hx),List.filter_cons_of_pos (by simpa using hx),e,e2];rfl
theorem AQ {a:Nat}(ha:a<n) (eH:wo a=false):∀ {R:List Nat},ChR nm wo n a R->R≠[]/\R.Pairwise (λx y=>y<x/\nm (arP n a y)<nm (arP n a x))/\∀ o∈R,o<n/\wo (arP n a o)=false
 |[],h=>h.elim
 |[o],h=>by have h0:o=0:=h;subst h0;refine⟨by simp,List.pairwise_singleton _ _,λo ho=>?_⟩;rw[zI.1 ho,CW ha];exact⟨by omega,eH⟩
 |j::i::t,h=>by
  obtain⟨h1,h2,h3,h4,h5⟩:=h;obtain⟨g1,g2,g3⟩:=AQ ha eH h5;refine⟨by simp,List.Pairwise.cons (λy hy=>?_) g2,λo ho=>?_⟩
  .rcases zA.1 hy with rfl|hy
   .exact⟨h1,h4⟩
   .have:=(x_.1 g2).1 y hy;exact⟨by omega,by omega⟩
  .rcases zA.1 ho with rfl|ho
   .exact⟨h2,h3⟩
   .exact g3 o ho
theorem Q6x {a:Nat}:∀ {R:List Nat}(aB:R≠[]),R.getLast aB=0->R.Pairwise (λx y=>y<x/\nm (arP n a y)<nm (arP n a x))->(∀ o∈R,o<n/\wo (arP n a o)=false)->ChR nm wo n a R
 |[],h,_,_,_=>(h rfl).elim
 |[o],_,h,_,_=>h
 |j::i::t,_,h,hp,ho=>by obtain⟨p1,p2⟩:=x_.1 hp;have h1:=p1 i (zp ..);have h2:=ho j (zp ..);exact⟨h1.1,h2.1,h2.2,h1.2,Q6x (R:=i::t) (by simp) (by rw[List.getLast_cons (by simp)] at h;exact h) p2 λo hm=>ho o (zo _ hm)⟩
theorem Q8d {R:List Nat}{f:Nat->Int}(h:R.Pairwise (λx y=>y<x/\f y<f x)) {x y:Nat}(hx:x∈R) (hy:y∈R) (ai:x<y):f x<f y:=by
 obtain⟨i,hi,rfl⟩:=List.getElem_of_mem hx;obtain⟨j,hj,rfl⟩:=List.getElem_of_mem hy;have hp:=List.pairwise_iff_getElem.1 h;rcases Nat.lt_trichotomy i j with h1|h1|h1
 .have:=(hp i j hi hj h1).1;omega
 .subst h1;omega
 .exact(hp j i hj hi h1).2
theorem Q1h {a:Nat}(ha:a<n) (eH:wo a=false) {R:List Nat}(hc:ChR nm wo n a R):∃ kp:Nat->Bool,(∀ p,kp p=true->p<n/\wo p=false)/\Z36 ((kpL kp n).map nm)/\(kpL kp n).length=R.length:=by
 obtain⟨h1,h2,h3⟩:=AQ ha eH hc;have aN:∀ p,p∈kpL (λp=>decide (p∈R.map (arP n a))) n<->p∈R.map (arP n a):=λp=>by rw[Rh,zr];refine⟨λh=>h.2,λh=>⟨?_,h⟩⟩;obtain⟨o,ho,rfl⟩:=zB.1 h;exact Pg (by omega) a o
 have aR:∀ p,p∈kpL (λp=>decide (p∈R.map (arP n a))) n->Ll n a p∈R/\p=arP n a (Ll n a p):=λp hp=>by obtain⟨o,ho,rfl⟩:=zB.1 ((aN p).1 hp);have ai:arP n a o<n:=Pg (by omega) a o;obtain⟨q1,q2⟩:=BI ha ai;have:Ll n a (arP n a o)=o:=CX ha q1 (h3 o ho).1 q2;rw[this];exact⟨ho,rfl⟩
 refine⟨λp=>decide (p∈R.map (arP n a)),λp hp=>?_,?_,?_⟩
 .obtain⟨o,ho,rfl⟩:=zB.1 (zk hp);exact⟨Pg (by omega) a o,(h3 o ho).2⟩
 .have hs:=HE (λp=>decide (p∈R.map (arP n a))) n;have cZ:=Pa (a:=a) hs;have ai:∀ p∈kpL (λp=>decide (p∈R.map (arP n a))) n,p<n:=λp hp=>(Rh.1 hp).1;generalize kpL (λp=>decide (p∈R.map (arP n a))) n=L at *
  refine⟨(L.filter λp=>decide (p<a)).map nm,(L.filter λp=>!decide (p<a)).map nm,by rw[<-xH,<-cZ],?_⟩;rw[<-xH,xY];have gY:((L.filter λp=>!decide (p<a))++(L.filter λp=>decide (p<a))).Pairwise (λx y=>Ll n a x<Ll n a y):=by
   refine List.pairwise_append.2 ⟨(hs.filter _).imp_of_mem λ{x y} hx hy h=>?_,(hs.filter _).imp_of_mem λ{x y} hx hy h=>?_,λx hx y hy=>?_⟩
   .have q1:=(zT.1 hx).2;have q2:=(zT.1 hy).2;simp at q1 q2;unfold Ll;rw[z6 q1,z6 q2];omega
   .have q1:=(zT.1 hx).2;have q2:=(zT.1 hy).2;simp at q1 q2;unfold Ll;rw[z0 (by omega),z0 (by omega)];omega
   .have q1:=(zT.1 hx).2;have q2:=(zT.1 hy).2;have q3:=ai x (zT.1 hx).1;simp at q1 q2;unfold Ll;rw[z6 q1,z0 (by omega)];omega
  refine gY.imp_of_mem λ{x y} hx hy h=>?_;have mx:x∈L:=by rcases x6.1 hx with h|h<;>exact(zT.1 h).1
  have my:y∈L:=by rcases x6.1 hy with h|h<;>exact(zT.1 h).1
  obtain⟨x1,x2⟩:=aR x mx;obtain⟨y1,y2⟩:=aR y my;have:=Q8d (f:=λo=>nm (arP n a o)) h2 x1 y1 h;rw[<-x2,<-y2] at this;exact this
 .have fC:(R.map (arP n a)).Nodup:=by
   refine xY.2 (h2.imp_of_mem λ{x y} hx hy h e=>?_);have:=CX ha (h3 x hx).1 (h3 y hy).1 e;omega
  have hp:(kpL (λp=>decide (p∈R.map (arP n a))) n).Perm (R.map (arP n a)):=(wa ((HE _ n).imp λh=>by omega) fC).2 aN;rw[hp.length_eq,xt]
theorem Q2l {kp:Nat->Bool}(hk:∀ p,kp p=true->wo p=false) (aB:kpL kp n≠[]) (ho:Z36 ((kpL kp n).map nm)):∃ a,a<n/\wo a=false/\∃ j t,ChR nm wo n a (j::t)/\(j::t).length=(kpL kp n).length:=by
 have hs:=HE kp n;have aN:∀ p∈kpL kp n,p<n/\wo p=false:=λp hp=>⟨(Rh.1 hp).1,hk p (Rh.1 hp).2⟩;generalize kpL kp n=L at *
 obtain⟨A,B,hL,hB,gY⟩:∃ A B:List Nat,L=A++B/\B≠[]/\((B++A).map nm).Pairwise (·<·):=by
  obtain⟨A',B',h1,h2⟩:=ho;obtain⟨A,B,e1,e2,e3⟩:=List.map_eq_append_iff.1 h1;by_cases hB:B=[]
  .subst hB;refine⟨[],A,by simpa using e1,λe=>aB (by rw[e1,e];rfl),?_⟩;rw[xG,e2];rw[<-e3] at h2;simpa using h2
  .exact⟨A,B,e1,hB,by rw[xH,e2,e3];exact h2⟩
 cases B with
 |nil=>exact(hB rfl).elim
 |cons a B =>
 have uD:a∈L:=by rw[hL];simp
 obtain⟨ha,eH⟩:=aN a uD;rw[hL] at hs;obtain⟨s1,s2,s3⟩:=List.pairwise_append.1 hs;have cy:∀ p∈a::B,a<=p:=λp hp=>by
  rcases zA.1 hp with rfl|hp
  .exact zd _
  .exact Nat.le_of_lt ((x_.1 s2).1 p hp)
 have ai:∀ p∈A,p<a:=λp hp=>s3 p hp a (zp ..);have hQ:∀ p∈(a::B)++A,p<n/\wo p=false:=λp hp=>aN p (by
  rw[hL];rcases x6.1 hp with h|h
  .exact xV _ h
  .exact wb _ h)
 have aR:(((a::B)++A).map (Ll n a)).Pairwise (λx y=>x<y/\nm (arP n a x)<nm (arP n a y)):=by
  have h1:((a::B)++A).Pairwise (λx y=>Ll n a x<Ll n a y):=by
   refine List.pairwise_append.2 ⟨s2.imp_of_mem λ{x y} hx hy h=>?_,s1.imp_of_mem λ{x y} hx hy h=>?_,λx hx y hy=>?_⟩
   .have:=cy x hx;have:=cy y hy;unfold Ll;rw[z6 (by omega),z6 (by omega)];omega
   .have:=ai x hx;have:=ai y hy;unfold Ll;rw[z0 (by omega),z0 (by omega)];omega
   .have:=cy x hx;have:=ai y hy;have:=(hQ x (wb _ hx)).1;unfold Ll;rw[z6 (by omega),z0 (by omega)];omega
  rw[xY];refine (h1.and (xY.1 gY)).imp_of_mem λ{x y} hx hy h=>⟨h.1,?_⟩;rw[(BI ha (hQ x hx).1).2,(BI ha (hQ y hy).1).2];exact h.2
 have dx:ChR nm wo n a (((a::B)++A).map (Ll n a)).reverse:=by
  refine Q6x (by simp) ?_ (List.pairwise_reverse.2 aR) λo ho=>?_
  .rw[List.getLast_reverse];simp[Ll]
  .rw[List.mem_reverse] at ho;obtain⟨p,hp,rfl⟩:=zB.1 ho;obtain⟨q1,q2⟩:=BI ha (hQ p hp).1;exact⟨q1,by rw[q2];exact(hQ p hp).2⟩
 refine⟨a,ha,eH,?_⟩;have hlen:(((a::B)++A).map (Ll n a)).reverse.length=L.length:=by rw[List.length_reverse,xt,hL,zL,zL,xX]
 cases hr:(((a::B)++A).map (Ll n a)).reverse with
 |nil=>rw[hr] at dx;exact dx.elim
 |cons j t=>exact⟨j,t,by rw[<-hr];exact dx,by rw[<-hr];exact hlen⟩
theorem Q6m (nm:Nat->Int) (wo:Nat->Bool) (n:Nat):(∀ kp:Nat->Bool,(∀ p,kp p=true->wo p=false)->Z36 ((kpL kp n).map nm)->((kpL kp n).length:Int)<=XL nm wo n n) /\
  ∃ kp:Nat->Bool,(∀ p,kp p=true->p<n/\wo p=false)/\Z36 ((kpL kp n).map nm)/\((kpL kp n).length:Int)=XL nm wo n n:=by
 obtain⟨h1,h2,h3⟩:=Cb (nm:=nm) (wo:=wo) (n:=n) n (zd _);refine⟨λkp hk ho=>?_,?_⟩
 .by_cases aB:kpL kp n=[]
  .rw[aB];exact h1
  .obtain⟨a,ha,eH,j,t,hc,hl⟩:=Q2l hk aB ho;rw[<-hl];exact h2 a ha eH j t hc
 .rcases h3 with h3|⟨a,ha,eH,j,t,hc,hl⟩
  .have e:kpL (λ_=>false) n=[]:=by unfold kpL;simp
   exact⟨λ_=>false,(λp hp=>by cases hp),(by rw[e];exact⟨[],[],rfl,.nil⟩),(by rw[e,h3];rfl)⟩
  .obtain⟨kp,k1,k2,k3⟩:=Q1h ha eH hc;exact⟨kp,k1,k2,by rw[k3,hl]⟩
end
def woL (l:List Int) (p:Nat):Bool:=decide ((p:Int)∈l)
section
variable (nm:Nat->Int) (n:Nat)
def Df:Int:=XL nm (λ_=>false) n n
def mvK:Nat->List Int
 |0=>[]
 |k+1=>if ((mvK k).length:Int)+Df nm n=n then mvK k else if XL nm (woL (mvK k++[(k:Int)])) n n<Df nm n then mvK k else mvK k++[(k:Int)]
end
section
variable {nm:Nat->Int}{n:Nat}
theorem ES (kp:Nat->Bool):∀ n,(kpL kp n).length+(kpL (λp=>!kp p) n).length=n
 |0=>rfl
 |n+1=>by have ih:=ES kp n;unfold kpL at ih |-;rw[List.range_succ,List.filter_append,List.filter_append,zL,zL];cases h:kp n<;>simp[h]<;>omega
end
def Z5 (l:List Int) (i:Int):Int:=if l.length=0 then 0 else l.getD (Int.tmod i l.length).toNat 0
theorem Ic {l:List Int}{i:Int}(h:∀ x∈l,0<=x/\x<=255) (hi:0<=i):0<=Z5 l i/\Z5 l i<=255:=by
 unfold Z5;split
 .omega
 .rename_i hz;have e:=Int.tmod_eq_emod_of_nonneg (b:=(l.length:Int)) hi;have g1:=Int.emod_nonneg i (show (l.length:Int)≠0 by omega);have g2:=Int.emod_lt_of_pos i (show (0:Int)<l.length by omega);have g3:(Int.tmod i l.length).toNat<l.length:=by omega
  rw[Q9 g3];exact h _ (zl g3)
theorem Fw {l:List Int}(h:l.Pairwise (·<·)):∀ (m i:Nat) (hj:i+m<l.length),l[i]+(m:Int)<=l[i+m]
 |0,i,hj=>by simp
 |m+1,i,hj=>by have h1:=Fw h m i (by omega);have h2:=List.pairwise_iff_getElem.1 h (i+m) (i+(m+1)) (by omega) hj (by omega);omega
theorem Q8i {l:List Int}(h:l.Pairwise (·<·)) (hb:∀ x∈l,0<=x/\x<l.length) {i:Nat}(hi:i<l.length):l[i]=(i:Int):=by
 have h1:=Fw h i 0 (by omega);have h2:=Fw h (l.length-1-i) i (by omega);have h3:=hb _ (zl (show 0<l.length by omega));have h4:=hb _ (zl (show i+(l.length-1-i)<l.length by omega));simp only[xi] at h1;omega
theorem Q4k {rows:List Int}{s:List Xo}(hl:s.length=rows.length) (hs:(s.map (·.1)).Pairwise (·<·)) (hb:∀ c∈s,0<=c.1/\c.1<rows.length/\c.2.1=rows.getD c.1.toNat 0):(s.map λc=>((c.1,(c.2.1,false)):Xo))=Rx rows:=by
 refine List.ext_getElem (by simp[Rx,hl]) λi h1 h2=>?_;have hi:i<s.length:=by simpa using h1
 have h3:=Q8i hs (λx hx=>by
  obtain⟨c,hc,rfl⟩:=zB.1 hx;have:=hb c hc;simp only[xt,hl];omega) (i:=i) (by simpa using hi)
 simp only[xD] at h3;obtain⟨-,-,h4⟩:=hb _ (zl hi);simp only[xD,Rx,List.getElem_range,h3,h4,zf]
theorem OV {α:Type}{l:List α}{i k:Nat}{d:α}(hi:i<l.length) (hk:k<l.length):((l.set i (l.getD k d)).set k (l.getD i d)).Perm l:=by
 rw[Q9 hi,Q9 hk];by_cases h:i=k
 .subst h;simp
 .exact List.set_set_perm hi hk
def Q0z (p:Xo×Xo):Int:=FL p.1.1 p.2.1
def Q1q (cs:List Xo):List Xo:=(TF Q0z cs 0 cs.length).map λc=>((c.1,(c.2.1,false)):Xo)
theorem Fv {x y:Xo}:Q0z (x,y)<0<->x.1<y.1:=by unfold Q0z FL;dsimp only;split<;>(try split)<;>omega
theorem Q2e {rows:List Int}{cs:List Xo}(hl:cs.length=rows.length) (hn:(cs.map (·.1)).Nodup) (hb:∀ c∈cs,0<=c.1/\c.1<rows.length/\c.2.1=rows.getD c.1.toNat 0):Q1q cs=Rx rows:=by
 have hp:=TW (f:=Q0z) (a:=0) (zd cs.length);have hs:=Q3n (f:=Q0z) (λx y h h2=>by rw[Fv] at h h2;omega) (λx y z h1 h2 h3=>by rw[Fv] at h1 h2 h3;omega) cs;refine Q4k (hp.length_eq.trans hl) ?_ λc hc=>hb c (hp.mem_iff.1 hc);have dz:=(hp.map (·.1)).nodup_iff.2 hn;have cS:((TF Q0z cs 0 cs.length).map (·.1)).Pairwise (·<=·):=xY.2 (hs.imp λh=>by rw[Fv] at h;omega);exact(cS.and dz).imp λh=>by have:=h.1;have:=h.2;omega
theorem Wl (a:Int) (b:Bool) (m:List (Int×Bool)) (e:Int) (d:Bool):gq.aget (.i .i64) ((a,b)::m) e d=if e=a then b else gq.aget (.i .i64) m e d:=by show (if (e==a)=true then b else gq.aget (.i .i64) m e d)=_;simp only[zK]
theorem G5 (a:Int) (b:Bool) (m:List (Int×Bool)) (k:Int) (v:Bool):D_ (.i .i64) ((a,b)::m) k v=if k=a then (k,v)::m else (a,b)::D_ (.i .i64) m k v:=by show (if (k==a)=true then (k,v)::m else (a,b)::D_ (.i .i64) m k v)=_;simp only[zK]
theorem Q40 {F:List Int}{k:Int}(h:k∉F):D_ (.i .i64) (F.map λx=>(x,true)) k true=(F++[k]).map λx=>(x,true):=by
 induction F with
 |nil=>rfl
 |cons a F ih =>have h1:k≠a:=λe=>h (by rw[e];exact zp);have h2:k∉F:=λe=>h (zo _ e);simp only[zJ,xu];rw[G5,z0 h1,ih h2]
theorem Q46 {F:List Int}{k:Int}:gq.aget (.i .i64) (F.map λx=>(x,true)) k false=decide (k∈F):=by
 induction F with
 |nil=>rfl
 |cons a F ih =>
  simp only[zJ];rw[Wl,ih];by_cases e:k=a
  .simp[e]
  .simp[e]
def nmC (cs:List Xo) (i:Nat):Int:=(cs.getD i Z_).1
def woM (m:List (Int×Bool)) (p:Nat):Bool:=gq.aget (.i .i64) m (p:Int) false
def QA (hk:Int) (cs:List Xo):Int:=if Qu hk cs≠0 then Qu hk cs else if (-1:Int)∈cs.map (·.1) then 9 else if (cs.map (·.1)).Nodup then 0 else 6
def F6 (hk:Int) (cs:List Xo):List Int:=if QA hk cs=0 then mvK (nmC cs) cs.length cs.length else []
def U1 (hk:Int) (cs:List Xo):List Xo:=if QA hk cs=0 then Q1q cs else []
def HD (hk:Int) (cs:List Xo):Int:=if QA hk cs=0 then hk else 0
theorem H9:∀ {m:List (Int×Bool)}{k:Int},(∀ p∈m,p.2=true)->gq.aget (.i .i64) m k false=true->(D_ (.i .i64) m k true).length=m.length/\∀ p∈D_ (.i .i64) m k true,p.2=true
 |[],k,_,h=>by cases h
 |(a,b)::m,k,ht,h=>by
  rw[Wl] at h;rw[G5];by_cases e:k=a
  .rw[z6 e];exact⟨rfl,λp hp=>by
    rcases zA.1 hp with rfl|hp
    .rfl
    .exact ht p (zo _ hp)⟩
  .rw[z0 e] at h |-;obtain⟨h1,h2⟩:=H9 (m:=m) (k:=k) (λp hp=>ht p (zo _ hp)) h;refine⟨by rw[zG,zG,h1],λp hp=>?_⟩;rcases zA.1 hp with rfl|hp
   .exact ht _ (zp ..)
   .exact h2 p hp
theorem N3:∀ {m:List (Int×Bool)}{k:Int},(∀ p∈m,p.2=true)->gq.aget (.i .i64) m k false=false->(D_ (.i .i64) m k true).length=m.length+1/\∀ p∈D_ (.i .i64) m k true,p.2=true
 |[],k,_,h=>⟨rfl,λp hp=>by
   have hp:p∈[(k,true)]:=hp;rw[zI.1 hp]⟩
 |(a,b)::m,k,ht,h=>by
  rw[Wl] at h;rw[G5];by_cases e:k=a
  .rw[z6 e] at h;have:=ht (a,b) (zp ..);rw[h] at this;cases this
  .rw[z0 e] at h |-;obtain⟨h1,h2⟩:=N3 (m:=m) (k:=k) (λp hp=>ht p (zo _ hp)) h;refine⟨by rw[zG,zG,h1],λp hp=>?_⟩;rcases zA.1 hp with rfl|hp
   .exact ht _ (zp ..)
   .exact h2 p hp
theorem AB (k:Int) (v:Bool):∀ (m:List (Int×Bool)) (e:Int),gq.aget (.i .i64) (D_ (.i .i64) m k v) e false=if e=k then v else gq.aget (.i .i64) m e false
 |[],e=>by have:D_ (.i .i64) ([]:List (Int×Bool)) k v=[(k,v)]:=rfl;rw[this,Wl]
 |(a,b)::m,e=>by
  rw[G5];by_cases h:k=a
  .subst h;rw[z6 rfl,Wl,Wl];split<;>rfl
  .rw[z0 h,Wl,Wl,AB k v m e];by_cases h2:e=a
   .rw[z6 h2,z6 h2,z0 (λh3=>h (h3.symm.trans h2))]
   .rw[z0 h2,z0 h2]
structure SeenI (l:List Int) (m:List (Int×Bool)) (k:Nat):Prop where
 get:∀ x,gq.aget (.i .i64) m x false=decide (x∈l.take k)
 tr:∀ p∈m,p.2=true
 le:m.length<=k
 nd:m.length=k<->(l.take k).Nodup
theorem SeenI.nil (l:List Int):SeenI l [] 0:=⟨λx=>by simp[gq.aget],(λp hp=>by cases hp),zd _,by simp⟩
theorem SeenI.put {l:List Int}{m:List (Int×Bool)}{k:Nat}(h:SeenI l m k) (hk:k<l.length):SeenI l (D_ (.i .i64) m (l.getD k 0) true) (k+1):=by
 have et:l.take (k+1)=l.take k++[l.getD k 0]:=by rw[J1 hk,Q9 hk]
 have hle:=h.le;refine⟨λx=>?_,?_,?_,?_⟩
 .rw[AB,et];by_cases e:x=l.getD k 0
  .rw[z6 e,zn];rw[e];exact xV _ (zI.2 rfl)
  .rw[z0 e,h.get];refine decide_eq_decide.2 ⟨λhx=>wb _ hx,λhx=>?_⟩;rcases x6.1 hx with hx|hx
   .exact hx
   .exact(e (zI.1 hx)).elim
 .cases c:gq.aget (.i .i64) m (l.getD k 0) false with
  |true=>exact(H9 h.tr c).2
  |false=>exact(N3 h.tr c).2
 .cases c:gq.aget (.i .i64) m (l.getD k 0) false with
  |true=>rw[(H9 h.tr c).1];omega
  |false=>rw[(N3 h.tr c).1];omega
 .rw[et,List.nodup_append];have c1:=h.get (l.getD k 0);cases c:gq.aget (.i .i64) m (l.getD k 0) false with
  |true =>rw[c] at c1;rw[(H9 h.tr c).1];refine⟨λe=>by omega,λe=>?_⟩;exact(e.2.2 _ (zk c1.symm) _ (zI.2 rfl) rfl).elim
  |false =>
   rw[c] at c1;rw[(N3 h.tr c).1];have c2:=zj c1.symm;refine⟨λe=>⟨h.nd.1 (by omega),by simp,λa ha b hb e2=>?_⟩,λe=>?_⟩
   .rw[zI.1 hb] at e2;rw[e2] at ha;exact c2 ha
   .have:=h.nd.2 e.1;omega
theorem SeenI.full {l:List Int}{m:List (Int×Bool)}(h:SeenI l m l.length):gq.aget (.i .i64) m (-1) false=decide ((-1:Int)∈l)/\(decide ((m.length:Int)<(l.length:Int))=decide (¬ l.Nodup)):=by have h1:=h.get (-1);have h2:=h.nd;have h3:=h.le;rw[List.take_length] at h1 h2;refine⟨h1,decide_eq_decide.2 ?_⟩;rw[<-h2];omega
theorem Q31 (nm:Nat->Int) (wo:Nat->Bool) (n:Nat):0<=XL nm wo n n/\XL nm wo n n<=n/\∀ k,k<n->wo k=true->XL nm wo n n<n:=by
 obtain⟨kp,h1,_,h3⟩:=(Q6m nm wo n).2;have hc:=ES kp n;refine⟨by omega,by omega,λk hk hw=>?_⟩;have hf:kp k=false:=by
  cases h:kp k with
  |false=>rfl
  |true=>have:=(h1 k h).2;rw[hw] at this;cases this
 have hm:k∈kpL (λp=>!kp p) n:=Rh.2 ⟨hk,by rw[hf];rfl⟩;have:=List.length_pos_of_mem hm;omega
theorem Q2p (nm:Nat->Int) (n:Nat):∀ k,(mvK nm n k).length<=k
 |0=>zd _
 |k+1=>by
  have:=Q2p nm n k;unfold mvK;split
  .omega
  .split
   .omega
   .rw[zL];simp;omega
theorem IZ (nm:Nat->Int) (n:Nat):∀ k,∀ x∈mvK nm n k,x<(k:Int)
 |0,x,h=>by cases h
 |k+1,x,h=>by
  unfold mvK at h;split at h
  .have:=IZ nm n k x h;omega
  .split at h
   .have:=IZ nm n k x h;omega
   .rcases x6.1 h with h|h
    .have:=IZ nm n k x h;omega
    .rw[zI.1 h];omega
theorem IU {nm:Nat->Int}{n j:Nat}(h:((mvK nm n j).length:Int)+Df nm n=n):∀ d,mvK nm n (j+d)=mvK nm n j
 |0=>rfl
 |d+1=>by have ih:=IU h d;show (if ((mvK nm n (j+d)).length:Int)+Df nm n=n then mvK nm n (j+d) else _)=_;rw[ih,z6 h]
theorem Q83 (F:List Int):woM (F.map λx=>(x,true))=woL F:=by
 funext p
 unfold woM woL;exact Q46
theorem Q3u {F:List Int}{k:Int}(h:k∉F):Q5q (.i .i64) ((F++[k]).map λx=>(x,true)) k=F.map λx=>(x,true):=by
 have st:∀ (a:Int) (m:List (Int×Bool)),Q5q (.i .i64) ((a,true)::m) k=if k=a then m else (a,true)::Q5q (.i .i64) m k:=λa m=>by show (if (k==a)=true then m else (a,true)::Q5q (.i .i64) m k)=_;simp only[zK]
 induction F with
 |nil =>rw[xN,zJ,st,z6 rfl]
 |cons a F ih =>have h1:k≠a:=λe=>h (by rw[e];exact zp);rw[xu,zJ,st,z0 h1,ih λe=>h (zo _ e)];rfl
theorem Fp {nm:Nat->Int}{wo:Nat->Bool}{n a:Nat}(ha:a<n):∀ k,k<=n->(NR nm wo n a k).length=n/\∀ p,(NR nm wo n a k).getD p 0<=(k:Int)+1
 |0,_=>by
  refine⟨by simp[NR],λp=>?_⟩;show ((List.replicate n (0:Int)).set a 1).getD p 0<=_;rw[Tu (by simpa using ha)];split
  .omega
  .by_cases hp:p<n
   .rw[Q9 (by simpa using hp)];simp
   .rw[ze,zH (by simpa using hp)];simp
 |k+1,hk=>by
  obtain⟨h1,h2⟩:=Fp ha k (by omega) (nm:=nm) (wo:=wo);have dm:arP n a k<(NR nm wo n a k).length:=by rw[h1];exact Pg (by omega) a k
  obtain⟨i1,i2,_,_,i5⟩:=T2 (nm:=nm) (wo:=wo) dm n (by omega);have e:NR nm wo n a (k+1)=inR nm wo (arP n a k) (NR nm wo n a k) n:=rfl;rw[e];refine⟨i1.trans h1,λp=>?_⟩;by_cases hp:p=arP n a k
  .rw[hp];rcases i5 with i5|⟨b,_,_,_,_,i5⟩
   .rw[i5];have:=h2 (arP n a k);omega
   .rw[i5];have:=h2 b;omega
  .rw[i2 p hp];have:=h2 p;omega
theorem Z0g {nm:Nat->Int}{wo:Nat->Bool}{n a k m:Nat}(ha:a<n) (hk:k<n) (hm:m<=n):(inR nm wo (arP n a k) (NR nm wo n a k) m).length=n/\∀ p,(inR nm wo (arP n a k) (NR nm wo n a k) m).getD p 0<=(k:Int)+2:=by
 obtain⟨h1,h2⟩:=Fp ha k (by omega) (nm:=nm) (wo:=wo);have dm:arP n a k<(NR nm wo n a k).length:=by rw[h1];exact Pg (by omega) a k
 obtain⟨i1,i2,_,_,i5⟩:=T2 (nm:=nm) (wo:=wo) dm m (by omega);refine⟨i1.trans h1,λp=>?_⟩;by_cases hp:p=arP n a k
 .rw[hp];rcases i5 with i5|⟨b,_,_,_,_,i5⟩
  .rw[i5];have:=h2 (arP n a k);omega
  .rw[i5];have:=h2 b;omega
 .rw[i2 p hp];have:=h2 p;omega
def BZ:AL (Int×List (Int×Int×Bool)):=(.one (.agg (.cons (.k (.i .i64)) (.one (.k (.list (.pair (.i .i64) (.pair (.i .i64) .bo))))))))
def SL (d:Int×List (Int×Int×Bool)):Prop:=d.2.length<=1000/\(QA d.1 d.2=0->d.2.length<=12)
def GG (d:Int×List (Int×Int×Bool)):SV:=.tup [.agg [.val (.i .i64) (HD d.1 d.2),.lst 0],.val (.i .i64) (QA d.1 d.2)]
def GJ (d:Int×List (Int×Int×Bool)):List OB:=[.lst 40 (.pair (.i .i64) (.pair (.i .i64) .bo)) (U1 d.1 d.2) ((U1 d.1 d.2).isEmpty)]
def MO:CSp:=Yo BZ SL GG GJ
abbrev Kk :=(((([]:List SV)=[]))/\(True/\(([]:List SV)=[])))
abbrev Cv :=(Kk/\(((([]:List SV)=[]))/\((([]:List SV)=[])))/\True/\True/\True/\True/\Kk/\True/\True/\True/\True/\True/\(([]:List SV)=[]))
abbrev Gj (hk:Int) (cs:List (Int×Int×Bool)):=(((U1 hk cs)=[]/\(U1 hk cs).isEmpty=true)/\True)
abbrev Gb (hk:Int) (cs:List (Int×Int×Bool)):=((0:Int)=(HD hk cs)/\True/\(([]:List SV)=[]))
abbrev CQ :=(True/\Kk/\True/\True/\True/\True/\Kk/\True/\True/\True/\True/\True/\True/\(([]:List SV)=[]))
abbrev Af :=(λ(x1:(Int×Int×Bool)×(Int×Int×Bool))=>(FL x1.1.1 x1.2.1))
abbrev A3 :=(λ(x2:(Int×Int×Bool)×(Int×Int×Bool))=>(FL x2.1.1 x2.2.1))
abbrev Co :=(Kk/\True/\True/\Kk/\True/\(([]:List SV)=[]))
def K6 (hk:Int) (cs:List (Int×Int×Bool)):Prop :=
 ∀ w1:List Value,∀ w2:List Value,(True)/\((!(inI hk 1 24))=true ->
  w2=w2/\w1=w1/\(((Gb hk cs)/\(3:Int)=(QA hk cs)/\(([]:List SV)=[]))/\(Gj hk cs))) /\
 ((!(inI hk 1 24))=false ->
  (((decide ((lI cs) > (60:Int)))=true ->
   w2=w2/\w1=w1/\(((Gb hk cs)/\(5:Int)=(QA hk cs)/\(([]:List SV)=[]))/\(Gj hk cs))) /\
  ((decide ((lI cs) > (60:Int)))=false ->
   (1<=hk/\hk<=24/\cs.length<=1000000)/\((!(!cs.isEmpty&&!(cs.any λc=>!Zb hk c)))=true ->
    w2=w2/\w1=w1/\(((Gb hk cs)/\(2:Int)=(QA hk cs)/\(([]:List SV)=[]))/\(Gj hk cs))) /\
   ((!(!cs.isEmpty&&!(cs.any λc=>!Zb hk c)))=false ->
    w2=w2/\∃ (e5:Int×(List (Int×Int×Bool))×Int×Int×Int×(List (Int×Int×Bool))×Int×(List (Int×Int×Bool))×Int×Int×(List (Int×Int×Bool))×Int×(List (Int×Int×Bool))×Int×Int×Int×(List (Int×Int×Bool))×(List Value)) (d50:(List (Int×Bool))×Int),((True/\True/\True/\True/\cs=(q4 e5).2.2.2.1/\(lI cs)=(q4 (q4 e5)).1/\(0:Int)=d50.2/\True)/\((hk=e5.1/\cs=e5.2.1/\(([]:List SV)=[]))/\((0:Int)=e5.2.2.1/\True/\(0:Int)=e5.2.2.2.1/\(([]:List SV)=[]))/\(hk=(q4 e5).1/\cs=(q4 e5).2.1/\hk=(q4 e5).2.2.1/\(([]:List SV)=[]))/\(([]:List (Int×Bool))=d50.1)/\((q4 (q4 (q4 (q4 e5)))).2=w1/\((hk=(q4 (q4 e5)).2.1/\cs=(q4 (q4 e5)).2.2.1/\(([]:List SV)=[]))/\True/\True/\(0:Int)=(q4 (q4 (q4 e5))).2.2.1/\True/\True/\True/\True/\(hk=(q4 (q4 (q4 e5))).2.2.2.1/\cs=(q4 (q4 (q4 (q4 e5)))).1/\(([]:List SV)=[]))/\True/\True/\True/\True/\True/\True/\True/\True/\True/\True/\True/\True/\True/\True/\True/\True/\True/\True/\True/\True/\True/\True/\True/\True/\True/\(([]:List SV)=[])))/\(hk=(q4 (q4 e5)).2.2.2.1/\cs=(q4 (q4 (q4 e5))).1/\(([]:List SV)=[]))/\((0:Int)=(q4 (q4 (q4 e5))).2.1/\True/\(([]:List SV)=[]))/\True)) /\
    LoopP (λ(d5:(List (Int×Bool))×Int) (q5:((List (Int×Bool))×Int)->Prop) =>
     ((decide (d5.2<(q4 (q4 e5)).1))=true ->
      (0<=d5.2)/\(d5.2<(List.length (q4 e5).2.2.2.1))/\(I64 (d5.2+(1:Int)))/\(∃ d6:(List (Int×Bool))×Int,((True/\True/\True/\True/\(q4 e5).2.2.2.1=(q4 e5).2.2.2.1/\(q4 (q4 e5)).1=(q4 (q4 e5)).1/\(d5.2+(1:Int))=d6.2/\True)/\((e5.1=e5.1/\e5.2.1=e5.2.1/\(([]:List SV)=[]))/\(e5.2.2.1=e5.2.2.1/\True/\e5.2.2.2.1=e5.2.2.2.1/\(([]:List SV)=[]))/\((q4 e5).1=(q4 e5).1/\(q4 e5).2.1=(q4 e5).2.1/\(q4 e5).2.2.1=(q4 e5).2.2.1/\(([]:List SV)=[]))/\((D_ (.i .i64) d5.1 (gD (q4 e5).2.2.2.1 d5.2 (0,(0,false))).1 true)=d6.1)/\((q4 (q4 (q4 (q4 e5)))).2=(q4 (q4 (q4 (q4 e5)))).2/\(((q4 (q4 e5)).2.1=(q4 (q4 e5)).2.1/\(q4 (q4 e5)).2.2.1=(q4 (q4 e5)).2.2.1/\(([]:List SV)=[]))/\True/\True/\(q4 (q4 (q4 e5))).2.2.1=(q4 (q4 (q4 e5))).2.2.1/\True/\True/\True/\True/\((q4 (q4 (q4 e5))).2.2.2.1=(q4 (q4 (q4 e5))).2.2.2.1/\(q4 (q4 (q4 (q4 e5)))).1=(q4 (q4 (q4 (q4 e5)))).1/\(([]:List SV)=[]))/\True/\True/\True/\True/\True/\True/\True/\True/\True/\True/\True/\True/\True/\True/\True/\True/\True/\True/\True/\True/\True/\True/\True/\True/\True/\(([]:List SV)=[])))/\((q4 (q4 e5)).2.2.2.1=(q4 (q4 e5)).2.2.2.1/\(q4 (q4 (q4 e5))).1=(q4 (q4 (q4 e5))).1/\(([]:List SV)=[]))/\((q4 (q4 (q4 e5))).2.1=(q4 (q4 (q4 e5))).2.1/\True/\(([]:List SV)=[]))/\True))/\q5 d6)) /\
     ((decide (d5.2<(q4 (q4 e5)).1))=false ->
      ((gq.aget (.i .i64) d5.1 (-1:Int) false)=true ->
       (q4 (q4 (q4 (q4 e5)))).2=w1/\(((Gb hk cs)/\(9:Int)=(QA hk cs)/\(([]:List SV)=[]))/\(Gj hk cs))) /\
      ((gq.aget (.i .i64) d5.1 (-1:Int) false)=false ->
       ((decide ((lI d5.1)<(lI e5.2.1)))=true ->
        (q4 (q4 (q4 (q4 e5)))).2=w1/\(((Gb hk cs)/\(6:Int)=(QA hk cs)/\(([]:List SV)=[]))/\(Gj hk cs))) /\
       ((decide ((lI d5.1)<(lI e5.2.1)))=false ->
        (q4 (q4 (q4 (q4 e5)))).2=w1/\∀ w7:List Value,w7=w7/\∀ w8:List Value,∀ w9:List Value,∀ oc:List Value,∀ lH:LpD,∃ (av:(List (Int×Int×Bool))×Int×Int×(List (Int×Int×Bool))×Int×(List (Int×Int×Bool))×Int×Int×Int×(List (Int×Int×Bool))×Int×Int×Int×(List (Int×Int×Bool))×Int×Int×Int×(List (Int×Int×Bool))×Int×(List (Int×Int×Bool))×Int×Int×Int×(List (Int×Int×Bool))×Int×Int×Int×(List (Int×Int×Bool))×(List (Int×Int×Bool))×(List Value)×(List Value)×(List Value)×LpD) (dR:Int×(List (Int×Int×Bool))),((True/\(q4 (q4 (q4 e5))).1=av.1/\(lI (q4 (q4 (q4 e5))).1)=av.2.1/\(0:Int)=dR.1/\True)/\(((q4 (q4 (q4 (q4 (q4 (q4 (q4 av))))))).2.1=w8/\(((q4 (q4 e5)).2.1=av.2.2.1/\(q4 (q4 e5)).2.2.1=av.2.2.2.1/\(([]:List SV)=[]))/\True/\True/\(q4 (q4 (q4 e5))).2.2.1=(q4 av).2.2.2.1/\True/\(0:Int)=(q4 (q4 av)).2.2.2.1/\True/\(((q4 e5).1=(q4 (q4 (q4 av))).1/\(q4 e5).2.1=(q4 (q4 (q4 av))).2.1/\(q4 e5).2.2.1=(q4 (q4 (q4 av))).2.2.1/\(([]:List SV)=[]))/\(0:Int)=(q4 (q4 (q4 av))).2.2.2.1/\(([]:List SV)=[]))/\((q4 (q4 (q4 e5))).2.2.2.1=(q4 (q4 (q4 (q4 av)))).1/\(q4 (q4 (q4 (q4 e5)))).1=(q4 (q4 (q4 (q4 av)))).2.1/\(([]:List SV)=[]))/\(((q4 e5).1=(q4 (q4 (q4 (q4 av)))).2.2.1/\(q4 e5).2.1=(q4 (q4 (q4 (q4 av)))).2.2.2.1/\(q4 e5).2.2.1=(q4 (q4 (q4 (q4 (q4 av))))).1/\(([]:List SV)=[]))/\(0:Int)=(q4 (q4 (q4 (q4 (q4 av))))).2.1/\(([]:List SV)=[]))/\((q4 e5).1=(q4 (q4 (q4 (q4 (q4 av))))).2.2.1/\(q4 e5).2.1=(q4 (q4 (q4 (q4 (q4 av))))).2.2.2.1/\(q4 e5).2.2.1=(q4 (q4 (q4 (q4 (q4 (q4 av)))))).1/\(([]:List SV)=[]))/\(0:Int)=(q4 (q4 (q4 (q4 (q4 (q4 av)))))).2.1/\(0:Int)=(q4 (q4 (q4 (q4 (q4 (q4 av)))))).2.2.1/\True/\True/\True/\True/\(q4 (q4 (q4 e5))).1=(q4 (q4 (q4 (q4 (q4 (q4 av)))))).2.2.2.1/\Kk/\True/\True/\True/\True/\True/\True/\True/\True/\True/\True/\True/\True/\True/\True/\True/\(([]:List SV)=[])))/\((q4 (q4 e5)).2.2.2.1=(q4 av).1/\(q4 (q4 (q4 e5))).1=(q4 av).2.1/\(([]:List SV)=[]))/\((q4 (q4 (q4 e5))).2.1=(q4 av).2.2.1/\True/\(([]:List SV)=[]))/\((q4 e5).1=(q4 (q4 av)).1/\(q4 e5).2.1=(q4 (q4 av)).2.1/\(q4 e5).2.2.1=(q4 (q4 av)).2.2.1/\(([]:List SV)=[]))/\((q4 (q4 (q4 e5))).1=(q4 (q4 (q4 (q4 (q4 (q4 (q4 av))))))).1/\(([]:List SV)=[]))/\((q4 (q4 (q4 (q4 (q4 (q4 (q4 av))))))).2.2.1=w9/\Cv)/\((q4 (q4 (q4 (q4 (q4 (q4 (q4 av))))))).2.2.2.1=oc/\Co)/\((q4 (q4 (q4 (q4 (q4 (q4 (q4 (q4 av))))))))=lH/\CQ)/\(True/\(([]:List SV)=[]))/\(dR.2=[]/\(List.isEmpty dR.2)=true)/\True)) /\
        LoopP (λ(d15:Int×(List (Int×Int×Bool))) (qM:(Int×(List (Int×Int×Bool)))->Prop) =>
         ((decide (d15.1<av.2.1))=true ->
          (0<=d15.1)/\(d15.1<(List.length av.1))/\(q4 (q4 (q4 (q4 (q4 (q4 (q4 (q4 av))))))))=lH/\∀ sg:List Value,(((List.length d15.2)+(List.length [((gD av.1 d15.1 (0,(0,false))).1,((gD av.1 d15.1 (0,(0,false))).2.1,(gD av.1 d15.1 (0,(0,false))).2.2))]))*24<=70368744177664)/\sg=sg/\(q4 (q4 (q4 (q4 (q4 (q4 (q4 (q4 av))))))))=lH/\((!true)=true ->
           (q4 (q4 (q4 (q4 (q4 (q4 (q4 (q4 av))))))))=lH/\(q4 (q4 (q4 (q4 (q4 (q4 (q4 av))))))).2.2.2.1=oc/\(q4 (q4 (q4 (q4 (q4 (q4 (q4 av))))))).2.2.1=w9/\((d15.2++[((gD av.1 d15.1 (0,(0,false))).1,((gD av.1 d15.1 (0,(0,false))).2.1,(gD av.1 d15.1 (0,(0,false))).2.2))]).length<=12/\(∀ x∈(d15.2++[((gD av.1 d15.1 (0,(0,false))).1,((gD av.1 d15.1 (0,(0,false))).2.1,(gD av.1 d15.1 (0,(0,false))).2.2))]),∀ y∈(d15.2++[((gD av.1 d15.1 (0,(0,false))).1,((gD av.1 d15.1 (0,(0,false))).2.1,(gD av.1 d15.1 (0,(0,false))).2.2))]),(λ(x1:(Int×Int×Bool)×(Int×Int×Bool))=>True) (x,y)))/\(q4 (q4 (q4 (q4 (q4 (q4 (q4 av))))))).2.1=w8/\∃ (od:Int) (jl:(List (Int×Int×Bool))×Int),((True/\True/\(lI (TF Af (d15.2++[((gD av.1 d15.1 (0,(0,false))).1,((gD av.1 d15.1 (0,(0,false))).2.1,(gD av.1 d15.1 (0,(0,false))).2.2))]) 0 (d15.2++[((gD av.1 d15.1 (0,(0,false))).1,((gD av.1 d15.1 (0,(0,false))).2.1,(gD av.1 d15.1 (0,(0,false))).2.2))]).length))=od/\(0:Int)=jl.2/\True)/\(((q4 av).1=hk/\True/\(([]:List SV)=[]))/\((TF Af (d15.2++[((gD av.1 d15.1 (0,(0,false))).1,((gD av.1 d15.1 (0,(0,false))).2.1,(gD av.1 d15.1 (0,(0,false))).2.2))]) 0 (d15.2++[((gD av.1 d15.1 (0,(0,false))).1,((gD av.1 d15.1 (0,(0,false))).2.1,(gD av.1 d15.1 (0,(0,false))).2.2))]).length)=jl.1/\false=(List.isEmpty jl.1))/\((q4 av).2.2.1=(0:Int)/\True/\(([]:List SV)=[]))/\True)) /\
           LoopP (λ(d17:(List (Int×Int×Bool))×Int) (uE:((List (Int×Int×Bool))×Int)->Prop) =>
            ((decide (d17.2<od))=true ->
             (0<=d17.2)/\(d17.2<(List.length d17.1))/\(I64 (d17.2+(1:Int)))/\(∃ d18:(List (Int×Int×Bool))×Int,((True/\True/\od=od/\(d17.2+(1:Int))=d18.2/\True)/\((hk=hk/\True/\(([]:List SV)=[]))/\((sT d17.1 d17.2 ((gD d17.1 d17.2 (0,(0,false))).1,((gD d17.1 d17.2 (0,(0,false))).2.1,false)))=d18.1/\(List.isEmpty d17.1)=(List.isEmpty d18.1))/\((0:Int)=(0:Int)/\True/\(([]:List SV)=[]))/\True))/\uE d18)) /\
            ((decide (d17.2<od))=false ->
             (((hk=(HD hk cs)/\True/\(([]:List SV)=[]))/\(0:Int)=(QA hk cs)/\(([]:List SV)=[]))/\((d17.1=(U1 hk cs)/\(List.isEmpty d17.1)=(U1 hk cs).isEmpty)/\True)))) jl) /\
          ((!true)=false ->
           (I64 (d15.1+(1:Int)))/\(∃ d19:Int×(List (Int×Int×Bool)),((True/\av.1=av.1/\av.2.1=av.2.1/\(d15.1+(1:Int))=d19.1/\True)/\(((q4 (q4 (q4 (q4 (q4 (q4 (q4 av))))))).2.1=(q4 (q4 (q4 (q4 (q4 (q4 (q4 av))))))).2.1/\((av.2.2.1=av.2.2.1/\av.2.2.2.1=av.2.2.2.1/\(([]:List SV)=[]))/\True/\True/\(q4 av).2.2.2.1=(q4 av).2.2.2.1/\True/\(q4 (q4 av)).2.2.2.1=(q4 (q4 av)).2.2.2.1/\True/\(((q4 (q4 (q4 av))).1=(q4 (q4 (q4 av))).1/\(q4 (q4 (q4 av))).2.1=(q4 (q4 (q4 av))).2.1/\(q4 (q4 (q4 av))).2.2.1=(q4 (q4 (q4 av))).2.2.1/\(([]:List SV)=[]))/\(q4 (q4 (q4 av))).2.2.2.1=(q4 (q4 (q4 av))).2.2.2.1/\(([]:List SV)=[]))/\((q4 (q4 (q4 (q4 av)))).1=(q4 (q4 (q4 (q4 av)))).1/\(q4 (q4 (q4 (q4 av)))).2.1=(q4 (q4 (q4 (q4 av)))).2.1/\(([]:List SV)=[]))/\(((q4 (q4 (q4 (q4 av)))).2.2.1=(q4 (q4 (q4 (q4 av)))).2.2.1/\(q4 (q4 (q4 (q4 av)))).2.2.2.1=(q4 (q4 (q4 (q4 av)))).2.2.2.1/\(q4 (q4 (q4 (q4 (q4 av))))).1=(q4 (q4 (q4 (q4 (q4 av))))).1/\(([]:List SV)=[]))/\(q4 (q4 (q4 (q4 (q4 av))))).2.1=(q4 (q4 (q4 (q4 (q4 av))))).2.1/\(([]:List SV)=[]))/\((q4 (q4 (q4 (q4 (q4 av))))).2.2.1=(q4 (q4 (q4 (q4 (q4 av))))).2.2.1/\(q4 (q4 (q4 (q4 (q4 av))))).2.2.2.1=(q4 (q4 (q4 (q4 (q4 av))))).2.2.2.1/\(q4 (q4 (q4 (q4 (q4 (q4 av)))))).1=(q4 (q4 (q4 (q4 (q4 (q4 av)))))).1/\(([]:List SV)=[]))/\(q4 (q4 (q4 (q4 (q4 (q4 av)))))).2.1=(q4 (q4 (q4 (q4 (q4 (q4 av)))))).2.1/\(q4 (q4 (q4 (q4 (q4 (q4 av)))))).2.2.1=(q4 (q4 (q4 (q4 (q4 (q4 av)))))).2.2.1/\True/\True/\True/\True/\(q4 (q4 (q4 (q4 (q4 (q4 av)))))).2.2.2.1=(q4 (q4 (q4 (q4 (q4 (q4 av)))))).2.2.2.1/\Kk/\True/\True/\True/\True/\True/\True/\True/\True/\True/\True/\True/\True/\True/\True/\True/\(([]:List SV)=[])))/\((q4 av).1=(q4 av).1/\(q4 av).2.1=(q4 av).2.1/\(([]:List SV)=[]))/\((q4 av).2.2.1=(q4 av).2.2.1/\True/\(([]:List SV)=[]))/\((q4 (q4 av)).1=(q4 (q4 av)).1/\(q4 (q4 av)).2.1=(q4 (q4 av)).2.1/\(q4 (q4 av)).2.2.1=(q4 (q4 av)).2.2.1/\(([]:List SV)=[]))/\((q4 (q4 (q4 (q4 (q4 (q4 (q4 av))))))).1=(q4 (q4 (q4 (q4 (q4 (q4 (q4 av))))))).1/\(([]:List SV)=[]))/\((q4 (q4 (q4 (q4 (q4 (q4 (q4 av))))))).2.2.1=(q4 (q4 (q4 (q4 (q4 (q4 (q4 av))))))).2.2.1/\Cv)/\((q4 (q4 (q4 (q4 (q4 (q4 (q4 av))))))).2.2.2.1=(q4 (q4 (q4 (q4 (q4 (q4 (q4 av))))))).2.2.2.1/\Co)/\((q4 (q4 (q4 (q4 (q4 (q4 (q4 (q4 av))))))))=(q4 (q4 (q4 (q4 (q4 (q4 (q4 (q4 av))))))))/\CQ)/\(True/\(([]:List SV)=[]))/\((d15.2++[((gD av.1 d15.1 (0,(0,false))).1,((gD av.1 d15.1 (0,(0,false))).2.1,(gD av.1 d15.1 (0,(0,false))).2.2))])=d19.2/\false=(List.isEmpty d19.2))/\True))/\qM d19))) /\
         ((decide (d15.1<av.2.1))=false ->
          (q4 (q4 (q4 (q4 (q4 (q4 (q4 (q4 av))))))))=lH/\(q4 (q4 (q4 (q4 (q4 (q4 (q4 av))))))).2.2.2.1=oc/\(q4 (q4 (q4 (q4 (q4 (q4 (q4 av))))))).2.2.1=w9/\(d15.2.length<=12/\(∀ x∈d15.2,∀ y∈d15.2,(λ(x2:(Int×Int×Bool)×(Int×Int×Bool))=>True) (x,y)))/\(q4 (q4 (q4 (q4 (q4 (q4 (q4 av))))))).2.1=w8/\∃ (oe:Int) (jm:(List (Int×Int×Bool))×Int),((True/\True/\(lI (TF A3 d15.2 0 d15.2.length))=oe/\(0:Int)=jm.2/\True)/\(((q4 av).1=hk/\True/\(([]:List SV)=[]))/\((TF A3 d15.2 0 d15.2.length)=jm.1/\(List.isEmpty d15.2)=(List.isEmpty jm.1))/\((q4 av).2.2.1=(0:Int)/\True/\(([]:List SV)=[]))/\True)) /\
          LoopP (λ(d22:(List (Int×Int×Bool))×Int) (uF:((List (Int×Int×Bool))×Int)->Prop) =>
           ((decide (d22.2<oe))=true ->
            (0<=d22.2)/\(d22.2<(List.length d22.1))/\(I64 (d22.2+(1:Int)))/\(∃ d23:(List (Int×Int×Bool))×Int,((True/\True/\oe=oe/\(d22.2+(1:Int))=d23.2/\True)/\((hk=hk/\True/\(([]:List SV)=[]))/\((sT d22.1 d22.2 ((gD d22.1 d22.2 (0,(0,false))).1,((gD d22.1 d22.2 (0,(0,false))).2.1,false)))=d23.1/\(List.isEmpty d22.1)=(List.isEmpty d23.1))/\((0:Int)=(0:Int)/\True/\(([]:List SV)=[]))/\True))/\uF d23)) /\
           ((decide (d22.2<oe))=false ->
            (((hk=(HD hk cs)/\True/\(([]:List SV)=[]))/\(0:Int)=(QA hk cs)/\(([]:List SV)=[]))/\((d22.1=(U1 hk cs)/\(List.isEmpty d22.1)=(U1 hk cs).isEmpty)/\True)))) jm)) dR)))) d50))))
def X1:Cx:=⟨[(1000018,(.pair (.i .i64) .bo))],[(20,Qv),(54,QD)],43,[3000015],0,[(34,YE)],[],[],[],false,[],[],[15],[]⟩
def JW:List (Nat×LoopAnn):=[(0,⟨Int×(List (Int×Int×Bool))×Int×Int×Int×(List (Int×Int×Bool))×Int×(List (Int×Int×Bool))×Int×Int×(List (Int×Int×Bool))×Int×(List (Int×Int×Bool))×Int×Int×Int×(List (Int×Int×Bool))×(List Value),(List (Int×Bool))×Int,[1,2,4,6,20,21,22],λe x=>[.box 1000001 0,.box 1000002 0,.box 1000004 0,.map 1000018,.val (.list (.pair (.i .i64) (.pair (.i .i64) .bo))) e.2.2.2.2.2.2.2.1,.val (.i .i64) e.2.2.2.2.2.2.2.2.1,.val (.i .i64) x.2],λe x=>[(1000001,.slot 1,.cells [.val (.i .i64) e.1,.val (.list (.pair (.i .i64) (.pair (.i .i64) .bo))) e.2.1] (some 34)),(1000002,.slot 2,.cells [.val (.i .i64) e.2.2.1,.nilS,.val (.i .i64) e.2.2.2.1] (some 70)),(1000004,.slot 4,.cells [.val (.i .i64) e.2.2.2.2.1,.val (.list (.pair (.i .i64) (.pair (.i .i64) .bo))) e.2.2.2.2.2.1,.val (.i .i64) e.2.2.2.2.2.2.1] (some 70)),(1000018,.slot 6,.map (.i .i64) .bo x.1),(999999,.key 999999,.stk [.agg [.val (.i .i64) e.2.2.2.2.2.2.2.2.2.1,.val (.list (.pair (.i .i64) (.pair (.i .i64) .bo))) e.2.2.2.2.2.2.2.2.2.2.1],.box 1 0,.box 2 0,.val (.i .i64) e.2.2.2.2.2.2.2.2.2.2.2.2.2.2.1,.any,.any,.any,.any,.agg [.val (.i .i64) e.2.2.2.2.2.2.2.2.2.2.2.2.2.2.2.1,.val (.list (.pair (.i .i64) (.pair (.i .i64) .bo))) e.2.2.2.2.2.2.2.2.2.2.2.2.2.2.2.2.1],.any,.any,.any,.any,.any,.any,.any,.any,.any,.any,.any,.any,.any,.any,.any,.any,.any,.any,.any,.any,.any,.any,.any,.any,.any] e.2.2.2.2.2.2.2.2.2.2.2.2.2.2.2.2.2),(1,.key 1,.cells [.val (.i .i64) e.2.2.2.2.2.2.2.2.2.2.2.1,.val (.list (.pair (.i .i64) (.pair (.i .i64) .bo))) e.2.2.2.2.2.2.2.2.2.2.2.2.1] (some 34)),(2,.key 2,.cells [.val (.i .i64) e.2.2.2.2.2.2.2.2.2.2.2.2.2.1,.nilS] (some 34))]⟩)]
def Qy:Cx:=⟨[],[],4,[],0,[],[],[],[],false,[],[],[],[]⟩
def Qz:List (Nat×LoopAnn):=[]
def Q2:Cx:=⟨[],[],16,[],0,[],[],[],[],false,[],[],[],[]⟩
def Q1:List (Nat×LoopAnn):=[(0,⟨(List (Int×Int×Bool))×Int×Int×(List (Int×Int×Bool))×Int×(List (Int×Int×Bool))×Int×Int×Int×(List (Int×Int×Bool))×Int×Int×Int×(List (Int×Int×Bool))×Int×Int×Int×(List (Int×Int×Bool))×Int×(List (Int×Int×Bool))×Int×Int×Int×(List (Int×Int×Bool))×Int×Int×Int×(List (Int×Int×Bool))×(List (Int×Int×Bool))×(List Value)×(List Value)×(List Value)×LpD,Int×(List (Int×Int×Bool)),[0,5,6,7],λe x=>[.dd 20000080002500000 .yv,.val (.list (.pair (.i .i64) (.pair (.i .i64) .bo))) e.1,.val (.i .i64) e.2.1,.val (.i .i64) x.1],λe x=>[(1999999,.key 1999999,.stk [.agg [.val (.i .i64) e.2.2.1,.val (.list (.pair (.i .i64) (.pair (.i .i64) .bo))) e.2.2.2.1],.box 1 0,.box 2 0,.val (.i .i64) e.2.2.2.2.2.2.2.1,.box 4 0,.val (.i .i64) e.2.2.2.2.2.2.2.2.2.2.2.1,.any,.tup [.agg [.val (.i .i64) e.2.2.2.2.2.2.2.2.2.2.2.2.1,.val (.list (.pair (.i .i64) (.pair (.i .i64) .bo))) e.2.2.2.2.2.2.2.2.2.2.2.2.2.1,.val (.i .i64) e.2.2.2.2.2.2.2.2.2.2.2.2.2.2.1],.val (.i .i64) e.2.2.2.2.2.2.2.2.2.2.2.2.2.2.2.1],.agg [.val (.i .i64) e.2.2.2.2.2.2.2.2.2.2.2.2.2.2.2.2.1,.val (.list (.pair (.i .i64) (.pair (.i .i64) .bo))) e.2.2.2.2.2.2.2.2.2.2.2.2.2.2.2.2.2.1],.tup [.agg [.val (.i .i64) e.2.2.2.2.2.2.2.2.2.2.2.2.2.2.2.2.2.2.1,.val (.list (.pair (.i .i64) (.pair (.i .i64) .bo))) e.2.2.2.2.2.2.2.2.2.2.2.2.2.2.2.2.2.2.2.1,.val (.i .i64) e.2.2.2.2.2.2.2.2.2.2.2.2.2.2.2.2.2.2.2.2.1],.val (.i .i64) e.2.2.2.2.2.2.2.2.2.2.2.2.2.2.2.2.2.2.2.2.2.1],.agg [.val (.i .i64) e.2.2.2.2.2.2.2.2.2.2.2.2.2.2.2.2.2.2.2.2.2.2.1,.val (.list (.pair (.i .i64) (.pair (.i .i64) .bo))) e.2.2.2.2.2.2.2.2.2.2.2.2.2.2.2.2.2.2.2.2.2.2.2.1,.val (.i .i64) e.2.2.2.2.2.2.2.2.2.2.2.2.2.2.2.2.2.2.2.2.2.2.2.2.1],.val (.i .i64) e.2.2.2.2.2.2.2.2.2.2.2.2.2.2.2.2.2.2.2.2.2.2.2.2.2.1,.val (.i .i64) e.2.2.2.2.2.2.2.2.2.2.2.2.2.2.2.2.2.2.2.2.2.2.2.2.2.2.1,.any,.any,.any,.box 1 1,.val (.list (.pair (.i .i64) (.pair (.i .i64) .bo))) e.2.2.2.2.2.2.2.2.2.2.2.2.2.2.2.2.2.2.2.2.2.2.2.2.2.2.2.1,.fn 52 [] [.box 1900001 0],.any,.any,.any,.any,.any,.any,.any,.any,.any,.any,.any,.any,.any,.any,.any] e.2.2.2.2.2.2.2.2.2.2.2.2.2.2.2.2.2.2.2.2.2.2.2.2.2.2.2.2.2.1),(1,.key 1,.cells [.val (.i .i64) e.2.2.2.2.1,.val (.list (.pair (.i .i64) (.pair (.i .i64) .bo))) e.2.2.2.2.2.1] (some 34)),(2,.key 2,.cells [.val (.i .i64) e.2.2.2.2.2.2.1,.nilS] (some 34)),(4,.key 4,.cells [.val (.i .i64) e.2.2.2.2.2.2.2.2.1,.val (.list (.pair (.i .i64) (.pair (.i .i64) .bo))) e.2.2.2.2.2.2.2.2.2.1,.val (.i .i64) e.2.2.2.2.2.2.2.2.2.2.1] (some 70)),(1900001,.key 1900001,.cells [.val (.list (.pair (.i .i64) (.pair (.i .i64) .bo))) e.2.2.2.2.2.2.2.2.2.2.2.2.2.2.2.2.2.2.2.2.2.2.2.2.2.2.2.2.1] (some 32)),(200000799999,.key 200000799999,.stk [.fn 52 [] [.box 1900001 0],.fn 32 [] [],.any,.any,.nilS,.any,.fn 52 [] [.box 1900001 0],.any,.any,.any,.any,.any] e.2.2.2.2.2.2.2.2.2.2.2.2.2.2.2.2.2.2.2.2.2.2.2.2.2.2.2.2.2.2.1),(20000080000499999,.key 20000080000499999,.stk [.fn 52 [] [.box 1900001 0],.any,.nilS,.fn 52 [] [.box 1900001 0],.any] e.2.2.2.2.2.2.2.2.2.2.2.2.2.2.2.2.2.2.2.2.2.2.2.2.2.2.2.2.2.2.2.1),(20000080002500000,.key 20000080002500000,.lpf [.nilS,.fn 52 [] [.box 1900001 0],.box 20000080000500002 0,.any,.nilS,.any,.fn 52 [] [.box 1900001 0],.any,.any,.any,.any,.any,.any] e.2.2.2.2.2.2.2.2.2.2.2.2.2.2.2.2.2.2.2.2.2.2.2.2.2.2.2.2.2.2.2.2 .rdy),(20000080000500002,.key 20000080000500002,.cells [.lst 20000080000500011] (some 32)),(20000080000500011,.cell 20000080000500002 0,.lst 40 (.pair (.i .i64) (.pair (.i .i64) .bo)) x.2 (List.isEmpty x.2))]⟩)]
def Q5:Cx:=⟨[(40,(.pair (.i .i64) (.pair (.i .i64) .bo)))],[],13,[],0,[],[],[],[],false,[],[(52,Z3a Q2 Q1 c52 16)],[],[]⟩
def Q6:List (Nat×LoopAnn):=[]
def Qi:Cx:=⟨[],[],5,[],0,[(67,Q4c Q5 (λ_=>Q6) c67 [.tmp 4] 13)],[],[],[],false,[],[],[],[]⟩
def Qh:List (Nat×LoopAnn):=[]
def Z3:Cx:=⟨[],[(32,Yy)],12,[],0,[(50,Q4c Qi (λ_=>Qh) c50 [.tmp 2] 5),(51,Qr)],[],[],[],false,[],[],[],[]⟩
def Z2:List (Nat×LoopAnn):=[]
def DM:Cx:=⟨[],[],34,[3000013],0,[(28,Q4c X1 (λ_=>JW) c28 [.cell 2 true 3,.tmp 3] 43),(31,Q4c Qy (λ_=>Qz) c31 [.tmp 2] 4),(30,Q4c Z3 (λ_=>Z2) c30 [.tmp 4] 12)],[],[],[],false,[],[],[13],[]⟩
def CU (hk:Int) (cs:List (Int×Int×Bool)):List (Nat×LoopAnn):=[(0,⟨Int,(List (Int×Int×Bool))×Int,[1,2,23,24],λe x=>[.box 1 0,.box 2 0,.val (.i .i64) e,.val (.i .i64) x.2],λe x=>[(1,.slot 1,.cells [.val (.i .i64) hk,.lst 20000080000500011] (some 34)),(20000080000500011,.cell 1 1,.lst 40 (.pair (.i .i64) (.pair (.i .i64) .bo)) x.1 (List.isEmpty x.1)),(2,.slot 2,.cells [.val (.i .i64) (0:Int),.nilS] (some 34))]⟩)]
theorem Ab (d:Int×List (Int×Int×Bool)):gwp (DM) (CU d.1 d.2) c13 0 (K9 [.cell 2 true 2,.tmp 3] (GG d) (GJ d)) (QC 34 (AL.can BZ d))=K6 d.1 d.2:=by kernel_rfl
abbrev Cy:Prop:=OkC Tryd.prog 13 MO
theorem CP (h:∀ (hk:Int) (cs:List (Int×Int×Bool)),(cs.length<=1000/\(QA hk cs=0->cs.length<=12))->K6 hk cs):OkC Tryd.prog 13 MO :=
 QK Z16 mixed (C:=DM) (V:=λ(d:Int×List (Int×Int×Bool))=>K6 d.1 d.2) ⟨.nil,(XsOk.cons (US Q7v mixed (C:=X1) ⟨(.cons QQ (.cons Za .nil)),(XsOk.cons YB XsOk.nil),ItsOk.nil,YlOk.nil,IysOk.nil,XfOk.nil⟩ (λ_=>JW)) (XsOk.cons (US Z11 mixed (C:=Qy) ⟨.nil,XsOk.nil,ItsOk.nil,YlOk.nil,IysOk.nil,XfOk.nil⟩ (λ_=>Qz)) (XsOk.cons (US Z0a mixed (C:=Z3) ⟨(.cons Mo .nil),(XsOk.cons (US Z1t mixed (C:=Qi) ⟨.nil,(XsOk.cons (US Z2b mixed (C:=Q5) ⟨.nil,XsOk.nil,ItsOk.nil,YlOk.nil,(IysOk.cons (Q2y Z13 mixed (C:=Q2) ⟨.nil,XsOk.nil,ItsOk.nil,YlOk.nil,IysOk.nil,XfOk.nil⟩ Q1) IysOk.nil),XfOk.nil⟩ (λ_=>Q6)) XsOk.nil),ItsOk.nil,YlOk.nil,IysOk.nil,XfOk.nil⟩ (λ_=>Qh)) (XsOk.cons Jb XsOk.nil)),ItsOk.nil,YlOk.nil,IysOk.nil,XfOk.nil⟩ (λ_=>Z2)) XsOk.nil))),ItsOk.nil,YlOk.nil,IysOk.nil,XfOk.nil⟩ (Ab) λd hp=>h d.1 d.2 hp
end Go.Proofs.Tryd
namespace Go.Proofs.Tryd
open Go Go.V Go.Proofs
set_option maxHeartbeats 2000000 in
theorem Ah:Cy:=CP λhk cs h=>by
 obtain⟨h,lb⟩:=h;have dE:∀ e:Int,QA hk cs=e->e≠0->0=HD hk cs/\(e=QA hk cs)/\U1 hk cs=[]/\(U1 hk cs).isEmpty=true:=λe h1 h2=>by
  have:U1 hk cs=[]:=by unfold U1;rw[z0 (by omega)]
  exact⟨by unfold HD;rw[z0 (by omega)],h1.symm,this,by rw[this];rfl⟩
 have a_:∀ e:Int,Qu hk cs=e->e≠0->QA hk cs=e:=λe h1 h2=>by unfold QA;rw[z6 (by omega)];exact h1
 unfold K6
 (try delta Kk Cv Gj Gb CQ Af A3 Co q4)
 (try delta lI gD sT I64 J_ pj8 pj4)
 intro w1 w2;repeat (first|refine⟨trivial,?_⟩|refine⟨rfl,?_⟩)
 refine⟨λc1=>?_,λc1=>?_⟩
 .have e:Qu hk cs=3:=by unfold Qu;rw[z6 c1]
  obtain⟨t,u,v,w⟩:=dE 3 (a_ 3 e (by decide)) (by decide);and_intros<;>first|rfl|trivial|assumption
 repeat (first|refine⟨trivial,?_⟩|refine⟨rfl,?_⟩)
 refine⟨λc2=>?_,λc2=>?_⟩
 .have c2:60<cs.length:=by have:=zk c2;omega
  have e:Qu hk cs=5:=by unfold Qu;rw[z0 (by rw[c1];decide),z6 c2]
  obtain⟨t,u,v,w⟩:=dE 5 (a_ 5 e (by decide)) (by decide);and_intros<;>first|rfl|trivial|assumption
 have c2:cs.length<=60:=by have:=zj c2;omega
 obtain⟨i1,i2⟩:=P6 c1;repeat (first|refine⟨trivial,?_⟩|refine⟨rfl,?_⟩)
 refine⟨⟨i1,i2,by omega⟩,λc3=>?_,λc3=>?_⟩
 .obtain⟨t,u,v,w⟩:=dE 2 (a_ 2 (Cq c1 c2 c3) (by decide)) (by decide);and_intros<;>first|rfl|trivial|assumption
 obtain⟨be,b3,ak⟩:=TS c1 c2 c3;repeat (first|refine⟨trivial,?_⟩|refine⟨rfl,?_⟩)
 refine⟨(hk,cs,0,0,hk,cs,hk,cs,(cs.length:Int),hk,cs,hk,cs,0,0,hk,cs,w1),([],0),by and_intros<;>first|rfl|trivial,?_⟩;refine⟨λd=>∃ k:Nat,k<=cs.length/\d.2=(k:Int)/\SeenI (cs.map (·.1)) d.1 k,λd=>cs.length-d.2.toNat,⟨0,by omega,rfl,SeenI.nil _⟩,?_⟩;rintro⟨mm,_⟩ ⟨k,bg,rfl,hS⟩;dsimp only at hS |-;refine⟨λc=>?_,λc=>?_⟩
 .have ai:k<cs.length:=by have:=zk c;omega
  have hp:=hS.put (by simpa using ai);have eg:(cs.map (·.1)).getD k 0=(cs.getD k (0,(0,false))).1:=by
   rw[Q9 (by simpa using ai),Q9 ai,xD]
  rw[eg] at hp;simp only[zf];exact⟨by omega,by omega,by rw[Qd];omega,(D_ (.i .i64) mm (cs.getD k (0,(0,false))).1 true,(k:Int)+1),by and_intros<;>first|rfl|trivial,⟨k+1,ai,rfl,hp⟩,by dsimp only;omega⟩
 .have au:k=cs.length:=by have:=zj c;omega
  subst au;have hl:(cs.map (·.1)).length=cs.length:=xt ..;rw[<-hl] at hS;obtain⟨f1,f2⟩:=hS.full;rw[hl] at f2;refine⟨λc4=>?_,λc4=>?_⟩
  .rw[f1] at c4;have e:QA hk cs=9:=by unfold QA;rw[z0 (by omega),z6 (zk c4)]
   obtain⟨t,u,v,w⟩:=dE 9 e (by decide);and_intros<;>first|rfl|trivial|assumption
  rw[f1] at c4;have c4:=zj c4;refine⟨λc5=>?_,λc5=>?_⟩
  .rw[f2] at c5;have e:QA hk cs=6:=by unfold QA;rw[z0 (by omega),z0 c4,z0 (zk c5)]
   obtain⟨t,u,v,w⟩:=dE 6 e (by decide);and_intros<;>first|rfl|trivial|assumption
  rw[f2] at c5;have fC:(cs.map (·.1)).Nodup:=Decidable.not_not.1 (zj c5);have en:QA hk cs=0:=by unfold QA;rw[z0 (by omega),z0 c4,z6 fC]
  have em:U1 hk cs=Q1q cs:=by unfold U1;rw[z6 en]
  have eh:HD hk cs=hk:=by unfold HD;rw[z6 en]
  have lb:=lb en;rw[en,em,eh];clear hS f1 f2;repeat (first|refine⟨trivial,?_⟩|refine⟨rfl,?_⟩)
  intro w7;repeat (first|refine⟨trivial,?_⟩|refine⟨rfl,?_⟩)
  intro w8 w9 oc lH;refine⟨(cs,(cs.length:Int),hk,cs,hk,cs,0,0,hk,cs,hk,0,hk,cs,hk,0,hk,cs,hk,cs,hk,0,hk,cs,hk,0,0,cs,cs,w8,w9,oc,lH),(0,[]),by and_intros<;>first|rfl|trivial,?_⟩;refine⟨λd=>∃ k:Nat,k<=cs.length/\d=((k:Int),cs.take k),λd=>cs.length-d.1.toNat,⟨0,by omega,rfl⟩,?_⟩;rintro _ ⟨k,bg,rfl⟩;refine⟨λc=>?_,λc=>?_⟩
  .have ai:k<cs.length:=by have:=zk c;dsimp only at this;omega
   refine⟨by show (0:Int)<=(k:Int);omega,by show (k:Int)<(cs.length:Int);omega,rfl,?_⟩;intro uG;refine⟨by show ((cs.take k).length+1)*24<=70368744177664;rw[xR];omega,?_⟩;repeat (first|refine⟨rfl,?_⟩|refine⟨trivial,?_⟩)
   refine⟨(λc=>by simp at c),λ_=>?_⟩;refine⟨by rw[Qd];show _<=(k:Int)+1/\(k:Int)+1<=_;omega,((k:Int)+1,cs.take (k+1)),?_,⟨k+1,ai,rfl⟩,by show cs.length-((k:Int)+1).toNat<cs.length-(k:Int).toNat;omega⟩;have e2:cs.take (k+1)=cs.take k++[cs.getD k (0,(0,false))]:=by rw[J1 ai,Q9 ai]
   rw[e2];and_intros<;>first|rfl|trivial|simp
  .have au:k=cs.length:=by have:=zj c;dsimp only at this;omega
   subst au;rw[List.take_length];have hp:=TW (f:=Q0z) (a:=0) (zd cs.length);have fR:=hp.length_eq;have fT:Q1q cs=(TF Q0z cs 0 cs.length).map λc=>((c.1,(c.2.1,false)):Xo):=rfl;repeat (first|refine⟨rfl,?_⟩|refine⟨trivial,?_⟩)
   refine⟨⟨lb,λ_ _ _ _=>trivial⟩,?_⟩;repeat (first|refine⟨rfl,?_⟩|refine⟨trivial,?_⟩)
   have aB:cs.isEmpty=false:=by cases cs with
    |nil=>exact(b3 rfl).elim
    |cons _ _=>rfl
   have og:(TF Q0z cs 0 cs.length).isEmpty=false:=by rw[<-aB];exact Bool.eq_iff_iff.2 (by rw[List.isEmpty_iff,List.isEmpty_iff,<-xc,<-xc,fR])
   refine⟨((TF Q0z cs 0 cs.length).length:Int),(TF Q0z cs 0 cs.length,0),by and_intros<;>first|rfl|trivial|exact aB.trans og.symm,?_⟩;generalize hS:TF Q0z cs 0 cs.length=S at *
   refine⟨λd=>∃ k:Nat,k<=S.length/\d=((S.take k).map (λc=>((c.1,(c.2.1,false)):Xo))++S.drop k,(k:Int)),λd=>S.length-d.2.toNat,⟨0,by omega,by simp⟩,?_⟩;rintro _ ⟨k,bg,rfl⟩;have sh:((S.take k).map (λc=>((c.1,(c.2.1,false)):Xo))++S.drop k).length=S.length:=by simp;omega
   refine⟨λc=>?_,λc=>?_⟩
   .have ai:k<S.length:=by have:=zk c;dsimp only at this;omega
    have uH:((S.take k).map (λc=>((c.1,(c.2.1,false)):Xo))++S.drop k).getD k (0,(0,false))=S[k]:=by rw[Q9 (by omega),List.getElem_append_right (by simp;omega)];simp[w5 (Nat.le_of_lt ai)]
    have aY:((S.take k).map (λc=>((c.1,(c.2.1,false)):Xo))++S.drop k).set k (S[k].1,(S[k].2.1,false))=(S.take (k+1)).map (λc=>((c.1,(c.2.1,false)):Xo))++S.drop (k+1):=by rw[wm _ _ (by simp;omega),J1 ai,xH,x9,xP ai];simp[w5 (Nat.le_of_lt ai)];rw[xP ai,List.set_cons_zero]
    generalize hL:(S.take k).map (λc=>((c.1,(c.2.1,false)):Xo))++S.drop k=L at *
    generalize uI:(S.take (k+1)).map (λc=>((c.1,(c.2.1,false)):Xo))++S.drop (k+1)=L' at *
    have e1:L.set k ((L.getD k (0,(0,false))).1,((L.getD k (0,(0,false))).2.1,false))=L':=by rw[uH];exact aY
    have l1:L'.length=S.length:=by rw[<-aY,xj];exact sh
    have e2:L.isEmpty=L'.isEmpty:=Bool.eq_iff_iff.2 (by rw[List.isEmpty_iff,List.isEmpty_iff,<-xc,<-xc,sh,l1]);exact⟨by show (0:Int)<=(k:Int);omega,by show (k:Int)<(L.length:Int);omega,by rw[Qd];show _<=(k:Int)+1/\(k:Int)+1<=_;omega,(L',(k:Int)+1),by and_intros<;>first|rfl|trivial|exact e1|exact e2,⟨k+1,ai,by rw[uI];rfl⟩,by show S.length-((k:Int)+1).toNat<S.length-(k:Int).toNat;omega⟩
   .have au:k=S.length:=by have:=zj c;dsimp only at this;omega
    subst au;rw[List.take_length,List.drop_length,xG,<-fT];have l_:(Q1q cs).isEmpty=false:=by rw[fT,List.isEmpty_map];exact og
    and_intros<;>first|rfl|trivial|exact l_
def Vb:AL ((Int×(List (Int×Int×Bool))×Int)×Int):=(.cons (.agg (.cons (.k (.i .i64)) (.cons (.k (.list (.pair (.i .i64) (.pair (.i .i64) .bo)))) (.one (.k (.i .i64)))))) (.one (.k (.i .i64))))
def Dk (m:List (Int×Bool)) (a:(Int×(List (Int×Int×Bool))×Int)×Int):Prop:=0<=a.2/\a.2<a.1.2.1.length/\a.1.2.1.length<=1000
def KK (m:List (Int×Bool)) (a:(Int×(List (Int×Int×Bool))×Int)×Int):SV:=.val (.i .i64) (Sa (nmC a.1.2.1) (woM m) a.1.2.1.length a.2.toNat a.1.2.1.length)
def YY (m:List (Int×Bool)) (a:(Int×(List (Int×Int×Bool))×Int)×Int) (m2:List (Int×Bool)):Prop:=m2=m
def Yl:XSp:=Q0v Lv 2 (.i .i64) .bo (Z2n Vb Dk KK YY)
def JV (m:List (Int×Bool)) (hk:Int) (cs:List (Int×Int×Bool)) (f:Int) (fi:Int):Prop:=∀ vals:List Value,
 (0<=(lI cs))/\((lI cs)<=(lI cs))/\((lI cs)*8<=70368744177664)/\((lI cs)<=70368744177664)/\(0<=fi)/\(fi<(List.length (List.replicate (Int.toNat (lI cs)) (0:Int))))/\∀ w1:List Value,w1=w1/\∀ w2:LpD,∃ (e5:Int×(List (Int×Int×Bool))×Int×Int×Int×Int×(List (Int×Int×Bool))×Int×Int×(List (Int×Bool))×Int×(List (Int×Int×Bool))×Int×(List (Int×Int×Bool))×Int×Int×Int×(List (Int×Int×Bool))×Int×Int×LpD×(List Value)) (d50:Int×Int×(List Int)),((True/\True/\True/\(lI cs)=(pj4 e5).1/\(0:Int)=d50.1/\True)/\((hk=e5.1/\cs=e5.2.1/\f=e5.2.2.1/\(([]:List SV)=[]))/\(fi=e5.2.2.2.1/\(([]:List SV)=[]))/\((pj4 (J_ e5)).1=w2/\((hk=(pj4 e5).2.1/\cs=(pj4 e5).2.2.1/\f=(pj4 e5).2.2.2.1/\(([]:List SV)=[]))/\fi=(pj8 e5).1/\True/\True/\True/\True/\True/\True/\True/\True/\True/\True/\True/\cs=(pj4 (pj8 e5)).2.1/\(lI cs)=(pj4 (pj8 e5)).2.2.1/\True/\True/\fi=(pj4 (pj8 e5)).2.2.2.1/\True/\(hk=(J_ e5).1/\cs=(J_ e5).2.1/\f=(J_ e5).2.2.1/\(([]:List SV)=[]))/\fi=(J_ e5).2.2.2.1/\(((([]:List SV)=[]))/\(True/\True/\(([]:List SV)=[])))/\True/\True/\True/\True/\True/\True/\True/\True/\True/\True/\True/\True/\True/\True/\True/\True/\True/\True/\True/\True/\True/\True/\True/\True/\True/\True/\True/\True/\True/\True/\True/\True/\True/\True/\True/\True/\True/\True/\True/\True/\True/\True/\True/\True/\True/\True/\True/\True/\True/\True/\True/\(([]:List SV)=[])))/\(m=(pj8 e5).2.1)/\(hk=(pj8 e5).2.2.1/\cs=(pj8 e5).2.2.2.1/\f=(pj4 (pj8 e5)).1/\(([]:List SV)=[]))/\(True/\(([]:List SV)=[]))/\((0:Int)=d50.2.1/\(([]:List SV)=[]))/\(True/\(([]:List SV)=[]))/\((sT (List.replicate (Int.toNat (lI cs)) (0:Int)) fi (1:Int))=d50.2.2/\false=false)/\((pj4 (J_ e5)).2=vals/\(True/\(([]:List SV)=[])))/\True)) /\
 LoopP (λ(d5:Int×Int×(List Int)) (q5:(Int×Int×(List Int))->Prop) =>
  ((decide (d5.1<(pj4 e5).1))=true ->
   (e5.2.1≠[]/\e5.2.1.length<=1000/\-1000000<=e5.2.2.2.1/\e5.2.2.2.1<=1000000/\-1000000<=d5.1/\d5.1<=1000000)/\(pj4 (J_ e5)).1=w2/\∀ w6:List Value,∃ (e9:Int×Int×Int×LpD×Int×Int×Bool×Int×Int×Int×(List Value)) (d90:(List Int)×Int),((True/\True/\True/\True/\(Int.tmod (e5.2.2.2.1+d5.1) e5.2.1.length)=e9.2.1/\True/\(lI d5.2.2)=e9.2.2.1/\(0:Int)=d90.2/\True)/\(((pj8 e5).2.2.1=hk/\(pj8 e5).2.2.2.1=cs/\(pj4 (pj8 e5)).1=f/\(([]:List SV)=[]))/\(True/\(([]:List SV)=[]))/\((pj8 e5).2.1=m)/\(d5.2.1=e9.1/\(([]:List SV)=[]))/\(True/\(([]:List SV)=[]))/\(d5.2.2=d90.1/\false=false)/\(e9.2.2.2.1=(pj4 (J_ e5)).1/\(((pj4 e5).2.1=hk/\(pj4 e5).2.2.1=cs/\(pj4 e5).2.2.2.1=f/\(([]:List SV)=[]))/\(pj8 e5).1=fi/\True/\True/\True/\True/\True/\True/\True/\True/\True/\True/\True/\(pj4 (pj8 e5)).2.1=cs/\(pj4 (pj8 e5)).2.2.1=(lI cs)/\True/\True/\(pj4 (pj8 e5)).2.2.2.1=fi/\True/\((J_ e5).1=hk/\(J_ e5).2.1=cs/\(J_ e5).2.2.1=f/\(([]:List SV)=[]))/\(J_ e5).2.2.2.1=fi/\(((([]:List SV)=[]))/\(True/\True/\(([]:List SV)=[])))/\True/\True/\True/\True/\True/\True/\True/\True/\True/\True/\True/\True/\True/\True/\True/\True/\True/\True/\True/\True/\True/\True/\True/\True/\True/\True/\True/\True/\True/\True/\True/\True/\True/\True/\True/\True/\True/\True/\True/\True/\True/\True/\True/\True/\True/\True/\True/\True/\True/\True/\True/\(([]:List SV)=[])))/\(e5.1=hk/\e5.2.1=cs/\e5.2.2.1=f/\(([]:List SV)=[]))/\(e5.2.2.2.1=fi/\(([]:List SV)=[]))/\(vals=(pj4 (J_ e5)).2/\(True/\(([]:List SV)=[])))/\((pj8 e9).2.2=w6/\(True/\True/\True/\True/\d5.1=(pj4 e9).1/\True/\True/\True/\(pj4 e5).1=(lI cs)/\d5.1=(pj4 e9).2.1/\(decide (d5.1<(pj4 e5).1))=(pj4 e9).2.2.1/\d5.1=(pj4 e9).2.2.2.1/\True/\(e5.1=hk/\e5.2.1=cs/\e5.2.2.1=f/\(([]:List SV)=[]))/\e5.2.2.2.1=fi/\d5.1=(pj8 e9).1/\(Int.tmod (e5.2.2.2.1+d5.1) e5.2.1.length)=(pj8 e9).2.1/\True/\True/\True/\(([]:List SV)=[])))/\True)) /\
   LoopP (λ(d9:(List Int)×Int) (q9:((List Int)×Int)->Prop) =>
    ((decide (d9.2<e9.2.2.1))=true ->
     (0<=d9.2)/\(d9.2<(List.length d9.1))/\(((decide ((gD d9.1 d9.2 0) > (0:Int)))&&(!(gq.aget (.i .i64) m e9.2.1 false)))=true->0<=e9.2.1)/\(((decide ((gD d9.1 d9.2 0) > (0:Int)))&&(!(gq.aget (.i .i64) m e9.2.1 false)))=true->e9.2.1<(List.length cs))/\(((decide ((gD d9.1 d9.2 0) > (0:Int)))&&(!(gq.aget (.i .i64) m e9.2.1 false)))=true->0<=d9.2)/\(((decide ((gD d9.1 d9.2 0) > (0:Int)))&&(!(gq.aget (.i .i64) m e9.2.1 false)))=true->d9.2<(List.length cs))/\((((decide ((gD d9.1 d9.2 0) > (0:Int)))&&(!(gq.aget (.i .i64) m e9.2.1 false)))&&(decide ((gD cs e9.2.1 (0,(0,false))).1 > (gD cs d9.2 (0,(0,false))).1)))=true ->
      (0<=e9.2.1)/\(e9.2.1<(List.length d9.1))/\(I64 ((gD d9.1 d9.2 0)+(1:Int)))/\(0<=e9.2.1)/\(e9.2.1<(List.length d9.1))/\(I64 (d9.2+(1:Int)))/\(∃ d10:(List Int)×Int,((True/\True/\True/\True/\e9.2.1=e9.2.1/\True/\e9.2.2.1=e9.2.2.1/\(d9.2+(1:Int))=d10.2/\True)/\((hk=hk/\cs=cs/\f=f/\(([]:List SV)=[]))/\(True/\(([]:List SV)=[]))/\(m=m)/\(e9.1=e9.1/\(([]:List SV)=[]))/\(True/\(([]:List SV)=[]))/\((sT d9.1 e9.2.1 (PZ (gD d9.1 e9.2.1 0) ((gD d9.1 d9.2 0)+(1:Int))))=d10.1/\false=false)/\(e9.2.2.2.1=e9.2.2.2.1/\((hk=hk/\cs=cs/\f=f/\(([]:List SV)=[]))/\fi=fi/\True/\True/\True/\True/\True/\True/\True/\True/\True/\True/\True/\cs=cs/\(lI cs)=(lI cs)/\True/\True/\fi=fi/\True/\(hk=hk/\cs=cs/\f=f/\(([]:List SV)=[]))/\fi=fi/\(((([]:List SV)=[]))/\(True/\True/\(([]:List SV)=[])))/\True/\True/\True/\True/\True/\True/\True/\True/\True/\True/\True/\True/\True/\True/\True/\True/\True/\True/\True/\True/\True/\True/\True/\True/\True/\True/\True/\True/\True/\True/\True/\True/\True/\True/\True/\True/\True/\True/\True/\True/\True/\True/\True/\True/\True/\True/\True/\True/\True/\True/\True/\(([]:List SV)=[])))/\(hk=hk/\cs=cs/\f=f/\(([]:List SV)=[]))/\(fi=fi/\(([]:List SV)=[]))/\(vals=vals/\(True/\(([]:List SV)=[])))/\((pj8 e9).2.2=(pj8 e9).2.2/\(True/\True/\True/\True/\(pj4 e9).1=(pj4 e9).1/\True/\True/\True/\(lI cs)=(lI cs)/\(pj4 e9).2.1=(pj4 e9).2.1/\(pj4 e9).2.2.1=(pj4 e9).2.2.1/\(pj4 e9).2.2.2.1=(pj4 e9).2.2.2.1/\True/\(hk=hk/\cs=cs/\f=f/\(([]:List SV)=[]))/\fi=fi/\(pj8 e9).1=(pj8 e9).1/\(pj8 e9).2.1=(pj8 e9).2.1/\True/\True/\True/\(([]:List SV)=[])))/\True))/\q9 d10)) /\
     ((((decide ((gD d9.1 d9.2 0) > (0:Int)))&&(!(gq.aget (.i .i64) m e9.2.1 false)))&&(decide ((gD cs e9.2.1 (0,(0,false))).1 > (gD cs d9.2 (0,(0,false))).1)))=false ->
      (I64 (d9.2+(1:Int)))/\(∃ d11:(List Int)×Int,((True/\True/\True/\True/\e9.2.1=e9.2.1/\True/\e9.2.2.1=e9.2.2.1/\(d9.2+(1:Int))=d11.2/\True)/\((hk=hk/\cs=cs/\f=f/\(([]:List SV)=[]))/\(True/\(([]:List SV)=[]))/\(m=m)/\(e9.1=e9.1/\(([]:List SV)=[]))/\(True/\(([]:List SV)=[]))/\(d9.1=d11.1/\false=false)/\(e9.2.2.2.1=e9.2.2.2.1/\((hk=hk/\cs=cs/\f=f/\(([]:List SV)=[]))/\fi=fi/\True/\True/\True/\True/\True/\True/\True/\True/\True/\True/\True/\cs=cs/\(lI cs)=(lI cs)/\True/\True/\fi=fi/\True/\(hk=hk/\cs=cs/\f=f/\(([]:List SV)=[]))/\fi=fi/\(((([]:List SV)=[]))/\(True/\True/\(([]:List SV)=[])))/\True/\True/\True/\True/\True/\True/\True/\True/\True/\True/\True/\True/\True/\True/\True/\True/\True/\True/\True/\True/\True/\True/\True/\True/\True/\True/\True/\True/\True/\True/\True/\True/\True/\True/\True/\True/\True/\True/\True/\True/\True/\True/\True/\True/\True/\True/\True/\True/\True/\True/\True/\(([]:List SV)=[])))/\(hk=hk/\cs=cs/\f=f/\(([]:List SV)=[]))/\(fi=fi/\(([]:List SV)=[]))/\(vals=vals/\(True/\(([]:List SV)=[])))/\((pj8 e9).2.2=(pj8 e9).2.2/\(True/\True/\True/\True/\(pj4 e9).1=(pj4 e9).1/\True/\True/\True/\(lI cs)=(lI cs)/\(pj4 e9).2.1=(pj4 e9).2.1/\(pj4 e9).2.2.1=(pj4 e9).2.2.1/\(pj4 e9).2.2.2.1=(pj4 e9).2.2.2.1/\True/\(hk=hk/\cs=cs/\f=f/\(([]:List SV)=[]))/\fi=fi/\(pj8 e9).1=(pj8 e9).1/\(pj8 e9).2.1=(pj8 e9).2.1/\True/\True/\True/\(([]:List SV)=[])))/\True))/\q9 d11))) /\
    ((decide (d9.2<e9.2.2.1))=false ->
     (0<=e9.2.1)/\(e9.2.1<(List.length d9.1))/\(pj8 e9).2.2=w6/\e9.2.2.2.1=w2/\((!true)=true ->
      e9.2.2.2.1=w2/\(vals=vals/\(True/\(([]:List SV)=[]))/\(PZ e9.1 (gD d9.1 e9.2.1 0))=(Sa (nmC cs) (woM m) cs.length fi.toNat cs.length)/\(m=m))) /\
     ((!true)=false ->
      (I64 ((pj4 e9).2.1+(1:Int)))/\(∃ d12:Int×Int×(List Int),((True/\True/\True/\(lI cs)=(pj4 e5).1/\((pj4 e9).2.1+(1:Int))=d12.1/\True)/\((hk=e5.1/\cs=e5.2.1/\f=e5.2.2.1/\(([]:List SV)=[]))/\(fi=e5.2.2.2.1/\(([]:List SV)=[]))/\((pj4 (J_ e5)).1=e9.2.2.2.1/\((hk=(pj4 e5).2.1/\cs=(pj4 e5).2.2.1/\f=(pj4 e5).2.2.2.1/\(([]:List SV)=[]))/\fi=(pj8 e5).1/\True/\True/\True/\True/\True/\True/\True/\True/\True/\True/\True/\cs=(pj4 (pj8 e5)).2.1/\(lI cs)=(pj4 (pj8 e5)).2.2.1/\True/\True/\fi=(pj4 (pj8 e5)).2.2.2.1/\True/\(hk=(J_ e5).1/\cs=(J_ e5).2.1/\f=(J_ e5).2.2.1/\(([]:List SV)=[]))/\fi=(J_ e5).2.2.2.1/\(((([]:List SV)=[]))/\(True/\True/\(([]:List SV)=[])))/\True/\True/\True/\True/\True/\True/\True/\True/\True/\True/\True/\True/\True/\True/\True/\True/\True/\True/\True/\True/\True/\True/\True/\True/\True/\True/\True/\True/\True/\True/\True/\True/\True/\True/\True/\True/\True/\True/\True/\True/\True/\True/\True/\True/\True/\True/\True/\True/\True/\True/\True/\(([]:List SV)=[])))/\(m=(pj8 e5).2.1)/\(hk=(pj8 e5).2.2.1/\cs=(pj8 e5).2.2.2.1/\f=(pj4 (pj8 e5)).1/\(([]:List SV)=[]))/\(True/\(([]:List SV)=[]))/\((PZ e9.1 (gD d9.1 e9.2.1 0))=d12.2.1/\(([]:List SV)=[]))/\(True/\(([]:List SV)=[]))/\(d9.1=d12.2.2/\false=false)/\((pj4 (J_ e5)).2=vals/\(True/\(([]:List SV)=[])))/\True))/\q5 d12)))) d90) /\
  ((decide (d5.1<(pj4 e5).1))=false ->
   (pj4 (J_ e5)).1=w2/\((pj4 (J_ e5)).2=vals/\(True/\(([]:List SV)=[]))/\d5.2.1=(Sa (nmC cs) (woM m) cs.length fi.toNat cs.length)/\((pj8 e5).2.1=m)))) d50
def ZD:Cx:=⟨[],[],6,[],0,[],[],[],[],false,[],[],[],[]⟩
def ZE:List (Nat×LoopAnn):=[]
def Zt:Cx:=⟨[],[(37,J5)],20,[],0,[],[],[],[],false,[],[],[],[]⟩
def Zx:List (Nat×LoopAnn):=[(0,⟨Int×(List (Int×Int×Bool))×Int×Int×Int×Int×(List (Int×Int×Bool))×Int×Int×(List (Int×Bool))×Int×(List (Int×Int×Bool))×Int×(List (Int×Int×Bool))×Int×Int×Int×(List (Int×Int×Bool))×Int×Int×LpD×(List Value),Int×Int×(List Int),[0,1,2,8,9],λe x=>[.dd 2000000 .yv,.box 2200002 0,.box 2200003 0,.val (.i .i64) e.2.2.2.2.1,.val (.i .i64) x.1],λe x=>[(2200002,.slot 1,.cells [.val (.i .i64) e.1,.val (.list (.pair (.i .i64) (.pair (.i .i64) .bo))) e.2.1,.val (.i .i64) e.2.2.1] (some 70)),(2200003,.slot 2,.cells [.val (.i .i64) e.2.2.2.1] (some 3)),(2000000,.key 2000000,.lpf [.agg [.val (.i .i64) e.2.2.2.2.2.1,.val (.list (.pair (.i .i64) (.pair (.i .i64) .bo))) e.2.2.2.2.2.2.1,.val (.i .i64) e.2.2.2.2.2.2.2.1],.val (.i .i64) e.2.2.2.2.2.2.2.2.1,.map 0,.box 3 0,.any,.box 5 0,.box 6 0,.box 7 0,.any,.any,.any,.box 3 0,.box 3 1,.val (.list (.pair (.i .i64) (.pair (.i .i64) .bo))) e.2.2.2.2.2.2.2.2.2.2.2.2.2.1,.val (.i .i64) e.2.2.2.2.2.2.2.2.2.2.2.2.2.2.1,.lst 15,.lst 15,.val (.i .i64) e.2.2.2.2.2.2.2.2.2.2.2.2.2.2.2.1,.any,.agg [.val (.i .i64) e.2.2.2.2.2.2.2.2.2.2.2.2.2.2.2.2.1,.val (.list (.pair (.i .i64) (.pair (.i .i64) .bo))) e.2.2.2.2.2.2.2.2.2.2.2.2.2.2.2.2.2.1,.val (.i .i64) e.2.2.2.2.2.2.2.2.2.2.2.2.2.2.2.2.2.2.1],.val (.i .i64) e.2.2.2.2.2.2.2.2.2.2.2.2.2.2.2.2.2.2.2.1,.fn 80 [] [.box 2200002 0,.box 2200003 0],.any,.any,.any,.any,.any,.any,.any,.any,.any,.any,.any,.any,.any,.any,.any,.any,.any,.any,.any,.any,.any,.any,.any,.any,.any,.any,.any,.any,.any,.any,.any,.any,.any,.any,.any,.any,.any,.any,.any,.any,.any,.any,.any,.any,.any,.any,.any,.any,.any,.any,.any] e.2.2.2.2.2.2.2.2.2.2.2.2.2.2.2.2.2.2.2.2.1 .rdy),(0,.key 0,.map (.i .i64) .bo e.2.2.2.2.2.2.2.2.2.1),(3,.key 3,.cells [.val (.i .i64) e.2.2.2.2.2.2.2.2.2.2.1,.val (.list (.pair (.i .i64) (.pair (.i .i64) .bo))) e.2.2.2.2.2.2.2.2.2.2.2.1,.val (.i .i64) e.2.2.2.2.2.2.2.2.2.2.2.2.1] (some 70)),(5,.key 5,.cells [.map 0] (some 73)),(6,.key 6,.cells [.val (.i .i64) x.2.1] (some 3)),(7,.key 7,.cells [.lst 15] (some 24)),(15,.cell 7 0,.lst 3 (.i .i64) x.2.2 false),(4000000,.key 4000000,.stk [.map 0] e.2.2.2.2.2.2.2.2.2.2.2.2.2.2.2.2.2.2.2.2.2)]⟩)]
def Vn:Cx:=⟨[(3,(.i .i64))],[],73,[],0,[(66,Q4c ZD (λ_=>ZE) c66 [.tmp 4] 6)],[],[],[],false,[],[(80,Z3a Zt Zx c80 20)],[],[]⟩
def VE (m:List (Int×Bool)) (hk:Int) (cs:List (Int×Int×Bool)) (f:Int) (fi:Int) (vals:List Value):List (Nat×LoopAnn):=[(2,⟨Int×Int×Int×LpD×Int×Int×Bool×Int×Int×Int×(List Value),(List Int)×Int,[3,5,6,7,8,23,24,25],λe x=>[.box 3 0,.box 5 0,.box 6 0,.box 7 0,.val (.i .i64) e.2.1,.lst 15,.val (.i .i64) e.2.2.1,.val (.i .i64) x.2],λe x=>[(3,.slot 3,.cells [.val (.i .i64) hk,.val (.list (.pair (.i .i64) (.pair (.i .i64) .bo))) cs,.val (.i .i64) f] (some 70)),(5,.slot 5,.cells [.map 0] (some 73)),(0,.cell 5 0,.map (.i .i64) .bo m),(6,.slot 6,.cells [.val (.i .i64) e.1] (some 3)),(7,.slot 7,.cells [.lst 15] (some 24)),(15,.cell 7 0,.lst 3 (.i .i64) x.1 false),(2000000,.key 2000000,.lpf [.agg [.val (.i .i64) hk,.val (.list (.pair (.i .i64) (.pair (.i .i64) .bo))) cs,.val (.i .i64) f],.val (.i .i64) fi,.map 0,.box 3 0,.any,.box 5 0,.box 6 0,.box 7 0,.any,.any,.any,.box 3 0,.box 3 1,.val (.list (.pair (.i .i64) (.pair (.i .i64) .bo))) cs,.val (.i .i64) (((List.length cs):Nat):Int),.lst 15,.lst 15,.val (.i .i64) fi,.any,.agg [.val (.i .i64) hk,.val (.list (.pair (.i .i64) (.pair (.i .i64) .bo))) cs,.val (.i .i64) f],.val (.i .i64) fi,.fn 80 [] [.box 2200002 0,.box 2200003 0],.any,.any,.any,.any,.any,.any,.any,.any,.any,.any,.any,.any,.any,.any,.any,.any,.any,.any,.any,.any,.any,.any,.any,.any,.any,.any,.any,.any,.any,.any,.any,.any,.any,.any,.any,.any,.any,.any,.any,.any,.any,.any,.any,.any,.any,.any,.any,.any,.any,.any,.any] e.2.2.2.1 .busy),(2200002,.key 2200002,.cells [.val (.i .i64) hk,.val (.list (.pair (.i .i64) (.pair (.i .i64) .bo))) cs,.val (.i .i64) f] (some 70)),(2200003,.key 2200003,.cells [.val (.i .i64) fi] (some 3)),(4000000,.key 4000000,.stk [.map 0] vals),(200000099999,.key 200000099999,.stk [.dd 2000000 .yv,.box 2200002 0,.box 2200003 0,.any,.val (.i .i64) e.2.2.2.2.1,.any,.any,.any,.val (.i .i64) (((List.length cs):Nat):Int),.val (.i .i64) e.2.2.2.2.2.1,.val .bo e.2.2.2.2.2.2.1,.val (.i .i64) e.2.2.2.2.2.2.2.1,.dd 2000000 .yv,.agg [.val (.i .i64) hk,.val (.list (.pair (.i .i64) (.pair (.i .i64) .bo))) cs,.val (.i .i64) f],.val (.i .i64) fi,.val (.i .i64) e.2.2.2.2.2.2.2.2.1,.val (.i .i64) e.2.2.2.2.2.2.2.2.2.1,.any,.any,.any] e.2.2.2.2.2.2.2.2.2.2)]⟩)]
theorem BY (m:List (Int×Bool)) (a:(Int×(List (Int×Int×Bool))×Int)×Int):(∀ vals,gwp Vn (VE m a.1.1 a.1.2.1 a.1.2.2 a.2 vals) c49 0 (Q1x vals [.cell 6 false 1] (KK m a) (.i .i64) .bo (YY m a)) (Mk 73 2 (.i .i64) .bo m vals (AL.can Vb a)))=JV m a.1.1 a.1.2.1 a.1.2.2 a.2:=by kernel_rfl
abbrev B8:Prop:=XOk Tryd.prog 49 Yl
theorem B6 (h:∀ (m:List (Int×Bool)) (hk:Int) (cs:List (Int×Int×Bool)) (f:Int) (fi:Int),(0<=fi/\fi<cs.length/\cs.length<=1000)->JV m hk cs f fi):XOk Tryd.prog 49 Yl :=
 CC Z1e mixed M4 rfl (C:=Vn) ⟨.nil,(XsOk.cons (US Z0o mixed (C:=ZD) ⟨.nil,XsOk.nil,ItsOk.nil,YlOk.nil,IysOk.nil,XfOk.nil⟩ (λ_=>ZE)) XsOk.nil),ItsOk.nil,YlOk.nil,(IysOk.cons (Q2y Z25 mixed (C:=Zt) ⟨(.cons W3 .nil),XsOk.nil,ItsOk.nil,YlOk.nil,IysOk.nil,XfOk.nil⟩ Zx) IysOk.nil),XfOk.nil⟩ (L:=λm (a:(Int×(List (Int×Int×Bool))×Int)×Int) vals=>VE m a.1.1 a.1.2.1 a.1.2.2 a.2 vals) (V:=λm (a:(Int×(List (Int×Int×Bool))×Int)×Int)=>JV m a.1.1 a.1.2.1 a.1.2.2 a.2) BY λm a hp=>h m a.1.1 a.1.2.1 a.1.2.2 a.2 hp
set_option maxHeartbeats 1000000 in
theorem Dz:B8:=B6 λm hk cs f fi h=>by
 obtain⟨h1,h2,h3⟩:=h;unfold JV;(try delta lI gD sT I64 J_ pj8 pj4);intro vals;obtain⟨a,rfl⟩:=zM h1;have ha:a<cs.length:=by omega
 have jA:0<cs.length:=by omega
 have aB:cs≠[]:=xh.1 jA;repeat (first|(refine And.intro (by first|omega|(simp;omega)|rfl|trivial) ?_))
 intro w1;repeat (first|refine⟨trivial,?_⟩|refine⟨rfl,?_⟩)
 intro w2;refine⟨(hk,cs,f,(a:Int),(cs.length:Int),hk,cs,f,(a:Int),m,hk,cs,f,cs,(cs.length:Int),(a:Int),hk,cs,f,(a:Int),w2,vals),(0,0,(List.replicate cs.length 0).set a 1),by and_intros<;>first|rfl|trivial,?_⟩;refine⟨λd=>∃ k:Nat,k<=cs.length/\d=((k:Int),Sa (nmC cs) (woM m) cs.length a k,NR (nmC cs) (woM m) cs.length a k),λd=>cs.length-d.1.toNat,⟨0,by omega,rfl⟩,?_⟩;rintro _ ⟨k,bg,rfl⟩;dsimp only;refine⟨λc=>?_,λc=>?_⟩
 .have ai:k<cs.length:=by have:=zk c;omega
  have uJ:Int.tmod ((a:Int)+(k:Int)) (cs.length:Int)=((arP cs.length a k:Nat):Int):=by rw[Int.tmod_eq_emod_of_nonneg (by omega)];rfl
  have dm:=Pg jA a k;have dX:=(Fp ha k bg (nm:=nmC cs) (wo:=woM m)).1;rw[uJ];refine⟨⟨aB,h3,by omega,by omega,by omega,by omega⟩,?_⟩;repeat (first|refine⟨trivial,?_⟩|refine⟨rfl,?_⟩)
  intro w6;generalize hA:arP cs.length a k=A at *
  refine⟨(Sa (nmC cs) (woM m) cs.length a k,(A:Int),((NR (nmC cs) (woM m) cs.length a k).length:Int),w2,(k:Int),(k:Int),true,(k:Int),(k:Int),(A:Int),w6),(NR (nmC cs) (woM m) cs.length a k,0),?_,?_⟩
  .and_intros<;>first|rfl|trivial|exact c
  refine⟨λd=>∃ b:Nat,b<=cs.length/\d=(inR (nmC cs) (woM m) A (NR (nmC cs) (woM m) cs.length a k) b,(b:Int)),λd=>cs.length-d.2.toNat,⟨0,by omega,rfl⟩,?_⟩;rintro _ ⟨b,bE,rfl⟩;dsimp only;obtain⟨il,ib⟩:=Z0g (nm:=nmC cs) (wo:=woM m) (m:=b) ha ai bE;rw[hA] at il ib;refine⟨λc2=>?_,λc2=>?_⟩
  .have oh:b<cs.length:=by have:=zk c2;omega
   have o4:=IS (nm:=nmC cs) (wo:=woM m) (at_:=A) (r:=NR (nmC cs) (woM m) cs.length a k) (m:=b);generalize inR (nmC cs) (woM m) A (NR (nmC cs) (woM m) cs.length a k) b=r at *
   have mA:=ib b;simp only[zf];have af:(((decide (r.getD b 0 > 0)&&!(gq.aget (.i .i64) m (A:Int) false))&&decide ((cs.getD A (0,(0,false))).1 > (cs.getD b (0,(0,false))).1))=true)<->(0<r.getD b 0/\woM m A=false/\nmC cs b<nmC cs A):=by
    simp only[z8,zr,Bool.not_eq_true',gt_iff_lt];unfold woM nmC Z_;constructor
    .rintro⟨⟨p,q⟩,s⟩;exact⟨p,q,s⟩
    .rintro⟨p,q,s⟩;exact⟨⟨p,q⟩,s⟩
   repeat (first|(refine And.intro (by first|omega|rfl|trivial|(intro _;omega)) ?_))
   refine⟨λc3=>?_,λc3=>?_⟩
   .have c4:=af.1 c3;rw[z6 c4] at o4;repeat (first|(refine And.intro (by first|omega|(rw[Qd];omega)|rfl|trivial) ?_))
    refine⟨(r.set A (PZ (r.getD A 0) (r.getD b 0+1)),(b:Int)+1),by and_intros<;>first|rfl|trivial,⟨b+1,oh,by rw[o4];rfl⟩,by dsimp only;omega⟩
   .have c4:¬ (0<r.getD b 0/\woM m A=false/\nmC cs b<nmC cs A):=λc4=>by
     rw[af.2 c4] at c3;cases c3
    rw[z0 c4] at o4;repeat (first|(refine And.intro (by first|omega|(rw[Qd];omega)|rfl|trivial) ?_))
    refine⟨(r,(b:Int)+1),by and_intros<;>first|rfl|trivial,⟨b+1,oh,by rw[o4];rfl⟩,by dsimp only;omega⟩
  .have a_:b=cs.length:=by have:=zj c2;omega
   subst a_;have er:inR (nmC cs) (woM m) A (NR (nmC cs) (woM m) cs.length a k) cs.length=NR (nmC cs) (woM m) cs.length a (k+1):=by rw[<-hA];rfl
   have em:Sa (nmC cs) (woM m) cs.length a (k+1)=PZ (Sa (nmC cs) (woM m) cs.length a k) ((NR (nmC cs) (woM m) cs.length a (k+1)).getD A 0):=by rw[<-hA];rfl
   simp only[zf];rw[er] at il |-;rw[<-em];repeat (first|(refine And.intro (by first|omega|rfl|trivial) ?_))
   refine⟨λc3=>by simp at c3,λ_=>?_⟩;refine⟨by rw[Qd];omega,((k:Int)+1,Sa (nmC cs) (woM m) cs.length a (k+1),NR (nmC cs) (woM m) cs.length a (k+1)),by and_intros<;>first|rfl|trivial,⟨k+1,ai,rfl⟩,by dsimp only;omega⟩
 .have au:k=cs.length:=by have:=zj c;omega
  subst au;rw[zf];and_intros<;>first|rfl|trivial
def V2:AL (Int×(List (Int×Int×Bool))×Int):=(.one (.agg (.cons (.k (.i .i64)) (.cons (.k (.list (.pair (.i .i64) (.pair (.i .i64) .bo)))) (.one (.k (.i .i64)))))))
def DD (m:List (Int×Bool)) (a:Int×(List (Int×Int×Bool))×Int):Prop:=a.2.1.length<=1000
def KQ (m:List (Int×Bool)) (a:Int×(List (Int×Int×Bool))×Int):SV:=.val (.i .i64) (XL (nmC a.2.1) (woM m) a.2.1.length a.2.1.length)
def Y_ (m:List (Int×Bool)) (a:Int×(List (Int×Int×Bool))×Int) (m2:List (Int×Bool)):Prop:=m2=m
def Yj:XSp:=Q0v Lv 1 (.i .i64) .bo (Z2n V2 DD KQ Y_)
def JY (m:List (Int×Bool)) (hk:Int) (cs:List (Int×Int×Bool)) (f:Int):Prop:=∀ vals:List Value,
 ∃ (e3:Unit) (d30:(List (Int×Bool))×Int×Int),((True/\True/\(0:Int)=d30.2.1/\(lI cs)=(lI cs)/\(0:Int)=d30.2.2/\True)/\((m=d30.1)/\(hk=hk/\cs=cs/\f=f/\(([]:List SV)=[]))/\(vals=vals/\(True/\(([]:List SV)=[])))/\True)) /\
 LoopP (λ(d3:(List (Int×Bool))×Int×Int) (q3:((List (Int×Bool))×Int×Int)->Prop) =>
  ((decide (d3.2.2<(lI cs)))=true ->
   ((!(gq.aget (.i .i64) d3.1 d3.2.2 false))=true ->
    (0<=d3.2.2/\d3.2.2<cs.length/\cs.length<=1000)/\(∀ m4:List (Int×Bool),(m4=d3.1)->(I64 (d3.2.2+(1:Int)))/\(∃ d5:(List (Int×Bool))×Int×Int,((True/\True/\(PZ d3.2.1 (Sa (nmC cs) (woM d3.1) cs.length d3.2.2.toNat cs.length))=d5.2.1/\(lI cs)=(lI cs)/\(d3.2.2+(1:Int))=d5.2.2/\True)/\((m4=d5.1)/\(hk=hk/\cs=cs/\f=f/\(([]:List SV)=[]))/\(vals=vals/\(True/\(([]:List SV)=[])))/\True))/\q3 d5))) /\
   ((!(gq.aget (.i .i64) d3.1 d3.2.2 false))=false ->
    (I64 (d3.2.2+(1:Int)))/\(∃ d6:(List (Int×Bool))×Int×Int,((True/\True/\d3.2.1=d6.2.1/\(lI cs)=(lI cs)/\(d3.2.2+(1:Int))=d6.2.2/\True)/\((d3.1=d6.1)/\(hk=hk/\cs=cs/\f=f/\(([]:List SV)=[]))/\(vals=vals/\(True/\(([]:List SV)=[])))/\True))/\q3 d6))) /\
  ((decide (d3.2.2<(lI cs)))=false ->
   (vals=vals/\(True/\(([]:List SV)=[]))/\d3.2.1=(XL (nmC cs) (woM m) cs.length cs.length)/\(d3.1=m)))) d30
def Vw:Cx:=⟨[],[],25,[],0,[(49,Yl)],[],[],[],false,[],[],[],[]⟩
def Vo (m:List (Int×Bool)) (hk:Int) (cs:List (Int×Int×Bool)) (f:Int) (vals:List Value):List (Nat×LoopAnn):=[(0,⟨Unit,(List (Int×Bool))×Int×Int,[1,2,4,9,10],λe x=>[.map 0,.box 2 0,.val (.i .i64) x.2.1,.val (.i .i64) (((List.length cs):Nat):Int),.val (.i .i64) x.2.2],λe x=>[(0,.slot 1,.map (.i .i64) .bo x.1),(2,.slot 2,.cells [.val (.i .i64) hk,.val (.list (.pair (.i .i64) (.pair (.i .i64) .bo))) cs,.val (.i .i64) f] (some 70)),(4000000,.key 4000000,.stk [.map 0] vals)]⟩)]
theorem B7 (m:List (Int×Bool)) (a:Int×(List (Int×Int×Bool))×Int):(∀ vals,gwp Vw (Vo m a.1 a.2.1 a.2.2 vals) c29 0 (Q1x vals [.tmp 4] (KQ m a) (.i .i64) .bo (Y_ m a)) (Mk 25 1 (.i .i64) .bo m vals (AL.can V2 a)))=JY m a.1 a.2.1 a.2.2:=by kernel_rfl
abbrev Bh:Prop:=XOk Tryd.prog 29 Yj
theorem BX (h:∀ (m:List (Int×Bool)) (hk:Int) (cs:List (Int×Int×Bool)) (f:Int),(cs.length<=1000)->JY m hk cs f):XOk Tryd.prog 29 Yj :=
 CC Z2o mixed M4 rfl (C:=Vw) ⟨.nil,(XsOk.cons Dz XsOk.nil),ItsOk.nil,YlOk.nil,IysOk.nil,XfOk.nil⟩ (L:=λm (a:Int×(List (Int×Int×Bool))×Int) vals=>Vo m a.1 a.2.1 a.2.2 vals) (V:=λm (a:Int×(List (Int×Int×Bool))×Int)=>JY m a.1 a.2.1 a.2.2) B7 λm a hp=>h m a.1 a.2.1 a.2.2 hp
theorem DI:Bh:=BX λm hk cs f h=>by
 unfold JY;(try delta lI gD sT I64 J_ pj8 pj4);intro vals;refine⟨(),(m,0,0),by and_intros<;>first|rfl|trivial,?_⟩;refine⟨λd=>∃ k:Nat,k<=cs.length/\d=(m,XL (nmC cs) (woM m) cs.length k,(k:Int)),λd=>cs.length-d.2.2.toNat,⟨0,by omega,rfl⟩,?_⟩;rintro _ ⟨k,bg,rfl⟩;dsimp only;refine⟨λc=>?_,λc=>?_⟩
 .have ai:k<cs.length:=by have:=zk c;omega
  refine⟨λc2=>?_,λc2=>?_⟩
  .have hw:woM m k=false:=by
    show gq.aget (.i .i64) m (k:Int) false=false;simpa using c2
   refine⟨⟨by omega,by omega,h⟩,λm4 hm=>?_⟩;subst hm;have e:XL (nmC cs) (woM m4) cs.length (k+1)=PZ (XL (nmC cs) (woM m4) cs.length k) (Sa (nmC cs) (woM m4) cs.length k cs.length):=by show (if woM m4 k=true then _ else _)=_;rw[hw,z0 (by decide)]
   refine⟨by rw[Qd];omega,(m4,XL (nmC cs) (woM m4) cs.length (k+1),(k:Int)+1),?_,⟨k+1,ai,rfl⟩,by dsimp only;omega⟩;rw[zf,e];and_intros<;>first|rfl|trivial
  .have hw:woM m k=true:=by
    show gq.aget (.i .i64) m (k:Int) false=true;simpa using c2
   have e:XL (nmC cs) (woM m) cs.length (k+1)=XL (nmC cs) (woM m) cs.length k:=by show (if woM m k=true then _ else _)=_;rw[z6 hw]
   refine⟨by rw[Qd];omega,(m,XL (nmC cs) (woM m) cs.length (k+1),(k:Int)+1),?_,⟨k+1,ai,rfl⟩,by dsimp only;omega⟩;rw[e];and_intros<;>first|rfl|trivial
 .have au:k=cs.length:=by have:=zj c;omega
  subst au;and_intros<;>first|rfl|trivial
def Gw:AL (Int×List (Int×Int×Bool)):=(.one (.agg (.cons (.k (.i .i64)) (.one (.k (.list (.pair (.i .i64) (.pair (.i .i64) .bo))))))))
def Ri (d:Int×List (Int×Int×Bool)):Prop:=d.2.length<=1000
def MM (d:Int×List (Int×Int×Bool)):SV:=.tup [.lst 0,.val (.i .i64) (QA d.1 d.2)]
def M6 (d:Int×List (Int×Int×Bool)):List OB:=[.lst 3 (.i .i64) (F6 d.1 d.2) ((F6 d.1 d.2).isEmpty)]
def K4:CSp:=Yo Gw Ri MM M6
abbrev WJ (cs:List (Int×Int×Bool)):=(XL (nmC cs) (woM ([]:List (Int×Bool))) cs.length cs.length)
abbrev Gf (hk:Int) (cs:List (Int×Int×Bool)):=(((F6 hk cs)=[]/\(F6 hk cs).isEmpty=true)/\True)
def YA (hk:Int) (cs:List (Int×Int×Bool)):Prop :=
 ∀ w1:List Value,∀ w2:List Value,(True)/\((!(inI hk 1 24))=true ->
  w2=w2/\w1=w1/\((True/\(3:Int)=(QA hk cs)/\(([]:List SV)=[]))/\(Gf hk cs))) /\
 ((!(inI hk 1 24))=false ->
  (((decide ((lI cs) > (60:Int)))=true ->
   w2=w2/\w1=w1/\((True/\(5:Int)=(QA hk cs)/\(([]:List SV)=[]))/\(Gf hk cs))) /\
  ((decide ((lI cs) > (60:Int)))=false ->
   (1<=hk/\hk<=24/\cs.length<=1000000)/\((!(!cs.isEmpty&&!(cs.any λc=>!Zb hk c)))=true ->
    w2=w2/\w1=w1/\((True/\(2:Int)=(QA hk cs)/\(([]:List SV)=[]))/\(Gf hk cs))) /\
   ((!(!cs.isEmpty&&!(cs.any λc=>!Zb hk c)))=false ->
    w2=w2/\∃ (e5:Int×(List (Int×Int×Bool))×Int×Int×Int×(List (Int×Int×Bool))×Int×(List (Int×Int×Bool))×Int×Int×(List (Int×Int×Bool))×Int×(List (Int×Int×Bool))×Int×Int×(List (Int×Int×Bool))×(List Value)) (d50:(List (Int×Bool))×Int),((True/\True/\True/\True/\cs=(pj4 e5).2.2.2.1/\(lI cs)=(pj8 e5).1/\(0:Int)=d50.2/\True)/\((hk=e5.1/\cs=e5.2.1/\(([]:List SV)=[]))/\((0:Int)=e5.2.2.1/\True/\(0:Int)=e5.2.2.2.1/\(([]:List SV)=[]))/\(hk=(pj4 e5).1/\cs=(pj4 e5).2.1/\hk=(pj4 e5).2.2.1/\(([]:List SV)=[]))/\(([]:List (Int×Bool))=d50.1)/\((J_ e5)=w1/\((hk=(pj8 e5).2.1/\cs=(pj8 e5).2.2.1/\(([]:List SV)=[]))/\True/\True/\(0:Int)=(pj4 (pj8 e5)).2.1/\True/\True/\True/\True/\True/\(hk=(pj4 (pj8 e5)).2.2.1/\cs=(pj4 (pj8 e5)).2.2.2.1/\(([]:List SV)=[]))/\True/\True/\True/\True/\True/\True/\True/\True/\True/\True/\True/\True/\True/\True/\True/\True/\True/\True/\True/\True/\True/\True/\True/\True/\True/\True/\True/\True/\True/\True/\True/\True/\True/\True/\True/\True/\True/\True/\True/\(([]:List SV)=[])))/\(hk=(pj8 e5).2.2.2.1/\cs=(pj4 (pj8 e5)).1/\(([]:List SV)=[]))/\True)) /\
    LoopP (λ(d5:(List (Int×Bool))×Int) (q5:((List (Int×Bool))×Int)->Prop) =>
     ((decide (d5.2<(pj8 e5).1))=true ->
      (0<=d5.2)/\(d5.2<(List.length (pj4 e5).2.2.2.1))/\(I64 (d5.2+(1:Int)))/\(∃ d6:(List (Int×Bool))×Int,((True/\True/\True/\True/\(pj4 e5).2.2.2.1=(pj4 e5).2.2.2.1/\(pj8 e5).1=(pj8 e5).1/\(d5.2+(1:Int))=d6.2/\True)/\((e5.1=e5.1/\e5.2.1=e5.2.1/\(([]:List SV)=[]))/\(e5.2.2.1=e5.2.2.1/\True/\e5.2.2.2.1=e5.2.2.2.1/\(([]:List SV)=[]))/\((pj4 e5).1=(pj4 e5).1/\(pj4 e5).2.1=(pj4 e5).2.1/\(pj4 e5).2.2.1=(pj4 e5).2.2.1/\(([]:List SV)=[]))/\((D_ (.i .i64) d5.1 (gD (pj4 e5).2.2.2.1 d5.2 (0,(0,false))).1 true)=d6.1)/\((J_ e5)=(J_ e5)/\(((pj8 e5).2.1=(pj8 e5).2.1/\(pj8 e5).2.2.1=(pj8 e5).2.2.1/\(([]:List SV)=[]))/\True/\True/\(pj4 (pj8 e5)).2.1=(pj4 (pj8 e5)).2.1/\True/\True/\True/\True/\True/\((pj4 (pj8 e5)).2.2.1=(pj4 (pj8 e5)).2.2.1/\(pj4 (pj8 e5)).2.2.2.1=(pj4 (pj8 e5)).2.2.2.1/\(([]:List SV)=[]))/\True/\True/\True/\True/\True/\True/\True/\True/\True/\True/\True/\True/\True/\True/\True/\True/\True/\True/\True/\True/\True/\True/\True/\True/\True/\True/\True/\True/\True/\True/\True/\True/\True/\True/\True/\True/\True/\True/\True/\(([]:List SV)=[])))/\((pj8 e5).2.2.2.1=(pj8 e5).2.2.2.1/\(pj4 (pj8 e5)).1=(pj4 (pj8 e5)).1/\(([]:List SV)=[]))/\True))/\q5 d6)) /\
     ((decide (d5.2<(pj8 e5).1))=false ->
      ((gq.aget (.i .i64) d5.1 (-1:Int) false)=true ->
       (J_ e5)=w1/\((True/\(9:Int)=(QA hk cs)/\(([]:List SV)=[]))/\(Gf hk cs))) /\
      ((gq.aget (.i .i64) d5.1 (-1:Int) false)=false ->
       ((decide ((lI d5.1)<(lI e5.2.1)))=true ->
        (J_ e5)=w1/\((True/\(6:Int)=(QA hk cs)/\(([]:List SV)=[]))/\(Gf hk cs))) /\
       ((decide ((lI d5.1)<(lI e5.2.1)))=false ->
        (J_ e5)=w1/\((pj4 e5).2.1.length<=1000)/\(∀ m7:List (Int×Bool),(m7=([]:List (Int×Bool)))->∃ (uK:Unit) (d110:(List Int)×(List (Int×Bool))×Int),((True/\True/\True/\True/\(XL (nmC (pj4 e5).2.1) (woM ([]:List (Int×Bool))) (pj4 e5).2.1.length (pj4 e5).2.1.length)=(WJ cs)/\(lI (pj4 (pj8 e5)).1)=(lI cs)/\(0:Int)=d110.2.2/\True)/\(((pj8 e5).2.2.2.1=hk/\(pj4 (pj8 e5)).1=cs/\(([]:List SV)=[]))/\(d110.1=[]/\(List.isEmpty d110.1)=true)/\((pj4 e5).1=hk/\(pj4 e5).2.1=cs/\(pj4 e5).2.2.1=hk/\(([]:List SV)=[]))/\(m7=d110.2.1)/\True)) /\
        LoopP (λ(d11:(List Int)×(List (Int×Bool))×Int) (o5:((List Int)×(List (Int×Bool))×Int)->Prop) =>
         ((decide (d11.2.2<(lI cs)))=true ->
          (cs.length<=1000)/\(∀ lJ:List (Int×Bool),(lJ=(D_ (.i .i64) d11.2.1 d11.2.2 true))->((decide ((XL (nmC cs) (woM (D_ (.i .i64) d11.2.1 d11.2.2 true)) cs.length cs.length)<(WJ cs)))=true ->
           (I64 (d11.2.2+(1:Int)))/\(∃ d13:(List Int)×(List (Int×Bool))×Int,((True/\True/\True/\True/\(WJ cs)=(WJ cs)/\(lI cs)=(lI cs)/\(d11.2.2+(1:Int))=d13.2.2/\True)/\((hk=hk/\cs=cs/\(([]:List SV)=[]))/\(d11.1=d13.1/\(List.isEmpty d11.1)=(List.isEmpty d13.1))/\(hk=hk/\cs=cs/\hk=hk/\(([]:List SV)=[]))/\((Q5q (.i .i64) lJ d11.2.2)=d13.2.1)/\True))/\o5 d13)) /\
          ((decide ((XL (nmC cs) (woM (D_ (.i .i64) d11.2.1 d11.2.2 true)) cs.length cs.length)<(WJ cs)))=false ->
           (((List.length d11.1)+(List.length [d11.2.2]))*8<=70368744177664)/\(I64 ((lI (d11.1++[d11.2.2]))+(WJ cs)))/\((((lI (d11.1++[d11.2.2]))+(WJ cs))==(lI cs))=true ->
            ((True/\(0:Int)=(QA hk cs)/\(([]:List SV)=[]))/\(((d11.1++[d11.2.2])=(F6 hk cs)/\false=(F6 hk cs).isEmpty)/\True))) /\
           ((((lI (d11.1++[d11.2.2]))+(WJ cs))==(lI cs))=false ->
            (I64 (d11.2.2+(1:Int)))/\(∃ d14:(List Int)×(List (Int×Bool))×Int,((True/\True/\True/\True/\(WJ cs)=(WJ cs)/\(lI cs)=(lI cs)/\(d11.2.2+(1:Int))=d14.2.2/\True)/\((hk=hk/\cs=cs/\(([]:List SV)=[]))/\((d11.1++[d11.2.2])=d14.1/\false=(List.isEmpty d14.1))/\(hk=hk/\cs=cs/\hk=hk/\(([]:List SV)=[]))/\(lJ=d14.2.1)/\True))/\o5 d14))))) /\
         ((decide (d11.2.2<(lI cs)))=false ->
          ((True/\(0:Int)=(QA hk cs)/\(([]:List SV)=[]))/\((d11.1=(F6 hk cs)/\(List.isEmpty d11.1)=(F6 hk cs).isEmpty)/\True)))) d110))))) d50))))
def JN:Cx:=⟨[(1000018,(.pair (.i .i64) .bo))],[(20,Qv),(54,QD)],43,[3000015],0,[(34,YE)],[],[],[],false,[],[],[15],[]⟩
def JL:List (Nat×LoopAnn):=[(0,⟨Int×(List (Int×Int×Bool))×Int×Int×Int×(List (Int×Int×Bool))×Int×(List (Int×Int×Bool))×Int×Int×(List (Int×Int×Bool))×Int×(List (Int×Int×Bool))×Int×Int×(List (Int×Int×Bool))×(List Value),(List (Int×Bool))×Int,[1,2,4,6,20,21,22],λe x=>[.box 1100001 0,.box 1100002 0,.box 1100004 0,.map 1100018,.val (.list (.pair (.i .i64) (.pair (.i .i64) .bo))) e.2.2.2.2.2.2.2.1,.val (.i .i64) e.2.2.2.2.2.2.2.2.1,.val (.i .i64) x.2],λe x=>[(1100001,.slot 1,.cells [.val (.i .i64) e.1,.val (.list (.pair (.i .i64) (.pair (.i .i64) .bo))) e.2.1] (some 34)),(1100002,.slot 2,.cells [.val (.i .i64) e.2.2.1,.nilS,.val (.i .i64) e.2.2.2.1] (some 70)),(1100004,.slot 4,.cells [.val (.i .i64) e.2.2.2.2.1,.val (.list (.pair (.i .i64) (.pair (.i .i64) .bo))) e.2.2.2.2.2.1,.val (.i .i64) e.2.2.2.2.2.2.1] (some 70)),(1100018,.slot 6,.map (.i .i64) .bo x.1),(1099999,.key 1099999,.stk [.agg [.val (.i .i64) e.2.2.2.2.2.2.2.2.2.1,.val (.list (.pair (.i .i64) (.pair (.i .i64) .bo))) e.2.2.2.2.2.2.2.2.2.2.1],.box 1 0,.nilS,.val (.i .i64) e.2.2.2.2.2.2.2.2.2.2.2.2.2.1,.any,.any,.any,.any,.any,.agg [.val (.i .i64) e.2.2.2.2.2.2.2.2.2.2.2.2.2.2.1,.val (.list (.pair (.i .i64) (.pair (.i .i64) .bo))) e.2.2.2.2.2.2.2.2.2.2.2.2.2.2.2.1],.any,.any,.any,.any,.any,.any,.any,.any,.any,.any,.any,.any,.any,.any,.any,.any,.any,.any,.any,.any,.any,.any,.any,.any,.any,.any,.any,.any,.any,.any,.any,.any,.any,.any,.any,.any,.any,.any,.any] e.2.2.2.2.2.2.2.2.2.2.2.2.2.2.2.2),(1,.key 1,.cells [.val (.i .i64) e.2.2.2.2.2.2.2.2.2.2.2.1,.val (.list (.pair (.i .i64) (.pair (.i .i64) .bo))) e.2.2.2.2.2.2.2.2.2.2.2.2.1] (some 34))]⟩)]
def Gt:Cx:=⟨[(3,(.i .i64)),(1000016,(.pair (.i .i64) .bo))],[],49,[3000014],0,[(28,Q4c JN (λ_=>JL) c28 [.cell 2 true 3,.tmp 3] 43),(29,Yj)],[],[],[],false,[],[],[14],[]⟩
def Ln (hk:Int) (cs:List (Int×Int×Bool)):List (Nat×LoopAnn):=[(0,⟨Unit,(List Int)×(List (Int×Bool))×Int,[1,2,4,5,6,22,23],λe x=>[.box 1 0,.lst 38,.box 4 0,.map 16,.val (.i .i64) (XL (nmC cs) (woM ([]:List (Int×Bool))) cs.length cs.length),.val (.i .i64) (((List.length cs):Nat):Int),.val (.i .i64) x.2.2],λe x=>[(1,.slot 1,.cells [.val (.i .i64) hk,.val (.list (.pair (.i .i64) (.pair (.i .i64) .bo))) cs] (some 34)),(38,.slot 2,.lst 3 (.i .i64) x.1 (List.isEmpty x.1)),(4,.slot 4,.cells [.val (.i .i64) hk,.val (.list (.pair (.i .i64) (.pair (.i .i64) .bo))) cs,.val (.i .i64) hk] (some 70)),(16,.slot 5,.map (.i .i64) .bo x.2.1)]⟩)]
theorem SN (d:Int×List (Int×Int×Bool)):gwp (Gt) (Ln d.1 d.2) c11 0 (K9 [.tmp 2,.tmp 3] (MM d) (M6 d)) (QC 49 (AL.can Gw d))=YA d.1 d.2:=by kernel_rfl
abbrev Ss:Prop:=OkC Tryd.prog 11 K4
theorem Sw (h:∀ (hk:Int) (cs:List (Int×Int×Bool)),(cs.length<=1000)->YA hk cs):OkC Tryd.prog 11 K4 :=
 QK Q9r mixed (C:=Gt) (V:=λ(d:Int×List (Int×Int×Bool))=>YA d.1 d.2) ⟨.nil,(XsOk.cons (US Q7v mixed (C:=JN) ⟨(.cons QQ (.cons Za .nil)),(XsOk.cons YB XsOk.nil),ItsOk.nil,YlOk.nil,IysOk.nil,XfOk.nil⟩ (λ_=>JL)) (XsOk.cons DI XsOk.nil)),ItsOk.nil,YlOk.nil,IysOk.nil,XfOk.nil⟩ (SN) λd hp=>h d.1 d.2 hp
set_option maxHeartbeats 1000000 in
theorem G_:Ss:=Sw λhk cs h=>by
 have dE:∀ e:Int,QA hk cs=e->e≠0->(e=QA hk cs)/\F6 hk cs=[]/\(F6 hk cs).isEmpty=true:=λe h1 h2=>by
  have:F6 hk cs=[]:=by unfold F6;rw[z0 (by omega)]
  exact⟨h1.symm,this,by rw[this];rfl⟩
 have a_:∀ e:Int,Qu hk cs=e->e≠0->QA hk cs=e:=λe h1 h2=>by unfold QA;rw[z6 (by omega)];exact h1
 unfold YA;(try delta WJ Gf);(try delta lI gD sT I64 J_ pj8 pj4);intro w1 w2;repeat (first|refine⟨trivial,?_⟩|refine⟨rfl,?_⟩)
 refine⟨λc1=>?_,λc1=>?_⟩
 .repeat (first|refine⟨trivial,?_⟩|refine⟨rfl,?_⟩)
  have e:Qu hk cs=3:=by unfold Qu;rw[z6 c1]
  obtain⟨u,v,w⟩:=dE 3 (a_ 3 e (by decide)) (by decide);and_intros<;>first|rfl|trivial|assumption
 repeat (first|refine⟨trivial,?_⟩|refine⟨rfl,?_⟩)
 refine⟨λc2=>?_,λc2=>?_⟩
 .have c2:60<cs.length:=by have:=zk c2;omega
  have e:Qu hk cs=5:=by unfold Qu;rw[z0 (by rw[c1];decide),z6 c2]
  obtain⟨u,v,w⟩:=dE 5 (a_ 5 e (by decide)) (by decide);and_intros<;>first|rfl|trivial|assumption
 have c2:cs.length<=60:=by have:=zj c2;omega
 obtain⟨i1,i2⟩:=P6 c1;repeat (first|refine⟨trivial,?_⟩|refine⟨rfl,?_⟩)
 refine⟨⟨i1,i2,by omega⟩,λc3=>?_,λc3=>?_⟩
 .obtain⟨u,v,w⟩:=dE 2 (a_ 2 (Cq c1 c2 c3) (by decide)) (by decide);and_intros<;>first|rfl|trivial|assumption
 obtain⟨be,aB,ak⟩:=TS c1 c2 c3;repeat (first|refine⟨trivial,?_⟩|refine⟨rfl,?_⟩)
 refine⟨(hk,cs,0,0,hk,cs,hk,cs,(cs.length:Int),hk,cs,hk,cs,0,hk,cs,w1),([],0),by and_intros<;>first|rfl|trivial,?_⟩;refine⟨λd=>∃ k:Nat,k<=cs.length/\d.2=(k:Int)/\SeenI (cs.map (·.1)) d.1 k,λd=>cs.length-d.2.toNat,⟨0,by omega,rfl,SeenI.nil _⟩,?_⟩;rintro⟨mm,_⟩ ⟨k,bg,rfl,hS⟩;dsimp only at hS |-;refine⟨λc=>?_,λc=>?_⟩
 .have ai:k<cs.length:=by have:=zk c;omega
  have hp:=hS.put (by simpa using ai);have eg:(cs.map (·.1)).getD k 0=(cs.getD k (0,(0,false))).1:=by
   rw[Q9 (by simpa using ai),Q9 ai,xD]
  rw[eg] at hp;simp only[zf];exact⟨by omega,by omega,by rw[Qd];omega,(D_ (.i .i64) mm (cs.getD k (0,(0,false))).1 true,(k:Int)+1),by and_intros<;>first|rfl|trivial,⟨k+1,ai,rfl,hp⟩,by dsimp only;omega⟩
 .have au:k=cs.length:=by have:=zj c;omega
  subst au;have hl:(cs.map (·.1)).length=cs.length:=xt ..;rw[<-hl] at hS;obtain⟨f1,f2⟩:=hS.full;rw[hl] at f2;refine⟨λc4=>?_,λc4=>?_⟩
  .rw[f1] at c4;have e:QA hk cs=9:=by unfold QA;rw[z0 (by omega),z6 (zk c4)]
   obtain⟨u,v,w⟩:=dE 9 e (by decide);and_intros<;>first|rfl|trivial|assumption
  rw[f1] at c4;have c4:=zj c4;refine⟨λc5=>?_,λc5=>?_⟩
  .rw[f2] at c5;have e:QA hk cs=6:=by unfold QA;rw[z0 (by omega),z0 c4,z0 (zk c5)]
   obtain⟨u,v,w⟩:=dE 6 e (by decide);and_intros<;>first|rfl|trivial|assumption
  rw[f2] at c5;have fC:(cs.map (·.1)).Nodup:=Decidable.not_not.1 (zj c5);have en:QA hk cs=0:=by unfold QA;rw[z0 (by omega),z0 c4,z6 fC]
  have em:F6 hk cs=mvK (nmC cs) cs.length cs.length:=by unfold F6;rw[z6 en]
  rw[en,em];have kf:XL (nmC cs) (woM ([]:List (Int×Bool))) cs.length cs.length=Df (nmC cs) cs.length:=rfl;rw[kf];obtain⟨b1,b2,_⟩:=Q31 (nmC cs) (λ_=>false) cs.length;have b1:0<=Df (nmC cs) cs.length:=b1;have b2:Df (nmC cs) cs.length<=cs.length:=b2;clear kf hS f1 f2;repeat (first|refine⟨trivial,?_⟩|refine⟨rfl,?_⟩)
  refine⟨h,λm7 uL=>?_⟩;subst uL;refine⟨(),([],[],0),by and_intros<;>first|rfl|trivial,?_⟩;refine⟨λd=>∃ k:Nat,k<=cs.length/\d=(mvK (nmC cs) cs.length k,(mvK (nmC cs) cs.length k).map (λx=>(x,true)),(k:Int))/\(((mvK (nmC cs) cs.length k).length:Int)+Df (nmC cs) cs.length≠cs.length\/Df (nmC cs) cs.length=cs.length),λd=>cs.length-d.2.2.toNat,⟨0,by omega,rfl,?_⟩,?_⟩
  .by_cases q:Df (nmC cs) cs.length=cs.length
   .exact .inr q
   .left;show ((([]:List Int).length:Nat):Int)+_≠_;simpa using q
  rintro _ ⟨k,bg,rfl,hq⟩;dsimp only;have jG:(k:Int)∉mvK (nmC cs) cs.length k:=λhm=>by have:=IZ _ _ _ _ hm;omega
  have du:=Q40 jG;have hlen:=Q2p (nmC cs) cs.length k;have kg:mvK (nmC cs) cs.length (k+1)=if ((mvK (nmC cs) cs.length k).length:Int)+Df (nmC cs) cs.length=cs.length then mvK (nmC cs) cs.length k else if XL (nmC cs) (woL (mvK (nmC cs) cs.length k++[(k:Int)])) cs.length cs.length<Df (nmC cs) cs.length then mvK (nmC cs) cs.length k else mvK (nmC cs) cs.length k++[(k:Int)]:=rfl
  refine⟨λc=>?_,λc=>?_⟩
  .have ai:k<cs.length:=by have:=zk c;omega
   have uM:woL (mvK (nmC cs) cs.length k++[(k:Int)]) k=true:=zn (xV _ (zI.2 rfl));obtain⟨_,_,b3⟩:=Q31 (nmC cs) (woL (mvK (nmC cs) cs.length k++[(k:Int)])) cs.length;have b3:=b3 k ai uM;refine⟨h,λlJ oi=>?_⟩;rw[du] at oi;subst oi;rw[du,Q83,Q3u jG];refine⟨λc6=>?_,λc6=>?_⟩
   .have c6:=zk c6;have es:mvK (nmC cs) cs.length (k+1)=mvK (nmC cs) cs.length k:=by
     rw[kg,z6 c6,ite_self]
    refine⟨by rw[Qd];omega,(mvK (nmC cs) cs.length (k+1),(mvK (nmC cs) cs.length (k+1)).map (λx=>(x,true)),(k:Int)+1),?_,⟨k+1,ai,rfl,by rw[es];exact hq⟩,by dsimp only;omega⟩;rw[es];and_intros<;>first|rfl|trivial
   .have c6:=zj c6;have qO:((mvK (nmC cs) cs.length k).length:Int)+Df (nmC cs) cs.length≠cs.length:=by
     rcases hq with hq|hq
     .exact hq
     .omega
    have es:mvK (nmC cs) cs.length (k+1)=mvK (nmC cs) cs.length k++[(k:Int)]:=by rw[kg,z0 qO,z0 c6]
    have bW:(mvK (nmC cs) cs.length k++[(k:Int)]).length=(mvK (nmC cs) cs.length k).length+1:=by simp
    have jF:(mvK (nmC cs) cs.length k++[(k:Int)]).isEmpty=false:=by simp
    rw[<-es] at bW jF |-;refine⟨by simp;omega,by rw[Qd];omega,λc7=>?_,λc7=>?_⟩
    .have c7:((mvK (nmC cs) cs.length (k+1)).length:Int)+Df (nmC cs) cs.length=cs.length:=by simpa using c7
     have aY:=IU c7 (cs.length-(k+1));rw[show k+1+(cs.length-(k+1))=cs.length by omega] at aY;rw[aY];and_intros<;>first|rfl|trivial|exact jF.symm
    .have c7:((mvK (nmC cs) cs.length (k+1)).length:Int)+Df (nmC cs) cs.length≠cs.length:=by simpa using c7
     refine⟨by rw[Qd];omega,(mvK (nmC cs) cs.length (k+1),(mvK (nmC cs) cs.length (k+1)).map (λx=>(x,true)),(k:Int)+1),?_,⟨k+1,ai,rfl,.inl c7⟩,by dsimp only;omega⟩;and_intros<;>first|rfl|trivial|exact jF.symm
  .have au:k=cs.length:=by have:=zj c;omega
   subst au;and_intros<;>first|rfl|trivial
def JM (n mo:Nat):List (Int×Int):=(List.range n).flatMap λ(a:Nat)=>(List.range (mo+1)).map λ(f:Nat)=>((a:Int),(f:Int))
def Dm (n:Int) (p:Int×Int) (s:Int):Int×Int:=(Int.tmod (p.1+s) n,p.2+if s=1 then 0 else 1)
def HW (n mo:Int) (p:Int×Int) (w:Int) (q:Int×Int) (s:Int):Int:=if Dm n p s=q/\q.2<=mo then w else 0
def EJ (n mo:Int) (wv:Int->Bool) (p:Int×Int) (w:Int) (q:Int×Int):Int:=if wv p.1=true then HW n mo p w q 0+HW n mo p w q 1+HW n mo p w q 2 else 0
def wyK (n mo:Nat) (wv:Nat->Int->Bool):Nat->Int×Int->Int
 |0,q=>if 0<=q.1/\q.1<(n:Int)/\q.2=0 then 1 else 0
 |k+1,q=>((JM n mo).map λp=>EJ n mo (wv k) p (wyK n mo wv k p) q).sum
def MapW (n mo:Nat) (m:List ((Int×Int)×Int)) (W:Int×Int->Int):Prop:=(m.map (·.1)).Nodup/\(∀ e∈m,e.2=W e.1/\0<e.2/\e.1∈JM n mo)/\∀ q,W q≠0->∃ e∈m,e.1=q
theorem Yq {n mo:Nat}{q:Int×Int}:q∈JM n mo<->(0<=q.1/\q.1<n)/\0<=q.2/\q.2<=mo:=by
 unfold JM;simp only[List.mem_flatMap,zW,zB];constructor
 .rintro⟨a,ha,f,hf,rfl⟩;dsimp only;omega
 .intro h;exact⟨q.1.toNat,by omega,q.2.toNat,by omega,by ext<;>dsimp only<;>omega⟩
theorem G8 (n mo:Nat):(JM n mo).Nodup:=by unfold JM;refine List.pairwise_flatMap.2 ⟨λa _=>xY.2 ((List.nodup_range (n:=mo+1)).imp λh e=>h (by have:=(Prod.ext_iff.1 e).2;dsimp only at this;omega)),(List.nodup_range (n:=n)).imp λ{a b} h x hx y hy e=>?_⟩;obtain⟨f,_,rfl⟩:=zB.1 hx;obtain⟨g,_,rfl⟩:=zB.1 hy;have:=(Prod.ext_iff.1 e).1;dsimp only at this;omega
theorem IL {l l':List Int}(h:l.Perm l'):l.sum=l'.sum:=by
 induction h with
 |nil=>rfl
 |cons x _ ih=>simp only[xJ];omega
 |swap x y l=>simp only[xJ];omega
 |trans _ _ h1 h2=>exact h1.trans h2
theorem T0 {α:Type}{f:α->Int}:∀ {l:List α},(∀ x∈l,f x=0)->(l.map f).sum=0
 |[],_=>rfl
 |x::l,h=>by rw[zJ,xJ,h x (zp ..),T0 λy hy=>h y (zo _ hy)];rfl
theorem U0 {α:Type}{f:α->Int}:∀ {l:List α},(∀ x∈l,0<=f x)->0<=(l.map f).sum
 |[],_=>Int.le_refl _
 |x::l,h=>by have h1:=h x (zp ..);have h2:=U0 (l:=l) λy hy=>h y (zo _ hy);rw[zJ,xJ];omega
theorem C_ {α:Type}(f:α->Int) (a b:List α):((a++b).map f).sum=(a.map f).sum+(b.map f).sum:=by rw[xH,List.sum_append_int]
theorem RS {n mo:Nat}{m:List ((Int×Int)×Int)}{W:Int×Int->Int}(h:MapW n mo m W) (G:Int×Int->Int->Int) (h0:∀ p,G p 0=0):(m.map λe=>G e.1 e.2).sum=((JM n mo).map λp=>G p (W p)).sum:=by
 obtain⟨h1,h2,h3⟩:=h;have e1:(m.map λe=>G e.1 e.2)=(m.map (·.1)).map λp=>G p (W p):=by
  rw[wq];exact xp λe he=>by show G e.1 e.2=G e.1 (W e.1);rw[(h2 e he).1]
 have hp:((m.map (·.1))++(JM n mo).filter λp=>!(m.map (·.1)).contains p).Perm (JM n mo):=by
  refine (wa (List.nodup_append.2 ⟨h1,(G8 n mo).filter _,λa ha b hb e=>?_⟩) (G8 n mo)).2 λa=>?_
  .subst e;have:=(zT.1 hb).2;simp at this;obtain⟨x,hx⟩:=zB.1 ha;exact this x.2 (by rw[<-hx.2];exact hx.1)
  .rw[x6,zT];constructor
   .rintro (h|h)
    .obtain⟨e,he,rfl⟩:=zB.1 h;exact(h2 e he).2.2
    .exact h.1
   .intro h;by_cases hc:a∈m.map (·.1)
    .exact .inl hc
    .exact .inr ⟨h,by simpa using hc⟩
 rw[e1,<-IL (hp.map λp=>G p (W p)),C_];have:(((JM n mo).filter λp=>!(m.map (·.1)).contains p).map λp=>G p (W p)).sum=0:=T0 λp hp=>by
  have hc:=(zT.1 hp).2;have:W p=0:=by
   by_cases e:W p=0
   .exact e
   .obtain⟨x,hx,rfl⟩:=h3 p e;have:x.1∈m.map (·.1):=zB.2 ⟨x,hx,rfl⟩;simp[this] at hc
  rw[this,h0]
 rw[this];omega
def W2 (m:List ((Int×Int)×Int)) (k:Int×Int):Int:=gq.aget (.pair (.i .i64) (.i .i64)) m k 0
def ML (m:List ((Int×Int)×Int)) (k:Int×Int) (v:Int):List ((Int×Int)×Int):=D_ (.pair (.i .i64) (.i .i64)) m k v
theorem Z35 {a b:Int×Int}:gq.keq (.pair (.i .i64) (.i .i64)) a b=true<->a=b:=by show ((a.1==b.1)&&(a.2==b.2))=true<->_;simp only[z8,zK,Prod.ext_iff]
theorem K_ (a:Int×Int) (b:Int) (m:List ((Int×Int)×Int)) (k:Int×Int):W2 ((a,b)::m) k=if k=a then b else W2 m k:=by
 show (if gq.keq (.pair (.i .i64) (.i .i64)) k a=true then b else gq.aget (.pair (.i .i64) (.i .i64)) m k 0)=_;by_cases h:k=a
 .rw[z6 (Z35.2 h),z6 h]
 .rw[z0 (λe=>h (Z35.1 e)),z0 h];rfl
theorem KM (a:Int×Int) (b:Int) (m:List ((Int×Int)×Int)) (k:Int×Int) (v:Int):ML ((a,b)::m) k v=if k=a then (k,v)::m else (a,b)::ML m k v:=by
 show (if gq.keq (.pair (.i .i64) (.i .i64)) k a=true then (k,v)::m else (a,b)::D_ (.pair (.i .i64) (.i .i64)) m k v)=_;by_cases h:k=a
 .rw[z6 (Z35.2 h),z6 h]
 .rw[z0 (λe=>h (Z35.1 e)),z0 h];rfl
theorem Q3p {m:List ((Int×Int)×Int)}(hn:(m.map (·.1)).Nodup) {e:(Int×Int)×Int}(he:e∈m):W2 m e.1=e.2:=by
 induction m with
 |nil=>cases he
 |cons x m ih =>
  obtain⟨a,b⟩:=x;rw[zJ,xB] at hn;rw[K_];rcases zA.1 he with rfl|he
  .rw[z6 rfl]
  .have:e.1≠a:=λh=>hn.1 (by rw[<-h];exact zB.2 ⟨e,he,rfl⟩);rw[z0 this];exact ih hn.2 he
theorem Er {k:Int×Int}:∀ {m:List ((Int×Int)×Int)},(∀ e∈m,e.1≠k)->W2 m k=0
 |[],_=>rfl
 |(a,b)::m,h=>by rw[K_,z0 λe=>h (a,b) (zp ..) e.symm];exact Er λe he=>h e (zo _ he)
theorem MapW.get {n mo:Nat}{m:List ((Int×Int)×Int)}{W:Int×Int->Int}(h:MapW n mo m W) (q:Int×Int):W2 m q=W q:=by
 by_cases hz:W q=0
 .rw[hz];refine Er λe he hq=>?_;have:=h.2.1 e he;rw[hq,hz] at this;omega
 .obtain⟨e,he,rfl⟩:=h.2.2 q hz;rw[Q3p h.1 he];exact(h.2.1 e he).1
theorem II (k:Int×Int) (v:Int):∀ (m:List ((Int×Int)×Int)),(m.map (·.1)).Nodup->(∀ e∈ML m k v,e=(k,v)\/e∈m/\e.1≠k)/\(k,v)∈ML m k v/\(∀ e∈m,e.1≠k->e∈ML m k v)/\((ML m k v).map (·.1)).Nodup
 |[],_=>⟨λe he=>.inl (zI.1 he),zI.2 rfl,λe he=>(by cases he),List.pairwise_singleton _ _⟩
 |(a,b)::m,hn=>by
  rw[zJ,xB] at hn;obtain⟨h1,h2,h3,h4⟩:=II k v m hn.2;rw[KM];by_cases hk:k=a
  .subst hk;rw[z6 rfl];refine⟨λe he=>?_,zp ..,λe he aB=>?_,by rw[zJ,xB];exact hn⟩
   .rcases zA.1 he with h|h
    .exact .inl h
    .exact .inr ⟨zo _ h,λe2=>hn.1 (zB.2 ⟨e,h,e2⟩)⟩
   .rcases zA.1 he with h|h
    .rw[h] at aB;exact(aB rfl).elim
    .exact zo _ h
  .rw[z0 hk];refine⟨λe he=>?_,zo _ h2,λe he aB=>?_,?_⟩
   .rcases zA.1 he with h|h
    .subst h;exact .inr ⟨zp ..,λe=>hk e.symm⟩
    .rcases h1 e h with h|h
     .exact .inl h
     .exact .inr ⟨zo _ h.1,h.2⟩
   .rcases zA.1 he with h|h
    .rw[h];exact zp ..
    .exact zo _ (h3 e h aB)
   .rw[zJ,xB];refine⟨λhm=>?_,h4⟩;obtain⟨e,he,kH⟩:=zB.1 hm;rcases h1 e he with h|h
    .rw[h] at kH;exact hk kH
    .exact hn.1 (zB.2 ⟨e,h.1,kH⟩)
theorem MapW.add {n mo:Nat}{m:List ((Int×Int)×Int)}{W:Int×Int->Int}(h:MapW n mo m W) (hW:∀ q,0<=W q) {k:Int×Int}{w:Int}(hw:0<w) (hk:k∈JM n mo):MapW n mo (ML m k (W2 m k+w)) (λq=>W q+if q=k then w else 0):=by
 obtain⟨p1,p2,p3,p4⟩:=II k (W2 m k+w) m h.1;have hg:=h.get k;have vT:=hW k;refine⟨p4,λe he=>?_,λq hq=>?_⟩
 .rcases p1 e he with rfl|⟨h1,h2⟩
  .dsimp only;rw[z6 rfl];exact⟨by omega,by omega,hk⟩
  .dsimp only;rw[z0 h2];have:=h.2.1 e h1;exact⟨by omega,this.2⟩
 .by_cases e:q=k
  .exact⟨_,p2,e.symm⟩
  .dsimp only at hq;rw[z0 e] at hq;obtain⟨x,hx,rfl⟩:=h.2.2 q (by omega);exact⟨x,p3 x hx e,rfl⟩
theorem MapW.congr {n mo:Nat}{m:List ((Int×Int)×Int)}{W W':Int×Int->Int}(h:MapW n mo m W) (e:∀ q,W q=W' q):MapW n mo m W':=by have:W=W':=funext e;rw[<-this];exact h
theorem MapW.nil (n mo:Nat):MapW n mo [] λ_=>0:=⟨List.nodup_nil,(λe he=>by cases he),λq hq=>(hq rfl).elim⟩
theorem UC {n mo:Int}{p:Int×Int}{w:Int}{q:Int×Int}{s:Int}(hw:0<=w):0<=HW n mo p w q s/\HW n mo p w q s<=w:=by unfold HW;split<;>omega
theorem RT {n mo:Int}{wv:Int->Bool}{p:Int×Int}{w:Int}{q:Int×Int}(hw:0<=w):0<=EJ n mo wv p w q:=by have h0:=(UC (n:=n) (mo:=mo) (p:=p) (q:=q) (s:=0) hw).1;have h1:=(UC (n:=n) (mo:=mo) (p:=p) (q:=q) (s:=1) hw).1;have h2:=(UC (n:=n) (mo:=mo) (p:=p) (q:=q) (s:=2) hw).1;unfold EJ;split<;>omega
theorem HN (n mo:Nat) (wv:Nat->Int->Bool):∀ k q,0<=wyK n mo wv k q
 |0,q=>by simp only[wyK];split<;>omega
 |k+1,q=>U0 λp _=>RT (HN n mo wv k p)
theorem Q5b (n mo:Nat) (wv:Nat->Int->Bool) (hn:0<n):∀ k q,wyK n mo wv k q≠0->q∈JM n mo
 |0,q,h=>by
  simp only[wyK] at h;split at h
  .rename_i h2;rw[Yq];omega
  .exact(h rfl).elim
 |k+1,q,h=>by
  simp only[wyK] at h;by_cases hq:q∈JM n mo
  .exact hq
  .exfalso;refine h (T0 λp hp=>?_);rw[Yq] at hp hq;have z:∀ s:Int,0<=s->HW n mo p (wyK n mo wv k p) q s=0:=λs hs=>by
    unfold HW;rw[z0];rintro⟨h1,h2⟩;apply hq;have e1:=(Prod.ext_iff.1 h1).1;have e2:=(Prod.ext_iff.1 h1).2;unfold Dm at e1 e2;dsimp only at e1 e2;rw[Int.tmod_eq_emod_of_nonneg (by omega)] at e1;have b1:=Int.emod_nonneg (p.1+s) (show (n:Int)≠0 by omega);have b2:=Int.emod_lt_of_pos (p.1+s) (show (0:Int)<n by omega);split at e2<;>omega
   unfold EJ;rw[z 0 (by omega),z 1 (by omega),z 2 (by omega)];split<;>rfl
theorem Q43 {α:Type}{f:α->Int}{B:Int}(hB:0<=B):∀ {l:List α},l.Nodup->(∀ x∈l,0<=f x/\f x<=B)->(∀ x∈l,∀ y∈l,f x≠0->f y≠0->x=y)->(l.map f).sum<=B
 |[],_,_,_=>hB
 |x::l,hn,hb,h1=>by
  rw[xB] at hn;rw[zJ,xJ];by_cases hx:f x=0
  .have:=Q43 hB hn.2 (λy hy=>hb y (zo _ hy)) λy hy z hz=>h1 y (zo _ hy) z (zo _ hz);omega
  .have hz:(l.map f).sum=0:=T0 λy hy=>by
    by_cases e:f y=0
    .exact e
    .exact(hn.1 (by rw[h1 x (zp ..) y (zo _ hy) hx e];exact hy)).elim
   have:=hb x (zp ..);omega
theorem Q7n {n:Int}{p p':Int×Int}{s:Int}(hs:0<=s) (h1:0<=p.1/\p.1<n) (h2:0<=p'.1/\p'.1<n) (h:Dm n p s=Dm n p' s):p=p':=by
 have e1:=(Prod.ext_iff.1 h).1;have e2:=(Prod.ext_iff.1 h).2;unfold Dm at e1 e2;dsimp only at e1 e2;rw[Int.tmod_eq_emod_of_nonneg (by omega),Int.tmod_eq_emod_of_nonneg (by omega)] at e1;have h3:p.1=p'.1:=by
  have a1:=Int.emod_add_emod p.1 n s;have:=Int.emod_emod_of_dvd;have d:(p.1-p'.1) % n=0:=by
   have:(p.1+s-(p'.1+s)) % n=0:=Int.emod_eq_emod_iff_emod_sub_eq_zero.1 e1
   rwa [show p.1+s-(p'.1+s)=p.1-p'.1 by omega] at this
  obtain⟨c,hc⟩:=Int.dvd_of_emod_eq_zero d;have c1:c<1:=by
   by_cases h:1<=c
   .have:=Int.mul_le_mul_of_nonneg_left h (show 0<=n by omega);omega
   .omega
  have c2:-1<c:=by
   by_cases h:c<=-1
   .have:=Int.mul_le_mul_of_nonneg_left h (show 0<=n by omega);omega
   .omega
  have:c=0:=by omega
  rw[this] at hc;omega
 exact Prod.ext h3 (by omega)
theorem Q6y {α:Type}{f g:α->Int}:∀ {l:List α},(∀ x∈l,f x<=g x)->(l.map f).sum<=(l.map g).sum
 |[],_=>Int.le_refl _
 |x::l,h=>by have h1:=h x (zp ..);have h2:=Q6y (l:=l) λy hy=>h y (zo _ hy);rw[zJ,zJ,xJ,xJ];omega
theorem Fi {α:Type}(f g:α->Int):∀ (l:List α),(l.map λx=>f x+g x).sum=(l.map f).sum+(l.map g).sum
 |[]=>rfl
 |x::l=>by have:=Fi f g l;rw[zJ,zJ,zJ,xJ,xJ,xJ];omega
theorem Q3a {n mo:Nat}{V:Int×Int->Int}{q:Int×Int}{s B:Int}(hs:0<=s) (hB:0<=B) (hV:∀ p,0<=V p) (hb:∀ p∈JM n mo,Dm n p s=q->V p<=B):((JM n mo).map λp=>HW n mo p (V p) q s).sum<=B:=by
 refine Q43 hB (G8 n mo) (λp hp=>?_) λp hp p' a9 h1 h2=>?_
 .have:=UC (n:=n) (mo:=mo) (p:=p) (q:=q) (s:=s) (hV p);refine⟨this.1,?_⟩;by_cases hq:Dm n p s=q
  .have:=hb p hp hq;omega
  .unfold HW;rw[z0 λh=>hq h.1];exact hB
 .rw[Yq] at hp a9;have e1:Dm n p s=q:=by
   by_cases h:Dm n p s=q
   .exact h
   .unfold HW at h1;rw[z0 λh'=>h h'.1] at h1;exact(h1 rfl).elim
  have e2:Dm n p' s=q:=by
   by_cases h:Dm n p' s=q
   .exact h
   .unfold HW at h2;rw[z0 λh'=>h h'.1] at h2;exact(h2 rfl).elim
  exact Q7n hs hp.1 a9.1 (e1.trans e2.symm)
theorem IE {n mo:Nat}(wv:Nat->Int->Bool) (hn:0<n):∀ (k:Nat) (q:Int×Int),0<=q.2->wyK n mo wv k q<=((2*k+1) ^ q.2.toNat:Nat)
 |0,q,hq=>by simp only[wyK];have:0<(2*0+1) ^ q.2.toNat:=Nat.pow_pos (by omega);split<;>omega
 |k+1,q,hq=>by
  have jj:=HN n mo wv k;have h0:wyK n mo wv (k+1) q<=((JM n mo).map λp=>(HW n mo p (wyK n mo wv k p) q 0+HW n mo p (wyK n mo wv k p) q 1)+HW n mo p (wyK n mo wv k p) q 2).sum:=Q6y λp _=>by have a0:=(UC (n:=n) (mo:=mo) (p:=p) (q:=q) (s:=0) (jj p)).1;have a1:=(UC (n:=n) (mo:=mo) (p:=p) (q:=q) (s:=1) (jj p)).1;have a2:=(UC (n:=n) (mo:=mo) (p:=p) (q:=q) (s:=2) (jj p)).1;unfold EJ;split<;>omega
  rw[Fi,Fi] at h0;obtain⟨f,hf⟩:∃ f:Nat,q.2=f:=⟨q.2.toNat,by omega⟩;have b1:((JM n mo).map λp=>HW n mo p (wyK n mo wv k p) q 1).sum<=((2*k+1) ^ f:Nat):=Q3a (by omega) (by omega) jj λp hp he=>by
   rw[Yq] at hp;have e2:=(Prod.ext_iff.1 he).2;unfold Dm at e2;dsimp only at e2;rw[z6 rfl] at e2;have:=IE (n:=n) (mo:=mo) wv hn k p hp.2.1
   rwa [show p.2.toNat=f by omega] at this
  have bs:∀ s:Int,0<=s->s≠1->((JM n mo).map λp=>HW n mo p (wyK n mo wv k p) q s).sum<=((if f=0 then 0 else (2*k+1) ^ (f-1):Nat):Int):=λs hs jh=>Q3a hs (by omega) jj λp hp he=>by
   rw[Yq] at hp;have e2:=(Prod.ext_iff.1 he).2;unfold Dm at e2;dsimp only at e2;rw[z0 jh] at e2;have:=IE (n:=n) (mo:=mo) wv hn k p hp.2.1;rw[z0 (by omega)]
   rwa [show p.2.toNat=f-1 by omega] at this
  have b0:=bs 0 (by omega) (by omega);have b2:=bs 2 (by omega) (by omega);rw[hf,zf];have key:(2*k+1) ^ f+2*(if f=0 then 0 else (2*k+1) ^ (f-1))<=(2*(k+1)+1) ^ f:=by
   cases f with
   |zero=>simp
   |succ g =>
    rw[z0 (by omega),Nat.add_sub_cancel];have hp:(2*k+1) ^ g<=(2*(k+1)+1) ^ g:=Nat.pow_le_pow_left (by omega) g;have h1:(2*k+1) ^ (g+1)+2*(2*k+1) ^ g=(2*k+1) ^ g*(2*(k+1)+1):=by
     rw[Nat.pow_succ];generalize (2*k+1) ^ g=A;have:A*(2*(k+1)+1)=A*(2*k+1)+A*2:=by rw[<-Nat.mul_add];congr 1
     omega
    rw[h1,Nat.pow_succ];exact zu _ hp
  omega
theorem ID {α:Type}{d:α}{m:List α}{F:α->Int}{dn:List Nat}(hn:dn.Nodup) (ai:∀ r∈dn,r<m.length) (hF:∀ x∈m,0<=F x):(dn.map λr=>F (m.getD r d)).sum<=(m.map F).sum/\((∀ r,r<m.length->r∈dn)->(dn.map λr=>F (m.getD r d)).sum=(m.map F).sum):=by
 have e:m.map F=(List.range m.length).map λr=>F (m.getD r d):=by
  refine List.ext_getElem (by simp) λi h1 h2=>?_;have hi:i<m.length:=by simpa using h1
  rw[xD,xD,List.getElem_range,Q9 hi]
 have hp:(dn++(List.range m.length).filter λr=>!dn.contains r).Perm (List.range m.length):=by
  refine (wa (List.nodup_append.2 ⟨hn,(List.nodup_range (n:=m.length)).filter _,λa ha b hb e=>?_⟩) List.nodup_range).2 λa=>?_
  .subst e;have:=(zT.1 hb).2;simp[ha] at this
  .rw[x6,zT,zW];constructor
   .rintro (h|h)
    .exact ai a h
    .exact h.1
   .intro h;by_cases hc:a∈dn
    .exact .inl hc
    .exact .inr ⟨h,by simpa using hc⟩
 rw[e,<-IL (hp.map λr=>F (m.getD r d)),C_];constructor
 .have:0<=(((List.range m.length).filter λr=>!dn.contains r).map λr=>F (m.getD r d)).sum:=U0 λr hr=>by
   have hr:=zW.1 (zT.1 hr).1;rw[Q9 hr];exact hF _ (zl hr)
  omega
 .intro h;have:(List.range m.length).filter (λr=>!dn.contains r)=[]:=List.filter_eq_nil_iff.2 λr hr=>by have:=h r (zW.1 hr);simp[this]
  rw[this];simp
def wvB (hk:Int) (cs:List Xo) (cl:List Int) (k:Nat) (a:Int):Bool:=(cl.getD k 0==-1)||(cl.getD k 0==G0 hk (cs.getD a.toNat Z_))
theorem En (k:Int×Int) (a b:Int):∀ m:List ((Int×Int)×Int),ML (ML m k a) k b=ML m k b
 |[]=>by show ML [(k,a)] k b=[(k,b)];rw[KM,z6 rfl]
 |(x,v)::m=>by
  rw[KM,KM];by_cases h:k=x
  .rw[z6 h,z6 h,KM,z6 rfl]
  .rw[z0 h,z0 h,KM,z0 h,En k a b m]
theorem ER (k q:Int×Int) (v:Int):∀ m:List ((Int×Int)×Int),W2 (ML m k v) q=if q=k then v else W2 m q
 |[]=>by show W2 [(k,v)] q=_;rw[K_]
 |(x,w)::m=>by
  rw[KM];by_cases h:k=x
  .subst h;rw[z6 rfl,K_,K_];split<;>rfl
  .rw[z0 h,K_,ER k q v m,K_];by_cases h2:q=x
   .subst h2;rw[z6 rfl,z6 rfl,z0 (λe=>h e.symm)]
   .rw[z0 h2,z0 h2]
def Q09 (n mo:Int) (p:Int×Int) (w:Int) (m:List ((Int×Int)×Int)) (s:Int):List ((Int×Int)×Int):=if (Dm n p s).2<=mo then ML m (Dm n p s) (W2 m (Dm n p s)+w) else m
def Q9c (n mo:Int) (p:Int×Int) (w:Int) (m:List ((Int×Int)×Int)):List ((Int×Int)×Int):=Q09 n mo p w (Q09 n mo p w (Q09 n mo p w m 0) 1) 2
theorem Q64 (n mo:Int) (p:Int×Int) (w:Int) (m:List ((Int×Int)×Int)) (s:Int) (q:Int×Int):W2 (Q09 n mo p w m s) q=W2 m q+HW n mo p w q s:=by
 unfold Q09 HW;by_cases h:(Dm n p s).2<=mo
 .rw[z6 h,ER];by_cases e:q=Dm n p s
  .rw[z6 e,z6 ⟨e.symm,by rw[e];exact h⟩,e]
  .rw[z0 e,z0 (λx=>e x.1.symm)];omega
 .rw[z0 h,z0 (λx=>h (by rw[x.1];exact x.2))];omega
theorem Q3t {n mo:Nat}{m:List ((Int×Int)×Int)}{W:Int×Int->Int}(h:MapW n mo m W) (hW:∀ q,0<=W q) {p:Int×Int}{w s:Int}(hw:0<w) (hn:0<n) (hp:0<=p.1/\0<=p.2) (hs:0<=s):MapW n mo (Q09 n mo p w m s) (λq=>W q+HW n mo p w q s):=by
 unfold Q09;by_cases hc:(Dm n p s).2<=mo
 .rw[z6 hc];refine (h.add hW hw (k:=Dm n p s) ?_).congr λq=>?_
  .rw[Yq];have b1:=Int.emod_nonneg (p.1+s) (show (n:Int)≠0 by omega);have b2:=Int.emod_lt_of_pos (p.1+s) (show (0:Int)<n by omega);refine⟨?_,?_,hc⟩
   .unfold Dm;dsimp only;rw[Int.tmod_eq_emod_of_nonneg (by omega)];exact⟨b1,b2⟩
   .unfold Dm;dsimp only;split<;>omega
  .unfold HW;by_cases e:q=Dm n p s
   .rw[z6 e,z6 ⟨e.symm,by rw[e];exact hc⟩]
   .rw[z0 e,z0 (λx=>e x.1.symm)]
 .rw[z0 hc];exact h.congr λq=>by
   unfold HW;rw[z0 (λx=>hc (by rw[x.1];exact x.2))];omega
theorem Z09 {n mo:Nat}{m:List ((Int×Int)×Int)}{W:Int×Int->Int}(h:MapW n mo m W) (hW:∀ q,0<=W q) {p:Int×Int}{w:Int}(hw:0<w) (hn:0<n) (hp:0<=p.1/\0<=p.2):MapW n mo (Q9c n mo p w m) (λq=>W q+(HW n mo p w q 0+HW n mo p w q 1+HW n mo p w q 2)):=by have z:=λq s=>(UC (n:=n) (mo:=mo) (p:=p) (q:=q) (s:=s) (Int.le_of_lt hw)).1;have h1:=Q3t h hW hw hn hp (s:=0) (by omega);have h2:=Q3t h1 (λq=>by have:=hW q;have:=z q 0;omega) hw hn hp (s:=1) (by omega);have h3:=Q3t h2 (λq=>by have:=hW q;have:=z q 0;have:=z q 1;omega) hw hn hp (s:=2) (by omega);exact h3.congr λq=>by omega
def Y5:AL (Int×Int×(List (Int×Int×Bool))×Int):=(.cons (.k (.i .i64)) (.one (.ptr (.cons (.k (.i .i64)) (.cons (.k (.list (.pair (.i .i64) (.pair (.i .i64) .bo)))) (.one (.k (.i .i64))))))))
def UY (d:Int×Int×(List (Int×Int×Bool))×Int):Prop:=1<=d.2.2.2/\d.2.2.2<=24
def WD (d:Int×Int×(List (Int×Int×Bool))×Int):SV:=.val .bo (decide (d.1≠-1)&&!inI d.1 0 (2 ^ d.2.2.2.toNat-1))
def WB (d:Int×Int×(List (Int×Int×Bool))×Int):List OB:=[]
def Xn:CSp:=Yo Y5 UY WD WB
def ZP (r:Int) (hk:Int) (cs:List (Int×Int×Bool)) (f:Int):Prop :=
 ((r != (-1:Int))=true->True)/\((r != (-1:Int))=true->1<=f/\f<=24/\[r].length<=1000000)/\(((r != (-1:Int))&&(!(!([r].any λn=>!inI n 0 (2 ^ f.toNat-1)))))=(decide (r≠-1)&&!inI r 0 (2 ^ f.toNat-1))/\(True))
def Y3:Cx:=⟨[(3,(.i .i64))],[(21,Zo)],14,[],0,[],[],[],[],false,[],[],[],[]⟩
def Nu (r:Int) (hk:Int) (cs:List (Int×Int×Bool)) (f:Int):List (Nat×LoopAnn):=[]
theorem NH (d:Int×Int×(List (Int×Int×Bool))×Int):gwp (Y3) (Nu d.1 d.2.1 d.2.2.1 d.2.2.2) c74 0 (K9 [.tmp 3] (WD d) (WB d)) (QC 14 (AL.can Y5 d))=ZP d.1 d.2.1 d.2.2.1 d.2.2.2:=by kernel_rfl
abbrev NI:Prop:=OkC Tryd.prog 74 Xn
theorem Nv (h:∀ (r:Int) (hk:Int) (cs:List (Int×Int×Bool)) (f:Int),(1<=f/\f<=24)->ZP r hk cs f):OkC Tryd.prog 74 Xn :=
 QK Z26 mixed (C:=Y3) (V:=λ(d:Int×Int×(List (Int×Int×Bool))×Int)=>ZP d.1 d.2.1 d.2.2.1 d.2.2.2) ⟨(.cons JR .nil),XsOk.nil,ItsOk.nil,YlOk.nil,IysOk.nil,XfOk.nil⟩ (NH) λd hp=>h d.1 d.2.1 d.2.2.1 d.2.2.2 hp
theorem Nx:NI:=Nv λr hk cs f h=>by
 unfold ZP;(try delta lI gD sT I64 J_ pj8 pj4);refine⟨λ_=>trivial,λ_=>⟨h.1,h.2,by simp⟩,?_,trivial⟩;simp only[List.any_cons,List.any_nil,xZ,Bool.not_not];congr 1;by_cases e:r=-1
 .subst e;rfl
 .simp[e]
def D6:AL (Int):=(.one (.k (.i .i64)))
def Tz (d:Int):Prop:=True
def Mx (d:Int):SV:=.val (.i .i64) (if d=1 then 0 else 1)
def MD (d:Int):List OB:=[]
def UK:CSp:=Yo D6 Tz Mx MD
def Yr (s:Int):Prop :=
 ((s==(1:Int))=true ->
  ((0:Int)=(if s=1 then 0 else 1)/\(True))) /\
 ((s==(1:Int))=false ->
  ((1:Int)=(if s=1 then 0 else 1)/\(True)))
def Gz:Cx:=⟨[],[],5,[],0,[],[],[],[],false,[],[],[],[]⟩
def Lh (s:Int):List (Nat×LoopAnn):=[]
theorem SZ (d:Int):gwp (Gz) (Lh d) c93 0 (K9 [.tmp 2] (Mx d) (MD d)) (QC 5 (AL.can D6 d))=Yr d:=by kernel_rfl
abbrev L6:Prop:=OkC Tryd.prog 93 UK
theorem Sc (h:∀ (s:Int),(True)->Yr s):OkC Tryd.prog 93 UK :=
 QK Z18 mixed (C:=Gz) (V:=λ(d:Int)=>Yr d) ⟨.nil,XsOk.nil,ItsOk.nil,YlOk.nil,IysOk.nil,XfOk.nil⟩ (SZ) λd hp=>h d hp
theorem Lj:L6:=Sc λs _=>by
 unfold Yr;(try delta lI gD sT I64 J_ pj8 pj4);refine⟨λc=>⟨?_,trivial⟩,λc=>⟨?_,trivial⟩⟩
 .rw[z6 (eq_of_beq c)]
 .rw[z0 (λe=>by rw[e] at c;cases c)]
def Wf:AL ((Int×(List (Int×Int×Bool))×Int×List Int)×Int×Int):=(.cons (.agg (.cons (.k (.i .i64)) (.cons (.k (.list (.pair (.i .i64) (.pair (.i .i64) .bo)))) (.cons (.k (.i .i64)) (.one (.k (.list (.i .i64)))))))) (.cons (.k (.i .i64)) (.one (.k (.i .i64)))))
def VP (d:(Int×(List (Int×Int×Bool))×Int×List Int)×Int×Int):Prop:=1<=d.1.2.2.1/\d.1.2.2.1<=24/\0<=d.2.1/\d.2.1<d.1.2.2.2.length/\0<=d.2.2/\d.2.2<d.1.2.1.length/\∀ c∈d.1.2.1,Zb d.1.2.2.1 c=true
def XN (d:(Int×(List (Int×Int×Bool))×Int×List Int)×Int×Int):SV:=.val .bo (wvB d.1.2.2.1 d.1.2.1 d.1.2.2.2 d.2.1.toNat d.2.2)
def XS (d:(Int×(List (Int×Int×Bool))×Int×List Int)×Int×Int):List OB:=[]
def JE:CSp:=Yo Wf VP XN XS
def Zv (hk:Int) (cs:List (Int×Int×Bool)) (f:Int) (cl:List Int) (pk:Int) (at_:Int):Prop :=
 (0<=pk)/\(pk<(List.length cl))/\(((gD cl pk 0)==(-1:Int))=false->0<=pk)/\(((gD cl pk 0)==(-1:Int))=false->pk<(List.length cl))/\(((gD cl pk 0)==(-1:Int))=false->1<=f/\f<=24/\0<=at_/\at_<cs.length/\∀ c∈cs,Zb f c=true)/\((((gD cl pk 0)==(-1:Int))||((gD cl pk 0)==(G0 f (cs.getD at_.toNat Z_))))=(wvB f cs cl pk.toNat at_)/\(True))
def W9:Cx:=⟨[],[(36,X3)],25,[],0,[],[],[],[],false,[],[],[],[]⟩
def VZ (hk:Int) (cs:List (Int×Int×Bool)) (f:Int) (cl:List Int) (pk:Int) (at_:Int):List (Nat×LoopAnn):=[]
theorem V_ (d:(Int×(List (Int×Int×Bool))×Int×List Int)×Int×Int):gwp (W9) (VZ d.1.1 d.1.2.1 d.1.2.2.1 d.1.2.2.2 d.2.1 d.2.2) c75 0 (K9 [.tmp 6] (XN d) (XS d)) (QC 25 (AL.can Wf d))=Zv d.1.1 d.1.2.1 d.1.2.2.1 d.1.2.2.2 d.2.1 d.2.2:=by kernel_rfl
abbrev U3:Prop:=OkC Tryd.prog 75 JE
theorem Ul (h:∀ (hk:Int) (cs:List (Int×Int×Bool)) (f:Int) (cl:List Int) (pk:Int) (at_:Int),(1<=f/\f<=24/\0<=pk/\pk<cl.length/\0<=at_/\at_<cs.length/\∀ c∈cs,Zb f c=true)->Zv hk cs f cl pk at_):OkC Tryd.prog 75 JE :=
 QK Z0u mixed (C:=W9) (V:=λ(d:(Int×(List (Int×Int×Bool))×Int×List Int)×Int×Int)=>Zv d.1.1 d.1.2.1 d.1.2.2.1 d.1.2.2.2 d.2.1 d.2.2) ⟨(.cons Vc .nil),XsOk.nil,ItsOk.nil,YlOk.nil,IysOk.nil,XfOk.nil⟩ (V_) λd hp=>h d.1.1 d.1.2.1 d.1.2.2.1 d.1.2.2.2 d.2.1 d.2.2 hp
theorem Ue:U3:=Ul λhk cs f cl pk at_ h=>by obtain⟨h1,h2,h3,h4,h5,h6,h7⟩:=h;unfold Zv;(try delta lI gD sT I64 J_ pj8 pj4);exact⟨h3,h4,λ_=>h3,λ_=>h4,λ_=>⟨h1,h2,h5,h6,h7⟩,(by and_intros<;>first|rfl|trivial|simp)⟩
def WI:AL ((Int×(List (Int×Int×Bool))×Int×List Int)×(Int×Int)×Int×Int):=(.cons (.agg (.cons (.k (.i .i64)) (.cons (.k (.list (.pair (.i .i64) (.pair (.i .i64) .bo)))) (.cons (.k (.i .i64)) (.one (.k (.list (.i .i64)))))))) (.cons (.agg (.cons (.k (.i .i64)) (.one (.k (.i .i64))))) (.cons (.k (.i .i64)) (.one (.k (.i .i64))))))
def UG (m:List ((Int×Int)×Int)) (a:(Int×(List (Int×Int×Bool))×Int×List Int)×(Int×Int)×Int×Int):Prop:=0<=a.2.1.1/\a.2.1.1<a.1.2.1.length/\a.1.2.1.length<=60/\0<=a.2.1.2/\a.2.1.2<=6/\0<=a.2.2.2/\a.2.2.2<=6/\0<=a.2.2.1/\a.2.2.1<=4000000000000000/\∀ q,0<=W2 m q/\W2 m q<=4000000000000000
def Wq (m:List ((Int×Int)×Int)) (a:(Int×(List (Int×Int×Bool))×Int×List Int)×(Int×Int)×Int×Int):SV:=.tup []
def Wm (m:List ((Int×Int)×Int)) (a:(Int×(List (Int×Int×Bool))×Int×List Int)×(Int×Int)×Int×Int) (m2:List ((Int×Int)×Int)):Prop:=m2=Q9c a.1.2.1.length a.2.2.2 (a.2.1.1,a.2.1.2) a.2.2.1 m
def Xl:XSp:=Q0v Lv 1 (.pair (.i .i64) (.i .i64)) (.i .i64) (Z2n WI UG Wq Wm)
def ZQ (m:List ((Int×Int)×Int)) (hk:Int) (cs:List (Int×Int×Bool)) (f:Int) (cl:List Int) (sa:Int) (sf:Int) (wy:Int) (mo:Int):Prop:=∀ vals:List Value,
 ∃ (e3:Unit) (d30:(List ((Int×Int)×Int))×Int),((True/\wy=wy/\mo=mo/\True/\True/\(0:Int)=d30.2/\True)/\((m=d30.1)/\(hk=hk/\cs=cs/\f=f/\cl=cl/\(([]:List SV)=[]))/\(sa=sa/\sf=sf/\(([]:List SV)=[]))/\(vals=vals/\(True/\(([]:List SV)=[])))/\True)) /\
 LoopP (λ(d3:(List ((Int×Int)×Int))×Int) (q3:((List ((Int×Int)×Int))×Int)->Prop) =>
  ((decide (d3.2<(3:Int)))=true ->
   (cs≠[]/\cs.length<=1000/\-1000000<=sa/\sa<=1000000/\-1000000<=d3.2/\d3.2<=1000000)/\(True)/\(I64 (sf+(if d3.2=1 then 0 else 1)))/\((True/\wy=wy/\mo=mo/\True/\True/\True/\d3.2=d3.2/\((Int.tmod (sa+d3.2) cs.length)=(Int.tmod (sa+d3.2) cs.length)/\(sf+(if d3.2=1 then 0 else 1))=(sf+(if d3.2=1 then 0 else 1))/\(([]:List SV)=[]))/\True)/\((d3.1=d3.1)/\(hk=hk/\cs=cs/\f=f/\cl=cl/\(([]:List SV)=[]))/\(sa=sa/\sf=sf/\(([]:List SV)=[]))/\((0:Int)=(0:Int)/\(0:Int)=(0:Int)/\(([]:List SV)=[]))/\(vals=vals/\(True/\(([]:List SV)=[])))/\True))/\((cs≠[]/\cs.length<=1000/\-1000000<=sa/\sa<=1000000/\-1000000<=d3.2/\d3.2<=1000000)/\(True)/\(I64 (sf+(if d3.2=1 then 0 else 1)))/\((True/\wy=wy/\mo=mo/\True/\True/\True/\d3.2=d3.2/\((Int.tmod (sa+d3.2) cs.length)=(Int.tmod (sa+d3.2) cs.length)/\(sf+(if d3.2=1 then 0 else 1))=(sf+(if d3.2=1 then 0 else 1))/\(([]:List SV)=[]))/\True)/\((d3.1=d3.1)/\(hk=hk/\cs=cs/\f=f/\cl=cl/\(([]:List SV)=[]))/\(sa=sa/\sf=sf/\(([]:List SV)=[]))/\((0:Int)=(0:Int)/\(0:Int)=(0:Int)/\(([]:List SV)=[]))/\(vals=vals/\(True/\(([]:List SV)=[])))/\True)))/\((cs≠[]/\cs.length<=1000/\-1000000<=sa/\sa<=1000000/\-1000000<=d3.2/\d3.2<=1000000)/\(True)/\(I64 (sf+(if d3.2=1 then 0 else 1)))/\((True/\wy=wy/\mo=mo/\True/\True/\True/\d3.2=d3.2/\((Int.tmod (sa+d3.2) cs.length)=(Int.tmod (sa+d3.2) cs.length)/\(sf+(if d3.2=1 then 0 else 1))=(sf+(if d3.2=1 then 0 else 1))/\(([]:List SV)=[]))/\True)/\((d3.1=d3.1)/\(hk=hk/\cs=cs/\f=f/\cl=cl/\(([]:List SV)=[]))/\(sa=sa/\sf=sf/\(([]:List SV)=[]))/\((0:Int)=(0:Int)/\(0:Int)=(0:Int)/\(([]:List SV)=[]))/\(vals=vals/\(True/\(([]:List SV)=[])))/\True)))/\((decide ((sf+(if d3.2=1 then 0 else 1))<=mo))=true ->
    (I64 ((gq.aget (.pair (.i .i64) (.i .i64)) d3.1 ((Int.tmod (sa+d3.2) cs.length),(sf+(if d3.2=1 then 0 else 1))) 0)+wy))/\∀ n4:Int,
     n4=n4 /\
     (I64 (d3.2+(1:Int)))/\(∃ d5:(List ((Int×Int)×Int))×Int,((True/\wy=wy/\mo=mo/\True/\True/\(d3.2+(1:Int))=d5.2/\True)/\(((D_ (.pair (.i .i64) (.i .i64)) (D_ (.pair (.i .i64) (.i .i64)) d3.1 ((Int.tmod (sa+d3.2) cs.length),(sf+(if d3.2=1 then 0 else 1))) (gq.aget (.pair (.i .i64) (.i .i64)) d3.1 ((Int.tmod (sa+d3.2) cs.length),(sf+(if d3.2=1 then 0 else 1))) 0)) ((Int.tmod (sa+d3.2) cs.length),(sf+(if d3.2=1 then 0 else 1))) ((gq.aget (.pair (.i .i64) (.i .i64)) d3.1 ((Int.tmod (sa+d3.2) cs.length),(sf+(if d3.2=1 then 0 else 1))) 0)+wy))=d5.1)/\(hk=hk/\cs=cs/\f=f/\cl=cl/\(([]:List SV)=[]))/\(sa=sa/\sf=sf/\(([]:List SV)=[]))/\(vals=vals/\(True/\(([]:List SV)=[])))/\True))/\q3 d5)) /\
   ((decide ((sf+(if d3.2=1 then 0 else 1))<=mo))=false ->
    (I64 (d3.2+(1:Int)))/\(∃ d6:(List ((Int×Int)×Int))×Int,((True/\wy=wy/\mo=mo/\True/\True/\(d3.2+(1:Int))=d6.2/\True)/\((d3.1=d6.1)/\(hk=hk/\cs=cs/\f=f/\cl=cl/\(([]:List SV)=[]))/\(sa=sa/\sf=sf/\(([]:List SV)=[]))/\(vals=vals/\(True/\(([]:List SV)=[])))/\True))/\q3 d6))) /\
  ((decide (d3.2<(3:Int)))=false ->
   (vals=vals/\(True/\(([]:List SV)=[]))/\((([]:List SV)=[]))/\(d3.1=Q9c cs.length mo (sa,sf) wy m)))) d30
def WZ:Cx:=⟨[],[(37,J5),(93,UK)],39,[],0,[],[],[],[1,3,4,5,7,11,12,26],false,[],[],[],[]⟩
def Y2 (m:List ((Int×Int)×Int)) (hk:Int) (cs:List (Int×Int×Bool)) (f:Int) (cl:List Int) (sa:Int) (sf:Int) (wy:Int) (mo:Int) (vals:List Value):List (Nat×LoopAnn):=[(0,⟨Unit,(List ((Int×Int)×Int))×Int,[1,3,4,5,7,12],λe x=>[.map 0,.val (.i .i64) wy,.val (.i .i64) mo,.box 5 0,.box 7 0,.val (.i .i64) x.2],λe x=>[(0,.slot 1,.map (.pair (.i .i64) (.i .i64)) (.i .i64) x.1),(5,.slot 5,.cells [.val (.i .i64) hk,.val (.list (.pair (.i .i64) (.pair (.i .i64) .bo))) cs,.val (.i .i64) f,.val (.list (.i .i64)) cl] (some 116)),(7,.slot 7,.cells [.val (.i .i64) sa,.val (.i .i64) sf] (some 89)),(4000000,.key 4000000,.stk [.map 0] vals)]⟩)]
theorem NM (m:List ((Int×Int)×Int)) (a:(Int×(List (Int×Int×Bool))×Int×List Int)×(Int×Int)×Int×Int):(∀ vals,gwp WZ (Y2 m a.1.1 a.1.2.1 a.1.2.2.1 a.1.2.2.2 a.2.1.1 a.2.1.2 a.2.2.1 a.2.2.2 vals) c76 0 (Q1x vals [] (Wq m a) (.pair (.i .i64) (.i .i64)) (.i .i64) (Wm m a)) (Mk 39 1 (.pair (.i .i64) (.i .i64)) (.i .i64) m vals (AL.can WI a)))=ZQ m a.1.1 a.1.2.1 a.1.2.2.1 a.1.2.2.2 a.2.1.1 a.2.1.2 a.2.2.1 a.2.2.2:=by kernel_rfl
abbrev Nz:Prop:=XOk Tryd.prog 76 Xl
theorem NQ (h:∀ (m:List ((Int×Int)×Int)) (hk:Int) (cs:List (Int×Int×Bool)) (f:Int) (cl:List Int) (sa:Int) (sf:Int) (wy:Int) (mo:Int),(0<=sa/\sa<cs.length/\cs.length<=60/\0<=sf/\sf<=6/\0<=mo/\mo<=6/\0<=wy/\wy<=4000000000000000/\∀ q,0<=W2 m q/\W2 m q<=4000000000000000)->ZQ m hk cs f cl sa sf wy mo):XOk Tryd.prog 76 Xl :=
 CC Z1l mixed M4 rfl (C:=WZ) ⟨(.cons W3 (.cons Lj .nil)),XsOk.nil,ItsOk.nil,YlOk.nil,IysOk.nil,XfOk.nil⟩ (L:=λm (a:(Int×(List (Int×Int×Bool))×Int×List Int)×(Int×Int)×Int×Int) vals=>Y2 m a.1.1 a.1.2.1 a.1.2.2.1 a.1.2.2.2 a.2.1.1 a.2.1.2 a.2.2.1 a.2.2.2 vals) (V:=λm (a:(Int×(List (Int×Int×Bool))×Int×List Int)×(Int×Int)×Int×Int)=>ZQ m a.1.1 a.1.2.1 a.1.2.2.1 a.1.2.2.2 a.2.1.1 a.2.1.2 a.2.2.1 a.2.2.2) NM λm a hp=>h m a.1.1 a.1.2.1 a.1.2.2.1 a.1.2.2.2 a.2.1.1 a.2.1.2 a.2.2.1 a.2.2.2 hp
theorem UU:Nz:=NQ λm hk cs f cl sa sf wy mo h=>by
 obtain⟨h1,h2,h3,h4,h5,h6,h7,h8,h9,bQ⟩:=h;unfold ZQ;(try delta lI gD sT I64 J_ pj8 pj4);intro vals;have aB:cs≠[]:=λe=>by rw[e] at h2;simp at h2;omega
 refine⟨(),(m,0),(by and_intros<;>first|rfl|trivial),?_⟩
 let P:Nat->List ((Int×Int)×Int):=λk=>match k with
  |0=>m
  |1=>Q09 cs.length mo (sa,sf) wy m 0
  |2=>Q09 cs.length mo (sa,sf) wy (Q09 cs.length mo (sa,sf) wy m 0) 1
  |_=>Q9c cs.length mo (sa,sf) wy m
 have hP:∀ k:Nat,k<3->P (k+1)=Q09 cs.length mo (sa,sf) wy (P k) k:=λk hk=>by
  match k,hk with
  |0,_=>rfl
  |1,_=>rfl
  |2,_=>rfl
 have hb:∀ k:Nat,k<=3->∀ q,0<=W2 (P k) q/\W2 (P k) q<=4000000000000000+k*4000000000000000:=λk=>by
  induction k with
  |zero=>intro _ q;have:=bQ q;exact⟨this.1,by show W2 m q<=_;omega⟩
  |succ k ih =>intro hk q;rw[hP k (by omega),Q64];have a1:=ih (by omega) q;have a2:=UC (n:=cs.length) (mo:=mo) (p:=(sa,sf)) (q:=q) (s:=(k:Int)) h8;omega
 refine LoopP.count2 3 (λk d=>d=P k) rfl ?_;intro k d oP hd q hq;subst hd;dsimp only;refine⟨λg=>?_,λg=>?_⟩
 .have g:k<3:=by have:=zk g;omega
  have cu:=λx'=>hq x' g;have hs:I64 (sf+(if (k:Int)=1 then 0 else 1)):=by (try delta I64);simp only[Qd];split<;>omega
  have lK:cs≠[]/\cs.length<=1000/\-1000000<=sa/\sa<=1000000/\-1000000<=(k:Int)/\(k:Int)<=1000000:=⟨aB,by omega,by omega,by omega,by omega,by omega⟩;refine⟨lK,trivial,hs,by and_intros<;>first|rfl|trivial,⟨lK,trivial,hs,by and_intros<;>first|rfl|trivial⟩,⟨lK,trivial,hs,by and_intros<;>first|rfl|trivial⟩,λc=>?_,λc=>?_⟩
  .have c:=zk c;have vU:=hb k (by omega) (Dm cs.length (sa,sf) k);have e1:gq.aget (.pair (.i .i64) (.i .i64)) (P k) ((Int.tmod (sa+(k:Int)) cs.length),(sf+(if (k:Int)=1 then 0 else 1))) (0:Int)=W2 (P k) (Dm cs.length (sa,sf) k):=rfl;refine⟨?_,λn4=>⟨rfl,?_,?_⟩⟩
   .rw[e1];simp only[Qd];omega
   .simp only[Qd];omega
   .refine⟨(P (k+1),(k:Int)+1),?_,cu _ rfl⟩;have e2:P (k+1)=ML (ML (P k) (Dm cs.length (sa,sf) k) (W2 (P k) (Dm cs.length (sa,sf) k))) (Dm cs.length (sa,sf) k) (W2 (P k) (Dm cs.length (sa,sf) k)+wy):=by
     rw[En,hP k g];unfold Q09;rw[z6 (show (Dm cs.length (sa,sf) k).2<=mo from c)]
    refine⟨by and_intros<;>first|rfl|trivial,?_⟩;refine⟨e2.symm,?_⟩;and_intros<;>first|rfl|trivial
  .have c:=zj c;refine⟨by simp only[Qd];omega,(P (k+1),(k:Int)+1),⟨by and_intros<;>first|rfl|trivial,?_⟩,cu _ rfl⟩;refine⟨?_,by and_intros<;>first|rfl|trivial⟩;show P k=P (k+1);rw[hP k g];unfold Q09;rw[z0 (show ¬ (Dm cs.length (sa,sf) k).2<=mo from c)]
 .have g:k=3:=by have:=zj g;omega
  subst g;and_intros<;>first|rfl|trivial
theorem LB:∀ {l m:List Nat},l.Nodup->(∀ x∈l,x∈m)->l.length<=m.length
 |[],_,_,_=>Nat.zero_le _
 |x::l,m,hn,hs=>by rw[xB] at hn;have hx:x∈m:=hs x (zp ..);have:=LB (l:=l) (m:=m.erase x) hn.2 λy hy=>(List.mem_erase_of_ne (by rintro rfl;exact hn.1 hy)).2 (hs y (zo _ hy));rw[List.length_erase_of_mem hx] at this;have:=List.length_pos_of_mem hx;rw[zG];omega
theorem LR {dn:List Nat}{r:Nat}(h:dn.Nodup) (hr:r∉dn):(dn++[r]).Nodup :=
 List.nodup_append.2 ⟨h,List.pairwise_singleton _ _,λa ha b hb e=>by rw[zI] at hb;subst hb;subst e;exact hr ha⟩
theorem LoopP.rng {X:Type}{F:X×List Nat->(X×List Nat->Prop)->Prop}(n:Nat) (J:X->List Nat->Prop) {x0:X}(h0:J x0 [])
  (hr:∀ (x:X) (dn:List Nat),dn.Nodup->(∀ r∈dn,r<n)->J x dn->∀ q:X×List Nat->Prop,(∀ (r:Nat) (x':X),r<n->r∉dn->J x' (dn++[r])->q (x',dn++[r]))->F (x,dn) q):LoopP F (x0,[]):=by
 refine⟨λd=>d.2.Nodup/\(∀ r∈d.2,r<n)/\J d.1 d.2,λd=>n-d.2.length,⟨List.nodup_nil,(λr hr=>by cases hr),h0⟩,λ⟨x,dn⟩ ⟨h1,h2,h3⟩=>?_⟩;have h1:dn.Nodup:=h1;refine hr x dn h1 h2 h3 _ λr x' ai iS hJ=>?_;have hn:=LR h1 iS;have hb:∀ y∈dn++[r],y<n:=λy hy=>by
  rcases x6.1 hy with h|h
  .exact h2 y h
  .rw[zI] at h;omega
 refine⟨⟨hn,hb,hJ⟩,?_⟩;have:=LB hn (m:=List.range n) λy hy=>zW.2 (hb y hy);rw[wB,zL,xF] at this;have e:(dn++[r]).length=dn.length+1:=by simp
 show n-(dn++[r]).length<n-dn.length;omega
theorem Z5k {b e:Nat}(hb:b<=121) (he:e<=6):b ^ e<=3138428376721:=by
 have h1:b ^ e<=121 ^ e:=Nat.pow_le_pow_left hb e;have h2:121 ^ e<=121 ^ 6:=Nat.pow_le_pow_right (by omega) he;have h3:121 ^ 6=3138428376721:=by decide
 omega
theorem Z1d {n mo:Nat}(wv:Nat->Int->Bool) (hn:0<n) (gv:mo<=6) {k:Nat}(hk:k<=60) (q:Int×Int):0<=wyK n mo wv k q/\wyK n mo wv k q<=4000000000000000:=by
 refine⟨HN n mo wv k q,?_⟩;by_cases hz:wyK n mo wv k q=0
 .omega
 .have hg:=Yq.1 (Q5b n mo wv hn k q hz);have h1:=IE (n:=n) (mo:=mo) wv hn k q hg.2.1;have h2:=Z5k (b:=2*k+1) (e:=q.2.toNat) (by omega) (by omega);omega
def Q8k (k:Nat) (q:Int×Int):Int:=if 0<=q.1/\q.1<(k:Int)/\q.2=0 then 1 else 0
theorem Q5d {n mo:Nat}{m:List ((Int×Int)×Int)}{k:Nat}(h:MapW n mo m (Q8k k)) (hk:k<n):MapW n mo (ML m ((k:Int),0) 1) (Q8k (k+1)):=by
 have hg:W2 m ((k:Int),0)=0:=by rw[h.get];unfold Q8k;rw[z0 (by dsimp only;omega)]
 have:=h.add (λq=>by unfold Q8k;split<;>omega) (k:=((k:Int),0)) (w:=1) (by omega) (by rw[Yq];dsimp only;omega);rw[hg] at this;refine this.congr λq=>?_;unfold Q8k;by_cases e:q=((k:Int),0)
 .subst e;rw[z0 (by dsimp only;omega),z6 rfl,z6 (by dsimp only;omega)];rfl
 .rw[z0 e];have:¬ (q.1=k/\q.2=0):=λh=>e (Prod.ext h.1 h.2);by_cases c:0<=q.1/\q.1<(k:Int)/\q.2=0
  .rw[z6 c,z6 (by omega)];rfl
  .rw[z0 c,z0 (by omega)];rfl
def Q8l (n mo:Nat) (wv:Int->Bool) (m:List ((Int×Int)×Int)) (dn:List Nat) (q:Int×Int):Int:=(dn.map λr=>EJ n mo wv (m.getD r ((0,0),0)).1 (m.getD r ((0,0),0)).2 q).sum
theorem AR (n mo:Nat) (wv:Int->Bool) (m:List ((Int×Int)×Int)) (dn:List Nat) (r:Nat) (q:Int×Int):Q8l n mo wv m (dn++[r]) q=Q8l n mo wv m dn q+EJ n mo wv (m.getD r ((0,0),0)).1 (m.getD r ((0,0),0)).2 q:=by unfold Q8l;rw[C_];simp
theorem Q77 {n mo:Nat}{wv:Nat->Int->Bool}{k:Nat}{m:List ((Int×Int)×Int)}(h:MapW n mo m (wyK n mo wv k)) {dn:List Nat}(hn:dn.Nodup) (ai:∀ r∈dn,r<m.length) (q:Int×Int) :
  0<=Q8l n mo (wv k) m dn q/\Q8l n mo (wv k) m dn q<=wyK n mo wv (k+1) q/\((∀ r,r<m.length->r∈dn)->Q8l n mo (wv k) m dn q=wyK n mo wv (k+1) q):=by
 have bp:∀ x∈m,0<=EJ n mo (wv k) x.1 x.2 q:=λx hx=>RT (Int.le_of_lt (h.2.1 x hx).2.1);have h1:=ID (d:=(((0,0),0):(Int×Int)×Int)) (F:=λx=>EJ n mo (wv k) x.1 x.2 q) hn ai bp;have h2:=RS h (λp w=>EJ n mo (wv k) p w q) λp=>by
  unfold EJ HW;split
  .split<;>split<;>split<;>rfl
  .rfl
 have e:wyK n mo wv (k+1) q=((JM n mo).map λp=>EJ n mo (wv k) p (wyK n mo wv k p) q).sum:=rfl;rw[e,<-h2];refine⟨U0 λr hr=>?_,h1.1,h1.2⟩;have:=ai r hr;rw[Q9 this];exact bp _ (zl this)
def WL:AL ((Int×(List (Int×Int×Bool))×Int×List Int)×Int):=(.cons (.agg (.cons (.k (.i .i64)) (.cons (.k (.list (.pair (.i .i64) (.pair (.i .i64) .bo)))) (.cons (.k (.i .i64)) (.one (.k (.list (.i .i64)))))))) (.one (.k (.i .i64))))
def UH (a:(Int×(List (Int×Int×Bool))×Int×List Int)×Int):Prop:=a.1.2.2.1=a.1.1/\Qu a.1.1 a.1.2.1=0/\a.1.2.2.2.length<=60/\(∀ r∈a.1.2.2.2,-1<=r/\r<2 ^ a.1.1.toNat)/\0<=a.2/\a.2<=6
def N7 (a:(Int×(List (Int×Int×Bool))×Int×List Int)×Int):List SV:=[]
def Wg (a:(Int×(List (Int×Int×Bool))×Int×List Int)×Int) (m:List ((Int×Int)×Int)):Prop:=MapW a.1.2.1.length a.2.toNat m (wyK a.1.2.1.length a.2.toNat (λk=>wvB a.1.1 a.1.2.1 a.1.2.2.2 k) a.1.2.2.2.length)
def Xc:XSp:=Q5e Lv (.pair (.i .i64) (.i .i64)) (.i .i64) (Q9n WL UH N7 Wg)
abbrev Ws (hk:Int) (cs:List (Int×Int×Bool)) (f:Int) (cl:List Int):=(hk=hk/\cs=cs/\f=f/\cl=cl/\(([]:List SV)=[]))
def ZR (hk:Int) (cs:List (Int×Int×Bool)) (f:Int) (cl:List Int) (mo:Int):Prop :=
 ∃ (e3:Unit) (d30:(List ((Int×Int)×Int))×Int),((mo=mo/\True/\True/\(lI cs)=(lI cs)/\(0:Int)=d30.2/\True)/\((Ws hk cs f cl)/\(([]:List ((Int×Int)×Int))=d30.1)/\True)) /\
 LoopP (λ(d3:(List ((Int×Int)×Int))×Int) (q3:((List ((Int×Int)×Int))×Int)->Prop) =>
  ((decide (d3.2<(lI cs)))=true ->
   (I64 (d3.2+(1:Int)))/\(∃ d4:(List ((Int×Int)×Int))×Int,((mo=mo/\True/\True/\(lI cs)=(lI cs)/\(d3.2+(1:Int))=d4.2/\True)/\((Ws hk cs f cl)/\((D_ (.pair (.i .i64) (.i .i64)) d3.1 (d3.2,(0:Int)) (1:Int))=d4.1)/\True))/\q3 d4)) /\
  ((decide (d3.2<(lI cs)))=false ->
   ∃ (e7:Unit) (d70:(List ((Int×Int)×Int))×Int),((mo=mo/\True/\True/\(lI cl)=(lI cl)/\(0:Int)=d70.2/\True)/\((Ws hk cs f cl)/\(d3.1=d70.1)/\True)) /\
   LoopP (λ(d7:(List ((Int×Int)×Int))×Int) (q7:((List ((Int×Int)×Int))×Int)->Prop) =>
    ((decide (d7.2<(lI cl)))=true ->
     ∃ (aS:Int×Int×(List ((Int×Int)×Int))) (d100:(List ((Int×Int)×Int))×(List Nat)),((mo=mo/\True/\d7.2=aS.1/\True/\(lI cl)=(lI cl)/\d7.2=aS.2.1/\True/\True)/\((Ws hk cs f cl)/\(([]:List ((Int×Int)×Int))=d100.1)/\(d7.1=aS.2.2/\([]:List Nat)=d100.2)/\True)) /\
     LoopP (λ(d10:(List ((Int×Int)×Int))×(List Nat)) (mj:((List ((Int×Int)×Int))×(List Nat))->Prop) =>
      ((∀ r:Nat,r<(List.length aS.2.2)->r∈d10.2) ->
       (false=true ->
        (d10.2≠[])/\(1<=f/\f<=24/\0<=aS.1/\aS.1<cl.length/\0<=((List.getD aS.2.2 (List.getLastD d10.2 0) ((0,0),0)).1.1)/\((List.getD aS.2.2 (List.getLastD d10.2 0) ((0,0),0)).1.1)<cs.length/\∀ c∈cs,Zb f c=true)/\((wvB f cs cl aS.1.toNat ((List.getD aS.2.2 (List.getLastD d10.2 0) ((0,0),0)).1.1))=true ->
         (0<=((List.getD aS.2.2 (List.getLastD d10.2 0) ((0,0),0)).1.1)/\((List.getD aS.2.2 (List.getLastD d10.2 0) ((0,0),0)).1.1)<cs.length/\cs.length<=60/\0<=((List.getD aS.2.2 (List.getLastD d10.2 0) ((0,0),0)).1.2)/\((List.getD aS.2.2 (List.getLastD d10.2 0) ((0,0),0)).1.2)<=6/\0<=mo/\mo<=6/\0<=((List.getD aS.2.2 (List.getLastD d10.2 0) ((0,0),0)).2)/\((List.getD aS.2.2 (List.getLastD d10.2 0) ((0,0),0)).2)<=4000000000000000/\∀ q,0<=W2 d10.1 q/\W2 d10.1 q<=4000000000000000)/\(∀ lJ:List ((Int×Int)×Int),(lJ=Q9c cs.length mo (((List.getD aS.2.2 (List.getLastD d10.2 0) ((0,0),0)).1.1),((List.getD aS.2.2 (List.getLastD d10.2 0) ((0,0),0)).1.2)) ((List.getD aS.2.2 (List.getLastD d10.2 0) ((0,0),0)).2) d10.1)->(∃ d13:(List ((Int×Int)×Int))×(List Nat),((mo=mo/\True/\aS.1=aS.1/\True/\(lI cl)=(lI cl)/\aS.2.1=aS.2.1/\True/\True)/\((Ws hk cs f cl)/\(lJ=d13.1)/\(aS.2.2=aS.2.2/\d10.2=d13.2)/\True))/\mj d13))) /\
        ((wvB f cs cl aS.1.toNat ((List.getD aS.2.2 (List.getLastD d10.2 0) ((0,0),0)).1.1))=false ->
         (∃ d14:(List ((Int×Int)×Int))×(List Nat),((mo=mo/\True/\aS.1=aS.1/\True/\(lI cl)=(lI cl)/\aS.2.1=aS.2.1/\True/\True)/\((Ws hk cs f cl)/\(d10.1=d14.1)/\(aS.2.2=aS.2.2/\d10.2=d14.2)/\True))/\mj d14))) /\
       (false=false ->
        (I64 (aS.2.1+(1:Int)))/\(∃ d15:(List ((Int×Int)×Int))×Int,((mo=mo/\True/\True/\(lI cl)=(lI cl)/\(aS.2.1+(1:Int))=d15.2/\True)/\((Ws hk cs f cl)/\(d10.1=d15.1)/\True))/\q7 d15))) /\
      (∀ eM:Nat,eM<(List.length aS.2.2)->eM∉d10.2 ->
       (true=true ->
        ((d10.2++[eM])≠[])/\(1<=f/\f<=24/\0<=aS.1/\aS.1<cl.length/\0<=((List.getD aS.2.2 (List.getLastD (d10.2++[eM]) 0) ((0,0),0)).1.1)/\((List.getD aS.2.2 (List.getLastD (d10.2++[eM]) 0) ((0,0),0)).1.1)<cs.length/\∀ c∈cs,Zb f c=true)/\((wvB f cs cl aS.1.toNat ((List.getD aS.2.2 (List.getLastD (d10.2++[eM]) 0) ((0,0),0)).1.1))=true ->
         (0<=((List.getD aS.2.2 (List.getLastD (d10.2++[eM]) 0) ((0,0),0)).1.1)/\((List.getD aS.2.2 (List.getLastD (d10.2++[eM]) 0) ((0,0),0)).1.1)<cs.length/\cs.length<=60/\0<=((List.getD aS.2.2 (List.getLastD (d10.2++[eM]) 0) ((0,0),0)).1.2)/\((List.getD aS.2.2 (List.getLastD (d10.2++[eM]) 0) ((0,0),0)).1.2)<=6/\0<=mo/\mo<=6/\0<=((List.getD aS.2.2 (List.getLastD (d10.2++[eM]) 0) ((0,0),0)).2)/\((List.getD aS.2.2 (List.getLastD (d10.2++[eM]) 0) ((0,0),0)).2)<=4000000000000000/\∀ q,0<=W2 d10.1 q/\W2 d10.1 q<=4000000000000000)/\(∀ si:List ((Int×Int)×Int),(si=Q9c cs.length mo (((List.getD aS.2.2 (List.getLastD (d10.2++[eM]) 0) ((0,0),0)).1.1),((List.getD aS.2.2 (List.getLastD (d10.2++[eM]) 0) ((0,0),0)).1.2)) ((List.getD aS.2.2 (List.getLastD (d10.2++[eM]) 0) ((0,0),0)).2) d10.1)->(∃ d17:(List ((Int×Int)×Int))×(List Nat),((mo=mo/\True/\aS.1=aS.1/\True/\(lI cl)=(lI cl)/\aS.2.1=aS.2.1/\True/\True)/\((Ws hk cs f cl)/\(si=d17.1)/\(aS.2.2=aS.2.2/\(d10.2++[eM])=d17.2)/\True))/\mj d17))) /\
        ((wvB f cs cl aS.1.toNat ((List.getD aS.2.2 (List.getLastD (d10.2++[eM]) 0) ((0,0),0)).1.1))=false ->
         (∃ d18:(List ((Int×Int)×Int))×(List Nat),((mo=mo/\True/\aS.1=aS.1/\True/\(lI cl)=(lI cl)/\aS.2.1=aS.2.1/\True/\True)/\((Ws hk cs f cl)/\(d10.1=d18.1)/\(aS.2.2=aS.2.2/\(d10.2++[eM])=d18.2)/\True))/\mj d18))) /\
       (true=false ->
        (I64 (aS.2.1+(1:Int)))/\(∃ d19:(List ((Int×Int)×Int))×Int,((mo=mo/\True/\True/\(lI cl)=(lI cl)/\(aS.2.1+(1:Int))=d19.2/\True)/\((Ws hk cs f cl)/\(d10.1=d19.1)/\True))/\q7 d19)))) d100) /\
    ((decide (d7.2<(lI cl)))=false ->
     (MapW cs.length mo.toNat d7.1 (wyK cs.length mo.toNat (λk=>wvB hk cs cl k) cl.length)))) d70)) d30
def W_:Cx:=⟨[(1000011,(.pair (.pair (.i .i64) (.i .i64)) (.i .i64))),(1000030,(.pair (.pair (.i .i64) (.i .i64)) (.i .i64)))],[(75,JE)],52,[],0,[(76,Xl)],[],[],[],false,[],[],[],[]⟩
def WV (hk:Int) (cs:List (Int×Int×Bool)) (f:Int) (cl:List Int) (mo:Int):List (Nat×LoopAnn):=[(0,⟨Unit,(List ((Int×Int)×Int))×Int,[1,2,5,16,17],λe x=>[.val (.i .i64) mo,.box 2 0,.map 11,.val (.i .i64) (((List.length cs):Nat):Int),.val (.i .i64) x.2],λe x=>[(2,.slot 2,.cells [.val (.i .i64) hk,.val (.list (.pair (.i .i64) (.pair (.i .i64) .bo))) cs,.val (.i .i64) f,.val (.list (.i .i64)) cl] (some 116)),(11,.slot 5,.map (.pair (.i .i64) (.i .i64)) (.i .i64) x.1)]⟩),
 (2,⟨Unit,(List ((Int×Int)×Int))×Int,[1,2,5,26,27],λe x=>[.val (.i .i64) mo,.box 2 0,.map 11,.val (.i .i64) (((List.length cl):Nat):Int),.val (.i .i64) x.2],λe x=>[(2,.slot 2,.cells [.val (.i .i64) hk,.val (.list (.pair (.i .i64) (.pair (.i .i64) .bo))) cs,.val (.i .i64) f,.val (.list (.i .i64)) cl] (some 116)),(11,.slot 5,.map (.pair (.i .i64) (.i .i64)) (.i .i64) x.1)]⟩),
 (4,⟨Int×Int×(List ((Int×Int)×Int)),(List ((Int×Int)×Int))×(List Nat),[1,2,7,8,26,27,32],λe x=>[.val (.i .i64) mo,.box 2 0,.val (.i .i64) e.1,.map 30,.val (.i .i64) (((List.length cl):Nat):Int),.val (.i .i64) e.2.1,.box 32 0],λe x=>[(2,.slot 2,.cells [.val (.i .i64) hk,.val (.list (.pair (.i .i64) (.pair (.i .i64) .bo))) cs,.val (.i .i64) f,.val (.list (.i .i64)) cl] (some 116)),(30,.slot 8,.map (.pair (.i .i64) (.i .i64)) (.i .i64) x.1),(32,.slot 32,.iter (.pair (.i .i64) (.i .i64)) (.i .i64) e.2.2 x.2)]⟩)]
theorem NA (a:(Int×(List (Int×Int×Bool))×Int×List Int)×Int):gwp W_ (WV a.1.1 a.1.2.1 a.1.2.2.1 a.1.2.2.2 a.2) c60 0 (Q96 [.tmp 4] (.pair (.i .i64) (.i .i64)) (.i .i64) (Wg a)) (YV 52 (AL.can WL a))=ZR a.1.1 a.1.2.1 a.1.2.2.1 a.1.2.2.2 a.2:=by kernel_rfl
abbrev NS:Prop:=XOk Tryd.prog 60 Xc
theorem NK (h:∀ (hk:Int) (cs:List (Int×Int×Bool)) (f:Int) (cl:List Int) (mo:Int),(f=hk/\Qu hk cs=0/\cl.length<=60/\(∀ r∈cl,-1<=r/\r<2 ^ hk.toNat)/\0<=mo/\mo<=6)->ZR hk cs f cl mo):XOk Tryd.prog 60 Xc :=
 Q5w Z1p mixed M4 rfl (C:=W_) ⟨(.cons Ue .nil),(XsOk.cons UU XsOk.nil),ItsOk.nil,YlOk.nil,IysOk.nil,XfOk.nil⟩ (L:=λ(a:(Int×(List (Int×Int×Bool))×Int×List Int)×Int)=>WV a.1.1 a.1.2.1 a.1.2.2.1 a.1.2.2.2 a.2) (V:=λ(a:(Int×(List (Int×Int×Bool))×Int×List Int)×Int)=>ZR a.1.1 a.1.2.1 a.1.2.2.1 a.1.2.2.2 a.2) NA λa hp=>h a.1.1 a.1.2.1 a.1.2.2.1 a.1.2.2.2 a.2 hp
theorem N6:NS:=NK λhk cs f cl mo h=>by
 obtain⟨h1,h2,h3,h4,h5,h6⟩:=h;subst h1;obtain⟨hf,cf,aB,ak⟩:=TJ h2;have bp:=xh.2 aB;unfold ZR;(try delta Ws);(try delta lI gD sT I64 J_ pj8 pj4);refine⟨(),([],0),(by and_intros<;>first|rfl|trivial),?_⟩;refine LoopP.count2 cs.length (λk m=>MapW cs.length mo.toNat m (Q8k k)) ((MapW.nil _ _).congr λq=>by unfold Q8k;rw[z0 (by omega)]) ?_;intro k m hk hm q hq;dsimp only;refine⟨λg=>?_,λg=>?_⟩
 .have g:k<cs.length:=by have:=zk g;omega
  refine⟨by simp only[Qd];omega,(ML m ((k:Int),0) 1,(k:Int)+1),(by and_intros<;>first|rfl|trivial),hq _ g (Q5d hm g)⟩
 .have g:k=cs.length:=by have:=zj g;omega
  subst g;refine⟨(),(m,0),(by and_intros<;>first|rfl|trivial),?_⟩;refine LoopP.count2 cl.length (λk m=>MapW cs.length mo.toNat m (wyK cs.length mo.toNat (λk=>wvB f cs cl k) k)) (hm.congr λq=>rfl) ?_;clear hm hq;intro k m hk hm q hq;dsimp only;refine⟨λg=>?_,λg=>?_⟩
  .have g:k<cl.length:=by have:=zk g;omega
   refine⟨((k:Int),(k:Int),m),([],[]),(by and_intros<;>first|rfl|trivial),?_⟩;refine LoopP.rng m.length (λx dn=>MapW cs.length mo.toNat x (Q8l cs.length mo.toNat (wvB f cs cl k) m dn)) ((MapW.nil _ _).congr λq=>rfl) ?_;intro x dn hn ai hx q' cu;dsimp only;refine⟨λhall=>⟨(λc=>by cases c),λ_=>⟨by simp only[Qd];omega,(x,(k:Int)+1),(by and_intros<;>first|rfl|trivial),hq _ g ?_⟩⟩,λr hr iS=>⟨λ_=>?_,(λc=>by cases c)⟩⟩
   .exact hx.congr λq=>(Q77 (wv:=λk=>wvB f cs cl k) hm hn ai q).2.2 hall
   .have iu:List.getLastD (dn++[r]) 0=r:=by simp
    have aN:m[r]∈m:=zl hr;have he:=hm.2.1 _ aN;have lL:=Yq.1 he.2.2;have hW:=Z1d (n:=cs.length) (mo:=mo.toNat) (λk=>wvB f cs cl k) bp (by omega) (k:=k) (by omega) m[r].1;have om:=λq=>Q77 (wv:=λk=>wvB f cs cl k) hm hn ai q;have uN:=λq=>Z1d (n:=cs.length) (mo:=mo.toNat) (λk=>wvB f cs cl k) bp (by omega) (k:=k+1) (by omega) q;simp only[iu,Q9 hr,zf];refine⟨by simp,⟨hf.1,hf.2,by omega,by omega,lL.1.1,lL.1.2,ak⟩,λc=>⟨⟨lL.1.1,lL.1.2,cf,lL.2.1,by omega,h5,h6,by omega,by omega,λq=>?_⟩,λm' qK=>⟨(m',dn++[r]),(by and_intros<;>first|rfl|trivial),cu r m' hr iS ?_⟩⟩,λc=>⟨(x,dn++[r]),(by and_intros<;>first|rfl|trivial),cu r x hr iS ?_⟩⟩
    .rw[hx.get q];have:=om q;have:=uN q;omega
    .subst qK;have gv:((mo.toNat:Nat):Int)=mo:=by omega
     have:=Z09 hx (λq=>(om q).1) (p:=m[r].1) (w:=m[r].2) he.2.1 bp ⟨lL.1.1,lL.2.1⟩;rw[gv] at this;refine MapW.congr this λq=>?_;rw[AR,Q9 hr];unfold EJ;rw[z6 c,gv]
    .refine hx.congr λq=>?_;rw[AR,Q9 hr];unfold EJ;rw[z0 (by rw[c];decide)];omega
  .have g:k=cl.length:=by have:=zj g;omega
   subst g;exact hm
def AN (hk:Int) (cs:List Xo) (cl:List Int) (fa:Int):Int:=((JM cs.length fa.toNat).map (wyK cs.length fa.toNat (λk=>wvB hk cs cl k) cl.length)).sum
theorem Q4p (n mo:Nat):(JM n mo).length=n*(mo+1):=by
 unfold JM;rw[List.length_flatMap];have:(λ(a:Nat)=>((List.range (mo+1)).map λ(f:Nat)=>(((a:Int),(f:Int)):Int×Int)).length)=λ_=>mo+1:=by funext a;simp
 rw[this];induction n with
 |zero=>simp
 |succ n ih=>rw[List.range_succ,xH,List.sum_append,ih];simp[Nat.succ_mul]
theorem Q1y {α:Type}{f:α->Int}{B:Int}:∀ {l:List α},(∀ x∈l,f x<=B)->(l.map f).sum<=l.length*B
 |[],_=>by simp
 |x::l,h=>by
  have h1:=h x (zp ..);have h2:=Q1y (l:=l) λy hy=>h y (zo _ hy);rw[zJ,xJ,zG];have:((l.length+1:Nat):Int)*B=l.length*B+B:=by rw[Int.natCast_add,Int.add_mul];simp
  omega
theorem Z20 {n mo:Nat}(wv:Nat->Int->Bool) (hn:0<n) (dz:n<=60) (gv:mo<=6) {k:Nat}(hk:k<=60):((JM n mo).map (wyK n mo wv k)).sum<=420*3138428376721:=by
 have h1:=Q1y (l:=JM n mo) (f:=wyK n mo wv k) (B:=3138428376721) λq hq=>by have hg:=Yq.1 hq;have h1:=IE (n:=n) (mo:=mo) wv hn k q hg.2.1;have h2:=Z5k (b:=2*k+1) (e:=q.2.toNat) (by omega) (by omega);omega
 rw[Q4p] at h1;have:n*(mo+1)<=60*7:=Nat.mul_le_mul dz (by omega);have:((n*(mo+1):Nat):Int)*3138428376721<=420*3138428376721:=Int.mul_le_mul_of_nonneg_right (by omega) (by omega);omega
def Ms:AL ((Int×List (Int×Int×Bool))×List Int×Int):=(.cons (.agg (.cons (.k (.i .i64)) (.one (.k (.list (.pair (.i .i64) (.pair (.i .i64) .bo))))))) (.cons (.k (.list (.i .i64))) (.one (.k (.i .i64)))))
def TO (a:(Int×List (Int×Int×Bool))×List Int×Int):Prop:=Qu a.1.1 a.1.2=0/\a.2.1.length<=60/\(∀ r∈a.2.1,-1<=r/\r<2 ^ a.1.1.toNat)/\0<=a.2.2/\a.2.2<=6
def Mb (a:(Int×List (Int×Int×Bool))×List Int×Int):List SV:=[.val (.i .i64) (0:Int)]
def Nl (a:(Int×List (Int×Int×Bool))×List Int×Int) (m:List ((Int×Int)×Int)):Prop:=MapW a.1.2.length a.2.2.toNat m (wyK a.1.2.length a.2.2.toNat (λk=>wvB a.1.1 a.1.2 a.2.1 k) a.2.1.length)
def UO:XSp:=Q4e Lv (.pair (.i .i64) (.i .i64)) (.i .i64) (Q9n Ms TO Mb Nl)
def Yz (hk:Int) (cs:List (Int×Int×Bool)) (cl:List Int) (fa:Int):Prop :=
 ∀ w1:List Value,∀ w2:List Value,(True)/\((!(inI hk 1 24))=true ->
  w2=w2/\w1=w1/\False) /\
 ((!(inI hk 1 24))=false ->
  ((decide ((lI cs) > (60:Int)))=true ->
   w2=w2/\w1=w1/\False) /\
  ((decide ((lI cs) > (60:Int)))=false ->
   (1<=hk/\hk<=24/\cs.length<=1000000)/\((!(!cs.isEmpty&&!(cs.any λc=>!Zb hk c)))=true ->
    w2=w2/\w1=w1/\False) /\
   ((!(!cs.isEmpty&&!(cs.any λc=>!Zb hk c)))=false ->
    w2=w2/\((decide ((lI cl) > (60:Int)))=true ->
     w1=w1/\False) /\
    ((decide ((lI cl) > (60:Int)))=false ->
     (cl.length<=1000000/\∀ x∈cl,(λ(x1:Int)=>1<=hk/\hk<=24) x)/\((cl.any (λ(x1:Int)=>(decide (x1≠-1)&&!inI x1 0 (2 ^ hk.toNat-1))))=true ->
      w1=w1/\False) /\
     ((cl.any (λ(x1:Int)=>(decide (x1≠-1)&&!inI x1 0 (2 ^ hk.toNat-1))))=false ->
      w1=w1/\([fa].length<=1000000)/\((!(!([fa].any λn=>decide (n<(0:Int))||decide ((6:Int)<n))))=true ->
       False) /\
      ((!(!([fa].any λn=>decide (n<(0:Int))||decide ((6:Int)<n))))=false ->
       (hk=hk/\Qu hk cs=0/\cl.length<=60/\(∀ r∈cl,-1<=r/\r<2 ^ hk.toNat)/\0<=fa/\fa<=6)/\(∀ m3:List ((Int×Int)×Int),(MapW cs.length fa.toNat m3 (wyK cs.length fa.toNat (λk=>wvB hk cs cl k) cl.length))->(((0:Int)=(0:Int)/\(([]:List SV)=[]))/\(MapW cs.length fa.toNat m3 (wyK cs.length fa.toNat (λk=>wvB hk cs cl k) cl.length))))))))))
def Jh:Cx:=⟨[],[(20,Qv),(54,QD),(55,Qx),(74,Xn)],33,[3000017],0,[(34,YE)],[],[],[],false,[],[],[17],[]⟩
def Jj:List (Nat×LoopAnn):=[]
def GQ:Cx:=⟨[(3,(.i .i64))],[(35,Ja)],28,[3000016],0,[(59,Q4c Jh (λ_=>Jj) c59 [.cell 4 true 4,.tmp 5] 33),(60,Xc)],[],[],[],false,[],[],[16],[]⟩
def D9 (hk:Int) (cs:List (Int×Int×Bool)) (cl:List Int) (fa:Int):List (Nat×LoopAnn):=[]
theorem SQ (a:(Int×List (Int×Int×Bool))×List Int×Int):gwp GQ (D9 a.1.1 a.1.2 a.2.1 a.2.2) c41 0 (Q8r [.tmp 6,.tmp 7] (.pair (.i .i64) (.i .i64)) (.i .i64) (Mb a) (Nl a)) (YV 28 (AL.can Ms a))=Yz a.1.1 a.1.2 a.2.1 a.2.2:=by kernel_rfl
abbrev S_:Prop:=XOk Tryd.prog 41 UO
theorem SJ (h:∀ (hk:Int) (cs:List (Int×Int×Bool)) (cl:List Int) (fa:Int),(Qu hk cs=0/\cl.length<=60/\(∀ r∈cl,-1<=r/\r<2 ^ hk.toNat)/\0<=fa/\fa<=6)->Yz hk cs cl fa):XOk Tryd.prog 41 UO :=
 Q6b Q9v mixed M4 rfl (C:=GQ) ⟨(.cons Xk .nil),(XsOk.cons (US Z2p mixed (C:=Jh) ⟨(.cons QQ (.cons Za (.cons Zn (.cons Nx .nil)))),(XsOk.cons YB XsOk.nil),ItsOk.nil,YlOk.nil,IysOk.nil,XfOk.nil⟩ (λ_=>Jj)) (XsOk.cons N6 XsOk.nil)),ItsOk.nil,YlOk.nil,IysOk.nil,XfOk.nil⟩ (L:=λ(a:(Int×List (Int×Int×Bool))×List Int×Int)=>D9 a.1.1 a.1.2 a.2.1 a.2.2) (V:=λ(a:(Int×List (Int×Int×Bool))×List Int×Int)=>Yz a.1.1 a.1.2 a.2.1 a.2.2) SQ λa hp=>h a.1.1 a.1.2 a.2.1 a.2.2 hp
theorem Rr:S_:=SJ λhk cs cl fa h=>by
 obtain⟨h1,h2,h3,h4,h5⟩:=h;obtain⟨hf,cf,aB,ak⟩:=TJ h1;unfold Yz;(try delta lI gD sT I64 J_ pj8 pj4);have c1:(!inI hk 1 24)=false:=by simp only[inI,z_,z8,zr];omega
 have c2:(!(!cs.isEmpty&&!(cs.any λc=>!Zb hk c)))=false:=by
  have e1:cs.isEmpty=false:=by cases cs with|nil=>exact(aB rfl).elim|cons _ _=>rfl
  have e2:(cs.any λc=>!Zb hk c)=false:=xM.2 λc hc=>by rw[ak c hc];decide
  rw[e1,e2];rfl
 have c3:(cl.any λx=>(decide (x≠-1)&&!inI x 0 (2 ^ hk.toNat-1)))=false:=xM.2 λx hx=>by
  have:=h3 x hx;by_cases e:x=-1
  .simp[e]
  .have e2:inI x 0 (2 ^ hk.toNat-1)=true:=by
    simp only[inI,z8,zr];omega
   rw[e2];simp
 have c4:(!(!([fa].any λn=>decide (n<(0:Int))||decide ((6:Int)<n))))=false:=by simp only[List.any_cons,List.any_nil,xZ,Bool.not_not,Bool.or_eq_false_iff,xd];omega
 have d1:decide ((((List.length cs):Nat):Int) > (60:Int))=false:=zU (by omega);have d2:decide ((((List.length cl):Nat):Int) > (60:Int))=false:=zU (by omega);intro w1 w2;rw[c1,c2,c3,c4,d1,d2];refine⟨trivial,(λc=>by cases c),λ_=>⟨(λc=>by cases c),λ_=>⟨⟨hf.1,hf.2,by omega⟩,(λc=>by cases c),λ_=>⟨rfl,(λc=>by cases c),λ_=>⟨⟨by omega,λ_ _=>hf⟩,(λc=>by cases c),λ_=>⟨rfl,by simp,(λc=>by cases c),λ_=>⟨⟨rfl,h1,h2,h3,h4,h5⟩,λm hm=>⟨(by and_intros<;>first|rfl|trivial|simp),hm⟩⟩⟩⟩⟩⟩⟩⟩
def Bx:AL ((Int×List (Int×Int×Bool))×List Int×Int):=(.cons (.agg (.cons (.k (.i .i64)) (.one (.k (.list (.pair (.i .i64) (.pair (.i .i64) .bo))))))) (.cons (.k (.list (.i .i64))) (.one (.k (.i .i64)))))
def SS (d:(Int×List (Int×Int×Bool))×List Int×Int):Prop:=Qu d.1.1 d.1.2=0/\d.2.1.length<=60/\(∀ r∈d.2.1,-1<=r/\r<2 ^ d.1.1.toNat)/\0<=d.2.2/\d.2.2<=6
def GK (d:(Int×List (Int×Int×Bool))×List Int×Int):SV:=.tup [.val (.i .i64) (AN d.1.1 d.1.2 d.2.1 d.2.2),.val (.i .i64) (0:Int)]
def D4 (d:(Int×List (Int×Int×Bool))×List Int×Int):List OB:=[]
def N_:CSp:=Yo Bx SS GK D4
def Kb (hk:Int) (cs:List (Int×Int×Bool)) (cl:List Int) (fa:Int):Prop :=
 (Qu hk cs=0/\cl.length<=60/\(∀ r∈cl,-1<=r/\r<2 ^ hk.toNat)/\0<=fa/\fa<=6)/\(∀ m1:List ((Int×Int)×Int),(MapW cs.length fa.toNat m1 (wyK cs.length fa.toNat (λk=>wvB hk cs cl k) cl.length))->∃ (e4:(List ((Int×Int)×Int))) (d40:Int×(List Nat)),(((0:Int)=d40.1/\(0:Int)=(0:Int)/\True/\True)/\((m1=e4/\([]:List Nat)=d40.2)/\True)) /\
 LoopP (λ(d4:Int×(List Nat)) (q4:(Int×(List Nat))->Prop) =>
  ((∀ r:Nat,r<(List.length e4)->r∈d4.2) ->
   (false=true ->
    (d4.2≠[])/\(I64 (d4.1+(List.getD e4 (List.getLastD d4.2 0) ((0,0),0)).2))/\(∃ d6:Int×(List Nat),(((d4.1+(List.getD e4 (List.getLastD d4.2 0) ((0,0),0)).2)=d6.1/\(0:Int)=(0:Int)/\True/\True)/\((e4=e4/\d4.2=d6.2)/\True))/\q4 d6)) /\
   (false=false ->
    ((d4.1=(AN hk cs cl fa)/\(0:Int)=(0:Int)/\(([]:List SV)=[]))/\(True)))) /\
  (∀ r5:Nat,r5<(List.length e4)->r5∉d4.2 ->
   (true=true ->
    ((d4.2++[r5])≠[])/\(I64 (d4.1+(List.getD e4 (List.getLastD (d4.2++[r5]) 0) ((0,0),0)).2))/\(∃ d7:Int×(List Nat),(((d4.1+(List.getD e4 (List.getLastD (d4.2++[r5]) 0) ((0,0),0)).2)=d7.1/\(0:Int)=(0:Int)/\True/\True)/\((e4=e4/\(d4.2++[r5])=d7.2)/\True))/\q4 d7)) /\
   (true=false ->
    ((d4.1=(AN hk cs cl fa)/\(0:Int)=(0:Int)/\(([]:List SV)=[]))/\(True))))) d40)
def BO:Cx:=⟨[],[],29,[],0,[(41,UO)],[],[],[],false,[],[],[],[]⟩
def CG (hk:Int) (cs:List (Int×Int×Bool)) (cl:List Int) (fa:Int):List (Nat×LoopAnn):=[(0,⟨(List ((Int×Int)×Int)),Int×(List Nat),[6,7,19],λe x=>[.val (.i .i64) x.1,.val (.i .i64) (0:Int),.box 19 0],λe x=>[(19,.slot 19,.iter (.pair (.i .i64) (.i .i64)) (.i .i64) e x.2)]⟩)]
theorem Ck (d:(Int×List (Int×Int×Bool))×List Int×Int):gwp (BO) (CG d.1.1 d.1.2 d.2.1 d.2.2) c22 0 (K9 [.tmp 6,.tmp 7] (GK d) (D4 d)) (QC 29 (AL.can Bx d))=Kb d.1.1 d.1.2 d.2.1 d.2.2:=by kernel_rfl
abbrev A8:Prop:=OkC Tryd.prog 22 N_
theorem Ay (h:∀ (hk:Int) (cs:List (Int×Int×Bool)) (cl:List Int) (fa:Int),(Qu hk cs=0/\cl.length<=60/\(∀ r∈cl,-1<=r/\r<2 ^ hk.toNat)/\0<=fa/\fa<=6)->Kb hk cs cl fa):OkC Tryd.prog 22 N_ :=
 QK Z0h mixed (C:=BO) (V:=λ(d:(Int×List (Int×Int×Bool))×List Int×Int)=>Kb d.1.1 d.1.2 d.2.1 d.2.2) ⟨.nil,(XsOk.cons Rr XsOk.nil),ItsOk.nil,YlOk.nil,IysOk.nil,XfOk.nil⟩ (Ck) λd hp=>h d.1.1 d.1.2 d.2.1 d.2.2 hp
theorem Cu:A8:=Ay λhk cs cl fa h=>by
 obtain⟨h1,h2,h3,h4,h5⟩:=id h;obtain⟨hf,cf,aB,ak⟩:=TJ h1;have bp:=xh.2 aB;unfold Kb;(try delta lI gD sT I64 J_ pj8 pj4);refine⟨h,λm hm=>⟨m,(0,[]),(by and_intros<;>first|rfl|trivial),?_⟩⟩;refine LoopP.rng m.length (λs dn=>s=(dn.map λr=>(m.getD r ((0,0),0)).2).sum) rfl ?_;intro s dn hn ai hs q hq;dsimp only;have hp:∀ x∈m,0<=(λx:(Int×Int)×Int=>x.2) x:=λx hx=>Int.le_of_lt (hm.2.1 x hx).2.1;have qP:=RS hm (λ_ w=>w) λ_=>rfl;have hb:=Z20 (n:=cs.length) (mo:=fa.toNat) (λk=>wvB hk cs cl k) bp (by omega) (by omega) (k:=cl.length) (by omega);have hV:(m.map λx=>x.2).sum=AN hk cs cl fa:=qP;have vV:AN hk cs cl fa<=420*3138428376721:=hb;have dI:=λ(dn:List Nat) (hn:dn.Nodup) (ai:∀ r∈dn,r<m.length)=>ID (d:=(((0,0),0):(Int×Int)×Int)) (F:=λx=>x.2) hn ai hp;refine⟨λhall=>⟨(λc=>by cases c),λ_=>⟨⟨?_,rfl,rfl⟩,trivial⟩⟩,λr hr iS=>⟨λ_=>?_,(λc=>by cases c)⟩⟩
 .rw[hs,<-hV];exact(dI dn hn ai).2 hall
 .have iu:List.getLastD (dn++[r]) 0=r:=by simp
  have aZ:s+(m.getD r ((0,0),0)).2=((dn++[r]).map λr=>(m.getD r ((0,0),0)).2).sum:=by rw[hs,C_];simp
  simp only[iu];have aN:=λy (hy:y∈dn++[r])=>show y<m.length from (x6.1 hy).elim (ai y) λh=>by rw[zI] at h;omega
  have hle:=(dI (dn++[r]) (LR hn iS) aN).1;have cy:0<=((dn++[r]).map λr=>(m.getD r ((0,0),0)).2).sum:=U0 λy hy=>by have:=aN y hy;rw[Q9 this];exact hp _ (zl this)
  refine⟨by simp,?_,(s+(m.getD r ((0,0),0)).2,dn++[r]),(by and_intros<;>first|rfl|trivial),hq r _ hr iS aZ⟩;simp only[Qd];rw[aZ];omega
end Go.Proofs.Tryd