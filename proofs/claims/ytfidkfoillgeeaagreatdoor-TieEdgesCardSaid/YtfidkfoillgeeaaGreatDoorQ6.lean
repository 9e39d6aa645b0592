/- A framework for walks, contracts of functions, and their proofs: part 6. -/
import Derived.Shelf.SlGeneric
import Derived.Shelf.Spec.SlicesGrow
import Derived.Ground.Names8Prog
import Derived.Test.YtfidkfoillgeeaaGreatDoorProg
import Derived.Below
import Derived.Test.YtfidkfoillgeeaaGreatDoorQ8
set_option linter.unusedVariables false
set_option maxRecDepth 100000
namespace Go.Proofs.Tryz
open Go Go.V Go.Proofs
def QV (lw:List Int) (fr:Nat):Nat->Nat
 |0=>0
 |n+1=>QV lw fr n ||| 2 ^ (lw.getD ((fr+n) % lw.length) 0).toNat
theorem Rw {lw:List Int}{H:Nat}(hl:1<=lw.length) (h:∀ x∈lw,0<=x/\x<(H:Int)) (fr:Nat):∀ n,QV lw fr n<2 ^ H
 |0=>by simp[QV,Nat.two_pow_pos]
 |n+1=>by unfold QV;have hm:=Nat.mod_lt (fr+n) (show 0<lw.length by omega);have:=h (lw.getD ((fr+n) % lw.length) 0) (by rw[Qf hm];exact List.getElem_mem hm);exact Nat.or_lt_two_pow (Rw hl h fr n) (Nat.pow_lt_pow_right (by omega) (by omega))
def QL (hk bd s:Int):Bool:=decide (Y6 s.toNat s.toNat bd.toNat hk.toNat<1048576)
def YM (hk bd s:Int):Int:=if QL hk bd s=true then ((VO s.toNat s.toNat bd.toNat hk.toNat:Nat):Int) else 0
def FrI (hk bd:Int) (m:List (Int×Int×Bool)):Prop:=∀ k:Int,gq.ahas (.i .i64) m k=true->gq.aget (.i .i64) m k (0,false)=(YM hk bd k,QL hk bd k)
theorem Q7y (hk bd:Int):FrI hk bd []:=fun k h=>by cases h
theorem Q99 (a b:(Kind.i .i64).T):gq.keq (.i .i64) a b=true<->a=b:=by show ((show Int from a)==(show Int from b))=true<->_;exact beq_iff_eq
theorem O1 {hk bd s:Int}{m:List (Int×Int×Bool)}{v:Int×Bool}(h:FrI hk bd m) (hv:v=(YM hk bd s,QL hk bd s)):FrI hk bd (CA (.i .i64) m s v):=fun e he=>by
 obtain⟨h1,h2⟩:=Q6h Q99 s v e ((0:Int),false) m;by_cases c:e=s
 .rw[(h1 c).1,c];exact hv
 .rw[(h2 c).2] at he;rw[(h2 c).1];exact h e he
theorem Q78 {hk bd s:Int}(h1:1<=hk/\hk<=24) (h2:1<=bd/\bd<=24) (h3:0<=s/\s<2 ^ hk.toNat):Qc hk [s] [s] bd=(if QL hk bd s=true then 0 else 9)/\JE hk [s] [s] bd=(if QL hk bd s=true then [YM hk bd s] else []):=by
 have pe:Qg hk [s]=0:=by unfold Qg inI;have e1:decide (0<=s)=true:=decide_eq_true h3.1;have e2:decide (s<=2 ^ hk.toNat-1)=true:=decide_eq_true (by omega);simp[e1,e2,h1]
 have aQ:([s].any fun n=>!inI n 0 (2 ^ hk.toNat-1))=false:=by unfold inI;have e1:decide (0<=s)=true:=decide_eq_true h3.1;have e2:decide (s<=2 ^ hk.toNat-1)=true:=decide_eq_true (by omega);simp[e1,e2]
 have hb:inI bd 1 24=true:=by unfold inI;rw[decide_eq_true h2.1,decide_eq_true h2.2];rfl
 have rN:Dr hk [s] [s] bd=!QL hk bd s:=by unfold Dr QL EH;simp only[List.length_cons,List.length_nil,List.range_succ,List.range_zero,List.nil_append,List.any_cons,List.any_nil,Bool.or_false,List.getD_cons_zero];rw[Bool.eq_iff_iff];simp only[decide_eq_true_eq,Bool.not_eq_true',decide_eq_false_iff_not];omega
 have e:Qc hk [s] [s] bd=(if QL hk bd s=true then 0 else 9):=by unfold Qc;rw[if_neg (by omega),if_neg (by simp),if_neg (by rw[aQ];decide),if_neg (by rw[hb];decide),rN];cases QL hk bd s<;>rfl
 refine⟨e,?_⟩;unfold JE;rw[e];by_cases c:QL hk bd s=true
 .rw[if_pos c,if_pos rfl,if_pos c];unfold YM;rw[if_pos c];simp[D5,Z0t,List.range_succ]
 .rw[if_neg c,if_neg (by decide),if_neg c]
def lgI (hk:Int) (lw:List Int) (bd:Int) (fr:Nat):Nat->Nat->Int->Nat×Int
 |0,l,b=>(l,b)
 |m+1,l,b=>if l+1<lw.length/\QL hk bd (QV lw fr (l+1):Nat)=true then lgI hk lw bd fr m (l+1) (YM hk bd (QV lw fr (l+1):Nat)) else (l,b)
def lgK (hk:Int) (lw:List Int) (bd:Int):Nat->Nat×Int
 |0=>(0,0)
 |k+1=>lgI hk lw bd k (lw.length-(lgK hk lw bd k).1) (lgK hk lw bd k).1 (lgK hk lw bd k).2
def lgN (hk:Int) (lw:List Int) (bd:Int):Int:=if QL hk bd (QV lw 0 lw.length:Nat)=true then 1000 else ((lgK hk lw bd lw.length).1:Int)
def lgR (hk:Int) (lw:List Int) (bd:Int):Int:=if QL hk bd (QV lw 0 lw.length:Nat)=true then YM hk bd (QV lw 0 lw.length:Nat) else (lgK hk lw bd lw.length).2
def lgO (hk:Int) (lw:List Int) (bd:Int):Bool:=if QL hk bd (QV lw 0 lw.length:Nat)=true then true else decide (0<(lgK hk lw bd lw.length).1)
theorem Ih (hk:Int) (lw:List Int) (bd:Int) (fr:Nat):∀ m l b,l<=(lgI hk lw bd fr m l b).1/\(l<lw.length->(lgI hk lw bd fr m l b).1<lw.length)
 |0,l,b=>⟨Nat.le_refl _,id⟩
 |m+1,l,b=>by
  unfold lgI;split
  .rename_i h;have:=Ih hk lw bd fr m (l+1) (YM hk bd (QV lw fr (l+1):Nat));exact⟨by omega,fun _=>this.2 h.1⟩
  .exact⟨Nat.le_refl _,id⟩
theorem Em {hk:Int}{lw:List Int}{bd:Int}(h:1<=lw.length):∀ k,(lgK hk lw bd k).1<lw.length
 |0=>h
 |k+1=>(Ih hk lw bd k _ _ _).2 (Em h k)
def ZE (hk:Int) (lw:List Int) (bd:Int):Int:=if Q8 hk lw≠0 then Q8 hk lw else if inI bd 1 24=false then 3 else if QL hk bd 0=true then 0 else 9
def Ps (hk:Int) (lw:List Int) (bd:Int):Int:=if ZE hk lw bd=0 then lgN hk lw bd else 0
def R_ (hk:Int) (lw:List Int) (bd:Int):Int:=if ZE hk lw bd=0 then lgR hk lw bd else 0
def Q0w (row hk bd:Int):Bool:=(List.range hk.toNat).all fun k=>decide (((Xk (Q1e row hk.toNat) k:Nat):Int)<=bd)
def lgX (c:List (List UInt8)):Int:=(Q6d 0 c).foldl (fun a x=>GP a x.2.2.1) 0
def Q34 (hk:Int) (lw:List Int) (bd:Int):Int:=(List.range (2 ^ hk.toNat)).foldl (fun a (r:Nat)=>if Q0w (r:Int) hk bd=true then GP a (lgX (QR hk lw hk [(r:Int)])) else a) 0
theorem Q80 {hk:Int}{lw:List Int}(h:Q8 hk lw=0):(1<=hk/\hk<=24)/\(1<=lw.length/\lw.length<=96)/\∀ x∈lw,0<=x/\x<hk:=by
 unfold Q8 at h;split at h
 .cases h
 .rename_i h1;split at h
  .cases h
  .rename_i h2;split at h
   .cases h
   .rename_i h3;split at h
    .cases h
    .rename_i h4;have h1:1<=hk/\hk<=24:=by simpa [inI] using h1
     refine⟨h1,by omega,fun x hx=>?_⟩;have h5:∀ x∈lw,inI x 0 (hk-1)=true:=by simpa using h4
     have:=h5 x hx;simp only[inI,Bool.and_eq_true,decide_eq_true_eq] at this;omega
def YI:AL ((Int×List Int×Unit×Unit)×Int×Int):=(.cons (.ptr (.cons (.k (.i .i64)) (.cons (.k (.list (.i .i64))) (.cons .any (.one .any))))) (.cons (.k (.i .i64)) (.one (.k (.i .i64)))))
def N2 (d:(Int×List Int×Unit×Unit)×Int×Int):Prop:=(1<=d.1.1/\d.1.1<=24)/\(1<=d.1.2.1.length/\d.1.2.1.length<=110)/\(∀ x∈d.1.2.1,0<=x/\x<d.1.1)/\0<=d.2.1/\d.2.1<=110/\0<=d.2.2/\d.2.2<=110
def WS (d:(Int×List Int×Unit×Unit)×Int×Int):SV:=.val (.i .i64) ((QV d.1.2.1 d.2.1.toNat d.2.2.toNat:Nat):Int)
def WO (d:(Int×List Int×Unit×Unit)×Int×Int):List OB:=[]
def Xs:CSp:=WZ YI N2 WS WO
def ZT (hk:Int) (lw:List Int) (fr:Int) (ln:Int):Prop :=
 ∃ (e2:Unit) (d20:Int×Int),(((SV.cp [.val (.i .i64) hk,.val (.list (.i .i64)) lw,.any,.any] 0=SV.cp [.val (.i .i64) hk,.val (.list (.i .i64)) lw,.any,.any] 0/\SVs.pure [.val (.i .i64) hk,.val (.list (.i .i64)) lw,.any,.any]=true)/\fr=fr/\(0:Int)=d20.1/\ln=ln/\(0:Int)=d20.2/\True)/\(True)) /\
 LoopP (fun (d2:Int×Int) (q2:(Int×Int)->Prop) =>
  ((decide (d2.2<ln))=true ->
   (I64 (fr+d2.2))/\((lI lw)≠0)/\(0<=(Int.tmod (fr+d2.2) (lI lw)))/\((Int.tmod (fr+d2.2) (lI lw))<(List.length lw))/\(0<=(gD lw (Int.tmod (fr+d2.2) (lI lw)) 0))/\(I64 (UI .i64 (1:Int) (gD lw (Int.tmod (fr+d2.2) (lI lw)) 0)))/\(I64 (d2.2+(1:Int)))/\(∃ d3:Int×Int,(((SV.cp [.val (.i .i64) hk,.val (.list (.i .i64)) lw,.any,.any] 0=SV.cp [.val (.i .i64) hk,.val (.list (.i .i64)) lw,.any,.any] 0/\SVs.pure [.val (.i .i64) hk,.val (.list (.i .i64)) lw,.any,.any]=true)/\fr=fr/\(ZG .or .i64 d2.1 (UI .i64 (1:Int) (gD lw (Int.tmod (fr+d2.2) (lI lw)) 0)))=d3.1/\ln=ln/\(d2.2+(1:Int))=d3.2/\True)/\(True))/\q2 d3)) /\
  ((decide (d2.2<ln))=false ->
   (d2.1=((QV lw fr.toNat ln.toNat:Nat):Int)/\(True)))) d20
def Yw:Cx:=⟨[],[],36,[],0,[],[],[],[],false,[],[],[],[]⟩
def Mp (hk:Int) (lw:List Int) (fr:Int) (ln:Int):List (Nat×LoopAnn):=[(0,⟨Unit,Int×Int,[0,1,6,8,9],fun e x=>[.cp [.val (.i .i64) hk,.val (.list (.i .i64)) lw,.any,.any] 0,.val (.i .i64) fr,.val (.i .i64) x.1,.val (.i .i64) ln,.val (.i .i64) x.2],fun e x=>[]⟩)]
theorem Mb (d:(Int×List Int×Unit×Unit)×Int×Int):gwp (Yw) (Mp d.1.1 d.1.2.1 d.2.1 d.2.2) c65 0 (Kn [.tmp 6] (WS d) (WO d)) (Qx 36 (AL.can YI d))=ZT d.1.1 d.1.2.1 d.2.1 d.2.2:=by kernel_rfl
abbrev M3:Prop:=OkC Tryz.prog 65 Xs
theorem Me (h:∀ (hk:Int) (lw:List Int) (fr:Int) (ln:Int),((1<=hk/\hk<=24)/\(1<=lw.length/\lw.length<=110)/\(∀ x∈lw,0<=x/\x<hk)/\0<=fr/\fr<=110/\0<=ln/\ln<=110)->ZT hk lw fr ln):OkC Tryz.prog 65 Xs :=
 QH Q4y mixed (C:=Yw) (V:=fun (d:(Int×List Int×Unit×Unit)×Int×Int)=>ZT d.1.1 d.1.2.1 d.2.1 d.2.2) ⟨.nil,XsOk.nil,ItsOk.nil,YlOk.nil,IysOk.nil,XfOk.nil⟩ (Mb) fun d hp=>h d.1.1 d.1.2.1 d.2.1 d.2.2 hp
theorem Q67 {a b:Nat}(ha:a<16777216) (hb:b<16777216):ZG .or .i64 (a:Int) (b:Int)=((a ||| b:Nat):Int):=by
 have e:(BitVec.ofInt 64 ((a:Nat):Int) ||| BitVec.ofInt 64 ((b:Nat):Int)).toNat=a ||| b:=by rw[BitVec.toNat_or,BitVec.toNat_ofInt,BitVec.toNat_ofInt];congr 1<;>omega
 have ah:a ||| b<2 ^ 24:=Nat.or_lt_two_pow (by omega) (by omega)
 show IntKind.wrap .i64 ((BitVec.ofInt 64 ((a:Nat):Int) ||| BitVec.ofInt 64 ((b:Nat):Int)).toNat:Int)=_;rw[e];generalize a ||| b=c at *
 simp[IntKind.wrap,IntKind.bits,IntKind.signed];omega
theorem Mc:M3:=Me fun hk lw fr ln h=>by
 obtain⟨h1,h2,h3,h4,h5,h6,h7⟩:=h;unfold ZT;(try delta lI gD sT I64 Q1 pj8 pj4);obtain⟨H,rfl⟩:=Int.eq_ofNat_of_zero_le (show 0<=hk by omega);obtain⟨f,rfl⟩:=Int.eq_ofNat_of_zero_le h4;obtain⟨n,rfl⟩:=Int.eq_ofNat_of_zero_le h6;have ah:=Rw h2.1 h3 f;have xl:(2:Nat) ^ H<=2 ^ 24:=Nat.pow_le_pow_right (by omega) (by omega);simp only[true_and,and_true,Int.toNat_natCast];refine⟨(),(0,0),by and_intros<;>first|rfl|trivial,?_⟩;refine⟨fun d=>∃ i:Nat,i<=n/\d=(((QV lw f i:Nat):Int),(i:Int)),fun d=>n-d.2.toNat,⟨0,by omega,rfl⟩,?_⟩;rintro _ ⟨i,hi,rfl⟩;dsimp only;refine⟨fun c=>?_,fun c=>?_⟩
 .have hi:i<n:=by have:=of_decide_eq_true c;omega
  have hm:=Nat.mod_lt (f+i) (show 0<lw.length by omega);have et:Int.tmod ((f:Int)+(i:Int)) (lw.length:Int)=(((f+i) % lw.length:Nat):Int):=by rw[Int.tmod_eq_emod_of_nonneg (by omega),<-Int.natCast_add,<-Int.natCast_emod]
  rw[et,Int.toNat_natCast];have hx:=h3 (lw.getD ((f+i) % lw.length) 0) (by rw[Qf hm];exact List.getElem_mem hm);have hw:QV lw f (i+1)=QV lw f i ||| 2 ^ (lw.getD ((f+i) % lw.length) 0).toNat:=rfl
  have hl:=ah i;generalize lw.getD ((f+i) % lw.length) 0=x at *
  obtain⟨k,rfl⟩:=Int.eq_ofNat_of_zero_le hx.1;have sh:UI .i64 1 (k:Int)=((2 ^ k:Nat):Int):=by rw[BG (by omega) (by omega)];simp
  have pk:(2:Nat) ^ k<2 ^ H:=Nat.pow_lt_pow_right (by omega) (by omega);rw[sh];rw[Int.toNat_natCast] at hw;have ik:InK .i64 ((2 ^ k:Nat):Int):=by
   clear sh hw;generalize (2:Nat) ^ k=P at *
   rw[Q7];omega
  rw[Q67 (by omega) (by omega),<-hw];refine⟨by rw[Q7];omega,by omega,by omega,by omega,by omega,ik,by rw[Q7];omega,(((QV lw f (i+1):Nat):Int),(i:Int)+1),?_,⟨i+1,hi,rfl⟩,by dsimp only;omega⟩;and_intros<;>first|rfl|trivial
 .have hi:i=n:=by have:=of_decide_eq_false c;omega
  rw[hi]
def XS:AL (Int×List Int×Int):=(.cons (.k (.i .i64)) (.cons (.k (.list (.i .i64))) (.one (.k (.i .i64)))))
def XT:AL (Int):=(.one (.k (.i .i64)))
def Kv (m:List (Int×Int×Bool)) (c:Int×List Int×Int) (a:Int):Prop:=(1<=c.1/\c.1<=24)/\(1<=c.2.2/\c.2.2<=24)/\(1<=c.2.1.length/\c.2.1.length<=110)/\(∀ x∈c.2.1,0<=x/\x<c.1)/\(0<=a/\a<2 ^ c.1.toNat)/\FrI c.1 c.2.2 m
def XK (m:List (Int×Int×Bool)) (c:Int×List Int×Int) (a:Int):SV:=.agg [.val (.i .i64) (YM c.1 c.2.2 a),.val .bo (QL c.1 c.2.2 a)]
def Xl (m:List (Int×Int×Bool)) (c:Int×List Int×Int) (a:Int) (m2:List (Int×Int×Bool)):Prop:=FrI c.1 c.2.2 m2
def VH (c:Int×List Int×Int) (a:Int):Nat:=0
def Xu:XSp:=Up Hu 3 (.i .i64) (.pair (.i .i64) .bo) (Fp XS XT Kv XK Xl)
def JQ (a8:Nat) (m:List (Int×Int×Bool)) (hk:Int) (lw:List Int) (bd:Int) (s:Int):Prop:=∀ vals:List Value,
 ((gq.ahas (.i .i64) m s)=true ->
  (vals=vals/\(True/\(([]:List SV)=[]))/\((gq.aget (.i .i64) m s (0,false)).1=(YM hk bd s)/\(gq.aget (.i .i64) m s (0,false)).2=(QL hk bd s)/\(([]:List SV)=[]))/\(FrI hk bd m))) /\
 ((gq.ahas (.i .i64) m s)=false ->
  ([s].length<=1000/\[s].length<=1000)/\((JE hk [s] [s] bd).isEmpty=true->(JE hk [s] [s] bd)=[])/\(((hk=hk/\lw=lw/\bd=bd/\True/\(([]:List SV)=[]))/\s=s/\True/\True/\(Qc hk [s] [s] bd)=(Qc hk [s] [s] bd)/\True)/\((m=m)/\((0:Int)=(0:Int)/\false=false/\(([]:List SV)=[]))/\((gq.aget (.i .i64) m s (0,false)).1=(gq.aget (.i .i64) m s (0,false)).1/\(gq.aget (.i .i64) m s (0,false)).2=(gq.aget (.i .i64) m s (0,false)).2/\(([]:List SV)=[]))/\((if Qc hk [s] [s] bd=0 then hk else 0)=(if Qc hk [s] [s] bd=0 then hk else 0)/\True/\(([]:List SV)=[]))/\([s]=[s]/\false=false)/\([s]=[s]/\false=false)/\((JE hk [s] [s] bd)=(JE hk [s] [s] bd)/\(JE hk [s] [s] bd).isEmpty=(JE hk [s] [s] bd).isEmpty)/\(vals=vals/\(True/\(([]:List SV)=[])))/\True))/\(([s].length<=1000/\[s].length<=1000)/\((JE hk [s] [s] bd).isEmpty=true->(JE hk [s] [s] bd)=[])/\(((hk=hk/\lw=lw/\bd=bd/\True/\(([]:List SV)=[]))/\s=s/\True/\True/\(Qc hk [s] [s] bd)=(Qc hk [s] [s] bd)/\True)/\((m=m)/\((0:Int)=(0:Int)/\false=false/\(([]:List SV)=[]))/\((gq.aget (.i .i64) m s (0,false)).1=(gq.aget (.i .i64) m s (0,false)).1/\(gq.aget (.i .i64) m s (0,false)).2=(gq.aget (.i .i64) m s (0,false)).2/\(([]:List SV)=[]))/\((if Qc hk [s] [s] bd=0 then hk else 0)=(if Qc hk [s] [s] bd=0 then hk else 0)/\True/\(([]:List SV)=[]))/\([s]=[s]/\false=false)/\([s]=[s]/\false=false)/\((JE hk [s] [s] bd)=(JE hk [s] [s] bd)/\(JE hk [s] [s] bd).isEmpty=(JE hk [s] [s] bd).isEmpty)/\(vals=vals/\(True/\(([]:List SV)=[])))/\True)))/\(([s].length<=1000/\[s].length<=1000)/\((JE hk [s] [s] bd).isEmpty=true->(JE hk [s] [s] bd)=[])/\(((hk=hk/\lw=lw/\bd=bd/\True/\(([]:List SV)=[]))/\s=s/\True/\True/\(Qc hk [s] [s] bd)=(Qc hk [s] [s] bd)/\True)/\((m=m)/\((0:Int)=(0:Int)/\false=false/\(([]:List SV)=[]))/\((gq.aget (.i .i64) m s (0,false)).1=(gq.aget (.i .i64) m s (0,false)).1/\(gq.aget (.i .i64) m s (0,false)).2=(gq.aget (.i .i64) m s (0,false)).2/\(([]:List SV)=[]))/\((if Qc hk [s] [s] bd=0 then hk else 0)=(if Qc hk [s] [s] bd=0 then hk else 0)/\True/\(([]:List SV)=[]))/\([s]=[s]/\false=false)/\([s]=[s]/\false=false)/\((JE hk [s] [s] bd)=(JE hk [s] [s] bd)/\(JE hk [s] [s] bd).isEmpty=(JE hk [s] [s] bd).isEmpty)/\(vals=vals/\(True/\(([]:List SV)=[])))/\True)))/\(([s].length<=1000/\[s].length<=1000)/\((JE hk [s] [s] bd).isEmpty=true->(JE hk [s] [s] bd)=[])/\(((hk=hk/\lw=lw/\bd=bd/\True/\(([]:List SV)=[]))/\s=s/\True/\True/\(Qc hk [s] [s] bd)=(Qc hk [s] [s] bd)/\True)/\((m=m)/\((0:Int)=(0:Int)/\false=false/\(([]:List SV)=[]))/\((gq.aget (.i .i64) m s (0,false)).1=(gq.aget (.i .i64) m s (0,false)).1/\(gq.aget (.i .i64) m s (0,false)).2=(gq.aget (.i .i64) m s (0,false)).2/\(([]:List SV)=[]))/\((if Qc hk [s] [s] bd=0 then hk else 0)=(if Qc hk [s] [s] bd=0 then hk else 0)/\True/\(([]:List SV)=[]))/\([s]=[s]/\false=false)/\([s]=[s]/\false=false)/\((JE hk [s] [s] bd)=(JE hk [s] [s] bd)/\(JE hk [s] [s] bd).isEmpty=(JE hk [s] [s] bd).isEmpty)/\(vals=vals/\(True/\(([]:List SV)=[])))/\True)))/\(([s].length<=1000/\[s].length<=1000)/\((JE hk [s] [s] bd).isEmpty=true->(JE hk [s] [s] bd)=[])/\(((hk=hk/\lw=lw/\bd=bd/\True/\(([]:List SV)=[]))/\s=s/\True/\True/\(Qc hk [s] [s] bd)=(Qc hk [s] [s] bd)/\True)/\((m=m)/\((0:Int)=(0:Int)/\false=false/\(([]:List SV)=[]))/\((gq.aget (.i .i64) m s (0,false)).1=(gq.aget (.i .i64) m s (0,false)).1/\(gq.aget (.i .i64) m s (0,false)).2=(gq.aget (.i .i64) m s (0,false)).2/\(([]:List SV)=[]))/\((if Qc hk [s] [s] bd=0 then hk else 0)=(if Qc hk [s] [s] bd=0 then hk else 0)/\True/\(([]:List SV)=[]))/\([s]=[s]/\false=false)/\([s]=[s]/\false=false)/\((JE hk [s] [s] bd)=(JE hk [s] [s] bd)/\(JE hk [s] [s] bd).isEmpty=(JE hk [s] [s] bd).isEmpty)/\(vals=vals/\(True/\(([]:List SV)=[])))/\True)))/\(([s].length<=1000/\[s].length<=1000)/\((JE hk [s] [s] bd).isEmpty=true->(JE hk [s] [s] bd)=[])/\(((hk=hk/\lw=lw/\bd=bd/\True/\(([]:List SV)=[]))/\s=s/\True/\True/\(Qc hk [s] [s] bd)=(Qc hk [s] [s] bd)/\True)/\((m=m)/\((0:Int)=(0:Int)/\false=false/\(([]:List SV)=[]))/\((gq.aget (.i .i64) m s (0,false)).1=(gq.aget (.i .i64) m s (0,false)).1/\(gq.aget (.i .i64) m s (0,false)).2=(gq.aget (.i .i64) m s (0,false)).2/\(([]:List SV)=[]))/\((if Qc hk [s] [s] bd=0 then hk else 0)=(if Qc hk [s] [s] bd=0 then hk else 0)/\True/\(([]:List SV)=[]))/\([s]=[s]/\false=false)/\([s]=[s]/\false=false)/\((JE hk [s] [s] bd)=(JE hk [s] [s] bd)/\(JE hk [s] [s] bd).isEmpty=(JE hk [s] [s] bd).isEmpty)/\(vals=vals/\(True/\(([]:List SV)=[])))/\True)))/\(([s].length<=1000/\[s].length<=1000)/\((JE hk [s] [s] bd).isEmpty=true->(JE hk [s] [s] bd)=[])/\(((hk=hk/\lw=lw/\bd=bd/\True/\(([]:List SV)=[]))/\s=s/\True/\True/\(Qc hk [s] [s] bd)=(Qc hk [s] [s] bd)/\True)/\((m=m)/\((0:Int)=(0:Int)/\false=false/\(([]:List SV)=[]))/\((gq.aget (.i .i64) m s (0,false)).1=(gq.aget (.i .i64) m s (0,false)).1/\(gq.aget (.i .i64) m s (0,false)).2=(gq.aget (.i .i64) m s (0,false)).2/\(([]:List SV)=[]))/\((if Qc hk [s] [s] bd=0 then hk else 0)=(if Qc hk [s] [s] bd=0 then hk else 0)/\True/\(([]:List SV)=[]))/\([s]=[s]/\false=false)/\([s]=[s]/\false=false)/\((JE hk [s] [s] bd)=(JE hk [s] [s] bd)/\(JE hk [s] [s] bd).isEmpty=(JE hk [s] [s] bd).isEmpty)/\(vals=vals/\(True/\(([]:List SV)=[])))/\True)))/\(([s].length<=1000/\[s].length<=1000)/\((JE hk [s] [s] bd).isEmpty=true->(JE hk [s] [s] bd)=[])/\(((hk=hk/\lw=lw/\bd=bd/\True/\(([]:List SV)=[]))/\s=s/\True/\True/\(Qc hk [s] [s] bd)=(Qc hk [s] [s] bd)/\True)/\((m=m)/\((0:Int)=(0:Int)/\false=false/\(([]:List SV)=[]))/\((gq.aget (.i .i64) m s (0,false)).1=(gq.aget (.i .i64) m s (0,false)).1/\(gq.aget (.i .i64) m s (0,false)).2=(gq.aget (.i .i64) m s (0,false)).2/\(([]:List SV)=[]))/\((if Qc hk [s] [s] bd=0 then hk else 0)=(if Qc hk [s] [s] bd=0 then hk else 0)/\True/\(([]:List SV)=[]))/\([s]=[s]/\false=false)/\([s]=[s]/\false=false)/\((JE hk [s] [s] bd)=(JE hk [s] [s] bd)/\(JE hk [s] [s] bd).isEmpty=(JE hk [s] [s] bd).isEmpty)/\(vals=vals/\(True/\(([]:List SV)=[])))/\True)))/\(((Qc hk [s] [s] bd)==(0:Int))=true ->
   (0<=(0:Int))/\((0:Int)<(List.length (JE hk [s] [s] bd)))/\(vals=vals/\(True/\(([]:List SV)=[]))/\((gD (JE hk [s] [s] bd) (0:Int) 0)=(YM hk bd s)/\((Qc hk [s] [s] bd)==(0:Int))=(QL hk bd s)/\(([]:List SV)=[]))/\(FrI hk bd (CA (.i .i64) m s ((gD (JE hk [s] [s] bd) (0:Int) 0),((Qc hk [s] [s] bd)==(0:Int))))))) /\
  (((Qc hk [s] [s] bd)==(0:Int))=false ->
   (vals=vals/\(True/\(([]:List SV)=[]))/\((0:Int)=(YM hk bd s)/\((Qc hk [s] [s] bd)==(0:Int))=(QL hk bd s)/\(([]:List SV)=[]))/\(FrI hk bd (CA (.i .i64) m s ((0:Int),((Qc hk [s] [s] bd)==(0:Int))))))))
def cx_tie_frame_row:Cx:=⟨[(3,(.i .i64))],[(29,UF)],59,[],0,[],[],[],[0,1,4,7,41],false,[],[],[],[]⟩
def VA (m:List (Int×Int×Bool)) (hk:Int) (lw:List Int) (bd:Int) (s:Int) (vals:List Value):List (Nat×LoopAnn):=[]
theorem Be (a8:Nat) (m:List (Int×Int×Bool)) (c:Int×List Int×Int) (a:Int):(∀ vals,gwp {cx_tie_frame_row with xs:=(39,Up Hu 3 (.i .i64) (.pair (.i .i64) .bo) (Fp XS XT (fun m c a=>Kv m c a/\VH c a<a8) XK Xl))::cx_tie_frame_row.xs} (VA m c.1 c.2.1 c.2.2 a vals) c39 0 (FQ vals [.cell 4 true 2] (XK m c a) (.i .i64) (.pair (.i .i64) .bo) (Xl m c a)) (mstart 59 3 (.i .i64) (.pair (.i .i64) .bo) m vals (AL.can XS c) (AL.can XT a)))=JQ a8 m c.1 c.2.1 c.2.2 a:=by kernel_rfl
abbrev B4:Prop:=Q1d Tryz.prog 39 Xu 3
theorem B9 (h:∀ (a8:Nat) (m:List (Int×Int×Bool)) (hk:Int) (lw:List Int) (bd:Int) (s:Int),((1<=hk/\hk<=24)/\(1<=bd/\bd<=24)/\(1<=lw.length/\lw.length<=110)/\(∀ x∈lw,0<=x/\x<hk)/\(0<=s/\s<2 ^ hk.toNat)/\FrI hk bd m)->(0)=a8->JQ a8 m hk lw bd s):Q1d Tryz.prog 39 Xu 3 :=
 P9 Q79 mixed H6 rfl (μ:=VH) (C:=cx_tie_frame_row) ⟨(.cons RH .nil),XsOk.nil,ItsOk.nil,YlOk.nil,IysOk.nil,XfOk.nil⟩ rfl (L:=fun m (c:Int×List Int×Int) (a:Int) vals=>VA m c.1 c.2.1 c.2.2 a vals) (V:=fun a8 m (c:Int×List Int×Int) (a:Int)=>JQ a8 m c.1 c.2.1 c.2.2 a) Be fun n m c a hp hn=>h n m c.1 c.2.1 c.2.2 a hp hn
theorem Jw:B4:=B9 fun a8 m hk lw bd s h hn=>by
 obtain⟨h1,h2,h3,h4,h5,h6⟩:=h;unfold JQ;(try delta lI gD sT I64 Q1 pj8 pj4);intro vals;obtain⟨b1,b2⟩:=Q78 h1 h2 h5;have wq:[s].length<=1000:=by simp
 have wu:(JE hk [s] [s] bd).isEmpty=true->JE hk [s] [s] bd=[]:=fun h=>List.isEmpty_iff.1 h;simp only[true_and,and_true];refine⟨fun c=>?_,fun c=>?_⟩
 .have:=h6 s c;rw[this];exact⟨⟨rfl,rfl⟩,h6⟩
 .repeat' (with_reducible refine And.intro ?_ ?_)
  all_goals first|exact wq|exact wu|with_reducible rfl|trivial|skip
  .intro c2;have ho:QL hk bd s=true:=by
    rw[b1] at c2;cases h:QL hk bd s with
    |true=>rfl
    |false=>rw[h] at c2;exact absurd c2 (by decide)
   rw[b1,b2,if_pos ho,if_pos ho];refine⟨by omega,by simp,⟨by simp,ho.symm⟩,O1 h6 (by rw[ho];simp)⟩
  .intro c2;have ho:QL hk bd s=false:=by
    rw[b1] at c2;cases h:QL hk bd s with
    |false=>rfl
    |true=>rw[h] at c2;exact absurd c2 (by decide)
   have hv:YM hk bd s=0:=by unfold YM;rw[ho];rfl
   rw[b1,hv,ho];exact⟨⟨rfl,rfl⟩,O1 h6 (by rw[hv,ho];rfl)⟩
def Jn:AL (Int×List Int×Int):=(.cons (.k (.i .i64)) (.cons (.k (.list (.i .i64))) (.one (.k (.i .i64)))))
def Jl:AL (Unit):=.nil
def Wk (m:List (Int×Int×Bool)) (c:Int×List Int×Int) (a:Unit):Prop:=(1<=c.1/\c.1<=24)/\(1<=c.2.2/\c.2.2<=24)/\(1<=c.2.1.length/\c.2.1.length<=110)/\(∀ x∈c.2.1,0<=x/\x<c.1)/\FrI c.1 c.2.2 m
def Jo (m:List (Int×Int×Bool)) (c:Int×List Int×Int) (a:Unit):SV:=.tup [.val (.i .i64) (lgN c.1 c.2.1 c.2.2),.agg [.val (.i .i64) (lgR c.1 c.2.1 c.2.2),.val .bo (lgO c.1 c.2.1 c.2.2)]]
def J3 (m:List (Int×Int×Bool)) (c:Int×List Int×Int) (a:Unit) (m2:List (Int×Int×Bool)):Prop:=FrI c.1 c.2.2 m2
def WK (c:Int×List Int×Int) (a:Unit):Nat:=0
def JX:XSp:=Up Hu 3 (.i .i64) (.pair (.i .i64) .bo) (Fp Jn Jl Wk Jo J3)
def Zr (a8:Nat) (m:List (Int×Int×Bool)) (hk:Int) (lw:List Int) (bd:Int):Prop:=∀ vals:List Value,
 ((1<=hk/\hk<=24)/\(1<=lw.length/\lw.length<=110)/\(∀ x∈lw,0<=x/\x<hk)/\0<=(0:Int)/\(0:Int)<=110/\0<=(lI lw)/\(lI lw)<=110)/\((1<=hk/\hk<=24)/\(1<=bd/\bd<=24)/\(1<=lw.length/\lw.length<=110)/\(∀ x∈lw,0<=x/\x<hk)/\(0<=((QV lw (0:Int).toNat (lI lw).toNat:Nat):Int)/\((QV lw (0:Int).toNat (lI lw).toNat:Nat):Int)<2 ^ hk.toNat)/\FrI hk bd m)/\(∀ m1:List (Int×Int×Bool),(FrI hk bd m1)->((QL hk bd ((QV lw (0:Int).toNat (lI lw).toNat:Nat):Int))=true ->
  (vals=vals/\(True/\(([]:List SV)=[]))/\((1000:Int)=(lgN hk lw bd)/\((YM hk bd ((QV lw (0:Int).toNat (lI lw).toNat:Nat):Int))=(lgR hk lw bd)/\(QL hk bd ((QV lw (0:Int).toNat (lI lw).toNat:Nat):Int))=(lgO hk lw bd)/\(([]:List SV)=[]))/\(([]:List SV)=[]))/\(FrI hk bd m1))) /\
 ((QL hk bd ((QV lw (0:Int).toNat (lI lw).toNat:Nat):Int))=false ->
  ∃ (e3:Unit) (d30:(List (Int×Int×Bool))×Int×Int×Bool×Int),(((hk=hk/\lw=lw/\bd=bd/\True/\(([]:List SV)=[]))/\(0:Int)=d30.2.1/\True/\(lI lw)=(lI lw)/\(lI lw)=(lI lw)/\(0:Int)=(pj4 d30)/\True)/\((m1=d30.1)/\((0:Int)=d30.2.2.1/\false=d30.2.2.2.1/\(([]:List SV)=[]))/\(vals=vals/\(True/\(([]:List SV)=[])))/\True)) /\
  LoopP (fun (d3:(List (Int×Int×Bool))×Int×Int×Bool×Int) (q3:((List (Int×Int×Bool))×Int×Int×Bool×Int)->Prop) =>
   ((decide ((pj4 d3)<(lI lw)))=true ->
    ∃ (e5:Int×Int) (d50:(List (Int×Int×Bool))×Int×Int×Bool),(((hk=hk/\lw=lw/\bd=bd/\True/\(([]:List SV)=[]))/\d3.2.1=d50.2.1/\True/\(lI lw)=(lI lw)/\(pj4 d3)=e5.1/\(lI lw)=(lI lw)/\(pj4 d3)=e5.2/\True)/\((d3.1=d50.1)/\(d3.2.2.1=d50.2.2.1/\d3.2.2.2.1=d50.2.2.2/\(([]:List SV)=[]))/\(vals=vals/\(True/\(([]:List SV)=[])))/\True)) /\
    LoopP (fun (d5:(List (Int×Int×Bool))×Int×Int×Bool) (q5:((List (Int×Int×Bool))×Int×Int×Bool)->Prop) =>
     (I64 (d5.2.1+(1:Int)))/\((decide ((d5.2.1+(1:Int))<(lI lw)))=true ->
      (I64 (d5.2.1+(1:Int)))/\((1<=hk/\hk<=24)/\(1<=lw.length/\lw.length<=110)/\(∀ x∈lw,0<=x/\x<hk)/\0<=e5.1/\e5.1<=110/\0<=(d5.2.1+(1:Int))/\(d5.2.1+(1:Int))<=110)/\((1<=hk/\hk<=24)/\(1<=bd/\bd<=24)/\(1<=lw.length/\lw.length<=110)/\(∀ x∈lw,0<=x/\x<hk)/\(0<=((QV lw e5.1.toNat (d5.2.1+(1:Int)).toNat:Nat):Int)/\((QV lw e5.1.toNat (d5.2.1+(1:Int)).toNat:Nat):Int)<2 ^ hk.toNat)/\FrI hk bd d5.1)/\(∀ m6:List (Int×Int×Bool),(FrI hk bd m6)->((!(QL hk bd ((QV lw e5.1.toNat (d5.2.1+(1:Int)).toNat:Nat):Int)))=true ->
       (I64 (e5.2+(1:Int)))/\(∃ d7:(List (Int×Int×Bool))×Int×Int×Bool×Int,(((hk=hk/\lw=lw/\bd=bd/\True/\(([]:List SV)=[]))/\d5.2.1=d7.2.1/\True/\(lI lw)=(lI lw)/\(lI lw)=(lI lw)/\(e5.2+(1:Int))=(pj4 d7)/\True)/\((m6=d7.1)/\(d5.2.2.1=d7.2.2.1/\d5.2.2.2=d7.2.2.2.1/\(([]:List SV)=[]))/\(vals=vals/\(True/\(([]:List SV)=[])))/\True))/\q3 d7)) /\
      ((!(QL hk bd ((QV lw e5.1.toNat (d5.2.1+(1:Int)).toNat:Nat):Int)))=false ->
       (I64 (d5.2.1+(1:Int)))/\(∃ d8:(List (Int×Int×Bool))×Int×Int×Bool,(((hk=hk/\lw=lw/\bd=bd/\True/\(([]:List SV)=[]))/\(d5.2.1+(1:Int))=d8.2.1/\True/\(lI lw)=(lI lw)/\e5.1=e5.1/\(lI lw)=(lI lw)/\e5.2=e5.2/\True)/\((m6=d8.1)/\((YM hk bd ((QV lw e5.1.toNat (d5.2.1+(1:Int)).toNat:Nat):Int))=d8.2.2.1/\(QL hk bd ((QV lw e5.1.toNat (d5.2.1+(1:Int)).toNat:Nat):Int))=d8.2.2.2/\(([]:List SV)=[]))/\(vals=vals/\(True/\(([]:List SV)=[])))/\True))/\q5 d8)))) /\
     ((decide ((d5.2.1+(1:Int))<(lI lw)))=false ->
      (I64 (e5.2+(1:Int)))/\(∃ d9:(List (Int×Int×Bool))×Int×Int×Bool×Int,(((hk=hk/\lw=lw/\bd=bd/\True/\(([]:List SV)=[]))/\d5.2.1=d9.2.1/\True/\(lI lw)=(lI lw)/\(lI lw)=(lI lw)/\(e5.2+(1:Int))=(pj4 d9)/\True)/\((d5.1=d9.1)/\(d5.2.2.1=d9.2.2.1/\d5.2.2.2=d9.2.2.2.1/\(([]:List SV)=[]))/\(vals=vals/\(True/\(([]:List SV)=[])))/\True))/\q3 d9))) d50) /\
   ((decide ((pj4 d3)<(lI lw)))=false ->
    (vals=vals/\(True/\(([]:List SV)=[]))/\(d3.2.1=(lgN hk lw bd)/\(d3.2.2.1=(lgR hk lw bd)/\d3.2.2.2.1=(lgO hk lw bd)/\(([]:List SV)=[]))/\(([]:List SV)=[]))/\(FrI hk bd d3.1)))) d30))
def cx_tie_frame_longest:Cx:=⟨[],[(65,Xs)],47,[],0,[(39,Xu)],[],[],[],false,[],[],[],[(39,3)]⟩
def WJ (m:List (Int×Int×Bool)) (hk:Int) (lw:List Int) (bd:Int) (vals:List Value):List (Nat×LoopAnn):=[(0,⟨Unit,(List (Int×Int×Bool))×Int×Int×Bool×Int,[0,2,3,4,23,24],fun e x=>[.cp [.val (.i .i64) hk,.val (.list (.i .i64)) lw,.val (.i .i64) bd,.map 0] 0,.val (.i .i64) x.2.1,.box 3 0,.val (.i .i64) (((List.length lw):Nat):Int),.val (.i .i64) (((List.length lw):Nat):Int),.val (.i .i64) x.2.2.2.2],fun e x=>[(0,.key 0,.map (.i .i64) (.pair (.i .i64) .bo) x.1),(3,.slot 3,.cells [.val (.i .i64) x.2.2.1,.val .bo x.2.2.2.1] (some 93)),(4000000,.key 4000000,.stk [.map 0] vals)]⟩),
 (2,⟨Int×Int,(List (Int×Int×Bool))×Int×Int×Bool,[0,2,3,4,6,23,24],fun e x=>[.cp [.val (.i .i64) hk,.val (.list (.i .i64)) lw,.val (.i .i64) bd,.map 0] 0,.val (.i .i64) x.2.1,.box 3 0,.val (.i .i64) (((List.length lw):Nat):Int),.val (.i .i64) e.1,.val (.i .i64) (((List.length lw):Nat):Int),.val (.i .i64) e.2],fun e x=>[(0,.key 0,.map (.i .i64) (.pair (.i .i64) .bo) x.1),(3,.slot 3,.cells [.val (.i .i64) x.2.2.1,.val .bo x.2.2.2] (some 93)),(4000000,.key 4000000,.stk [.map 0] vals)]⟩)]
theorem Nn (a8:Nat) (m:List (Int×Int×Bool)) (c:Int×List Int×Int) (a:Unit):(∀ vals,gwp {cx_tie_frame_longest with xs:=(40,Up Hu 3 (.i .i64) (.pair (.i .i64) .bo) (Fp Jn Jl (fun m c a=>Wk m c a/\WK c a<a8) Jo J3))::cx_tie_frame_longest.xs} (WJ m c.1 c.2.1 c.2.2 vals) c40 0 (FQ vals [.tmp 2,.cell 3 true 2] (Jo m c a) (.i .i64) (.pair (.i .i64) .bo) (J3 m c a)) (mstart 47 3 (.i .i64) (.pair (.i .i64) .bo) m vals (AL.can Jn c) (AL.can Jl a)))=Zr a8 m c.1 c.2.1 c.2.2:=by kernel_rfl
abbrev N9:Prop:=Q1d Tryz.prog 40 JX 3
theorem Ng (h:∀ (a8:Nat) (m:List (Int×Int×Bool)) (hk:Int) (lw:List Int) (bd:Int),((1<=hk/\hk<=24)/\(1<=bd/\bd<=24)/\(1<=lw.length/\lw.length<=110)/\(∀ x∈lw,0<=x/\x<hk)/\FrI hk bd m)->(0)=a8->Zr a8 m hk lw bd):Q1d Tryz.prog 40 JX 3 :=
 P9 Q6s mixed H6 rfl (μ:=WK) (C:=cx_tie_frame_longest) ⟨(.cons Mc .nil),(XsOk.cons Jw.1 XsOk.nil),ItsOk.nil,YlOk.nil,IysOk.nil,(XfOk.cons rfl Jw.2 XfOk.nil)⟩ rfl (L:=fun m (c:Int×List Int×Int) (a:Unit) vals=>WJ m c.1 c.2.1 c.2.2 vals) (V:=fun a8 m (c:Int×List Int×Int) (a:Unit)=>Zr a8 m c.1 c.2.1 c.2.2) Nn fun n m c a hp hn=>h n m c.1 c.2.1 c.2.2 hp hn
theorem Wo:N9:=Ng fun a8 m hk lw bd h hn=>by
 obtain⟨h1,h2,h3,h4,h6⟩:=h;unfold Zr;(try delta lI gD sT I64 Q1 pj8 pj4);intro vals;obtain⟨H,rfl⟩:=Int.eq_ofNat_of_zero_le (show 0<=hk by omega);have ah:=fun fr n=>Rw h3.1 h4 fr n;have h_:(2:Int) ^ H=((2 ^ H:Nat):Int):=by simp
 simp only[true_and,and_true,Int.toNat_natCast,show (0:Int).toNat=0 from rfl,h_];have w0:=ah 0 lw.length;refine⟨⟨h1,h3,h4,by omega,by omega,by omega,by omega⟩,⟨h1,h2,h3,h4,⟨by omega,by omega⟩,h6⟩,fun m1 gY=>⟨fun c=>?_,fun c=>?_⟩⟩
 .unfold lgN lgR lgO;rw[if_pos c,if_pos c,if_pos c,c];exact⟨⟨rfl,rfl,rfl⟩,gY⟩
 have e1:lgN (H:Int) lw bd=((lgK (H:Int) lw bd lw.length).1:Int):=by unfold lgN;rw[if_neg (by rw[c];decide)]
 have e2:lgR (H:Int) lw bd=(lgK (H:Int) lw bd lw.length).2:=by unfold lgR;rw[if_neg (by rw[c];decide)]
 have e3:lgO (H:Int) lw bd=decide (0<(lgK (H:Int) lw bd lw.length).1):=by unfold lgO;rw[if_neg (by rw[c];decide)]
 rw[e1,e2,e3];have s7:=fun k=>Em (hk:=(H:Int)) (lw:=lw) (bd:=bd) h3.1 k;refine⟨(),(m1,0,0,false,0),by and_intros<;>first|rfl|trivial,?_⟩;refine⟨fun d=>∃ k:Nat,k<=lw.length/\FrI (H:Int) bd d.1/\d.2=(((lgK (H:Int) lw bd k).1:Int),(lgK (H:Int) lw bd k).2,decide (0<(lgK (H:Int) lw bd k).1),(k:Int)),fun d=>lw.length-d.2.2.2.2.toNat,⟨0,by omega,gY,rfl⟩,?_⟩;rintro⟨m2,d⟩ ⟨k,au,en,hd⟩;dsimp only at en hd |-;subst hd;dsimp only;refine⟨fun g=>?_,fun g=>?_⟩
 .have g:k<lw.length:=by have:=of_decide_eq_true g;omega
  have kl:=s7 k;have kS:lgK (H:Int) lw bd (k+1)=lgI (H:Int) lw bd k (lw.length-(lgK (H:Int) lw bd k).1) (lgK (H:Int) lw bd k).1 (lgK (H:Int) lw bd k).2:=rfl;refine⟨((k:Int),(k:Int)),(m2,((lgK (H:Int) lw bd k).1:Int),(lgK (H:Int) lw bd k).2,decide (0<(lgK (H:Int) lw bd k).1)),by and_intros<;>first|rfl|trivial,?_⟩;dsimp only;simp only[Int.toNat_natCast];refine⟨fun d=>∃ (l:Nat) (b:Int),FrI (H:Int) bd d.1/\l<lw.length/\lgI (H:Int) lw bd k (lw.length-l) l b=lgK (H:Int) lw bd (k+1)/\d.2=((l:Int),b,decide (0<l)),fun d=>lw.length-d.2.1.toNat,⟨_,_,en,kl,kS.symm,rfl⟩,?_⟩;rintro⟨m3,d⟩ ⟨l,b,rO,hl,hI,hd⟩;dsimp only at rO hd |-;subst hd;dsimp only;have el:((l:Int)+1).toNat=l+1:=by omega
  rw[el];obtain⟨q,hq⟩:∃ q,lw.length-l=q+1:=⟨lw.length-l-1,by omega⟩;have oK:=hI;rw[hq,lgI] at oK;have stop:¬ (l+1<lw.length/\QL (H:Int) bd (QV lw k (l+1):Nat)=true)->lgK (H:Int) lw bd (k+1)=(l,b):=fun h=>by rw[if_neg h] at oK;exact oK.symm
  refine⟨by rw[Q7];omega,fun g2=>?_,fun g2=>?_⟩
  .have g2:l+1<lw.length:=by have:=of_decide_eq_true g2;omega
   have w1:=ah k (l+1);refine⟨by rw[Q7];omega,⟨h1,h3,h4,by omega,by omega,by omega,by omega⟩,⟨h1,h2,h3,h4,⟨by omega,by omega⟩,rO⟩,fun m6 s8=>⟨fun c3=>?_,fun c3=>?_⟩⟩
   .have c3:QL (H:Int) bd (QV lw k (l+1):Nat)=false:=by simpa using c3
    have e:=stop fun h=>by rw[c3] at h;cases h.2
    refine⟨by rw[Q7];omega,(m6,(l:Int),b,decide (0<l),(k:Int)+1),?_,⟨k+1,g,s8,by dsimp only;rw[e];rfl⟩,by dsimp only;omega⟩;and_intros<;>first|rfl|trivial
   .have c3:QL (H:Int) bd (QV lw k (l+1):Nat)=true:=by simpa using c3
    rw[if_pos ⟨g2,c3⟩] at oK;refine⟨by rw[Q7];omega,(m6,(l:Int)+1,YM (H:Int) bd (QV lw k (l+1):Nat),QL (H:Int) bd (QV lw k (l+1):Nat)),?_,⟨l+1,_,s8,g2,by rw[show lw.length-(l+1)=q by omega];exact oK,?_⟩,by dsimp only;omega⟩
    .and_intros<;>first|rfl|trivial
    .dsimp only;rw[c3,decide_eq_true (by omega)];rfl
  .have g2:¬ l+1<lw.length:=by have:=of_decide_eq_false g2;omega
   have e:=stop fun h=>g2 h.1;refine⟨by rw[Q7];omega,(m3,(l:Int),b,decide (0<l),(k:Int)+1),?_,⟨k+1,g,rO,by dsimp only;rw[e];rfl⟩,by dsimp only;omega⟩;and_intros<;>first|rfl|trivial
 .have g:k=lw.length:=by have:=of_decide_eq_false g;omega
  rw[g];exact⟨⟨rfl,rfl,rfl⟩,en⟩
def Dz:AL ((Int×List Int)×Int):=(.cons (.agg (.cons (.k (.i .i64)) (.one (.k (.list (.i .i64)))))) (.one (.k (.i .i64))))
def RY (d:(Int×List Int)×Int):Prop:=d.1.2.length<=1000000
def Gh (d:(Int×List Int)×Int):SV:=.tup [.val (.i .i64) (Ps d.1.1 d.1.2 d.2),.val (.i .i64) (R_ d.1.1 d.1.2 d.2),.val (.i .i64) (ZE d.1.1 d.1.2 d.2)]
def MZ (d:(Int×List Int)×Int):List OB:=[]
def Mf:CSp:=WZ Dz RY Gh MZ
def YS (hk:Int) (lw:List Int) (bd:Int):Prop :=
 (lw.length<=1000000)/\(((Q8 hk lw) != (0:Int))=true ->
  (((0:Int)=(Ps hk lw bd)/\(0:Int)=(R_ hk lw bd)/\(Q8 hk lw)=(ZE hk lw bd)/\(([]:List SV)=[]))/\(True))) /\
 (((Q8 hk lw) != (0:Int))=false ->
  ([bd].length<=1000000)/\((!(!([bd].any fun n=>decide (n<(1:Int))||decide ((24:Int)<n))))=true ->
   (((0:Int)=(Ps hk lw bd)/\(0:Int)=(R_ hk lw bd)/\(3:Int)=(ZE hk lw bd)/\(([]:List SV)=[]))/\(True))) /\
  ((!(!([bd].any fun n=>decide (n<(1:Int))||decide ((24:Int)<n))))=false ->
   ((1<=hk/\hk<=24)/\(1<=bd/\bd<=24)/\(1<=lw.length/\lw.length<=110)/\(∀ x∈lw,0<=x/\x<hk)/\(0<=(0:Int)/\(0:Int)<2 ^ hk.toNat)/\FrI hk bd ([]:List (Int×Int×Bool)))/\(∀ m1:List (Int×Int×Bool),(FrI hk bd m1)->((!(QL hk bd (0:Int)))=true ->
    (((0:Int)=(Ps hk lw bd)/\(0:Int)=(R_ hk lw bd)/\(9:Int)=(ZE hk lw bd)/\(([]:List SV)=[]))/\(True))) /\
   ((!(QL hk bd (0:Int)))=false ->
    ((1<=hk/\hk<=24)/\(1<=bd/\bd<=24)/\(1<=lw.length/\lw.length<=110)/\(∀ x∈lw,0<=x/\x<hk)/\FrI hk bd m1)/\(∀ m2:List (Int×Int×Bool),(FrI hk bd m2)->(((lgN hk lw bd)=(Ps hk lw bd)/\(lgR hk lw bd)=(R_ hk lw bd)/\(0:Int)=(ZE hk lw bd)/\(([]:List SV)=[]))/\(True)))))))
def DF:Cx:=⟨[(3,(.i .i64)),(1000025,(.pair (.i .i64) (.pair (.i .i64) .bo)))],[(37,JZ),(38,W9)],40,[],0,[(39,Xu),(40,JX)],[],[],[],false,[],[],[],[(39,3),(40,3)]⟩
def Sb (hk:Int) (lw:List Int) (bd:Int):List (Nat×LoopAnn):=[]
theorem Ll (d:(Int×List Int)×Int):gwp (DF) (Sb d.1.1 d.1.2 d.2) c11 0 (Kn [.tmp 4,.tmp 5,.tmp 6] (Gh d) (MZ d)) (Qx 40 (AL.can Dz d))=YS d.1.1 d.1.2 d.2:=by kernel_rfl
abbrev Lo:Prop:=OkC Tryz.prog 11 Mf
theorem S5 (h:∀ (hk:Int) (lw:List Int) (bd:Int),(lw.length<=1000000)->YS hk lw bd):OkC Tryz.prog 11 Mf :=
 QH Q5u mixed (C:=DF) (V:=fun (d:(Int×List Int)×Int)=>YS d.1.1 d.1.2 d.2) ⟨(.cons W7 (.cons Vv .nil)),(XsOk.cons Jw.1 (XsOk.cons Wo.1 XsOk.nil)),ItsOk.nil,YlOk.nil,IysOk.nil,(XfOk.cons rfl Jw.2 (XfOk.cons rfl Wo.2 XfOk.nil))⟩ (Ll) fun d hp=>h d.1.1 d.1.2 d.2 hp
theorem Lk:Lo:=S5 fun hk lw bd h=>by
 unfold YS;(try delta lI gD sT I64 Q1 pj8 pj4);have e:∀ n a b:Int,(decide (n<a)||decide (b<n))=!inI n a b:=fun n a b=>(Z3i n a b).symm;simp only[List.any_cons,List.any_nil,Bool.or_false,e,Bool.not_not,List.length_cons,List.length_nil,and_true];have fail:∀ E:Int,ZE hk lw bd=E->E≠0->(0:Int)=Ps hk lw bd/\(0:Int)=R_ hk lw bd/\E=ZE hk lw bd:=fun E h h0=>⟨by unfold Ps;rw[if_neg (by omega)],by unfold R_;rw[if_neg (by omega)],h.symm⟩;refine⟨h,fun c=>?_,fun c=>⟨by omega,fun c2=>?_,fun c2=>?_⟩⟩
 .have c:Q8 hk lw≠0:=by simpa using c
  exact fail _ (by unfold ZE;rw[if_pos c]) c
 all_goals have c:Q8 hk lw=0:=by simpa using c
 .have c2:inI bd 1 24=false:=by simpa using c2
  exact fail 3 (by unfold ZE;rw[if_neg (by omega),if_pos c2]) (by decide)
 have c2:inI bd 1 24=true:=by simpa using c2
 have ny:1<=bd/\bd<=24:=by unfold inI at c2;simpa using c2
 obtain⟨t1,t2,t3⟩:=Q80 c;have hp:=YG t1.1 t1.2;have eW:ZE hk lw bd=if QL hk bd 0=true then 0 else 9:=by unfold ZE;rw[if_neg (by omega),if_neg (by rw[c2];decide)]
 refine⟨⟨t1,ny,by omega,t3,⟨by omega,by omega⟩,Q7y hk bd⟩,fun m1 gY=>⟨fun c3=>?_,fun c3=>⟨⟨t1,ny,by omega,t3,gY⟩,fun m2 _=>?_⟩⟩⟩
 .have c3:QL hk bd 0=false:=by simpa using c3
  exact fail 9 (by rw[eW,c3];rfl) (by decide)
 .have c3:QL hk bd 0=true:=by simpa using c3
  have e0:ZE hk lw bd=0:=by rw[eW,if_pos c3]
  refine⟨by unfold Ps;rw[if_pos e0],by unfold R_;rw[if_pos e0],e0.symm⟩
theorem Hm {hk r:Int}{lw:List Int}(h:Q8 hk lw=0) (hr:0<=r/\r<2 ^ hk.toNat):QK hk lw hk [r]=0/\QR hk lw hk [r]=[Z2 lw r]:=by
 obtain⟨t1,t2,t3⟩:=Q80 h;have pe:Qg hk [r]=0:=by unfold Qg inI;have e1:decide (0<=r)=true:=decide_eq_true hr.1;have e2:decide (r<=2 ^ hk.toNat-1)=true:=decide_eq_true (by omega);simp[e1,e2,t1]
 have e:QK hk lw hk [r]=0:=by unfold QK;rw[if_neg (by omega),if_neg (by omega),if_neg (by simp)]
 refine⟨e,?_⟩;unfold QR;rw[if_pos e];rfl
def UW (p:List Bool) (w l:Nat):Prop:=∀ j,j<l->JA p (w+j)=JA p w
def Fy (p:List Bool):Prop:=∀ j,j<p.length->JA p j=JA p 0
theorem Q28 (p:List Bool) (w:Nat):JA p (w+p.length)=JA p w:=by unfold JA;rw[Nat.add_mod_right]
theorem O0 {p:List Bool}{w l:Nat}(h:UW p w l) (hl:p.length<=l) (h0:p≠[]):Fy p:=by
 have hn:0<p.length:=List.length_pos_iff.2 h0;have key:∀ i,JA p i=JA p w:=fun i=>by
  have hm:=Nat.mod_lt w hn;have hi:=Nat.mod_lt i hn;by_cases c:w % p.length<=i % p.length
  .have:=h (i % p.length-w % p.length) (by omega);rw[<-this];unfold JA;congr 1;rw[<-Nat.mod_add_mod,show w % p.length+(i % p.length-w % p.length)=i % p.length by omega,Nat.mod_mod]
  .have:=h (i % p.length+p.length-w % p.length) (by omega);rw[<-this];unfold JA;congr 1;rw[<-Nat.mod_add_mod,show w % p.length+(i % p.length+p.length-w % p.length)=i % p.length+p.length by omega,Nat.add_mod_right,Nat.mod_mod]
 exact fun j _=>by rw[key j,key 0]
theorem Sn {p:List Bool}(h0:p≠[]) {w:Nat}(hb:bgB p w=true):∃ k,1<=k/\k<p.length/\Xk p w=k/\UW p w k/\JA p (w+k)≠JA p w:=by
 have hn:0<p.length:=List.length_pos_iff.2 h0;have hd:JA p (w+(p.length-1))≠JA p w:=by
  have:JA p w≠JA p (w+p.length-1):=by simpa [bgB] using hb
  rw[show w+(p.length-1)=w+p.length-1 by omega];exact fun h=>this h.symm
 have ex:∀ m,m<=p.length-1->(∃ k,1<=k/\k<=m/\UW p w k/\JA p (w+k)≠JA p w)\/UW p w (m+1):=fun m=>by
  induction m with
  |zero=>exact fun _=>.inr fun j hj=>by rw[show j=0 by omega];rfl
  |succ m ih =>
   intro hm;rcases ih (by omega) with⟨k,a,b,c⟩|h
   .exact .inl ⟨k,a,by omega,c⟩
   .by_cases e:JA p (w+(m+1))=JA p w
    .refine .inr fun j hj=>?_;by_cases e2:j=m+1
     .rw[e2];exact e
     .exact h j (by omega)
    .exact .inl ⟨m+1,by omega,Nat.le_refl _,h,e⟩
 rcases ex (p.length-1) (Nat.le_refl _) with⟨k,a,b,c,d⟩|h
 .exact⟨k,a,by omega,Q26 hb a (by omega) d (fun j _ hj=>c j hj),c,d⟩
 .exact(hd (h (p.length-1) (by omega))).elim
theorem Ao {p:List Bool}(h0:p≠[]) (hu:¬ Fy p):∀ (f:Nat) (w l:Nat),p.length<=l+f->1<=l->UW p w l->∃ w',w'<p.length/\bgB p w'=true/\l<=Xk p w'
 |0,w,l,hf,hl,h=>(hu (O0 h (by omega) h0)).elim
 |f+1,w,l,hf,hl,h=>by
  have hn:0<p.length:=List.length_pos_iff.2 h0;cases hb:bgB p w with
  |true =>
   have cn:bgB p (w % p.length)=true:=by rw[Q54 h0];exact hb
   obtain⟨k,k1,k2,k3,k4,k5⟩:=Sn h0 cn;refine⟨w % p.length,Nat.mod_lt _ hn,cn,?_⟩;rw[k3];apply Classical.byContradiction;intro c;have:=h k (by omega);rw[Aa,XW] at k5;exact k5 this
  |false =>
   have e:JA p w=JA p (w+p.length-1):=by simpa [bgB] using hb
   have hw:UW p (w+p.length-1) (l+1):=fun j hj=>by
    cases j with
    |zero=>rfl
    |succ j =>rw[show w+p.length-1+(j+1)=w+j+p.length by omega,Q28,h j (by omega),e]
   obtain⟨w',a,b,c⟩:=Ao h0 hu f (w+p.length-1) (l+1) (by omega) (by omega) hw;exact⟨w',a,b,by omega⟩
theorem TW {p:List Bool}(h0:p≠[]) (hu:¬ Fy p) {w l:Nat}(hl:1<=l) (h:UW p w l):∃ w',w'<p.length/\l<=Xk p w':=by obtain⟨w',a,_,c⟩:=Ao h0 hu p.length w l (by omega) hl h;exact⟨w',a,c⟩
theorem MY {p:List Bool}(h0:p≠[]) (hu:¬ Fy p) (w:Nat):Xk p w<p.length/\UW p w (Xk p w):=by
 have hn:0<p.length:=List.length_pos_iff.2 h0;cases hb:bgB p w with
 |true =>obtain⟨k,k1,k2,k3,k4,k5⟩:=Sn h0 hb;rw[k3];exact⟨k2,k4⟩
 |false =>
  have:Xk p w=0:=by refine AK hb (.inr ?_);apply Classical.byContradiction;intro h;exact hu fun j hj=>Classical.byContradiction fun h2=>h ⟨j,hj,h2⟩
  rw[this];exact⟨hn,fun j hj=>by omega⟩
theorem Y9 {p:List Bool}(h0:p≠[]) (hu:Fy p):Xk p 0=1000/\∀ w,w<p.length->Xk p w=1000\/Xk p w=0:=by
 refine⟨Lb hu h0,fun w hw=>?_⟩;have hn:0<p.length:=List.length_pos_iff.2 h0;by_cases e:w=0
 .subst e;exact .inl (Lb hu h0)
 .right;have key:∀ i,JA p i=JA p 0:=fun i=>by rw[<-XW,hu _ (Nat.mod_lt _ hn)]
  exact AK (by unfold bgB;rw[key,key (w+p.length-1)];simp) (.inl e)
theorem OF {p:List Bool}(h0:p≠[]) {B:Nat}(hB:B<1000):okW p.length B (fun i=>p.getD i false)<->∀ k,k<p.length->Xk p k<=B:=by
 have hn:0<p.length:=List.length_pos_iff.2 h0;have ew:∀ i,p.getD (i % p.length) false=JA p i:=fun i=>rfl;constructor
 .intro h k hk;have hu:¬ Fy p:=fun hu=>by
   obtain⟨j,j1,j2,j3⟩:=h 0 hn;dsimp only at j3;rw[Nat.zero_add] at j3;have:=hu (j % p.length) (Nat.mod_lt _ hn);rw[XW,<-ew] at this;rw[this] at j3;exact j3 (by rw[JA,Nat.zero_mod])
  obtain⟨a,b⟩:=MY h0 hu k;apply Classical.byContradiction;intro c;obtain⟨j,j1,j2,j3⟩:=h k hk;have:=b j (by omega);dsimp only at j3;rw[ew] at j3;exact j3 (by rw[this,II hk])
 .intro h k hk;apply Classical.byContradiction;intro c;have hw:UW p k (B+1):=fun j hj=>by
   by_cases e:j=0
   .rw[e];rfl
   .apply Classical.byContradiction;intro d;refine c ⟨j,by omega,by omega,?_⟩;dsimp only;rw[ew];intro h2;exact d (by rw[h2,II hk])
  by_cases hu:Fy p
  .have:=h 0 hn;rw[(Y9 h0 hu).1] at this;omega
  .obtain⟨w',a,b⟩:=TW h0 hu (by omega) hw;have:=h w' a;omega
theorem Bz {H B:Nat}{f g:Nat->Bool}(lX:∀ i,i<H->f i=g i) (h:okW H B f):okW H B g:=fun k hk=>by obtain⟨j,a,b,c⟩:=h k hk;exact⟨j,a,b,by rw[<-lX k hk,<-lX _ (Nat.mod_lt _ (by omega))];exact c⟩
theorem Q7m {H B:Nat}{f:Nat->Bool}(h:okW H B f):okW H B (fun i=>!f i):=fun k hk=>by obtain⟨j,a,b,c⟩:=h k hk;exact⟨j,a,b,fun h2=>c (by simpa using h2)⟩
def Q8m (H r:Nat):Nat:=(2 ^ H-1) ^^^ r
theorem An {H r j:Nat}(hj:j<H):(Q8m H r).testBit j=!r.testBit j:=by unfold Q8m;rw[Nat.testBit_xor,Nat.testBit_two_pow_sub_one,decide_eq_true hj];cases r.testBit j<;>rfl
theorem Q6p {H r:Nat}(h:r<2 ^ H):Q8m H r<2 ^ H:=Nat.xor_lt_two_pow (by have:=Nat.two_pow_pos H;omega) h
def clo (lw:List Int) (r:Nat):List Bool:=lw.map fun k=>r.testBit k.toNat
theorem Yt (lw:List Int) (r:Nat):(clo lw r).length=lw.length:=by simp[clo]
theorem Ad {lw:List Int}{r w:Nat}(h:lw≠[]):JA (clo lw r) w=r.testBit (lw.getD (w % lw.length) 0).toNat:=by have hn:0<lw.length:=List.length_pos_iff.2 h;have hm:=Nat.mod_lt w hn;unfold JA;rw[Yt,Qf (by rw[Yt];exact hm),Qf hm];simp[clo]
theorem Bx (lw:List Int) (r:Nat):Mi (Z2 lw (r:Int))=clo lw r:=by
 unfold Mi Z2 clo;rw[List.map_map];refine List.map_congr_left fun k _=>?_;simp only[Function.comp_apply,Int.toNat_natCast];by_cases h:r.testBit k.toNat=true
 .rw[if_pos h,h];rfl
 .rw[if_neg h,Bool.eq_false_iff.2 h];rfl
theorem TD (lw:List Int) (fr j:Nat):∀ n,(QV lw fr n).testBit j=true<->∃ i,i<n/\(lw.getD ((fr+i) % lw.length) 0).toNat=j
 |0=>by simp[QV]
 |n+1=>by
  unfold QV;rw[Nat.testBit_or,Bool.or_eq_true,TD lw fr j n,Nat.testBit_two_pow,decide_eq_true_eq];constructor
  .rintro (⟨i,a,b⟩|h)
   .exact⟨i,by omega,b⟩
   .exact⟨n,by omega,h⟩
  .rintro⟨i,a,b⟩;by_cases e:i=n
   .subst e;exact .inr b
   .exact .inl ⟨i,by omega,b⟩
section
variable {H B:Nat}{lw:List Int}
def bdR (H B r:Nat):Prop:=r<2 ^ H/\okW H B r.testBit
theorem Q7j {r:Nat}(h:bdR H B r):bdR H B (Q8m H r):=⟨Q6p h.1,Bz (fun i hi=>(An hi).symm) (Q7m h.2)⟩
theorem Hx (hH:1<=H/\H<=24) (hB:1<=B) (s:Nat):QL (H:Int) (B:Int) (s:Int)=true<->∃ r,bdR H B r/\∀ j,j<H->s.testBit j=true->r.testBit j=true:=by
 unfold QL;simp only[Int.toNat_natCast,decide_eq_true_eq];constructor
 .intro h;obtain⟨a,b,c,_⟩:=Ir hH hB h;exact⟨_,⟨a,b⟩,fun j hj hs=>by rw[c j hj hs,hs]⟩
 .rintro⟨r,⟨_,b⟩,c⟩;exact bind_none hH hB b fun j hj hs=>by rw[c j hj hs,hs]
theorem AG (hH:1<=H/\H<=24) (hB:1<=B) (s:Nat) (h:QL (H:Int) (B:Int) (s:Int)=true):∃ r:Nat,YM (H:Int) (B:Int) (s:Int)=(r:Int)/\bdR H B r/\∀ j,j<H->s.testBit j=true->r.testBit j=true:=by
 have e:YM (H:Int) (B:Int) (s:Int)=((VO s s B H:Nat):Int):=by unfold YM;rw[if_pos h];simp only[Int.toNat_natCast]
 unfold QL at h;simp only[Int.toNat_natCast,decide_eq_true_eq] at h;obtain⟨a,b,c,_⟩:=Ir hH hB h;exact⟨_,e,⟨a,b⟩,fun j hj hs=>by rw[c j hj hs,hs]⟩
theorem R0 (hl:lw≠[]) (h3:∀ x∈lw,0<=x/\x<(H:Int)) (r fr l:Nat):(∀ j,j<H->(QV lw fr l).testBit j=true->r.testBit j=true)<->∀ i,i<l->JA (clo lw r) (fr+i)=true:=by
 have hn:0<lw.length:=List.length_pos_iff.2 hl;have hx:∀ i,(lw.getD ((fr+i) % lw.length) 0).toNat<H:=fun i=>by have hm:=Nat.mod_lt (fr+i) hn;have:=h3 (lw.getD ((fr+i) % lw.length) 0) (by rw[Qf hm];exact List.getElem_mem hm);omega
 constructor
 .intro h i hi;rw[Ad hl];exact h _ (hx i) ((TD lw fr _ l).2 ⟨i,hi,rfl⟩)
 .intro h j _ hs;obtain⟨i,hi,rfl⟩:=(TD lw fr j l).1 hs;have:=h i hi
  rwa [Ad hl] at this
theorem Q3a (hH:1<=H/\H<=24) (hB:1<=B) (hl:lw≠[]) (h3:∀ x∈lw,0<=x/\x<(H:Int)) (fr l:Nat):QL (H:Int) (B:Int) (QV lw fr l:Nat)=true<->∃ r,bdR H B r/\∀ i,i<l->JA (clo lw r) (fr+i)=true:=by
 rw[Hx hH hB];constructor
 .rintro⟨r,a,b⟩;exact⟨r,a,(R0 hl h3 r fr l).1 b⟩
 .rintro⟨r,a,b⟩;exact⟨r,a,(R0 hl h3 r fr l).2 b⟩
theorem Hc (hH:1<=H/\H<=24) (hB:1<=B) (hl:lw≠[]) (h3:∀ x∈lw,0<=x/\x<(H:Int)) {r fr l:Nat}(hr:bdR H B r) (hw:UW (clo lw r) fr l):QL (H:Int) (B:Int) (QV lw fr l:Nat)=true:=by
 rw[Q3a hH hB hl h3];cases hv:JA (clo lw r) fr with
 |true=>exact⟨r,hr,fun i hi=>by rw[hw i hi,hv]⟩
 |false =>refine⟨Q8m H r,Q7j hr,fun i hi=>?_⟩;have hn:0<lw.length:=List.length_pos_iff.2 hl;have hm:=Nat.mod_lt (fr+i) hn;have hx:=h3 (lw.getD ((fr+i) % lw.length) 0) (by rw[Qf hm];exact List.getElem_mem hm);have:=hw i hi;rw[hv,Ad hl] at this;rw[Ad hl,An (by omega),this];rfl
theorem Q11 (hH:1<=H/\H<=24) (hB:1<=B) (hl:lw≠[]) (h3:∀ x∈lw,0<=x/\x<(H:Int)) {fr l l':Nat}(h:l'<=l) (ho:QL (H:Int) (B:Int) (QV lw fr l:Nat)=true):QL (H:Int) (B:Int) (QV lw fr l':Nat)=true:=by rw[Q3a hH hB hl h3] at ho |-;obtain⟨r,a,b⟩:=ho;exact⟨r,a,fun i hi=>b i (by omega)⟩
theorem Eu (hH:1<=H/\H<=24) (hB:1<=B) (hl:lw≠[]) (h3:∀ x∈lw,0<=x/\x<(H:Int)) (fr:Nat):∀ m l b,lw.length<=l+m->(lgI (H:Int) lw (B:Int) fr m l b=(l,b)\/QL (H:Int) (B:Int) (QV lw fr (lgI (H:Int) lw (B:Int) fr m l b).1:Nat)=true/\(lgI (H:Int) lw (B:Int) fr m l b).2=YM (H:Int) (B:Int) (QV lw fr (lgI (H:Int) lw (B:Int) fr m l b).1:Nat)) /\
  ∀ l',(lgI (H:Int) lw (B:Int) fr m l b).1<l'->l'<lw.length->QL (H:Int) (B:Int) (QV lw fr l':Nat)=false
 |0,l,b,hm=>⟨.inl rfl,fun l' h1 h2=>by unfold lgI at h1;dsimp only at h1;omega⟩
 |m+1,l,b,hm=>by
  unfold lgI;by_cases c:l+1<lw.length/\QL (H:Int) (B:Int) (QV lw fr (l+1):Nat)=true
  .rw[if_pos c];obtain⟨a1,a2⟩:=Eu hH hB hl h3 fr m (l+1) (YM (H:Int) (B:Int) (QV lw fr (l+1):Nat)) (by omega);refine⟨.inr ?_,a2⟩;rcases a1 with a1|a1
   .rw[a1];exact⟨c.2,rfl⟩
   .exact a1
  .rw[if_neg c];refine⟨.inl rfl,fun l' h1 h2=>?_⟩;dsimp only at h1;cases ho:QL (H:Int) (B:Int) (QV lw fr l':Nat) with
   |false=>rfl
   |true=>exact(c ⟨by omega,Q11 hH hB hl h3 (by omega) ho⟩).elim
theorem Es (hH:1<=H/\H<=24) (hB:1<=B) (hl:lw≠[]) (h3:∀ x∈lw,0<=x/\x<(H:Int)):∀ k,((lgK (H:Int) lw (B:Int) k)=(0,0)\/∃ fr,QL (H:Int) (B:Int) (QV lw fr (lgK (H:Int) lw (B:Int) k).1:Nat)=true/\(lgK (H:Int) lw (B:Int) k).2=YM (H:Int) (B:Int) (QV lw fr (lgK (H:Int) lw (B:Int) k).1:Nat)) /\
  ∀ fr l',fr<k->(lgK (H:Int) lw (B:Int) k).1<l'->l'<lw.length->QL (H:Int) (B:Int) (QV lw fr l':Nat)=false
 |0=>⟨.inl rfl,fun fr l' h=>by omega⟩
 |k+1=>by
  obtain⟨a1,a2⟩:=Es hH hB hl h3 k;have lt:=Em (hk:=(H:Int)) (bd:=(B:Int)) (List.length_pos_iff.2 hl) k;obtain⟨b1,b2⟩:=Eu hH hB hl h3 k (lw.length-(lgK (H:Int) lw (B:Int) k).1) (lgK (H:Int) lw (B:Int) k).1 (lgK (H:Int) lw (B:Int) k).2 (by omega);have hle:=(Ih (H:Int) lw (B:Int) k (lw.length-(lgK (H:Int) lw (B:Int) k).1) (lgK (H:Int) lw (B:Int) k).1 (lgK (H:Int) lw (B:Int) k).2).1;rw[lgK];refine⟨?_,fun fr l' h1 h2 h4=>?_⟩
  .rcases b1 with b1|b1
   .rw[b1];exact a1
   .exact .inr ⟨k,b1⟩
  .by_cases e:fr=k
   .subst e;exact b2 l' h2 h4
   .exact a2 fr l' (by omega) (by omega) h4
end
theorem HD {α:Type}(g:α->Int):∀ (l:List α) (a:Int),a<=l.foldl (fun a x=>GP a (g x)) a/\(∀ x∈l,g x<=l.foldl (fun a x=>GP a (g x)) a)/\(∀ M,a<=M->(∀ x∈l,g x<=M)->l.foldl (fun a x=>GP a (g x)) a<=M)
 |[],a=>⟨Int.le_refl _,(fun x hx=>by cases hx),fun M h _=>h⟩
 |x::l,a=>by
  have hg:GP a (g x)=max a (g x):=by unfold GP;split<;>omega
  obtain⟨h1,h2,h3⟩:=HD g l (GP a (g x));simp only[List.foldl_cons];refine⟨by omega,fun y hy=>?_,fun M ha hM=>h3 M ?_ fun y hy=>hM y (List.mem_cons_of_mem _ hy)⟩
  .rcases List.mem_cons.1 hy with e|e
   .rw[e];omega
   .exact h2 y e
  .have:=hM x (List.mem_cons_self ..);omega
theorem BH (s:List UInt8) (M:Int):(∀ k,k<s.length->((Xk (Mi s) k:Nat):Int)<=lgX [s])/\(0<=M->(∀ k,k<s.length->((Xk (Mi s) k:Nat):Int)<=M)->lgX [s]<=M):=by
 have hF:Q6d 0 [s]=O_ 0 0 (Mi s) s.length:=by unfold Q6d Q42;simp
 unfold lgX;rw[hF];obtain⟨h1,h2,h3⟩:=HD (fun x:Int×Int×Int×Bool=>x.2.2.1) (O_ 0 0 (Mi s) s.length) 0;refine⟨fun k hk=>?_,fun h0 hM=>h3 M h0 fun x hx=>?_⟩
 .by_cases c:0<Xk (Mi s) k
  .refine h2 (0,(k:Int),(Xk (Mi s) k:Int),(Mi s).getD k false) ?_;unfold O_;rw[List.mem_filterMap];refine⟨k,List.mem_range.2 hk,?_⟩;unfold Z26;rw[if_pos ⟨c,by omega⟩]
  .have:Xk (Mi s) k=0:=by omega
   rw[this];exact h1
 .unfold O_ at hx;rw[List.mem_filterMap] at hx;obtain⟨k,hk,he⟩:=hx;unfold Z26 at he;split at he
  .cases he;exact hM k (List.mem_range.1 hk)
  .cases he
theorem Q1y {H B r:Nat}(hH:1<=H) (hB:B<1000):Q0w (r:Int) (H:Int) (B:Int)=true<->okW H B r.testBit:=by
 have hl:=Q23 (r:Int) H;have h0:Q1e (r:Int) H≠[]:=fun h=>by rw[h] at hl;simp at hl;omega
 have hb:=OF h0 hB;rw[hl] at hb;have e:okW H B r.testBit<->okW H B (fun i=>(Q1e (r:Int) H).getD i false):=by
  have lX:∀ i,i<H->r.testBit i=(Q1e (r:Int) H).getD i false:=fun i hi=>by rw[Im hi,Int.toNat_natCast]
  exact⟨Bz lX,Bz fun i hi=>(lX i hi).symm⟩
 rw[e,hb];unfold Q0w;rw[Int.toNat_natCast,List.all_eq_true];constructor
 .intro h k hk;have:=h k (List.mem_range.2 hk);rw[decide_eq_true_eq] at this;omega
 .intro h k hk;rw[decide_eq_true_eq];have:=h k (List.mem_range.1 hk);omega
theorem C6 {g:Nat->Int}{P:Nat->Bool}:∀ (n:Nat) (M:Int),0<=M->(∀ r,r<n->P r=true->g r<=M)->(List.range n).foldl (fun a r=>if P r=true then GP a (g r) else a) 0<=M/\0<=(List.range n).foldl (fun a r=>if P r=true then GP a (g r) else a) 0/\∀ r,r<n->P r=true->g r<=(List.range n).foldl (fun a r=>if P r=true then GP a (g r) else a) 0
 |0,M,h,_=>⟨h,Int.le_refl _,fun r hr=>by omega⟩
 |n+1,M,h,hM=>by
  obtain⟨h1,h2,h3⟩:=C6 (g:=g) (P:=P) n M h fun r hr=>hM r (by omega);rw[List.range_succ,List.foldl_append];simp only[List.foldl_cons,List.foldl_nil];generalize (List.range n).foldl (fun a r=>if P r=true then GP a (g r) else a) 0=F at *
  have hg:GP F (g n)=max F (g n):=by unfold GP;split<;>omega
  by_cases c:P n=true
  .rw[if_pos c];have:=hM n (by omega) c;refine⟨by omega,by omega,fun r hr hp=>?_⟩;by_cases e:r=n
   .subst e;omega
   .have:=h3 r (by omega) hp;omega
  .rw[if_neg c];refine⟨h1,h2,fun r hr hp=>?_⟩;by_cases e:r=n
   .subst e;exact(c hp).elim
   .exact h3 r (by omega) hp
theorem S4 {hk bd:Int}{lw:List Int}(ht:Q8 hk lw=0) (hb:1<=bd/\bd<=24):(ZE hk lw bd=9/\Q34 hk lw bd=0)\/(ZE hk lw bd=0/\1<=Ps hk lw bd/\Ps hk lw bd=Q34 hk lw bd/\(0<=R_ hk lw bd/\R_ hk lw bd<2 ^ hk.toNat)/\Q0w (R_ hk lw bd) hk bd=true/\lgX [Z2 lw (R_ hk lw bd)]=Ps hk lw bd):=by
 obtain⟨t1,t2,t3⟩:=Q80 ht;obtain⟨H,rfl⟩:=Int.eq_ofNat_of_zero_le (show 0<=hk by omega);obtain⟨B,rfl⟩:=Int.eq_ofNat_of_zero_le (show 0<=bd by omega);have hH:1<=H/\H<=24:=by omega
 have hB:1<=B:=by omega
 have hl:lw≠[]:=List.length_pos_iff.1 (by omega);have hi:inI (B:Int) 1 24=true:=by unfold inI;rw[decide_eq_true hb.1,decide_eq_true hb.2];rfl
 have eE:ZE (H:Int) lw (B:Int)=if QL (H:Int) (B:Int) 0=true then 0 else 9:=by unfold ZE;rw[if_neg (by omega),if_neg (by rw[hi];decide)]
 have hx:∀ r:Nat,r<2 ^ H->(Q0w (r:Int) (H:Int) (B:Int)=true<->bdR H B r):=fun r hr=>by rw[Q1y hH.1 (by omega)];exact⟨fun h=>⟨hr,h⟩,fun h=>h.2⟩
 have cD:∀ r:Nat,r<2 ^ H->QR (H:Int) lw (H:Int) [(r:Int)]=[Z2 lw (r:Int)]:=fun r hr=>(Hm ht ⟨by omega,by rw[Int.toNat_natCast];exact_mod_cast hr⟩).2;have s9:Q34 (H:Int) lw (B:Int)=(List.range (2 ^ H)).foldl (fun a (r:Nat)=>if Q0w (r:Int) (H:Int) (B:Int)=true then GP a (lgX (QR (H:Int) lw (H:Int) [(r:Int)])) else a) 0:=by unfold Q34;rw[Int.toNat_natCast]
 cases h0:QL (H:Int) (B:Int) 0 with
 |false =>
  left;rw[h0] at eE;refine⟨eE,?_⟩;have wv:∀ r:Nat,r<2 ^ H->Q0w (r:Int) (H:Int) (B:Int)=true->False:=fun r hr h=>by have:=(Hx hH hB 0).2 ⟨r,(hx r hr).1 h,fun j _ hs=>by simp at hs⟩;rw[show ((0:Nat):Int)=0 from rfl,h0] at this;cases this
  have:=C6 (g:=fun r:Nat=>lgX (QR (H:Int) lw (H:Int) [(r:Int)])) (P:=fun r:Nat=>Q0w (r:Int) (H:Int) (B:Int)) (2 ^ H) 0 (Int.le_refl _) fun r hr h=>(wv r hr h).elim;rw[s9];have a:=this.1;have b:=this.2.1;omega
 |true =>
  right;rw[h0,if_pos rfl] at eE;have eN:Ps (H:Int) lw (B:Int)=lgN (H:Int) lw (B:Int):=by unfold Ps;rw[if_pos eE]
  have eR:R_ (H:Int) lw (B:Int)=lgR (H:Int) lw (B:Int):=by unfold R_;rw[if_pos eE]
  obtain⟨r0,gH,_⟩:=(Hx hH hB 0).1 h0;have c0:∀ r,clo lw r≠[]:=fun r h=>by have:=Yt lw r;rw[h] at this;simp at this;exact hl (List.length_eq_zero_iff.1 (by omega))
  have fin:∀ (M:Int) (r:Nat),1<=M->bdR H B r->lgX [Z2 lw (r:Int)]=M->(∀ q,bdR H B q->lgX [Z2 lw (q:Int)]<=M)->lgN (H:Int) lw (B:Int)=M->lgR (H:Int) lw (B:Int)=(r:Int)->ZE (H:Int) lw (B:Int)=0/\1<=Ps (H:Int) lw (B:Int)/\Ps (H:Int) lw (B:Int)=Q34 (H:Int) lw (B:Int)/\(0<=R_ (H:Int) lw (B:Int)/\R_ (H:Int) lw (B:Int)<2 ^ (H:Int).toNat)/\Q0w (R_ (H:Int) lw (B:Int)) (H:Int) (B:Int)=true/\lgX [Z2 lw (R_ (H:Int) lw (B:Int))]=Ps (H:Int) lw (B:Int):=fun M r hM hr hg hall hn mL=>by
   have ff:=C6 (g:=fun r:Nat=>lgX (QR (H:Int) lw (H:Int) [(r:Int)])) (P:=fun r:Nat=>Q0w (r:Int) (H:Int) (B:Int)) (2 ^ H) M (by omega) fun q hq h=>by rw[cD q hq];exact hall q ((hx q hq).1 h)
   have f3:=ff.2.2 r hr.1 ((hx r hr.1).2 hr);rw[cD r hr.1,hg] at f3;rw[eN,eR,hn,mL,s9];refine⟨eE,hM,by have:=ff.1;omega,⟨by omega,by rw[Int.toNat_natCast];exact_mod_cast hr.1⟩,(hx r hr.1).2 hr,hg⟩
  have jX:∀ r:Nat,(Z2 lw (r:Int)).length=lw.length:=fun r=>by simp[Z2]
  cases hE:QL (H:Int) (B:Int) (QV lw 0 lw.length:Nat) with
  |true =>
   obtain⟨r,v1,v2,v3⟩:=AG hH hB _ hE;have v3:=(R0 hl t3 r 0 lw.length).1 v3;have hu:Fy (clo lw r):=fun j hj=>by rw[Yt] at hj;have a:=v3 j hj;have b:=v3 0 (by omega);rw[Nat.zero_add] at a b;rw[a,b]
   refine fin 1000 r (by decide) v2 ?_ (fun q hq=>?_) (by unfold lgN;rw[if_pos hE]) (by unfold lgR;rw[if_pos hE];exact v1)
   .obtain⟨l1,l2⟩:=BH (Z2 lw (r:Int)) 1000;rw[Bx,jX] at l1 l2;have a:=l1 0 (by omega);rw[(Y9 (c0 r) hu).1] at a;have b:=l2 (by decide) fun k hk=>by
     rcases (Y9 (c0 r) hu).2 k (by rw[Yt];exact hk) with e|e<;>rw[e]<;>decide
    omega
   .obtain⟨l1,l2⟩:=BH (Z2 lw (q:Int)) 1000;rw[Bx,jX] at l2;refine l2 (by decide) fun k hk=>?_;by_cases pq:Fy (clo lw q)
    .rcases (Y9 (c0 q) pq).2 k (by rw[Yt];exact hk) with e|e<;>rw[e]<;>decide
    .have:=(MY (c0 q) pq k).1;rw[Yt] at this;omega
  |false =>
   have rP:∀ r,bdR H B r->¬ Fy (clo lw r):=fun r hr hu=>by
    have:=Hc hH hB hl t3 (fr:=0) (l:=lw.length) hr fun j hj=>by rw[Nat.zero_add];exact hu j (by rw[Yt];exact hj)
    rw[hE] at this;cases this
   obtain⟨k1,k2⟩:=Es hH hB hl t3 lw.length;have s7:=Em (hk:=(H:Int)) (bd:=(B:Int)) (List.length_pos_iff.2 hl) lw.length;have wx:lgN (H:Int) lw (B:Int)=((lgK (H:Int) lw (B:Int) lw.length).1:Int):=by unfold lgN;rw[if_neg (by rw[hE];decide)]
   have wz:lgR (H:Int) lw (B:Int)=(lgK (H:Int) lw (B:Int) lw.length).2:=by unfold lgR;rw[if_neg (by rw[hE];decide)]
   have n2:2<=lw.length:=by apply Classical.byContradiction;intro h;refine rP r0 gH fun j hj=>?_;rw[Yt] at hj;rw[show j=0 by omega]
   have L1:1<=(lgK (H:Int) lw (B:Int) lw.length).1:=by apply Classical.byContradiction;intro h;have:=k2 0 1 (by omega) (by omega) (by omega);rw[Hc hH hB hl t3 (fr:=0) (l:=1) gH fun j hj=>by rw[show j=0 by omega]] at this;cases this
   rcases k1 with k1|⟨fr,k1,k3⟩
   .rw[k1] at L1;dsimp only at L1;omega
   obtain⟨r,v1,v2,v3⟩:=AG hH hB _ k1;have v3:=(R0 hl t3 r fr _).1 v3;generalize (lgK (H:Int) lw (B:Int) lw.length).1=L at *
   have wA:UW (clo lw r) fr L:=fun j hj=>by have a:=v3 j hj;have b:=v3 0 (by omega);rw[Nat.add_zero] at b;rw[a,b]
   have hle:∀ q,bdR H B q->lgX [Z2 lw (q:Int)]<=(L:Int):=fun q hq=>by obtain⟨l1,l2⟩:=BH (Z2 lw (q:Int)) (L:Int);rw[Bx,jX] at l2;refine l2 (by omega) fun k hk=>?_;obtain⟨a,b⟩:=MY (c0 q) (rP q hq) k;rw[Yt] at a;apply Classical.byContradiction;intro h;have:=k2 k (Xk (clo lw q) k) hk (by omega) a;rw[Hc hH hB hl t3 hq b] at this;cases this
   refine fin (L:Int) r (by omega) v2 ?_ hle wx (by rw[wz,k3,v1]);obtain⟨l1,_⟩:=BH (Z2 lw (r:Int)) 0;rw[Bx,jX] at l1;obtain⟨w',w1,w2⟩:=TW (c0 r) (rP r v2) L1 wA;rw[Yt] at w1;have a:=l1 w' w1;have b:=hle r v2;omega
end Go.Proofs.Tryz
namespace Go.Proofs.Tryz
open Go Go.V Go.Proofs
def fwL (s:List UInt8) (w:Nat):Nat:=((List.range (s.length+1)).find? fun k=>decide (1<=k)&&(s.getD ((w+k) % s.length) 0 != s.getD w 0)).getD 1000
def Cg (a:Int) (s:List UInt8) (n:Nat):Int:=(List.range n).foldl (fun a w=>GP a (fwL s w:Nat)) a
def A5 (c:List (List UInt8)) (n:Nat):Int:=(List.range n).foldl (fun a i=>Cg a (c.getD i []) (c.getD i []).length) 0
def Ie (c:List (List UInt8)):Int:=A5 c c.length
theorem O3 (a:Int) (s:List UInt8) (n:Nat):Cg a s (n+1)=GP (Cg a s n) (fwL s n:Nat):=by simp[Cg,List.range_succ]
theorem Gn (c:List (List UInt8)) (n:Nat):A5 c (n+1)=Cg (A5 c n) (c.getD n []) (c.getD n []).length:=by simp only[A5,List.range_succ,List.foldl_append,List.foldl_cons,List.foldl_nil]
theorem Q4v {s:List UInt8}{w k:Nat}(h1:1<=k) (h2:k<=s.length) (hx:s.getD ((w+k) % s.length) 0≠s.getD w 0) (h:∀ t,1<=t->t<k->s.getD ((w+t) % s.length) 0=s.getD w 0):fwL s w=k:=by
 unfold fwL;have:(List.range (s.length+1)).find? (fun k=>decide (1<=k)&&(s.getD ((w+k) % s.length) 0 != s.getD w 0))=some k:=by
  refine List.find?_range_eq_some.2 ⟨?_,by simp;omega,fun j hj=>?_⟩
  .rw[decide_eq_true h1,Bool.true_and,bne_iff_ne];exact hx
  .rcases Nat.eq_zero_or_pos j with h0|h0
   .simp[h0]
   .rw[h j h0 hj];simp
 rw[this];rfl
theorem Ot {s:List UInt8}{w:Nat}(h:∀ t,1<=t->t<=s.length->s.getD ((w+t) % s.length) 0=s.getD w 0):fwL s w=1000:=by
 unfold fwL;have:(List.range (s.length+1)).find? (fun k=>decide (1<=k)&&(s.getD ((w+k) % s.length) 0 != s.getD w 0))=none:=by
  rw[List.find?_eq_none];intro j hj;rw[List.mem_range] at hj;rcases Nat.eq_zero_or_pos j with h0|h0
  .simp[h0]
  .rw[h j h0 (by omega)];simp
 rw[this];rfl
theorem Z2i (x y:UInt8):(((x.toNat:Nat):Int)==((y.toNat:Nat):Int))=(x==y):=by
 rw[Bool.eq_iff_iff,beq_iff_eq,beq_iff_eq];constructor
 .intro h;exact UInt8.toNat_inj.1 (by omega)
 .intro h;rw[h]
def VL:AL (List (List UInt8)):=(.one (.k (.list .st)))
def GO (d:List (List UInt8)):Prop:=d.length<=1000/\(∀ s∈d,s.length<=1000)
def Kr (d:List (List UInt8)):SV:=.val (.i .i64) (Ie d)
def KW (d:List (List UInt8)):List OB:=[]
def Yj:CSp:=WZ VL GO Kr KW
def JS (c:List (List UInt8)):Prop :=
 ∃ (e2:Unit) (d20:Int×Int),((c=c/\(0:Int)=d20.1/\(0:Int)=d20.2/\True)/\(True)) /\
 LoopP (fun (d2:Int×Int) (q2:(Int×Int)->Prop) =>
  ((decide (d2.2<(lI c)))=true ->
   (0<=d2.2)/\(d2.2<(List.length c))/\∃ (e4:Int×Int) (d40:Int×Int),((c=c/\d2.1=d40.1/\d2.2=e4.1/\(lI (gD c d2.2 []))=e4.2/\(0:Int)=d40.2/\True)/\(True)) /\
   LoopP (fun (d4:Int×Int) (q4:(Int×Int)->Prop) =>
    ((decide (d4.2<e4.2))=true ->
     ∃ (e6:Int×Int×Int×Int) (d60:Int),((c=c/\d4.1=e6.1/\e4.1=e6.2.1/\e4.2=e6.2.2.1/\d4.2=e6.2.2.2/\(1:Int)=d60/\True)/\(True)) /\
     LoopP (fun (d6:Int) (q6:(Int)->Prop) =>
      ((decide (d6<=e6.2.2.1))=true->0<=e6.2.1)/\((decide (d6<=e6.2.2.1))=true->e6.2.1<(List.length c))/\((decide (d6<=e6.2.2.1))=true->InK .i64 (e6.2.2.2+d6))/\((decide (d6<=e6.2.2.1))=true->e6.2.2.1≠0)/\((decide (d6<=e6.2.2.1))=true->0<=(Int.tmod (e6.2.2.2+d6) e6.2.2.1))/\((decide (d6<=e6.2.2.1))=true->(Int.tmod (e6.2.2.2+d6) e6.2.2.1)<(List.length (gD c e6.2.1 [])))/\((decide (d6<=e6.2.2.1))=true->0<=e6.2.1)/\((decide (d6<=e6.2.2.1))=true->e6.2.1<(List.length c))/\((decide (d6<=e6.2.2.1))=true->0<=e6.2.2.2)/\((decide (d6<=e6.2.2.1))=true->e6.2.2.2<(List.length (gD c e6.2.1 [])))/\(((decide (d6<=e6.2.2.1))&&(((UInt8.toNat (gD (gD c e6.2.1 []) (Int.tmod (e6.2.2.2+d6) e6.2.2.1) 0):Nat):Int)==((UInt8.toNat (gD (gD c e6.2.1 []) e6.2.2.2 0):Nat):Int)))=true ->
       (I64 (d6+(1:Int)))/\(∃ d7:Int,((c=c/\e6.1=e6.1/\e6.2.1=e6.2.1/\e6.2.2.1=e6.2.2.1/\e6.2.2.2=e6.2.2.2/\(d6+(1:Int))=d7/\True)/\(True))/\q6 d7)) /\
      (((decide (d6<=e6.2.2.1))&&(((UInt8.toNat (gD (gD c e6.2.1 []) (Int.tmod (e6.2.2.2+d6) e6.2.2.1) 0):Nat):Int)==((UInt8.toNat (gD (gD c e6.2.1 []) e6.2.2.2 0):Nat):Int)))=false ->
       ((decide (d6 > e6.2.2.1))=true ->
        (I64 (e6.2.2.2+(1:Int)))/\(∃ d8:Int×Int,((c=c/\(GP e6.1 (1000:Int))=d8.1/\e6.2.1=e4.1/\e6.2.2.1=e4.2/\(e6.2.2.2+(1:Int))=d8.2/\True)/\(True))/\q4 d8)) /\
       ((decide (d6 > e6.2.2.1))=false ->
        (I64 (e6.2.2.2+(1:Int)))/\(∃ d9:Int×Int,((c=c/\(GP e6.1 d6)=d9.1/\e6.2.1=e4.1/\e6.2.2.1=e4.2/\(e6.2.2.2+(1:Int))=d9.2/\True)/\(True))/\q4 d9)))) d60) /\
    ((decide (d4.2<e4.2))=false ->
     (I64 (e4.1+(1:Int)))/\(∃ d10:Int×Int,((c=c/\d4.1=d10.1/\(e4.1+(1:Int))=d10.2/\True)/\(True))/\q2 d10))) d40) /\
  ((decide (d2.2<(lI c)))=false ->
   (d2.1=(Ie c)/\(True)))) d20
def VJ:Cx:=⟨[],[],55,[],0,[],[],[],[],false,[],[],[],[]⟩
def Bf (c:List (List UInt8)):List (Nat×LoopAnn):=[(0,⟨Unit,Int×Int,[0,3,4],fun e x=>[.val (.list .st) c,.val (.i .i64) x.1,.val (.i .i64) x.2],fun e x=>[]⟩),
 (2,⟨Int×Int,Int×Int,[0,3,4,5,6],fun e x=>[.val (.list .st) c,.val (.i .i64) x.1,.val (.i .i64) e.1,.val (.i .i64) e.2,.val (.i .i64) x.2],fun e x=>[]⟩),
 (4,⟨Int×Int×Int×Int,Int,[0,3,4,5,6,7],fun e x=>[.val (.list .st) c,.val (.i .i64) e.1,.val (.i .i64) e.2.1,.val (.i .i64) e.2.2.1,.val (.i .i64) e.2.2.2,.val (.i .i64) x],fun e x=>[]⟩)]
theorem B8 (d:List (List UInt8)):gwp (VJ) (Bf d) c25 0 (Kn [.tmp 2] (Kr d) (KW d)) (Qx 55 (AL.can VL d))=JS d:=by kernel_rfl
abbrev B6:Prop:=OkC Tryz.prog 25 Yj
theorem D_ (h:∀ (c:List (List UInt8)),(c.length<=1000/\(∀ s∈c,s.length<=1000))->JS c):OkC Tryz.prog 25 Yj :=
 QH Q69 mixed (C:=VJ) (V:=fun (d:List (List UInt8))=>JS d) ⟨.nil,XsOk.nil,ItsOk.nil,YlOk.nil,IysOk.nil,XfOk.nil⟩ (B8) fun d hp=>h d hp
theorem B5:B6:=D_ fun c h=>by
 obtain⟨h1,h2⟩:=h;unfold JS;(try delta lI gD sT I64 Q1 pj8 pj4);refine⟨(),(0,0),by and_intros<;>first|rfl|trivial,?_⟩;refine LoopP.count2 c.length (fun i a=>a=A5 c i) rfl fun i a hi hJ q hq=>?_;subst hJ;dsimp only;refine⟨fun g=>?_,fun g=>?_⟩
 .have g:i<c.length:=by have:=of_decide_eq_true g;omega
  simp only[Int.toNat_natCast];refine⟨by omega,by omega,((i:Int),((c.getD i []).length:Int)),(A5 c i,0),by and_intros<;>first|rfl|trivial,?_⟩;have hn:=Gn c i;have jd:(c.getD i []).length<=1000:=by rw[Qf g];exact h2 _ (List.getElem_mem g)
  dsimp only;generalize hs:c.getD i []=s at hn jd |-;refine LoopP.count2 s.length (fun w a=>a=Cg (A5 c i) s w) rfl fun w a hw hJ q2 kF=>?_;subst hJ;dsimp only;refine⟨fun g2=>?_,fun g2=>?_⟩
  .have g2:w<s.length:=by have:=of_decide_eq_true g2;omega
   refine⟨(Cg (A5 c i) s w,(i:Int),(s.length:Int),(w:Int)),1,by and_intros<;>first|rfl|trivial,?_⟩;dsimp only;have hr:=O3 (A5 c i) s w;refine⟨fun d=>∃ k:Nat,d=k/\1<=k/\k<=s.length+1/\∀ t,1<=t->t<k->s.getD ((w+t) % s.length) 0=s.getD w 0,fun d=>s.length+2-d.toNat,⟨1,rfl,by omega,by omega,fun t h1 h2=>by omega⟩,?_⟩;rintro _ ⟨k,rfl,k1,k2,hk⟩;have e3:(w:Int)+(k:Int)=((w+k:Nat):Int):=by omega
   have hm:(w+k) % s.length<s.length:=Nat.mod_lt _ (by omega);simp only[e3,By,Int.toNat_natCast,hs,Z2i,Q7];refine⟨fun _=>by omega,fun _=>by omega,fun _=>by omega,fun _=>by omega,fun _=>by omega,fun _=>by omega,fun _=>by omega,fun _=>by omega,fun _=>by omega,fun _=>by omega,fun hx=>?_,fun hx=>⟨fun au=>?_,fun au=>?_⟩⟩
   .rw[Bool.and_eq_true,decide_eq_true_eq,beq_iff_eq] at hx;refine⟨by omega,(k:Int)+1,by and_intros<;>first|rfl|trivial,⟨k+1,by omega,by omega,by omega,fun t t1 t2=>?_⟩,by omega⟩;rcases Nat.lt_succ_iff_lt_or_eq.1 t2 with t2|rfl
    .exact hk t t1 t2
    .exact hx.2
   .have au:=of_decide_eq_true au;rw[Ot fun t t1 t2=>hk t t1 (by omega)] at hr;exact⟨by omega,(Cg (A5 c i) s (w+1),(w:Int)+1),by rw[hr];and_intros<;>first|rfl|trivial,kF _ g2 rfl⟩
   .have au:=of_decide_eq_false au;have hx:s.getD ((w+k) % s.length) 0≠s.getD w 0:=by
     rw[Bool.and_eq_false_iff,decide_eq_false_iff_not,beq_eq_false_iff_ne] at hx;rcases hx with hx|hx
     .omega
     .exact hx
    rw[Q4v k1 (by omega) hx hk] at hr;exact⟨by omega,(Cg (A5 c i) s (w+1),(w:Int)+1),by rw[hr];and_intros<;>first|rfl|trivial,kF _ g2 rfl⟩
  .have g2:w=s.length:=by have:=of_decide_eq_false g2;omega
   subst g2;exact⟨by rw[Q7];omega,(A5 c (i+1),(i:Int)+1),by rw[hn];and_intros<;>first|rfl|trivial,hq _ g rfl⟩
 .have g:i=c.length:=by have:=of_decide_eq_false g;omega
  subst g;and_intros<;>first|rfl|trivial
def isX (s:List UInt8):Prop:=∀ b∈s,b=120\/b=46
theorem Z2v {s:List UInt8}(hx:isX s) {i j:Nat}(hi:i<s.length) (hj:j<s.length):s.getD i 0=s.getD j 0<->(Mi s).getD i false=(Mi s).getD j false:=by rw[S1 hi,S1 hj,Qf hi,Qf hj];rcases hx _ (List.getElem_mem hi) with h1|h1<;>rcases hx _ (List.getElem_mem hj) with h2|h2<;>rw[h1,h2]<;>decide
theorem Q00 {s:List UInt8}(hx:isX s) {w:Nat}(hw:w<s.length):(fwL s w=1000/\Fy (Mi s))\/(1<=fwL s w/\UW (Mi s) w (fwL s w)/\JA (Mi s) (w+fwL s w)≠JA (Mi s) w):=by
 have aR:=Vp s;have h0:Mi s≠[]:=fun e=>by rw[e] at aR;simp at aR;omega
 have he:∀ t,s.getD ((w+t) % s.length) 0=s.getD w 0<->JA (Mi s) (w+t)=JA (Mi s) w:=fun t=>by rw[Z2v hx (Nat.mod_lt _ (by omega)) hw];unfold JA;rw[aR,Nat.mod_eq_of_lt hw]
 cases hf:(List.range (s.length+1)).find? (fun k=>decide (1<=k)&&(s.getD ((w+k) % s.length) 0 != s.getD w 0)) with
 |none =>
  have e:fwL s w=1000:=by unfold fwL;rw[hf];rfl
  have hn:=List.find?_eq_none.1 hf;refine .inl ⟨e,O0 (w:=w) (l:=s.length) (fun j hj=>?_) (by omega) h0⟩;rcases Nat.lt_or_ge j 1 with h1|h1
  .rw[show j=0 by omega,Nat.add_zero]
  .have:=hn j (List.mem_range.2 (by omega));rw[decide_eq_true h1,Bool.true_and,bne_iff_ne,ne_eq,Decidable.not_not] at this;exact(he j).1 this
 |some k =>
  have e:fwL s w=k:=by unfold fwL;rw[hf];rfl
  obtain⟨a,_,b⟩:=List.find?_range_eq_some.1 hf;rw[Bool.and_eq_true,decide_eq_true_eq,bne_iff_ne] at a;rw[e];refine .inr ⟨a.1,fun j hj=>?_,fun h=>a.2 ((he k).2 h)⟩;rcases Nat.lt_or_ge j 1 with h1|h1
  .rw[show j=0 by omega,Nat.add_zero]
  .have:=b j hj;rw[decide_eq_true h1,Bool.true_and,Bool.not_eq_true',bne_eq_false_iff_eq] at this;exact(he j).1 this
theorem Z1c {s:List UInt8}(hx:isX s) {M:Int}(h:∀ k,k<s.length->((Xk (Mi s) k:Nat):Int)<=M) {w:Nat}(hw:w<s.length):((fwL s w:Nat):Int)<=M:=by
 have aR:=Vp s;have h0:Mi s≠[]:=fun e=>by rw[e] at aR;simp at aR;omega
 rcases Q00 hx hw with⟨e,hu⟩|⟨h1,h2,h3⟩
 .have:=h 0 (by omega);rw[(Y9 h0 hu).1] at this;omega
 .have hu:¬ Fy (Mi s):=fun hu=>h3 (by rw[<-XW _ (w+_),<-XW _ w,hu _ (Nat.mod_lt _ (by omega)),hu _ (Nat.mod_lt _ (by omega))]);obtain⟨w',dg,hl⟩:=TW h0 hu h1 h2;have:=h w' (by omega);omega
theorem Z18 {s:List UInt8}(hx:isX s) {M:Int}(h:∀ w,w<s.length->((fwL s w:Nat):Int)<=M) {k:Nat}(hk:k<s.length):((Xk (Mi s) k:Nat):Int)<=M:=by
 have aR:=Vp s;have h0:Mi s≠[]:=fun e=>by rw[e] at aR;simp at aR;omega
 have hM:=h k hk;rcases Q00 hx hk with⟨e,hu⟩|⟨h1,h2,h3⟩
 .rcases (Y9 h0 hu).2 k (by omega) with h1|h1<;>rw[h1]<;>omega
 .have hu:¬ Fy (Mi s):=fun hu=>h3 (by rw[<-XW _ (k+_),<-XW _ k,hu _ (Nat.mod_lt _ (by omega)),hu _ (Nat.mod_lt _ (by omega))]);rcases Nat.lt_or_ge (fwL s k) (Xk (Mi s) k) with ah|bj
  .exact absurd ((MY h0 hu k).2 _ ah) h3
  .omega
theorem P2 (a:Int) (s:List UInt8) (n:Nat):a<=Cg a s n/\(∀ w,w<n->((fwL s w:Nat):Int)<=Cg a s n)/\∀ M,a<=M->(∀ w,w<n->((fwL s w:Nat):Int)<=M)->Cg a s n<=M:=by obtain⟨h1,h2,h3⟩:=HD (fun w:Nat=>((fwL s w:Nat):Int)) (List.range n) a;exact⟨h1,fun w hw=>h2 w (List.mem_range.2 hw),fun M ha h=>h3 M ha fun w hw=>h w (List.mem_range.1 hw)⟩
theorem OO {s:List UInt8}(hx:isX s) (h0:s≠[]):Ie [s]=lgX [s]:=by
 have hl:0<s.length:=List.length_pos_iff.2 h0;obtain⟨l1,l2⟩:=BH s (Ie [s]);have e:Ie [s]=Cg 0 s s.length:=by show A5 [s] (0+1)=_;rw[Gn];rfl
 obtain⟨g1,g2,g3⟩:=P2 0 s s.length;rw[e] at l2 |-;have a:=l1 0 hl;have b:=g3 (lgX [s]) (by omega) fun w hw=>Z1c hx l1 hw;have c:=l2 g1 fun k hk=>Z18 hx g2 hk;omega
theorem At (lw:List Int) (r:Int):isX (Z2 lw r):=Q64
theorem Q4b {hk bd:Int}{lw:List Int}(ht:Q8 hk lw=0) (hb:1<=bd/\bd<=24):ZE hk lw bd=if QL hk bd 0=true then 0 else 9:=by
 have hi:inI bd 1 24=true:=by unfold inI;rw[decide_eq_true hb.1,decide_eq_true hb.2];rfl
 unfold ZE;rw[if_neg (by omega),if_neg (by rw[hi];decide)]
def lOk (h8:Int) (ws rs:List Int):Prop:=0<=h8/\h8<=255/\u8s ws/\Z35 rs
def Gg (c:List (List UInt8)) (pk wp:Int):Bool:=c.all (fun s=>decide ((s.length:Int)=wp))&&decide ((c.length:Int)=pk)
theorem Tw {c:List (List UInt8)}{pk wp:Int}:Gg c pk wp=true<->(∀ s∈c,(s.length:Int)=wp)/\(c.length:Int)=pk:=by simp only[Gg,Bool.and_eq_true,List.all_eq_true,decide_eq_true_eq]
def W6:AL (Int×List Int×List Int):=(.one (.agg (.cons (.k (.i .u8)) (.cons (.k (.list (.i .u8))) (.one (.k (.list (.i .u16))))))))
def VT (d:Int×List Int×List Int):Prop:=lOk d.1 d.2.1 d.2.2
def XF (d:Int×List Int×List Int):SV:=.agg [.val (.i .i64) (hkN 16 d.1),.lst 0]
def XC (d:Int×List Int×List Int):List OB:=[.lst 3 (.i .i64) (Q5 (hkN 16 d.1) 48 d.2.1) false]
def JB:CSp:=WZ W6 VT XF XC
def Ze (h8:Int) (ws:List Int) (rs:List Int):Prop :=
 (I64 h8)/\((16:Int)≠0)/\(I64 ((1:Int)+(Int.tmod h8 (16:Int))))/\∃ (e4:Unit) (d40:(List Int)×Int),((True/\True/\True/\(0:Int)=d40.2/\True)/\((h8=h8/\ws=ws/\rs=rs/\(([]:List SV)=[]))/\((0:Int)=(0:Int)/\True/\(([]:List SV)=[]))/\(((1:Int)+(Int.tmod h8 (16:Int)))=((1:Int)+(Int.tmod h8 (16:Int)))/\True/\(([]:List SV)=[]))/\(d40.1=[]/\(List.isEmpty d40.1)=true)/\True)) /\
 LoopP (fun (d4:(List Int)×Int) (q4:((List Int)×Int)->Prop) =>
  (((d4.2==(0:Int))||((decide (d4.2<(lI ws)))&&(decide (d4.2<(48:Int)))))=true ->
   ((decide (d4.2<(lI ws)))=true ->
    (0<=d4.2)/\(d4.2<(List.length ws))/\(I64 (gD ws d4.2 0))/\(((1:Int)+(Int.tmod h8 (16:Int)))≠0)/\(((List.length d4.1)+(List.length [(Int.tmod (gD ws d4.2 0) ((1:Int)+(Int.tmod h8 (16:Int))))]))*8<=70368744177664)/\(I64 (d4.2+(1:Int)))/\(∃ d5:(List Int)×Int,((True/\True/\True/\(d4.2+(1:Int))=d5.2/\True)/\((h8=h8/\ws=ws/\rs=rs/\(([]:List SV)=[]))/\((0:Int)=(0:Int)/\True/\(([]:List SV)=[]))/\(((1:Int)+(Int.tmod h8 (16:Int)))=((1:Int)+(Int.tmod h8 (16:Int)))/\True/\(([]:List SV)=[]))/\((d4.1++[(Int.tmod (gD ws d4.2 0) ((1:Int)+(Int.tmod h8 (16:Int))))])=d5.1/\false=(List.isEmpty d5.1))/\True))/\q4 d5)) /\
   ((decide (d4.2<(lI ws)))=false ->
    (((List.length d4.1)+(List.length [(0:Int)]))*8<=70368744177664)/\(I64 (d4.2+(1:Int)))/\(∃ d6:(List Int)×Int,((True/\True/\True/\(d4.2+(1:Int))=d6.2/\True)/\((h8=h8/\ws=ws/\rs=rs/\(([]:List SV)=[]))/\((0:Int)=(0:Int)/\True/\(([]:List SV)=[]))/\(((1:Int)+(Int.tmod h8 (16:Int)))=((1:Int)+(Int.tmod h8 (16:Int)))/\True/\(([]:List SV)=[]))/\((d4.1++[(0:Int)])=d6.1/\false=(List.isEmpty d6.1))/\True))/\q4 d6))) /\
  (((d4.2==(0:Int))||((decide (d4.2<(lI ws)))&&(decide (d4.2<(48:Int)))))=false ->
   ((((1:Int)+(Int.tmod h8 (16:Int)))=(hkN 16 h8)/\True/\(([]:List SV)=[]))/\((d4.1=(Q5 (hkN 16 h8) 48 ws)/\(List.isEmpty d4.1)=false)/\True)))) d40
def Wg:Cx:=⟨[(3,(.i .i64))],[],48,[],0,[],[],[],[],false,[],[],[],[]⟩
def Uf (h8:Int) (ws:List Int) (rs:List Int):List (Nat×LoopAnn):=[(0,⟨Unit,(List Int)×Int,[1,2,3,4],fun e x=>[.box 1 0,.box 2 0,.box 3 0,.val (.i .i64) x.2],fun e x=>[(1,.slot 1,.cells [.val (.i .u8) h8,.val (.list (.i .u8)) ws,.val (.list (.i .u16)) rs] (some 46)),(2,.slot 2,.cells [.val (.i .i64) (0:Int),.nilS] (some 24)),(3,.slot 3,.cells [.val (.i .i64) ((1:Int)+(Int.tmod h8 (16:Int))),.lst 45] (some 24)),(45,.cell 3 1,.lst 3 (.i .i64) x.1 (List.isEmpty x.1))]⟩)]
theorem UD (d:Int×List Int×List Int):gwp (Wg) (Uf d.1 d.2.1 d.2.2) c18 0 (Kn [.cell 2 true 2] (XF d) (XC d)) (Qx 48 (AL.can W6 d))=Ze d.1 d.2.1 d.2.2:=by kernel_rfl
abbrev Um:Prop:=OkC Tryz.prog 18 JB
theorem Ud (h:∀ (h8:Int) (ws:List Int) (rs:List Int),(lOk h8 ws rs)->Ze h8 ws rs):OkC Tryz.prog 18 JB :=
 QH Q7u mixed (C:=Wg) (V:=fun (d:Int×List Int×List Int)=>Ze d.1 d.2.1 d.2.2) ⟨.nil,XsOk.nil,ItsOk.nil,YlOk.nil,IysOk.nil,XfOk.nil⟩ (UD) fun d hp=>h d.1 d.2.1 d.2.2 hp
theorem Hr {m h8:Int}(hm:0<m) (h:0<=h8):1<=hkN m h8/\hkN m h8<=m:=by have h1:=Int.tmod_nonneg m h;have h2:=Int.tmod_lt_of_pos h8 hm;simp only[hkN];omega
theorem Tp {hk:Int}{cap:Nat}{ws:List Int}:(Q5 hk cap ws).length=if ws=[] then 1 else min cap ws.length:=by unfold Q5;split<;>simp
theorem FX {hk:Int}{cap:Nat}{ws:List Int}{i:Nat}(h:i<ws.length) (hc:i<cap):(Q5 hk cap ws)[i]?=some (Int.tmod (ws.getD i 0) hk):=by
 have aC:ws≠[]:=by rintro rfl;simp at h
 unfold Q5;rw[if_neg aC];simp[hc,h]
theorem U3:Um:=Ud fun h8 ws rs h=>by
 obtain⟨h1,h2,pT,mb⟩:=h;have hk:=Hr (m:=16) (by omega) h1;have e:(1+Int.tmod h8 16)=hkN 16 h8:=rfl;have hk:1<=hkN 16 h8/\hkN 16 h8<=16:=hk;unfold Ze;(try delta lI gD sT I64 Q1 pj8 pj4);simp only[true_and,and_true,exists_const,decide_eq_true_eq,decide_eq_false_iff_not,ne_eq,Q7,e];refine⟨by omega,by omega,by omega,([],0),⟨rfl,rfl,rfl⟩,?_⟩;have hN:(Q5 (hkN 16 h8) 48 ws).length=if ws=[] then 1 else min 48 ws.length:=Tp
 have ai:∀ k:Nat,(((k:Int)==0)||(decide ((k:Int)<ws.length)&&decide ((k:Int)<48)))=decide (k<(Q5 (hkN 16 h8) 48 ws).length):=fun k=>by
  rw[hN];by_cases hz:ws=[]
  .subst hz;cases k<;>simp;omega
  .have:0<ws.length:=List.length_pos_iff.2 hz;rw[if_neg hz];cases k with
   |zero=>simp;omega
   |succ k =>rw[Bool.eq_iff_iff];simp;omega
 have rQ:(Q5 (hkN 16 h8) 48 ws).length<=48:=by rw[hN];split<;>omega
 refine LoopP.count2 (Q5 (hkN 16 h8) 48 ws).length (fun k xs=>xs=(Q5 (hkN 16 h8) 48 ws).take k) (by simp) fun k xs hk hJ q hq=>?_;dsimp only;rw[ai];simp only[decide_eq_true_eq,decide_eq_false_iff_not,Int.toNat_natCast,Int.ofNat_lt];refine⟨fun ah=>⟨fun hw=>?_,fun hw=>?_⟩,fun bj=>?_⟩
 .have hw:k<ws.length:=by omega
  have wB:=pT _ (List.getElem_mem hw);have rR:k<48:=by omega
  simp only[Qf hw,List.length_singleton];have hv:(Q5 (hkN 16 h8) 48 ws)[k]=Int.tmod ws[k] (hkN 16 h8):=by have:=FX (hk:=hkN 16 h8) hw rR;rw[Qf hw] at this;have h3:=List.getElem?_eq_getElem ah;exact osj (h3.symm.trans this)
  refine⟨by omega,by omega,by omega,by omega,by rw[hJ,List.length_take];omega,by omega,(xs++[Int.tmod ws[k] (hkN 16 h8)],(k:Int)+1),⟨rfl,rfl,by simp⟩,hq _ ah ?_⟩;rw[QI ah,<-hJ,hv]
 .have hz:ws=[]:=by
   cases pT:ws with
   |nil=>rfl
   |cons a l =>
    exfalso;rw[hN] at ah;have:ws≠[]:=by rw[pT];simp
    rw[if_neg this] at ah;omega
  have iA:k=0:=by rw[hN,if_pos hz] at ah;omega
  subst iA;simp only[List.length_singleton];refine⟨by rw[hJ,List.length_take];omega,by omega,(xs++[0],1),⟨rfl,rfl,by simp⟩,hq _ ah ?_⟩;rw[QI ah,<-hJ];simp[Q5,hz]
 .have:k=(Q5 (hkN 16 h8) 48 ws).length:=by omega
  subst this;rw[List.take_length] at hJ;subst hJ;refine⟨rfl,?_⟩;rw[List.isEmpty_eq_false_iff];intro hz;rw[hz] at hN;split at hN
  .cases hN
  .rename_i aC;have:=List.length_pos_iff.2 aC;simp only[List.length_nil] at hN;omega
def WD:AL (Int×List Int×List Int):=(.one (.agg (.cons (.k (.i .u8)) (.cons (.k (.list (.i .u8))) (.one (.k (.list (.i .u16))))))))
def VW (d:Int×List Int×List Int):Prop:=lOk d.1 d.2.1 d.2.2
def Wn (d:Int×List Int×List Int):SV:=.agg [.val (.i .i64) (hkN 16 d.1),.lst 0]
def Wm (d:Int×List Int×List Int):List OB:=[.lst 3 (.i .i64) (Zk (hkN 16 d.1) 12 d.2.2) false]
def X2:CSp:=WZ WD VW Wn Wm
def Zt (h8:Int) (ws:List Int) (rs:List Int):Prop :=
 (I64 h8)/\((16:Int)≠0)/\(I64 ((1:Int)+(Int.tmod h8 (16:Int))))/\∃ (e4:Unit) (d40:(List Int)×Int),((True/\True/\True/\(0:Int)=d40.2/\True)/\((h8=h8/\ws=ws/\rs=rs/\(([]:List SV)=[]))/\((0:Int)=(0:Int)/\True/\(([]:List SV)=[]))/\(((1:Int)+(Int.tmod h8 (16:Int)))=((1:Int)+(Int.tmod h8 (16:Int)))/\True/\(([]:List SV)=[]))/\(d40.1=[]/\(List.isEmpty d40.1)=true)/\True)) /\
 LoopP (fun (d4:(List Int)×Int) (q4:((List Int)×Int)->Prop) =>
  (((d4.2==(0:Int))||((decide (d4.2<(lI rs)))&&(decide (d4.2<(12:Int)))))=true ->
   ((decide (d4.2<(lI rs)))=true ->
    (0<=d4.2)/\(d4.2<(List.length rs))/\(I64 (gD rs d4.2 0))/\(InK .u64 ((1:Int)+(Int.tmod h8 (16:Int))))/\(0<=((1:Int)+(Int.tmod h8 (16:Int))))/\(I64 (UI .i64 (1:Int) ((1:Int)+(Int.tmod h8 (16:Int)))))/\(I64 ((UI .i64 (1:Int) ((1:Int)+(Int.tmod h8 (16:Int))))-(1:Int)))/\(((List.length d4.1)+(List.length [(ZG .and .i64 (gD rs d4.2 0) ((UI .i64 (1:Int) ((1:Int)+(Int.tmod h8 (16:Int))))-(1:Int)))]))*8<=70368744177664)/\(I64 (d4.2+(1:Int)))/\(∃ d5:(List Int)×Int,((True/\True/\True/\(d4.2+(1:Int))=d5.2/\True)/\((h8=h8/\ws=ws/\rs=rs/\(([]:List SV)=[]))/\((0:Int)=(0:Int)/\True/\(([]:List SV)=[]))/\(((1:Int)+(Int.tmod h8 (16:Int)))=((1:Int)+(Int.tmod h8 (16:Int)))/\True/\(([]:List SV)=[]))/\((d4.1++[(ZG .and .i64 (gD rs d4.2 0) ((UI .i64 (1:Int) ((1:Int)+(Int.tmod h8 (16:Int))))-(1:Int)))])=d5.1/\false=(List.isEmpty d5.1))/\True))/\q4 d5)) /\
   ((decide (d4.2<(lI rs)))=false ->
    (InK .u64 ((1:Int)+(Int.tmod h8 (16:Int))))/\(0<=((1:Int)+(Int.tmod h8 (16:Int))))/\(I64 (UI .i64 (1:Int) ((1:Int)+(Int.tmod h8 (16:Int)))))/\(I64 ((UI .i64 (1:Int) ((1:Int)+(Int.tmod h8 (16:Int))))-(1:Int)))/\(((List.length d4.1)+(List.length [(ZG .and .i64 (21:Int) ((UI .i64 (1:Int) ((1:Int)+(Int.tmod h8 (16:Int))))-(1:Int)))]))*8<=70368744177664)/\(I64 (d4.2+(1:Int)))/\(∃ d6:(List Int)×Int,((True/\True/\True/\(d4.2+(1:Int))=d6.2/\True)/\((h8=h8/\ws=ws/\rs=rs/\(([]:List SV)=[]))/\((0:Int)=(0:Int)/\True/\(([]:List SV)=[]))/\(((1:Int)+(Int.tmod h8 (16:Int)))=((1:Int)+(Int.tmod h8 (16:Int)))/\True/\(([]:List SV)=[]))/\((d4.1++[(ZG .and .i64 (21:Int) ((UI .i64 (1:Int) ((1:Int)+(Int.tmod h8 (16:Int))))-(1:Int)))])=d6.1/\false=(List.isEmpty d6.1))/\True))/\q4 d6))) /\
  (((d4.2==(0:Int))||((decide (d4.2<(lI rs)))&&(decide (d4.2<(12:Int)))))=false ->
   ((((1:Int)+(Int.tmod h8 (16:Int)))=(hkN 16 h8)/\True/\(([]:List SV)=[]))/\((d4.1=(Zk (hkN 16 h8) 12 rs)/\(List.isEmpty d4.1)=false)/\True)))) d40
def WC:Cx:=⟨[(3,(.i .i64))],[],51,[],0,[],[],[],[],false,[],[],[],[]⟩
def Na (h8:Int) (ws:List Int) (rs:List Int):List (Nat×LoopAnn):=[(0,⟨Unit,(List Int)×Int,[1,2,3,4],fun e x=>[.box 1 0,.box 2 0,.box 3 0,.val (.i .i64) x.2],fun e x=>[(1,.slot 1,.cells [.val (.i .u8) h8,.val (.list (.i .u8)) ws,.val (.list (.i .u16)) rs] (some 46)),(2,.slot 2,.cells [.val (.i .i64) (0:Int),.nilS] (some 30)),(3,.slot 3,.cells [.val (.i .i64) ((1:Int)+(Int.tmod h8 (16:Int))),.lst 48] (some 30)),(48,.cell 3 1,.lst 3 (.i .i64) x.1 (List.isEmpty x.1))]⟩)]
theorem No (d:Int×List Int×List Int):gwp (WC) (Na d.1 d.2.1 d.2.2) c19 0 (Kn [.cell 2 true 2] (Wn d) (Wm d)) (Qx 51 (AL.can WD d))=Zt d.1 d.2.1 d.2.2:=by kernel_rfl
abbrev N7:Prop:=OkC Tryz.prog 19 X2
theorem Nh (h:∀ (h8:Int) (ws:List Int) (rs:List Int),(lOk h8 ws rs)->Zt h8 ws rs):OkC Tryz.prog 19 X2 :=
 QH Q7p mixed (C:=WC) (V:=fun (d:Int×List Int×List Int)=>Zt d.1 d.2.1 d.2.2) ⟨.nil,XsOk.nil,ItsOk.nil,YlOk.nil,IysOk.nil,XfOk.nil⟩ (No) fun d hp=>h d.1 d.2.1 d.2.2 hp
theorem Q1s {x h:Int}(h0:0<=x) (h1:x<9223372036854775808) (a:1<=h) (b:h<=24):ZG .and .i64 x (UI .i64 1 h-1)=x % 2 ^ h.toNat:=by
 obtain⟨n,rfl⟩:=Int.eq_ofNat_of_zero_le h0;obtain⟨m,rfl⟩:=Int.eq_ofNat_of_zero_le (show 0<=h by omega);have hp:=YG a b;rw[BG (by omega) (by omega)];simp only[Int.toNat_natCast] at hp |-;have e2:((2:Int) ^ m)=((2 ^ m:Nat):Int):=by rw[Int.natCast_pow];rfl
 rw[e2] at hp |-;have e:(((2 ^ m:Nat):Int)-1)=((2 ^ m-1:Nat):Int):=by omega
 rw[e,Eg (by omega) (by omega),Nat.and_two_pow_sub_one_eq_mod];rfl
theorem Sj {hk:Int}{cap:Nat}{rs:List Int}:(Zk hk cap rs).length=if rs=[] then 1 else min cap rs.length:=by unfold Zk;split<;>simp
theorem O9 {hk:Int}{cap:Nat}{rs:List Int}{i:Nat}(h:i<rs.length) (hc:i<cap):(Zk hk cap rs)[i]?=some (rs.getD i 0 % 2 ^ hk.toNat):=by
 have aC:rs≠[]:=by rintro rfl;simp at h
 unfold Zk;rw[if_neg aC];simp[hc,h]
theorem N5:N7:=Nh fun h8 ws rs h=>by
 obtain⟨h1,h2,pT,mb⟩:=h;have hk:1<=hkN 16 h8/\hkN 16 h8<=16:=Hr (m:=16) (by omega) h1;have e:(1+Int.tmod h8 16)=hkN 16 h8:=rfl;have hp:=YG hk.1 (show hkN 16 h8<=24 by omega);have hs:=BG (show 0<=hkN 16 h8 by omega) (show hkN 16 h8<=62 by omega);have hm:∀ x,0<=x->x<9223372036854775808->ZG .and .i64 x (2 ^ (hkN 16 h8).toNat-1)=x % 2 ^ (hkN 16 h8).toNat:=fun x a b=>by
  have:=Q1s a b hk.1 (show hkN 16 h8<=24 by omega)
  rwa [hs] at this
 have hu:InK .u64 (hkN 16 h8):=⟨by show (0:Int)<=_;omega,by show _<=(18446744073709551615:Int);omega⟩;unfold Zt;(try delta lI gD sT I64 Q1 pj8 pj4);simp only[true_and,and_true,exists_const,decide_eq_true_eq,decide_eq_false_iff_not,ne_eq,Q7,e,hs,hu];refine⟨by omega,by omega,by omega,([],0),⟨rfl,rfl,rfl⟩,?_⟩;have hN:(Zk (hkN 16 h8) 12 rs).length=if rs=[] then 1 else min 12 rs.length:=Sj
 have ai:∀ k:Nat,(((k:Int)==0)||(decide ((k:Int)<rs.length)&&decide ((k:Int)<12)))=decide (k<(Zk (hkN 16 h8) 12 rs).length):=fun k=>by
  rw[hN];by_cases hz:rs=[]
  .subst hz;cases k<;>simp;omega
  .have:0<rs.length:=List.length_pos_iff.2 hz;rw[if_neg hz];cases k with
   |zero=>simp;omega
   |succ k =>rw[Bool.eq_iff_iff];simp;omega
 have rQ:(Zk (hkN 16 h8) 12 rs).length<=12:=by rw[hN];split<;>omega
 refine LoopP.count2 (Zk (hkN 16 h8) 12 rs).length (fun k xs=>xs=(Zk (hkN 16 h8) 12 rs).take k) (by simp) fun k xs kX hJ q hq=>?_;dsimp only;rw[ai];simp only[decide_eq_true_eq,decide_eq_false_iff_not,Int.toNat_natCast,Int.ofNat_lt];refine⟨fun ah=>⟨fun hw=>?_,fun hw=>?_⟩,fun bj=>?_⟩
 .have hw:k<rs.length:=by omega
  have wD:=mb _ (List.getElem_mem hw);have rS:k<12:=by omega
  simp only[Qf hw,List.length_singleton];have hv:(Zk (hkN 16 h8) 12 rs)[k]=rs[k] % 2 ^ (hkN 16 h8).toNat:=by have:=O9 (hk:=hkN 16 h8) hw rS;rw[Qf hw] at this;have h3:=List.getElem?_eq_getElem ah;exact osj (h3.symm.trans this)
  rw[hm _ (by omega) (by omega)];refine⟨by omega,by omega,by omega,by omega,by omega,by omega,by rw[hJ,List.length_take];omega,by omega,(xs++[rs[k] % 2 ^ (hkN 16 h8).toNat],(k:Int)+1),⟨rfl,rfl,by simp⟩,hq _ ah ?_⟩;rw[QI ah,<-hJ,hv]
 .have hz:rs=[]:=by
   cases mb:rs with
   |nil=>rfl
   |cons a l =>
    exfalso;rw[hN] at ah;have:rs≠[]:=by rw[mb];simp
    rw[if_neg this] at ah;omega
  have iA:k=0:=by rw[hN,if_pos hz] at ah;omega
  subst iA;simp only[List.length_singleton];rw[hm _ (by omega) (by omega)];refine⟨by omega,by omega,by omega,by rw[hJ,List.length_take];omega,by omega,(xs++[21 % 2 ^ (hkN 16 h8).toNat],1),⟨rfl,rfl,by simp⟩,hq _ ah ?_⟩;rw[QI ah,<-hJ];simp[Zk,hz]
 .have:k=(Zk (hkN 16 h8) 12 rs).length:=by omega
  subst this;rw[List.take_length] at hJ;subst hJ;refine⟨rfl,?_⟩;rw[List.isEmpty_eq_false_iff];intro hz;rw[hz] at hN;split at hN
  .cases hN
  .rename_i aC;have:=List.length_pos_iff.2 aC;simp only[List.length_nil] at hN;omega
def Nw:AL (List (List UInt8)×Int×Int):=(.cons (.k (.list .st)) (.cons (.k (.i .i64)) (.one (.k (.i .i64)))))
def HC (d:List (List UInt8)×Int×Int):Prop:=d.1.length<=1000
def VU (d:List (List UInt8)×Int×Int):SV:=.val .bo (Gg d.1 d.2.1 d.2.2)
def U4 (d:List (List UInt8)×Int×Int):List OB:=[]
def V7:CSp:=WZ Nw HC VU U4
def XX (c:List (List UInt8)) (pk:Int) (wp:Int):Prop :=
 ∃ (e2:Unit) (d20:Int),((c=c/\pk=pk/\wp=wp/\(0:Int)=d20/\True)/\(True)) /\
 LoopP (fun (d2:Int) (q2:(Int)->Prop) =>
  ((decide (d2<(lI c)))=true ->
   (0<=d2)/\(d2<(List.length c))/\(((lI (gD c d2 [])) != wp)=true ->
    (false=(Gg c pk wp)/\(True))) /\
   (((lI (gD c d2 [])) != wp)=false ->
    (I64 (d2+(1:Int)))/\(∃ d3:Int,((c=c/\pk=pk/\wp=wp/\(d2+(1:Int))=d3/\True)/\(True))/\q2 d3))) /\
  ((decide (d2<(lI c)))=false ->
   (((lI c)==pk)=(Gg c pk wp)/\(True)))) d20
def NH:Cx:=⟨[],[],25,[],0,[],[],[],[],false,[],[],[],[]⟩
def Pe (c:List (List UInt8)) (pk:Int) (wp:Int):List (Nat×LoopAnn):=[(0,⟨Unit,Int,[0,1,2,7],fun e x=>[.val (.list .st) c,.val (.i .i64) pk,.val (.i .i64) wp,.val (.i .i64) x],fun e x=>[]⟩)]
theorem Pt (d:List (List UInt8)×Int×Int):gwp (NH) (Pe d.1 d.2.1 d.2.2) c24 0 (Kn [.tmp 6] (VU d) (U4 d)) (Qx 25 (AL.can Nw d))=XX d.1 d.2.1 d.2.2:=by kernel_rfl
abbrev Pf:Prop:=OkC Tryz.prog 24 V7
theorem Pk (h:∀ (c:List (List UInt8)) (pk:Int) (wp:Int),(c.length<=1000)->XX c pk wp):OkC Tryz.prog 24 V7 :=
 QH Q6u mixed (C:=NH) (V:=fun (d:List (List UInt8)×Int×Int)=>XX d.1 d.2.1 d.2.2) ⟨.nil,XsOk.nil,ItsOk.nil,YlOk.nil,IysOk.nil,XfOk.nil⟩ (Pt) fun d hp=>h d.1 d.2.1 d.2.2 hp
theorem PM:Pf:=Pk fun c pk wp hc=>by
 unfold XX;(try delta lI gD sT I64 Q1 pj8 pj4)
 (try simp only[decide_eq_true_eq,decide_eq_false_iff_not])
 refine⟨(),0,(by and_intros<;>first|rfl|trivial|simp),?_⟩;refine LoopP.count c.length (fun k=>∀ i,i<k->((c.getD i []).length:Int)=wp) (fun i hi=>by omega) fun k hk hJ q hq=>?_;simp only[Int.toNat_natCast,Q7];refine⟨fun ah=>⟨by omega,by omega,fun hx=>?_,fun hx=>⟨by omega,_,(by and_intros<;>first|rfl|trivial|simp),hq (by omega) fun i hi=>?_⟩⟩,fun bj=>?_⟩
 .have hx:((c.getD k []).length:Int)≠wp:=by simpa using hx
  refine⟨Eq.symm ?_,trivial⟩;rw[Bool.eq_false_iff];intro h;have pH:k<c.length:=by omega
  rw[Qf pH] at hx;exact hx ((Tw.1 h).1 _ (List.getElem_mem pH))
 .rcases Nat.lt_succ_iff_lt_or_eq.1 hi with hi|rfl
  .exact hJ i hi
  .simpa using hx
 .have hk:k=c.length:=by omega
  subst hk;refine⟨?_,trivial⟩;rw[Bool.eq_iff_iff,Tw,beq_iff_eq];refine⟨fun h=>⟨fun s hs=>?_,h⟩,fun h=>h.2⟩;obtain⟨i,hi,rfl⟩:=List.getElem_of_mem hs;have:=hJ i hi
  rwa [Qf hi] at this
theorem Q6w {h8:Int}{ws rs:List Int}(h:lOk h8 ws rs):(1<=hkN 16 h8/\hkN 16 h8<=16)/\(Q5 (hkN 16 h8) 48 ws≠[]/\(Q5 (hkN 16 h8) 48 ws).length<=48/\∀ x∈Q5 (hkN 16 h8) 48 ws,0<=x/\x<hkN 16 h8) /\
  (Zk (hkN 16 h8) 12 rs≠[]/\(Zk (hkN 16 h8) 12 rs).length<=12/\∀ x∈Zk (hkN 16 h8) 12 rs,0<=x/\x<2 ^ (hkN 16 h8).toNat):=by
 obtain⟨h1,h2,h3,h4⟩:=h;have hk:=Hr (m:=16) (by omega) h1;refine⟨hk,⟨?_,?_,?_⟩,⟨?_,?_,?_⟩⟩
 .unfold Q5;split
  .simp
  .rename_i aC;simpa using aC
 .rw[Tp];split<;>omega
 .intro x hx;unfold Q5 at hx;split at hx
  .rw[List.mem_singleton.1 hx];omega
  .simp only[List.mem_map] at hx;obtain⟨y,hy,rfl⟩:=hx;have:=h3 y (List.mem_of_mem_take hy);exact⟨Int.tmod_nonneg _ this.1,Int.tmod_lt_of_pos _ (by omega)⟩
 .unfold Zk;split
  .simp
  .rename_i aC;simpa using aC
 .rw[Sj];split<;>omega
 .intro x hx;have hp:=YG hk.1 (show hkN 16 h8<=24 by omega);unfold Zk at hx;split at hx
  .rw[List.mem_singleton.1 hx];exact⟨Int.emod_nonneg _ (by omega),Int.emod_lt_of_pos _ (by omega)⟩
  .simp only[List.mem_map] at hx;obtain⟨y,_,rfl⟩:=hx;exact⟨Int.emod_nonneg _ (by omega),Int.emod_lt_of_pos _ (by omega)⟩
theorem Q1a {H:Int}{lw:List Int}(h1:1<=H/\H<=16) (h2:lw≠[]/\lw.length<=48/\∀ x∈lw,0<=x/\x<H):Q8 H lw=0:=by
 have e1:inI H 1 24=true:=by unfold inI;rw[decide_eq_true (by omega),decide_eq_true (by omega)];rfl
 have e2:(lw.any fun x=>!inI x 0 (H-1))=false:=by rw[List.any_eq_false];intro x hx;have:=h2.2.2 x hx;unfold inI;rw[decide_eq_true (by omega),decide_eq_true (by omega)];decide
 have:=List.length_pos_iff.2 h2.1;unfold Q8;rw[e1,e2,if_neg (by decide),if_neg (by omega),if_neg (by omega),if_neg (by decide)]
theorem FZ {H:Int}{rows:List Int}(h1:1<=H/\H<=16) (h2:rows≠[]/\rows.length<=12/\∀ x∈rows,0<=x/\x<2 ^ H.toNat):Qg H rows=0:=by
 have e1:inI H 1 24=true:=by unfold inI;rw[decide_eq_true (by omega),decide_eq_true (by omega)];rfl
 have e2:(rows.any fun x=>!inI x 0 (2 ^ H.toNat-1))=false:=by rw[List.any_eq_false];intro x hx;have:=h2.2.2 x hx;unfold inI;rw[decide_eq_true (by omega),decide_eq_true (by omega)];decide
 have:=List.length_pos_iff.2 h2.1;unfold Qg;rw[e1,e2,if_neg (by decide),if_neg (by omega),if_neg (by omega),if_neg (by decide)]
end Go.Proofs.Tryz
namespace Go.Proofs
open Go.Shelf
def Tryz.laysGrow_ren:Go.Shelf.Ren:=⟨fun|4=>67|n=>n,fun|22=>22|25=>3|3=>3|4=>4|9=>9|20=>20|0=>0|n=>n,fun|n=>n⟩
theorem Tryz.laysGrow:Go.Proofs.Lays8.n4 Tryz.prog Tryz.laysGrow_ren:={
 mixed:=by kernel_rfl
 f4:=⟨Tryz.f67.name,by decide,Tryz.func67.trans (congrArg some (by kernel_rfl))⟩
 t0:=Tryz.underlying0
 a0:=Tryz.isAgg0
 z0:=Tryz.sizeOf0
 v0:=Tryz.zeroValue0
 t3:=Tryz.underlying3
 a3:=Tryz.isAgg3
 z3:=Tryz.sizeOf3
 v3:=Tryz.zeroValue3
 t4:=Tryz.underlying4
 a4:=Tryz.isAgg4
 z4:=Tryz.sizeOf4
 v4:=Tryz.zeroValue4
 t9:=Tryz.underlying9
 a9:=Tryz.isAgg9
 z9:=Tryz.sizeOf9
 v9:=Tryz.zeroValue9
 t20:=Tryz.underlying20
 a20:=Tryz.isAgg20
 z20:=Tryz.sizeOf20
 v20:=Tryz.zeroValue20
 t22:=Tryz.underlying22
 a22:=Tryz.isAgg22
 z22:=Tryz.sizeOf22
 v22:=Tryz.zeroValue22}
end Go.Proofs
namespace Go.V
open Go Go.RowKit
theorem EF {P:Program}{f:Nat}{D:Type}{l:AL D}{pre:D->Prop}{res:D->SV}{obs:D->List OB}(hl:∀ d,pre d->(obs d).all OB.isL=true/\YN (res d)=true/\∀ b∈obs d,b.wfL)
  (h:∀ d,pre d->∀ σ vs,SRs P σ Jq ZH (AL.can l d) vs->VCalled P f vs σ fun u σ'=>u=Kj (PK σ (obs d)) (res d)/\σ'=Mr σ (obs d)):OkC P f (WZ l pre res obs):=by
 intro ap ep σ args vs c v bs aB hs hv b9 hc;unfold WZ at hs;split at hs
 .rename_i d hd;obtain⟨rfl,rfl,rfl⟩:=(by simpa using hs:pre d=c/\res d=v/\obs d=bs);have h1:=h d hc σ vs (AL.dec_sound ep l hd aB);obtain⟨k1,k2,k3⟩:=hl d hc;exact⟨h1.mono fun u σ' ⟨e1,e2⟩=>by subst e1;subst e2;exact H5 σ hv k2 b9 k1 k3,fun _ _=>h1⟩
 .cases hs
theorem HRel.skip {ρ:Plc}{σ σ1:Heap}{w:World}(h:HRel ρ σ w) (hn:σ.n <= σ1.n) (hg:∀ i, σ1.get i = σ.get i):HRel ρ σ1 w :=
  ⟨⟨fun i b hi => by
    rw [hg] at hi;obtain ⟨p, hp, hB⟩:=h.live i b hi;exact ⟨p, hp, hB.mono hn (fun _ _ _ h => h) rfl⟩, fun i hi => h.dead i (by rw [<- hg]; exact hi), h.lt, fun i j p q b h1 h2 h3 h4 => h.sep i j p q b h1 h2 h3 (by rw [<- hg]; exact h4)⟩,
   fun g cs hc => ⟨(h.tab g cs hc).1, fun ⟨i, p, b, h1, h2, h3, h4⟩ => (h.tab g cs hc).2 ⟨i, p, b, h1, by rw [<- hg]; exact h2, h3, h4⟩⟩⟩
theorem F_ {ρ:Plc}{n:Nat}{args:List Value}{av:Array Value}(ha:args.all QA=true) (hL:LRel ρ n args av.toList):av=args.toArray:=by
 apply Array.ext';apply List.ext_getElem?;intro i;cases hi:av.toList[i]? with
 |none =>have:=List.getElem?_eq_none_iff.1 hi;rw[<-hL.1] at this;rw[List.getElem?_eq_none (by simpa using this)]
 |some c =>have ah:=(List.getElem?_eq_some_iff.1 hi).1;rw[<-hL.1] at ah;have h1:=hL.2 i args[i] c (List.getElem?_eq_getElem ah) hi;rw[WV (List.all_eq_true.1 ha _ (List.getElem_mem ah)) h1];simp[List.getElem?_eq_getElem ah]
theorem Q1z {P:Program}{ρ0:Go.Shelf.Ren}{f ty:Nat}{k:Kind}(L:Go.Proofs.Lays8.n4 P ρ0) (he:J0 P f) (hf:ρ0.f 4=f) (ht:ρ0.t 25=ty) {i0:TypeInfo}{z:Value}(mv:P.info? ty=some i0) (je:i0.zero=some z)
  (qh:0<i0.size) (aE:i0.size=k.size) (rT:z.cells.size=i0.size) {pre:Unit×Int->Prop}(hp:∀ d,pre d->0<=d.2/\d.2*i0.bytes<=140737488355328/\d.2<=4611686018427387904) :
  OkC P f (WZ (.cons .nilS (.one (.k (.i .i64)))) pre (fun _=>.lst 0) (fun d=>[.lst ty k [] (decide (d.2=0))])):=by
 subst hf;subst ht;refine EF (fun d _=>⟨rfl,rfl,fun b hb=>?_⟩) fun d hd σ vs cu=>?_
 .obtain rfl:=List.mem_singleton.1 hb;intro _;rfl
 obtain⟨d1,m⟩:=d;obtain⟨h0,hb,qj⟩:=hp _ hd;obtain⟨n,rfl⟩:=Int.eq_ofNat_of_zero_le h0;have hb:n*i0.bytes<=140737488355328:=Int.ofNat_le.1 (by rw[Int.natCast_mul];exact hb);have qj:n<=4611686018427387904:=Int.ofNat_le.1 qj;simp only[AL.can,AP.can,SRs,SR] at cu;obtain⟨v1,rG,rfl,rfl,v2,jS,rfl,k2,rfl⟩:=cu;have k2:[v2]=[Value.int .i64 ((n:Nat):Int)]:=k2;obtain rfl:=(List.cons.inj k2).1;intro ρ w av hH hL;obtain rfl:=F_ (args:=[.slice none 0 0,.int .i64 (n:Nat)]) rfl hL;refine .inl ⟨fun w=>K1 he _ w,?_⟩;rcases Nat.eq_zero_or_pos n with rfl|hn
 .refine (Go.Proofs.Any8.slices_Grow_room L none 0 0 0 w (by omega) (by omega) (by omega) (by omega)).mono fun e w' ⟨h1,h2⟩=>?_;subst h2;refine⟨_,h1,.slice none 0 0,ρ,Mr σ [.lst (ρ0.t 25) k [] true],⟨rfl,rfl⟩,.nilSl,hH.skip (by simp[Mr]) fun i=>?_,⟨rfl,rfl,rfl,Nat.le_refl _,fun _ _ _=>rfl,fun B hB hW=>?_,by simp[Mr],fun _ _ _ h=>h⟩⟩
  .simp only[Mr];split
   .rfl
   .rename_i hi;rw[σ.wf i (by omega)];cases h:([OB.lst (ρ0.t 25) k [] true][i-σ.n]?) with
    |none=>rfl
    |some b=>obtain rfl:=List.mem_singleton.1 (List.mem_of_getElem? h);rfl
  .obtain⟨i,p,b,h3,h4,h5,h6⟩:=hW;have hg:σ.get i=some b:=by
    simp only[Mr] at h4;split at h4
    .exact h4
    .cases h:([OB.lst (ρ0.t 25) k [] true][i-σ.n]?) with
     |none=>rw[h] at h4;cases h4
     |some b=>obtain rfl:=List.mem_singleton.1 (List.mem_of_getElem? h);rw[h] at h4;cases h4
   exact⟨i,p,b,h3,hg,h5,h6⟩
 .have s_:decide (((n:Nat):Int)=0)=false:=by simp;omega
  refine (Go.Proofs.Any8.slices_Grow_grow L i0 z mv je qh none 0 0 n [] w (by omega) (by omega) (by simpa using hb) (by omega) (by simp) (fun _=>rfl) (fun a h=>by cases h)).mono fun e w' ⟨h1,h2⟩=>?_;subst h2;have hG:0+n<=grownCap w (0+n) 0 (ρ0.t 25):=grownCap_ge w _ _ _;obtain⟨G,wF⟩:∃ G,G=grownCap w (0+n) 0 (ρ0.t 25):=⟨_,rfl⟩;rw[<-wF] at hG h1 |-;have fP:HRel ρ σ w.drew:=hH.drew;have heq:Mr σ [.lst (ρ0.t 25) k [] false]=σ.push (.cells [] ⟨k.size,ρ0.t 25⟩ true false):=by
   apply Heap.ext'
   .intro i;simp only[Mr,Heap.push];rcases Nat.lt_trichotomy i σ.n with h|h|h
    .rw[if_pos h,if_neg (by omega)]
    .subst h;simp[Q0u]
    .rw[if_neg (by omega),if_neg (by omega),σ.wf i (by omega),List.getElem?_eq_none (by simp;omega)];rfl
   .rfl
  obtain⟨ρ',e1,e2,e3⟩:=fP.alloc [] ((([]:List Value).toArray++Go.Builtin.zeroCells z.cells (0+n-0)++Go.Builtin.zeroCells z.cells (G-(0+n)))) (ρ0.t 25) ⟨k.size,ρ0.t 25⟩ false rfl (by simpa using LRel.nil ρ σ.n) (by simp);refine⟨_,h1,.slice (some ⟨σ.n,0,none⟩) 0 0,ρ',_,⟨by show _=(if decide (((n:Nat):Int)=0) then _ else _);rw[s_];rfl,by show _=Mr σ [.lst (ρ0.t 25) k [] (decide (((n:Nat):Int)=0))];rw[s_,heq]⟩,?_,e2,⟨e3.os,e3.tape,e3.output,e3.size,e3.keep,e3.wr,e3.n,e3.pl⟩⟩;refine .sl σ.n 0 0 0 _ G (by simp) fun p hp=>?_;rw[e1] at hp;obtain rfl:=osj hp;refine⟨Nat.zero_le _,(fun h=>by cases h),0,rfl,?_,.inl rfl⟩;have:∀ n,(Go.Builtin.zeroCells z.cells n).size=n*k.size:=fun n=>by simp[Go.Builtin.zeroCells,rT,aE]
  simp only[Array.size_append,this,List.size_toArray,List.length_nil,Nat.zero_add,Nat.sub_zero,<-Nat.add_mul];exact Nat.mul_le_mul_right _ (by omega)
theorem OU {P:Program}{ρ0:Go.Shelf.Ren}{f ty:Nat}{k:Kind}(L:Go.Proofs.Lays8.n4 P ρ0) (he:J0 P f) (hf:ρ0.f 4=f) (ht:ρ0.t 25=ty) (z:Value) (b:Nat)
  (hi:(P.info? ty).map (fun i=>(i.zero,i.size,i.bytes))=some (some z,k.size,b)) (hb:b<=1000) (rT:z.cells.size=k.size) {pre:Unit×Int->Prop}(hp:∀ d,pre d->0<=d.2/\d.2<=1000000) :
  OkC P f (WZ (.cons .nilS (.one (.k (.i .i64)))) pre (fun _=>.lst 0) (fun d=>[.lst ty k [] (decide (d.2=0))])):=by
 cases h:P.info? ty with
 |none=>rw[h] at hi;cases hi
 |some i0 =>rw[h] at hi;have hi:=osj hi;simp only[Prod.mk.injEq] at hi;obtain⟨h1,h2,h3⟩:=hi;refine Q1z L he hf ht h h1 (by rw[h2];exact k.size_pos) h2 (by rw[h2];exact rT) fun d hd=>?_;obtain⟨p1,p2⟩:=hp d hd;refine⟨p1,?_,by omega⟩;rw[h3];have h4:d.2*(b:Int)<=1000000*1000:=Int.mul_le_mul p2 (Int.ofNat_le.2 hb) (by omega) (by omega);omega
end Go.V
namespace Go.Proofs.Tryz
open Go Go.V Go.Proofs
theorem OW {l:List Int}{b:Nat}(h0:0<b) (hb:b<=l.length) (hp:b<l.length->Ae l b=true) (hn:∀ j,0<j->j<b->Ae l j=false):FG l=b:=by
 unfold FG;rcases Nat.lt_or_ge b l.length with h|h
 .have:(List.range l.length).find? (Ae l)=some b:=List.find?_range_eq_some.2 ⟨hp h,by simpa using h,fun j hj=>by
   rcases Nat.eq_zero_or_pos j with rfl|h1
   .simp[Ae]
   .rw[hn j h1 hj];rfl⟩
  rw[this]
 .have:(List.range l.length).find? (Ae l)=none:=List.find?_range_eq_none.2 fun j hj=>by
   rcases Nat.eq_zero_or_pos j with rfl|h1
   .simp[Ae]
   .rw[hn j h1 (by omega)];rfl
  rw[this];dsimp only;omega
theorem Is {l:List Int}{b:Nat}(hb:0<b):Ae l b=(decide (l.length % b=0)&&(l.drop b==l.take (l.length-b))):=by simp[Ae,hb]
theorem Bu {l:List Int}{s:Nat}:Q5k l s=true<->∀ i,i<l.length->l.getD i 0=l.getD ((s+l.length-i) % l.length) 0:=by simp only[Q5k,List.all_eq_true,List.mem_range,beq_iff_eq]
theorem SF {l:List Int}{s:Nat}(hs:s<l.length) (hp:Q5k l s=true) (hn:∀ j,j<s->Q5k l j=false):Q5r l=some s :=
 List.find?_range_eq_some.2 ⟨hp,by simpa using hs,fun j hj=>by rw[hn j hj];rfl⟩
theorem Iz {l:List Int}(hn:∀ j,j<l.length->Q5k l j=false):Q5r l=none :=
 List.find?_range_eq_none.2 fun j hj=>by rw[hn j hj];rfl
def Gb:AL (Int×List Int):=(.one (.agg (.cons (.k (.i .i64)) (.one (.k (.list (.i .i64)))))))
def Pj (d:Int×List Int):Prop:=d.2.length<=1000
def NG (d:Int×List Int):SV:=.tup [.val (.i .i64) (if Q8 d.1 d.2=0 then FG d.2 else 0),.val (.i .i64) (Q8 d.1 d.2)]
def Ns (d:Int×List Int):List OB:=[]
def Uh:CSp:=WZ Gb Pj NG Ns
def Y3 (hk:Int) (lw:List Int):Prop :=
 (lw.length<=1000000)/\(((Q8 hk lw) != (0:Int))=true ->
  (((0:Int)=(if Q8 hk lw=0 then FG lw else 0)/\(Q8 hk lw)=(Q8 hk lw)/\(([]:List SV)=[]))/\(True))) /\
 (((Q8 hk lw) != (0:Int))=false ->
  ∃ (e3:Unit) (d30:Int),((True/\(lI lw)=(lI lw)/\(1:Int)=d30/\True)/\((hk=hk/\lw=lw/\(([]:List SV)=[]))/\True)) /\
  LoopP (fun (d3:Int) (q3:(Int)->Prop) =>
   ((decide (d3<(lI lw)))=true ->
    (d3≠0)/\(((Int.tmod (lI lw) d3)==(0:Int))=true->0<=d3)/\(((Int.tmod (lI lw) d3)==(0:Int))=true->d3<=(lI lw))/\(((Int.tmod (lI lw) d3)==(0:Int))=true->(lI lw)<=(List.length lw))/\(((Int.tmod (lI lw) d3)==(0:Int))=true->InK .i64 ((lI lw)-d3))/\(((Int.tmod (lI lw) d3)==(0:Int))=true->0<=(0:Int))/\(((Int.tmod (lI lw) d3)==(0:Int))=true->(0:Int)<=((lI lw)-d3))/\(((Int.tmod (lI lw) d3)==(0:Int))=true->((lI lw)-d3)<=(List.length lw))/\(((Int.tmod (lI lw) d3)==(0:Int))=true->(List.take (Int.toNat ((lI lw)-d3)) (List.drop (Int.toNat d3) lw)).length<=1000000)/\((((Int.tmod (lI lw) d3)==(0:Int))&&((List.take (Int.toNat ((lI lw)-d3)) (List.drop (Int.toNat d3) lw))==(List.take (Int.toNat (((lI lw)-d3)-(0:Int))) (List.drop (Int.toNat (0:Int)) lw))))=true ->
     ((d3=(if Q8 hk lw=0 then FG lw else 0)/\(0:Int)=(Q8 hk lw)/\(([]:List SV)=[]))/\(True))) /\
    ((((Int.tmod (lI lw) d3)==(0:Int))&&((List.take (Int.toNat ((lI lw)-d3)) (List.drop (Int.toNat d3) lw))==(List.take (Int.toNat (((lI lw)-d3)-(0:Int))) (List.drop (Int.toNat (0:Int)) lw))))=false ->
     (I64 (d3+(1:Int)))/\(∃ d4:Int,((True/\(lI lw)=(lI lw)/\(d3+(1:Int))=d4/\True)/\((hk=hk/\lw=lw/\(([]:List SV)=[]))/\True))/\q3 d4))) /\
   ((decide (d3<(lI lw)))=false ->
    (((lI lw)=(if Q8 hk lw=0 then FG lw else 0)/\(0:Int)=(Q8 hk lw)/\(([]:List SV)=[]))/\(True)))) d30)
def MO:Cx:=⟨[],[(37,JZ),(46,J2)],39,[],0,[],[],[],[],false,[],[],[],[]⟩
def R8 (hk:Int) (lw:List Int):List (Nat×LoopAnn):=[(0,⟨Unit,Int,[1,5,6],fun e x=>[.box 1 0,.val (.i .i64) (((List.length lw):Nat):Int),.val (.i .i64) x],fun e x=>[(1,.slot 1,.cells [.val (.i .i64) hk,.val (.list (.i .i64)) lw] (some 24))]⟩)]
theorem RJ (d:Int×List Int):gwp (MO) (R8 d.1 d.2) c21 0 (Kn [.tmp 2,.tmp 3] (NG d) (Ns d)) (Qx 39 (AL.can Gb d))=Y3 d.1 d.2:=by kernel_rfl
abbrev RT:Prop:=OkC Tryz.prog 21 Uh
theorem Rj (h:∀ (hk:Int) (lw:List Int),(lw.length<=1000)->Y3 hk lw):OkC Tryz.prog 21 Uh :=
 QH Q68 mixed (C:=MO) (V:=fun (d:Int×List Int)=>Y3 d.1 d.2) ⟨(.cons W7 (.cons Vl .nil)),XsOk.nil,ItsOk.nil,YlOk.nil,IysOk.nil,XfOk.nil⟩ (RJ) fun d hp=>h d.1 d.2 hp
theorem RS:RT:=Rj fun hk lw hl=>by
 unfold Y3;delta lI gD;simp only[true_and,and_true,exists_eq_left',exists_const,decide_eq_true_eq,decide_eq_false_iff_not,beq_iff_eq,bne_iff_ne,ne_eq,bne_eq_false_iff_eq,Q7];refine⟨by omega,fun he=>by simp[he],fun he=>?_⟩;obtain⟨t1,t2,t3,t4,t5⟩:=Vu he;simp only[he,if_true];show LoopP _ ((1:Nat):Int);refine LoopP.countFrom 1 lw.length (fun k=>∀ j,0<j->j<k->Ae lw j=false) (by omega) (fun j h1 h2=>by omega) fun k aL au hJ q hq=>?_;have e1:((lw.length:Int)-(k:Int)).toNat=lw.length-k:=by omega
 have e2:((lw.length:Int)-(k:Int)-0).toNat=lw.length-k:=by omega
 have e3:List.take (lw.length-k) (List.drop k lw)=List.drop k lw:=List.take_of_length_le (by simp);simp only[and_true,Int.toNat_natCast,Int.ofNat_lt,By,e1,e2,e3,Int.toNat_zero,List.drop_zero];have hr:((((lw.length % k:Nat):Int)==0)&&(List.drop k lw==List.take (lw.length-k) lw))=Ae lw k:=by rw[Is (by omega)];congr 1;by_cases h:lw.length % k=0<;>simp[h]<;>omega
 simp only[hr];refine⟨fun ah=>?_,fun bj=>?_⟩
 .refine⟨by omega,fun _=>by omega,fun _=>by omega,fun _=>by omega,fun _=>by omega,fun _=>by omega,fun _=>by omega,fun _=>by omega,fun _=>by simp;omega,fun hr=>?_,fun hr=>⟨by omega,hq (by omega) fun j h1 h2=>?_⟩⟩
  .exact(OW (by omega) au (fun _=>hr) hJ).symm
  .rcases Nat.lt_succ_iff_lt_or_eq.1 h2 with h2|rfl
   .exact hJ j h1 h2
   .exact hr
 .have:k=lw.length:=by omega
  subst this;exact(OW (by omega) (Nat.le_refl _) (fun h=>by omega) hJ).symm
def VN:AL (Unit×Int):=(.cons .nilS (.one (.k (.i .i64))))
def Ve (d:Unit×Int):Prop:=0<=d.2/\d.2<=1000000
def Vq (d:Unit×Int):SV:=.lst 0
def Vf (d:Unit×Int):List OB:=[.lst 3 (.i .i64) ([]:List Int) (decide (d.2=0))]
def Wq:CSp:=WZ VN Ve Vq Vf
abbrev VQ:Prop:=OkC Tryz.prog 67 Wq
theorem VP:VQ:=OU (k:=.i .i64) Tryz.laysGrow fun67.enterable rfl rfl (.int .i64 0) 8 (by kernel_rfl) (by decide) rfl fun _ h=>h
def Xh:AL (List (List Int)):=(.one (.k (.list (.list (.i .i64)))))
def Ke (d:List (List Int)):Prop:=d.length<=10/\∀ x∈d,x.length<=1000
def JM (d:List (List Int)):SV:=.lst 0
def JO (d:List (List Int)):List OB:=[.lst 3 (.i .i64) d.flatten ((d.flatten).isEmpty)]
def ZS:CSp:=WZ Xh Ke JM JO
def QX (c:List (List Int)):Prop :=
 ∃ (e2:Unit) (d20:Int×Int),((c=c/\(0:Int)=d20.1/\c=c/\(lI c)=(lI c)/\(0:Int)=d20.2/\True)/\(True)) /\
 LoopP (fun (d2:Int×Int) (q2:(Int×Int)->Prop) =>
  ((decide (d2.2<(lI c)))=true ->
   (0<=d2.2)/\(d2.2<(List.length c))/\(I64 (d2.1+(lI (gD c d2.2 []))))/\((decide ((d2.1+(lI (gD c d2.2 [])))<(0:Int)))=true ->
    False) /\
   ((decide ((d2.1+(lI (gD c d2.2 [])))<(0:Int)))=false ->
    (I64 (d2.2+(1:Int)))/\(∃ d3:Int×Int,((c=c/\(d2.1+(lI (gD c d2.2 [])))=d3.1/\c=c/\(lI c)=(lI c)/\(d2.2+(1:Int))=d3.2/\True)/\(True))/\q2 d3))) /\
  ((decide (d2.2<(lI c)))=false ->
   (0<=d2.1/\d2.1<=1000000)/\∃ (e5:Unit) (d50:(List Int)×Bool×Int),((True/\c=c/\(lI c)=(lI c)/\(0:Int)=d50.2.2/\True)/\((([]:List Int)=d50.1/\(decide (d2.1=0))=d50.2.1)/\True)) /\
   LoopP (fun (d5:(List Int)×Bool×Int) (q5:((List Int)×Bool×Int)->Prop) =>
    ((decide (d5.2.2<(lI c)))=true ->
     (0<=d5.2.2)/\(d5.2.2<(List.length c))/\(((List.length d5.1)+(List.length (gD c d5.2.2 [])))*8<=70368744177664)/\(I64 (d5.2.2+(1:Int)))/\(∃ d6:(List Int)×Bool×Int,((True/\c=c/\(lI c)=(lI c)/\(d5.2.2+(1:Int))=d6.2.2/\True)/\(((d5.1++(gD c d5.2.2 []))=d6.1/\((List.isEmpty (gD c d5.2.2 []))&&d5.2.1)=d6.2.1)/\True))/\q5 d6)) /\
    ((decide (d5.2.2<(lI c)))=false ->
     (True/\((d5.1=c.flatten/\d5.2.1=(c.flatten).isEmpty)/\True)))) d50)) d20
def Xa:Cx:=⟨[(3,(.i .i64))],[(67,Wq)],36,[],0,[],[],[],[],false,[],[],[],[]⟩
def KT (c:List (List Int)):List (Nat×LoopAnn):=[(0,⟨Unit,Int×Int,[0,3,9,10,11],fun e x=>[.val (.list (.list (.i .i64))) c,.val (.i .i64) x.1,.val (.list (.list (.i .i64))) c,.val (.i .i64) (((List.length c):Nat):Int),.val (.i .i64) x.2],fun e x=>[]⟩),
 (2,⟨Unit,(List Int)×Bool×Int,[6,25,26,27],fun e x=>[.lst 24,.val (.list (.list (.i .i64))) c,.val (.i .i64) (((List.length c):Nat):Int),.val (.i .i64) x.2.2],fun e x=>[(24,.slot 6,.lst 3 (.i .i64) x.1 x.2.1)]⟩)]
theorem KQ (d:List (List Int)):gwp (Xa) (KT d) c45 0 (Kn [.tmp 2] (JM d) (JO d)) (Qx 36 (AL.can Xh d))=QX d:=by kernel_rfl
abbrev KM:Prop:=OkC Tryz.prog 45 ZS
theorem KG (h:∀ (c:List (List Int)),(c.length<=10/\∀ x∈c,x.length<=1000)->QX c):OkC Tryz.prog 45 ZS :=
 QH Q6y mixed (C:=Xa) (V:=fun (d:List (List Int))=>QX d) ⟨(.cons VP .nil),XsOk.nil,ItsOk.nil,YlOk.nil,IysOk.nil,XfOk.nil⟩ (KQ) fun d hp=>h d hp
theorem KZ:KM:=KG fun c h=>by
 obtain⟨hc,hx⟩:=h;have hx:∀ k (hk:k<c.length),c[k].length<=1000:=fun k hk=>hx _ (List.getElem_mem hk);have oL:∀ k,k<=c.length->(c.take k).flatten.length<=1000*k:=fun k=>by
  induction k with
  |zero=>simp
  |succ k ih =>intro hk;rw[QI (by omega),List.flatten_append,List.length_append];have:=ih (by omega);have:=hx k (by omega);simp only[List.flatten_cons,List.flatten_nil,List.append_nil];omega
 unfold QX;delta lI gD;refine⟨(),(0,0),(by and_intros<;>first|rfl|trivial|simp),?_⟩;refine LoopP.count2 c.length (fun k x=>x=((c.take k).flatten.length:Int)) (by simp) fun k x hk hJ q hq=>?_;dsimp only;have h1:=oL k hk;simp only[true_and,and_true,exists_const,decide_eq_true_eq,decide_eq_false_iff_not,Int.toNat_natCast,Int.ofNat_lt,Q7];refine⟨fun ah=>?_,fun bj=>?_⟩
 .have ah:k<c.length:=by omega
  have h2:=hx k ah;rw[Qf ah];refine⟨by omega,ah,by omega,fun hn=>by omega,fun _=>⟨by omega,(x+((c[k].length:Nat):Int),(k:Int)+1),(by and_intros<;>first|rfl|trivial|simp),hq _ ah ?_⟩⟩;rw[QI ah,List.flatten_append,List.length_append,hJ];simp
 .have:k=c.length:=by omega
  subst this;rw[List.take_length] at hJ h1;refine⟨by omega,([],decide (x=0),0),(by and_intros<;>first|rfl|trivial|simp),?_⟩;refine⟨fun d=>∃ k:Nat,d.2.2=k/\k<=c.length/\d.1=(c.take k).flatten/\d.2.1=(decide (x=0)&&(c.take k).flatten.isEmpty),fun d=>c.length-d.2.2.toNat,⟨0,rfl,Nat.zero_le _,by simp,by simp⟩,?_⟩;rintro⟨xs,b,_⟩ ⟨k,rfl,hk,bh,hb⟩;dsimp only at bh hb |-;have h1:=oL k hk;refine⟨fun ah=>?_,fun bj=>?_⟩
  .have ah:k<c.length:=by omega
   have h2:=hx k ah;simp only[Int.toNat_natCast,Qf ah];rw[bh];refine⟨by omega,by omega,by omega,by omega,((c.take k).flatten++c[k],c[k].isEmpty&&b,(k:Int)+1),(by and_intros<;>first|rfl|trivial|simp),⟨k+1,by simp,ah,?_,?_⟩,by dsimp only;omega⟩
   .rw[QI ah,List.flatten_append];simp
   .rw[QI ah,List.flatten_append,hb];cases c[k]<;>cases (c.take k).flatten<;>simp
  .have:k=c.length:=by omega
   subst this;rw[List.take_length] at bh hb;refine⟨bh,?_⟩;rw[hb,hJ];cases c.flatten<;>simp
def Vz:AL (Int×(Int×List Int)×Int×Int):=(.cons (.k (.i .i64)) (.cons (.ptr (.cons (.k (.i .i64)) (.one (.k (.list (.i .i64)))))) (.cons (.ptr (.one (.k (.i .i64)))) (.one (.ptr (.one (.k (.i .i64))))))))
def GJ (d:Int×(Int×List Int)×Int×Int):Prop:=0<=d.1/\d.1<d.2.2.2/\0<=d.2.2.1/\d.2.2.1<d.2.2.2/\d.2.2.2=d.2.1.2.length/\d.2.2.2<=1000
def KF (d:Int×(Int×List Int)×Int×Int):SV:=.val .bo (d.2.1.2.getD d.1.toNat 0==d.2.1.2.getD (Int.tmod (d.2.2.1-d.1+d.2.2.2) d.2.2.2).toNat 0)
def KJ (d:Int×(Int×List Int)×Int×Int):List OB:=[]
def Yd:CSp:=WZ Vz GJ KF KJ
def JW (i:Int) (hk:Int) (lw:List Int) (s:Int) (n:Int):Prop :=
 (0<=i)/\(i<(List.length lw))/\(I64 (s-i))/\(I64 ((s-i)+n))/\(n≠0)/\(0<=(Int.tmod ((s-i)+n) n))/\((Int.tmod ((s-i)+n) n)<(List.length lw))/\(((gD lw i 0)==(gD lw (Int.tmod ((s-i)+n) n) 0))=(lw.getD i.toNat 0==lw.getD (Int.tmod (s-i+n) n).toNat 0)/\(True))
def VK:Cx:=⟨[],[],23,[],0,[],[],[],[],false,[],[],[],[]⟩
def DZ (i:Int) (hk:Int) (lw:List Int) (s:Int) (n:Int):List (Nat×LoopAnn):=[]
theorem DX (d:Int×(Int×List Int)×Int×Int):gwp (VK) (DZ d.1 d.2.1.1 d.2.1.2 d.2.2.1 d.2.2.2) c49 0 (Kn [.tmp 5] (KF d) (KJ d)) (Qx 23 (AL.can Vz d))=JW d.1 d.2.1.1 d.2.1.2 d.2.2.1 d.2.2.2:=by kernel_rfl
abbrev Bd:Prop:=OkC Tryz.prog 49 Yd
theorem Ba (h:∀ (i:Int) (hk:Int) (lw:List Int) (s:Int) (n:Int),(0<=i/\i<n/\0<=s/\s<n/\n=lw.length/\n<=1000)->JW i hk lw s n):OkC Tryz.prog 49 Yd :=
 QH Q6c mixed (C:=VK) (V:=fun (d:Int×(Int×List Int)×Int×Int)=>JW d.1 d.2.1.1 d.2.1.2 d.2.2.1 d.2.2.2) ⟨.nil,XsOk.nil,ItsOk.nil,YlOk.nil,IysOk.nil,XfOk.nil⟩ (DX) fun d hp=>h d.1 d.2.1.1 d.2.1.2 d.2.2.1 d.2.2.2 hp
theorem B3:Bd:=Ba fun i hk lw s n h=>by
 obtain⟨h1,h2,h3,h4,h5,h6⟩:=h;obtain⟨i,rfl⟩:=Int.eq_ofNat_of_zero_le h1;obtain⟨s,rfl⟩:=Int.eq_ofNat_of_zero_le h3;subst h5;have e1:(s:Int)-(i:Int)+(lw.length:Int)=((s+lw.length-i:Nat):Int):=by omega
 have h7:(s+lw.length-i) % lw.length<lw.length:=Nat.mod_lt _ (by omega);unfold JW;delta lI gD;simp only[e1,By,Q7];and_intros<;>first|omega|trivial
def NM:AL (Int×List Int):=(.one (.agg (.cons (.k (.i .i64)) (.one (.k (.list (.i .i64)))))))
def BN (d:Int×List Int):Prop:=d.2.length<=1000
def Uo (d:Int×List Int):SV:=.tup [.val (.i .i64) (if Q8 d.1 d.2=0 then Cf d.2 else 0),.val (.i .i64) (WM d.1 d.2)]
def Uj (d:Int×List Int):List OB:=[]
def Vh:CSp:=WZ NM BN Uo Uj
def W1 (hk:Int) (lw:List Int):Prop :=
 (lw.length<=1000000)/\(((Q8 hk lw) != (0:Int))=true ->
  (((0:Int)=(if Q8 hk lw=0 then Cf lw else 0)/\(Q8 hk lw)=(WM hk lw)/\(([]:List SV)=[]))/\(True))) /\
 (((Q8 hk lw) != (0:Int))=false ->
  ∃ (e3:Unit) (d30:Int),((True/\True/\(lI lw)=(lI lw)/\(0:Int)=d30/\True)/\((hk=hk/\lw=lw/\(([]:List SV)=[]))/\((lI lw)=(lI lw)/\(([]:List SV)=[]))/\True)) /\
  LoopP (fun (d3:Int) (q3:(Int)->Prop) =>
   ((decide (d3<(lI lw)))=true ->
    ∃ (e6:Int×Int) (d60:Bool×Int),((True/\True/\True/\(((([]:List SV)=[]))/\(True/\True/\True/\(([]:List SV)=[])))/\true=d60.1/\(lI lw)=(lI lw)/\d3=e6.2/\(lI lw)=(lI lw)/\(0:Int)=d60.2/\True)/\((hk=hk/\lw=lw/\(([]:List SV)=[]))/\((lI lw)=(lI lw)/\(([]:List SV)=[]))/\(d3=e6.1/\(([]:List SV)=[]))/\True)) /\
    LoopP (fun (d6:Bool×Int) (q6:(Bool×Int)->Prop) =>
     ((decide (d6.2<(lI lw)))=true ->
      (d6.1=true->0<=d6.2/\d6.2<(lI lw)/\0<=e6.1/\e6.1<(lI lw)/\(lI lw)=lw.length/\(lI lw)<=1000)/\(I64 (d6.2+(1:Int)))/\(∃ d7:Bool×Int,((True/\True/\True/\(((([]:List SV)=[]))/\(True/\True/\True/\(([]:List SV)=[])))/\(d6.1&&(lw.getD d6.2.toNat 0==lw.getD (Int.tmod (e6.1-d6.2+(lI lw)) (lI lw)).toNat 0))=d7.1/\(lI lw)=(lI lw)/\e6.2=e6.2/\(lI lw)=(lI lw)/\(d6.2+(1:Int))=d7.2/\True)/\((hk=hk/\lw=lw/\(([]:List SV)=[]))/\((lI lw)=(lI lw)/\(([]:List SV)=[]))/\(e6.1=e6.1/\(([]:List SV)=[]))/\True))/\q6 d7)) /\
     ((decide (d6.2<(lI lw)))=false ->
      (d6.1=true ->
       ((e6.1=(if Q8 hk lw=0 then Cf lw else 0)/\(0:Int)=(WM hk lw)/\(([]:List SV)=[]))/\(True))) /\
      (d6.1=false ->
       (I64 (e6.2+(1:Int)))/\(∃ d8:Int,((True/\True/\(lI lw)=(lI lw)/\(e6.2+(1:Int))=d8/\True)/\((hk=hk/\lw=lw/\(([]:List SV)=[]))/\((lI lw)=(lI lw)/\(([]:List SV)=[]))/\True))/\q3 d8)))) d60) /\
   ((decide (d3<(lI lw)))=false ->
    (((0:Int)=(if Q8 hk lw=0 then Cf lw else 0)/\(7:Int)=(WM hk lw)/\(([]:List SV)=[]))/\(True)))) d30)
def Nv:Cx:=⟨[],[(37,JZ),(49,Yd)],37,[],0,[],[],[],[],false,[],[],[],[]⟩
def PO (hk:Int) (lw:List Int):List (Nat×LoopAnn):=[(0,⟨Unit,Int,[1,5,18,19],fun e x=>[.box 1 0,.box 5 0,.val (.i .i64) (((List.length lw):Nat):Int),.val (.i .i64) x],fun e x=>[(1,.slot 1,.cells [.val (.i .i64) hk,.val (.list (.i .i64)) lw] (some 24)),(5,.slot 5,.cells [.val (.i .i64) (((List.length lw):Nat):Int)] (some 3))]⟩),
 (2,⟨Int×Int,Bool×Int,[1,5,6,7,8,18,19,23,24],fun e x=>[.box 1 0,.box 5 0,.box 6 0,.fn 49 [] [.box 1 0,.box 6 0,.box 5 0],.val .bo x.1,.val (.i .i64) (((List.length lw):Nat):Int),.val (.i .i64) e.2,.val (.i .i64) (((List.length lw):Nat):Int),.val (.i .i64) x.2],fun e x=>[(1,.slot 1,.cells [.val (.i .i64) hk,.val (.list (.i .i64)) lw] (some 24)),(5,.slot 5,.cells [.val (.i .i64) (((List.length lw):Nat):Int)] (some 3)),(6,.slot 6,.cells [.val (.i .i64) e.1] (some 3))]⟩)]
theorem Pw (d:Int×List Int):gwp (Nv) (PO d.1 d.2) c26 0 (Kn [.tmp 2,.tmp 3] (Uo d) (Uj d)) (Qx 37 (AL.can NM d))=W1 d.1 d.2:=by kernel_rfl
abbrev PL:Prop:=OkC Tryz.prog 26 Vh
theorem PH (h:∀ (hk:Int) (lw:List Int),(lw.length<=1000)->W1 hk lw):OkC Tryz.prog 26 Vh :=
 QH Q7r mixed (C:=Nv) (V:=fun (d:Int×List Int)=>W1 d.1 d.2) ⟨(.cons W7 (.cons B3 .nil)),XsOk.nil,ItsOk.nil,YlOk.nil,IysOk.nil,XfOk.nil⟩ (Pw) fun d hp=>h d.1 d.2 hp
theorem PI:PL:=PH fun hk lw hl=>by
 unfold W1;delta lI gD;simp only[true_and,and_true,exists_eq_left',exists_const,decide_eq_true_eq,decide_eq_false_iff_not,bne_iff_ne,ne_eq,bne_eq_false_iff_eq,Q7];refine⟨by omega,fun he=>by simp[he,WM],fun he=>?_⟩;obtain⟨t1,t2,t3,t4,t5⟩:=Vu he;simp only[he,if_true];refine LoopP.count lw.length (fun k=>∀ j,j<k->Q5k lw j=false) (fun j h=>by omega) fun s hs hJ q hq=>?_;refine⟨fun ah=>?_,fun bj=>?_⟩
 .refine⟨((s:Int),(s:Int)),(true,0),(by and_intros<;>first|rfl|trivial|simp),?_⟩;refine LoopP.count2 lw.length (fun i b=>b=true<->∀ j,j<i->lw.getD j 0=lw.getD ((s+lw.length-j) % lw.length) 0) (by simp) fun i b hi hI q2 kF=>?_;dsimp only;have e1:(s:Int)-(i:Int)+(lw.length:Int)=((s+lw.length-i:Nat):Int):=by omega
  simp only[e1,By,Int.toNat_natCast,Int.ofNat_lt];refine⟨fun wG=>?_,fun bj=>⟨fun hb=>?_,fun hb=>⟨by omega,?_⟩⟩⟩
  .refine⟨fun _=>by omega,by omega,(b&&(lw.getD i 0==lw.getD ((s+lw.length-i) % lw.length) 0),(i:Int)+1),(by and_intros<;>first|rfl|trivial|simp),kF _ (by omega) ?_⟩;simp only[Bool.and_eq_true,beq_iff_eq,hI];constructor
   .rintro⟨h1,h2⟩ j hj;rcases Nat.lt_succ_iff_lt_or_eq.1 hj with hj|rfl
    .exact h1 j hj
    .exact h2
   .exact fun h=>⟨fun j hj=>h j (by omega),h i (by omega)⟩
  .have:i=lw.length:=by omega
   subst this;have:=SF (by omega) (Bu.2 (hI.1 hb)) hJ;simp[Cf,WM,he,this]
  .refine hq (by omega) fun j hj=>?_;rcases Nat.lt_succ_iff_lt_or_eq.1 hj with hj|rfl
   .exact hJ j hj
   .have:i=lw.length:=by omega
    subst this;rw[Bool.eq_false_iff];intro h;rw[hI.2 (Bu.1 h)] at hb;cases hb
 .have:s=lw.length:=by omega
  subst this;simp[Cf,WM,he,Iz hJ]
def MG:AL ((Int×List Int)×Int×List Int):=(.cons (.agg (.cons (.k (.i .i64)) (.one (.k (.list (.i .i64)))))) (.one (.agg (.cons (.k (.i .i64)) (.one (.k (.list (.i .i64))))))))
def Pg (d:(Int×List Int)×Int×List Int):Prop:=d.1.2.length<=1000/\d.2.2.length<=1000
def NB (d:(Int×List Int)×Int×List Int):SV:=.tup [.agg [.val (.i .i64) (if QS d.1.1 d.1.2 d.2.1 d.2.2=0 then d.1.1 else 0),.lst 0],.val (.i .i64) (QS d.1.1 d.1.2 d.2.1 d.2.2)]
def NN (d:(Int×List Int)×Int×List Int):List OB:=[.lst 3 (.i .i64) (if QS d.1.1 d.1.2 d.2.1 d.2.2=0 then d.1.2++d.2.2 else []) (decide (QS d.1.1 d.1.2 d.2.1 d.2.2≠0))]
def Ug:CSp:=WZ MG Pg NB NN
abbrev Br (hk:Int) (lw:List Int) (aL:Int) (bc:List Int):=((hk=hk/\lw=lw/\(([]:List SV)=[]))/\(aL=aL/\bc=bc/\(([]:List SV)=[]))/\((0:Int)=(0:Int)/\True/\(([]:List SV)=[]))/\True)
abbrev G4 (hk:Int) (lw:List Int) (aL:Int) (bc:List Int):=(((if QS hk lw aL bc=0 then lw++bc else [])=[]/\(decide (QS hk lw aL bc≠0))=true)/\True)
abbrev GF (hk:Int) (lw:List Int) (aL:Int) (bc:List Int):=((0:Int)=(if QS hk lw aL bc=0 then hk else 0)/\True/\(([]:List SV)=[]))
def Y1 (hk:Int) (lw:List Int) (aL:Int) (bc:List Int):Prop :=
 ∃ (e3:Unit) (d30:Int),((True/\True/\True/\(hk=hk/\lw=lw/\aL=aL/\bc=bc/\(([]:List SV)=[]))/\(0:Int)=d30/\True)/\(Br hk lw aL bc)) /\
 LoopP (fun (d3:Int) (q3:(Int)->Prop) =>
  ((decide (d3<(2:Int)))=true ->
   (0<=d3)/\(d3<(2:Int)) /\
   (d3=(0:Int) ->
    (lw.length<=1000000)/\(((Q8 hk lw) != (0:Int))=true ->
     (((GF hk lw aL bc)/\(Q8 hk lw)=(QS hk lw aL bc)/\(([]:List SV)=[]))/\(G4 hk lw aL bc))) /\
    (((Q8 hk lw) != (0:Int))=false ->
     (I64 (d3+(1:Int)))/\(∃ d4:Int,((True/\True/\True/\(hk=hk/\lw=lw/\aL=aL/\bc=bc/\(([]:List SV)=[]))/\(d3+(1:Int))=d4/\True)/\(Br hk lw aL bc))/\q3 d4))) /\
   (d3=(1:Int) ->
    (bc.length<=1000000)/\(((Q8 aL bc) != (0:Int))=true ->
     (((GF hk lw aL bc)/\(Q8 aL bc)=(QS hk lw aL bc)/\(([]:List SV)=[]))/\(G4 hk lw aL bc))) /\
    (((Q8 aL bc) != (0:Int))=false ->
     (I64 (d3+(1:Int)))/\(∃ d5:Int,((True/\True/\True/\(hk=hk/\lw=lw/\aL=aL/\bc=bc/\(([]:List SV)=[]))/\(d3+(1:Int))=d5/\True)/\(Br hk lw aL bc))/\q3 d5))) /\
   True) /\
  ((decide (d3<(2:Int)))=false ->
   ((hk != aL)=true ->
    (((GF hk lw aL bc)/\(4:Int)=(QS hk lw aL bc)/\(([]:List SV)=[]))/\(G4 hk lw aL bc))) /\
   ((hk != aL)=false ->
    (I64 ((lI lw)+(lI bc)))/\((decide (((lI lw)+(lI bc)) > (96:Int)))=true ->
     (((GF hk lw aL bc)/\(8:Int)=(QS hk lw aL bc)/\(([]:List SV)=[]))/\(G4 hk lw aL bc))) /\
    ((decide (((lI lw)+(lI bc)) > (96:Int)))=false ->
     ([lw,bc].length<=10/\∀ x∈[lw,bc],x.length<=1000)/\(([lw,bc].flatten).isEmpty=true->[lw,bc].flatten=[])/\(((hk=(if QS hk lw aL bc=0 then hk else 0)/\True/\(([]:List SV)=[]))/\(0:Int)=(QS hk lw aL bc)/\(([]:List SV)=[]))/\(([lw,bc].flatten=(if QS hk lw aL bc=0 then lw++bc else [])/\([lw,bc].flatten).isEmpty=(decide (QS hk lw aL bc≠0)))/\True)))))) d30
def MB:Cx:=⟨[(22,(.list (.i .i64)))],[(37,JZ),(45,ZS)],48,[45],0,[],[],[(22,3)],[],false,[],[],[],[]⟩
def TQ (hk:Int) (lw:List Int) (aL:Int) (bc:List Int):List (Nat×LoopAnn):=[(0,⟨Unit,Int,[2,3,4,11,12],fun e x=>[.box 2 0,.box 3 0,.box 4 0,.agg [.val (.i .i64) hk,.val (.list (.i .i64)) lw,.val (.i .i64) aL,.val (.list (.i .i64)) bc],.val (.i .i64) x],fun e x=>[(2,.slot 2,.cells [.val (.i .i64) hk,.val (.list (.i .i64)) lw] (some 24)),(3,.slot 3,.cells [.val (.i .i64) aL,.val (.list (.i .i64)) bc] (some 24)),(4,.slot 4,.cells [.val (.i .i64) (0:Int),.nilS] (some 24))]⟩)]
theorem R5 (d:(Int×List Int)×Int×List Int):gwp (MB) (TQ d.1.1 d.1.2 d.2.1 d.2.2) c20 0 (Kn [.cell 4 true 2,.tmp 5] (NB d) (NN d)) (Qx 48 (AL.can MG d))=Y1 d.1.1 d.1.2 d.2.1 d.2.2:=by kernel_rfl
abbrev RE:Prop:=OkC Tryz.prog 20 Ug
theorem TC (h:∀ (hk:Int) (lw:List Int) (aL:Int) (bc:List Int),(lw.length<=1000/\bc.length<=1000)->Y1 hk lw aL bc):OkC Tryz.prog 20 Ug :=
 QH Q6a mixed (C:=MB) (V:=fun (d:(Int×List Int)×Int×List Int)=>Y1 d.1.1 d.1.2 d.2.1 d.2.2) ⟨(.cons W7 (.cons KZ .nil)),XsOk.nil,ItsOk.nil,YlOk.nil,IysOk.nil,XfOk.nil⟩ (R5) fun d hp=>h d.1.1 d.1.2 d.2.1 d.2.2 hp
theorem Rk:RE:=TC fun hk lw aL bc h=>by
 obtain⟨h1,h2⟩:=h;unfold Y1;(try delta Br G4 GF);delta lI gD;simp only[true_and,and_true,exists_eq_left',exists_const,decide_eq_true_eq,decide_eq_false_iff_not,bne_iff_ne,ne_eq,bne_eq_false_iff_eq,gt_iff_lt,Q7];refine LoopP.count 2 (fun k=>(0<k->Q8 hk lw=0)/\(1<k->Q8 aL bc=0)) ⟨fun h=>by omega,fun h=>by omega⟩ fun k kX hJ q hq=>?_;refine⟨fun ah=>⟨by omega,by omega,fun e=>?_,fun e=>?_⟩,fun bj=>?_⟩
 .have e:k=0:=by omega
  subst e;refine⟨by omega,fun he=>?_,fun he=>⟨by simp,by simpa using hq (by omega) ⟨fun _=>he,fun h=>by omega⟩⟩⟩;simp[QS,he]
 .have e:k=1:=by omega
  subst e;have jh:=hJ.1 (by omega);refine⟨by omega,fun he=>?_,fun he=>⟨by simp,by simpa using hq (by omega) ⟨fun _=>jh,fun _=>he⟩⟩⟩;simp[QS,he,jh]
 .have e1:=hJ.1 (by omega);have e2:=hJ.2 (by omega);refine⟨fun aC=>by simp[QS,e1,e2,aC],fun heq=>?_⟩;subst heq;refine⟨by omega,fun mA=>?_,fun hle=>⟨⟨by simp,?_⟩,?_⟩⟩
  .have:96<lw.length+bc.length:=by omega
   simp[QS,e1,e2,this]
  .intro x hx;rcases List.mem_cons.1 hx with rfl|hx
   .exact h1
   .rw[List.mem_singleton.1 hx];exact h2
  .have:¬ 96<lw.length+bc.length:=by omega
   obtain⟨t1,t2,t3,t4,t5⟩:=Vu e1;have aC:lw≠[]:=fun e=>t4 (by simp[e]);simp[QS,e1,e2,this,aC]
def hAt (fi la:Int) (k:Nat):Int:=if la<fi then fi-k else fi+k
def hN (fi la:Int):Nat:=(la-fi).natAbs
def EK (fi la:Int) (n:Nat):List Int:=(List.range n).map fun k=>hAt fi la k
def TX (fi la:Int) (m:Nat) (n:Nat):List Int:=(List.range n).map fun k=>hAt fi la (m-1-k)
def Qv (fi la wy:Int):List Int:=EK fi la (hN fi la+1)++(if wy=2 then TX fi la (hN fi la) (hN fi la-1) else [])
abbrev Grp:=Int×Int×Int×Int
def mkOne (x:Grp):List Int:=UY (Qv x.1 x.2.1 x.2.2.1) x.2.2.2.toNat
def mkW (g:List Grp):List Int:=(g.map mkOne).flatten
def RG (hk:Int) (x:Grp):Bool:=!inI x.1 0 (hk-1)||!inI x.2.1 0 (hk-1)||!inI x.2.2.1 1 2||!inI x.2.2.2 1 8
def VY (hk:Int) (g:List Grp) (i:Nat):Bool:=RG hk (g.getD i (0,(0,(0,0))))||decide (96<(mkW (g.take (i+1))).length)
def mkAt (hk:Int) (g:List Grp):Option Nat:=(List.range g.length).find? (VY hk g)
def Qt (hk:Int) (g:List Grp):Int:=if !inI hk 1 24 then 2 else if 8<g.length then 5 else if g.length=0 then 7 else match mkAt hk g with|none=>0|some i=>if RG hk (g.getD i (0,(0,(0,0)))) then 2 else 8
def mkI (hk:Int) (g:List Grp):Int:=if !inI hk 1 24||decide (8<g.length) then 0 else match mkAt hk g with|none=>0|some i=>(i:Int)
theorem Lr (fi la:Int) (n:Nat):EK fi la (n+1)=EK fi la n++[hAt fi la n]:=by simp only[EK,List.range_succ,List.map_append,List.map_cons,List.map_nil]
theorem FK (fi la:Int) (m n:Nat):TX fi la m (n+1)=TX fi la m n++[hAt fi la (m-1-n)]:=by simp only[TX,List.range_succ,List.map_append,List.map_cons,List.map_nil]
theorem Zl (fi la:Int) (n:Nat):(EK fi la n).length=n:=by simp[EK]
theorem Wh (fi la:Int) (m n:Nat):(TX fi la m n).length=n:=by simp[TX]
theorem Oi {fi la:Int}{n k:Nat}(h:k<n) (t:List Int):(EK fi la n++t).getD k 0=hAt fi la k:=by rw[List.getD_eq_getElem?_getD,List.getElem?_append_left (by rw[Zl];exact h)];simp[EK,h]
theorem Q71 {fi la:Int}{k:Nat}(hk:k<=hN fi la):hAt fi la k=la<->k=hN fi la:=by unfold hAt hN at *;split<;>omega
theorem RD {fi la wy:Int}(h:0<=fi/\fi<24/\0<=la/\la<24):0<(Qv fi la wy).length/\(Qv fi la wy).length<=48:=by
 have:hN fi la<=24:=by unfold hN;omega
 unfold Qv;split<;>simp only[List.length_append,Zl,Wh,List.length_nil]<;>omega
theorem Q12 {g:List Grp}{i:Nat}(h:i<g.length):mkW (g.take (i+1))=mkW (g.take i)++mkOne (g.getD i (0,(0,(0,0)))):=by rw[QI h,Qf h];simp only[mkW,List.map_append,List.flatten_append,List.map_cons,List.map_nil,List.flatten_cons,List.flatten_nil,List.append_nil]
theorem Lm {hk:Int}{g:List Grp}{i:Nat}(h:i<g.length) (hs:VY hk g i=true) (hJ:∀ j,j<i->VY hk g j=false):mkAt hk g=some i :=
 List.find?_range_eq_some.2 ⟨hs,by simpa using h,fun j hj=>by simpa using hJ j hj⟩
theorem S0 {hk:Int}{g:List Grp}(hJ:∀ j,j<g.length->VY hk g j=false):mkAt hk g=none:=by simp only[mkAt,List.find?_range_eq_none,Bool.not_eq_true'];exact hJ
theorem Z1i {hk:Int}{g:List Grp}{i:Nat}(h:i<=g.length) (hJ:∀ j,j<i->VY hk g j=false):(mkW (g.take i)).length<=96:=by
 cases i with
 |zero=>simp[mkW]
 |succ i =>have:=hJ i (by omega);simp only[VY,Bool.or_eq_false_iff,decide_eq_false_iff_not] at this;omega
theorem SP {hk:Int}{g:List Grp}(h1:inI hk 1 24=true) (h2:¬ 8<g.length) (h3:¬ g.length=0) :
  Qt hk g=(match mkAt hk g with|none=>0|some i=>if RG hk (g.getD i (0,(0,(0,0)))) then 2 else 8)/\mkI hk g=(match mkAt hk g with|none=>0|some i=>(i:Int)):=by
 simp[Qt,mkI,h1,h2,h3]
theorem Cv {hk:Int}{x:Grp}(h:RG hk x=false) (aL:inI hk 1 24=true):(0<=x.1/\x.1<24/\0<=x.2.1/\x.2.1<24)/\1<=x.2.2.1/\x.2.2.1<=2/\1<=x.2.2.2/\x.2.2.2<=8:=by simp[RG,inI] at h aL;omega
theorem OJ (hk a b w t:Int):((!(!([a,b].any fun n=>decide (n<0)||decide (hk-1<n)))||(w != 1&&w != 2))||(!(!([t].any fun n=>decide (n<1)||decide (8<n)))))=RG hk (a,(b,(w,t))):=by rw[Bool.eq_iff_iff];simp[RG,inI];omega
theorem CQ (a b:List Int):(List.isEmpty b&&List.isEmpty a)=List.isEmpty (a++b):=by cases a<;>cases b<;>simp
def YT:AL (Int×Int×Int×Int):=(.one (.agg (.cons (.k (.i .i64)) (.cons (.k (.i .i64)) (.cons (.k (.i .i64)) (.one (.k (.i .i64))))))))
def M6 (d:Int×Int×Int×Int):Prop:=0<=d.1/\d.1<24/\0<=d.2.1/\d.2.1<24
def Yp (d:Int×Int×Int×Int):SV:=.lst 0
def YF (d:Int×Int×Int×Int):List OB:=[.lst 3 (.i .i64) (Qv d.1 d.2.1 d.2.2.1) false]
def XI:CSp:=WZ YT M6 Yp YF
abbrev Lv:=fun (bk:Int) (pU:Int) (ta:Int) (tc:List Value) (td:Int) (tf:Int) (tg:Int) (th:Int) (tj:Int) (tk:Int) (oM:Int) (oN:Int) (oO:Int) (oP:Int) (oQ:Int) (oR:List Value) (oS:LpD) (rU:List Int) (rV:_->Prop)=>(( I64 ( bk+pU ) )/\( ∃ fL:Int×( List Int ) ,( ( True/\True/\pU=pU/\( bk+pU )=fL.1/\True )/\( ( ta=ta/\( ( [ ]:List SV )=[ ] ) )/\( tc=tc/\( ( td=td/\tf=tf/\tg=tg/\th=th/\( ( [ ]:List SV )=[ ] ) )/\True/\True/\True/\True/\True/\True/\tj=tj/\True/\True/\tk=tk/\( ( ( ( [ ]:List SV )=[ ] ) )/\( True/\True/\( ( [ ]:List SV )=[ ] ) ) )/\True/\True/\True/\True/\True/\True/\True/\True/\True/\True/\True/\True/\True/\True/\True/\True/\True/\True/\True/\True/\( ( [ ]:List SV )=[ ] ) ) )/\( oM=oM/\oN=oN/\oO=oO/\oP=oP/\( ( [ ]:List SV )=[ ] ) )/\( oQ=oQ/\( ( [ ]:List SV )=[ ] ) )/\( oR=oR/\( ( ( ( ( [ ]:List SV )=[ ] ) )/\( True/\True/\( ( [ ]:List SV )=[ ] ) ) )/\True/\True/\( ( ( ( [ ]:List SV )=[ ] ) )/\( True/\True/\( ( [ ]:List SV )=[ ] ) ) )/\True/\( ( [ ]:List SV )=[ ] ) ) )/\( oS=oS/\( True/\( ( ( ( [ ]:List SV )=[ ] ) )/\( True/\True/\( ( [ ]:List SV )=[ ] ) ) )/\True/\True/\True/\True/\( ( ( ( [ ]:List SV )=[ ] ) )/\( True/\True/\( ( [ ]:List SV )=[ ] ) ) )/\True/\True/\True/\True/\True/\True/\( ( [ ]:List SV )=[ ] ) ) )/\( True/\( ( [ ]:List SV )=[ ] ) )/\( ( rU++[ bk ] )=fL.2/\false=( List.isEmpty fL.2 ) )/\True ) )/\rV fL ):Prop)
abbrev HM:=fun (fi:Int) (la:Int) (wy:Int) (ti:Int) (w2:List Value) (w3:List Value) (w4:LpD) (bk:Int)=>(∃ ( bY:Int×Int×Int×Int×Int×Int×Int×Int×Int×Int×Int×Int×Int×( List Value )×( List Value )×LpD ) ( g8:Int×( List Int ) ) ,( ( True/\True/\bk=bY.2.1/\fi=g8.1/\True )/\( ( la=bY.1/\( ( [ ]:List SV )=[ ] ) )/\( bY.2.2.2.2.2.2.2.2.2.2.2.2.2.1=w2/\( ( fi=bY.2.2.1/\la=bY.2.2.2.1/\wy=bY.2.2.2.2.1/\ti=bY.2.2.2.2.2.1/\( ( [ ]:List SV )=[ ] ) )/\True/\True/\True/\True/\True/\True/\fi=bY.2.2.2.2.2.2.2.2.2.2.1/\True/\True/\la=bY.2.2.2.2.2.2.2.2.2.2.2.1/\( ( ( ( [ ]:List SV )=[ ] ) )/\( True/\True/\( ( [ ]:List SV )=[ ] ) ) )/\True/\True/\True/\True/\True/\True/\True/\True/\True/\True/\True/\True/\True/\True/\True/\True/\True/\True/\True/\True/\( ( [ ]:List SV )=[ ] ) ) )/\( fi=bY.2.2.2.2.2.2.1/\la=bY.2.2.2.2.2.2.2.1/\wy=bY.2.2.2.2.2.2.2.2.1/\ti=bY.2.2.2.2.2.2.2.2.2.1/\( ( [ ]:List SV )=[ ] ) )/\( fi=bY.2.2.2.2.2.2.2.2.2.2.2.2.1/\( ( [ ]:List SV )=[ ] ) )/\( bY.2.2.2.2.2.2.2.2.2.2.2.2.2.2.1=w3/\( ( ( ( ( [ ]:List SV )=[ ] ) )/\( True/\True/\( ( [ ]:List SV )=[ ] ) ) )/\True/\True/\( ( ( ( [ ]:List SV )=[ ] ) )/\( True/\True/\( ( [ ]:List SV )=[ ] ) ) )/\True/\( ( [ ]:List SV )=[ ] ) ) )/\( bY.2.2.2.2.2.2.2.2.2.2.2.2.2.2.2=w4/\( True/\( ( ( ( [ ]:List SV )=[ ] ) )/\( True/\True/\( ( [ ]:List SV )=[ ] ) ) )/\True/\True/\True/\True/\( ( ( ( [ ]:List SV )=[ ] ) )/\( True/\True/\( ( [ ]:List SV )=[ ] ) ) )/\True/\True/\True/\True/\True/\True/\( ( [ ]:List SV )=[ ] ) ) )/\( True/\( ( [ ]:List SV )=[ ] ) )/\( g8.2=[ ]/\( List.isEmpty g8.2 )=true )/\True ) )/\LoopP ( fun ( dm:Int×( List Int ) ) ( wH:( Int×( List Int ) )->Prop )=>bY.2.2.2.2.2.2.2.2.2.2.2.2.2.2.2=w4/\∀ tl:List Value ,( ( ( List.length dm.2 )+( List.length [ dm.1 ] ) )*8<=70368744177664 )/\tl=tl/\bY.2.2.2.2.2.2.2.2.2.2.2.2.2.2.2=w4/\( ( ( ! true )||( dm.1==bY.1 ) )=true->bY.2.2.2.2.2.2.2.2.2.2.2.2.2.2.2=w4/\bY.2.2.2.2.2.2.2.2.2.2.2.2.2.2.1=w3/\bY.2.2.2.2.2.2.2.2.2.2.2.2.2.1=w2/\( ( bY.2.2.2.2.2.2.2.2.1==( 2:Int ) )=true->( I64 ( ( lI ( dm.2++[ dm.1 ] ) )-( 2:Int ) ) )/\∃ ( xm:Unit ) ( rW:( List Int )×Int ) ,( ( True/\( ( lI ( dm.2++[ dm.1 ] ) )-( 2:Int ) )=rW.2/\True )/\( ( ( dm.2++[ dm.1 ] )=rW.1/\false=false )/\True ) )/\LoopP ( fun ( gS:( List Int )×Int ) ( wI:( ( List Int )×Int )->Prop )=>( ( decide ( gS.2 > ( 0:Int ) ) )=true->( 0<=gS.2 )/\( gS.2<( List.length gS.1 ) )/\( ( ( List.length gS.1 )+( List.length [ ( gD gS.1 gS.2 0 ) ] ) )*8<=70368744177664 )/\( I64 ( gS.2-( 1:Int ) ) )/\( ∃ rX:( List Int )×Int ,( ( True/\( gS.2-( 1:Int ) )=rX.2/\True )/\( ( ( gS.1++[ ( gD gS.1 gS.2 0 ) ] )=rX.1/\false=false )/\True ) )/\wI rX ) )/\( ( decide ( gS.2 > ( 0:Int ) ) )=false->( True/\( ( gS.1=( Qv fi la wy )/\false=false )/\True ) ) ) ) rW )/\( ( bY.2.2.2.2.2.2.2.2.1==( 2:Int ) )=false->( True/\( ( ( dm.2++[ dm.1 ] )=( Qv fi la wy )/\false=false )/\True ) ) ) )/\( ( ( ! true )||( dm.1==bY.1 ) )=false->( Lv dm.1 bY.2.1 bY.1 bY.2.2.2.2.2.2.2.2.2.2.2.2.2.1 bY.2.2.1 bY.2.2.2.1 bY.2.2.2.2.1 bY.2.2.2.2.2.1 bY.2.2.2.2.2.2.2.2.2.2.1 bY.2.2.2.2.2.2.2.2.2.2.2.1 bY.2.2.2.2.2.2.1 bY.2.2.2.2.2.2.2.1 bY.2.2.2.2.2.2.2.2.1 bY.2.2.2.2.2.2.2.2.2.1 bY.2.2.2.2.2.2.2.2.2.2.2.2.1 bY.2.2.2.2.2.2.2.2.2.2.2.2.2.2.1 bY.2.2.2.2.2.2.2.2.2.2.2.2.2.2.2 dm.2 wH ) ) ) g8:Prop)
def Jb (fi:Int) (la:Int) (wy:Int) (ti:Int):Prop :=
  ∀ w1:List Value, w1 = w1 /\ ∀ w2:List Value, ∀ w3:List Value, ∀ w4:LpD, ((decide (la < fi)) = true ->
     (HM fi la wy ti w2 w3 w4 ( - 1:Int ))) /\
  ((decide (la < fi)) = false ->
     (HM fi la wy ti w2 w3 w4 ( 1:Int )))
def Zx:Cx:=⟨[],[],6,[],0,[],[],[],[],false,[],[],[],[]⟩
def Zw:List (Nat×LoopAnn):=[]
def Qa:Cx:=⟨[],[],22,[],0,[],[],[],[],false,[],[],[],[]⟩
def Q9:List (Nat×LoopAnn):=[(0,⟨Int×Int×Int×Int×Int×Int×Int×Int×Int×Int×Int×Int×Int×(List Value)×(List Value)×LpD,Int×(List Int),[0,1,4,5],fun e x=>[.dd 130002500000 .yv,.box 1200003 0,.val (.i .i64) e.2.1,.val (.i .i64) x.1],fun e x=>[(1200003,.slot 1,.cells [.val (.i .i64) e.1] (some 3)),(1299999,.key 1299999,.stk [.agg [.val (.i .i64) e.2.2.1,.val (.i .i64) e.2.2.2.1,.val (.i .i64) e.2.2.2.2.1,.val (.i .i64) e.2.2.2.2.2.1],.box 1 0,.nilS,.any,.any,.box 1 0,.box 1 0,.val (.i .i64) e.2.2.2.2.2.2.2.2.2.2.1,.box 1 0,.box 1 1,.val (.i .i64) e.2.2.2.2.2.2.2.2.2.2.2.1,.fn 96 [] [.box 1200003 0,.box 1200002 0],.any,.any,.any,.any,.any,.any,.any,.any,.any,.any,.any,.any,.any,.any,.any,.any,.any,.any,.any,.any] e.2.2.2.2.2.2.2.2.2.2.2.2.2.1),(1,.key 1,.cells [.val (.i .i64) e.2.2.2.2.2.2.1,.val (.i .i64) e.2.2.2.2.2.2.2.1,.val (.i .i64) e.2.2.2.2.2.2.2.2.1,.val (.i .i64) e.2.2.2.2.2.2.2.2.2.1] (some 113)),(1200002,.key 1200002,.cells [.val (.i .i64) e.2.2.2.2.2.2.2.2.2.2.2.2.1] (some 3)),(130000499999,.key 130000499999,.stk [.fn 96 [] [.box 1200003 0,.box 1200002 0],.any,.nilS,.fn 96 [] [.box 1200003 0,.box 1200002 0],.any] e.2.2.2.2.2.2.2.2.2.2.2.2.2.2.1),(130002500000,.key 130002500000,.lpf [.nilS,.fn 96 [] [.box 1200003 0,.box 1200002 0],.box 130000500002 0,.any,.nilS,.any,.fn 96 [] [.box 1200003 0,.box 1200002 0],.any,.any,.any,.any,.any,.any] e.2.2.2.2.2.2.2.2.2.2.2.2.2.2.2 .rdy),(130000500002,.key 130000500002,.cells [.lst 130000500011] (some 22)),(130000500011,.cell 130000500002 0,.lst 3 (.i .i64) x.2 (List.isEmpty x.2))]⟩)]
def Qj:Cx:=⟨[(3,(.i .i64))],[],13,[],0,[],[],[],[],false,[],[(96,Z33 Qa Q9 c96 22)],[],[]⟩
def Qi:List (Nat×LoopAnn):=[]
def Q_:Cx:=⟨[],[],5,[],0,[(95,Q2p Qj (fun _=>Qi) c95 [.tmp 4] 13)],[],[],[],false,[],[],[],[]⟩
def Z0:List (Nat×LoopAnn):=[]
def K7:Cx:=⟨[(3,(.i .i64))],[],32,[],0,[(74,Q2p Zx (fun _=>Zw) c74 [.tmp 4] 6),(73,Q2p Q_ (fun _=>Z0) c73 [.tmp 2] 5)],[],[],[],false,[],[],[],[]⟩
def G1 (fi:Int) (la:Int) (wy:Int) (ti:Int):List (Nat×LoopAnn):=[(0,⟨Unit,(List Int)×Int,[3,4],fun e x=>[.lst 130000500011,.val (.i .i64) x.2],fun e x=>[(130000500011,.slot 3,.lst 3 (.i .i64) x.1 false)]⟩)]
theorem Mx (d:Int×Int×Int×Int):gwp (K7) (G1 d.1 d.2.1 d.2.2.1 d.2.2.2) c51 0 (Kn [.tmp 2] (Yp d) (YF d)) (Qx 32 (AL.can YT d))=Jb d.1 d.2.1 d.2.2.1 d.2.2.2:=by kernel_rfl
abbrev Gm:Prop:=OkC Tryz.prog 51 XI
theorem Gs (h:∀ (fi:Int) (la:Int) (wy:Int) (ti:Int),(0<=fi/\fi<24/\0<=la/\la<24)->Jb fi la wy ti):OkC Tryz.prog 51 XI :=
 QH Q5c mixed (C:=K7) (V:=fun (d:Int×Int×Int×Int)=>Jb d.1 d.2.1 d.2.2.1 d.2.2.2) ⟨.nil,(XsOk.cons (U8 Q59 mixed (C:=Zx) ⟨.nil,XsOk.nil,ItsOk.nil,YlOk.nil,IysOk.nil,XfOk.nil⟩ (fun _=>Zw)) (XsOk.cons (U8 Q58 mixed (C:=Q_) ⟨.nil,(XsOk.cons (U8 Q6i mixed (C:=Qj) ⟨.nil,XsOk.nil,ItsOk.nil,YlOk.nil,(IysOk.cons (Q55 Q5m mixed (C:=Qa) ⟨.nil,XsOk.nil,ItsOk.nil,YlOk.nil,IysOk.nil,XfOk.nil⟩ Q9) IysOk.nil),XfOk.nil⟩ (fun _=>Qi)) XsOk.nil),ItsOk.nil,YlOk.nil,IysOk.nil,XfOk.nil⟩ (fun _=>Z0)) XsOk.nil)),ItsOk.nil,YlOk.nil,IysOk.nil,XfOk.nil⟩ (Mx) fun d hp=>h d.1 d.2.1 d.2.2.1 d.2.2.2 hp
theorem Q1o {fi la:Int}(k:Nat):hAt fi la (k+1)=hAt fi la k+(if la<fi then -1 else 1):=by unfold hAt;split<;>omega
theorem Sq {fi la:Int}{k:Nat}(h:0<=fi/\fi<24/\0<=la/\la<24) (hk:k<=hN fi la):0<=hAt fi la k/\hAt fi la k<24:=by unfold hAt hN at *;split<;>omega
theorem G6:Gm:=Gs fun fi la wy ti h=>by
 unfold Jb;(try delta Lv HM);(try delta lI gD sT I64 Q1 pj8 pj4)
 (try simp only[decide_eq_true_eq,decide_eq_false_iff_not])
 have hn:hN fi la<=24:=by unfold hN;omega
 refine fun w1=>⟨trivial,fun w2 w3 w4=>⟨fun hc=>?_,fun hc=>?_⟩⟩
 all_goals
  refine⟨(_,_,_,_,_,_,_,_,_,_,_,_,_,_,_,_),(_,_),(by and_intros<;>first|rfl|trivial|simp),?_⟩;dsimp only;refine⟨fun d=>∃ k:Nat,k<=hN fi la/\d=(hAt fi la k,EK fi la k),fun d=>hN fi la-d.2.length,⟨0,by omega,by simp[hAt,EK]⟩,?_⟩;rintro _ ⟨k,hk,rfl⟩;have hr:=Sq h hk;have hs:=Q1o (fi:=fi) (la:=la) k;simp only[hc,if_true,if_false] at hs;dsimp only;simp only[<-Lr,Zl,List.length_singleton,Q7,Bool.not_true,Bool.false_or,beq_iff_eq,beq_eq_false_iff_ne,ne_eq,Q71 hk,<-hs];refine⟨trivial,fun w9=>⟨by omega,?_⟩⟩;refine⟨trivial,trivial,fun he=>?_,fun he=>?_⟩
  .subst he;refine⟨trivial,trivial,trivial,fun hw=>⟨by omega,(),(_,_),(by and_intros<;>first|rfl|trivial|simp),?_⟩,fun hw=>by simp[Qv,hw]⟩;refine⟨fun d=>∃ j:Nat,j<=hN fi la-1/\d.2=(((hN fi la+1:Nat):Int)-2-j)/\d.1=EK fi la (hN fi la+1)++TX fi la (hN fi la) j,fun d=>d.2.toNat,⟨0,by omega,by simp,by simp[TX,EK]⟩,?_⟩;rintro⟨_,_⟩ ⟨j,hj,h2,h1⟩;dsimp only at h1 h2 |-;subst h1 h2;simp only[List.length_append,Zl,Wh];refine⟨fun mA=>?_,fun hle=>?_⟩
   .have e:(((hN fi la+1:Nat):Int)-2-(j:Int)).toNat=hN fi la-1-j:=by omega
    rw[e,Oi (by omega),List.append_assoc,<-FK];refine⟨by omega,by omega,by omega,by omega,(_,_),(by and_intros<;>first|rfl|trivial|simp),⟨j+1,by omega,?_,rfl⟩,?_⟩
    .dsimp only;omega
    .dsimp only;omega
   .have:j=hN fi la-1:=by omega
    subst this;simp[Qv,hw]
  .refine⟨?_,(hAt fi la (k+1),EK fi la (k+1)),(by rw[Lr];and_intros<;>first|rfl|trivial|simp),⟨k+1,by omega,rfl⟩,?_⟩
   .have:=Sq h (show k+1<=hN fi la by omega);omega
   .simp only[Zl];omega
def Y_:AL (Int×Int):=(.cons (.k (.i .u32)) (.one (.k (.i .u32))))
def Mj (d:Int×Int):Prop:=False
def YK (d:Int×Int):SV:=.tup [.val (.i .u32) (0:Int),.val (.i .u32) (0:Int)]
def Yu (d:Int×Int):List OB:=[]
def XV:CSp:=WZ Y_ Mj YK Yu
def Xp (a:Int) (b:Int):Prop :=
 (InK .u64 a)/\(InK .u64 b)/\(InK .u64 (a*b))/\(0<=(32:Int))/\(InK .u32 (N3 .u64 (a*b) (32:Int)))/\(InK .u32 (a*b))/\(((N3 .u64 (a*b) (32:Int))=(0:Int)/\(a*b)=(0:Int)/\(([]:List SV)=[]))/\(True))
def K6:Cx:=⟨[],[],17,[],0,[],[],[],[],false,[],[],[],[]⟩
def GD (a:Int) (b:Int):List (Nat×LoopAnn):=[]
theorem MQ (d:Int×Int):gwp (K6) (GD d.1 d.2) c93 0 (Kn [.tmp 4,.tmp 5] (YK d) (Yu d)) (Qx 17 (AL.can Y_ d))=Xp d.1 d.2:=by kernel_rfl
abbrev M_:Prop:=OkC Tryz.prog 93 XV
theorem MA (h:∀ (a:Int) (b:Int),(False)->Xp a b):OkC Tryz.prog 93 XV :=
 QH Q65 mixed (C:=K6) (V:=fun (d:Int×Int)=>Xp d.1 d.2) ⟨.nil,XsOk.nil,ItsOk.nil,YlOk.nil,IysOk.nil,XfOk.nil⟩ (MQ) fun d hp=>h d.1 d.2 hp
theorem Gy:M_:=MA fun a b h=>h.elim
def YX:AL (Int×Int):=(.cons (.k (.i .u64)) (.one (.k (.i .u64))))
def Md (d:Int×Int):Prop:=0<=d.1/\d.1<=65535/\0<=d.2/\d.2<=65535
def Yr (d:Int×Int):SV:=.tup [.val (.i .u64) (0:Int),.val (.i .u64) (d.1*d.2)]
def Yq (d:Int×Int):List OB:=[]
def XM:CSp:=WZ YX Md Yr Yq
abbrev UR (a:Int) (b:Int):=(((N3 .u64 a (32:Int))*(ZG .and .u64 b (4294967295:Int)))+(N3 .u64 ((ZG .and .u64 a (4294967295:Int))*(ZG .and .u64 b (4294967295:Int))) (32:Int)))
abbrev TH (a:Int) (b:Int):=((((N3 .u64 a (32:Int))*(N3 .u64 b (32:Int)))+(N3 .u64 (UR a b) (32:Int)))+(N3 .u64 ((ZG .and .u64 (UR a b) (4294967295:Int))+((ZG .and .u64 a (4294967295:Int))*(N3 .u64 b (32:Int)))) (32:Int)))
def Jc (a:Int) (b:Int):Prop :=
 (0<=(32:Int))/\(0<=(32:Int))/\(InK .u64 ((ZG .and .u64 a (4294967295:Int))*(ZG .and .u64 b (4294967295:Int))))/\(InK .u64 ((N3 .u64 a (32:Int))*(ZG .and .u64 b (4294967295:Int))))/\(0<=(32:Int))/\(InK .u64 (UR a b))/\(0<=(32:Int))/\(InK .u64 ((ZG .and .u64 a (4294967295:Int))*(N3 .u64 b (32:Int))))/\(InK .u64 ((ZG .and .u64 (UR a b) (4294967295:Int))+((ZG .and .u64 a (4294967295:Int))*(N3 .u64 b (32:Int)))))/\(InK .u64 ((N3 .u64 a (32:Int))*(N3 .u64 b (32:Int))))/\(InK .u64 (((N3 .u64 a (32:Int))*(N3 .u64 b (32:Int)))+(N3 .u64 (UR a b) (32:Int))))/\(0<=(32:Int))/\(InK .u64 (TH a b))/\(InK .u64 (a*b))/\(((TH a b)=(0:Int)/\(a*b)=(a*b)/\(([]:List SV)=[]))/\(True))
def K5:Cx:=⟨[],[],51,[],0,[],[],[],[],false,[],[],[],[]⟩
def MJ (a:Int) (b:Int):List (Nat×LoopAnn):=[]
theorem MT (d:Int×Int):gwp (K5) (MJ d.1 d.2) c94 0 (Kn [.tmp 4,.tmp 5] (Yr d) (Yq d)) (Qx 51 (AL.can YX d))=Jc d.1 d.2:=by kernel_rfl
abbrev Gz:Prop:=OkC Tryz.prog 94 XM
theorem Gj (h:∀ (a:Int) (b:Int),(0<=a/\a<=65535/\0<=b/\b<=65535)->Jc a b):OkC Tryz.prog 94 XM :=
 QH Q77 mixed (C:=K5) (V:=fun (d:Int×Int)=>Jc d.1 d.2) ⟨.nil,XsOk.nil,ItsOk.nil,YlOk.nil,IysOk.nil,XfOk.nil⟩ (MT) fun d hp=>h d.1 d.2 hp
theorem Q1j {x:Nat}(h:x<18446744073709551616):IntKind.wrap .u64 (x:Int)=x:=by
 have e:((x:Int) % (18446744073709551616:Int))=x:=by omega
 show (if (false&&decide ((x:Int) % (18446744073709551616:Int)>=9223372036854775808))=true then (x:Int) % (18446744073709551616:Int)-18446744073709551616 else (x:Int) % (18446744073709551616:Int))=x;simp only[e,Bool.false_and,Bool.false_eq_true,if_false]
theorem BS {x:Nat}(h:x<=4294967295):ZG .and .u64 (x:Int) 4294967295=x:=by
 have e:(BitVec.ofInt 64 (x:Int) &&& BitVec.ofInt 64 (4294967295:Int)).toNat=x:=by rw[BitVec.toNat_and,toNat_ofInt (by omega),show (4294967295:Int)=((4294967295:Nat):Int) from rfl,toNat_ofInt (by omega)];have:=Nat.and_two_pow_sub_one_eq_mod x 32;simp only[Nat.reducePow,Nat.add_one_sub_one] at this;rw[this];omega
 show IntKind.wrap .u64 ((BitVec.ofInt 64 (x:Int) &&& BitVec.ofInt 64 (4294967295:Int)).toNat:Int)=_;rw[e,Q1j (by omega)]
theorem Ge {x:Nat}(h:x<=4294967295):N3 .u64 (x:Int) 32=0:=by have:Nat.min (Int.toNat 32) 64=32:=rfl;simp only[N3,IntKind.bits,this];rw[Int.fdiv_eq_ediv_of_nonneg _ (Int.le_of_lt (Int.pow_pos (by omega)))];omega
theorem MN:Gz:=Gj fun a b h=>by
 obtain⟨h1,h2,h3,h4⟩:=h;obtain⟨x,rfl⟩:=Int.eq_ofNat_of_zero_le h1;obtain⟨y,rfl⟩:=Int.eq_ofNat_of_zero_le h3;have xn:x*y<=65535*65535:=Nat.mul_le_mul (by omega) (by omega);have e0:((0:Nat):Int)=0:=rfl;have s0:=Ge (x:=0) (by omega);have m0:=BS (x:=0) (by omega);rw[e0] at s0 m0;have s3:=Ge (x:=x*y) (by omega);have e1:(x:Int)*(y:Int)=((x*y:Nat):Int):=by norm_cast
 unfold Jc;(try delta UR TH);(try delta lI gD sT I64 Q1 pj8 pj4);simp only[and_true,BS (show x<=4294967295 by omega),BS (show y<=4294967295 by omega),Ge (show x<=4294967295 by omega),Ge (show y<=4294967295 by omega),e1,s3,Int.zero_mul,Int.mul_zero,Int.add_zero,m0,s0,OM];and_intros<;>omega
def VB:AL (Int×Int):=(.cons (.k (.i .u64)) (.one (.k (.i .u64))))
def D8 (d:Int×Int):Prop:=0<=d.1/\d.1<=65535/\0<=d.2/\d.2<=65535
def KN (d:Int×Int):SV:=.tup [.val (.i .u64) (0:Int),.val (.i .u64) (d.1*d.2)]
def Kq (d:Int×Int):List OB:=[]
def Yv:CSp:=WZ VB D8 KN Kq
def JV (a:Int) (b:Int):Prop :=
 (false=true ->
  (InK .u32 a)/\(InK .u32 b)/\(False)/\(InK .u64 (0:Int))/\(InK .u64 (0:Int))/\(((0:Int)=(0:Int)/\(0:Int)=(a*b)/\(([]:List SV)=[]))/\(True))) /\
 (false=false ->
  (0<=a/\a<=65535/\0<=b/\b<=65535)/\(((0:Int)=(0:Int)/\(a*b)=(a*b)/\(([]:List SV)=[]))/\(True)))
def VM:Cx:=⟨[],[(93,XV),(94,XM)],30,[],0,[],[],[],[],false,[],[],[],[]⟩
def DV (a:Int) (b:Int):List (Nat×LoopAnn):=[]
theorem B7 (d:Int×Int):gwp (VM) (DV d.1 d.2) c72 0 (Kn [.tmp 4,.tmp 5] (KN d) (Kq d)) (Qx 30 (AL.can VB d))=JV d.1 d.2:=by kernel_rfl
abbrev DU:Prop:=OkC Tryz.prog 72 Yv
theorem Bg (h:∀ (a:Int) (b:Int),(0<=a/\a<=65535/\0<=b/\b<=65535)->JV a b):OkC Tryz.prog 72 Yv :=
 QH Q5n mixed (C:=VM) (V:=fun (d:Int×Int)=>JV d.1 d.2) ⟨(.cons Gy (.cons MN .nil)),XsOk.nil,ItsOk.nil,YlOk.nil,IysOk.nil,XfOk.nil⟩ (B7) fun d hp=>h d.1 d.2 hp
theorem Bb:DU:=Bg fun a b h=>by simp only[JV];exact⟨fun h=>by simp at h,fun _=>⟨h,(by and_intros<;>first|rfl|trivial|simp)⟩⟩
def X5:AL (List Int×Int):=(.cons (.k (.list (.i .i64))) (.one (.k (.i .i64))))
def Kh (d:List Int×Int):Prop:=d.1.length<=1000/\0<=d.2/\d.2<=1000
def JL (d:List Int×Int):SV:=.lst 0
def JG (d:List Int×Int):List OB:=[.lst 3 (.i .i64) (UY d.1 d.2.toNat) false]
def ZV:CSp:=WZ X5 Kh JL JG
def QW (l:List Int) (n:Int):Prop :=
 ((decide (n<(0:Int)))=true ->
  False) /\
 ((decide (n<(0:Int)))=false ->
  (InK .u64 (lI l))/\(InK .u64 n)/\(0<=(lI l)/\(lI l)<=65535/\0<=n/\n<=65535)/\(((decide ((0:Int) > (0:Int)))||(decide (((lI l)*n) > (9223372036854775807:Int))))=true ->
   False) /\
  (((decide ((0:Int) > (0:Int)))||(decide (((lI l)*n) > (9223372036854775807:Int))))=false ->
   (I64 ((lI l)*n))/\(0<=((lI l)*n))/\(((lI l)*n)<=((lI l)*n))/\(((lI l)*n)*8<=70368744177664)/\(((lI l)*n)<=70368744177664)/\∃ (e2:Unit) (d20:(List Int)×Int),((True/\((Nat.min (List.length l) (List.length (List.replicate (Int.toNat ((lI l)*n)) (0:Int))):Nat):Int)=d20.2/\True)/\((((List.take (List.length (List.replicate (Int.toNat ((lI l)*n)) (0:Int))) l)++(List.drop (List.length l) (List.replicate (Int.toNat ((lI l)*n)) (0:Int))))=d20.1/\false=false)/\True)) /\
   LoopP (fun (d2:(List Int)×Int) (q2:((List Int)×Int)->Prop) =>
    ((decide (d2.2<(lI d2.1)))=true ->
     (0<=d2.2)/\(d2.2<=(lI d2.1))/\((lI d2.1)<=(List.length d2.1))/\(0<=(0:Int))/\((0:Int)<=d2.2)/\(d2.2<=(List.length d2.1))/\(I64 (d2.2+((Nat.min (List.length (List.take (Int.toNat (d2.2-(0:Int))) (List.drop (Int.toNat (0:Int)) d2.1))) (Int.toNat ((lI d2.1)-d2.2)):Nat):Int)))/\(∃ d3:(List Int)×Int,((True/\(d2.2+((Nat.min (List.length (List.take (Int.toNat (d2.2-(0:Int))) (List.drop (Int.toNat (0:Int)) d2.1))) (Int.toNat ((lI d2.1)-d2.2)):Nat):Int))=d3.2/\True)/\((((List.take (Int.toNat d2.2) d2.1)++((List.take (Int.toNat ((lI d2.1)-d2.2)) (List.take (Int.toNat (d2.2-(0:Int))) (List.drop (Int.toNat (0:Int)) d2.1)))++(List.drop ((Int.toNat d2.2)+Nat.min (List.length (List.take (Int.toNat (d2.2-(0:Int))) (List.drop (Int.toNat (0:Int)) d2.1))) (Int.toNat ((lI d2.1)-d2.2))) d2.1)))=d3.1/\false=false)/\True))/\q2 d3)) /\
    ((decide (d2.2<(lI d2.1)))=false ->
     (True/\((d2.1=(UY l n.toNat)/\false=false)/\True)))) d20))
def X8:Cx:=⟨[(3,(.i .i64))],[(72,Yv)],48,[],0,[],[],[],[],false,[],[],[],[]⟩
def KS (l:List Int) (n:Int):List (Nat×LoopAnn):=[(0,⟨Unit,(List Int)×Int,[7,8],fun e x=>[.lst 30,.val (.i .i64) x.2],fun e x=>[(30,.slot 7,.lst 3 (.i .i64) x.1 false)]⟩)]
theorem KR (d:List Int×Int):gwp (X8) (KS d.1 d.2) c50 0 (Kn [.tmp 4] (JL d) (JG d)) (Qx 48 (AL.can X5 d))=QW d.1 d.2:=by kernel_rfl
abbrev K_:Prop:=OkC Tryz.prog 50 ZV
theorem V1 (h:∀ (l:List Int) (n:Int),(l.length<=1000/\0<=n/\n<=1000)->QW l n):OkC Tryz.prog 50 ZV :=
 QH Q75 mixed (C:=X8) (V:=fun (d:List Int×Int)=>QW d.1 d.2) ⟨(.cons Bb .nil),XsOk.nil,ItsOk.nil,YlOk.nil,IysOk.nil,XfOk.nil⟩ (KR) fun d hp=>h d.1 d.2 hp
theorem Ks:K_:=V1 fun l n h=>by
 obtain⟨h1,h2,h3⟩:=h;obtain⟨m,rfl⟩:=Int.eq_ofNat_of_zero_le h2;have xp:l.length*m<=1000*1000:=Nat.mul_le_mul h1 (by omega);have e1:(l.length:Int)*(m:Int)=((l.length*m:Nat):Int):=by norm_cast
 unfold QW;(try delta lI gD sT I64 Q1 pj8 pj4);simp only[true_and,and_true,exists_const,decide_eq_true_eq,decide_eq_false_iff_not,Int.toNat_natCast,gt_iff_lt,e1,Q7,OM,Int.sub_zero,List.length_replicate,Int.toNat_zero,List.drop_zero];refine⟨by omega,fun _=>⟨by omega,by omega,by omega,fun h=>?_,fun h=>⟨by omega,by omega,by omega,by omega,by omega,?_⟩⟩⟩
 .simp at h;omega
 refine⟨(_,_),(by and_intros<;>first|rfl|trivial|simp),?_⟩;refine⟨fun d=>∃ k:Nat,d.2=k/\Z0m l m d.1 k,fun d=>d.1.length-d.2.toNat,⟨_,rfl,Q09 l m _⟩,?_⟩;rintro⟨xs,_⟩ ⟨k,rfl,hI⟩;dsimp only at hI |-;have gC:=hI.1;have hk:=hI.2.1;refine⟨fun ah=>?_,fun bj=>?_⟩
 .have ah:k<xs.length:=by omega
  obtain⟨g1,g2⟩:=OQ hI ah;have e2:((xs.length:Int)-(k:Int)).toNat=xs.length-k:=by omega
  have g3:=g1.2.1;have g4:=g1.1;have hc:Nat.min (List.take k xs).length (xs.length-k)<=1000000:=by have:Nat.min (List.take k xs).length (xs.length-k)<=_:=Nat.min_le_left _ _;simp only[List.length_take] at this |-;omega
  simp only[Int.toNat_natCast,e2];generalize Nat.min (List.take k xs).length (xs.length-k)=c at g1 g2 g3 g4 hc |-;refine⟨by omega,by omega,by omega,by omega,by omega,by omega,⟨by omega,by omega⟩,(_,((k+c:Nat):Int)),(by and_intros<;>first|rfl|trivial|omega),⟨_,rfl,g1⟩,?_⟩;dsimp only;rw[g4];omega
 .have:=Q1w hI (by omega);rw[this]
def Hn:AL (Int×List (Int×Int×Int×Int)):=(.cons (.k (.i .i64)) (.one (.k (.list (.pair (.i .i64) (.pair (.i .i64) (.pair (.i .i64) (.i .i64))))))))
def Ly (d:Int×List (Int×Int×Int×Int)):Prop:=d.2.length<=1000
def DJ (d:Int×List (Int×Int×Int×Int)):SV:=.tup [.agg [.val (.i .i64) (if Qt d.1 d.2=0 then d.1 else 0),.lst 0],.val (.i .i64) (mkI d.1 d.2),.val (.i .i64) (Qt d.1 d.2)]
def Dj (d:Int×List (Int×Int×Int×Int)):List OB:=[.lst 3 (.i .i64) (if Qt d.1 d.2=0 then mkW d.2 else []) ((if Qt d.1 d.2=0 then mkW d.2 else []).isEmpty)]
def GY:CSp:=WZ Hn Ly DJ Dj
abbrev N1 (hk:Int) (g:List (Int×Int×Int×Int)):=(((if Qt hk g=0 then mkW g else [])=[]/\(if Qt hk g=0 then mkW g else []).isEmpty=true)/\True)
abbrev UO (hk:Int) (g:List (Int×Int×Int×Int)):=((0:Int)=(if Qt hk g=0 then hk else 0)/\True/\(([]:List SV)=[]))
def Vb (hk:Int) (g:List (Int×Int×Int×Int)):Prop :=
 ([hk].length<=1000000)/\((!(!([hk].any fun n=>decide (n<(1:Int))||decide ((24:Int)<n))))=true ->
  (((UO hk g)/\(0:Int)=(mkI hk g)/\(2:Int)=(Qt hk g)/\(([]:List SV)=[]))/\(N1 hk g))) /\
 ((!(!([hk].any fun n=>decide (n<(1:Int))||decide ((24:Int)<n))))=false ->
  ((decide ((lI g) > (8:Int)))=true ->
   (((UO hk g)/\(0:Int)=(mkI hk g)/\(5:Int)=(Qt hk g)/\(([]:List SV)=[]))/\(N1 hk g))) /\
  ((decide ((lI g) > (8:Int)))=false ->
   (((lI g)==(0:Int))=true ->
    (((UO hk g)/\(0:Int)=(mkI hk g)/\(7:Int)=(Qt hk g)/\(([]:List SV)=[]))/\(N1 hk g))) /\
   (((lI g)==(0:Int))=false ->
    ∃ (e4:Unit) (d40:(List Int)×Int),((hk=hk/\True/\True/\g=g/\(lI g)=(lI g)/\(0:Int)=d40.2/\True)/\(((0:Int)=(0:Int)/\True/\(([]:List SV)=[]))/\(d40.1=[]/\(List.isEmpty d40.1)=true)/\True)) /\
    LoopP (fun (d4:(List Int)×Int) (q4:((List Int)×Int)->Prop) =>
     ((decide (d4.2<(lI g)))=true ->
      (0<=d4.2)/\(d4.2<(List.length g))/\(I64 (hk-(1:Int)))/\([(gD g d4.2 (0,(0,(0,0)))).1,(gD g d4.2 (0,(0,(0,0)))).2.1].length<=1000000)/\(((!(!([(gD g d4.2 (0,(0,(0,0)))).1,(gD g d4.2 (0,(0,(0,0)))).2.1].any fun n=>decide (n<(0:Int))||decide ((hk-(1:Int))<n))))||(((gD g d4.2 (0,(0,(0,0)))).2.2.1 != (1:Int))&&((gD g d4.2 (0,(0,(0,0)))).2.2.1 != (2:Int))))=false->True)/\(((!(!([(gD g d4.2 (0,(0,(0,0)))).1,(gD g d4.2 (0,(0,(0,0)))).2.1].any fun n=>decide (n<(0:Int))||decide ((hk-(1:Int))<n))))||(((gD g d4.2 (0,(0,(0,0)))).2.2.1 != (1:Int))&&((gD g d4.2 (0,(0,(0,0)))).2.2.1 != (2:Int))))=false->[(gD g d4.2 (0,(0,(0,0)))).2.2.2].length<=1000000)/\((((!(!([(gD g d4.2 (0,(0,(0,0)))).1,(gD g d4.2 (0,(0,(0,0)))).2.1].any fun n=>decide (n<(0:Int))||decide ((hk-(1:Int))<n))))||(((gD g d4.2 (0,(0,(0,0)))).2.2.1 != (1:Int))&&((gD g d4.2 (0,(0,(0,0)))).2.2.1 != (2:Int))))||(!(!([(gD g d4.2 (0,(0,(0,0)))).2.2.2].any fun n=>decide (n<(1:Int))||decide ((8:Int)<n)))))=true ->
       (((UO hk g)/\d4.2=(mkI hk g)/\(2:Int)=(Qt hk g)/\(([]:List SV)=[]))/\(N1 hk g))) /\
      ((((!(!([(gD g d4.2 (0,(0,(0,0)))).1,(gD g d4.2 (0,(0,(0,0)))).2.1].any fun n=>decide (n<(0:Int))||decide ((hk-(1:Int))<n))))||(((gD g d4.2 (0,(0,(0,0)))).2.2.1 != (1:Int))&&((gD g d4.2 (0,(0,(0,0)))).2.2.1 != (2:Int))))||(!(!([(gD g d4.2 (0,(0,(0,0)))).2.2.2].any fun n=>decide (n<(1:Int))||decide ((8:Int)<n)))))=false ->
       (0<=((gD g d4.2 (0,(0,(0,0)))).1)/\((gD g d4.2 (0,(0,(0,0)))).1)<24/\0<=((gD g d4.2 (0,(0,(0,0)))).2.1)/\((gD g d4.2 (0,(0,(0,0)))).2.1)<24)/\(false=true->(Qv ((gD g d4.2 (0,(0,(0,0)))).1) ((gD g d4.2 (0,(0,(0,0)))).2.1) ((gD g d4.2 (0,(0,(0,0)))).2.2.1))=[])/\((Qv ((gD g d4.2 (0,(0,(0,0)))).1) ((gD g d4.2 (0,(0,(0,0)))).2.1) ((gD g d4.2 (0,(0,(0,0)))).2.2.1)).length<=1000/\0<=((gD g d4.2 (0,(0,(0,0)))).2.2.2)/\((gD g d4.2 (0,(0,(0,0)))).2.2.2)<=1000)/\(false=true->(UY (Qv ((gD g d4.2 (0,(0,(0,0)))).1) ((gD g d4.2 (0,(0,(0,0)))).2.1) ((gD g d4.2 (0,(0,(0,0)))).2.2.1)) ((gD g d4.2 (0,(0,(0,0)))).2.2.2).toNat)=[])/\(((List.length d4.1)+(List.length (UY (Qv ((gD g d4.2 (0,(0,(0,0)))).1) ((gD g d4.2 (0,(0,(0,0)))).2.1) ((gD g d4.2 (0,(0,(0,0)))).2.2.1)) ((gD g d4.2 (0,(0,(0,0)))).2.2.2).toNat)))*8<=70368744177664)/\((decide ((lI (d4.1++(UY (Qv ((gD g d4.2 (0,(0,(0,0)))).1) ((gD g d4.2 (0,(0,(0,0)))).2.1) ((gD g d4.2 (0,(0,(0,0)))).2.2.1)) ((gD g d4.2 (0,(0,(0,0)))).2.2.2).toNat))) > (96:Int)))=true ->
        (((UO hk g)/\d4.2=(mkI hk g)/\(8:Int)=(Qt hk g)/\(([]:List SV)=[]))/\(N1 hk g))) /\
       ((decide ((lI (d4.1++(UY (Qv ((gD g d4.2 (0,(0,(0,0)))).1) ((gD g d4.2 (0,(0,(0,0)))).2.1) ((gD g d4.2 (0,(0,(0,0)))).2.2.1)) ((gD g d4.2 (0,(0,(0,0)))).2.2.2).toNat))) > (96:Int)))=false ->
        (I64 (d4.2+(1:Int)))/\(∃ d5:(List Int)×Int,((hk=hk/\True/\True/\g=g/\(lI g)=(lI g)/\(d4.2+(1:Int))=d5.2/\True)/\(((0:Int)=(0:Int)/\True/\(([]:List SV)=[]))/\((d4.1++(UY (Qv ((gD g d4.2 (0,(0,(0,0)))).1) ((gD g d4.2 (0,(0,(0,0)))).2.1) ((gD g d4.2 (0,(0,(0,0)))).2.2.1)) ((gD g d4.2 (0,(0,(0,0)))).2.2.2).toNat))=d5.1/\((List.isEmpty (UY (Qv ((gD g d4.2 (0,(0,(0,0)))).1) ((gD g d4.2 (0,(0,(0,0)))).2.1) ((gD g d4.2 (0,(0,(0,0)))).2.2.1)) ((gD g d4.2 (0,(0,(0,0)))).2.2.2).toNat))&&(List.isEmpty d4.1))=(List.isEmpty d5.1))/\True))/\q4 d5)))) /\
     ((decide (d4.2<(lI g)))=false ->
      (((hk=(if Qt hk g=0 then hk else 0)/\True/\(([]:List SV)=[]))/\(0:Int)=(mkI hk g)/\(0:Int)=(Qt hk g)/\(([]:List SV)=[]))/\((d4.1=(if Qt hk g=0 then mkW g else [])/\(List.isEmpty d4.1)=(if Qt hk g=0 then mkW g else []).isEmpty)/\True)))) d40)))
def Hv:Cx:=⟨[(3,(.i .i64))],[(38,W9),(51,XI),(50,ZV)],78,[],0,[],[],[],[],false,[],[],[],[]⟩
def A4 (hk:Int) (g:List (Int×Int×Int×Int)):List (Nat×LoopAnn):=[(1,⟨Unit,(List Int)×Int,[0,4,7,26,27,28],fun e x=>[.val (.i .i64) hk,.box 4 0,.lst 68,.val (.list (.pair (.i .i64) (.pair (.i .i64) (.pair (.i .i64) (.i .i64))))) g,.val (.i .i64) (((List.length g):Nat):Int),.val (.i .i64) x.2],fun e x=>[(4,.slot 4,.cells [.val (.i .i64) (0:Int),.nilS] (some 24)),(68,.slot 7,.lst 3 (.i .i64) x.1 (List.isEmpty x.1))]⟩)]
theorem CL (d:Int×List (Int×Int×Int×Int)):gwp (Hv) (A4 d.1 d.2) c27 0 (Kn [.cell 4 true 2,.tmp 5,.tmp 6] (DJ d) (Dj d)) (Qx 78 (AL.can Hn d))=Vb d.1 d.2:=by kernel_rfl
abbrev LY:Prop:=OkC Tryz.prog 27 GY
theorem CZ (h:∀ (hk:Int) (g:List (Int×Int×Int×Int)),(g.length<=1000)->Vb hk g):OkC Tryz.prog 27 GY :=
 QH Q7n mixed (C:=Hv) (V:=fun (d:Int×List (Int×Int×Int×Int))=>Vb d.1 d.2) ⟨(.cons Vv (.cons G6 (.cons Ks .nil))),XsOk.nil,ItsOk.nil,YlOk.nil,IysOk.nil,XfOk.nil⟩ (CL) fun d hp=>h d.1 d.2 hp
theorem Cb:LY:=CZ fun hk g hg=>by
 unfold Vb;(try delta N1 UO);(try delta lI gD sT I64 Q1 pj8 pj4)
 (try simp only[decide_eq_true_eq,decide_eq_false_iff_not])
 have ea:∀ n:Int,(!(!([n].any fun n=>decide (n<1)||decide (24<n))))=!inI n 1 24:=fun n=>by rw[Bool.eq_iff_iff];simp[inI]<;>omega
 simp only[ea,OJ];refine⟨by simp,fun h=>?_,fun h=>⟨fun h2=>?_,fun h2=>⟨fun h3=>?_,fun h3=>?_⟩⟩⟩
 .have h:inI hk 1 24=false:=by simpa using h
  simp[Qt,mkI,h]
 .have h:inI hk 1 24=true:=by simpa using h
  have h2:8<g.length:=by omega
  simp[Qt,mkI,h,h2]
 .have h:inI hk 1 24=true:=by simpa using h
  have h3:g=[]:=by simpa using h3
  subst h3;simp[Qt,mkI,h,mkAt]
 have h:inI hk 1 24=true:=by simpa using h
 have h3:¬ g.length=0:=by simpa using h3
 have hh:1<=hk/\hk<=24:=by simpa [inI] using h
 obtain⟨hE,hI⟩:=SP h (by omega) h3;refine⟨(),([],0),(by and_intros<;>first|rfl|trivial|simp),?_⟩;refine LoopP.count2 g.length (fun i ws=>ws=mkW (g.take i)/\∀ j,j<i->VY hk g j=false) ⟨by simp[mkW],fun j hj=>by omega⟩ fun i ws hi hJ q hq=>?_;obtain⟨rfl,hJ⟩:=hJ;have hl:=Z1i hi hJ;dsimp only;simp only[Int.toNat_natCast,Q7];refine⟨fun ah=>?_,fun bj=>?_⟩
 .have ah:i<g.length:=by omega
  generalize hx:g.getD i (0,(0,(0,0)))=x;obtain⟨a,b,c,t⟩:=x;dsimp only;refine⟨by omega,by omega,by omega,by simp,fun _=>trivial,fun _=>by simp,fun hb=>?_,fun hb=>?_⟩
  .have hs:mkAt hk g=some i:=Lm ah (by rw[VY,hx,hb];rfl) hJ;simp only[hs,hx,hb,if_true] at hE hI;simp[hE,hI]
  .obtain⟨b1,b2,b3,b4,b5⟩:=Cv hb h;dsimp only at b1 b2 b3 b4 b5;have hg:=RD (wy:=c) b1;have ht:mkW (g.take (i+1))=mkW (g.take i)++mkOne (a,b,c,t):=by rw[Q12 ah,hx]
   have ho:(mkOne (a,b,c,t)).length<=1000:=by show (UY (Qv a b c) t.toNat).length<=1000;rw[Ji];have:(Qv a b c).length*t.toNat<=48*8:=Nat.mul_le_mul (by omega) (by omega);omega
   have dQ:(UY (Qv a b c) t.toNat).length<=1000:=ho;have oT:mkW (g.take (i+1))=mkW (g.take i)++UY (Qv a b c) t.toNat:=ht;rw[CQ,<-oT];refine⟨b1,(fun hf=>by cases hf),⟨by omega,by omega,by omega⟩,(fun hf=>by cases hf),by omega,fun mA=>?_,fun hle=>?_⟩
   .have wJ:96<(mkW (g.take (i+1))).length:=by omega
    have hs:mkAt hk g=some i:=Lm ah (by simp[VY,wJ]) hJ;simp only[hs,hx,hb,if_false,Bool.false_eq_true] at hE hI;simp[hE,hI]
   .refine⟨by omega,(mkW (g.take (i+1)),(i:Int)+1),(by and_intros<;>first|rfl|trivial|simp),hq _ ah ⟨rfl,fun j hj=>?_⟩⟩;rcases Nat.lt_succ_iff_lt_or_eq.1 hj with hj|rfl
    .exact hJ j hj
    .rw[VY,hx,hb,Bool.false_or,decide_eq_false_iff_not];omega
 .have:i=g.length:=by omega
  subst this;have hs:=S0 hJ;simp only[hs] at hE hI;simp[hE,hI]
def NQ:AL (Int×Int×Int×Int):=(.cons (.k (.i .i64)) (.cons (.k (.i .i64)) (.cons (.k (.i .i64)) (.one (.k (.i .i64))))))
def HO (d:Int×Int×Int×Int):Prop:=True
def UH (d:Int×Int×Int×Int):SV:=.agg [.val (.i .i64) d.1,.val (.i .i64) d.2.1,.val (.i .i64) d.2.2.1,.val (.i .i64) d.2.2.2]
def Ux (d:Int×Int×Int×Int):List OB:=[]
def Va:CSp:=WZ NQ HO UH Ux
def XY (f:Int) (l:Int) (w:Int) (t:Int):Prop :=
 ((f=f/\l=l/\w=w/\t=t/\(([]:List SV)=[]))/\(True))
def Np:Cx:=⟨[],[],14,[],0,[],[],[],[],false,[],[],[],[]⟩
def PG (f:Int) (l:Int) (w:Int) (t:Int):List (Nat×LoopAnn):=[]
theorem Ph (d:Int×Int×Int×Int):gwp (Np) (PG d.1 d.2.1 d.2.2.1 d.2.2.2) c28 0 (Kn [.cell 8 true 4] (UH d) (Ux d)) (Qx 14 (AL.can NQ d))=XY d.1 d.2.1 d.2.2.1 d.2.2.2:=by kernel_rfl
abbrev PV:Prop:=OkC Tryz.prog 28 Va
theorem PN (h:∀ (f:Int) (l:Int) (w:Int) (t:Int),(True)->XY f l w t):OkC Tryz.prog 28 Va :=
 QH Q7g mixed (C:=Np) (V:=fun (d:Int×Int×Int×Int)=>XY d.1 d.2.1 d.2.2.1 d.2.2.2) ⟨.nil,XsOk.nil,ItsOk.nil,YlOk.nil,IysOk.nil,XfOk.nil⟩ (Ph) fun d hp=>h d.1 d.2.1 d.2.2.1 d.2.2.2 hp
theorem Pr:PV:=PN fun f l w t _=>by unfold XY;(try delta lI gD sT I64 Q1 pj8 pj4);exact(by and_intros<;>first|rfl|trivial|simp)
theorem UZ {α:Type}{d:α}(s:List α) {i:Nat}(h:i<s.length+s.length):(s++s).getD i d=s.getD (i % s.length) d:=by
 rw[List.getD_eq_getElem?_getD,List.getD_eq_getElem?_getD,List.getElem?_append];split
 .rename_i h1;rw[Nat.mod_eq_of_lt h1]
 .rename_i h1;rw[Nat.mod_eq_sub_mod (by omega),Nat.mod_eq_of_lt (by omega)]
theorem Q2s (s:List UInt8) (w:Nat):(∃ k,1<=k/\k<=s.length/\fwL s w=k/\s.getD ((w+k) % s.length) 0≠s.getD w 0/\∀ t,1<=t->t<k->s.getD ((w+t) % s.length) 0=s.getD w 0)\/(fwL s w=1000/\∀ t,1<=t->t<=s.length->s.getD ((w+t) % s.length) 0=s.getD w 0):=by
 cases hf:(List.range (s.length+1)).find? (fun k=>decide (1<=k)&&(s.getD ((w+k) % s.length) 0 != s.getD w 0)) with
 |none =>refine .inr ⟨by unfold fwL;rw[hf];rfl,fun t t1 t2=>?_⟩;have:=List.find?_eq_none.1 hf t (List.mem_range.2 (by omega));rw[decide_eq_true t1,Bool.true_and,bne_iff_ne,ne_eq,Decidable.not_not] at this;exact this
 |some k =>obtain⟨a,a2,b⟩:=List.find?_range_eq_some.1 hf;rw[Bool.and_eq_true,decide_eq_true_eq,bne_iff_ne] at a;refine .inl ⟨k,a.1,by have:=List.mem_range.1 a2;omega,by unfold fwL;rw[hf];rfl,a.2,fun t t1 t2=>?_⟩;have:=b t t2;rw[decide_eq_true t1,Bool.true_and,Bool.not_eq_true',bne_eq_false_iff_eq] at this;exact this
theorem Sg {s:List UInt8}{w:Nat}(hw:w<s.length+s.length):fwL (s++s) w=fwL s (w % s.length):=by
 have hl:(s++s).length=s.length+s.length:=List.length_append;have h0:0<s.length:=by omega
 have e:∀ t,(s++s).getD ((w+t) % (s++s).length) 0=s.getD ((w % s.length+t) % s.length) 0:=fun t=>by rw[hl,UZ s (Nat.mod_lt _ (by omega)),Nat.mod_mod_of_dvd _ ⟨2,by omega⟩,Nat.mod_add_mod]
 have e0:(s++s).getD w 0=s.getD (w % s.length) 0:=UZ s hw;rcases Q2s s (w % s.length) with⟨k,k1,k2,k3,k4,k5⟩|⟨k3,k5⟩
 .rw[k3];exact Q4v k1 (by omega) (by rw[e,e0];exact k4) fun t t1 t2=>by rw[e,e0];exact k5 t t1 t2
 .rw[k3];refine Ot fun t t1 t2=>?_;rw[e,e0];rcases Nat.lt_or_ge s.length t with h|h
  .have:=k5 (t-s.length) (by omega) (by omega);rw[<-this,show w % s.length+t=w % s.length+(t-s.length)+s.length by omega,Nat.add_mod_right]
  .exact k5 t t1 h
theorem CP (a:Int) (s:List UInt8):Cg a (s++s) (s++s).length=Cg a s s.length:=by
 rcases Nat.eq_zero_or_pos s.length with h0|h0
 .rw[List.length_eq_zero_iff.1 h0];rfl
 obtain⟨a1,a2,a3⟩:=P2 a s s.length;obtain⟨b1,b2,b3⟩:=P2 a (s++s) (s++s).length;rw[List.length_append] at b1 b2 b3 |-;have h1:=b3 _ a1 fun w hw=>by rw[Sg hw];exact a2 _ (Nat.mod_lt _ h0)
 have h2:=a3 _ b1 fun w hw=>by have:=b2 w (by omega);rw[Sg (by omega),Nat.mod_eq_of_lt hw] at this;exact this
 omega
theorem Tb {c d:List (List UInt8)}(hl:d.length=c.length) (h:∀ i,i<c.length->d.getD i []=c.getD i []++c.getD i []):Ie d=Ie c:=by
 unfold Ie;rw[hl];have:∀ n,n<=c.length->A5 d n=A5 c n:=by
  intro n;induction n with
  |zero=>exact fun _=>rfl
  |succ n ih =>intro hn;rw[Gn,Gn,ih (by omega),h n (by omega),CP]
 exact this _ (Nat.le_refl _)
theorem P6 (lw:List Int) (r:Int):Z2 (lw++lw) r=Z2 lw r++Z2 lw r:=by unfold Z2;rw[List.map_append]
theorem T4 {H:Int}{lw:List Int}(h:Q8 H lw=0) (hl:lw.length<=48):Q8 H (lw++lw)=0:=by
 obtain⟨t1,t2,t3⟩:=Q80 h;have e1:inI H 1 24=true:=by unfold inI;rw[decide_eq_true (by omega),decide_eq_true (by omega)];rfl
 have e2:((lw++lw).any fun x=>!inI x 0 (H-1))=false:=by rw[List.any_eq_false];intro x hx;have:=t3 x (by rcases List.mem_append.1 hx with h|h<;>exact h);unfold inI;rw[decide_eq_true (by omega),decide_eq_true (by omega)];decide
 unfold Q8;rw[e1,e2,List.length_append,if_neg (by decide),if_neg (by omega),if_neg (by omega),if_neg (by decide)]
theorem Fq {lw:List Int}{r:Int}(h:lw≠[]):lgX [Z2 (lw++lw) r]=lgX [Z2 lw r]:=by
 have hp:∀ l:List Int,l≠[]->Z2 l r≠[]:=fun l hl e=>by have:=X7 l r;rw[e] at this;exact hl (List.length_eq_zero_iff.1 this.symm)
 rw[<-OO (At _ _) (hp _ (by simp[h])),<-OO (At _ _) (hp _ h)];exact Tb rfl fun i hi=>by
  have:i=0:=by simpa using hi
  subst this;exact P6 lw r
theorem Te {α β:Type}{f g:β->α->β}:∀ (l:List α) (a:β),(∀ x∈l,∀ a,f a x=g a x)->l.foldl f a=l.foldl g a
 |[],_,_=>rfl
 |x::l,a,h=>by rw[List.foldl_cons,List.foldl_cons,h x List.mem_cons_self a];exact Te l _ fun y hy=>h y (List.mem_cons_of_mem _ hy)
theorem Ln {H:Int}{lw:List Int}(h:Q8 H lw=0) (hl:lw.length<=48):ZE H (lw++lw) 2=ZE H lw 2/\Ps H (lw++lw) 2=Ps H lw 2:=by
 have h2:=T4 h hl;obtain⟨t1,t2,t3⟩:=Q80 h;have e:ZE H (lw++lw) 2=ZE H lw 2:=by rw[Q4b h (by decide),Q4b h2 (by decide)]
 refine⟨e,?_⟩;have hF:Q34 H (lw++lw) 2=Q34 H lw 2:=by
  unfold Q34;refine Te _ _ fun r hr a=>?_;have hr:(r:Int)<2 ^ H.toNat:=by exact_mod_cast List.mem_range.1 hr
  rw[(Hm h ⟨by omega,hr⟩).2,(Hm h2 ⟨by omega,hr⟩).2,Fq (List.length_pos_iff.1 (by omega))]
 rcases S4 h (bd:=2) (by decide) with⟨w1,_⟩|⟨w1,_,w3,_⟩
 .unfold Ps;rw[e,if_neg (by omega),if_neg (by omega)]
 .rcases S4 h2 (bd:=2) (by decide) with⟨v1,_⟩|⟨v1,_,v3,_⟩
  .omega
  .rw[v3,w3,hF]
theorem Q76 {f:Nat->Int}:∀ (a b:Nat),(∀ i,f (i+a)=f i)->(∀ i,f (i+b)=f i)->∀ i,f (i+Nat.gcd a b)=f i:=by
 intro a b;induction a,b using Nat.gcd.induction with
 |H0 b=>intro _ h;rw[Nat.gcd_zero_left];exact h
 |H1 a b ha ih =>
  intro h1 h2;rw[Nat.gcd_rec];refine ih (fun i=>?_) h1;have hm:∀ q i,f (i+a*q)=f i:=by
   intro q;induction q with
   |zero=>intro i;rw[Nat.mul_zero,Nat.add_zero]
   |succ q rY=>intro i;rw[Nat.mul_succ,<-Nat.add_assoc,h1,rY]
  have:=hm (b / a) (i+b % a);rw[Nat.add_assoc,Nat.mod_add_div,h2] at this;exact this.symm
theorem TM {l:List Int}{b:Nat}(hb:0<b):Ae l b=true<->l.length % b=0/\∀ i,i<l.length->l.getD i 0=l.getD (i % b) 0:=by rw[Is hb,Bool.and_eq_true,decide_eq_true_eq,beq_iff_eq];exact⟨fun ⟨h1,h2⟩=>⟨h1,(Iv hb h1).1 h2⟩,fun ⟨h1,h2⟩=>⟨h1,(Iv hb h1).2 h2⟩⟩
theorem Hf {l:List Int}(h0:l≠[]):∃ b:Nat,FG l=(b:Int)/\1<=b/\b<=l.length/\(l.length % b=0/\∀ i,i<l.length->l.getD i 0=l.getD (i % b) 0)/\∀ c,1<=c->(l.length % c=0/\∀ i,i<l.length->l.getD i 0=l.getD (i % c) 0)->b<=c:=by
 have hl:=List.length_pos_iff.2 h0;unfold FG;cases hf:(List.range l.length).find? (Ae l) with
 |none =>
  have hn:=List.find?_eq_none.1 hf;refine⟨l.length,rfl,hl,Nat.le_refl _,⟨Nat.mod_self _,fun i hi=>by rw[Nat.mod_eq_of_lt hi]⟩,fun c c1 c2=>?_⟩;rcases Nat.lt_or_ge c l.length with h|h
  .exact absurd ((TM c1).2 c2) (hn c (List.mem_range.2 h))
  .exact h
 |some b =>
  obtain⟨a1,a2,a3⟩:=List.find?_range_eq_some.1 hf;have hb:0<b:=by unfold Ae at a1;rw[Bool.and_eq_true,decide_eq_true_eq] at a1;exact a1.1
  refine⟨b,rfl,hb,Nat.le_of_lt (List.mem_range.1 a2),(TM hb).1 a1,fun c c1 c2=>?_⟩;rcases Nat.lt_or_ge c b with h|h
  .have:=a3 c h;rw[(TM c1).2 c2] at this;cases this
  .exact h
theorem EC {l:List Int}(h0:l≠[]):FG (l++l)=FG l:=by
 have hl:=List.length_pos_iff.2 h0;obtain⟨b,b1,b2,b3,⟨b4,b5⟩,b6⟩:=Hf h0;obtain⟨c,c1,c2,c3,⟨c4,c5⟩,c6⟩:=Hf (l:=l++l) (by simp[h0]);rw[List.length_append] at c3 c4 c5;have rZ:b ∣ l.length:=Nat.dvd_of_mod_eq_zero b4;have h1:c<=b:=c6 b b2 ⟨by rw[List.length_append,Nat.mod_eq_zero_of_dvd (Nat.dvd_add rZ rZ)],fun i hi=>by
  rw[List.length_append] at hi;have cj:i % b<l.length+l.length:=by have:=Nat.mod_lt i (show 0<b by omega);omega
  rw[UZ l hi,UZ l cj,b5 _ (Nat.mod_lt _ hl),Nat.mod_mod_of_dvd _ rZ,Nat.mod_eq_of_lt (show i % b<l.length by have:=Nat.mod_lt i (show 0<b by omega);omega)]⟩
 let f:Nat->Int:=fun i=>l.getD (i % l.length) 0;have f1:∀ i,f (i+l.length)=f i:=fun i=>by show l.getD _ 0=l.getD _ 0;rw[Nat.add_mod_right]
 have f2:∀ i,f (i+c)=f i:=fun i=>by
  have key:∀ j,f j=f (j % (l.length+l.length) % c):=fun j=>by
   have hj:=Nat.mod_lt j (show 0<l.length+l.length by omega);have e1:f j=(l++l).getD (j % (l.length+l.length)) 0:=by rw[UZ l hj,Nat.mod_mod_of_dvd _ ⟨2,by omega⟩]
   have cJ:j % (l.length+l.length) % c<l.length+l.length:=by have:=Nat.mod_lt (j % (l.length+l.length)) (show 0<c by omega);omega
   rw[e1,c5 _ hj,UZ l cJ]
  have pc:c ∣ l.length+l.length:=Nat.dvd_of_mod_eq_zero c4;rw[key (i+c),key i,Nat.mod_mod_of_dvd _ pc,Nat.mod_mod_of_dvd _ pc,Nat.add_mod_right]
 have f3:=Q76 c l.length f2 f1;have hg:0<Nat.gcd c l.length:=Nat.gcd_pos_of_pos_left _ (by omega);have jl:Nat.gcd c l.length ∣ l.length:=Nat.gcd_dvd_right _ _;have mF:Nat.gcd c l.length ∣ c:=Nat.gcd_dvd_left _ _;have h2:b<=Nat.gcd c l.length:=b6 _ hg ⟨Nat.mod_eq_zero_of_dvd jl,fun i hi=>by
  have fm:∀ q j,f (j+Nat.gcd c l.length*q)=f j:=by
   intro q;induction q with
   |zero=>intro j;rw[Nat.mul_zero,Nat.add_zero]
   |succ q rY=>intro j;rw[Nat.mul_succ,<-Nat.add_assoc,f3,rY]
  have:=fm (i / Nat.gcd c l.length) (i % Nat.gcd c l.length);rw[Nat.mod_add_div] at this;have hm:i % Nat.gcd c l.length<l.length:=Nat.lt_of_le_of_lt (Nat.mod_le _ _) hi;have e1:f i=l.getD i 0:=by show l.getD _ 0=_;rw[Nat.mod_eq_of_lt hi]
  have e2:f (i % Nat.gcd c l.length)=l.getD (i % Nat.gcd c l.length) 0:=by show l.getD _ 0=_;rw[Nat.mod_eq_of_lt hm]
  rw[<-e1,<-e2,this]⟩
 have h3:=Nat.le_of_dvd (by omega) mF;rw[b1,c1];omega
theorem BJ {f l:Int}{i:Nat}(hi:i<(Qv f l 2).length):(Qv f l 2).getD i 0=hAt f l (min i (2*hN f l-i)):=by
 have hl:(Qv f l 2).length=hN f l+1+(hN f l-1):=by unfold Qv;rw[if_pos rfl,List.length_append,Zl,Wh]
 rw[hl] at hi;unfold Qv;rw[if_pos rfl];rcases Nat.lt_or_ge i (hN f l+1) with h|h
 .rw[Oi h];congr 1;omega
 .rw[List.getD_eq_getElem?_getD,List.getElem?_append_right (by rw[Zl];exact h),Zl];have:i-(hN f l+1)<hN f l-1:=by omega
  simp only[TX,List.getElem?_map,List.getElem?_range this,Option.map_some,Option.getD_some];congr 1;omega
theorem RL {l:List Int}{n i:Nat}(hi:i<l.length*n):(UY l n).getD i 0=l.getD (i % l.length) 0:=by
 induction n generalizing i with
 |zero=>omega
 |succ n ih =>
  have e:UY l (n+1)=l++UY l n:=by rw[Nat.add_comm,Gt];simp[UY]
  rw[e,List.getD_eq_getElem?_getD,List.getElem?_append];split
  .rename_i h;rw[Nat.mod_eq_of_lt h,List.getD_eq_getElem?_getD]
  .rename_i h;rw[<-List.getD_eq_getElem?_getD,ih (by rw[Nat.mul_succ] at hi;omega),Nat.mod_eq_sub_mod (a:=i) (by omega)]
theorem SO {f l:Int}{t:Nat}(ht:1<=t):Q5r (UY (Qv f l 2) t)=some 0:=by
 have hl:(Qv f l 2).length=hN f l+1+(hN f l-1):=by unfold Qv;rw[if_pos rfl,List.length_append,Zl,Wh]
 have hL:0<(Qv f l 2).length:=by omega
 have hlen:=Ji (Qv f l 2) t;have dE:0<(Qv f l 2).length*t:=Nat.mul_pos hL ht;refine SF (by omega) (Bu.2 fun i hi=>?_) fun j hj=>by omega
 rw[hlen] at hi |-;rw[RL hi,RL (Nat.mod_lt _ dE),Nat.mod_mod_of_dvd _ ⟨t,rfl⟩];have jk:=Nat.mod_lt i hL;have gK:=Nat.mod_lt (0+(Qv f l 2).length*t-i) hL;rw[BJ jk,BJ gK];have hd:=Nat.div_add_mod i (Qv f l 2).length;have hq:i / (Qv f l 2).length<t:=Nat.div_lt_of_lt_mul hi;generalize (Qv f l 2).length=L at *
 generalize i / L=q at *
 obtain⟨u,rfl⟩:∃ u,t=q+1+u:=⟨t-q-1,by omega⟩;have e:0+L*(q+1+u)-i=(L-i % L)+L*u:=by rw[Nat.mul_add,Nat.mul_add,Nat.mul_one];omega
 rw[e,Nat.add_mul_mod_self_left];rcases Nat.eq_zero_or_pos (i % L) with h0|h0
 .rw[h0,Nat.sub_zero,Nat.sub_zero,Nat.mod_self,Nat.sub_zero]
 .rw[Nat.mod_eq_of_lt (show L-i % L<L by omega)];congr 1;omega
theorem Q92 {f l H:Int}{k:Nat}(hf:0<=f/\f<H) (hl:0<=l/\l<H) (hk:k<=hN f l):0<=hAt f l k/\hAt f l k<H:=by
 unfold hAt hN at *
 split<;>omega
theorem Q1p {H f l t:Int}(hH:1<=H/\H<=16) (hf:0<=f/\f<H) (hl:0<=l/\l<H) (ht:1<=t/\t<=3) :
  Qt H [(f,(l,(2,t)))]=0/\(mkW [(f,(l,(2,t)))]).length<=96/\Q8 H (mkW [(f,(l,(2,t)))])=0/\Q5r (mkW [(f,(l,(2,t)))])=some 0:=by
 have i1:inI H 1 24=true:=by simp[inI];omega
 have hb:RG H (f,(l,(2,t)))=false:=by simp[RG,inI];omega
 have hW:mkW [(f,(l,(2,t)))]=UY (Qv f l 2) t.toNat:=by simp[mkW,mkOne]
 have xq:(Qv f l 2).length=hN f l+1+(hN f l-1):=by unfold Qv;rw[if_pos rfl,List.length_append,Zl,Wh]
 have wK:hN f l<=15:=by unfold hN;omega
 have hlen:(mkW [(f,(l,(2,t)))]).length=(Qv f l 2).length*t.toNat:=by rw[hW,Ji]
 have xr:(Qv f l 2).length*t.toNat<=30*3:=Nat.mul_le_mul (by omega) (by omega);have dE:0<(Qv f l 2).length*t.toNat:=Nat.mul_pos (by omega) (by omega);have hs:mkAt H [(f,(l,(2,t)))]=none:=S0 fun j hj=>by
  have:j=0:=by simp at hj;omega
  subst this;simp only[VY,List.getD_cons_zero,hb,Bool.false_or,decide_eq_false_iff_not];rw[List.take_of_length_le (by simp)];omega
 refine⟨by rw[(SP i1 (by simp) (by simp)).1,hs],by omega,?_,by rw[hW];exact SO (by omega)⟩;have e2:((mkW [(f,(l,(2,t)))]).any fun x=>!inI x 0 (H-1))=false:=by rw[List.any_eq_false];intro x hx;obtain⟨i,hi,rfl⟩:=List.getElem_of_mem hx;rw[<-Qf (d:=0) hi,hW,RL (by rw[<-hlen];exact hi),BJ (Nat.mod_lt _ (by omega))];have:=Q92 (k:=min (i % (Qv f l 2).length) (2*hN f l-i % (Qv f l 2).length)) hf hl (by omega);unfold inI;rw[decide_eq_true (by omega),decide_eq_true (by omega)];decide
 unfold Q8;rw[i1,e2,if_neg (by decide),if_neg (by omega),if_neg (by omega),if_neg (by decide)]
def KB:AL ((Int×List Int×List Int)×Int×Int×Int):=(.cons (.agg (.cons (.k (.i .u8)) (.cons (.k (.list (.i .u8))) (.one (.k (.list (.i .u16))))))) (.one (.agg (.cons (.k (.i .u8)) (.cons (.k (.i .u8)) (.one (.k (.i .u8))))))))
def Gq (d:(Int×List Int×List Int)×Int×Int×Int):Prop:=lOk d.1.1 d.1.2.1 d.1.2.2/\(0<=d.2.1/\d.2.1<=255)/\(0<=d.2.2.1/\d.2.2.1<=255)/\0<=d.2.2.2/\d.2.2.2<=255
def K3 (d:(Int×List Int×List Int)×Int×Int×Int):SV:=.val .bo true
def K9 (d:(Int×List Int×List Int)×Int×Int×Int):List OB:=[]
def VD:CSp:=WZ KB Gq K3 K9
abbrev JT (h8:Int) (ws:List Int) (rs:List Int) (p0:Int) (p1:Int) (p2:Int):=((lOk h8 ws rs)/\(false=true->(Q5 (hkN 16 h8) 48 ws)=[])/\(lOk h8 ws rs)/\(false=true->(Zk (hkN 16 h8) 12 rs)=[])/\((True/\True/\True/\True/\True/\((hkN 16 h8)=(hkN 16 h8)/\True/\(([]:List SV)=[]))/\((hkN 16 h8)=(hkN 16 h8)/\True/\(([]:List SV)=[]))/\True/\True/\True)/\((h8=h8/\ws=ws/\rs=rs/\(([]:List SV)=[]))/\(p0=p0/\p1=p1/\p2=p2/\(([]:List SV)=[]))/\((0:Int)=(0:Int)/\True/\(([]:List SV)=[]))/\((0:Int)=(0:Int)/\True/\(([]:List SV)=[]))/\((Q5 (hkN 16 h8) 48 ws)=(Q5 (hkN 16 h8) 48 ws)/\false=false)/\((Zk (hkN 16 h8) 12 rs)=(Zk (hkN 16 h8) 12 rs)/\false=false)/\True)))
abbrev Rg (h8:Int) (ws:List Int) (rs:List Int) (p0:Int) (p1:Int) (p2:Int):=((True/\True/\True/\True/\True/\((hkN 16 h8)=(hkN 16 h8)/\True/\(([]:List SV)=[]))/\((hkN 16 h8)=(hkN 16 h8)/\True/\(([]:List SV)=[]))/\(QS (hkN 16 h8) (Q5 (hkN 16 h8) 48 ws) (hkN 16 h8) (Q5 (hkN 16 h8) 48 ws))=(QS (hkN 16 h8) (Q5 (hkN 16 h8) 48 ws) (hkN 16 h8) (Q5 (hkN 16 h8) 48 ws))/\True/\True)/\((h8=h8/\ws=ws/\rs=rs/\(([]:List SV)=[]))/\(p0=p0/\p1=p1/\p2=p2/\(([]:List SV)=[]))/\((hkN 16 h8)=(hkN 16 h8)/\True/\(([]:List SV)=[]))/\((hkN 16 h8)=(hkN 16 h8)/\True/\(([]:List SV)=[]))/\((if QS (hkN 16 h8) (Q5 (hkN 16 h8) 48 ws) (hkN 16 h8) (Q5 (hkN 16 h8) 48 ws)=0 then (hkN 16 h8) else 0)=(if QS (hkN 16 h8) (Q5 (hkN 16 h8) 48 ws) (hkN 16 h8) (Q5 (hkN 16 h8) 48 ws)=0 then (hkN 16 h8) else 0)/\True/\(([]:List SV)=[]))/\((Q5 (hkN 16 h8) 48 ws)=(Q5 (hkN 16 h8) 48 ws)/\false=false)/\((Zk (hkN 16 h8) 12 rs)=(Zk (hkN 16 h8) 12 rs)/\false=false)/\((Q5 (hkN 16 h8) 48 ws)=(Q5 (hkN 16 h8) 48 ws)/\false=false)/\((Q5 (hkN 16 h8) 48 ws)=(Q5 (hkN 16 h8) 48 ws)/\false=false)/\((if QS (hkN 16 h8) (Q5 (hkN 16 h8) 48 ws) (hkN 16 h8) (Q5 (hkN 16 h8) 48 ws)=0 then (Q5 (hkN 16 h8) 48 ws)++(Q5 (hkN 16 h8) 48 ws) else [])=(if QS (hkN 16 h8) (Q5 (hkN 16 h8) 48 ws) (hkN 16 h8) (Q5 (hkN 16 h8) 48 ws)=0 then (Q5 (hkN 16 h8) 48 ws)++(Q5 (hkN 16 h8) 48 ws) else [])/\(decide (QS (hkN 16 h8) (Q5 (hkN 16 h8) 48 ws) (hkN 16 h8) (Q5 (hkN 16 h8) 48 ws)≠0))=(decide (QS (hkN 16 h8) (Q5 (hkN 16 h8) 48 ws) (hkN 16 h8) (Q5 (hkN 16 h8) 48 ws)≠0)))/\True))
abbrev QE (h8:Int) (ws:List Int) (rs:List Int):=(QR (hkN 16 h8) (Q5 (hkN 16 h8) 48 ws) (hkN 16 h8) (Zk (hkN 16 h8) 12 rs))
abbrev Zi (h8:Int) (ws:List Int):=(if QS (hkN 16 h8) (Q5 (hkN 16 h8) 48 ws) (hkN 16 h8) (Q5 (hkN 16 h8) 48 ws)=0 then (Q5 (hkN 16 h8) 48 ws)++(Q5 (hkN 16 h8) 48 ws) else [])
abbrev UP (h8:Int) (ws:List Int) (rs:List Int) (p0:Int) (p1:Int) (p2:Int):=((p0=p0/\p1=p1/\p2=p2/\(([]:List SV)=[]))/\((hkN 16 h8)=(hkN 16 h8)/\True/\(([]:List SV)=[]))/\((Q5 (hkN 16 h8) 48 ws)=(Q5 (hkN 16 h8) 48 ws)/\false=false)/\((QE h8 ws rs)=(QE h8 ws rs)/\(List.isEmpty (QE h8 ws rs))=(List.isEmpty (QE h8 ws rs)))/\True)
abbrev ZX (h8:Int) (ws:List Int):=(if Q8 (hkN 16 h8) (Q5 (hkN 16 h8) 48 ws)=0 then Cf (Q5 (hkN 16 h8) 48 ws) else 0)
abbrev Vw (h8:Int) (ws:List Int):=(if QS (hkN 16 h8) (Q5 (hkN 16 h8) 48 ws) (hkN 16 h8) (Q5 (hkN 16 h8) 48 ws)=0 then (hkN 16 h8) else 0)
abbrev Bo (h8:Int) (ws:List Int) (rs:List Int) (p0:Int) (p1:Int) (p2:Int):=(((Q5 (hkN 16 h8) 48 ws).length<=1000)/\(false=true->(Q5 (hkN 16 h8) 48 ws)=[])/\((Q5 (hkN 16 h8) 48 ws).length<=1000)/\(false=true->(Q5 (hkN 16 h8) 48 ws)=[])/\((Q5 (hkN 16 h8) 48 ws).length<=1000/\(Q5 (hkN 16 h8) 48 ws).length<=1000)/\((decide (QS (hkN 16 h8) (Q5 (hkN 16 h8) 48 ws) (hkN 16 h8) (Q5 (hkN 16 h8) 48 ws)≠0))=true->(Zi h8 ws)=[])/\(Rg h8 ws rs p0 p1 p2))
abbrev Xn (h8:Int) (ws:List Int):=(if Q8 (hkN 16 h8) (Q5 (hkN 16 h8) 48 ws)=0 then FG (Q5 (hkN 16 h8) 48 ws) else 0)
abbrev Jy (h8:Int) (ws:List Int):=(WM (hkN 16 h8) (Q5 (hkN 16 h8) 48 ws))
abbrev Wu (h8:Int):=((hkN 16 h8)=(hkN 16 h8)/\True/\(([]:List SV)=[]))
abbrev Yl (h8:Int) (ws:List Int):=((Q5 (hkN 16 h8) 48 ws)=(Q5 (hkN 16 h8) 48 ws)/\false=false)
abbrev Uc (h8:Int) (ws:List Int) (rs:List Int):=((QE h8 ws rs)=(QE h8 ws rs)/\(List.isEmpty (QE h8 ws rs))=(List.isEmpty (QE h8 ws rs)))
abbrev Kx (h8:Int) (ws:List Int) (rs:List Int):=(QR (Vw h8 ws) (Zi h8 ws) (hkN 16 h8) (Zk (hkN 16 h8) 12 rs))
abbrev Xr (h8:Int) (ws:List Int):=((Q5 (hkN 16 h8) 48 ws).length<=1000)
abbrev ZB (h8:Int) (ws:List Int):=(lI (Q5 (hkN 16 h8) 48 ws))
abbrev Yy (p0:Int) (p1:Int) (p2:Int):=(p0=p0/\p1=p1/\p2=p2/\(([]:List SV)=[]))
def Jx (h8:Int) (ws:List Int) (rs:List Int) (p0:Int) (p1:Int) (p2:Int):Prop :=
 (lOk h8 ws rs)/\(false=true->(Q5 (hkN 16 h8) 48 ws)=[])/\(lOk h8 ws rs)/\(false=true->(Zk (hkN 16 h8) 12 rs)=[])/\((True/\True/\True/\True/\True/\(Wu h8)/\(Wu h8)/\True/\True/\True)/\((h8=h8/\ws=ws/\rs=rs/\(([]:List SV)=[]))/\(Yy p0 p1 p2)/\((0:Int)=(0:Int)/\True/\(([]:List SV)=[]))/\((0:Int)=(0:Int)/\True/\(([]:List SV)=[]))/\(Yl h8 ws)/\((Zk (hkN 16 h8) 12 rs)=(Zk (hkN 16 h8) 12 rs)/\false=false)/\True))/\(JT h8 ws rs p0 p1 p2)/\(JT h8 ws rs p0 p1 p2)/\(JT h8 ws rs p0 p1 p2)/\(JT h8 ws rs p0 p1 p2)/\(JT h8 ws rs p0 p1 p2)/\(JT h8 ws rs p0 p1 p2)/\(JT h8 ws rs p0 p1 p2)/\(JT h8 ws rs p0 p1 p2)/\(JT h8 ws rs p0 p1 p2)/\(JT h8 ws rs p0 p1 p2)/\(JT h8 ws rs p0 p1 p2)/\(Xr h8 ws)/\(false=true->(Q5 (hkN 16 h8) 48 ws)=[])/\(Xr h8 ws)/\(false=true->(Q5 (hkN 16 h8) 48 ws)=[])/\((Q5 (hkN 16 h8) 48 ws).length<=1000/\(Q5 (hkN 16 h8) 48 ws).length<=1000)/\((decide (QS (hkN 16 h8) (Q5 (hkN 16 h8) 48 ws) (hkN 16 h8) (Q5 (hkN 16 h8) 48 ws)≠0))=true->(Zi h8 ws)=[])/\(Rg h8 ws rs p0 p1 p2)/\(Bo h8 ws rs p0 p1 p2)/\(Bo h8 ws rs p0 p1 p2)/\(Bo h8 ws rs p0 p1 p2)/\(Xr h8 ws)/\(Xr h8 ws)/\((Zi h8 ws).length<=1000)/\((Zi h8 ws).length<=1000)/\(Xr h8 ws)/\((Q5 (hkN 16 h8) 48 ws).length<=1000000)/\((Zi h8 ws).length<=1000)/\((Zi h8 ws).length<=1000000)/\(Xr h8 ws)/\(false=true->(Q5 (hkN 16 h8) 48 ws)=[])/\((Zk (hkN 16 h8) 12 rs).length<=1000)/\((Q5 (hkN 16 h8) 48 ws).length<=110/\(Zk (hkN 16 h8) 12 rs).length<=110)/\((Zi h8 ws).length<=1000)/\(false=true->(Zi h8 ws)=[])/\((Zk (hkN 16 h8) 12 rs).length<=1000)/\((Zi h8 ws).length<=110/\(Zk (hkN 16 h8) 12 rs).length<=110)/\∀ (y1:Bool),y1=((QS (hkN 16 h8) (Q5 (hkN 16 h8) 48 ws) (hkN 16 h8) (Q5 (hkN 16 h8) 48 ws)) != (0:Int))->∀ (y2:Bool),y2=((Q8 (hkN 16 h8) (Q5 (hkN 16 h8) 48 ws)) != (0:Int))->∀ (y3:Bool),y3=(y1||y2)->∀ (y4:Bool),y4=((Q8 (Vw h8 ws) (Zi h8 ws)) != (0:Int))->∀ (y5:Bool),y5=(y3||y4)->∀ (y6:Bool),y6=((ZE (hkN 16 h8) (Q5 (hkN 16 h8) 48 ws) (2:Int)) != (ZE (Vw h8 ws) (Zi h8 ws) (2:Int)))->∀ (y7:Bool),y7=(y5||y6)->∀ (y8:Bool),y8=((Ps (hkN 16 h8) (Q5 (hkN 16 h8) 48 ws) (2:Int)) != (Ps (Vw h8 ws) (Zi h8 ws) (2:Int)))->∀ (y9:Bool),y9=(y7||y8)->∀ (tn:Bool),tn=(QK (hkN 16 h8) (Q5 (hkN 16 h8) 48 ws) (hkN 16 h8) (Zk (hkN 16 h8) 12 rs) != (0:Int))->∀ (tq:Bool),tq=(y9||tn)->∀ (tu:Bool),tu=(QK (Vw h8 ws) (Zi h8 ws) (hkN 16 h8) (Zk (hkN 16 h8) 12 rs) != (0:Int))->∀ (tv:Bool),tv=(tq||tu)->∀ (tw:Bool),tw=((Xn h8 ws) != (if Q8 (Vw h8 ws) (Zi h8 ws)=0 then FG (Zi h8 ws) else 0))->∀ (tx:Bool),tx=(tv||tw)->∀ (tz:Bool),tz=(decide ((Xn h8 ws)<(1:Int)))->∀ (r4:Bool),r4=(tx||tz)->(r4=false->(Xn h8 ws)≠0)/\∀ (tA:Int),tA=(Int.tmod (ZB h8 ws) (Xn h8 ws))->∀ (tB:Bool),tB=(tA != (0:Int))->∀ (r5:Bool),r5=(r4||tB)->(r5=false->(QE h8 ws rs).length<=1000)/\∀ (tC:Bool),tC=(!(Gg (QE h8 ws rs) (lI (Zk (hkN 16 h8) 12 rs)) (ZB h8 ws)))->∀ (pV:Bool),pV=(r5||tC)->(pV=false->InK .i64 ((2:Int)*(ZB h8 ws)))/\(pV=false->(Kx h8 ws rs).length<=1000)/\∀ (tD:Bool),tD=(!(Gg (Kx h8 ws rs) (lI (Zk (hkN 16 h8) 12 rs)) ((2:Int)*(ZB h8 ws))))->∀ (pW:Bool),pW=(pV||tD)->(pW=false->(QE h8 ws rs).length<=1000/\(∀ s∈(QE h8 ws rs),s.length<=1000))/\(pW=false->(Kx h8 ws rs).length<=1000/\(∀ s∈(Kx h8 ws rs),s.length<=1000))/\∀ (tE:Bool),tE=((Ie (QE h8 ws rs)) != (Ie (Kx h8 ws rs)))->∀ (r6:Bool),r6=(pW||tE)->(r6=true ->
  (false=true/\(True))) /\
 (r6=false ->
  ∃ (e3:Unit) (d30:Int),((True/\True/\(Xn h8 ws)=(Xn h8 ws)/\True/\(0:Int)=d30/\True)/\((Yy p0 p1 p2)/\(Wu h8)/\(Yl h8 ws)/\((QE h8 ws rs)=(QE h8 ws rs)/\(QE h8 ws rs).isEmpty=(List.isEmpty (QE h8 ws rs)))/\True)) /\
  LoopP (fun (d3:Int) (q3:(Int)->Prop) =>
   ∀ (r7:Bool),r7=(decide (d3<(ZB h8 ws)))->(r7=true ->
    (0<=d3)/\(d3<(List.length (Q5 (hkN 16 h8) 48 ws)))/\∀ (tF:Int),tF=(gD (Q5 (hkN 16 h8) 48 ws) d3 0)->((Xn h8 ws)≠0)/\∀ (pX:Int),pX=(Int.tmod d3 (Xn h8 ws))->(0<=pX)/\(pX<(List.length (Q5 (hkN 16 h8) 48 ws)))/\∀ (tG:Int),tG=(gD (Q5 (hkN 16 h8) 48 ws) pX 0)->∀ (r8:Bool),r8=(tF != tG)->(r8=true ->
     (false=true/\(True))) /\
    (r8=false ->
     (I64 (d3+(1:Int)))/\(∃ d4:Int,((True/\True/\(Xn h8 ws)=(Xn h8 ws)/\True/\(d3+(1:Int))=d4/\True)/\(UP h8 ws rs p0 p1 p2))/\q3 d4))) /\
   (r7=false ->
    (Xr h8 ws)/\(Xr h8 ws)/\∀ (tH:Bool),tH=((Jy h8 ws)==(0:Int))->∀ (tI:Bool),tI=(decide ((ZX h8 ws)<(0:Int)))->∀ (tJ:Bool),tJ=(decide ((ZX h8 ws)>=(ZB h8 ws)))->∀ (tK:Bool),tK=(tI||tJ)->∀ (tL:Bool),tL=(tH&&tK)->∀ (tM:Bool),tM=((Jy h8 ws) != (0:Int))->∀ (tN:Bool),tN=((Jy h8 ws) != (7:Int))->∀ (tO:Bool),tO=((ZX h8 ws) != (0:Int))->∀ (tP:Bool),tP=(tN||tO)->∀ (tQ:Bool),tQ=(tM&&tP)->∀ (r9:Bool),r9=(tL||tQ)->(r9=true ->
     (false=true/\(True))) /\
    (r9=false ->
     ∃ (e7:Unit) (d70:Int),((True/\True/\True/\(ZX h8 ws)=(ZX h8 ws)/\(Jy h8 ws)=(Jy h8 ws)/\(0:Int)=d70/\True)/\(UP h8 ws rs p0 p1 p2)) /\
     LoopP (fun (d7:Int) (q7:(Int)->Prop) =>
      ∀ (oU:Bool),oU=(decide (d7<(lI (QE h8 ws rs))))->∀ (oV:Bool),oV=((Jy h8 ws)==(0:Int))->∀ (mh:Bool),mh=(oU&&oV)->(mh=true ->
       ∃ (iZ:Int) (d100:Int),((True/\True/\True/\(ZX h8 ws)=(ZX h8 ws)/\(Jy h8 ws)=(Jy h8 ws)/\d7=iZ/\(0:Int)=d100/\True)/\(UP h8 ws rs p0 p1 p2)) /\
       LoopP (fun (d10:Int) (wL:(Int)->Prop) =>
        ∀ (mi:Bool),mi=(decide (d10<(ZB h8 ws)))->(mi=true ->
         (0<=iZ)/\(iZ<(List.length (QE h8 ws rs)))/\∀ (mj:List UInt8),mj=(gD (QE h8 ws rs) iZ [])->(0<=d10)/\(d10<(List.length mj))/\∀ (oW:Int),oW=((UInt8.toNat (gD mj d10 0):Nat):Int)->(0<=iZ)/\(iZ<(List.length (QE h8 ws rs)))/\∀ (ml:List UInt8),ml=(gD (QE h8 ws rs) iZ [])->(I64 ((ZX h8 ws)-d10))/\(I64 ((2:Int)*(ZB h8 ws)))/\(I64 (((ZX h8 ws)-d10)+((2:Int)*(ZB h8 ws))))/\((ZB h8 ws)≠0)/\∀ (jY:Int),jY=(Int.tmod (((ZX h8 ws)-d10)+((2:Int)*(ZB h8 ws))) (ZB h8 ws))->(0<=jY)/\(jY<(List.length ml))/\∀ (oX:Int),oX=((UInt8.toNat (gD ml jY 0):Nat):Int)->∀ (mn:Bool),mn=(oW != oX)->(mn=true ->
          (false=true/\(True))) /\
         (mn=false ->
          (I64 (d10+(1:Int)))/\(∃ d11:Int,((True/\True/\True/\(ZX h8 ws)=(ZX h8 ws)/\(Jy h8 ws)=(Jy h8 ws)/\iZ=iZ/\(d10+(1:Int))=d11/\True)/\(UP h8 ws rs p0 p1 p2))/\wL d11))) /\
        (mi=false ->
         (I64 (iZ+(1:Int)))/\(∃ d12:Int,((True/\True/\True/\(ZX h8 ws)=(ZX h8 ws)/\(Jy h8 ws)=(Jy h8 ws)/\(iZ+(1:Int))=d12/\True)/\(UP h8 ws rs p0 p1 p2))/\q7 d12))) d100) /\
      (mh=false ->
       (I64 p0)/\((hkN 16 h8)≠0)/\∀ (aH:Int),aH=(Int.tmod p0 (hkN 16 h8))->(I64 p1)/\((hkN 16 h8)≠0)/\∀ (aI:Int),aI=(Int.tmod p1 (hkN 16 h8))->(I64 p2)/\((3:Int)≠0)/\∀ (aG:Int),aG=(Int.tmod p2 (3:Int))->(I64 ((1:Int)+aG))/\(True)/\([(aH,(aI,((2:Int),((1:Int)+aG))))].length<=1000)/\((if Qt (hkN 16 h8) [(aH,(aI,((2:Int),((1:Int)+aG))))]=0 then mkW [(aH,(aI,((2:Int),((1:Int)+aG))))] else []).isEmpty=true->(if Qt (hkN 16 h8) [(aH,(aI,((2:Int),((1:Int)+aG))))]=0 then mkW [(aH,(aI,((2:Int),((1:Int)+aG))))] else [])=[])/\((True/\True/\True/\True/\True/\True/\True/\True/\(Qt (hkN 16 h8) [(aH,(aI,((2:Int),((1:Int)+aG))))])=(Qt (hkN 16 h8) [(aH,(aI,((2:Int),((1:Int)+aG))))])/\True)/\((Yy p0 p1 p2)/\(Wu h8)/\((if Qt (hkN 16 h8) [(aH,(aI,((2:Int),((1:Int)+aG))))]=0 then (hkN 16 h8) else 0)=(if Qt (hkN 16 h8) [(aH,(aI,((2:Int),((1:Int)+aG))))]=0 then (hkN 16 h8) else 0)/\True/\(([]:List SV)=[]))/\(Yl h8 ws)/\(Uc h8 ws rs)/\([(aH,(aI,((2:Int),((1:Int)+aG))))]=[(aH,(aI,((2:Int),((1:Int)+aG))))]/\false=false)/\((if Qt (hkN 16 h8) [(aH,(aI,((2:Int),((1:Int)+aG))))]=0 then mkW [(aH,(aI,((2:Int),((1:Int)+aG))))] else [])=(if Qt (hkN 16 h8) [(aH,(aI,((2:Int),((1:Int)+aG))))]=0 then mkW [(aH,(aI,((2:Int),((1:Int)+aG))))] else [])/\(if Qt (hkN 16 h8) [(aH,(aI,((2:Int),((1:Int)+aG))))]=0 then mkW [(aH,(aI,((2:Int),((1:Int)+aG))))] else []).isEmpty=(if Qt (hkN 16 h8) [(aH,(aI,((2:Int),((1:Int)+aG))))]=0 then mkW [(aH,(aI,((2:Int),((1:Int)+aG))))] else []).isEmpty)/\True))/\((I64 p0)/\((hkN 16 h8)≠0)/\∀ (dp:Int),dp=(Int.tmod p0 (hkN 16 h8))->(I64 p1)/\((hkN 16 h8)≠0)/\∀ (dq:Int),dq=(Int.tmod p1 (hkN 16 h8))->(I64 p2)/\((3:Int)≠0)/\∀ (cZ:Int),cZ=(Int.tmod p2 (3:Int))->(I64 ((1:Int)+cZ))/\(True)/\([(dp,(dq,((2:Int),((1:Int)+cZ))))].length<=1000)/\((if Qt (hkN 16 h8) [(dp,(dq,((2:Int),((1:Int)+cZ))))]=0 then mkW [(dp,(dq,((2:Int),((1:Int)+cZ))))] else []).isEmpty=true->(if Qt (hkN 16 h8) [(dp,(dq,((2:Int),((1:Int)+cZ))))]=0 then mkW [(dp,(dq,((2:Int),((1:Int)+cZ))))] else [])=[])/\((True/\True/\True/\True/\True/\True/\True/\True/\(Qt (hkN 16 h8) [(dp,(dq,((2:Int),((1:Int)+cZ))))])=(Qt (hkN 16 h8) [(aH,(aI,((2:Int),((1:Int)+aG))))])/\True)/\((Yy p0 p1 p2)/\(Wu h8)/\((if Qt (hkN 16 h8) [(dp,(dq,((2:Int),((1:Int)+cZ))))]=0 then (hkN 16 h8) else 0)=(if Qt (hkN 16 h8) [(aH,(aI,((2:Int),((1:Int)+aG))))]=0 then (hkN 16 h8) else 0)/\True/\(([]:List SV)=[]))/\(Yl h8 ws)/\(Uc h8 ws rs)/\([(dp,(dq,((2:Int),((1:Int)+cZ))))]=[(aH,(aI,((2:Int),((1:Int)+aG))))]/\false=false)/\((if Qt (hkN 16 h8) [(dp,(dq,((2:Int),((1:Int)+cZ))))]=0 then mkW [(dp,(dq,((2:Int),((1:Int)+cZ))))] else [])=(if Qt (hkN 16 h8) [(aH,(aI,((2:Int),((1:Int)+aG))))]=0 then mkW [(aH,(aI,((2:Int),((1:Int)+aG))))] else [])/\(if Qt (hkN 16 h8) [(dp,(dq,((2:Int),((1:Int)+cZ))))]=0 then mkW [(dp,(dq,((2:Int),((1:Int)+cZ))))] else []).isEmpty=(if Qt (hkN 16 h8) [(aH,(aI,((2:Int),((1:Int)+aG))))]=0 then mkW [(aH,(aI,((2:Int),((1:Int)+aG))))] else []).isEmpty)/\True)))/\((I64 p0)/\((hkN 16 h8)≠0)/\∀ (dt:Int),dt=(Int.tmod p0 (hkN 16 h8))->(I64 p1)/\((hkN 16 h8)≠0)/\∀ (du:Int),du=(Int.tmod p1 (hkN 16 h8))->(I64 p2)/\((3:Int)≠0)/\∀ (c_:Int),c_=(Int.tmod p2 (3:Int))->(I64 ((1:Int)+c_))/\(True)/\([(dt,(du,((2:Int),((1:Int)+c_))))].length<=1000)/\((if Qt (hkN 16 h8) [(dt,(du,((2:Int),((1:Int)+c_))))]=0 then mkW [(dt,(du,((2:Int),((1:Int)+c_))))] else []).isEmpty=true->(if Qt (hkN 16 h8) [(dt,(du,((2:Int),((1:Int)+c_))))]=0 then mkW [(dt,(du,((2:Int),((1:Int)+c_))))] else [])=[])/\((True/\True/\True/\True/\True/\True/\True/\True/\(Qt (hkN 16 h8) [(dt,(du,((2:Int),((1:Int)+c_))))])=(Qt (hkN 16 h8) [(aH,(aI,((2:Int),((1:Int)+aG))))])/\True)/\((Yy p0 p1 p2)/\(Wu h8)/\((if Qt (hkN 16 h8) [(dt,(du,((2:Int),((1:Int)+c_))))]=0 then (hkN 16 h8) else 0)=(if Qt (hkN 16 h8) [(aH,(aI,((2:Int),((1:Int)+aG))))]=0 then (hkN 16 h8) else 0)/\True/\(([]:List SV)=[]))/\(Yl h8 ws)/\(Uc h8 ws rs)/\([(dt,(du,((2:Int),((1:Int)+c_))))]=[(aH,(aI,((2:Int),((1:Int)+aG))))]/\false=false)/\((if Qt (hkN 16 h8) [(dt,(du,((2:Int),((1:Int)+c_))))]=0 then mkW [(dt,(du,((2:Int),((1:Int)+c_))))] else [])=(if Qt (hkN 16 h8) [(aH,(aI,((2:Int),((1:Int)+aG))))]=0 then mkW [(aH,(aI,((2:Int),((1:Int)+aG))))] else [])/\(if Qt (hkN 16 h8) [(dt,(du,((2:Int),((1:Int)+c_))))]=0 then mkW [(dt,(du,((2:Int),((1:Int)+c_))))] else []).isEmpty=(if Qt (hkN 16 h8) [(aH,(aI,((2:Int),((1:Int)+aG))))]=0 then mkW [(aH,(aI,((2:Int),((1:Int)+aG))))] else []).isEmpty)/\True)))/\((I64 p0)/\((hkN 16 h8)≠0)/\∀ (dw:Int),dw=(Int.tmod p0 (hkN 16 h8))->(I64 p1)/\((hkN 16 h8)≠0)/\∀ (dx:Int),dx=(Int.tmod p1 (hkN 16 h8))->(I64 p2)/\((3:Int)≠0)/\∀ (de:Int),de=(Int.tmod p2 (3:Int))->(I64 ((1:Int)+de))/\(True)/\([(dw,(dx,((2:Int),((1:Int)+de))))].length<=1000)/\((if Qt (hkN 16 h8) [(dw,(dx,((2:Int),((1:Int)+de))))]=0 then mkW [(dw,(dx,((2:Int),((1:Int)+de))))] else []).isEmpty=true->(if Qt (hkN 16 h8) [(dw,(dx,((2:Int),((1:Int)+de))))]=0 then mkW [(dw,(dx,((2:Int),((1:Int)+de))))] else [])=[])/\((True/\True/\True/\True/\True/\True/\True/\True/\(Qt (hkN 16 h8) [(dw,(dx,((2:Int),((1:Int)+de))))])=(Qt (hkN 16 h8) [(aH,(aI,((2:Int),((1:Int)+aG))))])/\True)/\((Yy p0 p1 p2)/\(Wu h8)/\((if Qt (hkN 16 h8) [(dw,(dx,((2:Int),((1:Int)+de))))]=0 then (hkN 16 h8) else 0)=(if Qt (hkN 16 h8) [(aH,(aI,((2:Int),((1:Int)+aG))))]=0 then (hkN 16 h8) else 0)/\True/\(([]:List SV)=[]))/\(Yl h8 ws)/\(Uc h8 ws rs)/\([(dw,(dx,((2:Int),((1:Int)+de))))]=[(aH,(aI,((2:Int),((1:Int)+aG))))]/\false=false)/\((if Qt (hkN 16 h8) [(dw,(dx,((2:Int),((1:Int)+de))))]=0 then mkW [(dw,(dx,((2:Int),((1:Int)+de))))] else [])=(if Qt (hkN 16 h8) [(aH,(aI,((2:Int),((1:Int)+aG))))]=0 then mkW [(aH,(aI,((2:Int),((1:Int)+aG))))] else [])/\(if Qt (hkN 16 h8) [(dw,(dx,((2:Int),((1:Int)+de))))]=0 then mkW [(dw,(dx,((2:Int),((1:Int)+de))))] else []).isEmpty=(if Qt (hkN 16 h8) [(aH,(aI,((2:Int),((1:Int)+aG))))]=0 then mkW [(aH,(aI,((2:Int),((1:Int)+aG))))] else []).isEmpty)/\True)))/\((if Qt (hkN 16 h8) [(aH,(aI,((2:Int),((1:Int)+aG))))]=0 then mkW [(aH,(aI,((2:Int),((1:Int)+aG))))] else []).length<=1000)/\∀ (oY:Bool),oY=((Qt (hkN 16 h8) [(aH,(aI,((2:Int),((1:Int)+aG))))])==(0:Int))->∀ (oZ:Bool),oZ=((WM (if Qt (hkN 16 h8) [(aH,(aI,((2:Int),((1:Int)+aG))))]=0 then (hkN 16 h8) else 0) (if Qt (hkN 16 h8) [(aH,(aI,((2:Int),((1:Int)+aG))))]=0 then mkW [(aH,(aI,((2:Int),((1:Int)+aG))))] else []))==(0:Int))->∀ (o3:Bool),o3=(oY&&oZ)->∀ (o4:Bool),o4=((if Q8 (if Qt (hkN 16 h8) [(aH,(aI,((2:Int),((1:Int)+aG))))]=0 then (hkN 16 h8) else 0) (if Qt (hkN 16 h8) [(aH,(aI,((2:Int),((1:Int)+aG))))]=0 then mkW [(aH,(aI,((2:Int),((1:Int)+aG))))] else [])=0 then Cf (if Qt (hkN 16 h8) [(aH,(aI,((2:Int),((1:Int)+aG))))]=0 then mkW [(aH,(aI,((2:Int),((1:Int)+aG))))] else []) else 0)==(0:Int))->∀ (mq:Bool),mq=(o3&&o4)->(mq=true->True)/\∀ (o5:Bool),o5=(mq&&true)->(o5=true/\(True)))) d70))) d30)
def Ku:Cx:=⟨[(62,(.pair (.i .i64) (.pair (.i .i64) (.pair (.i .i64) (.i .i64)))))],[(18,JB),(19,X2),(10,NY),(20,Ug),(21,Uh),(11,Mf),(23,Uu),(22,Mm),(24,V7),(25,Yj),(26,Vh),(28,Va),(27,GY),(9,G5)],298,[],0,[],[],[],[3,5,6,7,28,34,36,44,279],true,[],[],[],[]⟩
def GH (h8:Int) (ws:List Int) (rs:List Int) (p0:Int) (p1:Int) (p2:Int):List (Nat×LoopAnn):=[(0,⟨Unit,Int,[3,5,9,19,23],fun e x=>[.box 3 0,.box 5 0,.val (.i .i64) (if Q8 (hkN 16 h8) (Q5 (hkN 16 h8) 48 ws)=0 then FG (Q5 (hkN 16 h8) 48 ws) else 0),.lst 76,.val (.i .i64) x],fun e x=>[(3,.slot 3,.cells [.val (.i .u8) p0,.val (.i .u8) p1,.val (.i .u8) p2] (some 47)),(5,.slot 5,.cells [.val (.i .i64) (hkN 16 h8),.lst 34] (some 24)),(34,.cell 5 1,.lst 3 (.i .i64) (Q5 (hkN 16 h8) 48 ws) false),(76,.slot 19,.lst 9 .st (QR (hkN 16 h8) (Q5 (hkN 16 h8) 48 ws) (hkN 16 h8) (Zk (hkN 16 h8) 12 rs)) (List.isEmpty (QR (hkN 16 h8) (Q5 (hkN 16 h8) 48 ws) (hkN 16 h8) (Zk (hkN 16 h8) 12 rs))))]⟩),
 (2,⟨Unit,Int,[3,5,19,24,25,26],fun e x=>[.box 3 0,.box 5 0,.lst 76,.val (.i .i64) (if Q8 (hkN 16 h8) (Q5 (hkN 16 h8) 48 ws)=0 then Cf (Q5 (hkN 16 h8) 48 ws) else 0),.val (.i .i64) (WM (hkN 16 h8) (Q5 (hkN 16 h8) 48 ws)),.val (.i .i64) x],fun e x=>[(3,.slot 3,.cells [.val (.i .u8) p0,.val (.i .u8) p1,.val (.i .u8) p2] (some 47)),(5,.slot 5,.cells [.val (.i .i64) (hkN 16 h8),.lst 34] (some 24)),(34,.cell 5 1,.lst 3 (.i .i64) (Q5 (hkN 16 h8) 48 ws) false),(76,.slot 19,.lst 9 .st (QR (hkN 16 h8) (Q5 (hkN 16 h8) 48 ws) (hkN 16 h8) (Zk (hkN 16 h8) 12 rs)) (List.isEmpty (QR (hkN 16 h8) (Q5 (hkN 16 h8) 48 ws) (hkN 16 h8) (Zk (hkN 16 h8) 12 rs))))]⟩),
 (4,⟨Int,Int,[3,5,19,24,25,26,27],fun e x=>[.box 3 0,.box 5 0,.lst 76,.val (.i .i64) (if Q8 (hkN 16 h8) (Q5 (hkN 16 h8) 48 ws)=0 then Cf (Q5 (hkN 16 h8) 48 ws) else 0),.val (.i .i64) (WM (hkN 16 h8) (Q5 (hkN 16 h8) 48 ws)),.val (.i .i64) e,.val (.i .i64) x],fun e x=>[(3,.slot 3,.cells [.val (.i .u8) p0,.val (.i .u8) p1,.val (.i .u8) p2] (some 47)),(5,.slot 5,.cells [.val (.i .i64) (hkN 16 h8),.lst 34] (some 24)),(34,.cell 5 1,.lst 3 (.i .i64) (Q5 (hkN 16 h8) 48 ws) false),(76,.slot 19,.lst 9 .st (QR (hkN 16 h8) (Q5 (hkN 16 h8) 48 ws) (hkN 16 h8) (Zk (hkN 16 h8) 12 rs)) (List.isEmpty (QR (hkN 16 h8) (Q5 (hkN 16 h8) 48 ws) (hkN 16 h8) (Zk (hkN 16 h8) 12 rs))))]⟩)]
theorem De (d:(Int×List Int×List Int)×Int×Int×Int):gwp (Ku) (GH d.1.1 d.1.2.1 d.1.2.2 d.2.1 d.2.2.1 d.2.2.2) c4 0 (Kn [.tmp 4] (K3 d) (K9 d)) (Qx 298 (AL.can KB d))=Jx d.1.1 d.1.2.1 d.1.2.2 d.2.1 d.2.2.1 d.2.2.2:=by kernel_rfl
abbrev GV:Prop:=OkC Tryz.prog 4 VD
theorem GW (h:∀ (h8:Int) (ws:List Int) (rs:List Int) (p0:Int) (p1:Int) (p2:Int),(lOk h8 ws rs/\(0<=p0/\p0<=255)/\(0<=p1/\p1<=255)/\0<=p2/\p2<=255)->Jx h8 ws rs p0 p1 p2):OkC Tryz.prog 4 VD :=
 QH fun4 mixed (C:=Ku) (V:=fun (d:(Int×List Int×List Int)×Int×Int×Int)=>Jx d.1.1 d.1.2.1 d.1.2.2 d.2.1 d.2.2.1 d.2.2.2) ⟨(.cons U3 (.cons N5 (.cons Lh (.cons Rk (.cons RS (.cons Lk (.cons RC (.cons SQ (.cons PM (.cons B5 (.cons PI (.cons Pr (.cons Cb (.cons PJ .nil)))))))))))))),XsOk.nil,ItsOk.nil,YlOk.nil,IysOk.nil,XfOk.nil⟩ (De) fun d hp=>h d.1.1 d.1.2.1 d.1.2.2 d.2.1 d.2.2.1 d.2.2.2 hp
theorem Ar {H:Int}{lw rows:List Int}(ht:Q8 H lw=0) (hp:Qg H rows=0):QK H lw H rows=0/\QR H lw H rows=rows.map (Z2 lw):=by
 have e:QK H lw H rows=0:=by unfold QK;rw[if_neg (by omega),if_neg (by omega),if_neg (by simp)]
 exact⟨e,by unfold QR;rw[if_pos e]⟩
theorem Al {lw rows:List Int}{n:Int}(hn:(lw.length:Int)=n):Gg (rows.map (Z2 lw)) (rows.length:Int) n=true:=by unfold Gg;rw[Bool.and_eq_true,List.all_eq_true,List.length_map];refine⟨fun s hs=>?_,decide_eq_true rfl⟩;obtain⟨r,_,rfl⟩:=List.mem_map.1 hs;rw[X7];exact decide_eq_true hn
set_option maxHeartbeats 4000000 in
theorem ok_law03_TieEdges:GV:=GW fun h8 ws rs p0 p1 p2 h=>by
 obtain⟨hL,wM,gV,eg⟩:=h;unfold Jx;delta JT Rg QE Zi UP ZX Vw Bo Xn Jy Wu Yl Uc Kx Xr ZB Yy;(try delta lI gD sT I64 Q1 pj8 pj4);obtain⟨hk,hw,hr⟩:=Q6w hL;have ht:=Q1a hk hw;have hp:=FZ hk hr;generalize Q5 (hkN 16 h8) 48 ws=lw at hw ht |-;generalize Zk (hkN 16 h8) 12 rs=rows at hr hp |-;generalize hkN 16 h8=H at hk hw hr ht hp |-;have oT:=T4 ht hw.2.1;obtain⟨we,wn⟩:=Ln ht hw.2.1;obtain⟨wE,wC⟩:=Ar ht hp;obtain⟨tR,tS⟩:=Ar oT hp;have aW:=List.length_pos_iff.2 hw.1;have gH:=List.length_pos_iff.2 hr.1;have o6:Ie (rows.map (Z2 (lw++lw)))=Ie (rows.map (Z2 lw)):=Tb (by simp) fun i hi=>by rw[List.length_map] at hi;rw[Qf (by simpa using hi),Qf (by simpa using hi),List.getElem_map,List.getElem_map,P6]
 have o7:QS H lw H lw=0:=by unfold QS;rw[if_neg (by omega),if_neg (by omega),if_neg (by simp),if_neg (by omega)]
 have o8:=EC hw.1;obtain⟨b,b1,b2,b3,⟨b4,b5⟩,_⟩:=Hf hw.1;have hR:=Al (lw:=lw) (rows:=rows) rfl;have tT:=Al (lw:=lw++lw) (rows:=rows) (n:=2*(lw.length:Int)) (by rw[List.length_append];omega);have kM:Int.tmod (lw.length:Int) (b:Int)=0:=by rw[By,b4];rfl
 have bw:decide ((b:Int)<1)=false:=decide_eq_false (by omega);have tU:((b:Int)=0)=False:=eq_false (by omega);have l1:(lw.length<=1000)=True:=eq_true (by omega);have l2:(lw.length<=1000000)=True:=eq_true (by omega);have l3:(lw.length<=110)=True:=eq_true (by omega);have m1:((lw++lw).length<=1000)=True:=eq_true (by rw[List.length_append];omega);have m2:((lw++lw).length<=1000000)=True:=eq_true (by rw[List.length_append];omega);have m3:((lw++lw).length<=110)=True:=eq_true (by rw[List.length_append];omega);have r1:(rows.length<=1000)=True:=eq_true (by omega);have r3:(rows.length<=110)=True:=eq_true (by omega);have ik:InK .i64 (2*(lw.length:Int))=True:=eq_true (by rw[Q7];omega);have q1:(∀ s,s∈rows.map (Z2 lw)->s.length<=1000)=True:=eq_true fun s hs=>by obtain⟨r,_,rfl⟩:=List.mem_map.1 hs;rw[X7];omega
 have q2:(∀ s,s∈rows.map (Z2 (lw++lw))->s.length<=1000)=True:=eq_true fun s hs=>by obtain⟨r,_,rfl⟩:=List.mem_map.1 hs;rw[X7,List.length_append];omega
 have fw:(H=0)=False:=eq_false (by omega);have tV:InK .i64 p0=True:=eq_true (by rw[Q7];omega);have tW:InK .i64 p1=True:=eq_true (by rw[Q7];omega);have tX:InK .i64 p2=True:=eq_true (by rw[Q7];omega);have tm:∀ a:Int,0<=a->0<=Int.tmod a H/\Int.tmod a H<H:=fun a ha=>⟨Int.tmod_nonneg _ ha,Int.tmod_lt_of_pos _ (by omega)⟩;have h3:0<=Int.tmod p2 3/\Int.tmod p2 3<=2:=by rw[Int.tmod_eq_emod_of_nonneg eg.1];omega
 have tY:InK .i64 (1+Int.tmod p2 3)=True:=eq_true (by rw[Q7];omega);obtain⟨k1,k2,k3,k4⟩:=Q1p hk (tm p0 wM.1) (tm p1 gV.1) (t:=1+Int.tmod p2 3) (by omega);generalize hx:[(Int.tmod p0 H,(Int.tmod p1 H,((2:Int),1+Int.tmod p2 3)))]=x at k1 k2 k3 k4;have pC:x.length=1:=by rw[<-hx];rfl
 have k5:WM H (mkW x)=0:=by unfold WM;rw[if_neg (by omega),k4];rfl
 have k6:Cf (mkW x)=0:=by unfold Cf;rw[k4];rfl
 have k7:((mkW x).length<=1000)=True:=eq_true (by omega);have k8:(mkW x).isEmpty=false:=by
  have:=(Q80 k3).2.1.1;cases hm:mkW x with
  |nil=>rw[hm] at this;simp at this
  |cons a l=>rfl
 have x1:(1:Nat)<=1000:=by decide
 have z3:((3:Int)=0)=False:=eq_false (by decide);have wN:((7:Int)==0)=false:=rfl;have wO:((7:Int) != 0)=true:=rfl;have tZ:((0:Int)==0)=true:=rfl;have hm:(WM H lw=7/\Cf lw=0)\/∃ s:Nat,WM H lw=0/\Cf lw=(s:Int)/\s<lw.length/\∀ i,i<lw.length->lw.getD i 0=lw.getD ((s+lw.length-i) % lw.length) 0:=by
  unfold WM Cf;rw[if_neg (by omega)];cases hm:Q5r lw with
  |none=>exact .inl ⟨rfl,rfl⟩
  |some s =>obtain⟨a1,a2,_⟩:=List.find?_range_eq_some.1 hm;exact .inr ⟨s,rfl,rfl,List.mem_range.1 a2,Bu.1 a1⟩
 have first:∀ i:Nat,i<lw.length->lw.getD ((i:Int)).toNat 0=lw.getD (Int.tmod (i:Int) (b:Int)).toNat 0:=fun i hi=>by rw[By,Int.toNat_natCast,Int.toNat_natCast,<-b5 i hi]
 rcases hm with⟨g1,g2⟩|⟨s,g1,g2,g3,g4⟩
 .simp only[hx,o7,ht,oT,we,wn,wE,tR,wC,tS,o6,o8,b1,hR,tT,kM,if_true,hL,true_and,and_true,exists_eq_left',exists_const,decide_eq_true_eq,decide_eq_false_iff_not,bne_iff_ne,ne_eq,bne_eq_false_iff_eq,ge_iff_le,forall_eq,false_implies,Bool.false_eq_true,Bool.and_self,Bool.or_false,Bool.and_false,Bool.false_and,Bool.and_true,Bool.not_true,implies_true,forall_const,decide_false,not_false_eq_true,not_true_eq_false,bne_self_eq_false,bw,tU,l1,l2,l3,m1,m2,m3,r1,r3,ik,q1,q2,List.length_map,k1,k3,k5,k6,k7,k8,pC,x1,z3,fw,tV,tW,tX,tY,g1,g2,wN,wO,tZ];refine LoopP.count lw.length (fun _=>True) trivial fun i hi _ q hq=>?_;have r_:=Nat.mod_lt i (show 0<b by omega);refine⟨fun g=>?_,fun g=>?_⟩
  .have g:i<lw.length:=by omega
   refine⟨by omega,by omega,by rw[By];omega,by rw[By];omega,fun h=>h (first i g),fun _=>⟨by rw[Q7];omega,hq g trivial⟩⟩
  .exact LoopP.count 0 (fun _=>True) trivial fun _ _ _ _ _=>trivial
 .simp only[hx,o7,ht,oT,we,wn,wE,tR,wC,tS,o6,o8,b1,hR,tT,kM,if_true,hL,true_and,and_true,exists_eq_left',exists_const,decide_eq_true_eq,decide_eq_false_iff_not,bne_iff_ne,ne_eq,bne_eq_false_iff_eq,ge_iff_le,forall_eq,false_implies,Bool.false_eq_true,Bool.and_self,Bool.or_false,Bool.false_and,Bool.and_true,Bool.true_and,Bool.not_true,implies_true,forall_const,decide_false,not_false_eq_true,not_true_eq_false,bne_self_eq_false,bw,tU,l1,l2,l3,m1,m2,m3,r1,r3,ik,q1,q2,List.length_map,k1,k3,k5,k6,k7,k8,pC,x1,z3,fw,tV,tW,tX,tY,g1,g2,tZ];refine LoopP.count lw.length (fun _=>True) trivial fun i hi _ q hq=>?_;have r_:=Nat.mod_lt i (show 0<b by omega);refine⟨fun g=>?_,fun g=>?_⟩
  .have g:i<lw.length:=by omega
   refine⟨by omega,by omega,by rw[By];omega,by rw[By];omega,fun h=>h (first i g),fun _=>⟨by rw[Q7];omega,hq g trivial⟩⟩
  .refine⟨fun hx=>?_,fun _=>?_⟩
   .simp only[Bool.or_eq_true,decide_eq_true_eq] at hx;omega
   refine LoopP.count rows.length (fun _=>True) trivial fun k au _ q2 kF=>?_;intro gk;have gk:k<rows.length:=by omega
   refine⟨(k:Int),0,⟨rfl,rfl⟩,?_⟩;have bI:(rows.map (Z2 lw)).getD k []=Z2 lw (rows.getD k 0):=by rw[Qf (by simpa using gk),List.getElem_map,Qf gk]
   simp only[Int.toNat_natCast,bI,X7];refine LoopP.count lw.length (fun _=>True) trivial fun w xt _ q3 wP=>?_;refine⟨fun gw=>?_,fun gw=>?_⟩
   .have gw:w<lw.length:=by omega
    have e1:(s:Int)-(w:Int)+2*(lw.length:Int)=((s+lw.length-w+lw.length:Nat):Int):=by omega
    have en:=Nat.mod_lt (s+lw.length-w+lw.length) aW;have hs:(Z2 lw (rows.getD k 0)).getD ((s+lw.length-w+lw.length) % lw.length) 0=(Z2 lw (rows.getD k 0)).getD w 0:=by
     rw[Nat.add_mod_right] at en |-;have pg:∀ j,j<lw.length->(Z2 lw (rows.getD k 0)).getD j 0=if (rows.getD k 0).toNat.testBit (lw.getD j 0).toNat then 120 else 46:=fun j hj=>by rw[Qf (by rw[X7];exact hj),Qf hj];simp only[Z2,List.getElem_map]
     rw[pg _ en,pg _ gw,<-g4 w gw]
    simp only[e1,By,Int.toNat_natCast,hs];exact⟨by omega,by omega,by omega,by omega,by omega,by omega,by rw[Q7];omega,by rw[Q7];omega,by omega,by omega,by omega,fun h=>h trivial,fun _=>⟨by rw[Q7];omega,wP gw trivial⟩⟩
   .exact⟨by rw[Q7];omega,kF gk trivial⟩
theorem Z0l {l:List Int}(h:KWf (.list (.i .u8)) l):u8s l:=fun x hx=>(LG x).1 (h.2 x hx)
theorem Q56 {l:List Int}(h:KWf (.list (.i .u16)) l):Z35 l:=fun x hx=>(Q53 x).1 (h.2 x hx)
theorem edgPre_of {x:(Int×List Int×List Int)×Int×Int×Int}(h:AWf [.pair (.i .u8) (.pair (.list (.i .u8)) (.list (.i .u16))),.pair (.i .u8) (.pair (.i .u8) (.i .u8))] x):lOk x.1.1 x.1.2.1 x.1.2.2/\(0<=x.2.1/\x.2.1<=255)/\(0<=x.2.2.1/\x.2.2.1<=255)/\0<=x.2.2.2/\x.2.2.2<=255:=by obtain⟨⟨h1,h2,h4⟩,h3,h5,h6⟩:=h;have h1:=(LG x.1.1).1 h1;have h3:=(LG x.2.1).1 h3;have h5:=(LG x.2.2.1).1 h5;have h6:=(LG x.2.2.2).1 h6;exact⟨⟨h1.1,h1.2,Z0l h2,Q56 h4⟩,h3,h5,h6⟩
end Go.Proofs.Tryz