/- A framework for walks, contracts of functions, and their proofs: part 6. -/
import Derived.Test.YtfidkfoillgeeaaGreatDoorR5
set_option linter.unusedVariables false
set_option maxRecDepth 100000
namespace Go.Proofs.Tryz
open Go Go.V Go.Proofs
def QT (lw:List Int) (fr:Nat):Nat→Nat
 |0=>0
 |n+1=>QT lw fr n ||| 2 ^ (lw.getD ((fr+n) % lw.length) 0).toNat
theorem PC {lw:List Int}{H:Nat}(hl:1≤lw.length) (h:∀ x∈lw,0≤x∧x<(H:Int)) (fr:Nat):∀ n,QT lw fr n<2 ^ H
 |0=>by simp[QT,Nat.two_pow_pos]
 |n+1=>by unfold QT;have hm:=Nat.mod_lt (fr+n) (show 0<lw.length by omega);have:=h (lw.getD ((fr+n) % lw.length) 0) (by rw[Qi hm];exact List.getElem_mem hm);exact Nat.or_lt_two_pow (PC hl h fr n) (Nat.pow_lt_pow_right (by omega) (by omega))
def QD (hk bd s:Int):Bool:=decide (XJ s.toNat s.toNat bd.toNat hk.toNat<1048576)
def Yo (hk bd s:Int):Int:=if QD hk bd s=true then ((K_ s.toNat s.toNat bd.toNat hk.toNat:Nat):Int) else 0
def FrI (hk bd:Int) (m:List (Int×Int×Bool)):Prop:=∀ k:Int,gq.ahas (.i .i64) m k=true→gq.aget (.i .i64) m k (0,false)=(Yo hk bd k,QD hk bd k)
theorem Q1n (hk bd:Int):FrI hk bd []:=fun k h=>by cases h
theorem Q5c (a b:(Kind.i .i64).T):gq.keq (.i .i64) a b=true↔a=b:=by show ((show Int from a)==(show Int from b))=true↔_;exact beq_iff_eq
theorem FW {hk bd s:Int}{m:List (Int×Int×Bool)}{v:Int×Bool}(h:FrI hk bd m) (hv:v=(Yo hk bd s,QD hk bd s)):FrI hk bd (S5 (.i .i64) m s v):=fun e he=>by
 obtain⟨h1,h2⟩:=Q1m Q5c s v e ((0:Int),false) m;by_cases c:e=s
 ·rw[(h1 c).1,c];exact hv
 ·rw[(h2 c).2] at he;rw[(h2 c).1];exact h e he
theorem Q32 {hk bd s:Int}(h1:1≤hk∧hk≤24) (h2:1≤bd∧bd≤24) (h3:0≤s∧s<2 ^ hk.toNat):Q7 hk [s] [s] bd=(if QD hk bd s=true then 0 else 9)∧Qz hk [s] [s] bd=(if QD hk bd s=true then [Yo hk bd s] else []):=by
 have pe:Qb hk [s]=0:=by unfold Qb inI;have e1:decide (0≤s)=true:=decide_eq_true h3.1;have e2:decide (s≤2 ^ hk.toNat-1)=true:=decide_eq_true (by omega);simp[e1,e2,h1]
 have aP:([s].any fun n=>!inI n 0 (2 ^ hk.toNat-1))=false:=by unfold inI;have e1:decide (0≤s)=true:=decide_eq_true h3.1;have e2:decide (s≤2 ^ hk.toNat-1)=true:=decide_eq_true (by omega);simp[e1,e2]
 have hb:inI bd 1 24=true:=by unfold inI;rw[decide_eq_true h2.1,decide_eq_true h2.2];rfl
 have l8:KL hk [s] [s] bd=!QD hk bd s:=by unfold KL QD Sp;simp only[List.length_cons,List.length_nil,List.range_succ,List.range_zero,List.nil_append,List.any_cons,List.any_nil,Bool.or_false,List.getD_cons_zero];rw[Bool.eq_iff_iff];simp only[decide_eq_true_eq,Bool.not_eq_true',decide_eq_false_iff_not];omega
 have e:Q7 hk [s] [s] bd=(if QD hk bd s=true then 0 else 9):=by unfold Q7;rw[if_neg (by omega),if_neg (by simp),if_neg (by rw[aP];decide),if_neg (by rw[hb];decide),l8];cases QD hk bd s<;>rfl
 refine⟨e,?_⟩;unfold Qz;rw[e];by_cases c:QD hk bd s=true
 ·rw[if_pos c,if_pos rfl,if_pos c];unfold Yo;rw[if_pos c];simp[ND,Q6s,List.range_succ]
 ·rw[if_neg c,if_neg (by decide),if_neg c]
def lgI (hk:Int) (lw:List Int) (bd:Int) (fr:Nat):Nat→Nat→Int→Nat×Int
 |0,l,b=>(l,b)
 |m+1,l,b=>if l+1<lw.length∧QD hk bd (QT lw fr (l+1):Nat)=true then lgI hk lw bd fr m (l+1) (Yo hk bd (QT lw fr (l+1):Nat)) else (l,b)
def lgK (hk:Int) (lw:List Int) (bd:Int):Nat→Nat×Int
 |0=>(0,0)
 |k+1=>lgI hk lw bd k (lw.length-(lgK hk lw bd k).1) (lgK hk lw bd k).1 (lgK hk lw bd k).2
def lgN (hk:Int) (lw:List Int) (bd:Int):Int:=if QD hk bd (QT lw 0 lw.length:Nat)=true then 1000 else ((lgK hk lw bd lw.length).1:Int)
def lgR (hk:Int) (lw:List Int) (bd:Int):Int:=if QD hk bd (QT lw 0 lw.length:Nat)=true then Yo hk bd (QT lw 0 lw.length:Nat) else (lgK hk lw bd lw.length).2
def lgO (hk:Int) (lw:List Int) (bd:Int):Bool:=if QD hk bd (QT lw 0 lw.length:Nat)=true then true else decide (0<(lgK hk lw bd lw.length).1)
theorem Em (hk:Int) (lw:List Int) (bd:Int) (fr:Nat):∀ m l b,l≤(lgI hk lw bd fr m l b).1∧(l<lw.length→(lgI hk lw bd fr m l b).1<lw.length)
 |0,l,b=>⟨Nat.le_refl _,id⟩
 |m+1,l,b=>by
  unfold lgI;split
  ·rename_i h;have:=Em hk lw bd fr m (l+1) (Yo hk bd (QT lw fr (l+1):Nat));exact⟨by omega,fun _=>this.2 h.1⟩
  ·exact⟨Nat.le_refl _,id⟩
theorem LC {hk:Int}{lw:List Int}{bd:Int}(h:1≤lw.length):∀ k,(lgK hk lw bd k).1<lw.length
 |0=>h
 |k+1=>(Em hk lw bd k _ _ _).2 (LC h k)
def QF (hk:Int) (lw:List Int) (bd:Int):Int:=if QK hk lw≠0 then QK hk lw else if inI bd 1 24=false then 3 else if QD hk bd 0=true then 0 else 9
def WO (hk:Int) (lw:List Int) (bd:Int):Int:=if QF hk lw bd=0 then lgN hk lw bd else 0
def Xj (hk:Int) (lw:List Int) (bd:Int):Int:=if QF hk lw bd=0 then lgR hk lw bd else 0
def AX (row hk bd:Int):Bool:=(List.range hk.toNat).all fun k=>decide (((J6 (MY row hk.toNat) k:Nat):Int)≤bd)
def lgX (c:List (List UInt8)):Int:=(Sn 0 c).foldl (fun a x=>MZ a x.2.2.1) 0
def Q2b (hk:Int) (lw:List Int) (bd:Int):Int:=(List.range (2 ^ hk.toNat)).foldl (fun a (r:Nat)=>if AX (r:Int) hk bd=true then MZ a (lgX (Qa hk lw hk [(r:Int)])) else a) 0
theorem Q3t {hk:Int}{lw:List Int}(h:QK hk lw=0):(1≤hk∧hk≤24)∧(1≤lw.length∧lw.length≤96)∧∀ x∈lw,0≤x∧x<hk:=by
 unfold QK at h;split at h
 ·cases h
 ·rename_i h1;split at h
  ·cases h
  ·rename_i h2;split at h
   ·cases h
   ·rename_i h3;split at h
    ·cases h
    ·rename_i h4;have h1:1≤hk∧hk≤24:=by simpa [inI] using h1
     refine⟨h1,by omega,fun x hx=>?_⟩;have h5:∀ x∈lw,inI x 0 (hk-1)=true:=by simpa using h4
     have:=h5 x hx;simp only[inI,Bool.and_eq_true,decide_eq_true_eq] at this;omega
def Y9:AL ((Int×List Int×Unit×Unit)×Int×Int):=(.cons (.ptr (.cons (.k (.i .i64)) (.cons (.k (.list (.i .i64))) (.cons .any (.one .any))))) (.cons (.k (.i .i64)) (.one (.k (.i .i64)))))
def U8 (d:(Int×List Int×Unit×Unit)×Int×Int):Prop:=(1≤d.1.1∧d.1.1≤24)∧(1≤d.1.2.1.length∧d.1.2.1.length≤110)∧(∀ x∈d.1.2.1,0≤x∧x<d.1.1)∧0≤d.2.1∧d.2.1≤110∧0≤d.2.2∧d.2.2≤110
def Wq (d:(Int×List Int×Unit×Unit)×Int×Int):SV:=.val (.i .i64) ((QT d.1.2.1 d.2.1.toNat d.2.2.toNat:Nat):Int)
def WA (d:(Int×List Int×Unit×Unit)×Int×Int):List OB:=[]
def X0:CSp:=V0 Y9 U8 Wq WA
def ZP (hk:Int) (lw:List Int) (fr:Int) (ln:Int):Prop :=
 ∃ (e2:Unit) (d20:Int×Int),(((SV.cp [.val (.i .i64) hk,.val (.list (.i .i64)) lw,.any,.any] 0=SV.cp [.val (.i .i64) hk,.val (.list (.i .i64)) lw,.any,.any] 0∧SVs.pure [.val (.i .i64) hk,.val (.list (.i .i64)) lw,.any,.any]=true)∧fr=fr∧(0:Int)=d20.1∧ln=ln∧(0:Int)=d20.2∧True)∧(True)) ∧
 LoopP (fun (d2:Int×Int) (q2:(Int×Int)→Prop) =>
  ((decide (d2.2<ln))=true →
   (I64 (fr+d2.2))∧((lI lw)≠0)∧(0≤(Int.tmod (fr+d2.2) (lI lw)))∧((Int.tmod (fr+d2.2) (lI lw))<(List.length lw))∧(0≤(gD lw (Int.tmod (fr+d2.2) (lI lw)) 0))∧(I64 (Vf .i64 (1:Int) (gD lw (Int.tmod (fr+d2.2) (lI lw)) 0)))∧(I64 (d2.2+(1:Int)))∧(∃ d3:Int×Int,(((SV.cp [.val (.i .i64) hk,.val (.list (.i .i64)) lw,.any,.any] 0=SV.cp [.val (.i .i64) hk,.val (.list (.i .i64)) lw,.any,.any] 0∧SVs.pure [.val (.i .i64) hk,.val (.list (.i .i64)) lw,.any,.any]=true)∧fr=fr∧(JL .or .i64 d2.1 (Vf .i64 (1:Int) (gD lw (Int.tmod (fr+d2.2) (lI lw)) 0)))=d3.1∧ln=ln∧(d2.2+(1:Int))=d3.2∧True)∧(True))∧q2 d3)) ∧
  ((decide (d2.2<ln))=false →
   (d2.1=((QT lw fr.toNat ln.toNat:Nat):Int)∧(True)))) d20
def Yf:Cx:=⟨[],[],36,[],0,[],[],[],[],false,[],[],[],[]⟩
def Ns (hk:Int) (lw:List Int) (fr:Int) (ln:Int):List (Nat×LoopAnn):=[(0,⟨Unit,Int×Int,[0,1,6,8,9],fun e x=>[.cp [.val (.i .i64) hk,.val (.list (.i .i64)) lw,.any,.any] 0,.val (.i .i64) fr,.val (.i .i64) x.1,.val (.i .i64) ln,.val (.i .i64) x.2],fun e x=>[]⟩)]
theorem Na (d:(Int×List Int×Unit×Unit)×Int×Int):gwp (Yf) (Ns d.1.1 d.1.2.1 d.2.1 d.2.2) c65 0 (U0 [.tmp 6] (Wq d) (WA d)) (QS 36 (AL.can Y9 d))=ZP d.1.1 d.1.2.1 d.2.1 d.2.2:=by kernel_rfl
abbrev N7:Prop:=OkC Tryz.prog 65 X0
theorem N3 (h:∀ (hk:Int) (lw:List Int) (fr:Int) (ln:Int),((1≤hk∧hk≤24)∧(1≤lw.length∧lw.length≤110)∧(∀ x∈lw,0≤x∧x<hk)∧0≤fr∧fr≤110∧0≤ln∧ln≤110)→ZP hk lw fr ln):OkC Tryz.prog 65 X0 :=
 Z8 Q2x mixed (C:=Yf) (V:=fun (d:(Int×List Int×Unit×Unit)×Int×Int)=>ZP d.1.1 d.1.2.1 d.2.1 d.2.2) ⟨.nil,XsOk.nil,ItsOk.nil,YlOk.nil,IysOk.nil,XfOk.nil⟩ (Na) fun d hp=>h d.1.1 d.1.2.1 d.2.1 d.2.2 hp
theorem Q24 {a b:Nat}(ha:a<16777216) (hb:b<16777216):JL .or .i64 (a:Int) (b:Int)=((a ||| b:Nat):Int):=by
 have e:(BitVec.ofInt 64 ((a:Nat):Int) ||| BitVec.ofInt 64 ((b:Nat):Int)).toNat=a ||| b:=by rw[BitVec.toNat_or,BitVec.toNat_ofInt,BitVec.toNat_ofInt];congr 1<;>omega
 have ai:a ||| b<2 ^ 24:=Nat.or_lt_two_pow (by omega) (by omega)
 show IntKind.wrap .i64 ((BitVec.ofInt 64 ((a:Nat):Int) ||| BitVec.ofInt 64 ((b:Nat):Int)).toNat:Int)=_;rw[e];generalize a ||| b=c at *
 simp[IntKind.wrap,IntKind.bits,IntKind.signed];omega
theorem N1:N7:=N3 fun hk lw fr ln h=>by
 obtain⟨h1,h2,h3,h4,h5,h6,h7⟩:=h;unfold ZP;(try delta lI gD sT I64 Q1 pj8 pj4);obtain⟨H,rfl⟩:=Int.eq_ofNat_of_zero_le (show 0≤hk by omega);obtain⟨f,rfl⟩:=Int.eq_ofNat_of_zero_le h4;obtain⟨n,rfl⟩:=Int.eq_ofNat_of_zero_le h6;have ai:=PC h2.1 h3 f;have v7:(2:Nat) ^ H≤2 ^ 24:=Nat.pow_le_pow_right (by omega) (by omega);simp only[true_and,and_true,Int.toNat_natCast];refine⟨(),(0,0),by and_intros<;>first|rfl|trivial,?_⟩;refine⟨fun d=>∃ i:Nat,i≤n∧d=(((QT lw f i:Nat):Int),(i:Int)),fun d=>n-d.2.toNat,⟨0,by omega,rfl⟩,?_⟩;rintro _ ⟨i,hi,rfl⟩;dsimp only;refine⟨fun c=>?_,fun c=>?_⟩
 ·have hi:i<n:=by have:=of_decide_eq_true c;omega
  have hm:=Nat.mod_lt (f+i) (show 0<lw.length by omega);have et:Int.tmod ((f:Int)+(i:Int)) (lw.length:Int)=(((f+i) % lw.length:Nat):Int):=by rw[Int.tmod_eq_emod_of_nonneg (by omega),←Int.natCast_add,←Int.natCast_emod]
  rw[et,Int.toNat_natCast];have hx:=h3 (lw.getD ((f+i) % lw.length) 0) (by rw[Qi hm];exact List.getElem_mem hm);have hw:QT lw f (i+1)=QT lw f i ||| 2 ^ (lw.getD ((f+i) % lw.length) 0).toNat:=rfl
  have hl:=ai i;generalize lw.getD ((f+i) % lw.length) 0=x at *
  obtain⟨k,rfl⟩:=Int.eq_ofNat_of_zero_le hx.1;have sh:Vf .i64 1 (k:Int)=((2 ^ k:Nat):Int):=by rw[Bx (by omega) (by omega)];simp
  have pk:(2:Nat) ^ k<2 ^ H:=Nat.pow_lt_pow_right (by omega) (by omega);rw[sh];rw[Int.toNat_natCast] at hw;have ik:InK .i64 ((2 ^ k:Nat):Int):=by
   clear sh hw;generalize (2:Nat) ^ k=P at *
   rw[Q9];omega
  rw[Q24 (by omega) (by omega),←hw];refine⟨by rw[Q9];omega,by omega,by omega,by omega,by omega,ik,by rw[Q9];omega,(((QT lw f (i+1):Nat):Int),(i:Int)+1),?_,⟨i+1,hi,rfl⟩,by dsimp only;omega⟩;and_intros<;>first|rfl|trivial
 ·have hi:i=n:=by have:=of_decide_eq_false c;omega
  rw[hi]
def XC:AL (Int×List Int×Int):=(.cons (.k (.i .i64)) (.cons (.k (.list (.i .i64))) (.one (.k (.i .i64)))))
def XI:AL (Int):=(.one (.k (.i .i64)))
def Kb (m:List (Int×Int×Bool)) (c:Int×List Int×Int) (a:Int):Prop:=(1≤c.1∧c.1≤24)∧(1≤c.2.2∧c.2.2≤24)∧(1≤c.2.1.length∧c.2.1.length≤110)∧(∀ x∈c.2.1,0≤x∧x<c.1)∧(0≤a∧a<2 ^ c.1.toNat)∧FrI c.1 c.2.2 m
def Xx (m:List (Int×Int×Bool)) (c:Int×List Int×Int) (a:Int):SV:=.agg [.val (.i .i64) (Yo c.1 c.2.2 a),.val .bo (QD c.1 c.2.2 a)]
def X7 (m:List (Int×Int×Bool)) (c:Int×List Int×Int) (a:Int) (m2:List (Int×Int×Bool)):Prop:=FrI c.1 c.2.2 m2
def KN (c:Int×List Int×Int) (a:Int):Nat:=0
def X1:XSp:=Vy DQ 3 (.i .i64) (.pair (.i .i64) .bo) (C_ XC XI Kb Xx X7)
def JE (a_:Nat) (m:List (Int×Int×Bool)) (hk:Int) (lw:List Int) (bd:Int) (s:Int):Prop:=∀ vals:List Value,
 ((gq.ahas (.i .i64) m s)=true →
  (vals=vals∧(True∧(([]:List SV)=[]))∧((gq.aget (.i .i64) m s (0,false)).1=(Yo hk bd s)∧(gq.aget (.i .i64) m s (0,false)).2=(QD hk bd s)∧(([]:List SV)=[]))∧(FrI hk bd m))) ∧
 ((gq.ahas (.i .i64) m s)=false →
  ([s].length≤1000∧[s].length≤1000)∧((Qz hk [s] [s] bd).isEmpty=true→(Qz hk [s] [s] bd)=[])∧(((hk=hk∧lw=lw∧bd=bd∧True∧(([]:List SV)=[]))∧s=s∧True∧True∧(Q7 hk [s] [s] bd)=(Q7 hk [s] [s] bd)∧True)∧((m=m)∧((0:Int)=(0:Int)∧false=false∧(([]:List SV)=[]))∧((gq.aget (.i .i64) m s (0,false)).1=(gq.aget (.i .i64) m s (0,false)).1∧(gq.aget (.i .i64) m s (0,false)).2=(gq.aget (.i .i64) m s (0,false)).2∧(([]:List SV)=[]))∧((if Q7 hk [s] [s] bd=0 then hk else 0)=(if Q7 hk [s] [s] bd=0 then hk else 0)∧True∧(([]:List SV)=[]))∧([s]=[s]∧false=false)∧([s]=[s]∧false=false)∧((Qz hk [s] [s] bd)=(Qz hk [s] [s] bd)∧(Qz hk [s] [s] bd).isEmpty=(Qz hk [s] [s] bd).isEmpty)∧(vals=vals∧(True∧(([]:List SV)=[])))∧True))∧(([s].length≤1000∧[s].length≤1000)∧((Qz hk [s] [s] bd).isEmpty=true→(Qz hk [s] [s] bd)=[])∧(((hk=hk∧lw=lw∧bd=bd∧True∧(([]:List SV)=[]))∧s=s∧True∧True∧(Q7 hk [s] [s] bd)=(Q7 hk [s] [s] bd)∧True)∧((m=m)∧((0:Int)=(0:Int)∧false=false∧(([]:List SV)=[]))∧((gq.aget (.i .i64) m s (0,false)).1=(gq.aget (.i .i64) m s (0,false)).1∧(gq.aget (.i .i64) m s (0,false)).2=(gq.aget (.i .i64) m s (0,false)).2∧(([]:List SV)=[]))∧((if Q7 hk [s] [s] bd=0 then hk else 0)=(if Q7 hk [s] [s] bd=0 then hk else 0)∧True∧(([]:List SV)=[]))∧([s]=[s]∧false=false)∧([s]=[s]∧false=false)∧((Qz hk [s] [s] bd)=(Qz hk [s] [s] bd)∧(Qz hk [s] [s] bd).isEmpty=(Qz hk [s] [s] bd).isEmpty)∧(vals=vals∧(True∧(([]:List SV)=[])))∧True)))∧(([s].length≤1000∧[s].length≤1000)∧((Qz hk [s] [s] bd).isEmpty=true→(Qz hk [s] [s] bd)=[])∧(((hk=hk∧lw=lw∧bd=bd∧True∧(([]:List SV)=[]))∧s=s∧True∧True∧(Q7 hk [s] [s] bd)=(Q7 hk [s] [s] bd)∧True)∧((m=m)∧((0:Int)=(0:Int)∧false=false∧(([]:List SV)=[]))∧((gq.aget (.i .i64) m s (0,false)).1=(gq.aget (.i .i64) m s (0,false)).1∧(gq.aget (.i .i64) m s (0,false)).2=(gq.aget (.i .i64) m s (0,false)).2∧(([]:List SV)=[]))∧((if Q7 hk [s] [s] bd=0 then hk else 0)=(if Q7 hk [s] [s] bd=0 then hk else 0)∧True∧(([]:List SV)=[]))∧([s]=[s]∧false=false)∧([s]=[s]∧false=false)∧((Qz hk [s] [s] bd)=(Qz hk [s] [s] bd)∧(Qz hk [s] [s] bd).isEmpty=(Qz hk [s] [s] bd).isEmpty)∧(vals=vals∧(True∧(([]:List SV)=[])))∧True)))∧(([s].length≤1000∧[s].length≤1000)∧((Qz hk [s] [s] bd).isEmpty=true→(Qz hk [s] [s] bd)=[])∧(((hk=hk∧lw=lw∧bd=bd∧True∧(([]:List SV)=[]))∧s=s∧True∧True∧(Q7 hk [s] [s] bd)=(Q7 hk [s] [s] bd)∧True)∧((m=m)∧((0:Int)=(0:Int)∧false=false∧(([]:List SV)=[]))∧((gq.aget (.i .i64) m s (0,false)).1=(gq.aget (.i .i64) m s (0,false)).1∧(gq.aget (.i .i64) m s (0,false)).2=(gq.aget (.i .i64) m s (0,false)).2∧(([]:List SV)=[]))∧((if Q7 hk [s] [s] bd=0 then hk else 0)=(if Q7 hk [s] [s] bd=0 then hk else 0)∧True∧(([]:List SV)=[]))∧([s]=[s]∧false=false)∧([s]=[s]∧false=false)∧((Qz hk [s] [s] bd)=(Qz hk [s] [s] bd)∧(Qz hk [s] [s] bd).isEmpty=(Qz hk [s] [s] bd).isEmpty)∧(vals=vals∧(True∧(([]:List SV)=[])))∧True)))∧(([s].length≤1000∧[s].length≤1000)∧((Qz hk [s] [s] bd).isEmpty=true→(Qz hk [s] [s] bd)=[])∧(((hk=hk∧lw=lw∧bd=bd∧True∧(([]:List SV)=[]))∧s=s∧True∧True∧(Q7 hk [s] [s] bd)=(Q7 hk [s] [s] bd)∧True)∧((m=m)∧((0:Int)=(0:Int)∧false=false∧(([]:List SV)=[]))∧((gq.aget (.i .i64) m s (0,false)).1=(gq.aget (.i .i64) m s (0,false)).1∧(gq.aget (.i .i64) m s (0,false)).2=(gq.aget (.i .i64) m s (0,false)).2∧(([]:List SV)=[]))∧((if Q7 hk [s] [s] bd=0 then hk else 0)=(if Q7 hk [s] [s] bd=0 then hk else 0)∧True∧(([]:List SV)=[]))∧([s]=[s]∧false=false)∧([s]=[s]∧false=false)∧((Qz hk [s] [s] bd)=(Qz hk [s] [s] bd)∧(Qz hk [s] [s] bd).isEmpty=(Qz hk [s] [s] bd).isEmpty)∧(vals=vals∧(True∧(([]:List SV)=[])))∧True)))∧(([s].length≤1000∧[s].length≤1000)∧((Qz hk [s] [s] bd).isEmpty=true→(Qz hk [s] [s] bd)=[])∧(((hk=hk∧lw=lw∧bd=bd∧True∧(([]:List SV)=[]))∧s=s∧True∧True∧(Q7 hk [s] [s] bd)=(Q7 hk [s] [s] bd)∧True)∧((m=m)∧((0:Int)=(0:Int)∧false=false∧(([]:List SV)=[]))∧((gq.aget (.i .i64) m s (0,false)).1=(gq.aget (.i .i64) m s (0,false)).1∧(gq.aget (.i .i64) m s (0,false)).2=(gq.aget (.i .i64) m s (0,false)).2∧(([]:List SV)=[]))∧((if Q7 hk [s] [s] bd=0 then hk else 0)=(if Q7 hk [s] [s] bd=0 then hk else 0)∧True∧(([]:List SV)=[]))∧([s]=[s]∧false=false)∧([s]=[s]∧false=false)∧((Qz hk [s] [s] bd)=(Qz hk [s] [s] bd)∧(Qz hk [s] [s] bd).isEmpty=(Qz hk [s] [s] bd).isEmpty)∧(vals=vals∧(True∧(([]:List SV)=[])))∧True)))∧(([s].length≤1000∧[s].length≤1000)∧((Qz hk [s] [s] bd).isEmpty=true→(Qz hk [s] [s] bd)=[])∧(((hk=hk∧lw=lw∧bd=bd∧True∧(([]:List SV)=[]))∧s=s∧True∧True∧(Q7 hk [s] [s] bd)=(Q7 hk [s] [s] bd)∧True)∧((m=m)∧((0:Int)=(0:Int)∧false=false∧(([]:List SV)=[]))∧((gq.aget (.i .i64) m s (0,false)).1=(gq.aget (.i .i64) m s (0,false)).1∧(gq.aget (.i .i64) m s (0,false)).2=(gq.aget (.i .i64) m s (0,false)).2∧(([]:List SV)=[]))∧((if Q7 hk [s] [s] bd=0 then hk else 0)=(if Q7 hk [s] [s] bd=0 then hk else 0)∧True∧(([]:List SV)=[]))∧([s]=[s]∧false=false)∧([s]=[s]∧false=false)∧((Qz hk [s] [s] bd)=(Qz hk [s] [s] bd)∧(Qz hk [s] [s] bd).isEmpty=(Qz hk [s] [s] bd).isEmpty)∧(vals=vals∧(True∧(([]:List SV)=[])))∧True)))∧(([s].length≤1000∧[s].length≤1000)∧((Qz hk [s] [s] bd).isEmpty=true→(Qz hk [s] [s] bd)=[])∧(((hk=hk∧lw=lw∧bd=bd∧True∧(([]:List SV)=[]))∧s=s∧True∧True∧(Q7 hk [s] [s] bd)=(Q7 hk [s] [s] bd)∧True)∧((m=m)∧((0:Int)=(0:Int)∧false=false∧(([]:List SV)=[]))∧((gq.aget (.i .i64) m s (0,false)).1=(gq.aget (.i .i64) m s (0,false)).1∧(gq.aget (.i .i64) m s (0,false)).2=(gq.aget (.i .i64) m s (0,false)).2∧(([]:List SV)=[]))∧((if Q7 hk [s] [s] bd=0 then hk else 0)=(if Q7 hk [s] [s] bd=0 then hk else 0)∧True∧(([]:List SV)=[]))∧([s]=[s]∧false=false)∧([s]=[s]∧false=false)∧((Qz hk [s] [s] bd)=(Qz hk [s] [s] bd)∧(Qz hk [s] [s] bd).isEmpty=(Qz hk [s] [s] bd).isEmpty)∧(vals=vals∧(True∧(([]:List SV)=[])))∧True)))∧(((Q7 hk [s] [s] bd)==(0:Int))=true →
   (0≤(0:Int))∧((0:Int)<(List.length (Qz hk [s] [s] bd)))∧(vals=vals∧(True∧(([]:List SV)=[]))∧((gD (Qz hk [s] [s] bd) (0:Int) 0)=(Yo hk bd s)∧((Q7 hk [s] [s] bd)==(0:Int))=(QD hk bd s)∧(([]:List SV)=[]))∧(FrI hk bd (S5 (.i .i64) m s ((gD (Qz hk [s] [s] bd) (0:Int) 0),((Q7 hk [s] [s] bd)==(0:Int))))))) ∧
  (((Q7 hk [s] [s] bd)==(0:Int))=false →
   (vals=vals∧(True∧(([]:List SV)=[]))∧((0:Int)=(Yo hk bd s)∧((Q7 hk [s] [s] bd)==(0:Int))=(QD hk bd s)∧(([]:List SV)=[]))∧(FrI hk bd (S5 (.i .i64) m s ((0:Int),((Q7 hk [s] [s] bd)==(0:Int))))))))
def cx_tie_frame_row:Cx:=⟨[(3,(.i .i64))],[(29,Yu)],59,[],0,[],[],[],[0,1,4,7,41],false,[],[],[],[]⟩
def KH (m:List (Int×Int×Bool)) (hk:Int) (lw:List Int) (bd:Int) (s:Int) (vals:List Value):List (Nat×LoopAnn):=[]
theorem GO (a_:Nat) (m:List (Int×Int×Bool)) (c:Int×List Int×Int) (a:Int):(∀ vals,gwp {cx_tie_frame_row with xs:=(39,Vy DQ 3 (.i .i64) (.pair (.i .i64) .bo) (C_ XC XI (fun m c a=>Kb m c a∧KN c a<a_) Xx X7))::cx_tie_frame_row.xs} (KH m c.1 c.2.1 c.2.2 a vals) c39 0 (A7 vals [.cell 4 true 2] (Xx m c a) (.i .i64) (.pair (.i .i64) .bo) (X7 m c a)) (mstart 59 3 (.i .i64) (.pair (.i .i64) .bo) m vals (AL.can XC c) (AL.can XI a)))=JE a_ m c.1 c.2.1 c.2.2 a:=by kernel_rfl
abbrev GB:Prop:=Oa Tryz.prog 39 X1 3
theorem GD (h:∀ (a_:Nat) (m:List (Int×Int×Bool)) (hk:Int) (lw:List Int) (bd:Int) (s:Int),((1≤hk∧hk≤24)∧(1≤bd∧bd≤24)∧(1≤lw.length∧lw.length≤110)∧(∀ x∈lw,0≤x∧x<hk)∧(0≤s∧s<2 ^ hk.toNat)∧FrI hk bd m)→(0)=a_→JE a_ m hk lw bd s):Oa Tryz.prog 39 X1 3 :=
 Bk Q3k mixed BG rfl (μ:=KN) (C:=cx_tie_frame_row) ⟨(.cons NX .nil),XsOk.nil,ItsOk.nil,YlOk.nil,IysOk.nil,XfOk.nil⟩ rfl (L:=fun m (c:Int×List Int×Int) (a:Int) vals=>KH m c.1 c.2.1 c.2.2 a vals) (V:=fun a_ m (c:Int×List Int×Int) (a:Int)=>JE a_ m c.1 c.2.1 c.2.2 a) GO fun n m c a hp hn=>h n m c.1 c.2.1 c.2.2 a hp hn
theorem Jo:GB:=GD fun a_ m hk lw bd s h hn=>by
 obtain⟨h1,h2,h3,h4,h5,h6⟩:=h;unfold JE;(try delta lI gD sT I64 Q1 pj8 pj4);intro vals;obtain⟨b1,b2⟩:=Q32 h1 h2 h5;have u9:[s].length≤1000:=by simp
 have u_:(Qz hk [s] [s] bd).isEmpty=true→Qz hk [s] [s] bd=[]:=fun h=>List.isEmpty_iff.1 h;simp only[true_and,and_true];refine⟨fun c=>?_,fun c=>?_⟩
 ·have:=h6 s c;rw[this];exact⟨⟨rfl,rfl⟩,h6⟩
 ·repeat' (with_reducible refine And.intro ?_ ?_)
  all_goals first|exact u9|exact u_|with_reducible rfl|trivial|skip
  ·intro c2;have ho:QD hk bd s=true:=by
    rw[b1] at c2;cases h:QD hk bd s with
    |true=>rfl
    |false=>rw[h] at c2;exact absurd c2 (by decide)
   rw[b1,b2,if_pos ho,if_pos ho];refine⟨by omega,by simp,⟨by simp,ho.symm⟩,FW h6 (by rw[ho];simp)⟩
  ·intro c2;have ho:QD hk bd s=false:=by
    rw[b1] at c2;cases h:QD hk bd s with
    |false=>rfl
    |true=>rw[h] at c2;exact absurd c2 (by decide)
   have hv:Yo hk bd s=0:=by unfold Yo;rw[ho];rfl
   rw[b1,hv,ho];exact⟨⟨rfl,rfl⟩,FW h6 (by rw[hv,ho];rfl)⟩
def Jg:AL (Int×List Int×Int):=(.cons (.k (.i .i64)) (.cons (.k (.list (.i .i64))) (.one (.k (.i .i64)))))
def Jb:AL (Unit):=.nil
def XT (m:List (Int×Int×Bool)) (c:Int×List Int×Int) (a:Unit):Prop:=(1≤c.1∧c.1≤24)∧(1≤c.2.2∧c.2.2≤24)∧(1≤c.2.1.length∧c.2.1.length≤110)∧(∀ x∈c.2.1,0≤x∧x<c.1)∧FrI c.1 c.2.2 m
def Jc (m:List (Int×Int×Bool)) (c:Int×List Int×Int) (a:Unit):SV:=.tup [.val (.i .i64) (lgN c.1 c.2.1 c.2.2),.agg [.val (.i .i64) (lgR c.1 c.2.1 c.2.2),.val .bo (lgO c.1 c.2.1 c.2.2)]]
def ZY (m:List (Int×Int×Bool)) (c:Int×List Int×Int) (a:Unit) (m2:List (Int×Int×Bool)):Prop:=FrI c.1 c.2.2 m2
def Wo (c:Int×List Int×Int) (a:Unit):Nat:=0
def JM:XSp:=Vy DQ 3 (.i .i64) (.pair (.i .i64) .bo) (C_ Jg Jb XT Jc ZY)
def Zp (a_:Nat) (m:List (Int×Int×Bool)) (hk:Int) (lw:List Int) (bd:Int):Prop:=∀ vals:List Value,
 ((1≤hk∧hk≤24)∧(1≤lw.length∧lw.length≤110)∧(∀ x∈lw,0≤x∧x<hk)∧0≤(0:Int)∧(0:Int)≤110∧0≤(lI lw)∧(lI lw)≤110)∧((1≤hk∧hk≤24)∧(1≤bd∧bd≤24)∧(1≤lw.length∧lw.length≤110)∧(∀ x∈lw,0≤x∧x<hk)∧(0≤((QT lw (0:Int).toNat (lI lw).toNat:Nat):Int)∧((QT lw (0:Int).toNat (lI lw).toNat:Nat):Int)<2 ^ hk.toNat)∧FrI hk bd m)∧(∀ m1:List (Int×Int×Bool),(FrI hk bd m1)→((QD hk bd ((QT lw (0:Int).toNat (lI lw).toNat:Nat):Int))=true →
  (vals=vals∧(True∧(([]:List SV)=[]))∧((1000:Int)=(lgN hk lw bd)∧((Yo hk bd ((QT lw (0:Int).toNat (lI lw).toNat:Nat):Int))=(lgR hk lw bd)∧(QD hk bd ((QT lw (0:Int).toNat (lI lw).toNat:Nat):Int))=(lgO hk lw bd)∧(([]:List SV)=[]))∧(([]:List SV)=[]))∧(FrI hk bd m1))) ∧
 ((QD hk bd ((QT lw (0:Int).toNat (lI lw).toNat:Nat):Int))=false →
  ∃ (e3:Unit) (d30:(List (Int×Int×Bool))×Int×Int×Bool×Int),(((hk=hk∧lw=lw∧bd=bd∧True∧(([]:List SV)=[]))∧(0:Int)=d30.2.1∧True∧(lI lw)=(lI lw)∧(lI lw)=(lI lw)∧(0:Int)=(pj4 d30)∧True)∧((m1=d30.1)∧((0:Int)=d30.2.2.1∧false=d30.2.2.2.1∧(([]:List SV)=[]))∧(vals=vals∧(True∧(([]:List SV)=[])))∧True)) ∧
  LoopP (fun (d3:(List (Int×Int×Bool))×Int×Int×Bool×Int) (q3:((List (Int×Int×Bool))×Int×Int×Bool×Int)→Prop) =>
   ((decide ((pj4 d3)<(lI lw)))=true →
    ∃ (e5:Int×Int) (d50:(List (Int×Int×Bool))×Int×Int×Bool),(((hk=hk∧lw=lw∧bd=bd∧True∧(([]:List SV)=[]))∧d3.2.1=d50.2.1∧True∧(lI lw)=(lI lw)∧(pj4 d3)=e5.1∧(lI lw)=(lI lw)∧(pj4 d3)=e5.2∧True)∧((d3.1=d50.1)∧(d3.2.2.1=d50.2.2.1∧d3.2.2.2.1=d50.2.2.2∧(([]:List SV)=[]))∧(vals=vals∧(True∧(([]:List SV)=[])))∧True)) ∧
    LoopP (fun (d5:(List (Int×Int×Bool))×Int×Int×Bool) (q5:((List (Int×Int×Bool))×Int×Int×Bool)→Prop) =>
     (I64 (d5.2.1+(1:Int)))∧((decide ((d5.2.1+(1:Int))<(lI lw)))=true →
      (I64 (d5.2.1+(1:Int)))∧((1≤hk∧hk≤24)∧(1≤lw.length∧lw.length≤110)∧(∀ x∈lw,0≤x∧x<hk)∧0≤e5.1∧e5.1≤110∧0≤(d5.2.1+(1:Int))∧(d5.2.1+(1:Int))≤110)∧((1≤hk∧hk≤24)∧(1≤bd∧bd≤24)∧(1≤lw.length∧lw.length≤110)∧(∀ x∈lw,0≤x∧x<hk)∧(0≤((QT lw e5.1.toNat (d5.2.1+(1:Int)).toNat:Nat):Int)∧((QT lw e5.1.toNat (d5.2.1+(1:Int)).toNat:Nat):Int)<2 ^ hk.toNat)∧FrI hk bd d5.1)∧(∀ m6:List (Int×Int×Bool),(FrI hk bd m6)→((!(QD hk bd ((QT lw e5.1.toNat (d5.2.1+(1:Int)).toNat:Nat):Int)))=true →
       (I64 (e5.2+(1:Int)))∧(∃ d7:(List (Int×Int×Bool))×Int×Int×Bool×Int,(((hk=hk∧lw=lw∧bd=bd∧True∧(([]:List SV)=[]))∧d5.2.1=d7.2.1∧True∧(lI lw)=(lI lw)∧(lI lw)=(lI lw)∧(e5.2+(1:Int))=(pj4 d7)∧True)∧((m6=d7.1)∧(d5.2.2.1=d7.2.2.1∧d5.2.2.2=d7.2.2.2.1∧(([]:List SV)=[]))∧(vals=vals∧(True∧(([]:List SV)=[])))∧True))∧q3 d7)) ∧
      ((!(QD hk bd ((QT lw e5.1.toNat (d5.2.1+(1:Int)).toNat:Nat):Int)))=false →
       (I64 (d5.2.1+(1:Int)))∧(∃ d8:(List (Int×Int×Bool))×Int×Int×Bool,(((hk=hk∧lw=lw∧bd=bd∧True∧(([]:List SV)=[]))∧(d5.2.1+(1:Int))=d8.2.1∧True∧(lI lw)=(lI lw)∧e5.1=e5.1∧(lI lw)=(lI lw)∧e5.2=e5.2∧True)∧((m6=d8.1)∧((Yo hk bd ((QT lw e5.1.toNat (d5.2.1+(1:Int)).toNat:Nat):Int))=d8.2.2.1∧(QD hk bd ((QT lw e5.1.toNat (d5.2.1+(1:Int)).toNat:Nat):Int))=d8.2.2.2∧(([]:List SV)=[]))∧(vals=vals∧(True∧(([]:List SV)=[])))∧True))∧q5 d8)))) ∧
     ((decide ((d5.2.1+(1:Int))<(lI lw)))=false →
      (I64 (e5.2+(1:Int)))∧(∃ d9:(List (Int×Int×Bool))×Int×Int×Bool×Int,(((hk=hk∧lw=lw∧bd=bd∧True∧(([]:List SV)=[]))∧d5.2.1=d9.2.1∧True∧(lI lw)=(lI lw)∧(lI lw)=(lI lw)∧(e5.2+(1:Int))=(pj4 d9)∧True)∧((d5.1=d9.1)∧(d5.2.2.1=d9.2.2.1∧d5.2.2.2=d9.2.2.2.1∧(([]:List SV)=[]))∧(vals=vals∧(True∧(([]:List SV)=[])))∧True))∧q3 d9))) d50) ∧
   ((decide ((pj4 d3)<(lI lw)))=false →
    (vals=vals∧(True∧(([]:List SV)=[]))∧(d3.2.1=(lgN hk lw bd)∧(d3.2.2.1=(lgR hk lw bd)∧d3.2.2.2.1=(lgO hk lw bd)∧(([]:List SV)=[]))∧(([]:List SV)=[]))∧(FrI hk bd d3.1)))) d30))
def cx_tie_frame_longest:Cx:=⟨[],[(65,X0)],47,[],0,[(39,X1)],[],[],[],false,[],[],[],[(39,3)]⟩
def Wj (m:List (Int×Int×Bool)) (hk:Int) (lw:List Int) (bd:Int) (vals:List Value):List (Nat×LoopAnn):=[(0,⟨Unit,(List (Int×Int×Bool))×Int×Int×Bool×Int,[0,2,3,4,23,24],fun e x=>[.cp [.val (.i .i64) hk,.val (.list (.i .i64)) lw,.val (.i .i64) bd,.map 0] 0,.val (.i .i64) x.2.1,.box 3 0,.val (.i .i64) (((List.length lw):Nat):Int),.val (.i .i64) (((List.length lw):Nat):Int),.val (.i .i64) x.2.2.2.2],fun e x=>[(0,.key 0,.map (.i .i64) (.pair (.i .i64) .bo) x.1),(3,.slot 3,.cells [.val (.i .i64) x.2.2.1,.val .bo x.2.2.2.1] (some 93)),(4000000,.key 4000000,.stk [.map 0] vals)]⟩),
 (2,⟨Int×Int,(List (Int×Int×Bool))×Int×Int×Bool,[0,2,3,4,6,23,24],fun e x=>[.cp [.val (.i .i64) hk,.val (.list (.i .i64)) lw,.val (.i .i64) bd,.map 0] 0,.val (.i .i64) x.2.1,.box 3 0,.val (.i .i64) (((List.length lw):Nat):Int),.val (.i .i64) e.1,.val (.i .i64) (((List.length lw):Nat):Int),.val (.i .i64) e.2],fun e x=>[(0,.key 0,.map (.i .i64) (.pair (.i .i64) .bo) x.1),(3,.slot 3,.cells [.val (.i .i64) x.2.2.1,.val .bo x.2.2.2] (some 93)),(4000000,.key 4000000,.stk [.map 0] vals)]⟩)]
theorem Ut (a_:Nat) (m:List (Int×Int×Bool)) (c:Int×List Int×Int) (a:Unit):(∀ vals,gwp {cx_tie_frame_longest with xs:=(40,Vy DQ 3 (.i .i64) (.pair (.i .i64) .bo) (C_ Jg Jb (fun m c a=>XT m c a∧Wo c a<a_) Jc ZY))::cx_tie_frame_longest.xs} (Wj m c.1 c.2.1 c.2.2 vals) c40 0 (A7 vals [.tmp 2,.cell 3 true 2] (Jc m c a) (.i .i64) (.pair (.i .i64) .bo) (ZY m c a)) (mstart 47 3 (.i .i64) (.pair (.i .i64) .bo) m vals (AL.can Jg c) (AL.can Jb a)))=Zp a_ m c.1 c.2.1 c.2.2:=by kernel_rfl
abbrev Un:Prop:=Oa Tryz.prog 40 JM 3
theorem Uh (h:∀ (a_:Nat) (m:List (Int×Int×Bool)) (hk:Int) (lw:List Int) (bd:Int),((1≤hk∧hk≤24)∧(1≤bd∧bd≤24)∧(1≤lw.length∧lw.length≤110)∧(∀ x∈lw,0≤x∧x<hk)∧FrI hk bd m)→(0)=a_→Zp a_ m hk lw bd):Oa Tryz.prog 40 JM 3 :=
 Bk Q1l mixed BG rfl (μ:=Wo) (C:=cx_tie_frame_longest) ⟨(.cons N1 .nil),(XsOk.cons Jo.1 XsOk.nil),ItsOk.nil,YlOk.nil,IysOk.nil,(XfOk.cons rfl Jo.2 XfOk.nil)⟩ rfl (L:=fun m (c:Int×List Int×Int) (a:Unit) vals=>Wj m c.1 c.2.1 c.2.2 vals) (V:=fun a_ m (c:Int×List Int×Int) (a:Unit)=>Zp a_ m c.1 c.2.1 c.2.2) Ut fun n m c a hp hn=>h n m c.1 c.2.1 c.2.2 hp hn
theorem Wd:Un:=Uh fun a_ m hk lw bd h hn=>by
 obtain⟨h1,h2,h3,h4,h6⟩:=h;unfold Zp;(try delta lI gD sT I64 Q1 pj8 pj4);intro vals;obtain⟨H,rfl⟩:=Int.eq_ofNat_of_zero_le (show 0≤hk by omega);have ai:=fun fr n=>PC h3.1 h4 fr n;have gT:(2:Int) ^ H=((2 ^ H:Nat):Int):=by simp
 simp only[true_and,and_true,Int.toNat_natCast,show (0:Int).toNat=0 from rfl,gT];have w0:=ai 0 lw.length;refine⟨⟨h1,h3,h4,by omega,by omega,by omega,by omega⟩,⟨h1,h2,h3,h4,⟨by omega,by omega⟩,h6⟩,fun m1 gL=>⟨fun c=>?_,fun c=>?_⟩⟩
 ·unfold lgN lgR lgO;rw[if_pos c,if_pos c,if_pos c,c];exact⟨⟨rfl,rfl,rfl⟩,gL⟩
 have e1:lgN (H:Int) lw bd=((lgK (H:Int) lw bd lw.length).1:Int):=by unfold lgN;rw[if_neg (by rw[c];decide)]
 have e2:lgR (H:Int) lw bd=(lgK (H:Int) lw bd lw.length).2:=by unfold lgR;rw[if_neg (by rw[c];decide)]
 have e3:lgO (H:Int) lw bd=decide (0<(lgK (H:Int) lw bd lw.length).1):=by unfold lgO;rw[if_neg (by rw[c];decide)]
 rw[e1,e2,e3];have sg:=fun k=>LC (hk:=(H:Int)) (lw:=lw) (bd:=bd) h3.1 k;refine⟨(),(m1,0,0,false,0),by and_intros<;>first|rfl|trivial,?_⟩;refine⟨fun d=>∃ k:Nat,k≤lw.length∧FrI (H:Int) bd d.1∧d.2=(((lgK (H:Int) lw bd k).1:Int),(lgK (H:Int) lw bd k).2,decide (0<(lgK (H:Int) lw bd k).1),(k:Int)),fun d=>lw.length-d.2.2.2.2.toNat,⟨0,by omega,gL,rfl⟩,?_⟩;rintro⟨m2,d⟩ ⟨k,au,eT,hd⟩;dsimp only at eT hd ⊢;subst hd;dsimp only;refine⟨fun g=>?_,fun g=>?_⟩
 ·have g:k<lw.length:=by have:=of_decide_eq_true g;omega
  have kl:=sg k;have kS:lgK (H:Int) lw bd (k+1)=lgI (H:Int) lw bd k (lw.length-(lgK (H:Int) lw bd k).1) (lgK (H:Int) lw bd k).1 (lgK (H:Int) lw bd k).2:=rfl;refine⟨((k:Int),(k:Int)),(m2,((lgK (H:Int) lw bd k).1:Int),(lgK (H:Int) lw bd k).2,decide (0<(lgK (H:Int) lw bd k).1)),by and_intros<;>first|rfl|trivial,?_⟩;dsimp only;simp only[Int.toNat_natCast];refine⟨fun d=>∃ (l:Nat) (b:Int),FrI (H:Int) bd d.1∧l<lw.length∧lgI (H:Int) lw bd k (lw.length-l) l b=lgK (H:Int) lw bd (k+1)∧d.2=((l:Int),b,decide (0<l)),fun d=>lw.length-d.2.1.toNat,⟨_,_,eT,kl,kS.symm,rfl⟩,?_⟩;rintro⟨m3,d⟩ ⟨l,b,qU,hl,hI,hd⟩;dsimp only at qU hd ⊢;subst hd;dsimp only;have el:((l:Int)+1).toNat=l+1:=by omega
  rw[el];obtain⟨q,hq⟩:∃ q,lw.length-l=q+1:=⟨lw.length-l-1,by omega⟩;have ou:=hI;rw[hq,lgI] at ou;have stop:¬ (l+1<lw.length∧QD (H:Int) bd (QT lw k (l+1):Nat)=true)→lgK (H:Int) lw bd (k+1)=(l,b):=fun h=>by rw[if_neg h] at ou;exact ou.symm
  refine⟨by rw[Q9];omega,fun g2=>?_,fun g2=>?_⟩
  ·have g2:l+1<lw.length:=by have:=of_decide_eq_true g2;omega
   have w1:=ai k (l+1);refine⟨by rw[Q9];omega,⟨h1,h3,h4,by omega,by omega,by omega,by omega⟩,⟨h1,h2,h3,h4,⟨by omega,by omega⟩,qU⟩,fun m6 si=>⟨fun c3=>?_,fun c3=>?_⟩⟩
   ·have c3:QD (H:Int) bd (QT lw k (l+1):Nat)=false:=by simpa using c3
    have e:=stop fun h=>by rw[c3] at h;cases h.2
    refine⟨by rw[Q9];omega,(m6,(l:Int),b,decide (0<l),(k:Int)+1),?_,⟨k+1,g,si,by dsimp only;rw[e];rfl⟩,by dsimp only;omega⟩;and_intros<;>first|rfl|trivial
   ·have c3:QD (H:Int) bd (QT lw k (l+1):Nat)=true:=by simpa using c3
    rw[if_pos ⟨g2,c3⟩] at ou;refine⟨by rw[Q9];omega,(m6,(l:Int)+1,Yo (H:Int) bd (QT lw k (l+1):Nat),QD (H:Int) bd (QT lw k (l+1):Nat)),?_,⟨l+1,_,si,g2,by rw[show lw.length-(l+1)=q by omega];exact ou,?_⟩,by dsimp only;omega⟩
    ·and_intros<;>first|rfl|trivial
    ·dsimp only;rw[c3,decide_eq_true (by omega)];rfl
  ·have g2:¬ l+1<lw.length:=by have:=of_decide_eq_false g2;omega
   have e:=stop fun h=>g2 h.1;refine⟨by rw[Q9];omega,(m3,(l:Int),b,decide (0<l),(k:Int)+1),?_,⟨k+1,g,qU,by dsimp only;rw[e];rfl⟩,by dsimp only;omega⟩;and_intros<;>first|rfl|trivial
 ·have g:k=lw.length:=by have:=of_decide_eq_false g;omega
  rw[g];exact⟨⟨rfl,rfl,rfl⟩,eT⟩
def Gr:AL ((Int×List Int)×Int):=(.cons (.agg (.cons (.k (.i .i64)) (.one (.k (.list (.i .i64)))))) (.one (.k (.i .i64))))
def PF (d:(Int×List Int)×Int):Prop:=d.1.2.length≤1000000
def NB (d:(Int×List Int)×Int):SV:=.tup [.val (.i .i64) (WO d.1.1 d.1.2 d.2),.val (.i .i64) (Xj d.1.1 d.1.2 d.2),.val (.i .i64) (QF d.1.1 d.1.2 d.2)]
def NG (d:(Int×List Int)×Int):List OB:=[]
def Nn:CSp:=V0 Gr PF NB NG
def YD (hk:Int) (lw:List Int) (bd:Int):Prop :=
 (lw.length≤1000000)∧(((QK hk lw) != (0:Int))=true →
  (((0:Int)=(WO hk lw bd)∧(0:Int)=(Xj hk lw bd)∧(QK hk lw)=(QF hk lw bd)∧(([]:List SV)=[]))∧(True))) ∧
 (((QK hk lw) != (0:Int))=false →
  ([bd].length≤1000000)∧((!(!([bd].any fun n=>decide (n<(1:Int))||decide ((24:Int)<n))))=true →
   (((0:Int)=(WO hk lw bd)∧(0:Int)=(Xj hk lw bd)∧(3:Int)=(QF hk lw bd)∧(([]:List SV)=[]))∧(True))) ∧
  ((!(!([bd].any fun n=>decide (n<(1:Int))||decide ((24:Int)<n))))=false →
   ((1≤hk∧hk≤24)∧(1≤bd∧bd≤24)∧(1≤lw.length∧lw.length≤110)∧(∀ x∈lw,0≤x∧x<hk)∧(0≤(0:Int)∧(0:Int)<2 ^ hk.toNat)∧FrI hk bd ([]:List (Int×Int×Bool)))∧(∀ m1:List (Int×Int×Bool),(FrI hk bd m1)→((!(QD hk bd (0:Int)))=true →
    (((0:Int)=(WO hk lw bd)∧(0:Int)=(Xj hk lw bd)∧(9:Int)=(QF hk lw bd)∧(([]:List SV)=[]))∧(True))) ∧
   ((!(QD hk bd (0:Int)))=false →
    ((1≤hk∧hk≤24)∧(1≤bd∧bd≤24)∧(1≤lw.length∧lw.length≤110)∧(∀ x∈lw,0≤x∧x<hk)∧FrI hk bd m1)∧(∀ m2:List (Int×Int×Bool),(FrI hk bd m2)→(((lgN hk lw bd)=(WO hk lw bd)∧(lgR hk lw bd)=(Xj hk lw bd)∧(0:Int)=(QF hk lw bd)∧(([]:List SV)=[]))∧(True)))))))
def Gw:Cx:=⟨[(3,(.i .i64)),(1000025,(.pair (.i .i64) (.pair (.i .i64) .bo)))],[(37,Kp),(38,W8)],40,[],0,[(39,X1),(40,JM)],[],[],[],false,[],[],[],[(39,3),(40,3)]⟩
def TS (hk:Int) (lw:List Int) (bd:Int):List (Nat×LoopAnn):=[]
theorem RN (d:(Int×List Int)×Int):gwp (Gw) (TS d.1.1 d.1.2 d.2) c11 0 (U0 [.tmp 4,.tmp 5,.tmp 6] (NB d) (NG d)) (QS 40 (AL.can Gr d))=YD d.1.1 d.1.2 d.2:=by kernel_rfl
abbrev Rx:Prop:=OkC Tryz.prog 11 Nn
theorem Rt (h:∀ (hk:Int) (lw:List Int) (bd:Int),(lw.length≤1000000)→YD hk lw bd):OkC Tryz.prog 11 Nn :=
 Z8 Q25 mixed (C:=Gw) (V:=fun (d:(Int×List Int)×Int)=>YD d.1.1 d.1.2 d.2) ⟨(.cons Gh (.cons Kz .nil)),(XsOk.cons Jo.1 (XsOk.cons Wd.1 XsOk.nil)),ItsOk.nil,YlOk.nil,IysOk.nil,(XfOk.cons rfl Jo.2 (XfOk.cons rfl Wd.2 XfOk.nil))⟩ (RN) fun d hp=>h d.1.1 d.1.2 d.2 hp
theorem TO:Rx:=Rt fun hk lw bd h=>by
 unfold YD;(try delta lI gD sT I64 Q1 pj8 pj4);have e:∀ n a b:Int,(decide (n<a)||decide (b<n))=!inI n a b:=fun n a b=>(Q97 n a b).symm;simp only[List.any_cons,List.any_nil,Bool.or_false,e,Bool.not_not,List.length_cons,List.length_nil,true_and,and_true];have fail:∀ E:Int,QF hk lw bd=E→E≠0→(0:Int)=WO hk lw bd∧(0:Int)=Xj hk lw bd∧E=QF hk lw bd:=fun E h h0=>⟨by unfold WO;rw[if_neg (by omega)],by unfold Xj;rw[if_neg (by omega)],h.symm⟩;refine⟨h,fun c=>?_,fun c=>⟨by omega,fun c2=>?_,fun c2=>?_⟩⟩
 ·have c:QK hk lw≠0:=by simpa using c
  exact fail _ (by unfold QF;rw[if_pos c]) c
 all_goals have c:QK hk lw=0:=by simpa using c
 ·have c2:inI bd 1 24=false:=by simpa using c2
  exact fail 3 (by unfold QF;rw[if_neg (by omega),if_pos c2]) (by decide)
 have c2:inI bd 1 24=true:=by simpa using c2
 have lr:1≤bd∧bd≤24:=by unfold inI at c2;simpa using c2
 obtain⟨t1,t2,t3⟩:=Q3t c;have hp:=X8 t1.1 t1.2;have eW:QF hk lw bd=if QD hk bd 0=true then 0 else 9:=by unfold QF;rw[if_neg (by omega),if_neg (by rw[c2];decide)]
 refine⟨⟨t1,lr,by omega,t3,⟨by omega,by omega⟩,Q1n hk bd⟩,fun m1 gL=>⟨fun c3=>?_,fun c3=>⟨⟨t1,lr,by omega,t3,gL⟩,fun m2 _=>?_⟩⟩⟩
 ·have c3:QD hk bd 0=false:=by simpa using c3
  exact fail 9 (by rw[eW,c3];rfl) (by decide)
 ·have c3:QD hk bd 0=true:=by simpa using c3
  have e0:QF hk lw bd=0:=by rw[eW,if_pos c3]
  refine⟨by unfold WO;rw[if_pos e0],by unfold Xj;rw[if_pos e0],e0.symm⟩
theorem M6 {hk r:Int}{lw:List Int}(h:QK hk lw=0) (hr:0≤r∧r<2 ^ hk.toNat):Qh hk lw hk [r]=0∧Qa hk lw hk [r]=[Zk lw r]:=by
 obtain⟨t1,t2,t3⟩:=Q3t h;have pe:Qb hk [r]=0:=by unfold Qb inI;have e1:decide (0≤r)=true:=decide_eq_true hr.1;have e2:decide (r≤2 ^ hk.toNat-1)=true:=decide_eq_true (by omega);simp[e1,e2,t1]
 have e:Qh hk lw hk [r]=0:=by unfold Qh;rw[if_neg (by omega),if_neg (by omega),if_neg (by simp)]
 refine⟨e,?_⟩;unfold Qa;rw[if_pos e];rfl
def UW (p:List Bool) (w l:Nat):Prop:=∀ j,j<l→Zh p (w+j)=Zh p w
def Lw (p:List Bool):Prop:=∀ j,j<p.length→Zh p j=Zh p 0
theorem IP (p:List Bool) (w:Nat):Zh p (w+p.length)=Zh p w:=by unfold Zh;rw[Nat.add_mod_right]
theorem Eh {p:List Bool}{w l:Nat}(h:UW p w l) (hl:p.length≤l) (h0:p≠[]):Lw p:=by
 have hn:0<p.length:=List.length_pos_iff.2 h0;have key:∀ i,Zh p i=Zh p w:=fun i=>by
  have hm:=Nat.mod_lt w hn;have hi:=Nat.mod_lt i hn;by_cases c:w % p.length≤i % p.length
  ·have:=h (i % p.length-w % p.length) (by omega);rw[←this];unfold Zh;congr 1;rw[←Nat.mod_add_mod,show w % p.length+(i % p.length-w % p.length)=i % p.length by omega,Nat.mod_mod]
  ·have:=h (i % p.length+p.length-w % p.length) (by omega);rw[←this];unfold Zh;congr 1;rw[←Nat.mod_add_mod,show w % p.length+(i % p.length+p.length-w % p.length)=i % p.length+p.length by omega,Nat.add_mod_right,Nat.mod_mod]
 exact fun j _=>by rw[key j,key 0]
theorem RP {p:List Bool}(h0:p≠[]) {w:Nat}(hb:bgB p w=true):∃ k,1≤k∧k<p.length∧J6 p w=k∧UW p w k∧Zh p (w+k)≠Zh p w:=by
 have hn:0<p.length:=List.length_pos_iff.2 h0;have hd:Zh p (w+(p.length-1))≠Zh p w:=by
  have:Zh p w≠Zh p (w+p.length-1):=by simpa [bgB] using hb
  rw[show w+(p.length-1)=w+p.length-1 by omega];exact fun h=>this h.symm
 have ex:∀ m,m≤p.length-1→(∃ k,1≤k∧k≤m∧UW p w k∧Zh p (w+k)≠Zh p w)∨UW p w (m+1):=fun m=>by
  induction m with
  |zero=>exact fun _=>.inr fun j hj=>by rw[show j=0 by omega];rfl
  |succ m ih =>
   intro hm;rcases ih (by omega) with⟨k,a,b,c⟩|h
   ·exact .inl ⟨k,a,by omega,c⟩
   ·by_cases e:Zh p (w+(m+1))=Zh p w
    ·refine .inr fun j hj=>?_;by_cases e2:j=m+1
     ·rw[e2];exact e
     ·exact h j (by omega)
    ·exact .inl ⟨m+1,by omega,Nat.le_refl _,h,e⟩
 rcases ex (p.length-1) (Nat.le_refl _) with⟨k,a,b,c,d⟩|h
 ·exact⟨k,a,by omega,PQ hb a (by omega) d (fun j _ hj=>c j hj),c,d⟩
 ·exact(hd (h (p.length-1) (by omega))).elim
theorem LV {p:List Bool}(h0:p≠[]) (hu:¬ Lw p):∀ (f:Nat) (w l:Nat),p.length≤l+f→1≤l→UW p w l→∃ w',w'<p.length∧bgB p w'=true∧l≤J6 p w'
 |0,w,l,hf,hl,h=>(hu (Eh h (by omega) h0)).elim
 |f+1,w,l,hf,hl,h=>by
  have hn:0<p.length:=List.length_pos_iff.2 h0;cases hb:bgB p w with
  |true =>
   have cg:bgB p (w % p.length)=true:=by rw[Np h0];exact hb
   obtain⟨k,k1,k2,k3,k4,k5⟩:=RP h0 cg;refine⟨w % p.length,Nat.mod_lt _ hn,cg,?_⟩;rw[k3];apply Classical.byContradiction;intro c;have:=h k (by omega);rw[Lz,XM] at k5;exact k5 this
  |false =>
   have e:Zh p w=Zh p (w+p.length-1):=by simpa [bgB] using hb
   have hw:UW p (w+p.length-1) (l+1):=fun j hj=>by
    cases j with
    |zero=>rfl
    |succ j =>rw[show w+p.length-1+(j+1)=w+j+p.length by omega,IP,h j (by omega),e]
   obtain⟨w',a,b,c⟩:=LV h0 hu f (w+p.length-1) (l+1) (by omega) (by omega) hw;exact⟨w',a,b,by omega⟩
theorem PN {p:List Bool}(h0:p≠[]) (hu:¬ Lw p) {w l:Nat}(hl:1≤l) (h:UW p w l):∃ w',w'<p.length∧l≤J6 p w':=by obtain⟨w',a,_,c⟩:=LV h0 hu p.length w l (by omega) hl h;exact⟨w',a,c⟩
theorem V6 {p:List Bool}(h0:p≠[]) (hu:¬ Lw p) (w:Nat):J6 p w<p.length∧UW p w (J6 p w):=by
 have hn:0<p.length:=List.length_pos_iff.2 h0;cases hb:bgB p w with
 |true =>obtain⟨k,k1,k2,k3,k4,k5⟩:=RP h0 hb;rw[k3];exact⟨k2,k4⟩
 |false =>
  have:J6 p w=0:=by refine U5 hb (.inr ?_);apply Classical.byContradiction;intro h;exact hu fun j hj=>Classical.byContradiction fun h2=>h ⟨j,hj,h2⟩
  rw[this];exact⟨hn,fun j hj=>by omega⟩
theorem XH {p:List Bool}(h0:p≠[]) (hu:Lw p):J6 p 0=1000∧∀ w,w<p.length→J6 p w=1000∨J6 p w=0:=by
 refine⟨DA hu h0,fun w hw=>?_⟩;have hn:0<p.length:=List.length_pos_iff.2 h0;by_cases e:w=0
 ·subst e;exact .inl (DA hu h0)
 ·right;have key:∀ i,Zh p i=Zh p 0:=fun i=>by rw[←XM,hu _ (Nat.mod_lt _ hn)]
  exact U5 (by unfold bgB;rw[key,key (w+p.length-1)];simp) (.inl e)
theorem En {p:List Bool}(h0:p≠[]) {B:Nat}(hB:B<1000):okW p.length B (fun i=>p.getD i false)↔∀ k,k<p.length→J6 p k≤B:=by
 have hn:0<p.length:=List.length_pos_iff.2 h0;have ew:∀ i,p.getD (i % p.length) false=Zh p i:=fun i=>rfl;constructor
 ·intro h k hk;have hu:¬ Lw p:=fun hu=>by
   obtain⟨j,j1,j2,j3⟩:=h 0 hn;dsimp only at j3;rw[Nat.zero_add] at j3;have:=hu (j % p.length) (Nat.mod_lt _ hn);rw[XM,←ew] at this;rw[this] at j3;exact j3 (by rw[Zh,Nat.zero_mod])
  obtain⟨a,b⟩:=V6 h0 hu k;apply Classical.byContradiction;intro c;obtain⟨j,j1,j2,j3⟩:=h k hk;have:=b j (by omega);dsimp only at j3;rw[ew] at j3;exact j3 (by rw[this,Fj hk])
 ·intro h k hk;apply Classical.byContradiction;intro c;have hw:UW p k (B+1):=fun j hj=>by
   by_cases e:j=0
   ·rw[e];rfl
   ·apply Classical.byContradiction;intro d;refine c ⟨j,by omega,by omega,?_⟩;dsimp only;rw[ew];intro h2;exact d (by rw[h2,Fj hk])
  by_cases hu:Lw p
  ·have:=h 0 hn;rw[(XH h0 hu).1] at this;omega
  ·obtain⟨w',a,b⟩:=PN h0 hu (by omega) hw;have:=h w' a;omega
theorem Bm {H B:Nat}{f g:Nat→Bool}(lM:∀ i,i<H→f i=g i) (h:okW H B f):okW H B g:=fun k hk=>by obtain⟨j,a,b,c⟩:=h k hk;exact⟨j,a,b,by rw[←lM k hk,←lM _ (Nat.mod_lt _ (by omega))];exact c⟩
theorem Q1z {H B:Nat}{f:Nat→Bool}(h:okW H B f):okW H B (fun i=>!f i):=fun k hk=>by obtain⟨j,a,b,c⟩:=h k hk;exact⟨j,a,b,fun h2=>c (by simpa using h2)⟩
def Q4m (H r:Nat):Nat:=(2 ^ H-1) ^^^ r
theorem C7 {H r j:Nat}(hj:j<H):(Q4m H r).testBit j=!r.testBit j:=by unfold Q4m;rw[Nat.testBit_xor,Nat.testBit_two_pow_sub_one,decide_eq_true hj];cases r.testBit j<;>rfl
theorem Q2t {H r:Nat}(h:r<2 ^ H):Q4m H r<2 ^ H:=Nat.xor_lt_two_pow (by have:=Nat.two_pow_pos H;omega) h
def clo (lw:List Int) (r:Nat):List Bool:=lw.map fun k=>r.testBit k.toNat
theorem Yd (lw:List Int) (r:Nat):(clo lw r).length=lw.length:=by simp[clo]
theorem La {lw:List Int}{r w:Nat}(h:lw≠[]):Zh (clo lw r) w=r.testBit (lw.getD (w % lw.length) 0).toNat:=by have hn:0<lw.length:=List.length_pos_iff.2 h;have hm:=Nat.mod_lt w hn;unfold Zh;rw[Yd,Qi (by rw[Yd];exact hm),Qi hm];simp[clo]
theorem G_ (lw:List Int) (r:Nat):YI (Zk lw (r:Int))=clo lw r:=by
 unfold YI Zk clo;rw[List.map_map];refine List.map_congr_left fun k _=>?_;simp only[Function.comp_apply,Int.toNat_natCast];by_cases h:r.testBit k.toNat=true
 ·rw[if_pos h,h];rfl
 ·rw[if_neg h,Bool.eq_false_iff.2 h];rfl
theorem PM (lw:List Int) (fr j:Nat):∀ n,(QT lw fr n).testBit j=true↔∃ i,i<n∧(lw.getD ((fr+i) % lw.length) 0).toNat=j
 |0=>by simp[QT]
 |n+1=>by
  unfold QT;rw[Nat.testBit_or,Bool.or_eq_true,PM lw fr j n,Nat.testBit_two_pow,decide_eq_true_eq];constructor
  ·rintro (⟨i,a,b⟩|h)
   ·exact⟨i,by omega,b⟩
   ·exact⟨n,by omega,h⟩
  ·rintro⟨i,a,b⟩;by_cases e:i=n
   ·subst e;exact .inr b
   ·exact .inl ⟨i,by omega,b⟩
section
variable {H B:Nat}{lw:List Int}
def bdR (H B r:Nat):Prop:=r<2 ^ H∧okW H B r.testBit
theorem Q2y {r:Nat}(h:bdR H B r):bdR H B (Q4m H r):=⟨Q2t h.1,Bm (fun i hi=>(C7 hi).symm) (Q1z h.2)⟩
theorem M0 (hH:1≤H∧H≤24) (hB:1≤B) (s:Nat):QD (H:Int) (B:Int) (s:Int)=true↔∃ r,bdR H B r∧∀ j,j<H→s.testBit j=true→r.testBit j=true:=by
 unfold QD;simp only[Int.toNat_natCast,decide_eq_true_eq];constructor
 ·intro h;obtain⟨a,b,c,_⟩:=Pv hH hB h;exact⟨_,⟨a,b⟩,fun j hj hs=>by rw[c j hj hs,hs]⟩
 ·rintro⟨r,⟨_,b⟩,c⟩;exact bind_none hH hB b fun j hj hs=>by rw[c j hj hs,hs]
theorem LP (hH:1≤H∧H≤24) (hB:1≤B) (s:Nat) (h:QD (H:Int) (B:Int) (s:Int)=true):∃ r:Nat,Yo (H:Int) (B:Int) (s:Int)=(r:Int)∧bdR H B r∧∀ j,j<H→s.testBit j=true→r.testBit j=true:=by
 have e:Yo (H:Int) (B:Int) (s:Int)=((K_ s s B H:Nat):Int):=by unfold Yo;rw[if_pos h];simp only[Int.toNat_natCast]
 unfold QD at h;simp only[Int.toNat_natCast,decide_eq_true_eq] at h;obtain⟨a,b,c,_⟩:=Pv hH hB h;exact⟨_,e,⟨a,b⟩,fun j hj hs=>by rw[c j hj hs,hs]⟩
theorem Pm (hl:lw≠[]) (h3:∀ x∈lw,0≤x∧x<(H:Int)) (r fr l:Nat):(∀ j,j<H→(QT lw fr l).testBit j=true→r.testBit j=true)↔∀ i,i<l→Zh (clo lw r) (fr+i)=true:=by
 have hn:0<lw.length:=List.length_pos_iff.2 hl;have hx:∀ i,(lw.getD ((fr+i) % lw.length) 0).toNat<H:=fun i=>by have hm:=Nat.mod_lt (fr+i) hn;have:=h3 (lw.getD ((fr+i) % lw.length) 0) (by rw[Qi hm];exact List.getElem_mem hm);omega
 constructor
 ·intro h i hi;rw[La hl];exact h _ (hx i) ((PM lw fr _ l).2 ⟨i,hi,rfl⟩)
 ·intro h j _ hs;obtain⟨i,hi,rfl⟩:=(PM lw fr j l).1 hs;have:=h i hi
  rwa [La hl] at this
theorem Q08 (hH:1≤H∧H≤24) (hB:1≤B) (hl:lw≠[]) (h3:∀ x∈lw,0≤x∧x<(H:Int)) (fr l:Nat):QD (H:Int) (B:Int) (QT lw fr l:Nat)=true↔∃ r,bdR H B r∧∀ i,i<l→Zh (clo lw r) (fr+i)=true:=by
 rw[M0 hH hB];constructor
 ·rintro⟨r,a,b⟩;exact⟨r,a,(Pm hl h3 r fr l).1 b⟩
 ·rintro⟨r,a,b⟩;exact⟨r,a,(Pm hl h3 r fr l).2 b⟩
theorem Bq (hH:1≤H∧H≤24) (hB:1≤B) (hl:lw≠[]) (h3:∀ x∈lw,0≤x∧x<(H:Int)) {r fr l:Nat}(hr:bdR H B r) (hw:UW (clo lw r) fr l):QD (H:Int) (B:Int) (QT lw fr l:Nat)=true:=by
 rw[Q08 hH hB hl h3];cases hv:Zh (clo lw r) fr with
 |true=>exact⟨r,hr,fun i hi=>by rw[hw i hi,hv]⟩
 |false =>refine⟨Q4m H r,Q2y hr,fun i hi=>?_⟩;have hn:0<lw.length:=List.length_pos_iff.2 hl;have hm:=Nat.mod_lt (fr+i) hn;have hx:=h3 (lw.getD ((fr+i) % lw.length) 0) (by rw[Qi hm];exact List.getElem_mem hm);have:=hw i hi;rw[hv,La hl] at this;rw[La hl,C7 (by omega),this];rfl
theorem O5 (hH:1≤H∧H≤24) (hB:1≤B) (hl:lw≠[]) (h3:∀ x∈lw,0≤x∧x<(H:Int)) {fr l l':Nat}(h:l'≤l) (ho:QD (H:Int) (B:Int) (QT lw fr l:Nat)=true):QD (H:Int) (B:Int) (QT lw fr l':Nat)=true:=by rw[Q08 hH hB hl h3] at ho ⊢;obtain⟨r,a,b⟩:=ho;exact⟨r,a,fun i hi=>b i (by omega)⟩
theorem LN (hH:1≤H∧H≤24) (hB:1≤B) (hl:lw≠[]) (h3:∀ x∈lw,0≤x∧x<(H:Int)) (fr:Nat):∀ m l b,lw.length≤l+m→(lgI (H:Int) lw (B:Int) fr m l b=(l,b)∨QD (H:Int) (B:Int) (QT lw fr (lgI (H:Int) lw (B:Int) fr m l b).1:Nat)=true∧(lgI (H:Int) lw (B:Int) fr m l b).2=Yo (H:Int) (B:Int) (QT lw fr (lgI (H:Int) lw (B:Int) fr m l b).1:Nat)) ∧
  ∀ l',(lgI (H:Int) lw (B:Int) fr m l b).1<l'→l'<lw.length→QD (H:Int) (B:Int) (QT lw fr l':Nat)=false
 |0,l,b,hm=>⟨.inl rfl,fun l' h1 h2=>by unfold lgI at h1;dsimp only at h1;omega⟩
 |m+1,l,b,hm=>by
  unfold lgI;by_cases c:l+1<lw.length∧QD (H:Int) (B:Int) (QT lw fr (l+1):Nat)=true
  ·rw[if_pos c];obtain⟨a1,a2⟩:=LN hH hB hl h3 fr m (l+1) (Yo (H:Int) (B:Int) (QT lw fr (l+1):Nat)) (by omega);refine⟨.inr ?_,a2⟩;rcases a1 with a1|a1
   ·rw[a1];exact⟨c.2,rfl⟩
   ·exact a1
  ·rw[if_neg c];refine⟨.inl rfl,fun l' h1 h2=>?_⟩;dsimp only at h1;cases ho:QD (H:Int) (B:Int) (QT lw fr l':Nat) with
   |false=>rfl
   |true=>exact(c ⟨by omega,O5 hH hB hl h3 (by omega) ho⟩).elim
theorem Lo (hH:1≤H∧H≤24) (hB:1≤B) (hl:lw≠[]) (h3:∀ x∈lw,0≤x∧x<(H:Int)):∀ k,((lgK (H:Int) lw (B:Int) k)=(0,0)∨∃ fr,QD (H:Int) (B:Int) (QT lw fr (lgK (H:Int) lw (B:Int) k).1:Nat)=true∧(lgK (H:Int) lw (B:Int) k).2=Yo (H:Int) (B:Int) (QT lw fr (lgK (H:Int) lw (B:Int) k).1:Nat)) ∧
  ∀ fr l',fr<k→(lgK (H:Int) lw (B:Int) k).1<l'→l'<lw.length→QD (H:Int) (B:Int) (QT lw fr l':Nat)=false
 |0=>⟨.inl rfl,fun fr l' h=>by omega⟩
 |k+1=>by
  obtain⟨a1,a2⟩:=Lo hH hB hl h3 k;have lt:=LC (hk:=(H:Int)) (bd:=(B:Int)) (List.length_pos_iff.2 hl) k;obtain⟨b1,b2⟩:=LN hH hB hl h3 k (lw.length-(lgK (H:Int) lw (B:Int) k).1) (lgK (H:Int) lw (B:Int) k).1 (lgK (H:Int) lw (B:Int) k).2 (by omega);have hle:=(Em (H:Int) lw (B:Int) k (lw.length-(lgK (H:Int) lw (B:Int) k).1) (lgK (H:Int) lw (B:Int) k).1 (lgK (H:Int) lw (B:Int) k).2).1;rw[lgK];refine⟨?_,fun fr l' h1 h2 h4=>?_⟩
  ·rcases b1 with b1|b1
   ·rw[b1];exact a1
   ·exact .inr ⟨k,b1⟩
  ·by_cases e:fr=k
   ·subst e;exact b2 l' h2 h4
   ·exact a2 fr l' (by omega) (by omega) h4
end
theorem Dd {α:Type}(g:α→Int):∀ (l:List α) (a:Int),a≤l.foldl (fun a x=>MZ a (g x)) a∧(∀ x∈l,g x≤l.foldl (fun a x=>MZ a (g x)) a)∧(∀ M,a≤M→(∀ x∈l,g x≤M)→l.foldl (fun a x=>MZ a (g x)) a≤M)
 |[],a=>⟨Int.le_refl _,(fun x hx=>by cases hx),fun M h _=>h⟩
 |x::l,a=>by
  have hg:MZ a (g x)=max a (g x):=by unfold MZ;split<;>omega
  obtain⟨h1,h2,h3⟩:=Dd g l (MZ a (g x));simp only[List.foldl_cons];refine⟨by omega,fun y hy=>?_,fun M ha hM=>h3 M ?_ fun y hy=>hM y (List.mem_cons_of_mem _ hy)⟩
  ·rcases List.mem_cons.1 hy with e|e
   ·rw[e];omega
   ·exact h2 y e
  ·have:=hM x (List.mem_cons_self ..);omega
theorem VE (s:List UInt8) (M:Int):(∀ k,k<s.length→((J6 (YI s) k:Nat):Int)≤lgX [s])∧(0≤M→(∀ k,k<s.length→((J6 (YI s) k:Nat):Int)≤M)→lgX [s]≤M):=by
 have hF:Sn 0 [s]=ZU 0 0 (YI s) s.length:=by unfold Sn JZ;simp
 unfold lgX;rw[hF];obtain⟨h1,h2,h3⟩:=Dd (fun x:Int×Int×Int×Bool=>x.2.2.1) (ZU 0 0 (YI s) s.length) 0;refine⟨fun k hk=>?_,fun h0 hM=>h3 M h0 fun x hx=>?_⟩
 ·by_cases c:0<J6 (YI s) k
  ·refine h2 (0,(k:Int),(J6 (YI s) k:Int),(YI s).getD k false) ?_;unfold ZU;rw[List.mem_filterMap];refine⟨k,List.mem_range.2 hk,?_⟩;unfold FA;rw[if_pos ⟨c,by omega⟩]
  ·have:J6 (YI s) k=0:=by omega
   rw[this];exact h1
 ·unfold ZU at hx;rw[List.mem_filterMap] at hx;obtain⟨k,hk,he⟩:=hx;unfold FA at he;split at he
  ·cases he;exact hM k (List.mem_range.1 hk)
  ·cases he
theorem Tc {H B r:Nat}(hH:1≤H) (hB:B<1000):AX (r:Int) (H:Int) (B:Int)=true↔okW H B r.testBit:=by
 have hl:=Pt (r:Int) H;have h0:MY (r:Int) H≠[]:=fun h=>by rw[h] at hl;simp at hl;omega
 have hb:=En h0 hB;rw[hl] at hb;have e:okW H B r.testBit↔okW H B (fun i=>(MY (r:Int) H).getD i false):=by
  have lM:∀ i,i<H→r.testBit i=(MY (r:Int) H).getD i false:=fun i hi=>by rw[EO hi,Int.toNat_natCast]
  exact⟨Bm lM,Bm fun i hi=>(lM i hi).symm⟩
 rw[e,hb];unfold AX;rw[Int.toNat_natCast,List.all_eq_true];constructor
 ·intro h k hk;have:=h k (List.mem_range.2 hk);rw[decide_eq_true_eq] at this;omega
 ·intro h k hk;rw[decide_eq_true_eq];have:=h k (List.mem_range.1 hk);omega
theorem Tb {g:Nat→Int}{P:Nat→Bool}:∀ (n:Nat) (M:Int),0≤M→(∀ r,r<n→P r=true→g r≤M)→(List.range n).foldl (fun a r=>if P r=true then MZ a (g r) else a) 0≤M∧0≤(List.range n).foldl (fun a r=>if P r=true then MZ a (g r) else a) 0∧∀ r,r<n→P r=true→g r≤(List.range n).foldl (fun a r=>if P r=true then MZ a (g r) else a) 0
 |0,M,h,_=>⟨h,Int.le_refl _,fun r hr=>by omega⟩
 |n+1,M,h,hM=>by
  obtain⟨h1,h2,h3⟩:=Tb (g:=g) (P:=P) n M h fun r hr=>hM r (by omega);rw[List.range_succ,List.foldl_append];simp only[List.foldl_cons,List.foldl_nil];generalize (List.range n).foldl (fun a r=>if P r=true then MZ a (g r) else a) 0=F at *
  have hg:MZ F (g n)=max F (g n):=by unfold MZ;split<;>omega
  by_cases c:P n=true
  ·rw[if_pos c];have:=hM n (by omega) c;refine⟨by omega,by omega,fun r hr hp=>?_⟩;by_cases e:r=n
   ·subst e;omega
   ·have:=h3 r (by omega) hp;omega
  ·rw[if_neg c];refine⟨h1,h2,fun r hr hp=>?_⟩;by_cases e:r=n
   ·subst e;exact(c hp).elim
   ·exact h3 r (by omega) hp
theorem Df {hk bd:Int}{lw:List Int}(ht:QK hk lw=0) (hb:1≤bd∧bd≤24):(QF hk lw bd=9∧Q2b hk lw bd=0)∨(QF hk lw bd=0∧1≤WO hk lw bd∧WO hk lw bd=Q2b hk lw bd∧(0≤Xj hk lw bd∧Xj hk lw bd<2 ^ hk.toNat)∧AX (Xj hk lw bd) hk bd=true∧lgX [Zk lw (Xj hk lw bd)]=WO hk lw bd):=by
 obtain⟨t1,t2,t3⟩:=Q3t ht;obtain⟨H,rfl⟩:=Int.eq_ofNat_of_zero_le (show 0≤hk by omega);obtain⟨B,rfl⟩:=Int.eq_ofNat_of_zero_le (show 0≤bd by omega);have hH:1≤H∧H≤24:=by omega
 have hB:1≤B:=by omega
 have hl:lw≠[]:=List.length_pos_iff.1 (by omega);have hi:inI (B:Int) 1 24=true:=by unfold inI;rw[decide_eq_true hb.1,decide_eq_true hb.2];rfl
 have eE:QF (H:Int) lw (B:Int)=if QD (H:Int) (B:Int) 0=true then 0 else 9:=by unfold QF;rw[if_neg (by omega),if_neg (by rw[hi];decide)]
 have hx:∀ r:Nat,r<2 ^ H→(AX (r:Int) (H:Int) (B:Int)=true↔bdR H B r):=fun r hr=>by rw[Tc hH.1 (by omega)];exact⟨fun h=>⟨hr,h⟩,fun h=>h.2⟩
 have cf:∀ r:Nat,r<2 ^ H→Qa (H:Int) lw (H:Int) [(r:Int)]=[Zk lw (r:Int)]:=fun r hr=>(M6 ht ⟨by omega,by rw[Int.toNat_natCast];exact_mod_cast hr⟩).2;have sj:Q2b (H:Int) lw (B:Int)=(List.range (2 ^ H)).foldl (fun a (r:Nat)=>if AX (r:Int) (H:Int) (B:Int)=true then MZ a (lgX (Qa (H:Int) lw (H:Int) [(r:Int)])) else a) 0:=by unfold Q2b;rw[Int.toNat_natCast]
 cases h0:QD (H:Int) (B:Int) 0 with
 |false =>
  left;rw[h0] at eE;refine⟨eE,?_⟩;have vd:∀ r:Nat,r<2 ^ H→AX (r:Int) (H:Int) (B:Int)=true→False:=fun r hr h=>by have:=(M0 hH hB 0).2 ⟨r,(hx r hr).1 h,fun j _ hs=>by simp at hs⟩;rw[show ((0:Nat):Int)=0 from rfl,h0] at this;cases this
  have:=Tb (g:=fun r:Nat=>lgX (Qa (H:Int) lw (H:Int) [(r:Int)])) (P:=fun r:Nat=>AX (r:Int) (H:Int) (B:Int)) (2 ^ H) 0 (Int.le_refl _) fun r hr h=>(vd r hr h).elim;rw[sj];have a:=this.1;have b:=this.2.1;omega
 |true =>
  right;rw[h0,if_pos rfl] at eE;have eN:WO (H:Int) lw (B:Int)=lgN (H:Int) lw (B:Int):=by unfold WO;rw[if_pos eE]
  have eR:Xj (H:Int) lw (B:Int)=lgR (H:Int) lw (B:Int):=by unfold Xj;rw[if_pos eE]
  obtain⟨r0,h_,_⟩:=(M0 hH hB 0).1 h0;have c0:∀ r,clo lw r≠[]:=fun r h=>by have:=Yd lw r;rw[h] at this;simp at this;exact hl (List.length_eq_zero_iff.1 (by omega))
  have fin:∀ (M:Int) (r:Nat),1≤M→bdR H B r→lgX [Zk lw (r:Int)]=M→(∀ q,bdR H B q→lgX [Zk lw (q:Int)]≤M)→lgN (H:Int) lw (B:Int)=M→lgR (H:Int) lw (B:Int)=(r:Int)→QF (H:Int) lw (B:Int)=0∧1≤WO (H:Int) lw (B:Int)∧WO (H:Int) lw (B:Int)=Q2b (H:Int) lw (B:Int)∧(0≤Xj (H:Int) lw (B:Int)∧Xj (H:Int) lw (B:Int)<2 ^ (H:Int).toNat)∧AX (Xj (H:Int) lw (B:Int)) (H:Int) (B:Int)=true∧lgX [Zk lw (Xj (H:Int) lw (B:Int))]=WO (H:Int) lw (B:Int):=fun M r hM hr hg hall hn mv=>by
   have ff:=Tb (g:=fun r:Nat=>lgX (Qa (H:Int) lw (H:Int) [(r:Int)])) (P:=fun r:Nat=>AX (r:Int) (H:Int) (B:Int)) (2 ^ H) M (by omega) fun q hq h=>by rw[cf q hq];exact hall q ((hx q hq).1 h)
   have f3:=ff.2.2 r hr.1 ((hx r hr.1).2 hr);rw[cf r hr.1,hg] at f3;rw[eN,eR,hn,mv,sj];refine⟨eE,hM,by have:=ff.1;omega,⟨by omega,by rw[Int.toNat_natCast];exact_mod_cast hr.1⟩,(hx r hr.1).2 hr,hg⟩
  have jK:∀ r:Nat,(Zk lw (r:Int)).length=lw.length:=fun r=>by simp[Zk]
  cases hE:QD (H:Int) (B:Int) (QT lw 0 lw.length:Nat) with
  |true =>
   obtain⟨r,v1,v2,v3⟩:=LP hH hB _ hE;have v3:=(Pm hl t3 r 0 lw.length).1 v3;have hu:Lw (clo lw r):=fun j hj=>by rw[Yd] at hj;have a:=v3 j hj;have b:=v3 0 (by omega);rw[Nat.zero_add] at a b;rw[a,b]
   refine fin 1000 r (by decide) v2 ?_ (fun q hq=>?_) (by unfold lgN;rw[if_pos hE]) (by unfold lgR;rw[if_pos hE];exact v1)
   ·obtain⟨l1,l2⟩:=VE (Zk lw (r:Int)) 1000;rw[G_,jK] at l1 l2;have a:=l1 0 (by omega);rw[(XH (c0 r) hu).1] at a;have b:=l2 (by decide) fun k hk=>by
     rcases (XH (c0 r) hu).2 k (by rw[Yd];exact hk) with e|e<;>rw[e]<;>decide
    omega
   ·obtain⟨l1,l2⟩:=VE (Zk lw (q:Int)) 1000;rw[G_,jK] at l2;refine l2 (by decide) fun k hk=>?_;by_cases oK:Lw (clo lw q)
    ·rcases (XH (c0 q) oK).2 k (by rw[Yd];exact hk) with e|e<;>rw[e]<;>decide
    ·have:=(V6 (c0 q) oK k).1;rw[Yd] at this;omega
  |false =>
   have qV:∀ r,bdR H B r→¬ Lw (clo lw r):=fun r hr hu=>by
    have:=Bq hH hB hl t3 (fr:=0) (l:=lw.length) hr fun j hj=>by rw[Nat.zero_add];exact hu j (by rw[Yd];exact hj)
    rw[hE] at this;cases this
   obtain⟨k1,k2⟩:=Lo hH hB hl t3 lw.length;have sg:=LC (hk:=(H:Int)) (bd:=(B:Int)) (List.length_pos_iff.2 hl) lw.length;have ve:lgN (H:Int) lw (B:Int)=((lgK (H:Int) lw (B:Int) lw.length).1:Int):=by unfold lgN;rw[if_neg (by rw[hE];decide)]
   have vf:lgR (H:Int) lw (B:Int)=(lgK (H:Int) lw (B:Int) lw.length).2:=by unfold lgR;rw[if_neg (by rw[hE];decide)]
   have n2:2≤lw.length:=by apply Classical.byContradiction;intro h;refine qV r0 h_ fun j hj=>?_;rw[Yd] at hj;rw[show j=0 by omega]
   have L1:1≤(lgK (H:Int) lw (B:Int) lw.length).1:=by apply Classical.byContradiction;intro h;have:=k2 0 1 (by omega) (by omega) (by omega);rw[Bq hH hB hl t3 (fr:=0) (l:=1) h_ fun j hj=>by rw[show j=0 by omega]] at this;cases this
   rcases k1 with k1|⟨fr,k1,k3⟩
   ·rw[k1] at L1;dsimp only at L1;omega
   obtain⟨r,v1,v2,v3⟩:=LP hH hB _ k1;have v3:=(Pm hl t3 r fr _).1 v3;generalize (lgK (H:Int) lw (B:Int) lw.length).1=L at *
   have vg:UW (clo lw r) fr L:=fun j hj=>by have a:=v3 j hj;have b:=v3 0 (by omega);rw[Nat.add_zero] at b;rw[a,b]
   have hle:∀ q,bdR H B q→lgX [Zk lw (q:Int)]≤(L:Int):=fun q hq=>by obtain⟨l1,l2⟩:=VE (Zk lw (q:Int)) (L:Int);rw[G_,jK] at l2;refine l2 (by omega) fun k hk=>?_;obtain⟨a,b⟩:=V6 (c0 q) (qV q hq) k;rw[Yd] at a;apply Classical.byContradiction;intro h;have:=k2 k (J6 (clo lw q) k) hk (by omega) a;rw[Bq hH hB hl t3 hq b] at this;cases this
   refine fin (L:Int) r (by omega) v2 ?_ hle ve (by rw[vf,k3,v1]);obtain⟨l1,_⟩:=VE (Zk lw (r:Int)) 0;rw[G_,jK] at l1;obtain⟨w',w1,w2⟩:=PN (c0 r) (qV r v2) L1 vg;rw[Yd] at w1;have a:=l1 w' w1;have b:=hle r v2;omega
end Go.Proofs.Tryz
namespace Go.Proofs.Tryz
open Go Go.V Go.Proofs
def Y2 (hd:Int) (rows:List Int) (bd:Int):Int:=if Qb hd rows≠0 then Qb hd rows else if inI bd 0 1000=false then 3 else 0
def Ae (hd:Int) (rows:List Int) (bd:Int) (n:Nat):List (Int×Int×Int×Bool):=((List.range n).map fun (i:Nat)=>ZU (i:Int) bd (MY (rows.getD i 0) hd.toNat) hd.toNat).flatten
def Ti (hd:Int) (rows:List Int) (bd:Int):List (Int×Int×Int×Bool):=if Y2 hd rows bd=0 then Ae hd rows bd rows.length else []
theorem Bo (hd:Int) (rows:List Int) (bd:Int) (n:Nat):Ae hd rows bd (n+1)=Ae hd rows bd n++ZU (n:Int) bd (MY (rows.getD n 0) hd.toNat) hd.toNat:=by simp only[Ae,List.range_succ,List.map_append,List.flatten_append,List.map_cons,List.map_nil,List.flatten_cons,List.flatten_nil,List.append_nil]
theorem SL {i bd:Int}{p:List Bool}{f L:Nat}(hf:f<p.length) (hb:bgB p f=true) (hL:1≤L) (qT:L≤p.length) (hn:∀ j,1≤j→j<L→bgB p (f+j)=false) (he:bgB p (f+L)=true) :
  ZU i bd p (f+1)=ZU i bd p f++(if bd<(L:Int) then [(i,(f:Int),(L:Int),p.getD f false)] else []):=by
 have h0:p≠[]:=by rintro rfl;simp at hf
 have hs:=GS (w:=f) (k:=L-1) h0 fun j h1 h2=>hn j h1 (by omega);have hd:Zh p (f+L)≠Zh p f:=by
  have h1:Zh p (f+L)≠Zh p (f+L+p.length-1):=by simpa [bgB] using he
  rw[show f+L+p.length-1=f+(L-1)+p.length by omega] at h1;have h2:Zh p (f+(L-1)+p.length)=Zh p (f+(L-1)):=by unfold Zh;rw[Nat.add_mod_right]
  rwa [h2,hs (L-1) (Nat.le_refl _)] at h1
 have hlen:J6 p f=L:=PQ hb hL qT hd fun j _ h2=>hs j (by omega);rw[K7,FA,hlen];by_cases hb:bd<(L:Int)
 ·rw[if_pos hb,if_pos ⟨by omega,hb⟩];rfl
 ·rw[if_neg hb,if_neg fun h=>hb h.2];rfl
theorem EW {i bd:Int}{p:List Bool}{j:Nat}(hb:bgB p j=false) (hk:∃ t,t<j∧bgB p t=true):ZU i bd p (j+1)=ZU i bd p j:=by obtain⟨t,h1,_⟩:=hk;rw[K7,FA,U5 hb (.inl (by omega))];simp
theorem S_ (hd:Int) (rows:List Int) (bd:Int):∀ n,(Ae hd rows bd n).length≤n*hd.toNat
 |0=>by simp[Ae]
 |n+1=>by have h1:=S_ hd rows bd n;have h2:=Mj n bd (MY (rows.getD n 0) hd.toNat) hd.toNat;rw[Bo,List.length_append,Nat.add_mul,Nat.one_mul];omega
def Y1:AL ((Int×List Int)×Int):=(.cons (.agg (.cons (.k (.i .i64)) (.one (.k (.list (.i .i64)))))) (.one (.k (.i .i64))))
def Uq (d:(Int×List Int)×Int):Prop:=1≤d.1.1∧d.1.1≤24∧0≤d.2∧d.2<d.1.2.length∧d.1.2.length≤60∧(∀ x∈d.1.2,0≤x∧x<16777216)
def Wu (d:(Int×List Int)×Int):SV:=.lst 0
def Ws (d:(Int×List Int)×Int):List OB:=[.lst 4 .bo (MY (d.1.2.getD d.2.toNat 0) d.1.1.toNat) ((MY (d.1.2.getD d.2.toNat 0) d.1.1.toNat).isEmpty)]
def X5:CSp:=V0 Y1 Uq Wu Ws
def ZR (hd:Int) (rows:List Int) (pk:Int):Prop :=
 ∃ (e4:Unit) (d40:(List Bool)×Int),((pk=pk∧True∧True∧hd=hd∧(0:Int)=d40.2∧True)∧((hd=hd∧rows=rows∧(([]:List SV)=[]))∧(d40.1=[]∧(List.isEmpty d40.1)=true)∧True)) ∧
 LoopP (fun (d4:(List Bool)×Int) (q4:((List Bool)×Int)→Prop) =>
  ((decide (d4.2<hd))=true →
   (0≤pk)∧(pk<(List.length rows))∧(0≤d4.2)∧(((List.length d4.1)+(List.length [((JL .and .i64 (RU .i64 (gD rows pk 0) d4.2) (1:Int))==(1:Int))]))*1≤70368744177664)∧(I64 (d4.2+(1:Int)))∧(∃ d5:(List Bool)×Int,((pk=pk∧True∧True∧hd=hd∧(d4.2+(1:Int))=d5.2∧True)∧((hd=hd∧rows=rows∧(([]:List SV)=[]))∧((d4.1++[((JL .and .i64 (RU .i64 (gD rows pk 0) d4.2) (1:Int))==(1:Int))])=d5.1∧false=(List.isEmpty d5.1))∧True))∧q4 d5)) ∧
  ((decide (d4.2<hd))=false →
   (True∧((d4.1=(MY (rows.getD pk.toNat 0) hd.toNat)∧(List.isEmpty d4.1)=(MY (rows.getD pk.toNat 0) hd.toNat).isEmpty)∧True)))) d40
def Y7:Cx:=⟨[(4,.bo)],[],27,[],0,[],[],[],[],false,[],[],[],[]⟩
def Nw (hd:Int) (rows:List Int) (pk:Int):List (Nat×LoopAnn):=[(0,⟨Unit,(List Bool)×Int,[1,2,4,8,9],fun e x=>[.val (.i .i64) pk,.box 2 0,.lst 24,.val (.i .i64) hd,.val (.i .i64) x.2],fun e x=>[(2,.slot 2,.cells [.val (.i .i64) hd,.val (.list (.i .i64)) rows] (some 125)),(24,.slot 4,.lst 4 .bo x.1 (List.isEmpty x.1))]⟩)]
theorem Nh (d:(Int×List Int)×Int):gwp (Y7) (Nw d.1.1 d.1.2 d.2) c82 0 (U0 [.tmp 4] (Wu d) (Ws d)) (QS 27 (AL.can Y1 d))=ZR d.1.1 d.1.2 d.2:=by kernel_rfl
abbrev No:Prop:=OkC Tryz.prog 82 X5
theorem Nv (h:∀ (hd:Int) (rows:List Int) (pk:Int),(1≤hd∧hd≤24∧0≤pk∧pk<rows.length∧rows.length≤60∧(∀ x∈rows,0≤x∧x<16777216))→ZR hd rows pk):OkC Tryz.prog 82 X5 :=
 Z8 Q37 mixed (C:=Y7) (V:=fun (d:(Int×List Int)×Int)=>ZR d.1.1 d.1.2 d.2) ⟨.nil,XsOk.nil,ItsOk.nil,YlOk.nil,IysOk.nil,XfOk.nil⟩ (Nh) fun d hp=>h d.1.1 d.1.2 d.2 hp
theorem Nf:No:=Nv fun hd rows pk h=>by
 obtain⟨h1,h2,h3,h4,h5,h6⟩:=h;unfold ZR;(try delta lI gD sT I64 Q1 pj8 pj4);simp only[true_and,and_true];have hk:pk.toNat<rows.length:=by omega
 have hx:=h6 (rows.getD pk.toNat 0) (by rw[Qi hk];exact List.getElem_mem hk);obtain⟨H,rfl⟩:=Int.eq_ofNat_of_zero_le (show 0≤hd by omega);generalize rows.getD pk.toNat 0=r at *
 rw[Int.toNat_natCast];refine⟨(),([],0),by and_intros<;>first|rfl|trivial,?_⟩;refine⟨fun d=>∃ i:Nat,i≤H∧d=(MY r i,(i:Int)),fun d=>H-d.2.toNat,⟨0,by omega,rfl⟩,?_⟩;rintro _ ⟨i,hi,rfl⟩;dsimp only;refine⟨fun g=>?_,fun g=>?_⟩
 ·have g:i<H:=by have:=of_decide_eq_true g;omega
  have hb:=P6 (h:=(i:Int)) hx ⟨by omega,by omega⟩;rw[Int.toNat_natCast] at hb;rw[hb];refine⟨by omega,by omega,by omega,by rw[Pt];simp only[List.length_cons,List.length_nil];omega,by rw[Q9];omega,(MY r (i+1),(i:Int)+1),?_,⟨i+1,g,rfl⟩,by dsimp only;omega⟩;rw[EK];and_intros<;>first|rfl|trivial|exact(by cases MY r i<;>rfl)
 ·have g:i=H:=by have:=of_decide_eq_false g;omega
  rw[g];and_intros<;>first|rfl|trivial
def Wl:AL (Int×List Bool):=(.cons (.k (.i .i64)) (.one (.ptr (.one (.k (.list .bo))))))
def Vr (d:Int×List Bool):Prop:=0≤d.1∧d.1<d.2.length∧d.2.length≤1000
def XZ (d:Int×List Bool):SV:=.val .bo (bgB d.2 d.1.toNat)
def W3 (d:Int×List Bool):List OB:=[]
def JO:CSp:=V0 Wl Vr XZ W3
def Zr (w:Int) (p:List Bool):Prop :=
 (0≤w)∧(w<(List.length p))∧(I64 (w+(lI p)))∧(I64 ((w+(lI p))-(1:Int)))∧((lI p)≠0)∧(0≤(Int.tmod ((w+(lI p))-(1:Int)) (lI p)))∧((Int.tmod ((w+(lI p))-(1:Int)) (lI p))<(List.length p))∧((!((gD p w false)==(gD p (Int.tmod ((w+(lI p))-(1:Int)) (lI p)) false)))=(bgB p w.toNat)∧(True))
def Wk:Cx:=⟨[],[],20,[],0,[],[],[],[],false,[],[],[],[]⟩
def Um (w:Int) (p:List Bool):List (Nat×LoopAnn):=[]
theorem Uu (d:Int×List Bool):gwp (Wk) (Um d.1 d.2) c97 0 (U0 [.tmp 3] (XZ d) (W3 d)) (QS 20 (AL.can Wl d))=Zr d.1 d.2:=by kernel_rfl
abbrev Ur:Prop:=OkC Tryz.prog 97 JO
theorem Ul (h:∀ (w:Int) (p:List Bool),(0≤w∧w<p.length∧p.length≤1000)→Zr w p):OkC Tryz.prog 97 JO :=
 Z8 Q22 mixed (C:=Wk) (V:=fun (d:Int×List Bool)=>Zr d.1 d.2) ⟨.nil,XsOk.nil,ItsOk.nil,YlOk.nil,IysOk.nil,XfOk.nil⟩ (Uu) fun d hp=>h d.1 d.2 hp
theorem Uy:Ur:=Ul fun w p h=>by
 obtain⟨h1,h2,h3⟩:=h;unfold Zr;(try delta lI gD sT I64 Q1 pj8 pj4);obtain⟨n,rfl⟩:=Int.eq_ofNat_of_zero_le h1;have e:(n:Int)+(p.length:Int)-1=((n+p.length-1:Nat):Int):=by omega
 have hm:=Nat.mod_lt (n+p.length-1) (show 0<p.length by omega);rw[e,E2,Int.toNat_natCast,Int.toNat_natCast];refine⟨by omega,by omega,by rw[Q9];omega,by rw[Q9];omega,by omega,by omega,by omega,?_,trivial⟩;unfold bgB Zh;rw[Nat.mod_eq_of_lt (show n<p.length by omega)];rfl
def Va:AL ((Int×List Int)×Unit×Int):=(.cons (.agg (.cons (.k (.i .i64)) (.one (.k (.list (.i .i64)))))) (.cons (.int .i64 1) (.one (.k (.i .i64)))))
def GJ (d:(Int×List Int)×Unit×Int):Prop:=d.1.2.length≤1000
def KP (d:(Int×List Int)×Unit×Int):SV:=.tup [.lst 0,.val (.i .i64) (Y2 d.1.1 d.1.2 d.2.2)]
def KG (d:(Int×List Int)×Unit×Int):List OB:=[.lst 84 (.pair (.i .i64) (.pair (.i .i64) (.pair (.i .i64) .bo))) (Ti d.1.1 d.1.2 d.2.2) ((Ti d.1.1 d.1.2 d.2.2).isEmpty)]
def YL:CSp:=V0 Va GJ KP KG
abbrev Qx :=(True∧(([]:List SV)=[]))
abbrev W_ :=(((([]:List SV)=[]))∧(True∧True∧True∧(([]:List SV)=[])))
abbrev XG :=((1:Int)=(1:Int)∧(([]:List SV)=[]))
abbrev SY (hd:Int) (rows:List Int):=(True∧(1:Int)=(1:Int)∧True∧True∧True∧True∧True∧True∧True∧True∧True∧True∧True∧True∧True∧True∧True∧True∧True∧True∧True∧True∧True∧True∧True∧True∧True∧True∧(hd=hd∧rows=rows∧(([]:List SV)=[]))∧(hd=hd∧rows=rows∧(([]:List SV)=[]))∧(1:Int)=(1:Int)∧True∧True∧True∧True∧True∧True∧True∧True∧True∧True∧True∧(([]:List SV)=[]))
abbrev Xa :=(List (Int×Int×Int×Bool))
abbrev Nm :=(((([]:List SV)=[]))∧Qx)
abbrev Nr :=(Qx∧((([]:List SV)=[])))
abbrev Vx (hd:Int) (rows:List Int):=(hd=hd∧rows=rows∧(([]:List SV)=[]))
def Xi (hd:Int) (rows:List Int) (bd:Int):Prop :=
 (rows.length≤1000000)∧∃ (e3:Unit),Q96 (fun (q3:(Unit)→Prop) =>
 (((Qb hd rows) != (0:Int))=true →
  ((True∧(Qb hd rows)=(Y2 hd rows bd)∧(([]:List SV)=[]))∧(((Ti hd rows bd)=[]∧(Ti hd rows bd).isEmpty=true)∧True))) ∧
 (((Qb hd rows) != (0:Int))=false →
  ([bd].length≤1000000)∧((!(!([bd].any fun n=>decide (n<(0:Int))||decide ((1000:Int)<n))))=true →
   ((True∧(3:Int)=(Y2 hd rows bd)∧(([]:List SV)=[]))∧(((Ti hd rows bd)=[]∧(Ti hd rows bd).isEmpty=true)∧True))) ∧
  ((!(!([bd].any fun n=>decide (n<(0:Int))||decide ((1000:Int)<n))))=false →
   (∃ d4:Unit,(((1:Int)=(1:Int)∧True∧True∧True∧True)∧((Vx hd rows)∧(bd=bd∧(([]:List SV)=[]))∧Qx∧True))∧q3 d4))))
 (fun (d3:Unit) =>
  ∀ w5:List Value,((True∧True∧True∧True∧(lI rows)=(lI rows)∧True)∧((Vx hd rows)∧(bd=bd∧(([]:List SV)=[]))∧Qx∧(w5=w5∧(SY hd rows))∧(Vx hd rows)∧XG∧((((Vx hd rows)∧(([]:List SV)=[]))∧((([]:List SV)=[])))∧(([]:List SV)=[]))∧((0:Int)=(0:Int)∧(([]:List SV)=[]))∧True))∧(((True∧True∧True∧True∧(lI rows)=(lI rows)∧True)∧((Vx hd rows)∧(bd=bd∧(([]:List SV)=[]))∧Qx∧(w5=w5∧(SY hd rows))∧(Vx hd rows)∧XG∧((((Vx hd rows)∧(([]:List SV)=[]))∧((([]:List SV)=[])))∧(([]:List SV)=[]))∧((0:Int)=(0:Int)∧(([]:List SV)=[]))∧True)))∧w5=w5∧∀ w6:LpD,∃ (aS:Int×(List Int)×Int×Int×(List Int)×Int×Int×(List Int)×Int×(List Int)×Int×LpD) (d100:Int×Xa),((True∧True∧True∧(lI rows)=aS.2.2.1∧(0:Int)=d100.1∧True)∧(((((hd=aS.1∧rows=aS.2.1∧(([]:List SV)=[]))∧(([]:List SV)=[]))∧((([]:List SV)=[])))∧(([]:List SV)=[]))∧XG∧Qx∧((pj8 aS).2.2.2=w6∧(True∧(1:Int)=(1:Int)∧True∧True∧True∧True∧True∧True∧True∧True∧True∧True∧True∧True∧True∧True∧True∧True∧True∧True∧True∧True∧True∧True∧True∧True∧True∧True∧(hd=(pj4 aS).2.2.1∧rows=(pj4 aS).2.2.2.1∧(([]:List SV)=[]))∧(hd=(pj8 aS).1∧rows=(pj8 aS).2.1∧(([]:List SV)=[]))∧(1:Int)=(1:Int)∧W_∧True∧True∧True∧True∧True∧True∧True∧True∧True∧True∧(([]:List SV)=[])))∧(hd=aS.2.2.2.1∧rows=(pj4 aS).1∧(([]:List SV)=[]))∧(bd=(pj4 aS).2.1∧(([]:List SV)=[]))∧Qx∧(d100.2=[]∧(List.isEmpty d100.2)=true)∧((lI rows)=(pj8 aS).2.2.1∧(([]:List SV)=[]))∧True)) ∧
  LoopP (fun (d10:Int×Xa) (qW:(Int×Xa)→Prop) =>
   ((decide (d10.1<aS.2.2.1))=true →
    (1≤aS.1∧aS.1≤24∧0≤d10.1∧d10.1<aS.2.1.length∧aS.2.1.length≤60∧(∀ x∈aS.2.1,0≤x∧x<16777216))∧∀ gO:LpD,∃ (ao:(List Bool)×Int×Int×(List Int)×Int×Int×(List Int)×Int×(List Int)×Int×Int×(List Int)×LpD×Int×Int×Int×Bool×Int×Int×(List Int)×Int×LpD) (d140:Bool×Int×Xa),((True∧True∧Nm∧true=d140.1∧(lI (MY (aS.2.1.getD d10.1.toNat 0) aS.1.toNat))=ao.2.1∧(0:Int)=d140.2.1∧True)∧(Qx∧((MY (aS.2.1.getD d10.1.toNat 0) aS.1.toNat)=ao.1∧(MY (aS.2.1.getD d10.1.toNat 0) aS.1.toNat).isEmpty=(List.isEmpty ao.1))∧((pj4 (pj8 ao)).1=(pj8 aS).2.2.2∧(True∧(1:Int)=(1:Int)∧True∧True∧True∧True∧True∧True∧True∧True∧True∧True∧True∧True∧True∧True∧True∧True∧True∧True∧True∧True∧True∧True∧True∧True∧True∧True∧((pj4 aS).2.2.1=(pj4 ao).2.1∧(pj4 aS).2.2.2.1=(pj4 ao).2.2.1∧(([]:List SV)=[]))∧((pj8 aS).1=(pj4 ao).2.2.2.1∧(pj8 aS).2.1=(pj8 ao).1∧(([]:List SV)=[]))∧(1:Int)=(1:Int)∧W_∧True∧True∧True∧True∧True∧True∧True∧True∧True∧True∧(([]:List SV)=[])))∧(aS.2.2.2.1=ao.2.2.1∧(pj4 aS).1=ao.2.2.2.1∧(([]:List SV)=[]))∧((pj4 aS).2.1=(pj4 ao).1∧(([]:List SV)=[]))∧Qx∧(d10.2=d140.2.2∧(List.isEmpty d10.2)=(List.isEmpty d140.2.2))∧((pj8 aS).2.2.1=(pj8 ao).2.1∧(([]:List SV)=[]))∧((((aS.1=(pj8 ao).2.2.1∧aS.2.1=(pj8 ao).2.2.2.1∧(([]:List SV)=[]))∧(([]:List SV)=[]))∧((([]:List SV)=[])))∧(([]:List SV)=[]))∧XG∧((pj4 (Q1 ao)).2=gO∧(True∧True∧True∧True∧True∧True∧True∧True∧aS.2.2.1=(pj4 (pj8 ao)).2.2.1∧d10.1=(pj4 (pj8 ao)).2.2.2.1∧(decide (d10.1<aS.2.2.1))=(Q1 ao).1∧d10.1=(Q1 ao).2.1∧(((aS.1=(Q1 ao).2.2.1∧aS.2.1=(Q1 ao).2.2.2.1∧(([]:List SV)=[]))∧(([]:List SV)=[]))∧((([]:List SV)=[])))∧d10.1=(pj4 (Q1 ao)).1∧True∧Nr∧True∧True∧True∧True∧True∧True∧True∧True∧True∧True∧True∧True∧True∧True∧True∧True∧True∧True∧True∧True∧True∧(([]:List SV)=[])))∧Qx∧(d10.1=(pj4 (pj8 ao)).2.1∧(([]:List SV)=[]))∧True)) ∧
    LoopP (fun (d14:Bool×Int×Xa) (qX:(Bool×Int×Xa)→Prop) =>
     ((decide (d14.2.1<ao.2.1))=true →
      (0≤d14.2.1∧d14.2.1<ao.1.length∧ao.1.length≤1000)∧((!(bgB ao.1 d14.2.1.toNat))=true →
       (I64 (d14.2.1+(1:Int)))∧(∃ d15:Bool×Int×Xa,((True∧True∧Nm∧d14.1=d15.1∧ao.2.1=ao.2.1∧(d14.2.1+(1:Int))=d15.2.1∧True)∧(Qx∧(ao.1=ao.1∧(List.isEmpty ao.1)=(List.isEmpty ao.1))∧((pj4 (pj8 ao)).1=(pj4 (pj8 ao)).1∧(True∧(1:Int)=(1:Int)∧True∧True∧True∧True∧True∧True∧True∧True∧True∧True∧True∧True∧True∧True∧True∧True∧True∧True∧True∧True∧True∧True∧True∧True∧True∧True∧((pj4 ao).2.1=(pj4 ao).2.1∧(pj4 ao).2.2.1=(pj4 ao).2.2.1∧(([]:List SV)=[]))∧((pj4 ao).2.2.2.1=(pj4 ao).2.2.2.1∧(pj8 ao).1=(pj8 ao).1∧(([]:List SV)=[]))∧(1:Int)=(1:Int)∧W_∧True∧True∧True∧True∧True∧True∧True∧True∧True∧True∧(([]:List SV)=[])))∧(ao.2.2.1=ao.2.2.1∧ao.2.2.2.1=ao.2.2.2.1∧(([]:List SV)=[]))∧((pj4 ao).1=(pj4 ao).1∧(([]:List SV)=[]))∧Qx∧(d14.2.2=d15.2.2∧(List.isEmpty d14.2.2)=(List.isEmpty d15.2.2))∧((pj8 ao).2.1=(pj8 ao).2.1∧(([]:List SV)=[]))∧(((((pj8 ao).2.2.1=(pj8 ao).2.2.1∧(pj8 ao).2.2.2.1=(pj8 ao).2.2.2.1∧(([]:List SV)=[]))∧(([]:List SV)=[]))∧((([]:List SV)=[])))∧(([]:List SV)=[]))∧XG∧((pj4 (Q1 ao)).2=(pj4 (Q1 ao)).2∧(True∧True∧True∧True∧True∧True∧True∧True∧(pj4 (pj8 ao)).2.2.1=(pj4 (pj8 ao)).2.2.1∧(pj4 (pj8 ao)).2.2.2.1=(pj4 (pj8 ao)).2.2.2.1∧(Q1 ao).1=(Q1 ao).1∧(Q1 ao).2.1=(Q1 ao).2.1∧((((Q1 ao).2.2.1=(Q1 ao).2.2.1∧(Q1 ao).2.2.2.1=(Q1 ao).2.2.2.1∧(([]:List SV)=[]))∧(([]:List SV)=[]))∧((([]:List SV)=[])))∧(pj4 (Q1 ao)).1=(pj4 (Q1 ao)).1∧True∧Nr∧True∧True∧True∧True∧True∧True∧True∧True∧True∧True∧True∧True∧True∧True∧True∧True∧True∧True∧True∧True∧True∧(([]:List SV)=[])))∧Qx∧((pj4 (pj8 ao)).2.1=(pj4 (pj8 ao)).2.1∧(([]:List SV)=[]))∧True))∧qX d15)) ∧
      ((!(bgB ao.1 d14.2.1.toNat))=false →
       (0≤d14.2.1)∧(d14.2.1<(List.length ao.1))∧∃ (af:(List Bool)×Bool×Int×Int×Bool×Int×Int×Int×(List Int)×Int×Xa×Int×(List Int)×Int×(List Int)×Int×Int×(List Int)×LpD×Int×Int×Int×Bool×Int×Int×(List Int)×Int×LpD) (iU:Int),((True∧True∧Nm∧false=af.2.1∧d14.2.1=af.2.2.1∧True∧ao.2.1=(pj4 af).2.1∧d14.2.1=(pj4 af).2.2.1∧True)∧(Qx∧(ao.1=af.1∧(List.isEmpty ao.1)=(List.isEmpty af.1))∧(d14.2.1=af.2.2.2.1∧(1:Int)=iU∧(gD ao.1 d14.2.1 false)=(pj4 af).1∧(([]:List SV)=[]))∧((Q1 af).2.2.1=(pj4 (pj8 ao)).1∧(True∧(1:Int)=(1:Int)∧True∧True∧True∧True∧True∧True∧True∧True∧True∧True∧True∧True∧True∧True∧True∧True∧True∧True∧True∧True∧True∧True∧True∧True∧True∧True∧((pj4 ao).2.1=(pj8 af).2.2.2.1∧(pj4 ao).2.2.1=(pj4 (pj8 af)).1∧(([]:List SV)=[]))∧((pj4 ao).2.2.2.1=(pj4 (pj8 af)).2.1∧(pj8 ao).1=(pj4 (pj8 af)).2.2.1∧(([]:List SV)=[]))∧(1:Int)=(1:Int)∧W_∧True∧True∧True∧True∧True∧True∧True∧True∧True∧True∧(([]:List SV)=[])))∧(ao.2.2.1=(pj4 af).2.2.2.1∧ao.2.2.2.1=(pj8 af).1∧(([]:List SV)=[]))∧((pj4 ao).1=(pj8 af).2.1∧(([]:List SV)=[]))∧Qx∧(d14.2.2=(pj8 af).2.2.1∧(List.isEmpty d14.2.2)=(List.isEmpty (pj8 af).2.2.1))∧((pj8 ao).2.1=(pj4 (pj8 af)).2.2.2.1∧(([]:List SV)=[]))∧(((((pj8 ao).2.2.1=(Q1 af).1∧(pj8 ao).2.2.2.1=(Q1 af).2.1∧(([]:List SV)=[]))∧(([]:List SV)=[]))∧((([]:List SV)=[])))∧(([]:List SV)=[]))∧XG∧((pj8 (Q1 af)).2.2.2=(pj4 (Q1 ao)).2∧(True∧True∧True∧True∧True∧True∧True∧True∧(pj4 (pj8 ao)).2.2.1=(pj4 (Q1 af)).1∧(pj4 (pj8 ao)).2.2.2.1=(pj4 (Q1 af)).2.1∧(Q1 ao).1=(pj4 (Q1 af)).2.2.1∧(Q1 ao).2.1=(pj4 (Q1 af)).2.2.2.1∧((((Q1 ao).2.2.1=(pj8 (Q1 af)).1∧(Q1 ao).2.2.2.1=(pj8 (Q1 af)).2.1∧(([]:List SV)=[]))∧(([]:List SV)=[]))∧((([]:List SV)=[])))∧(pj4 (Q1 ao)).1=(pj8 (Q1 af)).2.2.1∧True∧Nr∧True∧True∧True∧True∧True∧True∧True∧True∧True∧True∧True∧True∧True∧True∧True∧True∧True∧True∧True∧True∧True∧(([]:List SV)=[])))∧Qx∧((pj4 (pj8 ao)).2.1=(Q1 af).2.2.2.1∧(([]:List SV)=[]))∧True)) ∧
       LoopP (fun (d18:Int) (qY:(Int)→Prop) =>
        (I64 (af.2.2.1+d18))∧((lI af.1)≠0)∧(0≤(Int.tmod (af.2.2.1+d18) (lI af.1))∧(Int.tmod (af.2.2.1+d18) (lI af.1))<af.1.length∧af.1.length≤1000)∧((!(bgB af.1 (Int.tmod (af.2.2.1+d18) (lI af.1)).toNat))=true →
         (I64 (d18+(1:Int)))∧(∃ d19:Int,((True∧True∧Nm∧af.2.1=af.2.1∧af.2.2.1=af.2.2.1∧True∧(pj4 af).2.1=(pj4 af).2.1∧(pj4 af).2.2.1=(pj4 af).2.2.1∧True)∧(Qx∧(af.1=af.1∧(List.isEmpty af.1)=(List.isEmpty af.1))∧(af.2.2.2.1=af.2.2.2.1∧(d18+(1:Int))=d19∧(pj4 af).1=(pj4 af).1∧(([]:List SV)=[]))∧((Q1 af).2.2.1=(Q1 af).2.2.1∧(True∧(1:Int)=(1:Int)∧True∧True∧True∧True∧True∧True∧True∧True∧True∧True∧True∧True∧True∧True∧True∧True∧True∧True∧True∧True∧True∧True∧True∧True∧True∧True∧((pj8 af).2.2.2.1=(pj8 af).2.2.2.1∧(pj4 (pj8 af)).1=(pj4 (pj8 af)).1∧(([]:List SV)=[]))∧((pj4 (pj8 af)).2.1=(pj4 (pj8 af)).2.1∧(pj4 (pj8 af)).2.2.1=(pj4 (pj8 af)).2.2.1∧(([]:List SV)=[]))∧(1:Int)=(1:Int)∧W_∧True∧True∧True∧True∧True∧True∧True∧True∧True∧True∧(([]:List SV)=[])))∧((pj4 af).2.2.2.1=(pj4 af).2.2.2.1∧(pj8 af).1=(pj8 af).1∧(([]:List SV)=[]))∧((pj8 af).2.1=(pj8 af).2.1∧(([]:List SV)=[]))∧Qx∧((pj8 af).2.2.1=(pj8 af).2.2.1∧(List.isEmpty (pj8 af).2.2.1)=(List.isEmpty (pj8 af).2.2.1))∧((pj4 (pj8 af)).2.2.2.1=(pj4 (pj8 af)).2.2.2.1∧(([]:List SV)=[]))∧(((((Q1 af).1=(Q1 af).1∧(Q1 af).2.1=(Q1 af).2.1∧(([]:List SV)=[]))∧(([]:List SV)=[]))∧((([]:List SV)=[])))∧(([]:List SV)=[]))∧XG∧((pj8 (Q1 af)).2.2.2=(pj8 (Q1 af)).2.2.2∧(True∧True∧True∧True∧True∧True∧True∧True∧(pj4 (Q1 af)).1=(pj4 (Q1 af)).1∧(pj4 (Q1 af)).2.1=(pj4 (Q1 af)).2.1∧(pj4 (Q1 af)).2.2.1=(pj4 (Q1 af)).2.2.1∧(pj4 (Q1 af)).2.2.2.1=(pj4 (Q1 af)).2.2.2.1∧((((pj8 (Q1 af)).1=(pj8 (Q1 af)).1∧(pj8 (Q1 af)).2.1=(pj8 (Q1 af)).2.1∧(([]:List SV)=[]))∧(([]:List SV)=[]))∧((([]:List SV)=[])))∧(pj8 (Q1 af)).2.2.1=(pj8 (Q1 af)).2.2.1∧True∧Nr∧True∧True∧True∧True∧True∧True∧True∧True∧True∧True∧True∧True∧True∧True∧True∧True∧True∧True∧True∧True∧True∧(([]:List SV)=[])))∧Qx∧((Q1 af).2.2.2.1=(Q1 af).2.2.2.1∧(([]:List SV)=[]))∧True))∧qY d19)) ∧
        ((!(bgB af.1 (Int.tmod (af.2.2.1+d18) (lI af.1)).toNat))=false →
         (pj8 (Q1 af)).2.2.2=gO∧∀ iV:List Value,(Q1 af).2.2.1=w6∧∀ ov:List Value,((decide (d18 > (pj8 af).2.1))=true →
          (((List.length (pj8 af).2.2.1)+(List.length [((Q1 af).2.2.2.1,(af.2.2.2.1,(d18,(pj4 af).1)))]))*32≤70368744177664)∧ov=ov∧(Q1 af).2.2.1=w6∧iV=iV∧(pj8 (Q1 af)).2.2.2=gO∧(I64 ((pj4 af).2.2.1+(1:Int)))∧(∃ d22:Bool×Int×Xa,((True∧True∧Nm∧af.2.1=d22.1∧(pj4 af).2.1=ao.2.1∧((pj4 af).2.2.1+(1:Int))=d22.2.1∧True)∧(Qx∧(af.1=ao.1∧(List.isEmpty af.1)=(List.isEmpty ao.1))∧((pj4 (pj8 ao)).1=(Q1 af).2.2.1∧(True∧(1:Int)=(1:Int)∧True∧True∧True∧True∧True∧True∧True∧True∧True∧True∧True∧True∧True∧True∧True∧True∧True∧True∧True∧True∧True∧True∧True∧True∧True∧True∧((pj8 af).2.2.2.1=(pj4 ao).2.1∧(pj4 (pj8 af)).1=(pj4 ao).2.2.1∧(([]:List SV)=[]))∧((pj4 (pj8 af)).2.1=(pj4 ao).2.2.2.1∧(pj4 (pj8 af)).2.2.1=(pj8 ao).1∧(([]:List SV)=[]))∧(1:Int)=(1:Int)∧W_∧True∧True∧True∧True∧True∧True∧True∧True∧True∧True∧(([]:List SV)=[])))∧((pj4 af).2.2.2.1=ao.2.2.1∧(pj8 af).1=ao.2.2.2.1∧(([]:List SV)=[]))∧((pj8 af).2.1=(pj4 ao).1∧(([]:List SV)=[]))∧Qx∧(((pj8 af).2.2.1++[((Q1 af).2.2.2.1,(af.2.2.2.1,(d18,(pj4 af).1)))])=d22.2.2∧false=(List.isEmpty d22.2.2))∧((pj4 (pj8 af)).2.2.2.1=(pj8 ao).2.1∧(([]:List SV)=[]))∧(((((Q1 af).1=(pj8 ao).2.2.1∧(Q1 af).2.1=(pj8 ao).2.2.2.1∧(([]:List SV)=[]))∧(([]:List SV)=[]))∧((([]:List SV)=[])))∧(([]:List SV)=[]))∧XG∧((pj4 (Q1 ao)).2=(pj8 (Q1 af)).2.2.2∧(True∧True∧True∧True∧True∧True∧True∧True∧(pj4 (Q1 af)).1=(pj4 (pj8 ao)).2.2.1∧(pj4 (Q1 af)).2.1=(pj4 (pj8 ao)).2.2.2.1∧(pj4 (Q1 af)).2.2.1=(Q1 ao).1∧(pj4 (Q1 af)).2.2.2.1=(Q1 ao).2.1∧((((pj8 (Q1 af)).1=(Q1 ao).2.2.1∧(pj8 (Q1 af)).2.1=(Q1 ao).2.2.2.1∧(([]:List SV)=[]))∧(([]:List SV)=[]))∧((([]:List SV)=[])))∧(pj8 (Q1 af)).2.2.1=(pj4 (Q1 ao)).1∧True∧Nr∧True∧True∧True∧True∧True∧True∧True∧True∧True∧True∧True∧True∧True∧True∧True∧True∧True∧True∧True∧True∧True∧(([]:List SV)=[])))∧Qx∧((Q1 af).2.2.2.1=(pj4 (pj8 ao)).2.1∧(([]:List SV)=[]))∧True))∧qX d22)) ∧
         ((decide (d18 > (pj8 af).2.1))=false →
          ov=ov∧(Q1 af).2.2.1=w6∧iV=iV∧(pj8 (Q1 af)).2.2.2=gO∧(I64 ((pj4 af).2.2.1+(1:Int)))∧(∃ d23:Bool×Int×Xa,((True∧True∧Nm∧af.2.1=d23.1∧(pj4 af).2.1=ao.2.1∧((pj4 af).2.2.1+(1:Int))=d23.2.1∧True)∧(Qx∧(af.1=ao.1∧(List.isEmpty af.1)=(List.isEmpty ao.1))∧((pj4 (pj8 ao)).1=(Q1 af).2.2.1∧(True∧(1:Int)=(1:Int)∧True∧True∧True∧True∧True∧True∧True∧True∧True∧True∧True∧True∧True∧True∧True∧True∧True∧True∧True∧True∧True∧True∧True∧True∧True∧True∧((pj8 af).2.2.2.1=(pj4 ao).2.1∧(pj4 (pj8 af)).1=(pj4 ao).2.2.1∧(([]:List SV)=[]))∧((pj4 (pj8 af)).2.1=(pj4 ao).2.2.2.1∧(pj4 (pj8 af)).2.2.1=(pj8 ao).1∧(([]:List SV)=[]))∧(1:Int)=(1:Int)∧W_∧True∧True∧True∧True∧True∧True∧True∧True∧True∧True∧(([]:List SV)=[])))∧((pj4 af).2.2.2.1=ao.2.2.1∧(pj8 af).1=ao.2.2.2.1∧(([]:List SV)=[]))∧((pj8 af).2.1=(pj4 ao).1∧(([]:List SV)=[]))∧Qx∧((pj8 af).2.2.1=d23.2.2∧(List.isEmpty (pj8 af).2.2.1)=(List.isEmpty d23.2.2))∧((pj4 (pj8 af)).2.2.2.1=(pj8 ao).2.1∧(([]:List SV)=[]))∧(((((Q1 af).1=(pj8 ao).2.2.1∧(Q1 af).2.1=(pj8 ao).2.2.2.1∧(([]:List SV)=[]))∧(([]:List SV)=[]))∧((([]:List SV)=[])))∧(([]:List SV)=[]))∧XG∧((pj4 (Q1 ao)).2=(pj8 (Q1 af)).2.2.2∧(True∧True∧True∧True∧True∧True∧True∧True∧(pj4 (Q1 af)).1=(pj4 (pj8 ao)).2.2.1∧(pj4 (Q1 af)).2.1=(pj4 (pj8 ao)).2.2.2.1∧(pj4 (Q1 af)).2.2.1=(Q1 ao).1∧(pj4 (Q1 af)).2.2.2.1=(Q1 ao).2.1∧((((pj8 (Q1 af)).1=(Q1 ao).2.2.1∧(pj8 (Q1 af)).2.1=(Q1 ao).2.2.2.1∧(([]:List SV)=[]))∧(([]:List SV)=[]))∧((([]:List SV)=[])))∧(pj8 (Q1 af)).2.2.1=(pj4 (Q1 ao)).1∧True∧Nr∧True∧True∧True∧True∧True∧True∧True∧True∧True∧True∧True∧True∧True∧True∧True∧True∧True∧True∧True∧True∧True∧(([]:List SV)=[])))∧Qx∧((Q1 af).2.2.2.1=(pj4 (pj8 ao)).2.1∧(([]:List SV)=[]))∧True))∧qX d23)))) iU)) ∧
     ((decide (d14.2.1<ao.2.1))=false →
      (d14.1=true →
       (0≤(0:Int))∧((0:Int)<(List.length ao.1))∧(pj4 (Q1 ao)).2=gO∧∀ ox:List Value,(pj4 (pj8 ao)).1=w6∧∀ oy:List Value,((decide ((1000:Int) > (pj4 ao).1))=true →
        (((List.length d14.2.2)+(List.length [((pj4 (pj8 ao)).2.1,((0:Int),((1000:Int),(gD ao.1 (0:Int) false))))]))*32≤70368744177664)∧oy=oy∧(pj4 (pj8 ao)).1=w6∧ox=ox∧(pj4 (Q1 ao)).2=gO∧(pj4 (Q1 ao)).2=gO∧(I64 ((pj4 (pj8 ao)).2.2.2.1+(1:Int)))∧(∃ d26:Int×Xa,((True∧True∧True∧(pj4 (pj8 ao)).2.2.1=aS.2.2.1∧((pj4 (pj8 ao)).2.2.2.1+(1:Int))=d26.1∧True)∧((((((pj8 ao).2.2.1=aS.1∧(pj8 ao).2.2.2.1=aS.2.1∧(([]:List SV)=[]))∧(([]:List SV)=[]))∧((([]:List SV)=[])))∧(([]:List SV)=[]))∧XG∧Qx∧((pj8 aS).2.2.2=(pj4 (pj8 ao)).1∧(True∧(1:Int)=(1:Int)∧True∧True∧True∧True∧True∧True∧True∧True∧True∧True∧True∧True∧True∧True∧True∧True∧True∧True∧True∧True∧True∧True∧True∧True∧True∧True∧((pj4 ao).2.1=(pj4 aS).2.2.1∧(pj4 ao).2.2.1=(pj4 aS).2.2.2.1∧(([]:List SV)=[]))∧((pj4 ao).2.2.2.1=(pj8 aS).1∧(pj8 ao).1=(pj8 aS).2.1∧(([]:List SV)=[]))∧(1:Int)=(1:Int)∧W_∧True∧True∧True∧True∧True∧True∧True∧True∧True∧True∧(([]:List SV)=[])))∧(ao.2.2.1=aS.2.2.2.1∧ao.2.2.2.1=(pj4 aS).1∧(([]:List SV)=[]))∧((pj4 ao).1=(pj4 aS).2.1∧(([]:List SV)=[]))∧Qx∧((d14.2.2++[((pj4 (pj8 ao)).2.1,((0:Int),((1000:Int),(gD ao.1 (0:Int) false))))])=d26.2∧false=(List.isEmpty d26.2))∧((pj8 ao).2.1=(pj8 aS).2.2.1∧(([]:List SV)=[]))∧True))∧qW d26)) ∧
       ((decide ((1000:Int) > (pj4 ao).1))=false →
        oy=oy∧(pj4 (pj8 ao)).1=w6∧ox=ox∧(pj4 (Q1 ao)).2=gO∧(pj4 (Q1 ao)).2=gO∧(I64 ((pj4 (pj8 ao)).2.2.2.1+(1:Int)))∧(∃ d27:Int×Xa,((True∧True∧True∧(pj4 (pj8 ao)).2.2.1=aS.2.2.1∧((pj4 (pj8 ao)).2.2.2.1+(1:Int))=d27.1∧True)∧((((((pj8 ao).2.2.1=aS.1∧(pj8 ao).2.2.2.1=aS.2.1∧(([]:List SV)=[]))∧(([]:List SV)=[]))∧((([]:List SV)=[])))∧(([]:List SV)=[]))∧XG∧Qx∧((pj8 aS).2.2.2=(pj4 (pj8 ao)).1∧(True∧(1:Int)=(1:Int)∧True∧True∧True∧True∧True∧True∧True∧True∧True∧True∧True∧True∧True∧True∧True∧True∧True∧True∧True∧True∧True∧True∧True∧True∧True∧True∧((pj4 ao).2.1=(pj4 aS).2.2.1∧(pj4 ao).2.2.1=(pj4 aS).2.2.2.1∧(([]:List SV)=[]))∧((pj4 ao).2.2.2.1=(pj8 aS).1∧(pj8 ao).1=(pj8 aS).2.1∧(([]:List SV)=[]))∧(1:Int)=(1:Int)∧W_∧True∧True∧True∧True∧True∧True∧True∧True∧True∧True∧(([]:List SV)=[])))∧(ao.2.2.1=aS.2.2.2.1∧ao.2.2.2.1=(pj4 aS).1∧(([]:List SV)=[]))∧((pj4 ao).1=(pj4 aS).2.1∧(([]:List SV)=[]))∧Qx∧(d14.2.2=d27.2∧(List.isEmpty d14.2.2)=(List.isEmpty d27.2))∧((pj8 ao).2.1=(pj8 aS).2.2.1∧(([]:List SV)=[]))∧True))∧qW d27))) ∧
      (d14.1=false →
       (pj4 (Q1 ao)).2=gO∧(I64 ((pj4 (pj8 ao)).2.2.2.1+(1:Int)))∧(∃ d28:Int×Xa,((True∧True∧True∧(pj4 (pj8 ao)).2.2.1=aS.2.2.1∧((pj4 (pj8 ao)).2.2.2.1+(1:Int))=d28.1∧True)∧((((((pj8 ao).2.2.1=aS.1∧(pj8 ao).2.2.2.1=aS.2.1∧(([]:List SV)=[]))∧(([]:List SV)=[]))∧((([]:List SV)=[])))∧(([]:List SV)=[]))∧XG∧Qx∧((pj8 aS).2.2.2=(pj4 (pj8 ao)).1∧(True∧(1:Int)=(1:Int)∧True∧True∧True∧True∧True∧True∧True∧True∧True∧True∧True∧True∧True∧True∧True∧True∧True∧True∧True∧True∧True∧True∧True∧True∧True∧True∧((pj4 ao).2.1=(pj4 aS).2.2.1∧(pj4 ao).2.2.1=(pj4 aS).2.2.2.1∧(([]:List SV)=[]))∧((pj4 ao).2.2.2.1=(pj8 aS).1∧(pj8 ao).1=(pj8 aS).2.1∧(([]:List SV)=[]))∧(1:Int)=(1:Int)∧W_∧True∧True∧True∧True∧True∧True∧True∧True∧True∧True∧(([]:List SV)=[])))∧(ao.2.2.1=aS.2.2.2.1∧ao.2.2.2.1=(pj4 aS).1∧(([]:List SV)=[]))∧((pj4 ao).1=(pj4 aS).2.1∧(([]:List SV)=[]))∧Qx∧(d14.2.2=d28.2∧(List.isEmpty d14.2.2)=(List.isEmpty d28.2))∧((pj8 ao).2.1=(pj8 aS).2.2.1∧(([]:List SV)=[]))∧True))∧qW d28)))) d140) ∧
   ((decide (d10.1<aS.2.2.1))=false →
    (pj8 aS).2.2.2=w6∧((True∧(0:Int)=(Y2 hd rows bd)∧(([]:List SV)=[]))∧((d10.2=(Ti hd rows bd)∧(List.isEmpty d10.2)=(Ti hd rows bd).isEmpty)∧True)))) d100)
def Z9:Cx:=⟨[],[],21,[3000014],0,[],[],[],[2,3,5,6,12],false,[],[],[14],[]⟩
def Za:List (Nat×LoopAnn):=[]
def Qq:Cx:=⟨[],[(97,JO)],50,[3000041],0,[],[],[],[],false,[],[],[41],[]⟩
def Qr:List (Nat×LoopAnn):=[(0,⟨(List Bool)×Int×Int×(List Int)×Int×Int×(List Int)×Int×(List Int)×Int×Int×(List Int)×LpD×Int×Int×Int×Bool×Int×Int×(List Int)×Int×LpD,Bool×Int×(List (Int×Int×Int×Bool)),[1,2,4,5,10,11],fun e x=>[.dd 200002200002 .yv,.box 20000220000300002 0,.fn 97 [] [.box 20000220000300002 0],.val .bo x.1,.val (.i .i64) e.2.1,.val (.i .i64) x.2.1],fun e x=>[(20000220000300002,.slot 2,.cells [.lst 200000200014] (some 166)),(200000200014,.cell 20000220000300002 0,.lst 4 .bo e.1 (List.isEmpty e.1)),(2000001,.key 2000001,.lpf [.any,.val (.i .i64) (1:Int),.any,.box 3 0,.any,.box 5 0,.box 6 0,.any,.any,.any,.any,.any,.any,.any,.any,.any,.any,.any,.any,.any,.any,.any,.any,.any,.any,.any,.any,.any,.agg [.val (.i .i64) e.2.2.2.2.2.1,.val (.list (.i .i64)) e.2.2.2.2.2.2.1],.agg [.val (.i .i64) e.2.2.2.2.2.2.2.1,.val (.list (.i .i64)) e.2.2.2.2.2.2.2.2.1],.val (.i .i64) (1:Int),.fn 84 [] [.box 3200006 0,.box 3200005 0,.box 3200003 0],.any,.any,.any,.any,.any,.any,.any,.any,.any,.any] e.2.2.2.2.2.2.2.2.2.2.2.2.1 .rdy),(3,.key 3,.cells [.val (.i .i64) e.2.2.1,.val (.list (.i .i64)) e.2.2.2.1] (some 30)),(5,.key 5,.cells [.val (.i .i64) e.2.2.2.2.1] (some 3)),(6,.key 6,.cells [.lst 40] (some 68)),(40,.cell 6 0,.lst 84 (.pair (.i .i64) (.pair (.i .i64) (.pair (.i .i64) .bo))) x.2.2 (List.isEmpty x.2.2)),(3200006,.key 3200006,.cells [.val (.i .i64) e.2.2.2.2.2.2.2.2.2.1] (some 3)),(3200005,.key 3200005,.cells [.fn 82 [.agg [.val (.i .i64) e.2.2.2.2.2.2.2.2.2.2.1,.val (.list (.i .i64)) e.2.2.2.2.2.2.2.2.2.2.2.1]] []] (some 164)),(3200003,.key 3200003,.cells [.val (.i .i64) (1:Int)] (some 72)),(200002200002,.key 200002200002,.lpf [.any,.any,.box 3200005 0,.box 3200003 0,.box 200000200004 0,.box 200000200005 0,.any,.any,.val (.i .i64) e.2.2.2.2.2.2.2.2.2.2.2.2.2.2.1,.val (.i .i64) e.2.2.2.2.2.2.2.2.2.2.2.2.2.2.2.1,.val .bo e.2.2.2.2.2.2.2.2.2.2.2.2.2.2.2.2.1,.val (.i .i64) e.2.2.2.2.2.2.2.2.2.2.2.2.2.2.2.2.2.1,.fn 82 [.agg [.val (.i .i64) e.2.2.2.2.2.2.2.2.2.2.2.2.2.2.2.2.2.2.1,.val (.list (.i .i64)) e.2.2.2.2.2.2.2.2.2.2.2.2.2.2.2.2.2.2.2.1]] [],.val (.i .i64) e.2.2.2.2.2.2.2.2.2.2.2.2.2.2.2.2.2.2.2.2.1,.lst 200000200014,.fn 85 [.lst 200000200014] [],.any,.any,.any,.any,.any,.any,.any,.any,.any,.any,.any,.any,.any,.any,.any,.any,.any,.any,.any,.any,.any] e.2.2.2.2.2.2.2.2.2.2.2.2.2.2.2.2.2.2.2.2.2 .rdy),(200000200004,.key 200000200004,.cells [.dd 2000001 .yv] (some 163)),(200000200005,.key 200000200005,.cells [.val (.i .i64) e.2.2.2.2.2.2.2.2.2.2.2.2.2.1] (some 3))]⟩),
 (2,⟨(List Bool)×Bool×Int×Int×Bool×Int×Int×Int×(List Int)×Int×(List (Int×Int×Int×Bool))×Int×(List Int)×Int×(List Int)×Int×Int×(List Int)×LpD×Int×Int×Int×Bool×Int×Int×(List Int)×Int×LpD,Int,[1,2,4,5,6,7,10,11],fun e x=>[.dd 200002200002 .yv,.box 20000220000300002 0,.fn 97 [] [.box 20000220000300002 0],.val .bo e.2.1,.val (.i .i64) e.2.2.1,.box 20000220000300007 0,.val (.i .i64) e.2.2.2.2.2.1,.val (.i .i64) e.2.2.2.2.2.2.1],fun e x=>[(20000220000300002,.slot 2,.cells [.lst 200000200014] (some 166)),(200000200014,.cell 20000220000300002 0,.lst 4 .bo e.1 (List.isEmpty e.1)),(20000220000300007,.slot 7,.cells [.val (.i .i64) e.2.2.2.1,.val (.i .i64) x,.val .bo e.2.2.2.2.1] (some 168)),(2000001,.key 2000001,.lpf [.any,.val (.i .i64) (1:Int),.any,.box 3 0,.any,.box 5 0,.box 6 0,.any,.any,.any,.any,.any,.any,.any,.any,.any,.any,.any,.any,.any,.any,.any,.any,.any,.any,.any,.any,.any,.agg [.val (.i .i64) e.2.2.2.2.2.2.2.2.2.2.2.1,.val (.list (.i .i64)) e.2.2.2.2.2.2.2.2.2.2.2.2.1],.agg [.val (.i .i64) e.2.2.2.2.2.2.2.2.2.2.2.2.2.1,.val (.list (.i .i64)) e.2.2.2.2.2.2.2.2.2.2.2.2.2.2.1],.val (.i .i64) (1:Int),.fn 84 [] [.box 3200006 0,.box 3200005 0,.box 3200003 0],.any,.any,.any,.any,.any,.any,.any,.any,.any,.any] e.2.2.2.2.2.2.2.2.2.2.2.2.2.2.2.2.2.2.1 .rdy),(3,.key 3,.cells [.val (.i .i64) e.2.2.2.2.2.2.2.1,.val (.list (.i .i64)) e.2.2.2.2.2.2.2.2.1] (some 30)),(5,.key 5,.cells [.val (.i .i64) e.2.2.2.2.2.2.2.2.2.1] (some 3)),(6,.key 6,.cells [.lst 40] (some 68)),(40,.cell 6 0,.lst 84 (.pair (.i .i64) (.pair (.i .i64) (.pair (.i .i64) .bo))) e.2.2.2.2.2.2.2.2.2.2.1 (List.isEmpty e.2.2.2.2.2.2.2.2.2.2.1)),(3200006,.key 3200006,.cells [.val (.i .i64) e.2.2.2.2.2.2.2.2.2.2.2.2.2.2.2.1] (some 3)),(3200005,.key 3200005,.cells [.fn 82 [.agg [.val (.i .i64) e.2.2.2.2.2.2.2.2.2.2.2.2.2.2.2.2.1,.val (.list (.i .i64)) e.2.2.2.2.2.2.2.2.2.2.2.2.2.2.2.2.2.1]] []] (some 164)),(3200003,.key 3200003,.cells [.val (.i .i64) (1:Int)] (some 72)),(200002200002,.key 200002200002,.lpf [.any,.any,.box 3200005 0,.box 3200003 0,.box 200000200004 0,.box 200000200005 0,.any,.any,.val (.i .i64) e.2.2.2.2.2.2.2.2.2.2.2.2.2.2.2.2.2.2.2.2.1,.val (.i .i64) e.2.2.2.2.2.2.2.2.2.2.2.2.2.2.2.2.2.2.2.2.2.1,.val .bo e.2.2.2.2.2.2.2.2.2.2.2.2.2.2.2.2.2.2.2.2.2.2.1,.val (.i .i64) e.2.2.2.2.2.2.2.2.2.2.2.2.2.2.2.2.2.2.2.2.2.2.2.1,.fn 82 [.agg [.val (.i .i64) e.2.2.2.2.2.2.2.2.2.2.2.2.2.2.2.2.2.2.2.2.2.2.2.2.1,.val (.list (.i .i64)) e.2.2.2.2.2.2.2.2.2.2.2.2.2.2.2.2.2.2.2.2.2.2.2.2.2.1]] [],.val (.i .i64) e.2.2.2.2.2.2.2.2.2.2.2.2.2.2.2.2.2.2.2.2.2.2.2.2.2.2.1,.lst 200000200014,.fn 85 [.lst 200000200014] [],.any,.any,.any,.any,.any,.any,.any,.any,.any,.any,.any,.any,.any,.any,.any,.any,.any,.any,.any,.any,.any] e.2.2.2.2.2.2.2.2.2.2.2.2.2.2.2.2.2.2.2.2.2.2.2.2.2.2.2 .rdy),(200000200004,.key 200000200004,.cells [.dd 2000001 .yv] (some 163)),(200000200005,.key 200000200005,.cells [.val (.i .i64) e.2.2.2.2.2.2.2.2.2.2.2.2.2.2.2.2.2.2.2.1] (some 3))]⟩)]
def QY:Cx:=⟨[],[(82,X5)],37,[3000026,3000035],0,[],[],[],[],false,[],[(85,Q6w Qq Qr c85 50)],[26,35],[]⟩
def QZ:List (Nat×LoopAnn):=[(0,⟨Int×(List Int)×Int×Int×(List Int)×Int×Int×(List Int)×Int×(List Int)×Int×LpD,Int×(List (Int×Int×Int×Bool)),[2,3,4,8,9],fun e x=>[.box 3200005 0,.box 3200003 0,.box 200000200004 0,.val (.i .i64) e.2.2.1,.val (.i .i64) x.1],fun e x=>[(3200005,.slot 2,.cells [.fn 82 [.agg [.val (.i .i64) e.1,.val (.list (.i .i64)) e.2.1]] []] (some 164)),(3200003,.slot 3,.cells [.val (.i .i64) (1:Int)] (some 72)),(200000200004,.slot 4,.cells [.dd 2000001 .yv] (some 163)),(2000001,.key 2000001,.lpf [.any,.val (.i .i64) (1:Int),.any,.box 3 0,.any,.box 5 0,.box 6 0,.any,.any,.any,.any,.any,.any,.any,.any,.any,.any,.any,.any,.any,.any,.any,.any,.any,.any,.any,.any,.any,.agg [.val (.i .i64) e.2.2.2.2.2.2.1,.val (.list (.i .i64)) e.2.2.2.2.2.2.2.1],.agg [.val (.i .i64) e.2.2.2.2.2.2.2.2.1,.val (.list (.i .i64)) e.2.2.2.2.2.2.2.2.2.1],.val (.i .i64) (1:Int),.fn 84 [] [.box 3200006 0,.box 3200005 0,.box 3200003 0],.any,.any,.any,.any,.any,.any,.any,.any,.any,.any] e.2.2.2.2.2.2.2.2.2.2.2 .rdy),(3,.key 3,.cells [.val (.i .i64) e.2.2.2.1,.val (.list (.i .i64)) e.2.2.2.2.1] (some 30)),(5,.key 5,.cells [.val (.i .i64) e.2.2.2.2.2.1] (some 3)),(6,.key 6,.cells [.lst 40] (some 68)),(40,.cell 6 0,.lst 84 (.pair (.i .i64) (.pair (.i .i64) (.pair (.i .i64) .bo))) x.2 (List.isEmpty x.2)),(3200006,.key 3200006,.cells [.val (.i .i64) e.2.2.2.2.2.2.2.2.2.2.1] (some 3))]⟩)]
def Vl:Cx:=⟨[(3,(.i .i64)),(84,(.pair (.i .i64) (.pair (.i .i64) (.pair (.i .i64) .bo))))],[(47,Xc),(52,JC)],42,[3000016],0,[(55,Q1f Z9 (fun _=>Za) c55 [.tmp 4] 21)],[],[],[],false,[],[(84,Q6w QY QZ c84 37)],[16],[]⟩
def BC (hd:Int) (rows:List Int) (bd:Int):List (Nat×LoopAnn):=[(3000012,⟨Unit,Unit,[1,3,5,6],fun e x=>[.val (.i .i64) (1:Int),.box 3 0,.box 5 0,.box 6 0],fun e x=>[(3,.slot 3,.cells [.val (.i .i64) hd,.val (.list (.i .i64)) rows] (some 30)),(5,.slot 5,.cells [.val (.i .i64) bd] (some 3)),(6,.slot 6,.cells [.nilS] (some 68))]⟩)]
theorem B6 (d:(Int×List Int)×Unit×Int):gwp (Vl) (BC d.1.1 d.1.2 d.2.2) c31 0 (U0 [.cell 6 false 1,.tmp 7] (KP d) (KG d)) (QS 42 (AL.can Va d))=Xi d.1.1 d.1.2 d.2.2:=by kernel_rfl
abbrev DG:Prop:=OkC Tryz.prog 31 YL
theorem Dv (h:∀ (hd:Int) (rows:List Int) (bd:Int),(rows.length≤1000)→Xi hd rows bd):OkC Tryz.prog 31 YL :=
 Z8 Q1t mixed (C:=Vl) (V:=fun (d:(Int×List Int)×Unit×Int)=>Xi d.1.1 d.1.2 d.2.2) ⟨(.cons YS (.cons WZ .nil)),(XsOk.cons (Mz Q1q mixed (C:=Z9) ⟨.nil,XsOk.nil,ItsOk.nil,YlOk.nil,IysOk.nil,XfOk.nil⟩ (fun _=>Za)) XsOk.nil),ItsOk.nil,YlOk.nil,(IysOk.cons (S8 Q20 mixed (C:=QY) ⟨(.cons Nf .nil),XsOk.nil,ItsOk.nil,YlOk.nil,(IysOk.cons (S8 Q2q mixed (C:=Qq) ⟨(.cons Uy .nil),XsOk.nil,ItsOk.nil,YlOk.nil,IysOk.nil,XfOk.nil⟩ Qr) IysOk.nil),XfOk.nil⟩ QZ) IysOk.nil),XfOk.nil⟩ (B6) fun d hp=>h d.1.1 d.1.2 d.2.2 hp
set_option maxHeartbeats 1600000 in
theorem Bc:DG:=Dv fun hd rows bd h=>by
 unfold Xi;delta Qx W_ XG SY Xa Nm Nr Vx;(try delta lI gD sT I64 Q1 pj8 pj4);have ea:(!(!([bd].any fun n=>decide (n<0)||decide (1000<n))))=!inI bd 0 1000:=by rw[Bool.eq_iff_iff];simp[inI]<;>omega
 rw[ea];refine⟨by omega,(),fun _=>Qb hd rows=0∧inI bd 0 1000=true,⟨fun he=>?_,fun he=>⟨by simp,fun hb=>?_,fun hb=>?_⟩⟩,?_⟩
 ·have he:Qb hd rows≠0:=by simpa using he
  have e:Y2 hd rows bd=Qb hd rows:=by simp[Y2,he]
  have e2:Ti hd rows bd=[]:=by simp[Ti,e,he]
  rw[e,e2];exact(by and_intros<;>first|rfl|trivial|simp)
 ·have he:Qb hd rows=0:=by simpa using he
  have hb:inI bd 0 1000=false:=by simpa using hb
  have e:Y2 hd rows bd=3:=by simp[Y2,he,hb]
  have e2:Ti hd rows bd=[]:=by simp[Ti,e]
  rw[e,e2];exact(by and_intros<;>first|rfl|trivial|simp)
 ·exact⟨(),(by and_intros<;>first|rfl|trivial|simp),by simpa using he,by simpa using hb⟩
 rintro _ ⟨he,hb⟩ w5;have e:Y2 hd rows bd=0:=by simp[Y2,he,hb]
 have e2:Ti hd rows bd=Ae hd rows bd rows.length:=by simp[Ti,e]
 rw[e,e2];have lr:0≤bd∧bd≤1000:=by simpa [inI] using hb
 obtain⟨p1,p2,p3,p4,p5⟩:=Mk he;have pQ:=X8 p1 p2;have gU:∀ x∈rows,0≤x∧x<16777216:=fun x hx=>by have:=p5 x hx;omega
 have hN:=fun i=>Bo hd rows bd i;have sk:=fun i=>S_ hd rows bd i;clear e e2 ea hb he pQ p5;obtain⟨H,rfl⟩:=Int.eq_ofNat_of_zero_le (show 0≤hd by omega);simp only[Int.toNat_natCast] at hN sk;repeat refine⟨by and_intros<;>first|rfl|trivial,?_⟩
 intro w6;refine⟨((H:Int),rows,(rows.length:Int),(H:Int),rows,bd,(H:Int),rows,(H:Int),rows,(rows.length:Int),w6),(0,[]),by and_intros<;>first|rfl|trivial,?_⟩;refine⟨fun d=>∃ i:Nat,i≤rows.length∧d=((i:Int),Ae (H:Int) rows bd i),fun d=>rows.length-d.1.toNat,⟨0,by omega,by simp[Ae]⟩,?_⟩;rintro _ ⟨i,hi,rfl⟩;dsimp only;refine⟨fun g=>?_,fun g=>?_⟩
 ·have g:i<rows.length:=by have:=of_decide_eq_true g;omega
  refine⟨⟨by omega,by omega,by omega,by omega,by omega,gU⟩,fun gO=>?_⟩;have hn:=hN i;have dz:=sk i;have cj:i*H≤60*24:=Nat.mul_le_mul (by omega) (by omega);simp only[Int.toNat_natCast];have aO:=Pt (rows.getD i 0) H;generalize MY (rows.getD i 0) H=p at hn aO ⊢;generalize v8:Ae (H:Int) rows bd i=N at hn dz ⊢;have h0:p≠[]:=by rintro rfl;simp at aO;omega
  have hn:Ae (H:Int) rows bd (i+1)=N++ZU i bd p p.length:=by rw[aO];exact hn
  refine⟨(p,(p.length:Int),(H:Int),rows,bd,(H:Int),rows,(H:Int),rows,(rows.length:Int),(H:Int),rows,w6,(i:Int),(rows.length:Int),(i:Int),decide ((i:Int)<(rows.length:Int)),(i:Int),(H:Int),rows,(i:Int),gO),(true,0,N),by and_intros<;>first|rfl|trivial,?_⟩;dsimp only;refine⟨fun d=>∃ j:Nat,j≤p.length∧d.2.1=(j:Int)∧(d.1=true∧(∀ t,t<j→bgB p t=false)∧d.2.2=N∨d.1=false∧(∃ t,t<j∧bgB p t=true)∧d.2.2=N++ZU i bd p j),fun d=>p.length-d.2.1.toNat,⟨0,by omega,rfl,.inl ⟨rfl,fun t ht=>by omega,rfl⟩⟩,?_⟩;rintro⟨en,j',xs⟩ ⟨j,hj,cU,hJ⟩;dsimp only at cU hJ ⊢;subst cU;have fg:=Mj i bd p j;have fO:xs.length≤2000:=by
   rcases hJ with⟨_,_,h3⟩|⟨_,_,h3⟩<;>rw[h3]
   ·omega
   ·rw[List.length_append];omega
  refine⟨fun g2=>?_,fun g2=>?_⟩
  ·have g2:j<p.length:=by have:=of_decide_eq_true g2;omega
   simp only[Int.toNat_natCast];refine⟨⟨by omega,by omega,by omega⟩,fun hb=>?_,fun hb=>?_⟩
   ·have hb:bgB p j=false:=by simpa using hb
    refine⟨by rw[Q9];omega,(en,(j:Int)+1,xs),by and_intros<;>first|rfl|trivial,⟨j+1,by omega,by dsimp only;omega,?_⟩,by dsimp only;omega⟩;rcases hJ with⟨h1,h2,h3⟩|⟨h1,⟨t,ht,cI⟩,h3⟩
    ·refine .inl ⟨h1,fun t ht=>?_,h3⟩;rcases Nat.lt_succ_iff_lt_or_eq.1 ht with ht|rfl
     ·exact h2 t ht
     ·exact hb
    ·exact .inr ⟨h1,⟨t,by omega,cI⟩,by dsimp only;rw[EW hb ⟨t,ht,cI⟩];exact h3⟩
   ·have hb:bgB p j=true:=by simpa using hb
    have bh:xs=N++ZU i bd p j:=by
     rcases hJ with⟨_,h2,h3⟩|⟨_,_,h3⟩
     ·rw[Gx g2 hb h2,List.append_nil];exact h3
     ·exact h3
    refine⟨by omega,by omega,?_⟩;refine⟨(p,false,(j:Int),(j:Int),p.getD j false,(p.length:Int),(j:Int),(H:Int),rows,bd,xs,(H:Int),rows,(H:Int),rows,(rows.length:Int),(H:Int),rows,w6,(i:Int),(rows.length:Int),(i:Int),decide ((i:Int)<(rows.length:Int)),(i:Int),(H:Int),rows,(i:Int),gO),1,by and_intros<;>first|rfl|trivial,?_⟩;dsimp only;refine⟨fun d=>∃ L:Nat,d=L∧1≤L∧L≤p.length∧∀ t,1≤t→t<L→bgB p (j+t)=false,fun d=>p.length+1-d.toNat,⟨1,rfl,by omega,by omega,fun t h1 h2=>by omega⟩,?_⟩;rintro _ ⟨L,rfl,qZ,q7,oz⟩;have e3:(j:Int)+(L:Int)=((j+L:Nat):Int):=by omega
    have hm:(j+L) % p.length<p.length:=Nat.mod_lt _ (by omega);simp only[e3,E2,Int.toNat_natCast,Np h0];refine⟨by rw[Q9];omega,by omega,⟨by omega,by omega,by omega⟩,fun hx=>?_,fun hx=>?_⟩
    ·have hx:bgB p (j+L)=false:=by simpa using hx
     have vh:L<p.length:=by
      rcases Nat.lt_or_ge L p.length with h1|h1
      ·exact h1
      ·exfalso;have:L=p.length:=by omega
       subst this;rw[←Np h0,Nat.add_mod_right,Np h0,hb] at hx;cases hx
     refine⟨by rw[Q9];omega,(L:Int)+1,by and_intros<;>first|rfl|trivial,⟨L+1,by omega,by omega,by omega,fun t h1 h2=>?_⟩,by omega⟩;rcases Nat.lt_succ_iff_lt_or_eq.1 h2 with h2|rfl
     ·exact oz t h1 h2
     ·exact hx
    ·have hx:bgB p (j+L)=true:=by simpa using hx
     have jL:=SL (i:=i) (bd:=bd) g2 hb qZ q7 oz hx;have fin:∀ ys,ys=N++ZU i bd p (j+1)→∃ j2:Nat,j2≤p.length∧((j:Int)+1)=(j2:Int)∧(false=true∧(∀ t,t<j2→bgB p t=false)∧ys=N∨false=false∧(∃ t,t<j2∧bgB p t=true)∧ys=N++ZU i bd p j2):=fun ys hy=>⟨j+1,by omega,by omega,.inr ⟨rfl,⟨j,by omega,hb⟩,hy⟩⟩;repeat first|refine⟨trivial,?_⟩|refine⟨rfl,?_⟩
     intro iV;repeat first|refine⟨trivial,?_⟩|refine⟨rfl,?_⟩
     intro ov;refine⟨fun eO=>?_,fun hle=>?_⟩
     ·have eO:bd<(L:Int):=by have:=of_decide_eq_true eO;omega
      rw[if_pos eO] at jL;refine⟨by simp only[List.length_singleton];omega,?_⟩;repeat first|refine⟨trivial,?_⟩|refine⟨rfl,?_⟩
      refine⟨by rw[Q9];omega,(false,(j:Int)+1,xs++[((i:Int),(j:Int),(L:Int),p.getD j false)]),?_,fin _ (by rw[jL,bh,List.append_assoc]),by dsimp only;omega⟩;have:(xs++[((i:Int),(j:Int),(L:Int),p.getD j false)]).isEmpty=false:=by simp
      rw[this];and_intros<;>first|rfl|trivial
     ·have hle:¬ bd<(L:Int):=by have:=of_decide_eq_false hle;omega
      rw[if_neg hle,List.append_nil] at jL;repeat first|refine⟨trivial,?_⟩|refine⟨rfl,?_⟩
      exact⟨by rw[Q9];omega,(false,(j:Int)+1,xs),by and_intros<;>first|rfl|trivial,fin _ (by rw[jL,bh]),by dsimp only;omega⟩
  ·have g2:j=p.length:=by have:=of_decide_eq_false g2;omega
   subst g2;have fin:∀ ys,ys=N++ZU i bd p p.length→∃ i2:Nat,i2≤rows.length∧(((i:Int)+1,ys):Int×List (Int×Int×Int×Bool))=((i2:Int),Ae (H:Int) rows bd i2):=fun ys hy=>⟨i+1,by omega,by rw[hy,←hn];rfl⟩;refine⟨fun vi=>?_,fun vj=>?_⟩
   ·obtain⟨_,h2,h3⟩:en=true∧(∀ t,t<p.length→bgB p t=false)∧xs=N:=by
     rcases hJ with h|⟨h1,_⟩
     ·exact h
     ·rw[vi] at h1;cases h1
    have eI:=Ht (i:=i) (bd:=bd) h0 h2;refine⟨by omega,by omega,?_⟩;repeat first|refine⟨trivial,?_⟩|refine⟨rfl,?_⟩
    intro ox;repeat first|refine⟨trivial,?_⟩|refine⟨rfl,?_⟩
    intro oy;refine⟨fun eO=>?_,fun hle=>?_⟩
    ·have eO:bd<1000:=by have:=of_decide_eq_true eO;omega
     rw[if_pos eO] at eI;refine⟨by simp only[List.length_singleton];omega,?_⟩;repeat first|refine⟨trivial,?_⟩|refine⟨rfl,?_⟩
     refine⟨by rw[Q9];omega,((i:Int)+1,xs++[((i:Int),0,1000,p.getD 0 false)]),?_,fin _ (by rw[eI,h3]),by dsimp only;omega⟩;have:(xs++[((i:Int),(0:Int),(1000:Int),p.getD 0 false)]).isEmpty=false:=by simp
     rw[this];and_intros<;>first|rfl|trivial
    ·have hle:¬ bd<1000:=by have:=of_decide_eq_false hle;omega
     rw[if_neg hle] at eI;repeat first|refine⟨trivial,?_⟩|refine⟨rfl,?_⟩
     exact⟨by rw[Q9];omega,((i:Int)+1,xs),by and_intros<;>first|rfl|trivial,fin _ (by rw[eI,h3,List.append_nil]),by dsimp only;omega⟩
   ·have h3:xs=N++ZU i bd p p.length:=by
     rcases hJ with⟨h1,_⟩|⟨_,_,h3⟩
     ·rw[vj] at h1;cases h1
     ·exact h3
    repeat first|refine⟨trivial,?_⟩|refine⟨rfl,?_⟩
    exact⟨by rw[Q9];omega,((i:Int)+1,xs),by and_intros<;>first|rfl|trivial,fin _ h3,by dsimp only;omega⟩
 ·have g:i=rows.length:=by have:=of_decide_eq_false g;omega
  subst g;and_intros<;>first|rfl|trivial
def fwL (s:List UInt8) (w:Nat):Nat:=((List.range (s.length+1)).find? fun k=>decide (1≤k)&&(s.getD ((w+k) % s.length) 0 != s.getD w 0)).getD 1000
def Cm (a:Int) (s:List UInt8) (n:Nat):Int:=(List.range n).foldl (fun a w=>MZ a (fwL s w:Nat)) a
def LR (c:List (List UInt8)) (n:Nat):Int:=(List.range n).foldl (fun a i=>Cm a (c.getD i []) (c.getD i []).length) 0
def Ih (c:List (List UInt8)):Int:=LR c c.length
theorem EI (a:Int) (s:List UInt8) (n:Nat):Cm a s (n+1)=MZ (Cm a s n) (fwL s n:Nat):=by simp[Cm,List.range_succ]
theorem Bw (c:List (List UInt8)) (n:Nat):LR c (n+1)=Cm (LR c n) (c.getD n []) (c.getD n []).length:=by simp only[LR,List.range_succ,List.foldl_append,List.foldl_cons,List.foldl_nil]
theorem Q62 {s:List UInt8}{w k:Nat}(h1:1≤k) (h2:k≤s.length) (hx:s.getD ((w+k) % s.length) 0≠s.getD w 0) (h:∀ t,1≤t→t<k→s.getD ((w+t) % s.length) 0=s.getD w 0):fwL s w=k:=by
 unfold fwL;have:(List.range (s.length+1)).find? (fun k=>decide (1≤k)&&(s.getD ((w+k) % s.length) 0 != s.getD w 0))=some k:=by
  refine List.find?_range_eq_some.2 ⟨?_,by simp;omega,fun j hj=>?_⟩
  ·rw[decide_eq_true h1,Bool.true_and,bne_iff_ne];exact hx
  ·rcases Nat.eq_zero_or_pos j with h0|h0
   ·simp[h0]
   ·rw[h j h0 hj];simp
 rw[this];rfl
theorem Q1o {s:List UInt8}{w:Nat}(h:∀ t,1≤t→t≤s.length→s.getD ((w+t) % s.length) 0=s.getD w 0):fwL s w=1000:=by
 unfold fwL;have:(List.range (s.length+1)).find? (fun k=>decide (1≤k)&&(s.getD ((w+k) % s.length) 0 != s.getD w 0))=none:=by
  rw[List.find?_eq_none];intro j hj;rw[List.mem_range] at hj;rcases Nat.eq_zero_or_pos j with h0|h0
  ·simp[h0]
  ·rw[h j h0 (by omega)];simp
 rw[this];rfl
theorem Q6z (x y:UInt8):(((x.toNat:Nat):Int)==((y.toNat:Nat):Int))=(x==y):=by
 rw[Bool.eq_iff_iff,beq_iff_eq,beq_iff_eq];constructor
 ·intro h;exact UInt8.toNat_inj.1 (by omega)
 ·intro h;rw[h]
def KF:AL (List (List UInt8)):=(.one (.k (.list .st)))
def MT (d:List (List UInt8)):Prop:=d.length≤1000∧(∀ s∈d,s.length≤1000)
def Kf (d:List (List UInt8)):SV:=.val (.i .i64) (Ih d)
def K9 (d:List (List UInt8)):List OB:=[]
def Ye:CSp:=V0 KF MT Kf K9
def JG (c:List (List UInt8)):Prop :=
 ∃ (e2:Unit) (d20:Int×Int),((c=c∧(0:Int)=d20.1∧(0:Int)=d20.2∧True)∧(True)) ∧
 LoopP (fun (d2:Int×Int) (q2:(Int×Int)→Prop) =>
  ((decide (d2.2<(lI c)))=true →
   (0≤d2.2)∧(d2.2<(List.length c))∧∃ (e4:Int×Int) (d40:Int×Int),((c=c∧d2.1=d40.1∧d2.2=e4.1∧(lI (gD c d2.2 []))=e4.2∧(0:Int)=d40.2∧True)∧(True)) ∧
   LoopP (fun (d4:Int×Int) (q4:(Int×Int)→Prop) =>
    ((decide (d4.2<e4.2))=true →
     ∃ (e6:Int×Int×Int×Int) (d60:Int),((c=c∧d4.1=e6.1∧e4.1=e6.2.1∧e4.2=e6.2.2.1∧d4.2=e6.2.2.2∧(1:Int)=d60∧True)∧(True)) ∧
     LoopP (fun (d6:Int) (q6:(Int)→Prop) =>
      ((decide (d6≤e6.2.2.1))=true→0≤e6.2.1)∧((decide (d6≤e6.2.2.1))=true→e6.2.1<(List.length c))∧((decide (d6≤e6.2.2.1))=true→InK .i64 (e6.2.2.2+d6))∧((decide (d6≤e6.2.2.1))=true→e6.2.2.1≠0)∧((decide (d6≤e6.2.2.1))=true→0≤(Int.tmod (e6.2.2.2+d6) e6.2.2.1))∧((decide (d6≤e6.2.2.1))=true→(Int.tmod (e6.2.2.2+d6) e6.2.2.1)<(List.length (gD c e6.2.1 [])))∧((decide (d6≤e6.2.2.1))=true→0≤e6.2.1)∧((decide (d6≤e6.2.2.1))=true→e6.2.1<(List.length c))∧((decide (d6≤e6.2.2.1))=true→0≤e6.2.2.2)∧((decide (d6≤e6.2.2.1))=true→e6.2.2.2<(List.length (gD c e6.2.1 [])))∧(((decide (d6≤e6.2.2.1))&&(((UInt8.toNat (gD (gD c e6.2.1 []) (Int.tmod (e6.2.2.2+d6) e6.2.2.1) 0):Nat):Int)==((UInt8.toNat (gD (gD c e6.2.1 []) e6.2.2.2 0):Nat):Int)))=true →
       (I64 (d6+(1:Int)))∧(∃ d7:Int,((c=c∧e6.1=e6.1∧e6.2.1=e6.2.1∧e6.2.2.1=e6.2.2.1∧e6.2.2.2=e6.2.2.2∧(d6+(1:Int))=d7∧True)∧(True))∧q6 d7)) ∧
      (((decide (d6≤e6.2.2.1))&&(((UInt8.toNat (gD (gD c e6.2.1 []) (Int.tmod (e6.2.2.2+d6) e6.2.2.1) 0):Nat):Int)==((UInt8.toNat (gD (gD c e6.2.1 []) e6.2.2.2 0):Nat):Int)))=false →
       ((decide (d6 > e6.2.2.1))=true →
        (I64 (e6.2.2.2+(1:Int)))∧(∃ d8:Int×Int,((c=c∧(MZ e6.1 (1000:Int))=d8.1∧e6.2.1=e4.1∧e6.2.2.1=e4.2∧(e6.2.2.2+(1:Int))=d8.2∧True)∧(True))∧q4 d8)) ∧
       ((decide (d6 > e6.2.2.1))=false →
        (I64 (e6.2.2.2+(1:Int)))∧(∃ d9:Int×Int,((c=c∧(MZ e6.1 d6)=d9.1∧e6.2.1=e4.1∧e6.2.2.1=e4.2∧(e6.2.2.2+(1:Int))=d9.2∧True)∧(True))∧q4 d9)))) d60) ∧
    ((decide (d4.2<e4.2))=false →
     (I64 (e4.1+(1:Int)))∧(∃ d10:Int×Int,((c=c∧d4.1=d10.1∧(e4.1+(1:Int))=d10.2∧True)∧(True))∧q2 d10))) d40) ∧
  ((decide (d2.2<(lI c)))=false →
   (d2.1=(Ih c)∧(True)))) d20
def KM:Cx:=⟨[],[],55,[],0,[],[],[],[],false,[],[],[],[]⟩
def GN (c:List (List UInt8)):List (Nat×LoopAnn):=[(0,⟨Unit,Int×Int,[0,3,4],fun e x=>[.val (.list .st) c,.val (.i .i64) x.1,.val (.i .i64) x.2],fun e x=>[]⟩),
 (2,⟨Int×Int,Int×Int,[0,3,4,5,6],fun e x=>[.val (.list .st) c,.val (.i .i64) x.1,.val (.i .i64) e.1,.val (.i .i64) e.2,.val (.i .i64) x.2],fun e x=>[]⟩),
 (4,⟨Int×Int×Int×Int,Int,[0,3,4,5,6,7],fun e x=>[.val (.list .st) c,.val (.i .i64) e.1,.val (.i .i64) e.2.1,.val (.i .i64) e.2.2.1,.val (.i .i64) e.2.2.2,.val (.i .i64) x],fun e x=>[]⟩)]
theorem GC (d:List (List UInt8)):gwp (KM) (GN d) c25 0 (U0 [.tmp 2] (Kf d) (K9 d)) (QS 55 (AL.can KF d))=JG d:=by kernel_rfl
abbrev Gy:Prop:=OkC Tryz.prog 25 Ye
theorem GK (h:∀ (c:List (List UInt8)),(c.length≤1000∧(∀ s∈c,s.length≤1000))→JG c):OkC Tryz.prog 25 Ye :=
 Z8 Q2s mixed (C:=KM) (V:=fun (d:List (List UInt8))=>JG d) ⟨.nil,XsOk.nil,ItsOk.nil,YlOk.nil,IysOk.nil,XfOk.nil⟩ (GC) fun d hp=>h d hp
theorem GI:Gy:=GK fun c h=>by
 obtain⟨h1,h2⟩:=h;unfold JG;(try delta lI gD sT I64 Q1 pj8 pj4);refine⟨(),(0,0),by and_intros<;>first|rfl|trivial,?_⟩;refine LoopP.count2 c.length (fun i a=>a=LR c i) rfl fun i a hi hJ q hq=>?_;subst hJ;dsimp only;refine⟨fun g=>?_,fun g=>?_⟩
 ·have g:i<c.length:=by have:=of_decide_eq_true g;omega
  simp only[Int.toNat_natCast];refine⟨by omega,by omega,((i:Int),((c.getD i []).length:Int)),(LR c i,0),by and_intros<;>first|rfl|trivial,?_⟩;have hn:=Bw c i;have mg:(c.getD i []).length≤1000:=by rw[Qi g];exact h2 _ (List.getElem_mem g)
  dsimp only;generalize hs:c.getD i []=s at hn mg ⊢;refine LoopP.count2 s.length (fun w a=>a=Cm (LR c i) s w) rfl fun w a hw hJ q2 kg=>?_;subst hJ;dsimp only;refine⟨fun g2=>?_,fun g2=>?_⟩
  ·have g2:w<s.length:=by have:=of_decide_eq_true g2;omega
   refine⟨(Cm (LR c i) s w,(i:Int),(s.length:Int),(w:Int)),1,by and_intros<;>first|rfl|trivial,?_⟩;dsimp only;have hr:=EI (LR c i) s w;refine⟨fun d=>∃ k:Nat,d=k∧1≤k∧k≤s.length+1∧∀ t,1≤t→t<k→s.getD ((w+t) % s.length) 0=s.getD w 0,fun d=>s.length+2-d.toNat,⟨1,rfl,by omega,by omega,fun t h1 h2=>by omega⟩,?_⟩;rintro _ ⟨k,rfl,k1,k2,hk⟩;have e3:(w:Int)+(k:Int)=((w+k:Nat):Int):=by omega
   have hm:(w+k) % s.length<s.length:=Nat.mod_lt _ (by omega);simp only[e3,E2,Int.toNat_natCast,hs,Q6z,Q9];refine⟨fun _=>by omega,fun _=>by omega,fun _=>by omega,fun _=>by omega,fun _=>by omega,fun _=>by omega,fun _=>by omega,fun _=>by omega,fun _=>by omega,fun _=>by omega,fun hx=>?_,fun hx=>⟨fun au=>?_,fun au=>?_⟩⟩
   ·rw[Bool.and_eq_true,decide_eq_true_eq,beq_iff_eq] at hx;refine⟨by omega,(k:Int)+1,by and_intros<;>first|rfl|trivial,⟨k+1,by omega,by omega,by omega,fun t t1 t2=>?_⟩,by omega⟩;rcases Nat.lt_succ_iff_lt_or_eq.1 t2 with t2|rfl
    ·exact hk t t1 t2
    ·exact hx.2
   ·have au:=of_decide_eq_true au;rw[Q1o fun t t1 t2=>hk t t1 (by omega)] at hr;exact⟨by omega,(Cm (LR c i) s (w+1),(w:Int)+1),by rw[hr];and_intros<;>first|rfl|trivial,kg _ g2 rfl⟩
   ·have au:=of_decide_eq_false au;have hx:s.getD ((w+k) % s.length) 0≠s.getD w 0:=by
     rw[Bool.and_eq_false_iff,decide_eq_false_iff_not,beq_eq_false_iff_ne] at hx;rcases hx with hx|hx
     ·omega
     ·exact hx
    rw[Q62 k1 (by omega) hx hk] at hr;exact⟨by omega,(Cm (LR c i) s (w+1),(w:Int)+1),by rw[hr];and_intros<;>first|rfl|trivial,kg _ g2 rfl⟩
  ·have g2:w=s.length:=by have:=of_decide_eq_false g2;omega
   subst g2;exact⟨by rw[Q9];omega,(LR c (i+1),(i:Int)+1),by rw[hn];and_intros<;>first|rfl|trivial,hq _ g rfl⟩
 ·have g:i=c.length:=by have:=of_decide_eq_false g;omega
  subst g;and_intros<;>first|rfl|trivial
def isX (s:List UInt8):Prop:=∀ b∈s,b=120∨b=46
theorem Q8q {s:List UInt8}(hx:isX s) {i j:Nat}(hi:i<s.length) (hj:j<s.length):s.getD i 0=s.getD j 0↔(YI s).getD i false=(YI s).getD j false:=by rw[B5 hi,B5 hj,Qi hi,Qi hj];rcases hx _ (List.getElem_mem hi) with h1|h1<;>rcases hx _ (List.getElem_mem hj) with h2|h2<;>rw[h1,h2]<;>decide
theorem I0 {s:List UInt8}(hx:isX s) {w:Nat}(hw:w<s.length):(fwL s w=1000∧Lw (YI s))∨(1≤fwL s w∧UW (YI s) w (fwL s w)∧Zh (YI s) (w+fwL s w)≠Zh (YI s) w):=by
 have aO:=ZQ s;have h0:YI s≠[]:=fun e=>by rw[e] at aO;simp at aO;omega
 have he:∀ t,s.getD ((w+t) % s.length) 0=s.getD w 0↔Zh (YI s) (w+t)=Zh (YI s) w:=fun t=>by rw[Q8q hx (Nat.mod_lt _ (by omega)) hw];unfold Zh;rw[aO,Nat.mod_eq_of_lt hw]
 cases hf:(List.range (s.length+1)).find? (fun k=>decide (1≤k)&&(s.getD ((w+k) % s.length) 0 != s.getD w 0)) with
 |none =>
  have e:fwL s w=1000:=by unfold fwL;rw[hf];rfl
  have hn:=List.find?_eq_none.1 hf;refine .inl ⟨e,Eh (w:=w) (l:=s.length) (fun j hj=>?_) (by omega) h0⟩;rcases Nat.lt_or_ge j 1 with h1|h1
  ·rw[show j=0 by omega,Nat.add_zero]
  ·have:=hn j (List.mem_range.2 (by omega));rw[decide_eq_true h1,Bool.true_and,bne_iff_ne,ne_eq,Decidable.not_not] at this;exact(he j).1 this
 |some k =>
  have e:fwL s w=k:=by unfold fwL;rw[hf];rfl
  obtain⟨a,_,b⟩:=List.find?_range_eq_some.1 hf;rw[Bool.and_eq_true,decide_eq_true_eq,bne_iff_ne] at a;rw[e];refine .inr ⟨a.1,fun j hj=>?_,fun h=>a.2 ((he k).2 h)⟩;rcases Nat.lt_or_ge j 1 with h1|h1
  ·rw[show j=0 by omega,Nat.add_zero]
  ·have:=b j hj;rw[decide_eq_true h1,Bool.true_and,Bool.not_eq_true',bne_eq_false_iff_eq] at this;exact(he j).1 this
theorem Q56 {s:List UInt8}(hx:isX s) {M:Int}(h:∀ k,k<s.length→((J6 (YI s) k:Nat):Int)≤M) {w:Nat}(hw:w<s.length):((fwL s w:Nat):Int)≤M:=by
 have aO:=ZQ s;have h0:YI s≠[]:=fun e=>by rw[e] at aO;simp at aO;omega
 rcases I0 hx hw with⟨e,hu⟩|⟨h1,h2,h3⟩
 ·have:=h 0 (by omega);rw[(XH h0 hu).1] at this;omega
 ·have hu:¬ Lw (YI s):=fun hu=>h3 (by rw[←XM _ (w+_),←XM _ w,hu _ (Nat.mod_lt _ (by omega)),hu _ (Nat.mod_lt _ (by omega))]);obtain⟨w',de,hl⟩:=PN h0 hu h1 h2;have:=h w' (by omega);omega
theorem Q7m {s:List UInt8}(hx:isX s) {M:Int}(h:∀ w,w<s.length→((fwL s w:Nat):Int)≤M) {k:Nat}(hk:k<s.length):((J6 (YI s) k:Nat):Int)≤M:=by
 have aO:=ZQ s;have h0:YI s≠[]:=fun e=>by rw[e] at aO;simp at aO;omega
 have hM:=h k hk;rcases I0 hx hk with⟨e,hu⟩|⟨h1,h2,h3⟩
 ·rcases (XH h0 hu).2 k (by omega) with h1|h1<;>rw[h1]<;>omega
 ·have hu:¬ Lw (YI s):=fun hu=>h3 (by rw[←XM _ (k+_),←XM _ k,hu _ (Nat.mod_lt _ (by omega)),hu _ (Nat.mod_lt _ (by omega))]);rcases Nat.lt_or_ge (fwL s k) (J6 (YI s) k) with ai|bA
  ·exact absurd ((V6 h0 hu k).2 _ ai) h3
  ·omega
theorem RG (a:Int) (s:List UInt8) (n:Nat):a≤Cm a s n∧(∀ w,w<n→((fwL s w:Nat):Int)≤Cm a s n)∧∀ M,a≤M→(∀ w,w<n→((fwL s w:Nat):Int)≤M)→Cm a s n≤M:=by obtain⟨h1,h2,h3⟩:=Dd (fun w:Nat=>((fwL s w:Nat):Int)) (List.range n) a;exact⟨h1,fun w hw=>h2 w (List.mem_range.2 hw),fun M ha h=>h3 M ha fun w hw=>h w (List.mem_range.1 hw)⟩
theorem E3 {c:List (List UInt8)}{M:Int}(hM:0≤M) (h:∀ s∈c,∀ w,w<s.length→((fwL s w:Nat):Int)≤M):∀ n,n≤c.length→LR c n≤M
 |0,_=>hM
 |n+1,hn=>by rw[Bw];exact(RG _ _ _).2.2 M (E3 hM h n (by omega)) (h _ (by rw[Qi (show n<c.length by omega)];exact List.getElem_mem _))
theorem Q35 {s:List UInt8}(hx:isX s) (h0:s≠[]):Ih [s]=lgX [s]:=by
 have hl:0<s.length:=List.length_pos_iff.2 h0;obtain⟨l1,l2⟩:=VE s (Ih [s]);have e:Ih [s]=Cm 0 s s.length:=by show LR [s] (0+1)=_;rw[Bw];rfl
 obtain⟨g1,g2,g3⟩:=RG 0 s s.length;rw[e] at l2 ⊢;have a:=l1 0 hl;have b:=g3 (lgX [s]) (by omega) fun w hw=>Q56 hx l1 hw;have c:=l2 g1 fun k hk=>Q7m hx g2 hk;omega
theorem TF {i bd:Int}{p:List Bool}{n:Nat}(h:∀ k,k<n→((J6 p k:Nat):Int)≤bd):ZU i bd p n=[]:=by unfold ZU;rw[List.filterMap_eq_nil_iff];intro k hk;have:=h k (List.mem_range.1 hk);unfold FA;rw[if_neg (by omega)]
theorem Fo {bd:Int}{c:List (List UInt8)}(h:∀ s∈c,∀ k,k<s.length→((J6 (YI s) k:Nat):Int)≤bd):Sn bd c=[]:=by unfold Sn JZ;rw[List.flatten_eq_nil_iff];intro l hl;obtain⟨i,hi,rfl⟩:=List.mem_map.1 hl;have hi:=List.mem_range.1 hi;exact TF (h _ (by rw[Qi hi];exact List.getElem_mem hi))
theorem Ca (lw:List Int) (r:Int):isX (Zk lw r):=F9
theorem GX {H B:Nat}(hH:1≤H∧H≤24) (hB:1≤B):QD (H:Int) (B:Int) 0=true↔∃ r,bdR H B r:=by rw[show (0:Int)=((0:Nat):Int) from rfl,M0 hH hB 0];exact⟨fun ⟨r,h,_⟩=>⟨r,h⟩,fun ⟨r,h⟩=>⟨r,h,fun j _ hs=>by simp at hs⟩⟩
theorem Dc {H B row:Nat}(hH:1≤H∧H≤24) (hB:1≤B):XJ row 0 B H<1048576↔∃ r,bdR H B r :=
 ⟨fun h=>by obtain⟨h1,h2,_⟩:=Pv hH hB h;exact⟨_,h1,h2⟩,fun ⟨r,h⟩=>bind_none hH hB h.2 fun j _ hs=>by simp at hs⟩
theorem OI {n k:Nat}:(List.replicate n (0:Int)).getD k 0=0:=by
 rcases Nat.lt_or_ge k n with h|h
 ·rw[Qi (by simpa using h)];simp
 ·simp[List.getD_eq_getElem?_getD,List.getElem?_eq_none (show (List.replicate n (0:Int)).length≤k by simpa using h)]
theorem Li {p:List Bool}(h0:p≠[]) (hl:p.length≤1000) {k:Nat}(hk:k<p.length):J6 p k≤1000:=by
 by_cases hu:Lw p
 ·rcases (XH h0 hu).2 k hk with h|h<;>omega
 ·have:=(V6 h0 hu k).1;omega
theorem FI {hk bd:Int}{lw:List Int}(ht:QK hk lw=0) (hb:1≤bd∧bd≤24):QF hk lw bd=if QD hk bd 0=true then 0 else 9:=by
 have hi:inI bd 1 24=true:=by unfold inI;rw[decide_eq_true hb.1,decide_eq_true hb.2];rfl
 unfold QF;rw[if_neg (by omega),if_neg (by rw[hi];decide)]
theorem EU {hk:Int}{lw:List Int}{H B r:Nat}(e:hk=(H:Int)) (ht:QK hk lw=0) (hB:B<1000) (hr:bdR H B r):lgX [Zk lw (r:Int)]≤Q2b hk lw (B:Int):=by
 subst e;obtain⟨t1,t2,t3⟩:=Q3t ht;have hg:∀ q:Nat,q<2 ^ H→0≤(96000:Int):=fun _ _=>by decide
 have cf:=(M6 (r:=(r:Int)) ht ⟨by omega,by rw[Int.toNat_natCast];exact_mod_cast hr.1⟩).2;have all:∀ q:Nat,q<2 ^ H→lgX (Qa (H:Int) lw (H:Int) [(q:Int)])≤1000:=fun q hq=>by rw[(M6 (r:=(q:Int)) ht ⟨by omega,by rw[Int.toNat_natCast];exact_mod_cast hq⟩).2];refine (VE (Zk lw (q:Int)) 1000).2 (by decide) fun k au=>?_;have pl:=JT lw (q:Int);have xl:=ZQ (Zk lw (q:Int));have:=Li (p:=YI (Zk lw (q:Int))) (fun e=>by rw[e] at xl;simp at xl;omega) (by omega) (k:=k) (by omega);omega
 have ff:=Tb (g:=fun r:Nat=>lgX (Qa (H:Int) lw (H:Int) [(r:Int)])) (P:=fun r:Nat=>AX (r:Int) (H:Int) (B:Int)) (2 ^ H) 1000 (by decide) fun q hq _=>all q hq;have f3:=ff.2.2 r hr.1 ((Tc (by omega) hB).2 hr.2);simp only[cf] at f3;unfold Q2b;rw[Int.toNat_natCast];exact f3
theorem I_ {hk:Int}{lw:List Int}{H B:Nat}(e:hk=(H:Int)) (ht:QK hk lw=0) (hB:1≤B∧B≤23) (h:QF hk lw (B:Int)=0):QF hk lw ((B:Int)+1)=0∧WO hk lw (B:Int)≤WO hk lw ((B:Int)+1):=by
 obtain⟨t1,t2,t3⟩:=Q3t ht;have e1:(B:Int)+1=((B+1:Nat):Int):=by omega
 have mono:∀ r,bdR H B r→bdR H (B+1) r:=fun r hr=>⟨hr.1,fun k au=>by obtain⟨j,j1,j2,j3⟩:=hr.2 k au;exact⟨j,j1,by omega,j3⟩⟩;have hH:1≤H∧H≤24:=by omega
 rcases Df ht (bd:=(B:Int)) (by omega) with⟨w1,_⟩|⟨w1,w2,w3,w4,w5,w6⟩
 ·omega
 have dO:=FI ht (bd:=(B:Int)) (by omega);have cO:=FI ht (bd:=((B+1:Nat):Int)) (by omega);have ho:QD hk (B:Int) 0=true:=by
  cases ho:QD hk (B:Int) 0 with
  |true=>rfl
  |false=>rw[ho] at dO;simp at dO;omega
 subst e;obtain⟨r,hr⟩:=(GX hH hB.1).1 ho;have kR:QD (H:Int) ((B+1:Nat):Int) 0=true:=(GX hH (by omega)).2 ⟨r,mono r hr⟩;rw[if_pos kR] at cO;rw[e1];refine⟨cO,?_⟩;rcases Df ht (bd:=((B+1:Nat):Int)) (by omega) with⟨v1,_⟩|⟨v1,v2,v3,_⟩
 ·omega
 rw[v3,←w6];obtain⟨q,hq⟩:=Int.eq_ofNat_of_zero_le w4.1;rw[hq] at w4 w5 ⊢;have kg:q<2 ^ H:=by have:=w4.2;rw[Int.toNat_natCast] at this;exact_mod_cast this
 exact EU rfl ht (by omega) (mono q ⟨kg,(Tc hH.1 (by omega)).1 w5⟩)
theorem Ew {hk bd:Int}{lw rows zs:List Int}(ht:QK hk lw=0) (hp:Qb hk rows=0) (hb:1≤bd∧bd≤23) (hz:zs=List.replicate rows.length 0) :
  (QF hk lw bd=9∧Q7 hk rows zs bd=9) ∨
  (QF hk lw bd=0∧Q7 hk rows zs bd=0∧(Qz hk rows zs bd).length=rows.length∧Qh hk lw hk (Qz hk rows zs bd)=0∧Yi hk lw hk (Qz hk rows zs bd) (WO hk lw bd)=0∧flC hk lw hk (Qz hk rows zs bd) (WO hk lw bd)=[] ∧
   (Qa hk lw hk (Qz hk rows zs bd)).length=rows.length∧(∀ s∈Qa hk lw hk (Qz hk rows zs bd),s.length=lw.length)∧Ih (Qa hk lw hk (Qz hk rows zs bd))≤WO hk lw bd ∧
   Y2 hk [Xj hk lw bd] bd=0∧Ti hk [Xj hk lw bd] bd=[]∧Qh hk lw hk [Xj hk lw bd]=0∧Qa hk lw hk [Xj hk lw bd]=[Zk lw (Xj hk lw bd)] ∧
   Ih [Zk lw (Xj hk lw bd)]=WO hk lw bd∧QF hk lw (bd+1)=0∧WO hk lw bd≤WO hk lw (bd+1)):=by
 obtain⟨t1,t2,t3⟩:=Q3t ht;obtain⟨p1,p2,p3,p4,p5⟩:=Q9h hp;obtain⟨H,rfl⟩:=Int.eq_ofNat_of_zero_le (show 0≤hk by omega);obtain⟨B,rfl⟩:=Int.eq_ofNat_of_zero_le (show 0≤bd by omega);have hH:1≤H∧H≤24:=by omega
 have hB:1≤B:=by omega
 have hl:lw≠[]:=List.length_pos_iff.1 (by omega);have hi:inI (B:Int) 1 24=true:=by unfold inI;rw[decide_eq_true (by omega),decide_eq_true (by omega)];rfl
 have gU:=X8 p1 p2;have eE:=FI ht (bd:=(B:Int)) (by omega);have v9:zs.length=rows.length:=by rw[hz,List.length_replicate]
 have ez:(zs.any fun n=>!inI n 0 (2 ^ (H:Int).toNat-1))=false:=by rw[List.any_eq_false];intro x hx;rw[hz] at hx;rw[List.eq_of_mem_replicate hx];unfold inI;rw[decide_eq_true (by omega),decide_eq_true (by omega)];decide
 have eB:Q7 (H:Int) rows zs (B:Int)=if KL (H:Int) rows zs (B:Int)=true then 9 else 0:=by unfold Q7;rw[if_neg (by omega),if_neg (by omega),if_neg (by rw[ez];decide),if_neg (by rw[hi];decide)]
 have ec:∀ k,Sp (H:Int) rows zs (B:Int) k=XJ (rows.getD k 0).toNat 0 B H:=fun k=>by unfold Sp;rw[hz,OI,Int.toNat_natCast,Int.toNat_natCast];rfl
 cases h0:QD (H:Int) (B:Int) 0 with
 |false =>
  left;rw[h0] at eE;refine⟨eE,?_⟩;rw[eB,if_pos];unfold KL;rw[List.any_eq_true];refine⟨0,List.mem_range.2 (by omega),decide_eq_true ?_⟩;rw[ec];rcases Int.lt_or_le (XJ (rows.getD 0 0).toNat 0 B H) 1048576 with h|h
  ·rw[(GX hH hB).2 ((Dc hH hB).1 h)] at h0;cases h0
  ·exact h
 |true =>
  right;rw[h0,if_pos rfl] at eE;have hex:=(GX hH hB).1 h0;have l8:KL (H:Int) rows zs (B:Int)=false:=by unfold KL;rw[List.any_eq_false];intro k _;have:=(Dc (row:=(rows.getD k 0).toNat) hH hB).2 hex;rw[ec,decide_eq_true_eq];omega
  rw[l8] at eB;have eB:Q7 (H:Int) rows zs (B:Int)=0:=eB;have hD:Qz (H:Int) rows zs (B:Int)=ND (H:Int) rows zs (B:Int) rows.length:=by unfold Qz;rw[if_pos eB]
  have q_:(Qz (H:Int) rows zs (B:Int)).length=rows.length:=by rw[hD,Tm]
  have ra:∀ x∈Qz (H:Int) rows zs (B:Int),∃ r:Nat,x=(r:Int)∧bdR H B r:=fun x hx=>by rw[hD] at hx;obtain⟨k,_,rfl⟩:=List.mem_map.1 hx;obtain⟨b1,b2,_⟩:=Pv hH hB ((Dc (row:=(rows.getD k 0).toNat) hH hB).2 hex);refine⟨_,rfl,?_⟩;rw[hz,OI,Int.toNat_natCast,Int.toNat_natCast];exact⟨b1,b2⟩
  generalize Qz (H:Int) rows zs (B:Int)=D at hD q_ ra ⊢;clear hD;have pe:Qb (H:Int) D=0:=by
   unfold Qb;have e1:inI (H:Int) 1 24=true:=by unfold inI;rw[decide_eq_true (by omega),decide_eq_true (by omega)];rfl
   have e2:(D.any fun x=>!inI x 0 (2 ^ (H:Int).toNat-1))=false:=by
    rw[List.any_eq_false];intro x hx;obtain⟨r,rfl,hr,_⟩:=ra x hx;have cO:(r:Int)<2 ^ H:=by exact_mod_cast hr
    unfold inI;rw[Int.toNat_natCast,decide_eq_true (by omega),decide_eq_true (by omega)];decide
   rw[e1,e2,if_neg (by decide),if_neg (by omega),if_neg (by omega),if_neg (by decide)]
  have wE:Qh (H:Int) lw (H:Int) D=0:=by unfold Qh;rw[if_neg (by omega),if_neg (by omega),if_neg (by simp)]
  have wC:Qa (H:Int) lw (H:Int) D=D.map (Zk lw):=by unfold Qa;rw[if_pos wE]
  rcases Df ht (bd:=(B:Int)) (by omega) with⟨w1,_⟩|⟨w1,w2,w3,w4,w5,w6⟩
  ·omega
  have kz:∀ s∈Qa (H:Int) lw (H:Int) D,(s.length=lw.length∧isX s)∧∀ k,k<s.length→((J6 (YI s) k:Nat):Int)≤WO (H:Int) lw (B:Int):=fun s hs=>by rw[wC] at hs;obtain⟨x,hx,rfl⟩:=List.mem_map.1 hs;obtain⟨r,rfl,hr⟩:=ra x hx;refine⟨⟨JT _ _,Ca _ _⟩,fun k au=>?_⟩;have a:=(VE (Zk lw (r:Int)) 0).1 k au;have b:=EU (hk:=(H:Int)) rfl ht (by omega) hr;rw[w3];omega
  have so:WO (H:Int) lw (B:Int)≤1000:=by rw[←w6];refine (VE (Zk lw (Xj (H:Int) lw (B:Int))) 1000).2 (by decide) fun k au=>?_;have pl:=JT lw (Xj (H:Int) lw (B:Int));have xl:=ZQ (Zk lw (Xj (H:Int) lw (B:Int)));have:=Li (p:=YI (Zk lw (Xj (H:Int) lw (B:Int)))) (fun e=>by rw[e] at xl;simp at xl;omega) (by omega) (k:=k) (by omega);omega
  have fE:Yi (H:Int) lw (H:Int) D (WO (H:Int) lw (B:Int))=0:=by
   have e1:inI (WO (H:Int) lw (B:Int)) 0 1000=true:=by unfold inI;rw[decide_eq_true (by omega),decide_eq_true (by omega)];rfl
   unfold Yi;rw[if_neg (by omega),if_neg (by rw[e1];decide)]
  obtain⟨o1,o2⟩:=M6 ht w4;have pR:Qb (H:Int) [Xj (H:Int) lw (B:Int)]=0:=by
   unfold Qh at o1;rw[if_neg (by omega)] at o1;split at o1
   ·omega
   ·rename_i h;omega
  have pE:Y2 (H:Int) [Xj (H:Int) lw (B:Int)] (B:Int)=0:=by
   have e1:inI (B:Int) 0 1000=true:=by unfold inI;rw[decide_eq_true (by omega),decide_eq_true (by omega)];rfl
   unfold Y2;rw[if_neg (by omega),if_neg (by rw[e1];decide)]
  have pC:Ti (H:Int) [Xj (H:Int) lw (B:Int)] (B:Int)=[]:=by
   unfold Ti;rw[if_pos pE];show Ae _ _ _ (0+1)=[];rw[Bo];unfold AX at w5;rw[List.all_eq_true] at w5;have:ZU ((0:Nat):Int) (B:Int) (MY ([Xj (H:Int) lw (B:Int)].getD 0 0) (H:Int).toNat) (H:Int).toNat=[]:=TF fun k au=>by have:=w5 k (List.mem_range.2 au);exact of_decide_eq_true this
   rw[this];rfl
  obtain⟨m1,m2⟩:=I_ (hk:=(H:Int)) rfl ht (B:=B) (by omega) w1;refine⟨w1,eB,q_,wE,fE,?_,by rw[wC,List.length_map,q_],fun s hs=>(kz s hs).1.1,E3 (by omega) (fun s hs w hw=>Q56 (kz s hs).1.2 (kz s hs).2 hw) _ (Nat.le_refl _),pE,pC,o1,o2,?_,m1,m2⟩
  ·unfold flC;rw[if_pos fE];exact Fo fun s hs=>(kz s hs).2
  ·rw[Q35 (Ca _ _) (fun e=>by have:=JT lw (Xj (H:Int) lw (B:Int));rw[e] at this;simp at this;omega),w6]
def NS:AL ((Int×List Int)×(Int×List Int)×Int):=(.cons (.agg (.cons (.k (.i .i64)) (.one (.k (.list (.i .i64)))))) (.cons (.agg (.cons (.k (.i .i64)) (.one (.k (.list (.i .i64)))))) (.one (.k (.i .i64)))))
def Ha (d:(Int×List Int)×(Int×List Int)×Int):Prop:=d.1.2.length≤110∧d.2.1.2.length≤110
def UE (d:(Int×List Int)×(Int×List Int)×Int):SV:=.tup [.lst 0,.val (.i .i64) (Yi d.1.1 d.1.2 d.2.1.1 d.2.1.2 d.2.2)]
def UX (d:(Int×List Int)×(Int×List Int)×Int):List OB:=[.lst 84 (.pair (.i .i64) (.pair (.i .i64) (.pair (.i .i64) .bo))) (flC d.1.1 d.1.2 d.2.1.1 d.2.1.2 d.2.2) ((flC d.1.1 d.1.2 d.2.1.1 d.2.1.2 d.2.2).isEmpty)]
def VJ:CSp:=V0 NS Ha UE UX
abbrev Jq :=(True∧(([]:List SV)=[]))
abbrev J5 :=(List (Int×Int×Int×Bool))
abbrev Yq :=(((([]:List SV)=[]))∧Jq)
def WM (hk:Int) (lw:List Int) (hd:Int) (rows:List Int) (bd:Int):Prop :=
 (lw.length≤110∧rows.length≤110)∧((Qh hk lw hd rows != (0:Int))=true →
  ((True∧Qh hk lw hd rows=(Yi hk lw hd rows bd)∧(([]:List SV)=[]))∧(((flC hk lw hd rows bd)=[]∧(flC hk lw hd rows bd).isEmpty=true)∧True))) ∧
 ((Qh hk lw hd rows != (0:Int))=false →
  ([bd].length≤1000000)∧((!(!([bd].any fun n=>decide (n<(0:Int))||decide ((1000:Int)<n))))=true →
   ((True∧(3:Int)=(Yi hk lw hd rows bd)∧(([]:List SV)=[]))∧(((flC hk lw hd rows bd)=[]∧(flC hk lw hd rows bd).isEmpty=true)∧True))) ∧
  ((!(!([bd].any fun n=>decide (n<(0:Int))||decide ((1000:Int)<n))))=false →
   ∃ (e4:Unit) (d40:J5×Int),((True∧True∧True∧(lI (Qa hk lw hd rows))=(lI (Qa hk lw hd rows))∧(0:Int)=d40.2∧True)∧((bd=bd∧(([]:List SV)=[]))∧Jq∧(d40.1=[]∧(List.isEmpty d40.1)=true)∧((Qa hk lw hd rows)=(Qa hk lw hd rows)∧(Qa hk lw hd rows).isEmpty=(List.isEmpty (Qa hk lw hd rows)))∧True)) ∧
   LoopP (fun (d4:J5×Int) (q4:(J5×Int)→Prop) =>
    ((decide (d4.2<(lI (Qa hk lw hd rows))))=true →
     (0≤d4.2)∧(d4.2<(List.length (Qa hk lw hd rows)))∧∀ w5:LpD,∃ (e8:(List UInt8)×Int×J5×Int×(List UInt8)×(List (List UInt8))×Int×Int×Bool×Int×(List UInt8)×(List UInt8)×(List UInt8)×LpD) (d80:Int),((True∧True∧Yq∧(0:Int)=d80∧True)∧(((gD (Qa hk lw hd rows) d4.2 [])=e8.1∧(([]:List SV)=[]))∧((pj4 (pj8 e8)).2=w5∧(True∧True∧True∧True∧True∧True∧True∧True∧True∧True∧(gD (Qa hk lw hd rows) d4.2 [])=(pj4 e8).1∧True∧True∧True∧True∧True∧True∧True∧True∧True∧True∧True∧True∧True∧True∧True∧True∧True∧(lI (Qa hk lw hd rows))=(pj4 e8).2.2.1∧d4.2=(pj4 e8).2.2.2.1∧(decide (d4.2<(lI (Qa hk lw hd rows))))=(pj8 e8).1∧d4.2=(pj8 e8).2.1∧True∧(gD (Qa hk lw hd rows) d4.2 [])=(pj8 e8).2.2.1∧(gD (Qa hk lw hd rows) d4.2 [])=(pj8 e8).2.2.2.1∧(((gD (Qa hk lw hd rows) d4.2 [])=(pj4 (pj8 e8)).1∧(([]:List SV)=[]))∧((([]:List SV)=[])))∧True∧True∧True∧True∧True∧True∧True∧True∧True∧True∧True∧True∧True∧(([]:List SV)=[])))∧(bd=e8.2.1∧(([]:List SV)=[]))∧Jq∧(d4.1=e8.2.2.1∧(List.isEmpty d4.1)=(List.isEmpty e8.2.2.1))∧(d4.2=e8.2.2.2.1∧(([]:List SV)=[]))∧((Qa hk lw hd rows)=(pj4 e8).2.1∧(List.isEmpty (Qa hk lw hd rows))=(List.isEmpty (pj4 e8).2.1))∧True)) ∧
     LoopP (fun (d8:Int) (q8:(Int)→Prop) =>
      ((decide (d8<(lI e8.1)))=true→0≤d8∧d8<e8.1.length∧e8.1.length≤1000000)∧(((decide (d8<(lI e8.1)))&&(!(bB e8.1 d8.toNat)))=true →
       (I64 (d8+(1:Int)))∧(∃ d9:Int,((True∧True∧Yq∧(d8+(1:Int))=d9∧True)∧((e8.1=e8.1∧(([]:List SV)=[]))∧((pj4 (pj8 e8)).2=(pj4 (pj8 e8)).2∧(True∧True∧True∧True∧True∧True∧True∧True∧True∧True∧(pj4 e8).1=(pj4 e8).1∧True∧True∧True∧True∧True∧True∧True∧True∧True∧True∧True∧True∧True∧True∧True∧True∧True∧(pj4 e8).2.2.1=(pj4 e8).2.2.1∧(pj4 e8).2.2.2.1=(pj4 e8).2.2.2.1∧(pj8 e8).1=(pj8 e8).1∧(pj8 e8).2.1=(pj8 e8).2.1∧True∧(pj8 e8).2.2.1=(pj8 e8).2.2.1∧(pj8 e8).2.2.2.1=(pj8 e8).2.2.2.1∧(((pj4 (pj8 e8)).1=(pj4 (pj8 e8)).1∧(([]:List SV)=[]))∧((([]:List SV)=[])))∧True∧True∧True∧True∧True∧True∧True∧True∧True∧True∧True∧True∧True∧(([]:List SV)=[])))∧(e8.2.1=e8.2.1∧(([]:List SV)=[]))∧Jq∧(e8.2.2.1=e8.2.2.1∧(List.isEmpty e8.2.2.1)=(List.isEmpty e8.2.2.1))∧(e8.2.2.2.1=e8.2.2.2.1∧(([]:List SV)=[]))∧((pj4 e8).2.1=(pj4 e8).2.1∧(List.isEmpty (pj4 e8).2.1)=(List.isEmpty (pj4 e8).2.1))∧True))∧q8 d9)) ∧
      (((decide (d8<(lI e8.1)))&&(!(bB e8.1 d8.toNat)))=false →
       ((d8==(lI e8.1))=true →
        (0≤(0:Int))∧((0:Int)<(List.length e8.1))∧(pj4 (pj8 e8)).2=w5∧∀ l7:List Value,((decide ((1000:Int) > e8.2.1))=true →
         (((List.length e8.2.2.1)+(List.length [(e8.2.2.2.1,((0:Int),((1000:Int),(((UInt8.toNat (gD e8.1 (0:Int) 0):Nat):Int)==(120:Int)))))]))*32≤70368744177664)∧l7=l7∧(pj4 (pj8 e8)).2=w5∧(pj4 (pj8 e8)).2=w5∧(I64 ((pj4 e8).2.2.2.1+(1:Int)))∧(∃ d11:J5×Int,((True∧True∧True∧(pj4 e8).2.2.1=(lI (Qa hk lw hd rows))∧((pj4 e8).2.2.2.1+(1:Int))=d11.2∧True)∧((e8.2.1=bd∧(([]:List SV)=[]))∧Jq∧((e8.2.2.1++[(e8.2.2.2.1,((0:Int),((1000:Int),(((UInt8.toNat (gD e8.1 (0:Int) 0):Nat):Int)==(120:Int)))))])=d11.1∧false=(List.isEmpty d11.1))∧((pj4 e8).2.1=(Qa hk lw hd rows)∧(List.isEmpty (pj4 e8).2.1)=(List.isEmpty (Qa hk lw hd rows)))∧True))∧q4 d11)) ∧
        ((decide ((1000:Int) > e8.2.1))=false →
         l7=l7∧(pj4 (pj8 e8)).2=w5∧(pj4 (pj8 e8)).2=w5∧(I64 ((pj4 e8).2.2.2.1+(1:Int)))∧(∃ d12:J5×Int,((True∧True∧True∧(pj4 e8).2.2.1=(lI (Qa hk lw hd rows))∧((pj4 e8).2.2.2.1+(1:Int))=d12.2∧True)∧((e8.2.1=bd∧(([]:List SV)=[]))∧Jq∧(e8.2.2.1=d12.1∧(List.isEmpty e8.2.2.1)=(List.isEmpty d12.1))∧((pj4 e8).2.1=(Qa hk lw hd rows)∧(List.isEmpty (pj4 e8).2.1)=(List.isEmpty (Qa hk lw hd rows)))∧True))∧q4 d12))) ∧
       ((d8==(lI e8.1))=false →
        ∃ (aW:(List UInt8)×Int×Int×(List UInt8)×(List (List UInt8))×Int×Int×Bool×Int×(List UInt8)×(List UInt8)×(List UInt8)×LpD) (d150:Int×J5),((True∧True∧Yq∧d8=d150.1∧True)∧((e8.1=aW.1∧(([]:List SV)=[]))∧((pj4 (pj8 aW))=(pj4 (pj8 e8)).2∧(True∧True∧True∧True∧True∧True∧True∧True∧True∧True∧(pj4 e8).1=aW.2.2.2.1∧True∧True∧True∧True∧True∧True∧True∧True∧True∧True∧True∧True∧True∧True∧True∧True∧True∧(pj4 e8).2.2.1=(pj4 aW).2.1∧(pj4 e8).2.2.2.1=(pj4 aW).2.2.1∧(pj8 e8).1=(pj4 aW).2.2.2.1∧(pj8 e8).2.1=(pj8 aW).1∧True∧(pj8 e8).2.2.1=(pj8 aW).2.1∧(pj8 e8).2.2.2.1=(pj8 aW).2.2.1∧(((pj4 (pj8 e8)).1=(pj8 aW).2.2.2.1∧(([]:List SV)=[]))∧((([]:List SV)=[])))∧True∧True∧True∧True∧True∧True∧True∧True∧True∧True∧True∧True∧True∧(([]:List SV)=[])))∧(e8.2.1=aW.2.1∧(([]:List SV)=[]))∧Jq∧(e8.2.2.1=d150.2∧(List.isEmpty e8.2.2.1)=(List.isEmpty d150.2))∧(e8.2.2.2.1=aW.2.2.1∧(([]:List SV)=[]))∧((pj4 e8).2.1=(pj4 aW).1∧(List.isEmpty (pj4 e8).2.1)=(List.isEmpty (pj4 aW).1))∧True)) ∧
        LoopP (fun (d15:Int×J5) (sq:(Int×J5)→Prop) =>
         ((decide (d15.1<(lI aW.1)))=true →
          (0≤d15.1)∧(d15.1<(List.length aW.1))∧∃ (af:(List UInt8)×Int×Int×Int×Bool×Int×J5×Int×(List UInt8)×(List (List UInt8))×Int×Int×Bool×Int×(List UInt8)×(List UInt8)×(List UInt8)×LpD) (iU:Int),((True∧True∧Yq∧d15.1=af.2.1∧True∧True)∧((aW.1=af.1∧(([]:List SV)=[]))∧((0:Int)=af.2.2.1∧d15.1=af.2.2.2.1∧(1:Int)=iU∧(((UInt8.toNat (gD aW.1 d15.1 0):Nat):Int)==(120:Int))=(pj4 af).1∧(([]:List SV)=[]))∧((Q1 af).2=(pj4 (pj8 aW))∧(True∧True∧True∧True∧True∧True∧True∧True∧True∧True∧aW.2.2.2.1=(pj8 af).1∧True∧True∧True∧True∧True∧True∧True∧True∧True∧True∧True∧True∧True∧True∧True∧True∧True∧(pj4 aW).2.1=(pj8 af).2.2.1∧(pj4 aW).2.2.1=(pj8 af).2.2.2.1∧(pj4 aW).2.2.2.1=(pj4 (pj8 af)).1∧(pj8 aW).1=(pj4 (pj8 af)).2.1∧True∧(pj8 aW).2.1=(pj4 (pj8 af)).2.2.1∧(pj8 aW).2.2.1=(pj4 (pj8 af)).2.2.2.1∧(((pj8 aW).2.2.2.1=(Q1 af).1∧(([]:List SV)=[]))∧((([]:List SV)=[])))∧True∧True∧True∧True∧True∧True∧True∧True∧True∧True∧True∧True∧True∧(([]:List SV)=[])))∧(aW.2.1=(pj4 af).2.1∧(([]:List SV)=[]))∧Jq∧(d15.2=(pj4 af).2.2.1∧(List.isEmpty d15.2)=(List.isEmpty (pj4 af).2.2.1))∧(aW.2.2.1=(pj4 af).2.2.2.1∧(([]:List SV)=[]))∧((pj4 aW).1=(pj8 af).2.1∧(List.isEmpty (pj4 aW).1)=(List.isEmpty (pj8 af).2.1))∧True)) ∧
          LoopP (fun (d18:Int) (qY:(Int)→Prop) =>
           (I64 (af.2.1+d18))∧((lI af.1)≠0)∧(0≤(Int.tmod (af.2.1+d18) (lI af.1))∧(Int.tmod (af.2.1+d18) (lI af.1))<af.1.length∧af.1.length≤1000000)∧((!(bB af.1 (Int.tmod (af.2.1+d18) (lI af.1)).toNat))=true →
            (I64 (d18+(1:Int)))∧(∃ d19:Int,((True∧True∧Yq∧af.2.1=af.2.1∧True∧True)∧((af.1=af.1∧(([]:List SV)=[]))∧(af.2.2.1=af.2.2.1∧af.2.2.2.1=af.2.2.2.1∧(d18+(1:Int))=d19∧(pj4 af).1=(pj4 af).1∧(([]:List SV)=[]))∧((Q1 af).2=(Q1 af).2∧(True∧True∧True∧True∧True∧True∧True∧True∧True∧True∧(pj8 af).1=(pj8 af).1∧True∧True∧True∧True∧True∧True∧True∧True∧True∧True∧True∧True∧True∧True∧True∧True∧True∧(pj8 af).2.2.1=(pj8 af).2.2.1∧(pj8 af).2.2.2.1=(pj8 af).2.2.2.1∧(pj4 (pj8 af)).1=(pj4 (pj8 af)).1∧(pj4 (pj8 af)).2.1=(pj4 (pj8 af)).2.1∧True∧(pj4 (pj8 af)).2.2.1=(pj4 (pj8 af)).2.2.1∧(pj4 (pj8 af)).2.2.2.1=(pj4 (pj8 af)).2.2.2.1∧(((Q1 af).1=(Q1 af).1∧(([]:List SV)=[]))∧((([]:List SV)=[])))∧True∧True∧True∧True∧True∧True∧True∧True∧True∧True∧True∧True∧True∧(([]:List SV)=[])))∧((pj4 af).2.1=(pj4 af).2.1∧(([]:List SV)=[]))∧Jq∧((pj4 af).2.2.1=(pj4 af).2.2.1∧(List.isEmpty (pj4 af).2.2.1)=(List.isEmpty (pj4 af).2.2.1))∧((pj4 af).2.2.2.1=(pj4 af).2.2.2.1∧(([]:List SV)=[]))∧((pj8 af).2.1=(pj8 af).2.1∧(List.isEmpty (pj8 af).2.1)=(List.isEmpty (pj8 af).2.1))∧True))∧qY d19)) ∧
           ((!(bB af.1 (Int.tmod (af.2.1+d18) (lI af.1)).toNat))=false →
            (Q1 af).2=w5∧∀ iV:List Value,((decide (d18 > (pj4 af).2.1))=true →
             (((List.length (pj4 af).2.2.1)+(List.length [((pj4 af).2.2.2.1,(af.2.2.2.1,(d18,(pj4 af).1)))]))*32≤70368744177664)∧iV=iV∧(Q1 af).2=w5∧(I64 (af.2.1+d18))∧(∃ d21:Int×J5,((True∧True∧Yq∧(af.2.1+d18)=d21.1∧True)∧((af.1=aW.1∧(([]:List SV)=[]))∧((pj4 (pj8 aW))=(Q1 af).2∧(True∧True∧True∧True∧True∧True∧True∧True∧True∧True∧(pj8 af).1=aW.2.2.2.1∧True∧True∧True∧True∧True∧True∧True∧True∧True∧True∧True∧True∧True∧True∧True∧True∧True∧(pj8 af).2.2.1=(pj4 aW).2.1∧(pj8 af).2.2.2.1=(pj4 aW).2.2.1∧(pj4 (pj8 af)).1=(pj4 aW).2.2.2.1∧(pj4 (pj8 af)).2.1=(pj8 aW).1∧True∧(pj4 (pj8 af)).2.2.1=(pj8 aW).2.1∧(pj4 (pj8 af)).2.2.2.1=(pj8 aW).2.2.1∧(((Q1 af).1=(pj8 aW).2.2.2.1∧(([]:List SV)=[]))∧((([]:List SV)=[])))∧True∧True∧True∧True∧True∧True∧True∧True∧True∧True∧True∧True∧True∧(([]:List SV)=[])))∧((pj4 af).2.1=aW.2.1∧(([]:List SV)=[]))∧Jq∧(((pj4 af).2.2.1++[((pj4 af).2.2.2.1,(af.2.2.2.1,(d18,(pj4 af).1)))])=d21.2∧false=(List.isEmpty d21.2))∧((pj4 af).2.2.2.1=aW.2.2.1∧(([]:List SV)=[]))∧((pj8 af).2.1=(pj4 aW).1∧(List.isEmpty (pj8 af).2.1)=(List.isEmpty (pj4 aW).1))∧True))∧sq d21)) ∧
            ((decide (d18 > (pj4 af).2.1))=false →
             iV=iV∧(Q1 af).2=w5∧(I64 (af.2.1+d18))∧(∃ d22:Int×J5,((True∧True∧Yq∧(af.2.1+d18)=d22.1∧True)∧((af.1=aW.1∧(([]:List SV)=[]))∧((pj4 (pj8 aW))=(Q1 af).2∧(True∧True∧True∧True∧True∧True∧True∧True∧True∧True∧(pj8 af).1=aW.2.2.2.1∧True∧True∧True∧True∧True∧True∧True∧True∧True∧True∧True∧True∧True∧True∧True∧True∧True∧(pj8 af).2.2.1=(pj4 aW).2.1∧(pj8 af).2.2.2.1=(pj4 aW).2.2.1∧(pj4 (pj8 af)).1=(pj4 aW).2.2.2.1∧(pj4 (pj8 af)).2.1=(pj8 aW).1∧True∧(pj4 (pj8 af)).2.2.1=(pj8 aW).2.1∧(pj4 (pj8 af)).2.2.2.1=(pj8 aW).2.2.1∧(((Q1 af).1=(pj8 aW).2.2.2.1∧(([]:List SV)=[]))∧((([]:List SV)=[])))∧True∧True∧True∧True∧True∧True∧True∧True∧True∧True∧True∧True∧True∧(([]:List SV)=[])))∧((pj4 af).2.1=aW.2.1∧(([]:List SV)=[]))∧Jq∧((pj4 af).2.2.1=d22.2∧(List.isEmpty (pj4 af).2.2.1)=(List.isEmpty d22.2))∧((pj4 af).2.2.2.1=aW.2.2.1∧(([]:List SV)=[]))∧((pj8 af).2.1=(pj4 aW).1∧(List.isEmpty (pj8 af).2.1)=(List.isEmpty (pj4 aW).1))∧True))∧sq d22)))) iU) ∧
         ((decide (d15.1<(lI aW.1)))=false →
          (pj4 (pj8 aW))=w5∧(I64 ((pj4 aW).2.2.1+(1:Int)))∧(∃ d23:J5×Int,((True∧True∧True∧(pj4 aW).2.1=(lI (Qa hk lw hd rows))∧((pj4 aW).2.2.1+(1:Int))=d23.2∧True)∧((aW.2.1=bd∧(([]:List SV)=[]))∧Jq∧(d15.2=d23.1∧(List.isEmpty d15.2)=(List.isEmpty d23.1))∧((pj4 aW).1=(Qa hk lw hd rows)∧(List.isEmpty (pj4 aW).1)=(List.isEmpty (Qa hk lw hd rows)))∧True))∧q4 d23))) d150))) d80) ∧
    ((decide (d4.2<(lI (Qa hk lw hd rows))))=false →
     ((True∧(0:Int)=(Yi hk lw hd rows bd)∧(([]:List SV)=[]))∧((d4.1=(flC hk lw hd rows bd)∧(List.isEmpty d4.1)=(flC hk lw hd rows bd).isEmpty)∧True)))) d40))
def ZB:Cx:=⟨[],[(81,Jh)],64,[3000059],0,[],[],[],[],false,[],[],[59],[]⟩
def Zz:List (Nat×LoopAnn):=[(0,⟨(List UInt8)×Int×(List (Int×Int×Int×Bool))×Int×(List UInt8)×(List (List UInt8))×Int×Int×Bool×Int×(List UInt8)×(List UInt8)×(List UInt8)×LpD,Int,[1,2,4,5],fun e x=>[.dd 2000003 .yv,.box 200000400002 0,.fn 81 [] [.box 200000400002 0],.val (.i .i64) x],fun e x=>[(200000400002,.slot 2,.cells [.val .st e.1] (some 122)),(2000003,.key 2000003,.lpf [.any,.any,.any,.any,.any,.box 5 0,.box 6 0,.any,.any,.box 9 0,.val .st e.2.2.2.2.1,.any,.any,.any,.any,.any,.any,.any,.any,.any,.any,.any,.any,.any,.any,.any,.any,.lst 15,.val (.i .i64) e.2.2.2.2.2.2.1,.val (.i .i64) e.2.2.2.2.2.2.2.1,.val .bo e.2.2.2.2.2.2.2.2.1,.val (.i .i64) e.2.2.2.2.2.2.2.2.2.1,.any,.val .st e.2.2.2.2.2.2.2.2.2.2.1,.val .st e.2.2.2.2.2.2.2.2.2.2.2.1,.fn 54 [.val .st e.2.2.2.2.2.2.2.2.2.2.2.2.1] [],.any,.any,.any,.any,.any,.any,.any,.any,.any,.any,.any,.any,.any] e.2.2.2.2.2.2.2.2.2.2.2.2.2 .rdy),(5,.key 5,.cells [.val (.i .i64) e.2.1] (some 3)),(6,.key 6,.cells [.lst 46] (some 68)),(46,.cell 6 0,.lst 84 (.pair (.i .i64) (.pair (.i .i64) (.pair (.i .i64) .bo))) e.2.2.1 (List.isEmpty e.2.2.1)),(9,.key 9,.cells [.val (.i .i64) e.2.2.2.1] (some 3)),(15,.key 15,.lst 9 .st e.2.2.2.2.2.1 (List.isEmpty e.2.2.2.2.2.1))]⟩),
 (2,⟨(List UInt8)×Int×Int×(List UInt8)×(List (List UInt8))×Int×Int×Bool×Int×(List UInt8)×(List UInt8)×(List UInt8)×LpD,Int×(List (Int×Int×Int×Bool)),[1,2,4,6],fun e x=>[.dd 2000003 .yv,.box 200000400002 0,.fn 81 [] [.box 200000400002 0],.val (.i .i64) x.1],fun e x=>[(200000400002,.slot 2,.cells [.val .st e.1] (some 122)),(2000003,.key 2000003,.lpf [.any,.any,.any,.any,.any,.box 5 0,.box 6 0,.any,.any,.box 9 0,.val .st e.2.2.2.1,.any,.any,.any,.any,.any,.any,.any,.any,.any,.any,.any,.any,.any,.any,.any,.any,.lst 15,.val (.i .i64) e.2.2.2.2.2.1,.val (.i .i64) e.2.2.2.2.2.2.1,.val .bo e.2.2.2.2.2.2.2.1,.val (.i .i64) e.2.2.2.2.2.2.2.2.1,.any,.val .st e.2.2.2.2.2.2.2.2.2.1,.val .st e.2.2.2.2.2.2.2.2.2.2.1,.fn 54 [.val .st e.2.2.2.2.2.2.2.2.2.2.2.1] [],.any,.any,.any,.any,.any,.any,.any,.any,.any,.any,.any,.any,.any] e.2.2.2.2.2.2.2.2.2.2.2.2 .rdy),(5,.key 5,.cells [.val (.i .i64) e.2.1] (some 3)),(6,.key 6,.cells [.lst 46] (some 68)),(46,.cell 6 0,.lst 84 (.pair (.i .i64) (.pair (.i .i64) (.pair (.i .i64) .bo))) x.2 (List.isEmpty x.2)),(9,.key 9,.cells [.val (.i .i64) e.2.2.1] (some 3)),(15,.key 15,.lst 9 .st e.2.2.2.2.1 (List.isEmpty e.2.2.2.2.1))]⟩),
 (4,⟨(List UInt8)×Int×Int×Int×Bool×Int×(List (Int×Int×Int×Bool))×Int×(List UInt8)×(List (List UInt8))×Int×Int×Bool×Int×(List UInt8)×(List UInt8)×(List UInt8)×LpD,Int,[1,2,4,6,7],fun e x=>[.dd 2000003 .yv,.box 200000400002 0,.fn 81 [] [.box 200000400002 0],.val (.i .i64) e.2.1,.box 200000400007 0],fun e x=>[(200000400002,.slot 2,.cells [.val .st e.1] (some 122)),(200000400007,.slot 7,.cells [.val (.i .i64) e.2.2.1,.val (.i .i64) e.2.2.2.1,.val (.i .i64) x,.val .bo e.2.2.2.2.1] (some 84)),(2000003,.key 2000003,.lpf [.any,.any,.any,.any,.any,.box 5 0,.box 6 0,.any,.any,.box 9 0,.val .st e.2.2.2.2.2.2.2.2.1,.any,.any,.any,.any,.any,.any,.any,.any,.any,.any,.any,.any,.any,.any,.any,.any,.lst 15,.val (.i .i64) e.2.2.2.2.2.2.2.2.2.2.1,.val (.i .i64) e.2.2.2.2.2.2.2.2.2.2.2.1,.val .bo e.2.2.2.2.2.2.2.2.2.2.2.2.1,.val (.i .i64) e.2.2.2.2.2.2.2.2.2.2.2.2.2.1,.any,.val .st e.2.2.2.2.2.2.2.2.2.2.2.2.2.2.1,.val .st e.2.2.2.2.2.2.2.2.2.2.2.2.2.2.2.1,.fn 54 [.val .st e.2.2.2.2.2.2.2.2.2.2.2.2.2.2.2.2.1] [],.any,.any,.any,.any,.any,.any,.any,.any,.any,.any,.any,.any,.any] e.2.2.2.2.2.2.2.2.2.2.2.2.2.2.2.2.2 .rdy),(5,.key 5,.cells [.val (.i .i64) e.2.2.2.2.2.1] (some 3)),(6,.key 6,.cells [.lst 46] (some 68)),(46,.cell 6 0,.lst 84 (.pair (.i .i64) (.pair (.i .i64) (.pair (.i .i64) .bo))) e.2.2.2.2.2.2.1 (List.isEmpty e.2.2.2.2.2.2.1)),(9,.key 9,.cells [.val (.i .i64) e.2.2.2.2.2.2.2.1] (some 3)),(15,.key 15,.lst 9 .st e.2.2.2.2.2.2.2.2.2.1 (List.isEmpty e.2.2.2.2.2.2.2.2.2.1))]⟩)]
def NZ:Cx:=⟨[(3,(.i .i64)),(84,(.pair (.i .i64) (.pair (.i .i64) (.pair (.i .i64) .bo))))],[(22,Kw),(38,W8)],49,[],0,[],[],[],[],false,[],[(54,Q6w ZB Zz c54 64)],[],[]⟩
def PG (hk:Int) (lw:List Int) (hd:Int) (rows:List Int) (bd:Int):List (Nat×LoopAnn):=[(1,⟨Unit,(List (Int×Int×Int×Bool))×Int,[5,6,27,28,29],fun e x=>[.box 5 0,.box 6 0,.lst 15,.val (.i .i64) (((List.length (Qa hk lw hd rows)):Nat):Int),.val (.i .i64) x.2],fun e x=>[(5,.slot 5,.cells [.val (.i .i64) bd] (some 3)),(6,.slot 6,.cells [.lst 46] (some 68)),(46,.cell 6 0,.lst 84 (.pair (.i .i64) (.pair (.i .i64) (.pair (.i .i64) .bo))) x.1 (List.isEmpty x.1)),(15,.slot 27,.lst 9 .st (Qa hk lw hd rows) (List.isEmpty (Qa hk lw hd rows)))]⟩)]
theorem P3 (d:(Int×List Int)×(Int×List Int)×Int):gwp (NZ) (PG d.1.1 d.1.2 d.2.1.1 d.2.1.2 d.2.2) c30 0 (U0 [.cell 6 false 1,.tmp 7] (UE d) (UX d)) (QS 49 (AL.can NS d))=WM d.1.1 d.1.2 d.2.1.1 d.2.1.2 d.2.2:=by kernel_rfl
abbrev Pu:Prop:=OkC Tryz.prog 30 VJ
theorem PI (h:∀ (hk:Int) (lw:List Int) (hd:Int) (rows:List Int) (bd:Int),(lw.length≤110∧rows.length≤110)→WM hk lw hd rows bd):OkC Tryz.prog 30 VJ :=
 Z8 Q2z mixed (C:=NZ) (V:=fun (d:(Int×List Int)×(Int×List Int)×Int)=>WM d.1.1 d.1.2 d.2.1.1 d.2.1.2 d.2.2) ⟨(.cons Gb (.cons Kz .nil)),XsOk.nil,ItsOk.nil,YlOk.nil,(IysOk.cons (S8 Q38 mixed (C:=ZB) ⟨(.cons KZ .nil),XsOk.nil,ItsOk.nil,YlOk.nil,IysOk.nil,XfOk.nil⟩ Zz) IysOk.nil),XfOk.nil⟩ (P3) fun d hp=>h d.1.1 d.1.2 d.2.1.1 d.2.1.2 d.2.2 hp
theorem T9:Pu:=PI fun hk lw hd rows bd h=>by
 unfold WM;(try delta Jq J5 Yq);(try delta lI gD sT I64 Q1 pj8 pj4);have ea:(!(!([bd].any fun n=>decide (n<0)||decide (1000<n))))=!inI bd 0 1000:=by rw[Bool.eq_iff_iff];simp[inI]<;>omega
 rw[ea];refine⟨h,fun he=>?_,fun he=>⟨by simp,fun hb=>?_,fun hb=>?_⟩⟩
 ·have he:Qh hk lw hd rows≠0:=by simpa using he
  have e:Yi hk lw hd rows bd=Qh hk lw hd rows:=by simp[Yi,he]
  have e2:flC hk lw hd rows bd=[]:=by simp[flC,e,he]
  rw[e,e2];exact(by and_intros<;>first|rfl|trivial|simp)
 ·have he:Qh hk lw hd rows=0:=by simpa using he
  have hb:inI bd 0 1000=false:=by simpa using hb
  have e:Yi hk lw hd rows bd=3:=by simp[Yi,he,hb]
  have e2:flC hk lw hd rows bd=[]:=by simp[flC,e]
  rw[e,e2];exact(by and_intros<;>first|rfl|trivial|simp)
 have he:Qh hk lw hd rows=0:=by simpa using he
 have hb:inI bd 0 1000=true:=by simpa using hb
 have e:Yi hk lw hd rows bd=0:=by simp[Yi,he,hb]
 have e2:flC hk lw hd rows bd=Sn bd (Qa hk lw hd rows):=by simp[flC,e]
 rw[e,e2];have lr:0≤bd∧bd≤1000:=by simpa [inI] using hb
 obtain⟨z1,z2,z3⟩:=Ph he;obtain⟨t1,t2,t3,t4,t5⟩:=DF z1;have hc:∀ s∈Qa hk lw hd rows,s.length=lw.length∧∀ b∈s,b=120∨b=46:=fun s hs=>by simp only[Qa,he,if_true,List.mem_map] at hs;obtain⟨r,_,rfl⟩:=hs;exact⟨JT lw r,F9⟩
 have cf:(Qa hk lw hd rows).length≤110:=by simp only[Qa,he,if_true,List.length_map];omega
 have v_:0<lw.length∧lw.length≤96:=by omega
 clear e e2 z1 z2 z3 ea hb he h t1 t2 t3 t4 t5;generalize Qa hk lw hd rows=c at hc cf ⊢;refine⟨(),([],0),(by and_intros<;>first|rfl|trivial|simp),?_⟩;refine LoopP.count2 c.length (fun i xs=>xs=JZ bd c i) (by simp[JZ]) fun i xs hi hJ q hq=>?_;subst hJ;have hl:=HW bd c 110 (fun s hs=>by have:=(hc s hs).1;omega) i hi;dsimp only;refine⟨fun ai=>?_,fun bA=>?_⟩
 ·have ai:i<c.length:=by simp only[decide_eq_true_eq] at ai;omega
  have hn:=Br bd c i;have iH:=hc (c.getD i []) (by rw[Qi ai];exact List.getElem_mem ai);refine⟨by omega,by omega,fun w5=>?_⟩;simp only[Int.toNat_natCast];generalize kn:c.getD i []=s at hn iH ⊢;obtain⟨iH,dL⟩:=iH;refine⟨(s,bd,JZ bd c i,(i:Int),_,c,(c.length:Int),(i:Int),_,_,_,_,_,_),0,(by and_intros<;>first|rfl|trivial|simp),?_⟩;dsimp only;have aO:=ZQ s;have hB:∀ w,w<s.length→bB s w=bgB (YI s) w:=fun w hw=>Q4s dL hw;have hG:∀ w,w<s.length→(s.getD w 0==120)=(YI s).getD w false:=fun w hw=>(B5 hw).symm;simp only[Q9v];have h0:YI s≠[]:=fun e=>by rw[e] at aO;simp at aO;omega
  generalize YI s=p at hn aO hB hG h0;have fg:=Mj i bd p;rw[←aO] at hn;refine LoopP.count s.length (fun k=>∀ j,j<k→bgB p j=false) (fun j hj=>by omega) fun k hk hJ q2 kg=>?_;have vl:((k:Int)).toNat=k:=Int.toNat_natCast k;simp only[vl,Q9];refine⟨fun hg=>by simp only[decide_eq_true_eq] at hg;omega,fun hg=>?_,fun hg=>?_⟩
  ·simp only[Bool.and_eq_true,decide_eq_true_eq,Bool.not_eq_true'] at hg;obtain⟨gH,cW⟩:=hg;refine⟨by omega,_,(by and_intros<;>first|rfl|trivial|simp),kg (by omega) fun j hj=>?_⟩;rcases Nat.lt_succ_iff_lt_or_eq.1 hj with hj|rfl
   ·exact hJ j hj
   ·rw[←hB _ (by omega)];exact cW
  ·refine⟨fun au=>?_,fun au=>?_⟩
   ·have au:k=s.length:=by simp only[beq_iff_eq] at au;omega
    have eI:=Ht (i:=i) (bd:=bd) h0 fun j hj=>hJ j (by omega);rw[eI] at hn;have vn:=hG 0 (by omega);refine⟨by omega,by omega,by trivial,fun l7=>⟨fun eO=>?_,fun hle=>?_⟩⟩
    ·have eO:bd<1000:=by simp only[decide_eq_true_eq] at eO;omega
     refine⟨by simp only[List.length_singleton];omega,?_⟩;repeat first|refine⟨trivial,?_⟩|refine⟨rfl,?_⟩
     refine⟨by omega,(JZ bd c (i+1),(i:Int)+1),?_,hq _ ai rfl⟩;rw[hn,if_pos eO,←vn];exact(by and_intros<;>first|rfl|trivial|simp)
    ·have hle:¬ bd<1000:=by simp only[decide_eq_false_iff_not] at hle;omega
     rw[if_neg hle,List.append_nil] at hn;repeat first|refine⟨trivial,?_⟩|refine⟨rfl,?_⟩
     exact⟨by omega,(JZ bd c i,(i:Int)+1),(by and_intros<;>first|rfl|trivial|simp),hq _ ai hn.symm⟩
   ·have au:k<s.length:=by simp only[beq_eq_false_iff_ne,ne_eq] at au;omega
    have su:bgB p k=true:=by
     rw[←hB k au];have:(k:Int)<(s.length:Int):=by omega
     simpa [this] using hg
    refine⟨(s,bd,(i:Int),_,c,(c.length:Int),(i:Int),_,_,_,_,_,_),((k:Int),JZ bd c i),(by and_intros<;>first|rfl|trivial|simp),?_⟩;dsimp only;refine⟨fun d=>∃ f:Nat,d=((f:Int),JZ bd c i++ZU i bd p (min f p.length))∧(f<p.length→bgB p f=true),fun d=>p.length-d.1.toNat,⟨k,?_,fun _=>su⟩,?_⟩
    ·rw[show min k p.length=k by omega,Gx (by omega) su hJ,List.append_nil]
    rintro _ ⟨f,rfl,o_⟩;dsimp only;have wa:=fg (min f p.length);have fO:(JZ bd c i++ZU i bd p (min f p.length)).length≤110*110+110:=by rw[List.length_append];omega
    refine⟨fun hf=>?_,fun hf=>?_⟩
    ·have hf:f<p.length:=by simp only[decide_eq_true_eq] at hf;omega
     have o_:=o_ hf;refine⟨by omega,by omega,?_⟩;simp only[Int.toNat_natCast];refine⟨(s,(f:Int),0,(f:Int),(s.getD f 0==120),bd,JZ bd c i++ZU i bd p (min f p.length),(i:Int),_,c,(c.length:Int),(i:Int),_,_,_,_,_,_),1,(by and_intros<;>first|rfl|trivial|simp),?_⟩;dsimp only;refine⟨fun d=>∃ L:Nat,d=L∧1≤L∧L≤p.length∧∀ j,1≤j→j<L→bgB p (f+j)=false,fun d=>p.length+1-d.toNat,⟨1,rfl,by omega,by omega,fun j h1 h2=>by omega⟩,?_⟩;rintro _ ⟨L,rfl,qZ,q7,oz⟩;have e3:(f:Int)+(L:Int)=((f+L:Nat):Int):=by omega
     have hm:(f+L) % s.length<s.length:=Nat.mod_lt _ (by omega);have vp:bB s ((f+L) % s.length)=bgB p (f+L):=by rw[hB _ hm,←aO,Np h0]
     simp only[e3,E2,Int.toNat_natCast,vp];refine⟨by omega,by omega,⟨by omega,by omega,by omega⟩,fun hx=>?_,fun hx=>?_⟩
     ·have hx:bgB p (f+L)=false:=by simpa using hx
      have vh:L<p.length:=by
       rcases Nat.lt_or_ge L p.length with h1|h1
       ·exact h1
       ·exfalso;have:L=p.length:=by omega
        subst this;rw[←Np h0,Nat.add_mod_right,Np h0,o_] at hx;cases hx
      refine⟨by omega,((L:Int)+1),(by and_intros<;>first|rfl|trivial|simp),⟨L+1,by omega,by omega,by omega,fun j h1 h2=>?_⟩,by omega⟩;rcases Nat.lt_succ_iff_lt_or_eq.1 h2 with h2|rfl
      ·exact oz j h1 h2
      ·exact hx
     ·have hx:bgB p (f+L)=true:=by simpa using hx
      have jL:=A6 (i:=i) (bd:=bd) hf o_ qZ q7 oz hx;have vq:min f p.length=f:=by omega
      rw[vq] at fO ⊢;have vt:=hG f (by omega);refine⟨by trivial,fun iV=>⟨fun eO=>?_,fun hle=>?_⟩⟩
      ·have eO:bd<(L:Int):=by simp only[decide_eq_true_eq] at eO;omega
       rw[if_pos eO] at jL;refine⟨by simp only[List.length_singleton];omega,?_⟩;repeat first|refine⟨trivial,?_⟩|refine⟨rfl,?_⟩
       refine⟨by omega,(((f+L:Nat):Int),JZ bd c i++ZU i bd p (min (f+L) p.length)),?_,⟨f+L,rfl,fun h=>hx⟩,by simp only[Int.toNat_natCast];omega⟩;rw[jL,←vt,List.append_assoc];exact(by and_intros<;>first|rfl|trivial|simp)
      ·have hle:¬ bd<(L:Int):=by simp only[decide_eq_false_iff_not] at hle;omega
       rw[if_neg hle,List.append_nil] at jL;repeat first|refine⟨trivial,?_⟩|refine⟨rfl,?_⟩
       refine⟨by omega,(((f+L:Nat):Int),JZ bd c i++ZU i bd p f),(by and_intros<;>first|rfl|trivial|simp),⟨f+L,by rw[jL],fun h=>hx⟩,by simp only[Int.toNat_natCast];omega⟩
    ·have hf:p.length≤f:=by simp only[decide_eq_false_iff_not] at hf;omega
     rw[show min f p.length=p.length by omega,←hn];repeat first|refine⟨trivial,?_⟩|refine⟨rfl,?_⟩
     exact⟨by omega,(JZ bd c (i+1),(i:Int)+1),(by and_intros<;>first|rfl|trivial|simp),hq _ ai rfl⟩
 ·have:i=c.length:=by simp only[decide_eq_false_iff_not] at bA;omega
  subst this;exact(by and_intros<;>first|rfl|trivial|simp)
def lOk (h8:Int) (ws rs:List Int):Prop:=0≤h8∧h8≤255∧u8s ws∧Q9l rs
def Gv (c:List (List UInt8)) (pk wp:Int):Bool:=c.all (fun s=>decide ((s.length:Int)=wp))&&decide ((c.length:Int)=pk)
theorem Hi {c:List (List UInt8)}{pk wp:Int}:Gv c pk wp=true↔(∀ s∈c,(s.length:Int)=wp)∧(c.length:Int)=pk:=by simp only[Gv,Bool.and_eq_true,List.all_eq_true,decide_eq_true_eq]
def XX:AL (Int×List Int×List Int):=(.one (.agg (.cons (.k (.i .u8)) (.cons (.k (.list (.i .u8))) (.one (.k (.list (.i .u16))))))))
def KU (d:Int×List Int×List Int):Prop:=lOk d.1 d.2.1 d.2.2
def Xq (d:Int×List Int×List Int):SV:=.agg [.val (.i .i64) (hkN 16 d.1),.lst 0]
def Xo (d:Int×List Int×List Int):List OB:=[.lst 3 (.i .i64) (Q6 (hkN 16 d.1) 48 d.2.1) false]
def Jt:CSp:=V0 XX KU Xq Xo
def Ze (h8:Int) (ws:List Int) (rs:List Int):Prop :=
 (I64 h8)∧((16:Int)≠0)∧(I64 ((1:Int)+(Int.tmod h8 (16:Int))))∧∃ (e4:Unit) (d40:(List Int)×Int),((True∧True∧True∧(0:Int)=d40.2∧True)∧((h8=h8∧ws=ws∧rs=rs∧(([]:List SV)=[]))∧((0:Int)=(0:Int)∧True∧(([]:List SV)=[]))∧(((1:Int)+(Int.tmod h8 (16:Int)))=((1:Int)+(Int.tmod h8 (16:Int)))∧True∧(([]:List SV)=[]))∧(d40.1=[]∧(List.isEmpty d40.1)=true)∧True)) ∧
 LoopP (fun (d4:(List Int)×Int) (q4:((List Int)×Int)→Prop) =>
  (((d4.2==(0:Int))||((decide (d4.2<(lI ws)))&&(decide (d4.2<(48:Int)))))=true →
   ((decide (d4.2<(lI ws)))=true →
    (0≤d4.2)∧(d4.2<(List.length ws))∧(I64 (gD ws d4.2 0))∧(((1:Int)+(Int.tmod h8 (16:Int)))≠0)∧(((List.length d4.1)+(List.length [(Int.tmod (gD ws d4.2 0) ((1:Int)+(Int.tmod h8 (16:Int))))]))*8≤70368744177664)∧(I64 (d4.2+(1:Int)))∧(∃ d5:(List Int)×Int,((True∧True∧True∧(d4.2+(1:Int))=d5.2∧True)∧((h8=h8∧ws=ws∧rs=rs∧(([]:List SV)=[]))∧((0:Int)=(0:Int)∧True∧(([]:List SV)=[]))∧(((1:Int)+(Int.tmod h8 (16:Int)))=((1:Int)+(Int.tmod h8 (16:Int)))∧True∧(([]:List SV)=[]))∧((d4.1++[(Int.tmod (gD ws d4.2 0) ((1:Int)+(Int.tmod h8 (16:Int))))])=d5.1∧false=(List.isEmpty d5.1))∧True))∧q4 d5)) ∧
   ((decide (d4.2<(lI ws)))=false →
    (((List.length d4.1)+(List.length [(0:Int)]))*8≤70368744177664)∧(I64 (d4.2+(1:Int)))∧(∃ d6:(List Int)×Int,((True∧True∧True∧(d4.2+(1:Int))=d6.2∧True)∧((h8=h8∧ws=ws∧rs=rs∧(([]:List SV)=[]))∧((0:Int)=(0:Int)∧True∧(([]:List SV)=[]))∧(((1:Int)+(Int.tmod h8 (16:Int)))=((1:Int)+(Int.tmod h8 (16:Int)))∧True∧(([]:List SV)=[]))∧((d4.1++[(0:Int)])=d6.1∧false=(List.isEmpty d6.1))∧True))∧q4 d6))) ∧
  (((d4.2==(0:Int))||((decide (d4.2<(lI ws)))&&(decide (d4.2<(48:Int)))))=false →
   ((((1:Int)+(Int.tmod h8 (16:Int)))=(hkN 16 h8)∧True∧(([]:List SV)=[]))∧((d4.1=(Q6 (hkN 16 h8) 48 ws)∧(List.isEmpty d4.1)=false)∧True)))) d40
def XR:Cx:=⟨[(3,(.i .i64))],[],48,[],0,[],[],[],[],false,[],[],[],[]⟩
def Vi (h8:Int) (ws:List Int) (rs:List Int):List (Nat×LoopAnn):=[(0,⟨Unit,(List Int)×Int,[1,2,3,4],fun e x=>[.box 1 0,.box 2 0,.box 3 0,.val (.i .i64) x.2],fun e x=>[(1,.slot 1,.cells [.val (.i .u8) h8,.val (.list (.i .u8)) ws,.val (.list (.i .u16)) rs] (some 46)),(2,.slot 2,.cells [.val (.i .i64) (0:Int),.nilS] (some 24)),(3,.slot 3,.cells [.val (.i .i64) ((1:Int)+(Int.tmod h8 (16:Int))),.lst 45] (some 24)),(45,.cell 3 1,.lst 3 (.i .i64) x.1 (List.isEmpty x.1))]⟩)]
theorem Vh (d:Int×List Int×List Int):gwp (XR) (Vi d.1 d.2.1 d.2.2) c18 0 (U0 [.cell 2 true 2] (Xq d) (Xo d)) (QS 48 (AL.can XX d))=Ze d.1 d.2.1 d.2.2:=by kernel_rfl
abbrev Vo:Prop:=OkC Tryz.prog 18 Jt
theorem VK (h:∀ (h8:Int) (ws:List Int) (rs:List Int),(lOk h8 ws rs)→Ze h8 ws rs):OkC Tryz.prog 18 Jt :=
 Z8 Q3h mixed (C:=XR) (V:=fun (d:Int×List Int×List Int)=>Ze d.1 d.2.1 d.2.2) ⟨.nil,XsOk.nil,ItsOk.nil,YlOk.nil,IysOk.nil,XfOk.nil⟩ (Vh) fun d hp=>h d.1 d.2.1 d.2.2 hp
theorem DD {m h8:Int}(hm:0<m) (h:0≤h8):1≤hkN m h8∧hkN m h8≤m:=by have h1:=Int.tmod_nonneg m h;have h2:=Int.tmod_lt_of_pos h8 hm;simp only[hkN];omega
theorem Hl {hk:Int}{cap:Nat}{ws:List Int}:(Q6 hk cap ws).length=if ws=[] then 1 else min cap ws.length:=by unfold Q6;split<;>simp
theorem Ar {hk:Int}{cap:Nat}{ws:List Int}{i:Nat}(h:i<ws.length) (hc:i<cap):(Q6 hk cap ws)[i]?=some (Int.tmod (ws.getD i 0) hk):=by
 have aF:ws≠[]:=by rintro rfl;simp at h
 unfold Q6;rw[if_neg aF];simp[List.getElem?_take,hc,h]
theorem Vw:Vo:=VK fun h8 ws rs h=>by
 obtain⟨h1,h2,pa,lY⟩:=h;have hk:=DD (m:=16) (by omega) h1;have e:(1+Int.tmod h8 16)=hkN 16 h8:=rfl;have hk:1≤hkN 16 h8∧hkN 16 h8≤16:=hk;unfold Ze;(try delta lI gD sT I64 Q1 pj8 pj4);simp only[true_and,and_true,eq_self_iff_true,exists_eq_left',exists_const,decide_eq_true_eq,decide_eq_false_iff_not,beq_iff_eq,bne_iff_ne,ne_eq,beq_eq_false_iff_ne,bne_eq_false_iff_eq,Bool.not_eq_true',Bool.not_eq_false',Bool.not_eq_true,Bool.not_eq_false,Int.toNat_natCast,Int.ofNat_lt,gt_iff_lt,ge_iff_le,Q9,e];refine⟨by omega,by omega,by omega,([],0),⟨rfl,rfl,rfl⟩,?_⟩;have hN:(Q6 (hkN 16 h8) 48 ws).length=if ws=[] then 1 else min 48 ws.length:=Hl
 have aj:∀ k:Nat,(((k:Int)==0)||(decide ((k:Int)<ws.length)&&decide ((k:Int)<48)))=decide (k<(Q6 (hkN 16 h8) 48 ws).length):=fun k=>by
  rw[hN];by_cases hz:ws=[]
  ·subst hz;cases k<;>simp;omega
  ·have:0<ws.length:=List.length_pos_iff.2 hz;rw[if_neg hz];cases k with
   |zero=>simp;omega
   |succ k =>rw[Bool.eq_iff_iff];simp;omega
 have rb:(Q6 (hkN 16 h8) 48 ws).length≤48:=by rw[hN];split<;>omega
 refine LoopP.count2 (Q6 (hkN 16 h8) 48 ws).length (fun k xs=>xs=(Q6 (hkN 16 h8) 48 ws).take k) (by simp) fun k xs hk hJ q hq=>?_;dsimp only;rw[aj];simp only[true_and,and_true,eq_self_iff_true,exists_eq_left',exists_const,decide_eq_true_eq,decide_eq_false_iff_not,beq_iff_eq,bne_iff_ne,ne_eq,beq_eq_false_iff_ne,bne_eq_false_iff_eq,Bool.not_eq_true',Bool.not_eq_false',Bool.not_eq_true,Bool.not_eq_false,Int.toNat_natCast,Int.ofNat_lt,gt_iff_lt,ge_iff_le];refine⟨fun ai=>⟨fun hw=>?_,fun hw=>?_⟩,fun bA=>?_⟩
 ·have hw:k<ws.length:=by omega
  have vu:=pa _ (List.getElem_mem hw);have rf:k<48:=by omega
  simp only[Qi hw,List.length_singleton];have hv:(Q6 (hkN 16 h8) 48 ws)[k]=Int.tmod ws[k] (hkN 16 h8):=by have:=Ar (hk:=hkN 16 h8) hw rf;rw[Qi hw] at this;have h3:=List.getElem?_eq_getElem ai;exact osj (h3.symm.trans this)
  refine⟨by omega,by omega,by omega,by omega,by rw[hJ,List.length_take];omega,by omega,(xs++[Int.tmod ws[k] (hkN 16 h8)],(k:Int)+1),⟨rfl,rfl,by simp⟩,hq _ ai ?_⟩;rw[J9 ai,←hJ,hv]
 ·have hz:ws=[]:=by
   cases pa:ws with
   |nil=>rfl
   |cons a l =>
    exfalso;rw[hN] at ai;have:ws≠[]:=by rw[pa];simp
    rw[if_neg this] at ai;omega
  have ie:k=0:=by rw[hN,if_pos hz] at ai;omega
  subst ie;simp only[List.length_singleton];refine⟨by rw[hJ,List.length_take];omega,by omega,(xs++[0],1),⟨rfl,rfl,by simp⟩,hq _ ai ?_⟩;rw[J9 ai,←hJ];simp[Q5z,Q6,hz]
 ·have:k=(Q6 (hkN 16 h8) 48 ws).length:=by omega
  subst this;rw[List.take_length] at hJ;subst hJ;refine⟨rfl,?_⟩;rw[List.isEmpty_eq_false_iff];intro hz;rw[hz] at hN;split at hN
  ·cases hN
  ·rename_i aF;have:=List.length_pos_iff.2 aF;simp only[List.length_nil] at hN;omega
def Ww:AL (Int×List Int×List Int):=(.one (.agg (.cons (.k (.i .u8)) (.cons (.k (.list (.i .u8))) (.one (.k (.list (.i .u16))))))))
def VG (d:Int×List Int×List Int):Prop:=lOk d.1 d.2.1 d.2.2
def XS (d:Int×List Int×List Int):SV:=.agg [.val (.i .i64) (hkN 16 d.1),.lst 0]
def W5 (d:Int×List Int×List Int):List OB:=[.lst 3 (.i .i64) (Qc (hkN 16 d.1) 12 d.2.2) false]
def JP:CSp:=V0 Ww VG XS W5
def Zo (h8:Int) (ws:List Int) (rs:List Int):Prop :=
 (I64 h8)∧((16:Int)≠0)∧(I64 ((1:Int)+(Int.tmod h8 (16:Int))))∧∃ (e4:Unit) (d40:(List Int)×Int),((True∧True∧True∧(0:Int)=d40.2∧True)∧((h8=h8∧ws=ws∧rs=rs∧(([]:List SV)=[]))∧((0:Int)=(0:Int)∧True∧(([]:List SV)=[]))∧(((1:Int)+(Int.tmod h8 (16:Int)))=((1:Int)+(Int.tmod h8 (16:Int)))∧True∧(([]:List SV)=[]))∧(d40.1=[]∧(List.isEmpty d40.1)=true)∧True)) ∧
 LoopP (fun (d4:(List Int)×Int) (q4:((List Int)×Int)→Prop) =>
  (((d4.2==(0:Int))||((decide (d4.2<(lI rs)))&&(decide (d4.2<(12:Int)))))=true →
   ((decide (d4.2<(lI rs)))=true →
    (0≤d4.2)∧(d4.2<(List.length rs))∧(I64 (gD rs d4.2 0))∧(InK .u64 ((1:Int)+(Int.tmod h8 (16:Int))))∧(0≤((1:Int)+(Int.tmod h8 (16:Int))))∧(I64 (Vf .i64 (1:Int) ((1:Int)+(Int.tmod h8 (16:Int)))))∧(I64 ((Vf .i64 (1:Int) ((1:Int)+(Int.tmod h8 (16:Int))))-(1:Int)))∧(((List.length d4.1)+(List.length [(JL .and .i64 (gD rs d4.2 0) ((Vf .i64 (1:Int) ((1:Int)+(Int.tmod h8 (16:Int))))-(1:Int)))]))*8≤70368744177664)∧(I64 (d4.2+(1:Int)))∧(∃ d5:(List Int)×Int,((True∧True∧True∧(d4.2+(1:Int))=d5.2∧True)∧((h8=h8∧ws=ws∧rs=rs∧(([]:List SV)=[]))∧((0:Int)=(0:Int)∧True∧(([]:List SV)=[]))∧(((1:Int)+(Int.tmod h8 (16:Int)))=((1:Int)+(Int.tmod h8 (16:Int)))∧True∧(([]:List SV)=[]))∧((d4.1++[(JL .and .i64 (gD rs d4.2 0) ((Vf .i64 (1:Int) ((1:Int)+(Int.tmod h8 (16:Int))))-(1:Int)))])=d5.1∧false=(List.isEmpty d5.1))∧True))∧q4 d5)) ∧
   ((decide (d4.2<(lI rs)))=false →
    (InK .u64 ((1:Int)+(Int.tmod h8 (16:Int))))∧(0≤((1:Int)+(Int.tmod h8 (16:Int))))∧(I64 (Vf .i64 (1:Int) ((1:Int)+(Int.tmod h8 (16:Int)))))∧(I64 ((Vf .i64 (1:Int) ((1:Int)+(Int.tmod h8 (16:Int))))-(1:Int)))∧(((List.length d4.1)+(List.length [(JL .and .i64 (21:Int) ((Vf .i64 (1:Int) ((1:Int)+(Int.tmod h8 (16:Int))))-(1:Int)))]))*8≤70368744177664)∧(I64 (d4.2+(1:Int)))∧(∃ d6:(List Int)×Int,((True∧True∧True∧(d4.2+(1:Int))=d6.2∧True)∧((h8=h8∧ws=ws∧rs=rs∧(([]:List SV)=[]))∧((0:Int)=(0:Int)∧True∧(([]:List SV)=[]))∧(((1:Int)+(Int.tmod h8 (16:Int)))=((1:Int)+(Int.tmod h8 (16:Int)))∧True∧(([]:List SV)=[]))∧((d4.1++[(JL .and .i64 (21:Int) ((Vf .i64 (1:Int) ((1:Int)+(Int.tmod h8 (16:Int))))-(1:Int)))])=d6.1∧false=(List.isEmpty d6.1))∧True))∧q4 d6))) ∧
  (((d4.2==(0:Int))||((decide (d4.2<(lI rs)))&&(decide (d4.2<(12:Int)))))=false →
   ((((1:Int)+(Int.tmod h8 (16:Int)))=(hkN 16 h8)∧True∧(([]:List SV)=[]))∧((d4.1=(Qc (hkN 16 h8) 12 rs)∧(List.isEmpty d4.1)=false)∧True)))) d40
def Wp:Cx:=⟨[(3,(.i .i64))],[],51,[],0,[],[],[],[],false,[],[],[],[]⟩
def Us (h8:Int) (ws:List Int) (rs:List Int):List (Nat×LoopAnn):=[(0,⟨Unit,(List Int)×Int,[1,2,3,4],fun e x=>[.box 1 0,.box 2 0,.box 3 0,.val (.i .i64) x.2],fun e x=>[(1,.slot 1,.cells [.val (.i .u8) h8,.val (.list (.i .u8)) ws,.val (.list (.i .u16)) rs] (some 46)),(2,.slot 2,.cells [.val (.i .i64) (0:Int),.nilS] (some 30)),(3,.slot 3,.cells [.val (.i .i64) ((1:Int)+(Int.tmod h8 (16:Int))),.lst 48] (some 30)),(48,.cell 3 1,.lst 3 (.i .i64) x.1 (List.isEmpty x.1))]⟩)]
theorem Ug (d:Int×List Int×List Int):gwp (Wp) (Us d.1 d.2.1 d.2.2) c19 0 (U0 [.cell 2 true 2] (XS d) (W5 d)) (QS 51 (AL.can Ww d))=Zo d.1 d.2.1 d.2.2:=by kernel_rfl
abbrev Ub:Prop:=OkC Tryz.prog 19 JP
theorem Uk (h:∀ (h8:Int) (ws:List Int) (rs:List Int),(lOk h8 ws rs)→Zo h8 ws rs):OkC Tryz.prog 19 JP :=
 Z8 Q1r mixed (C:=Wp) (V:=fun (d:Int×List Int×List Int)=>Zo d.1 d.2.1 d.2.2) ⟨.nil,XsOk.nil,ItsOk.nil,YlOk.nil,IysOk.nil,XfOk.nil⟩ (Ug) fun d hp=>h d.1 d.2.1 d.2.2 hp
theorem Iv {x h:Int}(h0:0≤x) (h1:x<9223372036854775808) (a:1≤h) (b:h≤24):JL .and .i64 x (Vf .i64 1 h-1)=x % 2 ^ h.toNat:=by
 obtain⟨n,rfl⟩:=Int.eq_ofNat_of_zero_le h0;obtain⟨m,rfl⟩:=Int.eq_ofNat_of_zero_le (show 0≤h by omega);have hp:=X8 a b;rw[Bx (by omega) (by omega)];simp only[Int.toNat_natCast] at hp ⊢;have e2:((2:Int) ^ m)=((2 ^ m:Nat):Int):=by rw[Int.natCast_pow];rfl
 rw[e2] at hp ⊢;have e:(((2 ^ m:Nat):Int)-1)=((2 ^ m-1:Nat):Int):=by omega
 rw[e,LH (by omega) (by omega),Nat.and_two_pow_sub_one_eq_mod];rfl
theorem Tp {hk:Int}{cap:Nat}{rs:List Int}:(Qc hk cap rs).length=if rs=[] then 1 else min cap rs.length:=by unfold Qc;split<;>simp
theorem Ff {hk:Int}{cap:Nat}{rs:List Int}{i:Nat}(h:i<rs.length) (hc:i<cap):(Qc hk cap rs)[i]?=some (rs.getD i 0 % 2 ^ hk.toNat):=by
 have aF:rs≠[]:=by rintro rfl;simp at h
 unfold Qc;rw[if_neg aF];simp[List.getElem?_take,hc,h]
theorem Uo:Ub:=Uk fun h8 ws rs h=>by
 obtain⟨h1,h2,pa,lY⟩:=h;have hk:1≤hkN 16 h8∧hkN 16 h8≤16:=DD (m:=16) (by omega) h1;have e:(1+Int.tmod h8 16)=hkN 16 h8:=rfl;have hp:=X8 hk.1 (show hkN 16 h8≤24 by omega);have hs:=Bx (show 0≤hkN 16 h8 by omega) (show hkN 16 h8≤62 by omega);have hm:∀ x,0≤x→x<9223372036854775808→JL .and .i64 x (2 ^ (hkN 16 h8).toNat-1)=x % 2 ^ (hkN 16 h8).toNat:=fun x a b=>by
  have:=Iv a b hk.1 (show hkN 16 h8≤24 by omega)
  rwa [hs] at this
 have hu:InK .u64 (hkN 16 h8):=⟨by show (0:Int)≤_;omega,by show _≤(18446744073709551615:Int);omega⟩;unfold Zo;(try delta lI gD sT I64 Q1 pj8 pj4);simp only[true_and,and_true,eq_self_iff_true,exists_eq_left',exists_const,decide_eq_true_eq,decide_eq_false_iff_not,beq_iff_eq,bne_iff_ne,ne_eq,beq_eq_false_iff_ne,bne_eq_false_iff_eq,Bool.not_eq_true',Bool.not_eq_false',Bool.not_eq_true,Bool.not_eq_false,Int.toNat_natCast,Int.ofNat_lt,gt_iff_lt,ge_iff_le,Q9,e,hs,hu];refine⟨by omega,by omega,by omega,([],0),⟨rfl,rfl,rfl⟩,?_⟩;have hN:(Qc (hkN 16 h8) 12 rs).length=if rs=[] then 1 else min 12 rs.length:=Tp
 have aj:∀ k:Nat,(((k:Int)==0)||(decide ((k:Int)<rs.length)&&decide ((k:Int)<12)))=decide (k<(Qc (hkN 16 h8) 12 rs).length):=fun k=>by
  rw[hN];by_cases hz:rs=[]
  ·subst hz;cases k<;>simp;omega
  ·have:0<rs.length:=List.length_pos_iff.2 hz;rw[if_neg hz];cases k with
   |zero=>simp;omega
   |succ k =>rw[Bool.eq_iff_iff];simp;omega
 have rb:(Qc (hkN 16 h8) 12 rs).length≤12:=by rw[hN];split<;>omega
 refine LoopP.count2 (Qc (hkN 16 h8) 12 rs).length (fun k xs=>xs=(Qc (hkN 16 h8) 12 rs).take k) (by simp) fun k xs l_ hJ q hq=>?_;dsimp only;rw[aj];simp only[true_and,and_true,eq_self_iff_true,exists_eq_left',exists_const,decide_eq_true_eq,decide_eq_false_iff_not,beq_iff_eq,bne_iff_ne,ne_eq,beq_eq_false_iff_ne,bne_eq_false_iff_eq,Bool.not_eq_true',Bool.not_eq_false',Bool.not_eq_true,Bool.not_eq_false,Int.toNat_natCast,Int.ofNat_lt,gt_iff_lt,ge_iff_le];refine⟨fun ai=>⟨fun hw=>?_,fun hw=>?_⟩,fun bA=>?_⟩
 ·have hw:k<rs.length:=by omega
  have vw:=lY _ (List.getElem_mem hw);have rh:k<12:=by omega
  simp only[Qi hw,List.length_singleton];have hv:(Qc (hkN 16 h8) 12 rs)[k]=rs[k] % 2 ^ (hkN 16 h8).toNat:=by have:=Ff (hk:=hkN 16 h8) hw rh;rw[Qi hw] at this;have h3:=List.getElem?_eq_getElem ai;exact osj (h3.symm.trans this)
  rw[hm _ (by omega) (by omega)];refine⟨by omega,by omega,by omega,by omega,by omega,by omega,by rw[hJ,List.length_take];omega,by omega,(xs++[rs[k] % 2 ^ (hkN 16 h8).toNat],(k:Int)+1),⟨rfl,rfl,by simp⟩,hq _ ai ?_⟩;rw[J9 ai,←hJ,hv]
 ·have hz:rs=[]:=by
   cases lY:rs with
   |nil=>rfl
   |cons a l =>
    exfalso;rw[hN] at ai;have:rs≠[]:=by rw[lY];simp
    rw[if_neg this] at ai;omega
  have ie:k=0:=by rw[hN,if_pos hz] at ai;omega
  subst ie;simp only[List.length_singleton];rw[hm _ (by omega) (by omega)];refine⟨by omega,by omega,by omega,by rw[hJ,List.length_take];omega,by omega,(xs++[21 % 2 ^ (hkN 16 h8).toNat],1),⟨rfl,rfl,by simp⟩,hq _ ai ?_⟩;rw[J9 ai,←hJ];simp[Q8s,Qc,hz]
 ·have:k=(Qc (hkN 16 h8) 12 rs).length:=by omega
  subst this;rw[List.take_length] at hJ;subst hJ;refine⟨rfl,?_⟩;rw[List.isEmpty_eq_false_iff];intro hz;rw[hz] at hN;split at hN
  ·cases hN
  ·rename_i aF;have:=List.length_pos_iff.2 aF;simp only[List.length_nil] at hN;omega
def UL:AL (List (List UInt8)×Int×Int):=(.cons (.k (.list .st)) (.cons (.k (.i .i64)) (.one (.k (.i .i64)))))
def B4 (d:List (List UInt8)×Int×Int):Prop:=d.1.length≤1000
def VR (d:List (List UInt8)×Int×Int):SV:=.val .bo (Gv d.1 d.2.1 d.2.2)
def V7 (d:List (List UInt8)×Int×Int):List OB:=[]
def Ks:CSp:=V0 UL B4 VR V7
def XO (c:List (List UInt8)) (pk:Int) (wp:Int):Prop :=
 ∃ (e2:Unit) (d20:Int),((c=c∧pk=pk∧wp=wp∧(0:Int)=d20∧True)∧(True)) ∧
 LoopP (fun (d2:Int) (q2:(Int)→Prop) =>
  ((decide (d2<(lI c)))=true →
   (0≤d2)∧(d2<(List.length c))∧(((lI (gD c d2 [])) != wp)=true →
    (false=(Gv c pk wp)∧(True))) ∧
   (((lI (gD c d2 [])) != wp)=false →
    (I64 (d2+(1:Int)))∧(∃ d3:Int,((c=c∧pk=pk∧wp=wp∧(d2+(1:Int))=d3∧True)∧(True))∧q2 d3))) ∧
  ((decide (d2<(lI c)))=false →
   (((lI c)==pk)=(Gv c pk wp)∧(True)))) d20
def UF:Cx:=⟨[],[],25,[],0,[],[],[],[],false,[],[],[],[]⟩
def BV (c:List (List UInt8)) (pk:Int) (wp:Int):List (Nat×LoopAnn):=[(0,⟨Unit,Int,[0,1,2,7],fun e x=>[.val (.list .st) c,.val (.i .i64) pk,.val (.i .i64) wp,.val (.i .i64) x],fun e x=>[]⟩)]
theorem Hd (d:List (List UInt8)×Int×Int):gwp (UF) (BV d.1 d.2.1 d.2.2) c24 0 (U0 [.tmp 6] (VR d) (V7 d)) (QS 25 (AL.can UL d))=XO d.1 d.2.1 d.2.2:=by kernel_rfl
abbrev H8:Prop:=OkC Tryz.prog 24 Ks
theorem H3 (h:∀ (c:List (List UInt8)) (pk:Int) (wp:Int),(c.length≤1000)→XO c pk wp):OkC Tryz.prog 24 Ks :=
 Z8 Q19 mixed (C:=UF) (V:=fun (d:List (List UInt8)×Int×Int)=>XO d.1 d.2.1 d.2.2) ⟨.nil,XsOk.nil,ItsOk.nil,YlOk.nil,IysOk.nil,XfOk.nil⟩ (Hd) fun d hp=>h d.1 d.2.1 d.2.2 hp
theorem BU:H8:=H3 fun c pk wp hc=>by
 unfold XO;(try delta lI gD sT I64 Q1 pj8 pj4)
 (try simp only[decide_eq_true_eq,decide_eq_false_iff_not])
 refine⟨(),0,(by and_intros<;>first|rfl|trivial|simp),?_⟩;refine LoopP.count c.length (fun k=>∀ i,i<k→((c.getD i []).length:Int)=wp) (fun i hi=>by omega) fun k hk hJ q hq=>?_;simp only[Int.toNat_natCast,Q9];refine⟨fun ai=>⟨by omega,by omega,fun hx=>?_,fun hx=>⟨by omega,_,(by and_intros<;>first|rfl|trivial|simp),hq (by omega) fun i hi=>?_⟩⟩,fun bA=>?_⟩
 ·have hx:((c.getD k []).length:Int)≠wp:=by simpa using hx
  refine⟨Eq.symm ?_,trivial⟩;rw[Bool.eq_false_iff];intro h;have oX:k<c.length:=by omega
  rw[Qi oX] at hx;exact hx ((Hi.1 h).1 _ (List.getElem_mem oX))
 ·rcases Nat.lt_succ_iff_lt_or_eq.1 hi with hi|rfl
  ·exact hJ i hi
  ·simpa using hx
 ·have hk:k=c.length:=by omega
  subst hk;refine⟨?_,trivial⟩;rw[Bool.eq_iff_iff,Hi,beq_iff_eq];refine⟨fun h=>⟨fun s hs=>?_,h⟩,fun h=>h.2⟩;obtain⟨i,hi,rfl⟩:=List.getElem_of_mem hs;have:=hJ i hi
  rwa [Qi hi] at this
theorem Q15 {h8:Int}{ws rs:List Int}(h:lOk h8 ws rs):(1≤hkN 16 h8∧hkN 16 h8≤16)∧(Q6 (hkN 16 h8) 48 ws≠[]∧(Q6 (hkN 16 h8) 48 ws).length≤48∧∀ x∈Q6 (hkN 16 h8) 48 ws,0≤x∧x<hkN 16 h8) ∧
  (Qc (hkN 16 h8) 12 rs≠[]∧(Qc (hkN 16 h8) 12 rs).length≤12∧∀ x∈Qc (hkN 16 h8) 12 rs,0≤x∧x<2 ^ (hkN 16 h8).toNat):=by
 obtain⟨h1,h2,h3,h4⟩:=h;have hk:=DD (m:=16) (by omega) h1;refine⟨hk,⟨?_,?_,?_⟩,⟨?_,?_,?_⟩⟩
 ·unfold Q6;split
  ·simp
  ·rename_i aF;simpa using aF
 ·rw[Hl];split<;>omega
 ·intro x hx;unfold Q6 at hx;split at hx
  ·rw[List.mem_singleton.1 hx];omega
  ·simp only[List.mem_map] at hx;obtain⟨y,hy,rfl⟩:=hx;have:=h3 y (List.mem_of_mem_take hy);exact⟨Int.tmod_nonneg _ this.1,Int.tmod_lt_of_pos _ (by omega)⟩
 ·unfold Qc;split
  ·simp
  ·rename_i aF;simpa using aF
 ·rw[Tp];split<;>omega
 ·intro x hx;have hp:=X8 hk.1 (show hkN 16 h8≤24 by omega);unfold Qc at hx;split at hx
  ·rw[List.mem_singleton.1 hx];exact⟨Int.emod_nonneg _ (by omega),Int.emod_lt_of_pos _ (by omega)⟩
  ·simp only[List.mem_map] at hx;obtain⟨y,_,rfl⟩:=hx;exact⟨Int.emod_nonneg _ (by omega),Int.emod_lt_of_pos _ (by omega)⟩
theorem IA {H:Int}{lw:List Int}(h1:1≤H∧H≤16) (h2:lw≠[]∧lw.length≤48∧∀ x∈lw,0≤x∧x<H):QK H lw=0:=by
 have e1:inI H 1 24=true:=by unfold inI;rw[decide_eq_true (by omega),decide_eq_true (by omega)];rfl
 have e2:(lw.any fun x=>!inI x 0 (H-1))=false:=by rw[List.any_eq_false];intro x hx;have:=h2.2.2 x hx;unfold inI;rw[decide_eq_true (by omega),decide_eq_true (by omega)];decide
 have:=List.length_pos_iff.2 h2.1;unfold QK;rw[e1,e2,if_neg (by decide),if_neg (by omega),if_neg (by omega),if_neg (by decide)]
theorem Aa {H:Int}{rows:List Int}(h1:1≤H∧H≤16) (h2:rows≠[]∧rows.length≤12∧∀ x∈rows,0≤x∧x<2 ^ H.toNat):Qb H rows=0:=by
 have e1:inI H 1 24=true:=by unfold inI;rw[decide_eq_true (by omega),decide_eq_true (by omega)];rfl
 have e2:(rows.any fun x=>!inI x 0 (2 ^ H.toNat-1))=false:=by rw[List.any_eq_false];intro x hx;have:=h2.2.2 x hx;unfold inI;rw[decide_eq_true (by omega),decide_eq_true (by omega)];decide
 have:=List.length_pos_iff.2 h2.1;unfold Qb;rw[e1,e2,if_neg (by decide),if_neg (by omega),if_neg (by omega),if_neg (by decide)]
def K3:AL ((Int×List Int×List Int)×Int):=(.cons (.agg (.cons (.k (.i .u8)) (.cons (.k (.list (.i .u8))) (.one (.k (.list (.i .u16))))))) (.one (.k (.i .u8))))
def NH (d:(Int×List Int×List Int)×Int):Prop:=lOk d.1.1 d.1.2.1 d.1.2.2∧0≤d.2∧d.2≤255
def YB (d:(Int×List Int×List Int)×Int):SV:=.val .bo true
def YF (d:(Int×List Int×List Int)×Int):List OB:=[]
def KE:CSp:=V0 K3 NH YB YF
abbrev BD:=fun (h8:Int) (ws:List Int) (y1:Int)=>(( [ ( Xj ( hkN 16 h8 ) ( Q6 ( hkN 16 h8 ) 48 ws ) ( ( 1:Int )+y1 ) ) ].length≤1000 )∧( [ ( Xj ( hkN 16 h8 ) ( Q6 ( hkN 16 h8 ) 48 ws ) ( ( 1:Int )+y1 ) ) ].length≤1000 )∧( ( Q6 ( hkN 16 h8 ) 48 ws ).length≤1000 )∧( false=true→( Q6 ( hkN 16 h8 ) 48 ws )=[ ] )∧( ( Q6 ( hkN 16 h8 ) 48 ws ).length≤110∧[ ( Xj ( hkN 16 h8 ) ( Q6 ( hkN 16 h8 ) 48 ws ) ( ( 1:Int )+y1 ) ) ].length≤110 )∧( ( Q6 ( hkN 16 h8 ) 48 ws ).length≤1000 )∧( I64 ( ( ( 1:Int )+y1 )+( 1:Int ) ) )∧( ( Q6 ( hkN 16 h8 ) 48 ws ).length≤1000000 )∧∀ ( sv:Bool ) ,sv=( ( Y2 ( hkN 16 h8 ) [ ( Xj ( hkN 16 h8 ) ( Q6 ( hkN 16 h8 ) 48 ws ) ( ( 1:Int )+y1 ) ) ] ( ( 1:Int )+y1 ) )==( 0:Int ) )→∀ ( sw:Bool ) ,sw=( Qh ( hkN 16 h8 ) ( Q6 ( hkN 16 h8 ) 48 ws ) ( hkN 16 h8 ) [ ( Xj ( hkN 16 h8 ) ( Q6 ( hkN 16 h8 ) 48 ws ) ( ( 1:Int )+y1 ) ) ]==( 0:Int ) )→∀ ( sx:Bool ) ,sx=( sv&&sw )→∀ ( sy:Bool ) ,sy=( ( QF ( hkN 16 h8 ) ( Q6 ( hkN 16 h8 ) 48 ws ) ( ( ( 1:Int )+y1 )+( 1:Int ) ) )==( 0:Int ) )→∀ ( sA:Bool ) ,sA=( sx&&sy )→∀ ( sB:Bool ) ,sB=( ( lI ( Ti ( hkN 16 h8 ) [ ( Xj ( hkN 16 h8 ) ( Q6 ( hkN 16 h8 ) 48 ws ) ( ( 1:Int )+y1 ) ) ] ( ( 1:Int )+y1 ) ) )==( 0:Int ) )→∀ ( ri:Bool ) ,ri=( sA&&sB )→( ri=true→( Qa ( hkN 16 h8 ) ( Q6 ( hkN 16 h8 ) 48 ws ) ( hkN 16 h8 ) [ ( Xj ( hkN 16 h8 ) ( Q6 ( hkN 16 h8 ) 48 ws ) ( ( 1:Int )+y1 ) ) ] ).length≤1000 )∧∀ ( rj:Bool ) ,rj=( ri&&( Gv ( Qa ( hkN 16 h8 ) ( Q6 ( hkN 16 h8 ) 48 ws ) ( hkN 16 h8 ) [ ( Xj ( hkN 16 h8 ) ( Q6 ( hkN 16 h8 ) 48 ws ) ( ( 1:Int )+y1 ) ) ] ) ( 1:Int ) ( lI ( Q6 ( hkN 16 h8 ) 48 ws ) ) ) )→( rj=true→( Qa ( hkN 16 h8 ) ( Q6 ( hkN 16 h8 ) 48 ws ) ( hkN 16 h8 ) [ ( Xj ( hkN 16 h8 ) ( Q6 ( hkN 16 h8 ) 48 ws ) ( ( 1:Int )+y1 ) ) ] ).length≤1000∧( ∀ s∈( Qa ( hkN 16 h8 ) ( Q6 ( hkN 16 h8 ) 48 ws ) ( hkN 16 h8 ) [ ( Xj ( hkN 16 h8 ) ( Q6 ( hkN 16 h8 ) 48 ws ) ( ( 1:Int )+y1 ) ) ] ) ,s.length≤1000 ) )∧∀ ( sC:Bool ) ,sC=( ( Ih ( Qa ( hkN 16 h8 ) ( Q6 ( hkN 16 h8 ) 48 ws ) ( hkN 16 h8 ) [ ( Xj ( hkN 16 h8 ) ( Q6 ( hkN 16 h8 ) 48 ws ) ( ( 1:Int )+y1 ) ) ] ) )==( WO ( hkN 16 h8 ) ( Q6 ( hkN 16 h8 ) 48 ws ) ( ( 1:Int )+y1 ) ) )→∀ ( sD:Bool ) ,sD=( rj&&sC )→∀ ( oA:Bool ) ,oA=( decide ( ( WO ( hkN 16 h8 ) ( Q6 ( hkN 16 h8 ) 48 ws ) ( ( ( 1:Int )+y1 )+( 1:Int ) ) )≥( WO ( hkN 16 h8 ) ( Q6 ( hkN 16 h8 ) 48 ws ) ( ( 1:Int )+y1 ) ) ) )→∀ ( l9:Bool ) ,l9=( sD&&oA )→( l9=true→True )∧∀ ( oB:Bool ) ,oB=( l9&&true )→( oB=true∧( True ) ):Prop)
abbrev Q3 (h8:Int) (rs:List Int):=(List.replicate (Int.toNat (lI (Qc (hkN 16 h8) 12 rs))) (0:Int))
abbrev X2 (h8:Int) (ws:List Int):=((Q6 (hkN 16 h8) 48 ws)=(Q6 (hkN 16 h8) 48 ws)∧false=false)
abbrev X4 (h8:Int) (rs:List Int):=((Qc (hkN 16 h8) 12 rs)=(Qc (hkN 16 h8) 12 rs)∧false=false)
abbrev Qu (h8:Int) (rs:List Int):=(lI (Qc (hkN 16 h8) 12 rs))
abbrev JI (h8:Int) (rs:List Int):=(false=true→(Qc (hkN 16 h8) 12 rs)=[])
abbrev U1 (h8:Int) (rs:List Int):=((Qc (hkN 16 h8) 12 rs).length≤1000∧(Q3 h8 rs).length≤1000)
abbrev V_ (h8:Int):=((hkN 16 h8)=(hkN 16 h8)∧True∧(([]:List SV)=[]))
abbrev U3 (h8:Int) (rs:List Int):=((Q3 h8 rs)=(Q3 h8 rs)∧false=false)
abbrev VZ (h8:Int) (ws:List Int) (rs:List Int):=(h8=h8∧ws=ws∧rs=rs∧(([]:List SV)=[]))
def Jr (h8:Int) (ws:List Int) (rs:List Int) (by_:Int):Prop :=
  (lOk h8 ws rs) ∧ (I64 by_) ∧ ((6:Int) ≠ 0) ∧ ∀ (y1:Int), y1 = (Int.tmod by_ (6:Int)) → (I64 ((1:Int) + y1)) ∧ ((Q6 (hkN 16 h8) 48 ws).length ≤ 1000) ∧ ((Q6 (hkN 16 h8) 48 ws).length ≤ 1000000) ∧ (lOk h8 ws rs) ∧ (JI h8 rs) ∧ (lOk h8 ws rs) ∧ (JI h8 rs) ∧ (0 ≤ (Qu h8 rs)) ∧ ((Qu h8 rs) ≤ (Qu h8 rs)) ∧ ((Qu h8 rs) * 8 ≤ 70368744177664) ∧ ((Qu h8 rs) ≤ 70368744177664) ∧ (U1 h8 rs) ∧ ((Qz (hkN 16 h8) (Qc (hkN 16 h8) 12 rs) (Q3 h8 rs) ((1:Int) + y1)).isEmpty = true → (Qz (hkN 16 h8) (Qc (hkN 16 h8) 12 rs) (Q3 h8 rs) ((1:Int) + y1)) = []) ∧ ((True ∧ True ∧ ((1:Int) + y1) = ((1:Int) + y1) ∧ (WO (hkN 16 h8) (Q6 (hkN 16 h8) 48 ws) ((1:Int) + y1)) = (WO (hkN 16 h8) (Q6 (hkN 16 h8) 48 ws) ((1:Int) + y1)) ∧ (Xj (hkN 16 h8) (Q6 (hkN 16 h8) 48 ws) ((1:Int) + y1)) = (Xj (hkN 16 h8) (Q6 (hkN 16 h8) 48 ws) ((1:Int) + y1)) ∧ (QF (hkN 16 h8) (Q6 (hkN 16 h8) 48 ws) ((1:Int) + y1)) = (QF (hkN 16 h8) (Q6 (hkN 16 h8) 48 ws) ((1:Int) + y1)) ∧ True ∧ (Q7 (hkN 16 h8) (Qc (hkN 16 h8) 12 rs) (Q3 h8 rs) ((1:Int) + y1)) = (Q7 (hkN 16 h8) (Qc (hkN 16 h8) 12 rs) (Q3 h8 rs) ((1:Int) + y1)) ∧ True) ∧ ((VZ h8 ws rs) ∧ (V_ h8) ∧ ((if Q7 (hkN 16 h8) (Qc (hkN 16 h8) 12 rs) (Q3 h8 rs) ((1:Int) + y1) = 0 then (hkN 16 h8) else 0) = (if Q7 (hkN 16 h8) (Qc (hkN 16 h8) 12 rs) (Q3 h8 rs) ((1:Int) + y1) = 0 then (hkN 16 h8) else 0) ∧ True ∧ (([]:List SV) = [])) ∧ (X2 h8 ws) ∧ (X2 h8 ws) ∧ (X4 h8 rs) ∧ (X4 h8 rs) ∧ (U3 h8 rs) ∧ ((Qz (hkN 16 h8) (Qc (hkN 16 h8) 12 rs) (Q3 h8 rs) ((1:Int) + y1)) = (Qz (hkN 16 h8) (Qc (hkN 16 h8) 12 rs) (Q3 h8 rs) ((1:Int) + y1)) ∧ (Qz (hkN 16 h8) (Qc (hkN 16 h8) 12 rs) (Q3 h8 rs) ((1:Int) + y1)).isEmpty = (Qz (hkN 16 h8) (Qc (hkN 16 h8) 12 rs) (Q3 h8 rs) ((1:Int) + y1)).isEmpty) ∧ True)) ∧ ((lOk h8 ws rs) ∧ (JI h8 rs) ∧ (lOk h8 ws rs) ∧ (JI h8 rs) ∧ (0 ≤ (Qu h8 rs)) ∧ ((Qu h8 rs) ≤ (Qu h8 rs)) ∧ ((Qu h8 rs) * 8 ≤ 70368744177664) ∧ ((Qu h8 rs) ≤ 70368744177664) ∧ (U1 h8 rs) ∧ ((Qz (hkN 16 h8) (Qc (hkN 16 h8) 12 rs) (Q3 h8 rs) ((1:Int) + y1)).isEmpty = true → (Qz (hkN 16 h8) (Qc (hkN 16 h8) 12 rs) (Q3 h8 rs) ((1:Int) + y1)) = []) ∧ ((True ∧ True ∧ ((1:Int) + y1) = ((1:Int) + y1) ∧ (WO (hkN 16 h8) (Q6 (hkN 16 h8) 48 ws) ((1:Int) + y1)) = (WO (hkN 16 h8) (Q6 (hkN 16 h8) 48 ws) ((1:Int) + y1)) ∧ (Xj (hkN 16 h8) (Q6 (hkN 16 h8) 48 ws) ((1:Int) + y1)) = (Xj (hkN 16 h8) (Q6 (hkN 16 h8) 48 ws) ((1:Int) + y1)) ∧ (QF (hkN 16 h8) (Q6 (hkN 16 h8) 48 ws) ((1:Int) + y1)) = (QF (hkN 16 h8) (Q6 (hkN 16 h8) 48 ws) ((1:Int) + y1)) ∧ True ∧ (Q7 (hkN 16 h8) (Qc (hkN 16 h8) 12 rs) (Q3 h8 rs) ((1:Int) + y1)) = (Q7 (hkN 16 h8) (Qc (hkN 16 h8) 12 rs) (Q3 h8 rs) ((1:Int) + y1)) ∧ True) ∧ ((VZ h8 ws rs) ∧ (V_ h8) ∧ ((if Q7 (hkN 16 h8) (Qc (hkN 16 h8) 12 rs) (Q3 h8 rs) ((1:Int) + y1) = 0 then (hkN 16 h8) else 0) = (if Q7 (hkN 16 h8) (Qc (hkN 16 h8) 12 rs) (Q3 h8 rs) ((1:Int) + y1) = 0 then (hkN 16 h8) else 0) ∧ True ∧ (([]:List SV) = [])) ∧ (X2 h8 ws) ∧ (X2 h8 ws) ∧ (X4 h8 rs) ∧ (X4 h8 rs) ∧ (U3 h8 rs) ∧ ((Qz (hkN 16 h8) (Qc (hkN 16 h8) 12 rs) (Q3 h8 rs) ((1:Int) + y1)) = (Qz (hkN 16 h8) (Qc (hkN 16 h8) 12 rs) (Q3 h8 rs) ((1:Int) + y1)) ∧ (Qz (hkN 16 h8) (Qc (hkN 16 h8) 12 rs) (Q3 h8 rs) ((1:Int) + y1)).isEmpty = (Qz (hkN 16 h8) (Qc (hkN 16 h8) 12 rs) (Q3 h8 rs) ((1:Int) + y1)).isEmpty) ∧ True))) ∧ ((lOk h8 ws rs) ∧ (JI h8 rs) ∧ (lOk h8 ws rs) ∧ (JI h8 rs) ∧ (0 ≤ (Qu h8 rs)) ∧ ((Qu h8 rs) ≤ (Qu h8 rs)) ∧ ((Qu h8 rs) * 8 ≤ 70368744177664) ∧ ((Qu h8 rs) ≤ 70368744177664) ∧ (U1 h8 rs) ∧ ((Qz (hkN 16 h8) (Qc (hkN 16 h8) 12 rs) (Q3 h8 rs) ((1:Int) + y1)).isEmpty = true → (Qz (hkN 16 h8) (Qc (hkN 16 h8) 12 rs) (Q3 h8 rs) ((1:Int) + y1)) = []) ∧ ((True ∧ True ∧ ((1:Int) + y1) = ((1:Int) + y1) ∧ (WO (hkN 16 h8) (Q6 (hkN 16 h8) 48 ws) ((1:Int) + y1)) = (WO (hkN 16 h8) (Q6 (hkN 16 h8) 48 ws) ((1:Int) + y1)) ∧ (Xj (hkN 16 h8) (Q6 (hkN 16 h8) 48 ws) ((1:Int) + y1)) = (Xj (hkN 16 h8) (Q6 (hkN 16 h8) 48 ws) ((1:Int) + y1)) ∧ (QF (hkN 16 h8) (Q6 (hkN 16 h8) 48 ws) ((1:Int) + y1)) = (QF (hkN 16 h8) (Q6 (hkN 16 h8) 48 ws) ((1:Int) + y1)) ∧ True ∧ (Q7 (hkN 16 h8) (Qc (hkN 16 h8) 12 rs) (Q3 h8 rs) ((1:Int) + y1)) = (Q7 (hkN 16 h8) (Qc (hkN 16 h8) 12 rs) (Q3 h8 rs) ((1:Int) + y1)) ∧ True) ∧ ((VZ h8 ws rs) ∧ (V_ h8) ∧ ((if Q7 (hkN 16 h8) (Qc (hkN 16 h8) 12 rs) (Q3 h8 rs) ((1:Int) + y1) = 0 then (hkN 16 h8) else 0) = (if Q7 (hkN 16 h8) (Qc (hkN 16 h8) 12 rs) (Q3 h8 rs) ((1:Int) + y1) = 0 then (hkN 16 h8) else 0) ∧ True ∧ (([]:List SV) = [])) ∧ (X2 h8 ws) ∧ (X2 h8 ws) ∧ (X4 h8 rs) ∧ (X4 h8 rs) ∧ (U3 h8 rs) ∧ ((Qz (hkN 16 h8) (Qc (hkN 16 h8) 12 rs) (Q3 h8 rs) ((1:Int) + y1)) = (Qz (hkN 16 h8) (Qc (hkN 16 h8) 12 rs) (Q3 h8 rs) ((1:Int) + y1)) ∧ (Qz (hkN 16 h8) (Qc (hkN 16 h8) 12 rs) (Q3 h8 rs) ((1:Int) + y1)).isEmpty = (Qz (hkN 16 h8) (Qc (hkN 16 h8) 12 rs) (Q3 h8 rs) ((1:Int) + y1)).isEmpty) ∧ True))) ∧ ((lOk h8 ws rs) ∧ (JI h8 rs) ∧ (lOk h8 ws rs) ∧ (JI h8 rs) ∧ (0 ≤ (Qu h8 rs)) ∧ ((Qu h8 rs) ≤ (Qu h8 rs)) ∧ ((Qu h8 rs) * 8 ≤ 70368744177664) ∧ ((Qu h8 rs) ≤ 70368744177664) ∧ (U1 h8 rs) ∧ ((Qz (hkN 16 h8) (Qc (hkN 16 h8) 12 rs) (Q3 h8 rs) ((1:Int) + y1)).isEmpty = true → (Qz (hkN 16 h8) (Qc (hkN 16 h8) 12 rs) (Q3 h8 rs) ((1:Int) + y1)) = []) ∧ ((True ∧ True ∧ ((1:Int) + y1) = ((1:Int) + y1) ∧ (WO (hkN 16 h8) (Q6 (hkN 16 h8) 48 ws) ((1:Int) + y1)) = (WO (hkN 16 h8) (Q6 (hkN 16 h8) 48 ws) ((1:Int) + y1)) ∧ (Xj (hkN 16 h8) (Q6 (hkN 16 h8) 48 ws) ((1:Int) + y1)) = (Xj (hkN 16 h8) (Q6 (hkN 16 h8) 48 ws) ((1:Int) + y1)) ∧ (QF (hkN 16 h8) (Q6 (hkN 16 h8) 48 ws) ((1:Int) + y1)) = (QF (hkN 16 h8) (Q6 (hkN 16 h8) 48 ws) ((1:Int) + y1)) ∧ True ∧ (Q7 (hkN 16 h8) (Qc (hkN 16 h8) 12 rs) (Q3 h8 rs) ((1:Int) + y1)) = (Q7 (hkN 16 h8) (Qc (hkN 16 h8) 12 rs) (Q3 h8 rs) ((1:Int) + y1)) ∧ True) ∧ ((VZ h8 ws rs) ∧ (V_ h8) ∧ ((if Q7 (hkN 16 h8) (Qc (hkN 16 h8) 12 rs) (Q3 h8 rs) ((1:Int) + y1) = 0 then (hkN 16 h8) else 0) = (if Q7 (hkN 16 h8) (Qc (hkN 16 h8) 12 rs) (Q3 h8 rs) ((1:Int) + y1) = 0 then (hkN 16 h8) else 0) ∧ True ∧ (([]:List SV) = [])) ∧ (X2 h8 ws) ∧ (X2 h8 ws) ∧ (X4 h8 rs) ∧ (X4 h8 rs) ∧ (U3 h8 rs) ∧ ((Qz (hkN 16 h8) (Qc (hkN 16 h8) 12 rs) (Q3 h8 rs) ((1:Int) + y1)) = (Qz (hkN 16 h8) (Qc (hkN 16 h8) 12 rs) (Q3 h8 rs) ((1:Int) + y1)) ∧ (Qz (hkN 16 h8) (Qc (hkN 16 h8) 12 rs) (Q3 h8 rs) ((1:Int) + y1)).isEmpty = (Qz (hkN 16 h8) (Qc (hkN 16 h8) 12 rs) (Q3 h8 rs) ((1:Int) + y1)).isEmpty) ∧ True))) ∧ ((lOk h8 ws rs) ∧ (JI h8 rs) ∧ (lOk h8 ws rs) ∧ (JI h8 rs) ∧ (0 ≤ (Qu h8 rs)) ∧ ((Qu h8 rs) ≤ (Qu h8 rs)) ∧ ((Qu h8 rs) * 8 ≤ 70368744177664) ∧ ((Qu h8 rs) ≤ 70368744177664) ∧ (U1 h8 rs) ∧ ((Qz (hkN 16 h8) (Qc (hkN 16 h8) 12 rs) (Q3 h8 rs) ((1:Int) + y1)).isEmpty = true → (Qz (hkN 16 h8) (Qc (hkN 16 h8) 12 rs) (Q3 h8 rs) ((1:Int) + y1)) = []) ∧ ((True ∧ True ∧ ((1:Int) + y1) = ((1:Int) + y1) ∧ (WO (hkN 16 h8) (Q6 (hkN 16 h8) 48 ws) ((1:Int) + y1)) = (WO (hkN 16 h8) (Q6 (hkN 16 h8) 48 ws) ((1:Int) + y1)) ∧ (Xj (hkN 16 h8) (Q6 (hkN 16 h8) 48 ws) ((1:Int) + y1)) = (Xj (hkN 16 h8) (Q6 (hkN 16 h8) 48 ws) ((1:Int) + y1)) ∧ (QF (hkN 16 h8) (Q6 (hkN 16 h8) 48 ws) ((1:Int) + y1)) = (QF (hkN 16 h8) (Q6 (hkN 16 h8) 48 ws) ((1:Int) + y1)) ∧ True ∧ (Q7 (hkN 16 h8) (Qc (hkN 16 h8) 12 rs) (Q3 h8 rs) ((1:Int) + y1)) = (Q7 (hkN 16 h8) (Qc (hkN 16 h8) 12 rs) (Q3 h8 rs) ((1:Int) + y1)) ∧ True) ∧ ((VZ h8 ws rs) ∧ (V_ h8) ∧ ((if Q7 (hkN 16 h8) (Qc (hkN 16 h8) 12 rs) (Q3 h8 rs) ((1:Int) + y1) = 0 then (hkN 16 h8) else 0) = (if Q7 (hkN 16 h8) (Qc (hkN 16 h8) 12 rs) (Q3 h8 rs) ((1:Int) + y1) = 0 then (hkN 16 h8) else 0) ∧ True ∧ (([]:List SV) = [])) ∧ (X2 h8 ws) ∧ (X2 h8 ws) ∧ (X4 h8 rs) ∧ (X4 h8 rs) ∧ (U3 h8 rs) ∧ ((Qz (hkN 16 h8) (Qc (hkN 16 h8) 12 rs) (Q3 h8 rs) ((1:Int) + y1)) = (Qz (hkN 16 h8) (Qc (hkN 16 h8) 12 rs) (Q3 h8 rs) ((1:Int) + y1)) ∧ (Qz (hkN 16 h8) (Qc (hkN 16 h8) 12 rs) (Q3 h8 rs) ((1:Int) + y1)).isEmpty = (Qz (hkN 16 h8) (Qc (hkN 16 h8) 12 rs) (Q3 h8 rs) ((1:Int) + y1)).isEmpty) ∧ True))) ∧ ∀ (y2:Bool), y2 = ((QF (hkN 16 h8) (Q6 (hkN 16 h8) 48 ws) ((1:Int) + y1)) != (0:Int)) → ∀ (y3:Bool), y3 = ((Q7 (hkN 16 h8) (Qc (hkN 16 h8) 12 rs) (Q3 h8 rs) ((1:Int) + y1)) != (0:Int)) → ∀ (y4:Bool), y4 = (y2 || y3) → (y4 = true →
    ∀ (y5:Bool), y5 = ((QF (hkN 16 h8) (Q6 (hkN 16 h8) 48 ws) ((1:Int) + y1)) == (9:Int)) → ∀ (y6:Bool), y6 = ((Q7 (hkN 16 h8) (Qc (hkN 16 h8) 12 rs) (Q3 h8 rs) ((1:Int) + y1)) == (QF (hkN 16 h8) (Q6 (hkN 16 h8) 48 ws) ((1:Int) + y1))) → ∀ (y7:Bool), y7 = (y5 && y6) → ∀ (y8:Bool), y8 = ((WO (hkN 16 h8) (Q6 (hkN 16 h8) 48 ws) ((1:Int) + y1)) == (0:Int)) → ∀ (y9:Bool), y9 = (y7 && y8) → ∀ (sE:Bool), sE = ((Xj (hkN 16 h8) (Q6 (hkN 16 h8) 48 ws) ((1:Int) + y1)) == (0:Int)) → ∀ (rn:Bool), rn = (y9 && sE) → (rn = true → True) ∧ ∀ (sF:Bool), sF = (rn && true) → (sF = true ∧ (True))) ∧
  (y4 = false →
    ((Q6 (hkN 16 h8) 48 ws).length ≤ 1000) ∧ (false = true → (Q6 (hkN 16 h8) 48 ws) = []) ∧ ((Qz (hkN 16 h8) (Qc (hkN 16 h8) 12 rs) (Q3 h8 rs) ((1:Int) + y1)).length ≤ 1000) ∧ ((Q6 (hkN 16 h8) 48 ws).length ≤ 110 ∧ (Qz (hkN 16 h8) (Qc (hkN 16 h8) 12 rs) (Q3 h8 rs) ((1:Int) + y1)).length ≤ 110) ∧ ((Q6 (hkN 16 h8) 48 ws).length ≤ 1000) ∧ (false = true → (Q6 (hkN 16 h8) 48 ws) = []) ∧ ((Qz (hkN 16 h8) (Qc (hkN 16 h8) 12 rs) (Q3 h8 rs) ((1:Int) + y1)).length ≤ 1000) ∧ (false = true → (Qz (hkN 16 h8) (Qc (hkN 16 h8) 12 rs) (Q3 h8 rs) ((1:Int) + y1)) = []) ∧ ((Q6 (hkN 16 h8) 48 ws).length ≤ 110 ∧ (Qz (hkN 16 h8) (Qc (hkN 16 h8) 12 rs) (Q3 h8 rs) ((1:Int) + y1)).length ≤ 110) ∧ ∀ (sG:Bool), sG = (Qh (hkN 16 h8) (Q6 (hkN 16 h8) 48 ws) (if Q7 (hkN 16 h8) (Qc (hkN 16 h8) 12 rs) (Q3 h8 rs) ((1:Int) + y1) = 0 then (hkN 16 h8) else 0) (Qz (hkN 16 h8) (Qc (hkN 16 h8) 12 rs) (Q3 h8 rs) ((1:Int) + y1)) != (0:Int)) → ∀ (sH:Bool), sH = ((Yi (hkN 16 h8) (Q6 (hkN 16 h8) 48 ws) (if Q7 (hkN 16 h8) (Qc (hkN 16 h8) 12 rs) (Q3 h8 rs) ((1:Int) + y1) = 0 then (hkN 16 h8) else 0) (Qz (hkN 16 h8) (Qc (hkN 16 h8) 12 rs) (Q3 h8 rs) ((1:Int) + y1)) (WO (hkN 16 h8) (Q6 (hkN 16 h8) 48 ws) ((1:Int) + y1))) != (0:Int)) → ∀ (sI:Bool), sI = (sG || sH) → ∀ (sJ:Bool), sJ = ((lI (flC (hkN 16 h8) (Q6 (hkN 16 h8) 48 ws) (if Q7 (hkN 16 h8) (Qc (hkN 16 h8) 12 rs) (Q3 h8 rs) ((1:Int) + y1) = 0 then (hkN 16 h8) else 0) (Qz (hkN 16 h8) (Qc (hkN 16 h8) 12 rs) (Q3 h8 rs) ((1:Int) + y1)) (WO (hkN 16 h8) (Q6 (hkN 16 h8) 48 ws) ((1:Int) + y1)))) != (0:Int)) → ∀ (rp:Bool), rp = (sI || sJ) → ((rp = true →
      ∀ (rr:Bool), rr = true → (rr = false → (Qa (hkN 16 h8) (Q6 (hkN 16 h8) 48 ws) (if Q7 (hkN 16 h8) (Qc (hkN 16 h8) 12 rs) (Q3 h8 rs) ((1:Int) + y1) = 0 then (hkN 16 h8) else 0) (Qz (hkN 16 h8) (Qc (hkN 16 h8) 12 rs) (Q3 h8 rs) ((1:Int) + y1))).length ≤ 1000 ∧ (∀ s ∈ (Qa (hkN 16 h8) (Q6 (hkN 16 h8) 48 ws) (if Q7 (hkN 16 h8) (Qc (hkN 16 h8) 12 rs) (Q3 h8 rs) ((1:Int) + y1) = 0 then (hkN 16 h8) else 0) (Qz (hkN 16 h8) (Qc (hkN 16 h8) 12 rs) (Q3 h8 rs) ((1:Int) + y1))), s.length ≤ 1000)) ∧ ∀ (sK:Bool), sK = (decide ((Ih (Qa (hkN 16 h8) (Q6 (hkN 16 h8) 48 ws) (if Q7 (hkN 16 h8) (Qc (hkN 16 h8) 12 rs) (Q3 h8 rs) ((1:Int) + y1) = 0 then (hkN 16 h8) else 0) (Qz (hkN 16 h8) (Qc (hkN 16 h8) 12 rs) (Q3 h8 rs) ((1:Int) + y1)))) > (WO (hkN 16 h8) (Q6 (hkN 16 h8) 48 ws) ((1:Int) + y1)))) → ∀ (ru:Bool), ru = (rr || sK) → (ru = true →
        (false = true ∧ (True))) ∧
      (ru = false →
         (BD h8 ws y1))) ∧
    (rp = false →
      (lOk h8 ws rs) ∧ (JI h8 rs) ∧ ((Qa (hkN 16 h8) (Q6 (hkN 16 h8) 48 ws) (if Q7 (hkN 16 h8) (Qc (hkN 16 h8) 12 rs) (Q3 h8 rs) ((1:Int) + y1) = 0 then (hkN 16 h8) else 0) (Qz (hkN 16 h8) (Qc (hkN 16 h8) 12 rs) (Q3 h8 rs) ((1:Int) + y1))).length ≤ 1000) ∧ ∀ (sL:Bool), sL = (!(Gv (Qa (hkN 16 h8) (Q6 (hkN 16 h8) 48 ws) (if Q7 (hkN 16 h8) (Qc (hkN 16 h8) 12 rs) (Q3 h8 rs) ((1:Int) + y1) = 0 then (hkN 16 h8) else 0) (Qz (hkN 16 h8) (Qc (hkN 16 h8) 12 rs) (Q3 h8 rs) ((1:Int) + y1))) (Qu h8 rs) (lI (Q6 (hkN 16 h8) 48 ws)))) → ∀ (rv:Bool), rv = sL → (rv = false → (Qa (hkN 16 h8) (Q6 (hkN 16 h8) 48 ws) (if Q7 (hkN 16 h8) (Qc (hkN 16 h8) 12 rs) (Q3 h8 rs) ((1:Int) + y1) = 0 then (hkN 16 h8) else 0) (Qz (hkN 16 h8) (Qc (hkN 16 h8) 12 rs) (Q3 h8 rs) ((1:Int) + y1))).length ≤ 1000 ∧ (∀ s ∈ (Qa (hkN 16 h8) (Q6 (hkN 16 h8) 48 ws) (if Q7 (hkN 16 h8) (Qc (hkN 16 h8) 12 rs) (Q3 h8 rs) ((1:Int) + y1) = 0 then (hkN 16 h8) else 0) (Qz (hkN 16 h8) (Qc (hkN 16 h8) 12 rs) (Q3 h8 rs) ((1:Int) + y1))), s.length ≤ 1000)) ∧ ∀ (sM:Bool), sM = (decide ((Ih (Qa (hkN 16 h8) (Q6 (hkN 16 h8) 48 ws) (if Q7 (hkN 16 h8) (Qc (hkN 16 h8) 12 rs) (Q3 h8 rs) ((1:Int) + y1) = 0 then (hkN 16 h8) else 0) (Qz (hkN 16 h8) (Qc (hkN 16 h8) 12 rs) (Q3 h8 rs) ((1:Int) + y1)))) > (WO (hkN 16 h8) (Q6 (hkN 16 h8) 48 ws) ((1:Int) + y1)))) → ∀ (ry:Bool), ry = (rv || sM) → (ry = true →
        (false = true ∧ (True))) ∧
      (ry = false →
         (BD h8 ws y1)))))
def YX:Cx:=⟨[(3,(.i .i64))],[(18,Jt),(10,N0),(11,Nn),(19,JP),(29,Yu),(9,NK),(23,V5),(22,Kw),(30,VJ),(25,Ye),(31,YL),(24,Ks)],185,[],0,[],[],[],[2,5,6,7,8,9,10,50],true,[],[],[103],[]⟩
def MH (h8:Int) (ws:List Int) (rs:List Int) (by_:Int):List (Nat×LoopAnn):=[]
theorem MS (d:(Int×List Int×List Int)×Int):gwp (YX) (MH d.1.1 d.1.2.1 d.1.2.2 d.2) c5 0 (U0 [.tmp 4] (YB d) (YF d)) (QS 185 (AL.can K3 d))=Jr d.1.1 d.1.2.1 d.1.2.2 d.2:=by kernel_rfl
abbrev MV:Prop:=OkC Tryz.prog 5 KE
theorem MU (h:∀ (h8:Int) (ws:List Int) (rs:List Int) (by_:Int),(lOk h8 ws rs∧0≤by_∧by_≤255)→Jr h8 ws rs by_):OkC Tryz.prog 5 KE :=
 Z8 fun5 mixed (C:=YX) (V:=fun (d:(Int×List Int×List Int)×Int)=>Jr d.1.1 d.1.2.1 d.1.2.2 d.2) ⟨(.cons Vw (.cons Tt (.cons TO (.cons Uo (.cons NX (.cons BW (.cons P9 (.cons Gb (.cons T9 (.cons GI (.cons Bc (.cons BU .nil)))))))))))),XsOk.nil,ItsOk.nil,YlOk.nil,IysOk.nil,XfOk.nil⟩ (MS) fun d hp=>h d.1.1 d.1.2.1 d.1.2.2 d.2 hp
set_option maxHeartbeats 4000000 in
theorem ok_law03_TieBound:MV:=MU fun h8 ws rs by_ h=>by
 obtain⟨hL,b0,b1⟩:=h;unfold Jr;delta BD Q3 X2 X4 Qu JI U1 V_ U3 VZ;(try delta lI gD sT I64 Q1 pj8 pj4);obtain⟨hk,hw,hr⟩:=Q15 hL;have ht:=IA hk hw;have hp:=Aa hk hr;generalize Q6 (hkN 16 h8) 48 ws=lw at hw ht ⊢;generalize Qc (hkN 16 h8) 12 rs=rows at hr hp ⊢;generalize hkN 16 h8=H at hk hw hr ht hp ⊢;have hy:0≤Int.tmod by_ 6∧Int.tmod by_ 6≤5:=by rw[Int.tmod_eq_emod_of_nonneg b0];omega
 have ek:InK .i64 by_:=by rw[Q9];omega
 generalize hB:Int.tmod by_ 6=y at hy;have i1:InK .i64 (1+y):=by rw[Q9];omega
 have i2:InK .i64 (1+y+1):=by rw[Q9];omega
 have dz:lw.length≤110:=by omega
 have cj:lw.length≤1000:=by omega
 have sN:lw.length≤1000000:=by omega
 have dO:rows.length≤110:=by omega
 have cO:rows.length≤1000:=by omega
 have gR:(rows.length:Int)*8≤70368744177664:=by omega
 have sO:(rows.length:Int)≤70368744177664:=by omega
 have l0:(lw=[])=False:=eq_false hw.1;have r0:(rows=[])=False:=eq_false hr.1;have gx:(0:Int)≤(rows.length:Int):=by omega
 have sl:∀ n,(Zk lw n).length=lw.length:=fun n=>JT lw n;rcases Ew ht hp (bd:=1+y) (by omega) rfl with⟨a1,a2⟩|⟨a1,a2,a3,a4,a5,a6,a7,a8,a9,vz,vA,vB,vC,vD,vE,vF⟩
 ·have eN:WO H lw (1+y)=0:=by unfold WO;rw[if_neg (by omega)]
  have eR:Xj H lw (1+y)=0:=by unfold Xj;rw[if_neg (by omega)]
  simp[hL,ek,hB,a1,a2,eN,eR,i1,i2,dz,cj,sN,dO,cO,gR,sO,l0,r0,gx]
 ·have d1:(Qz H rows (List.replicate rows.length 0) (1+y)).length≤1000:=by omega
  have d2:(Qz H rows (List.replicate rows.length 0) (1+y)).length≤110:=by omega
  have c1:(Qa H lw H (Qz H rows (List.replicate rows.length 0) (1+y))).length≤1000:=by omega
  have c2:∀ s∈Qa H lw H (Qz H rows (List.replicate rows.length 0) (1+y)),s.length≤1000:=fun s hs=>by have:=a8 s hs;omega
  have c3:∀ s∈Qa H lw H (Qz H rows (List.replicate rows.length 0) (1+y)),(s.length:Int)=(lw.length:Int):=fun s hs=>by have:=a8 s hs;omega
  simp[hL,ek,hB,a1,a2,a4,a5,a6,a9,vz,vA,vB,vC,vD,vE,vF,i1,i2,dz,cj,sN,dO,cO,gR,sO,l0,r0,gx,sl,Gv,d1,d2,c1];rw[a7];exact⟨fun _ _=>c2,c3,rfl⟩
theorem Q4i {l:List Int}(h:KWf (.list (.i .u8)) l):u8s l:=fun x hx=>(Fi x).1 (h.2 x hx)
theorem Q3e {l:List Int}(h:KWf (.list (.i .u16)) l):Q9l l:=fun x hx=>(Q2v x).1 (h.2 x hx)
theorem grpPre_of {x:(Int×List Int×List Int)×Int}(h:AWf [.pair (.i .u8) (.pair (.list (.i .u8)) (.list (.i .u16))),.i .u8] x):lOk x.1.1 x.1.2.1 x.1.2.2∧0≤x.2∧x.2≤255:=by obtain⟨⟨h1,h2,h4⟩,h3⟩:=h;have h1:=(Fi x.1.1).1 h1;have h3:=(Fi x.2).1 h3;exact⟨⟨h1.1,h1.2,Q4i h2,Q3e h4⟩,h3.1,h3.2⟩
end Go.Proofs.Tryz