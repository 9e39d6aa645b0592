/- A framework for walks, contracts of functions, and their proofs: part 6. -/
import Derived.ProofKit
import Derived.OpenShut
import Derived.LaidMore
import Derived.Carry
import Derived.Lib.SmallJoins
import Derived.Deep.Slices
import Derived.Test.YthponhelanafhaaGreatDoorR5
set_option linter.unusedVariables false
namespace Go.Proofs.Tryz
open Go Go.V Go.Proofs
def Ta (l:List Int) (i:Int):Int:=if l.length=0 then 0 else l.getD (Int.tmod i l.length).toNat 0
def Z16 (x:Int×Int×Int×Int):Prop:=(0≤x.1∧x.1≤255)∧(0≤x.2.1∧x.2.1≤255)∧(0≤x.2.2.1∧x.2.2.1≤255)∧(0≤x.2.2.2∧x.2.2.2≤255)
theorem Ou {l:List Int}{i:Int}(h:∀ x∈l,0≤x∧x≤255) (hi:0≤i):0≤Ta l i∧Ta l i≤255:=by
 unfold Ta;split
 ·omega
 ·rename_i h0;have e:=Int.tmod_eq_emod_of_nonneg (b:=(l.length:Int)) hi;have h1:=Int.emod_nonneg i (show (l.length:Int)≠0 by omega);have h2:=Int.emod_lt_of_pos i (show (0:Int)<l.length by omega);have h3:(Int.tmod i l.length).toNat<l.length:=by omega
  rw[Q5 h3];exact h _ (List.getElem_mem h3)
def Sq (vl:List (Int×Int×Int×Int)) (to:Int) (mo:List Int):Prop:=vl.length≤9223372036854775807∧(∀ x∈vl,Z16 x)∧(0≤to∧to≤255)∧u8s mo
def KH (v:Int×Int×Int×Int):Lot:=(Int.tdiv v.1 128,((v.2.1,v.2.1+Int.tmod v.2.2.1 20),1+v.2.2.2))
def M3 (vl:List (Int×Int×Int×Int)):List Lot:=(vl.take 7).map KH
theorem E0 {vl:List (Int×Int×Int×Int)}{to:Int}{mo:List Int}(h:Sq vl to mo):(M3 vl).length≤7∧(∀ y∈M3 vl,XV y=true∧0≤y.1∧y.1≤1∧y.2.1.2≤y.2.1.1+19∧y.2.2≤256)∧20≤20+Int.tmod to 60∧20+Int.tmod to 60≤79:=by obtain⟨h1,h2,h3,h4⟩:=h;have t1:=Int.tmod_nonneg 60 h3.1;have t2:=Int.tmod_lt_of_pos to (show (0:Int)<60 by decide);refine⟨by simp[M3];omega,fun y hy=>?_,by omega,by omega⟩;obtain⟨v,hv,rfl⟩:=List.mem_map.1 hy;obtain⟨⟨a1,a2⟩,⟨b1,b2⟩,⟨c1,c2⟩,d1,d2⟩:=h2 v (List.mem_of_mem_take hv);have e1:=Int.tdiv_eq_ediv_of_nonneg (b:=128) a1;have e2:=Int.tmod_eq_emod_of_nonneg (b:=20) c1;refine⟨?_,by unfold KH;dsimp only;omega,by unfold KH;dsimp only;omega,by unfold KH;dsimp only;omega,by unfold KH;dsimp only;omega⟩;rw[D5];unfold KH;dsimp only;omega
theorem Q08 {vl:List (Int×Int×Int×Int)}{to:Int}{mo:List Int}(h:Sq vl to mo):ZB (M3 vl)=0∧W9 (M3 vl) (20+Int.tmod to 60)=0:=by
 obtain⟨h1,h2,h3,h4⟩:=E0 h;have e:ZB (M3 vl)=0:=by unfold ZB;rw[if_neg (by omega),if_neg];rw[List.any_eq_true];rintro⟨y,hy,hb⟩;rw[(h2 y hy).1] at hb;cases hb
 refine⟨e,?_⟩;unfold W9;rw[if_neg (by omega),if_neg];rw[show inI (20+Int.tmod to 60) 0 1000=true by unfold inI;rw[decide_eq_true (by omega),decide_eq_true (by omega)];rfl];decide
def Ls (L:List Lot) (a:Int):Lot:=L.getD a.toNat XG
theorem Hs {lw:List Int}{w:Nat}(hw:w<lw.length):lw.getD w 0∈lw:=by rw[Q5 hw];exact List.getElem_mem hw
theorem Lu {l:List Lot}{sm:List Int}{i:Nat}(h:i<sm.length):(V3 l sm).getD i XG=l.getD (sm.getD i 0).toNat XG:=by rw[Q5 (by simpa [V3] using h),Q5 h];simp[V3]
theorem TA (so m:Nat):(Px so m).Pairwise (·<·):=by
 unfold Px;rw[List.pairwise_map];exact(List.Pairwise.filter _ List.pairwise_lt_range).imp fun h=>by omega
theorem Ed {L:List Lot}{t nc ng:Int}(hl:L.length≤12) (h:Z8 L t nc ng (2 ^ L.length)≠[]):(∀ a∈Z8 L t nc ng (2 ^ L.length),0≤a∧a<L.length)∧(Z8 L t nc ng (2 ^ L.length)).Pairwise (·<·)∧(∀ a∈Z8 L t nc ng (2 ^ L.length),(Ls L a).1=nc∧∀ b∈Z8 L t nc ng (2 ^ L.length),Oq (Ls L a) (Ls L b)≤t)∧ng≤XU L (Z8 L t nc ng (2 ^ L.length)):=by
 rcases Au (l:=L) (tl:=t) (nc:=nc) (ng:=ng) (2 ^ L.length) with e|⟨s,s1,s2,s3,s4⟩
 ·exact(h e).elim
 rw[s4];have ah:=Hx s2 (show L.length≤64 by omega);have aF:=HO s1;have iV:V3 L (Qm s)≠[]:=by simpa [V3] using aF
 have aO:(V3 L (Qm s)).length=(Qm s).length:=by simp[V3]
 have gy:0<(Qm s).length:=List.length_pos_iff.2 aF;unfold UZ Bf at s3;rw[Lw iV,Bool.and_eq_true,Bool.and_eq_true,beq_iff_eq,decide_eq_true_eq,DK] at s3;obtain⟨⟨c0,g0⟩,al⟩:=s3;rw[aO] at al;have nQ:∀ a∈Qm s,∀ b∈Qm s,(Ls L a).1=(Ls L b).1∧Oq (Ls L a) (Ls L b)≤t:=fun a ha b hb=>by obtain⟨i,hi,rfl⟩:=List.getElem_of_mem ha;obtain⟨k,hk,rfl⟩:=List.getElem_of_mem hb;have:=al i hi k hk;rw[Lu hi,Lu hk,Q5 hi,Q5 hk] at this;exact this
 refine⟨ah,?_,fun a ha=>⟨?_,fun b hb=>(nQ a ha b hb).2⟩,g0⟩
 ·rw[Cm s2 (by omega)];exact TA _ _
 ·have:=(nQ a ha _ (Hs gy)).1;exact this.trans c0
def L6 (w:List Int):List En:=w.map fun x=>(1,x)
def Hl (w:List Int):Nat→Int
 |0=>0
 |k+1=>Hl w k+w.getD k 0
theorem RT {w:List Int}{k:Nat}(h:k<w.length):(L6 w).getD k (0,0)=(1,w.getD k 0):=by rw[Q5 (by simpa [L6] using h),Q5 h];simp[L6]
theorem CM {w : List Int}(h0 : ∀ k, k < w.length → 0 ≤ w.getD k 0) : ∀ n k, k ≤ n → n ≤ w.length → 0 ≤ Hl w k ∧ Hl w k ≤ Hl w n
  | 0, k, hk, _ => by have : k = 0 := by omega
                      subst this; simp [Hl]
  | n + 1, k, hk, hn => by
    have h1 := h0 n (by omega);by_cases e : k = n + 1
    · subst e
      have := CM h0 n n (Nat.le_refl _) (by omega);simp only [Hl]; omega
    · have := CM h0 n k (by omega) (by omega)
      simp only [Hl]; omega
theorem Im {h:Int}{w:List Int}(hh:1≤h∧h≤1000000) (hl:w.length≤40) (h0:∀ k,k<w.length→0≤w.getD k 0) (hs:Hl w w.length≤h) :
  Qo h 0 (L6 w)=0∧Qh h 0 (L6 w)=(h-Hl w w.length,h-Hl w w.length):=by
 have hlen:(L6 w).length=w.length:=by simp[L6]
 have hb:=CM h0;have ht:Truth h 0 (L6 w) w:=by
  refine Oe (fun k=>h-Hl w k) (by simp[Hl]) (by rw[hlen]) (fun k hk=>?_) (fun k hk=>?_) fun k hk=>?_
  ·rw[hlen] at hk;rw[RT hk];simp only[stepT,Hl,if_true];omega
  ·rw[hlen] at hk;have:=hb w.length k hk (Nat.le_refl _);omega
  ·rw[hlen] at hk;have h1:=hb w.length (k+1) hk (Nat.le_refl _);have h2:=h0 k hk;simp only[Hl] at h1;rw[RT hk];refine⟨?_,fun _=>by omega,fun h=>(h rfl).elim⟩;unfold InB JM;rw[W8];dsimp only;omega
 have hv:vT h (L6 w) w w.length=h-Hl w w.length:=Ow (fun k=>h-Hl w k) (by simp[Hl]) (fun k hk=>by
  rw[hlen] at hk;rw[RT hk];simp only[stepT,Hl,if_true];omega) w.length (by rw[hlen];exact Nat.le_refl _)
 have ho:YR h 0 (L6 w):=by refine⟨by omega,by omega,by omega,by omega,by rw[hlen];omega,fun x hx=>?_⟩;obtain⟨y,hy,rfl⟩:=List.mem_map.1 hx;obtain⟨i,hi,rfl⟩:=List.getElem_of_mem hy;have h1:=hb w.length (i+1) hi (Nat.le_refl _);have h2:=h0 i hi;have h3:=hb w.length i (by omega) (Nat.le_refl _);simp only[Hl] at h1;rw[Q5 hi] at h1 h2;unfold Q6t;dsimp only;omega
 obtain⟨h1,h2,h3,h4⟩:=ES ho ht;refine⟨h1,?_⟩;rw[h2,E3 ht _ (Nat.le_refl _) (fun j hj=>?_) fun j hj=>?_,hlen,hv]
 ·rw[hlen] at hj;rw[RT hj]
 ·rw[hlen] at hj;exact h0 j hj
def ydN (g m:Int) (i:Nat):Int:=if i=29 then (m-29)*g else g
def ydW (g m:Int) (k:Nat):List Int:=(List.range k).map (ydN g m)
theorem Od (g m:Int) (k:Nat):L6 (ydW g m (k+1))=L6 (ydW g m k)++[(1,ydN g m k)]:=by simp[L6,ydW,List.range_succ]
theorem Dw (g m:Int) (k:Nat):(ydW g m k).length=k:=by simp[ydW]
theorem IJ {g m:Int}{n k:Nat}(h:k<n):(ydW g m n).getD k 0=ydN g m k:=by rw[Q5 (by rw[Dw];exact h)];simp[ydW]
theorem Iv {g m:Int}{n:Nat}:∀ k:Nat,k≤n→k≤29→Hl (ydW g m n) k=k*g
 |0,_,_=>by simp[Hl]
 |k+1,h1,h2=>by rw[Hl,Iv k (by omega) (by omega),IJ (by omega),ydN,if_neg (by omega)];rw[Int.natCast_add,Int.add_mul];simp
theorem Q6d {g m:Int}{n:Nat}(hm:0≤m) (uX:(n:Int)=m∧n≤30∨n=30∧30≤m):Hl (ydW g m n) n=m*g:=by
 by_cases e:n=30
 ·subst e;rw[show (30:Nat)=29+1 from rfl,Hl,Iv 29 (by omega) (by omega),IJ (by omega),ydN,if_pos rfl,←Int.add_mul];congr 1;omega
 ·have:(n:Int)=m∧n≤29:=by omega
  rw[Iv n (Nat.le_refl _) this.2,this.1]
theorem Q8u {g m:Int}(hg:1≤g) (hm:0≤m) {k n:Nat}(hk:k<n) (h:(k:Int)<m):0≤(ydW g m n).getD k 0:=by
 rw[IJ hk];unfold ydN;split
 ·exact Int.mul_nonneg (by omega) (by omega)
 ·omega
theorem Q0j:∀ i:Fin 12,Qm (2 ^ i.val)=[(i.val:Int)]:=by decide +kernel
theorem O_ {L:List Lot}{t nc ng:Int}{i:Nat}(hl:L.length≤12) (hi:i<L.length) (hs:(L.getD i XG).2.1.2≤(L.getD i XG).2.1.1+t) (ht:0≤t) (hc:(L.getD i XG).1=nc) (hg:ng≤(L.getD i XG).2.2):Z8 L t nc ng (2 ^ L.length)≠[]:=by
 have e:=Q0j ⟨i,by omega⟩;have e:Qm (2 ^ i)=[(i:Int)]:=e;have hp:2 ^ i<2 ^ L.length:=Nat.pow_lt_pow_right (by omega) hi;have h1:1≤2 ^ i:=Nat.one_le_two_pow;refine (Cd (s:=2 ^ i) h1 ?_ _ hp).1;unfold UZ;rw[e];have g0:([(i:Int)].getD 0 0).toNat=i:=by simp
 rw[g0,hc,Bool.and_eq_true,Bool.and_eq_true,beq_iff_eq,decide_eq_true_eq];refine⟨⟨rfl,?_⟩,?_⟩
 ·show ng≤0+(L.getD (i:Int).toNat XG).2.2;rw[Int.toNat_natCast];omega
 unfold Bf V3;rw[Lw (by simp),DK];intro a ha b hb;have ha:a=0:=by simpa using ha
 have hb:b=0:=by simpa using hb
 subst ha hb;refine⟨rfl,?_⟩;simp only[List.map_cons,List.map_nil,List.getD_cons_zero,Int.toNat_natCast];unfold Oq;simp only[W8];omega
theorem AD {L:List Lot}{S:List Int}(hS:∀ a∈S,0≤a∧a<L.length) (hL:∀ y∈L,XV y=true∧0≤y.1∧y.1≤1∧y.2.1.2≤y.2.1.1+19∧y.2.2≤256):∀ k:Nat,k≤S.length→0≤XU L (S.take k)∧XU L (S.take k)≤256*k
 |0,_=>by simp[XU]
 |k+1,hk=>by
  have ih:=AD hS hL k (by omega);have hs:=hS (S.getD k 0) (Hs (by omega));have ah:(S.getD k 0).toNat<L.length:=by omega
  have hy:=hL (L.getD (S.getD k 0).toNat XG) (by rw[Q5 ah];exact List.getElem_mem ah);have ho:=(D5.1 hy.1).2.2.2.2;rw[Dl (by omega)];omega
theorem KI {x:Int}(h:-100000000≤x∧x≤100000000):InK .i64 x:=by rw[QN];omega
def Mn:AL (List Int×Int):=(.cons (.k (.list (.i .u8))) (.one (.k (.i .i64))))
def HN (d:List Int×Int):Prop:=d.1.length≤9223372036854775807∧0≤d.2∧∀ x∈d.1,0≤x∧x≤255
def N1 (d:List Int×Int):SV:=.val (.i .i64) (Ta d.1 d.2)
def UI (d:List Int×Int):List OB:=[]
def VE:CSp:=XE Mn HN N1 UI
def Wm (l:List Int) (i:Int):Prop :=
 (((lI l)==(0:Int))=true →
  ((0:Int)=(Ta l i)∧(True))) ∧
 (((lI l)==(0:Int))=false →
  ((lI l)≠0)∧(0≤(Int.tmod i (lI l)))∧((Int.tmod i (lI l))<(List.length l))∧(I64 (gD l (Int.tmod i (lI l)) 0))∧((gD l (Int.tmod i (lI l)) 0)=(Ta l i)∧(True)))
def NR:Cx:=⟨[],[],16,[],0,[],[],[],[],false,[],[],[],[]⟩
def TH (l:List Int) (i:Int):List (Nat×LoopAnn):=[]
set_option maxRecDepth 100000 in
theorem TJ (d:List Int×Int):gwp (NR) (TH d.1 d.2) c8 0 (WI [.tmp 4] (N1 d) (UI d)) (Qs 16 (AL.can Mn d))=Wm d.1 d.2:=by kernel_rfl
abbrev Td:Prop:=OkC Tryz.prog 8 VE
theorem TY (h:∀ (l:List Int) (i:Int),(l.length≤9223372036854775807∧0≤i∧∀ x∈l,0≤x∧x≤255)→Wm l i):OkC Tryz.prog 8 VE :=
 QA Q9x mixed (C:=NR) (V:=fun (d:List Int×Int)=>Wm d.1 d.2) ⟨.nil,XsOk.nil,ItsOk.nil,YlOk.nil,IysOk.nil,XfOk.nil⟩ (TJ) fun d hp=>h d.1 d.2 hp
theorem TD:Td:=TY fun l i h=>by
 obtain⟨h1,h2,h3⟩:=h;unfold Wm;(try delta lI gD sT I64);refine⟨fun hx=>?_,fun hx=>?_⟩
 ·have:l.length=0:=by have:=eq_of_beq hx;omega
  unfold Ta;rw[if_pos this];exact(by and_intros<;>first|rfl|trivial|simp)
 ·have h0:l.length≠0:=by have:=ne_of_beq_false hx;omega
  have e:=Int.tmod_eq_emod_of_nonneg (b:=(l.length:Int)) h2;have g1:=Int.emod_nonneg i (show (l.length:Int)≠0 by omega);have g2:=Int.emod_lt_of_pos i (show (0:Int)<l.length by omega);have g3:(Int.tmod i l.length).toNat<l.length:=by omega
  have g4:=h3 _ (by rw[Q5 g3];exact List.getElem_mem g3:l.getD (Int.tmod i l.length).toNat 0∈l);refine⟨by omega,by omega,by omega,by rw[QN];omega,?_⟩;unfold Ta;rw[if_neg h0];exact(by and_intros<;>first|rfl|trivial|simp)
def M8:AL (List (Int×(Int×Int)×Int)):=(.one (.k (.list (.pair (.i .i64) (.pair (.pair (.i .i64) (.i .i64)) (.i .i64))))))
def HJ (d:List (Int×(Int×Int)×Int)):Prop:=d.length≤1000
def N6 (d:List (Int×(Int×Int)×Int)):SV:=.lst 0
def N0 (d:List (Int×(Int×Int)×Int)):List OB:=[.lst 51 (.pair (.i .i64) (.pair (.pair (.i .i64) (.i .i64)) (.i .i64))) d false]
def VL:CSp:=XE M8 HJ N6 N0
def Wl (l:List (Int×(Int×Int)×Int)):Prop :=
 (((List.length ([]:List (Int×(Int×Int)×Int)))+(List.length l))*32≤70368744177664)∧(True∧(((([]:List (Int×(Int×Int)×Int))++l)=l∧((List.isEmpty l)&&false)=false)∧True))
def M0:Cx:=⟨[(51,(.pair (.i .i64) (.pair (.pair (.i .i64) (.i .i64)) (.i .i64))))],[],6,[],0,[],[],[],[],false,[],[],[],[]⟩
def TE (l:List (Int×(Int×Int)×Int)):List (Nat×LoopAnn):=[]
set_option maxRecDepth 100000 in
theorem TW (d:List (Int×(Int×Int)×Int)):gwp (M0) (TE d) c10 0 (WI [.tmp 2] (N6 d) (N0 d)) (Qs 6 (AL.can M8 d))=Wl d:=by kernel_rfl
abbrev Tp:Prop:=OkC Tryz.prog 10 VL
theorem To (h:∀ (l:List (Int×(Int×Int)×Int)),(l.length≤1000)→Wl l):OkC Tryz.prog 10 VL :=
 QA Q3t mixed (C:=M0) (V:=fun (d:List (Int×(Int×Int)×Int))=>Wl d) ⟨.nil,XsOk.nil,ItsOk.nil,YlOk.nil,IysOk.nil,XfOk.nil⟩ (TW) fun d hp=>h d hp
theorem Th:Tp:=To fun l h=>by
 (unfold Wl;(try delta lI gD sT I64);simp);omega
def N_:AL (Int×Int):=(.cons (.k (.i .i64)) (.one (.k (.i .i64))))
def Pp (d:Int×Int):Prop:=True
def Uu (d:Int×Int):SV:=.agg [.val (.i .i64) d.1,.val (.i .i64) d.2]
def Ut (d:Int×Int):List OB:=[]
def X_:CSp:=XE N_ Pp Uu Ut
def V2 (a:Int) (b:Int):Prop :=
 ((a=a∧b=b∧(([]:List SV)=[]))∧(True))
def Mg:Cx:=⟨[],[],8,[],0,[],[],[],[],false,[],[],[],[]⟩
def TQ (a:Int) (b:Int):List (Nat×LoopAnn):=[]
set_option maxRecDepth 100000 in
theorem TB (d:Int×Int):gwp (Mg) (TQ d.1 d.2) c14 0 (WI [.cell 4 true 2] (Uu d) (Ut d)) (Qs 8 (AL.can N_ d))=V2 d.1 d.2:=by kernel_rfl
abbrev Tf:Prop:=OkC Tryz.prog 14 X_
theorem Tz (h:∀ (a:Int) (b:Int),(True)→V2 a b):OkC Tryz.prog 14 X_ :=
 QA Q4f mixed (C:=Mg) (V:=fun (d:Int×Int)=>V2 d.1 d.2) ⟨.nil,XsOk.nil,ItsOk.nil,YlOk.nil,IysOk.nil,XfOk.nil⟩ (TB) fun d hp=>h d.1 d.2 hp
theorem KT:Tf:=Tz fun a b _=>(by and_intros<;>first|rfl|trivial|simp)
def KN:AL ((List (Int×Int×Int×Int))×Int×List Int):=(.one (.agg (.cons (.k (.list (.pair (.i .u8) (.pair (.i .u8) (.pair (.i .u8) (.i .u8)))))) (.cons (.k (.i .u8)) (.one (.k (.list (.i .u8))))))))
def MO (d:(List (Int×Int×Int×Int))×Int×List Int):Prop:=Sq d.1 d.2.1 d.2.2
def K9 (d:(List (Int×Int×Int×Int))×Int×List Int):SV:=.tup [.lst 0,.val (.i .i64) (20+Int.tmod d.2.1 60)]
def YB (d:(List (Int×Int×Int×Int))×Int×List Int):List OB:=[.lst 51 (.pair (.i .i64) (.pair (.pair (.i .i64) (.i .i64)) (.i .i64))) (M3 d.1) false]
def We:CSp:=XE KN MO K9 YB
def JG (vl:List (Int×Int×Int×Int)) (to:Int) (mo:List Int):Prop :=
 ∃ (e3:Unit) (d30:(List (Int×(Int×Int)×Int))×Int),((True∧True∧(0:Int)=d30.2∧True)∧((vl=vl∧to=to∧mo=mo∧(([]:List SV)=[]))∧(([]:List (Int×(Int×Int)×Int))=d30.1∧false=false)∧True)) ∧
 LoopP (fun (d3:(List (Int×(Int×Int)×Int))×Int) (q3:((List (Int×(Int×Int)×Int))×Int)→Prop) =>
  (((decide (d3.2<(lI vl)))&&(decide (d3.2<(7:Int))))=true →
   (0≤d3.2)∧(d3.2<(List.length vl))∧(I64 (gD vl d3.2 (0,(0,(0,0)))).1)∧((128:Int)≠0)∧(I64 (Int.tdiv (gD vl d3.2 (0,(0,(0,0)))).1 (128:Int)))∧(I64 (gD vl d3.2 (0,(0,(0,0)))).2.1)∧(I64 (gD vl d3.2 (0,(0,(0,0)))).2.1)∧(I64 (gD vl d3.2 (0,(0,(0,0)))).2.2.1)∧((20:Int)≠0)∧(I64 ((gD vl d3.2 (0,(0,(0,0)))).2.1+(Int.tmod (gD vl d3.2 (0,(0,(0,0)))).2.2.1 (20:Int))))∧(True)∧(I64 (gD vl d3.2 (0,(0,(0,0)))).2.2.2)∧(I64 ((1:Int)+(gD vl d3.2 (0,(0,(0,0)))).2.2.2))∧(((List.length d3.1)+(List.length [((Int.tdiv (gD vl d3.2 (0,(0,(0,0)))).1 (128:Int)),((((gD vl d3.2 (0,(0,(0,0)))).2.1),((gD vl d3.2 (0,(0,(0,0)))).2.1+(Int.tmod (gD vl d3.2 (0,(0,(0,0)))).2.2.1 (20:Int)))),((1:Int)+(gD vl d3.2 (0,(0,(0,0)))).2.2.2)))]))*32≤70368744177664)∧(I64 (d3.2+(1:Int)))∧(∃ d4:(List (Int×(Int×Int)×Int))×Int,((True∧True∧(d3.2+(1:Int))=d4.2∧True)∧((vl=vl∧to=to∧mo=mo∧(([]:List SV)=[]))∧((d3.1++[((Int.tdiv (gD vl d3.2 (0,(0,(0,0)))).1 (128:Int)),((((gD vl d3.2 (0,(0,(0,0)))).2.1),((gD vl d3.2 (0,(0,(0,0)))).2.1+(Int.tmod (gD vl d3.2 (0,(0,(0,0)))).2.2.1 (20:Int)))),((1:Int)+(gD vl d3.2 (0,(0,(0,0)))).2.2.2)))])=d4.1∧false=false)∧True))∧q3 d4)) ∧
  (((decide (d3.2<(lI vl)))&&(decide (d3.2<(7:Int))))=false →
   (I64 to)∧((60:Int)≠0)∧(I64 ((20:Int)+(Int.tmod to (60:Int))))∧((True∧((20:Int)+(Int.tmod to (60:Int)))=(20+Int.tmod to 60)∧(([]:List SV)=[]))∧((d3.1=(M3 vl)∧false=false)∧True)))) d30
def Ks:Cx:=⟨[(51,(.pair (.i .i64) (.pair (.pair (.i .i64) (.i .i64)) (.i .i64))))],[(14,X_)],54,[],0,[],[],[],[],false,[],[],[],[]⟩
def GM (vl:List (Int×Int×Int×Int)) (to:Int) (mo:List Int):List (Nat×LoopAnn):=[(0,⟨Unit,(List (Int×(Int×Int)×Int))×Int,[1,4,5],fun e x=>[.box 1 0,.lst 7,.val (.i .i64) x.2],fun e x=>[(1,.slot 1,.cells [.val (.list (.pair (.i .u8) (.pair (.i .u8) (.pair (.i .u8) (.i .u8))))) vl,.val (.i .u8) to,.val (.list (.i .u8)) mo] (some 25)),(7,.slot 4,.lst 51 (.pair (.i .i64) (.pair (.pair (.i .i64) (.i .i64)) (.i .i64))) x.1 false)]⟩)]
set_option maxRecDepth 100000 in
theorem Gz (d:(List (Int×Int×Int×Int))×Int×List Int):gwp (Ks) (GM d.1 d.2.1 d.2.2) c5 0 (WI [.tmp 2,.tmp 3] (K9 d) (YB d)) (Qs 54 (AL.can KN d))=JG d.1 d.2.1 d.2.2:=by kernel_rfl
abbrev Gp:Prop:=OkC Tryz.prog 5 We
theorem Gn (h:∀ (vl:List (Int×Int×Int×Int)) (to:Int) (mo:List Int),(Sq vl to mo)→JG vl to mo):OkC Tryz.prog 5 We :=
 QA Z08 mixed (C:=Ks) (V:=fun (d:(List (Int×Int×Int×Int))×Int×List Int)=>JG d.1 d.2.1 d.2.2) ⟨(.cons KT .nil),XsOk.nil,ItsOk.nil,YlOk.nil,IysOk.nil,XfOk.nil⟩ (Gz) fun d hp=>h d.1 d.2.1 d.2.2 hp
theorem Dd:Gp:=Gn fun vl to mo h=>by
 obtain⟨h1,h3,h4,h5⟩:=h;unfold JG;(try delta lI gD sT I64);have t1:=Int.tmod_nonneg 60 h4.1;have t2:=Int.tmod_lt_of_pos to (show (0:Int)<60 by decide);refine⟨(),([],0),(by and_intros<;>first|rfl|trivial|simp),?_⟩;refine⟨fun d=>∃ k:Nat,d.2=k∧k≤7∧k≤vl.length∧d.1=(vl.take k).map KH,fun d=>7-d.2.toNat,⟨0,rfl,by omega,by omega,rfl⟩,?_⟩;rintro⟨_,_⟩ ⟨k,rfl,k1,k2,rfl⟩;dsimp only;simp only[Int.toNat_natCast];refine⟨fun hc=>?_,fun hc=>?_⟩
 ·rw[Bool.and_eq_true,decide_eq_true_eq,decide_eq_true_eq] at hc;have aM:k<vl.length:=by omega
  have hd:vl.getD k (0,(0,(0,0)))=vl[k]:=Q5 aM;rw[hd];obtain⟨⟨a1,a2⟩,⟨b1,b2⟩,⟨c1,c2⟩,d1,d2⟩:=h3 _ (List.getElem_mem aM);have e1:=Int.tdiv_eq_ediv_of_nonneg (b:=128) a1;have e2:=Int.tmod_eq_emod_of_nonneg (b:=20) c1;have hl:((vl.take k).map KH).length≤7:=by rw[List.length_map,List.length_take];omega
  have fin:∃ d4:List Lot×Int,((k:Int)+1=d4.2∧(vl.take k).map KH++[KH vl[k]]=d4.1)∧d4=((vl.take (k+1)).map KH,(k:Int)+1):=⟨((vl.take (k+1)).map KH,(k:Int)+1),⟨rfl,by rw[Zq aM,List.map_append];rfl⟩,rfl⟩;simp only[QN,List.length_cons,List.length_nil];repeat (first|refine And.intro (by first|omega|trivial) ?_)
  refine⟨((vl.take (k+1)).map KH,(k:Int)+1),?_,⟨k+1,rfl,by omega,by omega,rfl⟩,by show 7-((k:Int)+1).toNat<7-k;omega⟩;rw[Zq aM,List.map_append];exact(by and_intros<;>first|rfl|trivial|simp)
 ·have hk:k=7∨k=vl.length:=by
   apply Classical.byContradiction;intro h9;rw[decide_eq_true (show (k:Int)<vl.length by omega),decide_eq_true (show (k:Int)<7 by omega)] at hc;cases hc
  have he:(vl.take k).map KH=M3 vl:=by
   unfold M3;rcases hk with rfl|rfl
   ·rfl
   ·rw[List.take_length,List.take_of_length_le (by omega)]
  rw[he];refine⟨by rw[QN];omega,by decide,by rw[QN];omega,?_⟩;exact(by and_intros<;>first|rfl|trivial|simp)
def YW:AL (Int×Int×Int×Int×Int×Int):=(.one (.agg (.cons (.k (.i .u8)) (.cons (.k (.i .u8)) (.cons (.k (.i .u8)) (.cons (.k (.i .u16)) (.cons (.k (.i .u8)) (.one (.k (.i .u8))))))))))
def NK (d:Int×Int×Int×Int×Int×Int):Prop:=(0≤d.1∧d.1≤255)∧(0≤d.2.1∧d.2.1≤255)∧(0≤d.2.2.1∧d.2.2.1≤255)∧(0≤d.2.2.2.1∧d.2.2.2.1≤65535)∧(0≤d.2.2.2.2.1∧d.2.2.2.2.1≤255)∧(0≤d.2.2.2.2.2∧d.2.2.2.2.2≤255)
def Y4 (d:Int×Int×Int×Int×Int×Int):SV:=.tup [.agg [.val (.i .i64) (20+Int.tmod d.1 80),.val (.i .i64) (1:Int),.lst 0,.val (.i .i64) (20000+d.2.2.2.1)],.agg [.val (.i .i64) (Int.tmod d.2.2.2.2.1 100),.val (.i .i64) (Int.tmod d.2.2.2.2.1 100+Int.tmod d.2.2.2.2.2 100)]]
def Y5 (d:Int×Int×Int×Int×Int×Int):List OB:=[.lst 74 (.pair (.i .i64) (.i .i64)) [(10+Int.tmod d.2.1 30,40+Int.tmod d.2.2.1 60)] false]
def XK:CSp:=XE YW NK Y4 Y5
def Jx (gr:Int) (gd:Int) (ge:Int) (go:Int) (ga:Int) (gb:Int):Prop :=
 (I64 gr)∧((80:Int)≠0)∧(I64 ((20:Int)+(Int.tmod gr (80:Int))))∧(I64 gd)∧((30:Int)≠0)∧(I64 ((10:Int)+(Int.tmod gd (30:Int))))∧(I64 ge)∧((60:Int)≠0)∧(I64 ((40:Int)+(Int.tmod ge (60:Int))))∧(I64 go)∧(I64 ((20000:Int)+go))∧(I64 ga)∧((100:Int)≠0)∧(I64 ga)∧((100:Int)≠0)∧(I64 gb)∧((100:Int)≠0)∧(I64 ((Int.tmod ga (100:Int))+(Int.tmod gb (100:Int))))∧(True)∧(((((20:Int)+(Int.tmod gr (80:Int)))=(20+Int.tmod gr 80)∧(1:Int)=(1:Int)∧True∧((20000:Int)+go)=(20000+go)∧(([]:List SV)=[]))∧((Int.tmod ga (100:Int))=(Int.tmod ga 100)∧((Int.tmod ga (100:Int))+(Int.tmod gb (100:Int)))=(Int.tmod ga 100+Int.tmod gb 100)∧(([]:List SV)=[]))∧(([]:List SV)=[]))∧(([(((10:Int)+(Int.tmod gd (30:Int))),((40:Int)+(Int.tmod ge (60:Int))))]=[(10+Int.tmod gd 30,40+Int.tmod ge 60)]∧false=false)∧True))
def YP:Cx:=⟨[(74,(.pair (.i .i64) (.i .i64)))],[(14,X_)],45,[],0,[],[],[],[],false,[],[],[],[]⟩
def MP (gr:Int) (gd:Int) (ge:Int) (go:Int) (ga:Int) (gb:Int):List (Nat×LoopAnn):=[]
set_option maxRecDepth 100000 in
theorem G7 (d:Int×Int×Int×Int×Int×Int):gwp (YP) (MP d.1 d.2.1 d.2.2.1 d.2.2.2.1 d.2.2.2.2.1 d.2.2.2.2.2) c6 0 (WI [.cell 2 true 4,.cell 3 true 2] (Y4 d) (Y5 d)) (Qs 45 (AL.can YW d))=Jx d.1 d.2.1 d.2.2.1 d.2.2.2.1 d.2.2.2.2.1 d.2.2.2.2.2:=by kernel_rfl
abbrev MU:Prop:=OkC Tryz.prog 6 XK
theorem MY (h:∀ (gr:Int) (gd:Int) (ge:Int) (go:Int) (ga:Int) (gb:Int),((0≤gr∧gr≤255)∧(0≤gd∧gd≤255)∧(0≤ge∧ge≤255)∧(0≤go∧go≤65535)∧(0≤ga∧ga≤255)∧(0≤gb∧gb≤255))→Jx gr gd ge go ga gb):OkC Tryz.prog 6 XK :=
 QA Z04 mixed (C:=YP) (V:=fun (d:Int×Int×Int×Int×Int×Int)=>Jx d.1 d.2.1 d.2.2.1 d.2.2.2.1 d.2.2.2.2.1 d.2.2.2.2.2) ⟨(.cons KT .nil),XsOk.nil,ItsOk.nil,YlOk.nil,IysOk.nil,XfOk.nil⟩ (G7) fun d hp=>h d.1 d.2.1 d.2.2.1 d.2.2.2.1 d.2.2.2.2.1 d.2.2.2.2.2 hp
theorem ME:MU:=MY fun gr gd ge go ga gb h=>by obtain⟨h1,h2,h3,h4,h5,h6⟩:=h;unfold Jx;(try delta lI gD sT I64);have a1:=Int.tmod_nonneg 80 h1.1;have a2:=Int.tmod_lt_of_pos gr (show (0:Int)<80 by decide);have b1:=Int.tmod_nonneg 30 h2.1;have b2:=Int.tmod_lt_of_pos gd (show (0:Int)<30 by decide);have c1:=Int.tmod_nonneg 60 h3.1;have c2:=Int.tmod_lt_of_pos ge (show (0:Int)<60 by decide);have d1:=Int.tmod_nonneg 100 h5.1;have d2:=Int.tmod_lt_of_pos ga (show (0:Int)<100 by decide);have e1:=Int.tmod_nonneg 100 h6.1;have e2:=Int.tmod_lt_of_pos gb (show (0:Int)<100 by decide);simp only[QN];and_intros<;>first|rfl|trivial|omega
end Go.Proofs.Tryz
namespace Go.V
open Go
theorem Q01 {P:Program}{σ:Heap}:Ret P σ (.val .bo true) [] (.bool true) σ :=
 ⟨⟨.refl _,Dead.refl _⟩,fun _=>rfl,XH,fun j b hj=>by simp at hj,fun j j' i hj=>by simp at hj,by simp[SR,KC]⟩
theorem Ea {P:Program}{f:Nat}(h:∀ (σ:Heap) (K:Value→Heap→Prop),K (.bool true) σ→VCalled P f [] σ K):OkC P f (XE (.nil:AL Unit) (fun _=>True) (fun _=>.val .bo true) (fun _=>[])):=by
 intro ap eR σ args vs c v bs ax hs hv bR hc;unfold XE at hs;split at hs
 ·rename_i d hd;obtain⟨rfl,rfl,rfl⟩:=(by simpa using hs:True=c∧SV.val .bo true=v∧[]=bs);have:vs=[]:=by
   cases args with
   |nil=>simpa [SRs] using ax
   |cons a l=>simp[AL.dec] at hd
  subst this;refine⟨h σ _ Q01,fun _ _=>h σ _ ⟨rfl,?_⟩⟩;unfold Pz;cases σ;simp only[List.length_nil,Nat.add_zero,List.getElem?_nil,Option.bind_none,Heap.mk.injEq,and_true];funext i;split
  ·rfl
  ·rename_i wf hi;exact wf i (by simpa using hi)
 ·cases hs
end Go.V
namespace Go.V
open Go Go.ChangeShapes Go.WideShapes Go.RowKit Go.Deep Go.Joins
def Heap.RO (σ:Heap):Prop:=∀ i b,σ.get i=some b→b.wr=false
structure View (w:World) (ρ:Plc) (σ:Heap):Prop where
 rel:HRel ρ σ w
 ro:σ.RO
structure More (ρ:Plc) (σ:Heap) (ρ':Plc) (σ':Heap):Prop where
 n:σ.n≤σ'.n
 pl:∀ i,i<σ.n→∀ p,ρ' i=some p→ρ i=some p
 ag:Agree σ σ'
theorem More.refl (ρ:Plc) (σ:Heap):More ρ σ ρ σ:=⟨Nat.le_refl _,fun _ _ _ h=>h,Agree.refl _⟩
theorem More.trans {ρ ρ' dQ:Plc}{σ σ' aJ:Heap}(h:More ρ σ ρ' σ') (k:More ρ' σ' dQ aJ):More ρ σ dQ aJ :=
 ⟨Nat.le_trans h.n k.n,fun i hi p hp=>h.pl i hi p (k.pl i (Nat.lt_of_lt_of_le hi h.n) p hp),h.ag.trans k.ag h.n⟩
def Q8a (w:World):Prop:=∀ g cs,Oc g=some cs→∃ e f,w.heap[g]?=some (.cells cs.toArray e f)
theorem View.emptyT (w:World) (ht:Q8a w):View w (fun _=>none) Heap.empty where
 rel:=⟨⟨fun i b h=>(by cases h),fun _ _=>rfl,fun i p h=>(by cases h),fun i j p q b _ h=>(by cases h)⟩,fun g cs hg=>⟨ht g cs hg,fun ⟨_,_,_,h,_⟩=>by cases h⟩⟩
 ro:=fun i b h=>by cases h
theorem View.add {w:World}{ρ:Plc}{σ:Heap}(h:View w ρ σ) (p:Pl) (c:List Value) {C:Array Value}{e:TypeId}{f:Nat×Nat}(hb:w.heap[p.blk]?=some (.cells C e f)) (hs:p.shift+p.ext≤C.size) (hl:c.length≤p.ext) (ht:e=p.esz.ty)
  (hc:∀ (k:Nat) (v:Value),c[k]?=some v→∃ u,w.cell? ⟨p.blk,p.shift+k,none⟩=some u∧VRel ρ σ.n v u) :
  View w (ρ.put σ.n (some p)) (σ.push (.cells c p.esz false p.tight))∧More ρ σ (ρ.put σ.n (some p)) (σ.push (.cells c p.esz false p.tight)):=by
 have aO:∀ i,i<σ.n→∀ q,(ρ.put σ.n (some p)) i=some q→ρ i=some q:=fun i hi q hq=>by unfold Plc.put at hq;rwa [if_neg (by omega)] at hq
 have bF:(σ.push (.cells c p.esz false p.tight)).RO:=fun i b hi=>by
  by_cases e:i=σ.n
  ·subst e;rw[Heap.get_push_self] at hi;obtain rfl:=osj hi;rfl
  ·rw[Heap.get_push_ne _ _ e] at hi;exact h.ro i b hi
 refine⟨⟨⟨⟨?_,?_,?_,?_⟩,fun g cs hg=>⟨(h.rel.tab g cs hg).1,fun ⟨i,_,b,_,hi,hw,_⟩=>by rw[bF i b hi] at hw;cases hw⟩⟩,bF⟩,⟨by simp,aO,fun i hi=>Heap.get_push_lt _ _ hi⟩⟩
 ·intro i b hi;by_cases aK:i=σ.n
  ·subst aK;rw[Heap.get_push_self] at hi;obtain rfl:=osj hi;refine⟨p,by simp[Plc.put],rfl,rfl,hl,⟨C,e,f,hb,hs,ht⟩,fun k v hk=>?_,fun h=>by cases h⟩;obtain⟨u,hu,hv⟩:=hc k v hk;exact⟨u,hu,hv.mono (by simp) aO⟩
  ·rw[Heap.get_push_ne _ _ aK] at hi;obtain⟨q,hq,hB⟩:=h.rel.live i b hi;exact⟨q,by simp[Plc.put,aK,hq],hB.mono (by simp) aO rfl⟩
 ·intro i hi;by_cases aK:i=σ.n
  ·subst aK;rw[Heap.get_push_self] at hi;cases hi
  ·rw[Heap.get_push_ne _ _ aK] at hi;simp[Plc.put,aK,h.rel.dead i hi]
 ·intro i q hq;by_cases aK:i=σ.n
  ·subst aK;simp[Plc.put] at hq;subst hq;exact(Array.getElem?_eq_some_iff.1 hb).1
  ·simp[Plc.put,aK] at hq;exact h.rel.lt i q hq
 ·intro i j q r b _ _ _ bU hw _;rw[bF i b bU] at hw;cases hw
theorem Iw {P:Program}{fits:TypeId→Bool}{d:Nat}{e:TypeId}{count off n:Nat}(h:rowAt P fits d e count off n=true):off≤count*P.cellsOf e:=by
 cases d with
 |zero=>cases h
 |succ d =>
  unfold rowAt at h;by_cases hs:P.cellsOf e=0
  ·simp[hs] at h
  ·have dV:0<P.cellsOf e:=Nat.pos_of_ne_zero hs;simp only[hs,if_false,Bool.or_eq_true,Bool.and_eq_true,beq_iff_eq,decide_eq_true_eq] at h;have hd:=Nat.div_add_mod off (P.cellsOf e);have hm:=Nat.mod_lt off dV;rcases h with⟨⟨h1,h2⟩,_⟩|⟨h1,_⟩
   ·have:P.cellsOf e*(off / P.cellsOf e)≤P.cellsOf e*count:=Nat.mul_le_mul_left _ (by omega);rw[Nat.mul_comm count];omega
   ·have:P.cellsOf e*(off / P.cellsOf e+1)≤P.cellsOf e*count:=Nat.mul_le_mul_left _ (by omega);rw[Nat.mul_add] at this;rw[Nat.mul_comm count];omega
theorem R4 {P:Program}:∀ {d:Nat}{e:TypeId}{count off:Nat}{u:TypeId}{n:Nat},liesAt P d e count off u n=true→off≤count*P.cellsOf e
 |0,_,_,_,_,_,h=>by cases h
 |d+1,e,count,off,u,n,h=>by
  unfold liesAt at h;rw[Bool.or_eq_true] at h;rcases h with h|h
  ·exact Iw h
  ·split at h
   ·exact R4 h
   ·cases h
theorem Ie {P:Program}{w:World}{r:Reach}{base:Nat}{a:Addr}{e:TypeId}{n:Nat}(h:w.has P r base a e n):∃ C row f,w.heap[a.block]?=some (.cells C row f)∧a.off≤C.size∧a.spot=none:=by
 obtain⟨_,hs,row,cells,dC,hl⟩:=h;unfold World.shape? at dC;split at dC
 ·rename_i C e' f hb;obtain⟨rfl,rfl⟩:=(by simpa using dC:e'=row∧C.size=cells);exact⟨C,e',f,hb,Nat.le_trans (R4 hl) (Nat.div_mul_le_self _ _),hs⟩
 ·cases dC
theorem LM {P:Program}{w:World}{r:Reach}{base:Nat}{t e:TypeId}{v:Value}(ht:P.underlying t=some (.slice e)) (h:Cell.okWide P w r base t v) :
  v=.slice none 0 0∨∃ a len cap,v=.slice (some a) len cap∧w.has P r base a e cap:=by
 unfold Cell.okWide at h;rw[ht] at h;have h':Cell.ok P w r base t v:=by split at h<;>first|exact h|simp_all
 unfold Cell.ok at h';rw[ht] at h';split at h'<;>first|exact .inl rfl|(cases h';done)|skip
 all_goals first|(rename_i h1 h2;simp_all;done)|skip
 all_goals first|(simp_all;exact⟨_,_,_,⟨rfl,rfl,rfl⟩,h'.2.2⟩)|(simp_all)
theorem Q3x {k:IntKind}{x:Int}(h:(Lit.int k x).wf=true):k.min≤x∧x≤k.max:=by simpa [Lit.wf] using h
theorem View.calls {P:Program}{f:FuncId}{w:World}{ρ:Plc}{σ:Heap}(h:View w ρ σ) {args:List Value}{aw:Array Value}(hl:LRel ρ σ.n args aw.toList) (hc:VCallsTo P f args σ fun v _=>v=.bool true) :
  Calls P f aw w fun e w'=>e=.returned (.bool true)∧Below w.heap.size w w':=by
 refine (hc ρ w aw h.rel hl).mono fun e w' ⟨c,he,v,ρ',σ',hv,hr,_,hx⟩=>?_;subst hv;have:c=.bool true:=by cases hr;rfl
 subst this;exact⟨he,hx.os,hx.tape,hx.output,hx.size,fun B hB=>hx.keep B hB fun ⟨i,p,b,_,hi,hw,_⟩=>by rw[h.ro i b hi] at hw;cases hw⟩
theorem GU {H:Type}{enc:TypeId×Value→H}{P:Program}(hl:laidOutB P=true) {W W':World}{sp:Nat→Bool}(hb:Below W.heap.size W W') :
  ∀ {ts:List TypeId}{vs:List Value}{ds:List (DataW H)}{ps:List MemPlace},(∀ t∈ts,P.readableRec t=true∧t<P.types.size)→DataW.TrodAll enc P W 0 (fun _=>true) true ts vs ds ps→(∀ p∈ps,p.block<W.heap.size)→(∀ p∈ps,sp p.block=true) →
   DataW.TrodAll enc P W' 0 sp true ts vs ds ps
 |[],vs,ds,ps,_,h,_,_=>by obtain⟨rfl,rfl,rfl⟩:=trodAll_nil h;rfl
 |t::ts,vs,ds,ps,ht,h,ah,hs=>by
  obtain⟨v,cK,d,ds',p,q,rfl,rfl,rfl,h1,h2⟩:=trodAll_cons h;obtain⟨r1,r2⟩:=ht t (by simp);exact⟨p,q,WideElems.Trod_stays hl r1 r2 h1 (fun x hx=>hb.same (ah x (by simp[hx]))) (fun x hx=>hs x (by simp[hx])),
   GU hl hb (fun t kW=>ht t (by simp[kW])) h2 (fun x hx=>ah x (by simp[hx])) (fun x hx=>hs x (by simp[hx])),rfl⟩
theorem FJ {H:Type}{enc:TypeId×Value→H}{P:Program}{f:Func}{s:ChangeSpec}{apart fresh handsOn again:Bool}{W W':World}{args:Array Value}{ds gs:List (DataW H)}{before:List MemPlace}{tb:TypeId}
  (hl:laidOutB P=true) (hp:f.params.toList.all (fun t=>P.readableRec t&&decide (t<P.types.size))=true) (jK:s.vars=[]) (hr:f.resultTypes=#[tb]) (bc:P.underlying tb=some .bool) (hs:s.fn H ds={results:=[.lit (.bool true)],args:=ds})
  (hW:DataW.Whole enc P f.params.toList s.vars apart W args.toList ds gs before) (hb:Below W.heap.size W W'):s.post enc P f apart fresh handsOn again W args (.bool true) W':=by
 have ah:∀ p∈before,p.block<W.heap.size:=fun p hp=>hW.lt p hp;have tM:=hW;obtain⟨p,q,hA,hV,rfl,hz,hn⟩:=hW;rw[jK] at hV;obtain⟨rfl,rfl⟩:=trodVars_none hV;have bp:∀ t∈f.params.toList,P.readableRec t=true∧t<P.types.size:=fun t ht=>by have:=List.all_eq_true.1 hp t ht;simpa using this
 have d_:s.fn H (ds++[])={results:=[.lit (.bool true)],args:=ds}:=by rw[List.append_nil];exact hs
 have eP:∀ (b:Nat) (sp:Nat→Bool) (hd:Bool),DataW.TrodAll enc P W' b sp hd f.resultTypes.toList ((Value.bool true).resultList f.resultTypes.size) (s.fn H (ds++[])).results []:=fun b sp hd=>by rw[d_,hr];exact trodAll_mk1 (shut_bool bc _)
 have ax:∀ sp:Nat→Bool,(∀ x∈p++[],sp x.block=true)→DataW.TrodAll enc P W' 0 sp true f.params.toList args.toList (s.fn H (ds++[])).args p:=fun sp fa=>by rw[d_];exact GU hl hb bp hA (fun x hx=>ah x (by simp[hx])) (fun x hx=>fa x (by simp[hx]))
 have cj:∀ sp:Nat→Bool,DataW.TrodVars enc P W' sp s.vars (s.fn H (ds++[])).vars []:=fun sp=>by rw[d_,jK];rfl
 have hold:∀ x∈p++[],(fun b=>decide (b<W.heap.size)) x.block=true:=fun x hx=>by simpa using ah x hx
 refine⟨ds,[],p++[],[],p,[],tM,eP _ _ _,ax _ hold,cj _,World.keptBut_mono (fun x hx=>⟨hx,?_⟩) (hb.frame (·∈p++[])),fun _=>?_⟩
 ·exact .inr (by simpa using hx)
 ·refine⟨ok_one hr rfl (okWide_bool_mk bc _),_,_,([]++p)++[],⟨[]++p,[],trodAll_append (ax _ (fun _ _=>rfl)) (eP _ _ _),cj _,rfl,?_,?_⟩,?_⟩
  ·intro b off hx;have aK:MemPlace.cell b off∈p++[]:=by simpa using hx
   rw[hb.frozen (ah _ aK)];exact hz b off aK
  ·intro ha;simpa using hn ha
  ·intro x hx _;simpa using hx
end Go.V
namespace Go.V
open Go Go.ChangeShapes Go.WideShapes Go.RowKit Go.Deep Go.Joins
def KFs (T:Kind→TypeId→Bool) (sz:TypeId→Nat):Kind→List (TypeId×Nat)→Nat→Bool
 |_,[],_=>false
 |k,[p],off=>p.2==off&&(sz p.1==k.size&&T k p.1)
 |.pair a b,p::q::r,off=>p.2==off&&(sz p.1==a.size&&(T a p.1&&KFs T sz b (q::r) (off+a.size)))
 |_,_::_::_,_=>false
def KTy (P:Program):Nat→Kind→TypeId→Bool
 |0,_,_=>false
 |n+1,k,t=>match P.underlying t with
  |some (.struct fs)=>P.cellsOf t==k.size&&KFs (KTy P n) P.cellsOf k (fs.toList.map fun f=>(f.type,f.offset)) 0
  |some (.array m e)=>P.cellsOf t==k.size&&KFs (KTy P n) P.cellsOf k ((List.range m).map fun i=>(e,i*P.cellsOf e)) 0
  |some (.int ik)=>(match k with|.i k'=>decide (k'=ik)|_=>false)
  |some .bool=>(match k with|.bo=>true|_=>false)
  |some .string=>(match k with|.st=>true|_=>false)
  |some (.slice e)=>(match k with|.list k'=>P.cellsOf e==k'.size&&(k'.flat&&KTy P n k' e)|_=>false)
  |_=>false
def KWf:(k:Kind)→k.T→Prop
 |.i ik,x=>InK ik x
 |.bo,_=>True
 |.st,s=>s.length≤maxLen
 |.list k,l=>l.length≤maxLen∧∀ x∈l,KWf k x
 |.pair a b,x=>KWf a x.1∧KWf b x.2
theorem More.le {ρ ρ':Plc}{σ σ':Heap}(h:More ρ σ ρ' σ'):σ.Le σ':=⟨h.n,fun i b hb=>by rw[h.ag i (σ.lt hb)];exact hb⟩
def ArgIs (w:World) (ρ:Plc) (σ:Heap) (k:Kind) (cs:List Value):Prop :=
 ∃ ρ' σ' vs x,View w ρ' σ'∧More ρ σ ρ' σ'∧LRel ρ' σ'.n vs cs∧KC σ' k x vs∧KWf k x
theorem ArgIs.pair {w:World}{ρ:Plc}{σ:Heap}{a b:Kind}{cs ds:List Value}(h1:ArgIs w ρ σ a cs) (h2:∀ ρ σ,View w ρ σ→ArgIs w ρ σ b ds):ArgIs w ρ σ (.pair a b) (cs++ds):=by obtain⟨ρ1,σ1,n7,x1,k1,k2,k3,k4,k5⟩:=h1;obtain⟨ρ2,σ2,jB,x2,m1,m2,m3,m4,m5⟩:=h2 ρ1 σ1 k1;exact⟨ρ2,σ2,n7++jB,(x1,x2),m1,k2.trans m2,(k3.mono m2.n m2.pl).append m3,⟨n7,jB,rfl,k4.mono m2.le,m4⟩,k5,m5⟩
section
variable {H:Type}{enc:TypeId×Value→H}{P:Program}{w:World}{r:Reach}{base:Nat}
def okc (P:Program) (w:World) (r:Reach) (base:Nat) (ts:List TypeId) (cs:List Value):Prop:=∀ (i:Nat) v u,cs[i]?=some v→ts[i]?=some u→Cell.okWide P w r base u v
theorem CD {T:Kind→TypeId→Bool}{sz:TypeId→Nat}{g:TypeId→Option (List TypeId)}(hT:∀ k t ts,T k t=true→g t=some ts→ts.length=k.size) :
  ∀ {k:Kind}{L:List (TypeId×Nat)}{off:Nat}{gi:List (List TypeId)},KFs T sz k L off=true→L.mapM (fun p=>g p.1)=some gi→gi.flatten.length=k.size
 |k,[],_,_,h,_=>by simp[KFs] at h
 |k,[p],off,gi,h,hm=>by
  simp only[KFs,Bool.and_eq_true] at h;cases hg:g p.1 with
  |none=>simp[hg] at hm
  |some ts =>simp[hg] at hm;subst hm;simpa using hT _ _ _ h.2.2 hg
 |.pair a b,p::q::r,off,gi,h,hm=>by
  simp only[KFs,Bool.and_eq_true] at h;rw[List.mapM_cons] at hm;cases hg:g p.1 with
  |none=>simp[hg] at hm
  |some ts =>
   cases hr:(q::r).mapM (fun p=>g p.1) with
   |none=>simp[hg,hr] at hm
   |some tr =>simp[hg,hr] at hm;subst hm;have:=CD hT h.2.2.2 hr;simp only[List.flatten_cons,List.length_append,this,hT _ _ _ h.2.2.1 hg,Kind.size]
 |.i _,_::_::_,_,_,h,_|.bo,_::_::_,_,_,h,_|.st,_::_::_,_,_,h,_|.list _,_::_::_,_,_,h,_=>by cases h
theorem GO {α β γ:Type}{f:α→β}{g:β→Option γ}:∀ (l:List α),(l.map f).mapM g=l.mapM (fun x=>g (f x))
 |[]=>rfl
 |a::l=>by simp only[List.map_cons,List.mapM_cons,GO l]
theorem B4 {β:Type}{x:β}{f:Nat→Option β}(h:∀ i,f i=some x):∀ l:List Nat,l.mapM f=some (List.replicate l.length x)
 |[]=>rfl
 |a::l=>by simp[List.mapM_cons,h,B4 h l,List.replicate_succ]
theorem CC:∀ {n:Nat}{k:Kind}{t:TypeId}{d:Nat}{ts:List TypeId},KTy P n k t=true→P.cellTypes d t=some ts→ts.length=k.size
 |0,_,_,_,_,h,_=>by cases h
 |_+1,_,_,0,_,_,h=>by cases h
 |n+1,k,t,d+1,ts,h,ht=>by
  have ih:∀ k t ts,KTy P n k t=true→P.cellTypes d t=some ts→ts.length=k.size:=fun k t ts h1 h2=>CC h1 h2;unfold Program.cellTypes at ht;unfold KTy at h;cases hu:P.underlying t with
  |none=>rw[hu] at h;cases h
  |some u =>
   rw[hu] at h ht;cases u<;>first|(cases h;done)|skip
   all_goals simp only at h ht
   ·split at h<;>first|(cases h;done)|(obtain rfl:=osj ht;rfl)
   ·split at h<;>first|(cases h;done)|(obtain rfl:=osj ht;rfl)
   ·split at h<;>first|(cases h;done)|(obtain rfl:=osj ht;rfl)
   ·split at h<;>first|(cases h;done)|(obtain rfl:=osj ht;rfl)
   ·rename_i m e;rw[Bool.and_eq_true] at h;cases hc:P.cellTypes d e with
    |none=>rw[hc] at ht;cases ht
    |some te =>rw[hc] at ht;obtain rfl:=osj ht;refine CD (g:=fun t=>P.cellTypes d t) ih h.2 ?_;rw[GO,B4 (x:=te) (fun _=>hc)];simp
   ·rename_i fs;rw[Bool.and_eq_true] at h;cases hc:fs.toList.mapM fun f=>P.cellTypes d f.type with
    |none=>rw[hc] at ht;cases ht
    |some gi =>rw[hc] at ht;obtain rfl:=osj ht;refine CD (g:=fun t=>P.cellTypes d t) ih h.2 ?_;rw[GO];exact hc
theorem GN {T:Kind→TypeId→Bool}{sz:TypeId→Nat}{Q:TypeId→List Value→Prop}{R:Kind→List Value→Prop}(hT:∀ k t cs,T k t=true→Q t cs→R k cs) (hR:∀ a b cs ds,R a cs→R b ds→R (.pair a b) (cs++ds)) (cs:List Value) :
  ∀ {k:Kind}{L:List (TypeId×Nat)}{off:Nat},KFs T sz k L off=true→(∀ p∈L,Q p.1 ((cs.drop p.2).take (sz p.1)))→R k ((cs.drop off).take k.size)
 |k,[],_,h,_=>by simp[KFs] at h
 |k,[p],off,h,hq=>by simp only[KFs,Bool.and_eq_true,beq_iff_eq] at h;have:=hq p (by simp);rw[h.1,h.2.1] at this;exact hT _ _ _ h.2.2 this
 |.pair a b,p::q::r,off,h,hq=>by
  simp only[KFs,Bool.and_eq_true,beq_iff_eq] at h;have h1:=hq p (by simp);rw[h.1,h.2.1] at h1;have h2:=GN hT hR cs h.2.2.2 fun x hx=>hq x (List.mem_cons_of_mem _ hx);have e:(cs.drop off).take (Kind.pair a b).size=(cs.drop off).take a.size++(cs.drop (off+a.size)).take b.size:=by rw[Kind.size,List.take_add,List.drop_drop]
  rw[e];exact hR _ _ _ _ (hT _ _ _ h.2.2.1 h1) h2
 |.i _,_::_::_,_,h,_|.bo,_::_::_,_,h,_|.st,_::_::_,_,h,_|.list _,_::_::_,_,h,_=>by cases h
def FlatIs (k:Kind) (cs:List Value):Prop:=∃ y:k.T,(∀ h,KC h k y cs)∧KWf k y∧∀ ρ m,LRel ρ m cs cs
theorem FlatIs.pair {a b:Kind}{cs ds:List Value}(h1:FlatIs a cs) (h2:FlatIs b ds):FlatIs (.pair a b) (cs++ds):=by obtain⟨x,k1,k2,k3⟩:=h1;obtain⟨y,m1,m2,m3⟩:=h2;exact⟨(x,y),fun h=>⟨cs,ds,rfl,k1 h,m1 h⟩,⟨k2,m2⟩,fun ρ m=>(k3 ρ m).append (m3 ρ m)⟩
theorem LRel.one {ρ:Plc}{n:Nat}{v c:Value}(h:VRel ρ n v c):LRel ρ n [v] [c]:=.cons h (.nil _ _)
theorem D2 {fs:Array Field}{f:Field}(h:f∈fs.toList):∃ i:Nat,fs[i]?=some f:=by obtain⟨i,hi,rfl⟩:=List.mem_iff_getElem.1 h;exact⟨i,by simp at hi;simp[hi]⟩
theorem RG {sp:Nat→Bool}{held:Bool}:∀ {n:Nat}{k:Kind}{t:TypeId}{fuel:Nat}{cs:List Value}{x:DataW H×List MemPlace},KTy P n k t=true→k.flat=true→DataW.trod enc P w base sp held fuel t cs=some x→FlatIs k cs
 |0,_,_,_,_,_,h,_,_=>by cases h
 |n+1,k,t,fuel,cs,x,h,hf,hx=>by
  unfold KTy at h;cases hu:P.underlying t with
  |none=>rw[hu] at h;cases h
  |some u =>
   rw[hu] at h;have hR:∀ a b cs ds,((a.flat=true→FlatIs a cs)∧True)→((b.flat=true→FlatIs b ds)∧True)→(((Kind.pair a b).flat=true→FlatIs (.pair a b) (cs++ds))∧True):=fun a b cs ds h1 h2=>⟨fun hf=>by
    simp only[Kind.flat,Bool.and_eq_true] at hf;exact(h1.1 hf.1).pair (h2.1 hf.2),trivial⟩
   have hT:∀ k t cs,KTy P n k t=true→(∃ fuel x,DataW.trod enc P w base sp held fuel t cs=some x)→((k.flat=true→FlatIs k cs)∧True):=fun k t cs h1 ⟨fuel,x,h2⟩=>⟨fun hf=>RG h1 hf h2,trivial⟩;cases u<;>first|(cases h;done)|skip
   all_goals simp only at h
   ·split at h<;>first|(cases h;done)|skip
    obtain⟨b,rfl,_⟩:=DataW.trod_bool hu hx;exact⟨b,fun _=>rfl,trivial,fun _ _=>.one (.bool _)⟩
   ·split at h<;>first|(cases h;done)|skip
    obtain rfl:=of_decide_eq_true h;obtain⟨z,rfl,_,hw⟩:=DataW.trod_int hu hx;exact⟨z,fun _=>rfl,Q3x hw,fun _ _=>.one (.int _ _)⟩
   ·split at h<;>first|(cases h;done)|skip
    obtain⟨s,rfl,_,hs⟩:=DataW.trod_string hu hx;exact⟨s.data.toList,fun _=>rfl,hs,fun _ _=>.one (.string _)⟩
   ·split at h<;>first|(cases h;done)|(cases hf;done)
   ·rename_i m e;simp only[Bool.and_eq_true,beq_iff_eq] at h;obtain⟨xs,m',_,_,hl,g9,hx⟩:=DataW.trod_array hu hx;have:=(GN (R:=fun k cs=>(k.flat=true→FlatIs k cs)∧True) hT hR cs h.2 fun p hp=>by
     simp only[List.mem_map,List.mem_range] at hp;obtain⟨i,hi,rfl⟩:=hp;have:=hx i hi;rw[List.getElem?_eq_getElem (by omega)] at this;exact⟨_,_,this⟩).1 hf
    rwa [List.drop_zero,List.take_of_length_le (by omega)] at this
   ·rename_i fs;simp only[Bool.and_eq_true,beq_iff_eq] at h;obtain⟨xs,m',_,_,hl,g9,hx⟩:=DataW.trod_struct hu hx;have:=(GN (R:=fun k cs=>(k.flat=true→FlatIs k cs)∧True) hT hR cs h.2 fun p hp=>by
     simp only[List.mem_map] at hp;obtain⟨f,kg,rfl⟩:=hp;obtain⟨i,hi⟩:=D2 kg;have:=hx i f hi;have gA:i<fs.size:=(Array.getElem?_eq_some_iff.1 hi).1;rw[List.getElem?_eq_getElem (by omega)] at this;exact⟨_,_,this⟩).1 hf
    rwa [List.drop_zero,List.take_of_length_le (by omega)] at this
theorem Rows.range {α:Type}{R:α→List Value→Prop}{n:Nat}{c:List Value}{x:Nat→α}:∀ (m:Nat),(∀ i,i<m→R (x i) ((c.drop (i*n)).take n))→Rows R ((List.range m).map x) (c.take (m*n))
 |0,_=>by simp;exact .nil
 |m+1,h=>by
  have e:c.take ((m+1)*n)=c.take (m*n)++(c.drop (m*n)).take n:=by rw[Nat.add_mul,Nat.one_mul,List.take_add]
  rw[List.range_succ,List.map_append,e];exact(Rows.range m fun i hi=>h i (by omega)).append (by simpa using Rows.cons (h m (by omega)) .nil)
theorem LD {α:Type}[Inhabited α] {m:Nat}{p:Nat→α→Prop}(h:∀ i,i<m→∃ x,p i x):∃ f:Nat→α,∀ i,i<m→p i (f i) :=
 ⟨fun i=>if hi:i<m then (h i hi).choose else default,fun i hi=>by simp only[hi,dif_pos];exact(h i hi).choose_spec⟩
instance KInh (k:Kind):Inhabited k.T:=⟨k.dflt⟩
theorem View.list {ρ:Plc}{σ:Heap}(h:View w ρ σ) {n:Nat}{k:Kind}{t e:TypeId}{fuel:Nat}{cs:List Value}{x:DataW H×List MemPlace}(hu:P.underlying t=some (.slice e)) (hs:P.cellsOf e=k.size) (hf:k.flat=true) (hk:KTy P n k e=true)
  (hx:DataW.trod enc P w 0 (fun _=>true) true fuel t cs=some x) (ai:okc P w r base [t] cs):ArgIs w ρ σ (.list k) cs:=by
 rcases open_slice hu hx with⟨rfl,_⟩|⟨a,len,cap,m,fu,D,Pl,rfl,hb,hl,hm,iP,_,hel⟩
 ·exact⟨ρ,σ,[.slice none 0 0],[],h,More.refl _ _,.one .nilSl,⟨_,rfl,.inl ⟨rfl,rfl⟩⟩,by simp[maxLen],fun _ hx=>by cases hx⟩
 simp only[if_true] at iP;subst iP;rw[hs] at hel;have p7:w.has P r base a e m:=by
  rcases LM hu (ai 0 _ t rfl rfl) with hh|⟨a',tN,ao,hh,h2⟩
  ·cases hh
  ·cases hh;exact h2
 obtain⟨C,row,f,aC,bP,fa⟩:=Ie p7;obtain⟨blk,off,spot⟩:=a;simp only at aC bP fa;subst fa;have j7:∀ i,(⟨blk,off,none⟩:Addr).add i=⟨blk,off+i,none⟩:=fun i=>by unfold Addr.add;split<;>simp_all
 obtain⟨X,hX⟩:=LD (α:=k.T×List Value) (m:=m) (p:=fun i p=>p.2.length=k.size∧(∀ j,j<k.size→w.cell? ⟨blk,off+i*k.size+j,none⟩=p.2[j]?)∧(∀ h,KC h k p.1 p.2)∧KWf k p.1∧∀ ρ m,LRel ρ m p.2 p.2) fun i hi=>by
  obtain⟨cs',h1,h2⟩:=hel i hi;obtain⟨_,k1,k2⟩:=World.cells?_some h1;obtain⟨y,m1,m2,m3⟩:=RG hk hf h2;refine⟨(y,cs'),k1,fun j hj=>?_,m1,m2,m3⟩;have:=k2 j hj;rw[j7] at this;have e2:(⟨blk,off+i*k.size,none⟩:Addr).add j=⟨blk,off+i*k.size+j,none⟩:=by unfold Addr.add;split<;>simp_all
  rw[e2] at this;exact this
 have dV:=k.size_pos;let c:List Value:=(List.range (m*k.size)).map fun j=>((X (j / k.size)).2[j % k.size]?).getD undef;have cA:c.length=m*k.size:=by simp[c]
 have hdiv:∀ j,j<m*k.size→j / k.size<m:=fun j hj=>Nat.div_lt_of_lt_mul (by rw[Nat.mul_comm];exact hj);have bk:∀ j,j<m*k.size→∃ v,c[j]?=some v∧w.cell? ⟨blk,off+j,none⟩=some v∧∀ ρ m,VRel ρ m v v:=fun j hj=>by
  have h1:=hX (j / k.size) (hdiv j hj);have ft:j % k.size<k.size:=Nat.mod_lt _ dV;have h2:=h1.2.1 _ ft;have e:off+j / k.size*k.size+j % k.size=off+j:=by rw[Nat.add_assoc,Nat.div_add_mod']
  rw[e] at h2;have h3:j % k.size<(X (j / k.size)).2.length:=by rw[h1.1];exact ft
  refine⟨(X (j / k.size)).2[j % k.size],?_,?_,fun ρ m=>(h1.2.2.2.2 ρ m).2 _ _ _ (List.getElem?_eq_getElem h3) (List.getElem?_eq_getElem h3)⟩
  ·simp only[c,List.getElem?_map,List.getElem?_range hj,Option.map_some,List.getElem?_eq_getElem h3,Option.getD_some]
  ·rw[h2,List.getElem?_eq_getElem h3]
 have p8:∀ i,i<m→(c.drop (i*k.size)).take k.size=(X i).2:=fun i hi=>by
  have h1:=hX i hi;have hle:i*k.size+k.size≤m*k.size:=by have:(i+1)*k.size≤m*k.size:=Nat.mul_le_mul_right _ hi;rw[Nat.add_mul] at this;omega
  apply List.ext_getElem?;intro j;by_cases hj:j<k.size
  ·rw[List.getElem?_take_of_lt hj,List.getElem?_drop];have eE:i*k.size+j<m*k.size:=by omega
   have e1:(i*k.size+j) / k.size=i:=by rw[Nat.mul_comm,Nat.mul_add_div dV,Nat.div_eq_of_lt hj,Nat.add_zero]
   have e2:(i*k.size+j) % k.size=j:=by rw[Nat.mul_comm,Nat.mul_add_mod,Nat.mod_eq_of_lt hj]
   have h3:j<(X i).2.length:=by rw[h1.1];exact hj
   simp only[c,List.getElem?_map,List.getElem?_range eE,Option.map_some,e1,e2,List.getElem?_eq_getElem h3,Option.getD_some]
  ·rw[List.getElem?_eq_none (by simp;omega),List.getElem?_eq_none (by omega)]
 have aB:off+m*k.size≤C.size:=by
  rcases Nat.eq_zero_or_pos (m*k.size) with h0|h0
  ·omega
  ·obtain⟨v,_,h2,_⟩:=bk (m*k.size-1) (by omega);unfold World.cell? at h2;simp only[aC] at h2;have:=(Array.getElem?_eq_some_iff.1 (by simpa using h2)).1;omega
 obtain⟨hv,n8⟩:=h.add ⟨blk,off,m*k.size,⟨k.size,row⟩,false⟩ c aC aB (by simp[cA]) rfl (fun j v hj=>by
  have b7:j<m*k.size:=by rw[←cA];exact(List.getElem?_eq_some_iff.1 hj).1
  obtain⟨v',h1,h2,h3⟩:=bk j b7;obtain rfl:=osj (hj.symm.trans h1);exact⟨v,h2,h3 _ _⟩)
 have hlen:((List.range len).map fun i=>(X i).1).length=len:=by simp
 refine⟨_,_,[.slice (some ⟨σ.n,0,none⟩) len m],(List.range len).map fun i=>(X i).1,hv,n8,.one ?_,⟨_,rfl,.inr ⟨σ.n,0,m,c,⟨k.size,row⟩,false,false,by rw[hlen],by rw[hlen];exact hl,Heap.get_push_self _ _,rfl,?_,?_⟩⟩,?_,fun y hy=>?_⟩
 ·refine .sl _ _ _ _ _ _ (by simp) fun p hp=>?_;simp[Plc.put] at hp;subst hp;exact⟨Nat.le_refl _,(fun h=>by cases h),0,by simp,by simp,.inl rfl⟩
 ·rw[hlen,cA,Nat.zero_add];exact Nat.mul_le_mul_right _ hl
 ·rw[hlen,List.drop_zero];refine Rows.range len fun i hi=>?_;rw[p8 i (by omega)];exact(hX i (by omega)).2.2.1 _
 ·rw[hlen];exact Nat.le_trans hl hm
 ·obtain⟨i,hi,rfl⟩:=List.mem_map.1 hy;exact(hX i (by have:=List.mem_range.1 hi;omega)).2.2.2.1
def Kind.lev1:Kind→Bool
 |.list k=>k.flat
 |.pair a b=>a.lev1&&b.lev1
 |_=>true
theorem E1 {ts:List TypeId}{cs:List Value}(h:okc P w r base ts cs) (o n:Nat):okc P w r base ((ts.drop o).take n) ((cs.drop o).take n):=fun i v u h1 h2=>by
 have hi:i<n:=by have:=(List.getElem?_eq_some_iff.1 h1).1;rw[List.length_take] at this;omega
 rw[List.getElem?_take_of_lt hi,List.getElem?_drop] at h1 h2;exact h _ v u h1 h2
theorem Pt {T:Kind→TypeId→Bool}{sz:TypeId→Nat}{g:TypeId→Option (List TypeId)}(hT:∀ k t ts,T k t=true→g t=some ts→ts.length=k.size) :
  ∀ {k:Kind}{L:List (TypeId×Nat)}{off:Nat}{gi:List (List TypeId)},KFs T sz k L off=true→L.mapM (fun p=>g p.1)=some gi→∀ p∈L,off≤p.2∧g p.1=some ((gi.flatten.drop (p.2-off)).take (sz p.1))
 |k,[],_,_,h,_=>by simp[KFs] at h
 |k,[p],off,gi,h,hm=>by
  simp only[KFs,Bool.and_eq_true,beq_iff_eq] at h;intro p' hp;obtain rfl:=List.mem_singleton.1 hp;cases hg:g p'.1 with
  |none=>simp[hg] at hm
  |some ts =>
   simp[hg] at hm;subst hm;refine⟨by omega,?_⟩;rw[h.1,Nat.sub_self,List.drop_zero,h.2.1,List.take_of_length_le]
   ·simp
   ·simp[hT _ _ _ h.2.2 hg]
 |.pair a b,p::q::r,off,gi,h,hm=>by
  simp only[KFs,Bool.and_eq_true,beq_iff_eq] at h;rw[List.mapM_cons] at hm;intro p' hp;cases hg:g p.1 with
  |none=>simp[hg] at hm
  |some ts =>
   cases hr:(q::r).mapM (fun p=>g p.1) with
   |none=>simp[hg,hr] at hm
   |some tr =>
    simp[hg,hr] at hm;subst hm;have hlen:=hT _ _ _ h.2.2.1 hg;rcases List.mem_cons.1 hp with rfl|hp
    ·refine⟨by omega,?_⟩;rw[hg,h.1,Nat.sub_self,List.drop_zero,h.2.1,List.flatten_cons,List.take_append,←hlen,Nat.sub_self,List.take_zero,List.append_nil,List.take_length]
    ·obtain⟨h1,h2⟩:=Pt hT h.2.2.2 hr p' hp;refine⟨by omega,?_⟩;have e1:ts.drop (p'.2-off)=[]:=List.drop_eq_nil_of_le (by omega);have e2:p'.2-off-a.size=p'.2-(off+a.size):=by omega
     rw[h2,List.flatten_cons,List.drop_append,hlen,e1,e2,List.nil_append]
 |.i _,_::_::_,_,_,h,_|.bo,_::_::_,_,_,h,_|.st,_::_::_,_,_,h,_|.list _,_::_::_,_,_,h,_=>by cases h
theorem Sf:∀ {n:Nat}{k:Kind}{t:TypeId}{d:Nat}{ts:List TypeId}{fuel:Nat}{cs:List Value}{x:DataW H×List MemPlace},KTy P n k t=true→k.lev1=true→P.cellTypes d t=some ts→okc P w r base ts cs→DataW.trod enc P w 0 (fun _=>true) true fuel t cs=some x→∀ ρ σ,View w ρ σ→ArgIs w ρ σ k cs
 |0,_,_,_,_,_,_,_,h,_,_,_,_=>by cases h
 |_+1,_,_,0,_,_,_,_,_,_,h,_,_=>by cases h
 |n+1,k,t,d+1,ts,fuel,cs,x,h,hf,eo,ai,hx=>by
  intro ρ σ hv;by_cases fP:k.flat=true
  ·obtain⟨y,h1,h2,h3⟩:=RG h fP hx;exact⟨ρ,σ,cs,y,hv,More.refl _ _,h3 _ _,h1 _,h2⟩
  unfold KTy at h;cases hu:P.underlying t with
  |none=>rw[hu] at h;cases h
  |some u =>
   rw[hu] at h;let Q:TypeId→List Value→Prop:=fun t cs=>(∃ fuel x,DataW.trod enc P w 0 (fun _=>true) true fuel t cs=some x)∧∃ ts,P.cellTypes d t=some ts∧okc P w r base ts cs;let R:Kind→List Value→Prop:=fun k cs=>k.lev1=true→∀ ρ σ,View w ρ σ→ArgIs w ρ σ k cs;have hR:∀ a b cs ds,R a cs→R b ds→R (.pair a b) (cs++ds):=fun a b cs ds h1 h2 hl ρ σ hv=>by simp only[Kind.lev1,Bool.and_eq_true] at hl;exact(h1 hl.1 ρ σ hv).pair fun ρ σ hv=>h2 hl.2 ρ σ hv
   have hT:∀ k t cs,KTy P n k t=true→Q t cs→R k cs:=fun k t cs h1 ⟨⟨fuel,x,h2⟩,ts,h3,h4⟩ hl=>Sf h1 hl h3 h4 h2;have hlen:∀ k t ts,KTy P n k t=true→P.cellTypes d t=some ts→ts.length=k.size:=fun k t ts h1 h2=>CC h1 h2;unfold Program.cellTypes at eo;rw[hu] at eo;cases u<;>first|(cases h;done)|skip
   all_goals simp only at h
   ·split at h<;>first|(cases h;done)|(exact absurd rfl fP)
   ·split at h<;>first|(cases h;done)|(exact absurd rfl fP)
   ·split at h<;>first|(cases h;done)|(exact absurd rfl fP)
   ·rename_i e;split at h<;>first|(cases h;done)|skip
    simp only[Bool.and_eq_true,beq_iff_eq] at h;simp only[Option.some.injEq] at eo;subst eo;exact hv.list hu h.1 h.2.1 h.2.2 hx ai
   ·rename_i m e;simp only[Bool.and_eq_true,beq_iff_eq] at h;obtain⟨xs,m',_,_,hl,g9,hx⟩:=DataW.trod_array hu hx;simp only at eo;cases hc:P.cellTypes d e with
    |none=>rw[hc] at eo;cases eo
    |some te =>
     rw[hc] at eo;obtain rfl:=osj eo;have mj:((List.range m).map fun i=>(e,i*P.cellsOf e)).mapM (fun p:TypeId×Nat=>P.cellTypes d p.1)=some (List.replicate m te):=by rw[GO,B4 (x:=te) (fun _=>hc)];simp
     have:=GN (Q:=Q) (R:=R) hT hR cs h.2 (fun p hp=>by
      have g_:=Pt (g:=fun t=>P.cellTypes d t) hlen h.2 mj p hp;simp only[List.mem_map,List.mem_range] at hp;obtain⟨i,hi,rfl⟩:=hp;have:=hx i hi;rw[List.getElem?_eq_getElem (by omega)] at this;exact⟨⟨_,_,this⟩,_,g_.2,E1 ai _ _⟩) hf ρ σ hv
     rwa [List.drop_zero,List.take_of_length_le (by omega)] at this
   ·rename_i fs;simp only[Bool.and_eq_true,beq_iff_eq] at h;obtain⟨xs,m',_,_,hl,g9,hx⟩:=DataW.trod_struct hu hx;simp only at eo;cases hc:fs.toList.mapM fun f=>P.cellTypes d f.type with
    |none=>rw[hc] at eo;cases eo
    |some gi =>
     rw[hc] at eo;obtain rfl:=osj eo;have mj:(fs.toList.map fun f=>(f.type,f.offset)).mapM (fun p:TypeId×Nat=>P.cellTypes d p.1)=some gi:=by rw[GO];exact hc
     have:=GN (Q:=Q) (R:=R) hT hR cs h.2 (fun p hp=>by
      have g_:=Pt (g:=fun t=>P.cellTypes d t) hlen h.2 mj p hp;simp only[List.mem_map] at hp;obtain⟨f,kg,rfl⟩:=hp;obtain⟨i,hi⟩:=D2 kg;have:=hx i f hi;have gA:i<fs.size:=(Array.getElem?_eq_some_iff.1 hi).1;rw[List.getElem?_eq_getElem (by omega)] at this;exact⟨⟨_,_,this⟩,_,g_.2,E1 ai _ _⟩) hf ρ σ hv
     rwa [List.drop_zero,List.take_of_length_le (by omega)] at this
def isAgg (P:Program) (t:TypeId):Bool:=match P.underlying t with
 |some (.struct _)=>true
 |some (.array _ _)=>true
 |_=>false
theorem View.arg {ρ:Plc}{σ:Heap}(h:View w ρ σ) {n:Nat}{k:Kind}{t:TypeId}{v:Value}{d:DataW H}{p:List MemPlace}(hk:KTy P n k t=true) (hl:k.lev1=true) (ha:isAgg P t=!k.one) (ai:Value.okWide P w r base t v) (hd:DataW.Trod enc P w 0 (fun _=>true) true t v d p) :
  ∃ ρ' σ' vv x,View w ρ' σ'∧More ρ σ ρ' σ'∧VRel ρ' σ'.n vv v∧KV σ' k x vv∧KWf k x:=by
 obtain⟨fuel,hd⟩:=hd;by_cases dG:isAgg P t=true
 ·have bG:k.one=false:=by rw[dG] at ha;simpa using ha.symm
  have:∃ cs,v=.agg cs∧cs.size=P.cellsOf t∧Row.okWide P w r base t cs:=by
   unfold isAgg at dG;unfold Value.okWide at ai;split at dG<;>first|(cases dG;done)|skip
   ·rename_i hu;rw[hu] at ai;exact ai
   ·rename_i hu;rw[hu] at ai;exact ai
  obtain⟨cs,rfl,aB,ts,eo,_,cu⟩:=this;have hlen:=CC hk eo;have az:P.cellsOf t=k.size:=by
   unfold isAgg at dG;cases n with
   |zero=>cases hk
   |succ n =>
    unfold KTy at hk;split at dG<;>first|(cases dG;done)|skip
    all_goals
     rename_i hu;rw[hu] at hk;simp only[Bool.and_eq_true,beq_iff_eq] at hk;exact hk.1
  have kU:okc P w r base ts cs.toList:=fun i v u h1 h2=>by have hi:i<ts.length:=(List.getElem?_eq_some_iff.1 h2).1;obtain⟨u',h3,h4⟩:=cu i v (by simpa using h1);rw[Nat.mod_eq_of_lt hi] at h3;obtain rfl:=osj (h2.symm.trans h3);exact h4
  obtain⟨ρ',σ',vs,x,k1,k2,k3,k4,k5⟩:=Sf hk hl eo kU (show DataW.trod enc P w 0 _ true fuel t cs.toList=_ from hd) ρ σ h;exact⟨ρ',σ',.agg vs.toArray,x,k1,k2,VRel.agg_of (ds:=cs.toList) k3,.inr ⟨bG,vs,rfl,k4⟩,k5⟩
 ·have bG:k.one=true:=by
   have:isAgg P t=false:=by simpa using dG
   rw[this] at ha;simpa using ha.symm
  have gS:=Kind.one_size bG;have bk:Cell.okWide P w r base t v∧v.cells.toList=[v]:=by
   have h1:isAgg P t=false:=by simpa using dG
   unfold isAgg at h1;have h2:Cell.okWide P w r base t v:=by
    unfold Value.okWide at ai;split at ai
    ·rename_i hu;rw[hu] at h1;cases h1
    ·rename_i hu;rw[hu] at h1;cases h1
    ·exact ai
   refine⟨h2,?_⟩;cases v<;>first|rfl|skip
   all_goals
    exfalso;cases n with
    |zero=>cases hk
    |succ n =>
     unfold KTy at hk;unfold Cell.okWide Cell.ok at h2;cases hu:P.underlying t with
     |none=>rw[hu] at hk;cases hk
     |some u =>rw[hu] at hk h2 h1;cases u<;>first|(cases hk;done)|(cases h1;done)|(cases h2;done)|(simp at h2;done)
  have eo:P.cellTypes 1 t=some [t]:=by
   have h1:isAgg P t=false:=by simpa using dG
   unfold isAgg at h1;unfold Program.cellTypes;cases n with
   |zero=>cases hk
   |succ n =>
    unfold KTy at hk;cases hu:P.underlying t with
    |none=>rw[hu] at hk;cases hk
    |some u =>rw[hu] at h1;cases u<;>first|rfl|(cases h1;done)
  rw[bk.2] at hd;have kU:okc P w r base [t] [v]:=fun i v' u h1 h2=>by
   cases i with
   |zero=>cases h1;cases h2;exact bk.1
   |succ i=>simp at h1
  obtain⟨ρ',σ',vs,x,k1,k2,k3,k4,k5⟩:=Sf hk hl eo kU hd ρ σ h;have:vs.length=1:=by rw[KC.length k4];exact gS
  obtain⟨vv,rfl⟩:=List.length_eq_one_iff.1 this;exact⟨ρ',σ',vv,x,k1,k2,k3.2 0 _ _ rfl rfl,.inl ⟨bG,k4⟩,k5⟩
def AWf:(ks:List Kind)→AT ks→Prop
 |[],_=>True
 |[k],x=>KWf k x
 |k::k'::ks,x=>KWf k x.1∧AWf (k'::ks) x.2
def Q2w (P:Program):List Kind→List TypeId→Bool
 |[],[]=>true
 |k::ks,t::ts=>(KTy P 8 k t&&(k.lev1&&(isAgg P t==!k.one)))&&Q2w P ks ts
 |_,_=>false
theorem View.args:∀ {ks:List Kind}{ts:List TypeId}{vs:List Value}{ds:List (DataW H)}{ps:List MemPlace}{ρ:Plc}{σ:Heap},View w ρ σ→Q2w P ks ts=true→(∀ (j:Nat) t v,ts[j]?=some t→vs[j]?=some v→Value.okWide P w r base t v)→DataW.TrodAll enc P w 0 (fun _=>true) true ts vs ds ps →
  ∃ ρ' σ' lz x,View w ρ' σ'∧More ρ σ ρ' σ'∧LRel ρ' σ'.n lz vs∧Rp σ' ks x lz∧AWf ks x
 |[],[],vs,ds,ps,ρ,σ,h,_,_,hA=>by obtain⟨rfl,rfl,rfl⟩:=trodAll_nil hA;exact⟨ρ,σ,[],(),h,More.refl _ _,.nil _ _,rfl,trivial⟩
 |[k],[t],vs,ds,ps,ρ,σ,h,hk,hv,hA=>by obtain⟨v,cK,d,ds',p,q,rfl,rfl,rfl,h1,h2⟩:=trodAll_cons hA;obtain⟨rfl,rfl,rfl⟩:=trodAll_nil h2;simp only[Q2w,Bool.and_eq_true,beq_iff_eq] at hk;obtain⟨ρ',σ',vv,x,k1,k2,k3,k4,k5⟩:=h.arg hk.1.1 hk.1.2.1 hk.1.2.2 (hv 0 t v rfl rfl) h1;exact⟨ρ',σ',[vv],x,k1,k2,.one k3,⟨vv,rfl,k4⟩,k5⟩
 |k::k'::ks,t::ts,vs,ds,ps,ρ,σ,h,hk,hv,hA=>by obtain⟨v,cK,d,ds',p,q,rfl,rfl,rfl,h1,h2⟩:=trodAll_cons hA;simp only[Q2w,Bool.and_eq_true,beq_iff_eq] at hk;obtain⟨ρ1,σ1,vv,x,k1,k2,k3,k4,k5⟩:=h.arg hk.1.1 hk.1.2.1 hk.1.2.2 (hv 0 t v rfl rfl) h1;obtain⟨ρ2,σ2,lz,y,m1,m2,m3,m4,m5⟩:=k1.args (ks:=k'::ks) hk.2 (fun j t v h1 h2=>hv (j+1) t v h1 h2) h2;exact⟨ρ2,σ2,vv::lz,(x,y),m1,k2.trans m2,.cons (k3.mono m2.n m2.pl) m3,⟨vv,lz,rfl,k4.vcall m2.le,m4⟩,k5,m5⟩
 |[],_::_,_,_,_,_,_,_,hk,_,_|_::_,[],_,_,_,_,_,_,hk,_,_|[_],_::_::_,_,_,_,_,_,_,hk,_,_=>by simp[Q2w] at hk
theorem FG (hT:Q8a w) {f:Nat}{sp:CSp}(fa:OkC P f sp) (he:Xg P f) {ks:List Kind}{ts:List TypeId}{args:Array Value}{ds:List (DataW H)}{ps:List MemPlace}(hk:Q2w P ks ts=true)
  (hv:∀ (j:Nat) t v,ts[j]?=some t→args.toList[j]?=some v→Value.okWide P w r base t v) (hA:DataW.TrodAll enc P w 0 (fun _=>true) true ts args.toList ds ps)
  (hs:∀ x:AT ks,AWf ks x→∃ c,sp (fun _ _=>none) (L3 ks x)=some (c,.val .bo true,[])∧c):Calls P f args w fun e w'=>e=.returned (.bool true)∧Below w.heap.size w w':=by
 obtain⟨ρ,σ,lz,x,k1,k2,k3,k4,k5⟩:=(View.emptyT w hT).args hk hv hA;obtain⟨c,h1,h2⟩:=hs x k5;exact k1.calls k3 (fa.true he (My k4) h1 h2)
end
end Go.V
namespace Go.V
open Go
theorem PZ {H:Type}{enc:TypeId×Value→H}{P:Program}{w:World}{b:Nat}{sp:Nat→Bool}{hd:Bool}:∀ {ts:List TypeId}{vs:List Value}{ds:List (DataW H)}{ps:List MemPlace},DataW.TrodAll enc P w b sp hd ts vs ds ps→ds.length=ts.length
 |[],[],[],_,_=>rfl
 |t::ts,v::vs,d::ds,ps,h=>by obtain⟨p,q,_,h2,_⟩:=h;simp[PZ h2]
 |[],[],_::_,_,h|[],_::_,_,_,h|_::_,[],_,_,h|_::_,_::_,[],_,h=>h.elim
end Go.V
namespace Go.Proofs.Tryz
open Go Go.V
noncomputable def Z0g:List (Option FEnt):=[
 none,
 none,
 some (.code c2 [] 1),
 some (.code c3 [.tmp 6] 203),
 some (.code c4 [.tmp 2] 186),
 some (.code c5 [.tmp 2,.tmp 3] 54),
 some (.code c6 [.cell 2 true 4,.cell 3 true 2] 45),
 some (.code c7 [.tmp 4,.tmp 5] 28),
 some (.code c8 [.tmp 4] 16),
 some (.codeJ c9 [.tmp 6,.tmp 7] 29),
 some (.code c10 [.tmp 2] 6),
 some (.code c11 [.tmp 0] 34),
 some (.code c12 [.tmp 0] 42),
 some (.code c13 [.cell 6 true 2,.tmp 7,.tmp 8] 37),
 some (.code c14 [.cell 4 true 2] 8),
 some (.code c15 [.tmp 4,.tmp 5] 15),
 some (.code c16 [.tmp 4,.tmp 5,.tmp 6] 73),
 some (.code c17 [.tmp 6,.tmp 7,.tmp 8] 60),
 some (.code c18 [.tmp 6,.tmp 7] 93),
 some (.code c19 [.tmp 0] 48),
 some (.code c20 [.tmp 2] 29),
 some (.code c21 [.tmp 2] 5),
 some (.code c22 [.cell 2 true 2] 41),
 some (.code c23 [.cell 4 true 2,.tmp 5] 21),
 some (.code c24 [.tmp 2] 13),
 some (.codeJ c25 [.tmp 4,.tmp 5] 62),
 some (.code c26 [.cell 2 true 2,.tmp 3] 14),
 some (.codeJ c27 [.tmp 4,.tmp 5] 18),
 some (.code c28 [.tmp 4] 26),
 some (.code c29 [.cell 6 true 3,.tmp 7] 33),
 some (.code c30 [.tmp 2,.tmp 3] 41),
 some (.code c31 [.tmp 4,.tmp 5,.tmp 6] 29),
 some (.code c32 [.tmp 4] 63),
 some (.codeJ c33 [.tmp 2] 15),
 some (.code c34 [.tmp 6] 21),
 some (.code c35 [.cell 6 true 3,.tmp 7] 58),
 some (.code c36 [.tmp 2] 70),
 some (.code c37 [.tmp 6] 11),
 some (.codeJ c38 [.tmp 6,.tmp 7] 130),
 some (.codeJ c39 [.tmp 8,.tmp 9,.tmp 10] 47),
 some (.code c40 [.tmp 2] 10),
 some (.code c41 [.tmp 2] 5),
 some (.code c42 [.tmp 6] 11),
 some (.code c43 [.tmp 4] 9),
 some (.code c44 [.cell 2 true 2] 29),
 some (.code c45 [.tmp 2] 10),
 some (.code c46 [.tmp 6] 11),
 some (.codeJ c47 [.tmp 4] 24),
 some (.codeJ c48 [.tmp 4] 38),
 some (.code c49 [.tmp 2] 18),
 some (.code c50 [.tmp 4] 20),
 some (.code c51 [.tmp 4] 36),
 some (.code c52 [.tmp 2] 15),
 some (.code c53 [.tmp 4] 9),
 some (.code c54 [.cell 6 true 2] 44),
 some (.codeJ c55 [.tmp 2] 16),
 some (.code c56 [.tmp 2,.tmp 3] 64),
 some (.code c57 [.tmp 2] 8),
 some (.code c58 [.tmp 3] 18),
 some (.code c59 [.tmp 4] 9),
 some (.code c60 [.tmp 6] 53),
 some (.code c61 [.tmp 4] 9),
 some (.code c62 [.tmp 4] 13),
 some (.code c63 [.cell 4 true 3,.tmp 5] 60),
 some (.code c64 [.tmp 2] 17),
 some (.code c65 [.tmp 4] 10),
 some (.code c66 [.tmp 6,.tmp 7] 54),
 some (.code c67 [.cell 6 true 3,.tmp 7,.tmp 8] 60),
 some (.code c68 [.tmp 2] 9),
 some (.code c69 [.tmp 4] 13),
 some (.code c70 [.tmp 4] 19),
 some (.code c71 [.tmp 4] 9),
 some (.code c72 [.tmp 2] 6),
 some (.code c73 [.tmp 2] 32),
 some (.code c74 [.tmp 4] 13),
 some (.code c75 [.tmp 3] 11),
 some (.code c76 [.cell 2 true 2] 61),
 some (.code c77 [.tmp 2] 6),
 some (.code c78 [.tmp 4] 19),
 some (.code c79 [.cell 4 true 2] 17),
 some (.code c80 [.cell 4 true 2] 16),
 some (.code c81 [.cell 0 true 2] 2),
 some (.code c82 [] 9),
 some (.code c83 [.tmp 5] 36),
 some (.code c84 [] 11),
 some (.code c85 [] 14),
 some (.code c86 [.tmp 2] 14),
 some (.code c87 [.tmp 2] 14),
 some (.code c88 [.tmp 4] 19),
 some (.code c89 [.tmp 4] 19),
 some (.code c90 [.tmp 2] 19),
 some (.code c91 [.tmp 2] 23),
 some (.code c92 [.cell 4 true 2] 16),
 some (.code c93 [.tmp 2] 26),
 some (.code c94 [.cell 4 true 2] 16),
 some (.code c95 [.tmp 4] 15),
 some (.code c96 [.tmp 4,.tmp 5] 40),
 some (.code c97 [.tmp 4] 19),
 some (.code c98 [] 63),
 some (.code c99 [] 134),
 some (.code Q9s [.tmp 2] 8),
 some (.code Z0j [] 148),
 some (.code Z0w [.tmp 4] 9),
 some (.code Q9a [.tmp 2] 6),
 some (.code Z0b [.tmp 2] 26),
 some (.code Q9q [.cell 4 true 2] 16),
 some (.code Z0l [] 53),
 some (.code Q9t [] 220),
 some (.code Z0i [] 49),
 some (.code Q9l [] 56),
 some (.code Q98 [] 65),
 some (.code Q9p [.tmp 6,.tmp 7] 57),
 some (.code Z02 [] 32),
 some (.code Q9c [.tmp 6] 133),
 some (.code Z0c [.tmp 4] 17),
 some (.code Q9u [.tmp 8] 84),
 some (.code Q9i [.tmp 8,.tmp 9] 168),
 some (.code Z0h [.tmp 2] 19),
 some (.code Q9v [.tmp 2] 25),
 some (.code Z0k [] 53),
 some (.code Q9e [] 60),
 some (.code Q9m [] 67),
 some (.code Z0u [.tmp 8,.tmp 9] 63),
 some (.code Z0d [] 34),
 some (.code Z0q [.tmp 8] 141),
 some (.code Z0s [.tmp 10] 90),
 some (.code Q9o [.tmp 10,.tmp 11] 178),
 some (.code Z0x [.tmp 4] 19),
 some (.code Z07 [] 58),
 some (.code Q9d [] 76),
 some (.code Z09 [.tmp 2] 7),
 some (.code Z01 [.tmp 2] 33),
 some (.code Z05 [.tmp 6] 15),
 some (.code Z0v [.tmp 10] 36),
 some (.code Q9w [] 82),
 some (.code Z0r [.tmp 8] 18),
 some (.code Z0p [.tmp 12] 41),
 some (.code Z0n [] 38),
 some (.code Q9n [.tmp 8,.tmp 9] 28),
 some (.code Q9k [.tmp 10,.tmp 11] 32)]
noncomputable def tab:Tab:=fun f=>(Z0g[f]?).join
theorem Q1n:EntsOk Tryz.prog 0 Z0g:=⟨trivial,trivial,Z0y,fun3,Z19,Z08,Z04,Q99,Q9x,Q9j,Q3t,Q54,Q5u,Q5e,Q4f,Q7n,Q83,Q8f,Q8s,Q81,Q4d,Q49,Q5q,Q4j,Q6l,Q6q,Q7y,Q89,Q7j,Q6n,Q42,Q92,Q7k,Q62,Q8w,Q7i,Q79,Q8y,Q96,Q7h,Q4l,Q48,Q3w,Q4k,Q5w,Q5m,Q4s,Q45,Q4b,Q65,Q69,Q5a,Q3h,Q6j,Q3a,Q8q,Q7g,Q3y,Q95,Q8n,Q77,Q4g,Q8m,Q7p,Q7x,Q8r,Q7b,Q78,Q8c,Q5c,Q52,Q38,Q3v,Q4m,Q4a,Q4p,Q3q,Q36,Q61,Q3f,Q6f,Q68,Q7t,Q88,Q7w,Q94,Q8g,Q4u,Q90,Q5l,Q8l,Q76,Q85,Q7u,Q8t,Q84,Q80,Q5r,Q74,Q93,Q4e,Q32,Q3m,Q2z,Q5s,Q5b,Q6b,Q5t,Q3u,Q4t,Q55,Q3b,Q4n,Q5x,Q3s,Q37,Q4z,Q6h,Q3j,Q44,Q6o,Q67,Q3l,Q3r,Q40,Q50,Q6m,Q6g,Q6e,Q5h,Q4o,Q39,Q63,Q5v,Q6i,Q6c,Q60,Q6p,Q31,Q5n,trivial⟩
theorem Q0m:TabOk Tryz.prog tab:=Q0i Q1n
end Go.Proofs.Tryz
namespace Go.Proofs.Tryz
open Go Go.V
theorem Cp:SY tab 300 VI [] c11 none (ET.of [] 34) CH.empty (Q17 false [.tmp 0] fun v _=>isTrue v)=true:=by kernel_rfl
theorem Cw {σ:Heap}{K:Value→Heap→Prop}(hK:K (.bool true) σ):VCalled Tryz.prog 11 [] σ K:=AS mixed Q0m 300 Q54 (by decide) Cp hK
end Go.Proofs.Tryz
namespace Go.Proofs.Tryz
open Go Go.V
theorem Lo:SY tab 300 VI [] c12 none (ET.of [] 42) CH.empty (Q17 false [.tmp 0] fun v _=>isTrue v)=true:=by kernel_rfl
theorem Ci {σ:Heap}{K:Value→Heap→Prop}(hK:K (.bool true) σ):VCalled Tryz.prog 12 [] σ K:=AS mixed Q0m 300 Q5u (by decide) Lo hK
end Go.Proofs.Tryz
set_option linter.unusedVariables false
namespace Go.Proofs.Tryz
open Go Go.V Go.Proofs
def Tm:AL (Unit):=.nil
def HF (d:Unit):Prop:=True
def T4 (d:Unit):SV:=.val .bo true
def PG (d:Unit):List OB:=[]
def GF:CSp:=XE Tm HF T4 PG
abbrev Tu:Prop:=OkC Tryz.prog 11 GF
theorem TX:Tu:=Ea fun _ _ h=>Cw h
def Hw:AL (Unit):=.nil
def Bv (d:Unit):Prop:=True
def BW (d:Unit):SV:=.val .bo true
def BA (d:Unit):List OB:=[]
def NT:CSp:=XE Hw Bv BW BA
abbrev P9:Prop:=OkC Tryz.prog 12 NT
theorem PU:P9:=Ea fun _ _ h=>Ci h
end Go.Proofs.Tryz
set_option linter.unusedVariables false
namespace Go.Proofs.Tryz
open Go Go.V Go.Proofs
def K6:AL (((List (Int×Int×Int×Int))×Int×List Int)×(Int×Int×Int×Int×Int×Int)×Int):=(.cons (.agg (.cons (.k (.list (.pair (.i .u8) (.pair (.i .u8) (.pair (.i .u8) (.i .u8)))))) (.cons (.k (.i .u8)) (.one (.k (.list (.i .u8))))))) (.cons (.agg (.cons (.k (.i .u8)) (.cons (.k (.i .u8)) (.cons (.k (.i .u8)) (.cons (.k (.i .u16)) (.cons (.k (.i .u8)) (.one (.k (.i .u8))))))))) (.one (.k (.i .u16)))))
def NG (d:((List (Int×Int×Int×Int))×Int×List Int)×(Int×Int×Int×Int×Int×Int)×Int):Prop:=Sq d.1.1 d.1.2.1 d.1.2.2∧d.1.2.2.length≤9223372036854775807∧((0≤d.2.1.1∧d.2.1.1≤255)∧(0≤d.2.1.2.1∧d.2.1.2.1≤255)∧(0≤d.2.1.2.2.1∧d.2.1.2.2.1≤255)∧(0≤d.2.1.2.2.2.1∧d.2.1.2.2.2.1≤65535)∧(0≤d.2.1.2.2.2.2.1∧d.2.1.2.2.2.2.1≤255)∧(0≤d.2.1.2.2.2.2.2∧d.2.1.2.2.2.2.2≤255))∧0≤d.2.2∧d.2.2≤65535
def Y9 (d:((List (Int×Int×Int×Int))×Int×List Int)×(Int×Int×Int×Int×Int×Int)×Int):SV:=.val .bo true
def Yd (d:((List (Int×Int×Int×Int))×Int×List Int)×(Int×Int×Int×Int×Int×Int)×Int):List OB:=[]
def KJ:CSp:=XE K6 NG Y9 Yd
abbrev Za (gr:Int) (gd:Int) (ge:Int) (go:Int) (le:Int):=(WD (20+Int.tmod gr 80) (1:Int) [(10+Int.tmod gd 30,40+Int.tmod ge 60)] (20000+go) le)
abbrev Pn (vl:List (Int×Int×Int×Int)):=((M3 vl)=(M3 vl)∧false=false)
def JD (vl:List (Int×Int×Int×Int)) (to:Int) (mo:List Int) (gr:Int) (gd:Int) (ge:Int) (go:Int) (ga:Int) (gb:Int) (le:Int):Prop :=
 (Sq vl to mo)∧((0≤gr∧gr≤255)∧(0≤gd∧gd≤255)∧(0≤ge∧ge≤255)∧(0≤go∧go≤65535)∧(0≤ga∧ga≤255)∧(0≤gb∧gb≤255))∧(I64 le)∧([(10+Int.tmod gd 30,40+Int.tmod ge 60)].length≤1000)∧∀ (y1:Bool),y1=((J5 (20+Int.tmod gr 80) (1:Int) [(10+Int.tmod gd 30,40+Int.tmod ge 60)] (20000+go) le) != (0:Int))→∀ (y2:Bool),y2=(decide ((Za gr gd ge go le)<(0:Int)))→∀ (y3:Bool),y3=(y1||y2)→∀ (y4:Bool),y4=(decide ((Za gr gd ge go le) > (100000:Int)))→∀ (y5:Bool),y5=(y3||y4)→(y5=true →
  (false=true∧(True))) ∧
 (y5=false →
  (mo.length≤9223372036854775807∧0≤(0:Int)∧∀ x∈mo,0≤x∧x≤255)∧((4:Int)≠0)∧∀ (y6:Int),y6=(Int.tmod (Ta mo (0:Int)) (4:Int))→(I64 ((1:Int)+y6))∧(I64 ((Za gr gd ge go le)*((1:Int)+y6)))∧∀ (y7:Int),y7=(GY (1:Int) ((Za gr gd ge go le)*((1:Int)+y6)))→((M3 vl).length≤1000)∧(false=true→(M3 vl)=[])∧((M3 vl).length≤1000)∧∀ (y8:Bool),y8=((Je (M3 vl) (20+Int.tmod to 60) (0:Int) y7) != (0:Int))→(y8=true →
   ∃ (e3:Int×Int) (d30:Int),((True∧True∧(Je (M3 vl) (20+Int.tmod to 60) (0:Int) y7)=e3.2∧(0:Int)=d30∧True)∧((Pn vl)∧((0:Int)=(0:Int)∧y7=e3.1∧(([]:List SV)=[]))∧True)) ∧
   LoopP (fun (d3:Int) (q3:(Int)→Prop) =>
    ∀ (n9:Bool),n9=(decide (d3<(lI (M3 vl))))→(n9=true →
     (0≤d3)∧(d3<(List.length (M3 vl)))∧∀ (p9:Int),p9=(gD (M3 vl) d3 (0,((0,0),0))).1→∀ (nq:Bool),nq=(p9==(0:Int))→(nq=true→0≤d3)∧(nq=true→d3<(List.length (M3 vl)))∧∀ (p_:Int),p_=(gD (M3 vl) d3 (0,((0,0),0))).2.2→∀ (qa:Bool),qa=(decide (p_≥e3.1))→∀ (lA:Bool),lA=(nq&&qa)→(lA=true →
      (false=true∧(True))) ∧
     (lA=false →
      (I64 (d3+(1:Int)))∧(∃ d4:Int,((True∧True∧e3.2=e3.2∧(d3+(1:Int))=d4∧True)∧((Pn vl)∧((0:Int)=(0:Int)∧e3.1=e3.1∧(([]:List SV)=[]))∧True))∧q3 d4))) ∧
    (n9=false →
     ∀ (n_:Bool),n_=(e3.2==(7:Int))→(n_=true→True)∧∀ (oa:Bool),oa=(n_&&true)→(oa=true→True)∧∀ (qb:Bool),qb=(oa&&true)→(qb=true∧(True)))) d30) ∧
  (y8=false →
   ∃ (e7:Int×(List Int)) (d70:Int×Int),((True∧(Za gr gd ge go le)=(Za gr gd ge go le)∧((1:Int)+y6)=e7.1∧True∧(0:Int)=d70.1∧(0:Int)=d70.2∧True)∧((Pn vl)∧((WA (M3 vl) (20+Int.tmod to 60) (0:Int) y7)=e7.2∧(WA (M3 vl) (20+Int.tmod to 60) (0:Int) y7).isEmpty=(List.isEmpty e7.2))∧True)) ∧
   LoopP (fun (d7:Int×Int) (q7:(Int×Int)→Prop) =>
    ∀ (ob:Bool),ob=(decide (d7.2<(lI e7.2)))→(ob=true →
     (0≤d7.2)∧(d7.2<(List.length e7.2))∧∀ (qc:Int),qc=(gD e7.2 d7.2 0)→∀ (nr:Bool),nr=(decide (qc<(0:Int)))→(nr=false→0≤d7.2)∧(nr=false→d7.2<(List.length e7.2))∧∀ (qd:Int),qd=(gD e7.2 d7.2 0)→∀ (qe:Bool),qe=(decide (qd≥(lI (M3 vl))))→∀ (jL:Bool),jL=(nr||qe)→(jL=false→0≤d7.2)∧(jL=false→d7.2<(List.length e7.2))∧∀ (lB:Int),lB=(gD e7.2 d7.2 0)→(jL=false→0≤lB)∧(jL=false→lB<(List.length (M3 vl)))∧∀ (qf:Int),qf=(gD (M3 vl) lB (0,((0,0),0))).1→∀ (qg:Bool),qg=(qf != (0:Int))→∀ (nu:Bool),nu=(jL||qg)→(nu=true →
      (false=true∧(True))) ∧
     (nu=false →
      (0≤d7.2)∧(d7.2<(List.length e7.2))∧∀ (lC:Int),lC=(gD e7.2 d7.2 0)→(0≤lC)∧(lC<(List.length (M3 vl)))∧∀ (oc:Int),oc=(gD (M3 vl) lC (0,((0,0),0))).2.2→(I64 (d7.1+oc))∧(I64 (d7.2+(1:Int)))∧(∃ d8:Int×Int,((True∧(Za gr gd ge go le)=(Za gr gd ge go le)∧e7.1=e7.1∧True∧(d7.1+oc)=d8.1∧(d7.2+(1:Int))=d8.2∧True)∧((Pn vl)∧(e7.2=e7.2∧(List.isEmpty e7.2)=(List.isEmpty e7.2))∧True))∧q7 d8))) ∧
    (ob=false →
     ∃ (cy:Int×Int) (d100:(List (Int×Int))×Int),(((Za gr gd ge go le)=(Za gr gd ge go le)∧e7.1=cy.1∧d7.1=cy.2∧True∧(0:Int)=d100.2∧True)∧((([]:List (Int×Int))=d100.1∧false=false)∧True)) ∧
     LoopP (fun (d10:(List (Int×Int))×Int) (q9:((List (Int×Int))×Int)→Prop) =>
      ∀ (qh:Bool),qh=(decide (d10.2<(Za gr gd ge go le)))→∀ (qi:Bool),qi=(decide (d10.2<(30:Int)))→∀ (od:Bool),od=(qh&&qi)→(od=true →
       ∀ (oe:Bool),oe=(d10.2==(29:Int))→(oe=true →
        (I64 ((Za gr gd ge go le)-(29:Int)))∧(I64 (((Za gr gd ge go le)-(29:Int))*cy.1))∧(((List.length d10.1)+(List.length [((1:Int),(((Za gr gd ge go le)-(29:Int))*cy.1))]))*16≤70368744177664)∧(I64 (d10.2+(1:Int)))∧(∃ d11:(List (Int×Int))×Int,(((Za gr gd ge go le)=(Za gr gd ge go le)∧cy.1=cy.1∧cy.2=cy.2∧True∧(d10.2+(1:Int))=d11.2∧True)∧(((d10.1++[((1:Int),(((Za gr gd ge go le)-(29:Int))*cy.1))])=d11.1∧false=false)∧True))∧q9 d11)) ∧
       (oe=false →
        (((List.length d10.1)+(List.length [((1:Int),cy.1)]))*16≤70368744177664)∧(I64 (d10.2+(1:Int)))∧(∃ d12:(List (Int×Int))×Int,(((Za gr gd ge go le)=(Za gr gd ge go le)∧cy.1=cy.1∧cy.2=cy.2∧True∧(d10.2+(1:Int))=d12.2∧True)∧(((d10.1++[((1:Int),cy.1)])=d12.1∧false=false)∧True))∧q9 d12))) ∧
      (od=false →
       (d10.1.length≤1000)∧∀ (og:Bool),og=((Qo cy.2 (0:Int) d10.1)==(0:Int))→(og=true→InK .i64 ((Za gr gd ge go le)*cy.1))∧∀ (qj:Bool),qj=(decide (cy.2≥((Za gr gd ge go le)*cy.1)))→∀ (iW:Bool),iW=(og&&qj)→(iW=true→InK .i64 ((Za gr gd ge go le)*cy.1))∧(iW=true→InK .i64 (cy.2-((Za gr gd ge go le)*cy.1)))∧(iW=true→InK .i64 ((Za gr gd ge go le)*cy.1))∧(iW=true→InK .i64 (cy.2-((Za gr gd ge go le)*cy.1)))∧(iW=true→True)∧∀ (qk:Bool),qk=((((Qh cy.2 (0:Int) d10.1).1)==(cy.2-((Za gr gd ge go le)*cy.1)))&&(((Qh cy.2 (0:Int) d10.1).2)==(cy.2-((Za gr gd ge go le)*cy.1))))→∀ (oh:Bool),oh=(iW&&qk)→(oh=true→True)∧∀ (oi:Bool),oi=(oh&&true)→(oi=true→True)∧∀ (ql:Bool),ql=(oi&&true)→(ql=true∧(True)))) d100)) d70))
def YS:Cx:=⟨[(56,(.pair (.i .i64) (.i .i64)))],[(5,We),(6,XK),(7,N8),(8,VE),(10,VL),(9,Ux),(11,GF),(12,NT),(13,Uq),(14,X_)],203,[],0,[],[],[],[],true,[],[],[],[]⟩
def G2 (vl:List (Int×Int×Int×Int)) (to:Int) (mo:List Int) (gr:Int) (gd:Int) (ge:Int) (go:Int) (ga:Int) (gb:Int) (le:Int):List (Nat×LoopAnn):=[(0,⟨Int×Int,Int,[7,14,16,17],fun e x=>[.lst 28,.box 14 0,.val (.i .i64) e.2,.val (.i .i64) x],fun e x=>[(28,.slot 7,.lst 51 (.pair (.i .i64) (.pair (.pair (.i .i64) (.i .i64)) (.i .i64))) (M3 vl) false),(14,.slot 14,.cells [.val (.i .i64) (0:Int),.val (.i .i64) e.1] (some 45))]⟩),
 (2,⟨Int×(List Int),Int×Int,[7,11,13,15,18,19],fun e x=>[.lst 28,.val (.i .i64) (WD (20+Int.tmod gr 80) (1:Int) [(10+Int.tmod gd 30,40+Int.tmod ge 60)] (20000+go) le),.val (.i .i64) e.1,.lst 68,.val (.i .i64) x.1,.val (.i .i64) x.2],fun e x=>[(28,.slot 7,.lst 51 (.pair (.i .i64) (.pair (.pair (.i .i64) (.i .i64)) (.i .i64))) (M3 vl) false),(68,.slot 15,.lst 3 (.i .i64) e.2 (List.isEmpty e.2))]⟩),
 (4,⟨Int×Int,(List (Int×Int))×Int,[11,13,18,20,21],fun e x=>[.val (.i .i64) (WD (20+Int.tmod gr 80) (1:Int) [(10+Int.tmod gd 30,40+Int.tmod ge 60)] (20000+go) le),.val (.i .i64) e.1,.val (.i .i64) e.2,.lst 144,.val (.i .i64) x.2],fun e x=>[(144,.slot 20,.lst 56 (.pair (.i .i64) (.i .i64)) x.1 false)]⟩)]
set_option maxRecDepth 100000 in
theorem G5 (d:((List (Int×Int×Int×Int))×Int×List Int)×(Int×Int×Int×Int×Int×Int)×Int):gwp (YS) (G2 d.1.1 d.1.2.1 d.1.2.2 d.2.1.1 d.2.1.2.1 d.2.1.2.2.1 d.2.1.2.2.2.1 d.2.1.2.2.2.2.1 d.2.1.2.2.2.2.2 d.2.2) c3 0 (WI [.tmp 6] (Y9 d) (Yd d)) (Qs 203 (AL.can K6 d))=JD d.1.1 d.1.2.1 d.1.2.2 d.2.1.1 d.2.1.2.1 d.2.1.2.2.1 d.2.1.2.2.2.1 d.2.1.2.2.2.2.1 d.2.1.2.2.2.2.2 d.2.2:=by kernel_rfl
abbrev MZ:Prop:=OkC Tryz.prog 3 KJ
theorem G8 (h:∀ (vl:List (Int×Int×Int×Int)) (to:Int) (mo:List Int) (gr:Int) (gd:Int) (ge:Int) (go:Int) (ga:Int) (gb:Int) (le:Int),(Sq vl to mo∧mo.length≤9223372036854775807∧((0≤gr∧gr≤255)∧(0≤gd∧gd≤255)∧(0≤ge∧ge≤255)∧(0≤go∧go≤65535)∧(0≤ga∧ga≤255)∧(0≤gb∧gb≤255))∧0≤le∧le≤65535)→JD vl to mo gr gd ge go ga gb le):OkC Tryz.prog 3 KJ :=
 QA fun3 mixed (C:=YS) (V:=fun (d:((List (Int×Int×Int×Int))×Int×List Int)×(Int×Int×Int×Int×Int×Int)×Int)=>JD d.1.1 d.1.2.1 d.1.2.2 d.2.1.1 d.2.1.2.1 d.2.1.2.2.1 d.2.1.2.2.2.1 d.2.1.2.2.2.2.1 d.2.1.2.2.2.2.2 d.2.2) ⟨(.cons Dd (.cons ME (.cons SB (.cons TD (.cons Th (.cons S0 (.cons TX (.cons PU (.cons RS (.cons KT .nil)))))))))),XsOk.nil,ItsOk.nil,YlOk.nil,IysOk.nil,XfOk.nil⟩ (G5) fun d hp=>h d.1.1 d.1.2.1 d.1.2.2 d.2.1.1 d.2.1.2.1 d.2.1.2.2.1 d.2.1.2.2.2.1 d.2.1.2.2.2.2.1 d.2.1.2.2.2.2.2 d.2.2 hp
end Go.Proofs.Tryz
set_option linter.unusedVariables false
namespace Go.Proofs.Tryz
open Go Go.V Go.Proofs
set_option maxHeartbeats 4000000 in
theorem ok_top_TopYarnYards:MZ:=G8 fun vl to mo gr gd ge go ga gb le h=>by
 obtain⟨hd,hZ,hg,nw,gU⟩:=h;unfold JD
 (try delta Za Pn q4)
 (try delta lI gD sT I64)
 obtain⟨L7,q_,T1,T2⟩:=E0 hd;obtain⟨lE,oE⟩:=Q08 hd;have n8:u8s mo:=hd.2.2.2;obtain⟨pe,p0,p1⟩:=Q2c (le:=le) hg.1 hg.2.1 hg.2.2.1 hg.2.2.2.1 ⟨nw,gU⟩;have oG:=Ou (l:=mo) (i:=0) n8 (by omega);refine⟨hd,hg,by rw[QN];omega,by simp,?_⟩;generalize J5 (20+Int.tmod gr 80) 1 [(10+Int.tmod gd 30,40+Int.tmod ge 60)] (20000+go) le=PE at *
 generalize WD (20+Int.tmod gr 80) 1 [(10+Int.tmod gd 30,40+Int.tmod ge 60)] (20000+go) le=P at *
 clear hd hg nw gU;generalize M3 vl=L at *
 generalize 20+Int.tmod to 60=T at *
 intro y1 e1 y2 e2 y3 e3 y4 e4 y5 e5;have z5:y5=false:=by rw[e5,e4,e3,e2,e1,pe,decide_eq_false (show ¬ P<0 by omega),decide_eq_false (show ¬ P > 100000 by omega)];rfl
 refine⟨(fun h=>by rw[z5] at h;cases h),fun _=>⟨⟨hZ,by omega,n8⟩,by decide,?_⟩⟩;clear e1 e2 e3 e4 e5;intro y6 e6;have b6:0≤y6∧y6≤3:=by have t1:=Int.tmod_nonneg 4 oG.1;have t2:=Int.tmod_lt_of_pos (Ta mo 0) (show (0:Int)<4 by decide);rw[e6];omega
 clear e6;have m0:0≤P*(1+y6):=Int.mul_nonneg p0 (by omega);have m1:P*(1+y6)≤4000*4:=Int.mul_le_mul p1 (by omega) (by omega) (by omega);refine⟨KI (by omega),KI (by omega),?_⟩;intro y7 e7;rw[W8] at e7;have jM:L.length≤1000:=by omega
 refine⟨jM,(fun h=>by cases h),jM,?_⟩;have nk:M7 0 y7=true:=by unfold M7 inI;rw[decide_eq_true (by omega),decide_eq_true (by omega),decide_eq_true (by omega),decide_eq_true (by omega)];rfl
 have fe:Je L T 0 y7=if (Z8 L T 0 y7 (2 ^ L.length)).isEmpty=true then 7 else 0:=by unfold Je;rw[if_neg (by omega),if_neg (by rw[nk];decide)]
 have fw:WA L T 0 y7=Z8 L T 0 y7 (2 ^ L.length):=by unfold WA;rw[if_neg (by rw[oE,nk];simp)]
 intro y8 e8;refine⟨fun c=>?_,fun c=>?_⟩
 ·have fk:Z8 L T 0 y7 (2 ^ L.length)=[]:=by
   rw[e8,fe] at c;by_cases h:(Z8 L T 0 y7 (2 ^ L.length)).isEmpty=true
   ·exact List.isEmpty_iff.1 h
   ·rw[if_neg h] at c;exact absurd c (by decide)
  have f7:Je L T 0 y7=7:=by rw[fe,fk];rfl
  rw[f7];refine⟨(y7,7),0,by and_intros<;>first|rfl|trivial,?_⟩;refine⟨fun d=>∃ i:Nat,i≤L.length∧d=(i:Int),fun d=>L.length-d.toNat,⟨0,by omega,rfl⟩,?_⟩;rintro _ ⟨i,hi,rfl⟩;dsimp only;simp only[Int.toNat_natCast];intro n9 tO;refine⟨fun c=>?_,fun c=>?_⟩
  ·have om:i<L.length:=by rw[tO] at c;have:=of_decide_eq_true c;omega
   refine⟨by omega,by omega,?_⟩;intro p9 tP nq tQ;refine⟨fun _=>by omega,fun _=>by omega,?_⟩;intro p_ tR qa tS lA tT;have tU:lA=false:=by
    cases h9:lA with
    |false=>rfl
    |true =>rw[tT,tS,tQ,Bool.and_eq_true,beq_iff_eq,decide_eq_true_eq] at h9;have hy:=q_ (L.getD i XG) (by rw[Q5 om];exact List.getElem_mem om);exact(O_ (L:=L) (t:=T) (nc:=0) (ng:=y7) (i:=i) (by omega) om (by omega) (by omega) (tP.symm.trans h9.1) (by have h:=h9.2;rw[tR] at h;exact h) fk).elim
   refine⟨(fun h=>by rw[tU] at h;cases h),fun _=>⟨KI (by omega),(i:Int)+1,by and_intros<;>first|rfl|trivial,⟨i+1,om,rfl⟩,by omega⟩⟩
  ·intro n_ tV;refine⟨fun _=>trivial,?_⟩;intro oa tX;refine⟨fun _=>trivial,?_⟩;intro qb tY;exact⟨by rw[tY,tX,tV];rfl,trivial⟩
 ·have fk:Z8 L T 0 y7 (2 ^ L.length)≠[]:=by
   intro h;rw[e8,fe,h] at c;exact absurd c (by decide)
  obtain⟨f1,-,f3,f4⟩:=Ed (L:=L) (t:=T) (by omega) fk;have fl:=Pd (l:=L) (tl:=T) (nc:=0) (ng:=y7) (by omega) (2 ^ L.length) (Nat.le_refl _);rw[fw];generalize Z8 L T 0 y7 (2 ^ L.length)=S at *
  clear fe fw e8;have gb:=AD f1 q_;refine⟨(1+y6,S),(0,0),by and_intros<;>first|rfl|trivial,?_⟩;refine⟨fun d=>∃ k:Nat,k≤S.length∧d=(XU L (S.take k),(k:Int)),fun d=>S.length-d.2.toNat,⟨0,by omega,rfl⟩,?_⟩;rintro _ ⟨k,gZ,rfl⟩;dsimp only;simp only[Int.toNat_natCast];have gk:=gb k gZ;intro ob qm;refine⟨fun c=>?_,fun c=>?_⟩
  ·have aV:k<S.length:=by rw[qm] at c;have:=of_decide_eq_true c;omega
   have ic:=Hs aV;have a1:=f1 _ ic;have a2:=(f3 _ ic).1;have hg:=gb (k+1) aV;have en:=Dl (l:=L) (S:=S) aV;unfold Ls XG at a2;unfold XG at en;refine⟨by omega,by omega,?_⟩;intro qc tZ nr t_;refine⟨fun _=>by omega,fun _=>by omega,?_⟩;intro qd ua qe ub jL uc;have ud:jL=false:=by rw[uc,ub,t_,ua,tZ,decide_eq_false (by omega),decide_eq_false (by omega)];rfl
   refine⟨fun _=>by omega,fun _=>by omega,?_⟩;intro lB ra;rw[←ra] at a1 a2 en;refine⟨fun _=>a1.1,fun _=>by omega,?_⟩;intro qf uf qg ug nu uh;have ui:nu=false:=by rw[uh,ud,ug,uf,a2];rfl
   refine⟨(fun h=>by rw[ui] at h;cases h),fun _=>⟨by omega,by omega,?_⟩⟩;intro lC qn;have qn:lC=lB:=by rw[qn,ra]
   rw[qn];refine⟨a1.1,by omega,?_⟩;intro oc uj;rw[←uj] at en;refine⟨KI (by omega),KI (by omega),(XU L (S.take (k+1)),(k:Int)+1),?_,⟨k+1,aV,rfl⟩,by omega⟩;rw[en];and_intros<;>first|rfl|trivial
  ·have aV:k=S.length:=by rw[qm] at c;have:=of_decide_eq_false c;omega
   subst aV;rw[List.take_length] at gk ⊢;clear qm c;generalize XU L S=H at *
   refine⟨(1+y6,H),([],0),by and_intros<;>first|rfl|trivial,?_⟩;refine⟨fun d=>∃ k:Nat,(k:Int)≤P∧k≤30∧d=(L6 (ydW (1+y6) P k),(k:Int)),fun d=>30-d.2.toNat,⟨0,by omega,by omega,rfl⟩,?_⟩;rintro _ ⟨k,uY,uk,rfl⟩;dsimp only;have gm:(L6 (ydW (1+y6) P k)).length=k:=by unfold L6;rw[List.length_map,Dw]
   intro qh rb qi rf od rh;refine⟨fun c=>?_,fun c=>?_⟩
   ·rw[rh,rf,rb,Bool.and_eq_true,decide_eq_true_eq,decide_eq_true_eq] at c;have hs:=Od (1+y6) P k;unfold ydN at hs;have n1:P*(1+y6)-29*(1+y6)=(P-29)*(1+y6):=(Int.sub_mul _ _ _).symm;intro oe ri;refine⟨fun c2=>?_,fun c2=>?_⟩
    ·rw[ri,beq_iff_eq] at c2;rw[if_pos (by omega)] at hs;refine⟨KI (by omega),KI (by omega),by rw[gm];simp only[List.length_cons,List.length_nil];omega,KI (by omega),(L6 (ydW (1+y6) P (k+1)),(k:Int)+1),?_,⟨k+1,by omega,by omega,rfl⟩,by omega⟩;rw[hs];and_intros<;>first|rfl|trivial
    ·rw[ri,beq_eq_false_iff_ne] at c2;rw[if_neg (by omega)] at hs;refine⟨by rw[gm];simp only[List.length_cons,List.length_nil];omega,KI (by omega),(L6 (ydW (1+y6) P (k+1)),(k:Int)+1),?_,⟨k+1,by omega,by omega,rfl⟩,by omega⟩;rw[hs];and_intros<;>first|rfl|trivial
   ·have aq:(k:Int)=P∧k≤30∨k=30∧30≤P:=by
     rw[rh,rf,rb,Bool.and_eq_false_iff,decide_eq_false_iff_not,decide_eq_false_iff_not] at c;omega
    have ys:=Q6d (g:=1+y6) (m:=P) (n:=k) p0 aq;obtain⟨o1,o2⟩:=Im (h:=H) (w:=ydW (1+y6) P k) (by omega) (by rw[Dw];omega) (fun j hj=>by
     rw[Dw] at hj;exact Q8u (by omega) p0 hj (by omega)) (by rw[Dw,ys];omega)
    rw[Dw,ys] at o2;rw[o1,o2];refine⟨by omega,?_⟩;intro og um;refine⟨fun _=>KI (by omega),?_⟩;intro qj uo iW uq;have ur:iW=true:=by rw[uq,uo,um,decide_eq_true (by omega)];rfl
    refine⟨fun _=>KI (by omega),fun _=>KI (by omega),fun _=>KI (by omega),fun _=>KI (by omega),fun _=>trivial,?_⟩;intro qk uu oh uv;refine⟨fun _=>trivial,?_⟩;intro oi uw;refine⟨fun _=>trivial,?_⟩;intro ql ux;exact⟨by rw[ux,uw,uv,ur,uu];simp,trivial⟩
end Go.Proofs.Tryz
set_option linter.unusedVariables false
namespace Go.Proofs.Tryz
open Go Go.V Go.Proofs
theorem Q4c {l:List Int}(h:KWf (.list (.i .u8)) l):u8s l:=fun x hx=>(UJ x).1 (h.2 x hx)
theorem OH {x:List (Int×Int×Int×Int)×Int×List Int}(h:KWf (.pair (.list (.pair (.i .u8) (.pair (.i .u8) (.pair (.i .u8) (.i .u8))))) (.pair (.i .u8) (.list (.i .u8)))) x):Sq x.1 x.2.1 x.2.2:=by obtain⟨h1,h2,h3⟩:=h;have h2:=(UJ x.2.1).1 h2;refine⟨h1.1,fun y hy=>?_,⟨h2.1,h2.2⟩,Q4c h3⟩;obtain⟨a,b,c,d⟩:=h1.2 y hy;exact⟨(UJ _).1 a,(UJ _).1 b,(UJ _).1 c,(UJ _).1 d⟩
theorem yardPre_of {x:(List (Int×Int×Int×Int)×Int×List Int)×(Int×Int×Int×Int×Int×Int)×Int}(h:AWf [.pair (.list (.pair (.i .u8) (.pair (.i .u8) (.pair (.i .u8) (.i .u8))))) (.pair (.i .u8) (.list (.i .u8))),.pair (.i .u8) (.pair (.i .u8) (.pair (.i .u8) (.pair (.i .u16) (.pair (.i .u8) (.i .u8))))),.i .u16] x):Sq x.1.1 x.1.2.1 x.1.2.2∧x.1.2.2.length≤9223372036854775807∧((0≤x.2.1.1∧x.2.1.1≤255)∧(0≤x.2.1.2.1∧x.2.1.2.1≤255)∧(0≤x.2.1.2.2.1∧x.2.1.2.2.1≤255)∧(0≤x.2.1.2.2.2.1∧x.2.1.2.2.2.1≤65535)∧(0≤x.2.1.2.2.2.2.1∧x.2.1.2.2.2.2.1≤255)∧(0≤x.2.1.2.2.2.2.2∧x.2.1.2.2.2.2.2≤255))∧0≤x.2.2∧x.2.2≤65535:=by obtain⟨h1,⟨a,b,c,d,e,f⟩,h3⟩:=h;exact⟨OH h1,h1.2.2.1,⟨(UJ _).1 a,(UJ _).1 b,(UJ _).1 c,(IX _).1 d,(UJ _).1 e,(UJ _).1 f⟩,(IX _).1 h3⟩
end Go.Proofs.Tryz