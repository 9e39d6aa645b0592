/- A framework for walks, contracts of functions, and their proofs: part 5, runs. -/
import Derived.ProofKit
import Derived.OpenShut
import Derived.LaidMore
import Derived.Carry
import Derived.Lib.SmallJoins
import Derived.Deep.Slices
import Derived.Test.YtfidkfoillgeeaaGreatDoorQ7
noncomputable section
set_option linter.unusedVariables false
set_option maxRecDepth 100000
namespace Go.Proofs.Tryz
open Go Go.V
theorem Q0p:Re tab 300 Kd [] c9 none (ET.of [] 239) CH.empty (Q52 false [.tmp 0] fun v _=>isTrue v)=true:=by kernel_rfl
theorem Q2n {σ:Heap}{K:Value->Heap->Prop}(hK:K (.bool true) σ):VCalled Tryz.prog 9 [] σ K:=Q2h mixed Q91 300 Z12 (by decide) Q0p hK
end Go.Proofs.Tryz
namespace Go.Proofs.Tryz
open Go Go.V Go.Proofs
def PC:AL (Unit):=.nil
def HI (d:Unit):Prop:=True
def HU (d:Unit):SV:=.val .bo true
def Hz (d:Unit):List OB:=[]
def G5:CSp:=WZ PC HI HU Hz
abbrev PF:Prop:=OkC Tryz.prog 9 G5
theorem PJ:PF:=Q2c fun _ _ h=>Q2n h
def Dg:AL (Int×List Int):=(.one (.agg (.cons (.k (.i .i64)) (.one (.k (.list (.i .i64)))))))
def TR (d:Int×List Int):Prop:=d.2.length<=1000
def G7 (d:Int×List Int):SV:=.agg [.val (.i .i64) d.1,.lst 0]
def Mw (d:Int×List Int):List OB:=[.lst 3 (.i .i64) d.2 false]
def NY:CSp:=WZ Dg TR G7 Mw
def YU (hk:Int) (lw:List Int):Prop :=
 (((List.length ([]:List Int))+(List.length lw))*8<=70368744177664)/\((hk=hk/\True/\(([]:List SV)=[]))/\(((([]:List Int)++lw)=lw/\((List.isEmpty lw)&&false)=false)/\True))
def Dv:Cx:=⟨[(3,(.i .i64))],[],10,[],0,[],[],[],[],false,[],[],[],[]⟩
def LU (hk:Int) (lw:List Int):List (Nat×LoopAnn):=[]
theorem Ld (d:Int×List Int):gwp (Dv) (LU d.1 d.2) c10 0 (Kn [.cell 2 true 2] (G7 d) (Mw d)) (Qx 10 (AL.can Dg d))=YU d.1 d.2:=by kernel_rfl
abbrev LH:Prop:=OkC Tryz.prog 10 NY
theorem SY (h:∀ (hk:Int) (lw:List Int),(lw.length<=1000)->YU hk lw):OkC Tryz.prog 10 NY :=
 QH Q7o mixed (C:=Dv) (V:=fun (d:Int×List Int)=>YU d.1 d.2) ⟨.nil,XsOk.nil,ItsOk.nil,YlOk.nil,IysOk.nil,XfOk.nil⟩ (Ld) fun d hp=>h d.1 d.2 hp
theorem Lh:LH:=SY fun hk lw h=>by
 have h1:lw.length*8<=70368744177664:=by omega
 simp[YU,h1]
def MP:AL (Int×List Int):=(.one (.agg (.cons (.k (.i .i64)) (.one (.k (.list (.i .i64)))))))
def Pp (d:Int×List Int):Prop:=d.2.length<=1000
def Nz (d:Int×List Int):SV:=.agg [.val (.i .i64) d.1,.lst 0]
def NI (d:Int×List Int):List OB:=[.lst 3 (.i .i64) d.2 false]
def Uu:CSp:=WZ MP Pp Nz NI
def Y4 (hd:Int) (rows:List Int):Prop :=
 (((List.length ([]:List Int))+(List.length rows))*8<=70368744177664)/\((hd=hd/\True/\(([]:List SV)=[]))/\(((([]:List Int)++rows)=rows/\((List.isEmpty rows)&&false)=false)/\True))
def Gk:Cx:=⟨[(3,(.i .i64))],[],10,[],0,[],[],[],[],false,[],[],[],[]⟩
def RW (hd:Int) (rows:List Int):List (Nat×LoopAnn):=[]
theorem Rt (d:Int×List Int):gwp (Gk) (RW d.1 d.2) c23 0 (Kn [.cell 2 true 2] (Nz d) (NI d)) (Qx 10 (AL.can MP d))=Y4 d.1 d.2:=by kernel_rfl
abbrev R6:Prop:=OkC Tryz.prog 23 Uu
theorem TK (h:∀ (hd:Int) (rows:List Int),(rows.length<=1000)->Y4 hd rows):OkC Tryz.prog 23 Uu :=
 QH Q72 mixed (C:=Gk) (V:=fun (d:Int×List Int)=>Y4 d.1 d.2) ⟨.nil,XsOk.nil,ItsOk.nil,YlOk.nil,IysOk.nil,XfOk.nil⟩ (Rt) fun d hp=>h d.1 d.2 hp
theorem RC:R6:=TK fun hd rows h=>by
 have h1:rows.length*8<=70368744177664:=by omega
 simp[Y4,h1]
def Xo:AL (List Int×List Int):=(.cons (.k (.list (.i .i64))) (.one (.k (.list (.i .i64)))))
def KL (d:List Int×List Int):Prop:=d.1.length<=1000000
def Xg (d:List Int×List Int):SV:=.val .bo (d.1==d.2)
def Xb (d:List Int×List Int):List OB:=[]
def J2:CSp:=WZ Xo KL Xg Xb
def Z4 (a:List Int) (b:List Int):Prop :=
 (((lI a) != (lI b))=true ->
  (false=(a==b)/\(True))) /\
 (((lI a) != (lI b))=false ->
  ∃ (e2:Unit) (d20:Int),((a=a/\b=b/\(lI a)=(lI a)/\(0:Int)=d20/\True)/\(True)) /\
  LoopP (fun (d2:Int) (q2:(Int)->Prop) =>
   ((decide (d2<(lI a)))=true ->
    (0<=d2)/\(d2<(List.length a))/\(0<=d2)/\(d2<(List.length b))/\(((gD a d2 0) != (gD b d2 0))=true ->
     (false=(a==b)/\(True))) /\
    (((gD a d2 0) != (gD b d2 0))=false ->
     (I64 (d2+(1:Int)))/\(∃ d3:Int,((a=a/\b=b/\(lI a)=(lI a)/\(d2+(1:Int))=d3/\True)/\(True))/\q2 d3))) /\
   ((decide (d2<(lI a)))=false ->
    (true=(a==b)/\(True)))) d20)
def Xt:Cx:=⟨[],[],26,[],0,[],[],[],[],false,[],[],[],[]⟩
def Vk (a:List Int) (b:List Int):List (Nat×LoopAnn):=[(0,⟨Unit,Int,[0,1,12,13],fun e x=>[.val (.list (.i .i64)) a,.val (.list (.i .i64)) b,.val (.i .i64) (((List.length a):Nat):Int),.val (.i .i64) x],fun e x=>[]⟩)]
theorem Vx (d:List Int×List Int):gwp (Xt) (Vk d.1 d.2) c46 0 (Kn [.tmp 4] (Xg d) (Xb d)) (Qx 26 (AL.can Xo d))=Z4 d.1 d.2:=by kernel_rfl
abbrev Vy:Prop:=OkC Tryz.prog 46 J2
theorem V5 (h:∀ (a:List Int) (b:List Int),(a.length<=1000000)->Z4 a b):OkC Tryz.prog 46 J2 :=
 QH Q6g mixed (C:=Xt) (V:=fun (d:List Int×List Int)=>Z4 d.1 d.2) ⟨.nil,XsOk.nil,ItsOk.nil,YlOk.nil,IysOk.nil,XfOk.nil⟩ (Vx) fun d hp=>h d.1 d.2 hp
theorem Vl:Vy:=V5 fun a b h=>by
 unfold Z4;have sZ:∀ {x y:List Int},x≠y->(x==y)=false:=fun h=>by simpa using h
 refine⟨fun hl=>⟨?_,trivial⟩,fun hl=>⟨(),0,by simp,?_⟩⟩
 .rw[sZ];rintro rfl;simp at hl
 .have hl:a.length=b.length:=by
   have:((a.length:Int))=b.length:=by simpa [lI] using hl
   omega
  refine LoopP.count a.length (fun k=>∀ j,j<k->a.getD j 0=b.getD j 0) (fun _ h=>by omega) fun k hk hJ q hq=>?_;refine⟨fun ah=>?_,fun bj=>⟨?_,trivial⟩⟩
  .have ah:k<a.length:=by simpa [lI] using ah
   refine⟨by omega,by omega,by omega,by omega,fun aC=>⟨?_,trivial⟩,fun he=>⟨?_,(k:Int)+1,by simp,hq ah fun j hj=>?_⟩⟩
   .rw[sZ];rintro rfl;simp at aC
   .simp only[Q7];omega
   .rcases Nat.lt_succ_iff_lt_or_eq.1 hj with hj|rfl
    .exact hJ j hj
    .simpa [gD] using he
  .have bj:a.length<=k:=by simpa [lI] using bj
   symm
   simp only[beq_iff_eq];refine List.ext_getElem hl fun j h1 h2=>?_;have:=hJ j (by omega)
   rwa [Qf h1,Qf h2] at this
theorem Q6h {KK:Kind}{V:Type}(hk:∀ a b:KK.T,gq.keq KK a b=true<->a=b) (k:KK.T) (v:V) (e:KK.T) (d:V):∀ m:List (KK.T×V),(e=k->gq.aget KK (CA KK m k v) e d=v/\gq.ahas KK (CA KK m k v) e=true)/\(e≠k->gq.aget KK (CA KK m k v) e d=gq.aget KK m e d/\gq.ahas KK (CA KK m k v) e=gq.ahas KK m e)
 |[]=>by
  refine⟨fun h=>?_,fun h=>?_⟩
  .subst h;have:=(hk e e).2 rfl;exact⟨by show (if gq.keq KK e e=true then v else d)=v;rw[if_pos this],by show (gq.keq KK e e||false)=true;rw[this];rfl⟩
  .have:gq.keq KK e k=false:=by
    cases h2:gq.keq KK e k with
    |false=>rfl
    |true=>exact(h ((hk e k).1 h2)).elim
   exact⟨by show (if gq.keq KK e k=true then v else d)=d;rw[this,if_neg (by decide)],by show (gq.keq KK e k||false)=false;rw[this];rfl⟩
 |(a,b)::m=>by
  obtain⟨i1,i2⟩:=Q6h hk k v e d m;have eP:CA KK ((a,b)::m) k v=if gq.keq KK k a=true then (k,v)::m else (a,b)::CA KK m k v:=rfl
  have eG:∀ (a:KK.T) (b:V) m,gq.aget KK ((a,b)::m) e d=if gq.keq KK e a=true then b else gq.aget KK m e d:=fun _ _ _=>rfl
  have eH:∀ (a:KK.T) (b:V) m,gq.ahas KK ((a,b)::m) e=(gq.keq KK e a||gq.ahas KK m e):=fun _ _ _=>rfl;rw[eP];by_cases c:gq.keq KK k a=true
  .have ca:=(hk k a).1 c;rw[if_pos c];refine⟨fun h=>?_,fun h=>?_⟩
   .subst h;have:=(hk e e).2 rfl;rw[eG,eH,this,if_pos rfl];exact⟨rfl,rfl⟩
   .have:gq.keq KK e k=false:=by
     cases h2:gq.keq KK e k with
     |false=>rfl
     |true=>exact(h ((hk e k).1 h2)).elim
    rw[eG,eH,eG,eH,<-ca,this];exact⟨rfl,rfl⟩
  .rw[if_neg c];refine⟨fun h=>?_,fun h=>?_⟩
   .have:gq.keq KK e a=false:=by
     cases h2:gq.keq KK e a with
     |false=>rfl
     |true=>rw[h] at h2;exact(c h2).elim
    rw[eG,eH,this,if_neg (by decide)];obtain⟨j1,j2⟩:=i1 h;exact⟨j1,by rw[j2];rfl⟩
   .obtain⟨j1,j2⟩:=i2 h;rw[eG,eH,eG,eH,j1,j2];exact⟨rfl,rfl⟩
def nxL (len:Nat) (lt b:Bool):Nat:=if b=lt then len+1 else 1
def nxF (len fi:Nat) (lt b:Bool):Nat:=if b=lt then fi else if fi=0 then len else fi
def QG (row fx k:Nat) (b:Bool):Int:=if row.testBit k=b then 0 else if fx.testBit k=true then 1048576 else 1
def Q8c (B:Nat) (top:Bool) (len fi:Nat) (lt:Bool):Int:=if (fi=0\/(lt=top/\B<len+fi)) then 1048576 else 0
def brV (B len:Nat) (lt:Bool) (Q82 c:Int) (b:Bool):Int:=if nxL len lt b<=B then FC Q82 c else Q82
def Qe (row fx B:Nat) (top:Bool):Nat->Nat->Nat->Bool->Int
 |0,len,fi,lt=>Q8c B top len fi lt
 |k+1,len,fi,lt=>brV B len lt (brV B len lt 1048576 (QG row fx k false+Qe row fx B top k (nxL len lt false) (nxF len fi lt false) false) false) (QG row fx k true+Qe row fx B top k (nxL len lt true) (nxF len fi lt true) true) true
def Dc (row fx B:Nat) (top:Bool) (f:Nat->Bool):Nat->Nat->Nat->Bool->Int
 |0,len,fi,lt=>Q8c B top len fi lt
 |k+1,len,fi,lt=>if nxL len lt (f k)<=B then QG row fx k (f k)+Dc row fx B top f k (nxL len lt (f k)) (nxF len fi lt (f k)) (f k) else 1048576
theorem W3 (a b:Int):FC a b=min a b:=by unfold FC;split<;>omega
theorem JP (row fx k:Nat) (b:Bool):0<=QG row fx k b/\QG row fx k b<=1048576:=by unfold QG;split;omega;split<;>omega
theorem Yb (row fx B:Nat) (top:Bool):∀ k len fi lt,0<=Qe row fx B top k len fi lt/\Qe row fx B top k len fi lt<=1048576
 |0,len,fi,lt=>by unfold Qe Q8c;split<;>omega
 |k+1,len,fi,lt=>by have h1:=Yb row fx B top k (nxL len lt false) (nxF len fi lt false) false;have h2:=Yb row fx B top k (nxL len lt true) (nxF len fi lt true) true;have c1:=JP row fx k false;have c2:=JP row fx k true;unfold Qe brV;simp only[W3];split<;>split<;>omega
theorem M0 {row fx B:Nat}{top:Bool}{f g:Nat->Bool}:∀ k len fi lt,(∀ j,j<k->f j=g j)->Dc row fx B top f k len fi lt=Dc row fx B top g k len fi lt
 |0,_,_,_,_=>rfl
 |k+1,len,fi,lt,h=>by unfold Dc;rw[h k (by omega),M0 k _ _ _ fun j hj=>h j (by omega)]
theorem BL (row fx B:Nat) (top:Bool) (k len fi:Nat) (lt:Bool):(∀ b,nxL len lt b<=B->Qe row fx B top (k+1) len fi lt<=QG row fx k b+Qe row fx B top k (nxL len lt b) (nxF len fi lt b) b) /\
  (Qe row fx B top (k+1) len fi lt<1048576->∃ b,nxL len lt b<=B/\Qe row fx B top (k+1) len fi lt=QG row fx k b+Qe row fx B top k (nxL len lt b) (nxF len fi lt b) b):=by
 rw[Qe];unfold brV;simp only[W3];refine⟨fun b hb=>?_,fun h=>?_⟩
 .cases b<;>rw[if_pos hb]<;>(try split)<;>omega
 .by_cases h1:nxL len lt false<=B<;>by_cases h2:nxL len lt true<=B
  .rw[if_pos h1,if_pos h2] at h |-;rcases Int.le_total (min 1048576 (QG row fx k false+Qe row fx B top k (nxL len lt false) (nxF len fi lt false) false)) (QG row fx k true+Qe row fx B top k (nxL len lt true) (nxF len fi lt true) true) with c|c
   .exact⟨false,h1,by omega⟩
   .exact⟨true,h2,by omega⟩
  .rw[if_pos h1,if_neg h2] at h |-;exact⟨false,h1,by omega⟩
  .rw[if_neg h1,if_pos h2] at h |-;exact⟨true,h2,by omega⟩
  .rw[if_neg h1,if_neg h2] at h;omega
theorem SS (row fx B:Nat) (top:Bool) (f:Nat->Bool):∀ k len fi lt,Qe row fx B top k len fi lt<=Dc row fx B top f k len fi lt
 |0,_,_,_=>Int.le_refl _
 |k+1,len,fi,lt=>by
  unfold Dc;by_cases h:nxL len lt (f k)<=B
  .rw[if_pos h];have h1:=(BL row fx B top k len fi lt).1 (f k) h;have h2:=SS row fx B top f k (nxL len lt (f k)) (nxF len fi lt (f k)) (f k);omega
  .rw[if_neg h];exact(Yb ..).2
def pkB (row fx B:Nat) (top:Bool) (k len fi:Nat) (lt:Bool):Bool:=!(decide (nxL len lt false<=B)&&decide (QG row fx k false+Qe row fx B top k (nxL len lt false) (nxF len fi lt false) false=Qe row fx B top (k+1) len fi lt))
theorem Q3f {row fx B:Nat}{top:Bool}{k len fi:Nat}{lt:Bool}(h:Qe row fx B top (k+1) len fi lt<1048576):nxL len lt (pkB row fx B top k len fi lt)<=B/\Qe row fx B top (k+1) len fi lt=QG row fx k (pkB row fx B top k len fi lt)+Qe row fx B top k (nxL len lt (pkB row fx B top k len fi lt)) (nxF len fi lt (pkB row fx B top k len fi lt)) (pkB row fx B top k len fi lt):=by
 obtain⟨b,h1,h2⟩:=(BL row fx B top k len fi lt).2 h;cases hp:pkB row fx B top k len fi lt with
 |false =>unfold pkB at hp;simp only[Bool.not_eq_false',Bool.and_eq_true,decide_eq_true_eq] at hp;exact⟨hp.1,hp.2.symm⟩
 |true =>
  cases b with
  |true=>exact⟨h1,h2⟩
  |false =>exfalso;unfold pkB at hp;rw[decide_eq_true h1,decide_eq_true h2.symm] at hp;cases hp
def A_ (row fx B:Nat) (top:Bool):Nat->Nat->Nat->Bool->Nat
 |0,_,_,_=>0
 |k+1,len,fi,lt=>(if pkB row fx B top k len fi lt=true then 2 ^ k else 0)+A_ row fx B top k (nxL len lt (pkB row fx B top k len fi lt)) (nxF len fi lt (pkB row fx B top k len fi lt)) (pkB row fx B top k len fi lt)
theorem Co (row fx B:Nat) (top:Bool):∀ k len fi lt,A_ row fx B top k len fi lt<2 ^ k
 |0,_,_,_=>by simp[A_]
 |k+1,len,fi,lt=>by unfold A_;have:=Co row fx B top k (nxL len lt (pkB row fx B top k len fi lt)) (nxF len fi lt (pkB row fx B top k len fi lt)) (pkB row fx B top k len fi lt);rw[Nat.pow_succ];split<;>omega
theorem Ip {k n:Nat}{b:Bool}(h:n<2 ^ k):((if b=true then 2 ^ k else 0)+n).testBit k=b/\∀ j,j<k->((if b=true then 2 ^ k else 0)+n).testBit j=n.testBit j:=by
 cases b with
 |false =>
  refine⟨?_,fun j hj=>?_⟩
  .rw[if_neg (by decide),Nat.zero_add,Nat.testBit_lt_two_pow h]
  .rw[if_neg (by decide),Nat.zero_add]
 |true =>
  rw[if_pos rfl];refine⟨?_,fun j hj=>?_⟩
  .rw[Nat.testBit_two_pow_add_eq,Nat.testBit_lt_two_pow h];rfl
  .rw[Nat.testBit_two_pow_add_gt hj]
theorem LL {row fx B:Nat}{top:Bool}:∀ k len fi lt,Qe row fx B top k len fi lt<1048576->Dc row fx B top (A_ row fx B top k len fi lt).testBit k len fi lt=Qe row fx B top k len fi lt
 |0,_,_,_,_=>rfl
 |k+1,len,fi,lt,h=>by
  obtain⟨h1,h2⟩:=Q3f h;rw[h2];unfold A_ Dc;generalize pkB row fx B top k len fi lt=b at *
  have hc:=JP row fx k b;have ih:=LL (row:=row) (fx:=fx) (B:=B) (top:=top) k (nxL len lt b) (nxF len fi lt b) b (by omega);have hl:=Co row fx B top k (nxL len lt b) (nxF len fi lt b) b;generalize A_ row fx B top k (nxL len lt b) (nxF len fi lt b) b=n at *
  obtain⟨t1,t2⟩:=Ip (b:=b) hl;rw[t1,if_pos h1,M0 k _ _ _ t2,ih]
def XD (row fx B H:Nat) (top:Bool):Int:=QG row fx (H-1) top+Qe row fx B top (H-1) 1 0 top
def M7 (row fx B H:Nat):Bool:=decide (XD row fx B H true<FC (XD row fx B H false) 1048576)
def Y6 (row fx B H:Nat):Int:=if M7 row fx B H=true then XD row fx B H true else FC (XD row fx B H false) 1048576
def VO (row fx B H:Nat):Nat:=if Y6 row fx B H<1048576 then (if M7 row fx B H=true then 2 ^ (H-1) else 0)+A_ row fx B (M7 row fx B H) (H-1) 1 0 (M7 row fx B H) else 0
def okW (H B:Nat) (f:Nat->Bool):Prop:=∀ k,k<H->∃ j,1<=j/\j<=B/\f ((k+j) % H)≠f k
def vP (B:Nat) (top:Bool) (f:Nat->Bool):Nat->Nat->Nat->Bool->Prop
 |0,len,fi,lt=>¬ (fi=0\/(lt=top/\B<len+fi))
 |k+1,len,fi,lt=>nxL len lt (f k)<=B/\vP B top f k (nxL len lt (f k)) (nxF len fi lt (f k)) (f k)
def cS (row fx:Nat) (f:Nat->Bool):Nat->Int
 |0=>0
 |k+1=>QG row fx k (f k)+cS row fx f k
theorem Q8o (row fx:Nat) (f:Nat->Bool):∀ k,0<=cS row fx f k
 |0=>Int.le_refl _
 |k+1=>by have:=Q8o row fx f k;have:=JP row fx k (f k);unfold cS;omega
theorem Th {row fx B:Nat}{top:Bool}{f:Nat->Bool}:∀ k len fi lt,(vP B top f k len fi lt->Dc row fx B top f k len fi lt=cS row fx f k)/\(¬ vP B top f k len fi lt->1048576<=Dc row fx B top f k len fi lt)
 |0,len,fi,lt=>by unfold vP Dc Q8c cS;refine⟨fun h=>if_neg h,fun h=>?_⟩;rw[if_pos (Decidable.not_not.1 h)];omega
 |k+1,len,fi,lt=>by
  obtain⟨h1,h2⟩:=Th (row:=row) (fx:=fx) (B:=B) (top:=top) (f:=f) k (nxL len lt (f k)) (nxF len fi lt (f k)) (f k);have hc:=JP row fx k (f k);unfold vP Dc cS;refine⟨fun ⟨a,b⟩=>?_,fun h=>?_⟩
  .rw[if_pos a,h1 b]
  .by_cases a:nxL len lt (f k)<=B
   .rw[if_pos a];have:=h2 fun b=>h ⟨a,b⟩;omega
   .rw[if_neg a];omega
def StB (H:Nat) (f:Nat->Bool) (k len fi:Nat):Prop:=1<=len/\k+len<=H/\(∀ j,j<len->f (k+j)=f k) /\
 (fi=0/\k+len=H\/1<=fi/\k+len+fi<=H/\f (k+len)≠f k/\(∀ j,j<fi->f (H-1-j)=f (H-1))/\f (H-1-fi)≠f (H-1))
theorem AI {H:Nat}{f:Nat->Bool}{k len fi:Nat}(h:StB H f (k+1) len fi):StB H f k (nxL len (f (k+1)) (f k)) (nxF len fi (f (k+1)) (f k)):=by
 obtain⟨h1,h2,h3,h4⟩:=h;unfold nxL nxF;by_cases e:f k=f (k+1)
 .rw[if_pos e,if_pos e];refine⟨by omega,by omega,fun j hj=>?_,?_⟩
  .cases j with
   |zero=>rfl
   |succ j =>have:=h3 j (by omega);rw[show k+(j+1)=k+1+j by omega,this,e]
  .rcases h4 with⟨a,b⟩|⟨a,b,c,d,g⟩
   .exact .inl ⟨a,by omega⟩
   .refine .inr ⟨a,by omega,?_,d,g⟩;rw[show k+(len+1)=k+1+len by omega,e];exact c
 .rw[if_neg e,if_neg e];refine⟨by omega,by omega,fun j hj=>by rw[show j=0 by omega];rfl,.inr ?_⟩;rcases h4 with⟨a,b⟩|⟨a,b,c,d,g⟩
  .rw[if_pos a];have ht:∀ j,j<len->f (H-1-j)=f (k+1):=fun j hj=>by
    have:=h3 (len-1-j) (by omega);rw[show H-1-j=k+1+(len-1-j) by omega];exact this
   have h0:f (H-1)=f (k+1):=by have:=ht 0 (by omega);simpa using this
   refine⟨h1,by omega,fun h=>e h.symm,fun j hj=>by rw[ht j hj,h0],?_⟩;rw[show H-1-len=k by omega,h0];exact e
  .rw[if_neg (by omega)];exact⟨a,by omega,fun h=>e h.symm,d,g⟩
theorem Q4m {H B:Nat}{f:Nat->Bool}(hB:1<=B):∀ k len fi,StB H f k len fi->len<=B->vP B (f (H-1)) f k len fi (f k)->(∀ i,k<=i->i+B<H->∃ j,1<=j/\j<=B/\f (i+j)≠f i)->okW H B f
 |0,len,fi,hs,hl,hv,hw=>by
  obtain⟨h1,h2,h3,h4⟩:=hs;unfold vP at hv;rcases h4 with⟨a,b⟩|⟨a,b,c,d,g⟩
  .exact(hv (.inl a)).elim
  intro i hi;by_cases e:i+B<H
  .obtain⟨j,j1,j2,j3⟩:=hw i (by omega) e;exact⟨j,j1,j2,by rw[Nat.mod_eq_of_lt (by omega)];exact j3⟩
  .apply Classical.byContradiction;intro hn;have hall:∀ j,1<=j->j<=B->f ((i+j) % H)=f i:=fun j j1 j2=>Classical.byContradiction fun h=>hn ⟨j,j1,j2,h⟩;have et:f (H-1)=f i:=by
    by_cases e2:i=H-1
    .rw[<-e2]
    .have:=hall (H-1-i) (by omega) (by omega);rw[Nat.mod_eq_of_lt (by omega),show i+(H-1-i)=H-1 by omega] at this;exact this
   have e0:f 0=f i:=by have:=hall (H-i) (by omega) (by omega);rw[show i+(H-i)=H by omega,Nat.mod_self] at this;exact this
   have hle:len+fi<=B:=by apply Classical.byContradiction;intro h;exact hv (.inr ⟨by rw[e0,et],by omega⟩)
   have j7:H<=i+fi:=by
    apply Classical.byContradiction;intro h;by_cases e2:i=H-1-fi
    .rw[<-e2,et] at g;exact g rfl
    .have:=hall (H-1-fi-i) (by omega) (by omega);rw[Nat.mod_eq_of_lt (by omega),show i+(H-1-fi-i)=H-1-fi by omega] at this;exact g (by rw[this,et])
   have:=hall (H-i+len) (by omega) (by omega);rw[show i+(H-i+len)=len+H by omega,Nat.add_mod_right,Nat.mod_eq_of_lt (by omega)] at this;rw[Nat.zero_add] at c;exact c (by rw[this,e0])
 |k+1,len,fi,hs,hl,hv,hw=>by
  unfold vP at hv;have aX:=AI hs;refine Q4m hB k _ _ aX hv.1 hv.2 fun i hi l6=>?_;by_cases e:i=k
  .subst e;obtain⟨h1,h2,h3,h4⟩:=aX;have pI:=hv.1;generalize nxL len (f (i+1)) (f i)=mc at *
   rcases h4 with⟨a,b⟩|⟨a,b,c,d,g⟩
   .omega
   .exact⟨mc,h1,pI,c⟩
  .exact hw i (by omega) l6
theorem Q38 {H B:Nat}{f:Nat->Bool}(ho:okW H B f):∀ k len fi,StB H f k len fi->vP B (f (H-1)) f k len fi (f k)
 |0,len,fi,hs=>by
  obtain⟨h1,h2,h3,h4⟩:=hs;unfold vP;rcases h4 with⟨a,b⟩|⟨a,b,c,d,g⟩
  .exfalso;obtain⟨j,j1,j2,j3⟩:=ho 0 (by omega);have hm:=Nat.mod_lt (0+j) (show 0<H by omega);have:=h3 ((0+j) % H) (by omega);rw[Nat.zero_add] at this;exact j3 this
  .rintro (h|⟨h,h5⟩)
   .omega
   .obtain⟨j,j1,j2,j3⟩:=ho (H-fi) (by omega);have ht:f (H-fi)=f (H-1):=by
     have:=d (fi-1) (by omega);rw[show H-1-(fi-1)=H-fi by omega] at this;exact this
    by_cases e:j<fi
    .rw[Nat.mod_eq_of_lt (by omega),ht] at j3;have:=d (fi-1-j) (by omega);rw[show H-1-(fi-1-j)=H-fi+j by omega] at this;exact j3 this
    .have e2:(H-fi+j) % H=j-fi:=by
      rw[show H-fi+j=(j-fi)+H by omega,Nat.add_mod_right,Nat.mod_eq_of_lt (by omega)]
     rw[e2,ht] at j3;have:=h3 (j-fi) (by omega);rw[Nat.zero_add] at this;exact j3 (by rw[this,h])
 |k+1,len,fi,hs=>by
  have aX:=AI hs;unfold vP;refine⟨?_,Q38 ho k _ _ aX⟩;obtain⟨h1,h2,h3,-⟩:=aX;generalize nxL len (f (k+1)) (f k)=mc at *
  apply Classical.byContradiction;intro hn;obtain⟨j,j1,j2,j3⟩:=ho k (by omega);rw[Nat.mod_eq_of_lt (by omega)] at j3;exact j3 (h3 j (by omega))
theorem Q9g {H B:Nat}{f:Nat->Bool}(hH:1<=H) (hB:1<=B):vP B (f (H-1)) f (H-1) 1 0 (f (H-1))<->okW H B f:=by have hs:StB H f (H-1) 1 0:=⟨Nat.le_refl _,by omega,fun j hj=>by rw[show j=0 by omega];rfl,.inl ⟨rfl,by omega⟩⟩;exact⟨fun h=>Q4m hB _ _ _ hs hB h fun i hi gK=>by omega,fun h=>Q38 h _ _ _ hs⟩
def Q1x (row fx B H:Nat) (f:Nat->Bool):Int:=QG row fx (H-1) (f (H-1))+Dc row fx B (f (H-1)) f (H-1) 1 0 (f (H-1))
theorem Q36 {row fx B H:Nat}{f:Nat->Bool}(hH:1<=H) (hB:1<=B):(okW H B f->Q1x row fx B H f=cS row fx f H)/\(¬ okW H B f->1048576<=Q1x row fx B H f):=by obtain⟨h1,h2⟩:=Th (row:=row) (fx:=fx) (B:=B) (top:=f (H-1)) (f:=f) (H-1) 1 0 (f (H-1));rw[Q9g hH hB] at h1 h2;have hc:=JP row fx (H-1) (f (H-1));unfold Q1x;refine⟨fun h=>?_,fun h=>by have:=h2 h;omega⟩;rw[h1 h];obtain⟨m,rfl⟩:∃ m,H=m+1:=⟨H-1,by omega⟩;rfl
theorem Q5e {row fx B H:Nat}(f:Nat->Bool):Y6 row fx B H<=Q1x row fx B H f\/1048576<=Q1x row fx B H f:=by
 have h1:=SS row fx B (f (H-1)) f (H-1) 1 0 (f (H-1));have hs:XD row fx B H (f (H-1))<=Q1x row fx B H f:=by unfold XD Q1x;omega
 unfold Y6 M7;rw[W3];by_cases c:XD row fx B H true<min (XD row fx B H false) 1048576
 .rw[decide_eq_true c,if_pos rfl];cases hf:f (H-1) with
  |true=>rw[hf] at hs;exact .inl hs
  |false=>rw[hf] at hs;left;omega
 .rw[decide_eq_false c,if_neg (by decide)];cases hf:f (H-1) with
  |true=>rw[hf] at hs;omega
  |false=>rw[hf] at hs;left;omega
theorem Q2m {row fx B H:Nat}(hH:1<=H) (h:Y6 row fx B H<1048576):VO row fx B H<2 ^ H/\Q1x row fx B H (VO row fx B H).testBit=Y6 row fx B H:=by
 have bJ:Y6 row fx B H=XD row fx B H (M7 row fx B H):=by
  unfold Y6 at h |-;cases ht:M7 row fx B H with
  |true=>rw[if_pos rfl]
  |false =>rw[ht,if_neg (by decide),W3] at h;rw[if_neg (by decide),W3];omega
 unfold VO;rw[if_pos h];rw[bJ] at h |-;generalize M7 row fx B H=b at *
 have hl:=Co row fx B b (H-1) 1 0 b;have hc:=JP row fx (H-1) b;have hp:=LL (row:=row) (fx:=fx) (B:=B) (top:=b) (H-1) 1 0 b (by unfold XD at h;omega);obtain⟨t1,t2⟩:=Ip (b:=b) hl;refine⟨?_,?_⟩
 .obtain⟨m,rfl⟩:∃ m,H=m+1:=⟨H-1,by omega⟩;rw[Nat.add_sub_cancel] at hl |-;rw[Nat.pow_succ];split<;>omega
 .unfold Q1x XD;rw[t1,M0 (H-1) _ _ _ t2,hp]
theorem IZ {row fx:Nat}{f:Nat->Bool}:∀ k,(cS row fx f k<1048576->∀ j,j<k->fx.testBit j=true->f j=row.testBit j)/\((∀ j,j<k->fx.testBit j=true->f j=row.testBit j)->cS row fx f k<=k)
 |0=>⟨fun _ j hj=>by omega,fun _=>by simp[cS]⟩
 |k+1=>by
  obtain⟨h1,h2⟩:=IZ (row:=row) (fx:=fx) (f:=f) k;have hn:=Q8o row fx f k;have hc:=JP row fx k (f k);refine⟨fun h j hj hx=>?_,fun h=>?_⟩
  .unfold cS at h;by_cases e:j=k
   .subst e;unfold QG at h;by_cases c:row.testBit j=f j
    .exact c.symm
    .rw[if_neg c,if_pos hx] at h;omega
   .exact h1 (by omega) j (by omega) hx
  .have:=h2 fun j hj=>h j (by omega);unfold cS QG;by_cases c:row.testBit k=f k
   .rw[if_pos c];omega
   .rw[if_neg c,if_neg (fun hx=>c (h k (by omega) hx).symm)];omega
theorem Ir {row fx B H:Nat}(hH:1<=H/\H<=24) (hB:1<=B) (h:Y6 row fx B H<1048576):VO row fx B H<2 ^ H/\okW H B (VO row fx B H).testBit/\(∀ j,j<H->fx.testBit j=true->(VO row fx B H).testBit j=row.testBit j)/\Y6 row fx B H=cS row fx (VO row fx B H).testBit H:=by
 obtain⟨h1,h2⟩:=Q2m hH.1 h;obtain⟨t1,t2⟩:=Q36 (row:=row) (fx:=fx) (f:=(VO row fx B H).testBit) hH.1 hB;have ho:okW H B (VO row fx B H).testBit:=Classical.byContradiction fun hn=>by have:=t2 hn;omega
 have e:=t1 ho;refine⟨h1,ho,(IZ H).1 (by omega),by omega⟩
theorem bind_none {row fx B H:Nat}(hH:1<=H/\H<=24) (hB:1<=B) {f:Nat->Bool}(ho:okW H B f) (hf:∀ j,j<H->fx.testBit j=true->f j=row.testBit j):Y6 row fx B H<1048576:=by have e:=(Q36 (row:=row) (fx:=fx) (f:=f) hH.1 hB).1 ho;have hc:=(IZ (row:=row) (fx:=fx) (f:=f) H).2 hf;rcases Q5e (row:=row) (fx:=fx) (B:=B) (H:=H) f with h|h<;>omega
def NR (ln:Int) (lt b:Bool):Int:=if b=lt then ln+1 else 1
def Pc (ln fi:Int) (lt b:Bool):Int:=if b=lt then fi else if fi=0 then ln else fi
theorem Ec (n:Nat) (lt b:Bool):NR (n:Int) lt b=((nxL n lt b:Nat):Int):=by unfold NR nxL;split<;>simp
theorem Ej (n m:Nat) (lt b:Bool):Pc (n:Int) (m:Int) lt b=((nxF n m lt b:Nat):Int):=by
 unfold Pc nxF;split
 .rfl
 .by_cases h:m=0
  .rw[if_pos (by omega),if_pos h]
  .rw[if_neg (by omega),if_neg h]
theorem Q0e {n B:Nat}{lt b:Bool}(h:1<=n):1<=nxL n lt b/\nxL n lt b<=n+1:=by unfold nxL;split<;>omega
theorem IH {n m B:Nat}{lt b:Bool}(h:n<=B) (h2:m<=B):nxF n m lt b<=B:=by unfold nxF;split;exact h2;split<;>omega
abbrev BKk:Kind:=.pair (.i .i64) (.pair (.i .i64) (.pair (.i .i64) .bo))
def PR (rw fx bd:Int) (tp:Bool) (m:List ((Int×Int×Int×Bool)×Int)):Prop:=∀ k:Int×Int×Int×Bool,gq.ahas BKk m k=true->gq.aget BKk m k 0=Qe rw.toNat fx.toNat bd.toNat tp k.1.toNat k.2.1.toNat k.2.2.1.toNat k.2.2.2
def EH (hd:Int) (rows aw:List Int) (bd:Int) (k:Nat):Int:=Y6 (rows.getD k 0).toNat (aw.getD k 0).toNat bd.toNat hd.toNat
def Z0t (hd:Int) (rows aw:List Int) (bd:Int) (k:Nat):Int:=((VO (rows.getD k 0).toNat (aw.getD k 0).toNat bd.toNat hd.toNat:Nat):Int)
def Dr (hd:Int) (rows aw:List Int) (bd:Int):Bool:=(List.range rows.length).any fun k=>decide (1048576<=EH hd rows aw bd k)
def Qc (hd:Int) (rows aw:List Int) (bd:Int):Int:=if Qg hd rows≠0 then Qg hd rows else if aw.length≠rows.length then 4 else if (aw.any fun n=>!inI n 0 (2 ^ hd.toNat-1))=true then 2 else if inI bd 1 24=false then 3 else if Dr hd rows aw bd=true then 9 else 0
def D5 (hd:Int) (rows aw:List Int) (bd:Int) (n:Nat):List Int:=(List.range n).map (Z0t hd rows aw bd)
def Gx (hd:Int) (rows aw:List Int) (bd:Int):Nat->Int
 |0=>0
 |n+1=>Gx hd rows aw bd n+EH hd rows aw bd n
def JE (hd:Int) (rows aw:List Int) (bd:Int):List Int:=if Qc hd rows aw bd=0 then D5 hd rows aw bd rows.length else []
def Ig (hd:Int) (rows aw:List Int) (bd:Int):Int:=if Qc hd rows aw bd=0 then Gx hd rows aw bd rows.length else 0
theorem I3 (hd:Int) (rows aw:List Int) (bd:Int) (n:Nat):D5 hd rows aw bd (n+1)=D5 hd rows aw bd n++[Z0t hd rows aw bd n]:=by simp[D5,List.range_succ]
theorem IJ (hd:Int) (rows aw:List Int) (bd:Int) (n:Nat):(D5 hd rows aw bd n).length=n:=by simp[D5]
theorem Z0r (a b:BKk.T):gq.keq BKk a b=true<->a=b:=by obtain⟨a1,a2,a3,a4⟩:=a;obtain⟨b1,b2,b3,b4⟩:=b;show ((a1==b1)&&((a2==b2)&&((a3==b3)&&(a4==b4))))=true<->_;simp only[Bool.and_eq_true,beq_iff_eq,Prod.mk.injEq]
theorem Ry (rw_ fx bd:Int) (tp:Bool):PR rw_ fx bd tp []:=fun k h=>by cases h
theorem Q1i {rw_ fx bd:Int}{tp:Bool}{m:List ((Int×Int×Int×Bool)×Int)}{k:Int×Int×Int×Bool}{v:Int}(h:PR rw_ fx bd tp m) (hv:v=Qe rw_.toNat fx.toNat bd.toNat tp k.1.toNat k.2.1.toNat k.2.2.1.toNat k.2.2.2):PR rw_ fx bd tp (CA BKk m k v):=fun e he=>by
 obtain⟨h1,h2⟩:=Q6h Z0r k v e (0:Int) m;by_cases c:e=k
 .rw[(h1 c).1,c];exact hv
 .rw[(h2 c).2] at he;rw[(h2 c).1];exact h e he
theorem Z3y {hd:Int}{rows:List Int}(h:Qg hd rows=0):1<=hd/\hd<=24/\rows.length<=60/\rows.length≠0/\∀ x∈rows,0<=x/\x<2 ^ hd.toNat:=by
 unfold Qg at h;split at h
 .cases h
 .rename_i h1;split at h
  .cases h
  .rename_i h2;split at h
   .cases h
   .rename_i h3;split at h
    .cases h
    .rename_i h4;have h1:1<=hd/\hd<=24:=by simpa [inI] using h1
     refine⟨h1.1,h1.2,by omega,h3,fun x hx=>?_⟩;have h5:∀ x∈rows,inI x 0 (2 ^ hd.toNat-1)=true:=by simpa using h4
     have:=h5 x hx;simp only[inI,Bool.and_eq_true,decide_eq_true_eq] at this;omega
def V2:AL (Int×Int×Int):=(.cons (.k (.i .i64)) (.cons (.ptr (.one (.k (.i .i64)))) (.one (.ptr (.one (.k (.i .i64)))))))
def Gv (d:Int×Int×Int):Prop:=True
def YZ (d:Int×Int×Int):SV:=.val .bo (decide (d.1<d.2.1)||decide (d.2.2<d.1))
def YP (d:Int×Int×Int):List OB:=[]
def Wy:CSp:=WZ V2 Gv YZ YP
def XR (n:Int) (a:Int) (b:Int):Prop :=
 (((decide (n<a))||(decide (n > b)))=(decide (n<a)||decide (b<n))/\(True))
def Kw:Cx:=⟨[],[],13,[],0,[],[],[],[],false,[],[],[],[]⟩
def GX (n:Int) (a:Int) (b:Int):List (Nat×LoopAnn):=[]
theorem GU (d:Int×Int×Int):gwp (Kw) (GX d.1 d.2.1 d.2.2) c75 0 (Kn [.tmp 4] (YZ d) (YP d)) (Qx 13 (AL.can V2 d))=XR d.1 d.2.1 d.2.2:=by kernel_rfl
abbrev GQ:Prop:=OkC Tryz.prog 75 Wy
theorem GR (h:∀ (n:Int) (a:Int) (b:Int),(True)->XR n a b):OkC Tryz.prog 75 Wy :=
 QH Q7e mixed (C:=Kw) (V:=fun (d:Int×Int×Int)=>XR d.1 d.2.1 d.2.2) ⟨.nil,XsOk.nil,ItsOk.nil,YlOk.nil,IysOk.nil,XfOk.nil⟩ (GU) fun d hp=>h d.1 d.2.1 d.2.2 hp
theorem Da:GQ:=GR fun n a b _=>by exact⟨rfl,trivial⟩
def Uv:AL (Int×Int×List Int):=(.cons (.k (.i .i64)) (.cons (.k (.i .i64)) (.one (.k (.list (.i .i64))))))
def DS (d:Int×Int×List Int):Prop:=d.2.2.length<=1000000
def VF (d:Int×Int×List Int):SV:=.val .bo (!(d.2.2.any fun n=>decide (n<d.1)||decide (d.2.1<n)))
def VE (d:Int×Int×List Int):List OB:=[]
def X_:CSp:=WZ Uv DS VF VE
def Yi (a:Int) (b:Int) (l:List Int):Prop :=
 (l.length<=1000000/\∀ x∈l,(fun (x1:Int)=>True) x)/\((!(l.any (fun (x1:Int)=>(decide (x1<a)||decide (b<x1)))))=(!(l.any fun n=>decide (n<a)||decide (b<n)))/\(True))
def UC:Cx:=⟨[],[(63,Qy),(75,Wy)],11,[],0,[],[],[],[],false,[],[],[],[]⟩
def BE (a:Int) (b:Int) (l:List Int):List (Nat×LoopAnn):=[]
theorem HS (d:Int×Int×List Int):gwp (UC) (BE d.1 d.2.1 d.2.2) c52 0 (Kn [.tmp 6] (VF d) (VE d)) (Qx 11 (AL.can Uv d))=Yi d.1 d.2.1 d.2.2:=by kernel_rfl
abbrev P5:Prop:=OkC Tryz.prog 52 X_
theorem HZ (h:∀ (a:Int) (b:Int) (l:List Int),(l.length<=1000000)->Yi a b l):OkC Tryz.prog 52 X_ :=
 QH Q5a mixed (C:=UC) (V:=fun (d:Int×Int×List Int)=>Yi d.1 d.2.1 d.2.2) ⟨(.cons ZJ (.cons Da .nil)),XsOk.nil,ItsOk.nil,YlOk.nil,IysOk.nil,XfOk.nil⟩ (HS) fun d hp=>h d.1 d.2.1 d.2.2 hp
theorem Us:P5:=HZ fun a b l h=>by exact⟨⟨h,fun _ _=>trivial⟩,rfl,trivial⟩
def Nu:AL (Int×List Int):=(.one (.agg (.cons (.k (.i .i64)) (.one (.k (.list (.i .i64)))))))
def HT (d:Int×List Int):Prop:=d.2.length<=1000000
def Uw (d:Int×List Int):SV:=.val (.i .i64) (Qg d.1 d.2)
def U1 (d:Int×List Int):List OB:=[]
def WW:CSp:=WZ Nu HT Uw U1
def XZ (hd:Int) (rows:List Int):Prop :=
 ([hd].length<=1000000)/\((!(!([hd].any fun n=>decide (n<(1:Int))||decide ((24:Int)<n))))=true ->
  ((2:Int)=(Qg hd rows)/\(True))) /\
 ((!(!([hd].any fun n=>decide (n<(1:Int))||decide ((24:Int)<n))))=false ->
  ((decide ((lI rows) > (60:Int)))=true ->
   ((5:Int)=(Qg hd rows)/\(True))) /\
  ((decide ((lI rows) > (60:Int)))=false ->
   (((lI rows)==(0:Int))=true ->
    ((7:Int)=(Qg hd rows)/\(True))) /\
   (((lI rows)==(0:Int))=false ->
    (0<=hd)/\(I64 (UI .i64 (1:Int) hd))/\(I64 ((UI .i64 (1:Int) hd)-(1:Int)))/\(rows.length<=1000000)/\((!(!(rows.any fun n=>decide (n<(0:Int))||decide (((UI .i64 (1:Int) hd)-(1:Int))<n))))=true ->
     ((2:Int)=(Qg hd rows)/\(True))) /\
    ((!(!(rows.any fun n=>decide (n<(0:Int))||decide (((UI .i64 (1:Int) hd)-(1:Int))<n))))=false ->
     ((0:Int)=(Qg hd rows)/\(True))))))
def NP:Cx:=⟨[(3,(.i .i64))],[(52,X_)],28,[],0,[],[],[],[],false,[],[],[],[]⟩
def PS (hd:Int) (rows:List Int):List (Nat×LoopAnn):=[]
theorem Pv (d:Int×List Int):gwp (NP) (PS d.1 d.2) c47 0 (Kn [.tmp 2] (Uw d) (U1 d)) (Qx 28 (AL.can Nu d))=XZ d.1 d.2:=by kernel_rfl
abbrev Pz:Prop:=OkC Tryz.prog 47 WW
theorem Pq (h:∀ (hd:Int) (rows:List Int),(rows.length<=1000000)->XZ hd rows):OkC Tryz.prog 47 WW :=
 QH Q60 mixed (C:=NP) (V:=fun (d:Int×List Int)=>XZ d.1 d.2) ⟨(.cons Us .nil),XsOk.nil,ItsOk.nil,YlOk.nil,IysOk.nil,XfOk.nil⟩ (Pv) fun d hp=>h d.1 d.2 hp
theorem BG {h:Int}(h1:0<=h) (h2:h<=62):UI .i64 1 h=2 ^ h.toNat:=by obtain⟨n,rfl⟩:=Int.eq_ofNat_of_zero_le h1;have:Nat.min n 64=n:=Nat.min_eq_left (by omega);simp only[UI,Int.toNat_natCast,IntKind.bits,this,Int.one_mul]
theorem YG {h:Int}(h1:1<=h) (h2:h<=24):(2:Int)<=2 ^ h.toNat/\(2:Int) ^ h.toNat<=16777216:=by
 obtain⟨n,rfl⟩:=Int.eq_ofNat_of_zero_le (show 0<=h by omega);have a1:2 ^ 1<=2 ^ n:=Nat.pow_le_pow_right (by omega) (by omega);have a2:2 ^ n<=2 ^ 24:=Nat.pow_le_pow_right (by omega) (by omega);simp only[Int.toNat_natCast];have e:((2:Int) ^ n)=((2 ^ n:Nat):Int):=by norm_cast
 rw[e];omega
theorem Nt:Pz:=Pq fun hd rows hl=>by
 unfold XZ;(try delta lI gD sT I64 Q1 pj8 pj4);simp only[and_true,decide_eq_true_eq,decide_eq_false_iff_not,beq_iff_eq,ne_eq,beq_eq_false_iff_ne,gt_iff_lt,Bool.not_not];simp only[<-nI];refine⟨by simp,fun h1=>by simp at h1;simp[Qg,h1],fun h1=>⟨fun h2=>?_,fun h2=>⟨fun h3=>?_,fun h3=>?_⟩⟩⟩;all_goals simp only[List.any_cons,List.any_nil,Bool.or_false,Bool.not_eq_false'] at h1
 .have:60<rows.length:=by omega
  simp[Qg,h1,this]
 .have h3:rows.length=0:=by omega
  simp[Qg,h1,h3]
 have ib:¬ 60<rows.length:=by omega
 have ic:¬ rows.length=0:=by omega
 have hi:1<=hd/\hd<=24:=by simpa [inI] using h1
 have hp:=YG hi.1 hi.2;have rF:Qg hd rows=if rows.any (fun x=>!inI x 0 (2 ^ hd.toNat-1)) then 2 else 0:=by simp only[Qg,h1,ib,ic];simp
 rw[rF];simp only[Q7,BG (show 0<=hd by omega) (by omega)];refine⟨by omega,by omega,by omega,by omega,fun h=>by rw[if_pos h],fun h=>by rw[h];rfl⟩
theorem AF {x h:Int}(hx:0<=x/\x<16777216) (h0:0<=h/\h<=24):((ZG .and .i64 (N3 .i64 x h) 1)==1)=x.toNat.testBit h.toNat:=by
 obtain⟨n,rfl⟩:=Int.eq_ofNat_of_zero_le hx.1;obtain⟨i,rfl⟩:=Int.eq_ofNat_of_zero_le h0.1;have:Nat.min i 64=i:=Nat.min_eq_left (by omega);have e1:N3 .i64 (n:Int) i=((n >>> i:Nat):Int):=by simp only[N3,Int.toNat_natCast,IntKind.bits,this];rw[Nat.shiftRight_eq_div_pow,Int.fdiv_eq_ediv_of_nonneg _ (Int.le_of_lt (Int.pow_pos (by omega)))];norm_cast
 have h1:n >>> i<=n:=by rw[Nat.shiftRight_eq_div_pow];exact Nat.div_le_self _ _
 have e2:ZG .and .i64 ((n >>> i:Nat):Int) 1=(((n >>> i) &&& 1:Nat):Int):=by
  generalize n >>> i=y at *
  have e:(BitVec.ofInt 64 ((y:Nat):Int) &&& BitVec.ofInt 64 ((1:Nat):Int)).toNat=y &&& 1:=by
   rw[BitVec.toNat_and,BitVec.toNat_ofInt,BitVec.toNat_ofInt];congr 1
   .omega
  have hle:y &&& 1<=1:=Nat.and_le_right;show IntKind.wrap .i64 ((BitVec.ofInt 64 ((y:Nat):Int) &&& BitVec.ofInt 64 ((1:Nat):Int)).toNat:Int)=_;rw[e];generalize y &&& 1=c at *
  simp[IntKind.wrap,IntKind.bits,IntKind.signed];omega
 rw[e1,e2,Int.toNat_natCast,Int.toNat_natCast,Nat.testBit];rw[Bool.eq_iff_iff];simp only[beq_iff_eq,bne_iff_ne,ne_eq];rw[Nat.and_comm,Nat.one_and_eq_mod_two];omega
def WT:AL ((Int×Int×Unit×Unit×Unit×Unit)×Int×Bool):=(.cons (.ptr (.cons (.k (.i .i64)) (.cons (.k (.i .i64)) (.cons .any (.cons .any (.cons .any (.one .any))))))) (.cons (.k (.i .i64)) (.one (.k .bo))))
def Uq (d:(Int×Int×Unit×Unit×Unit×Unit)×Int×Bool):Prop:=(0<=d.1.1/\d.1.1<16777216)/\(0<=d.1.2.1/\d.1.2.1<16777216)/\0<=d.2.1/\d.2.1<=24
def Wa (d:(Int×Int×Unit×Unit×Unit×Unit)×Int×Bool):SV:=.val (.i .i64) (QG d.1.1.toNat d.1.2.1.toNat d.2.1.toNat d.2.2)
def W4 (d:(Int×Int×Unit×Unit×Unit×Unit)×Int×Bool):List OB:=[]
def ZN:CSp:=WZ WT Uq Wa W4
def Zq (rw:Int) (fx:Int) (h:Int) (lt:Bool):Prop :=
 (0<=h)/\((((ZG .and .i64 (N3 .i64 rw h) (1:Int))==(1:Int))==lt)=true ->
  ((0:Int)=(QG rw.toNat fx.toNat h.toNat lt)/\(True))) /\
 ((((ZG .and .i64 (N3 .i64 rw h) (1:Int))==(1:Int))==lt)=false ->
  (0<=h)/\(((ZG .and .i64 (N3 .i64 fx h) (1:Int))==(1:Int))=true ->
   ((1048576:Int)=(QG rw.toNat fx.toNat h.toNat lt)/\(True))) /\
  (((ZG .and .i64 (N3 .i64 fx h) (1:Int))==(1:Int))=false ->
   ((1:Int)=(QG rw.toNat fx.toNat h.toNat lt)/\(True))))
def WG:Cx:=⟨[],[],29,[],0,[],[],[],[],false,[],[],[],[]⟩
def N4 (rw:Int) (fx:Int) (h:Int) (lt:Bool):List (Nat×LoopAnn):=[]
theorem Nl (d:(Int×Int×Unit×Unit×Unit×Unit)×Int×Bool):gwp (WG) (N4 d.1.1 d.1.2.1 d.2.1 d.2.2) c77 0 (Kn [.tmp 6] (Wa d) (W4 d)) (Qx 29 (AL.can WT d))=Zq d.1.1 d.1.2.1 d.2.1 d.2.2:=by kernel_rfl
abbrev Nf:Prop:=OkC Tryz.prog 77 ZN
theorem Nc (h:∀ (rw:Int) (fx:Int) (h:Int) (lt:Bool),((0<=rw/\rw<16777216)/\(0<=fx/\fx<16777216)/\0<=h/\h<=24)->Zq rw fx h lt):OkC Tryz.prog 77 ZN :=
 QH Q7d mixed (C:=WG) (V:=fun (d:(Int×Int×Unit×Unit×Unit×Unit)×Int×Bool)=>Zq d.1.1 d.1.2.1 d.2.1 d.2.2) ⟨.nil,XsOk.nil,ItsOk.nil,YlOk.nil,IysOk.nil,XfOk.nil⟩ (Nl) fun d hp=>h d.1.1 d.1.2.1 d.2.1 d.2.2 hp
theorem WI:Nf:=Nc fun rw_ fx h lt hp=>by
 obtain⟨h1,h2,h3,h4⟩:=hp;unfold Zq;(try delta lI gD sT I64 Q1 pj8 pj4);rw[AF h1 ⟨h3,h4⟩,AF h2 ⟨h3,h4⟩];unfold QG;refine⟨by omega,fun c=>?_,fun c=>⟨by omega,fun c2=>?_,fun c2=>?_⟩⟩
 .have c:=eq_of_beq c;rw[if_pos c];exact(by and_intros<;>first|rfl|trivial|simp)
 .rw[if_neg (by simpa using c),if_pos c2];exact(by and_intros<;>first|rfl|trivial|simp)
 .rw[if_neg (by simpa using c),if_neg (by rw[c2];decide)];exact(by and_intros<;>first|rfl|trivial|simp)
def WN:AL ((Unit×Unit×Unit×Int×Unit×Unit)×(Int×Int×Int×Bool)×Bool):=(.cons (.ptr (.cons .any (.cons .any (.cons .any (.cons (.k (.i .i64)) (.cons .any (.one .any))))))) (.cons (.agg (.cons (.k (.i .i64)) (.cons (.k (.i .i64)) (.cons (.k (.i .i64)) (.one (.k .bo)))))) (.one (.k .bo))))
def U9 (d:(Unit×Unit×Unit×Int×Unit×Unit)×(Int×Int×Int×Bool)×Bool):Prop:=(0<=d.2.1.1/\d.2.1.1<=24)/\(1<=d.2.1.2.1/\d.2.1.2.1<=24)/\(0<=d.2.1.2.2.1/\d.2.1.2.2.1<=24)
def Wd (d:(Unit×Unit×Unit×Int×Unit×Unit)×(Int×Int×Int×Bool)×Bool):SV:=.tup [.agg [.val (.i .i64) (d.2.1.1-1),.val (.i .i64) (NR d.2.1.2.1 d.2.1.2.2.2 d.2.2),.val (.i .i64) (Pc d.2.1.2.1 d.2.1.2.2.1 d.2.1.2.2.2 d.2.2),.val .bo d.2.2],.val .bo (decide (NR d.2.1.2.1 d.2.1.2.2.2 d.2.2<=d.1.2.2.2.1))]
def Wt (d:(Unit×Unit×Unit×Int×Unit×Unit)×(Int×Int×Int×Bool)×Bool):List OB:=[]
def ZR:CSp:=WZ WN U9 Wd Wt
def Zu (bd:Int) (lf:Int) (ln:Int) (fi:Int) (lt:Bool) (b:Bool):Prop :=
 (I64 (lf-(1:Int)))/\((b==lt)=true ->
  (I64 (ln+(1:Int)))/\((((lf-(1:Int))=(lf-1)/\(ln+(1:Int))=(NR ln lt b)/\fi=(Pc ln fi lt b)/\b=b/\(([]:List SV)=[]))/\(decide ((ln+(1:Int))<=bd))=(decide (NR ln lt b<=bd))/\(([]:List SV)=[]))/\(True))) /\
 ((b==lt)=false ->
  ((fi==(0:Int))=true ->
   ((((lf-(1:Int))=(lf-1)/\(1:Int)=(NR ln lt b)/\ln=(Pc ln fi lt b)/\b=b/\(([]:List SV)=[]))/\(decide ((1:Int)<=bd))=(decide (NR ln lt b<=bd))/\(([]:List SV)=[]))/\(True))) /\
  ((fi==(0:Int))=false ->
   ((((lf-(1:Int))=(lf-1)/\(1:Int)=(NR ln lt b)/\fi=(Pc ln fi lt b)/\b=b/\(([]:List SV)=[]))/\(decide ((1:Int)<=bd))=(decide (NR ln lt b<=bd))/\(([]:List SV)=[]))/\(True))))
def WL:Cx:=⟨[],[],40,[],0,[],[],[],[],false,[],[],[],[]⟩
def Ni (bd:Int) (lf:Int) (ln:Int) (fi:Int) (lt:Bool) (b:Bool):List (Nat×LoopAnn):=[]
theorem N8 (d:(Unit×Unit×Unit×Int×Unit×Unit)×(Int×Int×Int×Bool)×Bool):gwp (WL) (Ni d.1.2.2.2.1 d.2.1.1 d.2.1.2.1 d.2.1.2.2.1 d.2.1.2.2.2 d.2.2) c80 0 (Kn [.cell 6 true 4,.tmp 7] (Wd d) (Wt d)) (Qx 40 (AL.can WN d))=Zu d.1.2.2.2.1 d.2.1.1 d.2.1.2.1 d.2.1.2.2.1 d.2.1.2.2.2 d.2.2:=by kernel_rfl
abbrev Nj:Prop:=OkC Tryz.prog 80 ZR
theorem Nk (h:∀ (bd:Int) (lf:Int) (ln:Int) (fi:Int) (lt:Bool) (b:Bool),((0<=lf/\lf<=24)/\(1<=ln/\ln<=24)/\(0<=fi/\fi<=24))->Zu bd lf ln fi lt b):OkC Tryz.prog 80 ZR :=
 QH Q5y mixed (C:=WL) (V:=fun (d:(Unit×Unit×Unit×Int×Unit×Unit)×(Int×Int×Int×Bool)×Bool)=>Zu d.1.2.2.2.1 d.2.1.1 d.2.1.2.1 d.2.1.2.2.1 d.2.1.2.2.2 d.2.2) ⟨.nil,XsOk.nil,ItsOk.nil,YlOk.nil,IysOk.nil,XfOk.nil⟩ (N8) fun d hp=>h d.1.2.2.2.1 d.2.1.1 d.2.1.2.1 d.2.1.2.2.1 d.2.1.2.2.2 d.2.2 hp
theorem WH:Nj:=Nk fun bd lf ln fi lt b hp=>by
 obtain⟨h1,h2,h3⟩:=hp;unfold Zu;(try delta lI gD sT I64 Q1 pj8 pj4);unfold NR Pc;refine⟨by rw[Q7];omega,fun c=>?_,fun c=>⟨fun c2=>?_,fun c2=>?_⟩⟩
 .have c:=eq_of_beq c;refine⟨by rw[Q7];omega,?_⟩;rw[if_pos c,if_pos c];exact(by and_intros<;>first|rfl|trivial|simp)
 .have c:¬ b=lt:=by simpa using c
  have c2:=eq_of_beq c2;rw[if_neg c,if_neg c,if_pos c2];exact(by and_intros<;>first|rfl|trivial|simp)
 .have c:¬ b=lt:=by simpa using c
  have c2:¬ fi=0:=by simpa using c2
  rw[if_neg c,if_neg c,if_neg c2];exact(by and_intros<;>first|rfl|trivial|simp)
def DG:AL (Bool):=(.one (.k .bo))
def R2 (d:Bool):Prop:=True
def G2 (d:Bool):SV:=.val (.i .i64) (if d=true then 1 else 0)
def GB (d:Bool):List OB:=[]
def M1:CSp:=WZ DG R2 G2 GB
def K2 (b:Bool):Prop :=
 (b=true ->
  ((1:Int)=(if b=true then 1 else 0)/\(True))) /\
 (b=false ->
  ((0:Int)=(if b=true then 1 else 0)/\(True)))
def DD:Cx:=⟨[],[],4,[],0,[],[],[],[],false,[],[],[],[]⟩
def L0 (b:Bool):List (Nat×LoopAnn):=[]
theorem S8 (d:Bool):gwp (DD) (L0 d) c79 0 (Kn [.tmp 2] (G2 d) (GB d)) (Qx 4 (AL.can DG d))=K2 d:=by kernel_rfl
abbrev Lw:Prop:=OkC Tryz.prog 79 M1
theorem LW (h:∀ (b:Bool),(True)->K2 b):OkC Tryz.prog 79 M1 :=
 QH Q6k mixed (C:=DD) (V:=fun (d:Bool)=>K2 d) ⟨.nil,XsOk.nil,ItsOk.nil,YlOk.nil,IysOk.nil,XfOk.nil⟩ (S8) fun d hp=>h d hp
theorem Lz:Lw:=LW fun b _=>by unfold K2;cases b<;>simp
def J6:AL (Int×Int×Int×Int×Bool):=(.cons (.k (.i .i64)) (.cons (.k (.i .i64)) (.cons (.k (.i .i64)) (.cons (.k (.i .i64)) (.one (.k .bo))))))
def J4:AL (Int×Int×Int×Bool):=(.one (.agg (.cons (.k (.i .i64)) (.cons (.k (.i .i64)) (.cons (.k (.i .i64)) (.one (.k .bo)))))))
def XA (m:List ((Int×Int×Int×Bool)×Int)) (c:Int×Int×Int×Int×Bool) (a:Int×Int×Int×Bool):Prop:=(0<=c.1/\c.1<16777216)/\(0<=c.2.1/\c.2.1<16777216)/\(1<=c.2.2.2.1/\c.2.2.2.1<=24)/\(0<=a.1/\a.1<=23)/\(1<=a.2.1/\a.2.1<=24)/\(0<=a.2.2.1/\a.2.2.1<=24)/\PR c.1 c.2.1 c.2.2.2.1 c.2.2.2.2 m
def J5 (m:List ((Int×Int×Int×Bool)×Int)) (c:Int×Int×Int×Int×Bool) (a:Int×Int×Int×Bool):SV:=.val (.i .i64) (Qe c.1.toNat c.2.1.toNat c.2.2.2.1.toNat c.2.2.2.2 a.1.toNat a.2.1.toNat a.2.2.1.toNat a.2.2.2)
def ZW (m:List ((Int×Int×Int×Bool)×Int)) (c:Int×Int×Int×Int×Bool) (a:Int×Int×Int×Bool) (m2:List ((Int×Int×Int×Bool)×Int)):Prop:=PR c.1 c.2.1 c.2.2.2.1 c.2.2.2.2 m2
def Wx (c:Int×Int×Int×Int×Bool) (a:Int×Int×Int×Bool):Nat:=a.1.toNat
def JD:XSp:=Up Hu 5 (.pair (.i .i64) (.pair (.i .i64) (.pair (.i .i64) .bo))) (.i .i64) (Fp J6 J4 XA J5 ZW)
def Zf (a8:Nat) (m:List ((Int×Int×Int×Bool)×Int)) (rw:Int) (fx:Int) (hk:Int) (bd:Int) (tp:Bool) (lf:Int) (ln:Int) (fi:Int) (lt:Bool):Prop:=∀ vals:List Value,
 ((lf==(0:Int))=true ->
  ((fi==(0:Int))=false->(lt==tp)=true->InK .i64 (ln+fi))/\(((fi==(0:Int))||((lt==tp)&&(decide ((ln+fi) > bd))))=true ->
   (vals=vals/\(True/\(([]:List SV)=[]))/\(1048576:Int)=(Qe rw.toNat fx.toNat bd.toNat tp lf.toNat ln.toNat fi.toNat lt)/\(PR rw fx bd tp m))) /\
  (((fi==(0:Int))||((lt==tp)&&(decide ((ln+fi) > bd))))=false ->
   (vals=vals/\(True/\(([]:List SV)=[]))/\(0:Int)=(Qe rw.toNat fx.toNat bd.toNat tp lf.toNat ln.toNat fi.toNat lt)/\(PR rw fx bd tp m)))) /\
 ((lf==(0:Int))=false ->
  ((gq.ahas (.pair (.i .i64) (.pair (.i .i64) (.pair (.i .i64) .bo))) m (lf,(ln,(fi,lt))))=true ->
   (vals=vals/\(True/\(([]:List SV)=[]))/\(gq.aget (.pair (.i .i64) (.pair (.i .i64) (.pair (.i .i64) .bo))) m (lf,(ln,(fi,lt))) 0)=(Qe rw.toNat fx.toNat bd.toNat tp lf.toNat ln.toNat fi.toNat lt)/\(PR rw fx bd tp m))) /\
  ((gq.ahas (.pair (.i .i64) (.pair (.i .i64) (.pair (.i .i64) .bo))) m (lf,(ln,(fi,lt))))=false ->
   ∃ (e3:Unit) (d30:(List ((Int×Int×Int×Bool)×Int))×Int×Int),(((rw=rw/\fx=fx/\hk=hk/\bd=bd/\tp=tp/\True/\(([]:List SV)=[]))/\True/\(1048576:Int)=d30.2.1/\(false=false/\true=true/\(([]:List SV)=[]))/\(0:Int)=d30.2.2/\True)/\((m=d30.1)/\(lf=lf/\ln=ln/\fi=fi/\lt=lt/\(([]:List SV)=[]))/\(vals=vals/\(True/\(([]:List SV)=[])))/\True)) /\
   LoopP (fun (d3:(List ((Int×Int×Int×Bool)×Int))×Int×Int) (q3:((List ((Int×Int×Int×Bool)×Int))×Int×Int)->Prop) =>
    ((decide (d3.2.2<(2:Int)))=true ->
     (0<=d3.2.2)/\(d3.2.2<(2:Int)) /\
     (d3.2.2=(0:Int) ->
      ((0<=lf/\lf<=24)/\(1<=ln/\ln<=24)/\(0<=fi/\fi<=24))/\((decide (NR ln lt false<=bd))=true ->
       ((0<=rw/\rw<16777216)/\(0<=fx/\fx<16777216)/\0<=(lf-1)/\(lf-1)<=24)/\(((0<=rw/\rw<16777216)/\(0<=fx/\fx<16777216)/\(1<=bd/\bd<=24)/\(0<=(lf-1)/\(lf-1)<=23)/\(1<=(NR ln lt false)/\(NR ln lt false)<=24)/\(0<=(Pc ln fi lt false)/\(Pc ln fi lt false)<=24)/\PR rw fx bd tp d3.1)/\((lf-1).toNat)<a8)/\(∀ m4:List ((Int×Int×Int×Bool)×Int),(PR rw fx bd tp m4)->(I64 ((QG rw.toNat fx.toNat (lf-1).toNat false)+(Qe rw.toNat fx.toNat bd.toNat tp (lf-1).toNat (NR ln lt false).toNat (Pc ln fi lt false).toNat false)))/\(I64 (d3.2.2+(1:Int)))/\(∃ d5:(List ((Int×Int×Int×Bool)×Int))×Int×Int,(((rw=rw/\fx=fx/\hk=hk/\bd=bd/\tp=tp/\True/\(([]:List SV)=[]))/\True/\(FC d3.2.1 ((QG rw.toNat fx.toNat (lf-1).toNat false)+(Qe rw.toNat fx.toNat bd.toNat tp (lf-1).toNat (NR ln lt false).toNat (Pc ln fi lt false).toNat false)))=d5.2.1/\(false=false/\true=true/\(([]:List SV)=[]))/\(d3.2.2+(1:Int))=d5.2.2/\True)/\((m4=d5.1)/\(lf=lf/\ln=ln/\fi=fi/\lt=lt/\(([]:List SV)=[]))/\(vals=vals/\(True/\(([]:List SV)=[])))/\True))/\q3 d5))) /\
      ((decide (NR ln lt false<=bd))=false ->
       (I64 (d3.2.2+(1:Int)))/\(∃ d6:(List ((Int×Int×Int×Bool)×Int))×Int×Int,(((rw=rw/\fx=fx/\hk=hk/\bd=bd/\tp=tp/\True/\(([]:List SV)=[]))/\True/\d3.2.1=d6.2.1/\(false=false/\true=true/\(([]:List SV)=[]))/\(d3.2.2+(1:Int))=d6.2.2/\True)/\((d3.1=d6.1)/\(lf=lf/\ln=ln/\fi=fi/\lt=lt/\(([]:List SV)=[]))/\(vals=vals/\(True/\(([]:List SV)=[])))/\True))/\q3 d6))) /\
     (d3.2.2=(1:Int) ->
      ((0<=lf/\lf<=24)/\(1<=ln/\ln<=24)/\(0<=fi/\fi<=24))/\((decide (NR ln lt true<=bd))=true ->
       ((0<=rw/\rw<16777216)/\(0<=fx/\fx<16777216)/\0<=(lf-1)/\(lf-1)<=24)/\(((0<=rw/\rw<16777216)/\(0<=fx/\fx<16777216)/\(1<=bd/\bd<=24)/\(0<=(lf-1)/\(lf-1)<=23)/\(1<=(NR ln lt true)/\(NR ln lt true)<=24)/\(0<=(Pc ln fi lt true)/\(Pc ln fi lt true)<=24)/\PR rw fx bd tp d3.1)/\((lf-1).toNat)<a8)/\(∀ m7:List ((Int×Int×Int×Bool)×Int),(PR rw fx bd tp m7)->(I64 ((QG rw.toNat fx.toNat (lf-1).toNat true)+(Qe rw.toNat fx.toNat bd.toNat tp (lf-1).toNat (NR ln lt true).toNat (Pc ln fi lt true).toNat true)))/\(I64 (d3.2.2+(1:Int)))/\(∃ d8:(List ((Int×Int×Int×Bool)×Int))×Int×Int,(((rw=rw/\fx=fx/\hk=hk/\bd=bd/\tp=tp/\True/\(([]:List SV)=[]))/\True/\(FC d3.2.1 ((QG rw.toNat fx.toNat (lf-1).toNat true)+(Qe rw.toNat fx.toNat bd.toNat tp (lf-1).toNat (NR ln lt true).toNat (Pc ln fi lt true).toNat true)))=d8.2.1/\(false=false/\true=true/\(([]:List SV)=[]))/\(d3.2.2+(1:Int))=d8.2.2/\True)/\((m7=d8.1)/\(lf=lf/\ln=ln/\fi=fi/\lt=lt/\(([]:List SV)=[]))/\(vals=vals/\(True/\(([]:List SV)=[])))/\True))/\q3 d8))) /\
      ((decide (NR ln lt true<=bd))=false ->
       (I64 (d3.2.2+(1:Int)))/\(∃ d9:(List ((Int×Int×Int×Bool)×Int))×Int×Int,(((rw=rw/\fx=fx/\hk=hk/\bd=bd/\tp=tp/\True/\(([]:List SV)=[]))/\True/\d3.2.1=d9.2.1/\(false=false/\true=true/\(([]:List SV)=[]))/\(d3.2.2+(1:Int))=d9.2.2/\True)/\((d3.1=d9.1)/\(lf=lf/\ln=ln/\fi=fi/\lt=lt/\(([]:List SV)=[]))/\(vals=vals/\(True/\(([]:List SV)=[])))/\True))/\q3 d9))) /\
     True) /\
    ((decide (d3.2.2<(2:Int)))=false ->
     (vals=vals/\(True/\(([]:List SV)=[]))/\d3.2.1=(Qe rw.toNat fx.toNat bd.toNat tp lf.toNat ln.toNat fi.toNat lt)/\(PR rw fx bd tp (CA (.pair (.i .i64) (.pair (.i .i64) (.pair (.i .i64) .bo))) d3.1 (lf,(ln,(fi,lt))) d3.2.1))))) d30))
def cx_point_binder_least:Cx:=⟨[],[(80,ZR),(77,ZN)],81,[],0,[],[],[],[],false,[],[],[],[]⟩
def Wj (m:List ((Int×Int×Int×Bool)×Int)) (rw:Int) (fx:Int) (hk:Int) (bd:Int) (tp:Bool) (lf:Int) (ln:Int) (fi:Int) (lt:Bool) (vals:List Value):List (Nat×LoopAnn):=[(0,⟨Unit,(List ((Int×Int×Int×Bool)×Int))×Int×Int,[0,3,7,50,51],fun e x=>[.cp [.val (.i .i64) rw,.val (.i .i64) fx,.val (.i .i64) hk,.val (.i .i64) bd,.val .bo tp,.map 0] 0,.box 3 0,.val (.i .i64) x.2.1,.agg [.val .bo false,.val .bo true],.val (.i .i64) x.2.2],fun e x=>[(0,.key 0,.map (.pair (.i .i64) (.pair (.i .i64) (.pair (.i .i64) .bo))) (.i .i64) x.1),(3,.slot 3,.cells [.val (.i .i64) lf,.val (.i .i64) ln,.val (.i .i64) fi,.val .bo lt] (some 155)),(4000000,.key 4000000,.stk [.map 0] vals)]⟩)]
theorem U6 (a8:Nat) (m:List ((Int×Int×Int×Bool)×Int)) (c:Int×Int×Int×Int×Bool) (a:Int×Int×Int×Bool):(∀ vals,gwp {cx_point_binder_least with xs:=(78,Up Hu 5 (.pair (.i .i64) (.pair (.i .i64) (.pair (.i .i64) .bo))) (.i .i64) (Fp J6 J4 (fun m c a=>XA m c a/\Wx c a<a8) J5 ZW))::cx_point_binder_least.xs} (Wj m c.1 c.2.1 c.2.2.1 c.2.2.2.1 c.2.2.2.2 a.1 a.2.1 a.2.2.1 a.2.2.2 vals) c78 0 (FQ vals [.tmp 4] (J5 m c a) (.pair (.i .i64) (.pair (.i .i64) (.pair (.i .i64) .bo))) (.i .i64) (ZW m c a)) (mstart 81 5 (.pair (.i .i64) (.pair (.i .i64) (.pair (.i .i64) .bo))) (.i .i64) m vals (AL.can J6 c) (AL.can J4 a)))=Zf a8 m c.1 c.2.1 c.2.2.1 c.2.2.2.1 c.2.2.2.2 a.1 a.2.1 a.2.2.1 a.2.2.2:=by kernel_rfl
abbrev Ui:Prop:=Q1d Tryz.prog 78 JD 5
theorem U5 (h:∀ (a8:Nat) (m:List ((Int×Int×Int×Bool)×Int)) (rw:Int) (fx:Int) (hk:Int) (bd:Int) (tp:Bool) (lf:Int) (ln:Int) (fi:Int) (lt:Bool),((0<=rw/\rw<16777216)/\(0<=fx/\fx<16777216)/\(1<=bd/\bd<=24)/\(0<=lf/\lf<=23)/\(1<=ln/\ln<=24)/\(0<=fi/\fi<=24)/\PR rw fx bd tp m)->(lf.toNat)=a8->Zf a8 m rw fx hk bd tp lf ln fi lt):Q1d Tryz.prog 78 JD 5 :=
 P9 Q6e mixed H6 rfl (μ:=Wx) (C:=cx_point_binder_least) ⟨(.cons WH (.cons WI .nil)),XsOk.nil,ItsOk.nil,YlOk.nil,IysOk.nil,XfOk.nil⟩ rfl (L:=fun m (c:Int×Int×Int×Int×Bool) (a:Int×Int×Int×Bool) vals=>Wj m c.1 c.2.1 c.2.2.1 c.2.2.2.1 c.2.2.2.2 a.1 a.2.1 a.2.2.1 a.2.2.2 vals) (V:=fun a8 m (c:Int×Int×Int×Int×Bool) (a:Int×Int×Int×Bool)=>Zf a8 m c.1 c.2.1 c.2.2.1 c.2.2.2.1 c.2.2.2.2 a.1 a.2.1 a.2.2.1 a.2.2.2) U6 fun n m c a hp hn=>h n m c.1 c.2.1 c.2.2.1 c.2.2.2.1 c.2.2.2.2 a.1 a.2.1 a.2.2.1 a.2.2.2 hp hn
theorem XB:Ui:=U5 fun a8 m rw_ fx hk bd tp lf ln fi lt h hn=>by
 obtain⟨h1,h2,h3,h4,h5,h6,h7⟩:=h;unfold Zf;(try delta lI gD sT I64 Q1 pj8 pj4);intro vals;simp only[true_and,and_true];obtain⟨k,rfl⟩:=Int.eq_ofNat_of_zero_le h4.1;obtain⟨n,rfl⟩:=Int.eq_ofNat_of_zero_le (show 0<=ln by omega);obtain⟨f,rfl⟩:=Int.eq_ofNat_of_zero_le h6.1;obtain⟨B,rfl⟩:=Int.eq_ofNat_of_zero_le (show 0<=bd by omega);simp only[Ec,Ej,Int.toNat_natCast] at hn |-;refine⟨fun c=>?_,fun c=>⟨fun c2=>?_,fun c2=>?_⟩⟩
 .have c:k=0:=by have:=eq_of_beq c;omega
  subst c;refine⟨fun _ _=>by rw[Q7];omega,fun c2=>⟨?_,h7⟩,fun c2=>⟨?_,h7⟩⟩
  .unfold Qe Q8c;rw[if_pos];simp only[Bool.or_eq_true,beq_iff_eq,Bool.and_eq_true,decide_eq_true_eq] at c2;rcases c2 with c2|⟨c2,c3⟩
   .left;omega
   .right;exact⟨c2,by omega⟩
  .unfold Qe Q8c;rw[if_neg];simp only[Bool.or_eq_false_iff,beq_eq_false_iff_ne,Bool.and_eq_false_iff,decide_eq_false_iff_not] at c2;rintro (c3|⟨c3,c4⟩)
   .exact c2.1 (by omega)
   .rcases c2.2 with c5|c5
    .exact c5 c3
    .exact c5 (by omega)
 .exact⟨h7 ((k:Int),(n:Int),(f:Int),lt) c2,h7⟩
 .have c:k≠0:=by
   have c:¬ ((k:Int)=0):=by simpa using c
   omega
  obtain⟨k,rfl⟩:∃ j,k=j+1:=⟨k-1,by omega⟩;have ek:((k+1:Nat):Int)-1=(k:Int):=by omega
  simp only[ek,Int.toNat_natCast] at hn |-;have bl:∀ b,0<=QG rw_.toNat fx.toNat k b/\QG rw_.toNat fx.toNat k b<=1048576:=fun b=>JP _ _ _ _;have ll:∀ b,0<=Qe rw_.toNat fx.toNat B tp k (nxL n lt b) (nxF n f lt b) b/\Qe rw_.toNat fx.toNat B tp k (nxL n lt b) (nxF n f lt b) b<=1048576:=fun b=>Yb _ _ _ _ _ _ _ _;have nl:∀ b,nxL n lt b<=B->1<=nxL n lt b/\nxL n lt b<=24:=fun b h=>⟨(Q0e (B:=B) (by omega)).1,by omega⟩;have nf:∀ b,nxF n f lt b<=24:=fun b=>IH (by omega) (by omega);have step:Qe rw_.toNat fx.toNat B tp (k+1) n f lt=brV B n lt (brV B n lt 1048576 (QG rw_.toNat fx.toNat k false+Qe rw_.toNat fx.toNat B tp k (nxL n lt false) (nxF n f lt false) false) false) (QG rw_.toNat fx.toNat k true+Qe rw_.toNat fx.toNat B tp k (nxL n lt true) (nxF n f lt true) true) true:=rfl;refine⟨(),(m,1048576,0),by and_intros<;>first|rfl|trivial,?_⟩;refine⟨fun d=>PR rw_ fx (B:Int) tp d.1/\(d.2.2=0/\d.2.1=1048576\/d.2.2=1/\d.2.1=brV B n lt 1048576 (QG rw_.toNat fx.toNat k false+Qe rw_.toNat fx.toNat B tp k (nxL n lt false) (nxF n f lt false) false) false\/d.2.2=2/\d.2.1=Qe rw_.toNat fx.toNat B tp (k+1) n f lt),fun d=>2-d.2.2.toNat,⟨h7,.inl ⟨rfl,rfl⟩⟩,?_⟩;rintro⟨m1,b,i⟩ ⟨e1,e2⟩;dsimp only at e1 e2 |-;refine⟨fun g=>?_,fun g=>?_⟩
  .have g:=of_decide_eq_true g;refine⟨by omega,by omega,fun i0=>?_,fun i1=>?_⟩
   .subst i0;have eb:b=1048576:=by rcases e2 with e|e|e<;>omega
    refine⟨⟨by omega,by omega,by omega⟩,fun c3=>?_,fun c3=>?_⟩
    .have c3:=of_decide_eq_true c3;have iX:nxL n lt false<=B:=by omega
     have w1:=nl false iX;have w2:=nf false;have w3:=bl false;have w4:=ll false;refine⟨⟨h1,h2,by omega,by omega⟩,⟨⟨h1,h2,by omega,by omega,by omega,by omega,e1⟩,by omega⟩,fun m4 rJ=>⟨by rw[Q7];omega,by rw[Q7];omega,(m4,FC b (QG rw_.toNat fx.toNat k false+Qe rw_.toNat fx.toNat B tp k (nxL n lt false) (nxF n f lt false) false),1),by and_intros<;>first|rfl|trivial,⟨rJ,.inr (.inl ⟨rfl,?_⟩)⟩,by dsimp only;decide⟩⟩;dsimp only;rw[eb];unfold brV;rw[if_pos iX]
    .have c3:=of_decide_eq_false c3;have iX:¬ nxL n lt false<=B:=by omega
     refine⟨by rw[Q7];omega,(m1,b,1),by and_intros<;>first|rfl|trivial,⟨e1,.inr (.inl ⟨rfl,?_⟩)⟩,by dsimp only;decide⟩;dsimp only;rw[eb];unfold brV;rw[if_neg iX]
   .subst i1;have eb:b=brV B n lt 1048576 (QG rw_.toNat fx.toNat k false+Qe rw_.toNat fx.toNat B tp k (nxL n lt false) (nxF n f lt false) false) false:=by
     rcases e2 with e|e|e
     .omega
     .exact e.2
     .omega
    refine⟨⟨by omega,by omega,by omega⟩,fun c3=>?_,fun c3=>?_⟩
    .have c3:=of_decide_eq_true c3;have iX:nxL n lt true<=B:=by omega
     have w1:=nl true iX;have w2:=nf true;have w3:=bl true;have w4:=ll true;refine⟨⟨h1,h2,by omega,by omega⟩,⟨⟨h1,h2,by omega,by omega,by omega,by omega,e1⟩,by omega⟩,fun m4 rJ=>⟨by rw[Q7];omega,by rw[Q7];omega,(m4,FC b (QG rw_.toNat fx.toNat k true+Qe rw_.toNat fx.toNat B tp k (nxL n lt true) (nxF n f lt true) true),2),by and_intros<;>first|rfl|trivial,⟨rJ,.inr (.inr ⟨rfl,?_⟩)⟩,by dsimp only;decide⟩⟩;dsimp only;rw[eb,step];exact(if_pos iX).symm
    .have c3:=of_decide_eq_false c3;have iX:¬ nxL n lt true<=B:=by omega
     refine⟨by rw[Q7];omega,(m1,b,2),by and_intros<;>first|rfl|trivial,⟨e1,.inr (.inr ⟨rfl,?_⟩)⟩,by dsimp only;decide⟩;dsimp only;rw[eb,step];exact(if_neg iX).symm
  .have g:=of_decide_eq_false g;have eb:b=Qe rw_.toNat fx.toNat B tp (k+1) n f lt:=by
    rcases e2 with e|e|e
    .omega
    .omega
    .exact e.2
   exact⟨eb,Q1i e1 eb⟩
def Gw:AL ((Int×List Int)×List Int×Int):=(.cons (.agg (.cons (.k (.i .i64)) (.one (.k (.list (.i .i64)))))) (.cons (.k (.list (.i .i64))) (.one (.k (.i .i64)))))
def PW (d:(Int×List Int)×List Int×Int):Prop:=d.1.2.length<=1000/\d.2.1.length<=1000
def NF (d:(Int×List Int)×List Int×Int):SV:=.tup [.agg [.val (.i .i64) (if Qc d.1.1 d.1.2 d.2.1 d.2.2=0 then d.1.1 else 0),.lst 0],.val (.i .i64) (Ig d.1.1 d.1.2 d.2.1 d.2.2),.val (.i .i64) (Qc d.1.1 d.1.2 d.2.1 d.2.2)]
def Nx (d:(Int×List Int)×List Int×Int):List OB:=[.lst 3 (.i .i64) (JE d.1.1 d.1.2 d.2.1 d.2.2) ((JE d.1.1 d.1.2 d.2.1 d.2.2).isEmpty)]
def UF:CSp:=WZ Gw PW NF Nx
abbrev LM:=fun (d25:(List ((Int×Int×Int×Bool)×Int))×Int) (al:Int×Int×Int×Int×Bool×Int×(List Int)×Int×Int×(List Int)×Int×(List Int)×Int×Int×Int×(List Int)×Int×Int×Bool×Int×Int×Int×(List Int)×Int×Int×Int×Int×Int×Int×Int×Int×Bool×(List Value)) (ae:Int×Int×Int×Int×Bool×Int×Int×Int×Int×Int×Bool×Int×Bool×Bool×(List Int)×Int×Int×(List Int)×Int×(List Int)×Int×Int×Int×(List Int)×Int×Int×Bool×Int×Int×Int×(List Int)×Int×Int×Int×Int×Int×Int×Int×Int×Bool×(List Value)) (jq:_->Prop) (bk:Bool)=>(( I64 ( (pj8 ae).2.2.2.1-( QG ae.1.toNat ae.2.1.toNat ( (pj4 ae).2.2.2.1-( 1:Int ) ).toNat bk ) ) )/\( 0<=( 1:Int ) )/\( I64 ( UI .i64 (pj4 ae).2.1 ( 1:Int ) ) )/\( True )/\( ∃ fL:( List ( ( Int×Int×Int×Bool )×Int ) )×Int×Int×Int×Int×Bool×Int ,( ( True/\( ZG .or .i64 ( UI .i64 (pj4 ae).2.1 ( 1:Int ) ) ( if bk=true then 1 else 0 ) )=fL.2.1/\(pj4 ae).2.2.1=(pj4 al).2.1/\True/\( (pj8 ae).2.2.2.1-( QG ae.1.toNat ae.2.1.toNat ( (pj4 ae).2.2.2.1-( 1:Int ) ).toNat bk ) )=fL.2.2.2.2.2.2/\True )/\( ( ae.1=al.1/\ae.2.1=al.2.1/\ae.2.2.1=al.2.2.1/\ae.2.2.2.1=al.2.2.2.1/\(pj4 ae).1=(pj4 al).1/\True/\( ( [ ]:List SV )=[ ] ) )/\( d25.1=fL.1 )/\( ( (pj4 ae).2.2.2.1-1 )=fL.2.2.1/\( NR (pj8 ae).1 (pj8 ae).2.2.1 bk )=fL.2.2.2.1/\( Pc (pj8 ae).1 (pj8 ae).2.1 (pj8 ae).2.2.1 bk )=fL.2.2.2.2.1/\bk=fL.2.2.2.2.2.1/\( ( [ ]:List SV )=[ ] ) )/\( (Q1 (Q1 al))=(pj8 (Q1 (Q1 ae)))/\( True/\(pj4 (pj8 ae)).2.2.1=(pj4 al).2.2.1/\(pj4 (pj8 ae)).2.2.2.1=(pj4 al).2.2.2.1/\True/\True/\True/\True/\(pj4 (Q1 ae)).1=(pj4 (pj8 al)).1/\True/\True/\(pj4 (Q1 ae)).2.1=(pj4 (pj8 al)).2.1/\(pj4 (Q1 ae)).2.2.1=(pj4 (pj8 al)).2.2.1/\True/\True/\True/\True/\True/\True/\True/\True/\True/\True/\True/\True/\True/\True/\True/\True/\True/\True/\True/\True/\True/\True/\True/\True/\True/\True/\True/\True/\True/\True/\True/\True/\True/\True/\True/\True/\(pj4 (Q1 ae)).2.2.2.1=(pj4 (pj8 al)).2.2.2.1/\(pj8 (Q1 ae)).1=(Q1 al).1/\(pj8 (Q1 ae)).2.1=(Q1 al).2.1/\(pj8 (Q1 ae)).2.2.1=(Q1 al).2.2.1/\(pj8 (Q1 ae)).2.2.2.1=(Q1 al).2.2.2.1/\True/\(pj4 (pj8 (Q1 ae))).1=(pj4 (Q1 al)).1/\True/\(pj4 (pj8 (Q1 ae))).2.1=(pj4 (Q1 al)).2.1/\(pj4 (pj8 (Q1 ae))).2.2.1=(pj4 (Q1 al)).2.2.1/\(pj4 (pj8 (Q1 ae))).2.2.2.1=(pj4 (Q1 al)).2.2.2.1/\True/\(Q1 (Q1 ae)).1=(pj8 (Q1 al)).1/\True/\(Q1 (Q1 ae)).2.1=(pj8 (Q1 al)).2.1/\(Q1 (Q1 ae)).2.2.1=(pj8 (Q1 al)).2.2.1/\( (Q1 (Q1 ae)).2.2.2.1=(pj8 (Q1 al)).2.2.2.1/\(pj4 (Q1 (Q1 ae))).1=(pj4 (pj8 (Q1 al))).1/\(pj4 (Q1 (Q1 ae))).2.1=(pj4 (pj8 (Q1 al))).2.1/\(pj4 (Q1 (Q1 ae))).2.2.1=(pj4 (pj8 (Q1 al))).2.2.1/\(pj4 (Q1 (Q1 ae))).2.2.2.1=(pj4 (pj8 (Q1 al))).2.2.2.1/\True/\( ( [ ]:List SV )=[ ] ) )/\True/\True/\True/\True/\True/\True/\True/\True/\True/\True/\True/\True/\True/\True/\True/\True/\True/\True/\True/\( ( [ ]:List SV )=[ ] ) ) )/\( (Q1 ae).1=(pj8 al).1/\(Q1 ae).2.1=(pj8 al).2.1/\( ( [ ]:List SV )=[ ] ) )/\( (Q1 ae).2.2.1=(pj8 al).2.2.1/\True/\( ( [ ]:List SV )=[ ] ) )/\( (Q1 ae).2.2.2.1=(pj8 al).2.2.2.1/\( List.isEmpty (Q1 ae).2.2.2.1 )=( List.isEmpty (pj8 al).2.2.2.1 ) )/\True ) )/\jq fL ):Prop)
abbrev Sw:=fun (d25:(List ((Int×Int×Int×Bool)×Int))×Int) (al:Int×Int×Int×Int×Bool×Int×(List Int)×Int×Int×(List Int)×Int×(List Int)×Int×Int×Int×(List Int)×Int×Int×Bool×Int×Int×Int×(List Int)×Int×Int×Int×Int×Int×Int×Int×Int×Bool×(List Value)) (ae:Int×Int×Int×Int×Bool×Int×Int×Int×Int×Int×Bool×Int×Bool×Bool×(List Int)×Int×Int×(List Int)×Int×(List Int)×Int×Int×Int×(List Int)×Int×Int×Bool×Int×Int×Int×(List Int)×Int×Int×Int×Int×Int×Int×Int×Int×Bool×(List Value)) (jq:_->Prop) (mf:_->Prop) (bk:Bool)=>(( false=true->( LM d25 al ae jq bk ) )/\( false=false->( I64 ( d25.2+( 1:Int ) ) )/\( ∃ fL:( List ( ( Int×Int×Int×Bool )×Int ) )×Int ,( ( True/\(pj4 ae).2.1=(pj4 ae).2.1/\(pj4 ae).2.2.1=(pj4 ae).2.2.1/\True/\(pj8 ae).2.2.2.1=(pj8 ae).2.2.2.1/\( (pj4 (pj8 ae)).1=(pj4 (pj8 ae)).1/\(pj4 (pj8 ae)).2.1=(pj4 (pj8 ae)).2.1/\( ( [ ]:List SV )=[ ] ) )/\( d25.2+( 1:Int ) )=fL.2/\True )/\( ( ae.1=ae.1/\ae.2.1=ae.2.1/\ae.2.2.1=ae.2.2.1/\ae.2.2.2.1=ae.2.2.2.1/\(pj4 ae).1=(pj4 ae).1/\True/\( ( [ ]:List SV )=[ ] ) )/\( d25.1=fL.1 )/\( (pj4 ae).2.2.2.1=(pj4 ae).2.2.2.1/\(pj8 ae).1=(pj8 ae).1/\(pj8 ae).2.1=(pj8 ae).2.1/\(pj8 ae).2.2.1=(pj8 ae).2.2.1/\( ( [ ]:List SV )=[ ] ) )/\( (pj8 (Q1 (Q1 ae)))=(pj8 (Q1 (Q1 ae)))/\( True/\(pj4 (pj8 ae)).2.2.1=(pj4 (pj8 ae)).2.2.1/\(pj4 (pj8 ae)).2.2.2.1=(pj4 (pj8 ae)).2.2.2.1/\True/\True/\True/\True/\(pj4 (Q1 ae)).1=(pj4 (Q1 ae)).1/\True/\True/\(pj4 (Q1 ae)).2.1=(pj4 (Q1 ae)).2.1/\(pj4 (Q1 ae)).2.2.1=(pj4 (Q1 ae)).2.2.1/\True/\True/\True/\True/\True/\True/\True/\True/\True/\True/\True/\True/\True/\True/\True/\True/\True/\True/\True/\True/\True/\True/\True/\True/\True/\True/\True/\True/\True/\True/\True/\True/\True/\True/\True/\True/\(pj4 (Q1 ae)).2.2.2.1=(pj4 (Q1 ae)).2.2.2.1/\(pj8 (Q1 ae)).1=(pj8 (Q1 ae)).1/\(pj8 (Q1 ae)).2.1=(pj8 (Q1 ae)).2.1/\(pj8 (Q1 ae)).2.2.1=(pj8 (Q1 ae)).2.2.1/\(pj8 (Q1 ae)).2.2.2.1=(pj8 (Q1 ae)).2.2.2.1/\True/\(pj4 (pj8 (Q1 ae))).1=(pj4 (pj8 (Q1 ae))).1/\True/\(pj4 (pj8 (Q1 ae))).2.1=(pj4 (pj8 (Q1 ae))).2.1/\(pj4 (pj8 (Q1 ae))).2.2.1=(pj4 (pj8 (Q1 ae))).2.2.1/\(pj4 (pj8 (Q1 ae))).2.2.2.1=(pj4 (pj8 (Q1 ae))).2.2.2.1/\True/\(Q1 (Q1 ae)).1=(Q1 (Q1 ae)).1/\True/\(Q1 (Q1 ae)).2.1=(Q1 (Q1 ae)).2.1/\(Q1 (Q1 ae)).2.2.1=(Q1 (Q1 ae)).2.2.1/\( (Q1 (Q1 ae)).2.2.2.1=(Q1 (Q1 ae)).2.2.2.1/\(pj4 (Q1 (Q1 ae))).1=(pj4 (Q1 (Q1 ae))).1/\(pj4 (Q1 (Q1 ae))).2.1=(pj4 (Q1 (Q1 ae))).2.1/\(pj4 (Q1 (Q1 ae))).2.2.1=(pj4 (Q1 (Q1 ae))).2.2.1/\(pj4 (Q1 (Q1 ae))).2.2.2.1=(pj4 (Q1 (Q1 ae))).2.2.2.1/\True/\( ( [ ]:List SV )=[ ] ) )/\True/\True/\True/\True/\True/\True/\True/\True/\True/\True/\True/\True/\True/\True/\True/\True/\True/\True/\True/\( ( [ ]:List SV )=[ ] ) ) )/\( (Q1 ae).1=(Q1 ae).1/\(Q1 ae).2.1=(Q1 ae).2.1/\( ( [ ]:List SV )=[ ] ) )/\( (Q1 ae).2.2.1=(Q1 ae).2.2.1/\True/\( ( [ ]:List SV )=[ ] ) )/\( (Q1 ae).2.2.2.1=(Q1 ae).2.2.2.1/\( List.isEmpty (Q1 ae).2.2.2.1 )=( List.isEmpty (Q1 ae).2.2.2.1 ) )/\True ) )/\mf fL ) ):Prop)
abbrev BQ:=fun (d9:Bool×Int×Int×Int×Int×Bool×Int) (e9:Int×Int×Int×Int×Bool×Bool×(List Int)×Int×Int×(List Int)×Int×(List Int)×Int×Int×Int×(List Int)×Int×Int×Bool×Int×Int×Int×(List Int)×Int×Int×Int×Int×Int×Int×Int×Int×Bool×(List Value)) (q9:_->Prop) (bk:Bool)=>(∀ s5:List Value ,( I64 ( e9.2.2.1-( 1:Int ) ) )/\s5=s5/\( I64 ( e9.2.2.1-( 1:Int ) ) )/\( ( 0<=e9.1/\e9.1<16777216 )/\( 0<=e9.2.1/\e9.2.1<16777216 )/\0<=( e9.2.2.1-( 1:Int ) )/\( e9.2.2.1-( 1:Int ) )<=24 )/\( ( 0<=e9.1/\e9.1<16777216 )/\( 0<=e9.2.1/\e9.2.1<16777216 )/\( 1<=e9.2.2.2.1/\e9.2.2.2.1<=24 )/\( 0<=( e9.2.2.1-( 1:Int ) )/\( e9.2.2.1-( 1:Int ) )<=23 )/\( 1<=( 1:Int )/\( 1:Int )<=24 )/\( 0<=( 0:Int )/\( 0:Int )<=24 )/\PR e9.1 e9.2.1 e9.2.2.2.1 bk ( [ ]:List ( ( Int×Int×Int×Bool )×Int ) ) )/\( ∀ wh:List ( ( Int×Int×Int×Bool )×Int ) ,( PR e9.1 e9.2.1 e9.2.2.2.1 bk wh )->( I64 ( ( QG e9.1.toNat e9.2.1.toNat ( e9.2.2.1-( 1:Int ) ).toNat bk )+( Qe e9.1.toNat e9.2.1.toNat e9.2.2.2.1.toNat bk ( e9.2.2.1-( 1:Int ) ).toNat ( 1:Int ).toNat ( 0:Int ).toNat bk ) ) )/\( ( decide ( ( ( QG e9.1.toNat e9.2.1.toNat ( e9.2.2.1-( 1:Int ) ).toNat bk )+( Qe e9.1.toNat e9.2.1.toNat e9.2.2.2.1.toNat bk ( e9.2.2.1-( 1:Int ) ).toNat ( 1:Int ).toNat ( 0:Int ).toNat bk ) )<d9.2.1 ) )=true->( I64 ( (pj4 d9).2.2+( 1:Int ) ) )/\( ∃ dm:Bool×Int×Int×Int×Int×Bool×Int ,( ( True/\( ( QG e9.1.toNat e9.2.1.toNat ( e9.2.2.1-( 1:Int ) ).toNat bk )+( Qe e9.1.toNat e9.2.1.toNat e9.2.2.2.1.toNat bk ( e9.2.2.1-( 1:Int ) ).toNat ( 1:Int ).toNat ( 0:Int ).toNat bk ) )=dm.2.1/\True/\( (pj4 e9).1=(pj4 e9).1/\(pj4 e9).2.1=(pj4 e9).2.1/\( ( [ ]:List SV )=[ ] ) )/\( (pj4 d9).2.2+( 1:Int ) )=dm.2.2.2.2.2.2/\True )/\( ( e9.1=e9.1/\e9.2.1=e9.2.1/\e9.2.2.1=e9.2.2.1/\e9.2.2.2.1=e9.2.2.2.1/\bk=dm.1/\True/\( ( [ ]:List SV )=[ ] ) )/\( ( e9.2.2.1-( 1:Int ) )=dm.2.2.1/\( 1:Int )=dm.2.2.2.1/\( 0:Int )=dm.2.2.2.2.1/\bk=dm.2.2.2.2.2.1/\( ( [ ]:List SV )=[ ] ) )/\( (Q1 (Q1 e9))=(Q1 (Q1 e9))/\( True/\(pj4 e9).2.2.1=(pj4 e9).2.2.1/\(pj4 e9).2.2.2.1=(pj4 e9).2.2.2.1/\True/\True/\True/\True/\(pj4 (pj8 e9)).1=(pj4 (pj8 e9)).1/\True/\True/\(pj4 (pj8 e9)).2.1=(pj4 (pj8 e9)).2.1/\(pj4 (pj8 e9)).2.2.1=(pj4 (pj8 e9)).2.2.1/\True/\True/\True/\True/\True/\True/\True/\True/\True/\True/\True/\True/\True/\True/\True/\True/\True/\True/\True/\True/\True/\True/\True/\True/\True/\True/\True/\True/\True/\True/\True/\True/\True/\True/\True/\True/\(pj4 (pj8 e9)).2.2.2.1=(pj4 (pj8 e9)).2.2.2.1/\(Q1 e9).1=(Q1 e9).1/\(Q1 e9).2.1=(Q1 e9).2.1/\(Q1 e9).2.2.1=(Q1 e9).2.2.1/\(Q1 e9).2.2.2.1=(Q1 e9).2.2.2.1/\True/\(pj4 (Q1 e9)).1=(pj4 (Q1 e9)).1/\True/\(pj4 (Q1 e9)).2.1=(pj4 (Q1 e9)).2.1/\(pj4 (Q1 e9)).2.2.1=(pj4 (Q1 e9)).2.2.1/\(pj4 (Q1 e9)).2.2.2.1=(pj4 (Q1 e9)).2.2.2.1/\True/\(pj8 (Q1 e9)).1=(pj8 (Q1 e9)).1/\True/\(pj8 (Q1 e9)).2.1=(pj8 (Q1 e9)).2.1/\(pj8 (Q1 e9)).2.2.1=(pj8 (Q1 e9)).2.2.1/\( (pj8 (Q1 e9)).2.2.2.1=(pj8 (Q1 e9)).2.2.2.1/\(pj4 (pj8 (Q1 e9))).1=(pj4 (pj8 (Q1 e9))).1/\(pj4 (pj8 (Q1 e9))).2.1=(pj4 (pj8 (Q1 e9))).2.1/\(pj4 (pj8 (Q1 e9))).2.2.1=(pj4 (pj8 (Q1 e9))).2.2.1/\(pj4 (pj8 (Q1 e9))).2.2.2.1=(pj4 (pj8 (Q1 e9))).2.2.2.1/\True/\( ( [ ]:List SV )=[ ] ) )/\True/\True/\True/\True/\True/\True/\True/\True/\True/\True/\True/\True/\True/\True/\True/\True/\True/\True/\True/\( ( [ ]:List SV )=[ ] ) ) )/\( (pj8 e9).1=(pj8 e9).1/\(pj8 e9).2.1=(pj8 e9).2.1/\( ( [ ]:List SV )=[ ] ) )/\( (pj8 e9).2.2.1=(pj8 e9).2.2.1/\True/\( ( [ ]:List SV )=[ ] ) )/\( (pj8 e9).2.2.2.1=(pj8 e9).2.2.2.1/\( List.isEmpty (pj8 e9).2.2.2.1 )=( List.isEmpty (pj8 e9).2.2.2.1 ) )/\True ) )/\q9 dm ) )/\( ( decide ( ( ( QG e9.1.toNat e9.2.1.toNat ( e9.2.2.1-( 1:Int ) ).toNat bk )+( Qe e9.1.toNat e9.2.1.toNat e9.2.2.2.1.toNat bk ( e9.2.2.1-( 1:Int ) ).toNat ( 1:Int ).toNat ( 0:Int ).toNat bk ) )<d9.2.1 ) )=false->( I64 ( (pj4 d9).2.2+( 1:Int ) ) )/\( ∃ kT:Bool×Int×Int×Int×Int×Bool×Int ,( ( True/\d9.2.1=kT.2.1/\True/\( (pj4 e9).1=(pj4 e9).1/\(pj4 e9).2.1=(pj4 e9).2.1/\( ( [ ]:List SV )=[ ] ) )/\( (pj4 d9).2.2+( 1:Int ) )=kT.2.2.2.2.2.2/\True )/\( ( e9.1=e9.1/\e9.2.1=e9.2.1/\e9.2.2.1=e9.2.2.1/\e9.2.2.2.1=e9.2.2.2.1/\bk=kT.1/\True/\( ( [ ]:List SV )=[ ] ) )/\( d9.2.2.1=kT.2.2.1/\d9.2.2.2.1=kT.2.2.2.1/\(pj4 d9).1=kT.2.2.2.2.1/\(pj4 d9).2.1=kT.2.2.2.2.2.1/\( ( [ ]:List SV )=[ ] ) )/\( (Q1 (Q1 e9))=(Q1 (Q1 e9))/\( True/\(pj4 e9).2.2.1=(pj4 e9).2.2.1/\(pj4 e9).2.2.2.1=(pj4 e9).2.2.2.1/\True/\True/\True/\True/\(pj4 (pj8 e9)).1=(pj4 (pj8 e9)).1/\True/\True/\(pj4 (pj8 e9)).2.1=(pj4 (pj8 e9)).2.1/\(pj4 (pj8 e9)).2.2.1=(pj4 (pj8 e9)).2.2.1/\True/\True/\True/\True/\True/\True/\True/\True/\True/\True/\True/\True/\True/\True/\True/\True/\True/\True/\True/\True/\True/\True/\True/\True/\True/\True/\True/\True/\True/\True/\True/\True/\True/\True/\True/\True/\(pj4 (pj8 e9)).2.2.2.1=(pj4 (pj8 e9)).2.2.2.1/\(Q1 e9).1=(Q1 e9).1/\(Q1 e9).2.1=(Q1 e9).2.1/\(Q1 e9).2.2.1=(Q1 e9).2.2.1/\(Q1 e9).2.2.2.1=(Q1 e9).2.2.2.1/\True/\(pj4 (Q1 e9)).1=(pj4 (Q1 e9)).1/\True/\(pj4 (Q1 e9)).2.1=(pj4 (Q1 e9)).2.1/\(pj4 (Q1 e9)).2.2.1=(pj4 (Q1 e9)).2.2.1/\(pj4 (Q1 e9)).2.2.2.1=(pj4 (Q1 e9)).2.2.2.1/\True/\(pj8 (Q1 e9)).1=(pj8 (Q1 e9)).1/\True/\(pj8 (Q1 e9)).2.1=(pj8 (Q1 e9)).2.1/\(pj8 (Q1 e9)).2.2.1=(pj8 (Q1 e9)).2.2.1/\( (pj8 (Q1 e9)).2.2.2.1=(pj8 (Q1 e9)).2.2.2.1/\(pj4 (pj8 (Q1 e9))).1=(pj4 (pj8 (Q1 e9))).1/\(pj4 (pj8 (Q1 e9))).2.1=(pj4 (pj8 (Q1 e9))).2.1/\(pj4 (pj8 (Q1 e9))).2.2.1=(pj4 (pj8 (Q1 e9))).2.2.1/\(pj4 (pj8 (Q1 e9))).2.2.2.1=(pj4 (pj8 (Q1 e9))).2.2.2.1/\True/\( ( [ ]:List SV )=[ ] ) )/\True/\True/\True/\True/\True/\True/\True/\True/\True/\True/\True/\True/\True/\True/\True/\True/\True/\True/\True/\( ( [ ]:List SV )=[ ] ) ) )/\( (pj8 e9).1=(pj8 e9).1/\(pj8 e9).2.1=(pj8 e9).2.1/\( ( [ ]:List SV )=[ ] ) )/\( (pj8 e9).2.2.1=(pj8 e9).2.2.1/\True/\( ( [ ]:List SV )=[ ] ) )/\( (pj8 e9).2.2.2.1=(pj8 e9).2.2.2.1/\( List.isEmpty (pj8 e9).2.2.2.1 )=( List.isEmpty (pj8 e9).2.2.2.1 ) )/\True ) )/\q9 kT ) ) ):Prop)
abbrev Hj:=fun (d25:(List ((Int×Int×Int×Bool)×Int))×Int) (al:Int×Int×Int×Int×Bool×Int×(List Int)×Int×Int×(List Int)×Int×(List Int)×Int×Int×Int×(List Int)×Int×Int×Bool×Int×Int×Int×(List Int)×Int×Int×Int×Int×Int×Int×Int×Int×Bool×(List Value)) (ae:Int×Int×Int×Int×Bool×Int×Int×Int×Int×Int×Bool×Int×Bool×Bool×(List Int)×Int×Int×(List Int)×Int×(List Int)×Int×Int×Int×(List Int)×Int×Int×Bool×Int×Int×Int×(List Int)×Int×Int×Int×Int×Int×Int×Int×Int×Bool×(List Value)) (jq:_->Prop) (mf:_->Prop) (bk:Bool)=>(( ( 0<=(pj4 ae).2.2.2.1/\(pj4 ae).2.2.2.1<=24 )/\( 1<=(pj8 ae).1/\(pj8 ae).1<=24 )/\( 0<=(pj8 ae).2.1/\(pj8 ae).2.1<=24 ) )/\( I64 ( (pj4 ae).2.2.2.1-( 1:Int ) ) )/\( ( 0<=ae.1/\ae.1<16777216 )/\( 0<=ae.2.1/\ae.2.1<16777216 )/\0<=( (pj4 ae).2.2.2.1-( 1:Int ) )/\( (pj4 ae).2.2.2.1-( 1:Int ) )<=24 )/\( ( ( decide ( NR (pj8 ae).1 (pj8 ae).2.2.1 bk<=ae.2.2.2.1 ) )=true->( ( 0<=ae.1/\ae.1<16777216 )/\( 0<=ae.2.1/\ae.2.1<16777216 )/\( 1<=ae.2.2.2.1/\ae.2.2.2.1<=24 )/\( 0<=( (pj4 ae).2.2.2.1-1 )/\( (pj4 ae).2.2.2.1-1 )<=23 )/\( 1<=( NR (pj8 ae).1 (pj8 ae).2.2.1 bk )/\( NR (pj8 ae).1 (pj8 ae).2.2.1 bk )<=24 )/\( 0<=( Pc (pj8 ae).1 (pj8 ae).2.1 (pj8 ae).2.2.1 bk )/\( Pc (pj8 ae).1 (pj8 ae).2.1 (pj8 ae).2.2.1 bk )<=24 )/\PR ae.1 ae.2.1 ae.2.2.2.1 (pj4 ae).1 d25.1 )/\( ∀ rK:List ( ( Int×Int×Int×Bool )×Int ) ,( PR ae.1 ae.2.1 ae.2.2.2.1 (pj4 ae).1 rK )->( I64 ( ( QG ae.1.toNat ae.2.1.toNat ( (pj4 ae).2.2.2.1-( 1:Int ) ).toNat bk )+( Qe ae.1.toNat ae.2.1.toNat ae.2.2.2.1.toNat (pj4 ae).1 ( (pj4 ae).2.2.2.1-1 ).toNat ( NR (pj8 ae).1 (pj8 ae).2.2.1 bk ).toNat ( Pc (pj8 ae).1 (pj8 ae).2.1 (pj8 ae).2.2.1 bk ).toNat bk ) ) )/\( ( ( ( QG ae.1.toNat ae.2.1.toNat ( (pj4 ae).2.2.2.1-( 1:Int ) ).toNat bk )+( Qe ae.1.toNat ae.2.1.toNat ae.2.2.2.1.toNat (pj4 ae).1 ( (pj4 ae).2.2.2.1-1 ).toNat ( NR (pj8 ae).1 (pj8 ae).2.2.1 bk ).toNat ( Pc (pj8 ae).1 (pj8 ae).2.1 (pj8 ae).2.2.1 bk ).toNat bk ) )==(pj8 ae).2.2.2.1 )=true->( I64 ( (pj8 ae).2.2.2.1-( QG ae.1.toNat ae.2.1.toNat ( (pj4 ae).2.2.2.1-( 1:Int ) ).toNat bk ) ) )/\( 0<=( 1:Int ) )/\( I64 ( UI .i64 (pj4 ae).2.1 ( 1:Int ) ) )/\( True )/\( ∃ g8:( List ( ( Int×Int×Int×Bool )×Int ) )×Int×Int×Int×Int×Bool×Int ,( ( True/\( ZG .or .i64 ( UI .i64 (pj4 ae).2.1 ( 1:Int ) ) ( if bk=true then 1 else 0 ) )=g8.2.1/\(pj4 ae).2.2.1=(pj4 al).2.1/\True/\( (pj8 ae).2.2.2.1-( QG ae.1.toNat ae.2.1.toNat ( (pj4 ae).2.2.2.1-( 1:Int ) ).toNat bk ) )=g8.2.2.2.2.2.2/\True )/\( ( ae.1=al.1/\ae.2.1=al.2.1/\ae.2.2.1=al.2.2.1/\ae.2.2.2.1=al.2.2.2.1/\(pj4 ae).1=(pj4 al).1/\True/\( ( [ ]:List SV )=[ ] ) )/\( rK=g8.1 )/\( ( (pj4 ae).2.2.2.1-1 )=g8.2.2.1/\( NR (pj8 ae).1 (pj8 ae).2.2.1 bk )=g8.2.2.2.1/\( Pc (pj8 ae).1 (pj8 ae).2.1 (pj8 ae).2.2.1 bk )=g8.2.2.2.2.1/\bk=g8.2.2.2.2.2.1/\( ( [ ]:List SV )=[ ] ) )/\( (Q1 (Q1 al))=(pj8 (Q1 (Q1 ae)))/\( True/\(pj4 (pj8 ae)).2.2.1=(pj4 al).2.2.1/\(pj4 (pj8 ae)).2.2.2.1=(pj4 al).2.2.2.1/\True/\True/\True/\True/\(pj4 (Q1 ae)).1=(pj4 (pj8 al)).1/\True/\True/\(pj4 (Q1 ae)).2.1=(pj4 (pj8 al)).2.1/\(pj4 (Q1 ae)).2.2.1=(pj4 (pj8 al)).2.2.1/\True/\True/\True/\True/\True/\True/\True/\True/\True/\True/\True/\True/\True/\True/\True/\True/\True/\True/\True/\True/\True/\True/\True/\True/\True/\True/\True/\True/\True/\True/\True/\True/\True/\True/\True/\True/\(pj4 (Q1 ae)).2.2.2.1=(pj4 (pj8 al)).2.2.2.1/\(pj8 (Q1 ae)).1=(Q1 al).1/\(pj8 (Q1 ae)).2.1=(Q1 al).2.1/\(pj8 (Q1 ae)).2.2.1=(Q1 al).2.2.1/\(pj8 (Q1 ae)).2.2.2.1=(Q1 al).2.2.2.1/\True/\(pj4 (pj8 (Q1 ae))).1=(pj4 (Q1 al)).1/\True/\(pj4 (pj8 (Q1 ae))).2.1=(pj4 (Q1 al)).2.1/\(pj4 (pj8 (Q1 ae))).2.2.1=(pj4 (Q1 al)).2.2.1/\(pj4 (pj8 (Q1 ae))).2.2.2.1=(pj4 (Q1 al)).2.2.2.1/\True/\(Q1 (Q1 ae)).1=(pj8 (Q1 al)).1/\True/\(Q1 (Q1 ae)).2.1=(pj8 (Q1 al)).2.1/\(Q1 (Q1 ae)).2.2.1=(pj8 (Q1 al)).2.2.1/\( (Q1 (Q1 ae)).2.2.2.1=(pj8 (Q1 al)).2.2.2.1/\(pj4 (Q1 (Q1 ae))).1=(pj4 (pj8 (Q1 al))).1/\(pj4 (Q1 (Q1 ae))).2.1=(pj4 (pj8 (Q1 al))).2.1/\(pj4 (Q1 (Q1 ae))).2.2.1=(pj4 (pj8 (Q1 al))).2.2.1/\(pj4 (Q1 (Q1 ae))).2.2.2.1=(pj4 (pj8 (Q1 al))).2.2.2.1/\True/\( ( [ ]:List SV )=[ ] ) )/\True/\True/\True/\True/\True/\True/\True/\True/\True/\True/\True/\True/\True/\True/\True/\True/\True/\True/\True/\( ( [ ]:List SV )=[ ] ) ) )/\( (Q1 ae).1=(pj8 al).1/\(Q1 ae).2.1=(pj8 al).2.1/\( ( [ ]:List SV )=[ ] ) )/\( (Q1 ae).2.2.1=(pj8 al).2.2.1/\True/\( ( [ ]:List SV )=[ ] ) )/\( (Q1 ae).2.2.2.1=(pj8 al).2.2.2.1/\( List.isEmpty (Q1 ae).2.2.2.1 )=( List.isEmpty (pj8 al).2.2.2.1 ) )/\True ) )/\jq g8 ) )/\( ( ( ( QG ae.1.toNat ae.2.1.toNat ( (pj4 ae).2.2.2.1-( 1:Int ) ).toNat bk )+( Qe ae.1.toNat ae.2.1.toNat ae.2.2.2.1.toNat (pj4 ae).1 ( (pj4 ae).2.2.2.1-1 ).toNat ( NR (pj8 ae).1 (pj8 ae).2.2.1 bk ).toNat ( Pc (pj8 ae).1 (pj8 ae).2.1 (pj8 ae).2.2.1 bk ).toNat bk ) )==(pj8 ae).2.2.2.1 )=false->( I64 ( d25.2+( 1:Int ) ) )/\( ∃ dm:( List ( ( Int×Int×Int×Bool )×Int ) )×Int ,( ( True/\(pj4 ae).2.1=(pj4 ae).2.1/\(pj4 ae).2.2.1=(pj4 ae).2.2.1/\True/\(pj8 ae).2.2.2.1=(pj8 ae).2.2.2.1/\( (pj4 (pj8 ae)).1=(pj4 (pj8 ae)).1/\(pj4 (pj8 ae)).2.1=(pj4 (pj8 ae)).2.1/\( ( [ ]:List SV )=[ ] ) )/\( d25.2+( 1:Int ) )=dm.2/\True )/\( ( ae.1=ae.1/\ae.2.1=ae.2.1/\ae.2.2.1=ae.2.2.1/\ae.2.2.2.1=ae.2.2.2.1/\(pj4 ae).1=(pj4 ae).1/\True/\( ( [ ]:List SV )=[ ] ) )/\( rK=dm.1 )/\( (pj4 ae).2.2.2.1=(pj4 ae).2.2.2.1/\(pj8 ae).1=(pj8 ae).1/\(pj8 ae).2.1=(pj8 ae).2.1/\(pj8 ae).2.2.1=(pj8 ae).2.2.1/\( ( [ ]:List SV )=[ ] ) )/\( (pj8 (Q1 (Q1 ae)))=(pj8 (Q1 (Q1 ae)))/\( True/\(pj4 (pj8 ae)).2.2.1=(pj4 (pj8 ae)).2.2.1/\(pj4 (pj8 ae)).2.2.2.1=(pj4 (pj8 ae)).2.2.2.1/\True/\True/\True/\True/\(pj4 (Q1 ae)).1=(pj4 (Q1 ae)).1/\True/\True/\(pj4 (Q1 ae)).2.1=(pj4 (Q1 ae)).2.1/\(pj4 (Q1 ae)).2.2.1=(pj4 (Q1 ae)).2.2.1/\True/\True/\True/\True/\True/\True/\True/\True/\True/\True/\True/\True/\True/\True/\True/\True/\True/\True/\True/\True/\True/\True/\True/\True/\True/\True/\True/\True/\True/\True/\True/\True/\True/\True/\True/\True/\(pj4 (Q1 ae)).2.2.2.1=(pj4 (Q1 ae)).2.2.2.1/\(pj8 (Q1 ae)).1=(pj8 (Q1 ae)).1/\(pj8 (Q1 ae)).2.1=(pj8 (Q1 ae)).2.1/\(pj8 (Q1 ae)).2.2.1=(pj8 (Q1 ae)).2.2.1/\(pj8 (Q1 ae)).2.2.2.1=(pj8 (Q1 ae)).2.2.2.1/\True/\(pj4 (pj8 (Q1 ae))).1=(pj4 (pj8 (Q1 ae))).1/\True/\(pj4 (pj8 (Q1 ae))).2.1=(pj4 (pj8 (Q1 ae))).2.1/\(pj4 (pj8 (Q1 ae))).2.2.1=(pj4 (pj8 (Q1 ae))).2.2.1/\(pj4 (pj8 (Q1 ae))).2.2.2.1=(pj4 (pj8 (Q1 ae))).2.2.2.1/\True/\(Q1 (Q1 ae)).1=(Q1 (Q1 ae)).1/\True/\(Q1 (Q1 ae)).2.1=(Q1 (Q1 ae)).2.1/\(Q1 (Q1 ae)).2.2.1=(Q1 (Q1 ae)).2.2.1/\( (Q1 (Q1 ae)).2.2.2.1=(Q1 (Q1 ae)).2.2.2.1/\(pj4 (Q1 (Q1 ae))).1=(pj4 (Q1 (Q1 ae))).1/\(pj4 (Q1 (Q1 ae))).2.1=(pj4 (Q1 (Q1 ae))).2.1/\(pj4 (Q1 (Q1 ae))).2.2.1=(pj4 (Q1 (Q1 ae))).2.2.1/\(pj4 (Q1 (Q1 ae))).2.2.2.1=(pj4 (Q1 (Q1 ae))).2.2.2.1/\True/\( ( [ ]:List SV )=[ ] ) )/\True/\True/\True/\True/\True/\True/\True/\True/\True/\True/\True/\True/\True/\True/\True/\True/\True/\True/\True/\( ( [ ]:List SV )=[ ] ) ) )/\( (Q1 ae).1=(Q1 ae).1/\(Q1 ae).2.1=(Q1 ae).2.1/\( ( [ ]:List SV )=[ ] ) )/\( (Q1 ae).2.2.1=(Q1 ae).2.2.1/\True/\( ( [ ]:List SV )=[ ] ) )/\( (Q1 ae).2.2.2.1=(Q1 ae).2.2.2.1/\( List.isEmpty (Q1 ae).2.2.2.1 )=( List.isEmpty (Q1 ae).2.2.2.1 ) )/\True ) )/\mf dm ) ) ) )/\( ( decide ( NR (pj8 ae).1 (pj8 ae).2.2.1 bk<=ae.2.2.2.1 ) )=false->( Sw d25 al ae jq mf bk ) ) ):Prop)
abbrev Vn (hd:Int) (rows:List Int) (aw:List Int) (bd:Int):=((0:Int)=(if Qc hd rows aw bd=0 then hd else 0)/\True/\(([]:List SV)=[]))
abbrev Kb :=(List ((Int×Int×Int×Bool)×Int))
abbrev Vr (hd:Int) (rows:List Int) (aw:List Int) (bd:Int):=(((JE hd rows aw bd)=[]/\(JE hd rows aw bd).isEmpty=true)/\True)
def WU (hd:Int) (rows:List Int) (aw:List Int) (bd:Int):Prop :=
  (rows.length <= 1000000) /\ (((Qg hd rows) != (0:Int)) = true ->
    (((Vn hd rows aw bd) /\ (0:Int) = (Ig hd rows aw bd) /\ (Qg hd rows) = (Qc hd rows aw bd) /\ (([]:List SV) = [])) /\ (Vr hd rows aw bd))) /\
  (((Qg hd rows) != (0:Int)) = false ->
    (((lI aw) != (lI rows)) = true ->
      (((Vn hd rows aw bd) /\ (0:Int) = (Ig hd rows aw bd) /\ (4:Int) = (Qc hd rows aw bd) /\ (([]:List SV) = [])) /\ (Vr hd rows aw bd))) /\
    (((lI aw) != (lI rows)) = false ->
      (0 <= hd) /\ (I64 (UI .i64 (1:Int) hd)) /\ (I64 ((UI .i64 (1:Int) hd) - (1:Int))) /\ (aw.length <= 1000000) /\ ((!(!(aw.any fun n => decide (n < (0:Int)) || decide (((UI .i64 (1:Int) hd) - (1:Int)) < n)))) = true ->
        (((Vn hd rows aw bd) /\ (0:Int) = (Ig hd rows aw bd) /\ (2:Int) = (Qc hd rows aw bd) /\ (([]:List SV) = [])) /\ (Vr hd rows aw bd))) /\
      ((!(!(aw.any fun n => decide (n < (0:Int)) || decide (((UI .i64 (1:Int) hd) - (1:Int)) < n)))) = false ->
        ([bd].length <= 1000000) /\ ((!(!([bd].any fun n => decide (n < (1:Int)) || decide ((24:Int) < n)))) = true ->
          (((Vn hd rows aw bd) /\ (0:Int) = (Ig hd rows aw bd) /\ (3:Int) = (Qc hd rows aw bd) /\ (([]:List SV) = [])) /\ (Vr hd rows aw bd))) /\
        ((!(!([bd].any fun n => decide (n < (1:Int)) || decide ((24:Int) < n)))) = false ->
          ∃ (e4:Unit) (d40:(List Int) × Int × Int), ((aw = aw /\ bd = bd /\ True /\ True /\ (0:Int) = d40.2.1 /\ rows = rows /\ (lI rows) = (lI rows) /\ (0:Int) = d40.2.2 /\ True) /\ ((hd = hd /\ rows = rows /\ (([]:List SV) = [])) /\ (hd = hd /\ True /\ (([]:List SV) = [])) /\ (d40.1 = [] /\ (List.isEmpty d40.1) = true) /\ True)) /\
          LoopP (fun (d4:(List Int) × Int × Int) (q4:((List Int) × Int × Int) -> Prop) =>
            ((decide (d4.2.2 < (lI rows))) = true ->
              (0 <= d4.2.2) /\ (d4.2.2 < (List.length rows)) /\ (0 <= d4.2.2) /\ (d4.2.2 < (List.length aw)) /\ ∀ w5:List Value, ∃ (e9:Int × Int × Int × Int × Bool × Bool × (List Int) × Int × Int × (List Int) × Int × (List Int) × Int × Int × Int × (List Int) × Int × Int × Bool × Int × Int × Int × (List Int) × Int × Int × Int × Int × Int × Int × Int × Int × Bool × (List Value)) (d90:Bool × Int × Int × Int × Int × Bool × Int), ((True /\ (1048576:Int) = d90.2.1 /\ True /\ (false = (pj4 e9).1 /\ true = (pj4 e9).2.1 /\ (([]:List SV) = [])) /\ (0:Int) = (pj4 d90).2.2 /\ True) /\ (((gD rows d4.2.2 0) = e9.1 /\ (gD aw d4.2.2 0) = e9.2.1 /\ hd = e9.2.2.1 /\ bd = e9.2.2.2.1 /\ false = d90.1 /\ True /\ (([]:List SV) = [])) /\ ((0:Int) = d90.2.2.1 /\ (0:Int) = d90.2.2.2.1 /\ (0:Int) = (pj4 d90).1 /\ false = (pj4 d90).2.1 /\ (([]:List SV) = [])) /\ ((Q1 (Q1 e9)) = w5 /\ (True /\ aw = (pj4 e9).2.2.1 /\ bd = (pj4 e9).2.2.2.1 /\ True /\ True /\ True /\ True /\ d4.2.1 = (pj4 (pj8 e9)).1 /\ True /\ True /\ d4.2.2 = (pj4 (pj8 e9)).2.1 /\ (gD rows d4.2.2 0) = (pj4 (pj8 e9)).2.2.1 /\ True /\ True /\ True /\ True /\ True /\ True /\ True /\ True /\ True /\ True /\ True /\ True /\ True /\ True /\ True /\ True /\ True /\ True /\ True /\ True /\ True /\ True /\ True /\ True /\ True /\ True /\ True /\ True /\ True /\ True /\ True /\ True /\ True /\ True /\ True /\ True /\ rows = (pj4 (pj8 e9)).2.2.2.1 /\ (lI rows) = (Q1 e9).1 /\ d4.2.2 = (Q1 e9).2.1 /\ (decide (d4.2.2 < (lI rows))) = (Q1 e9).2.2.1 /\ d4.2.2 = (Q1 e9).2.2.2.1 /\ True /\ (gD rows d4.2.2 0) = (pj4 (Q1 e9)).1 /\ True /\ (gD rows d4.2.2 0) = (pj4 (Q1 e9)).2.1 /\ aw = (pj4 (Q1 e9)).2.2.1 /\ d4.2.2 = (pj4 (Q1 e9)).2.2.2.1 /\ True /\ (gD aw d4.2.2 0) = (pj8 (Q1 e9)).1 /\ True /\ hd = (pj8 (Q1 e9)).2.1 /\ bd = (pj8 (Q1 e9)).2.2.1 /\ ((gD rows d4.2.2 0) = (pj8 (Q1 e9)).2.2.2.1 /\ (gD aw d4.2.2 0) = (pj4 (pj8 (Q1 e9))).1 /\ hd = (pj4 (pj8 (Q1 e9))).2.1 /\ bd = (pj4 (pj8 (Q1 e9))).2.2.1 /\ false = (pj4 (pj8 (Q1 e9))).2.2.2.1 /\ True /\ (([]:List SV) = [])) /\ True /\ True /\ True /\ True /\ True /\ True /\ True /\ True /\ True /\ True /\ True /\ True /\ True /\ True /\ True /\ True /\ True /\ True /\ True /\ (([]:List SV) = []))) /\ (hd = (pj8 e9).1 /\ rows = (pj8 e9).2.1 /\ (([]:List SV) = [])) /\ (hd = (pj8 e9).2.2.1 /\ True /\ (([]:List SV) = [])) /\ (d4.1 = (pj8 e9).2.2.2.1 /\ (List.isEmpty d4.1) = (List.isEmpty (pj8 e9).2.2.2.1)) /\ True)) /\
              LoopP (fun (d9:Bool × Int × Int × Int × Int × Bool × Int) (q9:(Bool × Int × Int × Int × Int × Bool × Int) -> Prop) =>
                ((decide ((pj4 d9).2.2 < (2:Int))) = true ->
                  (0 <= (pj4 d9).2.2) /\ ((pj4 d9).2.2 < (2:Int)) /\
                  ((pj4 d9).2.2 = (0:Int) ->
                     (BQ d9 e9 q9 (pj4 e9).1)) /\
                  ((pj4 d9).2.2 = (1:Int) ->
                     (BQ d9 e9 q9 (pj4 e9).2.1)) /\
                  True) /\
                ((decide ((pj4 d9).2.2 < (2:Int))) = false ->
                  ((decide (d9.2.1 >= (1048576:Int))) = true ->
                    (Q1 (Q1 e9)) = w5 /\ ((decide ((1048576:Int) >= (1048576:Int))) = true ->
                      (((Vn hd rows aw bd) /\ (0:Int) = (Ig hd rows aw bd) /\ (9:Int) = (Qc hd rows aw bd) /\ (([]:List SV) = [])) /\ (Vr hd rows aw bd))) /\
                    ((decide ((1048576:Int) >= (1048576:Int))) = false ->
                      (((List.length (pj8 e9).2.2.2.1) + (List.length [(0:Int)])) * 8 <= 70368744177664) /\ (I64 ((pj4 (pj8 e9)).1 + (1048576:Int))) /\ (I64 ((Q1 e9).2.1 + (1:Int))) /\ (∃ d18:(List Int) × Int × Int, (((pj4 e9).2.2.1 = aw /\ (pj4 e9).2.2.2.1 = bd /\ True /\ True /\ ((pj4 (pj8 e9)).1 + (1048576:Int)) = d18.2.1 /\ (pj4 (pj8 e9)).2.2.2.1 = rows /\ (Q1 e9).1 = (lI rows) /\ ((Q1 e9).2.1 + (1:Int)) = d18.2.2 /\ True) /\ (((pj8 e9).1 = hd /\ (pj8 e9).2.1 = rows /\ (([]:List SV) = [])) /\ ((pj8 e9).2.2.1 = hd /\ True /\ (([]:List SV) = [])) /\ (((pj8 e9).2.2.2.1 ++ [(0:Int)]) = d18.1 /\ false = (List.isEmpty d18.1)) /\ True)) /\ q4 d18))) /\
                  ((decide (d9.2.1 >= (1048576:Int))) = false ->
                    ∀ rL:List Value, (I64 (e9.2.2.1 - (1:Int))) /\ rL = rL /\ (I64 (e9.2.2.1 - (1:Int))) /\ ((0 <= e9.1 /\ e9.1 < 16777216) /\ (0 <= e9.2.1 /\ e9.2.1 < 16777216) /\ 0 <= (e9.2.2.1 - (1:Int)) /\ (e9.2.2.1 - (1:Int)) <= 24) /\ (I64 (d9.2.1 - (QG e9.1.toNat e9.2.1.toNat (e9.2.2.1 - (1:Int)).toNat (pj4 d9).2.1))) /\ (True) /\ ∃ (al:Int × Int × Int × Int × Bool × Int × (List Int) × Int × Int × (List Int) × Int × (List Int) × Int × Int × Int × (List Int) × Int × Int × Bool × Int × Int × Int × (List Int) × Int × Int × Int × Int × Int × Int × Int × Int × Bool × (List Value)) (fM:Kb × Int × Int × Int × Int × Bool × Int), ((True /\ (if (pj4 d9).2.1 = true then 1 else 0) = fM.2.1 /\ d9.2.1 = (pj4 al).2.1 /\ True /\ (d9.2.1 - (QG e9.1.toNat e9.2.1.toNat (e9.2.2.1 - (1:Int)).toNat (pj4 d9).2.1)) = (pj4 fM).2.2 /\ True) /\ ((e9.1 = al.1 /\ e9.2.1 = al.2.1 /\ e9.2.2.1 = al.2.2.1 /\ e9.2.2.2.1 = al.2.2.2.1 /\ (pj4 d9).2.1 = (pj4 al).1 /\ True /\ (([]:List SV) = [])) /\ (([]:List ((Int × Int × Int × Bool) × Int)) = fM.1) /\ (d9.2.2.1 = fM.2.2.1 /\ d9.2.2.2.1 = fM.2.2.2.1 /\ (pj4 d9).1 = (pj4 fM).1 /\ (pj4 d9).2.1 = (pj4 fM).2.1 /\ (([]:List SV) = [])) /\ ((Q1 (Q1 al)) = (Q1 (Q1 e9)) /\ (True /\ (pj4 e9).2.2.1 = (pj4 al).2.2.1 /\ (pj4 e9).2.2.2.1 = (pj4 al).2.2.2.1 /\ True /\ True /\ True /\ True /\ (pj4 (pj8 e9)).1 = (pj4 (pj8 al)).1 /\ True /\ True /\ (pj4 (pj8 e9)).2.1 = (pj4 (pj8 al)).2.1 /\ (pj4 (pj8 e9)).2.2.1 = (pj4 (pj8 al)).2.2.1 /\ True /\ True /\ True /\ True /\ True /\ True /\ True /\ True /\ True /\ True /\ True /\ True /\ True /\ True /\ True /\ True /\ True /\ True /\ True /\ True /\ True /\ True /\ True /\ True /\ True /\ True /\ True /\ True /\ True /\ True /\ True /\ True /\ True /\ True /\ True /\ True /\ (pj4 (pj8 e9)).2.2.2.1 = (pj4 (pj8 al)).2.2.2.1 /\ (Q1 e9).1 = (Q1 al).1 /\ (Q1 e9).2.1 = (Q1 al).2.1 /\ (Q1 e9).2.2.1 = (Q1 al).2.2.1 /\ (Q1 e9).2.2.2.1 = (Q1 al).2.2.2.1 /\ True /\ (pj4 (Q1 e9)).1 = (pj4 (Q1 al)).1 /\ True /\ (pj4 (Q1 e9)).2.1 = (pj4 (Q1 al)).2.1 /\ (pj4 (Q1 e9)).2.2.1 = (pj4 (Q1 al)).2.2.1 /\ (pj4 (Q1 e9)).2.2.2.1 = (pj4 (Q1 al)).2.2.2.1 /\ True /\ (pj8 (Q1 e9)).1 = (pj8 (Q1 al)).1 /\ True /\ (pj8 (Q1 e9)).2.1 = (pj8 (Q1 al)).2.1 /\ (pj8 (Q1 e9)).2.2.1 = (pj8 (Q1 al)).2.2.1 /\ ((pj8 (Q1 e9)).2.2.2.1 = (pj8 (Q1 al)).2.2.2.1 /\ (pj4 (pj8 (Q1 e9))).1 = (pj4 (pj8 (Q1 al))).1 /\ (pj4 (pj8 (Q1 e9))).2.1 = (pj4 (pj8 (Q1 al))).2.1 /\ (pj4 (pj8 (Q1 e9))).2.2.1 = (pj4 (pj8 (Q1 al))).2.2.1 /\ (pj4 (pj8 (Q1 e9))).2.2.2.1 = (pj4 (pj8 (Q1 al))).2.2.2.1 /\ True /\ (([]:List SV) = [])) /\ True /\ True /\ True /\ True /\ True /\ True /\ True /\ True /\ True /\ True /\ True /\ True /\ True /\ True /\ True /\ True /\ True /\ True /\ True /\ (([]:List SV) = []))) /\ ((pj8 e9).1 = (pj8 al).1 /\ (pj8 e9).2.1 = (pj8 al).2.1 /\ (([]:List SV) = [])) /\ ((pj8 e9).2.2.1 = (pj8 al).2.2.1 /\ True /\ (([]:List SV) = [])) /\ ((pj8 e9).2.2.2.1 = (pj8 al).2.2.2.1 /\ (List.isEmpty (pj8 e9).2.2.2.1) = (List.isEmpty (pj8 al).2.2.2.1)) /\ True)) /\
                    LoopP (fun (d22:Kb × Int × Int × Int × Int × Bool × Int) (jq:(Kb × Int × Int × Int × Int × Bool × Int) -> Prop) =>
                      ((decide (d22.2.2.1 > (0:Int))) = true ->
                        ∃ (ae:Int × Int × Int × Int × Bool × Int × Int × Int × Int × Int × Bool × Int × Bool × Bool × (List Int) × Int × Int × (List Int) × Int × (List Int) × Int × Int × Int × (List Int) × Int × Int × Bool × Int × Int × Int × (List Int) × Int × Int × Int × Int × Int × Int × Int × Int × Bool × (List Value)) (mg:Kb × Int), ((True /\ d22.2.1 = (pj4 ae).2.1 /\ (pj4 al).2.1 = (pj4 ae).2.2.1 /\ True /\ (pj4 d22).2.2 = (pj8 ae).2.2.2.1 /\ (false = (pj4 (pj8 ae)).1 /\ true = (pj4 (pj8 ae)).2.1 /\ (([]:List SV) = [])) /\ (0:Int) = mg.2 /\ True) /\ ((al.1 = ae.1 /\ al.2.1 = ae.2.1 /\ al.2.2.1 = ae.2.2.1 /\ al.2.2.2.1 = ae.2.2.2.1 /\ (pj4 al).1 = (pj4 ae).1 /\ True /\ (([]:List SV) = [])) /\ (d22.1 = mg.1) /\ (d22.2.2.1 = (pj4 ae).2.2.2.1 /\ d22.2.2.2.1 = (pj8 ae).1 /\ (pj4 d22).1 = (pj8 ae).2.1 /\ (pj4 d22).2.1 = (pj8 ae).2.2.1 /\ (([]:List SV) = [])) /\ ((pj8 (Q1 (Q1 ae))) = (Q1 (Q1 al)) /\ (True /\ (pj4 al).2.2.1 = (pj4 (pj8 ae)).2.2.1 /\ (pj4 al).2.2.2.1 = (pj4 (pj8 ae)).2.2.2.1 /\ True /\ True /\ True /\ True /\ (pj4 (pj8 al)).1 = (pj4 (Q1 ae)).1 /\ True /\ True /\ (pj4 (pj8 al)).2.1 = (pj4 (Q1 ae)).2.1 /\ (pj4 (pj8 al)).2.2.1 = (pj4 (Q1 ae)).2.2.1 /\ True /\ True /\ True /\ True /\ True /\ True /\ True /\ True /\ True /\ True /\ True /\ True /\ True /\ True /\ True /\ True /\ True /\ True /\ True /\ True /\ True /\ True /\ True /\ True /\ True /\ True /\ True /\ True /\ True /\ True /\ True /\ True /\ True /\ True /\ True /\ True /\ (pj4 (pj8 al)).2.2.2.1 = (pj4 (Q1 ae)).2.2.2.1 /\ (Q1 al).1 = (pj8 (Q1 ae)).1 /\ (Q1 al).2.1 = (pj8 (Q1 ae)).2.1 /\ (Q1 al).2.2.1 = (pj8 (Q1 ae)).2.2.1 /\ (Q1 al).2.2.2.1 = (pj8 (Q1 ae)).2.2.2.1 /\ True /\ (pj4 (Q1 al)).1 = (pj4 (pj8 (Q1 ae))).1 /\ True /\ (pj4 (Q1 al)).2.1 = (pj4 (pj8 (Q1 ae))).2.1 /\ (pj4 (Q1 al)).2.2.1 = (pj4 (pj8 (Q1 ae))).2.2.1 /\ (pj4 (Q1 al)).2.2.2.1 = (pj4 (pj8 (Q1 ae))).2.2.2.1 /\ True /\ (pj8 (Q1 al)).1 = (Q1 (Q1 ae)).1 /\ True /\ (pj8 (Q1 al)).2.1 = (Q1 (Q1 ae)).2.1 /\ (pj8 (Q1 al)).2.2.1 = (Q1 (Q1 ae)).2.2.1 /\ ((pj8 (Q1 al)).2.2.2.1 = (Q1 (Q1 ae)).2.2.2.1 /\ (pj4 (pj8 (Q1 al))).1 = (pj4 (Q1 (Q1 ae))).1 /\ (pj4 (pj8 (Q1 al))).2.1 = (pj4 (Q1 (Q1 ae))).2.1 /\ (pj4 (pj8 (Q1 al))).2.2.1 = (pj4 (Q1 (Q1 ae))).2.2.1 /\ (pj4 (pj8 (Q1 al))).2.2.2.1 = (pj4 (Q1 (Q1 ae))).2.2.2.1 /\ True /\ (([]:List SV) = [])) /\ True /\ True /\ True /\ True /\ True /\ True /\ True /\ True /\ True /\ True /\ True /\ True /\ True /\ True /\ True /\ True /\ True /\ True /\ True /\ (([]:List SV) = []))) /\ ((pj8 al).1 = (Q1 ae).1 /\ (pj8 al).2.1 = (Q1 ae).2.1 /\ (([]:List SV) = [])) /\ ((pj8 al).2.2.1 = (Q1 ae).2.2.1 /\ True /\ (([]:List SV) = [])) /\ ((pj8 al).2.2.2.1 = (Q1 ae).2.2.2.1 /\ (List.isEmpty (pj8 al).2.2.2.1) = (List.isEmpty (Q1 ae).2.2.2.1)) /\ True)) /\
                        LoopP (fun (d25:Kb × Int) (mf:(Kb × Int) -> Prop) =>
                          ((decide (d25.2 < (2:Int))) = true ->
                            (0 <= d25.2) /\ (d25.2 < (2:Int)) /\
                            (d25.2 = (0:Int) ->
                               (Hj d25 al ae jq mf (pj4 (pj8 ae)).1)) /\
                            (d25.2 = (1:Int) ->
                               (Hj d25 al ae jq mf (pj4 (pj8 ae)).2.1)) /\
                            True) /\
                          ((decide (d25.2 < (2:Int))) = false ->
                            (∃ d36:Kb × Int × Int × Int × Int × Bool × Int, ((True /\ (pj4 ae).2.1 = d36.2.1 /\ (pj4 ae).2.2.1 = (pj4 al).2.1 /\ True /\ (pj8 ae).2.2.2.1 = (pj4 d36).2.2 /\ True) /\ ((ae.1 = al.1 /\ ae.2.1 = al.2.1 /\ ae.2.2.1 = al.2.2.1 /\ ae.2.2.2.1 = al.2.2.2.1 /\ (pj4 ae).1 = (pj4 al).1 /\ True /\ (([]:List SV) = [])) /\ (d25.1 = d36.1) /\ ((pj4 ae).2.2.2.1 = d36.2.2.1 /\ (pj8 ae).1 = d36.2.2.2.1 /\ (pj8 ae).2.1 = (pj4 d36).1 /\ (pj8 ae).2.2.1 = (pj4 d36).2.1 /\ (([]:List SV) = [])) /\ ((Q1 (Q1 al)) = (pj8 (Q1 (Q1 ae))) /\ (True /\ (pj4 (pj8 ae)).2.2.1 = (pj4 al).2.2.1 /\ (pj4 (pj8 ae)).2.2.2.1 = (pj4 al).2.2.2.1 /\ True /\ True /\ True /\ True /\ (pj4 (Q1 ae)).1 = (pj4 (pj8 al)).1 /\ True /\ True /\ (pj4 (Q1 ae)).2.1 = (pj4 (pj8 al)).2.1 /\ (pj4 (Q1 ae)).2.2.1 = (pj4 (pj8 al)).2.2.1 /\ True /\ True /\ True /\ True /\ True /\ True /\ True /\ True /\ True /\ True /\ True /\ True /\ True /\ True /\ True /\ True /\ True /\ True /\ True /\ True /\ True /\ True /\ True /\ True /\ True /\ True /\ True /\ True /\ True /\ True /\ True /\ True /\ True /\ True /\ True /\ True /\ (pj4 (Q1 ae)).2.2.2.1 = (pj4 (pj8 al)).2.2.2.1 /\ (pj8 (Q1 ae)).1 = (Q1 al).1 /\ (pj8 (Q1 ae)).2.1 = (Q1 al).2.1 /\ (pj8 (Q1 ae)).2.2.1 = (Q1 al).2.2.1 /\ (pj8 (Q1 ae)).2.2.2.1 = (Q1 al).2.2.2.1 /\ True /\ (pj4 (pj8 (Q1 ae))).1 = (pj4 (Q1 al)).1 /\ True /\ (pj4 (pj8 (Q1 ae))).2.1 = (pj4 (Q1 al)).2.1 /\ (pj4 (pj8 (Q1 ae))).2.2.1 = (pj4 (Q1 al)).2.2.1 /\ (pj4 (pj8 (Q1 ae))).2.2.2.1 = (pj4 (Q1 al)).2.2.2.1 /\ True /\ (Q1 (Q1 ae)).1 = (pj8 (Q1 al)).1 /\ True /\ (Q1 (Q1 ae)).2.1 = (pj8 (Q1 al)).2.1 /\ (Q1 (Q1 ae)).2.2.1 = (pj8 (Q1 al)).2.2.1 /\ ((Q1 (Q1 ae)).2.2.2.1 = (pj8 (Q1 al)).2.2.2.1 /\ (pj4 (Q1 (Q1 ae))).1 = (pj4 (pj8 (Q1 al))).1 /\ (pj4 (Q1 (Q1 ae))).2.1 = (pj4 (pj8 (Q1 al))).2.1 /\ (pj4 (Q1 (Q1 ae))).2.2.1 = (pj4 (pj8 (Q1 al))).2.2.1 /\ (pj4 (Q1 (Q1 ae))).2.2.2.1 = (pj4 (pj8 (Q1 al))).2.2.2.1 /\ True /\ (([]:List SV) = [])) /\ True /\ True /\ True /\ True /\ True /\ True /\ True /\ True /\ True /\ True /\ True /\ True /\ True /\ True /\ True /\ True /\ True /\ True /\ True /\ (([]:List SV) = []))) /\ ((Q1 ae).1 = (pj8 al).1 /\ (Q1 ae).2.1 = (pj8 al).2.1 /\ (([]:List SV) = [])) /\ ((Q1 ae).2.2.1 = (pj8 al).2.2.1 /\ True /\ (([]:List SV) = [])) /\ ((Q1 ae).2.2.2.1 = (pj8 al).2.2.2.1 /\ (List.isEmpty (Q1 ae).2.2.2.1) = (List.isEmpty (pj8 al).2.2.2.1)) /\ True)) /\ jq d36))) mg) /\
                      ((decide (d22.2.2.1 > (0:Int))) = false ->
                        (Q1 (Q1 al)) = w5 /\ ((decide ((pj4 al).2.1 >= (1048576:Int))) = true ->
                          (((Vn hd rows aw bd) /\ (0:Int) = (Ig hd rows aw bd) /\ (9:Int) = (Qc hd rows aw bd) /\ (([]:List SV) = [])) /\ (Vr hd rows aw bd))) /\
                        ((decide ((pj4 al).2.1 >= (1048576:Int))) = false ->
                          (((List.length (pj8 al).2.2.2.1) + (List.length [d22.2.1])) * 8 <= 70368744177664) /\ (I64 ((pj4 (pj8 al)).1 + (pj4 al).2.1)) /\ (I64 ((Q1 al).2.1 + (1:Int))) /\ (∃ d37:(List Int) × Int × Int, (((pj4 al).2.2.1 = aw /\ (pj4 al).2.2.2.1 = bd /\ True /\ True /\ ((pj4 (pj8 al)).1 + (pj4 al).2.1) = d37.2.1 /\ (pj4 (pj8 al)).2.2.2.1 = rows /\ (Q1 al).1 = (lI rows) /\ ((Q1 al).2.1 + (1:Int)) = d37.2.2 /\ True) /\ (((pj8 al).1 = hd /\ (pj8 al).2.1 = rows /\ (([]:List SV) = [])) /\ ((pj8 al).2.2.1 = hd /\ True /\ (([]:List SV) = [])) /\ (((pj8 al).2.2.2.1 ++ [d22.2.1]) = d37.1 /\ false = (List.isEmpty d37.1)) /\ True)) /\ q4 d37)))) fM))) d90) /\
            ((decide (d4.2.2 < (lI rows))) = false ->
              (((hd = (if Qc hd rows aw bd = 0 then hd else 0) /\ True /\ (([]:List SV) = [])) /\ d4.2.1 = (Ig hd rows aw bd) /\ (0:Int) = (Qc hd rows aw bd) /\ (([]:List SV) = [])) /\ ((d4.1 = (JE hd rows aw bd) /\ (List.isEmpty d4.1) = (JE hd rows aw bd).isEmpty) /\ True)))) d40))))
def Qr:Cx:=⟨[(1000008,(.pair (.pair (.i .i64) (.pair (.i .i64) (.pair (.i .i64) .bo))) (.i .i64)))],[],20,[],0,[],[],[],[],false,[],[],[],[]⟩
def Qs:List (Nat×LoopAnn):=[]
def ZC:Cx:=⟨[],[(77,ZN),(79,M1),(80,ZR)],102,[],0,[(76,Q2p Qr (fun _=>Qs) c76 [.cell 4 true 4] 20),(78,JD)],[],[],[],false,[],[],[81],[(78,5)]⟩
def ZD:List (Nat×LoopAnn):=[(0,⟨Int×Int×Int×Int×Bool×Bool×(List Int)×Int×Int×(List Int)×Int×(List Int)×Int×Int×Int×(List Int)×Int×Int×Bool×Int×Int×Int×(List Int)×Int×Int×Int×Int×Int×Int×Int×Int×Bool×(List Value),Bool×Int×Int×Int×Int×Bool×Int,[0,3,4,15,16],fun e x=>[.box 65 0,.val (.i .i64) x.2.1,.box 6700004 0,.agg [.val .bo e.2.2.2.2.1,.val .bo e.2.2.2.2.2.1],.val (.i .i64) x.2.2.2.2.2.2],fun e x=>[(65,.slot 0,.cells [.val (.i .i64) e.1,.val (.i .i64) e.2.1,.val (.i .i64) e.2.2.1,.val (.i .i64) e.2.2.2.1,.val .bo x.1,.any] (some 119)),(6700004,.slot 4,.cells [.val (.i .i64) x.2.2.1,.val (.i .i64) x.2.2.2.1,.val (.i .i64) x.2.2.2.2.1,.val .bo x.2.2.2.2.2.1] (some 155)),(6699999,.key 6699999,.stk [.any,.val (.list (.i .i64)) e.2.2.2.2.2.2.1,.val (.i .i64) e.2.2.2.2.2.2.2.1,.box 3 0,.any,.any,.box 6 0,.val (.i .i64) e.2.2.2.2.2.2.2.2.2.2.2.2.1,.any,.any,.val (.i .i64) e.2.2.2.2.2.2.2.2.2.2.2.2.2.1,.val (.i .i64) e.2.2.2.2.2.2.2.2.2.2.2.2.2.2.1,.any,.any,.any,.any,.any,.any,.any,.any,.any,.any,.any,.any,.any,.any,.any,.any,.any,.any,.any,.any,.any,.any,.any,.any,.any,.any,.any,.any,.any,.any,.any,.any,.any,.any,.any,.any,.val (.list (.i .i64)) e.2.2.2.2.2.2.2.2.2.2.2.2.2.2.2.1,.val (.i .i64) e.2.2.2.2.2.2.2.2.2.2.2.2.2.2.2.2.1,.val (.i .i64) e.2.2.2.2.2.2.2.2.2.2.2.2.2.2.2.2.2.1,.val .bo e.2.2.2.2.2.2.2.2.2.2.2.2.2.2.2.2.2.2.1,.val (.i .i64) e.2.2.2.2.2.2.2.2.2.2.2.2.2.2.2.2.2.2.2.1,.any,.val (.i .i64) e.2.2.2.2.2.2.2.2.2.2.2.2.2.2.2.2.2.2.2.2.1,.any,.val (.i .i64) e.2.2.2.2.2.2.2.2.2.2.2.2.2.2.2.2.2.2.2.2.2.1,.val (.list (.i .i64)) e.2.2.2.2.2.2.2.2.2.2.2.2.2.2.2.2.2.2.2.2.2.2.1,.val (.i .i64) e.2.2.2.2.2.2.2.2.2.2.2.2.2.2.2.2.2.2.2.2.2.2.2.1,.any,.val (.i .i64) e.2.2.2.2.2.2.2.2.2.2.2.2.2.2.2.2.2.2.2.2.2.2.2.2.1,.box 3 0,.val (.i .i64) e.2.2.2.2.2.2.2.2.2.2.2.2.2.2.2.2.2.2.2.2.2.2.2.2.2.1,.val (.i .i64) e.2.2.2.2.2.2.2.2.2.2.2.2.2.2.2.2.2.2.2.2.2.2.2.2.2.2.1,.agg [.val (.i .i64) e.2.2.2.2.2.2.2.2.2.2.2.2.2.2.2.2.2.2.2.2.2.2.2.2.2.2.2.1,.val (.i .i64) e.2.2.2.2.2.2.2.2.2.2.2.2.2.2.2.2.2.2.2.2.2.2.2.2.2.2.2.2.1,.val (.i .i64) e.2.2.2.2.2.2.2.2.2.2.2.2.2.2.2.2.2.2.2.2.2.2.2.2.2.2.2.2.2.1,.val (.i .i64) e.2.2.2.2.2.2.2.2.2.2.2.2.2.2.2.2.2.2.2.2.2.2.2.2.2.2.2.2.2.2.1,.val .bo e.2.2.2.2.2.2.2.2.2.2.2.2.2.2.2.2.2.2.2.2.2.2.2.2.2.2.2.2.2.2.2.1,.nilM],.box 65 0,.any,.any,.any,.any,.any,.any,.any,.any,.any,.any,.any,.any,.any,.any,.any,.any,.any,.any] e.2.2.2.2.2.2.2.2.2.2.2.2.2.2.2.2.2.2.2.2.2.2.2.2.2.2.2.2.2.2.2.2),(3,.key 3,.cells [.val (.i .i64) e.2.2.2.2.2.2.2.2.1,.val (.list (.i .i64)) e.2.2.2.2.2.2.2.2.2.1] (some 30)),(6,.key 6,.cells [.val (.i .i64) e.2.2.2.2.2.2.2.2.2.2.1,.lst 76] (some 30)),(76,.cell 6 1,.lst 3 (.i .i64) e.2.2.2.2.2.2.2.2.2.2.2.1 (List.isEmpty e.2.2.2.2.2.2.2.2.2.2.2.1))]⟩),
 (2,⟨Int×Int×Int×Int×Bool×Int×(List Int)×Int×Int×(List Int)×Int×(List Int)×Int×Int×Int×(List Int)×Int×Int×Bool×Int×Int×Int×(List Int)×Int×Int×Int×Int×Int×Int×Int×Int×Bool×(List Value),(List ((Int×Int×Int×Bool)×Int))×Int×Int×Int×Int×Bool×Int,[0,2,3,4,9],fun e x=>[.box 65 0,.val (.i .i64) x.2.1,.val (.i .i64) e.2.2.2.2.2.1,.box 6700004 0,.val (.i .i64) x.2.2.2.2.2.2],fun e x=>[(65,.slot 0,.cells [.val (.i .i64) e.1,.val (.i .i64) e.2.1,.val (.i .i64) e.2.2.1,.val (.i .i64) e.2.2.2.1,.val .bo e.2.2.2.2.1,.map 670004600008] (some 119)),(670004600008,.cell 65 5,.map (.pair (.i .i64) (.pair (.i .i64) (.pair (.i .i64) .bo))) (.i .i64) x.1),(6700004,.slot 4,.cells [.val (.i .i64) x.2.2.1,.val (.i .i64) x.2.2.2.1,.val (.i .i64) x.2.2.2.2.1,.val .bo x.2.2.2.2.2.1] (some 155)),(6699999,.key 6699999,.stk [.any,.val (.list (.i .i64)) e.2.2.2.2.2.2.1,.val (.i .i64) e.2.2.2.2.2.2.2.1,.box 3 0,.any,.any,.box 6 0,.val (.i .i64) e.2.2.2.2.2.2.2.2.2.2.2.2.1,.any,.any,.val (.i .i64) e.2.2.2.2.2.2.2.2.2.2.2.2.2.1,.val (.i .i64) e.2.2.2.2.2.2.2.2.2.2.2.2.2.2.1,.any,.any,.any,.any,.any,.any,.any,.any,.any,.any,.any,.any,.any,.any,.any,.any,.any,.any,.any,.any,.any,.any,.any,.any,.any,.any,.any,.any,.any,.any,.any,.any,.any,.any,.any,.any,.val (.list (.i .i64)) e.2.2.2.2.2.2.2.2.2.2.2.2.2.2.2.1,.val (.i .i64) e.2.2.2.2.2.2.2.2.2.2.2.2.2.2.2.2.1,.val (.i .i64) e.2.2.2.2.2.2.2.2.2.2.2.2.2.2.2.2.2.1,.val .bo e.2.2.2.2.2.2.2.2.2.2.2.2.2.2.2.2.2.2.1,.val (.i .i64) e.2.2.2.2.2.2.2.2.2.2.2.2.2.2.2.2.2.2.2.1,.any,.val (.i .i64) e.2.2.2.2.2.2.2.2.2.2.2.2.2.2.2.2.2.2.2.2.1,.any,.val (.i .i64) e.2.2.2.2.2.2.2.2.2.2.2.2.2.2.2.2.2.2.2.2.2.1,.val (.list (.i .i64)) e.2.2.2.2.2.2.2.2.2.2.2.2.2.2.2.2.2.2.2.2.2.2.1,.val (.i .i64) e.2.2.2.2.2.2.2.2.2.2.2.2.2.2.2.2.2.2.2.2.2.2.2.1,.any,.val (.i .i64) e.2.2.2.2.2.2.2.2.2.2.2.2.2.2.2.2.2.2.2.2.2.2.2.2.1,.box 3 0,.val (.i .i64) e.2.2.2.2.2.2.2.2.2.2.2.2.2.2.2.2.2.2.2.2.2.2.2.2.2.1,.val (.i .i64) e.2.2.2.2.2.2.2.2.2.2.2.2.2.2.2.2.2.2.2.2.2.2.2.2.2.2.1,.agg [.val (.i .i64) e.2.2.2.2.2.2.2.2.2.2.2.2.2.2.2.2.2.2.2.2.2.2.2.2.2.2.2.1,.val (.i .i64) e.2.2.2.2.2.2.2.2.2.2.2.2.2.2.2.2.2.2.2.2.2.2.2.2.2.2.2.2.1,.val (.i .i64) e.2.2.2.2.2.2.2.2.2.2.2.2.2.2.2.2.2.2.2.2.2.2.2.2.2.2.2.2.2.1,.val (.i .i64) e.2.2.2.2.2.2.2.2.2.2.2.2.2.2.2.2.2.2.2.2.2.2.2.2.2.2.2.2.2.2.1,.val .bo e.2.2.2.2.2.2.2.2.2.2.2.2.2.2.2.2.2.2.2.2.2.2.2.2.2.2.2.2.2.2.2.1,.nilM],.box 65 0,.any,.any,.any,.any,.any,.any,.any,.any,.any,.any,.any,.any,.any,.any,.any,.any,.any,.any] e.2.2.2.2.2.2.2.2.2.2.2.2.2.2.2.2.2.2.2.2.2.2.2.2.2.2.2.2.2.2.2.2),(3,.key 3,.cells [.val (.i .i64) e.2.2.2.2.2.2.2.2.1,.val (.list (.i .i64)) e.2.2.2.2.2.2.2.2.2.1] (some 30)),(6,.key 6,.cells [.val (.i .i64) e.2.2.2.2.2.2.2.2.2.2.1,.lst 76] (some 30)),(76,.cell 6 1,.lst 3 (.i .i64) e.2.2.2.2.2.2.2.2.2.2.2.1 (List.isEmpty e.2.2.2.2.2.2.2.2.2.2.2.1))]⟩),
 (4,⟨Int×Int×Int×Int×Bool×Int×Int×Int×Int×Int×Bool×Int×Bool×Bool×(List Int)×Int×Int×(List Int)×Int×(List Int)×Int×Int×Int×(List Int)×Int×Int×Bool×Int×Int×Int×(List Int)×Int×Int×Int×Int×Int×Int×Int×Int×Bool×(List Value),(List ((Int×Int×Int×Bool)×Int))×Int,[0,2,3,4,9,63,64],fun e x=>[.box 65 0,.val (.i .i64) e.2.2.2.2.2.1,.val (.i .i64) e.2.2.2.2.2.2.1,.box 6700004 0,.val (.i .i64) e.2.2.2.2.2.2.2.2.2.2.2.1,.agg [.val .bo e.2.2.2.2.2.2.2.2.2.2.2.2.1,.val .bo e.2.2.2.2.2.2.2.2.2.2.2.2.2.1],.val (.i .i64) x.2],fun e x=>[(65,.slot 0,.cells [.val (.i .i64) e.1,.val (.i .i64) e.2.1,.val (.i .i64) e.2.2.1,.val (.i .i64) e.2.2.2.1,.val .bo e.2.2.2.2.1,.map 670004600008] (some 119)),(670004600008,.cell 65 5,.map (.pair (.i .i64) (.pair (.i .i64) (.pair (.i .i64) .bo))) (.i .i64) x.1),(6700004,.slot 4,.cells [.val (.i .i64) e.2.2.2.2.2.2.2.1,.val (.i .i64) e.2.2.2.2.2.2.2.2.1,.val (.i .i64) e.2.2.2.2.2.2.2.2.2.1,.val .bo e.2.2.2.2.2.2.2.2.2.2.1] (some 155)),(6699999,.key 6699999,.stk [.any,.val (.list (.i .i64)) e.2.2.2.2.2.2.2.2.2.2.2.2.2.2.1,.val (.i .i64) e.2.2.2.2.2.2.2.2.2.2.2.2.2.2.2.1,.box 3 0,.any,.any,.box 6 0,.val (.i .i64) e.2.2.2.2.2.2.2.2.2.2.2.2.2.2.2.2.2.2.2.2.1,.any,.any,.val (.i .i64) e.2.2.2.2.2.2.2.2.2.2.2.2.2.2.2.2.2.2.2.2.2.1,.val (.i .i64) e.2.2.2.2.2.2.2.2.2.2.2.2.2.2.2.2.2.2.2.2.2.2.1,.any,.any,.any,.any,.any,.any,.any,.any,.any,.any,.any,.any,.any,.any,.any,.any,.any,.any,.any,.any,.any,.any,.any,.any,.any,.any,.any,.any,.any,.any,.any,.any,.any,.any,.any,.any,.val (.list (.i .i64)) e.2.2.2.2.2.2.2.2.2.2.2.2.2.2.2.2.2.2.2.2.2.2.2.1,.val (.i .i64) e.2.2.2.2.2.2.2.2.2.2.2.2.2.2.2.2.2.2.2.2.2.2.2.2.1,.val (.i .i64) e.2.2.2.2.2.2.2.2.2.2.2.2.2.2.2.2.2.2.2.2.2.2.2.2.2.1,.val .bo e.2.2.2.2.2.2.2.2.2.2.2.2.2.2.2.2.2.2.2.2.2.2.2.2.2.2.1,.val (.i .i64) e.2.2.2.2.2.2.2.2.2.2.2.2.2.2.2.2.2.2.2.2.2.2.2.2.2.2.2.1,.any,.val (.i .i64) e.2.2.2.2.2.2.2.2.2.2.2.2.2.2.2.2.2.2.2.2.2.2.2.2.2.2.2.2.1,.any,.val (.i .i64) e.2.2.2.2.2.2.2.2.2.2.2.2.2.2.2.2.2.2.2.2.2.2.2.2.2.2.2.2.2.1,.val (.list (.i .i64)) e.2.2.2.2.2.2.2.2.2.2.2.2.2.2.2.2.2.2.2.2.2.2.2.2.2.2.2.2.2.2.1,.val (.i .i64) e.2.2.2.2.2.2.2.2.2.2.2.2.2.2.2.2.2.2.2.2.2.2.2.2.2.2.2.2.2.2.2.1,.any,.val (.i .i64) e.2.2.2.2.2.2.2.2.2.2.2.2.2.2.2.2.2.2.2.2.2.2.2.2.2.2.2.2.2.2.2.2.1,.box 3 0,.val (.i .i64) e.2.2.2.2.2.2.2.2.2.2.2.2.2.2.2.2.2.2.2.2.2.2.2.2.2.2.2.2.2.2.2.2.2.1,.val (.i .i64) e.2.2.2.2.2.2.2.2.2.2.2.2.2.2.2.2.2.2.2.2.2.2.2.2.2.2.2.2.2.2.2.2.2.2.1,.agg [.val (.i .i64) e.2.2.2.2.2.2.2.2.2.2.2.2.2.2.2.2.2.2.2.2.2.2.2.2.2.2.2.2.2.2.2.2.2.2.2.1,.val (.i .i64) e.2.2.2.2.2.2.2.2.2.2.2.2.2.2.2.2.2.2.2.2.2.2.2.2.2.2.2.2.2.2.2.2.2.2.2.2.1,.val (.i .i64) e.2.2.2.2.2.2.2.2.2.2.2.2.2.2.2.2.2.2.2.2.2.2.2.2.2.2.2.2.2.2.2.2.2.2.2.2.2.1,.val (.i .i64) e.2.2.2.2.2.2.2.2.2.2.2.2.2.2.2.2.2.2.2.2.2.2.2.2.2.2.2.2.2.2.2.2.2.2.2.2.2.2.1,.val .bo e.2.2.2.2.2.2.2.2.2.2.2.2.2.2.2.2.2.2.2.2.2.2.2.2.2.2.2.2.2.2.2.2.2.2.2.2.2.2.2.1,.nilM],.box 65 0,.any,.any,.any,.any,.any,.any,.any,.any,.any,.any,.any,.any,.any,.any,.any,.any,.any,.any] e.2.2.2.2.2.2.2.2.2.2.2.2.2.2.2.2.2.2.2.2.2.2.2.2.2.2.2.2.2.2.2.2.2.2.2.2.2.2.2.2),(3,.key 3,.cells [.val (.i .i64) e.2.2.2.2.2.2.2.2.2.2.2.2.2.2.2.2.1,.val (.list (.i .i64)) e.2.2.2.2.2.2.2.2.2.2.2.2.2.2.2.2.2.1] (some 30)),(6,.key 6,.cells [.val (.i .i64) e.2.2.2.2.2.2.2.2.2.2.2.2.2.2.2.2.2.2.1,.lst 76] (some 30)),(76,.cell 6 1,.lst 3 (.i .i64) e.2.2.2.2.2.2.2.2.2.2.2.2.2.2.2.2.2.2.2.1 (List.isEmpty e.2.2.2.2.2.2.2.2.2.2.2.2.2.2.2.2.2.2.2.1))]⟩)]
def Gf:Cx:=⟨[(3,(.i .i64))],[(47,WW),(52,X_)],84,[],0,[(53,Q2p ZC (fun _=>ZD) c53 [.tmp 2,.tmp 3] 102)],[],[],[],false,[],[],[],[]⟩
def RA (hd:Int) (rows:List Int) (aw:List Int) (bd:Int):List (Nat×LoopAnn):=[(1,⟨Unit,(List Int)×Int×Int,[1,2,3,6,7,48,49,50],fun e x=>[.val (.list (.i .i64)) aw,.val (.i .i64) bd,.box 3 0,.box 6 0,.val (.i .i64) x.2.1,.val (.list (.i .i64)) rows,.val (.i .i64) (((List.length rows):Nat):Int),.val (.i .i64) x.2.2],fun e x=>[(3,.slot 3,.cells [.val (.i .i64) hd,.val (.list (.i .i64)) rows] (some 30)),(6,.slot 6,.cells [.val (.i .i64) hd,.lst 76] (some 30)),(76,.cell 6 1,.lst 3 (.i .i64) x.1 (List.isEmpty x.1))]⟩)]
theorem TE (d:(Int×List Int)×List Int×Int):gwp (Gf) (RA d.1.1 d.1.2 d.2.1 d.2.2) c29 0 (Kn [.cell 6 true 2,.tmp 7,.tmp 8] (NF d) (Nx d)) (Qx 84 (AL.can Gw d))=WU d.1.1 d.1.2 d.2.1 d.2.2:=by kernel_rfl
abbrev TO:Prop:=OkC Tryz.prog 29 UF
theorem Rn (h:∀ (hd:Int) (rows:List Int) (aw:List Int) (bd:Int),(rows.length<=1000/\aw.length<=1000)->WU hd rows aw bd):OkC Tryz.prog 29 UF :=
 QH Q6q mixed (C:=Gf) (V:=fun (d:(Int×List Int)×List Int×Int)=>WU d.1.1 d.1.2 d.2.1 d.2.2) ⟨(.cons Nt (.cons Us .nil)),(XsOk.cons (U8 Q6l mixed (C:=ZC) ⟨(.cons WI (.cons Lz (.cons WH .nil))),(XsOk.cons (U8 Q5s mixed (C:=Qr) ⟨.nil,XsOk.nil,ItsOk.nil,YlOk.nil,IysOk.nil,XfOk.nil⟩ (fun _=>Qs)) (XsOk.cons XB.1 XsOk.nil)),ItsOk.nil,YlOk.nil,IysOk.nil,(XfOk.cons rfl XB.2 XfOk.nil)⟩ (fun _=>ZD)) XsOk.nil),ItsOk.nil,YlOk.nil,IysOk.nil,XfOk.nil⟩ (TE) fun d hp=>h d.1.1 d.1.2 d.2.1 d.2.2 hp
theorem Z3i (n a b:Int):(!inI n a b)=(decide (n<a)||decide (b<n)):=by unfold inI;rw[Bool.not_and,<-decide_not,<-decide_not];congr 1<;>(rw[decide_eq_decide];omega)
theorem Q20 (l:List Int) (a:Int):(l++[a]).isEmpty=false:=by cases l<;>rfl
theorem Q2r {hd:Int}{rows aw:List Int}{bd E:Int}(h:Qc hd rows aw bd=E) (h0:E≠0):((0:Int)=if Qc hd rows aw bd=0 then hd else 0)/\(0:Int)=Ig hd rows aw bd/\E=Qc hd rows aw bd/\JE hd rows aw bd=[]/\(JE hd rows aw bd).isEmpty=true:=by
 have e:JE hd rows aw bd=[]:=by unfold JE;rw[if_neg (by omega)]
 exact⟨by rw[if_neg (by omega)],by unfold Ig;rw[if_neg (by omega)],h.symm,e,by rw[e];rfl⟩
theorem Q3i {r:Nat}(hr:r<16777216) (b:Bool):ZG .or .i64 (UI .i64 (r:Int) 1) (if b=true then 1 else 0)=((2*r+(if b=true then 1 else 0):Nat):Int)/\InK .i64 (UI .i64 (r:Int) 1):=by
 have e1:UI .i64 (r:Int) 1=((2*r:Nat):Int):=by show (r:Int)*2 ^ (Nat.min (1:Int).toNat 64)=_;rw[show Nat.min (1:Int).toNat 64=1 from rfl];omega
 rw[e1];refine⟨?_,by rw[Q7];omega⟩;have e3:∀ c:Nat,c<2->ZG .or .i64 ((2*r:Nat):Int) (c:Int)=((2*r+c:Nat):Int):=fun c hc=>by
  have e:(BitVec.ofInt 64 ((2*r:Nat):Int) ||| BitVec.ofInt 64 ((c:Nat):Int)).toNat=2*r+c:=by
   rw[BitVec.toNat_or,BitVec.toNat_ofInt,BitVec.toNat_ofInt];have h1:(((2*r:Nat):Int) % ((2 ^ 64:Nat):Int)).toNat=2 ^ 1*r:=by omega
   have h2:(((c:Nat):Int) % ((2 ^ 64:Nat):Int)).toNat=c:=by omega
   rw[h1,h2,<-Nat.two_pow_add_eq_or_of_lt (by omega)]
  show IntKind.wrap .i64 ((BitVec.ofInt 64 ((2*r:Nat):Int) ||| BitVec.ofInt 64 ((c:Nat):Int)).toNat:Int)=_;rw[e];simp[IntKind.wrap,IntKind.bits,IntKind.signed];omega
 cases b with
 |true=>exact e3 1 (by omega)
 |false=>exact e3 0 (by omega)
theorem Ii {hd:Int}{rows aw:List Int}{bd:Int}{i:Nat}(hi:i<rows.length) (h:1048576<=EH hd rows aw bd i):Dr hd rows aw bd=true:=by unfold Dr;rw[List.any_eq_true];exact⟨i,List.mem_range.2 hi,by rw[decide_eq_true_eq];exact h⟩
theorem Q0a {hd:Int}{rows aw:List Int}{bd:Int}(h:∀ i,i<rows.length->EH hd rows aw bd i<1048576):Dr hd rows aw bd=false:=by unfold Dr;rw[List.any_eq_false];intro i hi;have:=h i (List.mem_range.1 hi);rw[decide_eq_true_eq];omega
theorem Ai (hd:Int) (rows aw:List Int) (bd:Int):∀ n,(∀ j,j<n->EH hd rows aw bd j<1048576)->0<=Gx hd rows aw bd n/\Gx hd rows aw bd n<=1048576*n
 |0,_=>by simp[Gx]
 |n+1,h=>by
  have ih:=Ai hd rows aw bd n fun j hj=>h j (by omega);have h1:=h n (by omega);have h0:0<=EH hd rows aw bd n:=by have s1:=(Yb (rows.getD n 0).toNat (aw.getD n 0).toNat bd.toNat true (hd.toNat-1) 1 0 true).1;have s2:=(Yb (rows.getD n 0).toNat (aw.getD n 0).toNat bd.toNat false (hd.toNat-1) 1 0 false).1;have c1:=(JP (rows.getD n 0).toNat (aw.getD n 0).toNat (hd.toNat-1) true).1;have c2:=(JP (rows.getD n 0).toNat (aw.getD n 0).toNat (hd.toNat-1) false).1;unfold EH Y6 XD;rw[W3];split<;>omega
  unfold Gx;omega
set_option maxHeartbeats 4000000 in
theorem RH:TO:=Rn fun hd rows aw bd h=>by
 unfold WU;delta LM Sw BQ Hj Vn Kb Vr;(try delta lI gD sT I64 Q1 pj8 pj4);have e:∀ n a b:Int,(decide (n<a)||decide (b<n))=!inI n a b:=fun n a b=>(Z3i n a b).symm;simp only[List.any_cons,List.any_nil,Bool.or_false,e,Bool.not_not,List.length_cons,List.length_nil,true_and,and_true];have fail:∀ E:Int,Qc hd rows aw bd=E->E≠0->_:=fun E h h0=>Q2r h h0;refine⟨by omega,fun c=>?_,fun c=>⟨fun c2=>?_,fun c2=>?_⟩⟩
 .have c:Qg hd rows≠0:=by simpa using c
  obtain⟨f1,f2,f3,f4,f5⟩:=fail _ (show Qc hd rows aw bd=Qg hd rows by unfold Qc;rw[if_pos c]) c;and_intros<;>first|exact f1|exact f2|exact f3|exact f4|exact f5|trivial
 all_goals have c:Qg hd rows=0:=by simpa using c
 .have c2:aw.length≠rows.length:=fun h=>by rw[h] at c2;simp at c2
  obtain⟨f1,f2,f3,f4,f5⟩:=fail 4 (show Qc hd rows aw bd=4 by unfold Qc;rw[if_neg (by omega),if_pos c2]) (by decide);and_intros<;>first|exact f1|exact f2|exact f3|exact f4|exact f5|trivial
 have c2:aw.length=rows.length:=by
  apply Classical.byContradiction;intro h;have:((((aw.length:Nat):Int)) != ((rows.length:Nat):Int))=true:=by rw[bne_iff_ne];omega
  rw[this] at c2;cases c2
 obtain⟨p1,p2,p3,p4,p5⟩:=Z3y c;have hp:=YG p1 p2;have sh:UI .i64 1 hd=2 ^ hd.toNat:=BG (by omega) (by omega);rw[sh];refine⟨by omega,by rw[Q7];omega,by rw[Q7];omega,by omega,fun c3=>?_,fun c3=>⟨by omega,fun c4=>?_,fun c4=>?_⟩⟩
 .obtain⟨f1,f2,f3,f4,f5⟩:=fail 2 (show Qc hd rows aw bd=2 by unfold Qc;rw[if_neg (by omega),if_neg (by omega),if_pos c3]) (by decide);and_intros<;>first|exact f1|exact f2|exact f3|exact f4|exact f5|trivial
 .have c4:inI bd 1 24=false:=by simpa using c4
  obtain⟨f1,f2,f3,f4,f5⟩:=fail 3 (show Qc hd rows aw bd=3 by unfold Qc;rw[if_neg (by omega),if_neg (by omega),if_neg (by rw[c3];decide),if_pos c4]) (by decide);and_intros<;>first|exact f1|exact f2|exact f3|exact f4|exact f5|trivial
 have c4:inI bd 1 24=true:=by simpa using c4
 have ny:1<=bd/\bd<=24:=by unfold inI at c4;simpa using c4
 have iX:∀ x∈aw,0<=x/\x<16777216:=fun x hx=>by have h1:=List.any_eq_false.1 c3 x hx;unfold inI at h1;simp only[Bool.not_eq_true,Bool.not_eq_false',Bool.and_eq_true,decide_eq_true_eq] at h1;omega
 have eb:Qc hd rows aw bd=if Dr hd rows aw bd=true then 9 else 0:=by unfold Qc;rw[if_neg (by omega),if_neg (by omega),if_neg (by rw[c3];decide),if_neg (by rw[c4];decide)]
 clear c3 c4 sh;obtain⟨H,rfl⟩:=Int.eq_ofNat_of_zero_le (show 0<=hd by omega);obtain⟨B,rfl⟩:=Int.eq_ofNat_of_zero_le (show 0<=bd by omega);refine⟨(),([],0,0),by and_intros<;>first|rfl|trivial,?_⟩;refine⟨fun d=>∃ i:Nat,i<=rows.length/\(∀ j,j<i->EH H rows aw B j<1048576)/\d=(D5 H rows aw B i,Gx H rows aw B i,(i:Int)),fun d=>rows.length-d.2.2.toNat,⟨0,by omega,fun j hj=>by omega,rfl⟩,?_⟩;rintro _ ⟨i,hi,hall,rfl⟩;dsimp only;refine⟨fun g=>?_,fun g=>?_⟩
 .have g:i<rows.length:=by have:=of_decide_eq_true g;omega
  have nb:=Ai H rows aw B i hall;have wl:=IJ H rows aw B i;have hR:0<=rows.getD i 0/\rows.getD i 0<16777216:=by have:=p5 (rows.getD i 0) (by rw[Qf g];exact List.getElem_mem g);omega
  have hX:0<=aw.getD i 0/\aw.getD i 0<16777216:=iX (aw.getD i 0) (by rw[Qf (show i<aw.length by omega)];exact List.getElem_mem _);have hC:EH H rows aw B i=Y6 (rows.getD i 0).toNat (aw.getD i 0).toNat B H:=rfl;have hW:Z0t H rows aw B i=((VO (rows.getD i 0).toNat (aw.getD i 0).toNat B H:Nat):Int):=rfl;have dD:∀ j,j<i+1->EH H rows aw B i<1048576->EH H rows aw B j<1048576:=fun j hj h=>by
   by_cases e:j=i
   .subst e;exact h
   .exact hall j (by omega)
  have ws:=I3 H rows aw B i;have ns:Gx H rows aw B (i+1)=Gx H rows aw B i+EH H rows aw B i:=rfl;simp only[Int.toNat_natCast];refine⟨by omega,by omega,by omega,by omega,fun w5=>?_⟩;generalize rows.getD i 0=R at *
  generalize aw.getD i 0=X at *
  have oI:∀ tp k ln fi lt,0<=Qe R.toNat X.toNat B tp k ln fi lt/\Qe R.toNat X.toNat B tp k ln fi lt<=1048576:=fun tp k ln fi lt=>Yb _ _ _ _ _ _ _ _;have cin:∀ k b,0<=QG R.toNat X.toNat k b/\QG R.toNat X.toNat k b<=1048576:=fun k b=>JP _ _ _ _;have eH:((H:Int)-1).toNat=H-1:=by omega
  have eS:∀ tp,XD R.toNat X.toNat B H tp=QG R.toNat X.toNat (H-1) tp+Qe R.toNat X.toNat B tp (H-1) 1 0 tp:=fun _=>rfl;refine⟨(R,X,(H:Int),(B:Int),false,true,aw,(B:Int),(H:Int),rows,(H:Int),D5 H rows aw B i,Gx H rows aw B i,(i:Int),R,rows,(rows.length:Int),(i:Int),decide ((i:Int)<(rows.length:Int)),(i:Int),R,R,aw,(i:Int),X,(H:Int),(B:Int),R,X,(H:Int),(B:Int),false,w5),(false,1048576,0,0,0,false,0),by and_intros<;>first|rfl|trivial,?_⟩;dsimp only;simp only[eH,Int.toNat_natCast,show (1:Int).toNat=1 from rfl,show (0:Int).toNat=0 from rfl,<-eS];refine⟨fun d=>d.2.2.2.2.2.2=0/\d=(false,1048576,0,0,0,false,0)\/d.2.2.2.2.2.2=1/\d.2.1=FC (XD R.toNat X.toNat B H false) 1048576/\(d.2.1<1048576->d.2.2=((H:Int)-1,1,0,false,1))\/d.2.2.2.2.2.2=2/\d.2.1=Y6 R.toNat X.toNat B H/\(d.2.1<1048576->d.2.2=((H:Int)-1,1,0,M7 R.toNat X.toNat B H,2)),fun d=>2-d.2.2.2.2.2.2.toNat,.inl ⟨rfl,rfl⟩,?_⟩;rintro⟨xj,ch,pO,pP,pQ,pR,q⟩ hq;dsimp only at hq |-;refine⟨fun g2=>?_,fun g2=>?_⟩
  .have g2:=of_decide_eq_true g2;refine⟨by omega,by omega,fun q0=>?_,fun q1=>?_⟩
   .subst q0;have eM:ch=1048576:=by
     rcases hq with⟨_,hq⟩|⟨hq,_⟩|⟨hq,_⟩
     .cases hq;rfl
     .omega
     .omega
    have s1:=oI false (H-1) 1 0 false;have s2:=cin (H-1) false;intro wi;refine⟨by rw[Q7];omega,by rw[Q7];omega,⟨hR,hX,by omega,by omega⟩,⟨hR,hX,by omega,by omega,by omega,by omega,Ry _ _ _ _⟩,fun wj _=>⟨by rw[Q7,eS];omega,fun c5=>⟨by rw[Q7];omega,(false,XD R.toNat X.toNat B H false,(H:Int)-1,1,0,false,1),by and_intros<;>first|rfl|trivial,.inr (.inl ⟨rfl,?_,fun _=>rfl⟩),by dsimp only;decide⟩,fun c5=>⟨by rw[Q7];omega,(false,ch,pO,pP,pQ,pR,1),by and_intros<;>first|rfl|trivial,.inr (.inl ⟨rfl,?_,fun h=>?_⟩),by dsimp only;decide⟩⟩⟩
    .have c5:=of_decide_eq_true c5;dsimp only;rw[W3];omega
    .have c5:=of_decide_eq_false c5;dsimp only;rw[W3];omega
    .dsimp only at h;omega
   .subst q1;obtain⟨dL,fg⟩:ch=FC (XD R.toNat X.toNat B H false) 1048576/\(ch<1048576->(pO,pP,pQ,pR,(1:Int))=((H:Int)-1,1,0,false,1)):=by
     rcases hq with⟨hq,_⟩|⟨_,hq⟩|⟨hq,_⟩
     .omega
     .exact hq
     .omega
    have s1:=oI true (H-1) 1 0 true;have s2:=cin (H-1) true;intro wi;refine⟨by rw[Q7];omega,by rw[Q7];omega,⟨hR,hX,by omega,by omega⟩,⟨hR,hX,by omega,by omega,by omega,by omega,Ry _ _ _ _⟩,fun wj _=>⟨by rw[Q7,eS];omega,fun c5=>⟨by rw[Q7];omega,(true,XD R.toNat X.toNat B H true,(H:Int)-1,1,0,true,2),by and_intros<;>first|rfl|trivial,.inr (.inr ⟨rfl,?_,fun _=>?_⟩),by dsimp only;decide⟩,fun c5=>⟨by rw[Q7];omega,(true,ch,pO,pP,pQ,pR,2),by and_intros<;>first|rfl|trivial,.inr (.inr ⟨rfl,?_,fun h=>?_⟩),by dsimp only;decide⟩⟩⟩
    .have c5:=of_decide_eq_true c5;have:M7 R.toNat X.toNat B H=true:=by unfold M7;rw[decide_eq_true_eq,<-dL];exact c5
     dsimp only;unfold Y6;rw[this,if_pos rfl]
    .have c5:=of_decide_eq_true c5;have:M7 R.toNat X.toNat B H=true:=by unfold M7;rw[decide_eq_true_eq,<-dL];exact c5
     dsimp only;rw[this]
    .have c5:=of_decide_eq_false c5;have:M7 R.toNat X.toNat B H=false:=by unfold M7;rw[decide_eq_false_iff_not,<-dL];exact c5
     dsimp only;unfold Y6;rw[this,if_neg (by decide)];exact dL
    .have c5:=of_decide_eq_false c5;have:M7 R.toNat X.toNat B H=false:=by unfold M7;rw[decide_eq_false_iff_not,<-dL];exact c5
     dsimp only at h |-;rw[this];have:=fg h;simp only[Prod.mk.injEq] at this;simp only[Prod.mk.injEq];exact⟨this.1,this.2.1,this.2.2.1,this.2.2.2.1,trivial⟩
  .have g2:=of_decide_eq_false g2;obtain⟨dL,fg⟩:ch=Y6 R.toNat X.toNat B H/\(ch<1048576->(pO,pP,pQ,pR,q)=((H:Int)-1,1,0,M7 R.toNat X.toNat B H,2)):=by
    rcases hq with⟨hq,_⟩|⟨hq,_⟩|⟨_,hq⟩
    .omega
    .omega
    .exact hq
   refine⟨fun c5=>?_,fun c5=>?_⟩
   .have c5:=of_decide_eq_true c5;have bad:Qc (H:Int) rows aw (B:Int)=9:=by rw[eb,if_pos (Ii g (by rw[hC];omega))]
    obtain⟨f1,f2,f3,f4,f5⟩:=fail 9 bad (by decide);refine⟨trivial,fun _=>?_,fun c6=>absurd c6 (by decide)⟩;and_intros<;>first|exact f1|exact f2|exact f3|exact f4|exact f5|trivial
   .have c5:=of_decide_eq_false c5;have ah:Y6 R.toNat X.toNat B H<1048576:=by omega
    have fg:=fg (by omega);simp only[Prod.mk.injEq] at fg;obtain⟨rfl,rfl,rfl,rfl,rfl⟩:=fg;have bJ:Y6 R.toNat X.toNat B H=XD R.toNat X.toNat B H (M7 R.toNat X.toNat B H):=by
     have h2:=ah;unfold Y6 at h2 |-;cases ht:M7 R.toNat X.toNat B H with
     |true=>rw[if_pos rfl]
     |false =>rw[ht,if_neg (by decide),W3] at h2;rw[if_neg (by decide),W3];omega
    have od:VO R.toNat X.toNat B H=(if M7 R.toNat X.toNat B H=true then 2 ^ (H-1) else 0)+A_ R.toNat X.toNat B (M7 R.toNat X.toNat B H) (H-1) 1 0 (M7 R.toNat X.toNat B H):=by unfold VO;rw[if_pos ah]
    subst dL;generalize M7 R.toNat X.toNat B H=tp at *
    have s1:=oI tp (H-1) 1 0 tp;have s2:=cin (H-1) tp;have xk:=eS tp;intro rL;refine⟨by rw[Q7];omega,by rw[Q7];omega,⟨hR,hX,by omega,by omega⟩,by rw[Q7];omega,(R,X,(H:Int),(B:Int),tp,Y6 R.toNat X.toNat B H,aw,(B:Int),(H:Int),rows,(H:Int),D5 H rows aw B i,Gx H rows aw B i,(i:Int),R,rows,(rows.length:Int),(i:Int),decide ((i:Int)<(rows.length:Int)),(i:Int),R,R,aw,(i:Int),X,(H:Int),(B:Int),R,X,(H:Int),(B:Int),false,w5),([],(if tp=true then 1 else 0),(H:Int)-1,1,0,tp,Y6 R.toNat X.toNat B H-QG R.toNat X.toNat (H-1) tp),by and_intros<;>first|rfl|trivial,?_⟩;dsimp only;refine⟨fun d=>∃ (k n f r:Nat),PR R X B tp d.1/\k<=H-1/\(1<=n/\n<=24)/\f<=24/\r<2 ^ (H-k)/\d.2.1=(r:Int)/\d.2.2.1=(k:Int)/\d.2.2.2.1=(n:Int)/\d.2.2.2.2.1=(f:Int)/\d.2.2.2.2.2.2=Qe R.toNat X.toNat B tp k n f d.2.2.2.2.2.1/\d.2.2.2.2.2.2<1048576/\r*2 ^ k+A_ R.toNat X.toNat B tp k n f d.2.2.2.2.2.1=VO R.toNat X.toNat B H,fun d=>d.2.2.1.toNat,⟨H-1,1,0,(if tp=true then 1 else 0),Ry _ _ _ _,Nat.le_refl _,by omega,by omega,?_,?_,by dsimp only;omega,rfl,rfl,?_,?_,?_⟩,?_⟩
    .rw[show H-(H-1)=1 by omega];split<;>decide
    .dsimp only;split<;>rfl
    .dsimp only;omega
    .dsimp only;omega
    .dsimp only;rw[od];split<;>simp
    rintro⟨m1,row,lf,ln,fi,lt,left⟩ ⟨k,n,f,r,gY,hk,hn,hf,hr,rfl,rfl,rfl,rfl,gL,wk,bI⟩;dsimp only at gY gL wk bI |-;refine⟨fun g3=>?_,fun g3=>?_⟩
    .have g3:=of_decide_eq_true g3;obtain⟨k,rfl⟩:∃ j,k=j+1:=⟨k-1,by omega⟩;have ek:((k+1:Nat):Int)-1=(k:Int):=by omega
     have m_:Qe R.toNat X.toNat B tp (k+1) n f lt<1048576:=by omega
     have oJ:r<16777216:=by have:=Nat.pow_le_pow_right (show 1<=2 by omega) (show H-(k+1)<=24 by omega);omega
     obtain⟨wm,s6⟩:=Q3f m_;have rk:A_ R.toNat X.toNat B tp (k+1) n f lt=(if pkB R.toNat X.toNat B tp k n f lt=true then 2 ^ k else 0)+A_ R.toNat X.toNat B tp k (nxL n lt (pkB R.toNat X.toNat B tp k n f lt)) (nxF n f lt (pkB R.toNat X.toNat B tp k n f lt)) (pkB R.toNat X.toNat B tp k n f lt):=rfl;refine⟨(R,X,(H:Int),(B:Int),tp,(r:Int),Y6 R.toNat X.toNat B H,((k+1:Nat):Int),(n:Int),(f:Int),lt,left,false,true,aw,(B:Int),(H:Int),rows,(H:Int),D5 H rows aw B i,Gx H rows aw B i,(i:Int),R,rows,(rows.length:Int),(i:Int),decide ((i:Int)<(rows.length:Int)),(i:Int),R,R,aw,(i:Int),X,(H:Int),(B:Int),R,X,(H:Int),(B:Int),false,w5),(m1,0),by and_intros<;>first|rfl|trivial,?_⟩;dsimp only;simp only[ek,Ec,Ej,Int.toNat_natCast];have iY:pkB R.toNat X.toNat B tp k n f lt=!(decide (nxL n lt false<=B)&&decide (QG R.toNat X.toNat k false+Qe R.toNat X.toNat B tp k (nxL n lt false) (nxF n f lt false) false=Qe R.toNat X.toNat B tp (k+1) n f lt)):=rfl;refine⟨fun d=>PR R X B tp d.1/\(d.2=0\/d.2=1/\pkB R.toNat X.toNat B tp k n f lt=true),fun d=>2-d.2.toNat,⟨gY,.inl rfl⟩,?_⟩;rintro⟨m2,q⟩ ⟨en,hq⟩;dsimp only at en hq |-;have take:∀ b:Bool,pkB R.toNat X.toNat B tp k n f lt=b->(2*r+(if b=true then 1 else 0))<2 ^ (H-k)/\left-QG R.toNat X.toNat k b=Qe R.toNat X.toNat B tp k (nxL n lt b) (nxF n f lt b) b/\(2*r+(if b=true then 1 else 0))*2 ^ k+A_ R.toNat X.toNat B tp k (nxL n lt b) (nxF n f lt b) b=VO R.toNat X.toNat B H:=fun b hb=>by
      rw[hb] at s6 rk;refine⟨?_,by omega,?_⟩
      .rw[show H-k=(H-(k+1))+1 by omega,Nat.pow_succ];split<;>omega
      .rw[<-bI,rk,Nat.pow_succ,Nat.add_mul];have:2*r*2 ^ k=r*(2 ^ k*2):=by rw[Nat.mul_comm 2 r,Nat.mul_assoc,Nat.mul_comm 2]
       rw[this];cases b<;>simp<;>omega
     refine⟨fun g4=>?_,fun g4=>?_⟩
     .have g4:=of_decide_eq_true g4;refine⟨by omega,by omega,fun q0=>?_,fun q1=>?_⟩
      .subst q0;have w1:=cin k false;have w2:=oI tp k (nxL n lt false) (nxF n f lt false) false;have w3:nxF n f lt false<=24:=IH hn.2 hf;refine⟨⟨by omega,by omega,by omega⟩,by rw[Q7];omega,⟨hR,hX,by omega,by omega⟩,fun c6=>?_,fun c6=>?_⟩
       .have c6:=of_decide_eq_true c6;have wo:nxL n lt false<=B:=by omega
        have w4:=(Q0e (B:=B) (lt:=lt) (b:=false) hn.1).1;refine⟨⟨hR,hX,by omega,by omega,by omega,by omega,en⟩,fun pS jW=>⟨by rw[Q7];omega,fun c7=>?_,fun c7=>?_⟩⟩
        .have c7:=eq_of_beq c7;have hb:pkB R.toNat X.toNat B tp k n f lt=false:=by rw[iY,decide_eq_true wo,decide_eq_true (by omega)];rfl
         obtain⟨t1,t2,t3⟩:=take false hb;obtain⟨o1,o2⟩:=Q3i oJ false;refine⟨by rw[Q7];omega,by omega,o2,(pS,((2*r+(if false=true then 1 else 0):Nat):Int),(k:Int),((nxL n lt false:Nat):Int),((nxF n f lt false:Nat):Int),false,left-QG R.toNat X.toNat k false),?_,⟨k,nxL n lt false,nxF n f lt false,2*r+(if false=true then 1 else 0),jW,by omega,by omega,w3,t1,rfl,rfl,rfl,rfl,t2,?_,t3⟩,by dsimp only;omega⟩
         .and_intros<;>first|rfl|trivial|exact o1
         .dsimp only;rw[t2];omega
        .have c7:¬ (QG R.toNat X.toNat k false+Qe R.toNat X.toNat B tp k (nxL n lt false) (nxF n f lt false) false=left):=by simpa using c7
         have hb:pkB R.toNat X.toNat B tp k n f lt=true:=by rw[iY,decide_eq_false (show ¬ (QG R.toNat X.toNat k false+Qe R.toNat X.toNat B tp k (nxL n lt false) (nxF n f lt false) false=Qe R.toNat X.toNat B tp (k+1) n f lt) by rw[<-gL];exact c7)];simp
         refine⟨by rw[Q7];omega,(pS,1),?_,⟨jW,.inr ⟨rfl,hb⟩⟩,by dsimp only;decide⟩;and_intros<;>first|rfl|trivial
       .have c6:=of_decide_eq_false c6;have hb:pkB R.toNat X.toNat B tp k n f lt=true:=by rw[iY,decide_eq_false (show ¬ nxL n lt false<=B by omega)];simp
        refine⟨(fun h=>by cases h),fun _=>⟨by rw[Q7];omega,(m2,1),?_,⟨en,.inr ⟨rfl,hb⟩⟩,by dsimp only;decide⟩⟩;and_intros<;>first|rfl|trivial
      .subst q1;have hb:pkB R.toNat X.toNat B tp k n f lt=true:=by rcases hq with h|h;omega;exact h.2
       have w1:=cin k true;have w2:=oI tp k (nxL n lt true) (nxF n f lt true) true;have w3:nxF n f lt true<=24:=IH hn.2 hf;rw[hb] at wm s6;have w4:=(Q0e (B:=B) (lt:=lt) (b:=true) hn.1).1;refine⟨⟨by omega,by omega,by omega⟩,by rw[Q7];omega,⟨hR,hX,by omega,by omega⟩,fun c6=>?_,fun c6=>?_⟩
       .refine⟨⟨hR,hX,by omega,by omega,by omega,by omega,en⟩,fun pS jW=>⟨by rw[Q7];omega,fun c7=>?_,fun c7=>?_⟩⟩
        .obtain⟨t1,t2,t3⟩:=take true hb;obtain⟨o1,o2⟩:=Q3i oJ true;refine⟨by rw[Q7];omega,by omega,o2,(pS,((2*r+(if true=true then 1 else 0):Nat):Int),(k:Int),((nxL n lt true:Nat):Int),((nxF n f lt true:Nat):Int),true,left-QG R.toNat X.toNat k true),?_,⟨k,nxL n lt true,nxF n f lt true,2*r+(if true=true then 1 else 0),jW,by omega,by omega,w3,t1,rfl,rfl,rfl,rfl,t2,?_,t3⟩,by dsimp only;omega⟩
         .and_intros<;>first|rfl|trivial|exact o1
         .dsimp only;rw[t2];omega
        .exfalso;have c7:¬ (QG R.toNat X.toNat k true+Qe R.toNat X.toNat B tp k (nxL n lt true) (nxF n f lt true) true=left):=by simpa using c7
         omega
       .exfalso;have c6:=of_decide_eq_false c6;omega
     .exfalso;have g4:=of_decide_eq_false g4;rcases hq with h|⟨h,_⟩<;>omega
    .have g3:=of_decide_eq_false g3;have k0:k=0:=by omega
     subst k0;have bI:r=VO R.toNat X.toNat B H:=by simpa [A_] using bI
     refine⟨rfl,fun c6=>?_,fun c6=>⟨?_,by rw[Q7];omega,by rw[Q7];omega,(D5 H rows aw B (i+1),Gx H rows aw B (i+1),(i:Int)+1),?_,⟨i+1,g,fun j hj=>dD j hj (by rw[hC];exact ah),rfl⟩,by dsimp only;omega⟩⟩
     .exfalso;have c6:=of_decide_eq_true c6;omega
     .rw[wl];omega
     .rw[ws,ns,hW,hC,bI];and_intros<;>first|rfl|trivial|exact(Q20 _ _).symm
 .have g:i=rows.length:=by have:=of_decide_eq_false g;omega
  subst g;have rM:Qc (H:Int) rows aw (B:Int)=0:=by rw[eb,if_neg (by rw[Q0a hall];decide)]
  have e1:JE (H:Int) rows aw (B:Int)=D5 H rows aw B rows.length:=by unfold JE;rw[if_pos rM]
  have e2:Ig (H:Int) rows aw (B:Int)=Gx H rows aw B rows.length:=by unfold Ig;rw[if_pos rM]
  rw[rM,e1,e2,if_pos rfl];and_intros<;>first|rfl|trivial
def BF:AL (Bool):=(.one (.k .bo))
def Lq (d:Bool):Prop:=True
def DA (d:Bool):SV:=.val (.i .u8) (NW d)
def DL (d:Bool):List OB:=[]
def D7:CSp:=WZ BF Lq DA DL
def V6 (x:Bool):Prop :=
 (x=true ->
  ((120:Int)=(NW x)/\(True))) /\
 (x=false ->
  ((46:Int)=(NW x)/\(True)))
def HJ:Cx:=⟨[],[],4,[],0,[],[],[],[],false,[],[],[],[]⟩
def C5 (x:Bool):List (Nat×LoopAnn):=[]
theorem CT (d:Bool):gwp (HJ) (C5 d) c69 0 (Kn [.tmp 2] (DA d) (DL d)) (Qx 4 (AL.can BF d))=V6 d:=by kernel_rfl
abbrev Cr:Prop:=OkC Tryz.prog 69 D7
theorem Ch (h:∀ (x:Bool),(True)->V6 x):OkC Tryz.prog 69 D7 :=
 QH Q7b mixed (C:=HJ) (V:=fun (d:Bool)=>V6 d) ⟨.nil,XsOk.nil,ItsOk.nil,YlOk.nil,IysOk.nil,XfOk.nil⟩ (CT) fun d hp=>h d hp
theorem CR:Cr:=Ch fun x _=>by cases x<;>simp[V6,NW]
def Ws:AL ((Int×List Int)×Int×Int):=(.cons (.agg (.cons (.k (.i .i64)) (.one (.k (.list (.i .i64)))))) (.cons (.k (.i .i64)) (.one (.k (.i .i64)))))
def VR (d:(Int×List Int)×Int×Int):Prop:=0<=d.2.2/\d.2.2<d.1.2.length/\0<=d.2.1/\d.2.1<9223372036854775808/\∀ x∈d.1.2,0<=x/\x<=60
def Xz (d:(Int×List Int)×Int×Int):SV:=.val .bo (d.2.1.toNat.testBit (d.1.2.getD d.2.2.toNat 0).toNat)
def Xy (d:(Int×List Int)×Int×Int):List OB:=[]
def JC:CSp:=WZ Ws VR Xz Xy
def Zj (hk:Int) (lw:List Int) (row:Int) (w:Int):Prop :=
 (0<=w)/\(w<(List.length lw))/\(0<=(gD lw w 0))/\(((ZG .and .i64 (N3 .i64 row (gD lw w 0)) (1:Int))==(1:Int))=(row.toNat.testBit (lw.getD w.toNat 0).toNat)/\(True))
def Ww:Cx:=⟨[],[],17,[],0,[],[],[],[],false,[],[],[],[]⟩
def VX (hk:Int) (lw:List Int) (row:Int) (w:Int):List (Nat×LoopAnn):=[]
theorem Ue (d:(Int×List Int)×Int×Int):gwp (Ww) (VX d.1.1 d.1.2 d.2.1 d.2.2) c70 0 (Kn [.tmp 6] (Xz d) (Xy d)) (Qx 17 (AL.can Ws d))=Zj d.1.1 d.1.2 d.2.1 d.2.2:=by kernel_rfl
abbrev Uy:Prop:=OkC Tryz.prog 70 JC
theorem Un (h:∀ (hk:Int) (lw:List Int) (row:Int) (w:Int),(0<=w/\w<lw.length/\0<=row/\row<9223372036854775808/\∀ x∈lw,0<=x/\x<=60)->Zj hk lw row w):OkC Tryz.prog 70 JC :=
 QH Q7z mixed (C:=Ww) (V:=fun (d:(Int×List Int)×Int×Int)=>Zj d.1.1 d.1.2 d.2.1 d.2.2) ⟨.nil,XsOk.nil,ItsOk.nil,YlOk.nil,IysOk.nil,XfOk.nil⟩ (Ue) fun d hp=>h d.1.1 d.1.2 d.2.1 d.2.2 hp
theorem UK:Uy:=Un fun hk lw row w h=>by
 obtain⟨h1,h2,h3,h4,h5⟩:=h;obtain⟨w,rfl⟩:=Int.eq_ofNat_of_zero_le h1;obtain⟨r,rfl⟩:=Int.eq_ofNat_of_zero_le h3;have hw:w<lw.length:=by omega
 have hx:=h5 _ (List.getElem_mem hw);obtain⟨k,hk⟩:=Int.eq_ofNat_of_zero_le hx.1;unfold Zj;(try delta lI gD sT I64 Q1 pj8 pj4);simp only[and_true,Int.toNat_natCast,Int.ofNat_lt,Qf hw,hk];refine⟨by omega,by omega,by omega,?_⟩;exact Q5i (by omega) (by omega)
def J8:Cx:=⟨[],[],20,[],0,[(113,Q7q)],[],[],[],false,[],[],[],[]⟩
def Z7:XSp:=Q2p J8 (fun _=>[]) c92 [] 20
theorem ZZ:XOk Tryz.prog 92 Z7:=U8 Q70 mixed (C:=J8) ⟨.nil,(XsOk.cons (AE R1) XsOk.nil),ItsOk.nil,YlOk.nil,IysOk.nil,XfOk.nil⟩ _
def J7:Cx:=⟨[(5,(.i .u8))],[],17,[],0,[(92,Z7)],[],[],[],false,[],[],[],[]⟩
def Jg:XSp:=Q2p J7 (fun _=>[]) c68 [.tmp 4] 17
theorem WB:XOk Tryz.prog 68 Jg:=U8 Q7v mixed (C:=J7) ⟨.nil,(XsOk.cons ZZ XsOk.nil),ItsOk.nil,YlOk.nil,IysOk.nil,XfOk.nil⟩ _
def JI:Cx:=⟨[],[],14,[],0,[],[],[],[],false,[],[],[],[]⟩
def X9:XSp:=Q2p JI (fun _=>[]) c71 [.tmp 2] 14
theorem YO:XOk Tryz.prog 71 X9:=U8 Q5o mixed (C:=JI) ⟨.nil,XsOk.nil,ItsOk.nil,YlOk.nil,IysOk.nil,XfOk.nil⟩ _
def Yh:AL ((Int×List Int)×Int):=(.cons (.agg (.cons (.k (.i .i64)) (.one (.k (.list (.i .i64)))))) (.one (.k (.i .i64))))
def N6 (d:(Int×List Int)×Int):Prop:=d.1.2.length<=110/\0<=d.2/\d.2<9223372036854775808/\∀ x∈d.1.2,0<=x/\x<=60
def WE (d:(Int×List Int)×Int):SV:=.val .st (Z2 d.1.2 d.2)
def WR (d:(Int×List Int)×Int):List OB:=[]
def Xq:CSp:=WZ Yh N6 WE WR
def ZQ (hk:Int) (lw:List Int) (row:Int):Prop :=
 ∃ (e4:Unit) (d40:Bool×(List Int)×Int),((row=row/\True/\True/\(lI lw)=(lI lw)/\(0:Int)=d40.2.2/\True)/\((hk=hk/\lw=lw/\(([]:List SV)=[]))/\(d40.1=false/\True/\(([]:List SV)=[]))/\(d40.2.1=[]/\(List.isEmpty d40.2.1)=true)/\True)) /\
 LoopP (fun (d4:Bool×(List Int)×Int) (q4:(Bool×(List Int)×Int)->Prop) =>
  ((decide (d4.2.2<(lI lw)))=true ->
   (0<=d4.2.2/\d4.2.2<lw.length/\0<=row/\row<9223372036854775808/\∀ x∈lw,0<=x/\x<=60)/\(True)/\∀ w5:List Value,∀ w6:List Value,((!d4.1)=true ->
    w6=w6/\(((List.length d4.2.1)+(List.length [(NW (row.toNat.testBit (lw.getD d4.2.2.toNat 0).toNat))]))*1<=70368744177664)/\w5=w5/\(I64 (d4.2.2+(1:Int)))/\(∃ d7:Bool×(List Int)×Int,((row=row/\True/\True/\(lI lw)=(lI lw)/\(d4.2.2+(1:Int))=d7.2.2/\True)/\((hk=hk/\lw=lw/\(([]:List SV)=[]))/\(d7.1=true/\True/\(([]:List SV)=[]))/\((d4.2.1++[(NW (row.toNat.testBit (lw.getD d4.2.2.toNat 0).toNat))])=d7.2.1/\false=(List.isEmpty d7.2.1))/\True))/\q4 d7)) /\
   ((!d4.1)=false ->
    (d4.1=true)/\((!true)=true ->
     False) /\
    ((!true)=false ->
     w6=w6/\(((List.length d4.2.1)+(List.length [(NW (row.toNat.testBit (lw.getD d4.2.2.toNat 0).toNat))]))*1<=70368744177664)/\w5=w5/\(I64 (d4.2.2+(1:Int)))/\(∃ d8:Bool×(List Int)×Int,((row=row/\True/\True/\(lI lw)=(lI lw)/\(d4.2.2+(1:Int))=d8.2.2/\True)/\((hk=hk/\lw=lw/\(([]:List SV)=[]))/\(d4.1=d8.1/\True/\(([]:List SV)=[]))/\((d4.2.1++[(NW (row.toNat.testBit (lw.getD d4.2.2.toNat 0).toNat))])=d8.2.1/\false=(List.isEmpty d8.2.1))/\True))/\q4 d8)))) /\
  ((decide (d4.2.2<(lI lw)))=false ->
   ∀ w9:List Value,((List.isEmpty d4.2.1)=false->d4.2.1≠[])/\((lI d4.2.1)=(List.length d4.2.1))/\((List.length d4.2.1)<=4611686018427387904)/\w9=w9/\((Tg d4.2.1)=(Z2 lw row)/\(True)))) d40
def Yo:Cx:=⟨[(5,(.i .u8))],[(70,JC),(69,D7)],22,[],0,[(68,Jg),(92,Z7),(113,Q7q),(71,X9)],[],[],[],false,[],[],[],[]⟩
def NV (hk:Int) (lw:List Int) (row:Int):List (Nat×LoopAnn):=[(0,⟨Unit,Bool×(List Int)×Int,[1,2,5,10,11],fun e x=>[.val (.i .i64) row,.box 2 0,.box 5 0,.val (.i .i64) (((List.length lw):Nat):Int),.val (.i .i64) x.2.2],fun e x=>[(2,.slot 2,.cells [.val (.i .i64) hk,.val (.list (.i .i64)) lw] (some 88)),(5,.slot 5,.cells [.dd 5 (.obx x.1),.lst 2000014] (some 142)),(2000014,.cell 5 1,.lst 5 (.i .u8) x.2.1 (List.isEmpty x.2.1))]⟩)]
theorem NU (d:(Int×List Int)×Int):gwp (Yo) (NV d.1.1 d.1.2 d.2) c48 0 (Kn [.tmp 4] (WE d) (WR d)) (Qx 22 (AL.can Yh d))=ZQ d.1.1 d.1.2 d.2:=by kernel_rfl
abbrev Mn:Prop:=OkC Tryz.prog 48 Xq
theorem M4 (h:∀ (hk:Int) (lw:List Int) (row:Int),(lw.length<=110/\0<=row/\row<9223372036854775808/\∀ x∈lw,0<=x/\x<=60)->ZQ hk lw row):OkC Tryz.prog 48 Xq :=
 QH Q5h mixed (C:=Yo) (V:=fun (d:(Int×List Int)×Int)=>ZQ d.1.1 d.1.2 d.2) ⟨(.cons UK (.cons CR .nil)),(XsOk.cons WB (XsOk.cons ZZ (XsOk.cons (AE R1) (XsOk.cons YO XsOk.nil)))),ItsOk.nil,YlOk.nil,IysOk.nil,XfOk.nil⟩ (NU) fun d hp=>h d.1.1 d.1.2 d.2 hp
theorem FB (lw:List Int) (row:Int):Tg (lw.map fun k=>NW (row.toNat.testBit k.toNat))=Z2 lw row:=by simp only[Tg,Z2,List.map_map];refine List.map_congr_left fun k _=>?_;simp only[Function.comp,NW];split<;>rfl
theorem Mo:Mn:=M4 fun hk lw row h=>by
 obtain⟨h1,h2,h3,h4⟩:=h;unfold ZQ;(try delta lI gD sT I64 Q1 pj8 pj4);simp only[true_and,and_true,exists_const,decide_eq_true_eq,decide_eq_false_iff_not,ne_eq,Bool.not_eq_true',Bool.not_eq_false',Q7];refine⟨(false,[],0),⟨rfl,rfl,rfl,rfl⟩,?_⟩;refine⟨fun d=>∃ i:Nat,i<=lw.length/\d.2.2=i/\d.2.1=(lw.take i).map fun k=>NW (row.toNat.testBit k.toNat),fun d=>lw.length-d.2.2.toNat,⟨0,Nat.zero_le _,rfl,by simp⟩,?_⟩;rintro⟨c,xs,_⟩ ⟨i,hi,rfl,bh⟩;dsimp only at bh |-;have gC:xs.length=i:=by rw[bh];simp;omega
 refine⟨fun ah=>?_,fun bj=>?_⟩
 .have ah:i<lw.length:=by omega
  have hn:xs++[NW (row.toNat.testBit lw[i].toNat)]=(lw.take (i+1)).map fun k=>NW (row.toNat.testBit k.toNat):=by rw[bh,QI ah,List.map_append];rfl
  simp only[Int.toNat_natCast,Qf ah,List.length_singleton];refine⟨⟨by omega,by omega,h2,h3,h4⟩,fun _ w6=>⟨fun hc=>?_,fun hc=>?_⟩⟩
  .exact⟨by omega,by omega,(true,xs++[NW (row.toNat.testBit lw[i].toNat)],(i:Int)+1),⟨rfl,rfl,rfl,by simp⟩,⟨i+1,by omega,by simp,hn⟩,by dsimp only;omega⟩
  .refine⟨by simpa using hc,?_⟩;refine⟨fun h=>by simp at h,fun _=>?_⟩;exact⟨by omega,by omega,(c,xs++[NW (row.toNat.testBit lw[i].toNat)],(i:Int)+1),⟨rfl,rfl,rfl,by simp⟩,⟨i+1,by omega,by simp,hn⟩,by dsimp only;omega⟩
 .have:i=lw.length:=by omega
  subst this;rw[List.take_length] at bh;refine fun _=>⟨?_,by omega,?_⟩
  .intro aC h0;rw[h0] at aC;simp at aC
  .rw[bh];exact FB lw row
def Dx:AL ((Int×List Int)×Int×List Int):=(.cons (.agg (.cons (.k (.i .i64)) (.one (.k (.list (.i .i64)))))) (.one (.agg (.cons (.k (.i .i64)) (.one (.k (.list (.i .i64))))))))
def Ri (d:(Int×List Int)×Int×List Int):Prop:=d.1.2.length<=110/\d.2.2.length<=110
def Mv (d:(Int×List Int)×Int×List Int):SV:=.tup [.lst 0,.val (.i .i64) (QK d.1.1 d.1.2 d.2.1 d.2.2)]
def Gi (d:(Int×List Int)×Int×List Int):List OB:=[.lst 9 .st (QR d.1.1 d.1.2 d.2.1 d.2.2) ((QR d.1.1 d.1.2 d.2.1 d.2.2).isEmpty)]
def Mm:CSp:=WZ Dx Ri Mv Gi
def K4 (hk:Int) (lw:List Int) (hd:Int) (rows:List Int):Prop :=
 (lw.length<=1000000)/\(((Q8 hk lw) != (0:Int))=true ->
  ((True/\(Q8 hk lw)=QK hk lw hd rows/\(([]:List SV)=[]))/\(((QR hk lw hd rows)=[]/\(QR hk lw hd rows).isEmpty=true)/\True))) /\
 (((Q8 hk lw) != (0:Int))=false ->
  (rows.length<=1000000)/\(((Qg hd rows) != (0:Int))=true ->
   ((True/\(Qg hd rows)=QK hk lw hd rows/\(([]:List SV)=[]))/\(((QR hk lw hd rows)=[]/\(QR hk lw hd rows).isEmpty=true)/\True))) /\
  (((Qg hd rows) != (0:Int))=false ->
   ((hd != hk)=true ->
    ((True/\(4:Int)=QK hk lw hd rows/\(([]:List SV)=[]))/\(((QR hk lw hd rows)=[]/\(QR hk lw hd rows).isEmpty=true)/\True))) /\
   ((hd != hk)=false ->
    ∃ (e4:Unit) (d40:(List (List UInt8))×Int),((True/\True/\rows=rows/\(lI rows)=(lI rows)/\(0:Int)=d40.2/\True)/\((hk=hk/\lw=lw/\(([]:List SV)=[]))/\(d40.1=[]/\(List.isEmpty d40.1)=true)/\True)) /\
    LoopP (fun (d4:(List (List UInt8))×Int) (q4:((List (List UInt8))×Int)->Prop) =>
     ((decide (d4.2<(lI rows)))=true ->
      (0<=d4.2)/\(d4.2<(List.length rows))/\(lw.length<=110/\0<=(gD rows d4.2 0)/\(gD rows d4.2 0)<9223372036854775808/\∀ x∈lw,0<=x/\x<=60)/\(((List.length d4.1)+(List.length [(Z2 lw (gD rows d4.2 0))]))*16<=70368744177664)/\(I64 (d4.2+(1:Int)))/\(∃ d5:(List (List UInt8))×Int,((True/\True/\rows=rows/\(lI rows)=(lI rows)/\(d4.2+(1:Int))=d5.2/\True)/\((hk=hk/\lw=lw/\(([]:List SV)=[]))/\((d4.1++[(Z2 lw (gD rows d4.2 0))])=d5.1/\false=(List.isEmpty d5.1))/\True))/\q4 d5)) /\
     ((decide (d4.2<(lI rows)))=false ->
      ((True/\(0:Int)=QK hk lw hd rows/\(([]:List SV)=[]))/\((d4.1=(QR hk lw hd rows)/\(List.isEmpty d4.1)=(QR hk lw hd rows).isEmpty)/\True)))) d40)))
def Du:Cx:=⟨[(9,.st)],[(37,JZ),(47,WW),(48,Xq)],43,[],0,[],[],[],[],false,[],[],[],[]⟩
def LK (hk:Int) (lw:List Int) (hd:Int) (rows:List Int):List (Nat×LoopAnn):=[(1,⟨Unit,(List (List UInt8))×Int,[2,4,28,29,30],fun e x=>[.box 2 0,.lst 40,.val (.list (.i .i64)) rows,.val (.i .i64) (((List.length rows):Nat):Int),.val (.i .i64) x.2],fun e x=>[(2,.slot 2,.cells [.val (.i .i64) hk,.val (.list (.i .i64)) lw] (some 24)),(40,.slot 4,.lst 9 .st x.1 (List.isEmpty x.1))]⟩)]
theorem S6 (d:(Int×List Int)×Int×List Int):gwp (Du) (LK d.1.1 d.1.2 d.2.1 d.2.2) c22 0 (Kn [.tmp 4,.tmp 5] (Mv d) (Gi d)) (Qx 43 (AL.can Dx d))=K4 d.1.1 d.1.2 d.2.1 d.2.2:=by kernel_rfl
abbrev Lj:Prop:=OkC Tryz.prog 22 Mm
theorem L6 (h:∀ (hk:Int) (lw:List Int) (hd:Int) (rows:List Int),(lw.length<=110/\rows.length<=110)->K4 hk lw hd rows):OkC Tryz.prog 22 Mm :=
 QH Q7a mixed (C:=Du) (V:=fun (d:(Int×List Int)×Int×List Int)=>K4 d.1.1 d.1.2 d.2.1 d.2.2) ⟨(.cons W7 (.cons Nt (.cons Mo .nil))),XsOk.nil,ItsOk.nil,YlOk.nil,IysOk.nil,XfOk.nil⟩ (S6) fun d hp=>h d.1.1 d.1.2 d.2.1 d.2.2 hp
theorem R4 {hd:Int}{rows:List Int}(h:Qg hd rows=0):1<=hd/\hd<=24/\rows.length<=60/\rows.length≠0/\∀ x∈rows,0<=x/\x<2 ^ hd.toNat:=by
 unfold Qg at h;split at h
 .cases h
 .rename_i h1;split at h
  .cases h
  .rename_i h2;split at h
   .cases h
   .rename_i h3;split at h
    .cases h
    .rename_i h4;have h1:1<=hd/\hd<=24:=by simpa [inI] using h1
     refine⟨h1.1,h1.2,by omega,h3,fun x hx=>?_⟩;have h5:∀ x∈rows,inI x 0 (2 ^ hd.toNat-1)=true:=by simpa using h4
     have:=h5 x hx;simp only[inI,Bool.and_eq_true,decide_eq_true_eq] at this;omega
theorem SQ:Lj:=L6 fun hk lw hd rows h=>by
 obtain⟨h1,h2⟩:=h;unfold K4;(try delta lI gD sT I64 Q1 pj8 pj4);simp only[true_and,and_true,exists_const,decide_eq_true_eq,decide_eq_false_iff_not,bne_iff_ne,ne_eq,bne_eq_false_iff_eq,Q7];refine⟨by omega,fun he=>?_,fun he=>⟨by omega,fun hp=>?_,fun hp=>⟨fun hh=>?_,fun hh=>?_⟩⟩⟩
 .have e:QK hk lw hd rows=Q8 hk lw:=by simp[QK,he]
  have e2:QR hk lw hd rows=[]:=by simp[QR,e,he]
  rw[e,e2];exact⟨rfl,rfl,rfl⟩
 .have e:QK hk lw hd rows=Qg hd rows:=by simp[QK,he,hp]
  have e2:QR hk lw hd rows=[]:=by simp[QR,e,hp]
  rw[e,e2];exact⟨rfl,rfl,rfl⟩
 .have e:QK hk lw hd rows=4:=by simp[QK,he,hp,hh]
  have e2:QR hk lw hd rows=[]:=by simp[QR,e]
  rw[e,e2];exact⟨rfl,rfl,rfl⟩
 have e:QK hk lw hd rows=0:=by unfold QK;rw[if_neg (by omega),if_neg (by omega),if_neg (by omega)]
 have e2:QR hk lw hd rows=rows.map (Z2 lw):=by simp[QR,e]
 obtain⟨t1,t2,t3,t4,t5⟩:=Vu he;obtain⟨p1,p2,p3,p4,p5⟩:=R4 hp;have jO:=YG p1 p2;rw[e,e2];refine⟨([],0),⟨rfl,rfl,rfl⟩,?_⟩;refine LoopP.count2 rows.length (fun k xs=>xs=(rows.take k).map (Z2 lw)) (by simp) fun k xs hk hJ q hq=>?_;have gC:xs.length=k:=by rw[hJ];simp;omega
 dsimp only;refine⟨fun ah=>?_,fun bj=>?_⟩
 .have ah:k<rows.length:=by omega
  have hr:=p5 _ (List.getElem_mem ah);simp only[Int.toNat_natCast,Qf ah,List.length_singleton];refine⟨by omega,by omega,⟨h1,hr.1,by omega,fun x hx=>by have:=t5 x hx;omega⟩,by omega,by omega,(xs++[Z2 lw rows[k]],(k:Int)+1),⟨rfl,rfl,by simp⟩,hq _ ah ?_⟩;rw[QI ah,List.map_append,<-hJ];rfl
 .have:k=rows.length:=by omega
  subst this;rw[List.take_length] at hJ;rw[hJ];exact⟨rfl,rfl,rfl⟩
theorem By (a b:Nat):Int.tmod (a:Int) (b:Int)=((a % b:Nat):Int):=rfl
def Mi (s:List UInt8):List Bool:=s.map fun b=>b==120
def JA (p:List Bool) (w:Nat):Bool:=p.getD (w % p.length) false
def bgB (p:List Bool) (w:Nat):Bool:=JA p w != JA p (w+p.length-1)
def Xk (p:List Bool) (w:Nat):Nat:=if bgB p w then ((List.range (p.length+1)).find? fun k=>decide (1<=k)&&(JA p (w+k) != JA p w)).getD 0 else if w=0/\∀ j,j<p.length->JA p j=JA p 0 then 1000 else 0
def Z26 (i bd:Int) (p:List Bool) (w:Nat):Option (Int×Int×Int×Bool):=if 0<Xk p w/\bd<Xk p w then some (i,(w:Int),(Xk p w:Int),p.getD w false) else none
def O_ (i bd:Int) (p:List Bool) (n:Nat):List (Int×Int×Int×Bool):=(List.range n).filterMap (Z26 i bd p)
def Q42 (bd:Int) (c:List (List UInt8)) (n:Nat):List (Int×Int×Int×Bool):=((List.range n).map fun (i:Nat)=>O_ (i:Int) bd (Mi (c.getD i [])) (c.getD i []).length).flatten
def Q6d (bd:Int) (c:List (List UInt8)):List (Int×Int×Int×Bool):=Q42 bd c c.length
theorem Vp (s:List UInt8):(Mi s).length=s.length:=by simp[Mi]
theorem II {p:List Bool}{w:Nat}(h:w<p.length):JA p w=p.getD w false:=by rw[JA,Nat.mod_eq_of_lt h]
theorem XW (p:List Bool) (w:Nat):JA p (w % p.length)=JA p w:=by simp[JA]
theorem Aa (p:List Bool) (w k:Nat):JA p (w % p.length+k)=JA p (w+k):=by simp[JA]
theorem Q54 {p:List Bool}(h:p≠[]) (w:Nat):bgB p (w % p.length)=bgB p w:=by have h0:0<p.length:=List.length_pos_iff.2 h;unfold bgB;rw[XW,Nat.add_sub_assoc h0,Nat.add_sub_assoc h0,Aa]
theorem Q26 {p:List Bool}{w k:Nat}(hb:bgB p w=true) (hk:1<=k) (hn:k<=p.length) (hd:JA p (w+k)≠JA p w) (he:∀ j,1<=j->j<k->JA p (w+j)=JA p w):Xk p w=k:=by
 unfold Xk;rw[if_pos hb];have:(List.range (p.length+1)).find? (fun k=>decide (1<=k)&&(JA p (w+k) != JA p w))=some k:=by
  refine List.find?_range_eq_some.2 ⟨?_,by simp;omega,fun j hj=>?_⟩
  .simp[hk,hd]
  .rcases Nat.eq_zero_or_pos j with h0|h0
   .simp[h0]
   .simp[he j h0 hj]
 rw[this];rfl
theorem AK {p:List Bool}{w:Nat}(hb:bgB p w=false) (h:w≠0\/∃ j,j<p.length/\JA p j≠JA p 0):Xk p w=0:=by
 unfold Xk;rw[if_neg (by simp[hb]),if_neg];rintro⟨h1,h2⟩;rcases h with h|⟨j,h3,h4⟩
 .exact h h1
 .exact h4 (h2 j h3)
theorem Lb {p:List Bool}(h:∀ j,j<p.length->JA p j=JA p 0) (h0:p≠[]):Xk p 0=1000:=by
 unfold Xk;have hl:0<p.length:=List.length_pos_iff.2 h0;have:bgB p 0=false:=by unfold bgB;rw[<-XW p (0+p.length-1),h _ (Nat.mod_lt _ hl)];simp
 rw[if_neg (by simp[this]),if_pos ⟨rfl,h⟩]
theorem S1 {s:List UInt8}{i:Nat}(h:i<s.length):(Mi s).getD i false=(s.getD i 0==120):=by rw[Qf (by rw[Vp];exact h),Qf h];simp[Mi]
theorem Q64 {lw:List Int}{row:Int}:∀ b∈Z2 lw row,b=120\/b=46:=by intro b hb;simp only[Z2,List.mem_map] at hb;obtain⟨k,_,rfl⟩:=hb;split<;>simp
theorem Ce {p:List Bool}{f:Nat}(hf:f<p.length) (hb:bgB p f=true):∃ j,j<p.length/\JA p j≠JA p 0:=by
 by_cases h:JA p f=JA p 0
 .refine⟨(f+p.length-1) % p.length,Nat.mod_lt _ (by omega),?_⟩;rw[XW,<-h];have:JA p f≠JA p (f+p.length-1):=by simpa [bgB] using hb
  exact Ne.symm this
 .exact⟨f,hf,h⟩
theorem X7 (lw:List Int) (row:Int):(Z2 lw row).length=lw.length:=by simp[Z2]
end Go.Proofs.Tryz