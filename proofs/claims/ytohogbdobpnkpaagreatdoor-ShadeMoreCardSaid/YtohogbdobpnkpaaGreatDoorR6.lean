/- A framework for walks, contracts of functions, and their proofs: part 6. -/
import Derived.Test.YtohogbdobpnkpaaGreatDoorR5
set_option linter.unusedVariables false
namespace Go.Proofs.Tryz
open Go Go.V Go.Proofs
def WL:AL (Int×Int×(List (Int×(Int×Int)×Int))×Int):=(.cons (.k (.i .i64)) (.cons (.k (.i .i64)) (.one (.ptr (.cons (.k (.list (.pair (.i .i64) (.pair (.pair (.i .i64) (.i .i64)) (.i .i64))))) (.one (.k (.i .i64))))))))
def Us (d:Int×Int×(List (Int×(Int×Int)×Int))×Int):Prop:=d.2.2.1.length≤12∧(∀ y∈d.2.2.1,Qw y=true)∧0≤d.1∧d.1<d.2.2.1.length∧0≤d.2.1∧d.2.1<d.2.2.1.length
def Wg (d:Int×Int×(List (Int×(Int×Int)×Int))×Int):SV:=.val (.i .i64) (Q4u d.2.2.1 (d.1,d.2.1))
def Wf (d:Int×Int×(List (Int×(Int×Int)×Int))×Int):List OB:=[]
def ZD:CSp:=YO WL Us Wg Wf
def Zl (a:Int) (b:Int) (l:List (Int×(Int×Int)×Int)) (tl:Int):Prop :=
 (0≤a)∧(a<(List.length l))∧(0≤b)∧(b<(List.length l))∧(True)∧(0≤a)∧(a<(List.length l))∧(0≤b)∧(b<(List.length l))∧(True)∧([(UJ ((gD l a (0,((0,0),0))).1) ((gD l b (0,((0,0),0))).1)),(UJ ((gD l a (0,((0,0),0))).2.1.1) ((gD l b (0,((0,0),0))).2.1.1))].length≤1000)∧((orI [(UJ ((gD l a (0,((0,0),0))).1) ((gD l b (0,((0,0),0))).1)),(UJ ((gD l a (0,((0,0),0))).2.1.1) ((gD l b (0,((0,0),0))).2.1.1))])=(Q4u l (a,b))∧(True))
def Wy:Cx:=⟨[(3,(.i .i64))],[(81,Jo),(80,VX)],36,[],0,[],[],[],[],false,[],[],[],[]⟩
def N0 (a:Int) (b:Int) (l:List (Int×(Int×Int)×Int)) (tl:Int):List (Nat×LoopAnn):=[]
set_option maxRecDepth 100000 in
theorem UK (d:Int×Int×(List (Int×(Int×Int)×Int))×Int):gwp (Wy) (N0 d.1 d.2.1 d.2.2.1 d.2.2.2) c95 0 (VT [.tmp 5] (Wg d) (Wf d)) (Qt 36 (AL.can WL d))=Zl d.1 d.2.1 d.2.2.1 d.2.2.2:=by kernel_rfl
abbrev N1:Prop:=OkC Tryz.prog 95 ZD
theorem N5 (h:∀ (a:Int) (b:Int) (l:List (Int×(Int×Int)×Int)) (tl:Int),(l.length≤12∧(∀ y∈l,Qw y=true)∧0≤a∧a<l.length∧0≤b∧b<l.length)→Zl a b l tl):OkC Tryz.prog 95 ZD :=
 Z7 Q7a mixed (C:=Wy) (V:=fun (d:Int×Int×(List (Int×(Int×Int)×Int))×Int)=>Zl d.1 d.2.1 d.2.2.1 d.2.2.2) ⟨(.cons WD (.cons DA .nil)),XsOk.nil,ItsOk.nil,YlOk.nil,IysOk.nil,XfOk.nil⟩ (UK) fun d hp=>h d.1 d.2.1 d.2.2.1 d.2.2.2 hp
theorem WR:N1:=N5 fun a b l tl h=>by obtain⟨h1,h2,h3,h4,h5,h6⟩:=h;unfold Zl;(try delta lI gD sT I64);simp only[List.length_cons,List.length_nil];and_intros<;>first|omega|trivial|rfl
def VD:AL (Int):=(.one (.k (.i .u32)))
def GK (d:Int):Prop:=False
def V0 (d:Int):SV:=.val (.i .i64) (RC d)
def KF (d:Int):List OB:=[]
def Yj:CSp:=YO VD GK V0 KF
def WJ (x:Int):Prop :=
 ((decide (x≥(65536:Int)))=true →
  (0≤(16:Int))∧((decide ((Z2 .u32 x (16:Int))≥(256:Int)))=true →
   (0≤(8:Int))∧(I64 ((16:Int)+(8:Int)))∧(InK .u8 (Z2 .u32 (Z2 .u32 x (16:Int)) (8:Int)))∧(0≤(Z2 .u32 (Z2 .u32 x (16:Int)) (8:Int)))∧((Z2 .u32 (Z2 .u32 x (16:Int)) (8:Int))<(List.length len8T))∧(I64 ((UInt8.toNat (gD len8T (Z2 .u32 (Z2 .u32 x (16:Int)) (8:Int)) 0):Nat):Int))∧(I64 (((16:Int)+(8:Int))+((UInt8.toNat (gD len8T (Z2 .u32 (Z2 .u32 x (16:Int)) (8:Int)) 0):Nat):Int)))∧((((16:Int)+(8:Int))+((UInt8.toNat (gD len8T (Z2 .u32 (Z2 .u32 x (16:Int)) (8:Int)) 0):Nat):Int))=(RC x)∧(True))) ∧
  ((decide ((Z2 .u32 x (16:Int))≥(256:Int)))=false →
   (InK .u8 (Z2 .u32 x (16:Int)))∧(0≤(Z2 .u32 x (16:Int)))∧((Z2 .u32 x (16:Int))<(List.length len8T))∧(I64 ((UInt8.toNat (gD len8T (Z2 .u32 x (16:Int)) 0):Nat):Int))∧(I64 ((16:Int)+((UInt8.toNat (gD len8T (Z2 .u32 x (16:Int)) 0):Nat):Int)))∧(((16:Int)+((UInt8.toNat (gD len8T (Z2 .u32 x (16:Int)) 0):Nat):Int))=(RC x)∧(True)))) ∧
 ((decide (x≥(65536:Int)))=false →
  ((decide (x≥(256:Int)))=true →
   (0≤(8:Int))∧(I64 ((0:Int)+(8:Int)))∧(InK .u8 (Z2 .u32 x (8:Int)))∧(0≤(Z2 .u32 x (8:Int)))∧((Z2 .u32 x (8:Int))<(List.length len8T))∧(I64 ((UInt8.toNat (gD len8T (Z2 .u32 x (8:Int)) 0):Nat):Int))∧(I64 (((0:Int)+(8:Int))+((UInt8.toNat (gD len8T (Z2 .u32 x (8:Int)) 0):Nat):Int)))∧((((0:Int)+(8:Int))+((UInt8.toNat (gD len8T (Z2 .u32 x (8:Int)) 0):Nat):Int))=(RC x)∧(True))) ∧
  ((decide (x≥(256:Int)))=false →
   (InK .u8 x)∧(0≤x)∧(x<(List.length len8T))∧(I64 ((UInt8.toNat (gD len8T x 0):Nat):Int))∧(I64 ((0:Int)+((UInt8.toNat (gD len8T x 0):Nat):Int)))∧(((0:Int)+((UInt8.toNat (gD len8T x 0):Nat):Int))=(RC x)∧(True))))
def VU:Cx:=⟨[],[],19,[],0,[],[],[],[],false,[],[],[],[]⟩
def B3 (x:Int):List (Nat×LoopAnn):=[]
set_option maxRecDepth 100000 in
theorem Bc (d:Int):gwp (VU) (B3 d) Z2k 0 (VT [.tmp 2] (V0 d) (KF d)) (Qt 19 (AL.can VD d))=WJ d:=by kernel_rfl
abbrev Dw:Prop:=OkC Tryz.prog 120 Yj
theorem Bm (h:∀ (x:Int),(False)→WJ x):OkC Tryz.prog 120 Yj :=
 Z7 Ou mixed (C:=VU) (V:=fun (d:Int)=>WJ d) ⟨.nil,XsOk.nil,ItsOk.nil,YlOk.nil,IysOk.nil,XfOk.nil⟩ (Bc) fun d hp=>h d hp
theorem De:Dw:=Bm fun x h=>h.elim
def Vy:AL (Int):=(.one (.k (.i .u64)))
def GB (d:Int):Prop:=0≤d∧d≤255
def KS (d:Int):SV:=.val (.i .i64) (RC d)
def Vd (d:Int):List OB:=[]
def Yg:CSp:=YO Vy GB KS Vd
def J_ (x:Int):Prop :=
 ((decide (x≥(4294967296:Int)))=true →
  (0≤(32:Int))∧((decide ((Z2 .u64 x (32:Int))≥(65536:Int)))=true →
   (0≤(16:Int))∧(I64 ((32:Int)+(16:Int)))∧((decide ((Z2 .u64 (Z2 .u64 x (32:Int)) (16:Int))≥(256:Int)))=true →
    (0≤(8:Int))∧(I64 (((32:Int)+(16:Int))+(8:Int)))∧(InK .u8 (Z2 .u64 (Z2 .u64 (Z2 .u64 x (32:Int)) (16:Int)) (8:Int)))∧(0≤(Z2 .u64 (Z2 .u64 (Z2 .u64 x (32:Int)) (16:Int)) (8:Int)))∧((Z2 .u64 (Z2 .u64 (Z2 .u64 x (32:Int)) (16:Int)) (8:Int))<(List.length len8T))∧(I64 ((UInt8.toNat (gD len8T (Z2 .u64 (Z2 .u64 (Z2 .u64 x (32:Int)) (16:Int)) (8:Int)) 0):Nat):Int))∧(I64 ((((32:Int)+(16:Int))+(8:Int))+((UInt8.toNat (gD len8T (Z2 .u64 (Z2 .u64 (Z2 .u64 x (32:Int)) (16:Int)) (8:Int)) 0):Nat):Int)))∧(((((32:Int)+(16:Int))+(8:Int))+((UInt8.toNat (gD len8T (Z2 .u64 (Z2 .u64 (Z2 .u64 x (32:Int)) (16:Int)) (8:Int)) 0):Nat):Int))=(RC x)∧(True))) ∧
   ((decide ((Z2 .u64 (Z2 .u64 x (32:Int)) (16:Int))≥(256:Int)))=false →
    (InK .u8 (Z2 .u64 (Z2 .u64 x (32:Int)) (16:Int)))∧(0≤(Z2 .u64 (Z2 .u64 x (32:Int)) (16:Int)))∧((Z2 .u64 (Z2 .u64 x (32:Int)) (16:Int))<(List.length len8T))∧(I64 ((UInt8.toNat (gD len8T (Z2 .u64 (Z2 .u64 x (32:Int)) (16:Int)) 0):Nat):Int))∧(I64 (((32:Int)+(16:Int))+((UInt8.toNat (gD len8T (Z2 .u64 (Z2 .u64 x (32:Int)) (16:Int)) 0):Nat):Int)))∧((((32:Int)+(16:Int))+((UInt8.toNat (gD len8T (Z2 .u64 (Z2 .u64 x (32:Int)) (16:Int)) 0):Nat):Int))=(RC x)∧(True)))) ∧
  ((decide ((Z2 .u64 x (32:Int))≥(65536:Int)))=false →
   ((decide ((Z2 .u64 x (32:Int))≥(256:Int)))=true →
    (0≤(8:Int))∧(I64 ((32:Int)+(8:Int)))∧(InK .u8 (Z2 .u64 (Z2 .u64 x (32:Int)) (8:Int)))∧(0≤(Z2 .u64 (Z2 .u64 x (32:Int)) (8:Int)))∧((Z2 .u64 (Z2 .u64 x (32:Int)) (8:Int))<(List.length len8T))∧(I64 ((UInt8.toNat (gD len8T (Z2 .u64 (Z2 .u64 x (32:Int)) (8:Int)) 0):Nat):Int))∧(I64 (((32:Int)+(8:Int))+((UInt8.toNat (gD len8T (Z2 .u64 (Z2 .u64 x (32:Int)) (8:Int)) 0):Nat):Int)))∧((((32:Int)+(8:Int))+((UInt8.toNat (gD len8T (Z2 .u64 (Z2 .u64 x (32:Int)) (8:Int)) 0):Nat):Int))=(RC x)∧(True))) ∧
   ((decide ((Z2 .u64 x (32:Int))≥(256:Int)))=false →
    (InK .u8 (Z2 .u64 x (32:Int)))∧(0≤(Z2 .u64 x (32:Int)))∧((Z2 .u64 x (32:Int))<(List.length len8T))∧(I64 ((UInt8.toNat (gD len8T (Z2 .u64 x (32:Int)) 0):Nat):Int))∧(I64 ((32:Int)+((UInt8.toNat (gD len8T (Z2 .u64 x (32:Int)) 0):Nat):Int)))∧(((32:Int)+((UInt8.toNat (gD len8T (Z2 .u64 x (32:Int)) 0):Nat):Int))=(RC x)∧(True))))) ∧
 ((decide (x≥(4294967296:Int)))=false →
  ((decide (x≥(65536:Int)))=true →
   (0≤(16:Int))∧(I64 ((0:Int)+(16:Int)))∧((decide ((Z2 .u64 x (16:Int))≥(256:Int)))=true →
    (0≤(8:Int))∧(I64 (((0:Int)+(16:Int))+(8:Int)))∧(InK .u8 (Z2 .u64 (Z2 .u64 x (16:Int)) (8:Int)))∧(0≤(Z2 .u64 (Z2 .u64 x (16:Int)) (8:Int)))∧((Z2 .u64 (Z2 .u64 x (16:Int)) (8:Int))<(List.length len8T))∧(I64 ((UInt8.toNat (gD len8T (Z2 .u64 (Z2 .u64 x (16:Int)) (8:Int)) 0):Nat):Int))∧(I64 ((((0:Int)+(16:Int))+(8:Int))+((UInt8.toNat (gD len8T (Z2 .u64 (Z2 .u64 x (16:Int)) (8:Int)) 0):Nat):Int)))∧(((((0:Int)+(16:Int))+(8:Int))+((UInt8.toNat (gD len8T (Z2 .u64 (Z2 .u64 x (16:Int)) (8:Int)) 0):Nat):Int))=(RC x)∧(True))) ∧
   ((decide ((Z2 .u64 x (16:Int))≥(256:Int)))=false →
    (InK .u8 (Z2 .u64 x (16:Int)))∧(0≤(Z2 .u64 x (16:Int)))∧((Z2 .u64 x (16:Int))<(List.length len8T))∧(I64 ((UInt8.toNat (gD len8T (Z2 .u64 x (16:Int)) 0):Nat):Int))∧(I64 (((0:Int)+(16:Int))+((UInt8.toNat (gD len8T (Z2 .u64 x (16:Int)) 0):Nat):Int)))∧((((0:Int)+(16:Int))+((UInt8.toNat (gD len8T (Z2 .u64 x (16:Int)) 0):Nat):Int))=(RC x)∧(True)))) ∧
  ((decide (x≥(65536:Int)))=false →
   ((decide (x≥(256:Int)))=true →
    (0≤(8:Int))∧(I64 ((0:Int)+(8:Int)))∧(InK .u8 (Z2 .u64 x (8:Int)))∧(0≤(Z2 .u64 x (8:Int)))∧((Z2 .u64 x (8:Int))<(List.length len8T))∧(I64 ((UInt8.toNat (gD len8T (Z2 .u64 x (8:Int)) 0):Nat):Int))∧(I64 (((0:Int)+(8:Int))+((UInt8.toNat (gD len8T (Z2 .u64 x (8:Int)) 0):Nat):Int)))∧((((0:Int)+(8:Int))+((UInt8.toNat (gD len8T (Z2 .u64 x (8:Int)) 0):Nat):Int))=(RC x)∧(True))) ∧
   ((decide (x≥(256:Int)))=false →
    (InK .u8 x)∧(0≤x)∧(x<(List.length len8T))∧(I64 ((UInt8.toNat (gD len8T x 0):Nat):Int))∧(I64 ((0:Int)+((UInt8.toNat (gD len8T x 0):Nat):Int)))∧(((0:Int)+((UInt8.toNat (gD len8T x 0):Nat):Int))=(RC x)∧(True)))))
def VE:Cx:=⟨[],[],25,[],0,[],[],[],[],false,[],[],[],[]⟩
def DH (x:Int):List (Nat×LoopAnn):=[]
set_option maxRecDepth 100000 in
theorem Dm (d:Int):gwp (VE) (DH d) Z2r 0 (VT [.tmp 2] (KS d) (Vd d)) (Qt 25 (AL.can Vy d))=J_ d:=by kernel_rfl
abbrev Dg:Prop:=OkC Tryz.prog 121 Yg
theorem DT (h:∀ (x:Int),(0≤x∧x≤255)→J_ x):OkC Tryz.prog 121 Yg :=
 Z7 Q1x mixed (C:=VE) (V:=fun (d:Int)=>J_ d) ⟨.nil,XsOk.nil,ItsOk.nil,YlOk.nil,IysOk.nil,XfOk.nil⟩ (Dm) fun d hp=>h d hp
theorem Dy:Dg:=DT fun x h=>by
 obtain⟨h1,h2⟩:=h;unfold J_;(try delta lI gD sT I64);have ai:(UInt8.toNat (List.getD len8T (Int.toNat x) 0):Int)≤255:=by have:=(List.getD len8T (Int.toNat x) 0).toNat_lt;omega
 refine⟨fun c=>by simp at c;omega,fun _=>⟨fun c=>by simp at c;omega,fun _=>⟨fun c=>by simp at c;omega,fun _=>?_⟩⟩⟩;have hl:len8T.length=256:=by decide +kernel
 rw[hl];simp only[DI,Z3];refine⟨by omega,h1,by omega,by omega,by omega,?_⟩;unfold RC;rw[Int.zero_add];exact(by and_intros<;>first|rfl|trivial|simp)
def Nl:AL (Int):=(.one (.k (.i .u64)))
def BI (d:Int):Prop:=0≤d∧d≤255
def Ux (d:Int):SV:=.val (.i .i64) (RC d)
def UD (d:Int):List OB:=[]
def Wv:CSp:=YO Nl BI Ux UD
def XV (x:Int):Prop :=
 (false=true →
  (InK .u32 x)∧(False)∧((RC x)=(RC x)∧(True))) ∧
 (false=false →
  (0≤x∧x≤255)∧((RC x)=(RC x)∧(True)))
def Nt:Cx:=⟨[],[(120,Yj),(121,Yg)],8,[],0,[],[],[],[],false,[],[],[],[]⟩
def HL (x:Int):List (Nat×LoopAnn):=[]
set_option maxRecDepth 100000 in
theorem HT (d:Int):gwp (Nt) (HL d) Z2b 0 (VT [.tmp 2] (Ux d) (UD d)) (Qt 8 (AL.can Nl d))=XV d:=by kernel_rfl
abbrev HQ:Prop:=OkC Tryz.prog 107 Wv
theorem HE (h:∀ (x:Int),(0≤x∧x≤255)→XV x):OkC Tryz.prog 107 Wv :=
 Z7 Q10 mixed (C:=Nt) (V:=fun (d:Int)=>XV d) ⟨(.cons De (.cons Dy .nil)),XsOk.nil,ItsOk.nil,YlOk.nil,IysOk.nil,XfOk.nil⟩ (HT) fun d hp=>h d hp
theorem Nv:HQ:=HE fun x h=>by unfold XV;(try delta lI gD sT I64);exact⟨(fun c=>by cases c),fun _=>⟨h,(by and_intros<;>first|rfl|trivial|simp)⟩⟩
def ZK:AL (Int×Int×((Int×Int→Prop)×(Int×Int→Int))):=(.cons (.k (.i .i64)) (.cons (.k (.i .i64)) (.one (.fn [(.i .i64),(.i .i64)] (.i .i64)))))
def X_ (xs:List Int) (nl:Bool) (d:Int×Int×((Int×Int→Prop)×(Int×Int→Int))):Prop:=0≤d.1∧d.1≤d.2.1∧d.2.1≤xs.length∧xs.length≤12∧(∀ x∈xs,∀ y∈xs,d.2.2.1 (x,y))
def Zz (xs:List Int) (nl:Bool) (d:Int×Int×((Int×Int→Prop)×(Int×Int→Int))):SV:=.tup []
def Zq (xs:List Int) (nl:Bool) (d:Int×Int×((Int×Int→Prop)×(Int×Int→Int))):List Int:=(KU d.2.2.2 xs d.1.toNat d.2.1.toNat)
def QP:XSp:=SZ (gap [] 3) (Bp 3 (.i .i64) ZK X_ Zz Zq)
def Qs (xs:List Int) (nl:Bool) (a:Int) (b:Int) (p:(Int×Int→Prop)×(Int×Int→Int)):Prop:=∀ vals:List Value,
 (I64 (a+(1:Int)))∧∃ (e2:Unit) (d20:(List Int)×Bool×Int),((True∧a=a∧b=b∧(SV.pf [(.i .i64),(.i .i64)] (.i .i64) p.1 p.2=SV.pf [(.i .i64),(.i .i64)] (.i .i64) p.1 p.2)∧(a+(1:Int))=d20.2.2∧True)∧((xs=d20.1∧nl=d20.2.1)∧(vals=vals∧(True∧(([]:List SV)=[])))∧True)) ∧
 LoopP (fun (d2:(List Int)×Bool×Int) (q2:((List Int)×Bool×Int)→Prop) =>
  ((decide (d2.2.2<b))=true →
   ∃ (e5:Bool×Int) (d50:(List Int)×Int),((True∧a=a∧b=b∧(SV.pf [(.i .i64),(.i .i64)] (.i .i64) p.1 p.2=SV.pf [(.i .i64),(.i .i64)] (.i .i64) p.1 p.2)∧d2.2.2=e5.2∧d2.2.2=d50.2∧True)∧((d2.1=d50.1∧d2.2.1=e5.1)∧(vals=vals∧(True∧(([]:List SV)=[])))∧True)) ∧
   LoopP (fun (d5:(List Int)×Int) (q5:((List Int)×Int)→Prop) =>
    ((decide (d5.2 > a))=true→0≤d5.2)∧((decide (d5.2 > a))=true→d5.2<(List.length d5.1))∧((decide (d5.2 > a))=true→InK .i64 (d5.2-(1:Int)))∧((decide (d5.2 > a))=true→0≤(d5.2-(1:Int)))∧((decide (d5.2 > a))=true→(d5.2-(1:Int))<(List.length d5.1))∧((decide (d5.2 > a))=true→p.1 ((gD d5.1 d5.2 0),(gD d5.1 (d5.2-(1:Int)) 0)))∧(((decide (d5.2 > a))&&(decide ((p.2 ((gD d5.1 d5.2 0),(gD d5.1 (d5.2-(1:Int)) 0)))<(0:Int))))=true →
     (I64 (d5.2-(1:Int)))∧(I64 (d5.2-(1:Int)))∧(0≤(d5.2-(1:Int)))∧((d5.2-(1:Int))<(List.length d5.1))∧(0≤d5.2)∧(d5.2<(List.length d5.1))∧(0≤d5.2)∧(d5.2<(List.length d5.1))∧(0≤(d5.2-(1:Int)))∧((d5.2-(1:Int))<(List.length (sT d5.1 d5.2 (gD d5.1 (d5.2-(1:Int)) 0))))∧(I64 (d5.2-(1:Int)))∧(∃ d6:(List Int)×Int,((True∧a=a∧b=b∧(SV.pf [(.i .i64),(.i .i64)] (.i .i64) p.1 p.2=SV.pf [(.i .i64),(.i .i64)] (.i .i64) p.1 p.2)∧e5.2=e5.2∧(d5.2-(1:Int))=d6.2∧True)∧(((sT (sT d5.1 d5.2 (gD d5.1 (d5.2-(1:Int)) 0)) (d5.2-(1:Int)) (gD d5.1 d5.2 0))=d6.1∧e5.1=e5.1)∧(vals=vals∧(True∧(([]:List SV)=[])))∧True))∧q5 d6)) ∧
    (((decide (d5.2 > a))&&(decide ((p.2 ((gD d5.1 d5.2 0),(gD d5.1 (d5.2-(1:Int)) 0)))<(0:Int))))=false →
     (I64 (e5.2+(1:Int)))∧(∃ d7:(List Int)×Bool×Int,((True∧a=a∧b=b∧(SV.pf [(.i .i64),(.i .i64)] (.i .i64) p.1 p.2=SV.pf [(.i .i64),(.i .i64)] (.i .i64) p.1 p.2)∧(e5.2+(1:Int))=d7.2.2∧True)∧((d5.1=d7.1∧e5.1=d7.2.1)∧(vals=vals∧(True∧(([]:List SV)=[])))∧True))∧q2 d7))) d50) ∧
  ((decide (d2.2.2<b))=false →
   (vals=vals∧(True∧(([]:List SV)=[]))∧((([]:List SV)=[]))∧(d2.1=(KU p.2 xs a.toNat b.toNat)∧d2.2.1=nl)))) d20
def ZE:Cx:=⟨[],[],53,[],0,[],[],[],[],false,[],[],[],[]⟩
def ZI (xs:List Int) (nl:Bool) (a:Int) (b:Int) (p:(Int×Int→Prop)×(Int×Int→Int)) (vals:List Value):List (Nat×LoopAnn):=[(0,⟨Unit,(List Int)×Bool×Int,[0,1,2,3,8],fun e x=>[.lst 0,.val (.i .i64) a,.val (.i .i64) b,.pf [(.i .i64),(.i .i64)] (.i .i64) p.1 p.2,.val (.i .i64) x.2.2],fun e x=>[(0,.slot 0,.lst 3 (.i .i64) x.1 x.2.1),(4000000,.key 4000000,.stk [.lst 0] vals)]⟩),
 (2,⟨Bool×Int,(List Int)×Int,[0,1,2,3,8,9],fun e x=>[.lst 0,.val (.i .i64) a,.val (.i .i64) b,.pf [(.i .i64),(.i .i64)] (.i .i64) p.1 p.2,.val (.i .i64) e.2,.val (.i .i64) x.2],fun e x=>[(0,.slot 0,.lst 3 (.i .i64) x.1 e.1),(4000000,.key 4000000,.stk [.lst 0] vals)]⟩)]
set_option maxRecDepth 100000 in
theorem Wu (xs:List Int) (nl:Bool) (d:Int×Int×((Int×Int→Prop)×(Int×Int→Int))):(∀ vals,gwp ZE (ZI xs nl d.1 d.2.1 d.2.2 vals) Z2u 0 (Bx vals [] (Zz xs nl d) (.lst 3 (.i .i64) (Zq xs nl d) nl) (.lst 0)) (JT 53 (.lst 0) (.lst 3 (.i .i64) xs nl) vals (AL.can ZK d)))=Qs xs nl d.1 d.2.1 d.2.2:=by kernel_rfl
abbrev Wm:Prop:=XOk Tryz.prog 109 QP
theorem Wp (h:∀ (xs:List Int) (nl:Bool) (a:Int) (b:Int) (p:(Int×Int→Prop)×(Int×Int→Int)),(0≤a∧a≤b∧b≤xs.length∧xs.length≤12∧(∀ x∈xs,∀ y∈xs,p.1 (x,y)))→Qs xs nl a b p):XOk Tryz.prog 109 QP :=
 MU OL mixed (DJ .nil 3) (C:=ZE) ⟨.nil,XsOk.nil,ItsOk.nil,YlOk.nil,IysOk.nil,XfOk.nil⟩ (L:=fun xs nl (d:Int×Int×((Int×Int→Prop)×(Int×Int→Int))) vals=>ZI xs nl d.1 d.2.1 d.2.2 vals) (V:=fun xs nl (d:Int×Int×((Int×Int→Prop)×(Int×Int→Int)))=>Qs xs nl d.1 d.2.1 d.2.2) Wu fun xs nl d hp=>h xs nl d.1 d.2.1 d.2.2 hp
theorem W6:Wm:=Wp fun xs nl a b p h=>by
 obtain⟨h1,h2,h3,h4,h5⟩:=h;unfold Qs;(try delta lI gD sT I64);intro vals;have hI:∀ e:Int,-1000≤e→e≤1000→InK .i64 e:=fun e _ _=>by simp only[Z3];omega
 obtain⟨a,rfl⟩:∃ n:Nat,a=n:=⟨a.toNat,by omega⟩;obtain⟨b,rfl⟩:∃ n:Nat,b=n:=⟨b.toNat,by omega⟩;simp only[Int.toNat_natCast];refine⟨hI _ (by omega) (by omega),(),(xs,nl,(a:Int)+1),(by and_intros<;>first|rfl|trivial|simp),?_⟩;refine⟨fun d=>∃ n:Nat,d.2.2=(a:Int)+1+n∧(n=0∨a+1+n≤b)∧nl=d.2.1∧d.1=F8 (fun x y=>decide (p.2 (x,y)<0)) a n xs,fun d=>(1000-d.2.2).toNat,⟨0,by simp,.inl rfl,rfl,rfl⟩,?_⟩;rintro⟨ys,gL,i⟩ ⟨n,e1,e2,e3,e4⟩;dsimp only at e1 e2 e3 e4 ⊢;subst e1 e3;refine⟨fun c=>?_,fun c=>?_⟩
 ·have c:a+1+n<b:=by simp at c;omega
  have hp:ys.Perm xs:=by rw[e4];exact UF _ (by omega)
  have hlen:=hp.length_eq;refine⟨(nl,(a:Int)+1+n),(ys,(a:Int)+1+n),(by and_intros<;>first|rfl|trivial|simp),?_⟩;dsimp only;refine⟨fun d=>∃ j:Nat,d.2=j∧j≤a+1+n∧d.1.Perm xs∧Lt (fun x y=>decide (p.2 (x,y)<0)) a j d.1=F8 (fun x y=>decide (p.2 (x,y)<0)) a (n+1) xs,fun d=>d.2.toNat,⟨a+1+n,by simp,Nat.le_refl _,hp,by rw[e4];rfl⟩,?_⟩;rintro⟨zs,j'⟩ ⟨j,f1,f2,f3,f4⟩;dsimp only at f1 f3 f4 ⊢;subst f1;have rE:=f3.length_eq;have jq:((j:Int)-1).toNat=j-1:=by omega
  simp only[Int.toNat_natCast,jq];refine⟨fun g=>by omega,fun g=>by omega,fun g=>hI _ (by omega) (by omega),fun g=>by simp at g;omega,fun g=>by omega,fun g=>by rw[Qa (show j<zs.length by omega),Qa (show j-1<zs.length by omega)];exact h5 _ (f3.mem_iff.1 (List.getElem_mem _)) _ (f3.mem_iff.1 (List.getElem_mem _)),fun g=>?_,fun g=>?_⟩
  ·have g:a<j∧p.2 (zs.getD j 0,zs.getD (j-1) 0)<0:=by simpa using g
   refine⟨hI _ (by omega) (by omega),hI _ (by omega) (by omega),by omega,by omega,by omega,by omega,by omega,by omega,by omega,by rw[List.length_set];omega,hI _ (by omega) (by omega),((zs.set j (zs.getD (j-1) 0)).set (j-1) (zs.getD j 0),(j:Int)-1),(by and_intros<;>first|rfl|trivial|simp),⟨j-1,by omega,by omega,(BG (by omega) (by omega)).trans f3,Sa f4 g.1 g.2⟩,by dsimp only;omega⟩
  ·refine⟨hI _ (by omega) (by omega),(zs,nl,(a:Int)+1+n+1),(by and_intros<;>first|rfl|trivial|simp),⟨n+1,by simp;omega,by omega,rfl,AS f4 fun hh=>?_⟩,by dsimp only;omega⟩;have h7:p.2 (zs.getD j 0,zs.getD (j-1) 0)<0:=hh.2;have h8:a<j:=hh.1;rw[decide_eq_true (show (j:Int) > a by omega),decide_eq_true h7] at g;cases g
 ·have hn:n=b-a-1:=by simp at c;omega
  rw[e4,hn];exact(by and_intros<;>first|rfl|trivial|simp)
def Zs:AL (Int×Int×((List Int×List Int→Prop)×(List Int×List Int→Int))):=(.cons (.k (.i .i64)) (.cons (.k (.i .i64)) (.one (.fn [(.list (.i .i64)),(.list (.i .i64))] (.i .i64)))))
def XH (xs:List (List Int)) (nl:Bool) (d:Int×Int×((List Int×List Int→Prop)×(List Int×List Int→Int))):Prop:=0≤d.1∧d.1≤d.2.1∧d.2.1≤xs.length∧xs.length≤12∧(∀ x∈xs,∀ y∈xs,d.2.2.1 (x,y))
def Zi (xs:List (List Int)) (nl:Bool) (d:Int×Int×((List Int×List Int→Prop)×(List Int×List Int→Int))):SV:=.tup []
def Zb (xs:List (List Int)) (nl:Bool) (d:Int×Int×((List Int×List Int→Prop)×(List Int×List Int→Int))):List (List Int):=(KU d.2.2.2 xs d.1.toNat d.2.1.toNat)
def QJ:XSp:=FO (gap [] 3) (Bp 31 (.list (.i .i64)) Zs XH Zi Zb)
def Qo (xs:List (List Int)) (nl:Bool) (a:Int) (b:Int) (p:(List Int×List Int→Prop)×(List Int×List Int→Int)):Prop:=∀ vals:List Value,
 (I64 (a+(1:Int)))∧∃ (e2:Unit) (d20:(List (List Int))×Bool×Int),((True∧a=a∧b=b∧(SV.pf [(.list (.i .i64)),(.list (.i .i64))] (.i .i64) p.1 p.2=SV.pf [(.list (.i .i64)),(.list (.i .i64))] (.i .i64) p.1 p.2)∧(a+(1:Int))=d20.2.2∧True)∧((xs=d20.1∧nl=d20.2.1)∧(vals=vals∧(True∧(([]:List SV)=[])))∧True)) ∧
 LoopP (fun (d2:(List (List Int))×Bool×Int) (q2:((List (List Int))×Bool×Int)→Prop) =>
  ((decide (d2.2.2<b))=true →
   ∃ (e5:Bool×Int) (d50:(List (List Int))×Int),((True∧a=a∧b=b∧(SV.pf [(.list (.i .i64)),(.list (.i .i64))] (.i .i64) p.1 p.2=SV.pf [(.list (.i .i64)),(.list (.i .i64))] (.i .i64) p.1 p.2)∧d2.2.2=e5.2∧d2.2.2=d50.2∧True)∧((d2.1=d50.1∧d2.2.1=e5.1)∧(vals=vals∧(True∧(([]:List SV)=[])))∧True)) ∧
   LoopP (fun (d5:(List (List Int))×Int) (q5:((List (List Int))×Int)→Prop) =>
    ((decide (d5.2 > a))=true→0≤d5.2)∧((decide (d5.2 > a))=true→d5.2<(List.length d5.1))∧((decide (d5.2 > a))=true→InK .i64 (d5.2-(1:Int)))∧((decide (d5.2 > a))=true→0≤(d5.2-(1:Int)))∧((decide (d5.2 > a))=true→(d5.2-(1:Int))<(List.length d5.1))∧((decide (d5.2 > a))=true→p.1 ((gD d5.1 d5.2 []),(gD d5.1 (d5.2-(1:Int)) [])))∧(((decide (d5.2 > a))&&(decide ((p.2 ((gD d5.1 d5.2 []),(gD d5.1 (d5.2-(1:Int)) [])))<(0:Int))))=true →
     (I64 (d5.2-(1:Int)))∧(I64 (d5.2-(1:Int)))∧(0≤(d5.2-(1:Int)))∧((d5.2-(1:Int))<(List.length d5.1))∧(0≤d5.2)∧(d5.2<(List.length d5.1))∧(0≤d5.2)∧(d5.2<(List.length d5.1))∧(0≤(d5.2-(1:Int)))∧((d5.2-(1:Int))<(List.length (sT d5.1 d5.2 (gD d5.1 (d5.2-(1:Int)) []))))∧(I64 (d5.2-(1:Int)))∧(∃ d6:(List (List Int))×Int,((True∧a=a∧b=b∧(SV.pf [(.list (.i .i64)),(.list (.i .i64))] (.i .i64) p.1 p.2=SV.pf [(.list (.i .i64)),(.list (.i .i64))] (.i .i64) p.1 p.2)∧e5.2=e5.2∧(d5.2-(1:Int))=d6.2∧True)∧(((sT (sT d5.1 d5.2 (gD d5.1 (d5.2-(1:Int)) [])) (d5.2-(1:Int)) (gD d5.1 d5.2 []))=d6.1∧e5.1=e5.1)∧(vals=vals∧(True∧(([]:List SV)=[])))∧True))∧q5 d6)) ∧
    (((decide (d5.2 > a))&&(decide ((p.2 ((gD d5.1 d5.2 []),(gD d5.1 (d5.2-(1:Int)) [])))<(0:Int))))=false →
     (I64 (e5.2+(1:Int)))∧(∃ d7:(List (List Int))×Bool×Int,((True∧a=a∧b=b∧(SV.pf [(.list (.i .i64)),(.list (.i .i64))] (.i .i64) p.1 p.2=SV.pf [(.list (.i .i64)),(.list (.i .i64))] (.i .i64) p.1 p.2)∧(e5.2+(1:Int))=d7.2.2∧True)∧((d5.1=d7.1∧e5.1=d7.2.1)∧(vals=vals∧(True∧(([]:List SV)=[])))∧True))∧q2 d7))) d50) ∧
  ((decide (d2.2.2<b))=false →
   (vals=vals∧(True∧(([]:List SV)=[]))∧((([]:List SV)=[]))∧(d2.1=(KU p.2 xs a.toNat b.toNat)∧d2.2.1=nl)))) d20
def Zo:Cx:=⟨[],[],53,[0],0,[],[],[],[],false,[],[],[],[]⟩
def Zr (xs:List (List Int)) (nl:Bool) (a:Int) (b:Int) (p:(List Int×List Int→Prop)×(List Int×List Int→Int)) (vals:List Value):List (Nat×LoopAnn):=[(0,⟨Unit,(List (List Int))×Bool×Int,[0,1,2,3,8],fun e x=>[.lst 0,.val (.i .i64) a,.val (.i .i64) b,.pf [(.list (.i .i64)),(.list (.i .i64))] (.i .i64) p.1 p.2,.val (.i .i64) x.2.2],fun e x=>[(0,.slot 0,.lst 31 (.list (.i .i64)) x.1 x.2.1),(4000000,.key 4000000,.stk [.lst 0] vals)]⟩),
 (2,⟨Bool×Int,(List (List Int))×Int,[0,1,2,3,8,9],fun e x=>[.lst 0,.val (.i .i64) a,.val (.i .i64) b,.pf [(.list (.i .i64)),(.list (.i .i64))] (.i .i64) p.1 p.2,.val (.i .i64) e.2,.val (.i .i64) x.2],fun e x=>[(0,.slot 0,.lst 31 (.list (.i .i64)) x.1 e.1),(4000000,.key 4000000,.stk [.lst 0] vals)]⟩)]
set_option maxRecDepth 100000 in
theorem XI (xs:List (List Int)) (nl:Bool) (d:Int×Int×((List Int×List Int→Prop)×(List Int×List Int→Int))):(∀ vals,gwp Zo (Zr xs nl d.1 d.2.1 d.2.2 vals) Z2j 0 (Bx vals [] (Zi xs nl d) (.lst 31 (.list (.i .i64)) (Zb xs nl d) nl) (.lst 0)) (JT 53 (.lst 0) (.lst 31 (.list (.i .i64)) xs nl) vals (AL.can Zs d)))=Qo xs nl d.1 d.2.1 d.2.2:=by kernel_rfl
abbrev XL:Prop:=XOk Tryz.prog 122 QJ
theorem XR (h:∀ (xs:List (List Int)) (nl:Bool) (a:Int) (b:Int) (p:(List Int×List Int→Prop)×(List Int×List Int→Int)),(0≤a∧a≤b∧b≤xs.length∧xs.length≤12∧(∀ x∈xs,∀ y∈xs,p.1 (x,y)))→Qo xs nl a b p):XOk Tryz.prog 122 QJ :=
 PR O1 mixed (DJ .nil 3) (C:=Zo) ⟨.nil,XsOk.nil,ItsOk.nil,YlOk.nil,IysOk.nil,XfOk.nil⟩ (L:=fun xs nl (d:Int×Int×((List Int×List Int→Prop)×(List Int×List Int→Int))) vals=>Zr xs nl d.1 d.2.1 d.2.2 vals) (V:=fun xs nl (d:Int×Int×((List Int×List Int→Prop)×(List Int×List Int→Int)))=>Qo xs nl d.1 d.2.1 d.2.2) XI fun xs nl d hp=>h xs nl d.1 d.2.1 d.2.2 hp
theorem XD:XL:=XR fun xs nl a b p h=>by
 obtain⟨h1,h2,h3,h4,h5⟩:=h;unfold Qo;(try delta lI gD sT I64);intro vals;have hI:∀ e:Int,-1000≤e→e≤1000→InK .i64 e:=fun e _ _=>by simp only[Z3];omega
 obtain⟨a,rfl⟩:∃ n:Nat,a=n:=⟨a.toNat,by omega⟩;obtain⟨b,rfl⟩:∃ n:Nat,b=n:=⟨b.toNat,by omega⟩;simp only[Int.toNat_natCast];refine⟨hI _ (by omega) (by omega),(),(xs,nl,(a:Int)+1),(by and_intros<;>first|rfl|trivial|simp),?_⟩;refine⟨fun d=>∃ n:Nat,d.2.2=(a:Int)+1+n∧(n=0∨a+1+n≤b)∧nl=d.2.1∧d.1=F8 (fun x y=>decide (p.2 (x,y)<0)) a n xs,fun d=>(1000-d.2.2).toNat,⟨0,by simp,.inl rfl,rfl,rfl⟩,?_⟩;rintro⟨ys,gL,i⟩ ⟨n,e1,e2,e3,e4⟩;dsimp only at e1 e2 e3 e4 ⊢;subst e1 e3;refine⟨fun c=>?_,fun c=>?_⟩
 ·have c:a+1+n<b:=by simp at c;omega
  have hp:ys.Perm xs:=by rw[e4];exact UF _ (by omega)
  have hlen:=hp.length_eq;refine⟨(nl,(a:Int)+1+n),(ys,(a:Int)+1+n),(by and_intros<;>first|rfl|trivial|simp),?_⟩;dsimp only;refine⟨fun d=>∃ j:Nat,d.2=j∧j≤a+1+n∧d.1.Perm xs∧Lt (fun x y=>decide (p.2 (x,y)<0)) a j d.1=F8 (fun x y=>decide (p.2 (x,y)<0)) a (n+1) xs,fun d=>d.2.toNat,⟨a+1+n,by simp,Nat.le_refl _,hp,by rw[e4];rfl⟩,?_⟩;rintro⟨zs,j'⟩ ⟨j,f1,f2,f3,f4⟩;dsimp only at f1 f3 f4 ⊢;subst f1;have rE:=f3.length_eq;have jq:((j:Int)-1).toNat=j-1:=by omega
  simp only[Int.toNat_natCast,jq];refine⟨fun g=>by omega,fun g=>by omega,fun g=>hI _ (by omega) (by omega),fun g=>by simp at g;omega,fun g=>by omega,fun g=>by rw[Qa (show j<zs.length by omega),Qa (show j-1<zs.length by omega)];exact h5 _ (f3.mem_iff.1 (List.getElem_mem _)) _ (f3.mem_iff.1 (List.getElem_mem _)),fun g=>?_,fun g=>?_⟩
  ·have g:a<j∧p.2 (zs.getD j [],zs.getD (j-1) [])<0:=by simpa using g
   refine⟨hI _ (by omega) (by omega),hI _ (by omega) (by omega),by omega,by omega,by omega,by omega,by omega,by omega,by omega,by rw[List.length_set];omega,hI _ (by omega) (by omega),((zs.set j (zs.getD (j-1) [])).set (j-1) (zs.getD j []),(j:Int)-1),(by and_intros<;>first|rfl|trivial|simp),⟨j-1,by omega,by omega,(BG (by omega) (by omega)).trans f3,Sa f4 g.1 g.2⟩,by dsimp only;omega⟩
  ·refine⟨hI _ (by omega) (by omega),(zs,nl,(a:Int)+1+n+1),(by and_intros<;>first|rfl|trivial|simp),⟨n+1,by simp;omega,by omega,rfl,AS f4 fun hh=>?_⟩,by dsimp only;omega⟩;have h7:p.2 (zs.getD j [],zs.getD (j-1) [])<0:=hh.2;have h8:a<j:=hh.1;rw[decide_eq_true (show (j:Int) > a by omega),decide_eq_true h7] at g;cases g
 ·have hn:n=b-a-1:=by simp at c;omega
  rw[e4,hn];exact(by and_intros<;>first|rfl|trivial|simp)
def Xa:AL (Int×((Int×Int→Prop)×(Int×Int→Int))):=(.cons (.k (.i .i64)) (.one (.fn [(.i .i64),(.i .i64)] (.i .i64))))
def Km (xs:List Int) (nl:Bool) (d:Int×((Int×Int→Prop)×(Int×Int→Int))):Prop:=d.1=xs.length∧xs.length≤12∧(∀ x∈xs,∀ y∈xs,d.2.1 (x,y))
def X1 (xs:List Int) (nl:Bool) (d:Int×((Int×Int→Prop)×(Int×Int→Int))):SV:=.tup []
def JS (xs:List Int) (nl:Bool) (d:Int×((Int×Int→Prop)×(Int×Int→Int))):List Int:=(KU d.2.2 xs 0 xs.length)
def ZM:XSp:=SZ (gap [] 3) (Bp 3 (.i .i64) Xa Km X1 JS)
def QT (xs:List Int) (nl:Bool) (n:Int) (p:(Int×Int→Prop)×(Int×Int→Int)):Prop:=∀ vals:List Value,
 ∃ (e3:Unit) (d30:(List Int)×Int×Int),((True∧n=n∧(SV.pf [(.i .i64),(.i .i64)] (.i .i64) p.1 p.2=SV.pf [(.i .i64),(.i .i64)] (.i .i64) p.1 p.2)∧(20:Int)=(20:Int)∧(0:Int)=d30.2.1∧(20:Int)=d30.2.2∧True)∧((xs=d30.1∧nl=nl)∧(vals=vals∧(True∧(([]:List SV)=[])))∧True)) ∧
 LoopP (fun (d3:(List Int)×Int×Int) (q3:((List Int)×Int×Int)→Prop) =>
  ((decide (d3.2.2≤n))=true →
   (0≤d3.2.1∧d3.2.1≤d3.2.2∧d3.2.2≤d3.1.length∧d3.1.length≤12∧(∀ x∈d3.1,∀ y∈d3.1,(fun (x1:Int×Int)=>p.1 (x1.1,x1.2)) (x,y)))∧(I64 (d3.2.2+(20:Int)))∧(∃ d4:(List Int)×Int×Int,((True∧n=n∧(SV.pf [(.i .i64),(.i .i64)] (.i .i64) p.1 p.2=SV.pf [(.i .i64),(.i .i64)] (.i .i64) p.1 p.2)∧(20:Int)=(20:Int)∧d3.2.2=d4.2.1∧(d3.2.2+(20:Int))=d4.2.2∧True)∧(((KU (fun (x1:Int×Int)=>(p.2 (x1.1,x1.2))) d3.1 d3.2.1.toNat d3.2.2.toNat)=d4.1∧nl=nl)∧(vals=vals∧(True∧(([]:List SV)=[])))∧True))∧q3 d4)) ∧
  ((decide (d3.2.2≤n))=false →
   (0≤d3.2.1∧d3.2.1≤n∧n≤d3.1.length∧d3.1.length≤12∧(∀ x∈d3.1,∀ y∈d3.1,(fun (x2:Int×Int)=>p.1 (x2.1,x2.2)) (x,y)))∧∃ (e7:(List Int)) (d70:Bool×Int),((True∧n=n∧(SV.pf [(.i .i64),(.i .i64)] (.i .i64) p.1 p.2=SV.pf [(.i .i64),(.i .i64)] (.i .i64) p.1 p.2)∧(20:Int)=d70.2∧True)∧(((KU (fun (x2:Int×Int)=>(p.2 (x2.1,x2.2))) d3.1 d3.2.1.toNat n.toNat)=e7∧nl=d70.1)∧(vals=vals∧(True∧(([]:List SV)=[])))∧True)) ∧
   LoopP (fun (d7:Bool×Int) (q7:(Bool×Int)→Prop) =>
    ((decide (d7.2<n))=true →
     (I64 ((2:Int)*d7.2))∧∃ (gf:(List Int)×Bool×Int×Int) (d100:Unit),((True∧n=n∧(SV.pf [(.i .i64),(.i .i64)] (.i .i64) p.1 p.2=SV.pf [(.i .i64),(.i .i64)] (.i .i64) p.1 p.2)∧d7.2=gf.2.2.1∧(0:Int)=(0:Int)∧((2:Int)*d7.2)=gf.2.2.2∧True)∧((e7=gf.1∧d7.1=gf.2.1)∧(vals=vals∧(True∧(([]:List SV)=[])))∧True)) ∧
     LoopP (fun (d10:Unit) (uR:(Unit)→Prop) =>
      ((decide (gf.2.2.2≤n))=true →
       (I64 ((0:Int)+gf.2.2.1))∧False) ∧
      ((decide (gf.2.2.2≤n))=false →
       (I64 ((0:Int)+gf.2.2.1))∧((decide (((0:Int)+gf.2.2.1)<n))=true →
        False) ∧
       ((decide (((0:Int)+gf.2.2.1)<n))=false →
        (I64 (gf.2.2.1*(2:Int)))∧(∃ d11:Bool×Int,((True∧n=n∧(SV.pf [(.i .i64),(.i .i64)] (.i .i64) p.1 p.2=SV.pf [(.i .i64),(.i .i64)] (.i .i64) p.1 p.2)∧(gf.2.2.1*(2:Int))=d11.2∧True)∧((gf.1=e7∧gf.2.1=d11.1)∧(vals=vals∧(True∧(([]:List SV)=[])))∧True))∧q7 d11)))) d100) ∧
    ((decide (d7.2<n))=false →
     (vals=vals∧(True∧(([]:List SV)=[]))∧((([]:List SV)=[]))∧(e7=(KU p.2 xs 0 xs.length)∧d7.1=nl)))) d70)) d30
def Xj:Cx:=⟨[],[],63,[],0,[(109,QP),(110,LL)],[],[],[],false,[],[],[],[]⟩
def Xf (xs:List Int) (nl:Bool) (n:Int) (p:(Int×Int→Prop)×(Int×Int→Int)) (vals:List Value):List (Nat×LoopAnn):=[(0,⟨Unit,(List Int)×Int×Int,[0,1,2,6,7,8],fun e x=>[.lst 0,.val (.i .i64) n,.pf [(.i .i64),(.i .i64)] (.i .i64) p.1 p.2,.val (.i .i64) (20:Int),.val (.i .i64) x.2.1,.val (.i .i64) x.2.2],fun e x=>[(0,.slot 0,.lst 3 (.i .i64) x.1 nl),(4000000,.key 4000000,.stk [.lst 0] vals)]⟩),
 (2,⟨(List Int),Bool×Int,[0,1,2,6],fun e x=>[.lst 0,.val (.i .i64) n,.pf [(.i .i64),(.i .i64)] (.i .i64) p.1 p.2,.val (.i .i64) x.2],fun e x=>[(0,.slot 0,.lst 3 (.i .i64) e x.1),(4000000,.key 4000000,.stk [.lst 0] vals)]⟩),
 (4,⟨(List Int)×Bool×Int×Int,Unit,[0,1,2,6,7,8],fun e x=>[.lst 0,.val (.i .i64) n,.pf [(.i .i64),(.i .i64)] (.i .i64) p.1 p.2,.val (.i .i64) e.2.2.1,.val (.i .i64) (0:Int),.val (.i .i64) e.2.2.2],fun e x=>[(0,.slot 0,.lst 3 (.i .i64) e.1 e.2.1),(4000000,.key 4000000,.stk [.lst 0] vals)]⟩)]
set_option maxRecDepth 100000 in
theorem Vc (xs:List Int) (nl:Bool) (d:Int×((Int×Int→Prop)×(Int×Int→Int))):(∀ vals,gwp Xj (Xf xs nl d.1 d.2 vals) Z2s 0 (Bx vals [] (X1 xs nl d) (.lst 3 (.i .i64) (JS xs nl d) nl) (.lst 0)) (JT 63 (.lst 0) (.lst 3 (.i .i64) xs nl) vals (AL.can Xa d)))=QT xs nl d.1 d.2:=by kernel_rfl
abbrev Va:Prop:=XOk Tryz.prog 105 ZM
theorem KT (h:∀ (xs:List Int) (nl:Bool) (n:Int) (p:(Int×Int→Prop)×(Int×Int→Int)),(n=xs.length∧xs.length≤12∧(∀ x∈xs,∀ y∈xs,p.1 (x,y)))→QT xs nl n p):XOk Tryz.prog 105 ZM :=
 MU Q0a mixed (DJ .nil 3) (C:=Xj) ⟨.nil,(XsOk.cons W6 (XsOk.cons UX XsOk.nil)),ItsOk.nil,YlOk.nil,IysOk.nil,XfOk.nil⟩ (L:=fun xs nl (d:Int×((Int×Int→Prop)×(Int×Int→Int))) vals=>Xf xs nl d.1 d.2 vals) (V:=fun xs nl (d:Int×((Int×Int→Prop)×(Int×Int→Int)))=>QT xs nl d.1 d.2) Vc fun xs nl d hp=>h xs nl d.1 d.2 hp
theorem Kd:Va:=KT fun xs nl n p h=>by obtain⟨h1,h2,h3⟩:=h;subst h1;unfold QT;(try delta lI gD sT I64);intro vals;refine⟨(),(xs,0,20),(by and_intros<;>first|rfl|trivial|simp),?_⟩;refine⟨fun d=>d=(xs,0,20),fun _=>0,rfl,?_⟩;rintro _ rfl;dsimp only;refine⟨fun c=>by simp at c;omega,fun _=>⟨⟨by omega,by omega,by omega,h2,h3⟩,KU p.2 xs 0 xs.length,(nl,20),(by and_intros<;>first|rfl|trivial|simp),?_⟩⟩;refine⟨fun d=>d=(nl,20),fun _=>0,rfl,?_⟩;rintro _ rfl;dsimp only;exact⟨fun c=>by simp at c;omega,fun _=>(by and_intros<;>first|rfl|trivial|simp)⟩
def J7:AL ((Int×Int→Prop)×(Int×Int→Int)):=(.one (.fn [(.i .i64),(.i .i64)] (.i .i64)))
def WQ (xs:List Int) (nl:Bool) (d:(Int×Int→Prop)×(Int×Int→Int)):Prop:=xs.length≤12∧(∀ x∈xs,∀ y∈xs,d.1 (x,y))
def ZR (xs:List Int) (nl:Bool) (d:(Int×Int→Prop)×(Int×Int→Int)):SV:=.tup []
def ZH (xs:List Int) (nl:Bool) (d:(Int×Int→Prop)×(Int×Int→Int)):List Int:=(KU d.2 xs 0 xs.length)
def Z0:XSp:=SZ (gap [(95,ZD)] 3) (Bp 3 (.i .i64) J7 WQ ZR ZH)
def Qv (xs:List Int) (nl:Bool) (p:(Int×Int→Prop)×(Int×Int→Int)):Prop:=∀ vals:List Value,
 ((lI xs)=xs.length∧xs.length≤12∧(∀ x∈xs,∀ y∈xs,(fun (x1:Int×Int)=>p.1 (x1.1,x1.2)) (x,y)))∧(vals=vals∧(True∧(([]:List SV)=[]))∧((([]:List SV)=[]))∧((KU (fun (x1:Int×Int)=>(p.2 (x1.1,x1.2))) xs 0 xs.length)=(KU p.2 xs 0 xs.length)∧nl=nl))
def Ja:Cx:=⟨[],[],9,[],0,[(105,ZM)],[],[],[],false,[],[],[],[]⟩
def J8 (xs:List Int) (nl:Bool) (p:(Int×Int→Prop)×(Int×Int→Int)) (vals:List Value):List (Nat×LoopAnn):=[]
set_option maxRecDepth 100000 in
theorem WY (xs:List Int) (nl:Bool) (d:(Int×Int→Prop)×(Int×Int→Int)):(∀ vals,gwp Ja (J8 xs nl d vals) c94 0 (Bx vals [] (ZR xs nl d) (.lst 3 (.i .i64) (ZH xs nl d) nl) (.lst 0)) (JT 9 (.lst 0) (.lst 3 (.i .i64) xs nl) vals (AL.can J7 d)))=Qv xs nl d:=by kernel_rfl
abbrev WX:Prop:=XOk Tryz.prog 94 Z0
theorem WW (h:∀ (xs:List Int) (nl:Bool) (p:(Int×Int→Prop)×(Int×Int→Int)),(xs.length≤12∧(∀ x∈xs,∀ y∈xs,p.1 (x,y)))→Qv xs nl p):XOk Tryz.prog 94 Z0 :=
 MU Q8m mixed (DJ (.cons WR .nil) 3) (C:=Ja) ⟨.nil,(XsOk.cons Kd XsOk.nil),ItsOk.nil,YlOk.nil,IysOk.nil,XfOk.nil⟩ (L:=fun xs nl (d:(Int×Int→Prop)×(Int×Int→Int)) vals=>J8 xs nl d vals) (V:=fun xs nl (d:(Int×Int→Prop)×(Int×Int→Int))=>Qv xs nl d) WY fun xs nl d hp=>h xs nl d hp
theorem WU:WX:=WW fun xs nl p h=>by unfold Qv;(try delta lI gD sT I64);intro vals;refine⟨⟨rfl,h.1,h.2⟩,?_⟩;exact(by and_intros<;>first|rfl|trivial|simp)
def JA:AL (Int×Int×Int×((List Int×List Int→Prop)×(List Int×List Int→Int))):=(.cons (.k (.i .i64)) (.cons (.k (.i .i64)) (.cons (.k (.i .i64)) (.one (.fn [(.list (.i .i64)),(.list (.i .i64))] (.i .i64))))))
def Ye (xs:List (List Int)) (nl:Bool) (d:Int×Int×Int×((List Int×List Int→Prop)×(List Int×List Int→Int))):Prop:=d.1=0∧d.2.1=xs.length∧xs.length≤12∧(∀ x∈xs,∀ y∈xs,d.2.2.2.1 (x,y))
def Jt (xs:List (List Int)) (nl:Bool) (d:Int×Int×Int×((List Int×List Int→Prop)×(List Int×List Int→Int))):SV:=.tup []
def J9 (xs:List (List Int)) (nl:Bool) (d:Int×Int×Int×((List Int×List Int→Prop)×(List Int×List Int→Int))):List (List Int):=(KU d.2.2.2.2 xs 0 xs.length)
def Ze:XSp:=FO (gap [] 3) (Bp 31 (.list (.i .i64)) JA Ye Jt J9)
def QB (xs:List (List Int)) (nl:Bool) (a:Int) (b:Int) (li:Int) (p:(List Int×List Int→Prop)×(List Int×List Int→Int)):Prop:=∀ vals:List Value,
 ∃ (e3:Unit) (d30:Unit),((True∧a=a∧b=b∧li=li∧(SV.pf [(.list (.i .i64)),(.list (.i .i64))] (.i .i64) p.1 p.2=SV.pf [(.list (.i .i64)),(.list (.i .i64))] (.i .i64) p.1 p.2)∧true=true∧true=true∧True)∧((xs=xs∧nl=nl)∧(vals=vals∧(True∧(([]:List SV)=[])))∧True)) ∧
 LoopP (fun (d3:Unit) (q3:(Unit)→Prop) =>
  (I64 (b-a))∧((decide ((b-a)≤(12:Int)))=true →
   (0≤a∧a≤b∧b≤xs.length∧xs.length≤12∧(∀ x∈xs,∀ y∈xs,(fun (x1:List Int×List Int)=>p.1 (x1.1,x1.2)) (x,y)))∧(vals=vals∧(True∧(([]:List SV)=[]))∧((([]:List SV)=[]))∧((KU (fun (x1:List Int×List Int)=>(p.2 (x1.1,x1.2))) xs a.toNat b.toNat)=(KU p.2 xs 0 xs.length)∧nl=nl))) ∧
  ((decide ((b-a)≤(12:Int)))=false →
   ((li==(0:Int))=true →
    False) ∧
   ((li==(0:Int))=false →
    ((!true)=true →
     False) ∧
    ((!true)=false →
     False)))) d30
def Jz:Cx:=⟨[],[],148,[0],0,[(122,QJ),(123,LL),(124,LL),(125,LL)],[],[],[],false,[],[],[],[]⟩
def JB (xs:List (List Int)) (nl:Bool) (a:Int) (b:Int) (li:Int) (p:(List Int×List Int→Prop)×(List Int×List Int→Int)) (vals:List Value):List (Nat×LoopAnn):=[(0,⟨Unit,Unit,[0,1,2,3,4,10,11],fun e x=>[.lst 0,.val (.i .i64) a,.val (.i .i64) b,.val (.i .i64) li,.pf [(.list (.i .i64)),(.list (.i .i64))] (.i .i64) p.1 p.2,.val .bo true,.val .bo true],fun e x=>[(0,.slot 0,.lst 31 (.list (.i .i64)) xs nl),(4000000,.key 4000000,.stk [.lst 0] vals)]⟩)]
set_option maxRecDepth 100000 in
theorem YI (xs:List (List Int)) (nl:Bool) (d:Int×Int×Int×((List Int×List Int→Prop)×(List Int×List Int→Int))):(∀ vals,gwp Jz (JB xs nl d.1 d.2.1 d.2.2.1 d.2.2.2 vals) Z2f 0 (Bx vals [] (Jt xs nl d) (.lst 31 (.list (.i .i64)) (J9 xs nl d) nl) (.lst 0)) (JT 148 (.lst 0) (.lst 31 (.list (.i .i64)) xs nl) vals (AL.can JA d)))=QB xs nl d.1 d.2.1 d.2.2.1 d.2.2.2:=by kernel_rfl
abbrev YD:Prop:=XOk Tryz.prog 108 Ze
theorem YN (h:∀ (xs:List (List Int)) (nl:Bool) (a:Int) (b:Int) (li:Int) (p:(List Int×List Int→Prop)×(List Int×List Int→Int)),(a=0∧b=xs.length∧xs.length≤12∧(∀ x∈xs,∀ y∈xs,p.1 (x,y)))→QB xs nl a b li p):XOk Tryz.prog 108 Ze :=
 PR Q07 mixed (DJ .nil 3) (C:=Jz) ⟨.nil,(XsOk.cons XD (XsOk.cons UX (XsOk.cons UX (XsOk.cons UX XsOk.nil)))),ItsOk.nil,YlOk.nil,IysOk.nil,XfOk.nil⟩ (L:=fun xs nl (d:Int×Int×Int×((List Int×List Int→Prop)×(List Int×List Int→Int))) vals=>JB xs nl d.1 d.2.1 d.2.2.1 d.2.2.2 vals) (V:=fun xs nl (d:Int×Int×Int×((List Int×List Int→Prop)×(List Int×List Int→Int)))=>QB xs nl d.1 d.2.1 d.2.2.1 d.2.2.2) YI fun xs nl d hp=>h xs nl d.1 d.2.1 d.2.2.1 d.2.2.2 hp
theorem Yf:YD:=YN fun xs nl a b li p h=>by
 obtain⟨rfl,rfl,h2,h3⟩:=h;unfold QB;(try delta lI gD sT I64);intro vals;refine⟨(),(),(by and_intros<;>first|rfl|trivial|simp),?_⟩;refine⟨fun _=>True,fun _=>0,trivial,?_⟩;rintro⟨⟩ -
 refine⟨by simp only[Z3];omega,fun _=>⟨⟨by omega,by omega,by omega,h2,h3⟩,(by and_intros<;>first|rfl|trivial|simp)⟩,fun c=>by simp at c;omega⟩
def Xy:AL ((List Int×List Int→Prop)×(List Int×List Int→Int)):=(.one (.fn [(.list (.i .i64)),(.list (.i .i64))] (.i .i64)))
def KL (xs:List (List Int)) (nl:Bool) (d:(List Int×List Int→Prop)×(List Int×List Int→Int)):Prop:=xs.length≤12∧(∀ x∈xs,∀ y∈xs,d.1 (x,y))
def Xg (xs:List (List Int)) (nl:Bool) (d:(List Int×List Int→Prop)×(List Int×List Int→Int)):SV:=.tup []
def X9 (xs:List (List Int)) (nl:Bool) (d:(List Int×List Int→Prop)×(List Int×List Int→Int)):List (List Int):=(KU d.2 xs 0 xs.length)
def J4:XSp:=FO (gap [(82,QK)] 3) (Bp 31 (.list (.i .i64)) Xy KL Xg X9)
def QV (xs:List (List Int)) (nl:Bool) (p:(List Int×List Int→Prop)×(List Int×List Int→Int)):Prop:=∀ vals:List Value,
 (InK .u64 (lI xs))∧(0≤(lI xs)∧(lI xs)≤255)∧((0:Int)=0∧(lI xs)=xs.length∧xs.length≤12∧(∀ x∈xs,∀ y∈xs,(fun (x1:List Int×List Int)=>p.1 (x1.1,x1.2)) (x,y)))∧(vals=vals∧(True∧(([]:List SV)=[]))∧((([]:List SV)=[]))∧((KU (fun (x1:List Int×List Int)=>(p.2 (x1.1,x1.2))) xs 0 xs.length)=(KU p.2 xs 0 xs.length)∧nl=nl))
def Xz:Cx:=⟨[],[(107,Wv)],14,[0],0,[(108,Ze)],[],[],[],false,[],[],[],[]⟩
def XC (xs:List (List Int)) (nl:Bool) (p:(List Int×List Int→Prop)×(List Int×List Int→Int)) (vals:List Value):List (Nat×LoopAnn):=[]
set_option maxRecDepth 100000 in
theorem Vq (xs:List (List Int)) (nl:Bool) (d:(List Int×List Int→Prop)×(List Int×List Int→Int)):(∀ vals,gwp Xz (XC xs nl d vals) c97 0 (Bx vals [] (Xg xs nl d) (.lst 31 (.list (.i .i64)) (X9 xs nl d) nl) (.lst 0)) (JT 14 (.lst 0) (.lst 31 (.list (.i .i64)) xs nl) vals (AL.can Xy d)))=QV xs nl d:=by kernel_rfl
abbrev Vn:Prop:=XOk Tryz.prog 97 J4
theorem Vx (h:∀ (xs:List (List Int)) (nl:Bool) (p:(List Int×List Int→Prop)×(List Int×List Int→Int)),(xs.length≤12∧(∀ x∈xs,∀ y∈xs,p.1 (x,y)))→QV xs nl p):XOk Tryz.prog 97 J4 :=
 PR Q65 mixed (DJ (.cons J2 .nil) 3) (C:=Xz) ⟨(.cons Nv .nil),(XsOk.cons Yf XsOk.nil),ItsOk.nil,YlOk.nil,IysOk.nil,XfOk.nil⟩ (L:=fun xs nl (d:(List Int×List Int→Prop)×(List Int×List Int→Int)) vals=>XC xs nl d vals) (V:=fun xs nl (d:(List Int×List Int→Prop)×(List Int×List Int→Int))=>QV xs nl d) Vq fun xs nl d hp=>h xs nl d hp
theorem Vi:Vn:=Vx fun xs nl p h=>by unfold QV;(try delta lI gD sT I64);intro vals;have:=h.1;refine⟨by simp only[XE];omega,⟨by omega,by omega⟩,⟨rfl,rfl,h.1,h.2⟩,?_⟩;exact(by and_intros<;>first|rfl|trivial|simp)
def Ml:AL (Int×Int):=(.cons (.k (.i .i64)) (.one (.k (.i .i64))))
def Hz (d:Int×Int):Prop:=True
def Ni (d:Int×Int):SV:=.val .bo (decide (d.1<d.2))
def Nf (d:Int×Int):List OB:=[]
def Uc:CSp:=YO Ml Hz Ni Nf
def WI (a:Int) (b:Int):Prop :=
 (True)∧(false=true→True)∧(((false&&(!false))||(decide (a<b)))=(decide (a<b))∧(True))
def Mu:Cx:=⟨[],[(99,WV)],17,[],0,[],[],[],[],false,[],[],[],[]⟩
def Pz (a:Int) (b:Int):List (Nat×LoopAnn):=[]
set_option maxRecDepth 100000 in
theorem T0 (d:Int×Int):gwp (Mu) (Pz d.1 d.2) Z2o 0 (VT [.tmp 4] (Ni d) (Nf d)) (Qt 17 (AL.can Ml d))=WI d.1 d.2:=by kernel_rfl
abbrev Tf:Prop:=OkC Tryz.prog 117 Uc
theorem Py (h:∀ (a:Int) (b:Int),(True)→WI a b):OkC Tryz.prog 117 Uc :=
 Z7 IJ mixed (C:=Mu) (V:=fun (d:Int×Int)=>WI d.1 d.2) ⟨(.cons Ns .nil),XsOk.nil,ItsOk.nil,YlOk.nil,IysOk.nil,XfOk.nil⟩ (T0) fun d hp=>h d.1 d.2 hp
theorem P7:Tf:=Py fun a b=>by unfold WI;(try delta lI gD sT I64);simp
def ZF:AL (Int×Int):=(.cons (.k (.i .i64)) (.one (.k (.i .i64))))
def W8 (xs:List Int) (nl:Bool) (d:Int×Int):Prop:=0≤d.1∧d.1≤d.2∧d.2≤xs.length∧xs.length≤12
def Zy (xs:List Int) (nl:Bool) (d:Int×Int):SV:=.tup []
def Zp (xs:List Int) (nl:Bool) (d:Int×Int):List Int:=(KU YP xs d.1.toNat d.2.toNat)
def QR:XSp:=SZ Dt (Bp 3 (.i .i64) ZF W8 Zy Zp)
def Qr (xs:List Int) (nl:Bool) (a:Int) (b:Int):Prop:=∀ vals:List Value,
 (I64 (a+(1:Int)))∧∃ (e2:Unit) (d20:(List Int)×Bool×Int),((True∧a=a∧b=b∧(a+(1:Int))=d20.2.2∧True)∧((xs=d20.1∧nl=d20.2.1)∧(vals=vals∧(True∧(([]:List SV)=[])))∧True)) ∧
 LoopP (fun (d2:(List Int)×Bool×Int) (q2:((List Int)×Bool×Int)→Prop) =>
  ((decide (d2.2.2<b))=true →
   ∃ (e5:Bool×Int) (d50:(List Int)×Int),((True∧a=a∧b=b∧d2.2.2=e5.2∧d2.2.2=d50.2∧True)∧((d2.1=d50.1∧d2.2.1=e5.1)∧(vals=vals∧(True∧(([]:List SV)=[])))∧True)) ∧
   LoopP (fun (d5:(List Int)×Int) (q5:((List Int)×Int)→Prop) =>
    ((decide (d5.2 > a))=true→0≤d5.2)∧((decide (d5.2 > a))=true→d5.2<(List.length d5.1))∧((decide (d5.2 > a))=true→InK .i64 (d5.2-(1:Int)))∧((decide (d5.2 > a))=true→0≤(d5.2-(1:Int)))∧((decide (d5.2 > a))=true→(d5.2-(1:Int))<(List.length d5.1))∧((decide (d5.2 > a))=true→True)∧(((decide (d5.2 > a))&&(decide ((gD d5.1 d5.2 0)<(gD d5.1 (d5.2-(1:Int)) 0))))=true →
     (I64 (d5.2-(1:Int)))∧(I64 (d5.2-(1:Int)))∧(0≤(d5.2-(1:Int)))∧((d5.2-(1:Int))<(List.length d5.1))∧(0≤d5.2)∧(d5.2<(List.length d5.1))∧(0≤d5.2)∧(d5.2<(List.length d5.1))∧(0≤(d5.2-(1:Int)))∧((d5.2-(1:Int))<(List.length (sT d5.1 d5.2 (gD d5.1 (d5.2-(1:Int)) 0))))∧(I64 (d5.2-(1:Int)))∧(∃ d6:(List Int)×Int,((True∧a=a∧b=b∧e5.2=e5.2∧(d5.2-(1:Int))=d6.2∧True)∧(((sT (sT d5.1 d5.2 (gD d5.1 (d5.2-(1:Int)) 0)) (d5.2-(1:Int)) (gD d5.1 d5.2 0))=d6.1∧e5.1=e5.1)∧(vals=vals∧(True∧(([]:List SV)=[])))∧True))∧q5 d6)) ∧
    (((decide (d5.2 > a))&&(decide ((gD d5.1 d5.2 0)<(gD d5.1 (d5.2-(1:Int)) 0))))=false →
     (I64 (e5.2+(1:Int)))∧(∃ d7:(List Int)×Bool×Int,((True∧a=a∧b=b∧(e5.2+(1:Int))=d7.2.2∧True)∧((d5.1=d7.1∧e5.1=d7.2.1)∧(vals=vals∧(True∧(([]:List SV)=[])))∧True))∧q2 d7))) d50) ∧
  ((decide (d2.2.2<b))=false →
   (vals=vals∧(True∧(([]:List SV)=[]))∧((([]:List SV)=[]))∧(d2.1=(KU YP xs a.toNat b.toNat)∧d2.2.1=nl)))) d20
def ZG:Cx:=⟨[],[(117,Uc)],49,[],0,[],[],[],[],false,[],[],[],[]⟩
def ZJ (xs:List Int) (nl:Bool) (a:Int) (b:Int) (vals:List Value):List (Nat×LoopAnn):=[(0,⟨Unit,(List Int)×Bool×Int,[0,1,2,6],fun e x=>[.lst 0,.val (.i .i64) a,.val (.i .i64) b,.val (.i .i64) x.2.2],fun e x=>[(0,.slot 0,.lst 3 (.i .i64) x.1 x.2.1),(4000000,.key 4000000,.stk [.lst 0] vals)]⟩),
 (2,⟨Bool×Int,(List Int)×Int,[0,1,2,6,7],fun e x=>[.lst 0,.val (.i .i64) a,.val (.i .i64) b,.val (.i .i64) e.2,.val (.i .i64) x.2],fun e x=>[(0,.slot 0,.lst 3 (.i .i64) x.1 e.1),(4000000,.key 4000000,.stk [.lst 0] vals)]⟩)]
set_option maxRecDepth 100000 in
theorem Wq (xs:List Int) (nl:Bool) (d:Int×Int):(∀ vals,gwp ZG (ZJ xs nl d.1 d.2 vals) Z2p 0 (Bx vals [] (Zy xs nl d) (.lst 3 (.i .i64) (Zp xs nl d) nl) (.lst 0)) (JT 49 (.lst 0) (.lst 3 (.i .i64) xs nl) vals (AL.can ZF d)))=Qr xs nl d.1 d.2:=by kernel_rfl
abbrev Wl:Prop:=XOk Tryz.prog 111 QR
theorem Wo (h:∀ (xs:List Int) (nl:Bool) (a:Int) (b:Int),(0≤a∧a≤b∧b≤xs.length∧xs.length≤12)→Qr xs nl a b):XOk Tryz.prog 111 QR :=
 MU Q1i mixed Vl (C:=ZG) ⟨(.cons P7 .nil),XsOk.nil,ItsOk.nil,YlOk.nil,IysOk.nil,XfOk.nil⟩ (L:=fun xs nl (d:Int×Int) vals=>ZJ xs nl d.1 d.2 vals) (V:=fun xs nl (d:Int×Int)=>Qr xs nl d.1 d.2) Wq fun xs nl d hp=>h xs nl d.1 d.2 hp
theorem W4:Wl:=Wo fun xs nl a b h=>by
 obtain⟨h1,h2,h3,h4⟩:=h;unfold Qr;(try delta lI gD sT I64);intro vals;have hI:∀ e:Int,-1000≤e→e≤1000→InK .i64 e:=fun e _ _=>by simp only[Z3];omega
 obtain⟨a,rfl⟩:∃ n:Nat,a=n:=⟨a.toNat,by omega⟩;obtain⟨b,rfl⟩:∃ n:Nat,b=n:=⟨b.toNat,by omega⟩;simp only[Int.toNat_natCast];refine⟨hI _ (by omega) (by omega),(),(xs,nl,(a:Int)+1),(by and_intros<;>first|rfl|trivial|simp),?_⟩;refine⟨fun d=>∃ n:Nat,d.2.2=(a:Int)+1+n∧(n=0∨a+1+n≤b)∧nl=d.2.1∧d.1=F8 (fun x y=>decide (YP (x,y)<0)) a n xs,fun d=>(1000-d.2.2).toNat,⟨0,by simp,.inl rfl,rfl,rfl⟩,?_⟩;rintro⟨ys,gL,i⟩ ⟨n,e1,e2,e3,e4⟩;dsimp only at e1 e2 e3 e4 ⊢;subst e1 e3;refine⟨fun c=>?_,fun c=>?_⟩
 ·have c:a+1+n<b:=by simp at c;omega
  have hp:ys.Perm xs:=by rw[e4];exact UF _ (by omega)
  have hlen:=hp.length_eq;refine⟨(nl,(a:Int)+1+n),(ys,(a:Int)+1+n),(by and_intros<;>first|rfl|trivial|simp),?_⟩;dsimp only;refine⟨fun d=>∃ j:Nat,d.2=j∧j≤a+1+n∧d.1.Perm xs∧Lt (fun x y=>decide (YP (x,y)<0)) a j d.1=F8 (fun x y=>decide (YP (x,y)<0)) a (n+1) xs,fun d=>d.2.toNat,⟨a+1+n,by simp,Nat.le_refl _,hp,by rw[e4];rfl⟩,?_⟩;rintro⟨zs,j'⟩ ⟨j,f1,f2,f3,f4⟩;dsimp only at f1 f3 f4 ⊢;subst f1;have rE:=f3.length_eq;have jq:((j:Int)-1).toNat=j-1:=by omega
  simp only[Int.toNat_natCast,jq];refine⟨fun g=>by omega,fun g=>by omega,fun g=>hI _ (by omega) (by omega),fun g=>by simp at g;omega,fun g=>by omega,fun _=>trivial,fun g=>?_,fun g=>?_⟩
  ·have g:a<j∧zs.getD j 0<zs.getD (j-1) 0:=by simpa using g
   refine⟨hI _ (by omega) (by omega),hI _ (by omega) (by omega),by omega,by omega,by omega,by omega,by omega,by omega,by omega,by rw[List.length_set];omega,hI _ (by omega) (by omega),((zs.set j (zs.getD (j-1) 0)).set (j-1) (zs.getD j 0),(j:Int)-1),(by and_intros<;>first|rfl|trivial|simp),⟨j-1,by omega,by omega,(BG (by omega) (by omega)).trans f3,Sa f4 g.1 (B6.2 g.2)⟩,by dsimp only;omega⟩
  ·refine⟨hI _ (by omega) (by omega),(zs,nl,(a:Int)+1+n+1),(by and_intros<;>first|rfl|trivial|simp),⟨n+1,by simp;omega,by omega,rfl,AS f4 fun hh=>?_⟩,by dsimp only;omega⟩;have h7:zs.getD j 0<zs.getD (j-1) 0:=B6.1 hh.2;have h8:a<j:=hh.1;rw[decide_eq_true (show (j:Int) > a by omega),decide_eq_true h7] at g;cases g
 ·have hn:n=b-a-1:=by simp at c;omega
  rw[e4,hn];exact(by and_intros<;>first|rfl|trivial|simp)
def X3:AL (Int×Int×Int):=(.cons (.k (.i .i64)) (.cons (.k (.i .i64)) (.one (.k (.i .i64)))))
def YU (xs:List Int) (nl:Bool) (d:Int×Int×Int):Prop:=d.1=0∧d.2.1=xs.length∧xs.length≤12
def JU (xs:List Int) (nl:Bool) (d:Int×Int×Int):SV:=.tup []
def Jx (xs:List Int) (nl:Bool) (d:Int×Int×Int):List Int:=(KU YP xs 0 xs.length)
def Zv:XSp:=SZ Dt (Bp 3 (.i .i64) X3 YU JU Jx)
def QO (xs:List Int) (nl:Bool) (a:Int) (b:Int) (li:Int):Prop:=∀ vals:List Value,
 ∃ (e3:Unit) (d30:Unit),((True∧a=a∧b=b∧li=li∧true=true∧true=true∧True)∧((xs=xs∧nl=nl)∧(vals=vals∧(True∧(([]:List SV)=[])))∧True)) ∧
 LoopP (fun (d3:Unit) (q3:(Unit)→Prop) =>
  (I64 (b-a))∧((decide ((b-a)≤(12:Int)))=true →
   (0≤a∧a≤b∧b≤xs.length∧xs.length≤12)∧(vals=vals∧(True∧(([]:List SV)=[]))∧((([]:List SV)=[]))∧((KU YP xs a.toNat b.toNat)=(KU YP xs 0 xs.length)∧nl=nl))) ∧
  ((decide ((b-a)≤(12:Int)))=false →
   ((li==(0:Int))=true →
    False) ∧
   ((li==(0:Int))=false →
    ((!true)=true →
     False) ∧
    ((!true)=false →
     False)))) d30
def X7:Cx:=⟨[],[],134,[],0,[(111,QR),(112,LL),(113,LL),(114,LL)],[],[],[],false,[],[],[],[]⟩
def X4 (xs:List Int) (nl:Bool) (a:Int) (b:Int) (li:Int) (vals:List Value):List (Nat×LoopAnn):=[(0,⟨Unit,Unit,[0,1,2,3,8,9],fun e x=>[.lst 0,.val (.i .i64) a,.val (.i .i64) b,.val (.i .i64) li,.val .bo true,.val .bo true],fun e x=>[(0,.slot 0,.lst 3 (.i .i64) xs nl),(4000000,.key 4000000,.stk [.lst 0] vals)]⟩)]
set_option maxRecDepth 100000 in
theorem Kj (xs:List Int) (nl:Bool) (d:Int×Int×Int):(∀ vals,gwp X7 (X4 xs nl d.1 d.2.1 d.2.2 vals) Z2e 0 (Bx vals [] (JU xs nl d) (.lst 3 (.i .i64) (Jx xs nl d) nl) (.lst 0)) (JT 134 (.lst 0) (.lst 3 (.i .i64) xs nl) vals (AL.can X3 d)))=QO xs nl d.1 d.2.1 d.2.2:=by kernel_rfl
abbrev Ks:Prop:=XOk Tryz.prog 106 Zv
theorem Ki (h:∀ (xs:List Int) (nl:Bool) (a:Int) (b:Int) (li:Int),(a=0∧b=xs.length∧xs.length≤12)→QO xs nl a b li):XOk Tryz.prog 106 Zv :=
 MU Q20 mixed Vl (C:=X7) ⟨.nil,(XsOk.cons W4 (XsOk.cons UX (XsOk.cons UX (XsOk.cons UX XsOk.nil)))),ItsOk.nil,YlOk.nil,IysOk.nil,XfOk.nil⟩ (L:=fun xs nl (d:Int×Int×Int) vals=>X4 xs nl d.1 d.2.1 d.2.2 vals) (V:=fun xs nl (d:Int×Int×Int)=>QO xs nl d.1 d.2.1 d.2.2) Kj fun xs nl d hp=>h xs nl d.1 d.2.1 d.2.2 hp
theorem YT:Ks:=Ki fun xs nl a b li h=>by
 obtain⟨rfl,rfl,h2⟩:=h;unfold QO;(try delta lI gD sT I64);intro vals;refine⟨(),(),(by and_intros<;>first|rfl|trivial|simp),?_⟩;refine⟨fun _=>True,fun _=>0,trivial,?_⟩;rintro⟨⟩ -
 refine⟨by simp only[Z3];omega,fun _=>⟨⟨by omega,by omega,by omega,h2⟩,(by and_intros<;>first|rfl|trivial|simp)⟩,fun c=>by simp at c;omega⟩
def Y8:AL (Unit):=.nil
def N9 (xs:List Int) (nl:Bool) (d:Unit):Prop:=xs.length≤12
def WT (xs:List Int) (nl:Bool) (d:Unit):SV:=.tup []
def Wa (xs:List Int) (nl:Bool) (d:Unit):List Int:=(KU YP xs 0 xs.length)
def Xn:XSp:=SZ Dt (Bp 3 (.i .i64) Y8 N9 WT Wa)
def ZC (xs:List Int) (nl:Bool) :Prop:=∀ vals:List Value,
 (InK .u64 (lI xs))∧(0≤(lI xs)∧(lI xs)≤255)∧((0:Int)=0∧(lI xs)=xs.length∧xs.length≤12)∧(vals=vals∧(True∧(([]:List SV)=[]))∧((([]:List SV)=[]))∧((KU YP xs 0 xs.length)=(KU YP xs 0 xs.length)∧nl=nl))
def Y0:Cx:=⟨[],[(107,Wv)],11,[],0,[(106,Zv)],[],[],[],false,[],[],[],[]⟩
def Y4 (xs:List Int) (nl:Bool)  (vals:List Value):List (Nat×LoopAnn):=[]
set_option maxRecDepth 100000 in
theorem NA (xs:List Int) (nl:Bool) (d:Unit):(∀ vals,gwp Y0 (Y4 xs nl  vals) c96 0 (Bx vals [] (WT xs nl d) (.lst 3 (.i .i64) (Wa xs nl d) nl) (.lst 0)) (JT 11 (.lst 0) (.lst 3 (.i .i64) xs nl) vals (AL.can Y8 d)))=ZC xs nl :=by kernel_rfl
abbrev NG:Prop:=XOk Tryz.prog 96 Xn
theorem NC (h:∀ (xs:List Int) (nl:Bool) ,(xs.length≤12)→ZC xs nl ):XOk Tryz.prog 96 Xn :=
 MU Q6t mixed Vl (C:=Y0) ⟨(.cons Nv .nil),(XsOk.cons YT XsOk.nil),ItsOk.nil,YlOk.nil,IysOk.nil,XfOk.nil⟩ (L:=fun xs nl (d:Unit) vals=>Y4 xs nl  vals) (V:=fun xs nl (d:Unit)=>ZC xs nl ) NA fun xs nl d hp=>h xs nl  hp
theorem UW:NG:=NC fun xs nl h=>by unfold ZC;(try delta lI gD sT I64);intro vals;refine⟨by simp only[XE];omega,⟨by omega,by omega⟩,⟨rfl,rfl,h⟩,?_⟩;exact(by and_intros<;>first|rfl|trivial|simp)
end Go.Proofs.Tryz
set_option linter.unusedVariables false
namespace Go.Proofs.Tryz
open Go Go.V Go.Proofs
def alP (l:List Lot) (tl:Int) (i k:Int):Bool:=O0 (l.getD i.toNat Zg) (l.getD k.toNat Zg) tl
def XN (l:List Lot) (tl:Int):Bool:=(List.range l.length).all fun k=>JE l tl (Q4 (2 ^ k))
def Z1r (l:List Lot) (tl:Int):Bool:=(List.range l.length).all fun k=>alP l tl (k:Int) (k:Int)
theorem Q0b (a b:Lot):Lw a b=Lw b a:=by unfold Lw;simp only[NV];omega
theorem UT {l:List Lot}{tl i k:Int}:alP l tl i k=true↔(l.getD i.toNat Zg).1=(l.getD k.toNat Zg).1∧Lw (l.getD i.toNat Zg) (l.getD k.toNat Zg)≤tl∧Lw (l.getD i.toNat Zg) (l.getD i.toNat Zg)≤tl∧Lw (l.getD k.toNat Zg) (l.getD k.toNat Zg)≤tl:=by simp only[alP,O0,Bool.and_eq_true,beq_iff_eq,decide_eq_true_eq,and_assoc]
theorem Ey {l:List Lot}{tl i k:Int}(h:alP l tl i k=true):alP l tl k i=true:=by rw[UT] at h ⊢;obtain⟨h1,h2,h3,h4⟩:=h;exact⟨h1.symm,by rw[Q0b];exact h2,h4,h3⟩
theorem N8 {l:List Lot}{tl:Int}{S:List Int}:Pn (Kt l S) tl=true↔∀ i∈S,∀ k∈S,alP l tl i k=true:=by
 have hlen:(Kt l S).length=S.length:=List.length_map ..;have fk:∀ j,(h:j<S.length)→(Kt l S).getD j Zg=l.getD S[j].toNat Zg:=fun j h=>by rw[Q15 h,Qa h]
 rw[Fb,hlen];constructor
 ·intro h i hi k hk;obtain⟨p,hp,rfl⟩:=List.getElem_of_mem hi;obtain⟨q,hq,rfl⟩:=List.getElem_of_mem hk;have:=h p hp q hq;rw[fk p hp,fk q hq] at this;exact this
 ·intro h p hp q hq;rw[fk p hp,fk q hq];exact h _ (List.getElem_mem hp) _ (List.getElem_mem hq)
theorem AF {l:List Lot}{tl:Int}{n:Nat}(h0:0<n):JE l tl (Q4 n)=true↔∀ i∈Q4 n,∀ k∈Q4 n,alP l tl i k=true:=by unfold JE;rw[Q00 fun e=>NT h0 (by simpa [Kt] using e),N8]
theorem SL {a b:Nat}(ha:a<64) (hb:b<64) (i:Int):i∈Q4 (2 ^ a ||| 2 ^ b)↔i=a∨i=b:=by
 have h1:2 ^ a<2 ^ 64:=Nat.pow_lt_pow_right (by omega) ha;have h2:2 ^ b<2 ^ 64:=Nat.pow_lt_pow_right (by omega) hb;rw[Kk (Nat.or_lt_two_pow h1 h2)];simp only[Nat.testBit_or,Nat.testBit_two_pow,Bool.or_eq_true,decide_eq_true_eq];constructor
 ·rintro⟨k,rfl,h|h⟩
  ·exact .inl (by rw[h])
  ·exact .inr (by rw[h])
 ·rintro (rfl|rfl)
  ·exact⟨a,rfl,.inl rfl⟩
  ·exact⟨b,rfl,.inr rfl⟩
theorem Ci {l:List Lot}{tl:Int}{a b:Nat}(ha:a<64) (hb:b<64):JE l tl (Q4 (2 ^ a ||| 2 ^ b))=alP l tl a b:=by
 have cr:0<2 ^ a ||| 2 ^ b:=Nat.lt_of_lt_of_le (Nat.two_pow_pos a) Nat.left_le_or
 rw[Bool.eq_iff_iff,AF cr];constructor
 ·intro h;exact h a ((SL ha hb _).2 (.inl rfl)) b ((SL ha hb _).2 (.inr rfl))
 ·intro h i hi k hk;have h2:=Ey h;have h3:=UT.1 h;have uS:alP l tl a a=true:=UT.2 ⟨rfl,h3.2.2.1,h3.2.2.1,h3.2.2.1⟩;have i_:alP l tl b b=true:=UT.2 ⟨rfl,h3.2.2.2,h3.2.2.2,h3.2.2.2⟩;rcases (SL ha hb _).1 hi with rfl|rfl<;>rcases (SL ha hb _).1 hk with rfl|rfl<;>assumption
theorem Cm {l:List Lot}{tl:Int}{a:Nat}(ha:a<64):JE l tl (Q4 (2 ^ a))=alP l tl a a:=by
 have:=Ci (l:=l) (tl:=tl) ha ha
 rwa [Nat.or_self] at this
theorem Lo {l:List Lot}{tl:Int}(h:l.length≤12):XN l tl=Z1r l tl:=by unfold XN Z1r;rw[Bool.eq_iff_iff,List.all_eq_true,List.all_eq_true];exact⟨fun h2 k hk=>by rw[←Cm (by have:=List.mem_range.1 hk;omega)];exact h2 k hk,fun h2 k hk=>by rw[Cm (by have:=List.mem_range.1 hk;omega)];exact h2 k hk⟩
def Vv (al:Int→Int→Bool):Nat→List Int→List Int×List (List Int)
 |0,_=>([],[])
 |n+1,L=>match L with
  |[]=>([],[])
  |h::t=>(h::(Vv al n ((h::t).filter fun i=>!al h i)).1,KU YP ((h::t).filter (al h)) 0 ((h::t).filter (al h)).length::(Vv al n ((h::t).filter fun i=>!al h i)).2)
section
variable {al:Int→Int→Bool}
theorem Sb {h:Int}{t:List Int}(hr:al h h=true):((h::t).filter fun i=>!al h i).length≤t.length:=by rw[List.filter_cons,if_neg (by simp[hr])];exact List.length_filter_le ..
theorem RV:∀ n m (L:List Int),(∀ i∈L,al i i=true)→L.length≤n→L.length≤m→Vv al n L=Vv al m L
 |n,m,[],_,_,_=>by cases n<;>cases m<;>rfl
 |0,m,h::t,_,h1,_=>by simp at h1
 |n+1,0,h::t,_,_,h2=>by simp at h2
 |n+1,m+1,h::t,hr,h1,h2=>by have hl:=Sb (t:=t) (hr h (List.mem_cons_self ..));have fC:∀ i∈((h::t).filter fun i=>!al h i),al i i=true:=fun i hi=>hr i (List.mem_filter.1 hi).1;simp only[List.length_cons] at h1 h2;have:=RV n m _ fC (by omega) (by omega);simp only[Vv];rw[this]
theorem LH:∀ n (L:List Int),(Vv al n L).1.length=(Vv al n L).2.length
 |0,_=>rfl
 |n+1,[]=>rfl
 |n+1,h::t=>by simp only[Vv,List.length_cons];rw[LH n]
theorem Pe {p:Int→Bool}:∀ L:List Int,(L.filter p++L.filter fun i=>!p i).Perm L
 |[]=>.refl _
 |x::L=>by
  have ih:=Pe (p:=p) L;cases hp:p x with
  |true=>rw[List.filter_cons,if_pos hp,List.filter_cons,if_neg (by simp[hp])];exact ih.cons x
  |false =>rw[List.filter_cons,if_neg (by simp[hp]),List.filter_cons,if_pos (by simp[hp])];exact List.perm_middle.trans (ih.cons x)
theorem Rn:∀ n (L:List Int),(∀ i∈L,al i i=true)→L.length≤n→((Vv al n L).2.flatten).Perm L
 |0,L,_,h=>by cases L with|nil=>exact .refl _|cons x t=>simp at h
 |n+1,[],_,_=>.refl _
 |n+1,h::t,hr,h1=>by have hl:=Sb (t:=t) (hr h (List.mem_cons_self ..));have fC:∀ i∈((h::t).filter fun i=>!al h i),al i i=true:=fun i hi=>hr i (List.mem_filter.1 hi).1;simp only[List.length_cons] at h1;have ih:=Rn n _ fC (by omega);simp only[Vv,List.flatten_cons];exact((JQ (Nat.le_refl _)).append ih).trans (Pe _)
theorem RT {R:Int→Int→Prop}:∀ n (L:List Int),(∀ i∈L,al i i=true)→L.Pairwise R→L.length≤n →
  (∀ h∈(Vv al n L).1,h∈L)∧(Vv al n L).1.Pairwise (fun a b=>al a b=false)∧(∀ c∈(Vv al n L).2,c.Pairwise (·≤·)∧∃ h,h∈c∧∀ i∈c,al h i=true∧(i=h∨R h i))
 |0,L,_,_,h=>⟨(fun h hh=>by cases hh),.nil,(fun h hh=>by cases hh)⟩
 |n+1,[],_,_,_=>⟨(fun h hh=>by cases hh),.nil,(fun h hh=>by cases hh)⟩
 |n+1,h::t,hr,hp,h1=>by
  have hl:=Sb (t:=t) (hr h (List.mem_cons_self ..));have fC:∀ i∈((h::t).filter fun i=>!al h i),al i i=true:=fun i hi=>hr i (List.mem_filter.1 hi).1;simp only[List.length_cons] at h1;obtain⟨g1,g2,g3⟩:=RT n _ fC (hp.filter _) (by omega);simp only[Vv];refine⟨fun x hx=>?_,List.Pairwise.cons (fun x hx=>?_) g2,fun c hc=>?_⟩
  ·rcases List.mem_cons.1 hx with rfl|hx
   ·exact List.mem_cons_self ..
   ·exact(List.mem_filter.1 (g1 x hx)).1
  ·have:=(List.mem_filter.1 (g1 x hx)).2;simpa using this
  ·rcases List.mem_cons.1 hc with rfl|hc
   ·refine⟨Q9z _,h,?_,fun i hi=>?_⟩
    ·exact(JQ (Nat.le_refl _)).mem_iff.2 (List.mem_filter.2 ⟨List.mem_cons_self ..,hr h (List.mem_cons_self ..)⟩)
    ·have hi:=List.mem_filter.1 ((JQ (Nat.le_refl _)).mem_iff.1 hi);refine⟨hi.2,?_⟩;rcases List.mem_cons.1 hi.1 with rfl|h3
     ·exact .inl rfl
     ·exact .inr ((List.pairwise_cons.1 hp).1 i h3)
   ·exact g3 c hc
end
def Ao (l:List Lot):List Int:=KU (Q4u l) (Q4 (2 ^ l.length-1)) 0 (Q4 (2 ^ l.length-1)).length
def alC (l:List Lot) (tl:Int) (i k:Int):Bool:=JE l tl (Q4 (2 ^ i.toNat ||| 2 ^ k.toNat))
def Sv (l:List Lot) (tl:Int):List Int×List (List Int):=Vv (alC l tl) (Ao l).length (Ao l)
def S2 (l:List Lot) (tl:Int):List Int:=KU YP (Sv l tl).1 0 (Sv l tl).1.length
def U3 (l:List Lot) (tl:Int):List (List Int):=KU (fun p:List Int×List Int=>Nd p.1 p.2) (Sv l tl).2 0 (Sv l tl).2.length
def Q9 (l:List Lot) (tl:Int):Int:=if Qk l tl≠0 then Qk l tl else if XN l tl then 0 else 9
def NI (l:List Lot) (tl:Int):List Int:=if Q9 l tl=0 then S2 l tl else []
def QH (l:List Lot) (tl:Int):List (List Int):=if Q9 l tl=0 then U3 l tl else []
theorem OK (a b:Int):UJ a b =-UJ b a:=by unfold UJ;split<;>split<;>(try split)<;>omega
theorem Uu:∀ a b:List Int,Nd a b =-Nd b a
 |[],[]=>rfl
 |[],_::_=>rfl
 |_::_,[]=>rfl
 |x::a,y::b=>by simp only[Nd];have h:=OK x y;have ih:=Uu a b;split<;>split<;>omega
theorem Rx:∀ a b c:List Int,Nd a b≤0→Nd b c≤0→Nd a c≤0
 |[],_,[],_,_=>by simp[Nd]
 |[],_,_::_,_,_=>by simp[Nd]
 |_::_,[],_,h,_=>by simp[Nd] at h
 |_::_,_::_,[],_,h=>by simp[Nd] at h
 |x::a,y::b,z::c,h1,h2=>by simp only[Nd] at h1 h2 ⊢;have ih:=Rx a b c;unfold UJ at h1 h2 ⊢;by_cases e1:x<y<;>by_cases e2:y<x<;>by_cases e3:y<z<;>by_cases e4:z<y<;>by_cases e5:x<z<;>by_cases e6:z<x<;>simp only[e1,e2,e3,e4,e5,e6,if_true,if_false] at h1 h2 ⊢<;>first|omega|(simp at h1 h2 ⊢;first|omega|exact ih h1 h2)
theorem Z3h (xs:List (List Int)):(KU (fun p:List Int×List Int=>Nd p.1 p.2) xs 0 xs.length).Pairwise fun x y=>Nd x y≤0 :=
 (Tv (f:=fun p:List Int×List Int=>Nd p.1 p.2) (fun x y h h2=>by have:=Uu x y;dsimp only at h h2;omega) (fun x y z h1 h2 h3=>by
  dsimp only at h1 h2 h3;have a1:=Uu x y;have a2:=Uu y z;have a3:=Uu x z;have:=Rx x y z (by omega) (by omega);omega) xs).imp fun {x y} h=>by
  dsimp only at h;have:=Uu x y;omega
theorem Sf {l:List Lot}{x y:Int}:Q4u l (x,y)<0↔(l.getD x.toNat Zg).1<(l.getD y.toNat Zg).1∨(l.getD x.toNat Zg).1=(l.getD y.toNat Zg).1∧(l.getD x.toNat Zg).2.1.1<(l.getD y.toNat Zg).2.1.1:=by
 have e:∀ a b:Int,orI [a,b]=if a≠0 then a else b:=fun a b=>by
  unfold orI;by_cases h:a=0
  ·subst h;by_cases h2:b=0
   ·subst h2;rfl
   ·simp[h2]
  ·simp[h]
 unfold Q4u;rw[e];dsimp only;generalize (l.getD x.toNat Zg).1=c1;generalize (l.getD y.toNat Zg).1=c2;unfold UJ;split<;>split<;>(try split)<;>(try split)<;>omega
theorem Z3v (l:List Lot) (xs:List Int):(KU (Q4u l) xs 0 xs.length).Pairwise fun x y=>¬ Q4u l (y,x)<0 :=
 Tv (fun x y h h2=>by rw[Sf] at h h2;omega) (fun x y z h1 h2 h3=>by rw[Sf] at h1 h2 h3;omega) xs
theorem Lp {n:Nat}(hn:n≤64):Q4 (2 ^ n-1)=(List.range n).map fun (k:Nat)=>(k:Int):=by rw[AH (m:=n) (by have:=Nat.two_pow_pos n;omega) hn];unfold Sw;rw[List.filter_eq_self.2 fun k hk=>by rw[Nat.testBit_two_pow_sub_one];simpa using hk]
theorem Pb {l:List Lot}(h:l.length≤12):(Ao l).Perm ((List.range l.length).map fun (k:Nat)=>(k:Int)):=by unfold Ao;rw[←Lp (by omega)];exact JQ (Nat.le_refl _)
theorem MJ {l:List Lot}(h:l.length≤12) {i:Int}:i∈Ao l↔0≤i∧i<l.length:=by
 rw[(Pb h).mem_iff,List.mem_map];constructor
 ·rintro⟨k,hk,rfl⟩;have:=List.mem_range.1 hk;omega
 ·intro h2;exact⟨i.toNat,List.mem_range.2 (by omega),by omega⟩
theorem Rz {l:List Lot}{tl i k:Int}(hl:l.length≤12) (hi:0≤i∧i<l.length) (hk:0≤k∧k<l.length):alC l tl i k=alP l tl i k:=by unfold alC;rw[Ci (by omega) (by omega),show ((i.toNat:Nat):Int)=i by omega,show ((k.toNat:Nat):Int)=k by omega]
theorem CA {l:List Lot}{tl:Int}(hl:l.length≤12) (he:XN l tl=true):∀ i∈Ao l,alC l tl i i=true:=fun i hi=>by
 have hi:=(MJ hl).1 hi;rw[Rz hl hi hi];rw[Lo hl] at he;have:=List.all_eq_true.1 he i.toNat (List.mem_range.2 (by omega))
 rwa [show ((i.toNat:Nat):Int)=i by omega] at this
theorem Uq {l:List Lot}{tl:Int}(hl:l.length≤12) (af:∀ y∈l,Qw y=true) (he:XN l tl=true) :
  (U3 l tl).flatten.Perm ((List.range l.length).map fun (k:Nat)=>(k:Int))∧(∀ c∈U3 l tl,c.Pairwise (·≤·)∧c≠[]∧Pn (Kt l c) tl=true)∧(U3 l tl).Pairwise (fun x y=>Nd x y≤0) ∧
  (S2 l tl).Pairwise (·<·)∧(∀ i∈S2 l tl,0≤i∧i<l.length)∧(∀ i∈S2 l tl,∀ k∈S2 l tl,i≠k→alP l tl i k=false)∧(S2 l tl).length=(U3 l tl).length:=by
 have hr:=CA hl he;have hZ:=Z3v l (Q4 (2 ^ l.length-1));obtain⟨g1,g2,g3⟩:=RT (al:=alC l tl) (Ao l).length (Ao l) hr hZ (Nat.le_refl _);have gp:=Rn (al:=alC l tl) (Ao l).length (Ao l) hr (Nat.le_refl _);have gl:=LH (al:=alC l tl) (Ao l).length (Ao l);change ∀ h∈(Sv l tl).1,h∈Ao l at g1;change (Sv l tl).1.Pairwise _ at g2;change ∀ c∈(Sv l tl).2,_ at g3;change (Sv l tl).2.flatten.Perm _ at gp;change (Sv l tl).1.length=(Sv l tl).2.length at gl;have hC:(U3 l tl).Perm (Sv l tl).2:=JQ (Nat.le_refl _);have hH:(S2 l tl).Perm (Sv l tl).1:=JQ (Nat.le_refl _);have aH:∀ i∈(Sv l tl).1,0≤i∧i<l.length:=fun i hi=>(MJ hl).1 (g1 i hi);have lL:∀ c∈(Sv l tl).2,∀ i∈c,0≤i∧i<l.length:=fun c hc i hi=>(MJ hl).1 (gp.mem_iff.1 (List.mem_flatten.2 ⟨c,hc,hi⟩));have gk:(Sv l tl).1.Nodup:=by refine g2.imp_of_mem fun {a b} ha _ h e=>?_;subst e;rw[hr a (g1 a ha)] at h;cases h
 refine⟨(hC.flatten.trans gp).trans (Pb hl),fun c hc=>?_,Z3h _,Z34 gk,fun i hi=>aH i (hH.mem_iff.1 hi),fun i hi k hk aA=>?_,?_⟩
 ·have hc:=hC.mem_iff.1 hc;obtain⟨s1,h,s2,s3⟩:=g3 c hc;have n_:=lL c hc h s2;refine⟨s1,List.ne_nil_of_mem s2,N8.2 fun i hi k hk=>?_⟩;have qu:=lL c hc i hi;have qv:=lL c hc k hk;obtain⟨a1,a2⟩:=s3 i hi;obtain⟨b1,b2⟩:=s3 k hk;rw[Rz hl n_ qu,UT] at a1;rw[Rz hl n_ qv,UT] at b1;obtain⟨p1,p2,p3,p4⟩:=a1;obtain⟨q1,q2,q3,q4⟩:=b1;refine UT.2 ⟨p1.symm.trans q1,?_,p4,q4⟩;have la:(l.getD h.toNat Zg).2.1.1≤(l.getD i.toNat Zg).2.1.1:=by
   rcases a2 with rfl|a2
   ·exact Int.le_refl _
   ·rw[Sf] at a2;omega
  have lb:(l.getD h.toNat Zg).2.1.1≤(l.getD k.toNat Zg).2.1.1:=by
   rcases b2 with rfl|b2
   ·exact Int.le_refl _
   ·rw[Sf] at b2;omega
  unfold Lw at p2 q2 ⊢;simp only[NV] at p2 q2 ⊢;omega
 ·have bV:=hH.mem_iff.1 hi;have iT:=hH.mem_iff.1 hk;have key:alC l tl i k=false∨alC l tl k i=false:=by
   obtain⟨p,hp,rfl⟩:=List.getElem_of_mem bV;obtain⟨q,hq,rfl⟩:=List.getElem_of_mem iT;rcases Nat.lt_trichotomy p q with h|h|h
   ·exact .inl (List.pairwise_iff_getElem.1 g2 p q hp hq h)
   ·subst h;exact(aA rfl).elim
   ·exact .inr (List.pairwise_iff_getElem.1 g2 q p hq hp h)
  rcases key with h|h
  ·rwa [Rz hl (aH i bV) (aH k iT)] at h
  ·rw[Rz hl (aH k iT) (aH i bV)] at h;cases h2:alP l tl i k with
   |false=>rfl
   |true=>rw[Ey h2] at h;cases h
 ·rw[hH.length_eq,hC.length_eq,gl]
theorem Mo {α:Type}{a b:List α}(h:a.Perm b):a.isEmpty=b.isEmpty:=by have:=h.length_eq;cases a<;>cases b<;>simp_all
theorem KR {i:Int}(h0:0≤i) (h:i≤63):QZ .u64 1 i=((2 ^ i.toNat:Nat):Int):=by unfold QZ;rw[show Nat.min i.toNat (IntKind.bits .u64)=i.toNat from Nat.min_eq_left (show i.toNat≤64 by omega),Int.one_mul];simp
theorem Z08 {a b:Nat}(ha:a<2 ^ 64) (hb:b<2 ^ 64):Jb .or .u64 (a:Int) (b:Int)=((a ||| b:Nat):Int):=by
 have e:(BitVec.ofInt 64 ((a:Nat):Int) ||| BitVec.ofInt 64 ((b:Nat):Int)).toNat=a ||| b:=by rw[BitVec.toNat_or,BitVec.toNat_ofInt,BitVec.toNat_ofInt];congr 1<;>omega
 have ai:=Nat.or_lt_two_pow ha hb;show IntKind.wrap .u64 ((BitVec.ofInt 64 ((a:Nat):Int) ||| BitVec.ofInt 64 ((b:Nat):Int)).toNat:Int)=_;rw[e];simp[IntKind.wrap,IntKind.bits,IntKind.signed];omega
theorem EF {i k:Int}(hi:0≤i∧i≤12) (hk:0≤k∧k≤12):Jb .or .u64 (QZ .u64 1 i) (QZ .u64 1 k)=((2 ^ i.toNat ||| 2 ^ k.toNat:Nat):Int):=by rw[KR hi.1 (by omega),KR hk.1 (by omega)];exact Z08 (Nat.pow_lt_pow_right (by omega) (by omega)) (Nat.pow_lt_pow_right (by omega) (by omega))
theorem Yr {n:Nat}(h:n≤12):2 ^ n≤4096:=Nat.pow_le_pow_right (n:=2) (by omega) h
theorem SY {l:List Lot}{tl e:Int}(h:Q9 l tl=e) (h0:e≠0):NI l tl=[]∧QH l tl=[]:=by unfold NI QH;rw[if_neg (by omega),if_neg (by omega)];exact⟨rfl,rfl⟩
theorem RF:∀ {l m:List Nat},l.Nodup→(∀ x∈l,x∈m)→l.length≤m.length
 |[],_,_,_=>Nat.zero_le _
 |x::l,m,hn,hs=>by have hn:=List.nodup_cons.1 hn;have hx:=hs x (List.mem_cons_self ..);have:=RF (l:=l) (m:=m.erase x) hn.2 fun y hy=>(List.mem_erase_of_ne (by rintro rfl;exact hn.1 hy)).2 (hs y (List.mem_cons_of_mem _ hy));rw[List.length_erase_of_mem hx] at this;have:0<m.length:=List.length_pos_of_mem hx;simp only[List.length_cons];omega
theorem Q1t {S:List Int}{K:Nat}(f:Int→Nat) (hn:S.Nodup) (hf:∀ i∈S,f i<K) (hi:∀ i∈S,∀ j∈S,f i=f j→i=j):S.length≤K:=by
 have h1:(S.map f).Nodup:=List.pairwise_map.2 (hn.imp_of_mem fun {a b} ha hb h e=>h (hi a ha b hb e));have:=RF (m:=List.range K) h1 fun x hx=>by obtain⟨i,h,rfl⟩:=List.mem_map.1 hx;exact List.mem_range.2 (hf i h)
 rwa [List.length_map,List.length_range] at this
theorem E9 {c:List Int}{i:Int}(h:c.contains i=true):i∈c:=by simpa using h
end Go.Proofs.Tryz
set_option linter.unusedVariables false
namespace Go.Proofs.Tryz
open Go Go.V Go.Proofs
def alD (l:List Lot) (tl:Int) (i k:Int):Bool:=JE l tl (Q4 (2 ^ i.toNat ||| 2 ^ k.toNat))
def Zt (l:List Lot) (tl a b:Int):Int:=if decide (a<0)||alD l tl a b then 0 else 1
section
variable (sm:Int→Int→Int) (N:Int)
def D9:Nat→List Int→Int→Int
 |0,_,_=>0
 |f+1,L,la=>L.foldl (fun b i=>TJ b (sm la i+D9 f (L.erase i) i)) N
def Q27:Nat→List Int→Int→List Int
 |0,_,_=>[]
 |f+1,L,la=>match L.find? (fun i=>sm la i+D9 sm N f (L.erase i) i==D9 sm N (f+1) L la) with
  |some i=>i::Q27 f (L.erase i) i
  |none=>[]
def NN:Int→List Int→Int
 |_,[]=>0
 |la,i::r=>sm la i+NN i r
end
theorem Mk (F:Int→Int):∀ (L:List Int) (N:Int),L.foldl (fun b i=>TJ b (F i)) N≤N∧(∀ i∈L,L.foldl (fun b i=>TJ b (F i)) N≤F i)∧(L.foldl (fun b i=>TJ b (F i)) N=N∨∃ i∈L,L.foldl (fun b i=>TJ b (F i)) N=F i)
 |[],N=>⟨Int.le_refl _,(fun i h=>by cases h),.inl rfl⟩
 |x::L,N=>by
  obtain⟨h1,h2,h3⟩:=Mk F L (TJ N (F x));have e:=SU N (F x);simp only[List.foldl_cons];refine⟨by omega,fun i hi=>?_,?_⟩
  ·rcases List.mem_cons.1 hi with rfl|hi
   ·omega
   ·exact h2 i hi
  ·rcases h3 with h3|⟨i,hi,h3⟩
   ·by_cases h4:N≤F x
    ·exact .inl (by omega)
    ·exact .inr ⟨x,List.mem_cons_self ..,by omega⟩
   ·exact .inr ⟨i,List.mem_cons_of_mem _ hi,h3⟩
theorem M0 {L:List Int}{i:Int}(h:i∈L) {f:Nat}(hf:L.length=f+1):(L.erase i).length=f:=by rw[List.length_erase_of_mem h];omega
section
variable {sm:Int→Int→Int}{N:Int}
theorem SH (h0:∀ a b,0≤sm a b∧sm a b≤1):∀ f (L:List Int) (la:Int),L.length=f→(f:Int)≤N→0≤D9 sm N f L la∧D9 sm N f L la≤f
 |0,_,_,_,_=>⟨Int.le_refl _,Int.le_refl _⟩
 |f+1,L,la,hL,hN=>by
  have ih:∀ i∈L,0≤D9 sm N f (L.erase i) i∧D9 sm N f (L.erase i) i≤f:=fun i hi=>SH h0 f _ i (M0 hi hL) (by omega);obtain⟨h1,h2,h3⟩:=Mk (fun i=>sm la i+D9 sm N f (L.erase i) i) L N;show 0≤L.foldl _ N∧L.foldl _ N≤_;constructor
  ·rcases h3 with h3|⟨i,hi,h3⟩
   ·rw[h3];omega
   ·rw[h3];have:=ih i hi;have:=h0 la i;omega
  ·cases L with
   |nil=>simp at hL
   |cons x t =>have:=h2 x (List.mem_cons_self ..);have:=ih x (List.mem_cons_self ..);have:=h0 la x;omega
theorem Ei (h0:∀ a b,0≤sm a b∧sm a b≤1) {f:Nat}{L:List Int}{la:Int}(hL:L.length=f+1) (hN:((f+1:Nat):Int)≤N) :
  (∀ i∈L,D9 sm N (f+1) L la≤sm la i+D9 sm N f (L.erase i) i)∧∃ i∈L,sm la i+D9 sm N f (L.erase i) i=D9 sm N (f+1) L la:=by
 obtain⟨h1,h2,h3⟩:=Mk (fun i=>sm la i+D9 sm N f (L.erase i) i) L N;refine⟨h2,?_⟩;rcases h3 with h3|⟨i,hi,h3⟩
 ·cases L with
  |nil=>simp at hL
  |cons x t =>have hx:=List.mem_cons_self (a:=x) (l:=t);have e:=h2 x hx;have:=SH (N:=N) h0 f ((x::t).erase x) x (M0 hx hL) (by omega);have:=h0 la x;refine⟨x,hx,?_⟩;show _=List.foldl _ _ _;omega
 ·exact⟨i,hi,h3.symm⟩
theorem Q0m {f:Nat}{L:List Int}{la:Int}:Q27 sm N (f+1) L la=match L.find? (fun i=>sm la i+D9 sm N f (L.erase i) i==D9 sm N (f+1) L la) with
  |some i=>i::Q27 sm N f (L.erase i) i
  |none=>[]:=rfl
theorem Ck (h0:∀ a b,0≤sm a b∧sm a b≤1) {f:Nat}{L:List Int}{la:Int}(hL:L.length=f+1) (hN:((f+1:Nat):Int)≤N) :
  ∃ i,i∈L∧L.find? (fun i=>sm la i+D9 sm N f (L.erase i) i==D9 sm N (f+1) L la)=some i∧sm la i+D9 sm N f (L.erase i) i=D9 sm N (f+1) L la∧Q27 sm N (f+1) L la=i::Q27 sm N f (L.erase i) i:=by
 obtain⟨_,i,hi,he⟩:=Ei (la:=la) h0 hL hN;cases hf:L.find? (fun i=>sm la i+D9 sm N f (L.erase i) i==D9 sm N (f+1) L la) with
 |none =>have:=List.find?_eq_none.1 hf i hi;simp[he] at this
 |some j =>have h1:=List.mem_of_find?_eq_some hf;have h2:=List.find?_some hf;refine⟨j,h1,rfl,by simpa using h2,?_⟩;rw[Q0m,hf]
theorem Te (h0:∀ a b,0≤sm a b∧sm a b≤1):∀ f (L:List Int) (la:Int),L.length=f→(f:Int)≤N→(Q27 sm N f L la).Perm L∧NN sm la (Q27 sm N f L la)=D9 sm N f L la
 |0,L,_,hL,_=>by cases L with|nil=>exact⟨.refl _,rfl⟩|cons x t=>simp at hL
 |f+1,L,la,hL,hN=>by obtain⟨i,hi,_,he,ho⟩:=Ck (la:=la) h0 hL hN;obtain⟨h1,h2⟩:=Te h0 f (L.erase i) i (M0 hi hL) (by omega);rw[ho];exact⟨(h1.cons i).trans (List.perm_cons_erase hi).symm,by simp only[NN];rw[h2,he]⟩
theorem Q0w (h0:∀ a b,0≤sm a b∧sm a b≤1):∀ (r L:List Int) (la:Int),r.Perm L→(L.length:Int)≤N→D9 sm N L.length L la≤NN sm la r
 |[],L,la,hp,hN=>by obtain rfl:=hp.symm.eq_nil;exact Int.le_refl _
 |i::r,L,la,hp,hN=>by
  have hi:i∈L:=hp.mem_iff.1 (List.mem_cons_self ..);have hl:L.length=(r.length)+1:=by rw[←hp.length_eq];rfl
  have bk:r.Perm (L.erase i):=List.cons_perm_iff_perm_erase.1 hp |>.2
  have ih:=Q0w h0 r (L.erase i) i bk (by rw[List.length_erase_of_mem hi];omega);rw[M0 hi hl] at ih;have:=(Ei (N:=N) (la:=la) h0 hl (by omega)).1 i hi;rw[hl];simp only[NN];omega
theorem A1 {oO:Int→Int→Int}(h:∀ a b,oO a b≤sm a b):∀ f (L:List Int) (la:Int),D9 oO N f L la≤D9 sm N f L la
 |0,_,_=>Int.le_refl _
 |f+1,L,la=>by
  obtain⟨h1,h2,h3⟩:=Mk (fun i=>sm la i+D9 sm N f (L.erase i) i) L N;obtain⟨g1,g2,g3⟩:=Mk (fun i=>oO la i+D9 oO N f (L.erase i) i) L N;show List.foldl _ _ _≤List.foldl _ _ _;rcases h3 with h3|⟨i,hi,h3⟩
  ·rw[h3];exact g1
  ·rw[h3];refine Int.le_trans (g2 i hi) ?_;have:=A1 h f (L.erase i) i;have:=h la i;omega
end
def B7 (n i:Nat):Nat:=n &&& (2 ^ 64-1-2 ^ i)
theorem Sm {n i j:Nat}(hn:n<2 ^ 64) (hi:i<64):(B7 n i).testBit j=(n.testBit j&&!decide (j=i)):=by
 unfold B7;have hp:2 ^ i<2 ^ 64:=Nat.pow_lt_pow_right (by omega) hi;have e:2 ^ 64-1-2 ^ i=2 ^ 64-(2 ^ i+1):=by omega
 rw[Nat.testBit_and,e,Nat.testBit_two_pow_sub_succ hp,Nat.testBit_two_pow];by_cases hj:j<64
 ·rw[decide_eq_true hj,Bool.true_and];congr 2;rw[decide_eq_decide];omega
 ·have:n.testBit j=false:=Nat.testBit_lt_two_pow (Nat.lt_of_lt_of_le hn (Nat.pow_le_pow_right (by omega) (by omega)));rw[this];simp
theorem AB (n i:Nat):B7 n i≤n:=Nat.and_le_left
theorem EH {n i:Nat}(hn:n<2 ^ 64) (hi:i<64):Jb .andNot .u64 (n:Int) ((2 ^ i:Nat):Int)=((B7 n i:Nat):Int):=by
 have hp:2 ^ i<2 ^ 64:=Nat.pow_lt_pow_right (by omega) hi;have t:∀ x:Nat,x<2 ^ 64→(BitVec.ofInt 64 (x:Int)).toNat=x:=fun x hx=>by rw[PK,BitVec.toNat_ofNat,Nat.mod_eq_of_lt hx]
 have e:(BitVec.ofInt 64 (n:Int) &&& ~~~(BitVec.ofInt 64 ((2 ^ i:Nat):Int))).toNat=B7 n i:=by rw[BitVec.toNat_and,BitVec.toNat_not,t _ hn,t _ hp];rfl
 show IntKind.wrap .u64 ((BitVec.ofInt 64 (n:Int) &&& ~~~(BitVec.ofInt 64 ((2 ^ i:Nat):Int))).toNat:Int)=_;rw[e];show ((B7 n i:Nat):Int) % 18446744073709551616=_;have:=AB n i;omega
theorem Q40 {n:Nat}{i:Int}(hn:n<2 ^ 64) (hi:i∈Q4 n):Q4 (B7 n i.toNat)=(Q4 n).erase i:=by
 obtain⟨k,rfl,hk⟩:=(Kk hn i).1 hi;have jx:k<64:=by
  rcases Nat.lt_or_ge k 64 with h|h
  ·exact h
  ·rw[Nat.testBit_lt_two_pow (Nat.lt_of_lt_of_le hn (Nat.pow_le_pow_right (by omega) h))] at hk;cases hk
 have hs:=Yk n n (Nat.le_refl _) hn;have gk:=By n n (Nat.le_refl _) hn;have hc:B7 n k<2 ^ 64:=Nat.lt_of_le_of_lt (AB n k) hn;rw[Int.toNat_natCast];refine U_ (Yk _ _ (Nat.le_refl _) hc) (hs.sublist List.erase_sublist) fun x=>?_;have hm:x∈(Q4 n).erase (k:Int)↔x≠(k:Int)∧x∈Q4 n:=List.Nodup.mem_erase_iff gk;rw[hm];rw[Kk hc,Kk hn];constructor
 ·rintro⟨j,rfl,hj⟩;rw[Sm hn jx] at hj;simp only[Bool.and_eq_true,Bool.not_eq_true',decide_eq_false_iff_not] at hj;exact⟨by omega,j,rfl,hj.1⟩
 ·rintro⟨aA,j,rfl,hj⟩;refine⟨j,rfl,?_⟩;rw[Sm hn jx,hj,decide_eq_false (by omega)];rfl
def JM (l:List Lot) (tl:Int) (n:Nat) (la:Int):Int:=D9 (Zt l tl) l.length (Q4 n).length (Q4 n) la
def GM (l:List Lot) (tl:Int) (n:Nat) (la:Int):List Int:=Q27 (Zt l tl) l.length (Q4 n).length (Q4 n) la
def Wt (l:List Lot) (tl:Int):Int:=if Qk l tl=0 then JM l tl (2 ^ l.length-1) (-1) else 0
def JF (l:List Lot) (tl:Int):List Int:=if Qk l tl=0 then GM l tl (2 ^ l.length-1) (-1) else []
theorem VI (l:List Lot) (tl a b:Int):0≤Zt l tl a b∧Zt l tl a b≤1:=by unfold Zt;split<;>omega
def Hf (l:List Lot) (tl:Int) (m:List ((Int×Int)×Int)):Prop:=∀ k:Int×Int,gq.ahas (.pair (.i .u64) (.i .i64)) m k=true→gq.aget (.pair (.i .u64) (.i .i64)) m k 0=JM l tl k.1.toNat k.2
theorem Z18 {a b:Int×Int}:gq.keq (.pair (.i .u64) (.i .i64)) a b=true↔a=b:=by show ((a.1==b.1)&&(a.2==b.2))=true↔_;simp only[Bool.and_eq_true,beq_iff_eq,Prod.ext_iff]
theorem Lh {a b:Int×Int}(h:a≠b):gq.keq (.pair (.i .u64) (.i .i64)) a b=false:=by
 cases e:gq.keq (.pair (.i .u64) (.i .i64)) a b with
 |false=>rfl
 |true=>exact(h (Z18.1 e)).elim
theorem apC (a:Int×Int) (b:Int) (m:List ((Int×Int)×Int)) (k:Int×Int) (v:Int):S4 (.pair (.i .u64) (.i .i64)) ((a,b)::m) k v=if gq.keq (.pair (.i .u64) (.i .i64)) k a=true then (k,v)::m else (a,b)::S4 (.pair (.i .u64) (.i .i64)) m k v:=rfl
theorem agC (a:Int×Int) (b:Int) (m:List ((Int×Int)×Int)) (k:Int×Int) (d:Int):gq.aget (.pair (.i .u64) (.i .i64)) ((a,b)::m) k d=if gq.keq (.pair (.i .u64) (.i .i64)) k a=true then b else gq.aget (.pair (.i .u64) (.i .i64)) m k d:=rfl
theorem ahC (a:Int×Int) (b:Int) (m:List ((Int×Int)×Int)) (k:Int×Int):gq.ahas (.pair (.i .u64) (.i .i64)) ((a,b)::m) k=(gq.keq (.pair (.i .u64) (.i .i64)) k a||gq.ahas (.pair (.i .u64) (.i .i64)) m k):=rfl
theorem Z07 (k:Int×Int) (v:Int) (e:Int×Int):∀ m:List ((Int×Int)×Int),gq.aget (.pair (.i .u64) (.i .i64)) (S4 (.pair (.i .u64) (.i .i64)) m k v) e 0=(if e=k then v else gq.aget (.pair (.i .u64) (.i .i64)) m e 0)∧gq.ahas (.pair (.i .u64) (.i .i64)) (S4 (.pair (.i .u64) (.i .i64)) m k v) e=(decide (e=k)||gq.ahas (.pair (.i .u64) (.i .i64)) m e)
 |[]=>by
  show gq.aget (.pair (.i .u64) (.i .i64)) ((k,v)::[]) e 0=_∧gq.ahas (.pair (.i .u64) (.i .i64)) ((k,v)::[]) e=_;rw[agC,ahC];by_cases h:e=k
  ·rw[Z18.2 h,if_pos rfl,if_pos h,decide_eq_true h];exact⟨rfl,rfl⟩
  ·rw[Lh h,if_neg (by decide),if_neg h,decide_eq_false h];exact⟨rfl,rfl⟩
 |(a,b)::m=>by
  obtain⟨iR,iS⟩:=Z07 k v e m;rw[apC];by_cases hk:k=a
  ·subst hk;rw[Z18.2 rfl,if_pos rfl,agC,agC,ahC,ahC];by_cases h:e=k
   ·rw[Z18.2 h,if_pos rfl,if_pos h,decide_eq_true h];exact⟨rfl,rfl⟩
   ·rw[Lh h,if_neg (by decide),if_neg h,decide_eq_false h,if_neg (by decide)];exact⟨rfl,rfl⟩
  ·rw[Lh hk,if_neg (by decide),agC,agC,ahC,ahC,iR,iS];by_cases h:e=a
   ·have rF:e≠k:=fun h2=>hk (h2.symm.trans h);rw[Z18.2 h,if_pos rfl,if_neg rF,if_pos rfl,decide_eq_false rF];exact⟨rfl,rfl⟩
   ·rw[Lh h,if_neg (show ¬ (false=true) by decide),if_neg (show ¬ (false=true) by decide),Bool.false_or,Bool.false_or];exact⟨rfl,rfl⟩
theorem Q2k (l:List Lot) (tl:Int):Hf l tl []:=fun k h=>by cases h
theorem Q3t {l:List Lot}{tl:Int}{m:List ((Int×Int)×Int)}{lf la v:Int}(h:Hf l tl m) (hv:v=JM l tl lf.toNat la):Hf l tl (S4 (.pair (.i .u64) (.i .i64)) m (lf,la) v):=fun k hk=>by
 obtain⟨h1,h2⟩:=Z07 (lf,la) v k m;rw[h1];by_cases e:k=(lf,la)
 ·subst e;rw[if_pos rfl];exact hv
 ·rw[if_neg e];refine h k ?_;rw[h2,decide_eq_false e] at hk;simpa using hk
theorem Ow {n:Nat}{i:Int}(hn:n<2 ^ 64) (hi:i∈Q4 n):B7 n i.toNat<n:=by
 obtain⟨k,rfl,hk⟩:=(Kk hn i).1 hi;have jx:k<64:=by
  rcases Nat.lt_or_ge k 64 with h|h
  ·exact h
  ·rw[Nat.testBit_lt_two_pow (Nat.lt_of_lt_of_le hn (Nat.pow_le_pow_right (by omega) h))] at hk;cases hk
 have h1:=AB n (k:Int).toNat;have h2:(B7 n k).testBit k=false:=by rw[Sm hn jx];simp
 rw[Int.toNat_natCast] at *
 rcases Nat.lt_or_eq_of_le h1 with h3|h3
 ·exact h3
 ·rw[h3,hk] at h2;cases h2
theorem Ta {l:List Lot}{tl:Int}{n:Nat}{i:Int}(hn:n<2 ^ 64) (hi:i∈Q4 n) {f:Nat}(hf:(Q4 n).length=f+1):D9 (Zt l tl) l.length f ((Q4 n).erase i) i=JM l tl (B7 n i.toNat) i∧Q27 (Zt l tl) l.length f ((Q4 n).erase i) i=GM l tl (B7 n i.toNat) i:=by unfold JM GM;rw[Q40 hn hi,M0 hi hf];exact⟨rfl,rfl⟩
theorem Hn {F G:Int→Int}:∀ {L:List Int}{N:Int},(∀ i∈L,F i=G i)→L.foldl (fun b i=>TJ b (F i)) N=L.foldl (fun b i=>TJ b (G i)) N
 |[],_,_=>rfl
 |x::L,N,h=>by simp only[List.foldl_cons];rw[h x (List.mem_cons_self ..)];exact Hn fun i hi=>h i (List.mem_cons_of_mem _ hi)
theorem Q1w {l:List Lot}{tl:Int}{n:Nat}{la:Int}(hn:n<2 ^ 64) (h0:0<n):JM l tl n la=(Q4 n).foldl (fun b i=>TJ b (Zt l tl la i+JM l tl (B7 n i.toNat) i)) (l.length:Int):=by
 obtain⟨f,hf⟩:∃ f,(Q4 n).length=f+1:=⟨(Q4 n).length-1,by
  have:=List.length_pos_iff.2 (NT h0);omega⟩
 unfold JM;rw[hf];show List.foldl _ _ _=_;refine Hn fun i hi=>?_;rw[(Ta hn hi hf).1];rfl
theorem Pr {l:List Lot}{tl:Int}{n:Nat}(la:Int) (hl:l.length≤12) (hn:n<2 ^ l.length):0≤JM l tl n la∧JM l tl n la≤l.length:=by have h1:=ZO hn (by omega);have:=SH (N:=(l.length:Int)) (VI l tl) (Q4 n).length (Q4 n) la rfl (by omega);unfold JM;omega
theorem Q0f (l:List Lot) (tl la:Int):JM l tl 0 la=0∧GM l tl 0 la=[]:=⟨rfl,rfl⟩
theorem Iq {l:List Lot}{tl:Int}{n:Nat}(la:Int) (hl:l.length≤12) (hn:n<2 ^ l.length) (h0:0<n) :
  (∃ i∈Q4 n,Zt l tl la i+JM l tl (B7 n i.toNat) i=JM l tl n la)∧∀ k,k<(Q4 n).length→(∀ j,j<k→Zt l tl la ((Q4 n).getD j 0)+JM l tl (B7 n ((Q4 n).getD j 0).toNat) ((Q4 n).getD j 0)≠JM l tl n la) →
   Zt l tl la ((Q4 n).getD k 0)+JM l tl (B7 n ((Q4 n).getD k 0).toNat) ((Q4 n).getD k 0)=JM l tl n la→GM l tl n la=(Q4 n).getD k 0::GM l tl (B7 n ((Q4 n).getD k 0).toNat) ((Q4 n).getD k 0):=by
 have eL:n<2 ^ 64:=Nat.lt_of_lt_of_le hn (Nat.pow_le_pow_right (by omega) (by omega));obtain⟨f,hf⟩:∃ f,(Q4 n).length=f+1:=⟨(Q4 n).length-1,by
  have:=List.length_pos_iff.2 (NT h0);omega⟩
 have h1:=ZO hn (by omega);obtain⟨i,hi,kz,he,ho⟩:=Ck (la:=la) (N:=(l.length:Int)) (VI l tl) hf (by omega);obtain⟨e1,e2⟩:=Ta (l:=l) (tl:=tl) eL hi hf;have er:JM l tl n la=D9 (Zt l tl) l.length (f+1) (Q4 n) la:=by unfold JM;rw[hf]
 have eo:GM l tl n la=Q27 (Zt l tl) l.length (f+1) (Q4 n) la:=by unfold GM;rw[hf]
 refine⟨⟨i,hi,by rw[←e1,he,er]⟩,fun k hk hb au=>?_⟩;have um:i=(Q4 n).getD k 0:=by
  obtain⟨hp,dP,bs,hL,qw⟩:=List.find?_eq_some_iff_append.1 kz;have hlen:dP.length<(Q4 n).length:=by rw[hL];simp
  have fk:(Q4 n).getD dP.length 0=i:=by rw[Qa hlen];simp[hL]
  rcases Nat.lt_trichotomy dP.length k with h2|h2|h2
  ·exfalso;have:=hb _ h2;rw[fk,←e1,he,er] at this;exact this rfl
  ·rw[←h2,fk]
  ·exfalso;have hm:(Q4 n).getD k 0∈dP:=by
    rw[Qa hk];have:(Q4 n)[k]=dP[k]:=by simp[hL,h2]
    rw[this];exact List.getElem_mem h2
   have h3:=qw _ hm;obtain⟨g1,_⟩:=Ta (l:=l) (tl:=tl) eL (show (Q4 n).getD k 0∈Q4 n by rw[Qa hk];exact List.getElem_mem hk) hf;rw[g1,←er,au] at h3;simp only[beq_self_eq_true,Bool.not_true,Bool.false_eq_true] at h3
 rw[eo,ho,←um,←e2]
theorem OY {l:List Lot}{t i k:Int}(hl:l.length≤12) (hi:0≤i∧i<l.length) (hk:0≤k∧k<l.length):Zt l t i k=if alP l t i k=true then 0 else 1:=by unfold Zt;rw[decide_eq_false (by omega),Bool.false_or];rw[show alD l t i k=alC l t i k from rfl,Rz hl hi hk]
theorem Rm {sm:Int→Int→Int}:∀ (r:List Int) (la:Int) (k:Nat),k<r.length→NN sm la (r.take (k+1))=NN sm la (r.take k)+sm (if k=0 then la else r.getD (k-1) 0) (r.getD k 0)
 |[],_,_,h=>by simp at h
 |x::t,la,0,_=>by simp[NN]
 |x::t,la,k+1,h=>by
  have ih:=Rm (sm:=sm) t x k (by simpa using h);have e:(if k+1=0 then la else (x::t).getD (k+1-1) 0)=(if k=0 then x else t.getD (k-1) 0):=by
   cases k with
   |zero=>rfl
   |succ j=>rfl
  rw[List.take_succ_cons,List.take_succ_cons,e,List.getD_cons_succ];simp only[NN];rw[ih];omega
end Go.Proofs.Tryz
set_option linter.unusedVariables false
namespace Go.Proofs.Tryz
open Go Go.V Go.Proofs
def Vk:AL (((List (Int×(Int×Int)×Int))×Int×Unit)×Int×Int):=(.cons (.ptr (.cons (.k (.list (.pair (.i .i64) (.pair (.pair (.i .i64) (.i .i64)) (.i .i64))))) (.cons (.k (.i .i64)) (.one .any)))) (.cons (.k (.i .i64)) (.one (.k (.i .i64)))))
def Ga (d:((List (Int×(Int×Int)×Int))×Int×Unit)×Int×Int):Prop:=d.1.1.length≤12∧(∀ y∈d.1.1,Qw y=true)∧d.2.1<d.1.1.length∧0≤d.2.2∧d.2.2<d.1.1.length
def K9 (d:((List (Int×(Int×Int)×Int))×Int×Unit)×Int×Int):SV:=.val (.i .i64) (Zt d.1.1 d.1.2.1 d.2.1 d.2.2)
def K0 (d:((List (Int×(Int×Int)×Int))×Int×Unit)×Int×Int):List OB:=[]
def X0:CSp:=YO Vk Ga K9 K0
def JO (l:List (Int×(Int×Int)×Int)) (tl:Int) (a:Int) (b:Int):Prop :=
 ((decide (a<(0:Int)))=false→0≤a)∧((decide (a<(0:Int)))=false→InK .u64 (QZ .u64 (1:Int) a))∧((decide (a<(0:Int)))=false→0≤b)∧((decide (a<(0:Int)))=false→InK .u64 (QZ .u64 (1:Int) b))∧((decide (a<(0:Int)))=false→l.length≤12∧(∀ y∈l,Qw y=true)∧0<(Jb .or .u64 (QZ .u64 (1:Int) a) (QZ .u64 (1:Int) b))∧(Jb .or .u64 (QZ .u64 (1:Int) a) (QZ .u64 (1:Int) b))<2 ^ l.length)∧(((decide (a<(0:Int)))||(JE l tl (Q4 (Jb .or .u64 (QZ .u64 (1:Int) a) (QZ .u64 (1:Int) b)).toNat)))=true →
  ((0:Int)=(Zt l tl a b)∧(True))) ∧
 (((decide (a<(0:Int)))||(JE l tl (Q4 (Jb .or .u64 (QZ .u64 (1:Int) a) (QZ .u64 (1:Int) b)).toNat)))=false →
  ((1:Int)=(Zt l tl a b)∧(True)))
def Vh:Cx:=⟨[],[(79,Z1)],21,[],0,[],[],[],[],false,[],[],[],[]⟩
def GQ (l:List (Int×(Int×Int)×Int)) (tl:Int) (a:Int) (b:Int):List (Nat×LoopAnn):=[]
set_option maxRecDepth 100000 in
theorem GG (d:((List (Int×(Int×Int)×Int))×Int×Unit)×Int×Int):gwp (Vh) (GQ d.1.1 d.1.2.1 d.2.1 d.2.2) c57 0 (VT [.tmp 6] (K9 d) (K0 d)) (Qt 21 (AL.can Vk d))=JO d.1.1 d.1.2.1 d.2.1 d.2.2:=by kernel_rfl
abbrev GX:Prop:=OkC Tryz.prog 57 X0
theorem G_ (h:∀ (l:List (Int×(Int×Int)×Int)) (tl:Int) (a:Int) (b:Int),(l.length≤12∧(∀ y∈l,Qw y=true)∧a<l.length∧0≤b∧b<l.length)→JO l tl a b):OkC Tryz.prog 57 X0 :=
 Z7 Q80 mixed (C:=Vh) (V:=fun (d:((List (Int×(Int×Int)×Int))×Int×Unit)×Int×Int)=>JO d.1.1 d.1.2.1 d.2.1 d.2.2) ⟨(.cons Jg .nil),XsOk.nil,ItsOk.nil,YlOk.nil,IysOk.nil,XfOk.nil⟩ (GG) fun d hp=>h d.1.1 d.1.2.1 d.2.1 d.2.2 hp
theorem V1:GX:=G_ fun l tl a b h=>by
 obtain⟨h1,h2,h3,h4,h5⟩:=h;unfold JO;(try delta lI gD sT I64);simp only[and_true];have dI:(2:Int) ^ l.length=((2 ^ l.length:Nat):Int):=by simp
 have jy:∀ i:Int,0≤i→i≤12→InK .u64 (QZ .u64 1 i):=fun i a b=>by
  rw[KR a (by omega)];have:=Yr (n:=i.toNat) (by omega);simp only[XE];generalize 2 ^ i.toNat=z at *
  omega
 by_cases ha:a<0
 ·have e:Zt l tl a b=0:=by unfold Zt;rw[decide_eq_true ha];rfl
  simp only[decide_eq_true ha,Bool.true_or,e];refine⟨fun c=>?_,fun c=>?_,fun c=>?_,fun c=>?_,fun c=>?_,fun _=>(by trivial),fun c=>?_⟩<;>simp at c
 ·have hb:=EF (i:=a) (k:=b) (by omega) (by omega);have pg:0<2 ^ a.toNat ||| 2 ^ b.toNat:=Nat.lt_of_lt_of_le (Nat.two_pow_pos _) Nat.left_le_or
  have mn:2 ^ a.toNat ||| 2 ^ b.toNat<2 ^ l.length:=Nat.or_lt_two_pow (Nat.pow_lt_pow_right (by omega) (by omega)) (Nat.pow_lt_pow_right (by omega) (by omega))
  have e:Zt l tl a b=if JE l tl (Q4 (2 ^ a.toNat ||| 2 ^ b.toNat))=true then 0 else 1:=by unfold Zt;rw[decide_eq_false ha,Bool.false_or];rfl
  simp only[hb,Int.toNat_natCast,decide_eq_false ha,Bool.false_or,e,dI];refine⟨fun _=>by omega,fun _=>jy a (by omega) (by omega),fun _=>by omega,fun _=>jy b (by omega) (by omega),fun _=>⟨h1,h2,by omega,by omega⟩,fun c=>?_,fun c=>?_⟩
  ·rw[if_pos c]
  ·rw[if_neg (by rw[c];decide)]
def JY:AL ((List (Int×(Int×Int)×Int))×Int):=(.cons (.k (.list (.pair (.i .i64) (.pair (.pair (.i .i64) (.i .i64)) (.i .i64))))) (.one (.k (.i .i64))))
def JX:AL (Int×Int):=(.one (.agg (.cons (.k (.i .u64)) (.one (.k (.i .i64))))))
def W_ (m:List ((Int×Int)×Int)) (c:(List (Int×(Int×Int)×Int))×Int) (a:Int×Int):Prop:=c.1.length≤12∧(∀ y∈c.1,Qw y=true)∧0≤a.1∧a.1<2 ^ c.1.length∧-1≤a.2∧a.2<c.1.length∧Hf c.1 c.2 m
def JZ (m:List ((Int×Int)×Int)) (c:(List (Int×(Int×Int)×Int))×Int) (a:Int×Int):SV:=.val (.i .i64) (JM c.1 c.2 a.1.toNat a.2)
def JH (m:List ((Int×Int)×Int)) (c:(List (Int×(Int×Int)×Int))×Int) (a:Int×Int) (m2:List ((Int×Int)×Int)):Prop:=Hf c.1 c.2 m2
def YK (c:(List (Int×(Int×Int)×Int))×Int) (a:Int×Int):Nat:=a.1.toNat
def XG:XSp:=BX Dt 2 (.pair (.i .u64) (.i .i64)) (.i .i64) (Q3v JY JX W_ JZ JH)
def ZT (dX:Nat) (m:List ((Int×Int)×Int)) (l:List (Int×(Int×Int)×Int)) (tl:Int) (lf:Int) (la:Int):Prop:=∀ vals:List Value,
 ((lf==(0:Int))=true →
  (vals=vals∧(True∧(([]:List SV)=[]))∧(0:Int)=(JM l tl lf.toNat la)∧(Hf l tl m))) ∧
 ((lf==(0:Int))=false →
  ((gq.ahas (.pair (.i .u64) (.i .i64)) m (lf,la))=true →
   (vals=vals∧(True∧(([]:List SV)=[]))∧(gq.aget (.pair (.i .u64) (.i .i64)) m (lf,la) 0)=(JM l tl lf.toNat la)∧(Hf l tl m))) ∧
  ((gq.ahas (.pair (.i .u64) (.i .i64)) m (lf,la))=false →
   (0≤lf∧lf≤1048576)∧∃ (e3:Unit) (d30:(List ((Int×Int)×Int))×Int×Int),(((l=l∧tl=tl∧True∧(([]:List SV)=[]))∧True∧(lI l)=d30.2.1∧True∧(lI (Q4 lf.toNat))=(lI (Q4 lf.toNat))∧(0:Int)=d30.2.2∧True)∧((m=d30.1)∧(lf=lf∧la=la∧(([]:List SV)=[]))∧((Q4 lf.toNat)=(Q4 lf.toNat)∧(Q4 lf.toNat).isEmpty=(List.isEmpty (Q4 lf.toNat)))∧(vals=vals∧(True∧(([]:List SV)=[])))∧True)) ∧
   LoopP (fun (d3:(List ((Int×Int)×Int))×Int×Int) (q3:((List ((Int×Int)×Int))×Int×Int)→Prop) =>
    ((decide (d3.2.2<(lI (Q4 lf.toNat))))=true →
     (0≤d3.2.2)∧(d3.2.2<(List.length (Q4 lf.toNat)))∧(l.length≤12∧(∀ y∈l,Qw y=true)∧la<l.length∧0≤(gD (Q4 lf.toNat) d3.2.2 0)∧(gD (Q4 lf.toNat) d3.2.2 0)<l.length)∧(0≤(gD (Q4 lf.toNat) d3.2.2 0))∧(InK .u64 (QZ .u64 (1:Int) (gD (Q4 lf.toNat) d3.2.2 0)))∧((l.length≤12∧(∀ y∈l,Qw y=true)∧0≤(Jb .andNot .u64 lf (QZ .u64 (1:Int) (gD (Q4 lf.toNat) d3.2.2 0)))∧(Jb .andNot .u64 lf (QZ .u64 (1:Int) (gD (Q4 lf.toNat) d3.2.2 0)))<2 ^ l.length∧-1≤(gD (Q4 lf.toNat) d3.2.2 0)∧(gD (Q4 lf.toNat) d3.2.2 0)<l.length∧Hf l tl d3.1)∧((Jb .andNot .u64 lf (QZ .u64 (1:Int) (gD (Q4 lf.toNat) d3.2.2 0))).toNat)<dX)∧(∀ m4:List ((Int×Int)×Int),(Hf l tl m4)→(I64 ((Zt l tl la (gD (Q4 lf.toNat) d3.2.2 0))+(JM l tl (Jb .andNot .u64 lf (QZ .u64 (1:Int) (gD (Q4 lf.toNat) d3.2.2 0))).toNat (gD (Q4 lf.toNat) d3.2.2 0))))∧(I64 (d3.2.2+(1:Int)))∧(∃ d5:(List ((Int×Int)×Int))×Int×Int,(((l=l∧tl=tl∧True∧(([]:List SV)=[]))∧True∧(TJ d3.2.1 ((Zt l tl la (gD (Q4 lf.toNat) d3.2.2 0))+(JM l tl (Jb .andNot .u64 lf (QZ .u64 (1:Int) (gD (Q4 lf.toNat) d3.2.2 0))).toNat (gD (Q4 lf.toNat) d3.2.2 0))))=d5.2.1∧True∧(lI (Q4 lf.toNat))=(lI (Q4 lf.toNat))∧(d3.2.2+(1:Int))=d5.2.2∧True)∧((m4=d5.1)∧(lf=lf∧la=la∧(([]:List SV)=[]))∧((Q4 lf.toNat)=(Q4 lf.toNat)∧(List.isEmpty (Q4 lf.toNat))=(List.isEmpty (Q4 lf.toNat)))∧(vals=vals∧(True∧(([]:List SV)=[])))∧True))∧q3 d5))) ∧
    ((decide (d3.2.2<(lI (Q4 lf.toNat))))=false →
     (vals=vals∧(True∧(([]:List SV)=[]))∧d3.2.1=(JM l tl lf.toNat la)∧(Hf l tl (S4 (.pair (.i .u64) (.i .i64)) d3.1 (lf,la) d3.2.1))))) d30))
def cx_shade_layer_fewest:Cx:=⟨[],[(56,Z8),(57,X0)],63,[],0,[],[],[],[],false,[],[],[],[]⟩
def Yy (m:List ((Int×Int)×Int)) (l:List (Int×(Int×Int)×Int)) (tl:Int) (lf:Int) (la:Int) (vals:List Value):List (Nat×LoopAnn):=[(0,⟨Unit,(List ((Int×Int)×Int))×Int×Int,[0,3,7,32,33,34],fun e x=>[.cp [.val (.list (.pair (.i .i64) (.pair (.pair (.i .i64) (.i .i64)) (.i .i64)))) l,.val (.i .i64) tl,.map 0] 0,.box 3 0,.val (.i .i64) x.2.1,.lst 32,.val (.i .i64) (((List.length (Q4 lf.toNat)):Nat):Int),.val (.i .i64) x.2.2],fun e x=>[(0,.key 0,.map (.pair (.i .u64) (.i .i64)) (.i .i64) x.1),(3,.slot 3,.cells [.val (.i .u64) lf,.val (.i .i64) la] (some 115)),(32,.slot 32,.lst 3 (.i .i64) (Q4 lf.toNat) (List.isEmpty (Q4 lf.toNat))),(4000000,.key 4000000,.stk [.map 0] vals)]⟩)]
set_option maxRecDepth 100000 in
theorem Mb (dX:Nat) (m:List ((Int×Int)×Int)) (c:(List (Int×(Int×Int)×Int))×Int) (a:Int×Int):(∀ vals,gwp {cx_shade_layer_fewest with xs:=(55,BX Dt 2 (.pair (.i .u64) (.i .i64)) (.i .i64) (Q3v JY JX (fun m c a=>W_ m c a∧YK c a<dX) JZ JH))::cx_shade_layer_fewest.xs} (Yy m c.1 c.2 a.1 a.2 vals) c55 0 (Q3d vals [.tmp 4] (JZ m c a) (.pair (.i .u64) (.i .i64)) (.i .i64) (JH m c a)) (mstart 63 2 (.pair (.i .u64) (.i .i64)) (.i .i64) m vals (AL.can JY c) (AL.can JX a)))=ZT dX m c.1 c.2 a.1 a.2:=by kernel_rfl
abbrev Mr:Prop:=Q9o Tryz.prog 55 XG 2
theorem NO (h:∀ (dX:Nat) (m:List ((Int×Int)×Int)) (l:List (Int×(Int×Int)×Int)) (tl:Int) (lf:Int) (la:Int),(l.length≤12∧(∀ y∈l,Qw y=true)∧0≤lf∧lf<2 ^ l.length∧-1≤la∧la<l.length∧Hf l tl m)→(lf.toNat)=dX→ZT dX m l tl lf la):Q9o Tryz.prog 55 XG 2 :=
 O3 Q6u mixed Vl rfl (μ:=YK) (C:=cx_shade_layer_fewest) ⟨(.cons ZP (.cons V1 .nil)),XsOk.nil,ItsOk.nil,YlOk.nil,IysOk.nil,XfOk.nil⟩ rfl (L:=fun m (c:(List (Int×(Int×Int)×Int))×Int) (a:Int×Int) vals=>Yy m c.1 c.2 a.1 a.2 vals) (V:=fun dX m (c:(List (Int×(Int×Int)×Int))×Int) (a:Int×Int)=>ZT dX m c.1 c.2 a.1 a.2) Mb fun n m c a hp hn=>h n m c.1 c.2 a.1 a.2 hp hn
theorem Y5:Mr:=NO fun dX m l tl lf la h hn=>by
 obtain⟨h1,h2,h3,h4,h5,h6,h7⟩:=h;unfold ZT;(try delta lI gD sT I64);intro vals;simp only[true_and,and_true];have dI:(2:Int) ^ l.length=((2 ^ l.length:Nat):Int):=by simp
 obtain⟨n,rfl⟩:=Int.eq_ofNat_of_zero_le h3;simp only[Int.toNat_natCast,dI] at hn h4 ⊢;have h4:n<2 ^ l.length:=by omega
 have qx:=Yr h1;have eL:n<2 ^ 64:=Nat.lt_of_lt_of_le h4 (Nat.pow_le_pow_right (by omega) (by omega));have jy:∀ i:Int,0≤i→i≤12→InK .u64 (QZ .u64 1 i):=fun i a b=>by
  rw[KR a (by omega)];have:=Yr (n:=i.toNat) (by omega);simp only[XE];generalize 2 ^ i.toNat=z at *
  omega
 refine⟨fun c=>?_,fun c=>⟨fun c2=>⟨?_,h7⟩,fun c2=>⟨⟨by omega,by omega⟩,(),(m,(l.length:Int),0),(by and_intros<;>first|rfl|trivial),?_⟩⟩⟩
 ·have c:n=0:=by simpa using c
  subst c;exact⟨rfl,h7⟩
 ·have:=h7 ((n:Int),la) c2;simpa using this
 have c:0<n:=by
  have:n≠0:=by simpa using c
  omega
 have oa:=Q1w (l:=l) (tl:=tl) (la:=la) eL c;have iP:=ZO h4 (by omega);have aE:=NL h4 (by omega);have uo:=Pr (tl:=tl) la h1 h4;refine⟨fun d=>∃ k:Nat,d.2.2=k∧k≤(Q4 n).length∧d.2.1=((Q4 n).take k).foldl (fun b i=>TJ b (Zt l tl la i+JM l tl (B7 n i.toNat) i)) (l.length:Int)∧Hf l tl d.1,fun d=>(Q4 n).length-d.2.2.toNat,⟨0,rfl,by omega,rfl,h7⟩,?_⟩;rintro⟨m1,b,k'⟩ ⟨k,e1,e2,e3,e4⟩;dsimp only at e1 e3 e4 ⊢;subst e1;refine⟨fun g=>?_,fun g=>?_⟩
 ·have g:k<(Q4 n).length:=by have:=of_decide_eq_true g;omega
  have hx:(Q4 n).getD k 0=(Q4 n)[k]:=Qa g;have jL:(Q4 n)[k]∈Q4 n:=List.getElem_mem g;have bH:=aE _ jL;have iQ:=ZV g;simp only[Int.toNat_natCast,hx];generalize (Q4 n)[k]=x at jL bH iQ;have cy:=Ow eL jL;have lM:Jb .andNot .u64 (n:Int) (QZ .u64 1 x)=((B7 n x.toNat:Nat):Int):=by rw[KR bH.1 (by omega)];exact EH eL (by omega)
  rw[lM];simp only[Int.toNat_natCast];have hs:=VI l tl la x;have hr:=Pr (tl:=tl) x h1 (show B7 n x.toNat<2 ^ l.length by omega);refine⟨by omega,by omega,⟨h1,h2,h6,bH.1,bH.2⟩,bH.1,jy x bH.1 (by omega),⟨⟨h1,h2,by omega,by omega,by omega,bH.2,e4⟩,by omega⟩,fun m4 uq=>⟨by simp only[Z3];omega,by simp only[Z3];omega,(m4,TJ b (Zt l tl la x+JM l tl (B7 n x.toNat) x),(k:Int)+1),(by and_intros<;>first|rfl|trivial),⟨k+1,by simp,by omega,?_,uq⟩,by dsimp only;omega⟩⟩;dsimp only;rw[iQ,List.foldl_append,e3];rfl
 ·have hk:k=(Q4 n).length:=by have:=of_decide_eq_false g;omega
  rw[hk,List.take_length,←oa] at e3;exact⟨e3,Q3t e4 (by rw[Int.toNat_natCast];exact e3)⟩
def Hk:AL ((List (Int×(Int×Int)×Int))×Int):=(.cons (.k (.list (.pair (.i .i64) (.pair (.pair (.i .i64) (.i .i64)) (.i .i64))))) (.one (.k (.i .i64))))
def SI (d:(List (Int×(Int×Int)×Int))×Int):Prop:=d.1.length≤1000
def DD (d:(List (Int×(Int×Int)×Int))×Int):SV:=.tup [.lst 0,.val (.i .i64) (Wt d.1 d.2),.val (.i .i64) (Qk d.1 d.2)]
def Bl (d:(List (Int×(Int×Int)×Int))×Int):List OB:=[.lst 3 (.i .i64) (JF d.1 d.2) ((JF d.1 d.2).isEmpty)]
def GC:CSp:=YO Hk SI DD Bl
def VR (l:List (Int×(Int×Int)×Int)) (tl:Int):Prop :=
 ∀ w1:List Value,(l.length≤1000)∧(((Qj l)==(0:Int))=true→True)∧(((Qj l)==(0:Int))=true→[tl].length≤1000000)∧((((Qj l)==(0:Int))&&(!(!([tl].any fun n=>decide (n<(0:Int))||decide ((1000:Int)<n)))))=true →
  w1=w1∧(((3:Int) != (0:Int))=true →
   ((True∧(0:Int)=(Wt l tl)∧(3:Int)=(Qk l tl)∧(([]:List SV)=[]))∧(((JF l tl)=[]∧(JF l tl).isEmpty=true)∧True))) ∧
  (((3:Int) != (0:Int))=false →
   (0≤(lI l))∧(InK .u64 (QZ .u64 (1:Int) (lI l)))∧(InK .u64 ((QZ .u64 (1:Int) (lI l))-(1:Int)))∧(l.length≤12∧(∀ y∈l,Qw y=true)∧0≤((QZ .u64 (1:Int) (lI l))-(1:Int))∧((QZ .u64 (1:Int) (lI l))-(1:Int))<2 ^ l.length∧-1≤(-1:Int)∧(-1:Int)<l.length∧Hf l tl ([]:List ((Int×Int)×Int)))∧(∀ m2:List ((Int×Int)×Int),(Hf l tl m2)→∃ (e6:Unit) (d60:(List Int)×(List ((Int×Int)×Int))×Int×Int),((True∧(JM l tl ((QZ .u64 (1:Int) (lI l))-(1:Int)).toNat (-1:Int))=(JM l tl ((QZ .u64 (1:Int) (lI l))-(1:Int)).toNat (-1:Int))∧True∧True∧True)∧((d60.1=[]∧(List.isEmpty d60.1)=true)∧(l=l∧tl=tl∧True∧(([]:List SV)=[]))∧(m2=d60.2.1)∧(((QZ .u64 (1:Int) (lI l))-(1:Int))=d60.2.2.1∧(-1:Int)=d60.2.2.2∧(([]:List SV)=[]))∧True)) ∧
   LoopP (fun (d6:(List Int)×(List ((Int×Int)×Int))×Int×Int) (q6:((List Int)×(List ((Int×Int)×Int))×Int×Int)→Prop) =>
    ((d6.2.2.1 != (0:Int))=true →
     (0≤d6.2.2.1∧d6.2.2.1≤1048576)∧∃ (e9:(List Int)×Int×Int×(List Int)×Int) (d90:(List ((Int×Int)×Int))×Int),((True∧(JM l tl ((QZ .u64 (1:Int) (lI l))-(1:Int)).toNat (-1:Int))=(JM l tl ((QZ .u64 (1:Int) (lI l))-(1:Int)).toNat (-1:Int))∧True∧True∧True∧(lI (Q4 d6.2.2.1.toNat))=e9.2.2.2.2∧(0:Int)=d90.2∧True)∧((d6.1=e9.1∧(List.isEmpty d6.1)=(List.isEmpty e9.1))∧(l=l∧tl=tl∧True∧(([]:List SV)=[]))∧(d6.2.1=d90.1)∧(d6.2.2.1=e9.2.1∧d6.2.2.2=e9.2.2.1∧(([]:List SV)=[]))∧((Q4 d6.2.2.1.toNat)=e9.2.2.2.1∧(Q4 d6.2.2.1.toNat).isEmpty=(List.isEmpty e9.2.2.2.1))∧True)) ∧
     LoopP (fun (d9:(List ((Int×Int)×Int))×Int) (q9:((List ((Int×Int)×Int))×Int)→Prop) =>
      ((decide (d9.2<e9.2.2.2.2))=true →
       (0≤d9.2)∧(d9.2<(List.length e9.2.2.2.1))∧(0≤(gD e9.2.2.2.1 d9.2 0))∧(InK .u64 (QZ .u64 (1:Int) (gD e9.2.2.2.1 d9.2 0)))∧(l.length≤12∧(∀ y∈l,Qw y=true)∧e9.2.2.1<l.length∧0≤(gD e9.2.2.2.1 d9.2 0)∧(gD e9.2.2.2.1 d9.2 0)<l.length)∧(l.length≤12∧(∀ y∈l,Qw y=true)∧0≤(Jb .andNot .u64 e9.2.1 (QZ .u64 (1:Int) (gD e9.2.2.2.1 d9.2 0)))∧(Jb .andNot .u64 e9.2.1 (QZ .u64 (1:Int) (gD e9.2.2.2.1 d9.2 0)))<2 ^ l.length∧-1≤(gD e9.2.2.2.1 d9.2 0)∧(gD e9.2.2.2.1 d9.2 0)<l.length∧Hf l tl d9.1)∧(∀ qy:List ((Int×Int)×Int),(Hf l tl qy)→(I64 ((Zt l tl e9.2.2.1 (gD e9.2.2.2.1 d9.2 0))+(JM l tl (Jb .andNot .u64 e9.2.1 (QZ .u64 (1:Int) (gD e9.2.2.2.1 d9.2 0))).toNat (gD e9.2.2.2.1 d9.2 0))))∧(l.length≤12∧(∀ y∈l,Qw y=true)∧0≤e9.2.1∧e9.2.1<2 ^ l.length∧-1≤e9.2.2.1∧e9.2.2.1<l.length∧Hf l tl qy)∧(∀ mh:List ((Int×Int)×Int),(Hf l tl mh)→((((Zt l tl e9.2.2.1 (gD e9.2.2.2.1 d9.2 0))+(JM l tl (Jb .andNot .u64 e9.2.1 (QZ .u64 (1:Int) (gD e9.2.2.2.1 d9.2 0))).toNat (gD e9.2.2.2.1 d9.2 0)))==(JM l tl e9.2.1.toNat e9.2.2.1))=true →
        (((List.length e9.1)+(List.length [(gD e9.2.2.2.1 d9.2 0)]))*8≤70368744177664)∧(∃ d12:(List Int)×(List ((Int×Int)×Int))×Int×Int,((True∧(JM l tl ((QZ .u64 (1:Int) (lI l))-(1:Int)).toNat (-1:Int))=(JM l tl ((QZ .u64 (1:Int) (lI l))-(1:Int)).toNat (-1:Int))∧True∧True∧True)∧(((e9.1++[(gD e9.2.2.2.1 d9.2 0)])=d12.1∧false=(List.isEmpty d12.1))∧(l=l∧tl=tl∧True∧(([]:List SV)=[]))∧(mh=d12.2.1)∧((Jb .andNot .u64 e9.2.1 (QZ .u64 (1:Int) (gD e9.2.2.2.1 d9.2 0)))=d12.2.2.1∧(gD e9.2.2.2.1 d9.2 0)=d12.2.2.2∧(([]:List SV)=[]))∧True))∧q6 d12)) ∧
       ((((Zt l tl e9.2.2.1 (gD e9.2.2.2.1 d9.2 0))+(JM l tl (Jb .andNot .u64 e9.2.1 (QZ .u64 (1:Int) (gD e9.2.2.2.1 d9.2 0))).toNat (gD e9.2.2.2.1 d9.2 0)))==(JM l tl e9.2.1.toNat e9.2.2.1))=false →
        (I64 (d9.2+(1:Int)))∧(∃ d13:(List ((Int×Int)×Int))×Int,((True∧(JM l tl ((QZ .u64 (1:Int) (lI l))-(1:Int)).toNat (-1:Int))=(JM l tl ((QZ .u64 (1:Int) (lI l))-(1:Int)).toNat (-1:Int))∧True∧True∧True∧e9.2.2.2.2=e9.2.2.2.2∧(d9.2+(1:Int))=d13.2∧True)∧((e9.1=e9.1∧(List.isEmpty e9.1)=(List.isEmpty e9.1))∧(l=l∧tl=tl∧True∧(([]:List SV)=[]))∧(mh=d13.1)∧(e9.2.1=e9.2.1∧e9.2.2.1=e9.2.2.1∧(([]:List SV)=[]))∧(e9.2.2.2.1=e9.2.2.2.1∧(List.isEmpty e9.2.2.2.1)=(List.isEmpty e9.2.2.2.1))∧True))∧q9 d13))))) ∧
      ((decide (d9.2<e9.2.2.2.2))=false →
       (∃ d14:(List Int)×(List ((Int×Int)×Int))×Int×Int,((True∧(JM l tl ((QZ .u64 (1:Int) (lI l))-(1:Int)).toNat (-1:Int))=(JM l tl ((QZ .u64 (1:Int) (lI l))-(1:Int)).toNat (-1:Int))∧True∧True∧True)∧((e9.1=d14.1∧(List.isEmpty e9.1)=(List.isEmpty d14.1))∧(l=l∧tl=tl∧True∧(([]:List SV)=[]))∧(d9.1=d14.2.1)∧(e9.2.1=d14.2.2.1∧e9.2.2.1=d14.2.2.2∧(([]:List SV)=[]))∧True))∧q6 d14))) d90) ∧
    ((d6.2.2.1 != (0:Int))=false →
     ((True∧(JM l tl ((QZ .u64 (1:Int) (lI l))-(1:Int)).toNat (-1:Int))=(Wt l tl)∧(0:Int)=(Qk l tl)∧(([]:List SV)=[]))∧((d6.1=(JF l tl)∧(List.isEmpty d6.1)=(JF l tl).isEmpty)∧True)))) d60))) ∧
 ((((Qj l)==(0:Int))&&(!(!([tl].any fun n=>decide (n<(0:Int))||decide ((1000:Int)<n)))))=false →
  w1=w1∧(((Qj l) != (0:Int))=true →
   ((True∧(0:Int)=(Wt l tl)∧(Qj l)=(Qk l tl)∧(([]:List SV)=[]))∧(((JF l tl)=[]∧(JF l tl).isEmpty=true)∧True))) ∧
  (((Qj l) != (0:Int))=false →
   (0≤(lI l))∧(InK .u64 (QZ .u64 (1:Int) (lI l)))∧(InK .u64 ((QZ .u64 (1:Int) (lI l))-(1:Int)))∧(l.length≤12∧(∀ y∈l,Qw y=true)∧0≤((QZ .u64 (1:Int) (lI l))-(1:Int))∧((QZ .u64 (1:Int) (lI l))-(1:Int))<2 ^ l.length∧-1≤(-1:Int)∧(-1:Int)<l.length∧Hf l tl ([]:List ((Int×Int)×Int)))∧(∀ rG:List ((Int×Int)×Int),(Hf l tl rG)→∃ (uT:Unit) (gy:(List Int)×(List ((Int×Int)×Int))×Int×Int),((True∧(JM l tl ((QZ .u64 (1:Int) (lI l))-(1:Int)).toNat (-1:Int))=(JM l tl ((QZ .u64 (1:Int) (lI l))-(1:Int)).toNat (-1:Int))∧True∧True∧True)∧((gy.1=[]∧(List.isEmpty gy.1)=true)∧(l=l∧tl=tl∧True∧(([]:List SV)=[]))∧(rG=gy.2.1)∧(((QZ .u64 (1:Int) (lI l))-(1:Int))=gy.2.2.1∧(-1:Int)=gy.2.2.2∧(([]:List SV)=[]))∧True)) ∧
   LoopP (fun (d19:(List Int)×(List ((Int×Int)×Int))×Int×Int) (rH:((List Int)×(List ((Int×Int)×Int))×Int×Int)→Prop) =>
    ((d19.2.2.1 != (0:Int))=true →
     (0≤d19.2.2.1∧d19.2.2.1≤1048576)∧∃ (aS:(List Int)×Int×Int×(List Int)×Int) (lN:(List ((Int×Int)×Int))×Int),((True∧(JM l tl ((QZ .u64 (1:Int) (lI l))-(1:Int)).toNat (-1:Int))=(JM l tl ((QZ .u64 (1:Int) (lI l))-(1:Int)).toNat (-1:Int))∧True∧True∧True∧(lI (Q4 d19.2.2.1.toNat))=aS.2.2.2.2∧(0:Int)=lN.2∧True)∧((d19.1=aS.1∧(List.isEmpty d19.1)=(List.isEmpty aS.1))∧(l=l∧tl=tl∧True∧(([]:List SV)=[]))∧(d19.2.1=lN.1)∧(d19.2.2.1=aS.2.1∧d19.2.2.2=aS.2.2.1∧(([]:List SV)=[]))∧((Q4 d19.2.2.1.toNat)=aS.2.2.2.1∧(Q4 d19.2.2.1.toNat).isEmpty=(List.isEmpty aS.2.2.2.1))∧True)) ∧
     LoopP (fun (d22:(List ((Int×Int)×Int))×Int) (ur:((List ((Int×Int)×Int))×Int)→Prop) =>
      ((decide (d22.2<aS.2.2.2.2))=true →
       (0≤d22.2)∧(d22.2<(List.length aS.2.2.2.1))∧(0≤(gD aS.2.2.2.1 d22.2 0))∧(InK .u64 (QZ .u64 (1:Int) (gD aS.2.2.2.1 d22.2 0)))∧(l.length≤12∧(∀ y∈l,Qw y=true)∧aS.2.2.1<l.length∧0≤(gD aS.2.2.2.1 d22.2 0)∧(gD aS.2.2.2.1 d22.2 0)<l.length)∧(l.length≤12∧(∀ y∈l,Qw y=true)∧0≤(Jb .andNot .u64 aS.2.1 (QZ .u64 (1:Int) (gD aS.2.2.2.1 d22.2 0)))∧(Jb .andNot .u64 aS.2.1 (QZ .u64 (1:Int) (gD aS.2.2.2.1 d22.2 0)))<2 ^ l.length∧-1≤(gD aS.2.2.2.1 d22.2 0)∧(gD aS.2.2.2.1 d22.2 0)<l.length∧Hf l tl d22.1)∧(∀ rI:List ((Int×Int)×Int),(Hf l tl rI)→(I64 ((Zt l tl aS.2.2.1 (gD aS.2.2.2.1 d22.2 0))+(JM l tl (Jb .andNot .u64 aS.2.1 (QZ .u64 (1:Int) (gD aS.2.2.2.1 d22.2 0))).toNat (gD aS.2.2.2.1 d22.2 0))))∧(l.length≤12∧(∀ y∈l,Qw y=true)∧0≤aS.2.1∧aS.2.1<2 ^ l.length∧-1≤aS.2.2.1∧aS.2.2.1<l.length∧Hf l tl rI)∧(∀ qz:List ((Int×Int)×Int),(Hf l tl qz)→((((Zt l tl aS.2.2.1 (gD aS.2.2.2.1 d22.2 0))+(JM l tl (Jb .andNot .u64 aS.2.1 (QZ .u64 (1:Int) (gD aS.2.2.2.1 d22.2 0))).toNat (gD aS.2.2.2.1 d22.2 0)))==(JM l tl aS.2.1.toNat aS.2.2.1))=true →
        (((List.length aS.1)+(List.length [(gD aS.2.2.2.1 d22.2 0)]))*8≤70368744177664)∧(∃ d25:(List Int)×(List ((Int×Int)×Int))×Int×Int,((True∧(JM l tl ((QZ .u64 (1:Int) (lI l))-(1:Int)).toNat (-1:Int))=(JM l tl ((QZ .u64 (1:Int) (lI l))-(1:Int)).toNat (-1:Int))∧True∧True∧True)∧(((aS.1++[(gD aS.2.2.2.1 d22.2 0)])=d25.1∧false=(List.isEmpty d25.1))∧(l=l∧tl=tl∧True∧(([]:List SV)=[]))∧(qz=d25.2.1)∧((Jb .andNot .u64 aS.2.1 (QZ .u64 (1:Int) (gD aS.2.2.2.1 d22.2 0)))=d25.2.2.1∧(gD aS.2.2.2.1 d22.2 0)=d25.2.2.2∧(([]:List SV)=[]))∧True))∧rH d25)) ∧
       ((((Zt l tl aS.2.2.1 (gD aS.2.2.2.1 d22.2 0))+(JM l tl (Jb .andNot .u64 aS.2.1 (QZ .u64 (1:Int) (gD aS.2.2.2.1 d22.2 0))).toNat (gD aS.2.2.2.1 d22.2 0)))==(JM l tl aS.2.1.toNat aS.2.2.1))=false →
        (I64 (d22.2+(1:Int)))∧(∃ d26:(List ((Int×Int)×Int))×Int,((True∧(JM l tl ((QZ .u64 (1:Int) (lI l))-(1:Int)).toNat (-1:Int))=(JM l tl ((QZ .u64 (1:Int) (lI l))-(1:Int)).toNat (-1:Int))∧True∧True∧True∧aS.2.2.2.2=aS.2.2.2.2∧(d22.2+(1:Int))=d26.2∧True)∧((aS.1=aS.1∧(List.isEmpty aS.1)=(List.isEmpty aS.1))∧(l=l∧tl=tl∧True∧(([]:List SV)=[]))∧(qz=d26.1)∧(aS.2.1=aS.2.1∧aS.2.2.1=aS.2.2.1∧(([]:List SV)=[]))∧(aS.2.2.2.1=aS.2.2.2.1∧(List.isEmpty aS.2.2.2.1)=(List.isEmpty aS.2.2.2.1))∧True))∧ur d26))))) ∧
      ((decide (d22.2<aS.2.2.2.2))=false →
       (∃ d27:(List Int)×(List ((Int×Int)×Int))×Int×Int,((True∧(JM l tl ((QZ .u64 (1:Int) (lI l))-(1:Int)).toNat (-1:Int))=(JM l tl ((QZ .u64 (1:Int) (lI l))-(1:Int)).toNat (-1:Int))∧True∧True∧True)∧((aS.1=d27.1∧(List.isEmpty aS.1)=(List.isEmpty d27.1))∧(l=l∧tl=tl∧True∧(([]:List SV)=[]))∧(d22.1=d27.2.1)∧(aS.2.1=d27.2.2.1∧aS.2.2.1=d27.2.2.2∧(([]:List SV)=[]))∧True))∧rH d27))) lN) ∧
    ((d19.2.2.1 != (0:Int))=false →
     ((True∧(JM l tl ((QZ .u64 (1:Int) (lI l))-(1:Int)).toNat (-1:Int))=(Wt l tl)∧(0:Int)=(Qk l tl)∧(([]:List SV)=[]))∧((d19.1=(JF l tl)∧(List.isEmpty d19.1)=(JF l tl).isEmpty)∧True)))) gy)))
def H5:Cx:=⟨[(3,(.i .i64)),(1000023,(.pair (.pair (.i .u64) (.i .i64)) (.i .i64)))],[(69,Xt),(61,Zn),(56,Z8),(57,X0)],73,[],0,[(51,Vz),(55,XG)],[],[],[],false,[],[],[],[(55,2)]⟩
def Cv (l:List (Int×(Int×Int)×Int)) (tl:Int):List (Nat×LoopAnn):=[(0,⟨Unit,(List Int)×(List ((Int×Int)×Int))×Int×Int,[4,5,8,9],fun e x=>[.lst 68,.val (.i .i64) (JM l tl ((QZ .u64 (1:Int) (((List.length l):Nat):Int))-(1:Int)).toNat (-1:Int)),.box 25 0,.box 9 0],fun e x=>[(68,.slot 4,.lst 3 (.i .i64) x.1 (List.isEmpty x.1)),(25,.slot 8,.cells [.val (.list (.pair (.i .i64) (.pair (.pair (.i .i64) (.i .i64)) (.i .i64)))) l,.val (.i .i64) tl,.map 23] (some 112)),(23,.cell 25 2,.map (.pair (.i .u64) (.i .i64)) (.i .i64) x.2.1),(9,.slot 9,.cells [.val (.i .u64) x.2.2.1,.val (.i .i64) x.2.2.2] (some 115))]⟩),
 (2,⟨(List Int)×Int×Int×(List Int)×Int,(List ((Int×Int)×Int))×Int,[4,5,8,9,39,40,41],fun e x=>[.lst 68,.val (.i .i64) (JM l tl ((QZ .u64 (1:Int) (((List.length l):Nat):Int))-(1:Int)).toNat (-1:Int)),.box 25 0,.box 9 0,.lst 39,.val (.i .i64) e.2.2.2.2,.val (.i .i64) x.2],fun e x=>[(68,.slot 4,.lst 3 (.i .i64) e.1 (List.isEmpty e.1)),(25,.slot 8,.cells [.val (.list (.pair (.i .i64) (.pair (.pair (.i .i64) (.i .i64)) (.i .i64)))) l,.val (.i .i64) tl,.map 23] (some 112)),(23,.cell 25 2,.map (.pair (.i .u64) (.i .i64)) (.i .i64) x.1),(9,.slot 9,.cells [.val (.i .u64) e.2.1,.val (.i .i64) e.2.2.1] (some 115)),(39,.slot 39,.lst 3 (.i .i64) e.2.2.2.1 (List.isEmpty e.2.2.2.1))]⟩)]
set_option maxRecDepth 100000 in
theorem LQ (d:(List (Int×(Int×Int)×Int))×Int):gwp (H5) (Cv d.1 d.2) c27 0 (VT [.tmp 4,.tmp 5,.tmp 6] (DD d) (Bl d)) (Qt 73 (AL.can Hk d))=VR d.1 d.2:=by kernel_rfl
abbrev LZ:Prop:=OkC Tryz.prog 27 GC
theorem Lx (h:∀ (l:List (Int×(Int×Int)×Int)) (tl:Int),(l.length≤1000)→VR l tl):OkC Tryz.prog 27 GC :=
 Z7 Q6j mixed (C:=H5) (V:=fun (d:(List (Int×(Int×Int)×Int))×Int)=>VR d.1 d.2) ⟨(.cons Yn (.cons Jl (.cons ZP (.cons V1 .nil)))),(XsOk.cons U2 (XsOk.cons Y5.1 XsOk.nil)),ItsOk.nil,YlOk.nil,IysOk.nil,(XfOk.cons rfl Y5.2 XfOk.nil)⟩ (LQ) fun d hp=>h d.1 d.2 hp
end Go.Proofs.Tryz
set_option linter.unusedVariables false
namespace Go.Proofs.Tryz
open Go Go.V Go.Proofs
theorem L7 {l:List Lot}{tl:Int}(hl:l.length≤12) (af:∀ y∈l,Qw y=true) (ho:Qk l tl=0):Wt l tl=JM l tl (2 ^ l.length-1) (-1)∧JF l tl=GM l tl (2 ^ l.length-1) (-1):=by unfold Wt JF;rw[if_pos ho,if_pos ho];exact⟨rfl,rfl⟩
theorem C7:LZ:=Lx fun l tl h=>by
 unfold VR;(try delta lI gD sT I64);intro vals;have e:∀ n a b:Int,(decide (n<a)||decide (b<n))=!inI n a b:=fun n a b=>(nI n a b).symm;simp only[List.any_cons,List.any_nil,Bool.or_false,e,Bool.not_not,List.length_cons,List.length_nil,true_and,and_true];refine⟨h,fun _=>trivial,fun _=>by omega,fun hx=>⟨fun _=>?_,(fun c=>by cases c)⟩,fun hx=>⟨fun a=>?_,fun a=>?_⟩⟩
 ·simp only[Bool.and_eq_true,beq_iff_eq,Bool.not_eq_true'] at hx;have o:Qk l tl=3:=by unfold Qk;rw[if_neg (by omega),hx.2];rfl
  unfold Wt JF;rw[o];exact(by and_intros<;>first|rfl|trivial|simp)
 ·have a:Qj l≠0:=by simpa using a
  have o:Qk l tl=Qj l:=by unfold Qk;rw[if_pos a]
  unfold Wt JF;rw[o,if_neg a,if_neg a];exact(by and_intros<;>first|rfl|trivial|simp)
 ·have a:Qj l=0:=by simpa using a
  have o:Qk l tl=0:=by unfold Qk;rw[if_neg (by omega),if_neg];intro h2;rw[a,h2] at hx;cases hx
  obtain⟨h1,h2⟩:=NY a;obtain⟨q1,q2⟩:=L7 h1 h2 o;rw[o,q1,q2];have dI:(2:Int) ^ l.length=((2 ^ l.length:Nat):Int):=by simp
  have qx:=Yr h1;have oN:=Nat.two_pow_pos l.length;have cT:QZ .u64 1 (l.length:Int)=((2 ^ l.length:Nat):Int):=KR (by omega) (by omega);have eN:((2 ^ l.length:Nat):Int)-1=((2 ^ l.length-1:Nat):Int):=by omega
  have jy:∀ i:Int,0≤i→i≤12→InK .u64 (QZ .u64 1 i):=fun i a b=>by
   rw[KR a (by omega)];have:=Yr (n:=i.toNat) (by omega);simp only[XE];generalize 2 ^ i.toNat=z at *
   omega
  simp only[cT,eN,dI,Int.toNat_natCast];refine⟨by omega,by simp only[XE];omega,by simp only[XE];omega,⟨h1,h2,by omega,by omega,by omega,by omega,Q2k l tl⟩,fun m1 jk=>⟨(),([],m1,((2 ^ l.length-1:Nat):Int),-1),(by and_intros<;>first|rfl|trivial),?_⟩⟩;have hlen:(GM l tl (2 ^ l.length-1) (-1)).length=(Q4 (2 ^ l.length-1)).length:=by have hs:=ZO (n:=2 ^ l.length-1) (m:=l.length) (by omega) (by omega);exact(Te (N:=(l.length:Int)) (VI l tl) (Q4 (2 ^ l.length-1)).length (Q4 (2 ^ l.length-1)) (-1) rfl (by omega)).1.length_eq
  have hs:=ZO (n:=2 ^ l.length-1) (m:=l.length) (by omega) (by omega);refine⟨fun d=>∃ n:Nat,d.2.2.1=n∧n<2 ^ l.length∧-1≤d.2.2.2∧d.2.2.2<l.length∧Hf l tl d.2.1∧d.1++GM l tl n d.2.2.2=GM l tl (2 ^ l.length-1) (-1),fun d=>d.2.2.1.toNat,⟨2 ^ l.length-1,rfl,by omega,by dsimp only;omega,by dsimp only;omega,jk,rfl⟩,?_⟩;rintro⟨r,m2,n',la⟩ ⟨n,e1,e2,e3,e4,e5,e6⟩;dsimp only at e1 e3 e4 e5 e6 ⊢;subst e1;simp only[Int.toNat_natCast];refine⟨fun g=>?_,fun g=>?_⟩
  ·have g:0<n:=by
    have:n≠0:=by simpa using g
    omega
   have eL:n<2 ^ 64:=Nat.lt_of_lt_of_le e2 (Nat.pow_le_pow_right (by omega) (by omega));have iP:=ZO e2 (by omega);have aE:=NL e2 (by omega);have rh:=Pr (tl:=tl) la h1 e2;obtain⟨⟨ie,qA,e_⟩,dh⟩:=Iq (tl:=tl) la h1 e2 g;have dO:r.length≤12:=by have:=congrArg List.length e6;rw[List.length_append,hlen] at this;omega
   refine⟨⟨by omega,by omega⟩,(r,(n:Int),la,Q4 n,((Q4 n).length:Int)),(m2,0),(by and_intros<;>first|rfl|trivial),?_⟩;dsimp only;simp only[Int.toNat_natCast];refine⟨fun d=>∃ k:Nat,d.2=k∧k≤(Q4 n).length∧Hf l tl d.1∧∀ j,j<k→Zt l tl la ((Q4 n).getD j 0)+JM l tl (B7 n ((Q4 n).getD j 0).toNat) ((Q4 n).getD j 0)≠JM l tl n la,fun d=>(Q4 n).length-d.2.toNat,⟨0,rfl,by omega,e5,fun j hj=>by omega⟩,?_⟩;rintro⟨m3,k'⟩ ⟨k,f1,f2,f3,f4⟩;dsimp only at f1 f3 f4 ⊢;subst f1;simp only[Int.toNat_natCast];refine⟨fun g2=>?_,fun g2=>?_⟩
   ·have g2:k<(Q4 n).length:=by have:=of_decide_eq_true g2;omega
    have hx:(Q4 n).getD k 0=(Q4 n)[k]:=Qa g2;have jL:(Q4 n).getD k 0∈Q4 n:=by rw[hx];exact List.getElem_mem g2
    have bH:=aE _ jL;have lZ:=dh k g2 f4;have cN:Zt l tl la ((Q4 n).getD k 0)+JM l tl (B7 n ((Q4 n).getD k 0).toNat) ((Q4 n).getD k 0)≠JM l tl n la→∀ j,j<k+1→Zt l tl la ((Q4 n).getD j 0)+JM l tl (B7 n ((Q4 n).getD j 0).toNat) ((Q4 n).getD j 0)≠JM l tl n la:=fun aA j hj=>by
     by_cases e:j=k
     ·subst e;exact aA
     ·exact f4 j (by omega)
    generalize (Q4 n).getD k 0=x at jL bH lZ cN;have cy:=Ow eL jL;have lM:Jb .andNot .u64 (n:Int) (QZ .u64 1 x)=((B7 n x.toNat:Nat):Int):=by rw[KR bH.1 (by omega)];exact EH eL (by omega)
    rw[lM];simp only[Int.toNat_natCast];have jX:=VI l tl la x;have hr:=Pr (tl:=tl) x h1 (show B7 n x.toNat<2 ^ l.length by omega);refine⟨by omega,by omega,bH.1,jy x bH.1 (by omega),⟨h1,h2,e4,bH.1,bH.2⟩,⟨h1,h2,by omega,by omega,by omega,bH.2,f3⟩,fun qy qB=>⟨by simp only[Z3];omega,⟨h1,h2,by omega,by omega,e3,e4,qB⟩,fun mh ob=>⟨fun c=>?_,fun c=>?_⟩⟩⟩
    ·have c:=of_decide_eq_true c;refine⟨by omega,(r++[x],mh,((B7 n x.toNat:Nat):Int),x),(by and_intros<;>first|rfl|trivial|simp),⟨B7 n x.toNat,rfl,by omega,by dsimp only;omega,bH.2,ob,?_⟩,by dsimp only;omega⟩;dsimp only;rw[←e6,lZ c,List.append_assoc];rfl
    ·have c:Zt l tl la x+JM l tl (B7 n x.toNat) x≠JM l tl n la:=by simpa using c
     refine⟨by simp only[Z3];omega,(mh,(k:Int)+1),(by and_intros<;>first|rfl|trivial|simp),⟨k+1,by simp,by omega,ob,cN c⟩,by dsimp only;omega⟩
   ·exfalso;have hk:k=(Q4 n).length:=by have:=of_decide_eq_false g2;omega
    obtain⟨j,hj,rfl⟩:=List.getElem_of_mem qA;have:=f4 j (by omega);rw[Qa hj] at this;exact this e_
  ·have g:n=0:=by simpa using g
   subst g;rw[(Q0f l tl la).2,List.append_nil] at e6;rw[e6];exact(by and_intros<;>first|rfl|trivial|simp)
end Go.Proofs.Tryz
set_option linter.unusedVariables false
namespace Go.Proofs.Tryz
open Go Go.V Go.Proofs
def Vg:AL ((List (Int×(Int×Int)×Int))×Int):=(.one (.agg (.cons (.k (.list (.pair (.i .i64) (.pair (.pair (.i .i64) (.i .i64)) (.i .i64))))) (.one (.k (.i .i64))))))
def G9 (d:(List (Int×(Int×Int)×Int))×Int):Prop:=d.1.length≤12∧(∀ y∈d.1,Qw y=true)
def K2 (d:(List (Int×(Int×Int)×Int))×Int):SV:=.val .bo (XN d.1 d.2)
def K5 (d:(List (Int×(Int×Int)×Int))×Int):List OB:=[]
def WA:CSp:=YO Vg G9 K2 K5
def JL (l:List (Int×(Int×Int)×Int)) (tl:Int):Prop :=
 ∃ (e3:Unit) (d30:Int),((True∧(lI l)=(lI l)∧(0:Int)=d30∧True)∧((l=l∧tl=tl∧(([]:List SV)=[]))∧True)) ∧
 LoopP (fun (d3:Int) (q3:(Int)→Prop) =>
  ((decide (d3<(lI l)))=true →
   (0≤d3)∧(InK .u64 (QZ .u64 (1:Int) d3))∧(l.length≤12∧(∀ y∈l,Qw y=true)∧0<(QZ .u64 (1:Int) d3)∧(QZ .u64 (1:Int) d3)<2 ^ l.length)∧((!(JE l tl (Q4 (QZ .u64 (1:Int) d3).toNat)))=true →
    (false=(XN l tl)∧(True))) ∧
   ((!(JE l tl (Q4 (QZ .u64 (1:Int) d3).toNat)))=false →
    (I64 (d3+(1:Int)))∧(∃ d4:Int,((True∧(lI l)=(lI l)∧(d3+(1:Int))=d4∧True)∧((l=l∧tl=tl∧(([]:List SV)=[]))∧True))∧q3 d4))) ∧
  ((decide (d3<(lI l)))=false →
   (true=(XN l tl)∧(True)))) d30
def KZ:Cx:=⟨[],[(79,Z1)],16,[],0,[],[],[],[],false,[],[],[],[]⟩
def GZ (l:List (Int×(Int×Int)×Int)) (tl:Int):List (Nat×LoopAnn):=[(0,⟨Unit,Int,[1,6,7],fun e x=>[.box 1 0,.val (.i .i64) (((List.length l):Nat):Int),.val (.i .i64) x],fun e x=>[(1,.slot 1,.cells [.val (.list (.pair (.i .i64) (.pair (.pair (.i .i64) (.i .i64)) (.i .i64)))) l,.val (.i .i64) tl] (some 105))]⟩)]
set_option maxRecDepth 100000 in
theorem GY (d:(List (Int×(Int×Int)×Int))×Int):gwp (KZ) (GZ d.1 d.2) c76 0 (VT [.tmp 2] (K2 d) (K5 d)) (Qt 16 (AL.can Vg d))=JL d.1 d.2:=by kernel_rfl
abbrev D2:Prop:=OkC Tryz.prog 76 WA
theorem D8 (h:∀ (l:List (Int×(Int×Int)×Int)) (tl:Int),(l.length≤12∧(∀ y∈l,Qw y=true))→JL l tl):OkC Tryz.prog 76 WA :=
 Z7 Q8f mixed (C:=KZ) (V:=fun (d:(List (Int×(Int×Int)×Int))×Int)=>JL d.1 d.2) ⟨(.cons Jg .nil),XsOk.nil,ItsOk.nil,YlOk.nil,IysOk.nil,XfOk.nil⟩ (GY) fun d hp=>h d.1 d.2 hp
theorem D3:D2:=D8 fun l tl h=>by
 obtain⟨h1,h2⟩:=h;unfold JL;(try delta lI gD sT I64);refine⟨(),0,(by and_intros<;>first|rfl|trivial|simp),?_⟩;refine LoopP.count l.length (fun k=>∀ j,j<k→JE l tl (Q4 (2 ^ j))=true) (fun j hj=>by omega) ?_;rintro k hk hJ q hq;refine⟨fun c=>?_,fun c=>?_⟩
 ·have c:k<l.length:=by simp at c;omega
  have cT:QZ .u64 1 (k:Int)=((2 ^ k:Nat):Int):=KR (by omega) (by omega);have hp:=Yr (n:=k) (by omega);have oN:=Nat.two_pow_pos k;have ai:2 ^ k<2 ^ l.length:=Nat.pow_lt_pow_right (by omega) c;have dI:(2:Int) ^ l.length=((2 ^ l.length:Nat):Int):=by simp
  simp only[cT,Int.toNat_natCast,dI];refine⟨by omega,by simp only[XE];omega,⟨h1,h2,by omega,by omega⟩,fun c2=>?_,fun c2=>?_⟩
  ·have c2:JE l tl (Q4 (2 ^ k))=false:=by simpa using c2
   have:XN l tl=false:=by
    cases he:XN l tl with
    |false=>rfl
    |true=>rw[List.all_eq_true.1 he k (List.mem_range.2 c)] at c2;cases c2
   rw[this];exact(by and_intros<;>first|rfl|trivial|simp)
  ·have c2:JE l tl (Q4 (2 ^ k))=true:=by simpa using c2
   refine⟨by simp only[Z3];omega,(k:Int)+1,(by and_intros<;>first|rfl|trivial|simp),hq c fun j hj=>?_⟩;by_cases e:j=k
   ·subst e;exact c2
   ·exact hJ j (by omega)
 ·have:XN l tl=true:=List.all_eq_true.2 fun j hj=>hJ j (by have:=List.mem_range.1 hj;simp at c;omega);rw[this];exact(by and_intros<;>first|rfl|trivial|simp)
def Yv:AL ((List (Int×(Int×Int)×Int))×Int):=(.one (.agg (.cons (.k (.list (.pair (.i .i64) (.pair (.pair (.i .i64) (.i .i64)) (.i .i64))))) (.one (.k (.i .i64))))))
def Ny (d:(List (Int×(Int×Int)×Int))×Int):Prop:=d.1.length≤12∧(∀ y∈d.1,Qw y=true)∧XN d.1 d.2=true
def Y1 (d:(List (Int×(Int×Int)×Int))×Int):SV:=.tup [.lst 0,.lst 1]
def Y3 (d:(List (Int×(Int×Int)×Int))×Int):List OB:=[.lst 3 (.i .i64) (S2 d.1 d.2) ((S2 d.1 d.2).isEmpty),.lst 31 (.list (.i .i64)) (U3 d.1 d.2) ((U3 d.1 d.2).isEmpty)]
def G2:CSp:=YO Yv Ny Y1 Y3
def ZU (l:List (Int×(Int×Int)×Int)) (tl:Int):Prop :=
 (0≤(lI l))∧(InK .u64 (QZ .u64 (1:Int) (lI l)))∧(InK .u64 ((QZ .u64 (1:Int) (lI l))-(1:Int)))∧(0≤((QZ .u64 (1:Int) (lI l))-(1:Int))∧((QZ .u64 (1:Int) (lI l))-(1:Int))≤1048576)∧((Q4 ((QZ .u64 (1:Int) (lI l))-(1:Int)).toNat).length≤12∧(∀ x∈(Q4 ((QZ .u64 (1:Int) (lI l))-(1:Int)).toNat),∀ y∈(Q4 ((QZ .u64 (1:Int) (lI l))-(1:Int)).toNat),(fun (x1:Int×Int)=>l.length≤12∧(∀ y∈l,Qw y=true)∧0≤x1.1∧x1.1<l.length∧0≤x1.2∧x1.2<l.length) (x,y)))∧∃ (e4:Unit) (d40:(List Int)×(List (List Int))×(List Int)),((True∧True∧True∧True∧True)∧((l=l∧tl=tl∧(([]:List SV)=[]))∧(d40.1=[]∧(List.isEmpty d40.1)=true)∧(d40.2.1=[]∧(List.isEmpty d40.2.1)=true)∧((KU (fun (x1:Int×Int)=>(Q4u l (x1.1,x1.2))) (Q4 ((QZ .u64 (1:Int) (lI l))-(1:Int)).toNat) 0 (Q4 ((QZ .u64 (1:Int) (lI l))-(1:Int)).toNat).length)=d40.2.2∧(Q4 ((QZ .u64 (1:Int) (lI l))-(1:Int)).toNat).isEmpty=(List.isEmpty d40.2.2))∧True)) ∧
 LoopP (fun (d4:(List Int)×(List (List Int))×(List Int)) (q4:((List Int)×(List (List Int))×(List Int))→Prop) =>
  ((decide ((lI d4.2.2) > (0:Int)))=true →
   (0≤(0:Int))∧((0:Int)<(List.length d4.2.2))∧∃ (e9:(List Int)×(List (List Int))×Int×(List Int)×Int) (d90:(List Int)×(List Int)×Int),((True∧True∧True∧(gD d4.2.2 (0:Int) 0)=e9.2.2.1∧True∧True∧True∧(lI d4.2.2)=e9.2.2.2.2∧(0:Int)=d90.2.2∧True)∧((l=l∧tl=tl∧(([]:List SV)=[]))∧(d4.1=e9.1∧(List.isEmpty d4.1)=(List.isEmpty e9.1))∧(d4.2.1=e9.2.1∧(List.isEmpty d4.2.1)=(List.isEmpty e9.2.1))∧(d90.1=[]∧(List.isEmpty d90.1)=true)∧(d90.2.1=[]∧(List.isEmpty d90.2.1)=true)∧(d4.2.2=e9.2.2.2.1∧(List.isEmpty d4.2.2)=(List.isEmpty e9.2.2.2.1))∧True)) ∧
   LoopP (fun (d9:(List Int)×(List Int)×Int) (q9:((List Int)×(List Int)×Int)→Prop) =>
    ((decide (d9.2.2<e9.2.2.2.2))=true →
     (0≤d9.2.2)∧(d9.2.2<(List.length e9.2.2.2.1))∧(0≤e9.2.2.1)∧(InK .u64 (QZ .u64 (1:Int) e9.2.2.1))∧(0≤(gD e9.2.2.2.1 d9.2.2 0))∧(InK .u64 (QZ .u64 (1:Int) (gD e9.2.2.2.1 d9.2.2 0)))∧(l.length≤12∧(∀ y∈l,Qw y=true)∧0<(Jb .or .u64 (QZ .u64 (1:Int) e9.2.2.1) (QZ .u64 (1:Int) (gD e9.2.2.2.1 d9.2.2 0)))∧(Jb .or .u64 (QZ .u64 (1:Int) e9.2.2.1) (QZ .u64 (1:Int) (gD e9.2.2.2.1 d9.2.2 0)))<2 ^ l.length)∧((JE l tl (Q4 (Jb .or .u64 (QZ .u64 (1:Int) e9.2.2.1) (QZ .u64 (1:Int) (gD e9.2.2.2.1 d9.2.2 0))).toNat))=true →
      (((List.length d9.1)+(List.length [(gD e9.2.2.2.1 d9.2.2 0)]))*8≤70368744177664)∧(I64 (d9.2.2+(1:Int)))∧(∃ d10:(List Int)×(List Int)×Int,((True∧True∧True∧e9.2.2.1=e9.2.2.1∧True∧True∧True∧e9.2.2.2.2=e9.2.2.2.2∧(d9.2.2+(1:Int))=d10.2.2∧True)∧((l=l∧tl=tl∧(([]:List SV)=[]))∧(e9.1=e9.1∧(List.isEmpty e9.1)=(List.isEmpty e9.1))∧(e9.2.1=e9.2.1∧(List.isEmpty e9.2.1)=(List.isEmpty e9.2.1))∧((d9.1++[(gD e9.2.2.2.1 d9.2.2 0)])=d10.1∧false=(List.isEmpty d10.1))∧(d9.2.1=d10.2.1∧(List.isEmpty d9.2.1)=(List.isEmpty d10.2.1))∧(e9.2.2.2.1=e9.2.2.2.1∧(List.isEmpty e9.2.2.2.1)=(List.isEmpty e9.2.2.2.1))∧True))∧q9 d10)) ∧
     ((JE l tl (Q4 (Jb .or .u64 (QZ .u64 (1:Int) e9.2.2.1) (QZ .u64 (1:Int) (gD e9.2.2.2.1 d9.2.2 0))).toNat))=false →
      (((List.length d9.2.1)+(List.length [(gD e9.2.2.2.1 d9.2.2 0)]))*8≤70368744177664)∧(I64 (d9.2.2+(1:Int)))∧(∃ d11:(List Int)×(List Int)×Int,((True∧True∧True∧e9.2.2.1=e9.2.2.1∧True∧True∧True∧e9.2.2.2.2=e9.2.2.2.2∧(d9.2.2+(1:Int))=d11.2.2∧True)∧((l=l∧tl=tl∧(([]:List SV)=[]))∧(e9.1=e9.1∧(List.isEmpty e9.1)=(List.isEmpty e9.1))∧(e9.2.1=e9.2.1∧(List.isEmpty e9.2.1)=(List.isEmpty e9.2.1))∧(d9.1=d11.1∧(List.isEmpty d9.1)=(List.isEmpty d11.1))∧((d9.2.1++[(gD e9.2.2.2.1 d9.2.2 0)])=d11.2.1∧false=(List.isEmpty d11.2.1))∧(e9.2.2.2.1=e9.2.2.2.1∧(List.isEmpty e9.2.2.2.1)=(List.isEmpty e9.2.2.2.1))∧True))∧q9 d11))) ∧
    ((decide (d9.2.2<e9.2.2.2.2))=false →
     (d9.1.length≤12)∧(((List.length e9.1)+(List.length [e9.2.2.1]))*8≤70368744177664)∧(((List.length e9.2.1)+(List.length [(KU YP d9.1 0 d9.1.length)]))*24≤70368744177664)∧(∃ d12:(List Int)×(List (List Int))×(List Int),((True∧True∧True∧True∧True)∧((l=l∧tl=tl∧(([]:List SV)=[]))∧((e9.1++[e9.2.2.1])=d12.1∧false=(List.isEmpty d12.1))∧((e9.2.1++[(KU YP d9.1 0 d9.1.length)])=d12.2.1∧false=(List.isEmpty d12.2.1))∧(d9.2.1=d12.2.2∧(List.isEmpty d9.2.1)=(List.isEmpty d12.2.2))∧True))∧q4 d12))) d90) ∧
  ((decide ((lI d4.2.2) > (0:Int)))=false →
   (d4.1.length≤12)∧(d4.2.1.length≤12∧(∀ x∈d4.2.1,∀ y∈d4.2.1,(fun (x2:List Int×List Int)=>x2.1.length≤1000∧x2.2.length≤1000) (x,y)))∧((True∧True∧(([]:List SV)=[]))∧(((KU YP d4.1 0 d4.1.length)=(S2 l tl)∧(List.isEmpty d4.1)=(S2 l tl).isEmpty)∧((KU (fun (x2:List Int×List Int)=>(Nd x2.1 x2.2)) d4.2.1 0 d4.2.1.length)=(U3 l tl)∧(List.isEmpty d4.2.1)=(U3 l tl).isEmpty)∧True)))) d40
def Yz:Cx:=⟨[(3,(.i .i64)),(31,(.list (.i .i64)))],[(56,Z8),(95,ZD),(79,Z1),(82,QK)],64,[3,53,55,56,60,63],0,[(94,Z0),(96,Xn),(97,J4)],[],[(31,3)],[],false,[],[],[],[]⟩
def YB (l:List (Int×(Int×Int)×Int)) (tl:Int):List (Nat×LoopAnn):=[(0,⟨Unit,(List Int)×(List (List Int))×(List Int),[1,2,3,4],fun e x=>[.box 1 0,.lst 52,.lst 56,.lst 15],fun e x=>[(1,.slot 1,.cells [.val (.list (.pair (.i .i64) (.pair (.pair (.i .i64) (.i .i64)) (.i .i64)))) l,.val (.i .i64) tl] (some 105)),(52,.slot 2,.lst 3 (.i .i64) x.1 (List.isEmpty x.1)),(56,.slot 3,.lst 31 (.list (.i .i64)) x.2.1 (List.isEmpty x.2.1)),(15,.slot 4,.lst 3 (.i .i64) x.2.2 (List.isEmpty x.2.2))]⟩),
 (2,⟨(List Int)×(List (List Int))×Int×(List Int)×Int,(List Int)×(List Int)×Int,[1,2,3,5,6,7,25,26,27],fun e x=>[.box 1 0,.lst 52,.lst 56,.val (.i .i64) e.2.2.1,.lst 41,.lst 45,.lst 15,.val (.i .i64) e.2.2.2.2,.val (.i .i64) x.2.2],fun e x=>[(1,.slot 1,.cells [.val (.list (.pair (.i .i64) (.pair (.pair (.i .i64) (.i .i64)) (.i .i64)))) l,.val (.i .i64) tl] (some 105)),(52,.slot 2,.lst 3 (.i .i64) e.1 (List.isEmpty e.1)),(56,.slot 3,.lst 31 (.list (.i .i64)) e.2.1 (List.isEmpty e.2.1)),(41,.slot 6,.lst 3 (.i .i64) x.1 (List.isEmpty x.1)),(45,.slot 7,.lst 3 (.i .i64) x.2.1 (List.isEmpty x.2.1)),(15,.slot 25,.lst 3 (.i .i64) e.2.2.2.1 (List.isEmpty e.2.2.2.1))]⟩)]
set_option maxRecDepth 100000 in
theorem NU (d:(List (Int×(Int×Int)×Int))×Int):gwp (Yz) (YB d.1 d.2) c77 0 (VT [.tmp 2,.tmp 3] (Y1 d) (Y3 d)) (Qt 64 (AL.can Yv d))=ZU d.1 d.2:=by kernel_rfl
def XF:XSp:=callV Dt G2
abbrev NZ:Prop:=XOk Tryz.prog 77 XF
theorem Mz (h:∀ (l:List (Int×(Int×Int)×Int)) (tl:Int),(l.length≤12∧(∀ y∈l,Qw y=true)∧XN l tl=true)→ZU l tl):XOk Tryz.prog 77 XF :=
 SO Q7t mixed Vl (C:=Yz) ⟨(.cons ZP (.cons WR (.cons Jg (.cons J2 .nil)))),(XsOk.cons WU (XsOk.cons UW (XsOk.cons Vi XsOk.nil))),ItsOk.nil,YlOk.nil,IysOk.nil,XfOk.nil⟩ (L:=fun (d:(List (Int×(Int×Int)×Int))×Int)=>YB d.1 d.2) (V:=fun (d:(List (Int×(Int×Int)×Int))×Int)=>ZU d.1 d.2) (NU) fun d hp=>h d.1 d.2 hp
end Go.Proofs.Tryz
set_option linter.unusedVariables false
namespace Go.Proofs.Tryz
open Go Go.V Go.Proofs
theorem NB:NZ:=Mz fun l tl h=>by
 obtain⟨⟨h1,h2⟩,h3⟩:(l.length≤12∧∀ y∈l,Qw y=true)∧XN l tl=true:=⟨⟨h.1,h.2.1⟩,h.2.2⟩;unfold ZU;(try delta lI gD sT I64);have cU:=Yr h1;have oN:=Nat.two_pow_pos l.length;have cT:QZ .u64 1 (l.length:Int)=((2 ^ l.length:Nat):Int):=KR (by omega) (by omega);have eN:(((2 ^ l.length:Nat):Int)-1).toNat=2 ^ l.length-1:=by omega
 have dI:(2:Int) ^ l.length=((2 ^ l.length:Nat):Int):=by simp
 simp only[cT,eN,dI];have aE:∀ x∈Q4 (2 ^ l.length-1),0≤x∧x<l.length:=fun x hx=>NL (m:=l.length) (by omega) (by omega) x hx;have qA:(Q4 (2 ^ l.length-1)).isEmpty=(Ao l).isEmpty:=(Mo (JQ (Nat.le_refl _))).symm;have rJ:=CA h1 h3;have jy:∀ i:Int,0≤i→i≤12→InK .u64 (QZ .u64 1 i):=fun i a b=>by
  rw[KR a (by omega)];have:=Yr (n:=i.toNat) (by omega);simp only[XE];generalize 2 ^ i.toNat=z at *
  omega
 refine⟨by omega,by simp only[XE];omega,by simp only[XE];omega,⟨by omega,by omega⟩,⟨Nat.le_trans (ZO (m:=l.length) (by omega) (by omega)) h1,fun x hx y hy=>⟨h1,h2,(aE x hx).1,(aE x hx).2,(aE y hy).1,(aE y hy).2⟩⟩,(),([],[],Ao l),(by and_intros<;>first|rfl|trivial|exact qA|simp),?_⟩;refine⟨fun d=>(Sv l tl).1=d.1++(Vv (alC l tl) d.2.2.length d.2.2).1∧(Sv l tl).2=d.2.1++(Vv (alC l tl) d.2.2.length d.2.2).2∧(∀ i∈d.2.2,0≤i∧i<l.length)∧d.1.length+d.2.2.length≤12∧d.2.1.length=d.1.length∧∀ c∈d.2.1,c.length≤12,fun d=>d.2.2.length,⟨rfl,rfl,fun i hi=>(MJ h1).1 hi,by have:=(Pb h1).length_eq;simp at this ⊢;omega,rfl,(fun c hc=>by cases hc)⟩,?_⟩;rintro⟨H,C,left⟩ ⟨i1,i2,i3,i4,i5,i6⟩;dsimp only at i1 i2 i3 i4 i5 i6 ⊢;refine⟨fun c=>?_,fun c=>?_⟩
 ·cases left with
  |nil=>simp at c
  |cons h t =>
  have aH:=i3 h (List.mem_cons_self ..);have uu:alC l tl h h=true:=rJ h ((MJ h1).2 aH);refine⟨by omega,by simp,(H,C,h,h::t,((h::t).length:Int)),([],[],0),(by and_intros<;>first|rfl|trivial|simp),?_⟩;dsimp only;refine⟨fun d=>∃ k:Nat,d.2.2=k∧k≤(h::t).length∧d.1=((h::t).take k).filter (alC l tl h)∧d.2.1=((h::t).take k).filter (fun i=>!alC l tl h i),fun d=>(h::t).length-d.2.2.toNat,⟨0,rfl,by omega,rfl,rfl⟩,?_⟩;rintro⟨c1,r1,k'⟩ ⟨k,e1,e2,e3,e4⟩;dsimp only at e1 e3 e4 ⊢;subst e1;have fP:c1.length≤12:=by rw[e3];have:=List.length_filter_le (alC l tl h) ((h::t).take k);rw[List.length_take] at this;omega
  have eZ:r1.length≤12:=by rw[e4];have:=List.length_filter_le (fun i=>!alC l tl h i) ((h::t).take k);rw[List.length_take] at this;omega
  refine⟨fun g=>?_,fun g=>?_⟩
  ·have g:k<(h::t).length:=by simp at g ⊢;omega
   have hx:(h::t).getD k 0=(h::t)[k]:=Qa g;have bH:=i3 _ (List.getElem_mem g);have iQ:=ZV g;simp only[Int.toNat_natCast,hx];generalize (h::t)[k]=x at bH iQ;have hb:=EF (i:=h) (k:=x) (by omega) (by omega);have pg:0<2 ^ h.toNat ||| 2 ^ x.toNat:=Nat.lt_of_lt_of_le (Nat.two_pow_pos _) Nat.left_le_or
   have mn:2 ^ h.toNat ||| 2 ^ x.toNat<2 ^ l.length:=Nat.or_lt_two_pow (Nat.pow_lt_pow_right (by omega) (by omega)) (Nat.pow_lt_pow_right (by omega) (by omega))
   have uU:=Yr (n:=h.toNat) (by omega);have uV:=Yr (n:=x.toNat) (by omega);rw[hb];simp only[Int.toNat_natCast];have pG:JE l tl (Q4 (2 ^ h.toNat ||| 2 ^ x.toNat))=alC l tl h x:=rfl;rw[pG];refine⟨by omega,by omega,by omega,jy h (by omega) (by omega),by omega,jy x (by omega) (by omega),⟨h1,h2,by omega,by omega⟩,fun g2=>?_,fun g2=>?_⟩
   ·refine⟨by simp;omega,by simp only[Z3];omega,(c1++[x],r1,(k:Int)+1),(by and_intros<;>first|rfl|trivial|simp),⟨k+1,by simp,by omega,?_,?_⟩,by dsimp only;omega⟩
    ·dsimp only;rw[iQ,List.filter_append,e3,List.filter_cons,if_pos g2];rfl
    ·dsimp only;rw[iQ,List.filter_append,e4,List.filter_cons,if_neg (by simp[g2])];simp
   ·refine⟨by simp;omega,by simp only[Z3];omega,(c1,r1++[x],(k:Int)+1),(by and_intros<;>first|rfl|trivial|simp),⟨k+1,by simp,by omega,?_,?_⟩,by dsimp only;omega⟩
    ·dsimp only;rw[iQ,List.filter_append,e3,List.filter_cons,if_neg (by simp[g2])];simp
    ·dsimp only;rw[iQ,List.filter_append,e4,List.filter_cons,if_pos (by simp[g2])];rfl
  ·have hk:k=(h::t).length:=by simp at g ⊢;simp at e2;omega
   rw[hk,List.take_length] at e3 e4;have dO:r1.length≤t.length:=by rw[e4];exact Sb uu
   have uv:=RV (al:=alC l tl) t.length r1.length r1 (fun i hi=>by rw[e4] at hi;exact rJ i ((MJ h1).2 (i3 i (List.mem_filter.1 hi).1))) dO (Nat.le_refl _);have hP:Vv (alC l tl) (h::t).length (h::t)=(h::(Vv (alC l tl) r1.length r1).1,KU YP c1 0 c1.length::(Vv (alC l tl) r1.length r1).2):=by rw[←uv,e3,e4];rfl
   simp only[List.length_cons] at i4;refine⟨fP,by simp;omega,by simp;omega,(H++[h],C++[KU YP c1 0 c1.length],r1),(by and_intros<;>first|rfl|trivial|simp),⟨?_,?_,fun i hi=>?_,?_,?_,fun c hc=>?_⟩,?_⟩
   ·dsimp only;rw[i1,hP];simp
   ·dsimp only;rw[i2,hP];simp
   ·dsimp only at hi;rw[e4] at hi;exact i3 i (List.mem_filter.1 hi).1
   ·dsimp only;rw[List.length_append,List.length_singleton];omega
   ·dsimp only;rw[List.length_append,List.length_append,i5];rfl
   ·rcases List.mem_append.1 hc with hc|hc
    ·exact i6 c hc
    ·rw[List.mem_singleton.1 hc,(JQ (Nat.le_refl _)).length_eq];exact fP
   ·dsimp only;rw[List.length_cons];omega
 ·cases left with
  |cons h t=>simp at c
  |nil =>
  have j1:(Sv l tl).1=H:=by rw[i1];simp[Vv]
  have j2:(Sv l tl).2=C:=by rw[i2];simp[Vv]
  have k1:H.isEmpty=(S2 l tl).isEmpty:=by unfold S2;rw[j1];exact(Mo (JQ (Nat.le_refl _))).symm
  have k2:C.isEmpty=(U3 l tl).isEmpty:=by unfold U3;rw[j2];exact(Mo (JQ (Nat.le_refl _))).symm
  have k3:KU YP H 0 H.length=S2 l tl:=by unfold S2;rw[j1]
  have k4:KU (fun p:List Int×List Int=>Nd p.1 p.2) C 0 C.length=U3 l tl:=by unfold U3;rw[j2]
  simp only[List.length_nil] at i4;refine⟨by omega,⟨by omega,fun x hx y hy=>⟨Nat.le_trans (i6 x hx) (by omega),Nat.le_trans (i6 y hy) (by omega)⟩⟩,?_⟩;and_intros<;>first|rfl|trivial|exact k1|exact k2|exact k3|exact k4
def DG:AL ((List (Int×(Int×Int)×Int))×Int):=(.cons (.k (.list (.pair (.i .i64) (.pair (.pair (.i .i64) (.i .i64)) (.i .i64))))) (.one (.k (.i .i64))))
def Ra (d:(List (Int×(Int×Int)×Int))×Int):Prop:=d.1.length≤1000
def Gg (d:(List (Int×(Int×Int)×Int))×Int):SV:=.tup [.lst 0,.lst 1,.val (.i .i64) (Q9 d.1 d.2)]
def Gh (d:(List (Int×(Int×Int)×Int))×Int):List OB:=[.lst 3 (.i .i64) (NI d.1 d.2) ((NI d.1 d.2).isEmpty),.lst 31 (.list (.i .i64)) (QH d.1 d.2) ((QH d.1 d.2).isEmpty)]
def LC:CSp:=YO DG Ra Gg Gh
def Kr (l:List (Int×(Int×Int)×Int)) (tl:Int):Prop :=
 ∀ w1:List Value,(l.length≤1000)∧(((Qj l)==(0:Int))=true→True)∧(((Qj l)==(0:Int))=true→[tl].length≤1000000)∧((((Qj l)==(0:Int))&&(!(!([tl].any fun n=>decide (n<(0:Int))||decide ((1000:Int)<n)))))=true →
  w1=w1∧(((3:Int) != (0:Int))=true →
   ((True∧True∧(3:Int)=(Q9 l tl)∧(([]:List SV)=[]))∧(((NI l tl)=[]∧(NI l tl).isEmpty=true)∧((QH l tl)=[]∧(QH l tl).isEmpty=true)∧True))) ∧
  (((3:Int) != (0:Int))=false →
   (l.length≤12∧(∀ y∈l,Qw y=true))∧((!(XN l tl))=true →
    ((True∧True∧(9:Int)=(Q9 l tl)∧(([]:List SV)=[]))∧(((NI l tl)=[]∧(NI l tl).isEmpty=true)∧((QH l tl)=[]∧(QH l tl).isEmpty=true)∧True))) ∧
   ((!(XN l tl))=false →
    (l.length≤12∧(∀ y∈l,Qw y=true)∧XN l tl=true)∧((True∧True∧(0:Int)=(Q9 l tl)∧(([]:List SV)=[]))∧(((S2 l tl)=(NI l tl)∧(S2 l tl).isEmpty=(NI l tl).isEmpty)∧((U3 l tl)=(QH l tl)∧(U3 l tl).isEmpty=(QH l tl).isEmpty)∧True))))) ∧
 ((((Qj l)==(0:Int))&&(!(!([tl].any fun n=>decide (n<(0:Int))||decide ((1000:Int)<n)))))=false →
  w1=w1∧(((Qj l) != (0:Int))=true →
   ((True∧True∧(Qj l)=(Q9 l tl)∧(([]:List SV)=[]))∧(((NI l tl)=[]∧(NI l tl).isEmpty=true)∧((QH l tl)=[]∧(QH l tl).isEmpty=true)∧True))) ∧
  (((Qj l) != (0:Int))=false →
   (l.length≤12∧(∀ y∈l,Qw y=true))∧((!(XN l tl))=true →
    ((True∧True∧(9:Int)=(Q9 l tl)∧(([]:List SV)=[]))∧(((NI l tl)=[]∧(NI l tl).isEmpty=true)∧((QH l tl)=[]∧(QH l tl).isEmpty=true)∧True))) ∧
   ((!(XN l tl))=false →
    (l.length≤12∧(∀ y∈l,Qw y=true)∧XN l tl=true)∧((True∧True∧(0:Int)=(Q9 l tl)∧(([]:List SV)=[]))∧(((S2 l tl)=(NI l tl)∧(S2 l tl).isEmpty=(NI l tl).isEmpty)∧((U3 l tl)=(QH l tl)∧(U3 l tl).isEmpty=(QH l tl).isEmpty)∧True)))))
def DX:Cx:=⟨[(3,(.i .i64))],[(69,Xt),(61,Zn),(76,WA)],29,[1],0,[(51,Vz),(77,XF)],[],[],[],false,[],[],[],[]⟩
def Di (l:List (Int×(Int×Int)×Int)) (tl:Int):List (Nat×LoopAnn):=[]
set_option maxRecDepth 100000 in
theorem S3 (d:(List (Int×(Int×Int)×Int))×Int):gwp (DX) (Di d.1 d.2) c49 0 (VT [.tmp 4,.tmp 5,.tmp 6] (Gg d) (Gh d)) (Qt 29 (AL.can DG d))=Kr d.1 d.2:=by kernel_rfl
def MH:XSp:=callV Dt LC
abbrev Ln:Prop:=XOk Tryz.prog 49 MH
theorem SA (h:∀ (l:List (Int×(Int×Int)×Int)) (tl:Int),(l.length≤1000)→Kr l tl):XOk Tryz.prog 49 MH :=
 SO Q7x mixed Vl (C:=DX) ⟨(.cons Yn (.cons Jl (.cons D3 .nil))),(XsOk.cons U2 (XsOk.cons NB XsOk.nil)),ItsOk.nil,YlOk.nil,IysOk.nil,XfOk.nil⟩ (L:=fun (d:(List (Int×(Int×Int)×Int))×Int)=>Di d.1 d.2) (V:=fun (d:(List (Int×(Int×Int)×Int))×Int)=>Kr d.1 d.2) (S3) fun d hp=>h d.1 d.2 hp
theorem TQ:Ln:=SA fun l tl h=>by
 unfold Kr;(try delta lI gD sT I64);have e:∀ n a b:Int,(decide (n<a)||decide (b<n))=!inI n a b:=fun n a b=>(nI n a b).symm;simp only[List.any_cons,List.any_nil,Bool.or_false,e,Bool.not_not,List.length_cons,List.length_nil,Q9n,Bool.true_eq_false,true_and,and_true,beq_iff_eq,bne_iff_ne,ne_eq,bne_eq_false_iff_eq,Bool.not_eq_true',Bool.not_eq_false',false_implies,Bool.or_false,implies_true,forall_const];refine⟨h,by omega,fun hx=>?_,fun hx=>⟨fun a=>?_,fun a=>⟨NY a,fun b=>?_,fun b=>⟨⟨(NY a).1,(NY a).2,b⟩,?_⟩⟩⟩⟩
 ·simp only[Bool.and_eq_true,beq_iff_eq,Bool.not_eq_true'] at hx;have o:Qk l tl=3:=by unfold Qk;rw[if_neg (by omega),hx.2];rfl
  have e1:Q9 l tl=3:=by unfold Q9;rw[o];rfl
  obtain⟨e2,e3⟩:=SY e1 (by omega);rw[e1,e2,e3];exact(by and_intros<;>first|rfl|trivial|simp)
 ·have o:Qk l tl=Qj l:=by unfold Qk;rw[if_pos a]
  have e1:Q9 l tl=Qj l:=by unfold Q9;rw[o,if_pos a]
  obtain⟨e2,e3⟩:=SY e1 a;rw[e1,e2,e3];exact(by and_intros<;>first|rfl|trivial|simp)
 ·have o:Qk l tl=0:=by
   unfold Qk;rw[if_neg (by omega),if_neg];intro h2;rw[a,h2] at hx;cases hx
  have e1:Q9 l tl=9:=by unfold Q9;rw[if_neg (by omega),b];rfl
  obtain⟨e2,e3⟩:=SY e1 (by omega);rw[e1,e2,e3];exact(by and_intros<;>first|rfl|trivial|simp)
 ·have o:Qk l tl=0:=by
   unfold Qk;rw[if_neg (by omega),if_neg];intro h2;rw[a,h2] at hx;cases hx
  have e1:Q9 l tl=0:=by unfold Q9;rw[if_neg (by omega),if_pos b]
  have e2:NI l tl=S2 l tl:=by unfold NI;rw[if_pos e1]
  have e3:QH l tl=U3 l tl:=by unfold QH;rw[if_pos e1]
  rw[e1,e2,e3];exact(by and_intros<;>first|rfl|trivial|simp)
def M9:AL ((List (Int×(Int×Int)×Int))×Int):=(.cons (.k (.list (.pair (.i .i64) (.pair (.pair (.i .i64) (.i .i64)) (.i .i64))))) (.one (.k (.i .i64))))
def HH (d:(List (Int×(Int×Int)×Int))×Int):Prop:=d.1.length≤1000
def Nm (d:(List (Int×(Int×Int)×Int))×Int):SV:=.tup [.lst 0,.val (.i .i64) (Q9 d.1 d.2)]
def Nx (d:(List (Int×(Int×Int)×Int))×Int):List OB:=[.lst 31 (.list (.i .i64)) (QH d.1 d.2) ((QH d.1 d.2).isEmpty)]
def TZ:CSp:=YO M9 HH Nm Nx
def Wz (l:List (Int×(Int×Int)×Int)) (tl:Int):Prop :=
 (l.length≤1000)∧((True∧(Q9 l tl)=(Q9 l tl)∧(([]:List SV)=[]))∧(((QH l tl)=(QH l tl)∧(QH l tl).isEmpty=(QH l tl).isEmpty)∧True))
def Mv:Cx:=⟨[],[],15,[],0,[(49,MH)],[],[],[],false,[],[],[],[]⟩
def Mt (l:List (Int×(Int×Int)×Int)) (tl:Int):List (Nat×LoopAnn):=[]
set_option maxRecDepth 100000 in
theorem Tw (d:(List (Int×(Int×Int)×Int))×Int):gwp (Mv) (Mt d.1 d.2) c15 0 (VT [.tmp 4,.tmp 5] (Nm d) (Nx d)) (Qt 15 (AL.can M9 d))=Wz d.1 d.2:=by kernel_rfl
def VZ:XSp:=callV Dt TZ
abbrev P8:Prop:=XOk Tryz.prog 15 VZ
theorem T2 (h:∀ (l:List (Int×(Int×Int)×Int)) (tl:Int),(l.length≤1000)→Wz l tl):XOk Tryz.prog 15 VZ :=
 SO Q7z mixed Vl (C:=Mv) ⟨.nil,(XsOk.cons TQ XsOk.nil),ItsOk.nil,YlOk.nil,IysOk.nil,XfOk.nil⟩ (L:=fun (d:(List (Int×(Int×Int)×Int))×Int)=>Mt d.1 d.2) (V:=fun (d:(List (Int×(Int×Int)×Int))×Int)=>Wz d.1 d.2) (Tw) fun d hp=>h d.1 d.2 hp
theorem HD:P8:=T2 fun l tl h=>by unfold Wz;(try delta lI gD sT I64);refine⟨h,?_⟩;exact(by and_intros<;>first|rfl|trivial|simp)
end Go.Proofs.Tryz
set_option linter.unusedVariables false
namespace Go.Proofs.Tryz
open Go Go.V Go.Proofs
def Z44 (x:Int×Int×Int×Int):Prop:=(0≤x.1∧x.1≤255)∧(0≤x.2.1∧x.2.1≤255)∧(0≤x.2.2.1∧x.2.2.1≤255)∧(0≤x.2.2.2∧x.2.2.2≤255)
def Am (vl:List (Int×Int×Int×Int)) (vt:List Int):Prop:=vl.length≤9223372036854775807∧vt.length≤9223372036854775807∧(∀ x∈vl,Z44 x)∧∀ x∈vt,0≤x∧x≤255
def H0 (v:Int×Int×Int×Int):Lot:=(Int.tdiv v.1 128,((2*v.2.1,2*v.2.1+Int.tmod v.2.2.1 40),1+10*v.2.2.2))
def Q8 (vl:List (Int×Int×Int×Int)):List Lot:=(vl.take 9).map H0
def Q1r (a b:Lot):Int:=if a.1≠b.1 then 10000 else HY (HY (HY (a.2.1.2-b.2.1.1) (b.2.1.2-a.2.1.1)) (a.2.1.2-a.2.1.1)) (b.2.1.2-b.2.1.1)
theorem OQ {v:Int×Int×Int×Int}(h:Z44 v):Qw (H0 v)=true∧(H0 v).1≤1:=by obtain⟨⟨a1,a2⟩,⟨b1,b2⟩,⟨c1,c2⟩,d1,d2⟩:=h;rw[Bd];unfold H0;dsimp only;have e1:=Int.tdiv_eq_ediv_of_nonneg (b:=128) a1;have e2:=Int.tmod_eq_emod_of_nonneg (b:=40) c1;omega
theorem Q6n {vl:List (Int×Int×Int×Int)}(h:∀ x∈vl,Z44 x):(Q8 vl).length≤9∧(∀ x∈Q8 vl,Qw x=true)∧∀ x∈Q8 vl,x.1≤1:=by
 refine⟨by unfold Q8;rw[List.length_map,List.length_take];omega,fun x hx=>?_,fun x hx=>?_⟩ <;>
 ·unfold Q8 at hx;obtain⟨v,hv,rfl⟩:=List.mem_map.1 hx;have:=OQ (h v (List.mem_of_mem_take hv));first|exact this.1|exact this.2
theorem Q74 {a b:Lot}{t:Int}(ht:t≤1000):Q1r a b≤t↔a.1=b.1∧Lw a b≤t∧Lw a a≤t∧Lw b b≤t:=by
 unfold Q1r Lw;simp only[NV];split
 ·rename_i h;exact⟨fun h2=>by omega,fun h2=>(h h2.1).elim⟩
 ·rename_i h;have h:a.1=b.1:=Decidable.not_not.1 h;constructor
  ·intro h2;refine⟨h,?_,?_,?_⟩<;>omega
  ·rintro⟨_,h2,h3,h4⟩;omega
end Go.Proofs.Tryz
set_option linter.unusedVariables false
namespace Go.Proofs.Tryz
open Go Go.V Go.Proofs
def Uw:AL ((List (Int×Int×Int×Int))×List Int):=(.one (.agg (.cons (.k (.list (.pair (.i .u8) (.pair (.i .u8) (.pair (.i .u8) (.i .u8)))))) (.one (.k (.list (.i .u8)))))))
def Ba (d:(List (Int×Int×Int×Int))×List Int):Prop:=Am d.1 d.2
def VO (d:(List (Int×Int×Int×Int))×List Int):SV:=.lst 0
def VH (d:(List (Int×Int×Int×Int))×List Int):List OB:=[.lst 78 (.pair (.i .i64) (.pair (.pair (.i .i64) (.i .i64)) (.i .i64))) (Q8 d.1) false]
def YZ:CSp:=YO Uw Ba VO VH
def Xs (vl:List (Int×Int×Int×Int)) (vt:List Int):Prop :=
 ∃ (e3:Unit) (d30:(List (Int×(Int×Int)×Int))×Int),((True∧True∧(0:Int)=d30.2∧True)∧((vl=vl∧vt=vt∧(([]:List SV)=[]))∧(([]:List (Int×(Int×Int)×Int))=d30.1∧false=false)∧True)) ∧
 LoopP (fun (d3:(List (Int×(Int×Int)×Int))×Int) (q3:((List (Int×(Int×Int)×Int))×Int)→Prop) =>
  (((decide (d3.2<(lI vl)))&&(decide (d3.2<(9:Int))))=true →
   (0≤d3.2)∧(d3.2<(List.length vl))∧(I64 (gD vl d3.2 (0,(0,(0,0)))).1)∧((128:Int)≠0)∧(I64 (Int.tdiv (gD vl d3.2 (0,(0,(0,0)))).1 (128:Int)))∧(I64 (gD vl d3.2 (0,(0,(0,0)))).2.1)∧(I64 ((2:Int)*(gD vl d3.2 (0,(0,(0,0)))).2.1))∧(I64 (gD vl d3.2 (0,(0,(0,0)))).2.1)∧(I64 ((2:Int)*(gD vl d3.2 (0,(0,(0,0)))).2.1))∧(I64 (gD vl d3.2 (0,(0,(0,0)))).2.2.1)∧((40:Int)≠0)∧(I64 (((2:Int)*(gD vl d3.2 (0,(0,(0,0)))).2.1)+(Int.tmod (gD vl d3.2 (0,(0,(0,0)))).2.2.1 (40:Int))))∧(True)∧(I64 (gD vl d3.2 (0,(0,(0,0)))).2.2.2)∧(I64 ((10:Int)*(gD vl d3.2 (0,(0,(0,0)))).2.2.2))∧(I64 ((1:Int)+((10:Int)*(gD vl d3.2 (0,(0,(0,0)))).2.2.2)))∧(((List.length d3.1)+(List.length [((Int.tdiv (gD vl d3.2 (0,(0,(0,0)))).1 (128:Int)),((((2:Int)*(gD vl d3.2 (0,(0,(0,0)))).2.1),(((2:Int)*(gD vl d3.2 (0,(0,(0,0)))).2.1)+(Int.tmod (gD vl d3.2 (0,(0,(0,0)))).2.2.1 (40:Int)))),((1:Int)+((10:Int)*(gD vl d3.2 (0,(0,(0,0)))).2.2.2))))]))*32≤70368744177664)∧(I64 (d3.2+(1:Int)))∧(∃ d4:(List (Int×(Int×Int)×Int))×Int,((True∧True∧(d3.2+(1:Int))=d4.2∧True)∧((vl=vl∧vt=vt∧(([]:List SV)=[]))∧((d3.1++[((Int.tdiv (gD vl d3.2 (0,(0,(0,0)))).1 (128:Int)),((((2:Int)*(gD vl d3.2 (0,(0,(0,0)))).2.1),(((2:Int)*(gD vl d3.2 (0,(0,(0,0)))).2.1)+(Int.tmod (gD vl d3.2 (0,(0,(0,0)))).2.2.1 (40:Int)))),((1:Int)+((10:Int)*(gD vl d3.2 (0,(0,(0,0)))).2.2.2))))])=d4.1∧false=false)∧True))∧q3 d4)) ∧
  (((decide (d3.2<(lI vl)))&&(decide (d3.2<(9:Int))))=false →
   (True∧((d3.1=(Q8 vl)∧false=false)∧True)))) d30
def Uj:Cx:=⟨[(78,(.pair (.i .i64) (.pair (.pair (.i .i64) (.i .i64)) (.i .i64))))],[(48,NX)],51,[],0,[],[],[],[],false,[],[],[],[]⟩
def Bw (vl:List (Int×Int×Int×Int)) (vt:List Int):List (Nat×LoopAnn):=[(0,⟨Unit,(List (Int×(Int×Int)×Int))×Int,[1,3,4],fun e x=>[.box 1 0,.lst 6,.val (.i .i64) x.2],fun e x=>[(1,.slot 1,.cells [.val (.list (.pair (.i .u8) (.pair (.i .u8) (.pair (.i .u8) (.i .u8))))) vl,.val (.list (.i .u8)) vt] (some 74)),(6,.slot 3,.lst 78 (.pair (.i .i64) (.pair (.pair (.i .i64) (.i .i64)) (.i .i64))) x.1 false)]⟩)]
set_option maxRecDepth 100000 in
theorem BB (d:(List (Int×Int×Int×Int))×List Int):gwp (Uj) (Bw d.1 d.2) c36 0 (VT [.tmp 2] (VO d) (VH d)) (Qt 51 (AL.can Uw d))=Xs d.1 d.2:=by kernel_rfl
abbrev Bq:Prop:=OkC Tryz.prog 36 YZ
theorem BH (h:∀ (vl:List (Int×Int×Int×Int)) (vt:List Int),(Am vl vt)→Xs vl vt):OkC Tryz.prog 36 YZ :=
 Z7 Q8d mixed (C:=Uj) (V:=fun (d:(List (Int×Int×Int×Int))×List Int)=>Xs d.1 d.2) ⟨(.cons Sj .nil),XsOk.nil,ItsOk.nil,YlOk.nil,IysOk.nil,XfOk.nil⟩ (BB) fun d hp=>h d.1 d.2 hp
theorem BU:Bq:=BH fun vl vt h=>by
 obtain⟨h1,h2,h3,h4⟩:=h;unfold Xs;(try delta lI gD sT I64);refine⟨(),([],0),(by and_intros<;>first|rfl|trivial|simp),?_⟩;refine⟨fun d=>∃ k:Nat,d.2=k∧k≤9∧k≤vl.length∧d.1=(vl.take k).map H0,fun d=>9-d.2.toNat,⟨0,rfl,by omega,by omega,rfl⟩,?_⟩;rintro⟨_,_⟩ ⟨k,rfl,k1,k2,rfl⟩;dsimp only;simp only[Int.toNat_natCast];refine⟨fun hc=>?_,fun hc=>?_⟩
 ·rw[Bool.and_eq_true,decide_eq_true_eq,decide_eq_true_eq] at hc;have aP:k<vl.length:=by omega
  have hd:vl.getD k (0,(0,(0,0)))=vl[k]:=Qa aP;rw[hd];obtain⟨⟨a1,a2⟩,⟨b1,b2⟩,⟨c1,c2⟩,d1,d2⟩:=h3 _ (List.getElem_mem aP);have e1:=Int.tdiv_eq_ediv_of_nonneg (b:=128) a1;have e2:=Int.tmod_eq_emod_of_nonneg (b:=40) c1;have hl:((vl.take k).map H0).length≤9:=by rw[List.length_map,List.length_take];omega
  simp only[Z3,List.length_cons,List.length_nil];refine⟨by omega,by omega,by omega,by omega,by omega,by omega,by omega,by omega,by omega,by omega,by omega,by omega,trivial,by omega,by omega,by omega,by omega,by omega,((vl.take (k+1)).map H0,(k:Int)+1),⟨(by and_intros<;>first|rfl|trivial|simp),?_⟩,⟨k+1,rfl,by omega,by omega,rfl⟩,by show 9-((k:Int)+1).toNat<9-k;omega⟩;rw[ZV aP,List.map_append];exact(by and_intros<;>first|rfl|trivial|simp)
 ·have hk:k=9∨k=vl.length:=by
   apply Classical.byContradiction;intro h9;rw[decide_eq_true (show (k:Int)<vl.length by omega),decide_eq_true (show (k:Int)<9 by omega)] at hc;cases hc
  have:(vl.take k).map H0=Q8 vl:=by
   unfold Q8;rcases hk with rfl|rfl
   ·rfl
   ·rw[List.take_length,List.take_of_length_le (by omega:vl.length≤9)]
  rw[this];exact(by and_intros<;>first|rfl|trivial|simp)
def Ha:AL ((Int×Int×Int×Int)×Int×Int×Int×Int):=(.cons (.agg (.cons (.k (.i .i64)) (.cons (.k (.i .i64)) (.cons (.k (.i .i64)) (.one (.k (.i .i64))))))) (.one (.agg (.cons (.k (.i .i64)) (.cons (.k (.i .i64)) (.cons (.k (.i .i64)) (.one (.k (.i .i64)))))))))
def S_ (d:(Int×Int×Int×Int)×Int×Int×Int×Int):Prop:=0≤d.1.2.1∧d.1.2.1≤1000∧0≤d.1.2.2.1∧d.1.2.2.1≤1000∧0≤d.2.2.1∧d.2.2.1≤1000∧0≤d.2.2.2.1∧d.2.2.2.1≤1000
def B9 (d:(Int×Int×Int×Int)×Int×Int×Int×Int):SV:=.val (.i .i64) (Q1r (d.1.1,(d.1.2.1,d.1.2.2.1),d.1.2.2.2) (d.2.1,(d.2.2.1,d.2.2.2.1),d.2.2.2.2))
def Dp (d:(Int×Int×Int×Int)×Int×Int×Int×Int):List OB:=[]
def D4:CSp:=YO Ha S_ B9 Dp
def VL (lc:Int) (lo:Int) (hi:Int) (lg:Int) (mc:Int) (mo:Int) (mi:Int) (mg:Int):Prop :=
 ((lc != mc)=true →
  ((10000:Int)=(Q1r (lc,(lo,hi),lg) (mc,(mo,mi),mg))∧(True))) ∧
 ((lc != mc)=false →
  (I64 (hi-mo))∧(I64 (mi-lo))∧(I64 (hi-lo))∧(I64 (mi-mo))∧((HY (HY (HY (hi-mo) (mi-lo)) (hi-lo)) (mi-mo))=(Q1r (lc,(lo,hi),lg) (mc,(mo,mi),mg))∧(True)))
def H8:Cx:=⟨[],[],39,[],0,[],[],[],[],false,[],[],[],[]⟩
def Aa (lc:Int) (lo:Int) (hi:Int) (lg:Int) (mc:Int) (mo:Int) (mi:Int) (mg:Int):List (Nat×LoopAnn):=[]
set_option maxRecDepth 100000 in
theorem CM (d:(Int×Int×Int×Int)×Int×Int×Int×Int):gwp (H8) (Aa d.1.1 d.1.2.1 d.1.2.2.1 d.1.2.2.2 d.2.1 d.2.2.1 d.2.2.2.1 d.2.2.2.2) c37 0 (VT [.tmp 4] (B9 d) (Dp d)) (Qt 39 (AL.can Ha d))=VL d.1.1 d.1.2.1 d.1.2.2.1 d.1.2.2.2 d.2.1 d.2.2.1 d.2.2.2.1 d.2.2.2.2:=by kernel_rfl
abbrev CY:Prop:=OkC Tryz.prog 37 D4
theorem CJ (h:∀ (lc:Int) (lo:Int) (hi:Int) (lg:Int) (mc:Int) (mo:Int) (mi:Int) (mg:Int),(0≤lo∧lo≤1000∧0≤hi∧hi≤1000∧0≤mo∧mo≤1000∧0≤mi∧mi≤1000)→VL lc lo hi lg mc mo mi mg):OkC Tryz.prog 37 D4 :=
 Z7 Q67 mixed (C:=H8) (V:=fun (d:(Int×Int×Int×Int)×Int×Int×Int×Int)=>VL d.1.1 d.1.2.1 d.1.2.2.1 d.1.2.2.2 d.2.1 d.2.2.1 d.2.2.2.1 d.2.2.2.2) ⟨.nil,XsOk.nil,ItsOk.nil,YlOk.nil,IysOk.nil,XfOk.nil⟩ (CM) fun d hp=>h d.1.1 d.1.2.1 d.1.2.2.1 d.1.2.2.2 d.2.1 d.2.2.1 d.2.2.2.1 d.2.2.2.2 hp
theorem A3:CY:=CJ fun lc lo hi lg mc mo mi mg h=>by
 obtain⟨h1,h2,h3,h4,h5,h6,h7,h8⟩:=h;unfold VL;(try delta lI gD sT I64);refine⟨fun hx=>?_,fun hx=>?_⟩
 ·have hx:lc≠mc:=by simpa using hx
  unfold Q1r;rw[if_pos hx];exact(by and_intros<;>first|rfl|trivial|simp)
 ·have hx:lc=mc:=by simpa using hx
  subst hx;simp only[Z3];refine⟨by omega,by omega,by omega,by omega,?_⟩;unfold Q1r;rw[if_neg (by simp)];exact(by and_intros<;>first|rfl|trivial|simp)
end Go.Proofs.Tryz
set_option linter.unusedVariables false
namespace Go.Proofs.Tryz
open Go Go.V Go.Proofs
theorem EO {l:List Lot}{t u i k:Int}(h:t≤u) (ha:alP l t i k=true):alP l u i k=true:=by rw[UT] at ha ⊢;exact⟨ha.1,by omega,by omega,by omega⟩
theorem LJ {l:List Lot}{t u:Int}(hl:l.length≤12) (h:t≤u) (he:XN l t=true):XN l u=true:=by rw[Lo hl] at he ⊢;exact List.all_eq_true.2 fun k hk=>EO h (List.all_eq_true.1 he k hk)
theorem Q0k {l:List Lot}{t u:Int}(h:t≤u) (a b:Int):Zt l u a b≤Zt l t a b:=by
 have ha:alD l t a b=true→alD l u a b=true:=fun h2=>by unfold alD JE Fa at h2 ⊢;simp only[Bool.and_eq_true,decide_eq_true_eq] at h2 ⊢;exact⟨h2.1,Int.le_trans h2.2 h⟩
 unfold Zt;by_cases h0:a<0
 ·rw[decide_eq_true h0];simp
 ·rw[decide_eq_false h0,Bool.false_or,Bool.false_or];by_cases h2:alD l t a b=true
  ·rw[if_pos h2,if_pos (ha h2)];omega
  ·rw[if_neg h2];split<;>omega
theorem EK {l:List Lot}{t k:Int}:Zt l t (-1) k=0:=rfl
theorem Rl {l:List Lot}{t:Int}(hl:l.length≤12) (af:∀ y∈l,Qw y=true) (he:XN l t=true) {S:List Int}(hS:S.Nodup) (aH:∀ i∈S,0≤i∧i<l.length) (hu:∀ i∈S,∀ k∈S,i≠k→alP l t i k=false):S.length≤(U3 l t).length:=by
 obtain⟨p1,p2,-⟩:=Uq hl af he;have qC:∀ i:Int,0≤i→i<l.length→∃ k,∃ h:k<(U3 l t).length,i∈(U3 l t)[k]:=fun i h0 h1=>by have:i∈(U3 l t).flatten:=p1.mem_iff.2 (List.mem_map.2 ⟨i.toNat,List.mem_range.2 (by omega),by omega⟩);obtain⟨c,hc,hi⟩:=List.mem_flatten.1 this;obtain⟨k,hk,rfl⟩:=List.getElem_of_mem hc;exact⟨k,hk,hi⟩
 have hK:∀ i∈S,((U3 l t).findIdx fun c=>c.contains i)<(U3 l t).length:=fun i hi=>by obtain⟨k,hk,hi⟩:=qC i (aH i hi).1 (aH i hi).2;exact List.findIdx_lt_length_of_exists ⟨_,List.getElem_mem hk,by simpa using hi⟩
 refine Q1t (fun i=>(U3 l t).findIdx fun c=>c.contains i) hS hK fun i hi j hj e=>?_;have h1:i∈(U3 l t)[(U3 l t).findIdx fun c=>c.contains i]'(hK i hi):=E9 (List.findIdx_getElem (p:=fun c:List Int=>c.contains i) (w:=hK i hi));have h2:j∈(U3 l t)[(U3 l t).findIdx fun c=>c.contains j]'(hK j hj):=E9 (List.findIdx_getElem (p:=fun c:List Int=>c.contains j) (w:=hK j hj));have h3:j∈(U3 l t)[(U3 l t).findIdx fun c=>c.contains i]'(hK i hi):=by simp only[e];exact h2
 have h4:=N8.1 (p2 _ (List.getElem_mem (hK i hi))).2.2 i h1 j h3;by_cases bT:i=j
 ·exact bT
 ·rw[hu i hi j hj bT] at h4;cases h4
theorem Av {l:List Lot}{t u:Int}(hl:l.length≤12) (af:∀ y∈l,Qw y=true) (he:XN l t=true) (h:t≤u):(U3 l u).length≤(U3 l t).length:=by
 obtain⟨_,_,_,q4,q5,q6,q7⟩:=Uq hl af (LJ hl h he);rw[←q7];refine Rl hl af he (q4.imp fun h e=>by omega) q5 fun i hi k hk aA=>?_;have:=q6 i hi k hk aA;cases e:alP l t i k with
 |false=>rfl
 |true=>rw[EO h e] at this;cases this
theorem Ez {x:Lot}{T:List Lot}{t i k:Int}(hi:0≤i) (hk:0≤k):alP (x::T) t (i+1) (k+1)=alP T t i k:=by unfold alP;rw[show (i+1).toNat=i.toNat+1 by omega,show (k+1).toNat=k.toNat+1 by omega,List.getD_cons_succ,List.getD_cons_succ]
theorem Ar {x:Lot}{T:List Lot}{t:Int}(hl:(x::T).length≤12) (af:∀ y∈x::T,Qw y=true) (he:XN (x::T) t=true):XN T t=true∧(U3 T t).length≤(U3 (x::T) t).length:=by
 have bJ:T.length≤12:=by simp only[List.length_cons] at hl;omega
 have cF:∀ y∈T,Qw y=true:=fun y hy=>af y (List.mem_cons_of_mem _ hy);have kQ:XN T t=true:=by rw[Lo hl] at he;rw[Lo bJ];refine List.all_eq_true.2 fun k hk=>?_;have hk:=List.mem_range.1 hk;have:=List.all_eq_true.1 he (k+1) (List.mem_range.2 (by simp only[List.length_cons];omega));rw[show ((k+1:Nat):Int)=(k:Int)+1 by omega,Ez (by omega) (by omega)] at this;exact this
 refine⟨kQ,?_⟩;obtain⟨_,_,_,q4,q5,q6,q7⟩:=Uq bJ cF kQ;rw[←q7,←List.length_map (f:=fun i:Int=>i+1)];refine Rl hl af he (List.pairwise_map.2 (q4.imp fun h e=>by omega)) (fun i hi=>?_) fun i hi k hk aA=>?_
 ·obtain⟨a,ha,rfl⟩:=List.mem_map.1 hi;have:=q5 a ha;simp only[List.length_cons];omega
 ·obtain⟨a,ha,rfl⟩:=List.mem_map.1 hi;obtain⟨b,hb,rfl⟩:=List.mem_map.1 hk;rw[Ez (q5 a ha).1 (q5 b hb).1];exact q6 a ha b hb fun e=>aA (by rw[e])
section
variable {sm:Int→Int→Int}
theorem GO:∀ (c:List Int) (la:Int) (r:List Int),(∀ i∈c,∀ k∈c,sm i k=0)→c≠[]→∃ e,NN sm la (c++r)=sm la (c.getD 0 0)+NN sm e r
 |[],_,_,_,h=>(h rfl).elim
 |[x],la,r,_,_=>⟨x,rfl⟩
 |x::y::t,la,r,h,_=>by obtain⟨e,he⟩:=GO (y::t) x r (fun i hi k hk=>h i (List.mem_cons_of_mem _ hi) k (List.mem_cons_of_mem _ hk)) (by simp);refine⟨e,?_⟩;rw[List.cons_append];simp only[NN];rw[he,List.getD_cons_zero,List.getD_cons_zero,h x (List.mem_cons_self ..) y (List.mem_cons_of_mem _ (List.mem_cons_self ..))];omega
theorem Ru (h1:∀ a b,sm a b≤1):∀ (C:List (List Int)) (la:Int),(∀ c∈C,c≠[]∧∀ i∈c,∀ k∈c,sm i k=0)→NN sm la C.flatten≤C.length
 |[],_,_=>Int.le_refl _
 |c::C,la,h=>by obtain⟨hc,hz⟩:=h c (List.mem_cons_self ..);obtain⟨e,he⟩:=GO c la C.flatten hz hc;have:=Ru h1 C e fun c hc=>h c (List.mem_cons_of_mem _ hc);have:=h1 la (c.getD 0 0);rw[List.flatten_cons,he,List.length_cons];omega
end
theorem O8 {l:List Lot}{t:Int}(hl:l.length≤12):(GM l t (2 ^ l.length-1) (-1)).Perm ((List.range l.length).map fun (k:Nat)=>(k:Int))∧NN (Zt l t) (-1) (GM l t (2 ^ l.length-1) (-1))=JM l t (2 ^ l.length-1) (-1):=by have hp:=Nat.two_pow_pos l.length;have hs:=ZO (n:=2 ^ l.length-1) (m:=l.length) (by omega) (by omega);obtain⟨h1,h2⟩:=Te (N:=(l.length:Int)) (VI l t) (Q4 (2 ^ l.length-1)).length (Q4 (2 ^ l.length-1)) (-1) rfl (by omega);refine⟨h1.trans ?_,h2⟩;rw[Lp (by omega)]
theorem Fc {l:List Lot}{t:Int}(hl:l.length≤12) (af:∀ y∈l,Qw y=true) (he:XN l t=true) (aA:l≠[]):JM l t (2 ^ l.length-1) (-1)≤((U3 l t).length:Int)-1:=by
 obtain⟨p1,p2,-⟩:=Uq hl af he;have hp:=Nat.two_pow_pos l.length;have hs:=ZO (n:=2 ^ l.length-1) (m:=l.length) (by omega) (by omega);have aE:∀ i∈(U3 l t).flatten,0≤i∧i<(l.length:Int):=fun i hi=>by obtain⟨k,hk,rfl⟩:=List.mem_map.1 (p1.mem_iff.1 hi);have:=List.mem_range.1 hk;omega
 have hz:∀ c∈U3 l t,c≠[]∧∀ i∈c,∀ k∈c,Zt l t i k=0:=fun c hc=>⟨(p2 c hc).2.1,fun i hi k hk=>by
  rw[OY hl (aE i (List.mem_flatten.2 ⟨c,hc,hi⟩)) (aE k (List.mem_flatten.2 ⟨c,hc,hk⟩)),if_pos (N8.1 (p2 c hc).2.2 i hi k hk)]⟩
 have hle:=Q0w (N:=(l.length:Int)) (VI l t) (U3 l t).flatten (Q4 (2 ^ l.length-1)) (-1) (p1.trans (by rw[Lp (by omega)])) (by omega);change JM l t (2 ^ l.length-1) (-1)≤_ at hle;cases hC:U3 l t with
 |nil =>rw[hC] at p1;have:=p1.length_eq;simp at this;exact(aA (List.eq_nil_of_length_eq_zero this.symm)).elim
 |cons c C =>rw[hC] at hle hz;obtain⟨h1,h2⟩:=hz c (List.mem_cons_self ..);obtain⟨e,h3⟩:=GO c (-1) C.flatten h2 h1;have:=Ru (sm:=Zt l t) (fun a b=>(VI l t a b).2) C e fun c hc=>hz c (List.mem_cons_of_mem _ hc);rw[List.flatten_cons,h3,EK] at hle;rw[List.length_cons];omega
theorem An {s:Nat}(h:2*s<2 ^ 64):Q4 (2*s)=(Q4 s).map (·+1):=by
 have hs:s<2 ^ 64:=by omega
 refine U_ (Yk _ _ (Nat.le_refl _) h) (List.pairwise_map.2 ((Yk s s (Nat.le_refl _) hs).imp fun h=>by omega)) fun x=>?_;show x∈Q4 (2*s)↔x∈(Q4 s).map (·+1);rw[Kk h];simp only[List.mem_map,Kk hs];constructor
 ·rintro⟨k,rfl,hk⟩;cases k with
  |zero=>simp at hk
  |succ j =>
   refine⟨j,⟨j,rfl,?_⟩,by omega⟩;rw[Nat.testBit_succ] at hk
   rwa [show 2*s / 2=s by omega] at hk
 ·rintro⟨a,⟨j,rfl,hj⟩,rfl⟩;refine⟨j+1,by omega,?_⟩;rw[Nat.testBit_succ,show 2*s / 2=s by omega];exact hj
theorem Pm {x:Lot}{T:List Lot}{i:Int}(h:0≤i):(x::T).getD (i+1).toNat Zg=T.getD i.toNat Zg:=by rw[show (i+1).toNat=i.toNat+1 by omega,List.getD_cons_succ]
theorem Rp {x:Lot}{T:List Lot}:∀ (S:List Int) (a:Int),(∀ i∈S,0≤i)→(S.map (·+1)).foldl (fun a i=>a+((x::T).getD i.toNat Zg).2.2) a=S.foldl (fun a i=>a+(T.getD i.toNat Zg).2.2) a
 |[],_,_=>rfl
 |i::S,a,h=>by rw[List.map_cons,List.foldl_cons,List.foldl_cons,Pm (h i (List.mem_cons_self ..))];exact Rp S _ fun i hi=>h i (List.mem_cons_of_mem _ hi)
theorem O9 {x:Lot}{T:List Lot}{t nc ng:Int}(hl:(x::T).length≤12) (h:Zd T t nc ng (2 ^ T.length)≠[]):Zd (x::T) t nc ng (2 ^ (x::T).length)≠[]∧(Zd (x::T) t nc ng (2 ^ (x::T).length)).length≤(Zd T t nc ng (2 ^ T.length)).length:=by
 rcases EX (l:=T) (tl:=t) (nc:=nc) (ng:=ng) (2 ^ T.length) with e|⟨s,s1,s2,s3,s4⟩
 ·exact(h e).elim
 ·have hT:T.length≤11:=by simp only[List.length_cons] at hl;omega
  have hp:=Nat.pow_le_pow_right (n:=2) (by omega) hT;have hs:Q4 (2*s)=(Q4 s).map (·+1):=An (by omega);have ai:=NL s2 (by omega);have cr:∀ i∈Q4 s,0≤i:=fun i hi=>(ai i hi).1;have af:N_ (x::T) t nc ng (2*s)=true:=by
   unfold N_ at s3 ⊢;have e1:(x::T).getD ((Q4 (2*s)).getD 0 0).toNat Zg=T.getD ((Q4 s).getD 0 0).toNat Zg:=by
    have:=NT s1;rw[hs];cases hq:Q4 s with
    |nil=>exact(this hq).elim
    |cons a r=>rw[List.map_cons,List.getD_cons_zero,List.getD_cons_zero,Pm (cr a (by rw[hq];exact List.mem_cons_self ..))]
   have e2:KJ (x::T) (Q4 (2*s))=KJ T (Q4 s):=by unfold KJ;rw[hs,Rp _ _ cr]
   have e3:Kt (x::T) (Q4 (2*s))=Kt T (Q4 s):=by unfold Kt;rw[hs,List.map_map];exact List.map_congr_left fun i hi=>Pm (cr i hi)
   unfold JE at s3 ⊢;rw[e1,e2,e3];exact s3
  have:=C2 (l:=x::T) (by omega) af (2 ^ (x::T).length) (by rw[List.length_cons,Nat.pow_succ];omega);rw[s4];rw[hs,List.length_map] at this;exact this
theorem Z10 {l:List Lot}{r:List Int}(hp:r.Perm ((List.range l.length).map fun (k:Nat)=>(k:Int))):r.length=l.length∧r.Nodup∧∀ i∈r,0≤i∧i<(l.length:Int):=by refine⟨by rw[hp.length_eq];simp,hp.nodup_iff.2 (List.pairwise_map.2 ((List.nodup_range (n:=l.length)).imp fun h e=>h (by omega))),fun i hi=>?_⟩;obtain⟨k,hk,rfl⟩:=List.mem_map.1 (hp.mem_iff.1 hi);have:=List.mem_range.1 hk;omega
end Go.Proofs.Tryz
set_option linter.unusedVariables false
namespace Go.Proofs.Tryz
open Go Go.V Go.Proofs
def VB:AL (((List (Int×Int×Int×Int))×List Int)×Int×Int×Int):=(.cons (.agg (.cons (.k (.list (.pair (.i .u8) (.pair (.i .u8) (.pair (.i .u8) (.i .u8)))))) (.one (.k (.list (.i .u8)))))) (.one (.agg (.cons (.k (.i .u8)) (.cons (.k (.i .u8)) (.one (.k (.i .u8))))))))
def GI (d:((List (Int×Int×Int×Int))×List Int)×Int×Int×Int):Prop:=Am d.1.1 d.1.2∧0≤d.2.1∧d.2.1≤255∧0≤d.2.2.1∧d.2.2.1≤255∧0≤d.2.2.2∧d.2.2.2≤255
def KY (d:((List (Int×Int×Int×Int))×List Int)×Int×Int×Int):SV:=.val .bo true
def V2 (d:((List (Int×Int×Int×Int))×List Int)×Int×Int×Int):List OB:=[]
def Uz:CSp:=YO VB GI KY V2
def X5 (vl:List (Int×Int×Int×Int)) (vt:List Int) (b0:Int) (b1:Int) (b2:Int):Prop :=
 (Am vl vt)∧(false=true→(Q8 vl)=[])∧(I64 b0)∧((Q8 vl).length≤1000)∧((Q8 vl).length≤1000)∧((Q8 vl).length≤1000)∧(false=true→(Q8 vl)=[])∧(I64 b1)∧(I64 (b0+b1))∧((Q8 vl).length≤1000)∧((Q8 vl).length≤1000)∧((Q8 vl).length≤1000)∧((Q8 vl).length≤1000)∧(false=true→(Q8 vl)=[])∧(I64 b1)∧(I64 (b0+b1))∧((Q8 vl).length≤1000)∧((((((((Qk (Q8 vl) b0) != (0:Int))||((Qk (Q8 vl) (b0+b1)) != (0:Int)))||(decide ((Wt (Q8 vl) (b0+b1)) > (Wt (Q8 vl) b0))))||(decide ((Wt (Q8 vl) b0)<(0:Int))))||((lI (JF (Q8 vl) b0)) != (lI (Q8 vl))))||(((Q9 (Q8 vl) b0)==(0:Int))&&(((Q9 (Q8 vl) (b0+b1)) != (0:Int))||(decide ((lI (QH (Q8 vl) (b0+b1))) > (lI (QH (Q8 vl) b0)))))))=true →
  (false=true∧(True))) ∧
 ((((((((Qk (Q8 vl) b0) != (0:Int))||((Qk (Q8 vl) (b0+b1)) != (0:Int)))||(decide ((Wt (Q8 vl) (b0+b1)) > (Wt (Q8 vl) b0))))||(decide ((Wt (Q8 vl) b0)<(0:Int))))||((lI (JF (Q8 vl) b0)) != (lI (Q8 vl))))||(((Q9 (Q8 vl) b0)==(0:Int))&&(((Q9 (Q8 vl) (b0+b1)) != (0:Int))||(decide ((lI (QH (Q8 vl) (b0+b1))) > (lI (QH (Q8 vl) b0)))))))=false →
  ∃ (e3:Unit) (d30:(List (Int×Bool))×Int×Int),((True∧True∧b0=b0∧True∧(Q9 (Q8 vl) b0)=(Q9 (Q8 vl) b0)∧True∧(Wt (Q8 vl) b0)=(Wt (Q8 vl) b0)∧True∧(0:Int)=d30.2.1∧(0:Int)=d30.2.2∧True)∧((b0=b0∧b1=b1∧b2=b2∧(([]:List SV)=[]))∧((Q8 vl)=(Q8 vl)∧false=false)∧((QH (Q8 vl) b0)=(QH (Q8 vl) b0)∧(QH (Q8 vl) b0).isEmpty=(List.isEmpty (QH (Q8 vl) b0)))∧((JF (Q8 vl) b0)=(JF (Q8 vl) b0)∧(JF (Q8 vl) b0).isEmpty=(List.isEmpty (JF (Q8 vl) b0)))∧(([]:List (Int×Bool))=d30.1)∧True)) ∧
  LoopP (fun (d3:(List (Int×Bool))×Int×Int) (q3:((List (Int×Bool))×Int×Int)→Prop) =>
   ((decide (d3.2.2<(lI (JF (Q8 vl) b0))))=true →
    (0≤d3.2.2)∧(d3.2.2<(List.length (JF (Q8 vl) b0)))∧((decide ((gD (JF (Q8 vl) b0) d3.2.2 0)<(0:Int)))=false→0≤d3.2.2)∧((decide ((gD (JF (Q8 vl) b0) d3.2.2 0)<(0:Int)))=false→d3.2.2<(List.length (JF (Q8 vl) b0)))∧(((decide ((gD (JF (Q8 vl) b0) d3.2.2 0)<(0:Int)))||(decide ((gD (JF (Q8 vl) b0) d3.2.2 0)≥(lI (Q8 vl)))))=false→0≤d3.2.2)∧(((decide ((gD (JF (Q8 vl) b0) d3.2.2 0)<(0:Int)))||(decide ((gD (JF (Q8 vl) b0) d3.2.2 0)≥(lI (Q8 vl)))))=false→d3.2.2<(List.length (JF (Q8 vl) b0)))∧((((decide ((gD (JF (Q8 vl) b0) d3.2.2 0)<(0:Int)))||(decide ((gD (JF (Q8 vl) b0) d3.2.2 0)≥(lI (Q8 vl)))))||(gq.aget (.i .i64) d3.1 (gD (JF (Q8 vl) b0) d3.2.2 0) false))=true →
     (false=true∧(True))) ∧
    ((((decide ((gD (JF (Q8 vl) b0) d3.2.2 0)<(0:Int)))||(decide ((gD (JF (Q8 vl) b0) d3.2.2 0)≥(lI (Q8 vl)))))||(gq.aget (.i .i64) d3.1 (gD (JF (Q8 vl) b0) d3.2.2 0) false))=false →
     (0≤d3.2.2)∧(d3.2.2<(List.length (JF (Q8 vl) b0)))∧((decide (d3.2.2 > (0:Int)))=true→InK .i64 (d3.2.2-(1:Int)))∧((decide (d3.2.2 > (0:Int)))=true→0≤(d3.2.2-(1:Int)))∧((decide (d3.2.2 > (0:Int)))=true→(d3.2.2-(1:Int))<(List.length (JF (Q8 vl) b0)))∧((decide (d3.2.2 > (0:Int)))=true→0≤(gD (JF (Q8 vl) b0) (d3.2.2-(1:Int)) 0))∧((decide (d3.2.2 > (0:Int)))=true→(gD (JF (Q8 vl) b0) (d3.2.2-(1:Int)) 0)<(List.length (Q8 vl)))∧((decide (d3.2.2 > (0:Int)))=true→0≤d3.2.2)∧((decide (d3.2.2 > (0:Int)))=true→d3.2.2<(List.length (JF (Q8 vl) b0)))∧((decide (d3.2.2 > (0:Int)))=true→0≤(gD (JF (Q8 vl) b0) d3.2.2 0))∧((decide (d3.2.2 > (0:Int)))=true→(gD (JF (Q8 vl) b0) d3.2.2 0)<(List.length (Q8 vl)))∧((decide (d3.2.2 > (0:Int)))=true→0≤((gD (Q8 vl) (gD (JF (Q8 vl) b0) (d3.2.2-(1:Int)) 0) (0,((0,0),0))).2.1.1)∧((gD (Q8 vl) (gD (JF (Q8 vl) b0) (d3.2.2-(1:Int)) 0) (0,((0,0),0))).2.1.1)≤1000∧0≤((gD (Q8 vl) (gD (JF (Q8 vl) b0) (d3.2.2-(1:Int)) 0) (0,((0,0),0))).2.1.2)∧((gD (Q8 vl) (gD (JF (Q8 vl) b0) (d3.2.2-(1:Int)) 0) (0,((0,0),0))).2.1.2)≤1000∧0≤((gD (Q8 vl) (gD (JF (Q8 vl) b0) d3.2.2 0) (0,((0,0),0))).2.1.1)∧((gD (Q8 vl) (gD (JF (Q8 vl) b0) d3.2.2 0) (0,((0,0),0))).2.1.1)≤1000∧0≤((gD (Q8 vl) (gD (JF (Q8 vl) b0) d3.2.2 0) (0,((0,0),0))).2.1.2)∧((gD (Q8 vl) (gD (JF (Q8 vl) b0) d3.2.2 0) (0,((0,0),0))).2.1.2)≤1000)∧(((decide (d3.2.2 > (0:Int)))&&(decide ((Q1r (((gD (Q8 vl) (gD (JF (Q8 vl) b0) (d3.2.2-(1:Int)) 0) (0,((0,0),0))).1),(((gD (Q8 vl) (gD (JF (Q8 vl) b0) (d3.2.2-(1:Int)) 0) (0,((0,0),0))).2.1.1),((gD (Q8 vl) (gD (JF (Q8 vl) b0) (d3.2.2-(1:Int)) 0) (0,((0,0),0))).2.1.2)),((gD (Q8 vl) (gD (JF (Q8 vl) b0) (d3.2.2-(1:Int)) 0) (0,((0,0),0))).2.2)) (((gD (Q8 vl) (gD (JF (Q8 vl) b0) d3.2.2 0) (0,((0,0),0))).1),(((gD (Q8 vl) (gD (JF (Q8 vl) b0) d3.2.2 0) (0,((0,0),0))).2.1.1),((gD (Q8 vl) (gD (JF (Q8 vl) b0) d3.2.2 0) (0,((0,0),0))).2.1.2)),((gD (Q8 vl) (gD (JF (Q8 vl) b0) d3.2.2 0) (0,((0,0),0))).2.2))) > b0)))=true →
      (I64 (d3.2.1+(1:Int)))∧(I64 (d3.2.2+(1:Int)))∧(∃ d4:(List (Int×Bool))×Int×Int,((True∧True∧b0=b0∧True∧(Q9 (Q8 vl) b0)=(Q9 (Q8 vl) b0)∧True∧(Wt (Q8 vl) b0)=(Wt (Q8 vl) b0)∧True∧(d3.2.1+(1:Int))=d4.2.1∧(d3.2.2+(1:Int))=d4.2.2∧True)∧((b0=b0∧b1=b1∧b2=b2∧(([]:List SV)=[]))∧((Q8 vl)=(Q8 vl)∧false=false)∧((QH (Q8 vl) b0)=(QH (Q8 vl) b0)∧(List.isEmpty (QH (Q8 vl) b0))=(List.isEmpty (QH (Q8 vl) b0)))∧((JF (Q8 vl) b0)=(JF (Q8 vl) b0)∧(List.isEmpty (JF (Q8 vl) b0))=(List.isEmpty (JF (Q8 vl) b0)))∧((S4 (.i .i64) d3.1 (gD (JF (Q8 vl) b0) d3.2.2 0) true)=d4.1)∧True))∧q3 d4)) ∧
     (((decide (d3.2.2 > (0:Int)))&&(decide ((Q1r (((gD (Q8 vl) (gD (JF (Q8 vl) b0) (d3.2.2-(1:Int)) 0) (0,((0,0),0))).1),(((gD (Q8 vl) (gD (JF (Q8 vl) b0) (d3.2.2-(1:Int)) 0) (0,((0,0),0))).2.1.1),((gD (Q8 vl) (gD (JF (Q8 vl) b0) (d3.2.2-(1:Int)) 0) (0,((0,0),0))).2.1.2)),((gD (Q8 vl) (gD (JF (Q8 vl) b0) (d3.2.2-(1:Int)) 0) (0,((0,0),0))).2.2)) (((gD (Q8 vl) (gD (JF (Q8 vl) b0) d3.2.2 0) (0,((0,0),0))).1),(((gD (Q8 vl) (gD (JF (Q8 vl) b0) d3.2.2 0) (0,((0,0),0))).2.1.1),((gD (Q8 vl) (gD (JF (Q8 vl) b0) d3.2.2 0) (0,((0,0),0))).2.1.2)),((gD (Q8 vl) (gD (JF (Q8 vl) b0) d3.2.2 0) (0,((0,0),0))).2.2))) > b0)))=false →
      (I64 (d3.2.2+(1:Int)))∧(∃ d5:(List (Int×Bool))×Int×Int,((True∧True∧b0=b0∧True∧(Q9 (Q8 vl) b0)=(Q9 (Q8 vl) b0)∧True∧(Wt (Q8 vl) b0)=(Wt (Q8 vl) b0)∧True∧d3.2.1=d5.2.1∧(d3.2.2+(1:Int))=d5.2.2∧True)∧((b0=b0∧b1=b1∧b2=b2∧(([]:List SV)=[]))∧((Q8 vl)=(Q8 vl)∧false=false)∧((QH (Q8 vl) b0)=(QH (Q8 vl) b0)∧(List.isEmpty (QH (Q8 vl) b0))=(List.isEmpty (QH (Q8 vl) b0)))∧((JF (Q8 vl) b0)=(JF (Q8 vl) b0)∧(List.isEmpty (JF (Q8 vl) b0))=(List.isEmpty (JF (Q8 vl) b0)))∧((S4 (.i .i64) d3.1 (gD (JF (Q8 vl) b0) d3.2.2 0) true)=d5.1)∧True))∧q3 d5)))) ∧
   ((decide (d3.2.2<(lI (JF (Q8 vl) b0))))=false →
    ((d3.2.1 != (Wt (Q8 vl) b0))=true →
     (false=true∧(True))) ∧
    ((d3.2.1 != (Wt (Q8 vl) b0))=false →
     ((((Q9 (Q8 vl) b0)==(0:Int))&&(decide ((lI (Q8 vl)) > (0:Int))))=true→InK .i64 ((lI (QH (Q8 vl) b0))-(1:Int)))∧((((((Q9 (Q8 vl) b0)==(0:Int))&&(decide ((lI (Q8 vl)) > (0:Int))))&&(decide ((Wt (Q8 vl) b0) > ((lI (QH (Q8 vl) b0))-(1:Int)))))||((((Q9 (Q8 vl) b0)==(0:Int))&&((lI (QH (Q8 vl) b0))==(1:Int)))&&((Wt (Q8 vl) b0) != (0:Int))))=true →
      (false=true∧(True))) ∧
     ((((((Q9 (Q8 vl) b0)==(0:Int))&&(decide ((lI (Q8 vl)) > (0:Int))))&&(decide ((Wt (Q8 vl) b0) > ((lI (QH (Q8 vl) b0))-(1:Int)))))||((((Q9 (Q8 vl) b0)==(0:Int))&&((lI (QH (Q8 vl) b0))==(1:Int)))&&((Wt (Q8 vl) b0) != (0:Int))))=false →
      (((lI (Q8 vl))==(0:Int))=true →
       (((((Q9 (Q8 vl) b0)==(0:Int))&&((lI (QH (Q8 vl) b0))==(0:Int)))&&((Wt (Q8 vl) b0)==(0:Int)))=true→True)∧((((((Q9 (Q8 vl) b0)==(0:Int))&&((lI (QH (Q8 vl) b0))==(0:Int)))&&((Wt (Q8 vl) b0)==(0:Int)))&&true)=true∧(True))) ∧
      (((lI (Q8 vl))==(0:Int))=false →
       (0≤(1:Int))∧((1:Int)≤(lI (Q8 vl)))∧((lI (Q8 vl))≤(List.length (Q8 vl)))∧((List.take (Int.toNat ((lI (Q8 vl))-(1:Int))) (List.drop (Int.toNat (1:Int)) (Q8 vl))).length≤1000)∧((List.take (Int.toNat ((lI (Q8 vl))-(1:Int))) (List.drop (Int.toNat (1:Int)) (Q8 vl))).length≤1000)∧((((Q9 (Q8 vl) b0)==(0:Int))&&(((Q9 (List.take (Int.toNat ((lI (Q8 vl))-(1:Int))) (List.drop (Int.toNat (1:Int)) (Q8 vl))) b0) != (0:Int))||(decide ((lI (QH (List.take (Int.toNat ((lI (Q8 vl))-(1:Int))) (List.drop (Int.toNat (1:Int)) (Q8 vl))) b0)) > (lI (QH (Q8 vl) b0))))))=true →
        (false=true∧(True))) ∧
       ((((Q9 (Q8 vl) b0)==(0:Int))&&(((Q9 (List.take (Int.toNat ((lI (Q8 vl))-(1:Int))) (List.drop (Int.toNat (1:Int)) (Q8 vl))) b0) != (0:Int))||(decide ((lI (QH (List.take (Int.toNat ((lI (Q8 vl))-(1:Int))) (List.drop (Int.toNat (1:Int)) (Q8 vl))) b0)) > (lI (QH (Q8 vl) b0))))))=false →
        (I64 b2)∧(I64 ((10:Int)*b2))∧(I64 ((1:Int)+((10:Int)*b2)))∧(0≤(1:Int))∧((1:Int)≤(lI (Q8 vl)))∧((lI (Q8 vl))≤(List.length (Q8 vl)))∧((List.take (Int.toNat ((lI (Q8 vl))-(1:Int))) (List.drop (Int.toNat (1:Int)) (Q8 vl))).length≤1000)∧(false=true→(List.take (Int.toNat ((lI (Q8 vl))-(1:Int))) (List.drop (Int.toNat (1:Int)) (Q8 vl)))=[])∧((List.take (Int.toNat ((lI (Q8 vl))-(1:Int))) (List.drop (Int.toNat (1:Int)) (Q8 vl))).length≤1000)∧((Q8 vl).length≤1000)∧((((Zm (List.take (Int.toNat ((lI (Q8 vl))-(1:Int))) (List.drop (Int.toNat (1:Int)) (Q8 vl))) b0 (0:Int) ((1:Int)+((10:Int)*b2))) != (0:Int))||(((Zm (Q8 vl) b0 (0:Int) ((1:Int)+((10:Int)*b2)))==(0:Int))&&(decide ((lI (Wn (Q8 vl) b0 (0:Int) ((1:Int)+((10:Int)*b2))))≤(lI (Wn (List.take (Int.toNat ((lI (Q8 vl))-(1:Int))) (List.drop (Int.toNat (1:Int)) (Q8 vl))) b0 (0:Int) ((1:Int)+((10:Int)*b2))))))))=true→True)∧(((((Zm (List.take (Int.toNat ((lI (Q8 vl))-(1:Int))) (List.drop (Int.toNat (1:Int)) (Q8 vl))) b0 (0:Int) ((1:Int)+((10:Int)*b2))) != (0:Int))||(((Zm (Q8 vl) b0 (0:Int) ((1:Int)+((10:Int)*b2)))==(0:Int))&&(decide ((lI (Wn (Q8 vl) b0 (0:Int) ((1:Int)+((10:Int)*b2))))≤(lI (Wn (List.take (Int.toNat ((lI (Q8 vl))-(1:Int))) (List.drop (Int.toNat (1:Int)) (Q8 vl))) b0 (0:Int) ((1:Int)+((10:Int)*b2))))))))&&true)=true∧(True)))))))) d30)
def VP:Cx:=⟨[(1000107,(.pair (.i .i64) .bo))],[(36,YZ),(14,GJ),(27,GC),(37,D4),(13,Bj),(24,Mq)],271,[],0,[(15,VZ)],[],[],[],false,[],[],[],[]⟩
def Bk (vl:List (Int×Int×Int×Int)) (vt:List Int) (b0:Int) (b1:Int) (b2:Int):List (Nat×LoopAnn):=[(0,⟨Unit,(List (Int×Bool))×Int×Int,[3,5,6,7,8,11,12,17,18,19],fun e x=>[.box 3 0,.lst 28,.val (.i .i64) b0,.lst 36,.val (.i .i64) (Q9 (Q8 vl) b0),.lst 54,.val (.i .i64) (Wt (Q8 vl) b0),.map 107,.val (.i .i64) x.2.1,.val (.i .i64) x.2.2],fun e x=>[(3,.slot 3,.cells [.val (.i .u8) b0,.val (.i .u8) b1,.val (.i .u8) b2] (some 88)),(28,.slot 5,.lst 78 (.pair (.i .i64) (.pair (.pair (.i .i64) (.i .i64)) (.i .i64))) (Q8 vl) false),(36,.slot 7,.lst 31 (.list (.i .i64)) (QH (Q8 vl) b0) (List.isEmpty (QH (Q8 vl) b0))),(54,.slot 11,.lst 3 (.i .i64) (JF (Q8 vl) b0) (List.isEmpty (JF (Q8 vl) b0))),(107,.slot 17,.map (.i .i64) .bo x.1)]⟩)]
set_option maxRecDepth 100000 in
theorem Dx (d:((List (Int×Int×Int×Int))×List Int)×Int×Int×Int):gwp (VP) (Bk d.1.1 d.1.2 d.2.1 d.2.2.1 d.2.2.2) c9 0 (VT [.tmp 4] (KY d) (V2 d)) (Qt 271 (AL.can VB d))=X5 d.1.1 d.1.2 d.2.1 d.2.2.1 d.2.2.2:=by kernel_rfl
abbrev B8:Prop:=OkC Tryz.prog 9 Uz
theorem DY (h:∀ (vl:List (Int×Int×Int×Int)) (vt:List Int) (b0:Int) (b1:Int) (b2:Int),(Am vl vt∧0≤b0∧b0≤255∧0≤b1∧b1≤255∧0≤b2∧b2≤255)→X5 vl vt b0 b1 b2):OkC Tryz.prog 9 Uz :=
 Z7 fun9 mixed (C:=VP) (V:=fun (d:((List (Int×Int×Int×Int))×List Int)×Int×Int×Int)=>X5 d.1.1 d.1.2 d.2.1 d.2.2.1 d.2.2.2) ⟨(.cons BU (.cons CV (.cons C7 (.cons A3 (.cons TP (.cons SP .nil)))))),(XsOk.cons HD XsOk.nil),ItsOk.nil,YlOk.nil,IysOk.nil,XfOk.nil⟩ (Dx) fun d hp=>h d.1.1 d.1.2 d.2.1 d.2.2.1 d.2.2.2 hp
end Go.Proofs.Tryz
set_option linter.unusedVariables false
namespace Go.Proofs.Tryz
open Go Go.V Go.Proofs
theorem Mf {L:List Lot}(h9:L.length≤12) (af:∀ x∈L,Qw x=true):Qj L=0∧∀ t,0≤t→t≤1000→Qk L t=0∧Q9 L t=(if XN L t=true then 0 else 9):=by
 have hz:Qj L=0:=by unfold Qj;rw[if_neg (by omega),if_neg];simp only[List.any_eq_true,Bool.not_eq_true'];rintro⟨x,hx,h2⟩;rw[af x hx] at h2;cases h2
 refine⟨hz,fun t h0 h1=>?_⟩;have ho:Qk L t=0:=by unfold Qk;rw[if_neg (by omega),if_neg];unfold inI;simp;omega
 refine⟨ho,?_⟩;unfold Q9;rw[if_neg (by omega)]
theorem KB {L:List Lot}(h9:L.length≤12) (af:∀ x∈L,Qw x=true) {t:Int}(h0:0≤t) (h1:t≤1000) (h:Q9 L t=0):XN L t=true∧QH L t=U3 L t:=by
 refine⟨?_,by unfold QH;rw[if_pos h]⟩;rw[((Mf h9 af).2 t h0 h1).2] at h;cases he:XN L t with
 |true=>rfl
 |false=>rw[he] at h;cases h
theorem Om {t:Int}(h0:0≤t) (h1:t≤1000):Q9 [] t=0∧QH [] t=[]:=by
 have af:∀ x∈([]:List Lot),Qw x=true:=fun x hx=>by cases hx
 have he:XN [] t=true:=rfl;have e1:Q9 [] t=0:=by rw[((Mf (by simp) af).2 t h0 h1).2,if_pos he]
 refine⟨e1,?_⟩;rw[(KB (by simp) af h0 h1 e1).2];obtain⟨p1,p2,-⟩:=Uq (l:=[]) (by simp) af he;cases hC:U3 [] t with
 |nil=>rfl
 |cons c C =>rw[hC] at p1 p2;have h2:=(p2 c (List.mem_cons_self ..)).2.1;have:=p1.length_eq;rw[List.flatten_cons,List.length_append] at this;simp at this;exact(h2 this.1).elim
theorem LM {L:List Lot}(h9:L.length≤12) (af:∀ x∈L,Qw x=true) {t ng:Int}(h0:0≤t) (h1:t≤1000) (g0:1≤ng) (g1:ng≤12000000):Zm L t 0 ng=(if (Zd L t 0 ng (2 ^ L.length)).isEmpty then 7 else 0)∧Wn L t 0 ng=Zd L t 0 ng (2 ^ L.length):=by
 have ho:=((Mf h9 af).2 t h0 h1).1;have hn:Gp 0 ng=true:=by unfold Gp inI;simp;omega
 unfold Zm Wn;rw[ho,hn];refine⟨?_,?_⟩
 ·rw[if_neg (by omega)];rfl
 ·rw[if_neg];rintro (h|h)
  ·exact h rfl
  ·cases h
theorem FH {L:List Lot}(h9:L.length≤12) (af:∀ x∈L,Qw x=true) {t ng:Int}(h0:0≤t) (h1:t≤1000) (g0:1≤ng) (g1:ng≤12000000) (aA:L≠[]):∃ T,List.take (Int.toNat ((L.length:Int)-1)) (List.drop (Int.toNat 1) L)=T∧T.length≤1000 ∧
  (Q9 L t=0→Q9 T t=0∧(QH T t).length≤(QH L t).length)∧(Zm T t 0 ng=0→Zm L t 0 ng=0∧(Wn L t 0 ng).length≤(Wn T t 0 ng).length):=by
 cases L with
 |nil=>exact(aA rfl).elim
 |cons x T =>
 have bJ:T.length≤12:=by simp only[List.length_cons] at h9;omega
 have cF:∀ y∈T,Qw y=true:=fun y hy=>af y (List.mem_cons_of_mem _ hy);refine⟨T,?_,by omega,fun hp=>?_,fun hf=>?_⟩
 ·have e1:Int.toNat 1=1:=rfl;rw[e1,List.drop_succ_cons,List.drop_zero,List.take_of_length_le];simp only[List.length_cons];omega
 ·obtain⟨he,hc⟩:=KB h9 af h0 h1 hp;obtain⟨kQ,hle⟩:=Ar h9 af he;have e1:Q9 T t=0:=by rw[((Mf bJ cF).2 t h0 h1).2,if_pos kQ]
  rw[hc,(KB bJ cF h0 h1 e1).2];exact⟨e1,hle⟩
 ·obtain⟨f1,f2⟩:=LM bJ cF h0 h1 g0 g1;obtain⟨k1,k2⟩:=LM h9 af h0 h1 g0 g1;have qD:Zd T t 0 ng (2 ^ T.length)≠[]:=fun e=>by rw[f1,e] at hf;cases hf
  obtain⟨q1,q2⟩:=O9 (x:=x) h9 qD;rw[k1,k2,f2];refine⟨?_,q2⟩;rw[if_neg];intro e;exact q1 (List.isEmpty_iff.1 e)
set_option maxHeartbeats 2000000 in
theorem ok_law09_ShadeMore:B8:=DY fun vl vt b0 b1 b2 h=>by
 obtain⟨hv,uW,uX,uY,uZ,u2,u4⟩:=h;unfold X5;(try delta lI gD sT I64);have hI:∀ e:Int,-100000≤e→e≤100000→InK .i64 e:=fun e _ _=>by simp only[Z3];omega
 obtain⟨u5,af,-⟩:=Q6n hv.2.2.1;have hd:∀ j,(Q8 vl).getD j (0,((0,0),0))=(Q8 vl).getD j Zg:=fun _=>rfl;simp only[hd];generalize Q8 vl=L at *
 have dA:L.length≤12:=by omega
 obtain⟨hz,kj⟩:=Mf dA af;obtain⟨ho,oN⟩:=kj b0 (by omega) (by omega);obtain⟨dw,gi⟩:=kj (b0+b1) (by omega) (by omega);obtain⟨e1,e2⟩:=L7 dA af ho;obtain⟨e3,e4⟩:=L7 dA af dw;obtain⟨r1,r2⟩:=O8 (t:=b0) dA;obtain⟨r3,r4,r5⟩:=Z10 r1;have hZ:=Nat.two_pow_pos L.length;have n1:=Pr (tl:=b0) (-1) dA (show 2 ^ L.length-1<2 ^ L.length by omega);have n2:JM L (b0+b1) (2 ^ L.length-1) (-1)≤JM L b0 (2 ^ L.length-1) (-1):=A1 (Q0k (by omega)) _ _ _;have hC:Q9 L b0=0→Q9 L (b0+b1)=0∧(QH L (b0+b1)).length≤(QH L b0).length:=fun h=>by
  obtain⟨k1,k2⟩:=KB dA af (by omega) (by omega) h;have k3:=LJ dA (show b0≤b0+b1 by omega) k1;have k4:Q9 L (b0+b1)=0:=by rw[gi,if_pos k3]
  rw[k2,(KB dA af (by omega) (by omega) k4).2];exact⟨k4,Av dA af k1 (by omega)⟩
 have hE:Q9 L b0=0→L≠[]→JM L b0 (2 ^ L.length-1) (-1)≤((QH L b0).length:Int)-1:=fun h aA=>by obtain⟨k1,k2⟩:=KB dA af (by omega) (by omega) h;rw[k2];exact Fc dA af k1 aA
 have hG:L=[]→Q9 L b0=0∧(QH L b0).length=0∧JM L b0 (2 ^ L.length-1) (-1)=0:=fun h=>by subst h;obtain⟨k1,k2⟩:=Om (show 0≤b0 by omega) (by omega);exact⟨k1,by rw[k2];rfl,rfl⟩
 have qE:∀ i k:Int,(decide (Q1r (L.getD i.toNat Zg) (L.getD k.toNat Zg) > b0))=!alP L b0 i k:=fun i k=>by rw[Bool.eq_iff_iff,decide_eq_true_eq,Bool.not_eq_true',←Bool.not_eq_true,UT,←Q74 (by omega)];omega
 rw[e1,e2,e3];simp only[ho,dw];have iP:∀ i:Int,0≤i∧i<(L.length:Int)→∀ k:Int,0≤k∧k<(L.length:Int)→Zt L b0 i k=if alP L b0 i k=true then 0 else 1:=fun i hi k hk=>OY dA hi hk
 have kp:∀ i:Int,0≤i→i<(L.length:Int)→0≤(L.getD i.toNat Zg).2.1.1∧(L.getD i.toNat Zg).2.1.1≤1000∧0≤(L.getD i.toNat Zg).2.1.2∧(L.getD i.toNat Zg).2.1.2≤1000:=fun i h0 h1=>by
  have hj:i.toNat<L.length:=by omega
  have:=Bd.1 (af _ (List.getElem_mem hj));rw[Qa hj];omega
 generalize GM L b0 (2 ^ L.length-1) (-1)=r at *
 generalize JM L b0 (2 ^ L.length-1) (-1)=n0 at *
 have qF:L≠[]↔0<L.length:=List.length_pos_iff.symm;refine⟨hv,(fun c=>by cases c),hI _ (by omega) (by omega),by omega,by omega,by omega,(fun c=>by cases c),hI _ (by omega) (by omega),hI _ (by omega) (by omega),by omega,by omega,by omega,by omega,(fun c=>by cases c),hI _ (by omega) (by omega),hI _ (by omega) (by omega),by omega,fun c=>?_,fun _=>?_⟩
 ·exfalso;simp only[Bool.or_eq_true,Bool.and_eq_true,bne_iff_ne,decide_eq_true_eq,beq_iff_eq,ne_eq,not_true_eq_false,false_or] at c;by_cases h0:Q9 L b0=0
  ·have:=hC h0;omega
  ·omega
 refine⟨(),([],0,0),(by and_intros<;>first|rfl|trivial),?_⟩;refine⟨fun d=>∃ k:Nat,d.2.2=k∧k≤r.length∧d.2.1=NN (Zt L b0) (-1) (r.take k)∧0≤d.2.1∧d.2.1≤k∧∀ j,gq.aget (.i .i64) d.1 j false=true→j∈r.take k,fun d=>r.length-d.2.2.toNat,⟨0,rfl,by omega,rfl,by dsimp only;omega,by dsimp only;omega,fun j hj=>by cases hj⟩,?_⟩;rintro⟨m,s,k'⟩ ⟨k,f1,f2,f3,f4,f5,f6⟩;dsimp only at f1 f3 f4 f5 f6 ⊢;subst f1;simp only[Int.toNat_natCast];refine⟨fun g=>?_,fun g=>?_⟩
 ·have g:k<r.length:=by have:=of_decide_eq_true g;omega
  have bE:=Rm (sm:=Zt L b0) r (-1) k g;have iQ:=ZV g;have hx:r.getD k 0=r[k]:=Qa g;have bH:=r5 _ (List.getElem_mem g);have gS:=kp r[k] bH.1 bH.2;have dY:gq.aget (.i .i64) m r[k] false=false:=by
   cases ha:gq.aget (.i .i64) m r[k] false with
   |false=>rfl
   |true =>have h1:=f6 _ ha;obtain⟨j,hj,e⟩:=List.getElem_of_mem h1;rw[List.getElem_take] at e;rw[List.length_take] at hj;have:=(List.pairwise_iff_getElem.1 r4) j k (by omega) g (by omega);exact(this e).elim
  have e5:((k:Int)-1).toNat=k-1:=by omega
  have lO:=r5 _ (show r.getD (k-1) 0∈r by rw[Qa (show k-1<r.length by omega)];exact List.getElem_mem _);have ri:=kp (r.getD (k-1) 0) lO.1 lO.2;have dy:=iP _ lO _ bH;have cu:=qE (r.getD (k-1) 0) r[k];have b9:∀ j,gq.aget (.i .i64) (S4 (.i .i64) m r[k] true) j false=true→j∈r.take (k+1):=fun j hj=>by
   rw[OP] at hj;rw[iQ];split at hj
   ·rename_i e;rw[e];exact List.mem_append_right _ (List.mem_singleton.2 rfl)
   ·exact List.mem_append_left _ (f6 j hj)
  simp only[e5,hx] at bE ⊢;generalize hy:r.getD (k-1) 0=y at *
  have h1:decide (r[k]<0)=false:=decide_eq_false (by omega);have h2:decide (r[k]≥(L.length:Int))=false:=decide_eq_false (by omega);simp only[h1,h2,dY,Bool.or_false];change (decide (Q1r ((L.getD y.toNat Zg).1,((L.getD y.toNat Zg).2.1.1,(L.getD y.toNat Zg).2.1.2),(L.getD y.toNat Zg).2.2) ((L.getD r[k].toNat Zg).1,((L.getD r[k].toNat Zg).2.1.1,(L.getD r[k].toNat Zg).2.1.2),(L.getD r[k].toNat Zg).2.2) > b0))=_ at cu;simp only[cu];refine⟨by omega,by omega,fun _=>by omega,fun _=>by omega,fun _=>by omega,fun _=>by omega,(fun c=>by cases c),fun _=>⟨by omega,by omega,fun _=>hI _ (by omega) (by omega),fun w=>by have w:=of_decide_eq_true w;omega,fun w=>by have w:=of_decide_eq_true w;omega,fun w=>by have w:=of_decide_eq_true w;omega,fun w=>by have w:=of_decide_eq_true w;omega,fun w=>by have w:=of_decide_eq_true w;omega,fun w=>by have w:=of_decide_eq_true w;omega,fun w=>by have w:=of_decide_eq_true w;omega,fun w=>by have w:=of_decide_eq_true w;omega,fun _=>⟨by omega,by omega,by omega,by omega,by omega,by omega,by omega,by omega⟩,fun c=>?_,fun c=>?_⟩⟩
  ·simp only[Bool.and_eq_true,decide_eq_true_eq,Bool.not_eq_true'] at c;rw[if_neg (by omega),dy,if_neg (by rw[c.2];decide)] at bE;exact⟨hI _ (by omega) (by omega),hI _ (by omega) (by omega),(S4 (.i .i64) m r[k] true,s+1,(k:Int)+1),(by and_intros<;>first|rfl|trivial),⟨k+1,by simp,by omega,by dsimp only;omega,by dsimp only;omega,by dsimp only;omega,b9⟩,by dsimp only;omega⟩
  ·have qG:NN (Zt L b0) (-1) (r.take (k+1))=s:=by
    rw[bE,←f3];by_cases iL:k=0
    ·rw[if_pos iL,EK];omega
    ·rw[if_neg iL,dy];rw[decide_eq_true (by omega),Bool.true_and,Bool.not_eq_false'] at c;rw[if_pos c];omega
   exact⟨hI _ (by omega) (by omega),(S4 (.i .i64) m r[k] true,s,(k:Int)+1),(by and_intros<;>first|rfl|trivial),⟨k+1,by simp,by omega,qG.symm,f4,by dsimp only;omega,b9⟩,by dsimp only;omega⟩
 ·have hk:k=r.length:=by have:=of_decide_eq_false g;omega
  rw[hk,List.take_length,r2] at f3;rw[f3];have u6:NN (Zt L b0) (-1) r=n0:=r2;have uw:Q9 L b0=0→(QH L b0).length≤12:=fun h=>by
   obtain⟨k1,k2⟩:=KB dA af (by omega) (by omega) h;obtain⟨_,_,_,q4,q5,_,q7⟩:=Uq dA af k1;rw[k2,←q7];have:=Q1t (K:=L.length) (fun i=>i.toNat) (q4.imp fun h e=>by omega) (fun i hi=>by have:=q5 i hi;omega) fun i hi j hj e=>by have:=q5 i hi;have:=q5 j hj;omega
   omega
  refine⟨fun c=>by simp at c,fun _=>⟨fun c=>?_,fun c=>?_,fun _=>⟨fun c=>?_,fun c=>?_⟩⟩⟩
  ·simp only[Bool.and_eq_true,beq_iff_eq] at c;have:=uw c.1;exact hI _ (by omega) (by omega)
  ·exfalso;simp only[Bool.or_eq_true,Bool.and_eq_true,bne_iff_ne,decide_eq_true_eq,beq_iff_eq,ne_eq] at c;by_cases h0:Q9 L b0=0
   ·by_cases h1:L=[]
    ·have:=hG h1;rw[h1] at c;simp only[List.length_nil] at c;omega
    ·have:=hE h0 h1;omega
   ·omega
  ·have c:L=[]:=List.eq_nil_of_length_eq_zero (by have:=of_decide_eq_true c;omega);obtain⟨g1,g2,g3⟩:=hG c;rw[g1,g2,g3];exact(by and_intros<;>first|rfl|trivial|simp)
  ·have c:L≠[]:=fun e=>by rw[e] at c;cases c
   obtain⟨T,t1,t2,t3,t4⟩:=FH dA af (t:=b0) (ng:=1+10*b2) (by omega) (by omega) (by omega) (by omega) c;simp only[t1];have cr:=qF.1 c;refine⟨by omega,by omega,by omega,by omega,by omega,fun d=>?_,fun _=>⟨hI _ (by omega) (by omega),hI _ (by omega) (by omega),hI _ (by omega) (by omega),by omega,by omega,by omega,by omega,(fun d=>by cases d),by omega,by omega,fun _=>trivial,?_⟩⟩
   ·exfalso;simp only[Bool.or_eq_true,Bool.and_eq_true,bne_iff_ne,decide_eq_true_eq,beq_iff_eq,ne_eq] at d;have:=t3 d.1;omega
   ·rw[Bool.and_true];refine⟨?_,trivial⟩;simp only[Bool.or_eq_true,Bool.and_eq_true,bne_iff_ne,decide_eq_true_eq,beq_iff_eq,ne_eq];by_cases h0:Zm T b0 0 (1+10*b2)=0
    ·have:=t4 h0;exact .inr ⟨this.1,by omega⟩
    ·exact .inl h0
end Go.Proofs.Tryz
set_option linter.unusedVariables false
namespace Go.Proofs.Tryz
open Go Go.V Go.Proofs
theorem Q0t {x:List (Int×Int×Int×Int)×List Int}(h:KWf (.pair (.list (.pair (.i .u8) (.pair (.i .u8) (.pair (.i .u8) (.i .u8))))) (.list (.i .u8))) x):Am x.1 x.2:=by obtain⟨h1,h2⟩:=h;refine⟨h1.1,h2.1,fun y hy=>?_,fun y hy=>(DI y).1 (h2.2 y hy)⟩;obtain⟨a,b,c,d⟩:=h1.2 y hy;exact⟨(DI _).1 a,(DI _).1 b,(DI _).1 c,(DI _).1 d⟩
theorem morePre_of {x:(List (Int×Int×Int×Int)×List Int)×Int×Int×Int}(h:AWf [.pair (.list (.pair (.i .u8) (.pair (.i .u8) (.pair (.i .u8) (.i .u8))))) (.list (.i .u8)),.pair (.i .u8) (.pair (.i .u8) (.i .u8))] x):Am x.1.1 x.1.2∧0≤x.2.1∧x.2.1≤255∧0≤x.2.2.1∧x.2.2.1≤255∧0≤x.2.2.2∧x.2.2.2≤255:=by obtain⟨h1,h3,h4,h5⟩:=h;have h3:=(DI x.2.1).1 h3;have h4:=(DI x.2.2.1).1 h4;have h5:=(DI x.2.2.2).1 h5;exact⟨Q0t h1,h3.1,h3.2,h4.1,h4.2,h5.1,h5.2⟩
end Go.Proofs.Tryz