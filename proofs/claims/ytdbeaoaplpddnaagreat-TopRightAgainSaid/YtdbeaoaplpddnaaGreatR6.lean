/- A framework for walks, contracts of functions, and their proofs: part 6. -/
import Derived.ProofKit
import Derived.OpenShut
import Derived.LaidMore
import Derived.Carry
import Derived.Lib.SmallJoins
import Derived.Deep.Slices
import Derived.Test.YtdbeaoaplpddnaaGreatR5
set_option linter.unusedVariables false
namespace Go.Proofs.Tryz
open Go Go.V Go.Proofs
def Nd:AL (Int):=(.one (.k (.i .i64)))
def Hj (d:Int):Prop:=True
def VR (d:Int):SV:=.val .bo false
def VV (d:Int):List OB:=[]
def Kr:CSp:=W8 Nd Hj VR VV
def XP (a:Int):Prop :=
 ((a != a)=false∧(True))
def N3:Cx:=⟨[],[],6,[],0,[],[],[],[],false,[],[],[],[]⟩
def Pj (a:Int):List (Nat×LoopAnn):=[]
set_option maxRecDepth 100000 in
theorem Pc (d:Int):gwp (N3) (Pj d) c50 0 (WE [.tmp 2] (VR d) (VV d)) (Qp 6 (AL.can Nd d))=XP d:=by kernel_rfl
abbrev P5:Prop:=OkC Tryz.prog 50 Kr
theorem Pg (h:∀ (a:Int),(True)→XP a):OkC Tryz.prog 50 Kr :=
 Qz Q82 mixed (C:=N3) (V:=fun (d:Int)=>XP d) ⟨.nil,XsOk.nil,ItsOk.nil,YlOk.nil,IysOk.nil,XfOk.nil⟩ (Pc) fun d hp=>h d hp
theorem Ph:P5:=Pg fun a _=>by unfold XP;(try delta lI gD sT I64);simp
def V4:AL (Int×Int):=(.cons (.k (.i .i64)) (.one (.k (.i .i64))))
def D8 (d:Int×Int):Prop:=True
def KS (d:Int×Int):SV:=.val (.i .i64) (AY d.1 d.2)
def Kt (d:Int×Int):List OB:=[]
def Y0:CSp:=W8 V4 D8 KS Kt
def X0 (a:Int) (b:Int):Prop :=
 (True)∧(True)∧(false=true →
  (false=true →
   ((0:Int)=(AY a b)∧(True))) ∧
  (false=false →
   ((-1:Int)=(AY a b)∧(True)))) ∧
 (false=false →
  (false=true →
   ((1:Int)=(AY a b)∧(True))) ∧
  (false=false →
   ((decide (a<b))=true →
    ((-1:Int)=(AY a b)∧(True))) ∧
   ((decide (a<b))=false →
    ((decide (a > b))=true →
     ((1:Int)=(AY a b)∧(True))) ∧
    ((decide (a > b))=false →
     ((0:Int)=(AY a b)∧(True))))))
def Vr:Cx:=⟨[],[(50,Kr)],20,[],0,[],[],[],[],false,[],[],[],[]⟩
def BQ (a:Int) (b:Int):List (Nat×LoopAnn):=[]
set_option maxRecDepth 100000 in
theorem By (d:Int×Int):gwp (Vr) (BQ d.1 d.2) c30 0 (WE [.tmp 4] (KS d) (Kt d)) (Qp 20 (AL.can V4 d))=X0 d.1 d.2:=by kernel_rfl
abbrev DJ:Prop:=OkC Tryz.prog 30 Y0
theorem BD (h:∀ (a:Int) (b:Int),(True)→X0 a b):OkC Tryz.prog 30 Y0 :=
 Qz Z05 mixed (C:=Vr) (V:=fun (d:Int×Int)=>X0 d.1 d.2) ⟨(.cons Ph .nil),XsOk.nil,ItsOk.nil,YlOk.nil,IysOk.nil,XfOk.nil⟩ (By) fun d hp=>h d.1 d.2 hp
theorem Bd:DJ:=BD fun a b _=>by
 unfold X0;(try delta lI gD sT I64);simp only[decide_eq_true_eq,decide_eq_false_iff_not,true_and,and_true,decide_eq_true_eq,decide_eq_false_iff_not,gt_iff_lt,false_implies,Bool.false_eq_true,forall_const];unfold AY;refine⟨fun h=>?_,fun h=>⟨fun h2=>?_,fun h2=>?_⟩⟩
 ·rw[if_pos h]
 ·rw[if_neg h,if_pos h2]
 ·rw[if_neg h,if_neg h2]
def NY:AL ((Int×Int×Bool)×Int×Int×Bool):=(.cons (.agg (.cons (.k (.i .i64)) (.cons (.k (.i .i64)) (.one (.k .bo))))) (.one (.agg (.cons (.k (.i .i64)) (.cons (.k (.i .i64)) (.one (.k .bo)))))))
def Pq (d:(Int×Int×Bool)×Int×Int×Bool):Prop:=True
def N8 (d:(Int×Int×Bool)×Int×Int×Bool):SV:=.val (.i .i64) (AY d.1.1 d.2.1)
def UY (d:(Int×Int×Bool)×Int×Int×Bool):List OB:=[]
def Yd:CSp:=W8 NY Pq N8 UY
def Wz (cn:Int) (cr:Int) (ct:Bool) (dn:Int) (dr:Int) (dt:Bool):Prop :=
 (True)∧((AY cn dn)=(AY cn dn)∧(True))
def M7:Cx:=⟨[],[(30,Y0)],10,[],0,[],[],[],[],false,[],[],[],[]⟩
def PR (cn:Int) (cr:Int) (ct:Bool) (dn:Int) (dr:Int) (dt:Bool):List (Nat×LoopAnn):=[]
set_option maxRecDepth 100000 in
theorem TR (d:(Int×Int×Bool)×Int×Int×Bool):gwp (M7) (PR d.1.1 d.1.2.1 d.1.2.2 d.2.1 d.2.2.1 d.2.2.2) c29 0 (WE [.tmp 4] (N8 d) (UY d)) (Qp 10 (AL.can NY d))=Wz d.1.1 d.1.2.1 d.1.2.2 d.2.1 d.2.2.1 d.2.2.2:=by kernel_rfl
abbrev Tm:Prop:=OkC Tryz.prog 29 Yd
theorem Rr (h:∀ (cn:Int) (cr:Int) (ct:Bool) (dn:Int) (dr:Int) (dt:Bool),(True)→Wz cn cr ct dn dr dt):OkC Tryz.prog 29 Yd :=
 Qz Z0x mixed (C:=M7) (V:=fun (d:(Int×Int×Bool)×Int×Int×Bool)=>Wz d.1.1 d.1.2.1 d.1.2.2 d.2.1 d.2.2.1 d.2.2.2) ⟨(.cons Bd .nil),XsOk.nil,ItsOk.nil,YlOk.nil,IysOk.nil,XfOk.nil⟩ (TR) fun d hp=>h d.1.1 d.1.2.1 d.1.2.2 d.2.1 d.2.2.1 d.2.2.2 hp
theorem NN:Tm:=Rr fun cn cr ct dn dr dt _=>by unfold Wz;exact(by and_intros<;>first|rfl|trivial|simp)
def V8:AL (Int):=(.one (.k (.i .u32)))
def DB (d:Int):Prop:=False
def Kz (d:Int):SV:=.val (.i .i64) (L9 d)
def KT (d:Int):List OB:=[]
def Y3:CSp:=W8 V8 DB Kz KT
def WC (x:Int):Prop :=
 ((decide (x≥(65536:Int)))=true →
  (0≤(16:Int))∧((decide ((Qy .u32 x (16:Int))≥(256:Int)))=true →
   (0≤(8:Int))∧(I64 ((16:Int)+(8:Int)))∧(InK .u8 (Qy .u32 (Qy .u32 x (16:Int)) (8:Int)))∧(0≤(Qy .u32 (Qy .u32 x (16:Int)) (8:Int)))∧((Qy .u32 (Qy .u32 x (16:Int)) (8:Int))<(List.length len8T))∧(I64 ((UInt8.toNat (gD len8T (Qy .u32 (Qy .u32 x (16:Int)) (8:Int)) 0):Nat):Int))∧(I64 (((16:Int)+(8:Int))+((UInt8.toNat (gD len8T (Qy .u32 (Qy .u32 x (16:Int)) (8:Int)) 0):Nat):Int)))∧((((16:Int)+(8:Int))+((UInt8.toNat (gD len8T (Qy .u32 (Qy .u32 x (16:Int)) (8:Int)) 0):Nat):Int))=(L9 x)∧(True))) ∧
  ((decide ((Qy .u32 x (16:Int))≥(256:Int)))=false →
   (InK .u8 (Qy .u32 x (16:Int)))∧(0≤(Qy .u32 x (16:Int)))∧((Qy .u32 x (16:Int))<(List.length len8T))∧(I64 ((UInt8.toNat (gD len8T (Qy .u32 x (16:Int)) 0):Nat):Int))∧(I64 ((16:Int)+((UInt8.toNat (gD len8T (Qy .u32 x (16:Int)) 0):Nat):Int)))∧(((16:Int)+((UInt8.toNat (gD len8T (Qy .u32 x (16:Int)) 0):Nat):Int))=(L9 x)∧(True)))) ∧
 ((decide (x≥(65536:Int)))=false →
  ((decide (x≥(256:Int)))=true →
   (0≤(8:Int))∧(I64 ((0:Int)+(8:Int)))∧(InK .u8 (Qy .u32 x (8:Int)))∧(0≤(Qy .u32 x (8:Int)))∧((Qy .u32 x (8:Int))<(List.length len8T))∧(I64 ((UInt8.toNat (gD len8T (Qy .u32 x (8:Int)) 0):Nat):Int))∧(I64 (((0:Int)+(8:Int))+((UInt8.toNat (gD len8T (Qy .u32 x (8:Int)) 0):Nat):Int)))∧((((0:Int)+(8:Int))+((UInt8.toNat (gD len8T (Qy .u32 x (8:Int)) 0):Nat):Int))=(L9 x)∧(True))) ∧
  ((decide (x≥(256:Int)))=false →
   (InK .u8 x)∧(0≤x)∧(x<(List.length len8T))∧(I64 ((UInt8.toNat (gD len8T x 0):Nat):Int))∧(I64 ((0:Int)+((UInt8.toNat (gD len8T x 0):Nat):Int)))∧(((0:Int)+((UInt8.toNat (gD len8T x 0):Nat):Int))=(L9 x)∧(True))))
def Vf:Cx:=⟨[],[],19,[],0,[],[],[],[],false,[],[],[],[]⟩
def DH (x:Int):List (Nat×LoopAnn):=[]
set_option maxRecDepth 100000 in
theorem DT (d:Int):gwp (Vf) (DH d) c96 0 (WE [.tmp 2] (Kz d) (KT d)) (Qp 19 (AL.can V8 d))=WC d:=by kernel_rfl
abbrev DV:Prop:=OkC Tryz.prog 96 Y3
theorem Br (h:∀ (x:Int),(False)→WC x):OkC Tryz.prog 96 Y3 :=
 Qz Z0r mixed (C:=Vf) (V:=fun (d:Int)=>WC d) ⟨.nil,XsOk.nil,ItsOk.nil,YlOk.nil,IysOk.nil,XfOk.nil⟩ (DT) fun d hp=>h d hp
theorem BJ:DV:=Br fun x h=>h.elim
def Vt:AL (Int):=(.one (.k (.i .u64)))
def Dp (d:Int):Prop:=0≤d∧d≤255
def KY (d:Int):SV:=.val (.i .i64) (L9 d)
def KX (d:Int):List OB:=[]
def Y8:CSp:=W8 Vt Dp KY KX
def X2 (x:Int):Prop :=
 ((decide (x≥(4294967296:Int)))=true →
  (0≤(32:Int))∧((decide ((Qy .u64 x (32:Int))≥(65536:Int)))=true →
   (0≤(16:Int))∧(I64 ((32:Int)+(16:Int)))∧((decide ((Qy .u64 (Qy .u64 x (32:Int)) (16:Int))≥(256:Int)))=true →
    (0≤(8:Int))∧(I64 (((32:Int)+(16:Int))+(8:Int)))∧(InK .u8 (Qy .u64 (Qy .u64 (Qy .u64 x (32:Int)) (16:Int)) (8:Int)))∧(0≤(Qy .u64 (Qy .u64 (Qy .u64 x (32:Int)) (16:Int)) (8:Int)))∧((Qy .u64 (Qy .u64 (Qy .u64 x (32:Int)) (16:Int)) (8:Int))<(List.length len8T))∧(I64 ((UInt8.toNat (gD len8T (Qy .u64 (Qy .u64 (Qy .u64 x (32:Int)) (16:Int)) (8:Int)) 0):Nat):Int))∧(I64 ((((32:Int)+(16:Int))+(8:Int))+((UInt8.toNat (gD len8T (Qy .u64 (Qy .u64 (Qy .u64 x (32:Int)) (16:Int)) (8:Int)) 0):Nat):Int)))∧(((((32:Int)+(16:Int))+(8:Int))+((UInt8.toNat (gD len8T (Qy .u64 (Qy .u64 (Qy .u64 x (32:Int)) (16:Int)) (8:Int)) 0):Nat):Int))=(L9 x)∧(True))) ∧
   ((decide ((Qy .u64 (Qy .u64 x (32:Int)) (16:Int))≥(256:Int)))=false →
    (InK .u8 (Qy .u64 (Qy .u64 x (32:Int)) (16:Int)))∧(0≤(Qy .u64 (Qy .u64 x (32:Int)) (16:Int)))∧((Qy .u64 (Qy .u64 x (32:Int)) (16:Int))<(List.length len8T))∧(I64 ((UInt8.toNat (gD len8T (Qy .u64 (Qy .u64 x (32:Int)) (16:Int)) 0):Nat):Int))∧(I64 (((32:Int)+(16:Int))+((UInt8.toNat (gD len8T (Qy .u64 (Qy .u64 x (32:Int)) (16:Int)) 0):Nat):Int)))∧((((32:Int)+(16:Int))+((UInt8.toNat (gD len8T (Qy .u64 (Qy .u64 x (32:Int)) (16:Int)) 0):Nat):Int))=(L9 x)∧(True)))) ∧
  ((decide ((Qy .u64 x (32:Int))≥(65536:Int)))=false →
   ((decide ((Qy .u64 x (32:Int))≥(256:Int)))=true →
    (0≤(8:Int))∧(I64 ((32:Int)+(8:Int)))∧(InK .u8 (Qy .u64 (Qy .u64 x (32:Int)) (8:Int)))∧(0≤(Qy .u64 (Qy .u64 x (32:Int)) (8:Int)))∧((Qy .u64 (Qy .u64 x (32:Int)) (8:Int))<(List.length len8T))∧(I64 ((UInt8.toNat (gD len8T (Qy .u64 (Qy .u64 x (32:Int)) (8:Int)) 0):Nat):Int))∧(I64 (((32:Int)+(8:Int))+((UInt8.toNat (gD len8T (Qy .u64 (Qy .u64 x (32:Int)) (8:Int)) 0):Nat):Int)))∧((((32:Int)+(8:Int))+((UInt8.toNat (gD len8T (Qy .u64 (Qy .u64 x (32:Int)) (8:Int)) 0):Nat):Int))=(L9 x)∧(True))) ∧
   ((decide ((Qy .u64 x (32:Int))≥(256:Int)))=false →
    (InK .u8 (Qy .u64 x (32:Int)))∧(0≤(Qy .u64 x (32:Int)))∧((Qy .u64 x (32:Int))<(List.length len8T))∧(I64 ((UInt8.toNat (gD len8T (Qy .u64 x (32:Int)) 0):Nat):Int))∧(I64 ((32:Int)+((UInt8.toNat (gD len8T (Qy .u64 x (32:Int)) 0):Nat):Int)))∧(((32:Int)+((UInt8.toNat (gD len8T (Qy .u64 x (32:Int)) 0):Nat):Int))=(L9 x)∧(True))))) ∧
 ((decide (x≥(4294967296:Int)))=false →
  ((decide (x≥(65536:Int)))=true →
   (0≤(16:Int))∧(I64 ((0:Int)+(16:Int)))∧((decide ((Qy .u64 x (16:Int))≥(256:Int)))=true →
    (0≤(8:Int))∧(I64 (((0:Int)+(16:Int))+(8:Int)))∧(InK .u8 (Qy .u64 (Qy .u64 x (16:Int)) (8:Int)))∧(0≤(Qy .u64 (Qy .u64 x (16:Int)) (8:Int)))∧((Qy .u64 (Qy .u64 x (16:Int)) (8:Int))<(List.length len8T))∧(I64 ((UInt8.toNat (gD len8T (Qy .u64 (Qy .u64 x (16:Int)) (8:Int)) 0):Nat):Int))∧(I64 ((((0:Int)+(16:Int))+(8:Int))+((UInt8.toNat (gD len8T (Qy .u64 (Qy .u64 x (16:Int)) (8:Int)) 0):Nat):Int)))∧(((((0:Int)+(16:Int))+(8:Int))+((UInt8.toNat (gD len8T (Qy .u64 (Qy .u64 x (16:Int)) (8:Int)) 0):Nat):Int))=(L9 x)∧(True))) ∧
   ((decide ((Qy .u64 x (16:Int))≥(256:Int)))=false →
    (InK .u8 (Qy .u64 x (16:Int)))∧(0≤(Qy .u64 x (16:Int)))∧((Qy .u64 x (16:Int))<(List.length len8T))∧(I64 ((UInt8.toNat (gD len8T (Qy .u64 x (16:Int)) 0):Nat):Int))∧(I64 (((0:Int)+(16:Int))+((UInt8.toNat (gD len8T (Qy .u64 x (16:Int)) 0):Nat):Int)))∧((((0:Int)+(16:Int))+((UInt8.toNat (gD len8T (Qy .u64 x (16:Int)) 0):Nat):Int))=(L9 x)∧(True)))) ∧
  ((decide (x≥(65536:Int)))=false →
   ((decide (x≥(256:Int)))=true →
    (0≤(8:Int))∧(I64 ((0:Int)+(8:Int)))∧(InK .u8 (Qy .u64 x (8:Int)))∧(0≤(Qy .u64 x (8:Int)))∧((Qy .u64 x (8:Int))<(List.length len8T))∧(I64 ((UInt8.toNat (gD len8T (Qy .u64 x (8:Int)) 0):Nat):Int))∧(I64 (((0:Int)+(8:Int))+((UInt8.toNat (gD len8T (Qy .u64 x (8:Int)) 0):Nat):Int)))∧((((0:Int)+(8:Int))+((UInt8.toNat (gD len8T (Qy .u64 x (8:Int)) 0):Nat):Int))=(L9 x)∧(True))) ∧
   ((decide (x≥(256:Int)))=false →
    (InK .u8 x)∧(0≤x)∧(x<(List.length len8T))∧(I64 ((UInt8.toNat (gD len8T x 0):Nat):Int))∧(I64 ((0:Int)+((UInt8.toNat (gD len8T x 0):Nat):Int)))∧(((0:Int)+((UInt8.toNat (gD len8T x 0):Nat):Int))=(L9 x)∧(True)))))
def Vg:Cx:=⟨[],[],25,[],0,[],[],[],[],false,[],[],[],[]⟩
def BF (x:Int):List (Nat×LoopAnn):=[]
set_option maxRecDepth 100000 in
theorem BL (d:Int):gwp (Vg) (BF d) c97 0 (WE [.tmp 2] (KY d) (KX d)) (Qp 25 (AL.can Vt d))=X2 d:=by kernel_rfl
abbrev Bz:Prop:=OkC Tryz.prog 97 Y8
theorem BG (h:∀ (x:Int),(0≤x∧x≤255)→X2 x):OkC Tryz.prog 97 Y8 :=
 Qz Z0e mixed (C:=Vg) (V:=fun (d:Int)=>X2 d) ⟨.nil,XsOk.nil,ItsOk.nil,YlOk.nil,IysOk.nil,XfOk.nil⟩ (BL) fun d hp=>h d hp
theorem Bv:Bz:=BG fun x h=>by
 obtain⟨h1,h2⟩:=h;unfold X2;(try delta lI gD sT I64);have ah:(UInt8.toNat (List.getD len8T (Int.toNat x) 0):Int)≤255:=by have:=(List.getD len8T (Int.toNat x) 0).toNat_lt;omega
 refine⟨fun c=>by simp at c;omega,fun _=>⟨fun c=>by simp at c;omega,fun _=>⟨fun c=>by simp at c;omega,fun _=>?_⟩⟩⟩;have hl:len8T.length=256:=by decide +kernel
 rw[hl];simp only[Q0u,QM];refine⟨by omega,h1,by omega,by omega,by omega,?_⟩;unfold L9;rw[Int.zero_add];exact(by and_intros<;>first|rfl|trivial|simp)
def UZ:AL (Int):=(.one (.k (.i .u64)))
def Hh (d:Int):Prop:=0≤d∧d≤255
def VY (d:Int):SV:=.val (.i .i64) (L9 d)
def U7 (d:Int):List OB:=[]
def Kp:CSp:=W8 UZ Hh VY U7
def XO (x:Int):Prop :=
 (false=true →
  (InK .u32 x)∧(False)∧((L9 x)=(L9 x)∧(True))) ∧
 (false=false →
  (0≤x∧x≤255)∧((L9 x)=(L9 x)∧(True)))
def N4:Cx:=⟨[],[(96,Y3),(97,Y8)],8,[],0,[],[],[],[],false,[],[],[],[]⟩
def Po (x:Int):List (Nat×LoopAnn):=[]
set_option maxRecDepth 100000 in
theorem Pb (d:Int):gwp (N4) (Po d) c73 0 (WE [.tmp 2] (VY d) (U7 d)) (Qp 8 (AL.can UZ d))=XO d:=by kernel_rfl
abbrev P2:Prop:=OkC Tryz.prog 73 Kp
theorem Pd (h:∀ (x:Int),(0≤x∧x≤255)→XO x):OkC Tryz.prog 73 Kp :=
 Qz Q7x mixed (C:=N4) (V:=fun (d:Int)=>XO d) ⟨(.cons BJ (.cons Bv .nil)),XsOk.nil,ItsOk.nil,YlOk.nil,IysOk.nil,XfOk.nil⟩ (Pb) fun d hp=>h d hp
theorem P7:P2:=Pd fun x h=>by unfold XO;(try delta lI gD sT I64);exact⟨(fun c=>by cases c),fun _=>⟨h,(by and_intros<;>first|rfl|trivial|simp)⟩⟩
def Z5:AL (Int×Int×(((Int×Int×Bool)×(Int×Int×Bool)→Prop)×((Int×Int×Bool)×(Int×Int×Bool)→Int))):=(.cons (.k (.i .i64)) (.cons (.k (.i .i64)) (.one (.fn [(.pair (.i .i64) (.pair (.i .i64) .bo)),(.pair (.i .i64) (.pair (.i .i64) .bo))] (.i .i64)))))
def Jo (xs:List (Int×Int×Bool)) (nl:Bool) (d:Int×Int×(((Int×Int×Bool)×(Int×Int×Bool)→Prop)×((Int×Int×Bool)×(Int×Int×Bool)→Int))):Prop:=0≤d.1∧d.1≤d.2.1∧d.2.1≤xs.length∧xs.length≤12∧(∀ x∈xs,∀ y∈xs,d.2.2.1 (x,y))
def Z3 (xs:List (Int×Int×Bool)) (nl:Bool) (d:Int×Int×(((Int×Int×Bool)×(Int×Int×Bool)→Prop)×((Int×Int×Bool)×(Int×Int×Bool)→Int))):SV:=.tup []
def QZ (xs:List (Int×Int×Bool)) (nl:Bool) (d:Int×Int×(((Int×Int×Bool)×(Int×Int×Bool)→Prop)×((Int×Int×Bool)×(Int×Int×Bool)→Int))):List (Int×Int×Bool):=(TJ d.2.2.2 xs d.1.toNat d.2.1.toNat)
def QA:XSp:=Fq (gap [] 3) (OE 43 (.pair (.i .i64) (.pair (.i .i64) .bo)) Z5 Jo Z3 QZ)
def Qj (xs:List (Int×Int×Bool)) (nl:Bool) (a:Int) (b:Int) (p:((Int×Int×Bool)×(Int×Int×Bool)→Prop)×((Int×Int×Bool)×(Int×Int×Bool)→Int)):Prop:=∀ vals:List Value,
 (I64 (a+(1:Int)))∧∃ (e2:Unit) (d20:(List (Int×Int×Bool))×Bool×Int),((True∧a=a∧b=b∧(SV.pf [(.pair (.i .i64) (.pair (.i .i64) .bo)),(.pair (.i .i64) (.pair (.i .i64) .bo))] (.i .i64) p.1 p.2=SV.pf [(.pair (.i .i64) (.pair (.i .i64) .bo)),(.pair (.i .i64) (.pair (.i .i64) .bo))] (.i .i64) p.1 p.2)∧(a+(1:Int))=d20.2.2∧True)∧((xs=d20.1∧nl=d20.2.1)∧(vals=vals∧(True∧(([]:List SV)=[])))∧True)) ∧
 LoopP (fun (d2:(List (Int×Int×Bool))×Bool×Int) (q2:((List (Int×Int×Bool))×Bool×Int)→Prop) =>
  ((decide (d2.2.2<b))=true →
   ∃ (e5:Bool×Int) (d50:(List (Int×Int×Bool))×Int),((True∧a=a∧b=b∧(SV.pf [(.pair (.i .i64) (.pair (.i .i64) .bo)),(.pair (.i .i64) (.pair (.i .i64) .bo))] (.i .i64) p.1 p.2=SV.pf [(.pair (.i .i64) (.pair (.i .i64) .bo)),(.pair (.i .i64) (.pair (.i .i64) .bo))] (.i .i64) p.1 p.2)∧d2.2.2=e5.2∧d2.2.2=d50.2∧True)∧((d2.1=d50.1∧d2.2.1=e5.1)∧(vals=vals∧(True∧(([]:List SV)=[])))∧True)) ∧
   LoopP (fun (d5:(List (Int×Int×Bool))×Int) (q5:((List (Int×Int×Bool))×Int)→Prop) =>
    ((decide (d5.2 > a))=true→0≤d5.2)∧((decide (d5.2 > a))=true→d5.2<(List.length d5.1))∧((decide (d5.2 > a))=true→InK .i64 (d5.2-(1:Int)))∧((decide (d5.2 > a))=true→0≤(d5.2-(1:Int)))∧((decide (d5.2 > a))=true→(d5.2-(1:Int))<(List.length d5.1))∧((decide (d5.2 > a))=true→p.1 (((gD d5.1 d5.2 (0,(0,false))).1,((gD d5.1 d5.2 (0,(0,false))).2.1,(gD d5.1 d5.2 (0,(0,false))).2.2)),((gD d5.1 (d5.2-(1:Int)) (0,(0,false))).1,((gD d5.1 (d5.2-(1:Int)) (0,(0,false))).2.1,(gD d5.1 (d5.2-(1:Int)) (0,(0,false))).2.2))))∧(((decide (d5.2 > a))&&(decide ((p.2 (((gD d5.1 d5.2 (0,(0,false))).1,((gD d5.1 d5.2 (0,(0,false))).2.1,(gD d5.1 d5.2 (0,(0,false))).2.2)),((gD d5.1 (d5.2-(1:Int)) (0,(0,false))).1,((gD d5.1 (d5.2-(1:Int)) (0,(0,false))).2.1,(gD d5.1 (d5.2-(1:Int)) (0,(0,false))).2.2))))<(0:Int))))=true →
     (I64 (d5.2-(1:Int)))∧(I64 (d5.2-(1:Int)))∧(0≤(d5.2-(1:Int)))∧((d5.2-(1:Int))<(List.length d5.1))∧(0≤d5.2)∧(d5.2<(List.length d5.1))∧(0≤d5.2)∧(d5.2<(List.length d5.1))∧(0≤(d5.2-(1:Int)))∧((d5.2-(1:Int))<(List.length (sT d5.1 d5.2 ((gD d5.1 (d5.2-(1:Int)) (0,(0,false))).1,((gD d5.1 (d5.2-(1:Int)) (0,(0,false))).2.1,(gD d5.1 (d5.2-(1:Int)) (0,(0,false))).2.2)))))∧(I64 (d5.2-(1:Int)))∧(∃ d6:(List (Int×Int×Bool))×Int,((True∧a=a∧b=b∧(SV.pf [(.pair (.i .i64) (.pair (.i .i64) .bo)),(.pair (.i .i64) (.pair (.i .i64) .bo))] (.i .i64) p.1 p.2=SV.pf [(.pair (.i .i64) (.pair (.i .i64) .bo)),(.pair (.i .i64) (.pair (.i .i64) .bo))] (.i .i64) p.1 p.2)∧e5.2=e5.2∧(d5.2-(1:Int))=d6.2∧True)∧(((sT (sT d5.1 d5.2 ((gD d5.1 (d5.2-(1:Int)) (0,(0,false))).1,((gD d5.1 (d5.2-(1:Int)) (0,(0,false))).2.1,(gD d5.1 (d5.2-(1:Int)) (0,(0,false))).2.2))) (d5.2-(1:Int)) ((gD d5.1 d5.2 (0,(0,false))).1,((gD d5.1 d5.2 (0,(0,false))).2.1,(gD d5.1 d5.2 (0,(0,false))).2.2)))=d6.1∧e5.1=e5.1)∧(vals=vals∧(True∧(([]:List SV)=[])))∧True))∧q5 d6)) ∧
    (((decide (d5.2 > a))&&(decide ((p.2 (((gD d5.1 d5.2 (0,(0,false))).1,((gD d5.1 d5.2 (0,(0,false))).2.1,(gD d5.1 d5.2 (0,(0,false))).2.2)),((gD d5.1 (d5.2-(1:Int)) (0,(0,false))).1,((gD d5.1 (d5.2-(1:Int)) (0,(0,false))).2.1,(gD d5.1 (d5.2-(1:Int)) (0,(0,false))).2.2))))<(0:Int))))=false →
     (I64 (e5.2+(1:Int)))∧(∃ d7:(List (Int×Int×Bool))×Bool×Int,((True∧a=a∧b=b∧(SV.pf [(.pair (.i .i64) (.pair (.i .i64) .bo)),(.pair (.i .i64) (.pair (.i .i64) .bo))] (.i .i64) p.1 p.2=SV.pf [(.pair (.i .i64) (.pair (.i .i64) .bo)),(.pair (.i .i64) (.pair (.i .i64) .bo))] (.i .i64) p.1 p.2)∧(e5.2+(1:Int))=d7.2.2∧True)∧((d5.1=d7.1∧e5.1=d7.2.1)∧(vals=vals∧(True∧(([]:List SV)=[])))∧True))∧q2 d7))) d50) ∧
  ((decide (d2.2.2<b))=false →
   (vals=vals∧(True∧(([]:List SV)=[]))∧((([]:List SV)=[]))∧(d2.1=(TJ p.2 xs a.toNat b.toNat)∧d2.2.1=nl)))) d20
def Z6:Cx:=⟨[],[],53,[],0,[],[],[],[],false,[],[],[],[]⟩
def Z7 (xs:List (Int×Int×Bool)) (nl:Bool) (a:Int) (b:Int) (p:((Int×Int×Bool)×(Int×Int×Bool)→Prop)×((Int×Int×Bool)×(Int×Int×Bool)→Int)) (vals:List Value):List (Nat×LoopAnn):=[(0,⟨Unit,(List (Int×Int×Bool))×Bool×Int,[0,1,2,3,8],fun e x=>[.lst 0,.val (.i .i64) a,.val (.i .i64) b,.pf [(.pair (.i .i64) (.pair (.i .i64) .bo)),(.pair (.i .i64) (.pair (.i .i64) .bo))] (.i .i64) p.1 p.2,.val (.i .i64) x.2.2],fun e x=>[(0,.slot 0,.lst 43 (.pair (.i .i64) (.pair (.i .i64) .bo)) x.1 x.2.1),(4000000,.key 4000000,.stk [.lst 0] vals)]⟩),
 (2,⟨Bool×Int,(List (Int×Int×Bool))×Int,[0,1,2,3,8,9],fun e x=>[.lst 0,.val (.i .i64) a,.val (.i .i64) b,.pf [(.pair (.i .i64) (.pair (.i .i64) .bo)),(.pair (.i .i64) (.pair (.i .i64) .bo))] (.i .i64) p.1 p.2,.val (.i .i64) e.2,.val (.i .i64) x.2],fun e x=>[(0,.slot 0,.lst 43 (.pair (.i .i64) (.pair (.i .i64) .bo)) x.1 e.1),(4000000,.key 4000000,.stk [.lst 0] vals)]⟩)]
set_option maxRecDepth 100000 in
theorem Jv (xs:List (Int×Int×Bool)) (nl:Bool) (d:Int×Int×(((Int×Int×Bool)×(Int×Int×Bool)→Prop)×((Int×Int×Bool)×(Int×Int×Bool)→Int))):(∀ vals,gwp Z6 (Z7 xs nl d.1 d.2.1 d.2.2 vals) c88 0 (OZ vals [] (Z3 xs nl d) (.lst 43 (.pair (.i .i64) (.pair (.i .i64) .bo)) (QZ xs nl d) nl) (.lst 0)) (N1 53 (.lst 0) (.lst 43 (.pair (.i .i64) (.pair (.i .i64) .bo)) xs nl) vals (AL.can Z5 d)))=Qj xs nl d.1 d.2.1 d.2.2:=by kernel_rfl
abbrev Jx:Prop:=XOk Tryz.prog 88 QA
theorem Jw (h:∀ (xs:List (Int×Int×Bool)) (nl:Bool) (a:Int) (b:Int) (p:((Int×Int×Bool)×(Int×Int×Bool)→Prop)×((Int×Int×Bool)×(Int×Int×Bool)→Int)),(0≤a∧a≤b∧b≤xs.length∧xs.length≤12∧(∀ x∈xs,∀ y∈xs,p.1 (x,y)))→Qj xs nl a b p):XOk Tryz.prog 88 QA :=
 Py Z0m mixed (Ll .nil 3) (C:=Z6) ⟨.nil,XsOk.nil,ItsOk.nil,YlOk.nil,IysOk.nil,XfOk.nil⟩ (L:=fun xs nl (d:Int×Int×(((Int×Int×Bool)×(Int×Int×Bool)→Prop)×((Int×Int×Bool)×(Int×Int×Bool)→Int))) vals=>Z7 xs nl d.1 d.2.1 d.2.2 vals) (V:=fun xs nl (d:Int×Int×(((Int×Int×Bool)×(Int×Int×Bool)→Prop)×((Int×Int×Bool)×(Int×Int×Bool)→Int)))=>Qj xs nl d.1 d.2.1 d.2.2) Jv fun xs nl d hp=>h xs nl d.1 d.2.1 d.2.2 hp
theorem Jm:Jx:=Jw fun xs nl a b p h=>by
 obtain⟨h1,h2,h3,h4,h5⟩:=h;unfold Qj;(try delta lI gD sT I64);intro vals;have hI:∀ e:Int,-1000≤e→e≤1000→InK .i64 e:=fun e _ _=>by simp only[QM];omega
 obtain⟨a,rfl⟩:∃ n:Nat,a=n:=⟨a.toNat,by omega⟩;obtain⟨b,rfl⟩:∃ n:Nat,b=n:=⟨b.toNat,by omega⟩;simp only[Int.toNat_natCast];refine⟨hI _ (by omega) (by omega),(),(xs,nl,(a:Int)+1),(by and_intros<;>first|rfl|trivial|simp),?_⟩;refine⟨fun d=>∃ n:Nat,d.2.2=(a:Int)+1+n∧(n=0∨a+1+n≤b)∧nl=d.2.1∧d.1=Q2y (fun x y=>decide (p.2 (x,y)<0)) a n xs,fun d=>(1000-d.2.2).toNat,⟨0,by simp,.inl rfl,rfl,rfl⟩,?_⟩;rintro⟨ys,kE,i⟩ ⟨n,e1,e2,e3,e4⟩;dsimp only at e1 e2 e3 e4 ⊢;subst e1 e3;refine⟨fun c=>?_,fun c=>?_⟩
 ·have c:a+1+n<b:=by simp at c;omega
  have hp:ys.Perm xs:=by rw[e4];exact DM _ (by omega)
  have hlen:=hp.length_eq;refine⟨(nl,(a:Int)+1+n),(ys,(a:Int)+1+n),(by and_intros<;>first|rfl|trivial|simp),?_⟩;dsimp only;refine⟨fun d=>∃ j:Nat,d.2=j∧j≤a+1+n∧d.1.Perm xs∧EE (fun x y=>decide (p.2 (x,y)<0)) a j d.1=Q2y (fun x y=>decide (p.2 (x,y)<0)) a (n+1) xs,fun d=>d.2.toNat,⟨a+1+n,by simp,Nat.le_refl _,hp,by rw[e4];rfl⟩,?_⟩;rintro⟨zs,j'⟩ ⟨j,f1,f2,f3,f4⟩;dsimp only at f1 f3 f4 ⊢;subst f1;have wI:=f3.length_eq;have jM:((j:Int)-1).toNat=j-1:=by omega
  simp only[Int.toNat_natCast,jM];refine⟨fun g=>by omega,fun g=>by omega,fun g=>hI _ (by omega) (by omega),fun g=>by simp at g;omega,fun g=>by omega,fun g=>by rw[Qa (show j<zs.length by omega),Qa (show j-1<zs.length by omega)];exact h5 _ (f3.mem_iff.1 (List.getElem_mem _)) _ (f3.mem_iff.1 (List.getElem_mem _)),fun g=>?_,fun g=>?_⟩
  ·have g:a<j∧p.2 (zs.getD j (0,(0,false)),zs.getD (j-1) (0,(0,false)))<0:=by simpa using g
   refine⟨hI _ (by omega) (by omega),hI _ (by omega) (by omega),by omega,by omega,by omega,by omega,by omega,by omega,by omega,by rw[List.length_set];omega,hI _ (by omega) (by omega),((zs.set j (zs.getD (j-1) (0,(0,false)))).set (j-1) (zs.getD j (0,(0,false))),(j:Int)-1),(by and_intros<;>first|rfl|trivial|simp),⟨j-1,by omega,by omega,(OK (by omega) (by omega)).trans f3,Q42 f4 g.1 g.2⟩,by dsimp only;omega⟩
  ·refine⟨hI _ (by omega) (by omega),(zs,nl,(a:Int)+1+n+1),(by and_intros<;>first|rfl|trivial|simp),⟨n+1,by simp;omega,by omega,rfl,Q6s f4 fun hh=>?_⟩,by dsimp only;omega⟩;have h7:p.2 (zs.getD j (0,(0,false)),zs.getD (j-1) (0,(0,false)))<0:=hh.2;have h8:a<j:=hh.1;rw[decide_eq_true (show (j:Int) > a by omega),decide_eq_true h7] at g;cases g
 ·have hn:n=b-a-1:=by simp at c;omega
  rw[e4,hn];exact(by and_intros<;>first|rfl|trivial|simp)
def Zq:AL (Int×Int×Int×(((Int×Int×Bool)×(Int×Int×Bool)→Prop)×((Int×Int×Bool)×(Int×Int×Bool)→Int))):=(.cons (.k (.i .i64)) (.cons (.k (.i .i64)) (.cons (.k (.i .i64)) (.one (.fn [(.pair (.i .i64) (.pair (.i .i64) .bo)),(.pair (.i .i64) (.pair (.i .i64) .bo))] (.i .i64))))))
def X9 (xs:List (Int×Int×Bool)) (nl:Bool) (d:Int×Int×Int×(((Int×Int×Bool)×(Int×Int×Bool)→Prop)×((Int×Int×Bool)×(Int×Int×Bool)→Int))):Prop:=d.1=0∧d.2.1=xs.length∧xs.length≤12∧(∀ x∈xs,∀ y∈xs,d.2.2.2.1 (x,y))
def Zm (xs:List (Int×Int×Bool)) (nl:Bool) (d:Int×Int×Int×(((Int×Int×Bool)×(Int×Int×Bool)→Prop)×((Int×Int×Bool)×(Int×Int×Bool)→Int))):SV:=.tup []
def Zh (xs:List (Int×Int×Bool)) (nl:Bool) (d:Int×Int×Int×(((Int×Int×Bool)×(Int×Int×Bool)→Prop)×((Int×Int×Bool)×(Int×Int×Bool)→Int))):List (Int×Int×Bool):=(TJ d.2.2.2.2 xs 0 xs.length)
def QN:XSp:=Fq (gap [] 3) (OE 43 (.pair (.i .i64) (.pair (.i .i64) .bo)) Zq X9 Zm Zh)
def Qr (xs:List (Int×Int×Bool)) (nl:Bool) (a:Int) (b:Int) (li:Int) (p:((Int×Int×Bool)×(Int×Int×Bool)→Prop)×((Int×Int×Bool)×(Int×Int×Bool)→Int)):Prop:=∀ vals:List Value,
 ∃ (e3:Unit) (d30:Unit),((True∧a=a∧b=b∧li=li∧(SV.pf [(.pair (.i .i64) (.pair (.i .i64) .bo)),(.pair (.i .i64) (.pair (.i .i64) .bo))] (.i .i64) p.1 p.2=SV.pf [(.pair (.i .i64) (.pair (.i .i64) .bo)),(.pair (.i .i64) (.pair (.i .i64) .bo))] (.i .i64) p.1 p.2)∧true=true∧true=true∧True)∧((xs=xs∧nl=nl)∧(vals=vals∧(True∧(([]:List SV)=[])))∧True)) ∧
 LoopP (fun (d3:Unit) (q3:(Unit)→Prop) =>
  (I64 (b-a))∧((decide ((b-a)≤(12:Int)))=true →
   (0≤a∧a≤b∧b≤xs.length∧xs.length≤12∧(∀ x∈xs,∀ y∈xs,(fun (x1:(Int×Int×Bool)×(Int×Int×Bool))=>p.1 ((x1.1.1,(x1.1.2.1,x1.1.2.2)),(x1.2.1,(x1.2.2.1,x1.2.2.2)))) (x,y)))∧(vals=vals∧(True∧(([]:List SV)=[]))∧((([]:List SV)=[]))∧((TJ (fun (x1:(Int×Int×Bool)×(Int×Int×Bool))=>(p.2 ((x1.1.1,(x1.1.2.1,x1.1.2.2)),(x1.2.1,(x1.2.2.1,x1.2.2.2))))) xs a.toNat b.toNat)=(TJ p.2 xs 0 xs.length)∧nl=nl))) ∧
  ((decide ((b-a)≤(12:Int)))=false →
   ((li==(0:Int))=true →
    False) ∧
   ((li==(0:Int))=false →
    ((!true)=true →
     False) ∧
    ((!true)=false →
     False)))) d30
def Zn:Cx:=⟨[],[],148,[],0,[(88,QA),(89,Q3q),(90,Q3q),(91,Q3q)],[],[],[],false,[],[],[],[]⟩
def Zo (xs:List (Int×Int×Bool)) (nl:Bool) (a:Int) (b:Int) (li:Int) (p:((Int×Int×Bool)×(Int×Int×Bool)→Prop)×((Int×Int×Bool)×(Int×Int×Bool)→Int)) (vals:List Value):List (Nat×LoopAnn):=[(0,⟨Unit,Unit,[0,1,2,3,4,10,11],fun e x=>[.lst 0,.val (.i .i64) a,.val (.i .i64) b,.val (.i .i64) li,.pf [(.pair (.i .i64) (.pair (.i .i64) .bo)),(.pair (.i .i64) (.pair (.i .i64) .bo))] (.i .i64) p.1 p.2,.val .bo true,.val .bo true],fun e x=>[(0,.slot 0,.lst 43 (.pair (.i .i64) (.pair (.i .i64) .bo)) xs nl),(4000000,.key 4000000,.stk [.lst 0] vals)]⟩)]
set_option maxRecDepth 100000 in
theorem Xn (xs:List (Int×Int×Bool)) (nl:Bool) (d:Int×Int×Int×(((Int×Int×Bool)×(Int×Int×Bool)→Prop)×((Int×Int×Bool)×(Int×Int×Bool)→Int))):(∀ vals,gwp Zn (Zo xs nl d.1 d.2.1 d.2.2.1 d.2.2.2 vals) c72 0 (OZ vals [] (Zm xs nl d) (.lst 43 (.pair (.i .i64) (.pair (.i .i64) .bo)) (Zh xs nl d) nl) (.lst 0)) (N1 148 (.lst 0) (.lst 43 (.pair (.i .i64) (.pair (.i .i64) .bo)) xs nl) vals (AL.can Zq d)))=Qr xs nl d.1 d.2.1 d.2.2.1 d.2.2.2:=by kernel_rfl
abbrev Xm:Prop:=XOk Tryz.prog 72 QN
theorem Xo (h:∀ (xs:List (Int×Int×Bool)) (nl:Bool) (a:Int) (b:Int) (li:Int) (p:((Int×Int×Bool)×(Int×Int×Bool)→Prop)×((Int×Int×Bool)×(Int×Int×Bool)→Int)),(a=0∧b=xs.length∧xs.length≤12∧(∀ x∈xs,∀ y∈xs,p.1 (x,y)))→Qr xs nl a b li p):XOk Tryz.prog 72 QN :=
 Py Q9j mixed (Ll .nil 3) (C:=Zn) ⟨.nil,(XsOk.cons Jm (XsOk.cons Lt (XsOk.cons Lt (XsOk.cons Lt XsOk.nil)))),ItsOk.nil,YlOk.nil,IysOk.nil,XfOk.nil⟩ (L:=fun xs nl (d:Int×Int×Int×(((Int×Int×Bool)×(Int×Int×Bool)→Prop)×((Int×Int×Bool)×(Int×Int×Bool)→Int))) vals=>Zo xs nl d.1 d.2.1 d.2.2.1 d.2.2.2 vals) (V:=fun xs nl (d:Int×Int×Int×(((Int×Int×Bool)×(Int×Int×Bool)→Prop)×((Int×Int×Bool)×(Int×Int×Bool)→Int)))=>Qr xs nl d.1 d.2.1 d.2.2.1 d.2.2.2) Xn fun xs nl d hp=>h xs nl d.1 d.2.1 d.2.2.1 d.2.2.2 hp
theorem Xd:Xm:=Xo fun xs nl a b li p h=>by
 obtain⟨rfl,rfl,h2,h3⟩:=h;unfold Qr;(try delta lI gD sT I64);intro vals;refine⟨(),(),(by and_intros<;>first|rfl|trivial|simp),?_⟩;refine⟨fun _=>True,fun _=>0,trivial,?_⟩;rintro⟨⟩ -
 refine⟨by simp only[QM];omega,fun _=>⟨⟨by omega,by omega,by omega,h2,h3⟩,(by and_intros<;>first|rfl|trivial|simp)⟩,fun c=>by simp at c;omega⟩
def QY:AL (((Int×Int×Bool)×(Int×Int×Bool)→Prop)×((Int×Int×Bool)×(Int×Int×Bool)→Int)):=(.one (.fn [(.pair (.i .i64) (.pair (.i .i64) .bo)),(.pair (.i .i64) (.pair (.i .i64) .bo))] (.i .i64)))
def J9 (xs:List (Int×Int×Bool)) (nl:Bool) (d:((Int×Int×Bool)×(Int×Int×Bool)→Prop)×((Int×Int×Bool)×(Int×Int×Bool)→Int)):Prop:=xs.length≤12∧(∀ x∈xs,∀ y∈xs,d.1 (x,y))
def QU (xs:List (Int×Int×Bool)) (nl:Bool) (d:((Int×Int×Bool)×(Int×Int×Bool)→Prop)×((Int×Int×Bool)×(Int×Int×Bool)→Int)):SV:=.tup []
def QO (xs:List (Int×Int×Bool)) (nl:Bool) (d:((Int×Int×Bool)×(Int×Int×Bool)→Prop)×((Int×Int×Bool)×(Int×Int×Bool)→Int)):List (Int×Int×Bool):=(TJ d.2 xs 0 xs.length)
def Qw:XSp:=Fq (gap [(29,Yd)] 3) (OE 43 (.pair (.i .i64) (.pair (.i .i64) .bo)) QY J9 QU QO)
def Qe (xs:List (Int×Int×Bool)) (nl:Bool) (p:((Int×Int×Bool)×(Int×Int×Bool)→Prop)×((Int×Int×Bool)×(Int×Int×Bool)→Int)):Prop:=∀ vals:List Value,
 (InK .u64 (lI xs))∧(0≤(lI xs)∧(lI xs)≤255)∧((0:Int)=0∧(lI xs)=xs.length∧xs.length≤12∧(∀ x∈xs,∀ y∈xs,(fun (x1:(Int×Int×Bool)×(Int×Int×Bool))=>p.1 ((x1.1.1,(x1.1.2.1,x1.1.2.2)),(x1.2.1,(x1.2.2.1,x1.2.2.2)))) (x,y)))∧(vals=vals∧(True∧(([]:List SV)=[]))∧((([]:List SV)=[]))∧((TJ (fun (x1:(Int×Int×Bool)×(Int×Int×Bool))=>(p.2 ((x1.1.1,(x1.1.2.1,x1.1.2.2)),(x1.2.1,(x1.2.2.1,x1.2.2.2))))) xs 0 xs.length)=(TJ p.2 xs 0 xs.length)∧nl=nl))
def Q_:Cx:=⟨[],[(73,Kp)],14,[],0,[(72,QN)],[],[],[],false,[],[],[],[]⟩
def Z0 (xs:List (Int×Int×Bool)) (nl:Bool) (p:((Int×Int×Bool)×(Int×Int×Bool)→Prop)×((Int×Int×Bool)×(Int×Int×Bool)→Int)) (vals:List Value):List (Nat×LoopAnn):=[]
set_option maxRecDepth 100000 in
theorem Jf (xs:List (Int×Int×Bool)) (nl:Bool) (d:((Int×Int×Bool)×(Int×Int×Bool)→Prop)×((Int×Int×Bool)×(Int×Int×Bool)→Int)):(∀ vals,gwp Q_ (Z0 xs nl d vals) c48 0 (OZ vals [] (QU xs nl d) (.lst 43 (.pair (.i .i64) (.pair (.i .i64) .bo)) (QO xs nl d) nl) (.lst 0)) (N1 14 (.lst 0) (.lst 43 (.pair (.i .i64) (.pair (.i .i64) .bo)) xs nl) vals (AL.can QY d)))=Qe xs nl d:=by kernel_rfl
abbrev Jg:Prop:=XOk Tryz.prog 48 Qw
theorem Jd (h:∀ (xs:List (Int×Int×Bool)) (nl:Bool) (p:((Int×Int×Bool)×(Int×Int×Bool)→Prop)×((Int×Int×Bool)×(Int×Int×Bool)→Int)),(xs.length≤12∧(∀ x∈xs,∀ y∈xs,p.1 (x,y)))→Qe xs nl p):XOk Tryz.prog 48 Qw :=
 Py Q9c mixed (Ll (.cons NN .nil) 3) (C:=Q_) ⟨(.cons P7 .nil),(XsOk.cons Xd XsOk.nil),ItsOk.nil,YlOk.nil,IysOk.nil,XfOk.nil⟩ (L:=fun xs nl (d:((Int×Int×Bool)×(Int×Int×Bool)→Prop)×((Int×Int×Bool)×(Int×Int×Bool)→Int)) vals=>Z0 xs nl d vals) (V:=fun xs nl (d:((Int×Int×Bool)×(Int×Int×Bool)→Prop)×((Int×Int×Bool)×(Int×Int×Bool)→Int))=>Qe xs nl d) Jf fun xs nl d hp=>h xs nl d hp
theorem Ja:Jg:=Jd fun xs nl p h=>by unfold Qe;(try delta lI gD sT I64);intro vals;have:=h.1;refine⟨by simp only[TT];omega,⟨by omega,by omega⟩,⟨rfl,rfl,h.1,h.2⟩,?_⟩;exact(by and_intros<;>first|rfl|trivial|simp)
end Go.Proofs.Tryz
namespace Go.V
open Go
theorem Q34 {P:Program}{σ:Heap}:Ret P σ (.val .bo true) [] (.bool true) σ :=
 ⟨⟨.refl _,Dead.refl _⟩,fun _=>rfl,XX,fun j b hj=>by simp at hj,fun j j' i hj=>by simp at hj,by simp[SR,KC]⟩
theorem LC {P:Program}{f:Nat}(h:∀ (σ:Heap) (K:Value→Heap→Prop),K (.bool true) σ→VCalled P f [] σ K):OkC P f (W8 (.nil:AL Unit) (fun _=>True) (fun _=>.val .bo true) (fun _=>[])):=by
 intro ap eZ σ args vs c v bs aC hs hv cq hc;unfold W8 at hs;split at hs
 ·rename_i d hd;obtain⟨rfl,rfl,rfl⟩:=(by simpa using hs:True=c∧SV.val .bo true=v∧[]=bs);have:vs=[]:=by
   cases args with
   |nil=>simpa [SRs] using aC
   |cons a l=>simp[AL.dec] at hd
  subst this;refine⟨h σ _ Q34,fun _ _=>h σ _ ⟨rfl,?_⟩⟩;unfold Su;cases σ;simp only[List.length_nil,Nat.add_zero,List.getElem?_nil,Option.bind_none,Heap.mk.injEq,and_true];funext i;split
  ·rfl
  ·rename_i wf hi;exact wf i (by simpa using hi)
 ·cases hs
end Go.V
namespace Go.V
open Go Go.ChangeShapes Go.WideShapes Go.RowKit Go.Deep Go.Joins
def Heap.RO (σ:Heap):Prop:=∀ i b,σ.get i=some b→b.wr=false
structure View (w:World) (ρ:Plc) (σ:Heap):Prop where
 rel:HRel ρ σ w
 ro:σ.RO
structure More (ρ:Plc) (σ:Heap) (ρ':Plc) (σ':Heap):Prop where
 n:σ.n≤σ'.n
 pl:∀ i,i<σ.n→∀ p,ρ' i=some p→ρ i=some p
 ag:Agree σ σ'
theorem More.refl (ρ:Plc) (σ:Heap):More ρ σ ρ σ:=⟨Nat.le_refl _,fun _ _ _ h=>h,Agree.refl _⟩
theorem More.trans {ρ ρ' eN:Plc}{σ σ' aJ:Heap}(h:More ρ σ ρ' σ') (k:More ρ' σ' eN aJ):More ρ σ eN aJ :=
 ⟨Nat.le_trans h.n k.n,fun i hi p hp=>h.pl i hi p (k.pl i (Nat.lt_of_lt_of_le hi h.n) p hp),h.ag.trans k.ag h.n⟩
def Z37 (w:World):Prop:=∀ g cs,Q3f g=some cs→∃ e f,w.heap[g]?=some (.cells cs.toArray e f)
theorem View.emptyT (w:World) (ht:Z37 w):View w (fun _=>none) Heap.empty where
 rel:=⟨⟨fun i b h=>(by cases h),fun _ _=>rfl,fun i p h=>(by cases h),fun i j p q b _ h=>(by cases h)⟩,fun g cs hg=>⟨ht g cs hg,fun ⟨_,_,_,h,_⟩=>by cases h⟩⟩
 ro:=fun i b h=>by cases h
theorem View.add {w:World}{ρ:Plc}{σ:Heap}(h:View w ρ σ) (p:Pl) (c:List Value) {C:Array Value}{e:TypeId}{f:Nat×Nat}(hb:w.heap[p.blk]?=some (.cells C e f)) (hs:p.shift+p.ext≤C.size) (hl:c.length≤p.ext) (ht:e=p.esz.ty)
  (hc:∀ (k:Nat) (v:Value),c[k]?=some v→∃ u,w.cell? ⟨p.blk,p.shift+k,none⟩=some u∧VRel ρ σ.n v u) :
  View w (ρ.put σ.n (some p)) (σ.push (.cells c p.esz false p.tight))∧More ρ σ (ρ.put σ.n (some p)) (σ.push (.cells c p.esz false p.tight)):=by
 have aX:∀ i,i<σ.n→∀ q,(ρ.put σ.n (some p)) i=some q→ρ i=some q:=fun i hi q hq=>by unfold Plc.put at hq;rwa [if_neg (by omega)] at hq
 have bU:(σ.push (.cells c p.esz false p.tight)).RO:=fun i b hi=>by
  by_cases e:i=σ.n
  ·subst e;rw[Heap.get_push_self] at hi;obtain rfl:=osj hi;rfl
  ·rw[Heap.get_push_ne _ _ e] at hi;exact h.ro i b hi
 refine⟨⟨⟨⟨?_,?_,?_,?_⟩,fun g cs hg=>⟨(h.rel.tab g cs hg).1,fun ⟨i,_,b,_,hi,hw,_⟩=>by rw[bU i b hi] at hw;cases hw⟩⟩,bU⟩,⟨by simp,aX,fun i hi=>Heap.get_push_lt _ _ hi⟩⟩
 ·intro i b hi;by_cases aP:i=σ.n
  ·subst aP;rw[Heap.get_push_self] at hi;obtain rfl:=osj hi;refine⟨p,by simp[Plc.put],rfl,rfl,hl,⟨C,e,f,hb,hs,ht⟩,fun k v hk=>?_,fun h=>by cases h⟩;obtain⟨u,hu,hv⟩:=hc k v hk;exact⟨u,hu,hv.mono (by simp) aX⟩
  ·rw[Heap.get_push_ne _ _ aP] at hi;obtain⟨q,hq,hB⟩:=h.rel.live i b hi;exact⟨q,by simp[Plc.put,aP,hq],hB.mono (by simp) aX rfl⟩
 ·intro i hi;by_cases aP:i=σ.n
  ·subst aP;rw[Heap.get_push_self] at hi;cases hi
  ·rw[Heap.get_push_ne _ _ aP] at hi;simp[Plc.put,aP,h.rel.dead i hi]
 ·intro i q hq;by_cases aP:i=σ.n
  ·subst aP;simp[Plc.put] at hq;subst hq;exact(Array.getElem?_eq_some_iff.1 hb).1
  ·simp[Plc.put,aP] at hq;exact h.rel.lt i q hq
 ·intro i j q r b _ _ _ b8 hw _;rw[bU i b b8] at hw;cases hw
theorem Q2f {P:Program}{fits:TypeId→Bool}{d:Nat}{e:TypeId}{count off n:Nat}(h:rowAt P fits d e count off n=true):off≤count*P.cellsOf e:=by
 cases d with
 |zero=>cases h
 |succ d =>
  unfold rowAt at h;by_cases hs:P.cellsOf e=0
  ·simp[hs] at h
  ·have dN:0<P.cellsOf e:=Nat.pos_of_ne_zero hs;simp only[hs,if_false,Bool.or_eq_true,Bool.and_eq_true,beq_iff_eq,decide_eq_true_eq] at h;have hd:=Nat.div_add_mod off (P.cellsOf e);have hm:=Nat.mod_lt off dN;rcases h with⟨⟨h1,h2⟩,_⟩|⟨h1,_⟩
   ·have:P.cellsOf e*(off / P.cellsOf e)≤P.cellsOf e*count:=Nat.mul_le_mul_left _ (by omega);rw[Nat.mul_comm count];omega
   ·have:P.cellsOf e*(off / P.cellsOf e+1)≤P.cellsOf e*count:=Nat.mul_le_mul_left _ (by omega);rw[Nat.mul_add] at this;rw[Nat.mul_comm count];omega
theorem SL {P:Program}:∀ {d:Nat}{e:TypeId}{count off:Nat}{u:TypeId}{n:Nat},liesAt P d e count off u n=true→off≤count*P.cellsOf e
 |0,_,_,_,_,_,h=>by cases h
 |d+1,e,count,off,u,n,h=>by
  unfold liesAt at h;rw[Bool.or_eq_true] at h;rcases h with h|h
  ·exact Q2f h
  ·split at h
   ·exact SL h
   ·cases h
theorem Q0j {P:Program}{w:World}{r:Reach}{base:Nat}{a:Addr}{e:TypeId}{n:Nat}(h:w.has P r base a e n):∃ C row f,w.heap[a.block]?=some (.cells C row f)∧a.off≤C.size∧a.spot=none:=by
 obtain⟨_,hs,row,cells,eo,hl⟩:=h;unfold World.shape? at eo;split at eo
 ·rename_i C e' f hb;obtain⟨rfl,rfl⟩:=(by simpa using eo:e'=row∧C.size=cells);exact⟨C,e',f,hb,Nat.le_trans (SL hl) (Nat.div_mul_le_self _ _),hs⟩
 ·cases eo
theorem AU {P:Program}{w:World}{r:Reach}{base:Nat}{t e:TypeId}{v:Value}(ht:P.underlying t=some (.slice e)) (h:Cell.okWide P w r base t v) :
  v=.slice none 0 0∨∃ a len cap,v=.slice (some a) len cap∧w.has P r base a e cap:=by
 unfold Cell.okWide at h;rw[ht] at h;have h':Cell.ok P w r base t v:=by split at h<;>first|exact h|simp_all
 unfold Cell.ok at h';rw[ht] at h';split at h'<;>first|exact .inl rfl|(cases h';done)|skip
 all_goals first|(rename_i h1 h2;simp_all;done)|skip
 all_goals first|(simp_all;exact⟨_,_,_,⟨rfl,rfl,rfl⟩,h'.2.2⟩)|(simp_all)
theorem Q8r {k:IntKind}{x:Int}(h:(Lit.int k x).wf=true):k.min≤x∧x≤k.max:=by simpa [Lit.wf] using h
theorem View.calls {P:Program}{f:FuncId}{w:World}{ρ:Plc}{σ:Heap}(h:View w ρ σ) {args:List Value}{aw:Array Value}(hl:LRel ρ σ.n args aw.toList) (hc:VCallsTo P f args σ fun v _=>v=.bool true) :
  Calls P f aw w fun e w'=>e=.returned (.bool true)∧Below w.heap.size w w':=by
 refine (hc ρ w aw h.rel hl).mono fun e w' ⟨c,he,v,ρ',σ',hv,hr,_,hx⟩=>?_;subst hv;have:c=.bool true:=by cases hr;rfl
 subst this;exact⟨he,hx.os,hx.tape,hx.output,hx.size,fun B hB=>hx.keep B hB fun ⟨i,p,b,_,hi,hw,_⟩=>by rw[h.ro i b hi] at hw;cases hw⟩
theorem B6 {H:Type}{enc:TypeId×Value→H}{P:Program}(hl:laidOutB P=true) {W W':World}{sp:Nat→Bool}(hb:Below W.heap.size W W') :
  ∀ {ts:List TypeId}{vs:List Value}{ds:List (DataW H)}{ps:List MemPlace},(∀ t∈ts,P.readableRec t=true∧t<P.types.size)→DataW.TrodAll enc P W 0 (fun _=>true) true ts vs ds ps→(∀ p∈ps,p.block<W.heap.size)→(∀ p∈ps,sp p.block=true) →
   DataW.TrodAll enc P W' 0 sp true ts vs ds ps
 |[],vs,ds,ps,_,h,_,_=>by obtain⟨rfl,rfl,rfl⟩:=trodAll_nil h;rfl
 |t::ts,vs,ds,ps,ht,h,ah,hs=>by
  obtain⟨v,c_,d,ds',p,q,rfl,rfl,rfl,h1,h2⟩:=trodAll_cons h;obtain⟨r1,r2⟩:=ht t (by simp);exact⟨p,q,WideElems.Trod_stays hl r1 r2 h1 (fun x hx=>hb.same (ah x (by simp[hx]))) (fun x hx=>hs x (by simp[hx])),
   B6 hl hb (fun t mf=>ht t (by simp[mf])) h2 (fun x hx=>ah x (by simp[hx])) (fun x hx=>hs x (by simp[hx])),rfl⟩
theorem Q0t {H:Type}{enc:TypeId×Value→H}{P:Program}{f:Func}{s:ChangeSpec}{apart fresh handsOn again:Bool}{W W':World}{args:Array Value}{ds gs:List (DataW H)}{before:List MemPlace}{tb:TypeId}
  (hl:laidOutB P=true) (hp:f.params.toList.all (fun t=>P.readableRec t&&decide (t<P.types.size))=true) (kP:s.vars=[]) (hr:f.resultTypes=#[tb]) (bC:P.underlying tb=some .bool) (hs:s.fn H ds={results:=[.lit (.bool true)],args:=ds})
  (hW:DataW.Whole enc P f.params.toList s.vars apart W args.toList ds gs before) (hb:Below W.heap.size W W'):s.post enc P f apart fresh handsOn again W args (.bool true) W':=by
 have ah:∀ p∈before,p.block<W.heap.size:=fun p hp=>hW.lt p hp;have vE:=hW;obtain⟨p,q,hA,hV,rfl,hz,hn⟩:=hW;rw[kP] at hV;obtain⟨rfl,rfl⟩:=trodVars_none hV;have br:∀ t∈f.params.toList,P.readableRec t=true∧t<P.types.size:=fun t ht=>by have:=List.all_eq_true.1 hp t ht;simpa using this
 have eT:s.fn H (ds++[])={results:=[.lit (.bool true)],args:=ds}:=by rw[List.append_nil];exact hs
 have ew:∀ (b:Nat) (sp:Nat→Bool) (hd:Bool),DataW.TrodAll enc P W' b sp hd f.resultTypes.toList ((Value.bool true).resultList f.resultTypes.size) (s.fn H (ds++[])).results []:=fun b sp hd=>by rw[eT,hr];exact trodAll_mk1 (shut_bool bC _)
 have aC:∀ sp:Nat→Bool,(∀ x∈p++[],sp x.block=true)→DataW.TrodAll enc P W' 0 sp true f.params.toList args.toList (s.fn H (ds++[])).args p:=fun sp gH=>by rw[eT];exact B6 hl hb br hA (fun x hx=>ah x (by simp[hx])) (fun x hx=>gH x (by simp[hx]))
 have cH:∀ sp:Nat→Bool,DataW.TrodVars enc P W' sp s.vars (s.fn H (ds++[])).vars []:=fun sp=>by rw[eT,kP];rfl
 have hold:∀ x∈p++[],(fun b=>decide (b<W.heap.size)) x.block=true:=fun x hx=>by simpa using ah x hx
 refine⟨ds,[],p++[],[],p,[],vE,ew _ _ _,aC _ hold,cH _,World.keptBut_mono (fun x hx=>⟨hx,?_⟩) (hb.frame (·∈p++[])),fun _=>?_⟩
 ·exact .inr (by simpa using hx)
 ·refine⟨ok_one hr rfl (okWide_bool_mk bC _),_,_,([]++p)++[],⟨[]++p,[],trodAll_append (aC _ (fun _ _=>rfl)) (ew _ _ _),cH _,rfl,?_,?_⟩,?_⟩
  ·intro b off hx;have aP:MemPlace.cell b off∈p++[]:=by simpa using hx
   rw[hb.frozen (ah _ aP)];exact hz b off aP
  ·intro ha;simpa using hn ha
  ·intro x hx _;simpa using hx
end Go.V
namespace Go.V
open Go Go.ChangeShapes Go.WideShapes Go.RowKit Go.Deep Go.Joins
def KFs (T:Kind→TypeId→Bool) (sz:TypeId→Nat):Kind→List (TypeId×Nat)→Nat→Bool
 |_,[],_=>false
 |k,[p],off=>p.2==off&&(sz p.1==k.size&&T k p.1)
 |.pair a b,p::q::r,off=>p.2==off&&(sz p.1==a.size&&(T a p.1&&KFs T sz b (q::r) (off+a.size)))
 |_,_::_::_,_=>false
def KTy (P:Program):Nat→Kind→TypeId→Bool
 |0,_,_=>false
 |n+1,k,t=>match P.underlying t with
  |some (.struct fs)=>P.cellsOf t==k.size&&KFs (KTy P n) P.cellsOf k (fs.toList.map fun f=>(f.type,f.offset)) 0
  |some (.array m e)=>P.cellsOf t==k.size&&KFs (KTy P n) P.cellsOf k ((List.range m).map fun i=>(e,i*P.cellsOf e)) 0
  |some (.int ik)=>(match k with|.i k'=>decide (k'=ik)|_=>false)
  |some .bool=>(match k with|.bo=>true|_=>false)
  |some .string=>(match k with|.st=>true|_=>false)
  |some (.slice e)=>(match k with|.list k'=>P.cellsOf e==k'.size&&(k'.flat&&KTy P n k' e)|_=>false)
  |_=>false
def KWf:(k:Kind)→k.T→Prop
 |.i ik,x=>InK ik x
 |.bo,_=>True
 |.st,s=>s.length≤maxLen
 |.list k,l=>l.length≤maxLen∧∀ x∈l,KWf k x
 |.pair a b,x=>KWf a x.1∧KWf b x.2
theorem More.le {ρ ρ':Plc}{σ σ':Heap}(h:More ρ σ ρ' σ'):σ.Le σ':=⟨h.n,fun i b hb=>by rw[h.ag i (σ.lt hb)];exact hb⟩
def ArgIs (w:World) (ρ:Plc) (σ:Heap) (k:Kind) (cs:List Value):Prop :=
 ∃ ρ' σ' vs x,View w ρ' σ'∧More ρ σ ρ' σ'∧LRel ρ' σ'.n vs cs∧KC σ' k x vs∧KWf k x
theorem ArgIs.pair {w:World}{ρ:Plc}{σ:Heap}{a b:Kind}{cs ds:List Value}(h1:ArgIs w ρ σ a cs) (h2:∀ ρ σ,View w ρ σ→ArgIs w ρ σ b ds):ArgIs w ρ σ (.pair a b) (cs++ds):=by obtain⟨ρ1,σ1,s6,x1,k1,k2,k3,k4,k5⟩:=h1;obtain⟨ρ2,σ2,kG,x2,m1,m2,m3,m4,m5⟩:=h2 ρ1 σ1 k1;exact⟨ρ2,σ2,s6++kG,(x1,x2),m1,k2.trans m2,(k3.mono m2.n m2.pl).append m3,⟨s6,kG,rfl,k4.mono m2.le,m4⟩,k5,m5⟩
section
variable {H:Type}{enc:TypeId×Value→H}{P:Program}{w:World}{r:Reach}{base:Nat}
def okc (P:Program) (w:World) (r:Reach) (base:Nat) (ts:List TypeId) (cs:List Value):Prop:=∀ (i:Nat) v u,cs[i]?=some v→ts[i]?=some u→Cell.okWide P w r base u v
theorem EJ {T:Kind→TypeId→Bool}{sz:TypeId→Nat}{g:TypeId→Option (List TypeId)}(hT:∀ k t ts,T k t=true→g t=some ts→ts.length=k.size) :
  ∀ {k:Kind}{L:List (TypeId×Nat)}{off:Nat}{hZ:List (List TypeId)},KFs T sz k L off=true→L.mapM (fun p=>g p.1)=some hZ→hZ.flatten.length=k.size
 |k,[],_,_,h,_=>by simp[KFs] at h
 |k,[p],off,hZ,h,hm=>by
  simp only[KFs,Bool.and_eq_true] at h;cases hg:g p.1 with
  |none=>simp[hg] at hm
  |some ts =>simp[hg] at hm;subst hm;simpa using hT _ _ _ h.2.2 hg
 |.pair a b,p::q::r,off,hZ,h,hm=>by
  simp only[KFs,Bool.and_eq_true] at h;rw[List.mapM_cons] at hm;cases hg:g p.1 with
  |none=>simp[hg] at hm
  |some ts =>
   cases hr:(q::r).mapM (fun p=>g p.1) with
   |none=>simp[hg,hr] at hm
   |some tr =>simp[hg,hr] at hm;subst hm;have:=EJ hT h.2.2.2 hr;simp only[List.flatten_cons,List.length_append,this,hT _ _ _ h.2.2.1 hg,Kind.size]
 |.i _,_::_::_,_,_,h,_|.bo,_::_::_,_,_,h,_|.st,_::_::_,_,_,h,_|.list _,_::_::_,_,_,h,_=>by cases h
theorem BC {α β γ:Type}{f:α→β}{g:β→Option γ}:∀ (l:List α),(l.map f).mapM g=l.mapM (fun x=>g (f x))
 |[]=>rfl
 |a::l=>by simp only[List.map_cons,List.mapM_cons,BC l]
theorem H3 {β:Type}{x:β}{f:Nat→Option β}(h:∀ i,f i=some x):∀ l:List Nat,l.mapM f=some (List.replicate l.length x)
 |[]=>rfl
 |a::l=>by simp[List.mapM_cons,h,H3 h l,List.replicate_succ]
theorem EM:∀ {n:Nat}{k:Kind}{t:TypeId}{d:Nat}{ts:List TypeId},KTy P n k t=true→P.cellTypes d t=some ts→ts.length=k.size
 |0,_,_,_,_,h,_=>by cases h
 |_+1,_,_,0,_,_,h=>by cases h
 |n+1,k,t,d+1,ts,h,ht=>by
  have ih:∀ k t ts,KTy P n k t=true→P.cellTypes d t=some ts→ts.length=k.size:=fun k t ts h1 h2=>EM h1 h2;unfold Program.cellTypes at ht;unfold KTy at h;cases hu:P.underlying t with
  |none=>rw[hu] at h;cases h
  |some u =>
   rw[hu] at h ht;cases u<;>first|(cases h;done)|skip
   all_goals simp only at h ht
   ·split at h<;>first|(cases h;done)|(obtain rfl:=osj ht;rfl)
   ·split at h<;>first|(cases h;done)|(obtain rfl:=osj ht;rfl)
   ·split at h<;>first|(cases h;done)|(obtain rfl:=osj ht;rfl)
   ·split at h<;>first|(cases h;done)|(obtain rfl:=osj ht;rfl)
   ·rename_i m e;rw[Bool.and_eq_true] at h;cases hc:P.cellTypes d e with
    |none=>rw[hc] at ht;cases ht
    |some te =>rw[hc] at ht;obtain rfl:=osj ht;refine EJ (g:=fun t=>P.cellTypes d t) ih h.2 ?_;rw[BC,H3 (x:=te) (fun _=>hc)];simp
   ·rename_i fs;rw[Bool.and_eq_true] at h;cases hc:fs.toList.mapM fun f=>P.cellTypes d f.type with
    |none=>rw[hc] at ht;cases ht
    |some hZ =>rw[hc] at ht;obtain rfl:=osj ht;refine EJ (g:=fun t=>P.cellTypes d t) ih h.2 ?_;rw[BC];exact hc
theorem BE {T:Kind→TypeId→Bool}{sz:TypeId→Nat}{Q:TypeId→List Value→Prop}{R:Kind→List Value→Prop}(hT:∀ k t cs,T k t=true→Q t cs→R k cs) (hR:∀ a b cs ds,R a cs→R b ds→R (.pair a b) (cs++ds)) (cs:List Value) :
  ∀ {k:Kind}{L:List (TypeId×Nat)}{off:Nat},KFs T sz k L off=true→(∀ p∈L,Q p.1 ((cs.drop p.2).take (sz p.1)))→R k ((cs.drop off).take k.size)
 |k,[],_,h,_=>by simp[KFs] at h
 |k,[p],off,h,hq=>by simp only[KFs,Bool.and_eq_true,beq_iff_eq] at h;have:=hq p (by simp);rw[h.1,h.2.1] at this;exact hT _ _ _ h.2.2 this
 |.pair a b,p::q::r,off,h,hq=>by
  simp only[KFs,Bool.and_eq_true,beq_iff_eq] at h;have h1:=hq p (by simp);rw[h.1,h.2.1] at h1;have h2:=BE hT hR cs h.2.2.2 fun x hx=>hq x (List.mem_cons_of_mem _ hx);have e:(cs.drop off).take (Kind.pair a b).size=(cs.drop off).take a.size++(cs.drop (off+a.size)).take b.size:=by rw[Kind.size,List.take_add,List.drop_drop]
  rw[e];exact hR _ _ _ _ (hT _ _ _ h.2.2.1 h1) h2
 |.i _,_::_::_,_,h,_|.bo,_::_::_,_,h,_|.st,_::_::_,_,h,_|.list _,_::_::_,_,h,_=>by cases h
def FlatIs (k:Kind) (cs:List Value):Prop:=∃ y:k.T,(∀ h,KC h k y cs)∧KWf k y∧∀ ρ m,LRel ρ m cs cs
theorem FlatIs.pair {a b:Kind}{cs ds:List Value}(h1:FlatIs a cs) (h2:FlatIs b ds):FlatIs (.pair a b) (cs++ds):=by obtain⟨x,k1,k2,k3⟩:=h1;obtain⟨y,m1,m2,m3⟩:=h2;exact⟨(x,y),fun h=>⟨cs,ds,rfl,k1 h,m1 h⟩,⟨k2,m2⟩,fun ρ m=>(k3 ρ m).append (m3 ρ m)⟩
theorem LRel.one {ρ:Plc}{n:Nat}{v c:Value}(h:VRel ρ n v c):LRel ρ n [v] [c]:=.cons h (.nil _ _)
theorem DS {fs:Array Field}{f:Field}(h:f∈fs.toList):∃ i:Nat,fs[i]?=some f:=by obtain⟨i,hi,rfl⟩:=List.mem_iff_getElem.1 h;exact⟨i,by simp at hi;simp[hi]⟩
theorem LU {sp:Nat→Bool}{held:Bool}:∀ {n:Nat}{k:Kind}{t:TypeId}{fuel:Nat}{cs:List Value}{x:DataW H×List MemPlace},KTy P n k t=true→k.flat=true→DataW.trod enc P w base sp held fuel t cs=some x→FlatIs k cs
 |0,_,_,_,_,_,h,_,_=>by cases h
 |n+1,k,t,fuel,cs,x,h,hf,hx=>by
  unfold KTy at h;cases hu:P.underlying t with
  |none=>rw[hu] at h;cases h
  |some u =>
   rw[hu] at h;have hR:∀ a b cs ds,((a.flat=true→FlatIs a cs)∧True)→((b.flat=true→FlatIs b ds)∧True)→(((Kind.pair a b).flat=true→FlatIs (.pair a b) (cs++ds))∧True):=fun a b cs ds h1 h2=>⟨fun hf=>by
    simp only[Kind.flat,Bool.and_eq_true] at hf;exact(h1.1 hf.1).pair (h2.1 hf.2),trivial⟩
   have hT:∀ k t cs,KTy P n k t=true→(∃ fuel x,DataW.trod enc P w base sp held fuel t cs=some x)→((k.flat=true→FlatIs k cs)∧True):=fun k t cs h1 ⟨fuel,x,h2⟩=>⟨fun hf=>LU h1 hf h2,trivial⟩;cases u<;>first|(cases h;done)|skip
   all_goals simp only at h
   ·split at h<;>first|(cases h;done)|skip
    obtain⟨b,rfl,_⟩:=DataW.trod_bool hu hx;exact⟨b,fun _=>rfl,trivial,fun _ _=>.one (.bool _)⟩
   ·split at h<;>first|(cases h;done)|skip
    obtain rfl:=of_decide_eq_true h;obtain⟨z,rfl,_,hw⟩:=DataW.trod_int hu hx;exact⟨z,fun _=>rfl,Q8r hw,fun _ _=>.one (.int _ _)⟩
   ·split at h<;>first|(cases h;done)|skip
    obtain⟨s,rfl,_,hs⟩:=DataW.trod_string hu hx;exact⟨s.data.toList,fun _=>rfl,hs,fun _ _=>.one (.string _)⟩
   ·split at h<;>first|(cases h;done)|(cases hf;done)
   ·rename_i m e;simp only[Bool.and_eq_true,beq_iff_eq] at h;obtain⟨xs,m',_,_,hl,fH,hx⟩:=DataW.trod_array hu hx;have:=(BE (R:=fun k cs=>(k.flat=true→FlatIs k cs)∧True) hT hR cs h.2 fun p hp=>by
     simp only[List.mem_map,List.mem_range] at hp;obtain⟨i,hi,rfl⟩:=hp;have:=hx i hi;rw[List.getElem?_eq_getElem (by omega)] at this;exact⟨_,_,this⟩).1 hf
    rwa [List.drop_zero,List.take_of_length_le (by omega)] at this
   ·rename_i fs;simp only[Bool.and_eq_true,beq_iff_eq] at h;obtain⟨xs,m',_,_,hl,fH,hx⟩:=DataW.trod_struct hu hx;have:=(BE (R:=fun k cs=>(k.flat=true→FlatIs k cs)∧True) hT hR cs h.2 fun p hp=>by
     simp only[List.mem_map] at hp;obtain⟨f,lu,rfl⟩:=hp;obtain⟨i,hi⟩:=DS lu;have:=hx i f hi;have gN:i<fs.size:=(Array.getElem?_eq_some_iff.1 hi).1;rw[List.getElem?_eq_getElem (by omega)] at this;exact⟨_,_,this⟩).1 hf
    rwa [List.drop_zero,List.take_of_length_le (by omega)] at this
theorem Rows.range {α:Type}{R:α→List Value→Prop}{n:Nat}{c:List Value}{x:Nat→α}:∀ (m:Nat),(∀ i,i<m→R (x i) ((c.drop (i*n)).take n))→Rows R ((List.range m).map x) (c.take (m*n))
 |0,_=>by simp;exact .nil
 |m+1,h=>by
  have e:c.take ((m+1)*n)=c.take (m*n)++(c.drop (m*n)).take n:=by rw[Nat.add_mul,Nat.one_mul,List.take_add]
  rw[List.range_succ,List.map_append,e];exact(Rows.range m fun i hi=>h i (by omega)).append (by simpa using Rows.cons (h m (by omega)) .nil)
theorem AS {α:Type}[Inhabited α] {m:Nat}{p:Nat→α→Prop}(h:∀ i,i<m→∃ x,p i x):∃ f:Nat→α,∀ i,i<m→p i (f i) :=
 ⟨fun i=>if hi:i<m then (h i hi).choose else default,fun i hi=>by simp only[hi,dif_pos];exact(h i hi).choose_spec⟩
instance KInh (k:Kind):Inhabited k.T:=⟨k.dflt⟩
theorem View.list {ρ:Plc}{σ:Heap}(h:View w ρ σ) {n:Nat}{k:Kind}{t e:TypeId}{fuel:Nat}{cs:List Value}{x:DataW H×List MemPlace}(hu:P.underlying t=some (.slice e)) (hs:P.cellsOf e=k.size) (hf:k.flat=true) (hk:KTy P n k e=true)
  (hx:DataW.trod enc P w 0 (fun _=>true) true fuel t cs=some x) (aj:okc P w r base [t] cs):ArgIs w ρ σ (.list k) cs:=by
 rcases open_slice hu hx with⟨rfl,_⟩|⟨a,len,cap,m,fu,D,Pl,rfl,hb,hl,hm,iw,_,hel⟩
 ·exact⟨ρ,σ,[.slice none 0 0],[],h,More.refl _ _,.one .nilSl,⟨_,rfl,.inl ⟨rfl,rfl⟩⟩,by simp[maxLen],fun _ hx=>by cases hx⟩
 simp only[if_true] at iw;subst iw;rw[hs] at hel;have rG:w.has P r base a e m:=by
  rcases AU hu (aj 0 _ t rfl rfl) with hh|⟨a',vF,au,hh,h2⟩
  ·cases hh
  ·cases hh;exact h2
 obtain⟨C,row,f,aF,bq,gH⟩:=Q0j rG;obtain⟨blk,off,spot⟩:=a;simp only at aF bq gH;subst gH;have lj:∀ i,(⟨blk,off,none⟩:Addr).add i=⟨blk,off+i,none⟩:=fun i=>by unfold Addr.add;split<;>simp_all
 obtain⟨X,hX⟩:=AS (α:=k.T×List Value) (m:=m) (p:=fun i p=>p.2.length=k.size∧(∀ j,j<k.size→w.cell? ⟨blk,off+i*k.size+j,none⟩=p.2[j]?)∧(∀ h,KC h k p.1 p.2)∧KWf k p.1∧∀ ρ m,LRel ρ m p.2 p.2) fun i hi=>by
  obtain⟨cs',h1,h2⟩:=hel i hi;obtain⟨_,k1,k2⟩:=World.cells?_some h1;obtain⟨y,m1,m2,m3⟩:=LU hk hf h2;refine⟨(y,cs'),k1,fun j hj=>?_,m1,m2,m3⟩;have:=k2 j hj;rw[lj] at this;have e2:(⟨blk,off+i*k.size,none⟩:Addr).add j=⟨blk,off+i*k.size+j,none⟩:=by unfold Addr.add;split<;>simp_all
  rw[e2] at this;exact this
 have dN:=k.size_pos;let c:List Value:=(List.range (m*k.size)).map fun j=>((X (j / k.size)).2[j % k.size]?).getD undef;have cO:c.length=m*k.size:=by simp[c]
 have hdiv:∀ j,j<m*k.size→j / k.size<m:=fun j hj=>Nat.div_lt_of_lt_mul (by rw[Nat.mul_comm];exact hj);have bB:∀ j,j<m*k.size→∃ v,c[j]?=some v∧w.cell? ⟨blk,off+j,none⟩=some v∧∀ ρ m,VRel ρ m v v:=fun j hj=>by
  have h1:=hX (j / k.size) (hdiv j hj);have gd:j % k.size<k.size:=Nat.mod_lt _ dN;have h2:=h1.2.1 _ gd;have e:off+j / k.size*k.size+j % k.size=off+j:=by rw[Nat.add_assoc,Nat.div_add_mod']
  rw[e] at h2;have h3:j % k.size<(X (j / k.size)).2.length:=by rw[h1.1];exact gd
  refine⟨(X (j / k.size)).2[j % k.size],?_,?_,fun ρ m=>(h1.2.2.2.2 ρ m).2 _ _ _ (List.getElem?_eq_getElem h3) (List.getElem?_eq_getElem h3)⟩
  ·simp only[c,List.getElem?_map,List.getElem?_range hj,Option.map_some,List.getElem?_eq_getElem h3,Option.getD_some]
  ·rw[h2,List.getElem?_eq_getElem h3]
 have rH:∀ i,i<m→(c.drop (i*k.size)).take k.size=(X i).2:=fun i hi=>by
  have h1:=hX i hi;have hle:i*k.size+k.size≤m*k.size:=by have:(i+1)*k.size≤m*k.size:=Nat.mul_le_mul_right _ hi;rw[Nat.add_mul] at this;omega
  apply List.ext_getElem?;intro j;by_cases hj:j<k.size
  ·rw[List.getElem?_take_of_lt hj,List.getElem?_drop];have ec:i*k.size+j<m*k.size:=by omega
   have e1:(i*k.size+j) / k.size=i:=by rw[Nat.mul_comm,Nat.mul_add_div dN,Nat.div_eq_of_lt hj,Nat.add_zero]
   have e2:(i*k.size+j) % k.size=j:=by rw[Nat.mul_comm,Nat.mul_add_mod,Nat.mod_eq_of_lt hj]
   have h3:j<(X i).2.length:=by rw[h1.1];exact hj
   simp only[c,List.getElem?_map,List.getElem?_range ec,Option.map_some,e1,e2,List.getElem?_eq_getElem h3,Option.getD_some]
  ·rw[List.getElem?_eq_none (by simp;omega),List.getElem?_eq_none (by omega)]
 have aE:off+m*k.size≤C.size:=by
  rcases Nat.eq_zero_or_pos (m*k.size) with h0|h0
  ·omega
  ·obtain⟨v,_,h2,_⟩:=bB (m*k.size-1) (by omega);unfold World.cell? at h2;simp only[aF] at h2;have:=(Array.getElem?_eq_some_iff.1 (by simpa using h2)).1;omega
 obtain⟨hv,vG⟩:=h.add ⟨blk,off,m*k.size,⟨k.size,row⟩,false⟩ c aF aE (by simp[cO]) rfl (fun j v hj=>by
  have bN:j<m*k.size:=by rw[←cO];exact(List.getElem?_eq_some_iff.1 hj).1
  obtain⟨v',h1,h2,h3⟩:=bB j bN;obtain rfl:=osj (hj.symm.trans h1);exact⟨v,h2,h3 _ _⟩)
 have hlen:((List.range len).map fun i=>(X i).1).length=len:=by simp
 refine⟨_,_,[.slice (some ⟨σ.n,0,none⟩) len m],(List.range len).map fun i=>(X i).1,hv,vG,.one ?_,⟨_,rfl,.inr ⟨σ.n,0,m,c,⟨k.size,row⟩,false,false,by rw[hlen],by rw[hlen];exact hl,Heap.get_push_self _ _,rfl,?_,?_⟩⟩,?_,fun y hy=>?_⟩
 ·refine .sl _ _ _ _ _ _ (by simp) fun p hp=>?_;simp[Plc.put] at hp;subst hp;exact⟨Nat.le_refl _,(fun h=>by cases h),0,by simp,by simp,.inl rfl⟩
 ·rw[hlen,cO,Nat.zero_add];exact Nat.mul_le_mul_right _ hl
 ·rw[hlen,List.drop_zero];refine Rows.range len fun i hi=>?_;rw[rH i (by omega)];exact(hX i (by omega)).2.2.1 _
 ·rw[hlen];exact Nat.le_trans hl hm
 ·obtain⟨i,hi,rfl⟩:=List.mem_map.1 hy;exact(hX i (by have:=List.mem_range.1 hi;omega)).2.2.2.1
def Kind.lev1:Kind→Bool
 |.list k=>k.flat
 |.pair a b=>a.lev1&&b.lev1
 |_=>true
theorem FZ {ts:List TypeId}{cs:List Value}(h:okc P w r base ts cs) (o n:Nat):okc P w r base ((ts.drop o).take n) ((cs.drop o).take n):=fun i v u h1 h2=>by
 have hi:i<n:=by have:=(List.getElem?_eq_some_iff.1 h1).1;rw[List.length_take] at this;omega
 rw[List.getElem?_take_of_lt hi,List.getElem?_drop] at h1 h2;exact h _ v u h1 h2
theorem TY {T:Kind→TypeId→Bool}{sz:TypeId→Nat}{g:TypeId→Option (List TypeId)}(hT:∀ k t ts,T k t=true→g t=some ts→ts.length=k.size) :
  ∀ {k:Kind}{L:List (TypeId×Nat)}{off:Nat}{hZ:List (List TypeId)},KFs T sz k L off=true→L.mapM (fun p=>g p.1)=some hZ→∀ p∈L,off≤p.2∧g p.1=some ((hZ.flatten.drop (p.2-off)).take (sz p.1))
 |k,[],_,_,h,_=>by simp[KFs] at h
 |k,[p],off,hZ,h,hm=>by
  simp only[KFs,Bool.and_eq_true,beq_iff_eq] at h;intro p' hp;obtain rfl:=List.mem_singleton.1 hp;cases hg:g p'.1 with
  |none=>simp[hg] at hm
  |some ts =>
   simp[hg] at hm;subst hm;refine⟨by omega,?_⟩;rw[h.1,Nat.sub_self,List.drop_zero,h.2.1,List.take_of_length_le]
   ·simp
   ·simp[hT _ _ _ h.2.2 hg]
 |.pair a b,p::q::r,off,hZ,h,hm=>by
  simp only[KFs,Bool.and_eq_true,beq_iff_eq] at h;rw[List.mapM_cons] at hm;intro p' hp;cases hg:g p.1 with
  |none=>simp[hg] at hm
  |some ts =>
   cases hr:(q::r).mapM (fun p=>g p.1) with
   |none=>simp[hg,hr] at hm
   |some tr =>
    simp[hg,hr] at hm;subst hm;have hlen:=hT _ _ _ h.2.2.1 hg;rcases List.mem_cons.1 hp with rfl|hp
    ·refine⟨by omega,?_⟩;rw[hg,h.1,Nat.sub_self,List.drop_zero,h.2.1,List.flatten_cons,List.take_append,←hlen,Nat.sub_self,List.take_zero,List.append_nil,List.take_length]
    ·obtain⟨h1,h2⟩:=TY hT h.2.2.2 hr p' hp;refine⟨by omega,?_⟩;have e1:ts.drop (p'.2-off)=[]:=List.drop_eq_nil_of_le (by omega);have e2:p'.2-off-a.size=p'.2-(off+a.size):=by omega
     rw[h2,List.flatten_cons,List.drop_append,hlen,e1,e2,List.nil_append]
 |.i _,_::_::_,_,_,h,_|.bo,_::_::_,_,_,h,_|.st,_::_::_,_,_,h,_|.list _,_::_::_,_,_,h,_=>by cases h
theorem LA:∀ {n:Nat}{k:Kind}{t:TypeId}{d:Nat}{ts:List TypeId}{fuel:Nat}{cs:List Value}{x:DataW H×List MemPlace},KTy P n k t=true→k.lev1=true→P.cellTypes d t=some ts→okc P w r base ts cs→DataW.trod enc P w 0 (fun _=>true) true fuel t cs=some x→∀ ρ σ,View w ρ σ→ArgIs w ρ σ k cs
 |0,_,_,_,_,_,_,_,h,_,_,_,_=>by cases h
 |_+1,_,_,0,_,_,_,_,_,_,h,_,_=>by cases h
 |n+1,k,t,d+1,ts,fuel,cs,x,h,hf,e_,aj,hx=>by
  intro ρ σ hv;by_cases gJ:k.flat=true
  ·obtain⟨y,h1,h2,h3⟩:=LU h gJ hx;exact⟨ρ,σ,cs,y,hv,More.refl _ _,h3 _ _,h1 _,h2⟩
  unfold KTy at h;cases hu:P.underlying t with
  |none=>rw[hu] at h;cases h
  |some u =>
   rw[hu] at h;let Q:TypeId→List Value→Prop:=fun t cs=>(∃ fuel x,DataW.trod enc P w 0 (fun _=>true) true fuel t cs=some x)∧∃ ts,P.cellTypes d t=some ts∧okc P w r base ts cs;let R:Kind→List Value→Prop:=fun k cs=>k.lev1=true→∀ ρ σ,View w ρ σ→ArgIs w ρ σ k cs;have hR:∀ a b cs ds,R a cs→R b ds→R (.pair a b) (cs++ds):=fun a b cs ds h1 h2 hl ρ σ hv=>by simp only[Kind.lev1,Bool.and_eq_true] at hl;exact(h1 hl.1 ρ σ hv).pair fun ρ σ hv=>h2 hl.2 ρ σ hv
   have hT:∀ k t cs,KTy P n k t=true→Q t cs→R k cs:=fun k t cs h1 ⟨⟨fuel,x,h2⟩,ts,h3,h4⟩ hl=>LA h1 hl h3 h4 h2;have hlen:∀ k t ts,KTy P n k t=true→P.cellTypes d t=some ts→ts.length=k.size:=fun k t ts h1 h2=>EM h1 h2;unfold Program.cellTypes at e_;rw[hu] at e_;cases u<;>first|(cases h;done)|skip
   all_goals simp only at h
   ·split at h<;>first|(cases h;done)|(exact absurd rfl gJ)
   ·split at h<;>first|(cases h;done)|(exact absurd rfl gJ)
   ·split at h<;>first|(cases h;done)|(exact absurd rfl gJ)
   ·rename_i e;split at h<;>first|(cases h;done)|skip
    simp only[Bool.and_eq_true,beq_iff_eq] at h;simp only[Option.some.injEq] at e_;subst e_;exact hv.list hu h.1 h.2.1 h.2.2 hx aj
   ·rename_i m e;simp only[Bool.and_eq_true,beq_iff_eq] at h;obtain⟨xs,m',_,_,hl,fH,hx⟩:=DataW.trod_array hu hx;simp only at e_;cases hc:P.cellTypes d e with
    |none=>rw[hc] at e_;cases e_
    |some te =>
     rw[hc] at e_;obtain rfl:=osj e_;have nF:((List.range m).map fun i=>(e,i*P.cellsOf e)).mapM (fun p:TypeId×Nat=>P.cellTypes d p.1)=some (List.replicate m te):=by rw[BC,H3 (x:=te) (fun _=>hc)];simp
     have:=BE (Q:=Q) (R:=R) hT hR cs h.2 (fun p hp=>by
      have jc:=TY (g:=fun t=>P.cellTypes d t) hlen h.2 nF p hp;simp only[List.mem_map,List.mem_range] at hp;obtain⟨i,hi,rfl⟩:=hp;have:=hx i hi;rw[List.getElem?_eq_getElem (by omega)] at this;exact⟨⟨_,_,this⟩,_,jc.2,FZ aj _ _⟩) hf ρ σ hv
     rwa [List.drop_zero,List.take_of_length_le (by omega)] at this
   ·rename_i fs;simp only[Bool.and_eq_true,beq_iff_eq] at h;obtain⟨xs,m',_,_,hl,fH,hx⟩:=DataW.trod_struct hu hx;simp only at e_;cases hc:fs.toList.mapM fun f=>P.cellTypes d f.type with
    |none=>rw[hc] at e_;cases e_
    |some hZ =>
     rw[hc] at e_;obtain rfl:=osj e_;have nF:(fs.toList.map fun f=>(f.type,f.offset)).mapM (fun p:TypeId×Nat=>P.cellTypes d p.1)=some hZ:=by rw[BC];exact hc
     have:=BE (Q:=Q) (R:=R) hT hR cs h.2 (fun p hp=>by
      have jc:=TY (g:=fun t=>P.cellTypes d t) hlen h.2 nF p hp;simp only[List.mem_map] at hp;obtain⟨f,lu,rfl⟩:=hp;obtain⟨i,hi⟩:=DS lu;have:=hx i f hi;have gN:i<fs.size:=(Array.getElem?_eq_some_iff.1 hi).1;rw[List.getElem?_eq_getElem (by omega)] at this;exact⟨⟨_,_,this⟩,_,jc.2,FZ aj _ _⟩) hf ρ σ hv
     rwa [List.drop_zero,List.take_of_length_le (by omega)] at this
def isAgg (P:Program) (t:TypeId):Bool:=match P.underlying t with
 |some (.struct _)=>true
 |some (.array _ _)=>true
 |_=>false
theorem View.arg {ρ:Plc}{σ:Heap}(h:View w ρ σ) {n:Nat}{k:Kind}{t:TypeId}{v:Value}{d:DataW H}{p:List MemPlace}(hk:KTy P n k t=true) (hl:k.lev1=true) (ha:isAgg P t=!k.one) (aj:Value.okWide P w r base t v) (hd:DataW.Trod enc P w 0 (fun _=>true) true t v d p) :
  ∃ ρ' σ' vv x,View w ρ' σ'∧More ρ σ ρ' σ'∧VRel ρ' σ'.n vv v∧KV σ' k x vv∧KWf k x:=by
 obtain⟨fuel,hd⟩:=hd;by_cases ez:isAgg P t=true
 ·have bz:k.one=false:=by rw[ez] at ha;simpa using ha.symm
  have:∃ cs,v=.agg cs∧cs.size=P.cellsOf t∧Row.okWide P w r base t cs:=by
   unfold isAgg at ez;unfold Value.okWide at aj;split at ez<;>first|(cases ez;done)|skip
   ·rename_i hu;rw[hu] at aj;exact aj
   ·rename_i hu;rw[hu] at aj;exact aj
  obtain⟨cs,rfl,aE,ts,e_,_,cP⟩:=this;have hlen:=EM hk e_;have aB:P.cellsOf t=k.size:=by
   unfold isAgg at ez;cases n with
   |zero=>cases hk
   |succ n =>
    unfold KTy at hk;split at ez<;>first|(cases ez;done)|skip
    all_goals
     rename_i hu;rw[hu] at hk;simp only[Bool.and_eq_true,beq_iff_eq] at hk;exact hk.1
  have l6:okc P w r base ts cs.toList:=fun i v u h1 h2=>by have hi:i<ts.length:=(List.getElem?_eq_some_iff.1 h2).1;obtain⟨u',h3,h4⟩:=cP i v (by simpa using h1);rw[Nat.mod_eq_of_lt hi] at h3;obtain rfl:=osj (h2.symm.trans h3);exact h4
  obtain⟨ρ',σ',vs,x,k1,k2,k3,k4,k5⟩:=LA hk hl e_ l6 (show DataW.trod enc P w 0 _ true fuel t cs.toList=_ from hd) ρ σ h;exact⟨ρ',σ',.agg vs.toArray,x,k1,k2,VRel.agg_of (ds:=cs.toList) k3,.inr ⟨bz,vs,rfl,k4⟩,k5⟩
 ·have bz:k.one=true:=by
   have:isAgg P t=false:=by simpa using ez
   rw[this] at ha;simpa using ha.symm
  have iK:=Kind.one_size bz;have bB:Cell.okWide P w r base t v∧v.cells.toList=[v]:=by
   have h1:isAgg P t=false:=by simpa using ez
   unfold isAgg at h1;have h2:Cell.okWide P w r base t v:=by
    unfold Value.okWide at aj;split at aj
    ·rename_i hu;rw[hu] at h1;cases h1
    ·rename_i hu;rw[hu] at h1;cases h1
    ·exact aj
   refine⟨h2,?_⟩;cases v<;>first|rfl|skip
   all_goals
    exfalso;cases n with
    |zero=>cases hk
    |succ n =>
     unfold KTy at hk;unfold Cell.okWide Cell.ok at h2;cases hu:P.underlying t with
     |none=>rw[hu] at hk;cases hk
     |some u =>rw[hu] at hk h2 h1;cases u<;>first|(cases hk;done)|(cases h1;done)|(cases h2;done)|(simp at h2;done)
  have e_:P.cellTypes 1 t=some [t]:=by
   have h1:isAgg P t=false:=by simpa using ez
   unfold isAgg at h1;unfold Program.cellTypes;cases n with
   |zero=>cases hk
   |succ n =>
    unfold KTy at hk;cases hu:P.underlying t with
    |none=>rw[hu] at hk;cases hk
    |some u =>rw[hu] at h1;cases u<;>first|rfl|(cases h1;done)
  rw[bB.2] at hd;have l6:okc P w r base [t] [v]:=fun i v' u h1 h2=>by
   cases i with
   |zero=>cases h1;cases h2;exact bB.1
   |succ i=>simp at h1
  obtain⟨ρ',σ',vs,x,k1,k2,k3,k4,k5⟩:=LA hk hl e_ l6 hd ρ σ h;have:vs.length=1:=by rw[KC.length k4];exact iK
  obtain⟨vv,rfl⟩:=List.length_eq_one_iff.1 this;exact⟨ρ',σ',vv,x,k1,k2,k3.2 0 _ _ rfl rfl,.inl ⟨bz,k4⟩,k5⟩
def AWf:(ks:List Kind)→AT ks→Prop
 |[],_=>True
 |[k],x=>KWf k x
 |k::k'::ks,x=>KWf k x.1∧AWf (k'::ks) x.2
def Q7h (P:Program):List Kind→List TypeId→Bool
 |[],[]=>true
 |k::ks,t::ts=>(KTy P 8 k t&&(k.lev1&&(isAgg P t==!k.one)))&&Q7h P ks ts
 |_,_=>false
theorem View.args:∀ {ks:List Kind}{ts:List TypeId}{vs:List Value}{ds:List (DataW H)}{ps:List MemPlace}{ρ:Plc}{σ:Heap},View w ρ σ→Q7h P ks ts=true→(∀ (j:Nat) t v,ts[j]?=some t→vs[j]?=some v→Value.okWide P w r base t v)→DataW.TrodAll enc P w 0 (fun _=>true) true ts vs ds ps →
  ∃ ρ' σ' mG x,View w ρ' σ'∧More ρ σ ρ' σ'∧LRel ρ' σ'.n mG vs∧SN σ' ks x mG∧AWf ks x
 |[],[],vs,ds,ps,ρ,σ,h,_,_,hA=>by obtain⟨rfl,rfl,rfl⟩:=trodAll_nil hA;exact⟨ρ,σ,[],(),h,More.refl _ _,.nil _ _,rfl,trivial⟩
 |[k],[t],vs,ds,ps,ρ,σ,h,hk,hv,hA=>by obtain⟨v,c_,d,ds',p,q,rfl,rfl,rfl,h1,h2⟩:=trodAll_cons hA;obtain⟨rfl,rfl,rfl⟩:=trodAll_nil h2;simp only[Q7h,Bool.and_eq_true,beq_iff_eq] at hk;obtain⟨ρ',σ',vv,x,k1,k2,k3,k4,k5⟩:=h.arg hk.1.1 hk.1.2.1 hk.1.2.2 (hv 0 t v rfl rfl) h1;exact⟨ρ',σ',[vv],x,k1,k2,.one k3,⟨vv,rfl,k4⟩,k5⟩
 |k::k'::ks,t::ts,vs,ds,ps,ρ,σ,h,hk,hv,hA=>by obtain⟨v,c_,d,ds',p,q,rfl,rfl,rfl,h1,h2⟩:=trodAll_cons hA;simp only[Q7h,Bool.and_eq_true,beq_iff_eq] at hk;obtain⟨ρ1,σ1,vv,x,k1,k2,k3,k4,k5⟩:=h.arg hk.1.1 hk.1.2.1 hk.1.2.2 (hv 0 t v rfl rfl) h1;obtain⟨ρ2,σ2,mG,y,m1,m2,m3,m4,m5⟩:=k1.args (ks:=k'::ks) hk.2 (fun j t v h1 h2=>hv (j+1) t v h1 h2) h2;exact⟨ρ2,σ2,vv::mG,(x,y),m1,k2.trans m2,.cons (k3.mono m2.n m2.pl) m3,⟨vv,mG,rfl,k4.vcall m2.le,m4⟩,k5,m5⟩
 |[],_::_,_,_,_,_,_,_,hk,_,_|_::_,[],_,_,_,_,_,_,hk,_,_|[_],_::_::_,_,_,_,_,_,_,hk,_,_=>by simp[Q7h] at hk
theorem Q2a (hT:Z37 w) {f:Nat}{sp:CSp}(gH:OkC P f sp) (he:XC P f) {ks:List Kind}{ts:List TypeId}{args:Array Value}{ds:List (DataW H)}{ps:List MemPlace}(hk:Q7h P ks ts=true)
  (hv:∀ (j:Nat) t v,ts[j]?=some t→args.toList[j]?=some v→Value.okWide P w r base t v) (hA:DataW.TrodAll enc P w 0 (fun _=>true) true ts args.toList ds ps)
  (hs:∀ x:AT ks,AWf ks x→∃ c,sp (fun _ _=>none) (Ly ks x)=some (c,.val .bo true,[])∧c):Calls P f args w fun e w'=>e=.returned (.bool true)∧Below w.heap.size w w':=by
 obtain⟨ρ,σ,mG,x,k1,k2,k3,k4,k5⟩:=(View.emptyT w hT).args hk hv hA;obtain⟨c,h1,h2⟩:=hs x k5;exact k1.calls k3 (gH.true he (D3 k4) h1 h2)
end
end Go.V
namespace Go.V
open Go
theorem Rh {H:Type}{enc:TypeId×Value→H}{P:Program}{w:World}{b:Nat}{sp:Nat→Bool}{hd:Bool}:∀ {ts:List TypeId}{vs:List Value}{ds:List (DataW H)}{ps:List MemPlace},DataW.TrodAll enc P w b sp hd ts vs ds ps→ds.length=ts.length
 |[],[],[],_,_=>rfl
 |t::ts,v::vs,d::ds,ps,h=>by obtain⟨p,q,_,h2,_⟩:=h;simp[Rh h2]
 |[],[],_::_,_,h|[],_::_,_,_,h|_::_,[],_,_,h|_::_,_::_,[],_,h=>h.elim
end Go.V
namespace Go.Proofs.Tryz
open Go Go.V
noncomputable def Z38:List (Option FEnt):=[
 none,
 none,
 some (.code c2 [] 1),
 some (.code c3 [.tmp 4] 142),
 some (.code c4 [.cell 2 true 2] 48),
 some (.code c5 [.cell 2 true 2] 51),
 some (.code c6 [.cell 2 true 2,.tmp 3] 54),
 some (.code c7 [.cell 2 true 2] 9),
 some (.code c8 [.cell 4 true 2] 46),
 some (.code c9 [.tmp 4] 16),
 some (.code c10 [.cell 2 true 2,.tmp 3] 34),
 some (.codeJ c11 [.cell 4 false 1,.tmp 5,.tmp 6] 86),
 some (.code c12 [.cell 2 true 2] 9),
 some (.code c13 [.tmp 4] 38),
 some (.codeJ c14 [.tmp 6,.tmp 7,.tmp 8] 58),
 some (.code c15 [.tmp 4] 19),
 some (.code c16 [.tmp 6,.tmp 7] 61),
 some (.codeJ c17 [.tmp 4,.tmp 5] 43),
 some (.code c18 [.tmp 4] 26),
 some (.code c19 [.tmp 0] 46),
 some (.code c20 [.tmp 0] 31),
 some (.code c21 [.tmp 0] 42),
 some (.code c22 [.tmp 2] 6),
 some (.code c23 [.tmp 4] 10),
 some (.code c24 [.tmp 2] 6),
 some (.code c25 [.cell 2 true 2] 10),
 some (.code c26 [.cell 2 true 3,.tmp 3] 43),
 some (.code c27 [.tmp 4] 12),
 some (.code c28 [.tmp 2] 4),
 some (.code c29 [.tmp 4] 10),
 some (.code c30 [.tmp 4] 20),
 some (.code c31 [.tmp 4] 26),
 some (.code c32 [.tmp 2] 8),
 some (.code c33 [.tmp 2] 4),
 some (.code c34 [.tmp 4] 28),
 some (.code c35 [] 28),
 some (.code c36 [.cell 2 true 3,.tmp 3] 30),
 some (.code c37 [.tmp 6] 11),
 some (.code c38 [.tmp 4] 26),
 some (.code c39 [.tmp 6] 15),
 some (.code c40 [.tmp 2] 27),
 some (.code c41 [.tmp 2] 28),
 some (.code c42 [.tmp 4] 22),
 some (.codeJ c43 [.tmp 2,.tmp 3] 49),
 some (.code c44 [.tmp 4] 26),
 some (.codeJ c45 [.cell 4 true 2,.tmp 5,.tmp 6] 78),
 some (.codeJ c46 [.tmp 2,.tmp 3] 55),
 some (.code c47 [.tmp 2] 5),
 some (.code c48 [] 14),
 some (.code c49 [] 16),
 some (.code c50 [.tmp 2] 6),
 some (.code c51 [.tmp 6] 11),
 some (.code c52 [] 19),
 some (.code c53 [.tmp 4] 16),
 some (.code c54 [.tmp 4] 9),
 some (.code c55 [.tmp 4] 13),
 some (.code c56 [.tmp 4] 13),
 some (.code c57 [.tmp 6] 11),
 some (.code c58 [.tmp 6] 11),
 some (.code c59 [.tmp 4] 17),
 some (.code c60 [.tmp 2] 4),
 some (.code c61 [.tmp 6] 17),
 some (.code c62 [.tmp 2] 14),
 some (.code c63 [.tmp 4] 25),
 some (.code c64 [.tmp 4] 48),
 some (.code c65 [.tmp 2] 32),
 some (.code c66 [.tmp 2] 11),
 some (.code c67 [.tmp 2] 22),
 some (.code c68 [.tmp 4] 48),
 some (.code c69 [.tmp 4] 10),
 some (.code c70 [.tmp 2] 7),
 some (.code c71 [.tmp 4] 13),
 some (.code c72 [] 148),
 some (.code c73 [.tmp 2] 8),
 some (.code c74 [.tmp 4] 13),
 some (.code c75 [.tmp 3] 17),
 some (.code c76 [.tmp 4] 9),
 some (.code c77 [.tmp 4] 19),
 some (.code c78 [.tmp 2] 26),
 some (.code c79 [.tmp 4] 13),
 some (.code c80 [.tmp 4] 13),
 some (.code c81 [] 20),
 some (.code c82 [.cell 6 false 1] 73),
 some (.code c83 [.tmp 4,.tmp 5] 30),
 some (.code c84 [.tmp 2] 5),
 some (.code c85 [.tmp 4] 6),
 some (.code c86 [.tmp 2] 4),
 some (.code c87 [.tmp 2] 25),
 some (.code c88 [] 53),
 some (.code c89 [] 60),
 some (.code c90 [] 67),
 some (.code c91 [.tmp 8,.tmp 9] 63),
 some (.code c92 [] 34),
 some (.code c93 [.tmp 8] 141),
 some (.code c94 [.tmp 10] 90),
 some (.code c95 [.tmp 10,.tmp 11] 178),
 some (.code c96 [.tmp 2] 19),
 some (.code c97 [.tmp 2] 25),
 some (.code c98 [.tmp 4] 19),
 some (.code c99 [.tmp 2] 22),
 some .same,
 some (.code Z3h [.tmp 4] 6),
 some (.code Z2v [.tmp 4,.tmp 5] 17),
 some (.code Z3c [.tmp 4,.tmp 5] 51),
 some (.code Z3n [.tmp 4] 13),
 some (.code Z31 [] 22),
 some (.code Z3q [] 19),
 some (.code Z3j [] 82),
 some (.code Z3g [.tmp 2] 7),
 some (.code Z33 [.tmp 2] 33),
 some (.code Z2w [.tmp 8] 18),
 some (.code Z3z [.tmp 12] 41),
 some (.code Z3t [] 20),
 some (.code Z3x [.tmp 10,.tmp 11] 32)]
noncomputable def tab:Tab:=fun f=>(Z38[f]?).join
theorem Q67:EntsOk Tryz.prog 0 Z38:=⟨trivial,trivial,Z4e,fun3,Z2u,Z2y,Z3y,Z2t,Z3f,Z41,Q9z,Q8j,Q9b,Z08,Q9d,Q9r,Z0a,Z0b,Z06,Q8b,Q8v,Q9k,Z0k,Q92,Z02,Q8w,Q81,Z07,Q98,Z0x,Z05,Z0j,Q84,Q96,Q8f,Z0y,Z0q,Z0s,Q9g,Q7w,Q87,Q80,Q7u,Z1j,Z2i,Z2n,Z1f,Q99,Q9c,Q8h,Q82,Q8k,Z21,Q8a,Q9y,Q9a,Q9t,Q7v,Q9o,Z03,Q91,Q9s,Q93,Z1c,Z2o,Z1y,Z22,Z2c,Z2s,Z26,Z29,Q9i,Q9j,Q7x,Q8e,Q8s,Q95,Q9x,Q8m,Q8x,Q7o,Q8o,Z28,Z2p,Z1g,Z1v,Z2j,Z2q,Z0m,Z1p,Z1t,Z1o,Z1z,Z2r,Z20,Z1m,Z0r,Z0e,Q89,Q7s,F4,Q94,Q8q,Q9h,Z0o,Q8d,Q7q,Q8c,Q9w,Q88,Z09,Q8g,Q83,Q9q,trivial⟩
theorem Q1t:TabOk Tryz.prog tab:=Q4d Q67
end Go.Proofs.Tryz
namespace Go.Proofs.Tryz
open Go Go.V
theorem IT:RH tab 300 VF [] c20 none (ET.of [] 31) CH.empty (Q3r false [.tmp 0] fun v _=>isTrue v)=true:=by kernel_rfl
theorem Ou {σ:Heap}{K:Value→Heap→Prop}(hK:K (.bool true) σ):VCalled Tryz.prog 20 [] σ K:=CA mixed Q1t 300 Q8v (by decide) IT hK
end Go.Proofs.Tryz
namespace Go.Proofs.Tryz
open Go Go.V
theorem OO:RH tab 300 VF [] c21 none (ET.of [] 42) CH.empty (Q3r false [.tmp 0] fun v _=>isTrue v)=true:=by kernel_rfl
theorem OY {σ:Heap}{K:Value→Heap→Prop}(hK:K (.bool true) σ):VCalled Tryz.prog 21 [] σ K:=CA mixed Q1t 300 Q9k (by decide) OO hK
end Go.Proofs.Tryz
namespace Go.Proofs.Tryz
open Go Go.V
theorem Ao:RH tab 300 VF [] c19 none (ET.of [] 46) CH.empty (Q3r false [.tmp 0] fun v _=>isTrue v)=true:=by kernel_rfl
theorem A5 {σ:Heap}{K:Value→Heap→Prop}(hK:K (.bool true) σ):VCalled Tryz.prog 19 [] σ K:=CA mixed Q1t 300 Q8b (by decide) Ao hK
end Go.Proofs.Tryz
set_option linter.unusedVariables false
namespace Go.Proofs.Tryz
open Go Go.V Go.Proofs
def ZM (l:List Int) (i:Int):Int:=if l.length=0 then 0 else l.getD (Int.tmod i l.length).toNat 0
theorem FG {l:List Int}{i:Int}(h:∀ x∈l,0≤x∧x≤255) (hi:0≤i):0≤ZM l i∧ZM l i≤255:=by
 unfold ZM;split
 ·omega
 ·rename_i hz;have e:=Int.tmod_eq_emod_of_nonneg (b:=(l.length:Int)) hi;have g1:=Int.emod_nonneg i (show (l.length:Int)≠0 by omega);have g2:=Int.emod_lt_of_pos i (show (0:Int)<l.length by omega);have g3:(Int.tmod i l.length).toNat<l.length:=by omega
  rw[Qa g3];exact h _ (List.getElem_mem g3)
theorem F3 {l:List Int}(h:l.Pairwise (·<·)):∀ (m i:Nat) (hj:i+m<l.length),l[i]+(m:Int)≤l[i+m]
 |0,i,hj=>by simp
 |m+1,i,hj=>by have h1:=F3 h m i (by omega);have h2:=List.pairwise_iff_getElem.1 h (i+m) (i+(m+1)) (by omega) hj (by omega);omega
theorem Q76 {l:List Int}(h:l.Pairwise (·<·)) (hb:∀ x∈l,0≤x∧x<l.length) {i:Nat}(hi:i<l.length):l[i]=(i:Int):=by
 have h1:=F3 h i 0 (by omega);have h2:=F3 h (l.length-1-i) i (by omega);have h3:=hb _ (List.getElem_mem (show 0<l.length by omega));have h4:=hb _ (List.getElem_mem (show i+(l.length-1-i)<l.length by omega));simp only[Nat.zero_add] at h1;omega
theorem Q35 {rows:List Int}{s:List K6}(hl:s.length=rows.length) (hs:(s.map (·.1)).Pairwise (·<·)) (hb:∀ c∈s,0≤c.1∧c.1<rows.length∧c.2.1=rows.getD c.1.toNat 0):(s.map fun c=>((c.1,(c.2.1,false)):K6))=Rx rows:=by
 refine List.ext_getElem (by simp[Rx,hl]) fun i h1 h2=>?_;have hi:i<s.length:=by simpa using h1
 have h3:=Q76 hs (fun x hx=>by
  obtain⟨c,hc,rfl⟩:=List.mem_map.1 hx;have:=hb c hc;simp only[List.length_map,hl];omega) (i:=i) (by simpa using hi)
 simp only[List.getElem_map] at h3;obtain⟨-,-,h4⟩:=hb _ (List.getElem_mem hi);simp only[List.getElem_map,Rx,List.getElem_range,h3,h4,Int.toNat_natCast]
def PA (by_:List Int) (l:List K6) (i:Nat):List K6:=(l.set i (l.getD (Int.tmod (ZM by_ i) ((i:Int)+1)).toNat W_)).set (Int.tmod (ZM by_ i) ((i:Int)+1)).toNat (l.getD i W_)
def Us (by_:List Int) (l:List K6):Nat→List K6
 |0=>l
 |m+1=>PA by_ (Us by_ l m) (l.length-1-m)
def Q1h (by_:List Int) (l:List K6):List K6:=Us by_ l (l.length-1)
theorem Ok {α:Type}{l:List α}{i k:Nat}{d:α}(hi:i<l.length) (hk:k<l.length):((l.set i (l.getD k d)).set k (l.getD i d)).Perm l:=by
 rw[Qa hi,Qa hk];by_cases h:i=k
 ·subst h;simp
 ·exact List.set_set_perm hi hk
theorem Lj {by_:List Int}(hb:∀ x∈by_,0≤x∧x≤255) (h0:∀ i:Nat,0≤ZM by_ i) {l:List K6}:∀ m,m≤l.length-1→(Us by_ l m).Perm l
 |0,_=>.refl _
 |m+1,h=>by have ih:=Lj hb h0 (l:=l) m (by omega);unfold Us PA;have hl:=ih.length_eq;have h1:=Int.tmod_nonneg (((l.length-1-m:Nat):Int)+1) (h0 (l.length-1-m));have h2:=Int.tmod_lt_of_pos (ZM by_ (l.length-1-m:Nat)) (show (0:Int)<((l.length-1-m:Nat):Int)+1 by omega);exact(Ok (by omega) (by omega)).trans ih
def Q01 (p:K6×K6):Int:=AY p.1.1 p.2.1
def G6 (cs:List K6):List K6:=(TJ Q01 cs 0 cs.length).map fun c=>((c.1,(c.2.1,false)):K6)
theorem Fl {x y:K6}:Q01 (x,y)<0↔x.1<y.1:=by unfold Q01 AY;dsimp only;split<;>(try split)<;>omega
theorem Q11 {rows:List Int}{cs:List K6}(hl:cs.length=rows.length) (hn:(cs.map (·.1)).Nodup) (hb:∀ c∈cs,0≤c.1∧c.1<rows.length∧c.2.1=rows.getD c.1.toNat 0):G6 cs=Rx rows:=by
 have hp:=T6 (f:=Q01) (a:=0) (Nat.le_refl cs.length);have hs:=Q07 (f:=Q01) (fun x y h h2=>by rw[Fl] at h h2;omega) (fun x y z h1 h2 h3=>by rw[Fl] at h1 h2 h3;omega) cs;refine Q35 (hp.length_eq.trans hl) ?_ fun c hc=>hb c (hp.mem_iff.1 hc);have eg:=(hp.map (·.1)).nodup_iff.2 hn;have dX:((TJ Q01 cs 0 cs.length).map (·.1)).Pairwise (·≤·):=List.pairwise_map.2 (hs.imp fun h=>by rw[Fl] at h;omega);exact(dX.and eg).imp fun h=>by have:=h.1;have:=h.2;omega
theorem Ov (a:Int) (b:Bool) (m:List (Int×Bool)) (e:Int) (d:Bool):gq.aget (.i .i64) ((a,b)::m) e d=if e=a then b else gq.aget (.i .i64) m e d:=by show (if (e==a)=true then b else gq.aget (.i .i64) m e d)=_;simp only[beq_iff_eq]
theorem OW (a:Int) (b:Bool) (m:List (Int×Bool)) (k:Int) (v:Bool):CM (.i .i64) ((a,b)::m) k v=if k=a then (k,v)::m else (a,b)::CM (.i .i64) m k v:=by show (if (k==a)=true then (k,v)::m else (a,b)::CM (.i .i64) m k v)=_;simp only[beq_iff_eq]
theorem Q0s {F:List Int}{k:Int}(h:k∉F):CM (.i .i64) (F.map fun x=>(x,true)) k true=(F++[k]).map fun x=>(x,true):=by
 induction F with
 |nil=>rfl
 |cons a F ih =>have h1:k≠a:=fun e=>h (by rw[e];exact List.mem_cons_self);have h2:k∉F:=fun e=>h (List.mem_cons_of_mem _ e);simp only[List.map_cons,List.cons_append];rw[OW,if_neg h1,ih h2]
theorem Q0k {F:List Int}{k:Int}:gq.aget (.i .i64) (F.map fun x=>(x,true)) k false=decide (k∈F):=by
 induction F with
 |nil=>rfl
 |cons a F ih =>
  simp only[List.map_cons];rw[Ov,ih];by_cases e:k=a
  ·simp[e]
  ·simp[e]
def CQ:AL (Unit):=.nil
def S7 (d:Unit):Prop:=True
def RD (d:Unit):SV:=.val .bo true
def Ru (d:Unit):List OB:=[]
def H_:CSp:=W8 CQ S7 RD Ru
abbrev Cf:Prop:=OkC Tryz.prog 20 H_
theorem CO:Cf:=LC fun _ _ h=>Ou h
def Cq:AL (Unit):=.nil
def S1 (d:Unit):Prop:=True
def Sc (d:Unit):SV:=.val .bo true
def Sf (d:Unit):List OB:=[]
def Hz:CSp:=W8 Cq S1 Sc Sf
abbrev LJ:Prop:=OkC Tryz.prog 21 Hz
theorem CT:LJ:=LC fun _ _ h=>OY h
def PS:AL (Unit):=.nil
def Pn (d:Unit):Prop:=True
def Pp (d:Unit):SV:=.val .bo true
def Pa (d:Unit):List OB:=[]
def Gx:CSp:=W8 PS Pn Pp Pa
abbrev Tv:Prop:=OkC Tryz.prog 19 Gx
theorem PV:Tv:=LC fun _ _ h=>A5 h
def GV:AL (List Int):=(.one (.k (.list (.i .i64))))
def Rg (d:List Int):Prop:=d.length≤1000
def MP (d:List Int):SV:=.lst 0
def NK (d:List Int):List OB:=[.lst 3 (.i .i64) d false]
def K8:CSp:=W8 GV Rg MP NK
def Yb (l:List Int):Prop :=
 (((List.length ([]:List Int))+(List.length l))*8≤70368744177664)∧(True∧(((([]:List Int)++l)=l∧((List.isEmpty l)&&false)=false)∧True))
def Gn:Cx:=⟨[(3,(.i .i64))],[],6,[],0,[],[],[],[],false,[],[],[],[]⟩
def S6 (l:List Int):List (Nat×LoopAnn):=[]
set_option maxRecDepth 100000 in
theorem Sq (d:List Int):gwp (Gn) (S6 d) c24 0 (WE [.tmp 2] (MP d) (NK d)) (Qp 6 (AL.can GV d))=Yb d:=by kernel_rfl
abbrev RR:Prop:=OkC Tryz.prog 24 K8
theorem Rz (h:∀ (l:List Int),(l.length≤1000)→Yb l):OkC Tryz.prog 24 K8 :=
 Qz Z02 mixed (C:=Gn) (V:=fun (d:List Int)=>Yb d) ⟨.nil,XsOk.nil,ItsOk.nil,YlOk.nil,IysOk.nil,XfOk.nil⟩ (Sq) fun d hp=>h d hp
theorem Gz:RR:=Rz fun l h=>by
 (unfold Yb;(try delta lI gD sT I64);simp);omega
def Bk:AL (Int×List Int):=(.one (.agg (.cons (.k (.i .i64)) (.one (.k (.list (.i .i64)))))))
def Sp (d:Int×List Int):Prop:=d.2.length≤1000
def GO (d:Int×List Int):SV:=.agg [.val (.i .i64) d.1,.lst 0]
def GF (d:Int×List Int):List OB:=[.lst 3 (.i .i64) d.2 false]
def Mk:CSp:=W8 Bk Sp GO GF
def K2 (hd:Int) (rows:List Int):Prop :=
 (rows.length≤1000)∧(false=true→rows=[])∧((hd=hd∧True∧(([]:List SV)=[]))∧((rows=rows∧false=false)∧True))
def Bb:Cx:=⟨[],[(24,K8)],9,[],0,[],[],[],[],false,[],[],[],[]⟩
def LG (hd:Int) (rows:List Int):List (Nat×LoopAnn):=[]
set_option maxRecDepth 100000 in
theorem L_ (d:Int×List Int):gwp (Bb) (LG d.1 d.2) c7 0 (WE [.cell 2 true 2] (GO d) (GF d)) (Qp 9 (AL.can Bk d))=K2 d.1 d.2:=by kernel_rfl
abbrev Ls:Prop:=OkC Tryz.prog 7 Mk
theorem Cp (h:∀ (hd:Int) (rows:List Int),(rows.length≤1000)→K2 hd rows):OkC Tryz.prog 7 Mk :=
 Qz Z2t mixed (C:=Bb) (V:=fun (d:Int×List Int)=>K2 d.1 d.2) ⟨(.cons Gz .nil),XsOk.nil,ItsOk.nil,YlOk.nil,IysOk.nil,XfOk.nil⟩ (L_) fun d hp=>h d.1 d.2 hp
theorem CR:Ls:=Cp fun hd rows h=>by simp[K2,h]
def Gt:AL (Int×List Int):=(.one (.agg (.cons (.k (.i .i64)) (.one (.k (.list (.i .i64)))))))
def R7 (d:Int×List Int):Prop:=d.2.length≤1000
def MA (d:Int×List Int):SV:=.agg [.val (.i .i64) d.1,.lst 0]
def NX (d:Int×List Int):List OB:=[.lst 3 (.i .i64) d.2 false]
def UQ:CSp:=W8 Gt R7 MA NX
def Ya (hk:Int) (lw:List Int):Prop :=
 (lw.length≤1000)∧(false=true→lw=[])∧((hk=hk∧True∧(([]:List SV)=[]))∧((lw=lw∧false=false)∧True))
def G_:Cx:=⟨[],[(24,K8)],9,[],0,[],[],[],[],false,[],[],[],[]⟩
def S8 (hk:Int) (lw:List Int):List (Nat×LoopAnn):=[]
set_option maxRecDepth 100000 in
theorem RW (d:Int×List Int):gwp (G_) (S8 d.1 d.2) c12 0 (WE [.cell 2 true 2] (MA d) (NX d)) (Qp 9 (AL.can Gt d))=Ya d.1 d.2:=by kernel_rfl
abbrev S2:Prop:=OkC Tryz.prog 12 UQ
theorem RA (h:∀ (hk:Int) (lw:List Int),(lw.length≤1000)→Ya hk lw):OkC Tryz.prog 12 UQ :=
 Qz Q9b mixed (C:=G_) (V:=fun (d:Int×List Int)=>Ya d.1 d.2) ⟨(.cons Gz .nil),XsOk.nil,ItsOk.nil,YlOk.nil,IysOk.nil,XfOk.nil⟩ (RW) fun d hp=>h d.1 d.2 hp
theorem Sk:S2:=RA fun hk lw h=>by simp[Ya,h]
def WS:AL (Int×List Int×List Int×List Int):=(.one (.agg (.cons (.k (.i .u8)) (.cons (.k (.list (.i .u8))) (.cons (.k (.list (.i .u16))) (.one (.k (.list (.i .u8)))))))))
def UE (d:Int×List Int×List Int×List Int):Prop:=bOk d.1 d.2.1 d.2.2.1 d.2.2.2
def Wn (d:Int×List Int×List Int×List Int):SV:=.agg [.val (.i .i64) (hkN 12 d.1),.lst 0]
def Wf (d:Int×List Int×List Int×List Int):List OB:=[.lst 3 (.i .i64) (QJ (hkN 12 d.1) 30 d.2.1) false]
def X7:CSp:=W8 WS UE Wn Wf
def ZL (h8:Int) (ws:List Int) (rs:List Int) (ds:List Int):Prop :=
 (I64 h8)∧((12:Int)≠0)∧(I64 ((1:Int)+(Int.tmod h8 (12:Int))))∧∃ (e4:Unit) (d40:(List Int)×Int),((True∧True∧True∧(0:Int)=d40.2∧True)∧((h8=h8∧ws=ws∧rs=rs∧ds=ds∧(([]:List SV)=[]))∧((0:Int)=(0:Int)∧True∧(([]:List SV)=[]))∧(((1:Int)+(Int.tmod h8 (12:Int)))=((1:Int)+(Int.tmod h8 (12:Int)))∧True∧(([]:List SV)=[]))∧(d40.1=[]∧(List.isEmpty d40.1)=true)∧True)) ∧
 LoopP (fun (d4:(List Int)×Int) (q4:((List Int)×Int)→Prop) =>
  (((d4.2==(0:Int))||((decide (d4.2<(lI ws)))&&(decide (d4.2<(30:Int)))))=true →
   ((decide (d4.2<(lI ws)))=true →
    (0≤d4.2)∧(d4.2<(List.length ws))∧(I64 (gD ws d4.2 0))∧(((1:Int)+(Int.tmod h8 (12:Int)))≠0)∧(((List.length d4.1)+(List.length [(Int.tmod (gD ws d4.2 0) ((1:Int)+(Int.tmod h8 (12:Int))))]))*8≤70368744177664)∧(I64 (d4.2+(1:Int)))∧(∃ d5:(List Int)×Int,((True∧True∧True∧(d4.2+(1:Int))=d5.2∧True)∧((h8=h8∧ws=ws∧rs=rs∧ds=ds∧(([]:List SV)=[]))∧((0:Int)=(0:Int)∧True∧(([]:List SV)=[]))∧(((1:Int)+(Int.tmod h8 (12:Int)))=((1:Int)+(Int.tmod h8 (12:Int)))∧True∧(([]:List SV)=[]))∧((d4.1++[(Int.tmod (gD ws d4.2 0) ((1:Int)+(Int.tmod h8 (12:Int))))])=d5.1∧false=(List.isEmpty d5.1))∧True))∧q4 d5)) ∧
   ((decide (d4.2<(lI ws)))=false →
    (((List.length d4.1)+(List.length [(0:Int)]))*8≤70368744177664)∧(I64 (d4.2+(1:Int)))∧(∃ d6:(List Int)×Int,((True∧True∧True∧(d4.2+(1:Int))=d6.2∧True)∧((h8=h8∧ws=ws∧rs=rs∧ds=ds∧(([]:List SV)=[]))∧((0:Int)=(0:Int)∧True∧(([]:List SV)=[]))∧(((1:Int)+(Int.tmod h8 (12:Int)))=((1:Int)+(Int.tmod h8 (12:Int)))∧True∧(([]:List SV)=[]))∧((d4.1++[(0:Int)])=d6.1∧false=(List.isEmpty d6.1))∧True))∧q4 d6))) ∧
  (((d4.2==(0:Int))||((decide (d4.2<(lI ws)))&&(decide (d4.2<(30:Int)))))=false →
   ((((1:Int)+(Int.tmod h8 (12:Int)))=(hkN 12 h8)∧True∧(([]:List SV)=[]))∧((d4.1=(QJ (hkN 12 h8) 30 ws)∧(List.isEmpty d4.1)=false)∧True)))) d40
def WM:Cx:=⟨[(3,(.i .i64))],[],48,[],0,[],[],[],[],false,[],[],[],[]⟩
def Nn (h8:Int) (ws:List Int) (rs:List Int) (ds:List Int):List (Nat×LoopAnn):=[(0,⟨Unit,(List Int)×Int,[1,2,3,4],fun e x=>[.box 1 0,.box 2 0,.box 3 0,.val (.i .i64) x.2],fun e x=>[(1,.slot 1,.cells [.val (.i .u8) h8,.val (.list (.i .u8)) ws,.val (.list (.i .u16)) rs,.val (.list (.i .u8)) ds] (some 25)),(2,.slot 2,.cells [.val (.i .i64) (0:Int),.nilS] (some 28)),(3,.slot 3,.cells [.val (.i .i64) ((1:Int)+(Int.tmod h8 (12:Int))),.lst 45] (some 28)),(45,.cell 3 1,.lst 3 (.i .i64) x.1 (List.isEmpty x.1))]⟩)]
set_option maxRecDepth 100000 in
theorem Nk (d:Int×List Int×List Int×List Int):gwp (WM) (Nn d.1 d.2.1 d.2.2.1 d.2.2.2) c4 0 (WE [.cell 2 true 2] (Wn d) (Wf d)) (Qp 48 (AL.can WS d))=ZL d.1 d.2.1 d.2.2.1 d.2.2.2:=by kernel_rfl
abbrev NA:Prop:=OkC Tryz.prog 4 X7
theorem No (h:∀ (h8:Int) (ws:List Int) (rs:List Int) (ds:List Int),(bOk h8 ws rs ds)→ZL h8 ws rs ds):OkC Tryz.prog 4 X7 :=
 Qz Z2u mixed (C:=WM) (V:=fun (d:Int×List Int×List Int×List Int)=>ZL d.1 d.2.1 d.2.2.1 d.2.2.2) ⟨.nil,XsOk.nil,ItsOk.nil,YlOk.nil,IysOk.nil,XfOk.nil⟩ (Nk) fun d hp=>h d.1 d.2.1 d.2.2.1 d.2.2.2 hp
theorem TL {m h8:Int}(hm:0<m) (h:0≤h8):1≤hkN m h8∧hkN m h8≤m:=by have h1:=Int.tmod_nonneg m h;have h2:=Int.tmod_lt_of_pos h8 hm;simp only[hkN];omega
theorem Ln {hk:Int}{cap:Nat}{ws:List Int}:(QJ hk cap ws).length=if ws=[] then 1 else min cap ws.length:=by unfold QJ;split<;>simp
theorem Oz {hk:Int}{cap:Nat}{ws:List Int}{i:Nat}(h:i<ws.length) (hc:i<cap):(QJ hk cap ws)[i]?=some (Int.tmod (ws.getD i 0) hk):=by
 have aA:ws≠[]:=by rintro rfl;simp at h
 unfold QJ;rw[if_neg aA];simp[hc,h]
theorem Nm:NA:=No fun h8 ws rs ds h=>by
 obtain⟨h1,h2,pM,pN,hds⟩:=h;have hk:=TL (m:=12) (by omega) h1;have e:(1+Int.tmod h8 12)=hkN 12 h8:=rfl;have hk:1≤hkN 12 h8∧hkN 12 h8≤12:=hk;unfold ZL;(try delta lI gD sT I64);simp only[true_and,and_true,exists_const,decide_eq_true_eq,decide_eq_false_iff_not,ne_eq,QM,e];refine⟨by omega,by omega,by omega,([],0),⟨rfl,rfl,rfl⟩,?_⟩;have hN:(QJ (hkN 12 h8) 30 ws).length=if ws=[] then 1 else min 30 ws.length:=Ln
 have ak:∀ k:Nat,(((k:Int)==0)||(decide ((k:Int)<ws.length)&&decide ((k:Int)<30)))=decide (k<(QJ (hkN 12 h8) 30 ws).length):=fun k=>by
  rw[hN];by_cases hz:ws=[]
  ·subst hz;cases k<;>simp;omega
  ·have:0<ws.length:=List.length_pos_iff.2 hz;rw[if_neg hz];cases k with
   |zero=>simp;omega
   |succ k =>rw[Bool.eq_iff_iff];simp;omega
 have rI:(QJ (hkN 12 h8) 30 ws).length≤30:=by rw[hN];split<;>omega
 refine LoopP.count2 (QJ (hkN 12 h8) 30 ws).length (fun k xs=>xs=(QJ (hkN 12 h8) 30 ws).take k) (by simp) fun k xs hk hJ q hq=>?_;dsimp only;rw[ak];simp only[decide_eq_true_eq,decide_eq_false_iff_not,Int.toNat_natCast,Int.ofNat_lt];refine⟨fun ah=>⟨fun hw=>?_,fun hw=>?_⟩,fun bg=>?_⟩
 ·have hw:k<ws.length:=by omega
  have vH:=pM _ (List.getElem_mem hw);have rJ:k<30:=by omega
  simp only[Qa hw,List.length_singleton];have hv:(QJ (hkN 12 h8) 30 ws)[k]=Int.tmod ws[k] (hkN 12 h8):=by have:=Oz (hk:=hkN 12 h8) hw rJ;rw[Qa hw] at this;have h3:=List.getElem?_eq_getElem ah;exact osj (h3.symm.trans this)
  refine⟨by omega,by omega,by omega,by omega,by rw[hJ,List.length_take];omega,by omega,(xs++[Int.tmod ws[k] (hkN 12 h8)],(k:Int)+1),⟨rfl,rfl,by simp⟩,hq _ ah ?_⟩;rw[Qu ah,←hJ,hv]
 ·have hz:ws=[]:=by
   cases pM:ws with
   |nil=>rfl
   |cons a l =>
    exfalso;rw[hN] at ah;have:ws≠[]:=by rw[pM];simp
    rw[if_neg this] at ah;omega
  have fw:k=0:=by rw[hN,if_pos hz] at ah;omega
  subst fw;simp only[List.length_singleton];refine⟨by rw[hJ,List.length_take];omega,by omega,(xs++[0],1),⟨rfl,rfl,by simp⟩,hq _ ah ?_⟩;rw[Qu ah,←hJ];simp[QJ,hz]
 ·have:k=(QJ (hkN 12 h8) 30 ws).length:=by omega
  subst this;rw[List.take_length] at hJ;subst hJ;refine⟨rfl,?_⟩;rw[List.isEmpty_eq_false_iff];intro hz;rw[hz] at hN;split at hN
  ·cases hN
  ·rename_i aA;have:=List.length_pos_iff.2 aA;simp only[List.length_nil] at hN;omega
def Yy:AL (Int×List Int×List Int×List Int):=(.one (.agg (.cons (.k (.i .u8)) (.cons (.k (.list (.i .u8))) (.cons (.k (.list (.i .u16))) (.one (.k (.list (.i .u8)))))))))
def Nw (d:Int×List Int×List Int×List Int):Prop:=bOk d.1 d.2.1 d.2.2.1 d.2.2.2
def WT (d:Int×List Int×List Int×List Int):SV:=.agg [.val (.i .i64) (hkN 12 d.1),.lst 0]
def WQ (d:Int×List Int×List Int×List Int):List OB:=[.lst 3 (.i .i64) (Jl (hkN 12 d.1) 10 d.2.2.1) false]
def Xw:CSp:=W8 Yy Nw WT WQ
def ZX (h8:Int) (ws:List Int) (rs:List Int) (ds:List Int):Prop :=
 (I64 h8)∧((12:Int)≠0)∧(I64 ((1:Int)+(Int.tmod h8 (12:Int))))∧∃ (e4:Unit) (d40:(List Int)×Int),((True∧True∧True∧(0:Int)=d40.2∧True)∧((h8=h8∧ws=ws∧rs=rs∧ds=ds∧(([]:List SV)=[]))∧((0:Int)=(0:Int)∧True∧(([]:List SV)=[]))∧(((1:Int)+(Int.tmod h8 (12:Int)))=((1:Int)+(Int.tmod h8 (12:Int)))∧True∧(([]:List SV)=[]))∧(d40.1=[]∧(List.isEmpty d40.1)=true)∧True)) ∧
 LoopP (fun (d4:(List Int)×Int) (q4:((List Int)×Int)→Prop) =>
  (((d4.2==(0:Int))||((decide (d4.2<(lI rs)))&&(decide (d4.2<(10:Int)))))=true →
   ((decide (d4.2<(lI rs)))=true →
    (0≤d4.2)∧(d4.2<(List.length rs))∧(I64 (gD rs d4.2 0))∧(InK .u64 ((1:Int)+(Int.tmod h8 (12:Int))))∧(0≤((1:Int)+(Int.tmod h8 (12:Int))))∧(I64 (JC .i64 (1:Int) ((1:Int)+(Int.tmod h8 (12:Int)))))∧(I64 ((JC .i64 (1:Int) ((1:Int)+(Int.tmod h8 (12:Int))))-(1:Int)))∧(((List.length d4.1)+(List.length [(Q9 .and .i64 (gD rs d4.2 0) ((JC .i64 (1:Int) ((1:Int)+(Int.tmod h8 (12:Int))))-(1:Int)))]))*8≤70368744177664)∧(I64 (d4.2+(1:Int)))∧(∃ d5:(List Int)×Int,((True∧True∧True∧(d4.2+(1:Int))=d5.2∧True)∧((h8=h8∧ws=ws∧rs=rs∧ds=ds∧(([]:List SV)=[]))∧((0:Int)=(0:Int)∧True∧(([]:List SV)=[]))∧(((1:Int)+(Int.tmod h8 (12:Int)))=((1:Int)+(Int.tmod h8 (12:Int)))∧True∧(([]:List SV)=[]))∧((d4.1++[(Q9 .and .i64 (gD rs d4.2 0) ((JC .i64 (1:Int) ((1:Int)+(Int.tmod h8 (12:Int))))-(1:Int)))])=d5.1∧false=(List.isEmpty d5.1))∧True))∧q4 d5)) ∧
   ((decide (d4.2<(lI rs)))=false →
    (InK .u64 ((1:Int)+(Int.tmod h8 (12:Int))))∧(0≤((1:Int)+(Int.tmod h8 (12:Int))))∧(I64 (JC .i64 (1:Int) ((1:Int)+(Int.tmod h8 (12:Int)))))∧(I64 ((JC .i64 (1:Int) ((1:Int)+(Int.tmod h8 (12:Int))))-(1:Int)))∧(((List.length d4.1)+(List.length [(Q9 .and .i64 (21:Int) ((JC .i64 (1:Int) ((1:Int)+(Int.tmod h8 (12:Int))))-(1:Int)))]))*8≤70368744177664)∧(I64 (d4.2+(1:Int)))∧(∃ d6:(List Int)×Int,((True∧True∧True∧(d4.2+(1:Int))=d6.2∧True)∧((h8=h8∧ws=ws∧rs=rs∧ds=ds∧(([]:List SV)=[]))∧((0:Int)=(0:Int)∧True∧(([]:List SV)=[]))∧(((1:Int)+(Int.tmod h8 (12:Int)))=((1:Int)+(Int.tmod h8 (12:Int)))∧True∧(([]:List SV)=[]))∧((d4.1++[(Q9 .and .i64 (21:Int) ((JC .i64 (1:Int) ((1:Int)+(Int.tmod h8 (12:Int))))-(1:Int)))])=d6.1∧false=(List.isEmpty d6.1))∧True))∧q4 d6))) ∧
  (((d4.2==(0:Int))||((decide (d4.2<(lI rs)))&&(decide (d4.2<(10:Int)))))=false →
   ((((1:Int)+(Int.tmod h8 (12:Int)))=(hkN 12 h8)∧True∧(([]:List SV)=[]))∧((d4.1=(Jl (hkN 12 h8) 10 rs)∧(List.isEmpty d4.1)=false)∧True)))) d40
def YA:Cx:=⟨[(3,(.i .i64))],[],51,[],0,[],[],[],[],false,[],[],[],[]⟩
def Mh (h8:Int) (ws:List Int) (rs:List Int) (ds:List Int):List (Nat×LoopAnn):=[(0,⟨Unit,(List Int)×Int,[1,2,3,4],fun e x=>[.box 1 0,.box 2 0,.box 3 0,.val (.i .i64) x.2],fun e x=>[(1,.slot 1,.cells [.val (.i .u8) h8,.val (.list (.i .u8)) ws,.val (.list (.i .u16)) rs,.val (.list (.i .u8)) ds] (some 25)),(2,.slot 2,.cells [.val (.i .i64) (0:Int),.nilS] (some 31)),(3,.slot 3,.cells [.val (.i .i64) ((1:Int)+(Int.tmod h8 (12:Int))),.lst 48] (some 31)),(48,.cell 3 1,.lst 3 (.i .i64) x.1 (List.isEmpty x.1))]⟩)]
set_option maxRecDepth 100000 in
theorem NG (d:Int×List Int×List Int×List Int):gwp (YA) (Mh d.1 d.2.1 d.2.2.1 d.2.2.2) c5 0 (WE [.cell 2 true 2] (WT d) (WQ d)) (Qp 51 (AL.can Yy d))=ZX d.1 d.2.1 d.2.2.1 d.2.2.2:=by kernel_rfl
abbrev Mn:Prop:=OkC Tryz.prog 5 Xw
theorem NC (h:∀ (h8:Int) (ws:List Int) (rs:List Int) (ds:List Int),(bOk h8 ws rs ds)→ZX h8 ws rs ds):OkC Tryz.prog 5 Xw :=
 Qz Z2y mixed (C:=YA) (V:=fun (d:Int×List Int×List Int×List Int)=>ZX d.1 d.2.1 d.2.2.1 d.2.2.2) ⟨.nil,XsOk.nil,ItsOk.nil,YlOk.nil,IysOk.nil,XfOk.nil⟩ (NG) fun d hp=>h d.1 d.2.1 d.2.2.1 d.2.2.2 hp
theorem Q4e {x h:Int}(h0:0≤x) (h1:x<9223372036854775808) (a:1≤h) (b:h≤24):Q9 .and .i64 x (JC .i64 1 h-1)=x % 2 ^ h.toNat:=by
 obtain⟨n,rfl⟩:=Int.eq_ofNat_of_zero_le h0;obtain⟨m,rfl⟩:=Int.eq_ofNat_of_zero_le (show 0≤h by omega);have hp:=NO a b;rw[Fw (by omega) (by omega)];simp only[Int.toNat_natCast] at hp ⊢;have e2:((2:Int) ^ m)=((2 ^ m:Nat):Int):=by rw[Int.natCast_pow];rfl
 rw[e2] at hp ⊢;have e:(((2 ^ m:Nat):Int)-1)=((2 ^ m-1:Nat):Int):=by omega
 rw[e,I0 (by omega) (by omega),Nat.and_two_pow_sub_one_eq_mod];rfl
theorem EC {hk:Int}{cap:Nat}{rs:List Int}:(Jl hk cap rs).length=if rs=[] then 1 else min cap rs.length:=by unfold Jl;split<;>simp
theorem Q2d {hk:Int}{cap:Nat}{rs:List Int}{i:Nat}(h:i<rs.length) (hc:i<cap):(Jl hk cap rs)[i]?=some (rs.getD i 0 % 2 ^ hk.toNat):=by
 have aA:rs≠[]:=by rintro rfl;simp at h
 unfold Jl;rw[if_neg aA];simp[hc,h]
theorem Ms:Mn:=NC fun h8 ws rs ds h=>by
 obtain⟨h1,h2,pM,pN,hds⟩:=h;have hk:1≤hkN 12 h8∧hkN 12 h8≤12:=TL (m:=12) (by omega) h1;have e:(1+Int.tmod h8 12)=hkN 12 h8:=rfl;have hp:=NO hk.1 (show hkN 12 h8≤24 by omega);have hs:=Fw (show 0≤hkN 12 h8 by omega) (show hkN 12 h8≤62 by omega);have hm:∀ x,0≤x→x<9223372036854775808→Q9 .and .i64 x (2 ^ (hkN 12 h8).toNat-1)=x % 2 ^ (hkN 12 h8).toNat:=fun x a b=>by
  have:=Q4e a b hk.1 (show hkN 12 h8≤24 by omega)
  rwa [hs] at this
 have hu:InK .u64 (hkN 12 h8):=⟨by show (0:Int)≤_;omega,by show _≤(18446744073709551615:Int);omega⟩;unfold ZX;(try delta lI gD sT I64);simp only[true_and,and_true,exists_const,decide_eq_true_eq,decide_eq_false_iff_not,ne_eq,QM,e,hs,hu];refine⟨by omega,by omega,by omega,([],0),⟨rfl,rfl,rfl⟩,?_⟩;have hN:(Jl (hkN 12 h8) 10 rs).length=if rs=[] then 1 else min 10 rs.length:=EC
 have ak:∀ k:Nat,(((k:Int)==0)||(decide ((k:Int)<rs.length)&&decide ((k:Int)<10)))=decide (k<(Jl (hkN 12 h8) 10 rs).length):=fun k=>by
  rw[hN];by_cases hz:rs=[]
  ·subst hz;cases k<;>simp;omega
  ·have:0<rs.length:=List.length_pos_iff.2 hz;rw[if_neg hz];cases k with
   |zero=>simp;omega
   |succ k =>rw[Bool.eq_iff_iff];simp;omega
 have rI:(Jl (hkN 12 h8) 10 rs).length≤10:=by rw[hN];split<;>omega
 refine LoopP.count2 (Jl (hkN 12 h8) 10 rs).length (fun k xs=>xs=(Jl (hkN 12 h8) 10 rs).take k) (by simp) fun k xs kU hJ q hq=>?_;dsimp only;rw[ak];simp only[decide_eq_true_eq,decide_eq_false_iff_not,Int.toNat_natCast,Int.ofNat_lt];refine⟨fun ah=>⟨fun hw=>?_,fun hw=>?_⟩,fun bg=>?_⟩
 ·have hw:k<rs.length:=by omega
  have vI:=pN _ (List.getElem_mem hw);have rK:k<10:=by omega
  simp only[Qa hw,List.length_singleton];have hv:(Jl (hkN 12 h8) 10 rs)[k]=rs[k] % 2 ^ (hkN 12 h8).toNat:=by have:=Q2d (hk:=hkN 12 h8) hw rK;rw[Qa hw] at this;have h3:=List.getElem?_eq_getElem ah;exact osj (h3.symm.trans this)
  rw[hm _ (by omega) (by omega)];refine⟨by omega,by omega,by omega,by omega,by omega,by omega,by rw[hJ,List.length_take];omega,by omega,(xs++[rs[k] % 2 ^ (hkN 12 h8).toNat],(k:Int)+1),⟨rfl,rfl,by simp⟩,hq _ ah ?_⟩;rw[Qu ah,←hJ,hv]
 ·have hz:rs=[]:=by
   cases pN:rs with
   |nil=>rfl
   |cons a l =>
    exfalso;rw[hN] at ah;have:rs≠[]:=by rw[pN];simp
    rw[if_neg this] at ah;omega
  have fw:k=0:=by rw[hN,if_pos hz] at ah;omega
  subst fw;simp only[List.length_singleton];rw[hm _ (by omega) (by omega)];refine⟨by omega,by omega,by omega,by rw[hJ,List.length_take];omega,by omega,(xs++[21 % 2 ^ (hkN 12 h8).toNat],1),⟨rfl,rfl,by simp⟩,hq _ ah ?_⟩;rw[Qu ah,←hJ];simp[Jl,hz]
 ·have:k=(Jl (hkN 12 h8) 10 rs).length:=by omega
  subst this;rw[List.take_length] at hJ;subst hJ;refine⟨rfl,?_⟩;rw[List.isEmpty_eq_false_iff];intro hz;rw[hz] at hN;split at hN
  ·cases hN
  ·rename_i aA;have:=List.length_pos_iff.2 aA;simp only[List.length_nil] at hN;omega
def Gm:AL (List Int×Int):=(.cons (.k (.list (.i .u8))) (.one (.k (.i .i64))))
def Te (d:List Int×Int):Prop:=d.1.length≤9223372036854775807∧0≤d.2∧∀ x∈d.1,0≤x∧x≤255
def NI (d:List Int×Int):SV:=.val (.i .i64) (ZM d.1 d.2)
def Mp (d:List Int×Int):List OB:=[]
def K4:CSp:=W8 Gm Te NI Mp
def Ye (l:List Int) (i:Int):Prop :=
 (((lI l)==(0:Int))=true →
  ((0:Int)=(ZM l i)∧(True))) ∧
 (((lI l)==(0:Int))=false →
  ((lI l)≠0)∧(0≤(Int.tmod i (lI l)))∧((Int.tmod i (lI l))<(List.length l))∧(I64 (gD l (Int.tmod i (lI l)) 0))∧((gD l (Int.tmod i (lI l)) 0)=(ZM l i)∧(True)))
def GS:Cx:=⟨[],[],16,[],0,[],[],[],[],false,[],[],[],[]⟩
def RP (l:List Int) (i:Int):List (Nat×LoopAnn):=[]
set_option maxRecDepth 100000 in
theorem S5 (d:List Int×Int):gwp (GS) (RP d.1 d.2) c9 0 (WE [.tmp 4] (NI d) (Mp d)) (Qp 16 (AL.can Gm d))=Ye d.1 d.2:=by kernel_rfl
abbrev RU:Prop:=OkC Tryz.prog 9 K4
theorem Rv (h:∀ (l:List Int) (i:Int),(l.length≤9223372036854775807∧0≤i∧∀ x∈l,0≤x∧x≤255)→Ye l i):OkC Tryz.prog 9 K4 :=
 Qz Z41 mixed (C:=GS) (V:=fun (d:List Int×Int)=>Ye d.1 d.2) ⟨.nil,XsOk.nil,ItsOk.nil,YlOk.nil,IysOk.nil,XfOk.nil⟩ (S5) fun d hp=>h d.1 d.2 hp
theorem GN:RU:=Rv fun l i h=>by
 obtain⟨h1,h2,h3⟩:=h;unfold Ye;(try delta lI gD sT I64);refine⟨fun hx=>?_,fun hx=>?_⟩
 ·have:l.length=0:=by have:=eq_of_beq hx;omega
  unfold ZM;rw[if_pos this];exact(by and_intros<;>first|rfl|trivial|simp)
 ·have h0:l.length≠0:=by have:=ne_of_beq_false hx;omega
  have e:=Int.tmod_eq_emod_of_nonneg (b:=(l.length:Int)) h2;have g1:=Int.emod_nonneg i (show (l.length:Int)≠0 by omega);have g2:=Int.emod_lt_of_pos i (show (0:Int)<l.length by omega);have g3:(Int.tmod i l.length).toNat<l.length:=by omega
  have g4:=h3 _ (by rw[Qa g3];exact List.getElem_mem g3:l.getD (Int.tmod i l.length).toNat 0∈l);refine⟨by omega,by omega,by omega,by rw[QM];omega,?_⟩;unfold ZM;rw[if_neg h0];exact(by and_intros<;>first|rfl|trivial|simp)
def GH:AL (Int×List (Int×Int×Bool)):=(.one (.agg (.cons (.k (.i .i64)) (.one (.k (.list (.pair (.i .i64) (.pair (.i .i64) .bo))))))))
def T1 (d:Int×List (Int×Int×Bool)):Prop:=d.2.length≤1000
def My (d:Int×List (Int×Int×Bool)):SV:=.agg [.val (.i .i64) d.1,.lst 0]
def NT (d:Int×List (Int×Int×Bool)):List OB:=[.lst 43 (.pair (.i .i64) (.pair (.i .i64) .bo)) d.2 false]
def Un:CSp:=W8 GH T1 My NT
def Yk (hk:Int) (cs:List (Int×Int×Bool)):Prop :=
 (((List.length ([]:List (Int×Int×Bool)))+(List.length cs))*24≤70368744177664)∧((hk=hk∧True∧(([]:List SV)=[]))∧(((([]:List (Int×Int×Bool))++cs)=cs∧((List.isEmpty cs)&&false)=false)∧True))
def GB:Cx:=⟨[(43,(.pair (.i .i64) (.pair (.i .i64) .bo)))],[],10,[],0,[],[],[],[],false,[],[],[],[]⟩
def Ss (hk:Int) (cs:List (Int×Int×Bool)):List (Nat×LoopAnn):=[]
set_option maxRecDepth 100000 in
theorem RK (d:Int×List (Int×Int×Bool)):gwp (GB) (Ss d.1 d.2) c25 0 (WE [.cell 2 true 2] (My d) (NT d)) (Qp 10 (AL.can GH d))=Yk d.1 d.2:=by kernel_rfl
abbrev RB:Prop:=OkC Tryz.prog 25 Un
theorem RT (h:∀ (hk:Int) (cs:List (Int×Int×Bool)),(cs.length≤1000)→Yk hk cs):OkC Tryz.prog 25 Un :=
 Qz Q8w mixed (C:=GB) (V:=fun (d:Int×List (Int×Int×Bool))=>Yk d.1 d.2) ⟨.nil,XsOk.nil,ItsOk.nil,YlOk.nil,IysOk.nil,XfOk.nil⟩ (RK) fun d hp=>h d.1 d.2 hp
theorem S0:RB:=RT fun hk cs h=>by
 (unfold Yk;(try delta lI gD sT I64);simp);omega
def M9:AL (Int×Int):=(.cons (.k (.i .i64)) (.one (.k (.i .i64))))
def Pk (d:Int×Int):Prop:=0≤d.1∧0≤d.2∧d.1≤100∧d.2≤100
def N0 (d:Int×Int):SV:=.lst 0
def UX (d:Int×Int):List OB:=[.lst 3 (.i .i64) (List.replicate (d.1*d.2).toNat (1:Int)) false]
def VP:CSp:=W8 M9 Pk N0 UX
def We (n:Int) (r:Int):Prop :=
 ∃ (e2:Unit) (d20:(List Int)×Int),((n=n∧r=r∧True∧(0:Int)=d20.2∧True)∧((([]:List Int)=d20.1∧false=false)∧True)) ∧
 LoopP (fun (d2:(List Int)×Int) (q2:((List Int)×Int)→Prop) =>
  (I64 (n*r))∧((decide (d2.2<(n*r)))=true →
   (((List.length d2.1)+(List.length [(1:Int)]))*8≤70368744177664)∧(I64 (d2.2+(1:Int)))∧(∃ d3:(List Int)×Int,((n=n∧r=r∧True∧(d2.2+(1:Int))=d3.2∧True)∧(((d2.1++[(1:Int)])=d3.1∧false=false)∧True))∧q2 d3)) ∧
  ((decide (d2.2<(n*r)))=false →
   (True∧((d2.1=(List.replicate (n*r).toNat (1:Int))∧false=false)∧True)))) d20
def Me:Cx:=⟨[(3,(.i .i64))],[],19,[],0,[],[],[],[],false,[],[],[],[]⟩
def Ri (n:Int) (r:Int):List (Nat×LoopAnn):=[(0,⟨Unit,(List Int)×Int,[0,1,5,6],fun e x=>[.val (.i .i64) n,.val (.i .i64) r,.lst 7,.val (.i .i64) x.2],fun e x=>[(7,.slot 5,.lst 3 (.i .i64) x.1 false)]⟩)]
set_option maxRecDepth 100000 in
theorem TG (d:Int×Int):gwp (Me) (Ri d.1 d.2) c15 0 (WE [.tmp 4] (N0 d) (UX d)) (Qp 19 (AL.can M9 d))=We d.1 d.2:=by kernel_rfl
abbrev Tz:Prop:=OkC Tryz.prog 15 VP
theorem PJ (h:∀ (n:Int) (r:Int),(0≤n∧0≤r∧n≤100∧r≤100)→We n r):OkC Tryz.prog 15 VP :=
 Qz Q9r mixed (C:=Me) (V:=fun (d:Int×Int)=>We d.1 d.2) ⟨.nil,XsOk.nil,ItsOk.nil,YlOk.nil,IysOk.nil,XfOk.nil⟩ (TG) fun d hp=>h d.1 d.2 hp
theorem Rb:Tz:=PJ fun n r h=>by
 obtain⟨h1,h2,h3,h4⟩:=h;unfold We;(try delta lI gD sT I64);have hm:0≤n*r∧n*r≤10000:=⟨Int.mul_nonneg h1 h2,by have:=Int.mul_le_mul h3 h4 h2 (by omega:(0:Int)≤100);omega⟩;generalize n*r=m at hm ⊢;obtain⟨m,rfl⟩:=Int.eq_ofNat_of_zero_le hm.1;refine⟨(),([],0),(by and_intros<;>first|rfl|trivial|simp),?_⟩;refine LoopP.count2 m (fun k xs=>xs=List.replicate k (1:Int)) rfl fun k xs hk hJ q hq=>?_;subst hJ;dsimp only;refine⟨by rw[QM];omega,fun c=>?_,fun c=>?_⟩
 ·have ah:k<m:=by simpa using c
  refine⟨by simp;omega,by rw[QM];omega,(List.replicate (k+1) (1:Int),(k:Int)+1),?_,hq _ ah rfl⟩;and_intros<;>first|rfl|trivial|simp[List.replicate_succ']
 ·have aq:k=m:=by simp at c;omega
  subst aq;rw[Int.toNat_natCast];and_intros<;>first|rfl|trivial|simp
def Vj:AL ((Int×List (Int×Int×Bool))×List Int):=(.cons (.agg (.cons (.k (.i .i64)) (.one (.k (.list (.pair (.i .i64) (.pair (.i .i64) .bo))))))) (.one (.k (.list (.i .u8)))))
def D5 (d:(Int×List (Int×Int×Bool))×List Int):Prop:=d.1.2.length≤60∧d.2.length≤9223372036854775807∧∀ x∈d.2,0≤x∧x≤255
def KL (d:(Int×List (Int×Int×Bool))×List Int):SV:=.agg [.val (.i .i64) d.1.1,.lst 0]
def Km (d:(Int×List (Int×Int×Bool))×List Int):List OB:=[.lst 43 (.pair (.i .i64) (.pair (.i .i64) .bo)) (Q1h d.2 d.1.2) false]
def Y4:CSp:=W8 Vj D5 KL Km
def JU (hk:Int) (cs:List (Int×Int×Bool)) (by_:List Int):Prop :=
 (cs.length≤1000)∧(I64 ((lI cs)-(1:Int)))∧∃ (e3:Unit) (d30:(List (Int×Int×Bool))×Int),((by_=by_∧True∧True∧((lI cs)-(1:Int))=d30.2∧True)∧((hk=hk∧True∧(([]:List SV)=[]))∧(cs=d30.1∧false=false)∧((0:Int)=(0:Int)∧True∧(([]:List SV)=[]))∧True)) ∧
 LoopP (fun (d3:(List (Int×Int×Bool))×Int) (q3:((List (Int×Int×Bool))×Int)→Prop) =>
  ((decide (d3.2 > (0:Int)))=true →
   (by_.length≤9223372036854775807∧0≤d3.2∧∀ x∈by_,0≤x∧x≤255)∧(I64 (d3.2+(1:Int)))∧((d3.2+(1:Int))≠0)∧(0≤d3.2)∧(d3.2<(List.length d3.1))∧(0≤(Int.tmod (ZM by_ d3.2) (d3.2+(1:Int))))∧((Int.tmod (ZM by_ d3.2) (d3.2+(1:Int)))<(List.length d3.1))∧((by_=by_∧True∧True∧d3.2=d3.2∧(Int.tmod (ZM by_ d3.2) (d3.2+(1:Int)))=(Int.tmod (ZM by_ d3.2) (d3.2+(1:Int)))∧True∧True∧((gD d3.1 (Int.tmod (ZM by_ d3.2) (d3.2+(1:Int))) (0,(0,false))).1=(gD d3.1 (Int.tmod (ZM by_ d3.2) (d3.2+(1:Int))) (0,(0,false))).1∧(gD d3.1 (Int.tmod (ZM by_ d3.2) (d3.2+(1:Int))) (0,(0,false))).2.1=(gD d3.1 (Int.tmod (ZM by_ d3.2) (d3.2+(1:Int))) (0,(0,false))).2.1∧(gD d3.1 (Int.tmod (ZM by_ d3.2) (d3.2+(1:Int))) (0,(0,false))).2.2=(gD d3.1 (Int.tmod (ZM by_ d3.2) (d3.2+(1:Int))) (0,(0,false))).2.2∧(([]:List SV)=[]))∧True)∧((hk=hk∧True∧(([]:List SV)=[]))∧((0:Int)=(0:Int)∧True∧(([]:List SV)=[]))∧((gD d3.1 d3.2 (0,(0,false))).1=(gD d3.1 d3.2 (0,(0,false))).1∧(gD d3.1 d3.2 (0,(0,false))).2.1=(gD d3.1 d3.2 (0,(0,false))).2.1∧(gD d3.1 d3.2 (0,(0,false))).2.2=(gD d3.1 d3.2 (0,(0,false))).2.2∧(([]:List SV)=[]))∧((0:Int)=(0:Int)∧(0:Int)=(0:Int)∧false=false∧(([]:List SV)=[]))∧(d3.1=d3.1∧false=false)∧True))∧((0≤d3.2)∧(d3.2<(List.length d3.1))∧(0≤(Int.tmod (ZM by_ d3.2) (d3.2+(1:Int))))∧((Int.tmod (ZM by_ d3.2) (d3.2+(1:Int)))<(List.length d3.1))∧((by_=by_∧True∧True∧d3.2=d3.2∧(Int.tmod (ZM by_ d3.2) (d3.2+(1:Int)))=(Int.tmod (ZM by_ d3.2) (d3.2+(1:Int)))∧True∧True∧((gD d3.1 (Int.tmod (ZM by_ d3.2) (d3.2+(1:Int))) (0,(0,false))).1=(gD d3.1 (Int.tmod (ZM by_ d3.2) (d3.2+(1:Int))) (0,(0,false))).1∧(gD d3.1 (Int.tmod (ZM by_ d3.2) (d3.2+(1:Int))) (0,(0,false))).2.1=(gD d3.1 (Int.tmod (ZM by_ d3.2) (d3.2+(1:Int))) (0,(0,false))).2.1∧(gD d3.1 (Int.tmod (ZM by_ d3.2) (d3.2+(1:Int))) (0,(0,false))).2.2=(gD d3.1 (Int.tmod (ZM by_ d3.2) (d3.2+(1:Int))) (0,(0,false))).2.2∧(([]:List SV)=[]))∧True)∧((hk=hk∧True∧(([]:List SV)=[]))∧((0:Int)=(0:Int)∧True∧(([]:List SV)=[]))∧((gD d3.1 d3.2 (0,(0,false))).1=(gD d3.1 d3.2 (0,(0,false))).1∧(gD d3.1 d3.2 (0,(0,false))).2.1=(gD d3.1 d3.2 (0,(0,false))).2.1∧(gD d3.1 d3.2 (0,(0,false))).2.2=(gD d3.1 d3.2 (0,(0,false))).2.2∧(([]:List SV)=[]))∧((0:Int)=(0:Int)∧(0:Int)=(0:Int)∧false=false∧(([]:List SV)=[]))∧(d3.1=d3.1∧false=false)∧True)))∧(0≤d3.2)∧(d3.2<(List.length d3.1))∧(0≤(Int.tmod (ZM by_ d3.2) (d3.2+(1:Int))))∧((Int.tmod (ZM by_ d3.2) (d3.2+(1:Int)))<(List.length (sT d3.1 d3.2 ((gD d3.1 (Int.tmod (ZM by_ d3.2) (d3.2+(1:Int))) (0,(0,false))).1,((gD d3.1 (Int.tmod (ZM by_ d3.2) (d3.2+(1:Int))) (0,(0,false))).2.1,(gD d3.1 (Int.tmod (ZM by_ d3.2) (d3.2+(1:Int))) (0,(0,false))).2.2)))))∧(I64 (d3.2-(1:Int)))∧(∃ d4:(List (Int×Int×Bool))×Int,((by_=by_∧True∧True∧(d3.2-(1:Int))=d4.2∧True)∧((hk=hk∧True∧(([]:List SV)=[]))∧((sT (sT d3.1 d3.2 ((gD d3.1 (Int.tmod (ZM by_ d3.2) (d3.2+(1:Int))) (0,(0,false))).1,((gD d3.1 (Int.tmod (ZM by_ d3.2) (d3.2+(1:Int))) (0,(0,false))).2.1,(gD d3.1 (Int.tmod (ZM by_ d3.2) (d3.2+(1:Int))) (0,(0,false))).2.2))) (Int.tmod (ZM by_ d3.2) (d3.2+(1:Int))) ((gD d3.1 d3.2 (0,(0,false))).1,((gD d3.1 d3.2 (0,(0,false))).2.1,(gD d3.1 d3.2 (0,(0,false))).2.2)))=d4.1∧false=false)∧((0:Int)=(0:Int)∧True∧(([]:List SV)=[]))∧True))∧q3 d4)) ∧
  ((decide (d3.2 > (0:Int)))=false →
   ((hk=hk∧True∧(([]:List SV)=[]))∧((d3.1=(Q1h by_ cs)∧false=false)∧True)))) d30
def Vl:Cx:=⟨[],[(25,Un),(9,K4)],46,[],0,[],[],[],[1,2,4,5,6,7,8,34],false,[],[],[],[]⟩
def B2 (hk:Int) (cs:List (Int×Int×Bool)) (by_:List Int):List (Nat×LoopAnn):=[(0,⟨Unit,(List (Int×Int×Bool))×Int,[1,2,4,5],fun e x=>[.val (.list (.i .u8)) by_,.box 2 0,.box 4 0,.val (.i .i64) x.2],fun e x=>[(2,.slot 2,.cells [.val (.i .i64) hk,.lst 10] (some 35)),(10,.cell 2 1,.lst 43 (.pair (.i .i64) (.pair (.i .i64) .bo)) x.1 false),(4,.slot 4,.cells [.val (.i .i64) (0:Int),.nilS] (some 35))]⟩)]
set_option maxRecDepth 100000 in
theorem BU (d:(Int×List (Int×Int×Bool))×List Int):gwp (Vl) (B2 d.1.1 d.1.2 d.2) c8 0 (WE [.cell 4 true 2] (KL d) (Km d)) (Qp 46 (AL.can Vj d))=JU d.1.1 d.1.2 d.2:=by kernel_rfl
abbrev DG:Prop:=OkC Tryz.prog 8 Y4
theorem B7 (h:∀ (hk:Int) (cs:List (Int×Int×Bool)) (by_:List Int),(cs.length≤60∧by_.length≤9223372036854775807∧∀ x∈by_,0≤x∧x≤255)→JU hk cs by_):OkC Tryz.prog 8 Y4 :=
 Qz Z3f mixed (C:=Vl) (V:=fun (d:(Int×List (Int×Int×Bool))×List Int)=>JU d.1.1 d.1.2 d.2) ⟨(.cons S0 (.cons GN .nil)),XsOk.nil,ItsOk.nil,YlOk.nil,IysOk.nil,XfOk.nil⟩ (BU) fun d hp=>h d.1.1 d.1.2 d.2 hp
theorem AR (by_:List Int) (l:List K6):∀ m,(Us by_ l m).length=l.length
 |0=>rfl
 |m+1=>by unfold Us PA;rw[List.length_set,List.length_set,AR by_ l m]
theorem Bx:DG:=B7 fun hk cs by_ h=>by
 obtain⟨h1,h2,h3⟩:=h;unfold JU;(try delta lI gD sT I64);refine⟨by omega,by rw[QM];omega,(),(cs,(cs.length:Int)-1),(by and_intros<;>first|rfl|trivial|simp),?_⟩;refine⟨fun d=>∃ m:Nat,m≤cs.length-1∧d=(Us by_ cs m,((cs.length:Int)-1)-m),fun d=>d.2.toNat,⟨0,by omega,by simp[Us]⟩,?_⟩;rintro _ ⟨m,hm,rfl⟩;dsimp only;have hl:=AR by_ cs m;refine⟨fun c=>?_,fun c=>?_⟩
 ·simp only[decide_eq_true_eq] at c;obtain⟨i,hi⟩:∃ i:Nat,((cs.length:Int)-1)-m=i:=⟨cs.length-1-m,by omega⟩;have ij:cs.length-1-m=i:=by omega
  rw[hi] at c ⊢;have hb:=FG h3 (show (0:Int)≤(i:Int) by omega);have t1:=Int.tmod_nonneg ((i:Int)+1) hb.1;have t2:=Int.tmod_lt_of_pos (ZM by_ i) (show (0:Int)<(i:Int)+1 by omega);have a_:Us by_ cs (m+1)=((Us by_ cs m).set i ((Us by_ cs m).getD (Int.tmod (ZM by_ i) ((i:Int)+1)).toNat W_)).set (Int.tmod (ZM by_ i) ((i:Int)+1)).toNat ((Us by_ cs m).getD i W_):=by show PA by_ (Us by_ cs m) (cs.length-1-m)=_;rw[ij];rfl
  generalize Int.tmod (ZM by_ (i:Int)) ((i:Int)+1)=k at *
  obtain⟨k,rfl⟩:=Int.eq_ofNat_of_zero_le t1;simp only[Int.toNat_natCast] at a_ ⊢;have fin:∃ m':Nat,m'≤cs.length-1∧(Us by_ cs (m+1),(i:Int)-1)=(Us by_ cs m',((cs.length:Int)-1)-m'):=⟨m+1,by omega,by rw[Prod.mk.injEq];exact⟨rfl,by omega⟩⟩;have vJ:((Us by_ cs (m+1),(i:Int)-1):List K6×Int).2.toNat<(i:Int).toNat:=by dsimp only;omega
  have oH:((Us by_ cs m).set i ((Us by_ cs m).getD k W_)).length=cs.length:=by rw[List.length_set,hl]
  unfold W_ at a_ oH
  repeat' (first
   |with_reducible refine And.intro ?_ ?_
   |(refine⟨(Us by_ cs (m+1),(i:Int)-1),?_,fin,vJ⟩;rw[a_];and_intros<;>first|rfl|trivial)
   |assumption
   |omega
   |(rw[QM];omega)
   |(rw[List.length_set];omega)
   |rfl
   |trivial)
 ·simp only[decide_eq_false_iff_not] at c;have iw:m=cs.length-1:=by omega
  subst iw;exact(by and_intros<;>first|rfl|trivial|simp)
def VX:AL (Int×List Int):=(.cons (.k (.i .i64)) (.one (.k (.list (.i .u8)))))
def DD (d:Int×List Int):Prop:=1≤d.1∧d.1≤30∧u8s d.2
def V9 (d:Int×List Int):SV:=.lst 0
def Va (d:Int×List Int):List OB:=[.lst 3 (.i .i64) (VN d.2 d.1.toNat) false]
def YJ:CSp:=W8 VX DD V9 Va
def Xl (n:Int) (ds:List Int):Prop :=
 ∃ (e2:Unit) (d20:(List Int)×Int),((n=n∧ds=ds∧True∧(0:Int)=d20.2∧True)∧((([]:List Int)=d20.1∧false=false)∧True)) ∧
 LoopP (fun (d2:(List Int)×Int) (q2:((List Int)×Int)→Prop) =>
  ((decide (d2.2<n))=true →
   ((decide (d2.2<(lI ds)))=true →
    (0≤d2.2)∧(d2.2<(List.length ds))∧(I64 (gD ds d2.2 0))∧((16:Int)≠0)∧(((Int.tmod (gD ds d2.2 0) (16:Int))==(15:Int))=true →
     (((List.length d2.1)+(List.length [(-1:Int)]))*8≤70368744177664)∧(I64 (d2.2+(1:Int)))∧(∃ d3:(List Int)×Int,((n=n∧ds=ds∧True∧(d2.2+(1:Int))=d3.2∧True)∧(((d2.1++[(-1:Int)])=d3.1∧false=false)∧True))∧q2 d3)) ∧
    (((Int.tmod (gD ds d2.2 0) (16:Int))==(15:Int))=false →
     ((decide ((gD ds d2.2 0)≥(80:Int)))=true →
      (n≠0)∧(((List.length d2.1)+(List.length [(Int.tmod (gD ds d2.2 0) n)]))*8≤70368744177664)∧(I64 (d2.2+(1:Int)))∧(∃ d4:(List Int)×Int,((n=n∧ds=ds∧True∧(d2.2+(1:Int))=d4.2∧True)∧(((d2.1++[(Int.tmod (gD ds d2.2 0) n)])=d4.1∧false=false)∧True))∧q2 d4)) ∧
     ((decide ((gD ds d2.2 0)≥(80:Int)))=false →
      (((List.length d2.1)+(List.length [d2.2]))*8≤70368744177664)∧(I64 (d2.2+(1:Int)))∧(∃ d5:(List Int)×Int,((n=n∧ds=ds∧True∧(d2.2+(1:Int))=d5.2∧True)∧(((d2.1++[d2.2])=d5.1∧false=false)∧True))∧q2 d5)))) ∧
   ((decide (d2.2<(lI ds)))=false →
    (((List.length d2.1)+(List.length [d2.2]))*8≤70368744177664)∧(I64 (d2.2+(1:Int)))∧(∃ d6:(List Int)×Int,((n=n∧ds=ds∧True∧(d2.2+(1:Int))=d6.2∧True)∧(((d2.1++[d2.2])=d6.1∧false=false)∧True))∧q2 d6))) ∧
  ((decide (d2.2<n))=false →
   (True∧((d2.1=(VN ds n.toNat)∧false=false)∧True)))) d20
def U4:Cx:=⟨[(3,(.i .i64))],[],38,[],0,[],[],[],[],false,[],[],[],[]⟩
def Hl (n:Int) (ds:List Int):List (Nat×LoopAnn):=[(0,⟨Unit,(List Int)×Int,[0,1,5,6],fun e x=>[.val (.i .i64) n,.val (.list (.i .u8)) ds,.lst 9,.val (.i .i64) x.2],fun e x=>[(9,.slot 5,.lst 3 (.i .i64) x.1 false)]⟩)]
set_option maxRecDepth 100000 in
theorem H8 (d:Int×List Int):gwp (U4) (Hl d.1 d.2) c13 0 (WE [.tmp 4] (V9 d) (Va d)) (Qp 38 (AL.can VX d))=Xl d.1 d.2:=by kernel_rfl
abbrev Hf:Prop:=OkC Tryz.prog 13 YJ
theorem H4 (h:∀ (n:Int) (ds:List Int),(1≤n∧n≤30∧u8s ds)→Xl n ds):OkC Tryz.prog 13 YJ :=
 Qz Z08 mixed (C:=U4) (V:=fun (d:Int×List Int)=>Xl d.1 d.2) ⟨.nil,XsOk.nil,ItsOk.nil,YlOk.nil,IysOk.nil,XfOk.nil⟩ (H8) fun d hp=>h d.1 d.2 hp
theorem AM (ds:List Int) (n:Nat):(VN ds n).length=n:=by simp[VN]
theorem AJ (ds:List Int) {n k:Nat}(h:k<n):(VN ds n)[k]'(by rw[AM];exact h)=if k<ds.length then (if Int.tmod (ds.getD k 0) 16=15 then -1 else if ds.getD k 0≥80 then Int.tmod (ds.getD k 0) n else k) else k:=by simp[VN]
theorem Hm:Hf:=H4 fun n ds h=>by
 obtain⟨fT,eg,hds⟩:=h;obtain⟨n,rfl⟩:=Int.eq_ofNat_of_zero_le (show 0≤n by omega);unfold Xl;(try delta lI gD sT I64);simp only[true_and,and_true,exists_const,decide_eq_true_eq,decide_eq_false_iff_not,beq_iff_eq,ne_eq,beq_eq_false_iff_ne,Int.toNat_natCast,ge_iff_le,QM];refine⟨([],0),⟨rfl,rfl⟩,?_⟩;have hl:=AM ds n;refine LoopP.count2 n (fun k xs=>xs=(VN ds n).take k) (by simp) fun k xs hk hJ q hq=>?_;have fH:xs.length=k:=by rw[hJ,List.length_take];omega
 dsimp only;simp only[Int.toNat_natCast,Int.ofNat_lt];have fin:∀ (ah:k<n) (v:Int),(VN ds n)[k]'(by rw[hl];exact ah)=v→∃ d:List Int×Int,((k:Int)+1=d.2∧xs++[v]=d.1)∧q d:=fun ah v hv=>by refine⟨(xs++[v],(k:Int)+1),⟨rfl,rfl⟩,hq _ ah ?_⟩;rw[Qu (by rw[hl];exact ah),←hJ,hv]
 refine⟨fun ah=>⟨fun hw=>?_,fun hw=>?_⟩,fun bg=>?_⟩
 ·have hw:k<ds.length:=by omega
  have hd:=hds _ (List.getElem_mem hw);have hg:=AJ ds (n:=n) (k:=k) (by omega);rw[if_pos hw] at hg;simp only[Qa hw,List.length_singleton] at hg ⊢;refine⟨by omega,by omega,by omega,by omega,fun pO=>?_,fun pO=>⟨fun rL=>?_,fun rL=>?_⟩⟩
  ·rw[if_pos pO] at hg;exact⟨by omega,by omega,fin (by omega) _ hg⟩
  ·rw[if_neg pO,if_pos rL] at hg;exact⟨by omega,by omega,by omega,fin (by omega) _ hg⟩
  ·rw[if_neg pO,if_neg rL] at hg;exact⟨by omega,by omega,fin (by omega) _ hg⟩
 ·have hw:¬ k<ds.length:=by omega
  have hg:=AJ ds (n:=n) (k:=k) (by omega);rw[if_neg hw] at hg;simp only[List.length_singleton];exact⟨by omega,by omega,fin (by omega) _ hg⟩
 ·have:k=n:=by omega
  subst this;rw[hJ,List.take_of_length_le (by omega)]
def GI:AL (List (List UInt8)×List (List UInt8)):=(.cons (.k (.list .st)) (.one (.k (.list .st))))
def TK (d:List (List UInt8)×List (List UInt8)):Prop:=d.1.length≤1000000
def NS (d:List (List UInt8)×List (List UInt8)):SV:=.val .bo (d.1==d.2)
def Mw (d:List (List UInt8)×List (List UInt8)):List OB:=[]
def UR:CSp:=W8 GI TK NS Mw
def Yi (a:List (List UInt8)) (b:List (List UInt8)):Prop :=
 (((lI a) != (lI b))=true →
  (false=(a==b)∧(True))) ∧
 (((lI a) != (lI b))=false →
  ∃ (e2:Unit) (d20:Int),((a=a∧b=b∧(0:Int)=d20∧True)∧(True)) ∧
  LoopP (fun (d2:Int) (q2:(Int)→Prop) =>
   ((decide (d2<(lI a)))=true →
    (0≤d2)∧(d2<(List.length a))∧(0≤d2)∧(d2<(List.length b))∧((!((gD a d2 [])==(gD b d2 [])))=true →
     (false=(a==b)∧(True))) ∧
    ((!((gD a d2 [])==(gD b d2 [])))=false →
     (I64 (d2+(1:Int)))∧(∃ d3:Int,((a=a∧b=b∧(d2+(1:Int))=d3∧True)∧(True))∧q2 d3))) ∧
   ((decide (d2<(lI a)))=false →
    (true=(a==b)∧(True)))) d20)
def GC:Cx:=⟨[],[],26,[],0,[],[],[],[],false,[],[],[],[]⟩
def S9 (a:List (List UInt8)) (b:List (List UInt8)):List (Nat×LoopAnn):=[(0,⟨Unit,Int,[0,1,5],fun e x=>[.val (.list .st) a,.val (.list .st) b,.val (.i .i64) x],fun e x=>[]⟩)]
set_option maxRecDepth 100000 in
theorem Sr (d:List (List UInt8)×List (List UInt8)):gwp (GC) (S9 d.1 d.2) c18 0 (WE [.tmp 4] (NS d) (Mw d)) (Qp 26 (AL.can GI d))=Yi d.1 d.2:=by kernel_rfl
abbrev Sx:Prop:=OkC Tryz.prog 18 UR
theorem RY (h:∀ (a:List (List UInt8)) (b:List (List UInt8)),(a.length≤1000000)→Yi a b):OkC Tryz.prog 18 UR :=
 Qz Z06 mixed (C:=GC) (V:=fun (d:List (List UInt8)×List (List UInt8))=>Yi d.1 d.2) ⟨.nil,XsOk.nil,ItsOk.nil,YlOk.nil,IysOk.nil,XfOk.nil⟩ (Sr) fun d hp=>h d.1 d.2 hp
theorem Sm:Sx:=RY fun a b h=>by
 unfold Yi;(try delta lI gD sT I64);simp only[true_and,and_true,exists_eq_left',exists_const,decide_eq_true_eq,decide_eq_false_iff_not,beq_iff_eq,bne_iff_ne,ne_eq,beq_eq_false_iff_ne,bne_eq_false_iff_eq,Bool.not_eq_true',Bool.not_eq_false'];refine⟨fun h=>?_,fun h=>?_⟩
 ·symm;rw[beq_eq_false_iff_ne];rintro rfl;exact h rfl
 have h:a.length=b.length:=by omega
 refine LoopP.count a.length (fun k=>a.take k=b.take k) rfl fun k bE hJ q hq=>?_;simp only[Int.toNat_natCast,Int.ofNat_lt,QM];refine⟨fun ah=>?_,fun bg=>?_⟩
 ·have ah:k<a.length:=by omega
  rw[Qa ah,Qa (by omega)];refine⟨by omega,by omega,by omega,by omega,fun hx=>?_,fun hx=>⟨by omega,hq ah ?_⟩⟩
  ·symm;rw[beq_eq_false_iff_ne];rintro rfl;exact hx rfl
  ·rw[Qu ah,Qu (by omega),hJ,hx]
 ·rw[List.take_of_length_le (by omega),List.take_of_length_le (by omega)] at hJ;simp[hJ]
end Go.Proofs.Tryz
set_option linter.unusedVariables false
namespace Go.Proofs.Tryz
open Go Go.V Go.Proofs
def BA:AL (Int×List (Int×Int×Bool)):=(.one (.agg (.cons (.k (.i .i64)) (.one (.k (.list (.pair (.i .i64) (.pair (.i .i64) .bo))))))))
def Se (d:Int×List (Int×Int×Bool)):Prop:=Js d.1 d.2=0∧d.2.length≤12∧(∀ c∈d.2,0≤c.1)∧(d.2.map (·.1)).Nodup
def Gu (d:Int×List (Int×Int×Bool)):SV:=.tup [.agg [.val (.i .i64) d.1,.lst 0],.val (.i .i64) (0:Int)]
def GG (d:Int×List (Int×Int×Bool)):List OB:=[.lst 43 (.pair (.i .i64) (.pair (.i .i64) .bo)) (G6 d.2) false]
def NU:CSp:=W8 BA Se Gu GG
abbrev LD:=fun (hk:Int) (cs:List (Int×Int×Bool)) (cE:LpD) (cC:LpD) (dM:List Value) (fj:List Value) (dZ:List Value) (eB:List Value) cZ (bI:List (Int×Int×Bool)) (b7:List Value) (fk:List Value) (cS:Int) (cm:Int)=>(cE=cC∧dM=fj∧dZ=eB∧( cZ≤12∧( ∀ x∈bI ,∀ y∈bI ,( fun ( gT:( Int×Int×Bool )×( Int×Int×Bool ) )=>True ) ( x ,y ) ) )∧b7=fk∧∃ ( iR:Int ) ( jS:( List ( Int×Int×Bool ) )×Int ) ,( ( True∧True∧( lI ( TJ ( fun ( gT:( Int×Int×Bool )×( Int×Int×Bool ) )=>( AY gT.1.1 gT.2.1 ) ) bI 0 cZ ) )=iR∧( 0:Int )=jS.2∧True )∧( ( cS=hk∧True∧( ( [ ]:List SV )=[ ] ) )∧( ( TJ ( fun ( gT:( Int×Int×Bool )×( Int×Int×Bool ) )=>( AY gT.1.1 gT.2.1 ) ) bI 0 cZ )=jS.1∧( List.isEmpty bI )=( List.isEmpty jS.1 ) )∧( cm=( 0:Int )∧True∧( ( [ ]:List SV )=[ ] ) )∧True ) )∧LoopP ( fun ( cM:( List ( Int×Int×Bool ) )×Int ) ( rM:( ( List ( Int×Int×Bool ) )×Int )→Prop )=>( ( decide ( cM.2<iR ) )=true→( 0≤cM.2 )∧( cM.2<( List.length cM.1 ) )∧( I64 ( cM.2+( 1:Int ) ) )∧( ∃ jT:( List ( Int×Int×Bool ) )×Int ,( ( True∧True∧iR=iR∧( cM.2+( 1:Int ) )=jT.2∧True )∧( ( hk=hk∧True∧( ( [ ]:List SV )=[ ] ) )∧( ( sT cM.1 cM.2 ( ( gD cM.1 cM.2 ( 0 ,( 0 ,false ) ) ).1 ,( ( gD cM.1 cM.2 ( 0 ,( 0 ,false ) ) ).2.1 ,false ) ) )=jT.1∧( List.isEmpty cM.1 )=( List.isEmpty jT.1 ) )∧( ( 0:Int )=( 0:Int )∧True∧( ( [ ]:List SV )=[ ] ) )∧True ) )∧rM jT ) )∧( ( decide ( cM.2<iR ) )=false→( ( ( hk=hk∧True∧( ( [ ]:List SV )=[ ] ) )∧( 0:Int )=( 0:Int )∧( ( [ ]:List SV )=[ ] ) )∧( ( cM.1=( G6 cs )∧( List.isEmpty cM.1 )=false )∧True ) ) ) ) jS:Prop)
abbrev Bi:=fun (cE:Int) (cC:List (Int×Int×Bool)) (dM:Int) (fj:Int) (dZ:List (Int×Int×Bool)) (eB:Int) (cZ:Int) (bI:Int) (b7:List (Int×Int×Bool)) (fk:Int) (cS:List (Int×Bool)) (cm:List Value) (dh:Int) (fF:List (Int×Int×Bool)) (iS:Int) (iT:Int) (iU:List (Int×Int×Bool)) (iV:Int) (iW:List (Int×Int×Bool)) (iX:Int) (jU:_→Prop)=>(( 0≤cE )∧( cE<( List.length cC ) )∧( I64 ( cE+( 1:Int ) ) )∧( ∃ rN:( List ( Int×Bool ) )×Int ,( ( True∧True∧True∧True∧cC=cC∧dM=dM∧( cE+( 1:Int ) )=rN.2∧True )∧( ( fj=fj∧dZ=dZ∧( ( [ ]:List SV )=[ ] ) )∧( eB=eB∧True∧cZ=cZ∧( ( [ ]:List SV )=[ ] ) )∧( bI=bI∧b7=b7∧fk=fk∧( ( [ ]:List SV )=[ ] ) )∧( ( CM ( .i .i64 ) cS ( gD cC cE ( 0 ,( 0 ,false ) ) ).1 true )=rN.1 )∧( cm=cm∧( ( dh=dh∧fF=fF∧( ( [ ]:List SV )=[ ] ) )∧True∧True∧iS=iS∧True∧True∧True∧True∧( iT=iT∧iU=iU∧( ( [ ]:List SV )=[ ] ) )∧True∧True∧True∧True∧True∧True∧True∧True∧True∧True∧True∧True∧True∧True∧True∧True∧True∧True∧True∧True∧True∧True∧True∧True∧True∧( ( [ ]:List SV )=[ ] ) ) )∧( iV=iV∧iW=iW∧( ( [ ]:List SV )=[ ] ) )∧( iX=iX∧True∧( ( [ ]:List SV )=[ ] ) )∧True ) )∧jU rN ):Prop)
abbrev Ic:=fun (hk:Int) (cs:List (Int×Int×Bool)) (cE:LpD) (cC:LpD) (dM:List Value) (fj:List Value) (dZ:List Value) (eB:List Value) (cZ:List (Int×Int×Bool)) (bI:List (Int×Int×Bool)) (b7:Int) (fk:List Value) (cS:List Value) (cm:Int) (dh:Int)=>(cE=cC∧dM=fj∧dZ=eB∧( ( cZ++[ ( ( gD bI b7 ( 0 ,( 0 ,false ) ) ).1 ,( ( gD bI b7 ( 0 ,( 0 ,false ) ) ).2.1 ,( gD bI b7 ( 0 ,( 0 ,false ) ) ).2.2 ) ) ] ).length≤12∧( ∀ x∈( cZ++[ ( ( gD bI b7 ( 0 ,( 0 ,false ) ) ).1 ,( ( gD bI b7 ( 0 ,( 0 ,false ) ) ).2.1 ,( gD bI b7 ( 0 ,( 0 ,false ) ) ).2.2 ) ) ] ) ,∀ y∈( cZ++[ ( ( gD bI b7 ( 0 ,( 0 ,false ) ) ).1 ,( ( gD bI b7 ( 0 ,( 0 ,false ) ) ).2.1 ,( gD bI b7 ( 0 ,( 0 ,false ) ) ).2.2 ) ) ] ) ,( fun ( gT:( Int×Int×Bool )×( Int×Int×Bool ) )=>True ) ( x ,y ) ) )∧fk=cS∧∃ ( iR:Int ) ( jS:( List ( Int×Int×Bool ) )×Int ) ,( ( True∧True∧( lI ( TJ ( fun ( gT:( Int×Int×Bool )×( Int×Int×Bool ) )=>( AY gT.1.1 gT.2.1 ) ) ( cZ++[ ( ( gD bI b7 ( 0 ,( 0 ,false ) ) ).1 ,( ( gD bI b7 ( 0 ,( 0 ,false ) ) ).2.1 ,( gD bI b7 ( 0 ,( 0 ,false ) ) ).2.2 ) ) ] ) 0 ( cZ++[ ( ( gD bI b7 ( 0 ,( 0 ,false ) ) ).1 ,( ( gD bI b7 ( 0 ,( 0 ,false ) ) ).2.1 ,( gD bI b7 ( 0 ,( 0 ,false ) ) ).2.2 ) ) ] ).length ) )=iR∧( 0:Int )=jS.2∧True )∧( ( cm=hk∧True∧( ( [ ]:List SV )=[ ] ) )∧( ( TJ ( fun ( gT:( Int×Int×Bool )×( Int×Int×Bool ) )=>( AY gT.1.1 gT.2.1 ) ) ( cZ++[ ( ( gD bI b7 ( 0 ,( 0 ,false ) ) ).1 ,( ( gD bI b7 ( 0 ,( 0 ,false ) ) ).2.1 ,( gD bI b7 ( 0 ,( 0 ,false ) ) ).2.2 ) ) ] ) 0 ( cZ++[ ( ( gD bI b7 ( 0 ,( 0 ,false ) ) ).1 ,( ( gD bI b7 ( 0 ,( 0 ,false ) ) ).2.1 ,( gD bI b7 ( 0 ,( 0 ,false ) ) ).2.2 ) ) ] ).length )=jS.1∧false=( List.isEmpty jS.1 ) )∧( dh=( 0:Int )∧True∧( ( [ ]:List SV )=[ ] ) )∧True ) )∧LoopP ( fun ( cM:( List ( Int×Int×Bool ) )×Int ) ( rM:( ( List ( Int×Int×Bool ) )×Int )→Prop )=>( ( decide ( cM.2<iR ) )=true→( 0≤cM.2 )∧( cM.2<( List.length cM.1 ) )∧( I64 ( cM.2+( 1:Int ) ) )∧( ∃ jT:( List ( Int×Int×Bool ) )×Int ,( ( True∧True∧iR=iR∧( cM.2+( 1:Int ) )=jT.2∧True )∧( ( hk=hk∧True∧( ( [ ]:List SV )=[ ] ) )∧( ( sT cM.1 cM.2 ( ( gD cM.1 cM.2 ( 0 ,( 0 ,false ) ) ).1 ,( ( gD cM.1 cM.2 ( 0 ,( 0 ,false ) ) ).2.1 ,false ) ) )=jT.1∧( List.isEmpty cM.1 )=( List.isEmpty jT.1 ) )∧( ( 0:Int )=( 0:Int )∧True∧( ( [ ]:List SV )=[ ] ) )∧True ) )∧rM jT ) )∧( ( decide ( cM.2<iR ) )=false→( ( ( hk=hk∧True∧( ( [ ]:List SV )=[ ] ) )∧( 0:Int )=( 0:Int )∧( ( [ ]:List SV )=[ ] ) )∧( ( cM.1=( G6 cs )∧( List.isEmpty cM.1 )=false )∧True ) ) ) ) jS:Prop)
abbrev CI:=fun (hk:Int) (cs:List (Int×Int×Bool)) (cE:Int) (cC:List (Int×Int×Bool)) (dM:LpD) (fj:LpD) (dZ:List (Int×Int×Bool)) (eB:List Value) (cZ:List Value) (bI:List Value) (b7:List Value) (fk:List Value) (cS:List Value) (cm:Int) (dh:Int) (fF:Int) (iS:Int) (iT:List (Int×Int×Bool)) (iU:Int) (iV:Int) (iW:Int) (iX:List (Int×Int×Bool)) (jU:Int) (oI:Int) (oJ:Int) (oK:List (Int×Int×Bool)) (oL:Int) (oM:List (Int×Int×Bool)) (oN:Int) (oO:Int) (oP:Int) (oQ:List (Int×Int×Bool)) (oR:Int) (oS:Int) (oT:Int) (oU:Bool) (oV:List (Int×Int×Bool)) (oW:List (Int×Int×Bool)) (oX:Int) (oY:List (Int×Int×Bool)) (oZ:Int) (o3:List (Int×Int×Bool)) (rO:_→Prop)=>(( 0≤cE )∧( cE<( List.length cC ) )∧dM=fj∧∀ kQ:List Value ,( ( ( List.length dZ )+( List.length [ ( ( gD cC cE ( 0 ,( 0 ,false ) ) ).1 ,( ( gD cC cE ( 0 ,( 0 ,false ) ) ).2.1 ,( gD cC cE ( 0 ,( 0 ,false ) ) ).2.2 ) ) ] ) )*24≤70368744177664 )∧kQ=kQ∧dM=fj∧( ( ! true )=true→( Ic hk cs dM fj eB cZ bI b7 dZ cC cE fk cS cm dh ) )∧( ( ! true )=false→( I64 ( cE+( 1:Int ) ) )∧( ∃ pP:Int×( List ( Int×Int×Bool ) ) ,( ( True∧cC=cC∧fF=fF∧( cE+( 1:Int ) )=pP.1∧True )∧( ( fk=fk∧( ( iS=iS∧iT=iT∧( ( [ ]:List SV )=[ ] ) )∧True∧True∧iU=iU∧True∧iV=iV∧True∧( ( iW=iW∧iX=iX∧jU=jU∧( ( [ ]:List SV )=[ ] ) )∧oI=oI∧( ( [ ]:List SV )=[ ] ) )∧( oJ=oJ∧oK=oK∧( ( [ ]:List SV )=[ ] ) )∧( ( oL=oL∧oM=oM∧oN=oN∧( ( [ ]:List SV )=[ ] ) )∧oO=oO∧( ( [ ]:List SV )=[ ] ) )∧( oP=oP∧oQ=oQ∧oR=oR∧( ( [ ]:List SV )=[ ] ) )∧oS=oS∧oT=oT∧oU=oU∧True∧True∧True∧oV=oV∧( ( ( ( [ ]:List SV )=[ ] ) )∧( True∧( ( [ ]:List SV )=[ ] ) ) )∧True∧True∧True∧True∧True∧True∧True∧True∧True∧True∧True∧True∧True∧True∧True∧( ( [ ]:List SV )=[ ] ) ) )∧( cm=cm∧oW=oW∧( ( [ ]:List SV )=[ ] ) )∧( dh=dh∧True∧( ( [ ]:List SV )=[ ] ) )∧( oX=oX∧oY=oY∧oZ=oZ∧( ( [ ]:List SV )=[ ] ) )∧( o3=o3∧( ( [ ]:List SV )=[ ] ) )∧( bI=bI∧( ( ( ( ( [ ]:List SV )=[ ] ) )∧( True∧( ( [ ]:List SV )=[ ] ) ) )∧( ( ( ( [ ]:List SV )=[ ] ) )∧( ( ( [ ]:List SV )=[ ] ) ) )∧True∧True∧True∧True∧( ( ( ( [ ]:List SV )=[ ] ) )∧( True∧( ( [ ]:List SV )=[ ] ) ) )∧True∧True∧True∧True∧True∧( ( [ ]:List SV )=[ ] ) ) )∧( eB=eB∧( ( ( ( ( [ ]:List SV )=[ ] ) )∧( True∧( ( [ ]:List SV )=[ ] ) ) )∧True∧True∧( ( ( ( [ ]:List SV )=[ ] ) )∧( True∧( ( [ ]:List SV )=[ ] ) ) )∧True∧( ( [ ]:List SV )=[ ] ) ) )∧( dM=dM∧( True∧( ( ( ( [ ]:List SV )=[ ] ) )∧( True∧( ( [ ]:List SV )=[ ] ) ) )∧True∧True∧True∧True∧( ( ( ( [ ]:List SV )=[ ] ) )∧( True∧( ( [ ]:List SV )=[ ] ) ) )∧True∧True∧True∧True∧True∧True∧( ( [ ]:List SV )=[ ] ) ) )∧( True∧( ( [ ]:List SV )=[ ] ) )∧( ( dZ++[ ( ( gD cC cE ( 0 ,( 0 ,false ) ) ).1 ,( ( gD cC cE ( 0 ,( 0 ,false ) ) ).2.1 ,( gD cC cE ( 0 ,( 0 ,false ) ) ).2.2 ) ) ] )=pP.2∧false=( List.isEmpty pP.2 ) )∧True ) )∧rO pP ) ):Prop)
abbrev MX:=fun (hk:Int) (cs:List (Int×Int×Bool)) w1 (cE:List Value) (cC:Int) (dM:List (Int×Int×Bool)) (fj:Int) (dZ:List (Int×Int×Bool)) (eB:Int) (cZ:Int) (bI:List (Int×Int×Bool)) (b7:Int) (fk:Int) (cS:List (Int×Int×Bool)) (cm:Int) (dh:Int)=>(cE=w1∧( ( ( cC:Int ) != ( 0:Int ) )=true→( ( ( ( 0:Int )=hk∧True∧( ( [ ]:List SV )=[ ] ) )∧( cC:Int )=( 0:Int )∧( ( [ ]:List SV )=[ ] ) )∧( ( ( G6 cs )=[ ]∧false=true )∧True ) ) )∧( ( ( cC:Int ) != ( 0:Int ) )=false→∀ kQ:List Value ,kQ=kQ∧∀ l7:List Value ,∀ l8:List Value ,∀ l9:List Value ,∀ l_:LpD ,∃ ( ax:( List ( Int×Int×Bool ) )×Int×Int×( List ( Int×Int×Bool ) )×Int×( List ( Int×Int×Bool ) )×Int×Int×Int×( List ( Int×Int×Bool ) )×Int×Int×Int×( List ( Int×Int×Bool ) )×Int×Int×Int×( List ( Int×Int×Bool ) )×Int×( List ( Int×Int×Bool ) )×Int×Int×Int×( List ( Int×Int×Bool ) )×Int×Int×Int×Bool×( List ( Int×Int×Bool ) )×( List ( Int×Int×Bool ) )×( List Value )×( List Value )×( List Value )×LpD ) ( jV:Int×( List ( Int×Int×Bool ) ) ) ,( ( True∧dM=ax.1∧( lI dM )=ax.2.1∧( 0:Int )=jV.1∧True )∧( ( ax.2.2.2.2.2.2.2.2.2.2.2.2.2.2.2.2.2.2.2.2.2.2.2.2.2.2.2.2.2.2.1=l7∧( ( fj=ax.2.2.1∧dZ=ax.2.2.2.1∧( ( [ ]:List SV )=[ ] ) )∧True∧True∧eB=ax.2.2.2.2.2.2.2.1∧True∧( cC:Int )=ax.2.2.2.2.2.2.2.2.2.2.2.1∧True∧( ( cZ=ax.2.2.2.2.2.2.2.2.2.2.2.2.1∧bI=ax.2.2.2.2.2.2.2.2.2.2.2.2.2.1∧b7=ax.2.2.2.2.2.2.2.2.2.2.2.2.2.2.1∧( ( [ ]:List SV )=[ ] ) )∧( cC:Int )=ax.2.2.2.2.2.2.2.2.2.2.2.2.2.2.2.1∧( ( [ ]:List SV )=[ ] ) )∧( fk=ax.2.2.2.2.2.2.2.2.2.2.2.2.2.2.2.2.1∧cS=ax.2.2.2.2.2.2.2.2.2.2.2.2.2.2.2.2.2.1∧( ( [ ]:List SV )=[ ] ) )∧( ( cZ=ax.2.2.2.2.2.2.2.2.2.2.2.2.2.2.2.2.2.2.1∧bI=ax.2.2.2.2.2.2.2.2.2.2.2.2.2.2.2.2.2.2.2.1∧b7=ax.2.2.2.2.2.2.2.2.2.2.2.2.2.2.2.2.2.2.2.2.1∧( ( [ ]:List SV )=[ ] ) )∧( cC:Int )=ax.2.2.2.2.2.2.2.2.2.2.2.2.2.2.2.2.2.2.2.2.2.1∧( ( [ ]:List SV )=[ ] ) )∧( cZ=ax.2.2.2.2.2.2.2.2.2.2.2.2.2.2.2.2.2.2.2.2.2.2.1∧bI=ax.2.2.2.2.2.2.2.2.2.2.2.2.2.2.2.2.2.2.2.2.2.2.2.1∧b7=ax.2.2.2.2.2.2.2.2.2.2.2.2.2.2.2.2.2.2.2.2.2.2.2.2.1∧( ( [ ]:List SV )=[ ] ) )∧( cC:Int )=ax.2.2.2.2.2.2.2.2.2.2.2.2.2.2.2.2.2.2.2.2.2.2.2.2.2.1∧( cC:Int )=ax.2.2.2.2.2.2.2.2.2.2.2.2.2.2.2.2.2.2.2.2.2.2.2.2.2.2.1∧( ( cC:Int ) != ( 0:Int ) )=ax.2.2.2.2.2.2.2.2.2.2.2.2.2.2.2.2.2.2.2.2.2.2.2.2.2.2.2.1∧True∧True∧True∧dM=ax.2.2.2.2.2.2.2.2.2.2.2.2.2.2.2.2.2.2.2.2.2.2.2.2.2.2.2.2.1∧( ( ( ( [ ]:List SV )=[ ] ) )∧( True∧( ( [ ]:List SV )=[ ] ) ) )∧True∧True∧True∧True∧True∧True∧True∧True∧True∧True∧True∧True∧True∧True∧True∧( ( [ ]:List SV )=[ ] ) ) )∧( cm=ax.2.2.2.2.1∧dM=ax.2.2.2.2.2.1∧( ( [ ]:List SV )=[ ] ) )∧( dh=ax.2.2.2.2.2.2.1∧True∧( ( [ ]:List SV )=[ ] ) )∧( cZ=ax.2.2.2.2.2.2.2.2.1∧bI=ax.2.2.2.2.2.2.2.2.2.1∧b7=ax.2.2.2.2.2.2.2.2.2.2.1∧( ( [ ]:List SV )=[ ] ) )∧( dM=ax.2.2.2.2.2.2.2.2.2.2.2.2.2.2.2.2.2.2.2.2.2.2.2.2.2.2.2.2.2.1∧( ( [ ]:List SV )=[ ] ) )∧( ax.2.2.2.2.2.2.2.2.2.2.2.2.2.2.2.2.2.2.2.2.2.2.2.2.2.2.2.2.2.2.2.1=l8∧( ( ( ( ( [ ]:List SV )=[ ] ) )∧( True∧( ( [ ]:List SV )=[ ] ) ) )∧( ( ( ( [ ]:List SV )=[ ] ) )∧( ( ( [ ]:List SV )=[ ] ) ) )∧True∧True∧True∧True∧( ( ( ( [ ]:List SV )=[ ] ) )∧( True∧( ( [ ]:List SV )=[ ] ) ) )∧True∧True∧True∧True∧True∧( ( [ ]:List SV )=[ ] ) ) )∧( ax.2.2.2.2.2.2.2.2.2.2.2.2.2.2.2.2.2.2.2.2.2.2.2.2.2.2.2.2.2.2.2.2.1=l9∧( ( ( ( ( [ ]:List SV )=[ ] ) )∧( True∧( ( [ ]:List SV )=[ ] ) ) )∧True∧True∧( ( ( ( [ ]:List SV )=[ ] ) )∧( True∧( ( [ ]:List SV )=[ ] ) ) )∧True∧( ( [ ]:List SV )=[ ] ) ) )∧( ax.2.2.2.2.2.2.2.2.2.2.2.2.2.2.2.2.2.2.2.2.2.2.2.2.2.2.2.2.2.2.2.2.2=l_∧( True∧( ( ( ( [ ]:List SV )=[ ] ) )∧( True∧( ( [ ]:List SV )=[ ] ) ) )∧True∧True∧True∧True∧( ( ( ( [ ]:List SV )=[ ] ) )∧( True∧( ( [ ]:List SV )=[ ] ) ) )∧True∧True∧True∧True∧True∧True∧( ( [ ]:List SV )=[ ] ) ) )∧( True∧( ( [ ]:List SV )=[ ] ) )∧( jV.2=[ ]∧( List.isEmpty jV.2 )=true )∧True ) )∧LoopP ( fun ( gU:Int×( List ( Int×Int×Bool ) ) ) ( rP:( Int×( List ( Int×Int×Bool ) ) )→Prop )=>( ( decide ( gU.1<ax.2.1 ) )=true→( CI hk cs gU.1 ax.1 ax.2.2.2.2.2.2.2.2.2.2.2.2.2.2.2.2.2.2.2.2.2.2.2.2.2.2.2.2.2.2.2.2.2 l_ gU.2 ax.2.2.2.2.2.2.2.2.2.2.2.2.2.2.2.2.2.2.2.2.2.2.2.2.2.2.2.2.2.2.2.2.1 l9 ax.2.2.2.2.2.2.2.2.2.2.2.2.2.2.2.2.2.2.2.2.2.2.2.2.2.2.2.2.2.2.2.1 l8 ax.2.2.2.2.2.2.2.2.2.2.2.2.2.2.2.2.2.2.2.2.2.2.2.2.2.2.2.2.2.2.1 l7 ax.2.2.2.2.1 ax.2.2.2.2.2.2.1 ax.2.1 ax.2.2.1 ax.2.2.2.1 ax.2.2.2.2.2.2.2.1 ax.2.2.2.2.2.2.2.2.2.2.2.1 ax.2.2.2.2.2.2.2.2.2.2.2.2.1 ax.2.2.2.2.2.2.2.2.2.2.2.2.2.1 ax.2.2.2.2.2.2.2.2.2.2.2.2.2.2.1 ax.2.2.2.2.2.2.2.2.2.2.2.2.2.2.2.1 ax.2.2.2.2.2.2.2.2.2.2.2.2.2.2.2.2.1 ax.2.2.2.2.2.2.2.2.2.2.2.2.2.2.2.2.2.1 ax.2.2.2.2.2.2.2.2.2.2.2.2.2.2.2.2.2.2.1 ax.2.2.2.2.2.2.2.2.2.2.2.2.2.2.2.2.2.2.2.1 ax.2.2.2.2.2.2.2.2.2.2.2.2.2.2.2.2.2.2.2.2.1 ax.2.2.2.2.2.2.2.2.2.2.2.2.2.2.2.2.2.2.2.2.2.1 ax.2.2.2.2.2.2.2.2.2.2.2.2.2.2.2.2.2.2.2.2.2.2.1 ax.2.2.2.2.2.2.2.2.2.2.2.2.2.2.2.2.2.2.2.2.2.2.2.1 ax.2.2.2.2.2.2.2.2.2.2.2.2.2.2.2.2.2.2.2.2.2.2.2.2.1 ax.2.2.2.2.2.2.2.2.2.2.2.2.2.2.2.2.2.2.2.2.2.2.2.2.2.1 ax.2.2.2.2.2.2.2.2.2.2.2.2.2.2.2.2.2.2.2.2.2.2.2.2.2.2.1 ax.2.2.2.2.2.2.2.2.2.2.2.2.2.2.2.2.2.2.2.2.2.2.2.2.2.2.2.1 ax.2.2.2.2.2.2.2.2.2.2.2.2.2.2.2.2.2.2.2.2.2.2.2.2.2.2.2.2.1 ax.2.2.2.2.2.1 ax.2.2.2.2.2.2.2.2.1 ax.2.2.2.2.2.2.2.2.2.1 ax.2.2.2.2.2.2.2.2.2.2.1 ax.2.2.2.2.2.2.2.2.2.2.2.2.2.2.2.2.2.2.2.2.2.2.2.2.2.2.2.2.2.1 rP ) )∧( ( decide ( gU.1<ax.2.1 ) )=false→( LD hk cs ax.2.2.2.2.2.2.2.2.2.2.2.2.2.2.2.2.2.2.2.2.2.2.2.2.2.2.2.2.2.2.2.2.2 l_ ax.2.2.2.2.2.2.2.2.2.2.2.2.2.2.2.2.2.2.2.2.2.2.2.2.2.2.2.2.2.2.2.2.1 l9 ax.2.2.2.2.2.2.2.2.2.2.2.2.2.2.2.2.2.2.2.2.2.2.2.2.2.2.2.2.2.2.2.1 l8 gU.2.length gU.2 ax.2.2.2.2.2.2.2.2.2.2.2.2.2.2.2.2.2.2.2.2.2.2.2.2.2.2.2.2.2.2.1 l7 ax.2.2.2.2.1 ax.2.2.2.2.2.2.1 ) ) ) jV ):Prop)
abbrev LZ:=fun (hk:Int) (cs:List (Int×Int×Bool)) (cE:List (Int×Int×Bool)) (cC:Int) (dM:List (Int×Int×Bool)) (fj:Int) (dZ:Int) (eB:Int) (cZ:List (Int×Int×Bool)) (bI:Int) (b7:Int) (fk:List (Int×Int×Bool)) (cS:Int) (cm:Int)=>(∀ kQ:List Value ,kQ=kQ∧∀ l7:List Value ,∀ l8:List Value ,∀ l9:List Value ,∀ l_:LpD ,∃ ( ax:( List ( Int×Int×Bool ) )×Int×Int×( List ( Int×Int×Bool ) )×Int×( List ( Int×Int×Bool ) )×Int×Int×Int×( List ( Int×Int×Bool ) )×Int×Int×Int×( List ( Int×Int×Bool ) )×Int×Int×Int×( List ( Int×Int×Bool ) )×Int×( List ( Int×Int×Bool ) )×Int×Int×Int×( List ( Int×Int×Bool ) )×Int×Int×Int×Bool×( List ( Int×Int×Bool ) )×( List ( Int×Int×Bool ) )×( List Value )×( List Value )×( List Value )×LpD ) ( jV:Int×( List ( Int×Int×Bool ) ) ) ,( ( True∧cE=ax.1∧( lI cE )=ax.2.1∧( 0:Int )=jV.1∧True )∧( ( ax.2.2.2.2.2.2.2.2.2.2.2.2.2.2.2.2.2.2.2.2.2.2.2.2.2.2.2.2.2.2.1=l7∧( ( cC=ax.2.2.1∧dM=ax.2.2.2.1∧( ( [ ]:List SV )=[ ] ) )∧True∧True∧fj=ax.2.2.2.2.2.2.2.1∧True∧( dZ:Int )=ax.2.2.2.2.2.2.2.2.2.2.2.1∧True∧( ( eB=ax.2.2.2.2.2.2.2.2.2.2.2.2.1∧cZ=ax.2.2.2.2.2.2.2.2.2.2.2.2.2.1∧bI=ax.2.2.2.2.2.2.2.2.2.2.2.2.2.2.1∧( ( [ ]:List SV )=[ ] ) )∧( dZ:Int )=ax.2.2.2.2.2.2.2.2.2.2.2.2.2.2.2.1∧( ( [ ]:List SV )=[ ] ) )∧( b7=ax.2.2.2.2.2.2.2.2.2.2.2.2.2.2.2.2.1∧fk=ax.2.2.2.2.2.2.2.2.2.2.2.2.2.2.2.2.2.1∧( ( [ ]:List SV )=[ ] ) )∧( ( eB=ax.2.2.2.2.2.2.2.2.2.2.2.2.2.2.2.2.2.2.1∧cZ=ax.2.2.2.2.2.2.2.2.2.2.2.2.2.2.2.2.2.2.2.1∧bI=ax.2.2.2.2.2.2.2.2.2.2.2.2.2.2.2.2.2.2.2.2.1∧( ( [ ]:List SV )=[ ] ) )∧( dZ:Int )=ax.2.2.2.2.2.2.2.2.2.2.2.2.2.2.2.2.2.2.2.2.2.1∧( ( [ ]:List SV )=[ ] ) )∧( eB=ax.2.2.2.2.2.2.2.2.2.2.2.2.2.2.2.2.2.2.2.2.2.2.1∧cZ=ax.2.2.2.2.2.2.2.2.2.2.2.2.2.2.2.2.2.2.2.2.2.2.2.1∧bI=ax.2.2.2.2.2.2.2.2.2.2.2.2.2.2.2.2.2.2.2.2.2.2.2.2.1∧( ( [ ]:List SV )=[ ] ) )∧( dZ:Int )=ax.2.2.2.2.2.2.2.2.2.2.2.2.2.2.2.2.2.2.2.2.2.2.2.2.2.1∧( dZ:Int )=ax.2.2.2.2.2.2.2.2.2.2.2.2.2.2.2.2.2.2.2.2.2.2.2.2.2.2.1∧( ( dZ:Int ) != ( 0:Int ) )=ax.2.2.2.2.2.2.2.2.2.2.2.2.2.2.2.2.2.2.2.2.2.2.2.2.2.2.2.1∧True∧True∧True∧cE=ax.2.2.2.2.2.2.2.2.2.2.2.2.2.2.2.2.2.2.2.2.2.2.2.2.2.2.2.2.1∧( ( ( ( [ ]:List SV )=[ ] ) )∧( True∧( ( [ ]:List SV )=[ ] ) ) )∧True∧True∧True∧True∧True∧True∧True∧True∧True∧True∧True∧True∧True∧True∧True∧( ( [ ]:List SV )=[ ] ) ) )∧( cS=ax.2.2.2.2.1∧cE=ax.2.2.2.2.2.1∧( ( [ ]:List SV )=[ ] ) )∧( cm=ax.2.2.2.2.2.2.1∧True∧( ( [ ]:List SV )=[ ] ) )∧( eB=ax.2.2.2.2.2.2.2.2.1∧cZ=ax.2.2.2.2.2.2.2.2.2.1∧bI=ax.2.2.2.2.2.2.2.2.2.2.1∧( ( [ ]:List SV )=[ ] ) )∧( cE=ax.2.2.2.2.2.2.2.2.2.2.2.2.2.2.2.2.2.2.2.2.2.2.2.2.2.2.2.2.2.1∧( ( [ ]:List SV )=[ ] ) )∧( ax.2.2.2.2.2.2.2.2.2.2.2.2.2.2.2.2.2.2.2.2.2.2.2.2.2.2.2.2.2.2.2.1=l8∧( ( ( ( ( [ ]:List SV )=[ ] ) )∧( True∧( ( [ ]:List SV )=[ ] ) ) )∧( ( ( ( [ ]:List SV )=[ ] ) )∧( ( ( [ ]:List SV )=[ ] ) ) )∧True∧True∧True∧True∧( ( ( ( [ ]:List SV )=[ ] ) )∧( True∧( ( [ ]:List SV )=[ ] ) ) )∧True∧True∧True∧True∧True∧( ( [ ]:List SV )=[ ] ) ) )∧( ax.2.2.2.2.2.2.2.2.2.2.2.2.2.2.2.2.2.2.2.2.2.2.2.2.2.2.2.2.2.2.2.2.1=l9∧( ( ( ( ( [ ]:List SV )=[ ] ) )∧( True∧( ( [ ]:List SV )=[ ] ) ) )∧True∧True∧( ( ( ( [ ]:List SV )=[ ] ) )∧( True∧( ( [ ]:List SV )=[ ] ) ) )∧True∧( ( [ ]:List SV )=[ ] ) ) )∧( ax.2.2.2.2.2.2.2.2.2.2.2.2.2.2.2.2.2.2.2.2.2.2.2.2.2.2.2.2.2.2.2.2.2=l_∧( True∧( ( ( ( [ ]:List SV )=[ ] ) )∧( True∧( ( [ ]:List SV )=[ ] ) ) )∧True∧True∧True∧True∧( ( ( ( [ ]:List SV )=[ ] ) )∧( True∧( ( [ ]:List SV )=[ ] ) ) )∧True∧True∧True∧True∧True∧True∧( ( [ ]:List SV )=[ ] ) ) )∧( True∧( ( [ ]:List SV )=[ ] ) )∧( jV.2=[ ]∧( List.isEmpty jV.2 )=true )∧True ) )∧LoopP ( fun ( gU:Int×( List ( Int×Int×Bool ) ) ) ( rP:( Int×( List ( Int×Int×Bool ) ) )→Prop )=>( ( decide ( gU.1<ax.2.1 ) )=true→( CI hk cs gU.1 ax.1 ax.2.2.2.2.2.2.2.2.2.2.2.2.2.2.2.2.2.2.2.2.2.2.2.2.2.2.2.2.2.2.2.2.2 l_ gU.2 ax.2.2.2.2.2.2.2.2.2.2.2.2.2.2.2.2.2.2.2.2.2.2.2.2.2.2.2.2.2.2.2.2.1 l9 ax.2.2.2.2.2.2.2.2.2.2.2.2.2.2.2.2.2.2.2.2.2.2.2.2.2.2.2.2.2.2.2.1 l8 ax.2.2.2.2.2.2.2.2.2.2.2.2.2.2.2.2.2.2.2.2.2.2.2.2.2.2.2.2.2.2.1 l7 ax.2.2.2.2.1 ax.2.2.2.2.2.2.1 ax.2.1 ax.2.2.1 ax.2.2.2.1 ax.2.2.2.2.2.2.2.1 ax.2.2.2.2.2.2.2.2.2.2.2.1 ax.2.2.2.2.2.2.2.2.2.2.2.2.1 ax.2.2.2.2.2.2.2.2.2.2.2.2.2.1 ax.2.2.2.2.2.2.2.2.2.2.2.2.2.2.1 ax.2.2.2.2.2.2.2.2.2.2.2.2.2.2.2.1 ax.2.2.2.2.2.2.2.2.2.2.2.2.2.2.2.2.1 ax.2.2.2.2.2.2.2.2.2.2.2.2.2.2.2.2.2.1 ax.2.2.2.2.2.2.2.2.2.2.2.2.2.2.2.2.2.2.1 ax.2.2.2.2.2.2.2.2.2.2.2.2.2.2.2.2.2.2.2.1 ax.2.2.2.2.2.2.2.2.2.2.2.2.2.2.2.2.2.2.2.2.1 ax.2.2.2.2.2.2.2.2.2.2.2.2.2.2.2.2.2.2.2.2.2.1 ax.2.2.2.2.2.2.2.2.2.2.2.2.2.2.2.2.2.2.2.2.2.2.1 ax.2.2.2.2.2.2.2.2.2.2.2.2.2.2.2.2.2.2.2.2.2.2.2.1 ax.2.2.2.2.2.2.2.2.2.2.2.2.2.2.2.2.2.2.2.2.2.2.2.2.1 ax.2.2.2.2.2.2.2.2.2.2.2.2.2.2.2.2.2.2.2.2.2.2.2.2.2.1 ax.2.2.2.2.2.2.2.2.2.2.2.2.2.2.2.2.2.2.2.2.2.2.2.2.2.2.1 ax.2.2.2.2.2.2.2.2.2.2.2.2.2.2.2.2.2.2.2.2.2.2.2.2.2.2.2.1 ax.2.2.2.2.2.2.2.2.2.2.2.2.2.2.2.2.2.2.2.2.2.2.2.2.2.2.2.2.1 ax.2.2.2.2.2.1 ax.2.2.2.2.2.2.2.2.1 ax.2.2.2.2.2.2.2.2.2.1 ax.2.2.2.2.2.2.2.2.2.2.1 ax.2.2.2.2.2.2.2.2.2.2.2.2.2.2.2.2.2.2.2.2.2.2.2.2.2.2.2.2.2.1 rP ) )∧( ( decide ( gU.1<ax.2.1 ) )=false→( LD hk cs ax.2.2.2.2.2.2.2.2.2.2.2.2.2.2.2.2.2.2.2.2.2.2.2.2.2.2.2.2.2.2.2.2.2 l_ ax.2.2.2.2.2.2.2.2.2.2.2.2.2.2.2.2.2.2.2.2.2.2.2.2.2.2.2.2.2.2.2.2.1 l9 ax.2.2.2.2.2.2.2.2.2.2.2.2.2.2.2.2.2.2.2.2.2.2.2.2.2.2.2.2.2.2.2.1 l8 gU.2.length gU.2 ax.2.2.2.2.2.2.2.2.2.2.2.2.2.2.2.2.2.2.2.2.2.2.2.2.2.2.2.2.2.2.1 l7 ax.2.2.2.2.1 ax.2.2.2.2.2.2.1 ) ) ) jV:Prop)
abbrev BK:=fun (hk:Int) (cs:List (Int×Int×Bool)) w1 (cE:List (Int×Bool)) (cC:List Value) (dM:List (Int×Int×Bool)) (fj:Int) (dZ:List (Int×Int×Bool)) (eB:Int) (cZ:Int) (bI:List (Int×Int×Bool)) (b7:Int) (fk:Int) (cS:List (Int×Int×Bool)) (cm:Int) (dh:Int) (fF:List (Int×Int×Bool))=>(( ( gq.aget ( .i .i64 ) cE (-1:Int ) false )=true→( MX hk cs w1 cC 9 dM fj dZ eB cZ bI b7 fk cS cm dh ) )∧( ( gq.aget ( .i .i64 ) cE (-1:Int ) false )=false→( ( decide ( ( lI cE )<( lI fF ) ) )=true→cC=w1∧( ( ( 6:Int ) != ( 0:Int ) )=true→( ( ( ( 0:Int )=hk∧True∧( ( [ ]:List SV )=[ ] ) )∧( 6:Int )=( 0:Int )∧( ( [ ]:List SV )=[ ] ) )∧( ( ( G6 cs )=[ ]∧false=true )∧True ) ) )∧( ( ( 6:Int ) != ( 0:Int ) )=false→( LZ hk cs dM fj dZ eB 6 cZ bI b7 fk cS cm dh ) ) )∧( ( decide ( ( lI cE )<( lI fF ) ) )=false→cC=w1∧( ( ( 0:Int ) != ( 0:Int ) )=true→( ( ( ( 0:Int )=hk∧True∧( ( [ ]:List SV )=[ ] ) )∧( 0:Int )=( 0:Int )∧( ( [ ]:List SV )=[ ] ) )∧( ( ( G6 cs )=[ ]∧false=true )∧True ) ) )∧( ( ( 0:Int ) != ( 0:Int ) )=false→( LZ hk cs dM fj dZ eB 0 cZ bI b7 fk cS cm dh ) ) ) ):Prop)
def YY (hk : Int) (cs : List (Int × Int × Bool)) : Prop :=
  ∀ w1 : List Value, ∀ w2 : List Value, (True) ∧ ((!(inI hk 1 24)) = true →
    w2 = w2 ∧ (((3 : Int) != (0 : Int)) = true →
       (MX hk cs w1 w1 3 cs hk cs ( 0 : Int ) hk cs hk hk cs hk ( 0 : Int ))) ∧
    (((3 : Int) != (0 : Int)) = false →
      ∃ (bn : Int × (List (Int × Int × Bool)) × Int × Int × Int × (List (Int × Int × Bool)) × Int × (List (Int × Int × Bool)) × Int × Int × (List (Int × Int × Bool)) × Int × (List (Int × Int × Bool)) × Int × Int × Int × (List (Int × Int × Bool)) × (List Value)) (e9 : (List (Int × Bool)) × Int), ((True ∧ True ∧ True ∧ True ∧ cs = (q4 bn).2.2.2.1 ∧ (lI cs) = (q4 (q4 bn)).1 ∧ (0 : Int) = e9.2 ∧ True) ∧ ((hk = bn.1 ∧ cs = bn.2.1 ∧ (([] : List SV) = [])) ∧ ((0 : Int) = bn.2.2.1 ∧ True ∧ (0 : Int) = bn.2.2.2.1 ∧ (([] : List SV) = [])) ∧ (hk = (q4 bn).1 ∧ cs = (q4 bn).2.1 ∧ hk = (q4 bn).2.2.1 ∧ (([] : List SV) = [])) ∧ (([] : List (Int × Bool)) = e9.1) ∧ ((q4 (q4 (q4 (q4 bn)))).2 = w1 ∧ ((hk = (q4 (q4 bn)).2.1 ∧ cs = (q4 (q4 bn)).2.2.1 ∧ (([] : List SV) = [])) ∧ True ∧ True ∧ (0 : Int) = (q4 (q4 (q4 bn))).2.2.1 ∧ True ∧ True ∧ True ∧ True ∧ (hk = (q4 (q4 (q4 bn))).2.2.2.1 ∧ cs = (q4 (q4 (q4 (q4 bn)))).1 ∧ (([] : List SV) = [])) ∧ True ∧ True ∧ True ∧ True ∧ True ∧ True ∧ True ∧ True ∧ True ∧ True ∧ True ∧ True ∧ True ∧ True ∧ True ∧ True ∧ True ∧ True ∧ True ∧ True ∧ True ∧ True ∧ True ∧ True ∧ True ∧ (([] : List SV) = []))) ∧ (hk = (q4 (q4 bn)).2.2.2.1 ∧ cs = (q4 (q4 (q4 bn))).1 ∧ (([] : List SV) = [])) ∧ ((0 : Int) = (q4 (q4 (q4 bn))).2.1 ∧ True ∧ (([] : List SV) = [])) ∧ True)) ∧
      LoopP (fun (d15 : (List (Int × Bool)) × Int) (rF : ((List (Int × Bool)) × Int) → Prop) =>
        ((decide (d15.2 < (q4 (q4 bn)).1)) = true →
           (Bi d15.2 (q4 bn).2.2.2.1 (q4 (q4 bn)).1 bn.1 bn.2.1 bn.2.2.1 bn.2.2.2.1 (q4 bn).1 (q4 bn).2.1 (q4 bn).2.2.1 d15.1 (q4 (q4 (q4 (q4 bn)))).2 (q4 (q4 bn)).2.1 (q4 (q4 bn)).2.2.1 (q4 (q4 (q4 bn))).2.2.1 (q4 (q4 (q4 bn))).2.2.2.1 (q4 (q4 (q4 (q4 bn)))).1 (q4 (q4 bn)).2.2.2.1 (q4 (q4 (q4 bn))).1 (q4 (q4 (q4 bn))).2.1 rF)) ∧
        ((decide (d15.2 < (q4 (q4 bn)).1)) = false →
           (BK hk cs w1 d15.1 (q4 (q4 (q4 (q4 bn)))).2 (q4 (q4 (q4 bn))).1 (q4 (q4 bn)).2.1 (q4 (q4 bn)).2.2.1 (q4 (q4 (q4 bn))).2.2.1 (q4 bn).1 (q4 bn).2.1 (q4 bn).2.2.1 (q4 (q4 (q4 bn))).2.2.2.1 (q4 (q4 (q4 (q4 bn)))).1 (q4 (q4 bn)).2.2.2.1 (q4 (q4 (q4 bn))).2.1 bn.2.1))) e9)) ∧
  ((!(inI hk 1 24)) = false →
    ((decide ((lI cs) > (60 : Int))) = true →
      w2 = w2 ∧ (((5 : Int) != (0 : Int)) = true →
         (MX hk cs w1 w1 5 cs hk cs ( 0 : Int ) hk cs hk hk cs hk ( 0 : Int ))) ∧
      (((5 : Int) != (0 : Int)) = false →
        ∃ (bA : Int × (List (Int × Int × Bool)) × Int × Int × Int × (List (Int × Int × Bool)) × Int × (List (Int × Int × Bool)) × Int × Int × (List (Int × Int × Bool)) × Int × (List (Int × Int × Bool)) × Int × Int × Int × (List (Int × Int × Bool)) × (List Value)) (ma : (List (Int × Bool)) × Int), ((True ∧ True ∧ True ∧ True ∧ cs = (q4 bA).2.2.2.1 ∧ (lI cs) = (q4 (q4 bA)).1 ∧ (0 : Int) = ma.2 ∧ True) ∧ ((hk = bA.1 ∧ cs = bA.2.1 ∧ (([] : List SV) = [])) ∧ ((0 : Int) = bA.2.2.1 ∧ True ∧ (0 : Int) = bA.2.2.2.1 ∧ (([] : List SV) = [])) ∧ (hk = (q4 bA).1 ∧ cs = (q4 bA).2.1 ∧ hk = (q4 bA).2.2.1 ∧ (([] : List SV) = [])) ∧ (([] : List (Int × Bool)) = ma.1) ∧ ((q4 (q4 (q4 (q4 bA)))).2 = w1 ∧ ((hk = (q4 (q4 bA)).2.1 ∧ cs = (q4 (q4 bA)).2.2.1 ∧ (([] : List SV) = [])) ∧ True ∧ True ∧ (0 : Int) = (q4 (q4 (q4 bA))).2.2.1 ∧ True ∧ True ∧ True ∧ True ∧ (hk = (q4 (q4 (q4 bA))).2.2.2.1 ∧ cs = (q4 (q4 (q4 (q4 bA)))).1 ∧ (([] : List SV) = [])) ∧ True ∧ True ∧ True ∧ True ∧ True ∧ True ∧ True ∧ True ∧ True ∧ True ∧ True ∧ True ∧ True ∧ True ∧ True ∧ True ∧ True ∧ True ∧ True ∧ True ∧ True ∧ True ∧ True ∧ True ∧ True ∧ (([] : List SV) = []))) ∧ (hk = (q4 (q4 bA)).2.2.2.1 ∧ cs = (q4 (q4 (q4 bA))).1 ∧ (([] : List SV) = [])) ∧ ((0 : Int) = (q4 (q4 (q4 bA))).2.1 ∧ True ∧ (([] : List SV) = [])) ∧ True)) ∧
        LoopP (fun (d65 : (List (Int × Bool)) × Int) (vK : ((List (Int × Bool)) × Int) → Prop) =>
          ((decide (d65.2 < (q4 (q4 bA)).1)) = true →
             (Bi d65.2 (q4 bA).2.2.2.1 (q4 (q4 bA)).1 bA.1 bA.2.1 bA.2.2.1 bA.2.2.2.1 (q4 bA).1 (q4 bA).2.1 (q4 bA).2.2.1 d65.1 (q4 (q4 (q4 (q4 bA)))).2 (q4 (q4 bA)).2.1 (q4 (q4 bA)).2.2.1 (q4 (q4 (q4 bA))).2.2.1 (q4 (q4 (q4 bA))).2.2.2.1 (q4 (q4 (q4 (q4 bA)))).1 (q4 (q4 bA)).2.2.2.1 (q4 (q4 (q4 bA))).1 (q4 (q4 (q4 bA))).2.1 vK)) ∧
          ((decide (d65.2 < (q4 (q4 bA)).1)) = false →
             (BK hk cs w1 d65.1 (q4 (q4 (q4 (q4 bA)))).2 (q4 (q4 (q4 bA))).1 (q4 (q4 bA)).2.1 (q4 (q4 bA)).2.2.1 (q4 (q4 (q4 bA))).2.2.1 (q4 bA).1 (q4 bA).2.1 (q4 bA).2.2.1 (q4 (q4 (q4 bA))).2.2.2.1 (q4 (q4 (q4 (q4 bA)))).1 (q4 (q4 bA)).2.2.2.1 (q4 (q4 (q4 bA))).2.1 bA.2.1))) ma)) ∧
    ((decide ((lI cs) > (60 : Int))) = false →
      (1 ≤ hk ∧ hk ≤ 24 ∧ cs.length ≤ 1000000) ∧ ((!(!cs.isEmpty && !(cs.any fun c => !ZT hk c))) = true →
        w2 = w2 ∧ (((2 : Int) != (0 : Int)) = true →
           (MX hk cs w1 w1 2 cs hk cs ( 0 : Int ) hk cs hk hk cs hk ( 0 : Int ))) ∧
        (((2 : Int) != (0 : Int)) = false →
          ∃ (aH : Int × (List (Int × Int × Bool)) × Int × Int × Int × (List (Int × Int × Bool)) × Int × (List (Int × Int × Bool)) × Int × Int × (List (Int × Int × Bool)) × Int × (List (Int × Int × Bool)) × Int × Int × Int × (List (Int × Int × Bool)) × (List Value)) (iY : (List (Int × Bool)) × Int), ((True ∧ True ∧ True ∧ True ∧ cs = (q4 aH).2.2.2.1 ∧ (lI cs) = (q4 (q4 aH)).1 ∧ (0 : Int) = iY.2 ∧ True) ∧ ((hk = aH.1 ∧ cs = aH.2.1 ∧ (([] : List SV) = [])) ∧ ((0 : Int) = aH.2.2.1 ∧ True ∧ (0 : Int) = aH.2.2.2.1 ∧ (([] : List SV) = [])) ∧ (hk = (q4 aH).1 ∧ cs = (q4 aH).2.1 ∧ hk = (q4 aH).2.2.1 ∧ (([] : List SV) = [])) ∧ (([] : List (Int × Bool)) = iY.1) ∧ ((q4 (q4 (q4 (q4 aH)))).2 = w1 ∧ ((hk = (q4 (q4 aH)).2.1 ∧ cs = (q4 (q4 aH)).2.2.1 ∧ (([] : List SV) = [])) ∧ True ∧ True ∧ (0 : Int) = (q4 (q4 (q4 aH))).2.2.1 ∧ True ∧ True ∧ True ∧ True ∧ (hk = (q4 (q4 (q4 aH))).2.2.2.1 ∧ cs = (q4 (q4 (q4 (q4 aH)))).1 ∧ (([] : List SV) = [])) ∧ True ∧ True ∧ True ∧ True ∧ True ∧ True ∧ True ∧ True ∧ True ∧ True ∧ True ∧ True ∧ True ∧ True ∧ True ∧ True ∧ True ∧ True ∧ True ∧ True ∧ True ∧ True ∧ True ∧ True ∧ True ∧ (([] : List SV) = []))) ∧ (hk = (q4 (q4 aH)).2.2.2.1 ∧ cs = (q4 (q4 (q4 aH))).1 ∧ (([] : List SV) = [])) ∧ ((0 : Int) = (q4 (q4 (q4 aH))).2.1 ∧ True ∧ (([] : List SV) = [])) ∧ True)) ∧
          LoopP (fun (d115 : (List (Int × Bool)) × Int) (rQ : ((List (Int × Bool)) × Int) → Prop) =>
            ((decide (d115.2 < (q4 (q4 aH)).1)) = true →
               (Bi d115.2 (q4 aH).2.2.2.1 (q4 (q4 aH)).1 aH.1 aH.2.1 aH.2.2.1 aH.2.2.2.1 (q4 aH).1 (q4 aH).2.1 (q4 aH).2.2.1 d115.1 (q4 (q4 (q4 (q4 aH)))).2 (q4 (q4 aH)).2.1 (q4 (q4 aH)).2.2.1 (q4 (q4 (q4 aH))).2.2.1 (q4 (q4 (q4 aH))).2.2.2.1 (q4 (q4 (q4 (q4 aH)))).1 (q4 (q4 aH)).2.2.2.1 (q4 (q4 (q4 aH))).1 (q4 (q4 (q4 aH))).2.1 rQ)) ∧
            ((decide (d115.2 < (q4 (q4 aH)).1)) = false →
               (BK hk cs w1 d115.1 (q4 (q4 (q4 (q4 aH)))).2 (q4 (q4 (q4 aH))).1 (q4 (q4 aH)).2.1 (q4 (q4 aH)).2.2.1 (q4 (q4 (q4 aH))).2.2.1 (q4 aH).1 (q4 aH).2.1 (q4 aH).2.2.1 (q4 (q4 (q4 aH))).2.2.2.1 (q4 (q4 (q4 (q4 aH)))).1 (q4 (q4 aH)).2.2.2.1 (q4 (q4 (q4 aH))).2.1 aH.2.1))) iY)) ∧
      ((!(!cs.isEmpty && !(cs.any fun c => !ZT hk c))) = false →
        w2 = w2 ∧ (((0 : Int) != (0 : Int)) = true →
           (MX hk cs w1 w1 0 cs hk cs ( 0 : Int ) hk cs hk hk cs hk ( 0 : Int ))) ∧
        (((0 : Int) != (0 : Int)) = false →
          ∃ (aI : Int × (List (Int × Int × Bool)) × Int × Int × Int × (List (Int × Int × Bool)) × Int × (List (Int × Int × Bool)) × Int × Int × (List (Int × Int × Bool)) × Int × (List (Int × Int × Bool)) × Int × Int × Int × (List (Int × Int × Bool)) × (List Value)) (iZ : (List (Int × Bool)) × Int), ((True ∧ True ∧ True ∧ True ∧ cs = (q4 aI).2.2.2.1 ∧ (lI cs) = (q4 (q4 aI)).1 ∧ (0 : Int) = iZ.2 ∧ True) ∧ ((hk = aI.1 ∧ cs = aI.2.1 ∧ (([] : List SV) = [])) ∧ ((0 : Int) = aI.2.2.1 ∧ True ∧ (0 : Int) = aI.2.2.2.1 ∧ (([] : List SV) = [])) ∧ (hk = (q4 aI).1 ∧ cs = (q4 aI).2.1 ∧ hk = (q4 aI).2.2.1 ∧ (([] : List SV) = [])) ∧ (([] : List (Int × Bool)) = iZ.1) ∧ ((q4 (q4 (q4 (q4 aI)))).2 = w1 ∧ ((hk = (q4 (q4 aI)).2.1 ∧ cs = (q4 (q4 aI)).2.2.1 ∧ (([] : List SV) = [])) ∧ True ∧ True ∧ (0 : Int) = (q4 (q4 (q4 aI))).2.2.1 ∧ True ∧ True ∧ True ∧ True ∧ (hk = (q4 (q4 (q4 aI))).2.2.2.1 ∧ cs = (q4 (q4 (q4 (q4 aI)))).1 ∧ (([] : List SV) = [])) ∧ True ∧ True ∧ True ∧ True ∧ True ∧ True ∧ True ∧ True ∧ True ∧ True ∧ True ∧ True ∧ True ∧ True ∧ True ∧ True ∧ True ∧ True ∧ True ∧ True ∧ True ∧ True ∧ True ∧ True ∧ True ∧ (([] : List SV) = []))) ∧ (hk = (q4 (q4 aI)).2.2.2.1 ∧ cs = (q4 (q4 (q4 aI))).1 ∧ (([] : List SV) = [])) ∧ ((0 : Int) = (q4 (q4 (q4 aI))).2.1 ∧ True ∧ (([] : List SV) = [])) ∧ True)) ∧
          LoopP (fun (i_ : (List (Int × Bool)) × Int) (rR : ((List (Int × Bool)) × Int) → Prop) =>
            ((decide (i_.2 < (q4 (q4 aI)).1)) = true →
               (Bi i_.2 (q4 aI).2.2.2.1 (q4 (q4 aI)).1 aI.1 aI.2.1 aI.2.2.1 aI.2.2.2.1 (q4 aI).1 (q4 aI).2.1 (q4 aI).2.2.1 i_.1 (q4 (q4 (q4 (q4 aI)))).2 (q4 (q4 aI)).2.1 (q4 (q4 aI)).2.2.1 (q4 (q4 (q4 aI))).2.2.1 (q4 (q4 (q4 aI))).2.2.2.1 (q4 (q4 (q4 (q4 aI)))).1 (q4 (q4 aI)).2.2.2.1 (q4 (q4 (q4 aI))).1 (q4 (q4 (q4 aI))).2.1 rR)) ∧
            ((decide (i_.2 < (q4 (q4 aI)).1)) = false →
               (BK hk cs w1 i_.1 (q4 (q4 (q4 (q4 aI)))).2 (q4 (q4 (q4 aI))).1 (q4 (q4 aI)).2.1 (q4 (q4 aI)).2.2.1 (q4 (q4 (q4 aI))).2.2.1 (q4 aI).1 (q4 aI).2.1 (q4 aI).2.2.1 (q4 (q4 (q4 aI))).2.2.2.1 (q4 (q4 (q4 (q4 aI)))).1 (q4 (q4 aI)).2.2.2.1 (q4 (q4 (q4 aI))).2.1 aI.2.1))) iZ))))
def X1:Cx:=⟨[(1000018,(.pair (.i .i64) .bo))],[(22,Z2),(53,Zf)],43,[],0,[(36,ND)],[],[],[],false,[],[],[],[]⟩
def X4:List (Nat×LoopAnn):=[(0,⟨Int×(List (Int×Int×Bool))×Int×Int×Int×(List (Int×Int×Bool))×Int×(List (Int×Int×Bool))×Int×Int×(List (Int×Int×Bool))×Int×(List (Int×Int×Bool))×Int×Int×Int×(List (Int×Int×Bool))×(List Value),(List (Int×Bool))×Int,[1,2,4,6,20,21,22],fun e x=>[.box 1000001 0,.box 1000002 0,.box 1000004 0,.map 1000018,.val (.list (.pair (.i .i64) (.pair (.i .i64) .bo))) e.2.2.2.2.2.2.2.1,.val (.i .i64) e.2.2.2.2.2.2.2.2.1,.val (.i .i64) x.2],fun e x=>[(1000001,.slot 1,.cells [.val (.i .i64) e.1,.val (.list (.pair (.i .i64) (.pair (.i .i64) .bo))) e.2.1] (some 35)),(1000002,.slot 2,.cells [.val (.i .i64) e.2.2.1,.nilS,.val (.i .i64) e.2.2.2.1] (some 66)),(1000004,.slot 4,.cells [.val (.i .i64) e.2.2.2.2.1,.val (.list (.pair (.i .i64) (.pair (.i .i64) .bo))) e.2.2.2.2.2.1,.val (.i .i64) e.2.2.2.2.2.2.1] (some 66)),(1000018,.slot 6,.map (.i .i64) .bo x.1),(999999,.key 999999,.stk [.agg [.val (.i .i64) e.2.2.2.2.2.2.2.2.2.1,.val (.list (.pair (.i .i64) (.pair (.i .i64) .bo))) e.2.2.2.2.2.2.2.2.2.2.1],.box 1 0,.box 2 0,.val (.i .i64) e.2.2.2.2.2.2.2.2.2.2.2.2.2.2.1,.any,.any,.any,.any,.agg [.val (.i .i64) e.2.2.2.2.2.2.2.2.2.2.2.2.2.2.2.1,.val (.list (.pair (.i .i64) (.pair (.i .i64) .bo))) e.2.2.2.2.2.2.2.2.2.2.2.2.2.2.2.2.1],.any,.any,.any,.any,.any,.any,.any,.any,.any,.any,.any,.any,.any,.any,.any,.any,.any,.any,.any,.any,.any,.any,.any,.any,.any] e.2.2.2.2.2.2.2.2.2.2.2.2.2.2.2.2.2),(1,.key 1,.cells [.val (.i .i64) e.2.2.2.2.2.2.2.2.2.2.2.1,.val (.list (.pair (.i .i64) (.pair (.i .i64) .bo))) e.2.2.2.2.2.2.2.2.2.2.2.2.1] (some 35)),(2,.key 2,.cells [.val (.i .i64) e.2.2.2.2.2.2.2.2.2.2.2.2.2.1,.nilS] (some 35))]⟩)]
def QC:Cx:=⟨[],[],4,[],0,[],[],[],[],false,[],[],[],[]⟩
def QB:List (Nat×LoopAnn):=[]
def Q2:Cx:=⟨[],[],16,[],0,[],[],[],[],false,[],[],[],[]⟩
def Q1:List (Nat×LoopAnn):=[(0,⟨(List (Int×Int×Bool))×Int×Int×(List (Int×Int×Bool))×Int×(List (Int×Int×Bool))×Int×Int×Int×(List (Int×Int×Bool))×Int×Int×Int×(List (Int×Int×Bool))×Int×Int×Int×(List (Int×Int×Bool))×Int×(List (Int×Int×Bool))×Int×Int×Int×(List (Int×Int×Bool))×Int×Int×Int×Bool×(List (Int×Int×Bool))×(List (Int×Int×Bool))×(List Value)×(List Value)×(List Value)×LpD,Int×(List (Int×Int×Bool)),[0,5,6,7],fun e x=>[.dd 20000080002500000 .yv,.val (.list (.pair (.i .i64) (.pair (.i .i64) .bo))) e.1,.val (.i .i64) e.2.1,.val (.i .i64) x.1],fun e x=>[(1999999,.key 1999999,.stk [.agg [.val (.i .i64) e.2.2.1,.val (.list (.pair (.i .i64) (.pair (.i .i64) .bo))) e.2.2.2.1],.box 1 0,.box 2 0,.val (.i .i64) e.2.2.2.2.2.2.2.1,.box 4 0,.val (.i .i64) e.2.2.2.2.2.2.2.2.2.2.2.1,.any,.tup [.agg [.val (.i .i64) e.2.2.2.2.2.2.2.2.2.2.2.2.1,.val (.list (.pair (.i .i64) (.pair (.i .i64) .bo))) e.2.2.2.2.2.2.2.2.2.2.2.2.2.1,.val (.i .i64) e.2.2.2.2.2.2.2.2.2.2.2.2.2.2.1],.val (.i .i64) e.2.2.2.2.2.2.2.2.2.2.2.2.2.2.2.1],.agg [.val (.i .i64) e.2.2.2.2.2.2.2.2.2.2.2.2.2.2.2.2.1,.val (.list (.pair (.i .i64) (.pair (.i .i64) .bo))) e.2.2.2.2.2.2.2.2.2.2.2.2.2.2.2.2.2.1],.tup [.agg [.val (.i .i64) e.2.2.2.2.2.2.2.2.2.2.2.2.2.2.2.2.2.2.1,.val (.list (.pair (.i .i64) (.pair (.i .i64) .bo))) e.2.2.2.2.2.2.2.2.2.2.2.2.2.2.2.2.2.2.2.1,.val (.i .i64) e.2.2.2.2.2.2.2.2.2.2.2.2.2.2.2.2.2.2.2.2.1],.val (.i .i64) e.2.2.2.2.2.2.2.2.2.2.2.2.2.2.2.2.2.2.2.2.2.1],.agg [.val (.i .i64) e.2.2.2.2.2.2.2.2.2.2.2.2.2.2.2.2.2.2.2.2.2.2.1,.val (.list (.pair (.i .i64) (.pair (.i .i64) .bo))) e.2.2.2.2.2.2.2.2.2.2.2.2.2.2.2.2.2.2.2.2.2.2.2.1,.val (.i .i64) e.2.2.2.2.2.2.2.2.2.2.2.2.2.2.2.2.2.2.2.2.2.2.2.2.1],.val (.i .i64) e.2.2.2.2.2.2.2.2.2.2.2.2.2.2.2.2.2.2.2.2.2.2.2.2.2.1,.val (.i .i64) e.2.2.2.2.2.2.2.2.2.2.2.2.2.2.2.2.2.2.2.2.2.2.2.2.2.2.1,.val .bo e.2.2.2.2.2.2.2.2.2.2.2.2.2.2.2.2.2.2.2.2.2.2.2.2.2.2.2.1,.any,.any,.box 1 1,.val (.list (.pair (.i .i64) (.pair (.i .i64) .bo))) e.2.2.2.2.2.2.2.2.2.2.2.2.2.2.2.2.2.2.2.2.2.2.2.2.2.2.2.2.1,.fn 49 [] [.box 1900001 0],.any,.any,.any,.any,.any,.any,.any,.any,.any,.any,.any,.any,.any,.any,.any] e.2.2.2.2.2.2.2.2.2.2.2.2.2.2.2.2.2.2.2.2.2.2.2.2.2.2.2.2.2.2.1),(1,.key 1,.cells [.val (.i .i64) e.2.2.2.2.1,.val (.list (.pair (.i .i64) (.pair (.i .i64) .bo))) e.2.2.2.2.2.1] (some 35)),(2,.key 2,.cells [.val (.i .i64) e.2.2.2.2.2.2.1,.nilS] (some 35)),(4,.key 4,.cells [.val (.i .i64) e.2.2.2.2.2.2.2.2.1,.val (.list (.pair (.i .i64) (.pair (.i .i64) .bo))) e.2.2.2.2.2.2.2.2.2.1,.val (.i .i64) e.2.2.2.2.2.2.2.2.2.2.1] (some 66)),(1900001,.key 1900001,.cells [.val (.list (.pair (.i .i64) (.pair (.i .i64) .bo))) e.2.2.2.2.2.2.2.2.2.2.2.2.2.2.2.2.2.2.2.2.2.2.2.2.2.2.2.2.2.1] (some 33)),(200000799999,.key 200000799999,.stk [.fn 49 [] [.box 1900001 0],.fn 29 [] [],.any,.any,.nilS,.any,.fn 49 [] [.box 1900001 0],.any,.any,.any,.any,.any] e.2.2.2.2.2.2.2.2.2.2.2.2.2.2.2.2.2.2.2.2.2.2.2.2.2.2.2.2.2.2.2.1),(20000080000499999,.key 20000080000499999,.stk [.fn 49 [] [.box 1900001 0],.any,.nilS,.fn 49 [] [.box 1900001 0],.any] e.2.2.2.2.2.2.2.2.2.2.2.2.2.2.2.2.2.2.2.2.2.2.2.2.2.2.2.2.2.2.2.2.1),(20000080002500000,.key 20000080002500000,.lpf [.nilS,.fn 49 [] [.box 1900001 0],.box 20000080000500002 0,.any,.nilS,.any,.fn 49 [] [.box 1900001 0],.any,.any,.any,.any,.any,.any] e.2.2.2.2.2.2.2.2.2.2.2.2.2.2.2.2.2.2.2.2.2.2.2.2.2.2.2.2.2.2.2.2.2 .rdy),(20000080000500002,.key 20000080000500002,.cells [.lst 20000080000500011] (some 33)),(20000080000500011,.cell 20000080000500002 0,.lst 43 (.pair (.i .i64) (.pair (.i .i64) .bo)) x.2 (List.isEmpty x.2))]⟩)]
def Q5:Cx:=⟨[(43,(.pair (.i .i64) (.pair (.i .i64) .bo)))],[],13,[],0,[],[],[],[],false,[],[(49,Z35 Q2 Q1 c49 16)],[],[]⟩
def Q6:List (Nat×LoopAnn):=[]
def Qf:Cx:=⟨[],[],5,[],0,[(71,Q21 Q5 (fun _=>Q6) c71 [.tmp 4] 13)],[],[],[],false,[],[],[],[]⟩
def Qg:List (Nat×LoopAnn):=[]
def Z4:Cx:=⟨[],[(29,Yd)],12,[],0,[(47,Q21 Qf (fun _=>Qg) c47 [.tmp 2] 5),(48,Qw)],[],[],[],false,[],[],[],[]⟩
def Z1:List (Nat×LoopAnn):=[]
def BH:Cx:=⟨[],[],34,[],0,[(26,Q21 X1 (fun _=>X4) c26 [.cell 2 true 3,.tmp 3] 43),(28,Q21 QC (fun _=>QB) c28 [.tmp 2] 4),(27,Q21 Z4 (fun _=>Z1) c27 [.tmp 4] 12)],[],[],[],false,[],[],[],[]⟩
def CS (hk:Int) (cs:List (Int×Int×Bool)):List (Nat×LoopAnn):=[(0,⟨Int,(List (Int×Int×Bool))×Int,[1,2,23,24],fun e x=>[.box 1 0,.box 2 0,.val (.i .i64) e,.val (.i .i64) x.2],fun e x=>[(1,.slot 1,.cells [.val (.i .i64) hk,.lst 20000080000500011] (some 35)),(20000080000500011,.cell 1 1,.lst 43 (.pair (.i .i64) (.pair (.i .i64) .bo)) x.1 (List.isEmpty x.1)),(2,.slot 2,.cells [.val (.i .i64) (0:Int),.nilS] (some 35))]⟩)]
set_option maxRecDepth 100000 in
theorem LY (d:Int×List (Int×Int×Bool)):gwp (BH) (CS d.1 d.2) c10 0 (WE [.cell 2 true 2,.tmp 3] (Gu d) (GG d)) (Qp 34 (AL.can BA d))=YY d.1 d.2:=by kernel_rfl
abbrev Cb:Prop:=OkC Tryz.prog 10 NU
theorem CU (h:∀ (hk:Int) (cs:List (Int×Int×Bool)),(Js hk cs=0∧cs.length≤12∧(∀ c∈cs,0≤c.1)∧(cs.map (·.1)).Nodup)→YY hk cs):OkC Tryz.prog 10 NU :=
 Qz Q9z mixed (C:=BH) (V:=fun (d:Int×List (Int×Int×Bool))=>YY d.1 d.2) ⟨.nil,(XsOk.cons (VI Q81 mixed (C:=X1) ⟨(.cons ZJ (.cons JI .nil)),(XsOk.cons Gv XsOk.nil),ItsOk.nil,YlOk.nil,IysOk.nil,XfOk.nil⟩ (fun _=>X4)) (XsOk.cons (VI Q98 mixed (C:=QC) ⟨.nil,XsOk.nil,ItsOk.nil,YlOk.nil,IysOk.nil,XfOk.nil⟩ (fun _=>QB)) (XsOk.cons (VI Z07 mixed (C:=Z4) ⟨(.cons NN .nil),(XsOk.cons (VI Q99 mixed (C:=Qf) ⟨.nil,(XsOk.cons (VI Q9i mixed (C:=Q5) ⟨.nil,XsOk.nil,ItsOk.nil,YlOk.nil,(IysOk.cons (Q74 Q8h mixed (C:=Q2) ⟨.nil,XsOk.nil,ItsOk.nil,YlOk.nil,IysOk.nil,XfOk.nil⟩ Q1) IysOk.nil),XfOk.nil⟩ (fun _=>Q6)) XsOk.nil),ItsOk.nil,YlOk.nil,IysOk.nil,XfOk.nil⟩ (fun _=>Qg)) (XsOk.cons Ja XsOk.nil)),ItsOk.nil,YlOk.nil,IysOk.nil,XfOk.nil⟩ (fun _=>Z1)) XsOk.nil))),ItsOk.nil,YlOk.nil,IysOk.nil,XfOk.nil⟩ (LY) fun d hp=>h d.1 d.2 hp
end Go.Proofs.Tryz
set_option linter.unusedVariables false
namespace Go.Proofs.Tryz
open Go Go.V Go.Proofs
theorem Q68 {hk:Int}{cs:List K6}(h:Js hk cs=0):(!inI hk 1 24)=false∧cs.length≤60∧cs≠[]∧(∀ c∈cs,ZT hk c=true)∧(!(!cs.isEmpty&&!(cs.any fun c=>!ZT hk c)))=false:=by
 unfold Js at h;split at h
 ·cases h
 rename_i h1;split at h
 ·cases h
 rename_i h2;split at h
 ·cases h
 rename_i h3;have h4:cs≠[]:=fun e=>h3 (.inl e);have h5:(cs.any fun c=>!ZT hk c)=false:=by
  cases h6:cs.any fun c=>!ZT hk c
  ·rfl
  ·exact(h3 (.inr h6)).elim
 refine⟨by simpa using h1,by omega,h4,fun c hc=>?_,?_⟩
 ·have:=List.any_eq_false.1 h5 c hc;simpa using this
 ·rw[h5];cases cs with
  |nil=>exact(h4 rfl).elim
  |cons _ _=>rfl
set_option maxHeartbeats 2000000 in
theorem Cu:Cb:=CU fun hk cs h=>by
 obtain⟨he,lH,hn,hd⟩:=h;obtain⟨b1,b2,b3,b4,b5⟩:=Q68 he;unfold YY
 (try delta LD Bi Ic CI MX LZ BK q4)
 delta lI gD sT I64;intro w1 w2;refine⟨trivial,(fun c=>by rw[b1] at c;cases c),fun _=>?_⟩;refine⟨(fun c=>by simp at c;omega),fun _=>?_⟩;refine⟨⟨(CW he).1.1,(CW he).1.2,by omega⟩,(fun c=>by rw[b5] at c;cases c),fun _=>⟨rfl,(fun c=>by simp at c),fun _=>?_⟩⟩;refine⟨(hk,cs,0,0,hk,cs,hk,cs,(cs.length:Int),hk,cs,hk,cs,0,0,hk,cs,w1),([],0),by and_intros<;>first|rfl|trivial,?_⟩;refine⟨fun d=>∃ k:Nat,k≤cs.length∧d=(((cs.take k).map (·.1)).map (fun x=>(x,true)),(k:Int)),fun d=>cs.length-d.2.toNat,⟨0,by omega,rfl⟩,?_⟩;rintro _ ⟨k,bE,rfl⟩;refine⟨fun c=>?_,fun c=>?_⟩
 ·have ah:k<cs.length:=by have:=of_decide_eq_true c;dsimp only at this;omega
  have jN:(cs.getD k (0,(0,false))).1∉(cs.take k).map (·.1):=by
   intro aO;obtain⟨x,hx,e⟩:=List.mem_map.1 aO;obtain⟨i,hi,rfl⟩:=List.getElem_of_mem hx;rw[List.length_take] at hi;rw[Qa ah] at e;rw[List.getElem_take] at e;have h1:(cs.map (·.1))[i]'(by simp;omega)=(cs.map (·.1))[k]'(by simpa using ah):=by simpa using e
   have:=(List.getElem_inj hd).1 h1;omega
  have eZ:=Q0s jN;refine⟨by show (0:Int)≤(k:Int);omega,by show (k:Int)<(cs.length:Int);omega,by rw[QM];show _≤(k:Int)+1∧(k:Int)+1≤_;omega,(((cs.take (k+1)).map (·.1)).map (fun x=>(x,true)),(k:Int)+1),?_,⟨k+1,ah,rfl⟩,by show cs.length-((k:Int)+1).toNat<cs.length-(k:Int).toNat;omega⟩;have e2:((cs.take (k+1)).map (·.1)).map (fun x=>(x,true))=((cs.take k).map (·.1)++[(cs.getD k (0,(0,false))).1]).map (fun x=>(x,true)):=by rw[Qu ah,Qa ah,List.map_append];rfl
  rw[e2,←eZ];and_intros<;>first|rfl|trivial
 ·have aq:k=cs.length:=by have:=of_decide_eq_false c;dsimp only at this;omega
  subst aq;have hg:gq.aget (.i .i64) (((cs.take cs.length).map (·.1)).map (fun x=>(x,true))) (-1) false=false:=by
   rw[Q0k,List.take_length,decide_eq_false_iff_not];intro aO;obtain⟨x,hx,e⟩:=List.mem_map.1 aO;have:=hn x hx;omega
  refine⟨(fun c=>by rw[hg] at c;cases c),fun _=>⟨(fun c=>by have:=of_decide_eq_true c;simp at this),fun _=>⟨rfl,(fun c=>by simp at c),fun _=>?_⟩⟩⟩;intro vL;refine⟨rfl,?_⟩;intro rS rT rU rV;refine⟨(cs,(cs.length:Int),hk,cs,hk,cs,0,0,hk,cs,hk,0,hk,cs,hk,0,hk,cs,hk,cs,hk,0,hk,cs,hk,0,0,false,cs,cs,rS,rT,rU,rV),(0,[]),by and_intros<;>first|rfl|trivial,?_⟩;refine⟨fun d=>∃ k:Nat,k≤cs.length∧d=((k:Int),cs.take k),fun d=>cs.length-d.1.toNat,⟨0,by omega,rfl⟩,?_⟩;rintro _ ⟨k,bE,rfl⟩;refine⟨fun c=>?_,fun c=>?_⟩
  ·have ah:k<cs.length:=by have:=of_decide_eq_true c;dsimp only at this;omega
   refine⟨by show (0:Int)≤(k:Int);omega,by show (k:Int)<(cs.length:Int);omega,rfl,?_⟩;intro vM;refine⟨by show ((cs.take k).length+1)*24≤70368744177664;rw[List.length_take];omega,?_⟩;repeat (first|refine⟨rfl,?_⟩|refine⟨trivial,?_⟩)
   refine⟨(fun c=>by simp at c),fun _=>?_⟩;refine⟨by rw[QM];show _≤(k:Int)+1∧(k:Int)+1≤_;omega,((k:Int)+1,cs.take (k+1)),?_,⟨k+1,ah,rfl⟩,by show cs.length-((k:Int)+1).toNat<cs.length-(k:Int).toNat;omega⟩;have e2:cs.take (k+1)=cs.take k++[cs.getD k (0,(0,false))]:=by rw[Qu ah,Qa ah]
   rw[e2];and_intros<;>first|rfl|trivial|simp
  ·have aq:k=cs.length:=by have:=of_decide_eq_false c;dsimp only at this;omega
   subst aq;rw[List.take_length];have hp:=T6 (f:=Q01) (a:=0) (Nat.le_refl cs.length);have gM:=hp.length_eq;have gx:G6 cs=(TJ Q01 cs 0 cs.length).map fun c=>((c.1,(c.2.1,false)):K6):=rfl;repeat (first|refine⟨rfl,?_⟩|refine⟨trivial,?_⟩)
   refine⟨⟨lH,fun _ _ _ _=>trivial⟩,?_⟩;repeat (first|refine⟨rfl,?_⟩|refine⟨trivial,?_⟩)
   have aA:cs.isEmpty=false:=by cases cs with
    |nil=>exact(b3 rfl).elim
    |cons _ _=>rfl
   have o4:(TJ Q01 cs 0 cs.length).isEmpty=false:=by rw[←aA];exact Bool.eq_iff_iff.2 (by rw[List.isEmpty_iff,List.isEmpty_iff,←List.length_eq_zero_iff,←List.length_eq_zero_iff,gM])
   refine⟨((TJ Q01 cs 0 cs.length).length:Int),(TJ Q01 cs 0 cs.length,0),by and_intros<;>first|rfl|trivial|exact aA.trans o4.symm,?_⟩;generalize hS:TJ Q01 cs 0 cs.length=S at *
   refine⟨fun d=>∃ k:Nat,k≤S.length∧d=((S.take k).map (fun c=>((c.1,(c.2.1,false)):K6))++S.drop k,(k:Int)),fun d=>S.length-d.2.toNat,⟨0,by omega,by simp⟩,?_⟩;rintro _ ⟨k,bE,rfl⟩;have o5:((S.take k).map (fun c=>((c.1,(c.2.1,false)):K6))++S.drop k).length=S.length:=by simp;omega
   refine⟨fun c=>?_,fun c=>?_⟩
   ·have ah:k<S.length:=by have:=of_decide_eq_true c;dsimp only at this;omega
    have vN:((S.take k).map (fun c=>((c.1,(c.2.1,false)):K6))++S.drop k).getD k (0,(0,false))=S[k]:=by rw[Qa (by omega),List.getElem_append_right (by simp;omega)];simp[Nat.min_eq_left (Nat.le_of_lt ah)]
    have a_:((S.take k).map (fun c=>((c.1,(c.2.1,false)):K6))++S.drop k).set k (S[k].1,(S[k].2.1,false))=(S.take (k+1)).map (fun c=>((c.1,(c.2.1,false)):K6))++S.drop (k+1):=by rw[List.set_append_right _ _ (by simp;omega),Qu ah,List.map_append,List.append_assoc,List.drop_eq_getElem_cons ah];simp[Nat.min_eq_left (Nat.le_of_lt ah)];rw[List.drop_eq_getElem_cons ah,List.set_cons_zero]
    generalize hL:(S.take k).map (fun c=>((c.1,(c.2.1,false)):K6))++S.drop k=L at *
    generalize vO:(S.take (k+1)).map (fun c=>((c.1,(c.2.1,false)):K6))++S.drop (k+1)=L' at *
    have e1:L.set k ((L.getD k (0,(0,false))).1,((L.getD k (0,(0,false))).2.1,false))=L':=by rw[vN];exact a_
    have l1:L'.length=S.length:=by rw[←a_,List.length_set];exact o5
    have e2:L.isEmpty=L'.isEmpty:=Bool.eq_iff_iff.2 (by rw[List.isEmpty_iff,List.isEmpty_iff,←List.length_eq_zero_iff,←List.length_eq_zero_iff,o5,l1]);exact⟨by show (0:Int)≤(k:Int);omega,by show (k:Int)<(L.length:Int);omega,by rw[QM];show _≤(k:Int)+1∧(k:Int)+1≤_;omega,(L',(k:Int)+1),by and_intros<;>first|rfl|trivial|exact e1|exact e2,⟨k+1,ah,by rw[vO];rfl⟩,by show S.length-((k:Int)+1).toNat<S.length-(k:Int).toNat;omega⟩
   ·have aq:k=S.length:=by have:=of_decide_eq_false c;dsimp only at this;omega
    subst aq;rw[List.take_length,List.drop_length,List.append_nil,←gx];have kp:(G6 cs).isEmpty=false:=by rw[gx,List.isEmpty_map];exact o4
    and_intros<;>first|rfl|trivial|exact kp
end Go.Proofs.Tryz
set_option linter.unusedVariables false
namespace Go.Proofs.Tryz
open Go Go.V Go.Proofs
def YR:AL ((Int×List Int×List Int×List Int)×List Int):=(.cons (.agg (.cons (.k (.i .u8)) (.cons (.k (.list (.i .u8))) (.cons (.k (.list (.i .u16))) (.one (.k (.list (.i .u8)))))))) (.one (.k (.list (.i .u8)))))
def MJ (d:(Int×List Int×List Int×List Int)×List Int):Prop:=bOk d.1.1 d.1.2.1 d.1.2.2.1 d.1.2.2.2∧d.2.length≤9223372036854775807∧∀ x∈d.2,0≤x∧x≤255
def YC (d:(Int×List Int×List Int×List Int)×List Int):SV:=.val .bo true
def Yn (d:(Int×List Int×List Int×List Int)×List Int):List OB:=[]
def KH:CSp:=W8 YR MJ YC Yn
abbrev YH (h8:Int) (ws:List Int) (rs:List Int) (ds:List Int) (by_:List Int):=((bOk h8 ws rs ds)∧(false=true→(QJ (hkN 12 h8) 30 ws)=[])∧(bOk h8 ws rs ds)∧(false=true→(Jl (hkN 12 h8) 10 rs)=[])∧((by_=by_∧True∧True∧True∧((hkN 12 h8)=(hkN 12 h8)∧True∧(([]:List SV)=[]))∧((hkN 12 h8)=(hkN 12 h8)∧True∧(([]:List SV)=[]))∧True)∧((h8=h8∧ws=ws∧rs=rs∧ds=ds∧(([]:List SV)=[]))∧((0:Int)=(0:Int)∧True∧(([]:List SV)=[]))∧((0:Int)=(0:Int)∧True∧(([]:List SV)=[]))∧((QJ (hkN 12 h8) 30 ws)=(QJ (hkN 12 h8) 30 ws)∧false=false)∧((Jl (hkN 12 h8) 10 rs)=(Jl (hkN 12 h8) 10 rs)∧false=false)∧True)))
abbrev UT (h8:Int) (rs:List Int):=(List.replicate ((lI (Jl (hkN 12 h8) 10 rs))*(1:Int)).toNat (1:Int))
abbrev YE (h8:Int) (rs:List Int):=(Dn (hkN 12 h8) (Jl (hkN 12 h8) 10 rs))
abbrev Db (h8:Int):=((hkN 12 h8)=(hkN 12 h8)∧True∧(([]:List SV)=[]))
abbrev Rp (h8:Int) (ws:List Int) (ds:List Int):=(rdA (hkN 12 h8) (QJ (hkN 12 h8) 30 ws) (VN ds (lI (QJ (hkN 12 h8) 30 ws)).toNat))
abbrev CN (h8:Int) (ws:List Int):=((QJ (hkN 12 h8) 30 ws)=(QJ (hkN 12 h8) 30 ws)∧false=false)
abbrev CK (h8:Int) (rs:List Int):=((Jl (hkN 12 h8) 10 rs)=(Jl (hkN 12 h8) 10 rs)∧false=false)
abbrev UG (h8:Int) (rs:List Int):=(lI (Jl (hkN 12 h8) 10 rs))
def Jh (h8:Int) (ws:List Int) (rs:List Int) (ds:List Int) (by_:List Int):Prop :=
 (bOk h8 ws rs ds)∧(false=true→(QJ (hkN 12 h8) 30 ws)=[])∧(bOk h8 ws rs ds)∧(false=true→(Jl (hkN 12 h8) 10 rs)=[])∧((by_=by_∧True∧True∧True∧(Db h8)∧(Db h8)∧True)∧((h8=h8∧ws=ws∧rs=rs∧ds=ds∧(([]:List SV)=[]))∧((0:Int)=(0:Int)∧True∧(([]:List SV)=[]))∧((0:Int)=(0:Int)∧True∧(([]:List SV)=[]))∧(CN h8 ws)∧(CK h8 rs)∧True))∧(YH h8 ws rs ds by_)∧(YH h8 ws rs ds by_)∧(YH h8 ws rs ds by_)∧(YH h8 ws rs ds by_)∧(YH h8 ws rs ds by_)∧(YH h8 ws rs ds by_)∧(YH h8 ws rs ds by_)∧(YH h8 ws rs ds by_)∧(YH h8 ws rs ds by_)∧(YH h8 ws rs ds by_)∧(YH h8 ws rs ds by_)∧((Jl (hkN 12 h8) 10 rs).length≤1000)∧((Jl (hkN 12 h8) 10 rs).length≤1000)∧∀ (y1:Bool),y1=((W3 (hkN 12 h8) (Jl (hkN 12 h8) 10 rs)) != (0:Int))→∀ (y2:Bool),y2=((lI (T4 (hkN 12 h8) (Jl (hkN 12 h8) 10 rs))) != (UG h8 rs))→∀ (y3:Bool),y3=(y1||y2)→(y3=true →
  (false=true∧(True))) ∧
 (y3=false →
  ((T4 (hkN 12 h8) (Jl (hkN 12 h8) 10 rs)).length≤60∧by_.length≤9223372036854775807∧∀ x∈by_,0≤x∧x≤255)∧∃ (e3:Unit) (d30:(List (Int×Int×Bool))×Int),((by_=by_∧True∧True∧True∧(UG h8 rs)=(UG h8 rs)∧True∧(0:Int)=d30.2∧True)∧((h8=h8∧ws=ws∧rs=rs∧ds=ds∧(([]:List SV)=[]))∧(Db h8)∧(CN h8 ws)∧(Db h8)∧(CK h8 rs)∧((YE h8 rs)=(YE h8 rs)∧True∧(([]:List SV)=[]))∧((Q1h by_ (T4 (hkN 12 h8) (Jl (hkN 12 h8) 10 rs)))=d30.1∧false=false)∧True)) ∧
  LoopP (fun (d3:(List (Int×Int×Bool))×Int) (q3:((List (Int×Int×Bool))×Int)→Prop) =>
   ∀ (pQ:Bool),pQ=(decide (d3.2<(UG h8 rs)))→(pQ=true →
    (I64 (d3.2+(3:Int)))∧(by_.length≤9223372036854775807∧0≤(d3.2+(3:Int))∧∀ x∈by_,0≤x∧x≤255)∧((4:Int)≠0)∧∀ (rX:Int),rX=(Int.tmod (ZM by_ (d3.2+(3:Int))) (4:Int))→∀ (pR:Bool),pR=(rX==(3:Int))→(0≤d3.2)∧(d3.2<(List.length d3.1))∧(I64 (d3.2+(1:Int)))∧(∃ d4:(List (Int×Int×Bool))×Int,((by_=by_∧True∧True∧True∧(UG h8 rs)=(UG h8 rs)∧True∧(d3.2+(1:Int))=d4.2∧True)∧((h8=h8∧ws=ws∧rs=rs∧ds=ds∧(([]:List SV)=[]))∧(Db h8)∧(CN h8 ws)∧(Db h8)∧(CK h8 rs)∧((YE h8 rs)=(YE h8 rs)∧True∧(([]:List SV)=[]))∧((sT d3.1 d3.2 ((gD d3.1 d3.2 (0,(0,false))).1,((gD d3.1 d3.2 (0,(0,false))).2.1,pR)))=d4.1∧false=false)∧True))∧q3 d4)) ∧
   (pQ=false →
    (Js (YE h8 rs) d3.1=0∧d3.1.length≤12∧(∀ c∈d3.1,0≤c.1)∧(d3.1.map (·.1)).Nodup)∧((QJ (hkN 12 h8) 30 ws).length≤1000)∧(false=true→(QJ (hkN 12 h8) 30 ws)=[])∧(1≤(lI (QJ (hkN 12 h8) 30 ws))∧(lI (QJ (hkN 12 h8) 30 ws))≤30∧u8s ds)∧((QJ (hkN 12 h8) 30 ws).length≤110∧(VN ds (lI (QJ (hkN 12 h8) 30 ws)).toNat).length≤110)∧∀ (rY:Bool),rY=((0:Int) != (0:Int))→∀ (rZ:Bool),rZ=(ZS (hkN 12 h8) (QJ (hkN 12 h8) 30 ws) (VN ds (lI (QJ (hkN 12 h8) 30 ws)).toNat) != (0:Int))→∀ (o6:Bool),o6=(rY||rZ)→(o6=true →
     (false=true∧(True))) ∧
    (o6=false →
     (0≤(UG h8 rs)∧0≤(1:Int)∧(UG h8 rs)≤100∧(1:Int)≤100)∧(false=true→(UT h8 rs)=[])∧((G6 d3.1).length≤1000∧(UT h8 rs).length≤1000)∧((QJ (hkN 12 h8) 30 ws).length≤1000)∧(false=true→(QJ (hkN 12 h8) 30 ws)=[])∧((QJ (hkN 12 h8) 30 ws).length≤110∧(Rp h8 ws ds).length≤110∧(Yf (YE h8 rs) (G6 d3.1) (0:Int) (UT h8 rs)).length≤110)∧((QJ (hkN 12 h8) 30 ws).length≤110∧(Jl (hkN 12 h8) 10 rs).length≤110)∧∀ (r5:Bool),r5=((Zd (YE h8 rs) (G6 d3.1) (0:Int) (UT h8 rs))==(0:Int))→∀ (r6:Bool),r6=(YL (hkN 12 h8) (QJ (hkN 12 h8) 30 ws) (Rp h8 ws ds) (hkN 12 h8) (Yf (YE h8 rs) (G6 d3.1) (0:Int) (UT h8 rs))==(0:Int))→∀ (r7:Bool),r7=(r5&&r6)→∀ (r9:Bool),r9=(Ze (hkN 12 h8) (QJ (hkN 12 h8) 30 ws) (hkN 12 h8) (Jl (hkN 12 h8) 10 rs)==(0:Int))→∀ (r_:Bool),r_=(r7&&r9)→∀ (sd:Bool),sd=((Wp (YE h8 rs) (G6 d3.1) (0:Int) (UT h8 rs))==(0:Int))→∀ (pS:Bool),pS=(r_&&sd)→(pS=true→(Ge (hkN 12 h8) (QJ (hkN 12 h8) 30 ws) (Rp h8 ws ds) (hkN 12 h8) (Yf (YE h8 rs) (G6 d3.1) (0:Int) (UT h8 rs))).length≤1000000)∧∀ (pT:Bool),pT=(pS&&((Ge (hkN 12 h8) (QJ (hkN 12 h8) 30 ws) (Rp h8 ws ds) (hkN 12 h8) (Yf (YE h8 rs) (G6 d3.1) (0:Int) (UT h8 rs)))==(Qk (hkN 12 h8) (QJ (hkN 12 h8) 30 ws) (hkN 12 h8) (Jl (hkN 12 h8) 10 rs))))→(pT=true→True)∧∀ (pU:Bool),pU=(pT&&true)→(pU=true→True)∧∀ (pV:Bool),pV=(pU&&true)→(pV=true→True)∧∀ (pW:Bool),pW=(pV&&true)→(pW=true∧(True))))) d30)
def YP:Cx:=⟨[],[(4,X7),(5,Xw),(7,Mk),(6,Uo),(8,Y4),(9,K4),(10,NU),(12,UQ),(13,YJ),(11,M8),(15,VP),(14,Up),(16,Dr),(17,Uk),(18,UR),(19,Gx),(20,H_),(21,Hz)],142,[],0,[],[],[],[1,2,5,6,25,27],true,[],[],[],[]⟩
def Ga (h8:Int) (ws:List Int) (rs:List Int) (ds:List Int) (by_:List Int):List (Nat×LoopAnn):=[(0,⟨Unit,(List (Int×Int×Bool))×Int,[1,2,5,6,7,10,11],fun e x=>[.val (.list (.i .u8)) by_,.box 2 0,.box 5 0,.box 6 0,.val (.i .i64) (((List.length (Jl (hkN 12 h8) 10 rs)):Nat):Int),.box 10 0,.val (.i .i64) x.2],fun e x=>[(2,.slot 2,.cells [.val (.i .u8) h8,.val (.list (.i .u8)) ws,.val (.list (.i .u16)) rs,.val (.list (.i .u8)) ds] (some 25)),(5,.slot 5,.cells [.val (.i .i64) (hkN 12 h8),.lst 25] (some 28)),(25,.cell 5 1,.lst 3 (.i .i64) (QJ (hkN 12 h8) 30 ws) false),(6,.slot 6,.cells [.val (.i .i64) (hkN 12 h8),.lst 27] (some 31)),(27,.cell 6 1,.lst 3 (.i .i64) (Jl (hkN 12 h8) 10 rs) false),(10,.slot 10,.cells [.val (.i .i64) (Dn (hkN 12 h8) (Jl (hkN 12 h8) 10 rs)),.lst 48] (some 35)),(48,.cell 10 1,.lst 43 (.pair (.i .i64) (.pair (.i .i64) .bo)) x.1 false)]⟩)]
set_option maxRecDepth 100000 in
theorem Gj (d:(Int×List Int×List Int×List Int)×List Int):gwp (YP) (Ga d.1.1 d.1.2.1 d.1.2.2.1 d.1.2.2.2 d.2) c3 0 (WE [.tmp 4] (YC d) (Yn d)) (Qp 142 (AL.can YR d))=Jh d.1.1 d.1.2.1 d.1.2.2.1 d.1.2.2.2 d.2:=by kernel_rfl
abbrev G5:Prop:=OkC Tryz.prog 3 KH
theorem Gf (h:∀ (h8:Int) (ws:List Int) (rs:List Int) (ds:List Int) (by_:List Int),(bOk h8 ws rs ds∧by_.length≤9223372036854775807∧∀ x∈by_,0≤x∧x≤255)→Jh h8 ws rs ds by_):OkC Tryz.prog 3 KH :=
 Qz fun3 mixed (C:=YP) (V:=fun (d:(Int×List Int×List Int×List Int)×List Int)=>Jh d.1.1 d.1.2.1 d.1.2.2.1 d.1.2.2.2 d.2) ⟨(.cons Nm (.cons Ms (.cons CR (.cons RC (.cons Bx (.cons GN (.cons Cu (.cons Sk (.cons Hm (.cons Ct (.cons Rb (.cons Sy (.cons Aj (.cons HT (.cons Sm (.cons PV (.cons CO (.cons CT .nil)))))))))))))))))),XsOk.nil,ItsOk.nil,YlOk.nil,IysOk.nil,XfOk.nil⟩ (Gj) fun d hp=>h d.1.1 d.1.2.1 d.1.2.2.1 d.1.2.2.2 d.2 hp
end Go.Proofs.Tryz
set_option linter.unusedVariables false
namespace Go.Proofs.Tryz
open Go Go.V Go.Proofs
def Z3e (lw a:List Int):Prop:=∀ i j:Nat,i<lw.length→j<lw.length→i≠j→a.getD i 0≠-1→a.getD i 0≠a.getD j 0
theorem Q6c {lw a:List Int}(ha:okA lw a) {k:Nat}(hk:k<lw.length) (hl:a.getD k 0=-1):∃ e:Nat,e<lw.length∧(e:Int)∉a∧lw.getD e 0=lw.getD k 0∧step lw a k=a.set k e:=by
 obtain⟨e0,h1,h2⟩:=Im ha hk hl;unfold step;split
 ·rename_i e he;have h3:=List.find?_some he;have h4:=List.mem_of_find?_eq_some he;simp only[Q60,Int.toNat_natCast,Bool.and_eq_true,beq_iff_eq,Bool.not_eq_true'] at h3;refine⟨e,by simpa using h4,?_,h3.1,rfl⟩;intro hm;rw[List.contains_iff_mem.2 hm] at h3;exact absurd h3.2 (by simp)
 ·rename_i hn;have:=List.find?_eq_none.1 hn e0 (List.mem_range.2 h1);exact absurd h2 this
theorem Q0q {a:List Int}{k i:Nat}{x:Int}(hk:k<a.length):(a.set k x).getD i 0=if i=k then x else a.getD i 0:=by
 simp only[List.getD_eq_getElem?_getD,List.getElem?_set];by_cases h:k=i
 ·subst h;simp[hk]
 ·have:¬ i=k:=fun e=>h e.symm;simp[h,this]
theorem SH {lw:List Int}:∀ (W a:List Int),okA lw a→Z3e lw a→W.Nodup→(∀ w∈W,∃ k:Nat,w=k∧k<lw.length)→(∀ k:Nat,k<lw.length→(a.getD k 0=-1↔(k:Int)∈W)) →
  okA lw (W.foldl (step lw) a)∧Z3e lw (W.foldl (step lw) a)∧(∀ k:Nat,k<lw.length→(W.foldl (step lw) a).getD k 0≠-1)∧∀ k:Nat,k<lw.length→(k:Int)∉W→(W.foldl (step lw) a).getD k 0=a.getD k 0
 |[],a,h1,h2,_,_,h5=>⟨h1,h2,fun k hk h=>by simpa using (h5 k hk).1 h,fun _ _ _=>rfl⟩
 |w::W,a,h1,h2,h3,h4,h5=>by
  obtain⟨k,rfl,hk⟩:=h4 w List.mem_cons_self;have fx:=List.nodup_cons.1 h3;have vP:a.getD k 0=-1:=(h5 k hk).2 List.mem_cons_self;obtain⟨e,e1,e2,e3,e4⟩:=Q6c h1 hk vP;have vQ:k<a.length:=by rw[h1.1];exact hk
  have hg:∀ i,(step lw a k).getD i 0=if i=k then (e:Int) else a.getD i 0:=fun i=>by rw[e4];exact Q0q vQ
  have aA:∀ i,i<lw.length→a.getD i 0≠e:=fun i hi h=>e2 (by
   rw[←h,Qa (by rw[h1.1];exact hi)];exact List.getElem_mem _)
  obtain⟨r1,r2,r3,r4⟩:=SH W (step lw a k) (Q1l h1 k) (fun i j hi hj bR=>by
   rw[hg,hg];by_cases mH:i=k
   ·rw[if_pos mH,if_neg (by omega)];exact fun _ h=>aA j hj h.symm
   ·rw[if_neg mH];by_cases d_:j=k
    ·rw[if_pos d_];exact fun _=>aA i hi
    ·rw[if_neg d_];exact h2 i j hi hj bR) fx.2 (fun w hw=>h4 w (List.mem_cons_of_mem _ hw)) (fun i hi=>by
   rw[hg];by_cases mH:i=k
   ·rw[if_pos mH,mH];exact⟨fun h=>by omega,fun h=>absurd h fx.1⟩
   ·rw[if_neg mH,h5 i hi,List.mem_cons];exact⟨fun h=>h.resolve_left (by omega),.inr⟩)
  refine⟨r1,r2,r3,fun i hi hm=>?_⟩;rw[List.foldl_cons,r4 i hi fun h=>hm (List.mem_cons_of_mem _ h),hg,if_neg fun h=>hm (by rw[h];exact List.mem_cons_self)]
structure RightFacts (lw l:List Int):Prop where
 wl:(Ql lw l).length≤l.length
 al:(JS lw l).length=l.length
 rng:∀ i:Nat,i<l.length→0≤(JS lw l).getD i 0∧(JS lw l).getD i 0<l.length∧lw.getD ((JS lw l).getD i 0).toNat 0=lw.getD i 0
 inj:∀ i j:Nat,i<l.length→j<l.length→i≠j→(JS lw l).getD i 0≠(JS lw l).getD j 0
 keep:∀ i:Nat,i<l.length→(i:Int)∉Ql lw l→(JS lw l).getD i 0=l.getD i 0
 incr:(Ql lw l).Pairwise (·<·)
 mem:∀ x∈Ql lw l,0≤x∧x<l.length
 last:∀ k:Nat,k<l.length→(k:Int)∈Ql lw l→0≤l.getD k 0→lw.getD (l.getD k 0).toNat 0=lw.getD k 0→∃ i:Nat,i<l.length∧i≠k∧l.getD i 0=l.getD k 0∧(i:Int)∉Ql lw l
theorem Bn {lw l:List Int}{k:Nat}(hk:k<l.length):(V3 lw l).getD k 0=if stays lw l k then l.getD k 0 else -1:=by simp[V3,hk]
theorem F9 {lw l:List Int}(h2:l.length=lw.length) (h3:∀ x∈l,-1≤x∧x<lw.length):RightFacts lw l:=by
 have hW:∀ k:Nat,k<l.length→((k:Int)∈Ql lw l↔stays lw l k=false):=fun k hk=>by
  rw[Ql,Sz];constructor
  ·rintro⟨w,_,h,e⟩;have:k=w:=by omega
   rw[this];exact h
  ·exact fun h=>⟨k,hk,h,rfl⟩
 have a_:∀ k:Nat,k<l.length→stays lw l k=true→0≤l.getD k 0:=fun k hk hs=>by simp only[stays,isRight,Bool.and_eq_true,Int.toNat_natCast,bne_iff_ne,ne_eq] at hs;have:=h3 _ (List.getElem_mem hk);rw[←Qa (d:=0) hk] at this;have:=hs.1.1;omega
 obtain⟨r1,r2,r3,r4⟩:=SH (Ql lw l) (V3 lw l) (Q2c h2 h3) (fun i j hi hj bR aA=>by
   rw[Bn (by omega)] at aA ⊢;rw[Bn (by omega)];cases hs:stays lw l i with
   |false=>rw[hs] at aA;simp at aA
   |true =>
    rw[if_pos rfl];have mJ:=a_ i (by omega) hs;cases a9:stays lw l j with
    |false=>rw[if_neg (by simp)];omega
    |true =>
     rw[if_pos rfl];intro he;have key:∀ a b:Nat,a<b→b<l.length→stays lw l a=true→stays lw l b=true→l.getD a 0≠l.getD b 0:=fun a b p6 hb ha b8 h=>by
      simp only[stays,Bool.and_eq_true,List.all_eq_true,List.mem_range,Bool.or_eq_true,decide_eq_true_eq,Bool.not_eq_true',bne_iff_ne,ne_eq] at ha b8;rcases ha.2 b hb with h4|h4|h4
      ·omega
      ·exact h4 h.symm
      ·rw[b8.1] at h4;cases h4
     rcases Nat.lt_or_gt_of_ne bR with h|h
     ·exact key i j h (by omega) hs a9 he
     ·exact key j i h (by omega) a9 hs he.symm)
  ((Z18 lw l l.length).imp fun h=>by omega) (fun w hw=>by
   obtain⟨k,hk,_,e⟩:=Sz.1 hw;exact⟨k,e,by omega⟩) (fun k hk=>by
   rw[Bn (by omega),hW k (by omega)];cases hs:stays lw l k with
   |false=>simp
   |true =>
    have:=a_ k (by omega) hs;rw[if_pos rfl];exact⟨fun h=>by omega,fun h=>by cases h⟩)
 refine⟨Q9f lw l l.length,by rw[JS,Pz];simp[V3],fun i hi=>?_,fun i j hi hj bR=>r2 i j (by omega) (by omega) bR (r3 i (by omega)),fun i hi hm=>?_,Z18 lw l l.length,fun x hx=>?_,fun k hk hm fw hr=>?_⟩
 ·rcases r1.2 i (by omega) with h|⟨e,h4,h5,h6⟩
  ·exact absurd h (r3 i (by omega))
  ·rw[JS,h5];exact⟨by omega,by omega,h6⟩
 ·rw[JS,r4 i (by omega) hm,Bn hi,if_pos];cases hs:stays lw l i with
  |true=>rfl
  |false=>exact absurd ((hW i hi).2 hs) hm
 ·obtain⟨w,hw,_,rfl⟩:=Sz.1 hx;omega
 ·have jo:isRight lw l k=true:=by
   simp only[isRight,Int.toNat_natCast,Bool.and_eq_true,bne_iff_ne,ne_eq,beq_iff_eq];exact⟨by omega,hr⟩
  obtain⟨w,w1,w2,w3⟩:=He l.length k (by omega) hk rfl jo;refine⟨w,w1,fun e=>?_,w2,fun h=>?_⟩
  ·subst e;rw[(hW w hk).1 hm] at w3;cases w3
  ·rw[(hW w w1).1 h] at w3;cases w3
theorem E_ {lw a:List Int}(hl:a.length=lw.length) (h:∀ i:Nat,i<a.length→0≤a.getD i 0∧a.getD i 0<a.length∧lw.getD (a.getD i 0).toNat 0=lw.getD i 0) (r:Int):PH a (Ka lw r)=Ka lw r:=by
 apply List.ext_getElem
 ·simp[PH,Ka,hl]
 ·intro i h1 h2;have hi:i<a.length:=by simpa [PH] using h1
  have gN:i<lw.length:=by omega
  obtain⟨h3,h4,h5⟩:=h i hi;rw[Qa hi] at h3 h4 h5;have h6:(a[i]).toNat<lw.length:=by omega
  rw[Qa h6,Qa gN] at h5;have h7:¬ a[i]=-1:=by omega
  have h8:(a[i]).toNat<(Ka lw r).length:=by simpa [Ka] using h6
  simp only[PH,List.getElem_map,if_neg h7,Qa h8];simp only[Ka,List.getElem_map,h5]
theorem Q52 {l:List Int}{a b:Int}(h:∀ x∈l,a≤x∧x≤b):(l.any fun x=>!inI x a b)=false:=by rw[List.any_eq_false];intro x hx;have:=h x hx;simp[inI,this]
theorem Q1g {hk:Int}{lw:List Int}(h1:1≤hk) (h2:hk≤24) (h3:lw.length≤96) (h4:1≤lw.length) (h5:∀ x∈lw,0≤x∧x<hk):ZC hk lw=0:=by unfold ZC;rw[if_neg (by simp[inI,h1,h2]),if_neg (by omega),if_neg (by omega),if_neg (by rw[Q52 fun x hx=>by have:=h5 x hx;omega];simp)]
theorem En {hk:Int}{lw l:List Int}(ht:ZC hk lw=0) (hl:l.length=lw.length) (h:∀ x∈l,-1≤x∧x<lw.length):ZS hk lw l=0:=by unfold ZS;rw[if_neg (by omega),if_neg (by omega),if_neg (by rw[Q52 fun x hx=>by have:=h x hx;omega];simp)]
theorem Q37 {rows:List Int}{i:Nat}(h:i<rows.length):(Rx rows).getD i W_=((i:Int),(rows.getD i 0,false)):=by rw[Qa (by simpa [Rx] using h)];simp[Rx]
theorem G4 (rows:List Int):(Rx rows).length=rows.length:=by simp[Rx]
theorem Q22 {n:Nat}{k:Nat}(h:k<n):(List.replicate n (1:Int)).getD k 0=1:=by rw[Qa (by simpa using h)];simp
theorem C2 {n m:Nat}(hn:0<n):∀ k,k≤m→k<n→atK n 0 (List.replicate m (1:Int)) k=(k:Int)
 |0,_,_=>rfl
 |k+1,hk,ja=>by have ih:=C2 hn k (by omega) (by omega) (m:=m);unfold atK;rw[ih,Q22 (by omega),Int.tmod_eq_emod_of_nonneg (by omega),Int.emod_eq_of_lt (by omega) (by omega)];rfl
theorem Q1f {n:Nat}(hn:0<n):atK n 0 (List.replicate n (1:Int)) n=0:=by obtain⟨m,rfl⟩:∃ m,n=m+1:=⟨n-1,by omega⟩;have ih:=C2 (n:=m+1) (m:=m+1) hn m (by omega) (by omega);unfold atK;rw[ih,Q22 (by omega),show ((m:Int)+1)=((m+1:Nat):Int) from rfl,Int.tmod_self]
theorem Ti {hk:Int}{rows:List Int}{L:List K6}(h1:1≤hk∧hk≤24) (hr:∀ x∈rows,0≤x∧x<2 ^ hk.toNat) (hl:L.length=rows.length) (h0:rows≠[]) (pX:rows.length≤60) (hb:∀ c∈L,0≤c.1∧c.1<rows.length∧c.2.1=rows.getD c.1.toNat 0):Js hk L=0:=by
 unfold Js;have i1:inI hk 1 24=true:=by unfold inI;rw[decide_eq_true h1.1,decide_eq_true h1.2];rfl
 rw[if_neg (by rw[i1];decide),if_neg (by omega),if_neg];rintro (h|h)
 ·rw[h] at hl;exact h0 (List.length_eq_zero_iff.1 hl.symm)
 ·obtain⟨c,hc,cf⟩:=List.any_eq_true.1 h;obtain⟨c1,c2,c3⟩:=hb c hc;have ah:c.1.toNat<rows.length:=by omega
  have h4:=hr (rows.getD c.1.toNat 0) (by rw[Qa ah];exact List.getElem_mem ah);rw[←c3] at h4;have:ZT hk c=true:=by unfold ZT inI;rw[decide_eq_true (by omega),decide_eq_true (by omega),decide_eq_true h4.1,decide_eq_true (by omega)];rfl
  rw[this] at cf;cases cf
theorem EI {hk:Int}{rows:List Int}(h1:1≤hk∧hk≤24) (hr:∀ x∈rows,0≤x∧x<2 ^ hk.toNat) (h0:rows≠[]) (pX:rows.length≤60) :
  Zd hk (Rx rows) 0 (List.replicate rows.length 1)=0∧Yf hk (Rx rows) 0 (List.replicate rows.length 1)=rows∧Wp hk (Rx rows) 0 (List.replicate rows.length 1)=0:=by
 have hn:0<rows.length:=List.length_pos_iff.2 h0;have be:Js hk (Rx rows)=0:=Ti h1 hr (G4 rows) h0 pX fun c hc=>by obtain⟨i,hi,rfl⟩:=List.mem_map.1 hc;have:=List.mem_range.1 hi;dsimp only;rw[Int.toNat_natCast];exact⟨by omega,by omega,rfl⟩
 have we:Zd hk (Rx rows) 0 (List.replicate rows.length 1)=0:=by
  unfold Zd;rw[if_neg (by omega),G4,if_neg,if_neg (by simpa using pX),if_neg]
  ·rw[List.any_eq_true];rintro⟨x,hx,hb⟩;rw[(List.mem_replicate.1 hx).2] at hb;cases hb
  ·rw[show inI 0 0 ((rows.length:Int)-1)=true by unfold inI;rw[decide_eq_true (by omega),decide_eq_true (by omega)];rfl];decide
 refine⟨we,?_,?_⟩
 ·unfold Yf;rw[if_pos we,List.length_replicate];refine List.ext_getElem (Ed _ _ _ _ _) fun i h2 h3=>?_;simp only[RN,List.getElem_map,List.getElem_range];rw[G4,C2 hn i (by omega) h3,Int.toNat_natCast,Q37 h3,Qa h3];rfl
 ·unfold Wp;rw[if_pos we,List.length_replicate,G4];exact Q1f hn
theorem Fs {hk:Int}{rows:List Int}(h1:1≤hk∧hk≤24) (hr:∀ x∈rows,0≤x∧x<2 ^ hk.toNat) (h0:rows≠[]) (pX:rows.length≤60):W3 hk rows=0:=by
 unfold W3;have i1:inI hk 1 24=true:=by unfold inI;rw[decide_eq_true h1.1,decide_eq_true h1.2];rfl
 rw[if_neg (by rw[i1];decide),if_neg (by omega),if_neg h0,if_neg];rw[List.any_eq_true];rintro⟨x,hx,hb⟩;have:=hr x hx;rw[show inI x 0 (2 ^ hk.toNat-1)=true by unfold inI;rw[decide_eq_true (by omega),decide_eq_true (by omega)];rfl] at hb;cases hb
structure MarkI (rows:List Int) (L:List K6):Prop where
 len:L.length=rows.length
 val:∀ c∈L,0≤c.1∧c.1<rows.length∧c.2.1=rows.getD c.1.toNat 0
 nd:(L.map (·.1)).Nodup
theorem Q4r (rows:List Int):MarkI rows (Rx rows):=by
 refine⟨G4 rows,fun c hc=>?_,?_⟩
 ·obtain⟨i,hi,rfl⟩:=List.mem_map.1 hc;have:=List.mem_range.1 hi;dsimp only;rw[Int.toNat_natCast];exact⟨by omega,by omega,rfl⟩
 ·unfold Rx;rw[List.map_map,List.nodup_iff_pairwise_ne,List.pairwise_map];refine (List.nodup_iff_pairwise_ne.1 List.nodup_range).imp fun {a b} h e=>h ?_;have:(a:Int)=(b:Int):=e;omega
theorem MarkI.perm {rows:List Int}{L M:List K6}(h:MarkI rows L) (hp:M.Perm L):MarkI rows M :=
 ⟨hp.length_eq.trans h.len,fun c hc=>h.val c (hp.mem_iff.1 hc),(hp.map (·.1)).nodup_iff.2 h.nd⟩
theorem MarkI.set {rows:List Int}{L:List K6}(h:MarkI rows L) {k:Nat}(hk:k<L.length) (b:Bool):MarkI rows (L.set k ((L.getD k W_).1,((L.getD k W_).2.1,b))):=by
 refine⟨by rw[List.length_set];exact h.len,fun c hc=>?_,?_⟩
 ·rcases List.mem_or_eq_of_mem_set hc with hc|rfl
  ·exact h.val c hc
  ·rw[Qa hk];exact h.val L[k] (List.getElem_mem hk)
 ·have e:(L.set k ((L.getD k W_).1,((L.getD k W_).2.1,b))).map (·.1)=L.map (·.1):=by
   rw[List.map_set,Qa hk];refine List.ext_getElem (by simp) fun i h1 h2=>?_;rw[List.getElem_set];split
   ·rename_i h3;subst h3;simp
   ·rfl
  rw[e];exact h.nd
theorem Q4k {h8:Int}{ws rs ds:List Int}(h:bOk h8 ws rs ds):(1≤hkN 12 h8∧hkN 12 h8≤12)∧(QJ (hkN 12 h8) 30 ws≠[]∧(QJ (hkN 12 h8) 30 ws).length≤30∧∀ x∈QJ (hkN 12 h8) 30 ws,0≤x∧x<hkN 12 h8) ∧
  (Jl (hkN 12 h8) 10 rs≠[]∧(Jl (hkN 12 h8) 10 rs).length≤10∧∀ x∈Jl (hkN 12 h8) 10 rs,0≤x∧x<2 ^ (hkN 12 h8).toNat):=by
 obtain⟨h1,h2,h3,h4,h5⟩:=h;have hk:=TL (m:=12) (by omega) h1;refine⟨hk,⟨?_,?_,?_⟩,⟨?_,?_,?_⟩⟩
 ·unfold QJ;split
  ·simp
  ·rename_i aA;simpa using aA
 ·rw[Ln];split<;>omega
 ·intro x hx;unfold QJ at hx;split at hx
  ·rw[List.mem_singleton.1 hx];omega
  ·simp only[List.mem_map] at hx;obtain⟨y,hy,rfl⟩:=hx;have:=h3 y (List.mem_of_mem_take hy);exact⟨Int.tmod_nonneg _ this.1,Int.tmod_lt_of_pos _ (by omega)⟩
 ·unfold Jl;split
  ·simp
  ·rename_i aA;simpa using aA
 ·rw[EC];split<;>omega
 ·intro x hx;have hp:=NO hk.1 (show hkN 12 h8≤24 by omega);unfold Jl at hx;split at hx
  ·rw[List.mem_singleton.1 hx];exact⟨Int.emod_nonneg _ (by omega),Int.emod_lt_of_pos _ (by omega)⟩
  ·simp only[List.mem_map] at hx;obtain⟨y,_,rfl⟩:=hx;exact⟨Int.emod_nonneg _ (by omega),Int.emod_lt_of_pos _ (by omega)⟩
theorem Q1b {n:Int}{W R:List Int}(h1:1≤n∧n≤12) (w:W≠[]∧W.length≤30∧∀ x∈W,0≤x∧x<n) (r:R≠[]∧R.length≤10∧∀ x∈R,0≤x∧x<2 ^ n.toNat):Ze n W n R=0∧Qk n W n R=R.map (Ka W):=by
 obtain⟨w1,w2,w3⟩:=w;obtain⟨r1,r2,r3⟩:=r;have hw:1≤W.length:=List.length_pos_iff.2 w1;have hr:1≤R.length:=List.length_pos_iff.2 r1;have i1:inI n 1 24=true:=by unfold inI;rw[decide_eq_true (by omega),decide_eq_true (by omega)];rfl
 have te:ZC n W=0:=by unfold ZC;rw[if_neg (by rw[i1];decide),if_neg (by omega),if_neg (by omega),if_neg];rw[List.any_eq_true];rintro⟨x,hx,hb⟩;have:=w3 x hx;rw[show inI x 0 (n-1)=true by unfold inI;rw[decide_eq_true (by omega),decide_eq_true (by omega)];rfl] at hb;cases hb
 have pe:Zi n R=0:=by unfold Zi;rw[if_neg (by rw[i1];decide),if_neg (by omega),if_neg (by omega),if_neg];rw[List.any_eq_true];rintro⟨x,hx,hb⟩;have:=r3 x hx;rw[show inI x 0 (2 ^ n.toNat-1)=true by unfold inI;rw[decide_eq_true (by omega),decide_eq_true (by omega)];rfl] at hb;cases hb
 have we:Ze n W n R=0:=by unfold Ze;rw[if_neg (by omega),if_neg (by omega),if_neg (by omega)]
 exact⟨we,by unfold Qk;rw[if_pos we]⟩
set_option maxHeartbeats 2000000 in
theorem ok_top_TopRightAgain:G5:=Gf fun h8 ws rs ds by_ h=>by
 obtain⟨hb,s7,pY⟩:=h;unfold Jh
 (try delta YH UT YE Db Rp CN CK UG q4)
 (try delta lI gD sT I64)
 obtain⟨hk,hw,hr⟩:=Q4k hb;have hds:u8s ds:=hb.2.2.2.2;generalize bOk h8 ws rs ds=B at hb ⊢;generalize hH:hkN 12 h8=H at *
 generalize hW:QJ H 30 ws=W at *
 generalize hR:Jl H 10 rs=R at *
 obtain⟨we,wc⟩:=Q1b hk hw hr;obtain⟨w1,w2,w3⟩:=hw;obtain⟨r1,r2,r3⟩:=hr;have mb:1≤H∧H≤24:=by omega
 have vR:1≤W.length:=List.length_pos_iff.2 w1;have wJ:1≤R.length:=List.length_pos_iff.2 r1;have pe:=Fs mb r3 r1 (by omega);have pw:T4 H R=Rx R:=by unfold T4;rw[if_pos pe]
 have pk:Dn H R=H:=by unfold Dn;rw[if_pos pe]
 have pl:=G4 R;have te:=Q1g hk.1 (by omega) (by omega) vR w3;have pZ:(VN ds W.length).length=W.length:=by simp[VN]
 have s8:∀ x∈VN ds W.length,-1≤x∧x<W.length:=fun x hx=>by
  obtain⟨i,hi,rfl⟩:=List.mem_map.1 hx;have:=List.mem_range.1 hi;have vS:0≤ds.getD i 0:=by
   by_cases h:i<ds.length
   ·rw[Qa h];exact(hds _ (List.getElem_mem h)).1
   ·rw[List.getD_eq_getElem?_getD,List.getElem?_eq_none (by omega)];simp
  have t1:=Int.tmod_nonneg (W.length:Int) vS;have t2:=Int.tmod_lt_of_pos (ds.getD i 0) (show (0:Int)<W.length by omega);split
  ·split
   ·omega
   ·split<;>omega
  ·omega
 have ee:=En te pZ s8;have F:=F9 pZ s8;have ra:rdA H W (VN ds W.length)=JS W (VN ds W.length):=by unfold rdA;rw[if_pos ee]
 have al:(JS W (VN ds W.length)).length=W.length:=F.al.trans pZ;have mc:=F.rng;rw[pZ] at mc;have ea:ZS H W (JS W (VN ds W.length))=0:=En te al fun x hx=>by obtain⟨i,hi,rfl⟩:=List.getElem_of_mem hx;have:=mc i (by omega);rw[Qa hi] at this;omega
 have po:=fun r=>E_ (lw:=W) (a:=JS W (VN ds W.length)) al (fun i hi=>by rw[al];exact mc i (by omega)) r;rw[pw,pk,pe];simp only[Int.toNat_natCast,ra,ee,pl];generalize JS W (VN ds W.length)=A at *
 generalize VN ds W.length=D at *
 have s9:YL H W A H R=0:=by unfold YL;rw[if_neg (by omega)];exact we
 have vT:Ge H W A H R=R.map (Ka W):=by unfold Ge;rw[if_pos s9];exact List.map_congr_left fun r _=>po r
 repeat (first|(refine And.intro (by first|exact hb|omega|(intro h;cases h;done)|(and_intros<;>first|rfl|trivial|exact hb|(intro h;cases h;done))) ?_))
 intro y1 e1 y2 e2 y3 e3;have z3:y3=false:=by rw[e3,e1,e2];simp
 refine⟨(fun h=>by rw[z3] at h;cases h),fun _=>⟨⟨by omega,s7,pY⟩,(),(Q1h by_ (Rx R),0),by and_intros<;>first|rfl|trivial,?_⟩⟩;have eo:MarkI R (Q1h by_ (Rx R)):=(Q4r R).perm (Lj pY (fun i=>(FG pY (by omega)).1) _ (Nat.le_refl _));refine⟨fun d=>∃ k:Nat,k≤R.length∧d.2=(k:Int)∧MarkI R d.1,fun d=>R.length-d.2.toNat,⟨0,by omega,rfl,eo⟩,?_⟩;rintro⟨L,_⟩ ⟨k,wK,rfl,hL⟩;dsimp only at hL ⊢;have o5:=hL.len;intro pQ sZ;refine⟨fun c=>?_,fun c=>?_⟩
 ·have ah:k<R.length:=by rw[sZ] at c;have:=of_decide_eq_true c;omega
  refine⟨by rw[QM];omega,⟨s7,by omega,pY⟩,by decide,?_⟩;intro rX e6 pR wL;have a_:=hL.set (k:=k) (by omega) pR;unfold W_ at a_;refine⟨by omega,by omega,by rw[QM];omega,(_,(k:Int)+1),by and_intros<;>first|rfl|trivial,⟨k+1,ah,rfl,a_⟩,by dsimp only;omega⟩
 ·have vU:=Ti mb r3 o5 r1 (by omega) hL.val;have gx:=Q11 o5 hL.nd hL.val;obtain⟨q1,q2,q3⟩:=EI mb r3 r1 (by omega:R.length≤60);refine⟨⟨vU,by omega,fun c hc=>(hL.val c hc).1,hL.nd⟩,?_⟩;rw[gx];simp only[Int.mul_one,Int.toNat_natCast,q1,q2,q3,s9,vT,we,wc,pl];have wM:(List.replicate R.length (1:Int)).length=R.length:=by simp
  have aX:(R.map (Ka W)).length=R.length:=by simp
  repeat (first|(refine And.intro (by first|omega|(intro h;cases h;done)|(and_intros<;>first|omega|exact hds|rfl|trivial)) ?_))
  intro rY vV rZ bM o6 bn;have vW:o6=false:=by rw[bn,vV,bM];rfl
  refine⟨(fun h=>by rw[vW] at h;cases h),fun _=>?_⟩;repeat (first|(refine And.intro (by first|omega|(intro h;cases h;done)|(and_intros<;>first|omega|exact hds|rfl|trivial)) ?_))
  intro r5 oC r6 vX r7 vY r9 vZ r_ s5 sd v5 pS v7;refine⟨fun _=>by omega,?_⟩;intro pT v8;refine⟨fun _=>trivial,?_⟩;intro pU v9;refine⟨fun _=>trivial,?_⟩;intro pV v_;refine⟨fun _=>trivial,?_⟩;intro pW wa;have z:pW=true:=by rw[wa,v_,v9,v8,v7,v5,s5,vZ,vY,vX,oC,beq_self_eq_true (R.map (Ka W))];rfl
  exact⟨z,trivial⟩
end Go.Proofs.Tryz
set_option linter.unusedVariables false
namespace Go.Proofs.Tryz
open Go Go.V Go.Proofs
theorem Q02 {l:List Int}(h:KWf (.list (.i .u8)) l):u8s l:=fun x hx=>(Q0u x).1 (h.2 x hx)
theorem Q6y {l:List Int}(h:KWf (.list (.i .u16)) l):Z3m l:=fun x hx=>(Q63 x).1 (h.2 x hx)
theorem Z0u {x:Int×List Int×List Int×List Int}(h:KWf (.pair (.i .u8) (.pair (.list (.i .u8)) (.pair (.list (.i .u16)) (.list (.i .u8))))) x):bOk x.1 x.2.1 x.2.2.1 x.2.2.2:=by obtain⟨h1,h2,h3,h4⟩:=h;have h1:=(Q0u x.1).1 h1;exact⟨h1.1,h1.2,Q02 h2,Q6y h3,Q02 h4⟩
theorem againPre_of {x:(Int×List Int×List Int×List Int)×List Int}(h:AWf [.pair (.i .u8) (.pair (.list (.i .u8)) (.pair (.list (.i .u16)) (.list (.i .u8)))),.list (.i .u8)] x):bOk x.1.1 x.1.2.1 x.1.2.2.1 x.1.2.2.2∧x.2.length≤9223372036854775807∧∀ y∈x.2,0≤y∧y≤255:=by obtain⟨h1,h2⟩:=h;exact⟨Z0u h1,h2.1,Q02 h2⟩
end Go.Proofs.Tryz