/- A framework for walks, contracts of functions, and their proofs: part 6. -/
import Derived.Shelf.SlGeneric
import Derived.Shelf.Strings.SlTrimAscii
import Derived.Ground.NamesProg
import Derived.Test.YtannmfpiibodeaaGreatDoorProg
import Derived.Below
import Derived.Shelf.Spec.SlicesGrow
import Derived.ProofKit
import Derived.OpenShut
import Derived.LaidMore
import Derived.Carry
import Derived.Lib.SmallJoins
import Derived.Deep.Slices
import Derived.Test.YtannmfpiibodeaaGreatDoorF5
noncomputable section
set_option linter.unusedVariables false
set_option maxRecDepth 100000
namespace Go.Proofs.Tryz
open Go Go.V Go.Proofs
def Vr:AL (Int):=(.one (.k (.i .u32)))
def KX (d:Int):Prop:=False
def KR (d:Int):SV:=.val (.i .i64) ((tzN d.toNat:Nat):Int)
def KY (d:Int):List OB:=[]
def Wg:CSp:=XU Vr KX KR KY
abbrev Vp:Prop:=OkC Tryz.prog 36 Wg
theorem Vg:Vp:=EY λ_ h=>h
def Wp:AL (Int):=(.one (.k (.i .u64)))
def VE (d:Int):Prop:=0<=d/\d<=18446744073709551615
def W8 (d:Int):SV:=.val (.i .i64) ((tzN d.toNat:Nat):Int)
def XZ (d:Int):List OB:=[]
def X5:CSp:=XU Wp VE W8 XZ
def Zn (x:Int):Prop :=
 (false=true ->
  (InK .u32 x)/\(False)/\(((tzN x.toNat:Nat):Int)=((tzN x.toNat:Nat):Int)/\(True))) /\
 (false=false ->
  (0<=x/\x<=18446744073709551615)/\(((tzN x.toNat:Nat):Int)=((tzN x.toNat:Nat):Int)/\(True)))
def Ws:Cx:=⟨[],[(36,Wg),(37,W3)],8,[],0,[],[],[],[],false,[],[],[],[]⟩
def Uj (x:Int):List (Nat×LoopAnn):=[]
theorem Ul (d:Int):gwp (Ws) (Uj d) c20 0 (YI [.tmp 2] (W8 d) (XZ d)) (Qv 8 (AL.can Wp d))=Zn d:=by kernel_rfl
abbrev Um:Prop:=OkC Tryz.prog 20 X5
theorem Uk (h:∀ (x:Int),(0<=x/\x<=18446744073709551615)->Zn x):OkC Tryz.prog 20 X5 :=
 QB Z2s mixed (C:=Ws) (V:=λ(d:Int)=>Zn d) ⟨(.cons Vg (.cons Vw .nil)),XsOk.nil,ItsOk.nil,YlOk.nil,IysOk.nil,XfOk.nil⟩ (Ul) λd hp=>h d hp
theorem Ui:Um:=Uk λx h=>by unfold Zn;(try delta lI gD sT I64 Q2 pj8 pj4);refine⟨(λh=>by cases h),λ_=>⟨h,?_⟩⟩;and_intros<;>first|rfl|trivial
def N7:AL (Int):=(.one (.k (.i .u32)))
def N1 (d:Int):Prop:=False
def UW (d:Int):SV:=.val (.i .i64) (0:Int)
def UZ (d:Int):List OB:=[]
def Yk:CSp:=XU N7 N1 UW UZ
abbrev NF:Prop:=OkC Tryz.prog 38 Yk
theorem N5:NF:=EY λ_ h=>h
def Yc:AL (Int):=(.one (.k (.i .u64)))
def UT (d:Int):Prop:=0<=d/\d<16777216
def WJ (d:Int):SV:=.val (.i .i64) ((pcN 24 d.toNat:Nat):Int)
def WC (d:Int):List OB:=[]
def Xn:CSp:=XU Yc UT WJ WC
def ZU (x:Int):Prop :=
 (0<=(1:Int))/\(InK .u64 ((Q1 .and .u64 (Q9 .u64 x (1:Int)) (6148914691236517205:Int))+(Q1 .and .u64 x (6148914691236517205:Int))))/\(0<=(2:Int))/\(InK .u64 ((Q1 .and .u64 (Q9 .u64 ((Q1 .and .u64 (Q9 .u64 x (1:Int)) (6148914691236517205:Int))+(Q1 .and .u64 x (6148914691236517205:Int))) (2:Int)) (3689348814741910323:Int))+(Q1 .and .u64 ((Q1 .and .u64 (Q9 .u64 x (1:Int)) (6148914691236517205:Int))+(Q1 .and .u64 x (6148914691236517205:Int))) (3689348814741910323:Int))))/\(0<=(4:Int))/\(InK .u64 ((Q9 .u64 ((Q1 .and .u64 (Q9 .u64 ((Q1 .and .u64 (Q9 .u64 x (1:Int)) (6148914691236517205:Int))+(Q1 .and .u64 x (6148914691236517205:Int))) (2:Int)) (3689348814741910323:Int))+(Q1 .and .u64 ((Q1 .and .u64 (Q9 .u64 x (1:Int)) (6148914691236517205:Int))+(Q1 .and .u64 x (6148914691236517205:Int))) (3689348814741910323:Int))) (4:Int))+((Q1 .and .u64 (Q9 .u64 ((Q1 .and .u64 (Q9 .u64 x (1:Int)) (6148914691236517205:Int))+(Q1 .and .u64 x (6148914691236517205:Int))) (2:Int)) (3689348814741910323:Int))+(Q1 .and .u64 ((Q1 .and .u64 (Q9 .u64 x (1:Int)) (6148914691236517205:Int))+(Q1 .and .u64 x (6148914691236517205:Int))) (3689348814741910323:Int)))))/\(0<=(8:Int))/\(InK .u64 ((Q1 .and .u64 ((Q9 .u64 ((Q1 .and .u64 (Q9 .u64 ((Q1 .and .u64 (Q9 .u64 x (1:Int)) (6148914691236517205:Int))+(Q1 .and .u64 x (6148914691236517205:Int))) (2:Int)) (3689348814741910323:Int))+(Q1 .and .u64 ((Q1 .and .u64 (Q9 .u64 x (1:Int)) (6148914691236517205:Int))+(Q1 .and .u64 x (6148914691236517205:Int))) (3689348814741910323:Int))) (4:Int))+((Q1 .and .u64 (Q9 .u64 ((Q1 .and .u64 (Q9 .u64 x (1:Int)) (6148914691236517205:Int))+(Q1 .and .u64 x (6148914691236517205:Int))) (2:Int)) (3689348814741910323:Int))+(Q1 .and .u64 ((Q1 .and .u64 (Q9 .u64 x (1:Int)) (6148914691236517205:Int))+(Q1 .and .u64 x (6148914691236517205:Int))) (3689348814741910323:Int)))) (1085102592571150095:Int))+(Q9 .u64 (Q1 .and .u64 ((Q9 .u64 ((Q1 .and .u64 (Q9 .u64 ((Q1 .and .u64 (Q9 .u64 x (1:Int)) (6148914691236517205:Int))+(Q1 .and .u64 x (6148914691236517205:Int))) (2:Int)) (3689348814741910323:Int))+(Q1 .and .u64 ((Q1 .and .u64 (Q9 .u64 x (1:Int)) (6148914691236517205:Int))+(Q1 .and .u64 x (6148914691236517205:Int))) (3689348814741910323:Int))) (4:Int))+((Q1 .and .u64 (Q9 .u64 ((Q1 .and .u64 (Q9 .u64 x (1:Int)) (6148914691236517205:Int))+(Q1 .and .u64 x (6148914691236517205:Int))) (2:Int)) (3689348814741910323:Int))+(Q1 .and .u64 ((Q1 .and .u64 (Q9 .u64 x (1:Int)) (6148914691236517205:Int))+(Q1 .and .u64 x (6148914691236517205:Int))) (3689348814741910323:Int)))) (1085102592571150095:Int)) (8:Int))))/\(0<=(16:Int))/\(InK .u64 (((Q1 .and .u64 ((Q9 .u64 ((Q1 .and .u64 (Q9 .u64 ((Q1 .and .u64 (Q9 .u64 x (1:Int)) (6148914691236517205:Int))+(Q1 .and .u64 x (6148914691236517205:Int))) (2:Int)) (3689348814741910323:Int))+(Q1 .and .u64 ((Q1 .and .u64 (Q9 .u64 x (1:Int)) (6148914691236517205:Int))+(Q1 .and .u64 x (6148914691236517205:Int))) (3689348814741910323:Int))) (4:Int))+((Q1 .and .u64 (Q9 .u64 ((Q1 .and .u64 (Q9 .u64 x (1:Int)) (6148914691236517205:Int))+(Q1 .and .u64 x (6148914691236517205:Int))) (2:Int)) (3689348814741910323:Int))+(Q1 .and .u64 ((Q1 .and .u64 (Q9 .u64 x (1:Int)) (6148914691236517205:Int))+(Q1 .and .u64 x (6148914691236517205:Int))) (3689348814741910323:Int)))) (1085102592571150095:Int))+(Q9 .u64 (Q1 .and .u64 ((Q9 .u64 ((Q1 .and .u64 (Q9 .u64 ((Q1 .and .u64 (Q9 .u64 x (1:Int)) (6148914691236517205:Int))+(Q1 .and .u64 x (6148914691236517205:Int))) (2:Int)) (3689348814741910323:Int))+(Q1 .and .u64 ((Q1 .and .u64 (Q9 .u64 x (1:Int)) (6148914691236517205:Int))+(Q1 .and .u64 x (6148914691236517205:Int))) (3689348814741910323:Int))) (4:Int))+((Q1 .and .u64 (Q9 .u64 ((Q1 .and .u64 (Q9 .u64 x (1:Int)) (6148914691236517205:Int))+(Q1 .and .u64 x (6148914691236517205:Int))) (2:Int)) (3689348814741910323:Int))+(Q1 .and .u64 ((Q1 .and .u64 (Q9 .u64 x (1:Int)) (6148914691236517205:Int))+(Q1 .and .u64 x (6148914691236517205:Int))) (3689348814741910323:Int)))) (1085102592571150095:Int)) (8:Int)))+(Q9 .u64 ((Q1 .and .u64 ((Q9 .u64 ((Q1 .and .u64 (Q9 .u64 ((Q1 .and .u64 (Q9 .u64 x (1:Int)) (6148914691236517205:Int))+(Q1 .and .u64 x (6148914691236517205:Int))) (2:Int)) (3689348814741910323:Int))+(Q1 .and .u64 ((Q1 .and .u64 (Q9 .u64 x (1:Int)) (6148914691236517205:Int))+(Q1 .and .u64 x (6148914691236517205:Int))) (3689348814741910323:Int))) (4:Int))+((Q1 .and .u64 (Q9 .u64 ((Q1 .and .u64 (Q9 .u64 x (1:Int)) (6148914691236517205:Int))+(Q1 .and .u64 x (6148914691236517205:Int))) (2:Int)) (3689348814741910323:Int))+(Q1 .and .u64 ((Q1 .and .u64 (Q9 .u64 x (1:Int)) (6148914691236517205:Int))+(Q1 .and .u64 x (6148914691236517205:Int))) (3689348814741910323:Int)))) (1085102592571150095:Int))+(Q9 .u64 (Q1 .and .u64 ((Q9 .u64 ((Q1 .and .u64 (Q9 .u64 ((Q1 .and .u64 (Q9 .u64 x (1:Int)) (6148914691236517205:Int))+(Q1 .and .u64 x (6148914691236517205:Int))) (2:Int)) (3689348814741910323:Int))+(Q1 .and .u64 ((Q1 .and .u64 (Q9 .u64 x (1:Int)) (6148914691236517205:Int))+(Q1 .and .u64 x (6148914691236517205:Int))) (3689348814741910323:Int))) (4:Int))+((Q1 .and .u64 (Q9 .u64 ((Q1 .and .u64 (Q9 .u64 x (1:Int)) (6148914691236517205:Int))+(Q1 .and .u64 x (6148914691236517205:Int))) (2:Int)) (3689348814741910323:Int))+(Q1 .and .u64 ((Q1 .and .u64 (Q9 .u64 x (1:Int)) (6148914691236517205:Int))+(Q1 .and .u64 x (6148914691236517205:Int))) (3689348814741910323:Int)))) (1085102592571150095:Int)) (8:Int))) (16:Int))))/\(0<=(32:Int))/\(InK .u64 ((((Q1 .and .u64 ((Q9 .u64 ((Q1 .and .u64 (Q9 .u64 ((Q1 .and .u64 (Q9 .u64 x (1:Int)) (6148914691236517205:Int))+(Q1 .and .u64 x (6148914691236517205:Int))) (2:Int)) (3689348814741910323:Int))+(Q1 .and .u64 ((Q1 .and .u64 (Q9 .u64 x (1:Int)) (6148914691236517205:Int))+(Q1 .and .u64 x (6148914691236517205:Int))) (3689348814741910323:Int))) (4:Int))+((Q1 .and .u64 (Q9 .u64 ((Q1 .and .u64 (Q9 .u64 x (1:Int)) (6148914691236517205:Int))+(Q1 .and .u64 x (6148914691236517205:Int))) (2:Int)) (3689348814741910323:Int))+(Q1 .and .u64 ((Q1 .and .u64 (Q9 .u64 x (1:Int)) (6148914691236517205:Int))+(Q1 .and .u64 x (6148914691236517205:Int))) (3689348814741910323:Int)))) (1085102592571150095:Int))+(Q9 .u64 (Q1 .and .u64 ((Q9 .u64 ((Q1 .and .u64 (Q9 .u64 ((Q1 .and .u64 (Q9 .u64 x (1:Int)) (6148914691236517205:Int))+(Q1 .and .u64 x (6148914691236517205:Int))) (2:Int)) (3689348814741910323:Int))+(Q1 .and .u64 ((Q1 .and .u64 (Q9 .u64 x (1:Int)) (6148914691236517205:Int))+(Q1 .and .u64 x (6148914691236517205:Int))) (3689348814741910323:Int))) (4:Int))+((Q1 .and .u64 (Q9 .u64 ((Q1 .and .u64 (Q9 .u64 x (1:Int)) (6148914691236517205:Int))+(Q1 .and .u64 x (6148914691236517205:Int))) (2:Int)) (3689348814741910323:Int))+(Q1 .and .u64 ((Q1 .and .u64 (Q9 .u64 x (1:Int)) (6148914691236517205:Int))+(Q1 .and .u64 x (6148914691236517205:Int))) (3689348814741910323:Int)))) (1085102592571150095:Int)) (8:Int)))+(Q9 .u64 ((Q1 .and .u64 ((Q9 .u64 ((Q1 .and .u64 (Q9 .u64 ((Q1 .and .u64 (Q9 .u64 x (1:Int)) (6148914691236517205:Int))+(Q1 .and .u64 x (6148914691236517205:Int))) (2:Int)) (3689348814741910323:Int))+(Q1 .and .u64 ((Q1 .and .u64 (Q9 .u64 x (1:Int)) (6148914691236517205:Int))+(Q1 .and .u64 x (6148914691236517205:Int))) (3689348814741910323:Int))) (4:Int))+((Q1 .and .u64 (Q9 .u64 ((Q1 .and .u64 (Q9 .u64 x (1:Int)) (6148914691236517205:Int))+(Q1 .and .u64 x (6148914691236517205:Int))) (2:Int)) (3689348814741910323:Int))+(Q1 .and .u64 ((Q1 .and .u64 (Q9 .u64 x (1:Int)) (6148914691236517205:Int))+(Q1 .and .u64 x (6148914691236517205:Int))) (3689348814741910323:Int)))) (1085102592571150095:Int))+(Q9 .u64 (Q1 .and .u64 ((Q9 .u64 ((Q1 .and .u64 (Q9 .u64 ((Q1 .and .u64 (Q9 .u64 x (1:Int)) (6148914691236517205:Int))+(Q1 .and .u64 x (6148914691236517205:Int))) (2:Int)) (3689348814741910323:Int))+(Q1 .and .u64 ((Q1 .and .u64 (Q9 .u64 x (1:Int)) (6148914691236517205:Int))+(Q1 .and .u64 x (6148914691236517205:Int))) (3689348814741910323:Int))) (4:Int))+((Q1 .and .u64 (Q9 .u64 ((Q1 .and .u64 (Q9 .u64 x (1:Int)) (6148914691236517205:Int))+(Q1 .and .u64 x (6148914691236517205:Int))) (2:Int)) (3689348814741910323:Int))+(Q1 .and .u64 ((Q1 .and .u64 (Q9 .u64 x (1:Int)) (6148914691236517205:Int))+(Q1 .and .u64 x (6148914691236517205:Int))) (3689348814741910323:Int)))) (1085102592571150095:Int)) (8:Int))) (16:Int)))+(Q9 .u64 (((Q1 .and .u64 ((Q9 .u64 ((Q1 .and .u64 (Q9 .u64 ((Q1 .and .u64 (Q9 .u64 x (1:Int)) (6148914691236517205:Int))+(Q1 .and .u64 x (6148914691236517205:Int))) (2:Int)) (3689348814741910323:Int))+(Q1 .and .u64 ((Q1 .and .u64 (Q9 .u64 x (1:Int)) (6148914691236517205:Int))+(Q1 .and .u64 x (6148914691236517205:Int))) (3689348814741910323:Int))) (4:Int))+((Q1 .and .u64 (Q9 .u64 ((Q1 .and .u64 (Q9 .u64 x (1:Int)) (6148914691236517205:Int))+(Q1 .and .u64 x (6148914691236517205:Int))) (2:Int)) (3689348814741910323:Int))+(Q1 .and .u64 ((Q1 .and .u64 (Q9 .u64 x (1:Int)) (6148914691236517205:Int))+(Q1 .and .u64 x (6148914691236517205:Int))) (3689348814741910323:Int)))) (1085102592571150095:Int))+(Q9 .u64 (Q1 .and .u64 ((Q9 .u64 ((Q1 .and .u64 (Q9 .u64 ((Q1 .and .u64 (Q9 .u64 x (1:Int)) (6148914691236517205:Int))+(Q1 .and .u64 x (6148914691236517205:Int))) (2:Int)) (3689348814741910323:Int))+(Q1 .and .u64 ((Q1 .and .u64 (Q9 .u64 x (1:Int)) (6148914691236517205:Int))+(Q1 .and .u64 x (6148914691236517205:Int))) (3689348814741910323:Int))) (4:Int))+((Q1 .and .u64 (Q9 .u64 ((Q1 .and .u64 (Q9 .u64 x (1:Int)) (6148914691236517205:Int))+(Q1 .and .u64 x (6148914691236517205:Int))) (2:Int)) (3689348814741910323:Int))+(Q1 .and .u64 ((Q1 .and .u64 (Q9 .u64 x (1:Int)) (6148914691236517205:Int))+(Q1 .and .u64 x (6148914691236517205:Int))) (3689348814741910323:Int)))) (1085102592571150095:Int)) (8:Int)))+(Q9 .u64 ((Q1 .and .u64 ((Q9 .u64 ((Q1 .and .u64 (Q9 .u64 ((Q1 .and .u64 (Q9 .u64 x (1:Int)) (6148914691236517205:Int))+(Q1 .and .u64 x (6148914691236517205:Int))) (2:Int)) (3689348814741910323:Int))+(Q1 .and .u64 ((Q1 .and .u64 (Q9 .u64 x (1:Int)) (6148914691236517205:Int))+(Q1 .and .u64 x (6148914691236517205:Int))) (3689348814741910323:Int))) (4:Int))+((Q1 .and .u64 (Q9 .u64 ((Q1 .and .u64 (Q9 .u64 x (1:Int)) (6148914691236517205:Int))+(Q1 .and .u64 x (6148914691236517205:Int))) (2:Int)) (3689348814741910323:Int))+(Q1 .and .u64 ((Q1 .and .u64 (Q9 .u64 x (1:Int)) (6148914691236517205:Int))+(Q1 .and .u64 x (6148914691236517205:Int))) (3689348814741910323:Int)))) (1085102592571150095:Int))+(Q9 .u64 (Q1 .and .u64 ((Q9 .u64 ((Q1 .and .u64 (Q9 .u64 ((Q1 .and .u64 (Q9 .u64 x (1:Int)) (6148914691236517205:Int))+(Q1 .and .u64 x (6148914691236517205:Int))) (2:Int)) (3689348814741910323:Int))+(Q1 .and .u64 ((Q1 .and .u64 (Q9 .u64 x (1:Int)) (6148914691236517205:Int))+(Q1 .and .u64 x (6148914691236517205:Int))) (3689348814741910323:Int))) (4:Int))+((Q1 .and .u64 (Q9 .u64 ((Q1 .and .u64 (Q9 .u64 x (1:Int)) (6148914691236517205:Int))+(Q1 .and .u64 x (6148914691236517205:Int))) (2:Int)) (3689348814741910323:Int))+(Q1 .and .u64 ((Q1 .and .u64 (Q9 .u64 x (1:Int)) (6148914691236517205:Int))+(Q1 .and .u64 x (6148914691236517205:Int))) (3689348814741910323:Int)))) (1085102592571150095:Int)) (8:Int))) (16:Int))) (32:Int))))/\(I64 ((((Q1 .and .u64 ((Q9 .u64 ((Q1 .and .u64 (Q9 .u64 ((Q1 .and .u64 (Q9 .u64 x (1:Int)) (6148914691236517205:Int))+(Q1 .and .u64 x (6148914691236517205:Int))) (2:Int)) (3689348814741910323:Int))+(Q1 .and .u64 ((Q1 .and .u64 (Q9 .u64 x (1:Int)) (6148914691236517205:Int))+(Q1 .and .u64 x (6148914691236517205:Int))) (3689348814741910323:Int))) (4:Int))+((Q1 .and .u64 (Q9 .u64 ((Q1 .and .u64 (Q9 .u64 x (1:Int)) (6148914691236517205:Int))+(Q1 .and .u64 x (6148914691236517205:Int))) (2:Int)) (3689348814741910323:Int))+(Q1 .and .u64 ((Q1 .and .u64 (Q9 .u64 x (1:Int)) (6148914691236517205:Int))+(Q1 .and .u64 x (6148914691236517205:Int))) (3689348814741910323:Int)))) (1085102592571150095:Int))+(Q9 .u64 (Q1 .and .u64 ((Q9 .u64 ((Q1 .and .u64 (Q9 .u64 ((Q1 .and .u64 (Q9 .u64 x (1:Int)) (6148914691236517205:Int))+(Q1 .and .u64 x (6148914691236517205:Int))) (2:Int)) (3689348814741910323:Int))+(Q1 .and .u64 ((Q1 .and .u64 (Q9 .u64 x (1:Int)) (6148914691236517205:Int))+(Q1 .and .u64 x (6148914691236517205:Int))) (3689348814741910323:Int))) (4:Int))+((Q1 .and .u64 (Q9 .u64 ((Q1 .and .u64 (Q9 .u64 x (1:Int)) (6148914691236517205:Int))+(Q1 .and .u64 x (6148914691236517205:Int))) (2:Int)) (3689348814741910323:Int))+(Q1 .and .u64 ((Q1 .and .u64 (Q9 .u64 x (1:Int)) (6148914691236517205:Int))+(Q1 .and .u64 x (6148914691236517205:Int))) (3689348814741910323:Int)))) (1085102592571150095:Int)) (8:Int)))+(Q9 .u64 ((Q1 .and .u64 ((Q9 .u64 ((Q1 .and .u64 (Q9 .u64 ((Q1 .and .u64 (Q9 .u64 x (1:Int)) (6148914691236517205:Int))+(Q1 .and .u64 x (6148914691236517205:Int))) (2:Int)) (3689348814741910323:Int))+(Q1 .and .u64 ((Q1 .and .u64 (Q9 .u64 x (1:Int)) (6148914691236517205:Int))+(Q1 .and .u64 x (6148914691236517205:Int))) (3689348814741910323:Int))) (4:Int))+((Q1 .and .u64 (Q9 .u64 ((Q1 .and .u64 (Q9 .u64 x (1:Int)) (6148914691236517205:Int))+(Q1 .and .u64 x (6148914691236517205:Int))) (2:Int)) (3689348814741910323:Int))+(Q1 .and .u64 ((Q1 .and .u64 (Q9 .u64 x (1:Int)) (6148914691236517205:Int))+(Q1 .and .u64 x (6148914691236517205:Int))) (3689348814741910323:Int)))) (1085102592571150095:Int))+(Q9 .u64 (Q1 .and .u64 ((Q9 .u64 ((Q1 .and .u64 (Q9 .u64 ((Q1 .and .u64 (Q9 .u64 x (1:Int)) (6148914691236517205:Int))+(Q1 .and .u64 x (6148914691236517205:Int))) (2:Int)) (3689348814741910323:Int))+(Q1 .and .u64 ((Q1 .and .u64 (Q9 .u64 x (1:Int)) (6148914691236517205:Int))+(Q1 .and .u64 x (6148914691236517205:Int))) (3689348814741910323:Int))) (4:Int))+((Q1 .and .u64 (Q9 .u64 ((Q1 .and .u64 (Q9 .u64 x (1:Int)) (6148914691236517205:Int))+(Q1 .and .u64 x (6148914691236517205:Int))) (2:Int)) (3689348814741910323:Int))+(Q1 .and .u64 ((Q1 .and .u64 (Q9 .u64 x (1:Int)) (6148914691236517205:Int))+(Q1 .and .u64 x (6148914691236517205:Int))) (3689348814741910323:Int)))) (1085102592571150095:Int)) (8:Int))) (16:Int)))+(Q9 .u64 (((Q1 .and .u64 ((Q9 .u64 ((Q1 .and .u64 (Q9 .u64 ((Q1 .and .u64 (Q9 .u64 x (1:Int)) (6148914691236517205:Int))+(Q1 .and .u64 x (6148914691236517205:Int))) (2:Int)) (3689348814741910323:Int))+(Q1 .and .u64 ((Q1 .and .u64 (Q9 .u64 x (1:Int)) (6148914691236517205:Int))+(Q1 .and .u64 x (6148914691236517205:Int))) (3689348814741910323:Int))) (4:Int))+((Q1 .and .u64 (Q9 .u64 ((Q1 .and .u64 (Q9 .u64 x (1:Int)) (6148914691236517205:Int))+(Q1 .and .u64 x (6148914691236517205:Int))) (2:Int)) (3689348814741910323:Int))+(Q1 .and .u64 ((Q1 .and .u64 (Q9 .u64 x (1:Int)) (6148914691236517205:Int))+(Q1 .and .u64 x (6148914691236517205:Int))) (3689348814741910323:Int)))) (1085102592571150095:Int))+(Q9 .u64 (Q1 .and .u64 ((Q9 .u64 ((Q1 .and .u64 (Q9 .u64 ((Q1 .and .u64 (Q9 .u64 x (1:Int)) (6148914691236517205:Int))+(Q1 .and .u64 x (6148914691236517205:Int))) (2:Int)) (3689348814741910323:Int))+(Q1 .and .u64 ((Q1 .and .u64 (Q9 .u64 x (1:Int)) (6148914691236517205:Int))+(Q1 .and .u64 x (6148914691236517205:Int))) (3689348814741910323:Int))) (4:Int))+((Q1 .and .u64 (Q9 .u64 ((Q1 .and .u64 (Q9 .u64 x (1:Int)) (6148914691236517205:Int))+(Q1 .and .u64 x (6148914691236517205:Int))) (2:Int)) (3689348814741910323:Int))+(Q1 .and .u64 ((Q1 .and .u64 (Q9 .u64 x (1:Int)) (6148914691236517205:Int))+(Q1 .and .u64 x (6148914691236517205:Int))) (3689348814741910323:Int)))) (1085102592571150095:Int)) (8:Int)))+(Q9 .u64 ((Q1 .and .u64 ((Q9 .u64 ((Q1 .and .u64 (Q9 .u64 ((Q1 .and .u64 (Q9 .u64 x (1:Int)) (6148914691236517205:Int))+(Q1 .and .u64 x (6148914691236517205:Int))) (2:Int)) (3689348814741910323:Int))+(Q1 .and .u64 ((Q1 .and .u64 (Q9 .u64 x (1:Int)) (6148914691236517205:Int))+(Q1 .and .u64 x (6148914691236517205:Int))) (3689348814741910323:Int))) (4:Int))+((Q1 .and .u64 (Q9 .u64 ((Q1 .and .u64 (Q9 .u64 x (1:Int)) (6148914691236517205:Int))+(Q1 .and .u64 x (6148914691236517205:Int))) (2:Int)) (3689348814741910323:Int))+(Q1 .and .u64 ((Q1 .and .u64 (Q9 .u64 x (1:Int)) (6148914691236517205:Int))+(Q1 .and .u64 x (6148914691236517205:Int))) (3689348814741910323:Int)))) (1085102592571150095:Int))+(Q9 .u64 (Q1 .and .u64 ((Q9 .u64 ((Q1 .and .u64 (Q9 .u64 ((Q1 .and .u64 (Q9 .u64 x (1:Int)) (6148914691236517205:Int))+(Q1 .and .u64 x (6148914691236517205:Int))) (2:Int)) (3689348814741910323:Int))+(Q1 .and .u64 ((Q1 .and .u64 (Q9 .u64 x (1:Int)) (6148914691236517205:Int))+(Q1 .and .u64 x (6148914691236517205:Int))) (3689348814741910323:Int))) (4:Int))+((Q1 .and .u64 (Q9 .u64 ((Q1 .and .u64 (Q9 .u64 x (1:Int)) (6148914691236517205:Int))+(Q1 .and .u64 x (6148914691236517205:Int))) (2:Int)) (3689348814741910323:Int))+(Q1 .and .u64 ((Q1 .and .u64 (Q9 .u64 x (1:Int)) (6148914691236517205:Int))+(Q1 .and .u64 x (6148914691236517205:Int))) (3689348814741910323:Int)))) (1085102592571150095:Int)) (8:Int))) (16:Int))) (32:Int))))/\((Q1 .and .i64 ((((Q1 .and .u64 ((Q9 .u64 ((Q1 .and .u64 (Q9 .u64 ((Q1 .and .u64 (Q9 .u64 x (1:Int)) (6148914691236517205:Int))+(Q1 .and .u64 x (6148914691236517205:Int))) (2:Int)) (3689348814741910323:Int))+(Q1 .and .u64 ((Q1 .and .u64 (Q9 .u64 x (1:Int)) (6148914691236517205:Int))+(Q1 .and .u64 x (6148914691236517205:Int))) (3689348814741910323:Int))) (4:Int))+((Q1 .and .u64 (Q9 .u64 ((Q1 .and .u64 (Q9 .u64 x (1:Int)) (6148914691236517205:Int))+(Q1 .and .u64 x (6148914691236517205:Int))) (2:Int)) (3689348814741910323:Int))+(Q1 .and .u64 ((Q1 .and .u64 (Q9 .u64 x (1:Int)) (6148914691236517205:Int))+(Q1 .and .u64 x (6148914691236517205:Int))) (3689348814741910323:Int)))) (1085102592571150095:Int))+(Q9 .u64 (Q1 .and .u64 ((Q9 .u64 ((Q1 .and .u64 (Q9 .u64 ((Q1 .and .u64 (Q9 .u64 x (1:Int)) (6148914691236517205:Int))+(Q1 .and .u64 x (6148914691236517205:Int))) (2:Int)) (3689348814741910323:Int))+(Q1 .and .u64 ((Q1 .and .u64 (Q9 .u64 x (1:Int)) (6148914691236517205:Int))+(Q1 .and .u64 x (6148914691236517205:Int))) (3689348814741910323:Int))) (4:Int))+((Q1 .and .u64 (Q9 .u64 ((Q1 .and .u64 (Q9 .u64 x (1:Int)) (6148914691236517205:Int))+(Q1 .and .u64 x (6148914691236517205:Int))) (2:Int)) (3689348814741910323:Int))+(Q1 .and .u64 ((Q1 .and .u64 (Q9 .u64 x (1:Int)) (6148914691236517205:Int))+(Q1 .and .u64 x (6148914691236517205:Int))) (3689348814741910323:Int)))) (1085102592571150095:Int)) (8:Int)))+(Q9 .u64 ((Q1 .and .u64 ((Q9 .u64 ((Q1 .and .u64 (Q9 .u64 ((Q1 .and .u64 (Q9 .u64 x (1:Int)) (6148914691236517205:Int))+(Q1 .and .u64 x (6148914691236517205:Int))) (2:Int)) (3689348814741910323:Int))+(Q1 .and .u64 ((Q1 .and .u64 (Q9 .u64 x (1:Int)) (6148914691236517205:Int))+(Q1 .and .u64 x (6148914691236517205:Int))) (3689348814741910323:Int))) (4:Int))+((Q1 .and .u64 (Q9 .u64 ((Q1 .and .u64 (Q9 .u64 x (1:Int)) (6148914691236517205:Int))+(Q1 .and .u64 x (6148914691236517205:Int))) (2:Int)) (3689348814741910323:Int))+(Q1 .and .u64 ((Q1 .and .u64 (Q9 .u64 x (1:Int)) (6148914691236517205:Int))+(Q1 .and .u64 x (6148914691236517205:Int))) (3689348814741910323:Int)))) (1085102592571150095:Int))+(Q9 .u64 (Q1 .and .u64 ((Q9 .u64 ((Q1 .and .u64 (Q9 .u64 ((Q1 .and .u64 (Q9 .u64 x (1:Int)) (6148914691236517205:Int))+(Q1 .and .u64 x (6148914691236517205:Int))) (2:Int)) (3689348814741910323:Int))+(Q1 .and .u64 ((Q1 .and .u64 (Q9 .u64 x (1:Int)) (6148914691236517205:Int))+(Q1 .and .u64 x (6148914691236517205:Int))) (3689348814741910323:Int))) (4:Int))+((Q1 .and .u64 (Q9 .u64 ((Q1 .and .u64 (Q9 .u64 x (1:Int)) (6148914691236517205:Int))+(Q1 .and .u64 x (6148914691236517205:Int))) (2:Int)) (3689348814741910323:Int))+(Q1 .and .u64 ((Q1 .and .u64 (Q9 .u64 x (1:Int)) (6148914691236517205:Int))+(Q1 .and .u64 x (6148914691236517205:Int))) (3689348814741910323:Int)))) (1085102592571150095:Int)) (8:Int))) (16:Int)))+(Q9 .u64 (((Q1 .and .u64 ((Q9 .u64 ((Q1 .and .u64 (Q9 .u64 ((Q1 .and .u64 (Q9 .u64 x (1:Int)) (6148914691236517205:Int))+(Q1 .and .u64 x (6148914691236517205:Int))) (2:Int)) (3689348814741910323:Int))+(Q1 .and .u64 ((Q1 .and .u64 (Q9 .u64 x (1:Int)) (6148914691236517205:Int))+(Q1 .and .u64 x (6148914691236517205:Int))) (3689348814741910323:Int))) (4:Int))+((Q1 .and .u64 (Q9 .u64 ((Q1 .and .u64 (Q9 .u64 x (1:Int)) (6148914691236517205:Int))+(Q1 .and .u64 x (6148914691236517205:Int))) (2:Int)) (3689348814741910323:Int))+(Q1 .and .u64 ((Q1 .and .u64 (Q9 .u64 x (1:Int)) (6148914691236517205:Int))+(Q1 .and .u64 x (6148914691236517205:Int))) (3689348814741910323:Int)))) (1085102592571150095:Int))+(Q9 .u64 (Q1 .and .u64 ((Q9 .u64 ((Q1 .and .u64 (Q9 .u64 ((Q1 .and .u64 (Q9 .u64 x (1:Int)) (6148914691236517205:Int))+(Q1 .and .u64 x (6148914691236517205:Int))) (2:Int)) (3689348814741910323:Int))+(Q1 .and .u64 ((Q1 .and .u64 (Q9 .u64 x (1:Int)) (6148914691236517205:Int))+(Q1 .and .u64 x (6148914691236517205:Int))) (3689348814741910323:Int))) (4:Int))+((Q1 .and .u64 (Q9 .u64 ((Q1 .and .u64 (Q9 .u64 x (1:Int)) (6148914691236517205:Int))+(Q1 .and .u64 x (6148914691236517205:Int))) (2:Int)) (3689348814741910323:Int))+(Q1 .and .u64 ((Q1 .and .u64 (Q9 .u64 x (1:Int)) (6148914691236517205:Int))+(Q1 .and .u64 x (6148914691236517205:Int))) (3689348814741910323:Int)))) (1085102592571150095:Int)) (8:Int)))+(Q9 .u64 ((Q1 .and .u64 ((Q9 .u64 ((Q1 .and .u64 (Q9 .u64 ((Q1 .and .u64 (Q9 .u64 x (1:Int)) (6148914691236517205:Int))+(Q1 .and .u64 x (6148914691236517205:Int))) (2:Int)) (3689348814741910323:Int))+(Q1 .and .u64 ((Q1 .and .u64 (Q9 .u64 x (1:Int)) (6148914691236517205:Int))+(Q1 .and .u64 x (6148914691236517205:Int))) (3689348814741910323:Int))) (4:Int))+((Q1 .and .u64 (Q9 .u64 ((Q1 .and .u64 (Q9 .u64 x (1:Int)) (6148914691236517205:Int))+(Q1 .and .u64 x (6148914691236517205:Int))) (2:Int)) (3689348814741910323:Int))+(Q1 .and .u64 ((Q1 .and .u64 (Q9 .u64 x (1:Int)) (6148914691236517205:Int))+(Q1 .and .u64 x (6148914691236517205:Int))) (3689348814741910323:Int)))) (1085102592571150095:Int))+(Q9 .u64 (Q1 .and .u64 ((Q9 .u64 ((Q1 .and .u64 (Q9 .u64 ((Q1 .and .u64 (Q9 .u64 x (1:Int)) (6148914691236517205:Int))+(Q1 .and .u64 x (6148914691236517205:Int))) (2:Int)) (3689348814741910323:Int))+(Q1 .and .u64 ((Q1 .and .u64 (Q9 .u64 x (1:Int)) (6148914691236517205:Int))+(Q1 .and .u64 x (6148914691236517205:Int))) (3689348814741910323:Int))) (4:Int))+((Q1 .and .u64 (Q9 .u64 ((Q1 .and .u64 (Q9 .u64 x (1:Int)) (6148914691236517205:Int))+(Q1 .and .u64 x (6148914691236517205:Int))) (2:Int)) (3689348814741910323:Int))+(Q1 .and .u64 ((Q1 .and .u64 (Q9 .u64 x (1:Int)) (6148914691236517205:Int))+(Q1 .and .u64 x (6148914691236517205:Int))) (3689348814741910323:Int)))) (1085102592571150095:Int)) (8:Int))) (16:Int))) (32:Int))) (127:Int))=((pcN 24 x.toNat:Nat):Int)/\(True))
def Yd:Cx:=⟨[],[],35,[],0,[],[],[],[],false,[],[],[],[]⟩
def N3 (x:Int):List (Nat×LoopAnn):=[]
theorem ND (d:Int):gwp (Yd) (N3 d) c39 0 (YI [.tmp 2] (WJ d) (WC d)) (Qv 35 (AL.can Yc d))=ZU d:=by kernel_rfl
abbrev Nt:Prop:=OkC Tryz.prog 39 Xn
theorem Nz (h:∀ (x:Int),(0<=x/\x<16777216)->ZU x):OkC Tryz.prog 39 Xn :=
 QB Q9e mixed (C:=Yd) (V:=λ(d:Int)=>ZU d) ⟨.nil,XsOk.nil,ItsOk.nil,YlOk.nil,IysOk.nil,XfOk.nil⟩ (ND) λd hp=>h d hp
theorem Nc:Nt:=Nz λx h=>by
 obtain⟨h1,h2⟩:=h;obtain⟨n,rfl⟩:=zu h1;unfold ZU;(try delta lI gD sT I64 Q2 pj8 pj4);have hn:n<16777216:=by omega
 obtain⟨a1,a2⟩:=opA (y:=n) (by omega);obtain⟨b1,b2⟩:=opB (y:=swA n) (by omega);obtain⟨c1,c2,c3⟩:=opC (y:=swB (swA n)) (by omega);obtain⟨d1,d2⟩:=opS (y:=swC (swB (swA n))) (k:=8) (by omega);obtain⟨e1,e2⟩:=opS (y:=swD (swC (swB (swA n)))) (k:=16) (by omega);obtain⟨f1,f2⟩:=opS (y:=swE (swD (swC (swB (swA n))))) (k:=32) (by omega);have d0:swD (swC (swB (swA n)))=swC (swB (swA n))+swC (swB (swA n)) >>> 8:=rfl;have e0:swE (swD (swC (swB (swA n))))=swD (swC (swB (swA n)))+swD (swC (swB (swA n))) >>> 16:=rfl;have f0:swF (swE (swD (swC (swB (swA n)))))=swE (swD (swC (swB (swA n))))+swE (swD (swC (swB (swA n)))) >>> 32:=rfl;rw[<-d0] at d1 d2;rw[<-e0] at e1 e2;rw[<-f0] at f1 f2;have g1:=CW (x:=swF (swE (swD (swC (swB (swA n)))))) (y:=127) (by omega) (by omega);have g2:=Z2l hn;unfold swN at g2;have u:∀ m:Nat,m<2 ^ 60->InK .u64 (m:Int):=λm hm=>by rw[S5];omega
 have i:∀ m:Nat,m<2 ^ 60->InK .i64 (m:Int):=λm hm=>by rw[QD];omega
 have d1:((swC (swB (swA n)):Nat):Int)+Q9 .u64 ((swC (swB (swA n)):Nat):Int) 8=((swD (swC (swB (swA n))):Nat):Int):=d1;have e1:((swD (swC (swB (swA n))):Nat):Int)+Q9 .u64 ((swD (swC (swB (swA n))):Nat):Int) 16=((swE (swD (swC (swB (swA n)))):Nat):Int):=e1;have f1:((swE (swD (swC (swB (swA n)))):Nat):Int)+Q9 .u64 ((swE (swD (swC (swB (swA n)))):Nat):Int) 32=((swF (swE (swD (swC (swB (swA n))))):Nat):Int):=f1;have g1:Q1 .and .i64 ((swF (swE (swD (swC (swB (swA n))))):Nat):Int) 127=_:=g1;rw[a1,b1,c1,c3,d1,e1,f1,g1,g2];have hC:swB (swA n) >>> 4+swB (swA n)<2 ^ 60:=by have:=RV (swB (swA n)) 4;omega
 repeat' (first|with_reducible exact u _ (by omega)|with_reducible exact i _ (by omega)|with_reducible exact u _ hC|exact trivial|omega|(rw[zg];done)|with_reducible refine And.intro ?_ ?_)
def YW:AL (Int):=(.one (.k (.i .u64)))
def M7 (d:Int):Prop:=0<=d/\d<16777216
def YE (d:Int):SV:=.val (.i .i64) ((pcN 24 d.toNat:Nat):Int)
def Yp (d:Int):List OB:=[]
def W5:CSp:=XU YW M7 YE Yp
def JI (x:Int):Prop :=
 (false=true ->
  (InK .u32 x)/\(False)/\((0:Int)=((pcN 24 x.toNat:Nat):Int)/\(True))) /\
 (false=false ->
  (0<=x/\x<16777216)/\(((pcN 24 x.toNat:Nat):Int)=((pcN 24 x.toNat:Nat):Int)/\(True)))
def YV:Cx:=⟨[],[(38,Yk),(39,Xn)],8,[],0,[],[],[],[],false,[],[],[],[]⟩
def MF (x:Int):List (Nat×LoopAnn):=[]
theorem Ms (d:Int):gwp (YV) (MF d) c21 0 (YI [.tmp 2] (YE d) (Yp d)) (Qv 8 (AL.can YW d))=JI d:=by kernel_rfl
abbrev Mt:Prop:=OkC Tryz.prog 21 W5
theorem Mw (h:∀ (x:Int),(0<=x/\x<16777216)->JI x):OkC Tryz.prog 21 W5 :=
 QB Z2d mixed (C:=YV) (V:=λ(d:Int)=>JI d) ⟨(.cons N5 (.cons Nc .nil)),XsOk.nil,ItsOk.nil,YlOk.nil,IysOk.nil,XfOk.nil⟩ (Ms) λd hp=>h d hp
theorem MH:Mt:=Mw λx h=>by unfold JI;(try delta lI gD sT I64 Q2 pj8 pj4);refine⟨(λc=>by cases c),λ_=>⟨h,?_⟩⟩;exact(by and_intros<;>first|rfl|trivial|simp)
def B4:AL (List (Int×List Int)):=(.one (.k (.list (.pair (.i .i64) (.list (.i .i64))))))
def Si (d:List (Int×List Int)):Prop:=d.length<=1000/\∀ x∈d,x.2.length<=1000000
def Gh (d:List (Int×List Int)):SV:=.val (.i .i64) (V7 d)
def G4 (d:List (Int×List Int)):List OB:=[]
def NN:CSp:=XU B4 Si Gh G4
def Kj (ds:List (Int×List Int)):Prop :=
 ∃ (e2:Unit) (d20:Int),((ds=ds/\(lI ds)=(lI ds)/\(0:Int)=d20/\True)/\(True)) /\
 LoopP (λ(d2:Int) (q2:(Int)->Prop) =>
  ((decide (d2<(lI ds)))=true ->
   (0<=d2)/\(d2<(List.length ds))/\(((gD ds d2 (0,[])).2).length<=1000000)/\(((Qe ((gD ds d2 (0,[])).1) ((gD ds d2 (0,[])).2)) != (0:Int))=true ->
    ((Qe ((gD ds d2 (0,[])).1) ((gD ds d2 (0,[])).2))=(V7 ds)/\(True))) /\
   (((Qe ((gD ds d2 (0,[])).1) ((gD ds d2 (0,[])).2)) != (0:Int))=false ->
    (I64 (d2+(1:Int)))/\(∃ d3:Int,((ds=ds/\(lI ds)=(lI ds)/\(d2+(1:Int))=d3/\True)/\(True))/\q2 d3))) /\
  ((decide (d2<(lI ds)))=false ->
   ((0:Int)=(V7 ds)/\(True)))) d20
def B6:Cx:=⟨[],[(35,Yl)],18,[],0,[],[],[],[],false,[],[],[],[]⟩
def Lt (ds:List (Int×List Int)):List (Nat×LoopAnn):=[(0,⟨Unit,Int,[6,7,8],λe x=>[.val (.list (.pair (.i .i64) (.list (.i .i64)))) ds,.val (.i .i64) (((List.length ds):Nat):Int),.val (.i .i64) x],λe x=>[]⟩)]
theorem LC (d:List (Int×List Int)):gwp (B6) (Lt d) c18 0 (YI [.tmp 2] (Gh d) (G4 d)) (Qv 18 (AL.can B4 d))=Kj d:=by kernel_rfl
abbrev Lr:Prop:=OkC Tryz.prog 18 NN
theorem Lj (h:∀ (ds:List (Int×List Int)),(ds.length<=1000/\∀ x∈ds,x.2.length<=1000000)->Kj ds):OkC Tryz.prog 18 NN :=
 QB Q9x mixed (C:=B6) (V:=λ(d:List (Int×List Int))=>Kj d) ⟨(.cons UU .nil),XsOk.nil,ItsOk.nil,YlOk.nil,IysOk.nil,XfOk.nil⟩ (LC) λd hp=>h d hp
theorem LK:Lr:=Lj λds h=>by
 obtain⟨h1,h2⟩:=h;unfold Kj;(try delta lI gD sT I64 Q2 pj8 pj4)
 (try simp only[zf,zy])
 refine⟨(),0,(by and_intros<;>first|rfl|trivial|simp),?_⟩;refine LoopP.count ds.length (λk=>∀ i (hi:i<ds.length),i<k->Qe ds[i].1 ds[i].2=0) (λi _ hi=>by omega) λk hk hJ q hq=>?_;simp only[zg,QD];refine⟨λal=>?_,λbI=>?_⟩
 .have qw:k<ds.length:=by omega
  rw[Qj qw];refine⟨by omega,by omega,h2 _ (zk qw),λhx=>?_,λhx=>⟨by omega,_,(by and_intros<;>first|rfl|trivial|simp),hq (by omega) λi cE hi=>?_⟩⟩
  .have hx:Qe ds[k].1 ds[k].2≠0:=by simpa using hx
   have:ds.find? (λd=>decide (Qe d.1 d.2≠0))=some ds[k]:=by rw[List.find?_eq_some_iff_getElem];refine⟨by simpa using hx,k,qw,rfl,λj hj=>?_⟩;simpa using hJ j (by omega) hj
   refine⟨?_,trivial⟩;unfold V7;rw[this]
  .rcases Nat.lt_succ_iff_lt_or_eq.1 hi with hi|rfl
   .exact hJ i cE hi
   .simpa using hx
 .have hk:k=ds.length:=by omega
  subst hk;have:ds.find? (λd=>decide (Qe d.1 d.2≠0))=none:=by rw[List.find?_eq_none];intro d hd;obtain⟨i,hi,rfl⟩:=List.getElem_of_mem hd;simpa using hJ i hi hi
  refine⟨?_,trivial⟩;unfold V7;rw[this]
def GV:AL ((Int×List Int)×Int×List Int):=(.cons (.agg (.cons (.k (.i .i64)) (.one (.k (.list (.i .i64)))))) (.one (.agg (.cons (.k (.i .i64)) (.one (.k (.list (.i .i64))))))))
def To (d:(Int×List Int)×Int×List Int):Prop:=True
def Mg (d:(Int×List Int)×Int×List Int):SV:=.val .bo (decide (d.1.1=d.2.1)&&decide (d.1.2.length=d.2.2.length))
def Mo (d:(Int×List Int)×Int×List Int):List OB:=[]
def UY:CSp:=XU GV To Mg Mo
def YG (hd:Int) (rows:List Int) (hd1:Int) (af:List Int):Prop :=
 (((hd==hd1)&&((lI rows)==(lI af)))=(decide (hd=hd1)&&decide (rows.length=af.length))/\(True))
def MQ:Cx:=⟨[],[],19,[],0,[],[],[],[],false,[],[],[],[]⟩
def Rb (hd:Int) (rows:List Int) (hd1:Int) (af:List Int):List (Nat×LoopAnn):=[]
theorem SJ (d:(Int×List Int)×Int×List Int):gwp (MQ) (Rb d.1.1 d.1.2 d.2.1 d.2.2) c19 0 (YI [.tmp 4] (Mg d) (Mo d)) (Qv 19 (AL.can GV d))=YG d.1.1 d.1.2 d.2.1 d.2.2:=by kernel_rfl
abbrev Sj:Prop:=OkC Tryz.prog 19 UY
theorem R1 (h:∀ (hd:Int) (rows:List Int) (hd1:Int) (af:List Int),(True)->YG hd rows hd1 af):OkC Tryz.prog 19 UY :=
 QB Z1d mixed (C:=MQ) (V:=λ(d:(Int×List Int)×Int×List Int)=>YG d.1.1 d.1.2 d.2.1 d.2.2) ⟨.nil,XsOk.nil,ItsOk.nil,YlOk.nil,IysOk.nil,XfOk.nil⟩ (SJ) λd hp=>h d.1.1 d.1.2 d.2.1 d.2.2 hp
theorem R0:Sj:=R1 λhd rows hd1 af _=>by
 unfold YG;(try delta lI gD sT I64 Q2 pj8 pj4);have e1:(hd==hd1)=decide (hd=hd1):=by rw[Bool.eq_iff_iff];simp
 have e2:((rows.length:Int)==af.length)=decide (rows.length=af.length):=by rw[Bool.eq_iff_iff];simp;omega
 rw[e1,e2];exact(by and_intros<;>first|rfl|trivial|simp)
def GZ:AL ((Int×List Int)×Int×List Int):=(.cons (.agg (.cons (.k (.i .i64)) (.one (.k (.list (.i .i64)))))) (.one (.agg (.cons (.k (.i .i64)) (.one (.k (.list (.i .i64))))))))
def Tw (d:(Int×List Int)×Int×List Int):Prop:=d.1.2.length<=1000/\d.2.2.length<=1000
def Mf (d:(Int×List Int)×Int×List Int):SV:=.tup [.val (.i .i64) ((Ud d.1.1 d.1.2 d.2.1 d.2.2).1),.val (.i .i64) ((Ud d.1.1 d.1.2 d.2.1 d.2.2).2.1),.val (.i .i64) ((Ud d.1.1 d.1.2 d.2.1 d.2.2).2.2),.val (.i .i64) (Wt d.1.1 d.1.2 d.2.1 d.2.2)]
def Me (d:(Int×List Int)×Int×List Int):List OB:=[]
def UN:CSp:=XU GZ Tw Mf Me
def Yr (hd:Int) (rows:List Int) (hd1:Int) (af:List Int):Prop :=
 ([(hd,rows),(hd1,af)].length<=1000/\∀ x∈[(hd,rows),(hd1,af)],x.2.length<=1000000)/\(((V7 [(hd,rows),(hd1,af)]) != (0:Int))=true ->
  (((0:Int)=((Ud hd rows hd1 af).1)/\(0:Int)=((Ud hd rows hd1 af).2.1)/\(0:Int)=((Ud hd rows hd1 af).2.2)/\(V7 [(hd,rows),(hd1,af)])=(Wt hd rows hd1 af)/\(([]:List SV)=[]))/\(True))) /\
 (((V7 [(hd,rows),(hd1,af)]) != (0:Int))=false ->
  (True)/\((!(decide (hd=hd1)&&decide (rows.length=af.length)))=true ->
   (((0:Int)=((Ud hd rows hd1 af).1)/\(0:Int)=((Ud hd rows hd1 af).2.1)/\(0:Int)=((Ud hd rows hd1 af).2.2)/\(4:Int)=(Wt hd rows hd1 af)/\(([]:List SV)=[]))/\(True))) /\
  ((!(decide (hd=hd1)&&decide (rows.length=af.length)))=false ->
   ∃ (e3:Unit) (d30:Int×Int×Int×Int),((True/\(0:Int)=d30.1/\(0:Int)=d30.2.1/\(0:Int)=d30.2.2.1/\rows=rows/\(lI rows)=(lI rows)/\(0:Int)=d30.2.2.2/\True)/\((hd1=hd1/\af=af/\(([]:List SV)=[]))/\True)) /\
   LoopP (λ(d3:Int×Int×Int×Int) (q3:(Int×Int×Int×Int)->Prop) =>
    ((decide (d3.2.2.2<(lI rows)))=true ->
     (0<=d3.2.2.2)/\(d3.2.2.2<(List.length rows))/\(0<=d3.2.2.2)/\(d3.2.2.2<(List.length af))/\(InK .u64 (Q1 .xor .i64 (gD rows d3.2.2.2 0) (gD af d3.2.2.2 0)))/\(((d3.1==(0:Int))&&((Q1 .xor .i64 (gD rows d3.2.2.2 0) (gD af d3.2.2.2 0)) != (0:Int)))=true ->
      (0<=(Q1 .xor .i64 (gD rows d3.2.2.2 0) (gD af d3.2.2.2 0))/\(Q1 .xor .i64 (gD rows d3.2.2.2 0) (gD af d3.2.2.2 0))<=18446744073709551615)/\(0<=(Q1 .xor .i64 (gD rows d3.2.2.2 0) (gD af d3.2.2.2 0))/\(Q1 .xor .i64 (gD rows d3.2.2.2 0) (gD af d3.2.2.2 0))<16777216)/\(I64 (d3.1+((pcN 24 (Q1 .xor .i64 (gD rows d3.2.2.2 0) (gD af d3.2.2.2 0)).toNat:Nat):Int)))/\(I64 (d3.2.2.2+(1:Int)))/\(∃ d4:Int×Int×Int×Int,((True/\(d3.1+((pcN 24 (Q1 .xor .i64 (gD rows d3.2.2.2 0) (gD af d3.2.2.2 0)).toNat:Nat):Int))=d4.1/\d3.2.2.2=d4.2.1/\((tzN (Q1 .xor .i64 (gD rows d3.2.2.2 0) (gD af d3.2.2.2 0)).toNat:Nat):Int)=d4.2.2.1/\rows=rows/\(lI rows)=(lI rows)/\(d3.2.2.2+(1:Int))=d4.2.2.2/\True)/\((hd1=hd1/\af=af/\(([]:List SV)=[]))/\True))/\q3 d4)) /\
     (((d3.1==(0:Int))&&((Q1 .xor .i64 (gD rows d3.2.2.2 0) (gD af d3.2.2.2 0)) != (0:Int)))=false ->
      (0<=(Q1 .xor .i64 (gD rows d3.2.2.2 0) (gD af d3.2.2.2 0))/\(Q1 .xor .i64 (gD rows d3.2.2.2 0) (gD af d3.2.2.2 0))<16777216)/\(I64 (d3.1+((pcN 24 (Q1 .xor .i64 (gD rows d3.2.2.2 0) (gD af d3.2.2.2 0)).toNat:Nat):Int)))/\(I64 (d3.2.2.2+(1:Int)))/\(∃ d5:Int×Int×Int×Int,((True/\(d3.1+((pcN 24 (Q1 .xor .i64 (gD rows d3.2.2.2 0) (gD af d3.2.2.2 0)).toNat:Nat):Int))=d5.1/\d3.2.1=d5.2.1/\d3.2.2.1=d5.2.2.1/\rows=rows/\(lI rows)=(lI rows)/\(d3.2.2.2+(1:Int))=d5.2.2.2/\True)/\((hd1=hd1/\af=af/\(([]:List SV)=[]))/\True))/\q3 d5))) /\
    ((decide (d3.2.2.2<(lI rows)))=false ->
     ((d3.1=((Ud hd rows hd1 af).1)/\d3.2.1=((Ud hd rows hd1 af).2.1)/\d3.2.2.1=((Ud hd rows hd1 af).2.2)/\(0:Int)=(Wt hd rows hd1 af)/\(([]:List SV)=[]))/\(True)))) d30))
def Gv:Cx:=⟨[(31,(.pair (.i .i64) (.list (.i .i64))))],[(18,NN),(19,UY),(20,X5),(21,W5)],58,[14],0,[],[],[],[],false,[],[],[],[]⟩
def RE (hd:Int) (rows:List Int) (hd1:Int) (af:List Int):List (Nat×LoopAnn):=[(1,⟨Unit,Int×Int×Int×Int,[3,4,5,6,26,27,28],λe x=>[.box 3 0,.val (.i .i64) x.1,.val (.i .i64) x.2.1,.val (.i .i64) x.2.2.1,.val (.list (.i .i64)) rows,.val (.i .i64) (((List.length rows):Nat):Int),.val (.i .i64) x.2.2.2],λe x=>[(3,.slot 3,.cells [.val (.i .i64) hd1,.val (.list (.i .i64)) af] (some 31))]⟩)]
theorem RD (d:(Int×List Int)×Int×List Int):gwp (Gv) (RE d.1.1 d.1.2 d.2.1 d.2.2) c6 0 (YI [.tmp 4,.tmp 5,.tmp 6,.tmp 7] (Mf d) (Me d)) (Qv 58 (AL.can GZ d))=Yr d.1.1 d.1.2 d.2.1 d.2.2:=by kernel_rfl
abbrev S0:Prop:=OkC Tryz.prog 6 UN
theorem Sk (h:∀ (hd:Int) (rows:List Int) (hd1:Int) (af:List Int),(rows.length<=1000/\af.length<=1000)->Yr hd rows hd1 af):OkC Tryz.prog 6 UN :=
 QB Z59 mixed (C:=Gv) (V:=λ(d:(Int×List Int)×Int×List Int)=>Yr d.1.1 d.1.2 d.2.1 d.2.2) ⟨(.cons LK (.cons R0 (.cons Ui (.cons MH .nil)))),XsOk.nil,ItsOk.nil,YlOk.nil,IysOk.nil,XfOk.nil⟩ (RD) λd hp=>h d.1.1 d.1.2 d.2.1 d.2.2 hp
theorem Q46 {hd:Int}{rows af:List Int}{k:Nat}(p1:1<=hd/\hd<=24) (h1:∀ x∈rows,0<=x/\x<2 ^ hd.toNat) (h2:∀ x∈af,0<=x/\x<2 ^ hd.toNat) (k1:k<rows.length) (k2:k<af.length):Q1 .xor .i64 (rows.getD k 0) (af.getD k 0)=((SO rows af k:Nat):Int)/\SO rows af k<16777216:=by
 have a:=h1 _ (Xc k1);have b:=h2 _ (Xc k2);have hp:=Ng p1.1 p1.2;have hx:((rows.getD k 0).toNat:Int)=rows.getD k 0:=by omega
 have hy:((af.getD k 0).toNat:Int)=af.getD k 0:=by omega
 refine⟨?_,?_⟩
 .have:=Q55 (x:=(rows.getD k 0).toNat) (y:=(af.getD k 0).toNat) (by omega) (by omega);rw[hx,hy] at this;exact this
 .exact Nat.xor_lt_two_pow (n:=24) (by omega) (by omega)
theorem RZ:S0:=Sk λhd rows hd1 af h=>by
 obtain⟨h1,h2⟩:=h;unfold Yr;(try delta lI gD sT I64 Q2 pj8 pj4);refine⟨⟨by simp,λd hd=>?_⟩,λhe=>?_,λhe=>⟨trivial,λhl=>?_,λhl=>?_⟩⟩
 .rcases zG.1 hd with rfl|hd
  .dsimp only;omega
  .rw[x6.1 hd];dsimp only;omega
 .have he:V7 [(hd,rows),(hd1,af)]≠0:=by simpa using he
  have e:Wt hd rows hd1 af=V7 [(hd,rows),(hd1,af)]:=by unfold Wt;rw[z7 he]
  have e2:Ud hd rows hd1 af=(0,0,0):=by unfold Ud;rw[z6 (by rw[e];exact he)]
  rw[e2,e];exact(by and_intros<;>first|rfl|trivial|simp)
 .have he:V7 [(hd,rows),(hd1,af)]=0:=by simpa using he
  have hl:(decide (hd=hd1)&&decide (rows.length=af.length))=false:=Eq.mp (Bool.not_eq_true' _) hl;have e:Wt hd rows hd1 af=4:=by unfold Wt;rw[z6 (by omega),z7 hl]
  have e2:Ud hd rows hd1 af=(0,0,0):=by unfold Ud;rw[z6 (by omega)]
  rw[e2,e];exact(by and_intros<;>first|rfl|trivial|simp)
 .have he:V7 [(hd,rows),(hd1,af)]=0:=by simpa using he
  have hl:(decide (hd=hd1)&&decide (rows.length=af.length))=true:=Eq.mp (xl _) hl;have e:Wt hd rows hd1 af=0:=by unfold Wt;rw[z6 (by omega),z6 (by rw[hl];decide)]
  have e2:Ud hd rows hd1 af=MO rows af rows.length:=by unfold Ud;rw[z7 e]
  rw[z1,zf,zf] at hl;obtain⟨rfl,uH⟩:=hl;rw[Cy] at he;have a1:Qe hd rows=0:=by
   by_cases a1:Qe hd rows=0
   .exact a1
   .simp[a1] at he
  have a2:Qe hd af=0:=by simpa [a1] using he
  obtain⟨p1,p2,p3,p4,p5⟩:=NM a1;obtain⟨r1,r2,r3,r4,r5⟩:=NM a2;rw[e2,e];refine⟨(),(0,0,0,0),(by and_intros<;>first|rfl|trivial|simp),?_⟩;refine⟨λd=>∃ k:Nat,k<=rows.length/\d=((MO rows af k).1,(MO rows af k).2.1,(MO rows af k).2.2,(k:Int)),λd=>rows.length-d.2.2.2.toNat,⟨0,by omega,rfl⟩,?_⟩;rintro _ ⟨k,hk,rfl⟩;dsimp only;simp only[zg];refine⟨λal=>?_,λbI=>?_⟩
  .have al:k<rows.length:=by have:=x_ al;omega
   obtain⟨w1,w2⟩:=Q46 ⟨p1,p2⟩ p5 r5 al (by omega);rw[w1];have hb:=Q2z rows af k;have vH:=Q6e 24 (SO rows af k);have bk:MO rows af (k+1)=if ((MO rows af k).1==0&&(SO rows af k != 0))=true then ((MO rows af k).1+(pcN 24 (SO rows af k):Int),(k:Int),(tzN (SO rows af k):Int)) else ((MO rows af k).1+(pcN 24 (SO rows af k):Int),(MO rows af k).2.1,(MO rows af k).2.2):=rfl
   have hc:(((SO rows af k:Nat):Int) != 0)=(SO rows af k != 0):=by rw[Bool.eq_iff_iff];simp
   rw[hc];simp only[zg];have fin:∃ k':Nat,k'<=rows.length/\((MO rows af (k+1)).1,(MO rows af (k+1)).2.1,(MO rows af (k+1)).2.2,(k:Int)+1)=((MO rows af k').1,(MO rows af k').2.1,(MO rows af k').2.2,(k':Int)):=⟨k+1,al,rfl⟩;refine⟨by omega,by omega,by omega,by omega,by rw[S5];omega,λc=>?_,λc=>?_⟩
   .rw[z7 c] at bk;refine⟨⟨by omega,by omega⟩,⟨by omega,by omega⟩,by rw[QD];omega,by rw[QD];omega,_,?_,fin,by dsimp only;omega⟩;rw[bk];exact(by and_intros<;>first|rfl|trivial|simp)
   .rw[z6 (by rw[c];decide)] at bk;refine⟨⟨by omega,by omega⟩,by rw[QD];omega,by rw[QD];omega,_,?_,fin,by dsimp only;omega⟩;rw[bk];exact(by and_intros<;>first|rfl|trivial|simp)
  .have:k=rows.length:=by have:=of_decide_eq_false bI;omega
   subst this;exact(by and_intros<;>first|rfl|trivial|simp)
theorem Q8k:∀ h:Nat,h<24->pcN 24 (2 ^ h)=1/\tzN (2 ^ h)=h:=by decide +kernel
theorem IH {rows nT:List Int}{p h:Nat}(hO:∀ k,SO rows nT k=if k=p then 2 ^ h else 0) (hh:h<24):∀ k,MO rows nT k=if k<=p then (0,0,0) else (1,(p:Int),(h:Int))
 |0=>by simp[MO]
 |k+1=>by
  obtain⟨h1,h2⟩:=Q8k h hh;have h0:pcN 24 0=0:=by decide +kernel
  have hp:2 ^ h≠0:=Nat.ne_of_gt (Nat.two_pow_pos h);unfold MO;rw[IH hO hh k,hO k];rcases Nat.lt_trichotomy k p with hk|hk|hk
  .simp[show k<=p by omega,show ¬ k=p by omega,show k+1<=p by omega,h0]
  .subst hk;simp[h1,h2]
  .simp[show ¬ k<=p by omega,show ¬ k=p by omega,show ¬ k+1<=p by omega,h0]
theorem Q4y {rows:List Int}{p h:Nat}(hp:p<rows.length) (k:Nat):SO rows (rows.set p (((rows.getD p 0).toNat ^^^ 2 ^ h:Nat):Int)) k=if k=p then 2 ^ h else 0:=by
 unfold SO;split
 .rename_i e;subst e;rw[Qj (l:=rows.set _ _) (by simpa using hp),List.getElem_set_self,zg,<-Nat.xor_assoc,Nat.xor_self,Nat.zero_xor]
 .rename_i e;have:(rows.set p (((rows.getD p 0).toNat ^^^ 2 ^ h:Nat):Int)).getD k 0=rows.getD k 0:=by
   rw[ze,List.getElem?_set_ne (λh=>e h.symm),<-ze]
  rw[this,Nat.xor_self]
end Go.Proofs.Tryz
namespace Go.Proofs
open Go.Shelf
def Tryz.q1u:Go.Shelf.Ren:=⟨fun|160=>75|232=>101|231=>100|227=>102|234=>104|233=>103|236=>106|235=>105|228=>115|271=>118|151=>117|197=>116|120=>123|152=>122|260=>121|137=>124|119=>125|224=>126|225=>127|217=>128|266=>129|n=>n,fun|9=>9|4=>4|3=>3|5=>5|117=>174|116=>173|0=>0|124=>177|21=>21|105=>189|46=>39|119=>195|139=>198|138=>197|n=>n,fun|3=>2|4=>3|n=>n⟩
theorem Tryz.lays160:Go.Proofs.Lays.n160 Tryz.prog Tryz.q1u:={
 mixed:=by kernel_rfl
 f119:=Tryz.func125.trans (congrArg some (by kernel_rfl))
 f120:=Tryz.func123.trans (congrArg some (by kernel_rfl))
 f137:=Tryz.func124.trans (congrArg some (by kernel_rfl))
 f151:=Tryz.func117.trans (congrArg some (by kernel_rfl))
 f152:=Tryz.func122.trans (congrArg some (by kernel_rfl))
 f160:=Tryz.func75.trans (congrArg some (by kernel_rfl))
 f197:=Tryz.func116.trans (congrArg some (by kernel_rfl))
 f217:=Tryz.func128.trans (congrArg some (by kernel_rfl))
 f224:=Tryz.func126.trans (congrArg some (by kernel_rfl))
 f225:=Tryz.func127.trans (congrArg some (by kernel_rfl))
 f227:=Tryz.func102.trans (congrArg some (by kernel_rfl))
 f228:=Tryz.func115.trans (congrArg some (by kernel_rfl))
 f231:=Tryz.func100.trans (congrArg some (by kernel_rfl))
 f232:=Tryz.func101.trans (congrArg some (by kernel_rfl))
 f233:=Tryz.func103.trans (congrArg some (by kernel_rfl))
 f234:=Tryz.func104.trans (congrArg some (by kernel_rfl))
 f235:=Tryz.func105.trans (congrArg some (by kernel_rfl))
 f236:=Tryz.func106.trans (congrArg some (by kernel_rfl))
 f260:=Tryz.func121.trans (congrArg some (by kernel_rfl))
 f266:=Tryz.func129.trans (congrArg some (by kernel_rfl))
 f271:=Tryz.func118.trans (congrArg some (by kernel_rfl))
 t0:=Tryz.underlying0
 a0:=Tryz.isAgg0
 z0:=Tryz.sizeOf0
 v0:=Tryz.zeroValue0
 t3:=Tryz.underlying3
 a3:=Tryz.isAgg3
 z3:=Tryz.sizeOf3
 v3:=Tryz.zeroValue3
 t4:=Tryz.underlying4
 a4:=Tryz.isAgg4
 z4:=Tryz.sizeOf4
 v4:=Tryz.zeroValue4
 t5:=Tryz.underlying5
 a5:=Tryz.isAgg5
 z5:=Tryz.sizeOf5
 v5:=Tryz.zeroValue5
 t9:=Tryz.underlying9
 a9:=Tryz.isAgg9
 z9:=Tryz.sizeOf9
 v9:=Tryz.zeroValue9
 t21:=Tryz.underlying21
 a21:=Tryz.isAgg21
 z21:=Tryz.sizeOf21
 v21:=Tryz.zeroValue21
 t46:=Tryz.underlying39
 a46:=Tryz.isAgg39
 z46:=Tryz.sizeOf39
 v46:=Tryz.zeroValue39
 t105:=Tryz.underlying189
 a105:=Tryz.isAgg189
 z105:=Tryz.sizeOf189
 v105:=Tryz.zeroValue189
 t116:=Tryz.underlying173
 a116:=Tryz.isAgg173
 z116:=Tryz.sizeOf173
 t117:=Tryz.underlying174
 a117:=Tryz.isAgg174
 z117:=Tryz.sizeOf174
 v117:=Tryz.zeroValue174
 t119:=Tryz.underlying195
 a119:=Tryz.isAgg195
 z119:=Tryz.sizeOf195
 t124:=Tryz.underlying177
 a124:=Tryz.isAgg177
 z124:=Tryz.sizeOf177
 v124:=Tryz.zeroValue177
 t138:=Tryz.underlying197
 a138:=Tryz.isAgg197
 z138:=Tryz.sizeOf197
 v138:=Tryz.zeroValue197
 t139:=Tryz.underlying198
 a139:=Tryz.isAgg198
 z139:=Tryz.sizeOf198
 v139:=Tryz.zeroValue198
 g3:=by kernel_rfl
 g4:=by kernel_rfl}
end Go.Proofs
namespace Go.V
open Go
theorem Q4u {P:Program}{U:Heap}:Ret P U (.val .bo true) [] (.bool true) U :=
 ⟨⟨.refl _,Dead.refl _⟩,λ_=>rfl,WB,λj b hj=>by simp at hj,λj j' i hj=>by simp at hj,by simp[SR,KC]⟩
theorem AB {P:Program}{f:Nat}(h:∀ (U:Heap) (K:Value->Heap->Prop),K (.bool true) U->VCalled P f [] U K):OkC P f (XU (.nil:AL Unit) (λ_=>True) (λ_=>.val .bo true) (λ_=>[])):=by
 intro ap dA U args vs c v bs av hs hv bL hc;unfold XU at hs;split at hs
 .rename_i d hd;obtain⟨rfl,rfl,rfl⟩:=(by simpa using hs:True=c/\SV.val .bo true=v/\[]=bs);have:vs=[]:=by
   cases args with
   |nil=>simpa [SRs] using av
   |cons a l=>simp[AL.dec] at hd
  subst this;refine⟨h U _ Q4u,λ_ _=>h U _ ⟨rfl,?_⟩⟩;unfold Tp;cases U;simp only[List.length_nil,zM,List.getElem?_nil,wo,Heap.mk.injEq,and_true];funext i;split
  .rfl
  .rename_i wf hi;exact wf i (by simpa using hi)
 .cases hs
end Go.V
namespace Go.V
open Go Go.RowKit
theorem VCalled.q2c {P:Program}{f:FuncId}{args:List Value}{v:Value}{U:Heap}{K:Value->Heap->Prop}(he:Xz P f) (ha:args.all Zd=true) (hv:Zd v=true)
  (h:∀ w,Calls P f args.toArray w λe w'=>e=.returned v/\Below w.heap.size w w') (hK:K v U):VCalled P f args U K:=by
 intro ρ w aw hH hL;have hc:aw=args.toArray:=by
  apply Array.ext';apply zI;intro i;cases hi:aw.toList[i]? with
  |none =>have:=List.getElem?_eq_none_iff.1 hi;rw[<-hL.1] at this;rw[zz (by simpa using this)]
  |some c =>have al:=(zm.1 hi).1;rw[<-hL.1] at al;have h1:=hL.2 i args[i] c (z8 al) hi;rw[Ki (zh.1 ha _ (zk al)) h1];simp[z8 al]
 subst hc;refine .inl ⟨λw=>UC he _ w,(h w).mono λe w' ⟨he,hb⟩=>⟨v,he,v,ρ,U,hK,WN hv,hH.world hb.size (λi p hp=>hb.block _ (hH.lt i p hp)) (λg cs hg=>hb.block _ (hH.tab.lt hg)),?_⟩⟩;exact⟨hb.os,hb.tape,hb.output,hb.size,λB hB _=>hb.block B hB,λ_ _ h=>h,zd _,λ_ _ _ h=>h⟩
theorem Q24 {P:Program}{U:Heap}{v:SV}{u:Value}(h:SR P hNil WB XC v u):Ret P U v [] u U :=
 ⟨⟨.refl _,Dead.refl _⟩,λ_=>rfl,WB,λj b hj=>by simp at hj,λj j' i hj=>by simp at hj,h⟩
theorem Q4i (U:Heap):Tp U []=U:=by
 unfold Tp;cases U;simp only[List.length_nil,zM,List.getElem?_nil,wo,Heap.mk.injEq,and_true];funext i;split
 .rfl
 .rename_i wf hi;exact(wf i (by simpa using hi)).symm
theorem Q4w {P:Program}{f:Nat}{pre:List UInt8×List UInt8->Prop}{res:List UInt8×List UInt8->List UInt8}(he:Xz P f)
  (h:∀ a b,pre (a,b)->∀ w,Calls P f #[.string ⟨a.toArray⟩,.string ⟨b.toArray⟩] w λe w'=>e=.returned (.string ⟨(res (a,b)).toArray⟩)/\Below w.heap.size w w') :
  OkC P f (XU (.cons (.k .st) (.one (.k .st))) pre (λd=>.val .st (res d)) (λ_=>[])):=by
 intro ap dA U args vs c v bs av hs hv bL hc;unfold XU at hs;split at hs
 .rename_i d hd;obtain⟨rfl,rfl,rfl⟩:=(by simpa using hs:pre d=c/\SV.val .st (res d)=v/\[]=bs)
  match args,av,hd with
  |[],_,hd=>simp[AL.dec] at hd
  |[a],_,hd=>simp[AL.dec] at hd
  |a::b::x::l,_,hd=>simp[AL.dec] at hd
  |[a,b],av,hd =>
   simp only[AL.dec] at hd;split at hd
   .rename_i x y hx hy;obtain rfl:=osj hd;obtain⟨u1,nS,rfl,s1,av⟩:=av;obtain⟨u2,iA,rfl,s2,av⟩:=av;have av:iA=[]:=av;subst av;have k1:KC U .st x [u1]:=QT (k:=.st) hx ⟨u1,[],rfl,s1,rfl⟩;have k2:KC U .st y [u2]:=QT (k:=.st) hy ⟨u2,[],rfl,s2,rfl⟩;have e1:u1=.string ⟨x.toArray⟩:=by simpa [KC] using k1
    have e2:u2=.string ⟨y.toArray⟩:=by simpa [KC] using k2
    subst e1;subst e2;have aC:∀ K:Value->Heap->Prop,K (.string ⟨(res (x,y)).toArray⟩) U->VCalled P f [.string ⟨x.toArray⟩,.string ⟨y.toArray⟩] U K:=λK hK =>
     VCalled.q2c he rfl rfl (h x y hc) hK
    refine⟨aC _ (Q24 (by simp[SR,KC])),λ_ _=>aC _ ⟨?_,(Q4i U).symm⟩⟩;simp[UH,Av]
   .cases hd
 .cases hs
end Go.V
namespace Go.Proofs.Tryz
open Go Go.V Go.Proofs
def SF:AL (List UInt8×List UInt8):=(.cons (.k .st) (.one (.k .st)))
def Tc (d:List UInt8×List UInt8):Prop:=d.1.length<=1000000/\(d.2:List UInt8).length<=1000/\(d.2:List UInt8).all (λb=>decide (b.toNat<128))=true
def Tx (d:List UInt8×List UInt8):SV:=.val .st (Lib.trimS d.1 d.2)
def Te (d:List UInt8×List UInt8):List OB:=[]
def Be:CSp:=XU SF Tc Tx Te
abbrev S4:Prop:=OkC Tryz.prog 75 Be
theorem Rq:S4:=Q4w fun75.enterable λa b h w=>by obtain⟨h1,h2,h3⟩:=h;dsimp only at h1 h2 h3;exact Any.strings_Trim_laid Tryz.lays160 (by kernel_rfl) ⟨a.toArray⟩ ⟨b.toArray⟩ w (by show a.toArray.size<=_;simp;omega) (by show b.toArray.size<_;simp;omega) (ascii_of_all h3)
def JV:AL (List (List UInt8)×((List UInt8->Prop)×(List UInt8->Bool))):=(.cons (.k (.list .st)) (.one (.fn [.st] .bo)))
def Yg (d:List (List UInt8)×((List UInt8->Prop)×(List UInt8->Bool))):Prop:=d.1.length<=1000000/\∀ x∈d.1,d.2.1 x
def JJ (d:List (List UInt8)×((List UInt8->Prop)×(List UInt8->Bool))):SV:=.val (.i .i64) (FV d.1 d.2.2)
def JK (d:List (List UInt8)×((List UInt8->Prop)×(List UInt8->Bool))):List OB:=[]
def Zm:CSp:=XU JV Yg JJ JK
def QP (l:List (List UInt8)) (p:(List UInt8->Prop)×(List UInt8->Bool)):Prop :=
 ∃ (e2:Unit) (d20:Int),((l=l/\(SV.pf [.st] .bo p.1 p.2=SV.pf [.st] .bo p.1 p.2)/\(lI l)=(lI l)/\(0:Int)=d20/\True)/\(True)) /\
 LoopP (λ(d2:Int) (q2:(Int)->Prop) =>
  ((decide (d2<(lI l)))=true ->
   (0<=d2)/\(d2<(List.length l))/\(p.1 (gD l d2 []))/\((p.2 (gD l d2 []))=true ->
    (d2=(FV l p.2)/\(True))) /\
   ((p.2 (gD l d2 []))=false ->
    (I64 (d2+(1:Int)))/\(∃ d3:Int,((l=l/\(SV.pf [.st] .bo p.1 p.2=SV.pf [.st] .bo p.1 p.2)/\(lI l)=(lI l)/\(d2+(1:Int))=d3/\True)/\(True))/\q2 d3))) /\
  ((decide (d2<(lI l)))=false ->
   ((-1:Int)=(FV l p.2)/\(True)))) d20
def JP:Cx:=⟨[],[],19,[],0,[],[],[],[],false,[],[],[],[]⟩
def Ym (l:List (List UInt8)) (p:(List UInt8->Prop)×(List UInt8->Bool)):List (Nat×LoopAnn):=[(0,⟨Unit,Int,[0,1,7,8],λe x=>[.val (.list .st) l,.pf [.st] .bo p.1 p.2,.val (.i .i64) (((List.length l):Nat):Int),.val (.i .i64) x],λe x=>[]⟩)]
theorem Yw (d:List (List UInt8)×((List UInt8->Prop)×(List UInt8->Bool))):gwp (JP) (Ym d.1 d.2) Z4n 0 (YI [.tmp 4] (JJ d) (JK d)) (Qv 19 (AL.can JV d))=QP d.1 d.2:=by kernel_rfl
abbrev YB:Prop:=OkC Tryz.prog 107 Zm
theorem YA (h:∀ (l:List (List UInt8)) (p:(List UInt8->Prop)×(List UInt8->Bool)),(l.length<=1000000/\∀ x∈l,p.1 x)->QP l p):OkC Tryz.prog 107 Zm :=
 QB Q6o mixed (C:=JP) (V:=λ(d:List (List UInt8)×((List UInt8->Prop)×(List UInt8->Bool)))=>QP d.1 d.2) ⟨.nil,XsOk.nil,ItsOk.nil,YlOk.nil,IysOk.nil,XfOk.nil⟩ (Yw) λd hp=>h d.1 d.2 hp
theorem YH:YB:=YA λl p hp=>by
 unfold QP;(try delta lI gD sT I64 Q2 pj8 pj4);simp only[true_and,and_true,exists_eq_left',exists_const,zf,zy];refine LoopP.count l.length (λk=>(l.take k).any p.2=false) (by simp) λk bD hJ q hq=>?_;simp only[zg,Int.ofNat_lt,QD];refine⟨λal=>?_,λbI=>?_⟩
 .have al:k<l.length:=by omega
  rw[Qj al];refine⟨by omega,by omega,hp.2 _ (zk al),λhx=>?_,λhx=>⟨by omega,hq al ?_⟩⟩
  .rw[ES al hx hJ]
  .rw[ZI al,List.any_append,hJ];simp[hx]
 .rw[x5 (by omega)] at hJ;rw[Rm hJ]
def Jb:AL (List (List UInt8)×((List UInt8->Prop)×(List UInt8->Bool))):=(.cons (.k (.list .st)) (.one (.fn [.st] .bo)))
def Wx (d:List (List UInt8)×((List UInt8->Prop)×(List UInt8->Bool))):Prop:=d.1.length<=1000000/\∀ x∈d.1,d.2.1 x
def J2 (d:List (List UInt8)×((List UInt8->Prop)×(List UInt8->Bool))):SV:=.val .bo (d.1.any d.2.2)
def ZY (d:List (List UInt8)×((List UInt8->Prop)×(List UInt8->Bool))):List OB:=[]
def Zh:CSp:=XU Jb Wx J2 ZY
def QC (l:List (List UInt8)) (p:(List UInt8->Prop)×(List UInt8->Bool)):Prop :=
 (l.length<=1000000/\∀ x∈l,(λ(x1:List UInt8)=>p.1 x1) x)/\((decide ((FV l (λ(x1:List UInt8)=>(p.2 x1)))>=(0:Int)))=(l.any p.2)/\(True))
def Ja:Cx:=⟨[],[(107,Zm)],9,[],0,[],[],[],[],false,[],[],[],[]⟩
def WK (l:List (List UInt8)) (p:(List UInt8->Prop)×(List UInt8->Bool)):List (Nat×LoopAnn):=[]
theorem WI (d:List (List UInt8)×((List UInt8->Prop)×(List UInt8->Bool))):gwp (Ja) (WK d.1 d.2) c76 0 (YI [.tmp 4] (J2 d) (ZY d)) (Qv 9 (AL.can Jb d))=QC d.1 d.2:=by kernel_rfl
abbrev WO:Prop:=OkC Tryz.prog 76 Zh
theorem WQ (h:∀ (l:List (List UInt8)) (p:(List UInt8->Prop)×(List UInt8->Bool)),(l.length<=1000000/\∀ x∈l,p.1 x)->QC l p):OkC Tryz.prog 76 Zh :=
 QB Z1a mixed (C:=Ja) (V:=λ(d:List (List UInt8)×((List UInt8->Prop)×(List UInt8->Bool)))=>QC d.1 d.2) ⟨(.cons YH .nil),XsOk.nil,ItsOk.nil,YlOk.nil,IysOk.nil,XfOk.nil⟩ (WI) λd hp=>h d.1 d.2 hp
theorem WV:WO:=WQ λl p hp=>by simp only[QC];exact⟨hp,Iw l p.2,trivial⟩
def U0:AL (List UInt8×Int):=(.cons (.k .st) (.one (.ptr (.one (.k (.i .i64))))))
def Dv (d:List UInt8×Int):Prop:=d.1.length<=1000000
def V5 (d:List UInt8×Int):SV:=.val .bo (decide ((d.1.length:Int)≠d.2)||!Q2t d.1)
def V0 (d:List UInt8×Int):List OB:=[]
def Yq:CSp:=XU U0 Dv V5 V0
def Xp (s:List UInt8) (n:Int):Prop :=
 (((lI s) != n)=false->s.length<=1000000/\([120,46]:List UInt8).length<=1000/\([120,46]:List UInt8).all (λb=>decide (b.toNat<128))=true)/\((((lI s) != n)||(!((Lib.trimS s [120,46])==[])))=(decide ((s.length:Int)≠n)||!Q2t s)/\(True))
def V_:Cx:=⟨[],[(75,Be)],13,[],0,[],[],[],[],false,[],[],[],[]⟩
def Bv (s:List UInt8) (n:Int):List (Nat×LoopAnn):=[]
theorem BJ (d:List UInt8×Int):gwp (V_) (Bv d.1 d.2) c74 0 (YI [.tmp 3] (V5 d) (V0 d)) (Qv 13 (AL.can U0 d))=Xp d.1 d.2:=by kernel_rfl
abbrev BB:Prop:=OkC Tryz.prog 74 Yq
theorem Bq (h:∀ (s:List UInt8) (n:Int),(s.length<=1000000)->Xp s n):OkC Tryz.prog 74 Yq :=
 QB Q9n mixed (C:=V_) (V:=λ(d:List UInt8×Int)=>Xp d.1 d.2) ⟨(.cons Rq .nil),XsOk.nil,ItsOk.nil,YlOk.nil,IysOk.nil,XfOk.nil⟩ (BJ) λd hp=>h d.1 d.2 hp
theorem Z4q (a b:UInt8):(((UInt8.toNat a:Nat):Int) != ((UInt8.toNat b:Nat):Int))=(a != b):=by rw[Bool.eq_iff_iff];simp only[bne_iff_ne,ne_eq];rw[show (((UInt8.toNat a:Nat):Int)=((UInt8.toNat b:Nat):Int))<->a=b from ⟨λh=>UInt8.toNat_inj.1 (by omega),λh=>by rw[h]⟩]
theorem Q9t (a:UInt8) (k:Nat) (b:UInt8) (hb:b.toNat=k):(((UInt8.toNat a:Nat):Int)==(k:Int))=(a==b):=by rw[Bool.eq_iff_iff];simp only[zF];rw[<-hb,show (((UInt8.toNat a:Nat):Int)=((UInt8.toNat b:Nat):Int))<->a=b from ⟨λh=>UInt8.toNat_inj.1 (by omega),λh=>by rw[h]⟩]
theorem Z6k (a:UInt8):(((UInt8.toNat a:Nat):Int)==120)=(a==120):=Q9t a 120 120 rfl
theorem CN {p:UInt8->Bool}(l:List UInt8):l.dropWhile p=[]<->∀ x∈l,p x=true:=by
 induction l with
 |nil=>simp
 |cons a l ih=>cases h:p a<;>simp[List.dropWhile,h,ih]
theorem Q5u (s:List UInt8):(Lib.trimS s [120,46]==[])=Q2t s:=by
 have hp:∀ b:UInt8,([120,46]:List UInt8).contains b=(b==120||b==46):=λb=>by rw[Bool.eq_iff_iff];simp[]
 rw[Bool.eq_iff_iff];simp only[Lib.trimS,Lib.trimLeftS,Lib.trimRightS,zF,Q2t,zh,hp];rw[CN];simp only[List.mem_reverse];constructor
 .intro h x hx;have hx:x∈s.reverse:=List.mem_reverse.2 hx;rw[<-List.takeWhile_append_dropWhile (p:=λb=>b==120||b==46) (l:=s.reverse),xw] at hx;rcases hx with hx|hx
  .exact(zh.1 List.all_takeWhile) x hx
  .exact h x hx
 .intro h x hx;exact h x (List.mem_reverse.1 ((List.dropWhile_suffix _).mem hx))
theorem BX:BB:=Bq λs n h=>by
 unfold Xp;(try delta lI gD sT I64 Q2 pj8 pj4)
 (try simp only[zf,zy])
 refine⟨λ_=>⟨h,by decide,by decide⟩,?_⟩;rw[Q5u];congr 1;rw[Bool.eq_iff_iff];simp
def Nu:AL (List (List UInt8)×Int):=(.cons (.k (.list .st)) (.one (.k (.i .i64))))
def Hp (d:List (List UInt8)×Int):Prop:=d.1.length<=1000000/\∀ s∈d.1,s.length<=1000000
def UI (d:List (List UInt8)×Int):SV:=.val (.i .i64) (JF d.1 d.2)
def UG (d:List (List UInt8)×Int):List OB:=[]
def KP:CSp:=XU Nu Hp UI UG
def Wj (c:List (List UInt8)) (n:Int):Prop :=
 ((decide ((lI c) > (60:Int)))=true ->
  ((5:Int)=(JF c n)/\(True))) /\
 ((decide ((lI c) > (60:Int)))=false ->
  (((lI c)==(0:Int))=true ->
   ((7:Int)=(JF c n)/\(True))) /\
  (((lI c)==(0:Int))=false ->
   ([n].length<=1000000)/\((!(!([n].any λn=>decide (n<(1:Int))||decide ((96:Int)<n))))=true ->
    ((!(!([n].any λn=>decide (n<(1:Int))||decide ((96:Int)<n))))=true ->
     ((4:Int)=(JF c n)/\(True))) /\
    ((!(!([n].any λn=>decide (n<(1:Int))||decide ((96:Int)<n))))=false ->
     ((0:Int)=(JF c n)/\(True)))) /\
   ((!(!([n].any λn=>decide (n<(1:Int))||decide ((96:Int)<n))))=false ->
    (c.length<=1000000/\∀ x∈c,(λ(x1:List UInt8)=>x1.length<=1000000) x)/\((c.any (λ(x1:List UInt8)=>(decide ((x1.length:Int)≠n)||!Q2t x1)))=true ->
     ((4:Int)=(JF c n)/\(True))) /\
    ((c.any (λ(x1:List UInt8)=>(decide ((x1.length:Int)≠n)||!Q2t x1)))=false ->
     ((0:Int)=(JF c n)/\(True))))))
def Nv:Cx:=⟨[(3,(.i .i64))],[(54,Ur),(76,Zh),(74,Yq)],23,[],0,[],[],[],[],false,[],[],[],[]⟩
def Pw (c:List (List UInt8)) (n:Int):List (Nat×LoopAnn):=[]
theorem Pq (d:List (List UInt8)×Int):gwp (Nv) (Pw d.1 d.2) c50 0 (YI [.tmp 4] (UI d) (UG d)) (Qv 23 (AL.can Nu d))=Wj d.1 d.2:=by kernel_rfl
abbrev HZ:Prop:=OkC Tryz.prog 50 KP
theorem Pn (h:∀ (c:List (List UInt8)) (n:Int),(c.length<=1000000/\∀ s∈c,s.length<=1000000)->Wj c n):OkC Tryz.prog 50 KP :=
 QB Z08 mixed (C:=Nv) (V:=λ(d:List (List UInt8)×Int)=>Wj d.1 d.2) ⟨(.cons H9 (.cons WV (.cons BX .nil))),XsOk.nil,ItsOk.nil,YlOk.nil,IysOk.nil,XfOk.nil⟩ (Pq) λd hp=>h d.1 d.2 hp
theorem Ac {c:List (List UInt8)}{n:Int}(h:JF c n=0):c.length<=60/\c≠[]/\1<=n/\n<=96/\∀ s∈c,(s.length:Int)=n/\Q2t s=true:=by
 unfold JF at h;split at h
 .cases h
 .rename_i h1;split at h
  .cases h
  .rename_i h2;split at h
   .cases h
   .rename_i h3;simp only[zo,not_or,Bool.not_eq_true',Bool.not_eq_false,xJ] at h3;have h4:1<=n/\n<=96:=by simpa [inI] using h3.1
    refine⟨by omega,λe=>h2 (by simp[e]),h4.1,h4.2,λs hs=>?_⟩;have:=xi.1 h3.2 s hs;simp only[zo,zf,Bool.not_eq_true',not_or,ne_eq,Decidable.not_not,Bool.not_eq_false] at this;exact this
theorem H_:HZ:=Pn λc n h=>by
 unfold Wj;(try delta lI gD sT I64 Q2 pj8 pj4)
 (try simp only[zf,zy])
 have e:([n].any λn=>decide (n<1)||decide (96<n))=!inI n 1 96:=by simp only[List.any_cons,List.any_nil,xX,<-nI]
 simp only[e,Bool.not_not];have ce:¬ 60<c.length->¬ c.length=0->JF c n=if !inI n 1 96||c.any (λs=>decide ((s.length:Int)≠n)||!Q2t s) then 4 else 0:=λh1 h2=>by unfold JF;rw[z6 h1,z6 h2]
 refine⟨λh1=>?_,λh1=>⟨λh2=>?_,λh2=>⟨by simp,λhw=>⟨λ_=>?_,λlL=>?_⟩,λhw=>⟨h,λha=>?_,λha=>?_⟩⟩⟩⟩
 .unfold JF;rw[z7 (by omega)];exact(by and_intros<;>first|rfl|trivial|simp)
 .have h2:c.length=0:=by simp only[zF] at h2;omega
  unfold JF;rw[z6 (by omega),z7 h2];exact(by and_intros<;>first|rfl|trivial|simp)
 all_goals have fG:¬ c.length=0:=by simp only[xg] at h2;omega
 .rw[ce (by omega) fG,hw];exact(by and_intros<;>first|rfl|trivial|simp)
 .rw[hw] at lL;cases lL
 .rw[ce (by omega) fG,hw,ha];exact(by and_intros<;>first|rfl|trivial|simp)
 .rw[ce (by omega) fG,hw,ha];exact(by and_intros<;>first|rfl|trivial|simp)
def Md:AL ((Int×List Int)×List (List UInt8)):=(.cons (.agg (.cons (.k (.i .i64)) (.one (.k (.list (.i .i64)))))) (.one (.k (.list .st))))
def Pj (d:(Int×List Int)×List (List UInt8)):Prop:=d.1.2.length<=1000000/\d.2.length<=1000000/\∀ s∈d.2,s.length<=1000000
def NH (d:(Int×List Int)×List (List UInt8)):SV:=.val (.i .i64) (KE d.1.1 d.1.2 d.2)
def Nx (d:(Int×List Int)×List (List UInt8)):List OB:=[]
def VO:CSp:=XU Md Pj NH Nx
def WW (hk:Int) (lw:List Int) (c:List (List UInt8)):Prop :=
 (lw.length<=1000000)/\(((Zp hk lw) != (0:Int))=true ->
  ((Zp hk lw)=(KE hk lw c)/\(True))) /\
 (((Zp hk lw) != (0:Int))=false ->
  (c.length<=1000000/\∀ s∈c,s.length<=1000000)/\((JF c (lI lw))=(KE hk lw c)/\(True)))
def Ml:Cx:=⟨[],[(49,U6),(50,KP)],16,[],0,[],[],[],[],false,[],[],[],[]⟩
def T8 (hk:Int) (lw:List Int) (c:List (List UInt8)):List (Nat×LoopAnn):=[]
theorem Tr (d:(Int×List Int)×List (List UInt8)):gwp (Ml) (T8 d.1.1 d.1.2 d.2) c25 0 (YI [.tmp 4] (NH d) (Nx d)) (Qv 16 (AL.can Md d))=WW d.1.1 d.1.2 d.2:=by kernel_rfl
abbrev Tl:Prop:=OkC Tryz.prog 25 VO
theorem Tq (h:∀ (hk:Int) (lw:List Int) (c:List (List UInt8)),(lw.length<=1000000/\c.length<=1000000/\∀ s∈c,s.length<=1000000)->WW hk lw c):OkC Tryz.prog 25 VO :=
 QB Z2o mixed (C:=Ml) (V:=λ(d:(Int×List Int)×List (List UInt8))=>WW d.1.1 d.1.2 d.2) ⟨(.cons G6 (.cons H_ .nil)),XsOk.nil,ItsOk.nil,YlOk.nil,IysOk.nil,XfOk.nil⟩ (Tr) λd hp=>h d.1.1 d.1.2 d.2 hp
theorem Tb:Tl:=Tq λhk lw c h=>by
 unfold WW;(try delta lI gD sT I64 Q2 pj8 pj4)
 (try simp only[zf,zy])
 refine⟨h.1,λhe=>?_,λhe=>⟨⟨h.2.1,h.2.2⟩,?_⟩⟩
 .have he:Zp hk lw≠0:=by simpa using he
  simp[KE,he]
 .have he:Zp hk lw=0:=by simpa using he
  simp[KE,he]
def Wu:Cx:=⟨[],[],4,[],0,[],[],[],[],false,[],[],[],[]⟩
def WG:XSp:=AX Wu (λ_=>[]) c77 [.tmp 2] 4
theorem VI:XOk Tryz.prog 77 WG:=Wh Z1x mixed (C:=Wu) ⟨.nil,XsOk.nil,ItsOk.nil,YlOk.nil,IysOk.nil,XfOk.nil⟩ _
def KM:AL (Int×List Int):=(.one (.agg (.cons (.k (.i .i64)) (.one (.k (.list (.i .i64)))))))
def MD (d:Int×List Int):Prop:=d.2.length<=1000
def Y_ (d:Int×List Int):SV:=.map 0
def YR (d:Int×List Int):List OB:=[.map (.i .i64) (.i .i64) (AV d.2)]
def Ww:CSp:=XU KM MD Y_ YR
def JX (hk:Int) (lw:List Int):Prop :=
 ∀ w1:List Value,w1=w1/\(List.length lw<4611686018427387904)/\∃ (e3:Unit) (d30:(List (Int×Int))),((True/\True)/\((True/\(([]:List SV)=[]))/\(([]:List (Int×Int))=d30)/\True)) /\
 Q6k (List.length lw) (λ(k3:Nat) (d3:(List (Int×Int))) (q3:((List (Int×Int)))->Prop)=>∀ w3:List Value,
  w3=w3/\(∃ d4:(List (Int×Int)),((True/\True)/\((True/\(([]:List SV)=[]))/\((Q14 (.i .i64) d3 (List.getD lw (List.length lw-1-k3) 0) ((lI lw)-1-(k3:Int)))=d4)/\True))/\q3 d4))
 (λ(d5:(List (Int×Int))) =>
  (True/\((d5=(AV lw))/\True))) d30
def Kr:Cx:=⟨[(1000006,(.pair (.i .i64) (.i .i64)))],[],17,[],0,[(77,WG)],[(108,Z3c (.i .i64))],[],[],false,[],[],[],[]⟩
def Gk (hk:Int) (lw:List Int):List (Nat×LoopAnn):=[(0,⟨Unit,(List (Int×Int)),[3],λe x=>[.box 3 0],λe x=>[(3,.slot 3,.cells [.map 6] (some 112)),(6,.cell 3 0,.map (.i .i64) (.i .i64) x)]⟩)]
theorem Gx (d:Int×List Int):gwp (Kr) (Gk d.1 d.2) c51 0 (YI [.tmp 2] (Y_ d) (YR d)) (Qv 17 (AL.can KM d))=JX d.1 d.2:=by kernel_rfl
abbrev Gj:Prop:=OkC Tryz.prog 51 Ww
theorem G9 (h:∀ (hk:Int) (lw:List Int),(lw.length<=1000)->JX hk lw):OkC Tryz.prog 51 Ww :=
 QB Z1t mixed (C:=Kr) (V:=λ(d:Int×List Int)=>JX d.1 d.2) ⟨.nil,(XsOk.cons VI XsOk.nil),(ItsOk.cons (Z43 Q5o mixed) ItsOk.nil),YlOk.nil,IysOk.nil,XfOk.nil⟩ (Gx) λd hp=>h d.1 d.2 hp
theorem Gq:Gj:=G9 λhk lw h=>by
 unfold JX;(try delta lI gD sT I64 Q2 pj8 pj4)
 (try simp only[])
 intro w1;refine⟨by trivial,by omega,(),[],(by and_intros<;>first|rfl|trivial|simp),λk d=>d=Q21 lw k,rfl,λk d hk hd w=>⟨by trivial,_,(by and_intros<;>first|rfl|trivial|simp),?_⟩,λd hd=>?_⟩
 .rw[hd];rfl
 .rw[hd];exact(by and_intros<;>first|rfl|trivial|simp)
def VG:AL ((Int×List Int)×List (List UInt8)):=(.cons (.agg (.cons (.k (.i .i64)) (.one (.k (.list (.i .i64)))))) (.one (.k (.list .st))))
def Dy (d:(Int×List Int)×List (List UInt8)):Prop:=d.1.2.length<=1000/\d.2.length<=1000/\∀ s∈d.2,s.length=d.1.2.length
def V2 (d:(Int×List Int)×List (List UInt8)):SV:=.tup [.val (.i .i64) ((Rj d.1.2 d.2).1),.val (.i .i64) ((Rj d.1.2 d.2).2.1),.val (.i .i64) ((Rj d.1.2 d.2).2.2),.val .bo ((Pa d.1.2 d.2).isSome)]
def V6 (d:(Int×List Int)×List (List UInt8)):List OB:=[]
def YC:CSp:=XU VG Dy V2 V6
def Xv (hk:Int) (lw:List Int) (c:List (List UInt8)):Prop :=
 (lw.length<=1000)/\∃ (e3:Unit) (d30:Int),((True/\True/\c=c/\(lI c)=(lI c)/\(0:Int)=d30/\True)/\((hk=hk/\lw=lw/\(([]:List SV)=[]))/\((AV lw)=(AV lw))/\True)) /\
 LoopP (λ(d3:Int) (q3:(Int)->Prop) =>
  ((decide (d3<(lI c)))=true ->
   (0<=d3)/\(d3<(List.length c))/\∃ (e6:Int×(List UInt8)×Int) (d60:Int),((True/\True/\d3=e6.1/\(gD c d3 [])=e6.2.1/\c=c/\(lI c)=(lI c)/\d3=e6.2.2/\lw=lw/\(lI lw)=(lI lw)/\(0:Int)=d60/\True)/\((hk=hk/\lw=lw/\(([]:List SV)=[]))/\((AV lw)=(AV lw))/\True)) /\
   LoopP (λ(d6:Int) (q6:(Int)->Prop) =>
    ((decide (d6<(lI lw)))=true ->
     (0<=d6)/\(d6<(List.length lw))/\(0<=d6)/\(d6<(List.length e6.2.1))/\(0<=(gq.aget (.i .i64) (AV lw) (gD lw d6 0) 0))/\((gq.aget (.i .i64) (AV lw) (gD lw d6 0) 0)<(List.length e6.2.1))/\((((UInt8.toNat (gD e6.2.1 d6 0):Nat):Int) != ((UInt8.toNat (gD e6.2.1 (gq.aget (.i .i64) (AV lw) (gD lw d6 0) 0) 0):Nat):Int))=true ->
      ((e6.1=((Rj lw c).1)/\d6=((Rj lw c).2.1)/\(gq.aget (.i .i64) (AV lw) (gD lw d6 0) 0)=((Rj lw c).2.2)/\true=((Pa lw c).isSome)/\(([]:List SV)=[]))/\(True))) /\
     ((((UInt8.toNat (gD e6.2.1 d6 0):Nat):Int) != ((UInt8.toNat (gD e6.2.1 (gq.aget (.i .i64) (AV lw) (gD lw d6 0) 0) 0):Nat):Int))=false ->
      (I64 (d6+(1:Int)))/\(∃ d7:Int,((True/\True/\e6.1=e6.1/\e6.2.1=e6.2.1/\c=c/\(lI c)=(lI c)/\e6.2.2=e6.2.2/\lw=lw/\(lI lw)=(lI lw)/\(d6+(1:Int))=d7/\True)/\((hk=hk/\lw=lw/\(([]:List SV)=[]))/\((AV lw)=(AV lw))/\True))/\q6 d7))) /\
    ((decide (d6<(lI lw)))=false ->
     (I64 (e6.2.2+(1:Int)))/\(∃ d8:Int,((True/\True/\c=c/\(lI c)=(lI c)/\(e6.2.2+(1:Int))=d8/\True)/\((hk=hk/\lw=lw/\(([]:List SV)=[]))/\((AV lw)=(AV lw))/\True))/\q3 d8))) d60) /\
  ((decide (d3<(lI c)))=false ->
   (((0:Int)=((Rj lw c).1)/\(0:Int)=((Rj lw c).2.1)/\(0:Int)=((Rj lw c).2.2)/\false=((Pa lw c).isSome)/\(([]:List SV)=[]))/\(True)))) d30
def VJ:Cx:=⟨[],[(51,Ww)],47,[],0,[],[],[],[],false,[],[],[],[]⟩
def BK (hk:Int) (lw:List Int) (c:List (List UInt8)):List (Nat×LoopAnn):=[(0,⟨Unit,Int,[2,8,16,17,18],λe x=>[.box 2 0,.map 15,.val (.list .st) c,.val (.i .i64) (((List.length c):Nat):Int),.val (.i .i64) x],λe x=>[(2,.slot 2,.cells [.val (.i .i64) hk,.val (.list (.i .i64)) lw] (some 73)),(15,.slot 8,.map (.i .i64) (.i .i64) (AV lw))]⟩),
 (2,⟨Int×(List UInt8)×Int,Int,[2,8,9,10,16,17,18,25,26,27],λe x=>[.box 2 0,.map 15,.val (.i .i64) e.1,.val .st e.2.1,.val (.list .st) c,.val (.i .i64) (((List.length c):Nat):Int),.val (.i .i64) e.2.2,.val (.list (.i .i64)) lw,.val (.i .i64) (((List.length lw):Nat):Int),.val (.i .i64) x],λe x=>[(2,.slot 2,.cells [.val (.i .i64) hk,.val (.list (.i .i64)) lw] (some 73)),(15,.slot 8,.map (.i .i64) (.i .i64) (AV lw))]⟩)]
theorem BV (d:(Int×List Int)×List (List UInt8)):gwp (VJ) (BK d.1.1 d.1.2 d.2) c26 0 (YI [.tmp 4,.tmp 5,.tmp 6,.tmp 7] (V2 d) (V6 d)) (Qv 47 (AL.can VG d))=Xv d.1.1 d.1.2 d.2:=by kernel_rfl
abbrev BL:Prop:=OkC Tryz.prog 26 YC
theorem BP (h:∀ (hk:Int) (lw:List Int) (c:List (List UInt8)),(lw.length<=1000/\c.length<=1000/\∀ s∈c,s.length=lw.length)->Xv hk lw c):OkC Tryz.prog 26 YC :=
 QB Z1u mixed (C:=VJ) (V:=λ(d:(Int×List Int)×List (List UInt8))=>Xv d.1.1 d.1.2 d.2) ⟨(.cons Gq .nil),XsOk.nil,ItsOk.nil,YlOk.nil,IysOk.nil,XfOk.nil⟩ (BV) λd hp=>h d.1.1 d.1.2 d.2 hp
theorem Bw:BL:=BP λhk lw c h=>by
 obtain⟨h1,h2,h3⟩:=h;unfold Xv;(try delta lI gD sT I64 Q2 pj8 pj4)
 (try simp only[zf,zy])
 refine⟨h1,(),0,(by and_intros<;>first|rfl|trivial|simp),?_⟩;refine LoopP.count c.length (λk=>∀ j,j<k->Lk lw (c.getD j [])=none) (λj h=>by omega) λi hi hJ q hq=>?_;refine⟨λal=>?_,λbI=>?_⟩
 .have al:i<c.length:=by omega
  have hs:=h3 _ (zk al);refine⟨by omega,by omega,((i:Int),c.getD i [],(i:Int)),0,(by and_intros<;>first|rfl|trivial|simp),?_⟩;dsimp only;rw[Qj al];refine LoopP.count lw.length (λw=>∀ j,j<w->c[i].getD j 0=c[i].getD (Q13 lw (lw.getD j 0)) 0) (λj h=>by omega) λw hw hI q2 ky=>?_;refine⟨λdP=>?_,λbI=>⟨by rw[QD];omega,_,(by and_intros<;>first|rfl|trivial|simp),hq al λj hj=>?_⟩⟩
  .have dP:w<lw.length:=by omega
   have hf:=Au (Xc dP);simp only[zg,Q63 dP,Z4q];refine⟨by omega,by omega,by omega,by omega,by omega,by omega,λaK=>?_,λheq=>⟨by rw[QD];omega,_,(by and_intros<;>first|rfl|trivial|simp),ky dP λj hj=>?_⟩⟩
   .have hp:=Q0z al hJ (w:=w) (by rw[Qj al];exact ON dP hI (by simpa using aK));simp[Rj,hp]
   .rcases Nat.lt_succ_iff_lt_or_eq.1 hj with hj|rfl
    .exact hI j hj
    .simpa using heq
  .rcases Nat.lt_succ_iff_lt_or_eq.1 hj with hj|rfl
   .exact hJ j hj
   .rw[Qj al];exact Cv.2 λw' fQ=>hI w' (by omega)
 .have hp:Pa lw c=none:=C3.2 λj hj=>hJ j (by omega);simp[Rj,hp]
def KL:AL ((Int×List Int)×List (List UInt8)):=(.cons (.agg (.cons (.k (.i .i64)) (.one (.k (.list (.i .i64)))))) (.one (.k (.list .st))))
def Mv (d:(Int×List Int)×List (List UInt8)):Prop:=d.1.2.length<=1000/\d.2.length<=1000/\(∀ s∈d.2,s.length=d.1.2.length)/\∀ x∈d.1.2,0<=x/\x<24
def YN (d:(Int×List Int)×List (List UInt8)):SV:=.agg [.val (.i .i64) d.1.1,.lst 0]
def YP (d:(Int×List Int)×List (List UInt8)):List OB:=[.lst 3 (.i .i64) (Pz d.1.2 d.2) ((Pz d.1.2 d.2).isEmpty)]
def Wz:CSp:=XU KL Mv YN YP
def JT (hk:Int) (lw:List Int) (c:List (List UInt8)):Prop :=
 ∃ (e4:Unit) (d40:(List Int)×Int),((True/\True/\True/\c=c/\(lI c)=(lI c)/\(0:Int)=d40.2/\True)/\((hk=hk/\lw=lw/\(([]:List SV)=[]))/\((0:Int)=(0:Int)/\True/\(([]:List SV)=[]))/\(hk=hk/\True/\(([]:List SV)=[]))/\(d40.1=[]/\(List.isEmpty d40.1)=true)/\True)) /\
 LoopP (λ(d4:(List Int)×Int) (q4:((List Int)×Int)->Prop) =>
  ((decide (d4.2<(lI c)))=true ->
   (0<=d4.2)/\(d4.2<(List.length c))/\∃ (e7:(List Int)×(List UInt8)×Int) (d70:Int×Int),((True/\True/\True/\(gD c d4.2 [])=e7.2.1/\(0:Int)=d70.1/\c=c/\(lI c)=(lI c)/\d4.2=e7.2.2/\lw=lw/\(lI lw)=(lI lw)/\(0:Int)=d70.2/\True)/\((hk=hk/\lw=lw/\(([]:List SV)=[]))/\((0:Int)=(0:Int)/\True/\(([]:List SV)=[]))/\(hk=hk/\True/\(([]:List SV)=[]))/\(d4.1=e7.1/\(List.isEmpty d4.1)=(List.isEmpty e7.1))/\True)) /\
   LoopP (λ(d7:Int×Int) (q7:(Int×Int)->Prop) =>
    ((decide (d7.2<(lI lw)))=true ->
     (0<=d7.2)/\(d7.2<(List.length lw))/\(0<=d7.2)/\(d7.2<(List.length e7.2.1))/\((((UInt8.toNat (gD e7.2.1 d7.2 0):Nat):Int)==(120:Int))=true ->
      (0<=(gD lw d7.2 0))/\(I64 (WX .i64 (1:Int) (gD lw d7.2 0)))/\(I64 (d7.2+(1:Int)))/\(∃ d8:Int×Int,((True/\True/\True/\e7.2.1=e7.2.1/\(Q1 .or .i64 d7.1 (WX .i64 (1:Int) (gD lw d7.2 0)))=d8.1/\c=c/\(lI c)=(lI c)/\e7.2.2=e7.2.2/\lw=lw/\(lI lw)=(lI lw)/\(d7.2+(1:Int))=d8.2/\True)/\((hk=hk/\lw=lw/\(([]:List SV)=[]))/\((0:Int)=(0:Int)/\True/\(([]:List SV)=[]))/\(hk=hk/\True/\(([]:List SV)=[]))/\(e7.1=e7.1/\(List.isEmpty e7.1)=(List.isEmpty e7.1))/\True))/\q7 d8)) /\
     ((((UInt8.toNat (gD e7.2.1 d7.2 0):Nat):Int)==(120:Int))=false ->
      (I64 (d7.2+(1:Int)))/\(∃ d9:Int×Int,((True/\True/\True/\e7.2.1=e7.2.1/\d7.1=d9.1/\c=c/\(lI c)=(lI c)/\e7.2.2=e7.2.2/\lw=lw/\(lI lw)=(lI lw)/\(d7.2+(1:Int))=d9.2/\True)/\((hk=hk/\lw=lw/\(([]:List SV)=[]))/\((0:Int)=(0:Int)/\True/\(([]:List SV)=[]))/\(hk=hk/\True/\(([]:List SV)=[]))/\(e7.1=e7.1/\(List.isEmpty e7.1)=(List.isEmpty e7.1))/\True))/\q7 d9))) /\
    ((decide (d7.2<(lI lw)))=false ->
     (((List.length e7.1)+(List.length [d7.1]))*8<=70368744177664)/\(I64 (e7.2.2+(1:Int)))/\(∃ d10:(List Int)×Int,((True/\True/\True/\c=c/\(lI c)=(lI c)/\(e7.2.2+(1:Int))=d10.2/\True)/\((hk=hk/\lw=lw/\(([]:List SV)=[]))/\((0:Int)=(0:Int)/\True/\(([]:List SV)=[]))/\(hk=hk/\True/\(([]:List SV)=[]))/\((e7.1++[d7.1])=d10.1/\false=(List.isEmpty d10.1))/\True))/\q4 d10))) d70) /\
  ((decide (d4.2<(lI c)))=false ->
   ((hk=hk/\True/\(([]:List SV)=[]))/\((d4.1=(Pz lw c)/\(List.isEmpty d4.1)=(Pz lw c).isEmpty)/\True)))) d40
def KD:Cx:=⟨[(3,(.i .i64))],[],47,[],0,[],[],[],[],false,[],[],[],[]⟩
def MU (hk:Int) (lw:List Int) (c:List (List UInt8)):List (Nat×LoopAnn):=[(0,⟨Unit,(List Int)×Int,[2,4,5,15,16,17],λe x=>[.box 2 0,.box 4 0,.box 5 0,.val (.list .st) c,.val (.i .i64) (((List.length c):Nat):Int),.val (.i .i64) x.2],λe x=>[(2,.slot 2,.cells [.val (.i .i64) hk,.val (.list (.i .i64)) lw] (some 73)),(4,.slot 4,.cells [.val (.i .i64) (0:Int),.nilS] (some 31)),(5,.slot 5,.cells [.val (.i .i64) hk,.lst 43] (some 31)),(43,.cell 5 1,.lst 3 (.i .i64) x.1 (List.isEmpty x.1))]⟩),
 (2,⟨(List Int)×(List UInt8)×Int,Int×Int,[2,4,5,7,8,15,16,17,23,24,25],λe x=>[.box 2 0,.box 4 0,.box 5 0,.val .st e.2.1,.val (.i .i64) x.1,.val (.list .st) c,.val (.i .i64) (((List.length c):Nat):Int),.val (.i .i64) e.2.2,.val (.list (.i .i64)) lw,.val (.i .i64) (((List.length lw):Nat):Int),.val (.i .i64) x.2],λe x=>[(2,.slot 2,.cells [.val (.i .i64) hk,.val (.list (.i .i64)) lw] (some 73)),(4,.slot 4,.cells [.val (.i .i64) (0:Int),.nilS] (some 31)),(5,.slot 5,.cells [.val (.i .i64) hk,.lst 43] (some 31)),(43,.cell 5 1,.lst 3 (.i .i64) e.1 (List.isEmpty e.1))]⟩)]
theorem Gp (d:(Int×List Int)×List (List UInt8)):gwp (KD) (MU d.1.1 d.1.2 d.2) c27 0 (YI [.cell 4 true 2] (YN d) (YP d)) (Qv 47 (AL.can KL d))=JT d.1.1 d.1.2 d.2:=by kernel_rfl
abbrev M_:Prop:=OkC Tryz.prog 27 Wz
theorem Gz (h:∀ (hk:Int) (lw:List Int) (c:List (List UInt8)),(lw.length<=1000/\c.length<=1000/\(∀ s∈c,s.length=lw.length)/\∀ x∈lw,0<=x/\x<24)->JT hk lw c):OkC Tryz.prog 27 Wz :=
 QB Z0e mixed (C:=KD) (V:=λ(d:(Int×List Int)×List (List UInt8))=>JT d.1.1 d.1.2 d.2) ⟨.nil,XsOk.nil,ItsOk.nil,YlOk.nil,IysOk.nil,XfOk.nil⟩ (Gp) λd hp=>h d.1.1 d.1.2 d.2 hp
theorem Ga:M_:=Gz λhk lw c h=>by
 obtain⟨h1,h2,h3,h4⟩:=h;unfold JT;(try delta lI gD sT I64 Q2 pj8 pj4)
 (try simp only[zf,zy])
 refine⟨(),([],0),(by and_intros<;>first|rfl|trivial|simp),?_⟩;refine LoopP.count2 c.length (λk xs=>xs=Pz lw (c.take k)) (by simp[Pz]) λi xs hi hJ q hq=>?_;dsimp only;refine⟨λal=>?_,λbI=>?_⟩
 .have al:i<c.length:=by omega
  have hs:=h3 _ (zk al);refine⟨by omega,by omega,(xs,c.getD i [],(i:Int)),(0,0),(by and_intros<;>first|rfl|trivial|simp),?_⟩;dsimp only;rw[Qj al];refine LoopP.count2 lw.length (λk r=>r=((H7 lw c[i] k:Nat):Int)) rfl λw r hw hI q2 ky=>?_;dsimp only;have hb:=IM (s:=c[i]) (n:=24) h4 w hw;refine⟨λdP=>?_,λbI=>?_⟩
  .have dP:w<lw.length:=by omega
   have hx:=h4 _ (Xc dP);obtain⟨x,nX⟩:=zu hx.1;have uI:(1:Nat) <<< x<2 ^ 24:=by rw[Nat.one_shiftLeft];exact Nat.pow_lt_pow_right (by omega) (by omega)
   have e1:WX .i64 1 ((x:Nat):Int)=((1 <<< x:Nat):Int):=Q7s (x:=1) (by omega);obtain⟨y,hy⟩:∃ y,y=1 <<< x:=⟨_,rfl⟩;rw[<-hy] at e1 uI;simp only[zg,Z6k,nX,hI,e1,Q7e (show H7 lw c[i] w<9223372036854775808 by omega) (show y<9223372036854775808 by omega)];clear e1;refine⟨by omega,by omega,by omega,by omega,λhe=>⟨by omega,by rw[QD];omega,by rw[QD];omega,(((H7 lw c[i] w ||| y:Nat):Int),(w:Int)+1),(by and_intros<;>first|rfl|trivial|simp),ky _ dP ?_⟩,λaK=>⟨by rw[QD];omega,(((H7 lw c[i] w:Nat):Int),(w:Int)+1),(by and_intros<;>first|rfl|trivial|simp),ky _ dP ?_⟩⟩
   .have he:c[i].getD w 0=120:=by simpa using he
    have iR:(lw.getD w 0).toNat=x:=by omega
    simp only[H7,z7 he,iR,<-hy]
   .have aK:¬ c[i].getD w 0=120:=by simpa using aK
    simp only[H7,z6 aK]
  .have:w=lw.length:=by omega
   subst this;have dH:xs.length=i:=by rw[hJ];simp[Pz];omega
   refine⟨by simp only[zT];omega,by rw[QD];omega,(xs++[r],(i:Int)+1),?_,hq _ al ?_⟩
   .and_intros<;>first|rfl|trivial|simp
   .rw[ZI al,hJ,hI];simp only[Pz,xA,xe,List.map_nil,Z34]
 .have:i=c.length:=by omega
  subst this;rw[List.take_length] at hJ;rw[hJ];exact(by and_intros<;>first|rfl|trivial|simp)
def DM:AL ((Int×List Int)×List (List UInt8)):=(.cons (.agg (.cons (.k (.i .i64)) (.one (.k (.list (.i .i64)))))) (.one (.k (.list .st))))
def R4 (d:(Int×List Int)×List (List UInt8)):Prop:=d.1.2.length<=1000/\d.2.length<=1000/\∀ s∈d.2,s.length<=1000
def D3 (d:(Int×List Int)×List (List UInt8)):SV:=.tup [.agg [.val (.i .i64) (if Cb d.1.1 d.1.2 d.2=0 then d.1.1 else 0),.lst 0],.val (.i .i64) (Cb d.1.1 d.1.2 d.2)]
def MX (d:(Int×List Int)×List (List UInt8)):List OB:=[.lst 3 (.i .i64) (Fv d.1.1 d.1.2 d.2) ((Fv d.1.1 d.1.2 d.2).isEmpty)]
def NT:CSp:=XU DM R4 D3 MX
def Kc (hk:Int) (lw:List Int) (c:List (List UInt8)):Prop :=
 (lw.length<=1000000/\c.length<=1000000/\∀ s∈c,s.length<=1000000)/\(((KE hk lw c) != (0:Int))=true ->
  ((((0:Int)=(if Cb hk lw c=0 then hk else 0)/\True/\(([]:List SV)=[]))/\(KE hk lw c)=(Cb hk lw c)/\(([]:List SV)=[]))/\(((Fv hk lw c)=[]/\(Fv hk lw c).isEmpty=true)/\True))) /\
 (((KE hk lw c) != (0:Int))=false ->
  (lw.length<=1000/\c.length<=1000/\∀ s∈c,s.length=lw.length)/\(((Pa lw c).isSome)=true ->
   ((((0:Int)=(if Cb hk lw c=0 then hk else 0)/\True/\(([]:List SV)=[]))/\(9:Int)=(Cb hk lw c)/\(([]:List SV)=[]))/\(((Fv hk lw c)=[]/\(Fv hk lw c).isEmpty=true)/\True))) /\
  (((Pa lw c).isSome)=false ->
   (lw.length<=1000/\c.length<=1000/\(∀ s∈c,s.length=lw.length)/\∀ x∈lw,0<=x/\x<24)/\(((hk=(if Cb hk lw c=0 then hk else 0)/\True/\(([]:List SV)=[]))/\(0:Int)=(Cb hk lw c)/\(([]:List SV)=[]))/\(((Pz lw c)=(Fv hk lw c)/\(Pz lw c).isEmpty=(Fv hk lw c).isEmpty)/\True))))
def Bb:Cx:=⟨[],[(25,VO),(26,YC),(27,Wz)],33,[],0,[],[],[],[],false,[],[],[],[]⟩
def LO (hk:Int) (lw:List Int) (c:List (List UInt8)):List (Nat×LoopAnn):=[]
theorem LH (d:(Int×List Int)×List (List UInt8)):gwp (Bb) (LO d.1.1 d.1.2 d.2) c10 0 (YI [.cell 4 true 2,.tmp 5] (D3 d) (MX d)) (Qv 33 (AL.can DM d))=Kc d.1.1 d.1.2 d.2:=by kernel_rfl
abbrev Lq:Prop:=OkC Tryz.prog 10 NT
theorem LM (h:∀ (hk:Int) (lw:List Int) (c:List (List UInt8)),(lw.length<=1000/\c.length<=1000/\∀ s∈c,s.length<=1000)->Kc hk lw c):OkC Tryz.prog 10 NT :=
 QB Z25 mixed (C:=Bb) (V:=λ(d:(Int×List Int)×List (List UInt8))=>Kc d.1.1 d.1.2 d.2) ⟨(.cons Tb (.cons Bw (.cons Ga .nil))),XsOk.nil,ItsOk.nil,YlOk.nil,IysOk.nil,XfOk.nil⟩ (LH) λd hp=>h d.1.1 d.1.2 d.2 hp
theorem FA {hk:Int}{lw:List Int}{c:List (List UInt8)}(h:KE hk lw c=0):Zp hk lw=0/\JF c lw.length=0:=by
 unfold KE at h;split at h
 .rename_i h1;exact(h1 h).elim
 .rename_i h1;exact⟨by simpa using h1,h⟩
theorem L4:Lq:=LM λhk lw c h=>by
 obtain⟨h1,h2,h3⟩:=h;unfold Kc;refine⟨⟨by omega,by omega,λs hs=>by have:=h3 s hs;omega⟩,λhe=>?_,λhe=>?_⟩
 .have he:KE hk lw c≠0:=by simpa using he
  have hE:Cb hk lw c=KE hk lw c:=by simp[Cb,he]
  simp[Fv,hE,he]
 .have he:KE hk lw c=0:=by simpa using he
  obtain⟨e1,e2⟩:=FA he;obtain⟨t1,t2,t3,t4,t5⟩:=TU e1;obtain⟨c1,c2,c3,c4,c5⟩:=Ac e2;have cl:∀ s∈c,s.length=lw.length:=λs hs=>by have:=(c5 s hs).1;omega
  refine⟨⟨h1,h2,cl⟩,λhp=>?_,λhp=>⟨⟨h1,h2,cl,λx hx=>⟨(t5 x hx).1,by have:=(t5 x hx).2;omega⟩⟩,?_⟩⟩
  .have hE:Cb hk lw c=9:=by simp[Cb,he,hp]
   simp[Fv,hE]
  .have hE:Cb hk lw c=0:=by simp[Cb,he,hp]
   simp[Fv,hE]
end Go.Proofs.Tryz
namespace Go.V
open Go Go.ChangeShapes Go.WideShapes Go.RowKit Go.Deep Go.Joins
def Heap.RO (U:Heap):Prop:=∀ i b,U.get i=some b->b.wr=false
structure View (w:World) (ρ:Plc) (U:Heap):Prop where
 rel:HRel ρ U w
 ro:U.RO
structure More (ρ:Plc) (U:Heap) (ρ':Plc) (U':Heap):Prop where
 n:U.n<=U'.n
 pl:∀ i,i<U.n->∀ p,ρ' i=some p->ρ i=some p
 ag:Agree U U'
theorem More.refl (ρ:Plc) (U:Heap):More ρ U ρ U:=⟨zd _,λ_ _ _ h=>h,Agree.refl _⟩
theorem More.trans {ρ ρ' en:Plc}{U U' aJ:Heap}(h:More ρ U ρ' U') (k:More ρ' U' en aJ):More ρ U en aJ :=
 ⟨zN h.n k.n,λi hi p hp=>h.pl i hi p (k.pl i (zV hi h.n) p hp),h.ag.trans k.ag h.n⟩
def Z3s (w:World):Prop:=∀ g cs,Q3z g=some cs->∃ e f,w.heap[g]?=some (.cells cs.toArray e f)
theorem View.emptyT (w:World) (ht:Z3s w):View w (λ_=>none) Heap.empty where
 rel:=⟨⟨λi b h=>(by cases h),λ_ _=>rfl,λi p h=>(by cases h),λi j p q b _ h=>(by cases h)⟩,λg cs hg=>⟨ht g cs hg,λ⟨_,_,_,h,_⟩=>by cases h⟩⟩
 ro:=λi b h=>by cases h
theorem View.add {w:World}{ρ:Plc}{U:Heap}(h:View w ρ U) (p:Pl) (c:List Value) {C:Array Value}{e:TypeId}{f:Nat×Nat}(hb:w.heap[p.blk]?=some (.cells C e f)) (hs:p.shift+p.ext<=C.size) (hl:c.length<=p.ext) (ht:e=p.esz.ty)
  (hc:∀ (k:Nat) (v:Value),c[k]?=some v->∃ u,w.cell? ⟨p.blk,p.shift+k,none⟩=some u/\VRel ρ U.n v u) :
  View w (ρ.put U.n (some p)) (U.push (.cells c p.esz false p.tight))/\More ρ U (ρ.put U.n (some p)) (U.push (.cells c p.esz false p.tight)):=by
 have aS:∀ i,i<U.n->∀ q,(ρ.put U.n (some p)) i=some q->ρ i=some q:=λi hi q hq=>by unfold Plc.put at hq;rwa [z6 (by omega)] at hq
 have bP:(U.push (.cells c p.esz false p.tight)).RO:=λi b hi=>by
  by_cases e:i=U.n
  .subst e;rw[Heap.q0a] at hi;obtain rfl:=osj hi;rfl
  .rw[Heap.q0e _ _ e] at hi;exact h.ro i b hi
 refine⟨⟨⟨⟨?_,?_,?_,?_⟩,λg cs hg=>⟨(h.rel.tab g cs hg).1,λ⟨i,_,b,_,hi,hw,_⟩=>by rw[bP i b hi] at hw;cases hw⟩⟩,bP⟩,⟨by simp,aS,λi hi=>Heap.q0j _ _ hi⟩⟩
 .intro i b hi;by_cases aP:i=U.n
  .subst aP;rw[Heap.q0a] at hi;obtain rfl:=osj hi;refine⟨p,by simp[Plc.put],rfl,rfl,hl,⟨C,e,f,hb,hs,ht⟩,λk v hk=>?_,λh=>by cases h⟩;obtain⟨u,hu,hv⟩:=hc k v hk;exact⟨u,hu,hv.mono (by simp) aS⟩
  .rw[Heap.q0e _ _ aP] at hi;obtain⟨q,hq,hB⟩:=h.rel.live i b hi;exact⟨q,by simp[Plc.put,aP,hq],hB.mono (by simp) aS rfl⟩
 .intro i hi;by_cases aP:i=U.n
  .grind [Heap.q0a]
  .rw[Heap.q0e _ _ aP] at hi;simp[Plc.put,aP,h.rel.dead i hi]
 .intro i q hq;by_cases aP:i=U.n
  .subst aP;simp[Plc.put] at hq
   grind
  .simp[Plc.put,aP] at hq;exact h.rel.lt i q hq
 .intro i j q r b _ _ _ b6 hw _;rw[bP i b b6] at hw;cases hw
theorem Q2d {P:Program}{fits:TypeId->Bool}{d:Nat}{e:TypeId}{count off n:Nat}(h:rowAt P fits d e count off n=true):off<=count*P.cellsOf e:=by
 cases d with
 |zero=>cases h
 |succ d =>
  unfold rowAt at h;by_cases hs:P.cellsOf e=0
  .simp[hs] at h
  .have di:0<P.cellsOf e:=Nat.pos_of_ne_zero hs;simp only[hs,if_false,zo,z1,zF,zf] at h;have hd:=Nat.div_add_mod off (P.cellsOf e);have hm:=xG off di;rcases h with⟨⟨h1,h2⟩,_⟩|⟨h1,_⟩
   .have:P.cellsOf e*(off / P.cellsOf e)<=P.cellsOf e*count:=Nat.mul_le_mul_left _ (by omega);rw[we count];omega
   .have:P.cellsOf e*(off / P.cellsOf e+1)<=P.cellsOf e*count:=Nat.mul_le_mul_left _ (by omega)
    grind
theorem C9 {P:Program}:∀ {d:Nat}{e:TypeId}{count off:Nat}{u:TypeId}{n:Nat},liesAt P d e count off u n=true->off<=count*P.cellsOf e
 |0,_,_,_,_,_,h=>by cases h
 |d+1,e,count,off,u,n,h=>by
  unfold liesAt at h;rw[zo] at h;rcases h with h|h
  .exact Q2d h
  .split at h
   .exact C9 h
   .cases h
theorem E9 {P:Program}{w:World}{r:Reach}{base:Nat}{a:Addr}{e:TypeId}{n:Nat}(h:w.has P r base a e n):∃ C row f,w.heap[a.block]?=some (.cells C row f)/\a.off<=C.size/\a.spot=none:=by
 obtain⟨_,hs,row,cells,cS,hl⟩:=h;unfold World.shape? at cS;split at cS
 .rename_i C e' f hb;obtain⟨rfl,rfl⟩:=(by simpa using cS:e'=row/\C.size=cells);exact⟨C,e',f,hb,zN (C9 hl) (Nat.div_mul_le_self _ _),hs⟩
 .cases cS
theorem T3 {P:Program}{w:World}{r:Reach}{base:Nat}{t e:TypeId}{v:Value}(ht:P.underlying t=some (.slice e)) (h:Cell.okWide P w r base t v) :
  v=.slice none 0 0\/∃ a len cap,v=.slice (some a) len cap/\w.has P r base a e cap:=by
 unfold Cell.okWide at h;rw[ht] at h;have h':Cell.ok P w r base t v:=by omega
 unfold Cell.ok at h'
 grind
theorem Z0b {k:IntKind}{x:Int}(h:(Lit.int k x).wf=true):k.min<=x/\x<=k.max:=by simpa [Lit.wf] using h
theorem View.calls {P:Program}{f:FuncId}{w:World}{ρ:Plc}{U:Heap}(h:View w ρ U) {args:List Value}{aw:Array Value}(hl:LRel ρ U.n args aw.toList) (hc:VCallsTo P f args U λv _=>v=.bool true) :
  Calls P f aw w λe w'=>e=.returned (.bool true)/\Below w.heap.size w w':=by
 refine (hc ρ w aw h.rel hl).mono λe w' ⟨c,he,v,ρ',U',hv,hr,_,hx⟩=>?_;subst hv;have:c=.bool true:=by cases hr;rfl
 subst this;exact⟨he,hx.os,hx.tape,hx.output,hx.size,λB hB=>hx.keep B hB λ⟨i,p,b,_,hi,hw,_⟩=>by rw[h.ro i b hi] at hw;cases hw⟩
theorem Hj {H:Type}{enc:TypeId×Value->H}{P:Program}(hl:laidOutB P=true) {W W':World}{sp:Nat->Bool}(hb:Below W.heap.size W W') :
  ∀ {ts:List TypeId}{vs:List Value}{ds:List (DataW H)}{ps:List MemPlace},(∀ t∈ts,P.readableRec t=true/\t<P.types.size)->DataW.TrodAll enc P W 0 (λ_=>true) true ts vs ds ps->(∀ p∈ps,p.block<W.heap.size)->(∀ p∈ps,sp p.block=true) ->
   DataW.TrodAll enc P W' 0 sp true ts vs ds ps
 |[],vs,ds,ps,_,h,_,_=>by obtain⟨rfl,rfl,rfl⟩:=trodAll_nil h;rfl
 |t::ts,vs,ds,ps,ht,h,al,hs=>by
  obtain⟨v,cy,d,ds',p,q,rfl,rfl,rfl,h1,h2⟩:=trodAll_cons h;obtain⟨r1,r2⟩:=ht t (by simp);exact⟨p,q,WideElems.Trod_stays hl r1 r2 h1 (λx hx=>hb.same (al x (by simp[hx]))) (λx hx=>hs x (by simp[hx])),
   Hj hl hb (λt oI=>ht t (by simp[oI])) h2 (λx hx=>al x (by simp[hx])) (λx hx=>hs x (by simp[hx])),rfl⟩
theorem Q2s {H:Type}{enc:TypeId×Value->H}{P:Program}{f:Func}{s:ChangeSpec}{apart fresh handsOn again:Bool}{W W':World}{args:Array Value}{ds gs:List (DataW H)}{before:List MemPlace}{tb:TypeId}
  (hl:laidOutB P=true) (hp:f.params.toList.all (λt=>P.readableRec t&&decide (t<P.types.size))=true) (jS:s.vars=[]) (hr:f.resultTypes=#[tb]) (bJ:P.underlying tb=some .bool) (hs:s.fn H ds={results:=[.lit (.bool true)],args:=ds})
  (hW:DataW.Whole enc P f.params.toList s.vars apart W args.toList ds gs before) (hb:Below W.heap.size W W'):s.post enc P f apart fresh handsOn again W args (.bool true) W':=by
 have al:∀ p∈before,p.block<W.heap.size:=λp hp=>hW.lt p hp;have uJ:=hW;obtain⟨p,q,hA,hV,rfl,hz,hn⟩:=hW;rw[jS] at hV;obtain⟨rfl,rfl⟩:=trodVars_none hV;have br:∀ t∈f.params.toList,P.readableRec t=true/\t<P.types.size:=(by grind);have fk:s.fn H (ds++[])={results:=[.lit (.bool true)],args:=ds}:=by rw[xk];exact hs
 have dO:∀ (b:Nat) (sp:Nat->Bool) (hd:Bool),DataW.TrodAll enc P W' b sp hd f.resultTypes.toList ((Value.bool true).resultList f.resultTypes.size) (s.fn H (ds++[])).results []:=λb sp hd=>by rw[fk,hr];exact trodAll_mk1 (shut_bool bJ _)
 have av:∀ sp:Nat->Bool,(∀ x∈p++[],sp x.block=true)->DataW.TrodAll enc P W' 0 sp true f.params.toList args.toList (s.fn H (ds++[])).args p:=(by grind [Hj]);have b_:∀ sp:Nat->Bool,DataW.TrodVars enc P W' sp s.vars (s.fn H (ds++[])).vars []:=λsp=>by rw[fk,jS];rfl
 have hold:∀ x∈p++[],(λb=>decide (b<W.heap.size)) x.block=true:=λx hx=>by simpa using al x hx
 refine⟨ds,[],p++[],[],p,[],uJ,dO _ _ _,av _ hold,b_ _,World.keptBut_mono (λx hx=>⟨hx,?_⟩) (hb.frame (·∈p++[])),λ_=>?_⟩
 .exact .inr (by simpa using hx)
 .refine⟨ok_one hr rfl (okWide_bool_mk bJ _),_,_,([]++p)++[],⟨[]++p,[],trodAll_append (av _ (λ_ _=>rfl)) (dO _ _ _),b_ _,rfl,?_,?_⟩,?_⟩
  .intro b off hx;have aP:MemPlace.cell b off∈p++[]:=by simpa using hx
   rw[hb.frozen (al _ aP)];exact hz b off aP
  .intro ha;simpa using hn ha
  .intro x hx _;simpa using hx
def KFs (T:Kind->TypeId->Bool) (sz:TypeId->Nat):Kind->List (TypeId×Nat)->Nat->Bool
 |_,[],_=>false
 |k,[p],off=>p.2==off&&(sz p.1==k.size&&T k p.1)
 |.pair a b,p::q::r,off=>p.2==off&&(sz p.1==a.size&&(T a p.1&&KFs T sz b (q::r) (off+a.size)))
 |_,_::_::_,_=>false
def Kind.row:Kind->Bool
 |.list k=>k.flat
 |_=>false
def Z5q (P:Program) (t:TypeId):Bool:=match P.underlying t with|some (.slice _)=>true|_=>false
def KTy (P:Program):Nat->Kind->TypeId->Bool
 |0,_,_=>false
 |n+1,k,t=>match P.underlying t with
  |some (.struct fs)=>P.cellsOf t==k.size&&KFs (KTy P n) P.cellsOf k (fs.toList.map λf=>(f.type,f.offset)) 0
  |some (.array m e)=>P.cellsOf t==k.size&&KFs (KTy P n) P.cellsOf k ((List.range m).map λi=>(e,i*P.cellsOf e)) 0
  |some (.int ik)=>(match k with|.i k'=>decide (k'=ik)|_=>false)
  |some .bool=>(match k with|.bo=>true|_=>false)
  |some .string=>(match k with|.st=>true|_=>false)
  |some (.slice e)=>(match k with|.list k'=>P.cellsOf e==k'.size&&((k'.flat||(k'.row&&Z5q P e))&&KTy P n k' e)|_=>false)
  |_=>false
def KWf:(k:Kind)->k.T->Prop
 |.i ik,x=>InK ik x
 |.bo,_=>True
 |.st,s=>s.length<=maxLen
 |.list k,l=>l.length<=maxLen/\∀ x∈l,KWf k x
 |.pair a b,x=>KWf a x.1/\KWf b x.2
theorem More.le {ρ ρ':Plc}{U U':Heap}(h:More ρ U ρ' U'):U.Le U':=⟨h.n,λi b hb=>by rw[h.ag i (U.lt hb)];exact hb⟩
def ArgIs (w:World) (ρ:Plc) (U:Heap) (k:Kind) (cs:List Value):Prop :=
 ∃ ρ' U' vs x,View w ρ' U'/\More ρ U ρ' U'/\LRel ρ' U'.n vs cs/\KC U' k x vs/\KWf k x
theorem ArgIs.pair {w:World}{ρ:Plc}{U:Heap}{a b:Kind}{cs ds:List Value}(h1:ArgIs w ρ U a cs) (h2:∀ ρ U,View w ρ U->ArgIs w ρ U b ds):ArgIs w ρ U (.pair a b) (cs++ds):=by obtain⟨ρ1,σ1,nS,x1,k1,k2,k3,k4,k5⟩:=h1;obtain⟨ρ2,σ2,iA,x2,m1,m2,m3,m4,m5⟩:=h2 ρ1 σ1 k1;exact⟨ρ2,σ2,nS++iA,(x1,x2),m1,k2.trans m2,(k3.mono m2.n m2.pl).append m3,⟨nS,iA,rfl,k4.mono m2.le,m4⟩,k5,m5⟩
section
variable {H:Type}{enc:TypeId×Value->H}{P:Program}{w:World}{r:Reach}{base:Nat}
def okc (P:Program) (w:World) (r:Reach) (base:Nat) (ts:List TypeId) (cs:List Value):Prop:=∀ (i:Nat) v u,cs[i]?=some v->ts[i]?=some u->Cell.okWide P w r base u v
theorem Ih {T:Kind->TypeId->Bool}{sz:TypeId->Nat}{g:TypeId->Option (List TypeId)}(hT:∀ k t ts,T k t=true->g t=some ts->ts.length=k.size) :
  ∀ {k:Kind}{L:List (TypeId×Nat)}{off:Nat}{gu:List (List TypeId)},KFs T sz k L off=true->L.mapM (λp=>g p.1)=some gu->gu.flatten.length=k.size
 |k,[],_,_,h,_=>by simp[KFs] at h
 |k,[p],off,gu,h,hm=>by
  simp only[KFs,z1] at h;cases hg:g p.1 with
  |none=>simp[hg] at hm
  |some ts =>simp[hg] at hm;subst hm;simpa using hT _ _ _ h.2.2 hg
 |.pair a b,p::q::r,off,gu,h,hm=>by
  simp only[KFs,z1] at h;rw[zX] at hm;cases hg:g p.1 with
  |none=>simp[hg] at hm
  |some ts =>
   cases hr:(q::r).mapM (λp=>g p.1) with
   |none=>simp[hg,hr] at hm
   |some tr =>simp[hg,hr] at hm;subst hm;have:=Ih hT h.2.2.2 hr;simp only[List.flatten_cons,zH,this,hT _ _ _ h.2.2.1 hg,Kind.size]
 |.i _,_::_::_,_,_,h,_|.bo,_::_::_,_,_,h,_|.st,_::_::_,_,_,h,_|.list _,_::_::_,_,_,h,_=>by cases h
theorem Hv {α β γ:Type}{f:α->β}{g:β->Option γ}:∀ (l:List α),(l.map f).mapM g=l.mapM (λx=>g (f x))
 |[]=>rfl
 |a::l=>by simp only[xe,zX,Hv l]
theorem Pf {β:Type}{x:β}{f:Nat->Option β}(h:∀ i,f i=some x):∀ l:List Nat,l.mapM f=some (List.replicate l.length x)
 |[]=>rfl
 |a::l=>by simp[zX,h,Pf h l,xn]
theorem FY:∀ {n:Nat}{k:Kind}{t:TypeId}{d:Nat}{ts:List TypeId},KTy P n k t=true->P.cellTypes d t=some ts->ts.length=k.size
 |0,_,_,_,_,h,_=>by cases h
 |_+1,_,_,0,_,_,h=>by cases h
 |n+1,k,t,d+1,ts,h,ht=>by
  have ih:∀ k t ts,KTy P n k t=true->P.cellTypes d t=some ts->ts.length=k.size:=λk t ts h1 h2=>FY h1 h2;unfold Program.cellTypes at ht;unfold KTy at h;cases hu:P.underlying t with
  |none=>rw[hu] at h;cases h
  |some u =>
   rw[hu] at h ht;cases u<;>first|(cases h;done)|skip
   all_goals simp only at h ht
   .split at h<;>first|(cases h;done)|(obtain rfl:=osj ht;rfl)
   .split at h<;>first|(cases h;done)|(obtain rfl:=osj ht;rfl)
   .split at h<;>first|(cases h;done)|(obtain rfl:=osj ht;rfl)
   .split at h<;>first|(cases h;done)|(obtain rfl:=osj ht;rfl)
   .rename_i m e;rw[z1] at h;cases hc:P.cellTypes d e with
    |none=>rw[hc] at ht;cases ht
    |some te =>rw[hc] at ht;obtain rfl:=osj ht;refine Ih (g:=λt=>P.cellTypes d t) ih h.2 ?_;rw[Hv,Pf (x:=te) (λ_=>hc)];simp
   .rename_i fs;rw[z1] at h;cases hc:fs.toList.mapM λf=>P.cellTypes d f.type with
    |none=>rw[hc] at ht;cases ht
    |some gu =>rw[hc] at ht;obtain rfl:=osj ht;refine Ih (g:=λt=>P.cellTypes d t) ih h.2 ?_;rw[Hv];exact hc
theorem Hg {T:Kind->TypeId->Bool}{sz:TypeId->Nat}{Q:TypeId->List Value->Prop}{R:Kind->List Value->Prop}(hT:∀ k t cs,T k t=true->Q t cs->R k cs) (hR:∀ a b cs ds,R a cs->R b ds->R (.pair a b) (cs++ds)) (cs:List Value) :
  ∀ {k:Kind}{L:List (TypeId×Nat)}{off:Nat},KFs T sz k L off=true->(∀ p∈L,Q p.1 ((cs.drop p.2).take (sz p.1)))->R k ((cs.drop off).take k.size)
 |k,[],_,h,_=>by simp[KFs] at h
 |k,[p],off,h,hq=>by
  simp only[KFs,z1,zF] at h
  grind
 |.pair a b,p::q::r,off,h,hq=>by
  simp only[KFs,z1,zF] at h;have h1:=hq p (by simp);rw[h.1,h.2.1] at h1;have h2:=Hg hT hR cs h.2.2.2 (by simp_all);have e:(cs.drop off).take (Kind.pair a b).size=(cs.drop off).take a.size++(cs.drop (off+a.size)).take b.size:=by rw[Kind.size,List.take_add,List.drop_drop]
  grind
 |.i _,_::_::_,_,h,_|.bo,_::_::_,_,h,_|.st,_::_::_,_,h,_|.list _,_::_::_,_,h,_=>by cases h
def FlatIs (k:Kind) (cs:List Value):Prop:=∃ y:k.T,(∀ h,KC h k y cs)/\KWf k y/\∀ ρ m,LRel ρ m cs cs
theorem FlatIs.pair {a b:Kind}{cs ds:List Value}(h1:FlatIs a cs) (h2:FlatIs b ds):FlatIs (.pair a b) (cs++ds):=by obtain⟨x,k1,k2,k3⟩:=h1;obtain⟨y,m1,m2,m3⟩:=h2;exact⟨(x,y),λh=>⟨cs,ds,rfl,k1 h,m1 h⟩,⟨k2,m2⟩,fun ρ m=>(k3 ρ m).append (m3 ρ m)⟩
theorem LRel.one {ρ:Plc}{n:Nat}{v c:Value}(h:VRel ρ n v c):LRel ρ n [v] [c]:=.cons h (.nil _ _)
theorem HJ {fs:Array Field}{f:Field}(h:f∈fs.toList):∃ i:Nat,fs[i]?=some f:=by obtain⟨i,hi,rfl⟩:=List.mem_iff_getElem.1 h;exact⟨i,by simp at hi;simp[hi]⟩
theorem TJ {sp:Nat->Bool}{held:Bool}:∀ {n:Nat}{k:Kind}{t:TypeId}{fuel:Nat}{cs:List Value}{x:DataW H×List MemPlace},KTy P n k t=true->k.flat=true->DataW.trod enc P w base sp held fuel t cs=some x->FlatIs k cs
 |0,_,_,_,_,_,h,_,_=>by cases h
 |n+1,k,t,fuel,cs,x,h,hf,hx=>by
  unfold KTy at h;cases hu:P.underlying t with
  |none=>rw[hu] at h;cases h
  |some u =>
   rw[hu] at h;have hR:∀ a b cs ds,((a.flat=true->FlatIs a cs)/\True)->((b.flat=true->FlatIs b ds)/\True)->(((Kind.pair a b).flat=true->FlatIs (.pair a b) (cs++ds))/\True):=λa b cs ds h1 h2=>⟨λhf=>by
    simp only[Kind.flat,z1] at hf;exact(h1.1 hf.1).pair (h2.1 hf.2),trivial⟩
   have hT:∀ k t cs,KTy P n k t=true->(∃ fuel x,DataW.trod enc P w base sp held fuel t cs=some x)->((k.flat=true->FlatIs k cs)/\True):=λk t cs h1 ⟨fuel,x,h2⟩=>⟨λhf=>TJ h1 hf h2,trivial⟩;cases u<;>first|(cases h;done)|skip
   all_goals simp only at h
   .split at h<;>first|(cases h;done)|skip
    obtain⟨b,rfl,_⟩:=DataW.trod_bool hu hx;exact⟨b,λ_=>rfl,trivial,λ_ _=>.one (.bool _)⟩
   .split at h<;>first|(cases h;done)|skip
    obtain rfl:=x_ h;obtain⟨z,rfl,_,hw⟩:=DataW.trod_int hu hx;exact⟨z,λ_=>rfl,Z0b hw,λ_ _=>.one (.int _ _)⟩
   .split at h<;>first|(cases h;done)|skip
    obtain⟨s,rfl,_,hs⟩:=DataW.trod_string hu hx;exact⟨s.data.toList,λ_=>rfl,hs,λ_ _=>.one (.string _)⟩
   .split at h<;>first|(cases h;done)|(cases hf;done)
   .rename_i m e;simp only[z1,zF] at h;obtain⟨xs,m',_,_,hl,dH,hx⟩:=DataW.trod_array hu hx;have:=(Hg (R:=λk cs=>(k.flat=true->FlatIs k cs)/\True) hT hR cs h.2 (by grind)).1 hf
    grind
   .rename_i fs;simp only[z1,zF] at h;obtain⟨xs,m',_,_,hl,dH,hx⟩:=DataW.trod_struct hu hx;have:=(Hg (R:=λk cs=>(k.flat=true->FlatIs k cs)/\True) hT hR cs h.2 (by grind [HJ,Array.getElem?_eq_some_iff,List.getElem?_eq_getElem])).1 hf
    grind
theorem Rows.range {α:Type}{R:α->List Value->Prop}{n:Nat}{c:List Value}{x:Nat->α}:∀ (m:Nat),(∀ i,i<m->R (x i) ((c.drop (i*n)).take n))->Rows R ((List.range m).map x) (c.take (m*n))
 |0,_=>by simp;exact .nil
 |m+1,h=>by
  have e:c.take ((m+1)*n)=c.take (m*n)++(c.drop (m*n)).take n:=by rw[zD,xp,List.take_add]
  rw[List.range_succ,xA,e];exact(Rows.range m λi hi=>h i (by omega)).append (by simpa using Rows.cons (h m (by omega)) .nil)
theorem PM {α:Type}[Inhabited α] {m:Nat}{p:Nat->α->Prop}(h:∀ i,i<m->∃ x,p i x):∃ f:Nat->α,∀ i,i<m->p i (f i) :=
 ⟨λi=>if hi:i<m then (h i hi).choose else default,(by grind)⟩
instance KInh (k:Kind):Inhabited k.T:=⟨k.dflt⟩
theorem View.list {ρ:Plc}{U:Heap}(h:View w ρ U) {n:Nat}{k:Kind}{t e:TypeId}{fuel:Nat}{cs:List Value}{x:DataW H×List MemPlace}(hu:P.underlying t=some (.slice e)) (hs:P.cellsOf e=k.size) (hf:k.flat=true) (hk:KTy P n k e=true)
  (hx:DataW.trod enc P w 0 (λ_=>true) true fuel t cs=some x) (aq:okc P w r base [t] cs):ArgIs w ρ U (.list k) cs:=by
 rcases open_slice hu hx with⟨rfl,_⟩|⟨a,len,cap,m,fu,D,Pl,rfl,hb,hl,hm,fD,_,hel⟩
 .exact⟨ρ,U,[.slice none 0 0],[],h,More.refl _ _,.one .nilSl,⟨_,rfl,.inl ⟨rfl,rfl⟩⟩,by simp[maxLen],λ_ hx=>by cases hx⟩
 simp only[zr] at fD;subst fD;rw[hs] at hel;have kZ:w.has P r base a e m:=by
  rcases T3 hu (aq 0 _ t rfl rfl) with hh|⟨a',qx,au,hh,h2⟩
  .cases hh
  .cases hh;exact h2
 obtain⟨C,row,f,aD,aZ,eO⟩:=E9 kZ;obtain⟨blk,off,spot⟩:=a;simp only at aD aZ eO;subst eO;have fz:∀ i,(⟨blk,off,none⟩:Addr).add i=⟨blk,off+i,none⟩:=λi=>by unfold Addr.add;split<;>simp_all
 obtain⟨X,hX⟩:=PM (α:=k.T×List Value) (m:=m) (p:=λi p=>p.2.length=k.size/\(∀ j,j<k.size->w.cell? ⟨blk,off+i*k.size+j,none⟩=p.2[j]?)/\(∀ h,KC h k p.1 p.2)/\KWf k p.1/\∀ ρ m,LRel ρ m p.2 p.2) λi hi=>by
  obtain⟨cs',h1,h2⟩:=hel i hi;obtain⟨_,k1,k2⟩:=World.cells?_some h1;obtain⟨y,m1,m2,m3⟩:=TJ hk hf h2;refine⟨(y,cs'),k1,λj hj=>?_,m1,m2,m3⟩;have:=k2 j hj;rw[fz] at this;have e2:(⟨blk,off+i*k.size,none⟩:Addr).add j=⟨blk,off+i*k.size+j,none⟩:=by unfold Addr.add;split<;>simp_all
  rw[e2] at this;exact this
 have di:=k.size_pos;let c:List Value:=(List.range (m*k.size)).map λj=>((X (j / k.size)).2[j % k.size]?).getD undef;have b8:c.length=m*k.size:=by simp[c]
 have hdiv:∀ j,j<m*k.size->j / k.size<m:=λj hj=>Nat.div_lt_of_lt_mul (by rw[we];exact hj);have bC:∀ j,j<m*k.size->∃ v,c[j]?=some v/\w.cell? ⟨blk,off+j,none⟩=some v/\∀ ρ m,VRel ρ m v v:=λj hj=>by
  have h1:=hX (j / k.size) (hdiv j hj);have fR:j % k.size<k.size:=xG _ di;have h2:=h1.2.1 _ fR;have e:off+j / k.size*k.size+j % k.size=off+j:=by rw[zw,Nat.div_add_mod']
  rw[e] at h2;have h3:j % k.size<(X (j / k.size)).2.length:=by rw[h1.1];exact fR
  refine⟨(X (j / k.size)).2[j % k.size],?_,?_,fun ρ m=>(h1.2.2.2.2 ρ m).2 _ _ _ (z8 h3) (z8 h3)⟩
  .grind
  .rw[h2,z8 h3]
 have qy:∀ i,i<m->(c.drop (i*k.size)).take k.size=(X i).2:=λi hi=>by
  have h1:=hX i hi;have hle:i*k.size+k.size<=m*k.size:=by have:(i+1)*k.size<=m*k.size:=zq _ hi;rw[zD] at this;omega
  apply zI
  grind
 have aE:off+m*k.size<=C.size:=by
  rcases Nat.eq_zero_or_pos (m*k.size) with h0|h0
  .omega
  .obtain⟨v,_,h2,_⟩:=bC (m*k.size-1) (by omega);unfold World.cell? at h2
   grind
 obtain⟨hv,jT⟩:=h.add ⟨blk,off,m*k.size,⟨k.size,row⟩,false⟩ c aD aE (by simp[b8]) rfl (by grind);have hlen:((List.range len).map λi=>(X i).1).length=len:=by simp
 refine⟨_,_,[.slice (some ⟨U.n,0,none⟩) len m],(List.range len).map λi=>(X i).1,hv,jT,.one ?_,⟨_,rfl,.inr ⟨U.n,0,m,c,⟨k.size,row⟩,false,false,by rw[hlen],by rw[hlen];exact hl,Heap.q0a _ _,rfl,?_,?_⟩⟩,?_,λy hy=>?_⟩
 .refine .sl _ _ _ _ _ _ (by simp) λp hp=>?_;simp[Plc.put] at hp;subst hp;simp_all
 .rw[hlen,b8,zS];exact zq _ hl
 .grind [Rows.range]
 .rw[hlen];exact zN hl hm
 grind
theorem View.listH {ρ:Plc}{U:Heap}(h:View w ρ U) {n:Nat}{k:Kind}{t e:TypeId}{fuel:Nat}{cs:List Value}{x:DataW H×List MemPlace}(hu:P.underlying t=some (.slice e)) (hs:P.cellsOf e=k.size) (hf:k.flat=true) (hk:KTy P n k e=true)
  (hx:DataW.trod enc P w 0 (λ_=>true) true fuel t cs=some x) (hA:∃ (b:Nat) (C:Array Value) (e:TypeId) (f:Nat×Nat),w.heap[b]?=some (Obj.cells C e f)):ArgIs w ρ U (.list k) cs:=by
 rcases open_slice hu hx with⟨rfl,_⟩|⟨a,len,cap,m,fu,D,Pl,rfl,hb,hl,hm,fD,_,hel⟩
 .exact⟨ρ,U,[.slice none 0 0],[],h,More.refl _ _,.one .nilSl,⟨_,rfl,.inl ⟨rfl,rfl⟩⟩,by simp[maxLen],λ_ hx=>by cases hx⟩
 simp only[zr] at fD;subst fD;rw[hs] at hel;have di:=k.size_pos;by_cases cf:m=0
 .
  subst cf;obtain rfl:len=0:=by omega
  obtain⟨b0,C0,e0,f0,oK⟩:=hA;obtain⟨hv,jT⟩:=h.add ⟨b0,0,0,⟨k.size,e0⟩,false⟩ [] oK (Nat.zero_le _) (zd _) rfl (λj v hj=>by simp at hj);refine⟨_,_,[.slice (some ⟨U.n,0,none⟩) 0 0],[],hv,jT,.one ?_,⟨_,rfl,.inr ⟨U.n,0,0,[],⟨k.size,e0⟩,false,false,rfl,zd _,Heap.q0a _ _,rfl,?_,?_⟩⟩,by simp[KWf],λy hy=>by cases hy⟩
  .refine .sl _ _ _ _ _ _ (by simp) (by omega)
  .simp
  .simpa using Rows.nil
 obtain⟨C,row,f,aD,aZ,eO⟩:∃ C row f,w.heap[a.block]?=some (Obj.cells C row f)/\a.off<=C.size/\a.spot=none:=by
  obtain⟨cs',h1,_⟩:=hel 0 (by omega);obtain⟨_,c1,c2⟩:=World.cells?_some h1;have c3:=c2 0 di;have e0:(a.add (0*k.size)).add 0=a:=by simp[Addr.add]
  rw[e0,z8 (by omega)] at c3;unfold World.cell? at c3;split at c3
  .rename_i C row f aD;split at c3
   .cases c3
   .rename_i hs;exact⟨C,row,f,aD,(by grind),by simpa using hs⟩
  .cases c3
 obtain⟨blk,off,spot⟩:=a;simp only at aD aZ eO;subst eO;have fz:∀ i,(⟨blk,off,none⟩:Addr).add i=⟨blk,off+i,none⟩:=λi=>by unfold Addr.add;split<;>simp_all
 obtain⟨X,hX⟩:=PM (α:=k.T×List Value) (m:=m) (p:=λi p=>p.2.length=k.size/\(∀ j,j<k.size->w.cell? ⟨blk,off+i*k.size+j,none⟩=p.2[j]?)/\(∀ h,KC h k p.1 p.2)/\KWf k p.1/\∀ ρ m,LRel ρ m p.2 p.2) λi hi=>by
  obtain⟨cs',h1,h2⟩:=hel i hi;obtain⟨_,k1,k2⟩:=World.cells?_some h1;obtain⟨y,m1,m2,m3⟩:=TJ hk hf h2;refine⟨(y,cs'),k1,λj hj=>?_,m1,m2,m3⟩;have:=k2 j hj;rw[fz] at this;have e2:(⟨blk,off+i*k.size,none⟩:Addr).add j=⟨blk,off+i*k.size+j,none⟩:=by unfold Addr.add;split<;>simp_all
  rw[e2] at this;exact this
 let c:List Value:=(List.range (m*k.size)).map λj=>((X (j / k.size)).2[j % k.size]?).getD undef;have b8:c.length=m*k.size:=by simp[c]
 have hdiv:∀ j,j<m*k.size->j / k.size<m:=λj hj=>Nat.div_lt_of_lt_mul (by rw[we];exact hj);have bC:∀ j,j<m*k.size->∃ v,c[j]?=some v/\w.cell? ⟨blk,off+j,none⟩=some v/\∀ ρ m,VRel ρ m v v:=λj hj=>by
  have h1:=hX (j / k.size) (hdiv j hj);have fR:j % k.size<k.size:=xG _ di;have h2:=h1.2.1 _ fR;have e:off+j / k.size*k.size+j % k.size=off+j:=by rw[zw,Nat.div_add_mod']
  rw[e] at h2;have h3:j % k.size<(X (j / k.size)).2.length:=by rw[h1.1];exact fR
  refine⟨(X (j / k.size)).2[j % k.size],?_,?_,fun ρ m=>(h1.2.2.2.2 ρ m).2 _ _ _ (z8 h3) (z8 h3)⟩
  .grind
  .rw[h2,z8 h3]
 have qy:∀ i,i<m->(c.drop (i*k.size)).take k.size=(X i).2:=λi hi=>by
  have h1:=hX i hi;have hle:i*k.size+k.size<=m*k.size:=by have:(i+1)*k.size<=m*k.size:=zq _ hi;rw[zD] at this;omega
  apply zI
  grind
 have aE:off+m*k.size<=C.size:=by
  rcases Nat.eq_zero_or_pos (m*k.size) with h0|h0
  .omega
  .obtain⟨v,_,h2,_⟩:=bC (m*k.size-1) (by omega);unfold World.cell? at h2
   grind
 obtain⟨hv,jT⟩:=h.add ⟨blk,off,m*k.size,⟨k.size,row⟩,false⟩ c aD aE (by simp[b8]) rfl (by grind);have hlen:((List.range len).map λi=>(X i).1).length=len:=by simp
 refine⟨_,_,[.slice (some ⟨U.n,0,none⟩) len m],(List.range len).map λi=>(X i).1,hv,jT,.one ?_,⟨_,rfl,.inr ⟨U.n,0,m,c,⟨k.size,row⟩,false,false,by rw[hlen],by rw[hlen];exact hl,Heap.q0a _ _,rfl,?_,?_⟩⟩,?_,λy hy=>?_⟩
 .refine .sl _ _ _ _ _ _ (by simp) λp hp=>?_;simp[Plc.put] at hp;subst hp;simp_all
 .rw[hlen,b8,zS];exact zq _ hl
 .grind [Rows.range]
 .rw[hlen];exact zN hl hm
 grind
theorem View.list2 {ρ:Plc}{U:Heap}(h:View w ρ U) {n:Nat}{k:Kind}{t e e2:TypeId}{fuel:Nat}{cs:List Value}{x:DataW H×List MemPlace}(hu:P.underlying t=some (.slice e)) (hs:P.cellsOf e=1)
  (jg:P.underlying e=some (.slice e2)) (bT:P.cellsOf e2=k.size) (hf:k.flat=true) (hk:KTy P n k e2=true)
  (hx:DataW.trod enc P w 0 (λ_=>true) true fuel t cs=some x) (aq:okc P w r base [t] cs):ArgIs w ρ U (.list (.list k)) cs:=by
 rcases open_slice hu hx with⟨rfl,_⟩|⟨a,len,cap,m,fu,D,Pl,rfl,hb,hl,hm,fD,_,hel⟩
 .exact⟨ρ,U,[.slice none 0 0],[],h,More.refl _ _,.one .nilSl,⟨_,rfl,.inl ⟨rfl,rfl⟩⟩,by simp[maxLen],λ_ hx=>by cases hx⟩
 simp only[zr] at fD;subst fD;rw[hs] at hel;have kZ:w.has P r base a e m:=by
  rcases T3 hu (aq 0 _ t rfl rfl) with hh|⟨a',qx,au,hh,h2⟩
  .cases hh
  .cases hh;exact h2
 obtain⟨C,row,f,aD,aZ,eO⟩:=E9 kZ;obtain⟨blk,off,spot⟩:=a;simp only at aD aZ eO;subst eO;have fz:∀ i,(⟨blk,off,none⟩:Addr).add i=⟨blk,off+i,none⟩:=λi=>by unfold Addr.add;split<;>simp_all
 have rows:∀ j,j<=m->∃ ρ' U',∃ vs:List Value,∃ xs:List (List k.T),View w ρ' U'/\More ρ U ρ' U'/\vs.length=j/\xs.length=j/\(∀ (i:Nat) v,vs[i]?=some v->∃ u,w.cell? ⟨blk,off+i,none⟩=some u/\VRel ρ' U'.n v u) /\
   Rows (KC U' (.list k)) xs vs/\∀ y∈xs,KWf (.list k) y:=by
  intro j;induction j with
  |zero=>exactλ_=>⟨ρ,U,[],[],h,More.refl _ _,rfl,rfl,λi v hi=>by simp at hi,.nil,λy hy=>by cases hy⟩
  |succ j ih =>
   intro hj;obtain⟨ρ1,σ1,vs,xs,k1,k2,k3,k4,k5,k6,k7⟩:=ih (by omega);obtain⟨cs',h1,h2⟩:=hel j (by omega);obtain⟨_,c1,c2⟩:=World.cells?_some h1;have c3:=c2 0 (by omega);obtain⟨u,rfl⟩:=zK.1 c1;have jC:((⟨blk,off,none⟩:Addr).add (j*1)).add 0=⟨blk,off+j,none⟩:=by rw[fz,w8];unfold Addr.add;split<;>simp_all
   rw[jC] at c3;have c4:w.cell? ⟨blk,off+j,none⟩=some u:=c3;obtain⟨ρ2,σ2,vv,y,m1,m2,m3,m4,m5⟩:=k1.listH jg bT hf hk h2 ⟨blk,C,row,f,aD⟩;have lW:vv.length=1:=by obtain⟨v,rfl,_⟩:=m4;rfl
   obtain⟨v,rfl⟩:=zK.1 lW;refine⟨ρ2,σ2,vs++[v],xs++[y],m1,k2.trans m2,by rw[zH,k3];rfl,by rw[zH,k4];rfl,λi v' hi=>?_,?_,λz hz=>?_⟩
   .by_cases cq:i<vs.length
    .rw[xd cq] at hi;obtain⟨u',g1,g2⟩:=k5 i v' hi;exact⟨u',g1,g2.mono m2.n m2.pl⟩
    .have gI:i<(vs++[v]).length:=(zm.1 hi).1;rw[zH,zT] at gI;have uK:i=j:=by omega
     subst uK;rw[xc (by omega),k3,xZ] at hi;obtain rfl:=osj hi;exact⟨u,c4,m3.2 0 _ _ rfl rfl⟩
   .exact(k6.mono λ_ _ hc=>KC.mono m2.le hc).append (by simpa using Rows.cons m4 .nil)
   .grind
 obtain⟨ρ1,σ1,vs,xs,k1,k2,k3,k4,k5,k6,k7⟩:=rows m (zd _);have aE:off+m<=C.size:=by
  rcases Nat.eq_zero_or_pos m with h0|h0
  .omega
  .obtain⟨u,h2,_⟩:=k5 (m-1) _ (z8 (by omega));unfold World.cell? at h2
   grind
 obtain⟨hv,jT⟩:=k1.add ⟨blk,off,m,⟨1,row⟩,false⟩ vs aD aE (by simp[k3]) rfl (λj v hj=>k5 j v hj);have hR:Rows (KC (σ1.push (.cells vs ⟨1,row⟩ false false)) (.list k)) xs vs:=k6.mono λ_ _ hc=>KC.mono jT.le hc;have hlen:(xs.take len).length=len:=by rw[xM,k4];omega
 have qz:(Kind.list k).size=1:=rfl;refine⟨_,_,[.slice (some ⟨σ1.n,0,none⟩) len m],xs.take len,hv,k2.trans jT,.one ?_,⟨_,rfl,.inr ⟨σ1.n,0,m,vs,⟨1,row⟩,false,false,by rw[hlen],by rw[hlen];exact hl,Heap.q0a _ _,rfl,?_,?_⟩⟩,?_,λy hy=>?_⟩
 .refine .sl _ _ _ _ _ _ (by simp) λp hp=>?_;simp[Plc.put] at hp;subst hp;simp_all
 .rw[qz,k3];omega
 .grind [Rows.take,KC.length]
 .rw[hlen];exact zN hl hm
 .exact k7 y (List.mem_of_mem_take hy)
def Kind.lev1:Kind->Bool
 |.list k=>k.flat||k.row
 |.pair a b=>a.lev1&&b.lev1
 |_=>true
theorem O3 {ts:List TypeId}{cs:List Value}(h:okc P w r base ts cs) (o n:Nat):okc P w r base ((ts.drop o).take n) ((cs.drop o).take n):=λi v u h1 h2=>by
 have hi:i<n:=by
  grind
 rw[List.getElem?_take_of_lt hi,zR] at h1 h2;exact h _ v u h1 h2
theorem RW {T:Kind->TypeId->Bool}{sz:TypeId->Nat}{g:TypeId->Option (List TypeId)}(hT:∀ k t ts,T k t=true->g t=some ts->ts.length=k.size) :
  ∀ {k:Kind}{L:List (TypeId×Nat)}{off:Nat}{gu:List (List TypeId)},KFs T sz k L off=true->L.mapM (λp=>g p.1)=some gu->∀ p∈L,off<=p.2/\g p.1=some ((gu.flatten.drop (p.2-off)).take (sz p.1))
 |k,[],_,_,h,_=>by simp[KFs] at h
 |k,[p],off,gu,h,hm=>by
  simp only[KFs,z1,zF] at h;intro p' hp;obtain rfl:=x6.1 hp;cases hg:g p'.1 with
  |none=>simp[hg] at hm
  |some ts =>
   simp[hg] at hm;subst hm;refine⟨by omega,?_⟩;rw[h.1,xZ,xt,h.2.1,x5]
   .simp
   .simp[hT _ _ _ h.2.2 hg]
 |.pair a b,p::q::r,off,gu,h,hm=>by
  simp only[KFs,z1,zF] at h;rw[zX] at hm;intro p' hp;cases hg:g p.1 with
  |none=>simp[hg] at hm
  |some ts =>
   cases hr:(q::r).mapM (λp=>g p.1) with
   |none=>simp[hg,hr] at hm
   |some tr =>
    simp[hg,hr] at hm;subst hm;have hlen:=hT _ _ _ h.2.2.1 hg;rcases zG.1 hp with rfl|hp
    .simp_all
    .obtain⟨h1,h2⟩:=RW hT h.2.2.2 hr p' hp
     grind [List.drop_eq_nil_of_le,List.flatten_cons,List.drop_append]
 |.i _,_::_::_,_,_,h,_|.bo,_::_::_,_,_,h,_|.st,_::_::_,_,_,h,_|.list _,_::_::_,_,_,h,_=>by cases h
theorem CG:∀ {n:Nat}{k:Kind}{t:TypeId}{d:Nat}{ts:List TypeId}{fuel:Nat}{cs:List Value}{x:DataW H×List MemPlace},KTy P n k t=true->k.lev1=true->P.cellTypes d t=some ts->okc P w r base ts cs->DataW.trod enc P w 0 (λ_=>true) true fuel t cs=some x->∀ ρ U,View w ρ U->ArgIs w ρ U k cs
 |0,_,_,_,_,_,_,_,h,_,_,_,_=>by cases h
 |_+1,_,_,0,_,_,_,_,_,_,h,_,_=>by cases h
 |n+1,k,t,d+1,ts,fuel,cs,x,h,hf,eH,aq,hx=>by
  intro ρ U hv;by_cases fY:k.flat=true
  .obtain⟨y,h1,h2,h3⟩:=TJ h fY hx;exact⟨ρ,U,cs,y,hv,More.refl _ _,h3 _ _,h1 _,h2⟩
  unfold KTy at h;cases hu:P.underlying t with
  |none=>rw[hu] at h;cases h
  |some u =>
   rw[hu] at h;let Q:TypeId->List Value->Prop:=λt cs=>(∃ fuel x,DataW.trod enc P w 0 (λ_=>true) true fuel t cs=some x)/\∃ ts,P.cellTypes d t=some ts/\okc P w r base ts cs;let R:Kind->List Value->Prop:=λk cs=>k.lev1=true->∀ ρ U,View w ρ U->ArgIs w ρ U k cs;have hR:∀ a b cs ds,R a cs->R b ds->R (.pair a b) (cs++ds):=λa b cs ds h1 h2 hl ρ U hv=>by simp only[Kind.lev1,z1] at hl;exact(h1 hl.1 ρ U hv).pair fun ρ U hv=>h2 hl.2 ρ U hv
   have hT:∀ k t cs,KTy P n k t=true->Q t cs->R k cs:=λk t cs h1 ⟨⟨fuel,x,h2⟩,ts,h3,h4⟩ hl=>CG h1 hl h3 h4 h2;have hlen:∀ k t ts,KTy P n k t=true->P.cellTypes d t=some ts->ts.length=k.size:=λk t ts h1 h2=>FY h1 h2;unfold Program.cellTypes at eH;rw[hu] at eH;cases u<;>first|(cases h;done)|skip
   all_goals simp only at h
   .split at h<;>first|(cases h;done)|(exact absurd rfl fY)
   .split at h<;>first|(cases h;done)|(exact absurd rfl fY)
   .split at h<;>first|(cases h;done)|(exact absurd rfl fY)
   .rename_i e;split at h<;>first|(cases h;done)|skip
    simp only[z1,zF] at h;simp only[zY] at eH;subst eH;rcases zo _ _▸h.2.1 with hk|hk
    .exact hv.list hu h.1 hk h.2.2 hx aq
    .rename_i k';rw[z1] at hk;obtain⟨hk,ez⟩:=hk;cases k'<;>first|(cases hk;done)|skip
     rename_i k2;have h3:=h.2.2;unfold Z5q at ez;split at ez<;>first|(cases ez;done)|skip
     rename_i e2 jg;cases n with
     |zero=>cases h3
     |succ n =>unfold KTy at h3;rw[jg] at h3;simp only[z1,zF] at h3;exact hv.list2 hu h.1 jg h3.1 hk h3.2.2 hx aq
   .rename_i m e;simp only[z1,zF] at h;obtain⟨xs,m',_,_,hl,dH,hx⟩:=DataW.trod_array hu hx;simp only at eH;cases hc:P.cellTypes d e with
    |none=>rw[hc] at eH;cases eH
    |some te =>
     rw[hc] at eH;obtain rfl:=osj eH;have mA:((List.range m).map λi=>(e,i*P.cellsOf e)).mapM (λp:TypeId×Nat=>P.cellTypes d p.1)=some (List.replicate m te):=by rw[Hv,Pf (x:=te) (λ_=>hc)];simp
     have:=Hg (Q:=Q) (R:=R) hT hR cs h.2 (λp hp=>by
      have lU:=RW (g:=λt=>P.cellTypes d t) hlen h.2 mA p hp
      grind [List.getElem?_eq_getElem,O3]) hf ρ U hv
     rwa [xt,x5 (by omega)] at this
   .rename_i fs;simp only[z1,zF] at h;obtain⟨xs,m',_,_,hl,dH,hx⟩:=DataW.trod_struct hu hx;simp only at eH;cases hc:fs.toList.mapM λf=>P.cellTypes d f.type with
    |none=>rw[hc] at eH;cases eH
    |some gu =>
     rw[hc] at eH;obtain rfl:=osj eH;have mA:(fs.toList.map λf=>(f.type,f.offset)).mapM (λp:TypeId×Nat=>P.cellTypes d p.1)=some gu:=by rw[Hv];exact hc
     have:=Hg (Q:=Q) (R:=R) hT hR cs h.2 (λp hp=>by
      have lU:=RW (g:=λt=>P.cellTypes d t) hlen h.2 mA p hp
      grind [HJ,Array.getElem?_eq_some_iff,List.getElem?_eq_getElem,O3]) hf ρ U hv
     rwa [xt,x5 (by omega)] at this
def isAgg (P:Program) (t:TypeId):Bool:=match P.underlying t with
 |some (.struct _)=>true
 |some (.array _ _)=>true
 |_=>false
theorem View.arg {ρ:Plc}{U:Heap}(h:View w ρ U) {n:Nat}{k:Kind}{t:TypeId}{v:Value}{d:DataW H}{p:List MemPlace}(hk:KTy P n k t=true) (hl:k.lev1=true) (ha:isAgg P t=!k.one) (aq:Value.okWide P w r base t v) (hd:DataW.Trod enc P w 0 (λ_=>true) true t v d p) :
  ∃ ρ' U' vv x,View w ρ' U'/\More ρ U ρ' U'/\VRel ρ' U'.n vv v/\KV U' k x vv/\KWf k x:=by
 obtain⟨fuel,hd⟩:=hd;by_cases fL:isAgg P t=true
 .have bp:k.one=false:=by rw[fL] at ha;simpa using ha.symm
  have:∃ cs,v=.agg cs/\cs.size=P.cellsOf t/\Row.okWide P w r base t cs:=by
   unfold isAgg at fL;unfold Value.okWide at aq
   grind
  obtain⟨cs,rfl,aE,ts,eH,_,cH⟩:=this;have hlen:=FY hk eH;have aA:P.cellsOf t=k.size:=by
   unfold isAgg at fL;cases n with
   |zero=>cases hk
   |succ n =>
    unfold KTy at hk;split at fL<;>first|(cases fL;done)|skip
    all_goals
     rename_i hu;rw[hu] at hk;simp only[z1,zF] at hk;exact hk.1
  have k_:okc P w r base ts cs.toList:=λi v u h1 h2=>by
   grind [List.getElem?_eq_some_iff,Nat.mod_eq_of_lt,osj]
  obtain⟨ρ',U',vs,x,k1,k2,k3,k4,k5⟩:=CG hk hl eH k_ (show DataW.trod enc P w 0 _ true fuel t cs.toList=_ from hd) ρ U h;exact⟨ρ',U',.agg vs.toArray,x,k1,k2,VRel.q1l (ds:=cs.toList) k3,.inr ⟨bp,vs,rfl,k4⟩,k5⟩
 .have bp:k.one=true:=by
   simp_all
  have hZ:=Kind.q1o bp;have bC:Cell.okWide P w r base t v/\v.cells.toList=[v]:=by
   have h1:isAgg P t=false:=by simpa using fL
   unfold isAgg at h1;have h2:Cell.okWide P w r base t v:=by
    unfold Value.okWide at aq
    grind
   refine⟨h2,?_⟩;cases v<;>first|rfl|skip
   all_goals
    exfalso;cases n with
    |zero=>cases hk
    |succ n =>
     unfold KTy at hk;unfold Cell.okWide Cell.ok at h2;cases hu:P.underlying t with
     |none=>rw[hu] at hk;cases hk
     |some u =>rw[hu] at hk h2 h1;cases u<;>first|(cases hk;done)|(cases h1;done)|(cases h2;done)|(simp at h2;done)
  have eH:P.cellTypes 1 t=some [t]:=by
   have h1:isAgg P t=false:=by simpa using fL
   unfold isAgg at h1;unfold Program.cellTypes;cases n with
   |zero=>cases hk
   |succ n =>
    unfold KTy at hk;cases hu:P.underlying t with
    |none=>rw[hu] at hk;cases hk
    |some u =>rw[hu] at h1;cases u<;>first|rfl|(cases h1;done)
  rw[bC.2] at hd;have k_:okc P w r base [t] [v]:=λi v' u h1 h2=>by
   grind
  obtain⟨ρ',U',vs,x,k1,k2,k3,k4,k5⟩:=CG hk hl eH k_ hd ρ U h;have:vs.length=1:=by rw[KC.length k4];exact hZ
  obtain⟨vv,rfl⟩:=zK.1 this;exact⟨ρ',U',vv,x,k1,k2,k3.2 0 _ _ rfl rfl,.inl ⟨bp,k4⟩,k5⟩
def AWf:(ks:List Kind)->AT ks->Prop
 |[],_=>True
 |[k],x=>KWf k x
 |k::k'::ks,x=>KWf k x.1/\AWf (k'::ks) x.2
def Q97 (P:Program):List Kind->List TypeId->Bool
 |[],[]=>true
 |k::ks,t::ts=>(KTy P 8 k t&&(k.lev1&&(isAgg P t==!k.one)))&&Q97 P ks ts
 |_,_=>false
theorem View.args:∀ {ks:List Kind}{ts:List TypeId}{vs:List Value}{ds:List (DataW H)}{ps:List MemPlace}{ρ:Plc}{U:Heap},View w ρ U->Q97 P ks ts=true->(∀ (j:Nat) t v,ts[j]?=some t->vs[j]?=some v->Value.okWide P w r base t v)->DataW.TrodAll enc P w 0 (λ_=>true) true ts vs ds ps ->
  ∃ ρ' U' lM x,View w ρ' U'/\More ρ U ρ' U'/\LRel ρ' U'.n lM vs/\C8 U' ks x lM/\AWf ks x
 |[],[],vs,ds,ps,ρ,U,h,_,_,hA=>by obtain⟨rfl,rfl,rfl⟩:=trodAll_nil hA;exact⟨ρ,U,[],(),h,More.refl _ _,.nil _ _,rfl,trivial⟩
 |[k],[t],vs,ds,ps,ρ,U,h,hk,hv,hA=>by obtain⟨v,cy,d,ds',p,q,rfl,rfl,rfl,h1,h2⟩:=trodAll_cons hA;obtain⟨rfl,rfl,rfl⟩:=trodAll_nil h2;simp only[Q97,z1,zF] at hk;obtain⟨ρ',U',vv,x,k1,k2,k3,k4,k5⟩:=h.arg hk.1.1 hk.1.2.1 hk.1.2.2 (hv 0 t v rfl rfl) h1;exact⟨ρ',U',[vv],x,k1,k2,.one k3,⟨vv,rfl,k4⟩,k5⟩
 |k::k'::ks,t::ts,vs,ds,ps,ρ,U,h,hk,hv,hA=>by obtain⟨v,cy,d,ds',p,q,rfl,rfl,rfl,h1,h2⟩:=trodAll_cons hA;simp only[Q97,z1,zF] at hk;obtain⟨ρ1,σ1,vv,x,k1,k2,k3,k4,k5⟩:=h.arg hk.1.1 hk.1.2.1 hk.1.2.2 (hv 0 t v rfl rfl) h1;obtain⟨ρ2,σ2,lM,y,m1,m2,m3,m4,m5⟩:=k1.args (ks:=k'::ks) hk.2 (λj t v h1 h2=>hv (j+1) t v h1 h2) h2;exact⟨ρ2,σ2,vv::lM,(x,y),m1,k2.trans m2,.cons (k3.mono m2.n m2.pl) m3,⟨vv,lM,rfl,k4.vcall m2.le,m4⟩,k5,m5⟩
 |[],_::_,_,_,_,_,_,_,hk,_,_|_::_,[],_,_,_,_,_,_,hk,_,_|[_],_::_::_,_,_,_,_,_,_,hk,_,_=>by simp[Q97] at hk
theorem Q39 (hT:Z3s w) {f:Nat}{sp:CSp}(eO:OkC P f sp) (he:Xz P f) {ks:List Kind}{ts:List TypeId}{args:Array Value}{ds:List (DataW H)}{ps:List MemPlace}(hk:Q97 P ks ts=true)
  (hv:∀ (j:Nat) t v,ts[j]?=some t->args.toList[j]?=some v->Value.okWide P w r base t v) (hA:DataW.TrodAll enc P w 0 (λ_=>true) true ts args.toList ds ps)
  (hs:∀ x:AT ks,AWf ks x->∃ c,sp (λ_ _=>none) (Am ks x)=some (c,.val .bo true,[])/\c):Calls P f args w λe w'=>e=.returned (.bool true)/\Below w.heap.size w w':=by
 obtain⟨ρ,U,lM,x,k1,k2,k3,k4,k5⟩:=(View.emptyT w hT).args hk hv hA;obtain⟨c,h1,h2⟩:=hs x k5;exact k1.calls k3 (eO.true he (Bz k4) h1 h2)
end
end Go.V
namespace Go.V
open Go
theorem RC {H:Type}{enc:TypeId×Value->H}{P:Program}{w:World}{b:Nat}{sp:Nat->Bool}{hd:Bool}:∀ {ts:List TypeId}{vs:List Value}{ds:List (DataW H)}{ps:List MemPlace},DataW.TrodAll enc P w b sp hd ts vs ds ps->ds.length=ts.length
 |[],[],[],_,_=>rfl
 |t::ts,v::vs,d::ds,ps,h=>by obtain⟨p,q,_,h2,_⟩:=h;simp[RC h2]
 |[],[],_::_,_,h|[],_::_,_,_,h|_::_,[],_,_,h|_::_,_::_,[],_,h=>h.elim
end Go.V
namespace Go.Proofs.Tryz
open Go Go.V
def Z6e:List (Option FEnt):=[
 none,
 none,
 some (.code c2 [] 1),
 some (.code c3 [.tmp 4] 222),
 some (.code c4 [.cell 2 true 4] 8),
 some (.code c5 [.cell 2 true 2] 9),
 some (.code c6 [.tmp 4,.tmp 5,.tmp 6,.tmp 7] 58),
 some (.code c7 [.cell 6 false 1,.tmp 7] 48),
 some (.code c8 [.cell 2 true 4] 10),
 some (.code c9 [.tmp 6,.tmp 7] 38),
 some (.code c10 [.cell 4 true 2,.tmp 5] 33),
 some (.code c11 [.cell 2 true 2] 9),
 some (.code c12 [.tmp 0] 29),
 some (.code c13 [.tmp 0] 31),
 some (.code c14 [.tmp 0] 52),
 some (.code c15 [.cell 2 true 2] 48),
 some (.code c16 [.cell 2 true 2] 51),
 some (.code c17 [.tmp 2] 6),
 some (.code c18 [.tmp 2] 18),
 some (.code c19 [.tmp 4] 19),
 some (.code c20 [.tmp 2] 8),
 some (.code c21 [.tmp 2] 8),
 some (.code c22 [.tmp 4] 6),
 some (.code c23 [.tmp 6] 18),
 some (.codeJ c24 [.tmp 4] 79),
 some (.code c25 [.tmp 4] 16),
 some (.code c26 [.tmp 4,.tmp 5,.tmp 6,.tmp 7] 47),
 some (.code c27 [.cell 4 true 2] 47),
 some (.codeJ c28 [.cell 6 true 2,.tmp 7,.tmp 8] 84),
 some (.code c29 [.tmp 4] 26),
 some (.codeJ c30 [.cell 4 true 2,.tmp 5,.tmp 6] 78),
 some (.codeJ c31 [.tmp 4,.tmp 5] 43),
 some (.code c32 [.tmp 4] 26),
 some (.code c33 [.cell 4 false 1,.tmp 5,.tmp 6] 44),
 some (.code c34 [.cell 6 false 1,.cell 7 false 1,.cell 8 false 1] 35),
 some (.code c35 [.tmp 2] 28),
 some (.code c36 [.tmp 2] 14),
 some (.code c37 [.tmp 2] 14),
 some (.code c38 [.tmp 2] 21),
 some (.code c39 [.tmp 2] 35),
 some (.code c40 [] 37),
 some (.code c41 [.tmp 4] 21),
 some (.code c42 [.tmp 6] 11),
 some (.code c43 [.tmp 2] 8),
 some (.code c44 [.tmp 2] 8),
 some (.code c45 [] 9),
 some (.code c46 [.tmp 4] 12),
 some (.code c47 [.tmp 2] 8),
 some (.code c48 [.tmp 0] 3),
 some (.code c49 [.tmp 2] 27),
 some (.code c50 [.tmp 4] 23),
 some (.code c51 [.tmp 2] 17),
 some (.code c52 [.tmp 6] 11),
 some (.code c53 [.tmp 2,.tmp 3] 102),
 some (.code c54 [.tmp 6] 11),
 some (.code c55 [.tmp 4] 48),
 some (.code c56 [.tmp 2] 32),
 some (.code c57 [.tmp 4] 22),
 some (.code c58 [.tmp 3] 21),
 some (.code c59 [.tmp 2] 24),
 some (.code c60 [.tmp 4] 9),
 some (.code c61 [] 27),
 some (.code c62 [.tmp 4] 9),
 some (.code c63 [.tmp 3] 9),
 some (.code c64 [.tmp 4] 80),
 some (.code c65 [.tmp 4] 9),
 some (.code c66 [.tmp 4] 9),
 some (.code c67 [.tmp 4] 13),
 some (.code c68 [] 63),
 some (.code c69 [] 18),
 some (.code c70 [] 36),
 some (.code c71 [] 34),
 some (.code c72 [] 35),
 some (.code c73 [] 11),
 some (.code c74 [.tmp 3] 13),
 some (.code c75 [.tmp 4] 43),
 some (.code c76 [.tmp 4] 9),
 some (.code c77 [.tmp 2] 4),
 some (.code c78 [.tmp 4] 13),
 some (.code c79 [.cell 4 true 4] 20),
 some (.code c80 [.tmp 6] 29),
 some (.code c81 [.tmp 4] 81),
 some (.code c82 [.tmp 2] 4),
 some (.code c83 [.cell 6 true 4,.tmp 7] 40),
 some (.code c84 [.tmp 4] 13),
 some (.code c85 [.tmp 4,.tmp 5] 30),
 some (.code c86 [.tmp 2] 5),
 some (.code c87 [.tmp 4] 6),
 some (.code c88 [.tmp 4] 17),
 some (.code c89 [.tmp 2] 4),
 some (.code c90 [.tmp 6] 17),
 some (.code c91 [.tmp 2] 14),
 some (.code c92 [.tmp 4] 19),
 some (.code c93 [] 96),
 some (.code c94 [.tmp 4] 26),
 some (.code c95 [.tmp 3] 19),
 some (.code c96 [.tmp 4] 19),
 some (.code c97 [.tmp 4] 19),
 some (.code c98 [] 53),
 some (.code c99 [] 220),
 some (.code Z53 [.tmp 4] 17),
 some (.code Z5y [.tmp 4] 23),
 some (.code Z5a [.cell 2 true 256,.tmp 3] 21),
 some (.code Z4y [.tmp 4] 16),
 some (.code Z55 [.tmp 4] 22),
 some (.code Z5t [.tmp 4] 23),
 some (.code Z6d [.tmp 4] 34),
 some (.code Z4n [.tmp 4] 19),
 some (.code Z51 [] 19),
 some (.code Z56 [.tmp 4,.tmp 5] 17),
 some (.code Z5j [.tmp 4,.tmp 5] 51),
 some (.code Z5w [.tmp 4] 13),
 some (.code Z5m [] 22),
 some (.code Z47 [] 20),
 some (.code Z64 [] 58),
 some (.code Z60 [.tmp 4] 10),
 some (.code Z5n [.tmp 2,.tmp 3] 19),
 some (.code Z69 [.tmp 4] 9),
 some (.code Z5v [.tmp 2,.tmp 3] 51),
 some .same,
 some (.code Z6b [] 38),
 some (.code Z50 [.tmp 2,.tmp 3] 117),
 some (.code Z5i [.tmp 4] 187),
 some (.code Z66 [.tmp 2] 6),
 some (.code Z65 [.tmp 4] 8),
 some (.code Z5c [.tmp 2] 17),
 some (.code Z5k [.tmp 2] 6),
 none,
 some (.code Z5p [.tmp 4] 8)]
def tab:Tab:=λf=>(Z6e[f]?).join
theorem Q8f:EntsOk Tryz.prog 0 Z6e:=⟨trivial,trivial,Z6q,fun3,Z57,Z5u,Z59,Z52,Z5g,Z4a,Z25,Z09,Q9f,Z0i,Z0v,Q9h,Q9z,Z2b,Q9x,Z1d,Z2s,Z2d,Q9k,Z0p,Q7t,Z2o,Z1u,Z0e,Z4m,Z3e,Z3g,Z1w,Z3q,Z4p,Z3j,Z0y,Z3w,Z12,Z4s,Q9e,Z0c,Z0s,Q9g,Z2z,Q8r,Z2k,Z1g,Z2n,Q8e,Z2c,Z08,Z1t,Z07,Z4t,Q9s,Z4o,Z4h,Z2h,Z4e,Z0o,Z3d,Z3l,Z42,Z2g,Z0r,Z0w,Z2q,Z22,Z1k,Q8q,Q76,Q8b,Q7n,Q8h,Q9n,fun75,Z1a,Z1x,Z00,Z4k,Z41,Z3y,Z3a,Z4l,Z0u,Z4v,Z4c,Z3x,Z1b,Z0f,Z2j,Q9y,Z48,Z3m,Z3v,Z3f,Z19,Z15,Z2i,Z4f,Z10,Z01,Z0j,Z0l,Z1y,Z1f,Z2t,Q6o,Z1v,Z0g,Z0q,Z04,Z27,Q6j,Z2v,Q9j,Z2e,Z0d,Z0z,FO,Z1z,Z0n,Z2u,Z06,Z1l,Z17,Q9u,trivial,Z1o,trivial⟩
theorem Q2k:TabOk Tryz.prog tab:=Q49 Q8f
theorem OV:Ll tab 300 UX [] c13 none (ET.of [] 31) CH.empty (Q5x false [.tmp 0] λv _=>isTrue v)=true:=by kernel_rfl
theorem Ou {U:Heap}{K:Value->Heap->Prop}(hK:K (.bool true) U):VCalled Tryz.prog 13 [] U K:=Al mixed Q2k 300 Z0i (by decide) OV hK
end Go.Proofs.Tryz