/- A framework for walks, contracts of functions, and their proofs: part 14. -/
import Derived.Test.YtfblnfcecfjbpaaGreatT13
set_option linter.unusedVariables false
set_option maxRecDepth 100000
namespace Go.Proofs.Tryz
open Go Go.V Go.Proofs
theorem TR {l:List Int}(h:KWf (.list (.i .u8)) l):l.length<=9223372036854775807/\∀ x∈l,0<=x/\x<=255:=⟨h.1,λx hx=>(Q43 x).1 (h.2 x hx)⟩
theorem loomPre_of {x:List Int×Int×List Int×List Int}(h:KWf (.pair (.list (.i .u8)) (.pair (.i .u8) (.pair (.list (.i .u8)) (.list (.i .u8))))) x):x.1.length<=9223372036854775807/\(∀ y∈x.1,0<=y/\y<=255)/\0<=x.2.1/\x.2.1<=255/\x.2.2.1.length<=9223372036854775807/\(∀ y∈x.2.2.1,0<=y/\y<=255)/\x.2.2.2.length<=9223372036854775807/\(∀ y∈x.2.2.2,0<=y/\y<=255):=by obtain⟨h1,h2,h3,h4⟩:=h;have h2:=(Q43 x.2.1).1 h2;exact⟨(TR h1).1,(TR h1).2,h2.1,h2.2,(TR h3).1,(TR h3).2,(TR h4).1,(TR h4).2⟩
def Tf:AL (Unit):=.nil
def PN (d:Unit):Prop:=True
def PC (d:Unit):SV:=.val .bo true
def PZ (d:Unit):List OB:=[]
def DY:CSp:=V5 Tf PN PC PZ
abbrev Th:Prop:=OkC Tryz.prog 15 DY
theorem Tq:Th:=Q09 λ_ _ h=>Q22 h
def V4:AL (List Int×Int×List Int×List Int):=(.one (.agg (.cons (.k (.list (.i .u8))) (.cons (.k (.i .u8)) (.cons (.k (.list (.i .u8))) (.one (.k (.list (.i .u8)))))))))
def GB (d:List Int×Int×List Int×List Int):Prop:=d.1.length<=9223372036854775807/\(∀ x∈d.1,0<=x/\x<=255)/\0<=d.2.1/\d.2.1<=255/\d.2.2.1.length<=9223372036854775807/\(∀ x∈d.2.2.1,0<=x/\x<=255)/\d.2.2.2.length<=9223372036854775807/\(∀ x∈d.2.2.2,0<=x/\x<=255)
def Kc (d:List Int×Int×List Int×List Int):SV:=.val .bo true
def KR (d:List Int×Int×List Int×List Int):List OB:=[]
def Uh:CSp:=V5 V4 GB Kc KR
abbrev Qd (rw:List Int) (fi:Int) (sp:List Int) (sn:List Int):=(ZU (3:Int) (Q4 rw) (ZW rw fi sp sn (6:Int)) (trF rw fi sp (6:Int) (trM sp)))
abbrev Qi (rw:List Int) (fi:Int) (sp:List Int) (sn:List Int):=(Ui (3:Int) (Q4 rw) (ZW rw fi sp sn (6:Int)))
abbrev QL (rw:List Int) (fi:Int) (sp:List Int) (sn:List Int):=(Y7 (3:Int) (Q4 rw) (ZW rw fi sp sn (6:Int)))
abbrev RH (rw:List Int) (fi:Int) (sp:List Int) (sn:List Int):=(((3:Int)=(3:Int)/\True/\(([]:List SV)=[]))/\((Q4 rw)=(Q4 rw)/\false=false)/\((K_ rw fi sp (6:Int))=(K_ rw fi sp (6:Int))/\(List.isEmpty (K_ rw fi sp (6:Int)))=(List.isEmpty (K_ rw fi sp (6:Int))))/\((ZW rw fi sp sn (6:Int))=(ZW rw fi sp sn (6:Int))/\(List.isEmpty (ZW rw fi sp sn (6:Int)))=(List.isEmpty (ZW rw fi sp sn (6:Int))))/\((Qi rw fi sp sn)=(Qi rw fi sp sn)/\(List.isEmpty (Qi rw fi sp sn))=(List.isEmpty (Qi rw fi sp sn)))/\((Qd rw fi sp sn)=(Qd rw fi sp sn)/\(List.isEmpty (Qd rw fi sp sn))=(List.isEmpty (Qd rw fi sp sn)))/\((GY (3:Int) (Q4 rw) (QL rw fi sp sn) (Qi rw fi sp sn))=(GY (3:Int) (Q4 rw) (QL rw fi sp sn) (Qi rw fi sp sn))/\(List.isEmpty (GY (3:Int) (Q4 rw) (QL rw fi sp sn) (Qi rw fi sp sn)))=(List.isEmpty (GY (3:Int) (Q4 rw) (QL rw fi sp sn) (Qi rw fi sp sn))))/\True)
abbrev ZO (rw:List Int) (fi:Int) (sp:List Int) (sn:List Int):=(G0 (3:Int) (Q4 rw) (ZW rw fi sp sn (6:Int)))
abbrev XE (rw:List Int) (fi:Int) (sp:List Int) (sn:List Int):=(Vz (3:Int) (Q4 rw) (QL rw fi sp sn) (Qi rw fi sp sn))
abbrev RK (rw:List Int) (fi:Int) (sp:List Int) (sn:List Int):=(((3:Int)=(3:Int)/\True/\(([]:List SV)=[]))/\((Q4 rw)=(Q4 rw)/\false=false)/\((K_ rw fi sp (6:Int))=(K_ rw fi sp (6:Int))/\(List.isEmpty (K_ rw fi sp (6:Int)))=(List.isEmpty (K_ rw fi sp (6:Int))))/\((Qi rw fi sp sn)=(Qi rw fi sp sn)/\(List.isEmpty (Qi rw fi sp sn))=(List.isEmpty (Qi rw fi sp sn)))/\((Qd rw fi sp sn)=(Qd rw fi sp sn)/\(List.isEmpty (Qd rw fi sp sn))=(List.isEmpty (Qd rw fi sp sn)))/\True)
abbrev Rt (rw:List Int) (fi:Int) (sp:List Int) (sn:List Int):=((((((((V0 (3:Int) (Q4 rw) (ZW rw fi sp sn (6:Int))) != (0:Int))||((0:Int) != (0:Int)))||((0:Int) != (0:Int)))||(decide ((ZO rw fi sp sn) > (trF rw fi sp (6:Int) (trM sp)))))||(decide ((ZO rw fi sp sn)<(0:Int))))||(decide ((Tr (3:Int) (Q4 rw) (ZW rw fi sp sn (6:Int)) (trF rw fi sp (6:Int) (trM sp)))<(1:Int))))||((lI (Qi rw fi sp sn)) != (lI (K_ rw fi sp (6:Int)))))
abbrev Yf (rw:List Int) (fi:Int) (sp:List Int) (sn:List Int):=(GY (3:Int) (Q4 rw) (QL rw fi sp sn) (Qi rw fi sp sn))
abbrev S2 (rw:List Int) (fi:Int) (sp:List Int) (sn:List Int):=(((K_ rw fi sp (6:Int))=(K_ rw fi sp (6:Int))/\(List.isEmpty (K_ rw fi sp (6:Int)))=(List.isEmpty (K_ rw fi sp (6:Int))))/\((Qi rw fi sp sn)=(Qi rw fi sp sn)/\(List.isEmpty (Qi rw fi sp sn))=(List.isEmpty (Qi rw fi sp sn)))/\True)
abbrev Zr (rw:List Int) (fi:Int) (sp:List Int):=(trF rw fi sp (6:Int) (trM sp))
abbrev Ki (rw:List Int) (fi:Int) (sp:List Int) (sn:List Int):=(decide ((QL rw fi sp sn)<=(trA rw fi sp (6:Int) 0)))
abbrev HP (rw:List Int) (fi:Int) (sp:List Int) (sn:List Int):=(QF (3:Int) (Q4 rw)=0/\(ZW rw fi sp sn (6:Int)).length<=60/\(∀ r∈(ZW rw fi sp sn (6:Int)),-1<=r/\r<2 ^ (3:Int).toNat)/\0<=(Zr rw fi sp)/\(Zr rw fi sp)<=6)
abbrev Jz (rw:List Int) (fi:Int) (sp:List Int):=(trA rw fi sp (6:Int) (trM sp))
def JP (rw:List Int) (fi:Int) (sp:List Int) (sn:List Int):Prop :=
 (rw.length<=9223372036854775807/\(∀ x∈rw,0<=x/\x<=255)/\0<=fi/\fi<=255/\sp.length<=9223372036854775807/\(∀ x∈sp,0<=x/\x<=255)/\sn.length<=9223372036854775807/\(∀ x∈sn,0<=x/\x<=255))/\(rw.length<=9223372036854775807/\(∀ x∈rw,0<=x/\x<=255)/\0<=fi/\fi<=255/\sp.length<=9223372036854775807/\(∀ x∈sp,0<=x/\x<=255)/\sn.length<=9223372036854775807/\(∀ x∈sn,0<=x/\x<=255)/\0<=(6:Int)/\(6:Int)<=6)/\((Q4 rw).length<=1000)/\((ZW rw fi sp sn (6:Int)).length<=1000)/\(QF (3:Int) (Q4 rw)=0/\(ZW rw fi sp sn (6:Int)).length<=60/\(∀ r∈(ZW rw fi sp sn (6:Int)),-1<=r/\r<2 ^ (3:Int).toNat))/\((Q4 rw).length<=1000)/\((ZW rw fi sp sn (6:Int)).length<=1000)/\(HP rw fi sp sn)/\((Q4 rw).length<=1000)/\((ZW rw fi sp sn (6:Int)).length<=1000)/\(HP rw fi sp sn)/\((Rt rw fi sp sn)=true ->
  (false=true/\(True))) /\
 ((Rt rw fi sp sn)=false ->
  ((Q4 rw).length<=1000)/\((Qi rw fi sp sn).length<=1000)/\((Q4 rw).length<=1000/\(Qi rw fi sp sn).length<=1000)/\((((J4 (3:Int) (Q4 rw) (QL rw fi sp sn) (Qi rw fi sp sn)) != (0:Int))||((lI (Yf rw fi sp sn)) != (lI (ZW rw fi sp sn (6:Int)))))=true ->
   (false=true/\(True))) /\
  ((((J4 (3:Int) (Q4 rw) (QL rw fi sp sn) (Qi rw fi sp sn)) != (0:Int))||((lI (Yf rw fi sp sn)) != (lI (ZW rw fi sp sn (6:Int)))))=false ->
   ∃ (e3:Unit) (d30:Int×Int),((True/\(trA rw fi sp (6:Int) 0)=(trA rw fi sp (6:Int) 0)/\True/\True/\(Zr rw fi sp)=(Zr rw fi sp)/\(Jz rw fi sp)=(Jz rw fi sp)/\(QL rw fi sp sn)=(QL rw fi sp sn)/\True/\(ZO rw fi sp sn)=(ZO rw fi sp sn)/\True/\True/\(XE rw fi sp sn)=(XE rw fi sp sn)/\(0:Int)=d30.1/\false=false/\false=false/\(0:Int)=d30.2/\True)/\(((3:Int)=(3:Int)/\True/\(([]:List SV)=[]))/\((Q4 rw)=(Q4 rw)/\false=false)/\((K_ rw fi sp (6:Int))=(K_ rw fi sp (6:Int))/\(K_ rw fi sp (6:Int)).isEmpty=(List.isEmpty (K_ rw fi sp (6:Int))))/\((ZW rw fi sp sn (6:Int))=(ZW rw fi sp sn (6:Int))/\(ZW rw fi sp sn (6:Int)).isEmpty=(List.isEmpty (ZW rw fi sp sn (6:Int))))/\((Qi rw fi sp sn)=(Qi rw fi sp sn)/\(Qi rw fi sp sn).isEmpty=(List.isEmpty (Qi rw fi sp sn)))/\((Qd rw fi sp sn)=(Qd rw fi sp sn)/\(Qd rw fi sp sn).isEmpty=(List.isEmpty (Qd rw fi sp sn)))/\((Yf rw fi sp sn)=(Yf rw fi sp sn)/\(Yf rw fi sp sn).isEmpty=(List.isEmpty (Yf rw fi sp sn)))/\True)) /\
   LoopP (λ(d3:Int×Int) (q3:(Int×Int)->Prop) =>
    ((decide (d3.2<(lI (Qi rw fi sp sn))))=true ->
     (0<=d3.2)/\(d3.2<(List.length (ZW rw fi sp sn (6:Int))))/\((decide ((gD (ZW rw fi sp sn (6:Int)) d3.2 0)>=(0:Int)))=true->0<=d3.2)/\((decide ((gD (ZW rw fi sp sn (6:Int)) d3.2 0)>=(0:Int)))=true->d3.2<(List.length (Yf rw fi sp sn)))/\((decide ((gD (ZW rw fi sp sn (6:Int)) d3.2 0)>=(0:Int)))=true->0<=d3.2)/\((decide ((gD (ZW rw fi sp sn (6:Int)) d3.2 0)>=(0:Int)))=true->d3.2<(List.length (ZW rw fi sp sn (6:Int))))/\(((decide ((gD (ZW rw fi sp sn (6:Int)) d3.2 0)>=(0:Int)))&&((gD (Yf rw fi sp sn) d3.2 0) != (gD (ZW rw fi sp sn (6:Int)) d3.2 0)))=true ->
      (false=true/\(True))) /\
     (((decide ((gD (ZW rw fi sp sn (6:Int)) d3.2 0)>=(0:Int)))&&((gD (Yf rw fi sp sn) d3.2 0) != (gD (ZW rw fi sp sn (6:Int)) d3.2 0)))=false ->
      (0<=d3.2)/\(d3.2<(List.length (Qi rw fi sp sn)))/\(((gD (Qi rw fi sp sn) d3.2 0) != (1:Int))=true ->
       (I64 (d3.1+(1:Int)))/\(I64 (d3.2+(1:Int)))/\(∃ d4:Int×Int,((True/\(trA rw fi sp (6:Int) 0)=(trA rw fi sp (6:Int) 0)/\True/\True/\(Zr rw fi sp)=(Zr rw fi sp)/\(Jz rw fi sp)=(Jz rw fi sp)/\(QL rw fi sp sn)=(QL rw fi sp sn)/\True/\(ZO rw fi sp sn)=(ZO rw fi sp sn)/\True/\True/\(XE rw fi sp sn)=(XE rw fi sp sn)/\(d3.1+(1:Int))=d4.1/\false=false/\false=false/\(d3.2+(1:Int))=d4.2/\True)/\(RH rw fi sp sn))/\q3 d4)) /\
      (((gD (Qi rw fi sp sn) d3.2 0) != (1:Int))=false ->
       (I64 (d3.2+(1:Int)))/\(∃ d5:Int×Int,((True/\(trA rw fi sp (6:Int) 0)=(trA rw fi sp (6:Int) 0)/\True/\True/\(Zr rw fi sp)=(Zr rw fi sp)/\(Jz rw fi sp)=(Jz rw fi sp)/\(QL rw fi sp sn)=(QL rw fi sp sn)/\True/\(ZO rw fi sp sn)=(ZO rw fi sp sn)/\True/\True/\(XE rw fi sp sn)=(XE rw fi sp sn)/\d3.1=d5.1/\false=false/\false=false/\(d3.2+(1:Int))=d5.2/\True)/\(RH rw fi sp sn))/\q3 d5)))) /\
    ((decide (d3.2<(lI (Qi rw fi sp sn))))=false ->
     ∃ (e8:Int) (d80:Bool×Bool×Int),((True/\(trA rw fi sp (6:Int) 0)=(trA rw fi sp (6:Int) 0)/\True/\(Zr rw fi sp)=(Zr rw fi sp)/\(Jz rw fi sp)=(Jz rw fi sp)/\(QL rw fi sp sn)=(QL rw fi sp sn)/\True/\(ZO rw fi sp sn)=(ZO rw fi sp sn)/\True/\(XE rw fi sp sn)=(XE rw fi sp sn)/\d3.1=e8/\false=d80.1/\false=d80.2.1/\(0:Int)=d80.2.2/\True)/\(RK rw fi sp sn)) /\
     LoopP (λ(d8:Bool×Bool×Int) (q8:(Bool×Bool×Int)->Prop) =>
      ((decide (d8.2.2<(lI (Qd rw fi sp sn))))=true ->
       (0<=d8.2.2)/\(d8.2.2<(List.length (Qd rw fi sp sn)))/\((decide ((gD (Qd rw fi sp sn) d8.2.2 0)<(0:Int)))=false->0<=d8.2.2)/\((decide ((gD (Qd rw fi sp sn) d8.2.2 0)<(0:Int)))=false->d8.2.2<(List.length (Qd rw fi sp sn)))/\(((decide ((gD (Qd rw fi sp sn) d8.2.2 0)<(0:Int)))||(decide ((gD (Qd rw fi sp sn) d8.2.2 0)>=(lI (Q4 rw)))))=false->(decide (d8.2.2 > (0:Int)))=true->0<=d8.2.2)/\(((decide ((gD (Qd rw fi sp sn) d8.2.2 0)<(0:Int)))||(decide ((gD (Qd rw fi sp sn) d8.2.2 0)>=(lI (Q4 rw)))))=false->(decide (d8.2.2 > (0:Int)))=true->d8.2.2<(List.length (Qd rw fi sp sn)))/\(((decide ((gD (Qd rw fi sp sn) d8.2.2 0)<(0:Int)))||(decide ((gD (Qd rw fi sp sn) d8.2.2 0)>=(lI (Q4 rw)))))=false->(decide (d8.2.2 > (0:Int)))=true->InK .i64 (d8.2.2-(1:Int)))/\(((decide ((gD (Qd rw fi sp sn) d8.2.2 0)<(0:Int)))||(decide ((gD (Qd rw fi sp sn) d8.2.2 0)>=(lI (Q4 rw)))))=false->(decide (d8.2.2 > (0:Int)))=true->0<=(d8.2.2-(1:Int)))/\(((decide ((gD (Qd rw fi sp sn) d8.2.2 0)<(0:Int)))||(decide ((gD (Qd rw fi sp sn) d8.2.2 0)>=(lI (Q4 rw)))))=false->(decide (d8.2.2 > (0:Int)))=true->(d8.2.2-(1:Int))<(List.length (Qd rw fi sp sn)))/\((((decide ((gD (Qd rw fi sp sn) d8.2.2 0)<(0:Int)))||(decide ((gD (Qd rw fi sp sn) d8.2.2 0)>=(lI (Q4 rw)))))||((decide (d8.2.2 > (0:Int)))&&(decide ((gD (Qd rw fi sp sn) d8.2.2 0)<=(gD (Qd rw fi sp sn) (d8.2.2-(1:Int)) 0)))))=true ->
        (false=true/\(True))) /\
       ((((decide ((gD (Qd rw fi sp sn) d8.2.2 0)<(0:Int)))||(decide ((gD (Qd rw fi sp sn) d8.2.2 0)>=(lI (Q4 rw)))))||((decide (d8.2.2 > (0:Int)))&&(decide ((gD (Qd rw fi sp sn) d8.2.2 0)<=(gD (Qd rw fi sp sn) (d8.2.2-(1:Int)) 0)))))=false ->
        (d8.1=false->0<=d8.2.2)/\(d8.1=false->d8.2.2<(List.length (Qd rw fi sp sn)))/\(d8.2.1=false->0<=d8.2.2)/\(d8.2.1=false->d8.2.2<(List.length (Qd rw fi sp sn)))/\(I64 (d8.2.2+(1:Int)))/\(∃ d9:Bool×Bool×Int,((True/\(trA rw fi sp (6:Int) 0)=(trA rw fi sp (6:Int) 0)/\True/\(Zr rw fi sp)=(Zr rw fi sp)/\(Jz rw fi sp)=(Jz rw fi sp)/\(QL rw fi sp sn)=(QL rw fi sp sn)/\True/\(ZO rw fi sp sn)=(ZO rw fi sp sn)/\True/\(XE rw fi sp sn)=(XE rw fi sp sn)/\e8=e8/\(d8.1||((gD (Qd rw fi sp sn) d8.2.2 0)==(Jz rw fi sp)))=d9.1/\(d8.2.1||((gD (Qd rw fi sp sn) d8.2.2 0)==(XE rw fi sp sn)))=d9.2.1/\(d8.2.2+(1:Int))=d9.2.2/\True)/\(RK rw fi sp sn))/\q8 d9))) /\
      ((decide (d8.2.2<(lI (Qd rw fi sp sn))))=false ->
       ((((e8 != (ZO rw fi sp sn))||(!d8.1))||(!d8.2.1))=true ->
        (false=true/\(True))) /\
       ((((e8 != (ZO rw fi sp sn))||(!d8.1))||(!d8.2.1))=false ->
        (((ZO rw fi sp sn)==(Zr rw fi sp))=true ->
         ∃ (cz:Unit) (d120:Int),(((trA rw fi sp (6:Int) 0)=(trA rw fi sp (6:Int) 0)/\True/\(QL rw fi sp sn)=(QL rw fi sp sn)/\True/\(Ki rw fi sp sn)=(Ki rw fi sp sn)/\(0:Int)=d120/\True)/\(S2 rw fi sp sn)) /\
         LoopP (λ(d12:Int) (pX:(Int)->Prop) =>
          (((decide (d12<(lI (Qi rw fi sp sn))))&&((QL rw fi sp sn)==(trA rw fi sp (6:Int) 0)))=true ->
           (0<=d12)/\(d12<(List.length (Qi rw fi sp sn)))/\(0<=d12)/\(d12<(List.length (K_ rw fi sp (6:Int))))/\(((gD (Qi rw fi sp sn) d12 0) != (gD (K_ rw fi sp (6:Int)) d12 0))=true ->
            (0<=d12)/\(d12<(List.length (Qi rw fi sp sn)))/\(0<=d12)/\(d12<(List.length (K_ rw fi sp (6:Int))))/\((decide ((gD (Qi rw fi sp sn) d12 0)<(gD (K_ rw fi sp (6:Int)) d12 0)))=true->True)/\(((decide ((gD (Qi rw fi sp sn) d12 0)<(gD (K_ rw fi sp (6:Int)) d12 0)))&&true)=true/\(True))) /\
           (((gD (Qi rw fi sp sn) d12 0) != (gD (K_ rw fi sp (6:Int)) d12 0))=false ->
            (I64 (d12+(1:Int)))/\(∃ d13:Int,(((trA rw fi sp (6:Int) 0)=(trA rw fi sp (6:Int) 0)/\True/\(QL rw fi sp sn)=(QL rw fi sp sn)/\True/\(Ki rw fi sp sn)=(Ki rw fi sp sn)/\(d12+(1:Int))=d13/\True)/\(S2 rw fi sp sn))/\pX d13))) /\
          (((decide (d12<(lI (Qi rw fi sp sn))))&&((QL rw fi sp sn)==(trA rw fi sp (6:Int) 0)))=false ->
           ((Ki rw fi sp sn)=true->True)/\(((Ki rw fi sp sn)&&true)=true/\(True)))) d120) /\
        (((ZO rw fi sp sn)==(Zr rw fi sp))=false ->
         (True)/\(true=true/\(True)))))) d80)) d30))
def Vd:Cx:=⟨[],[(53,JQ),(54,XI),(16,GG),(25,Mh),(26,Vt),(27,V7),(28,YO),(48,UP),(15,DY)],249,[],0,[],[],[],[],false,[],[],[],[]⟩
def Db (rw:List Int) (fi:Int) (sp:List Int) (sn:List Int):List (Nat×LoopAnn):=[(0,⟨Unit,Int×Int,[3,4,5,6,7,8,9,10,11,15,17,18,20,21,22,23],λe x=>[.box 3 0,.val (.i .i64) (trA rw fi sp (6:Int) 0),.lst 31,.lst 280,.val (.i .i64) (trF rw fi sp (6:Int) (trM sp)),.val (.i .i64) (trA rw fi sp (6:Int) (trM sp)),.val (.i .i64) (Y7 (3:Int) (Q4 rw) (ZW rw fi sp sn (6:Int))),.lst 42,.val (.i .i64) (G0 (3:Int) (Q4 rw) (ZW rw fi sp sn (6:Int))),.lst 62,.lst 101,.val (.i .i64) (Vz (3:Int) (Q4 rw) (Y7 (3:Int) (Q4 rw) (ZW rw fi sp sn (6:Int))) (Ui (3:Int) (Q4 rw) (ZW rw fi sp sn (6:Int)))),.val (.i .i64) x.1,.val .bo false,.val .bo false,.val (.i .i64) x.2],λe x=>[(3,.slot 3,.cells [.val (.i .i64) (3:Int),.lst 28] (some 24)),(28,.cell 3 1,.lst 87 (.pair (.i .i64) (.pair (.i .i64) .bo)) (Q4 rw) false),(31,.slot 5,.lst 3 (.i .i64) (K_ rw fi sp (6:Int)) (List.isEmpty (K_ rw fi sp (6:Int)))),(280,.slot 6,.lst 3 (.i .i64) (ZW rw fi sp sn (6:Int)) (List.isEmpty (ZW rw fi sp sn (6:Int)))),(42,.slot 10,.lst 3 (.i .i64) (Ui (3:Int) (Q4 rw) (ZW rw fi sp sn (6:Int))) (List.isEmpty (Ui (3:Int) (Q4 rw) (ZW rw fi sp sn (6:Int))))),(62,.slot 15,.lst 3 (.i .i64) (ZU (3:Int) (Q4 rw) (ZW rw fi sp sn (6:Int)) (trF rw fi sp (6:Int) (trM sp))) (List.isEmpty (ZU (3:Int) (Q4 rw) (ZW rw fi sp sn (6:Int)) (trF rw fi sp (6:Int) (trM sp))))),(101,.slot 17,.lst 3 (.i .i64) (GY (3:Int) (Q4 rw) (Y7 (3:Int) (Q4 rw) (ZW rw fi sp sn (6:Int))) (Ui (3:Int) (Q4 rw) (ZW rw fi sp sn (6:Int)))) (List.isEmpty (GY (3:Int) (Q4 rw) (Y7 (3:Int) (Q4 rw) (ZW rw fi sp sn (6:Int))) (Ui (3:Int) (Q4 rw) (ZW rw fi sp sn (6:Int))))))]⟩),
 (2,⟨Int,Bool×Bool×Int,[3,4,5,7,8,9,10,11,15,18,20,21,22,24],λe x=>[.box 3 0,.val (.i .i64) (trA rw fi sp (6:Int) 0),.lst 31,.val (.i .i64) (trF rw fi sp (6:Int) (trM sp)),.val (.i .i64) (trA rw fi sp (6:Int) (trM sp)),.val (.i .i64) (Y7 (3:Int) (Q4 rw) (ZW rw fi sp sn (6:Int))),.lst 42,.val (.i .i64) (G0 (3:Int) (Q4 rw) (ZW rw fi sp sn (6:Int))),.lst 62,.val (.i .i64) (Vz (3:Int) (Q4 rw) (Y7 (3:Int) (Q4 rw) (ZW rw fi sp sn (6:Int))) (Ui (3:Int) (Q4 rw) (ZW rw fi sp sn (6:Int)))),.val (.i .i64) e,.val .bo x.1,.val .bo x.2.1,.val (.i .i64) x.2.2],λe x=>[(3,.slot 3,.cells [.val (.i .i64) (3:Int),.lst 28] (some 24)),(28,.cell 3 1,.lst 87 (.pair (.i .i64) (.pair (.i .i64) .bo)) (Q4 rw) false),(31,.slot 5,.lst 3 (.i .i64) (K_ rw fi sp (6:Int)) (List.isEmpty (K_ rw fi sp (6:Int)))),(42,.slot 10,.lst 3 (.i .i64) (Ui (3:Int) (Q4 rw) (ZW rw fi sp sn (6:Int))) (List.isEmpty (Ui (3:Int) (Q4 rw) (ZW rw fi sp sn (6:Int))))),(62,.slot 15,.lst 3 (.i .i64) (ZU (3:Int) (Q4 rw) (ZW rw fi sp sn (6:Int)) (trF rw fi sp (6:Int) (trM sp))) (List.isEmpty (ZU (3:Int) (Q4 rw) (ZW rw fi sp sn (6:Int)) (trF rw fi sp (6:Int) (trM sp)))))]⟩),
 (4,⟨Unit,Int,[4,5,9,10,25,26],λe x=>[.val (.i .i64) (trA rw fi sp (6:Int) 0),.lst 31,.val (.i .i64) (Y7 (3:Int) (Q4 rw) (ZW rw fi sp sn (6:Int))),.lst 42,.val .bo (decide ((Y7 (3:Int) (Q4 rw) (ZW rw fi sp sn (6:Int)))<=(trA rw fi sp (6:Int) 0))),.val (.i .i64) x],λe x=>[(31,.slot 5,.lst 3 (.i .i64) (K_ rw fi sp (6:Int)) (List.isEmpty (K_ rw fi sp (6:Int)))),(42,.slot 10,.lst 3 (.i .i64) (Ui (3:Int) (Q4 rw) (ZW rw fi sp sn (6:Int))) (List.isEmpty (Ui (3:Int) (Q4 rw) (ZW rw fi sp sn (6:Int)))))]⟩)]
theorem Du (d:List Int×Int×List Int×List Int):gwp (Vd) (Db d.1 d.2.1 d.2.2.1 d.2.2.2) c9 0 (VF [.tmp 2] (Kc d) (KR d)) (Qx 249 (AL.can V4 d))=JP d.1 d.2.1 d.2.2.1 d.2.2.2:=by kernel_rfl
abbrev DB:Prop:=OkC Tryz.prog 9 Uh
theorem D3 (h:∀ (rw:List Int) (fi:Int) (sp:List Int) (sn:List Int),(rw.length<=9223372036854775807/\(∀ x∈rw,0<=x/\x<=255)/\0<=fi/\fi<=255/\sp.length<=9223372036854775807/\(∀ x∈sp,0<=x/\x<=255)/\sn.length<=9223372036854775807/\(∀ x∈sn,0<=x/\x<=255))->JP rw fi sp sn):OkC Tryz.prog 9 Uh :=
 Z5 fun9 mixed (C:=Vd) (V:=λ(d:List Int×Int×List Int×List Int)=>JP d.1 d.2.1 d.2.2.1 d.2.2.2) ⟨(.cons Kw (.cons MW (.cons LP (.cons Rq (.cons PX (.cons GZ (.cons G5 (.cons Tp (.cons Tq .nil))))))))),XsOk.nil,ItsOk.nil,YlOk.nil,IysOk.nil,XfOk.nil⟩ (Du) λd hp=>h d.1 d.2.1 d.2.2.1 d.2.2.2 hp
set_option maxHeartbeats 2000000 in
theorem ok_law02_ChainTrue:DB:=D3 λrw fi sp sn h=>by
 obtain⟨h1,h2,h3,h4,h5,h6,h7,h8⟩:=id h;have hl:=Mc rw;have hN:=MB rw;have hM:=SN sp;have p7:=FV h2;have rY:=C_ rw fi sp sn 6;have mP:=Sq rw fi sp 6;have mQ:∀ r∈ZW rw fi sp sn 6,-1<=r/\r<2 ^ Int.toNat 3:=λr hr=>by obtain⟨i,_,rfl⟩:=zE.1 hr;exact Z0c h2 fi sp sn 6 i
 have p8:=Q8m (rw:=rw) h3 h6 (mo:=6) (by decide);have hO:=Z3c (rw:=rw) (sn:=sn) h3 h6 (mo:=6) (by decide);obtain⟨tf,vH⟩:=Ix (rw:=rw) (fi:=fi) h6 (mo:=6) (trM sp) (ze _);have rZ:fK (K_ rw fi sp 6) (K_ rw fi sp 6).length=trF rw fi sp 6 (trM sp):=by rw[mP];exact vH
 have p9:(K_ rw fi sp 6).length=(ZW rw fi sp sn 6).length:=by rw[mP,rY]
 obtain⟨f1,f2,f3,f4,f5,f6,f7,f8⟩:=Q6p hO p9 (by omega);have wu:=hO.count (fa:=trF rw fi sp 6 (trM sp)) p9 (by omega);have tg:=hO.q2h (fa:=trF rw fi sp 6 (trM sp)) p9 (by omega);have th:=f6.q2h (fa:=trF rw fi sp 6 (trM sp)) f5 (by rw[f5];omega);rw[mP,tf] at tg;obtain⟨g1,g2,g3⟩:=Q06 p7 f6 (by omega);rw[<-g3] at th;have lJ:=UC 3 (Q4 rw) (ZW rw fi sp sn 6) (trF rw fi sp 6 (trM sp));have aO:=λa (ha:a∈ZU 3 (Q4 rw) (ZW rw fi sp sn 6) (trF rw fi sp 6 (trM sp)))=>Il ha;have vI:(GY 3 (Q4 rw) (Y7 3 (Q4 rw) (ZW rw fi sp sn 6)) (Ui 3 (Q4 rw) (ZW rw fi sp sn 6))).length=(ZW rw fi sp sn 6).length:=by rw[g2,Pp,f5]
 have bN:∀ i,i<(ZW rw fi sp sn 6).length->(ZW rw fi sp sn 6).getD i 0=-1\/(GY 3 (Q4 rw) (Y7 3 (Q4 rw) (ZW rw fi sp sn 6)) (Ui 3 (Q4 rw) (ZW rw fi sp sn 6))).getD i 0=(ZW rw fi sp sn 6).getD i 0:=λi hi=>by have hw:wvB 3 (Q4 rw) (ZW rw fi sp sn 6) i _=true:=(f6.2 i (by omega)).2;rw[g2,Ou (by omega)];unfold wvB at hw;rw[zy,zT,zT] at hw;exact hw.imp id λe=>e.symm
 have wx:=hO.1;have tj:=λi hi=>(f6.2 i hi).1;unfold JP;(try delta Qd Qi QL RH ZO XE RK Rt Yf S2 Zr Ki HP Jz);(try delta lI gD sT I64 ND pj8 pj4);rw[f2];rw[<-f7] at f3 f4 f8 |-;clear hO f6 g2 g3 tf f2 f7;generalize Ui 3 (Q4 rw) (ZW rw fi sp sn 6)=CW at *
 generalize Y7 3 (Q4 rw) (ZW rw fi sp sn 6)=CA at *
 generalize ZU 3 (Q4 rw) (ZW rw fi sp sn 6) (trF rw fi sp 6 (trM sp))=WV at *
 generalize Tr 3 (Q4 rw) (ZW rw fi sp sn 6) (trF rw fi sp 6 (trM sp))=NV at *
 generalize GY 3 (Q4 rw) CA CW=EW at *
 generalize Vz 3 (Q4 rw) CA CW=EA at *
 rw[f1,g1];clear f1 g1;rw[rZ] at f4 f8;generalize ZW rw fi sp sn 6=CL at *
 generalize K_ rw fi sp 6=SL at *
 generalize trF rw fi sp 6 (trM sp)=FM at *
 generalize trA rw fi sp 6 0=A0 at *
 generalize trA rw fi sp 6 (trM sp)=AM at *
 generalize Q4 rw=CS at *
 simp only[true_and,and_true];refine⟨h,⟨h1,h2,h3,h4,h5,h6,h7,h8,by decide,by decide⟩,by omega,by omega,⟨p7,by omega,mQ⟩,by omega,by omega,⟨p7,by omega,mQ,p8.1,p8.2⟩,by omega,by omega,⟨p7,by omega,mQ,p8.1,p8.2⟩,λc=>?_,λ_=>⟨by omega,by omega,⟨by omega,by omega⟩,λc=>?_,λ_=>?_⟩⟩
 .exfalso;have e1:decide (fK CW CL.length > FM)=false:=xK (by omega);have e2:decide (fK CW CL.length<0)=false:=xK (by omega);have e3:decide (NV<1)=false:=xK (by omega);rw[e1,e2,e3,f5,<-p9] at c;simp at c
 .exfalso;rw[vI] at c;simp at c
 refine⟨(),(0,0),⟨rfl,rfl⟩,?_⟩;refine⟨λd=>∃ k:Nat,k<=CW.length/\d=(fK CW k,(k:Int)),λd=>CW.length-d.2.toNat,⟨0,Nat.zero_le _,rfl⟩,?_⟩;rintro _ ⟨k,hk,rfl⟩;dsimp only;simp only[zq];refine⟨λc=>?_,λc=>?_⟩
 .have hk:k<CW.length:=by have:=zP c;omega
  have hb:=CE CW k;have pK:fK CW k<=fK CW CL.length:=Q67 (by omega);have hI:InK .i64 ((k:Int)+1):=by rw[Qn];omega
  have jo:fK CW (k+1)=fK CW k+ftC (CW.getD k 0):=rfl;refine⟨by omega,by omega,λ_=>by omega,λ_=>by omega,λ_=>by omega,λ_=>by omega,λc2=>?_,λ_=>⟨by omega,by omega,λc3=>?_,λc3=>?_⟩⟩
  .exfalso;rw[z6,bne_iff_ne] at c2;have c3:=zP c2.1;rcases bN k (by omega) with e|e
   .omega
   .exact c2.2 e
  .have c3:CW.getD k 0≠1:=bne_iff_ne.1 c3;have e:ftC (CW.getD k 0)=1:=by unfold ftC;rw[z8 c3]
   exact⟨by rw[Qn];omega,hI,(fK CW (k+1),((k+1:Nat):Int)),⟨by dsimp only;omega,rfl⟩,⟨k+1,hk,rfl⟩,by dsimp only;omega⟩
  .have c3:CW.getD k 0=1:=bne_eq_false_iff_eq.1 c3;have e:ftC (CW.getD k 0)=0:=by unfold ftC;rw[z7 c3]
   exact⟨hI,(fK CW (k+1),((k+1:Nat):Int)),⟨by dsimp only;omega,rfl⟩,⟨k+1,hk,rfl⟩,by dsimp only;omega⟩
 have hk:k=CL.length:=by have:=x7 c;omega
 subst hk;refine⟨fK CW CL.length,(false,false,0),⟨rfl,rfl,rfl,rfl⟩,?_⟩;refine⟨λd=>∃ k:Nat,k<=WV.length/\d=((WV.take k).any (λx=>x==AM),(WV.take k).any (λx=>x==EA),(k:Int)),λd=>WV.length-d.2.2.toNat,⟨0,Nat.zero_le _,rfl⟩,?_⟩;rintro _ ⟨k,hk,rfl⟩;dsimp only;simp only[zq];have wz:WV.length<=60:=by
  have:=Ba (l:=WV) (m:=(List.range CS.length).map λ(a:Nat)=>(a:Int)) (lJ.imp λh=>by omega) λa ha=>by have:=aO a ha;exact zE.2 ⟨a.toNat,zD.2 (by omega),by omega⟩
  simp at this;omega
 refine⟨λc=>?_,λc=>?_⟩
 .have hk:k<WV.length:=by have:=zP c;omega
  have vJ:WV.getD k 0=WV[k]:=Qh hk;have hx:=aO _ (zp hk);have po:0<k->WV.getD ((k:Int)-1).toNat 0<WV[k]:=λhp=>by rw[show ((k:Int)-1).toNat=k-1 by omega,Qh (by omega)];exact List.pairwise_iff_getElem.1 lJ (k-1) k (by omega) hk (by omega)
  simp only[vJ];refine⟨by omega,by omega,λ_=>by omega,λ_=>by omega,λ_ _=>by omega,λ_ _=>by omega,λ_ _=>by rw[Qn];omega,λ_ h=>by have:=zP h;omega,λ_ _=>by omega,λc2=>?_,λ_=>⟨λ_=>by omega,λ_=>by omega,λ_=>by omega,λ_=>by omega,by rw[Qn];omega,((WV.take (k+1)).any (λx=>x==AM),(WV.take (k+1)).any (λx=>x==EA),((k+1:Nat):Int)),⟨?_,?_,rfl⟩,⟨k+1,hk,rfl⟩,by dsimp only;omega⟩⟩
  .exfalso;have e1:decide (WV[k]<0)=false:=xK (by omega);have e2:decide (WV[k]>=(CS.length:Int))=false:=xK (by omega);rw[e1,e2,Bool.or_self,Bool.false_or,z6] at c2;have c3:=zP c2.1;have c4:=zP c2.2;have:=po (by omega);omega
  .dsimp only;rw[XQ hk,List.any_append,List.any_cons,List.any_nil,xY]
  .dsimp only;rw[XQ hk,List.any_append,List.any_cons,List.any_nil,xY]
 have hk:k=WV.length:=by have:=x7 c;omega
 subst hk;rw[List.take_length,show (WV.any λx=>x==AM)=true from xu.2 ⟨AM,tg,beq_self_eq_true _⟩,show (WV.any λx=>x==EA)=true from xu.2 ⟨EA,th,beq_self_eq_true _⟩];refine⟨λc=>by simp at c,λ_=>⟨λc2=>?_,λ_=>trivial⟩⟩;have c2:fK CW CL.length=FM:=eq_of_beq c2;obtain⟨l1,l2⟩:=f8 c2;refine⟨(),0,rfl,?_⟩;refine⟨λd=>∃ k:Nat,k<=CW.length/\d=(k:Int)/\(CA=A0->∀ j,j<k->CW.getD j 0=SL.getD j 0),λd=>CW.length-d.toNat,⟨0,Nat.zero_le _,rfl,λ_ j hj=>by omega⟩,?_⟩;rintro _ ⟨k,hk,rfl,hJ⟩;dsimp only;simp only[zq];refine⟨λc3=>?_,λ_=>⟨λ_=>trivial,by rw[xO];exact wJ l1⟩⟩;rw[z6] at c3;have hk:k<CW.length:=by have:=zP c3.1;omega
 have r4:=eq_of_beq c3.2;have hle:=l2 r4 k (by omega) (hJ r4);refine⟨by omega,by omega,by omega,by omega,λc4=>?_,λc4=>?_⟩
 .have c4:=bne_iff_ne.1 c4;exact⟨by omega,by omega,by omega,by omega,λ_=>trivial,by rw[xO];exact wJ (by omega)⟩
 .have c4:=bne_eq_false_iff_eq.1 c4;refine⟨by rw[Qn];omega,((k+1:Nat):Int),rfl,⟨k+1,hk,rfl,λ_ j hj=>?_⟩,by omega⟩;rcases zl j k with h|h
  .exact hJ r4 j h
  .obtain rfl:j=k:=by omega
   exact c4
end Go.Proofs.Tryz