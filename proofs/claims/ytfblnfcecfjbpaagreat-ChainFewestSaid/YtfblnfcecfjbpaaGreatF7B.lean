/- A framework for walks, contracts of functions, and their proofs: part 7 (3). -/
import Derived.Test.YtfblnfcecfjbpaaGreatF7A
noncomputable section
set_option linter.unusedVariables false
set_option maxRecDepth 100000
namespace Go.Proofs.Tryz
open Go Go.V
theorem Q16 {M:Heap}{K:Value->Heap->Prop}(hK:K (.bool true) M):VCalled Tryz.prog 15 [] M K:=Q1l mixed Q7p 300 Q50 (by decide) Ou hK
end Go.Proofs.Tryz
namespace Go.Proofs.Tryz
open Go Go.V Go.Proofs
theorem F7 {l:List Int}(h:KWf (.list (.i .u8)) l):l.length<=9223372036854775807/\∀ x∈l,0<=x/\x<=255:=⟨h.1,λx hx=>(Fo x).1 (h.2 x hx)⟩
theorem fewPreC_of {x:List Int×List (List Int)×Int}(h:AWf [.list (.i .u8),.list (.list (.i .u8)),.i .u8] x):x.1.length<=9223372036854775807/\(∀ y∈x.1,0<=y/\y<=255)/\x.2.1.length<=9223372036854775807/\(∀ l∈x.2.1,l.length<=9223372036854775807/\∀ y∈l,0<=y/\y<=255)/\0<=x.2.2/\x.2.2<=255:=by obtain⟨h1,h2,h3⟩:=h;have h3:=(Fo x.2.2).1 h3;exact⟨(F7 h1).1,(F7 h1).2,h2.1,λl hl=>F7 (h2.2 l hl),h3.1,h3.2⟩
def Tj:AL (Unit):=.nil
def P0 (d:Unit):Prop:=True
def HJ (d:Unit):SV:=.val .bo true
def HS (d:Unit):List OB:=[]
def GH:CSp:=N2 Tj P0 HJ HS
abbrev Tr:Prop:=OkC Tryz.prog 15 GH
theorem Tq:Tr:=Q01 λ_ _ h=>Q16 h
def YD:AL (List Int×List (List Int)×Int):=(.cons (.k (.list (.i .u8))) (.cons (.k (.list (.list (.i .u8)))) (.one (.k (.i .u8)))))
def Nd (d:List Int×List (List Int)×Int):Prop:=d.1.length<=9223372036854775807/\(∀ x∈d.1,0<=x/\x<=255)/\d.2.1.length<=9223372036854775807/\(∀ l∈d.2.1,l.length<=9223372036854775807/\∀ x∈l,0<=x/\x<=255)/\0<=d.2.2/\d.2.2<=255
def Yg (d:List Int×List (List Int)×Int):SV:=.val .bo true
def Yf (d:List Int×List (List Int)×Int):List OB:=[]
def KE:CSp:=N2 YD Nd Yg Yf
abbrev YK (by_:List Int) (on:Int):=(((([]:List (Int×Int×Bool))++(List.take (Int.toNat ((lI (Qe by_))-(Int.tmod on (lI (Qe by_))))) (List.drop (Int.toNat (Int.tmod on (lI (Qe by_)))) (Qe by_))))++(List.take (Int.toNat ((Int.tmod on (lI (Qe by_)))-(0:Int))) (List.drop (Int.toNat (0:Int)) (Qe by_))))=((([]:List (Int×Int×Bool))++(List.take (Int.toNat ((lI (Qe by_))-(Int.tmod on (lI (Qe by_))))) (List.drop (Int.toNat (Int.tmod on (lI (Qe by_)))) (Qe by_))))++(List.take (Int.toNat ((Int.tmod on (lI (Qe by_)))-(0:Int))) (List.drop (Int.toNat (0:Int)) (Qe by_))))/\((List.isEmpty (List.take (Int.toNat ((Int.tmod on (lI (Qe by_)))-(0:Int))) (List.drop (Int.toNat (0:Int)) (Qe by_))))&&((List.isEmpty (List.take (Int.toNat ((lI (Qe by_))-(Int.tmod on (lI (Qe by_))))) (List.drop (Int.toNat (Int.tmod on (lI (Qe by_)))) (Qe by_))))&&false))=((List.isEmpty (List.take (Int.toNat ((Int.tmod on (lI (Qe by_)))-(0:Int))) (List.drop (Int.toNat (0:Int)) (Qe by_))))&&((List.isEmpty (List.take (Int.toNat ((lI (Qe by_))-(Int.tmod on (lI (Qe by_))))) (List.drop (Int.toNat (Int.tmod on (lI (Qe by_)))) (Qe by_))))&&false)))
abbrev Qy (by_:List Int):=((XR (2:Int) (Qe by_))=(XR (2:Int) (Qe by_))/\(List.isEmpty (XR (2:Int) (Qe by_)))=(List.isEmpty (XR (2:Int) (Qe by_))))
abbrev U6 (by_:List Int) (on:Int):=(List.take (Int.toNat ((lI (Qe by_))-(Int.tmod on (lI (Qe by_))))) (List.drop (Int.toNat (Int.tmod on (lI (Qe by_)))) (Qe by_)))
abbrev Qr :=((2:Int)=(2:Int)/\True/\(([]:List SV)=[]))
abbrev M4 (by_:List Int) (on:Int):=(List.take (Int.toNat ((Int.tmod on (lI (Qe by_)))-(0:Int))) (List.drop (Int.toNat (0:Int)) (Qe by_)))
abbrev YW (by_:List Int) (on:Int):=(((List.length (([]:List (Int×Int×Bool))++(U6 by_ on)))+(List.length (M4 by_ on)))*24<=70368744177664)
abbrev Qu (by_:List Int):=((Qe by_)=(Qe by_)/\false=false)
abbrev De (by_:List Int) (on:Int):=(((Jw (2:Int) ((([]:List (Int×Int×Bool))++(U6 by_ on))++(M4 by_ on)))==(0:Int))&&((lI (XR (2:Int) ((([]:List (Int×Int×Bool))++(U6 by_ on))++(M4 by_ on))))==(lI (XR (2:Int) (Qe by_)))))
abbrev YV (by_:List Int) (on:Int):=(((List.length ([]:List (Int×Int×Bool)))+(List.length (U6 by_ on)))*24<=70368744177664)
abbrev YN :=((0:Int)=(0:Int)/\True/\(([]:List SV)=[]))
abbrev Wx (by_:List Int) (on:Int):=((Int.tmod on (lI (Qe by_)))<=(List.length (Qe by_)))
abbrev ZL (by_:List Int):=(lI (XR (2:Int) (Qe by_)))
abbrev Kj (by_:List Int):=(List.replicate (Int.toNat (lI (Qe by_))) (false:Bool))
abbrev Ww (by_:List Int):=((lI (Qe by_))<=(List.length (Qe by_)))
abbrev W5 (by_:List Int) (on:Int):=((Int.tmod on (lI (Qe by_)))<=(lI (Qe by_)))
abbrev W7 :=(True/\True/\Qr/\True)
abbrev Wi (by_:List Int) (on:Int):=((0:Int)<=(Int.tmod on (lI (Qe by_))))
abbrev Vq (by_:List Int):=(List.length (XR (2:Int) (Qe by_)))
abbrev Wu (by_:List Int) (on:Int):=(0<=(Int.tmod on (lI (Qe by_))))
abbrev Po (by_:List Int):=(((Jw (2:Int) (Qe by_)) != (0:Int))||(decide ((ZL by_)>=(lI (Qe by_)))))
def J4 (by_:List Int) (tr:List (List Int)) (on:Int):Prop :=
 (by_.length<=9223372036854775807/\∀ x∈by_,0<=x/\x<=255)/\((Qe by_).length<=1000)/\((Qe by_).length<=1000)/\((Po by_)=true ->
  (false=true/\(True))) /\
 ((Po by_)=false ->
  (0<=(lI (Qe by_)))/\((lI (Qe by_))<=(lI (Qe by_)))/\((lI (Qe by_))*1<=70368744177664)/\((lI (Qe by_))<=70368744177664)/\∃ (e3:Unit) (d30:(List Bool)×Int),((tr=tr/\on=on/\True/\(lI (Qe by_))=(lI (Qe by_))/\True/\True/\(0:Int)=d30.2/\True)/\(Qr/\(Qu by_)/\((XR (2:Int) (Qe by_))=(XR (2:Int) (Qe by_))/\(XR (2:Int) (Qe by_)).isEmpty=(List.isEmpty (XR (2:Int) (Qe by_))))/\((Kj by_)=d30.1/\false=false)/\True)) /\
  LoopP (λ(d3:(List Bool)×Int) (q3:((List Bool)×Int)->Prop) =>
   ((decide (d3.2<(ZL by_)))=true ->
    (0<=d3.2)/\(d3.2<(Vq by_))/\((decide ((gD (XR (2:Int) (Qe by_)) d3.2 0)<(0:Int)))=false->0<=d3.2)/\((decide ((gD (XR (2:Int) (Qe by_)) d3.2 0)<(0:Int)))=false->d3.2<(Vq by_))/\(((decide ((gD (XR (2:Int) (Qe by_)) d3.2 0)<(0:Int)))||(decide ((gD (XR (2:Int) (Qe by_)) d3.2 0)>=(lI (Qe by_)))))=false->(decide (d3.2 > (0:Int)))=true->0<=d3.2)/\(((decide ((gD (XR (2:Int) (Qe by_)) d3.2 0)<(0:Int)))||(decide ((gD (XR (2:Int) (Qe by_)) d3.2 0)>=(lI (Qe by_)))))=false->(decide (d3.2 > (0:Int)))=true->d3.2<(Vq by_))/\(((decide ((gD (XR (2:Int) (Qe by_)) d3.2 0)<(0:Int)))||(decide ((gD (XR (2:Int) (Qe by_)) d3.2 0)>=(lI (Qe by_)))))=false->(decide (d3.2 > (0:Int)))=true->InK .i64 (d3.2-(1:Int)))/\(((decide ((gD (XR (2:Int) (Qe by_)) d3.2 0)<(0:Int)))||(decide ((gD (XR (2:Int) (Qe by_)) d3.2 0)>=(lI (Qe by_)))))=false->(decide (d3.2 > (0:Int)))=true->0<=(d3.2-(1:Int)))/\(((decide ((gD (XR (2:Int) (Qe by_)) d3.2 0)<(0:Int)))||(decide ((gD (XR (2:Int) (Qe by_)) d3.2 0)>=(lI (Qe by_)))))=false->(decide (d3.2 > (0:Int)))=true->(d3.2-(1:Int))<(Vq by_))/\((((decide ((gD (XR (2:Int) (Qe by_)) d3.2 0)<(0:Int)))||(decide ((gD (XR (2:Int) (Qe by_)) d3.2 0)>=(lI (Qe by_)))))||((decide (d3.2 > (0:Int)))&&(decide ((gD (XR (2:Int) (Qe by_)) d3.2 0)<=(gD (XR (2:Int) (Qe by_)) (d3.2-(1:Int)) 0)))))=true ->
     (false=true/\(True))) /\
    ((((decide ((gD (XR (2:Int) (Qe by_)) d3.2 0)<(0:Int)))||(decide ((gD (XR (2:Int) (Qe by_)) d3.2 0)>=(lI (Qe by_)))))||((decide (d3.2 > (0:Int)))&&(decide ((gD (XR (2:Int) (Qe by_)) d3.2 0)<=(gD (XR (2:Int) (Qe by_)) (d3.2-(1:Int)) 0)))))=false ->
     (0<=d3.2)/\(d3.2<(Vq by_))/\(0<=(gD (XR (2:Int) (Qe by_)) d3.2 0))/\((gD (XR (2:Int) (Qe by_)) d3.2 0)<(List.length d3.1))/\(I64 (d3.2+(1:Int)))/\(∃ d4:(List Bool)×Int,((tr=tr/\on=on/\True/\(lI (Qe by_))=(lI (Qe by_))/\True/\True/\(d3.2+(1:Int))=d4.2/\True)/\(Qr/\(Qu by_)/\(Qy by_)/\((sT d3.1 (gD (XR (2:Int) (Qe by_)) d3.2 0) true)=d4.1/\false=false)/\True))/\q3 d4))) /\
   ((decide (d3.2<(ZL by_)))=false ->
    ((Qe by_).length<=1000/\d3.1.length=(Qe by_).length)/\(((!(S2 (Qe by_) d3.1))=true ->
     (true=true ->
      (false=true/\(True))) /\
     (true=false ->
      ∃ (e7:(List Bool)) (d70:Int),((tr=tr/\on=on/\True/\(lI (Qe by_))=(lI (Qe by_))/\True/\True/\(0:Int)=d70/\True)/\(Qr/\(Qu by_)/\(Qy by_)/\(d3.1=e7/\false=false)/\True)) /\
      LoopP (λ(d7:Int) (q7:(Int)->Prop) =>
       (((decide (d7<(lI tr)))&&(decide (d7<(10:Int))))=true ->
        (0<=(lI (Qe by_)))/\((lI (Qe by_))<=(lI (Qe by_)))/\((lI (Qe by_))*1<=70368744177664)/\((lI (Qe by_))<=70368744177664)/\∃ (aI:(List Bool)×Int) (d100:(List Bool)×Int×Int),((tr=tr/\on=on/\True/\(lI (Qe by_))=(lI (Qe by_))/\True/\True/\d7=aI.2/\True/\(0:Int)=d100.2.1/\(0:Int)=d100.2.2/\True)/\(Qr/\(Qu by_)/\(Qy by_)/\(e7=aI.1/\false=false)/\((Kj by_)=d100.1/\false=false)/\True)) /\
        LoopP (λ(d10:(List Bool)×Int×Int) (mj:((List Bool)×Int×Int)->Prop) =>
         (0<=aI.2)/\(aI.2<(List.length tr))/\(((decide (d10.2.2<(lI (gD tr aI.2 []))))&&(decide (d10.2.1<(ZL by_))))=true ->
          (0<=aI.2)/\(aI.2<(List.length tr))/\(0<=d10.2.2)/\(d10.2.2<(List.length (gD tr aI.2 [])))/\(I64 (gD (gD tr aI.2 []) d10.2.2 0))/\((lI (Qe by_))≠0)/\(0<=(Int.tmod (gD (gD tr aI.2 []) d10.2.2 0) (lI (Qe by_))))/\((Int.tmod (gD (gD tr aI.2 []) d10.2.2 0) (lI (Qe by_)))<(List.length d10.1))/\((!(gD d10.1 (Int.tmod (gD (gD tr aI.2 []) d10.2.2 0) (lI (Qe by_))) false))=true ->
           (0<=(Int.tmod (gD (gD tr aI.2 []) d10.2.2 0) (lI (Qe by_))))/\((Int.tmod (gD (gD tr aI.2 []) d10.2.2 0) (lI (Qe by_)))<(List.length d10.1))/\(I64 (d10.2.1+(1:Int)))/\(I64 (d10.2.2+(1:Int)))/\(∃ d11:(List Bool)×Int×Int,((tr=tr/\on=on/\True/\(lI (Qe by_))=(lI (Qe by_))/\True/\True/\aI.2=aI.2/\True/\(d10.2.1+(1:Int))=d11.2.1/\(d10.2.2+(1:Int))=d11.2.2/\True)/\(Qr/\(Qu by_)/\(Qy by_)/\(aI.1=aI.1/\false=false)/\((sT d10.1 (Int.tmod (gD (gD tr aI.2 []) d10.2.2 0) (lI (Qe by_))) true)=d11.1/\false=false)/\True))/\mj d11)) /\
          ((!(gD d10.1 (Int.tmod (gD (gD tr aI.2 []) d10.2.2 0) (lI (Qe by_))) false))=false ->
           (I64 (d10.2.2+(1:Int)))/\(∃ d12:(List Bool)×Int×Int,((tr=tr/\on=on/\True/\(lI (Qe by_))=(lI (Qe by_))/\True/\True/\aI.2=aI.2/\True/\d10.2.1=d12.2.1/\(d10.2.2+(1:Int))=d12.2.2/\True)/\(Qr/\(Qu by_)/\(Qy by_)/\(aI.1=aI.1/\false=false)/\(d10.1=d12.1/\false=false)/\True))/\mj d12))) /\
         (((decide (d10.2.2<(lI (gD tr aI.2 []))))&&(decide (d10.2.1<(ZL by_))))=false ->
          ((Qe by_).length<=1000/\d10.1.length=(Qe by_).length)/\((!(S2 (Qe by_) d10.1))=true ->
           (I64 (aI.2+(1:Int)))/\(∃ d13:Int,((tr=tr/\on=on/\True/\(lI (Qe by_))=(lI (Qe by_))/\True/\True/\(aI.2+(1:Int))=d13/\True)/\(Qr/\(Qu by_)/\(Qy by_)/\(aI.1=e7/\false=false)/\True))/\q7 d13)) /\
          ((!(S2 (Qe by_) d10.1))=false ->
           ((decide (d10.2.1<(ZL by_)))=true ->
            (false=true/\(True))) /\
           ((decide (d10.2.1<(ZL by_)))=false ->
            ∃ (di:(List Bool)×Int×(List Bool)) (d160:Int),((tr=tr/\on=on/\True/\(lI (Qe by_))=(lI (Qe by_))/\True/\True/\aI.2=di.2.1/\True/\(0:Int)=d160/\True)/\(Qr/\(Qu by_)/\(Qy by_)/\(aI.1=di.1/\false=false)/\(d10.1=di.2.2/\false=false)/\True)) /\
            LoopP (λ(d16:Int) (u2:(Int)->Prop) =>
             ((decide (d16<(lI (Qe by_))))=true ->
              (0<=d16)/\(d16<(List.length di.2.2))/\(0<=d16)/\(d16<(List.length di.1))/\((!((gD di.2.2 d16 false)==(gD di.1 d16 false)))=true ->
               (0<=d16)/\(d16<(List.length di.2.2))/\((gD di.2.2 d16 false)=true ->
                (false=true/\(True))) /\
               ((gD di.2.2 d16 false)=false ->
                (I64 (di.2.1+(1:Int)))/\(∃ d17:Int,((tr=tr/\on=on/\True/\(lI (Qe by_))=(lI (Qe by_))/\True/\True/\(di.2.1+(1:Int))=d17/\True)/\(Qr/\(Qu by_)/\(Qy by_)/\(di.1=e7/\false=false)/\True))/\q7 d17))) /\
              ((!((gD di.2.2 d16 false)==(gD di.1 d16 false)))=false ->
               (I64 (d16+(1:Int)))/\(∃ d18:Int,((tr=tr/\on=on/\True/\(lI (Qe by_))=(lI (Qe by_))/\True/\True/\di.2.1=di.2.1/\True/\(d16+(1:Int))=d18/\True)/\(Qr/\(Qu by_)/\(Qy by_)/\(di.1=di.1/\false=false)/\(di.2.2=di.2.2/\false=false)/\True))/\u2 d18))) /\
             ((decide (d16<(lI (Qe by_))))=false ->
              (I64 (di.2.1+(1:Int)))/\(∃ d19:Int,((tr=tr/\on=on/\True/\(lI (Qe by_))=(lI (Qe by_))/\True/\True/\(di.2.1+(1:Int))=d19/\True)/\(Qr/\(Qu by_)/\(Qy by_)/\(di.1=e7/\false=false)/\True))/\q7 d19))) d160)))) d100) /\
       (((decide (d7<(lI tr)))&&(decide (d7<(10:Int))))=false ->
        (I64 on)/\((lI (Qe by_))≠0)/\(Wu by_ on)/\(W5 by_ on)/\(Ww by_)/\(YV by_ on)/\(0<=(0:Int))/\(Wi by_ on)/\(Wx by_ on)/\(YW by_ on)/\(W7/\(Qr/\YN/\(Qu by_)/\(Qy by_)/\(e7=e7/\false=false)/\(YK by_ on)/\True))/\((Wu by_ on)/\(W5 by_ on)/\(Ww by_)/\(YV by_ on)/\(0<=(0:Int))/\(Wi by_ on)/\(Wx by_ on)/\(YW by_ on)/\(W7/\(Qr/\YN/\(Qu by_)/\(Qy by_)/\(e7=e7/\false=false)/\(YK by_ on)/\True)))/\((Wu by_ on)/\(W5 by_ on)/\(Ww by_)/\(0<=(0:Int))/\(Wi by_ on)/\(Wx by_ on)/\(YV by_ on)/\(YW by_ on)/\(W7/\(Qr/\YN/\(Qu by_)/\(Qy by_)/\(e7=e7/\false=false)/\(YK by_ on)/\True)))/\((Wu by_ on)/\(W5 by_ on)/\(Ww by_)/\(0<=(0:Int))/\(Wi by_ on)/\(Wx by_ on)/\(YV by_ on)/\(YW by_ on)/\(W7/\(Qr/\YN/\(Qu by_)/\(Qy by_)/\(e7=e7/\false=false)/\(YK by_ on)/\True)))/\(((([]:List (Int×Int×Bool))++(U6 by_ on))++(M4 by_ on)).length<=1000)/\((De by_ on)=true->True)/\(((De by_ on)&&true)=true/\(True)))) d70)) /\
    ((!(S2 (Qe by_) d3.1))=false ->
     (0<=(lI (Qe by_)))/\((lI (Qe by_))<=(lI (Qe by_)))/\((lI (Qe by_))*1<=70368744177664)/\((lI (Qe by_))<=70368744177664)/\((Qe by_).length<=1000/\(Kj by_).length=(Qe by_).length)/\((!(((ZL by_)==(0:Int))==(S2 (Qe by_) (Kj by_))))=true ->
      (false=true/\(True))) /\
     ((!(((ZL by_)==(0:Int))==(S2 (Qe by_) (Kj by_))))=false ->
      ∃ (gW:(List Bool)) (o_:Int),((tr=tr/\on=on/\True/\(lI (Qe by_))=(lI (Qe by_))/\True/\True/\(0:Int)=o_/\True)/\(Qr/\(Qu by_)/\(Qy by_)/\(d3.1=gW/\false=false)/\True)) /\
      LoopP (λ(d22:Int) (rE:(Int)->Prop) =>
       (((decide (d22<(lI tr)))&&(decide (d22<(10:Int))))=true ->
        (0<=(lI (Qe by_)))/\((lI (Qe by_))<=(lI (Qe by_)))/\((lI (Qe by_))*1<=70368744177664)/\((lI (Qe by_))<=70368744177664)/\∃ (cU:(List Bool)×Int) (jU:(List Bool)×Int×Int),((tr=tr/\on=on/\True/\(lI (Qe by_))=(lI (Qe by_))/\True/\True/\d22=cU.2/\True/\(0:Int)=jU.2.1/\(0:Int)=jU.2.2/\True)/\(Qr/\(Qu by_)/\(Qy by_)/\(gW=cU.1/\false=false)/\((Kj by_)=jU.1/\false=false)/\True)) /\
        LoopP (λ(d25:(List Bool)×Int×Int) (sI:((List Bool)×Int×Int)->Prop) =>
         (0<=cU.2)/\(cU.2<(List.length tr))/\(((decide (d25.2.2<(lI (gD tr cU.2 []))))&&(decide (d25.2.1<(ZL by_))))=true ->
          (0<=cU.2)/\(cU.2<(List.length tr))/\(0<=d25.2.2)/\(d25.2.2<(List.length (gD tr cU.2 [])))/\(I64 (gD (gD tr cU.2 []) d25.2.2 0))/\((lI (Qe by_))≠0)/\(0<=(Int.tmod (gD (gD tr cU.2 []) d25.2.2 0) (lI (Qe by_))))/\((Int.tmod (gD (gD tr cU.2 []) d25.2.2 0) (lI (Qe by_)))<(List.length d25.1))/\((!(gD d25.1 (Int.tmod (gD (gD tr cU.2 []) d25.2.2 0) (lI (Qe by_))) false))=true ->
           (0<=(Int.tmod (gD (gD tr cU.2 []) d25.2.2 0) (lI (Qe by_))))/\((Int.tmod (gD (gD tr cU.2 []) d25.2.2 0) (lI (Qe by_)))<(List.length d25.1))/\(I64 (d25.2.1+(1:Int)))/\(I64 (d25.2.2+(1:Int)))/\(∃ d26:(List Bool)×Int×Int,((tr=tr/\on=on/\True/\(lI (Qe by_))=(lI (Qe by_))/\True/\True/\cU.2=cU.2/\True/\(d25.2.1+(1:Int))=d26.2.1/\(d25.2.2+(1:Int))=d26.2.2/\True)/\(Qr/\(Qu by_)/\(Qy by_)/\(cU.1=cU.1/\false=false)/\((sT d25.1 (Int.tmod (gD (gD tr cU.2 []) d25.2.2 0) (lI (Qe by_))) true)=d26.1/\false=false)/\True))/\sI d26)) /\
          ((!(gD d25.1 (Int.tmod (gD (gD tr cU.2 []) d25.2.2 0) (lI (Qe by_))) false))=false ->
           (I64 (d25.2.2+(1:Int)))/\(∃ d27:(List Bool)×Int×Int,((tr=tr/\on=on/\True/\(lI (Qe by_))=(lI (Qe by_))/\True/\True/\cU.2=cU.2/\True/\d25.2.1=d27.2.1/\(d25.2.2+(1:Int))=d27.2.2/\True)/\(Qr/\(Qu by_)/\(Qy by_)/\(cU.1=cU.1/\false=false)/\(d25.1=d27.1/\false=false)/\True))/\sI d27))) /\
         (((decide (d25.2.2<(lI (gD tr cU.2 []))))&&(decide (d25.2.1<(ZL by_))))=false ->
          ((Qe by_).length<=1000/\d25.1.length=(Qe by_).length)/\((!(S2 (Qe by_) d25.1))=true ->
           (I64 (cU.2+(1:Int)))/\(∃ d28:Int,((tr=tr/\on=on/\True/\(lI (Qe by_))=(lI (Qe by_))/\True/\True/\(cU.2+(1:Int))=d28/\True)/\(Qr/\(Qu by_)/\(Qy by_)/\(cU.1=gW/\false=false)/\True))/\rE d28)) /\
          ((!(S2 (Qe by_) d25.1))=false ->
           ((decide (d25.2.1<(ZL by_)))=true ->
            (false=true/\(True))) /\
           ((decide (d25.2.1<(ZL by_)))=false ->
            ∃ (dN:(List Bool)×Int×(List Bool)) (pa:Int),((tr=tr/\on=on/\True/\(lI (Qe by_))=(lI (Qe by_))/\True/\True/\cU.2=dN.2.1/\True/\(0:Int)=pa/\True)/\(Qr/\(Qu by_)/\(Qy by_)/\(cU.1=dN.1/\false=false)/\(d25.1=dN.2.2/\false=false)/\True)) /\
            LoopP (λ(d31:Int) (u4:(Int)->Prop) =>
             ((decide (d31<(lI (Qe by_))))=true ->
              (0<=d31)/\(d31<(List.length dN.2.2))/\(0<=d31)/\(d31<(List.length dN.1))/\((!((gD dN.2.2 d31 false)==(gD dN.1 d31 false)))=true ->
               (0<=d31)/\(d31<(List.length dN.2.2))/\((gD dN.2.2 d31 false)=true ->
                (false=true/\(True))) /\
               ((gD dN.2.2 d31 false)=false ->
                (I64 (dN.2.1+(1:Int)))/\(∃ d32:Int,((tr=tr/\on=on/\True/\(lI (Qe by_))=(lI (Qe by_))/\True/\True/\(dN.2.1+(1:Int))=d32/\True)/\(Qr/\(Qu by_)/\(Qy by_)/\(dN.1=gW/\false=false)/\True))/\rE d32))) /\
              ((!((gD dN.2.2 d31 false)==(gD dN.1 d31 false)))=false ->
               (I64 (d31+(1:Int)))/\(∃ d33:Int,((tr=tr/\on=on/\True/\(lI (Qe by_))=(lI (Qe by_))/\True/\True/\dN.2.1=dN.2.1/\True/\(d31+(1:Int))=d33/\True)/\(Qr/\(Qu by_)/\(Qy by_)/\(dN.1=dN.1/\false=false)/\(dN.2.2=dN.2.2/\false=false)/\True))/\u4 d33))) /\
             ((decide (d31<(lI (Qe by_))))=false ->
              (I64 (dN.2.1+(1:Int)))/\(∃ d34:Int,((tr=tr/\on=on/\True/\(lI (Qe by_))=(lI (Qe by_))/\True/\True/\(dN.2.1+(1:Int))=d34/\True)/\(Qr/\(Qu by_)/\(Qy by_)/\(dN.1=gW/\false=false)/\True))/\rE d34))) pa)))) jU) /\
       (((decide (d22<(lI tr)))&&(decide (d22<(10:Int))))=false ->
        (I64 on)/\((lI (Qe by_))≠0)/\(Wu by_ on)/\(W5 by_ on)/\(Ww by_)/\(YV by_ on)/\(0<=(0:Int))/\(Wi by_ on)/\(Wx by_ on)/\(YW by_ on)/\(W7/\(Qr/\YN/\(Qu by_)/\(Qy by_)/\(gW=gW/\false=false)/\(YK by_ on)/\True))/\((Wu by_ on)/\(W5 by_ on)/\(Ww by_)/\(YV by_ on)/\(0<=(0:Int))/\(Wi by_ on)/\(Wx by_ on)/\(YW by_ on)/\(W7/\(Qr/\YN/\(Qu by_)/\(Qy by_)/\(gW=gW/\false=false)/\(YK by_ on)/\True)))/\((Wu by_ on)/\(W5 by_ on)/\(Ww by_)/\(0<=(0:Int))/\(Wi by_ on)/\(Wx by_ on)/\(YV by_ on)/\(YW by_ on)/\(W7/\(Qr/\YN/\(Qu by_)/\(Qy by_)/\(gW=gW/\false=false)/\(YK by_ on)/\True)))/\((Wu by_ on)/\(W5 by_ on)/\(Ww by_)/\(0<=(0:Int))/\(Wi by_ on)/\(Wx by_ on)/\(YV by_ on)/\(YW by_ on)/\(W7/\(Qr/\YN/\(Qu by_)/\(Qy by_)/\(gW=gW/\false=false)/\(YK by_ on)/\True)))/\(((([]:List (Int×Int×Bool))++(U6 by_ on))++(M4 by_ on)).length<=1000)/\((De by_ on)=true->True)/\(((De by_ on)&&true)=true/\(True)))) o_))))) d30)
def YB:Cx:=⟨[(4,.bo),(87,(.pair (.i .i64) (.pair (.i .i64) .bo)))],[(51,Up),(16,MY),(17,VV),(52,KI),(15,GH)],207,[],0,[],[],[],[9,20,189],false,[],[],[89],[]⟩
def Mt (by_:List Int) (tr:List (List Int)) (on:Int):List (Nat×LoopAnn):=[(0,⟨Unit,(List Bool)×Int,[1,2,7,8,9,11,12],λe x=>[.val (.list (.list (.i .u8))) tr,.val (.i .u8) on,.box 7 0,.val (.i .i64) (((List.length (Qe by_)):Nat):Int),.lst 31,.lst 43,.val (.i .i64) x.2],λe x=>[(7,.slot 7,.cells [.val (.i .i64) (2:Int),.lst 24] (some 24)),(24,.cell 7 1,.lst 87 (.pair (.i .i64) (.pair (.i .i64) .bo)) (Qe by_) false),(31,.slot 9,.lst 3 (.i .i64) (XR (2:Int) (Qe by_)) (List.isEmpty (XR (2:Int) (Qe by_)))),(43,.slot 11,.lst 4 .bo x.1 false)]⟩),
 (2,⟨(List Bool),Int,[1,2,7,8,9,11,13],λe x=>[.val (.list (.list (.i .u8))) tr,.val (.i .u8) on,.box 7 0,.val (.i .i64) (((List.length (Qe by_)):Nat):Int),.lst 31,.lst 43,.val (.i .i64) x],λe x=>[(7,.slot 7,.cells [.val (.i .i64) (2:Int),.lst 24] (some 24)),(24,.cell 7 1,.lst 87 (.pair (.i .i64) (.pair (.i .i64) .bo)) (Qe by_) false),(31,.slot 9,.lst 3 (.i .i64) (XR (2:Int) (Qe by_)) (List.isEmpty (XR (2:Int) (Qe by_)))),(43,.slot 11,.lst 4 .bo e false)]⟩),
 (4,⟨(List Bool)×Int,(List Bool)×Int×Int,[1,2,7,8,9,11,13,14,15,16],λe x=>[.val (.list (.list (.i .u8))) tr,.val (.i .u8) on,.box 7 0,.val (.i .i64) (((List.length (Qe by_)):Nat):Int),.lst 31,.lst 43,.val (.i .i64) e.2,.lst 110,.val (.i .i64) x.2.1,.val (.i .i64) x.2.2],λe x=>[(7,.slot 7,.cells [.val (.i .i64) (2:Int),.lst 24] (some 24)),(24,.cell 7 1,.lst 87 (.pair (.i .i64) (.pair (.i .i64) .bo)) (Qe by_) false),(31,.slot 9,.lst 3 (.i .i64) (XR (2:Int) (Qe by_)) (List.isEmpty (XR (2:Int) (Qe by_)))),(43,.slot 11,.lst 4 .bo e.1 false),(110,.slot 14,.lst 4 .bo x.1 false)]⟩),
 (6,⟨(List Bool)×Int×(List Bool),Int,[1,2,7,8,9,11,13,14,18],λe x=>[.val (.list (.list (.i .u8))) tr,.val (.i .u8) on,.box 7 0,.val (.i .i64) (((List.length (Qe by_)):Nat):Int),.lst 31,.lst 43,.val (.i .i64) e.2.1,.lst 110,.val (.i .i64) x],λe x=>[(7,.slot 7,.cells [.val (.i .i64) (2:Int),.lst 24] (some 24)),(24,.cell 7 1,.lst 87 (.pair (.i .i64) (.pair (.i .i64) .bo)) (Qe by_) false),(31,.slot 9,.lst 3 (.i .i64) (XR (2:Int) (Qe by_)) (List.isEmpty (XR (2:Int) (Qe by_)))),(43,.slot 11,.lst 4 .bo e.1 false),(110,.slot 14,.lst 4 .bo e.2.2 false)]⟩)]
theorem Mq (d:List Int×List (List Int)×Int):gwp (YB) (Mt d.1 d.2.1 d.2.2) c8 0 (Nu [.tmp 6] (Yg d) (Yf d)) (Q_ 207 (AL.can YD d))=J4 d.1 d.2.1 d.2.2:=by kernel_rfl
abbrev Mr:Prop:=OkC Tryz.prog 8 KE
theorem Ms (h:∀ (by_:List Int) (tr:List (List Int)) (on:Int),(by_.length<=9223372036854775807/\(∀ x∈by_,0<=x/\x<=255)/\tr.length<=9223372036854775807/\(∀ l∈tr,l.length<=9223372036854775807/\∀ x∈l,0<=x/\x<=255)/\0<=on/\on<=255)->J4 by_ tr on):OkC Tryz.prog 8 KE :=
 Zn fun8 mixed (C:=YB) (V:=λ(d:List Int×List (List Int)×Int)=>J4 d.1 d.2.1 d.2.2) ⟨(.cons Tu (.cons L0 (.cons P_ (.cons BS (.cons Tq .nil))))),XsOk.nil,ItsOk.nil,YlOk.nil,IysOk.nil,XfOk.nil⟩ (Mq) λd hp=>h d.1 d.2.1 d.2.2 hp
theorem ok_law02_ChainFewest:Mr:=Ms λby_ tr on h=>by
 obtain⟨h1,h2,h3,h4,h5,h6⟩:=h;have hN:=RQ by_;have hlen:=FQ h2;have pb:=Q58 h2;obtain⟨ai,eA⟩:=Q3k h2;unfold J4;(try delta YK Qy U6 Qr M4 YW Qu De YV YN Wx ZL Kj Ww W5 W7 Wi Vq Wu Po);(try delta lI gD sT I64 Xz pj8 pj4);generalize Qe by_=cs at *
 have fM:1<=cs.length/\cs.length<=40:=by omega
 have h0:∀ k,k<cs.length->0<=nmC cs k:=λk hk=>by unfold nmC;rw[Qg hk];exact(ai _ (zn hk)).2
 have pc:XR 2 cs=mvK (nmC cs) cs.length cs.length:=by unfold XR;rw[z0 pb]
 have ah:=Z0c (cs:=cs) fM.1;have pg:=λout=>Q68 (out:=out) h0 eA;have lf:=OQ h0 eA;have bw:=λs=>Z0f (s:=s) h0 eA;have fb:=λs=>IC (s:=s) h0 eA;obtain⟨m1,m2,-,-,-⟩:=X5 (nm:=nmC cs) (n:=cs.length);have ph:=λf=>FE (cs:=cs) (f:=f);simp only[<-pc] at ah pg lf bw fb m1 m2 ph;clear pc;generalize XR 2 cs=l at *
 rw[pb];simp only[zz];refine⟨⟨h1,h2⟩,by omega,by omega,λc=>?_,λ_=>⟨by omega,by omega,by omega,by omega,(),(List.replicate cs.length false,0),?_,?_⟩⟩
 .exfalso;have c2:decide ((l.length:Int)>=(cs.length:Int))=true:=by simpa using c
  have:=zl c2;omega
 .and_intros<;>first|rfl|trivial
 refine⟨λd=>∃ k:Nat,k<=l.length/\d=(A0 l cs.length k,(k:Int)),λd=>l.length-d.2.toNat,⟨0,by omega,rfl⟩,?_⟩;rintro _ ⟨k,hk,rfl⟩;dsimp only;simp only[zz];obtain⟨o1,o2⟩:=Al m2 k hk;refine⟨λc=>?_,λc=>?_⟩
 .have c:=zl c;have bg:k<l.length:=by omega
  have hx:=m2 _ (zn bg);have sJ:l.getD k 0=l[k]:=Qg bg;have pj:0<k->l.getD ((k:Int)-1).toNat 0<l[k]:=λhp=>by
   have e:((k:Int)-1).toNat=k-1:=by omega
   rw[e,Qg (by omega)];exact List.pairwise_iff_getElem.1 m1 (k-1) k (by omega) bg (by omega)
  have e:A0 l cs.length (k+1)=(A0 l cs.length k).set l[k].toNat true:=by rw[<-sJ];rfl
  simp only[sJ];refine⟨by omega,by omega,λ_=>by omega,λ_=>by omega,λ_ _=>by omega,λ_ _=>by omega,λ_ c2=>by have:=zl c2;rw[Qh];omega,λ_ c2=>by have:=zl c2;omega,λ_ c2=>by omega,λc2=>?_,λ_=>⟨by omega,by omega,hx.1,by rw[o1];exact hx.2,by rw[Qh];omega,(A0 l cs.length (k+1),((k+1:Nat):Int)),?_,⟨k+1,by omega,rfl⟩,by dsimp only;omega⟩⟩
  .exfalso;simp only[zp,z2,zi] at c2;rcases c2 with (c2|c2)|⟨c2,c3⟩
   .omega
   .omega
   .have:=pj (by omega);omega
  .rw[e];and_intros<;>first|rfl|trivial|(push_cast;rfl)
 .have c:=zK c;have ef:k=l.length:=by omega
  subst ef;have o3:∀ p,p<cs.length->(A0 l cs.length l.length).getD p false=woL l p:=λp hp=>by rw[o2 p hp,List.take_length];rfl
  have jQ:=pg _ o3;clear o2;generalize A0 l cs.length l.length=out at *
  rw[jQ];refine⟨⟨by omega,o1⟩,λc=>absurd c (by decide),λ_=>⟨by omega,by omega,by omega,by omega,⟨by omega,xL⟩,λc=>?_,λ_=>⟨out,(0:Int),?_,?_⟩⟩⟩
  .exfalso;rw[lf] at c;simp at c
  .and_intros<;>first|rfl|trivial
  refine⟨λd=>∃ j:Nat,j<=tr.length/\j<=10/\d=(j:Int),λd=>10-d.toNat,⟨0,by omega,by omega,rfl⟩,?_⟩;rintro _ ⟨j,hj,eE,rfl⟩;dsimp only;refine⟨λc=>?_,λc=>?_⟩
  .rw[z2,zi,zi] at c;have bU:j<tr.length:=by omega
   have fin:∃ j':Nat,j'<=tr.length/\j'<=10/\((j:Int)+1)=(j':Int):=⟨j+1,by omega,by omega,by push_cast;rfl⟩;have iQ:10-((j:Int)+1).toNat<10-(j:Int).toNat:=by omega
   have hr:=h4 _ (zn bU);have cm:tr.getD j []=tr[j]:=Qg bU;have hz:(List.replicate cs.length false).count true=0:=by simp[List.count_replicate]
   refine⟨by omega,by omega,by omega,by omega,(out,(j:Int)),(List.replicate cs.length false,0,0),?_,?_⟩
   .and_intros<;>first|rfl|trivial
   dsimp only;simp only[zz,cm];generalize tr[j]=row at hr |-;refine⟨λd=>∃ (s:List Bool) (i:Nat),s.length=cs.length/\s.count true<=l.length/\i<=row.length/\d=(s,(s.count true:Int),(i:Int)),λd=>row.length-d.2.2.toNat,⟨_,0,xL,by rw[hz];omega,by omega,by rw[hz];rfl⟩,?_⟩;rintro _ ⟨s,i,s1,s2,hi,rfl⟩;dsimp only;simp only[zz];refine⟨by omega,by omega,λc=>?_,λ_=>?_⟩
   .rw[z2,zi,zi] at c;have fP:i<row.length:=by omega
    have hx:=hr.2 _ (zn fP);have gK:row.getD i 0=row[i]:=Qg fP;simp only[gK];have t1:=Int.tmod_nonneg (cs.length:Int) hx.1;have t2:=Int.tmod_lt_of_pos row[i] (show (0:Int)<cs.length by omega);have t3:InK .i64 row[i]:=by rw[Qh];omega
    generalize Int.tmod row[i] (cs.length:Int)=a at *
    obtain⟨a,rfl⟩:=xm t1;simp only[zz];refine⟨by omega,by omega,by omega,by omega,t3,by omega,by omega,by omega,λhb=>?_,λhb=>⟨by rw[Qh];omega,(s,(s.count true:Int),((i+1:Nat):Int)),?_,⟨s,i+1,s1,s2,by omega,rfl⟩,by dsimp only;omega⟩⟩
    .have bE:s.getD a false=false:=by simpa using hb
     have aA:=count_set (s:=s) (a:=a) (by omega) bE;refine⟨by omega,by omega,by rw[Qh];omega,by rw[Qh];omega,(s.set a true,((s.set a true).count true:Int),((i+1:Nat):Int)),?_,⟨s.set a true,i+1,by rw[xx];exact s1,by omega,by omega,rfl⟩,by dsimp only;omega⟩;rw[aA];and_intros<;>first|rfl|trivial|(push_cast;rfl)
    .and_intros<;>first|rfl|trivial|(push_cast;rfl)
   .refine⟨⟨by omega,s1⟩,λ_=>⟨by rw[Qh];omega,(j:Int)+1,?_,fin,iQ⟩,λho=>?_⟩
    .and_intros<;>first|rfl|trivial
    have ho:S2 cs s=true:=by simpa using ho
    have hg:=bw s s1 ho;refine⟨λc2=>?_,λ_=>⟨(out,(j:Int),s),(0:Int),?_,?_⟩⟩
    .exfalso;have:=zl c2;omega
    .and_intros<;>first|rfl|trivial
    dsimp only;refine⟨λd=>∃ q:Nat,q<=cs.length/\(∀ p,p<q->s.getD p false=out.getD p false)/\d=(q:Int),λd=>cs.length-d.toNat,⟨0,by omega,λp hp=>by omega,rfl⟩,?_⟩;rintro _ ⟨q,hq,ek,rfl⟩;dsimp only;simp only[zz];refine⟨λc3=>?_,λ_=>⟨by rw[Qh];omega,(j:Int)+1,?_,fin,iQ⟩⟩
    .have c3:=zl c3;refine⟨by omega,by omega,by omega,by omega,λav=>⟨by omega,by omega,λht=>?_,λ_=>⟨by rw[Qh];omega,(j:Int)+1,?_,fin,iQ⟩⟩,λheq=>⟨by rw[Qh];omega,((q+1:Nat):Int),?_,⟨q+1,by omega,λp hp=>?_,rfl⟩,by omega⟩⟩
     .exfalso;have hw:=fb s s1 ho (by omega) (i:=q) (by omega) (λp hp=>by rw[ek p hp,o3 p (by omega)]) ht;rw[ht,o3 q (by omega),hw] at av;exact absurd av (by decide)
     .and_intros<;>first|rfl|trivial
     .and_intros<;>first|rfl|trivial|(push_cast;rfl)
     .by_cases rz:p=q
      .subst rz;simpa using heq
      .exact ek p (by omega)
    .and_intros<;>first|rfl|trivial
  .have f1:=Int.tmod_nonneg (cs.length:Int) h5;have f2:=Int.tmod_lt_of_pos on (show (0:Int)<cs.length by omega);have f3:InK .i64 on:=by rw[Qh];omega
   generalize Int.tmod on (cs.length:Int)=fr at *
   obtain⟨f,rfl⟩:=xm f1;have e1:((cs.length:Int)-(f:Int)).toNat=cs.length-f:=by omega
   have e2:((f:Int)-0).toNat=f:=by omega
   have e3:(0:Int).toNat=0:=rfl;have e4:(cs.drop f).take (cs.length-f)=cs.drop f:=zD (by rw[xM];omega);simp only[zz,e1,e2,e3,xe,zX,e4,List.length_nil];have hr:=ph f (by omega);have fy:(cs.drop f++cs.take f).Perm cs:=by
    have:=List.perm_append_comm (l₁:=cs.drop f) (l₂:=cs.take f)
    rwa [xK] at this
   have ck:(cs.drop f++cs.take f).length=cs.length:=fy.length_eq;have hz:=Q0t (cs:=cs.drop f++cs.take f) (by omega) (λc hc=>ai c (fy.mem_iff.1 hc)) ((fy.map (·.1)).nodup_iff.2 eA);have kL:(XR 2 (cs.drop f++cs.take f)).length=l.length:=by unfold XR;rw[z0 hz,ck];exact hr
   have hd:(cs.drop f).length=cs.length-f:=xM;have ht:(cs.take f).length=f:=List.length_take_of_le (by omega);rw[hz,kL];and_intros<;>first|rfl|trivial|exact f3.1|exact f3.2|omega|simp
end Go.Proofs.Tryz
