
import Derived.Test.YtmcfcleofjngmaaGreatDoorM7
set_option linter.unusedVariables false
set_option maxRecDepth 100000
namespace Go.Proofs.Tryz
open Go Go.V Go.Proofs
def Fc:AL (Unit):=.nil
def CA (d:Unit):Prop:=True
def Cy (d:Unit):SV:=.val .bo true
def CE (d:Unit):List OB:=[]
def TI:CSp:=Wt Fc CA Cy CE
abbrev Io:Prop:=OkC Tryz.prog 19 TI
theorem EW:Io:=Q9p λ_ _ h=>Q40 h
def KF:AL (Int×List Int×List (List Int)):=(.cons (.k (.i .u8)) (.cons (.k (.list (.i .u16))) (.one (.k (.list (.list (.i .u8)))))))
def G0 (d:Int×List Int×List (List Int)):Prop:=(0<=d.1/\d.1<=255)/\(d.2.1.length<=9223372036854775807/\∀ x∈d.2.1,0<=x/\x<=65535)/\d.2.2.length<=9223372036854775807/\∀ s∈d.2.2,s.length<=9223372036854775807/\∀ x∈s,0<=x/\x<=255
def YH (d:Int×List Int×List (List Int)):SV:=.val .bo true
def YP (d:Int×List Int×List (List Int)):List OB:=[]
def KN:CSp:=Wt KF G0 YH YP
abbrev Hz:=λ(h8:Int) (rs:List Int) (by_:List (List Int)) (d8:(List (Int×List Int))×Int) (e8:(List (Int×List Int))) (q8:_->Prop) vM ga (gR:Int)=>(vM/\( ga.length<=1000/\( QL ( KI gR ( ( gD e8 d8.2 ( 0 ,[ ] ) ).2 ) ) ga=0->ga.length<=12 ) )/\( 0<=( lI ( pdR ( pdH h8 ) rs ) )/\( lI ( pdR ( pdH h8 ) rs ) )<=10000 )/\( false=true->( List.replicate ( lI ( pdR ( pdH h8 ) rs ) ).toNat ( 1:Int ) )=[ ] )/\( ( Ua ( KI gR ( ( gD e8 d8.2 ( 0 ,[ ] ) ).2 ) ) ga ).length<=1000/\( List.replicate ( lI ( pdR ( pdH h8 ) rs ) ).toNat ( 1:Int ) ).length<=1000 )/\∀ ( sR:Bool ) ,sR=( ( QL ( KI gR ( ( gD e8 d8.2 ( 0 ,[ ] ) ).2 ) ) ga ) != ( 0:Int ) )->∀ ( sS:Bool ) ,sS=( ( Jd ( H7 ( KI gR ( ( gD e8 d8.2 ( 0 ,[ ] ) ).2 ) ) ga ) ( Ua ( KI gR ( ( gD e8 d8.2 ( 0 ,[ ] ) ).2 ) ) ga ) ( 0:Int ) ( List.replicate ( lI ( pdR ( pdH h8 ) rs ) ).toNat ( 1:Int ) ) ) != ( 0:Int ) )->∀ ( oC:Bool ) ,oC=( sR||sS )->( oC=false->0<=d8.2 )/\( oC=false->d8.2<( List.length e8 ) )/\( oC=false->( Th ( H7 ( KI gR ( ( gD e8 d8.2 ( 0 ,[ ] ) ).2 ) ) ga ) ( Ua ( KI gR ( ( gD e8 d8.2 ( 0 ,[ ] ) ).2 ) ) ga ) ( 0:Int ) ( List.replicate ( lI ( pdR ( pdH h8 ) rs ) ).toNat ( 1:Int ) ) ).length<=1000000 )/\∀ ( sU:Bool ) ,sU=( ! ( ( Th ( H7 ( KI gR ( ( gD e8 d8.2 ( 0 ,[ ] ) ).2 ) ) ga ) ( Ua ( KI gR ( ( gD e8 d8.2 ( 0 ,[ ] ) ).2 ) ) ga ) ( 0:Int ) ( List.replicate ( lI ( pdR ( pdH h8 ) rs ) ).toNat ( 1:Int ) ) )==( ( gD e8 d8.2 ( 0 ,[ ] ) ).2 ) ) )->∀ ( rz:Bool ) ,rz=( oC||sU )->( rz=true->( false=true/\( True ) ) )/\( rz=false->( ( ( List.length d8.1 )+( List.length [ ( ( pdH h8 ) ,( Th ( H7 ( KI gR ( ( gD e8 d8.2 ( 0 ,[ ] ) ).2 ) ) ga ) ( Ua ( KI gR ( ( gD e8 d8.2 ( 0 ,[ ] ) ).2 ) ) ga ) ( 0:Int ) ( List.replicate ( lI ( pdR ( pdH h8 ) rs ) ).toNat ( 1:Int ) ) ) ) ] ) )*32<=70368744177664 )/\( I64 ( d8.2+( 1:Int ) ) )/\( ∃ rA:( List ( Int×List Int ) )×Int ,( ( by_=by_/\True/\( lI ( pdR ( pdH h8 ) rs ) )=( lI ( pdR ( pdH h8 ) rs ) )/\True/\True/\( d8.2+( 1:Int ) )=rA.2/\True )/\( ( ( pdH h8 )=( pdH h8 )/\True/\( ( [ ]:List SV )=[ ] ) )/\( ( pdR ( pdH h8 ) rs )=( pdR ( pdH h8 ) rs )/\false=false )/\( e8=e8/\false=false )/\( ( d8.1++[ ( ( pdH h8 ) ,( Th ( H7 ( KI gR ( ( gD e8 d8.2 ( 0 ,[ ] ) ).2 ) ) ga ) ( Ua ( KI gR ( ( gD e8 d8.2 ( 0 ,[ ] ) ).2 ) ) ga ) ( 0:Int ) ( List.replicate ( lI ( pdR ( pdH h8 ) rs ) ).toNat ( 1:Int ) ) ) ) ] )=rA.1/\false=false )/\True ) )/\q8 rA ) ):Prop)
abbrev WW (h8:Int):=((pdH h8)=(pdH h8)/\True/\nS)
abbrev WN (h8:Int) (rs:List Int):=((pdR (pdH h8) rs)=(pdR (pdH h8) rs)/\false=false)
abbrev TE :=(([]:List (Int×List Int))=([]:List (Int×List Int))/\false=false)
def Jn (h8:Int) (rs:List Int) (by_:List (List Int)):Prop :=
  (0 <= h8 /\ h8 <= 255 /\ rs.length <= 9223372036854775807 /\ ∀ x ∈ rs, 0 <= x /\ x <= 65535) /\ (((1:Int) = 1 \/ (1:Int) = 2) /\ 1 <= (pdH h8) /\ (pdH h8) <= 24 /\ (pdR (pdH h8) rs) ≠ [] /\ (pdR (pdH h8) rs).length <= 1000 /\ (∀ x ∈ (pdR (pdH h8) rs), 0 <= x /\ x < 16777216) /\ by_.length <= 9223372036854775807 /\ ∀ s ∈ by_, s.length <= 9223372036854775807 /\ ∀ x ∈ s, 0 <= x /\ x <= 255) /\ ((2:Int) ≠ 0) /\ ∀ (y1:Int), y1 = (Int.tmod (lI by_) (2:Int)) -> ∀ (y2:Bool), y2 = (y1 == (0:Int)) -> ∃ (e3:Unit), J3v (λ(q3:((List (Int × List Int))) -> Prop) =>
  (y2 = true ->
    ((pdR (pdH h8) rs).length <= 1000) /\ (0 <= (0:Int)) /\ ((0:Int) < (List.length (Ec (1:Int) (pdH h8) (pdR (pdH h8) rs) by_))) /\ (∃ d4:(List (Int × List Int)), ((by_ = by_ /\ True /\ (lI (pdR (pdH h8) rs)) = (lI (pdR (pdH h8) rs)) /\ True /\ True /\ True) /\ ((WW h8) /\ (WN h8 rs) /\ ((sT (Ec (1:Int) (pdH h8) (pdR (pdH h8) rs) by_) (0:Int) ((pdH h8), (pdR (pdH h8) rs))) = d4 /\ false = false) /\ TE /\ True)) /\ q3 d4)) /\
  (y2 = false ->
    (∃ d5:(List (Int × List Int)), ((by_ = by_ /\ True /\ (lI (pdR (pdH h8) rs)) = (lI (pdR (pdH h8) rs)) /\ True /\ True /\ True) /\ ((WW h8) /\ (WN h8 rs) /\ ((Ec (1:Int) (pdH h8) (pdR (pdH h8) rs) by_) = d5 /\ false = false) /\ TE /\ True)) /\ q3 d5)))
  (λ(d3:(List (Int × List Int))) =>
    ∃ (e8:(List (Int × List Int))) (d80:(List (Int × List Int)) × Int), ((by_ = by_ /\ True /\ (lI (pdR (pdH h8) rs)) = (lI (pdR (pdH h8) rs)) /\ True /\ True /\ (0:Int) = d80.2 /\ True) /\ ((WW h8) /\ (WN h8 rs) /\ (d3 = e8 /\ false = false) /\ (([]:List (Int × List Int)) = d80.1 /\ false = false) /\ True)) /\
    LoopP (λ(d8:(List (Int × List Int)) × Int) (q8:((List (Int × List Int)) × Int) -> Prop) =>
      ∀ (pA:Bool), pA = (decide (d8.2 < (lI e8))) -> (pA = true ->
        ∀ (pB:Bool), pB = (decide (d8.2 < (lI by_))) -> (pB = true ->
          (0 <= d8.2) /\ (d8.2 < by_.length) /\ ∀ (mD:List Int), mD = (gD by_ d8.2 []) -> (0 <= d8.2) /\ (d8.2 < e8.length) /\ ∀ (kI:Int), kI = (gD e8 d8.2 (0, [])).1 -> (((gD e8 d8.2 (0, [])).2).length <= 1000) /\ (((gD e8 d8.2 (0, [])).2).length <= 1000) /\ ∀ (sV:Bool), sV = ((WR kI ((gD e8 d8.2 (0, [])).2)) != (0:Int)) -> ∀ (sW:Bool), sW = ((lI (Sc kI ((gD e8 d8.2 (0, [])).2))) != (lI (pdR (pdH h8) rs))) -> ∀ (rB:Bool), rB = (sV || sW) -> (rB = true ->
            (false = true /\ (True))) /\
          (rB = false ->
             (Hz h8 rs by_ d8 e8 q8 ( ( Sc kI ( ( gD e8 d8.2 ( 0 , [ ] ) ).2 ) ).length <= 60 /\ mD.length <= 9223372036854775807 /\ ∀ x ∈ mD , 0 <= x /\ x <= 255 ) ( Z16 mD ( Sc kI ( ( gD e8 d8.2 ( 0 , [ ] ) ).2 ) ) ) kI))) /\
        (pB = false ->
          (0 <= d8.2) /\ (d8.2 < e8.length) /\ ∀ (mE:Int), mE = (gD e8 d8.2 (0, [])).1 -> (((gD e8 d8.2 (0, [])).2).length <= 1000) /\ (((gD e8 d8.2 (0, [])).2).length <= 1000) /\ ∀ (sX:Bool), sX = ((WR mE ((gD e8 d8.2 (0, [])).2)) != (0:Int)) -> ∀ (sY:Bool), sY = ((lI (Sc mE ((gD e8 d8.2 (0, [])).2))) != (lI (pdR (pdH h8) rs))) -> ∀ (rC:Bool), rC = (sX || sY) -> (rC = true ->
            (false = true /\ (True))) /\
          (rC = false ->
             (Hz h8 rs by_ d8 e8 q8 ( ( Sc mE ( ( gD e8 d8.2 ( 0 , [ ] ) ).2 ) ).length <= 60 /\ [ ( 3:Int ) ].length <= 9223372036854775807 /\ ∀ x ∈ [ ( 3:Int ) ] , 0 <= x /\ x <= 255 ) ( Z16 [ ( 3:Int ) ] ( Sc mE ( ( gD e8 d8.2 ( 0 , [ ] ) ).2 ) ) ) mE)))) /\
      (pA = false ->
        (d8.1.length <= 1000 /\ ∀ x ∈ d8.1, x.2.length <= 1000) /\ (d8.1.length <= 1000 /\ ∀ x ∈ d8.1, x.2.length <= 1000) /\ ((pdR (pdH h8) rs).length <= 1000) /\ (false = true -> (pdR (pdH h8) rs) = []) /\ ((Ti (1:Int) d8.1).length <= 1000) /\ ((pdR (pdH h8) rs).length <= 1000 /\ (Ti (1:Int) d8.1).length <= 1000) /\ ∀ (sZ:Bool), sZ = ((Jh (1:Int) d8.1) != (0:Int)) -> ∀ (s5:Bool), s5 = ((Jh (1:Int) [((pdH h8), (pdR (pdH h8) rs)), ((OA (1:Int) d8.1), (Ti (1:Int) d8.1))]) != (0:Int)) -> ∀ (s6:Bool), s6 = (sZ || s5) -> ∀ (s7:Bool), s7 = (!(Q5m (1:Int) (pdH h8) (pdR (pdH h8) rs) (OA (1:Int) d8.1) (Ti (1:Int) d8.1))) -> ∀ (pC:Bool), pC = (s6 || s7) -> (pC = false -> (2:Int) ≠ 0) /\ ∀ (s8:Int), s8 = (Int.tmod (lI by_) (2:Int)) -> ∀ (rD:Bool), rD = (s8 == (0:Int)) -> ∀ (rE:Bool), rE = ((Q5j (1:Int) (pdH h8) (pdR (pdH h8) rs) (OA (1:Int) d8.1) (Ti (1:Int) d8.1)) != (0:Int)) -> (pC = false -> rD = true -> rE = false -> (Ti (1:Int) d8.1).length <= 1000000) /\ ∀ (s9:Bool), s9 = (!(decide ((OA (1:Int) d8.1) = (pdH h8)) && ((Ti (1:Int) d8.1) == (pdR (pdH h8) rs)))) -> ∀ (s_:Bool), s_ = (rE || s9) -> ∀ (ta:Bool), ta = (rD && s_) -> ∀ (rF:Bool), rF = (pC || ta) -> (rF = true ->
          (false = true /\ (True))) /\
        (rF = false ->
          ∃ (h_:(List (Int × List Int)) × Int × (List Int)) (d130:Int), ((True /\ (lI (pdR (pdH h8) rs)) = (lI (pdR (pdH h8) rs)) /\ True /\ True /\ (0:Int) = d130 /\ True) /\ ((WW h8) /\ (WN h8 rs) /\ (e8 = h_.1 /\ false = false) /\ ((OA (1:Int) d8.1) = h_.2.1 /\ True /\ nS) /\ ((Ti (1:Int) d8.1) = h_.2.2 /\ (Ti (1:Int) d8.1).isEmpty = (List.isEmpty h_.2.2)) /\ True)) /\
          LoopP (λ(d13:Int) (vN:(Int) -> Prop) =>
            ∀ (lZ:Bool), lZ = (decide (d13 < (lI (pdR (pdH h8) rs)))) -> (lZ = true ->
              ∃ (bR:(List (Int × List Int)) × Int × (List Int) × Int) (d160:Int), ((True /\ (lI (pdR (pdH h8) rs)) = (lI (pdR (pdH h8) rs)) /\ True /\ True /\ d13 = bR.2.2.2 /\ (0:Int) = d160 /\ True) /\ ((WW h8) /\ (WN h8 rs) /\ (h_.1 = bR.1 /\ false = false) /\ (h_.2.1 = bR.2.1 /\ True /\ nS) /\ (h_.2.2 = bR.2.2.1 /\ (List.isEmpty h_.2.2) = (List.isEmpty bR.2.2.1)) /\ True)) /\
              LoopP (λ(d16:Int) (vO:(Int) -> Prop) =>
                ∀ (l5:Bool), l5 = (decide (d16 < (lI bR.1))) -> (l5 = true ->
                  (0 <= d16) /\ (d16 < (List.length bR.1)) /\ (0 <= bR.2.2.2) /\ (bR.2.2.2 < (List.length (gD bR.1 d16 (0, [])).2)) /\ ∀ (oD:Int), oD = (List.getD (gD bR.1 d16 (0, [])).2 (Int.toNat bR.2.2.2) 0) -> (0 <= bR.2.2.2) /\ (bR.2.2.2 < (List.length (pdR (pdH h8) rs))) /\ ∀ (oE:Int), oE = (gD (pdR (pdH h8) rs) bR.2.2.2 0) -> (0 <= bR.2.2.2) /\ (bR.2.2.2 < (List.length bR.2.2.1)) /\ ∀ (oF:Int), oF = (gD bR.2.2.1 bR.2.2.2 0) -> ∀ (oG:Int), oG = (Qb .andNot .i64 oE oF) -> ∀ (oH:Int), oH = (Qb .and .i64 oD oG) -> ∀ (l6:Bool), l6 = (oH != (0:Int)) -> (l6 = true ->
                    (false = true /\ (True))) /\
                  (l6 = false ->
                    (I64 (d16 + (1:Int))) /\ (∃ d17:Int, ((True /\ (lI (pdR (pdH h8) rs)) = (lI (pdR (pdH h8) rs)) /\ True /\ True /\ bR.2.2.2 = bR.2.2.2 /\ (d16 + (1:Int)) = d17 /\ True) /\ ((WW h8) /\ (WN h8 rs) /\ (bR.1 = bR.1 /\ false = false) /\ (bR.2.1 = bR.2.1 /\ True /\ nS) /\ (bR.2.2.1 = bR.2.2.1 /\ (List.isEmpty bR.2.2.1) = (List.isEmpty bR.2.2.1)) /\ True)) /\ vO d17))) /\
                (l5 = false ->
                  (I64 (bR.2.2.2 + (1:Int))) /\ (∃ d18:Int, ((True /\ (lI (pdR (pdH h8) rs)) = (lI (pdR (pdH h8) rs)) /\ True /\ True /\ (bR.2.2.2 + (1:Int)) = d18 /\ True) /\ ((WW h8) /\ (WN h8 rs) /\ (bR.1 = h_.1 /\ false = false) /\ (bR.2.1 = h_.2.1 /\ True /\ nS) /\ (bR.2.2.1 = h_.2.2 /\ (List.isEmpty bR.2.2.1) = (List.isEmpty h_.2.2)) /\ True)) /\ vN d18))) d160) /\
            (lZ = false ->
              (True) /\ (true = true -> True) /\ ∀ (oI:Bool), oI = (true && true) -> (oI = true /\ (True)))) d130))) d80)
def Ku:Cx:=⟨[(5,(.i .u8)),(28,(.pair (.i .i64) (.list (.i .i64))))],[(20,Vr),(21,Vu),(6,Yr),(22,Ml),(24,UX),(23,Dc),(26,NJ),(25,V6),(16,Y2),(28,NS),(27,Dx),(7,Hl),(29,UT),(30,UH),(19,TI)],193,[],0,[],[],[],[],true,[],[],[],[]⟩
def GW (h8:Int) (rs:List Int) (by_:List (List Int)):List (Nat×LoopAnn):=[(0,⟨(List (Int×List Int)),(List (Int×List Int))×Int,[2,7,8,9,10,11],λe x=>[.val (.list (.list (.i .u8))) by_,.box 7 0,.val (.i .i64) (((List.length (pdR (pdH h8) rs)):Nat):Int),.dd 35 .out,.dd 36 .out,.val (.i .i64) x.2],λe x=>[(7,.slot 7,.cells [.val (.i .i64) (pdH h8),.lst 29] (some 28)),(29,.cell 7 1,.lst 3 (.i .i64) (pdR (pdH h8) rs) false),(35,.slot 9,.deep 28 none (.pair (.i .i64) (.list (.i .i64))) e false none),(36,.slot 10,.deep 28 none (.pair (.i .i64) (.list (.i .i64))) x.1 false none)]⟩),
 (2,⟨(List (Int×List Int))×Int×(List Int),Int,[7,8,9,20,25],λe x=>[.box 7 0,.val (.i .i64) (((List.length (pdR (pdH h8) rs)):Nat):Int),.dd 35 .out,.box 20 0,.val (.i .i64) x],λe x=>[(7,.slot 7,.cells [.val (.i .i64) (pdH h8),.lst 29] (some 28)),(29,.cell 7 1,.lst 3 (.i .i64) (pdR (pdH h8) rs) false),(35,.slot 9,.deep 28 none (.pair (.i .i64) (.list (.i .i64))) e.1 false none),(20,.slot 20,.cells [.val (.i .i64) e.2.1,.lst 119] (some 28)),(119,.cell 20 1,.lst 3 (.i .i64) e.2.2 (List.isEmpty e.2.2))]⟩),
 (4,⟨(List (Int×List Int))×Int×(List Int)×Int,Int,[7,8,9,20,25,26],λe x=>[.box 7 0,.val (.i .i64) (((List.length (pdR (pdH h8) rs)):Nat):Int),.dd 35 .out,.box 20 0,.val (.i .i64) e.2.2.2,.val (.i .i64) x],λe x=>[(7,.slot 7,.cells [.val (.i .i64) (pdH h8),.lst 29] (some 28)),(29,.cell 7 1,.lst 3 (.i .i64) (pdR (pdH h8) rs) false),(35,.slot 9,.deep 28 none (.pair (.i .i64) (.list (.i .i64))) e.1 false none),(20,.slot 20,.cells [.val (.i .i64) e.2.1,.lst 119] (some 28)),(119,.cell 20 1,.lst 3 (.i .i64) e.2.2.1 (List.isEmpty e.2.2.1))]⟩),
 (3000040,⟨Unit,(List (Int×List Int)),[2,7,8,9,10],λe x=>[.val (.list (.list (.i .u8))) by_,.box 7 0,.val (.i .i64) (((List.length (pdR (pdH h8) rs)):Nat):Int),.dd 35 .out,.dd 36 .out],λe x=>[(7,.slot 7,.cells [.val (.i .i64) (pdH h8),.lst 29] (some 28)),(29,.cell 7 1,.lst 3 (.i .i64) (pdR (pdH h8) rs) false),(35,.slot 9,.deep 28 none (.pair (.i .i64) (.list (.i .i64))) x false none),(36,.slot 10,.deep 28 none (.pair (.i .i64) (.list (.i .i64))) ([]:List (Int×List Int)) false none)]⟩)]
theorem GB (d:Int×List Int×List (List Int)):gwp (Ku) (GW d.1 d.2.1 d.2.2) c4 0 (WB [.tmp 6] (YH d) (YP d)) (Qn 193 (AL.can KF d))=Jn d.1 d.2.1 d.2.2:=by kernel_rfl
abbrev GJ:Prop:=OkC Tryz.prog 4 KN
theorem DE (h:∀ (h8:Int) (rs:List Int) (by_:List (List Int)),((0<=h8/\h8<=255)/\(rs.length<=9223372036854775807/\∀ x∈rs,0<=x/\x<=65535)/\by_.length<=9223372036854775807/\∀ s∈by_,s.length<=9223372036854775807/\∀ x∈s,0<=x/\x<=255)->Jn h8 rs by_):OkC Tryz.prog 4 KN :=
 Qr fun4 mixed (C:=Ku) (V:=λ(d:Int×List Int×List (List Int))=>Jn d.1 d.2.1 d.2.2) ⟨(.cons RA (.cons Rm (.cons UD (.cons Cw (.cons Cp (.cons Fe (.cons Ad (.cons H3 (.cons UU (.cons A5 (.cons I4 (.cons IJ (.cons SK (.cons SZ (.cons EW .nil))))))))))))))),XsOk.nil,ItsOk.nil,YlOk.nil,IysOk.nil,XfOk.nil⟩ (GB) λd hp=>h d.1 d.2.1 d.2.2 hp
set_option maxHeartbeats 2000000 in
theorem ok_top_TopCopiedChain:GJ:=DE λh8 rs by_ h=>by
 obtain⟨⟨g1,g2⟩,⟨g3,g4⟩,g5,g6⟩:=h;unfold Jn
 (try delta Hz WW WN TE q4)
 (try delta lI gD sT I64 Z6 rg rb zD nS)
 obtain⟨n1,n2⟩:=Q07 g1;have hR:=Z2u (hk:=pdH h8) (rs:=rs) ⟨by omega,by omega⟩;generalize pdR (pdH h8) rs=R at hR |-;generalize pdH h8=H at n1 n2 hR |-;obtain⟨r1,r2,r3⟩:=hR;have iU:1<=H/\H<=24:=by omega
 have wW:1<=R.length:=zW.2 r1;have fx:=Pg H.toNat;have rr:=Z84 (h:=H.toNat) (by omega);have vP:∀ x∈R,0<=x/\x<16777216:=λx hx=>by have:=r3 x hx;omega
 have r0:∀ x∈R,0<=x:=λx hx=>(r3 x hx).1;obtain⟨c1,c2⟩:=Z5x (w:=1) (hd:=H) (R:=R) (by_:=by_);have c3:=Z4x (hd:=H) (by_:=by_) r1 r0;have c0:0<(Ec 1 H R by_).length:=zW.2 c1;refine⟨⟨g1,g2,g3,g4⟩,(by grind),by decide,λy1 e1 y2 e2=>⟨(),λd=>d≠[]/\d.length<=5/\(∀ x∈d,x.1=H/\SubR R x.2)/\(y2=true->R∈d.map (·.2)),⟨λhy=>?_,λhy=>?_⟩,λL hL=>?_⟩⟩
 .refine⟨by omega,by omega,by omega,(Ec 1 H R by_).set 0 (H,R),(by grind),?_,by rw[zE];exact c2,λx hx=>?_,λ_=>?_⟩
  .intro e;have:=congrArg List.length e
   grind
  .rcases List.mem_or_eq_of_mem_set hx with e|e
   .exact c3 x e
   .rw[e];exact⟨rfl,.refl r0⟩
  .refine zS.2 ⟨(H,R),?_,rfl⟩;have:((Ec 1 H R by_).set 0 (H,R))[0]'(by rw[zE];exact c0)=(H,R):=List.getElem_set_self ..
   grind
 .grind
 obtain⟨l1,l2,l3,l4⟩:=hL;have wX:0<L.length:=zW.2 l1;clear c1 c2 c3 c0;refine⟨L,([],0),(by grind),?_⟩;refine LoopP.count2 L.length (λk W=>W=L.take k) rfl ?_;rintro k W hk rfl q hq;have dC:(L.take k).length=k:=by rw[xP];omega
 intro pA wY;refine⟨λhy=>?_,λhy=>?_⟩
 .have aj:k<L.length:=by
   grind
  obtain⟨V,cW,hV⟩:∃ V,L[k]=(H,V)/\SubR R V:=⟨L[k].2,(by grind),(l3 _ (zl aj)).2⟩;have rG:L.getD k (0,[])=(H,V):=by rw[Qf aj];exact cW
  have ji:L.take (k+1)=L.take k++[(H,V)]:=by rw[QV aj,cW]
  have oJ:=hV.1;have Vn:V≠[]:=by rintro rfl;simp at oJ;omega
  have q3:=hV.ok r3;have pz:=Q0v iU q3 Vn (by omega);have pw:Sc H V=Ro V:=by unfold Sc;rw[z6 pz]
  have pk:KI H V=H:=by unfold KI;rw[z6 pz]
  have pl:=DY V;have key:∀ mx:List Int,(∀ x∈mx,0<=x/\x<=255)->(Z16 mx (Ro V)).length=V.length/\QL H (Z16 mx (Ro V))=0/\Ua H (Z16 mx (Ro V))=Ro V/\H7 H (Z16 mx (Ro V))=H:=λmx hm=>by have iV:MarkI V (Z16 mx (Ro V)):=MarkI.mix (Z1d V) hm _ (z9 _);have fH:=iV.len;have p7:=LB iU q3 fH Vn (by omega) iV.val;have rH:=Q0i iV p7;exact⟨fH,rH,by unfold Ua;rw[z6 rH];exact Q8p fH iV.nd iV.val,by unfold H7;rw[z6 rH]⟩
  obtain⟨w1,w2,w3⟩:=Q0m iU q3 Vn (by omega);rw[oJ] at w1 w2 w3;have dz:(List.replicate R.length (1:Int)).length=R.length:=by simp
  simp only[zd,rG];intro pB tl;refine⟨λhb=>?_,λhb=>?_⟩
  .have bw:k<by_.length:=by grind
   refine⟨by omega,by omega,?_⟩;rw[Qf bw];have hs:=g6 _ (zl bw);generalize by_[k]=mx at hs |-;intro mD vQ;subst vQ;obtain⟨k1,k2,k3,k4⟩:=key mD hs.2;refine⟨by omega,by omega,λkI oV=>?_⟩;subst oV;simp only[true_and,and_true,bne_eq_false_iff_eq,Int.ofNat_lt,forall_eq,false_implies,zm,Bool.or_self,forall_const,pz,pw,pk,pl,k1,k2,k3,k4,w1,w2,dz,oJ,dC]
   grind [List.length_cons,List.length_nil,Qc]
  .have bw:¬ k<by_.length:=by grind
   have h3:∀ x∈([3]:List Int),0<=x/\x<=255:=by simp
   obtain⟨k1,k2,k3,k4⟩:=key [3] h3;refine⟨by omega,by omega,λkI oV=>?_⟩;subst oV;simp only[true_and,and_true,bne_eq_false_iff_eq,Int.ofNat_lt,forall_eq,false_implies,zm,Bool.or_self,forall_const,pz,pw,pk,pl,k1,k2,k3,k4,w1,w2,dz,oJ,dC]
   grind [List.length_cons,List.length_nil,Qc]
 .have eX:k=L.length:=by
   grind
  subst eX;rw[List.take_length];obtain⟨o1,o2,o3⟩:=Q1t iU r1 (by omega) r3 l1 (by omega) l3;obtain⟨s1,s2,s3⟩:=Z10 (R:=R) (ss:=L.map (·.2)) (by rw[ne_eq,List.map_eq_nil_iff];exact l1) (by grind);obtain⟨m1,m2,m3⟩:=Q95 iU r1 (by omega) r3 s1;rw[o1,o2,o3,m1,m2,m3];generalize D_ (L.map (·.2))=F at *
  simp only[true_and,and_true,exists_eq_left',zh,zz,zX,bne_iff_ne,ne_eq,bne_eq_false_iff_eq,forall_eq,false_implies,zm,Bool.or_self,Bool.and_self,y8,Bool.true_and,y7,implies_true,forall_const,decide_true];have wZ:F.length=R.length:=s1.1;have ov:∀ x∈L,x.2.length<=1000:=λx hx=>by have:=(l3 x hx).2.1;omega
  refine⟨⟨by omega,ov⟩,⟨by omega,ov⟩,by omega,by omega,⟨by omega,by omega⟩,by decide,λ_ _=>by omega,λc=>?_,λ_=>⟨(L,H,F),0,(by grind),?_⟩⟩
  .by_cases ht:(Int.tmod (by_.length:Int) 2==0)=true
   .grind [Q78]
   grind
  dsimp only;refine LoopP.count R.length (λ_=>True) trivial λp hp _ q2 j7=>?_;intro vR;refine⟨(L,H,F,(p:Int)),0,(by grind),?_⟩;dsimp only;refine LoopP.count L.length (λ_=>True) trivial λi hi _ q3 vS=>?_;refine⟨λh1=>?_,λh1=>⟨by rw[Qc];omega,(p:Int)+1,⟨rfl,rfl,rfl,rfl,rfl⟩,j7 (by omega) trivial⟩⟩;have aj:i<L.length:=by omega
  have oK:p<R.length:=by omega
  have rI:=(l3 _ (zl aj)).2;have hs:=s2 (L[i].2) (zS.2 ⟨L[i],zl aj,rfl⟩);simp only[zd];rw[Qf aj];generalize L[i].2=V at rI hs |-;have oJ:=rI.1;have hr:=vP _ (XX oK);have hf:=s1.ok r3 _ (XX (show p<F.length by omega));have hv:=rI.ok r3 _ (XX (show p<V.length by omega));have hb:=(hs.2 p (by omega)).2;have e:Qb .and .i64 (V.getD p 0) (Qb .andNot .i64 (R.getD p 0) (F.getD p 0))=0:=by
   obtain⟨q1,w4⟩:=DZ (a:=(R.getD p 0).toNat) (b:=(F.getD p 0).toNat) (by omega) (by omega)
   grind [J4w,Z0k]
  exact⟨by omega,h1,by omega,by omega,by omega,by omega,by omega,by omega,λc=>c e,λ_=>⟨by rw[Qc];omega,vS aj trivial⟩⟩
theorem Q2f {α β:Type}{f:α->Option β}:∀ {L:List α}{ys:List β},L.mapM f=some ys->ys.length=L.length/\∀ (i:Nat) (h:i<L.length) (h2:i<ys.length),f L[i]=some ys[i]
 |[],ys,h=>by simp at h;subst h;simp
 |a::L,ys,h=>by
  simp only[xg,zy,zY,Option.pure_def,xp] at h;obtain⟨y,hy,zs,hz,rfl⟩:=h;obtain⟨e1,e2⟩:=Q2f hz;refine⟨by simp[e1],λi h1 h2=>?_⟩;cases i with
  |zero=>exact hy
  |succ i=>exact e2 i (by simpa using h1) (by simpa using h2)
theorem Z0f {H:Type}{enc:TypeId×Value->H}{P:Program}{w:World}{base:Nat}{sp:Nat->Bool}{held:Bool}{fuel:Nat}{t:TypeId}{k:IntKind}{c:Value}{y:DataW H×List MemPlace}
  (ht:P.underlying t=some (.int k)) (h:DataW.trod enc P w base sp held fuel t [c]=some y):∃ n,c=.int k n/\y=(.lit (.int k n),[]):=by
 cases fuel with
 |zero=>simp[DataW.trod] at h
 |succ fuel =>cases c<;>simp[DataW.trod,ht] at h;rename_i k' n;obtain⟨⟨rfl,_⟩,rfl⟩:=h;exact⟨n,rfl,rfl⟩
theorem Q9x {H:Type}{enc:TypeId×Value->H}{P:Program}{w:World}{base:Nat}{sp:Nat->Bool}{held:Bool}{fuel:Nat}{t e:TypeId}{k:IntKind}{n:Nat}{l:List Value}{xs:List Int}{p:List MemPlace}
  (ht:P.underlying t=some (.array n e)) (he:P.underlying e=some (.int k)) (h1:P.cellsOf e=1) (hc:P.cellsOf t=n) (h:DataW.trod enc P w base sp held fuel t l=some (.agg (xs.map λx=>.lit (.int k x)),p)):l=xs.map λx=>.int k x:=by
 cases fuel with
 |zero=>simp[DataW.trod] at h
 |succ fuel =>
  simp only[DataW.trod,ht,h1,hc,y9] at h;split at h
  .rename_i hl;simp only[zi,Prod.mk.injEq,DataW.agg.injEq] at h;obtain⟨ys,hm,hx,_⟩:=h;obtain⟨e1,e2⟩:=Q2f hm;rw[List.length_range] at e1;have hlen:xs.length=ys.length:=by
    have:=congrArg List.length hx;simpa using this.symm
   refine List.ext_getElem (by rw[xG];omega) λi k1 k2=>?_;have hy:=e2 i (by rw[List.length_range];omega) (by omega);rw[List.getElem_range,xR k1] at hy;simp only[y6,yj] at hy;obtain⟨m,jW,gZ⟩:=Z0f he hy;rw[jW,xN];have rJ:(ys.map (·.1))[i]'(by rw[xG];omega)=(xs.map λx=>(DataW.lit (Lit.int k x):DataW H))[i]'(by rw[xG];omega):=by
    simp only[hx]
   rw[xN,xN,gZ] at rJ;simp only[DataW.lit.injEq,Lit.int.injEq,true_and] at rJ;rw[rJ]
  .cases h
theorem tab_heap {P:Program}{nm:String}{g G:Nat}{t e:TypeId}{k:IntKind}{n fuel:Nat}{cs:Array Value}{xs:List Int}{p:List MemPlace}{W:World}(hv:W.var? P nm=some cs) (hG:P.globalNamed nm=some G) (hg:P.globalNamed nm=some g) {T:TypeId}(hT:(P.globals[G]?).map (·.type)=some T) (oW:(P.globals[g]?).map (·.type)=some t)
  (ht:P.underlying T=some (.array n e)) (he:P.underlying e=some (.int k)) (h1:P.cellsOf e=1) (hc:P.cellsOf T=n) (hd:DataW.trod (λ_=>()) P W 0 (λ_=>true) false fuel t cs.toList=some (.agg (xs.map λx=>.lit (.int k x)),p)):∃ e f,W.heap[G]?=some (.cells (xs.map λx=>Value.int k x).toArray e f):=by
 obtain rfl:=osj (hG.symm.trans hg);obtain rfl:=osj (hT.symm.trans oW);have hl:=Q9x ht he h1 hc hd;unfold World.var? at hv;rw[hG] at hv;simp only[xi] at hv;split at hv
 .rename_i cs' a b hh;obtain rfl:=osj hv;refine⟨a,b,?_⟩;rw[hh,<-hl]
 .cases hv
theorem cchPre_of {x:Int×List Int×List (List Int)}(h:AWf [.i .u8,.list (.i .u16),.list (.list (.i .u8))] x):(0<=x.1/\x.1<=255)/\(x.2.1.length<=9223372036854775807/\∀ y∈x.2.1,0<=y/\y<=65535)/\x.2.2.length<=9223372036854775807/\∀ s∈x.2.2,s.length<=9223372036854775807/\∀ y∈s,0<=y/\y<=255:=by obtain⟨h1,h2,h3⟩:=h;exact⟨(Q6n _).1 h1,⟨h2.1,λy hy=>(Z3z y).1 (h2.2 y hy)⟩,h3.1,λs hs=>⟨(h3.2 s hs).1,λy hy=>(Q6n y).1 ((h3.2 s hs).2 y hy)⟩⟩
end Go.Proofs.Tryz