/- A framework for walks, contracts of functions, and their proofs: part 8. -/
import Derived.Test.YtdbeaoaplpddnaaGreatDoorR7
namespace Go.Proofs.Tryz
open Go Go.V
theorem Cf:SU tab 300 Vx [] c14 none (ET.of [] 42) CH.empty (Q1a false [.tmp 0] fun v _=>isTrue v)=true:=by kernel_rfl
theorem Cg {σ:Heap}{K:Value→Heap→Prop}(hK:K (.bool true) σ):VCalled Tryz.prog 14 [] σ K:=AY mixed Q1q 300 Q60 (by decide) Cf hK
end Go.Proofs.Tryz
set_option linter.unusedVariables false
namespace Go.Proofs.Tryz
open Go Go.V Go.Proofs
def Pt:AL (Unit):=.nil
def Bh (d:Unit):Prop:=True
def Bf (d:Unit):SV:=.val .bo true
def Bi (d:Unit):List OB:=[]
def NY:CSp:=Xv Pt Bh Bf Bi
abbrev Po:Prop:=OkC Tryz.prog 22 NY
theorem HQ:Po:=AH fun _ _ h=>Lb h
def HA:AL (Unit):=.nil
def BI (d:Unit):Prop:=True
def Bz (d:Unit):SV:=.val .bo true
def BC (d:Unit):List OB:=[]
def My:CSp:=Xv HA BI Bz BC
abbrev HZ:Prop:=OkC Tryz.prog 14 My
theorem Ps:HZ:=AH fun _ _ h=>Cg h
def Mc:AL (List Int):=(.one (.k (.list (.i .i64))))
def PT (d:List Int):Prop:=d.length≤1000
def Uu (d:List Int):SV:=.lst 0
def UY (d:List Int):List OB:=[.lst 3 (.i .i64) d false]
def Vz:CSp:=Xv Mc PT Uu UY
def Wf (l:List Int):Prop :=
 (((List.length ([]:List Int))+(List.length l))*8≤70368744177664)∧(True∧(((([]:List Int)++l)=l∧((List.isEmpty l)&&false)=false)∧True))
def N_:Cx:=⟨[(3,(.i .i64))],[],6,[],0,[],[],[],[],false,[],[],[],[]⟩
def TG (l:List Int):List (Nat×LoopAnn):=[]
set_option maxRecDepth 100000 in
theorem TN (d:List Int):gwp (N_) (TG d) c10 0 (Ws [.tmp 2] (Uu d) (UY d)) (Qk 6 (AL.can Mc d))=Wf d:=by kernel_rfl
abbrev TE:Prop:=OkC Tryz.prog 10 Vz
theorem Tj (h:∀ (l:List Int),(l.length≤1000)→Wf l):OkC Tryz.prog 10 Vz :=
 QC Q7w mixed (C:=N_) (V:=fun (d:List Int)=>Wf d) ⟨.nil,XsOk.nil,ItsOk.nil,YlOk.nil,IysOk.nil,XfOk.nil⟩ (TN) fun d hp=>h d hp
theorem TQ:TE:=Tj fun l h=>by
 (unfold Wf;(try delta lI gD sT I64);simp);omega
def GK:AL (Int×List Int):=(.one (.agg (.cons (.k (.i .i64)) (.one (.k (.list (.i .i64)))))))
def Td (d:Int×List Int):Prop:=d.2.length≤1000
def Mg (d:Int×List Int):SV:=.agg [.val (.i .i64) d.1,.lst 0]
def Mw (d:Int×List Int):List OB:=[.lst 3 (.i .i64) d.2 false]
def Np:CSp:=Xv GK Td Mg Mw
def Yb (hd:Int) (rows:List Int):Prop :=
 (rows.length≤1000)∧(false=true→rows=[])∧((hd=hd∧True∧(([]:List SV)=[]))∧((rows=rows∧false=false)∧True))
def Gr:Cx:=⟨[],[(10,Vz)],9,[],0,[],[],[],[],false,[],[],[],[]⟩
def Sw (hd:Int) (rows:List Int):List (Nat×LoopAnn):=[]
set_option maxRecDepth 100000 in
theorem SG (d:Int×List Int):gwp (Gr) (Sw d.1 d.2) c18 0 (Ws [.cell 2 true 2] (Mg d) (Mw d)) (Qk 9 (AL.can GK d))=Yb d.1 d.2:=by kernel_rfl
abbrev RZ:Prop:=OkC Tryz.prog 18 Np
theorem S5 (h:∀ (hd:Int) (rows:List Int),(rows.length≤1000)→Yb hd rows):OkC Tryz.prog 18 Np :=
 QC Q4b mixed (C:=Gr) (V:=fun (d:Int×List Int)=>Yb d.1 d.2) ⟨(.cons TQ .nil),XsOk.nil,ItsOk.nil,YlOk.nil,IysOk.nil,XfOk.nil⟩ (SG) fun d hp=>h d.1 d.2 hp
theorem SK:RZ:=S5 fun hd rows h=>by simp[Yb,h]
theorem Cd {m h8:Int}(hm:0<m) (h:0≤h8):1≤hkN m h8∧hkN m h8≤m:=by have h1:=Int.tmod_nonneg m h;have h2:=Int.tmod_lt_of_pos h8 hm;simp only[hkN];omega
theorem EZ {hk:Int}{cap:Nat}{ws:List Int}:(PL hk cap ws).length=if ws=[] then 1 else min cap ws.length:=by unfold PL;split<;>simp
def WB:AL (Int×List Int×List Int×List Int):=(.one (.agg (.cons (.k (.i .u8)) (.cons (.k (.list (.i .u8))) (.cons (.k (.list (.i .u16))) (.one (.k (.list (.i .u8)))))))))
def U5 (d:Int×List Int×List Int×List Int):Prop:=bOk d.1 d.2.1 d.2.2.1 d.2.2.2
def XX (d:Int×List Int×List Int×List Int):SV:=.agg [.val (.i .i64) (hkN 12 d.1),.lst 0]
def XW (d:Int×List Int×List Int×List Int):List OB:=[.lst 3 (.i .i64) (Qh (hkN 12 d.1) 10 d.2.2.1) false]
def JV:CSp:=Xv WB U5 XX XW
def ZC (h8:Int) (ws:List Int) (rs:List Int) (ds:List Int):Prop :=
 (I64 h8)∧((12:Int)≠0)∧(I64 ((1:Int)+(Int.tmod h8 (12:Int))))∧∃ (e4:Unit) (d40:(List Int)×Int),((True∧True∧True∧(0:Int)=d40.2∧True)∧((h8=h8∧ws=ws∧rs=rs∧ds=ds∧(([]:List SV)=[]))∧((0:Int)=(0:Int)∧True∧(([]:List SV)=[]))∧(((1:Int)+(Int.tmod h8 (12:Int)))=((1:Int)+(Int.tmod h8 (12:Int)))∧True∧(([]:List SV)=[]))∧(d40.1=[]∧(List.isEmpty d40.1)=true)∧True)) ∧
 LoopP (fun (d4:(List Int)×Int) (q4:((List Int)×Int)→Prop) =>
  (((d4.2==(0:Int))||((decide (d4.2<(lI rs)))&&(decide (d4.2<(10:Int)))))=true →
   ((decide (d4.2<(lI rs)))=true →
    (0≤d4.2)∧(d4.2<(List.length rs))∧(I64 (gD rs d4.2 0))∧(InK .u64 ((1:Int)+(Int.tmod h8 (12:Int))))∧(0≤((1:Int)+(Int.tmod h8 (12:Int))))∧(I64 (M_ .i64 (1:Int) ((1:Int)+(Int.tmod h8 (12:Int)))))∧(I64 ((M_ .i64 (1:Int) ((1:Int)+(Int.tmod h8 (12:Int))))-(1:Int)))∧(((List.length d4.1)+(List.length [(Q1 .and .i64 (gD rs d4.2 0) ((M_ .i64 (1:Int) ((1:Int)+(Int.tmod h8 (12:Int))))-(1:Int)))]))*8≤70368744177664)∧(I64 (d4.2+(1:Int)))∧(∃ d5:(List Int)×Int,((True∧True∧True∧(d4.2+(1:Int))=d5.2∧True)∧((h8=h8∧ws=ws∧rs=rs∧ds=ds∧(([]:List SV)=[]))∧((0:Int)=(0:Int)∧True∧(([]:List SV)=[]))∧(((1:Int)+(Int.tmod h8 (12:Int)))=((1:Int)+(Int.tmod h8 (12:Int)))∧True∧(([]:List SV)=[]))∧((d4.1++[(Q1 .and .i64 (gD rs d4.2 0) ((M_ .i64 (1:Int) ((1:Int)+(Int.tmod h8 (12:Int))))-(1:Int)))])=d5.1∧false=(List.isEmpty d5.1))∧True))∧q4 d5)) ∧
   ((decide (d4.2<(lI rs)))=false →
    (InK .u64 ((1:Int)+(Int.tmod h8 (12:Int))))∧(0≤((1:Int)+(Int.tmod h8 (12:Int))))∧(I64 (M_ .i64 (1:Int) ((1:Int)+(Int.tmod h8 (12:Int)))))∧(I64 ((M_ .i64 (1:Int) ((1:Int)+(Int.tmod h8 (12:Int))))-(1:Int)))∧(((List.length d4.1)+(List.length [(Q1 .and .i64 (21:Int) ((M_ .i64 (1:Int) ((1:Int)+(Int.tmod h8 (12:Int))))-(1:Int)))]))*8≤70368744177664)∧(I64 (d4.2+(1:Int)))∧(∃ d6:(List Int)×Int,((True∧True∧True∧(d4.2+(1:Int))=d6.2∧True)∧((h8=h8∧ws=ws∧rs=rs∧ds=ds∧(([]:List SV)=[]))∧((0:Int)=(0:Int)∧True∧(([]:List SV)=[]))∧(((1:Int)+(Int.tmod h8 (12:Int)))=((1:Int)+(Int.tmod h8 (12:Int)))∧True∧(([]:List SV)=[]))∧((d4.1++[(Q1 .and .i64 (21:Int) ((M_ .i64 (1:Int) ((1:Int)+(Int.tmod h8 (12:Int))))-(1:Int)))])=d6.1∧false=(List.isEmpty d6.1))∧True))∧q4 d6))) ∧
  (((d4.2==(0:Int))||((decide (d4.2<(lI rs)))&&(decide (d4.2<(10:Int)))))=false →
   ((((1:Int)+(Int.tmod h8 (12:Int)))=(hkN 12 h8)∧True∧(([]:List SV)=[]))∧((d4.1=(Qh (hkN 12 h8) 10 rs)∧(List.isEmpty d4.1)=false)∧True)))) d40
def WA:Cx:=⟨[(3,(.i .i64))],[],51,[],0,[],[],[],[],false,[],[],[],[]⟩
def Ni (h8:Int) (ws:List Int) (rs:List Int) (ds:List Int):List (Nat×LoopAnn):=[(0,⟨Unit,(List Int)×Int,[1,2,3,4],fun e x=>[.box 1 0,.box 2 0,.box 3 0,.val (.i .i64) x.2],fun e x=>[(1,.slot 1,.cells [.val (.i .u8) h8,.val (.list (.i .u8)) ws,.val (.list (.i .u16)) rs,.val (.list (.i .u8)) ds] (some 45)),(2,.slot 2,.cells [.val (.i .i64) (0:Int),.nilS] (some 47)),(3,.slot 3,.cells [.val (.i .i64) ((1:Int)+(Int.tmod h8 (12:Int))),.lst 48] (some 47)),(48,.cell 3 1,.lst 3 (.i .i64) x.1 (List.isEmpty x.1))]⟩)]
set_option maxRecDepth 100000 in
theorem Nc (d:Int×List Int×List Int×List Int):gwp (WA) (Ni d.1 d.2.1 d.2.2.1 d.2.2.2) c16 0 (Ws [.cell 2 true 2] (XX d) (XW d)) (Qk 51 (AL.can WB d))=ZC d.1 d.2.1 d.2.2.1 d.2.2.2:=by kernel_rfl
abbrev UU:Prop:=OkC Tryz.prog 16 JV
theorem UX (h:∀ (h8:Int) (ws:List Int) (rs:List Int) (ds:List Int),(bOk h8 ws rs ds)→ZC h8 ws rs ds):OkC Tryz.prog 16 JV :=
 QC Q80 mixed (C:=WA) (V:=fun (d:Int×List Int×List Int×List Int)=>ZC d.1 d.2.1 d.2.2.1 d.2.2.2) ⟨.nil,XsOk.nil,ItsOk.nil,YlOk.nil,IysOk.nil,XfOk.nil⟩ (Nc) fun d hp=>h d.1 d.2.1 d.2.2.1 d.2.2.2 hp
theorem Q01 {x h:Int}(h0:0≤x) (h1:x<9223372036854775808) (a:1≤h) (b:h≤24):Q1 .and .i64 x (M_ .i64 1 h-1)=x % 2 ^ h.toNat:=by
 obtain⟨n,rfl⟩:=Int.eq_ofNat_of_zero_le h0;obtain⟨m,rfl⟩:=Int.eq_ofNat_of_zero_le (show 0≤h by omega);have hp:=KQ a b;rw[CT (by omega) (by omega)];simp only[Int.toNat_natCast] at hp ⊢;have e2:((2:Int) ^ m)=((2 ^ m:Nat):Int):=by rw[Int.natCast_pow];rfl
 rw[e2] at hp ⊢;have e:(((2 ^ m:Nat):Int)-1)=((2 ^ m-1:Nat):Int):=by omega
 rw[e,S6 (by omega) (by omega),Nat.and_two_pow_sub_one_eq_mod];rfl
theorem Lt {hk:Int}{cap:Nat}{rs:List Int}:(Qh hk cap rs).length=if rs=[] then 1 else min cap rs.length:=by unfold Qh;split<;>simp
theorem IQ {hk:Int}{cap:Nat}{rs:List Int}{i:Nat}(h:i<rs.length) (hc:i<cap):(Qh hk cap rs)[i]?=some (rs.getD i 0 % 2 ^ hk.toNat):=by
 have aC:rs≠[]:=by rintro rfl;simp at h
 unfold Qh;rw[if_neg aC];simp[hc,h]
theorem Up:UU:=UX fun h8 ws rs ds h=>by
 obtain⟨h1,h2,wk,qM,hds⟩:=h;have hk:1≤hkN 12 h8∧hkN 12 h8≤12:=Cd (m:=12) (by omega) h1;have e:(1+Int.tmod h8 12)=hkN 12 h8:=rfl;have hp:=KQ hk.1 (show hkN 12 h8≤24 by omega);have hs:=CT (show 0≤hkN 12 h8 by omega) (show hkN 12 h8≤62 by omega);have hm:∀ x,0≤x→x<9223372036854775808→Q1 .and .i64 x (2 ^ (hkN 12 h8).toNat-1)=x % 2 ^ (hkN 12 h8).toNat:=fun x a b=>by
  have:=Q01 a b hk.1 (show hkN 12 h8≤24 by omega)
  rwa [hs] at this
 have hu:InK .u64 (hkN 12 h8):=⟨by show (0:Int)≤_;omega,by show _≤(18446744073709551615:Int);omega⟩;unfold ZC;(try delta lI gD sT I64);simp only[true_and,and_true,exists_const,decide_eq_true_eq,decide_eq_false_iff_not,ne_eq,Z1,e,hs,hu];refine⟨by omega,by omega,by omega,([],0),⟨rfl,rfl,rfl⟩,?_⟩;have hN:(Qh (hkN 12 h8) 10 rs).length=if rs=[] then 1 else min 10 rs.length:=Lt
 have ak:∀ k:Nat,(((k:Int)==0)||(decide ((k:Int)<rs.length)&&decide ((k:Int)<10)))=decide (k<(Qh (hkN 12 h8) 10 rs).length):=fun k=>by
  rw[hN];by_cases hz:rs=[]
  ·subst hz;cases k<;>simp;omega
  ·have:0<rs.length:=List.length_pos_iff.2 hz;rw[if_neg hz];cases k with
   |zero=>simp;omega
   |succ k =>rw[Bool.eq_iff_iff];simp;omega
 have vu:(Qh (hkN 12 h8) 10 rs).length≤10:=by rw[hN];split<;>omega
 refine LoopP.count2 (Qh (hkN 12 h8) 10 rs).length (fun k xs=>xs=(Qh (hkN 12 h8) 10 rs).take k) (by simp) fun k xs lU hJ q hq=>?_;dsimp only;rw[ak];simp only[decide_eq_true_eq,decide_eq_false_iff_not,Int.toNat_natCast,Int.ofNat_lt];refine⟨fun ah=>⟨fun hw=>?_,fun hw=>?_⟩,fun a9=>?_⟩
 ·have hw:k<rs.length:=by omega
  have vw:=qM _ (List.getElem_mem hw);have qN:k<10:=by omega
  simp only[Q8 hw,List.length_singleton];have hv:(Qh (hkN 12 h8) 10 rs)[k]=rs[k] % 2 ^ (hkN 12 h8).toNat:=by have:=IQ (hk:=hkN 12 h8) hw qN;rw[Q8 hw] at this;have h3:=List.getElem?_eq_getElem ah;exact osj (h3.symm.trans this)
  rw[hm _ (by omega) (by omega)];refine⟨by omega,by omega,by omega,by omega,by omega,by omega,by rw[hJ,List.length_take];omega,by omega,(xs++[rs[k] % 2 ^ (hkN 12 h8).toNat],(k:Int)+1),⟨rfl,rfl,by simp⟩,hq _ ah ?_⟩;rw[Z0 ah,←hJ,hv]
 ·have hz:rs=[]:=by
   cases qM:rs with
   |nil=>rfl
   |cons a l =>
    exfalso;rw[hN] at ah;have:rs≠[]:=by rw[qM];simp
    rw[if_neg this] at ah;omega
  have fP:k=0:=by rw[hN,if_pos hz] at ah;omega
  subst fP;simp only[List.length_singleton];rw[hm _ (by omega) (by omega)];refine⟨by omega,by omega,by omega,by rw[hJ,List.length_take];omega,by omega,(xs++[21 % 2 ^ (hkN 12 h8).toNat],1),⟨rfl,rfl,by simp⟩,hq _ ah ?_⟩;rw[Z0 ah,←hJ];simp[Qh,hz]
 ·have:k=(Qh (hkN 12 h8) 10 rs).length:=by omega
  subst this;rw[List.take_length] at hJ;subst hJ;refine⟨rfl,?_⟩;rw[List.isEmpty_eq_false_iff];intro hz;rw[hz] at hN;split at hN
  ·cases hN
  ·rename_i aC;have:=List.length_pos_iff.2 aC;simp only[List.length_nil] at hN;omega
end Go.Proofs.Tryz
set_option linter.unusedVariables false
namespace Go.Proofs.Tryz
open Go Go.V Go.Proofs
def WZ:AL ((Int×List Int×List Int×List Int)×(List (Int×Int×Int×Int))×Int×List Int):=(.cons (.agg (.cons (.k (.i .u8)) (.cons (.k (.list (.i .u8))) (.cons (.k (.list (.i .u16))) (.one (.k (.list (.i .u8)))))))) (.one (.agg (.cons (.k (.list (.pair (.i .u8) (.pair (.i .u8) (.pair (.i .u8) (.i .u8)))))) (.cons (.k (.i .u8)) (.one (.k (.list (.i .u8)))))))))
def N6 (d:(Int×List Int×List Int×List Int)×(List (Int×Int×Int×Int))×Int×List Int):Prop:=bOk d.1.1 d.1.2.1 d.1.2.2.1 d.1.2.2.2∧Tl d.2.1 d.2.2.1 d.2.2.2
def Wy (d:(Int×List Int×List Int×List Int)×(List (Int×Int×Int×Int))×Int×List Int):SV:=.val .bo true
def WH (d:(Int×List Int×List Int×List Int)×(List (Int×Int×Int×Int))×Int×List Int):List OB:=[]
def YO:CSp:=Xv WZ N6 Wy WH
abbrev Sb:=fun (h8:Int) (rs:List Int) (vl:List (Int×Int×Int×Int)) (to:Int) (d3:(List (Int×Int))×Int) (q3:_→Prop) qO=>(∀ ( qP:Bool ) ,qP=( decide ( qO > ( 0:Int ) ) )→( qP=true→( ( ( List.length d3.1 )+( List.length [ ( d3.2 ,qO ) ] ) )*16≤70368744177664 )∧( I64 ( d3.2+( 1:Int ) ) )∧( ∃ qQ:( List ( Int×Int ) )×Int ,( ( True∧( 20+Int.tmod to 60 )=( 20+Int.tmod to 60 )∧( ( Y_ ( hkN 12 h8 ) ( Qh ( hkN 12 h8 ) 10 rs ) ( if Q5 ( hkN 12 h8 ) ( Qh ( hkN 12 h8 ) 10 rs )=0 then ( hkN 12 h8 ) else 0 ) ( bkR ( hkN 12 h8 ) ( Qh ( hkN 12 h8 ) 10 rs ) ) ).1 )=( ( Y_ ( hkN 12 h8 ) ( Qh ( hkN 12 h8 ) 10 rs ) ( if Q5 ( hkN 12 h8 ) ( Qh ( hkN 12 h8 ) 10 rs )=0 then ( hkN 12 h8 ) else 0 ) ( bkR ( hkN 12 h8 ) ( Qh ( hkN 12 h8 ) 10 rs ) ) ).1 )∧( ( Y_ ( hkN 12 h8 ) ( Qh ( hkN 12 h8 ) 10 rs ) ( hkN 12 h8 ) ( List.replicate ( Int.toNat ( lI ( Qh ( hkN 12 h8 ) 10 rs ) ) ) ( 0:Int ) ) ).1 )=( ( Y_ ( hkN 12 h8 ) ( Qh ( hkN 12 h8 ) 10 rs ) ( hkN 12 h8 ) ( List.replicate ( Int.toNat ( lI ( Qh ( hkN 12 h8 ) 10 rs ) ) ) ( 0:Int ) ) ).1 )∧True∧( d3.2+( 1:Int ) )=qQ.2∧True )∧( ( ( JG vl )=( JG vl )∧false=false )∧( ( d3.1++[ ( d3.2 ,qO ) ] )=qQ.1∧false=false )∧True ) )∧q3 qQ ) )∧( qP=false→( I64 ( d3.2+( 1:Int ) ) )∧( ∃ qR:( List ( Int×Int ) )×Int ,( ( True∧( 20+Int.tmod to 60 )=( 20+Int.tmod to 60 )∧( ( Y_ ( hkN 12 h8 ) ( Qh ( hkN 12 h8 ) 10 rs ) ( if Q5 ( hkN 12 h8 ) ( Qh ( hkN 12 h8 ) 10 rs )=0 then ( hkN 12 h8 ) else 0 ) ( bkR ( hkN 12 h8 ) ( Qh ( hkN 12 h8 ) 10 rs ) ) ).1 )=( ( Y_ ( hkN 12 h8 ) ( Qh ( hkN 12 h8 ) 10 rs ) ( if Q5 ( hkN 12 h8 ) ( Qh ( hkN 12 h8 ) 10 rs )=0 then ( hkN 12 h8 ) else 0 ) ( bkR ( hkN 12 h8 ) ( Qh ( hkN 12 h8 ) 10 rs ) ) ).1 )∧( ( Y_ ( hkN 12 h8 ) ( Qh ( hkN 12 h8 ) 10 rs ) ( hkN 12 h8 ) ( List.replicate ( Int.toNat ( lI ( Qh ( hkN 12 h8 ) 10 rs ) ) ) ( 0:Int ) ) ).1 )=( ( Y_ ( hkN 12 h8 ) ( Qh ( hkN 12 h8 ) 10 rs ) ( hkN 12 h8 ) ( List.replicate ( Int.toNat ( lI ( Qh ( hkN 12 h8 ) 10 rs ) ) ) ( 0:Int ) ) ).1 )∧True∧( d3.2+( 1:Int ) )=qR.2∧True )∧( ( ( JG vl )=( JG vl )∧false=false )∧( d3.1=qR.1∧false=false )∧True ) )∧q3 qR ) ):Prop)
abbrev Zn (h8:Int) (rs:List Int):=((Y_ (hkN 12 h8) (Qh (hkN 12 h8) 10 rs) (if Q5 (hkN 12 h8) (Qh (hkN 12 h8) 10 rs)=0 then (hkN 12 h8) else 0) (bkR (hkN 12 h8) (Qh (hkN 12 h8) 10 rs))).1)
abbrev CJ (h8:Int) (ws:List Int) (rs:List Int) (ds:List Int) (vl:List (Int×Int×Int×Int)) (to:Int) (mo:List Int):=((True∧True∧(20+Int.tmod to 60)=(20+Int.tmod to 60)∧(Q5 (hkN 12 h8) (Qh (hkN 12 h8) 10 rs))=(Q5 (hkN 12 h8) (Qh (hkN 12 h8) 10 rs))∧(Zn h8 rs)=(Zn h8 rs)∧(Xr (hkN 12 h8) (Qh (hkN 12 h8) 10 rs) (if Q5 (hkN 12 h8) (Qh (hkN 12 h8) 10 rs)=0 then (hkN 12 h8) else 0) (bkR (hkN 12 h8) (Qh (hkN 12 h8) 10 rs)))=(Xr (hkN 12 h8) (Qh (hkN 12 h8) 10 rs) (if Q5 (hkN 12 h8) (Qh (hkN 12 h8) 10 rs)=0 then (hkN 12 h8) else 0) (bkR (hkN 12 h8) (Qh (hkN 12 h8) 10 rs)))∧True∧True∧True∧True∧True∧True∧((hkN 12 h8)=(hkN 12 h8)∧True∧(([]:List SV)=[]))∧((hkN 12 h8)=(hkN 12 h8)∧True∧(([]:List SV)=[]))∧True∧True)∧((h8=h8∧ws=ws∧rs=rs∧ds=ds∧(([]:List SV)=[]))∧(vl=vl∧to=to∧mo=mo∧(([]:List SV)=[]))∧((hkN 12 h8)=(hkN 12 h8)∧True∧(([]:List SV)=[]))∧((if Q5 (hkN 12 h8) (Qh (hkN 12 h8) 10 rs)=0 then (hkN 12 h8) else 0)=(if Q5 (hkN 12 h8) (Qh (hkN 12 h8) 10 rs)=0 then (hkN 12 h8) else 0)∧True∧(([]:List SV)=[]))∧((Qh (hkN 12 h8) 10 rs)=(Qh (hkN 12 h8) 10 rs)∧false=false)∧((JG vl)=(JG vl)∧false=false)∧((Qh (hkN 12 h8) 10 rs)=(Qh (hkN 12 h8) 10 rs)∧false=false)∧((bkR (hkN 12 h8) (Qh (hkN 12 h8) 10 rs))=(bkR (hkN 12 h8) (Qh (hkN 12 h8) 10 rs))∧(bkR (hkN 12 h8) (Qh (hkN 12 h8) 10 rs)).isEmpty=(bkR (hkN 12 h8) (Qh (hkN 12 h8) 10 rs)).isEmpty)∧((Qh (hkN 12 h8) 10 rs)=(Qh (hkN 12 h8) 10 rs)∧false=false)∧((Qh (hkN 12 h8) 10 rs)=(Qh (hkN 12 h8) 10 rs)∧false=false)∧((List.replicate (Int.toNat (lI (Qh (hkN 12 h8) 10 rs))) (0:Int))=(List.replicate (Int.toNat (lI (Qh (hkN 12 h8) 10 rs))) (0:Int))∧false=false)∧True))
abbrev G_ (h8:Int) (rs:List Int):=((Y_ (hkN 12 h8) (Qh (hkN 12 h8) 10 rs) (hkN 12 h8) (List.replicate (Int.toNat (lI (Qh (hkN 12 h8) 10 rs))) (0:Int))).1)
abbrev WL (vl:List (Int×Int×Int×Int)):=((JG vl)=(JG vl)∧false=false)
abbrev Xe (h8:Int) (rs:List Int):=(lI (Qh (hkN 12 h8) 10 rs))
abbrev A8 (h8:Int) (rs:List Int):=( ( Y_ ( hkN 12 h8 ) ( Qh ( hkN 12 h8 ) 10 rs ) ( hkN 12 h8 ) ( List.replicate ( Int.toNat ( lI ( Qh ( hkN 12 h8 ) 10 rs ) ) ) ( 0:Int ) ) ).1 )
abbrev Dq (h8:Int) (rs:List Int):=((Qh (hkN 12 h8) 10 rs).length≤1000)
def ZT (h8 : Int) (ws : List Int) (rs : List Int) (ds : List Int) (vl : List (Int × Int × Int × Int)) (to : Int) (mo : List Int) : Prop :=
  (bOk h8 ws rs ds) ∧ (Tl vl to mo) ∧ (Dq h8 rs) ∧ (Dq h8 rs) ∧ (Dq h8 rs) ∧ (false = true → (Qh (hkN 12 h8) 10 rs) = []) ∧ ((Qh (hkN 12 h8) 10 rs).length ≤ 1000 ∧ (bkR (hkN 12 h8) (Qh (hkN 12 h8) 10 rs)).length ≤ 1000) ∧ (Dq h8 rs) ∧ (false = true → (Qh (hkN 12 h8) 10 rs) = []) ∧ (0 ≤ (Xe h8 rs)) ∧ ((Xe h8 rs) ≤ (Xe h8 rs)) ∧ ((Xe h8 rs) * 8 ≤ 70368744177664) ∧ ((Xe h8 rs) ≤ 70368744177664) ∧ (CJ h8 ws rs ds vl to mo) ∧ ((0 ≤ (Xe h8 rs)) ∧ ((Xe h8 rs) ≤ (Xe h8 rs)) ∧ ((Xe h8 rs) * 8 ≤ 70368744177664) ∧ ((Xe h8 rs) ≤ 70368744177664) ∧ (Dq h8 rs) ∧ (false = true → (Qh (hkN 12 h8) 10 rs) = []) ∧ (CJ h8 ws rs ds vl to mo)) ∧ ((Qh (hkN 12 h8) 10 rs).length ≤ 1000 ∧ (List.replicate (Int.toNat (Xe h8 rs)) (0 : Int)).length ≤ 1000) ∧ ∀ (y1 : Bool), y1 = ((Q5 (hkN 12 h8) (Qh (hkN 12 h8) 10 rs)) != (0 : Int)) → ∀ (y2 : Bool), y2 = ((Xr (hkN 12 h8) (Qh (hkN 12 h8) 10 rs) (if Q5 (hkN 12 h8) (Qh (hkN 12 h8) 10 rs) = 0 then (hkN 12 h8) else 0) (bkR (hkN 12 h8) (Qh (hkN 12 h8) 10 rs))) != (0 : Int)) → ∀ (y3 : Bool), y3 = (y1 || y2) → ∀ (y4 : Bool), y4 = ((Xr (hkN 12 h8) (Qh (hkN 12 h8) 10 rs) (hkN 12 h8) (List.replicate (Int.toNat (Xe h8 rs)) (0 : Int))) != (0 : Int)) → ∀ (y5 : Bool), y5 = (y3 || y4) → (y5 = false → InK .i64 ((hkN 12 h8) * (Xe h8 rs))) ∧ ∀ (y6 : Bool), y6 = ((Zn h8 rs) != ((hkN 12 h8) * (Xe h8 rs))) → ∀ (y7 : Bool), y7 = (y5 || y6) → ∀ (y8 : Bool), y8 = (decide ((G_ h8 rs) < (0 : Int))) → ∀ (y9 : Bool), y9 = (y7 || y8) → ∀ (qS : Bool), qS = (decide ((G_ h8 rs) > (Zn h8 rs))) → ∀ (om : Bool), om = (y9 || qS) → (om = true →
    (false = true ∧ (True))) ∧
  (om = false →
    ∃ (e3 : Unit) (d30 : (List (Int × Int)) × Int), ((True ∧ (20 + Int.tmod to 60) = (20 + Int.tmod to 60) ∧ (Zn h8 rs) = (Zn h8 rs) ∧ (G_ h8 rs) = (G_ h8 rs) ∧ True ∧ (0 : Int) = d30.2 ∧ True) ∧ ((WL vl) ∧ (([] : List (Int × Int)) = d30.1 ∧ false = false) ∧ True)) ∧
    LoopP (fun (d3 : (List (Int × Int)) × Int) (q3 : ((List (Int × Int)) × Int) → Prop) =>
      ∀ (o3 : Bool), o3 = (decide (d3.2 < (2 : Int))) → (o3 = true →
        (I64 ((Zn h8 rs) - (G_ h8 rs))) ∧ (0 ≤ d3.2) ∧ (d3.2 < (2 : Int)) ∧
        (d3.2 = (0 : Int) →
           (Sb h8 rs vl to d3 q3 (A8 h8 rs))) ∧
        (d3.2 = (1 : Int) →
           (Sb h8 rs vl to d3 q3 ( ( ( Y_ ( hkN 12 h8 ) ( Qh ( hkN 12 h8 ) 10 rs ) ( if Q5 ( hkN 12 h8 ) ( Qh ( hkN 12 h8 ) 10 rs ) = 0 then ( hkN 12 h8 ) else 0 ) ( bkR ( hkN 12 h8 ) ( Qh ( hkN 12 h8 ) 10 rs ) ) ).1 ) - (A8 h8 rs) ))) ∧
        True) ∧
      (o3 = false →
        ((JG vl).length ≤ 1000) ∧ (((List.length ([] : List (Int × Int))) + (List.length d3.1)) * 16 ≤ 70368744177664) ∧ ((JG vl).length ≤ 1000 ∧ (([] : List (Int × Int)) ++ d3.1).length ≤ 1000) ∧ ∀ (o4 : Bool), o4 = ((Zg (JG vl) (20 + Int.tmod to 60) (([] : List (Int × Int)) ++ d3.1)) != (0 : Int)) → (o4 = true →
          ∀ (qT : Bool), qT = ((Zg (JG vl) (20 + Int.tmod to 60) (([] : List (Int × Int)) ++ d3.1)) != (7 : Int)) → ∀ (qU : Bool), qU = (decide ((JW (JG vl) (20 + Int.tmod to 60) (([] : List (Int × Int)) ++ d3.1)) < (0 : Int))) → ∀ (qV : Bool), qV = (qT || qU) → ∀ (qW : Bool), qW = (decide ((JW (JG vl) (20 + Int.tmod to 60) (([] : List (Int × Int)) ++ d3.1)) ≥ (lI d3.1))) → ∀ (oq : Bool), oq = (qV || qW) → (oq = true →
            (false = true ∧ (True))) ∧
          (oq = false →
            (0 ≤ (JW (JG vl) (20 + Int.tmod to 60) (([] : List (Int × Int)) ++ d3.1))) ∧ ((JW (JG vl) (20 + Int.tmod to 60) (([] : List (Int × Int)) ++ d3.1)) < (List.length d3.1)) ∧ ∀ (qX : Int), qX = (gD d3.1 (JW (JG vl) (20 + Int.tmod to 60) (([] : List (Int × Int)) ++ d3.1)) (0, 0)).1 → ∀ (qY : Int), qY = (gD d3.1 (JW (JG vl) (20 + Int.tmod to 60) (([] : List (Int × Int)) ++ d3.1)) (0, 0)).2 → ((JG vl).length ≤ 1000) ∧ ∀ (o5 : Bool), o5 = ((Jo (JG vl) (20 + Int.tmod to 60) qX qY) == (7 : Int)) → (o5 = true → True) ∧ ∀ (o6 : Bool), o6 = (o5 && true) → (o6 = true → True) ∧ ∀ (qZ : Bool), qZ = (o6 && true) → (qZ = true ∧ (True)))) ∧
        (o4 = false →
          ∃ (eZ : (List (Int × Int)) × (List (List Int))) (d100 : Int × Int), ((True ∧ (20 + Int.tmod to 60) = (20 + Int.tmod to 60) ∧ (Zn h8 rs) = (Zn h8 rs) ∧ True ∧ True ∧ (0 : Int) = d100.1 ∧ (0 : Int) = d100.2 ∧ True) ∧ ((WL vl) ∧ (d3.1 = eZ.1 ∧ false = false) ∧ ((KZ (JG vl) (20 + Int.tmod to 60) (([] : List (Int × Int)) ++ d3.1)) = eZ.2 ∧ (KZ (JG vl) (20 + Int.tmod to 60) (([] : List (Int × Int)) ++ d3.1)).isEmpty = (List.isEmpty eZ.2)) ∧ True)) ∧
          LoopP (fun (d10 : Int × Int) (qH : (Int × Int) → Prop) =>
            ∀ (lz : Bool), lz = (decide (d10.2 < (lI eZ.2))) → ∀ (lA : Bool), lA = (decide (d10.2 < (lI eZ.1))) → ∀ (jh : Bool), jh = (lz && lA) → (jh = true →
              ∃ (aI : (List (Int × Int)) × (List (List Int)) × Int × Int) (d130 : Int × Int), ((True ∧ (20 + Int.tmod to 60) = (20 + Int.tmod to 60) ∧ (Zn h8 rs) = (Zn h8 rs) ∧ True ∧ True ∧ d10.1 = aI.2.2.1 ∧ d10.2 = aI.2.2.2 ∧ (0 : Int) = d130.1 ∧ (0 : Int) = d130.2 ∧ True) ∧ ((WL vl) ∧ (eZ.1 = aI.1 ∧ false = false) ∧ (eZ.2 = aI.2.1 ∧ (List.isEmpty eZ.2) = (List.isEmpty aI.2.1)) ∧ True)) ∧
              LoopP (fun (d13 : Int × Int) (vz : (Int × Int) → Prop) =>
                (0 ≤ aI.2.2.2) ∧ (aI.2.2.2 < (List.length aI.2.1)) ∧ ∀ (lB : List Int), lB = (gD aI.2.1 aI.2.2.2 []) → ∀ (ji : Bool), ji = (decide (d13.2 < (lI lB))) → (ji = true →
                  (0 ≤ aI.2.2.2) ∧ (aI.2.2.2 < (List.length aI.2.1)) ∧ ∀ (jj : List Int), jj = (gD aI.2.1 aI.2.2.2 []) → (0 ≤ d13.2) ∧ (d13.2 < (List.length jj)) ∧ ∀ (dP : Int), dP = (gD jj d13.2 0) → ∀ (lC : Bool), lC = (decide (dP < (0 : Int))) → ∀ (lD : Bool), lD = (decide (dP ≥ (lI (JG vl)))) → ∀ (e_ : Bool), e_ = (lC || lD) → (e_ = false → 0 ≤ dP) ∧ (e_ = false → dP < (List.length (JG vl))) ∧ ∀ (lF : Int), lF = (gD (JG vl) dP (0, ((0, 0), 0))).1 → (e_ = false → 0 ≤ aI.2.2.2) ∧ (e_ = false → aI.2.2.2 < (List.length aI.1)) ∧ ∀ (lG : Int), lG = (gD aI.1 aI.2.2.2 (0, 0)).1 → ∀ (lH : Bool), lH = (lF != lG) → ∀ (ig : Bool), ig = (e_ || lH) → (ig = true →
                    (false = true ∧ (True))) ∧
                  (ig = false →
                    (0 ≤ dP) ∧ (dP < (List.length (JG vl))) ∧ ∀ (jk : Int), jk = (gD (JG vl) dP (0, ((0, 0), 0))).2.2 → (I64 (d13.1 + jk)) ∧ (I64 (d13.2 + (1 : Int))) ∧ (∃ d14 : Int × Int, ((True ∧ (20 + Int.tmod to 60) = (20 + Int.tmod to 60) ∧ (Zn h8 rs) = (Zn h8 rs) ∧ True ∧ True ∧ aI.2.2.1 = aI.2.2.1 ∧ aI.2.2.2 = aI.2.2.2 ∧ (d13.1 + jk) = d14.1 ∧ (d13.2 + (1 : Int)) = d14.2 ∧ True) ∧ ((WL vl) ∧ (aI.1 = aI.1 ∧ false = false) ∧ (aI.2.1 = aI.2.1 ∧ (List.isEmpty aI.2.1) = (List.isEmpty aI.2.1)) ∧ True)) ∧ vz d14))) ∧
                (ji = false →
                  ((JG vl).length ≤ 1000) ∧ (false = true → (JG vl) = []) ∧ (0 ≤ aI.2.2.2) ∧ (aI.2.2.2 < (List.length aI.2.1)) ∧ ∀ (cm : List Int), cm = (gD aI.2.1 aI.2.2.2 []) → ((JG vl).length ≤ 1000 ∧ cm.length ≤ 1000) ∧ ((True ∧ True ∧ (20 + Int.tmod to 60) = (20 + Int.tmod to 60) ∧ True ∧ (Zn h8 rs) = (Zn h8 rs) ∧ True ∧ True ∧ True ∧ aI.2.2.1 = aI.2.2.1 ∧ aI.2.2.2 = aI.2.2.2 ∧ d13.1 = d13.1 ∧ True ∧ True ∧ True ∧ (Qy (JG vl) cm) = (Qy (JG vl) cm) ∧ True) ∧ ((((Qq (JG vl) cm).1) = ((Qq (JG vl) cm).1) ∧ ((Qq (JG vl) cm).2) = ((Qq (JG vl) cm).2) ∧ (([] : List SV) = [])) ∧ (WL vl) ∧ (aI.1 = aI.1 ∧ false = false) ∧ (aI.2.1 = aI.2.1 ∧ (List.isEmpty aI.2.1) = (List.isEmpty aI.2.1)) ∧ (WL vl) ∧ True)) ∧ (((JG vl).length ≤ 1000) ∧ (false = true → (JG vl) = []) ∧ (0 ≤ aI.2.2.2) ∧ (aI.2.2.2 < (List.length aI.2.1)) ∧ ∀ (ij : List Int), ij = (gD aI.2.1 aI.2.2.2 []) → ((JG vl).length ≤ 1000 ∧ ij.length ≤ 1000) ∧ ((True ∧ True ∧ (20 + Int.tmod to 60) = (20 + Int.tmod to 60) ∧ True ∧ (Zn h8 rs) = (Zn h8 rs) ∧ True ∧ True ∧ True ∧ aI.2.2.1 = aI.2.2.1 ∧ aI.2.2.2 = aI.2.2.2 ∧ d13.1 = d13.1 ∧ True ∧ True ∧ True ∧ (Qy (JG vl) ij) = (Qy (JG vl) cm) ∧ True) ∧ ((((Qq (JG vl) ij).1) = ((Qq (JG vl) cm).1) ∧ ((Qq (JG vl) ij).2) = ((Qq (JG vl) cm).2) ∧ (([] : List SV) = [])) ∧ (WL vl) ∧ (aI.1 = aI.1 ∧ false = false) ∧ (aI.2.1 = aI.2.1 ∧ (List.isEmpty aI.2.1) = (List.isEmpty aI.2.1)) ∧ (WL vl) ∧ True))) ∧ ((0 ≤ aI.2.2.2) ∧ (aI.2.2.2 < (List.length aI.2.1)) ∧ ∀ (il : List Int), il = (gD aI.2.1 aI.2.2.2 []) → ((JG vl).length ≤ 1000) ∧ (false = true → (JG vl) = []) ∧ ((JG vl).length ≤ 1000 ∧ il.length ≤ 1000) ∧ ((True ∧ True ∧ (20 + Int.tmod to 60) = (20 + Int.tmod to 60) ∧ True ∧ (Zn h8 rs) = (Zn h8 rs) ∧ True ∧ True ∧ True ∧ aI.2.2.1 = aI.2.2.1 ∧ aI.2.2.2 = aI.2.2.2 ∧ d13.1 = d13.1 ∧ True ∧ True ∧ True ∧ (Qy (JG vl) il) = (Qy (JG vl) cm) ∧ True) ∧ ((((Qq (JG vl) il).1) = ((Qq (JG vl) cm).1) ∧ ((Qq (JG vl) il).2) = ((Qq (JG vl) cm).2) ∧ (([] : List SV) = [])) ∧ (WL vl) ∧ (aI.1 = aI.1 ∧ false = false) ∧ (aI.2.1 = aI.2.1 ∧ (List.isEmpty aI.2.1) = (List.isEmpty aI.2.1)) ∧ (WL vl) ∧ True))) ∧ (0 ≤ aI.2.2.2) ∧ (aI.2.2.2 < (List.length aI.1)) ∧ ∀ (lJ : Int), lJ = (gD aI.1 aI.2.2.2 (0, 0)).2 → ∀ (lK : Bool), lK = (decide (d13.1 < lJ)) → ∀ (lL : Bool), lL = ((Qy (JG vl) cm) != (0 : Int)) → ∀ (lM : Bool), lM = (lK || lL) → ∀ (lN : Bool), lN = (decide (((Qq (JG vl) cm).2) > (20 + Int.tmod to 60))) → ∀ (iq : Bool), iq = (lM || lN) → (iq = true →
                    (false = true ∧ (True))) ∧
                  (iq = false →
                    (0 ≤ aI.2.2.2) ∧ (aI.2.2.2 < (List.length aI.1)) ∧ ∀ (iu : Int), iu = (gD aI.1 aI.2.2.2 (0, 0)).2 → (I64 (aI.2.2.1 + iu)) ∧ (I64 (aI.2.2.2 + (1 : Int))) ∧ (∃ d15 : Int × Int, ((True ∧ (20 + Int.tmod to 60) = (20 + Int.tmod to 60) ∧ (Zn h8 rs) = (Zn h8 rs) ∧ True ∧ True ∧ (aI.2.2.1 + iu) = d15.1 ∧ (aI.2.2.2 + (1 : Int)) = d15.2 ∧ True) ∧ ((WL vl) ∧ (aI.1 = eZ.1 ∧ false = false) ∧ (aI.2.1 = eZ.2 ∧ (List.isEmpty aI.2.1) = (List.isEmpty eZ.2)) ∧ True)) ∧ qH d15)))) d130) ∧
            (jh = false →
              ∀ (lO : Bool), lO = ((lI eZ.2) == (lI eZ.1)) → ∀ (lP : Bool), lP = (d10.1 == (Zn h8 rs)) → ∀ (jl : Bool), jl = (lO && lP) → (jl = true → True) ∧ ∀ (jm : Bool), jm = (jl && true) → (jm = true → True) ∧ ∀ (lQ : Bool), lQ = (jm && true) → (lQ = true ∧ (True)))) d100))) d30)
def WX:Cx:=⟨[(3,(.i .i64)),(57,(.pair (.i .i64) (.i .i64)))],[(16,JV),(6,W7),(18,Np),(17,UF),(19,Kt),(8,Vn),(21,Uk),(22,NY),(14,My),(23,KI)],268,[],0,[(20,ML)],[],[],[5,6,7,9,10,13,18,21,26,27,28,31,57,64,227],true,[],[],[],[]⟩
def NW (h8:Int) (ws:List Int) (rs:List Int) (ds:List Int) (vl:List (Int×Int×Int×Int)) (to:Int) (mo:List Int):List (Nat×LoopAnn):=[(0,⟨Unit,(List (Int×Int))×Int,[6,7,10,14,18,19],fun e x=>[.lst 37,.val (.i .i64) (20+Int.tmod to 60),.val (.i .i64) ((Y_ (hkN 12 h8) (Qh (hkN 12 h8) 10 rs) (if Q5 (hkN 12 h8) (Qh (hkN 12 h8) 10 rs)=0 then (hkN 12 h8) else 0) (bkR (hkN 12 h8) (Qh (hkN 12 h8) 10 rs))).1),.val (.i .i64) ((Y_ (hkN 12 h8) (Qh (hkN 12 h8) 10 rs) (hkN 12 h8) (List.replicate (Int.toNat (((List.length (Qh (hkN 12 h8) 10 rs)):Nat):Int)) (0:Int))).1),.lst 99,.val (.i .i64) x.2],fun e x=>[(37,.slot 6,.lst 64 (.pair (.i .i64) (.pair (.pair (.i .i64) (.i .i64)) (.i .i64))) (JG vl) false),(99,.slot 18,.lst 57 (.pair (.i .i64) (.i .i64)) x.1 false)]⟩),
 (2,⟨(List (Int×Int))×(List (List Int)),Int×Int,[6,7,10,18,21,26,27],fun e x=>[.lst 37,.val (.i .i64) (20+Int.tmod to 60),.val (.i .i64) ((Y_ (hkN 12 h8) (Qh (hkN 12 h8) 10 rs) (if Q5 (hkN 12 h8) (Qh (hkN 12 h8) 10 rs)=0 then (hkN 12 h8) else 0) (bkR (hkN 12 h8) (Qh (hkN 12 h8) 10 rs))).1),.lst 99,.lst 126,.val (.i .i64) x.1,.val (.i .i64) x.2],fun e x=>[(37,.slot 6,.lst 64 (.pair (.i .i64) (.pair (.pair (.i .i64) (.i .i64)) (.i .i64))) (JG vl) false),(99,.slot 18,.lst 57 (.pair (.i .i64) (.i .i64)) e.1 false),(126,.slot 21,.lst 34 (.list (.i .i64)) e.2 (List.isEmpty e.2))]⟩),
 (4,⟨(List (Int×Int))×(List (List Int))×Int×Int,Int×Int,[6,7,10,18,21,26,27,28,29],fun e x=>[.lst 37,.val (.i .i64) (20+Int.tmod to 60),.val (.i .i64) ((Y_ (hkN 12 h8) (Qh (hkN 12 h8) 10 rs) (if Q5 (hkN 12 h8) (Qh (hkN 12 h8) 10 rs)=0 then (hkN 12 h8) else 0) (bkR (hkN 12 h8) (Qh (hkN 12 h8) 10 rs))).1),.lst 99,.lst 126,.val (.i .i64) e.2.2.1,.val (.i .i64) e.2.2.2,.val (.i .i64) x.1,.val (.i .i64) x.2],fun e x=>[(37,.slot 6,.lst 64 (.pair (.i .i64) (.pair (.pair (.i .i64) (.i .i64)) (.i .i64))) (JG vl) false),(99,.slot 18,.lst 57 (.pair (.i .i64) (.i .i64)) e.1 false),(126,.slot 21,.lst 34 (.list (.i .i64)) e.2.1 (List.isEmpty e.2.1))]⟩)]
set_option maxRecDepth 100000 in
theorem NP (d:(Int×List Int×List Int×List Int)×(List (Int×Int×Int×Int))×Int×List Int):gwp (WX) (NW d.1.1 d.1.2.1 d.1.2.2.1 d.1.2.2.2 d.2.1 d.2.2.1 d.2.2.2) c4 0 (Ws [.tmp 4] (Wy d) (WH d)) (Qk 268 (AL.can WZ d))=ZT d.1.1 d.1.2.1 d.1.2.2.1 d.1.2.2.2 d.2.1 d.2.2.1 d.2.2.2:=by kernel_rfl
abbrev NR:Prop:=OkC Tryz.prog 4 YO
theorem NS (h:∀ (h8:Int) (ws:List Int) (rs:List Int) (ds:List Int) (vl:List (Int×Int×Int×Int)) (to:Int) (mo:List Int),(bOk h8 ws rs ds∧Tl vl to mo)→ZT h8 ws rs ds vl to mo):OkC Tryz.prog 4 YO :=
 QC fun4 mixed (C:=WX) (V:=fun (d:(Int×List Int×List Int×List Int)×(List (Int×Int×Int×Int))×Int×List Int)=>ZT d.1.1 d.1.2.1 d.1.2.2.1 d.1.2.2.2 d.2.1 d.2.2.1 d.2.2.2) ⟨(.cons Up (.cons GF (.cons SK (.cons L3 (.cons Pm (.cons Tz (.cons RK (.cons HQ (.cons Ps (.cons BX .nil)))))))))),(XsOk.cons Sy XsOk.nil),ItsOk.nil,YlOk.nil,IysOk.nil,XfOk.nil⟩ (NP) fun d hp=>h d.1.1 d.1.2.1 d.1.2.2.1 d.1.2.2.2 d.2.1 d.2.2.1 d.2.2.2 hp
end Go.Proofs.Tryz
set_option linter.unusedVariables false
namespace Go.Proofs.Tryz
open Go Go.V Go.Proofs
def Lu (L:List Lot) (a:Int):Lot:=L.getD a.toNat XZ
theorem Hf {lw:List Int}{w:Nat}(hw:w<lw.length):lw.getD w 0∈lw:=by rw[Q8 hw];exact List.getElem_mem hw
theorem LB {l:List Lot}{sm:List Int}{i:Nat}(h:i<sm.length):(XT l sm).getD i XZ=l.getD (sm.getD i 0).toNat XZ:=by rw[Q8 (by simpa [XT] using h),Q8 h];simp[XT]
theorem Tr (so m:Nat):(T3 so m).Pairwise (·<·):=by
 unfold T3;rw[List.pairwise_map];exact(List.Pairwise.filter _ List.pairwise_lt_range).imp fun h=>by omega
theorem Ex {S:List Int}(h:S.Pairwise (·<·)):Q38 S=false:=by
 unfold Q38;rw[List.any_eq_false];intro k hk;rw[List.mem_range] at hk;rw[decide_eq_true_eq];intro hm;obtain⟨j,hj,he⟩:=List.getElem_of_mem hm;rw[List.getElem_take,Q8 hk] at he;rw[List.length_take] at hj;have:=List.pairwise_iff_getElem.1 h j k (by omega) hk (by omega);omega
theorem Rr {L:List Lot}{t nc ng:Int}(hl:L.length≤12) (h:QB L t nc ng (2 ^ L.length)≠[]):(∀ a∈QB L t nc ng (2 ^ L.length),0≤a∧a<L.length)∧(QB L t nc ng (2 ^ L.length)).Pairwise (·<·)∧(∀ a∈QB L t nc ng (2 ^ L.length),(Lu L a).1=nc∧∀ b∈QB L t nc ng (2 ^ L.length),Q1o (Lu L a) (Lu L b)≤t)∧ng≤XR L (QB L t nc ng (2 ^ L.length)):=by
 rcases SC (l:=L) (tl:=t) (nc:=nc) (ng:=ng) (2 ^ L.length) with e|⟨s,s1,s2,s3,s4⟩
 ·exact(h e).elim
 rw[s4];have ah:=Hv s2 (show L.length≤64 by omega);have aC:=CX s1;have jg:XT L (Qo s)≠[]:=by simpa [XT] using aC
 have aQ:(XT L (Qo s)).length=(Qo s).length:=by simp[XT]
 have gw:0<(Qo s).length:=List.length_pos_iff.2 aC;unfold Mx DM at s3;rw[O3 jg,Bool.and_eq_true,Bool.and_eq_true,beq_iff_eq,decide_eq_true_eq,Rx] at s3;obtain⟨⟨c0,g0⟩,al⟩:=s3;rw[aQ] at al;have m_:∀ a∈Qo s,∀ b∈Qo s,(Lu L a).1=(Lu L b).1∧Q1o (Lu L a) (Lu L b)≤t:=fun a ha b hb=>by obtain⟨i,hi,rfl⟩:=List.getElem_of_mem ha;obtain⟨k,hk,rfl⟩:=List.getElem_of_mem hb;have:=al i hi k hk;rw[LB hi,LB hk,Q8 hi,Q8 hk] at this;exact this
 refine⟨ah,?_,fun a ha=>⟨?_,fun b hb=>(m_ a ha b hb).2⟩,g0⟩
 ·rw[CB s2 (by omega)];exact Tr _ _
 ·have:=(m_ a ha _ (Hf gw)).1;exact this.trans c0
theorem Q0a:∀ h:Fin 25,pcN 24 (2 ^ h.val-1)=h.val:=by decide +kernel
theorem E6 {x h:Nat}(hx:x<2 ^ h):∀ m,pcN (h+m) x=pcN h x
 |0=>rfl
 |m+1=>by have:x.testBit (h+m)=false:=Nat.testBit_lt_two_pow (Nat.lt_of_lt_of_le hx (Nat.pow_le_pow_right (by omega) (by omega)));rw[show h+(m+1)=(h+m)+1 by omega,Gx,E6 hx m,this];rfl
theorem Q7u {x h:Nat}(hh:h≤24) (hx:x<2 ^ h):pcN 24 x≤h:=by have:=E6 hx (24-h);rw[show h+(24-h)=24 by omega] at this;rw[this];exact O7 h x
theorem K5 {H:Int}{R:List Int}(h1:1≤H∧H≤24) (r1:R≠[]) (r2:R.length≤60) (r3:∀ x∈R,0≤x∧x<2 ^ H.toNat):Q5 H R=0:=by
 have i1:inI H 1 24=true:=by unfold inI;rw[decide_eq_true h1.1,decide_eq_true h1.2];rfl
 have hr:1≤R.length:=List.length_pos_iff.2 r1;unfold Q5;rw[if_neg (by rw[i1];decide),if_neg (by omega),if_neg (by omega),if_neg];rw[List.any_eq_true];rintro⟨x,hx,hb⟩;have:=r3 x hx;rw[show inI x 0 (2 ^ H.toNat-1)=true by unfold inI;rw[decide_eq_true (by omega),decide_eq_true (by omega)];rfl] at hb;cases hb
theorem C9 {H:Int}{R S:List Int}(a:Q5 H R=0) (b:Q5 H S=0) (h:R.length=S.length):Xr H R H S=0:=by
 have c:WD [(H,R),(H,S)]=0:=by rw[R7];simp[a,b]
 unfold Xr;rw[if_neg (by omega),if_neg (by rw[decide_eq_true rfl,decide_eq_true h];decide)]
theorem OG {H:Int}{R:List Int}(h1:1≤H∧H≤24) (r1:R≠[]) (r2:R.length≤60) (r3:∀ x∈R,0≤x∧x<2 ^ H.toNat) :
  (bkR H R).length=R.length∧Q5 H (bkR H R)=0∧∀ k,k<R.length→PC R (bkR H R) k=2 ^ H.toNat-1:=by
 have pe:=K5 h1 r1 r2 r3;have e:bkR H R=DB R.length H.toNat (bkP H R):=by unfold bkR;rw[if_pos pe]
 rw[e];have hl:=Kj R.length H.toNat (bkP H R);refine⟨hl,?_,fun k hk=>?_⟩
 ·refine K5 h1 (fun h=>r1 (List.length_eq_zero_iff.1 (by rw[←hl,h];rfl))) (by omega) fun x hx=>?_;obtain⟨i,hi,rfl⟩:=List.getElem_of_mem hx;have gv:i<R.length:=by omega
  have:=DC (hk:=H.toNat) (p:=bkP H R) gv;rw[Q8 hi] at this;rw[this];have ah:=RS H.toNat (fun j=>bkP H R ((i:Int),(j:Int)));have e2:((2:Int) ^ H.toNat)=((2 ^ H.toNat:Nat):Int):=by simp
  rw[e2];omega
 ·unfold PC;rw[DC hk,Int.toNat_natCast];have hb:=r3 (R.getD k 0) (GY hk);have e2:((2:Int) ^ H.toNat)=((2 ^ H.toNat:Nat):Int):=by simp
  rw[e2] at hb;refine Nat.eq_of_testBit_eq fun j=>?_;rw[Nat.testBit_xor,Nat.testBit_two_pow_sub_one];by_cases hj:j<H.toNat
  ·rw[FQ hj,decide_eq_true hj];unfold bkP;dsimp only;have t1:(Int.tmod (k:Int) (R.length:Int)).toNat=k:=by
    rw[Int.tmod_eq_emod_of_nonneg (by omega),Int.emod_eq_of_lt (by omega) (by omega)];rfl
   have t2:(Int.tmod (j:Int) H).toNat=j:=by rw[Int.tmod_eq_emod_of_nonneg (by omega),Int.emod_eq_of_lt (by omega) (by omega)];rfl
   rw[t1,t2];cases (R.getD k 0).toNat.testBit j<;>rfl
  ·have a:(R.getD k 0).toNat.testBit j=false:=Nat.testBit_lt_two_pow (Nat.lt_of_lt_of_le (show (R.getD k 0).toNat<2 ^ H.toNat by omega) (Nat.pow_le_pow_right (by omega) (by omega)));have b:(NT H.toNat fun j=>bkP H R ((k:Int),(j:Int))).testBit j=false:=Nat.testBit_lt_two_pow (Nat.lt_of_lt_of_le (RS _ _) (Nat.pow_le_pow_right (by omega) (by omega)));rw[a,b,decide_eq_false hj];rfl
theorem EI {H:Int}{R:List Int}(h1:1≤H∧H≤24) (r1:R≠[]) (r2:R.length≤60) (r3:∀ x∈R,0≤x∧x<2 ^ H.toNat) :
  Q5 H R=0∧(bkR H R).length=R.length∧Xr H R H (bkR H R)=0∧Xr H R H (List.replicate R.length 0)=0∧(Y_ H R H (bkR H R)).1=H*R.length ∧
   0≤(Y_ H R H (List.replicate R.length 0)).1∧(Y_ H R H (List.replicate R.length 0)).1≤H*R.length:=by
 have pe:=K5 h1 r1 r2 r3;obtain⟨b1,b2,b3⟩:=OG h1 r1 r2 r3;have hp:(1:Int)≤2 ^ H.toNat:=by
  have e2:((2:Int) ^ H.toNat)=((2 ^ H.toNat:Nat):Int):=by simp
  have:=Nat.two_pow_pos H.toNat;rw[e2];omega
 have pz:Q5 H (List.replicate R.length 0)=0:=K5 h1 (fun h=>r1 (List.length_eq_zero_iff.1 (by have:=congrArg List.length h;simpa using this))) (by simpa using r2) fun x hx=>by rw[(List.mem_replicate.1 hx).2];omega
 have d1:=C9 pe b2 b1.symm;have d2:=C9 pe pz (by simp);have v1:Y_ H R H (bkR H R)=Vm R (bkR H R) R.length:=by unfold Y_;rw[if_pos d1]
 have v2:Y_ H R H (List.replicate R.length 0)=Vm R (List.replicate R.length 0) R.length:=by unfold Y_;rw[if_pos d2]
 have hH:((H.toNat:Nat):Int)=H:=by omega
 have q7:∀ k,k≤R.length→(Vm R (bkR H R) k).1=H*k:=fun k=>by
  induction k with
  |zero=>intro _;simp[Vm]
  |succ k ih =>intro hk;have hf:=Q0a ⟨H.toNat,by omega⟩;dsimp only at hf;rw[SS,ih (by omega),b3 k (by omega),hf,hH,Int.natCast_succ,Int.mul_add,Int.mul_one]
 have aH:∀ k,k≤R.length→0≤(Vm R (List.replicate R.length 0) k).1∧(Vm R (List.replicate R.length 0) k).1≤H*k:=fun k=>by
  induction k with
  |zero=>intro _;simp[Vm]
  |succ k ih =>
   intro hk;have ih:=ih (by omega);have hb:=r3 (R.getD k 0) (GY (show k<R.length by omega));have e2:((2:Int) ^ H.toNat)=((2 ^ H.toNat:Nat):Int):=by simp
   rw[e2] at hb;have hz:(List.replicate R.length (0:Int)).getD k 0=0:=by rw[Q8 (by rw[List.length_replicate];omega)];simp
   have ho:PC R (List.replicate R.length 0) k=(R.getD k 0).toNat:=by unfold PC;rw[hz];simp
   have:=Q7u (x:=(R.getD k 0).toNat) (h:=H.toNat) (by omega) (by omega);rw[SS,ho,Int.natCast_succ,Int.mul_add,Int.mul_one];omega
 refine⟨pe,b1,d1,d2,by rw[v1];exact q7 _ (Nat.le_refl _),?_⟩;rw[v2];exact aH _ (Nat.le_refl _)
structure WayF (L:List Lot) (T:Int) (N:List (Int×Int)):Prop where
 bad:Zg L T N≠0→Zg L T N=7∧0≤JW L T N∧JW L T N<N.length∧Jo L T (N.getD (JW L T N).toNat (0,0)).1 (N.getD (JW L T N).toNat (0,0)).2=7
 good:Zg L T N=0→(KZ L T N).length=N.length∧∀ i,i<N.length→(KZ L T N).getD i []=QB L T (N.getD i (0,0)).1 (N.getD i (0,0)).2 (2 ^ L.length)∧QB L T (N.getD i (0,0)).1 (N.getD i (0,0)).2 (2 ^ L.length)≠[]
theorem Ob {L:List Lot}{T:Int}{N:List (Int×Int)}(ho:Z6 L T=0) (hn:N.length≤10) (aj:∀ i,i<N.length→Wz (N.getD i (0,0)).1 (N.getD i (0,0)).2=true∧((N.take i).any fun x=>x.1==(N.getD i (0,0)).1)=false):WayF L T N:=by
 have hw:U7 L T N=0:=by unfold U7;rw[if_neg (by omega),if_neg (by omega)]
 have hs:∀ i,i<N.length→D9 L T N i=if (QB L T (N.getD i (0,0)).1 (N.getD i (0,0)).2 (2 ^ L.length)).isEmpty=true then 7 else 0:=fun i hi=>by obtain⟨a,b⟩:=aj i hi;unfold D9;rw[if_neg (by rw[a];decide),if_neg (by rw[b];decide)]
 have all:(∀ j,j<N.length→D9 L T N j=0)∨∃ k,k<N.length∧(∀ j,j<k→D9 L T N j=0)∧D9 L T N k≠0:=by
  have key:∀ m,m≤N.length→(∀ j,j<m→D9 L T N j=0)∨∃ k,k<N.length∧(∀ j,j<k→D9 L T N j=0)∧D9 L T N k≠0:=fun m=>by
   induction m with
   |zero=>intro _;exact .inl fun j hj=>by omega
   |succ m ih =>
    intro hm;rcases ih (by omega) with h|h
    ·by_cases e:D9 L T N m=0
     ·exact .inl fun j hj=>by
       rcases Nat.lt_succ_iff_lt_or_eq.1 hj with hj|rfl
       ·exact h j hj
       ·exact e
     ·exact .inr ⟨m,by omega,h,e⟩
    ·exact .inr h
  exact key _ (Nat.le_refl _)
 rcases all with h|⟨k,hk,h1,h2⟩
 ·obtain⟨e1,e2,e3⟩:=Ol hw h;refine⟨fun aC=>(aC e1).elim,fun _=>?_⟩;rw[e3];refine⟨Ef (Nat.le_refl _),fun i hi=>⟨?_,fun he=>?_⟩⟩
  ·unfold Oe;rw[List.take_length,Q8 (by simpa using hi),Q8 hi];simp
  ·have:=h i hi;rw[hs i hi,he] at this;simp at this
 ·obtain⟨e1,e2,e3⟩:=Q1h hw h1 hk h2;have h7:D9 L T N k=7∧(QB L T (N.getD k (0,0)).1 (N.getD k (0,0)).2 (2 ^ L.length)).isEmpty=true:=by
   rw[hs k hk] at h2 ⊢;by_cases e:(QB L T (N.getD k (0,0)).1 (N.getD k (0,0)).2 (2 ^ L.length)).isEmpty=true
   ·rw[if_pos e];exact⟨rfl,e⟩
   ·rw[if_neg e] at h2;exact(h2 rfl).elim
  refine⟨fun _=>⟨by rw[e1];exact h7.1,by omega,by omega,?_⟩,fun h0=>by rw[e1] at h0;exact(h2 h0).elim⟩;rw[e2,Int.toNat_natCast];unfold Jo;rw[if_neg (by omega),if_neg (by rw[(aj k hk).1];decide),if_pos h7.2]
theorem CK {L:List Lot}{T nc ng:Int}(hl:L.length≤12) (hle:Qu L=0) (h:QB L T nc ng (2 ^ L.length)≠[]):Qy L (QB L T nc ng (2 ^ L.length))=0∧(Qq L (QB L T nc ng (2 ^ L.length))).2≤T:=by
 obtain⟨f1,f2,f3,f4⟩:=Rr hl h;have e:Qy L (QB L T nc ng (2 ^ L.length))=0:=by
  unfold Qy;rw[if_neg (by omega),if_neg,Ex f2]
  ·rfl
  ·rintro (e|e)
   ·exact h e
   ·obtain⟨x,hx,hb⟩:=List.any_eq_true.1 e;have:=f1 x hx;rw[show inI x 0 ((L.length:Int)-1)=true by unfold inI;rw[decide_eq_true (by omega),decide_eq_true (by omega)];rfl] at hb;cases hb
 refine⟨e,?_⟩;unfold Qq;rw[if_pos e];rcases SC (l:=L) (tl:=T) (nc:=nc) (ng:=ng) (2 ^ L.length) with e2|⟨s,s1,s2,s3,s4⟩
 ·exact(h e2).elim
 rw[s4];unfold Mx at s3;rw[Bool.and_eq_true] at s3;have:=s3.2;unfold DM E2 at this;rw[Bool.and_eq_true,decide_eq_true_eq] at this;exact this.2
def ZY (em al:Int):Nat→List (Int×Int)
 |0=>[]
 |1=>if em > 0 then [(0,em)] else []
 |_+2=>(if em > 0 then [(0,em)] else [])++if al-em > 0 then [(1,al-em)] else []
def Ab (N:List (Int×Int)):Nat→Int
 |0=>0
 |i+1=>Ab N i+(N.getD i (0,0)).2
theorem Ct {em al:Int}(h0:0≤em) (h1:em≤al) (h2:al≤1000) :
  (ZY em al 2).length≤2∧(∀ i,i<(ZY em al 2).length→Wz ((ZY em al 2).getD i (0,0)).1 ((ZY em al 2).getD i (0,0)).2=true∧(((ZY em al 2).take i).any fun x=>x.1==((ZY em al 2).getD i (0,0)).1)=false∧0≤((ZY em al 2).getD i (0,0)).2∧((ZY em al 2).getD i (0,0)).2≤1000) ∧
   Ab (ZY em al 2) (ZY em al 2).length=al:=by
 have nk:∀ c g:Int,0≤c→c≤1→1≤g→g≤1000→Wz c g=true:=fun c g a b c2 d=>by unfold Wz inI;rw[decide_eq_true (by omega),decide_eq_true (by omega),decide_eq_true (by omega),decide_eq_true (by omega)];rfl
 have e:ZY em al 2=(if em > 0 then [(0,em)] else [])++if al-em > 0 then [(1,al-em)] else []:=rfl
 rw[e];by_cases a:em > 0<;>by_cases b:al-em > 0
 ·rw[if_pos a,if_pos b];refine⟨by simp,fun i hi=>?_,by simp[Ab];omega⟩;have:i=0∨i=1:=by simp at hi;omega
  rcases this with rfl|rfl
  ·exact⟨nk _ _ (by simp) (by simp) (by simp;omega) (by simp;omega),by simp,by simp;omega,by simp;omega⟩
  ·exact⟨nk _ _ (by simp) (by simp) (by simp;omega) (by simp;omega),by simp,by simp;omega,by simp;omega⟩
 ·rw[if_pos a,if_neg b];refine⟨by simp,fun i hi=>?_,by simp[Ab];omega⟩;have:i=0:=by simp at hi;omega
  subst this;exact⟨nk _ _ (by simp) (by simp) (by simp;omega) (by simp;omega),by simp,by simp;omega,by simp;omega⟩
 ·rw[if_neg a,if_pos b];refine⟨by simp,fun i hi=>?_,by simp[Ab];omega⟩;have:i=0:=by simp at hi;omega
  subst this;exact⟨nk _ _ (by simp) (by simp) (by simp;omega) (by simp;omega),by simp,by simp;omega,by simp;omega⟩
 ·rw[if_neg a,if_neg b];refine⟨by simp,fun i hi=>by simp at hi,by simp[Ab];omega⟩
theorem Ik {N:List (Int×Int)}(h:∀ i,i<N.length→0≤(N.getD i (0,0)).2∧(N.getD i (0,0)).2≤1000):∀ k,k≤N.length→0≤Ab N k∧Ab N k≤1000*k
 |0,_=>by unfold Ab;omega
 |k+1,hk=>by have ih:=Ik h k (by omega);have:=h k (by omega);unfold Ab;omega
theorem Ah {L:List Lot}{S:List Int}(hS:∀ a∈S,0≤a∧a<L.length) (hL:∀ y∈L,X6 y=true∧0≤y.1∧y.1≤1∧y.2.1.2≤y.2.1.1+19∧y.2.2≤256):∀ k:Nat,k≤S.length→0≤XR L (S.take k)∧XR L (S.take k)≤256*k
 |0,_=>by simp[XR]
 |k+1,hk=>by
  have ih:=Ah hS hL k (by omega);have hs:=hS (S.getD k 0) (Hf (by omega));have ah:(S.getD k 0).toNat<L.length:=by omega
  have hy:=hL (L.getD (S.getD k 0).toNat XZ) (by rw[Q8 ah];exact List.getElem_mem ah);have ho:=(GQ.1 hy.1).2.2.2.2;rw[Dy (by omega)];omega
end Go.Proofs.Tryz
set_option linter.unusedVariables false
namespace Go.Proofs.Tryz
open Go Go.V Go.Proofs
theorem OH {h8:Int}{ws rs ds:List Int}(h:bOk h8 ws rs ds):(1≤hkN 12 h8∧hkN 12 h8≤12)∧(PL (hkN 12 h8) 30 ws≠[]∧(PL (hkN 12 h8) 30 ws).length≤30∧∀ x∈PL (hkN 12 h8) 30 ws,0≤x∧x<hkN 12 h8) ∧
  (Qh (hkN 12 h8) 10 rs≠[]∧(Qh (hkN 12 h8) 10 rs).length≤10∧∀ x∈Qh (hkN 12 h8) 10 rs,0≤x∧x<2 ^ (hkN 12 h8).toNat):=by
 obtain⟨h1,h2,h3,h4,h5⟩:=h;have hk:=Cd (m:=12) (by omega) h1;refine⟨hk,⟨?_,?_,?_⟩,⟨?_,?_,?_⟩⟩
 ·unfold PL;split
  ·simp
  ·rename_i aC;simpa using aC
 ·rw[EZ];split<;>omega
 ·intro x hx;unfold PL at hx;split at hx
  ·rw[List.mem_singleton.1 hx];omega
  ·simp only[List.mem_map] at hx;obtain⟨y,hy,rfl⟩:=hx;have:=h3 y (List.mem_of_mem_take hy);exact⟨Int.tmod_nonneg _ this.1,Int.tmod_lt_of_pos _ (by omega)⟩
 ·unfold Qh;split
  ·simp
  ·rename_i aC;simpa using aC
 ·rw[Lt];split<;>omega
 ·intro x hx;have hp:=KQ hk.1 (show hkN 12 h8≤24 by omega);unfold Qh at hx;split at hx
  ·rw[List.mem_singleton.1 hx];exact⟨Int.emod_nonneg _ (by omega),Int.emod_lt_of_pos _ (by omega)⟩
  ·simp only[List.mem_map] at hx;obtain⟨y,_,rfl⟩:=hx;exact⟨Int.emod_nonneg _ (by omega),Int.emod_lt_of_pos _ (by omega)⟩
theorem M6 {x:Int}(h:-1000000≤x∧x≤1000000):InK .i64 x:=by rw[Z1];omega
set_option maxHeartbeats 4000000 in
theorem ok_top_TopTwoColours:NR:=NS fun h8 ws rs ds vl to mo h=>by
 obtain⟨hb,hd⟩:=h;unfold ZT
 (try delta Sb Zn CJ G_ WL Xe A8 Dq q4)
 (try delta lI gD sT I64)
 obtain⟨hk,hw,hr⟩:=OH hb;clear hw;obtain⟨L7,vA,T1,T2⟩:=Ed hd;obtain⟨lE,oE⟩:=Q0g hd;generalize bOk h8 ws rs ds=B at hb ⊢;generalize Tl vl to mo=B2 at hd ⊢;generalize hkN 12 h8=H at *
 generalize Qh H 10 rs=R at *
 generalize JG vl=L at *
 generalize hT:20+Int.tmod to 60=T at *
 obtain⟨r1,r2,r3⟩:=hr;have q8:1≤H∧H≤24:=by omega
 have wm:1≤R.length:=List.length_pos_iff.2 r1;obtain⟨pe,bl,d1,d2,va,q9,o7⟩:=EI q8 r1 (by omega) r3;have hm:0≤H*(R.length:Int)∧H*(R.length:Int)≤12*10:=⟨Int.mul_nonneg (by omega) (by omega),Int.mul_le_mul (by omega) (by omega) (by omega) (by omega)⟩;have d2:Xr H R H (List.replicate (Int.toNat (R.length:Int)) 0)=0:=d2;have q9:0≤(Y_ H R H (List.replicate (Int.toNat (R.length:Int)) 0)).1:=q9;have o7:(Y_ H R H (List.replicate (Int.toNat (R.length:Int)) 0)).1≤H*R.length:=o7;rw[if_pos pe,pe,d1,d2];generalize m_:(Y_ H R H (bkR H R)).1=al at *
 generalize wq:(Y_ H R H (List.replicate (Int.toNat (R.length:Int)) 0)).1=em at *
 have hz:(List.replicate (Int.toNat (R.length:Int)) (0:Int)).length≤1000:=by simp;omega
 rw[←va] at hm o7 ⊢;repeat (first|(refine And.intro (by first|exact hb|exact hd|omega|exact hz|(intro h;cases h;done)|(and_intros<;>first|rfl|trivial|exact hb|exact hd|exact hz|omega|(intro h;cases h;done))) ?_))
 intro y1 e1 y2 e2 y3 e3 y4 e4 y5 e5;refine⟨fun _=>M6 (by omega),?_⟩;intro y6 e6 y7 e7 y8 e8 y9 e9 qS eZ om sN;have vB:om=false:=by rw[sN,eZ,e9,e8,e7,e6,e5,e4,e3,e2,e1,decide_eq_false (show ¬ em<0 by omega),decide_eq_false (show ¬ em > al by omega)];simp
 refine⟨(fun h=>by rw[vB] at h;cases h),fun _=>⟨(),([],0),by and_intros<;>first|rfl|trivial,?_⟩⟩;clear e1 e2 e3 e4 e5 e6 e7 e8 e9 eZ sN;refine⟨fun d=>∃ i:Nat,i≤2∧d=(ZY em al i,(i:Int)),fun d=>2-d.2.toNat,⟨0,by omega,rfl⟩,?_⟩;rintro _ ⟨i,gv,rfl⟩;dsimp only;intro o3 q_;refine⟨fun c=>?_,fun c=>?_⟩
 ·have hi:i<2:=by rw[q_] at c;have:=of_decide_eq_true c;omega
  refine⟨M6 (by omega),by omega,by omega,?_⟩;have hi:i=0∨i=1:=by omega
  rcases hi with rfl|rfl
  ·refine⟨fun _=>?_,(fun c=>absurd c (by decide)),trivial⟩;intro wu sO;refine⟨fun c=>⟨by simp[ZY],M6 (by decide),(ZY em al 1,1),?_,⟨1,by omega,rfl⟩,by show 2-(1:Int).toNat<2-(0:Int).toNat;decide⟩,fun c=>⟨M6 (by decide),(ZY em al 1,1),?_,⟨1,by omega,rfl⟩,by show 2-(1:Int).toNat<2-(0:Int).toNat;decide⟩⟩
   ·have h1:em > 0:=by rw[sO] at c;exact of_decide_eq_true c
    have e:ZY em al 1=[]++[(0,em)]:=by show (if em > 0 then _ else _)=_;rw[if_pos h1];rfl
    rw[e];and_intros<;>first|rfl|trivial
   ·have h1:¬ em > 0:=by rw[sO] at c;exact of_decide_eq_false c
    have e:ZY em al 1=[]:=by show (if em > 0 then _ else _)=_;rw[if_neg h1]
    rw[e];and_intros<;>first|rfl|trivial
  ·refine⟨(fun c=>absurd c (by decide)),fun _=>?_,trivial⟩;intro wv sP;have fv:(ZY em al 1).length≤1:=by show (if em > 0 then [((0:Int),em)] else []).length≤1;split<;>simp
   refine⟨fun c=>⟨by simp only[List.length_cons,List.length_nil];omega,M6 (by decide),(ZY em al 2,2),?_,⟨2,by omega,rfl⟩,by show 2-(2:Int).toNat<2-(1:Int).toNat;decide⟩,fun c=>⟨M6 (by decide),(ZY em al 2,2),?_,⟨2,by omega,rfl⟩,by show 2-(2:Int).toNat<2-(1:Int).toNat;decide⟩⟩
   ·have h1:al-em > 0:=by rw[sP] at c;exact of_decide_eq_true c
    have e:ZY em al 2=ZY em al 1++[(1,al-em)]:=by show _++(if al-em > 0 then _ else _)=_;rw[if_pos h1];rfl
    rw[e];and_intros<;>first|rfl|trivial|simp
   ·have h1:¬ al-em > 0:=by rw[sP] at c;exact of_decide_eq_false c
    have e:ZY em al 2=ZY em al 1:=by show _++(if al-em > 0 then _ else _)=_;rw[if_neg h1,List.append_nil];rfl
    rw[e];and_intros<;>first|rfl|trivial|simp
 ·have hi:i=2:=by rw[q_] at c;have:=of_decide_eq_false c;omega
  subst hi;obtain⟨n1,n2,n3⟩:=Ct q9 o7 (by omega);have F:=Ob (L:=L) (T:=T) (N:=ZY em al 2) oE (by omega) (fun i hi=>⟨(n2 i hi).1,(n2 i hi).2.1⟩);have sQ:=Ik (N:=ZY em al 2) fun i hi=>(n2 i hi).2.2;clear q_ c;generalize ZY em al 2=N at *
  simp only[List.nil_append,List.length_nil];refine⟨by omega,by omega,⟨by omega,by omega⟩,?_⟩;intro o4 sR;refine⟨fun c=>?_,fun c=>?_⟩
  ·have hw:Zg L T N≠0:=by rw[sR] at c;simpa using c
   obtain⟨a1,a2,a3,a4⟩:=F.bad hw;intro qT vC qU vD qV vE qW vF oq vG;have vH:oq=false:=by rw[vG,vF,vE,vD,vC,a1,decide_eq_false (show ¬ JW L T N<0 by omega),decide_eq_false (show ¬ JW L T N≥(N.length:Int) by omega)];rfl
   refine⟨(fun h=>by rw[vH] at h;cases h),fun _=>⟨by omega,by omega,?_⟩⟩;intro qX vI qY vJ;refine⟨by omega,?_⟩;rw[vI,vJ,a4];intro o5 vK;refine⟨fun _=>trivial,?_⟩;intro o6 vL;refine⟨fun _=>trivial,?_⟩;intro qZ vM;exact⟨by rw[vM,vL,vK];rfl,trivial⟩
  ·have hw:Zg L T N=0:=by rw[sR] at c;simpa using c
   obtain⟨g1,g2⟩:=F.good hw;generalize KZ L T N=WW at *
   refine⟨(N,WW),(0,0),by and_intros<;>first|rfl|trivial,?_⟩;refine⟨fun d=>∃ i:Nat,i≤N.length∧d=(Ab N i,(i:Int)),fun d=>N.length-d.2.toNat,⟨0,by omega,rfl⟩,?_⟩;rintro _ ⟨i,hi,rfl⟩;dsimp only;intro lz ot lA lR jh lS;refine⟨fun c=>?_,fun c=>?_⟩
   ·have ou:i<N.length:=by
     rw[lS,lR,Bool.and_eq_true] at c;have:=of_decide_eq_true c.2;omega
    clear ot lR lS c;obtain⟨s1,s2⟩:=g2 i ou;obtain⟨q1,q2⟩:=CK (L:=L) (T:=T) (by omega) lE s2;obtain⟨f1,f2,f3,f4⟩:=Rr (L:=L) (t:=T) (by omega) s2;have fl:=Ha (l:=L) (tl:=T) (nc:=(N.getD i (0,0)).1) (ng:=(N.getD i (0,0)).2) (by omega) (2 ^ L.length) (Nat.le_refl _);rw[←s1] at q1 q2 f1 f2 f3 f4 fl s2;have gb:=Ah f1 vA;have sb:=sQ i (by omega);have nb:=(n2 i ou).2.2;refine⟨(N,WW,Ab N i,(i:Int)),(0,0),by and_intros<;>first|rfl|trivial,?_⟩;generalize hS:WW.getD i []=S at *
    refine⟨fun d=>∃ k:Nat,k≤S.length∧d=(XR L (S.take k),(k:Int)),fun d=>S.length-d.2.toNat,⟨0,by omega,rfl⟩,?_⟩;rintro _ ⟨k,ic,rfl⟩;dsimp only;simp only[Int.toNat_natCast,hS];have gk:=gb k ic;refine⟨by omega,by omega,?_⟩;intro lB ra ji lT;rw[ra] at lT;refine⟨fun c=>?_,fun c=>?_⟩
    ·have aY:k<S.length:=by rw[lT] at c;have:=of_decide_eq_true c;omega
     have iE:=Hf aY;have a1:=f1 _ iE;have a2:=(f3 _ iE).1;have hg:=gb (k+1) aY;have ez:=Dy (l:=L) (S:=S) aY;unfold Lu XZ at a2;unfold XZ at ez;refine⟨by omega,by omega,?_⟩;intro jj rb;rw[rb];refine⟨by omega,by omega,?_⟩;intro dP rf lC rh lD ri e_ rj;rw[←rf] at a1 a2 ez;have rk:e_=false:=by rw[rj,ri,rh,decide_eq_false (by omega),decide_eq_false (by omega)];rfl
     refine⟨fun _=>by omega,fun _=>by omega,?_⟩;intro lF rn;refine⟨fun _=>by omega,fun _=>by omega,?_⟩;intro lG rp lH rr ig ru;have rv:ig=false:=by rw[ru,rk,rr,rn,rp,a2];simp
     refine⟨(fun h=>by rw[rv] at h;cases h),fun _=>⟨by omega,by omega,?_⟩⟩;intro jk ry;rw[←ry] at ez;refine⟨M6 (by omega),M6 (by omega),(XR L (S.take (k+1)),(k:Int)+1),?_,⟨k+1,aY,rfl⟩,by omega⟩;rw[ez];and_intros<;>first|rfl|trivial
    ·have aY:k=S.length:=by rw[lT] at c;have:=of_decide_eq_false c;omega
     subst aY;rw[List.take_length] at gk ⊢;refine⟨by omega,(fun h=>by cases h),by omega,by omega,?_⟩;intro cm rz;rw[rz];refine⟨⟨by omega,by omega⟩,by (repeat' (first|with_reducible refine And.intro ?_ ?_|trivial|rfl)),⟨by omega,(fun h=>by cases h),by omega,by omega,fun y e=>?_⟩,⟨by omega,by omega,fun y e=>?_⟩,by omega,by omega,?_⟩
     ·rw[e];repeat' (first|with_reducible refine And.intro ?_ ?_|omega|trivial|rfl)
     ·rw[e];repeat' (first|with_reducible refine And.intro ?_ ?_|omega|trivial|rfl|(intro h;cases h;done))
     ·intro lJ rA lK rB lL rC lM rD lN rE iq rF;have rG:iq=false:=by
       rw[rF,rE,rD,rC,rB,rA,q1,decide_eq_false (show ¬ XR L S<(N.getD i (0,0)).2 by omega),decide_eq_false (show ¬ (Qq L S).2 > T by omega)];rfl
      refine⟨(fun h=>by rw[rG] at h;cases h),fun _=>⟨by omega,by omega,?_⟩⟩;intro iu rH;have bq:Ab N (i+1)=Ab N i+iu:=by rw[rH];rfl
      have wx:=sQ (i+1) (by omega);refine⟨M6 (by omega),M6 (by omega),(Ab N (i+1),(i:Int)+1),?_,⟨i+1,ou,rfl⟩,by omega⟩;rw[bq];and_intros<;>first|rfl|trivial
   ·have ou:i=N.length:=by
     rw[lS,lR,ot,g1] at c;apply Classical.byContradiction;intro h9;rw[decide_eq_true (by omega)] at c;cases c
    subst ou;intro lO rI lP rJ jl rK;refine⟨fun _=>trivial,?_⟩;intro jm rL;refine⟨fun _=>trivial,?_⟩;intro lQ rM;exact⟨by rw[rM,rL,rK,rJ,rI,g1,n3];simp,trivial⟩
end Go.Proofs.Tryz
set_option linter.unusedVariables false
namespace Go.Proofs.Tryz
open Go Go.V Go.Proofs
theorem Iq {l:List Int}(h:KWf (.list (.i .u8)) l):u8s l:=fun x hx=>(PW x).1 (h.2 x hx)
theorem Q2s {l:List Int}(h:KWf (.list (.i .u16)) l):Z23 l:=fun x hx=>(Q28 x).1 (h.2 x hx)
theorem Q6z {x:Int×List Int×List Int×List Int}(h:KWf (.pair (.i .u8) (.pair (.list (.i .u8)) (.pair (.list (.i .u16)) (.list (.i .u8))))) x):bOk x.1 x.2.1 x.2.2.1 x.2.2.2:=by obtain⟨h1,h2,h3,h4⟩:=h;have h1:=(PW x.1).1 h1;exact⟨h1.1,h1.2,Iq h2,Q2s h3,Iq h4⟩
theorem Q0o {x:List (Int×Int×Int×Int)×Int×List Int}(h:KWf (.pair (.list (.pair (.i .u8) (.pair (.i .u8) (.pair (.i .u8) (.i .u8))))) (.pair (.i .u8) (.list (.i .u8)))) x):Tl x.1 x.2.1 x.2.2:=by obtain⟨h1,h2,h3⟩:=h;have h2:=(PW x.2.1).1 h2;refine⟨h1.1,fun y hy=>?_,⟨h2.1,h2.2⟩,Iq h3⟩;obtain⟨a,b,c,d⟩:=h1.2 y hy;exact⟨(PW _).1 a,(PW _).1 b,(PW _).1 c,(PW _).1 d⟩
theorem twoPre_of {x:(Int×List Int×List Int×List Int)×(List (Int×Int×Int×Int)×Int×List Int)}(h:AWf [.pair (.i .u8) (.pair (.list (.i .u8)) (.pair (.list (.i .u16)) (.list (.i .u8)))),.pair (.list (.pair (.i .u8) (.pair (.i .u8) (.pair (.i .u8) (.i .u8))))) (.pair (.i .u8) (.list (.i .u8)))] x):bOk x.1.1 x.1.2.1 x.1.2.2.1 x.1.2.2.2∧Tl x.2.1 x.2.2.1 x.2.2.2:=by obtain⟨h1,h2⟩:=h;exact⟨Q6z h1,Q0o h2⟩
end Go.Proofs.Tryz