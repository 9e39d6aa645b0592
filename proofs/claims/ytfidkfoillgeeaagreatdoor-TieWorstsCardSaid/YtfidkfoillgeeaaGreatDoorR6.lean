/- A framework for walks, contracts of functions, and their proofs: part 6. -/
import Derived.Test.YtfidkfoillgeeaaGreatDoorR5
noncomputable section
set_option linter.unusedVariables false
set_option maxRecDepth 100000
namespace Go.Proofs.Tryz
open Go Go.V
def EX:Memo:=⟨[.agg #[.int .i64 4,.slice (some ⟨0,0,none⟩) 1 1],.slice (some ⟨1,0,none⟩) 1 1,.int .i64 3],[⟨[.int .i64 0],⟨1,3⟩,true⟩,⟨[.int .i64 0],⟨1,3⟩,true⟩],.tuple #[.agg #[.int .i64 4,.slice (some ⟨2,0,none⟩) 1 1],.int .i64 1,.int .i64 0],[⟨[.int .i64 1],⟨1,3⟩,false⟩]⟩
theorem Cy:QB Tryz.prog 29 EX:=Qj mixed Qt 200 (by kernel_rfl) (by kernel_rfl)
def Eo:Memo:=⟨[.agg #[.int .i64 4,.slice (some ⟨0,0,none⟩) 1 1],.slice (some ⟨1,0,none⟩) 1 1,.int .i64 3],[⟨[.int .i64 1],⟨1,3⟩,true⟩,⟨[.int .i64 1],⟨1,3⟩,true⟩],.tuple #[.agg #[.int .i64 4,.slice (some ⟨2,0,none⟩) 1 1],.int .i64 0,.int .i64 0],[⟨[.int .i64 1],⟨1,3⟩,false⟩]⟩
theorem CS:QB Tryz.prog 29 Eo:=Qj mixed Qt 200 (by kernel_rfl) (by kernel_rfl)
def AG:Memo:=⟨[.agg #[.int .i64 4,.slice (some ⟨0,0,none⟩) 1 1],.slice (some ⟨1,0,none⟩) 1 1,.int .i64 3],[⟨[.int .i64 2],⟨1,3⟩,true⟩,⟨[.int .i64 2],⟨1,3⟩,true⟩],.tuple #[.agg #[.int .i64 4,.slice (some ⟨2,0,none⟩) 1 1],.int .i64 0,.int .i64 0],[⟨[.int .i64 2],⟨1,3⟩,false⟩]⟩
theorem Cj:QB Tryz.prog 29 AG:=Qj mixed Qt 200 (by kernel_rfl) (by kernel_rfl)
def Ef:Memo:=⟨[.agg #[.int .i64 4,.slice (some ⟨0,0,none⟩) 1 1],.slice (some ⟨1,0,none⟩) 1 1,.int .i64 3],[⟨[.int .i64 3],⟨1,3⟩,true⟩,⟨[.int .i64 3],⟨1,3⟩,true⟩],.tuple #[.agg #[.int .i64 4,.slice (some ⟨2,0,none⟩) 1 1],.int .i64 0,.int .i64 0],[⟨[.int .i64 3],⟨1,3⟩,false⟩]⟩
theorem Ct:QB Tryz.prog 29 Ef:=Qj mixed Qt 200 (by kernel_rfl) (by kernel_rfl)
def AR:Memo:=⟨[.agg #[.int .i64 4,.slice (some ⟨0,0,none⟩) 1 1],.slice (some ⟨1,0,none⟩) 1 1,.int .i64 3],[⟨[.int .i64 4],⟨1,3⟩,true⟩,⟨[.int .i64 4],⟨1,3⟩,true⟩],.tuple #[.agg #[.int .i64 4,.slice (some ⟨2,0,none⟩) 1 1],.int .i64 0,.int .i64 0],[⟨[.int .i64 4],⟨1,3⟩,false⟩]⟩
theorem C7:QB Tryz.prog 29 AR:=Qj mixed Qt 200 (by kernel_rfl) (by kernel_rfl)
def Ah:Memo:=⟨[.agg #[.int .i64 4,.slice (some ⟨0,0,none⟩) 1 1],.slice (some ⟨1,0,none⟩) 1 1,.int .i64 3],[⟨[.int .i64 5],⟨1,3⟩,true⟩,⟨[.int .i64 5],⟨1,3⟩,true⟩],.tuple #[.agg #[.int .i64 4,.slice (some ⟨2,0,none⟩) 1 1],.int .i64 0,.int .i64 0],[⟨[.int .i64 5],⟨1,3⟩,false⟩]⟩
theorem LV:QB Tryz.prog 29 Ah:=Qj mixed Qt 200 (by kernel_rfl) (by kernel_rfl)
def EZ:Memo:=⟨[.agg #[.int .i64 4,.slice (some ⟨0,0,none⟩) 1 1],.slice (some ⟨1,0,none⟩) 1 1,.int .i64 3],[⟨[.int .i64 6],⟨1,3⟩,true⟩,⟨[.int .i64 6],⟨1,3⟩,true⟩],.tuple #[.agg #[.int .i64 4,.slice (some ⟨2,0,none⟩) 1 1],.int .i64 0,.int .i64 0],[⟨[.int .i64 6],⟨1,3⟩,false⟩]⟩
theorem Cd:QB Tryz.prog 29 EZ:=Qj mixed Qt 200 (by kernel_rfl) (by kernel_rfl)
def Af:Memo:=⟨[.agg #[.int .i64 4,.slice (some ⟨0,0,none⟩) 1 1],.slice (some ⟨1,0,none⟩) 1 1,.int .i64 3],[⟨[.int .i64 7],⟨1,3⟩,true⟩,⟨[.int .i64 7],⟨1,3⟩,true⟩],.tuple #[.agg #[.int .i64 4,.slice (some ⟨2,0,none⟩) 1 1],.int .i64 0,.int .i64 0],[⟨[.int .i64 7],⟨1,3⟩,false⟩]⟩
theorem Co:QB Tryz.prog 29 Af:=Qj mixed Qt 200 (by kernel_rfl) (by kernel_rfl)
def AB:Memo:=⟨[.agg #[.int .i64 4,.slice (some ⟨0,0,none⟩) 1 1],.slice (some ⟨1,0,none⟩) 1 1,.int .i64 3],[⟨[.int .i64 8],⟨1,3⟩,true⟩,⟨[.int .i64 8],⟨1,3⟩,true⟩],.tuple #[.agg #[.int .i64 4,.slice (some ⟨2,0,none⟩) 1 1],.int .i64 0,.int .i64 0],[⟨[.int .i64 8],⟨1,3⟩,false⟩]⟩
theorem CY:QB Tryz.prog 29 AB:=Qj mixed Qt 200 (by kernel_rfl) (by kernel_rfl)
def An:Memo:=⟨[.agg #[.int .i64 4,.slice (some ⟨0,0,none⟩) 1 1],.slice (some ⟨1,0,none⟩) 1 1,.int .i64 3],[⟨[.int .i64 9],⟨1,3⟩,true⟩,⟨[.int .i64 9],⟨1,3⟩,true⟩],.tuple #[.agg #[.int .i64 4,.slice (some ⟨2,0,none⟩) 1 1],.int .i64 0,.int .i64 0],[⟨[.int .i64 9],⟨1,3⟩,false⟩]⟩
theorem LY:QB Tryz.prog 29 An:=Qj mixed Qt 200 (by kernel_rfl) (by kernel_rfl)
def Sz:Memo:=⟨[.agg #[.int .i64 4,.slice (some ⟨0,0,none⟩) 1 1],.slice (some ⟨1,0,none⟩) 1 1,.int .i64 3],[⟨[.int .i64 10],⟨1,3⟩,true⟩,⟨[.int .i64 10],⟨1,3⟩,true⟩],.tuple #[.agg #[.int .i64 4,.slice (some ⟨2,0,none⟩) 1 1],.int .i64 0,.int .i64 0],[⟨[.int .i64 10],⟨1,3⟩,false⟩]⟩
theorem RM:QB Tryz.prog 29 Sz:=Qj mixed Qt 200 (by kernel_rfl) (by kernel_rfl)
def SB:Memo:=⟨[.agg #[.int .i64 4,.slice (some ⟨0,0,none⟩) 1 1],.slice (some ⟨1,0,none⟩) 1 1,.int .i64 3],[⟨[.int .i64 11],⟨1,3⟩,true⟩,⟨[.int .i64 11],⟨1,3⟩,true⟩],.tuple #[.agg #[.int .i64 4,.slice (some ⟨2,0,none⟩) 1 1],.int .i64 0,.int .i64 0],[⟨[.int .i64 11],⟨1,3⟩,false⟩]⟩
theorem Rp:QB Tryz.prog 29 SB:=Qj mixed Qt 200 (by kernel_rfl) (by kernel_rfl)
def LD:Memo:=⟨[.agg #[.int .i64 4,.slice (some ⟨0,0,none⟩) 1 1],.slice (some ⟨1,0,none⟩) 1 1,.int .i64 3],[⟨[.int .i64 12],⟨1,3⟩,true⟩,⟨[.int .i64 12],⟨1,3⟩,true⟩],.tuple #[.agg #[.int .i64 4,.slice (some ⟨2,0,none⟩) 1 1],.int .i64 0,.int .i64 0],[⟨[.int .i64 12],⟨1,3⟩,false⟩]⟩
theorem Rq:QB Tryz.prog 29 LD:=Qj mixed Qt 200 (by kernel_rfl) (by kernel_rfl)
def Lx:Memo:=⟨[.agg #[.int .i64 4,.slice (some ⟨0,0,none⟩) 1 1],.slice (some ⟨1,0,none⟩) 1 1,.int .i64 3],[⟨[.int .i64 13],⟨1,3⟩,true⟩,⟨[.int .i64 13],⟨1,3⟩,true⟩],.tuple #[.agg #[.int .i64 4,.slice (some ⟨2,0,none⟩) 1 1],.int .i64 0,.int .i64 0],[⟨[.int .i64 13],⟨1,3⟩,false⟩]⟩
theorem S4:QB Tryz.prog 29 Lx:=Qj mixed Qt 200 (by kernel_rfl) (by kernel_rfl)
def Li:Memo:=⟨[.agg #[.int .i64 4,.slice (some ⟨0,0,none⟩) 1 1],.slice (some ⟨1,0,none⟩) 1 1,.int .i64 3],[⟨[.int .i64 14],⟨1,3⟩,true⟩,⟨[.int .i64 14],⟨1,3⟩,true⟩],.tuple #[.agg #[.int .i64 4,.slice (some ⟨2,0,none⟩) 1 1],.int .i64 0,.int .i64 0],[⟨[.int .i64 14],⟨1,3⟩,false⟩]⟩
theorem S9:QB Tryz.prog 29 Li:=Qj mixed Qt 200 (by kernel_rfl) (by kernel_rfl)
def L3:Memo:=⟨[.agg #[.int .i64 4,.slice (some ⟨0,0,none⟩) 1 1],.slice (some ⟨1,0,none⟩) 1 1,.int .i64 3],[⟨[.int .i64 15],⟨1,3⟩,true⟩,⟨[.int .i64 15],⟨1,3⟩,true⟩],.tuple #[.agg #[.int .i64 0,.slice none 0 0],.int .i64 0,.int .i64 9],[]⟩
theorem RB:QB Tryz.prog 29 L3:=Qj mixed Qt 200 (by kernel_rfl) (by kernel_rfl)
def Q11:List Memo:=[AJ,Ag,AZ,AF,E4,F3,AE,AW,At,E2,Sk,SA,Sv,Se,Si,LB,EX,Eo,AG,Ef,AR,Ah,EZ,Af,AB,An,Sz,SB,LD,Lx,Li,L3]
theorem FE:∀ m∈Q11,QB Tryz.prog 29 m:=by
 intro m hm;simp only[Q11,List.mem_cons,List.not_mem_nil,or_false] at hm;rcases hm with rfl|rfl|rfl|rfl|rfl|rfl|rfl|rfl|rfl|rfl|rfl|rfl|rfl|rfl|rfl|rfl|rfl|rfl|rfl|rfl|rfl|rfl|rfl|rfl|rfl|rfl|rfl|rfl|rfl|rfl|rfl|rfl
 ·exact CW
 ·exact Cl
 ·exact Cr
 ·exact CK
 ·exact LP
 ·exact LS
 ·exact CX
 ·exact C9
 ·exact C_
 ·exact Cp
 ·exact Rk
 ·exact Ru
 ·exact RD
 ·exact S1
 ·exact RZ
 ·exact RL
 ·exact Cy
 ·exact CS
 ·exact Cj
 ·exact Ct
 ·exact C7
 ·exact LV
 ·exact Cd
 ·exact Co
 ·exact CY
 ·exact LY
 ·exact RM
 ·exact Rp
 ·exact Rq
 ·exact S4
 ·exact S9
 ·exact RB
def Q7b:List (Option FEnt):=[
 none,
 none,
 some (.code c2 [] 1),
 some (.code c3 [.tmp 4] 113),
 some (.code c4 [.tmp 4] 298),
 some (.code c5 [.tmp 4] 185),
 some (.code c6 [.tmp 2] 33),
 some (.code c7 [.tmp 6] 15),
 some (.code c8 [.tmp 6] 35),
 some (.code c9 [.tmp 0] 239),
 some (.code c10 [.cell 2 true 2] 10),
 some (.code c11 [.tmp 4,.tmp 5,.tmp 6] 40),
 some (.code c12 [.tmp 4] 38),
 some (.code c13 [.tmp 4] 31),
 some (.code c14 [.tmp 6] 22),
 some (.code c15 [.tmp 2] 22),
 some (.code c16 [.tmp 4] 46),
 some (.code c17 [.cell 4 true 2] 8),
 some (.code c18 [.cell 2 true 2] 48),
 some (.code c19 [.cell 2 true 2] 51),
 some (.code c20 [.cell 4 true 2,.tmp 5] 48),
 some (.code c21 [.tmp 2,.tmp 3] 39),
 some (.code c22 [.tmp 4,.tmp 5] 43),
 some (.code c23 [.cell 2 true 2] 10),
 some (.code c24 [.tmp 6] 25),
 some (.code c25 [.tmp 2] 55),
 some (.code c26 [.tmp 2,.tmp 3] 37),
 some (.code c27 [.cell 4 true 2,.tmp 5,.tmp 6] 78),
 some (.code c28 [.cell 8 true 4] 14),
 some (.codeM c29 [.cell 6 true 2,.tmp 7,.tmp 8] 84 Q11),
 some (.code c30 [.cell 6 false 1,.tmp 7] 49),
 some (.code c31 [.cell 6 false 1,.tmp 7] 42),
 some (.code c32 [.cell 4 true 2,.tmp 5] 33),
 some (.code c33 [.tmp 4,.tmp 5,.tmp 6,.tmp 7] 30),
 some (.code c34 [.cell 2 true 2,.cell 3 true 2,.tmp 4] 20),
 some (.codeJ c35 [.tmp 2,.tmp 3] 30),
 some (.code c36 [.tmp 4] 28),
 some (.code c37 [.tmp 2] 27),
 some (.code c38 [.tmp 6] 11),
 some (.code c39 [.cell 4 true 2] 59),
 some (.code c40 [.tmp 2,.cell 3 true 2] 47),
 some (.code c41 [.tmp 4] 22),
 some (.code c42 [.tmp 4] 56),
 some (.code c43 [.tmp 4] 50),
 some (.code c44 [.tmp 2] 25),
 some (.code c45 [.tmp 2] 36),
 some (.code c46 [.tmp 4] 26),
 some (.code c47 [.tmp 2] 28),
 some (.code c48 [.tmp 4] 22),
 some (.code c49 [.tmp 5] 23),
 some (.code c50 [.tmp 4] 48),
 some (.code c51 [.tmp 2] 32),
 some (.code c52 [.tmp 6] 11),
 some (.code c53 [.tmp 2,.tmp 3] 102),
 some (.code c54 [] 64),
 some (.code c55 [.tmp 4] 21),
 some (.code c56 [.tmp 4] 16),
 some (.code c57 [.tmp 4,.tmp 5,.tmp 6,.tmp 7] 47),
 some (.code c58 [.cell 4 true 2] 47),
 some (.code c59 [.cell 2 true 2,.tmp 3] 61),
 some (.code c60 [.tmp 2] 17),
 some (.code c61 [] 11),
 some (.code c62 [.tmp 4] 19),
 some (.code c63 [.tmp 4] 9),
 some (.code c64 [.tmp 4] 13),
 some (.code c65 [.tmp 6] 36),
 some (.code c66 [.tmp 2] 20),
 some (.code c67 [.tmp 4] 27),
 some (.code c68 [.tmp 4] 17),
 some (.code c69 [.tmp 2] 4),
 some (.code c70 [.tmp 6] 17),
 some (.code c71 [.tmp 2] 14),
 some (.code c72 [.tmp 4,.tmp 5] 30),
 some (.code c73 [.tmp 2] 5),
 some (.code c74 [.tmp 4] 6),
 some (.code c75 [.tmp 4] 13),
 some (.code c76 [.cell 4 true 4] 20),
 some (.code c77 [.tmp 6] 29),
 some (.code c78 [.tmp 4] 81),
 some (.code c79 [.tmp 2] 4),
 some (.code c80 [.cell 6 true 4,.tmp 7] 40),
 some (.code c81 [.tmp 3] 18),
 some (.code c82 [.tmp 4] 27),
 some (.code c83 [.tmp 4] 25),
 some (.code c84 [] 37),
 some (.code c85 [] 50),
 some (.code c86 [.tmp 4] 23),
 some (.code c87 [.tmp 4] 20),
 some (.code c88 [.tmp 2] 4),
 some (.code c89 [] 134),
 some (.code c90 [.tmp 2] 8),
 some (.code c91 [.tmp 4] 19),
 some (.code c92 [] 20),
 some (.code c93 [.tmp 4,.tmp 5] 17),
 some (.code c94 [.tmp 4,.tmp 5] 51),
 some (.code c95 [.tmp 4] 13),
 some (.code c96 [] 22),
 some (.code c97 [.tmp 3] 20),
 some (.code c98 [.tmp 3] 13),
 some (.code c99 [.tmp 4] 43),
 some (.code Q5w [.tmp 4] 9),
 some (.code Q6w [] 19),
 some (.code Q64 [] 49),
 some (.code Q5p [] 56),
 some (.code Q6x [] 65),
 some (.code Q6p [.tmp 6,.tmp 7] 57),
 some (.code Q59 [] 32),
 some (.code Q6z [.tmp 6] 133),
 some (.code Q5n [.tmp 4] 17),
 some (.code Q6m [.tmp 8] 84),
 some (.code Q5z [.tmp 8,.tmp 9] 168),
 some (.code Q5s [.tmp 2] 19),
 some (.code Q5h [.tmp 2] 25),
 some .same,
 some (.code Q6t [.tmp 4] 17),
 some (.code Q70 [.tmp 4] 23),
 some (.code Q6n [.cell 2 true 256,.tmp 3] 21),
 some (.code Q69 [.tmp 4] 16),
 some (.code Q73 [.tmp 4] 22),
 some (.code Q5c [.tmp 4] 23),
 some (.code Q6c [.tmp 4] 34),
 some (.code Q5f [.tmp 4] 19),
 some (.code Q66 [] 76),
 some (.code Q6k [.tmp 2] 7),
 some (.code Q61 [.tmp 2] 33),
 some (.code Q6v [.tmp 6] 15),
 some (.code Q74 [.tmp 10] 36),
 some (.code Q5m [.tmp 2] 6),
 some (.code Q63 [.tmp 4] 10),
 some (.code Q5l [.tmp 2,.tmp 3] 19),
 some (.code Q6j [.tmp 4] 9),
 some (.code Q5o [.tmp 2,.tmp 3] 51),
 some (.code Q6s [.tmp 8,.tmp 9] 28),
 some (.code Q6y [.tmp 2,.tmp 3] 117),
 some (.code Q65 [.tmp 4] 187),
 some (.code Q5i [.tmp 2] 6),
 some (.code Q6f [.tmp 4] 8),
 some (.code Q6e [.tmp 2] 17),
 some (.code Q67 [.tmp 2] 6),
 none,
 some (.code Q6o [.tmp 4] 8)]
def tab:Tab:=fun f=>(Q7b[f]?).join
theorem Q0m:EntsOk Tryz.prog 0 Q7b:=⟨trivial,trivial,Q77,fun3,Q7a,Q7r,Q5a,Q6r,Q5r,Q5j,Q0h,Q0t,Q1a,OU,Q1n,Q0r,Q14,Q0n,Q4t,Q28,Q2y,Q2c,Q2i,Q30,Q3h,Q4q,Q4k,Q26,Q2g,⟨OW,FE⟩,Q3n,Q3p,Q3d,Q2z,Q3m,Q2x,Q36,Q19,OT,Q1o,Q04,Q01,OP,Q0a,Q1d,Q3v,Q4b,Q10,Q4s,Q29,Q2j,Q41,Q0q,OM,Q3g,Q2q,Q3k,Q2h,Q4l,Q3e,Q4n,Q33,Q2a,Q0f,ON,Q1p,OL,Q2n,Q2o,Q3f,Q4r,Q2r,Q3r,Q3j,Q4p,Q1g,Q1h,OQ,Q0i,Q1k,Q15,Q48,Q35,Q24,Q4i,Q2t,Q2m,Q2l,Q4g,Q47,Q46,O_,Q3z,Q2u,Q4e,Q4h,Q4w,Q4a,Q3i,Q2s,Iz,Ok,O0,IE,IY,Od,Iy,OF,Iv,IN,II,Iw,Ov,En,IQ,Om,IV,Ix,IU,OH,IJ,On,Ot,IF,Ou,Oe,IH,IM,OC,O6,O5,OG,IX,IT,O2,IB,OD,Oq,Oi,trivial,Oc,trivial⟩
theorem Q3o:TabOk Tryz.prog tab:=Lw Q0m
theorem F2:Hv tab 300 WT [] c9 none (ET.of [] 239) CH.empty (Q0z false [.tmp 0] fun v _=>isTrue v)=true:=by kernel_rfl
theorem Fv {σ:Heap}{K:Value→Heap→Prop}(hK:K (.bool true) σ):VCalled Tryz.prog 9 [] σ K:=FK mixed Q3o 300 Q5j (by decide) F2 hK
end Go.Proofs.Tryz
namespace Go.Proofs.Tryz
open Go Go.V Go.Proofs
def B4:AL (Unit):=.nil
def Dl (d:Unit):Prop:=True
def Dx (d:Unit):SV:=.val .bo true
def MS (d:Unit):List OB:=[]
def Uu:CSp:=K8 B4 Dl Dx MS
abbrev Bs:Prop:=OkC Tryz.prog 9 Uu
theorem B3:Bs:=I3 fun _ _ h=>Fv h
def Md:AL (Int×List Int):=(.one (.agg (.cons (.k (.i .i64)) (.one (.k (.list (.i .i64)))))))
def HY (d:Int×List Int):Prop:=d.2.length≤1000
def UR (d:Int×List Int):SV:=.agg [.val (.i .i64) d.1,.lst 0]
def N8 (d:Int×List Int):List OB:=[.lst 3 (.i .i64) d.2 false]
def Uc:CSp:=K8 Md HY UR N8
def Wv (hk:Int) (lw:List Int):Prop :=
 (((List.length ([]:List Int))+(List.length lw))*8≤70368744177664)∧((hk=hk∧True∧(([]:List SV)=[]))∧(((([]:List Int)++lw)=lw∧((List.isEmpty lw)&&false)=false)∧True))
def M4:Cx:=⟨[(3,(.i .i64))],[],10,[],0,[],[],[],[],false,[],[],[],[]⟩
def P_ (hk:Int) (lw:List Int):List (Nat×LoopAnn):=[]
theorem TH (d:Int×List Int):gwp (M4) (P_ d.1 d.2) c10 0 (Vt [.cell 2 true 2] (UR d) (N8 d)) (QL 10 (AL.can Md d))=Wv d.1 d.2:=by kernel_rfl
abbrev PM:Prop:=OkC Tryz.prog 10 Uc
theorem Te (h:∀ (hk:Int) (lw:List Int),(lw.length≤1000)→Wv hk lw):OkC Tryz.prog 10 Uc :=
 Z3 Q0h mixed (C:=M4) (V:=fun (d:Int×List Int)=>Wv d.1 d.2) ⟨.nil,XsOk.nil,ItsOk.nil,YlOk.nil,IysOk.nil,XfOk.nil⟩ (TH) fun d hp=>h d.1 d.2 hp
theorem TF:PM:=Te fun hk lw h=>by
 have h1:lw.length*8≤70368744177664:=by omega
 simp[Wv,h1]
def U1:AL ((Int×List Int)×(Int×List Int)×List (List UInt8)):=(.cons (.agg (.cons (.k (.i .i64)) (.one (.k (.list (.i .i64)))))) (.cons (.agg (.cons (.k (.i .i64)) (.one (.k (.list (.i .i64)))))) (.one (.k (.list .st)))))
def GG (d:(Int×List Int)×(Int×List Int)×List (List UInt8)):Prop:=d.2.2.length≤9223372036854775807
def Kn (d:(Int×List Int)×(Int×List Int)×List (List UInt8)):SV:=.val .bo (NP d.1.2 d.2.1.2 d.2.2)
def KX (d:(Int×List Int)×(Int×List Int)×List (List UInt8)):List OB:=[]
def Yt:CSp:=K8 U1 GG Kn KX
def X7 (hk:Int) (lw:List Int) (hd:Int) (rows:List Int) (c:List (List UInt8)):Prop :=
 ∃ (e3:Unit) (d30:Int),((c=c∧True∧True∧(0:Int)=d30∧True)∧((hk=hk∧lw=lw∧(([]:List SV)=[]))∧(hd=hd∧rows=rows∧(([]:List SV)=[]))∧True)) ∧
 LoopP (fun (d3:Int) (q3:(Int)→Prop) =>
  ((decide (d3<(lI c)))=true →
   (0≤d3)∧(d3<(List.length c))∧((decide ((lI (gD c d3 [])) > (110:Int)))=true →
    (true=(NP lw rows c)∧(True))) ∧
   ((decide ((lI (gD c d3 [])) > (110:Int)))=false →
    (I64 (d3+(1:Int)))∧(∃ d4:Int,((c=c∧True∧True∧(d3+(1:Int))=d4∧True)∧((hk=hk∧lw=lw∧(([]:List SV)=[]))∧(hd=hd∧rows=rows∧(([]:List SV)=[]))∧True))∧q3 d4))) ∧
  ((decide (d3<(lI c)))=false →
   ((((decide ((lI lw) > (110:Int)))||(decide ((lI rows) > (70:Int))))||(decide ((lI c) > (70:Int))))=(NP lw rows c)∧(True)))) d30
def VL:Cx:=⟨[],[],35,[],0,[],[],[],[],false,[],[],[],[]⟩
def Bl (hk:Int) (lw:List Int) (hd:Int) (rows:List Int) (c:List (List UInt8)):List (Nat×LoopAnn):=[(0,⟨Unit,Int,[2,3,4,7],fun e x=>[.val (.list .st) c,.box 3 0,.box 4 0,.val (.i .i64) x],fun e x=>[(3,.slot 3,.cells [.val (.i .i64) hk,.val (.list (.i .i64)) lw] (some 24)),(4,.slot 4,.cells [.val (.i .i64) hd,.val (.list (.i .i64)) rows] (some 30))]⟩)]
theorem DX (d:(Int×List Int)×(Int×List Int)×List (List UInt8)):gwp (VL) (Bl d.1.1 d.1.2 d.2.1.1 d.2.1.2 d.2.2) c8 0 (Vt [.tmp 6] (Kn d) (KX d)) (QL 35 (AL.can U1 d))=X7 d.1.1 d.1.2 d.2.1.1 d.2.1.2 d.2.2:=by kernel_rfl
abbrev Bm:Prop:=OkC Tryz.prog 8 Yt
theorem Bo (h:∀ (hk:Int) (lw:List Int) (hd:Int) (rows:List Int) (c:List (List UInt8)),(c.length≤9223372036854775807)→X7 hk lw hd rows c):OkC Tryz.prog 8 Yt :=
 Z3 Q5r mixed (C:=VL) (V:=fun (d:(Int×List Int)×(Int×List Int)×List (List UInt8))=>X7 d.1.1 d.1.2 d.2.1.1 d.2.1.2 d.2.2) ⟨.nil,XsOk.nil,ItsOk.nil,YlOk.nil,IysOk.nil,XfOk.nil⟩ (DX) fun d hp=>h d.1.1 d.1.2 d.2.1.1 d.2.1.2 d.2.2 hp
theorem Bw:Bm:=Bo fun hk lw hd rows c hc=>by
 unfold X7;refine⟨(),0,by simp,?_⟩;refine LoopP.count c.length (fun k=>∀ j,j<k→(c.getD j []).length≤110) (fun _ h=>by omega) fun k hk hJ q hq=>?_;refine⟨fun aj=>?_,fun bj=>⟨?_,trivial⟩⟩
 ·have aj:k<c.length:=by simpa [lI] using aj
  refine⟨by omega,by omega,fun aF=>⟨?_,trivial⟩,fun he=>⟨?_,(k:Int)+1,by simp,hq aj fun j hj=>?_⟩⟩
  ·have h0:(110:Int)<(((c.getD k []).length:Nat):Int):=by simpa [lI,gD] using aF
   have h1:110<(c.getD k []).length:=by omega
   rw[Qw aj] at h1;have:c.any (fun s=>decide (110<s.length))=true:=List.any_eq_true.2 ⟨c[k],List.getElem_mem aj,by simpa using h1⟩;simp[NP,this]
  ·simp only[Q7];omega
  ·rcases Nat.lt_succ_iff_lt_or_eq.1 hj with hj|rfl
   ·exact hJ j hj
   ·have:¬ (110:Int)<(((c.getD j []).length:Nat):Int):=by simpa [lI,gD] using he
    omega
 ·have bj:c.length≤k:=by simpa [lI] using bj
  have:c.any (fun s=>decide (110<s.length))=false:=by rw[List.any_eq_false];intro s hs;obtain⟨j,hj,rfl⟩:=List.getElem_of_mem hs;have:=hJ j (by omega);rw[Qw hj] at this;simp;omega
  simp only[NP,this,Bool.false_or,lI];congr 1
  ·congr 1
   ·simp only[decide_eq_decide];omega
   ·simp only[decide_eq_decide];omega
  ·simp only[decide_eq_decide];omega
theorem Q03 {KK:Kind}{V:Type}(hk:∀ a b:KK.T,gq.keq KK a b=true↔a=b) (k:KK.T) (v:V) (e:KK.T) (d:V):∀ m:List (KK.T×V),(e=k→gq.aget KK (PS KK m k v) e d=v∧gq.ahas KK (PS KK m k v) e=true)∧(e≠k→gq.aget KK (PS KK m k v) e d=gq.aget KK m e d∧gq.ahas KK (PS KK m k v) e=gq.ahas KK m e)
 |[]=>by
  refine⟨fun h=>?_,fun h=>?_⟩
  ·subst h;have:=(hk e e).2 rfl;exact⟨by show (if gq.keq KK e e=true then v else d)=v;rw[if_pos this],by show (gq.keq KK e e||false)=true;rw[this];rfl⟩
  ·have:gq.keq KK e k=false:=by
    cases h2:gq.keq KK e k with
    |false=>rfl
    |true=>exact(h ((hk e k).1 h2)).elim
   exact⟨by show (if gq.keq KK e k=true then v else d)=d;rw[this,if_neg (by decide)],by show (gq.keq KK e k||false)=false;rw[this];rfl⟩
 |(a,b)::m=>by
  obtain⟨i1,i2⟩:=Q03 hk k v e d m;have eP:PS KK ((a,b)::m) k v=if gq.keq KK k a=true then (k,v)::m else (a,b)::PS KK m k v:=rfl
  have eG:∀ (a:KK.T) (b:V) m,gq.aget KK ((a,b)::m) e d=if gq.keq KK e a=true then b else gq.aget KK m e d:=fun _ _ _=>rfl
  have eH:∀ (a:KK.T) (b:V) m,gq.ahas KK ((a,b)::m) e=(gq.keq KK e a||gq.ahas KK m e):=fun _ _ _=>rfl;rw[eP];by_cases c:gq.keq KK k a=true
  ·have ca:=(hk k a).1 c;rw[if_pos c];refine⟨fun h=>?_,fun h=>?_⟩
   ·subst h;have:=(hk e e).2 rfl;rw[eG,eH,this,if_pos rfl];exact⟨rfl,rfl⟩
   ·have:gq.keq KK e k=false:=by
     cases h2:gq.keq KK e k with
     |false=>rfl
     |true=>exact(h ((hk e k).1 h2)).elim
    rw[eG,eH,eG,eH,←ca,this];exact⟨rfl,rfl⟩
  ·rw[if_neg c];refine⟨fun h=>?_,fun h=>?_⟩
   ·have:gq.keq KK e a=false:=by
     cases h2:gq.keq KK e a with
     |false=>rfl
     |true=>rw[h] at h2;exact(c h2).elim
    rw[eG,eH,this,if_neg (by decide)];obtain⟨j1,j2⟩:=i1 h;exact⟨j1,by rw[j2];rfl⟩
   ·obtain⟨j1,j2⟩:=i2 h;rw[eG,eH,eG,eH,j1,j2];exact⟨rfl,rfl⟩
def nxL (len:Nat) (lt b:Bool):Nat:=if b=lt then len+1 else 1
def nxF (len fi:Nat) (lt b:Bool):Nat:=if b=lt then fi else if fi=0 then len else fi
def Qz (row fx k:Nat) (b:Bool):Int:=if row.testBit k=b then 0 else if fx.testBit k=true then 1048576 else 1
def Q1x (B:Nat) (top:Bool) (len fi:Nat) (lt:Bool):Int:=if (fi=0∨(lt=top∧B<len+fi)) then 1048576 else 0
def brV (B len:Nat) (lt:Bool) (Q22 c:Int) (b:Bool):Int:=if nxL len lt b≤B then Cb Q22 c else Q22
def Qc (row fx B:Nat) (top:Bool):Nat→Nat→Nat→Bool→Int
 |0,len,fi,lt=>Q1x B top len fi lt
 |k+1,len,fi,lt=>brV B len lt (brV B len lt 1048576 (Qz row fx k false+Qc row fx B top k (nxL len lt false) (nxF len fi lt false) false) false) (Qz row fx k true+Qc row fx B top k (nxL len lt true) (nxF len fi lt true) true) true
def NG (row fx B:Nat) (top:Bool) (f:Nat→Bool):Nat→Nat→Nat→Bool→Int
 |0,len,fi,lt=>Q1x B top len fi lt
 |k+1,len,fi,lt=>if nxL len lt (f k)≤B then Qz row fx k (f k)+NG row fx B top f k (nxL len lt (f k)) (nxF len fi lt (f k)) (f k) else 1048576
theorem Xb (a b:Int):Cb a b=min a b:=by unfold Cb;split<;>omega
theorem Jl (row fx k:Nat) (b:Bool):0≤Qz row fx k b∧Qz row fx k b≤1048576:=by unfold Qz;split;omega;split<;>omega
theorem W0 (row fx B:Nat) (top:Bool):∀ k len fi lt,0≤Qc row fx B top k len fi lt∧Qc row fx B top k len fi lt≤1048576
 |0,len,fi,lt=>by unfold Qc Q1x;split<;>omega
 |k+1,len,fi,lt=>by have h1:=W0 row fx B top k (nxL len lt false) (nxF len fi lt false) false;have h2:=W0 row fx B top k (nxL len lt true) (nxF len fi lt true) true;have c1:=Jl row fx k false;have c2:=Jl row fx k true;unfold Qc brV;simp only[Xb];split<;>split<;>omega
theorem U7 {row fx B:Nat}{top:Bool}{f g:Nat→Bool}:∀ k len fi lt,(∀ j,j<k→f j=g j)→NG row fx B top f k len fi lt=NG row fx B top g k len fi lt
 |0,_,_,_,_=>rfl
 |k+1,len,fi,lt,h=>by unfold NG;rw[h k (by omega),U7 k _ _ _ fun j hj=>h j (by omega)]
theorem MN (row fx B:Nat) (top:Bool) (k len fi:Nat) (lt:Bool):(∀ b,nxL len lt b≤B→Qc row fx B top (k+1) len fi lt≤Qz row fx k b+Qc row fx B top k (nxL len lt b) (nxF len fi lt b) b) ∧
  (Qc row fx B top (k+1) len fi lt<1048576→∃ b,nxL len lt b≤B∧Qc row fx B top (k+1) len fi lt=Qz row fx k b+Qc row fx B top k (nxL len lt b) (nxF len fi lt b) b):=by
 rw[Qc];unfold brV;simp only[Xb];refine⟨fun b hb=>?_,fun h=>?_⟩
 ·cases b<;>rw[if_pos hb]<;>(try split)<;>omega
 ·by_cases h1:nxL len lt false≤B<;>by_cases h2:nxL len lt true≤B
  ·rw[if_pos h1,if_pos h2] at h ⊢;rcases Int.le_total (min 1048576 (Qz row fx k false+Qc row fx B top k (nxL len lt false) (nxF len fi lt false) false)) (Qz row fx k true+Qc row fx B top k (nxL len lt true) (nxF len fi lt true) true) with c|c
   ·exact⟨false,h1,by omega⟩
   ·exact⟨true,h2,by omega⟩
  ·rw[if_pos h1,if_neg h2] at h ⊢;exact⟨false,h1,by omega⟩
  ·rw[if_neg h1,if_pos h2] at h ⊢;exact⟨true,h2,by omega⟩
  ·rw[if_neg h1,if_neg h2] at h;omega
theorem TE (row fx B:Nat) (top:Bool) (f:Nat→Bool):∀ k len fi lt,Qc row fx B top k len fi lt≤NG row fx B top f k len fi lt
 |0,_,_,_=>Int.le_refl _
 |k+1,len,fi,lt=>by
  unfold NG;by_cases h:nxL len lt (f k)≤B
  ·rw[if_pos h];have h1:=(MN row fx B top k len fi lt).1 (f k) h;have h2:=TE row fx B top f k (nxL len lt (f k)) (nxF len fi lt (f k)) (f k);omega
  ·rw[if_neg h];exact(W0 ..).2
def pkB (row fx B:Nat) (top:Bool) (k len fi:Nat) (lt:Bool):Bool:=!(decide (nxL len lt false≤B)&&decide (Qz row fx k false+Qc row fx B top k (nxL len lt false) (nxF len fi lt false) false=Qc row fx B top (k+1) len fi lt))
theorem O3 {row fx B:Nat}{top:Bool}{k len fi:Nat}{lt:Bool}(h:Qc row fx B top (k+1) len fi lt<1048576):nxL len lt (pkB row fx B top k len fi lt)≤B∧Qc row fx B top (k+1) len fi lt=Qz row fx k (pkB row fx B top k len fi lt)+Qc row fx B top k (nxL len lt (pkB row fx B top k len fi lt)) (nxF len fi lt (pkB row fx B top k len fi lt)) (pkB row fx B top k len fi lt):=by
 obtain⟨b,h1,h2⟩:=(MN row fx B top k len fi lt).2 h;cases hp:pkB row fx B top k len fi lt with
 |false =>unfold pkB at hp;simp only[Bool.not_eq_false',Bool.and_eq_true,decide_eq_true_eq] at hp;exact⟨hp.1,hp.2.symm⟩
 |true =>
  cases b with
  |true=>exact⟨h1,h2⟩
  |false =>exfalso;unfold pkB at hp;rw[decide_eq_true h1,decide_eq_true h2.symm] at hp;cases hp
def Lk (row fx B:Nat) (top:Bool):Nat→Nat→Nat→Bool→Nat
 |0,_,_,_=>0
 |k+1,len,fi,lt=>(if pkB row fx B top k len fi lt=true then 2 ^ k else 0)+Lk row fx B top k (nxL len lt (pkB row fx B top k len fi lt)) (nxF len fi lt (pkB row fx B top k len fi lt)) (pkB row fx B top k len fi lt)
theorem Rs (row fx B:Nat) (top:Bool):∀ k len fi lt,Lk row fx B top k len fi lt<2 ^ k
 |0,_,_,_=>by simp[Lk]
 |k+1,len,fi,lt=>by unfold Lk;have:=Rs row fx B top k (nxL len lt (pkB row fx B top k len fi lt)) (nxF len fi lt (pkB row fx B top k len fi lt)) (pkB row fx B top k len fi lt);rw[Nat.pow_succ];split<;>omega
theorem AV {k n:Nat}{b:Bool}(h:n<2 ^ k):((if b=true then 2 ^ k else 0)+n).testBit k=b∧∀ j,j<k→((if b=true then 2 ^ k else 0)+n).testBit j=n.testBit j:=by
 cases b with
 |false =>
  refine⟨?_,fun j hj=>?_⟩
  ·rw[if_neg (by decide),Nat.zero_add,Nat.testBit_lt_two_pow h]
  ·rw[if_neg (by decide),Nat.zero_add]
 |true =>
  rw[if_pos rfl];refine⟨?_,fun j hj=>?_⟩
  ·rw[Nat.testBit_two_pow_add_eq,Nat.testBit_lt_two_pow h];rfl
  ·rw[Nat.testBit_two_pow_add_gt hj]
theorem TB {row fx B:Nat}{top:Bool}:∀ k len fi lt,Qc row fx B top k len fi lt<1048576→NG row fx B top (Lk row fx B top k len fi lt).testBit k len fi lt=Qc row fx B top k len fi lt
 |0,_,_,_,_=>rfl
 |k+1,len,fi,lt,h=>by
  obtain⟨h1,h2⟩:=O3 h;rw[h2];unfold Lk NG;generalize pkB row fx B top k len fi lt=b at *
  have hc:=Jl row fx k b;have ih:=TB (row:=row) (fx:=fx) (B:=B) (top:=top) k (nxL len lt b) (nxF len fi lt b) b (by omega);have hl:=Rs row fx B top k (nxL len lt b) (nxF len fi lt b) b;generalize Lk row fx B top k (nxL len lt b) (nxF len fi lt b) b=n at *
  obtain⟨t1,t2⟩:=AV (b:=b) hl;rw[t1,if_pos h1,U7 k _ _ _ t2,ih]
def JV (row fx B H:Nat) (top:Bool):Int:=Qz row fx (H-1) top+Qc row fx B top (H-1) 1 0 top
def U6 (row fx B H:Nat):Bool:=decide (JV row fx B H true<Cb (JV row fx B H false) 1048576)
def XJ (row fx B H:Nat):Int:=if U6 row fx B H=true then JV row fx B H true else Cb (JV row fx B H false) 1048576
def YY (row fx B H:Nat):Nat:=if XJ row fx B H<1048576 then (if U6 row fx B H=true then 2 ^ (H-1) else 0)+Lk row fx B (U6 row fx B H) (H-1) 1 0 (U6 row fx B H) else 0
def okW (H B:Nat) (f:Nat→Bool):Prop:=∀ k,k<H→∃ j,1≤j∧j≤B∧f ((k+j) % H)≠f k
def vP (B:Nat) (top:Bool) (f:Nat→Bool):Nat→Nat→Nat→Bool→Prop
 |0,len,fi,lt=>¬ (fi=0∨(lt=top∧B<len+fi))
 |k+1,len,fi,lt=>nxL len lt (f k)≤B∧vP B top f k (nxL len lt (f k)) (nxF len fi lt (f k)) (f k)
def cS (row fx:Nat) (f:Nat→Bool):Nat→Int
 |0=>0
 |k+1=>Qz row fx k (f k)+cS row fx f k
theorem Q42 (row fx:Nat) (f:Nat→Bool):∀ k,0≤cS row fx f k
 |0=>Int.le_refl _
 |k+1=>by have:=Q42 row fx f k;have:=Jl row fx k (f k);unfold cS;omega
theorem BU {row fx B:Nat}{top:Bool}{f:Nat→Bool}:∀ k len fi lt,(vP B top f k len fi lt→NG row fx B top f k len fi lt=cS row fx f k)∧(¬ vP B top f k len fi lt→1048576≤NG row fx B top f k len fi lt)
 |0,len,fi,lt=>by unfold vP NG Q1x cS;refine⟨fun h=>if_neg h,fun h=>?_⟩;rw[if_pos (Decidable.not_not.1 h)];omega
 |k+1,len,fi,lt=>by
  obtain⟨h1,h2⟩:=BU (row:=row) (fx:=fx) (B:=B) (top:=top) (f:=f) k (nxL len lt (f k)) (nxF len fi lt (f k)) (f k);have hc:=Jl row fx k (f k);unfold vP NG cS;refine⟨fun ⟨a,b⟩=>?_,fun h=>?_⟩
  ·rw[if_pos a,h1 b]
  ·by_cases a:nxL len lt (f k)≤B
   ·rw[if_pos a];have:=h2 fun b=>h ⟨a,b⟩;omega
   ·rw[if_neg a];omega
def StB (H:Nat) (f:Nat→Bool) (k len fi:Nat):Prop:=1≤len∧k+len≤H∧(∀ j,j<len→f (k+j)=f k) ∧
 (fi=0∧k+len=H∨1≤fi∧k+len+fi≤H∧f (k+len)≠f k∧(∀ j,j<fi→f (H-1-j)=f (H-1))∧f (H-1-fi)≠f (H-1))
theorem Lu {H:Nat}{f:Nat→Bool}{k len fi:Nat}(h:StB H f (k+1) len fi):StB H f k (nxL len (f (k+1)) (f k)) (nxF len fi (f (k+1)) (f k)):=by
 obtain⟨h1,h2,h3,h4⟩:=h;unfold nxL nxF;by_cases e:f k=f (k+1)
 ·rw[if_pos e,if_pos e];refine⟨by omega,by omega,fun j hj=>?_,?_⟩
  ·cases j with
   |zero=>rfl
   |succ j =>have:=h3 j (by omega);rw[show k+(j+1)=k+1+j by omega,this,e]
  ·rcases h4 with⟨a,b⟩|⟨a,b,c,d,g⟩
   ·exact .inl ⟨a,by omega⟩
   ·refine .inr ⟨a,by omega,?_,d,g⟩;rw[show k+(len+1)=k+1+len by omega,e];exact c
 ·rw[if_neg e,if_neg e];refine⟨by omega,by omega,fun j hj=>by rw[show j=0 by omega];rfl,.inr ?_⟩;rcases h4 with⟨a,b⟩|⟨a,b,c,d,g⟩
  ·rw[if_pos a];have ht:∀ j,j<len→f (H-1-j)=f (k+1):=fun j hj=>by
    have:=h3 (len-1-j) (by omega);rw[show H-1-j=k+1+(len-1-j) by omega];exact this
   have h0:f (H-1)=f (k+1):=by have:=ht 0 (by omega);simpa using this
   refine⟨h1,by omega,fun h=>e h.symm,fun j hj=>by rw[ht j hj,h0],?_⟩;rw[show H-1-len=k by omega,h0];exact e
  ·rw[if_neg (by omega)];exact⟨a,by omega,fun h=>e h.symm,d,g⟩
theorem Oz {H B:Nat}{f:Nat→Bool}(hB:1≤B):∀ k len fi,StB H f k len fi→len≤B→vP B (f (H-1)) f k len fi (f k)→(∀ i,k≤i→i+B<H→∃ j,1≤j∧j≤B∧f (i+j)≠f i)→okW H B f
 |0,len,fi,hs,hl,hv,hw=>by
  obtain⟨h1,h2,h3,h4⟩:=hs;unfold vP at hv;rcases h4 with⟨a,b⟩|⟨a,b,c,d,g⟩
  ·exact(hv (.inl a)).elim
  intro i hi;by_cases e:i+B<H
  ·obtain⟨j,j1,j2,j3⟩:=hw i (by omega) e;exact⟨j,j1,j2,by rw[Nat.mod_eq_of_lt (by omega)];exact j3⟩
  ·apply Classical.byContradiction;intro hn;have hall:∀ j,1≤j→j≤B→f ((i+j) % H)=f i:=fun j j1 j2=>Classical.byContradiction fun h=>hn ⟨j,j1,j2,h⟩;have et:f (H-1)=f i:=by
    by_cases e2:i=H-1
    ·rw[←e2]
    ·have:=hall (H-1-i) (by omega) (by omega);rw[Nat.mod_eq_of_lt (by omega),show i+(H-1-i)=H-1 by omega] at this;exact this
   have e0:f 0=f i:=by have:=hall (H-i) (by omega) (by omega);rw[show i+(H-i)=H by omega,Nat.mod_self] at this;exact this
   have hle:len+fi≤B:=by apply Classical.byContradiction;intro h;exact hv (.inr ⟨by rw[e0,et],by omega⟩)
   have jq:H≤i+fi:=by
    apply Classical.byContradiction;intro h;by_cases e2:i=H-1-fi
    ·rw[←e2,et] at g;exact g rfl
    ·have:=hall (H-1-fi-i) (by omega) (by omega);rw[Nat.mod_eq_of_lt (by omega),show i+(H-1-fi-i)=H-1-fi by omega] at this;exact g (by rw[this,et])
   have:=hall (H-i+len) (by omega) (by omega);rw[show i+(H-i+len)=len+H by omega,Nat.add_mod_right,Nat.mod_eq_of_lt (by omega)] at this;rw[Nat.zero_add] at c;exact c (by rw[this,e0])
 |k+1,len,fi,hs,hl,hv,hw=>by
  unfold vP at hv;have aX:=Lu hs;refine Oz hB k _ _ aX hv.1 hv.2 fun i hi mg=>?_;by_cases e:i=k
  ·subst e;obtain⟨h1,h2,h3,h4⟩:=aX;have pS:=hv.1;generalize nxL len (f (i+1)) (f i)=mr at *
   rcases h4 with⟨a,b⟩|⟨a,b,c,d,g⟩
   ·omega
   ·exact⟨mr,h1,pS,c⟩
  ·exact hw i (by omega) mg
theorem IA {H B:Nat}{f:Nat→Bool}(ho:okW H B f):∀ k len fi,StB H f k len fi→vP B (f (H-1)) f k len fi (f k)
 |0,len,fi,hs=>by
  obtain⟨h1,h2,h3,h4⟩:=hs;unfold vP;rcases h4 with⟨a,b⟩|⟨a,b,c,d,g⟩
  ·exfalso;obtain⟨j,j1,j2,j3⟩:=ho 0 (by omega);have hm:=Nat.mod_lt (0+j) (show 0<H by omega);have:=h3 ((0+j) % H) (by omega);rw[Nat.zero_add] at this;exact j3 this
  ·rintro (h|⟨h,h5⟩)
   ·omega
   ·obtain⟨j,j1,j2,j3⟩:=ho (H-fi) (by omega);have ht:f (H-fi)=f (H-1):=by
     have:=d (fi-1) (by omega);rw[show H-1-(fi-1)=H-fi by omega] at this;exact this
    by_cases e:j<fi
    ·rw[Nat.mod_eq_of_lt (by omega),ht] at j3;have:=d (fi-1-j) (by omega);rw[show H-1-(fi-1-j)=H-fi+j by omega] at this;exact j3 this
    ·have e2:(H-fi+j) % H=j-fi:=by
      rw[show H-fi+j=(j-fi)+H by omega,Nat.add_mod_right,Nat.mod_eq_of_lt (by omega)]
     rw[e2,ht] at j3;have:=h3 (j-fi) (by omega);rw[Nat.zero_add] at this;exact j3 (by rw[this,h])
 |k+1,len,fi,hs=>by
  have aX:=Lu hs;unfold vP;refine⟨?_,IA ho k _ _ aX⟩;obtain⟨h1,h2,h3,-⟩:=aX;generalize nxL len (f (k+1)) (f k)=mr at *
  apply Classical.byContradiction;intro hn;obtain⟨j,j1,j2,j3⟩:=ho k (by omega);rw[Nat.mod_eq_of_lt (by omega)] at j3;exact j3 (h3 j (by omega))
theorem Q3w {H B:Nat}{f:Nat→Bool}(hH:1≤H) (hB:1≤B):vP B (f (H-1)) f (H-1) 1 0 (f (H-1))↔okW H B f:=by have hs:StB H f (H-1) 1 0:=⟨Nat.le_refl _,by omega,fun j hj=>by rw[show j=0 by omega];rfl,.inl ⟨rfl,by omega⟩⟩;exact⟨fun h=>Oz hB _ _ _ hs hB h fun i hi ju=>by omega,fun h=>IA h _ _ _ hs⟩
def I4 (row fx B H:Nat) (f:Nat→Bool):Int:=Qz row fx (H-1) (f (H-1))+NG row fx B (f (H-1)) f (H-1) 1 0 (f (H-1))
theorem Ow {row fx B H:Nat}{f:Nat→Bool}(hH:1≤H) (hB:1≤B):(okW H B f→I4 row fx B H f=cS row fx f H)∧(¬ okW H B f→1048576≤I4 row fx B H f):=by obtain⟨h1,h2⟩:=BU (row:=row) (fx:=fx) (B:=B) (top:=f (H-1)) (f:=f) (H-1) 1 0 (f (H-1));rw[Q3w hH hB] at h1 h2;have hc:=Jl row fx (H-1) (f (H-1));unfold I4;refine⟨fun h=>?_,fun h=>by have:=h2 h;omega⟩;rw[h1 h];obtain⟨m,rfl⟩:∃ m,H=m+1:=⟨H-1,by omega⟩;rfl
theorem Q1j {row fx B H:Nat}(f:Nat→Bool):XJ row fx B H≤I4 row fx B H f∨1048576≤I4 row fx B H f:=by
 have h1:=TE row fx B (f (H-1)) f (H-1) 1 0 (f (H-1));have hs:JV row fx B H (f (H-1))≤I4 row fx B H f:=by unfold JV I4;omega
 unfold XJ U6;rw[Xb];by_cases c:JV row fx B H true<min (JV row fx B H false) 1048576
 ·rw[decide_eq_true c,if_pos rfl];cases hf:f (H-1) with
  |true=>rw[hf] at hs;exact .inl hs
  |false=>rw[hf] at hs;left;omega
 ·rw[decide_eq_false c,if_neg (by decide)];cases hf:f (H-1) with
  |true=>rw[hf] at hs;omega
  |false=>rw[hf] at hs;left;omega
theorem Iu {row fx B H:Nat}(hH:1≤H) (h:XJ row fx B H<1048576):YY row fx B H<2 ^ H∧I4 row fx B H (YY row fx B H).testBit=XJ row fx B H:=by
 have bI:XJ row fx B H=JV row fx B H (U6 row fx B H):=by
  unfold XJ at h ⊢;cases ht:U6 row fx B H with
  |true=>rw[if_pos rfl]
  |false =>rw[ht,if_neg (by decide),Xb] at h;rw[if_neg (by decide),Xb];omega
 unfold YY;rw[if_pos h];rw[bI] at h ⊢;generalize U6 row fx B H=b at *
 have hl:=Rs row fx B b (H-1) 1 0 b;have hc:=Jl row fx (H-1) b;have hp:=TB (row:=row) (fx:=fx) (B:=B) (top:=b) (H-1) 1 0 b (by unfold JV at h;omega);obtain⟨t1,t2⟩:=AV (b:=b) hl;refine⟨?_,?_⟩
 ·obtain⟨m,rfl⟩:∃ m,H=m+1:=⟨H-1,by omega⟩;rw[Nat.add_sub_cancel] at hl ⊢;rw[Nat.pow_succ];split<;>omega
 ·unfold I4 JV;rw[t1,U7 (H-1) _ _ _ t2,hp]
theorem Ew {row fx:Nat}{f:Nat→Bool}:∀ k,(cS row fx f k<1048576→∀ j,j<k→fx.testBit j=true→f j=row.testBit j)∧((∀ j,j<k→fx.testBit j=true→f j=row.testBit j)→cS row fx f k≤k)
 |0=>⟨fun _ j hj=>by omega,fun _=>by simp[cS]⟩
 |k+1=>by
  obtain⟨h1,h2⟩:=Ew (row:=row) (fx:=fx) (f:=f) k;have hn:=Q42 row fx f k;have hc:=Jl row fx k (f k);refine⟨fun h j hj hx=>?_,fun h=>?_⟩
  ·unfold cS at h;by_cases e:j=k
   ·subst e;unfold Qz at h;by_cases c:row.testBit j=f j
    ·exact c.symm
    ·rw[if_neg c,if_pos hx] at h;omega
   ·exact h1 (by omega) j (by omega) hx
  ·have:=h2 fun j hj=>h j (by omega);unfold cS Qz;by_cases c:row.testBit k=f k
   ·rw[if_pos c];omega
   ·rw[if_neg c,if_neg (fun hx=>c (h k (by omega) hx).symm)];omega
theorem AY {row fx B H:Nat}(hH:1≤H∧H≤24) (hB:1≤B) (h:XJ row fx B H<1048576):YY row fx B H<2 ^ H∧okW H B (YY row fx B H).testBit∧(∀ j,j<H→fx.testBit j=true→(YY row fx B H).testBit j=row.testBit j)∧XJ row fx B H=cS row fx (YY row fx B H).testBit H:=by
 obtain⟨h1,h2⟩:=Iu hH.1 h;obtain⟨t1,t2⟩:=Ow (row:=row) (fx:=fx) (f:=(YY row fx B H).testBit) hH.1 hB;have ho:okW H B (YY row fx B H).testBit:=Classical.byContradiction fun hn=>by have:=t2 hn;omega
 have e:=t1 ho;refine⟨h1,ho,(Ew H).1 (by omega),by omega⟩
theorem bind_none {row fx B H:Nat}(hH:1≤H∧H≤24) (hB:1≤B) {f:Nat→Bool}(ho:okW H B f) (hf:∀ j,j<H→fx.testBit j=true→f j=row.testBit j):XJ row fx B H<1048576:=by have e:=(Ow (row:=row) (fx:=fx) (f:=f) hH.1 hB).1 ho;have hc:=(Ew (row:=row) (fx:=fx) (f:=f) H).2 hf;rcases Q1j (row:=row) (fx:=fx) (B:=B) (H:=H) f with h|h<;>omega
def VS (ln:Int) (lt b:Bool):Int:=if b=lt then ln+1 else 1
def DT (ln fi:Int) (lt b:Bool):Int:=if b=lt then fi else if fi=0 then ln else fi
theorem L8 (n:Nat) (lt b:Bool):VS (n:Int) lt b=((nxL n lt b:Nat):Int):=by unfold VS nxL;split<;>simp
theorem S_ (n m:Nat) (lt b:Bool):DT (n:Int) (m:Int) lt b=((nxF n m lt b:Nat):Int):=by
 unfold DT nxF;split
 ·rfl
 ·by_cases h:m=0
  ·rw[if_pos (by omega),if_pos h]
  ·rw[if_neg (by omega),if_neg h]
theorem F9 {n B:Nat}{lt b:Bool}(h:1≤n):1≤nxL n lt b∧nxL n lt b≤n+1:=by unfold nxL;split<;>omega
theorem E6 {n m B:Nat}{lt b:Bool}(h:n≤B) (h2:m≤B):nxF n m lt b≤B:=by unfold nxF;split;exact h2;split<;>omega
abbrev BKk:Kind:=.pair (.i .i64) (.pair (.i .i64) (.pair (.i .i64) .bo))
def BB (rw fx bd:Int) (tp:Bool) (m:List ((Int×Int×Int×Bool)×Int)):Prop:=∀ k:Int×Int×Int×Bool,gq.ahas BKk m k=true→gq.aget BKk m k 0=Qc rw.toNat fx.toNat bd.toNat tp k.1.toNat k.2.1.toNat k.2.2.1.toNat k.2.2.2
def Cm (hd:Int) (rows aw:List Int) (bd:Int) (k:Nat):Int:=XJ (rows.getD k 0).toNat (aw.getD k 0).toNat bd.toNat hd.toNat
def Q57 (hd:Int) (rows aw:List Int) (bd:Int) (k:Nat):Int:=((YY (rows.getD k 0).toNat (aw.getD k 0).toNat bd.toNat hd.toNat:Nat):Int)
def NL (hd:Int) (rows aw:List Int) (bd:Int):Bool:=(List.range rows.length).any fun k=>decide (1048576≤Cm hd rows aw bd k)
def Q8 (hd:Int) (rows aw:List Int) (bd:Int):Int:=if Qn hd rows≠0 then Qn hd rows else if aw.length≠rows.length then 4 else if (aw.any fun n=>!inI n 0 (2 ^ hd.toNat-1))=true then 2 else if inI bd 1 24=false then 3 else if NL hd rows aw bd=true then 9 else 0
def Nm (hd:Int) (rows aw:List Int) (bd:Int) (n:Nat):List Int:=(List.range n).map (Q57 hd rows aw bd)
def Na (hd:Int) (rows aw:List Int) (bd:Int):Nat→Int
 |0=>0
 |n+1=>Na hd rows aw bd n+Cm hd rows aw bd n
def Jb (hd:Int) (rows aw:List Int) (bd:Int):List Int:=if Q8 hd rows aw bd=0 then Nm hd rows aw bd rows.length else []
def Aa (hd:Int) (rows aw:List Int) (bd:Int):Int:=if Q8 hd rows aw bd=0 then Na hd rows aw bd rows.length else 0
theorem A3 (hd:Int) (rows aw:List Int) (bd:Int) (n:Nat):Nm hd rows aw bd (n+1)=Nm hd rows aw bd n++[Q57 hd rows aw bd n]:=by simp[Nm,List.range_succ]
theorem AN (hd:Int) (rows aw:List Int) (bd:Int) (n:Nat):(Nm hd rows aw bd n).length=n:=by simp[Nm]
theorem Q32 (a b:BKk.T):gq.keq BKk a b=true↔a=b:=by obtain⟨a1,a2,a3,a4⟩:=a;obtain⟨b1,b2,b3,b4⟩:=b;show ((a1==b1)&&((a2==b2)&&((a3==b3)&&(a4==b4))))=true↔_;simp only[Bool.and_eq_true,beq_iff_eq,Prod.mk.injEq]
theorem P7 (rw_ fx bd:Int) (tp:Bool):BB rw_ fx bd tp []:=fun k h=>by cases h
theorem FJ {rw_ fx bd:Int}{tp:Bool}{m:List ((Int×Int×Int×Bool)×Int)}{k:Int×Int×Int×Bool}{v:Int}(h:BB rw_ fx bd tp m) (hv:v=Qc rw_.toNat fx.toNat bd.toNat tp k.1.toNat k.2.1.toNat k.2.2.1.toNat k.2.2.2):BB rw_ fx bd tp (PS BKk m k v):=fun e he=>by
 obtain⟨h1,h2⟩:=Q03 Q32 k v e (0:Int) m;by_cases c:e=k
 ·rw[(h1 c).1,c];exact hv
 ·rw[(h2 c).2] at he;rw[(h2 c).1];exact h e he
theorem Q81 {hd:Int}{rows:List Int}(h:Qn hd rows=0):1≤hd∧hd≤24∧rows.length≤60∧rows.length≠0∧∀ x∈rows,0≤x∧x<2 ^ hd.toNat:=by
 unfold Qn at h;split at h
 ·cases h
 ·rename_i h1;split at h
  ·cases h
  ·rename_i h2;split at h
   ·cases h
   ·rename_i h3;split at h
    ·cases h
    ·rename_i h4;have h1:1≤hd∧hd≤24:=by simpa [inI] using h1
     refine⟨h1.1,h1.2,by omega,h3,fun x hx=>?_⟩;have h5:∀ x∈rows,inI x 0 (2 ^ hd.toNat-1)=true:=by simpa using h4
     have:=h5 x hx;simp only[inI,Bool.and_eq_true,decide_eq_true_eq] at this;omega
def Y8:AL (Int×Int×Int):=(.cons (.k (.i .i64)) (.cons (.ptr (.one (.k (.i .i64)))) (.one (.ptr (.one (.k (.i .i64)))))))
def Ut (d:Int×Int×Int):Prop:=True
def Wx (d:Int×Int×Int):SV:=.val .bo (decide (d.1<d.2.1)||decide (d.2.2<d.1))
def WC (d:Int×Int×Int):List OB:=[]
def Xx:CSp:=K8 Y8 Ut Wx WC
def JW (n:Int) (a:Int) (b:Int):Prop :=
 (((decide (n<a))||(decide (n > b)))=(decide (n<a)||decide (b<n))∧(True))
def Yd:Cx:=⟨[],[],13,[],0,[],[],[],[],false,[],[],[],[]⟩
def NB (n:Int) (a:Int) (b:Int):List (Nat×LoopAnn):=[]
theorem NF (d:Int×Int×Int):gwp (Yd) (NB d.1 d.2.1 d.2.2) c75 0 (Vt [.tmp 4] (Wx d) (WC d)) (QL 13 (AL.can Y8 d))=JW d.1 d.2.1 d.2.2:=by kernel_rfl
abbrev Nt:Prop:=OkC Tryz.prog 75 Xx
theorem Np (h:∀ (n:Int) (a:Int) (b:Int),(True)→JW n a b):OkC Tryz.prog 75 Xx :=
 Z3 Q1g mixed (C:=Yd) (V:=fun (d:Int×Int×Int)=>JW d.1 d.2.1 d.2.2) ⟨.nil,XsOk.nil,ItsOk.nil,YlOk.nil,IysOk.nil,XfOk.nil⟩ (NF) fun d hp=>h d.1 d.2.1 d.2.2 hp
theorem Nj:Nt:=Np fun n a b _=>by exact⟨rfl,trivial⟩
def KZ:AL (Int×Int×List Int):=(.cons (.k (.i .i64)) (.cons (.k (.i .i64)) (.one (.k (.list (.i .i64))))))
def Ms (d:Int×Int×List Int):Prop:=d.2.2.length≤1000000
def YR (d:Int×Int×List Int):SV:=.val .bo (!(d.2.2.any fun n=>decide (n<d.1)||decide (d.2.1<n)))
def YW (d:Int×Int×List Int):List OB:=[]
def Xa:CSp:=K8 KZ Ms YR YW
def W3 (a:Int) (b:Int) (l:List Int):Prop :=
 (l.length≤1000000∧∀ x∈l,(fun (x1:Int)=>True) x)∧((!(l.any (fun (x1:Int)=>(decide (x1<a)||decide (b<x1)))))=(!(l.any fun n=>decide (n<a)||decide (b<n)))∧(True))
def K3:Cx:=⟨[],[(63,Qv),(75,Xx)],11,[],0,[],[],[],[],false,[],[],[],[]⟩
def GO (a:Int) (b:Int) (l:List Int):List (Nat×LoopAnn):=[]
theorem MV (d:Int×Int×List Int):gwp (K3) (GO d.1 d.2.1 d.2.2) c52 0 (Vt [.tmp 6] (YR d) (YW d)) (QL 11 (AL.can KZ d))=W3 d.1 d.2.1 d.2.2:=by kernel_rfl
abbrev GW:Prop:=OkC Tryz.prog 52 Xa
theorem G1 (h:∀ (a:Int) (b:Int) (l:List Int),(l.length≤1000000)→W3 a b l):OkC Tryz.prog 52 Xa :=
 Z3 Q0q mixed (C:=K3) (V:=fun (d:Int×Int×List Int)=>W3 d.1 d.2.1 d.2.2) ⟨(.cons Zt (.cons Nj .nil)),XsOk.nil,ItsOk.nil,YlOk.nil,IysOk.nil,XfOk.nil⟩ (MV) fun d hp=>h d.1 d.2.1 d.2.2 hp
theorem Ky:GW:=G1 fun a b l h=>by exact⟨⟨h,fun _ _=>trivial⟩,rfl,trivial⟩
def VP:AL (Int×List Int):=(.one (.agg (.cons (.k (.i .i64)) (.one (.k (.list (.i .i64)))))))
def G3 (d:Int×List Int):Prop:=d.2.length≤1000000
def Kt (d:Int×List Int):SV:=.val (.i .i64) (Qn d.1 d.2)
def KY (d:Int×List Int):List OB:=[]
def YD:CSp:=K8 VP G3 Kt KY
def Xh (hd:Int) (rows:List Int):Prop :=
 ([hd].length≤1000000)∧((!(!([hd].any fun n=>decide (n<(1:Int))||decide ((24:Int)<n))))=true →
  ((2:Int)=(Qn hd rows)∧(True))) ∧
 ((!(!([hd].any fun n=>decide (n<(1:Int))||decide ((24:Int)<n))))=false →
  ((decide ((lI rows) > (60:Int)))=true →
   ((5:Int)=(Qn hd rows)∧(True))) ∧
  ((decide ((lI rows) > (60:Int)))=false →
   (((lI rows)==(0:Int))=true →
    ((7:Int)=(Qn hd rows)∧(True))) ∧
   (((lI rows)==(0:Int))=false →
    (0≤hd)∧(I64 (WO .i64 (1:Int) hd))∧(I64 ((WO .i64 (1:Int) hd)-(1:Int)))∧(rows.length≤1000000)∧((!(!(rows.any fun n=>decide (n<(0:Int))||decide (((WO .i64 (1:Int) hd)-(1:Int))<n))))=true →
     ((2:Int)=(Qn hd rows)∧(True))) ∧
    ((!(!(rows.any fun n=>decide (n<(0:Int))||decide (((WO .i64 (1:Int) hd)-(1:Int))<n))))=false →
     ((0:Int)=(Qn hd rows)∧(True))))))
def VM:Cx:=⟨[(3,(.i .i64))],[(52,Xa)],28,[],0,[],[],[],[],false,[],[],[],[]⟩
def Ba (hd:Int) (rows:List Int):List (Nat×LoopAnn):=[]
theorem BD (d:Int×List Int):gwp (VM) (Ba d.1 d.2) c47 0 (Vt [.tmp 2] (Kt d) (KY d)) (QL 28 (AL.can VP d))=Xh d.1 d.2:=by kernel_rfl
abbrev Bi:Prop:=OkC Tryz.prog 47 YD
theorem BE (h:∀ (hd:Int) (rows:List Int),(rows.length≤1000000)→Xh hd rows):OkC Tryz.prog 47 YD :=
 Z3 Q10 mixed (C:=VM) (V:=fun (d:Int×List Int)=>Xh d.1 d.2) ⟨(.cons Ky .nil),XsOk.nil,ItsOk.nil,YlOk.nil,IysOk.nil,XfOk.nil⟩ (BD) fun d hp=>h d.1 d.2 hp
theorem GQ {h:Int}(h1:0≤h) (h2:h≤62):WO .i64 1 h=2 ^ h.toNat:=by obtain⟨n,rfl⟩:=Int.eq_ofNat_of_zero_le h1;have:Nat.min n 64=n:=Nat.min_eq_left (by omega);simp only[WO,Int.toNat_natCast,IntKind.bits,this,Int.one_mul]
theorem KE {h:Int}(h1:1≤h) (h2:h≤24):(2:Int)≤2 ^ h.toNat∧(2:Int) ^ h.toNat≤16777216:=by
 obtain⟨n,rfl⟩:=Int.eq_ofNat_of_zero_le (show 0≤h by omega);have a1:2 ^ 1≤2 ^ n:=Nat.pow_le_pow_right (by omega) (by omega);have a2:2 ^ n≤2 ^ 24:=Nat.pow_le_pow_right (by omega) (by omega);simp only[Int.toNat_natCast];have e:((2:Int) ^ n)=((2 ^ n:Nat):Int):=by norm_cast
 rw[e];omega
theorem Bx:Bi:=BE fun hd rows hl=>by
 unfold Xh;(try delta lI gD sT I64 Q1 pj8 pj4);simp only[true_and,and_true,eq_self_iff_true,exists_eq_left',exists_const,decide_eq_true_eq,decide_eq_false_iff_not,beq_iff_eq,bne_iff_ne,ne_eq,beq_eq_false_iff_ne,bne_eq_false_iff_eq,Bool.not_eq_true',Bool.not_eq_false',Bool.not_eq_true,Bool.not_eq_false,Int.toNat_natCast,Int.ofNat_lt,gt_iff_lt,ge_iff_le,Bool.not_not];simp only[←nI];refine⟨by simp,fun h1=>by simp at h1;simp[Qn,h1],fun h1=>⟨fun h2=>?_,fun h2=>⟨fun h3=>?_,fun h3=>?_⟩⟩⟩;all_goals simp only[List.any_cons,List.any_nil,Bool.or_false,Bool.not_eq_false'] at h1
 ·have:60<rows.length:=by omega
  simp[Qn,h1,this]
 ·have h3:rows.length=0:=by omega
  simp[Qn,h1,h3]
 have gO:¬ 60<rows.length:=by omega
 have gU:¬ rows.length=0:=by omega
 have hi:1≤hd∧hd≤24:=by simpa [inI] using h1
 have hp:=KE hi.1 hi.2;have nj:Qn hd rows=if rows.any (fun x=>!inI x 0 (2 ^ hd.toNat-1)) then 2 else 0:=by simp only[Qn,h1,gO,gU];simp
 rw[nj];simp only[Q7,GQ (show 0≤hd by omega) (by omega)];refine⟨by omega,by omega,by omega,by omega,fun h=>by rw[if_pos h],fun h=>by rw[h];rfl⟩
theorem SN {x h:Int}(hx:0≤x∧x<16777216) (h0:0≤h∧h≤24):((W_ .and .i64 (Fk .i64 x h) 1)==1)=x.toNat.testBit h.toNat:=by
 obtain⟨n,rfl⟩:=Int.eq_ofNat_of_zero_le hx.1;obtain⟨i,rfl⟩:=Int.eq_ofNat_of_zero_le h0.1;have:Nat.min i 64=i:=Nat.min_eq_left (by omega);have e1:Fk .i64 (n:Int) i=((n >>> i:Nat):Int):=by simp only[Fk,Int.toNat_natCast,IntKind.bits,this];rw[Nat.shiftRight_eq_div_pow,Int.fdiv_eq_ediv_of_nonneg _ (Int.le_of_lt (Int.pow_pos (by omega)))];norm_cast
 have h1:n >>> i≤n:=by rw[Nat.shiftRight_eq_div_pow];exact Nat.div_le_self _ _
 have e2:W_ .and .i64 ((n >>> i:Nat):Int) 1=(((n >>> i) &&& 1:Nat):Int):=by
  generalize n >>> i=y at *
  have e:(BitVec.ofInt 64 ((y:Nat):Int) &&& BitVec.ofInt 64 ((1:Nat):Int)).toNat=y &&& 1:=by
   rw[BitVec.toNat_and,BitVec.toNat_ofInt,BitVec.toNat_ofInt];congr 1
   ·omega
  have hle:y &&& 1≤1:=Nat.and_le_right;show IntKind.wrap .i64 ((BitVec.ofInt 64 ((y:Nat):Int) &&& BitVec.ofInt 64 ((1:Nat):Int)).toNat:Int)=_;rw[e];generalize y &&& 1=c at *
  simp[IntKind.wrap,IntKind.bits,IntKind.signed];omega
 rw[e1,e2,Int.toNat_natCast,Int.toNat_natCast,Nat.testBit];rw[Bool.eq_iff_iff];simp only[beq_iff_eq,bne_iff_ne,ne_eq];rw[Nat.and_comm,Nat.one_and_eq_mod_two];omega
def XB:AL ((Int×Int×Unit×Unit×Unit×Unit)×Int×Bool):=(.cons (.ptr (.cons (.k (.i .i64)) (.cons (.k (.i .i64)) (.cons .any (.cons .any (.cons .any (.one .any))))))) (.cons (.k (.i .i64)) (.one (.k .bo))))
def Ks (d:(Int×Int×Unit×Unit×Unit×Unit)×Int×Bool):Prop:=(0≤d.1.1∧d.1.1<16777216)∧(0≤d.1.2.1∧d.1.2.1<16777216)∧0≤d.2.1∧d.2.1≤24
def Xo (d:(Int×Int×Unit×Unit×Unit×Unit)×Int×Bool):SV:=.val (.i .i64) (Qz d.1.1.toNat d.1.2.1.toNat d.2.1.toNat d.2.2)
def Xu (d:(Int×Int×Unit×Unit×Unit×Unit)×Int×Bool):List OB:=[]
def ZF:CSp:=K8 XB Ks Xo Xu
def Zc (rw:Int) (fx:Int) (h:Int) (lt:Bool):Prop :=
 (0≤h)∧((((W_ .and .i64 (Fk .i64 rw h) (1:Int))==(1:Int))==lt)=true →
  ((0:Int)=(Qz rw.toNat fx.toNat h.toNat lt)∧(True))) ∧
 ((((W_ .and .i64 (Fk .i64 rw h) (1:Int))==(1:Int))==lt)=false →
  (0≤h)∧(((W_ .and .i64 (Fk .i64 fx h) (1:Int))==(1:Int))=true →
   ((1048576:Int)=(Qz rw.toNat fx.toNat h.toNat lt)∧(True))) ∧
  (((W_ .and .i64 (Fk .i64 fx h) (1:Int))==(1:Int))=false →
   ((1:Int)=(Qz rw.toNat fx.toNat h.toNat lt)∧(True))))
def XI:Cx:=⟨[],[],29,[],0,[],[],[],[],false,[],[],[],[]⟩
def Vh (rw:Int) (fx:Int) (h:Int) (lt:Bool):List (Nat×LoopAnn):=[]
theorem Vo (d:(Int×Int×Unit×Unit×Unit×Unit)×Int×Bool):gwp (XI) (Vh d.1.1 d.1.2.1 d.2.1 d.2.2) c77 0 (Vt [.tmp 6] (Xo d) (Xu d)) (QL 29 (AL.can XB d))=Zc d.1.1 d.1.2.1 d.2.1 d.2.2:=by kernel_rfl
abbrev Vk:Prop:=OkC Tryz.prog 77 ZF
theorem Vu (h:∀ (rw:Int) (fx:Int) (h:Int) (lt:Bool),((0≤rw∧rw<16777216)∧(0≤fx∧fx<16777216)∧0≤h∧h≤24)→Zc rw fx h lt):OkC Tryz.prog 77 ZF :=
 Z3 OQ mixed (C:=XI) (V:=fun (d:(Int×Int×Unit×Unit×Unit×Unit)×Int×Bool)=>Zc d.1.1 d.1.2.1 d.2.1 d.2.2) ⟨.nil,XsOk.nil,ItsOk.nil,YlOk.nil,IysOk.nil,XfOk.nil⟩ (Vo) fun d hp=>h d.1.1 d.1.2.1 d.2.1 d.2.2 hp
theorem XE:Vk:=Vu fun rw_ fx h lt hp=>by
 obtain⟨h1,h2,h3,h4⟩:=hp;unfold Zc;(try delta lI gD sT I64 Q1 pj8 pj4);rw[SN h1 ⟨h3,h4⟩,SN h2 ⟨h3,h4⟩];unfold Qz;refine⟨by omega,fun c=>?_,fun c=>⟨by omega,fun c2=>?_,fun c2=>?_⟩⟩
 ·have c:=eq_of_beq c;rw[if_pos c];exact(by and_intros<;>first|rfl|trivial|simp)
 ·rw[if_neg (by simpa using c),if_pos c2];exact(by and_intros<;>first|rfl|trivial|simp)
 ·rw[if_neg (by simpa using c),if_neg (by rw[c2];decide)];exact(by and_intros<;>first|rfl|trivial|simp)
def XA:AL ((Unit×Unit×Unit×Int×Unit×Unit)×(Int×Int×Int×Bool)×Bool):=(.cons (.ptr (.cons .any (.cons .any (.cons .any (.cons (.k (.i .i64)) (.cons .any (.one .any))))))) (.cons (.agg (.cons (.k (.i .i64)) (.cons (.k (.i .i64)) (.cons (.k (.i .i64)) (.one (.k .bo)))))) (.one (.k .bo))))
def K_ (d:(Unit×Unit×Unit×Int×Unit×Unit)×(Int×Int×Int×Bool)×Bool):Prop:=(0≤d.2.1.1∧d.2.1.1≤24)∧(1≤d.2.1.2.1∧d.2.1.2.1≤24)∧(0≤d.2.1.2.2.1∧d.2.1.2.2.1≤24)
def Xv (d:(Unit×Unit×Unit×Int×Unit×Unit)×(Int×Int×Int×Bool)×Bool):SV:=.tup [.agg [.val (.i .i64) (d.2.1.1-1),.val (.i .i64) (VS d.2.1.2.1 d.2.1.2.2.2 d.2.2),.val (.i .i64) (DT d.2.1.2.1 d.2.1.2.2.1 d.2.1.2.2.2 d.2.2),.val .bo d.2.2],.val .bo (decide (VS d.2.1.2.1 d.2.1.2.2.2 d.2.2≤d.1.2.2.2.1))]
def Xn (d:(Unit×Unit×Unit×Int×Unit×Unit)×(Int×Int×Int×Bool)×Bool):List OB:=[]
def ZB:CSp:=K8 XA K_ Xv Xn
def Zb (bd:Int) (lf:Int) (ln:Int) (fi:Int) (lt:Bool) (b:Bool):Prop :=
 (I64 (lf-(1:Int)))∧((b==lt)=true →
  (I64 (ln+(1:Int)))∧((((lf-(1:Int))=(lf-1)∧(ln+(1:Int))=(VS ln lt b)∧fi=(DT ln fi lt b)∧b=b∧(([]:List SV)=[]))∧(decide ((ln+(1:Int))≤bd))=(decide (VS ln lt b≤bd))∧(([]:List SV)=[]))∧(True))) ∧
 ((b==lt)=false →
  ((fi==(0:Int))=true →
   ((((lf-(1:Int))=(lf-1)∧(1:Int)=(VS ln lt b)∧ln=(DT ln fi lt b)∧b=b∧(([]:List SV)=[]))∧(decide ((1:Int)≤bd))=(decide (VS ln lt b≤bd))∧(([]:List SV)=[]))∧(True))) ∧
  ((fi==(0:Int))=false →
   ((((lf-(1:Int))=(lf-1)∧(1:Int)=(VS ln lt b)∧fi=(DT ln fi lt b)∧b=b∧(([]:List SV)=[]))∧(decide ((1:Int)≤bd))=(decide (VS ln lt b≤bd))∧(([]:List SV)=[]))∧(True))))
def XG:Cx:=⟨[],[],40,[],0,[],[],[],[],false,[],[],[],[]⟩
def Vs (bd:Int) (lf:Int) (ln:Int) (fi:Int) (lt:Bool) (b:Bool):List (Nat×LoopAnn):=[]
theorem Vp (d:(Unit×Unit×Unit×Int×Unit×Unit)×(Int×Int×Int×Bool)×Bool):gwp (XG) (Vs d.1.2.2.2.1 d.2.1.1 d.2.1.2.1 d.2.1.2.2.1 d.2.1.2.2.2 d.2.2) c80 0 (Vt [.cell 6 true 4,.tmp 7] (Xv d) (Xn d)) (QL 40 (AL.can XA d))=Zb d.1.2.2.2.1 d.2.1.1 d.2.1.2.1 d.2.1.2.2.1 d.2.1.2.2.2 d.2.2:=by kernel_rfl
abbrev Vl:Prop:=OkC Tryz.prog 80 ZB
theorem Vj (h:∀ (bd:Int) (lf:Int) (ln:Int) (fi:Int) (lt:Bool) (b:Bool),((0≤lf∧lf≤24)∧(1≤ln∧ln≤24)∧(0≤fi∧fi≤24))→Zb bd lf ln fi lt b):OkC Tryz.prog 80 ZB :=
 Z3 Q15 mixed (C:=XG) (V:=fun (d:(Unit×Unit×Unit×Int×Unit×Unit)×(Int×Int×Int×Bool)×Bool)=>Zb d.1.2.2.2.1 d.2.1.1 d.2.1.2.1 d.2.1.2.2.1 d.2.1.2.2.2 d.2.2) ⟨.nil,XsOk.nil,ItsOk.nil,YlOk.nil,IysOk.nil,XfOk.nil⟩ (Vp) fun d hp=>h d.1.2.2.2.1 d.2.1.1 d.2.1.2.1 d.2.1.2.2.1 d.2.1.2.2.2 d.2.2 hp
theorem XD:Vl:=Vj fun bd lf ln fi lt b hp=>by
 obtain⟨h1,h2,h3⟩:=hp;unfold Zb;(try delta lI gD sT I64 Q1 pj8 pj4);unfold VS DT;refine⟨by rw[Q7];omega,fun c=>?_,fun c=>⟨fun c2=>?_,fun c2=>?_⟩⟩
 ·have c:=eq_of_beq c;refine⟨by rw[Q7];omega,?_⟩;rw[if_pos c,if_pos c];exact(by and_intros<;>first|rfl|trivial|simp)
 ·have c:¬ b=lt:=by simpa using c
  have c2:=eq_of_beq c2;rw[if_neg c,if_neg c,if_pos c2];exact(by and_intros<;>first|rfl|trivial|simp)
 ·have c:¬ b=lt:=by simpa using c
  have c2:¬ fi=0:=by simpa using c2
  rw[if_neg c,if_neg c,if_neg c2];exact(by and_intros<;>first|rfl|trivial|simp)
def M7:AL (Bool):=(.one (.k .bo))
def HN (d:Bool):Prop:=True
def US (d:Bool):SV:=.val (.i .i64) (if d=true then 1 else 0)
def Nb (d:Bool):List OB:=[]
def Ug:CSp:=K8 M7 HN US Nb
def Ws (b:Bool):Prop :=
 (b=true →
  ((1:Int)=(if b=true then 1 else 0)∧(True))) ∧
 (b=false →
  ((0:Int)=(if b=true then 1 else 0)∧(True)))
def NV:Cx:=⟨[],[],4,[],0,[],[],[],[],false,[],[],[],[]⟩
def To (b:Bool):List (Nat×LoopAnn):=[]
theorem Tm (d:Bool):gwp (NV) (To d) c79 0 (Vt [.tmp 2] (US d) (Nb d)) (QL 4 (AL.can M7 d))=Ws d:=by kernel_rfl
abbrev Tp:Prop:=OkC Tryz.prog 79 Ug
theorem R2 (h:∀ (b:Bool),(True)→Ws b):OkC Tryz.prog 79 Ug :=
 Z3 Q1k mixed (C:=NV) (V:=fun (d:Bool)=>Ws d) ⟨.nil,XsOk.nil,ItsOk.nil,YlOk.nil,IysOk.nil,XfOk.nil⟩ (Tm) fun d hp=>h d hp
theorem Tb:Tp:=R2 fun b _=>by unfold Ws;cases b<;>simp
def ZN:AL (Int×Int×Int×Int×Bool):=(.cons (.k (.i .i64)) (.cons (.k (.i .i64)) (.cons (.k (.i .i64)) (.cons (.k (.i .i64)) (.one (.k .bo))))))
def ZJ:AL (Int×Int×Int×Bool):=(.one (.agg (.cons (.k (.i .i64)) (.cons (.k (.i .i64)) (.cons (.k (.i .i64)) (.one (.k .bo)))))))
def JT (m:List ((Int×Int×Int×Bool)×Int)) (c:Int×Int×Int×Int×Bool) (a:Int×Int×Int×Bool):Prop:=(0≤c.1∧c.1<16777216)∧(0≤c.2.1∧c.2.1<16777216)∧(1≤c.2.2.2.1∧c.2.2.2.1≤24)∧(0≤a.1∧a.1≤23)∧(1≤a.2.1∧a.2.1≤24)∧(0≤a.2.2.1∧a.2.2.1≤24)∧BB c.1 c.2.1 c.2.2.2.1 c.2.2.2.2 m
def ZM (m:List ((Int×Int×Int×Bool)×Int)) (c:Int×Int×Int×Int×Bool) (a:Int×Int×Int×Bool):SV:=.val (.i .i64) (Qc c.1.toNat c.2.1.toNat c.2.2.2.1.toNat c.2.2.2.2 a.1.toNat a.2.1.toNat a.2.2.1.toNat a.2.2.2)
def Zy (m:List ((Int×Int×Int×Bool)×Int)) (c:Int×Int×Int×Int×Bool) (a:Int×Int×Int×Bool) (m2:List ((Int×Int×Int×Bool)×Int)):Prop:=BB c.1 c.2.1 c.2.2.2.1 c.2.2.2.2 m2
def Xw (c:Int×Int×Int×Int×Bool) (a:Int×Int×Int×Bool):Nat:=a.1.toNat
def Ja:XSp:=KH DL 5 (.pair (.i .i64) (.pair (.i .i64) (.pair (.i .i64) .bo))) (.i .i64) (C6 ZN ZJ JT ZM Zy)
def Z4 (a_:Nat) (m:List ((Int×Int×Int×Bool)×Int)) (rw:Int) (fx:Int) (hk:Int) (bd:Int) (tp:Bool) (lf:Int) (ln:Int) (fi:Int) (lt:Bool):Prop:=∀ vals:List Value,
 ((lf==(0:Int))=true →
  ((fi==(0:Int))=false→(lt==tp)=true→InK .i64 (ln+fi))∧(((fi==(0:Int))||((lt==tp)&&(decide ((ln+fi) > bd))))=true →
   (vals=vals∧(True∧(([]:List SV)=[]))∧(1048576:Int)=(Qc rw.toNat fx.toNat bd.toNat tp lf.toNat ln.toNat fi.toNat lt)∧(BB rw fx bd tp m))) ∧
  (((fi==(0:Int))||((lt==tp)&&(decide ((ln+fi) > bd))))=false →
   (vals=vals∧(True∧(([]:List SV)=[]))∧(0:Int)=(Qc rw.toNat fx.toNat bd.toNat tp lf.toNat ln.toNat fi.toNat lt)∧(BB rw fx bd tp m)))) ∧
 ((lf==(0:Int))=false →
  ((gq.ahas (.pair (.i .i64) (.pair (.i .i64) (.pair (.i .i64) .bo))) m (lf,(ln,(fi,lt))))=true →
   (vals=vals∧(True∧(([]:List SV)=[]))∧(gq.aget (.pair (.i .i64) (.pair (.i .i64) (.pair (.i .i64) .bo))) m (lf,(ln,(fi,lt))) 0)=(Qc rw.toNat fx.toNat bd.toNat tp lf.toNat ln.toNat fi.toNat lt)∧(BB rw fx bd tp m))) ∧
  ((gq.ahas (.pair (.i .i64) (.pair (.i .i64) (.pair (.i .i64) .bo))) m (lf,(ln,(fi,lt))))=false →
   ∃ (e3:Unit) (d30:(List ((Int×Int×Int×Bool)×Int))×Int×Int),(((rw=rw∧fx=fx∧hk=hk∧bd=bd∧tp=tp∧True∧(([]:List SV)=[]))∧True∧(1048576:Int)=d30.2.1∧(false=false∧true=true∧(([]:List SV)=[]))∧(0:Int)=d30.2.2∧True)∧((m=d30.1)∧(lf=lf∧ln=ln∧fi=fi∧lt=lt∧(([]:List SV)=[]))∧(vals=vals∧(True∧(([]:List SV)=[])))∧True)) ∧
   LoopP (fun (d3:(List ((Int×Int×Int×Bool)×Int))×Int×Int) (q3:((List ((Int×Int×Int×Bool)×Int))×Int×Int)→Prop) =>
    ((decide (d3.2.2<(2:Int)))=true →
     (0≤d3.2.2)∧(d3.2.2<(2:Int)) ∧
     (d3.2.2=(0:Int) →
      ((0≤lf∧lf≤24)∧(1≤ln∧ln≤24)∧(0≤fi∧fi≤24))∧((decide (VS ln lt false≤bd))=true →
       ((0≤rw∧rw<16777216)∧(0≤fx∧fx<16777216)∧0≤(lf-1)∧(lf-1)≤24)∧(((0≤rw∧rw<16777216)∧(0≤fx∧fx<16777216)∧(1≤bd∧bd≤24)∧(0≤(lf-1)∧(lf-1)≤23)∧(1≤(VS ln lt false)∧(VS ln lt false)≤24)∧(0≤(DT ln fi lt false)∧(DT ln fi lt false)≤24)∧BB rw fx bd tp d3.1)∧((lf-1).toNat)<a_)∧(∀ m4:List ((Int×Int×Int×Bool)×Int),(BB rw fx bd tp m4)→(I64 ((Qz rw.toNat fx.toNat (lf-1).toNat false)+(Qc rw.toNat fx.toNat bd.toNat tp (lf-1).toNat (VS ln lt false).toNat (DT ln fi lt false).toNat false)))∧(I64 (d3.2.2+(1:Int)))∧(∃ d5:(List ((Int×Int×Int×Bool)×Int))×Int×Int,(((rw=rw∧fx=fx∧hk=hk∧bd=bd∧tp=tp∧True∧(([]:List SV)=[]))∧True∧(Cb d3.2.1 ((Qz rw.toNat fx.toNat (lf-1).toNat false)+(Qc rw.toNat fx.toNat bd.toNat tp (lf-1).toNat (VS ln lt false).toNat (DT ln fi lt false).toNat false)))=d5.2.1∧(false=false∧true=true∧(([]:List SV)=[]))∧(d3.2.2+(1:Int))=d5.2.2∧True)∧((m4=d5.1)∧(lf=lf∧ln=ln∧fi=fi∧lt=lt∧(([]:List SV)=[]))∧(vals=vals∧(True∧(([]:List SV)=[])))∧True))∧q3 d5))) ∧
      ((decide (VS ln lt false≤bd))=false →
       (I64 (d3.2.2+(1:Int)))∧(∃ d6:(List ((Int×Int×Int×Bool)×Int))×Int×Int,(((rw=rw∧fx=fx∧hk=hk∧bd=bd∧tp=tp∧True∧(([]:List SV)=[]))∧True∧d3.2.1=d6.2.1∧(false=false∧true=true∧(([]:List SV)=[]))∧(d3.2.2+(1:Int))=d6.2.2∧True)∧((d3.1=d6.1)∧(lf=lf∧ln=ln∧fi=fi∧lt=lt∧(([]:List SV)=[]))∧(vals=vals∧(True∧(([]:List SV)=[])))∧True))∧q3 d6))) ∧
     (d3.2.2=(1:Int) →
      ((0≤lf∧lf≤24)∧(1≤ln∧ln≤24)∧(0≤fi∧fi≤24))∧((decide (VS ln lt true≤bd))=true →
       ((0≤rw∧rw<16777216)∧(0≤fx∧fx<16777216)∧0≤(lf-1)∧(lf-1)≤24)∧(((0≤rw∧rw<16777216)∧(0≤fx∧fx<16777216)∧(1≤bd∧bd≤24)∧(0≤(lf-1)∧(lf-1)≤23)∧(1≤(VS ln lt true)∧(VS ln lt true)≤24)∧(0≤(DT ln fi lt true)∧(DT ln fi lt true)≤24)∧BB rw fx bd tp d3.1)∧((lf-1).toNat)<a_)∧(∀ m7:List ((Int×Int×Int×Bool)×Int),(BB rw fx bd tp m7)→(I64 ((Qz rw.toNat fx.toNat (lf-1).toNat true)+(Qc rw.toNat fx.toNat bd.toNat tp (lf-1).toNat (VS ln lt true).toNat (DT ln fi lt true).toNat true)))∧(I64 (d3.2.2+(1:Int)))∧(∃ d8:(List ((Int×Int×Int×Bool)×Int))×Int×Int,(((rw=rw∧fx=fx∧hk=hk∧bd=bd∧tp=tp∧True∧(([]:List SV)=[]))∧True∧(Cb d3.2.1 ((Qz rw.toNat fx.toNat (lf-1).toNat true)+(Qc rw.toNat fx.toNat bd.toNat tp (lf-1).toNat (VS ln lt true).toNat (DT ln fi lt true).toNat true)))=d8.2.1∧(false=false∧true=true∧(([]:List SV)=[]))∧(d3.2.2+(1:Int))=d8.2.2∧True)∧((m7=d8.1)∧(lf=lf∧ln=ln∧fi=fi∧lt=lt∧(([]:List SV)=[]))∧(vals=vals∧(True∧(([]:List SV)=[])))∧True))∧q3 d8))) ∧
      ((decide (VS ln lt true≤bd))=false →
       (I64 (d3.2.2+(1:Int)))∧(∃ d9:(List ((Int×Int×Int×Bool)×Int))×Int×Int,(((rw=rw∧fx=fx∧hk=hk∧bd=bd∧tp=tp∧True∧(([]:List SV)=[]))∧True∧d3.2.1=d9.2.1∧(false=false∧true=true∧(([]:List SV)=[]))∧(d3.2.2+(1:Int))=d9.2.2∧True)∧((d3.1=d9.1)∧(lf=lf∧ln=ln∧fi=fi∧lt=lt∧(([]:List SV)=[]))∧(vals=vals∧(True∧(([]:List SV)=[])))∧True))∧q3 d9))) ∧
     True) ∧
    ((decide (d3.2.2<(2:Int)))=false →
     (vals=vals∧(True∧(([]:List SV)=[]))∧d3.2.1=(Qc rw.toNat fx.toNat bd.toNat tp lf.toNat ln.toNat fi.toNat lt)∧(BB rw fx bd tp (PS (.pair (.i .i64) (.pair (.i .i64) (.pair (.i .i64) .bo))) d3.1 (lf,(ln,(fi,lt))) d3.2.1))))) d30))
def cx_point_binder_least:Cx:=⟨[],[(80,ZB),(77,ZF)],81,[],0,[],[],[],[],false,[],[],[],[]⟩
def Xr (m:List ((Int×Int×Int×Bool)×Int)) (rw:Int) (fx:Int) (hk:Int) (bd:Int) (tp:Bool) (lf:Int) (ln:Int) (fi:Int) (lt:Bool) (vals:List Value):List (Nat×LoopAnn):=[(0,⟨Unit,(List ((Int×Int×Int×Bool)×Int))×Int×Int,[0,3,7,50,51],fun e x=>[.cp [.val (.i .i64) rw,.val (.i .i64) fx,.val (.i .i64) hk,.val (.i .i64) bd,.val .bo tp,.map 0] 0,.box 3 0,.val (.i .i64) x.2.1,.agg [.val .bo false,.val .bo true],.val (.i .i64) x.2.2],fun e x=>[(0,.key 0,.map (.pair (.i .i64) (.pair (.i .i64) (.pair (.i .i64) .bo))) (.i .i64) x.1),(3,.slot 3,.cells [.val (.i .i64) lf,.val (.i .i64) ln,.val (.i .i64) fi,.val .bo lt] (some 155)),(4000000,.key 4000000,.stk [.map 0] vals)]⟩)]
theorem KG (a_:Nat) (m:List ((Int×Int×Int×Bool)×Int)) (c:Int×Int×Int×Int×Bool) (a:Int×Int×Int×Bool):(∀ vals,gwp {cx_point_binder_least with xs:=(78,KH DL 5 (.pair (.i .i64) (.pair (.i .i64) (.pair (.i .i64) .bo))) (.i .i64) (C6 ZN ZJ (fun m c a=>JT m c a∧Xw c a<a_) ZM Zy))::cx_point_binder_least.xs} (Xr m c.1 c.2.1 c.2.2.1 c.2.2.2.1 c.2.2.2.2 a.1 a.2.1 a.2.2.1 a.2.2.2 vals) c78 0 (CT vals [.tmp 4] (ZM m c a) (.pair (.i .i64) (.pair (.i .i64) (.pair (.i .i64) .bo))) (.i .i64) (Zy m c a)) (mstart 81 5 (.pair (.i .i64) (.pair (.i .i64) (.pair (.i .i64) .bo))) (.i .i64) m vals (AL.can ZN c) (AL.can ZJ a)))=Z4 a_ m c.1 c.2.1 c.2.2.1 c.2.2.2.1 c.2.2.2.2 a.1 a.2.1 a.2.2.1 a.2.2.2:=by kernel_rfl
abbrev Ka:Prop:=Fs Tryz.prog 78 Ja 5
theorem KD (h:∀ (a_:Nat) (m:List ((Int×Int×Int×Bool)×Int)) (rw:Int) (fx:Int) (hk:Int) (bd:Int) (tp:Bool) (lf:Int) (ln:Int) (fi:Int) (lt:Bool),((0≤rw∧rw<16777216)∧(0≤fx∧fx<16777216)∧(1≤bd∧bd≤24)∧(0≤lf∧lf≤23)∧(1≤ln∧ln≤24)∧(0≤fi∧fi≤24)∧BB rw fx bd tp m)→(lf.toNat)=a_→Z4 a_ m rw fx hk bd tp lf ln fi lt):Fs Tryz.prog 78 Ja 5 :=
 G_ Q0i mixed GR rfl (μ:=Xw) (C:=cx_point_binder_least) ⟨(.cons XD (.cons XE .nil)),XsOk.nil,ItsOk.nil,YlOk.nil,IysOk.nil,XfOk.nil⟩ rfl (L:=fun m (c:Int×Int×Int×Int×Bool) (a:Int×Int×Int×Bool) vals=>Xr m c.1 c.2.1 c.2.2.1 c.2.2.2.1 c.2.2.2.2 a.1 a.2.1 a.2.2.1 a.2.2.2 vals) (V:=fun a_ m (c:Int×Int×Int×Int×Bool) (a:Int×Int×Int×Bool)=>Z4 a_ m c.1 c.2.1 c.2.2.1 c.2.2.2.1 c.2.2.2.2 a.1 a.2.1 a.2.2.1 a.2.2.2) KG fun n m c a hp hn=>h n m c.1 c.2.1 c.2.2.1 c.2.2.2.1 c.2.2.2.2 a.1 a.2.1 a.2.2.1 a.2.2.2 hp hn
theorem JU:Ka:=KD fun a_ m rw_ fx hk bd tp lf ln fi lt h hn=>by
 obtain⟨h1,h2,h3,h4,h5,h6,h7⟩:=h;unfold Z4;(try delta lI gD sT I64 Q1 pj8 pj4);intro vals;simp only[true_and,and_true];obtain⟨k,rfl⟩:=Int.eq_ofNat_of_zero_le h4.1;obtain⟨n,rfl⟩:=Int.eq_ofNat_of_zero_le (show 0≤ln by omega);obtain⟨f,rfl⟩:=Int.eq_ofNat_of_zero_le h6.1;obtain⟨B,rfl⟩:=Int.eq_ofNat_of_zero_le (show 0≤bd by omega);simp only[L8,S_,Int.toNat_natCast] at hn ⊢;refine⟨fun c=>?_,fun c=>⟨fun c2=>?_,fun c2=>?_⟩⟩
 ·have c:k=0:=by have:=eq_of_beq c;omega
  subst c;refine⟨fun _ _=>by rw[Q7];omega,fun c2=>⟨?_,h7⟩,fun c2=>⟨?_,h7⟩⟩
  ·unfold Qc Q1x;rw[if_pos];simp only[Bool.or_eq_true,beq_iff_eq,Bool.and_eq_true,decide_eq_true_eq] at c2;rcases c2 with c2|⟨c2,c3⟩
   ·left;omega
   ·right;exact⟨c2,by omega⟩
  ·unfold Qc Q1x;rw[if_neg];simp only[Bool.or_eq_false_iff,beq_eq_false_iff_ne,Bool.and_eq_false_iff,decide_eq_false_iff_not] at c2;rintro (c3|⟨c3,c4⟩)
   ·exact c2.1 (by omega)
   ·rcases c2.2 with c5|c5
    ·exact c5 c3
    ·exact c5 (by omega)
 ·exact⟨h7 ((k:Int),(n:Int),(f:Int),lt) c2,h7⟩
 ·have c:k≠0:=by
   have c:¬ ((k:Int)=0):=by simpa using c
   omega
  obtain⟨k,rfl⟩:∃ j,k=j+1:=⟨k-1,by omega⟩;have ek:((k+1:Nat):Int)-1=(k:Int):=by omega
  simp only[ek,Int.toNat_natCast] at hn ⊢;have bl:∀ b,0≤Qz rw_.toNat fx.toNat k b∧Qz rw_.toNat fx.toNat k b≤1048576:=fun b=>Jl _ _ _ _;have ll:∀ b,0≤Qc rw_.toNat fx.toNat B tp k (nxL n lt b) (nxF n f lt b) b∧Qc rw_.toNat fx.toNat B tp k (nxL n lt b) (nxF n f lt b) b≤1048576:=fun b=>W0 _ _ _ _ _ _ _ _;have nl:∀ b,nxL n lt b≤B→1≤nxL n lt b∧nxL n lt b≤24:=fun b h=>⟨(F9 (B:=B) (by omega)).1,by omega⟩;have nf:∀ b,nxF n f lt b≤24:=fun b=>E6 (by omega) (by omega);have step:Qc rw_.toNat fx.toNat B tp (k+1) n f lt=brV B n lt (brV B n lt 1048576 (Qz rw_.toNat fx.toNat k false+Qc rw_.toNat fx.toNat B tp k (nxL n lt false) (nxF n f lt false) false) false) (Qz rw_.toNat fx.toNat k true+Qc rw_.toNat fx.toNat B tp k (nxL n lt true) (nxF n f lt true) true) true:=rfl;refine⟨(),(m,1048576,0),by and_intros<;>first|rfl|trivial,?_⟩;refine⟨fun d=>BB rw_ fx (B:Int) tp d.1∧(d.2.2=0∧d.2.1=1048576∨d.2.2=1∧d.2.1=brV B n lt 1048576 (Qz rw_.toNat fx.toNat k false+Qc rw_.toNat fx.toNat B tp k (nxL n lt false) (nxF n f lt false) false) false∨d.2.2=2∧d.2.1=Qc rw_.toNat fx.toNat B tp (k+1) n f lt),fun d=>2-d.2.2.toNat,⟨h7,.inl ⟨rfl,rfl⟩⟩,?_⟩;rintro⟨m1,b,i⟩ ⟨e1,e2⟩;dsimp only at e1 e2 ⊢;refine⟨fun g=>?_,fun g=>?_⟩
  ·have g:=of_decide_eq_true g;refine⟨by omega,by omega,fun i0=>?_,fun i1=>?_⟩
   ·subst i0;have eb:b=1048576:=by rcases e2 with e|e|e<;>omega
    refine⟨⟨by omega,by omega,by omega⟩,fun c3=>?_,fun c3=>?_⟩
    ·have c3:=of_decide_eq_true c3;have jl:nxL n lt false≤B:=by omega
     have w1:=nl false jl;have w2:=nf false;have w3:=bl false;have w4:=ll false;refine⟨⟨h1,h2,by omega,by omega⟩,⟨⟨h1,h2,by omega,by omega,by omega,by omega,e1⟩,by omega⟩,fun m4 rS=>⟨by rw[Q7];omega,by rw[Q7];omega,(m4,Cb b (Qz rw_.toNat fx.toNat k false+Qc rw_.toNat fx.toNat B tp k (nxL n lt false) (nxF n f lt false) false),1),by and_intros<;>first|rfl|trivial,⟨rS,.inr (.inl ⟨rfl,?_⟩)⟩,by dsimp only;decide⟩⟩;dsimp only;rw[eb];unfold brV;rw[if_pos jl]
    ·have c3:=of_decide_eq_false c3;have jl:¬ nxL n lt false≤B:=by omega
     refine⟨by rw[Q7];omega,(m1,b,1),by and_intros<;>first|rfl|trivial,⟨e1,.inr (.inl ⟨rfl,?_⟩)⟩,by dsimp only;decide⟩;dsimp only;rw[eb];unfold brV;rw[if_neg jl]
   ·subst i1;have eb:b=brV B n lt 1048576 (Qz rw_.toNat fx.toNat k false+Qc rw_.toNat fx.toNat B tp k (nxL n lt false) (nxF n f lt false) false) false:=by
     rcases e2 with e|e|e
     ·omega
     ·exact e.2
     ·omega
    refine⟨⟨by omega,by omega,by omega⟩,fun c3=>?_,fun c3=>?_⟩
    ·have c3:=of_decide_eq_true c3;have jl:nxL n lt true≤B:=by omega
     have w1:=nl true jl;have w2:=nf true;have w3:=bl true;have w4:=ll true;refine⟨⟨h1,h2,by omega,by omega⟩,⟨⟨h1,h2,by omega,by omega,by omega,by omega,e1⟩,by omega⟩,fun m4 rS=>⟨by rw[Q7];omega,by rw[Q7];omega,(m4,Cb b (Qz rw_.toNat fx.toNat k true+Qc rw_.toNat fx.toNat B tp k (nxL n lt true) (nxF n f lt true) true),2),by and_intros<;>first|rfl|trivial,⟨rS,.inr (.inr ⟨rfl,?_⟩)⟩,by dsimp only;decide⟩⟩;dsimp only;rw[eb,step];exact(if_pos jl).symm
    ·have c3:=of_decide_eq_false c3;have jl:¬ nxL n lt true≤B:=by omega
     refine⟨by rw[Q7];omega,(m1,b,2),by and_intros<;>first|rfl|trivial,⟨e1,.inr (.inr ⟨rfl,?_⟩)⟩,by dsimp only;decide⟩;dsimp only;rw[eb,step];exact(if_neg jl).symm
  ·have g:=of_decide_eq_false g;have eb:b=Qc rw_.toNat fx.toNat B tp (k+1) n f lt:=by
    rcases e2 with e|e|e
    ·omega
    ·omega
    ·exact e.2
   exact⟨eb,FJ e1 eb⟩
def Uy:AL ((Int×List Int)×List Int×Int):=(.cons (.agg (.cons (.k (.i .i64)) (.one (.k (.list (.i .i64)))))) (.cons (.k (.list (.i .i64))) (.one (.k (.i .i64)))))
def Bj (d:(Int×List Int)×List Int×Int):Prop:=d.1.2.length≤1000∧d.2.1.length≤1000
def VR (d:(Int×List Int)×List Int×Int):SV:=.tup [.agg [.val (.i .i64) (if Q8 d.1.1 d.1.2 d.2.1 d.2.2=0 then d.1.1 else 0),.lst 0],.val (.i .i64) (Aa d.1.1 d.1.2 d.2.1 d.2.2),.val (.i .i64) (Q8 d.1.1 d.1.2 d.2.1 d.2.2)]
def VT (d:(Int×List Int)×List Int×Int):List OB:=[.lst 3 (.i .i64) (Jb d.1.1 d.1.2 d.2.1 d.2.2) ((Jb d.1.1 d.1.2 d.2.1 d.2.2).isEmpty)]
def Kg:CSp:=K8 Uy Bj VR VT
abbrev SP:=fun (d25:(List ((Int×Int×Int×Bool)×Int))×Int) (aq:Int×Int×Int×Int×Bool×Int×(List Int)×Int×Int×(List Int)×Int×(List Int)×Int×Int×Int×(List Int)×Int×Int×Bool×Int×Int×Int×(List Int)×Int×Int×Int×Int×Int×Int×Int×Int×Bool×(List Value)) (ae:Int×Int×Int×Int×Bool×Int×Int×Int×Int×Int×Bool×Int×Bool×Bool×(List Int)×Int×Int×(List Int)×Int×(List Int)×Int×Int×Int×(List Int)×Int×Int×Bool×Int×Int×Int×(List Int)×Int×Int×Int×Int×Int×Int×Int×Int×Bool×(List Value)) (jA:_→Prop) (bu:Bool)=>(( I64 ( (pj8 ae).2.2.2.1-( Qz ae.1.toNat ae.2.1.toNat ( (pj4 ae).2.2.2.1-( 1:Int ) ).toNat bu ) ) )∧( 0≤( 1:Int ) )∧( I64 ( WO .i64 (pj4 ae).2.1 ( 1:Int ) ) )∧( True )∧( ∃ iC:( List ( ( Int×Int×Int×Bool )×Int ) )×Int×Int×Int×Int×Bool×Int ,( ( True∧( W_ .or .i64 ( WO .i64 (pj4 ae).2.1 ( 1:Int ) ) ( if bu=true then 1 else 0 ) )=iC.2.1∧(pj4 ae).2.2.1=(pj4 aq).2.1∧True∧( (pj8 ae).2.2.2.1-( Qz ae.1.toNat ae.2.1.toNat ( (pj4 ae).2.2.2.1-( 1:Int ) ).toNat bu ) )=iC.2.2.2.2.2.2∧True )∧( ( ae.1=aq.1∧ae.2.1=aq.2.1∧ae.2.2.1=aq.2.2.1∧ae.2.2.2.1=aq.2.2.2.1∧(pj4 ae).1=(pj4 aq).1∧True∧( ( [ ]:List SV )=[ ] ) )∧( d25.1=iC.1 )∧( ( (pj4 ae).2.2.2.1-1 )=iC.2.2.1∧( VS (pj8 ae).1 (pj8 ae).2.2.1 bu )=iC.2.2.2.1∧( DT (pj8 ae).1 (pj8 ae).2.1 (pj8 ae).2.2.1 bu )=iC.2.2.2.2.1∧bu=iC.2.2.2.2.2.1∧( ( [ ]:List SV )=[ ] ) )∧( (Q1 (Q1 aq))=(pj8 (Q1 (Q1 ae)))∧( True∧(pj4 (pj8 ae)).2.2.1=(pj4 aq).2.2.1∧(pj4 (pj8 ae)).2.2.2.1=(pj4 aq).2.2.2.1∧True∧True∧True∧True∧(pj4 (Q1 ae)).1=(pj4 (pj8 aq)).1∧True∧True∧(pj4 (Q1 ae)).2.1=(pj4 (pj8 aq)).2.1∧(pj4 (Q1 ae)).2.2.1=(pj4 (pj8 aq)).2.2.1∧True∧True∧True∧True∧True∧True∧True∧True∧True∧True∧True∧True∧True∧True∧True∧True∧True∧True∧True∧True∧True∧True∧True∧True∧True∧True∧True∧True∧True∧True∧True∧True∧True∧True∧True∧True∧(pj4 (Q1 ae)).2.2.2.1=(pj4 (pj8 aq)).2.2.2.1∧(pj8 (Q1 ae)).1=(Q1 aq).1∧(pj8 (Q1 ae)).2.1=(Q1 aq).2.1∧(pj8 (Q1 ae)).2.2.1=(Q1 aq).2.2.1∧(pj8 (Q1 ae)).2.2.2.1=(Q1 aq).2.2.2.1∧True∧(pj4 (pj8 (Q1 ae))).1=(pj4 (Q1 aq)).1∧True∧(pj4 (pj8 (Q1 ae))).2.1=(pj4 (Q1 aq)).2.1∧(pj4 (pj8 (Q1 ae))).2.2.1=(pj4 (Q1 aq)).2.2.1∧(pj4 (pj8 (Q1 ae))).2.2.2.1=(pj4 (Q1 aq)).2.2.2.1∧True∧(Q1 (Q1 ae)).1=(pj8 (Q1 aq)).1∧True∧(Q1 (Q1 ae)).2.1=(pj8 (Q1 aq)).2.1∧(Q1 (Q1 ae)).2.2.1=(pj8 (Q1 aq)).2.2.1∧( (Q1 (Q1 ae)).2.2.2.1=(pj8 (Q1 aq)).2.2.2.1∧(pj4 (Q1 (Q1 ae))).1=(pj4 (pj8 (Q1 aq))).1∧(pj4 (Q1 (Q1 ae))).2.1=(pj4 (pj8 (Q1 aq))).2.1∧(pj4 (Q1 (Q1 ae))).2.2.1=(pj4 (pj8 (Q1 aq))).2.2.1∧(pj4 (Q1 (Q1 ae))).2.2.2.1=(pj4 (pj8 (Q1 aq))).2.2.2.1∧True∧( ( [ ]:List SV )=[ ] ) )∧True∧True∧True∧True∧True∧True∧True∧True∧True∧True∧True∧True∧True∧True∧True∧True∧True∧True∧True∧( ( [ ]:List SV )=[ ] ) ) )∧( (Q1 ae).1=(pj8 aq).1∧(Q1 ae).2.1=(pj8 aq).2.1∧( ( [ ]:List SV )=[ ] ) )∧( (Q1 ae).2.2.1=(pj8 aq).2.2.1∧True∧( ( [ ]:List SV )=[ ] ) )∧( (Q1 ae).2.2.2.1=(pj8 aq).2.2.2.1∧( List.isEmpty (Q1 ae).2.2.2.1 )=( List.isEmpty (pj8 aq).2.2.2.1 ) )∧True ) )∧jA iC ):Prop)
abbrev Sy:=fun (d25:(List ((Int×Int×Int×Bool)×Int))×Int) (aq:Int×Int×Int×Int×Bool×Int×(List Int)×Int×Int×(List Int)×Int×(List Int)×Int×Int×Int×(List Int)×Int×Int×Bool×Int×Int×Int×(List Int)×Int×Int×Int×Int×Int×Int×Int×Int×Bool×(List Value)) (ae:Int×Int×Int×Int×Bool×Int×Int×Int×Int×Int×Bool×Int×Bool×Bool×(List Int)×Int×Int×(List Int)×Int×(List Int)×Int×Int×Int×(List Int)×Int×Int×Bool×Int×Int×Int×(List Int)×Int×Int×Int×Int×Int×Int×Int×Int×Bool×(List Value)) (jA:_→Prop) (mw:_→Prop) (bu:Bool)=>(( false=true→( SP d25 aq ae jA bu ) )∧( false=false→( I64 ( d25.2+( 1:Int ) ) )∧( ∃ iC:( List ( ( Int×Int×Int×Bool )×Int ) )×Int ,( ( True∧(pj4 ae).2.1=(pj4 ae).2.1∧(pj4 ae).2.2.1=(pj4 ae).2.2.1∧True∧(pj8 ae).2.2.2.1=(pj8 ae).2.2.2.1∧( (pj4 (pj8 ae)).1=(pj4 (pj8 ae)).1∧(pj4 (pj8 ae)).2.1=(pj4 (pj8 ae)).2.1∧( ( [ ]:List SV )=[ ] ) )∧( d25.2+( 1:Int ) )=iC.2∧True )∧( ( ae.1=ae.1∧ae.2.1=ae.2.1∧ae.2.2.1=ae.2.2.1∧ae.2.2.2.1=ae.2.2.2.1∧(pj4 ae).1=(pj4 ae).1∧True∧( ( [ ]:List SV )=[ ] ) )∧( d25.1=iC.1 )∧( (pj4 ae).2.2.2.1=(pj4 ae).2.2.2.1∧(pj8 ae).1=(pj8 ae).1∧(pj8 ae).2.1=(pj8 ae).2.1∧(pj8 ae).2.2.1=(pj8 ae).2.2.1∧( ( [ ]:List SV )=[ ] ) )∧( (pj8 (Q1 (Q1 ae)))=(pj8 (Q1 (Q1 ae)))∧( True∧(pj4 (pj8 ae)).2.2.1=(pj4 (pj8 ae)).2.2.1∧(pj4 (pj8 ae)).2.2.2.1=(pj4 (pj8 ae)).2.2.2.1∧True∧True∧True∧True∧(pj4 (Q1 ae)).1=(pj4 (Q1 ae)).1∧True∧True∧(pj4 (Q1 ae)).2.1=(pj4 (Q1 ae)).2.1∧(pj4 (Q1 ae)).2.2.1=(pj4 (Q1 ae)).2.2.1∧True∧True∧True∧True∧True∧True∧True∧True∧True∧True∧True∧True∧True∧True∧True∧True∧True∧True∧True∧True∧True∧True∧True∧True∧True∧True∧True∧True∧True∧True∧True∧True∧True∧True∧True∧True∧(pj4 (Q1 ae)).2.2.2.1=(pj4 (Q1 ae)).2.2.2.1∧(pj8 (Q1 ae)).1=(pj8 (Q1 ae)).1∧(pj8 (Q1 ae)).2.1=(pj8 (Q1 ae)).2.1∧(pj8 (Q1 ae)).2.2.1=(pj8 (Q1 ae)).2.2.1∧(pj8 (Q1 ae)).2.2.2.1=(pj8 (Q1 ae)).2.2.2.1∧True∧(pj4 (pj8 (Q1 ae))).1=(pj4 (pj8 (Q1 ae))).1∧True∧(pj4 (pj8 (Q1 ae))).2.1=(pj4 (pj8 (Q1 ae))).2.1∧(pj4 (pj8 (Q1 ae))).2.2.1=(pj4 (pj8 (Q1 ae))).2.2.1∧(pj4 (pj8 (Q1 ae))).2.2.2.1=(pj4 (pj8 (Q1 ae))).2.2.2.1∧True∧(Q1 (Q1 ae)).1=(Q1 (Q1 ae)).1∧True∧(Q1 (Q1 ae)).2.1=(Q1 (Q1 ae)).2.1∧(Q1 (Q1 ae)).2.2.1=(Q1 (Q1 ae)).2.2.1∧( (Q1 (Q1 ae)).2.2.2.1=(Q1 (Q1 ae)).2.2.2.1∧(pj4 (Q1 (Q1 ae))).1=(pj4 (Q1 (Q1 ae))).1∧(pj4 (Q1 (Q1 ae))).2.1=(pj4 (Q1 (Q1 ae))).2.1∧(pj4 (Q1 (Q1 ae))).2.2.1=(pj4 (Q1 (Q1 ae))).2.2.1∧(pj4 (Q1 (Q1 ae))).2.2.2.1=(pj4 (Q1 (Q1 ae))).2.2.2.1∧True∧( ( [ ]:List SV )=[ ] ) )∧True∧True∧True∧True∧True∧True∧True∧True∧True∧True∧True∧True∧True∧True∧True∧True∧True∧True∧True∧( ( [ ]:List SV )=[ ] ) ) )∧( (Q1 ae).1=(Q1 ae).1∧(Q1 ae).2.1=(Q1 ae).2.1∧( ( [ ]:List SV )=[ ] ) )∧( (Q1 ae).2.2.1=(Q1 ae).2.2.1∧True∧( ( [ ]:List SV )=[ ] ) )∧( (Q1 ae).2.2.2.1=(Q1 ae).2.2.2.1∧( List.isEmpty (Q1 ae).2.2.2.1 )=( List.isEmpty (Q1 ae).2.2.2.1 ) )∧True ) )∧mw iC ) ):Prop)
abbrev P0:=fun (d9:Bool×Int×Int×Int×Int×Bool×Int) (e9:Int×Int×Int×Int×Bool×Bool×(List Int)×Int×Int×(List Int)×Int×(List Int)×Int×Int×Int×(List Int)×Int×Int×Bool×Int×Int×Int×(List Int)×Int×Int×Int×Int×Int×Int×Int×Int×Bool×(List Value)) (q9:_→Prop) (bu:Bool)=>(∀ tN:List Value ,( I64 ( e9.2.2.1-( 1:Int ) ) )∧tN=tN∧( I64 ( e9.2.2.1-( 1:Int ) ) )∧( ( 0≤e9.1∧e9.1<16777216 )∧( 0≤e9.2.1∧e9.2.1<16777216 )∧0≤( e9.2.2.1-( 1:Int ) )∧( e9.2.2.1-( 1:Int ) )≤24 )∧( ( 0≤e9.1∧e9.1<16777216 )∧( 0≤e9.2.1∧e9.2.1<16777216 )∧( 1≤e9.2.2.2.1∧e9.2.2.2.1≤24 )∧( 0≤( e9.2.2.1-( 1:Int ) )∧( e9.2.2.1-( 1:Int ) )≤23 )∧( 1≤( 1:Int )∧( 1:Int )≤24 )∧( 0≤( 0:Int )∧( 0:Int )≤24 )∧BB e9.1 e9.2.1 e9.2.2.2.1 bu ( [ ]:List ( ( Int×Int×Int×Bool )×Int ) ) )∧( ∀ xm:List ( ( Int×Int×Int×Bool )×Int ) ,( BB e9.1 e9.2.1 e9.2.2.2.1 bu xm )→( I64 ( ( Qz e9.1.toNat e9.2.1.toNat ( e9.2.2.1-( 1:Int ) ).toNat bu )+( Qc e9.1.toNat e9.2.1.toNat e9.2.2.2.1.toNat bu ( e9.2.2.1-( 1:Int ) ).toNat ( 1:Int ).toNat ( 0:Int ).toNat bu ) ) )∧( ( decide ( ( ( Qz e9.1.toNat e9.2.1.toNat ( e9.2.2.1-( 1:Int ) ).toNat bu )+( Qc e9.1.toNat e9.2.1.toNat e9.2.2.2.1.toNat bu ( e9.2.2.1-( 1:Int ) ).toNat ( 1:Int ).toNat ( 0:Int ).toNat bu ) )<d9.2.1 ) )=true→( I64 ( (pj4 d9).2.2+( 1:Int ) ) )∧( ∃ iD:Bool×Int×Int×Int×Int×Bool×Int ,( ( True∧( ( Qz e9.1.toNat e9.2.1.toNat ( e9.2.2.1-( 1:Int ) ).toNat bu )+( Qc e9.1.toNat e9.2.1.toNat e9.2.2.2.1.toNat bu ( e9.2.2.1-( 1:Int ) ).toNat ( 1:Int ).toNat ( 0:Int ).toNat bu ) )=iD.2.1∧True∧( (pj4 e9).1=(pj4 e9).1∧(pj4 e9).2.1=(pj4 e9).2.1∧( ( [ ]:List SV )=[ ] ) )∧( (pj4 d9).2.2+( 1:Int ) )=iD.2.2.2.2.2.2∧True )∧( ( e9.1=e9.1∧e9.2.1=e9.2.1∧e9.2.2.1=e9.2.2.1∧e9.2.2.2.1=e9.2.2.2.1∧bu=iD.1∧True∧( ( [ ]:List SV )=[ ] ) )∧( ( e9.2.2.1-( 1:Int ) )=iD.2.2.1∧( 1:Int )=iD.2.2.2.1∧( 0:Int )=iD.2.2.2.2.1∧bu=iD.2.2.2.2.2.1∧( ( [ ]:List SV )=[ ] ) )∧( (Q1 (Q1 e9))=(Q1 (Q1 e9))∧( True∧(pj4 e9).2.2.1=(pj4 e9).2.2.1∧(pj4 e9).2.2.2.1=(pj4 e9).2.2.2.1∧True∧True∧True∧True∧(pj4 (pj8 e9)).1=(pj4 (pj8 e9)).1∧True∧True∧(pj4 (pj8 e9)).2.1=(pj4 (pj8 e9)).2.1∧(pj4 (pj8 e9)).2.2.1=(pj4 (pj8 e9)).2.2.1∧True∧True∧True∧True∧True∧True∧True∧True∧True∧True∧True∧True∧True∧True∧True∧True∧True∧True∧True∧True∧True∧True∧True∧True∧True∧True∧True∧True∧True∧True∧True∧True∧True∧True∧True∧True∧(pj4 (pj8 e9)).2.2.2.1=(pj4 (pj8 e9)).2.2.2.1∧(Q1 e9).1=(Q1 e9).1∧(Q1 e9).2.1=(Q1 e9).2.1∧(Q1 e9).2.2.1=(Q1 e9).2.2.1∧(Q1 e9).2.2.2.1=(Q1 e9).2.2.2.1∧True∧(pj4 (Q1 e9)).1=(pj4 (Q1 e9)).1∧True∧(pj4 (Q1 e9)).2.1=(pj4 (Q1 e9)).2.1∧(pj4 (Q1 e9)).2.2.1=(pj4 (Q1 e9)).2.2.1∧(pj4 (Q1 e9)).2.2.2.1=(pj4 (Q1 e9)).2.2.2.1∧True∧(pj8 (Q1 e9)).1=(pj8 (Q1 e9)).1∧True∧(pj8 (Q1 e9)).2.1=(pj8 (Q1 e9)).2.1∧(pj8 (Q1 e9)).2.2.1=(pj8 (Q1 e9)).2.2.1∧( (pj8 (Q1 e9)).2.2.2.1=(pj8 (Q1 e9)).2.2.2.1∧(pj4 (pj8 (Q1 e9))).1=(pj4 (pj8 (Q1 e9))).1∧(pj4 (pj8 (Q1 e9))).2.1=(pj4 (pj8 (Q1 e9))).2.1∧(pj4 (pj8 (Q1 e9))).2.2.1=(pj4 (pj8 (Q1 e9))).2.2.1∧(pj4 (pj8 (Q1 e9))).2.2.2.1=(pj4 (pj8 (Q1 e9))).2.2.2.1∧True∧( ( [ ]:List SV )=[ ] ) )∧True∧True∧True∧True∧True∧True∧True∧True∧True∧True∧True∧True∧True∧True∧True∧True∧True∧True∧True∧( ( [ ]:List SV )=[ ] ) ) )∧( (pj8 e9).1=(pj8 e9).1∧(pj8 e9).2.1=(pj8 e9).2.1∧( ( [ ]:List SV )=[ ] ) )∧( (pj8 e9).2.2.1=(pj8 e9).2.2.1∧True∧( ( [ ]:List SV )=[ ] ) )∧( (pj8 e9).2.2.2.1=(pj8 e9).2.2.2.1∧( List.isEmpty (pj8 e9).2.2.2.1 )=( List.isEmpty (pj8 e9).2.2.2.1 ) )∧True ) )∧q9 iD ) )∧( ( decide ( ( ( Qz e9.1.toNat e9.2.1.toNat ( e9.2.2.1-( 1:Int ) ).toNat bu )+( Qc e9.1.toNat e9.2.1.toNat e9.2.2.2.1.toNat bu ( e9.2.2.1-( 1:Int ) ).toNat ( 1:Int ).toNat ( 0:Int ).toNat bu ) )<d9.2.1 ) )=false→( I64 ( (pj4 d9).2.2+( 1:Int ) ) )∧( ∃ kU:Bool×Int×Int×Int×Int×Bool×Int ,( ( True∧d9.2.1=kU.2.1∧True∧( (pj4 e9).1=(pj4 e9).1∧(pj4 e9).2.1=(pj4 e9).2.1∧( ( [ ]:List SV )=[ ] ) )∧( (pj4 d9).2.2+( 1:Int ) )=kU.2.2.2.2.2.2∧True )∧( ( e9.1=e9.1∧e9.2.1=e9.2.1∧e9.2.2.1=e9.2.2.1∧e9.2.2.2.1=e9.2.2.2.1∧bu=kU.1∧True∧( ( [ ]:List SV )=[ ] ) )∧( d9.2.2.1=kU.2.2.1∧d9.2.2.2.1=kU.2.2.2.1∧(pj4 d9).1=kU.2.2.2.2.1∧(pj4 d9).2.1=kU.2.2.2.2.2.1∧( ( [ ]:List SV )=[ ] ) )∧( (Q1 (Q1 e9))=(Q1 (Q1 e9))∧( True∧(pj4 e9).2.2.1=(pj4 e9).2.2.1∧(pj4 e9).2.2.2.1=(pj4 e9).2.2.2.1∧True∧True∧True∧True∧(pj4 (pj8 e9)).1=(pj4 (pj8 e9)).1∧True∧True∧(pj4 (pj8 e9)).2.1=(pj4 (pj8 e9)).2.1∧(pj4 (pj8 e9)).2.2.1=(pj4 (pj8 e9)).2.2.1∧True∧True∧True∧True∧True∧True∧True∧True∧True∧True∧True∧True∧True∧True∧True∧True∧True∧True∧True∧True∧True∧True∧True∧True∧True∧True∧True∧True∧True∧True∧True∧True∧True∧True∧True∧True∧(pj4 (pj8 e9)).2.2.2.1=(pj4 (pj8 e9)).2.2.2.1∧(Q1 e9).1=(Q1 e9).1∧(Q1 e9).2.1=(Q1 e9).2.1∧(Q1 e9).2.2.1=(Q1 e9).2.2.1∧(Q1 e9).2.2.2.1=(Q1 e9).2.2.2.1∧True∧(pj4 (Q1 e9)).1=(pj4 (Q1 e9)).1∧True∧(pj4 (Q1 e9)).2.1=(pj4 (Q1 e9)).2.1∧(pj4 (Q1 e9)).2.2.1=(pj4 (Q1 e9)).2.2.1∧(pj4 (Q1 e9)).2.2.2.1=(pj4 (Q1 e9)).2.2.2.1∧True∧(pj8 (Q1 e9)).1=(pj8 (Q1 e9)).1∧True∧(pj8 (Q1 e9)).2.1=(pj8 (Q1 e9)).2.1∧(pj8 (Q1 e9)).2.2.1=(pj8 (Q1 e9)).2.2.1∧( (pj8 (Q1 e9)).2.2.2.1=(pj8 (Q1 e9)).2.2.2.1∧(pj4 (pj8 (Q1 e9))).1=(pj4 (pj8 (Q1 e9))).1∧(pj4 (pj8 (Q1 e9))).2.1=(pj4 (pj8 (Q1 e9))).2.1∧(pj4 (pj8 (Q1 e9))).2.2.1=(pj4 (pj8 (Q1 e9))).2.2.1∧(pj4 (pj8 (Q1 e9))).2.2.2.1=(pj4 (pj8 (Q1 e9))).2.2.2.1∧True∧( ( [ ]:List SV )=[ ] ) )∧True∧True∧True∧True∧True∧True∧True∧True∧True∧True∧True∧True∧True∧True∧True∧True∧True∧True∧True∧( ( [ ]:List SV )=[ ] ) ) )∧( (pj8 e9).1=(pj8 e9).1∧(pj8 e9).2.1=(pj8 e9).2.1∧( ( [ ]:List SV )=[ ] ) )∧( (pj8 e9).2.2.1=(pj8 e9).2.2.1∧True∧( ( [ ]:List SV )=[ ] ) )∧( (pj8 e9).2.2.2.1=(pj8 e9).2.2.2.1∧( List.isEmpty (pj8 e9).2.2.2.1 )=( List.isEmpty (pj8 e9).2.2.2.1 ) )∧True ) )∧q9 kU ) ) ):Prop)
abbrev Pt:=fun (d25:(List ((Int×Int×Int×Bool)×Int))×Int) (aq:Int×Int×Int×Int×Bool×Int×(List Int)×Int×Int×(List Int)×Int×(List Int)×Int×Int×Int×(List Int)×Int×Int×Bool×Int×Int×Int×(List Int)×Int×Int×Int×Int×Int×Int×Int×Int×Bool×(List Value)) (ae:Int×Int×Int×Int×Bool×Int×Int×Int×Int×Int×Bool×Int×Bool×Bool×(List Int)×Int×Int×(List Int)×Int×(List Int)×Int×Int×Int×(List Int)×Int×Int×Bool×Int×Int×Int×(List Int)×Int×Int×Int×Int×Int×Int×Int×Int×Bool×(List Value)) (jA:_→Prop) (mw:_→Prop) (bu:Bool)=>(( ( 0≤(pj4 ae).2.2.2.1∧(pj4 ae).2.2.2.1≤24 )∧( 1≤(pj8 ae).1∧(pj8 ae).1≤24 )∧( 0≤(pj8 ae).2.1∧(pj8 ae).2.1≤24 ) )∧( I64 ( (pj4 ae).2.2.2.1-( 1:Int ) ) )∧( ( 0≤ae.1∧ae.1<16777216 )∧( 0≤ae.2.1∧ae.2.1<16777216 )∧0≤( (pj4 ae).2.2.2.1-( 1:Int ) )∧( (pj4 ae).2.2.2.1-( 1:Int ) )≤24 )∧( ( ( decide ( VS (pj8 ae).1 (pj8 ae).2.2.1 bu≤ae.2.2.2.1 ) )=true→( ( 0≤ae.1∧ae.1<16777216 )∧( 0≤ae.2.1∧ae.2.1<16777216 )∧( 1≤ae.2.2.2.1∧ae.2.2.2.1≤24 )∧( 0≤( (pj4 ae).2.2.2.1-1 )∧( (pj4 ae).2.2.2.1-1 )≤23 )∧( 1≤( VS (pj8 ae).1 (pj8 ae).2.2.1 bu )∧( VS (pj8 ae).1 (pj8 ae).2.2.1 bu )≤24 )∧( 0≤( DT (pj8 ae).1 (pj8 ae).2.1 (pj8 ae).2.2.1 bu )∧( DT (pj8 ae).1 (pj8 ae).2.1 (pj8 ae).2.2.1 bu )≤24 )∧BB ae.1 ae.2.1 ae.2.2.2.1 (pj4 ae).1 d25.1 )∧( ∀ rT:List ( ( Int×Int×Int×Bool )×Int ) ,( BB ae.1 ae.2.1 ae.2.2.2.1 (pj4 ae).1 rT )→( I64 ( ( Qz ae.1.toNat ae.2.1.toNat ( (pj4 ae).2.2.2.1-( 1:Int ) ).toNat bu )+( Qc ae.1.toNat ae.2.1.toNat ae.2.2.2.1.toNat (pj4 ae).1 ( (pj4 ae).2.2.2.1-1 ).toNat ( VS (pj8 ae).1 (pj8 ae).2.2.1 bu ).toNat ( DT (pj8 ae).1 (pj8 ae).2.1 (pj8 ae).2.2.1 bu ).toNat bu ) ) )∧( ( ( ( Qz ae.1.toNat ae.2.1.toNat ( (pj4 ae).2.2.2.1-( 1:Int ) ).toNat bu )+( Qc ae.1.toNat ae.2.1.toNat ae.2.2.2.1.toNat (pj4 ae).1 ( (pj4 ae).2.2.2.1-1 ).toNat ( VS (pj8 ae).1 (pj8 ae).2.2.1 bu ).toNat ( DT (pj8 ae).1 (pj8 ae).2.1 (pj8 ae).2.2.1 bu ).toNat bu ) )==(pj8 ae).2.2.2.1 )=true→( I64 ( (pj8 ae).2.2.2.1-( Qz ae.1.toNat ae.2.1.toNat ( (pj4 ae).2.2.2.1-( 1:Int ) ).toNat bu ) ) )∧( 0≤( 1:Int ) )∧( I64 ( WO .i64 (pj4 ae).2.1 ( 1:Int ) ) )∧( True )∧( ∃ kV:( List ( ( Int×Int×Int×Bool )×Int ) )×Int×Int×Int×Int×Bool×Int ,( ( True∧( W_ .or .i64 ( WO .i64 (pj4 ae).2.1 ( 1:Int ) ) ( if bu=true then 1 else 0 ) )=kV.2.1∧(pj4 ae).2.2.1=(pj4 aq).2.1∧True∧( (pj8 ae).2.2.2.1-( Qz ae.1.toNat ae.2.1.toNat ( (pj4 ae).2.2.2.1-( 1:Int ) ).toNat bu ) )=kV.2.2.2.2.2.2∧True )∧( ( ae.1=aq.1∧ae.2.1=aq.2.1∧ae.2.2.1=aq.2.2.1∧ae.2.2.2.1=aq.2.2.2.1∧(pj4 ae).1=(pj4 aq).1∧True∧( ( [ ]:List SV )=[ ] ) )∧( rT=kV.1 )∧( ( (pj4 ae).2.2.2.1-1 )=kV.2.2.1∧( VS (pj8 ae).1 (pj8 ae).2.2.1 bu )=kV.2.2.2.1∧( DT (pj8 ae).1 (pj8 ae).2.1 (pj8 ae).2.2.1 bu )=kV.2.2.2.2.1∧bu=kV.2.2.2.2.2.1∧( ( [ ]:List SV )=[ ] ) )∧( (Q1 (Q1 aq))=(pj8 (Q1 (Q1 ae)))∧( True∧(pj4 (pj8 ae)).2.2.1=(pj4 aq).2.2.1∧(pj4 (pj8 ae)).2.2.2.1=(pj4 aq).2.2.2.1∧True∧True∧True∧True∧(pj4 (Q1 ae)).1=(pj4 (pj8 aq)).1∧True∧True∧(pj4 (Q1 ae)).2.1=(pj4 (pj8 aq)).2.1∧(pj4 (Q1 ae)).2.2.1=(pj4 (pj8 aq)).2.2.1∧True∧True∧True∧True∧True∧True∧True∧True∧True∧True∧True∧True∧True∧True∧True∧True∧True∧True∧True∧True∧True∧True∧True∧True∧True∧True∧True∧True∧True∧True∧True∧True∧True∧True∧True∧True∧(pj4 (Q1 ae)).2.2.2.1=(pj4 (pj8 aq)).2.2.2.1∧(pj8 (Q1 ae)).1=(Q1 aq).1∧(pj8 (Q1 ae)).2.1=(Q1 aq).2.1∧(pj8 (Q1 ae)).2.2.1=(Q1 aq).2.2.1∧(pj8 (Q1 ae)).2.2.2.1=(Q1 aq).2.2.2.1∧True∧(pj4 (pj8 (Q1 ae))).1=(pj4 (Q1 aq)).1∧True∧(pj4 (pj8 (Q1 ae))).2.1=(pj4 (Q1 aq)).2.1∧(pj4 (pj8 (Q1 ae))).2.2.1=(pj4 (Q1 aq)).2.2.1∧(pj4 (pj8 (Q1 ae))).2.2.2.1=(pj4 (Q1 aq)).2.2.2.1∧True∧(Q1 (Q1 ae)).1=(pj8 (Q1 aq)).1∧True∧(Q1 (Q1 ae)).2.1=(pj8 (Q1 aq)).2.1∧(Q1 (Q1 ae)).2.2.1=(pj8 (Q1 aq)).2.2.1∧( (Q1 (Q1 ae)).2.2.2.1=(pj8 (Q1 aq)).2.2.2.1∧(pj4 (Q1 (Q1 ae))).1=(pj4 (pj8 (Q1 aq))).1∧(pj4 (Q1 (Q1 ae))).2.1=(pj4 (pj8 (Q1 aq))).2.1∧(pj4 (Q1 (Q1 ae))).2.2.1=(pj4 (pj8 (Q1 aq))).2.2.1∧(pj4 (Q1 (Q1 ae))).2.2.2.1=(pj4 (pj8 (Q1 aq))).2.2.2.1∧True∧( ( [ ]:List SV )=[ ] ) )∧True∧True∧True∧True∧True∧True∧True∧True∧True∧True∧True∧True∧True∧True∧True∧True∧True∧True∧True∧( ( [ ]:List SV )=[ ] ) ) )∧( (Q1 ae).1=(pj8 aq).1∧(Q1 ae).2.1=(pj8 aq).2.1∧( ( [ ]:List SV )=[ ] ) )∧( (Q1 ae).2.2.1=(pj8 aq).2.2.1∧True∧( ( [ ]:List SV )=[ ] ) )∧( (Q1 ae).2.2.2.1=(pj8 aq).2.2.2.1∧( List.isEmpty (Q1 ae).2.2.2.1 )=( List.isEmpty (pj8 aq).2.2.2.1 ) )∧True ) )∧jA kV ) )∧( ( ( ( Qz ae.1.toNat ae.2.1.toNat ( (pj4 ae).2.2.2.1-( 1:Int ) ).toNat bu )+( Qc ae.1.toNat ae.2.1.toNat ae.2.2.2.1.toNat (pj4 ae).1 ( (pj4 ae).2.2.2.1-1 ).toNat ( VS (pj8 ae).1 (pj8 ae).2.2.1 bu ).toNat ( DT (pj8 ae).1 (pj8 ae).2.1 (pj8 ae).2.2.1 bu ).toNat bu ) )==(pj8 ae).2.2.2.1 )=false→( I64 ( d25.2+( 1:Int ) ) )∧( ∃ iD:( List ( ( Int×Int×Int×Bool )×Int ) )×Int ,( ( True∧(pj4 ae).2.1=(pj4 ae).2.1∧(pj4 ae).2.2.1=(pj4 ae).2.2.1∧True∧(pj8 ae).2.2.2.1=(pj8 ae).2.2.2.1∧( (pj4 (pj8 ae)).1=(pj4 (pj8 ae)).1∧(pj4 (pj8 ae)).2.1=(pj4 (pj8 ae)).2.1∧( ( [ ]:List SV )=[ ] ) )∧( d25.2+( 1:Int ) )=iD.2∧True )∧( ( ae.1=ae.1∧ae.2.1=ae.2.1∧ae.2.2.1=ae.2.2.1∧ae.2.2.2.1=ae.2.2.2.1∧(pj4 ae).1=(pj4 ae).1∧True∧( ( [ ]:List SV )=[ ] ) )∧( rT=iD.1 )∧( (pj4 ae).2.2.2.1=(pj4 ae).2.2.2.1∧(pj8 ae).1=(pj8 ae).1∧(pj8 ae).2.1=(pj8 ae).2.1∧(pj8 ae).2.2.1=(pj8 ae).2.2.1∧( ( [ ]:List SV )=[ ] ) )∧( (pj8 (Q1 (Q1 ae)))=(pj8 (Q1 (Q1 ae)))∧( True∧(pj4 (pj8 ae)).2.2.1=(pj4 (pj8 ae)).2.2.1∧(pj4 (pj8 ae)).2.2.2.1=(pj4 (pj8 ae)).2.2.2.1∧True∧True∧True∧True∧(pj4 (Q1 ae)).1=(pj4 (Q1 ae)).1∧True∧True∧(pj4 (Q1 ae)).2.1=(pj4 (Q1 ae)).2.1∧(pj4 (Q1 ae)).2.2.1=(pj4 (Q1 ae)).2.2.1∧True∧True∧True∧True∧True∧True∧True∧True∧True∧True∧True∧True∧True∧True∧True∧True∧True∧True∧True∧True∧True∧True∧True∧True∧True∧True∧True∧True∧True∧True∧True∧True∧True∧True∧True∧True∧(pj4 (Q1 ae)).2.2.2.1=(pj4 (Q1 ae)).2.2.2.1∧(pj8 (Q1 ae)).1=(pj8 (Q1 ae)).1∧(pj8 (Q1 ae)).2.1=(pj8 (Q1 ae)).2.1∧(pj8 (Q1 ae)).2.2.1=(pj8 (Q1 ae)).2.2.1∧(pj8 (Q1 ae)).2.2.2.1=(pj8 (Q1 ae)).2.2.2.1∧True∧(pj4 (pj8 (Q1 ae))).1=(pj4 (pj8 (Q1 ae))).1∧True∧(pj4 (pj8 (Q1 ae))).2.1=(pj4 (pj8 (Q1 ae))).2.1∧(pj4 (pj8 (Q1 ae))).2.2.1=(pj4 (pj8 (Q1 ae))).2.2.1∧(pj4 (pj8 (Q1 ae))).2.2.2.1=(pj4 (pj8 (Q1 ae))).2.2.2.1∧True∧(Q1 (Q1 ae)).1=(Q1 (Q1 ae)).1∧True∧(Q1 (Q1 ae)).2.1=(Q1 (Q1 ae)).2.1∧(Q1 (Q1 ae)).2.2.1=(Q1 (Q1 ae)).2.2.1∧( (Q1 (Q1 ae)).2.2.2.1=(Q1 (Q1 ae)).2.2.2.1∧(pj4 (Q1 (Q1 ae))).1=(pj4 (Q1 (Q1 ae))).1∧(pj4 (Q1 (Q1 ae))).2.1=(pj4 (Q1 (Q1 ae))).2.1∧(pj4 (Q1 (Q1 ae))).2.2.1=(pj4 (Q1 (Q1 ae))).2.2.1∧(pj4 (Q1 (Q1 ae))).2.2.2.1=(pj4 (Q1 (Q1 ae))).2.2.2.1∧True∧( ( [ ]:List SV )=[ ] ) )∧True∧True∧True∧True∧True∧True∧True∧True∧True∧True∧True∧True∧True∧True∧True∧True∧True∧True∧True∧( ( [ ]:List SV )=[ ] ) ) )∧( (Q1 ae).1=(Q1 ae).1∧(Q1 ae).2.1=(Q1 ae).2.1∧( ( [ ]:List SV )=[ ] ) )∧( (Q1 ae).2.2.1=(Q1 ae).2.2.1∧True∧( ( [ ]:List SV )=[ ] ) )∧( (Q1 ae).2.2.2.1=(Q1 ae).2.2.2.1∧( List.isEmpty (Q1 ae).2.2.2.1 )=( List.isEmpty (Q1 ae).2.2.2.1 ) )∧True ) )∧mw iD ) ) ) )∧( ( decide ( VS (pj8 ae).1 (pj8 ae).2.2.1 bu≤ae.2.2.2.1 ) )=false→( Sy d25 aq ae jA mw bu ) ) ):Prop)
abbrev Ue (hd:Int) (rows:List Int) (aw:List Int) (bd:Int):=((0:Int)=(if Q8 hd rows aw bd=0 then hd else 0)∧True∧(([]:List SV)=[]))
abbrev Kj :=(List ((Int×Int×Int×Bool)×Int))
abbrev U3 (hd:Int) (rows:List Int) (aw:List Int) (bd:Int):=(((Jb hd rows aw bd)=[]∧(Jb hd rows aw bd).isEmpty=true)∧True)
def XQ (hd:Int) (rows:List Int) (aw:List Int) (bd:Int):Prop :=
  (rows.length ≤ 1000000) ∧ (((Qn hd rows) != (0:Int)) = true →
    (((Ue hd rows aw bd) ∧ (0:Int) = (Aa hd rows aw bd) ∧ (Qn hd rows) = (Q8 hd rows aw bd) ∧ (([]:List SV) = [])) ∧ (U3 hd rows aw bd))) ∧
  (((Qn hd rows) != (0:Int)) = false →
    (((lI aw) != (lI rows)) = true →
      (((Ue hd rows aw bd) ∧ (0:Int) = (Aa hd rows aw bd) ∧ (4:Int) = (Q8 hd rows aw bd) ∧ (([]:List SV) = [])) ∧ (U3 hd rows aw bd))) ∧
    (((lI aw) != (lI rows)) = false →
      (0 ≤ hd) ∧ (I64 (WO .i64 (1:Int) hd)) ∧ (I64 ((WO .i64 (1:Int) hd) - (1:Int))) ∧ (aw.length ≤ 1000000) ∧ ((!(!(aw.any fun n => decide (n < (0:Int)) || decide (((WO .i64 (1:Int) hd) - (1:Int)) < n)))) = true →
        (((Ue hd rows aw bd) ∧ (0:Int) = (Aa hd rows aw bd) ∧ (2:Int) = (Q8 hd rows aw bd) ∧ (([]:List SV) = [])) ∧ (U3 hd rows aw bd))) ∧
      ((!(!(aw.any fun n => decide (n < (0:Int)) || decide (((WO .i64 (1:Int) hd) - (1:Int)) < n)))) = false →
        ([bd].length ≤ 1000000) ∧ ((!(!([bd].any fun n => decide (n < (1:Int)) || decide ((24:Int) < n)))) = true →
          (((Ue hd rows aw bd) ∧ (0:Int) = (Aa hd rows aw bd) ∧ (3:Int) = (Q8 hd rows aw bd) ∧ (([]:List SV) = [])) ∧ (U3 hd rows aw bd))) ∧
        ((!(!([bd].any fun n => decide (n < (1:Int)) || decide ((24:Int) < n)))) = false →
          ∃ (e4:Unit) (d40:(List Int) × Int × Int), ((aw = aw ∧ bd = bd ∧ True ∧ True ∧ (0:Int) = d40.2.1 ∧ rows = rows ∧ (lI rows) = (lI rows) ∧ (0:Int) = d40.2.2 ∧ True) ∧ ((hd = hd ∧ rows = rows ∧ (([]:List SV) = [])) ∧ (hd = hd ∧ True ∧ (([]:List SV) = [])) ∧ (d40.1 = [] ∧ (List.isEmpty d40.1) = true) ∧ True)) ∧
          LoopP (fun (d4:(List Int) × Int × Int) (q4:((List Int) × Int × Int) → Prop) =>
            ((decide (d4.2.2 < (lI rows))) = true →
              (0 ≤ d4.2.2) ∧ (d4.2.2 < (List.length rows)) ∧ (0 ≤ d4.2.2) ∧ (d4.2.2 < (List.length aw)) ∧ ∀ w5:List Value, ∃ (e9:Int × Int × Int × Int × Bool × Bool × (List Int) × Int × Int × (List Int) × Int × (List Int) × Int × Int × Int × (List Int) × Int × Int × Bool × Int × Int × Int × (List Int) × Int × Int × Int × Int × Int × Int × Int × Int × Bool × (List Value)) (d90:Bool × Int × Int × Int × Int × Bool × Int), ((True ∧ (1048576:Int) = d90.2.1 ∧ True ∧ (false = (pj4 e9).1 ∧ true = (pj4 e9).2.1 ∧ (([]:List SV) = [])) ∧ (0:Int) = (pj4 d90).2.2 ∧ True) ∧ (((gD rows d4.2.2 0) = e9.1 ∧ (gD aw d4.2.2 0) = e9.2.1 ∧ hd = e9.2.2.1 ∧ bd = e9.2.2.2.1 ∧ false = d90.1 ∧ True ∧ (([]:List SV) = [])) ∧ ((0:Int) = d90.2.2.1 ∧ (0:Int) = d90.2.2.2.1 ∧ (0:Int) = (pj4 d90).1 ∧ false = (pj4 d90).2.1 ∧ (([]:List SV) = [])) ∧ ((Q1 (Q1 e9)) = w5 ∧ (True ∧ aw = (pj4 e9).2.2.1 ∧ bd = (pj4 e9).2.2.2.1 ∧ True ∧ True ∧ True ∧ True ∧ d4.2.1 = (pj4 (pj8 e9)).1 ∧ True ∧ True ∧ d4.2.2 = (pj4 (pj8 e9)).2.1 ∧ (gD rows d4.2.2 0) = (pj4 (pj8 e9)).2.2.1 ∧ True ∧ True ∧ True ∧ True ∧ True ∧ True ∧ True ∧ True ∧ True ∧ True ∧ True ∧ True ∧ True ∧ True ∧ True ∧ True ∧ True ∧ True ∧ True ∧ True ∧ True ∧ True ∧ True ∧ True ∧ True ∧ True ∧ True ∧ True ∧ True ∧ True ∧ True ∧ True ∧ True ∧ True ∧ True ∧ True ∧ rows = (pj4 (pj8 e9)).2.2.2.1 ∧ (lI rows) = (Q1 e9).1 ∧ d4.2.2 = (Q1 e9).2.1 ∧ (decide (d4.2.2 < (lI rows))) = (Q1 e9).2.2.1 ∧ d4.2.2 = (Q1 e9).2.2.2.1 ∧ True ∧ (gD rows d4.2.2 0) = (pj4 (Q1 e9)).1 ∧ True ∧ (gD rows d4.2.2 0) = (pj4 (Q1 e9)).2.1 ∧ aw = (pj4 (Q1 e9)).2.2.1 ∧ d4.2.2 = (pj4 (Q1 e9)).2.2.2.1 ∧ True ∧ (gD aw d4.2.2 0) = (pj8 (Q1 e9)).1 ∧ True ∧ hd = (pj8 (Q1 e9)).2.1 ∧ bd = (pj8 (Q1 e9)).2.2.1 ∧ ((gD rows d4.2.2 0) = (pj8 (Q1 e9)).2.2.2.1 ∧ (gD aw d4.2.2 0) = (pj4 (pj8 (Q1 e9))).1 ∧ hd = (pj4 (pj8 (Q1 e9))).2.1 ∧ bd = (pj4 (pj8 (Q1 e9))).2.2.1 ∧ false = (pj4 (pj8 (Q1 e9))).2.2.2.1 ∧ True ∧ (([]:List SV) = [])) ∧ True ∧ True ∧ True ∧ True ∧ True ∧ True ∧ True ∧ True ∧ True ∧ True ∧ True ∧ True ∧ True ∧ True ∧ True ∧ True ∧ True ∧ True ∧ True ∧ (([]:List SV) = []))) ∧ (hd = (pj8 e9).1 ∧ rows = (pj8 e9).2.1 ∧ (([]:List SV) = [])) ∧ (hd = (pj8 e9).2.2.1 ∧ True ∧ (([]:List SV) = [])) ∧ (d4.1 = (pj8 e9).2.2.2.1 ∧ (List.isEmpty d4.1) = (List.isEmpty (pj8 e9).2.2.2.1)) ∧ True)) ∧
              LoopP (fun (d9:Bool × Int × Int × Int × Int × Bool × Int) (q9:(Bool × Int × Int × Int × Int × Bool × Int) → Prop) =>
                ((decide ((pj4 d9).2.2 < (2:Int))) = true →
                  (0 ≤ (pj4 d9).2.2) ∧ ((pj4 d9).2.2 < (2:Int)) ∧
                  ((pj4 d9).2.2 = (0:Int) →
                     (P0 d9 e9 q9 (pj4 e9).1)) ∧
                  ((pj4 d9).2.2 = (1:Int) →
                     (P0 d9 e9 q9 (pj4 e9).2.1)) ∧
                  True) ∧
                ((decide ((pj4 d9).2.2 < (2:Int))) = false →
                  ((decide (d9.2.1 ≥ (1048576:Int))) = true →
                    (Q1 (Q1 e9)) = w5 ∧ ((decide ((1048576:Int) ≥ (1048576:Int))) = true →
                      (((Ue hd rows aw bd) ∧ (0:Int) = (Aa hd rows aw bd) ∧ (9:Int) = (Q8 hd rows aw bd) ∧ (([]:List SV) = [])) ∧ (U3 hd rows aw bd))) ∧
                    ((decide ((1048576:Int) ≥ (1048576:Int))) = false →
                      (((List.length (pj8 e9).2.2.2.1) + (List.length [(0:Int)])) * 8 ≤ 70368744177664) ∧ (I64 ((pj4 (pj8 e9)).1 + (1048576:Int))) ∧ (I64 ((Q1 e9).2.1 + (1:Int))) ∧ (∃ d18:(List Int) × Int × Int, (((pj4 e9).2.2.1 = aw ∧ (pj4 e9).2.2.2.1 = bd ∧ True ∧ True ∧ ((pj4 (pj8 e9)).1 + (1048576:Int)) = d18.2.1 ∧ (pj4 (pj8 e9)).2.2.2.1 = rows ∧ (Q1 e9).1 = (lI rows) ∧ ((Q1 e9).2.1 + (1:Int)) = d18.2.2 ∧ True) ∧ (((pj8 e9).1 = hd ∧ (pj8 e9).2.1 = rows ∧ (([]:List SV) = [])) ∧ ((pj8 e9).2.2.1 = hd ∧ True ∧ (([]:List SV) = [])) ∧ (((pj8 e9).2.2.2.1 ++ [(0:Int)]) = d18.1 ∧ false = (List.isEmpty d18.1)) ∧ True)) ∧ q4 d18))) ∧
                  ((decide (d9.2.1 ≥ (1048576:Int))) = false →
                    ∀ rU:List Value, (I64 (e9.2.2.1 - (1:Int))) ∧ rU = rU ∧ (I64 (e9.2.2.1 - (1:Int))) ∧ ((0 ≤ e9.1 ∧ e9.1 < 16777216) ∧ (0 ≤ e9.2.1 ∧ e9.2.1 < 16777216) ∧ 0 ≤ (e9.2.2.1 - (1:Int)) ∧ (e9.2.2.1 - (1:Int)) ≤ 24) ∧ (I64 (d9.2.1 - (Qz e9.1.toNat e9.2.1.toNat (e9.2.2.1 - (1:Int)).toNat (pj4 d9).2.1))) ∧ (True) ∧ ∃ (aq:Int × Int × Int × Int × Bool × Int × (List Int) × Int × Int × (List Int) × Int × (List Int) × Int × Int × Int × (List Int) × Int × Int × Bool × Int × Int × Int × (List Int) × Int × Int × Int × Int × Int × Int × Int × Int × Bool × (List Value)) (fI:Kj × Int × Int × Int × Int × Bool × Int), ((True ∧ (if (pj4 d9).2.1 = true then 1 else 0) = fI.2.1 ∧ d9.2.1 = (pj4 aq).2.1 ∧ True ∧ (d9.2.1 - (Qz e9.1.toNat e9.2.1.toNat (e9.2.2.1 - (1:Int)).toNat (pj4 d9).2.1)) = (pj4 fI).2.2 ∧ True) ∧ ((e9.1 = aq.1 ∧ e9.2.1 = aq.2.1 ∧ e9.2.2.1 = aq.2.2.1 ∧ e9.2.2.2.1 = aq.2.2.2.1 ∧ (pj4 d9).2.1 = (pj4 aq).1 ∧ True ∧ (([]:List SV) = [])) ∧ (([]:List ((Int × Int × Int × Bool) × Int)) = fI.1) ∧ (d9.2.2.1 = fI.2.2.1 ∧ d9.2.2.2.1 = fI.2.2.2.1 ∧ (pj4 d9).1 = (pj4 fI).1 ∧ (pj4 d9).2.1 = (pj4 fI).2.1 ∧ (([]:List SV) = [])) ∧ ((Q1 (Q1 aq)) = (Q1 (Q1 e9)) ∧ (True ∧ (pj4 e9).2.2.1 = (pj4 aq).2.2.1 ∧ (pj4 e9).2.2.2.1 = (pj4 aq).2.2.2.1 ∧ True ∧ True ∧ True ∧ True ∧ (pj4 (pj8 e9)).1 = (pj4 (pj8 aq)).1 ∧ True ∧ True ∧ (pj4 (pj8 e9)).2.1 = (pj4 (pj8 aq)).2.1 ∧ (pj4 (pj8 e9)).2.2.1 = (pj4 (pj8 aq)).2.2.1 ∧ True ∧ True ∧ True ∧ True ∧ True ∧ True ∧ True ∧ True ∧ True ∧ True ∧ True ∧ True ∧ True ∧ True ∧ True ∧ True ∧ True ∧ True ∧ True ∧ True ∧ True ∧ True ∧ True ∧ True ∧ True ∧ True ∧ True ∧ True ∧ True ∧ True ∧ True ∧ True ∧ True ∧ True ∧ True ∧ True ∧ (pj4 (pj8 e9)).2.2.2.1 = (pj4 (pj8 aq)).2.2.2.1 ∧ (Q1 e9).1 = (Q1 aq).1 ∧ (Q1 e9).2.1 = (Q1 aq).2.1 ∧ (Q1 e9).2.2.1 = (Q1 aq).2.2.1 ∧ (Q1 e9).2.2.2.1 = (Q1 aq).2.2.2.1 ∧ True ∧ (pj4 (Q1 e9)).1 = (pj4 (Q1 aq)).1 ∧ True ∧ (pj4 (Q1 e9)).2.1 = (pj4 (Q1 aq)).2.1 ∧ (pj4 (Q1 e9)).2.2.1 = (pj4 (Q1 aq)).2.2.1 ∧ (pj4 (Q1 e9)).2.2.2.1 = (pj4 (Q1 aq)).2.2.2.1 ∧ True ∧ (pj8 (Q1 e9)).1 = (pj8 (Q1 aq)).1 ∧ True ∧ (pj8 (Q1 e9)).2.1 = (pj8 (Q1 aq)).2.1 ∧ (pj8 (Q1 e9)).2.2.1 = (pj8 (Q1 aq)).2.2.1 ∧ ((pj8 (Q1 e9)).2.2.2.1 = (pj8 (Q1 aq)).2.2.2.1 ∧ (pj4 (pj8 (Q1 e9))).1 = (pj4 (pj8 (Q1 aq))).1 ∧ (pj4 (pj8 (Q1 e9))).2.1 = (pj4 (pj8 (Q1 aq))).2.1 ∧ (pj4 (pj8 (Q1 e9))).2.2.1 = (pj4 (pj8 (Q1 aq))).2.2.1 ∧ (pj4 (pj8 (Q1 e9))).2.2.2.1 = (pj4 (pj8 (Q1 aq))).2.2.2.1 ∧ True ∧ (([]:List SV) = [])) ∧ True ∧ True ∧ True ∧ True ∧ True ∧ True ∧ True ∧ True ∧ True ∧ True ∧ True ∧ True ∧ True ∧ True ∧ True ∧ True ∧ True ∧ True ∧ True ∧ (([]:List SV) = []))) ∧ ((pj8 e9).1 = (pj8 aq).1 ∧ (pj8 e9).2.1 = (pj8 aq).2.1 ∧ (([]:List SV) = [])) ∧ ((pj8 e9).2.2.1 = (pj8 aq).2.2.1 ∧ True ∧ (([]:List SV) = [])) ∧ ((pj8 e9).2.2.2.1 = (pj8 aq).2.2.2.1 ∧ (List.isEmpty (pj8 e9).2.2.2.1) = (List.isEmpty (pj8 aq).2.2.2.1)) ∧ True)) ∧
                    LoopP (fun (d22:Kj × Int × Int × Int × Int × Bool × Int) (jA:(Kj × Int × Int × Int × Int × Bool × Int) → Prop) =>
                      ((decide (d22.2.2.1 > (0:Int))) = true →
                        ∃ (ae:Int × Int × Int × Int × Bool × Int × Int × Int × Int × Int × Bool × Int × Bool × Bool × (List Int) × Int × Int × (List Int) × Int × (List Int) × Int × Int × Int × (List Int) × Int × Int × Bool × Int × Int × Int × (List Int) × Int × Int × Int × Int × Int × Int × Int × Int × Bool × (List Value)) (my:Kj × Int), ((True ∧ d22.2.1 = (pj4 ae).2.1 ∧ (pj4 aq).2.1 = (pj4 ae).2.2.1 ∧ True ∧ (pj4 d22).2.2 = (pj8 ae).2.2.2.1 ∧ (false = (pj4 (pj8 ae)).1 ∧ true = (pj4 (pj8 ae)).2.1 ∧ (([]:List SV) = [])) ∧ (0:Int) = my.2 ∧ True) ∧ ((aq.1 = ae.1 ∧ aq.2.1 = ae.2.1 ∧ aq.2.2.1 = ae.2.2.1 ∧ aq.2.2.2.1 = ae.2.2.2.1 ∧ (pj4 aq).1 = (pj4 ae).1 ∧ True ∧ (([]:List SV) = [])) ∧ (d22.1 = my.1) ∧ (d22.2.2.1 = (pj4 ae).2.2.2.1 ∧ d22.2.2.2.1 = (pj8 ae).1 ∧ (pj4 d22).1 = (pj8 ae).2.1 ∧ (pj4 d22).2.1 = (pj8 ae).2.2.1 ∧ (([]:List SV) = [])) ∧ ((pj8 (Q1 (Q1 ae))) = (Q1 (Q1 aq)) ∧ (True ∧ (pj4 aq).2.2.1 = (pj4 (pj8 ae)).2.2.1 ∧ (pj4 aq).2.2.2.1 = (pj4 (pj8 ae)).2.2.2.1 ∧ True ∧ True ∧ True ∧ True ∧ (pj4 (pj8 aq)).1 = (pj4 (Q1 ae)).1 ∧ True ∧ True ∧ (pj4 (pj8 aq)).2.1 = (pj4 (Q1 ae)).2.1 ∧ (pj4 (pj8 aq)).2.2.1 = (pj4 (Q1 ae)).2.2.1 ∧ True ∧ True ∧ True ∧ True ∧ True ∧ True ∧ True ∧ True ∧ True ∧ True ∧ True ∧ True ∧ True ∧ True ∧ True ∧ True ∧ True ∧ True ∧ True ∧ True ∧ True ∧ True ∧ True ∧ True ∧ True ∧ True ∧ True ∧ True ∧ True ∧ True ∧ True ∧ True ∧ True ∧ True ∧ True ∧ True ∧ (pj4 (pj8 aq)).2.2.2.1 = (pj4 (Q1 ae)).2.2.2.1 ∧ (Q1 aq).1 = (pj8 (Q1 ae)).1 ∧ (Q1 aq).2.1 = (pj8 (Q1 ae)).2.1 ∧ (Q1 aq).2.2.1 = (pj8 (Q1 ae)).2.2.1 ∧ (Q1 aq).2.2.2.1 = (pj8 (Q1 ae)).2.2.2.1 ∧ True ∧ (pj4 (Q1 aq)).1 = (pj4 (pj8 (Q1 ae))).1 ∧ True ∧ (pj4 (Q1 aq)).2.1 = (pj4 (pj8 (Q1 ae))).2.1 ∧ (pj4 (Q1 aq)).2.2.1 = (pj4 (pj8 (Q1 ae))).2.2.1 ∧ (pj4 (Q1 aq)).2.2.2.1 = (pj4 (pj8 (Q1 ae))).2.2.2.1 ∧ True ∧ (pj8 (Q1 aq)).1 = (Q1 (Q1 ae)).1 ∧ True ∧ (pj8 (Q1 aq)).2.1 = (Q1 (Q1 ae)).2.1 ∧ (pj8 (Q1 aq)).2.2.1 = (Q1 (Q1 ae)).2.2.1 ∧ ((pj8 (Q1 aq)).2.2.2.1 = (Q1 (Q1 ae)).2.2.2.1 ∧ (pj4 (pj8 (Q1 aq))).1 = (pj4 (Q1 (Q1 ae))).1 ∧ (pj4 (pj8 (Q1 aq))).2.1 = (pj4 (Q1 (Q1 ae))).2.1 ∧ (pj4 (pj8 (Q1 aq))).2.2.1 = (pj4 (Q1 (Q1 ae))).2.2.1 ∧ (pj4 (pj8 (Q1 aq))).2.2.2.1 = (pj4 (Q1 (Q1 ae))).2.2.2.1 ∧ True ∧ (([]:List SV) = [])) ∧ True ∧ True ∧ True ∧ True ∧ True ∧ True ∧ True ∧ True ∧ True ∧ True ∧ True ∧ True ∧ True ∧ True ∧ True ∧ True ∧ True ∧ True ∧ True ∧ (([]:List SV) = []))) ∧ ((pj8 aq).1 = (Q1 ae).1 ∧ (pj8 aq).2.1 = (Q1 ae).2.1 ∧ (([]:List SV) = [])) ∧ ((pj8 aq).2.2.1 = (Q1 ae).2.2.1 ∧ True ∧ (([]:List SV) = [])) ∧ ((pj8 aq).2.2.2.1 = (Q1 ae).2.2.2.1 ∧ (List.isEmpty (pj8 aq).2.2.2.1) = (List.isEmpty (Q1 ae).2.2.2.1)) ∧ True)) ∧
                        LoopP (fun (d25:Kj × Int) (mw:(Kj × Int) → Prop) =>
                          ((decide (d25.2 < (2:Int))) = true →
                            (0 ≤ d25.2) ∧ (d25.2 < (2:Int)) ∧
                            (d25.2 = (0:Int) →
                               (Pt d25 aq ae jA mw (pj4 (pj8 ae)).1)) ∧
                            (d25.2 = (1:Int) →
                               (Pt d25 aq ae jA mw (pj4 (pj8 ae)).2.1)) ∧
                            True) ∧
                          ((decide (d25.2 < (2:Int))) = false →
                            (∃ d36:Kj × Int × Int × Int × Int × Bool × Int, ((True ∧ (pj4 ae).2.1 = d36.2.1 ∧ (pj4 ae).2.2.1 = (pj4 aq).2.1 ∧ True ∧ (pj8 ae).2.2.2.1 = (pj4 d36).2.2 ∧ True) ∧ ((ae.1 = aq.1 ∧ ae.2.1 = aq.2.1 ∧ ae.2.2.1 = aq.2.2.1 ∧ ae.2.2.2.1 = aq.2.2.2.1 ∧ (pj4 ae).1 = (pj4 aq).1 ∧ True ∧ (([]:List SV) = [])) ∧ (d25.1 = d36.1) ∧ ((pj4 ae).2.2.2.1 = d36.2.2.1 ∧ (pj8 ae).1 = d36.2.2.2.1 ∧ (pj8 ae).2.1 = (pj4 d36).1 ∧ (pj8 ae).2.2.1 = (pj4 d36).2.1 ∧ (([]:List SV) = [])) ∧ ((Q1 (Q1 aq)) = (pj8 (Q1 (Q1 ae))) ∧ (True ∧ (pj4 (pj8 ae)).2.2.1 = (pj4 aq).2.2.1 ∧ (pj4 (pj8 ae)).2.2.2.1 = (pj4 aq).2.2.2.1 ∧ True ∧ True ∧ True ∧ True ∧ (pj4 (Q1 ae)).1 = (pj4 (pj8 aq)).1 ∧ True ∧ True ∧ (pj4 (Q1 ae)).2.1 = (pj4 (pj8 aq)).2.1 ∧ (pj4 (Q1 ae)).2.2.1 = (pj4 (pj8 aq)).2.2.1 ∧ True ∧ True ∧ True ∧ True ∧ True ∧ True ∧ True ∧ True ∧ True ∧ True ∧ True ∧ True ∧ True ∧ True ∧ True ∧ True ∧ True ∧ True ∧ True ∧ True ∧ True ∧ True ∧ True ∧ True ∧ True ∧ True ∧ True ∧ True ∧ True ∧ True ∧ True ∧ True ∧ True ∧ True ∧ True ∧ True ∧ (pj4 (Q1 ae)).2.2.2.1 = (pj4 (pj8 aq)).2.2.2.1 ∧ (pj8 (Q1 ae)).1 = (Q1 aq).1 ∧ (pj8 (Q1 ae)).2.1 = (Q1 aq).2.1 ∧ (pj8 (Q1 ae)).2.2.1 = (Q1 aq).2.2.1 ∧ (pj8 (Q1 ae)).2.2.2.1 = (Q1 aq).2.2.2.1 ∧ True ∧ (pj4 (pj8 (Q1 ae))).1 = (pj4 (Q1 aq)).1 ∧ True ∧ (pj4 (pj8 (Q1 ae))).2.1 = (pj4 (Q1 aq)).2.1 ∧ (pj4 (pj8 (Q1 ae))).2.2.1 = (pj4 (Q1 aq)).2.2.1 ∧ (pj4 (pj8 (Q1 ae))).2.2.2.1 = (pj4 (Q1 aq)).2.2.2.1 ∧ True ∧ (Q1 (Q1 ae)).1 = (pj8 (Q1 aq)).1 ∧ True ∧ (Q1 (Q1 ae)).2.1 = (pj8 (Q1 aq)).2.1 ∧ (Q1 (Q1 ae)).2.2.1 = (pj8 (Q1 aq)).2.2.1 ∧ ((Q1 (Q1 ae)).2.2.2.1 = (pj8 (Q1 aq)).2.2.2.1 ∧ (pj4 (Q1 (Q1 ae))).1 = (pj4 (pj8 (Q1 aq))).1 ∧ (pj4 (Q1 (Q1 ae))).2.1 = (pj4 (pj8 (Q1 aq))).2.1 ∧ (pj4 (Q1 (Q1 ae))).2.2.1 = (pj4 (pj8 (Q1 aq))).2.2.1 ∧ (pj4 (Q1 (Q1 ae))).2.2.2.1 = (pj4 (pj8 (Q1 aq))).2.2.2.1 ∧ True ∧ (([]:List SV) = [])) ∧ True ∧ True ∧ True ∧ True ∧ True ∧ True ∧ True ∧ True ∧ True ∧ True ∧ True ∧ True ∧ True ∧ True ∧ True ∧ True ∧ True ∧ True ∧ True ∧ (([]:List SV) = []))) ∧ ((Q1 ae).1 = (pj8 aq).1 ∧ (Q1 ae).2.1 = (pj8 aq).2.1 ∧ (([]:List SV) = [])) ∧ ((Q1 ae).2.2.1 = (pj8 aq).2.2.1 ∧ True ∧ (([]:List SV) = [])) ∧ ((Q1 ae).2.2.2.1 = (pj8 aq).2.2.2.1 ∧ (List.isEmpty (Q1 ae).2.2.2.1) = (List.isEmpty (pj8 aq).2.2.2.1)) ∧ True)) ∧ jA d36))) my) ∧
                      ((decide (d22.2.2.1 > (0:Int))) = false →
                        (Q1 (Q1 aq)) = w5 ∧ ((decide ((pj4 aq).2.1 ≥ (1048576:Int))) = true →
                          (((Ue hd rows aw bd) ∧ (0:Int) = (Aa hd rows aw bd) ∧ (9:Int) = (Q8 hd rows aw bd) ∧ (([]:List SV) = [])) ∧ (U3 hd rows aw bd))) ∧
                        ((decide ((pj4 aq).2.1 ≥ (1048576:Int))) = false →
                          (((List.length (pj8 aq).2.2.2.1) + (List.length [d22.2.1])) * 8 ≤ 70368744177664) ∧ (I64 ((pj4 (pj8 aq)).1 + (pj4 aq).2.1)) ∧ (I64 ((Q1 aq).2.1 + (1:Int))) ∧ (∃ d37:(List Int) × Int × Int, (((pj4 aq).2.2.1 = aw ∧ (pj4 aq).2.2.2.1 = bd ∧ True ∧ True ∧ ((pj4 (pj8 aq)).1 + (pj4 aq).2.1) = d37.2.1 ∧ (pj4 (pj8 aq)).2.2.2.1 = rows ∧ (Q1 aq).1 = (lI rows) ∧ ((Q1 aq).2.1 + (1:Int)) = d37.2.2 ∧ True) ∧ (((pj8 aq).1 = hd ∧ (pj8 aq).2.1 = rows ∧ (([]:List SV) = [])) ∧ ((pj8 aq).2.2.1 = hd ∧ True ∧ (([]:List SV) = [])) ∧ (((pj8 aq).2.2.2.1 ++ [d22.2.1]) = d37.1 ∧ false = (List.isEmpty d37.1)) ∧ True)) ∧ q4 d37)))) fI))) d90) ∧
            ((decide (d4.2.2 < (lI rows))) = false →
              (((hd = (if Q8 hd rows aw bd = 0 then hd else 0) ∧ True ∧ (([]:List SV) = [])) ∧ d4.2.1 = (Aa hd rows aw bd) ∧ (0:Int) = (Q8 hd rows aw bd) ∧ (([]:List SV) = [])) ∧ ((d4.1 = (Jb hd rows aw bd) ∧ (List.isEmpty d4.1) = (Jb hd rows aw bd).isEmpty) ∧ True)))) d40))))
def Qq:Cx:=⟨[(1000008,(.pair (.pair (.i .i64) (.pair (.i .i64) (.pair (.i .i64) .bo))) (.i .i64)))],[],20,[],0,[],[],[],[],false,[],[],[],[]⟩
def Qp:List (Nat×LoopAnn):=[]
def Zh:Cx:=⟨[],[(77,ZF),(79,Ug),(80,ZB)],102,[],0,[(76,Q55 Qq (fun _=>Qp) c76 [.cell 4 true 4] 20),(78,Ja)],[],[],[],false,[],[],[81],[(78,5)]⟩
def Zq:List (Nat×LoopAnn):=[(0,⟨Int×Int×Int×Int×Bool×Bool×(List Int)×Int×Int×(List Int)×Int×(List Int)×Int×Int×Int×(List Int)×Int×Int×Bool×Int×Int×Int×(List Int)×Int×Int×Int×Int×Int×Int×Int×Int×Bool×(List Value),Bool×Int×Int×Int×Int×Bool×Int,[0,3,4,15,16],fun e x=>[.box 65 0,.val (.i .i64) x.2.1,.box 6700004 0,.agg [.val .bo e.2.2.2.2.1,.val .bo e.2.2.2.2.2.1],.val (.i .i64) x.2.2.2.2.2.2],fun e x=>[(65,.slot 0,.cells [.val (.i .i64) e.1,.val (.i .i64) e.2.1,.val (.i .i64) e.2.2.1,.val (.i .i64) e.2.2.2.1,.val .bo x.1,.any] (some 119)),(6700004,.slot 4,.cells [.val (.i .i64) x.2.2.1,.val (.i .i64) x.2.2.2.1,.val (.i .i64) x.2.2.2.2.1,.val .bo x.2.2.2.2.2.1] (some 155)),(6699999,.key 6699999,.stk [.any,.val (.list (.i .i64)) e.2.2.2.2.2.2.1,.val (.i .i64) e.2.2.2.2.2.2.2.1,.box 3 0,.any,.any,.box 6 0,.val (.i .i64) e.2.2.2.2.2.2.2.2.2.2.2.2.1,.any,.any,.val (.i .i64) e.2.2.2.2.2.2.2.2.2.2.2.2.2.1,.val (.i .i64) e.2.2.2.2.2.2.2.2.2.2.2.2.2.2.1,.any,.any,.any,.any,.any,.any,.any,.any,.any,.any,.any,.any,.any,.any,.any,.any,.any,.any,.any,.any,.any,.any,.any,.any,.any,.any,.any,.any,.any,.any,.any,.any,.any,.any,.any,.any,.val (.list (.i .i64)) e.2.2.2.2.2.2.2.2.2.2.2.2.2.2.2.1,.val (.i .i64) e.2.2.2.2.2.2.2.2.2.2.2.2.2.2.2.2.1,.val (.i .i64) e.2.2.2.2.2.2.2.2.2.2.2.2.2.2.2.2.2.1,.val .bo e.2.2.2.2.2.2.2.2.2.2.2.2.2.2.2.2.2.2.1,.val (.i .i64) e.2.2.2.2.2.2.2.2.2.2.2.2.2.2.2.2.2.2.2.1,.any,.val (.i .i64) e.2.2.2.2.2.2.2.2.2.2.2.2.2.2.2.2.2.2.2.2.1,.any,.val (.i .i64) e.2.2.2.2.2.2.2.2.2.2.2.2.2.2.2.2.2.2.2.2.2.1,.val (.list (.i .i64)) e.2.2.2.2.2.2.2.2.2.2.2.2.2.2.2.2.2.2.2.2.2.2.1,.val (.i .i64) e.2.2.2.2.2.2.2.2.2.2.2.2.2.2.2.2.2.2.2.2.2.2.2.1,.any,.val (.i .i64) e.2.2.2.2.2.2.2.2.2.2.2.2.2.2.2.2.2.2.2.2.2.2.2.2.1,.box 3 0,.val (.i .i64) e.2.2.2.2.2.2.2.2.2.2.2.2.2.2.2.2.2.2.2.2.2.2.2.2.2.1,.val (.i .i64) e.2.2.2.2.2.2.2.2.2.2.2.2.2.2.2.2.2.2.2.2.2.2.2.2.2.2.1,.agg [.val (.i .i64) e.2.2.2.2.2.2.2.2.2.2.2.2.2.2.2.2.2.2.2.2.2.2.2.2.2.2.2.1,.val (.i .i64) e.2.2.2.2.2.2.2.2.2.2.2.2.2.2.2.2.2.2.2.2.2.2.2.2.2.2.2.2.1,.val (.i .i64) e.2.2.2.2.2.2.2.2.2.2.2.2.2.2.2.2.2.2.2.2.2.2.2.2.2.2.2.2.2.1,.val (.i .i64) e.2.2.2.2.2.2.2.2.2.2.2.2.2.2.2.2.2.2.2.2.2.2.2.2.2.2.2.2.2.2.1,.val .bo e.2.2.2.2.2.2.2.2.2.2.2.2.2.2.2.2.2.2.2.2.2.2.2.2.2.2.2.2.2.2.2.1,.nilM],.box 65 0,.any,.any,.any,.any,.any,.any,.any,.any,.any,.any,.any,.any,.any,.any,.any,.any,.any,.any] e.2.2.2.2.2.2.2.2.2.2.2.2.2.2.2.2.2.2.2.2.2.2.2.2.2.2.2.2.2.2.2.2),(3,.key 3,.cells [.val (.i .i64) e.2.2.2.2.2.2.2.2.1,.val (.list (.i .i64)) e.2.2.2.2.2.2.2.2.2.1] (some 30)),(6,.key 6,.cells [.val (.i .i64) e.2.2.2.2.2.2.2.2.2.2.1,.lst 76] (some 30)),(76,.cell 6 1,.lst 3 (.i .i64) e.2.2.2.2.2.2.2.2.2.2.2.1 (List.isEmpty e.2.2.2.2.2.2.2.2.2.2.2.1))]⟩),
 (2,⟨Int×Int×Int×Int×Bool×Int×(List Int)×Int×Int×(List Int)×Int×(List Int)×Int×Int×Int×(List Int)×Int×Int×Bool×Int×Int×Int×(List Int)×Int×Int×Int×Int×Int×Int×Int×Int×Bool×(List Value),(List ((Int×Int×Int×Bool)×Int))×Int×Int×Int×Int×Bool×Int,[0,2,3,4,9],fun e x=>[.box 65 0,.val (.i .i64) x.2.1,.val (.i .i64) e.2.2.2.2.2.1,.box 6700004 0,.val (.i .i64) x.2.2.2.2.2.2],fun e x=>[(65,.slot 0,.cells [.val (.i .i64) e.1,.val (.i .i64) e.2.1,.val (.i .i64) e.2.2.1,.val (.i .i64) e.2.2.2.1,.val .bo e.2.2.2.2.1,.map 670004600008] (some 119)),(670004600008,.cell 65 5,.map (.pair (.i .i64) (.pair (.i .i64) (.pair (.i .i64) .bo))) (.i .i64) x.1),(6700004,.slot 4,.cells [.val (.i .i64) x.2.2.1,.val (.i .i64) x.2.2.2.1,.val (.i .i64) x.2.2.2.2.1,.val .bo x.2.2.2.2.2.1] (some 155)),(6699999,.key 6699999,.stk [.any,.val (.list (.i .i64)) e.2.2.2.2.2.2.1,.val (.i .i64) e.2.2.2.2.2.2.2.1,.box 3 0,.any,.any,.box 6 0,.val (.i .i64) e.2.2.2.2.2.2.2.2.2.2.2.2.1,.any,.any,.val (.i .i64) e.2.2.2.2.2.2.2.2.2.2.2.2.2.1,.val (.i .i64) e.2.2.2.2.2.2.2.2.2.2.2.2.2.2.1,.any,.any,.any,.any,.any,.any,.any,.any,.any,.any,.any,.any,.any,.any,.any,.any,.any,.any,.any,.any,.any,.any,.any,.any,.any,.any,.any,.any,.any,.any,.any,.any,.any,.any,.any,.any,.val (.list (.i .i64)) e.2.2.2.2.2.2.2.2.2.2.2.2.2.2.2.1,.val (.i .i64) e.2.2.2.2.2.2.2.2.2.2.2.2.2.2.2.2.1,.val (.i .i64) e.2.2.2.2.2.2.2.2.2.2.2.2.2.2.2.2.2.1,.val .bo e.2.2.2.2.2.2.2.2.2.2.2.2.2.2.2.2.2.2.1,.val (.i .i64) e.2.2.2.2.2.2.2.2.2.2.2.2.2.2.2.2.2.2.2.1,.any,.val (.i .i64) e.2.2.2.2.2.2.2.2.2.2.2.2.2.2.2.2.2.2.2.2.1,.any,.val (.i .i64) e.2.2.2.2.2.2.2.2.2.2.2.2.2.2.2.2.2.2.2.2.2.1,.val (.list (.i .i64)) e.2.2.2.2.2.2.2.2.2.2.2.2.2.2.2.2.2.2.2.2.2.2.1,.val (.i .i64) e.2.2.2.2.2.2.2.2.2.2.2.2.2.2.2.2.2.2.2.2.2.2.2.1,.any,.val (.i .i64) e.2.2.2.2.2.2.2.2.2.2.2.2.2.2.2.2.2.2.2.2.2.2.2.2.1,.box 3 0,.val (.i .i64) e.2.2.2.2.2.2.2.2.2.2.2.2.2.2.2.2.2.2.2.2.2.2.2.2.2.1,.val (.i .i64) e.2.2.2.2.2.2.2.2.2.2.2.2.2.2.2.2.2.2.2.2.2.2.2.2.2.2.1,.agg [.val (.i .i64) e.2.2.2.2.2.2.2.2.2.2.2.2.2.2.2.2.2.2.2.2.2.2.2.2.2.2.2.1,.val (.i .i64) e.2.2.2.2.2.2.2.2.2.2.2.2.2.2.2.2.2.2.2.2.2.2.2.2.2.2.2.2.1,.val (.i .i64) e.2.2.2.2.2.2.2.2.2.2.2.2.2.2.2.2.2.2.2.2.2.2.2.2.2.2.2.2.2.1,.val (.i .i64) e.2.2.2.2.2.2.2.2.2.2.2.2.2.2.2.2.2.2.2.2.2.2.2.2.2.2.2.2.2.2.1,.val .bo e.2.2.2.2.2.2.2.2.2.2.2.2.2.2.2.2.2.2.2.2.2.2.2.2.2.2.2.2.2.2.2.1,.nilM],.box 65 0,.any,.any,.any,.any,.any,.any,.any,.any,.any,.any,.any,.any,.any,.any,.any,.any,.any,.any] e.2.2.2.2.2.2.2.2.2.2.2.2.2.2.2.2.2.2.2.2.2.2.2.2.2.2.2.2.2.2.2.2),(3,.key 3,.cells [.val (.i .i64) e.2.2.2.2.2.2.2.2.1,.val (.list (.i .i64)) e.2.2.2.2.2.2.2.2.2.1] (some 30)),(6,.key 6,.cells [.val (.i .i64) e.2.2.2.2.2.2.2.2.2.2.1,.lst 76] (some 30)),(76,.cell 6 1,.lst 3 (.i .i64) e.2.2.2.2.2.2.2.2.2.2.2.1 (List.isEmpty e.2.2.2.2.2.2.2.2.2.2.2.1))]⟩),
 (4,⟨Int×Int×Int×Int×Bool×Int×Int×Int×Int×Int×Bool×Int×Bool×Bool×(List Int)×Int×Int×(List Int)×Int×(List Int)×Int×Int×Int×(List Int)×Int×Int×Bool×Int×Int×Int×(List Int)×Int×Int×Int×Int×Int×Int×Int×Int×Bool×(List Value),(List ((Int×Int×Int×Bool)×Int))×Int,[0,2,3,4,9,63,64],fun e x=>[.box 65 0,.val (.i .i64) e.2.2.2.2.2.1,.val (.i .i64) e.2.2.2.2.2.2.1,.box 6700004 0,.val (.i .i64) e.2.2.2.2.2.2.2.2.2.2.2.1,.agg [.val .bo e.2.2.2.2.2.2.2.2.2.2.2.2.1,.val .bo e.2.2.2.2.2.2.2.2.2.2.2.2.2.1],.val (.i .i64) x.2],fun e x=>[(65,.slot 0,.cells [.val (.i .i64) e.1,.val (.i .i64) e.2.1,.val (.i .i64) e.2.2.1,.val (.i .i64) e.2.2.2.1,.val .bo e.2.2.2.2.1,.map 670004600008] (some 119)),(670004600008,.cell 65 5,.map (.pair (.i .i64) (.pair (.i .i64) (.pair (.i .i64) .bo))) (.i .i64) x.1),(6700004,.slot 4,.cells [.val (.i .i64) e.2.2.2.2.2.2.2.1,.val (.i .i64) e.2.2.2.2.2.2.2.2.1,.val (.i .i64) e.2.2.2.2.2.2.2.2.2.1,.val .bo e.2.2.2.2.2.2.2.2.2.2.1] (some 155)),(6699999,.key 6699999,.stk [.any,.val (.list (.i .i64)) e.2.2.2.2.2.2.2.2.2.2.2.2.2.2.1,.val (.i .i64) e.2.2.2.2.2.2.2.2.2.2.2.2.2.2.2.1,.box 3 0,.any,.any,.box 6 0,.val (.i .i64) e.2.2.2.2.2.2.2.2.2.2.2.2.2.2.2.2.2.2.2.2.1,.any,.any,.val (.i .i64) e.2.2.2.2.2.2.2.2.2.2.2.2.2.2.2.2.2.2.2.2.2.1,.val (.i .i64) e.2.2.2.2.2.2.2.2.2.2.2.2.2.2.2.2.2.2.2.2.2.2.1,.any,.any,.any,.any,.any,.any,.any,.any,.any,.any,.any,.any,.any,.any,.any,.any,.any,.any,.any,.any,.any,.any,.any,.any,.any,.any,.any,.any,.any,.any,.any,.any,.any,.any,.any,.any,.val (.list (.i .i64)) e.2.2.2.2.2.2.2.2.2.2.2.2.2.2.2.2.2.2.2.2.2.2.2.1,.val (.i .i64) e.2.2.2.2.2.2.2.2.2.2.2.2.2.2.2.2.2.2.2.2.2.2.2.2.1,.val (.i .i64) e.2.2.2.2.2.2.2.2.2.2.2.2.2.2.2.2.2.2.2.2.2.2.2.2.2.1,.val .bo e.2.2.2.2.2.2.2.2.2.2.2.2.2.2.2.2.2.2.2.2.2.2.2.2.2.2.1,.val (.i .i64) e.2.2.2.2.2.2.2.2.2.2.2.2.2.2.2.2.2.2.2.2.2.2.2.2.2.2.2.1,.any,.val (.i .i64) e.2.2.2.2.2.2.2.2.2.2.2.2.2.2.2.2.2.2.2.2.2.2.2.2.2.2.2.2.1,.any,.val (.i .i64) e.2.2.2.2.2.2.2.2.2.2.2.2.2.2.2.2.2.2.2.2.2.2.2.2.2.2.2.2.2.1,.val (.list (.i .i64)) e.2.2.2.2.2.2.2.2.2.2.2.2.2.2.2.2.2.2.2.2.2.2.2.2.2.2.2.2.2.2.1,.val (.i .i64) e.2.2.2.2.2.2.2.2.2.2.2.2.2.2.2.2.2.2.2.2.2.2.2.2.2.2.2.2.2.2.2.1,.any,.val (.i .i64) e.2.2.2.2.2.2.2.2.2.2.2.2.2.2.2.2.2.2.2.2.2.2.2.2.2.2.2.2.2.2.2.2.1,.box 3 0,.val (.i .i64) e.2.2.2.2.2.2.2.2.2.2.2.2.2.2.2.2.2.2.2.2.2.2.2.2.2.2.2.2.2.2.2.2.2.1,.val (.i .i64) e.2.2.2.2.2.2.2.2.2.2.2.2.2.2.2.2.2.2.2.2.2.2.2.2.2.2.2.2.2.2.2.2.2.2.1,.agg [.val (.i .i64) e.2.2.2.2.2.2.2.2.2.2.2.2.2.2.2.2.2.2.2.2.2.2.2.2.2.2.2.2.2.2.2.2.2.2.2.1,.val (.i .i64) e.2.2.2.2.2.2.2.2.2.2.2.2.2.2.2.2.2.2.2.2.2.2.2.2.2.2.2.2.2.2.2.2.2.2.2.2.1,.val (.i .i64) e.2.2.2.2.2.2.2.2.2.2.2.2.2.2.2.2.2.2.2.2.2.2.2.2.2.2.2.2.2.2.2.2.2.2.2.2.2.1,.val (.i .i64) e.2.2.2.2.2.2.2.2.2.2.2.2.2.2.2.2.2.2.2.2.2.2.2.2.2.2.2.2.2.2.2.2.2.2.2.2.2.2.1,.val .bo e.2.2.2.2.2.2.2.2.2.2.2.2.2.2.2.2.2.2.2.2.2.2.2.2.2.2.2.2.2.2.2.2.2.2.2.2.2.2.2.1,.nilM],.box 65 0,.any,.any,.any,.any,.any,.any,.any,.any,.any,.any,.any,.any,.any,.any,.any,.any,.any,.any] e.2.2.2.2.2.2.2.2.2.2.2.2.2.2.2.2.2.2.2.2.2.2.2.2.2.2.2.2.2.2.2.2.2.2.2.2.2.2.2.2),(3,.key 3,.cells [.val (.i .i64) e.2.2.2.2.2.2.2.2.2.2.2.2.2.2.2.2.1,.val (.list (.i .i64)) e.2.2.2.2.2.2.2.2.2.2.2.2.2.2.2.2.2.1] (some 30)),(6,.key 6,.cells [.val (.i .i64) e.2.2.2.2.2.2.2.2.2.2.2.2.2.2.2.2.2.2.1,.lst 76] (some 30)),(76,.cell 6 1,.lst 3 (.i .i64) e.2.2.2.2.2.2.2.2.2.2.2.2.2.2.2.2.2.2.2.1 (List.isEmpty e.2.2.2.2.2.2.2.2.2.2.2.2.2.2.2.2.2.2.2.1))]⟩)]
def UC:Cx:=⟨[(3,(.i .i64))],[(47,YD),(52,Xa)],84,[],0,[(53,Q55 Zh (fun _=>Zq) c53 [.tmp 2,.tmp 3] 102)],[],[],[],false,[],[],[],[]⟩
def Pd (hd:Int) (rows:List Int) (aw:List Int) (bd:Int):List (Nat×LoopAnn):=[(1,⟨Unit,(List Int)×Int×Int,[1,2,3,6,7,48,49,50],fun e x=>[.val (.list (.i .i64)) aw,.val (.i .i64) bd,.box 3 0,.box 6 0,.val (.i .i64) x.2.1,.val (.list (.i .i64)) rows,.val (.i .i64) (((List.length rows):Nat):Int),.val (.i .i64) x.2.2],fun e x=>[(3,.slot 3,.cells [.val (.i .i64) hd,.val (.list (.i .i64)) rows] (some 30)),(6,.slot 6,.cells [.val (.i .i64) hd,.lst 76] (some 30)),(76,.cell 6 1,.lst 3 (.i .i64) x.1 (List.isEmpty x.1))]⟩)]
theorem Hy (d:(Int×List Int)×List Int×Int):gwp (UC) (Pd d.1.1 d.1.2 d.2.1 d.2.2) c29 0 (Vt [.cell 6 true 2,.tmp 7,.tmp 8] (VR d) (VT d)) (QL 84 (AL.can Uy d))=XQ d.1.1 d.1.2 d.2.1 d.2.2:=by kernel_rfl
abbrev HI:Prop:=OkC Tryz.prog 29 Kg
theorem Pj (h:∀ (hd:Int) (rows:List Int) (aw:List Int) (bd:Int),(rows.length≤1000∧aw.length≤1000)→XQ hd rows aw bd):OkC Tryz.prog 29 Kg :=
 Z3 OW mixed (C:=UC) (V:=fun (d:(Int×List Int)×List Int×Int)=>XQ d.1.1 d.1.2 d.2.1 d.2.2) ⟨(.cons Bx (.cons Ky .nil)),(XsOk.cons (RF OM mixed (C:=Zh) ⟨(.cons XE (.cons Tb (.cons XD .nil))),(XsOk.cons (RF Q1h mixed (C:=Qq) ⟨.nil,XsOk.nil,ItsOk.nil,YlOk.nil,IysOk.nil,XfOk.nil⟩ (fun _=>Qp)) (XsOk.cons JU.1 XsOk.nil)),ItsOk.nil,YlOk.nil,IysOk.nil,(XfOk.cons rfl JU.2 XfOk.nil)⟩ (fun _=>Zq)) XsOk.nil),ItsOk.nil,YlOk.nil,IysOk.nil,XfOk.nil⟩ (Hy) fun d hp=>h d.1.1 d.1.2 d.2.1 d.2.2 hp
theorem Q7l (n a b:Int):(!inI n a b)=(decide (n<a)||decide (b<n)):=by unfold inI;rw[Bool.not_and,←decide_not,←decide_not];congr 1<;>(rw[decide_eq_decide];omega)
theorem FV (l:List Int) (a:Int):(l++[a]).isEmpty=false:=by cases l<;>rfl
theorem Fp {hd:Int}{rows aw:List Int}{bd E:Int}(h:Q8 hd rows aw bd=E) (h0:E≠0):((0:Int)=if Q8 hd rows aw bd=0 then hd else 0)∧(0:Int)=Aa hd rows aw bd∧E=Q8 hd rows aw bd∧Jb hd rows aw bd=[]∧(Jb hd rows aw bd).isEmpty=true:=by
 have e:Jb hd rows aw bd=[]:=by unfold Jb;rw[if_neg (by omega)]
 exact⟨by rw[if_neg (by omega)],by unfold Aa;rw[if_neg (by omega)],h.symm,e,by rw[e];rfl⟩
theorem IP {r:Nat}(hr:r<16777216) (b:Bool):W_ .or .i64 (WO .i64 (r:Int) 1) (if b=true then 1 else 0)=((2*r+(if b=true then 1 else 0):Nat):Int)∧InK .i64 (WO .i64 (r:Int) 1):=by
 have e1:WO .i64 (r:Int) 1=((2*r:Nat):Int):=by show (r:Int)*2 ^ (Nat.min (1:Int).toNat 64)=_;rw[show Nat.min (1:Int).toNat 64=1 from rfl];omega
 rw[e1];refine⟨?_,by rw[Q7];omega⟩;have e3:∀ c:Nat,c<2→W_ .or .i64 ((2*r:Nat):Int) (c:Int)=((2*r+c:Nat):Int):=fun c hc=>by
  have e:(BitVec.ofInt 64 ((2*r:Nat):Int) ||| BitVec.ofInt 64 ((c:Nat):Int)).toNat=2*r+c:=by
   rw[BitVec.toNat_or,BitVec.toNat_ofInt,BitVec.toNat_ofInt];have h1:(((2*r:Nat):Int) % ((2 ^ 64:Nat):Int)).toNat=2 ^ 1*r:=by omega
   have h2:(((c:Nat):Int) % ((2 ^ 64:Nat):Int)).toNat=c:=by omega
   rw[h1,h2,←Nat.two_pow_add_eq_or_of_lt (by omega)]
  show IntKind.wrap .i64 ((BitVec.ofInt 64 ((2*r:Nat):Int) ||| BitVec.ofInt 64 ((c:Nat):Int)).toNat:Int)=_;rw[e];simp[IntKind.wrap,IntKind.bits,IntKind.signed];omega
 cases b with
 |true=>exact e3 1 (by omega)
 |false=>exact e3 0 (by omega)
theorem E0 {hd:Int}{rows aw:List Int}{bd:Int}{i:Nat}(hi:i<rows.length) (h:1048576≤Cm hd rows aw bd i):NL hd rows aw bd=true:=by unfold NL;rw[List.any_eq_true];exact⟨i,List.mem_range.2 hi,by rw[decide_eq_true_eq];exact h⟩
theorem ED {hd:Int}{rows aw:List Int}{bd:Int}(h:∀ i,i<rows.length→Cm hd rows aw bd i<1048576):NL hd rows aw bd=false:=by unfold NL;rw[List.any_eq_false];intro i hi;have:=h i (List.mem_range.1 hi);rw[decide_eq_true_eq];omega
theorem SF (hd:Int) (rows aw:List Int) (bd:Int):∀ n,(∀ j,j<n→Cm hd rows aw bd j<1048576)→0≤Na hd rows aw bd n∧Na hd rows aw bd n≤1048576*n
 |0,_=>by simp[Na]
 |n+1,h=>by
  have ih:=SF hd rows aw bd n fun j hj=>h j (by omega);have h1:=h n (by omega);have h0:0≤Cm hd rows aw bd n:=by have s1:=(W0 (rows.getD n 0).toNat (aw.getD n 0).toNat bd.toNat true (hd.toNat-1) 1 0 true).1;have s2:=(W0 (rows.getD n 0).toNat (aw.getD n 0).toNat bd.toNat false (hd.toNat-1) 1 0 false).1;have c1:=(Jl (rows.getD n 0).toNat (aw.getD n 0).toNat (hd.toNat-1) true).1;have c2:=(Jl (rows.getD n 0).toNat (aw.getD n 0).toNat (hd.toNat-1) false).1;unfold Cm XJ JV;rw[Xb];split<;>omega
  unfold Na;omega
set_option maxHeartbeats 4000000 in
theorem HL:HI:=Pj fun hd rows aw bd h=>by
 unfold XQ;delta SP Sy P0 Pt Ue Kj U3;(try delta lI gD sT I64 Q1 pj8 pj4);have e:∀ n a b:Int,(decide (n<a)||decide (b<n))=!inI n a b:=fun n a b=>(Q7l n a b).symm;simp only[List.any_cons,List.any_nil,Bool.or_false,e,Bool.not_not,List.length_cons,List.length_nil,true_and,and_true];have fail:∀ E:Int,Q8 hd rows aw bd=E→E≠0→_:=fun E h h0=>Fp h h0;refine⟨by omega,fun c=>?_,fun c=>⟨fun c2=>?_,fun c2=>?_⟩⟩
 ·have c:Qn hd rows≠0:=by simpa using c
  obtain⟨f1,f2,f3,f4,f5⟩:=fail _ (show Q8 hd rows aw bd=Qn hd rows by unfold Q8;rw[if_pos c]) c;and_intros<;>first|exact f1|exact f2|exact f3|exact f4|exact f5|trivial
 all_goals have c:Qn hd rows=0:=by simpa using c
 ·have c2:aw.length≠rows.length:=fun h=>by rw[h] at c2;simp at c2
  obtain⟨f1,f2,f3,f4,f5⟩:=fail 4 (show Q8 hd rows aw bd=4 by unfold Q8;rw[if_neg (by omega),if_pos c2]) (by decide);and_intros<;>first|exact f1|exact f2|exact f3|exact f4|exact f5|trivial
 have c2:aw.length=rows.length:=by
  apply Classical.byContradiction;intro h;have:((((aw.length:Nat):Int)) != ((rows.length:Nat):Int))=true:=by rw[bne_iff_ne];omega
  rw[this] at c2;cases c2
 obtain⟨p1,p2,p3,p4,p5⟩:=Q81 c;have hp:=KE p1 p2;have sh:WO .i64 1 hd=2 ^ hd.toNat:=GQ (by omega) (by omega);rw[sh];refine⟨by omega,by rw[Q7];omega,by rw[Q7];omega,by omega,fun c3=>?_,fun c3=>⟨by omega,fun c4=>?_,fun c4=>?_⟩⟩
 ·obtain⟨f1,f2,f3,f4,f5⟩:=fail 2 (show Q8 hd rows aw bd=2 by unfold Q8;rw[if_neg (by omega),if_neg (by omega),if_pos c3]) (by decide);and_intros<;>first|exact f1|exact f2|exact f3|exact f4|exact f5|trivial
 ·have c4:inI bd 1 24=false:=by simpa using c4
  obtain⟨f1,f2,f3,f4,f5⟩:=fail 3 (show Q8 hd rows aw bd=3 by unfold Q8;rw[if_neg (by omega),if_neg (by omega),if_neg (by rw[c3];decide),if_pos c4]) (by decide);and_intros<;>first|exact f1|exact f2|exact f3|exact f4|exact f5|trivial
 have c4:inI bd 1 24=true:=by simpa using c4
 have nX:1≤bd∧bd≤24:=by unfold inI at c4;simpa using c4
 have jl:∀ x∈aw,0≤x∧x<16777216:=fun x hx=>by have h1:=List.any_eq_false.1 c3 x hx;unfold inI at h1;simp only[Bool.not_eq_true,Bool.not_eq_false',Bool.and_eq_true,decide_eq_true_eq] at h1;omega
 have eb:Q8 hd rows aw bd=if NL hd rows aw bd=true then 9 else 0:=by unfold Q8;rw[if_neg (by omega),if_neg (by omega),if_neg (by rw[c3];decide),if_neg (by rw[c4];decide)]
 clear c3 c4 sh;obtain⟨H,rfl⟩:=Int.eq_ofNat_of_zero_le (show 0≤hd by omega);obtain⟨B,rfl⟩:=Int.eq_ofNat_of_zero_le (show 0≤bd by omega);refine⟨(),([],0,0),by and_intros<;>first|rfl|trivial,?_⟩;refine⟨fun d=>∃ i:Nat,i≤rows.length∧(∀ j,j<i→Cm H rows aw B j<1048576)∧d=(Nm H rows aw B i,Na H rows aw B i,(i:Int)),fun d=>rows.length-d.2.2.toNat,⟨0,by omega,fun j hj=>by omega,rfl⟩,?_⟩;rintro _ ⟨i,hi,hall,rfl⟩;dsimp only;refine⟨fun g=>?_,fun g=>?_⟩
 ·have g:i<rows.length:=by have:=of_decide_eq_true g;omega
  have nb:=SF H rows aw B i hall;have wl:=AN H rows aw B i;have hR:0≤rows.getD i 0∧rows.getD i 0<16777216:=by have:=p5 (rows.getD i 0) (by rw[Qw g];exact List.getElem_mem g);omega
  have hX:0≤aw.getD i 0∧aw.getD i 0<16777216:=jl (aw.getD i 0) (by rw[Qw (show i<aw.length by omega)];exact List.getElem_mem _);have hC:Cm H rows aw B i=XJ (rows.getD i 0).toNat (aw.getD i 0).toNat B H:=rfl;have hW:Q57 H rows aw B i=((YY (rows.getD i 0).toNat (aw.getD i 0).toNat B H:Nat):Int):=rfl;have dt:∀ j,j<i+1→Cm H rows aw B i<1048576→Cm H rows aw B j<1048576:=fun j hj h=>by
   by_cases e:j=i
   ·subst e;exact h
   ·exact hall j (by omega)
  have ws:=A3 H rows aw B i;have ns:Na H rows aw B (i+1)=Na H rows aw B i+Cm H rows aw B i:=rfl;simp only[Int.toNat_natCast];refine⟨by omega,by omega,by omega,by omega,fun w5=>?_⟩;generalize rows.getD i 0=R at *
  generalize aw.getD i 0=X at *
  have o7:∀ tp k ln fi lt,0≤Qc R.toNat X.toNat B tp k ln fi lt∧Qc R.toNat X.toNat B tp k ln fi lt≤1048576:=fun tp k ln fi lt=>W0 _ _ _ _ _ _ _ _;have cin:∀ k b,0≤Qz R.toNat X.toNat k b∧Qz R.toNat X.toNat k b≤1048576:=fun k b=>Jl _ _ _ _;have eH:((H:Int)-1).toNat=H-1:=by omega
  have eS:∀ tp,JV R.toNat X.toNat B H tp=Qz R.toNat X.toNat (H-1) tp+Qc R.toNat X.toNat B tp (H-1) 1 0 tp:=fun _=>rfl;refine⟨(R,X,(H:Int),(B:Int),false,true,aw,(B:Int),(H:Int),rows,(H:Int),Nm H rows aw B i,Na H rows aw B i,(i:Int),R,rows,(rows.length:Int),(i:Int),decide ((i:Int)<(rows.length:Int)),(i:Int),R,R,aw,(i:Int),X,(H:Int),(B:Int),R,X,(H:Int),(B:Int),false,w5),(false,1048576,0,0,0,false,0),by and_intros<;>first|rfl|trivial,?_⟩;dsimp only;simp only[eH,Int.toNat_natCast,show (1:Int).toNat=1 from rfl,show (0:Int).toNat=0 from rfl,←eS];refine⟨fun d=>d.2.2.2.2.2.2=0∧d=(false,1048576,0,0,0,false,0)∨d.2.2.2.2.2.2=1∧d.2.1=Cb (JV R.toNat X.toNat B H false) 1048576∧(d.2.1<1048576→d.2.2=((H:Int)-1,1,0,false,1))∨d.2.2.2.2.2.2=2∧d.2.1=XJ R.toNat X.toNat B H∧(d.2.1<1048576→d.2.2=((H:Int)-1,1,0,U6 R.toNat X.toNat B H,2)),fun d=>2-d.2.2.2.2.2.2.toNat,.inl ⟨rfl,rfl⟩,?_⟩;rintro⟨x3,ch,pZ,p6,p7,p8,q⟩ hq;dsimp only at hq ⊢;refine⟨fun g2=>?_,fun g2=>?_⟩
  ·have g2:=of_decide_eq_true g2;refine⟨by omega,by omega,fun q0=>?_,fun q1=>?_⟩
   ·subst q0;have ep:ch=1048576:=by
     rcases hq with⟨_,hq⟩|⟨hq,_⟩|⟨hq,_⟩
     ·cases hq;rfl
     ·omega
     ·omega
    have s1:=o7 false (H-1) 1 0 false;have s2:=cin (H-1) false;intro xn;refine⟨by rw[Q7];omega,by rw[Q7];omega,⟨hR,hX,by omega,by omega⟩,⟨hR,hX,by omega,by omega,by omega,by omega,P7 _ _ _ _⟩,fun xp _=>⟨by rw[Q7,eS];omega,fun c5=>⟨by rw[Q7];omega,(false,JV R.toNat X.toNat B H false,(H:Int)-1,1,0,false,1),by and_intros<;>first|rfl|trivial,.inr (.inl ⟨rfl,?_,fun _=>rfl⟩),by dsimp only;decide⟩,fun c5=>⟨by rw[Q7];omega,(false,ch,pZ,p6,p7,p8,1),by and_intros<;>first|rfl|trivial,.inr (.inl ⟨rfl,?_,fun h=>?_⟩),by dsimp only;decide⟩⟩⟩
    ·have c5:=of_decide_eq_true c5;dsimp only;rw[Xb];omega
    ·have c5:=of_decide_eq_false c5;dsimp only;rw[Xb];omega
    ·dsimp only at h;omega
   ·subst q1;obtain⟨dG,eU⟩:ch=Cb (JV R.toNat X.toNat B H false) 1048576∧(ch<1048576→(pZ,p6,p7,p8,(1:Int))=((H:Int)-1,1,0,false,1)):=by
     rcases hq with⟨hq,_⟩|⟨_,hq⟩|⟨hq,_⟩
     ·omega
     ·exact hq
     ·omega
    have s1:=o7 true (H-1) 1 0 true;have s2:=cin (H-1) true;intro xn;refine⟨by rw[Q7];omega,by rw[Q7];omega,⟨hR,hX,by omega,by omega⟩,⟨hR,hX,by omega,by omega,by omega,by omega,P7 _ _ _ _⟩,fun xp _=>⟨by rw[Q7,eS];omega,fun c5=>⟨by rw[Q7];omega,(true,JV R.toNat X.toNat B H true,(H:Int)-1,1,0,true,2),by and_intros<;>first|rfl|trivial,.inr (.inr ⟨rfl,?_,fun _=>?_⟩),by dsimp only;decide⟩,fun c5=>⟨by rw[Q7];omega,(true,ch,pZ,p6,p7,p8,2),by and_intros<;>first|rfl|trivial,.inr (.inr ⟨rfl,?_,fun h=>?_⟩),by dsimp only;decide⟩⟩⟩
    ·have c5:=of_decide_eq_true c5;have:U6 R.toNat X.toNat B H=true:=by unfold U6;rw[decide_eq_true_eq,←dG];exact c5
     dsimp only;unfold XJ;rw[this,if_pos rfl]
    ·have c5:=of_decide_eq_true c5;have:U6 R.toNat X.toNat B H=true:=by unfold U6;rw[decide_eq_true_eq,←dG];exact c5
     dsimp only;rw[this]
    ·have c5:=of_decide_eq_false c5;have:U6 R.toNat X.toNat B H=false:=by unfold U6;rw[decide_eq_false_iff_not,←dG];exact c5
     dsimp only;unfold XJ;rw[this,if_neg (by decide)];exact dG
    ·have c5:=of_decide_eq_false c5;have:U6 R.toNat X.toNat B H=false:=by unfold U6;rw[decide_eq_false_iff_not,←dG];exact c5
     dsimp only at h ⊢;rw[this];have:=eU h;simp only[Prod.mk.injEq] at this;simp only[Prod.mk.injEq];exact⟨this.1,this.2.1,this.2.2.1,this.2.2.2.1,trivial⟩
  ·have g2:=of_decide_eq_false g2;obtain⟨dG,eU⟩:ch=XJ R.toNat X.toNat B H∧(ch<1048576→(pZ,p6,p7,p8,q)=((H:Int)-1,1,0,U6 R.toNat X.toNat B H,2)):=by
    rcases hq with⟨hq,_⟩|⟨hq,_⟩|⟨_,hq⟩
    ·omega
    ·omega
    ·exact hq
   refine⟨fun c5=>?_,fun c5=>?_⟩
   ·have c5:=of_decide_eq_true c5;have bad:Q8 (H:Int) rows aw (B:Int)=9:=by rw[eb,if_pos (E0 g (by rw[hC];omega))]
    obtain⟨f1,f2,f3,f4,f5⟩:=fail 9 bad (by decide);refine⟨trivial,fun _=>?_,fun c6=>absurd c6 (by decide)⟩;and_intros<;>first|exact f1|exact f2|exact f3|exact f4|exact f5|trivial
   ·have c5:=of_decide_eq_false c5;have aj:XJ R.toNat X.toNat B H<1048576:=by omega
    have eU:=eU (by omega);simp only[Prod.mk.injEq] at eU;obtain⟨rfl,rfl,rfl,rfl,rfl⟩:=eU;have bI:XJ R.toNat X.toNat B H=JV R.toNat X.toNat B H (U6 R.toNat X.toNat B H):=by
     have h2:=aj;unfold XJ at h2 ⊢;cases ht:U6 R.toNat X.toNat B H with
     |true=>rw[if_pos rfl]
     |false =>rw[ht,if_neg (by decide),Xb] at h2;rw[if_neg (by decide),Xb];omega
    have l7:YY R.toNat X.toNat B H=(if U6 R.toNat X.toNat B H=true then 2 ^ (H-1) else 0)+Lk R.toNat X.toNat B (U6 R.toNat X.toNat B H) (H-1) 1 0 (U6 R.toNat X.toNat B H):=by unfold YY;rw[if_pos aj]
    subst dG;generalize U6 R.toNat X.toNat B H=tp at *
    have s1:=o7 tp (H-1) 1 0 tp;have s2:=cin (H-1) tp;have x4:=eS tp;intro rU;refine⟨by rw[Q7];omega,by rw[Q7];omega,⟨hR,hX,by omega,by omega⟩,by rw[Q7];omega,(R,X,(H:Int),(B:Int),tp,XJ R.toNat X.toNat B H,aw,(B:Int),(H:Int),rows,(H:Int),Nm H rows aw B i,Na H rows aw B i,(i:Int),R,rows,(rows.length:Int),(i:Int),decide ((i:Int)<(rows.length:Int)),(i:Int),R,R,aw,(i:Int),X,(H:Int),(B:Int),R,X,(H:Int),(B:Int),false,w5),([],(if tp=true then 1 else 0),(H:Int)-1,1,0,tp,XJ R.toNat X.toNat B H-Qz R.toNat X.toNat (H-1) tp),by and_intros<;>first|rfl|trivial,?_⟩;dsimp only;refine⟨fun d=>∃ (k n f r:Nat),BB R X B tp d.1∧k≤H-1∧(1≤n∧n≤24)∧f≤24∧r<2 ^ (H-k)∧d.2.1=(r:Int)∧d.2.2.1=(k:Int)∧d.2.2.2.1=(n:Int)∧d.2.2.2.2.1=(f:Int)∧d.2.2.2.2.2.2=Qc R.toNat X.toNat B tp k n f d.2.2.2.2.2.1∧d.2.2.2.2.2.2<1048576∧r*2 ^ k+Lk R.toNat X.toNat B tp k n f d.2.2.2.2.2.1=YY R.toNat X.toNat B H,fun d=>d.2.2.1.toNat,⟨H-1,1,0,(if tp=true then 1 else 0),P7 _ _ _ _,Nat.le_refl _,by omega,by omega,?_,?_,by dsimp only;omega,rfl,rfl,?_,?_,?_⟩,?_⟩
    ·rw[show H-(H-1)=1 by omega];split<;>decide
    ·dsimp only;split<;>rfl
    ·dsimp only;omega
    ·dsimp only;omega
    ·dsimp only;rw[l7];split<;>simp
    rintro⟨m1,row,lf,ln,fi,lt,left⟩ ⟨k,n,f,r,hU,hk,hn,hf,hr,rfl,rfl,rfl,rfl,gL,xq,bk⟩;dsimp only at hU gL xq bk ⊢;refine⟨fun g3=>?_,fun g3=>?_⟩
    ·have g3:=of_decide_eq_true g3;obtain⟨k,rfl⟩:∃ j,k=j+1:=⟨k-1,by omega⟩;have ek:((k+1:Nat):Int)-1=(k:Int):=by omega
     have nL:Qc R.toNat X.toNat B tp (k+1) n f lt<1048576:=by omega
     have o8:r<16777216:=by have:=Nat.pow_le_pow_right (show 1≤2 by omega) (show H-(k+1)≤24 by omega);omega
     obtain⟨xr,tO⟩:=O3 nL;have rk:Lk R.toNat X.toNat B tp (k+1) n f lt=(if pkB R.toNat X.toNat B tp k n f lt=true then 2 ^ k else 0)+Lk R.toNat X.toNat B tp k (nxL n lt (pkB R.toNat X.toNat B tp k n f lt)) (nxF n f lt (pkB R.toNat X.toNat B tp k n f lt)) (pkB R.toNat X.toNat B tp k n f lt):=rfl;refine⟨(R,X,(H:Int),(B:Int),tp,(r:Int),XJ R.toNat X.toNat B H,((k+1:Nat):Int),(n:Int),(f:Int),lt,left,false,true,aw,(B:Int),(H:Int),rows,(H:Int),Nm H rows aw B i,Na H rows aw B i,(i:Int),R,rows,(rows.length:Int),(i:Int),decide ((i:Int)<(rows.length:Int)),(i:Int),R,R,aw,(i:Int),X,(H:Int),(B:Int),R,X,(H:Int),(B:Int),false,w5),(m1,0),by and_intros<;>first|rfl|trivial,?_⟩;dsimp only;simp only[ek,L8,S_,Int.toNat_natCast];have jm:pkB R.toNat X.toNat B tp k n f lt=!(decide (nxL n lt false≤B)&&decide (Qz R.toNat X.toNat k false+Qc R.toNat X.toNat B tp k (nxL n lt false) (nxF n f lt false) false=Qc R.toNat X.toNat B tp (k+1) n f lt)):=rfl;refine⟨fun d=>BB R X B tp d.1∧(d.2=0∨d.2=1∧pkB R.toNat X.toNat B tp k n f lt=true),fun d=>2-d.2.toNat,⟨hU,.inl rfl⟩,?_⟩;rintro⟨m2,q⟩ ⟨eA,hq⟩;dsimp only at eA hq ⊢;have take:∀ b:Bool,pkB R.toNat X.toNat B tp k n f lt=b→(2*r+(if b=true then 1 else 0))<2 ^ (H-k)∧left-Qz R.toNat X.toNat k b=Qc R.toNat X.toNat B tp k (nxL n lt b) (nxF n f lt b) b∧(2*r+(if b=true then 1 else 0))*2 ^ k+Lk R.toNat X.toNat B tp k (nxL n lt b) (nxF n f lt b) b=YY R.toNat X.toNat B H:=fun b hb=>by
      rw[hb] at tO rk;refine⟨?_,by omega,?_⟩
      ·rw[show H-k=(H-(k+1))+1 by omega,Nat.pow_succ];split<;>omega
      ·rw[←bk,rk,Nat.pow_succ,Nat.add_mul];have:2*r*2 ^ k=r*(2 ^ k*2):=by rw[Nat.mul_comm 2 r,Nat.mul_assoc,Nat.mul_comm 2]
       rw[this];cases b<;>simp<;>omega
     refine⟨fun g4=>?_,fun g4=>?_⟩
     ·have g4:=of_decide_eq_true g4;refine⟨by omega,by omega,fun q0=>?_,fun q1=>?_⟩
      ·subst q0;have w1:=cin k false;have w2:=o7 tp k (nxL n lt false) (nxF n f lt false) false;have w3:nxF n f lt false≤24:=E6 hn.2 hf;refine⟨⟨by omega,by omega,by omega⟩,by rw[Q7];omega,⟨hR,hX,by omega,by omega⟩,fun c6=>?_,fun c6=>?_⟩
       ·have c6:=of_decide_eq_true c6;have xt:nxL n lt false≤B:=by omega
        have w4:=(F9 (B:=B) (lt:=lt) (b:=false) hn.1).1;refine⟨⟨hR,hX,by omega,by omega,by omega,by omega,eA⟩,fun p9 jZ=>⟨by rw[Q7];omega,fun c7=>?_,fun c7=>?_⟩⟩
        ·have c7:=eq_of_beq c7;have hb:pkB R.toNat X.toNat B tp k n f lt=false:=by rw[jm,decide_eq_true xt,decide_eq_true (by omega)];rfl
         obtain⟨t1,t2,t3⟩:=take false hb;obtain⟨o1,o2⟩:=IP o8 false;refine⟨by rw[Q7];omega,by omega,o2,(p9,((2*r+(if false=true then 1 else 0):Nat):Int),(k:Int),((nxL n lt false:Nat):Int),((nxF n f lt false:Nat):Int),false,left-Qz R.toNat X.toNat k false),?_,⟨k,nxL n lt false,nxF n f lt false,2*r+(if false=true then 1 else 0),jZ,by omega,by omega,w3,t1,rfl,rfl,rfl,rfl,t2,?_,t3⟩,by dsimp only;omega⟩
         ·and_intros<;>first|rfl|trivial|exact o1
         ·dsimp only;rw[t2];omega
        ·have c7:¬ (Qz R.toNat X.toNat k false+Qc R.toNat X.toNat B tp k (nxL n lt false) (nxF n f lt false) false=left):=by simpa using c7
         have hb:pkB R.toNat X.toNat B tp k n f lt=true:=by rw[jm,decide_eq_false (show ¬ (Qz R.toNat X.toNat k false+Qc R.toNat X.toNat B tp k (nxL n lt false) (nxF n f lt false) false=Qc R.toNat X.toNat B tp (k+1) n f lt) by rw[←gL];exact c7)];simp
         refine⟨by rw[Q7];omega,(p9,1),?_,⟨jZ,.inr ⟨rfl,hb⟩⟩,by dsimp only;decide⟩;and_intros<;>first|rfl|trivial
       ·have c6:=of_decide_eq_false c6;have hb:pkB R.toNat X.toNat B tp k n f lt=true:=by rw[jm,decide_eq_false (show ¬ nxL n lt false≤B by omega)];simp
        refine⟨(fun h=>by cases h),fun _=>⟨by rw[Q7];omega,(m2,1),?_,⟨eA,.inr ⟨rfl,hb⟩⟩,by dsimp only;decide⟩⟩;and_intros<;>first|rfl|trivial
      ·subst q1;have hb:pkB R.toNat X.toNat B tp k n f lt=true:=by rcases hq with h|h;omega;exact h.2
       have w1:=cin k true;have w2:=o7 tp k (nxL n lt true) (nxF n f lt true) true;have w3:nxF n f lt true≤24:=E6 hn.2 hf;rw[hb] at xr tO;have w4:=(F9 (B:=B) (lt:=lt) (b:=true) hn.1).1;refine⟨⟨by omega,by omega,by omega⟩,by rw[Q7];omega,⟨hR,hX,by omega,by omega⟩,fun c6=>?_,fun c6=>?_⟩
       ·refine⟨⟨hR,hX,by omega,by omega,by omega,by omega,eA⟩,fun p9 jZ=>⟨by rw[Q7];omega,fun c7=>?_,fun c7=>?_⟩⟩
        ·obtain⟨t1,t2,t3⟩:=take true hb;obtain⟨o1,o2⟩:=IP o8 true;refine⟨by rw[Q7];omega,by omega,o2,(p9,((2*r+(if true=true then 1 else 0):Nat):Int),(k:Int),((nxL n lt true:Nat):Int),((nxF n f lt true:Nat):Int),true,left-Qz R.toNat X.toNat k true),?_,⟨k,nxL n lt true,nxF n f lt true,2*r+(if true=true then 1 else 0),jZ,by omega,by omega,w3,t1,rfl,rfl,rfl,rfl,t2,?_,t3⟩,by dsimp only;omega⟩
         ·and_intros<;>first|rfl|trivial|exact o1
         ·dsimp only;rw[t2];omega
        ·exfalso;have c7:¬ (Qz R.toNat X.toNat k true+Qc R.toNat X.toNat B tp k (nxL n lt true) (nxF n f lt true) true=left):=by simpa using c7
         omega
       ·exfalso;have c6:=of_decide_eq_false c6;omega
     ·exfalso;have g4:=of_decide_eq_false g4;rcases hq with h|⟨h,_⟩<;>omega
    ·have g3:=of_decide_eq_false g3;have k0:k=0:=by omega
     subst k0;have bk:r=YY R.toNat X.toNat B H:=by simpa [Lk] using bk
     refine⟨rfl,fun c6=>?_,fun c6=>⟨?_,by rw[Q7];omega,by rw[Q7];omega,(Nm H rows aw B (i+1),Na H rows aw B (i+1),(i:Int)+1),?_,⟨i+1,g,fun j hj=>dt j hj (by rw[hC];exact aj),rfl⟩,by dsimp only;omega⟩⟩
     ·exfalso;have c6:=of_decide_eq_true c6;omega
     ·rw[wl];omega
     ·rw[ws,ns,hW,hC,bk];and_intros<;>first|rfl|trivial|exact(FV _ _).symm
 ·have g:i=rows.length:=by have:=of_decide_eq_false g;omega
  subst g;have rV:Q8 (H:Int) rows aw (B:Int)=0:=by rw[eb,if_neg (by rw[ED hall];decide)]
  have e1:Jb (H:Int) rows aw (B:Int)=Nm H rows aw B rows.length:=by unfold Jb;rw[if_pos rV]
  have e2:Aa (H:Int) rows aw (B:Int)=Na H rows aw B rows.length:=by unfold Aa;rw[if_pos rV]
  rw[rV,e1,e2,if_pos rfl];and_intros<;>first|rfl|trivial
theorem HF {hd:Int}{rows:List Int}(h:Qn hd rows=0):1≤hd∧hd≤24∧rows.length≤60∧rows.length≠0∧∀ x∈rows,0≤x∧x<2 ^ hd.toNat:=by
 unfold Qn at h;split at h
 ·cases h
 ·rename_i h1;split at h
  ·cases h
  ·rename_i h2;split at h
   ·cases h
   ·rename_i h3;split at h
    ·cases h
    ·rename_i h4;have h1:1≤hd∧hd≤24:=by simpa [inI] using h1
     refine⟨h1.1,h1.2,by omega,h3,fun x hx=>?_⟩;have h5:∀ x∈rows,inI x 0 (2 ^ hd.toNat-1)=true:=by simpa using h4
     have:=h5 x hx;simp only[inI,Bool.and_eq_true,decide_eq_true_eq] at this;omega
def Kd:AL (Int×Int):=(.cons (.k (.i .i64)) (.one (.k (.i .i64))))
def Mo (d:Int×Int):Prop:=0≤d.1∧d.1<9223372036854775808∧0≤d.2∧d.2≤64
def YO (d:Int×Int):SV:=.lst 0
def YV (d:Int×Int):List OB:=[.lst 4 .bo (JR d.1 d.2.toNat) false]
def X9:CSp:=K8 Kd Mo YO YV
def JA (r:Int) (h:Int):Prop :=
 ∃ (e2:Unit) (d20:Int×(List Bool)×Int),((r=d20.1∧h=h∧True∧(0:Int)=d20.2.2∧True)∧((([]:List Bool)=d20.2.1∧false=false)∧True)) ∧
 LoopP (fun (d2:Int×(List Bool)×Int) (q2:(Int×(List Bool)×Int)→Prop) =>
  ((decide (d2.2.2<h))=true →
   ((2:Int)≠0)∧(((List.length d2.2.1)+(List.length [((Int.tmod d2.1 (2:Int))==(1:Int))]))*1≤70368744177664)∧((2:Int)≠0)∧(I64 (Int.tdiv d2.1 (2:Int)))∧(I64 (d2.2.2+(1:Int)))∧(∃ d3:Int×(List Bool)×Int,(((Int.tdiv d2.1 (2:Int))=d3.1∧h=h∧True∧(d2.2.2+(1:Int))=d3.2.2∧True)∧(((d2.2.1++[((Int.tmod d2.1 (2:Int))==(1:Int))])=d3.2.1∧false=false)∧True))∧q2 d3)) ∧
  ((decide (d2.2.2<h))=false →
   (True∧((d2.2.1=(JR r h.toNat)∧false=false)∧True)))) d20
def KP:Cx:=⟨[(4,.bo)],[],22,[],0,[],[],[],[],false,[],[],[],[]⟩
def D8 (r:Int) (h:Int):List (Nat×LoopAnn):=[(0,⟨Unit,Int×(List Bool)×Int,[0,1,5,6],fun e x=>[.val (.i .i64) x.1,.val (.i .i64) h,.lst 7,.val (.i .i64) x.2.2],fun e x=>[(7,.slot 5,.lst 4 .bo x.2.1 false)]⟩)]
theorem Gg (d:Int×Int):gwp (KP) (D8 d.1 d.2) c41 0 (Vt [.tmp 4] (YO d) (YV d)) (QL 22 (AL.can Kd d))=JA d.1 d.2:=by kernel_rfl
abbrev Gw:Prop:=OkC Tryz.prog 41 X9
theorem MZ (h:∀ (r:Int) (h:Int),(0≤r∧r<9223372036854775808∧0≤h∧h≤64)→JA r h):OkC Tryz.prog 41 X9 :=
 Z3 Q01 mixed (C:=KP) (V:=fun (d:Int×Int)=>JA d.1 d.2) ⟨.nil,XsOk.nil,ItsOk.nil,YlOk.nil,IysOk.nil,XfOk.nil⟩ (Gg) fun d hp=>h d.1 d.2 hp
theorem K2:Gw:=MZ fun r h hp=>by
 obtain⟨h1,h0,h2,h3⟩:=hp;obtain⟨n,rfl⟩:=Int.eq_ofNat_of_zero_le h1;obtain⟨m,rfl⟩:=Int.eq_ofNat_of_zero_le h2;unfold JA;(try delta lI gD sT I64 Q1 pj8 pj4);simp only[true_and,and_true,eq_self_iff_true,exists_eq_left',exists_const,decide_eq_true_eq,decide_eq_false_iff_not,beq_iff_eq,bne_iff_ne,ne_eq,beq_eq_false_iff_ne,bne_eq_false_iff_eq,Bool.not_eq_true',Bool.not_eq_false',Bool.not_eq_true,Bool.not_eq_false,Int.toNat_natCast,Int.ofNat_lt,gt_iff_lt,ge_iff_le,Q7];refine⟨((n:Int),[],0),(by and_intros<;>first|rfl|trivial|simp),?_⟩;refine⟨fun d=>∃ k:Nat,k≤m∧d.2.2=k∧d.1=((n / 2 ^ k:Nat):Int)∧d.2.1=JR n k,fun d=>m-d.2.2.toNat,⟨0,Nat.zero_le _,rfl,by simp,rfl⟩,?_⟩;rintro⟨a,xs,c⟩ ⟨k,hk,hc,ha,hx⟩;dsimp only at hc ha hx ⊢;subst hc ha hx;have hq:n / 2 ^ k≤n:=Nat.div_le_self _ _;have e1:n / 2 ^ (k+1)=n / 2 ^ k / 2:=by rw[Nat.pow_succ,Nat.div_div_eq_div_mul]
 have e2:n.testBit k=(((n / 2 ^ k % 2:Nat):Int)==1):=by
  rw[Nat.testBit_eq_decide_div_mod_eq];by_cases hb:n / 2 ^ k % 2=1
  ·simp[hb]
  ·have:n / 2 ^ k % 2=0:=by omega
   simp[this]
 simp only[Il,Ie,MJ,List.length_singleton];generalize n / 2 ^ k=y at hq e1 e2 ⊢;refine⟨fun aj=>?_,fun bj=>?_⟩
 ·refine⟨by omega,by omega,by omega,by omega,by omega,(((y / 2:Nat):Int),JR n k++[((y % 2:Nat):Int)==1],(k:Int)+1),(by and_intros<;>first|rfl|trivial|simp),⟨k+1,by omega,rfl,by rw[e1],by rw[F7,Int.toNat_natCast,e2]⟩,by dsimp only;omega⟩
 ·have:k=m:=by omega
  subst this;exact(by and_intros<;>first|rfl|trivial|simp)
def VC:AL (Int×List Int):=(.one (.agg (.cons (.k (.i .i64)) (.one (.k (.list (.i .i64)))))))
def Dy (d:Int×List Int):Prop:=d.2.length≤1000∧(∀ x∈d.2,0≤x∧x<9223372036854775808)∧0≤d.1∧d.1≤64
def KN (d:Int×List Int):SV:=.dd 0 .out
def KT (d:Int×List Int):List OB:=[.deep 98 (some 4) (.list .bo) (d.2.map fun r=>JR r d.1.toNat) false none]
def Yp:CSp:=K8 VC Dy KN KT
def Xc (hd:Int) (rows:List Int):Prop :=
 ∃ (e3:Unit) (d30:(List (List Bool))×Int),((True∧True∧(0:Int)=d30.2∧True)∧((hd=hd∧rows=rows∧(([]:List SV)=[]))∧(([]:List (List Bool))=d30.1∧false=false)∧True)) ∧
 LoopP (fun (d3:(List (List Bool))×Int) (q3:((List (List Bool))×Int)→Prop) =>
  ((decide (d3.2<(lI rows)))=true →
   (0≤d3.2)∧(d3.2<(List.length rows))∧(0≤(gD rows d3.2 0)∧(gD rows d3.2 0)<9223372036854775808∧0≤hd∧hd≤64)∧(false=true→(JR (gD rows d3.2 0) hd.toNat)=[])∧(((List.length d3.1)+(List.length [(JR (gD rows d3.2 0) hd.toNat)]))*24≤70368744177664)∧(I64 (d3.2+(1:Int)))∧(∃ d4:(List (List Bool))×Int,((True∧True∧(d3.2+(1:Int))=d4.2∧True)∧((hd=hd∧rows=rows∧(([]:List SV)=[]))∧((d3.1++[(JR (gD rows d3.2 0) hd.toNat)])=d4.1∧false=false)∧True))∧q3 d4)) ∧
  ((decide (d3.2<(lI rows)))=false →
   (True∧((d3.1=(rows.map fun r=>JR r hd.toNat)∧false=false)∧True)))) d30
def VI:Cx:=⟨[(98,(.list .bo))],[(41,X9)],25,[],0,[],[],[(98,4)],[],false,[],[],[],[]⟩
def B9 (hd:Int) (rows:List Int):List (Nat×LoopAnn):=[(0,⟨Unit,(List (List Bool))×Int,[1,3,4],fun e x=>[.box 1 0,.dd 5 .out,.val (.i .i64) x.2],fun e x=>[(1,.slot 1,.cells [.val (.i .i64) hd,.val (.list (.i .i64)) rows] (some 30)),(5,.slot 3,.deep 98 (some 4) (.list .bo) x.1 false none)]⟩)]
theorem Bk (d:Int×List Int):gwp (VI) (B9 d.1 d.2) c44 0 (Vt [.tmp 2] (KN d) (KT d)) (QL 25 (AL.can VC d))=Xc d.1 d.2:=by kernel_rfl
abbrev Bb:Prop:=OkC Tryz.prog 44 Yp
theorem BL (h:∀ (hd:Int) (rows:List Int),(rows.length≤1000∧(∀ x∈rows,0≤x∧x<9223372036854775808)∧0≤hd∧hd≤64)→Xc hd rows):OkC Tryz.prog 44 Yp :=
 Z3 Q1d mixed (C:=VI) (V:=fun (d:Int×List Int)=>Xc d.1 d.2) ⟨(.cons K2 .nil),XsOk.nil,ItsOk.nil,YlOk.nil,IysOk.nil,XfOk.nil⟩ (Bk) fun d hp=>h d.1 d.2 hp
theorem BM:Bb:=BL fun hd rows hp=>by
 obtain⟨h1,h2,h3,h4⟩:=hp;unfold Xc;(try delta lI gD sT I64 Q1 pj8 pj4);simp only[true_and,and_true,eq_self_iff_true,exists_eq_left',exists_const,decide_eq_true_eq,decide_eq_false_iff_not,beq_iff_eq,bne_iff_ne,ne_eq,beq_eq_false_iff_ne,bne_eq_false_iff_eq,Bool.not_eq_true',Bool.not_eq_false',Bool.not_eq_true,Bool.not_eq_false,Int.toNat_natCast,Int.ofNat_lt,gt_iff_lt,ge_iff_le,Q7];refine⟨([],0),(by and_intros<;>first|rfl|trivial|simp),?_⟩;refine LoopP.count2 rows.length (fun k xs=>xs=(rows.take k).map fun r=>JR r hd.toNat) (by simp) fun k xs hk hJ q hq=>?_;have gG:xs.length=k:=by rw[hJ];simp;omega
 dsimp only;refine⟨fun aj=>?_,fun bj=>?_⟩
 ·have aj:k<rows.length:=by omega
  have hx:=h2 _ (List.getElem_mem aj);simp only[Int.toNat_natCast,Qw aj,List.length_singleton];refine⟨by omega,by omega,⟨hx.1,hx.2,h3,h4⟩,by simp,by omega,by omega,(xs++[JR rows[k] hd.toNat],(k:Int)+1),(by and_intros<;>first|rfl|trivial|simp),hq _ aj ?_⟩;rw[Z6 aj,List.map_append,←hJ];rfl
 ·have:k=rows.length:=by omega
  subst this;rw[List.take_length] at hJ;rw[hJ]
theorem Q2e (a b:Nat):Int.tmod (a:Int) (b:Int)=((a % b:Nat):Int):=rfl
def Dv (s:List UInt8):List Bool:=s.map fun b=>b==120
def Z_ (p:List Bool) (w:Nat):Bool:=p.getD (w % p.length) false
def bgB (p:List Bool) (w:Nat):Bool:=Z_ p w != Z_ p (w+p.length-1)
def Zi (p:List Bool) (w:Nat):Nat:=if bgB p w then ((List.range (p.length+1)).find? fun k=>decide (1≤k)&&(Z_ p (w+k) != Z_ p w)).getD 0 else if w=0∧∀ j,j<p.length→Z_ p j=Z_ p 0 then 1000 else 0
def Q0c (i bd:Int) (p:List Bool) (w:Nat):Option (Int×Int×Int×Bool):=if 0<Zi p w∧bd<Zi p w then some (i,(w:Int),(Zi p w:Int),p.getD w false) else none
def Mg (i bd:Int) (p:List Bool) (n:Nat):List (Int×Int×Int×Bool):=(List.range n).filterMap (Q0c i bd p)
def K5 (bd:Int) (c:List (List UInt8)) (n:Nat):List (Int×Int×Int×Bool):=((List.range n).map fun (i:Nat)=>Mg (i:Int) bd (Dv (c.getD i [])) (c.getD i []).length).flatten
def WU (bd:Int) (c:List (List UInt8)):List (Int×Int×Int×Bool):=K5 bd c c.length
theorem Gi (s:List UInt8):(Dv s).length=s.length:=by simp[Dv]
theorem KQ {p:List Bool}{w:Nat}(h:w<p.length):Z_ p w=p.getD w false:=by rw[Z_,Nat.mod_eq_of_lt h]
theorem V3 (p:List Bool) (w:Nat):Z_ p (w % p.length)=Z_ p w:=by simp[Z_]
theorem SC (p:List Bool) (w k:Nat):Z_ p (w % p.length+k)=Z_ p (w+k):=by simp[Z_]
theorem OO {p:List Bool}(h:p≠[]) (w:Nat):bgB p (w % p.length)=bgB p w:=by have h0:0<p.length:=List.length_pos_iff.2 h;unfold bgB;rw[V3,Nat.add_sub_assoc h0,Nat.add_sub_assoc h0,SC]
theorem Ho (i bd:Int) (p:List Bool) (n:Nat):Mg i bd p (n+1)=Mg i bd p n++(Q0c i bd p n).toList:=by simp only[Mg,List.range_succ,List.filterMap_append];congr 1
theorem Gf (bd:Int) (c:List (List UInt8)) (n:Nat):K5 bd c (n+1)=K5 bd c n++Mg n bd (Dv (c.getD n [])) (c.getD n []).length:=by simp only[K5,List.range_succ,List.map_append,List.flatten_append,List.map_cons,List.map_nil,List.flatten_cons,List.flatten_nil,List.append_nil]
theorem PI (i bd:Int) (p:List Bool) (n:Nat):(Mg i bd p n).length≤n:=by
 have:=List.length_filterMap_le (Q0c i bd p) (List.range n)
 rwa [List.length_range] at this
theorem NH (bd:Int) (c:List (List UInt8)) (m:Nat) (h:∀ s∈c,s.length≤m):∀ n,n≤c.length→(K5 bd c n).length≤n*m
 |0,_=>by simp[K5]
 |n+1,hn=>by
  have h1:=NH bd c m h n (by omega);have h2:=PI n bd (Dv (c.getD n [])) (c.getD n []).length;have h3:(c.getD n []).length≤m:=by rw[Qw (by omega)];exact h _ (List.getElem_mem _)
  rw[Gf,List.length_append,Nat.add_mul,Nat.one_mul];omega
theorem Lj {p:List Bool}{w k:Nat}(hb:bgB p w=true) (hk:1≤k) (hn:k≤p.length) (hd:Z_ p (w+k)≠Z_ p w) (he:∀ j,1≤j→j<k→Z_ p (w+j)=Z_ p w):Zi p w=k:=by
 unfold Zi;rw[if_pos hb];have:(List.range (p.length+1)).find? (fun k=>decide (1≤k)&&(Z_ p (w+k) != Z_ p w))=some k:=by
  refine List.find?_range_eq_some.2 ⟨?_,by simp;omega,fun j hj=>?_⟩
  ·simp[hk,hd]
  ·rcases Nat.eq_zero_or_pos j with h0|h0
   ·simp[h0]
   ·simp[he j h0 hj]
 rw[this];rfl
theorem MM {p:List Bool}{w:Nat}(hb:bgB p w=false) (h:w≠0∨∃ j,j<p.length∧Z_ p j≠Z_ p 0):Zi p w=0:=by
 unfold Zi;rw[if_neg (by simp[hb]),if_neg];rintro⟨h1,h2⟩;rcases h with h|⟨j,h3,h4⟩
 ·exact h h1
 ·exact h4 (h2 j h3)
theorem GV {p:List Bool}(h:∀ j,j<p.length→Z_ p j=Z_ p 0) (h0:p≠[]):Zi p 0=1000:=by
 unfold Zi;have hl:0<p.length:=List.length_pos_iff.2 h0;have:bgB p 0=false:=by unfold bgB;rw[←V3 p (0+p.length-1),h _ (Nat.mod_lt _ hl)];simp
 rw[if_neg (by simp[this]),if_pos ⟨rfl,h⟩]
theorem HW {hk:Int}{lw:List Int}{hd:Int}{rows:List Int}(h:ZE hk lw hd rows=0):Ql hk lw=0∧Qn hd rows=0∧hd=hk:=by
 unfold ZE at h;split at h
 ·rename_i h1;exact absurd h h1
 rename_i h1;split at h
 ·rename_i h2;exact absurd h h2
 rename_i h2;split at h
 ·cases h
 rename_i h3;exact⟨by simpa using h1,by simpa using h2,by simpa using h3⟩
theorem Rn {p:List Bool}{f:Nat}(hf:f<p.length) (hb:bgB p f=true):∃ j,j<p.length∧Z_ p j≠Z_ p 0:=by
 by_cases h:Z_ p f=Z_ p 0
 ·refine⟨(f+p.length-1) % p.length,Nat.mod_lt _ (by omega),?_⟩;rw[V3,←h];have:Z_ p f≠Z_ p (f+p.length-1):=by simpa [bgB] using hb
  exact Ne.symm this
 ·exact⟨f,hf,h⟩
theorem PH (lw:List Int) (row:Int):(Jz lw row).length=lw.length:=by simp[Jz]
def K4:AL (List UInt8):=(.one (.k .st))
def Mh (d:List UInt8):Prop:=d.length≤1000
def YH (d:List UInt8):SV:=.lst 0
def YL (d:List UInt8):List OB:=[.lst 4 .bo (Dv d) false]
def WN:CSp:=K8 K4 Mh YH YL
def Jx (s:List UInt8):Prop :=
 ∃ (e2:Unit) (d20:(List Bool)×Int),((s=s∧True∧(0:Int)=d20.2∧True)∧((([]:List Bool)=d20.1∧false=false)∧True)) ∧
 LoopP (fun (d2:(List Bool)×Int) (q2:((List Bool)×Int)→Prop) =>
  ((decide (d2.2<(lI s)))=true →
   (0≤d2.2)∧(d2.2<(List.length s))∧(((List.length d2.1)+(List.length [(((UInt8.toNat (gD s d2.2 0):Nat):Int)==(120:Int))]))*1≤70368744177664)∧(I64 (d2.2+(1:Int)))∧(∃ d3:(List Bool)×Int,((s=s∧True∧(d2.2+(1:Int))=d3.2∧True)∧(((d2.1++[(((UInt8.toNat (gD s d2.2 0):Nat):Int)==(120:Int))])=d3.1∧false=false)∧True))∧q2 d3)) ∧
  ((decide (d2.2<(lI s)))=false →
   (True∧((d2.1=(Dv s)∧false=false)∧True)))) d20
def Ki:Cx:=⟨[(4,.bo)],[],20,[],0,[],[],[],[],false,[],[],[],[]⟩
def Gz (s:List UInt8):List (Nat×LoopAnn):=[(0,⟨Unit,(List Bool)×Int,[0,3,4],fun e x=>[.val .st s,.lst 5,.val (.i .i64) x.2],fun e x=>[(5,.slot 3,.lst 4 .bo x.1 false)]⟩)]
theorem Df (d:List UInt8):gwp (Ki) (Gz d) c66 0 (Vt [.tmp 2] (YH d) (YL d)) (QL 20 (AL.can K4 d))=Jx d:=by kernel_rfl
abbrev GA:Prop:=OkC Tryz.prog 66 WN
theorem DB (h:∀ (s:List UInt8),(s.length≤1000)→Jx s):OkC Tryz.prog 66 WN :=
 Z3 OL mixed (C:=Ki) (V:=fun (d:List UInt8)=>Jx d) ⟨.nil,XsOk.nil,ItsOk.nil,YlOk.nil,IysOk.nil,XfOk.nil⟩ (Df) fun d hp=>h d hp
theorem MQ:GA:=DB fun s hs=>by
 unfold Jx;(try delta lI gD sT I64 Q1 pj8 pj4)
 (try simp only[decide_eq_true_eq,decide_eq_false_iff_not])
 refine⟨(),([],0),(by and_intros<;>first|rfl|trivial|simp),?_⟩;refine LoopP.count2 s.length (fun k xs=>xs=Dv (s.take k)) (by simp[Dv]) fun k xs hk hJ q hq=>?_;have gG:xs.length=k:=by rw[hJ,Gi];simp;omega
 dsimp only;refine⟨fun aj=>?_,fun bj=>?_⟩
 ·have aj:k<s.length:=by omega
  simp only[Int.toNat_natCast,Qw aj,List.length_singleton,Q7];refine⟨by omega,by omega,by omega,by omega,(_,_),(by and_intros<;>first|rfl|trivial|simp),hq _ aj ?_⟩;rw[Z6 aj,Dv,List.map_append,hJ];congr 1;have:((((s[k].toNat:Nat):Int)==120))=(s[k]==120):=by
   rw[Bool.eq_iff_iff,beq_iff_eq,beq_iff_eq];constructor
   ·intro h;have xu:(120:UInt8).toNat=120:=rfl;exact UInt8.toNat_inj.1 (by omega)
   ·intro h;rw[h];rfl
  simp[this]
 ·have:k=s.length:=by omega
  subst this;rw[List.take_length] at hJ;rw[hJ];exact(by and_intros<;>first|rfl|trivial|simp)
def KW:AL (List Bool×Int):=(.cons (.k (.list .bo)) (.one (.k (.i .i64))))
def Mf (d:List Bool×Int):Prop:=0≤d.2∧d.2<d.1.length∧d.1.length≤1000
def YQ (d:List Bool×Int):SV:=.val (.i .i64) ((Zi d.1 d.2.toNat:Nat):Int)
def YK (d:List Bool×Int):List OB:=[]
def Xf:CSp:=K8 KW Mf YQ YK
def JG (p:List Bool) (w:Int):Prop :=
 (I64 (w+(lI p)))∧(I64 ((w+(lI p))-(1:Int)))∧((lI p)≠0)∧(0≤(Int.tmod ((w+(lI p))-(1:Int)) (lI p)))∧((Int.tmod ((w+(lI p))-(1:Int)) (lI p))<(List.length p))∧(0≤w)∧(w<(List.length p))∧(((gD p (Int.tmod ((w+(lI p))-(1:Int)) (lI p)) false)==(gD p w false))=true →
  ∃ (e2:Unit) (d20:Int),((p=p∧w=w∧(lI p)=(lI p)∧(0:Int)=d20∧True)∧(True)) ∧
  LoopP (fun (d2:Int) (q2:(Int)→Prop) =>
   ((decide (d2<(lI p)))=true →
    (0≤d2)∧(d2<(List.length p))∧(0≤w)∧(w<(List.length p))∧((!((gD p d2 false)==(gD p w false)))=true →
     ((0:Int)=((Zi p w.toNat:Nat):Int)∧(True))) ∧
    ((!((gD p d2 false)==(gD p w false)))=false →
     (I64 (d2+(1:Int)))∧(∃ d3:Int,((p=p∧w=w∧(lI p)=(lI p)∧(d2+(1:Int))=d3∧True)∧(True))∧q2 d3))) ∧
   ((decide (d2<(lI p)))=false →
    ((w==(0:Int))=true →
     ((1000:Int)=((Zi p w.toNat:Nat):Int)∧(True))) ∧
    ((w==(0:Int))=false →
     ((0:Int)=((Zi p w.toNat:Nat):Int)∧(True))))) d20) ∧
 (((gD p (Int.tmod ((w+(lI p))-(1:Int)) (lI p)) false)==(gD p w false))=false →
  ∃ (e5:Unit) (d50:Int),((p=p∧w=w∧(lI p)=(lI p)∧(1:Int)=d50∧True)∧(True)) ∧
  LoopP (fun (d5:Int) (q5:(Int)→Prop) =>
   (I64 (w+d5))∧((lI p)≠0)∧(0≤(Int.tmod (w+d5) (lI p)))∧((Int.tmod (w+d5) (lI p))<(List.length p))∧(0≤w)∧(w<(List.length p))∧(((gD p (Int.tmod (w+d5) (lI p)) false)==(gD p w false))=true →
    (I64 (d5+(1:Int)))∧(∃ d6:Int,((p=p∧w=w∧(lI p)=(lI p)∧(d5+(1:Int))=d6∧True)∧(True))∧q5 d6)) ∧
   (((gD p (Int.tmod (w+d5) (lI p)) false)==(gD p w false))=false →
    (d5=((Zi p w.toNat:Nat):Int)∧(True)))) d50)
def KB:Cx:=⟨[],[],56,[],0,[],[],[],[],false,[],[],[],[]⟩
def Di (p:List Bool) (w:Int):List (Nat×LoopAnn):=[(0,⟨Unit,Int,[0,1,5,6],fun e x=>[.val (.list .bo) p,.val (.i .i64) w,.val (.i .i64) (((List.length p):Nat):Int),.val (.i .i64) x],fun e x=>[]⟩),
 (2,⟨Unit,Int,[0,1,5,7],fun e x=>[.val (.list .bo) p,.val (.i .i64) w,.val (.i .i64) (((List.length p):Nat):Int),.val (.i .i64) x],fun e x=>[]⟩)]
theorem Gb (d:List Bool×Int):gwp (KB) (Di d.1 d.2) c42 0 (Vt [.tmp 4] (YQ d) (YK d)) (QL 56 (AL.can KW d))=JG d.1 d.2:=by kernel_rfl
abbrev D9:Prop:=OkC Tryz.prog 42 Xf
theorem DF (h:∀ (p:List Bool) (w:Int),(0≤w∧w<p.length∧p.length≤1000)→JG p w):OkC Tryz.prog 42 Xf :=
 Z3 OP mixed (C:=KB) (V:=fun (d:List Bool×Int)=>JG d.1 d.2) ⟨.nil,XsOk.nil,ItsOk.nil,YlOk.nil,IysOk.nil,XfOk.nil⟩ (Gb) fun d hp=>h d.1 d.2 hp
theorem Kf:D9:=DF fun p w h=>by
 obtain⟨h1,h2,h3⟩:=h;unfold JG;(try delta lI gD sT I64 Q1 pj8 pj4)
 (try simp only[decide_eq_true_eq,decide_eq_false_iff_not])
 obtain⟨n,rfl⟩:=Int.eq_ofNat_of_zero_le h1;have hn:n<p.length:=by omega
 have h0:p≠[]:=by rintro rfl;simp at hn
 have e:((n:Int)+(p.length:Int))-1=((n+p.length-1:Nat):Int):=by omega
 have hm:(n+p.length-1) % p.length<p.length:=Nat.mod_lt _ (by omega);have hb:(p.getD ((n+p.length-1) % p.length) false==p.getD n false)=!bgB p n:=by unfold bgB;rw[KQ hn];unfold Z_;generalize p.getD n false=a;generalize p.getD ((n+p.length-1) % p.length) false=b;cases a<;>cases b<;>rfl
 simp only[e,Q2e,Int.toNat_natCast,Q7,hb,Bool.not_eq_true',Bool.not_eq_false'];refine⟨by omega,by omega,by omega,by omega,by omega,by omega,by omega,fun hg=>⟨(),0,(by and_intros<;>first|rfl|trivial|simp),?_⟩,fun hg=>⟨(),1,(by and_intros<;>first|rfl|trivial|simp),?_⟩⟩
 ·refine LoopP.count p.length (fun k=>∀ i,i<k→p.getD i false=p.getD n false) (fun i hi=>by omega) fun k hk hJ q hq=>?_;simp only[Int.toNat_natCast,beq_iff_eq,beq_eq_false_iff_ne];refine⟨fun aj=>⟨by omega,by omega,by omega,by omega,fun hx=>?_,fun hx=>⟨by omega,_,(by and_intros<;>first|rfl|trivial|simp),hq (by omega) fun i hi=>?_⟩⟩,fun bj=>?_⟩
  ·rw[MM hg]
   ·exact(by and_intros<;>first|rfl|trivial|simp)
   rcases Nat.eq_zero_or_pos n with hz|hz
   ·subst hz;exact .inr ⟨k,by omega,by rw[KQ (by omega),KQ hn];simpa using hx⟩
   ·exact .inl (by omega)
  ·rcases Nat.lt_succ_iff_lt_or_eq.1 hi with hi|rfl
   ·exact hJ i hi
   ·exact hx
  ·have hall:∀ j,j<p.length→Z_ p j=Z_ p n:=fun j hj=>by rw[KQ hj,KQ hn];exact hJ j (by omega)
   refine⟨fun hz=>?_,fun hz=>?_⟩
   ·have hz:n=0:=by omega
    subst hz;rw[GV hall h0];exact(by and_intros<;>first|rfl|trivial|simp)
   ·rw[MM hg (.inl (by omega))];exact(by and_intros<;>first|rfl|trivial|simp)
 ·refine⟨fun d=>∃ k:Nat,1≤k∧d=k∧k≤p.length∧∀ j,j<k→Z_ p (n+j)=Z_ p n,fun d=>p.length+1-d.toNat,⟨1,by omega,rfl,by omega,fun j hj=>by rw[show j=0 by omega];rfl⟩,?_⟩;rintro _ ⟨k,a9,rfl,av,hJ⟩;have e2:(n:Int)+(k:Int)=((n+k:Nat):Int):=by omega
  have eA:(n+k) % p.length<p.length:=Nat.mod_lt _ (by omega);simp only[e2,Q2e,Int.toNat_natCast,beq_iff_eq,beq_eq_false_iff_ne];have e3:p.getD ((n+k) % p.length) false=Z_ p (n+k):=rfl;rw[e3,←KQ hn];refine⟨by omega,by omega,by omega,by omega,by omega,by omega,fun hx=>⟨by omega,_,(by and_intros<;>first|rfl|trivial|simp),⟨k+1,by omega,by omega,?_,fun j hj=>?_⟩,?_⟩,fun hx=>?_⟩
  ·rcases Nat.lt_or_ge k p.length with mY|mY
   ·omega
   ·exfalso;have:k=p.length:=by omega
    subst this;have hh:=hJ (p.length-1) (by omega);have hg:Z_ p n≠Z_ p (n+p.length-1):=by simpa [bgB] using hg
    exact hg (by rw[←hh];congr 1;omega)
  ·rcases Nat.lt_succ_iff_lt_or_eq.1 hj with hj|rfl
   ·exact hJ j hj
   ·exact hx
  ·omega
  ·rw[Lj hg a9 av hx fun j _ hj=>hJ j hj];exact(by and_intros<;>first|rfl|trivial|simp)
def VW:AL ((Int×List Int)×Int×List Int):=(.cons (.agg (.cons (.k (.i .i64)) (.one (.k (.list (.i .i64)))))) (.one (.agg (.cons (.k (.i .i64)) (.one (.k (.list (.i .i64))))))))
def GU (d:(Int×List Int)×Int×List Int):Prop:=ZE d.1.1 d.1.2 d.2.1 d.2.2=0
def K7 (d:(Int×List Int)×Int×List Int):SV:=.lst 0
def Kh (d:(Int×List Int)×Int×List Int):List OB:=[.lst 9 .st (Qs d.1.1 d.1.2 d.2.1 d.2.2) false]
def XL:CSp:=K8 VW GU K7 Kh
def Xd (hk:Int) (lw:List Int) (hd:Int) (rows:List Int):Prop :=
 (rows.length≤1000∧(∀ x∈rows,0≤x∧x<9223372036854775808)∧0≤hd∧hd≤64)∧∃ (e3:Unit) (d30:(List (List UInt8))×Int),((True∧True∧True∧(0:Int)=d30.2∧True)∧((hk=hk∧lw=lw∧(([]:List SV)=[]))∧(([]:List (List UInt8))=d30.1∧false=false)∧((rows.map fun r=>JR r hd.toNat)=(rows.map fun r=>JR r hd.toNat)∧false=false)∧True)) ∧
 LoopP (fun (d3:(List (List UInt8))×Int) (q3:((List (List UInt8))×Int)→Prop) =>
  ((decide (d3.2<(lI (rows.map fun r=>JR r hd.toNat))))=true →
   ∃ (e6:(List (List UInt8))×Int) (d60:(List UInt8)×Int),((True∧True∧True∧d3.2=e6.2∧[]=d60.1∧(0:Int)=d60.2∧True)∧((hk=hk∧lw=lw∧(([]:List SV)=[]))∧(d3.1=e6.1∧false=false)∧((rows.map fun r=>JR r hd.toNat)=(rows.map fun r=>JR r hd.toNat)∧false=false)∧True)) ∧
   LoopP (fun (d6:(List UInt8)×Int) (q6:((List UInt8)×Int)→Prop) =>
    ((decide (d6.2<(lI lw)))=true →
     (0≤e6.2)∧(e6.2<(List.length (rows.map fun r=>JR r hd.toNat)))∧(0≤d6.2)∧(d6.2<(List.length lw))∧(0≤(gD lw d6.2 0))∧((gD lw d6.2 0)<(List.length (gD (rows.map fun r=>JR r hd.toNat) e6.2 [])))∧((gD (gD (rows.map fun r=>JR r hd.toNat) e6.2 []) (gD lw d6.2 0) false)=true →
      ((List.length d6.1)+(List.length [120])≤4611686018427387904)∧(I64 (d6.2+(1:Int)))∧(∃ d7:(List UInt8)×Int,((True∧True∧True∧e6.2=e6.2∧(d6.1++[120])=d7.1∧(d6.2+(1:Int))=d7.2∧True)∧((hk=hk∧lw=lw∧(([]:List SV)=[]))∧(e6.1=e6.1∧false=false)∧((rows.map fun r=>JR r hd.toNat)=(rows.map fun r=>JR r hd.toNat)∧false=false)∧True))∧q6 d7)) ∧
     ((gD (gD (rows.map fun r=>JR r hd.toNat) e6.2 []) (gD lw d6.2 0) false)=false →
      ((List.length d6.1)+(List.length [46])≤4611686018427387904)∧(I64 (d6.2+(1:Int)))∧(∃ d8:(List UInt8)×Int,((True∧True∧True∧e6.2=e6.2∧(d6.1++[46])=d8.1∧(d6.2+(1:Int))=d8.2∧True)∧((hk=hk∧lw=lw∧(([]:List SV)=[]))∧(e6.1=e6.1∧false=false)∧((rows.map fun r=>JR r hd.toNat)=(rows.map fun r=>JR r hd.toNat)∧false=false)∧True))∧q6 d8))) ∧
    ((decide (d6.2<(lI lw)))=false →
     (((List.length e6.1)+(List.length [d6.1]))*16≤70368744177664)∧(I64 (e6.2+(1:Int)))∧(∃ d9:(List (List UInt8))×Int,((True∧True∧True∧(e6.2+(1:Int))=d9.2∧True)∧((hk=hk∧lw=lw∧(([]:List SV)=[]))∧((e6.1++[d6.1])=d9.1∧false=false)∧((rows.map fun r=>JR r hd.toNat)=(rows.map fun r=>JR r hd.toNat)∧false=false)∧True))∧q3 d9))) d60) ∧
  ((decide (d3.2<(lI (rows.map fun r=>JR r hd.toNat))))=false →
   (True∧((d3.1=(Qs hk lw hd rows)∧false=false)∧True)))) d30
def VJ:Cx:=⟨[(9,.st)],[(44,Yp)],46,[],0,[],[],[],[],false,[],[],[],[]⟩
def Bt (hk:Int) (lw:List Int) (hd:Int) (rows:List Int):List (Nat×LoopAnn):=[(0,⟨Unit,(List (List UInt8))×Int,[2,5,6,7],fun e x=>[.box 2 0,.lst 10,.dd 12 .out,.val (.i .i64) x.2],fun e x=>[(2,.slot 2,.cells [.val (.i .i64) hk,.val (.list (.i .i64)) lw] (some 24)),(10,.slot 5,.lst 9 .st x.1 false),(12,.slot 6,.deep 98 (some 4) (.list .bo) (rows.map fun r=>JR r hd.toNat) false none)]⟩),
 (2,⟨(List (List UInt8))×Int,(List UInt8)×Int,[2,5,6,7,8,9],fun e x=>[.box 2 0,.lst 10,.dd 12 .out,.val (.i .i64) e.2,.val .st x.1,.val (.i .i64) x.2],fun e x=>[(2,.slot 2,.cells [.val (.i .i64) hk,.val (.list (.i .i64)) lw] (some 24)),(10,.slot 5,.lst 9 .st e.1 false),(12,.slot 6,.deep 98 (some 4) (.list .bo) (rows.map fun r=>JR r hd.toNat) false none)]⟩)]
theorem By (d:(Int×List Int)×Int×List Int):gwp (VJ) (Bt d.1.1 d.1.2 d.2.1 d.2.2) c16 0 (Vt [.tmp 4] (K7 d) (Kh d)) (QL 46 (AL.can VW d))=Xd d.1.1 d.1.2 d.2.1 d.2.2:=by kernel_rfl
abbrev Bq:Prop:=OkC Tryz.prog 16 XL
theorem DZ (h:∀ (hk:Int) (lw:List Int) (hd:Int) (rows:List Int),(ZE hk lw hd rows=0)→Xd hk lw hd rows):OkC Tryz.prog 16 XL :=
 Z3 Q14 mixed (C:=VJ) (V:=fun (d:(Int×List Int)×Int×List Int)=>Xd d.1.1 d.1.2 d.2.1 d.2.2) ⟨(.cons BM .nil),XsOk.nil,ItsOk.nil,YlOk.nil,IysOk.nil,XfOk.nil⟩ (By) fun d hp=>h d.1.1 d.1.2 d.2.1 d.2.2 hp
theorem VF:Bq:=DZ fun hk lw hd rows h=>by
 unfold Xd;(try delta lI gD sT I64 Q1 pj8 pj4);obtain⟨e1,e2,rfl⟩:=HW h;obtain⟨t1,t2,t3,t4,t5⟩:=Ro e1;obtain⟨p1,p2,p3,p4,p5⟩:=HF e2;have jT:=KE p1 p2;have hC:Qs hd lw hd rows=rows.map (Jz lw):=by simp[Qs,h]
 rw[hC];have hT:∀ i,i<rows.length→(rows.map fun r=>JR r hd.toNat).getD i []=JR (rows.getD i 0) hd.toNat:=fun i hi=>by rw[Qw (by simpa using hi),Qw hi];simp
 have tP:(rows.map fun r=>JR r hd.toNat).length=rows.length:=by simp
 generalize x5:(rows.map fun r=>JR r hd.toNat)=T at hT tP ⊢
 (try simp only[decide_eq_true_eq,decide_eq_false_iff_not])
 refine⟨⟨by omega,fun x hx=>by have:=p5 x hx;omega,by omega,by omega⟩,(),([],0),(by and_intros<;>first|rfl|trivial|simp),?_⟩;refine LoopP.count2 rows.length (fun i xs=>xs=(rows.take i).map (Jz lw)) (by simp) fun i xs hi hJ q hq=>?_;have gG:xs.length=i:=by rw[hJ];simp;omega
 subst hJ;dsimp only;simp only[Q7,tP];refine⟨fun aj=>⟨((rows.take i).map (Jz lw),(i:Int)),([],0),(by and_intros<;>first|rfl|trivial|simp),?_⟩,fun bj=>?_⟩
 ·have aj:i<rows.length:=by omega
  dsimp only;refine LoopP.count2 lw.length (fun j s=>s=Jz (lw.take j) (rows.getD i 0)) (by simp[Jz]) fun j s hj hJ q2 lL=>?_;have lh:s.length=j:=by rw[hJ,PH];simp;omega
  dsimp only;simp only[Int.toNat_natCast,hT i aj,MJ];refine⟨fun gy=>?_,fun bj=>?_⟩
  ·have gy:j<lw.length:=by omega
   have hx:=t5 _ (List.getElem_mem gy);have hs:Jz (lw.take (j+1)) (rows.getD i 0)=s++[if (rows.getD i 0).toNat.testBit (lw[j]).toNat then 120 else 46]:=by rw[Z6 gy,Jz,List.map_append,hJ];rfl
   rw[Qw gy,TY (by omega)];simp only[List.length_singleton];refine⟨by omega,by omega,by omega,by omega,by omega,by omega,fun hb=>?_,fun hb=>?_⟩
   ·refine⟨by omega,by omega,(_,_),(by and_intros<;>first|rfl|trivial|simp),lL _ gy ?_⟩;rw[hs,if_pos hb]
   ·refine⟨by omega,by omega,(_,_),(by and_intros<;>first|rfl|trivial|simp),lL _ gy ?_⟩;rw[hs,hb];rfl
  ·have:j=lw.length:=by omega
   subst this;rw[List.take_length] at hJ;simp only[List.length_singleton];refine⟨by omega,by omega,(_,_),(by and_intros<;>first|rfl|trivial|simp),hq _ aj ?_⟩;rw[Z6 aj,List.map_append,hJ,Qw aj];rfl
 ·have:i=rows.length:=by omega
  subst this;rw[List.take_length];exact(by and_intros<;>first|rfl|trivial|simp)
def Kq:AL (List (List UInt8)×Int):=(.cons (.k (.list .st)) (.one (.k (.i .i64))))
def Mp (d:List (List UInt8)×Int):Prop:=d.1.length≤1000∧(∀ s∈d.1,s.length≤1000)
def YM (d:List (List UInt8)×Int):SV:=.lst 0
def YJ (d:List (List UInt8)×Int):List OB:=[.lst 84 (.pair (.i .i64) (.pair (.i .i64) (.pair (.i .i64) .bo))) (WU d.2 d.1) false]
def WW:CSp:=K8 Kq Mp YM YJ
def Jy (c:List (List UInt8)) (bd:Int):Prop :=
 ∃ (e2:Unit) (d20:(List (Int×Int×Int×Bool))×Int),((c=c∧bd=bd∧True∧(0:Int)=d20.2∧True)∧((([]:List (Int×Int×Int×Bool))=d20.1∧false=false)∧True)) ∧
 LoopP (fun (d2:(List (Int×Int×Int×Bool))×Int) (q2:((List (Int×Int×Int×Bool))×Int)→Prop) =>
  ((decide (d2.2<(lI c)))=true →
   (0≤d2.2)∧(d2.2<(List.length c))∧((gD c d2.2 []).length≤1000)∧∃ (e5:Int×(List Bool)) (d50:(List (Int×Int×Int×Bool))×Int),((c=c∧bd=bd∧True∧d2.2=e5.1∧True∧(0:Int)=d50.2∧True)∧((d2.1=d50.1∧false=false)∧((Dv (gD c d2.2 []))=e5.2∧false=false)∧True)) ∧
   LoopP (fun (d5:(List (Int×Int×Int×Bool))×Int) (q5:((List (Int×Int×Int×Bool))×Int)→Prop) =>
    ((decide (d5.2<(lI e5.2)))=true →
     (0≤d5.2∧d5.2<e5.2.length∧e5.2.length≤1000)∧(((decide (((Zi e5.2 d5.2.toNat:Nat):Int) > (0:Int)))&&(decide (((Zi e5.2 d5.2.toNat:Nat):Int) > bd)))=true →
      (0≤d5.2)∧(d5.2<(List.length e5.2))∧(((List.length d5.1)+(List.length [(e5.1,(d5.2,(((Zi e5.2 d5.2.toNat:Nat):Int),(gD e5.2 d5.2 false))))]))*32≤70368744177664)∧(I64 (d5.2+(1:Int)))∧(∃ d6:(List (Int×Int×Int×Bool))×Int,((c=c∧bd=bd∧True∧e5.1=e5.1∧True∧(d5.2+(1:Int))=d6.2∧True)∧(((d5.1++[(e5.1,(d5.2,(((Zi e5.2 d5.2.toNat:Nat):Int),(gD e5.2 d5.2 false))))])=d6.1∧false=false)∧(e5.2=e5.2∧false=false)∧True))∧q5 d6)) ∧
     (((decide (((Zi e5.2 d5.2.toNat:Nat):Int) > (0:Int)))&&(decide (((Zi e5.2 d5.2.toNat:Nat):Int) > bd)))=false →
      (I64 (d5.2+(1:Int)))∧(∃ d7:(List (Int×Int×Int×Bool))×Int,((c=c∧bd=bd∧True∧e5.1=e5.1∧True∧(d5.2+(1:Int))=d7.2∧True)∧((d5.1=d7.1∧false=false)∧(e5.2=e5.2∧false=false)∧True))∧q5 d7))) ∧
    ((decide (d5.2<(lI e5.2)))=false →
     (I64 (e5.1+(1:Int)))∧(∃ d8:(List (Int×Int×Int×Bool))×Int,((c=c∧bd=bd∧True∧(e5.1+(1:Int))=d8.2∧True)∧((d5.1=d8.1∧false=false)∧True))∧q2 d8))) d50) ∧
  ((decide (d2.2<(lI c)))=false →
   (True∧((d2.1=(WU bd c)∧false=false)∧True)))) d20
def Ko:Cx:=⟨[(84,(.pair (.i .i64) (.pair (.i .i64) (.pair (.i .i64) .bo))))],[(66,WN),(42,Xf)],50,[],0,[],[],[],[],false,[],[],[],[]⟩
def G7 (c:List (List UInt8)) (bd:Int):List (Nat×LoopAnn):=[(0,⟨Unit,(List (Int×Int×Int×Bool))×Int,[0,1,5,6],fun e x=>[.val (.list .st) c,.val (.i .i64) bd,.lst 10,.val (.i .i64) x.2],fun e x=>[(10,.slot 5,.lst 84 (.pair (.i .i64) (.pair (.i .i64) (.pair (.i .i64) .bo))) x.1 false)]⟩),
 (2,⟨Int×(List Bool),(List (Int×Int×Int×Bool))×Int,[0,1,5,6,7,8],fun e x=>[.val (.list .st) c,.val (.i .i64) bd,.lst 10,.val (.i .i64) e.1,.lst 21,.val (.i .i64) x.2],fun e x=>[(10,.slot 5,.lst 84 (.pair (.i .i64) (.pair (.i .i64) (.pair (.i .i64) .bo))) x.1 false),(21,.slot 7,.lst 4 .bo e.2 false)]⟩)]
theorem G4 (d:List (List UInt8)×Int):gwp (Ko) (G7 d.1 d.2) c43 0 (Vt [.tmp 4] (YM d) (YJ d)) (QL 50 (AL.can Kq d))=Jy d.1 d.2:=by kernel_rfl
abbrev Dw:Prop:=OkC Tryz.prog 43 WW
theorem Da (h:∀ (c:List (List UInt8)) (bd:Int),(c.length≤1000∧(∀ s∈c,s.length≤1000))→Jy c bd):OkC Tryz.prog 43 WW :=
 Z3 Q0a mixed (C:=Ko) (V:=fun (d:List (List UInt8)×Int)=>Jy d.1 d.2) ⟨(.cons MQ (.cons Kf .nil)),XsOk.nil,ItsOk.nil,YlOk.nil,IysOk.nil,XfOk.nil⟩ (G4) fun d hp=>h d.1 d.2 hp
theorem DQ:Dw:=Da fun c bd h=>by
 obtain⟨h1,h2⟩:=h;unfold Jy;(try delta lI gD sT I64 Q1 pj8 pj4)
 (try simp only[decide_eq_true_eq,decide_eq_false_iff_not])
 refine⟨(),([],0),(by and_intros<;>first|rfl|trivial|simp),?_⟩;refine LoopP.count2 c.length (fun i xs=>xs=K5 bd c i) (by simp[K5]) fun i xs hi hJ q hq=>?_;subst hJ;have hl:=NH bd c 1000 h2 i hi;dsimp only;simp only[Q7,Int.toNat_natCast];refine⟨fun aj=>?_,fun bj=>?_⟩
 ·have aj:i<c.length:=by omega
  have hs:(c.getD i []).length≤1000:=by rw[Qw aj];exact h2 _ (List.getElem_mem aj)
  refine⟨by omega,by omega,hs,((i:Int),Dv (c.getD i [])),(K5 bd c i,0),(by and_intros<;>first|rfl|trivial|simp),?_⟩;have hn:=Gf bd c i;rw[←Gi] at hn hs;generalize Dv (c.getD i [])=p at hn hs ⊢;dsimp only;refine LoopP.count2 p.length (fun j xs=>xs=K5 bd c i++Mg i bd p j) (by simp[Mg]) fun j xs hj hJ q2 lL=>?_;have cJ:=PI i bd p j;have gG:xs.length≤1000*1000+1000:=by rw[hJ,List.length_append];omega
  dsimp only;simp only[Int.toNat_natCast,List.length_singleton,Bool.and_eq_true,Bool.and_eq_false_iff,decide_eq_true_eq,decide_eq_false_iff_not];refine⟨fun gy=>⟨⟨by omega,by omega,hs⟩,fun hb=>?_,fun hb=>?_⟩,fun bj=>?_⟩
  ·refine⟨by omega,by omega,by omega,by omega,(_,_),(by and_intros<;>first|rfl|trivial|simp),lL _ (by omega) ?_⟩;rw[Ho,hJ,Q0c,if_pos ⟨by omega,by omega⟩,List.append_assoc];rfl
  ·refine⟨by omega,(_,_),(by and_intros<;>first|rfl|trivial|simp),lL _ (by omega) ?_⟩;rw[Ho,hJ,Q0c,if_neg (by omega)];simp
  ·have:j=p.length:=by omega
   subst this;refine⟨by omega,(_,_),(by and_intros<;>first|rfl|trivial|simp),hq _ aj ?_⟩;rw[hn,hJ]
 ·have:i=c.length:=by omega
  subst this;exact(by and_intros<;>first|rfl|trivial|simp)
def QJ (lw:List Int) (fr:Nat):Nat→Nat
 |0=>0
 |n+1=>QJ lw fr n ||| 2 ^ (lw.getD ((fr+n) % lw.length) 0).toNat
theorem Pw {lw:List Int}{H:Nat}(hl:1≤lw.length) (h:∀ x∈lw,0≤x∧x<(H:Int)) (fr:Nat):∀ n,QJ lw fr n<2 ^ H
 |0=>by simp[QJ,Nat.two_pow_pos]
 |n+1=>by unfold QJ;have hm:=Nat.mod_lt (fr+n) (show 0<lw.length by omega);have:=h (lw.getD ((fr+n) % lw.length) 0) (by rw[Qw hm];exact List.getElem_mem hm);exact Nat.or_lt_two_pow (Pw hl h fr n) (Nat.pow_lt_pow_right (by omega) (by omega))
def QD (hk bd s:Int):Bool:=decide (XJ s.toNat s.toNat bd.toNat hk.toNat<1048576)
def Wp (hk bd s:Int):Int:=if QD hk bd s=true then ((YY s.toNat s.toNat bd.toNat hk.toNat:Nat):Int) else 0
def FrI (hk bd:Int) (m:List (Int×Int×Bool)):Prop:=∀ k:Int,gq.ahas (.i .i64) m k=true→gq.aget (.i .i64) m k (0,false)=(Wp hk bd k,QD hk bd k)
theorem Q1e (hk bd:Int):FrI hk bd []:=fun k h=>by cases h
theorem Q4m (a b:(Kind.i .i64).T):gq.keq (.i .i64) a b=true↔a=b:=by show ((show Int from a)==(show Int from b))=true↔_;exact beq_iff_eq
theorem Fa {hk bd s:Int}{m:List (Int×Int×Bool)}{v:Int×Bool}(h:FrI hk bd m) (hv:v=(Wp hk bd s,QD hk bd s)):FrI hk bd (PS (.i .i64) m s v):=fun e he=>by
 obtain⟨h1,h2⟩:=Q03 Q4m s v e ((0:Int),false) m;by_cases c:e=s
 ·rw[(h1 c).1,c];exact hv
 ·rw[(h2 c).2] at he;rw[(h2 c).1];exact h e he
theorem Q18 {hk bd s:Int}(h1:1≤hk∧hk≤24) (h2:1≤bd∧bd≤24) (h3:0≤s∧s<2 ^ hk.toNat):Q8 hk [s] [s] bd=(if QD hk bd s=true then 0 else 9)∧Jb hk [s] [s] bd=(if QD hk bd s=true then [Wp hk bd s] else []):=by
 have pe:Qn hk [s]=0:=by unfold Qn inI;have e1:decide (0≤s)=true:=decide_eq_true h3.1;have e2:decide (s≤2 ^ hk.toNat-1)=true:=decide_eq_true (by omega);simp[e1,e2,h1]
 have aN:([s].any fun n=>!inI n 0 (2 ^ hk.toNat-1))=false:=by unfold inI;have e1:decide (0≤s)=true:=decide_eq_true h3.1;have e2:decide (s≤2 ^ hk.toNat-1)=true:=decide_eq_true (by omega);simp[e1,e2]
 have hb:inI bd 1 24=true:=by unfold inI;rw[decide_eq_true h2.1,decide_eq_true h2.2];rfl
 have rW:NL hk [s] [s] bd=!QD hk bd s:=by unfold NL QD Cm;simp only[List.length_cons,List.length_nil,List.range_succ,List.range_zero,List.nil_append,List.any_cons,List.any_nil,Bool.or_false,List.getD_cons_zero];rw[Bool.eq_iff_iff];simp only[decide_eq_true_eq,Bool.not_eq_true',decide_eq_false_iff_not];omega
 have e:Q8 hk [s] [s] bd=(if QD hk bd s=true then 0 else 9):=by unfold Q8;rw[if_neg (by omega),if_neg (by simp),if_neg (by rw[aN];decide),if_neg (by rw[hb];decide),rW];cases QD hk bd s<;>rfl
 refine⟨e,?_⟩;unfold Jb;rw[e];by_cases c:QD hk bd s=true
 ·rw[if_pos c,if_pos rfl,if_pos c];unfold Wp;rw[if_pos c];simp[Nm,Q57,List.range_succ]
 ·rw[if_neg c,if_neg (by decide),if_neg c]
def lgI (hk:Int) (lw:List Int) (bd:Int) (fr:Nat):Nat→Nat→Int→Nat×Int
 |0,l,b=>(l,b)
 |m+1,l,b=>if l+1<lw.length∧QD hk bd (QJ lw fr (l+1):Nat)=true then lgI hk lw bd fr m (l+1) (Wp hk bd (QJ lw fr (l+1):Nat)) else (l,b)
def lgK (hk:Int) (lw:List Int) (bd:Int):Nat→Nat×Int
 |0=>(0,0)
 |k+1=>lgI hk lw bd k (lw.length-(lgK hk lw bd k).1) (lgK hk lw bd k).1 (lgK hk lw bd k).2
def lgN (hk:Int) (lw:List Int) (bd:Int):Int:=if QD hk bd (QJ lw 0 lw.length:Nat)=true then 1000 else ((lgK hk lw bd lw.length).1:Int)
def lgR (hk:Int) (lw:List Int) (bd:Int):Int:=if QD hk bd (QJ lw 0 lw.length:Nat)=true then Wp hk bd (QJ lw 0 lw.length:Nat) else (lgK hk lw bd lw.length).2
def lgO (hk:Int) (lw:List Int) (bd:Int):Bool:=if QD hk bd (QJ lw 0 lw.length:Nat)=true then true else decide (0<(lgK hk lw bd lw.length).1)
theorem Ei (hk:Int) (lw:List Int) (bd:Int) (fr:Nat):∀ m l b,l≤(lgI hk lw bd fr m l b).1∧(l<lw.length→(lgI hk lw bd fr m l b).1<lw.length)
 |0,l,b=>⟨Nat.le_refl _,id⟩
 |m+1,l,b=>by
  unfold lgI;split
  ·rename_i h;have:=Ei hk lw bd fr m (l+1) (Wp hk bd (QJ lw fr (l+1):Nat));exact⟨by omega,fun _=>this.2 h.1⟩
  ·exact⟨Nat.le_refl _,id⟩
theorem SW {hk:Int}{lw:List Int}{bd:Int}(h:1≤lw.length):∀ k,(lgK hk lw bd k).1<lw.length
 |0=>h
 |k+1=>(Ei hk lw bd k _ _ _).2 (SW h k)
def QH (hk:Int) (lw:List Int) (bd:Int):Int:=if Ql hk lw≠0 then Ql hk lw else if inI bd 1 24=false then 3 else if QD hk bd 0=true then 0 else 9
def Yh (hk:Int) (lw:List Int) (bd:Int):Int:=if QH hk lw bd=0 then lgN hk lw bd else 0
def Z8 (hk:Int) (lw:List Int) (bd:Int):Int:=if QH hk lw bd=0 then lgR hk lw bd else 0
def Um (row hk bd:Int):Bool:=(List.range hk.toNat).all fun k=>decide (((Zi (JR row hk.toNat) k:Nat):Int)≤bd)
def lgX (c:List (List UInt8)):Int:=(WU 0 c).foldl (fun a x=>K1 a x.2.2.1) 0
def Sl (hk:Int) (lw:List Int) (bd:Int):Int:=(List.range (2 ^ hk.toNat)).foldl (fun a (r:Nat)=>if Um (r:Int) hk bd=true then K1 a (lgX (Qs hk lw hk [(r:Int)])) else a) 0
theorem Q34 {hk:Int}{lw:List Int}(h:Ql hk lw=0):(1≤hk∧hk≤24)∧(1≤lw.length∧lw.length≤96)∧∀ x∈lw,0≤x∧x<hk:=by
 unfold Ql at h;split at h
 ·cases h
 ·rename_i h1;split at h
  ·cases h
  ·rename_i h2;split at h
   ·cases h
   ·rename_i h3;split at h
    ·cases h
    ·rename_i h4;have h1:1≤hk∧hk≤24:=by simpa [inI] using h1
     refine⟨h1,by omega,fun x hx=>?_⟩;have h5:∀ x∈lw,inI x 0 (hk-1)=true:=by simpa using h4
     have:=h5 x hx;simp only[inI,Bool.and_eq_true,decide_eq_true_eq] at this;omega
def Wc:AL ((Int×List Int×Unit×Unit)×Int×Int):=(.cons (.ptr (.cons (.k (.i .i64)) (.cons (.k (.list (.i .i64))) (.cons .any (.one .any))))) (.cons (.k (.i .i64)) (.one (.k (.i .i64)))))
def Vr (d:(Int×List Int×Unit×Unit)×Int×Int):Prop:=(1≤d.1.1∧d.1.1≤24)∧(1≤d.1.2.1.length∧d.1.2.1.length≤110)∧(∀ x∈d.1.2.1,0≤x∧x<d.1.1)∧0≤d.2.1∧d.2.1≤110∧0≤d.2.2∧d.2.2≤110
def XC (d:(Int×List Int×Unit×Unit)×Int×Int):SV:=.val (.i .i64) ((QJ d.1.2.1 d.2.1.toNat d.2.2.toNat:Nat):Int)
def Xz (d:(Int×List Int×Unit×Unit)×Int×Int):List OB:=[]
def JD:CSp:=K8 Wc Vr XC Xz
def ZG (hk:Int) (lw:List Int) (fr:Int) (ln:Int):Prop :=
 ∃ (e2:Unit) (d20:Int×Int),(((SV.cp [.val (.i .i64) hk,.val (.list (.i .i64)) lw,.any,.any] 0=SV.cp [.val (.i .i64) hk,.val (.list (.i .i64)) lw,.any,.any] 0∧SVs.pure [.val (.i .i64) hk,.val (.list (.i .i64)) lw,.any,.any]=true)∧fr=fr∧(0:Int)=d20.1∧ln=ln∧(0:Int)=d20.2∧True)∧(True)) ∧
 LoopP (fun (d2:Int×Int) (q2:(Int×Int)→Prop) =>
  ((decide (d2.2<ln))=true →
   (I64 (fr+d2.2))∧((lI lw)≠0)∧(0≤(Int.tmod (fr+d2.2) (lI lw)))∧((Int.tmod (fr+d2.2) (lI lw))<(List.length lw))∧(0≤(gD lw (Int.tmod (fr+d2.2) (lI lw)) 0))∧(I64 (WO .i64 (1:Int) (gD lw (Int.tmod (fr+d2.2) (lI lw)) 0)))∧(I64 (d2.2+(1:Int)))∧(∃ d3:Int×Int,(((SV.cp [.val (.i .i64) hk,.val (.list (.i .i64)) lw,.any,.any] 0=SV.cp [.val (.i .i64) hk,.val (.list (.i .i64)) lw,.any,.any] 0∧SVs.pure [.val (.i .i64) hk,.val (.list (.i .i64)) lw,.any,.any]=true)∧fr=fr∧(W_ .or .i64 d2.1 (WO .i64 (1:Int) (gD lw (Int.tmod (fr+d2.2) (lI lw)) 0)))=d3.1∧ln=ln∧(d2.2+(1:Int))=d3.2∧True)∧(True))∧q2 d3)) ∧
  ((decide (d2.2<ln))=false →
   (d2.1=((QJ lw fr.toNat ln.toNat:Nat):Int)∧(True)))) d20
def Wm:Cx:=⟨[],[],36,[],0,[],[],[],[],false,[],[],[],[]⟩
def U4 (hk:Int) (lw:List Int) (fr:Int) (ln:Int):List (Nat×LoopAnn):=[(0,⟨Unit,Int×Int,[0,1,6,8,9],fun e x=>[.cp [.val (.i .i64) hk,.val (.list (.i .i64)) lw,.any,.any] 0,.val (.i .i64) fr,.val (.i .i64) x.1,.val (.i .i64) ln,.val (.i .i64) x.2],fun e x=>[]⟩)]
theorem Uh (d:(Int×List Int×Unit×Unit)×Int×Int):gwp (Wm) (U4 d.1.1 d.1.2.1 d.2.1 d.2.2) c65 0 (Vt [.tmp 6] (XC d) (Xz d)) (QL 36 (AL.can Wc d))=ZG d.1.1 d.1.2.1 d.2.1 d.2.2:=by kernel_rfl
abbrev Uq:Prop:=OkC Tryz.prog 65 JD
theorem U5 (h:∀ (hk:Int) (lw:List Int) (fr:Int) (ln:Int),((1≤hk∧hk≤24)∧(1≤lw.length∧lw.length≤110)∧(∀ x∈lw,0≤x∧x<hk)∧0≤fr∧fr≤110∧0≤ln∧ln≤110)→ZG hk lw fr ln):OkC Tryz.prog 65 JD :=
 Z3 Q1p mixed (C:=Wm) (V:=fun (d:(Int×List Int×Unit×Unit)×Int×Int)=>ZG d.1.1 d.1.2.1 d.2.1 d.2.2) ⟨.nil,XsOk.nil,ItsOk.nil,YlOk.nil,IysOk.nil,XfOk.nil⟩ (Uh) fun d hp=>h d.1.1 d.1.2.1 d.2.1 d.2.2 hp
theorem Q08 {a b:Nat}(ha:a<16777216) (hb:b<16777216):W_ .or .i64 (a:Int) (b:Int)=((a ||| b:Nat):Int):=by
 have e:(BitVec.ofInt 64 ((a:Nat):Int) ||| BitVec.ofInt 64 ((b:Nat):Int)).toNat=a ||| b:=by rw[BitVec.toNat_or,BitVec.toNat_ofInt,BitVec.toNat_ofInt];congr 1<;>omega
 have aj:a ||| b<2 ^ 24:=Nat.or_lt_two_pow (by omega) (by omega)
 show IntKind.wrap .i64 ((BitVec.ofInt 64 ((a:Nat):Int) ||| BitVec.ofInt 64 ((b:Nat):Int)).toNat:Int)=_;rw[e];generalize a ||| b=c at *
 simp[IntKind.wrap,IntKind.bits,IntKind.signed];omega
theorem Uf:Uq:=U5 fun hk lw fr ln h=>by
 obtain⟨h1,h2,h3,h4,h5,h6,h7⟩:=h;unfold ZG;(try delta lI gD sT I64 Q1 pj8 pj4);obtain⟨H,rfl⟩:=Int.eq_ofNat_of_zero_le (show 0≤hk by omega);obtain⟨f,rfl⟩:=Int.eq_ofNat_of_zero_le h4;obtain⟨n,rfl⟩:=Int.eq_ofNat_of_zero_le h6;have aj:=Pw h2.1 h3 f;have x6:(2:Nat) ^ H≤2 ^ 24:=Nat.pow_le_pow_right (by omega) (by omega);simp only[true_and,and_true,Int.toNat_natCast];refine⟨(),(0,0),by and_intros<;>first|rfl|trivial,?_⟩;refine⟨fun d=>∃ i:Nat,i≤n∧d=(((QJ lw f i:Nat):Int),(i:Int)),fun d=>n-d.2.toNat,⟨0,by omega,rfl⟩,?_⟩;rintro _ ⟨i,hi,rfl⟩;dsimp only;refine⟨fun c=>?_,fun c=>?_⟩
 ·have hi:i<n:=by have:=of_decide_eq_true c;omega
  have hm:=Nat.mod_lt (f+i) (show 0<lw.length by omega);have et:Int.tmod ((f:Int)+(i:Int)) (lw.length:Int)=(((f+i) % lw.length:Nat):Int):=by rw[Int.tmod_eq_emod_of_nonneg (by omega),←Int.natCast_add,←Int.natCast_emod]
  rw[et,Int.toNat_natCast];have hx:=h3 (lw.getD ((f+i) % lw.length) 0) (by rw[Qw hm];exact List.getElem_mem hm);have hw:QJ lw f (i+1)=QJ lw f i ||| 2 ^ (lw.getD ((f+i) % lw.length) 0).toNat:=rfl
  have hl:=aj i;generalize lw.getD ((f+i) % lw.length) 0=x at *
  obtain⟨k,rfl⟩:=Int.eq_ofNat_of_zero_le hx.1;have sh:WO .i64 1 (k:Int)=((2 ^ k:Nat):Int):=by rw[GQ (by omega) (by omega)];simp
  have pk:(2:Nat) ^ k<2 ^ H:=Nat.pow_lt_pow_right (by omega) (by omega);rw[sh];rw[Int.toNat_natCast] at hw;have ik:InK .i64 ((2 ^ k:Nat):Int):=by
   clear sh hw;generalize (2:Nat) ^ k=P at *
   rw[Q7];omega
  rw[Q08 (by omega) (by omega),←hw];refine⟨by rw[Q7];omega,by omega,by omega,by omega,by omega,ik,by rw[Q7];omega,(((QJ lw f (i+1):Nat):Int),(i:Int)+1),?_,⟨i+1,hi,rfl⟩,by dsimp only;omega⟩;and_intros<;>first|rfl|trivial
 ·have hi:i=n:=by have:=of_decide_eq_false c;omega
  rw[hi]
def JZ:AL (Int×List Int×Int):=(.cons (.k (.i .i64)) (.cons (.k (.list (.i .i64))) (.one (.k (.i .i64)))))
def X6:AL (Int):=(.one (.k (.i .i64)))
def Y7 (m:List (Int×Int×Bool)) (c:Int×List Int×Int) (a:Int):Prop:=(1≤c.1∧c.1≤24)∧(1≤c.2.2∧c.2.2≤24)∧(1≤c.2.1.length∧c.2.1.length≤110)∧(∀ x∈c.2.1,0≤x∧x<c.1)∧(0≤a∧a<2 ^ c.1.toNat)∧FrI c.1 c.2.2 m
def X4 (m:List (Int×Int×Bool)) (c:Int×List Int×Int) (a:Int):SV:=.agg [.val (.i .i64) (Wp c.1 c.2.2 a),.val .bo (QD c.1 c.2.2 a)]
def JN (m:List (Int×Int×Bool)) (c:Int×List Int×Int) (a:Int) (m2:List (Int×Int×Bool)):Prop:=FrI c.1 c.2.2 m2
def YF (c:Int×List Int×Int) (a:Int):Nat:=0
def JO:XSp:=KH DL 3 (.i .i64) (.pair (.i .i64) .bo) (C6 JZ X6 Y7 X4 JN)
def Jk (a_:Nat) (m:List (Int×Int×Bool)) (hk:Int) (lw:List Int) (bd:Int) (s:Int):Prop:=∀ vals:List Value,
 ((gq.ahas (.i .i64) m s)=true →
  (vals=vals∧(True∧(([]:List SV)=[]))∧((gq.aget (.i .i64) m s (0,false)).1=(Wp hk bd s)∧(gq.aget (.i .i64) m s (0,false)).2=(QD hk bd s)∧(([]:List SV)=[]))∧(FrI hk bd m))) ∧
 ((gq.ahas (.i .i64) m s)=false →
  ([s].length≤1000∧[s].length≤1000)∧((Jb hk [s] [s] bd).isEmpty=true→(Jb hk [s] [s] bd)=[])∧(((hk=hk∧lw=lw∧bd=bd∧True∧(([]:List SV)=[]))∧s=s∧True∧True∧(Q8 hk [s] [s] bd)=(Q8 hk [s] [s] bd)∧True)∧((m=m)∧((0:Int)=(0:Int)∧false=false∧(([]:List SV)=[]))∧((gq.aget (.i .i64) m s (0,false)).1=(gq.aget (.i .i64) m s (0,false)).1∧(gq.aget (.i .i64) m s (0,false)).2=(gq.aget (.i .i64) m s (0,false)).2∧(([]:List SV)=[]))∧((if Q8 hk [s] [s] bd=0 then hk else 0)=(if Q8 hk [s] [s] bd=0 then hk else 0)∧True∧(([]:List SV)=[]))∧([s]=[s]∧false=false)∧([s]=[s]∧false=false)∧((Jb hk [s] [s] bd)=(Jb hk [s] [s] bd)∧(Jb hk [s] [s] bd).isEmpty=(Jb hk [s] [s] bd).isEmpty)∧(vals=vals∧(True∧(([]:List SV)=[])))∧True))∧(([s].length≤1000∧[s].length≤1000)∧((Jb hk [s] [s] bd).isEmpty=true→(Jb hk [s] [s] bd)=[])∧(((hk=hk∧lw=lw∧bd=bd∧True∧(([]:List SV)=[]))∧s=s∧True∧True∧(Q8 hk [s] [s] bd)=(Q8 hk [s] [s] bd)∧True)∧((m=m)∧((0:Int)=(0:Int)∧false=false∧(([]:List SV)=[]))∧((gq.aget (.i .i64) m s (0,false)).1=(gq.aget (.i .i64) m s (0,false)).1∧(gq.aget (.i .i64) m s (0,false)).2=(gq.aget (.i .i64) m s (0,false)).2∧(([]:List SV)=[]))∧((if Q8 hk [s] [s] bd=0 then hk else 0)=(if Q8 hk [s] [s] bd=0 then hk else 0)∧True∧(([]:List SV)=[]))∧([s]=[s]∧false=false)∧([s]=[s]∧false=false)∧((Jb hk [s] [s] bd)=(Jb hk [s] [s] bd)∧(Jb hk [s] [s] bd).isEmpty=(Jb hk [s] [s] bd).isEmpty)∧(vals=vals∧(True∧(([]:List SV)=[])))∧True)))∧(([s].length≤1000∧[s].length≤1000)∧((Jb hk [s] [s] bd).isEmpty=true→(Jb hk [s] [s] bd)=[])∧(((hk=hk∧lw=lw∧bd=bd∧True∧(([]:List SV)=[]))∧s=s∧True∧True∧(Q8 hk [s] [s] bd)=(Q8 hk [s] [s] bd)∧True)∧((m=m)∧((0:Int)=(0:Int)∧false=false∧(([]:List SV)=[]))∧((gq.aget (.i .i64) m s (0,false)).1=(gq.aget (.i .i64) m s (0,false)).1∧(gq.aget (.i .i64) m s (0,false)).2=(gq.aget (.i .i64) m s (0,false)).2∧(([]:List SV)=[]))∧((if Q8 hk [s] [s] bd=0 then hk else 0)=(if Q8 hk [s] [s] bd=0 then hk else 0)∧True∧(([]:List SV)=[]))∧([s]=[s]∧false=false)∧([s]=[s]∧false=false)∧((Jb hk [s] [s] bd)=(Jb hk [s] [s] bd)∧(Jb hk [s] [s] bd).isEmpty=(Jb hk [s] [s] bd).isEmpty)∧(vals=vals∧(True∧(([]:List SV)=[])))∧True)))∧(([s].length≤1000∧[s].length≤1000)∧((Jb hk [s] [s] bd).isEmpty=true→(Jb hk [s] [s] bd)=[])∧(((hk=hk∧lw=lw∧bd=bd∧True∧(([]:List SV)=[]))∧s=s∧True∧True∧(Q8 hk [s] [s] bd)=(Q8 hk [s] [s] bd)∧True)∧((m=m)∧((0:Int)=(0:Int)∧false=false∧(([]:List SV)=[]))∧((gq.aget (.i .i64) m s (0,false)).1=(gq.aget (.i .i64) m s (0,false)).1∧(gq.aget (.i .i64) m s (0,false)).2=(gq.aget (.i .i64) m s (0,false)).2∧(([]:List SV)=[]))∧((if Q8 hk [s] [s] bd=0 then hk else 0)=(if Q8 hk [s] [s] bd=0 then hk else 0)∧True∧(([]:List SV)=[]))∧([s]=[s]∧false=false)∧([s]=[s]∧false=false)∧((Jb hk [s] [s] bd)=(Jb hk [s] [s] bd)∧(Jb hk [s] [s] bd).isEmpty=(Jb hk [s] [s] bd).isEmpty)∧(vals=vals∧(True∧(([]:List SV)=[])))∧True)))∧(([s].length≤1000∧[s].length≤1000)∧((Jb hk [s] [s] bd).isEmpty=true→(Jb hk [s] [s] bd)=[])∧(((hk=hk∧lw=lw∧bd=bd∧True∧(([]:List SV)=[]))∧s=s∧True∧True∧(Q8 hk [s] [s] bd)=(Q8 hk [s] [s] bd)∧True)∧((m=m)∧((0:Int)=(0:Int)∧false=false∧(([]:List SV)=[]))∧((gq.aget (.i .i64) m s (0,false)).1=(gq.aget (.i .i64) m s (0,false)).1∧(gq.aget (.i .i64) m s (0,false)).2=(gq.aget (.i .i64) m s (0,false)).2∧(([]:List SV)=[]))∧((if Q8 hk [s] [s] bd=0 then hk else 0)=(if Q8 hk [s] [s] bd=0 then hk else 0)∧True∧(([]:List SV)=[]))∧([s]=[s]∧false=false)∧([s]=[s]∧false=false)∧((Jb hk [s] [s] bd)=(Jb hk [s] [s] bd)∧(Jb hk [s] [s] bd).isEmpty=(Jb hk [s] [s] bd).isEmpty)∧(vals=vals∧(True∧(([]:List SV)=[])))∧True)))∧(([s].length≤1000∧[s].length≤1000)∧((Jb hk [s] [s] bd).isEmpty=true→(Jb hk [s] [s] bd)=[])∧(((hk=hk∧lw=lw∧bd=bd∧True∧(([]:List SV)=[]))∧s=s∧True∧True∧(Q8 hk [s] [s] bd)=(Q8 hk [s] [s] bd)∧True)∧((m=m)∧((0:Int)=(0:Int)∧false=false∧(([]:List SV)=[]))∧((gq.aget (.i .i64) m s (0,false)).1=(gq.aget (.i .i64) m s (0,false)).1∧(gq.aget (.i .i64) m s (0,false)).2=(gq.aget (.i .i64) m s (0,false)).2∧(([]:List SV)=[]))∧((if Q8 hk [s] [s] bd=0 then hk else 0)=(if Q8 hk [s] [s] bd=0 then hk else 0)∧True∧(([]:List SV)=[]))∧([s]=[s]∧false=false)∧([s]=[s]∧false=false)∧((Jb hk [s] [s] bd)=(Jb hk [s] [s] bd)∧(Jb hk [s] [s] bd).isEmpty=(Jb hk [s] [s] bd).isEmpty)∧(vals=vals∧(True∧(([]:List SV)=[])))∧True)))∧(([s].length≤1000∧[s].length≤1000)∧((Jb hk [s] [s] bd).isEmpty=true→(Jb hk [s] [s] bd)=[])∧(((hk=hk∧lw=lw∧bd=bd∧True∧(([]:List SV)=[]))∧s=s∧True∧True∧(Q8 hk [s] [s] bd)=(Q8 hk [s] [s] bd)∧True)∧((m=m)∧((0:Int)=(0:Int)∧false=false∧(([]:List SV)=[]))∧((gq.aget (.i .i64) m s (0,false)).1=(gq.aget (.i .i64) m s (0,false)).1∧(gq.aget (.i .i64) m s (0,false)).2=(gq.aget (.i .i64) m s (0,false)).2∧(([]:List SV)=[]))∧((if Q8 hk [s] [s] bd=0 then hk else 0)=(if Q8 hk [s] [s] bd=0 then hk else 0)∧True∧(([]:List SV)=[]))∧([s]=[s]∧false=false)∧([s]=[s]∧false=false)∧((Jb hk [s] [s] bd)=(Jb hk [s] [s] bd)∧(Jb hk [s] [s] bd).isEmpty=(Jb hk [s] [s] bd).isEmpty)∧(vals=vals∧(True∧(([]:List SV)=[])))∧True)))∧(([s].length≤1000∧[s].length≤1000)∧((Jb hk [s] [s] bd).isEmpty=true→(Jb hk [s] [s] bd)=[])∧(((hk=hk∧lw=lw∧bd=bd∧True∧(([]:List SV)=[]))∧s=s∧True∧True∧(Q8 hk [s] [s] bd)=(Q8 hk [s] [s] bd)∧True)∧((m=m)∧((0:Int)=(0:Int)∧false=false∧(([]:List SV)=[]))∧((gq.aget (.i .i64) m s (0,false)).1=(gq.aget (.i .i64) m s (0,false)).1∧(gq.aget (.i .i64) m s (0,false)).2=(gq.aget (.i .i64) m s (0,false)).2∧(([]:List SV)=[]))∧((if Q8 hk [s] [s] bd=0 then hk else 0)=(if Q8 hk [s] [s] bd=0 then hk else 0)∧True∧(([]:List SV)=[]))∧([s]=[s]∧false=false)∧([s]=[s]∧false=false)∧((Jb hk [s] [s] bd)=(Jb hk [s] [s] bd)∧(Jb hk [s] [s] bd).isEmpty=(Jb hk [s] [s] bd).isEmpty)∧(vals=vals∧(True∧(([]:List SV)=[])))∧True)))∧(((Q8 hk [s] [s] bd)==(0:Int))=true →
   (0≤(0:Int))∧((0:Int)<(List.length (Jb hk [s] [s] bd)))∧(vals=vals∧(True∧(([]:List SV)=[]))∧((gD (Jb hk [s] [s] bd) (0:Int) 0)=(Wp hk bd s)∧((Q8 hk [s] [s] bd)==(0:Int))=(QD hk bd s)∧(([]:List SV)=[]))∧(FrI hk bd (PS (.i .i64) m s ((gD (Jb hk [s] [s] bd) (0:Int) 0),((Q8 hk [s] [s] bd)==(0:Int))))))) ∧
  (((Q8 hk [s] [s] bd)==(0:Int))=false →
   (vals=vals∧(True∧(([]:List SV)=[]))∧((0:Int)=(Wp hk bd s)∧((Q8 hk [s] [s] bd)==(0:Int))=(QD hk bd s)∧(([]:List SV)=[]))∧(FrI hk bd (PS (.i .i64) m s ((0:Int),((Q8 hk [s] [s] bd)==(0:Int))))))))
def cx_tie_frame_row:Cx:=⟨[(3,(.i .i64))],[(29,Kg)],59,[],0,[],[],[],[0,1,4,7,41],false,[],[],[],[]⟩
def YT (m:List (Int×Int×Bool)) (hk:Int) (lw:List Int) (bd:Int) (s:Int) (vals:List Value):List (Nat×LoopAnn):=[]
theorem Mi (a_:Nat) (m:List (Int×Int×Bool)) (c:Int×List Int×Int) (a:Int):(∀ vals,gwp {cx_tie_frame_row with xs:=(39,KH DL 3 (.i .i64) (.pair (.i .i64) .bo) (C6 JZ X6 (fun m c a=>Y7 m c a∧YF c a<a_) X4 JN))::cx_tie_frame_row.xs} (YT m c.1 c.2.1 c.2.2 a vals) c39 0 (CT vals [.cell 4 true 2] (X4 m c a) (.i .i64) (.pair (.i .i64) .bo) (JN m c a)) (mstart 59 3 (.i .i64) (.pair (.i .i64) .bo) m vals (AL.can JZ c) (AL.can X6 a)))=Jk a_ m c.1 c.2.1 c.2.2 a:=by kernel_rfl
abbrev Mu:Prop:=Fs Tryz.prog 39 JO 3
theorem Mt (h:∀ (a_:Nat) (m:List (Int×Int×Bool)) (hk:Int) (lw:List Int) (bd:Int) (s:Int),((1≤hk∧hk≤24)∧(1≤bd∧bd≤24)∧(1≤lw.length∧lw.length≤110)∧(∀ x∈lw,0≤x∧x<hk)∧(0≤s∧s<2 ^ hk.toNat)∧FrI hk bd m)→(0)=a_→Jk a_ m hk lw bd s):Fs Tryz.prog 39 JO 3 :=
 G_ Q1o mixed GR rfl (μ:=YF) (C:=cx_tie_frame_row) ⟨(.cons HL .nil),XsOk.nil,ItsOk.nil,YlOk.nil,IysOk.nil,XfOk.nil⟩ rfl (L:=fun m (c:Int×List Int×Int) (a:Int) vals=>YT m c.1 c.2.1 c.2.2 a vals) (V:=fun a_ m (c:Int×List Int×Int) (a:Int)=>Jk a_ m c.1 c.2.1 c.2.2 a) Mi fun n m c a hp hn=>h n m c.1 c.2.1 c.2.2 a hp hn
theorem J1:Mu:=Mt fun a_ m hk lw bd s h hn=>by
 obtain⟨h1,h2,h3,h4,h5,h6⟩:=h;unfold Jk;(try delta lI gD sT I64 Q1 pj8 pj4);intro vals;obtain⟨b1,b2⟩:=Q18 h1 h2 h5;have xw:[s].length≤1000:=by simp
 have xx:(Jb hk [s] [s] bd).isEmpty=true→Jb hk [s] [s] bd=[]:=fun h=>List.isEmpty_iff.1 h;simp only[true_and,and_true];refine⟨fun c=>?_,fun c=>?_⟩
 ·have:=h6 s c;rw[this];exact⟨⟨rfl,rfl⟩,h6⟩
 ·repeat' (with_reducible refine And.intro ?_ ?_)
  all_goals first|exact xw|exact xx|with_reducible rfl|trivial|skip
  ·intro c2;have ho:QD hk bd s=true:=by
    rw[b1] at c2;cases h:QD hk bd s with
    |true=>rfl
    |false=>rw[h] at c2;exact absurd c2 (by decide)
   rw[b1,b2,if_pos ho,if_pos ho];refine⟨by omega,by simp,⟨by simp,ho.symm⟩,Fa h6 (by rw[ho];simp)⟩
  ·intro c2;have ho:QD hk bd s=false:=by
    rw[b1] at c2;cases h:QD hk bd s with
    |false=>rfl
    |true=>rw[h] at c2;exact absurd c2 (by decide)
   have hv:Wp hk bd s=0:=by unfold Wp;rw[ho];rfl
   rw[b1,hv,ho];exact⟨⟨rfl,rfl⟩,Fa h6 (by rw[hv,ho];rfl)⟩
def ZU:AL (Int×List Int×Int):=(.cons (.k (.i .i64)) (.cons (.k (.list (.i .i64))) (.one (.k (.i .i64)))))
def ZW:AL (Unit):=.nil
def Xk (m:List (Int×Int×Bool)) (c:Int×List Int×Int) (a:Unit):Prop:=(1≤c.1∧c.1≤24)∧(1≤c.2.2∧c.2.2≤24)∧(1≤c.2.1.length∧c.2.1.length≤110)∧(∀ x∈c.2.1,0≤x∧x<c.1)∧FrI c.1 c.2.2 m
def ZS (m:List (Int×Int×Bool)) (c:Int×List Int×Int) (a:Unit):SV:=.tup [.val (.i .i64) (lgN c.1 c.2.1 c.2.2),.agg [.val (.i .i64) (lgR c.1 c.2.1 c.2.2),.val .bo (lgO c.1 c.2.1 c.2.2)]]
def ZL (m:List (Int×Int×Bool)) (c:Int×List Int×Int) (a:Unit) (m2:List (Int×Int×Bool)):Prop:=FrI c.1 c.2.2 m2
def Xy (c:Int×List Int×Int) (a:Unit):Nat:=0
def Jp:XSp:=KH DL 3 (.i .i64) (.pair (.i .i64) .bo) (C6 ZU ZW Xk ZS ZL)
def Zd (a_:Nat) (m:List (Int×Int×Bool)) (hk:Int) (lw:List Int) (bd:Int):Prop:=∀ vals:List Value,
 ((1≤hk∧hk≤24)∧(1≤lw.length∧lw.length≤110)∧(∀ x∈lw,0≤x∧x<hk)∧0≤(0:Int)∧(0:Int)≤110∧0≤(lI lw)∧(lI lw)≤110)∧((1≤hk∧hk≤24)∧(1≤bd∧bd≤24)∧(1≤lw.length∧lw.length≤110)∧(∀ x∈lw,0≤x∧x<hk)∧(0≤((QJ lw (0:Int).toNat (lI lw).toNat:Nat):Int)∧((QJ lw (0:Int).toNat (lI lw).toNat:Nat):Int)<2 ^ hk.toNat)∧FrI hk bd m)∧(∀ m1:List (Int×Int×Bool),(FrI hk bd m1)→((QD hk bd ((QJ lw (0:Int).toNat (lI lw).toNat:Nat):Int))=true →
  (vals=vals∧(True∧(([]:List SV)=[]))∧((1000:Int)=(lgN hk lw bd)∧((Wp hk bd ((QJ lw (0:Int).toNat (lI lw).toNat:Nat):Int))=(lgR hk lw bd)∧(QD hk bd ((QJ lw (0:Int).toNat (lI lw).toNat:Nat):Int))=(lgO hk lw bd)∧(([]:List SV)=[]))∧(([]:List SV)=[]))∧(FrI hk bd m1))) ∧
 ((QD hk bd ((QJ lw (0:Int).toNat (lI lw).toNat:Nat):Int))=false →
  ∃ (e3:Unit) (d30:(List (Int×Int×Bool))×Int×Int×Bool×Int),(((hk=hk∧lw=lw∧bd=bd∧True∧(([]:List SV)=[]))∧(0:Int)=d30.2.1∧True∧(lI lw)=(lI lw)∧(lI lw)=(lI lw)∧(0:Int)=(pj4 d30)∧True)∧((m1=d30.1)∧((0:Int)=d30.2.2.1∧false=d30.2.2.2.1∧(([]:List SV)=[]))∧(vals=vals∧(True∧(([]:List SV)=[])))∧True)) ∧
  LoopP (fun (d3:(List (Int×Int×Bool))×Int×Int×Bool×Int) (q3:((List (Int×Int×Bool))×Int×Int×Bool×Int)→Prop) =>
   ((decide ((pj4 d3)<(lI lw)))=true →
    ∃ (e5:Int×Int) (d50:(List (Int×Int×Bool))×Int×Int×Bool),(((hk=hk∧lw=lw∧bd=bd∧True∧(([]:List SV)=[]))∧d3.2.1=d50.2.1∧True∧(lI lw)=(lI lw)∧(pj4 d3)=e5.1∧(lI lw)=(lI lw)∧(pj4 d3)=e5.2∧True)∧((d3.1=d50.1)∧(d3.2.2.1=d50.2.2.1∧d3.2.2.2.1=d50.2.2.2∧(([]:List SV)=[]))∧(vals=vals∧(True∧(([]:List SV)=[])))∧True)) ∧
    LoopP (fun (d5:(List (Int×Int×Bool))×Int×Int×Bool) (q5:((List (Int×Int×Bool))×Int×Int×Bool)→Prop) =>
     (I64 (d5.2.1+(1:Int)))∧((decide ((d5.2.1+(1:Int))<(lI lw)))=true →
      (I64 (d5.2.1+(1:Int)))∧((1≤hk∧hk≤24)∧(1≤lw.length∧lw.length≤110)∧(∀ x∈lw,0≤x∧x<hk)∧0≤e5.1∧e5.1≤110∧0≤(d5.2.1+(1:Int))∧(d5.2.1+(1:Int))≤110)∧((1≤hk∧hk≤24)∧(1≤bd∧bd≤24)∧(1≤lw.length∧lw.length≤110)∧(∀ x∈lw,0≤x∧x<hk)∧(0≤((QJ lw e5.1.toNat (d5.2.1+(1:Int)).toNat:Nat):Int)∧((QJ lw e5.1.toNat (d5.2.1+(1:Int)).toNat:Nat):Int)<2 ^ hk.toNat)∧FrI hk bd d5.1)∧(∀ m6:List (Int×Int×Bool),(FrI hk bd m6)→((!(QD hk bd ((QJ lw e5.1.toNat (d5.2.1+(1:Int)).toNat:Nat):Int)))=true →
       (I64 (e5.2+(1:Int)))∧(∃ d7:(List (Int×Int×Bool))×Int×Int×Bool×Int,(((hk=hk∧lw=lw∧bd=bd∧True∧(([]:List SV)=[]))∧d5.2.1=d7.2.1∧True∧(lI lw)=(lI lw)∧(lI lw)=(lI lw)∧(e5.2+(1:Int))=(pj4 d7)∧True)∧((m6=d7.1)∧(d5.2.2.1=d7.2.2.1∧d5.2.2.2=d7.2.2.2.1∧(([]:List SV)=[]))∧(vals=vals∧(True∧(([]:List SV)=[])))∧True))∧q3 d7)) ∧
      ((!(QD hk bd ((QJ lw e5.1.toNat (d5.2.1+(1:Int)).toNat:Nat):Int)))=false →
       (I64 (d5.2.1+(1:Int)))∧(∃ d8:(List (Int×Int×Bool))×Int×Int×Bool,(((hk=hk∧lw=lw∧bd=bd∧True∧(([]:List SV)=[]))∧(d5.2.1+(1:Int))=d8.2.1∧True∧(lI lw)=(lI lw)∧e5.1=e5.1∧(lI lw)=(lI lw)∧e5.2=e5.2∧True)∧((m6=d8.1)∧((Wp hk bd ((QJ lw e5.1.toNat (d5.2.1+(1:Int)).toNat:Nat):Int))=d8.2.2.1∧(QD hk bd ((QJ lw e5.1.toNat (d5.2.1+(1:Int)).toNat:Nat):Int))=d8.2.2.2∧(([]:List SV)=[]))∧(vals=vals∧(True∧(([]:List SV)=[])))∧True))∧q5 d8)))) ∧
     ((decide ((d5.2.1+(1:Int))<(lI lw)))=false →
      (I64 (e5.2+(1:Int)))∧(∃ d9:(List (Int×Int×Bool))×Int×Int×Bool×Int,(((hk=hk∧lw=lw∧bd=bd∧True∧(([]:List SV)=[]))∧d5.2.1=d9.2.1∧True∧(lI lw)=(lI lw)∧(lI lw)=(lI lw)∧(e5.2+(1:Int))=(pj4 d9)∧True)∧((d5.1=d9.1)∧(d5.2.2.1=d9.2.2.1∧d5.2.2.2=d9.2.2.2.1∧(([]:List SV)=[]))∧(vals=vals∧(True∧(([]:List SV)=[])))∧True))∧q3 d9))) d50) ∧
   ((decide ((pj4 d3)<(lI lw)))=false →
    (vals=vals∧(True∧(([]:List SV)=[]))∧(d3.2.1=(lgN hk lw bd)∧(d3.2.2.1=(lgR hk lw bd)∧d3.2.2.2.1=(lgO hk lw bd)∧(([]:List SV)=[]))∧(([]:List SV)=[]))∧(FrI hk bd d3.1)))) d30))
def cx_tie_frame_longest:Cx:=⟨[],[(65,JD)],47,[],0,[(39,JO)],[],[],[],false,[],[],[],[(39,3)]⟩
def XH (m:List (Int×Int×Bool)) (hk:Int) (lw:List Int) (bd:Int) (vals:List Value):List (Nat×LoopAnn):=[(0,⟨Unit,(List (Int×Int×Bool))×Int×Int×Bool×Int,[0,2,3,4,23,24],fun e x=>[.cp [.val (.i .i64) hk,.val (.list (.i .i64)) lw,.val (.i .i64) bd,.map 0] 0,.val (.i .i64) x.2.1,.box 3 0,.val (.i .i64) (((List.length lw):Nat):Int),.val (.i .i64) (((List.length lw):Nat):Int),.val (.i .i64) x.2.2.2.2],fun e x=>[(0,.key 0,.map (.i .i64) (.pair (.i .i64) .bo) x.1),(3,.slot 3,.cells [.val (.i .i64) x.2.2.1,.val .bo x.2.2.2.1] (some 93)),(4000000,.key 4000000,.stk [.map 0] vals)]⟩),
 (2,⟨Int×Int,(List (Int×Int×Bool))×Int×Int×Bool,[0,2,3,4,6,23,24],fun e x=>[.cp [.val (.i .i64) hk,.val (.list (.i .i64)) lw,.val (.i .i64) bd,.map 0] 0,.val (.i .i64) x.2.1,.box 3 0,.val (.i .i64) (((List.length lw):Nat):Int),.val (.i .i64) e.1,.val (.i .i64) (((List.length lw):Nat):Int),.val (.i .i64) e.2],fun e x=>[(0,.key 0,.map (.i .i64) (.pair (.i .i64) .bo) x.1),(3,.slot 3,.cells [.val (.i .i64) x.2.2.1,.val .bo x.2.2.2] (some 93)),(4000000,.key 4000000,.stk [.map 0] vals)]⟩)]
theorem Vi (a_:Nat) (m:List (Int×Int×Bool)) (c:Int×List Int×Int) (a:Unit):(∀ vals,gwp {cx_tie_frame_longest with xs:=(40,KH DL 3 (.i .i64) (.pair (.i .i64) .bo) (C6 ZU ZW (fun m c a=>Xk m c a∧Xy c a<a_) ZS ZL))::cx_tie_frame_longest.xs} (XH m c.1 c.2.1 c.2.2 vals) c40 0 (CT vals [.tmp 2,.cell 3 true 2] (ZS m c a) (.i .i64) (.pair (.i .i64) .bo) (ZL m c a)) (mstart 47 3 (.i .i64) (.pair (.i .i64) .bo) m vals (AL.can ZU c) (AL.can ZW a)))=Zd a_ m c.1 c.2.1 c.2.2:=by kernel_rfl
abbrev Vn:Prop:=Fs Tryz.prog 40 Jp 3
theorem Vw (h:∀ (a_:Nat) (m:List (Int×Int×Bool)) (hk:Int) (lw:List Int) (bd:Int),((1≤hk∧hk≤24)∧(1≤bd∧bd≤24)∧(1≤lw.length∧lw.length≤110)∧(∀ x∈lw,0≤x∧x<hk)∧FrI hk bd m)→(0)=a_→Zd a_ m hk lw bd):Fs Tryz.prog 40 Jp 3 :=
 G_ Q04 mixed GR rfl (μ:=Xy) (C:=cx_tie_frame_longest) ⟨(.cons Uf .nil),(XsOk.cons J1.1 XsOk.nil),ItsOk.nil,YlOk.nil,IysOk.nil,(XfOk.cons rfl J1.2 XfOk.nil)⟩ rfl (L:=fun m (c:Int×List Int×Int) (a:Unit) vals=>XH m c.1 c.2.1 c.2.2 vals) (V:=fun a_ m (c:Int×List Int×Int) (a:Unit)=>Zd a_ m c.1 c.2.1 c.2.2) Vi fun n m c a hp hn=>h n m c.1 c.2.1 c.2.2 hp hn
theorem Xl:Vn:=Vw fun a_ m hk lw bd h hn=>by
 obtain⟨h1,h2,h3,h4,h6⟩:=h;unfold Zd;(try delta lI gD sT I64 Q1 pj8 pj4);intro vals;obtain⟨H,rfl⟩:=Int.eq_ofNat_of_zero_le (show 0≤hk by omega);have aj:=fun fr n=>Pw h3.1 h4 fr n;have iv:(2:Int) ^ H=((2 ^ H:Nat):Int):=by simp
 simp only[true_and,and_true,Int.toNat_natCast,show (0:Int).toNat=0 from rfl,iv];have w0:=aj 0 lw.length;refine⟨⟨h1,h3,h4,by omega,by omega,by omega,by omega⟩,⟨h1,h2,h3,h4,⟨by omega,by omega⟩,h6⟩,fun m1 hU=>⟨fun c=>?_,fun c=>?_⟩⟩
 ·unfold lgN lgR lgO;rw[if_pos c,if_pos c,if_pos c,c];exact⟨⟨rfl,rfl,rfl⟩,hU⟩
 have e1:lgN (H:Int) lw bd=((lgK (H:Int) lw bd lw.length).1:Int):=by unfold lgN;rw[if_neg (by rw[c];decide)]
 have e2:lgR (H:Int) lw bd=(lgK (H:Int) lw bd lw.length).2:=by unfold lgR;rw[if_neg (by rw[c];decide)]
 have e3:lgO (H:Int) lw bd=decide (0<(lgK (H:Int) lw bd lw.length).1):=by unfold lgO;rw[if_neg (by rw[c];decide)]
 rw[e1,e2,e3];have tQ:=fun k=>SW (hk:=(H:Int)) (lw:=lw) (bd:=bd) h3.1 k;refine⟨(),(m1,0,0,false,0),by and_intros<;>first|rfl|trivial,?_⟩;refine⟨fun d=>∃ k:Nat,k≤lw.length∧FrI (H:Int) bd d.1∧d.2=(((lgK (H:Int) lw bd k).1:Int),(lgK (H:Int) lw bd k).2,decide (0<(lgK (H:Int) lw bd k).1),(k:Int)),fun d=>lw.length-d.2.2.2.2.toNat,⟨0,by omega,hU,rfl⟩,?_⟩;rintro⟨m2,d⟩ ⟨k,av,eA,hd⟩;dsimp only at eA hd ⊢;subst hd;dsimp only;refine⟨fun g=>?_,fun g=>?_⟩
 ·have g:k<lw.length:=by have:=of_decide_eq_true g;omega
  have kl:=tQ k;have kS:lgK (H:Int) lw bd (k+1)=lgI (H:Int) lw bd k (lw.length-(lgK (H:Int) lw bd k).1) (lgK (H:Int) lw bd k).1 (lgK (H:Int) lw bd k).2:=rfl;refine⟨((k:Int),(k:Int)),(m2,((lgK (H:Int) lw bd k).1:Int),(lgK (H:Int) lw bd k).2,decide (0<(lgK (H:Int) lw bd k).1)),by and_intros<;>first|rfl|trivial,?_⟩;dsimp only;simp only[Int.toNat_natCast];refine⟨fun d=>∃ (l:Nat) (b:Int),FrI (H:Int) bd d.1∧l<lw.length∧lgI (H:Int) lw bd k (lw.length-l) l b=lgK (H:Int) lw bd (k+1)∧d.2=((l:Int),b,decide (0<l)),fun d=>lw.length-d.2.1.toNat,⟨_,_,eA,kl,kS.symm,rfl⟩,?_⟩;rintro⟨m3,d⟩ ⟨l,b,rX,hl,hI,hd⟩;dsimp only at rX hd ⊢;subst hd;dsimp only;have el:((l:Int)+1).toNat=l+1:=by omega
  rw[el];obtain⟨q,hq⟩:∃ q,lw.length-l=q+1:=⟨lw.length-l-1,by omega⟩;have o9:=hI;rw[hq,lgI] at o9;have stop:¬ (l+1<lw.length∧QD (H:Int) bd (QJ lw k (l+1):Nat)=true)→lgK (H:Int) lw bd (k+1)=(l,b):=fun h=>by rw[if_neg h] at o9;exact o9.symm
  refine⟨by rw[Q7];omega,fun g2=>?_,fun g2=>?_⟩
  ·have g2:l+1<lw.length:=by have:=of_decide_eq_true g2;omega
   have w1:=aj k (l+1);refine⟨by rw[Q7];omega,⟨h1,h3,h4,by omega,by omega,by omega,by omega⟩,⟨h1,h2,h3,h4,⟨by omega,by omega⟩,rX⟩,fun m6 tR=>⟨fun c3=>?_,fun c3=>?_⟩⟩
   ·have c3:QD (H:Int) bd (QJ lw k (l+1):Nat)=false:=by simpa using c3
    have e:=stop fun h=>by rw[c3] at h;cases h.2
    refine⟨by rw[Q7];omega,(m6,(l:Int),b,decide (0<l),(k:Int)+1),?_,⟨k+1,g,tR,by dsimp only;rw[e];rfl⟩,by dsimp only;omega⟩;and_intros<;>first|rfl|trivial
   ·have c3:QD (H:Int) bd (QJ lw k (l+1):Nat)=true:=by simpa using c3
    rw[if_pos ⟨g2,c3⟩] at o9;refine⟨by rw[Q7];omega,(m6,(l:Int)+1,Wp (H:Int) bd (QJ lw k (l+1):Nat),QD (H:Int) bd (QJ lw k (l+1):Nat)),?_,⟨l+1,_,tR,g2,by rw[show lw.length-(l+1)=q by omega];exact o9,?_⟩,by dsimp only;omega⟩
    ·and_intros<;>first|rfl|trivial
    ·dsimp only;rw[c3,decide_eq_true (by omega)];rfl
  ·have g2:¬ l+1<lw.length:=by have:=of_decide_eq_false g2;omega
   have e:=stop fun h=>g2 h.1;refine⟨by rw[Q7];omega,(m3,(l:Int),b,decide (0<l),(k:Int)+1),?_,⟨k+1,g,rX,by dsimp only;rw[e];rfl⟩,by dsimp only;omega⟩;and_intros<;>first|rfl|trivial
 ·have g:k=lw.length:=by have:=of_decide_eq_false g;omega
  rw[g];exact⟨⟨rfl,rfl,rfl⟩,eA⟩
def NK:AL ((Int×List Int)×Int):=(.cons (.agg (.cons (.k (.i .i64)) (.one (.k (.list (.i .i64)))))) (.one (.k (.i .i64))))
def Hx (d:(Int×List Int)×Int):Prop:=d.1.2.length≤1000000
def N5 (d:(Int×List Int)×Int):SV:=.tup [.val (.i .i64) (Yh d.1.1 d.1.2 d.2),.val (.i .i64) (Z8 d.1.1 d.1.2 d.2),.val (.i .i64) (QH d.1.1 d.1.2 d.2)]
def Nc (d:(Int×List Int)×Int):List OB:=[]
def Ua:CSp:=K8 NK Hx N5 Nc
def WH (hk:Int) (lw:List Int) (bd:Int):Prop :=
 (lw.length≤1000000)∧(((Ql hk lw) != (0:Int))=true →
  (((0:Int)=(Yh hk lw bd)∧(0:Int)=(Z8 hk lw bd)∧(Ql hk lw)=(QH hk lw bd)∧(([]:List SV)=[]))∧(True))) ∧
 (((Ql hk lw) != (0:Int))=false →
  ([bd].length≤1000000)∧((!(!([bd].any fun n=>decide (n<(1:Int))||decide ((24:Int)<n))))=true →
   (((0:Int)=(Yh hk lw bd)∧(0:Int)=(Z8 hk lw bd)∧(3:Int)=(QH hk lw bd)∧(([]:List SV)=[]))∧(True))) ∧
  ((!(!([bd].any fun n=>decide (n<(1:Int))||decide ((24:Int)<n))))=false →
   ((1≤hk∧hk≤24)∧(1≤bd∧bd≤24)∧(1≤lw.length∧lw.length≤110)∧(∀ x∈lw,0≤x∧x<hk)∧(0≤(0:Int)∧(0:Int)<2 ^ hk.toNat)∧FrI hk bd ([]:List (Int×Int×Bool)))∧(∀ m1:List (Int×Int×Bool),(FrI hk bd m1)→((!(QD hk bd (0:Int)))=true →
    (((0:Int)=(Yh hk lw bd)∧(0:Int)=(Z8 hk lw bd)∧(9:Int)=(QH hk lw bd)∧(([]:List SV)=[]))∧(True))) ∧
   ((!(QD hk bd (0:Int)))=false →
    ((1≤hk∧hk≤24)∧(1≤bd∧bd≤24)∧(1≤lw.length∧lw.length≤110)∧(∀ x∈lw,0≤x∧x<hk)∧FrI hk bd m1)∧(∀ m2:List (Int×Int×Bool),(FrI hk bd m2)→(((lgN hk lw bd)=(Yh hk lw bd)∧(lgR hk lw bd)=(Z8 hk lw bd)∧(0:Int)=(QH hk lw bd)∧(([]:List SV)=[]))∧(True)))))))
def M5:Cx:=⟨[(3,(.i .i64)),(1000025,(.pair (.i .i64) (.pair (.i .i64) .bo)))],[(37,Ub),(38,WI)],40,[],0,[(39,JO),(40,Jp)],[],[],[],false,[],[],[],[(39,3),(40,3)]⟩
def PQ (hk:Int) (lw:List Int) (bd:Int):List (Nat×LoopAnn):=[]
theorem TU (d:(Int×List Int)×Int):gwp (M5) (PQ d.1.1 d.1.2 d.2) c11 0 (Vt [.tmp 4,.tmp 5,.tmp 6] (N5 d) (Nc d)) (QL 40 (AL.can NK d))=WH d.1.1 d.1.2 d.2:=by kernel_rfl
abbrev TS:Prop:=OkC Tryz.prog 11 Ua
theorem Th (h:∀ (hk:Int) (lw:List Int) (bd:Int),(lw.length≤1000000)→WH hk lw bd):OkC Tryz.prog 11 Ua :=
 Z3 Q0t mixed (C:=M5) (V:=fun (d:(Int×List Int)×Int)=>WH d.1.1 d.1.2 d.2) ⟨(.cons T1 (.cons UL .nil)),(XsOk.cons J1.1 (XsOk.cons Xl.1 XsOk.nil)),ItsOk.nil,YlOk.nil,IysOk.nil,(XfOk.cons rfl J1.2 (XfOk.cons rfl Xl.2 XfOk.nil))⟩ (TU) fun d hp=>h d.1.1 d.1.2 d.2 hp
theorem PO:TS:=Th fun hk lw bd h=>by
 unfold WH;(try delta lI gD sT I64 Q1 pj8 pj4);have e:∀ n a b:Int,(decide (n<a)||decide (b<n))=!inI n a b:=fun n a b=>(Q7l n a b).symm;simp only[List.any_cons,List.any_nil,Bool.or_false,e,Bool.not_not,List.length_cons,List.length_nil,true_and,and_true];have fail:∀ E:Int,QH hk lw bd=E→E≠0→(0:Int)=Yh hk lw bd∧(0:Int)=Z8 hk lw bd∧E=QH hk lw bd:=fun E h h0=>⟨by unfold Yh;rw[if_neg (by omega)],by unfold Z8;rw[if_neg (by omega)],h.symm⟩;refine⟨h,fun c=>?_,fun c=>⟨by omega,fun c2=>?_,fun c2=>?_⟩⟩
 ·have c:Ql hk lw≠0:=by simpa using c
  exact fail _ (by unfold QH;rw[if_pos c]) c
 all_goals have c:Ql hk lw=0:=by simpa using c
 ·have c2:inI bd 1 24=false:=by simpa using c2
  exact fail 3 (by unfold QH;rw[if_neg (by omega),if_pos c2]) (by decide)
 have c2:inI bd 1 24=true:=by simpa using c2
 have nX:1≤bd∧bd≤24:=by unfold inI at c2;simpa using c2
 obtain⟨t1,t2,t3⟩:=Q34 c;have hp:=KE t1.1 t1.2;have eW:QH hk lw bd=if QD hk bd 0=true then 0 else 9:=by unfold QH;rw[if_neg (by omega),if_neg (by rw[c2];decide)]
 refine⟨⟨t1,nX,by omega,t3,⟨by omega,by omega⟩,Q1e hk bd⟩,fun m1 hU=>⟨fun c3=>?_,fun c3=>⟨⟨t1,nX,by omega,t3,hU⟩,fun m2 _=>?_⟩⟩⟩
 ·have c3:QD hk bd 0=false:=by simpa using c3
  exact fail 9 (by rw[eW,c3];rfl) (by decide)
 ·have c3:QD hk bd 0=true:=by simpa using c3
  have e0:QH hk lw bd=0:=by rw[eW,if_pos c3]
  refine⟨by unfold Yh;rw[if_pos e0],by unfold Z8;rw[if_pos e0],e0.symm⟩
def Vz:AL (Int×Int×Int):=(.cons (.k (.i .i64)) (.cons (.k (.i .i64)) (.one (.k (.i .i64)))))
def DE (d:Int×Int×Int):Prop:=(1≤d.2.1∧d.2.1≤24)∧0≤d.1∧d.1<16777216
def KF (d:Int×Int×Int):SV:=.val .bo (Um d.1 d.2.1 d.2.2)
def Kl (d:Int×Int×Int):List OB:=[]
def XS:CSp:=K8 Vz DE KF Kl
def Xg (row:Int) (hk:Int) (bd:Int):Prop :=
 (0≤row∧row<9223372036854775808∧0≤hk∧hk≤64)∧∃ (e3:Unit) (d30:Int),((hk=hk∧bd=bd∧True∧(0:Int)=d30∧True)∧(((JR row hk.toNat)=(JR row hk.toNat)∧false=false)∧True)) ∧
 LoopP (fun (d3:Int) (q3:(Int)→Prop) =>
  ((decide (d3<hk))=true →
   (0≤d3∧d3<(JR row hk.toNat).length∧(JR row hk.toNat).length≤1000)∧((decide (((Zi (JR row hk.toNat) d3.toNat:Nat):Int) > bd))=true →
    (false=(Um row hk bd)∧(True))) ∧
   ((decide (((Zi (JR row hk.toNat) d3.toNat:Nat):Int) > bd))=false →
    (I64 (d3+(1:Int)))∧(∃ d4:Int,((hk=hk∧bd=bd∧True∧(d3+(1:Int))=d4∧True)∧(((JR row hk.toNat)=(JR row hk.toNat)∧false=false)∧True))∧q3 d4))) ∧
  ((decide (d3<hk))=false →
   (true=(Um row hk bd)∧(True)))) d30
def Vx:Cx:=⟨[],[(41,X9),(42,Xf)],22,[],0,[],[],[],[],false,[],[],[],[]⟩
def Br (row:Int) (hk:Int) (bd:Int):List (Nat×LoopAnn):=[(0,⟨Unit,Int,[1,2,7,8],fun e x=>[.val (.i .i64) hk,.val (.i .i64) bd,.lst 11,.val (.i .i64) x],fun e x=>[(11,.slot 7,.lst 4 .bo (JR row hk.toNat) false)]⟩)]
theorem BG (d:Int×Int×Int):gwp (Vx) (Br d.1 d.2.1 d.2.2) c14 0 (Vt [.tmp 6] (KF d) (Kl d)) (QL 22 (AL.can Vz d))=Xg d.1 d.2.1 d.2.2:=by kernel_rfl
abbrev BK:Prop:=OkC Tryz.prog 14 XS
theorem Bz (h:∀ (row:Int) (hk:Int) (bd:Int),((1≤hk∧hk≤24)∧0≤row∧row<16777216)→Xg row hk bd):OkC Tryz.prog 14 XS :=
 Z3 Q1n mixed (C:=Vx) (V:=fun (d:Int×Int×Int)=>Xg d.1 d.2.1 d.2.2) ⟨(.cons K2 (.cons Kf .nil)),XsOk.nil,ItsOk.nil,YlOk.nil,IysOk.nil,XfOk.nil⟩ (BG) fun d hp=>h d.1 d.2.1 d.2.2 hp
theorem VK:BK:=Bz fun row hk bd h=>by
 obtain⟨h1,h2,h3⟩:=h;unfold Xg;(try delta lI gD sT I64 Q1 pj8 pj4);obtain⟨H,rfl⟩:=Int.eq_ofNat_of_zero_le (show 0≤hk by omega);simp only[true_and,and_true,Int.toNat_natCast];have hl:=MJ row H;refine⟨⟨by omega,by omega,by omega,by omega⟩,(),0,by and_intros<;>first|rfl|trivial,?_⟩;refine⟨fun d=>∃ k:Nat,k≤H∧d=(k:Int)∧∀ j,j<k→((Zi (JR row H) j:Nat):Int)≤bd,fun d=>H-d.toNat,⟨0,by omega,rfl,fun j hj=>by omega⟩,?_⟩;rintro _ ⟨k,hk,rfl,hall⟩;refine⟨fun g=>?_,fun g=>?_⟩
 ·have g:k<H:=by have:=of_decide_eq_true g;omega
  rw[Int.toNat_natCast];refine⟨⟨by omega,by omega,by omega⟩,fun c=>?_,fun c=>⟨by rw[Q7];omega,(k:Int)+1,by and_intros<;>first|rfl|trivial,⟨k+1,g,rfl,fun j hj=>?_⟩,by show H-((k:Int)+1).toNat<H-(k:Int).toNat;omega⟩⟩
  ·have c:=of_decide_eq_true c;have:Um row (H:Int) bd=false:=by
    unfold Um;rw[Int.toNat_natCast];cases hx:(List.range H).all fun k=>decide (((Zi (JR row H) k:Nat):Int)≤bd) with
    |false=>rfl
    |true =>have:=List.all_eq_true.1 hx k (List.mem_range.2 g);rw[decide_eq_true_eq] at this;omega
   rw[this]
  ·have c:=of_decide_eq_false c;by_cases e:j=k
   ·subst e;omega
   ·exact hall j (by omega)
 ·have g:k=H:=by have:=of_decide_eq_false g;omega
  subst g;have:Um row (k:Int) bd=true:=by unfold Um;rw[Int.toNat_natCast,List.all_eq_true];intro j hj;rw[decide_eq_true_eq];exact hall j (List.mem_range.1 hj)
  rw[this]
def YU:AL (List (List UInt8)):=(.one (.k (.list .st)))
def Ni (d:List (List UInt8)):Prop:=d.length≤1000∧(∀ s∈d,s.length≤1000)
def Y1 (d:List (List UInt8)):SV:=.val (.i .i64) (lgX d)
def Ye (d:List (List UInt8)):List OB:=[]
def JC:CSp:=K8 YU Ni Y1 Ye
def Ji (c:List (List UInt8)):Prop :=
 (c.length≤1000∧(∀ s∈c,s.length≤1000))∧∃ (e3:Unit) (d30:Int×Int),((True∧(0:Int)=d30.1∧(0:Int)=d30.2∧True)∧(((WU (0:Int) c)=(WU (0:Int) c)∧false=false)∧True)) ∧
 LoopP (fun (d3:Int×Int) (q3:(Int×Int)→Prop) =>
  ((decide (d3.2<(lI (WU (0:Int) c))))=true →
   (0≤d3.2)∧(d3.2<(List.length (WU (0:Int) c)))∧(I64 (d3.2+(1:Int)))∧(∃ d4:Int×Int,((True∧(K1 d3.1 (gD (WU (0:Int) c) d3.2 (0,(0,(0,false)))).2.2.1)=d4.1∧(d3.2+(1:Int))=d4.2∧True)∧(((WU (0:Int) c)=(WU (0:Int) c)∧false=false)∧True))∧q3 d4)) ∧
  ((decide (d3.2<(lI (WU (0:Int) c))))=false →
   (d3.1=(lgX c)∧(True)))) d30
def YX:Cx:=⟨[],[(43,WW)],22,[],0,[],[],[],[],false,[],[],[],[]⟩
def Mn (c:List (List UInt8)):List (Nat×LoopAnn):=[(0,⟨Unit,Int×Int,[3,4,5],fun e x=>[.lst 7,.val (.i .i64) x.1,.val (.i .i64) x.2],fun e x=>[(7,.slot 3,.lst 84 (.pair (.i .i64) (.pair (.i .i64) (.pair (.i .i64) .bo))) (WU (0:Int) c) false)]⟩)]
theorem Mk (d:List (List UInt8)):gwp (YX) (Mn d) c15 0 (Vt [.tmp 2] (Y1 d) (Ye d)) (QL 22 (AL.can YU d))=Ji d:=by kernel_rfl
abbrev Mv:Prop:=OkC Tryz.prog 15 JC
theorem Mj (h:∀ (c:List (List UInt8)),(c.length≤1000∧(∀ s∈c,s.length≤1000))→Ji c):OkC Tryz.prog 15 JC :=
 Z3 Q0r mixed (C:=YX) (V:=fun (d:List (List UInt8))=>Ji d) ⟨(.cons DQ .nil),XsOk.nil,ItsOk.nil,YlOk.nil,IysOk.nil,XfOk.nil⟩ (Mk) fun d hp=>h d hp
theorem YP:Mv:=Mj fun c h=>by
 unfold Ji;(try delta lI gD sT I64 Q1 pj8 pj4);simp only[true_and,and_true];have hlen:=NH 0 c 1000 h.2 c.length (Nat.le_refl _);have hlen:(WU 0 c).length≤1000000:=by unfold WU;have:=h.1;omega
 have tk:∀ k,(hk:k<(WU 0 c).length)→((WU 0 c).take (k+1)).foldl (fun a x=>K1 a x.2.2.1) 0=K1 (((WU 0 c).take k).foldl (fun a x=>K1 a x.2.2.1) 0) ((WU 0 c).getD k (0,(0,(0,false)))).2.2.1:=fun k hk=>by rw[Z6 hk,List.foldl_append,Qw hk];rfl
 unfold lgX;generalize WU 0 c=F at *
 refine⟨h,(),(0,0),by and_intros<;>first|rfl|trivial,?_⟩;refine⟨fun d=>∃ k:Nat,k≤F.length∧d=((F.take k).foldl (fun a x=>K1 a x.2.2.1) 0,(k:Int)),fun d=>F.length-d.2.toNat,⟨0,by omega,rfl⟩,?_⟩;rintro _ ⟨k,hk,rfl⟩;dsimp only;rw[Int.toNat_natCast];refine⟨fun g=>?_,fun g=>?_⟩
 ·have g:k<F.length:=by have:=of_decide_eq_true g;omega
  refine⟨by omega,by omega,by rw[Q7];omega,((F.take (k+1)).foldl (fun a x=>K1 a x.2.2.1) 0,(k:Int)+1),?_,⟨k+1,g,rfl⟩,by dsimp only;omega⟩;rw[tk k g];and_intros<;>first|rfl|trivial
 ·have g:k=F.length:=by have:=of_decide_eq_false g;omega
  rw[g,List.take_length]
def VQ:AL ((Int×List Int)×Int):=(.cons (.agg (.cons (.k (.i .i64)) (.one (.k (.list (.i .i64)))))) (.one (.k (.i .i64))))
def De (d:(Int×List Int)×Int):Prop:=Ql d.1.1 d.1.2=0∧d.1.1≤10∧1≤d.2∧d.2≤24∧d.1.2.length≤110
def Km (d:(Int×List Int)×Int):SV:=.val (.i .i64) (Sl d.1.1 d.1.2 d.2)
def KL (d:(Int×List Int)×Int):List OB:=[]
def Yu:CSp:=K8 VQ De Km KL
def X8 (hk:Int) (lw:List Int) (bd:Int):Prop :=
 ∃ (e3:Unit) (d30:Int×Int),((bd=bd∧True∧(0:Int)=d30.1∧(0:Int)=d30.2∧True)∧((hk=hk∧lw=lw∧(([]:List SV)=[]))∧True)) ∧
 LoopP (fun (d3:Int×Int) (q3:(Int×Int)→Prop) =>
  (InK .u64 hk)∧(0≤hk)∧(I64 (WO .i64 (1:Int) hk))∧((decide (d3.2<(WO .i64 (1:Int) hk)))=true →
   ((1≤hk∧hk≤24)∧0≤d3.2∧d3.2<16777216)∧((Um d3.2 hk bd)=true →
    (ZE hk lw hk [d3.2]=0)∧((Qs hk lw hk [d3.2]).length≤1000∧(∀ s∈(Qs hk lw hk [d3.2]),s.length≤1000))∧(I64 (d3.2+(1:Int)))∧(∃ d4:Int×Int,((bd=bd∧True∧(K1 d3.1 (lgX (Qs hk lw hk [d3.2])))=d4.1∧(d3.2+(1:Int))=d4.2∧True)∧((hk=hk∧lw=lw∧(([]:List SV)=[]))∧True))∧q3 d4)) ∧
   ((Um d3.2 hk bd)=false →
    (I64 (d3.2+(1:Int)))∧(∃ d5:Int×Int,((bd=bd∧True∧d3.1=d5.1∧(d3.2+(1:Int))=d5.2∧True)∧((hk=hk∧lw=lw∧(([]:List SV)=[]))∧True))∧q3 d5))) ∧
  ((decide (d3.2<(WO .i64 (1:Int) hk)))=false →
   (d3.1=(Sl hk lw bd)∧(True)))) d30
def VY:Cx:=⟨[(3,(.i .i64))],[(14,XS),(16,XL),(15,JC)],31,[],0,[],[],[],[],false,[],[],[],[]⟩
def Bv (hk:Int) (lw:List Int) (bd:Int):List (Nat×LoopAnn):=[(0,⟨Unit,Int×Int,[1,2,5,6],fun e x=>[.val (.i .i64) bd,.box 2 0,.val (.i .i64) x.1,.val (.i .i64) x.2],fun e x=>[(2,.slot 2,.cells [.val (.i .i64) hk,.val (.list (.i .i64)) lw] (some 24))]⟩)]
theorem B8 (d:(Int×List Int)×Int):gwp (VY) (Bv d.1.1 d.1.2 d.2) c13 0 (Vt [.tmp 4] (Km d) (KL d)) (QL 31 (AL.can VQ d))=X8 d.1.1 d.1.2 d.2:=by kernel_rfl
abbrev BC:Prop:=OkC Tryz.prog 13 Yu
theorem Bh (h:∀ (hk:Int) (lw:List Int) (bd:Int),(Ql hk lw=0∧hk≤10∧1≤bd∧bd≤24∧lw.length≤110)→X8 hk lw bd):OkC Tryz.prog 13 Yu :=
 Z3 OU mixed (C:=VY) (V:=fun (d:(Int×List Int)×Int)=>X8 d.1.1 d.1.2 d.2) ⟨(.cons VK (.cons VF (.cons YP .nil))),XsOk.nil,ItsOk.nil,YlOk.nil,IysOk.nil,XfOk.nil⟩ (B8) fun d hp=>h d.1.1 d.1.2 d.2 hp
theorem D5 {hk r:Int}{lw:List Int}(h:Ql hk lw=0) (hr:0≤r∧r<2 ^ hk.toNat):ZE hk lw hk [r]=0∧Qs hk lw hk [r]=[Jz lw r]:=by
 obtain⟨t1,t2,t3⟩:=Q34 h;have pe:Qn hk [r]=0:=by unfold Qn inI;have e1:decide (0≤r)=true:=decide_eq_true hr.1;have e2:decide (r≤2 ^ hk.toNat-1)=true:=decide_eq_true (by omega);simp[e1,e2,t1]
 have e:ZE hk lw hk [r]=0:=by unfold ZE;rw[if_neg (by omega),if_neg (by omega),if_neg (by simp)]
 refine⟨e,?_⟩;unfold Qs;rw[if_pos e];rfl
theorem DV:BC:=Bh fun hk lw bd h=>by
 obtain⟨h1,h2,h3,h4,h5⟩:=h;unfold X8;(try delta lI gD sT I64 Q1 pj8 pj4);obtain⟨t1,t2,t3⟩:=Q34 h1;obtain⟨H,rfl⟩:=Int.eq_ofNat_of_zero_le (show 0≤hk by omega);have sh:WO .i64 1 (H:Int)=((2 ^ H:Nat):Int):=by rw[GQ (by omega) (by omega)];simp
 have x7:(2:Nat) ^ H≤2 ^ 10:=Nat.pow_le_pow_right (by omega) (by omega);have hr:∀ k:Nat,k<2 ^ H→(k:Int)<2 ^ (H:Int).toNat:=fun k hk=>by rw[Int.toNat_natCast];exact_mod_cast hk
 simp only[true_and,and_true,sh];have tk:∀ k,(List.range (k+1)).foldl (fun a (r:Nat)=>if Um (r:Int) (H:Int) bd=true then K1 a (lgX (Qs (H:Int) lw (H:Int) [(r:Int)])) else a) 0=(fun a=>if Um (k:Int) (H:Int) bd=true then K1 a (lgX (Qs (H:Int) lw (H:Int) [(k:Int)])) else a) ((List.range k).foldl (fun a (r:Nat)=>if Um (r:Int) (H:Int) bd=true then K1 a (lgX (Qs (H:Int) lw (H:Int) [(r:Int)])) else a) 0):=fun k=>by rw[List.range_succ,List.foldl_append];rfl
 unfold Sl;rw[Int.toNat_natCast];refine⟨(),(0,0),by and_intros<;>first|rfl|trivial,?_⟩;refine⟨fun d=>∃ k:Nat,k≤2 ^ H∧d=((List.range k).foldl (fun a (r:Nat)=>if Um (r:Int) (H:Int) bd=true then K1 a (lgX (Qs (H:Int) lw (H:Int) [(r:Int)])) else a) 0,(k:Int)),fun d=>2 ^ H-d.2.toNat,⟨0,Nat.zero_le _,rfl⟩,?_⟩;rintro _ ⟨k,hk,rfl⟩;dsimp only;refine⟨by rw[Ab];omega,by omega,by rw[Q7];omega,fun g=>?_,fun g=>?_⟩
 ·have g:k<2 ^ H:=by have:=of_decide_eq_true g;omega
  obtain⟨w1,w2⟩:=D5 (r:=(k:Int)) h1 ⟨by omega,hr k g⟩;have wl:(Jz lw (k:Int)).length=lw.length:=by simp[Jz]
  refine⟨⟨t1,by omega,by omega⟩,fun c=>?_,fun c=>?_⟩
  ·refine⟨w1,⟨by rw[w2];simp,fun s hs=>?_⟩,by rw[Q7];omega,((List.range (k+1)).foldl (fun a (r:Nat)=>if Um (r:Int) (H:Int) bd=true then K1 a (lgX (Qs (H:Int) lw (H:Int) [(r:Int)])) else a) 0,(k:Int)+1),?_,⟨k+1,g,rfl⟩,by dsimp only;omega⟩
   ·rw[w2,List.mem_singleton] at hs;rw[hs,wl];omega
   ·rw[tk];dsimp only;rw[if_pos c];and_intros<;>first|rfl|trivial
  ·refine⟨by rw[Q7];omega,((List.range (k+1)).foldl (fun a (r:Nat)=>if Um (r:Int) (H:Int) bd=true then K1 a (lgX (Qs (H:Int) lw (H:Int) [(r:Int)])) else a) 0,(k:Int)+1),?_,⟨k+1,g,rfl⟩,by dsimp only;omega⟩;rw[tk];dsimp only;rw[if_neg (by rw[c];decide)];and_intros<;>first|rfl|trivial
 ·have g:k=2 ^ H:=by have:=of_decide_eq_false g;omega
  rw[g]
def UW (p:List Bool) (w l:Nat):Prop:=∀ j,j<l→Z_ p (w+j)=Z_ p w
def Fj (p:List Bool):Prop:=∀ j,j<p.length→Z_ p j=Z_ p 0
theorem Ib (p:List Bool) (w:Nat):Z_ p (w+p.length)=Z_ p w:=by unfold Z_;rw[Nat.add_mod_right]
theorem OJ {p:List Bool}{w l:Nat}(h:UW p w l) (hl:p.length≤l) (h0:p≠[]):Fj p:=by
 have hn:0<p.length:=List.length_pos_iff.2 h0;have key:∀ i,Z_ p i=Z_ p w:=fun i=>by
  have hm:=Nat.mod_lt w hn;have hi:=Nat.mod_lt i hn;by_cases c:w % p.length≤i % p.length
  ·have:=h (i % p.length-w % p.length) (by omega);rw[←this];unfold Z_;congr 1;rw[←Nat.mod_add_mod,show w % p.length+(i % p.length-w % p.length)=i % p.length by omega,Nat.mod_mod]
  ·have:=h (i % p.length+p.length-w % p.length) (by omega);rw[←this];unfold Z_;congr 1;rw[←Nat.mod_add_mod,show w % p.length+(i % p.length+p.length-w % p.length)=i % p.length+p.length by omega,Nat.add_mod_right,Nat.mod_mod]
 exact fun j _=>by rw[key j,key 0]
theorem PE {p:List Bool}(h0:p≠[]) {w:Nat}(hb:bgB p w=true):∃ k,1≤k∧k<p.length∧Zi p w=k∧UW p w k∧Z_ p (w+k)≠Z_ p w:=by
 have hn:0<p.length:=List.length_pos_iff.2 h0;have hd:Z_ p (w+(p.length-1))≠Z_ p w:=by
  have:Z_ p w≠Z_ p (w+p.length-1):=by simpa [bgB] using hb
  rw[show w+(p.length-1)=w+p.length-1 by omega];exact fun h=>this h.symm
 have ex:∀ m,m≤p.length-1→(∃ k,1≤k∧k≤m∧UW p w k∧Z_ p (w+k)≠Z_ p w)∨UW p w (m+1):=fun m=>by
  induction m with
  |zero=>exact fun _=>.inr fun j hj=>by rw[show j=0 by omega];rfl
  |succ m ih =>
   intro hm;rcases ih (by omega) with⟨k,a,b,c⟩|h
   ·exact .inl ⟨k,a,by omega,c⟩
   ·by_cases e:Z_ p (w+(m+1))=Z_ p w
    ·refine .inr fun j hj=>?_;by_cases e2:j=m+1
     ·rw[e2];exact e
     ·exact h j (by omega)
    ·exact .inl ⟨m+1,by omega,Nat.le_refl _,h,e⟩
 rcases ex (p.length-1) (Nat.le_refl _) with⟨k,a,b,c,d⟩|h
 ·exact⟨k,a,by omega,Lj hb a (by omega) d (fun j _ hj=>c j hj),c,d⟩
 ·exact(hd (h (p.length-1) (by omega))).elim
theorem Lh {p:List Bool}(h0:p≠[]) (hu:¬ Fj p):∀ (f:Nat) (w l:Nat),p.length≤l+f→1≤l→UW p w l→∃ w',w'<p.length∧bgB p w'=true∧l≤Zi p w'
 |0,w,l,hf,hl,h=>(hu (OJ h (by omega) h0)).elim
 |f+1,w,l,hf,hl,h=>by
  have hn:0<p.length:=List.length_pos_iff.2 h0;cases hb:bgB p w with
  |true =>
   have cj:bgB p (w % p.length)=true:=by rw[OO h0];exact hb
   obtain⟨k,k1,k2,k3,k4,k5⟩:=PE h0 cj;refine⟨w % p.length,Nat.mod_lt _ hn,cj,?_⟩;rw[k3];apply Classical.byContradiction;intro c;have:=h k (by omega);rw[SC,V3] at k5;exact k5 this
  |false =>
   have e:Z_ p w=Z_ p (w+p.length-1):=by simpa [bgB] using hb
   have hw:UW p (w+p.length-1) (l+1):=fun j hj=>by
    cases j with
    |zero=>rfl
    |succ j =>rw[show w+p.length-1+(j+1)=w+j+p.length by omega,Ib,h j (by omega),e]
   obtain⟨w',a,b,c⟩:=Lh h0 hu f (w+p.length-1) (l+1) (by omega) (by omega) hw;exact⟨w',a,b,by omega⟩
theorem Lr {p:List Bool}(h0:p≠[]) (hu:¬ Fj p) {w l:Nat}(hl:1≤l) (h:UW p w l):∃ w',w'<p.length∧l≤Zi p w':=by obtain⟨w',a,_,c⟩:=Lh h0 hu p.length w l (by omega) hl h;exact⟨w',a,c⟩
theorem Dz {p:List Bool}(h0:p≠[]) (hu:¬ Fj p) (w:Nat):Zi p w<p.length∧UW p w (Zi p w):=by
 have hn:0<p.length:=List.length_pos_iff.2 h0;cases hb:bgB p w with
 |true =>obtain⟨k,k1,k2,k3,k4,k5⟩:=PE h0 hb;rw[k3];exact⟨k2,k4⟩
 |false =>
  have:Zi p w=0:=by refine MM hb (.inr ?_);apply Classical.byContradiction;intro h;exact hu fun j hj=>Classical.byContradiction fun h2=>h ⟨j,hj,h2⟩
  rw[this];exact⟨hn,fun j hj=>by omega⟩
theorem Vg {p:List Bool}(h0:p≠[]) (hu:Fj p):Zi p 0=1000∧∀ w,w<p.length→Zi p w=1000∨Zi p w=0:=by
 refine⟨GV hu h0,fun w hw=>?_⟩;have hn:0<p.length:=List.length_pos_iff.2 h0;by_cases e:w=0
 ·subst e;exact .inl (GV hu h0)
 ·right;have key:∀ i,Z_ p i=Z_ p 0:=fun i=>by rw[←V3,hu _ (Nat.mod_lt _ hn)]
  exact MM (by unfold bgB;rw[key,key (w+p.length-1)];simp) (.inl e)
theorem Ep {p:List Bool}(h0:p≠[]) {B:Nat}(hB:B<1000):okW p.length B (fun i=>p.getD i false)↔∀ k,k<p.length→Zi p k≤B:=by
 have hn:0<p.length:=List.length_pos_iff.2 h0;have ew:∀ i,p.getD (i % p.length) false=Z_ p i:=fun i=>rfl;constructor
 ·intro h k hk;have hu:¬ Fj p:=fun hu=>by
   obtain⟨j,j1,j2,j3⟩:=h 0 hn;dsimp only at j3;rw[Nat.zero_add] at j3;have:=hu (j % p.length) (Nat.mod_lt _ hn);rw[V3,←ew] at this;rw[this] at j3;exact j3 (by rw[Z_,Nat.zero_mod])
  obtain⟨a,b⟩:=Dz h0 hu k;apply Classical.byContradiction;intro c;obtain⟨j,j1,j2,j3⟩:=h k hk;have:=b j (by omega);dsimp only at j3;rw[ew] at j3;exact j3 (by rw[this,KQ hk])
 ·intro h k hk;apply Classical.byContradiction;intro c;have hw:UW p k (B+1):=fun j hj=>by
   by_cases e:j=0
   ·rw[e];rfl
   ·apply Classical.byContradiction;intro d;refine c ⟨j,by omega,by omega,?_⟩;dsimp only;rw[ew];intro h2;exact d (by rw[h2,KQ hk])
  by_cases hu:Fj p
  ·have:=h 0 hn;rw[(Vg h0 hu).1] at this;omega
  ·obtain⟨w',a,b⟩:=Lr h0 hu (by omega) hw;have:=h w' a;omega
theorem MT {H B:Nat}{f g:Nat→Bool}(ma:∀ i,i<H→f i=g i) (h:okW H B f):okW H B g:=fun k hk=>by obtain⟨j,a,b,c⟩:=h k hk;exact⟨j,a,b,by rw[←ma k hk,←ma _ (Nat.mod_lt _ (by omega))];exact c⟩
theorem Q1l {H B:Nat}{f:Nat→Bool}(h:okW H B f):okW H B (fun i=>!f i):=fun k hk=>by obtain⟨j,a,b,c⟩:=h k hk;exact⟨j,a,b,fun h2=>c (by simpa using h2)⟩
def Q4o (H r:Nat):Nat:=(2 ^ H-1) ^^^ r
theorem SX {H r j:Nat}(hj:j<H):(Q4o H r).testBit j=!r.testBit j:=by unfold Q4o;rw[Nat.testBit_xor,Nat.testBit_two_pow_sub_one,decide_eq_true hj];cases r.testBit j<;>rfl
theorem Q1c {H r:Nat}(h:r<2 ^ H):Q4o H r<2 ^ H:=Nat.xor_lt_two_pow (by have:=Nat.two_pow_pos H;omega) h
def clo (lw:List Int) (r:Nat):List Bool:=lw.map fun k=>r.testBit k.toNat
theorem Wh (lw:List Int) (r:Nat):(clo lw r).length=lw.length:=by simp[clo]
theorem Sw {lw:List Int}{r w:Nat}(h:lw≠[]):Z_ (clo lw r) w=r.testBit (lw.getD (w % lw.length) 0).toNat:=by have hn:0<lw.length:=List.length_pos_iff.2 h;have hm:=Nat.mod_lt w hn;unfold Z_;rw[Wh,Qw (by rw[Wh];exact hm),Qw hm];simp[clo]
theorem MA (lw:List Int) (r:Nat):Dv (Jz lw (r:Int))=clo lw r:=by
 unfold Dv Jz clo;rw[List.map_map];refine List.map_congr_left fun k _=>?_;simp only[Function.comp_apply,Int.toNat_natCast];by_cases h:r.testBit k.toNat=true
 ·rw[if_pos h,h];rfl
 ·rw[if_neg h,Bool.eq_false_iff.2 h];rfl
theorem HK (lw:List Int) (fr j:Nat):∀ n,(QJ lw fr n).testBit j=true↔∃ i,i<n∧(lw.getD ((fr+i) % lw.length) 0).toNat=j
 |0=>by simp[QJ]
 |n+1=>by
  unfold QJ;rw[Nat.testBit_or,Bool.or_eq_true,HK lw fr j n,Nat.testBit_two_pow,decide_eq_true_eq];constructor
  ·rintro (⟨i,a,b⟩|h)
   ·exact⟨i,by omega,b⟩
   ·exact⟨n,by omega,h⟩
  ·rintro⟨i,a,b⟩;by_cases e:i=n
   ·subst e;exact .inr b
   ·exact .inl ⟨i,by omega,b⟩
section
variable {H B:Nat}{lw:List Int}
def bdR (H B r:Nat):Prop:=r<2 ^ H∧okW H B r.testBit
theorem Q0y {r:Nat}(h:bdR H B r):bdR H B (Q4o H r):=⟨Q1c h.1,MT (fun i hi=>(SX hi).symm) (Q1l h.2)⟩
theorem G9 (hH:1≤H∧H≤24) (hB:1≤B) (s:Nat):QD (H:Int) (B:Int) (s:Int)=true↔∃ r,bdR H B r∧∀ j,j<H→s.testBit j=true→r.testBit j=true:=by
 unfold QD;simp only[Int.toNat_natCast,decide_eq_true_eq];constructor
 ·intro h;obtain⟨a,b,c,_⟩:=AY hH hB h;exact⟨_,⟨a,b⟩,fun j hj hs=>by rw[c j hj hs,hs]⟩
 ·rintro⟨r,⟨_,b⟩,c⟩;exact bind_none hH hB b fun j hj hs=>by rw[c j hj hs,hs]
theorem L9 (hH:1≤H∧H≤24) (hB:1≤B) (s:Nat) (h:QD (H:Int) (B:Int) (s:Int)=true):∃ r:Nat,Wp (H:Int) (B:Int) (s:Int)=(r:Int)∧bdR H B r∧∀ j,j<H→s.testBit j=true→r.testBit j=true:=by
 have e:Wp (H:Int) (B:Int) (s:Int)=((YY s s B H:Nat):Int):=by unfold Wp;rw[if_pos h];simp only[Int.toNat_natCast]
 unfold QD at h;simp only[Int.toNat_natCast,decide_eq_true_eq] at h;obtain⟨a,b,c,_⟩:=AY hH hB h;exact⟨_,e,⟨a,b⟩,fun j hj hs=>by rw[c j hj hs,hs]⟩
theorem Px (hl:lw≠[]) (h3:∀ x∈lw,0≤x∧x<(H:Int)) (r fr l:Nat):(∀ j,j<H→(QJ lw fr l).testBit j=true→r.testBit j=true)↔∀ i,i<l→Z_ (clo lw r) (fr+i)=true:=by
 have hn:0<lw.length:=List.length_pos_iff.2 hl;have hx:∀ i,(lw.getD ((fr+i) % lw.length) 0).toNat<H:=fun i=>by have hm:=Nat.mod_lt (fr+i) hn;have:=h3 (lw.getD ((fr+i) % lw.length) 0) (by rw[Qw hm];exact List.getElem_mem hm);omega
 constructor
 ·intro h i hi;rw[Sw hl];exact h _ (hx i) ((HK lw fr _ l).2 ⟨i,hi,rfl⟩)
 ·intro h j _ hs;obtain⟨i,hi,rfl⟩:=(HK lw fr j l).1 hs;have:=h i hi
  rwa [Sw hl] at this
theorem IL (hH:1≤H∧H≤24) (hB:1≤B) (hl:lw≠[]) (h3:∀ x∈lw,0≤x∧x<(H:Int)) (fr l:Nat):QD (H:Int) (B:Int) (QJ lw fr l:Nat)=true↔∃ r,bdR H B r∧∀ i,i<l→Z_ (clo lw r) (fr+i)=true:=by
 rw[G9 hH hB];constructor
 ·rintro⟨r,a,b⟩;exact⟨r,a,(Px hl h3 r fr l).1 b⟩
 ·rintro⟨r,a,b⟩;exact⟨r,a,(Px hl h3 r fr l).2 b⟩
theorem DD (hH:1≤H∧H≤24) (hB:1≤B) (hl:lw≠[]) (h3:∀ x∈lw,0≤x∧x<(H:Int)) {r fr l:Nat}(hr:bdR H B r) (hw:UW (clo lw r) fr l):QD (H:Int) (B:Int) (QJ lw fr l:Nat)=true:=by
 rw[IL hH hB hl h3];cases hv:Z_ (clo lw r) fr with
 |true=>exact⟨r,hr,fun i hi=>by rw[hw i hi,hv]⟩
 |false =>refine⟨Q4o H r,Q0y hr,fun i hi=>?_⟩;have hn:0<lw.length:=List.length_pos_iff.2 hl;have hm:=Nat.mod_lt (fr+i) hn;have hx:=h3 (lw.getD ((fr+i) % lw.length) 0) (by rw[Qw hm];exact List.getElem_mem hm);have:=hw i hi;rw[hv,Sw hl] at this;rw[Sw hl,SX (by omega),this];rfl
theorem FX (hH:1≤H∧H≤24) (hB:1≤B) (hl:lw≠[]) (h3:∀ x∈lw,0≤x∧x<(H:Int)) {fr l l':Nat}(h:l'≤l) (ho:QD (H:Int) (B:Int) (QJ lw fr l:Nat)=true):QD (H:Int) (B:Int) (QJ lw fr l':Nat)=true:=by rw[IL hH hB hl h3] at ho ⊢;obtain⟨r,a,b⟩:=ho;exact⟨r,a,fun i hi=>b i (by omega)⟩
theorem SU (hH:1≤H∧H≤24) (hB:1≤B) (hl:lw≠[]) (h3:∀ x∈lw,0≤x∧x<(H:Int)) (fr:Nat):∀ m l b,lw.length≤l+m→(lgI (H:Int) lw (B:Int) fr m l b=(l,b)∨QD (H:Int) (B:Int) (QJ lw fr (lgI (H:Int) lw (B:Int) fr m l b).1:Nat)=true∧(lgI (H:Int) lw (B:Int) fr m l b).2=Wp (H:Int) (B:Int) (QJ lw fr (lgI (H:Int) lw (B:Int) fr m l b).1:Nat)) ∧
  ∀ l',(lgI (H:Int) lw (B:Int) fr m l b).1<l'→l'<lw.length→QD (H:Int) (B:Int) (QJ lw fr l':Nat)=false
 |0,l,b,hm=>⟨.inl rfl,fun l' h1 h2=>by unfold lgI at h1;dsimp only at h1;omega⟩
 |m+1,l,b,hm=>by
  unfold lgI;by_cases c:l+1<lw.length∧QD (H:Int) (B:Int) (QJ lw fr (l+1):Nat)=true
  ·rw[if_pos c];obtain⟨a1,a2⟩:=SU hH hB hl h3 fr m (l+1) (Wp (H:Int) (B:Int) (QJ lw fr (l+1):Nat)) (by omega);refine⟨.inr ?_,a2⟩;rcases a1 with a1|a1
   ·rw[a1];exact⟨c.2,rfl⟩
   ·exact a1
  ·rw[if_neg c];refine⟨.inl rfl,fun l' h1 h2=>?_⟩;dsimp only at h1;cases ho:QD (H:Int) (B:Int) (QJ lw fr l':Nat) with
   |false=>rfl
   |true=>exact(c ⟨by omega,FX hH hB hl h3 (by omega) ho⟩).elim
theorem Ll (hH:1≤H∧H≤24) (hB:1≤B) (hl:lw≠[]) (h3:∀ x∈lw,0≤x∧x<(H:Int)):∀ k,((lgK (H:Int) lw (B:Int) k)=(0,0)∨∃ fr,QD (H:Int) (B:Int) (QJ lw fr (lgK (H:Int) lw (B:Int) k).1:Nat)=true∧(lgK (H:Int) lw (B:Int) k).2=Wp (H:Int) (B:Int) (QJ lw fr (lgK (H:Int) lw (B:Int) k).1:Nat)) ∧
  ∀ fr l',fr<k→(lgK (H:Int) lw (B:Int) k).1<l'→l'<lw.length→QD (H:Int) (B:Int) (QJ lw fr l':Nat)=false
 |0=>⟨.inl rfl,fun fr l' h=>by omega⟩
 |k+1=>by
  obtain⟨a1,a2⟩:=Ll hH hB hl h3 k;have lt:=SW (hk:=(H:Int)) (bd:=(B:Int)) (List.length_pos_iff.2 hl) k;obtain⟨b1,b2⟩:=SU hH hB hl h3 k (lw.length-(lgK (H:Int) lw (B:Int) k).1) (lgK (H:Int) lw (B:Int) k).1 (lgK (H:Int) lw (B:Int) k).2 (by omega);have hle:=(Ei (H:Int) lw (B:Int) k (lw.length-(lgK (H:Int) lw (B:Int) k).1) (lgK (H:Int) lw (B:Int) k).1 (lgK (H:Int) lw (B:Int) k).2).1;rw[lgK];refine⟨?_,fun fr l' h1 h2 h4=>?_⟩
  ·rcases b1 with b1|b1
   ·rw[b1];exact a1
   ·exact .inr ⟨k,b1⟩
  ·by_cases e:fr=k
   ·subst e;exact b2 l' h2 h4
   ·exact a2 fr l' (by omega) (by omega) h4
end
theorem Tt {α:Type}(g:α→Int):∀ (l:List α) (a:Int),a≤l.foldl (fun a x=>K1 a (g x)) a∧(∀ x∈l,g x≤l.foldl (fun a x=>K1 a (g x)) a)∧(∀ M,a≤M→(∀ x∈l,g x≤M)→l.foldl (fun a x=>K1 a (g x)) a≤M)
 |[],a=>⟨Int.le_refl _,(fun x hx=>by cases hx),fun M h _=>h⟩
 |x::l,a=>by
  have hg:K1 a (g x)=max a (g x):=by unfold K1;split<;>omega
  obtain⟨h1,h2,h3⟩:=Tt g l (K1 a (g x));simp only[List.foldl_cons];refine⟨by omega,fun y hy=>?_,fun M ha hM=>h3 M ?_ fun y hy=>hM y (List.mem_cons_of_mem _ hy)⟩
  ·rcases List.mem_cons.1 hy with e|e
   ·rw[e];omega
   ·exact h2 y e
  ·have:=hM x (List.mem_cons_self ..);omega
theorem HC (s:List UInt8) (M:Int):(∀ k,k<s.length→((Zi (Dv s) k:Nat):Int)≤lgX [s])∧(0≤M→(∀ k,k<s.length→((Zi (Dv s) k:Nat):Int)≤M)→lgX [s]≤M):=by
 have hF:WU 0 [s]=Mg 0 0 (Dv s) s.length:=by unfold WU K5;simp
 unfold lgX;rw[hF];obtain⟨h1,h2,h3⟩:=Tt (fun x:Int×Int×Int×Bool=>x.2.2.1) (Mg 0 0 (Dv s) s.length) 0;refine⟨fun k hk=>?_,fun h0 hM=>h3 M h0 fun x hx=>?_⟩
 ·by_cases c:0<Zi (Dv s) k
  ·refine h2 (0,(k:Int),(Zi (Dv s) k:Int),(Dv s).getD k false) ?_;unfold Mg;rw[List.mem_filterMap];refine⟨k,List.mem_range.2 hk,?_⟩;unfold Q0c;rw[if_pos ⟨c,by omega⟩]
  ·have:Zi (Dv s) k=0:=by omega
   rw[this];exact h1
 ·unfold Mg at hx;rw[List.mem_filterMap] at hx;obtain⟨k,hk,he⟩:=hx;unfold Q0c at he;split at he
  ·cases he;exact hM k (List.mem_range.1 hk)
  ·cases he
theorem Fz {H B r:Nat}(hH:1≤H) (hB:B<1000):Um (r:Int) (H:Int) (B:Int)=true↔okW H B r.testBit:=by
 have hl:=MJ (r:Int) H;have h0:JR (r:Int) H≠[]:=fun h=>by rw[h] at hl;simp at hl;omega
 have hb:=Ep h0 hB;rw[hl] at hb;have e:okW H B r.testBit↔okW H B (fun i=>(JR (r:Int) H).getD i false):=by
  have ma:∀ i,i<H→r.testBit i=(JR (r:Int) H).getD i false:=fun i hi=>by rw[TY hi,Int.toNat_natCast]
  exact⟨MT ma,MT fun i hi=>(ma i hi).symm⟩
 rw[e,hb];unfold Um;rw[Int.toNat_natCast,List.all_eq_true];constructor
 ·intro h k hk;have:=h k (List.mem_range.2 hk);rw[decide_eq_true_eq] at this;omega
 ·intro h k hk;rw[decide_eq_true_eq];have:=h k (List.mem_range.1 hk);omega
theorem S5 {g:Nat→Int}{P:Nat→Bool}:∀ (n:Nat) (M:Int),0≤M→(∀ r,r<n→P r=true→g r≤M)→(List.range n).foldl (fun a r=>if P r=true then K1 a (g r) else a) 0≤M∧0≤(List.range n).foldl (fun a r=>if P r=true then K1 a (g r) else a) 0∧∀ r,r<n→P r=true→g r≤(List.range n).foldl (fun a r=>if P r=true then K1 a (g r) else a) 0
 |0,M,h,_=>⟨h,Int.le_refl _,fun r hr=>by omega⟩
 |n+1,M,h,hM=>by
  obtain⟨h1,h2,h3⟩:=S5 (g:=g) (P:=P) n M h fun r hr=>hM r (by omega);rw[List.range_succ,List.foldl_append];simp only[List.foldl_cons,List.foldl_nil];generalize (List.range n).foldl (fun a r=>if P r=true then K1 a (g r) else a) 0=F at *
  have hg:K1 F (g n)=max F (g n):=by unfold K1;split<;>omega
  by_cases c:P n=true
  ·rw[if_pos c];have:=hM n (by omega) c;refine⟨by omega,by omega,fun r hr hp=>?_⟩;by_cases e:r=n
   ·subst e;omega
   ·have:=h3 r (by omega) hp;omega
  ·rw[if_neg c];refine⟨h1,h2,fun r hr hp=>?_⟩;by_cases e:r=n
   ·subst e;exact(c hp).elim
   ·exact h3 r (by omega) hp
theorem EN {hk bd:Int}{lw:List Int}(ht:Ql hk lw=0) (hb:1≤bd∧bd≤24):(QH hk lw bd=9∧Sl hk lw bd=0)∨(QH hk lw bd=0∧1≤Yh hk lw bd∧Yh hk lw bd=Sl hk lw bd∧(0≤Z8 hk lw bd∧Z8 hk lw bd<2 ^ hk.toNat)∧Um (Z8 hk lw bd) hk bd=true∧lgX [Jz lw (Z8 hk lw bd)]=Yh hk lw bd):=by
 obtain⟨t1,t2,t3⟩:=Q34 ht;obtain⟨H,rfl⟩:=Int.eq_ofNat_of_zero_le (show 0≤hk by omega);obtain⟨B,rfl⟩:=Int.eq_ofNat_of_zero_le (show 0≤bd by omega);have hH:1≤H∧H≤24:=by omega
 have hB:1≤B:=by omega
 have hl:lw≠[]:=List.length_pos_iff.1 (by omega);have hi:inI (B:Int) 1 24=true:=by unfold inI;rw[decide_eq_true hb.1,decide_eq_true hb.2];rfl
 have eE:QH (H:Int) lw (B:Int)=if QD (H:Int) (B:Int) 0=true then 0 else 9:=by unfold QH;rw[if_neg (by omega),if_neg (by rw[hi];decide)]
 have hx:∀ r:Nat,r<2 ^ H→(Um (r:Int) (H:Int) (B:Int)=true↔bdR H B r):=fun r hr=>by rw[Fz hH.1 (by omega)];exact⟨fun h=>⟨hr,h⟩,fun h=>h.2⟩
 have cg:∀ r:Nat,r<2 ^ H→Qs (H:Int) lw (H:Int) [(r:Int)]=[Jz lw (r:Int)]:=fun r hr=>(D5 ht ⟨by omega,by rw[Int.toNat_natCast];exact_mod_cast hr⟩).2;have tS:Sl (H:Int) lw (B:Int)=(List.range (2 ^ H)).foldl (fun a (r:Nat)=>if Um (r:Int) (H:Int) (B:Int)=true then K1 a (lgX (Qs (H:Int) lw (H:Int) [(r:Int)])) else a) 0:=by unfold Sl;rw[Int.toNat_natCast]
 cases h0:QD (H:Int) (B:Int) 0 with
 |false =>
  left;rw[h0] at eE;refine⟨eE,?_⟩;have xy:∀ r:Nat,r<2 ^ H→Um (r:Int) (H:Int) (B:Int)=true→False:=fun r hr h=>by have:=(G9 hH hB 0).2 ⟨r,(hx r hr).1 h,fun j _ hs=>by simp at hs⟩;rw[show ((0:Nat):Int)=0 from rfl,h0] at this;cases this
  have:=S5 (g:=fun r:Nat=>lgX (Qs (H:Int) lw (H:Int) [(r:Int)])) (P:=fun r:Nat=>Um (r:Int) (H:Int) (B:Int)) (2 ^ H) 0 (Int.le_refl _) fun r hr h=>(xy r hr h).elim;rw[tS];have a:=this.1;have b:=this.2.1;omega
 |true =>
  right;rw[h0,if_pos rfl] at eE;have eN:Yh (H:Int) lw (B:Int)=lgN (H:Int) lw (B:Int):=by unfold Yh;rw[if_pos eE]
  have eR:Z8 (H:Int) lw (B:Int)=lgR (H:Int) lw (B:Int):=by unfold Z8;rw[if_pos eE]
  obtain⟨r0,iH,_⟩:=(G9 hH hB 0).1 h0;have c0:∀ r,clo lw r≠[]:=fun r h=>by have:=Wh lw r;rw[h] at this;simp at this;exact hl (List.length_eq_zero_iff.1 (by omega))
  have fin:∀ (M:Int) (r:Nat),1≤M→bdR H B r→lgX [Jz lw (r:Int)]=M→(∀ q,bdR H B q→lgX [Jz lw (q:Int)]≤M)→lgN (H:Int) lw (B:Int)=M→lgR (H:Int) lw (B:Int)=(r:Int)→QH (H:Int) lw (B:Int)=0∧1≤Yh (H:Int) lw (B:Int)∧Yh (H:Int) lw (B:Int)=Sl (H:Int) lw (B:Int)∧(0≤Z8 (H:Int) lw (B:Int)∧Z8 (H:Int) lw (B:Int)<2 ^ (H:Int).toNat)∧Um (Z8 (H:Int) lw (B:Int)) (H:Int) (B:Int)=true∧lgX [Jz lw (Z8 (H:Int) lw (B:Int))]=Yh (H:Int) lw (B:Int):=fun M r hM hr hg hall hn eZ=>by
   have ff:=S5 (g:=fun r:Nat=>lgX (Qs (H:Int) lw (H:Int) [(r:Int)])) (P:=fun r:Nat=>Um (r:Int) (H:Int) (B:Int)) (2 ^ H) M (by omega) fun q hq h=>by rw[cg q hq];exact hall q ((hx q hq).1 h)
   have f3:=ff.2.2 r hr.1 ((hx r hr.1).2 hr);rw[cg r hr.1,hg] at f3;rw[eN,eR,hn,eZ,tS];refine⟨eE,hM,by have:=ff.1;omega,⟨by omega,by rw[Int.toNat_natCast];exact_mod_cast hr.1⟩,(hx r hr.1).2 hr,hg⟩
  have j5:∀ r:Nat,(Jz lw (r:Int)).length=lw.length:=fun r=>by simp[Jz]
  cases hE:QD (H:Int) (B:Int) (QJ lw 0 lw.length:Nat) with
  |true =>
   obtain⟨r,v1,v2,v3⟩:=L9 hH hB _ hE;have v3:=(Px hl t3 r 0 lw.length).1 v3;have hu:Fj (clo lw r):=fun j hj=>by rw[Wh] at hj;have a:=v3 j hj;have b:=v3 0 (by omega);rw[Nat.zero_add] at a b;rw[a,b]
   refine fin 1000 r (by decide) v2 ?_ (fun q hq=>?_) (by unfold lgN;rw[if_pos hE]) (by unfold lgR;rw[if_pos hE];exact v1)
   ·obtain⟨l1,l2⟩:=HC (Jz lw (r:Int)) 1000;rw[MA,j5] at l1 l2;have a:=l1 0 (by omega);rw[(Vg (c0 r) hu).1] at a;have b:=l2 (by decide) fun k hk=>by
     rcases (Vg (c0 r) hu).2 k (by rw[Wh];exact hk) with e|e<;>rw[e]<;>decide
    omega
   ·obtain⟨l1,l2⟩:=HC (Jz lw (q:Int)) 1000;rw[MA,j5] at l2;refine l2 (by decide) fun k hk=>?_;by_cases pH:Fj (clo lw q)
    ·rcases (Vg (c0 q) pH).2 k (by rw[Wh];exact hk) with e|e<;>rw[e]<;>decide
    ·have:=(Dz (c0 q) pH k).1;rw[Wh] at this;omega
  |false =>
   have rY:∀ r,bdR H B r→¬ Fj (clo lw r):=fun r hr hu=>by
    have:=DD hH hB hl t3 (fr:=0) (l:=lw.length) hr fun j hj=>by rw[Nat.zero_add];exact hu j (by rw[Wh];exact hj)
    rw[hE] at this;cases this
   obtain⟨k1,k2⟩:=Ll hH hB hl t3 lw.length;have tQ:=SW (hk:=(H:Int)) (bd:=(B:Int)) (List.length_pos_iff.2 hl) lw.length;have xA:lgN (H:Int) lw (B:Int)=((lgK (H:Int) lw (B:Int) lw.length).1:Int):=by unfold lgN;rw[if_neg (by rw[hE];decide)]
   have xB:lgR (H:Int) lw (B:Int)=(lgK (H:Int) lw (B:Int) lw.length).2:=by unfold lgR;rw[if_neg (by rw[hE];decide)]
   have n2:2≤lw.length:=by apply Classical.byContradiction;intro h;refine rY r0 iH fun j hj=>?_;rw[Wh] at hj;rw[show j=0 by omega]
   have L1:1≤(lgK (H:Int) lw (B:Int) lw.length).1:=by apply Classical.byContradiction;intro h;have:=k2 0 1 (by omega) (by omega) (by omega);rw[DD hH hB hl t3 (fr:=0) (l:=1) iH fun j hj=>by rw[show j=0 by omega]] at this;cases this
   rcases k1 with k1|⟨fr,k1,k3⟩
   ·rw[k1] at L1;dsimp only at L1;omega
   obtain⟨r,v1,v2,v3⟩:=L9 hH hB _ k1;have v3:=(Px hl t3 r fr _).1 v3;generalize (lgK (H:Int) lw (B:Int) lw.length).1=L at *
   have xC:UW (clo lw r) fr L:=fun j hj=>by have a:=v3 j hj;have b:=v3 0 (by omega);rw[Nat.add_zero] at b;rw[a,b]
   have hle:∀ q,bdR H B q→lgX [Jz lw (q:Int)]≤(L:Int):=fun q hq=>by obtain⟨l1,l2⟩:=HC (Jz lw (q:Int)) (L:Int);rw[MA,j5] at l2;refine l2 (by omega) fun k hk=>?_;obtain⟨a,b⟩:=Dz (c0 q) (rY q hq) k;rw[Wh] at a;apply Classical.byContradiction;intro h;have:=k2 k (Zi (clo lw q) k) hk (by omega) a;rw[DD hH hB hl t3 hq b] at this;cases this
   refine fin (L:Int) r (by omega) v2 ?_ hle xA (by rw[xB,k3,v1]);obtain⟨l1,_⟩:=HC (Jz lw (r:Int)) 0;rw[MA,j5] at l1;obtain⟨w',w1,w2⟩:=Lr (c0 r) (rY r v2) L1 xC;rw[Wh] at w1;have a:=l1 w' w1;have b:=hle r v2;omega
end Go.Proofs.Tryz
namespace Go.Proofs.Tryz
open Go Go.V Go.Proofs
def WG:AL ((Int×List Int)×Int):=(.cons (.agg (.cons (.k (.i .i64)) (.one (.k (.list (.i .i64)))))) (.one (.k (.i .i64))))
def Up (d:(Int×List Int)×Int):Prop:=d.1.2.length≤9223372036854775807
def Wg (d:(Int×List Int)×Int):SV:=.val .bo true
def W8 (d:(Int×List Int)×Int):List OB:=[]
def Y5:CSp:=K8 WG Up Wg W8
def ZQ (hk:Int) (lw:List Int) (bd:Int):Prop :=
 (True)∧∀ (y1:Bool),y1=((Ql hk lw)==(0:Int))→(y1=true→True)∧∀ (y2:Bool),y2=(!(inI bd (1:Int) (24:Int)))→∀ (y3:Bool),y3=(y1&&y2)→(y3=true →
  (([]:List (List UInt8)).length≤9223372036854775807)∧∀ (y4:Bool),y4=((3:Int)==(0:Int))→∀ (y5:Bool),y5=(decide (hk > (10:Int)))→∀ (y6:Bool),y6=(decide ((lI lw) > (40:Int)))→∀ (y7:Bool),y7=(y5||y6)→∀ (y8:Bool),y8=(y4&&y7)→∀ (y9:Bool),y9=((NP lw ([]:List Int) ([]:List (List UInt8)))||y8)→(y9=true →
   (True)∧(true=true∧(True))) ∧
  (y9=false →
   (lw.length≤1000)∧(lw.length≤1000000)∧(lw.length≤1000000)∧∀ (rZ:Bool),rZ=(!(decide (hk=hk)&&(lw==lw)))→(rZ=true →
    (false=true∧(True))) ∧
   (rZ=false →
    ∀ (r7:Bool),r7=((3:Int)==(0:Int))→(r7=true →
     (Ql hk lw=0∧hk≤10∧1≤bd∧bd≤24∧lw.length≤110)∧∀ (r8:Bool),r8=((Sl hk lw bd)==(0:Int))→(r8=true →
      ∀ (r9:Bool),r9=((9:Int) != (0:Int))→(r9=true →
       ∀ (tT:Bool),tT=((QH hk lw bd)==(9:Int))→∀ (tU:Bool),tU=((Yh hk lw bd)==(0:Int))→∀ (tV:Bool),tV=(tT&&tU)→∀ (tW:Bool),tW=((Z8 hk lw bd)==(0:Int))→∀ (r_:Bool),r_=(tV&&tW)→(r_=true→True)∧∀ (tX:Bool),tX=(r_&&true)→(tX=true∧(True))) ∧
      (r9=false →
       ∀ (tY:Bool),tY=((QH hk lw bd) != (0:Int))→∀ (tZ:Bool),tZ=((Yh hk lw bd) != (Sl hk lw bd))→∀ (mz:Bool),mz=(tY||tZ)→(mz=false→InK .u64 hk)∧(mz=false→0≤hk)∧(mz=false→InK .i64 (WO .i64 (1:Int) hk))∧∀ (sd:Int),sd=(WO .i64 (1:Int) hk)→(mz=false→InK .i64 (sd-(1:Int)))∧(mz=false→True)∧∀ (t_:Bool),t_=(!(inI (Z8 hk lw bd) (0:Int) (sd-(1:Int))))→∀ (sg:Bool),sg=(mz||t_)→(sg=false→(1≤hk∧hk≤24)∧0≤(Z8 hk lw bd)∧(Z8 hk lw bd)<16777216)∧∀ (ua:Bool),ua=(!(Um (Z8 hk lw bd) hk bd))→∀ (sj:Bool),sj=(sg||ua)→(sj=true →
        (false=true∧(True))) ∧
       (sj=false →
        ∀ w1:List Value,w1=w1∧(ZE hk lw hk [(Z8 hk lw bd)]=0)∧(false=true→(Qs hk lw hk [(Z8 hk lw bd)])=[])∧((Qs hk lw hk [(Z8 hk lw bd)]).length≤1000∧(∀ s∈(Qs hk lw hk [(Z8 hk lw bd)]),s.length≤1000))∧∀ (sk:Bool),sk=((lgX (Qs hk lw hk [(Z8 hk lw bd)]))==(Yh hk lw bd))→(sk=true→True)∧∀ (ub:Bool),ub=(sk&&true)→(ub=true∧(True))))) ∧
     (r8=false →
      ∀ (sq:Bool),sq=((3:Int) != (0:Int))→(sq=true →
       ∀ (uc:Bool),uc=((QH hk lw bd)==(3:Int))→∀ (ud:Bool),ud=((Yh hk lw bd)==(0:Int))→∀ (uf:Bool),uf=(uc&&ud)→∀ (ug:Bool),ug=((Z8 hk lw bd)==(0:Int))→∀ (su:Bool),su=(uf&&ug)→(su=true→True)∧∀ (uh:Bool),uh=(su&&true)→(uh=true∧(True))) ∧
      (sq=false →
       ∀ (ui:Bool),ui=((QH hk lw bd) != (0:Int))→∀ (uj:Bool),uj=((Yh hk lw bd) != (Sl hk lw bd))→∀ (mA:Bool),mA=(ui||uj)→(mA=false→InK .u64 hk)∧(mA=false→0≤hk)∧(mA=false→InK .i64 (WO .i64 (1:Int) hk))∧∀ (sw:Int),sw=(WO .i64 (1:Int) hk)→(mA=false→InK .i64 (sw-(1:Int)))∧(mA=false→True)∧∀ (uk:Bool),uk=(!(inI (Z8 hk lw bd) (0:Int) (sw-(1:Int))))→∀ (sx:Bool),sx=(mA||uk)→(sx=false→(1≤hk∧hk≤24)∧0≤(Z8 hk lw bd)∧(Z8 hk lw bd)<16777216)∧∀ (um:Bool),um=(!(Um (Z8 hk lw bd) hk bd))→∀ (sy:Bool),sy=(sx||um)→(sy=true →
        (false=true∧(True))) ∧
       (sy=false →
        ∀ w2:List Value,w2=w2∧(ZE hk lw hk [(Z8 hk lw bd)]=0)∧(false=true→(Qs hk lw hk [(Z8 hk lw bd)])=[])∧((Qs hk lw hk [(Z8 hk lw bd)]).length≤1000∧(∀ s∈(Qs hk lw hk [(Z8 hk lw bd)]),s.length≤1000))∧∀ (sA:Bool),sA=((lgX (Qs hk lw hk [(Z8 hk lw bd)]))==(Yh hk lw bd))→(sA=true→True)∧∀ (uo:Bool),uo=(sA&&true)→(uo=true∧(True)))))) ∧
    (r7=false →
     ∀ (sB:Bool),sB=((3:Int) != (0:Int))→(sB=true →
      ∀ (uq:Bool),uq=((QH hk lw bd)==(3:Int))→∀ (ur:Bool),ur=((Yh hk lw bd)==(0:Int))→∀ (uu:Bool),uu=(uq&&ur)→∀ (uv:Bool),uv=((Z8 hk lw bd)==(0:Int))→∀ (sC:Bool),sC=(uu&&uv)→(sC=true→True)∧∀ (uw:Bool),uw=(sC&&true)→(uw=true∧(True))) ∧
     (sB=false →
      ∀ (ux:Bool),ux=((QH hk lw bd) != (0:Int))→∀ (uy:Bool),uy=((Yh hk lw bd) != (0:Int))→∀ (mB:Bool),mB=(ux||uy)→(mB=false→InK .u64 hk)∧(mB=false→0≤hk)∧(mB=false→InK .i64 (WO .i64 (1:Int) hk))∧∀ (sD:Int),sD=(WO .i64 (1:Int) hk)→(mB=false→InK .i64 (sD-(1:Int)))∧(mB=false→True)∧∀ (uz:Bool),uz=(!(inI (Z8 hk lw bd) (0:Int) (sD-(1:Int))))→∀ (sE:Bool),sE=(mB||uz)→(sE=false→(1≤hk∧hk≤24)∧0≤(Z8 hk lw bd)∧(Z8 hk lw bd)<16777216)∧∀ (uA:Bool),uA=(!(Um (Z8 hk lw bd) hk bd))→∀ (sF:Bool),sF=(sE||uA)→(sF=true →
       (false=true∧(True))) ∧
      (sF=false →
       ∀ w3:List Value,w3=w3∧(ZE hk lw hk [(Z8 hk lw bd)]=0)∧(false=true→(Qs hk lw hk [(Z8 hk lw bd)])=[])∧((Qs hk lw hk [(Z8 hk lw bd)]).length≤1000∧(∀ s∈(Qs hk lw hk [(Z8 hk lw bd)]),s.length≤1000))∧∀ (sG:Bool),sG=((lgX (Qs hk lw hk [(Z8 hk lw bd)]))==(Yh hk lw bd))→(sG=true→True)∧∀ (uB:Bool),uB=(sG&&true)→(uB=true∧(True)))))))) ∧
 (y3=false →
  (([]:List (List UInt8)).length≤9223372036854775807)∧∀ (uC:Bool),uC=((Ql hk lw)==(0:Int))→∀ (uD:Bool),uD=(decide (hk > (10:Int)))→∀ (uE:Bool),uE=(decide ((lI lw) > (40:Int)))→∀ (uF:Bool),uF=(uD||uE)→∀ (uG:Bool),uG=(uC&&uF)→∀ (sH:Bool),sH=((NP lw ([]:List Int) ([]:List (List UInt8)))||uG)→(sH=true →
   (True)∧(true=true∧(True))) ∧
  (sH=false →
   (lw.length≤1000)∧(lw.length≤1000000)∧(lw.length≤1000000)∧∀ (sI:Bool),sI=(!(decide (hk=hk)&&(lw==lw)))→(sI=true →
    (false=true∧(True))) ∧
   (sI=false →
    ∀ (sJ:Bool),sJ=((Ql hk lw)==(0:Int))→(sJ=true →
     (Ql hk lw=0∧hk≤10∧1≤bd∧bd≤24∧lw.length≤110)∧∀ (sK:Bool),sK=((Sl hk lw bd)==(0:Int))→(sK=true →
      ∀ (sL:Bool),sL=((9:Int) != (0:Int))→(sL=true →
       ∀ (uH:Bool),uH=((QH hk lw bd)==(9:Int))→∀ (uI:Bool),uI=((Yh hk lw bd)==(0:Int))→∀ (uJ:Bool),uJ=(uH&&uI)→∀ (uK:Bool),uK=((Z8 hk lw bd)==(0:Int))→∀ (sM:Bool),sM=(uJ&&uK)→(sM=true→True)∧∀ (uL:Bool),uL=(sM&&true)→(uL=true∧(True))) ∧
      (sL=false →
       ∀ (uM:Bool),uM=((QH hk lw bd) != (0:Int))→∀ (uN:Bool),uN=((Yh hk lw bd) != (Sl hk lw bd))→∀ (mC:Bool),mC=(uM||uN)→(mC=false→InK .u64 hk)∧(mC=false→0≤hk)∧(mC=false→InK .i64 (WO .i64 (1:Int) hk))∧∀ (sN:Int),sN=(WO .i64 (1:Int) hk)→(mC=false→InK .i64 (sN-(1:Int)))∧(mC=false→True)∧∀ (uO:Bool),uO=(!(inI (Z8 hk lw bd) (0:Int) (sN-(1:Int))))→∀ (sO:Bool),sO=(mC||uO)→(sO=false→(1≤hk∧hk≤24)∧0≤(Z8 hk lw bd)∧(Z8 hk lw bd)<16777216)∧∀ (uP:Bool),uP=(!(Um (Z8 hk lw bd) hk bd))→∀ (sP:Bool),sP=(sO||uP)→(sP=true →
        (false=true∧(True))) ∧
       (sP=false →
        ∀ w4:List Value,w4=w4∧(ZE hk lw hk [(Z8 hk lw bd)]=0)∧(false=true→(Qs hk lw hk [(Z8 hk lw bd)])=[])∧((Qs hk lw hk [(Z8 hk lw bd)]).length≤1000∧(∀ s∈(Qs hk lw hk [(Z8 hk lw bd)]),s.length≤1000))∧∀ (sQ:Bool),sQ=((lgX (Qs hk lw hk [(Z8 hk lw bd)]))==(Yh hk lw bd))→(sQ=true→True)∧∀ (uQ:Bool),uQ=(sQ&&true)→(uQ=true∧(True))))) ∧
     (sK=false →
      ∀ (sR:Bool),sR=((Ql hk lw) != (0:Int))→(sR=true →
       ∀ (uR:Bool),uR=((QH hk lw bd)==(Ql hk lw))→∀ (uS:Bool),uS=((Yh hk lw bd)==(0:Int))→∀ (uT:Bool),uT=(uR&&uS)→∀ (uU:Bool),uU=((Z8 hk lw bd)==(0:Int))→∀ (sS:Bool),sS=(uT&&uU)→(sS=true→True)∧∀ (uV:Bool),uV=(sS&&true)→(uV=true∧(True))) ∧
      (sR=false →
       ∀ (uW:Bool),uW=((QH hk lw bd) != (0:Int))→∀ (uX:Bool),uX=((Yh hk lw bd) != (Sl hk lw bd))→∀ (mD:Bool),mD=(uW||uX)→(mD=false→InK .u64 hk)∧(mD=false→0≤hk)∧(mD=false→InK .i64 (WO .i64 (1:Int) hk))∧∀ (mE:Int),mE=(WO .i64 (1:Int) hk)→(mD=false→InK .i64 (mE-(1:Int)))∧(mD=false→True)∧∀ (o_:Bool),o_=(!(inI (Z8 hk lw bd) (0:Int) (mE-(1:Int))))→∀ (mF:Bool),mF=(mD||o_)→(mF=false→(1≤hk∧hk≤24)∧0≤(Z8 hk lw bd)∧(Z8 hk lw bd)<16777216)∧∀ (pa:Bool),pa=(!(Um (Z8 hk lw bd) hk bd))→∀ (mG:Bool),mG=(mF||pa)→(mG=true →
        (false=true∧(True))) ∧
       (mG=false →
        ∀ w5:List Value,w5=w5∧(ZE hk lw hk [(Z8 hk lw bd)]=0)∧(false=true→(Qs hk lw hk [(Z8 hk lw bd)])=[])∧((Qs hk lw hk [(Z8 hk lw bd)]).length≤1000∧(∀ s∈(Qs hk lw hk [(Z8 hk lw bd)]),s.length≤1000))∧∀ (mH:Bool),mH=((lgX (Qs hk lw hk [(Z8 hk lw bd)]))==(Yh hk lw bd))→(mH=true→True)∧∀ (pb:Bool),pb=(mH&&true)→(pb=true∧(True)))))) ∧
    (sJ=false →
     ∀ (mI:Bool),mI=((Ql hk lw) != (0:Int))→(mI=true →
      ∀ (pc:Bool),pc=((QH hk lw bd)==(Ql hk lw))→∀ (pg:Bool),pg=((Yh hk lw bd)==(0:Int))→∀ (ph:Bool),ph=(pc&&pg)→∀ (pj:Bool),pj=((Z8 hk lw bd)==(0:Int))→∀ (mJ:Bool),mJ=(ph&&pj)→(mJ=true→True)∧∀ (pn:Bool),pn=(mJ&&true)→(pn=true∧(True))) ∧
     (mI=false →
      ∀ (po:Bool),po=((QH hk lw bd) != (0:Int))→∀ (pq:Bool),pq=((Yh hk lw bd) != (0:Int))→∀ (gA:Bool),gA=(po||pq)→(gA=false→InK .u64 hk)∧(gA=false→0≤hk)∧(gA=false→InK .i64 (WO .i64 (1:Int) hk))∧∀ (mK:Int),mK=(WO .i64 (1:Int) hk)→(gA=false→InK .i64 (mK-(1:Int)))∧(gA=false→True)∧∀ (pr:Bool),pr=(!(inI (Z8 hk lw bd) (0:Int) (mK-(1:Int))))→∀ (mL:Bool),mL=(gA||pr)→(mL=false→(1≤hk∧hk≤24)∧0≤(Z8 hk lw bd)∧(Z8 hk lw bd)<16777216)∧∀ (pw:Bool),pw=(!(Um (Z8 hk lw bd) hk bd))→∀ (mM:Bool),mM=(mL||pw)→(mM=true →
       (false=true∧(True))) ∧
      (mM=false →
       ∀ w6:List Value,w6=w6∧(ZE hk lw hk [(Z8 hk lw bd)]=0)∧(false=true→(Qs hk lw hk [(Z8 hk lw bd)])=[])∧((Qs hk lw hk [(Z8 hk lw bd)]).length≤1000∧(∀ s∈(Qs hk lw hk [(Z8 hk lw bd)]),s.length≤1000))∧∀ (mN:Bool),mN=((lgX (Qs hk lw hk [(Z8 hk lw bd)]))==(Yh hk lw bd))→(mN=true→True)∧∀ (px:Bool),px=(mN&&true)→(px=true∧(True))))))))
def Zo:Cx:=⟨[],[],8,[],0,[],[],[],[],true,[],[],[],[]⟩
def Zp:List (Nat×LoopAnn):=[]
def WA:Cx:=⟨[(3,(.i .i64))],[(6,Yz),(7,Vc),(8,Yt),(9,Uu),(10,Uc),(11,Ua),(12,V2),(13,Yu),(14,XS),(16,XL),(15,JC)],113,[],0,[(17,Q55 Zo (fun _=>Zp) c17 [.cell 4 true 2] 8)],[],[],[],true,[],[],[2],[]⟩
def UQ (hk:Int) (lw:List Int) (bd:Int):List (Nat×LoopAnn):=[]
theorem Uw (d:(Int×List Int)×Int):gwp (WA) (UQ d.1.1 d.1.2 d.2) c3 0 (Vt [.tmp 4] (Wg d) (W8 d)) (QL 113 (AL.can WG d))=ZQ d.1.1 d.1.2 d.2:=by kernel_rfl
abbrev UY:Prop:=OkC Tryz.prog 3 Y5
theorem N0 (h:∀ (hk:Int) (lw:List Int) (bd:Int),(lw.length≤9223372036854775807)→ZQ hk lw bd):OkC Tryz.prog 3 Y5 :=
 Z3 fun3 mixed (C:=WA) (V:=fun (d:(Int×List Int)×Int)=>ZQ d.1.1 d.1.2 d.2) ⟨(.cons Bf (.cons Gu (.cons Bw (.cons B3 (.cons TF (.cons PO (.cons HS (.cons DV (.cons VK (.cons VF (.cons YP .nil))))))))))),(XsOk.cons (RF Q0n mixed (C:=Zo) ⟨.nil,XsOk.nil,ItsOk.nil,YlOk.nil,IysOk.nil,XfOk.nil⟩ (fun _=>Zp)) XsOk.nil),ItsOk.nil,YlOk.nil,IysOk.nil,XfOk.nil⟩ (Uw) fun d hp=>h d.1.1 d.1.2 d.2 hp
set_option maxHeartbeats 4000000 in
theorem ok_law03_TieWorsts:UY:=N0 fun hk lw bd x8=>by
 unfold ZQ;(try delta lI gD sT I64 Q1 pj8 pj4);have h9:([]:List (List UInt8)).length≤9223372036854775807:=by simp
 by_cases ct:Ql hk lw=0
 ·obtain⟨t1,t2,t3⟩:=Q34 ct;have l3:lw.length≤1000:=by omega
  have l6:lw.length≤1000000:=by omega
  cases cb:inI bd 1 24 with
  |false =>
   have e3:QH hk lw bd=3:=by unfold QH;rw[if_neg (by omega),if_pos cb]
   have eN:Yh hk lw bd=0:=by unfold Yh;rw[if_neg (by omega)]
   have eR:Z8 hk lw bd=0:=by unfold Z8;rw[if_neg (by omega)]
   simp[ct,cb,e3,eN,eR,l3,l6]
  |true =>
   have hb:1≤bd∧bd≤24:=by unfold inI at cb;simpa using cb
   rcases EN ct hb with⟨w1,w2⟩|⟨w1,w2,w3,w4,w5,w6⟩
   ·have eN:Yh hk lw bd=0:=by unfold Yh;rw[if_neg (by omega)]
    have eR:Z8 hk lw bd=0:=by unfold Z8;rw[if_neg (by omega)]
    simp[ct,cb,w1,w2,eN,eR,l3,l6,hb];intro _ a b;omega
   ·obtain⟨p1,p2⟩:=D5 ct w4;have n0:Yh hk lw bd≠0:=by omega
    simp[ct,cb,w1,←w3,n0,w5,w6,p1,p2,l3,l6,hb];intro _ a b;have hp:=KE t1.1 t1.2;have sh:WO .i64 1 hk=2 ^ hk.toNat:=GQ (by omega) (by omega);have aN:inI (Z8 hk lw bd) 0 (2 ^ hk.toNat-1)=true:=by unfold inI;rw[decide_eq_true w4.1,decide_eq_true (by omega)];rfl
    have pl:(Jz lw (Z8 hk lw bd)).length=lw.length:=by simp[Jz]
    rw[sh];refine⟨⟨a,by omega⟩,by rw[Ab];omega,by omega,by rw[Q7];omega,by rw[Q7];omega,fun _=>⟨t1,w4.1,by omega⟩,aN,fun _=>by omega⟩
 ·have eE:QH hk lw bd=Ql hk lw:=by unfold QH;rw[if_pos ct]
  have eN:Yh hk lw bd=0:=by unfold Yh;rw[if_neg (by omega)]
  have eR:Z8 hk lw bd=0:=by unfold Z8;rw[if_neg (by omega)]
  simp[ct,eE,eN,eR];intro hl;simp[NP] at hl;omega
end Go.Proofs.Tryz