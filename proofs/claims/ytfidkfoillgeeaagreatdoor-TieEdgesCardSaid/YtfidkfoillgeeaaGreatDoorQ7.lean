/- A framework for walks, contracts of functions, and their proofs: part 5, memos. -/
import Derived.ProofKit
import Derived.OpenShut
import Derived.LaidMore
import Derived.Carry
import Derived.Lib.SmallJoins
import Derived.Deep.Slices
import Derived.Test.YtfidkfoillgeeaaGreatDoorQ5
noncomputable section
set_option linter.unusedVariables false
set_option maxRecDepth 100000
namespace Go.Proofs.Tryz
open Go Go.V
def Z3h:List (Option FEnt):=[
 none,
 none,
 some (.code c2 [] 1),
 some (.code c3 [.tmp 4] 113),
 some (.code c4 [.tmp 4] 298),
 some (.code c5 [.tmp 4] 185),
 some (.code c6 [.tmp 2] 33),
 some (.code c7 [.tmp 6] 15),
 some (.code c8 [.tmp 6] 35),
 some (.code c9 [.tmp 0] 239),
 some (.code c10 [.cell 2 true 2] 10),
 some (.code c11 [.tmp 4,.tmp 5,.tmp 6] 40),
 some (.code c12 [.tmp 4] 38),
 some (.code c13 [.tmp 4] 31),
 some (.code c14 [.tmp 6] 22),
 some (.code c15 [.tmp 2] 22),
 some (.code c16 [.tmp 4] 46),
 some (.code c17 [.cell 4 true 2] 8),
 some (.code c18 [.cell 2 true 2] 48),
 some (.code c19 [.cell 2 true 2] 51),
 some (.code c20 [.cell 4 true 2,.tmp 5] 48),
 some (.code c21 [.tmp 2,.tmp 3] 39),
 some (.code c22 [.tmp 4,.tmp 5] 43),
 some (.code c23 [.cell 2 true 2] 10),
 some (.code c24 [.tmp 6] 25),
 some (.code c25 [.tmp 2] 55),
 some (.code c26 [.tmp 2,.tmp 3] 37),
 some (.code c27 [.cell 4 true 2,.tmp 5,.tmp 6] 78),
 some (.code c28 [.cell 8 true 4] 14),
 some (.codeJ c29 [.cell 6 true 2,.tmp 7,.tmp 8] 84),
 some (.code c30 [.cell 6 false 1,.tmp 7] 49),
 some (.code c31 [.cell 6 false 1,.tmp 7] 42),
 some (.code c32 [.cell 4 true 2,.tmp 5] 33),
 some (.code c33 [.tmp 4,.tmp 5,.tmp 6,.tmp 7] 30),
 some (.code c34 [.cell 2 true 2,.cell 3 true 2,.tmp 4] 20),
 some (.codeJ c35 [.tmp 2,.tmp 3] 30),
 some (.code c36 [.tmp 4] 28),
 some (.code c37 [.tmp 2] 27),
 some (.code c38 [.tmp 6] 11),
 some (.code c39 [.cell 4 true 2] 59),
 some (.code c40 [.tmp 2,.cell 3 true 2] 47),
 some (.code c41 [.tmp 4] 22),
 some (.code c42 [.tmp 4] 56),
 some (.code c43 [.tmp 4] 50),
 some (.code c44 [.tmp 2] 25),
 some (.code c45 [.tmp 2] 36),
 some (.code c46 [.tmp 4] 26),
 some (.code c47 [.tmp 2] 28),
 some (.code c48 [.tmp 4] 22),
 some (.code c49 [.tmp 5] 23),
 some (.code c50 [.tmp 4] 48),
 some (.code c51 [.tmp 2] 32),
 some (.code c52 [.tmp 6] 11),
 some (.code c53 [.tmp 2,.tmp 3] 102),
 some (.code c54 [] 64),
 some (.code c55 [.tmp 4] 21),
 some (.code c56 [.tmp 4] 16),
 some (.code c57 [.tmp 4,.tmp 5,.tmp 6,.tmp 7] 47),
 some (.code c58 [.cell 4 true 2] 47),
 some (.code c59 [.cell 2 true 2,.tmp 3] 61),
 some (.code c60 [.tmp 2] 17),
 some (.code c61 [] 11),
 some (.code c62 [.tmp 4] 19),
 some (.code c63 [.tmp 4] 9),
 some (.code c64 [.tmp 4] 13),
 some (.code c65 [.tmp 6] 36),
 some (.code c66 [.tmp 2] 20),
 some (.code c67 [.tmp 4] 27),
 some (.code c68 [.tmp 4] 17),
 some (.code c69 [.tmp 2] 4),
 some (.code c70 [.tmp 6] 17),
 some (.code c71 [.tmp 2] 14),
 some (.code c72 [.tmp 4,.tmp 5] 30),
 some (.code c73 [.tmp 2] 5),
 some (.code c74 [.tmp 4] 6),
 some (.code c75 [.tmp 4] 13),
 some (.code c76 [.cell 4 true 4] 20),
 some (.code c77 [.tmp 6] 29),
 some (.code c78 [.tmp 4] 81),
 some (.code c79 [.tmp 2] 4),
 some (.code c80 [.cell 6 true 4,.tmp 7] 40),
 some (.code c81 [.tmp 3] 18),
 some (.code c82 [.tmp 4] 27),
 some (.code c83 [.tmp 4] 25),
 some (.code c84 [] 37),
 some (.code c85 [] 50),
 some (.code c86 [.tmp 4] 23),
 some (.code c87 [.tmp 4] 20),
 some (.code c88 [.tmp 2] 4),
 some (.code c89 [] 134),
 some (.code c90 [.tmp 2] 8),
 some (.code c91 [.tmp 4] 19),
 some (.code c92 [] 20),
 some (.code c93 [.tmp 4,.tmp 5] 17),
 some (.code c94 [.tmp 4,.tmp 5] 51),
 some (.code c95 [.tmp 4] 13),
 some (.code c96 [] 22),
 some (.code c97 [.tmp 3] 20),
 some (.code c98 [.tmp 3] 13),
 some (.code c99 [.tmp 4] 43),
 some (.code Z1t [.tmp 4] 9),
 some (.code Z2u [] 19),
 some (.code Z21 [] 49),
 some (.code Z2d [] 56),
 some (.code Z1k [] 65),
 some (.code Z1l [.tmp 6,.tmp 7] 57),
 some (.code Z1q [] 32),
 some (.code Z2j [.tmp 6] 133),
 some (.code Z2h [.tmp 4] 17),
 some (.code Z1v [.tmp 8] 84),
 some (.code Z2b [.tmp 8,.tmp 9] 168),
 some (.code Z1w [.tmp 2] 19),
 some (.code Z29 [.tmp 2] 25),
 some .same,
 some (.code Z2f [.tmp 4] 17),
 some (.code Z11 [.tmp 4] 23),
 some (.code Z15 [.cell 2 true 256,.tmp 3] 21),
 some (.code Z2c [.tmp 4] 16),
 some (.code Z2s [.tmp 4] 22),
 some (.code Z1h [.tmp 4] 23),
 some (.code Z1z [.tmp 4] 34),
 some (.code Z2e [.tmp 4] 19),
 some (.code Z1r [] 76),
 some (.code Z2m [.tmp 2] 7),
 some (.code Z23 [.tmp 2] 33),
 some (.code Z2g [.tmp 6] 15),
 some (.code Z1j [.tmp 10] 36),
 some (.code Z1d [.tmp 2] 6),
 some (.code Z25 [.tmp 4] 10),
 some (.code Z2r [.tmp 2,.tmp 3] 19),
 some (.code Z1a [.tmp 4] 9),
 some (.code Z20 [.tmp 2,.tmp 3] 51),
 some (.code Z2n [.tmp 8,.tmp 9] 28),
 some (.code Z19 [.tmp 2,.tmp 3] 117),
 some (.code Z2o [.tmp 4] 187),
 some (.code Z2k [.tmp 2] 6),
 some (.code Z14 [.tmp 4] 8),
 some (.code Z1n [.tmp 2] 17),
 some (.code Z2p [.tmp 2] 6),
 none,
 some (.code Z1u [.tmp 4] 8)]
def Z41:Tab:=fun f=>(Z3h[f]?).join
theorem Q5p:EntsOk Tryz.prog 0 Z3h:=⟨trivial,trivial,Z37,Z2x,fun4,Z3o,Z30,Z34,Z3f,Z12,Q7o,Q5u,Q9o,Z0o,Q8k,Q98,Q9q,Q8f,Q7u,Q7p,Q6a,Q68,Q7a,Q72,Q6u,Q69,Q7r,Q7n,Q7g,Q6q,Z0j,Z0e,Z0f,Q9n,Z0q,Z0p,Z0b,Q7t,Q50,Q79,Q6s,Q9a,Q9j,Z0c,Z0d,Q6y,Q6g,Q60,Q5h,Q6c,Q75,Q5c,Q5a,Q6l,Q96,Q9x,Q95,Q9y,Q9r,Q90,Z09,Q9b,Q9k,Q5x,Q6b,Q4y,Z00,fun67,Q7v,Q7b,Q7z,Q5o,Q5n,Q58,Q59,Q7e,Q5s,Q7d,Q6e,Q6k,Q5y,Q9t,Q8e,Q9e,Q8t,Z07,Q8v,Q8x,Q9l,Q9w,Q8j,Q6n,Q70,Q65,Q77,Q6i,Q5m,Q9u,Z01,Q9f,Q33,Q2z,Q41,Q44,Q4p,Q4r,Q4a,Q39,Q4j,Q3z,Q4w,Q3b,Q3c,R1,Q4k,Q4e,Q4x,Q4o,Q46,Q3p,Q31,Q3s,Q4c,Q4q,Q40,Q3m,Q4s,Q47,Q4t,Q43,Q3r,Q3k,Q4h,Q35,Q32,Q3j,Q3t,Q3y,Q3o,trivial,Q4d,trivial⟩
theorem Qw:TabOk Tryz.prog Z41:=Az Q5p
def OV:Memo:=⟨[.agg #[.int .i64 4,.slice (some ⟨0,0,none⟩) 1 1],.slice (some ⟨1,0,none⟩) 1 1,.int .i64 2],[⟨[.int .i64 0],⟨1,3⟩,true⟩,⟨[.int .i64 0],⟨1,3⟩,true⟩],.tuple #[.agg #[.int .i64 4,.slice (some ⟨2,0,none⟩) 1 1],.int .i64 2,.int .i64 0],[⟨[.int .i64 3],⟨1,3⟩,false⟩]⟩
theorem Fw:QM Tryz.prog 29 OV:=Qo mixed Qw 200 (by kernel_rfl) (by kernel_rfl)
def Ol:Memo:=⟨[.agg #[.int .i64 4,.slice (some ⟨0,0,none⟩) 1 1],.slice (some ⟨1,0,none⟩) 1 1,.int .i64 2],[⟨[.int .i64 1],⟨1,3⟩,true⟩,⟨[.int .i64 1],⟨1,3⟩,true⟩],.tuple #[.agg #[.int .i64 4,.slice (some ⟨2,0,none⟩) 1 1],.int .i64 1,.int .i64 0],[⟨[.int .i64 3],⟨1,3⟩,false⟩]⟩
theorem Ez:QM Tryz.prog 29 Ol:=Qo mixed Qw 200 (by kernel_rfl) (by kernel_rfl)
def IC:Memo:=⟨[.agg #[.int .i64 4,.slice (some ⟨0,0,none⟩) 1 1],.slice (some ⟨1,0,none⟩) 1 1,.int .i64 2],[⟨[.int .i64 2],⟨1,3⟩,true⟩,⟨[.int .i64 2],⟨1,3⟩,true⟩],.tuple #[.agg #[.int .i64 4,.slice (some ⟨2,0,none⟩) 1 1],.int .i64 1,.int .i64 0],[⟨[.int .i64 3],⟨1,3⟩,false⟩]⟩
theorem Fz:QM Tryz.prog 29 IC:=Qo mixed Qw 200 (by kernel_rfl) (by kernel_rfl)
def Io:Memo:=⟨[.agg #[.int .i64 4,.slice (some ⟨0,0,none⟩) 1 1],.slice (some ⟨1,0,none⟩) 1 1,.int .i64 2],[⟨[.int .i64 3],⟨1,3⟩,true⟩,⟨[.int .i64 3],⟨1,3⟩,true⟩],.tuple #[.agg #[.int .i64 4,.slice (some ⟨2,0,none⟩) 1 1],.int .i64 0,.int .i64 0],[⟨[.int .i64 3],⟨1,3⟩,false⟩]⟩
theorem F6:QM Tryz.prog 29 Io:=Qo mixed Qw 200 (by kernel_rfl) (by kernel_rfl)
def Q0c:Memo:=⟨[.agg #[.int .i64 4,.slice (some ⟨0,0,none⟩) 1 1],.slice (some ⟨1,0,none⟩) 1 1,.int .i64 2],[⟨[.int .i64 4],⟨1,3⟩,true⟩,⟨[.int .i64 4],⟨1,3⟩,true⟩],.tuple #[.agg #[.int .i64 4,.slice (some ⟨2,0,none⟩) 1 1],.int .i64 1,.int .i64 0],[⟨[.int .i64 5],⟨1,3⟩,false⟩]⟩
theorem Ib:QM Tryz.prog 29 Q0c:=Qo mixed Qw 200 (by kernel_rfl) (by kernel_rfl)
def Ob:Memo:=⟨[.agg #[.int .i64 4,.slice (some ⟨0,0,none⟩) 1 1],.slice (some ⟨1,0,none⟩) 1 1,.int .i64 2],[⟨[.int .i64 5],⟨1,3⟩,true⟩,⟨[.int .i64 5],⟨1,3⟩,true⟩],.tuple #[.agg #[.int .i64 4,.slice (some ⟨2,0,none⟩) 1 1],.int .i64 0,.int .i64 0],[⟨[.int .i64 5],⟨1,3⟩,false⟩]⟩
theorem FE:QM Tryz.prog 29 Ob:=Qo mixed Qw 200 (by kernel_rfl) (by kernel_rfl)
def Iy:Memo:=⟨[.agg #[.int .i64 4,.slice (some ⟨0,0,none⟩) 1 1],.slice (some ⟨1,0,none⟩) 1 1,.int .i64 2],[⟨[.int .i64 6],⟨1,3⟩,true⟩,⟨[.int .i64 6],⟨1,3⟩,true⟩],.tuple #[.agg #[.int .i64 4,.slice (some ⟨2,0,none⟩) 1 1],.int .i64 0,.int .i64 0],[⟨[.int .i64 6],⟨1,3⟩,false⟩]⟩
theorem Fv:QM Tryz.prog 29 Iy:=Qo mixed Qw 200 (by kernel_rfl) (by kernel_rfl)
def Q08:Memo:=⟨[.agg #[.int .i64 4,.slice (some ⟨0,0,none⟩) 1 1],.slice (some ⟨1,0,none⟩) 1 1,.int .i64 2],[⟨[.int .i64 7],⟨1,3⟩,true⟩,⟨[.int .i64 7],⟨1,3⟩,true⟩],.tuple #[.agg #[.int .i64 0,.slice none 0 0],.int .i64 0,.int .i64 9],[]⟩
theorem Fm:QM Tryz.prog 29 Q08:=Qo mixed Qw 200 (by kernel_rfl) (by kernel_rfl)
def Q0n:Memo:=⟨[.agg #[.int .i64 4,.slice (some ⟨0,0,none⟩) 1 1],.slice (some ⟨1,0,none⟩) 1 1,.int .i64 2],[⟨[.int .i64 8],⟨1,3⟩,true⟩,⟨[.int .i64 8],⟨1,3⟩,true⟩],.tuple #[.agg #[.int .i64 4,.slice (some ⟨2,0,none⟩) 1 1],.int .i64 1,.int .i64 0],[⟨[.int .i64 9],⟨1,3⟩,false⟩]⟩
theorem Fc:QM Tryz.prog 29 Q0n:=Qo mixed Qw 200 (by kernel_rfl) (by kernel_rfl)
def OA:Memo:=⟨[.agg #[.int .i64 4,.slice (some ⟨0,0,none⟩) 1 1],.slice (some ⟨1,0,none⟩) 1 1,.int .i64 2],[⟨[.int .i64 9],⟨1,3⟩,true⟩,⟨[.int .i64 9],⟨1,3⟩,true⟩],.tuple #[.agg #[.int .i64 4,.slice (some ⟨2,0,none⟩) 1 1],.int .i64 0,.int .i64 0],[⟨[.int .i64 9],⟨1,3⟩,false⟩]⟩
theorem E_:QM Tryz.prog 29 OA:=Qo mixed Qw 200 (by kernel_rfl) (by kernel_rfl)
def AH:Memo:=⟨[.agg #[.int .i64 4,.slice (some ⟨0,0,none⟩) 1 1],.slice (some ⟨1,0,none⟩) 1 1,.int .i64 2],[⟨[.int .i64 10],⟨1,3⟩,true⟩,⟨[.int .i64 10],⟨1,3⟩,true⟩],.tuple #[.agg #[.int .i64 4,.slice (some ⟨2,0,none⟩) 1 1],.int .i64 0,.int .i64 0],[⟨[.int .i64 10],⟨1,3⟩,false⟩]⟩
theorem CC:QM Tryz.prog 29 AH:=Qo mixed Qw 200 (by kernel_rfl) (by kernel_rfl)
def Et:Memo:=⟨[.agg #[.int .i64 4,.slice (some ⟨0,0,none⟩) 1 1],.slice (some ⟨1,0,none⟩) 1 1,.int .i64 2],[⟨[.int .i64 11],⟨1,3⟩,true⟩,⟨[.int .i64 11],⟨1,3⟩,true⟩],.tuple #[.agg #[.int .i64 0,.slice none 0 0],.int .i64 0,.int .i64 9],[]⟩
theorem LZ:QM Tryz.prog 29 Et:=Qo mixed Qw 200 (by kernel_rfl) (by kernel_rfl)
def AM:Memo:=⟨[.agg #[.int .i64 4,.slice (some ⟨0,0,none⟩) 1 1],.slice (some ⟨1,0,none⟩) 1 1,.int .i64 2],[⟨[.int .i64 12],⟨1,3⟩,true⟩,⟨[.int .i64 12],⟨1,3⟩,true⟩],.tuple #[.agg #[.int .i64 4,.slice (some ⟨2,0,none⟩) 1 1],.int .i64 0,.int .i64 0],[⟨[.int .i64 12],⟨1,3⟩,false⟩]⟩
theorem Cl:QM Tryz.prog 29 AM:=Qo mixed Qw 200 (by kernel_rfl) (by kernel_rfl)
def Ab:Memo:=⟨[.agg #[.int .i64 4,.slice (some ⟨0,0,none⟩) 1 1],.slice (some ⟨1,0,none⟩) 1 1,.int .i64 2],[⟨[.int .i64 13],⟨1,3⟩,true⟩,⟨[.int .i64 13],⟨1,3⟩,true⟩],.tuple #[.agg #[.int .i64 0,.slice none 0 0],.int .i64 0,.int .i64 9],[]⟩
theorem CD:QM Tryz.prog 29 Ab:=Qo mixed Qw 200 (by kernel_rfl) (by kernel_rfl)
def AA:Memo:=⟨[.agg #[.int .i64 4,.slice (some ⟨0,0,none⟩) 1 1],.slice (some ⟨1,0,none⟩) 1 1,.int .i64 2],[⟨[.int .i64 14],⟨1,3⟩,true⟩,⟨[.int .i64 14],⟨1,3⟩,true⟩],.tuple #[.agg #[.int .i64 0,.slice none 0 0],.int .i64 0,.int .i64 9],[]⟩
theorem CI:QM Tryz.prog 29 AA:=Qo mixed Qw 200 (by kernel_rfl) (by kernel_rfl)
def Aj:Memo:=⟨[.agg #[.int .i64 4,.slice (some ⟨0,0,none⟩) 1 1],.slice (some ⟨1,0,none⟩) 1 1,.int .i64 2],[⟨[.int .i64 15],⟨1,3⟩,true⟩,⟨[.int .i64 15],⟨1,3⟩,true⟩],.tuple #[.agg #[.int .i64 0,.slice none 0 0],.int .i64 0,.int .i64 9],[]⟩
theorem CX:QM Tryz.prog 29 Aj:=Qo mixed Qw 200 (by kernel_rfl) (by kernel_rfl)
def OZ:Memo:=⟨[.agg #[.int .i64 4,.slice (some ⟨0,0,none⟩) 1 1],.slice (some ⟨1,0,none⟩) 1 1,.int .i64 3],[⟨[.int .i64 0],⟨1,3⟩,true⟩,⟨[.int .i64 0],⟨1,3⟩,true⟩],.tuple #[.agg #[.int .i64 4,.slice (some ⟨2,0,none⟩) 1 1],.int .i64 1,.int .i64 0],[⟨[.int .i64 1],⟨1,3⟩,false⟩]⟩
theorem I9:QM Tryz.prog 29 OZ:=Qo mixed Qw 200 (by kernel_rfl) (by kernel_rfl)
def O2:Memo:=⟨[.agg #[.int .i64 4,.slice (some ⟨0,0,none⟩) 1 1],.slice (some ⟨1,0,none⟩) 1 1,.int .i64 3],[⟨[.int .i64 1],⟨1,3⟩,true⟩,⟨[.int .i64 1],⟨1,3⟩,true⟩],.tuple #[.agg #[.int .i64 4,.slice (some ⟨2,0,none⟩) 1 1],.int .i64 0,.int .i64 0],[⟨[.int .i64 1],⟨1,3⟩,false⟩]⟩
theorem FJ:QM Tryz.prog 29 O2:=Qo mixed Qw 200 (by kernel_rfl) (by kernel_rfl)
def Oh:Memo:=⟨[.agg #[.int .i64 4,.slice (some ⟨0,0,none⟩) 1 1],.slice (some ⟨1,0,none⟩) 1 1,.int .i64 3],[⟨[.int .i64 2],⟨1,3⟩,true⟩,⟨[.int .i64 2],⟨1,3⟩,true⟩],.tuple #[.agg #[.int .i64 4,.slice (some ⟨2,0,none⟩) 1 1],.int .i64 0,.int .i64 0],[⟨[.int .i64 2],⟨1,3⟩,false⟩]⟩
theorem F4:QM Tryz.prog 29 Oh:=Qo mixed Qw 200 (by kernel_rfl) (by kernel_rfl)
def IT:Memo:=⟨[.agg #[.int .i64 4,.slice (some ⟨0,0,none⟩) 1 1],.slice (some ⟨1,0,none⟩) 1 1,.int .i64 3],[⟨[.int .i64 3],⟨1,3⟩,true⟩,⟨[.int .i64 3],⟨1,3⟩,true⟩],.tuple #[.agg #[.int .i64 4,.slice (some ⟨2,0,none⟩) 1 1],.int .i64 0,.int .i64 0],[⟨[.int .i64 3],⟨1,3⟩,false⟩]⟩
theorem F3:QM Tryz.prog 29 IT:=Qo mixed Qw 200 (by kernel_rfl) (by kernel_rfl)
def O8:Memo:=⟨[.agg #[.int .i64 4,.slice (some ⟨0,0,none⟩) 1 1],.slice (some ⟨1,0,none⟩) 1 1,.int .i64 3],[⟨[.int .i64 4],⟨1,3⟩,true⟩,⟨[.int .i64 4],⟨1,3⟩,true⟩],.tuple #[.agg #[.int .i64 4,.slice (some ⟨2,0,none⟩) 1 1],.int .i64 0,.int .i64 0],[⟨[.int .i64 4],⟨1,3⟩,false⟩]⟩
theorem Ev:QM Tryz.prog 29 O8:=Qo mixed Qw 200 (by kernel_rfl) (by kernel_rfl)
def Ov:Memo:=⟨[.agg #[.int .i64 4,.slice (some ⟨0,0,none⟩) 1 1],.slice (some ⟨1,0,none⟩) 1 1,.int .i64 3],[⟨[.int .i64 5],⟨1,3⟩,true⟩,⟨[.int .i64 5],⟨1,3⟩,true⟩],.tuple #[.agg #[.int .i64 4,.slice (some ⟨2,0,none⟩) 1 1],.int .i64 0,.int .i64 0],[⟨[.int .i64 5],⟨1,3⟩,false⟩]⟩
theorem FM:QM Tryz.prog 29 Ov:=Qo mixed Qw 200 (by kernel_rfl) (by kernel_rfl)
def IK:Memo:=⟨[.agg #[.int .i64 4,.slice (some ⟨0,0,none⟩) 1 1],.slice (some ⟨1,0,none⟩) 1 1,.int .i64 3],[⟨[.int .i64 6],⟨1,3⟩,true⟩,⟨[.int .i64 6],⟨1,3⟩,true⟩],.tuple #[.agg #[.int .i64 4,.slice (some ⟨2,0,none⟩) 1 1],.int .i64 0,.int .i64 0],[⟨[.int .i64 6],⟨1,3⟩,false⟩]⟩
theorem FO:QM Tryz.prog 29 IK:=Qo mixed Qw 200 (by kernel_rfl) (by kernel_rfl)
def IG:Memo:=⟨[.agg #[.int .i64 4,.slice (some ⟨0,0,none⟩) 1 1],.slice (some ⟨1,0,none⟩) 1 1,.int .i64 3],[⟨[.int .i64 7],⟨1,3⟩,true⟩,⟨[.int .i64 7],⟨1,3⟩,true⟩],.tuple #[.agg #[.int .i64 4,.slice (some ⟨2,0,none⟩) 1 1],.int .i64 0,.int .i64 0],[⟨[.int .i64 7],⟨1,3⟩,false⟩]⟩
theorem FA:QM Tryz.prog 29 IG:=Qo mixed Qw 200 (by kernel_rfl) (by kernel_rfl)
def IV:Memo:=⟨[.agg #[.int .i64 4,.slice (some ⟨0,0,none⟩) 1 1],.slice (some ⟨1,0,none⟩) 1 1,.int .i64 3],[⟨[.int .i64 8],⟨1,3⟩,true⟩,⟨[.int .i64 8],⟨1,3⟩,true⟩],.tuple #[.agg #[.int .i64 4,.slice (some ⟨2,0,none⟩) 1 1],.int .i64 0,.int .i64 0],[⟨[.int .i64 8],⟨1,3⟩,false⟩]⟩
theorem ED:QM Tryz.prog 29 IV:=Qo mixed Qw 200 (by kernel_rfl) (by kernel_rfl)
def OD:Memo:=⟨[.agg #[.int .i64 4,.slice (some ⟨0,0,none⟩) 1 1],.slice (some ⟨1,0,none⟩) 1 1,.int .i64 3],[⟨[.int .i64 9],⟨1,3⟩,true⟩,⟨[.int .i64 9],⟨1,3⟩,true⟩],.tuple #[.agg #[.int .i64 4,.slice (some ⟨2,0,none⟩) 1 1],.int .i64 0,.int .i64 0],[⟨[.int .i64 9],⟨1,3⟩,false⟩]⟩
theorem EE:QM Tryz.prog 29 OD:=Qo mixed Qw 200 (by kernel_rfl) (by kernel_rfl)
def AQ:Memo:=⟨[.agg #[.int .i64 4,.slice (some ⟨0,0,none⟩) 1 1],.slice (some ⟨1,0,none⟩) 1 1,.int .i64 3],[⟨[.int .i64 10],⟨1,3⟩,true⟩,⟨[.int .i64 10],⟨1,3⟩,true⟩],.tuple #[.agg #[.int .i64 4,.slice (some ⟨2,0,none⟩) 1 1],.int .i64 0,.int .i64 0],[⟨[.int .i64 10],⟨1,3⟩,false⟩]⟩
theorem CY:QM Tryz.prog 29 AQ:=Qo mixed Qw 200 (by kernel_rfl) (by kernel_rfl)
def AV:Memo:=⟨[.agg #[.int .i64 4,.slice (some ⟨0,0,none⟩) 1 1],.slice (some ⟨1,0,none⟩) 1 1,.int .i64 3],[⟨[.int .i64 11],⟨1,3⟩,true⟩,⟨[.int .i64 11],⟨1,3⟩,true⟩],.tuple #[.agg #[.int .i64 4,.slice (some ⟨2,0,none⟩) 1 1],.int .i64 0,.int .i64 0],[⟨[.int .i64 11],⟨1,3⟩,false⟩]⟩
theorem CG:QM Tryz.prog 29 AV:=Qo mixed Qw 200 (by kernel_rfl) (by kernel_rfl)
def Ed:Memo:=⟨[.agg #[.int .i64 4,.slice (some ⟨0,0,none⟩) 1 1],.slice (some ⟨1,0,none⟩) 1 1,.int .i64 3],[⟨[.int .i64 12],⟨1,3⟩,true⟩,⟨[.int .i64 12],⟨1,3⟩,true⟩],.tuple #[.agg #[.int .i64 4,.slice (some ⟨2,0,none⟩) 1 1],.int .i64 0,.int .i64 0],[⟨[.int .i64 12],⟨1,3⟩,false⟩]⟩
theorem CW:QM Tryz.prog 29 Ed:=Qo mixed Qw 200 (by kernel_rfl) (by kernel_rfl)
def E5:Memo:=⟨[.agg #[.int .i64 4,.slice (some ⟨0,0,none⟩) 1 1],.slice (some ⟨1,0,none⟩) 1 1,.int .i64 3],[⟨[.int .i64 13],⟨1,3⟩,true⟩,⟨[.int .i64 13],⟨1,3⟩,true⟩],.tuple #[.agg #[.int .i64 4,.slice (some ⟨2,0,none⟩) 1 1],.int .i64 0,.int .i64 0],[⟨[.int .i64 13],⟨1,3⟩,false⟩]⟩
theorem C3:QM Tryz.prog 29 E5:=Qo mixed Qw 200 (by kernel_rfl) (by kernel_rfl)
def Ek:Memo:=⟨[.agg #[.int .i64 4,.slice (some ⟨0,0,none⟩) 1 1],.slice (some ⟨1,0,none⟩) 1 1,.int .i64 3],[⟨[.int .i64 14],⟨1,3⟩,true⟩,⟨[.int .i64 14],⟨1,3⟩,true⟩],.tuple #[.agg #[.int .i64 4,.slice (some ⟨2,0,none⟩) 1 1],.int .i64 0,.int .i64 0],[⟨[.int .i64 14],⟨1,3⟩,false⟩]⟩
theorem Ca:QM Tryz.prog 29 Ek:=Qo mixed Qw 200 (by kernel_rfl) (by kernel_rfl)
def Ag:Memo:=⟨[.agg #[.int .i64 4,.slice (some ⟨0,0,none⟩) 1 1],.slice (some ⟨1,0,none⟩) 1 1,.int .i64 3],[⟨[.int .i64 15],⟨1,3⟩,true⟩,⟨[.int .i64 15],⟨1,3⟩,true⟩],.tuple #[.agg #[.int .i64 0,.slice none 0 0],.int .i64 0,.int .i64 9],[]⟩
theorem Ck:QM Tryz.prog 29 Ag:=Qo mixed Qw 200 (by kernel_rfl) (by kernel_rfl)
def Q5f:List Memo:=[OV,Ol,IC,Io,Q0c,Ob,Iy,Q08,Q0n,OA,AH,Et,AM,Ab,AA,Aj,OZ,O2,Oh,IT,O8,Ov,IK,IG,IV,OD,AQ,AV,Ed,E5,Ek,Ag]
theorem Q2i:∀ m∈Q5f,QM Tryz.prog 29 m:=by
 intro m hm;simp only[Q5f,List.mem_cons,List.not_mem_nil,or_false] at hm;rcases hm with rfl|rfl|rfl|rfl|rfl|rfl|rfl|rfl|rfl|rfl|rfl|rfl|rfl|rfl|rfl|rfl|rfl|rfl|rfl|rfl|rfl|rfl|rfl|rfl|rfl|rfl|rfl|rfl|rfl|rfl|rfl|rfl
 .exact Fw
 .exact Ez
 .exact Fz
 .exact F6
 .exact Ib
 .exact FE
 .exact Fv
 .exact Fm
 .exact Fc
 .exact E_
 .exact CC
 .exact LZ
 .exact Cl
 .exact CD
 .exact CI
 .exact CX
 .exact I9
 .exact FJ
 .exact F4
 .exact F3
 .exact Ev
 .exact FM
 .exact FO
 .exact FA
 .exact ED
 .exact EE
 .exact CY
 .exact CG
 .exact CW
 .exact C3
 .exact Ca
 .exact Ck
def Z3c:List (Option FEnt):=[
 none,
 none,
 some (.code c2 [] 1),
 some (.code c3 [.tmp 4] 113),
 some (.code c4 [.tmp 4] 298),
 some (.code c5 [.tmp 4] 185),
 some (.code c6 [.tmp 2] 33),
 some (.code c7 [.tmp 6] 15),
 some (.code c8 [.tmp 6] 35),
 some (.code c9 [.tmp 0] 239),
 some (.code c10 [.cell 2 true 2] 10),
 some (.code c11 [.tmp 4,.tmp 5,.tmp 6] 40),
 some (.code c12 [.tmp 4] 38),
 some (.code c13 [.tmp 4] 31),
 some (.code c14 [.tmp 6] 22),
 some (.code c15 [.tmp 2] 22),
 some (.code c16 [.tmp 4] 46),
 some (.code c17 [.cell 4 true 2] 8),
 some (.code c18 [.cell 2 true 2] 48),
 some (.code c19 [.cell 2 true 2] 51),
 some (.code c20 [.cell 4 true 2,.tmp 5] 48),
 some (.code c21 [.tmp 2,.tmp 3] 39),
 some (.code c22 [.tmp 4,.tmp 5] 43),
 some (.code c23 [.cell 2 true 2] 10),
 some (.code c24 [.tmp 6] 25),
 some (.code c25 [.tmp 2] 55),
 some (.code c26 [.tmp 2,.tmp 3] 37),
 some (.code c27 [.cell 4 true 2,.tmp 5,.tmp 6] 78),
 some (.code c28 [.cell 8 true 4] 14),
 some (.codeM c29 [.cell 6 true 2,.tmp 7,.tmp 8] 84 Q5f),
 some (.code c30 [.cell 6 false 1,.tmp 7] 49),
 some (.code c31 [.cell 6 false 1,.tmp 7] 42),
 some (.code c32 [.cell 4 true 2,.tmp 5] 33),
 some (.code c33 [.tmp 4,.tmp 5,.tmp 6,.tmp 7] 30),
 some (.code c34 [.cell 2 true 2,.cell 3 true 2,.tmp 4] 20),
 some (.codeJ c35 [.tmp 2,.tmp 3] 30),
 some (.code c36 [.tmp 4] 28),
 some (.code c37 [.tmp 2] 27),
 some (.code c38 [.tmp 6] 11),
 some (.code c39 [.cell 4 true 2] 59),
 some (.code c40 [.tmp 2,.cell 3 true 2] 47),
 some (.code c41 [.tmp 4] 22),
 some (.code c42 [.tmp 4] 56),
 some (.code c43 [.tmp 4] 50),
 some (.code c44 [.tmp 2] 25),
 some (.code c45 [.tmp 2] 36),
 some (.code c46 [.tmp 4] 26),
 some (.code c47 [.tmp 2] 28),
 some (.code c48 [.tmp 4] 22),
 some (.code c49 [.tmp 5] 23),
 some (.code c50 [.tmp 4] 48),
 some (.code c51 [.tmp 2] 32),
 some (.code c52 [.tmp 6] 11),
 some (.code c53 [.tmp 2,.tmp 3] 102),
 some (.code c54 [] 64),
 some (.code c55 [.tmp 4] 21),
 some (.code c56 [.tmp 4] 16),
 some (.code c57 [.tmp 4,.tmp 5,.tmp 6,.tmp 7] 47),
 some (.code c58 [.cell 4 true 2] 47),
 some (.code c59 [.cell 2 true 2,.tmp 3] 61),
 some (.code c60 [.tmp 2] 17),
 some (.code c61 [] 11),
 some (.code c62 [.tmp 4] 19),
 some (.code c63 [.tmp 4] 9),
 some (.code c64 [.tmp 4] 13),
 some (.code c65 [.tmp 6] 36),
 some (.code c66 [.tmp 2] 20),
 some (.code c67 [.tmp 4] 27),
 some (.code c68 [.tmp 4] 17),
 some (.code c69 [.tmp 2] 4),
 some (.code c70 [.tmp 6] 17),
 some (.code c71 [.tmp 2] 14),
 some (.code c72 [.tmp 4,.tmp 5] 30),
 some (.code c73 [.tmp 2] 5),
 some (.code c74 [.tmp 4] 6),
 some (.code c75 [.tmp 4] 13),
 some (.code c76 [.cell 4 true 4] 20),
 some (.code c77 [.tmp 6] 29),
 some (.code c78 [.tmp 4] 81),
 some (.code c79 [.tmp 2] 4),
 some (.code c80 [.cell 6 true 4,.tmp 7] 40),
 some (.code c81 [.tmp 3] 18),
 some (.code c82 [.tmp 4] 27),
 some (.code c83 [.tmp 4] 25),
 some (.code c84 [] 37),
 some (.code c85 [] 50),
 some (.code c86 [.tmp 4] 23),
 some (.code c87 [.tmp 4] 20),
 some (.code c88 [.tmp 2] 4),
 some (.code c89 [] 134),
 some (.code c90 [.tmp 2] 8),
 some (.code c91 [.tmp 4] 19),
 some (.code c92 [] 20),
 some (.code c93 [.tmp 4,.tmp 5] 17),
 some (.code c94 [.tmp 4,.tmp 5] 51),
 some (.code c95 [.tmp 4] 13),
 some (.code c96 [] 22),
 some (.code c97 [.tmp 3] 20),
 some (.code c98 [.tmp 3] 13),
 some (.code c99 [.tmp 4] 43),
 some (.code Z1t [.tmp 4] 9),
 some (.code Z2u [] 19),
 some (.code Z21 [] 49),
 some (.code Z2d [] 56),
 some (.code Z1k [] 65),
 some (.code Z1l [.tmp 6,.tmp 7] 57),
 some (.code Z1q [] 32),
 some (.code Z2j [.tmp 6] 133),
 some (.code Z2h [.tmp 4] 17),
 some (.code Z1v [.tmp 8] 84),
 some (.code Z2b [.tmp 8,.tmp 9] 168),
 some (.code Z1w [.tmp 2] 19),
 some (.code Z29 [.tmp 2] 25),
 some .same,
 some (.code Z2f [.tmp 4] 17),
 some (.code Z11 [.tmp 4] 23),
 some (.code Z15 [.cell 2 true 256,.tmp 3] 21),
 some (.code Z2c [.tmp 4] 16),
 some (.code Z2s [.tmp 4] 22),
 some (.code Z1h [.tmp 4] 23),
 some (.code Z1z [.tmp 4] 34),
 some (.code Z2e [.tmp 4] 19),
 some (.code Z1r [] 76),
 some (.code Z2m [.tmp 2] 7),
 some (.code Z23 [.tmp 2] 33),
 some (.code Z2g [.tmp 6] 15),
 some (.code Z1j [.tmp 10] 36),
 some (.code Z1d [.tmp 2] 6),
 some (.code Z25 [.tmp 4] 10),
 some (.code Z2r [.tmp 2,.tmp 3] 19),
 some (.code Z1a [.tmp 4] 9),
 some (.code Z20 [.tmp 2,.tmp 3] 51),
 some (.code Z2n [.tmp 8,.tmp 9] 28),
 some (.code Z19 [.tmp 2,.tmp 3] 117),
 some (.code Z2o [.tmp 4] 187),
 some (.code Z2k [.tmp 2] 6),
 some (.code Z14 [.tmp 4] 8),
 some (.code Z1n [.tmp 2] 17),
 some (.code Z2p [.tmp 2] 6),
 none,
 some (.code Z1u [.tmp 4] 8)]
def tab:Tab:=fun f=>(Z3c[f]?).join
theorem Q61:EntsOk Tryz.prog 0 Z3c:=⟨trivial,trivial,Z37,Z2x,fun4,Z3o,Z30,Z34,Z3f,Z12,Q7o,Q5u,Q9o,Z0o,Q8k,Q98,Q9q,Q8f,Q7u,Q7p,Q6a,Q68,Q7a,Q72,Q6u,Q69,Q7r,Q7n,Q7g,⟨Q6q,Q2i⟩,Z0j,Z0e,Z0f,Q9n,Z0q,Z0p,Z0b,Q7t,Q50,Q79,Q6s,Q9a,Q9j,Z0c,Z0d,Q6y,Q6g,Q60,Q5h,Q6c,Q75,Q5c,Q5a,Q6l,Q96,Q9x,Q95,Q9y,Q9r,Q90,Z09,Q9b,Q9k,Q5x,Q6b,Q4y,Z00,fun67,Q7v,Q7b,Q7z,Q5o,Q5n,Q58,Q59,Q7e,Q5s,Q7d,Q6e,Q6k,Q5y,Q9t,Q8e,Q9e,Q8t,Z07,Q8v,Q8x,Q9l,Q9w,Q8j,Q6n,Q70,Q65,Q77,Q6i,Q5m,Q9u,Z01,Q9f,Q33,Q2z,Q41,Q44,Q4p,Q4r,Q4a,Q39,Q4j,Q3z,Q4w,Q3b,Q3c,R1,Q4k,Q4e,Q4x,Q4o,Q46,Q3p,Q31,Q3s,Q4c,Q4q,Q40,Q3m,Q4s,Q47,Q4t,Q43,Q3r,Q3k,Q4h,Q35,Q32,Q3j,Q3t,Q3y,Q3o,trivial,Q4d,trivial⟩
theorem Q91:TabOk Tryz.prog tab:=Az Q61
end Go.Proofs.Tryz
