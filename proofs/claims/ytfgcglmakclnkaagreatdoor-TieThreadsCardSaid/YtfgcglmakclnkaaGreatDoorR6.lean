/- A framework for walks, contracts of functions, and their proofs: part 6. -/
import Derived.Test.YtfgcglmakclnkaaGreatDoorR5
namespace Go.Proofs.Tryz
open Go Go.V
def memo0_3:Memo:=⟨[.agg #[.int .i64 4,.slice (some ⟨0,0,none⟩) 1 1],.slice (some ⟨1,0,none⟩) 1 1,.int .i64 3],[⟨[.int .i64 0],⟨1,3⟩,true⟩,⟨[.int .i64 0],⟨1,3⟩,true⟩],.tuple #[.agg #[.int .i64 4,.slice (some ⟨2,0,none⟩) 1 1],.int .i64 1,.int .i64 0],[⟨[.int .i64 1],⟨1,3⟩,false⟩]⟩
theorem memo0_3_ok:MemoOk Tryz.prog 65 memo0_3:=memo_run mixed tabt_ok 200 (by kernel_rfl) (by kernel_rfl)
def memo1_3:Memo:=⟨[.agg #[.int .i64 4,.slice (some ⟨0,0,none⟩) 1 1],.slice (some ⟨1,0,none⟩) 1 1,.int .i64 3],[⟨[.int .i64 1],⟨1,3⟩,true⟩,⟨[.int .i64 1],⟨1,3⟩,true⟩],.tuple #[.agg #[.int .i64 4,.slice (some ⟨2,0,none⟩) 1 1],.int .i64 0,.int .i64 0],[⟨[.int .i64 1],⟨1,3⟩,false⟩]⟩
theorem memo1_3_ok:MemoOk Tryz.prog 65 memo1_3:=memo_run mixed tabt_ok 200 (by kernel_rfl) (by kernel_rfl)
def memo2_3:Memo:=⟨[.agg #[.int .i64 4,.slice (some ⟨0,0,none⟩) 1 1],.slice (some ⟨1,0,none⟩) 1 1,.int .i64 3],[⟨[.int .i64 2],⟨1,3⟩,true⟩,⟨[.int .i64 2],⟨1,3⟩,true⟩],.tuple #[.agg #[.int .i64 4,.slice (some ⟨2,0,none⟩) 1 1],.int .i64 0,.int .i64 0],[⟨[.int .i64 2],⟨1,3⟩,false⟩]⟩
theorem memo2_3_ok:MemoOk Tryz.prog 65 memo2_3:=memo_run mixed tabt_ok 200 (by kernel_rfl) (by kernel_rfl)
def memo3_3:Memo:=⟨[.agg #[.int .i64 4,.slice (some ⟨0,0,none⟩) 1 1],.slice (some ⟨1,0,none⟩) 1 1,.int .i64 3],[⟨[.int .i64 3],⟨1,3⟩,true⟩,⟨[.int .i64 3],⟨1,3⟩,true⟩],.tuple #[.agg #[.int .i64 4,.slice (some ⟨2,0,none⟩) 1 1],.int .i64 0,.int .i64 0],[⟨[.int .i64 3],⟨1,3⟩,false⟩]⟩
theorem memo3_3_ok:MemoOk Tryz.prog 65 memo3_3:=memo_run mixed tabt_ok 200 (by kernel_rfl) (by kernel_rfl)
def memo4_3:Memo:=⟨[.agg #[.int .i64 4,.slice (some ⟨0,0,none⟩) 1 1],.slice (some ⟨1,0,none⟩) 1 1,.int .i64 3],[⟨[.int .i64 4],⟨1,3⟩,true⟩,⟨[.int .i64 4],⟨1,3⟩,true⟩],.tuple #[.agg #[.int .i64 4,.slice (some ⟨2,0,none⟩) 1 1],.int .i64 0,.int .i64 0],[⟨[.int .i64 4],⟨1,3⟩,false⟩]⟩
theorem memo4_3_ok:MemoOk Tryz.prog 65 memo4_3:=memo_run mixed tabt_ok 200 (by kernel_rfl) (by kernel_rfl)
def memo5_3:Memo:=⟨[.agg #[.int .i64 4,.slice (some ⟨0,0,none⟩) 1 1],.slice (some ⟨1,0,none⟩) 1 1,.int .i64 3],[⟨[.int .i64 5],⟨1,3⟩,true⟩,⟨[.int .i64 5],⟨1,3⟩,true⟩],.tuple #[.agg #[.int .i64 4,.slice (some ⟨2,0,none⟩) 1 1],.int .i64 0,.int .i64 0],[⟨[.int .i64 5],⟨1,3⟩,false⟩]⟩
theorem memo5_3_ok:MemoOk Tryz.prog 65 memo5_3:=memo_run mixed tabt_ok 200 (by kernel_rfl) (by kernel_rfl)
def memo6_3:Memo:=⟨[.agg #[.int .i64 4,.slice (some ⟨0,0,none⟩) 1 1],.slice (some ⟨1,0,none⟩) 1 1,.int .i64 3],[⟨[.int .i64 6],⟨1,3⟩,true⟩,⟨[.int .i64 6],⟨1,3⟩,true⟩],.tuple #[.agg #[.int .i64 4,.slice (some ⟨2,0,none⟩) 1 1],.int .i64 0,.int .i64 0],[⟨[.int .i64 6],⟨1,3⟩,false⟩]⟩
theorem memo6_3_ok:MemoOk Tryz.prog 65 memo6_3:=memo_run mixed tabt_ok 200 (by kernel_rfl) (by kernel_rfl)
def memo7_3:Memo:=⟨[.agg #[.int .i64 4,.slice (some ⟨0,0,none⟩) 1 1],.slice (some ⟨1,0,none⟩) 1 1,.int .i64 3],[⟨[.int .i64 7],⟨1,3⟩,true⟩,⟨[.int .i64 7],⟨1,3⟩,true⟩],.tuple #[.agg #[.int .i64 4,.slice (some ⟨2,0,none⟩) 1 1],.int .i64 0,.int .i64 0],[⟨[.int .i64 7],⟨1,3⟩,false⟩]⟩
theorem memo7_3_ok:MemoOk Tryz.prog 65 memo7_3:=memo_run mixed tabt_ok 200 (by kernel_rfl) (by kernel_rfl)
def memo8_3:Memo:=⟨[.agg #[.int .i64 4,.slice (some ⟨0,0,none⟩) 1 1],.slice (some ⟨1,0,none⟩) 1 1,.int .i64 3],[⟨[.int .i64 8],⟨1,3⟩,true⟩,⟨[.int .i64 8],⟨1,3⟩,true⟩],.tuple #[.agg #[.int .i64 4,.slice (some ⟨2,0,none⟩) 1 1],.int .i64 0,.int .i64 0],[⟨[.int .i64 8],⟨1,3⟩,false⟩]⟩
theorem memo8_3_ok:MemoOk Tryz.prog 65 memo8_3:=memo_run mixed tabt_ok 200 (by kernel_rfl) (by kernel_rfl)
def memo9_3:Memo:=⟨[.agg #[.int .i64 4,.slice (some ⟨0,0,none⟩) 1 1],.slice (some ⟨1,0,none⟩) 1 1,.int .i64 3],[⟨[.int .i64 9],⟨1,3⟩,true⟩,⟨[.int .i64 9],⟨1,3⟩,true⟩],.tuple #[.agg #[.int .i64 4,.slice (some ⟨2,0,none⟩) 1 1],.int .i64 0,.int .i64 0],[⟨[.int .i64 9],⟨1,3⟩,false⟩]⟩
theorem memo9_3_ok:MemoOk Tryz.prog 65 memo9_3:=memo_run mixed tabt_ok 200 (by kernel_rfl) (by kernel_rfl)
def memo10_3:Memo:=⟨[.agg #[.int .i64 4,.slice (some ⟨0,0,none⟩) 1 1],.slice (some ⟨1,0,none⟩) 1 1,.int .i64 3],[⟨[.int .i64 10],⟨1,3⟩,true⟩,⟨[.int .i64 10],⟨1,3⟩,true⟩],.tuple #[.agg #[.int .i64 4,.slice (some ⟨2,0,none⟩) 1 1],.int .i64 0,.int .i64 0],[⟨[.int .i64 10],⟨1,3⟩,false⟩]⟩
theorem memo10_3_ok:MemoOk Tryz.prog 65 memo10_3:=memo_run mixed tabt_ok 200 (by kernel_rfl) (by kernel_rfl)
def memo11_3:Memo:=⟨[.agg #[.int .i64 4,.slice (some ⟨0,0,none⟩) 1 1],.slice (some ⟨1,0,none⟩) 1 1,.int .i64 3],[⟨[.int .i64 11],⟨1,3⟩,true⟩,⟨[.int .i64 11],⟨1,3⟩,true⟩],.tuple #[.agg #[.int .i64 4,.slice (some ⟨2,0,none⟩) 1 1],.int .i64 0,.int .i64 0],[⟨[.int .i64 11],⟨1,3⟩,false⟩]⟩
theorem memo11_3_ok:MemoOk Tryz.prog 65 memo11_3:=memo_run mixed tabt_ok 200 (by kernel_rfl) (by kernel_rfl)
def memo12_3:Memo:=⟨[.agg #[.int .i64 4,.slice (some ⟨0,0,none⟩) 1 1],.slice (some ⟨1,0,none⟩) 1 1,.int .i64 3],[⟨[.int .i64 12],⟨1,3⟩,true⟩,⟨[.int .i64 12],⟨1,3⟩,true⟩],.tuple #[.agg #[.int .i64 4,.slice (some ⟨2,0,none⟩) 1 1],.int .i64 0,.int .i64 0],[⟨[.int .i64 12],⟨1,3⟩,false⟩]⟩
theorem memo12_3_ok:MemoOk Tryz.prog 65 memo12_3:=memo_run mixed tabt_ok 200 (by kernel_rfl) (by kernel_rfl)
def memo13_3:Memo:=⟨[.agg #[.int .i64 4,.slice (some ⟨0,0,none⟩) 1 1],.slice (some ⟨1,0,none⟩) 1 1,.int .i64 3],[⟨[.int .i64 13],⟨1,3⟩,true⟩,⟨[.int .i64 13],⟨1,3⟩,true⟩],.tuple #[.agg #[.int .i64 4,.slice (some ⟨2,0,none⟩) 1 1],.int .i64 0,.int .i64 0],[⟨[.int .i64 13],⟨1,3⟩,false⟩]⟩
theorem memo13_3_ok:MemoOk Tryz.prog 65 memo13_3:=memo_run mixed tabt_ok 200 (by kernel_rfl) (by kernel_rfl)
def memo14_3:Memo:=⟨[.agg #[.int .i64 4,.slice (some ⟨0,0,none⟩) 1 1],.slice (some ⟨1,0,none⟩) 1 1,.int .i64 3],[⟨[.int .i64 14],⟨1,3⟩,true⟩,⟨[.int .i64 14],⟨1,3⟩,true⟩],.tuple #[.agg #[.int .i64 4,.slice (some ⟨2,0,none⟩) 1 1],.int .i64 0,.int .i64 0],[⟨[.int .i64 14],⟨1,3⟩,false⟩]⟩
theorem memo14_3_ok:MemoOk Tryz.prog 65 memo14_3:=memo_run mixed tabt_ok 200 (by kernel_rfl) (by kernel_rfl)
def memo15_3:Memo:=⟨[.agg #[.int .i64 4,.slice (some ⟨0,0,none⟩) 1 1],.slice (some ⟨1,0,none⟩) 1 1,.int .i64 3],[⟨[.int .i64 15],⟨1,3⟩,true⟩,⟨[.int .i64 15],⟨1,3⟩,true⟩],.tuple #[.agg #[.int .i64 0,.slice none 0 0],.int .i64 0,.int .i64 9],[]⟩
theorem memo15_3_ok:MemoOk Tryz.prog 65 memo15_3:=memo_run mixed tabt_ok 200 (by kernel_rfl) (by kernel_rfl)
end Go.Proofs.Tryz
namespace Go.Proofs.Tryz
open Go Go.V
def memos:List Memo:=[memo0_2,memo1_2,memo2_2,memo3_2,memo4_2,memo5_2,memo6_2,memo7_2,memo8_2,memo9_2,memo10_2,memo11_2,memo12_2,memo13_2,memo14_2,memo15_2,memo0_3,memo1_3,memo2_3,memo3_3,memo4_3,memo5_3,memo6_3,memo7_3,memo8_3,memo9_3,memo10_3,memo11_3,memo12_3,memo13_3,memo14_3,memo15_3]
theorem memos_ok:∀ m ∈ memos,MemoOk Tryz.prog 65 m:=by
 intro m hm
 simp only [memos,List.mem_cons,List.not_mem_nil,or_false] at hm
 rcases hm with rfl | rfl | rfl | rfl | rfl | rfl | rfl | rfl | rfl | rfl | rfl | rfl | rfl | rfl | rfl | rfl | rfl | rfl | rfl | rfl | rfl | rfl | rfl | rfl | rfl | rfl | rfl | rfl | rfl | rfl | rfl | rfl
 ·exact memo0_2_ok
 ·exact memo1_2_ok
 ·exact memo2_2_ok
 ·exact memo3_2_ok
 ·exact memo4_2_ok
 ·exact memo5_2_ok
 ·exact memo6_2_ok
 ·exact memo7_2_ok
 ·exact memo8_2_ok
 ·exact memo9_2_ok
 ·exact memo10_2_ok
 ·exact memo11_2_ok
 ·exact memo12_2_ok
 ·exact memo13_2_ok
 ·exact memo14_2_ok
 ·exact memo15_2_ok
 ·exact memo0_3_ok
 ·exact memo1_3_ok
 ·exact memo2_3_ok
 ·exact memo3_3_ok
 ·exact memo4_3_ok
 ·exact memo5_3_ok
 ·exact memo6_3_ok
 ·exact memo7_3_ok
 ·exact memo8_3_ok
 ·exact memo9_3_ok
 ·exact memo10_3_ok
 ·exact memo11_3_ok
 ·exact memo12_3_ok
 ·exact memo13_3_ok
 ·exact memo14_3_ok
 ·exact memo15_3_ok
noncomputable def tabL:List (Option FEnt):=[
 none,
 none,
 some (.code c2 [] 1),
 some (.code c3 [.tmp 4] 65),
 some (.code c4 [.tmp 6] 106),
 some (.code c5 [.tmp 4] 131),
 some (.code c6 [.tmp 2] 125),
 some (.code c7 [.tmp 4] 113),
 some (.code c8 [.tmp 4] 326),
 some (.code c9 [.tmp 4] 274),
 some (.code c10 [.tmp 4] 143),
 some (.code c11 [.tmp 4] 189),
 some (.code c12 [.tmp 4] 298),
 some (.code c13 [.tmp 4] 185),
 some (.code c14 [.tmp 0] 239),
 some (.code c15 [.cell 4 true 2,.tmp 5,.tmp 6] 78),
 some (.code c16 [.cell 4 true 2,.tmp 5,.tmp 6] 84),
 some (.code c17 [.tmp 4] 38),
 some (.code c18 [.tmp 6] 35),
 some (.code c19 [.cell 2 true 2] 10),
 some (.code c20 [.cell 2 true 2] 10),
 some (.code c21 [.tmp 4,.tmp 5] 43),
 some (.code c22 [.cell 6 false 1,.tmp 7] 49),
 some (.code c23 [.tmp 4] 28),
 some (.code c24 [.tmp 4] 22),
 some (.code c25 [.tmp 4] 46),
 some (.code c26 [.tmp 4] 26),
 some (.code c27 [.tmp 6] 15),
 some (.code c28 [.tmp 4] 26),
 some (.code c29 [.tmp 4] 50),
 some (.code c30 [.tmp 2] 6),
 some (.code c31 [.cell 4 true 2,.tmp 5] 33),
 some (.code c32 [.tmp 4,.tmp 5,.tmp 6,.tmp 7] 30),
 some (.code c33 [.tmp 2] 33),
 some (.code c34 [.tmp 4] 52),
 some (.code c35 [.tmp 2] 12),
 some (.code c36 [.cell 4 true 3,.tmp 5] 47),
 some (.code c37 [.cell 4 true 2] 48),
 some (.code c38 [.cell 2 true 2,.cell 3 true 2,.tmp 4] 20),
 some (.codeJ c39 [.tmp 2,.tmp 3] 30),
 some (.code c40 [.tmp 2] 35),
 some (.code c41 [.tmp 2] 12),
 some (.code c42 [.cell 2 true 2] 41),
 some (.code c43 [.tmp 4,.tmp 5,.tmp 6] 40),
 some (.code c44 [.tmp 4] 31),
 some (.code c45 [.tmp 6] 22),
 some (.code c46 [.tmp 2] 22),
 some (.code c47 [.cell 4 true 2] 8),
 some (.code c48 [.cell 2 true 2] 48),
 some (.code c49 [.cell 2 true 2] 51),
 some (.code c50 [.tmp 6] 25),
 some (.code c51 [.tmp 2] 22),
 some (.code c52 [.tmp 4] 38),
 some (.code c53 [.tmp 4] 26),
 some (.code c54 [.cell 8 true 4] 14),
 some (.code c55 [.cell 4 true 2,.tmp 5] 67),
 some (.code c56 [.cell 2 true 2,.tmp 3] 28),
 some (.code c57 [.tmp 4] 45),
 some (.code c58 [.tmp 2] 27),
 some (.code c59 [.cell 4 true 2,.tmp 5] 48),
 some (.code c60 [.tmp 2,.tmp 3] 39),
 some (.code c61 [.tmp 2,.tmp 3] 37),
 some (.code c62 [.tmp 2,.tmp 3] 40),
 some (.code c63 [.tmp 2] 35),
 some (.code c64 [.tmp 2] 55),
 some (.codeM c65 [.cell 6 true 2,.tmp 7,.tmp 8] 84 memos),
 some (.code c66 [.cell 6 false 1,.tmp 7] 42),
 some (.code c67 [.tmp 6] 11),
 some (.code c68 [.tmp 4] 48),
 some (.code c69 [.tmp 2] 32),
 some (.code c70 [.tmp 2] 50),
 some (.code c71 [.tmp 2] 28),
 some (.code c72 [.tmp 4] 22),
 some (.code c73 [] 64),
 some (.code c74 [.tmp 4] 19),
 some (.code c75 [.tmp 2] 35),
 some (.code c76 [.tmp 2] 25),
 some (.code c77 [.tmp 2] 20),
 some (.code c78 [.tmp 4] 56),
 some (.code c79 [.tmp 4] 16),
 some (.code c80 [.tmp 4,.tmp 5,.tmp 6,.tmp 7] 47),
 some (.code c81 [.cell 4 true 2] 47),
 some (.code c82 [.tmp 4] 21),
 some (.code c83 [.cell 2 true 2] 27),
 some (.code c84 [.cell 2 true 2,.tmp 3] 61),
 some (.code c85 [.tmp 2] 17),
 some (.code c86 [] 11),
 some (.code c87 [.tmp 6] 27),
 some (.code c88 [.cell 4 true 2] 59),
 some (.code c89 [.tmp 2,.cell 3 true 2] 47),
 some (.code c90 [.tmp 4] 22),
 some (.code c91 [.tmp 2] 18),
 some (.code c92 [.cell 6 true 2] 38),
 some (.code c93 [.tmp 6] 17),
 some (.code c94 [.tmp 6] 26),
 some (.code c95 [.tmp 2] 36),
 some (.code c96 [.tmp 4] 26),
 some (.code c97 [.tmp 5] 23),
 some (.code c98 [.tmp 6] 11),
 some (.code c99 [.tmp 2,.tmp 3] 102),
 some (.code c100 [.tmp 4] 21),
 some (.code c101 [.tmp 4] 9),
 some (.code c102 [.tmp 4] 13),
 some (.code c103 [.tmp 4,.tmp 5] 30),
 some (.code c104 [.tmp 2] 5),
 some (.code c105 [.tmp 4] 6),
 some (.code c106 [.tmp 4] 17),
 some (.code c107 [.tmp 2] 4),
 some (.code c108 [.tmp 6] 17),
 some (.code c109 [.tmp 2] 14),
 some (.code c110 [.tmp 3] 18),
 some (.code c111 [.tmp 6] 15),
 some (.code c112 [.tmp 4] 23),
 some (.code c113 [.tmp 2] 21),
 some (.code c114 [.tmp 4] 20),
 some (.code c115 [.tmp 2] 4),
 some (.code c116 [] 134),
 some (.code c117 [.tmp 2] 8),
 some (.code c118 [.tmp 6] 36),
 some (.code c119 [.tmp 4] 27),
 some (.code c120 [.tmp 4] 13),
 some (.code c121 [.cell 4 true 4] 20),
 some (.code c122 [.tmp 6] 29),
 some (.code c123 [.tmp 4] 81),
 some (.code c124 [.tmp 2] 4),
 some (.code c125 [.cell 6 true 4,.tmp 7] 40),
 some (.code c126 [.tmp 4] 27),
 some (.code c127 [.tmp 4] 25),
 some (.code c128 [] 37),
 some (.code c129 [] 50),
 some (.code c130 [.tmp 4] 19),
 some (.code c131 [.tmp 4,.tmp 5] 17),
 some (.code c132 [.tmp 4,.tmp 5] 51),
 some (.code c133 [.tmp 4] 13),
 some (.code c134 [] 22),
 some (.code c135 [] 20),
 some (.code c136 [.tmp 3] 13),
 some (.code c137 [.tmp 4] 43),
 some (.code c138 [.tmp 4] 9),
 some (.code c139 [] 19),
 some (.code c140 [] 49),
 some (.code c141 [] 56),
 some (.code c142 [] 65),
 some (.code c143 [.tmp 6,.tmp 7] 57),
 some (.code c144 [] 32),
 some (.code c145 [.tmp 6] 133),
 some (.code c146 [.tmp 4] 17),
 some (.code c147 [.tmp 8] 84),
 some (.code c148 [.tmp 8,.tmp 9] 168),
 some (.code c149 [.tmp 2] 19),
 some (.code c150 [.tmp 2] 25),
 some (.code c151 [.tmp 3] 20),
 some .same,
 some (.code c153 [.tmp 4] 17),
 some (.code c154 [.tmp 4] 23),
 some (.code c155 [.cell 2 true 256,.tmp 3] 21),
 some (.code c156 [.tmp 4] 16),
 some (.code c157 [.tmp 4] 22),
 some (.code c158 [.tmp 4] 23),
 some (.code c159 [.tmp 4] 34),
 some (.code c160 [.tmp 4] 19),
 some (.code c161 [] 76),
 some (.code c162 [.tmp 2] 7),
 some (.code c163 [.tmp 2] 33),
 some (.code c164 [.tmp 6] 15),
 some (.code c165 [.tmp 10] 36),
 some (.code c166 [.tmp 2] 6),
 some (.code c167 [.tmp 4] 10),
 some (.code c168 [.tmp 2,.tmp 3] 19),
 some (.code c169 [.tmp 4] 9),
 some (.code c170 [.tmp 2,.tmp 3] 51),
 some (.code c171 [.tmp 8,.tmp 9] 28),
 some (.code c172 [.tmp 2,.tmp 3] 117),
 some (.code c173 [.tmp 4] 187),
 some (.code c174 [.tmp 2] 6),
 some (.code c175 [.tmp 4] 8),
 some (.code c176 [.tmp 2] 17),
 some (.code c177 [.tmp 2] 6),
 none,
 some (.code c179 [.tmp 4] 8)]
noncomputable def tab:Tab:=fun f=>(tabL[f]?).join
theorem tabL_ok:EntsOk Tryz.prog 0 tabL:=⟨trivial,trivial,fun2,fun3,fun4,fun5,fun6,fun7,fun8,fun9,fun10,fun11,fun12,fun13,fun14,fun15,fun16,fun17,fun18,fun19,fun20,fun21,fun22,fun23,fun24,fun25,fun26,fun27,fun28,fun29,fun30,fun31,fun32,fun33,fun34,fun35,fun36,fun37,fun38,fun39,fun40,fun41,fun42,fun43,fun44,fun45,fun46,fun47,fun48,fun49,fun50,fun51,fun52,fun53,fun54,fun55,fun56,fun57,fun58,fun59,fun60,fun61,fun62,fun63,fun64,⟨fun65,memos_ok⟩,fun66,fun67,fun68,fun69,fun70,fun71,fun72,fun73,fun74,fun75,fun76,fun77,fun78,fun79,fun80,fun81,fun82,fun83,fun84,fun85,fun86,fun87,fun88,fun89,fun90,fun91,fun92,fun93,fun94,fun95,fun96,fun97,fun98,fun99,fun100,fun101,fun102,fun103,fun104,fun105,fun106,fun107,fun108,fun109,fun110,fun111,fun112,fun113,fun114,fun115,fun116,fun117,fun118,fun119,fun120,fun121,fun122,fun123,fun124,fun125,fun126,fun127,fun128,fun129,fun130,fun131,fun132,fun133,fun134,fun135,fun136,fun137,fun138,fun139,fun140,fun141,fun142,fun143,fun144,fun145,fun146,fun147,fun148,fun149,fun150,fun151,same152,fun153,fun154,fun155,fun156,fun157,fun158,fun159,fun160,fun161,fun162,fun163,fun164,fun165,fun166,fun167,fun168,fun169,fun170,fun171,fun172,fun173,fun174,fun175,fun176,fun177,trivial,fun179,trivial⟩
theorem tab_ok:TabOk Tryz.prog tab:=tabOk_of tabL_ok
theorem known_run:veval tab 300 boolOps [] c14 none (ET.of [] 239) CH.empty (eend false [.tmp 0] fun v _=>isTrue v)=true:=by kernel_rfl
theorem known_ok {σ:Heap} {K:Value→Heap→Prop} (hK:K (.bool true) σ):VCalled Tryz.prog 14 [] σ K:=run_true mixed tab_ok 300 fun14 (by decide) known_run hK
end Go.Proofs.Tryz
set_option linter.unusedVariables false
namespace Go.Proofs.Tryz
open Go Go.V Go.Proofs
def al_law03_known:AL (Unit):=.nil
def pre_law03_known (d:Unit):Prop:=True
def res_law03_known (d:Unit):SV:=.val .bo true
def obs_law03_known (d:Unit):List OB:=[]
def s_law03_known:CSp:=mkSp al_law03_known pre_law03_known res_law03_known obs_law03_known
abbrev Ok_law03_known:Prop:=OkC Tryz.prog 14 s_law03_known
theorem ok_law03_known:Ok_law03_known:=okC_true fun _ _ h=>known_ok h
end Go.Proofs.Tryz
set_option linter.unusedVariables false
namespace Go.Proofs.Tryz
open Go Go.V Go.Proofs
def al_law03_own:AL (Int × List Int):=(.one (.agg (.cons (.k (.i .i64)) (.one (.k (.list (.i .i64)))))))
def pre_law03_own (d:Int × List Int):Prop:=d.2.length ≤ 1000
def res_law03_own (d:Int × List Int):SV:=.agg [.val (.i .i64) d.1,.lst 0]
def obs_law03_own (d:Int × List Int):List OB:=[.lst 3 (.i .i64) d.2 false]
def s_law03_own:CSp:=mkSp al_law03_own pre_law03_own res_law03_own obs_law03_own
def vc_law03_own (hk:Int) (lw:List Int):Prop :=
 (((List.length ([]:List Int)) + (List.length lw)) * 8 ≤ 70368744177664)∧((hk=hk∧True∧(([]:List SV)=[]))∧(((([]:List Int)++lw)=lw∧((List.isEmpty lw) && false)=false)∧True))
def cx_law03_own:Cx:=⟨[(3,(.i .i64))],[],10,[],0,[],[],[],[],false,[],[],[]⟩
def lp_law03_own (hk:Int) (lw:List Int):List (Nat × LoopAnn):=[]
set_option maxRecDepth 100000 in
theorem vq_law03_own (d:Int × List Int):gwp (cx_law03_own) (lp_law03_own d.1 d.2) c19 0 (gend [.cell 2 true 2] (res_law03_own d) (obs_law03_own d)) (gstart 10 (AL.can al_law03_own d))=vc_law03_own d.1 d.2:=by kernel_rfl
abbrev Ok_law03_own:Prop:=OkC Tryz.prog 19 s_law03_own
theorem mk_law03_own (h:∀ (hk:Int) (lw:List Int),(lw.length ≤ 1000)→vc_law03_own hk lw):OkC Tryz.prog 19 s_law03_own :=
 okC_vc fun19 mixed (C:=cx_law03_own) (V:=fun (d:Int × List Int)=>vc_law03_own d.1 d.2) ⟨.nil,XsOk.nil,ItsOk.nil,YlOk.nil,IysOk.nil⟩ (vq_law03_own) fun d hp=>h d.1 d.2 hp
theorem ok_law03_own:Ok_law03_own:=mk_law03_own fun hk lw h=>by
 have h1:lw.length * 8 ≤ 70368744177664:=by omega
 simp [vc_law03_own,h1]
def al_law03_ours:AL (Int × List Int):=(.one (.agg (.cons (.k (.i .i64)) (.one (.k (.list (.i .i64)))))))
def pre_law03_ours (d:Int × List Int):Prop:=d.2.length ≤ 1000
def res_law03_ours (d:Int × List Int):SV:=.agg [.val (.i .i64) d.1,.lst 0]
def obs_law03_ours (d:Int × List Int):List OB:=[.lst 3 (.i .i64) d.2 false]
def s_law03_ours:CSp:=mkSp al_law03_ours pre_law03_ours res_law03_ours obs_law03_ours
def vc_law03_ours (hd:Int) (rows:List Int):Prop :=
 (((List.length ([]:List Int)) + (List.length rows)) * 8 ≤ 70368744177664)∧((hd=hd∧True∧(([]:List SV)=[]))∧(((([]:List Int)++rows)=rows∧((List.isEmpty rows) && false)=false)∧True))
def cx_law03_ours:Cx:=⟨[(3,(.i .i64))],[],10,[],0,[],[],[],[],false,[],[],[]⟩
def lp_law03_ours (hd:Int) (rows:List Int):List (Nat × LoopAnn):=[]
set_option maxRecDepth 100000 in
theorem vq_law03_ours (d:Int × List Int):gwp (cx_law03_ours) (lp_law03_ours d.1 d.2) c20 0 (gend [.cell 2 true 2] (res_law03_ours d) (obs_law03_ours d)) (gstart 10 (AL.can al_law03_ours d))=vc_law03_ours d.1 d.2:=by kernel_rfl
abbrev Ok_law03_ours:Prop:=OkC Tryz.prog 20 s_law03_ours
theorem mk_law03_ours (h:∀ (hd:Int) (rows:List Int),(rows.length ≤ 1000)→vc_law03_ours hd rows):OkC Tryz.prog 20 s_law03_ours :=
 okC_vc fun20 mixed (C:=cx_law03_ours) (V:=fun (d:Int × List Int)=>vc_law03_ours d.1 d.2) ⟨.nil,XsOk.nil,ItsOk.nil,YlOk.nil,IysOk.nil⟩ (vq_law03_ours) fun d hp=>h d.1 d.2 hp
theorem ok_law03_ours:Ok_law03_ours:=mk_law03_ours fun hd rows h=>by
 have h1:rows.length * 8 ≤ 70368744177664:=by omega
 simp [vc_law03_ours,h1]
end Go.Proofs.Tryz
set_option linter.unusedVariables false
namespace Go.Proofs.Tryz
open Go Go.V Go.Proofs
def al_strings_Trim:AL (List UInt8 × List UInt8):=(.cons (.k .st) (.one (.k .st)))
def pre_strings_Trim (d:List UInt8 × List UInt8):Prop:=d.1.length ≤ 1000000∧(d.2:List UInt8).length ≤ 1000∧(d.2:List UInt8).all (fun b=>decide (b.toNat < 128))=true
def res_strings_Trim (d:List UInt8 × List UInt8):SV:=.val .st (Lib.trimS d.1 d.2)
def obs_strings_Trim (d:List UInt8 × List UInt8):List OB:=[]
def s_strings_Trim:CSp:=mkSp al_strings_Trim pre_strings_Trim res_strings_Trim obs_strings_Trim
abbrev Ok_strings_Trim:Prop:=OkC Tryz.prog 137 s_strings_Trim
theorem ok_strings_Trim:Ok_strings_Trim:=okC_ss_s fun137.enterable fun a b h w=>by
 obtain ⟨h1,h2,h3⟩:=h
 dsimp only at h1 h2 h3
 exact Any.strings_Trim_laid Tryz.lays160 (by kernel_rfl) ⟨a.toArray⟩ ⟨b.toArray⟩ w (by show a.toArray.size ≤ _; simp; omega) (by show b.toArray.size < _; simp; omega) (ascii_of_all h3)
def al_law03_cloths:AL (List (List UInt8)):=(.one (.k (.list .st)))
def pre_law03_cloths (d:List (List UInt8)):Prop:=d.length ≤ 1000
def res_law03_cloths (d:List (List UInt8)):SV:=.lst 0
def obs_law03_cloths (d:List (List UInt8)):List OB:=[.lst 9 .st d false]
def s_law03_cloths:CSp:=mkSp al_law03_cloths pre_law03_cloths res_law03_cloths obs_law03_cloths
def vc_law03_cloths (c:List (List UInt8)):Prop :=
 (((List.length ([]:List (List UInt8))) + (List.length c)) * 16 ≤ 70368744177664)∧(True∧(((([]:List (List UInt8))++c)=c∧((List.isEmpty c) && false)=false)∧True))
def cx_law03_cloths:Cx:=⟨[(9,.st)],[],6,[],0,[],[],[],[],false,[],[],[]⟩
def lp_law03_cloths (c:List (List UInt8)):List (Nat × LoopAnn):=[]
set_option maxRecDepth 100000 in
theorem vq_law03_cloths (d:List (List UInt8)):gwp (cx_law03_cloths) (lp_law03_cloths d) c30 0 (gend [.tmp 2] (res_law03_cloths d) (obs_law03_cloths d)) (gstart 6 (AL.can al_law03_cloths d))=vc_law03_cloths d:=by kernel_rfl
abbrev Ok_law03_cloths:Prop:=OkC Tryz.prog 30 s_law03_cloths
theorem mk_law03_cloths (h:∀ (c:List (List UInt8)),(c.length ≤ 1000)→vc_law03_cloths c):OkC Tryz.prog 30 s_law03_cloths :=
 okC_vc fun30 mixed (C:=cx_law03_cloths) (V:=fun (d:List (List UInt8))=>vc_law03_cloths d) ⟨.nil,XsOk.nil,ItsOk.nil,YlOk.nil,IysOk.nil⟩ (vq_law03_cloths) fun d hp=>h d hp
theorem ok_law03_cloths:Ok_law03_cloths:=mk_law03_cloths fun c h=>by
 unfold vc_law03_cloths; (try delta lI gD sT I64)
 (try simp only [decide_eq_true_eq,decide_eq_false_iff_not])
 refine ⟨by simp only [List.length_nil]; omega,by simp⟩
def al_slices_IndexFunc_string_string:AL (List (List UInt8) × ((List UInt8→Prop) × (List UInt8→Bool))):=(.cons (.k (.list .st)) (.one (.fn [.st] .bo)))
def pre_slices_IndexFunc_string_string (d:List (List UInt8) × ((List UInt8→Prop) × (List UInt8→Bool))):Prop:=d.1.length ≤ 1000000∧∀ x ∈ d.1,d.2.1 x
def res_slices_IndexFunc_string_string (d:List (List UInt8) × ((List UInt8→Prop) × (List UInt8→Bool))):SV:=.val (.i .i64) (idxG d.1 d.2.2)
def obs_slices_IndexFunc_string_string (d:List (List UInt8) × ((List UInt8→Prop) × (List UInt8→Bool))):List OB:=[]
def s_slices_IndexFunc_string_string:CSp:=mkSp al_slices_IndexFunc_string_string pre_slices_IndexFunc_string_string res_slices_IndexFunc_string_string obs_slices_IndexFunc_string_string
def vc_slices_IndexFunc_string_string (l:List (List UInt8)) (p:(List UInt8→Prop) × (List UInt8→Bool)):Prop :=
 ∃ (e2:Unit) (d20:Int),((l=l∧(SV.pf [.st] .bo p.1 p.2=SV.pf [.st] .bo p.1 p.2)∧(lI l)=(lI l)∧(0:Int)=d20∧True)∧(True)) ∧
 LoopP (fun (d2:Int) (q2:(Int)→Prop) =>
  ((decide (d2 < (lI l)))=true →
   (0 ≤ d2)∧(d2 < (List.length l))∧(p.1 (gD l d2 []))∧((p.2 (gD l d2 []))=true →
    (d2=(idxG l p.2)∧(True))) ∧
   ((p.2 (gD l d2 []))=false →
    (I64 (d2 + (1:Int)))∧(∃ d3:Int,((l=l∧(SV.pf [.st] .bo p.1 p.2=SV.pf [.st] .bo p.1 p.2)∧(lI l)=(lI l)∧(d2 + (1:Int))=d3∧True)∧(True))∧q2 d3))) ∧
  ((decide (d2 < (lI l)))=false →
   ((-1:Int)=(idxG l p.2)∧(True)))) d20
def cx_slices_IndexFunc_string_string:Cx:=⟨[],[],19,[],0,[],[],[],[],false,[],[],[]⟩
def lp_slices_IndexFunc_string_string (l:List (List UInt8)) (p:(List UInt8→Prop) × (List UInt8→Bool)):List (Nat × LoopAnn):=[(0,⟨Unit,Int,[0,1,7,8],fun e x=>[.val (.list .st) l,.pf [.st] .bo p.1 p.2,.val (.i .i64) (((List.length l):Nat):Int),.val (.i .i64) x],fun e x=>[]⟩)]
set_option maxRecDepth 100000 in
theorem vq_slices_IndexFunc_string_string (d:List (List UInt8) × ((List UInt8→Prop) × (List UInt8→Bool))):gwp (cx_slices_IndexFunc_string_string) (lp_slices_IndexFunc_string_string d.1 d.2) c160 0 (gend [.tmp 4] (res_slices_IndexFunc_string_string d) (obs_slices_IndexFunc_string_string d)) (gstart 19 (AL.can al_slices_IndexFunc_string_string d))=vc_slices_IndexFunc_string_string d.1 d.2:=by kernel_rfl
abbrev Ok_slices_IndexFunc_string_string:Prop:=OkC Tryz.prog 160 s_slices_IndexFunc_string_string
theorem mk_slices_IndexFunc_string_string (h:∀ (l:List (List UInt8)) (p:(List UInt8→Prop) × (List UInt8→Bool)),(l.length ≤ 1000000∧∀ x ∈ l,p.1 x)→vc_slices_IndexFunc_string_string l p):OkC Tryz.prog 160 s_slices_IndexFunc_string_string :=
 okC_vc fun160 mixed (C:=cx_slices_IndexFunc_string_string) (V:=fun (d:List (List UInt8) × ((List UInt8→Prop) × (List UInt8→Bool)))=>vc_slices_IndexFunc_string_string d.1 d.2) ⟨.nil,XsOk.nil,ItsOk.nil,YlOk.nil,IysOk.nil⟩ (vq_slices_IndexFunc_string_string) fun d hp=>h d.1 d.2 hp
theorem ok_slices_IndexFunc_string_string:Ok_slices_IndexFunc_string_string:=mk_slices_IndexFunc_string_string fun l p hp=>by
 unfold vc_slices_IndexFunc_string_string; (try delta lI gD sT I64); simp only [true_and,and_true,exists_eq_left',exists_const,decide_eq_true_eq,decide_eq_false_iff_not]
 refine LoopP.count l.length (fun k=>(l.take k).any p.2=false) (by simp) fun k hk1 hJ q hq=>?_
 simp only [Int.toNat_natCast,Int.ofNat_lt,InK_i64]
 refine ⟨fun hlt=>?_,fun hge=>?_⟩
 ·have hlt:k < l.length:=by omega
  rw [getD_nat hlt]
  refine ⟨by omega,by omega,hp.2 _ (List.getElem_mem hlt),fun hx=>?_,fun hx=>⟨by omega,hq hlt ?_⟩⟩
  ·rw [idxG_some hlt hx hJ]
  ·rw [take_succ_eq hlt,List.any_append,hJ]; simp [hx]
 ·rw [List.take_of_length_le (by omega)] at hJ
  rw [idxG_none hJ]
def al_slices_ContainsFunc_string_string:AL (List (List UInt8) × ((List UInt8→Prop) × (List UInt8→Bool))):=(.cons (.k (.list .st)) (.one (.fn [.st] .bo)))
def pre_slices_ContainsFunc_string_string (d:List (List UInt8) × ((List UInt8→Prop) × (List UInt8→Bool))):Prop:=d.1.length ≤ 1000000∧∀ x ∈ d.1,d.2.1 x
def res_slices_ContainsFunc_string_string (d:List (List UInt8) × ((List UInt8→Prop) × (List UInt8→Bool))):SV:=.val .bo (d.1.any d.2.2)
def obs_slices_ContainsFunc_string_string (d:List (List UInt8) × ((List UInt8→Prop) × (List UInt8→Bool))):List OB:=[]
def s_slices_ContainsFunc_string_string:CSp:=mkSp al_slices_ContainsFunc_string_string pre_slices_ContainsFunc_string_string res_slices_ContainsFunc_string_string obs_slices_ContainsFunc_string_string
def vc_slices_ContainsFunc_string_string (l:List (List UInt8)) (p:(List UInt8→Prop) × (List UInt8→Bool)):Prop :=
 (l.length ≤ 1000000∧∀ x ∈ l,(fun (x1:List UInt8)=>p.1 x1) x)∧((decide ((idxG l (fun (x1:List UInt8)=>(p.2 x1))) ≥ (0:Int)))=(l.any p.2)∧(True))
def cx_slices_ContainsFunc_string_string:Cx:=⟨[],[(160,s_slices_IndexFunc_string_string)],9,[],0,[],[],[],[],false,[],[],[]⟩
def lp_slices_ContainsFunc_string_string (l:List (List UInt8)) (p:(List UInt8→Prop) × (List UInt8→Bool)):List (Nat × LoopAnn):=[]
set_option maxRecDepth 100000 in
theorem vq_slices_ContainsFunc_string_string (d:List (List UInt8) × ((List UInt8→Prop) × (List UInt8→Bool))):gwp (cx_slices_ContainsFunc_string_string) (lp_slices_ContainsFunc_string_string d.1 d.2) c138 0 (gend [.tmp 4] (res_slices_ContainsFunc_string_string d) (obs_slices_ContainsFunc_string_string d)) (gstart 9 (AL.can al_slices_ContainsFunc_string_string d))=vc_slices_ContainsFunc_string_string d.1 d.2:=by kernel_rfl
abbrev Ok_slices_ContainsFunc_string_string:Prop:=OkC Tryz.prog 138 s_slices_ContainsFunc_string_string
theorem mk_slices_ContainsFunc_string_string (h:∀ (l:List (List UInt8)) (p:(List UInt8→Prop) × (List UInt8→Bool)),(l.length ≤ 1000000∧∀ x ∈ l,p.1 x)→vc_slices_ContainsFunc_string_string l p):OkC Tryz.prog 138 s_slices_ContainsFunc_string_string :=
 okC_vc fun138 mixed (C:=cx_slices_ContainsFunc_string_string) (V:=fun (d:List (List UInt8) × ((List UInt8→Prop) × (List UInt8→Bool)))=>vc_slices_ContainsFunc_string_string d.1 d.2) ⟨(.cons ok_slices_IndexFunc_string_string .nil),XsOk.nil,ItsOk.nil,YlOk.nil,IysOk.nil⟩ (vq_slices_ContainsFunc_string_string) fun d hp=>h d.1 d.2 hp
theorem ok_slices_ContainsFunc_string_string:Ok_slices_ContainsFunc_string_string:=mk_slices_ContainsFunc_string_string fun l p hp=>by
 simp only [vc_slices_ContainsFunc_string_string]
 exact ⟨hp,idxG_any l p.2,trivial⟩
def al_tie_checkCloth_1:AL (List UInt8 × Int):=(.cons (.k .st) (.one (.ptr (.one (.k (.i .i64))))))
def pre_tie_checkCloth_1 (d:List UInt8 × Int):Prop:=d.1.length ≤ 1000000
def res_tie_checkCloth_1 (d:List UInt8 × Int):SV:=.val .bo (decide ((d.1.length:Int) ≠ d.2) || !isXd d.1)
def obs_tie_checkCloth_1 (d:List UInt8 × Int):List OB:=[]
def s_tie_checkCloth_1:CSp:=mkSp al_tie_checkCloth_1 pre_tie_checkCloth_1 res_tie_checkCloth_1 obs_tie_checkCloth_1
def vc_tie_checkCloth_1 (s:List UInt8) (n:Int):Prop :=
 (((lI s) != n)=false→s.length ≤ 1000000∧([120,46]:List UInt8).length ≤ 1000∧([120,46]:List UInt8).all (fun b=>decide (b.toNat < 128))=true)∧((((lI s) != n) || (!((Lib.trimS s [120,46]) == [])))=(decide ((s.length:Int) ≠ n) || !isXd s)∧(True))
def cx_tie_checkCloth_1:Cx:=⟨[],[(137,s_strings_Trim)],13,[],0,[],[],[],[],false,[],[],[]⟩
def lp_tie_checkCloth_1 (s:List UInt8) (n:Int):List (Nat × LoopAnn):=[]
set_option maxRecDepth 100000 in
theorem vq_tie_checkCloth_1 (d:List UInt8 × Int):gwp (cx_tie_checkCloth_1) (lp_tie_checkCloth_1 d.1 d.2) c136 0 (gend [.tmp 3] (res_tie_checkCloth_1 d) (obs_tie_checkCloth_1 d)) (gstart 13 (AL.can al_tie_checkCloth_1 d))=vc_tie_checkCloth_1 d.1 d.2:=by kernel_rfl
abbrev Ok_tie_checkCloth_1:Prop:=OkC Tryz.prog 136 s_tie_checkCloth_1
theorem mk_tie_checkCloth_1 (h:∀ (s:List UInt8) (n:Int),(s.length ≤ 1000000)→vc_tie_checkCloth_1 s n):OkC Tryz.prog 136 s_tie_checkCloth_1 :=
 okC_vc fun136 mixed (C:=cx_tie_checkCloth_1) (V:=fun (d:List UInt8 × Int)=>vc_tie_checkCloth_1 d.1 d.2) ⟨(.cons ok_strings_Trim .nil),XsOk.nil,ItsOk.nil,YlOk.nil,IysOk.nil⟩ (vq_tie_checkCloth_1) fun d hp=>h d.1 d.2 hp
theorem u8_ne (a b:UInt8):(((UInt8.toNat a:Nat):Int) != ((UInt8.toNat b:Nat):Int))=(a != b):=by
 rw [Bool.eq_iff_iff]
 simp only [bne_iff_ne,ne_eq]
 rw [show (((UInt8.toNat a:Nat):Int)=((UInt8.toNat b:Nat):Int)) ↔ a=b from ⟨fun h=>UInt8.toNat_inj.1 (by omega),fun h=>by rw [h]⟩]
theorem u8_eqk (a:UInt8) (k:Nat) (b:UInt8) (hb:b.toNat=k):(((UInt8.toNat a:Nat):Int) == (k:Int))=(a == b):=by
 rw [Bool.eq_iff_iff]
 simp only [beq_iff_eq]
 rw [←hb,show (((UInt8.toNat a:Nat):Int)=((UInt8.toNat b:Nat):Int)) ↔ a=b from ⟨fun h=>UInt8.toNat_inj.1 (by omega),fun h=>by rw [h]⟩]
theorem u8_x (a:UInt8):(((UInt8.toNat a:Nat):Int) == 120)=(a == 120):=u8_eqk a 120 120 rfl
theorem dropWhile_nil {p:UInt8→Bool} (l:List UInt8):l.dropWhile p=[] ↔ ∀ x ∈ l,p x=true:=by
 induction l with
 | nil=>simp
 | cons a l ih=>cases h:p a <;> simp [List.dropWhile,h,ih]
theorem trimS_xd (s:List UInt8):(Lib.trimS s [120,46] == [])=isXd s:=by
 have hp:∀ b:UInt8,([120,46]:List UInt8).contains b=(b == 120 || b == 46):=fun b=>by rw [Bool.eq_iff_iff]; simp []
 rw [Bool.eq_iff_iff]
 simp only [Lib.trimS,Lib.trimLeftS,Lib.trimRightS,beq_iff_eq,isXd,List.all_eq_true,hp]
 rw [dropWhile_nil]
 simp only [List.mem_reverse]
 constructor
 ·intro h x hx
  have hx:x ∈ s.reverse:=List.mem_reverse.2 hx
  rw [←List.takeWhile_append_dropWhile (p:=fun b=>b == 120 || b == 46) (l:=s.reverse),List.mem_append] at hx
  rcases hx with hx | hx
  ·exact (List.all_eq_true.1 List.all_takeWhile) x hx
  ·exact h x hx
 ·intro h x hx
  exact h x (List.mem_reverse.1 ((List.dropWhile_suffix _).mem hx))
theorem ok_tie_checkCloth_1:Ok_tie_checkCloth_1:=mk_tie_checkCloth_1 fun s n h=>by
 unfold vc_tie_checkCloth_1; (try delta lI gD sT I64)
 (try simp only [decide_eq_true_eq,decide_eq_false_iff_not])
 refine ⟨fun _=>⟨h,by decide,by decide⟩,?_⟩
 rw [trimS_xd]
 congr 1
 rw [Bool.eq_iff_iff]; simp
def al_tie_checkCloth:AL (List (List UInt8) × Int):=(.cons (.k (.list .st)) (.one (.k (.i .i64))))
def pre_tie_checkCloth (d:List (List UInt8) × Int):Prop:=d.1.length ≤ 1000000∧∀ s ∈ d.1,s.length ≤ 1000000
def res_tie_checkCloth (d:List (List UInt8) × Int):SV:=.val (.i .i64) (clothErr d.1 d.2)
def obs_tie_checkCloth (d:List (List UInt8) × Int):List OB:=[]
def s_tie_checkCloth:CSp:=mkSp al_tie_checkCloth pre_tie_checkCloth res_tie_checkCloth obs_tie_checkCloth
def vc_tie_checkCloth (c:List (List UInt8)) (n:Int):Prop :=
 ((decide ((lI c) > (60:Int)))=true →
  ((5:Int)=(clothErr c n)∧(True))) ∧
 ((decide ((lI c) > (60:Int)))=false →
  (((lI c) == (0:Int))=true →
   ((7:Int)=(clothErr c n)∧(True))) ∧
  (((lI c) == (0:Int))=false →
   ([n].length ≤ 1000000)∧((!(!([n].any fun n=>decide (n < (1:Int)) || decide ((96:Int) < n))))=true →
    ((!(!([n].any fun n=>decide (n < (1:Int)) || decide ((96:Int) < n))))=true →
     ((4:Int)=(clothErr c n)∧(True))) ∧
    ((!(!([n].any fun n=>decide (n < (1:Int)) || decide ((96:Int) < n))))=false →
     ((0:Int)=(clothErr c n)∧(True)))) ∧
   ((!(!([n].any fun n=>decide (n < (1:Int)) || decide ((96:Int) < n))))=false →
    (c.length ≤ 1000000∧∀ x ∈ c,(fun (x1:List UInt8)=>x1.length ≤ 1000000) x)∧((c.any (fun (x1:List UInt8)=>(decide ((x1.length:Int) ≠ n) || !isXd x1)))=true →
     ((4:Int)=(clothErr c n)∧(True))) ∧
    ((c.any (fun (x1:List UInt8)=>(decide ((x1.length:Int) ≠ n) || !isXd x1)))=false →
     ((0:Int)=(clothErr c n)∧(True))))))
def cx_tie_checkCloth:Cx:=⟨[(3,(.i .i64))],[(67,s_tie_within),(138,s_slices_ContainsFunc_string_string),(136,s_tie_checkCloth_1)],23,[],0,[],[],[],[],false,[],[],[]⟩
def lp_tie_checkCloth (c:List (List UInt8)) (n:Int):List (Nat × LoopAnn):=[]
set_option maxRecDepth 100000 in
theorem vq_tie_checkCloth (d:List (List UInt8) × Int):gwp (cx_tie_checkCloth) (lp_tie_checkCloth d.1 d.2) c112 0 (gend [.tmp 4] (res_tie_checkCloth d) (obs_tie_checkCloth d)) (gstart 23 (AL.can al_tie_checkCloth d))=vc_tie_checkCloth d.1 d.2:=by kernel_rfl
abbrev Ok_tie_checkCloth:Prop:=OkC Tryz.prog 112 s_tie_checkCloth
theorem mk_tie_checkCloth (h:∀ (c:List (List UInt8)) (n:Int),(c.length ≤ 1000000∧∀ s ∈ c,s.length ≤ 1000000)→vc_tie_checkCloth c n):OkC Tryz.prog 112 s_tie_checkCloth :=
 okC_vc fun112 mixed (C:=cx_tie_checkCloth) (V:=fun (d:List (List UInt8) × Int)=>vc_tie_checkCloth d.1 d.2) ⟨(.cons ok_tie_within (.cons ok_slices_ContainsFunc_string_string (.cons ok_tie_checkCloth_1 .nil))),XsOk.nil,ItsOk.nil,YlOk.nil,IysOk.nil⟩ (vq_tie_checkCloth) fun d hp=>h d.1 d.2 hp
theorem clothErr_zero {c:List (List UInt8)} {n:Int} (h:clothErr c n=0):c.length ≤ 60∧c ≠ []∧1 ≤ n∧n ≤ 96∧∀ s ∈ c,(s.length:Int)=n∧isXd s=true:=by
 unfold clothErr at h
 split at h
 ·cases h
 ·rename_i h1
  split at h
  ·cases h
  ·rename_i h2
   split at h
   ·cases h
   ·rename_i h3
    simp only [Bool.or_eq_true,not_or,Bool.not_eq_true',Bool.not_eq_false,Bool.not_eq_true] at h3
    have h4:1 ≤ n∧n ≤ 96:=by simpa [inI] using h3.1
    refine ⟨by omega,fun e=>h2 (by simp [e]),h4.1,h4.2,fun s hs=>?_⟩
    have:=List.any_eq_false.1 h3.2 s hs
    simp only [Bool.or_eq_true,decide_eq_true_eq,Bool.not_eq_true',not_or,ne_eq,Decidable.not_not,Bool.not_eq_false] at this
    exact this
theorem ok_tie_checkCloth:Ok_tie_checkCloth:=mk_tie_checkCloth fun c n h=>by
 unfold vc_tie_checkCloth; (try delta lI gD sT I64)
 (try simp only [decide_eq_true_eq,decide_eq_false_iff_not])
 have e:([n].any fun n=>decide (n < 1) || decide (96 < n))=!inI n 1 96:=by simp only [List.any_cons,List.any_nil,Bool.or_false,←nI]
 simp only [e,Bool.not_not]
 have ce:¬ 60 < c.length→¬ c.length=0→clothErr c n=if !inI n 1 96 || c.any (fun s=>decide ((s.length:Int) ≠ n) || !isXd s) then 4 else 0:=fun h1 h2=>by
  unfold clothErr; rw [if_neg h1,if_neg h2]
 refine ⟨fun h1=>?_,fun h1=>⟨fun h2=>?_,fun h2=>⟨by simp,fun hw=>⟨fun _=>?_,fun hw2=>?_⟩,fun hw=>⟨h,fun ha=>?_,fun ha=>?_⟩⟩⟩⟩
 ·unfold clothErr; rw [if_pos (by omega)]; exact (by and_intros <;> first | rfl | trivial | simp)
 ·have h2:c.length=0:=by simp only [beq_iff_eq] at h2; omega
  unfold clothErr; rw [if_neg (by omega),if_pos h2]; exact (by and_intros <;> first | rfl | trivial | simp)
 all_goals have h2':¬ c.length=0:=by simp only [beq_eq_false_iff_ne] at h2; omega
 ·rw [ce (by omega) h2',hw]; exact (by and_intros <;> first | rfl | trivial | simp)
 ·rw [hw] at hw2; cases hw2
 ·rw [ce (by omega) h2',hw,ha]; exact (by and_intros <;> first | rfl | trivial | simp)
 ·rw [ce (by omega) h2',hw,ha]; exact (by and_intros <;> first | rfl | trivial | simp)
def al_tie_readCloth:AL ((Int × List Int) × List (List UInt8)):=(.cons (.agg (.cons (.k (.i .i64)) (.one (.k (.list (.i .i64)))))) (.one (.k (.list .st))))
def pre_tie_readCloth (d:(Int × List Int) × List (List UInt8)):Prop:=d.1.2.length ≤ 1000000∧d.2.length ≤ 1000000∧∀ s ∈ d.2,s.length ≤ 1000000
def res_tie_readCloth (d:(Int × List Int) × List (List UInt8)):SV:=.val (.i .i64) (unwErr d.1.1 d.1.2 d.2)
def obs_tie_readCloth (d:(Int × List Int) × List (List UInt8)):List OB:=[]
def s_tie_readCloth:CSp:=mkSp al_tie_readCloth pre_tie_readCloth res_tie_readCloth obs_tie_readCloth
def vc_tie_readCloth (hk:Int) (lw:List Int) (c:List (List UInt8)):Prop :=
 (lw.length ≤ 1000000)∧(((tieErr hk lw) != (0:Int))=true →
  ((tieErr hk lw)=(unwErr hk lw c)∧(True))) ∧
 (((tieErr hk lw) != (0:Int))=false →
  (c.length ≤ 1000000∧∀ s ∈ c,s.length ≤ 1000000)∧((clothErr c (lI lw))=(unwErr hk lw c)∧(True)))
def cx_tie_readCloth:Cx:=⟨[],[(58,s_tie_Check),(112,s_tie_checkCloth)],16,[],0,[],[],[],[],false,[],[],[]⟩
def lp_tie_readCloth (hk:Int) (lw:List Int) (c:List (List UInt8)):List (Nat × LoopAnn):=[]
set_option maxRecDepth 100000 in
theorem vq_tie_readCloth (d:(Int × List Int) × List (List UInt8)):gwp (cx_tie_readCloth) (lp_tie_readCloth d.1.1 d.1.2 d.2) c79 0 (gend [.tmp 4] (res_tie_readCloth d) (obs_tie_readCloth d)) (gstart 16 (AL.can al_tie_readCloth d))=vc_tie_readCloth d.1.1 d.1.2 d.2:=by kernel_rfl
abbrev Ok_tie_readCloth:Prop:=OkC Tryz.prog 79 s_tie_readCloth
theorem mk_tie_readCloth (h:∀ (hk:Int) (lw:List Int) (c:List (List UInt8)),(lw.length ≤ 1000000∧c.length ≤ 1000000∧∀ s ∈ c,s.length ≤ 1000000)→vc_tie_readCloth hk lw c):OkC Tryz.prog 79 s_tie_readCloth :=
 okC_vc fun79 mixed (C:=cx_tie_readCloth) (V:=fun (d:(Int × List Int) × List (List UInt8))=>vc_tie_readCloth d.1.1 d.1.2 d.2) ⟨(.cons ok_tie_Check (.cons ok_tie_checkCloth .nil)),XsOk.nil,ItsOk.nil,YlOk.nil,IysOk.nil⟩ (vq_tie_readCloth) fun d hp=>h d.1.1 d.1.2 d.2 hp
theorem ok_tie_readCloth:Ok_tie_readCloth:=mk_tie_readCloth fun hk lw c h=>by
 unfold vc_tie_readCloth; (try delta lI gD sT I64)
 (try simp only [decide_eq_true_eq,decide_eq_false_iff_not])
 refine ⟨h.1,fun he=>?_,fun he=>⟨⟨h.2.1,h.2.2⟩,?_⟩⟩
 ·have he:tieErr hk lw ≠ 0:=by simpa using he
  simp [unwErr,he]
 ·have he:tieErr hk lw=0:=by simpa using he
  simp [unwErr,he]
def cx_slices_Backward_int_int:Cx:=⟨[],[],4,[],0,[],[],[],[],false,[],[],[]⟩
def x_slices_Backward_int_int:XSp:=inlX cx_slices_Backward_int_int (fun _=>[]) c115 [.tmp 2] 4
theorem okx_slices_Backward_int_int:XOk Tryz.prog 115 x_slices_Backward_int_int:=inlX_ok fun115 mixed (C:=cx_slices_Backward_int_int) ⟨.nil,XsOk.nil,ItsOk.nil,YlOk.nil,IysOk.nil⟩ _
def al_tie_harness_firsts:AL (Int × List Int):=(.one (.agg (.cons (.k (.i .i64)) (.one (.k (.list (.i .i64)))))))
def pre_tie_harness_firsts (d:Int × List Int):Prop:=d.2.length ≤ 1000
def res_tie_harness_firsts (d:Int × List Int):SV:=.map 0
def obs_tie_harness_firsts (d:Int × List Int):List OB:=[.map (.i .i64) (.i .i64) (fstM d.2)]
def s_tie_harness_firsts:CSp:=mkSp al_tie_harness_firsts pre_tie_harness_firsts res_tie_harness_firsts obs_tie_harness_firsts
def vc_tie_harness_firsts (hk:Int) (lw:List Int):Prop :=
 ∀ w1:List Value,w1=w1∧(List.length lw < 4611686018427387904)∧∃ (e3:Unit) (d30:(List (Int × Int))),((True∧True)∧((True∧(([]:List SV)=[]))∧(([]:List (Int × Int))=d30)∧True)) ∧
 RangeP (List.length lw) (fun (k3:Nat) (d3:(List (Int × Int))) (q3:((List (Int × Int)))→Prop)=>∀ w3:List Value,
  w3=w3∧(∃ d4:(List (Int × Int)),((True∧True)∧((True∧(([]:List SV)=[]))∧((aput (.i .i64) d3 (List.getD lw (List.length lw - 1 - k3) 0) ((lI lw) - 1 - (k3:Int)))=d4)∧True))∧q3 d4))
 (fun (d5:(List (Int × Int))) =>
  (True∧((d5=(fstM lw))∧True))) d30
def cx_tie_harness_firsts:Cx:=⟨[(1000006,(.pair (.i .i64) (.i .i64)))],[],17,[],0,[(115,x_slices_Backward_int_int)],[(139,bwIt (.i .i64))],[],[],false,[],[],[]⟩
def lp_tie_harness_firsts (hk:Int) (lw:List Int):List (Nat × LoopAnn):=[(0,⟨Unit,(List (Int × Int)),[3],fun e x=>[.box 3 0],fun e x=>[(3,.slot 3,.cells [.map 6] (some 135)),(6,.cell 3 0,.map (.i .i64) (.i .i64) x)]⟩)]
set_option maxRecDepth 100000 in
theorem vq_tie_harness_firsts (d:Int × List Int):gwp (cx_tie_harness_firsts) (lp_tie_harness_firsts d.1 d.2) c85 0 (gend [.tmp 2] (res_tie_harness_firsts d) (obs_tie_harness_firsts d)) (gstart 17 (AL.can al_tie_harness_firsts d))=vc_tie_harness_firsts d.1 d.2:=by kernel_rfl
abbrev Ok_tie_harness_firsts:Prop:=OkC Tryz.prog 85 s_tie_harness_firsts
theorem mk_tie_harness_firsts (h:∀ (hk:Int) (lw:List Int),(lw.length ≤ 1000)→vc_tie_harness_firsts hk lw):OkC Tryz.prog 85 s_tie_harness_firsts :=
 okC_vc fun85 mixed (C:=cx_tie_harness_firsts) (V:=fun (d:Int × List Int)=>vc_tie_harness_firsts d.1 d.2) ⟨.nil,(XsOk.cons okx_slices_Backward_int_int XsOk.nil),(ItsOk.cons (bw_ok funbw139 mixed) ItsOk.nil),YlOk.nil,IysOk.nil⟩ (vq_tie_harness_firsts) fun d hp=>h d.1 d.2 hp
theorem ok_tie_harness_firsts:Ok_tie_harness_firsts:=mk_tie_harness_firsts fun hk lw h=>by
 unfold vc_tie_harness_firsts; (try delta lI gD sT I64)
 (try simp only [])
 intro w1
 refine ⟨by trivial,by omega,(),[],(by and_intros <;> first | rfl | trivial | simp),fun k d=>d=fstMk lw k,rfl,fun k d hk hd w=>⟨by trivial,_,(by and_intros <;> first | rfl | trivial | simp),?_⟩,fun d hd=>?_⟩
 ·rw [hd]; rfl
 ·rw [hd]; exact (by and_intros <;> first | rfl | trivial | simp)
def al_tie_harness_part:AL ((Int × List Int) × List (List UInt8)):=(.cons (.agg (.cons (.k (.i .i64)) (.one (.k (.list (.i .i64)))))) (.one (.k (.list .st))))
def pre_tie_harness_part (d:(Int × List Int) × List (List UInt8)):Prop:=d.1.2.length ≤ 1000∧d.2.length ≤ 1000∧∀ s ∈ d.2,s.length=d.1.2.length
def res_tie_harness_part (d:(Int × List Int) × List (List UInt8)):SV:=.tup [.val (.i .i64) ((partI d.1.2 d.2).1),.val (.i .i64) ((partI d.1.2 d.2).2.1),.val (.i .i64) ((partI d.1.2 d.2).2.2),.val .bo ((partF d.1.2 d.2).isSome)]
def obs_tie_harness_part (d:(Int × List Int) × List (List UInt8)):List OB:=[]
def s_tie_harness_part:CSp:=mkSp al_tie_harness_part pre_tie_harness_part res_tie_harness_part obs_tie_harness_part
def vc_tie_harness_part (hk:Int) (lw:List Int) (c:List (List UInt8)):Prop :=
 (lw.length ≤ 1000)∧∃ (e3:Unit) (d30:Int),((True∧True∧c=c∧(lI c)=(lI c)∧(0:Int)=d30∧True)∧((hk=hk∧lw=lw∧(([]:List SV)=[]))∧((fstM lw)=(fstM lw))∧True)) ∧
 LoopP (fun (d3:Int) (q3:(Int)→Prop) =>
  ((decide (d3 < (lI c)))=true →
   (0 ≤ d3)∧(d3 < (List.length c))∧∃ (e6:Int × (List UInt8) × Int) (d60:Int),((True∧True∧d3=e6.1∧(gD c d3 [])=e6.2.1∧c=c∧(lI c)=(lI c)∧d3=e6.2.2∧lw=lw∧(lI lw)=(lI lw)∧(0:Int)=d60∧True)∧((hk=hk∧lw=lw∧(([]:List SV)=[]))∧((fstM lw)=(fstM lw))∧True)) ∧
   LoopP (fun (d6:Int) (q6:(Int)→Prop) =>
    ((decide (d6 < (lI lw)))=true →
     (0 ≤ d6)∧(d6 < (List.length lw))∧(0 ≤ d6)∧(d6 < (List.length e6.2.1))∧(0 ≤ (gq.aget (.i .i64) (fstM lw) (gD lw d6 0) 0))∧((gq.aget (.i .i64) (fstM lw) (gD lw d6 0) 0) < (List.length e6.2.1))∧((((UInt8.toNat (gD e6.2.1 d6 0):Nat):Int) != ((UInt8.toNat (gD e6.2.1 (gq.aget (.i .i64) (fstM lw) (gD lw d6 0) 0) 0):Nat):Int))=true →
      ((e6.1=((partI lw c).1)∧d6=((partI lw c).2.1)∧(gq.aget (.i .i64) (fstM lw) (gD lw d6 0) 0)=((partI lw c).2.2)∧true=((partF lw c).isSome)∧(([]:List SV)=[]))∧(True))) ∧
     ((((UInt8.toNat (gD e6.2.1 d6 0):Nat):Int) != ((UInt8.toNat (gD e6.2.1 (gq.aget (.i .i64) (fstM lw) (gD lw d6 0) 0) 0):Nat):Int))=false →
      (I64 (d6 + (1:Int)))∧(∃ d7:Int,((True∧True∧e6.1=e6.1∧e6.2.1=e6.2.1∧c=c∧(lI c)=(lI c)∧e6.2.2=e6.2.2∧lw=lw∧(lI lw)=(lI lw)∧(d6 + (1:Int))=d7∧True)∧((hk=hk∧lw=lw∧(([]:List SV)=[]))∧((fstM lw)=(fstM lw))∧True))∧q6 d7))) ∧
    ((decide (d6 < (lI lw)))=false →
     (I64 (e6.2.2 + (1:Int)))∧(∃ d8:Int,((True∧True∧c=c∧(lI c)=(lI c)∧(e6.2.2 + (1:Int))=d8∧True)∧((hk=hk∧lw=lw∧(([]:List SV)=[]))∧((fstM lw)=(fstM lw))∧True))∧q3 d8))) d60) ∧
  ((decide (d3 < (lI c)))=false →
   (((0:Int)=((partI lw c).1)∧(0:Int)=((partI lw c).2.1)∧(0:Int)=((partI lw c).2.2)∧false=((partF lw c).isSome)∧(([]:List SV)=[]))∧(True)))) d30
def cx_tie_harness_part:Cx:=⟨[],[(85,s_tie_harness_firsts)],47,[],0,[],[],[],[],false,[],[],[]⟩
def lp_tie_harness_part (hk:Int) (lw:List Int) (c:List (List UInt8)):List (Nat × LoopAnn):=[(0,⟨Unit,Int,[2,8,16,17,18],fun e x=>[.box 2 0,.map 15,.val (.list .st) c,.val (.i .i64) (((List.length c):Nat):Int),.val (.i .i64) x],fun e x=>[(2,.slot 2,.cells [.val (.i .i64) hk,.val (.list (.i .i64)) lw] (some 120)),(15,.slot 8,.map (.i .i64) (.i .i64) (fstM lw))]⟩),
 (2,⟨Int × (List UInt8) × Int,Int,[2,8,9,10,16,17,18,25,26,27],fun e x=>[.box 2 0,.map 15,.val (.i .i64) e.1,.val .st e.2.1,.val (.list .st) c,.val (.i .i64) (((List.length c):Nat):Int),.val (.i .i64) e.2.2,.val (.list (.i .i64)) lw,.val (.i .i64) (((List.length lw):Nat):Int),.val (.i .i64) x],fun e x=>[(2,.slot 2,.cells [.val (.i .i64) hk,.val (.list (.i .i64)) lw] (some 120)),(15,.slot 8,.map (.i .i64) (.i .i64) (fstM lw))]⟩)]
set_option maxRecDepth 100000 in
theorem vq_tie_harness_part (d:(Int × List Int) × List (List UInt8)):gwp (cx_tie_harness_part) (lp_tie_harness_part d.1.1 d.1.2 d.2) c80 0 (gend [.tmp 4,.tmp 5,.tmp 6,.tmp 7] (res_tie_harness_part d) (obs_tie_harness_part d)) (gstart 47 (AL.can al_tie_harness_part d))=vc_tie_harness_part d.1.1 d.1.2 d.2:=by kernel_rfl
abbrev Ok_tie_harness_part:Prop:=OkC Tryz.prog 80 s_tie_harness_part
theorem mk_tie_harness_part (h:∀ (hk:Int) (lw:List Int) (c:List (List UInt8)),(lw.length ≤ 1000∧c.length ≤ 1000∧∀ s ∈ c,s.length=lw.length)→vc_tie_harness_part hk lw c):OkC Tryz.prog 80 s_tie_harness_part :=
 okC_vc fun80 mixed (C:=cx_tie_harness_part) (V:=fun (d:(Int × List Int) × List (List UInt8))=>vc_tie_harness_part d.1.1 d.1.2 d.2) ⟨(.cons ok_tie_harness_firsts .nil),XsOk.nil,ItsOk.nil,YlOk.nil,IysOk.nil⟩ (vq_tie_harness_part) fun d hp=>h d.1.1 d.1.2 d.2 hp
theorem ok_tie_harness_part:Ok_tie_harness_part:=mk_tie_harness_part fun hk lw c h=>by
 obtain ⟨h1,h2,h3⟩:=h
 unfold vc_tie_harness_part; (try delta lI gD sT I64)
 (try simp only [decide_eq_true_eq,decide_eq_false_iff_not])
 refine ⟨h1,(),0,(by and_intros <;> first | rfl | trivial | simp),?_⟩
 refine LoopP.count c.length (fun k=>∀ j,j < k→partW lw (c.getD j [])=none) (fun j h=>by omega) fun i hi hJ q hq=>?_
 refine ⟨fun hlt=>?_,fun hge=>?_⟩
 ·have hlt:i < c.length:=by omega
  have hs:=h3 _ (List.getElem_mem hlt)
  refine ⟨by omega,by omega,((i:Int),c.getD i [],(i:Int)),0,(by and_intros <;> first | rfl | trivial | simp),?_⟩
  dsimp only
  rw [getD_nat hlt]
  refine LoopP.count lw.length (fun w=>∀ j,j < w→c[i].getD j 0=c[i].getD (fstN lw (lw.getD j 0)) 0) (fun j h=>by omega) fun w hw hI q2 hq2=>?_
  refine ⟨fun hlt2=>?_,fun hge=>⟨by rw [InK_i64]; omega,_,(by and_intros <;> first | rfl | trivial | simp),hq hlt fun j hj=>?_⟩⟩
  ·have hlt2:w < lw.length:=by omega
   have hf:=fstN_lt (getD_mem hlt2)
   simp only [Int.toNat_natCast,fstM_get hlt2,u8_ne]
   refine ⟨by omega,by omega,by omega,by omega,by omega,by omega,fun hne=>?_,fun heq=>⟨by rw [InK_i64]; omega,_,(by and_intros <;> first | rfl | trivial | simp),hq2 hlt2 fun j hj=>?_⟩⟩
   ·have hp:=partF_some hlt hJ (w:=w) (by rw [getD_nat hlt]; exact partW_some hlt2 hI (by simpa using hne))
    simp [partI,hp]
   ·rcases Nat.lt_succ_iff_lt_or_eq.1 hj with hj | rfl
    ·exact hI j hj
    ·simpa using heq
  ·rcases Nat.lt_succ_iff_lt_or_eq.1 hj with hj | rfl
   ·exact hJ j hj
   ·rw [getD_nat hlt]
    exact partW_none.2 fun w' hw'=>hI w' (by omega)
 ·have hp:partF lw c=none:=partF_none.2 fun j hj=>hJ j (by omega)
  simp [partI,hp]
def al_tie_harness_design:AL ((Int × List Int) × List (List UInt8)):=(.cons (.agg (.cons (.k (.i .i64)) (.one (.k (.list (.i .i64)))))) (.one (.k (.list .st))))
def pre_tie_harness_design (d:(Int × List Int) × List (List UInt8)):Prop:=d.1.2.length ≤ 1000∧d.2.length ≤ 1000∧(∀ s ∈ d.2,s.length=d.1.2.length)∧∀ x ∈ d.1.2,0 ≤ x∧x < 24
def res_tie_harness_design (d:(Int × List Int) × List (List UInt8)):SV:=.agg [.val (.i .i64) d.1.1,.lst 0]
def obs_tie_harness_design (d:(Int × List Int) × List (List UInt8)):List OB:=[.lst 3 (.i .i64) (rowsX d.1.2 d.2) ((rowsX d.1.2 d.2).isEmpty)]
def s_tie_harness_design:CSp:=mkSp al_tie_harness_design pre_tie_harness_design res_tie_harness_design obs_tie_harness_design
def vc_tie_harness_design (hk:Int) (lw:List Int) (c:List (List UInt8)):Prop :=
 ∃ (e4:Unit) (d40:(List Int) × Int),((True∧True∧True∧c=c∧(lI c)=(lI c)∧(0:Int)=d40.2∧True)∧((hk=hk∧lw=lw∧(([]:List SV)=[]))∧((0:Int)=(0:Int)∧True∧(([]:List SV)=[]))∧(hk=hk∧True∧(([]:List SV)=[]))∧(d40.1=[]∧(List.isEmpty d40.1)=true)∧True)) ∧
 LoopP (fun (d4:(List Int) × Int) (q4:((List Int) × Int)→Prop) =>
  ((decide (d4.2 < (lI c)))=true →
   (0 ≤ d4.2)∧(d4.2 < (List.length c))∧∃ (e7:(List Int) × (List UInt8) × Int) (d70:Int × Int),((True∧True∧True∧(gD c d4.2 [])=e7.2.1∧(0:Int)=d70.1∧c=c∧(lI c)=(lI c)∧d4.2=e7.2.2∧lw=lw∧(lI lw)=(lI lw)∧(0:Int)=d70.2∧True)∧((hk=hk∧lw=lw∧(([]:List SV)=[]))∧((0:Int)=(0:Int)∧True∧(([]:List SV)=[]))∧(hk=hk∧True∧(([]:List SV)=[]))∧(d4.1=e7.1∧(List.isEmpty d4.1)=(List.isEmpty e7.1))∧True)) ∧
   LoopP (fun (d7:Int × Int) (q7:(Int × Int)→Prop) =>
    ((decide (d7.2 < (lI lw)))=true →
     (0 ≤ d7.2)∧(d7.2 < (List.length lw))∧(0 ≤ d7.2)∧(d7.2 < (List.length e7.2.1))∧((((UInt8.toNat (gD e7.2.1 d7.2 0):Nat):Int) == (120:Int))=true →
      (0 ≤ (gD lw d7.2 0))∧(I64 (shlI .i64 (1:Int) (gD lw d7.2 0)))∧(I64 (d7.2 + (1:Int)))∧(∃ d8:Int × Int,((True∧True∧True∧e7.2.1=e7.2.1∧(vbits .or .i64 d7.1 (shlI .i64 (1:Int) (gD lw d7.2 0)))=d8.1∧c=c∧(lI c)=(lI c)∧e7.2.2=e7.2.2∧lw=lw∧(lI lw)=(lI lw)∧(d7.2 + (1:Int))=d8.2∧True)∧((hk=hk∧lw=lw∧(([]:List SV)=[]))∧((0:Int)=(0:Int)∧True∧(([]:List SV)=[]))∧(hk=hk∧True∧(([]:List SV)=[]))∧(e7.1=e7.1∧(List.isEmpty e7.1)=(List.isEmpty e7.1))∧True))∧q7 d8)) ∧
     ((((UInt8.toNat (gD e7.2.1 d7.2 0):Nat):Int) == (120:Int))=false →
      (I64 (d7.2 + (1:Int)))∧(∃ d9:Int × Int,((True∧True∧True∧e7.2.1=e7.2.1∧d7.1=d9.1∧c=c∧(lI c)=(lI c)∧e7.2.2=e7.2.2∧lw=lw∧(lI lw)=(lI lw)∧(d7.2 + (1:Int))=d9.2∧True)∧((hk=hk∧lw=lw∧(([]:List SV)=[]))∧((0:Int)=(0:Int)∧True∧(([]:List SV)=[]))∧(hk=hk∧True∧(([]:List SV)=[]))∧(e7.1=e7.1∧(List.isEmpty e7.1)=(List.isEmpty e7.1))∧True))∧q7 d9))) ∧
    ((decide (d7.2 < (lI lw)))=false →
     (((List.length e7.1) + (List.length [d7.1])) * 8 ≤ 70368744177664)∧(I64 (e7.2.2 + (1:Int)))∧(∃ d10:(List Int) × Int,((True∧True∧True∧c=c∧(lI c)=(lI c)∧(e7.2.2 + (1:Int))=d10.2∧True)∧((hk=hk∧lw=lw∧(([]:List SV)=[]))∧((0:Int)=(0:Int)∧True∧(([]:List SV)=[]))∧(hk=hk∧True∧(([]:List SV)=[]))∧((e7.1++[d7.1])=d10.1∧false=(List.isEmpty d10.1))∧True))∧q4 d10))) d70) ∧
  ((decide (d4.2 < (lI c)))=false →
   ((hk=hk∧True∧(([]:List SV)=[]))∧((d4.1=(rowsX lw c)∧(List.isEmpty d4.1)=(rowsX lw c).isEmpty)∧True)))) d40
def cx_tie_harness_design:Cx:=⟨[(3,(.i .i64))],[],47,[],0,[],[],[],[],false,[],[],[]⟩
def lp_tie_harness_design (hk:Int) (lw:List Int) (c:List (List UInt8)):List (Nat × LoopAnn):=[(0,⟨Unit,(List Int) × Int,[2,4,5,15,16,17],fun e x=>[.box 2 0,.box 4 0,.box 5 0,.val (.list .st) c,.val (.i .i64) (((List.length c):Nat):Int),.val (.i .i64) x.2],fun e x=>[(2,.slot 2,.cells [.val (.i .i64) hk,.val (.list (.i .i64)) lw] (some 120)),(4,.slot 4,.cells [.val (.i .i64) (0:Int),.nilS] (some 36)),(5,.slot 5,.cells [.val (.i .i64) hk,.lst 43] (some 36)),(43,.cell 5 1,.lst 3 (.i .i64) x.1 (List.isEmpty x.1))]⟩),
 (2,⟨(List Int) × (List UInt8) × Int,Int × Int,[2,4,5,7,8,15,16,17,23,24,25],fun e x=>[.box 2 0,.box 4 0,.box 5 0,.val .st e.2.1,.val (.i .i64) x.1,.val (.list .st) c,.val (.i .i64) (((List.length c):Nat):Int),.val (.i .i64) e.2.2,.val (.list (.i .i64)) lw,.val (.i .i64) (((List.length lw):Nat):Int),.val (.i .i64) x.2],fun e x=>[(2,.slot 2,.cells [.val (.i .i64) hk,.val (.list (.i .i64)) lw] (some 120)),(4,.slot 4,.cells [.val (.i .i64) (0:Int),.nilS] (some 36)),(5,.slot 5,.cells [.val (.i .i64) hk,.lst 43] (some 36)),(43,.cell 5 1,.lst 3 (.i .i64) e.1 (List.isEmpty e.1))]⟩)]
set_option maxRecDepth 100000 in
theorem vq_tie_harness_design (d:(Int × List Int) × List (List UInt8)):gwp (cx_tie_harness_design) (lp_tie_harness_design d.1.1 d.1.2 d.2) c81 0 (gend [.cell 4 true 2] (res_tie_harness_design d) (obs_tie_harness_design d)) (gstart 47 (AL.can al_tie_harness_design d))=vc_tie_harness_design d.1.1 d.1.2 d.2:=by kernel_rfl
abbrev Ok_tie_harness_design:Prop:=OkC Tryz.prog 81 s_tie_harness_design
theorem mk_tie_harness_design (h:∀ (hk:Int) (lw:List Int) (c:List (List UInt8)),(lw.length ≤ 1000∧c.length ≤ 1000∧(∀ s ∈ c,s.length=lw.length)∧∀ x ∈ lw,0 ≤ x∧x < 24)→vc_tie_harness_design hk lw c):OkC Tryz.prog 81 s_tie_harness_design :=
 okC_vc fun81 mixed (C:=cx_tie_harness_design) (V:=fun (d:(Int × List Int) × List (List UInt8))=>vc_tie_harness_design d.1.1 d.1.2 d.2) ⟨.nil,XsOk.nil,ItsOk.nil,YlOk.nil,IysOk.nil⟩ (vq_tie_harness_design) fun d hp=>h d.1.1 d.1.2 d.2 hp
theorem ok_tie_harness_design:Ok_tie_harness_design:=mk_tie_harness_design fun hk lw c h=>by
 obtain ⟨h1,h2,h3,h4⟩:=h
 unfold vc_tie_harness_design; (try delta lI gD sT I64)
 (try simp only [decide_eq_true_eq,decide_eq_false_iff_not])
 refine ⟨(),([],0),(by and_intros <;> first | rfl | trivial | simp),?_⟩
 refine LoopP.count2 c.length (fun k xs=>xs=rowsX lw (c.take k)) (by simp [rowsX]) fun i xs hi hJ q hq=>?_
 dsimp only
 refine ⟨fun hlt=>?_,fun hge=>?_⟩
 ·have hlt:i < c.length:=by omega
  have hs:=h3 _ (List.getElem_mem hlt)
  refine ⟨by omega,by omega,(xs,c.getD i [],(i:Int)),(0,0),(by and_intros <;> first | rfl | trivial | simp),?_⟩
  dsimp only
  rw [getD_nat hlt]
  refine LoopP.count2 lw.length (fun k r=>r=((rowXk lw c[i] k:Nat):Int)) rfl fun w r hw hI q2 hq2=>?_
  dsimp only
  have hb:=rowXk_lt (s:=c[i]) (n:=24) h4 w hw
  refine ⟨fun hlt2=>?_,fun hge=>?_⟩
  ·have hlt2:w < lw.length:=by omega
   have hx:=h4 _ (getD_mem hlt2)
   obtain ⟨x,hx'⟩:=Int.eq_ofNat_of_zero_le hx.1
   have h1x:(1:Nat) <<< x < 2 ^ 24:=by rw [Nat.one_shiftLeft]; exact Nat.pow_lt_pow_right (by omega) (by omega)
   have e1:shlI .i64 1 ((x:Nat):Int)=((1 <<< x:Nat):Int):=shl_nat (x:=1) (by omega)
   obtain ⟨y,hy⟩:∃ y,y=1 <<< x:=⟨_,rfl⟩
   rw [←hy] at e1 h1x
   simp only [Int.toNat_natCast,u8_x,hx',hI,e1,vor_nat (show rowXk lw c[i] w < 9223372036854775808 by omega) (show y < 9223372036854775808 by omega)]
   clear e1
   refine ⟨by omega,by omega,by omega,by omega,fun he=>⟨by omega,by rw [InK_i64]; omega,by rw [InK_i64]; omega,(((rowXk lw c[i] w ||| y:Nat):Int),(w:Int) + 1),(by and_intros <;> first | rfl | trivial | simp),hq2 _ hlt2 ?_⟩,fun hne=>⟨by rw [InK_i64]; omega,(((rowXk lw c[i] w:Nat):Int),(w:Int) + 1),(by and_intros <;> first | rfl | trivial | simp),hq2 _ hlt2 ?_⟩⟩
   ·have he:c[i].getD w 0=120:=by simpa using he
    have hxn:(lw.getD w 0).toNat=x:=by omega
    simp only [rowXk,if_pos he,hxn,←hy]
   ·have hne:¬ c[i].getD w 0=120:=by simpa using hne
    simp only [rowXk,if_neg hne]
  ·have:w=lw.length:=by omega
   subst this
   have hxl:xs.length=i:=by rw [hJ]; simp [rowsX]; omega
   refine ⟨by simp only [List.length_singleton]; omega,by rw [InK_i64]; omega,(xs++[r],(i:Int) + 1),?_,hq _ hlt ?_⟩
   ·and_intros <;> first | rfl | trivial | simp
   ·rw [take_succ_eq hlt,hJ,hI]
    simp only [rowsX,List.map_append,List.map_cons,List.map_nil,rowX]
 ·have:i=c.length:=by omega
  subst this
  rw [List.take_length] at hJ
  rw [hJ]
  exact (by and_intros <;> first | rfl | trivial | simp)
def al_tie_Unweave:AL ((Int × List Int) × List (List UInt8)):=(.cons (.agg (.cons (.k (.i .i64)) (.one (.k (.list (.i .i64)))))) (.one (.k (.list .st))))
def pre_tie_Unweave (d:(Int × List Int) × List (List UInt8)):Prop:=d.1.2.length ≤ 1000∧d.2.length ≤ 1000∧∀ s ∈ d.2,s.length ≤ 1000
def res_tie_Unweave (d:(Int × List Int) × List (List UInt8)):SV:=.tup [.agg [.val (.i .i64) (if unwE d.1.1 d.1.2 d.2=0 then d.1.1 else 0),.lst 0],.val (.i .i64) (unwE d.1.1 d.1.2 d.2)]
def obs_tie_Unweave (d:(Int × List Int) × List (List UInt8)):List OB:=[.lst 3 (.i .i64) (unwR d.1.1 d.1.2 d.2) ((unwR d.1.1 d.1.2 d.2).isEmpty)]
def s_tie_Unweave:CSp:=mkSp al_tie_Unweave pre_tie_Unweave res_tie_Unweave obs_tie_Unweave
def vc_tie_Unweave (hk:Int) (lw:List Int) (c:List (List UInt8)):Prop :=
 (lw.length ≤ 1000000∧c.length ≤ 1000000∧∀ s ∈ c,s.length ≤ 1000000)∧(((unwErr hk lw c) != (0:Int))=true →
  ((((0:Int)=(if unwE hk lw c=0 then hk else 0)∧True∧(([]:List SV)=[]))∧(unwErr hk lw c)=(unwE hk lw c)∧(([]:List SV)=[]))∧(((unwR hk lw c)=[]∧(unwR hk lw c).isEmpty=true)∧True))) ∧
 (((unwErr hk lw c) != (0:Int))=false →
  (lw.length ≤ 1000∧c.length ≤ 1000∧∀ s ∈ c,s.length=lw.length)∧(((partF lw c).isSome)=true →
   ((((0:Int)=(if unwE hk lw c=0 then hk else 0)∧True∧(([]:List SV)=[]))∧(9:Int)=(unwE hk lw c)∧(([]:List SV)=[]))∧(((unwR hk lw c)=[]∧(unwR hk lw c).isEmpty=true)∧True))) ∧
  (((partF lw c).isSome)=false →
   (lw.length ≤ 1000∧c.length ≤ 1000∧(∀ s ∈ c,s.length=lw.length)∧∀ x ∈ lw,0 ≤ x∧x < 24)∧(((hk=(if unwE hk lw c=0 then hk else 0)∧True∧(([]:List SV)=[]))∧(0:Int)=(unwE hk lw c)∧(([]:List SV)=[]))∧(((rowsX lw c)=(unwR hk lw c)∧(rowsX lw c).isEmpty=(unwR hk lw c).isEmpty)∧True))))
def cx_tie_Unweave:Cx:=⟨[],[(79,s_tie_readCloth),(80,s_tie_harness_part),(81,s_tie_harness_design)],33,[],0,[],[],[],[],false,[],[],[]⟩
def lp_tie_Unweave (hk:Int) (lw:List Int) (c:List (List UInt8)):List (Nat × LoopAnn):=[]
set_option maxRecDepth 100000 in
theorem vq_tie_Unweave (d:(Int × List Int) × List (List UInt8)):gwp (cx_tie_Unweave) (lp_tie_Unweave d.1.1 d.1.2 d.2) c31 0 (gend [.cell 4 true 2,.tmp 5] (res_tie_Unweave d) (obs_tie_Unweave d)) (gstart 33 (AL.can al_tie_Unweave d))=vc_tie_Unweave d.1.1 d.1.2 d.2:=by kernel_rfl
abbrev Ok_tie_Unweave:Prop:=OkC Tryz.prog 31 s_tie_Unweave
theorem mk_tie_Unweave (h:∀ (hk:Int) (lw:List Int) (c:List (List UInt8)),(lw.length ≤ 1000∧c.length ≤ 1000∧∀ s ∈ c,s.length ≤ 1000)→vc_tie_Unweave hk lw c):OkC Tryz.prog 31 s_tie_Unweave :=
 okC_vc fun31 mixed (C:=cx_tie_Unweave) (V:=fun (d:(Int × List Int) × List (List UInt8))=>vc_tie_Unweave d.1.1 d.1.2 d.2) ⟨(.cons ok_tie_readCloth (.cons ok_tie_harness_part (.cons ok_tie_harness_design .nil))),XsOk.nil,ItsOk.nil,YlOk.nil,IysOk.nil⟩ (vq_tie_Unweave) fun d hp=>h d.1.1 d.1.2 d.2 hp
theorem unwErr_zero {hk:Int} {lw:List Int} {c:List (List UInt8)} (h:unwErr hk lw c=0):tieErr hk lw=0∧clothErr c lw.length=0:=by
 unfold unwErr at h
 split at h
 ·rename_i h1; exact (h1 h).elim
 ·rename_i h1; exact ⟨by simpa using h1,h⟩
theorem ok_tie_Unweave:Ok_tie_Unweave:=mk_tie_Unweave fun hk lw c h=>by
 obtain ⟨h1,h2,h3⟩:=h
 unfold vc_tie_Unweave
 refine ⟨⟨by omega,by omega,fun s hs=>by have:=h3 s hs; omega⟩,fun he=>?_,fun he=>?_⟩
 ·have he:unwErr hk lw c ≠ 0:=by simpa using he
  have hE:unwE hk lw c=unwErr hk lw c:=by simp [unwE,he]
  simp [unwR,hE,he]
 ·have he:unwErr hk lw c=0:=by simpa using he
  obtain ⟨e1,e2⟩:=unwErr_zero he
  obtain ⟨t1,t2,t3,t4,t5⟩:=tieErr_zero e1
  obtain ⟨c1,c2,c3,c4,c5⟩:=clothErr_zero e2
  have cl:∀ s ∈ c,s.length=lw.length:=fun s hs=>by have:=(c5 s hs).1; omega
  refine ⟨⟨h1,h2,cl⟩,fun hp=>?_,fun hp=>⟨⟨h1,h2,cl,fun x hx=>⟨(t5 x hx).1,by have:=(t5 x hx).2; omega⟩⟩,?_⟩⟩
  ·have hE:unwE hk lw c=9:=by simp [unwE,he,hp]
   simp [unwR,hE]
  ·have hE:unwE hk lw c=0:=by simp [unwE,he,hp]
   simp [unwR,hE]
def al_tie_Part:AL ((Int × List Int) × List (List UInt8)):=(.cons (.agg (.cons (.k (.i .i64)) (.one (.k (.list (.i .i64)))))) (.one (.k (.list .st))))
def pre_tie_Part (d:(Int × List Int) × List (List UInt8)):Prop:=d.1.2.length ≤ 1000∧d.2.length ≤ 1000∧∀ s ∈ d.2,s.length ≤ 1000
def res_tie_Part (d:(Int × List Int) × List (List UInt8)):SV:=.tup [.val (.i .i64) (if unwErr d.1.1 d.1.2 d.2=0 then (partI d.1.2 d.2).1 else 0),.val (.i .i64) (if unwErr d.1.1 d.1.2 d.2=0 then (partI d.1.2 d.2).2.1 else 0),.val (.i .i64) (if unwErr d.1.1 d.1.2 d.2=0 then (partI d.1.2 d.2).2.2 else 0),.val (.i .i64) (if unwErr d.1.1 d.1.2 d.2 ≠ 0 then unwErr d.1.1 d.1.2 d.2 else if (partF d.1.2 d.2).isSome then 0 else 7)]
def obs_tie_Part (d:(Int × List Int) × List (List UInt8)):List OB:=[]
def s_tie_Part:CSp:=mkSp al_tie_Part pre_tie_Part res_tie_Part obs_tie_Part
def vc_tie_Part (hk:Int) (lw:List Int) (c:List (List UInt8)):Prop :=
 (lw.length ≤ 1000000∧c.length ≤ 1000000∧∀ s ∈ c,s.length ≤ 1000000)∧(((unwErr hk lw c) != (0:Int))=true →
  (((0:Int)=(if unwErr hk lw c=0 then (partI lw c).1 else 0)∧(0:Int)=(if unwErr hk lw c=0 then (partI lw c).2.1 else 0)∧(0:Int)=(if unwErr hk lw c=0 then (partI lw c).2.2 else 0)∧(unwErr hk lw c)=(if unwErr hk lw c ≠ 0 then unwErr hk lw c else if (partF lw c).isSome then 0 else 7)∧(([]:List SV)=[]))∧(True))) ∧
 (((unwErr hk lw c) != (0:Int))=false →
  (lw.length ≤ 1000∧c.length ≤ 1000∧∀ s ∈ c,s.length=lw.length)∧((!((partF lw c).isSome))=true →
   (((0:Int)=(if unwErr hk lw c=0 then (partI lw c).1 else 0)∧(0:Int)=(if unwErr hk lw c=0 then (partI lw c).2.1 else 0)∧(0:Int)=(if unwErr hk lw c=0 then (partI lw c).2.2 else 0)∧(7:Int)=(if unwErr hk lw c ≠ 0 then unwErr hk lw c else if (partF lw c).isSome then 0 else 7)∧(([]:List SV)=[]))∧(True))) ∧
  ((!((partF lw c).isSome))=false →
   ((((partI lw c).1)=(if unwErr hk lw c=0 then (partI lw c).1 else 0)∧((partI lw c).2.1)=(if unwErr hk lw c=0 then (partI lw c).2.1 else 0)∧((partI lw c).2.2)=(if unwErr hk lw c=0 then (partI lw c).2.2 else 0)∧(0:Int)=(if unwErr hk lw c ≠ 0 then unwErr hk lw c else if (partF lw c).isSome then 0 else 7)∧(([]:List SV)=[]))∧(True))))
def cx_tie_Part:Cx:=⟨[],[(79,s_tie_readCloth),(80,s_tie_harness_part)],30,[],0,[],[],[],[],false,[],[],[]⟩
def lp_tie_Part (hk:Int) (lw:List Int) (c:List (List UInt8)):List (Nat × LoopAnn):=[]
set_option maxRecDepth 100000 in
theorem vq_tie_Part (d:(Int × List Int) × List (List UInt8)):gwp (cx_tie_Part) (lp_tie_Part d.1.1 d.1.2 d.2) c32 0 (gend [.tmp 4,.tmp 5,.tmp 6,.tmp 7] (res_tie_Part d) (obs_tie_Part d)) (gstart 30 (AL.can al_tie_Part d))=vc_tie_Part d.1.1 d.1.2 d.2:=by kernel_rfl
abbrev Ok_tie_Part:Prop:=OkC Tryz.prog 32 s_tie_Part
theorem mk_tie_Part (h:∀ (hk:Int) (lw:List Int) (c:List (List UInt8)),(lw.length ≤ 1000∧c.length ≤ 1000∧∀ s ∈ c,s.length ≤ 1000)→vc_tie_Part hk lw c):OkC Tryz.prog 32 s_tie_Part :=
 okC_vc fun32 mixed (C:=cx_tie_Part) (V:=fun (d:(Int × List Int) × List (List UInt8))=>vc_tie_Part d.1.1 d.1.2 d.2) ⟨(.cons ok_tie_readCloth (.cons ok_tie_harness_part .nil)),XsOk.nil,ItsOk.nil,YlOk.nil,IysOk.nil⟩ (vq_tie_Part) fun d hp=>h d.1.1 d.1.2 d.2 hp
theorem ok_tie_Part:Ok_tie_Part:=mk_tie_Part fun hk lw c h=>by
 obtain ⟨h1,h2,h3⟩:=h
 unfold vc_tie_Part
 refine ⟨⟨by omega,by omega,fun s hs=>by have:=h3 s hs; omega⟩,fun he=>?_,fun he=>?_⟩
 ·have he:unwErr hk lw c ≠ 0:=by simpa using he
  simp [he]
 ·have he:unwErr hk lw c=0:=by simpa using he
  obtain ⟨e1,e2⟩:=unwErr_zero he
  obtain ⟨c1,c2,c3,c4,c5⟩:=clothErr_zero e2
  have cl:∀ s ∈ c,s.length=lw.length:=fun s hs=>by have:=(c5 s hs).1; omega
  refine ⟨⟨h1,h2,cl⟩,fun hp=>?_,fun hp=>?_⟩
  ·have hp:partF lw c=none:=by simpa using hp
   simp [he,partI,hp]
  ·have hp:(partF lw c).isSome=true:=by simpa using hp
   simp [he,hp]
end Go.Proofs.Tryz
set_option linter.unusedVariables false
namespace Go.Proofs.Tryz
open Go Go.V Go.Proofs
def al_point_within_1:AL (Int × Int × Int):=(.cons (.k (.i .i64)) (.cons (.ptr (.one (.k (.i .i64)))) (.one (.ptr (.one (.k (.i .i64)))))))
def pre_point_within_1 (d:Int × Int × Int):Prop:=True
def res_point_within_1 (d:Int × Int × Int):SV:=.val .bo (decide (d.1 < d.2.1) || decide (d.2.2 < d.1))
def obs_point_within_1 (d:Int × Int × Int):List OB:=[]
def s_point_within_1:CSp:=mkSp al_point_within_1 pre_point_within_1 res_point_within_1 obs_point_within_1
def vc_point_within_1 (n:Int) (a:Int) (b:Int):Prop :=
 (((decide (n < a)) || (decide (n > b)))=(decide (n < a) || decide (b < n))∧(True))
def cx_point_within_1:Cx:=⟨[],[],13,[],0,[],[],[],[],false,[],[],[]⟩
def lp_point_within_1 (n:Int) (a:Int) (b:Int):List (Nat × LoopAnn):=[]
set_option maxRecDepth 100000 in
theorem vq_point_within_1 (d:Int × Int × Int):gwp (cx_point_within_1) (lp_point_within_1 d.1 d.2.1 d.2.2) c120 0 (gend [.tmp 4] (res_point_within_1 d) (obs_point_within_1 d)) (gstart 13 (AL.can al_point_within_1 d))=vc_point_within_1 d.1 d.2.1 d.2.2:=by kernel_rfl
abbrev Ok_point_within_1:Prop:=OkC Tryz.prog 120 s_point_within_1
theorem mk_point_within_1 (h:∀ (n:Int) (a:Int) (b:Int),(True)→vc_point_within_1 n a b):OkC Tryz.prog 120 s_point_within_1 :=
 okC_vc fun120 mixed (C:=cx_point_within_1) (V:=fun (d:Int × Int × Int)=>vc_point_within_1 d.1 d.2.1 d.2.2) ⟨.nil,XsOk.nil,ItsOk.nil,YlOk.nil,IysOk.nil⟩ (vq_point_within_1) fun d hp=>h d.1 d.2.1 d.2.2 hp
theorem ok_point_within_1:Ok_point_within_1:=mk_point_within_1 fun n a b _=>by
 exact ⟨rfl,trivial⟩
def al_point_within:AL (Int × Int × List Int):=(.cons (.k (.i .i64)) (.cons (.k (.i .i64)) (.one (.k (.list (.i .i64))))))
def pre_point_within (d:Int × Int × List Int):Prop:=d.2.2.length ≤ 1000000
def res_point_within (d:Int × Int × List Int):SV:=.val .bo (!(d.2.2.any fun n=>decide (n < d.1) || decide (d.2.1 < n)))
def obs_point_within (d:Int × Int × List Int):List OB:=[]
def s_point_within:CSp:=mkSp al_point_within pre_point_within res_point_within obs_point_within
def vc_point_within (a:Int) (b:Int) (l:List Int):Prop :=
 (l.length ≤ 1000000∧∀ x ∈ l,(fun (x1:Int)=>True) x)∧((!(l.any (fun (x1:Int)=>(decide (x1 < a) || decide (b < x1)))))=(!(l.any fun n=>decide (n < a) || decide (b < n)))∧(True))
def cx_point_within:Cx:=⟨[],[(101,s_slices_ContainsFunc_int_int),(120,s_point_within_1)],11,[],0,[],[],[],[],false,[],[],[]⟩
def lp_point_within (a:Int) (b:Int) (l:List Int):List (Nat × LoopAnn):=[]
set_option maxRecDepth 100000 in
theorem vq_point_within (d:Int × Int × List Int):gwp (cx_point_within) (lp_point_within d.1 d.2.1 d.2.2) c98 0 (gend [.tmp 6] (res_point_within d) (obs_point_within d)) (gstart 11 (AL.can al_point_within d))=vc_point_within d.1 d.2.1 d.2.2:=by kernel_rfl
abbrev Ok_point_within:Prop:=OkC Tryz.prog 98 s_point_within
theorem mk_point_within (h:∀ (a:Int) (b:Int) (l:List Int),(l.length ≤ 1000000)→vc_point_within a b l):OkC Tryz.prog 98 s_point_within :=
 okC_vc fun98 mixed (C:=cx_point_within) (V:=fun (d:Int × Int × List Int)=>vc_point_within d.1 d.2.1 d.2.2) ⟨(.cons ok_slices_ContainsFunc_int_int (.cons ok_point_within_1 .nil)),XsOk.nil,ItsOk.nil,YlOk.nil,IysOk.nil⟩ (vq_point_within) fun d hp=>h d.1 d.2.1 d.2.2 hp
theorem ok_point_within:Ok_point_within:=mk_point_within fun a b l h=>by
 exact ⟨⟨h,fun _ _=>trivial⟩,rfl,trivial⟩
def al_point_Check:AL (Int × List Int):=(.one (.agg (.cons (.k (.i .i64)) (.one (.k (.list (.i .i64)))))))
def pre_point_Check (d:Int × List Int):Prop:=d.2.length ≤ 1000000
def res_point_Check (d:Int × List Int):SV:=.val (.i .i64) (pointErr d.1 d.2)
def obs_point_Check (d:Int × List Int):List OB:=[]
def s_point_Check:CSp:=mkSp al_point_Check pre_point_Check res_point_Check obs_point_Check
def vc_point_Check (hd:Int) (rows:List Int):Prop :=
 ([hd].length ≤ 1000000)∧((!(!([hd].any fun n=>decide (n < (1:Int)) || decide ((24:Int) < n))))=true →
  ((2:Int)=(pointErr hd rows)∧(True))) ∧
 ((!(!([hd].any fun n=>decide (n < (1:Int)) || decide ((24:Int) < n))))=false →
  ((decide ((lI rows) > (60:Int)))=true →
   ((5:Int)=(pointErr hd rows)∧(True))) ∧
  ((decide ((lI rows) > (60:Int)))=false →
   (((lI rows) == (0:Int))=true →
    ((7:Int)=(pointErr hd rows)∧(True))) ∧
   (((lI rows) == (0:Int))=false →
    (0 ≤ hd)∧(I64 (shlI .i64 (1:Int) hd))∧(I64 ((shlI .i64 (1:Int) hd) - (1:Int)))∧(rows.length ≤ 1000000)∧((!(!(rows.any fun n=>decide (n < (0:Int)) || decide (((shlI .i64 (1:Int) hd) - (1:Int)) < n))))=true →
     ((2:Int)=(pointErr hd rows)∧(True))) ∧
    ((!(!(rows.any fun n=>decide (n < (0:Int)) || decide (((shlI .i64 (1:Int) hd) - (1:Int)) < n))))=false →
     ((0:Int)=(pointErr hd rows)∧(True))))))
def cx_point_Check:Cx:=⟨[(3,(.i .i64))],[(98,s_point_within)],28,[],0,[],[],[],[],false,[],[],[]⟩
def lp_point_Check (hd:Int) (rows:List Int):List (Nat × LoopAnn):=[]
set_option maxRecDepth 100000 in
theorem vq_point_Check (d:Int × List Int):gwp (cx_point_Check) (lp_point_Check d.1 d.2) c71 0 (gend [.tmp 2] (res_point_Check d) (obs_point_Check d)) (gstart 28 (AL.can al_point_Check d))=vc_point_Check d.1 d.2:=by kernel_rfl
abbrev Ok_point_Check:Prop:=OkC Tryz.prog 71 s_point_Check
theorem mk_point_Check (h:∀ (hd:Int) (rows:List Int),(rows.length ≤ 1000000)→vc_point_Check hd rows):OkC Tryz.prog 71 s_point_Check :=
 okC_vc fun71 mixed (C:=cx_point_Check) (V:=fun (d:Int × List Int)=>vc_point_Check d.1 d.2) ⟨(.cons ok_point_within .nil),XsOk.nil,ItsOk.nil,YlOk.nil,IysOk.nil⟩ (vq_point_Check) fun d hp=>h d.1 d.2 hp
theorem shl_one {h:Int} (h1:0 ≤ h) (h2:h ≤ 62):shlI .i64 1 h=2 ^ h.toNat:=by
 obtain ⟨n,rfl⟩:=Int.eq_ofNat_of_zero_le h1
 have:Nat.min n 64=n:=Nat.min_eq_left (by omega)
 simp only [shlI,Int.toNat_natCast,IntKind.bits,this,Int.one_mul]
theorem pow_bound {h:Int} (h1:1 ≤ h) (h2:h ≤ 24):(2:Int) ≤ 2 ^ h.toNat∧(2:Int) ^ h.toNat ≤ 16777216:=by
 obtain ⟨n,rfl⟩:=Int.eq_ofNat_of_zero_le (show 0 ≤ h by omega)
 have a1:2 ^ 1 ≤ 2 ^ n:=Nat.pow_le_pow_right (by omega) (by omega)
 have a2:2 ^ n ≤ 2 ^ 24:=Nat.pow_le_pow_right (by omega) (by omega)
 simp only [Int.toNat_natCast]
 have e:((2:Int) ^ n)=((2 ^ n:Nat):Int):=by norm_cast
 rw [e]
 omega
theorem ok_point_Check:Ok_point_Check:=mk_point_Check fun hd rows hl=>by
 unfold vc_point_Check; (try delta lI gD sT I64); simp only [and_true,decide_eq_true_eq,decide_eq_false_iff_not,beq_iff_eq,ne_eq,beq_eq_false_iff_ne,gt_iff_lt,Bool.not_not]
 simp only [←nI]
 refine ⟨by simp,fun h1=>by simp at h1; simp [pointErr,h1],fun h1=>⟨fun h2=>?_,fun h2=>⟨fun h3=>?_,fun h3=>?_⟩⟩⟩
 all_goals simp only [List.any_cons,List.any_nil,Bool.or_false,Bool.not_eq_false'] at h1
 ·have:60 < rows.length:=by omega
  simp [pointErr,h1,this]
 ·have h3:rows.length=0:=by omega
  simp [pointErr,h1,h3]
 have h2':¬ 60 < rows.length:=by omega
 have h3':¬ rows.length=0:=by omega
 have hi:1 ≤ hd∧hd ≤ 24:=by simpa [inI] using h1
 have hp:=pow_bound hi.1 hi.2
 have hte:pointErr hd rows=if rows.any (fun x=>!inI x 0 (2 ^ hd.toNat - 1)) then 2 else 0:=by simp only [pointErr,h1,h2',h3']; simp
 rw [hte]
 simp only [InK_i64,shl_one (show 0 ≤ hd by omega) (by omega)]
 refine ⟨by omega,by omega,by omega,by omega,fun h=>by rw [if_pos h],fun h=>by rw [h]; rfl⟩
def al_tie_mark:AL (Bool):=(.one (.k .bo))
def pre_tie_mark (d:Bool):Prop:=True
def res_tie_mark (d:Bool):SV:=.val (.i .u8) (markI d)
def obs_tie_mark (d:Bool):List OB:=[]
def s_tie_mark:CSp:=mkSp al_tie_mark pre_tie_mark res_tie_mark obs_tie_mark
def vc_tie_mark (x:Bool):Prop :=
 (x=true →
  ((120:Int)=(markI x)∧(True))) ∧
 (x=false →
  ((46:Int)=(markI x)∧(True)))
def cx_tie_mark:Cx:=⟨[],[],4,[],0,[],[],[],[],false,[],[],[]⟩
def lp_tie_mark (x:Bool):List (Nat × LoopAnn):=[]
set_option maxRecDepth 100000 in
theorem vq_tie_mark (d:Bool):gwp (cx_tie_mark) (lp_tie_mark d) c107 0 (gend [.tmp 2] (res_tie_mark d) (obs_tie_mark d)) (gstart 4 (AL.can al_tie_mark d))=vc_tie_mark d:=by kernel_rfl
abbrev Ok_tie_mark:Prop:=OkC Tryz.prog 107 s_tie_mark
theorem mk_tie_mark (h:∀ (x:Bool),(True)→vc_tie_mark x):OkC Tryz.prog 107 s_tie_mark :=
 okC_vc fun107 mixed (C:=cx_tie_mark) (V:=fun (d:Bool)=>vc_tie_mark d) ⟨.nil,XsOk.nil,ItsOk.nil,YlOk.nil,IysOk.nil⟩ (vq_tie_mark) fun d hp=>h d hp
theorem ok_tie_mark:Ok_tie_mark:=mk_tie_mark fun x _=>by
 cases x <;> simp [vc_tie_mark,markI]
def al_tie_harness_lifted:AL ((Int × List Int) × Int × Int):=(.cons (.agg (.cons (.k (.i .i64)) (.one (.k (.list (.i .i64)))))) (.cons (.k (.i .i64)) (.one (.k (.i .i64)))))
def pre_tie_harness_lifted (d:(Int × List Int) × Int × Int):Prop:=0 ≤ d.2.2∧d.2.2 < d.1.2.length∧0 ≤ d.2.1∧d.2.1 < 9223372036854775808∧∀ x ∈ d.1.2,0 ≤ x∧x ≤ 60
def res_tie_harness_lifted (d:(Int × List Int) × Int × Int):SV:=.val .bo (d.2.1.toNat.testBit (d.1.2.getD d.2.2.toNat 0).toNat)
def obs_tie_harness_lifted (d:(Int × List Int) × Int × Int):List OB:=[]
def s_tie_harness_lifted:CSp:=mkSp al_tie_harness_lifted pre_tie_harness_lifted res_tie_harness_lifted obs_tie_harness_lifted
def vc_tie_harness_lifted (hk:Int) (lw:List Int) (row:Int) (w:Int):Prop :=
 (0 ≤ w)∧(w < (List.length lw))∧(0 ≤ (gD lw w 0))∧(((vbits .and .i64 (shrI .i64 row (gD lw w 0)) (1:Int)) == (1:Int))=(row.toNat.testBit (lw.getD w.toNat 0).toNat)∧(True))
def cx_tie_harness_lifted:Cx:=⟨[],[],17,[],0,[],[],[],[],false,[],[],[]⟩
def lp_tie_harness_lifted (hk:Int) (lw:List Int) (row:Int) (w:Int):List (Nat × LoopAnn):=[]
set_option maxRecDepth 100000 in
theorem vq_tie_harness_lifted (d:(Int × List Int) × Int × Int):gwp (cx_tie_harness_lifted) (lp_tie_harness_lifted d.1.1 d.1.2 d.2.1 d.2.2) c108 0 (gend [.tmp 6] (res_tie_harness_lifted d) (obs_tie_harness_lifted d)) (gstart 17 (AL.can al_tie_harness_lifted d))=vc_tie_harness_lifted d.1.1 d.1.2 d.2.1 d.2.2:=by kernel_rfl
abbrev Ok_tie_harness_lifted:Prop:=OkC Tryz.prog 108 s_tie_harness_lifted
theorem mk_tie_harness_lifted (h:∀ (hk:Int) (lw:List Int) (row:Int) (w:Int),(0 ≤ w∧w < lw.length∧0 ≤ row∧row < 9223372036854775808∧∀ x ∈ lw,0 ≤ x∧x ≤ 60)→vc_tie_harness_lifted hk lw row w):OkC Tryz.prog 108 s_tie_harness_lifted :=
 okC_vc fun108 mixed (C:=cx_tie_harness_lifted) (V:=fun (d:(Int × List Int) × Int × Int)=>vc_tie_harness_lifted d.1.1 d.1.2 d.2.1 d.2.2) ⟨.nil,XsOk.nil,ItsOk.nil,YlOk.nil,IysOk.nil⟩ (vq_tie_harness_lifted) fun d hp=>h d.1.1 d.1.2 d.2.1 d.2.2 hp
theorem ok_tie_harness_lifted:Ok_tie_harness_lifted:=mk_tie_harness_lifted fun hk lw row w h=>by
 obtain ⟨h1,h2,h3,h4,h5⟩:=h
 obtain ⟨w,rfl⟩:=Int.eq_ofNat_of_zero_le h1
 obtain ⟨r,rfl⟩:=Int.eq_ofNat_of_zero_le h3
 have hw:w < lw.length:=by omega
 have hx:=h5 _ (List.getElem_mem hw)
 obtain ⟨k,hk⟩:=Int.eq_ofNat_of_zero_le hx.1
 unfold vc_tie_harness_lifted; (try delta lI gD sT I64); simp only [and_true,Int.toNat_natCast,Int.ofNat_lt,getD_nat hw,hk]
 refine ⟨by omega,by omega,by omega,?_⟩
 exact shr_bit (by omega) (by omega)
end Go.Proofs.Tryz
set_option linter.unusedVariables false
namespace Go.Proofs.Tryz
open Go Go.V Go.Proofs
def cx_strings_Builder_copyCheck:Cx:=⟨[],[],20,[],0,[(152,sameX)],[],[],[],false,[],[],[]⟩
def x_strings_Builder_copyCheck:XSp:=inlX cx_strings_Builder_copyCheck (fun _=>[]) c135 [] 20
theorem okx_strings_Builder_copyCheck:XOk Tryz.prog 135 x_strings_Builder_copyCheck:=inlX_ok fun135 mixed (C:=cx_strings_Builder_copyCheck) ⟨.nil,(XsOk.cons (sameX_ok same152) XsOk.nil),ItsOk.nil,YlOk.nil,IysOk.nil⟩ _
def cx_strings_Builder_WriteByte:Cx:=⟨[(5,(.i .u8))],[],17,[],0,[(135,x_strings_Builder_copyCheck)],[],[],[],false,[],[],[]⟩
def x_strings_Builder_WriteByte:XSp:=inlX cx_strings_Builder_WriteByte (fun _=>[]) c106 [.tmp 4] 17
theorem okx_strings_Builder_WriteByte:XOk Tryz.prog 106 x_strings_Builder_WriteByte:=inlX_ok fun106 mixed (C:=cx_strings_Builder_WriteByte) ⟨.nil,(XsOk.cons okx_strings_Builder_copyCheck XsOk.nil),ItsOk.nil,YlOk.nil,IysOk.nil⟩ _
def cx_strings_Builder_String:Cx:=⟨[],[],14,[],0,[],[],[],[],false,[],[],[]⟩
def x_strings_Builder_String:XSp:=inlX cx_strings_Builder_String (fun _=>[]) c109 [.tmp 2] 14
theorem okx_strings_Builder_String:XOk Tryz.prog 109 x_strings_Builder_String:=inlX_ok fun109 mixed (C:=cx_strings_Builder_String) ⟨.nil,XsOk.nil,ItsOk.nil,YlOk.nil,IysOk.nil⟩ _
def al_tie_harness_pick:AL ((Int × List Int) × Int):=(.cons (.agg (.cons (.k (.i .i64)) (.one (.k (.list (.i .i64)))))) (.one (.k (.i .i64))))
def pre_tie_harness_pick (d:(Int × List Int) × Int):Prop:=d.1.2.length ≤ 110∧0 ≤ d.2∧d.2 < 9223372036854775808∧∀ x ∈ d.1.2,0 ≤ x∧x ≤ 60
def res_tie_harness_pick (d:(Int × List Int) × Int):SV:=.val .st (pickS d.1.2 d.2)
def obs_tie_harness_pick (d:(Int × List Int) × Int):List OB:=[]
def s_tie_harness_pick:CSp:=mkSp al_tie_harness_pick pre_tie_harness_pick res_tie_harness_pick obs_tie_harness_pick
def vc_tie_harness_pick (hk:Int) (lw:List Int) (row:Int):Prop :=
 ∃ (e4:Unit) (d40:Bool × (List Int) × Int),((row=row∧True∧True∧(lI lw)=(lI lw)∧(0:Int)=d40.2.2∧True)∧((hk=hk∧lw=lw∧(([]:List SV)=[]))∧(d40.1=false∧True∧(([]:List SV)=[]))∧(d40.2.1=[]∧(List.isEmpty d40.2.1)=true)∧True)) ∧
 LoopP (fun (d4:Bool × (List Int) × Int) (q4:(Bool × (List Int) × Int)→Prop) =>
  ((decide (d4.2.2 < (lI lw)))=true →
   (0 ≤ d4.2.2∧d4.2.2 < lw.length∧0 ≤ row∧row < 9223372036854775808∧∀ x ∈ lw,0 ≤ x∧x ≤ 60)∧(True)∧∀ w5:List Value,∀ w6:List Value,((!d4.1)=true →
    w6=w6∧(((List.length d4.2.1) + (List.length [(markI (row.toNat.testBit (lw.getD d4.2.2.toNat 0).toNat))])) * 1 ≤ 70368744177664)∧w5=w5∧(I64 (d4.2.2 + (1:Int)))∧(∃ d7:Bool × (List Int) × Int,((row=row∧True∧True∧(lI lw)=(lI lw)∧(d4.2.2 + (1:Int))=d7.2.2∧True)∧((hk=hk∧lw=lw∧(([]:List SV)=[]))∧(d7.1=true∧True∧(([]:List SV)=[]))∧((d4.2.1++[(markI (row.toNat.testBit (lw.getD d4.2.2.toNat 0).toNat))])=d7.2.1∧false=(List.isEmpty d7.2.1))∧True))∧q4 d7)) ∧
   ((!d4.1)=false →
    (d4.1=true)∧((!true)=true →
     False) ∧
    ((!true)=false →
     w6=w6∧(((List.length d4.2.1) + (List.length [(markI (row.toNat.testBit (lw.getD d4.2.2.toNat 0).toNat))])) * 1 ≤ 70368744177664)∧w5=w5∧(I64 (d4.2.2 + (1:Int)))∧(∃ d8:Bool × (List Int) × Int,((row=row∧True∧True∧(lI lw)=(lI lw)∧(d4.2.2 + (1:Int))=d8.2.2∧True)∧((hk=hk∧lw=lw∧(([]:List SV)=[]))∧(d4.1=d8.1∧True∧(([]:List SV)=[]))∧((d4.2.1++[(markI (row.toNat.testBit (lw.getD d4.2.2.toNat 0).toNat))])=d8.2.1∧false=(List.isEmpty d8.2.1))∧True))∧q4 d8)))) ∧
  ((decide (d4.2.2 < (lI lw)))=false →
   ∀ w9:List Value,((List.isEmpty d4.2.1)=false→d4.2.1 ≠ [])∧((lI d4.2.1)=(List.length d4.2.1))∧((List.length d4.2.1) ≤ 4611686018427387904)∧w9=w9∧((bytesI d4.2.1)=(pickS lw row)∧(True)))) d40
def cx_tie_harness_pick:Cx:=⟨[(5,(.i .u8))],[(108,s_tie_harness_lifted),(107,s_tie_mark)],22,[],0,[(106,x_strings_Builder_WriteByte),(135,x_strings_Builder_copyCheck),(152,sameX),(109,x_strings_Builder_String)],[],[],[],false,[],[],[]⟩
def lp_tie_harness_pick (hk:Int) (lw:List Int) (row:Int):List (Nat × LoopAnn):=[(0,⟨Unit,Bool × (List Int) × Int,[1,2,5,10,11],fun e x=>[.val (.i .i64) row,.box 2 0,.box 5 0,.val (.i .i64) (((List.length lw):Nat):Int),.val (.i .i64) x.2.2],fun e x=>[(2,.slot 2,.cells [.val (.i .i64) hk,.val (.list (.i .i64)) lw] (some 120)),(5,.slot 5,.cells [.dd 5 (.obx x.1),.lst 2000014] (some 175)),(2000014,.cell 5 1,.lst 5 (.i .u8) x.2.1 (List.isEmpty x.2.1))]⟩)]
set_option maxRecDepth 100000 in
theorem vq_tie_harness_pick (d:(Int × List Int) × Int):gwp (cx_tie_harness_pick) (lp_tie_harness_pick d.1.1 d.1.2 d.2) c72 0 (gend [.tmp 4] (res_tie_harness_pick d) (obs_tie_harness_pick d)) (gstart 22 (AL.can al_tie_harness_pick d))=vc_tie_harness_pick d.1.1 d.1.2 d.2:=by kernel_rfl
abbrev Ok_tie_harness_pick:Prop:=OkC Tryz.prog 72 s_tie_harness_pick
theorem mk_tie_harness_pick (h:∀ (hk:Int) (lw:List Int) (row:Int),(lw.length ≤ 110∧0 ≤ row∧row < 9223372036854775808∧∀ x ∈ lw,0 ≤ x∧x ≤ 60)→vc_tie_harness_pick hk lw row):OkC Tryz.prog 72 s_tie_harness_pick :=
 okC_vc fun72 mixed (C:=cx_tie_harness_pick) (V:=fun (d:(Int × List Int) × Int)=>vc_tie_harness_pick d.1.1 d.1.2 d.2) ⟨(.cons ok_tie_harness_lifted (.cons ok_tie_mark .nil)),(XsOk.cons okx_strings_Builder_WriteByte (XsOk.cons okx_strings_Builder_copyCheck (XsOk.cons (sameX_ok same152) (XsOk.cons okx_strings_Builder_String XsOk.nil)))),ItsOk.nil,YlOk.nil,IysOk.nil⟩ (vq_tie_harness_pick) fun d hp=>h d.1.1 d.1.2 d.2 hp
theorem bytes_mark (lw:List Int) (row:Int):bytesI (lw.map fun k=>markI (row.toNat.testBit k.toNat))=pickS lw row:=by
 simp only [bytesI,pickS,List.map_map]
 refine List.map_congr_left fun k _=>?_
 simp only [Function.comp,markI]
 split <;> rfl
theorem ok_tie_harness_pick:Ok_tie_harness_pick:=mk_tie_harness_pick fun hk lw row h=>by
 obtain ⟨h1,h2,h3,h4⟩:=h
 unfold vc_tie_harness_pick; (try delta lI gD sT I64); simp only [true_and,and_true,exists_const,decide_eq_true_eq,decide_eq_false_iff_not,ne_eq,Bool.not_eq_true',Bool.not_eq_false',InK_i64]
 refine ⟨(false,[],0),⟨rfl,rfl,rfl,rfl⟩,?_⟩
 refine ⟨fun d=>∃ i:Nat,i ≤ lw.length∧d.2.2=i∧d.2.1=(lw.take i).map fun k=>markI (row.toNat.testBit k.toNat),fun d=>lw.length - d.2.2.toNat,⟨0,Nat.zero_le _,rfl,by simp⟩,?_⟩
 rintro ⟨c,xs,_⟩ ⟨i,hi,rfl,hxs⟩
 dsimp only at hxs ⊢
 have hxl:xs.length=i:=by rw [hxs]; simp; omega
 refine ⟨fun hlt=>?_,fun hge=>?_⟩
 ·have hlt:i < lw.length:=by omega
  have hn:xs++[markI (row.toNat.testBit lw[i].toNat)]=(lw.take (i + 1)).map fun k=>markI (row.toNat.testBit k.toNat):=by rw [hxs,take_succ_eq hlt,List.map_append]; rfl
  simp only [Int.toNat_natCast,getD_nat hlt,List.length_singleton]
  refine ⟨⟨by omega,by omega,h2,h3,h4⟩,fun _ w6=>⟨fun hc=>?_,fun hc=>?_⟩⟩
  ·exact ⟨by omega,by omega,(true,xs++[markI (row.toNat.testBit lw[i].toNat)],(i:Int) + 1),⟨rfl,rfl,rfl,by simp⟩,⟨i + 1,by omega,by simp,hn⟩,by dsimp only; omega⟩
  ·refine ⟨by simpa using hc,?_⟩
   refine ⟨fun h=>by simp at h,fun _=>?_⟩
   exact ⟨by omega,by omega,(c,xs++[markI (row.toNat.testBit lw[i].toNat)],(i:Int) + 1),⟨rfl,rfl,rfl,by simp⟩,⟨i + 1,by omega,by simp,hn⟩,by dsimp only; omega⟩
 ·have:i=lw.length:=by omega
  subst this
  rw [List.take_length] at hxs
  refine fun _=>⟨?_,by omega,?_⟩
  ·intro hne h0; rw [h0] at hne; simp at hne
  ·rw [hxs]; exact bytes_mark lw row
end Go.Proofs.Tryz
set_option linter.unusedVariables false
namespace Go.Proofs.Tryz
open Go Go.V Go.Proofs
def al_tie_Weave:AL ((Int × List Int) × Int × List Int):=(.cons (.agg (.cons (.k (.i .i64)) (.one (.k (.list (.i .i64)))))) (.one (.agg (.cons (.k (.i .i64)) (.one (.k (.list (.i .i64))))))))
def pre_tie_Weave (d:(Int × List Int) × Int × List Int):Prop:=d.1.2.length ≤ 110∧d.2.2.length ≤ 110
def res_tie_Weave (d:(Int × List Int) × Int × List Int):SV:=.tup [.lst 0,.val (.i .i64) (weaveErr d.1.1 d.1.2 d.2.1 d.2.2)]
def obs_tie_Weave (d:(Int × List Int) × Int × List Int):List OB:=[.lst 9 .st (weaveC d.1.1 d.1.2 d.2.1 d.2.2) ((weaveC d.1.1 d.1.2 d.2.1 d.2.2).isEmpty)]
def s_tie_Weave:CSp:=mkSp al_tie_Weave pre_tie_Weave res_tie_Weave obs_tie_Weave
def vc_tie_Weave (hk:Int) (lw:List Int) (hd:Int) (rows:List Int):Prop :=
 (lw.length ≤ 1000000)∧(((tieErr hk lw) != (0:Int))=true →
  ((True∧(tieErr hk lw)=weaveErr hk lw hd rows∧(([]:List SV)=[]))∧(((weaveC hk lw hd rows)=[]∧(weaveC hk lw hd rows).isEmpty=true)∧True))) ∧
 (((tieErr hk lw) != (0:Int))=false →
  (rows.length ≤ 1000000)∧(((pointErr hd rows) != (0:Int))=true →
   ((True∧(pointErr hd rows)=weaveErr hk lw hd rows∧(([]:List SV)=[]))∧(((weaveC hk lw hd rows)=[]∧(weaveC hk lw hd rows).isEmpty=true)∧True))) ∧
  (((pointErr hd rows) != (0:Int))=false →
   ((hd != hk)=true →
    ((True∧(4:Int)=weaveErr hk lw hd rows∧(([]:List SV)=[]))∧(((weaveC hk lw hd rows)=[]∧(weaveC hk lw hd rows).isEmpty=true)∧True))) ∧
   ((hd != hk)=false →
    ∃ (e4:Unit) (d40:(List (List UInt8)) × Int),((True∧True∧rows=rows∧(lI rows)=(lI rows)∧(0:Int)=d40.2∧True)∧((hk=hk∧lw=lw∧(([]:List SV)=[]))∧(d40.1=[]∧(List.isEmpty d40.1)=true)∧True)) ∧
    LoopP (fun (d4:(List (List UInt8)) × Int) (q4:((List (List UInt8)) × Int)→Prop) =>
     ((decide (d4.2 < (lI rows)))=true →
      (0 ≤ d4.2)∧(d4.2 < (List.length rows))∧(lw.length ≤ 110∧0 ≤ (gD rows d4.2 0)∧(gD rows d4.2 0) < 9223372036854775808∧∀ x ∈ lw,0 ≤ x∧x ≤ 60)∧(((List.length d4.1) + (List.length [(pickS lw (gD rows d4.2 0))])) * 16 ≤ 70368744177664)∧(I64 (d4.2 + (1:Int)))∧(∃ d5:(List (List UInt8)) × Int,((True∧True∧rows=rows∧(lI rows)=(lI rows)∧(d4.2 + (1:Int))=d5.2∧True)∧((hk=hk∧lw=lw∧(([]:List SV)=[]))∧((d4.1++[(pickS lw (gD rows d4.2 0))])=d5.1∧false=(List.isEmpty d5.1))∧True))∧q4 d5)) ∧
     ((decide (d4.2 < (lI rows)))=false →
      ((True∧(0:Int)=weaveErr hk lw hd rows∧(([]:List SV)=[]))∧((d4.1=(weaveC hk lw hd rows)∧(List.isEmpty d4.1)=(weaveC hk lw hd rows).isEmpty)∧True)))) d40)))
def cx_tie_Weave:Cx:=⟨[(9,.st)],[(58,s_tie_Check),(71,s_point_Check),(72,s_tie_harness_pick)],43,[],0,[],[],[],[],false,[],[],[]⟩
def lp_tie_Weave (hk:Int) (lw:List Int) (hd:Int) (rows:List Int):List (Nat × LoopAnn):=[(1,⟨Unit,(List (List UInt8)) × Int,[2,4,28,29,30],fun e x=>[.box 2 0,.lst 40,.val (.list (.i .i64)) rows,.val (.i .i64) (((List.length rows):Nat):Int),.val (.i .i64) x.2],fun e x=>[(2,.slot 2,.cells [.val (.i .i64) hk,.val (.list (.i .i64)) lw] (some 26)),(40,.slot 4,.lst 9 .st x.1 (List.isEmpty x.1))]⟩)]
set_option maxRecDepth 100000 in
theorem vq_tie_Weave (d:(Int × List Int) × Int × List Int):gwp (cx_tie_Weave) (lp_tie_Weave d.1.1 d.1.2 d.2.1 d.2.2) c21 0 (gend [.tmp 4,.tmp 5] (res_tie_Weave d) (obs_tie_Weave d)) (gstart 43 (AL.can al_tie_Weave d))=vc_tie_Weave d.1.1 d.1.2 d.2.1 d.2.2:=by kernel_rfl
abbrev Ok_tie_Weave:Prop:=OkC Tryz.prog 21 s_tie_Weave
theorem mk_tie_Weave (h:∀ (hk:Int) (lw:List Int) (hd:Int) (rows:List Int),(lw.length ≤ 110∧rows.length ≤ 110)→vc_tie_Weave hk lw hd rows):OkC Tryz.prog 21 s_tie_Weave :=
 okC_vc fun21 mixed (C:=cx_tie_Weave) (V:=fun (d:(Int × List Int) × Int × List Int)=>vc_tie_Weave d.1.1 d.1.2 d.2.1 d.2.2) ⟨(.cons ok_tie_Check (.cons ok_point_Check (.cons ok_tie_harness_pick .nil))),XsOk.nil,ItsOk.nil,YlOk.nil,IysOk.nil⟩ (vq_tie_Weave) fun d hp=>h d.1.1 d.1.2 d.2.1 d.2.2 hp
theorem pointErr_zero {hd:Int} {rows:List Int} (h:pointErr hd rows=0):1 ≤ hd∧hd ≤ 24∧rows.length ≤ 60∧rows.length ≠ 0∧∀ x ∈ rows,0 ≤ x∧x < 2 ^ hd.toNat:=by
 unfold pointErr at h
 split at h
 ·cases h
 ·rename_i h1
  split at h
  ·cases h
  ·rename_i h2
   split at h
   ·cases h
   ·rename_i h3
    split at h
    ·cases h
    ·rename_i h4
     have h1:1 ≤ hd∧hd ≤ 24:=by simpa [inI] using h1
     refine ⟨h1.1,h1.2,by omega,h3,fun x hx=>?_⟩
     have h5:∀ x ∈ rows,inI x 0 (2 ^ hd.toNat - 1)=true:=by simpa using h4
     have:=h5 x hx
     simp only [inI,Bool.and_eq_true,decide_eq_true_eq] at this
     omega
theorem ok_tie_Weave:Ok_tie_Weave:=mk_tie_Weave fun hk lw hd rows h=>by
 obtain ⟨h1,h2⟩:=h
 unfold vc_tie_Weave; (try delta lI gD sT I64); simp only [true_and,and_true,exists_const,decide_eq_true_eq,decide_eq_false_iff_not,bne_iff_ne,ne_eq,bne_eq_false_iff_eq,InK_i64]
 refine ⟨by omega,fun he=>?_,fun he=>⟨by omega,fun hp=>?_,fun hp=>⟨fun hh=>?_,fun hh=>?_⟩⟩⟩
 ·have e:weaveErr hk lw hd rows=tieErr hk lw:=by simp [weaveErr,he]
  have e2:weaveC hk lw hd rows=[]:=by simp [weaveC,e,he]
  rw [e,e2]; exact ⟨rfl,rfl,rfl⟩
 ·have e:weaveErr hk lw hd rows=pointErr hd rows:=by simp [weaveErr,he,hp]
  have e2:weaveC hk lw hd rows=[]:=by simp [weaveC,e,hp]
  rw [e,e2]; exact ⟨rfl,rfl,rfl⟩
 ·have e:weaveErr hk lw hd rows=4:=by simp [weaveErr,he,hp,hh]
  have e2:weaveC hk lw hd rows=[]:=by simp [weaveC,e]
  rw [e,e2]; exact ⟨rfl,rfl,rfl⟩
 have e:weaveErr hk lw hd rows=0:=by unfold weaveErr; rw [if_neg (by omega),if_neg (by omega),if_neg (by omega)]
 have e2:weaveC hk lw hd rows=rows.map (pickS lw):=by simp [weaveC,e]
 obtain ⟨t1,t2,t3,t4,t5⟩:=tieErr_zero he
 obtain ⟨p1,p2,p3,p4,p5⟩:=pointErr_zero hp
 have hpw:=pow_bound p1 p2
 rw [e,e2]
 refine ⟨([],0),⟨rfl,rfl,rfl⟩,?_⟩
 refine LoopP.count2 rows.length (fun k xs=>xs=(rows.take k).map (pickS lw)) (by simp) fun k xs hk hJ q hq=>?_
 have hxl:xs.length=k:=by rw [hJ]; simp; omega
 dsimp only
 refine ⟨fun hlt=>?_,fun hge=>?_⟩
 ·have hlt:k < rows.length:=by omega
  have hr:=p5 _ (List.getElem_mem hlt)
  simp only [Int.toNat_natCast,getD_nat hlt,List.length_singleton]
  refine ⟨by omega,by omega,⟨h1,hr.1,by omega,fun x hx=>by have:=t5 x hx; omega⟩,by omega,by omega,(xs++[pickS lw rows[k]],(k:Int) + 1),⟨rfl,rfl,by simp⟩,hq _ hlt ?_⟩
  rw [take_succ_eq hlt,List.map_append,←hJ]; rfl
 ·have:k=rows.length:=by omega
  subst this
  rw [List.take_length] at hJ
  rw [hJ]
  exact ⟨rfl,rfl,rfl⟩
end Go.Proofs.Tryz
set_option linter.unusedVariables false
namespace Go.Proofs.Tryz
open Go Go.V Go.Proofs
def rndB (p:List Bool) (w:Nat):Bool:=p.getD (w % p.length) false
def bgB (p:List Bool) (w:Nat):Bool:=rndB p w != rndB p (w + p.length - 1)
theorem rndB_mod (p:List Bool) (w:Nat):rndB p (w % p.length)=rndB p w:=by simp [rndB]
theorem weaveErr_zero {hk:Int} {lw:List Int} {hd:Int} {rows:List Int} (h:weaveErr hk lw hd rows=0):tieErr hk lw=0∧pointErr hd rows=0∧hd=hk:=by
 unfold weaveErr at h
 split at h
 ·rename_i h1; exact absurd h h1
 rename_i h1
 split at h
 ·rename_i h2; exact absurd h h2
 rename_i h2
 split at h
 ·cases h
 rename_i h3
 exact ⟨by simpa using h1,by simpa using h2,by simpa using h3⟩
theorem not_all {p:List Bool} {f:Nat} (hf:f < p.length) (hb:bgB p f=true):∃ j,j < p.length∧rndB p j ≠ rndB p 0:=by
 by_cases h:rndB p f=rndB p 0
 ·refine ⟨(f + p.length - 1) % p.length,Nat.mod_lt _ (by omega),?_⟩
  rw [rndB_mod,←h]
  have:rndB p f ≠ rndB p (f + p.length - 1):=by simpa [bgB] using hb
  exact Ne.symm this
 ·exact ⟨f,hf,h⟩
theorem pickS_length (lw:List Int) (row:Int):(pickS lw row).length=lw.length:=by simp [pickS]
end Go.Proofs.Tryz
set_option linter.unusedVariables false
namespace Go.Proofs.Tryz
open Go Go.V Go.Proofs
def wpN (c:List (List UInt8)):Nat:=(c.getD 0 []).length
end Go.Proofs.Tryz
set_option linter.unusedVariables false
namespace Go.Proofs.Tryz
open Go Go.V Go.Proofs
def hN (fi la:Int):Nat:=(la - fi).natAbs
end Go.Proofs.Tryz
set_option linter.unusedVariables false
namespace Go.Proofs.Tryz
open Go Go.V Go.Proofs
def lOk (h8:Int) (ws rs:List Int):Prop:=0 ≤ h8∧h8 ≤ 255∧u8s ws∧u16s rs
def rightB (c:List (List UInt8)) (pk wp:Int):Bool:=c.all (fun s=>decide ((s.length:Int)=wp)) && decide ((c.length:Int)=pk)
theorem rightB_iff {c:List (List UInt8)} {pk wp:Int}:rightB c pk wp=true ↔ (∀ s ∈ c,(s.length:Int)=wp)∧(c.length:Int)=pk:=by
 simp only [rightB,Bool.and_eq_true,List.all_eq_true,decide_eq_true_eq]
def al_law03_Loom_harness:AL (Int × List Int × List Int):=(.one (.agg (.cons (.k (.i .u8)) (.cons (.k (.list (.i .u8))) (.one (.k (.list (.i .u16))))))))
def pre_law03_Loom_harness (d:Int × List Int × List Int):Prop:=lOk d.1 d.2.1 d.2.2
def res_law03_Loom_harness (d:Int × List Int × List Int):SV:=.agg [.val (.i .i64) (hkN 16 d.1),.lst 0]
def obs_law03_Loom_harness (d:Int × List Int × List Int):List OB:=[.lst 3 (.i .i64) (warpsN (hkN 16 d.1) 48 d.2.1) false]
def s_law03_Loom_harness:CSp:=mkSp al_law03_Loom_harness pre_law03_Loom_harness res_law03_Loom_harness obs_law03_Loom_harness
def vc_law03_Loom_harness (h8:Int) (ws:List Int) (rs:List Int):Prop :=
 (I64 h8)∧((16:Int) ≠ 0)∧(I64 ((1:Int) + (Int.tmod h8 (16:Int))))∧∃ (e4:Unit) (d40:(List Int) × Int),((True∧True∧True∧(0:Int)=d40.2∧True)∧((h8=h8∧ws=ws∧rs=rs∧(([]:List SV)=[]))∧((0:Int)=(0:Int)∧True∧(([]:List SV)=[]))∧(((1:Int) + (Int.tmod h8 (16:Int)))=((1:Int) + (Int.tmod h8 (16:Int)))∧True∧(([]:List SV)=[]))∧(d40.1=[]∧(List.isEmpty d40.1)=true)∧True)) ∧
 LoopP (fun (d4:(List Int) × Int) (q4:((List Int) × Int)→Prop) =>
  (((d4.2 == (0:Int)) || ((decide (d4.2 < (lI ws))) && (decide (d4.2 < (48:Int)))))=true →
   ((decide (d4.2 < (lI ws)))=true →
    (0 ≤ d4.2)∧(d4.2 < (List.length ws))∧(I64 (gD ws d4.2 0))∧(((1:Int) + (Int.tmod h8 (16:Int))) ≠ 0)∧(((List.length d4.1) + (List.length [(Int.tmod (gD ws d4.2 0) ((1:Int) + (Int.tmod h8 (16:Int))))])) * 8 ≤ 70368744177664)∧(I64 (d4.2 + (1:Int)))∧(∃ d5:(List Int) × Int,((True∧True∧True∧(d4.2 + (1:Int))=d5.2∧True)∧((h8=h8∧ws=ws∧rs=rs∧(([]:List SV)=[]))∧((0:Int)=(0:Int)∧True∧(([]:List SV)=[]))∧(((1:Int) + (Int.tmod h8 (16:Int)))=((1:Int) + (Int.tmod h8 (16:Int)))∧True∧(([]:List SV)=[]))∧((d4.1++[(Int.tmod (gD ws d4.2 0) ((1:Int) + (Int.tmod h8 (16:Int))))])=d5.1∧false=(List.isEmpty d5.1))∧True))∧q4 d5)) ∧
   ((decide (d4.2 < (lI ws)))=false →
    (((List.length d4.1) + (List.length [(0:Int)])) * 8 ≤ 70368744177664)∧(I64 (d4.2 + (1:Int)))∧(∃ d6:(List Int) × Int,((True∧True∧True∧(d4.2 + (1:Int))=d6.2∧True)∧((h8=h8∧ws=ws∧rs=rs∧(([]:List SV)=[]))∧((0:Int)=(0:Int)∧True∧(([]:List SV)=[]))∧(((1:Int) + (Int.tmod h8 (16:Int)))=((1:Int) + (Int.tmod h8 (16:Int)))∧True∧(([]:List SV)=[]))∧((d4.1++[(0:Int)])=d6.1∧false=(List.isEmpty d6.1))∧True))∧q4 d6))) ∧
  (((d4.2 == (0:Int)) || ((decide (d4.2 < (lI ws))) && (decide (d4.2 < (48:Int)))))=false →
   ((((1:Int) + (Int.tmod h8 (16:Int)))=(hkN 16 h8)∧True∧(([]:List SV)=[]))∧((d4.1=(warpsN (hkN 16 h8) 48 ws)∧(List.isEmpty d4.1)=false)∧True)))) d40
def cx_law03_Loom_harness:Cx:=⟨[(3,(.i .i64))],[],48,[],0,[],[],[],[],false,[],[],[]⟩
def lp_law03_Loom_harness (h8:Int) (ws:List Int) (rs:List Int):List (Nat × LoopAnn):=[(0,⟨Unit,(List Int) × Int,[1,2,3,4],fun e x=>[.box 1 0,.box 2 0,.box 3 0,.val (.i .i64) x.2],fun e x=>[(1,.slot 1,.cells [.val (.i .u8) h8,.val (.list (.i .u8)) ws,.val (.list (.i .u16)) rs] (some 85)),(2,.slot 2,.cells [.val (.i .i64) (0:Int),.nilS] (some 26)),(3,.slot 3,.cells [.val (.i .i64) ((1:Int) + (Int.tmod h8 (16:Int))),.lst 45] (some 26)),(45,.cell 3 1,.lst 3 (.i .i64) x.1 (List.isEmpty x.1))]⟩)]
set_option maxRecDepth 100000 in
theorem vq_law03_Loom_harness (d:Int × List Int × List Int):gwp (cx_law03_Loom_harness) (lp_law03_Loom_harness d.1 d.2.1 d.2.2) c48 0 (gend [.cell 2 true 2] (res_law03_Loom_harness d) (obs_law03_Loom_harness d)) (gstart 48 (AL.can al_law03_Loom_harness d))=vc_law03_Loom_harness d.1 d.2.1 d.2.2:=by kernel_rfl
abbrev Ok_law03_Loom_harness:Prop:=OkC Tryz.prog 48 s_law03_Loom_harness
theorem mk_law03_Loom_harness (h:∀ (h8:Int) (ws:List Int) (rs:List Int),(lOk h8 ws rs)→vc_law03_Loom_harness h8 ws rs):OkC Tryz.prog 48 s_law03_Loom_harness :=
 okC_vc fun48 mixed (C:=cx_law03_Loom_harness) (V:=fun (d:Int × List Int × List Int)=>vc_law03_Loom_harness d.1 d.2.1 d.2.2) ⟨.nil,XsOk.nil,ItsOk.nil,YlOk.nil,IysOk.nil⟩ (vq_law03_Loom_harness) fun d hp=>h d.1 d.2.1 d.2.2 hp
theorem hkN_range {m h8:Int} (hm:0 < m) (h:0 ≤ h8):1 ≤ hkN m h8∧hkN m h8 ≤ m:=by
 have h1:=Int.tmod_nonneg m h
 have h2:=Int.tmod_lt_of_pos h8 hm
 simp only [hkN]; omega
theorem warpsN_len {hk:Int} {cap:Nat} {ws:List Int}:(warpsN hk cap ws).length=if ws=[] then 1 else min cap ws.length:=by
 unfold warpsN; split <;> simp
theorem warpsN_get {hk:Int} {cap:Nat} {ws:List Int} {i:Nat} (h:i < ws.length) (hc:i < cap):(warpsN hk cap ws)[i]?=some (Int.tmod (ws.getD i 0) hk):=by
 have hne:ws ≠ []:=by rintro rfl; simp at h
 unfold warpsN; rw [if_neg hne]
 simp [hc,h]
theorem ok_law03_Loom_harness:Ok_law03_Loom_harness:=mk_law03_Loom_harness fun h8 ws rs h=>by
 obtain ⟨h1,h2,hws,hrs⟩:=h
 have hk:=hkN_range (m:=16) (by omega) h1
 have e:(1 + Int.tmod h8 16)=hkN 16 h8:=rfl
 have hk:1 ≤ hkN 16 h8∧hkN 16 h8 ≤ 16:=hk
 unfold vc_law03_Loom_harness; (try delta lI gD sT I64); simp only [true_and,and_true,exists_const,decide_eq_true_eq,decide_eq_false_iff_not,ne_eq,InK_i64,e]
 refine ⟨by omega,by omega,by omega,([],0),⟨rfl,rfl,rfl⟩,?_⟩
 have hN:(warpsN (hkN 16 h8) 48 ws).length=if ws=[] then 1 else min 48 ws.length:=warpsN_len
 have hcond:∀ k:Nat,(((k:Int) == 0) || (decide ((k:Int) < ws.length) && decide ((k:Int) < 48)))=decide (k < (warpsN (hkN 16 h8) 48 ws).length):=fun k=>by
  rw [hN]
  by_cases hz:ws=[]
  ·subst hz
   cases k <;> simp; omega
  ·have:0 < ws.length:=List.length_pos_iff.2 hz
   rw [if_neg hz]
   cases k with
   | zero=>simp; omega
   | succ k =>
    rw [Bool.eq_iff_iff]
    simp; omega
 have hNle:(warpsN (hkN 16 h8) 48 ws).length ≤ 48:=by rw [hN]; split <;> omega
 refine LoopP.count2 (warpsN (hkN 16 h8) 48 ws).length (fun k xs=>xs=(warpsN (hkN 16 h8) 48 ws).take k) (by simp) fun k xs hk hJ q hq=>?_
 dsimp only
 rw [hcond]
 simp only [decide_eq_true_eq,decide_eq_false_iff_not,Int.toNat_natCast,Int.ofNat_lt]
 refine ⟨fun hlt=>⟨fun hw=>?_,fun hw=>?_⟩,fun hge=>?_⟩
 ·have hw:k < ws.length:=by omega
  have hws':=hws _ (List.getElem_mem hw)
  have hk24:k < 48:=by omega
  simp only [getD_nat hw,List.length_singleton]
  have hv:(warpsN (hkN 16 h8) 48 ws)[k]=Int.tmod ws[k] (hkN 16 h8):=by
   have:=warpsN_get (hk:=hkN 16 h8) hw hk24
   rw [getD_nat hw] at this
   have h3:=List.getElem?_eq_getElem hlt
   exact Option.some.inj (h3.symm.trans this)
  refine ⟨by omega,by omega,by omega,by omega,by rw [hJ,List.length_take]; omega,by omega,(xs++[Int.tmod ws[k] (hkN 16 h8)],(k:Int) + 1),⟨rfl,rfl,by simp⟩,hq _ hlt ?_⟩
  rw [take_succ_eq hlt,←hJ,hv]
 ·have hz:ws=[]:=by
   cases hws:ws with
   | nil=>rfl
   | cons a l =>
    exfalso
    rw [hN] at hlt
    have:ws ≠ []:=by rw [hws]; simp
    rw [if_neg this] at hlt
    omega
  have hk0:k=0:=by rw [hN,if_pos hz] at hlt; omega
  subst hk0
  simp only [List.length_singleton]
  refine ⟨by rw [hJ,List.length_take]; omega,by omega,(xs++[0],1),⟨rfl,rfl,by simp⟩,hq _ hlt ?_⟩
  rw [take_succ_eq hlt,←hJ]
  simp [warpsN,hz]
 ·have:k=(warpsN (hkN 16 h8) 48 ws).length:=by omega
  subst this
  rw [List.take_length] at hJ
  subst hJ
  refine ⟨rfl,?_⟩
  rw [List.isEmpty_eq_false_iff]
  intro hz
  rw [hz] at hN
  split at hN
  ·cases hN
  ·rename_i hne
   have:=List.length_pos_iff.2 hne
   simp only [List.length_nil] at hN
   omega
def al_law03_Loom_design:AL (Int × List Int × List Int):=(.one (.agg (.cons (.k (.i .u8)) (.cons (.k (.list (.i .u8))) (.one (.k (.list (.i .u16))))))))
def pre_law03_Loom_design (d:Int × List Int × List Int):Prop:=lOk d.1 d.2.1 d.2.2
def res_law03_Loom_design (d:Int × List Int × List Int):SV:=.agg [.val (.i .i64) (hkN 16 d.1),.lst 0]
def obs_law03_Loom_design (d:Int × List Int × List Int):List OB:=[.lst 3 (.i .i64) (rowsN (hkN 16 d.1) 12 d.2.2) false]
def s_law03_Loom_design:CSp:=mkSp al_law03_Loom_design pre_law03_Loom_design res_law03_Loom_design obs_law03_Loom_design
def vc_law03_Loom_design (h8:Int) (ws:List Int) (rs:List Int):Prop :=
 (I64 h8)∧((16:Int) ≠ 0)∧(I64 ((1:Int) + (Int.tmod h8 (16:Int))))∧∃ (e4:Unit) (d40:(List Int) × Int),((True∧True∧True∧(0:Int)=d40.2∧True)∧((h8=h8∧ws=ws∧rs=rs∧(([]:List SV)=[]))∧((0:Int)=(0:Int)∧True∧(([]:List SV)=[]))∧(((1:Int) + (Int.tmod h8 (16:Int)))=((1:Int) + (Int.tmod h8 (16:Int)))∧True∧(([]:List SV)=[]))∧(d40.1=[]∧(List.isEmpty d40.1)=true)∧True)) ∧
 LoopP (fun (d4:(List Int) × Int) (q4:((List Int) × Int)→Prop) =>
  (((d4.2 == (0:Int)) || ((decide (d4.2 < (lI rs))) && (decide (d4.2 < (12:Int)))))=true →
   ((decide (d4.2 < (lI rs)))=true →
    (0 ≤ d4.2)∧(d4.2 < (List.length rs))∧(I64 (gD rs d4.2 0))∧(InK .u64 ((1:Int) + (Int.tmod h8 (16:Int))))∧(0 ≤ ((1:Int) + (Int.tmod h8 (16:Int))))∧(I64 (shlI .i64 (1:Int) ((1:Int) + (Int.tmod h8 (16:Int)))))∧(I64 ((shlI .i64 (1:Int) ((1:Int) + (Int.tmod h8 (16:Int)))) - (1:Int)))∧(((List.length d4.1) + (List.length [(vbits .and .i64 (gD rs d4.2 0) ((shlI .i64 (1:Int) ((1:Int) + (Int.tmod h8 (16:Int)))) - (1:Int)))])) * 8 ≤ 70368744177664)∧(I64 (d4.2 + (1:Int)))∧(∃ d5:(List Int) × Int,((True∧True∧True∧(d4.2 + (1:Int))=d5.2∧True)∧((h8=h8∧ws=ws∧rs=rs∧(([]:List SV)=[]))∧((0:Int)=(0:Int)∧True∧(([]:List SV)=[]))∧(((1:Int) + (Int.tmod h8 (16:Int)))=((1:Int) + (Int.tmod h8 (16:Int)))∧True∧(([]:List SV)=[]))∧((d4.1++[(vbits .and .i64 (gD rs d4.2 0) ((shlI .i64 (1:Int) ((1:Int) + (Int.tmod h8 (16:Int)))) - (1:Int)))])=d5.1∧false=(List.isEmpty d5.1))∧True))∧q4 d5)) ∧
   ((decide (d4.2 < (lI rs)))=false →
    (InK .u64 ((1:Int) + (Int.tmod h8 (16:Int))))∧(0 ≤ ((1:Int) + (Int.tmod h8 (16:Int))))∧(I64 (shlI .i64 (1:Int) ((1:Int) + (Int.tmod h8 (16:Int)))))∧(I64 ((shlI .i64 (1:Int) ((1:Int) + (Int.tmod h8 (16:Int)))) - (1:Int)))∧(((List.length d4.1) + (List.length [(vbits .and .i64 (21:Int) ((shlI .i64 (1:Int) ((1:Int) + (Int.tmod h8 (16:Int)))) - (1:Int)))])) * 8 ≤ 70368744177664)∧(I64 (d4.2 + (1:Int)))∧(∃ d6:(List Int) × Int,((True∧True∧True∧(d4.2 + (1:Int))=d6.2∧True)∧((h8=h8∧ws=ws∧rs=rs∧(([]:List SV)=[]))∧((0:Int)=(0:Int)∧True∧(([]:List SV)=[]))∧(((1:Int) + (Int.tmod h8 (16:Int)))=((1:Int) + (Int.tmod h8 (16:Int)))∧True∧(([]:List SV)=[]))∧((d4.1++[(vbits .and .i64 (21:Int) ((shlI .i64 (1:Int) ((1:Int) + (Int.tmod h8 (16:Int)))) - (1:Int)))])=d6.1∧false=(List.isEmpty d6.1))∧True))∧q4 d6))) ∧
  (((d4.2 == (0:Int)) || ((decide (d4.2 < (lI rs))) && (decide (d4.2 < (12:Int)))))=false →
   ((((1:Int) + (Int.tmod h8 (16:Int)))=(hkN 16 h8)∧True∧(([]:List SV)=[]))∧((d4.1=(rowsN (hkN 16 h8) 12 rs)∧(List.isEmpty d4.1)=false)∧True)))) d40
def cx_law03_Loom_design:Cx:=⟨[(3,(.i .i64))],[],51,[],0,[],[],[],[],false,[],[],[]⟩
def lp_law03_Loom_design (h8:Int) (ws:List Int) (rs:List Int):List (Nat × LoopAnn):=[(0,⟨Unit,(List Int) × Int,[1,2,3,4],fun e x=>[.box 1 0,.box 2 0,.box 3 0,.val (.i .i64) x.2],fun e x=>[(1,.slot 1,.cells [.val (.i .u8) h8,.val (.list (.i .u8)) ws,.val (.list (.i .u16)) rs] (some 85)),(2,.slot 2,.cells [.val (.i .i64) (0:Int),.nilS] (some 36)),(3,.slot 3,.cells [.val (.i .i64) ((1:Int) + (Int.tmod h8 (16:Int))),.lst 48] (some 36)),(48,.cell 3 1,.lst 3 (.i .i64) x.1 (List.isEmpty x.1))]⟩)]
set_option maxRecDepth 100000 in
theorem vq_law03_Loom_design (d:Int × List Int × List Int):gwp (cx_law03_Loom_design) (lp_law03_Loom_design d.1 d.2.1 d.2.2) c49 0 (gend [.cell 2 true 2] (res_law03_Loom_design d) (obs_law03_Loom_design d)) (gstart 51 (AL.can al_law03_Loom_design d))=vc_law03_Loom_design d.1 d.2.1 d.2.2:=by kernel_rfl
abbrev Ok_law03_Loom_design:Prop:=OkC Tryz.prog 49 s_law03_Loom_design
theorem mk_law03_Loom_design (h:∀ (h8:Int) (ws:List Int) (rs:List Int),(lOk h8 ws rs)→vc_law03_Loom_design h8 ws rs):OkC Tryz.prog 49 s_law03_Loom_design :=
 okC_vc fun49 mixed (C:=cx_law03_Loom_design) (V:=fun (d:Int × List Int × List Int)=>vc_law03_Loom_design d.1 d.2.1 d.2.2) ⟨.nil,XsOk.nil,ItsOk.nil,YlOk.nil,IysOk.nil⟩ (vq_law03_Loom_design) fun d hp=>h d.1 d.2.1 d.2.2 hp
theorem and_mask {x h:Int} (h0:0 ≤ x) (h1:x < 9223372036854775808) (a:1 ≤ h) (b:h ≤ 24):vbits .and .i64 x (shlI .i64 1 h - 1)=x % 2 ^ h.toNat:=by
 obtain ⟨n,rfl⟩:=Int.eq_ofNat_of_zero_le h0
 obtain ⟨m,rfl⟩:=Int.eq_ofNat_of_zero_le (show 0 ≤ h by omega)
 have hp:=pow_bound a b
 rw [shl_one (by omega) (by omega)]
 simp only [Int.toNat_natCast] at hp ⊢
 have e2:((2:Int) ^ m)=((2 ^ m:Nat):Int):=by rw [Int.natCast_pow]; rfl
 rw [e2] at hp ⊢
 have e:(((2 ^ m:Nat):Int) - 1)=((2 ^ m - 1:Nat):Int):=by omega
 rw [e,vand_nat (by omega) (by omega),Nat.and_two_pow_sub_one_eq_mod]
 rfl
theorem rowsN_len {hk:Int} {cap:Nat} {rs:List Int}:(rowsN hk cap rs).length=if rs=[] then 1 else min cap rs.length:=by
 unfold rowsN; split <;> simp
theorem rowsN_get {hk:Int} {cap:Nat} {rs:List Int} {i:Nat} (h:i < rs.length) (hc:i < cap):(rowsN hk cap rs)[i]?=some (rs.getD i 0 % 2 ^ hk.toNat):=by
 have hne:rs ≠ []:=by rintro rfl; simp at h
 unfold rowsN; rw [if_neg hne]
 simp [hc,h]
theorem ok_law03_Loom_design:Ok_law03_Loom_design:=mk_law03_Loom_design fun h8 ws rs h=>by
 obtain ⟨h1,h2,hws,hrs⟩:=h
 have hk:1 ≤ hkN 16 h8∧hkN 16 h8 ≤ 16:=hkN_range (m:=16) (by omega) h1
 have e:(1 + Int.tmod h8 16)=hkN 16 h8:=rfl
 have hp:=pow_bound hk.1 (show hkN 16 h8 ≤ 24 by omega)
 have hs:=shl_one (show 0 ≤ hkN 16 h8 by omega) (show hkN 16 h8 ≤ 62 by omega)
 have hm:∀ x,0 ≤ x→x < 9223372036854775808→vbits .and .i64 x (2 ^ (hkN 16 h8).toNat - 1)=x % 2 ^ (hkN 16 h8).toNat:=fun x a b=>by
  have:=and_mask a b hk.1 (show hkN 16 h8 ≤ 24 by omega)
  rwa [hs] at this
 have hu:InK .u64 (hkN 16 h8):=⟨by show (0:Int) ≤ _; omega,by show _ ≤ (18446744073709551615:Int); omega⟩
 unfold vc_law03_Loom_design; (try delta lI gD sT I64); simp only [true_and,and_true,exists_const,decide_eq_true_eq,decide_eq_false_iff_not,ne_eq,InK_i64,e,hs,hu]
 refine ⟨by omega,by omega,by omega,([],0),⟨rfl,rfl,rfl⟩,?_⟩
 have hN:(rowsN (hkN 16 h8) 12 rs).length=if rs=[] then 1 else min 12 rs.length:=rowsN_len
 have hcond:∀ k:Nat,(((k:Int) == 0) || (decide ((k:Int) < rs.length) && decide ((k:Int) < 12)))=decide (k < (rowsN (hkN 16 h8) 12 rs).length):=fun k=>by
  rw [hN]
  by_cases hz:rs=[]
  ·subst hz
   cases k <;> simp; omega
  ·have:0 < rs.length:=List.length_pos_iff.2 hz
   rw [if_neg hz]
   cases k with
   | zero=>simp; omega
   | succ k =>
    rw [Bool.eq_iff_iff]
    simp; omega
 have hNle:(rowsN (hkN 16 h8) 12 rs).length ≤ 12:=by rw [hN]; split <;> omega
 refine LoopP.count2 (rowsN (hkN 16 h8) 12 rs).length (fun k xs=>xs=(rowsN (hkN 16 h8) 12 rs).take k) (by simp) fun k xs hk' hJ q hq=>?_
 dsimp only
 rw [hcond]
 simp only [decide_eq_true_eq,decide_eq_false_iff_not,Int.toNat_natCast,Int.ofNat_lt]
 refine ⟨fun hlt=>⟨fun hw=>?_,fun hw=>?_⟩,fun hge=>?_⟩
 ·have hw:k < rs.length:=by omega
  have hrs':=hrs _ (List.getElem_mem hw)
  have hk12:k < 12:=by omega
  simp only [getD_nat hw,List.length_singleton]
  have hv:(rowsN (hkN 16 h8) 12 rs)[k]=rs[k] % 2 ^ (hkN 16 h8).toNat:=by
   have:=rowsN_get (hk:=hkN 16 h8) hw hk12
   rw [getD_nat hw] at this
   have h3:=List.getElem?_eq_getElem hlt
   exact Option.some.inj (h3.symm.trans this)
  rw [hm _ (by omega) (by omega)]
  refine ⟨by omega,by omega,by omega,by omega,by omega,by omega,by rw [hJ,List.length_take]; omega,by omega,(xs++[rs[k] % 2 ^ (hkN 16 h8).toNat],(k:Int) + 1),⟨rfl,rfl,by simp⟩,hq _ hlt ?_⟩
  rw [take_succ_eq hlt,←hJ,hv]
 ·have hz:rs=[]:=by
   cases hrs:rs with
   | nil=>rfl
   | cons a l =>
    exfalso
    rw [hN] at hlt
    have:rs ≠ []:=by rw [hrs]; simp
    rw [if_neg this] at hlt
    omega
  have hk0:k=0:=by rw [hN,if_pos hz] at hlt; omega
  subst hk0
  simp only [List.length_singleton]
  rw [hm _ (by omega) (by omega)]
  refine ⟨by omega,by omega,by omega,by rw [hJ,List.length_take]; omega,by omega,(xs++[21 % 2 ^ (hkN 16 h8).toNat],1),⟨rfl,rfl,by simp⟩,hq _ hlt ?_⟩
  rw [take_succ_eq hlt,←hJ]
  simp [rowsN,hz]
 ·have:k=(rowsN (hkN 16 h8) 12 rs).length:=by omega
  subst this
  rw [List.take_length] at hJ
  subst hJ
  refine ⟨rfl,?_⟩
  rw [List.isEmpty_eq_false_iff]
  intro hz
  rw [hz] at hN
  split at hN
  ·cases hN
  ·rename_i hne
   have:=List.length_pos_iff.2 hne
   simp only [List.length_nil] at hN
   omega
def al_law03_right:AL (List (List UInt8) × Int × Int):=(.cons (.k (.list .st)) (.cons (.k (.i .i64)) (.one (.k (.i .i64)))))
def pre_law03_right (d:List (List UInt8) × Int × Int):Prop:=d.1.length ≤ 1000
def res_law03_right (d:List (List UInt8) × Int × Int):SV:=.val .bo (rightB d.1 d.2.1 d.2.2)
def obs_law03_right (d:List (List UInt8) × Int × Int):List OB:=[]
def s_law03_right:CSp:=mkSp al_law03_right pre_law03_right res_law03_right obs_law03_right
def vc_law03_right (c:List (List UInt8)) (pk:Int) (wp:Int):Prop :=
 ∃ (e2:Unit) (d20:Int),((c=c∧pk=pk∧wp=wp∧(0:Int)=d20∧True)∧(True)) ∧
 LoopP (fun (d2:Int) (q2:(Int)→Prop) =>
  ((decide (d2 < (lI c)))=true →
   (0 ≤ d2)∧(d2 < (List.length c))∧(((lI (gD c d2 [])) != wp)=true →
    (false=(rightB c pk wp)∧(True))) ∧
   (((lI (gD c d2 [])) != wp)=false →
    (I64 (d2 + (1:Int)))∧(∃ d3:Int,((c=c∧pk=pk∧wp=wp∧(d2 + (1:Int))=d3∧True)∧(True))∧q2 d3))) ∧
  ((decide (d2 < (lI c)))=false →
   (((lI c) == pk)=(rightB c pk wp)∧(True)))) d20
def cx_law03_right:Cx:=⟨[],[],25,[],0,[],[],[],[],false,[],[],[]⟩
def lp_law03_right (c:List (List UInt8)) (pk:Int) (wp:Int):List (Nat × LoopAnn):=[(0,⟨Unit,Int,[0,1,2,7],fun e x=>[.val (.list .st) c,.val (.i .i64) pk,.val (.i .i64) wp,.val (.i .i64) x],fun e x=>[]⟩)]
set_option maxRecDepth 100000 in
theorem vq_law03_right (d:List (List UInt8) × Int × Int):gwp (cx_law03_right) (lp_law03_right d.1 d.2.1 d.2.2) c50 0 (gend [.tmp 6] (res_law03_right d) (obs_law03_right d)) (gstart 25 (AL.can al_law03_right d))=vc_law03_right d.1 d.2.1 d.2.2:=by kernel_rfl
abbrev Ok_law03_right:Prop:=OkC Tryz.prog 50 s_law03_right
theorem mk_law03_right (h:∀ (c:List (List UInt8)) (pk:Int) (wp:Int),(c.length ≤ 1000)→vc_law03_right c pk wp):OkC Tryz.prog 50 s_law03_right :=
 okC_vc fun50 mixed (C:=cx_law03_right) (V:=fun (d:List (List UInt8) × Int × Int)=>vc_law03_right d.1 d.2.1 d.2.2) ⟨.nil,XsOk.nil,ItsOk.nil,YlOk.nil,IysOk.nil⟩ (vq_law03_right) fun d hp=>h d.1 d.2.1 d.2.2 hp
theorem ok_law03_right:Ok_law03_right:=mk_law03_right fun c pk wp hc=>by
 unfold vc_law03_right; (try delta lI gD sT I64)
 (try simp only [decide_eq_true_eq,decide_eq_false_iff_not])
 refine ⟨(),0,(by and_intros <;> first | rfl | trivial | simp),?_⟩
 refine LoopP.count c.length (fun k=>∀ i,i < k→((c.getD i []).length:Int)=wp) (fun i hi=>by omega) fun k hk hJ q hq=>?_
 simp only [Int.toNat_natCast,InK_i64]
 refine ⟨fun hlt=>⟨by omega,by omega,fun hx=>?_,fun hx=>⟨by omega,_,(by and_intros <;> first | rfl | trivial | simp),hq (by omega) fun i hi=>?_⟩⟩,fun hge=>?_⟩
 ·have hx:((c.getD k []).length:Int) ≠ wp:=by simpa using hx
  refine ⟨Eq.symm ?_,trivial⟩
  rw [Bool.eq_false_iff]
  intro h
  have hkc:k < c.length:=by omega
  rw [getD_nat hkc] at hx
  exact hx ((rightB_iff.1 h).1 _ (List.getElem_mem hkc))
 ·rcases Nat.lt_succ_iff_lt_or_eq.1 hi with hi | rfl
  ·exact hJ i hi
  ·simpa using hx
 ·have hk:k=c.length:=by omega
  subst hk
  refine ⟨?_,trivial⟩
  rw [Bool.eq_iff_iff,rightB_iff,beq_iff_eq]
  refine ⟨fun h=>⟨fun s hs=>?_,h⟩,fun h=>h.2⟩
  obtain ⟨i,hi,rfl⟩:=List.getElem_of_mem hs
  have:=hJ i hi
  rwa [getD_nat hi] at this
end Go.Proofs.Tryz
set_option linter.unusedVariables false
namespace Go.Proofs.Tryz
open Go Go.V Go.Proofs
theorem weave_ok {n:Int} {S xs:List Int} (h1:1 ≤ n) (h2:n ≤ 24) (s1:S ≠ []) (s2:S.length ≤ 96) (s3:∀ x ∈ S,0 ≤ x∧x < n) (x1:xs ≠ []) (x2:xs.length ≤ 60) (x3:∀ x ∈ xs,0 ≤ x∧x < 2 ^ n.toNat):weaveErr n S n xs=0∧pointErr n xs=0:=by
 have i1:inI n 1 24=true:=by simp [inI,h1,h2]
 have a1:S.any (fun x=>!inI x 0 (n - 1))=false:=by
  rw [List.any_eq_false]
  intro x hx
  have:=s3 x hx
  simp [inI]
  omega
 have a2:xs.any (fun x=>!inI x 0 (2 ^ n.toNat - 1))=false:=by
  rw [List.any_eq_false]
  intro x hx
  have:=x3 x hx
  simp only [inI,Bool.not_eq_true',Bool.and_eq_false_iff,decide_eq_false_iff_not]
  omega
 have l1:¬ 96 < S.length:=by omega
 have l2:¬ 60 < xs.length:=by omega
 have t:tieErr n S=0:=by
  unfold tieErr
  rw [i1,a1,if_neg (by simp),if_neg l1,if_neg (by simpa using s1),if_neg (by simp)]
 have p:pointErr n xs=0:=by
  unfold pointErr
  rw [i1,a2,if_neg (by simp),if_neg l2,if_neg (by simpa using x1),if_neg (by simp)]
 exact ⟨by simp [weaveErr,t,p],p⟩
end Go.Proofs.Tryz
set_option linter.unusedVariables false
namespace Go.Proofs.Tryz
open Go Go.V Go.Proofs
def usedK (lw:List Int):Nat→Nat
 | 0=>0
 | k + 1=>usedK lw k ||| (1 <<< (lw.getD k 0).toNat)
theorem usedK_bit {lw:List Int} {b:Nat} (hp:∀ x ∈ lw,0 ≤ x):∀ k,k ≤ lw.length→((usedK lw k).testBit b=true ↔ ∃ w,w < k∧lw.getD w 0=b)
 | 0,_=>by simp [usedK]
 | k + 1,hk=>by
  have ih:=usedK_bit (b:=b) hp k (by omega)
  have h0:=hp _ (getD_mem (show k < lw.length by omega))
  simp only [usedK]
  rw [Nat.testBit_or,Bool.or_eq_true,ih,Nat.one_shiftLeft,Nat.testBit_two_pow,decide_eq_true_eq]
  constructor
  ·rintro (⟨w,h1,h2⟩ | h1)
   ·exact ⟨w,by omega,h2⟩
   ·exact ⟨k,by omega,by omega⟩
  ·rintro ⟨w,h1,h2⟩
   rcases Nat.lt_succ_iff_lt_or_eq.1 h1 with h1 | rfl
   ·exact .inl ⟨w,h1,h2⟩
   ·exact .inr (by omega)
theorem usedK_lt {lw:List Int} {n:Nat} (hp:∀ x ∈ lw,0 ≤ x∧x < (n:Int)):∀ k,k ≤ lw.length→usedK lw k < 2 ^ n
 | 0,_=>Nat.two_pow_pos _
 | k + 1,hk=>by
  have ih:=usedK_lt hp k (by omega)
  have h0:=hp _ (getD_mem (show k < lw.length by omega))
  simp only [usedK]
  refine Nat.or_lt_two_pow ih ?_
  rw [Nat.one_shiftLeft]
  exact Nat.pow_lt_pow_right (by omega) (by omega)
def al_law03_used:AL (Int × List Int):=(.one (.agg (.cons (.k (.i .i64)) (.one (.k (.list (.i .i64)))))))
def pre_law03_used (d:Int × List Int):Prop:=d.2.length ≤ 1000∧∀ x ∈ d.2,0 ≤ x∧x < 60
def res_law03_used (d:Int × List Int):SV:=.val (.i .i64) ((usedK d.2 d.2.length:Nat):Int)
def obs_law03_used (d:Int × List Int):List OB:=[]
def s_law03_used:CSp:=mkSp al_law03_used pre_law03_used res_law03_used obs_law03_used
def vc_law03_used (hk:Int) (lw:List Int):Prop :=
 ∃ (e3:Unit) (d30:Int × Int),((True∧(0:Int)=d30.1∧(0:Int)=d30.2∧True)∧((hk=hk∧lw=lw∧(([]:List SV)=[]))∧True)) ∧
 LoopP (fun (d3:Int × Int) (q3:(Int × Int)→Prop) =>
  ((decide (d3.2 < (lI lw)))=true →
   (0 ≤ d3.2)∧(d3.2 < (List.length lw))∧(InK .u64 (gD lw d3.2 0))∧(0 ≤ (gD lw d3.2 0))∧(I64 (shlI .i64 (1:Int) (gD lw d3.2 0)))∧(I64 (d3.2 + (1:Int)))∧(∃ d4:Int × Int,((True∧(vbits .or .i64 d3.1 (shlI .i64 (1:Int) (gD lw d3.2 0)))=d4.1∧(d3.2 + (1:Int))=d4.2∧True)∧((hk=hk∧lw=lw∧(([]:List SV)=[]))∧True))∧q3 d4)) ∧
  ((decide (d3.2 < (lI lw)))=false →
   (d3.1=((usedK lw lw.length:Nat):Int)∧(True)))) d30
def cx_law03_used:Cx:=⟨[],[],22,[],0,[],[],[],[],false,[],[],[]⟩
def lp_law03_used (hk:Int) (lw:List Int):List (Nat × LoopAnn):=[(0,⟨Unit,Int × Int,[1,3,4],fun e x=>[.box 1 0,.val (.i .i64) x.1,.val (.i .i64) x.2],fun e x=>[(1,.slot 1,.cells [.val (.i .i64) hk,.val (.list (.i .i64)) lw] (some 26))]⟩)]
set_option maxRecDepth 100000 in
theorem vq_law03_used (d:Int × List Int):gwp (cx_law03_used) (lp_law03_used d.1 d.2) c51 0 (gend [.tmp 2] (res_law03_used d) (obs_law03_used d)) (gstart 22 (AL.can al_law03_used d))=vc_law03_used d.1 d.2:=by kernel_rfl
abbrev Ok_law03_used:Prop:=OkC Tryz.prog 51 s_law03_used
theorem mk_law03_used (h:∀ (hk:Int) (lw:List Int),(lw.length ≤ 1000∧∀ x ∈ lw,0 ≤ x∧x < 60)→vc_law03_used hk lw):OkC Tryz.prog 51 s_law03_used :=
 okC_vc fun51 mixed (C:=cx_law03_used) (V:=fun (d:Int × List Int)=>vc_law03_used d.1 d.2) ⟨.nil,XsOk.nil,ItsOk.nil,YlOk.nil,IysOk.nil⟩ (vq_law03_used) fun d hp=>h d.1 d.2 hp
theorem ok_law03_used:Ok_law03_used:=mk_law03_used fun hk lw h=>by
 obtain ⟨h1,h2⟩:=h
 unfold vc_law03_used; (try delta lI gD sT I64)
 (try simp only [decide_eq_true_eq,decide_eq_false_iff_not])
 refine ⟨(),(0,0),(by and_intros <;> first | rfl | trivial | simp),?_⟩
 refine LoopP.count2 lw.length (fun k r=>r=((usedK lw k:Nat):Int)) rfl fun w r hw hI q2 hq2=>?_
 dsimp only
 have hb:=usedK_lt (n:=60) (fun x hx=>h2 x hx) w hw
 refine ⟨fun hlt2=>?_,fun hge=>?_⟩
 ·have hlt2:w < lw.length:=by omega
  have hx:=h2 _ (getD_mem hlt2)
  have hsu:usedK lw (w + 1)=usedK lw w ||| (1 <<< (lw.getD w 0).toNat):=rfl
  obtain ⟨x,hx'⟩:=Int.eq_ofNat_of_zero_le hx.1
  have h1x:(1:Nat) <<< x < 2 ^ 60:=by rw [Nat.one_shiftLeft]; exact Nat.pow_lt_pow_right (by omega) (by omega)
  have e1:shlI .i64 1 ((x:Nat):Int)=((1 <<< x:Nat):Int):=shl_nat (x:=1) (by omega)
  rw [hx',Int.toNat_natCast] at hsu
  obtain ⟨y,hy⟩:∃ y,y=1 <<< x:=⟨_,rfl⟩
  rw [←hy] at e1 h1x hsu
  simp only [Int.toNat_natCast,InK_i64,InK_u64,hx',hI,e1,vor_nat (show usedK lw w < 9223372036854775808 by omega) (show y < 9223372036854775808 by omega)]
  clear e1
  refine ⟨by omega,by omega,by omega,by omega,by omega,by omega,(_,_),(by and_intros <;> first | rfl | trivial | simp),hq2 _ hlt2 ?_⟩
  rw [hsu]
 ·have:w=lw.length:=by omega
  subst this
  exact ⟨hI,trivial⟩
def al_law03_is:AL ((Int × List Int) × Int × List Int):=(.cons (.agg (.cons (.k (.i .i64)) (.one (.k (.list (.i .i64)))))) (.one (.agg (.cons (.k (.i .i64)) (.one (.k (.list (.i .i64))))))))
def pre_law03_is (d:(Int × List Int) × Int × List Int):Prop:=d.1.2.length ≤ 1000
def res_law03_is (d:(Int × List Int) × Int × List Int):SV:=.val .bo (decide (d.1.1=d.2.1) && (d.1.2 == d.2.2))
def obs_law03_is (d:(Int × List Int) × Int × List Int):List OB:=[]
def s_law03_is:CSp:=mkSp al_law03_is pre_law03_is res_law03_is obs_law03_is
def vc_law03_is (hd:Int) (rows:List Int) (hd1:Int) (rows1:List Int):Prop :=
 (((hd != hd1) || ((lI rows) != (lI rows1)))=true →
  (false=(decide (hd=hd1) && (rows == rows1))∧(True))) ∧
 (((hd != hd1) || ((lI rows) != (lI rows1)))=false →
  ∃ (e3:Unit) (d30:Int),((True∧True∧(0:Int)=d30∧True)∧((hd=hd∧rows=rows∧(([]:List SV)=[]))∧(hd1=hd1∧rows1=rows1∧(([]:List SV)=[]))∧True)) ∧
  LoopP (fun (d3:Int) (q3:(Int)→Prop) =>
   ((decide (d3 < (lI rows)))=true →
    (0 ≤ d3)∧(d3 < (List.length rows))∧(0 ≤ d3)∧(d3 < (List.length rows1))∧(((gD rows d3 0) != (gD rows1 d3 0))=true →
     (false=(decide (hd=hd1) && (rows == rows1))∧(True))) ∧
    (((gD rows d3 0) != (gD rows1 d3 0))=false →
     (I64 (d3 + (1:Int)))∧(∃ d4:Int,((True∧True∧(d3 + (1:Int))=d4∧True)∧((hd=hd∧rows=rows∧(([]:List SV)=[]))∧(hd1=hd1∧rows1=rows1∧(([]:List SV)=[]))∧True))∧q3 d4))) ∧
   ((decide (d3 < (lI rows)))=false →
    (true=(decide (hd=hd1) && (rows == rows1))∧(True)))) d30)
def cx_law03_is:Cx:=⟨[],[],38,[],0,[],[],[],[],false,[],[],[]⟩
def lp_law03_is (hd:Int) (rows:List Int) (hd1:Int) (rows1:List Int):List (Nat × LoopAnn):=[(0,⟨Unit,Int,[2,3,5],fun e x=>[.box 2 0,.box 3 0,.val (.i .i64) x],fun e x=>[(2,.slot 2,.cells [.val (.i .i64) hd,.val (.list (.i .i64)) rows] (some 36)),(3,.slot 3,.cells [.val (.i .i64) hd1,.val (.list (.i .i64)) rows1] (some 36))]⟩)]
set_option maxRecDepth 100000 in
theorem vq_law03_is (d:(Int × List Int) × Int × List Int):gwp (cx_law03_is) (lp_law03_is d.1.1 d.1.2 d.2.1 d.2.2) c52 0 (gend [.tmp 4] (res_law03_is d) (obs_law03_is d)) (gstart 38 (AL.can al_law03_is d))=vc_law03_is d.1.1 d.1.2 d.2.1 d.2.2:=by kernel_rfl
abbrev Ok_law03_is:Prop:=OkC Tryz.prog 52 s_law03_is
theorem mk_law03_is (h:∀ (hd:Int) (rows:List Int) (hd1:Int) (rows1:List Int),(rows.length ≤ 1000)→vc_law03_is hd rows hd1 rows1):OkC Tryz.prog 52 s_law03_is :=
 okC_vc fun52 mixed (C:=cx_law03_is) (V:=fun (d:(Int × List Int) × Int × List Int)=>vc_law03_is d.1.1 d.1.2 d.2.1 d.2.2) ⟨.nil,XsOk.nil,ItsOk.nil,YlOk.nil,IysOk.nil⟩ (vq_law03_is) fun d hp=>h d.1.1 d.1.2 d.2.1 d.2.2 hp
theorem ok_law03_is:Ok_law03_is:=mk_law03_is fun hd rows hd1 rows1 h=>by
 unfold vc_law03_is; (try delta lI gD sT I64)
 (try simp only [decide_eq_true_eq,decide_eq_false_iff_not])
 refine ⟨fun hx=>?_,fun hx=>⟨(),0,(by and_intros <;> first | rfl | trivial | simp),?_⟩⟩
 ·refine ⟨Eq.symm ?_,trivial⟩
  rw [Bool.eq_false_iff]
  intro he
  simp only [Bool.and_eq_true,decide_eq_true_eq,beq_iff_eq] at he
  obtain ⟨rfl,rfl⟩:=he
  simp at hx
 simp only [Bool.or_eq_false_iff,bne_eq_false_iff_eq] at hx
 obtain ⟨rfl,hl⟩:=hx
 have hl:rows.length=rows1.length:=by omega
 refine LoopP.count rows.length (fun k=>∀ i,i < k→rows.getD i 0=rows1.getD i 0) (fun i hi=>by omega) fun k hk hJ q hq=>?_
 simp only [Int.toNat_natCast,InK_i64]
 refine ⟨fun hlt=>⟨by omega,by omega,by omega,by omega,fun hx=>?_,fun hx=>⟨by omega,_,(by and_intros <;> first | rfl | trivial | simp),hq (by omega) fun i hi=>?_⟩⟩,fun hge=>?_⟩
 ·refine ⟨Eq.symm ?_,trivial⟩
  rw [Bool.eq_false_iff]
  intro he
  simp only [Bool.and_eq_true,decide_eq_true_eq,beq_iff_eq] at he
  obtain ⟨_,rfl⟩:=he
  simp at hx
 ·rcases Nat.lt_succ_iff_lt_or_eq.1 hi with hi | rfl
  ·exact hJ i hi
  ·simpa using hx
 ·have hk:k=rows.length:=by omega
  subst hk
  refine ⟨Eq.symm ?_,trivial⟩
  have:rows=rows1:=List.ext_getElem hl fun i h1 h2=>by
   have:=hJ i h1
   rwa [getD_nat h1,getD_nat h2] at this
  simp [this]
def al_law03_same:AL (List (List UInt8) × List (List UInt8)):=(.cons (.k (.list .st)) (.one (.k (.list .st))))
def pre_law03_same (d:List (List UInt8) × List (List UInt8)):Prop:=d.1.length ≤ 1000
def res_law03_same (d:List (List UInt8) × List (List UInt8)):SV:=.val .bo (d.1 == d.2)
def obs_law03_same (d:List (List UInt8) × List (List UInt8)):List OB:=[]
def s_law03_same:CSp:=mkSp al_law03_same pre_law03_same res_law03_same obs_law03_same
def vc_law03_same (a:List (List UInt8)) (b:List (List UInt8)):Prop :=
 (((lI a) != (lI b))=true →
  (false=(a == b)∧(True))) ∧
 (((lI a) != (lI b))=false →
  ∃ (e2:Unit) (d20:Int),((a=a∧b=b∧(0:Int)=d20∧True)∧(True)) ∧
  LoopP (fun (d2:Int) (q2:(Int)→Prop) =>
   ((decide (d2 < (lI a)))=true →
    (0 ≤ d2)∧(d2 < (List.length a))∧(0 ≤ d2)∧(d2 < (List.length b))∧((!((gD a d2 []) == (gD b d2 [])))=true →
     (false=(a == b)∧(True))) ∧
    ((!((gD a d2 []) == (gD b d2 [])))=false →
     (I64 (d2 + (1:Int)))∧(∃ d3:Int,((a=a∧b=b∧(d2 + (1:Int))=d3∧True)∧(True))∧q2 d3))) ∧
   ((decide (d2 < (lI a)))=false →
    (true=(a == b)∧(True)))) d20)
def cx_law03_same:Cx:=⟨[],[],26,[],0,[],[],[],[],false,[],[],[]⟩
def lp_law03_same (a:List (List UInt8)) (b:List (List UInt8)):List (Nat × LoopAnn):=[(0,⟨Unit,Int,[0,1,5],fun e x=>[.val (.list .st) a,.val (.list .st) b,.val (.i .i64) x],fun e x=>[]⟩)]
set_option maxRecDepth 100000 in
theorem vq_law03_same (d:List (List UInt8) × List (List UInt8)):gwp (cx_law03_same) (lp_law03_same d.1 d.2) c53 0 (gend [.tmp 4] (res_law03_same d) (obs_law03_same d)) (gstart 26 (AL.can al_law03_same d))=vc_law03_same d.1 d.2:=by kernel_rfl
abbrev Ok_law03_same:Prop:=OkC Tryz.prog 53 s_law03_same
theorem mk_law03_same (h:∀ (a:List (List UInt8)) (b:List (List UInt8)),(a.length ≤ 1000)→vc_law03_same a b):OkC Tryz.prog 53 s_law03_same :=
 okC_vc fun53 mixed (C:=cx_law03_same) (V:=fun (d:List (List UInt8) × List (List UInt8))=>vc_law03_same d.1 d.2) ⟨.nil,XsOk.nil,ItsOk.nil,YlOk.nil,IysOk.nil⟩ (vq_law03_same) fun d hp=>h d.1 d.2 hp
theorem ok_law03_same:Ok_law03_same:=mk_law03_same fun a b h=>by
 unfold vc_law03_same; (try delta lI gD sT I64)
 (try simp only [decide_eq_true_eq,decide_eq_false_iff_not])
 refine ⟨fun hx=>?_,fun hx=>⟨(),0,(by and_intros <;> first | rfl | trivial | simp),?_⟩⟩
 ·refine ⟨Eq.symm ?_,trivial⟩
  rw [beq_eq_false_iff_ne]
  rintro rfl
  simp at hx
 have hl:a.length=b.length:=by simp only [bne_eq_false_iff_eq] at hx; omega
 refine LoopP.count a.length (fun k=>∀ i,i < k→a.getD i []=b.getD i []) (fun i hi=>by omega) fun k hk hJ q hq=>?_
 simp only [Int.toNat_natCast,InK_i64]
 refine ⟨fun hlt=>⟨by omega,by omega,by omega,by omega,fun hx=>?_,fun hx=>⟨by omega,_,(by and_intros <;> first | rfl | trivial | simp),hq (by omega) fun i hi=>?_⟩⟩,fun hge=>?_⟩
 ·refine ⟨Eq.symm ?_,trivial⟩
  rw [beq_eq_false_iff_ne]
  rintro rfl
  simp at hx
 ·rcases Nat.lt_succ_iff_lt_or_eq.1 hi with hi | rfl
  ·exact hJ i hi
  ·simpa using hx
 ·have hk:k=a.length:=by omega
  subst hk
  refine ⟨Eq.symm ?_,trivial⟩
  rw [beq_iff_eq]
  exact List.ext_getElem hl fun i h1 h2=>by
   have:=hJ i h1
   rwa [getD_nat h1,getD_nat h2] at this
end Go.Proofs.Tryz
set_option linter.unusedVariables false
namespace Go.Proofs.Tryz
open Go Go.V Go.Proofs
theorem loom_ok {h8:Int} {ws rs:List Int} (h:lOk h8 ws rs):(1 ≤ hkN 16 h8∧hkN 16 h8 ≤ 16)∧(warpsN (hkN 16 h8) 48 ws ≠ []∧(warpsN (hkN 16 h8) 48 ws).length ≤ 48∧∀ x ∈ warpsN (hkN 16 h8) 48 ws,0 ≤ x∧x < hkN 16 h8) ∧
  (rowsN (hkN 16 h8) 12 rs ≠ []∧(rowsN (hkN 16 h8) 12 rs).length ≤ 12∧∀ x ∈ rowsN (hkN 16 h8) 12 rs,0 ≤ x∧x < 2 ^ (hkN 16 h8).toNat):=by
 obtain ⟨h1,h2,h3,h4⟩:=h
 have hk:=hkN_range (m:=16) (by omega) h1
 refine ⟨hk,⟨?_,?_,?_⟩,⟨?_,?_,?_⟩⟩
 ·unfold warpsN; split
  ·simp
  ·rename_i hne; simpa using hne
 ·rw [warpsN_len]; split <;> omega
 ·intro x hx
  unfold warpsN at hx
  split at hx
  ·rw [List.mem_singleton.1 hx]; omega
  ·simp only [List.mem_map] at hx
   obtain ⟨y,hy,rfl⟩:=hx
   have:=h3 y (List.mem_of_mem_take hy)
   exact ⟨Int.tmod_nonneg _ this.1,Int.tmod_lt_of_pos _ (by omega)⟩
 ·unfold rowsN; split
  ·simp
  ·rename_i hne; simpa using hne
 ·rw [rowsN_len]; split <;> omega
 ·intro x hx
  have hp:=pow_bound hk.1 (show hkN 16 h8 ≤ 24 by omega)
  unfold rowsN at hx
  split at hx
  ·rw [List.mem_singleton.1 hx]
   exact ⟨Int.emod_nonneg _ (by omega),Int.emod_lt_of_pos _ (by omega)⟩
  ·simp only [List.mem_map] at hx
   obtain ⟨y,_,rfl⟩:=hx
   exact ⟨Int.emod_nonneg _ (by omega),Int.emod_lt_of_pos _ (by omega)⟩
theorem isXd_pickS (lw:List Int) (r:Int):isXd (pickS lw r)=true:=by
 simp only [isXd,pickS,List.all_eq_true,List.mem_map]
 rintro b ⟨k,_,rfl⟩
 cases r.toNat.testBit k.toNat <;> rfl
theorem pickS_at {lw:List Int} {r:Int} {w:Nat} (hw:w < lw.length):(pickS lw r).getD w 0=if r.toNat.testBit (lw.getD w 0).toNat then 120 else 46:=by
 rw [getD_nat (by rw [pickS_length]; exact hw),getD_nat hw]; simp [pickS]
theorem woven_ok {n:Int} {W R:List Int} (h1:1 ≤ n) (h2:n ≤ 16) (w1:W ≠ []) (w2:W.length ≤ 48) (w3:∀ x ∈ W,0 ≤ x∧x < n) (r1:R ≠ []) (r2:R.length ≤ 12) (r3:∀ x ∈ R,0 ≤ x∧x < 2 ^ n.toNat) :
  weaveErr n W n R=0∧weaveC n W n R=R.map (pickS W)∧clothErr (R.map (pickS W)) W.length=0∧wpN (R.map (pickS W))=W.length:=by
 obtain ⟨e1,_⟩:=weave_ok h1 (by omega) w1 (by omega) w3 r1 (by omega) r3
 have hw:1 ≤ W.length:=List.length_pos_iff.2 w1
 have hr:1 ≤ R.length:=List.length_pos_iff.2 r1
 refine ⟨e1,by simp [weaveC,e1],?_,?_⟩
 ·have i1:inI (W.length:Int) 1 96=true:=by simp [inI]; omega
  have a1:(R.map (pickS W)).any (fun s=>decide ((s.length:Int) ≠ (W.length:Int)) || !isXd s)=false:=by
   rw [List.any_eq_false]
   intro s hs
   simp only [List.mem_map] at hs
   obtain ⟨r,_,rfl⟩:=hs
   simp [isXd_pickS,pickS_length]
  unfold clothErr
  rw [i1,a1,if_neg (by rw [List.length_map]; omega),if_neg (by rw [List.length_map]; omega),if_neg (by simp)]
 ·cases R with
  | nil=>exact (r1 rfl).elim
  | cons r R=>simp [wpN,pickS_length]
end Go.Proofs.Tryz
set_option linter.unusedVariables false
namespace Go.Proofs.Tryz
open Go Go.V Go.Proofs
def flipS (s:List UInt8) (w:Nat):List UInt8:=s.set w (if s.getD w 0=120 then 46 else 120)
def maskR (W R:List Int):List Int:=R.map fun r=>((r.toNat &&& usedK W W.length:Nat):Int)
theorem flipS_length (s:List UInt8) (w:Nat):(flipS s w).length=s.length:=by simp [flipS]
theorem flipS_at {s:List UInt8} {w i:Nat} (hw:w < s.length):(flipS s w).getD i 0=if i=w then (if s.getD w 0=120 then 46 else 120) else s.getD i 0:=by
 unfold flipS
 rw [List.getD_eq_getElem?_getD,List.getElem?_set]
 by_cases h:w=i
 ·subst h
  rw [if_pos rfl,if_pos hw,if_pos rfl]; rfl
 ·rw [if_neg h,if_neg (Ne.symm h),←List.getD_eq_getElem?_getD]
theorem flipS_ne {s:List UInt8} {w:Nat} (hw:w < s.length):(flipS s w).getD w 0 ≠ s.getD w 0:=by
 rw [flipS_at hw,if_pos rfl]
 by_cases h:s.getD w 0=120
 ·rw [if_pos h,h]; decide
 ·rw [if_neg h]; exact Ne.symm h
theorem isXd_flip {s:List UInt8} {w:Nat} (h:isXd s=true):isXd (flipS s w)=true:=by
 simp only [isXd,List.all_eq_true] at h ⊢
 intro b hb
 rcases List.mem_or_eq_of_mem_set hb with hb | rfl
 ·exact h b hb
 ·split <;> rfl
theorem partW_pickS (W:List Int) (r:Int):partW W (pickS W r)=none:=partW_none.2 fun w hw=>by
 rw [pickS_at hw,pickS_at (fstN_lt (getD_mem hw)),fstN_at (getD_mem hw)]
theorem rowX_pickS {W:List Int} (w3:∀ x ∈ W,0 ≤ x) (r:Int):rowX W (pickS W r)=r.toNat &&& usedK W W.length:=by
 refine Nat.eq_of_testBit_eq fun b=>?_
 rw [Bool.eq_iff_iff,rowX,rowXk_bit w3 b _ (Nat.le_refl _),Nat.testBit_and,Bool.and_eq_true,usedK_bit w3 _ (Nat.le_refl _)]
 constructor
 ·rintro ⟨w,h1,h2,h3⟩
  rw [pickS_at h1] at h3
  refine ⟨?_,w,h1,h2⟩
  by_cases h:r.toNat.testBit (W.getD w 0).toNat=true
  ·rwa [h2,Int.toNat_natCast] at h
  ·rw [if_neg h] at h3; exact absurd h3 (by decide)
 ·rintro ⟨h1,w,h2,h3⟩
  exact ⟨w,h2,h3,by rw [pickS_at h2,h3,Int.toNat_natCast,if_pos h1]⟩
theorem rowsX_pickS {W:List Int} (w3:∀ x ∈ W,0 ≤ x) (R:List Int):rowsX W (R.map (pickS W))=maskR W R:=by
 unfold rowsX maskR
 rw [List.map_map]
 exact List.map_congr_left fun r _=>by simp only [Function.comp,rowX_pickS w3]
theorem pickS_back {W:List Int} {s:List UInt8} (w3:∀ x ∈ W,0 ≤ x) (hl:s.length=W.length) (hx:isXd s=true) (hn:partW W s=none):pickS W ((rowX W s:Nat):Int)=s:=by
 apply List.ext_getElem
 ·rw [pickS_length,hl]
 ·intro w k1 k2
  rw [pickS_length] at k1
  have e:=pickS_at (lw:=W) (r:=((rowX W s:Nat):Int)) k1
  rw [getD_nat (by rw [pickS_length]; omega)] at e
  rw [e,Int.toNat_natCast]
  have hb:=rowXk_bit (s:=s) w3 (W.getD w 0).toNat W.length (Nat.le_refl _)
  have hn:=partW_none.1 hn
  have h120:(rowX W s).testBit (W.getD w 0).toNat=true ↔ s.getD w 0=120:=by
   unfold rowX
   rw [hb]
   have h0:=w3 _ (getD_mem k1)
   constructor
   ·rintro ⟨v,v1,v2,v3⟩
    have h3:W.getD v 0=W.getD w 0:=by omega
    have a:=hn v v1
    have b:=hn w k1
    rw [h3] at a
    rw [b,←a,v3]
   ·intro h; exact ⟨w,k1,by omega,h⟩
  have hsw:s.getD w 0=s[w]:=getD_nat k2
  have hx1:=List.all_eq_true.1 hx s[w] (List.getElem_mem k2)
  simp only [Bool.or_eq_true,beq_iff_eq] at hx1
  rw [hsw] at h120
  by_cases hc:s[w]=120
  ·rw [if_pos (h120.2 hc),hc]
  ·rw [if_neg (fun h=>hc (h120.1 h))]
   rcases hx1 with hx1 | hx1
   ·exact (hc hx1).elim
   ·exact hx1.symm
theorem cloth_ok {c:List (List UInt8)} {n:Nat} (h1:1 ≤ n) (h2:n ≤ 96) (c1:1 ≤ c.length) (c2:c.length ≤ 60) (hl:∀ s ∈ c,s.length=n) (hx:∀ s ∈ c,isXd s=true):clothErr c n=0:=by
 have i1:inI (n:Int) 1 96=true:=by simp [inI]; omega
 have a1:c.any (fun s=>decide ((s.length:Int) ≠ (n:Int)) || !isXd s)=false:=by
  rw [List.any_eq_false]
  intro s hs
  simp [hl s hs,hx s hs]
 unfold clothErr
 rw [i1,a1,if_neg (by omega),if_neg (by omega),if_neg (by simp)]
theorem fstN_le {lw:List Int} {w:Nat} (hw:w < lw.length):fstN lw (lw.getD w 0) ≤ w:=by
 rcases Nat.lt_or_ge w (fstN lw (lw.getD w 0)) with h | h
 ·exact (fstN_min h rfl).elim
 ·exact h
theorem flip_alone {W:List Int} {s:List UInt8} {w:Nat} (hw:w < W.length) (hl:s.length=W.length) (hn:partW W s=none) (ha:∀ i,i < W.length→i ≠ w→W.getD i 0 ≠ W.getD w 0):partW W (flipS s w)=none:=partW_none.2 fun i hi=>by
 have hn:=partW_none.1 hn i hi
 have hf:=fstN_lt (getD_mem hi)
 have he:=fstN_at (getD_mem hi)
 by_cases h:i=w
 ·subst h
  have:fstN W (W.getD i 0)=i:=by
   apply Classical.byContradiction
   intro h2
   exact ha _ hf h2 he
  rw [this]
 ·have h2:fstN W (W.getD i 0) ≠ w:=fun h3=>by
   rw [h3] at he
   exact ha i hi h he.symm
  rw [flipS_at (by omega),flipS_at (by omega),if_neg h,if_neg h2,hn]
theorem flip_part {W:List Int} {s:List UInt8} {w j:Nat} (hw:w < W.length) (hl:s.length=W.length) (hn:partW W s=none) (hj:j < W.length) (hjw:j ≠ w) (he:W.getD j 0=W.getD w 0) :
  ∃ v,partW W (flipS s w)=some v∧v < W.length∧W.getD v 0=W.getD w 0∧fstN W (W.getD w 0) < v∧(fstN W (W.getD w 0) ≠ w→v=w)∧(flipS s w).getD v 0 ≠ (flipS s w).getD (fstN W (W.getD w 0)) 0:=by
 have hn:=partW_none.1 hn
 have hf:=fstN_lt (getD_mem hw)
 have hfe:=fstN_at (getD_mem hw)
 have hsame:∀ i,i ≠ w→(flipS s w).getD i 0=s.getD i 0:=fun i hi=>by rw [flipS_at (by omega),if_neg hi]
 have hfw:=flipS_ne (s:=s) (w:=w) (by omega)
 cases hp:partW W (flipS s w) with
 | none =>
  exfalso
  have hp:=partW_none.1 hp
  by_cases h:fstN W (W.getD w 0)=w
  ·have a:=hp j hj
   rw [he,h,hsame j hjw,hn j hj,he,h] at a
   exact hfw a.symm
  ·have a:=hp w hw
   rw [hsame _ h,←hn w hw] at a
   exact hfw a
 | some v =>
  obtain ⟨h1,h2,_⟩:=List.find?_range_eq_some.1 hp
  have hv:v < W.length:=List.mem_range.1 h2
  have h1:(flipS s w).getD v 0 ≠ (flipS s w).getD (fstN W (W.getD v 0)) 0:=by simpa [partB] using h1
  have hve:=fstN_at (getD_mem hv)
  have hor:v=w ∨ fstN W (W.getD v 0)=w:=by
   apply Classical.byContradiction
   intro h
   have h3:v ≠ w:=fun e=>h (.inl e)
   have h4:fstN W (W.getD v 0) ≠ w:=fun e=>h (.inr e)
   rw [hsame _ h3,hsame _ h4] at h1
   exact h1 (hn v hv)
  have hvw:W.getD v 0=W.getD w 0:=by
   rcases hor with rfl | h
   ·rfl
   ·rw [h] at hve; exact hve.symm
  rw [hvw] at h1 hor
  refine ⟨v,rfl,hv,hvw,?_,fun h=>?_,h1⟩
  ·have h5:=fstN_le hv
   rw [hvw] at h5
   rcases Nat.lt_or_eq_of_le h5 with h6 | h6
   ·exact h6
   ·rw [h6] at h1; exact (h1 rfl).elim
  ·rcases hor with h6 | h6
   ·exact h6
   ·exact (h h6).elim
theorem set_getD {α:Type} {c:List α} {d:α} {p i:Nat} {x:α} (hp:p < c.length):(c.set p x).getD i d=if i=p then x else c.getD i d:=by
 rw [List.getD_eq_getElem?_getD,List.getElem?_set]
 by_cases h:p=i
 ·subst h
  rw [if_pos rfl,if_pos hp,if_pos rfl]; rfl
 ·rw [if_neg h,if_neg (Ne.symm h),←List.getD_eq_getElem?_getD]
theorem threads {n:Int} {W:List Int} {C:List (List UInt8)} {p w:Nat} (h1:1 ≤ n) (h2:n ≤ 16) (w1:1 ≤ W.length) (w2:W.length ≤ 48) (w3:∀ x ∈ W,0 ≤ x∧x < n) (c1:1 ≤ C.length) (c2:C.length ≤ 12) (hl:∀ s ∈ C,s.length=W.length) (hx:∀ s ∈ C,isXd s=true) (hn:∀ s ∈ C,partW W s=none) (hp:p < C.length) (hw:w < W.length) (ht:tieErr n W=0) :
  clothErr (C.set p (flipS (C.getD p []) w)) W.length=0∧unwErr n W (C.set p (flipS (C.getD p []) w))=0 ∧
  ((∀ i,i < W.length→i ≠ w→W.getD i 0 ≠ W.getD w 0)→partF W (C.set p (flipS (C.getD p []) w))=none ∧
   weaveErr n W n (rowsX W (C.set p (flipS (C.getD p []) w)))=0∧weaveC n W n (rowsX W (C.set p (flipS (C.getD p []) w)))=C.set p (flipS (C.getD p []) w)) ∧
  ∀ j,j < W.length→j ≠ w→W.getD j 0=W.getD w 0→∃ v,partF W (C.set p (flipS (C.getD p []) w))=some (p,v)∧v < W.length∧W.getD v 0=W.getD w 0∧fstN W (W.getD w 0) < v∧(fstN W (W.getD w 0) ≠ w→v=w)∧(flipS (C.getD p []) w).getD v 0 ≠ (flipS (C.getD p []) w).getD (fstN W (W.getD w 0)) 0:=by
 have hpm:C.getD p [] ∈ C:=by rw [getD_nat hp]; exact List.getElem_mem hp
 have hll:∀ s ∈ C.set p (flipS (C.getD p []) w),s.length=W.length:=fun s hs=>by
  rcases List.mem_or_eq_of_mem_set hs with hs | rfl
  ·exact hl s hs
  ·rw [flipS_length]; exact hl _ hpm
 have hxx:∀ s ∈ C.set p (flipS (C.getD p []) w),isXd s=true:=fun s hs=>by
  rcases List.mem_or_eq_of_mem_set hs with hs | rfl
  ·exact hx s hs
  ·exact isXd_flip (hx _ hpm)
 have hlen:(C.set p (flipS (C.getD p []) w)).length=C.length:=List.length_set ..
 have hc:=cloth_ok w1 (by omega) (by omega) (by omega) hll hxx
 refine ⟨hc,by unfold unwErr; rw [if_neg (by rw [ht]; simp)]; exact hc,fun ha=>?_,fun j hj hjw he=>?_⟩
 ·have hnn:∀ s ∈ C.set p (flipS (C.getD p []) w),partW W s=none:=fun s hs=>by
   rcases List.mem_or_eq_of_mem_set hs with hs | rfl
   ·exact hn s hs
   ·exact flip_alone hw (hl _ hpm) (hn _ hpm) ha
  generalize C.set p (flipS (C.getD p []) w)=D at *
  have hD:∀ x ∈ rowsX W D,0 ≤ x∧x < 2 ^ n.toNat:=fun x hx=>by
   simp only [rowsX,List.mem_map] at hx
   obtain ⟨s,_,rfl⟩:=hx
   have:=rowXk_lt (s:=s) (n:=n.toNat) (fun x hx=>by have:=w3 x hx; omega) W.length (Nat.le_refl _)
   refine ⟨by omega,?_⟩
   have e:(2:Int) ^ n.toNat=((2 ^ n.toNat:Nat):Int):=by simp
   rw [e]; unfold rowX; omega
  have hDl:(rowsX W D).length=C.length:=by simp [rowsX,hlen]
  obtain ⟨g1,_⟩:=weave_ok (n:=n) (S:=W) (xs:=rowsX W D) h1 (by omega) (fun e=>by rw [e] at w1; simp at w1) (by omega) w3 (fun e=>by rw [e] at hDl; simp at hDl; omega) (by omega) hD
  refine ⟨partF_none.2 fun i hi=>hnn _ (by rw [getD_nat hi]; exact List.getElem_mem hi),g1,?_⟩
  simp only [weaveC,g1,if_true]
  unfold rowsX
  rw [List.map_map]
  conv=>rhs; rw [←List.map_id D]
  exact List.map_congr_left fun s hs=>pickS_back (fun x hx=>(w3 x hx).1) (hll s hs) (hxx s hs) (hnn s hs)
 ·obtain ⟨v,v1,v2⟩:=flip_part hw (hl _ hpm) (hn _ hpm) hj hjw he
  refine ⟨v,partF_some (by omega) (fun i hi=>?_) (by rw [set_getD hp,if_pos rfl]; exact v1),v2⟩
  rw [set_getD hp,if_neg (by omega),getD_nat (by omega)]
  exact hn _ (List.getElem_mem _)
theorem fst_step {W:List Int} {w k:Nat} (hw:w < W.length) (hk:k < W.length):(if fstN W (W.getD w 0) < k + 1 then fstN W (W.getD w 0) else w)=if k ≠ w∧W.getD k 0=W.getD w 0 then min (if fstN W (W.getD w 0) < k then fstN W (W.getD w 0) else w) k else (if fstN W (W.getD w 0) < k then fstN W (W.getD w 0) else w):=by
 have hle:=fstN_le hw
 have he:=fstN_at (getD_mem hw)
 by_cases h:k ≠ w∧W.getD k 0=W.getD w 0
 ·rw [if_pos h]
  have hk2:fstN W (W.getD w 0) ≤ k:=by have:=fstN_le hk; rwa [h.2] at this
  rw [if_pos (by omega)]
  split <;> omega
 ·rw [if_neg h]
  by_cases hf:fstN W (W.getD w 0) < k
  ·rw [if_pos hf,if_pos (by omega)]
  ·rw [if_neg hf]
   by_cases hf2:fstN W (W.getD w 0) < k + 1
   ·rw [if_pos hf2]
    have e:fstN W (W.getD w 0)=k:=by omega
    rw [e] at he ⊢
    by_cases hkw:k=w
    ·exact hkw
    ·exact (h ⟨hkw,he⟩).elim
   ·rw [if_neg hf2]
theorem bytesI_back (s:List UInt8):bytesI (s.map fun (b:UInt8)=>((b.toNat:Nat):Int))=s:=by
 unfold bytesI
 rw [List.map_map]
 conv=>rhs; rw [←List.map_id s]
 exact List.map_congr_left fun b _=>by simp [Function.comp]
theorem bytesI_set (l:List Int) (w:Nat) (v:Int):bytesI (l.set w v)=(bytesI l).set w v.toNat.toUInt8:=by
 unfold bytesI; rw [List.map_set]
theorem bytes_on {s:List UInt8} {w:Nat} (h:s.getD w 0 ≠ 120):bytesI ((s.map fun (b:UInt8)=>((b.toNat:Nat):Int)).set w 120)=flipS s w:=by
 rw [bytesI_set,bytesI_back]; unfold flipS; rw [if_neg h]; rfl
theorem bytes_off {s:List UInt8} {w:Nat} (h:s.getD w 0=120):bytesI (((s.map fun (b:UInt8)=>((b.toNat:Nat):Int)).set w 120).set w 46)=flipS s w:=by
 rw [List.set_set,bytesI_set,bytesI_back]; unfold flipS; rw [if_pos h]; rfl
theorem LoopP.count3 {X Y:Type} {F:X × Y × Int→(X × Y × Int→Prop)→Prop} (n:Nat) (J:Nat→X→Y→Prop) {x0:X} {y0:Y} (h0:J 0 x0 y0) (hr:∀ (k:Nat) (x:X) (y:Y),k ≤ n→J k x y→∀ q:X × Y × Int→Prop,(∀ x' y',k < n→J (k + 1) x' y'→q (x',y',(k:Int) + 1))→F (x,y,(k:Int)) q):LoopP F (x0,y0,0):=by
 refine ⟨fun d=>∃ k:Nat,d.2.2=k∧k ≤ n∧J k d.1 d.2.1,fun d=>n - d.2.2.toNat,⟨0,rfl,Nat.zero_le _,h0⟩,fun ⟨x,y,d⟩ ⟨k,hd,hk,hJ⟩=>?_⟩
 simp only at hd hJ
 subst hd
 refine hr k x y hk hJ _ fun x' y' hlt hJ'=>⟨⟨k + 1,by simp,hlt,hJ'⟩,?_⟩
 simp; omega
def al_law03_TieThreads:AL ((Int × List Int × List Int) × Int × Int):=(.cons (.agg (.cons (.k (.i .u8)) (.cons (.k (.list (.i .u8))) (.one (.k (.list (.i .u16))))))) (.one (.agg (.cons (.k (.i .u8)) (.one (.k (.i .u8)))))))
def pre_law03_TieThreads (d:(Int × List Int × List Int) × Int × Int):Prop:=lOk d.1.1 d.1.2.1 d.1.2.2∧0 ≤ d.2.1∧d.2.1 ≤ 255∧0 ≤ d.2.2∧d.2.2 ≤ 255
def res_law03_TieThreads (d:(Int × List Int × List Int) × Int × Int):SV:=.val .bo true
def obs_law03_TieThreads (d:(Int × List Int × List Int) × Int × Int):List OB:=[]
def s_law03_TieThreads:CSp:=mkSp al_law03_TieThreads pre_law03_TieThreads res_law03_TieThreads obs_law03_TieThreads
def vc_law03_TieThreads (h8:Int) (ws:List Int) (rs:List Int) (a0:Int) (a1:Int):Prop :=
 (lOk h8 ws rs)∧(false=true→(warpsN (hkN 16 h8) 48 ws)=[])∧(lOk h8 ws rs)∧(false=true→(rowsN (hkN 16 h8) 12 rs)=[])∧((True∧True∧True∧((hkN 16 h8)=(hkN 16 h8)∧True∧(([]:List SV)=[]))∧((hkN 16 h8)=(hkN 16 h8)∧True∧(([]:List SV)=[]))∧True)∧((h8=h8∧ws=ws∧rs=rs∧(([]:List SV)=[]))∧(a0=a0∧a1=a1∧(([]:List SV)=[]))∧((0:Int)=(0:Int)∧True∧(([]:List SV)=[]))∧((0:Int)=(0:Int)∧True∧(([]:List SV)=[]))∧((warpsN (hkN 16 h8) 48 ws)=(warpsN (hkN 16 h8) 48 ws)∧false=false)∧((rowsN (hkN 16 h8) 12 rs)=(rowsN (hkN 16 h8) 12 rs)∧false=false)∧True))∧((lOk h8 ws rs)∧(false=true→(warpsN (hkN 16 h8) 48 ws)=[])∧(lOk h8 ws rs)∧(false=true→(rowsN (hkN 16 h8) 12 rs)=[])∧((True∧True∧True∧((hkN 16 h8)=(hkN 16 h8)∧True∧(([]:List SV)=[]))∧((hkN 16 h8)=(hkN 16 h8)∧True∧(([]:List SV)=[]))∧True)∧((h8=h8∧ws=ws∧rs=rs∧(([]:List SV)=[]))∧(a0=a0∧a1=a1∧(([]:List SV)=[]))∧((0:Int)=(0:Int)∧True∧(([]:List SV)=[]))∧((0:Int)=(0:Int)∧True∧(([]:List SV)=[]))∧((warpsN (hkN 16 h8) 48 ws)=(warpsN (hkN 16 h8) 48 ws)∧false=false)∧((rowsN (hkN 16 h8) 12 rs)=(rowsN (hkN 16 h8) 12 rs)∧false=false)∧True)))∧((lOk h8 ws rs)∧(false=true→(warpsN (hkN 16 h8) 48 ws)=[])∧(lOk h8 ws rs)∧(false=true→(rowsN (hkN 16 h8) 12 rs)=[])∧((True∧True∧True∧((hkN 16 h8)=(hkN 16 h8)∧True∧(([]:List SV)=[]))∧((hkN 16 h8)=(hkN 16 h8)∧True∧(([]:List SV)=[]))∧True)∧((h8=h8∧ws=ws∧rs=rs∧(([]:List SV)=[]))∧(a0=a0∧a1=a1∧(([]:List SV)=[]))∧((0:Int)=(0:Int)∧True∧(([]:List SV)=[]))∧((0:Int)=(0:Int)∧True∧(([]:List SV)=[]))∧((warpsN (hkN 16 h8) 48 ws)=(warpsN (hkN 16 h8) 48 ws)∧false=false)∧((rowsN (hkN 16 h8) 12 rs)=(rowsN (hkN 16 h8) 12 rs)∧false=false)∧True)))∧((lOk h8 ws rs)∧(false=true→(warpsN (hkN 16 h8) 48 ws)=[])∧(lOk h8 ws rs)∧(false=true→(rowsN (hkN 16 h8) 12 rs)=[])∧((True∧True∧True∧((hkN 16 h8)=(hkN 16 h8)∧True∧(([]:List SV)=[]))∧((hkN 16 h8)=(hkN 16 h8)∧True∧(([]:List SV)=[]))∧True)∧((h8=h8∧ws=ws∧rs=rs∧(([]:List SV)=[]))∧(a0=a0∧a1=a1∧(([]:List SV)=[]))∧((0:Int)=(0:Int)∧True∧(([]:List SV)=[]))∧((0:Int)=(0:Int)∧True∧(([]:List SV)=[]))∧((warpsN (hkN 16 h8) 48 ws)=(warpsN (hkN 16 h8) 48 ws)∧false=false)∧((rowsN (hkN 16 h8) 12 rs)=(rowsN (hkN 16 h8) 12 rs)∧false=false)∧True)))∧((lOk h8 ws rs)∧(false=true→(warpsN (hkN 16 h8) 48 ws)=[])∧(lOk h8 ws rs)∧(false=true→(rowsN (hkN 16 h8) 12 rs)=[])∧((True∧True∧True∧((hkN 16 h8)=(hkN 16 h8)∧True∧(([]:List SV)=[]))∧((hkN 16 h8)=(hkN 16 h8)∧True∧(([]:List SV)=[]))∧True)∧((h8=h8∧ws=ws∧rs=rs∧(([]:List SV)=[]))∧(a0=a0∧a1=a1∧(([]:List SV)=[]))∧((0:Int)=(0:Int)∧True∧(([]:List SV)=[]))∧((0:Int)=(0:Int)∧True∧(([]:List SV)=[]))∧((warpsN (hkN 16 h8) 48 ws)=(warpsN (hkN 16 h8) 48 ws)∧false=false)∧((rowsN (hkN 16 h8) 12 rs)=(rowsN (hkN 16 h8) 12 rs)∧false=false)∧True)))∧((lOk h8 ws rs)∧(false=true→(warpsN (hkN 16 h8) 48 ws)=[])∧(lOk h8 ws rs)∧(false=true→(rowsN (hkN 16 h8) 12 rs)=[])∧((True∧True∧True∧((hkN 16 h8)=(hkN 16 h8)∧True∧(([]:List SV)=[]))∧((hkN 16 h8)=(hkN 16 h8)∧True∧(([]:List SV)=[]))∧True)∧((h8=h8∧ws=ws∧rs=rs∧(([]:List SV)=[]))∧(a0=a0∧a1=a1∧(([]:List SV)=[]))∧((0:Int)=(0:Int)∧True∧(([]:List SV)=[]))∧((0:Int)=(0:Int)∧True∧(([]:List SV)=[]))∧((warpsN (hkN 16 h8) 48 ws)=(warpsN (hkN 16 h8) 48 ws)∧false=false)∧((rowsN (hkN 16 h8) 12 rs)=(rowsN (hkN 16 h8) 12 rs)∧false=false)∧True)))∧((lOk h8 ws rs)∧(false=true→(warpsN (hkN 16 h8) 48 ws)=[])∧(lOk h8 ws rs)∧(false=true→(rowsN (hkN 16 h8) 12 rs)=[])∧((True∧True∧True∧((hkN 16 h8)=(hkN 16 h8)∧True∧(([]:List SV)=[]))∧((hkN 16 h8)=(hkN 16 h8)∧True∧(([]:List SV)=[]))∧True)∧((h8=h8∧ws=ws∧rs=rs∧(([]:List SV)=[]))∧(a0=a0∧a1=a1∧(([]:List SV)=[]))∧((0:Int)=(0:Int)∧True∧(([]:List SV)=[]))∧((0:Int)=(0:Int)∧True∧(([]:List SV)=[]))∧((warpsN (hkN 16 h8) 48 ws)=(warpsN (hkN 16 h8) 48 ws)∧false=false)∧((rowsN (hkN 16 h8) 12 rs)=(rowsN (hkN 16 h8) 12 rs)∧false=false)∧True)))∧((lOk h8 ws rs)∧(false=true→(warpsN (hkN 16 h8) 48 ws)=[])∧(lOk h8 ws rs)∧(false=true→(rowsN (hkN 16 h8) 12 rs)=[])∧((True∧True∧True∧((hkN 16 h8)=(hkN 16 h8)∧True∧(([]:List SV)=[]))∧((hkN 16 h8)=(hkN 16 h8)∧True∧(([]:List SV)=[]))∧True)∧((h8=h8∧ws=ws∧rs=rs∧(([]:List SV)=[]))∧(a0=a0∧a1=a1∧(([]:List SV)=[]))∧((0:Int)=(0:Int)∧True∧(([]:List SV)=[]))∧((0:Int)=(0:Int)∧True∧(([]:List SV)=[]))∧((warpsN (hkN 16 h8) 48 ws)=(warpsN (hkN 16 h8) 48 ws)∧false=false)∧((rowsN (hkN 16 h8) 12 rs)=(rowsN (hkN 16 h8) 12 rs)∧false=false)∧True)))∧((lOk h8 ws rs)∧(false=true→(warpsN (hkN 16 h8) 48 ws)=[])∧(lOk h8 ws rs)∧(false=true→(rowsN (hkN 16 h8) 12 rs)=[])∧((True∧True∧True∧((hkN 16 h8)=(hkN 16 h8)∧True∧(([]:List SV)=[]))∧((hkN 16 h8)=(hkN 16 h8)∧True∧(([]:List SV)=[]))∧True)∧((h8=h8∧ws=ws∧rs=rs∧(([]:List SV)=[]))∧(a0=a0∧a1=a1∧(([]:List SV)=[]))∧((0:Int)=(0:Int)∧True∧(([]:List SV)=[]))∧((0:Int)=(0:Int)∧True∧(([]:List SV)=[]))∧((warpsN (hkN 16 h8) 48 ws)=(warpsN (hkN 16 h8) 48 ws)∧false=false)∧((rowsN (hkN 16 h8) 12 rs)=(rowsN (hkN 16 h8) 12 rs)∧false=false)∧True)))∧((lOk h8 ws rs)∧(false=true→(warpsN (hkN 16 h8) 48 ws)=[])∧(lOk h8 ws rs)∧(false=true→(rowsN (hkN 16 h8) 12 rs)=[])∧((True∧True∧True∧((hkN 16 h8)=(hkN 16 h8)∧True∧(([]:List SV)=[]))∧((hkN 16 h8)=(hkN 16 h8)∧True∧(([]:List SV)=[]))∧True)∧((h8=h8∧ws=ws∧rs=rs∧(([]:List SV)=[]))∧(a0=a0∧a1=a1∧(([]:List SV)=[]))∧((0:Int)=(0:Int)∧True∧(([]:List SV)=[]))∧((0:Int)=(0:Int)∧True∧(([]:List SV)=[]))∧((warpsN (hkN 16 h8) 48 ws)=(warpsN (hkN 16 h8) 48 ws)∧false=false)∧((rowsN (hkN 16 h8) 12 rs)=(rowsN (hkN 16 h8) 12 rs)∧false=false)∧True)))∧((lOk h8 ws rs)∧(false=true→(warpsN (hkN 16 h8) 48 ws)=[])∧(lOk h8 ws rs)∧(false=true→(rowsN (hkN 16 h8) 12 rs)=[])∧((True∧True∧True∧((hkN 16 h8)=(hkN 16 h8)∧True∧(([]:List SV)=[]))∧((hkN 16 h8)=(hkN 16 h8)∧True∧(([]:List SV)=[]))∧True)∧((h8=h8∧ws=ws∧rs=rs∧(([]:List SV)=[]))∧(a0=a0∧a1=a1∧(([]:List SV)=[]))∧((0:Int)=(0:Int)∧True∧(([]:List SV)=[]))∧((0:Int)=(0:Int)∧True∧(([]:List SV)=[]))∧((warpsN (hkN 16 h8) 48 ws)=(warpsN (hkN 16 h8) 48 ws)∧false=false)∧((rowsN (hkN 16 h8) 12 rs)=(rowsN (hkN 16 h8) 12 rs)∧false=false)∧True)))∧((lOk h8 ws rs)∧(false=true→(warpsN (hkN 16 h8) 48 ws)=[])∧(lOk h8 ws rs)∧(false=true→(rowsN (hkN 16 h8) 12 rs)=[])∧((True∧True∧True∧((hkN 16 h8)=(hkN 16 h8)∧True∧(([]:List SV)=[]))∧((hkN 16 h8)=(hkN 16 h8)∧True∧(([]:List SV)=[]))∧True)∧((h8=h8∧ws=ws∧rs=rs∧(([]:List SV)=[]))∧(a0=a0∧a1=a1∧(([]:List SV)=[]))∧((0:Int)=(0:Int)∧True∧(([]:List SV)=[]))∧((0:Int)=(0:Int)∧True∧(([]:List SV)=[]))∧((warpsN (hkN 16 h8) 48 ws)=(warpsN (hkN 16 h8) 48 ws)∧false=false)∧((rowsN (hkN 16 h8) 12 rs)=(rowsN (hkN 16 h8) 12 rs)∧false=false)∧True)))∧((warpsN (hkN 16 h8) 48 ws).length ≤ 1000)∧(false=true→(warpsN (hkN 16 h8) 48 ws)=[])∧((rowsN (hkN 16 h8) 12 rs).length ≤ 1000)∧((warpsN (hkN 16 h8) 48 ws).length ≤ 110∧(rowsN (hkN 16 h8) 12 rs).length ≤ 110)∧∀ (y1:Bool),y1=(weaveErr (hkN 16 h8) (warpsN (hkN 16 h8) 48 ws) (hkN 16 h8) (rowsN (hkN 16 h8) 12 rs) != (0:Int))→(y1=false→(weaveC (hkN 16 h8) (warpsN (hkN 16 h8) 48 ws) (hkN 16 h8) (rowsN (hkN 16 h8) 12 rs)).length ≤ 1000)∧∀ (y2:Bool),y2=(!(rightB (weaveC (hkN 16 h8) (warpsN (hkN 16 h8) 48 ws) (hkN 16 h8) (rowsN (hkN 16 h8) 12 rs)) (lI (rowsN (hkN 16 h8) 12 rs)) (lI (warpsN (hkN 16 h8) 48 ws))))→∀ (y3:Bool),y3=(y1 || y2)→(y3=true →
  (false=true∧(True))) ∧
 (y3=false →
  ((rowsN (hkN 16 h8) 12 rs).length ≤ 1000)∧∃ (e3:Unit) (d30:(List Int) × Int),((True∧True∧True∧True∧True∧(0:Int)=d30.2∧True)∧((a0=a0∧a1=a1∧(([]:List SV)=[]))∧((hkN 16 h8)=(hkN 16 h8)∧True∧(([]:List SV)=[]))∧((warpsN (hkN 16 h8) 48 ws)=(warpsN (hkN 16 h8) 48 ws)∧false=false)∧((hkN 16 h8)=(hkN 16 h8)∧True∧(([]:List SV)=[]))∧((rowsN (hkN 16 h8) 12 rs)=(rowsN (hkN 16 h8) 12 rs)∧false=false)∧((weaveC (hkN 16 h8) (warpsN (hkN 16 h8) 48 ws) (hkN 16 h8) (rowsN (hkN 16 h8) 12 rs))=(weaveC (hkN 16 h8) (warpsN (hkN 16 h8) 48 ws) (hkN 16 h8) (rowsN (hkN 16 h8) 12 rs))∧(weaveC (hkN 16 h8) (warpsN (hkN 16 h8) 48 ws) (hkN 16 h8) (rowsN (hkN 16 h8) 12 rs)).isEmpty=(List.isEmpty (weaveC (hkN 16 h8) (warpsN (hkN 16 h8) 48 ws) (hkN 16 h8) (rowsN (hkN 16 h8) 12 rs))))∧((hkN 16 h8)=(hkN 16 h8)∧True∧(([]:List SV)=[]))∧((rowsN (hkN 16 h8) 12 rs)=d30.1∧false=false)∧True)) ∧
  LoopP (fun (d3:(List Int) × Int) (q3:((List Int) × Int)→Prop) =>
   ∀ (y118:Bool),y118=(decide (d3.2 < (lI (rowsN (hkN 16 h8) 12 rs))))→(y118=true →
    ∃ (e6:(List Int) × Int) (d60:Int),((True∧True∧True∧True∧True∧d3.2=e6.2∧(0:Int)=d60∧True)∧((a0=a0∧a1=a1∧(([]:List SV)=[]))∧((hkN 16 h8)=(hkN 16 h8)∧True∧(([]:List SV)=[]))∧((warpsN (hkN 16 h8) 48 ws)=(warpsN (hkN 16 h8) 48 ws)∧false=false)∧((hkN 16 h8)=(hkN 16 h8)∧True∧(([]:List SV)=[]))∧((rowsN (hkN 16 h8) 12 rs)=(rowsN (hkN 16 h8) 12 rs)∧false=false)∧((weaveC (hkN 16 h8) (warpsN (hkN 16 h8) 48 ws) (hkN 16 h8) (rowsN (hkN 16 h8) 12 rs))=(weaveC (hkN 16 h8) (warpsN (hkN 16 h8) 48 ws) (hkN 16 h8) (rowsN (hkN 16 h8) 12 rs))∧(List.isEmpty (weaveC (hkN 16 h8) (warpsN (hkN 16 h8) 48 ws) (hkN 16 h8) (rowsN (hkN 16 h8) 12 rs)))=(List.isEmpty (weaveC (hkN 16 h8) (warpsN (hkN 16 h8) 48 ws) (hkN 16 h8) (rowsN (hkN 16 h8) 12 rs))))∧((hkN 16 h8)=(hkN 16 h8)∧True∧(([]:List SV)=[]))∧(d3.1=e6.1∧false=false)∧True)) ∧
    LoopP (fun (d6:Int) (q6:(Int)→Prop) =>
     ∀ (y155:Bool),y155=(decide (d6 < (lI (warpsN (hkN 16 h8) 48 ws))))→(y155=true →
      (0 ≤ e6.2)∧(e6.2 < (List.length (weaveC (hkN 16 h8) (warpsN (hkN 16 h8) 48 ws) (hkN 16 h8) (rowsN (hkN 16 h8) 12 rs))))∧∀ (y156:List UInt8),y156=(gD (weaveC (hkN 16 h8) (warpsN (hkN 16 h8) 48 ws) (hkN 16 h8) (rowsN (hkN 16 h8) 12 rs)) e6.2 [])→(0 ≤ d6)∧(d6 < (List.length y156))∧∀ (y157:Int),y157=((UInt8.toNat (gD y156 d6 0):Nat):Int)→∀ (y158:Bool),y158=(y157 == (120:Int))→(0 ≤ e6.2)∧(e6.2 < (List.length (rowsN (hkN 16 h8) 12 rs)))∧∀ (y159:Int),y159=(gD (rowsN (hkN 16 h8) 12 rs) e6.2 0)→(0 ≤ d6)∧(d6 < (List.length (warpsN (hkN 16 h8) 48 ws)))∧∀ (y160:Int),y160=(gD (warpsN (hkN 16 h8) 48 ws) d6 0)→(InK .u64 y160)∧(0 ≤ y160)∧∀ (y161:Int),y161=(shrI .i64 y159 y160)→∀ (y162:Int),y162=(vbits .and .i64 y161 (1:Int))→∀ (y163:Bool),y163=(y162 == (1:Int))→∀ (y164:Bool),y164=(!(y158 == y163))→(y164=false→0 ≤ e6.2)∧(y164=false→e6.2 < (List.length (weaveC (hkN 16 h8) (warpsN (hkN 16 h8) 48 ws) (hkN 16 h8) (rowsN (hkN 16 h8) 12 rs))))∧∀ (y165:List UInt8),y165=(gD (weaveC (hkN 16 h8) (warpsN (hkN 16 h8) 48 ws) (hkN 16 h8) (rowsN (hkN 16 h8) 12 rs)) e6.2 [])→(y164=false→0 ≤ d6)∧(y164=false→d6 < (List.length y165))∧∀ (y166:Int),y166=((UInt8.toNat (gD y165 d6 0):Nat):Int)→∀ (y167:Bool),y167=(y166 != (120:Int))→(y164=false→y167=true→0 ≤ e6.2)∧(y164=false→y167=true→e6.2 < (List.length (weaveC (hkN 16 h8) (warpsN (hkN 16 h8) 48 ws) (hkN 16 h8) (rowsN (hkN 16 h8) 12 rs))))∧∀ (y168:List UInt8),y168=(gD (weaveC (hkN 16 h8) (warpsN (hkN 16 h8) 48 ws) (hkN 16 h8) (rowsN (hkN 16 h8) 12 rs)) e6.2 [])→(y164=false→y167=true→0 ≤ d6)∧(y164=false→y167=true→d6 < (List.length y168))∧∀ (y169:Int),y169=((UInt8.toNat (gD y168 d6 0):Nat):Int)→∀ (y170:Bool),y170=(y169 != (46:Int))→∀ (y171:Bool),y171=(y167 && y170)→∀ (y172:Bool),y172=(y164 || y171)→(y172=true →
       (false=true∧(True))) ∧
      (y172=false →
       (I64 (d6 + (1:Int)))∧(∃ d7:Int,((True∧True∧True∧True∧True∧e6.2=e6.2∧(d6 + (1:Int))=d7∧True)∧((a0=a0∧a1=a1∧(([]:List SV)=[]))∧((hkN 16 h8)=(hkN 16 h8)∧True∧(([]:List SV)=[]))∧((warpsN (hkN 16 h8) 48 ws)=(warpsN (hkN 16 h8) 48 ws)∧false=false)∧((hkN 16 h8)=(hkN 16 h8)∧True∧(([]:List SV)=[]))∧((rowsN (hkN 16 h8) 12 rs)=(rowsN (hkN 16 h8) 12 rs)∧false=false)∧((weaveC (hkN 16 h8) (warpsN (hkN 16 h8) 48 ws) (hkN 16 h8) (rowsN (hkN 16 h8) 12 rs))=(weaveC (hkN 16 h8) (warpsN (hkN 16 h8) 48 ws) (hkN 16 h8) (rowsN (hkN 16 h8) 12 rs))∧(List.isEmpty (weaveC (hkN 16 h8) (warpsN (hkN 16 h8) 48 ws) (hkN 16 h8) (rowsN (hkN 16 h8) 12 rs)))=(List.isEmpty (weaveC (hkN 16 h8) (warpsN (hkN 16 h8) 48 ws) (hkN 16 h8) (rowsN (hkN 16 h8) 12 rs))))∧((hkN 16 h8)=(hkN 16 h8)∧True∧(([]:List SV)=[]))∧(e6.1=e6.1∧false=false)∧True))∧q6 d7))) ∧
     (y155=false →
      (0 ≤ e6.2)∧(e6.2 < (List.length e6.1))∧∀ (y173:Int),y173=(gD e6.1 e6.2 0)→((warpsN (hkN 16 h8) 48 ws).length ≤ 1000∧∀ x ∈ (warpsN (hkN 16 h8) 48 ws),0 ≤ x∧x < 60)∧∀ (y174:Int),y174=(vbits .and .i64 y173 ((usedK (warpsN (hkN 16 h8) 48 ws) (warpsN (hkN 16 h8) 48 ws).length:Nat):Int))→(0 ≤ e6.2)∧(e6.2 < (List.length e6.1))∧(I64 (e6.2 + (1:Int)))∧(∃ d8:(List Int) × Int,((True∧True∧True∧True∧True∧(e6.2 + (1:Int))=d8.2∧True)∧((a0=a0∧a1=a1∧(([]:List SV)=[]))∧((hkN 16 h8)=(hkN 16 h8)∧True∧(([]:List SV)=[]))∧((warpsN (hkN 16 h8) 48 ws)=(warpsN (hkN 16 h8) 48 ws)∧false=false)∧((hkN 16 h8)=(hkN 16 h8)∧True∧(([]:List SV)=[]))∧((rowsN (hkN 16 h8) 12 rs)=(rowsN (hkN 16 h8) 12 rs)∧false=false)∧((weaveC (hkN 16 h8) (warpsN (hkN 16 h8) 48 ws) (hkN 16 h8) (rowsN (hkN 16 h8) 12 rs))=(weaveC (hkN 16 h8) (warpsN (hkN 16 h8) 48 ws) (hkN 16 h8) (rowsN (hkN 16 h8) 12 rs))∧(List.isEmpty (weaveC (hkN 16 h8) (warpsN (hkN 16 h8) 48 ws) (hkN 16 h8) (rowsN (hkN 16 h8) 12 rs)))=(List.isEmpty (weaveC (hkN 16 h8) (warpsN (hkN 16 h8) 48 ws) (hkN 16 h8) (rowsN (hkN 16 h8) 12 rs))))∧((hkN 16 h8)=(hkN 16 h8)∧True∧(([]:List SV)=[]))∧((sT e6.1 e6.2 y174)=d8.1∧false=false)∧True))∧q3 d8))) d60) ∧
   (y118=false →
    ((warpsN (hkN 16 h8) 48 ws).length ≤ 1000)∧((weaveC (hkN 16 h8) (warpsN (hkN 16 h8) 48 ws) (hkN 16 h8) (rowsN (hkN 16 h8) 12 rs)).length ≤ 1000)∧((warpsN (hkN 16 h8) 48 ws).length ≤ 1000∧(weaveC (hkN 16 h8) (warpsN (hkN 16 h8) 48 ws) (hkN 16 h8) (rowsN (hkN 16 h8) 12 rs)).length ≤ 1000∧∀ s ∈ (weaveC (hkN 16 h8) (warpsN (hkN 16 h8) 48 ws) (hkN 16 h8) (rowsN (hkN 16 h8) 12 rs)),s.length ≤ 1000)∧∀ (y175:Bool),y175=((unwE (hkN 16 h8) (warpsN (hkN 16 h8) 48 ws) (weaveC (hkN 16 h8) (warpsN (hkN 16 h8) 48 ws) (hkN 16 h8) (rowsN (hkN 16 h8) 12 rs))) != (0:Int))→(y175=false→(unwR (hkN 16 h8) (warpsN (hkN 16 h8) 48 ws) (weaveC (hkN 16 h8) (warpsN (hkN 16 h8) 48 ws) (hkN 16 h8) (rowsN (hkN 16 h8) 12 rs))).length ≤ 1000)∧∀ (y176:Bool),y176=(!(decide ((if unwE (hkN 16 h8) (warpsN (hkN 16 h8) 48 ws) (weaveC (hkN 16 h8) (warpsN (hkN 16 h8) 48 ws) (hkN 16 h8) (rowsN (hkN 16 h8) 12 rs))=0 then (hkN 16 h8) else 0)=(hkN 16 h8)) && ((unwR (hkN 16 h8) (warpsN (hkN 16 h8) 48 ws) (weaveC (hkN 16 h8) (warpsN (hkN 16 h8) 48 ws) (hkN 16 h8) (rowsN (hkN 16 h8) 12 rs))) == d3.1)))→∀ (y177:Bool),y177=(y175 || y176)→(y177=true →
     (false=true∧(True))) ∧
    (y177=false →
     (I64 a0)∧((lI (rowsN (hkN 16 h8) 12 rs)) ≠ 0)∧∀ (y178:Int),y178=(Int.tmod a0 (lI (rowsN (hkN 16 h8) 12 rs)))→(I64 a1)∧((lI (warpsN (hkN 16 h8) 48 ws)) ≠ 0)∧∀ (y179:Int),y179=(Int.tmod a1 (lI (warpsN (hkN 16 h8) 48 ws)))→(0 ≤ y178)∧(y178 < (List.length (weaveC (hkN 16 h8) (warpsN (hkN 16 h8) 48 ws) (hkN 16 h8) (rowsN (hkN 16 h8) 12 rs))))∧∀ (y180:List UInt8),y180=(gD (weaveC (hkN 16 h8) (warpsN (hkN 16 h8) 48 ws) (hkN 16 h8) (rowsN (hkN 16 h8) 12 rs)) y178 [])→((List.length y180) ≤ 4611686018427387904)∧(0 ≤ y179)∧(y179 < (List.length (List.map (fun (b:UInt8)=>(UInt8.toNat b:Int)) y180)))∧(0 ≤ y178)∧(y178 < (List.length (weaveC (hkN 16 h8) (warpsN (hkN 16 h8) 48 ws) (hkN 16 h8) (rowsN (hkN 16 h8) 12 rs))))∧∀ (y181:List UInt8),y181=(gD (weaveC (hkN 16 h8) (warpsN (hkN 16 h8) 48 ws) (hkN 16 h8) (rowsN (hkN 16 h8) 12 rs)) y178 [])→(0 ≤ y179)∧(y179 < (List.length y181))∧∀ (y182:Int),y182=((UInt8.toNat (gD y181 y179 0):Nat):Int)→∀ (y183:Bool),y183=(y182 == (120:Int))→(y183=true →
      (0 ≤ y179)∧(y179 < (List.length (sT (List.map (fun (b:UInt8)=>(UInt8.toNat b:Int)) y180) y179 (120:Int))))∧(0 ≤ y178)∧(y178 < (List.length (weaveC (hkN 16 h8) (warpsN (hkN 16 h8) 48 ws) (hkN 16 h8) (rowsN (hkN 16 h8) 12 rs))))∧∃ (e11:(List (List UInt8)) × Int × Int) (d110:Bool × Int × Int),((True∧True∧y178=e11.2.1∧y179=e11.2.2∧true=d110.1∧y179=d110.2.1∧(0:Int)=d110.2.2∧True)∧(((hkN 16 h8)=(hkN 16 h8)∧True∧(([]:List SV)=[]))∧((warpsN (hkN 16 h8) 48 ws)=(warpsN (hkN 16 h8) 48 ws)∧false=false)∧((sT (weaveC (hkN 16 h8) (warpsN (hkN 16 h8) 48 ws) (hkN 16 h8) (rowsN (hkN 16 h8) 12 rs)) y178 (bytesI (sT (sT (List.map (fun (b:UInt8)=>(UInt8.toNat b:Int)) y180) y179 (120:Int)) y179 (46:Int))))=e11.1∧(List.isEmpty (weaveC (hkN 16 h8) (warpsN (hkN 16 h8) 48 ws) (hkN 16 h8) (rowsN (hkN 16 h8) 12 rs)))=(List.isEmpty e11.1))∧True)) ∧
      LoopP (fun (d11:Bool × Int × Int) (q11:(Bool × Int × Int)→Prop) =>
       ∀ (y198:Bool),y198=(decide (d11.2.2 < (lI (warpsN (hkN 16 h8) 48 ws))))→(y198=true →
        ∀ (y199:Bool),y199=(d11.2.2 != e11.2.2)→(y199=true→0 ≤ d11.2.2)∧(y199=true→d11.2.2 < (List.length (warpsN (hkN 16 h8) 48 ws)))∧∀ (y200:Int),y200=(gD (warpsN (hkN 16 h8) 48 ws) d11.2.2 0)→(y199=true→0 ≤ e11.2.2)∧(y199=true→e11.2.2 < (List.length (warpsN (hkN 16 h8) 48 ws)))∧∀ (y201:Int),y201=(gD (warpsN (hkN 16 h8) 48 ws) e11.2.2 0)→∀ (y202:Bool),y202=(y200 == y201)→∀ (y203:Bool),y203=(y199 && y202)→(y203=true →
         ∀ (y204:Int),y204=(gmin d11.2.1 d11.2.2)→(I64 (d11.2.2 + (1:Int)))∧(∃ d12:Bool × Int × Int,((True∧True∧e11.2.1=e11.2.1∧e11.2.2=e11.2.2∧false=d12.1∧y204=d12.2.1∧(d11.2.2 + (1:Int))=d12.2.2∧True)∧(((hkN 16 h8)=(hkN 16 h8)∧True∧(([]:List SV)=[]))∧((warpsN (hkN 16 h8) 48 ws)=(warpsN (hkN 16 h8) 48 ws)∧false=false)∧(e11.1=e11.1∧(List.isEmpty e11.1)=(List.isEmpty e11.1))∧True))∧q11 d12)) ∧
        (y203=false →
         (I64 (d11.2.2 + (1:Int)))∧(∃ d13:Bool × Int × Int,((True∧True∧e11.2.1=e11.2.1∧e11.2.2=e11.2.2∧d11.1=d13.1∧d11.2.1=d13.2.1∧(d11.2.2 + (1:Int))=d13.2.2∧True)∧(((hkN 16 h8)=(hkN 16 h8)∧True∧(([]:List SV)=[]))∧((warpsN (hkN 16 h8) 48 ws)=(warpsN (hkN 16 h8) 48 ws)∧false=false)∧(e11.1=e11.1∧(List.isEmpty e11.1)=(List.isEmpty e11.1))∧True))∧q11 d13))) ∧
       (y198=false →
        ((warpsN (hkN 16 h8) 48 ws).length ≤ 1000)∧(e11.1.length ≤ 1000)∧((warpsN (hkN 16 h8) 48 ws).length ≤ 1000∧e11.1.length ≤ 1000∧∀ s ∈ e11.1,s.length ≤ 1000)∧((warpsN (hkN 16 h8) 48 ws).length ≤ 1000)∧(e11.1.length ≤ 1000)∧((warpsN (hkN 16 h8) 48 ws).length ≤ 1000∧e11.1.length ≤ 1000∧∀ s ∈ e11.1,s.length ≤ 1000)∧(d11.1=true →
         ((warpsN (hkN 16 h8) 48 ws).length ≤ 1000)∧(false=true→(warpsN (hkN 16 h8) 48 ws)=[])∧((warpsN (hkN 16 h8) 48 ws).length ≤ 110∧(unwR (hkN 16 h8) (warpsN (hkN 16 h8) 48 ws) e11.1).length ≤ 110)∧∀ (y205:Bool),y205=((unwE (hkN 16 h8) (warpsN (hkN 16 h8) 48 ws) e11.1) == (0:Int))→∀ (y206:Bool),y206=(weaveErr (hkN 16 h8) (warpsN (hkN 16 h8) 48 ws) (if unwE (hkN 16 h8) (warpsN (hkN 16 h8) 48 ws) e11.1=0 then (hkN 16 h8) else 0) (unwR (hkN 16 h8) (warpsN (hkN 16 h8) 48 ws) e11.1) == (0:Int))→∀ (y207:Bool),y207=(y205 && y206)→(y207=true→(weaveC (hkN 16 h8) (warpsN (hkN 16 h8) 48 ws) (if unwE (hkN 16 h8) (warpsN (hkN 16 h8) 48 ws) e11.1=0 then (hkN 16 h8) else 0) (unwR (hkN 16 h8) (warpsN (hkN 16 h8) 48 ws) e11.1)).length ≤ 1000)∧∀ (y208:Bool),y208=(y207 && ((weaveC (hkN 16 h8) (warpsN (hkN 16 h8) 48 ws) (if unwE (hkN 16 h8) (warpsN (hkN 16 h8) 48 ws) e11.1=0 then (hkN 16 h8) else 0) (unwR (hkN 16 h8) (warpsN (hkN 16 h8) 48 ws) e11.1)) == e11.1))→∀ (y209:Bool),y209=((if unwErr (hkN 16 h8) (warpsN (hkN 16 h8) 48 ws) e11.1 ≠ 0 then unwErr (hkN 16 h8) (warpsN (hkN 16 h8) 48 ws) e11.1 else if (partF (warpsN (hkN 16 h8) 48 ws) e11.1).isSome then 0 else 7) == (7:Int))→∀ (y210:Bool),y210=(y208 && y209)→(y210=true→True)∧∀ (y211:Bool),y211=(y210 && true)→(y211=true∧(True))) ∧
        (d11.1=false →
         ∀ (y212:Bool),y212=((unwE (hkN 16 h8) (warpsN (hkN 16 h8) 48 ws) e11.1) != (9:Int))→∀ (y213:Bool),y213=((if unwErr (hkN 16 h8) (warpsN (hkN 16 h8) 48 ws) e11.1 ≠ 0 then unwErr (hkN 16 h8) (warpsN (hkN 16 h8) 48 ws) e11.1 else if (partF (warpsN (hkN 16 h8) 48 ws) e11.1).isSome then 0 else 7) != (0:Int))→∀ (y214:Bool),y214=(y212 || y213)→∀ (y215:Bool),y215=((if unwErr (hkN 16 h8) (warpsN (hkN 16 h8) 48 ws) e11.1=0 then (partI (warpsN (hkN 16 h8) 48 ws) e11.1).1 else 0) != e11.2.1)→∀ (y216:Bool),y216=(y214 || y215)→∀ (y217:Bool),y217=(decide ((if unwErr (hkN 16 h8) (warpsN (hkN 16 h8) 48 ws) e11.1=0 then (partI (warpsN (hkN 16 h8) 48 ws) e11.1).2.1 else 0) ≤ (if unwErr (hkN 16 h8) (warpsN (hkN 16 h8) 48 ws) e11.1=0 then (partI (warpsN (hkN 16 h8) 48 ws) e11.1).2.2 else 0)))→∀ (y218:Bool),y218=(y216 || y217)→∀ (y219:Bool),y219=(decide ((if unwErr (hkN 16 h8) (warpsN (hkN 16 h8) 48 ws) e11.1=0 then (partI (warpsN (hkN 16 h8) 48 ws) e11.1).2.1 else 0) ≥ (lI (warpsN (hkN 16 h8) 48 ws))))→∀ (y220:Bool),y220=(y218 || y219)→∀ (y221:Bool),y221=(decide ((if unwErr (hkN 16 h8) (warpsN (hkN 16 h8) 48 ws) e11.1=0 then (partI (warpsN (hkN 16 h8) 48 ws) e11.1).2.2 else 0) < (0:Int)))→∀ (y222:Bool),y222=(y220 || y221)→(y222=false→0 ≤ (if unwErr (hkN 16 h8) (warpsN (hkN 16 h8) 48 ws) e11.1=0 then (partI (warpsN (hkN 16 h8) 48 ws) e11.1).2.1 else 0))∧(y222=false→(if unwErr (hkN 16 h8) (warpsN (hkN 16 h8) 48 ws) e11.1=0 then (partI (warpsN (hkN 16 h8) 48 ws) e11.1).2.1 else 0) < (List.length (warpsN (hkN 16 h8) 48 ws)))∧∀ (y223:Int),y223=(gD (warpsN (hkN 16 h8) 48 ws) (if unwErr (hkN 16 h8) (warpsN (hkN 16 h8) 48 ws) e11.1=0 then (partI (warpsN (hkN 16 h8) 48 ws) e11.1).2.1 else 0) 0)→(y222=false→0 ≤ e11.2.2)∧(y222=false→e11.2.2 < (List.length (warpsN (hkN 16 h8) 48 ws)))∧∀ (y224:Int),y224=(gD (warpsN (hkN 16 h8) 48 ws) e11.2.2 0)→∀ (y225:Bool),y225=(y223 != y224)→∀ (y226:Bool),y226=(y222 || y225)→(y226=false→0 ≤ (if unwErr (hkN 16 h8) (warpsN (hkN 16 h8) 48 ws) e11.1=0 then (partI (warpsN (hkN 16 h8) 48 ws) e11.1).2.2 else 0))∧(y226=false→(if unwErr (hkN 16 h8) (warpsN (hkN 16 h8) 48 ws) e11.1=0 then (partI (warpsN (hkN 16 h8) 48 ws) e11.1).2.2 else 0) < (List.length (warpsN (hkN 16 h8) 48 ws)))∧∀ (y227:Int),y227=(gD (warpsN (hkN 16 h8) 48 ws) (if unwErr (hkN 16 h8) (warpsN (hkN 16 h8) 48 ws) e11.1=0 then (partI (warpsN (hkN 16 h8) 48 ws) e11.1).2.2 else 0) 0)→(y226=false→0 ≤ e11.2.2)∧(y226=false→e11.2.2 < (List.length (warpsN (hkN 16 h8) 48 ws)))∧∀ (y228:Int),y228=(gD (warpsN (hkN 16 h8) 48 ws) e11.2.2 0)→∀ (y229:Bool),y229=(y227 != y228)→∀ (y230:Bool),y230=(y226 || y229)→(y230=true →
          (false=true∧(True))) ∧
         (y230=false →
          (0 ≤ e11.2.1)∧(e11.2.1 < (List.length e11.1))∧∀ (y231:List UInt8),y231=(gD e11.1 e11.2.1 [])→(0 ≤ (if unwErr (hkN 16 h8) (warpsN (hkN 16 h8) 48 ws) e11.1=0 then (partI (warpsN (hkN 16 h8) 48 ws) e11.1).2.1 else 0))∧((if unwErr (hkN 16 h8) (warpsN (hkN 16 h8) 48 ws) e11.1=0 then (partI (warpsN (hkN 16 h8) 48 ws) e11.1).2.1 else 0) < (List.length y231))∧∀ (y232:Int),y232=((UInt8.toNat (gD y231 (if unwErr (hkN 16 h8) (warpsN (hkN 16 h8) 48 ws) e11.1=0 then (partI (warpsN (hkN 16 h8) 48 ws) e11.1).2.1 else 0) 0):Nat):Int)→(0 ≤ e11.2.1)∧(e11.2.1 < (List.length e11.1))∧∀ (y233:List UInt8),y233=(gD e11.1 e11.2.1 [])→(0 ≤ (if unwErr (hkN 16 h8) (warpsN (hkN 16 h8) 48 ws) e11.1=0 then (partI (warpsN (hkN 16 h8) 48 ws) e11.1).2.2 else 0))∧((if unwErr (hkN 16 h8) (warpsN (hkN 16 h8) 48 ws) e11.1=0 then (partI (warpsN (hkN 16 h8) 48 ws) e11.1).2.2 else 0) < (List.length y233))∧∀ (y234:Int),y234=((UInt8.toNat (gD y233 (if unwErr (hkN 16 h8) (warpsN (hkN 16 h8) 48 ws) e11.1=0 then (partI (warpsN (hkN 16 h8) 48 ws) e11.1).2.2 else 0) 0):Nat):Int)→∀ (y235:Bool),y235=(y232 != y234)→∀ (y236:Bool),y236=((if unwErr (hkN 16 h8) (warpsN (hkN 16 h8) 48 ws) e11.1=0 then (partI (warpsN (hkN 16 h8) 48 ws) e11.1).2.2 else 0) == d11.2.1)→∀ (y237:Bool),y237=(y235 && y236)→∀ (y238:Bool),y238=(e11.2.2 == d11.2.1)→∀ (y239:Bool),y239=((if unwErr (hkN 16 h8) (warpsN (hkN 16 h8) 48 ws) e11.1=0 then (partI (warpsN (hkN 16 h8) 48 ws) e11.1).2.1 else 0) == e11.2.2)→∀ (y240:Bool),y240=(y238 || y239)→∀ (y241:Bool),y241=(y237 && y240)→(y241=true→True)∧∀ (y242:Bool),y242=(y241 && true)→(y242=true∧(True)))))) d110) ∧
     (y183=false →
      (0 ≤ y178)∧(y178 < (List.length (weaveC (hkN 16 h8) (warpsN (hkN 16 h8) 48 ws) (hkN 16 h8) (rowsN (hkN 16 h8) 12 rs))))∧∃ (e16:(List (List UInt8)) × Int × Int) (d160:Bool × Int × Int),((True∧True∧y178=e16.2.1∧y179=e16.2.2∧true=d160.1∧y179=d160.2.1∧(0:Int)=d160.2.2∧True)∧(((hkN 16 h8)=(hkN 16 h8)∧True∧(([]:List SV)=[]))∧((warpsN (hkN 16 h8) 48 ws)=(warpsN (hkN 16 h8) 48 ws)∧false=false)∧((sT (weaveC (hkN 16 h8) (warpsN (hkN 16 h8) 48 ws) (hkN 16 h8) (rowsN (hkN 16 h8) 12 rs)) y178 (bytesI (sT (List.map (fun (b:UInt8)=>(UInt8.toNat b:Int)) y180) y179 (120:Int))))=e16.1∧(List.isEmpty (weaveC (hkN 16 h8) (warpsN (hkN 16 h8) 48 ws) (hkN 16 h8) (rowsN (hkN 16 h8) 12 rs)))=(List.isEmpty e16.1))∧True)) ∧
      LoopP (fun (d16:Bool × Int × Int) (q16:(Bool × Int × Int)→Prop) =>
       ∀ (y257:Bool),y257=(decide (d16.2.2 < (lI (warpsN (hkN 16 h8) 48 ws))))→(y257=true →
        ∀ (y258:Bool),y258=(d16.2.2 != e16.2.2)→(y258=true→0 ≤ d16.2.2)∧(y258=true→d16.2.2 < (List.length (warpsN (hkN 16 h8) 48 ws)))∧∀ (y259:Int),y259=(gD (warpsN (hkN 16 h8) 48 ws) d16.2.2 0)→(y258=true→0 ≤ e16.2.2)∧(y258=true→e16.2.2 < (List.length (warpsN (hkN 16 h8) 48 ws)))∧∀ (y260:Int),y260=(gD (warpsN (hkN 16 h8) 48 ws) e16.2.2 0)→∀ (y261:Bool),y261=(y259 == y260)→∀ (y262:Bool),y262=(y258 && y261)→(y262=true →
         ∀ (y263:Int),y263=(gmin d16.2.1 d16.2.2)→(I64 (d16.2.2 + (1:Int)))∧(∃ d17:Bool × Int × Int,((True∧True∧e16.2.1=e16.2.1∧e16.2.2=e16.2.2∧false=d17.1∧y263=d17.2.1∧(d16.2.2 + (1:Int))=d17.2.2∧True)∧(((hkN 16 h8)=(hkN 16 h8)∧True∧(([]:List SV)=[]))∧((warpsN (hkN 16 h8) 48 ws)=(warpsN (hkN 16 h8) 48 ws)∧false=false)∧(e16.1=e16.1∧(List.isEmpty e16.1)=(List.isEmpty e16.1))∧True))∧q16 d17)) ∧
        (y262=false →
         (I64 (d16.2.2 + (1:Int)))∧(∃ d18:Bool × Int × Int,((True∧True∧e16.2.1=e16.2.1∧e16.2.2=e16.2.2∧d16.1=d18.1∧d16.2.1=d18.2.1∧(d16.2.2 + (1:Int))=d18.2.2∧True)∧(((hkN 16 h8)=(hkN 16 h8)∧True∧(([]:List SV)=[]))∧((warpsN (hkN 16 h8) 48 ws)=(warpsN (hkN 16 h8) 48 ws)∧false=false)∧(e16.1=e16.1∧(List.isEmpty e16.1)=(List.isEmpty e16.1))∧True))∧q16 d18))) ∧
       (y257=false →
        ((warpsN (hkN 16 h8) 48 ws).length ≤ 1000)∧(e16.1.length ≤ 1000)∧((warpsN (hkN 16 h8) 48 ws).length ≤ 1000∧e16.1.length ≤ 1000∧∀ s ∈ e16.1,s.length ≤ 1000)∧((warpsN (hkN 16 h8) 48 ws).length ≤ 1000)∧(e16.1.length ≤ 1000)∧((warpsN (hkN 16 h8) 48 ws).length ≤ 1000∧e16.1.length ≤ 1000∧∀ s ∈ e16.1,s.length ≤ 1000)∧(d16.1=true →
         ((warpsN (hkN 16 h8) 48 ws).length ≤ 1000)∧(false=true→(warpsN (hkN 16 h8) 48 ws)=[])∧((warpsN (hkN 16 h8) 48 ws).length ≤ 110∧(unwR (hkN 16 h8) (warpsN (hkN 16 h8) 48 ws) e16.1).length ≤ 110)∧∀ (y264:Bool),y264=((unwE (hkN 16 h8) (warpsN (hkN 16 h8) 48 ws) e16.1) == (0:Int))→∀ (y265:Bool),y265=(weaveErr (hkN 16 h8) (warpsN (hkN 16 h8) 48 ws) (if unwE (hkN 16 h8) (warpsN (hkN 16 h8) 48 ws) e16.1=0 then (hkN 16 h8) else 0) (unwR (hkN 16 h8) (warpsN (hkN 16 h8) 48 ws) e16.1) == (0:Int))→∀ (y266:Bool),y266=(y264 && y265)→(y266=true→(weaveC (hkN 16 h8) (warpsN (hkN 16 h8) 48 ws) (if unwE (hkN 16 h8) (warpsN (hkN 16 h8) 48 ws) e16.1=0 then (hkN 16 h8) else 0) (unwR (hkN 16 h8) (warpsN (hkN 16 h8) 48 ws) e16.1)).length ≤ 1000)∧∀ (y267:Bool),y267=(y266 && ((weaveC (hkN 16 h8) (warpsN (hkN 16 h8) 48 ws) (if unwE (hkN 16 h8) (warpsN (hkN 16 h8) 48 ws) e16.1=0 then (hkN 16 h8) else 0) (unwR (hkN 16 h8) (warpsN (hkN 16 h8) 48 ws) e16.1)) == e16.1))→∀ (y268:Bool),y268=((if unwErr (hkN 16 h8) (warpsN (hkN 16 h8) 48 ws) e16.1 ≠ 0 then unwErr (hkN 16 h8) (warpsN (hkN 16 h8) 48 ws) e16.1 else if (partF (warpsN (hkN 16 h8) 48 ws) e16.1).isSome then 0 else 7) == (7:Int))→∀ (y269:Bool),y269=(y267 && y268)→(y269=true→True)∧∀ (y270:Bool),y270=(y269 && true)→(y270=true∧(True))) ∧
        (d16.1=false →
         ∀ (y271:Bool),y271=((unwE (hkN 16 h8) (warpsN (hkN 16 h8) 48 ws) e16.1) != (9:Int))→∀ (y272:Bool),y272=((if unwErr (hkN 16 h8) (warpsN (hkN 16 h8) 48 ws) e16.1 ≠ 0 then unwErr (hkN 16 h8) (warpsN (hkN 16 h8) 48 ws) e16.1 else if (partF (warpsN (hkN 16 h8) 48 ws) e16.1).isSome then 0 else 7) != (0:Int))→∀ (y273:Bool),y273=(y271 || y272)→∀ (y274:Bool),y274=((if unwErr (hkN 16 h8) (warpsN (hkN 16 h8) 48 ws) e16.1=0 then (partI (warpsN (hkN 16 h8) 48 ws) e16.1).1 else 0) != e16.2.1)→∀ (y275:Bool),y275=(y273 || y274)→∀ (y276:Bool),y276=(decide ((if unwErr (hkN 16 h8) (warpsN (hkN 16 h8) 48 ws) e16.1=0 then (partI (warpsN (hkN 16 h8) 48 ws) e16.1).2.1 else 0) ≤ (if unwErr (hkN 16 h8) (warpsN (hkN 16 h8) 48 ws) e16.1=0 then (partI (warpsN (hkN 16 h8) 48 ws) e16.1).2.2 else 0)))→∀ (y277:Bool),y277=(y275 || y276)→∀ (y278:Bool),y278=(decide ((if unwErr (hkN 16 h8) (warpsN (hkN 16 h8) 48 ws) e16.1=0 then (partI (warpsN (hkN 16 h8) 48 ws) e16.1).2.1 else 0) ≥ (lI (warpsN (hkN 16 h8) 48 ws))))→∀ (y279:Bool),y279=(y277 || y278)→∀ (y280:Bool),y280=(decide ((if unwErr (hkN 16 h8) (warpsN (hkN 16 h8) 48 ws) e16.1=0 then (partI (warpsN (hkN 16 h8) 48 ws) e16.1).2.2 else 0) < (0:Int)))→∀ (y281:Bool),y281=(y279 || y280)→(y281=false→0 ≤ (if unwErr (hkN 16 h8) (warpsN (hkN 16 h8) 48 ws) e16.1=0 then (partI (warpsN (hkN 16 h8) 48 ws) e16.1).2.1 else 0))∧(y281=false→(if unwErr (hkN 16 h8) (warpsN (hkN 16 h8) 48 ws) e16.1=0 then (partI (warpsN (hkN 16 h8) 48 ws) e16.1).2.1 else 0) < (List.length (warpsN (hkN 16 h8) 48 ws)))∧∀ (y282:Int),y282=(gD (warpsN (hkN 16 h8) 48 ws) (if unwErr (hkN 16 h8) (warpsN (hkN 16 h8) 48 ws) e16.1=0 then (partI (warpsN (hkN 16 h8) 48 ws) e16.1).2.1 else 0) 0)→(y281=false→0 ≤ e16.2.2)∧(y281=false→e16.2.2 < (List.length (warpsN (hkN 16 h8) 48 ws)))∧∀ (y283:Int),y283=(gD (warpsN (hkN 16 h8) 48 ws) e16.2.2 0)→∀ (y284:Bool),y284=(y282 != y283)→∀ (y285:Bool),y285=(y281 || y284)→(y285=false→0 ≤ (if unwErr (hkN 16 h8) (warpsN (hkN 16 h8) 48 ws) e16.1=0 then (partI (warpsN (hkN 16 h8) 48 ws) e16.1).2.2 else 0))∧(y285=false→(if unwErr (hkN 16 h8) (warpsN (hkN 16 h8) 48 ws) e16.1=0 then (partI (warpsN (hkN 16 h8) 48 ws) e16.1).2.2 else 0) < (List.length (warpsN (hkN 16 h8) 48 ws)))∧∀ (y286:Int),y286=(gD (warpsN (hkN 16 h8) 48 ws) (if unwErr (hkN 16 h8) (warpsN (hkN 16 h8) 48 ws) e16.1=0 then (partI (warpsN (hkN 16 h8) 48 ws) e16.1).2.2 else 0) 0)→(y285=false→0 ≤ e16.2.2)∧(y285=false→e16.2.2 < (List.length (warpsN (hkN 16 h8) 48 ws)))∧∀ (y287:Int),y287=(gD (warpsN (hkN 16 h8) 48 ws) e16.2.2 0)→∀ (y288:Bool),y288=(y286 != y287)→∀ (y289:Bool),y289=(y285 || y288)→(y289=true →
          (false=true∧(True))) ∧
         (y289=false →
          (0 ≤ e16.2.1)∧(e16.2.1 < (List.length e16.1))∧∀ (y290:List UInt8),y290=(gD e16.1 e16.2.1 [])→(0 ≤ (if unwErr (hkN 16 h8) (warpsN (hkN 16 h8) 48 ws) e16.1=0 then (partI (warpsN (hkN 16 h8) 48 ws) e16.1).2.1 else 0))∧((if unwErr (hkN 16 h8) (warpsN (hkN 16 h8) 48 ws) e16.1=0 then (partI (warpsN (hkN 16 h8) 48 ws) e16.1).2.1 else 0) < (List.length y290))∧∀ (y291:Int),y291=((UInt8.toNat (gD y290 (if unwErr (hkN 16 h8) (warpsN (hkN 16 h8) 48 ws) e16.1=0 then (partI (warpsN (hkN 16 h8) 48 ws) e16.1).2.1 else 0) 0):Nat):Int)→(0 ≤ e16.2.1)∧(e16.2.1 < (List.length e16.1))∧∀ (y292:List UInt8),y292=(gD e16.1 e16.2.1 [])→(0 ≤ (if unwErr (hkN 16 h8) (warpsN (hkN 16 h8) 48 ws) e16.1=0 then (partI (warpsN (hkN 16 h8) 48 ws) e16.1).2.2 else 0))∧((if unwErr (hkN 16 h8) (warpsN (hkN 16 h8) 48 ws) e16.1=0 then (partI (warpsN (hkN 16 h8) 48 ws) e16.1).2.2 else 0) < (List.length y292))∧∀ (y293:Int),y293=((UInt8.toNat (gD y292 (if unwErr (hkN 16 h8) (warpsN (hkN 16 h8) 48 ws) e16.1=0 then (partI (warpsN (hkN 16 h8) 48 ws) e16.1).2.2 else 0) 0):Nat):Int)→∀ (y294:Bool),y294=(y291 != y293)→∀ (y295:Bool),y295=((if unwErr (hkN 16 h8) (warpsN (hkN 16 h8) 48 ws) e16.1=0 then (partI (warpsN (hkN 16 h8) 48 ws) e16.1).2.2 else 0) == d16.2.1)→∀ (y296:Bool),y296=(y294 && y295)→∀ (y297:Bool),y297=(e16.2.2 == d16.2.1)→∀ (y298:Bool),y298=((if unwErr (hkN 16 h8) (warpsN (hkN 16 h8) 48 ws) e16.1=0 then (partI (warpsN (hkN 16 h8) 48 ws) e16.1).2.1 else 0) == e16.2.2)→∀ (y299:Bool),y299=(y297 || y298)→∀ (y300:Bool),y300=(y296 && y299)→(y300=true→True)∧∀ (y301:Bool),y301=(y300 && true)→(y301=true∧(True)))))) d160)))) d30)
def cx_law03_TieThreads:Cx:=⟨[],[(48,s_law03_Loom_harness),(49,s_law03_Loom_design),(19,s_law03_own),(20,s_law03_ours),(21,s_tie_Weave),(50,s_law03_right),(51,s_law03_used),(30,s_law03_cloths),(31,s_tie_Unweave),(52,s_law03_is),(32,s_tie_Part),(53,s_law03_same),(14,s_law03_known)],326,[],0,[],[],[],[3,5,6,29,31],true,[],[],[]⟩
def lp_law03_TieThreads (h8:Int) (ws:List Int) (rs:List Int) (a0:Int) (a1:Int):List (Nat × LoopAnn):=[(0,⟨Unit,(List Int) × Int,[3,5,6,7,9,10],fun e x=>[.box 3 0,.box 5 0,.box 6 0,.lst 37,.box 9 0,.val (.i .i64) x.2],fun e x=>[(3,.slot 3,.cells [.val (.i .u8) a0,.val (.i .u8) a1] (some 86)),(5,.slot 5,.cells [.val (.i .i64) (hkN 16 h8),.lst 29] (some 26)),(29,.cell 5 1,.lst 3 (.i .i64) (warpsN (hkN 16 h8) 48 ws) false),(6,.slot 6,.cells [.val (.i .i64) (hkN 16 h8),.lst 31] (some 36)),(31,.cell 6 1,.lst 3 (.i .i64) (rowsN (hkN 16 h8) 12 rs) false),(37,.slot 7,.lst 9 .st (weaveC (hkN 16 h8) (warpsN (hkN 16 h8) 48 ws) (hkN 16 h8) (rowsN (hkN 16 h8) 12 rs)) (List.isEmpty (weaveC (hkN 16 h8) (warpsN (hkN 16 h8) 48 ws) (hkN 16 h8) (rowsN (hkN 16 h8) 12 rs)))),(9,.slot 9,.cells [.val (.i .i64) (hkN 16 h8),.lst 54] (some 36)),(54,.cell 9 1,.lst 3 (.i .i64) x.1 false)]⟩),
 (2,⟨(List Int) × Int,Int,[3,5,6,7,9,10,11],fun e x=>[.box 3 0,.box 5 0,.box 6 0,.lst 37,.box 9 0,.val (.i .i64) e.2,.val (.i .i64) x],fun e x=>[(3,.slot 3,.cells [.val (.i .u8) a0,.val (.i .u8) a1] (some 86)),(5,.slot 5,.cells [.val (.i .i64) (hkN 16 h8),.lst 29] (some 26)),(29,.cell 5 1,.lst 3 (.i .i64) (warpsN (hkN 16 h8) 48 ws) false),(6,.slot 6,.cells [.val (.i .i64) (hkN 16 h8),.lst 31] (some 36)),(31,.cell 6 1,.lst 3 (.i .i64) (rowsN (hkN 16 h8) 12 rs) false),(37,.slot 7,.lst 9 .st (weaveC (hkN 16 h8) (warpsN (hkN 16 h8) 48 ws) (hkN 16 h8) (rowsN (hkN 16 h8) 12 rs)) (List.isEmpty (weaveC (hkN 16 h8) (warpsN (hkN 16 h8) 48 ws) (hkN 16 h8) (rowsN (hkN 16 h8) 12 rs)))),(9,.slot 9,.cells [.val (.i .i64) (hkN 16 h8),.lst 54] (some 36)),(54,.cell 9 1,.lst 3 (.i .i64) e.1 false)]⟩),
 (4,⟨(List (List UInt8)) × Int × Int,Bool × Int × Int,[5,7,14,15,17,18,19],fun e x=>[.box 5 0,.lst 37,.val (.i .i64) e.2.1,.val (.i .i64) e.2.2,.val .bo x.1,.val (.i .i64) x.2.1,.val (.i .i64) x.2.2],fun e x=>[(5,.slot 5,.cells [.val (.i .i64) (hkN 16 h8),.lst 29] (some 26)),(29,.cell 5 1,.lst 3 (.i .i64) (warpsN (hkN 16 h8) 48 ws) false),(37,.slot 7,.lst 9 .st e.1 (List.isEmpty e.1))]⟩)]
set_option maxRecDepth 100000 in
theorem vq_law03_TieThreads (d:(Int × List Int × List Int) × Int × Int):gwp (cx_law03_TieThreads) (lp_law03_TieThreads d.1.1 d.1.2.1 d.1.2.2 d.2.1 d.2.2) c8 0 (gend [.tmp 4] (res_law03_TieThreads d) (obs_law03_TieThreads d)) (gstart 326 (AL.can al_law03_TieThreads d))=vc_law03_TieThreads d.1.1 d.1.2.1 d.1.2.2 d.2.1 d.2.2:=by kernel_rfl
abbrev Ok_law03_TieThreads:Prop:=OkC Tryz.prog 8 s_law03_TieThreads
theorem mk_law03_TieThreads (h:∀ (h8:Int) (ws:List Int) (rs:List Int) (a0:Int) (a1:Int),(lOk h8 ws rs∧0 ≤ a0∧a0 ≤ 255∧0 ≤ a1∧a1 ≤ 255)→vc_law03_TieThreads h8 ws rs a0 a1):OkC Tryz.prog 8 s_law03_TieThreads :=
 okC_vc fun8 mixed (C:=cx_law03_TieThreads) (V:=fun (d:(Int × List Int × List Int) × Int × Int)=>vc_law03_TieThreads d.1.1 d.1.2.1 d.1.2.2 d.2.1 d.2.2) ⟨(.cons ok_law03_Loom_harness (.cons ok_law03_Loom_design (.cons ok_law03_own (.cons ok_law03_ours (.cons ok_tie_Weave (.cons ok_law03_right (.cons ok_law03_used (.cons ok_law03_cloths (.cons ok_tie_Unweave (.cons ok_law03_is (.cons ok_tie_Part (.cons ok_law03_same (.cons ok_law03_known .nil))))))))))))),XsOk.nil,ItsOk.nil,YlOk.nil,IysOk.nil⟩ (vq_law03_TieThreads) fun d hp=>h d.1.1 d.1.2.1 d.1.2.2 d.2.1 d.2.2 hp
end Go.Proofs.Tryz
set_option linter.unusedVariables false
namespace Go.Proofs.Tryz
open Go Go.V Go.Proofs
theorem ok_law03_TieThreads:Ok_law03_TieThreads:=mk_law03_TieThreads fun h8 ws rs a0 a1 h=>by
 obtain ⟨hL,p1,p2,p3,p4⟩:=h
 unfold vc_law03_TieThreads; (try delta lI gD sT I64)
 obtain ⟨⟨n1,n2⟩,⟨w1,w2,w3⟩,⟨r1,r2,r3⟩⟩:=loom_ok hL
 refine ⟨hL,(fun h=>by cases h),hL,(fun h=>by cases h),(by and_intros <;> first | rfl | trivial),?_⟩
 iterate 11
  refine ⟨⟨hL,(fun h=>by cases h),hL,(fun h=>by cases h),(by and_intros <;> first | rfl | trivial)⟩,?_⟩
 clear hL
 generalize warpsN (hkN 16 h8) 48 ws=W at w1 w2 w3 ⊢
 generalize rowsN (hkN 16 h8) 12 rs=R at r1 r2 r3 ⊢
 generalize hkN 16 h8=H at n1 n2 w3 r3 ⊢
 obtain ⟨e1,e2,e3,e4⟩:=woven_ok n1 n2 w1 w2 w3 r1 r2 r3
 have et:=(weaveErr_zero e1).1
 have cl:(R.map (pickS W)).length=R.length:=List.length_map ..
 have cs:∀ s ∈ R.map (pickS W),s.length=W.length:=fun s hs=>by
  simp only [List.mem_map] at hs
  obtain ⟨r,_,rfl⟩:=hs
  exact pickS_length _ _
 have cx:∀ s ∈ R.map (pickS W),isXd s=true:=fun s hs=>by
  simp only [List.mem_map] at hs
  obtain ⟨r,_,rfl⟩:=hs
  exact isXd_pickS _ _
 have cn:∀ s ∈ R.map (pickS W),partW W s=none:=fun s hs=>by
  simp only [List.mem_map] at hs
  obtain ⟨r,_,rfl⟩:=hs
  exact partW_pickS _ _
 have w0:∀ x ∈ W,0 ≤ x:=fun x hx=>(w3 x hx).1
 have cU:rowsX W (R.map (pickS W))=maskR W R:=rowsX_pickS w0 R
 have cg:∀ i,i < R.length→(R.map (pickS W)).getD i []=pickS W (R.getD i 0):=fun i hi=>by
  rw [getD_nat (by rw [List.length_map]; exact hi),List.getElem_map,getD_nat hi]
 have hw1:1 ≤ W.length:=List.length_pos_iff.2 w1
 have hr1:1 ≤ R.length:=List.length_pos_iff.2 r1
 simp only [e1,e2]
 generalize R.map (pickS W)=C at *
 have hue0:unwErr H W C=0:=by unfold unwErr; rw [if_neg (by rw [et]; simp)]; exact e3
 have hpn:partF W C=none:=partF_none.2 fun i hi=>cn _ (by rw [getD_nat hi]; exact List.getElem_mem hi)
 have hue:unwE H W C=0:=by simp [unwE,hue0,hpn]
 have hur:unwR H W C=maskR W R:=by simp [unwR,hue,cU]
 have hrb:rightB C (R.length:Int) (W.length:Int)=true:=rightB_iff.2 ⟨fun s hs=>by have:=cs s hs; omega,by omega⟩
 have cs2:∀ s ∈ C,s.length ≤ 1000:=fun s hs=>by have:=cs s hs; omega
 have hml:(maskR W R).length=R.length:=by simp [maskR]
 simp only [hue,hur,hrb,if_true,true_and,and_true,exists_eq_left',exists_const,decide_eq_true_eq,decide_eq_false_iff_not,beq_iff_eq,bne_iff_ne,ne_eq,beq_eq_false_iff_ne,bne_eq_false_iff_eq,Bool.not_eq_false',ge_iff_le,forall_eq,false_implies,Bool.false_eq_true,Bool.or_false,Bool.and_true,Bool.true_and,Bool.not_true,implies_true,forall_const,decide_true,not_true_eq_false]
 refine ⟨by omega,by omega,⟨by omega,by omega⟩,by omega,by omega,(R,0),⟨rfl,rfl⟩,?_⟩
 refine LoopP.count2 R.length (fun i l=>l.length=R.length∧∀ j,j < R.length→l.getD j 0=if j < i then (maskR W R).getD j 0 else R.getD j 0) ⟨rfl,fun j _=>by rw [if_neg (by omega)]⟩ fun i l hi hI q hq=>?_
 obtain ⟨i1,i2⟩:=hI
 dsimp only
 refine ⟨fun hlt=>⟨(l,(i:Int)),0,⟨⟨rfl,rfl⟩,rfl⟩,?_⟩,fun hge=>?_⟩
 ·have hiR:i < R.length:=by omega
  have hri:=r3 _ (getD_mem hiR)
  have hpw:(2:Int) ^ H.toNat=((2 ^ H.toNat:Nat):Int):=by simp
  have hp2:2 ^ H.toNat ≤ 2 ^ 16:=Nat.pow_le_pow_right (by omega) (by omega)
  have h65:(2:Nat) ^ 16=65536:=rfl
  obtain ⟨r,er⟩:=Int.eq_ofNat_of_zero_le hri.1
  refine LoopP.count W.length (fun _=>True) trivial fun w hw _ q6 hq6=>⟨fun hlt2=>?_,fun hge2=>?_⟩
  ·have hwl:w < W.length:=by omega
   have hxw:=w3 _ (getD_mem hwl)
   have hbv:(C.getD i []).getD w 0=if r.testBit (W.getD w 0).toNat then 120 else 46:=by
    rw [cg i hiR,pickS_at hwl,er,Int.toNat_natCast]
   have hcl:(C.getD i []).length=W.length:=by rw [getD_nat (by omega)]; exact cs _ (List.getElem_mem _)
   obtain ⟨x,ex⟩:=Int.eq_ofNat_of_zero_le hxw.1
   have hsb:=shr_bit (x:=r) (i:=x) (by omega) (by omega)
   rw [ex,Int.toNat_natCast] at hbv
   simp only [Int.toNat_natCast,er,ex,hsb,hbv]
   refine ⟨by omega,by omega,by omega,by omega,by omega,by omega,by omega,by omega,by rw [InK_u64]; omega,by omega,fun _=>by omega,fun _=>by omega,fun _=>by omega,fun _=>by omega,fun _ _=>by omega,fun _ _=>by omega,fun _ _=>by omega,fun _ _=>by omega,?_,fun _=>⟨by rw [InK_i64]; omega,hq6 (by omega) trivial⟩⟩
   cases r.testBit x
   ·exact fun h=>absurd h (by decide)
   ·exact fun h=>absurd h (by decide)
  ·have hli:=i2 i hiR
   rw [if_neg (by omega),er] at hli
   have hub:=usedK_lt (n:=60) (lw:=W) (fun x hx=>by have:=w3 x hx; omega) W.length (Nat.le_refl _)
   simp only [Int.toNat_natCast,hli,vand_nat (x:=r) (y:=usedK W W.length) (by omega) (by omega)]
   refine ⟨by omega,by omega,⟨by omega,fun x hx=>by have:=w3 x hx; omega⟩,by omega,by omega,by rw [InK_i64]; omega,(_,_),⟨rfl,rfl⟩,hq _ hiR ⟨by rw [List.length_set]; exact i1,fun j hj=>?_⟩⟩
   rw [set_getD (by omega)]
   by_cases hji:j=i
   ·subst hji
    rw [if_pos rfl,if_pos (show j < j + 1 by omega),getD_nat (by omega)]
    simp only [maskR,List.getElem_map]
    rw [←getD_nat (d:=0) hj,er,Int.toNat_natCast]
   ·rw [if_neg hji,i2 j hj]
    by_cases h6:j < i
    ·rw [if_pos h6,if_pos (by omega)]
    ·rw [if_neg h6,if_neg (by omega)]
 have hie:i=R.length:=by omega
 subst hie
 have hlm:l=maskR W R:=List.ext_getElem (by omega) fun j k1 k2=>by
  have:=i2 j (by omega)
  rwa [if_pos (by omega),getD_nat k1,getD_nat k2] at this
 subst hlm
 clear hq i2 i1
 have t1:=Int.tmod_nonneg (R.length:Int) p1
 have t2:=Int.tmod_lt_of_pos a0 (show (0:Int) < R.length by omega)
 have t3:=Int.tmod_nonneg (W.length:Int) p3
 have t4:=Int.tmod_lt_of_pos a1 (show (0:Int) < W.length by omega)
 generalize a0.tmod (R.length:Int)=pI at t1 t2 ⊢
 generalize a1.tmod (W.length:Int)=wI at t3 t4 ⊢
 obtain ⟨p,rfl⟩:=Int.eq_ofNat_of_zero_le t1
 obtain ⟨w,rfl⟩:=Int.eq_ofNat_of_zero_le t3
 have hp:p < C.length:=by omega
 have hw:w < W.length:=by omega
 have hpl:(C.getD p []).length=W.length:=by rw [getD_nat hp]; exact cs _ (List.getElem_mem _)
 have hDp:(C.set p (flipS (C.getD p []) w)).getD p []=flipS (C.getD p []) w:=by rw [set_getD hp,if_pos rfl]
 have hDl:(C.set p (flipS (C.getD p []) w)).length=C.length:=List.length_set ..
 have hDs:∀ s ∈ C.set p (flipS (C.getD p []) w),s.length ≤ 1000:=fun s hs=>by
  rcases List.mem_or_eq_of_mem_set hs with hs | rfl
  ·exact cs2 s hs
  ·rw [flipS_length]; omega
 have hDe:C.isEmpty=(C.set p (flipS (C.getD p []) w)).isEmpty:=by
  cases C with
  | nil=>rfl
  | cons a l=>cases p <;> rfl
 have hfl:(flipS (C.getD p []) w).length=W.length:=by rw [flipS_length]; exact hpl
 obtain ⟨q1,q2,q3,q4⟩:=threads n1 n2 hw1 (by omega) w3 (by omega) (by omega) cs cx cn hp hw et
 have h8:∀ x:UInt8,((x.toNat:Nat):Int)=120 ↔ x=120:=fun x=>by
  rw [←UInt8.toNat_inj,show (120:UInt8).toNat=120 from rfl]; omega
 simp only [Int.toNat_natCast,h8]
 refine ⟨by omega,by omega,⟨by omega,by omega,cs2⟩,by omega,(fun h=>by simp at h),fun _=>⟨by rw [InK_i64]; omega,by omega,by rw [InK_i64]; omega,by omega,by omega,by omega,by omega,by omega,by rw [List.length_map]; omega,by omega,by omega,by omega,by omega,fun hx=>⟨by omega,by rw [List.length_set,List.length_map]; omega,by omega,by omega,(C.set p (flipS (C.getD p []) w),(p:Int),(w:Int)),(true,(w:Int),0),⟨⟨rfl,rfl,rfl,rfl,rfl⟩,by rw [bytes_off hx],hDe⟩,?_⟩,fun hx=>⟨by omega,by omega,(C.set p (flipS (C.getD p []) w),(p:Int),(w:Int)),(true,(w:Int),0),⟨⟨rfl,rfl,rfl,rfl,rfl⟩,by rw [bytes_on hx],hDe⟩,?_⟩⟩⟩
 all_goals
  clear hx
  generalize C.set p (flipS (C.getD p []) w)=D at *
  generalize flipS (C.getD p []) w=F at *
  refine LoopP.count3 W.length (fun k b f=>(b=true ↔ ∀ i,i < k→i ≠ w→W.getD i 0 ≠ W.getD w 0)∧f=(((if fstN W (W.getD w 0) < k then fstN W (W.getD w 0) else w):Nat):Int)) ⟨⟨fun _ i hi=>by omega,fun _=>rfl⟩,by rw [if_neg (by omega)]⟩ fun k b f hk hI q hq=>?_
  obtain ⟨j1,j2⟩:=hI
  dsimp only
  simp only [Int.toNat_natCast]
  refine ⟨fun hlt=>⟨fun _=>by omega,fun _=>hlt,fun _=>by omega,fun _=>by omega,fun hc=>⟨by rw [InK_i64]; omega,(false,gmin f (k:Int),(k:Int) + 1),⟨rfl,rfl,rfl⟩,hq _ _ (by omega) ?_⟩,fun hc=>⟨by rw [InK_i64]; omega,(b,f,(k:Int) + 1),⟨rfl,rfl,rfl⟩,hq _ _ (by omega) ?_⟩⟩,fun hge=>?_⟩
  ·simp only [Bool.and_eq_true,bne_iff_ne,beq_iff_eq] at hc
   refine ⟨⟨(fun h=>by cases h),fun h=>absurd hc.2 (h k (by omega) (by omega))⟩,?_⟩
   rw [fst_step hw (by omega),if_pos ⟨by omega,hc.2⟩,j2]
   unfold gmin; split <;> omega
  ·have hc:¬ (k ≠ w∧W.getD k 0=W.getD w 0):=fun ⟨h1,h2⟩=>by
    rw [h2] at hc
    simp at hc
    omega
   refine ⟨⟨fun h i hi hiw=>?_,fun h=>j1.2 fun i hi=>h i (by omega)⟩,by rw [fst_step hw (by omega),if_neg hc]; exact j2⟩
   rcases Nat.lt_succ_iff_lt_or_eq.1 hi with hi | rfl
   ·exact j1.1 h i hi hiw
   ·exact fun h2=>hc ⟨hiw,h2⟩
  ·have hke:k=W.length:=by omega
   subst hke
   rw [if_pos (fstN_lt (getD_mem hw))] at j2
   subst j2
   refine ⟨by omega,by omega,⟨by omega,by omega,hDs⟩,by omega,by omega,⟨by omega,by omega,hDs⟩,fun hb=>?_,fun hb=>?_⟩
   ·obtain ⟨g1,g2,g3⟩:=q3 (j1.1 hb)
    have u1:unwE H W D=0:=by simp [unwE,q2,g1]
    have u2:unwR H W D=rowsX W D:=by simp [unwR,u1]
    have u4:(rowsX W D).length=D.length:=by simp [rowsX]
    simp only [q2,u1,u2,g1,g2,g3,if_true]
    exact ⟨by omega,⟨by omega,by omega⟩,fun _=>by omega,by simp⟩
   ·have hne:¬ ∀ i,i < W.length→i ≠ w→W.getD i 0 ≠ W.getD w 0:=fun h=>by rw [j1.2 h] at hb; cases hb
    obtain ⟨j,hj,hjw,he⟩:∃ j,j < W.length∧j ≠ w∧W.getD j 0=W.getD w 0:=Classical.byContradiction fun h=>hne fun i h1 h2 h3=>h ⟨i,h1,h2,h3⟩
    obtain ⟨v,v1,v2,v3,v4,v5,v6⟩:=q4 j hj hjw he
    have u1:unwE H W D=9:=by simp [unwE,q2,v1]
    have hff:=fstN_lt (getD_mem hw)
    have hfe:=fstN_at (getD_mem hw)
    have u3:partI W D=((p:Int),(v:Int),(fstN W (W.getD w 0):Int)):=by simp only [partI,v1,v3]
    generalize fstN W (W.getD w 0)=f at *
    have hx:(((F.getD v 0).toNat:Nat):Int) ≠ (((F.getD f 0).toNat:Nat):Int):=fun e=>v6 (UInt8.toNat_inj.1 (by omega))
    simp only [q2,u1,u3,v1,v3,hfe,hDp,if_true,Int.toNat_natCast,Option.isSome_some]
    refine ⟨fun _=>by omega,fun _=>by omega,fun _=>by omega,fun _=>by omega,fun _=>by omega,fun _=>by omega,fun _=>by omega,fun _=>by omega,fun h=>?_,fun _=>⟨by omega,by omega,by omega,by omega,by omega,by omega,by omega,by omega,?_⟩⟩
    ·simp at h; omega
    ·simp only [Bool.and_eq_true,Bool.or_eq_true,bne_iff_ne,beq_iff_eq]
     refine ⟨⟨hx,trivial⟩,?_⟩
     by_cases h:f=w
     ·exact .inl (by omega)
     ·have:=v5 h; exact .inr (by omega)
end Go.Proofs.Tryz
set_option linter.unusedVariables false
namespace Go.Proofs.Tryz
open Go Go.V Go.Proofs
theorem u8s_of {l:List Int} (h:KWf (.list (.i .u8)) l):u8s l:=fun x hx=>(InK_u8 x).1 (h.2 x hx)
theorem u16s_of {l:List Int} (h:KWf (.list (.i .u16)) l):u16s l:=fun x hx=>(InK_u16 x).1 (h.2 x hx)
end Go.Proofs.Tryz
set_option linter.unusedVariables false
namespace Go.Proofs.Tryz
open Go Go.V Go.Proofs
theorem twoPre_of {x:(Int × List Int × List Int) × Int × Int} (h:AWf [.pair (.i .u8) (.pair (.list (.i .u8)) (.list (.i .u16))),.pair (.i .u8) (.i .u8)] x):lOk x.1.1 x.1.2.1 x.1.2.2∧0 ≤ x.2.1∧x.2.1 ≤ 255∧0 ≤ x.2.2∧x.2.2 ≤ 255:=by
 obtain ⟨⟨h1,h2,h4⟩,h3,h5⟩:=h
 have h1:=(InK_u8 x.1.1).1 h1
 have h3:=(InK_u8 x.2.1).1 h3
 have h5:=(InK_u8 x.2.2).1 h5
 exact ⟨⟨h1.1,h1.2,u8s_of h2,u16s_of h4⟩,h3.1,h3.2,h5.1,h5.2⟩
end Go.Proofs.Tryz