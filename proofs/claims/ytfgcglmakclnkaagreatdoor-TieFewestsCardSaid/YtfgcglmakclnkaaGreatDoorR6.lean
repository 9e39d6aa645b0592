/- A framework for walks, contracts of functions, and their proofs: part 6. -/
import Derived.Shelf.Sort.Plain
import Derived.Shelf.Slices.In.SortNone
import Derived.Test.YtfgcglmakclnkaaGreatDoorR5
namespace Go.Proofs.Tryz
open Go Go.V
def memo0_3:Memo:=⟨[.agg #[.int .i64 4,.slice (some ⟨0,0,none⟩) 1 1],.slice (some ⟨1,0,none⟩) 1 1,.int .i64 3],[⟨[.int .i64 0],⟨1,3⟩,true⟩,⟨[.int .i64 0],⟨1,3⟩,true⟩],.tuple #[.agg #[.int .i64 4,.slice (some ⟨2,0,none⟩) 1 1],.int .i64 1,.int .i64 0],[⟨[.int .i64 1],⟨1,3⟩,false⟩]⟩
theorem memo0_3_ok:MemoOk Tryz.prog 65 memo0_3:=memo_run mixed tabt_ok 200 (by kernel_rfl) (by kernel_rfl)
def memo1_3:Memo:=⟨[.agg #[.int .i64 4,.slice (some ⟨0,0,none⟩) 1 1],.slice (some ⟨1,0,none⟩) 1 1,.int .i64 3],[⟨[.int .i64 1],⟨1,3⟩,true⟩,⟨[.int .i64 1],⟨1,3⟩,true⟩],.tuple #[.agg #[.int .i64 4,.slice (some ⟨2,0,none⟩) 1 1],.int .i64 0,.int .i64 0],[⟨[.int .i64 1],⟨1,3⟩,false⟩]⟩
theorem memo1_3_ok:MemoOk Tryz.prog 65 memo1_3:=memo_run mixed tabt_ok 200 (by kernel_rfl) (by kernel_rfl)
def memo2_3:Memo:=⟨[.agg #[.int .i64 4,.slice (some ⟨0,0,none⟩) 1 1],.slice (some ⟨1,0,none⟩) 1 1,.int .i64 3],[⟨[.int .i64 2],⟨1,3⟩,true⟩,⟨[.int .i64 2],⟨1,3⟩,true⟩],.tuple #[.agg #[.int .i64 4,.slice (some ⟨2,0,none⟩) 1 1],.int .i64 0,.int .i64 0],[⟨[.int .i64 2],⟨1,3⟩,false⟩]⟩
theorem memo2_3_ok:MemoOk Tryz.prog 65 memo2_3:=memo_run mixed tabt_ok 200 (by kernel_rfl) (by kernel_rfl)
def memo3_3:Memo:=⟨[.agg #[.int .i64 4,.slice (some ⟨0,0,none⟩) 1 1],.slice (some ⟨1,0,none⟩) 1 1,.int .i64 3],[⟨[.int .i64 3],⟨1,3⟩,true⟩,⟨[.int .i64 3],⟨1,3⟩,true⟩],.tuple #[.agg #[.int .i64 4,.slice (some ⟨2,0,none⟩) 1 1],.int .i64 0,.int .i64 0],[⟨[.int .i64 3],⟨1,3⟩,false⟩]⟩
theorem memo3_3_ok:MemoOk Tryz.prog 65 memo3_3:=memo_run mixed tabt_ok 200 (by kernel_rfl) (by kernel_rfl)
def memo4_3:Memo:=⟨[.agg #[.int .i64 4,.slice (some ⟨0,0,none⟩) 1 1],.slice (some ⟨1,0,none⟩) 1 1,.int .i64 3],[⟨[.int .i64 4],⟨1,3⟩,true⟩,⟨[.int .i64 4],⟨1,3⟩,true⟩],.tuple #[.agg #[.int .i64 4,.slice (some ⟨2,0,none⟩) 1 1],.int .i64 0,.int .i64 0],[⟨[.int .i64 4],⟨1,3⟩,false⟩]⟩
theorem memo4_3_ok:MemoOk Tryz.prog 65 memo4_3:=memo_run mixed tabt_ok 200 (by kernel_rfl) (by kernel_rfl)
def memo5_3:Memo:=⟨[.agg #[.int .i64 4,.slice (some ⟨0,0,none⟩) 1 1],.slice (some ⟨1,0,none⟩) 1 1,.int .i64 3],[⟨[.int .i64 5],⟨1,3⟩,true⟩,⟨[.int .i64 5],⟨1,3⟩,true⟩],.tuple #[.agg #[.int .i64 4,.slice (some ⟨2,0,none⟩) 1 1],.int .i64 0,.int .i64 0],[⟨[.int .i64 5],⟨1,3⟩,false⟩]⟩
theorem memo5_3_ok:MemoOk Tryz.prog 65 memo5_3:=memo_run mixed tabt_ok 200 (by kernel_rfl) (by kernel_rfl)
def memo6_3:Memo:=⟨[.agg #[.int .i64 4,.slice (some ⟨0,0,none⟩) 1 1],.slice (some ⟨1,0,none⟩) 1 1,.int .i64 3],[⟨[.int .i64 6],⟨1,3⟩,true⟩,⟨[.int .i64 6],⟨1,3⟩,true⟩],.tuple #[.agg #[.int .i64 4,.slice (some ⟨2,0,none⟩) 1 1],.int .i64 0,.int .i64 0],[⟨[.int .i64 6],⟨1,3⟩,false⟩]⟩
theorem memo6_3_ok:MemoOk Tryz.prog 65 memo6_3:=memo_run mixed tabt_ok 200 (by kernel_rfl) (by kernel_rfl)
def memo7_3:Memo:=⟨[.agg #[.int .i64 4,.slice (some ⟨0,0,none⟩) 1 1],.slice (some ⟨1,0,none⟩) 1 1,.int .i64 3],[⟨[.int .i64 7],⟨1,3⟩,true⟩,⟨[.int .i64 7],⟨1,3⟩,true⟩],.tuple #[.agg #[.int .i64 4,.slice (some ⟨2,0,none⟩) 1 1],.int .i64 0,.int .i64 0],[⟨[.int .i64 7],⟨1,3⟩,false⟩]⟩
theorem memo7_3_ok:MemoOk Tryz.prog 65 memo7_3:=memo_run mixed tabt_ok 200 (by kernel_rfl) (by kernel_rfl)
def memo8_3:Memo:=⟨[.agg #[.int .i64 4,.slice (some ⟨0,0,none⟩) 1 1],.slice (some ⟨1,0,none⟩) 1 1,.int .i64 3],[⟨[.int .i64 8],⟨1,3⟩,true⟩,⟨[.int .i64 8],⟨1,3⟩,true⟩],.tuple #[.agg #[.int .i64 4,.slice (some ⟨2,0,none⟩) 1 1],.int .i64 0,.int .i64 0],[⟨[.int .i64 8],⟨1,3⟩,false⟩]⟩
theorem memo8_3_ok:MemoOk Tryz.prog 65 memo8_3:=memo_run mixed tabt_ok 200 (by kernel_rfl) (by kernel_rfl)
def memo9_3:Memo:=⟨[.agg #[.int .i64 4,.slice (some ⟨0,0,none⟩) 1 1],.slice (some ⟨1,0,none⟩) 1 1,.int .i64 3],[⟨[.int .i64 9],⟨1,3⟩,true⟩,⟨[.int .i64 9],⟨1,3⟩,true⟩],.tuple #[.agg #[.int .i64 4,.slice (some ⟨2,0,none⟩) 1 1],.int .i64 0,.int .i64 0],[⟨[.int .i64 9],⟨1,3⟩,false⟩]⟩
theorem memo9_3_ok:MemoOk Tryz.prog 65 memo9_3:=memo_run mixed tabt_ok 200 (by kernel_rfl) (by kernel_rfl)
def memo10_3:Memo:=⟨[.agg #[.int .i64 4,.slice (some ⟨0,0,none⟩) 1 1],.slice (some ⟨1,0,none⟩) 1 1,.int .i64 3],[⟨[.int .i64 10],⟨1,3⟩,true⟩,⟨[.int .i64 10],⟨1,3⟩,true⟩],.tuple #[.agg #[.int .i64 4,.slice (some ⟨2,0,none⟩) 1 1],.int .i64 0,.int .i64 0],[⟨[.int .i64 10],⟨1,3⟩,false⟩]⟩
theorem memo10_3_ok:MemoOk Tryz.prog 65 memo10_3:=memo_run mixed tabt_ok 200 (by kernel_rfl) (by kernel_rfl)
def memo11_3:Memo:=⟨[.agg #[.int .i64 4,.slice (some ⟨0,0,none⟩) 1 1],.slice (some ⟨1,0,none⟩) 1 1,.int .i64 3],[⟨[.int .i64 11],⟨1,3⟩,true⟩,⟨[.int .i64 11],⟨1,3⟩,true⟩],.tuple #[.agg #[.int .i64 4,.slice (some ⟨2,0,none⟩) 1 1],.int .i64 0,.int .i64 0],[⟨[.int .i64 11],⟨1,3⟩,false⟩]⟩
theorem memo11_3_ok:MemoOk Tryz.prog 65 memo11_3:=memo_run mixed tabt_ok 200 (by kernel_rfl) (by kernel_rfl)
def memo12_3:Memo:=⟨[.agg #[.int .i64 4,.slice (some ⟨0,0,none⟩) 1 1],.slice (some ⟨1,0,none⟩) 1 1,.int .i64 3],[⟨[.int .i64 12],⟨1,3⟩,true⟩,⟨[.int .i64 12],⟨1,3⟩,true⟩],.tuple #[.agg #[.int .i64 4,.slice (some ⟨2,0,none⟩) 1 1],.int .i64 0,.int .i64 0],[⟨[.int .i64 12],⟨1,3⟩,false⟩]⟩
theorem memo12_3_ok:MemoOk Tryz.prog 65 memo12_3:=memo_run mixed tabt_ok 200 (by kernel_rfl) (by kernel_rfl)
def memo13_3:Memo:=⟨[.agg #[.int .i64 4,.slice (some ⟨0,0,none⟩) 1 1],.slice (some ⟨1,0,none⟩) 1 1,.int .i64 3],[⟨[.int .i64 13],⟨1,3⟩,true⟩,⟨[.int .i64 13],⟨1,3⟩,true⟩],.tuple #[.agg #[.int .i64 4,.slice (some ⟨2,0,none⟩) 1 1],.int .i64 0,.int .i64 0],[⟨[.int .i64 13],⟨1,3⟩,false⟩]⟩
theorem memo13_3_ok:MemoOk Tryz.prog 65 memo13_3:=memo_run mixed tabt_ok 200 (by kernel_rfl) (by kernel_rfl)
def memo14_3:Memo:=⟨[.agg #[.int .i64 4,.slice (some ⟨0,0,none⟩) 1 1],.slice (some ⟨1,0,none⟩) 1 1,.int .i64 3],[⟨[.int .i64 14],⟨1,3⟩,true⟩,⟨[.int .i64 14],⟨1,3⟩,true⟩],.tuple #[.agg #[.int .i64 4,.slice (some ⟨2,0,none⟩) 1 1],.int .i64 0,.int .i64 0],[⟨[.int .i64 14],⟨1,3⟩,false⟩]⟩
theorem memo14_3_ok:MemoOk Tryz.prog 65 memo14_3:=memo_run mixed tabt_ok 200 (by kernel_rfl) (by kernel_rfl)
def memo15_3:Memo:=⟨[.agg #[.int .i64 4,.slice (some ⟨0,0,none⟩) 1 1],.slice (some ⟨1,0,none⟩) 1 1,.int .i64 3],[⟨[.int .i64 15],⟨1,3⟩,true⟩,⟨[.int .i64 15],⟨1,3⟩,true⟩],.tuple #[.agg #[.int .i64 0,.slice none 0 0],.int .i64 0,.int .i64 9],[]⟩
theorem memo15_3_ok:MemoOk Tryz.prog 65 memo15_3:=memo_run mixed tabt_ok 200 (by kernel_rfl) (by kernel_rfl)
end Go.Proofs.Tryz
namespace Go.Proofs.Tryz
open Go Go.V
def memos:List Memo:=[memo0_2,memo1_2,memo2_2,memo3_2,memo4_2,memo5_2,memo6_2,memo7_2,memo8_2,memo9_2,memo10_2,memo11_2,memo12_2,memo13_2,memo14_2,memo15_2,memo0_3,memo1_3,memo2_3,memo3_3,memo4_3,memo5_3,memo6_3,memo7_3,memo8_3,memo9_3,memo10_3,memo11_3,memo12_3,memo13_3,memo14_3,memo15_3]
theorem memos_ok:∀ m ∈ memos,MemoOk Tryz.prog 65 m:=by
 intro m hm
 simp only [memos,List.mem_cons,List.not_mem_nil,or_false] at hm
 rcases hm with rfl | rfl | rfl | rfl | rfl | rfl | rfl | rfl | rfl | rfl | rfl | rfl | rfl | rfl | rfl | rfl | rfl | rfl | rfl | rfl | rfl | rfl | rfl | rfl | rfl | rfl | rfl | rfl | rfl | rfl | rfl | rfl
 ·exact memo0_2_ok
 ·exact memo1_2_ok
 ·exact memo2_2_ok
 ·exact memo3_2_ok
 ·exact memo4_2_ok
 ·exact memo5_2_ok
 ·exact memo6_2_ok
 ·exact memo7_2_ok
 ·exact memo8_2_ok
 ·exact memo9_2_ok
 ·exact memo10_2_ok
 ·exact memo11_2_ok
 ·exact memo12_2_ok
 ·exact memo13_2_ok
 ·exact memo14_2_ok
 ·exact memo15_2_ok
 ·exact memo0_3_ok
 ·exact memo1_3_ok
 ·exact memo2_3_ok
 ·exact memo3_3_ok
 ·exact memo4_3_ok
 ·exact memo5_3_ok
 ·exact memo6_3_ok
 ·exact memo7_3_ok
 ·exact memo8_3_ok
 ·exact memo9_3_ok
 ·exact memo10_3_ok
 ·exact memo11_3_ok
 ·exact memo12_3_ok
 ·exact memo13_3_ok
 ·exact memo14_3_ok
 ·exact memo15_3_ok
noncomputable def tabL:List (Option FEnt):=[
 none,
 none,
 some (.code c2 [] 1),
 some (.code c3 [.tmp 4] 65),
 some (.code c4 [.tmp 6] 106),
 some (.code c5 [.tmp 4] 131),
 some (.code c6 [.tmp 2] 125),
 some (.code c7 [.tmp 4] 113),
 some (.code c8 [.tmp 4] 326),
 some (.code c9 [.tmp 4] 274),
 some (.code c10 [.tmp 4] 143),
 some (.code c11 [.tmp 4] 189),
 some (.code c12 [.tmp 4] 298),
 some (.code c13 [.tmp 4] 185),
 some (.code c14 [.tmp 0] 239),
 some (.code c15 [.cell 4 true 2,.tmp 5,.tmp 6] 78),
 some (.code c16 [.cell 4 true 2,.tmp 5,.tmp 6] 84),
 some (.code c17 [.tmp 4] 38),
 some (.code c18 [.tmp 6] 35),
 some (.code c19 [.cell 2 true 2] 10),
 some (.code c20 [.cell 2 true 2] 10),
 some (.code c21 [.tmp 4,.tmp 5] 43),
 some (.code c22 [.cell 6 false 1,.tmp 7] 49),
 some (.code c23 [.tmp 4] 28),
 some (.code c24 [.tmp 4] 22),
 some (.code c25 [.tmp 4] 46),
 some (.code c26 [.tmp 4] 26),
 some (.code c27 [.tmp 6] 15),
 some (.code c28 [.tmp 4] 26),
 some (.code c29 [.tmp 4] 50),
 some (.code c30 [.tmp 2] 6),
 some (.code c31 [.cell 4 true 2,.tmp 5] 33),
 some (.code c32 [.tmp 4,.tmp 5,.tmp 6,.tmp 7] 30),
 some (.code c33 [.tmp 2] 33),
 some (.code c34 [.tmp 4] 52),
 some (.code c35 [.tmp 2] 12),
 some (.code c36 [.cell 4 true 3,.tmp 5] 47),
 some (.code c37 [.cell 4 true 2] 48),
 some (.code c38 [.cell 2 true 2,.cell 3 true 2,.tmp 4] 20),
 some (.codeJ c39 [.tmp 2,.tmp 3] 30),
 some (.code c40 [.tmp 2] 35),
 some (.code c41 [.tmp 2] 12),
 some (.code c42 [.cell 2 true 2] 41),
 some (.code c43 [.tmp 4,.tmp 5,.tmp 6] 40),
 some (.code c44 [.tmp 4] 31),
 some (.code c45 [.tmp 6] 22),
 some (.code c46 [.tmp 2] 22),
 some (.code c47 [.cell 4 true 2] 8),
 some (.code c48 [.cell 2 true 2] 48),
 some (.code c49 [.cell 2 true 2] 51),
 some (.code c50 [.tmp 6] 25),
 some (.code c51 [.tmp 2] 22),
 some (.code c52 [.tmp 4] 38),
 some (.code c53 [.tmp 4] 26),
 some (.code c54 [.cell 8 true 4] 14),
 some (.code c55 [.cell 4 true 2,.tmp 5] 67),
 some (.code c56 [.cell 2 true 2,.tmp 3] 28),
 some (.code c57 [.tmp 4] 45),
 some (.code c58 [.tmp 2] 27),
 some (.code c59 [.cell 4 true 2,.tmp 5] 48),
 some (.code c60 [.tmp 2,.tmp 3] 39),
 some (.code c61 [.tmp 2,.tmp 3] 37),
 some (.code c62 [.tmp 2,.tmp 3] 40),
 some (.code c63 [.tmp 2] 35),
 some (.code c64 [.tmp 2] 55),
 some (.codeM c65 [.cell 6 true 2,.tmp 7,.tmp 8] 84 memos),
 some (.code c66 [.cell 6 false 1,.tmp 7] 42),
 some (.code c67 [.tmp 6] 11),
 some (.code c68 [.tmp 4] 48),
 some (.code c69 [.tmp 2] 32),
 some (.code c70 [.tmp 2] 50),
 some (.code c71 [.tmp 2] 28),
 some (.code c72 [.tmp 4] 22),
 some (.code c73 [] 64),
 some (.code c74 [.tmp 4] 19),
 some (.code c75 [.tmp 2] 35),
 some (.code c76 [.tmp 2] 25),
 some (.code c77 [.tmp 2] 20),
 some (.code c78 [.tmp 4] 56),
 some (.code c79 [.tmp 4] 16),
 some (.code c80 [.tmp 4,.tmp 5,.tmp 6,.tmp 7] 47),
 some (.code c81 [.cell 4 true 2] 47),
 some (.code c82 [.tmp 4] 21),
 some (.code c83 [.cell 2 true 2] 27),
 some (.code c84 [.cell 2 true 2,.tmp 3] 61),
 some (.code c85 [.tmp 2] 17),
 some (.code c86 [] 11),
 some (.code c87 [.tmp 6] 27),
 some (.code c88 [.cell 4 true 2] 59),
 some (.code c89 [.tmp 2,.cell 3 true 2] 47),
 some (.code c90 [.tmp 4] 22),
 some (.code c91 [.tmp 2] 18),
 some (.code c92 [.cell 6 true 2] 38),
 some (.code c93 [.tmp 6] 17),
 some (.code c94 [.tmp 6] 26),
 some (.code c95 [.tmp 2] 36),
 some (.code c96 [.tmp 4] 26),
 some (.code c97 [.tmp 5] 23),
 some (.code c98 [.tmp 6] 11),
 some (.code c99 [.tmp 2,.tmp 3] 102),
 some (.code c100 [.tmp 4] 21),
 some (.code c101 [.tmp 4] 9),
 some (.code c102 [.tmp 4] 13),
 some (.code c103 [.tmp 4,.tmp 5] 30),
 some (.code c104 [.tmp 2] 5),
 some (.code c105 [.tmp 4] 6),
 some (.code c106 [.tmp 4] 17),
 some (.code c107 [.tmp 2] 4),
 some (.code c108 [.tmp 6] 17),
 some (.code c109 [.tmp 2] 14),
 some (.code c110 [.tmp 3] 18),
 some (.code c111 [.tmp 6] 15),
 some (.code c112 [.tmp 4] 23),
 some (.code c113 [.tmp 2] 21),
 some (.code c114 [.tmp 4] 20),
 some (.code c115 [.tmp 2] 4),
 some (.code c116 [] 134),
 some (.code c117 [.tmp 2] 8),
 some (.code c118 [.tmp 6] 36),
 some (.code c119 [.tmp 4] 27),
 some (.code c120 [.tmp 4] 13),
 some (.code c121 [.cell 4 true 4] 20),
 some (.code c122 [.tmp 6] 29),
 some (.code c123 [.tmp 4] 81),
 some (.code c124 [.tmp 2] 4),
 some (.code c125 [.cell 6 true 4,.tmp 7] 40),
 some (.code c126 [.tmp 4] 27),
 some (.code c127 [.tmp 4] 25),
 some (.code c128 [] 37),
 some (.code c129 [] 50),
 some (.code c130 [.tmp 4] 19),
 some (.code c131 [.tmp 4,.tmp 5] 17),
 some (.code c132 [.tmp 4,.tmp 5] 51),
 some (.code c133 [.tmp 4] 13),
 some (.code c134 [] 22),
 some (.code c135 [] 20),
 some (.code c136 [.tmp 3] 13),
 some (.code c137 [.tmp 4] 43),
 some (.code c138 [.tmp 4] 9),
 some (.code c139 [] 19),
 some (.code c140 [] 49),
 some (.code c141 [] 56),
 some (.code c142 [] 65),
 some (.code c143 [.tmp 6,.tmp 7] 57),
 some (.code c144 [] 32),
 some (.code c145 [.tmp 6] 133),
 some (.code c146 [.tmp 4] 17),
 some (.code c147 [.tmp 8] 84),
 some (.code c148 [.tmp 8,.tmp 9] 168),
 some (.code c149 [.tmp 2] 19),
 some (.code c150 [.tmp 2] 25),
 some (.code c151 [.tmp 3] 20),
 some .same,
 some (.code c153 [.tmp 4] 17),
 some (.code c154 [.tmp 4] 23),
 some (.code c155 [.cell 2 true 256,.tmp 3] 21),
 some (.code c156 [.tmp 4] 16),
 some (.code c157 [.tmp 4] 22),
 some (.code c158 [.tmp 4] 23),
 some (.code c159 [.tmp 4] 34),
 some (.code c160 [.tmp 4] 19),
 some (.code c161 [] 76),
 some (.code c162 [.tmp 2] 7),
 some (.code c163 [.tmp 2] 33),
 some (.code c164 [.tmp 6] 15),
 some (.code c165 [.tmp 10] 36),
 some (.code c166 [.tmp 2] 6),
 some (.code c167 [.tmp 4] 10),
 some (.code c168 [.tmp 2,.tmp 3] 19),
 some (.code c169 [.tmp 4] 9),
 some (.code c170 [.tmp 2,.tmp 3] 51),
 some (.code c171 [.tmp 8,.tmp 9] 28),
 some (.code c172 [.tmp 2,.tmp 3] 117),
 some (.code c173 [.tmp 4] 187),
 some (.code c174 [.tmp 2] 6),
 some (.code c175 [.tmp 4] 8),
 some (.code c176 [.tmp 2] 17),
 some (.code c177 [.tmp 2] 6),
 none,
 some (.code c179 [.tmp 4] 8)]
noncomputable def tab:Tab:=fun f=>(tabL[f]?).join
theorem tabL_ok:EntsOk Tryz.prog 0 tabL:=⟨trivial,trivial,fun2,fun3,fun4,fun5,fun6,fun7,fun8,fun9,fun10,fun11,fun12,fun13,fun14,fun15,fun16,fun17,fun18,fun19,fun20,fun21,fun22,fun23,fun24,fun25,fun26,fun27,fun28,fun29,fun30,fun31,fun32,fun33,fun34,fun35,fun36,fun37,fun38,fun39,fun40,fun41,fun42,fun43,fun44,fun45,fun46,fun47,fun48,fun49,fun50,fun51,fun52,fun53,fun54,fun55,fun56,fun57,fun58,fun59,fun60,fun61,fun62,fun63,fun64,⟨fun65,memos_ok⟩,fun66,fun67,fun68,fun69,fun70,fun71,fun72,fun73,fun74,fun75,fun76,fun77,fun78,fun79,fun80,fun81,fun82,fun83,fun84,fun85,fun86,fun87,fun88,fun89,fun90,fun91,fun92,fun93,fun94,fun95,fun96,fun97,fun98,fun99,fun100,fun101,fun102,fun103,fun104,fun105,fun106,fun107,fun108,fun109,fun110,fun111,fun112,fun113,fun114,fun115,fun116,fun117,fun118,fun119,fun120,fun121,fun122,fun123,fun124,fun125,fun126,fun127,fun128,fun129,fun130,fun131,fun132,fun133,fun134,fun135,fun136,fun137,fun138,fun139,fun140,fun141,fun142,fun143,fun144,fun145,fun146,fun147,fun148,fun149,fun150,fun151,same152,fun153,fun154,fun155,fun156,fun157,fun158,fun159,fun160,fun161,fun162,fun163,fun164,fun165,fun166,fun167,fun168,fun169,fun170,fun171,fun172,fun173,fun174,fun175,fun176,fun177,trivial,fun179,trivial⟩
theorem tab_ok:TabOk Tryz.prog tab:=tabOk_of tabL_ok
theorem known_run:veval tab 300 boolOps [] c14 none (ET.of [] 239) CH.empty (eend false [.tmp 0] fun v _=>isTrue v)=true:=by kernel_rfl
theorem known_ok {σ:Heap} {K:Value→Heap→Prop} (hK:K (.bool true) σ):VCalled Tryz.prog 14 [] σ K:=run_true mixed tab_ok 300 fun14 (by decide) known_run hK
end Go.Proofs.Tryz
set_option linter.unusedVariables false
namespace Go.Proofs.Tryz
open Go Go.V Go.Proofs
def al_law03_known:AL (Unit):=.nil
def pre_law03_known (d:Unit):Prop:=True
def res_law03_known (d:Unit):SV:=.val .bo true
def obs_law03_known (d:Unit):List OB:=[]
def s_law03_known:CSp:=mkSp al_law03_known pre_law03_known res_law03_known obs_law03_known
abbrev Ok_law03_known:Prop:=OkC Tryz.prog 14 s_law03_known
theorem ok_law03_known:Ok_law03_known:=okC_true fun _ _ h=>known_ok h
end Go.Proofs.Tryz
set_option linter.unusedVariables false
namespace Go.Proofs.Tryz
open Go Go.V Go.Proofs
def al_law03_none:AL (Int × List Int):=(.one (.agg (.cons (.k (.i .i64)) (.one (.k (.list (.i .i64)))))))
def pre_law03_none (d:Int × List Int):Prop:=True
def res_law03_none (d:Int × List Int):SV:=.val .bo (decide (d.1=0) && decide (d.2.length=0))
def obs_law03_none (d:Int × List Int):List OB:=[]
def s_law03_none:CSp:=mkSp al_law03_none pre_law03_none res_law03_none obs_law03_none
def vc_law03_none (hk:Int) (lw:List Int):Prop :=
 (((hk == (0:Int)) && ((lI lw) == (0:Int)))=(decide (hk=0) && decide (lw.length=0))∧(True))
def cx_law03_none:Cx:=⟨[],[],12,[],0,[],[],[],[],false,[],[],[]⟩
def lp_law03_none (hk:Int) (lw:List Int):List (Nat × LoopAnn):=[]
set_option maxRecDepth 100000 in
theorem vq_law03_none (d:Int × List Int):gwp (cx_law03_none) (lp_law03_none d.1 d.2) c41 0 (gend [.tmp 2] (res_law03_none d) (obs_law03_none d)) (gstart 12 (AL.can al_law03_none d))=vc_law03_none d.1 d.2:=by kernel_rfl
abbrev Ok_law03_none:Prop:=OkC Tryz.prog 41 s_law03_none
theorem mk_law03_none (h:∀ (hk:Int) (lw:List Int),(True)→vc_law03_none hk lw):OkC Tryz.prog 41 s_law03_none :=
 okC_vc fun41 mixed (C:=cx_law03_none) (V:=fun (d:Int × List Int)=>vc_law03_none d.1 d.2) ⟨.nil,XsOk.nil,ItsOk.nil,YlOk.nil,IysOk.nil⟩ (vq_law03_none) fun d hp=>h d.1 d.2 hp
theorem ok_law03_none:Ok_law03_none:=mk_law03_none fun hk lw _=>by
 unfold vc_law03_none; (try delta lI gD sT I64); simp only [and_true]
 by_cases h1:hk=0 <;> by_cases h2:lw.length=0 <;> simp [h1,h2]
def al_law03_bare:AL (Int × List Int):=(.one (.agg (.cons (.k (.i .i64)) (.one (.k (.list (.i .i64)))))))
def pre_law03_bare (d:Int × List Int):Prop:=True
def res_law03_bare (d:Int × List Int):SV:=.val .bo (decide (d.1=0) && decide (d.2.length=0))
def obs_law03_bare (d:Int × List Int):List OB:=[]
def s_law03_bare:CSp:=mkSp al_law03_bare pre_law03_bare res_law03_bare obs_law03_bare
def vc_law03_bare (hd:Int) (rows:List Int):Prop :=
 (((hd == (0:Int)) && ((lI rows) == (0:Int)))=(decide (hd=0) && decide (rows.length=0))∧(True))
def cx_law03_bare:Cx:=⟨[],[],12,[],0,[],[],[],[],false,[],[],[]⟩
def lp_law03_bare (hd:Int) (rows:List Int):List (Nat × LoopAnn):=[]
set_option maxRecDepth 100000 in
theorem vq_law03_bare (d:Int × List Int):gwp (cx_law03_bare) (lp_law03_bare d.1 d.2) c35 0 (gend [.tmp 2] (res_law03_bare d) (obs_law03_bare d)) (gstart 12 (AL.can al_law03_bare d))=vc_law03_bare d.1 d.2:=by kernel_rfl
abbrev Ok_law03_bare:Prop:=OkC Tryz.prog 35 s_law03_bare
theorem mk_law03_bare (h:∀ (hd:Int) (rows:List Int),(True)→vc_law03_bare hd rows):OkC Tryz.prog 35 s_law03_bare :=
 okC_vc fun35 mixed (C:=cx_law03_bare) (V:=fun (d:Int × List Int)=>vc_law03_bare d.1 d.2) ⟨.nil,XsOk.nil,ItsOk.nil,YlOk.nil,IysOk.nil⟩ (vq_law03_bare) fun d hp=>h d.1 d.2 hp
theorem ok_law03_bare:Ok_law03_bare:=mk_law03_bare fun hd rows _=>by
 unfold vc_law03_bare; (try delta lI gD sT I64); simp only [and_true]
 by_cases h1:hd=0 <;> by_cases h2:rows.length=0 <;> simp [h1,h2]
end Go.Proofs.Tryz
set_option linter.unusedVariables false
namespace Go.Proofs.Tryz
open Go Go.V Go.Proofs
def al_law03_large:AL ((Int × List Int) × (Int × List Int) × List (List UInt8)):=(.cons (.agg (.cons (.k (.i .i64)) (.one (.k (.list (.i .i64)))))) (.cons (.agg (.cons (.k (.i .i64)) (.one (.k (.list (.i .i64)))))) (.one (.k (.list .st)))))
def pre_law03_large (d:(Int × List Int) × (Int × List Int) × List (List UInt8)):Prop:=d.2.2.length ≤ 9223372036854775807
def res_law03_large (d:(Int × List Int) × (Int × List Int) × List (List UInt8)):SV:=.val .bo (largeB d.1.2 d.2.1.2 d.2.2)
def obs_law03_large (d:(Int × List Int) × (Int × List Int) × List (List UInt8)):List OB:=[]
def s_law03_large:CSp:=mkSp al_law03_large pre_law03_large res_law03_large obs_law03_large
def vc_law03_large (hk:Int) (lw:List Int) (hd:Int) (rows:List Int) (c:List (List UInt8)):Prop :=
 ∃ (e3:Unit) (d30:Int),((c=c∧True∧True∧(0:Int)=d30∧True)∧((hk=hk∧lw=lw∧(([]:List SV)=[]))∧(hd=hd∧rows=rows∧(([]:List SV)=[]))∧True)) ∧
 LoopP (fun (d3:Int) (q3:(Int)→Prop) =>
  ((decide (d3 < (lI c)))=true →
   (0 ≤ d3)∧(d3 < (List.length c))∧((decide ((lI (gD c d3 [])) > (110:Int)))=true →
    (true=(largeB lw rows c)∧(True))) ∧
   ((decide ((lI (gD c d3 [])) > (110:Int)))=false →
    (I64 (d3 + (1:Int)))∧(∃ d4:Int,((c=c∧True∧True∧(d3 + (1:Int))=d4∧True)∧((hk=hk∧lw=lw∧(([]:List SV)=[]))∧(hd=hd∧rows=rows∧(([]:List SV)=[]))∧True))∧q3 d4))) ∧
  ((decide (d3 < (lI c)))=false →
   ((((decide ((lI lw) > (110:Int))) || (decide ((lI rows) > (70:Int)))) || (decide ((lI c) > (70:Int))))=(largeB lw rows c)∧(True)))) d30
def cx_law03_large:Cx:=⟨[],[],35,[],0,[],[],[],[],false,[],[],[]⟩
def lp_law03_large (hk:Int) (lw:List Int) (hd:Int) (rows:List Int) (c:List (List UInt8)):List (Nat × LoopAnn):=[(0,⟨Unit,Int,[2,3,4,7],fun e x=>[.val (.list .st) c,.box 3 0,.box 4 0,.val (.i .i64) x],fun e x=>[(3,.slot 3,.cells [.val (.i .i64) hk,.val (.list (.i .i64)) lw] (some 26)),(4,.slot 4,.cells [.val (.i .i64) hd,.val (.list (.i .i64)) rows] (some 36))]⟩)]
set_option maxRecDepth 100000 in
theorem vq_law03_large (d:(Int × List Int) × (Int × List Int) × List (List UInt8)):gwp (cx_law03_large) (lp_law03_large d.1.1 d.1.2 d.2.1.1 d.2.1.2 d.2.2) c18 0 (gend [.tmp 6] (res_law03_large d) (obs_law03_large d)) (gstart 35 (AL.can al_law03_large d))=vc_law03_large d.1.1 d.1.2 d.2.1.1 d.2.1.2 d.2.2:=by kernel_rfl
abbrev Ok_law03_large:Prop:=OkC Tryz.prog 18 s_law03_large
theorem mk_law03_large (h:∀ (hk:Int) (lw:List Int) (hd:Int) (rows:List Int) (c:List (List UInt8)),(c.length ≤ 9223372036854775807)→vc_law03_large hk lw hd rows c):OkC Tryz.prog 18 s_law03_large :=
 okC_vc fun18 mixed (C:=cx_law03_large) (V:=fun (d:(Int × List Int) × (Int × List Int) × List (List UInt8))=>vc_law03_large d.1.1 d.1.2 d.2.1.1 d.2.1.2 d.2.2) ⟨.nil,XsOk.nil,ItsOk.nil,YlOk.nil,IysOk.nil⟩ (vq_law03_large) fun d hp=>h d.1.1 d.1.2 d.2.1.1 d.2.1.2 d.2.2 hp
theorem ok_law03_large:Ok_law03_large:=mk_law03_large fun hk lw hd rows c hc=>by
 unfold vc_law03_large
 refine ⟨(),0,by simp,?_⟩
 refine LoopP.count c.length (fun k=>∀ j,j < k→(c.getD j []).length ≤ 110) (fun _ h=>by omega) fun k hk hJ q hq=>?_
 refine ⟨fun hlt=>?_,fun hge=>⟨?_,trivial⟩⟩
 ·have hlt:k < c.length:=by simpa [lI] using hlt
  refine ⟨by omega,by omega,fun hne=>⟨?_,trivial⟩,fun he=>⟨?_,(k:Int) + 1,by simp,hq hlt fun j hj=>?_⟩⟩
  ·have h0:(110:Int) < (((c.getD k []).length:Nat):Int):=by simpa [lI,gD] using hne
   have h1:110 < (c.getD k []).length:=by omega
   rw [getD_nat hlt] at h1
   have:c.any (fun s=>decide (110 < s.length))=true:=List.any_eq_true.2 ⟨c[k],List.getElem_mem hlt,by simpa using h1⟩
   simp [largeB,this]
  ·simp only [InK_i64]; omega
  ·rcases Nat.lt_succ_iff_lt_or_eq.1 hj with hj | rfl
   ·exact hJ j hj
   ·have:¬ (110:Int) < (((c.getD j []).length:Nat):Int):=by simpa [lI,gD] using he
    omega
 ·have hge:c.length ≤ k:=by simpa [lI] using hge
  have:c.any (fun s=>decide (110 < s.length))=false:=by
   rw [List.any_eq_false]
   intro s hs
   obtain ⟨j,hj,rfl⟩:=List.getElem_of_mem hs
   have:=hJ j (by omega)
   rw [getD_nat hj] at this
   simp; omega
  simp only [largeB,this,Bool.false_or,lI]
  congr 1
  ·congr 1
   ·simp only [decide_eq_decide]; omega
   ·simp only [decide_eq_decide]; omega
  ·simp only [decide_eq_decide]; omega
end Go.Proofs.Tryz
set_option linter.unusedVariables false
namespace Go.Proofs.Tryz
open Go Go.V Go.Proofs
def al_strings_Trim:AL (List UInt8 × List UInt8):=(.cons (.k .st) (.one (.k .st)))
def pre_strings_Trim (d:List UInt8 × List UInt8):Prop:=d.1.length ≤ 1000000∧(d.2:List UInt8).length ≤ 1000∧(d.2:List UInt8).all (fun b=>decide (b.toNat < 128))=true
def res_strings_Trim (d:List UInt8 × List UInt8):SV:=.val .st (Lib.trimS d.1 d.2)
def obs_strings_Trim (d:List UInt8 × List UInt8):List OB:=[]
def s_strings_Trim:CSp:=mkSp al_strings_Trim pre_strings_Trim res_strings_Trim obs_strings_Trim
abbrev Ok_strings_Trim:Prop:=OkC Tryz.prog 137 s_strings_Trim
theorem ok_strings_Trim:Ok_strings_Trim:=okC_ss_s fun137.enterable fun a b h w=>by
 obtain ⟨h1,h2,h3⟩:=h
 dsimp only at h1 h2 h3
 exact Any.strings_Trim_laid Tryz.lays160 (by kernel_rfl) ⟨a.toArray⟩ ⟨b.toArray⟩ w (by show a.toArray.size ≤ _; simp; omega) (by show b.toArray.size < _; simp; omega) (ascii_of_all h3)
def al_law03_cloths:AL (List (List UInt8)):=(.one (.k (.list .st)))
def pre_law03_cloths (d:List (List UInt8)):Prop:=d.length ≤ 1000
def res_law03_cloths (d:List (List UInt8)):SV:=.lst 0
def obs_law03_cloths (d:List (List UInt8)):List OB:=[.lst 9 .st d false]
def s_law03_cloths:CSp:=mkSp al_law03_cloths pre_law03_cloths res_law03_cloths obs_law03_cloths
def vc_law03_cloths (c:List (List UInt8)):Prop :=
 (((List.length ([]:List (List UInt8))) + (List.length c)) * 16 ≤ 70368744177664)∧(True∧(((([]:List (List UInt8))++c)=c∧((List.isEmpty c) && false)=false)∧True))
def cx_law03_cloths:Cx:=⟨[(9,.st)],[],6,[],0,[],[],[],[],false,[],[],[]⟩
def lp_law03_cloths (c:List (List UInt8)):List (Nat × LoopAnn):=[]
set_option maxRecDepth 100000 in
theorem vq_law03_cloths (d:List (List UInt8)):gwp (cx_law03_cloths) (lp_law03_cloths d) c30 0 (gend [.tmp 2] (res_law03_cloths d) (obs_law03_cloths d)) (gstart 6 (AL.can al_law03_cloths d))=vc_law03_cloths d:=by kernel_rfl
abbrev Ok_law03_cloths:Prop:=OkC Tryz.prog 30 s_law03_cloths
theorem mk_law03_cloths (h:∀ (c:List (List UInt8)),(c.length ≤ 1000)→vc_law03_cloths c):OkC Tryz.prog 30 s_law03_cloths :=
 okC_vc fun30 mixed (C:=cx_law03_cloths) (V:=fun (d:List (List UInt8))=>vc_law03_cloths d) ⟨.nil,XsOk.nil,ItsOk.nil,YlOk.nil,IysOk.nil⟩ (vq_law03_cloths) fun d hp=>h d hp
theorem ok_law03_cloths:Ok_law03_cloths:=mk_law03_cloths fun c h=>by
 unfold vc_law03_cloths; (try delta lI gD sT I64)
 (try simp only [decide_eq_true_eq,decide_eq_false_iff_not])
 refine ⟨by simp only [List.length_nil]; omega,by simp⟩
def al_slices_IndexFunc_string_string:AL (List (List UInt8) × ((List UInt8→Prop) × (List UInt8→Bool))):=(.cons (.k (.list .st)) (.one (.fn [.st] .bo)))
def pre_slices_IndexFunc_string_string (d:List (List UInt8) × ((List UInt8→Prop) × (List UInt8→Bool))):Prop:=d.1.length ≤ 1000000∧∀ x ∈ d.1,d.2.1 x
def res_slices_IndexFunc_string_string (d:List (List UInt8) × ((List UInt8→Prop) × (List UInt8→Bool))):SV:=.val (.i .i64) (idxG d.1 d.2.2)
def obs_slices_IndexFunc_string_string (d:List (List UInt8) × ((List UInt8→Prop) × (List UInt8→Bool))):List OB:=[]
def s_slices_IndexFunc_string_string:CSp:=mkSp al_slices_IndexFunc_string_string pre_slices_IndexFunc_string_string res_slices_IndexFunc_string_string obs_slices_IndexFunc_string_string
def vc_slices_IndexFunc_string_string (l:List (List UInt8)) (p:(List UInt8→Prop) × (List UInt8→Bool)):Prop :=
 ∃ (e2:Unit) (d20:Int),((l=l∧(SV.pf [.st] .bo p.1 p.2=SV.pf [.st] .bo p.1 p.2)∧(lI l)=(lI l)∧(0:Int)=d20∧True)∧(True)) ∧
 LoopP (fun (d2:Int) (q2:(Int)→Prop) =>
  ((decide (d2 < (lI l)))=true →
   (0 ≤ d2)∧(d2 < (List.length l))∧(p.1 (gD l d2 []))∧((p.2 (gD l d2 []))=true →
    (d2=(idxG l p.2)∧(True))) ∧
   ((p.2 (gD l d2 []))=false →
    (I64 (d2 + (1:Int)))∧(∃ d3:Int,((l=l∧(SV.pf [.st] .bo p.1 p.2=SV.pf [.st] .bo p.1 p.2)∧(lI l)=(lI l)∧(d2 + (1:Int))=d3∧True)∧(True))∧q2 d3))) ∧
  ((decide (d2 < (lI l)))=false →
   ((-1:Int)=(idxG l p.2)∧(True)))) d20
def cx_slices_IndexFunc_string_string:Cx:=⟨[],[],19,[],0,[],[],[],[],false,[],[],[]⟩
def lp_slices_IndexFunc_string_string (l:List (List UInt8)) (p:(List UInt8→Prop) × (List UInt8→Bool)):List (Nat × LoopAnn):=[(0,⟨Unit,Int,[0,1,7,8],fun e x=>[.val (.list .st) l,.pf [.st] .bo p.1 p.2,.val (.i .i64) (((List.length l):Nat):Int),.val (.i .i64) x],fun e x=>[]⟩)]
set_option maxRecDepth 100000 in
theorem vq_slices_IndexFunc_string_string (d:List (List UInt8) × ((List UInt8→Prop) × (List UInt8→Bool))):gwp (cx_slices_IndexFunc_string_string) (lp_slices_IndexFunc_string_string d.1 d.2) c160 0 (gend [.tmp 4] (res_slices_IndexFunc_string_string d) (obs_slices_IndexFunc_string_string d)) (gstart 19 (AL.can al_slices_IndexFunc_string_string d))=vc_slices_IndexFunc_string_string d.1 d.2:=by kernel_rfl
abbrev Ok_slices_IndexFunc_string_string:Prop:=OkC Tryz.prog 160 s_slices_IndexFunc_string_string
theorem mk_slices_IndexFunc_string_string (h:∀ (l:List (List UInt8)) (p:(List UInt8→Prop) × (List UInt8→Bool)),(l.length ≤ 1000000∧∀ x ∈ l,p.1 x)→vc_slices_IndexFunc_string_string l p):OkC Tryz.prog 160 s_slices_IndexFunc_string_string :=
 okC_vc fun160 mixed (C:=cx_slices_IndexFunc_string_string) (V:=fun (d:List (List UInt8) × ((List UInt8→Prop) × (List UInt8→Bool)))=>vc_slices_IndexFunc_string_string d.1 d.2) ⟨.nil,XsOk.nil,ItsOk.nil,YlOk.nil,IysOk.nil⟩ (vq_slices_IndexFunc_string_string) fun d hp=>h d.1 d.2 hp
theorem ok_slices_IndexFunc_string_string:Ok_slices_IndexFunc_string_string:=mk_slices_IndexFunc_string_string fun l p hp=>by
 unfold vc_slices_IndexFunc_string_string; (try delta lI gD sT I64); simp only [true_and,and_true,exists_eq_left',exists_const,decide_eq_true_eq,decide_eq_false_iff_not]
 refine LoopP.count l.length (fun k=>(l.take k).any p.2=false) (by simp) fun k hk1 hJ q hq=>?_
 simp only [Int.toNat_natCast,Int.ofNat_lt,InK_i64]
 refine ⟨fun hlt=>?_,fun hge=>?_⟩
 ·have hlt:k < l.length:=by omega
  rw [getD_nat hlt]
  refine ⟨by omega,by omega,hp.2 _ (List.getElem_mem hlt),fun hx=>?_,fun hx=>⟨by omega,hq hlt ?_⟩⟩
  ·rw [idxG_some hlt hx hJ]
  ·rw [take_succ_eq hlt,List.any_append,hJ]; simp [hx]
 ·rw [List.take_of_length_le (by omega)] at hJ
  rw [idxG_none hJ]
def al_slices_ContainsFunc_string_string:AL (List (List UInt8) × ((List UInt8→Prop) × (List UInt8→Bool))):=(.cons (.k (.list .st)) (.one (.fn [.st] .bo)))
def pre_slices_ContainsFunc_string_string (d:List (List UInt8) × ((List UInt8→Prop) × (List UInt8→Bool))):Prop:=d.1.length ≤ 1000000∧∀ x ∈ d.1,d.2.1 x
def res_slices_ContainsFunc_string_string (d:List (List UInt8) × ((List UInt8→Prop) × (List UInt8→Bool))):SV:=.val .bo (d.1.any d.2.2)
def obs_slices_ContainsFunc_string_string (d:List (List UInt8) × ((List UInt8→Prop) × (List UInt8→Bool))):List OB:=[]
def s_slices_ContainsFunc_string_string:CSp:=mkSp al_slices_ContainsFunc_string_string pre_slices_ContainsFunc_string_string res_slices_ContainsFunc_string_string obs_slices_ContainsFunc_string_string
def vc_slices_ContainsFunc_string_string (l:List (List UInt8)) (p:(List UInt8→Prop) × (List UInt8→Bool)):Prop :=
 (l.length ≤ 1000000∧∀ x ∈ l,(fun (x1:List UInt8)=>p.1 x1) x)∧((decide ((idxG l (fun (x1:List UInt8)=>(p.2 x1))) ≥ (0:Int)))=(l.any p.2)∧(True))
def cx_slices_ContainsFunc_string_string:Cx:=⟨[],[(160,s_slices_IndexFunc_string_string)],9,[],0,[],[],[],[],false,[],[],[]⟩
def lp_slices_ContainsFunc_string_string (l:List (List UInt8)) (p:(List UInt8→Prop) × (List UInt8→Bool)):List (Nat × LoopAnn):=[]
set_option maxRecDepth 100000 in
theorem vq_slices_ContainsFunc_string_string (d:List (List UInt8) × ((List UInt8→Prop) × (List UInt8→Bool))):gwp (cx_slices_ContainsFunc_string_string) (lp_slices_ContainsFunc_string_string d.1 d.2) c138 0 (gend [.tmp 4] (res_slices_ContainsFunc_string_string d) (obs_slices_ContainsFunc_string_string d)) (gstart 9 (AL.can al_slices_ContainsFunc_string_string d))=vc_slices_ContainsFunc_string_string d.1 d.2:=by kernel_rfl
abbrev Ok_slices_ContainsFunc_string_string:Prop:=OkC Tryz.prog 138 s_slices_ContainsFunc_string_string
theorem mk_slices_ContainsFunc_string_string (h:∀ (l:List (List UInt8)) (p:(List UInt8→Prop) × (List UInt8→Bool)),(l.length ≤ 1000000∧∀ x ∈ l,p.1 x)→vc_slices_ContainsFunc_string_string l p):OkC Tryz.prog 138 s_slices_ContainsFunc_string_string :=
 okC_vc fun138 mixed (C:=cx_slices_ContainsFunc_string_string) (V:=fun (d:List (List UInt8) × ((List UInt8→Prop) × (List UInt8→Bool)))=>vc_slices_ContainsFunc_string_string d.1 d.2) ⟨(.cons ok_slices_IndexFunc_string_string .nil),XsOk.nil,ItsOk.nil,YlOk.nil,IysOk.nil⟩ (vq_slices_ContainsFunc_string_string) fun d hp=>h d.1 d.2 hp
theorem ok_slices_ContainsFunc_string_string:Ok_slices_ContainsFunc_string_string:=mk_slices_ContainsFunc_string_string fun l p hp=>by
 simp only [vc_slices_ContainsFunc_string_string]
 exact ⟨hp,idxG_any l p.2,trivial⟩
def al_tie_checkCloth_1:AL (List UInt8 × Int):=(.cons (.k .st) (.one (.ptr (.one (.k (.i .i64))))))
def pre_tie_checkCloth_1 (d:List UInt8 × Int):Prop:=d.1.length ≤ 1000000
def res_tie_checkCloth_1 (d:List UInt8 × Int):SV:=.val .bo (decide ((d.1.length:Int) ≠ d.2) || !isXd d.1)
def obs_tie_checkCloth_1 (d:List UInt8 × Int):List OB:=[]
def s_tie_checkCloth_1:CSp:=mkSp al_tie_checkCloth_1 pre_tie_checkCloth_1 res_tie_checkCloth_1 obs_tie_checkCloth_1
def vc_tie_checkCloth_1 (s:List UInt8) (n:Int):Prop :=
 (((lI s) != n)=false→s.length ≤ 1000000∧([120,46]:List UInt8).length ≤ 1000∧([120,46]:List UInt8).all (fun b=>decide (b.toNat < 128))=true)∧((((lI s) != n) || (!((Lib.trimS s [120,46]) == [])))=(decide ((s.length:Int) ≠ n) || !isXd s)∧(True))
def cx_tie_checkCloth_1:Cx:=⟨[],[(137,s_strings_Trim)],13,[],0,[],[],[],[],false,[],[],[]⟩
def lp_tie_checkCloth_1 (s:List UInt8) (n:Int):List (Nat × LoopAnn):=[]
set_option maxRecDepth 100000 in
theorem vq_tie_checkCloth_1 (d:List UInt8 × Int):gwp (cx_tie_checkCloth_1) (lp_tie_checkCloth_1 d.1 d.2) c136 0 (gend [.tmp 3] (res_tie_checkCloth_1 d) (obs_tie_checkCloth_1 d)) (gstart 13 (AL.can al_tie_checkCloth_1 d))=vc_tie_checkCloth_1 d.1 d.2:=by kernel_rfl
abbrev Ok_tie_checkCloth_1:Prop:=OkC Tryz.prog 136 s_tie_checkCloth_1
theorem mk_tie_checkCloth_1 (h:∀ (s:List UInt8) (n:Int),(s.length ≤ 1000000)→vc_tie_checkCloth_1 s n):OkC Tryz.prog 136 s_tie_checkCloth_1 :=
 okC_vc fun136 mixed (C:=cx_tie_checkCloth_1) (V:=fun (d:List UInt8 × Int)=>vc_tie_checkCloth_1 d.1 d.2) ⟨(.cons ok_strings_Trim .nil),XsOk.nil,ItsOk.nil,YlOk.nil,IysOk.nil⟩ (vq_tie_checkCloth_1) fun d hp=>h d.1 d.2 hp
theorem u8_eqk (a:UInt8) (k:Nat) (b:UInt8) (hb:b.toNat=k):(((UInt8.toNat a:Nat):Int) == (k:Int))=(a == b):=by
 rw [Bool.eq_iff_iff]
 simp only [beq_iff_eq]
 rw [←hb,show (((UInt8.toNat a:Nat):Int)=((UInt8.toNat b:Nat):Int)) ↔ a=b from ⟨fun h=>UInt8.toNat_inj.1 (by omega),fun h=>by rw [h]⟩]
theorem u8_x (a:UInt8):(((UInt8.toNat a:Nat):Int) == 120)=(a == 120):=u8_eqk a 120 120 rfl
theorem u8_nx (a:UInt8):(((UInt8.toNat a:Nat):Int) != 120)=(a != 120):=by simp only [bne,u8_x]
theorem u8_d (a:UInt8):(((UInt8.toNat a:Nat):Int) == 46)=(a == 46):=u8_eqk a 46 46 rfl
theorem u8_nd (a:UInt8):(((UInt8.toNat a:Nat):Int) != 46)=(a != 46):=by simp only [bne,u8_d]
theorem dropWhile_nil {p:UInt8→Bool} (l:List UInt8):l.dropWhile p=[] ↔ ∀ x ∈ l,p x=true:=by
 induction l with
 | nil=>simp
 | cons a l ih=>cases h:p a <;> simp [List.dropWhile,h,ih]
theorem trimS_xd (s:List UInt8):(Lib.trimS s [120,46] == [])=isXd s:=by
 have hp:∀ b:UInt8,([120,46]:List UInt8).contains b=(b == 120 || b == 46):=fun b=>by rw [Bool.eq_iff_iff]; simp []
 rw [Bool.eq_iff_iff]
 simp only [Lib.trimS,Lib.trimLeftS,Lib.trimRightS,beq_iff_eq,isXd,List.all_eq_true,hp]
 rw [dropWhile_nil]
 simp only [List.mem_reverse]
 constructor
 ·intro h x hx
  have hx:x ∈ s.reverse:=List.mem_reverse.2 hx
  rw [←List.takeWhile_append_dropWhile (p:=fun b=>b == 120 || b == 46) (l:=s.reverse),List.mem_append] at hx
  rcases hx with hx | hx
  ·exact (List.all_eq_true.1 List.all_takeWhile) x hx
  ·exact h x hx
 ·intro h x hx
  exact h x (List.mem_reverse.1 ((List.dropWhile_suffix _).mem hx))
theorem ok_tie_checkCloth_1:Ok_tie_checkCloth_1:=mk_tie_checkCloth_1 fun s n h=>by
 unfold vc_tie_checkCloth_1; (try delta lI gD sT I64)
 (try simp only [decide_eq_true_eq,decide_eq_false_iff_not])
 refine ⟨fun _=>⟨h,by decide,by decide⟩,?_⟩
 rw [trimS_xd]
 congr 1
 rw [Bool.eq_iff_iff]; simp
def al_tie_checkCloth:AL (List (List UInt8) × Int):=(.cons (.k (.list .st)) (.one (.k (.i .i64))))
def pre_tie_checkCloth (d:List (List UInt8) × Int):Prop:=d.1.length ≤ 1000000∧∀ s ∈ d.1,s.length ≤ 1000000
def res_tie_checkCloth (d:List (List UInt8) × Int):SV:=.val (.i .i64) (clothErr d.1 d.2)
def obs_tie_checkCloth (d:List (List UInt8) × Int):List OB:=[]
def s_tie_checkCloth:CSp:=mkSp al_tie_checkCloth pre_tie_checkCloth res_tie_checkCloth obs_tie_checkCloth
def vc_tie_checkCloth (c:List (List UInt8)) (n:Int):Prop :=
 ((decide ((lI c) > (60:Int)))=true →
  ((5:Int)=(clothErr c n)∧(True))) ∧
 ((decide ((lI c) > (60:Int)))=false →
  (((lI c) == (0:Int))=true →
   ((7:Int)=(clothErr c n)∧(True))) ∧
  (((lI c) == (0:Int))=false →
   ([n].length ≤ 1000000)∧((!(!([n].any fun n=>decide (n < (1:Int)) || decide ((96:Int) < n))))=true →
    ((!(!([n].any fun n=>decide (n < (1:Int)) || decide ((96:Int) < n))))=true →
     ((4:Int)=(clothErr c n)∧(True))) ∧
    ((!(!([n].any fun n=>decide (n < (1:Int)) || decide ((96:Int) < n))))=false →
     ((0:Int)=(clothErr c n)∧(True)))) ∧
   ((!(!([n].any fun n=>decide (n < (1:Int)) || decide ((96:Int) < n))))=false →
    (c.length ≤ 1000000∧∀ x ∈ c,(fun (x1:List UInt8)=>x1.length ≤ 1000000) x)∧((c.any (fun (x1:List UInt8)=>(decide ((x1.length:Int) ≠ n) || !isXd x1)))=true →
     ((4:Int)=(clothErr c n)∧(True))) ∧
    ((c.any (fun (x1:List UInt8)=>(decide ((x1.length:Int) ≠ n) || !isXd x1)))=false →
     ((0:Int)=(clothErr c n)∧(True))))))
def cx_tie_checkCloth:Cx:=⟨[(3,(.i .i64))],[(67,s_tie_within),(138,s_slices_ContainsFunc_string_string),(136,s_tie_checkCloth_1)],23,[],0,[],[],[],[],false,[],[],[]⟩
def lp_tie_checkCloth (c:List (List UInt8)) (n:Int):List (Nat × LoopAnn):=[]
set_option maxRecDepth 100000 in
theorem vq_tie_checkCloth (d:List (List UInt8) × Int):gwp (cx_tie_checkCloth) (lp_tie_checkCloth d.1 d.2) c112 0 (gend [.tmp 4] (res_tie_checkCloth d) (obs_tie_checkCloth d)) (gstart 23 (AL.can al_tie_checkCloth d))=vc_tie_checkCloth d.1 d.2:=by kernel_rfl
abbrev Ok_tie_checkCloth:Prop:=OkC Tryz.prog 112 s_tie_checkCloth
theorem mk_tie_checkCloth (h:∀ (c:List (List UInt8)) (n:Int),(c.length ≤ 1000000∧∀ s ∈ c,s.length ≤ 1000000)→vc_tie_checkCloth c n):OkC Tryz.prog 112 s_tie_checkCloth :=
 okC_vc fun112 mixed (C:=cx_tie_checkCloth) (V:=fun (d:List (List UInt8) × Int)=>vc_tie_checkCloth d.1 d.2) ⟨(.cons ok_tie_within (.cons ok_slices_ContainsFunc_string_string (.cons ok_tie_checkCloth_1 .nil))),XsOk.nil,ItsOk.nil,YlOk.nil,IysOk.nil⟩ (vq_tie_checkCloth) fun d hp=>h d.1 d.2 hp
theorem clothErr_zero {c:List (List UInt8)} {n:Int} (h:clothErr c n=0):c.length ≤ 60∧c ≠ []∧1 ≤ n∧n ≤ 96∧∀ s ∈ c,(s.length:Int)=n∧isXd s=true:=by
 unfold clothErr at h
 split at h
 ·cases h
 ·rename_i h1
  split at h
  ·cases h
  ·rename_i h2
   split at h
   ·cases h
   ·rename_i h3
    simp only [Bool.or_eq_true,not_or,Bool.not_eq_true',Bool.not_eq_false,Bool.not_eq_true] at h3
    have h4:1 ≤ n∧n ≤ 96:=by simpa [inI] using h3.1
    refine ⟨by omega,fun e=>h2 (by simp [e]),h4.1,h4.2,fun s hs=>?_⟩
    have:=List.any_eq_false.1 h3.2 s hs
    simp only [Bool.or_eq_true,decide_eq_true_eq,Bool.not_eq_true',not_or,ne_eq,Decidable.not_not,Bool.not_eq_false] at this
    exact this
theorem ok_tie_checkCloth:Ok_tie_checkCloth:=mk_tie_checkCloth fun c n h=>by
 unfold vc_tie_checkCloth; (try delta lI gD sT I64)
 (try simp only [decide_eq_true_eq,decide_eq_false_iff_not])
 have e:([n].any fun n=>decide (n < 1) || decide (96 < n))=!inI n 1 96:=by simp only [List.any_cons,List.any_nil,Bool.or_false,←nI]
 simp only [e,Bool.not_not]
 have ce:¬ 60 < c.length→¬ c.length=0→clothErr c n=if !inI n 1 96 || c.any (fun s=>decide ((s.length:Int) ≠ n) || !isXd s) then 4 else 0:=fun h1 h2=>by
  unfold clothErr; rw [if_neg h1,if_neg h2]
 refine ⟨fun h1=>?_,fun h1=>⟨fun h2=>?_,fun h2=>⟨by simp,fun hw=>⟨fun _=>?_,fun hw2=>?_⟩,fun hw=>⟨h,fun ha=>?_,fun ha=>?_⟩⟩⟩⟩
 ·unfold clothErr; rw [if_pos (by omega)]; exact (by and_intros <;> first | rfl | trivial | simp)
 ·have h2:c.length=0:=by simp only [beq_iff_eq] at h2; omega
  unfold clothErr; rw [if_neg (by omega),if_pos h2]; exact (by and_intros <;> first | rfl | trivial | simp)
 all_goals have h2':¬ c.length=0:=by simp only [beq_eq_false_iff_ne] at h2; omega
 ·rw [ce (by omega) h2',hw]; exact (by and_intros <;> first | rfl | trivial | simp)
 ·rw [hw] at hw2; cases hw2
 ·rw [ce (by omega) h2',hw,ha]; exact (by and_intros <;> first | rfl | trivial | simp)
 ·rw [ce (by omega) h2',hw,ha]; exact (by and_intros <;> first | rfl | trivial | simp)
def cx_slices_Backward_int_int:Cx:=⟨[],[],4,[],0,[],[],[],[],false,[],[],[]⟩
def x_slices_Backward_int_int:XSp:=inlX cx_slices_Backward_int_int (fun _=>[]) c115 [.tmp 2] 4
theorem okx_slices_Backward_int_int:XOk Tryz.prog 115 x_slices_Backward_int_int:=inlX_ok fun115 mixed (C:=cx_slices_Backward_int_int) ⟨.nil,XsOk.nil,ItsOk.nil,YlOk.nil,IysOk.nil⟩ _
def al_tie_harness_firsts:AL (Int × List Int):=(.one (.agg (.cons (.k (.i .i64)) (.one (.k (.list (.i .i64)))))))
def pre_tie_harness_firsts (d:Int × List Int):Prop:=d.2.length ≤ 1000
def res_tie_harness_firsts (d:Int × List Int):SV:=.map 0
def obs_tie_harness_firsts (d:Int × List Int):List OB:=[.map (.i .i64) (.i .i64) (fstM d.2)]
def s_tie_harness_firsts:CSp:=mkSp al_tie_harness_firsts pre_tie_harness_firsts res_tie_harness_firsts obs_tie_harness_firsts
def vc_tie_harness_firsts (hk:Int) (lw:List Int):Prop :=
 ∀ w1:List Value,w1=w1∧(List.length lw < 4611686018427387904)∧∃ (e3:Unit) (d30:(List (Int × Int))),((True∧True)∧((True∧(([]:List SV)=[]))∧(([]:List (Int × Int))=d30)∧True)) ∧
 RangeP (List.length lw) (fun (k3:Nat) (d3:(List (Int × Int))) (q3:((List (Int × Int)))→Prop)=>∀ w3:List Value,
  w3=w3∧(∃ d4:(List (Int × Int)),((True∧True)∧((True∧(([]:List SV)=[]))∧((aput (.i .i64) d3 (List.getD lw (List.length lw - 1 - k3) 0) ((lI lw) - 1 - (k3:Int)))=d4)∧True))∧q3 d4))
 (fun (d5:(List (Int × Int))) =>
  (True∧((d5=(fstM lw))∧True))) d30
def cx_tie_harness_firsts:Cx:=⟨[(1000006,(.pair (.i .i64) (.i .i64)))],[],17,[],0,[(115,x_slices_Backward_int_int)],[(139,bwIt (.i .i64))],[],[],false,[],[],[]⟩
def lp_tie_harness_firsts (hk:Int) (lw:List Int):List (Nat × LoopAnn):=[(0,⟨Unit,(List (Int × Int)),[3],fun e x=>[.box 3 0],fun e x=>[(3,.slot 3,.cells [.map 6] (some 135)),(6,.cell 3 0,.map (.i .i64) (.i .i64) x)]⟩)]
set_option maxRecDepth 100000 in
theorem vq_tie_harness_firsts (d:Int × List Int):gwp (cx_tie_harness_firsts) (lp_tie_harness_firsts d.1 d.2) c85 0 (gend [.tmp 2] (res_tie_harness_firsts d) (obs_tie_harness_firsts d)) (gstart 17 (AL.can al_tie_harness_firsts d))=vc_tie_harness_firsts d.1 d.2:=by kernel_rfl
abbrev Ok_tie_harness_firsts:Prop:=OkC Tryz.prog 85 s_tie_harness_firsts
theorem mk_tie_harness_firsts (h:∀ (hk:Int) (lw:List Int),(lw.length ≤ 1000)→vc_tie_harness_firsts hk lw):OkC Tryz.prog 85 s_tie_harness_firsts :=
 okC_vc fun85 mixed (C:=cx_tie_harness_firsts) (V:=fun (d:Int × List Int)=>vc_tie_harness_firsts d.1 d.2) ⟨.nil,(XsOk.cons okx_slices_Backward_int_int XsOk.nil),(ItsOk.cons (bw_ok funbw139 mixed) ItsOk.nil),YlOk.nil,IysOk.nil⟩ (vq_tie_harness_firsts) fun d hp=>h d.1 d.2 hp
theorem ok_tie_harness_firsts:Ok_tie_harness_firsts:=mk_tie_harness_firsts fun hk lw h=>by
 unfold vc_tie_harness_firsts; (try delta lI gD sT I64)
 (try simp only [])
 intro w1
 refine ⟨by trivial,by omega,(),[],(by and_intros <;> first | rfl | trivial | simp),fun k d=>d=fstMk lw k,rfl,fun k d hk hd w=>⟨by trivial,_,(by and_intros <;> first | rfl | trivial | simp),?_⟩,fun d hd=>?_⟩
 ·rw [hd]; rfl
 ·rw [hd]; exact (by and_intros <;> first | rfl | trivial | simp)
def al_tie_harness_design:AL ((Int × List Int) × List (List UInt8)):=(.cons (.agg (.cons (.k (.i .i64)) (.one (.k (.list (.i .i64)))))) (.one (.k (.list .st))))
def pre_tie_harness_design (d:(Int × List Int) × List (List UInt8)):Prop:=d.1.2.length ≤ 1000∧d.2.length ≤ 1000∧(∀ s ∈ d.2,s.length=d.1.2.length)∧∀ x ∈ d.1.2,0 ≤ x∧x < 24
def res_tie_harness_design (d:(Int × List Int) × List (List UInt8)):SV:=.agg [.val (.i .i64) d.1.1,.lst 0]
def obs_tie_harness_design (d:(Int × List Int) × List (List UInt8)):List OB:=[.lst 3 (.i .i64) (rowsX d.1.2 d.2) ((rowsX d.1.2 d.2).isEmpty)]
def s_tie_harness_design:CSp:=mkSp al_tie_harness_design pre_tie_harness_design res_tie_harness_design obs_tie_harness_design
def vc_tie_harness_design (hk:Int) (lw:List Int) (c:List (List UInt8)):Prop :=
 ∃ (e4:Unit) (d40:(List Int) × Int),((True∧True∧True∧c=c∧(lI c)=(lI c)∧(0:Int)=d40.2∧True)∧((hk=hk∧lw=lw∧(([]:List SV)=[]))∧((0:Int)=(0:Int)∧True∧(([]:List SV)=[]))∧(hk=hk∧True∧(([]:List SV)=[]))∧(d40.1=[]∧(List.isEmpty d40.1)=true)∧True)) ∧
 LoopP (fun (d4:(List Int) × Int) (q4:((List Int) × Int)→Prop) =>
  ((decide (d4.2 < (lI c)))=true →
   (0 ≤ d4.2)∧(d4.2 < (List.length c))∧∃ (e7:(List Int) × (List UInt8) × Int) (d70:Int × Int),((True∧True∧True∧(gD c d4.2 [])=e7.2.1∧(0:Int)=d70.1∧c=c∧(lI c)=(lI c)∧d4.2=e7.2.2∧lw=lw∧(lI lw)=(lI lw)∧(0:Int)=d70.2∧True)∧((hk=hk∧lw=lw∧(([]:List SV)=[]))∧((0:Int)=(0:Int)∧True∧(([]:List SV)=[]))∧(hk=hk∧True∧(([]:List SV)=[]))∧(d4.1=e7.1∧(List.isEmpty d4.1)=(List.isEmpty e7.1))∧True)) ∧
   LoopP (fun (d7:Int × Int) (q7:(Int × Int)→Prop) =>
    ((decide (d7.2 < (lI lw)))=true →
     (0 ≤ d7.2)∧(d7.2 < (List.length lw))∧(0 ≤ d7.2)∧(d7.2 < (List.length e7.2.1))∧((((UInt8.toNat (gD e7.2.1 d7.2 0):Nat):Int) == (120:Int))=true →
      (0 ≤ (gD lw d7.2 0))∧(I64 (shlI .i64 (1:Int) (gD lw d7.2 0)))∧(I64 (d7.2 + (1:Int)))∧(∃ d8:Int × Int,((True∧True∧True∧e7.2.1=e7.2.1∧(vbits .or .i64 d7.1 (shlI .i64 (1:Int) (gD lw d7.2 0)))=d8.1∧c=c∧(lI c)=(lI c)∧e7.2.2=e7.2.2∧lw=lw∧(lI lw)=(lI lw)∧(d7.2 + (1:Int))=d8.2∧True)∧((hk=hk∧lw=lw∧(([]:List SV)=[]))∧((0:Int)=(0:Int)∧True∧(([]:List SV)=[]))∧(hk=hk∧True∧(([]:List SV)=[]))∧(e7.1=e7.1∧(List.isEmpty e7.1)=(List.isEmpty e7.1))∧True))∧q7 d8)) ∧
     ((((UInt8.toNat (gD e7.2.1 d7.2 0):Nat):Int) == (120:Int))=false →
      (I64 (d7.2 + (1:Int)))∧(∃ d9:Int × Int,((True∧True∧True∧e7.2.1=e7.2.1∧d7.1=d9.1∧c=c∧(lI c)=(lI c)∧e7.2.2=e7.2.2∧lw=lw∧(lI lw)=(lI lw)∧(d7.2 + (1:Int))=d9.2∧True)∧((hk=hk∧lw=lw∧(([]:List SV)=[]))∧((0:Int)=(0:Int)∧True∧(([]:List SV)=[]))∧(hk=hk∧True∧(([]:List SV)=[]))∧(e7.1=e7.1∧(List.isEmpty e7.1)=(List.isEmpty e7.1))∧True))∧q7 d9))) ∧
    ((decide (d7.2 < (lI lw)))=false →
     (((List.length e7.1) + (List.length [d7.1])) * 8 ≤ 70368744177664)∧(I64 (e7.2.2 + (1:Int)))∧(∃ d10:(List Int) × Int,((True∧True∧True∧c=c∧(lI c)=(lI c)∧(e7.2.2 + (1:Int))=d10.2∧True)∧((hk=hk∧lw=lw∧(([]:List SV)=[]))∧((0:Int)=(0:Int)∧True∧(([]:List SV)=[]))∧(hk=hk∧True∧(([]:List SV)=[]))∧((e7.1++[d7.1])=d10.1∧false=(List.isEmpty d10.1))∧True))∧q4 d10))) d70) ∧
  ((decide (d4.2 < (lI c)))=false →
   ((hk=hk∧True∧(([]:List SV)=[]))∧((d4.1=(rowsX lw c)∧(List.isEmpty d4.1)=(rowsX lw c).isEmpty)∧True)))) d40
def cx_tie_harness_design:Cx:=⟨[(3,(.i .i64))],[],47,[],0,[],[],[],[],false,[],[],[]⟩
def lp_tie_harness_design (hk:Int) (lw:List Int) (c:List (List UInt8)):List (Nat × LoopAnn):=[(0,⟨Unit,(List Int) × Int,[2,4,5,15,16,17],fun e x=>[.box 2 0,.box 4 0,.box 5 0,.val (.list .st) c,.val (.i .i64) (((List.length c):Nat):Int),.val (.i .i64) x.2],fun e x=>[(2,.slot 2,.cells [.val (.i .i64) hk,.val (.list (.i .i64)) lw] (some 120)),(4,.slot 4,.cells [.val (.i .i64) (0:Int),.nilS] (some 36)),(5,.slot 5,.cells [.val (.i .i64) hk,.lst 43] (some 36)),(43,.cell 5 1,.lst 3 (.i .i64) x.1 (List.isEmpty x.1))]⟩),
 (2,⟨(List Int) × (List UInt8) × Int,Int × Int,[2,4,5,7,8,15,16,17,23,24,25],fun e x=>[.box 2 0,.box 4 0,.box 5 0,.val .st e.2.1,.val (.i .i64) x.1,.val (.list .st) c,.val (.i .i64) (((List.length c):Nat):Int),.val (.i .i64) e.2.2,.val (.list (.i .i64)) lw,.val (.i .i64) (((List.length lw):Nat):Int),.val (.i .i64) x.2],fun e x=>[(2,.slot 2,.cells [.val (.i .i64) hk,.val (.list (.i .i64)) lw] (some 120)),(4,.slot 4,.cells [.val (.i .i64) (0:Int),.nilS] (some 36)),(5,.slot 5,.cells [.val (.i .i64) hk,.lst 43] (some 36)),(43,.cell 5 1,.lst 3 (.i .i64) e.1 (List.isEmpty e.1))]⟩)]
set_option maxRecDepth 100000 in
theorem vq_tie_harness_design (d:(Int × List Int) × List (List UInt8)):gwp (cx_tie_harness_design) (lp_tie_harness_design d.1.1 d.1.2 d.2) c81 0 (gend [.cell 4 true 2] (res_tie_harness_design d) (obs_tie_harness_design d)) (gstart 47 (AL.can al_tie_harness_design d))=vc_tie_harness_design d.1.1 d.1.2 d.2:=by kernel_rfl
abbrev Ok_tie_harness_design:Prop:=OkC Tryz.prog 81 s_tie_harness_design
theorem mk_tie_harness_design (h:∀ (hk:Int) (lw:List Int) (c:List (List UInt8)),(lw.length ≤ 1000∧c.length ≤ 1000∧(∀ s ∈ c,s.length=lw.length)∧∀ x ∈ lw,0 ≤ x∧x < 24)→vc_tie_harness_design hk lw c):OkC Tryz.prog 81 s_tie_harness_design :=
 okC_vc fun81 mixed (C:=cx_tie_harness_design) (V:=fun (d:(Int × List Int) × List (List UInt8))=>vc_tie_harness_design d.1.1 d.1.2 d.2) ⟨.nil,XsOk.nil,ItsOk.nil,YlOk.nil,IysOk.nil⟩ (vq_tie_harness_design) fun d hp=>h d.1.1 d.1.2 d.2 hp
theorem ok_tie_harness_design:Ok_tie_harness_design:=mk_tie_harness_design fun hk lw c h=>by
 obtain ⟨h1,h2,h3,h4⟩:=h
 unfold vc_tie_harness_design; (try delta lI gD sT I64)
 (try simp only [decide_eq_true_eq,decide_eq_false_iff_not])
 refine ⟨(),([],0),(by and_intros <;> first | rfl | trivial | simp),?_⟩
 refine LoopP.count2 c.length (fun k xs=>xs=rowsX lw (c.take k)) (by simp [rowsX]) fun i xs hi hJ q hq=>?_
 dsimp only
 refine ⟨fun hlt=>?_,fun hge=>?_⟩
 ·have hlt:i < c.length:=by omega
  have hs:=h3 _ (List.getElem_mem hlt)
  refine ⟨by omega,by omega,(xs,c.getD i [],(i:Int)),(0,0),(by and_intros <;> first | rfl | trivial | simp),?_⟩
  dsimp only
  rw [getD_nat hlt]
  refine LoopP.count2 lw.length (fun k r=>r=((rowXk lw c[i] k:Nat):Int)) rfl fun w r hw hI q2 hq2=>?_
  dsimp only
  have hb:=rowXk_lt (s:=c[i]) (n:=24) h4 w hw
  refine ⟨fun hlt2=>?_,fun hge=>?_⟩
  ·have hlt2:w < lw.length:=by omega
   have hx:=h4 _ (getD_mem hlt2)
   obtain ⟨x,hx'⟩:=Int.eq_ofNat_of_zero_le hx.1
   have h1x:(1:Nat) <<< x < 2 ^ 24:=by rw [Nat.one_shiftLeft]; exact Nat.pow_lt_pow_right (by omega) (by omega)
   have e1:shlI .i64 1 ((x:Nat):Int)=((1 <<< x:Nat):Int):=shl_nat (x:=1) (by omega)
   obtain ⟨y,hy⟩:∃ y,y=1 <<< x:=⟨_,rfl⟩
   rw [←hy] at e1 h1x
   simp only [Int.toNat_natCast,u8_x,hx',hI,e1,vor_nat (show rowXk lw c[i] w < 9223372036854775808 by omega) (show y < 9223372036854775808 by omega)]
   clear e1
   refine ⟨by omega,by omega,by omega,by omega,fun he=>⟨by omega,by rw [InK_i64]; omega,by rw [InK_i64]; omega,(((rowXk lw c[i] w ||| y:Nat):Int),(w:Int) + 1),(by and_intros <;> first | rfl | trivial | simp),hq2 _ hlt2 ?_⟩,fun hne=>⟨by rw [InK_i64]; omega,(((rowXk lw c[i] w:Nat):Int),(w:Int) + 1),(by and_intros <;> first | rfl | trivial | simp),hq2 _ hlt2 ?_⟩⟩
   ·have he:c[i].getD w 0=120:=by simpa using he
    have hxn:(lw.getD w 0).toNat=x:=by omega
    simp only [rowXk,if_pos he,hxn,←hy]
   ·have hne:¬ c[i].getD w 0=120:=by simpa using hne
    simp only [rowXk,if_neg hne]
  ·have:w=lw.length:=by omega
   subst this
   have hxl:xs.length=i:=by rw [hJ]; simp [rowsX]; omega
   refine ⟨by simp only [List.length_singleton]; omega,by rw [InK_i64]; omega,(xs++[r],(i:Int) + 1),?_,hq _ hlt ?_⟩
   ·and_intros <;> first | rfl | trivial | simp
   ·rw [take_succ_eq hlt,hJ,hI]
    simp only [rowsX,List.map_append,List.map_cons,List.map_nil,rowX]
 ·have:i=c.length:=by omega
  subst this
  rw [List.take_length] at hJ
  rw [hJ]
  exact (by and_intros <;> first | rfl | trivial | simp)
end Go.Proofs.Tryz
set_option linter.unusedVariables false
namespace Go.Proofs.Tryz
open Go Go.V Go.Proofs
def al_ref03_Alike:AL (List (List UInt8) × List (List UInt8)):=(.cons (.k (.list .st)) (.one (.k (.list .st))))
def pre_ref03_Alike (d:List (List UInt8) × List (List UInt8)):Prop:=d.1.length ≤ 1000000
def res_ref03_Alike (d:List (List UInt8) × List (List UInt8)):SV:=.val .bo (d.1 == d.2)
def obs_ref03_Alike (d:List (List UInt8) × List (List UInt8)):List OB:=[]
def s_ref03_Alike:CSp:=mkSp al_ref03_Alike pre_ref03_Alike res_ref03_Alike obs_ref03_Alike
def vc_ref03_Alike (a:List (List UInt8)) (b:List (List UInt8)):Prop :=
 (((lI a) != (lI b))=true →
  (false=(a == b)∧(True))) ∧
 (((lI a) != (lI b))=false →
  ∃ (e2:Unit) (d20:Int),((a=a∧b=b∧(0:Int)=d20∧True)∧(True)) ∧
  LoopP (fun (d2:Int) (q2:(Int)→Prop) =>
   ((decide (d2 < (lI a)))=true →
    (0 ≤ d2)∧(d2 < (List.length a))∧(0 ≤ d2)∧(d2 < (List.length b))∧((!((gD a d2 []) == (gD b d2 [])))=true →
     (false=(a == b)∧(True))) ∧
    ((!((gD a d2 []) == (gD b d2 [])))=false →
     (I64 (d2 + (1:Int)))∧(∃ d3:Int,((a=a∧b=b∧(d2 + (1:Int))=d3∧True)∧(True))∧q2 d3))) ∧
   ((decide (d2 < (lI a)))=false →
    (true=(a == b)∧(True)))) d20)
def cx_ref03_Alike:Cx:=⟨[],[],26,[],0,[],[],[],[],false,[],[],[]⟩
def lp_ref03_Alike (a:List (List UInt8)) (b:List (List UInt8)):List (Nat × LoopAnn):=[(0,⟨Unit,Int,[0,1,5],fun e x=>[.val (.list .st) a,.val (.list .st) b,.val (.i .i64) x],fun e x=>[]⟩)]
set_option maxRecDepth 100000 in
theorem vq_ref03_Alike (d:List (List UInt8) × List (List UInt8)):gwp (cx_ref03_Alike) (lp_ref03_Alike d.1 d.2) c26 0 (gend [.tmp 4] (res_ref03_Alike d) (obs_ref03_Alike d)) (gstart 26 (AL.can al_ref03_Alike d))=vc_ref03_Alike d.1 d.2:=by kernel_rfl
abbrev Ok_ref03_Alike:Prop:=OkC Tryz.prog 26 s_ref03_Alike
theorem mk_ref03_Alike (h:∀ (a:List (List UInt8)) (b:List (List UInt8)),(a.length ≤ 1000000)→vc_ref03_Alike a b):OkC Tryz.prog 26 s_ref03_Alike :=
 okC_vc fun26 mixed (C:=cx_ref03_Alike) (V:=fun (d:List (List UInt8) × List (List UInt8))=>vc_ref03_Alike d.1 d.2) ⟨.nil,XsOk.nil,ItsOk.nil,YlOk.nil,IysOk.nil⟩ (vq_ref03_Alike) fun d hp=>h d.1 d.2 hp
theorem ok_ref03_Alike:Ok_ref03_Alike:=mk_ref03_Alike fun a b h=>by
 unfold vc_ref03_Alike; (try delta lI gD sT I64); simp only [true_and,and_true,exists_eq_left',exists_const,decide_eq_true_eq,decide_eq_false_iff_not,beq_iff_eq,bne_iff_ne,ne_eq,beq_eq_false_iff_ne,bne_eq_false_iff_eq,Bool.not_eq_true',Bool.not_eq_false']
 refine ⟨fun h=>?_,fun h=>?_⟩
 ·symm; rw [beq_eq_false_iff_ne]; rintro rfl; exact h rfl
 have h:a.length=b.length:=by omega
 refine LoopP.count a.length (fun k=>a.take k=b.take k) rfl fun k hk1 hJ q hq=>?_
 simp only [Int.toNat_natCast,Int.ofNat_lt,InK_i64]
 refine ⟨fun hlt=>?_,fun hge=>?_⟩
 ·have hlt:k < a.length:=by omega
  rw [getD_nat hlt,getD_nat (by omega)]
  refine ⟨by omega,by omega,by omega,by omega,fun hx=>?_,fun hx=>⟨by omega,hq hlt ?_⟩⟩
  ·symm; rw [beq_eq_false_iff_ne]; rintro rfl; exact hx rfl
  ·rw [take_succ_eq hlt,take_succ_eq (by omega),hJ,hx]
 ·rw [List.take_of_length_le (by omega),List.take_of_length_le (by omega)] at hJ
  simp [hJ]
def al_ref03_Fits:AL (List (List UInt8) × Int):=(.cons (.k (.list .st)) (.one (.k (.i .i64))))
def pre_ref03_Fits (d:List (List UInt8) × Int):Prop:=d.1.length ≤ 1000
def res_ref03_Fits (d:List (List UInt8) × Int):SV:=.val (.i .i64) (clothErr d.1 d.2)
def obs_ref03_Fits (d:List (List UInt8) × Int):List OB:=[]
def s_ref03_Fits:CSp:=mkSp al_ref03_Fits pre_ref03_Fits res_ref03_Fits obs_ref03_Fits
def vc_ref03_Fits (c:List (List UInt8)) (n:Int):Prop :=
 ((decide ((lI c) > (60:Int)))=true →
  ((5:Int)=(clothErr c n)∧(True))) ∧
 ((decide ((lI c) > (60:Int)))=false →
  (((lI c) == (0:Int))=true →
   ((7:Int)=(clothErr c n)∧(True))) ∧
  (((lI c) == (0:Int))=false →
   ∃ (e2:Unit) (d20:Int),((c=c∧n=n∧(0:Int)=d20∧True)∧(True)) ∧
   LoopP (fun (d2:Int) (q2:(Int)→Prop) =>
    ((decide (d2 < (lI c)))=true →
     (0 ≤ d2)∧(d2 < (List.length c))∧(((lI (gD c d2 [])) != n)=false→True)∧((((lI (gD c d2 [])) != n) || (!(inI n (1:Int) (96:Int))))=true →
      ((4:Int)=(clothErr c n)∧(True))) ∧
     ((((lI (gD c d2 [])) != n) || (!(inI n (1:Int) (96:Int))))=false →
      ∃ (e4:Int) (d40:Int),((c=c∧n=n∧d2=e4∧(0:Int)=d40∧True)∧(True)) ∧
      LoopP (fun (d4:Int) (q4:(Int)→Prop) =>
       ((decide (d4 < n))=true →
        (0 ≤ e4)∧(e4 < (List.length c))∧(0 ≤ d4)∧(d4 < (List.length (gD c e4 [])))∧((((UInt8.toNat (gD (gD c e4 []) d4 0):Nat):Int) != (120:Int))=true→0 ≤ e4)∧((((UInt8.toNat (gD (gD c e4 []) d4 0):Nat):Int) != (120:Int))=true→e4 < (List.length c))∧((((UInt8.toNat (gD (gD c e4 []) d4 0):Nat):Int) != (120:Int))=true→0 ≤ d4)∧((((UInt8.toNat (gD (gD c e4 []) d4 0):Nat):Int) != (120:Int))=true→d4 < (List.length (gD c e4 [])))∧(((((UInt8.toNat (gD (gD c e4 []) d4 0):Nat):Int) != (120:Int)) && (((UInt8.toNat (gD (gD c e4 []) d4 0):Nat):Int) != (46:Int)))=true →
         ((4:Int)=(clothErr c n)∧(True))) ∧
        (((((UInt8.toNat (gD (gD c e4 []) d4 0):Nat):Int) != (120:Int)) && (((UInt8.toNat (gD (gD c e4 []) d4 0):Nat):Int) != (46:Int)))=false →
         (I64 (d4 + (1:Int)))∧(∃ d5:Int,((c=c∧n=n∧e4=e4∧(d4 + (1:Int))=d5∧True)∧(True))∧q4 d5))) ∧
       ((decide (d4 < n))=false →
        (I64 (e4 + (1:Int)))∧(∃ d6:Int,((c=c∧n=n∧(e4 + (1:Int))=d6∧True)∧(True))∧q2 d6))) d40)) ∧
    ((decide (d2 < (lI c)))=false →
     ((0:Int)=(clothErr c n)∧(True)))) d20))
def cx_ref03_Fits:Cx:=⟨[],[(27,s_ref03_In)],52,[],0,[],[],[],[],false,[],[],[]⟩
def lp_ref03_Fits (c:List (List UInt8)) (n:Int):List (Nat × LoopAnn):=[(0,⟨Unit,Int,[0,1,5],fun e x=>[.val (.list .st) c,.val (.i .i64) n,.val (.i .i64) x],fun e x=>[]⟩),
 (2,⟨Int,Int,[0,1,5,6],fun e x=>[.val (.list .st) c,.val (.i .i64) n,.val (.i .i64) e,.val (.i .i64) x],fun e x=>[]⟩)]
set_option maxRecDepth 100000 in
theorem vq_ref03_Fits (d:List (List UInt8) × Int):gwp (cx_ref03_Fits) (lp_ref03_Fits d.1 d.2) c34 0 (gend [.tmp 4] (res_ref03_Fits d) (obs_ref03_Fits d)) (gstart 52 (AL.can al_ref03_Fits d))=vc_ref03_Fits d.1 d.2:=by kernel_rfl
abbrev Ok_ref03_Fits:Prop:=OkC Tryz.prog 34 s_ref03_Fits
theorem mk_ref03_Fits (h:∀ (c:List (List UInt8)) (n:Int),(c.length ≤ 1000)→vc_ref03_Fits c n):OkC Tryz.prog 34 s_ref03_Fits :=
 okC_vc fun34 mixed (C:=cx_ref03_Fits) (V:=fun (d:List (List UInt8) × Int)=>vc_ref03_Fits d.1 d.2) ⟨(.cons ok_ref03_In .nil),XsOk.nil,ItsOk.nil,YlOk.nil,IysOk.nil⟩ (vq_ref03_Fits) fun d hp=>h d.1 d.2 hp
theorem ok_ref03_Fits:Ok_ref03_Fits:=mk_ref03_Fits fun c n h=>by
 unfold vc_ref03_Fits; (try delta lI gD sT I64)
 (try simp only [decide_eq_true_eq,decide_eq_false_iff_not])
 have ce:¬ 60 < c.length→¬ c.length=0→clothErr c n=if !inI n 1 96 || c.any (fun s=>decide ((s.length:Int) ≠ n) || !isXd s) then 4 else 0:=fun h1 h2=>by
  unfold clothErr; rw [if_neg h1,if_neg h2]
 refine ⟨fun h1=>?_,fun h1=>⟨fun h2=>?_,fun h2=>?_⟩⟩
 ·unfold clothErr; rw [if_pos (by omega)]; exact (by and_intros <;> first | rfl | trivial | simp)
 ·have h2:c.length=0:=by simp only [beq_iff_eq] at h2; omega
  unfold clothErr; rw [if_neg (by omega),if_pos h2]; exact (by and_intros <;> first | rfl | trivial | simp)
 have h2':¬ c.length=0:=by simp only [beq_eq_false_iff_ne] at h2; omega
 rw [ce (by omega) h2']
 refine ⟨(),0,(by and_intros <;> first | rfl | trivial | simp),?_⟩
 refine LoopP.count c.length (fun k=>∀ j (hj:j < c.length),j < k→(c[j].length:Int)=n∧inI n 1 96=true∧isXd c[j]=true) (fun j _ h=>by omega) fun i hi hJ q hq=>?_
 refine ⟨fun hlt=>?_,fun hge=>?_⟩
 ·have hlt:i < c.length:=by omega
  simp only [Int.toNat_natCast,getD_nat hlt]
  have mem:=List.getElem_mem hlt
  refine ⟨by omega,by omega,fun _=>trivial,fun hb=>?_,fun hb=>⟨(i:Int),0,(by and_intros <;> first | rfl | trivial | simp),?_⟩⟩
  ·have:(!inI n 1 96 || c.any (fun s=>decide ((s.length:Int) ≠ n) || !isXd s))=true:=by
    simp only [Bool.or_eq_true,bne_iff_ne] at hb ⊢
    rcases hb with hb | hb
    ·exact .inr (List.any_eq_true.2 ⟨_,mem,by simp [hb]⟩)
    ·exact .inl hb
   rw [this]; exact (by and_intros <;> first | rfl | trivial | simp)
  ·simp only [Bool.or_eq_false_iff,bne_eq_false_iff_eq,Bool.not_eq_false'] at hb
   have hn:n=((c[i].length:Nat):Int):=hb.1.symm
   subst hn
   have hn96:1 ≤ ((c[i].length:Nat):Int)∧((c[i].length:Nat):Int) ≤ 96:=by simpa [inI] using hb.2
   refine LoopP.count c[i].length (fun k=>∀ j (hj:j < c[i].length),j < k→(c[i][j]=120 ∨ c[i][j]=46)) (fun j _ h=>by omega) fun w hw hI q2 hq2=>?_
   simp only [Int.toNat_natCast,getD_nat hlt]
   refine ⟨fun hlt2=>?_,fun hge=>⟨by rw [InK_i64]; omega,_,(by and_intros <;> first | rfl | trivial | simp),hq hlt fun j hj hj2=>?_⟩⟩
   ·have hlt2:w < c[i].length:=by omega
    simp only [getD_nat hlt2,u8_nx,u8_nd]
    refine ⟨by omega,by omega,by omega,by omega,fun _=>by omega,fun _=>by omega,fun _=>by omega,fun _=>by omega,fun hb2=>?_,fun hb2=>⟨by rw [InK_i64]; omega,_,(by and_intros <;> first | rfl | trivial | simp),hq2 hlt2 fun j hj hj2=>?_⟩⟩
    ·have:(!inI ((c[i].length:Nat):Int) 1 96 || c.any (fun s=>decide ((s.length:Int) ≠ ((c[i].length:Nat):Int)) || !isXd s))=true:=by
      simp only [Bool.or_eq_true]
      refine .inr (List.any_eq_true.2 ⟨_,mem,?_⟩)
      simp only [Bool.or_eq_true,Bool.not_eq_true',isXd,List.all_eq_false]
      refine .inr ⟨_,List.getElem_mem hlt2,?_⟩
      simpa using hb2
     rw [this]; exact (by and_intros <;> first | rfl | trivial | simp)
    ·rcases Nat.lt_succ_iff_lt_or_eq.1 hj2 with hj2 | rfl
     ·exact hI j hj hj2
     ·have hb3:¬ (c[i][j] ≠ 120∧c[i][j] ≠ 46):=by simpa using hb2
      by_cases e:c[i][j]=120
      ·exact .inl e
      ·exact .inr (Decidable.byContradiction fun e2=>hb3 ⟨e,e2⟩)
   ·rcases Nat.lt_succ_iff_lt_or_eq.1 hj2 with hj2 | rfl
    ·exact hJ j hj hj2
    ·refine ⟨rfl,hb.2,?_⟩
     simp only [isXd,List.all_eq_true,Bool.or_eq_true,beq_iff_eq]
     intro x hx
     obtain ⟨w',hw',rfl⟩:=List.getElem_of_mem hx
     exact hI w' hw' (by omega)
 ·have hi':inI n 1 96=true:=(hJ 0 (by omega) (by omega)).2.1
  have ha:c.any (fun s=>decide ((s.length:Int) ≠ n) || !isXd s)=false:=by
   rw [List.any_eq_false]
   intro s hs
   obtain ⟨j,hj,rfl⟩:=List.getElem_of_mem hs
   obtain ⟨k1,k2,k3⟩:=hJ j hj (by omega)
   simp [k1,k3]
  rw [hi',ha]; exact (by and_intros <;> first | rfl | trivial | simp)
def al_ref03_First:AL ((Int × List Int) × Int):=(.cons (.agg (.cons (.k (.i .i64)) (.one (.k (.list (.i .i64)))))) (.one (.k (.i .i64))))
def pre_ref03_First (d:(Int × List Int) × Int):Prop:=d.1.2.length ≤ 1000000
def res_ref03_First (d:(Int × List Int) × Int):SV:=.val (.i .i64) (idxF d.1.2 (fun x=>x == d.2))
def obs_ref03_First (d:(Int × List Int) × Int):List OB:=[]
def s_ref03_First:CSp:=mkSp al_ref03_First pre_ref03_First res_ref03_First obs_ref03_First
def vc_ref03_First (hk:Int) (lw:List Int) (k:Int):Prop :=
 ∃ (e3:Unit) (d30:Int),((k=k∧True∧(0:Int)=d30∧True)∧((hk=hk∧lw=lw∧(([]:List SV)=[]))∧True)) ∧
 LoopP (fun (d3:Int) (q3:(Int)→Prop) =>
  ((decide (d3 < (lI lw)))=true →
   (0 ≤ d3)∧(d3 < (List.length lw))∧(((gD lw d3 0) == k)=true →
    (d3=(idxF lw (fun x=>x == k))∧(True))) ∧
   (((gD lw d3 0) == k)=false →
    (I64 (d3 + (1:Int)))∧(∃ d4:Int,((k=k∧True∧(d3 + (1:Int))=d4∧True)∧((hk=hk∧lw=lw∧(([]:List SV)=[]))∧True))∧q3 d4))) ∧
  ((decide (d3 < (lI lw)))=false →
   ((-1:Int)=(idxF lw (fun x=>x == k))∧(True)))) d30
def cx_ref03_First:Cx:=⟨[],[],21,[],0,[],[],[],[],false,[],[],[]⟩
def lp_ref03_First (hk:Int) (lw:List Int) (k:Int):List (Nat × LoopAnn):=[(0,⟨Unit,Int,[1,2,5],fun e x=>[.val (.i .i64) k,.box 2 0,.val (.i .i64) x],fun e x=>[(2,.slot 2,.cells [.val (.i .i64) hk,.val (.list (.i .i64)) lw] (some 26))]⟩)]
set_option maxRecDepth 100000 in
theorem vq_ref03_First (d:(Int × List Int) × Int):gwp (cx_ref03_First) (lp_ref03_First d.1.1 d.1.2 d.2) c82 0 (gend [.tmp 4] (res_ref03_First d) (obs_ref03_First d)) (gstart 21 (AL.can al_ref03_First d))=vc_ref03_First d.1.1 d.1.2 d.2:=by kernel_rfl
abbrev Ok_ref03_First:Prop:=OkC Tryz.prog 82 s_ref03_First
theorem mk_ref03_First (h:∀ (hk:Int) (lw:List Int) (k:Int),(lw.length ≤ 1000000)→vc_ref03_First hk lw k):OkC Tryz.prog 82 s_ref03_First :=
 okC_vc fun82 mixed (C:=cx_ref03_First) (V:=fun (d:(Int × List Int) × Int)=>vc_ref03_First d.1.1 d.1.2 d.2) ⟨.nil,XsOk.nil,ItsOk.nil,YlOk.nil,IysOk.nil⟩ (vq_ref03_First) fun d hp=>h d.1.1 d.1.2 d.2 hp
theorem ok_ref03_First:Ok_ref03_First:=mk_ref03_First fun hk lw c hlw=>by
 unfold vc_ref03_First; (try delta lI gD sT I64); simp only [true_and,and_true,exists_eq_left',exists_const,decide_eq_true_eq,decide_eq_false_iff_not,beq_iff_eq,ne_eq,beq_eq_false_iff_ne]
 refine LoopP.count lw.length (fun k=>(lw.take k).any (fun x=>x == c)=false) (by simp) fun k hk1 hJ q hq=>?_
 simp only [Int.toNat_natCast,Int.ofNat_lt,InK_i64]
 refine ⟨fun hlt=>?_,fun hge=>?_⟩
 ·have hlt:k < lw.length:=by omega
  rw [getD_nat hlt]
  refine ⟨by omega,by omega,fun hx=>?_,fun hx=>⟨by omega,hq hlt ?_⟩⟩
  ·rw [idxF_some hlt (by simp [hx]) hJ]
  ·rw [take_succ_eq hlt,List.any_append,hJ]; simp [hx]
 ·rw [List.take_of_length_le (by omega)] at hJ
  rw [idxF_none hJ]
def al_ref01_Row:AL (List Bool):=(.one (.k (.list .bo)))
def pre_ref01_Row (d:List Bool):Prop:=d.length ≤ 60
def res_ref01_Row (d:List Bool):SV:=.val (.i .i64) ((bitsV d:Nat):Int)
def obs_ref01_Row (d:List Bool):List OB:=[]
def s_ref01_Row:CSp:=mkSp al_ref01_Row pre_ref01_Row res_ref01_Row obs_ref01_Row
def vc_ref01_Row (b:List Bool):Prop :=
 (I64 ((lI b) - (1:Int)))∧∃ (e2:Unit) (d20:Int × Int),((b=b∧(0:Int)=d20.1∧((lI b) - (1:Int))=d20.2∧True)∧(True)) ∧
 LoopP (fun (d2:Int × Int) (q2:(Int × Int)→Prop) =>
  ((decide (d2.2 ≥ (0:Int)))=true →
   (I64 (d2.1 * (2:Int)))∧(0 ≤ d2.2)∧(d2.2 < (List.length b))∧((gD b d2.2 false)=true →
    (I64 ((d2.1 * (2:Int)) + (1:Int)))∧(I64 (d2.2 - (1:Int)))∧(∃ d3:Int × Int,((b=b∧((d2.1 * (2:Int)) + (1:Int))=d3.1∧(d2.2 - (1:Int))=d3.2∧True)∧(True))∧q2 d3)) ∧
   ((gD b d2.2 false)=false →
    (I64 (d2.2 - (1:Int)))∧(∃ d4:Int × Int,((b=b∧(d2.1 * (2:Int))=d4.1∧(d2.2 - (1:Int))=d4.2∧True)∧(True))∧q2 d4))) ∧
  ((decide (d2.2 ≥ (0:Int)))=false →
   (d2.1=((bitsV b:Nat):Int)∧(True)))) d20
def cx_ref01_Row:Cx:=⟨[],[],21,[],0,[],[],[],[],false,[],[],[]⟩
def lp_ref01_Row (b:List Bool):List (Nat × LoopAnn):=[(0,⟨Unit,Int × Int,[0,3,4],fun e x=>[.val (.list .bo) b,.val (.i .i64) x.1,.val (.i .i64) x.2],fun e x=>[]⟩)]
set_option maxRecDepth 100000 in
theorem vq_ref01_Row (d:List Bool):gwp (cx_ref01_Row) (lp_ref01_Row d) c113 0 (gend [.tmp 2] (res_ref01_Row d) (obs_ref01_Row d)) (gstart 21 (AL.can al_ref01_Row d))=vc_ref01_Row d:=by kernel_rfl
abbrev Ok_ref01_Row:Prop:=OkC Tryz.prog 113 s_ref01_Row
theorem mk_ref01_Row (h:∀ (b:List Bool),(b.length ≤ 60)→vc_ref01_Row b):OkC Tryz.prog 113 s_ref01_Row :=
 okC_vc fun113 mixed (C:=cx_ref01_Row) (V:=fun (d:List Bool)=>vc_ref01_Row d) ⟨.nil,XsOk.nil,ItsOk.nil,YlOk.nil,IysOk.nil⟩ (vq_ref01_Row) fun d hp=>h d hp
theorem ok_ref01_Row:Ok_ref01_Row:=mk_ref01_Row fun b h=>by
 unfold vc_ref01_Row; (try delta lI gD sT I64)
 (try simp only [decide_eq_true_eq,decide_eq_false_iff_not])
 refine ⟨by rw [InK_i64]; omega,(),(0,(b.length:Int) - 1),(by and_intros <;> first | rfl | trivial | simp),?_⟩
 refine ⟨fun d=>∃ k:Nat,k ≤ b.length∧d.2=(k:Int) - 1∧d.1=((bitsV (b.drop k):Nat):Int),fun d=>(d.2 + 1).toNat,⟨b.length,Nat.le_refl _,rfl,by simp [bitsV]⟩,?_⟩
 rintro ⟨r,i⟩ ⟨k,hk,hi,hr⟩
 dsimp only at hi hr ⊢
 subst hi; subst hr
 have hlt:=bitsV_lt (b.drop k)
 have hp:2 ^ (b.drop k).length ≤ 2 ^ (60 - k):=Nat.pow_le_pow_right (by omega) (by simp; omega)
 refine ⟨fun hge=>?_,fun hlt=>?_⟩
 ·have hk1:1 ≤ k:=by omega
  have hp2:2 ^ (60 - k) ≤ 2 ^ 59:=Nat.pow_le_pow_right (by omega) (by omega)
  have hkl:k - 1 < b.length:=by omega
  have e:((k:Int) - 1).toNat=k - 1:=by omega
  have hd:b.drop (k - 1)=b[k - 1] :: b.drop k:=by rw [List.drop_eq_getElem_cons hkl,show k - 1 + 1=k by omega]
  rw [e,getD_nat hkl]
  refine ⟨by rw [InK_i64]; omega,by omega,by omega,fun hb=>⟨by rw [InK_i64]; omega,by rw [InK_i64]; omega,(((bitsV (b.drop k):Nat):Int) * 2 + 1,(k:Int) - 1 - 1),(by and_intros <;> first | rfl | trivial | simp),⟨k - 1,by omega,by dsimp only; omega,?_⟩,by dsimp only; omega⟩,fun hb=>⟨by rw [InK_i64]; omega,(((bitsV (b.drop k):Nat):Int) * 2,(k:Int) - 1 - 1),(by and_intros <;> first | rfl | trivial | simp),⟨k - 1,by omega,by dsimp only; omega,?_⟩,by dsimp only; omega⟩⟩
  ·simp only [hd,bitsV,hb,if_true]; omega
  ·simp only [hd,bitsV,hb]; simp; omega
 ·have:k=0:=by omega
  subst this
  rw [List.drop_zero]
  exact (by and_intros <;> first | rfl | trivial | simp)
def al_ref01_Design:AL (List (List Bool)):=(.one (.k (.list (.list .bo))))
def pre_ref01_Design (d:List (List Bool)):Prop:=d ≠ []∧d.length ≤ 1000∧∀ b ∈ d,b.length ≤ 60
def res_ref01_Design (d:List (List Bool)):SV:=.agg [.val (.i .i64) (((d.getD 0 []).length:Nat):Int),.lst 0]
def obs_ref01_Design (d:List (List Bool)):List OB:=[.lst 3 (.i .i64) (d.map fun b=>((bitsV b:Nat):Int)) false]
def s_ref01_Design:CSp:=mkSp al_ref01_Design pre_ref01_Design res_ref01_Design obs_ref01_Design
def vc_ref01_Design (t:List (List Bool)):Prop :=
 (0 ≤ (0:Int))∧((0:Int) < (List.length t))∧∃ (e4:Unit) (d40:(List Int) × Int),((t=t∧True∧True∧(0:Int)=d40.2∧True)∧(((0:Int)=(0:Int)∧True∧(([]:List SV)=[]))∧((lI (gD t (0:Int) []))=(lI (gD t (0:Int) []))∧True∧(([]:List SV)=[]))∧(d40.1=[]∧(List.isEmpty d40.1)=true)∧True)) ∧
 LoopP (fun (d4:(List Int) × Int) (q4:((List Int) × Int)→Prop) =>
  ((decide (d4.2 < (lI t)))=true →
   (0 ≤ d4.2)∧(d4.2 < (List.length t))∧((gD t d4.2 []).length ≤ 60)∧(((List.length d4.1) + (List.length [((bitsV (gD t d4.2 []):Nat):Int)])) * 8 ≤ 70368744177664)∧(I64 (d4.2 + (1:Int)))∧(∃ d5:(List Int) × Int,((t=t∧True∧True∧(d4.2 + (1:Int))=d5.2∧True)∧(((0:Int)=(0:Int)∧True∧(([]:List SV)=[]))∧((lI (gD t (0:Int) []))=(lI (gD t (0:Int) []))∧True∧(([]:List SV)=[]))∧((d4.1++[((bitsV (gD t d4.2 []):Nat):Int)])=d5.1∧false=(List.isEmpty d5.1))∧True))∧q4 d5)) ∧
  ((decide (d4.2 < (lI t)))=false →
   (((lI (gD t (0:Int) []))=(((t.getD 0 []).length:Nat):Int)∧True∧(([]:List SV)=[]))∧((d4.1=(t.map fun b=>((bitsV b:Nat):Int))∧(List.isEmpty d4.1)=false)∧True)))) d40
def cx_ref01_Design:Cx:=⟨[(3,(.i .i64))],[(113,s_ref01_Row)],27,[],0,[],[],[],[],false,[],[],[]⟩
def lp_ref01_Design (t:List (List Bool)):List (Nat × LoopAnn):=[(0,⟨Unit,(List Int) × Int,[0,2,3,4],fun e x=>[.val (.list (.list .bo)) t,.box 2 0,.box 3 0,.val (.i .i64) x.2],fun e x=>[(2,.slot 2,.cells [.val (.i .i64) (0:Int),.nilS] (some 36)),(3,.slot 3,.cells [.val (.i .i64) (((List.length (List.getD t (Int.toNat (0:Int)) [])):Nat):Int),.lst 24] (some 36)),(24,.cell 3 1,.lst 3 (.i .i64) x.1 (List.isEmpty x.1))]⟩)]
set_option maxRecDepth 100000 in
theorem vq_ref01_Design (d:List (List Bool)):gwp (cx_ref01_Design) (lp_ref01_Design d) c83 0 (gend [.cell 2 true 2] (res_ref01_Design d) (obs_ref01_Design d)) (gstart 27 (AL.can al_ref01_Design d))=vc_ref01_Design d:=by kernel_rfl
abbrev Ok_ref01_Design:Prop:=OkC Tryz.prog 83 s_ref01_Design
theorem mk_ref01_Design (h:∀ (t:List (List Bool)),(t ≠ []∧t.length ≤ 1000∧∀ b ∈ t,b.length ≤ 60)→vc_ref01_Design t):OkC Tryz.prog 83 s_ref01_Design :=
 okC_vc fun83 mixed (C:=cx_ref01_Design) (V:=fun (d:List (List Bool))=>vc_ref01_Design d) ⟨(.cons ok_ref01_Row .nil),XsOk.nil,ItsOk.nil,YlOk.nil,IysOk.nil⟩ (vq_ref01_Design) fun d hp=>h d hp
theorem ok_ref01_Design:Ok_ref01_Design:=mk_ref01_Design fun t h=>by
 obtain ⟨h1,h2,h3⟩:=h
 have hpos:0 < t.length:=List.length_pos_iff.2 h1
 unfold vc_ref01_Design; (try delta lI gD sT I64)
 (try simp only [decide_eq_true_eq,decide_eq_false_iff_not])
 refine ⟨by omega,by omega,(),([],0),(by and_intros <;> first | rfl | trivial | simp),?_⟩
 refine LoopP.count2 t.length (fun k xs=>xs=(t.take k).map fun b=>((bitsV b:Nat):Int)) (by simp) fun i xs hi hJ q hq=>?_
 dsimp only
 have hxl:xs.length=i:=by rw [hJ]; simp; omega
 refine ⟨fun hlt=>?_,fun hge=>?_⟩
 ·have hlt:i < t.length:=by omega
  simp only [Int.toNat_natCast,getD_nat hlt,List.length_singleton]
  refine ⟨by omega,by omega,h3 _ (List.getElem_mem hlt),by omega,by rw [InK_i64]; omega,(xs++[((bitsV t[i]:Nat):Int)],(i:Int) + 1),?_,hq _ hlt ?_⟩
  ·and_intros <;> first | rfl | trivial | simp
  ·rw [take_succ_eq hlt,List.map_append,←hJ]; rfl
 ·have:i=t.length:=by omega
  subst this
  rw [List.take_length] at hJ
  refine ⟨(by and_intros <;> first | rfl | trivial | simp),⟨hJ,?_⟩,trivial⟩
  cases xs with
  | nil=>simp at hxl; omega
  | cons a l=>rfl
def al_ref03_Unweave:AL ((Int × List Int) × List (List UInt8)):=(.cons (.agg (.cons (.k (.i .i64)) (.one (.k (.list (.i .i64)))))) (.one (.k (.list .st))))
def pre_ref03_Unweave (d:(Int × List Int) × List (List UInt8)):Prop:=1 ≤ d.1.1∧d.1.1 ≤ 24∧d.1.2.length ≤ 1000∧d.2 ≠ []∧d.2.length ≤ 1000∧(∀ s ∈ d.2,s.length=d.1.2.length)
def res_ref03_Unweave (d:(Int × List Int) × List (List UInt8)):SV:=.agg [.val (.i .i64) d.1.1,.lst 0]
def obs_ref03_Unweave (d:(Int × List Int) × List (List UInt8)):List OB:=[.lst 3 (.i .i64) (unwL d.1.1.toNat d.1.2 d.2) false]
def s_ref03_Unweave:CSp:=mkSp al_ref03_Unweave pre_ref03_Unweave res_ref03_Unweave obs_ref03_Unweave
def vc_ref03_Unweave (hk:Int) (lw:List Int) (c:List (List UInt8)):Prop :=
 ∃ (e3:Unit) (d30:(List (List Bool)) × Int),((c=c∧True∧True∧True∧(0:Int)=d30.2∧True)∧((hk=hk∧lw=lw∧(([]:List SV)=[]))∧((0:Int)=(0:Int)∧True∧(([]:List SV)=[]))∧(([]:List (List Bool))=d30.1∧false=false)∧True)) ∧
 LoopP (fun (d3:(List (List Bool)) × Int) (q3:((List (List Bool)) × Int)→Prop) =>
  ((decide (d3.2 < (lI c)))=true →
   ∃ (e6:(List (List Bool)) × Int) (d60:(List Bool) × Int),((c=c∧True∧True∧True∧d3.2=e6.2∧True∧(0:Int)=d60.2∧True)∧((hk=hk∧lw=lw∧(([]:List SV)=[]))∧((0:Int)=(0:Int)∧True∧(([]:List SV)=[]))∧(d3.1=e6.1∧false=false)∧(([]:List Bool)=d60.1∧false=false)∧True)) ∧
   LoopP (fun (d6:(List Bool) × Int) (q6:((List Bool) × Int)→Prop) =>
    ((decide (d6.2 < hk))=true →
     (lw.length ≤ 1000000)∧((decide ((idxF lw (fun x=>x == d6.2)) ≥ (0:Int)))=true→0 ≤ e6.2)∧((decide ((idxF lw (fun x=>x == d6.2)) ≥ (0:Int)))=true→e6.2 < (List.length c))∧((decide ((idxF lw (fun x=>x == d6.2)) ≥ (0:Int)))=true→0 ≤ (gmax (0:Int) (idxF lw (fun x=>x == d6.2))))∧((decide ((idxF lw (fun x=>x == d6.2)) ≥ (0:Int)))=true→(gmax (0:Int) (idxF lw (fun x=>x == d6.2))) < (List.length (gD c e6.2 [])))∧(((List.length d6.1) + (List.length [((decide ((idxF lw (fun x=>x == d6.2)) ≥ (0:Int))) && (((UInt8.toNat (gD (gD c e6.2 []) (gmax (0:Int) (idxF lw (fun x=>x == d6.2))) 0):Nat):Int) == (120:Int)))])) * 1 ≤ 70368744177664)∧(I64 (d6.2 + (1:Int)))∧(∃ d7:(List Bool) × Int,((c=c∧True∧True∧True∧e6.2=e6.2∧True∧(d6.2 + (1:Int))=d7.2∧True)∧((hk=hk∧lw=lw∧(([]:List SV)=[]))∧((0:Int)=(0:Int)∧True∧(([]:List SV)=[]))∧(e6.1=e6.1∧false=false)∧((d6.1++[((decide ((idxF lw (fun x=>x == d6.2)) ≥ (0:Int))) && (((UInt8.toNat (gD (gD c e6.2 []) (gmax (0:Int) (idxF lw (fun x=>x == d6.2))) 0):Nat):Int) == (120:Int)))])=d7.1∧false=false)∧True))∧q6 d7)) ∧
    ((decide (d6.2 < hk))=false →
     (((List.length e6.1) + (List.length [d6.1])) * 24 ≤ 70368744177664)∧(I64 (e6.2 + (1:Int)))∧(∃ d8:(List (List Bool)) × Int,((c=c∧True∧True∧True∧(e6.2 + (1:Int))=d8.2∧True)∧((hk=hk∧lw=lw∧(([]:List SV)=[]))∧((0:Int)=(0:Int)∧True∧(([]:List SV)=[]))∧((e6.1++[d6.1])=d8.1∧false=false)∧True))∧q3 d8))) d60) ∧
  ((decide (d3.2 < (lI c)))=false →
   (d3.1 ≠ []∧d3.1.length ≤ 1000∧∀ b ∈ d3.1,b.length ≤ 60)∧(((((d3.1.getD 0 []).length:Nat):Int)=hk∧True∧(([]:List SV)=[]))∧(((d3.1.map fun b=>((bitsV b:Nat):Int))=(unwL hk.toNat lw c)∧false=false)∧True)))) d30
def cx_ref03_Unweave:Cx:=⟨[(4,.bo),(126,(.list .bo))],[(82,s_ref03_First),(83,s_ref01_Design)],48,[],0,[],[],[(126,4)],[],false,[],[],[]⟩
def lp_ref03_Unweave (hk:Int) (lw:List Int) (c:List (List UInt8)):List (Nat × LoopAnn):=[(0,⟨Unit,(List (List Bool)) × Int,[1,2,4,5,6],fun e x=>[.val (.list .st) c,.box 2 0,.box 4 0,.dd 10 .out,.val (.i .i64) x.2],fun e x=>[(2,.slot 2,.cells [.val (.i .i64) hk,.val (.list (.i .i64)) lw] (some 26)),(4,.slot 4,.cells [.val (.i .i64) (0:Int),.nilS] (some 36)),(10,.slot 5,.deep 126 (some 4) (.list .bo) x.1 false none)]⟩),
 (2,⟨(List (List Bool)) × Int,(List Bool) × Int,[1,2,4,5,6,7,8],fun e x=>[.val (.list .st) c,.box 2 0,.box 4 0,.dd 10 .out,.val (.i .i64) e.2,.lst 17,.val (.i .i64) x.2],fun e x=>[(2,.slot 2,.cells [.val (.i .i64) hk,.val (.list (.i .i64)) lw] (some 26)),(4,.slot 4,.cells [.val (.i .i64) (0:Int),.nilS] (some 36)),(10,.slot 5,.deep 126 (some 4) (.list .bo) e.1 false none),(17,.slot 7,.lst 4 .bo x.1 false)]⟩)]
set_option maxRecDepth 100000 in
theorem vq_ref03_Unweave (d:(Int × List Int) × List (List UInt8)):gwp (cx_ref03_Unweave) (lp_ref03_Unweave d.1.1 d.1.2 d.2) c37 0 (gend [.cell 4 true 2] (res_ref03_Unweave d) (obs_ref03_Unweave d)) (gstart 48 (AL.can al_ref03_Unweave d))=vc_ref03_Unweave d.1.1 d.1.2 d.2:=by kernel_rfl
abbrev Ok_ref03_Unweave:Prop:=OkC Tryz.prog 37 s_ref03_Unweave
theorem mk_ref03_Unweave (h:∀ (hk:Int) (lw:List Int) (c:List (List UInt8)),(1 ≤ hk∧hk ≤ 24∧lw.length ≤ 1000∧c ≠ []∧c.length ≤ 1000∧(∀ s ∈ c,s.length=lw.length))→vc_ref03_Unweave hk lw c):OkC Tryz.prog 37 s_ref03_Unweave :=
 okC_vc fun37 mixed (C:=cx_ref03_Unweave) (V:=fun (d:(Int × List Int) × List (List UInt8))=>vc_ref03_Unweave d.1.1 d.1.2 d.2) ⟨(.cons ok_ref03_First (.cons ok_ref01_Design .nil)),XsOk.nil,ItsOk.nil,YlOk.nil,IysOk.nil⟩ (vq_ref03_Unweave) fun d hp=>h d.1.1 d.1.2 d.2 hp
theorem ok_ref03_Unweave:Ok_ref03_Unweave:=mk_ref03_Unweave fun hk lw c h=>by
 obtain ⟨h1,h2,h3,h4,h5,h6⟩:=h
 obtain ⟨n,rfl⟩:=Int.eq_ofNat_of_zero_le (show 0 ≤ hk by omega)
 have hpos:0 < c.length:=List.length_pos_iff.2 h4
 unfold vc_ref03_Unweave; (try delta lI gD sT I64)
 (try simp only [decide_eq_true_eq,decide_eq_false_iff_not])
 simp only [idxF_fst]
 refine ⟨(),([],0),(by and_intros <;> first | rfl | trivial | simp),?_⟩
 refine LoopP.count2 c.length (fun k xs=>xs=(c.take k).map (unwP n lw)) (by simp) fun i xs hi hJ q hq=>?_
 dsimp only
 have hxl:xs.length=i:=by rw [hJ]; simp; omega
 refine ⟨fun hlt=>?_,fun hge=>?_⟩
 ·have hlt:i < c.length:=by omega
  have hs:=h6 _ (List.getElem_mem hlt)
  refine ⟨(xs,(i:Int)),([],0),(by and_intros <;> first | rfl | trivial | simp),?_⟩
  refine LoopP.count2 n (fun k l=>l=(unwP n lw c[i]).take k) (by simp) fun k l hk hI q2 hq2=>?_
  dsimp only
  have hll:l.length=k:=by rw [hI]; simp [unwP]; omega
  refine ⟨fun hlt2=>?_,fun hge=>?_⟩
  ·have hlt2:k < n:=by omega
   have hel:(unwP n lw c[i])[k]'(by simp [unwP]; omega)=(decide (((k:Nat):Int) ∈ lw) && (c[i].getD (fstN lw k) 0 == 120)):=by simp [unwP]
   have hv:(decide (fstI lw (k:Int) ≥ 0) && (((UInt8.toNat (c[i].getD (gmax 0 (fstI lw (k:Int))).toNat 0):Nat):Int) == 120))=(unwP n lw c[i])[k]'(by simp [unwP]; omega):=by
    rw [hel,u8_x]
    by_cases hm:((k:Nat):Int) ∈ lw
    ·have e:fstI lw (k:Int)=((fstN lw (k:Int):Nat):Int):=by rw [fstI,if_pos hm]
     have e2:(gmax 0 ((fstN lw (k:Int):Nat):Int)).toNat=fstN lw (k:Int):=by unfold gmax; split <;> omega
     rw [e,e2]; simp [hm]
    ·have e:fstI lw (k:Int)=-1:=by rw [fstI,if_neg hm]
     rw [e]; simp [hm]
   have hg:fstI lw (k:Int) ≥ 0→0 ≤ gmax 0 (fstI lw (k:Int))∧gmax 0 (fstI lw (k:Int)) < (lw.length:Int):=fun hge=>by
    by_cases hm:((k:Nat):Int) ∈ lw
    ·have e:fstI lw (k:Int)=((fstN lw (k:Int):Nat):Int):=by rw [fstI,if_pos hm]
     have:=fstN_lt hm
     rw [e]; unfold gmax; split <;> omega
    ·rw [fstI,if_neg hm] at hge; omega
   simp only [Int.toNat_natCast,getD_nat hlt,hv,List.length_singleton]
   refine ⟨by omega,fun _=>by omega,fun _=>by omega,fun hd=>?_,fun hd=>?_,by omega,by rw [InK_i64]; omega,(l++[(unwP n lw c[i])[k]'(by simp [unwP]; omega)],(k:Int) + 1),?_,hq2 _ hlt2 ?_⟩
   ·exact (hg (by simpa using hd)).1
   ·have:=(hg (by simpa using hd)).2; omega
   ·and_intros <;> first | rfl | trivial | simp
   ·rw [take_succ_eq (by simp [unwP]; omega),hI]
  ·have:k=n:=by omega
   subst this
   have hl:l=unwP k lw c[i]:=by rw [hI]; exact List.take_of_length_le (by simp [unwP])
   refine ⟨by simp only [List.length_singleton]; omega,by rw [InK_i64]; omega,(xs++[l],(i:Int) + 1),?_,hq _ hlt ?_⟩
   ·and_intros <;> first | rfl | trivial | simp
   ·rw [take_succ_eq hlt,List.map_append,←hJ,hl]; rfl
 ·have:i=c.length:=by omega
  subst this
  rw [List.take_length] at hJ
  refine ⟨⟨?_,by omega,fun b hb=>?_⟩,?_,?_⟩
  ·intro e; rw [e] at hxl; simp at hxl; omega
  ·rw [hJ] at hb
   obtain ⟨s,_,rfl⟩:=List.mem_map.1 hb
   simp [unwP]; omega
  ·rw [hJ]
   have:(List.map (unwP n lw) c).getD 0 []=unwP n lw c[0]:=by rw [getD_nat (by simpa using hpos)]; simp
   rw [this]; simp [unwP]
  ·rw [hJ]
   and_intros <;> first | rfl | trivial | (simp [unwL]; done)
def al_ref01_Like:AL ((Int × List Int) × Int × List Int):=(.cons (.agg (.cons (.k (.i .i64)) (.one (.k (.list (.i .i64)))))) (.one (.agg (.cons (.k (.i .i64)) (.one (.k (.list (.i .i64))))))))
def pre_ref01_Like (d:(Int × List Int) × Int × List Int):Prop:=True
def res_ref01_Like (d:(Int × List Int) × Int × List Int):SV:=.val .bo (decide (d.1.1=d.2.1) && decide (d.1.2.length=d.2.2.length))
def obs_ref01_Like (d:(Int × List Int) × Int × List Int):List OB:=[]
def s_ref01_Like:CSp:=mkSp al_ref01_Like pre_ref01_Like res_ref01_Like obs_ref01_Like
def vc_ref01_Like (hd:Int) (rows:List Int) (hd1:Int) (rows1:List Int):Prop :=
 (((hd == hd1) && ((lI rows) == (lI rows1)))=(decide (hd=hd1) && decide (rows.length=rows1.length))∧(True))
def cx_ref01_Like:Cx:=⟨[],[],19,[],0,[],[],[],[],false,[],[],[]⟩
def lp_ref01_Like (hd:Int) (rows:List Int) (hd1:Int) (rows1:List Int):List (Nat × LoopAnn):=[]
set_option maxRecDepth 100000 in
theorem vq_ref01_Like (d:(Int × List Int) × Int × List Int):gwp (cx_ref01_Like) (lp_ref01_Like d.1.1 d.1.2 d.2.1 d.2.2) c74 0 (gend [.tmp 4] (res_ref01_Like d) (obs_ref01_Like d)) (gstart 19 (AL.can al_ref01_Like d))=vc_ref01_Like d.1.1 d.1.2 d.2.1 d.2.2:=by kernel_rfl
abbrev Ok_ref01_Like:Prop:=OkC Tryz.prog 74 s_ref01_Like
theorem mk_ref01_Like (h:∀ (hd:Int) (rows:List Int) (hd1:Int) (rows1:List Int),(True)→vc_ref01_Like hd rows hd1 rows1):OkC Tryz.prog 74 s_ref01_Like :=
 okC_vc fun74 mixed (C:=cx_ref01_Like) (V:=fun (d:(Int × List Int) × Int × List Int)=>vc_ref01_Like d.1.1 d.1.2 d.2.1 d.2.2) ⟨.nil,XsOk.nil,ItsOk.nil,YlOk.nil,IysOk.nil⟩ (vq_ref01_Like) fun d hp=>h d.1.1 d.1.2 d.2.1 d.2.2 hp
theorem ok_ref01_Like:Ok_ref01_Like:=mk_ref01_Like fun hd rows hd1 rows1 _=>by
 unfold vc_ref01_Like; (try delta lI gD sT I64); simp only [and_true]
 rw [Bool.eq_iff_iff]
 simp only [Bool.and_eq_true,beq_iff_eq,decide_eq_true_eq,Int.ofNat_inj]
def al_ref01_Same:AL ((Int × List Int) × Int × List Int):=(.cons (.agg (.cons (.k (.i .i64)) (.one (.k (.list (.i .i64)))))) (.one (.agg (.cons (.k (.i .i64)) (.one (.k (.list (.i .i64))))))))
def pre_ref01_Same (d:(Int × List Int) × Int × List Int):Prop:=d.1.2.length ≤ 1000000
def res_ref01_Same (d:(Int × List Int) × Int × List Int):SV:=.val .bo (decide (d.1.1=d.2.1) && (d.1.2 == d.2.2))
def obs_ref01_Same (d:(Int × List Int) × Int × List Int):List OB:=[]
def s_ref01_Same:CSp:=mkSp al_ref01_Same pre_ref01_Same res_ref01_Same obs_ref01_Same
def vc_ref01_Same (hd:Int) (rows:List Int) (hd1:Int) (rows1:List Int):Prop :=
 (True)∧((!(decide (hd=hd1) && decide (rows.length=rows1.length)))=true →
  (false=(decide (hd=hd1) && (rows == rows1))∧(True))) ∧
 ((!(decide (hd=hd1) && decide (rows.length=rows1.length)))=false →
  ∃ (e3:Unit) (d30:Int),((True∧True∧(0:Int)=d30∧True)∧((hd=hd∧rows=rows∧(([]:List SV)=[]))∧(hd1=hd1∧rows1=rows1∧(([]:List SV)=[]))∧True)) ∧
  LoopP (fun (d3:Int) (q3:(Int)→Prop) =>
   ((decide (d3 < (lI rows)))=true →
    (0 ≤ d3)∧(d3 < (List.length rows))∧(0 ≤ d3)∧(d3 < (List.length rows1))∧(((gD rows d3 0) != (gD rows1 d3 0))=true →
     (false=(decide (hd=hd1) && (rows == rows1))∧(True))) ∧
    (((gD rows d3 0) != (gD rows1 d3 0))=false →
     (I64 (d3 + (1:Int)))∧(∃ d4:Int,((True∧True∧(d3 + (1:Int))=d4∧True)∧((hd=hd∧rows=rows∧(([]:List SV)=[]))∧(hd1=hd1∧rows1=rows1∧(([]:List SV)=[]))∧True))∧q3 d4))) ∧
   ((decide (d3 < (lI rows)))=false →
    (true=(decide (hd=hd1) && (rows == rows1))∧(True)))) d30)
def cx_ref01_Same:Cx:=⟨[],[(74,s_ref01_Like)],28,[],0,[],[],[],[],false,[],[],[]⟩
def lp_ref01_Same (hd:Int) (rows:List Int) (hd1:Int) (rows1:List Int):List (Nat × LoopAnn):=[(0,⟨Unit,Int,[2,3,5],fun e x=>[.box 2 0,.box 3 0,.val (.i .i64) x],fun e x=>[(2,.slot 2,.cells [.val (.i .i64) hd,.val (.list (.i .i64)) rows] (some 36)),(3,.slot 3,.cells [.val (.i .i64) hd1,.val (.list (.i .i64)) rows1] (some 36))]⟩)]
set_option maxRecDepth 100000 in
theorem vq_ref01_Same (d:(Int × List Int) × Int × List Int):gwp (cx_ref01_Same) (lp_ref01_Same d.1.1 d.1.2 d.2.1 d.2.2) c23 0 (gend [.tmp 4] (res_ref01_Same d) (obs_ref01_Same d)) (gstart 28 (AL.can al_ref01_Same d))=vc_ref01_Same d.1.1 d.1.2 d.2.1 d.2.2:=by kernel_rfl
abbrev Ok_ref01_Same:Prop:=OkC Tryz.prog 23 s_ref01_Same
theorem mk_ref01_Same (h:∀ (hd:Int) (rows:List Int) (hd1:Int) (rows1:List Int),(rows.length ≤ 1000000)→vc_ref01_Same hd rows hd1 rows1):OkC Tryz.prog 23 s_ref01_Same :=
 okC_vc fun23 mixed (C:=cx_ref01_Same) (V:=fun (d:(Int × List Int) × Int × List Int)=>vc_ref01_Same d.1.1 d.1.2 d.2.1 d.2.2) ⟨(.cons ok_ref01_Like .nil),XsOk.nil,ItsOk.nil,YlOk.nil,IysOk.nil⟩ (vq_ref01_Same) fun d hp=>h d.1.1 d.1.2 d.2.1 d.2.2 hp
theorem ok_ref01_Same:Ok_ref01_Same:=mk_ref01_Same fun hd rows hd1 rows1 hl=>by
 unfold vc_ref01_Same; (try delta lI gD sT I64); simp only [true_and,and_true,exists_eq_left',exists_const,decide_eq_true_eq,decide_eq_false_iff_not,bne_iff_ne,ne_eq,bne_eq_false_iff_eq,Bool.not_eq_true',Bool.not_eq_false',Bool.and_eq_true,Bool.and_eq_false_iff]
 refine ⟨fun h=>?_,fun ⟨h0,h⟩=>?_⟩
 ·symm; simp only [Bool.and_eq_false_iff,decide_eq_false_iff_not,beq_eq_false_iff_ne]
  rcases h with h | h
  ·exact .inl h
  ·exact .inr (by rintro rfl; exact h rfl)
 subst h0
 refine LoopP.count rows.length (fun k=>rows.take k=rows1.take k) rfl fun k hk1 hJ q hq=>?_
 simp only [Int.toNat_natCast,Int.ofNat_lt,InK_i64]
 refine ⟨fun hlt=>?_,fun hge=>?_⟩
 ·have hlt:k < rows.length:=by omega
  rw [getD_nat hlt,getD_nat (by omega)]
  refine ⟨by omega,by omega,by omega,by omega,fun hx=>?_,fun hx=>⟨by omega,hq hlt ?_⟩⟩
  ·symm; simp only [decide_true,Bool.true_and,beq_eq_false_iff_ne]; rintro rfl; exact hx rfl
  ·rw [take_succ_eq hlt,take_succ_eq (by omega),hJ,hx]
 ·rw [List.take_of_length_le (by omega),List.take_of_length_le (by omega)] at hJ
  simp [hJ]
end Go.Proofs.Tryz
set_option linter.unusedVariables false
namespace Go.Proofs.Tryz
open Go Go.V Go.Proofs
def cx_strings_Builder_copyCheck:Cx:=⟨[],[],20,[],0,[(152,sameX)],[],[],[],false,[],[],[]⟩
def x_strings_Builder_copyCheck:XSp:=inlX cx_strings_Builder_copyCheck (fun _=>[]) c135 [] 20
theorem okx_strings_Builder_copyCheck:XOk Tryz.prog 135 x_strings_Builder_copyCheck:=inlX_ok fun135 mixed (C:=cx_strings_Builder_copyCheck) ⟨.nil,(XsOk.cons (sameX_ok same152) XsOk.nil),ItsOk.nil,YlOk.nil,IysOk.nil⟩ _
def cx_strings_Builder_WriteByte:Cx:=⟨[(5,(.i .u8))],[],17,[],0,[(135,x_strings_Builder_copyCheck)],[],[],[],false,[],[],[]⟩
def x_strings_Builder_WriteByte:XSp:=inlX cx_strings_Builder_WriteByte (fun _=>[]) c106 [.tmp 4] 17
theorem okx_strings_Builder_WriteByte:XOk Tryz.prog 106 x_strings_Builder_WriteByte:=inlX_ok fun106 mixed (C:=cx_strings_Builder_WriteByte) ⟨.nil,(XsOk.cons okx_strings_Builder_copyCheck XsOk.nil),ItsOk.nil,YlOk.nil,IysOk.nil⟩ _
def cx_strings_Builder_String:Cx:=⟨[],[],14,[],0,[],[],[],[],false,[],[],[]⟩
def x_strings_Builder_String:XSp:=inlX cx_strings_Builder_String (fun _=>[]) c109 [.tmp 2] 14
theorem okx_strings_Builder_String:XOk Tryz.prog 109 x_strings_Builder_String:=inlX_ok fun109 mixed (C:=cx_strings_Builder_String) ⟨.nil,XsOk.nil,ItsOk.nil,YlOk.nil,IysOk.nil⟩ _
end Go.Proofs.Tryz
set_option linter.unusedVariables false
namespace Go.Proofs.Tryz
open Go Go.V Go.Proofs
def rndB (p:List Bool) (w:Nat):Bool:=p.getD (w % p.length) false
def bgB (p:List Bool) (w:Nat):Bool:=rndB p w != rndB p (w + p.length - 1)
theorem rndB_mod (p:List Bool) (w:Nat):rndB p (w % p.length)=rndB p w:=by simp [rndB]
theorem not_all {p:List Bool} {f:Nat} (hf:f < p.length) (hb:bgB p f=true):∃ j,j < p.length∧rndB p j ≠ rndB p 0:=by
 by_cases h:rndB p f=rndB p 0
 ·refine ⟨(f + p.length - 1) % p.length,Nat.mod_lt _ (by omega),?_⟩
  rw [rndB_mod,←h]
  have:rndB p f ≠ rndB p (f + p.length - 1):=by simpa [bgB] using hb
  exact Ne.symm this
 ·exact ⟨f,hf,h⟩
end Go.Proofs.Tryz
set_option linter.unusedVariables false
namespace Go.Proofs.Tryz
open Go Go.V Go.Proofs
def wpN (c:List (List UInt8)):Nat:=(c.getD 0 []).length
def colS (c:List (List UInt8)) (w:Nat):List UInt8:=c.map fun s=>s.getD w 0
def newB (c:List (List UInt8)) (w:Nat):Bool:=(List.range w).all fun k=>colS c k != colS c w
def fewAN (c:List (List UInt8)) (n:Nat):List Nat:=(List.range n).filter (newB c)
def fewA (c:List (List UInt8)) (n:Nat):List Int:=(fewAN c n).map fun (w:Nat)=>(w:Int)
def mapFrom (c:List (List UInt8)):Nat→List Nat→List (List UInt8 × Int)
 | _,[]=>[]
 | i,k :: L=>(colS c k,(i:Int)) :: mapFrom c (i + 1) L
def fewK (c:List (List UInt8)) (n:Nat):List (List UInt8 × Int):=mapFrom c 0 (fewAN c n)
def hkOf (c:List (List UInt8)) (w:Nat):Nat:=(fewAN c (w + 1)).findIdx fun k=>colS c k == colS c w
def fewLN (c:List (List UInt8)) (n:Nat):List Int:=(List.range n).map fun w=>((hkOf c w:Nat):Int)
def fewL (c:List (List UInt8)):List Int:=fewLN c (wpN c)
def fewErr (c:List (List UInt8)):Int:=if clothErr c (wpN c) ≠ 0 then clothErr c (wpN c) else if 24 < (fewK c (wpN c)).length then 8 else 0
def likeB (c:List (List UInt8)) (a b:Nat):Bool:=c.all fun s=>s.getD a 0 == s.getD b 0
theorem agetS_cons (a:List UInt8) (b:Int) (m:List (List UInt8 × Int)) (e:List UInt8) (d:Int):gq.aget .st ((a,b) :: m) e d=if e=a then b else gq.aget .st m e d:=by
 show (if (e == a)=true then b else gq.aget .st m e d)=_
 simp only [beq_iff_eq]
theorem ahasS_cons (a:List UInt8) (b:Int) (m:List (List UInt8 × Int)) (e:List UInt8):gq.ahas .st ((a,b) :: m) e=((a == e) || gq.ahas .st m e):=by
 show ((e == a) || gq.ahas .st m e)=_
 rw [Bool.beq_comm]
theorem aputS_cons (a:List UInt8) (b:Int) (m:List (List UInt8 × Int)) (k:List UInt8) (v:Int):aput .st ((a,b) :: m) k v=if k=a then (k,v) :: m else (a,b) :: aput .st m k v:=by
 show (if (k == a)=true then (k,v) :: m else (a,b) :: aput .st m k v)=_
 simp only [beq_iff_eq]
theorem mapFrom_length (c:List (List UInt8)):∀ (L:List Nat) (i:Nat),(mapFrom c i L).length=L.length
 | [],_=>rfl
 | k :: L,i=>by simp only [mapFrom,List.length_cons,mapFrom_length c L]
theorem mapFrom_has (c:List (List UInt8)) (s:List UInt8):∀ (L:List Nat) (i:Nat),gq.ahas .st (mapFrom c i L) s=L.any fun k=>colS c k == s
 | [],_=>rfl
 | k :: L,i=>by rw [mapFrom,ahasS_cons,mapFrom_has c s L,List.any_cons]
theorem mapFrom_get (c:List (List UInt8)) (s:List UInt8):∀ (L:List Nat) (i:Nat),(L.any fun k=>colS c k == s)=true→gq.aget .st (mapFrom c i L) s 0=((i + L.findIdx fun k=>colS c k == s:Nat):Int)
 | [],_,h=>by cases h
 | k :: L,i,h=>by
  rw [mapFrom,agetS_cons,List.findIdx_cons]
  by_cases hk:s=colS c k
  ·rw [if_pos hk]; simp [hk]
  ·have hk2:(colS c k == s)=false:=by rw [beq_eq_false_iff_ne]; exact Ne.symm hk
   rw [List.any_cons,hk2,Bool.false_or] at h
   rw [if_neg hk,mapFrom_get c s L (i + 1) h,hk2,cond_false]
   omega
theorem mapFrom_put (c:List (List UInt8)) (k:Nat) (v:Int):∀ (L:List Nat) (i:Nat),(L.any fun j=>colS c j == colS c k)=false→v=((i + L.length:Nat):Int)→aput .st (mapFrom c i L) (colS c k) v=mapFrom c i (L++[k])
 | [],i,_,hv=>by subst hv; rfl
 | j :: L,i,h,hv=>by
  rw [List.any_cons,Bool.or_eq_false_iff,beq_eq_false_iff_ne] at h
  rw [mapFrom,aputS_cons,if_neg (Ne.symm h.1),mapFrom_put c k v L (i + 1) h.2 (by rw [hv,List.length_cons]; congr 1; omega)]
  rfl
theorem fewAN_succ (c:List (List UInt8)) (n:Nat):fewAN c (n + 1)=fewAN c n++(if newB c n then [n] else []):=by
 unfold fewAN
 rw [List.range_succ,List.filter_append]
 congr 1
 cases h:newB c n <;> simp [h]
theorem mem_fewAN {c:List (List UInt8)} {n k:Nat}:k ∈ fewAN c n ↔ k < n∧newB c k=true:=by
 simp [fewAN]
theorem newB_iff {c:List (List UInt8)} {w:Nat}:newB c w=true ↔ ∀ k,k < w→colS c k ≠ colS c w:=by
 simp [newB]
theorem first_in {c:List (List UInt8)} (w:Nat):∀ k,k ≤ w→colS c k=colS c w→∃ j,j ∈ fewAN c (k + 1)∧colS c j=colS c w:=by
 intro k
 induction k using Nat.strongRecOn with
 | ind k ih =>
  intro hk hc
  by_cases hn:newB c k=true
  ·exact ⟨k,mem_fewAN.2 ⟨by omega,hn⟩,hc⟩
  ·have:¬ ∀ j,j < k→colS c j ≠ colS c k:=fun h=>hn (newB_iff.2 h)
   have:∃ j,j < k∧colS c j=colS c k:=by
    apply Classical.byContradiction
    intro h2
    exact this fun j hj he=>h2 ⟨j,hj,he⟩
   obtain ⟨j,hj,he⟩:=this
   obtain ⟨i,hi,hie⟩:=ih j hj (by omega) (he.trans hc)
   exact ⟨i,mem_fewAN.2 ⟨by have:=(mem_fewAN.1 hi).1; omega,(mem_fewAN.1 hi).2⟩,hie⟩
theorem any_newB (c:List (List UInt8)) (w:Nat):((fewAN c w).any fun k=>colS c k == colS c w)=!newB c w:=by
 rw [Bool.eq_iff_iff,List.any_eq_true]
 constructor
 ·rintro ⟨k,hk,he⟩
  have h1:=mem_fewAN.1 hk
  rw [Bool.not_eq_true',Bool.eq_false_iff]
  intro hn
  exact newB_iff.1 hn k h1.1 (eq_of_beq he)
 ·intro hn
  rw [Bool.not_eq_true',Bool.eq_false_iff] at hn
  have:∃ j,j < w∧colS c j=colS c w:=by
   apply Classical.byContradiction
   intro h2
   exact hn (newB_iff.2 fun j hj he=>h2 ⟨j,hj,he⟩)
  obtain ⟨j,hj,he⟩:=this
  obtain ⟨i,hi,hie⟩:=first_in w j (by omega) he
  exact ⟨i,mem_fewAN.2 ⟨by have:=(mem_fewAN.1 hi).1; omega,(mem_fewAN.1 hi).2⟩,by rw [hie]; exact BEq.rfl⟩
theorem hkOf_new {c:List (List UInt8)} {w:Nat} (h:newB c w=true):hkOf c w=(fewAN c w).length:=by
 have ha:=any_newB c w
 rw [h,Bool.not_true] at ha
 unfold hkOf
 rw [fewAN_succ,h,if_pos rfl,List.findIdx_append]
 have:(fewAN c w).findIdx (fun k=>colS c k == colS c w)=(fewAN c w).length:=by
  rw [List.findIdx_eq_length]
  intro x hx
  exact List.any_eq_false.1 ha x hx |> Bool.eq_false_iff.2
 rw [this]
 simp [List.findIdx_cons]
theorem hkOf_old {c:List (List UInt8)} {w:Nat} (h:newB c w=false):hkOf c w=(fewAN c w).findIdx fun k=>colS c k == colS c w:=by
 unfold hkOf
 rw [fewAN_succ,h]; simp
theorem likeB_iff {c:List (List UInt8)} {a b:Nat}:likeB c a b=true ↔ colS c a=colS c b:=by
 simp only [likeB,colS,List.all_eq_true,beq_iff_eq,List.map_inj_left]
theorem fewLN_succ (c:List (List UInt8)) (n:Nat):fewLN c (n + 1)=fewLN c n++[((hkOf c n:Nat):Int)]:=by
 simp only [fewLN,List.range_succ,List.map_append,List.map_cons,List.map_nil]
theorem fewAN_len (c:List (List UInt8)) (n:Nat):(fewAN c n).length ≤ n:=by
 have:=List.length_filter_le (newB c) (List.range n)
 rwa [List.length_range] at this
theorem fewAN_pre (c:List (List UInt8)) (m:Nat):∀ k,∃ R,fewAN c (m + k)=fewAN c m++R
 | 0=>⟨[],by simp⟩
 | k + 1=>by
  obtain ⟨R,h⟩:=fewAN_pre c m k
  exact ⟨R++(if newB c (m + k) then [m + k] else []),by rw [←Nat.add_assoc,fewAN_succ,h,List.append_assoc]⟩
theorem hkOf_in (c:List (List UInt8)) (w:Nat):hkOf c w < (fewAN c (w + 1)).length:=by
 obtain ⟨j,hj,he⟩:=first_in (c:=c) w w (Nat.le_refl _) rfl
 exact List.findIdx_lt_length_of_exists ⟨j,hj,by rw [he]; exact BEq.rfl⟩
theorem hkOf_lt {c:List (List UInt8)} {w n:Nat} (h:w < n):hkOf c w < (fewAN c n).length∧colS c ((fewAN c n).getD (hkOf c w) 0)=colS c w:=by
 have h1:=hkOf_in c w
 obtain ⟨R,hR⟩:=fewAN_pre c (w + 1) (n - (w + 1))
 rw [show w + 1 + (n - (w + 1))=n by omega] at hR
 rw [hR,List.length_append]
 refine ⟨by omega,?_⟩
 rw [List.getD_eq_getElem?_getD,List.getElem?_append_left h1,←List.getD_eq_getElem?_getD,getD_nat h1]
 have:=List.findIdx_getElem (xs:=fewAN c (w + 1)) (p:=fun k=>colS c k == colS c w) (w:=h1)
 exact eq_of_beq this
theorem new_eq {c:List (List UInt8)} {a b:Nat} (ha:newB c a=true) (hb:newB c b=true) (h:colS c a=colS c b):a=b:=by
 rcases Nat.lt_trichotomy a b with h1 | h1 | h1
 ·exact (newB_iff.1 hb a h1 h).elim
 ·exact h1
 ·exact (newB_iff.1 ha b h1 h.symm).elim
theorem fewAN_inj {c:List (List UInt8)} {n i j:Nat} (hi:i < (fewAN c n).length) (hj:j < (fewAN c n).length) (h:(fewAN c n)[i]=(fewAN c n)[j]):i=j:=by
 have hp:(fewAN c n).Pairwise (· < ·):=List.Pairwise.filter _ List.pairwise_lt_range
 rcases Nat.lt_trichotomy i j with h1 | h1 | h1
 ·have:=List.pairwise_iff_getElem.1 hp i j hi hj h1; omega
 ·exact h1
 ·have:=List.pairwise_iff_getElem.1 hp j i hj hi h1; omega
theorem like_idx {c:List (List UInt8)} {w n k:Nat} (h:w < n) (hk:k < (fewAN c n).length):likeB c ((fewAN c n).getD k 0) w=decide (k=hkOf c w):=by
 obtain ⟨h1,h2⟩:=hkOf_lt (c:=c) h
 rw [Bool.eq_iff_iff,likeB_iff,decide_eq_true_eq]
 constructor
 ·intro h3
  rw [getD_nat hk] at h3
  rw [getD_nat h1] at h2
  have e:=new_eq (mem_fewAN.1 (List.getElem_mem hk)).2 (mem_fewAN.1 (List.getElem_mem h1)).2 (h3.trans h2.symm)
  exact fewAN_inj hk h1 e
 ·rintro rfl; exact h2
theorem fewA_succ (c:List (List UInt8)) (n:Nat):fewA c (n + 1)=fewA c n++(if newB c n then [(n:Int)] else []):=by
 unfold fewA
 rw [fewAN_succ,List.map_append]
 congr 1
 split <;> rfl
theorem few_zero {c:List (List UInt8)} (h:fewErr c=0):clothErr c (wpN c)=0∧(fewAN c (wpN c)).length ≤ 24:=by
 unfold fewErr at h
 split at h
 ·rename_i h1; exact absurd h h1
 ·rename_i h1
  split at h
  ·cases h
  ·rename_i h2
   rw [fewK,mapFrom_length] at h2
   exact ⟨by simpa using h1,by omega⟩
theorem sorted_ext:∀ {a b:List Int},a.Pairwise (· < ·)→b.Pairwise (· < ·)→(∀ x,x ∈ a ↔ x ∈ b)→a=b
 | [],[],_,_,_=>rfl
 | [],y :: b,_,_,h=>by have:=(h y).2 (List.mem_cons_self ..); cases this
 | x :: a,[],_,_,h=>by have:=(h x).1 (List.mem_cons_self ..); cases this
 | x :: a,y :: b,ha,hb,h=>by
  obtain ⟨ha1,ha2⟩:=List.pairwise_cons.1 ha
  obtain ⟨hb1,hb2⟩:=List.pairwise_cons.1 hb
  have hxy:x=y:=by
   rcases List.mem_cons.1 ((h x).1 (List.mem_cons_self ..)) with e | e
   ·exact e
   ·rcases List.mem_cons.1 ((h y).2 (List.mem_cons_self ..)) with e2 | e2
    ·exact e2.symm
    ·have h1:=hb1 x e; have h2:=ha1 y e2; omega
  subst hxy
  rw [sorted_ext ha2 hb2 fun z=>?_]
  constructor
  ·intro hz
   rcases List.mem_cons.1 ((h z).1 (List.mem_cons_of_mem _ hz)) with e | e
   ·have:=ha1 z hz; omega
   ·exact e
  ·intro hz
   rcases List.mem_cons.1 ((h z).2 (List.mem_cons_of_mem _ hz)) with e | e
   ·have:=hb1 z hz; omega
   ·exact e
theorem mergeSort_eq {a b:List Int} (ha:a.Pairwise (· ≠ ·)) (hb:b.Pairwise (· < ·)) (h:∀ x,x ∈ a ↔ x ∈ b):a.mergeSort (fun x y=>decide (x ≤ y))=b:=by
 have hp:=List.mergeSort_perm a (fun x y=>decide (x ≤ y))
 have hs:(a.mergeSort (fun x y=>decide (x ≤ y))).Pairwise (fun x y=>decide (x ≤ y)=true):=List.pairwise_mergeSort (fun x y z h1 h2=>by simp at *; omega) (fun x y=>by simp; omega) a
 have hn:(a.mergeSort (fun x y=>decide (x ≤ y))).Pairwise (· ≠ ·):=(hp.pairwise_iff (fun {x y} h=>Ne.symm h)).2 ha
 refine sorted_ext ((hs.and hn).imp fun {x y} h=>?_) hb fun x=>by rw [hp.mem_iff,h]
 have h1:x ≤ y:=by simpa using h.1
 have h2:=h.2
 omega
theorem fewA_sorted (c:List (List UInt8)) (n:Nat):(fewA c n).Pairwise (· < ·):=by
 have hp:(fewAN c n).Pairwise (· < ·):=List.Pairwise.filter _ List.pairwise_lt_range
 exact List.pairwise_map.2 (hp.imp fun h=>by omega)
theorem aput_mem:∀ {m:List (Int × Int)} {k v:Int} {p:Int × Int},(m.map (·.1)).Pairwise (· ≠ ·)→(p ∈ aput (.i .i64) m k v ↔ p=(k,v) ∨ (p ∈ m∧p.1 ≠ k))
 | [],k,v,p,_=>by
  have:aput (.i .i64) [] k v=[(k,v)]:=rfl
  rw [this]; simp
 | (a,b) :: m,k,v,p,h=>by
  obtain ⟨h1,h2⟩:=List.pairwise_cons.1 h
  rw [aputI_cons]
  by_cases hk:k=a
  ·subst hk
   rw [if_pos rfl]
   constructor
   ·intro hp
    rcases List.mem_cons.1 hp with e | e
    ·exact .inl e
    ·exact .inr ⟨List.mem_cons_of_mem _ e,Ne.symm (h1 p.1 (List.mem_map_of_mem e))⟩
   ·rintro (e | ⟨e,hne⟩)
    ·rw [e]; exact List.mem_cons_self ..
    ·rcases List.mem_cons.1 e with e | e
     ·rw [e] at hne; exact (hne rfl).elim
     ·exact List.mem_cons_of_mem _ e
  ·rw [if_neg hk,List.mem_cons,aput_mem h2,List.mem_cons]
   constructor
   ·rintro (e | e | ⟨e,hne⟩)
    ·exact .inr ⟨.inl e,by rw [e]; exact Ne.symm hk⟩
    ·exact .inl e
    ·exact .inr ⟨.inr e,hne⟩
   ·rintro (e | ⟨e | e,hne⟩)
    ·exact .inr (.inl e)
    ·exact .inl e
    ·exact .inr (.inr ⟨e,hne⟩)
theorem aput_keys:∀ {m:List (Int × Int)} {k v:Int},(m.map (·.1)).Pairwise (· ≠ ·)→((aput (.i .i64) m k v).map (·.1)).Pairwise (· ≠ ·)
 | [],k,v,_=>by
  have:aput (.i .i64) [] k v=[(k,v)]:=rfl
  rw [this]; simp
 | (a,b) :: m,k,v,h=>by
  obtain ⟨h1,h2⟩:=List.pairwise_cons.1 h
  rw [aputI_cons]
  by_cases hk:k=a
  ·subst hk; rw [if_pos rfl]; exact List.pairwise_cons.2 ⟨h1,h2⟩
  ·rw [if_neg hk]
   refine List.pairwise_cons.2 ⟨fun x hx=>?_,aput_keys h2⟩
   obtain ⟨p,hp,rfl⟩:=List.mem_map.1 hx
   rcases (aput_mem h2).1 hp with e | ⟨e,_⟩
   ·rw [e]; exact Ne.symm hk
   ·exact h1 _ (List.mem_map_of_mem e)
theorem fstMk_mem (lw:List Int):∀ j,j ≤ lw.length→((fstMk lw j).map (·.1)).Pairwise (· ≠ ·)∧∀ p:Int × Int,p ∈ fstMk lw j ↔ ∃ w:Nat,lw.length - j ≤ w∧w < lw.length∧lw.getD w 0=p.1∧p.2=w∧∀ i,lw.length - j ≤ i→i < w→lw.getD i 0 ≠ p.1
 | 0,_=>⟨List.Pairwise.nil,fun p=>⟨(fun h=>by cases h),fun ⟨w,h1,h2,_⟩=>by omega⟩⟩
 | j + 1,hj=>by
  obtain ⟨h1,h2⟩:=fstMk_mem lw j (by omega)
  refine ⟨aput_keys h1,fun p=>?_⟩
  show p ∈ aput (.i .i64) (fstMk lw j) (lw.getD (lw.length - 1 - j) 0) ((lw.length:Int) - 1 - j) ↔ _
  rw [aput_mem h1,h2]
  constructor
  ·rintro (e | ⟨⟨w,a1,a2,a3,a4,a5⟩,hne⟩)
   ·refine ⟨lw.length - 1 - j,by omega,by omega,by rw [e],by rw [e]; dsimp only; omega,fun i b1 b2=>by omega⟩
   ·refine ⟨w,by omega,a2,a3,a4,fun i b1 b2=>?_⟩
    rcases Nat.lt_or_ge i (lw.length - j) with h | h
    ·have:i=lw.length - 1 - j:=by omega
     rw [this]; exact Ne.symm hne
    ·exact a5 i h b2
  ·rintro ⟨w,a1,a2,a3,a4,a5⟩
   rcases Nat.lt_or_ge w (lw.length - j) with h | h
   ·have e:w=lw.length - 1 - j:=by omega
    subst e
    exact .inl (Prod.ext a3.symm (by rw [a4]; dsimp only; omega))
   ·refine .inr ⟨⟨w,h,a2,a3,a4,fun i b1 b2=>a5 i (by omega) b2⟩,fun e=>?_⟩
    exact a5 (lw.length - 1 - j) (by omega) (by omega) e.symm
theorem fstM_mem {lw:List Int} {p:Int × Int}:p ∈ fstM lw ↔ ∃ w:Nat,w < lw.length∧lw.getD w 0=p.1∧p.2=w∧∀ i,i < w→lw.getD i 0 ≠ p.1:=by
 have:=(fstMk_mem lw lw.length (Nat.le_refl _)).2 p
 rw [Nat.sub_self] at this
 rw [fstM,this]
 constructor
 ·rintro ⟨w,_,a2,a3,a4,a5⟩; exact ⟨w,a2,a3,a4,fun i hi=>a5 i (by omega) hi⟩
 ·rintro ⟨w,a2,a3,a4,a5⟩; exact ⟨w,by omega,a2,a3,a4,fun i _ hi=>a5 i hi⟩
theorem fstM_vals (lw:List Int):((fstM lw).map (·.2)).Pairwise (· ≠ ·):=by
 have hk:=(fstMk_mem lw lw.length (Nat.le_refl _)).1
 rw [List.pairwise_map] at hk ⊢
 refine List.Pairwise.imp_of_mem (fun {p q} hp hq h he=>?_) hk
 obtain ⟨w,a2,a3,a4,_⟩:=fstM_mem.1 (show p ∈ fstM lw from hp)
 obtain ⟨v,b2,b3,b4,_⟩:=fstM_mem.1 (show q ∈ fstM lw from hq)
 have:w=v:=by omega
 subst this
 exact h (a3.symm.trans b3)
theorem hkOf_eq {c:List (List UInt8)} {n i w:Nat} (hi:i < n) (hw:w < n):hkOf c i=hkOf c w ↔ colS c i=colS c w:=by
 obtain ⟨a1,a2⟩:=hkOf_lt (c:=c) hi
 obtain ⟨b1,b2⟩:=hkOf_lt (c:=c) hw
 constructor
 ·intro h; rw [←a2,h,b2]
 ·intro h
  have:=like_idx (c:=c) hw a1
  rw [likeB_iff.2 (a2.trans h)] at this
  exact of_decide_eq_true this.symm
theorem fewLN_getD {c:List (List UInt8)} {n w:Nat} (h:w < n):(fewLN c n).getD w 0=((hkOf c w:Nat):Int):=by
 rw [getD_nat (by simpa [fewLN] using h)]; simp [fewLN]
theorem few_vals {c:List (List UInt8)} {n:Nat} (v:Int):v ∈ (fstM (fewLN c n)).map (·.2) ↔ v ∈ fewA c n:=by
 have hl:(fewLN c n).length=n:=by simp [fewLN]
 simp only [List.mem_map,fewA]
 constructor
 ·rintro ⟨p,hp,rfl⟩
  obtain ⟨w,a2,a3,a4,a5⟩:=fstM_mem.1 hp
  rw [hl] at a2
  refine ⟨w,mem_fewAN.2 ⟨a2,newB_iff.2 fun k hk he=>?_⟩,a4.symm⟩
  have:=a5 k hk
  rw [←a3,fewLN_getD (by omega),fewLN_getD a2] at this
  exact this (by rw [(hkOf_eq (show k < n by omega) a2).2 he])
 ·rintro ⟨w,hw,rfl⟩
  obtain ⟨h1,h2⟩:=mem_fewAN.1 hw
  refine ⟨(((hkOf c w:Nat):Int),(w:Int)),fstM_mem.2 ⟨w,by omega,fewLN_getD h1,rfl,fun i hi he=>?_⟩,rfl⟩
  rw [fewLN_getD (by omega)] at he
  have he:hkOf c i=hkOf c w:=by dsimp only at he; omega
  exact newB_iff.1 h2 i hi ((hkOf_eq (show i < n by omega) h1).1 he)
theorem apart_sort {c:List (List UInt8)} {n:Nat} {vis:List Nat} (h1:vis.Pairwise (· ≠ ·)) (h2:∀ r ∈ vis,r < (fstM (fewLN c n)).length) (h3:∀ r,r < (fstM (fewLN c n)).length→r ∈ vis) :
  (vis.map fun r=>((fstM (fewLN c n)).getD r (0,0)).2).mergeSort (fun x y=>decide (x ≤ y))=fewA c n:=by
 have hv:=fstM_vals (fewLN c n)
 refine mergeSort_eq ?_ (fewA_sorted c n) fun v=>?_
 ·rw [List.pairwise_map]
  refine List.Pairwise.imp_of_mem (fun {a b} ha hb hne he=>?_) h1
  have ha:=h2 a ha
  have hb:=h2 b hb
  rw [getD_nat ha,getD_nat hb] at he
  rw [List.pairwise_map] at hv
  rcases Nat.lt_trichotomy a b with h | h | h
  ·exact List.pairwise_iff_getElem.1 hv a b ha hb h he
  ·exact hne h
  ·exact List.pairwise_iff_getElem.1 hv b a hb ha h he.symm
 ·rw [←few_vals]
  simp only [List.mem_map]
  constructor
  ·rintro ⟨r,hr,rfl⟩
   have hr:=h2 r hr
   exact ⟨_,by rw [getD_nat hr]; exact List.getElem_mem hr,rfl⟩
  ·rintro ⟨p,hp,rfl⟩
   obtain ⟨r,hr,rfl⟩:=List.getElem_of_mem hp
   exact ⟨r,h3 r hr,by rw [getD_nat hr]⟩
def al_ref03_Like:AL (List (List UInt8) × Int × Int):=(.cons (.k (.list .st)) (.cons (.k (.i .i64)) (.one (.k (.i .i64)))))
def pre_ref03_Like (d:List (List UInt8) × Int × Int):Prop:=d.1.length ≤ 1000∧0 ≤ d.2.1∧0 ≤ d.2.2∧∀ s ∈ d.1,d.2.1 < s.length∧d.2.2 < s.length
def res_ref03_Like (d:List (List UInt8) × Int × Int):SV:=.val .bo (likeB d.1 d.2.1.toNat d.2.2.toNat)
def obs_ref03_Like (d:List (List UInt8) × Int × Int):List OB:=[]
def s_ref03_Like:CSp:=mkSp al_ref03_Like pre_ref03_Like res_ref03_Like obs_ref03_Like
def vc_ref03_Like (c:List (List UInt8)) (a:Int) (b:Int):Prop :=
 ∃ (e2:Unit) (d20:Int),((c=c∧a=a∧b=b∧(0:Int)=d20∧True)∧(True)) ∧
 LoopP (fun (d2:Int) (q2:(Int)→Prop) =>
  ((decide (d2 < (lI c)))=true →
   (0 ≤ d2)∧(d2 < (List.length c))∧(0 ≤ a)∧(a < (List.length (gD c d2 [])))∧(0 ≤ d2)∧(d2 < (List.length c))∧(0 ≤ b)∧(b < (List.length (gD c d2 [])))∧((((UInt8.toNat (gD (gD c d2 []) a 0):Nat):Int) != ((UInt8.toNat (gD (gD c d2 []) b 0):Nat):Int))=true →
    (false=(likeB c a.toNat b.toNat)∧(True))) ∧
   ((((UInt8.toNat (gD (gD c d2 []) a 0):Nat):Int) != ((UInt8.toNat (gD (gD c d2 []) b 0):Nat):Int))=false →
    (I64 (d2 + (1:Int)))∧(∃ d3:Int,((c=c∧a=a∧b=b∧(d2 + (1:Int))=d3∧True)∧(True))∧q2 d3))) ∧
  ((decide (d2 < (lI c)))=false →
   (true=(likeB c a.toNat b.toNat)∧(True)))) d20
def cx_ref03_Like:Cx:=⟨[],[],27,[],0,[],[],[],[],false,[],[],[]⟩
def lp_ref03_Like (c:List (List UInt8)) (a:Int) (b:Int):List (Nat × LoopAnn):=[(0,⟨Unit,Int,[0,1,2,7],fun e x=>[.val (.list .st) c,.val (.i .i64) a,.val (.i .i64) b,.val (.i .i64) x],fun e x=>[]⟩)]
set_option maxRecDepth 100000 in
theorem vq_ref03_Like (d:List (List UInt8) × Int × Int):gwp (cx_ref03_Like) (lp_ref03_Like d.1 d.2.1 d.2.2) c87 0 (gend [.tmp 6] (res_ref03_Like d) (obs_ref03_Like d)) (gstart 27 (AL.can al_ref03_Like d))=vc_ref03_Like d.1 d.2.1 d.2.2:=by kernel_rfl
abbrev Ok_ref03_Like:Prop:=OkC Tryz.prog 87 s_ref03_Like
theorem mk_ref03_Like (h:∀ (c:List (List UInt8)) (a:Int) (b:Int),(c.length ≤ 1000∧0 ≤ a∧0 ≤ b∧∀ s ∈ c,a < s.length∧b < s.length)→vc_ref03_Like c a b):OkC Tryz.prog 87 s_ref03_Like :=
 okC_vc fun87 mixed (C:=cx_ref03_Like) (V:=fun (d:List (List UInt8) × Int × Int)=>vc_ref03_Like d.1 d.2.1 d.2.2) ⟨.nil,XsOk.nil,ItsOk.nil,YlOk.nil,IysOk.nil⟩ (vq_ref03_Like) fun d hp=>h d.1 d.2.1 d.2.2 hp
theorem ok_ref03_Like:Ok_ref03_Like:=mk_ref03_Like fun c a b h=>by
 obtain ⟨h1,h2,h3,h4⟩:=h
 obtain ⟨a,rfl⟩:=Int.eq_ofNat_of_zero_le h2
 obtain ⟨b,rfl⟩:=Int.eq_ofNat_of_zero_le h3
 unfold vc_ref03_Like; (try delta lI gD sT I64)
 (try simp only [decide_eq_true_eq,decide_eq_false_iff_not])
 refine ⟨(),0,(by and_intros <;> first | rfl | trivial | simp),?_⟩
 refine LoopP.count c.length (fun k=>∀ i,i < k→(c.getD i []).getD a 0=(c.getD i []).getD b 0) (fun i hi=>by omega) fun k hk hJ q hq=>?_
 simp only [Int.toNat_natCast,InK_i64]
 refine ⟨fun hlt=>?_,fun hge=>?_⟩
 ·have hkc:k < c.length:=by omega
  have hs:=h4 _ (List.getElem_mem hkc)
  rw [getD_nat hkc]
  have he:∀ x y:UInt8,((((x.toNat:Nat):Int) != ((y.toNat:Nat):Int))=(x != y)):=fun x y=>by
   by_cases h:x=y
   ·simp [h]
   ·have h1:x.toNat ≠ y.toNat:=fun h2=>h (UInt8.toNat_inj.1 h2)
    have h2:((x.toNat:Nat):Int) ≠ ((y.toNat:Nat):Int):=by omega
    rw [bne_iff_ne.2 h2,bne_iff_ne.2 h]
  simp only [he]
  refine ⟨by omega,by omega,by omega,by omega,by omega,by omega,by omega,by omega,fun hx=>?_,fun hx=>⟨by omega,_,(by and_intros <;> first | rfl | trivial | simp),hq hkc fun i hi=>?_⟩⟩
  ·refine ⟨Eq.symm ?_,trivial⟩
   rw [Bool.eq_false_iff]
   intro hl
   have:=List.all_eq_true.1 hl _ (List.getElem_mem hkc)
   rw [beq_iff_eq] at this
   rw [this] at hx
   simp at hx
  ·rcases Nat.lt_succ_iff_lt_or_eq.1 hi with hi | rfl
   ·exact hJ i hi
   ·rw [getD_nat hkc]; simpa using hx
 ·have hk:k=c.length:=by omega
  subst hk
  refine ⟨Eq.symm ?_,trivial⟩
  rw [likeB,List.all_eq_true]
  intro s hs
  obtain ⟨i,hi,rfl⟩:=List.getElem_of_mem hs
  have:=hJ i hi
  rw [getD_nat hi] at this
  rw [this]; exact BEq.rfl
def al_tie_column:AL (List (List UInt8) × Int):=(.cons (.k (.list .st)) (.one (.k (.i .i64))))
def pre_tie_column (d:List (List UInt8) × Int):Prop:=d.1.length ≤ 1000∧0 ≤ d.2∧∀ s ∈ d.1,d.2 < s.length
def res_tie_column (d:List (List UInt8) × Int):SV:=.val .st (colS d.1 d.2.toNat)
def obs_tie_column (d:List (List UInt8) × Int):List OB:=[]
def s_tie_column:CSp:=mkSp al_tie_column pre_tie_column res_tie_column obs_tie_column
def vc_tie_column (c:List (List UInt8)) (w:Int):Prop :=
 ∃ (e3:Unit) (d30:Bool × (List Int) × Int),((w=w∧True∧c=c∧(lI c)=(lI c)∧(0:Int)=d30.2.2∧True)∧((d30.1=false∧True∧(([]:List SV)=[]))∧(d30.2.1=[]∧(List.isEmpty d30.2.1)=true)∧True)) ∧
 LoopP (fun (d3:Bool × (List Int) × Int) (q3:(Bool × (List Int) × Int)→Prop) =>
  ((decide (d3.2.2 < (lI c)))=true →
   (0 ≤ d3.2.2)∧(d3.2.2 < (List.length c))∧(0 ≤ w)∧(w < (List.length (gD c d3.2.2 [])))∧∀ w4:List Value,∀ w5:List Value,((!d3.1)=true →
    w5=w5∧(((List.length d3.2.1) + (List.length [((UInt8.toNat (gD (gD c d3.2.2 []) w 0):Nat):Int)])) * 1 ≤ 70368744177664)∧w4=w4∧(I64 (d3.2.2 + (1:Int)))∧(∃ d6:Bool × (List Int) × Int,((w=w∧True∧c=c∧(lI c)=(lI c)∧(d3.2.2 + (1:Int))=d6.2.2∧True)∧((d6.1=true∧True∧(([]:List SV)=[]))∧((d3.2.1++[((UInt8.toNat (gD (gD c d3.2.2 []) w 0):Nat):Int)])=d6.2.1∧false=(List.isEmpty d6.2.1))∧True))∧q3 d6)) ∧
   ((!d3.1)=false →
    (d3.1=true)∧((!true)=true →
     False) ∧
    ((!true)=false →
     w5=w5∧(((List.length d3.2.1) + (List.length [((UInt8.toNat (gD (gD c d3.2.2 []) w 0):Nat):Int)])) * 1 ≤ 70368744177664)∧w4=w4∧(I64 (d3.2.2 + (1:Int)))∧(∃ d7:Bool × (List Int) × Int,((w=w∧True∧c=c∧(lI c)=(lI c)∧(d3.2.2 + (1:Int))=d7.2.2∧True)∧((d3.1=d7.1∧True∧(([]:List SV)=[]))∧((d3.2.1++[((UInt8.toNat (gD (gD c d3.2.2 []) w 0):Nat):Int)])=d7.2.1∧false=(List.isEmpty d7.2.1))∧True))∧q3 d7)))) ∧
  ((decide (d3.2.2 < (lI c)))=false →
   ∀ w8:List Value,((List.isEmpty d3.2.1)=false→d3.2.1 ≠ [])∧((lI d3.2.1)=(List.length d3.2.1))∧((List.length d3.2.1) ≤ 4611686018427387904)∧w8=w8∧((bytesI d3.2.1)=(colS c w.toNat)∧(True)))) d30
def cx_tie_column:Cx:=⟨[(5,(.i .u8))],[],20,[],0,[(106,x_strings_Builder_WriteByte),(135,x_strings_Builder_copyCheck),(152,sameX),(109,x_strings_Builder_String)],[],[],[],false,[],[],[]⟩
def lp_tie_column (c:List (List UInt8)) (w:Int):List (Nat × LoopAnn):=[(0,⟨Unit,Bool × (List Int) × Int,[1,5,8,9,10],fun e x=>[.val (.i .i64) w,.box 5 0,.val (.list .st) c,.val (.i .i64) (((List.length c):Nat):Int),.val (.i .i64) x.2.2],fun e x=>[(5,.slot 5,.cells [.dd 5 (.obx x.1),.lst 1800014] (some 175)),(1800014,.cell 5 1,.lst 5 (.i .u8) x.2.1 (List.isEmpty x.2.1))]⟩)]
set_option maxRecDepth 100000 in
theorem vq_tie_column (d:List (List UInt8) × Int):gwp (cx_tie_column) (lp_tie_column d.1 d.2) c114 0 (gend [.tmp 4] (res_tie_column d) (obs_tie_column d)) (gstart 20 (AL.can al_tie_column d))=vc_tie_column d.1 d.2:=by kernel_rfl
abbrev Ok_tie_column:Prop:=OkC Tryz.prog 114 s_tie_column
theorem mk_tie_column (h:∀ (c:List (List UInt8)) (w:Int),(c.length ≤ 1000∧0 ≤ w∧∀ s ∈ c,w < s.length)→vc_tie_column c w):OkC Tryz.prog 114 s_tie_column :=
 okC_vc fun114 mixed (C:=cx_tie_column) (V:=fun (d:List (List UInt8) × Int)=>vc_tie_column d.1 d.2) ⟨.nil,(XsOk.cons okx_strings_Builder_WriteByte (XsOk.cons okx_strings_Builder_copyCheck (XsOk.cons (sameX_ok same152) (XsOk.cons okx_strings_Builder_String XsOk.nil)))),ItsOk.nil,YlOk.nil,IysOk.nil⟩ (vq_tie_column) fun d hp=>h d.1 d.2 hp
theorem bytes_col (c:List (List UInt8)) (w:Nat):bytesI (c.map fun s=>(((s.getD w 0).toNat:Nat):Int))=colS c w:=by
 simp only [bytesI,colS,List.map_map]
 refine List.map_congr_left fun s _=>?_
 simp [Function.comp]
theorem ok_tie_column:Ok_tie_column:=mk_tie_column fun c w h=>by
 obtain ⟨h1,h2,h3⟩:=h
 obtain ⟨w,rfl⟩:=Int.eq_ofNat_of_zero_le h2
 unfold vc_tie_column; (try delta lI gD sT I64); simp only [true_and,and_true,exists_const,decide_eq_true_eq,decide_eq_false_iff_not,ne_eq,Bool.not_eq_true',Bool.not_eq_false',Int.toNat_natCast,Int.ofNat_lt,InK_i64]
 refine ⟨(false,[],0),⟨rfl,rfl,rfl,rfl⟩,?_⟩
 refine ⟨fun d=>∃ i:Nat,i ≤ c.length∧d.2.2=i∧d.2.1=(c.take i).map fun s=>(((s.getD w 0).toNat:Nat):Int),fun d=>c.length - d.2.2.toNat,⟨0,Nat.zero_le _,rfl,by simp⟩,?_⟩
 rintro ⟨b,xs,_⟩ ⟨i,hi,rfl,hxs⟩
 dsimp only at hxs ⊢
 have hxl:xs.length=i:=by rw [hxs]; simp; omega
 refine ⟨fun hlt=>?_,fun hge=>?_⟩
 ·have hlt:i < c.length:=by omega
  have hs:=h3 _ (List.getElem_mem hlt)
  have hn:xs++[(((c[i].getD w 0).toNat:Nat):Int)]=(c.take (i + 1)).map fun s=>(((s.getD w 0).toNat:Nat):Int):=by rw [hxs,take_succ_eq hlt,List.map_append]; rfl
  simp only [Int.toNat_natCast,getD_nat hlt,List.length_singleton]
  refine ⟨by omega,by omega,by omega,by omega,fun _ w5=>⟨fun hc=>?_,fun hc=>?_⟩⟩
  ·exact ⟨by omega,by omega,(true,xs++[(((c[i].getD w 0).toNat:Nat):Int)],(i:Int) + 1),⟨rfl,rfl,rfl,by simp⟩,⟨i + 1,by omega,by simp,hn⟩,by dsimp only; omega⟩
  ·refine ⟨by simpa using hc,?_⟩
   refine ⟨fun h=>by simp at h,fun _=>?_⟩
   exact ⟨by omega,by omega,(b,xs++[(((c[i].getD w 0).toNat:Nat):Int)],(i:Int) + 1),⟨rfl,rfl,rfl,by simp⟩,⟨i + 1,by omega,by simp,hn⟩,by dsimp only; omega⟩
 ·have:i=c.length:=by omega
  subst this
  rw [List.take_length] at hxs
  refine fun _=>⟨?_,by omega,?_⟩
  ·intro hne h0; rw [h0] at hne; simp at hne
  ·rw [hxs]; exact bytes_col c w
def al_tie_fewest:AL (List (List UInt8)):=(.one (.k (.list .st)))
def pre_tie_fewest (d:List (List UInt8)):Prop:=d.length ≤ 1000∧∀ s ∈ d,s.length ≤ 1000
def res_tie_fewest (d:List (List UInt8)):SV:=.tup [.agg [.val (.i .i64) (if fewErr d=0 then ((fewK d (wpN d)).length:Int) else 0),.lst 0],.val (.i .i64) (fewErr d)]
def obs_tie_fewest (d:List (List UInt8)):List OB:=[.lst 3 (.i .i64) (if fewErr d=0 then fewL d else []) ((if fewErr d=0 then fewL d else []).isEmpty)]
def s_tie_fewest:CSp:=mkSp al_tie_fewest pre_tie_fewest res_tie_fewest obs_tie_fewest
def vc_tie_fewest (c:List (List UInt8)):Prop :=
 ∃ (e3:Unit),CutP (fun (q3:(Int)→Prop) =>
 ((decide ((lI c) > (0:Int)))=true →
  (0 ≤ (0:Int))∧((0:Int) < (List.length c))∧(∃ d4:Int,((c=c∧True∧(lI (gD c (0:Int) []))=d4∧True)∧(((0:Int)=(0:Int)∧True∧(([]:List SV)=[]))∧True))∧q3 d4)) ∧
 ((decide ((lI c) > (0:Int)))=false →
  (∃ d5:Int,((c=c∧True∧(0:Int)=d5∧True)∧(((0:Int)=(0:Int)∧True∧(([]:List SV)=[]))∧True))∧q3 d5)))
 (fun (d3:Int) =>
  (c.length ≤ 1000000∧∀ s ∈ c,s.length ≤ 1000000)∧(((clothErr c d3) != (0:Int))=true →
   ((((0:Int)=(if fewErr c=0 then ((fewK c (wpN c)).length:Int) else 0)∧True∧(([]:List SV)=[]))∧(clothErr c d3)=(fewErr c)∧(([]:List SV)=[]))∧(((if fewErr c=0 then fewL c else [])=[]∧(if fewErr c=0 then fewL c else []).isEmpty=true)∧True))) ∧
  (((clothErr c d3) != (0:Int))=false →
   ∃ (e9:Int) (d90:(List Int) × (List (List UInt8 × Int)) × Int),((c=c∧True∧True∧d3=e9∧(0:Int)=d90.2.2∧True)∧(((0:Int)=(0:Int)∧True∧(([]:List SV)=[]))∧(d90.1=[]∧(List.isEmpty d90.1)=true)∧(([]:List (List UInt8 × Int))=d90.2.1)∧True)) ∧
   LoopP (fun (d9:(List Int) × (List (List UInt8 × Int)) × Int) (q9:((List Int) × (List (List UInt8 × Int)) × Int)→Prop) =>
    ((decide (d9.2.2 < e9))=true →
     (c.length ≤ 1000∧0 ≤ d9.2.2∧∀ s ∈ c,d9.2.2 < s.length)∧((!(gq.ahas .st d9.2.1 (colS c d9.2.2.toNat)))=true →
      (((List.length d9.1) + (List.length [(lI d9.2.1)])) * 8 ≤ 70368744177664)∧(I64 (d9.2.2 + (1:Int)))∧(∃ d10:(List Int) × (List (List UInt8 × Int)) × Int,((c=c∧True∧True∧e9=e9∧(d9.2.2 + (1:Int))=d10.2.2∧True)∧(((0:Int)=(0:Int)∧True∧(([]:List SV)=[]))∧((d9.1++[(lI d9.2.1)])=d10.1∧false=(List.isEmpty d10.1))∧((aput .st d9.2.1 (colS c d9.2.2.toNat) (lI d9.2.1))=d10.2.1)∧True))∧q9 d10)) ∧
     ((!(gq.ahas .st d9.2.1 (colS c d9.2.2.toNat)))=false →
      (((List.length d9.1) + (List.length [(gq.aget .st d9.2.1 (colS c d9.2.2.toNat) 0)])) * 8 ≤ 70368744177664)∧(I64 (d9.2.2 + (1:Int)))∧(∃ d11:(List Int) × (List (List UInt8 × Int)) × Int,((c=c∧True∧True∧e9=e9∧(d9.2.2 + (1:Int))=d11.2.2∧True)∧(((0:Int)=(0:Int)∧True∧(([]:List SV)=[]))∧((d9.1++[(gq.aget .st d9.2.1 (colS c d9.2.2.toNat) 0)])=d11.1∧false=(List.isEmpty d11.1))∧(d9.2.1=d11.2.1)∧True))∧q9 d11))) ∧
    ((decide (d9.2.2 < e9))=false →
     ((decide ((lI d9.2.1) > (24:Int)))=true →
      ((((0:Int)=(if fewErr c=0 then ((fewK c (wpN c)).length:Int) else 0)∧True∧(([]:List SV)=[]))∧(8:Int)=(fewErr c)∧(([]:List SV)=[]))∧(((if fewErr c=0 then fewL c else [])=[]∧(if fewErr c=0 then fewL c else []).isEmpty=true)∧True))) ∧
     ((decide ((lI d9.2.1) > (24:Int)))=false →
      ((((lI d9.2.1)=(if fewErr c=0 then ((fewK c (wpN c)).length:Int) else 0)∧True∧(([]:List SV)=[]))∧(0:Int)=(fewErr c)∧(([]:List SV)=[]))∧((d9.1=(if fewErr c=0 then fewL c else [])∧(List.isEmpty d9.1)=(if fewErr c=0 then fewL c else []).isEmpty)∧True))))) d90))
def cx_tie_fewest:Cx:=⟨[(3,(.i .i64)),(1000025,(.pair .st (.i .i64)))],[(112,s_tie_checkCloth),(114,s_tie_column)],61,[],0,[],[],[],[],false,[],[],[]⟩
def lp_tie_fewest (c:List (List UInt8)):List (Nat × LoopAnn):=[(0,⟨Int,(List Int) × (List (List UInt8 × Int)) × Int,[0,2,6,26,27],fun e x=>[.val (.list .st) c,.box 2 0,.map 25,.val (.i .i64) e,.val (.i .i64) x.2.2],fun e x=>[(2,.slot 2,.cells [.val (.i .i64) (0:Int),.lst 50] (some 26)),(50,.cell 2 1,.lst 3 (.i .i64) x.1 (List.isEmpty x.1)),(25,.slot 6,.map .st (.i .i64) x.2.1)]⟩),
 (3000013,⟨Unit,Int,[0,2,4],fun e x=>[.val (.list .st) c,.box 2 0,.val (.i .i64) x],fun e x=>[(2,.slot 2,.cells [.val (.i .i64) (0:Int),.nilS] (some 26))]⟩)]
set_option maxRecDepth 100000 in
theorem vq_tie_fewest (d:List (List UInt8)):gwp (cx_tie_fewest) (lp_tie_fewest d) c84 0 (gend [.cell 2 true 2,.tmp 3] (res_tie_fewest d) (obs_tie_fewest d)) (gstart 61 (AL.can al_tie_fewest d))=vc_tie_fewest d:=by kernel_rfl
abbrev Ok_tie_fewest:Prop:=OkC Tryz.prog 84 s_tie_fewest
theorem mk_tie_fewest (h:∀ (c:List (List UInt8)),(c.length ≤ 1000∧∀ s ∈ c,s.length ≤ 1000)→vc_tie_fewest c):OkC Tryz.prog 84 s_tie_fewest :=
 okC_vc fun84 mixed (C:=cx_tie_fewest) (V:=fun (d:List (List UInt8))=>vc_tie_fewest d) ⟨(.cons ok_tie_checkCloth (.cons ok_tie_column .nil)),XsOk.nil,ItsOk.nil,YlOk.nil,IysOk.nil⟩ (vq_tie_fewest) fun d hp=>h d hp
theorem ok_tie_fewest:Ok_tie_fewest:=mk_tie_fewest fun c h=>by
 obtain ⟨h1,h2⟩:=h
 unfold vc_tie_fewest; (try delta lI gD sT I64)
 (try simp only [decide_eq_true_eq,decide_eq_false_iff_not])
 refine ⟨(),fun d=>d=(wpN c:Int),⟨fun hl=>⟨by omega,by omega,_,(by and_intros <;> first | rfl | trivial | simp),rfl⟩,fun hl=>⟨_,(by and_intros <;> first | rfl | trivial | simp),?_⟩⟩,fun d hd=>?_⟩
 ·have:c=[]:=List.length_eq_zero_iff.1 (by omega)
  subst this; rfl
 subst hd
 refine ⟨⟨by omega,fun s hs=>by have:=h2 s hs; omega⟩,fun he=>?_,fun he=>?_⟩
 ·have he:clothErr c (wpN c) ≠ 0:=by simpa using he
  have e:fewErr c=clothErr c (wpN c):=by simp [fewErr,he]
  rw [e,if_neg he,if_neg he]; exact (by and_intros <;> first | rfl | trivial | simp)
 have he:clothErr c (wpN c)=0:=by simpa using he
 obtain ⟨c1,c2,c3,c4,c5⟩:=clothErr_zero he
 have hE:fewErr c=if 24 < (fewK c (wpN c)).length then 8 else 0:=by simp [fewErr,he]
 have hlen:∀ n,(fewK c n).length=(fewAN c n).length:=fun n=>mapFrom_length _ _ _
 have hle:=fewAN_len c
 refine ⟨(wpN c:Int),([],[],0),(by and_intros <;> first | rfl | trivial | simp),?_⟩
 refine ⟨fun d=>∃ n:Nat,n ≤ wpN c∧d=(fewLN c n,fewK c n,(n:Int)),fun d=>wpN c - d.2.2.toNat,⟨0,by omega,rfl⟩,?_⟩
 rintro _ ⟨n,hn,rfl⟩
 dsimp only
 have hll:(fewLN c n).length=n:=by simp [fewLN]
 have hkn:=hlen n
 have hkl:=hle n
 simp only [Int.toNat_natCast,InK_i64,List.length_singleton]
 refine ⟨fun hlt=>⟨⟨h1,by omega,fun s hs=>by have:=(c5 s hs).1; omega⟩,fun hx=>?_,fun hx=>?_⟩,fun hge=>⟨fun hg=>?_,fun hg=>?_⟩⟩
 ·have hnew:newB c n=true:=by
   have:gq.ahas .st (fewK c n) (colS c n)=false:=by simpa using hx
   rw [fewK,mapFrom_has,any_newB] at this
   simpa using this
  have hput:aput .st (fewK c n) (colS c n) ((fewK c n).length:Int)=fewK c (n + 1):=by
   unfold fewK
   rw [mapFrom_put c n _ _ 0 (by rw [any_newB,hnew]; rfl) (by rw [mapFrom_length]; congr 1; omega),fewAN_succ,hnew,if_pos rfl]
  have hl2:fewLN c (n + 1)=fewLN c n++[((fewK c n).length:Int)]:=by rw [fewLN_succ,hkOf_new hnew,hkn]
  rw [hput,←hl2]
  refine ⟨by omega,by omega,(fewLN c (n + 1),fewK c (n + 1),(n:Int) + 1),?_,⟨n + 1,by omega,rfl⟩,by dsimp only; omega⟩
  rw [hl2]; and_intros <;> first | rfl | trivial | simp
 ·have hhas:gq.ahas .st (fewK c n) (colS c n)=true:=by simpa using hx
  rw [fewK,mapFrom_has] at hhas
  have hnew:newB c n=false:=by
   rw [any_newB] at hhas
   simpa using hhas
  have hget:gq.aget .st (fewK c n) (colS c n) 0=((hkOf c n:Nat):Int):=by
   rw [fewK,mapFrom_get _ _ _ _ hhas,hkOf_old hnew,Nat.zero_add]
  have hk2:fewK c (n + 1)=fewK c n:=by unfold fewK; rw [fewAN_succ,hnew]; simp
  have hl2:fewLN c (n + 1)=fewLN c n++[((hkOf c n:Nat):Int)]:=fewLN_succ c n
  rw [hget,←hl2]
  refine ⟨by omega,by omega,(fewLN c (n + 1),fewK c n,(n:Int) + 1),?_,⟨n + 1,by omega,by rw [hk2]; rfl⟩,by dsimp only; omega⟩
  rw [hl2]; and_intros <;> first | rfl | trivial | simp
 ·have:n=wpN c:=by omega
  subst this
  have e:fewErr c=8:=by rw [hE,if_pos (by omega)]
  rw [e]; exact (by and_intros <;> first | rfl | trivial | simp)
 ·have:n=wpN c:=by omega
  subst this
  have e:fewErr c=0:=by rw [hE,if_neg (by omega)]
  rw [e]; exact (by and_intros <;> first | rfl | trivial | simp)
end Go.Proofs.Tryz
set_option linter.unusedVariables false
namespace Go.Proofs.Tryz
open Go Go.V Go.Proofs
def al_tie_Fewest:AL (List (List UInt8)):=(.one (.k (.list .st)))
def pre_tie_Fewest (d:List (List UInt8)):Prop:=d.length ≤ 1000∧∀ s ∈ d,s.length ≤ 1000
def res_tie_Fewest (d:List (List UInt8)):SV:=.tup [.agg [.val (.i .i64) (if fewErr d=0 then ((fewK d (wpN d)).length:Int) else 0),.lst 0],.agg [.val (.i .i64) (if fewErr d=0 then ((fewK d (wpN d)).length:Int) else 0),.lst 1],.val (.i .i64) (fewErr d)]
def obs_tie_Fewest (d:List (List UInt8)):List OB:=[.lst 3 (.i .i64) (if fewErr d=0 then fewL d else []) ((if fewErr d=0 then fewL d else []).isEmpty),.lst 3 (.i .i64) (if fewErr d=0 then rowsX (fewL d) d else []) ((if fewErr d=0 then rowsX (fewL d) d else []).isEmpty)]
def s_tie_Fewest:CSp:=mkSp al_tie_Fewest pre_tie_Fewest res_tie_Fewest obs_tie_Fewest
def vc_tie_Fewest (c:List (List UInt8)):Prop :=
 (c.length ≤ 1000∧∀ s ∈ c,s.length ≤ 1000)∧(((fewErr c) != (0:Int))=true →
  ((((if fewErr c=0 then ((fewK c (wpN c)).length:Int) else 0)=(if fewErr c=0 then ((fewK c (wpN c)).length:Int) else 0)∧True∧(([]:List SV)=[]))∧((0:Int)=(if fewErr c=0 then ((fewK c (wpN c)).length:Int) else 0)∧True∧(([]:List SV)=[]))∧(fewErr c)=(fewErr c)∧(([]:List SV)=[]))∧(((if fewErr c=0 then fewL c else [])=(if fewErr c=0 then fewL c else [])∧(if fewErr c=0 then fewL c else []).isEmpty=(if fewErr c=0 then fewL c else []).isEmpty)∧((if fewErr c=0 then rowsX (fewL c) c else [])=[]∧(if fewErr c=0 then rowsX (fewL c) c else []).isEmpty=true)∧True))) ∧
 (((fewErr c) != (0:Int))=false →
  ((if fewErr c=0 then fewL c else []).length ≤ 1000∧c.length ≤ 1000∧(∀ s ∈ c,s.length=(if fewErr c=0 then fewL c else []).length)∧∀ x ∈ (if fewErr c=0 then fewL c else []),0 ≤ x∧x < 24)∧((rowsX (if fewErr c=0 then fewL c else []) c).isEmpty=true→(rowsX (if fewErr c=0 then fewL c else []) c)=[])∧((((if fewErr c=0 then ((fewK c (wpN c)).length:Int) else 0)=(if fewErr c=0 then ((fewK c (wpN c)).length:Int) else 0)∧True∧(([]:List SV)=[]))∧((if fewErr c=0 then ((fewK c (wpN c)).length:Int) else 0)=(if fewErr c=0 then ((fewK c (wpN c)).length:Int) else 0)∧True∧(([]:List SV)=[]))∧(0:Int)=(fewErr c)∧(([]:List SV)=[]))∧(((if fewErr c=0 then fewL c else [])=(if fewErr c=0 then fewL c else [])∧(if fewErr c=0 then fewL c else []).isEmpty=(if fewErr c=0 then fewL c else []).isEmpty)∧((rowsX (if fewErr c=0 then fewL c else []) c)=(if fewErr c=0 then rowsX (fewL c) c else [])∧(rowsX (if fewErr c=0 then fewL c else []) c).isEmpty=(if fewErr c=0 then rowsX (fewL c) c else []).isEmpty)∧True)))
def cx_tie_Fewest:Cx:=⟨[],[(84,s_tie_fewest),(81,s_tie_harness_design)],20,[],0,[],[],[],[],false,[],[],[]⟩
def lp_tie_Fewest (c:List (List UInt8)):List (Nat × LoopAnn):=[]
set_option maxRecDepth 100000 in
theorem vq_tie_Fewest (d:List (List UInt8)):gwp (cx_tie_Fewest) (lp_tie_Fewest d) c38 0 (gend [.cell 2 true 2,.cell 3 true 2,.tmp 4] (res_tie_Fewest d) (obs_tie_Fewest d)) (gstart 20 (AL.can al_tie_Fewest d))=vc_tie_Fewest d:=by kernel_rfl
abbrev Ok_tie_Fewest:Prop:=OkC Tryz.prog 38 s_tie_Fewest
theorem mk_tie_Fewest (h:∀ (c:List (List UInt8)),(c.length ≤ 1000∧∀ s ∈ c,s.length ≤ 1000)→vc_tie_Fewest c):OkC Tryz.prog 38 s_tie_Fewest :=
 okC_vc fun38 mixed (C:=cx_tie_Fewest) (V:=fun (d:List (List UInt8))=>vc_tie_Fewest d) ⟨(.cons ok_tie_fewest (.cons ok_tie_harness_design .nil)),XsOk.nil,ItsOk.nil,YlOk.nil,IysOk.nil⟩ (vq_tie_Fewest) fun d hp=>h d hp
theorem ok_tie_Fewest:Ok_tie_Fewest:=mk_tie_Fewest fun c h=>by
 obtain ⟨h1,h2⟩:=h
 unfold vc_tie_Fewest; (try delta lI gD sT I64)
 (try simp only [])
 refine ⟨⟨h1,h2⟩,fun he=>?_,fun he=>?_⟩
 ·have he:fewErr c ≠ 0:=by simpa using he
  simp [he]
 ·have he:fewErr c=0:=by simpa using he
  obtain ⟨z1,z2⟩:=few_zero he
  obtain ⟨c1,c2,c3,c4,c5⟩:=clothErr_zero z1
  have hl:(fewL c).length=wpN c:=by simp [fewL,fewLN]
  simp only [he,if_true]
  refine ⟨⟨by omega,h1,fun s hs=>by have:=(c5 s hs).1; omega,fun x hx=>?_⟩,fun h=>List.isEmpty_iff.1 h,?_⟩
  ·simp only [fewL,fewLN,List.mem_map,List.mem_range] at hx
   obtain ⟨w,hw,rfl⟩:=hx
   have:=(hkOf_lt (c:=c) hw).1
   omega
  ·exact (by and_intros <;> first | rfl | trivial | simp)
def al_ref03_Apart:AL (List (List UInt8)):=(.one (.k (.list .st)))
def pre_ref03_Apart (d:List (List UInt8)):Prop:=d ≠ []∧d.length ≤ 1000∧∀ s ∈ d,s.length=wpN d∧s.length ≤ 1000
def res_ref03_Apart (d:List (List UInt8)):SV:=.lst 0
def obs_ref03_Apart (d:List (List UInt8)):List OB:=[.lst 3 (.i .i64) (fewA d (wpN d)) false]
def s_ref03_Apart:CSp:=mkSp al_ref03_Apart pre_ref03_Apart res_ref03_Apart obs_ref03_Apart
def vc_ref03_Apart (c:List (List UInt8)):Prop :=
 ∃ (e2:Unit) (d20:(List Int) × Int),((c=c∧True∧(0:Int)=d20.2∧True)∧((([]:List Int)=d20.1∧false=false)∧True)) ∧
 LoopP (fun (d2:(List Int) × Int) (q2:((List Int) × Int)→Prop) =>
  (0 ≤ (0:Int))∧((0:Int) < (List.length c))∧((decide (d2.2 < (lI (gD c (0:Int) []))))=true →
   ∃ (e5:(List Int) × Int) (d50:Bool × Int),((c=c∧True∧d2.2=e5.2∧true=d50.1∧(0:Int)=d50.2∧True)∧((d2.1=e5.1∧false=false)∧True)) ∧
   LoopP (fun (d5:Bool × Int) (q5:(Bool × Int)→Prop) =>
    ((decide (d5.2 < e5.2))=true →
     (d5.1=true→c.length ≤ 1000∧0 ≤ d5.2∧0 ≤ e5.2∧∀ s ∈ c,d5.2 < s.length∧e5.2 < s.length)∧(I64 (d5.2 + (1:Int)))∧(∃ d6:Bool × Int,((c=c∧True∧e5.2=e5.2∧(d5.1 && (!(likeB c d5.2.toNat e5.2.toNat)))=d6.1∧(d5.2 + (1:Int))=d6.2∧True)∧((e5.1=e5.1∧false=false)∧True))∧q5 d6)) ∧
    ((decide (d5.2 < e5.2))=false →
     (d5.1=true →
      (((List.length e5.1) + (List.length [e5.2])) * 8 ≤ 70368744177664)∧(I64 (e5.2 + (1:Int)))∧(∃ d7:(List Int) × Int,((c=c∧True∧(e5.2 + (1:Int))=d7.2∧True)∧(((e5.1++[e5.2])=d7.1∧false=false)∧True))∧q2 d7)) ∧
     (d5.1=false →
      (I64 (e5.2 + (1:Int)))∧(∃ d8:(List Int) × Int,((c=c∧True∧(e5.2 + (1:Int))=d8.2∧True)∧((e5.1=d8.1∧false=false)∧True))∧q2 d8)))) d50) ∧
  ((decide (d2.2 < (lI (gD c (0:Int) []))))=false →
   (True∧((d2.1=(fewA c (wpN c))∧false=false)∧True)))) d20
def cx_ref03_Apart:Cx:=⟨[(3,(.i .i64))],[(87,s_ref03_Like)],35,[],0,[],[],[],[],false,[],[],[]⟩
def lp_ref03_Apart (c:List (List UInt8)):List (Nat × LoopAnn):=[(0,⟨Unit,(List Int) × Int,[0,3,4],fun e x=>[.val (.list .st) c,.lst 7,.val (.i .i64) x.2],fun e x=>[(7,.slot 3,.lst 3 (.i .i64) x.1 false)]⟩),
 (2,⟨(List Int) × Int,Bool × Int,[0,3,4,5,6],fun e x=>[.val (.list .st) c,.lst 7,.val (.i .i64) e.2,.val .bo x.1,.val (.i .i64) x.2],fun e x=>[(7,.slot 3,.lst 3 (.i .i64) e.1 false)]⟩)]
set_option maxRecDepth 100000 in
theorem vq_ref03_Apart (d:List (List UInt8)):gwp (cx_ref03_Apart) (lp_ref03_Apart d) c40 0 (gend [.tmp 2] (res_ref03_Apart d) (obs_ref03_Apart d)) (gstart 35 (AL.can al_ref03_Apart d))=vc_ref03_Apart d:=by kernel_rfl
abbrev Ok_ref03_Apart:Prop:=OkC Tryz.prog 40 s_ref03_Apart
theorem mk_ref03_Apart (h:∀ (c:List (List UInt8)),(c ≠ []∧c.length ≤ 1000∧∀ s ∈ c,s.length=wpN c∧s.length ≤ 1000)→vc_ref03_Apart c):OkC Tryz.prog 40 s_ref03_Apart :=
 okC_vc fun40 mixed (C:=cx_ref03_Apart) (V:=fun (d:List (List UInt8))=>vc_ref03_Apart d) ⟨(.cons ok_ref03_Like .nil),XsOk.nil,ItsOk.nil,YlOk.nil,IysOk.nil⟩ (vq_ref03_Apart) fun d hp=>h d hp
theorem ok_ref03_Apart:Ok_ref03_Apart:=mk_ref03_Apart fun c h=>by
 obtain ⟨h1,h2,h3⟩:=h
 unfold vc_ref03_Apart; (try delta lI gD sT I64)
 (try simp only [decide_eq_true_eq,decide_eq_false_iff_not])
 have hc:0 < c.length:=List.length_pos_iff.2 h1
 have hw:(c.getD 0 []).length=wpN c:=rfl
 have hwl:wpN c ≤ 1000:=by have:=h3 _ (List.getElem_mem hc); omega
 refine ⟨(),([],0),(by and_intros <;> first | rfl | trivial | simp),?_⟩
 refine LoopP.count2 (wpN c) (fun n xs=>xs=fewA c n) (by simp [fewA,fewAN]) fun n xs hn hJ q hq=>?_
 have hxl:xs.length ≤ n:=by rw [hJ]; have:=fewAN_len c n; simpa [fewA] using this
 dsimp only
 have hz:(Int.toNat 0)=0:=rfl
 simp only [InK_i64,hz,hw]
 refine ⟨by omega,by omega,fun hlt=>⟨(xs,(n:Int)),(true,0),(by and_intros <;> first | rfl | trivial | simp),?_⟩,fun hge=>?_⟩
 ·have hlt:n < wpN c:=by omega
  dsimp only
  refine LoopP.count2 n (fun k b=>b=(List.range k).all fun j=>colS c j != colS c n) rfl fun k b hk hI q2 hq2=>?_
  dsimp only
  simp only [Int.toNat_natCast,List.length_singleton]
  refine ⟨fun hlt2=>⟨fun _=>⟨h2,by omega,by omega,fun s hs=>by have:=(h3 s hs).1; omega⟩,by omega,(_,_),(by and_intros <;> first | rfl | trivial | simp),hq2 _ (by omega) ?_⟩,fun hge=>?_⟩
  ·have e:(!likeB c k n)=(colS c k != colS c n):=by
    rw [Bool.eq_iff_iff,Bool.not_eq_true',Bool.eq_false_iff,Ne,likeB_iff,bne_iff_ne]
   rw [List.range_succ,List.all_append,←hI,e]
   cases b <;> simp
  ·have:k=n:=by omega
   subst this
   have hb:b=newB c k:=hI
   refine ⟨fun ht=>⟨by omega,by omega,(_,_),(by and_intros <;> first | rfl | trivial | simp),hq _ hlt ?_⟩,fun hf=>⟨by omega,(_,_),(by and_intros <;> first | rfl | trivial | simp),hq _ hlt ?_⟩⟩
   ·rw [fewA_succ,←hb,ht,hJ]; rfl
   ·rw [fewA_succ,←hb,hf,hJ]; simp
 ·have:n=wpN c:=by omega
  subst this
  rw [hJ]; exact (by and_intros <;> first | rfl | trivial | simp)
def al_ref03_Fewest:AL (List (List UInt8)):=(.one (.k (.list .st)))
def pre_ref03_Fewest (d:List (List UInt8)):Prop:=d ≠ []∧d.length ≤ 1000∧∀ s ∈ d,s.length=wpN d∧s.length ≤ 1000
def res_ref03_Fewest (d:List (List UInt8)):SV:=.agg [.val (.i .i64) ((fewA d (wpN d)).length:Int),.lst 0]
def obs_ref03_Fewest (d:List (List UInt8)):List OB:=[.lst 3 (.i .i64) (fewL d) ((fewL d).isEmpty)]
def s_ref03_Fewest:CSp:=mkSp al_ref03_Fewest pre_ref03_Fewest res_ref03_Fewest obs_ref03_Fewest
def vc_ref03_Fewest (c:List (List UInt8)):Prop :=
 (c ≠ []∧c.length ≤ 1000∧∀ s ∈ c,s.length=wpN c∧s.length ≤ 1000)∧∃ (e4:Unit) (d40:(List Int) × Int),((c=c∧True∧True∧True∧(0:Int)=d40.2∧True)∧(((0:Int)=(0:Int)∧True∧(([]:List SV)=[]))∧((fewA c (wpN c))=(fewA c (wpN c))∧false=false)∧((lI (fewA c (wpN c)))=(lI (fewA c (wpN c)))∧True∧(([]:List SV)=[]))∧(d40.1=[]∧(List.isEmpty d40.1)=true)∧True)) ∧
 LoopP (fun (d4:(List Int) × Int) (q4:((List Int) × Int)→Prop) =>
  (0 ≤ (0:Int))∧((0:Int) < (List.length c))∧((decide (d4.2 < (lI (gD c (0:Int) []))))=true →
   ∃ (e7:Int) (d70:(List Int) × Int),((c=c∧True∧True∧True∧d4.2=e7∧(0:Int)=d70.2∧True)∧(((0:Int)=(0:Int)∧True∧(([]:List SV)=[]))∧((fewA c (wpN c))=(fewA c (wpN c))∧false=false)∧((lI (fewA c (wpN c)))=(lI (fewA c (wpN c)))∧True∧(([]:List SV)=[]))∧(d4.1=d70.1∧(List.isEmpty d4.1)=(List.isEmpty d70.1))∧True)) ∧
   LoopP (fun (d7:(List Int) × Int) (q7:((List Int) × Int)→Prop) =>
    ((decide (d7.2 < (lI (fewA c (wpN c)))))=true →
     (0 ≤ d7.2)∧(d7.2 < (List.length (fewA c (wpN c))))∧(c.length ≤ 1000∧0 ≤ (gD (fewA c (wpN c)) d7.2 0)∧0 ≤ e7∧∀ s ∈ c,(gD (fewA c (wpN c)) d7.2 0) < s.length∧e7 < s.length)∧((likeB c (gD (fewA c (wpN c)) d7.2 0).toNat e7.toNat)=true →
      (((List.length d7.1) + (List.length [d7.2])) * 8 ≤ 70368744177664)∧(I64 (d7.2 + (1:Int)))∧(∃ d8:(List Int) × Int,((c=c∧True∧True∧True∧e7=e7∧(d7.2 + (1:Int))=d8.2∧True)∧(((0:Int)=(0:Int)∧True∧(([]:List SV)=[]))∧((fewA c (wpN c))=(fewA c (wpN c))∧false=false)∧((lI (fewA c (wpN c)))=(lI (fewA c (wpN c)))∧True∧(([]:List SV)=[]))∧((d7.1++[d7.2])=d8.1∧false=(List.isEmpty d8.1))∧True))∧q7 d8)) ∧
     ((likeB c (gD (fewA c (wpN c)) d7.2 0).toNat e7.toNat)=false →
      (I64 (d7.2 + (1:Int)))∧(∃ d9:(List Int) × Int,((c=c∧True∧True∧True∧e7=e7∧(d7.2 + (1:Int))=d9.2∧True)∧(((0:Int)=(0:Int)∧True∧(([]:List SV)=[]))∧((fewA c (wpN c))=(fewA c (wpN c))∧false=false)∧((lI (fewA c (wpN c)))=(lI (fewA c (wpN c)))∧True∧(([]:List SV)=[]))∧(d7.1=d9.1∧(List.isEmpty d7.1)=(List.isEmpty d9.1))∧True))∧q7 d9))) ∧
    ((decide (d7.2 < (lI (fewA c (wpN c)))))=false →
     (I64 (e7 + (1:Int)))∧(∃ d10:(List Int) × Int,((c=c∧True∧True∧True∧(e7 + (1:Int))=d10.2∧True)∧(((0:Int)=(0:Int)∧True∧(([]:List SV)=[]))∧((fewA c (wpN c))=(fewA c (wpN c))∧false=false)∧((lI (fewA c (wpN c)))=(lI (fewA c (wpN c)))∧True∧(([]:List SV)=[]))∧(d7.1=d10.1∧(List.isEmpty d7.1)=(List.isEmpty d10.1))∧True))∧q4 d10))) d70) ∧
  ((decide (d4.2 < (lI (gD c (0:Int) []))))=false →
   (((lI (fewA c (wpN c)))=((fewA c (wpN c)).length:Int)∧True∧(([]:List SV)=[]))∧((d4.1=(fewL c)∧(List.isEmpty d4.1)=(fewL c).isEmpty)∧True)))) d40
def cx_ref03_Fewest:Cx:=⟨[(3,(.i .i64))],[(40,s_ref03_Apart),(87,s_ref03_Like)],41,[],0,[],[],[],[],false,[],[],[]⟩
def lp_ref03_Fewest (c:List (List UInt8)):List (Nat × LoopAnn):=[(0,⟨Unit,(List Int) × Int,[0,2,3,4,5],fun e x=>[.val (.list .st) c,.box 2 0,.lst 8,.box 4 0,.val (.i .i64) x.2],fun e x=>[(2,.slot 2,.cells [.val (.i .i64) (0:Int),.nilS] (some 26)),(8,.slot 3,.lst 3 (.i .i64) (fewA c (wpN c)) false),(4,.slot 4,.cells [.val (.i .i64) (((List.length (fewA c (wpN c))):Nat):Int),.lst 38] (some 26)),(38,.cell 4 1,.lst 3 (.i .i64) x.1 (List.isEmpty x.1))]⟩),
 (2,⟨Int,(List Int) × Int,[0,2,3,4,5,6],fun e x=>[.val (.list .st) c,.box 2 0,.lst 8,.box 4 0,.val (.i .i64) e,.val (.i .i64) x.2],fun e x=>[(2,.slot 2,.cells [.val (.i .i64) (0:Int),.nilS] (some 26)),(8,.slot 3,.lst 3 (.i .i64) (fewA c (wpN c)) false),(4,.slot 4,.cells [.val (.i .i64) (((List.length (fewA c (wpN c))):Nat):Int),.lst 38] (some 26)),(38,.cell 4 1,.lst 3 (.i .i64) x.1 (List.isEmpty x.1))]⟩)]
set_option maxRecDepth 100000 in
theorem vq_ref03_Fewest (d:List (List UInt8)):gwp (cx_ref03_Fewest) (lp_ref03_Fewest d) c42 0 (gend [.cell 2 true 2] (res_ref03_Fewest d) (obs_ref03_Fewest d)) (gstart 41 (AL.can al_ref03_Fewest d))=vc_ref03_Fewest d:=by kernel_rfl
abbrev Ok_ref03_Fewest:Prop:=OkC Tryz.prog 42 s_ref03_Fewest
theorem mk_ref03_Fewest (h:∀ (c:List (List UInt8)),(c ≠ []∧c.length ≤ 1000∧∀ s ∈ c,s.length=wpN c∧s.length ≤ 1000)→vc_ref03_Fewest c):OkC Tryz.prog 42 s_ref03_Fewest :=
 okC_vc fun42 mixed (C:=cx_ref03_Fewest) (V:=fun (d:List (List UInt8))=>vc_ref03_Fewest d) ⟨(.cons ok_ref03_Apart (.cons ok_ref03_Like .nil)),XsOk.nil,ItsOk.nil,YlOk.nil,IysOk.nil⟩ (vq_ref03_Fewest) fun d hp=>h d hp
theorem ok_ref03_Fewest:Ok_ref03_Fewest:=mk_ref03_Fewest fun c h=>by
 obtain ⟨h1,h2,h3⟩:=h
 unfold vc_ref03_Fewest; (try delta lI gD sT I64)
 have hc:0 < c.length:=List.length_pos_iff.2 h1
 have hw:(c.getD 0 []).length=wpN c:=rfl
 have hwl:wpN c ≤ 1000:=by have:=h3 _ (List.getElem_mem hc); omega
 have hal:(fewA c (wpN c)).length=(fewAN c (wpN c)).length:=by simp [fewA]
 have hag:∀ k,k < (fewAN c (wpN c)).length→(fewA c (wpN c)).getD k 0=(((fewAN c (wpN c)).getD k 0:Nat):Int):=fun k hk=>by
  rw [getD_nat (by omega),getD_nat hk]; simp [fewA]
 have ham:∀ k,k < (fewAN c (wpN c)).length→(fewAN c (wpN c)).getD k 0 < wpN c:=fun k hk=>by
  rw [getD_nat hk]; exact (mem_fewAN.1 (List.getElem_mem hk)).1
 have hlen:=fewAN_len c (wpN c)
 simp only [hal]
 refine ⟨⟨h1,h2,h3⟩,(),([],0),(by and_intros <;> first | rfl | trivial | simp),?_⟩
 refine LoopP.count2 (wpN c) (fun n xs=>xs=fewLN c n) (by simp [fewLN]) fun n xs hn hJ q hq=>?_
 have hxl:xs.length=n:=by rw [hJ]; simp [fewLN]
 dsimp only
 have hz:(Int.toNat 0)=0:=rfl
 simp only [InK_i64,hz,hw,decide_eq_true_eq,decide_eq_false_iff_not]
 refine ⟨by omega,by omega,fun hlt=>⟨(n:Int),(xs,0),(by and_intros <;> first | rfl | trivial | simp),?_⟩,fun hge=>?_⟩
 ·have hlt:n < wpN c:=by omega
  have hh:=hkOf_lt (c:=c) hlt
  refine LoopP.count2 (fewAN c (wpN c)).length (fun k ys=>ys=fewLN c n++(if hkOf c n < k then [((hkOf c n:Nat):Int)] else [])) (by simp [hJ]) fun k ys hk hI q2 hq2=>?_
  have hyl:ys.length ≤ 1001:=by rw [hI,←hJ,List.length_append]; split <;> simp <;> omega
  dsimp only
  simp only [Int.toNat_natCast,List.length_singleton]
  refine ⟨fun hlt2=>?_,fun hge=>?_⟩
  ·have hlt2:k < (fewAN c (wpN c)).length:=by omega
   have hm:=ham k hlt2
   rw [hag k hlt2,Int.toNat_natCast,like_idx hlt hlt2]
   refine ⟨by omega,by omega,⟨h2,by omega,by omega,fun s hs=>by have:=(h3 s hs).1; omega⟩,fun ht=>?_,fun hf=>?_⟩
   ·have ht:k=hkOf c n:=of_decide_eq_true ht
    refine ⟨by omega,by omega,(_,_),(by and_intros <;> first | rfl | trivial | simp),hq2 _ hlt2 ?_⟩
    rw [hI,if_neg (by omega),if_pos (by omega),List.append_nil,ht]
   ·have hf:¬ k=hkOf c n:=of_decide_eq_false hf
    refine ⟨by omega,(_,_),(by and_intros <;> first | rfl | trivial | simp),hq2 _ hlt2 ?_⟩
    rw [hI]
    by_cases hk2:hkOf c n < k
    ·rw [if_pos hk2,if_pos (by omega)]
    ·rw [if_neg hk2,if_neg (by omega)]
  ·have:k=(fewAN c (wpN c)).length:=by omega
   subst this
   rw [if_pos hh.1,←fewLN_succ] at hI
   exact ⟨by omega,(_,_),(by and_intros <;> first | rfl | trivial | simp),hq _ hlt hI⟩
 ·have:n=wpN c:=by omega
  subst this
  rw [hJ]; exact (by and_intros <;> first | rfl | trivial | simp)
end Go.Proofs.Tryz
set_option linter.unusedVariables false
namespace Go.Proofs.Tryz
open Go Go.V Go.Proofs
theorem largeB_false {lw rows:List Int} {c:List (List UInt8)} (h:largeB lw rows c=false):lw.length ≤ 110∧rows.length ≤ 70∧c.length ≤ 70∧∀ s ∈ c,s.length ≤ 110:=by
 simp only [largeB,Bool.or_eq_false_iff,decide_eq_false_iff_not] at h
 obtain ⟨h1,⟨h2,h3⟩,h4⟩:=h
 refine ⟨by omega,by omega,by omega,fun s hs=>?_⟩
 have:=List.any_eq_false.1 h1 s hs
 simp only [decide_eq_true_eq] at this
 omega
theorem rowsX_unwL {hk:Int} {lw:List Int} {c:List (List UInt8)} (h0:0 ≤ hk) (hp:∀ x ∈ lw,0 ≤ x∧x < hk) (hn:partF lw c=none):rowsX lw c=unwL hk.toNat lw c:=by
 unfold rowsX unwL
 refine List.map_congr_left fun s hs=>?_
 obtain ⟨i,hi,rfl⟩:=List.getElem_of_mem hs
 have h1:=partF_none.1 hn i hi
 rw [getD_nat hi] at h1
 rw [rowX_bits (hk:=hk.toNat) (fun x hx=>by have:=hp x hx; omega) h1]
end Go.Proofs.Tryz
namespace Go.V
open Go Go.RowKit
theorem putRow_setCells (enc:Int→Value) (blk:Nat):∀ (ys:List Int) (w:World) (off:Nat),Go.Sort.putRow enc w blk off ys.toArray=w.setCells blk off (ys.map enc)
 | [],w,off=>by
  simp only [List.map_nil,World.setCells]
  refine Go.Sort.mapBlock_id _ _ _ fun c _ _ _=>?_
  apply Array.ext_getElem?
  intro k
  simp only [Go.Sort.putCells,Array.getElem?_mapIdx]
  cases h:c[k]? with
  | none=>rfl
  | some x=>rw [Option.map_some,if_neg (by simp)]
 | y :: ys,w,off=>by
  rw [List.map_cons,World.setCells,←putRow_setCells enc blk ys,Go.Sort.setCell_eq]
  unfold Go.Sort.putRow
  rw [Go.Sort.mapBlock_mapBlock]
  refine Go.Sort.mapBlock_congr _ _ _ _ fun c _ _ _=>?_
  apply Array.ext_getElem?
  intro k
  simp only [Go.Sort.putCells,Array.getElem?_mapIdx,Array.getElem?_setIfInBounds,List.size_toArray,List.length_cons]
  by_cases hk:off=k
  ·subst hk
   rw [if_pos rfl]
   by_cases hc:off < c.size
   ·rw [if_pos hc,Array.getElem?_eq_getElem hc,Option.map_some,Option.map_some,if_pos (by omega),if_neg (by omega),Nat.sub_self]
    simp
   ·rw [if_neg hc,Array.getElem?_eq_none (by omega)]; rfl
  ·rw [if_neg hk]
   cases h:c[k]? with
   | none=>rfl
   | some x =>
    simp only [Option.map_some,Option.some.injEq]
    by_cases h1:off + 1 ≤ k∧k < off + 1 + ys.length
    ·rw [if_pos h1,if_pos (by omega)]
     have e:k - off=(k - (off + 1)) + 1:=by omega
     rw [e]
     simp
    ·rw [if_neg h1,if_neg (by omega)]
theorem rows_ints {h:Heap}:∀ (xs:List Int),Rows (KC h (.i .i64)) xs (xs.map (Value.int .i64))
 | []=>.nil
 | x :: xs=>.cons (c:=[.int .i64 x]) rfl (rows_ints xs)
theorem rows_ints_eq {h:Heap}:∀ {xs:List Int} {cs:List Value},Rows (KC h (.i .i64)) xs cs→cs=xs.map (Value.int .i64)
 | [],_,.nil=>rfl
 | x :: xs,_,.cons hc ht=>by
  have hc:_=[Value.int .i64 x]:=hc
  rw [hc,rows_ints_eq ht]; rfl
theorem lrel_ints {ρ:Plc} {n:Nat}:∀ (xs:List Int),LRel ρ n (xs.map (Value.int .i64)) (xs.map (Value.int .i64))
 | []=>LRel.nil _ _
 | x :: xs=>LRel.cons (.int _ _) (lrel_ints xs)
theorem put_ints {h:Heap} (ys:List Int) {c:List Value} (hl:ys.length ≤ c.length):Rows (KC h (.i .i64)) ys ((setL c 0 (ys.map (Value.int .i64))).take (ys.length * (Kind.i .i64).size)):=by
 have hl2:(ys.map (Value.int .i64)).length=ys.length:=by rw [List.length_map]
 rw [setL_split (by omega),hl2]
 simp only [Kind.size,Nat.mul_one,List.take_zero,List.nil_append]
 rw [List.take_append_of_le_length (by omega),List.take_of_length_le (by omega)]
 exact rows_ints _
theorem VCalled.of_same {P:Program} {f:FuncId} {args:List Value} {σ:Heap} {K:Value→Heap→Prop} (he:Enterable P f) (ha:args.all plainV=true)
  (h:∀ w,Calls P f args.toArray w fun e w'=>e=.returned (.tuple #[])∧w'=w) (hK:K (.tuple #[]) σ):VCalled P f args σ K:=by
 intro ρ w cargs hH hL
 obtain rfl:=plain_args ha hL
 refine .inl ⟨fun w=>run_callFunc he _ w,(h w).mono fun e w' ⟨h1,h2⟩=>?_⟩
 subst h2
 exact ⟨_,h1,.tuple #[],ρ,σ,hK,.tuple _ _ rfl (fun i h1 _=>by simp at h1),hH,Ext.refl _ _ _⟩
theorem VCalled.of_row {P : Program} {f : FuncId} {i cap ty : Nat} {xs : List Int} {c : List Value} {t : Bool} {σ : Heap} {K : Value → Heap → Prop} (g : List Int → List Int) (hg : (g xs).length = xs.length) (he : Enterable P f)
    (h : ∀ (blk off cap : Nat) (w : World), Go.Sort.Holds (Value.int .i64) w blk off xs.toArray → blk < w.heap.size → Calls P f #[.slice (some ⟨blk, off, none⟩) xs.length cap] w fun e w' => e = .returned (.tuple #[]) ∧ ∃ n os, w' = Go.Sort.grow (Go.Sort.putRow (Value.int .i64) (Go.Sort.ahead w n) blk off (g xs).toArray) os)
    (hb : σ.get i = some (.cells c ⟨1, ty⟩ true t)) (hcap : xs.length ≤ cap) (hl : cap ≤ c.length) (hr : c.take xs.length = xs.map (Value.int .i64))
    (hK : K (.tuple #[]) (σ.upd i (.cells (setL c 0 ((g xs).map (Value.int .i64))) ⟨1, ty⟩ true t))) : VCalled P f [.slice (some ⟨i, 0, none⟩) xs.length cap] σ K := by
  intro ρ w cargs hH hL
  obtain ⟨p, hp, hB⟩ := hH.live i _ hb
  have hB' := hB
  obtain ⟨h1, h2, h3, ⟨C, e, fr, h4, h4'⟩, h5, h6⟩ := hB
  have hcs : cargs.size = 1 := by have := hL.1; simpa using this.symm
  obtain ⟨u, rfl⟩ : ∃ u, cargs = #[u] := ⟨cargs[0], by apply Array.ext (by simpa using hcs); intro j hj1 hj2; obtain rfl : j = 0 := by simp at hj2; omega
                                                       rfl⟩
  have hu := hL.2 0 _ u rfl rfl
  cases hu with
  | sl _ _ _ _ a cap' hi hpl =>
    obtain ⟨q1, q2, o', rfl, q3, q4⟩ := hpl p hp
    have hz : p.esz.sz = 1 := by rw [h1]
    have hoff : xs.length = 0 ∨ o' = 0 := by omega
    have hholds : Go.Sort.Holds (Value.int .i64) w p.blk (p.shift + o') xs.toArray := fun j hj => by
      simp only [List.size_toArray] at hj
      obtain rfl : o' = 0 := by omega
      have hjc : c[j]? = some (.int .i64 xs[j]) := by
        have e1 : (c.take xs.length)[j]? = (xs.map (Value.int .i64))[j]? := by rw [hr]
        rw [List.getElem?_take, if_pos hj, List.getElem?_map, List.getElem?_eq_getElem hj] at e1
        exact e1
      obtain ⟨u, hu1, hu2⟩ := h5 j _ hjc
      cases hu2
      refine ⟨?_, (h6 rfl).2 j (by have := (List.getElem?_eq_some_iff.1 hjc).1; omega)⟩
      rw [Nat.add_zero, hu1]
      simp [hj]
    refine .inl ⟨fun w => run_callFunc he _ w, (h p.blk (p.shift + o') cap' w hholds (hH.lt i p hp)).mono fun e w' ⟨he1, n, os, he2⟩ => ?_⟩
    subst he2
    have hlen : ((g xs).map (Value.int .i64)).length = xs.length := by rw [List.length_map, hg]
    obtain ⟨k1, k2⟩ := hH.store hp hb (o := 0) (lrel_ints (g xs)) (by omega)
    have hw : Go.Sort.putRow (Value.int .i64) w p.blk (p.shift + o') (g xs).toArray = w.setCells p.blk (p.shift + 0) ((g xs).map (Value.int .i64)) := by
      rw [putRow_setCells]
      rcases hoff with h0 | h0
      · have : g xs = [] := List.length_eq_zero_iff.1 (by omega)
        rw [this]; rfl
      · rw [h0]
    rw [Go.Sort.putRow_ahead, hw]
    have hold : ∀ k, k < (w.setCells p.blk (p.shift + 0) ((g xs).map (Value.int .i64))).heap.size → (Go.Sort.grow (Go.Sort.ahead (w.setCells p.blk (p.shift + 0) ((g xs).map (Value.int .i64))) n) os).heap[k]? = (w.setCells p.blk (p.shift + 0) ((g xs).map (Value.int .i64))).heap[k]? := fun k hk =>
      Go.Sort.heap_grow_old _ os (by simpa using hk)
    have hsz : (w.setCells p.blk (p.shift + 0) ((g xs).map (Value.int .i64))).heap.size ≤ (Go.Sort.grow (Go.Sort.ahead (w.setCells p.blk (p.shift + 0) ((g xs).map (Value.int .i64))) n) os).heap.size := by simp
    refine ⟨_, he1, .tuple #[], ρ, _, hK, .tuple _ _ rfl (fun i h1 _ => by simp at h1), k1.world hsz (fun i p hp => hold _ (k1.lt i p hp)) (fun g cs hg => hold _ (k1.tab.lt hg)), k2.trans ⟨rfl, rfl, rfl, hsz, fun B hB _ => hold B hB, fun _ _ h => h, Nat.le_refl _, fun _ _ _ h => h⟩⟩
theorem okX_sort {P:Program} {ρ0:Go.Shelf.Ren} {f ty:Nat} {ap:Ap} (L:Go.Proofs.Lays.n189 P ρ0) (he:Enterable P f) (hf:ρ0.f 189=f) {al:AL Unit} (hal:al=.nil) {pre:List Int→Bool→Unit→Prop} (hp:∀ xs nl d,pre xs nl d→xs.length ≤ 1000000) :
  XOk P f (lentX ap (lentL ty (.i .i64) al pre (fun _ _ _=>.tup []) (fun xs _ _=>xs.mergeSort fun x y=>decide (x ≤ y)))):=by
 subst hf; subst hal
 intro B F pl tb s env σ d args vs K R hG ha hx hK
 unfold lentX at hx
 split at hx
 ·rename_i a args
  split at hx
  ·rename_i o hkey
   cases hbf:((oget s.own o).ret && lfit a (oget s.own o)) with
   | false=>rw [hbf] at hx; exact hx.elim
   | true =>
   rw [hbf] at hx
   simp only [_root_.cond_true] at hx
   simp only [Bool.and_eq_true] at hbf
   obtain ⟨hbr,hfit⟩:=hbf
   split at hx
   ·rename_i c v b' hsp
    cases hvr:(v.ret 0 && b'.ret) with
    | false=>rw [hvr] at hx; exact hx.elim
    | true =>
    rw [hvr] at hx
    obtain ⟨hc,hx⟩:=hx
    simp only [SRs] at ha
    obtain ⟨u,us,rfl,hau,hus⟩:=ha
    have hlive:=OB.ret_live hbr
    have hob:=hG.obj o
    unfold lentL at hsp
    split at hsp
    ·rename_i ty' k' xs0 nl hown
     split at hsp
     ·rename_i e
      subst e
      split at hsp
      ·rename_i xs dd h1 h2
       obtain ⟨rfl,rfl,rfl⟩:=(by simpa using hsp:pre xs nl dd=c∧SV.tup []=v∧OB.lst ty' (.i .i64) (xs.mergeSort fun x y=>decide (x ≤ y)) nl=b')
       unfold castL at h1
       split at h1
       ·rename_i e
        subst e
        have h1:xs=xs0:=(Option.some.inj h1).symm
        subst h1
        have hargs:args=[]:=by
         cases args with
         | nil=>rfl
         | cons b l=>simp [ress,res2,resPs,AL.dec] at h2
        subst hargs
        have hus:us=[]:=hus
        subst hus
        rw [hown] at hfit
        have hu:u=pl o:=by
         unfold lkey at hkey
         split at hkey
         ·obtain rfl:=Option.some.inj hkey
          exact hau.1
         ·cases hfit
         ·cases hkey
        subst hu
        have hlen:=hp _ _ _ hc
        rw [hown] at hob
        rcases hob with ⟨rfl,rfl,h3⟩ | ⟨rfl,i,cap,c,t,h3,h4,h5,h6,h7⟩
        ·rw [h3]
         refine VCalled.of_same he rfl (fun w=>Go.Proofs.Any.slices_Sort_int_none L none 0 w) ?_
         ·refine hK _ _ B F pl tb (.tuple #[]) σ hx (GBase.of hG.bf (Dead.refl _)) (hG.writeF o (.lst ty' (.i .i64) (([]:List Int).mergeSort fun x y=>decide (x ≤ y)) true) hG.le hlive (fun _ _ _ _ _=>rfl) (.inl ⟨rfl,by simp,h3⟩)).1 ?_
          simp only [SR,SRs]; exact ⟨[],rfl,rfl⟩
        ·rw [h3]
         have hid:F.get i=none:=hG.fresh o i hlive (by rw [h3]; rfl)
         have hoth:∀ j i',j ≠ o→(oget s.own j).live=true→Oid (pl j) i'→i' ≠ i:=fun j i' hj hl hi e=>by
          subst e; exact hG.sep j o i' hj hl hlive hi (by rw [h3]; rfl)
         have h6':cap ≤ c.length:=by simpa [Kind.size] using h6
         have h7':c.take xs.length=xs.map (Value.int .i64):=by
          have:=rows_ints_eq h7
          simpa [Kind.size] using this
         refine VCalled.of_row (fun xs=>xs.mergeSort fun x y=>decide (x ≤ y)) (List.length_mergeSort _) he (fun blk off cap w hH hb=>Go.Proofs.Any.slices_Sort_int L blk off cap xs w hH hb (by omega)) h5 h4 h6' h7' ?_
         refine hK _ _ B F pl tb (.tuple #[]) _ hx (GBase.of hG.bf (Dead.upd _ _ _ (by rw [h5]; rfl))) (hG.writeF o (.lst ty' (.i .i64) (xs.mergeSort fun x y=>decide (x ≤ y)) false) (hG.le.upd hid _) hlive (fun j i' hj hl hi=>Heap.get_upd_ne _ _ (hoth j i' hj hl hi)) (.inr ⟨rfl,i,cap,_,t,by rw [h3,List.length_mergeSort],by rw [List.length_mergeSort]; exact h4,Heap.get_upd_self _ _ (σ.lt h5),by rw [setL_length]; exact h6,?_⟩)).1 ?_
         ·exact put_ints _ (by rw [List.length_mergeSort]; exact Nat.le_trans h4 h6')
         ·simp only [SR,SRs]; exact ⟨[],rfl,rfl⟩
       ·cases h1
      ·cases hsp
     ·cases hsp
    ·cases hsp
   ·exact hx.elim
  ·exact hx.elim
 ·exact hx.elim
end Go.V
set_option linter.unusedVariables false
namespace Go.Proofs.Tryz
open Go Go.V Go.Proofs
def al_slices_Sort_int_int:AL (Unit):=.nil
def pre_slices_Sort_int_int (xs:List Int) (nl:Bool) (d:Unit):Prop:=xs.length ≤ 1000000
def res_slices_Sort_int_int (xs:List Int) (nl:Bool) (d:Unit):SV:=.tup []
def post_slices_Sort_int_int (xs:List Int) (nl:Bool) (d:Unit):List Int:=(xs.mergeSort fun x y=>decide (x ≤ y))
def x_slices_Sort_int_int:XSp:=lentX apNone (lentL 3 (.i .i64) al_slices_Sort_int_int pre_slices_Sort_int_int res_slices_Sort_int_int post_slices_Sort_int_int)
abbrev Ok_slices_Sort_int_int:Prop:=XOk Tryz.prog 86 x_slices_Sort_int_int
theorem okx_slices_Sort_int_int:Ok_slices_Sort_int_int:=okX_sort Tryz.lays189 fun86.enterable rfl rfl fun _ _ _ h=>h
def al_tie_Apart:AL (List (List UInt8)):=(.one (.k (.list .st)))
def pre_tie_Apart (d:List (List UInt8)):Prop:=d.length ≤ 1000∧∀ s ∈ d,s.length ≤ 1000
def res_tie_Apart (d:List (List UInt8)):SV:=.tup [.lst 0,.val (.i .i64) (fewErr d)]
def obs_tie_Apart (d:List (List UInt8)):List OB:=[.lst 3 (.i .i64) (if fewErr d=0 then fewA d (wpN d) else []) ((if fewErr d=0 then fewA d (wpN d) else []).isEmpty)]
def s_tie_Apart:CSp:=mkSp al_tie_Apart pre_tie_Apart res_tie_Apart obs_tie_Apart
def vc_tie_Apart (c:List (List UInt8)):Prop :=
 (c.length ≤ 1000∧∀ s ∈ c,s.length ≤ 1000)∧(((fewErr c) != (0:Int))=true →
  ((True∧(fewErr c)=(fewErr c)∧(([]:List SV)=[]))∧(((if fewErr c=0 then fewA c (wpN c) else [])=[]∧(if fewErr c=0 then fewA c (wpN c) else []).isEmpty=true)∧True))) ∧
 (((fewErr c) != (0:Int))=false →
  ((if fewErr c=0 then fewL c else []).length ≤ 1000)∧∃ (e4:Unit) (d40:(List Int) × (List Nat)),((True∧True∧True)∧((d40.1=[]∧(List.isEmpty d40.1)=true)∧((fstM (if fewErr c=0 then fewL c else []))=(fstM (if fewErr c=0 then fewL c else []))∧([]:List Nat)=d40.2)∧True)) ∧
  LoopP (fun (d4:(List Int) × (List Nat)) (q4:((List Int) × (List Nat))→Prop) =>
   ((∀ r:Nat,r < (List.length (fstM (if fewErr c=0 then fewL c else [])))→r ∈ d4.2) →
    (false=true →
     (d4.2 ≠ [])∧(((List.length d4.1) + (List.length [(List.getD (fstM (if fewErr c=0 then fewL c else [])) (List.getLastD d4.2 0) (0,0)).2])) * 8 ≤ 70368744177664)∧(∃ d6:(List Int) × (List Nat),((True∧True∧True)∧(((d4.1++[(List.getD (fstM (if fewErr c=0 then fewL c else [])) (List.getLastD d4.2 0) (0,0)).2])=d6.1∧false=(List.isEmpty d6.1))∧((fstM (if fewErr c=0 then fewL c else []))=(fstM (if fewErr c=0 then fewL c else []))∧d4.2=d6.2)∧True))∧q4 d6)) ∧
    (false=false →
     (d4.1.length ≤ 1000000)∧((True∧(0:Int)=(fewErr c)∧(([]:List SV)=[]))∧(((d4.1.mergeSort fun x y=>decide (x ≤ y))=(if fewErr c=0 then fewA c (wpN c) else [])∧(List.isEmpty d4.1)=(if fewErr c=0 then fewA c (wpN c) else []).isEmpty)∧True)))) ∧
   (∀ r5:Nat,r5 < (List.length (fstM (if fewErr c=0 then fewL c else [])))→r5 ∉ d4.2 →
    (true=true →
     ((d4.2++[r5]) ≠ [])∧(((List.length d4.1) + (List.length [(List.getD (fstM (if fewErr c=0 then fewL c else [])) (List.getLastD (d4.2++[r5]) 0) (0,0)).2])) * 8 ≤ 70368744177664)∧(∃ d7:(List Int) × (List Nat),((True∧True∧True)∧(((d4.1++[(List.getD (fstM (if fewErr c=0 then fewL c else [])) (List.getLastD (d4.2++[r5]) 0) (0,0)).2])=d7.1∧false=(List.isEmpty d7.1))∧((fstM (if fewErr c=0 then fewL c else []))=(fstM (if fewErr c=0 then fewL c else []))∧(d4.2++[r5])=d7.2)∧True))∧q4 d7)) ∧
    (true=false →
     (d4.1.length ≤ 1000000)∧((True∧(0:Int)=(fewErr c)∧(([]:List SV)=[]))∧(((d4.1.mergeSort fun x y=>decide (x ≤ y))=(if fewErr c=0 then fewA c (wpN c) else [])∧(List.isEmpty d4.1)=(if fewErr c=0 then fewA c (wpN c) else []).isEmpty)∧True))))) d40)
def cx_tie_Apart:Cx:=⟨[(3,(.i .i64))],[(84,s_tie_fewest),(85,s_tie_harness_firsts)],30,[],0,[(86,x_slices_Sort_int_int)],[],[],[],false,[],[],[]⟩
def lp_tie_Apart (c:List (List UInt8)):List (Nat × LoopAnn):=[(0,⟨Unit,(List Int) × (List Nat),[2,18],fun e x=>[.lst 26,.box 18 0],fun e x=>[(26,.slot 2,.lst 3 (.i .i64) x.1 (List.isEmpty x.1)),(18,.slot 18,.iter (.i .i64) (.i .i64) (fstM (if fewErr c=0 then fewL c else [])) x.2)]⟩)]
set_option maxRecDepth 100000 in
theorem vq_tie_Apart (d:List (List UInt8)):gwp (cx_tie_Apart) (lp_tie_Apart d) c39 0 (gend [.tmp 2,.tmp 3] (res_tie_Apart d) (obs_tie_Apart d)) (gstart 30 (AL.can al_tie_Apart d))=vc_tie_Apart d:=by kernel_rfl
abbrev Ok_tie_Apart:Prop:=OkC Tryz.prog 39 s_tie_Apart
theorem mk_tie_Apart (h:∀ (c:List (List UInt8)),(c.length ≤ 1000∧∀ s ∈ c,s.length ≤ 1000)→vc_tie_Apart c):OkC Tryz.prog 39 s_tie_Apart :=
 okC_vc fun39 mixed (C:=cx_tie_Apart) (V:=fun (d:List (List UInt8))=>vc_tie_Apart d) ⟨(.cons ok_tie_fewest (.cons ok_tie_harness_firsts .nil)),(XsOk.cons okx_slices_Sort_int_int XsOk.nil),ItsOk.nil,YlOk.nil,IysOk.nil⟩ (vq_tie_Apart) fun d hp=>h d hp
theorem nodup_lenN:∀ {l m:List Nat},l.Nodup→(∀ x ∈ l,x ∈ m)→l.length ≤ m.length
 | [],_,_,_=>Nat.zero_le _
 | x :: l,m,hn,hs=>by
  have hn:=List.nodup_cons.1 hn
  have hx:=hs x (List.mem_cons_self ..)
  have:=nodup_lenN (l:=l) (m:=m.erase x) hn.2 fun y hy=>(List.mem_erase_of_ne (by rintro rfl; exact hn.1 hy)).2 (hs y (List.mem_cons_of_mem _ hy))
  rw [List.length_erase_of_mem hx] at this
  have:0 < m.length:=List.length_pos_of_mem hx
  simp only [List.length_cons]; omega
theorem ok_tie_Apart:Ok_tie_Apart:=mk_tie_Apart fun c h=>by
 obtain ⟨h1,h2⟩:=h
 unfold vc_tie_Apart; (try delta lI gD sT I64)
 refine ⟨⟨h1,h2⟩,fun he=>?_,fun he=>?_⟩
 ·have he:fewErr c ≠ 0:=by simpa using he
  simp [he]
 have he:fewErr c=0:=by simpa using he
 obtain ⟨z1,z2⟩:=few_zero he
 obtain ⟨c1,c2,c3,c4,c5⟩:=clothErr_zero z1
 have hl:(fewL c).length=wpN c:=by simp [fewL,fewLN]
 have hA:fewA c (wpN c) ≠ []:=fun e=>by
  have h0:(0:Nat) ∈ fewAN c (wpN c):=mem_fewAN.2 ⟨by omega,newB_iff.2 fun k hk=>by omega⟩
  have:((0:Nat):Int) ∈ fewA c (wpN c):=List.mem_map_of_mem h0
  rw [e] at this; cases this
 have hs:=fun {vis}=>apart_sort (c:=c) (n:=wpN c) (vis:=vis)
 have hfl:fewLN c (wpN c)=fewL c:=rfl
 rw [hfl] at hs
 have hm:(fstM (fewL c)).length ≤ 24:=by
  have:=hs (vis:=List.range (fstM (fewL c)).length) (List.nodup_range) (fun r hr=>List.mem_range.1 hr) (fun r hr=>List.mem_range.2 hr)
  have:=congrArg List.length this
  rw [List.length_mergeSort,List.length_map,List.length_range] at this
  rw [this]; simpa [fewA] using z2
 simp only [he,if_true]
 generalize fstM (fewL c)=M at hs hm ⊢
 refine ⟨by omega,(),([],[]),(by and_intros <;> first | rfl | trivial | simp),?_⟩
 refine ⟨fun d=>d.2.Nodup∧(∀ r ∈ d.2,r < M.length)∧d.1=d.2.map fun r=>(M.getD r (0,0)).2,fun d=>M.length - d.2.length,⟨List.nodup_nil,(fun r hr=>by cases hr),rfl⟩,?_⟩
 rintro ⟨_,vis⟩ ⟨i1,i2,i3⟩
 dsimp only at i1 i2 i3 ⊢
 subst i3
 have hvl:vis.length ≤ M.length:=by
  have:=nodup_lenN (m:=List.range M.length) i1 fun r hr=>List.mem_range.2 (i2 r hr)
  rwa [List.length_range] at this
 simp only [List.length_map,List.length_singleton]
 refine ⟨fun hall=>⟨(fun hf=>by cases hf),fun _=>⟨by omega,?_⟩⟩,fun r hr hnr=>⟨fun _=>?_,(fun hf=>by cases hf)⟩⟩
 ·rw [hs i1 i2 hall]
  have hem:(List.map (fun r=>(M.getD r (0,0)).2) vis).isEmpty=(fewA c (wpN c)).isEmpty:=by
   have:=congrArg List.length (hs i1 i2 hall)
   rw [List.length_mergeSort] at this
   cases h5:fewA c (wpN c) with
   | nil=>exact (hA h5).elim
   | cons a l =>
    rw [h5] at this
    cases h6:List.map (fun r=>(M.getD r (0,0)).2) vis with
    | nil=>rw [h6] at this; cases this
    | cons b l2=>rfl
  rw [List.isEmpty_map] at hem
  simp [hem]
 ·have hnd:(vis++[r]).Nodup:=List.nodup_append.2 ⟨i1,by simp,fun a ha b hb e=>by rw [List.mem_singleton.1 hb] at e; rw [e] at ha; exact hnr ha⟩
  have hmem:∀ x ∈ vis++[r],x < M.length:=fun x hx=>by
   rcases List.mem_append.1 hx with hx | hx
   ·exact i2 x hx
   ·rw [List.mem_singleton.1 hx]; exact hr
  have hlast:(vis++[r]).getLastD 0=r:=by simp
  have hvl2:(vis++[r]).length ≤ M.length:=by
   have:=nodup_lenN (m:=List.range M.length) hnd fun r hr=>List.mem_range.2 (hmem r hr)
   rwa [List.length_range] at this
  rw [List.length_append,List.length_singleton] at hvl2
  rw [hlast]
  refine ⟨by simp,by omega,(List.map (fun r=>(M.getD r (0,0)).2) (vis++[r]),vis++[r]),?_,⟨hnd,hmem,rfl⟩,by dsimp only; rw [List.length_append,List.length_singleton]; omega⟩
  rw [List.map_append]
  and_intros <;> first | rfl | trivial | simp
def al_law03_TieFewests:AL (List (List UInt8)):=(.one (.k (.list .st)))
def pre_law03_TieFewests (d:List (List UInt8)):Prop:=d.length ≤ 9223372036854775807
def res_law03_TieFewests (d:List (List UInt8)):SV:=.val .bo true
def obs_law03_TieFewests (d:List (List UInt8)):List OB:=[]
def s_law03_TieFewests:CSp:=mkSp al_law03_TieFewests pre_law03_TieFewests res_law03_TieFewests obs_law03_TieFewests
def vc_law03_TieFewests (c:List (List UInt8)):Prop :=
 (c.length ≤ 9223372036854775807)∧((largeB ([]:List Int) ([]:List Int) c)=true →
  (True)∧(true=true∧(True))) ∧
 ((largeB ([]:List Int) ([]:List Int) c)=false →
  (c.length ≤ 1000)∧(c.length ≤ 1000∧∀ s ∈ c,s.length ≤ 1000)∧(c.length ≤ 1000∧∀ s ∈ c,s.length ≤ 1000)∧(c.length ≤ 1000000)∧((!(c == c))=true →
   (false=true∧(True))) ∧
  ((!(c == c))=false →
   ∃ (e3:Unit),CutP (fun (q3:(Int)→Prop) =>
   ((decide ((lI c) > (0:Int)))=true →
    (0 ≤ (0:Int))∧((0:Int) < (List.length c))∧(∃ d4:Int,((c=c∧True∧True∧(fewErr c)=(fewErr c)∧True∧(fewErr c)=(fewErr c)∧(lI (gD c (0:Int) []))=d4∧True)∧(((if fewErr c=0 then ((fewK c (wpN c)).length:Int) else 0)=(if fewErr c=0 then ((fewK c (wpN c)).length:Int) else 0)∧True∧(([]:List SV)=[]))∧((if fewErr c=0 then fewL c else [])=(if fewErr c=0 then fewL c else [])∧(if fewErr c=0 then fewL c else []).isEmpty=(List.isEmpty (if fewErr c=0 then fewL c else [])))∧((if fewErr c=0 then ((fewK c (wpN c)).length:Int) else 0)=(if fewErr c=0 then ((fewK c (wpN c)).length:Int) else 0)∧True∧(([]:List SV)=[]))∧((if fewErr c=0 then rowsX (fewL c) c else [])=(if fewErr c=0 then rowsX (fewL c) c else [])∧(if fewErr c=0 then rowsX (fewL c) c else []).isEmpty=(List.isEmpty (if fewErr c=0 then rowsX (fewL c) c else [])))∧((if fewErr c=0 then fewA c (wpN c) else [])=(if fewErr c=0 then fewA c (wpN c) else [])∧(if fewErr c=0 then fewA c (wpN c) else []).isEmpty=(List.isEmpty (if fewErr c=0 then fewA c (wpN c) else [])))∧True))∧q3 d4)) ∧
   ((decide ((lI c) > (0:Int)))=false →
    (∃ d5:Int,((c=c∧True∧True∧(fewErr c)=(fewErr c)∧True∧(fewErr c)=(fewErr c)∧(0:Int)=d5∧True)∧(((if fewErr c=0 then ((fewK c (wpN c)).length:Int) else 0)=(if fewErr c=0 then ((fewK c (wpN c)).length:Int) else 0)∧True∧(([]:List SV)=[]))∧((if fewErr c=0 then fewL c else [])=(if fewErr c=0 then fewL c else [])∧(if fewErr c=0 then fewL c else []).isEmpty=(List.isEmpty (if fewErr c=0 then fewL c else [])))∧((if fewErr c=0 then ((fewK c (wpN c)).length:Int) else 0)=(if fewErr c=0 then ((fewK c (wpN c)).length:Int) else 0)∧True∧(([]:List SV)=[]))∧((if fewErr c=0 then rowsX (fewL c) c else [])=(if fewErr c=0 then rowsX (fewL c) c else [])∧(if fewErr c=0 then rowsX (fewL c) c else []).isEmpty=(List.isEmpty (if fewErr c=0 then rowsX (fewL c) c else [])))∧((if fewErr c=0 then fewA c (wpN c) else [])=(if fewErr c=0 then fewA c (wpN c) else [])∧(if fewErr c=0 then fewA c (wpN c) else []).isEmpty=(List.isEmpty (if fewErr c=0 then fewA c (wpN c) else [])))∧True))∧q3 d5)))
   (fun (d3:Int) =>
    (c.length ≤ 1000)∧∃ (e8:Int),CutP (fun (q8:((List Int))→Prop) =>
    (((clothErr c d3) == (0:Int))=true →
     (c ≠ []∧c.length ≤ 1000∧∀ s ∈ c,s.length=wpN c∧s.length ≤ 1000)∧(∃ d9:(List Int),((c=c∧True∧True∧(fewErr c)=(fewErr c)∧True∧(fewErr c)=(fewErr c)∧(clothErr c d3)=e8∧True∧True)∧(((if fewErr c=0 then ((fewK c (wpN c)).length:Int) else 0)=(if fewErr c=0 then ((fewK c (wpN c)).length:Int) else 0)∧True∧(([]:List SV)=[]))∧((if fewErr c=0 then fewL c else [])=(if fewErr c=0 then fewL c else [])∧(List.isEmpty (if fewErr c=0 then fewL c else []))=(List.isEmpty (if fewErr c=0 then fewL c else [])))∧((if fewErr c=0 then ((fewK c (wpN c)).length:Int) else 0)=(if fewErr c=0 then ((fewK c (wpN c)).length:Int) else 0)∧True∧(([]:List SV)=[]))∧((if fewErr c=0 then rowsX (fewL c) c else [])=(if fewErr c=0 then rowsX (fewL c) c else [])∧(List.isEmpty (if fewErr c=0 then rowsX (fewL c) c else []))=(List.isEmpty (if fewErr c=0 then rowsX (fewL c) c else [])))∧((if fewErr c=0 then fewA c (wpN c) else [])=(if fewErr c=0 then fewA c (wpN c) else [])∧(List.isEmpty (if fewErr c=0 then fewA c (wpN c) else []))=(List.isEmpty (if fewErr c=0 then fewA c (wpN c) else [])))∧((fewA c (wpN c))=d9∧false=false)∧True))∧q8 d9)) ∧
    (((clothErr c d3) == (0:Int))=false →
     (∃ d10:(List Int),((c=c∧True∧True∧(fewErr c)=(fewErr c)∧True∧(fewErr c)=(fewErr c)∧(clothErr c d3)=e8∧True∧True)∧(((if fewErr c=0 then ((fewK c (wpN c)).length:Int) else 0)=(if fewErr c=0 then ((fewK c (wpN c)).length:Int) else 0)∧True∧(([]:List SV)=[]))∧((if fewErr c=0 then fewL c else [])=(if fewErr c=0 then fewL c else [])∧(List.isEmpty (if fewErr c=0 then fewL c else []))=(List.isEmpty (if fewErr c=0 then fewL c else [])))∧((if fewErr c=0 then ((fewK c (wpN c)).length:Int) else 0)=(if fewErr c=0 then ((fewK c (wpN c)).length:Int) else 0)∧True∧(([]:List SV)=[]))∧((if fewErr c=0 then rowsX (fewL c) c else [])=(if fewErr c=0 then rowsX (fewL c) c else [])∧(List.isEmpty (if fewErr c=0 then rowsX (fewL c) c else []))=(List.isEmpty (if fewErr c=0 then rowsX (fewL c) c else [])))∧((if fewErr c=0 then fewA c (wpN c) else [])=(if fewErr c=0 then fewA c (wpN c) else [])∧(List.isEmpty (if fewErr c=0 then fewA c (wpN c) else []))=(List.isEmpty (if fewErr c=0 then fewA c (wpN c) else [])))∧(([]:List Int)=d10∧false=false)∧True))∧q8 d10)))
    (fun (d8:(List Int)) =>
     ∃ (e13:(List Int)),CutP (fun (q13:(Int)→Prop) =>
     ((decide ((lI d8) > (24:Int)))=true →
      (∃ d14:Int,((c=c∧True∧True∧(fewErr c)=(fewErr c)∧True∧(fewErr c)=(fewErr c)∧(8:Int)=d14∧True∧True)∧(((if fewErr c=0 then ((fewK c (wpN c)).length:Int) else 0)=(if fewErr c=0 then ((fewK c (wpN c)).length:Int) else 0)∧True∧(([]:List SV)=[]))∧((if fewErr c=0 then fewL c else [])=(if fewErr c=0 then fewL c else [])∧(List.isEmpty (if fewErr c=0 then fewL c else []))=(List.isEmpty (if fewErr c=0 then fewL c else [])))∧((if fewErr c=0 then ((fewK c (wpN c)).length:Int) else 0)=(if fewErr c=0 then ((fewK c (wpN c)).length:Int) else 0)∧True∧(([]:List SV)=[]))∧((if fewErr c=0 then rowsX (fewL c) c else [])=(if fewErr c=0 then rowsX (fewL c) c else [])∧(List.isEmpty (if fewErr c=0 then rowsX (fewL c) c else []))=(List.isEmpty (if fewErr c=0 then rowsX (fewL c) c else [])))∧((if fewErr c=0 then fewA c (wpN c) else [])=(if fewErr c=0 then fewA c (wpN c) else [])∧(List.isEmpty (if fewErr c=0 then fewA c (wpN c) else []))=(List.isEmpty (if fewErr c=0 then fewA c (wpN c) else [])))∧(d8=e13∧false=false)∧True))∧q13 d14)) ∧
     ((decide ((lI d8) > (24:Int)))=false →
      (∃ d15:Int,((c=c∧True∧True∧(fewErr c)=(fewErr c)∧True∧(fewErr c)=(fewErr c)∧e8=d15∧True∧True)∧(((if fewErr c=0 then ((fewK c (wpN c)).length:Int) else 0)=(if fewErr c=0 then ((fewK c (wpN c)).length:Int) else 0)∧True∧(([]:List SV)=[]))∧((if fewErr c=0 then fewL c else [])=(if fewErr c=0 then fewL c else [])∧(List.isEmpty (if fewErr c=0 then fewL c else []))=(List.isEmpty (if fewErr c=0 then fewL c else [])))∧((if fewErr c=0 then ((fewK c (wpN c)).length:Int) else 0)=(if fewErr c=0 then ((fewK c (wpN c)).length:Int) else 0)∧True∧(([]:List SV)=[]))∧((if fewErr c=0 then rowsX (fewL c) c else [])=(if fewErr c=0 then rowsX (fewL c) c else [])∧(List.isEmpty (if fewErr c=0 then rowsX (fewL c) c else []))=(List.isEmpty (if fewErr c=0 then rowsX (fewL c) c else [])))∧((if fewErr c=0 then fewA c (wpN c) else [])=(if fewErr c=0 then fewA c (wpN c) else [])∧(List.isEmpty (if fewErr c=0 then fewA c (wpN c) else []))=(List.isEmpty (if fewErr c=0 then fewA c (wpN c) else [])))∧(d8=e13∧false=false)∧True))∧q13 d15)))
     (fun (d13:Int) =>
      ((d13 != (0:Int))=true →
       ((((fewErr c) == d13) && ((fewErr c) == d13))=true→True)∧(((((fewErr c) == d13) && ((fewErr c) == d13)) && (decide ((if fewErr c=0 then ((fewK c (wpN c)).length:Int) else 0)=0) && decide ((if fewErr c=0 then fewL c else []).length=0)))=true→True)∧(((((((fewErr c) == d13) && ((fewErr c) == d13)) && (decide ((if fewErr c=0 then ((fewK c (wpN c)).length:Int) else 0)=0) && decide ((if fewErr c=0 then fewL c else []).length=0))) && (decide ((if fewErr c=0 then ((fewK c (wpN c)).length:Int) else 0)=0) && decide ((if fewErr c=0 then rowsX (fewL c) c else []).length=0))) && ((lI (if fewErr c=0 then fewA c (wpN c) else [])) == (0:Int)))=true→True)∧((((((((fewErr c) == d13) && ((fewErr c) == d13)) && (decide ((if fewErr c=0 then ((fewK c (wpN c)).length:Int) else 0)=0) && decide ((if fewErr c=0 then fewL c else []).length=0))) && (decide ((if fewErr c=0 then ((fewK c (wpN c)).length:Int) else 0)=0) && decide ((if fewErr c=0 then rowsX (fewL c) c else []).length=0))) && ((lI (if fewErr c=0 then fewA c (wpN c) else [])) == (0:Int))) && true)=true∧(True))) ∧
      ((d13 != (0:Int))=false →
       (c ≠ []∧c.length ≤ 1000∧∀ s ∈ c,s.length=wpN c∧s.length ≤ 1000)∧((((fewErr c) != (0:Int)) || ((fewErr c) != (0:Int)))=false→(if fewErr c=0 then fewL c else []).length ≤ 1000000)∧((((((fewErr c) != (0:Int)) || ((fewErr c) != (0:Int))) || (!(decide ((if fewErr c=0 then ((fewK c (wpN c)).length:Int) else 0)=((fewA c (wpN c)).length:Int)) && ((if fewErr c=0 then fewL c else []) == (fewL c)))))=true →
        ((true || ((lI (if fewErr c=0 then fewA c (wpN c) else [])) != (lI e13)))=true →
         (false=true∧(True))) ∧
        ((true || ((lI (if fewErr c=0 then fewA c (wpN c) else [])) != (lI e13)))=false →
         ∃ (e18:(List Int)) (d180:Int),((True∧True∧(0:Int)=d180∧True)∧(((if fewErr c=0 then fewA c (wpN c) else [])=(if fewErr c=0 then fewA c (wpN c) else [])∧(List.isEmpty (if fewErr c=0 then fewA c (wpN c) else []))=(List.isEmpty (if fewErr c=0 then fewA c (wpN c) else [])))∧(e13=e18∧false=false)∧True)) ∧
         LoopP (fun (d18:Int) (q18:(Int)→Prop) =>
          ((decide (d18 < (lI (if fewErr c=0 then fewA c (wpN c) else []))))=true →
           (0 ≤ d18)∧(d18 < (List.length (if fewErr c=0 then fewA c (wpN c) else [])))∧(0 ≤ d18)∧(d18 < (List.length e18))∧(((gD (if fewErr c=0 then fewA c (wpN c) else []) d18 0) != (gD e18 d18 0))=true →
            (false=true∧(True))) ∧
           (((gD (if fewErr c=0 then fewA c (wpN c) else []) d18 0) != (gD e18 d18 0))=false →
            (I64 (d18 + (1:Int)))∧(∃ d19:Int,((True∧True∧(d18 + (1:Int))=d19∧True)∧(((if fewErr c=0 then fewA c (wpN c) else [])=(if fewErr c=0 then fewA c (wpN c) else [])∧(List.isEmpty (if fewErr c=0 then fewA c (wpN c) else []))=(List.isEmpty (if fewErr c=0 then fewA c (wpN c) else [])))∧(e18=e18∧false=false)∧True))∧q18 d19))) ∧
          ((decide (d18 < (lI (if fewErr c=0 then fewA c (wpN c) else []))))=false →
           (True)∧(true=true∧(True)))) d180)) ∧
       (((((fewErr c) != (0:Int)) || ((fewErr c) != (0:Int))) || (!(decide ((if fewErr c=0 then ((fewK c (wpN c)).length:Int) else 0)=((fewA c (wpN c)).length:Int)) && ((if fewErr c=0 then fewL c else []) == (fewL c)))))=false →
        (1 ≤ ((fewA c (wpN c)).length:Int)∧((fewA c (wpN c)).length:Int) ≤ 24∧(fewL c).length ≤ 1000∧c ≠ []∧c.length ≤ 1000∧(∀ s ∈ c,s.length=(fewL c).length))∧(false=true→(unwL ((fewA c (wpN c)).length:Int).toNat (fewL c) c)=[])∧((if fewErr c=0 then rowsX (fewL c) c else []).length ≤ 1000000)∧(((!(decide ((if fewErr c=0 then ((fewK c (wpN c)).length:Int) else 0)=((fewA c (wpN c)).length:Int)) && ((if fewErr c=0 then rowsX (fewL c) c else []) == (unwL ((fewA c (wpN c)).length:Int).toNat (fewL c) c)))) || ((lI (if fewErr c=0 then fewA c (wpN c) else [])) != (lI e13)))=true →
         (false=true∧(True))) ∧
        (((!(decide ((if fewErr c=0 then ((fewK c (wpN c)).length:Int) else 0)=((fewA c (wpN c)).length:Int)) && ((if fewErr c=0 then rowsX (fewL c) c else []) == (unwL ((fewA c (wpN c)).length:Int).toNat (fewL c) c)))) || ((lI (if fewErr c=0 then fewA c (wpN c) else [])) != (lI e13)))=false →
         ∃ (e22:(List Int)) (d220:Int),((True∧True∧(0:Int)=d220∧True)∧(((if fewErr c=0 then fewA c (wpN c) else [])=(if fewErr c=0 then fewA c (wpN c) else [])∧(List.isEmpty (if fewErr c=0 then fewA c (wpN c) else []))=(List.isEmpty (if fewErr c=0 then fewA c (wpN c) else [])))∧(e13=e22∧false=false)∧True)) ∧
         LoopP (fun (d22:Int) (q22:(Int)→Prop) =>
          ((decide (d22 < (lI (if fewErr c=0 then fewA c (wpN c) else []))))=true →
           (0 ≤ d22)∧(d22 < (List.length (if fewErr c=0 then fewA c (wpN c) else [])))∧(0 ≤ d22)∧(d22 < (List.length e22))∧(((gD (if fewErr c=0 then fewA c (wpN c) else []) d22 0) != (gD e22 d22 0))=true →
            (false=true∧(True))) ∧
           (((gD (if fewErr c=0 then fewA c (wpN c) else []) d22 0) != (gD e22 d22 0))=false →
            (I64 (d22 + (1:Int)))∧(∃ d23:Int,((True∧True∧(d22 + (1:Int))=d23∧True)∧(((if fewErr c=0 then fewA c (wpN c) else [])=(if fewErr c=0 then fewA c (wpN c) else [])∧(List.isEmpty (if fewErr c=0 then fewA c (wpN c) else []))=(List.isEmpty (if fewErr c=0 then fewA c (wpN c) else [])))∧(e22=e22∧false=false)∧True))∧q22 d23))) ∧
          ((decide (d22 < (lI (if fewErr c=0 then fewA c (wpN c) else []))))=false →
           (True)∧(true=true∧(True)))) d220)))))))))
def cx_law03_TieFewests:Cx:=⟨[(3,(.i .i64))],[(18,s_law03_large),(14,s_law03_known),(30,s_law03_cloths),(38,s_tie_Fewest),(39,s_tie_Apart),(26,s_ref03_Alike),(34,s_ref03_Fits),(40,s_ref03_Apart),(41,s_law03_none),(35,s_law03_bare),(42,s_ref03_Fewest),(17,s_ref03_Same),(37,s_ref03_Unweave),(23,s_ref01_Same)],125,[],0,[],[],[],[],false,[],[],[94]⟩
def lp_law03_TieFewests (c:List (List UInt8)):List (Nat × LoopAnn):=[(0,⟨(List Int),Int,[7,11,13],fun e x=>[.lst 29,.lst 50,.val (.i .i64) x],fun e x=>[(29,.slot 7,.lst 3 (.i .i64) (if fewErr c=0 then fewA c (wpN c) else []) (List.isEmpty (if fewErr c=0 then fewA c (wpN c) else []))),(50,.slot 11,.lst 3 (.i .i64) e false)]⟩),
 (3000038,⟨Unit,Int,[0,4,5,6,7,8,9],fun e x=>[.val (.list .st) c,.box 4 0,.box 5 0,.val (.i .i64) (fewErr c),.lst 29,.val (.i .i64) (fewErr c),.val (.i .i64) x],fun e x=>[(4,.slot 4,.cells [.val (.i .i64) (if fewErr c=0 then ((fewK c (wpN c)).length:Int) else 0),.lst 23] (some 26)),(23,.cell 4 1,.lst 3 (.i .i64) (if fewErr c=0 then fewL c else []) (List.isEmpty (if fewErr c=0 then fewL c else []))),(5,.slot 5,.cells [.val (.i .i64) (if fewErr c=0 then ((fewK c (wpN c)).length:Int) else 0),.lst 148] (some 36)),(148,.cell 5 1,.lst 3 (.i .i64) (if fewErr c=0 then rowsX (fewL c) c else []) (List.isEmpty (if fewErr c=0 then rowsX (fewL c) c else []))),(29,.slot 7,.lst 3 (.i .i64) (if fewErr c=0 then fewA c (wpN c) else []) (List.isEmpty (if fewErr c=0 then fewA c (wpN c) else [])))]⟩),
 (3000048,⟨Int,(List Int),[0,4,5,6,7,8,10,11],fun e x=>[.val (.list .st) c,.box 4 0,.box 5 0,.val (.i .i64) (fewErr c),.lst 29,.val (.i .i64) (fewErr c),.val (.i .i64) e,.lst 50],fun e x=>[(4,.slot 4,.cells [.val (.i .i64) (if fewErr c=0 then ((fewK c (wpN c)).length:Int) else 0),.lst 23] (some 26)),(23,.cell 4 1,.lst 3 (.i .i64) (if fewErr c=0 then fewL c else []) (List.isEmpty (if fewErr c=0 then fewL c else []))),(5,.slot 5,.cells [.val (.i .i64) (if fewErr c=0 then ((fewK c (wpN c)).length:Int) else 0),.lst 148] (some 36)),(148,.cell 5 1,.lst 3 (.i .i64) (if fewErr c=0 then rowsX (fewL c) c else []) (List.isEmpty (if fewErr c=0 then rowsX (fewL c) c else []))),(29,.slot 7,.lst 3 (.i .i64) (if fewErr c=0 then fewA c (wpN c) else []) (List.isEmpty (if fewErr c=0 then fewA c (wpN c) else []))),(50,.slot 11,.lst 3 (.i .i64) x false)]⟩),
 (3000053,⟨(List Int),Int,[0,4,5,6,7,8,10,11],fun e x=>[.val (.list .st) c,.box 4 0,.box 5 0,.val (.i .i64) (fewErr c),.lst 29,.val (.i .i64) (fewErr c),.val (.i .i64) x,.lst 50],fun e x=>[(4,.slot 4,.cells [.val (.i .i64) (if fewErr c=0 then ((fewK c (wpN c)).length:Int) else 0),.lst 23] (some 26)),(23,.cell 4 1,.lst 3 (.i .i64) (if fewErr c=0 then fewL c else []) (List.isEmpty (if fewErr c=0 then fewL c else []))),(5,.slot 5,.cells [.val (.i .i64) (if fewErr c=0 then ((fewK c (wpN c)).length:Int) else 0),.lst 148] (some 36)),(148,.cell 5 1,.lst 3 (.i .i64) (if fewErr c=0 then rowsX (fewL c) c else []) (List.isEmpty (if fewErr c=0 then rowsX (fewL c) c else []))),(29,.slot 7,.lst 3 (.i .i64) (if fewErr c=0 then fewA c (wpN c) else []) (List.isEmpty (if fewErr c=0 then fewA c (wpN c) else []))),(50,.slot 11,.lst 3 (.i .i64) e false)]⟩)]
set_option maxRecDepth 100000 in
theorem vq_law03_TieFewests (d:List (List UInt8)):gwp (cx_law03_TieFewests) (lp_law03_TieFewests d) c6 0 (gend [.tmp 2] (res_law03_TieFewests d) (obs_law03_TieFewests d)) (gstart 125 (AL.can al_law03_TieFewests d))=vc_law03_TieFewests d:=by kernel_rfl
abbrev Ok_law03_TieFewests:Prop:=OkC Tryz.prog 6 s_law03_TieFewests
theorem mk_law03_TieFewests (h:∀ (c:List (List UInt8)),(c.length ≤ 9223372036854775807)→vc_law03_TieFewests c):OkC Tryz.prog 6 s_law03_TieFewests :=
 okC_vc fun6 mixed (C:=cx_law03_TieFewests) (V:=fun (d:List (List UInt8))=>vc_law03_TieFewests d) ⟨(.cons ok_law03_large (.cons ok_law03_known (.cons ok_law03_cloths (.cons ok_tie_Fewest (.cons ok_tie_Apart (.cons ok_ref03_Alike (.cons ok_ref03_Fits (.cons ok_ref03_Apart (.cons ok_law03_none (.cons ok_law03_bare (.cons ok_ref03_Fewest (.cons ok_ref03_Same (.cons ok_ref03_Unweave (.cons ok_ref01_Same .nil)))))))))))))),XsOk.nil,ItsOk.nil,YlOk.nil,IysOk.nil⟩ (vq_law03_TieFewests) fun d hp=>h d hp
theorem clothErr_wp {c:List (List UInt8)} (h:clothErr c (wpN c)=0):c ≠ []∧c.length ≤ 60∧1 ≤ wpN c∧wpN c ≤ 96∧∀ s ∈ c,s.length=wpN c:=by
 obtain ⟨c1,c2,c3,c4,c5⟩:=clothErr_zero h
 refine ⟨c2,by omega,by omega,by omega,fun s hs=>by have:=(c5 s hs).1; omega⟩
theorem ok_law03_TieFewests:Ok_law03_TieFewests:=mk_law03_TieFewests fun c hcl=>by
 unfold vc_law03_TieFewests; (try delta lI gD sT I64)
 refine ⟨hcl,fun _=>(by and_intros <;> first | rfl | trivial | simp),fun hl=>?_⟩
 obtain ⟨_,_,l2,l3⟩:=largeB_false hl
 clear hl
 have l4:∀ s ∈ c,s.length ≤ 1000:=fun s hs=>by have:=l3 s hs; omega
 refine ⟨by omega,⟨by omega,l4⟩,⟨by omega,l4⟩,by omega,fun h=>by simp at h,fun _=>?_⟩
 refine ⟨(),fun d=>d=(wpN c:Int),⟨fun h=>⟨by omega,by have:=of_decide_eq_true h; omega,_,(by and_intros <;> first | rfl | trivial | simp),rfl⟩,fun h=>⟨_,(by and_intros <;> first | rfl | trivial | simp),?_⟩⟩,fun d hd=>?_⟩
 ·have:c=[]:=List.length_eq_zero_iff.1 (by have:=of_decide_eq_false h; omega)
  subst this; rfl
 subst hd
 refine ⟨by omega,clothErr c (wpN c),fun d=>d=(if clothErr c (wpN c)=0 then fewA c (wpN c) else []),⟨fun h=>⟨?_,_,(by and_intros <;> first | rfl | trivial | simp),?_⟩,fun h=>⟨_,(by and_intros <;> first | rfl | trivial | simp),?_⟩⟩,fun d8 hd8=>?_⟩
 ·have h:clothErr c (wpN c)=0:=by simpa using h
  obtain ⟨a1,a2,a3,a4,a5⟩:=clothErr_wp h
  exact ⟨a1,by omega,fun s hs=>⟨a5 s hs,l4 s hs⟩⟩
 ·have h:clothErr c (wpN c)=0:=by simpa using h
  rw [if_pos h]
 ·have h:clothErr c (wpN c) ≠ 0:=by simpa using h
  rw [if_neg h]
 have hlA:(fewA c (wpN c)).length=(fewK c (wpN c)).length:=by rw [fewK,mapFrom_length]; simp [fewA]
 refine ⟨d8,fun d=>d=fewErr c,⟨fun h=>⟨_,(by and_intros <;> first | rfl | trivial | simp),?_⟩,fun h=>⟨_,(by and_intros <;> first | rfl | trivial | simp),?_⟩⟩,fun d13 hd13=>?_⟩
 ·have h:=of_decide_eq_true h
  have h0:clothErr c (wpN c)=0:=by
   apply Classical.byContradiction
   intro h0
   rw [hd8,if_neg h0] at h
   simp at h
  rw [hd8,if_pos h0] at h
  have h1:24 < (fewK c (wpN c)).length:=by omega
  simp [fewErr,h0,h1]
 ·have h:=of_decide_eq_false h
  by_cases h0:clothErr c (wpN c)=0
  ·rw [hd8,if_pos h0] at h
   have h1:¬ 24 < (fewK c (wpN c)).length:=by omega
   simp [fewErr,h0,h1]
  ·simp [fewErr,h0]
 subst hd13
 refine ⟨fun h=>?_,fun h=>?_⟩
 ·have h:fewErr c ≠ 0:=by simpa using h
  simp [h]
 have he:fewErr c=0:=by simpa using h
 obtain ⟨z1,z2⟩:=few_zero he
 obtain ⟨a1,a2,a3,a4,a5⟩:=clothErr_wp z1
 rw [if_pos z1] at hd8
 subst hd8
 have hl:(fewL c).length=wpN c:=by simp [fewL,fewLN]
 have hAl:(fewA c (wpN c)).length ≤ 24:=by simpa [fewA] using z2
 have hA1:1 ≤ (fewA c (wpN c)).length:=by
  have h0:(0:Nat) ∈ fewAN c (wpN c):=mem_fewAN.2 ⟨by omega,newB_iff.2 fun k hk=>by omega⟩
  have:=List.length_pos_of_mem h0
  have e:(fewA c (wpN c)).length=(fewAN c (wpN c)).length:=by simp [fewA]
  omega
 have hp:∀ x ∈ fewL c,0 ≤ x∧x < ((fewA c (wpN c)).length:Int):=fun x hx=>by
  simp only [fewL,fewLN,List.mem_map,List.mem_range] at hx
  obtain ⟨w,hw,rfl⟩:=hx
  have:=(hkOf_lt (c:=c) hw).1
  have e:(fewA c (wpN c)).length=(fewAN c (wpN c)).length:=by simp [fewA]
  omega
 have hn:partF (fewL c) c=none:=partF_none.2 fun i hi=>partW_none.2 fun w hw=>by
  rw [hl] at hw
  have hm:(fewL c).getD w 0 ∈ fewL c:=getD_mem (by omega)
  have h1:=fstN_at hm
  have h2:fstN (fewL c) ((fewL c).getD w 0) < wpN c:=by have:=fstN_lt hm; omega
  have e1:(fewL c).getD w 0=((hkOf c w:Nat):Int):=fewLN_getD hw
  have e2:(fewL c).getD (fstN (fewL c) ((fewL c).getD w 0)) 0=((hkOf c (fstN (fewL c) ((fewL c).getD w 0)):Nat):Int):=fewLN_getD h2
  have h3:hkOf c (fstN (fewL c) ((fewL c).getD w 0))=hkOf c w:=by omega
  have h4:=(hkOf_eq h2 hw).1 h3
  have h5:=List.all_eq_true.1 (likeB_iff.2 h4) (c.getD i []) (by rw [getD_nat hi]; exact List.getElem_mem hi)
  exact (eq_of_beq h5).symm
 have hU:rowsX (fewL c) c=unwL ((fewA c (wpN c)).length:Int).toNat (fewL c) c:=rowsX_unwL (by omega) hp hn
 have hKA:((fewK c (wpN c)).length:Int)=((fewA c (wpN c)).length:Int):=by omega
 have hrl:(rowsX (fewL c) c).length ≤ 1000000:=by simp [rowsX]; omega
 simp only [he,if_true,hKA,hU]
 rw [hU] at hrl
 simp [a1]
 refine ⟨⟨by omega,fun s hs=>⟨a5 s hs,l4 s hs⟩⟩,by omega,⟨by omega,by omega,by omega,by omega,fun s hs=>by rw [a5 s hs,hl]⟩,by simpa using hrl,_,0,⟨rfl,rfl⟩,?_⟩
 refine LoopP.count (fewA c (wpN c)).length (fun _=>True) trivial fun k hk _ q hq=>fun hlt=>⟨by omega,hlt,by omega,hlt,rfl,fun _=>⟨by rw [InK_i64]; omega,hq (by omega) trivial⟩⟩
end Go.Proofs.Tryz