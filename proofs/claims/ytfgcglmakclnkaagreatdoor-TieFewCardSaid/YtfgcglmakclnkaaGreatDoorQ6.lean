/- A framework for walks, contracts of functions, and their proofs: part 6. -/
import Derived.Shelf.Sort.Plain
import Derived.Shelf.Slices.In.SortNone
import Derived.Test.YtfgcglmakclnkaaGreatDoorQ5
namespace Go.Proofs.Tryz
open Go Go.V
def memo0_3:Memo:=⟨[.agg #[.int .i64 4,.slice (some ⟨0,0,none⟩) 1 1],.slice (some ⟨1,0,none⟩) 1 1,.int .i64 3],[⟨[.int .i64 0],⟨1,3⟩,true⟩,⟨[.int .i64 0],⟨1,3⟩,true⟩],.tuple #[.agg #[.int .i64 4,.slice (some ⟨2,0,none⟩) 1 1],.int .i64 1,.int .i64 0],[⟨[.int .i64 1],⟨1,3⟩,false⟩]⟩
theorem memo0_3_ok:MemoOk Tryz.prog 65 memo0_3:=memo_run mixed tabt_ok 200 (by kernel_rfl) (by kernel_rfl)
def memo1_3:Memo:=⟨[.agg #[.int .i64 4,.slice (some ⟨0,0,none⟩) 1 1],.slice (some ⟨1,0,none⟩) 1 1,.int .i64 3],[⟨[.int .i64 1],⟨1,3⟩,true⟩,⟨[.int .i64 1],⟨1,3⟩,true⟩],.tuple #[.agg #[.int .i64 4,.slice (some ⟨2,0,none⟩) 1 1],.int .i64 0,.int .i64 0],[⟨[.int .i64 1],⟨1,3⟩,false⟩]⟩
theorem memo1_3_ok:MemoOk Tryz.prog 65 memo1_3:=memo_run mixed tabt_ok 200 (by kernel_rfl) (by kernel_rfl)
def memo2_3:Memo:=⟨[.agg #[.int .i64 4,.slice (some ⟨0,0,none⟩) 1 1],.slice (some ⟨1,0,none⟩) 1 1,.int .i64 3],[⟨[.int .i64 2],⟨1,3⟩,true⟩,⟨[.int .i64 2],⟨1,3⟩,true⟩],.tuple #[.agg #[.int .i64 4,.slice (some ⟨2,0,none⟩) 1 1],.int .i64 0,.int .i64 0],[⟨[.int .i64 2],⟨1,3⟩,false⟩]⟩
theorem memo2_3_ok:MemoOk Tryz.prog 65 memo2_3:=memo_run mixed tabt_ok 200 (by kernel_rfl) (by kernel_rfl)
def memo3_3:Memo:=⟨[.agg #[.int .i64 4,.slice (some ⟨0,0,none⟩) 1 1],.slice (some ⟨1,0,none⟩) 1 1,.int .i64 3],[⟨[.int .i64 3],⟨1,3⟩,true⟩,⟨[.int .i64 3],⟨1,3⟩,true⟩],.tuple #[.agg #[.int .i64 4,.slice (some ⟨2,0,none⟩) 1 1],.int .i64 0,.int .i64 0],[⟨[.int .i64 3],⟨1,3⟩,false⟩]⟩
theorem memo3_3_ok:MemoOk Tryz.prog 65 memo3_3:=memo_run mixed tabt_ok 200 (by kernel_rfl) (by kernel_rfl)
def memo4_3:Memo:=⟨[.agg #[.int .i64 4,.slice (some ⟨0,0,none⟩) 1 1],.slice (some ⟨1,0,none⟩) 1 1,.int .i64 3],[⟨[.int .i64 4],⟨1,3⟩,true⟩,⟨[.int .i64 4],⟨1,3⟩,true⟩],.tuple #[.agg #[.int .i64 4,.slice (some ⟨2,0,none⟩) 1 1],.int .i64 0,.int .i64 0],[⟨[.int .i64 4],⟨1,3⟩,false⟩]⟩
theorem memo4_3_ok:MemoOk Tryz.prog 65 memo4_3:=memo_run mixed tabt_ok 200 (by kernel_rfl) (by kernel_rfl)
def memo5_3:Memo:=⟨[.agg #[.int .i64 4,.slice (some ⟨0,0,none⟩) 1 1],.slice (some ⟨1,0,none⟩) 1 1,.int .i64 3],[⟨[.int .i64 5],⟨1,3⟩,true⟩,⟨[.int .i64 5],⟨1,3⟩,true⟩],.tuple #[.agg #[.int .i64 4,.slice (some ⟨2,0,none⟩) 1 1],.int .i64 0,.int .i64 0],[⟨[.int .i64 5],⟨1,3⟩,false⟩]⟩
theorem memo5_3_ok:MemoOk Tryz.prog 65 memo5_3:=memo_run mixed tabt_ok 200 (by kernel_rfl) (by kernel_rfl)
def memo6_3:Memo:=⟨[.agg #[.int .i64 4,.slice (some ⟨0,0,none⟩) 1 1],.slice (some ⟨1,0,none⟩) 1 1,.int .i64 3],[⟨[.int .i64 6],⟨1,3⟩,true⟩,⟨[.int .i64 6],⟨1,3⟩,true⟩],.tuple #[.agg #[.int .i64 4,.slice (some ⟨2,0,none⟩) 1 1],.int .i64 0,.int .i64 0],[⟨[.int .i64 6],⟨1,3⟩,false⟩]⟩
theorem memo6_3_ok:MemoOk Tryz.prog 65 memo6_3:=memo_run mixed tabt_ok 200 (by kernel_rfl) (by kernel_rfl)
def memo7_3:Memo:=⟨[.agg #[.int .i64 4,.slice (some ⟨0,0,none⟩) 1 1],.slice (some ⟨1,0,none⟩) 1 1,.int .i64 3],[⟨[.int .i64 7],⟨1,3⟩,true⟩,⟨[.int .i64 7],⟨1,3⟩,true⟩],.tuple #[.agg #[.int .i64 4,.slice (some ⟨2,0,none⟩) 1 1],.int .i64 0,.int .i64 0],[⟨[.int .i64 7],⟨1,3⟩,false⟩]⟩
theorem memo7_3_ok:MemoOk Tryz.prog 65 memo7_3:=memo_run mixed tabt_ok 200 (by kernel_rfl) (by kernel_rfl)
def memo8_3:Memo:=⟨[.agg #[.int .i64 4,.slice (some ⟨0,0,none⟩) 1 1],.slice (some ⟨1,0,none⟩) 1 1,.int .i64 3],[⟨[.int .i64 8],⟨1,3⟩,true⟩,⟨[.int .i64 8],⟨1,3⟩,true⟩],.tuple #[.agg #[.int .i64 4,.slice (some ⟨2,0,none⟩) 1 1],.int .i64 0,.int .i64 0],[⟨[.int .i64 8],⟨1,3⟩,false⟩]⟩
theorem memo8_3_ok:MemoOk Tryz.prog 65 memo8_3:=memo_run mixed tabt_ok 200 (by kernel_rfl) (by kernel_rfl)
def memo9_3:Memo:=⟨[.agg #[.int .i64 4,.slice (some ⟨0,0,none⟩) 1 1],.slice (some ⟨1,0,none⟩) 1 1,.int .i64 3],[⟨[.int .i64 9],⟨1,3⟩,true⟩,⟨[.int .i64 9],⟨1,3⟩,true⟩],.tuple #[.agg #[.int .i64 4,.slice (some ⟨2,0,none⟩) 1 1],.int .i64 0,.int .i64 0],[⟨[.int .i64 9],⟨1,3⟩,false⟩]⟩
theorem memo9_3_ok:MemoOk Tryz.prog 65 memo9_3:=memo_run mixed tabt_ok 200 (by kernel_rfl) (by kernel_rfl)
def memo10_3:Memo:=⟨[.agg #[.int .i64 4,.slice (some ⟨0,0,none⟩) 1 1],.slice (some ⟨1,0,none⟩) 1 1,.int .i64 3],[⟨[.int .i64 10],⟨1,3⟩,true⟩,⟨[.int .i64 10],⟨1,3⟩,true⟩],.tuple #[.agg #[.int .i64 4,.slice (some ⟨2,0,none⟩) 1 1],.int .i64 0,.int .i64 0],[⟨[.int .i64 10],⟨1,3⟩,false⟩]⟩
theorem memo10_3_ok:MemoOk Tryz.prog 65 memo10_3:=memo_run mixed tabt_ok 200 (by kernel_rfl) (by kernel_rfl)
def memo11_3:Memo:=⟨[.agg #[.int .i64 4,.slice (some ⟨0,0,none⟩) 1 1],.slice (some ⟨1,0,none⟩) 1 1,.int .i64 3],[⟨[.int .i64 11],⟨1,3⟩,true⟩,⟨[.int .i64 11],⟨1,3⟩,true⟩],.tuple #[.agg #[.int .i64 4,.slice (some ⟨2,0,none⟩) 1 1],.int .i64 0,.int .i64 0],[⟨[.int .i64 11],⟨1,3⟩,false⟩]⟩
theorem memo11_3_ok:MemoOk Tryz.prog 65 memo11_3:=memo_run mixed tabt_ok 200 (by kernel_rfl) (by kernel_rfl)
def memo12_3:Memo:=⟨[.agg #[.int .i64 4,.slice (some ⟨0,0,none⟩) 1 1],.slice (some ⟨1,0,none⟩) 1 1,.int .i64 3],[⟨[.int .i64 12],⟨1,3⟩,true⟩,⟨[.int .i64 12],⟨1,3⟩,true⟩],.tuple #[.agg #[.int .i64 4,.slice (some ⟨2,0,none⟩) 1 1],.int .i64 0,.int .i64 0],[⟨[.int .i64 12],⟨1,3⟩,false⟩]⟩
theorem memo12_3_ok:MemoOk Tryz.prog 65 memo12_3:=memo_run mixed tabt_ok 200 (by kernel_rfl) (by kernel_rfl)
def memo13_3:Memo:=⟨[.agg #[.int .i64 4,.slice (some ⟨0,0,none⟩) 1 1],.slice (some ⟨1,0,none⟩) 1 1,.int .i64 3],[⟨[.int .i64 13],⟨1,3⟩,true⟩,⟨[.int .i64 13],⟨1,3⟩,true⟩],.tuple #[.agg #[.int .i64 4,.slice (some ⟨2,0,none⟩) 1 1],.int .i64 0,.int .i64 0],[⟨[.int .i64 13],⟨1,3⟩,false⟩]⟩
theorem memo13_3_ok:MemoOk Tryz.prog 65 memo13_3:=memo_run mixed tabt_ok 200 (by kernel_rfl) (by kernel_rfl)
def memo14_3:Memo:=⟨[.agg #[.int .i64 4,.slice (some ⟨0,0,none⟩) 1 1],.slice (some ⟨1,0,none⟩) 1 1,.int .i64 3],[⟨[.int .i64 14],⟨1,3⟩,true⟩,⟨[.int .i64 14],⟨1,3⟩,true⟩],.tuple #[.agg #[.int .i64 4,.slice (some ⟨2,0,none⟩) 1 1],.int .i64 0,.int .i64 0],[⟨[.int .i64 14],⟨1,3⟩,false⟩]⟩
theorem memo14_3_ok:MemoOk Tryz.prog 65 memo14_3:=memo_run mixed tabt_ok 200 (by kernel_rfl) (by kernel_rfl)
def memo15_3:Memo:=⟨[.agg #[.int .i64 4,.slice (some ⟨0,0,none⟩) 1 1],.slice (some ⟨1,0,none⟩) 1 1,.int .i64 3],[⟨[.int .i64 15],⟨1,3⟩,true⟩,⟨[.int .i64 15],⟨1,3⟩,true⟩],.tuple #[.agg #[.int .i64 0,.slice none 0 0],.int .i64 0,.int .i64 9],[]⟩
theorem memo15_3_ok:MemoOk Tryz.prog 65 memo15_3:=memo_run mixed tabt_ok 200 (by kernel_rfl) (by kernel_rfl)
end Go.Proofs.Tryz
namespace Go.Proofs.Tryz
open Go Go.V
def memos:List Memo:=[memo0_2,memo1_2,memo2_2,memo3_2,memo4_2,memo5_2,memo6_2,memo7_2,memo8_2,memo9_2,memo10_2,memo11_2,memo12_2,memo13_2,memo14_2,memo15_2,memo0_3,memo1_3,memo2_3,memo3_3,memo4_3,memo5_3,memo6_3,memo7_3,memo8_3,memo9_3,memo10_3,memo11_3,memo12_3,memo13_3,memo14_3,memo15_3]
theorem memos_ok:∀ m∈memos,MemoOk Tryz.prog 65 m:=by
 intro m hm
 simp only[memos,List.mem_cons,List.not_mem_nil,or_false] at hm
 rcases hm with rfl|rfl|rfl|rfl|rfl|rfl|rfl|rfl|rfl|rfl|rfl|rfl|rfl|rfl|rfl|rfl|rfl|rfl|rfl|rfl|rfl|rfl|rfl|rfl|rfl|rfl|rfl|rfl|rfl|rfl|rfl|rfl
 ·exact memo0_2_ok
 ·exact memo1_2_ok
 ·exact memo2_2_ok
 ·exact memo3_2_ok
 ·exact memo4_2_ok
 ·exact memo5_2_ok
 ·exact memo6_2_ok
 ·exact memo7_2_ok
 ·exact memo8_2_ok
 ·exact memo9_2_ok
 ·exact memo10_2_ok
 ·exact memo11_2_ok
 ·exact memo12_2_ok
 ·exact memo13_2_ok
 ·exact memo14_2_ok
 ·exact memo15_2_ok
 ·exact memo0_3_ok
 ·exact memo1_3_ok
 ·exact memo2_3_ok
 ·exact memo3_3_ok
 ·exact memo4_3_ok
 ·exact memo5_3_ok
 ·exact memo6_3_ok
 ·exact memo7_3_ok
 ·exact memo8_3_ok
 ·exact memo9_3_ok
 ·exact memo10_3_ok
 ·exact memo11_3_ok
 ·exact memo12_3_ok
 ·exact memo13_3_ok
 ·exact memo14_3_ok
 ·exact memo15_3_ok
noncomputable def tabL:List (Option FEnt):=[
 none,
 none,
 some (.code c2 [] 1),
 some (.code c3 [.tmp 4] 65),
 some (.code c4 [.tmp 6] 106),
 some (.code c5 [.tmp 4] 131),
 some (.code c6 [.tmp 2] 125),
 some (.code c7 [.tmp 4] 113),
 some (.code c8 [.tmp 4] 326),
 some (.code c9 [.tmp 4] 274),
 some (.code c10 [.tmp 4] 143),
 some (.code c11 [.tmp 4] 189),
 some (.code c12 [.tmp 4] 298),
 some (.code c13 [.tmp 4] 185),
 some (.code c14 [.tmp 0] 239),
 some (.code c15 [.cell 4 true 2,.tmp 5,.tmp 6] 78),
 some (.code c16 [.cell 4 true 2,.tmp 5,.tmp 6] 84),
 some (.code c17 [.tmp 4] 38),
 some (.code c18 [.tmp 6] 35),
 some (.code c19 [.cell 2 true 2] 10),
 some (.code c20 [.cell 2 true 2] 10),
 some (.code c21 [.tmp 4,.tmp 5] 43),
 some (.code c22 [.cell 6 false 1,.tmp 7] 49),
 some (.code c23 [.tmp 4] 28),
 some (.code c24 [.tmp 4] 22),
 some (.code c25 [.tmp 4] 46),
 some (.code c26 [.tmp 4] 26),
 some (.code c27 [.tmp 6] 15),
 some (.code c28 [.tmp 4] 26),
 some (.code c29 [.tmp 4] 50),
 some (.code c30 [.tmp 2] 6),
 some (.code c31 [.cell 4 true 2,.tmp 5] 33),
 some (.code c32 [.tmp 4,.tmp 5,.tmp 6,.tmp 7] 30),
 some (.code c33 [.tmp 2] 33),
 some (.code c34 [.tmp 4] 52),
 some (.code c35 [.tmp 2] 12),
 some (.code c36 [.cell 4 true 3,.tmp 5] 47),
 some (.code c37 [.cell 4 true 2] 48),
 some (.code c38 [.cell 2 true 2,.cell 3 true 2,.tmp 4] 20),
 some (.codeJ c39 [.tmp 2,.tmp 3] 30),
 some (.code c40 [.tmp 2] 35),
 some (.code c41 [.tmp 2] 12),
 some (.code c42 [.cell 2 true 2] 41),
 some (.code c43 [.tmp 4,.tmp 5,.tmp 6] 40),
 some (.code c44 [.tmp 4] 31),
 some (.code c45 [.tmp 6] 22),
 some (.code c46 [.tmp 2] 22),
 some (.code c47 [.cell 4 true 2] 8),
 some (.code c48 [.cell 2 true 2] 48),
 some (.code c49 [.cell 2 true 2] 51),
 some (.code c50 [.tmp 6] 25),
 some (.code c51 [.tmp 2] 22),
 some (.code c52 [.tmp 4] 38),
 some (.code c53 [.tmp 4] 26),
 some (.code c54 [.cell 8 true 4] 14),
 some (.code c55 [.cell 4 true 2,.tmp 5] 67),
 some (.code c56 [.cell 2 true 2,.tmp 3] 28),
 some (.code c57 [.tmp 4] 45),
 some (.code c58 [.tmp 2] 27),
 some (.code c59 [.cell 4 true 2,.tmp 5] 48),
 some (.code c60 [.tmp 2,.tmp 3] 39),
 some (.code c61 [.tmp 2,.tmp 3] 37),
 some (.code c62 [.tmp 2,.tmp 3] 40),
 some (.code c63 [.tmp 2] 35),
 some (.code c64 [.tmp 2] 55),
 some (.codeM c65 [.cell 6 true 2,.tmp 7,.tmp 8] 84 memos),
 some (.code c66 [.cell 6 false 1,.tmp 7] 42),
 some (.code c67 [.tmp 6] 11),
 some (.code c68 [.tmp 4] 48),
 some (.code c69 [.tmp 2] 32),
 some (.code c70 [.tmp 2] 50),
 some (.code c71 [.tmp 2] 28),
 some (.code c72 [.tmp 4] 22),
 some (.code c73 [] 64),
 some (.code c74 [.tmp 4] 19),
 some (.code c75 [.tmp 2] 35),
 some (.code c76 [.tmp 2] 25),
 some (.code c77 [.tmp 2] 20),
 some (.code c78 [.tmp 4] 56),
 some (.code c79 [.tmp 4] 16),
 some (.code c80 [.tmp 4,.tmp 5,.tmp 6,.tmp 7] 47),
 some (.code c81 [.cell 4 true 2] 47),
 some (.code c82 [.tmp 4] 21),
 some (.code c83 [.cell 2 true 2] 27),
 some (.code c84 [.cell 2 true 2,.tmp 3] 61),
 some (.code c85 [.tmp 2] 17),
 some (.code c86 [] 11),
 some (.code c87 [.tmp 6] 27),
 some (.code c88 [.cell 4 true 2] 59),
 some (.code c89 [.tmp 2,.cell 3 true 2] 47),
 some (.code c90 [.tmp 4] 22),
 some (.code c91 [.tmp 2] 18),
 some (.code c92 [.cell 6 true 2] 38),
 some (.code c93 [.tmp 6] 17),
 some (.code c94 [.tmp 6] 26),
 some (.code c95 [.tmp 2] 36),
 some (.code c96 [.tmp 4] 26),
 some (.code c97 [.tmp 5] 23),
 some (.code c98 [.tmp 6] 11),
 some (.code c99 [.tmp 2,.tmp 3] 102),
 some (.code c100 [.tmp 4] 21),
 some (.code c101 [.tmp 4] 9),
 some (.code c102 [.tmp 4] 13),
 some (.code c103 [.tmp 4,.tmp 5] 30),
 some (.code c104 [.tmp 2] 5),
 some (.code c105 [.tmp 4] 6),
 some (.code c106 [.tmp 4] 17),
 some (.code c107 [.tmp 2] 4),
 some (.code c108 [.tmp 6] 17),
 some (.code c109 [.tmp 2] 14),
 some (.code c110 [.tmp 3] 18),
 some (.code c111 [.tmp 6] 15),
 some (.code c112 [.tmp 4] 23),
 some (.code c113 [.tmp 2] 21),
 some (.code c114 [.tmp 4] 20),
 some (.code c115 [.tmp 2] 4),
 some (.code c116 [] 134),
 some (.code c117 [.tmp 2] 8),
 some (.code c118 [.tmp 6] 36),
 some (.code c119 [.tmp 4] 27),
 some (.code c120 [.tmp 4] 13),
 some (.code c121 [.cell 4 true 4] 20),
 some (.code c122 [.tmp 6] 29),
 some (.code c123 [.tmp 4] 81),
 some (.code c124 [.tmp 2] 4),
 some (.code c125 [.cell 6 true 4,.tmp 7] 40),
 some (.code c126 [.tmp 4] 27),
 some (.code c127 [.tmp 4] 25),
 some (.code c128 [] 37),
 some (.code c129 [] 50),
 some (.code c130 [.tmp 4] 19),
 some (.code c131 [.tmp 4,.tmp 5] 17),
 some (.code c132 [.tmp 4,.tmp 5] 51),
 some (.code c133 [.tmp 4] 13),
 some (.code c134 [] 22),
 some (.code c135 [] 20),
 some (.code c136 [.tmp 3] 13),
 some (.code c137 [.tmp 4] 43),
 some (.code c138 [.tmp 4] 9),
 some (.code c139 [] 19),
 some (.code c140 [] 49),
 some (.code c141 [] 56),
 some (.code c142 [] 65),
 some (.code c143 [.tmp 6,.tmp 7] 57),
 some (.code c144 [] 32),
 some (.code c145 [.tmp 6] 133),
 some (.code c146 [.tmp 4] 17),
 some (.code c147 [.tmp 8] 84),
 some (.code c148 [.tmp 8,.tmp 9] 168),
 some (.code c149 [.tmp 2] 19),
 some (.code c150 [.tmp 2] 25),
 some (.code c151 [.tmp 3] 20),
 some .same,
 some (.code c153 [.tmp 4] 17),
 some (.code c154 [.tmp 4] 23),
 some (.code c155 [.cell 2 true 256,.tmp 3] 21),
 some (.code c156 [.tmp 4] 16),
 some (.code c157 [.tmp 4] 22),
 some (.code c158 [.tmp 4] 23),
 some (.code c159 [.tmp 4] 34),
 some (.code c160 [.tmp 4] 19),
 some (.code c161 [] 76),
 some (.code c162 [.tmp 2] 7),
 some (.code c163 [.tmp 2] 33),
 some (.code c164 [.tmp 6] 15),
 some (.code c165 [.tmp 10] 36),
 some (.code c166 [.tmp 2] 6),
 some (.code c167 [.tmp 4] 10),
 some (.code c168 [.tmp 2,.tmp 3] 19),
 some (.code c169 [.tmp 4] 9),
 some (.code c170 [.tmp 2,.tmp 3] 51),
 some (.code c171 [.tmp 8,.tmp 9] 28),
 some (.code c172 [.tmp 2,.tmp 3] 117),
 some (.code c173 [.tmp 4] 187),
 some (.code c174 [.tmp 2] 6),
 some (.code c175 [.tmp 4] 8),
 some (.code c176 [.tmp 2] 17),
 some (.code c177 [.tmp 2] 6),
 none,
 some (.code c179 [.tmp 4] 8)]
noncomputable def tab:Tab:=fun f=>(tabL[f]?).join
theorem tabL_ok:EntsOk Tryz.prog 0 tabL:=⟨trivial,trivial,fun2,fun3,fun4,fun5,fun6,fun7,fun8,fun9,fun10,fun11,fun12,fun13,fun14,fun15,fun16,fun17,fun18,fun19,fun20,fun21,fun22,fun23,fun24,fun25,fun26,fun27,fun28,fun29,fun30,fun31,fun32,fun33,fun34,fun35,fun36,fun37,fun38,fun39,fun40,fun41,fun42,fun43,fun44,fun45,fun46,fun47,fun48,fun49,fun50,fun51,fun52,fun53,fun54,fun55,fun56,fun57,fun58,fun59,fun60,fun61,fun62,fun63,fun64,⟨fun65,memos_ok⟩,fun66,fun67,fun68,fun69,fun70,fun71,fun72,fun73,fun74,fun75,fun76,fun77,fun78,fun79,fun80,fun81,fun82,fun83,fun84,fun85,fun86,fun87,fun88,fun89,fun90,fun91,fun92,fun93,fun94,fun95,fun96,fun97,fun98,fun99,fun100,fun101,fun102,fun103,fun104,fun105,fun106,fun107,fun108,fun109,fun110,fun111,fun112,fun113,fun114,fun115,fun116,fun117,fun118,fun119,fun120,fun121,fun122,fun123,fun124,fun125,fun126,fun127,fun128,fun129,fun130,fun131,fun132,fun133,fun134,fun135,fun136,fun137,fun138,fun139,fun140,fun141,fun142,fun143,fun144,fun145,fun146,fun147,fun148,fun149,fun150,fun151,same152,fun153,fun154,fun155,fun156,fun157,fun158,fun159,fun160,fun161,fun162,fun163,fun164,fun165,fun166,fun167,fun168,fun169,fun170,fun171,fun172,fun173,fun174,fun175,fun176,fun177,trivial,fun179,trivial⟩
theorem tab_ok:TabOk Tryz.prog tab:=tabOk_of tabL_ok
theorem known_run:veval tab 300 boolOps [] c14 none (ET.of [] 239) CH.empty (eend false [.tmp 0] fun v _=>isTrue v)=true:=by kernel_rfl
theorem known_ok {σ:Heap} {K:Value→Heap→Prop} (hK:K (.bool true) σ):VCalled Tryz.prog 14 [] σ K:=run_true mixed tab_ok 300 fun14 (by decide) known_run hK
end Go.Proofs.Tryz
set_option linter.unusedVariables false
namespace Go.Proofs.Tryz
open Go Go.V Go.Proofs
def al_law03_known:AL (Unit):=.nil
def pre_law03_known (d:Unit):Prop:=True
def res_law03_known (d:Unit):SV:=.val .bo true
def obs_law03_known (d:Unit):List OB:=[]
def s_law03_known:CSp:=mkSp al_law03_known pre_law03_known res_law03_known obs_law03_known
abbrev Ok_law03_known:Prop:=OkC Tryz.prog 14 s_law03_known
theorem ok_law03_known:Ok_law03_known:=okC_true fun _ _ h=>known_ok h
end Go.Proofs.Tryz
set_option linter.unusedVariables false
namespace Go.Proofs.Tryz
open Go Go.V Go.Proofs
def al_law03_own:AL (Int×List Int):=(.one (.agg (.cons (.k (.i .i64)) (.one (.k (.list (.i .i64)))))))
def pre_law03_own (d:Int×List Int):Prop:=d.2.length≤1000
def res_law03_own (d:Int×List Int):SV:=.agg [.val (.i .i64) d.1,.lst 0]
def obs_law03_own (d:Int×List Int):List OB:=[.lst 3 (.i .i64) d.2 false]
def s_law03_own:CSp:=mkSp al_law03_own pre_law03_own res_law03_own obs_law03_own
def vc_law03_own (hk:Int) (lw:List Int):Prop :=
 (((List.length ([]:List Int))+(List.length lw))*8≤70368744177664)∧((hk=hk∧True∧(([]:List SV)=[]))∧(((([]:List Int)++lw)=lw∧((List.isEmpty lw)&&false)=false)∧True))
def cx_law03_own:Cx:=⟨[(3,(.i .i64))],[],10,[],0,[],[],[],[],false,[],[],[]⟩
def lp_law03_own (hk:Int) (lw:List Int):List (Nat×LoopAnn):=[]
set_option maxRecDepth 100000 in
theorem vq_law03_own (d:Int×List Int):gwp (cx_law03_own) (lp_law03_own d.1 d.2) c19 0 (gend [.cell 2 true 2] (res_law03_own d) (obs_law03_own d)) (gstart 10 (AL.can al_law03_own d))=vc_law03_own d.1 d.2:=by kernel_rfl
abbrev Ok_law03_own:Prop:=OkC Tryz.prog 19 s_law03_own
theorem mk_law03_own (h:∀ (hk:Int) (lw:List Int),(lw.length≤1000)→vc_law03_own hk lw):OkC Tryz.prog 19 s_law03_own :=
 okC_vc fun19 mixed (C:=cx_law03_own) (V:=fun (d:Int×List Int)=>vc_law03_own d.1 d.2) ⟨.nil,XsOk.nil,ItsOk.nil,YlOk.nil,IysOk.nil⟩ (vq_law03_own) fun d hp=>h d.1 d.2 hp
theorem ok_law03_own:Ok_law03_own:=mk_law03_own fun hk lw h=>by
 have h1:lw.length*8≤70368744177664:=by omega
 simp[vc_law03_own,h1]
def al_law03_ours:AL (Int×List Int):=(.one (.agg (.cons (.k (.i .i64)) (.one (.k (.list (.i .i64)))))))
def pre_law03_ours (d:Int×List Int):Prop:=d.2.length≤1000
def res_law03_ours (d:Int×List Int):SV:=.agg [.val (.i .i64) d.1,.lst 0]
def obs_law03_ours (d:Int×List Int):List OB:=[.lst 3 (.i .i64) d.2 false]
def s_law03_ours:CSp:=mkSp al_law03_ours pre_law03_ours res_law03_ours obs_law03_ours
def vc_law03_ours (hd:Int) (rows:List Int):Prop :=
 (((List.length ([]:List Int))+(List.length rows))*8≤70368744177664)∧((hd=hd∧True∧(([]:List SV)=[]))∧(((([]:List Int)++rows)=rows∧((List.isEmpty rows)&&false)=false)∧True))
def cx_law03_ours:Cx:=⟨[(3,(.i .i64))],[],10,[],0,[],[],[],[],false,[],[],[]⟩
def lp_law03_ours (hd:Int) (rows:List Int):List (Nat×LoopAnn):=[]
set_option maxRecDepth 100000 in
theorem vq_law03_ours (d:Int×List Int):gwp (cx_law03_ours) (lp_law03_ours d.1 d.2) c20 0 (gend [.cell 2 true 2] (res_law03_ours d) (obs_law03_ours d)) (gstart 10 (AL.can al_law03_ours d))=vc_law03_ours d.1 d.2:=by kernel_rfl
abbrev Ok_law03_ours:Prop:=OkC Tryz.prog 20 s_law03_ours
theorem mk_law03_ours (h:∀ (hd:Int) (rows:List Int),(rows.length≤1000)→vc_law03_ours hd rows):OkC Tryz.prog 20 s_law03_ours :=
 okC_vc fun20 mixed (C:=cx_law03_ours) (V:=fun (d:Int×List Int)=>vc_law03_ours d.1 d.2) ⟨.nil,XsOk.nil,ItsOk.nil,YlOk.nil,IysOk.nil⟩ (vq_law03_ours) fun d hp=>h d.1 d.2 hp
theorem ok_law03_ours:Ok_law03_ours:=mk_law03_ours fun hd rows h=>by
 have h1:rows.length*8≤70368744177664:=by omega
 simp[vc_law03_ours,h1]
end Go.Proofs.Tryz
set_option linter.unusedVariables false
namespace Go.Proofs.Tryz
open Go Go.V Go.Proofs
def al_strings_Trim:AL (List UInt8×List UInt8):=(.cons (.k .st) (.one (.k .st)))
def pre_strings_Trim (d:List UInt8×List UInt8):Prop:=d.1.length≤1000000∧(d.2:List UInt8).length≤1000∧(d.2:List UInt8).all (fun b=>decide (b.toNat<128))=true
def res_strings_Trim (d:List UInt8×List UInt8):SV:=.val .st (Lib.trimS d.1 d.2)
def obs_strings_Trim (d:List UInt8×List UInt8):List OB:=[]
def s_strings_Trim:CSp:=mkSp al_strings_Trim pre_strings_Trim res_strings_Trim obs_strings_Trim
abbrev Ok_strings_Trim:Prop:=OkC Tryz.prog 137 s_strings_Trim
theorem ok_strings_Trim:Ok_strings_Trim:=okC_ss_s fun137.enterable fun a b h w=>by
 obtain⟨h1,h2,h3⟩:=h
 dsimp only at h1 h2 h3
 exact Any.strings_Trim_laid Tryz.lays160 (by kernel_rfl) ⟨a.toArray⟩ ⟨b.toArray⟩ w (by show a.toArray.size≤_;simp;omega) (by show b.toArray.size<_;simp;omega) (ascii_of_all h3)
def al_law03_cloths:AL (List (List UInt8)):=(.one (.k (.list .st)))
def pre_law03_cloths (d:List (List UInt8)):Prop:=d.length≤1000
def res_law03_cloths (d:List (List UInt8)):SV:=.lst 0
def obs_law03_cloths (d:List (List UInt8)):List OB:=[.lst 9 .st d false]
def s_law03_cloths:CSp:=mkSp al_law03_cloths pre_law03_cloths res_law03_cloths obs_law03_cloths
def vc_law03_cloths (c:List (List UInt8)):Prop :=
 (((List.length ([]:List (List UInt8)))+(List.length c))*16≤70368744177664)∧(True∧(((([]:List (List UInt8))++c)=c∧((List.isEmpty c)&&false)=false)∧True))
def cx_law03_cloths:Cx:=⟨[(9,.st)],[],6,[],0,[],[],[],[],false,[],[],[]⟩
def lp_law03_cloths (c:List (List UInt8)):List (Nat×LoopAnn):=[]
set_option maxRecDepth 100000 in
theorem vq_law03_cloths (d:List (List UInt8)):gwp (cx_law03_cloths) (lp_law03_cloths d) c30 0 (gend [.tmp 2] (res_law03_cloths d) (obs_law03_cloths d)) (gstart 6 (AL.can al_law03_cloths d))=vc_law03_cloths d:=by kernel_rfl
abbrev Ok_law03_cloths:Prop:=OkC Tryz.prog 30 s_law03_cloths
theorem mk_law03_cloths (h:∀ (c:List (List UInt8)),(c.length≤1000)→vc_law03_cloths c):OkC Tryz.prog 30 s_law03_cloths :=
 okC_vc fun30 mixed (C:=cx_law03_cloths) (V:=fun (d:List (List UInt8))=>vc_law03_cloths d) ⟨.nil,XsOk.nil,ItsOk.nil,YlOk.nil,IysOk.nil⟩ (vq_law03_cloths) fun d hp=>h d hp
theorem ok_law03_cloths:Ok_law03_cloths:=mk_law03_cloths fun c h=>by
 unfold vc_law03_cloths;(try delta lI gD sT I64)
 (try simp only[decide_eq_true_eq,decide_eq_false_iff_not])
 refine⟨by simp only[List.length_nil];omega,by simp⟩
def al_slices_IndexFunc_string_string:AL (List (List UInt8)×((List UInt8→Prop)×(List UInt8→Bool))):=(.cons (.k (.list .st)) (.one (.fn [.st] .bo)))
def pre_slices_IndexFunc_string_string (d:List (List UInt8)×((List UInt8→Prop)×(List UInt8→Bool))):Prop:=d.1.length≤1000000∧∀ x∈d.1,d.2.1 x
def res_slices_IndexFunc_string_string (d:List (List UInt8)×((List UInt8→Prop)×(List UInt8→Bool))):SV:=.val (.i .i64) (idxG d.1 d.2.2)
def obs_slices_IndexFunc_string_string (d:List (List UInt8)×((List UInt8→Prop)×(List UInt8→Bool))):List OB:=[]
def s_slices_IndexFunc_string_string:CSp:=mkSp al_slices_IndexFunc_string_string pre_slices_IndexFunc_string_string res_slices_IndexFunc_string_string obs_slices_IndexFunc_string_string
def vc_slices_IndexFunc_string_string (l:List (List UInt8)) (p:(List UInt8→Prop)×(List UInt8→Bool)):Prop :=
 ∃ (e2:Unit) (d20:Int),((l=l∧(SV.pf [.st] .bo p.1 p.2=SV.pf [.st] .bo p.1 p.2)∧(lI l)=(lI l)∧(0:Int)=d20∧True)∧(True)) ∧
 LoopP (fun (d2:Int) (q2:(Int)→Prop) =>
  ((decide (d2<(lI l)))=true →
   (0≤d2)∧(d2<(List.length l))∧(p.1 (gD l d2 []))∧((p.2 (gD l d2 []))=true →
    (d2=(idxG l p.2)∧(True))) ∧
   ((p.2 (gD l d2 []))=false →
    (I64 (d2+(1:Int)))∧(∃ d3:Int,((l=l∧(SV.pf [.st] .bo p.1 p.2=SV.pf [.st] .bo p.1 p.2)∧(lI l)=(lI l)∧(d2+(1:Int))=d3∧True)∧(True))∧q2 d3))) ∧
  ((decide (d2<(lI l)))=false →
   ((-1:Int)=(idxG l p.2)∧(True)))) d20
def cx_slices_IndexFunc_string_string:Cx:=⟨[],[],19,[],0,[],[],[],[],false,[],[],[]⟩
def lp_slices_IndexFunc_string_string (l:List (List UInt8)) (p:(List UInt8→Prop)×(List UInt8→Bool)):List (Nat×LoopAnn):=[(0,⟨Unit,Int,[0,1,7,8],fun e x=>[.val (.list .st) l,.pf [.st] .bo p.1 p.2,.val (.i .i64) (((List.length l):Nat):Int),.val (.i .i64) x],fun e x=>[]⟩)]
set_option maxRecDepth 100000 in
theorem vq_slices_IndexFunc_string_string (d:List (List UInt8)×((List UInt8→Prop)×(List UInt8→Bool))):gwp (cx_slices_IndexFunc_string_string) (lp_slices_IndexFunc_string_string d.1 d.2) c160 0 (gend [.tmp 4] (res_slices_IndexFunc_string_string d) (obs_slices_IndexFunc_string_string d)) (gstart 19 (AL.can al_slices_IndexFunc_string_string d))=vc_slices_IndexFunc_string_string d.1 d.2:=by kernel_rfl
abbrev Ok_slices_IndexFunc_string_string:Prop:=OkC Tryz.prog 160 s_slices_IndexFunc_string_string
theorem mk_slices_IndexFunc_string_string (h:∀ (l:List (List UInt8)) (p:(List UInt8→Prop)×(List UInt8→Bool)),(l.length≤1000000∧∀ x∈l,p.1 x)→vc_slices_IndexFunc_string_string l p):OkC Tryz.prog 160 s_slices_IndexFunc_string_string :=
 okC_vc fun160 mixed (C:=cx_slices_IndexFunc_string_string) (V:=fun (d:List (List UInt8)×((List UInt8→Prop)×(List UInt8→Bool)))=>vc_slices_IndexFunc_string_string d.1 d.2) ⟨.nil,XsOk.nil,ItsOk.nil,YlOk.nil,IysOk.nil⟩ (vq_slices_IndexFunc_string_string) fun d hp=>h d.1 d.2 hp
theorem ok_slices_IndexFunc_string_string:Ok_slices_IndexFunc_string_string:=mk_slices_IndexFunc_string_string fun l p hp=>by
 unfold vc_slices_IndexFunc_string_string;(try delta lI gD sT I64);simp only[true_and,and_true,exists_eq_left',exists_const,decide_eq_true_eq,decide_eq_false_iff_not]
 refine LoopP.count l.length (fun k=>(l.take k).any p.2=false) (by simp) fun k hk1 hJ q hq=>?_
 simp only[Int.toNat_natCast,Int.ofNat_lt,InK_i64]
 refine⟨fun hlt=>?_,fun hge=>?_⟩
 ·have hlt:k<l.length:=by omega
  rw[getD_nat hlt]
  refine⟨by omega,by omega,hp.2 _ (List.getElem_mem hlt),fun hx=>?_,fun hx=>⟨by omega,hq hlt ?_⟩⟩
  ·rw[idxG_some hlt hx hJ]
  ·rw[take_succ_eq hlt,List.any_append,hJ];simp[hx]
 ·rw[List.take_of_length_le (by omega)] at hJ
  rw[idxG_none hJ]
def al_slices_ContainsFunc_string_string:AL (List (List UInt8)×((List UInt8→Prop)×(List UInt8→Bool))):=(.cons (.k (.list .st)) (.one (.fn [.st] .bo)))
def pre_slices_ContainsFunc_string_string (d:List (List UInt8)×((List UInt8→Prop)×(List UInt8→Bool))):Prop:=d.1.length≤1000000∧∀ x∈d.1,d.2.1 x
def res_slices_ContainsFunc_string_string (d:List (List UInt8)×((List UInt8→Prop)×(List UInt8→Bool))):SV:=.val .bo (d.1.any d.2.2)
def obs_slices_ContainsFunc_string_string (d:List (List UInt8)×((List UInt8→Prop)×(List UInt8→Bool))):List OB:=[]
def s_slices_ContainsFunc_string_string:CSp:=mkSp al_slices_ContainsFunc_string_string pre_slices_ContainsFunc_string_string res_slices_ContainsFunc_string_string obs_slices_ContainsFunc_string_string
def vc_slices_ContainsFunc_string_string (l:List (List UInt8)) (p:(List UInt8→Prop)×(List UInt8→Bool)):Prop :=
 (l.length≤1000000∧∀ x∈l,(fun (x1:List UInt8)=>p.1 x1) x)∧((decide ((idxG l (fun (x1:List UInt8)=>(p.2 x1)))≥(0:Int)))=(l.any p.2)∧(True))
def cx_slices_ContainsFunc_string_string:Cx:=⟨[],[(160,s_slices_IndexFunc_string_string)],9,[],0,[],[],[],[],false,[],[],[]⟩
def lp_slices_ContainsFunc_string_string (l:List (List UInt8)) (p:(List UInt8→Prop)×(List UInt8→Bool)):List (Nat×LoopAnn):=[]
set_option maxRecDepth 100000 in
theorem vq_slices_ContainsFunc_string_string (d:List (List UInt8)×((List UInt8→Prop)×(List UInt8→Bool))):gwp (cx_slices_ContainsFunc_string_string) (lp_slices_ContainsFunc_string_string d.1 d.2) c138 0 (gend [.tmp 4] (res_slices_ContainsFunc_string_string d) (obs_slices_ContainsFunc_string_string d)) (gstart 9 (AL.can al_slices_ContainsFunc_string_string d))=vc_slices_ContainsFunc_string_string d.1 d.2:=by kernel_rfl
abbrev Ok_slices_ContainsFunc_string_string:Prop:=OkC Tryz.prog 138 s_slices_ContainsFunc_string_string
theorem mk_slices_ContainsFunc_string_string (h:∀ (l:List (List UInt8)) (p:(List UInt8→Prop)×(List UInt8→Bool)),(l.length≤1000000∧∀ x∈l,p.1 x)→vc_slices_ContainsFunc_string_string l p):OkC Tryz.prog 138 s_slices_ContainsFunc_string_string :=
 okC_vc fun138 mixed (C:=cx_slices_ContainsFunc_string_string) (V:=fun (d:List (List UInt8)×((List UInt8→Prop)×(List UInt8→Bool)))=>vc_slices_ContainsFunc_string_string d.1 d.2) ⟨(.cons ok_slices_IndexFunc_string_string .nil),XsOk.nil,ItsOk.nil,YlOk.nil,IysOk.nil⟩ (vq_slices_ContainsFunc_string_string) fun d hp=>h d.1 d.2 hp
theorem ok_slices_ContainsFunc_string_string:Ok_slices_ContainsFunc_string_string:=mk_slices_ContainsFunc_string_string fun l p hp=>by
 simp only[vc_slices_ContainsFunc_string_string]
 exact⟨hp,idxG_any l p.2,trivial⟩
def al_tie_checkCloth_1:AL (List UInt8×Int):=(.cons (.k .st) (.one (.ptr (.one (.k (.i .i64))))))
def pre_tie_checkCloth_1 (d:List UInt8×Int):Prop:=d.1.length≤1000000
def res_tie_checkCloth_1 (d:List UInt8×Int):SV:=.val .bo (decide ((d.1.length:Int)≠d.2)||!isXd d.1)
def obs_tie_checkCloth_1 (d:List UInt8×Int):List OB:=[]
def s_tie_checkCloth_1:CSp:=mkSp al_tie_checkCloth_1 pre_tie_checkCloth_1 res_tie_checkCloth_1 obs_tie_checkCloth_1
def vc_tie_checkCloth_1 (s:List UInt8) (n:Int):Prop :=
 (((lI s) != n)=false→s.length≤1000000∧([120,46]:List UInt8).length≤1000∧([120,46]:List UInt8).all (fun b=>decide (b.toNat<128))=true)∧((((lI s) != n)||(!((Lib.trimS s [120,46])==[])))=(decide ((s.length:Int)≠n)||!isXd s)∧(True))
def cx_tie_checkCloth_1:Cx:=⟨[],[(137,s_strings_Trim)],13,[],0,[],[],[],[],false,[],[],[]⟩
def lp_tie_checkCloth_1 (s:List UInt8) (n:Int):List (Nat×LoopAnn):=[]
set_option maxRecDepth 100000 in
theorem vq_tie_checkCloth_1 (d:List UInt8×Int):gwp (cx_tie_checkCloth_1) (lp_tie_checkCloth_1 d.1 d.2) c136 0 (gend [.tmp 3] (res_tie_checkCloth_1 d) (obs_tie_checkCloth_1 d)) (gstart 13 (AL.can al_tie_checkCloth_1 d))=vc_tie_checkCloth_1 d.1 d.2:=by kernel_rfl
abbrev Ok_tie_checkCloth_1:Prop:=OkC Tryz.prog 136 s_tie_checkCloth_1
theorem mk_tie_checkCloth_1 (h:∀ (s:List UInt8) (n:Int),(s.length≤1000000)→vc_tie_checkCloth_1 s n):OkC Tryz.prog 136 s_tie_checkCloth_1 :=
 okC_vc fun136 mixed (C:=cx_tie_checkCloth_1) (V:=fun (d:List UInt8×Int)=>vc_tie_checkCloth_1 d.1 d.2) ⟨(.cons ok_strings_Trim .nil),XsOk.nil,ItsOk.nil,YlOk.nil,IysOk.nil⟩ (vq_tie_checkCloth_1) fun d hp=>h d.1 d.2 hp
theorem u8_ne (a b:UInt8):(((UInt8.toNat a:Nat):Int) != ((UInt8.toNat b:Nat):Int))=(a != b):=by
 rw[Bool.eq_iff_iff]
 simp only[bne_iff_ne,ne_eq]
 rw[show (((UInt8.toNat a:Nat):Int)=((UInt8.toNat b:Nat):Int))↔a=b from ⟨fun h=>UInt8.toNat_inj.1 (by omega),fun h=>by rw[h]⟩]
theorem u8_eqk (a:UInt8) (k:Nat) (b:UInt8) (hb:b.toNat=k):(((UInt8.toNat a:Nat):Int)==(k:Int))=(a==b):=by
 rw[Bool.eq_iff_iff]
 simp only[beq_iff_eq]
 rw[←hb,show (((UInt8.toNat a:Nat):Int)=((UInt8.toNat b:Nat):Int))↔a=b from ⟨fun h=>UInt8.toNat_inj.1 (by omega),fun h=>by rw[h]⟩]
theorem u8_x (a:UInt8):(((UInt8.toNat a:Nat):Int)==120)=(a==120):=u8_eqk a 120 120 rfl
theorem dropWhile_nil {p:UInt8→Bool} (l:List UInt8):l.dropWhile p=[]↔∀ x∈l,p x=true:=by
 induction l with
 |nil=>simp
 |cons a l ih=>cases h:p a<;>simp[List.dropWhile,h,ih]
theorem trimS_xd (s:List UInt8):(Lib.trimS s [120,46]==[])=isXd s:=by
 have hp:∀ b:UInt8,([120,46]:List UInt8).contains b=(b==120||b==46):=fun b=>by rw[Bool.eq_iff_iff];simp[]
 rw[Bool.eq_iff_iff]
 simp only[Lib.trimS,Lib.trimLeftS,Lib.trimRightS,beq_iff_eq,isXd,List.all_eq_true,hp]
 rw[dropWhile_nil]
 simp only[List.mem_reverse]
 constructor
 ·intro h x hx
  have hx:x∈s.reverse:=List.mem_reverse.2 hx
  rw[←List.takeWhile_append_dropWhile (p:=fun b=>b==120||b==46) (l:=s.reverse),List.mem_append] at hx
  rcases hx with hx|hx
  ·exact(List.all_eq_true.1 List.all_takeWhile) x hx
  ·exact h x hx
 ·intro h x hx
  exact h x (List.mem_reverse.1 ((List.dropWhile_suffix _).mem hx))
theorem ok_tie_checkCloth_1:Ok_tie_checkCloth_1:=mk_tie_checkCloth_1 fun s n h=>by
 unfold vc_tie_checkCloth_1;(try delta lI gD sT I64)
 (try simp only[decide_eq_true_eq,decide_eq_false_iff_not])
 refine⟨fun _=>⟨h,by decide,by decide⟩,?_⟩
 rw[trimS_xd]
 congr 1
 rw[Bool.eq_iff_iff];simp
def al_tie_checkCloth:AL (List (List UInt8)×Int):=(.cons (.k (.list .st)) (.one (.k (.i .i64))))
def pre_tie_checkCloth (d:List (List UInt8)×Int):Prop:=d.1.length≤1000000∧∀ s∈d.1,s.length≤1000000
def res_tie_checkCloth (d:List (List UInt8)×Int):SV:=.val (.i .i64) (clothErr d.1 d.2)
def obs_tie_checkCloth (d:List (List UInt8)×Int):List OB:=[]
def s_tie_checkCloth:CSp:=mkSp al_tie_checkCloth pre_tie_checkCloth res_tie_checkCloth obs_tie_checkCloth
def vc_tie_checkCloth (c:List (List UInt8)) (n:Int):Prop :=
 ((decide ((lI c) > (60:Int)))=true →
  ((5:Int)=(clothErr c n)∧(True))) ∧
 ((decide ((lI c) > (60:Int)))=false →
  (((lI c)==(0:Int))=true →
   ((7:Int)=(clothErr c n)∧(True))) ∧
  (((lI c)==(0:Int))=false →
   ([n].length≤1000000)∧((!(!([n].any fun n=>decide (n<(1:Int))||decide ((96:Int)<n))))=true →
    ((!(!([n].any fun n=>decide (n<(1:Int))||decide ((96:Int)<n))))=true →
     ((4:Int)=(clothErr c n)∧(True))) ∧
    ((!(!([n].any fun n=>decide (n<(1:Int))||decide ((96:Int)<n))))=false →
     ((0:Int)=(clothErr c n)∧(True)))) ∧
   ((!(!([n].any fun n=>decide (n<(1:Int))||decide ((96:Int)<n))))=false →
    (c.length≤1000000∧∀ x∈c,(fun (x1:List UInt8)=>x1.length≤1000000) x)∧((c.any (fun (x1:List UInt8)=>(decide ((x1.length:Int)≠n)||!isXd x1)))=true →
     ((4:Int)=(clothErr c n)∧(True))) ∧
    ((c.any (fun (x1:List UInt8)=>(decide ((x1.length:Int)≠n)||!isXd x1)))=false →
     ((0:Int)=(clothErr c n)∧(True))))))
def cx_tie_checkCloth:Cx:=⟨[(3,(.i .i64))],[(67,s_tie_within),(138,s_slices_ContainsFunc_string_string),(136,s_tie_checkCloth_1)],23,[],0,[],[],[],[],false,[],[],[]⟩
def lp_tie_checkCloth (c:List (List UInt8)) (n:Int):List (Nat×LoopAnn):=[]
set_option maxRecDepth 100000 in
theorem vq_tie_checkCloth (d:List (List UInt8)×Int):gwp (cx_tie_checkCloth) (lp_tie_checkCloth d.1 d.2) c112 0 (gend [.tmp 4] (res_tie_checkCloth d) (obs_tie_checkCloth d)) (gstart 23 (AL.can al_tie_checkCloth d))=vc_tie_checkCloth d.1 d.2:=by kernel_rfl
abbrev Ok_tie_checkCloth:Prop:=OkC Tryz.prog 112 s_tie_checkCloth
theorem mk_tie_checkCloth (h:∀ (c:List (List UInt8)) (n:Int),(c.length≤1000000∧∀ s∈c,s.length≤1000000)→vc_tie_checkCloth c n):OkC Tryz.prog 112 s_tie_checkCloth :=
 okC_vc fun112 mixed (C:=cx_tie_checkCloth) (V:=fun (d:List (List UInt8)×Int)=>vc_tie_checkCloth d.1 d.2) ⟨(.cons ok_tie_within (.cons ok_slices_ContainsFunc_string_string (.cons ok_tie_checkCloth_1 .nil))),XsOk.nil,ItsOk.nil,YlOk.nil,IysOk.nil⟩ (vq_tie_checkCloth) fun d hp=>h d.1 d.2 hp
theorem clothErr_zero {c:List (List UInt8)} {n:Int} (h:clothErr c n=0):c.length≤60∧c≠[]∧1≤n∧n≤96∧∀ s∈c,(s.length:Int)=n∧isXd s=true:=by
 unfold clothErr at h
 split at h
 ·cases h
 ·rename_i h1
  split at h
  ·cases h
  ·rename_i h2
   split at h
   ·cases h
   ·rename_i h3
    simp only[Bool.or_eq_true,not_or,Bool.not_eq_true',Bool.not_eq_false,Bool.not_eq_true] at h3
    have h4:1≤n∧n≤96:=by simpa [inI] using h3.1
    refine⟨by omega,fun e=>h2 (by simp[e]),h4.1,h4.2,fun s hs=>?_⟩
    have:=List.any_eq_false.1 h3.2 s hs
    simp only[Bool.or_eq_true,decide_eq_true_eq,Bool.not_eq_true',not_or,ne_eq,Decidable.not_not,Bool.not_eq_false] at this
    exact this
theorem ok_tie_checkCloth:Ok_tie_checkCloth:=mk_tie_checkCloth fun c n h=>by
 unfold vc_tie_checkCloth;(try delta lI gD sT I64)
 (try simp only[decide_eq_true_eq,decide_eq_false_iff_not])
 have e:([n].any fun n=>decide (n<1)||decide (96<n))=!inI n 1 96:=by simp only[List.any_cons,List.any_nil,Bool.or_false,←nI]
 simp only[e,Bool.not_not]
 have ce:¬ 60<c.length→¬ c.length=0→clothErr c n=if !inI n 1 96||c.any (fun s=>decide ((s.length:Int)≠n)||!isXd s) then 4 else 0:=fun h1 h2=>by
  unfold clothErr;rw[if_neg h1,if_neg h2]
 refine⟨fun h1=>?_,fun h1=>⟨fun h2=>?_,fun h2=>⟨by simp,fun hw=>⟨fun _=>?_,fun hw2=>?_⟩,fun hw=>⟨h,fun ha=>?_,fun ha=>?_⟩⟩⟩⟩
 ·unfold clothErr;rw[if_pos (by omega)];exact(by and_intros<;>first|rfl|trivial|simp)
 ·have h2:c.length=0:=by simp only[beq_iff_eq] at h2;omega
  unfold clothErr;rw[if_neg (by omega),if_pos h2];exact(by and_intros<;>first|rfl|trivial|simp)
 all_goals have h2':¬ c.length=0:=by simp only[beq_eq_false_iff_ne] at h2;omega
 ·rw[ce (by omega) h2',hw];exact(by and_intros<;>first|rfl|trivial|simp)
 ·rw[hw] at hw2;cases hw2
 ·rw[ce (by omega) h2',hw,ha];exact(by and_intros<;>first|rfl|trivial|simp)
 ·rw[ce (by omega) h2',hw,ha];exact(by and_intros<;>first|rfl|trivial|simp)
def al_tie_readCloth:AL ((Int×List Int)×List (List UInt8)):=(.cons (.agg (.cons (.k (.i .i64)) (.one (.k (.list (.i .i64)))))) (.one (.k (.list .st))))
def pre_tie_readCloth (d:(Int×List Int)×List (List UInt8)):Prop:=d.1.2.length≤1000000∧d.2.length≤1000000∧∀ s∈d.2,s.length≤1000000
def res_tie_readCloth (d:(Int×List Int)×List (List UInt8)):SV:=.val (.i .i64) (unwErr d.1.1 d.1.2 d.2)
def obs_tie_readCloth (d:(Int×List Int)×List (List UInt8)):List OB:=[]
def s_tie_readCloth:CSp:=mkSp al_tie_readCloth pre_tie_readCloth res_tie_readCloth obs_tie_readCloth
def vc_tie_readCloth (hk:Int) (lw:List Int) (c:List (List UInt8)):Prop :=
 (lw.length≤1000000)∧(((tieErr hk lw) != (0:Int))=true →
  ((tieErr hk lw)=(unwErr hk lw c)∧(True))) ∧
 (((tieErr hk lw) != (0:Int))=false →
  (c.length≤1000000∧∀ s∈c,s.length≤1000000)∧((clothErr c (lI lw))=(unwErr hk lw c)∧(True)))
def cx_tie_readCloth:Cx:=⟨[],[(58,s_tie_Check),(112,s_tie_checkCloth)],16,[],0,[],[],[],[],false,[],[],[]⟩
def lp_tie_readCloth (hk:Int) (lw:List Int) (c:List (List UInt8)):List (Nat×LoopAnn):=[]
set_option maxRecDepth 100000 in
theorem vq_tie_readCloth (d:(Int×List Int)×List (List UInt8)):gwp (cx_tie_readCloth) (lp_tie_readCloth d.1.1 d.1.2 d.2) c79 0 (gend [.tmp 4] (res_tie_readCloth d) (obs_tie_readCloth d)) (gstart 16 (AL.can al_tie_readCloth d))=vc_tie_readCloth d.1.1 d.1.2 d.2:=by kernel_rfl
abbrev Ok_tie_readCloth:Prop:=OkC Tryz.prog 79 s_tie_readCloth
theorem mk_tie_readCloth (h:∀ (hk:Int) (lw:List Int) (c:List (List UInt8)),(lw.length≤1000000∧c.length≤1000000∧∀ s∈c,s.length≤1000000)→vc_tie_readCloth hk lw c):OkC Tryz.prog 79 s_tie_readCloth :=
 okC_vc fun79 mixed (C:=cx_tie_readCloth) (V:=fun (d:(Int×List Int)×List (List UInt8))=>vc_tie_readCloth d.1.1 d.1.2 d.2) ⟨(.cons ok_tie_Check (.cons ok_tie_checkCloth .nil)),XsOk.nil,ItsOk.nil,YlOk.nil,IysOk.nil⟩ (vq_tie_readCloth) fun d hp=>h d.1.1 d.1.2 d.2 hp
theorem ok_tie_readCloth:Ok_tie_readCloth:=mk_tie_readCloth fun hk lw c h=>by
 unfold vc_tie_readCloth;(try delta lI gD sT I64)
 (try simp only[decide_eq_true_eq,decide_eq_false_iff_not])
 refine⟨h.1,fun he=>?_,fun he=>⟨⟨h.2.1,h.2.2⟩,?_⟩⟩
 ·have he:tieErr hk lw≠0:=by simpa using he
  simp[unwErr,he]
 ·have he:tieErr hk lw=0:=by simpa using he
  simp[unwErr,he]
def cx_slices_Backward_int_int:Cx:=⟨[],[],4,[],0,[],[],[],[],false,[],[],[]⟩
def x_slices_Backward_int_int:XSp:=inlX cx_slices_Backward_int_int (fun _=>[]) c115 [.tmp 2] 4
theorem okx_slices_Backward_int_int:XOk Tryz.prog 115 x_slices_Backward_int_int:=inlX_ok fun115 mixed (C:=cx_slices_Backward_int_int) ⟨.nil,XsOk.nil,ItsOk.nil,YlOk.nil,IysOk.nil⟩ _
def al_tie_harness_firsts:AL (Int×List Int):=(.one (.agg (.cons (.k (.i .i64)) (.one (.k (.list (.i .i64)))))))
def pre_tie_harness_firsts (d:Int×List Int):Prop:=d.2.length≤1000
def res_tie_harness_firsts (d:Int×List Int):SV:=.map 0
def obs_tie_harness_firsts (d:Int×List Int):List OB:=[.map (.i .i64) (.i .i64) (fstM d.2)]
def s_tie_harness_firsts:CSp:=mkSp al_tie_harness_firsts pre_tie_harness_firsts res_tie_harness_firsts obs_tie_harness_firsts
def vc_tie_harness_firsts (hk:Int) (lw:List Int):Prop :=
 ∀ w1:List Value,w1=w1∧(List.length lw<4611686018427387904)∧∃ (e3:Unit) (d30:(List (Int×Int))),((True∧True)∧((True∧(([]:List SV)=[]))∧(([]:List (Int×Int))=d30)∧True)) ∧
 RangeP (List.length lw) (fun (k3:Nat) (d3:(List (Int×Int))) (q3:((List (Int×Int)))→Prop)=>∀ w3:List Value,
  w3=w3∧(∃ d4:(List (Int×Int)),((True∧True)∧((True∧(([]:List SV)=[]))∧((aput (.i .i64) d3 (List.getD lw (List.length lw-1-k3) 0) ((lI lw)-1-(k3:Int)))=d4)∧True))∧q3 d4))
 (fun (d5:(List (Int×Int))) =>
  (True∧((d5=(fstM lw))∧True))) d30
def cx_tie_harness_firsts:Cx:=⟨[(1000006,(.pair (.i .i64) (.i .i64)))],[],17,[],0,[(115,x_slices_Backward_int_int)],[(139,bwIt (.i .i64))],[],[],false,[],[],[]⟩
def lp_tie_harness_firsts (hk:Int) (lw:List Int):List (Nat×LoopAnn):=[(0,⟨Unit,(List (Int×Int)),[3],fun e x=>[.box 3 0],fun e x=>[(3,.slot 3,.cells [.map 6] (some 135)),(6,.cell 3 0,.map (.i .i64) (.i .i64) x)]⟩)]
set_option maxRecDepth 100000 in
theorem vq_tie_harness_firsts (d:Int×List Int):gwp (cx_tie_harness_firsts) (lp_tie_harness_firsts d.1 d.2) c85 0 (gend [.tmp 2] (res_tie_harness_firsts d) (obs_tie_harness_firsts d)) (gstart 17 (AL.can al_tie_harness_firsts d))=vc_tie_harness_firsts d.1 d.2:=by kernel_rfl
abbrev Ok_tie_harness_firsts:Prop:=OkC Tryz.prog 85 s_tie_harness_firsts
theorem mk_tie_harness_firsts (h:∀ (hk:Int) (lw:List Int),(lw.length≤1000)→vc_tie_harness_firsts hk lw):OkC Tryz.prog 85 s_tie_harness_firsts :=
 okC_vc fun85 mixed (C:=cx_tie_harness_firsts) (V:=fun (d:Int×List Int)=>vc_tie_harness_firsts d.1 d.2) ⟨.nil,(XsOk.cons okx_slices_Backward_int_int XsOk.nil),(ItsOk.cons (bw_ok funbw139 mixed) ItsOk.nil),YlOk.nil,IysOk.nil⟩ (vq_tie_harness_firsts) fun d hp=>h d.1 d.2 hp
theorem ok_tie_harness_firsts:Ok_tie_harness_firsts:=mk_tie_harness_firsts fun hk lw h=>by
 unfold vc_tie_harness_firsts;(try delta lI gD sT I64)
 (try simp only[])
 intro w1
 refine⟨by trivial,by omega,(),[],(by and_intros<;>first|rfl|trivial|simp),fun k d=>d=fstMk lw k,rfl,fun k d hk hd w=>⟨by trivial,_,(by and_intros<;>first|rfl|trivial|simp),?_⟩,fun d hd=>?_⟩
 ·rw[hd];rfl
 ·rw[hd];exact(by and_intros<;>first|rfl|trivial|simp)
def al_tie_harness_part:AL ((Int×List Int)×List (List UInt8)):=(.cons (.agg (.cons (.k (.i .i64)) (.one (.k (.list (.i .i64)))))) (.one (.k (.list .st))))
def pre_tie_harness_part (d:(Int×List Int)×List (List UInt8)):Prop:=d.1.2.length≤1000∧d.2.length≤1000∧∀ s∈d.2,s.length=d.1.2.length
def res_tie_harness_part (d:(Int×List Int)×List (List UInt8)):SV:=.tup [.val (.i .i64) ((partI d.1.2 d.2).1),.val (.i .i64) ((partI d.1.2 d.2).2.1),.val (.i .i64) ((partI d.1.2 d.2).2.2),.val .bo ((partF d.1.2 d.2).isSome)]
def obs_tie_harness_part (d:(Int×List Int)×List (List UInt8)):List OB:=[]
def s_tie_harness_part:CSp:=mkSp al_tie_harness_part pre_tie_harness_part res_tie_harness_part obs_tie_harness_part
def vc_tie_harness_part (hk:Int) (lw:List Int) (c:List (List UInt8)):Prop :=
 (lw.length≤1000)∧∃ (e3:Unit) (d30:Int),((True∧True∧c=c∧(lI c)=(lI c)∧(0:Int)=d30∧True)∧((hk=hk∧lw=lw∧(([]:List SV)=[]))∧((fstM lw)=(fstM lw))∧True)) ∧
 LoopP (fun (d3:Int) (q3:(Int)→Prop) =>
  ((decide (d3<(lI c)))=true →
   (0≤d3)∧(d3<(List.length c))∧∃ (e6:Int×(List UInt8)×Int) (d60:Int),((True∧True∧d3=e6.1∧(gD c d3 [])=e6.2.1∧c=c∧(lI c)=(lI c)∧d3=e6.2.2∧lw=lw∧(lI lw)=(lI lw)∧(0:Int)=d60∧True)∧((hk=hk∧lw=lw∧(([]:List SV)=[]))∧((fstM lw)=(fstM lw))∧True)) ∧
   LoopP (fun (d6:Int) (q6:(Int)→Prop) =>
    ((decide (d6<(lI lw)))=true →
     (0≤d6)∧(d6<(List.length lw))∧(0≤d6)∧(d6<(List.length e6.2.1))∧(0≤(gq.aget (.i .i64) (fstM lw) (gD lw d6 0) 0))∧((gq.aget (.i .i64) (fstM lw) (gD lw d6 0) 0)<(List.length e6.2.1))∧((((UInt8.toNat (gD e6.2.1 d6 0):Nat):Int) != ((UInt8.toNat (gD e6.2.1 (gq.aget (.i .i64) (fstM lw) (gD lw d6 0) 0) 0):Nat):Int))=true →
      ((e6.1=((partI lw c).1)∧d6=((partI lw c).2.1)∧(gq.aget (.i .i64) (fstM lw) (gD lw d6 0) 0)=((partI lw c).2.2)∧true=((partF lw c).isSome)∧(([]:List SV)=[]))∧(True))) ∧
     ((((UInt8.toNat (gD e6.2.1 d6 0):Nat):Int) != ((UInt8.toNat (gD e6.2.1 (gq.aget (.i .i64) (fstM lw) (gD lw d6 0) 0) 0):Nat):Int))=false →
      (I64 (d6+(1:Int)))∧(∃ d7:Int,((True∧True∧e6.1=e6.1∧e6.2.1=e6.2.1∧c=c∧(lI c)=(lI c)∧e6.2.2=e6.2.2∧lw=lw∧(lI lw)=(lI lw)∧(d6+(1:Int))=d7∧True)∧((hk=hk∧lw=lw∧(([]:List SV)=[]))∧((fstM lw)=(fstM lw))∧True))∧q6 d7))) ∧
    ((decide (d6<(lI lw)))=false →
     (I64 (e6.2.2+(1:Int)))∧(∃ d8:Int,((True∧True∧c=c∧(lI c)=(lI c)∧(e6.2.2+(1:Int))=d8∧True)∧((hk=hk∧lw=lw∧(([]:List SV)=[]))∧((fstM lw)=(fstM lw))∧True))∧q3 d8))) d60) ∧
  ((decide (d3<(lI c)))=false →
   (((0:Int)=((partI lw c).1)∧(0:Int)=((partI lw c).2.1)∧(0:Int)=((partI lw c).2.2)∧false=((partF lw c).isSome)∧(([]:List SV)=[]))∧(True)))) d30
def cx_tie_harness_part:Cx:=⟨[],[(85,s_tie_harness_firsts)],47,[],0,[],[],[],[],false,[],[],[]⟩
def lp_tie_harness_part (hk:Int) (lw:List Int) (c:List (List UInt8)):List (Nat×LoopAnn):=[(0,⟨Unit,Int,[2,8,16,17,18],fun e x=>[.box 2 0,.map 15,.val (.list .st) c,.val (.i .i64) (((List.length c):Nat):Int),.val (.i .i64) x],fun e x=>[(2,.slot 2,.cells [.val (.i .i64) hk,.val (.list (.i .i64)) lw] (some 120)),(15,.slot 8,.map (.i .i64) (.i .i64) (fstM lw))]⟩),
 (2,⟨Int×(List UInt8)×Int,Int,[2,8,9,10,16,17,18,25,26,27],fun e x=>[.box 2 0,.map 15,.val (.i .i64) e.1,.val .st e.2.1,.val (.list .st) c,.val (.i .i64) (((List.length c):Nat):Int),.val (.i .i64) e.2.2,.val (.list (.i .i64)) lw,.val (.i .i64) (((List.length lw):Nat):Int),.val (.i .i64) x],fun e x=>[(2,.slot 2,.cells [.val (.i .i64) hk,.val (.list (.i .i64)) lw] (some 120)),(15,.slot 8,.map (.i .i64) (.i .i64) (fstM lw))]⟩)]
set_option maxRecDepth 100000 in
theorem vq_tie_harness_part (d:(Int×List Int)×List (List UInt8)):gwp (cx_tie_harness_part) (lp_tie_harness_part d.1.1 d.1.2 d.2) c80 0 (gend [.tmp 4,.tmp 5,.tmp 6,.tmp 7] (res_tie_harness_part d) (obs_tie_harness_part d)) (gstart 47 (AL.can al_tie_harness_part d))=vc_tie_harness_part d.1.1 d.1.2 d.2:=by kernel_rfl
abbrev Ok_tie_harness_part:Prop:=OkC Tryz.prog 80 s_tie_harness_part
theorem mk_tie_harness_part (h:∀ (hk:Int) (lw:List Int) (c:List (List UInt8)),(lw.length≤1000∧c.length≤1000∧∀ s∈c,s.length=lw.length)→vc_tie_harness_part hk lw c):OkC Tryz.prog 80 s_tie_harness_part :=
 okC_vc fun80 mixed (C:=cx_tie_harness_part) (V:=fun (d:(Int×List Int)×List (List UInt8))=>vc_tie_harness_part d.1.1 d.1.2 d.2) ⟨(.cons ok_tie_harness_firsts .nil),XsOk.nil,ItsOk.nil,YlOk.nil,IysOk.nil⟩ (vq_tie_harness_part) fun d hp=>h d.1.1 d.1.2 d.2 hp
theorem ok_tie_harness_part:Ok_tie_harness_part:=mk_tie_harness_part fun hk lw c h=>by
 obtain⟨h1,h2,h3⟩:=h
 unfold vc_tie_harness_part;(try delta lI gD sT I64)
 (try simp only[decide_eq_true_eq,decide_eq_false_iff_not])
 refine⟨h1,(),0,(by and_intros<;>first|rfl|trivial|simp),?_⟩
 refine LoopP.count c.length (fun k=>∀ j,j<k→partW lw (c.getD j [])=none) (fun j h=>by omega) fun i hi hJ q hq=>?_
 refine⟨fun hlt=>?_,fun hge=>?_⟩
 ·have hlt:i<c.length:=by omega
  have hs:=h3 _ (List.getElem_mem hlt)
  refine⟨by omega,by omega,((i:Int),c.getD i [],(i:Int)),0,(by and_intros<;>first|rfl|trivial|simp),?_⟩
  dsimp only
  rw[getD_nat hlt]
  refine LoopP.count lw.length (fun w=>∀ j,j<w→c[i].getD j 0=c[i].getD (fstN lw (lw.getD j 0)) 0) (fun j h=>by omega) fun w hw hI q2 hq2=>?_
  refine⟨fun hlt2=>?_,fun hge=>⟨by rw[InK_i64];omega,_,(by and_intros<;>first|rfl|trivial|simp),hq hlt fun j hj=>?_⟩⟩
  ·have hlt2:w<lw.length:=by omega
   have hf:=fstN_lt (getD_mem hlt2)
   simp only[Int.toNat_natCast,fstM_get hlt2,u8_ne]
   refine⟨by omega,by omega,by omega,by omega,by omega,by omega,fun hne=>?_,fun heq=>⟨by rw[InK_i64];omega,_,(by and_intros<;>first|rfl|trivial|simp),hq2 hlt2 fun j hj=>?_⟩⟩
   ·have hp:=partF_some hlt hJ (w:=w) (by rw[getD_nat hlt];exact partW_some hlt2 hI (by simpa using hne))
    simp[partI,hp]
   ·rcases Nat.lt_succ_iff_lt_or_eq.1 hj with hj|rfl
    ·exact hI j hj
    ·simpa using heq
  ·rcases Nat.lt_succ_iff_lt_or_eq.1 hj with hj|rfl
   ·exact hJ j hj
   ·rw[getD_nat hlt]
    exact partW_none.2 fun w' hw'=>hI w' (by omega)
 ·have hp:partF lw c=none:=partF_none.2 fun j hj=>hJ j (by omega)
  simp[partI,hp]
def al_tie_harness_design:AL ((Int×List Int)×List (List UInt8)):=(.cons (.agg (.cons (.k (.i .i64)) (.one (.k (.list (.i .i64)))))) (.one (.k (.list .st))))
def pre_tie_harness_design (d:(Int×List Int)×List (List UInt8)):Prop:=d.1.2.length≤1000∧d.2.length≤1000∧(∀ s∈d.2,s.length=d.1.2.length)∧∀ x∈d.1.2,0≤x∧x<24
def res_tie_harness_design (d:(Int×List Int)×List (List UInt8)):SV:=.agg [.val (.i .i64) d.1.1,.lst 0]
def obs_tie_harness_design (d:(Int×List Int)×List (List UInt8)):List OB:=[.lst 3 (.i .i64) (rowsX d.1.2 d.2) ((rowsX d.1.2 d.2).isEmpty)]
def s_tie_harness_design:CSp:=mkSp al_tie_harness_design pre_tie_harness_design res_tie_harness_design obs_tie_harness_design
def vc_tie_harness_design (hk:Int) (lw:List Int) (c:List (List UInt8)):Prop :=
 ∃ (e4:Unit) (d40:(List Int)×Int),((True∧True∧True∧c=c∧(lI c)=(lI c)∧(0:Int)=d40.2∧True)∧((hk=hk∧lw=lw∧(([]:List SV)=[]))∧((0:Int)=(0:Int)∧True∧(([]:List SV)=[]))∧(hk=hk∧True∧(([]:List SV)=[]))∧(d40.1=[]∧(List.isEmpty d40.1)=true)∧True)) ∧
 LoopP (fun (d4:(List Int)×Int) (q4:((List Int)×Int)→Prop) =>
  ((decide (d4.2<(lI c)))=true →
   (0≤d4.2)∧(d4.2<(List.length c))∧∃ (e7:(List Int)×(List UInt8)×Int) (d70:Int×Int),((True∧True∧True∧(gD c d4.2 [])=e7.2.1∧(0:Int)=d70.1∧c=c∧(lI c)=(lI c)∧d4.2=e7.2.2∧lw=lw∧(lI lw)=(lI lw)∧(0:Int)=d70.2∧True)∧((hk=hk∧lw=lw∧(([]:List SV)=[]))∧((0:Int)=(0:Int)∧True∧(([]:List SV)=[]))∧(hk=hk∧True∧(([]:List SV)=[]))∧(d4.1=e7.1∧(List.isEmpty d4.1)=(List.isEmpty e7.1))∧True)) ∧
   LoopP (fun (d7:Int×Int) (q7:(Int×Int)→Prop) =>
    ((decide (d7.2<(lI lw)))=true →
     (0≤d7.2)∧(d7.2<(List.length lw))∧(0≤d7.2)∧(d7.2<(List.length e7.2.1))∧((((UInt8.toNat (gD e7.2.1 d7.2 0):Nat):Int)==(120:Int))=true →
      (0≤(gD lw d7.2 0))∧(I64 (shlI .i64 (1:Int) (gD lw d7.2 0)))∧(I64 (d7.2+(1:Int)))∧(∃ d8:Int×Int,((True∧True∧True∧e7.2.1=e7.2.1∧(vbits .or .i64 d7.1 (shlI .i64 (1:Int) (gD lw d7.2 0)))=d8.1∧c=c∧(lI c)=(lI c)∧e7.2.2=e7.2.2∧lw=lw∧(lI lw)=(lI lw)∧(d7.2+(1:Int))=d8.2∧True)∧((hk=hk∧lw=lw∧(([]:List SV)=[]))∧((0:Int)=(0:Int)∧True∧(([]:List SV)=[]))∧(hk=hk∧True∧(([]:List SV)=[]))∧(e7.1=e7.1∧(List.isEmpty e7.1)=(List.isEmpty e7.1))∧True))∧q7 d8)) ∧
     ((((UInt8.toNat (gD e7.2.1 d7.2 0):Nat):Int)==(120:Int))=false →
      (I64 (d7.2+(1:Int)))∧(∃ d9:Int×Int,((True∧True∧True∧e7.2.1=e7.2.1∧d7.1=d9.1∧c=c∧(lI c)=(lI c)∧e7.2.2=e7.2.2∧lw=lw∧(lI lw)=(lI lw)∧(d7.2+(1:Int))=d9.2∧True)∧((hk=hk∧lw=lw∧(([]:List SV)=[]))∧((0:Int)=(0:Int)∧True∧(([]:List SV)=[]))∧(hk=hk∧True∧(([]:List SV)=[]))∧(e7.1=e7.1∧(List.isEmpty e7.1)=(List.isEmpty e7.1))∧True))∧q7 d9))) ∧
    ((decide (d7.2<(lI lw)))=false →
     (((List.length e7.1)+(List.length [d7.1]))*8≤70368744177664)∧(I64 (e7.2.2+(1:Int)))∧(∃ d10:(List Int)×Int,((True∧True∧True∧c=c∧(lI c)=(lI c)∧(e7.2.2+(1:Int))=d10.2∧True)∧((hk=hk∧lw=lw∧(([]:List SV)=[]))∧((0:Int)=(0:Int)∧True∧(([]:List SV)=[]))∧(hk=hk∧True∧(([]:List SV)=[]))∧((e7.1++[d7.1])=d10.1∧false=(List.isEmpty d10.1))∧True))∧q4 d10))) d70) ∧
  ((decide (d4.2<(lI c)))=false →
   ((hk=hk∧True∧(([]:List SV)=[]))∧((d4.1=(rowsX lw c)∧(List.isEmpty d4.1)=(rowsX lw c).isEmpty)∧True)))) d40
def cx_tie_harness_design:Cx:=⟨[(3,(.i .i64))],[],47,[],0,[],[],[],[],false,[],[],[]⟩
def lp_tie_harness_design (hk:Int) (lw:List Int) (c:List (List UInt8)):List (Nat×LoopAnn):=[(0,⟨Unit,(List Int)×Int,[2,4,5,15,16,17],fun e x=>[.box 2 0,.box 4 0,.box 5 0,.val (.list .st) c,.val (.i .i64) (((List.length c):Nat):Int),.val (.i .i64) x.2],fun e x=>[(2,.slot 2,.cells [.val (.i .i64) hk,.val (.list (.i .i64)) lw] (some 120)),(4,.slot 4,.cells [.val (.i .i64) (0:Int),.nilS] (some 36)),(5,.slot 5,.cells [.val (.i .i64) hk,.lst 43] (some 36)),(43,.cell 5 1,.lst 3 (.i .i64) x.1 (List.isEmpty x.1))]⟩),
 (2,⟨(List Int)×(List UInt8)×Int,Int×Int,[2,4,5,7,8,15,16,17,23,24,25],fun e x=>[.box 2 0,.box 4 0,.box 5 0,.val .st e.2.1,.val (.i .i64) x.1,.val (.list .st) c,.val (.i .i64) (((List.length c):Nat):Int),.val (.i .i64) e.2.2,.val (.list (.i .i64)) lw,.val (.i .i64) (((List.length lw):Nat):Int),.val (.i .i64) x.2],fun e x=>[(2,.slot 2,.cells [.val (.i .i64) hk,.val (.list (.i .i64)) lw] (some 120)),(4,.slot 4,.cells [.val (.i .i64) (0:Int),.nilS] (some 36)),(5,.slot 5,.cells [.val (.i .i64) hk,.lst 43] (some 36)),(43,.cell 5 1,.lst 3 (.i .i64) e.1 (List.isEmpty e.1))]⟩)]
set_option maxRecDepth 100000 in
theorem vq_tie_harness_design (d:(Int×List Int)×List (List UInt8)):gwp (cx_tie_harness_design) (lp_tie_harness_design d.1.1 d.1.2 d.2) c81 0 (gend [.cell 4 true 2] (res_tie_harness_design d) (obs_tie_harness_design d)) (gstart 47 (AL.can al_tie_harness_design d))=vc_tie_harness_design d.1.1 d.1.2 d.2:=by kernel_rfl
abbrev Ok_tie_harness_design:Prop:=OkC Tryz.prog 81 s_tie_harness_design
theorem mk_tie_harness_design (h:∀ (hk:Int) (lw:List Int) (c:List (List UInt8)),(lw.length≤1000∧c.length≤1000∧(∀ s∈c,s.length=lw.length)∧∀ x∈lw,0≤x∧x<24)→vc_tie_harness_design hk lw c):OkC Tryz.prog 81 s_tie_harness_design :=
 okC_vc fun81 mixed (C:=cx_tie_harness_design) (V:=fun (d:(Int×List Int)×List (List UInt8))=>vc_tie_harness_design d.1.1 d.1.2 d.2) ⟨.nil,XsOk.nil,ItsOk.nil,YlOk.nil,IysOk.nil⟩ (vq_tie_harness_design) fun d hp=>h d.1.1 d.1.2 d.2 hp
theorem ok_tie_harness_design:Ok_tie_harness_design:=mk_tie_harness_design fun hk lw c h=>by
 obtain⟨h1,h2,h3,h4⟩:=h
 unfold vc_tie_harness_design;(try delta lI gD sT I64)
 (try simp only[decide_eq_true_eq,decide_eq_false_iff_not])
 refine⟨(),([],0),(by and_intros<;>first|rfl|trivial|simp),?_⟩
 refine LoopP.count2 c.length (fun k xs=>xs=rowsX lw (c.take k)) (by simp[rowsX]) fun i xs hi hJ q hq=>?_
 dsimp only
 refine⟨fun hlt=>?_,fun hge=>?_⟩
 ·have hlt:i<c.length:=by omega
  have hs:=h3 _ (List.getElem_mem hlt)
  refine⟨by omega,by omega,(xs,c.getD i [],(i:Int)),(0,0),(by and_intros<;>first|rfl|trivial|simp),?_⟩
  dsimp only
  rw[getD_nat hlt]
  refine LoopP.count2 lw.length (fun k r=>r=((rowXk lw c[i] k:Nat):Int)) rfl fun w r hw hI q2 hq2=>?_
  dsimp only
  have hb:=rowXk_lt (s:=c[i]) (n:=24) h4 w hw
  refine⟨fun hlt2=>?_,fun hge=>?_⟩
  ·have hlt2:w<lw.length:=by omega
   have hx:=h4 _ (getD_mem hlt2)
   obtain⟨x,hx'⟩:=Int.eq_ofNat_of_zero_le hx.1
   have h1x:(1:Nat) <<< x<2 ^ 24:=by rw[Nat.one_shiftLeft];exact Nat.pow_lt_pow_right (by omega) (by omega)
   have e1:shlI .i64 1 ((x:Nat):Int)=((1 <<< x:Nat):Int):=shl_nat (x:=1) (by omega)
   obtain⟨y,hy⟩:∃ y,y=1 <<< x:=⟨_,rfl⟩
   rw[←hy] at e1 h1x
   simp only[Int.toNat_natCast,u8_x,hx',hI,e1,vor_nat (show rowXk lw c[i] w<9223372036854775808 by omega) (show y<9223372036854775808 by omega)]
   clear e1
   refine⟨by omega,by omega,by omega,by omega,fun he=>⟨by omega,by rw[InK_i64];omega,by rw[InK_i64];omega,(((rowXk lw c[i] w ||| y:Nat):Int),(w:Int)+1),(by and_intros<;>first|rfl|trivial|simp),hq2 _ hlt2 ?_⟩,fun hne=>⟨by rw[InK_i64];omega,(((rowXk lw c[i] w:Nat):Int),(w:Int)+1),(by and_intros<;>first|rfl|trivial|simp),hq2 _ hlt2 ?_⟩⟩
   ·have he:c[i].getD w 0=120:=by simpa using he
    have hxn:(lw.getD w 0).toNat=x:=by omega
    simp only[rowXk,if_pos he,hxn,←hy]
   ·have hne:¬ c[i].getD w 0=120:=by simpa using hne
    simp only[rowXk,if_neg hne]
  ·have:w=lw.length:=by omega
   subst this
   have hxl:xs.length=i:=by rw[hJ];simp[rowsX];omega
   refine⟨by simp only[List.length_singleton];omega,by rw[InK_i64];omega,(xs++[r],(i:Int)+1),?_,hq _ hlt ?_⟩
   ·and_intros<;>first|rfl|trivial|simp
   ·rw[take_succ_eq hlt,hJ,hI]
    simp only[rowsX,List.map_append,List.map_cons,List.map_nil,rowX]
 ·have:i=c.length:=by omega
  subst this
  rw[List.take_length] at hJ
  rw[hJ]
  exact(by and_intros<;>first|rfl|trivial|simp)
def al_tie_Unweave:AL ((Int×List Int)×List (List UInt8)):=(.cons (.agg (.cons (.k (.i .i64)) (.one (.k (.list (.i .i64)))))) (.one (.k (.list .st))))
def pre_tie_Unweave (d:(Int×List Int)×List (List UInt8)):Prop:=d.1.2.length≤1000∧d.2.length≤1000∧∀ s∈d.2,s.length≤1000
def res_tie_Unweave (d:(Int×List Int)×List (List UInt8)):SV:=.tup [.agg [.val (.i .i64) (if unwE d.1.1 d.1.2 d.2=0 then d.1.1 else 0),.lst 0],.val (.i .i64) (unwE d.1.1 d.1.2 d.2)]
def obs_tie_Unweave (d:(Int×List Int)×List (List UInt8)):List OB:=[.lst 3 (.i .i64) (unwR d.1.1 d.1.2 d.2) ((unwR d.1.1 d.1.2 d.2).isEmpty)]
def s_tie_Unweave:CSp:=mkSp al_tie_Unweave pre_tie_Unweave res_tie_Unweave obs_tie_Unweave
def vc_tie_Unweave (hk:Int) (lw:List Int) (c:List (List UInt8)):Prop :=
 (lw.length≤1000000∧c.length≤1000000∧∀ s∈c,s.length≤1000000)∧(((unwErr hk lw c) != (0:Int))=true →
  ((((0:Int)=(if unwE hk lw c=0 then hk else 0)∧True∧(([]:List SV)=[]))∧(unwErr hk lw c)=(unwE hk lw c)∧(([]:List SV)=[]))∧(((unwR hk lw c)=[]∧(unwR hk lw c).isEmpty=true)∧True))) ∧
 (((unwErr hk lw c) != (0:Int))=false →
  (lw.length≤1000∧c.length≤1000∧∀ s∈c,s.length=lw.length)∧(((partF lw c).isSome)=true →
   ((((0:Int)=(if unwE hk lw c=0 then hk else 0)∧True∧(([]:List SV)=[]))∧(9:Int)=(unwE hk lw c)∧(([]:List SV)=[]))∧(((unwR hk lw c)=[]∧(unwR hk lw c).isEmpty=true)∧True))) ∧
  (((partF lw c).isSome)=false →
   (lw.length≤1000∧c.length≤1000∧(∀ s∈c,s.length=lw.length)∧∀ x∈lw,0≤x∧x<24)∧(((hk=(if unwE hk lw c=0 then hk else 0)∧True∧(([]:List SV)=[]))∧(0:Int)=(unwE hk lw c)∧(([]:List SV)=[]))∧(((rowsX lw c)=(unwR hk lw c)∧(rowsX lw c).isEmpty=(unwR hk lw c).isEmpty)∧True))))
def cx_tie_Unweave:Cx:=⟨[],[(79,s_tie_readCloth),(80,s_tie_harness_part),(81,s_tie_harness_design)],33,[],0,[],[],[],[],false,[],[],[]⟩
def lp_tie_Unweave (hk:Int) (lw:List Int) (c:List (List UInt8)):List (Nat×LoopAnn):=[]
set_option maxRecDepth 100000 in
theorem vq_tie_Unweave (d:(Int×List Int)×List (List UInt8)):gwp (cx_tie_Unweave) (lp_tie_Unweave d.1.1 d.1.2 d.2) c31 0 (gend [.cell 4 true 2,.tmp 5] (res_tie_Unweave d) (obs_tie_Unweave d)) (gstart 33 (AL.can al_tie_Unweave d))=vc_tie_Unweave d.1.1 d.1.2 d.2:=by kernel_rfl
abbrev Ok_tie_Unweave:Prop:=OkC Tryz.prog 31 s_tie_Unweave
theorem mk_tie_Unweave (h:∀ (hk:Int) (lw:List Int) (c:List (List UInt8)),(lw.length≤1000∧c.length≤1000∧∀ s∈c,s.length≤1000)→vc_tie_Unweave hk lw c):OkC Tryz.prog 31 s_tie_Unweave :=
 okC_vc fun31 mixed (C:=cx_tie_Unweave) (V:=fun (d:(Int×List Int)×List (List UInt8))=>vc_tie_Unweave d.1.1 d.1.2 d.2) ⟨(.cons ok_tie_readCloth (.cons ok_tie_harness_part (.cons ok_tie_harness_design .nil))),XsOk.nil,ItsOk.nil,YlOk.nil,IysOk.nil⟩ (vq_tie_Unweave) fun d hp=>h d.1.1 d.1.2 d.2 hp
theorem unwErr_zero {hk:Int} {lw:List Int} {c:List (List UInt8)} (h:unwErr hk lw c=0):tieErr hk lw=0∧clothErr c lw.length=0:=by
 unfold unwErr at h
 split at h
 ·rename_i h1;exact(h1 h).elim
 ·rename_i h1;exact⟨by simpa using h1,h⟩
theorem ok_tie_Unweave:Ok_tie_Unweave:=mk_tie_Unweave fun hk lw c h=>by
 obtain⟨h1,h2,h3⟩:=h
 unfold vc_tie_Unweave
 refine⟨⟨by omega,by omega,fun s hs=>by have:=h3 s hs;omega⟩,fun he=>?_,fun he=>?_⟩
 ·have he:unwErr hk lw c≠0:=by simpa using he
  have hE:unwE hk lw c=unwErr hk lw c:=by simp[unwE,he]
  simp[unwR,hE,he]
 ·have he:unwErr hk lw c=0:=by simpa using he
  obtain⟨e1,e2⟩:=unwErr_zero he
  obtain⟨t1,t2,t3,t4,t5⟩:=tieErr_zero e1
  obtain⟨c1,c2,c3,c4,c5⟩:=clothErr_zero e2
  have cl:∀ s∈c,s.length=lw.length:=fun s hs=>by have:=(c5 s hs).1;omega
  refine⟨⟨h1,h2,cl⟩,fun hp=>?_,fun hp=>⟨⟨h1,h2,cl,fun x hx=>⟨(t5 x hx).1,by have:=(t5 x hx).2;omega⟩⟩,?_⟩⟩
  ·have hE:unwE hk lw c=9:=by simp[unwE,he,hp]
   simp[unwR,hE]
  ·have hE:unwE hk lw c=0:=by simp[unwE,he,hp]
   simp[unwR,hE]
def al_tie_Part:AL ((Int×List Int)×List (List UInt8)):=(.cons (.agg (.cons (.k (.i .i64)) (.one (.k (.list (.i .i64)))))) (.one (.k (.list .st))))
def pre_tie_Part (d:(Int×List Int)×List (List UInt8)):Prop:=d.1.2.length≤1000∧d.2.length≤1000∧∀ s∈d.2,s.length≤1000
def res_tie_Part (d:(Int×List Int)×List (List UInt8)):SV:=.tup [.val (.i .i64) (if unwErr d.1.1 d.1.2 d.2=0 then (partI d.1.2 d.2).1 else 0),.val (.i .i64) (if unwErr d.1.1 d.1.2 d.2=0 then (partI d.1.2 d.2).2.1 else 0),.val (.i .i64) (if unwErr d.1.1 d.1.2 d.2=0 then (partI d.1.2 d.2).2.2 else 0),.val (.i .i64) (if unwErr d.1.1 d.1.2 d.2≠0 then unwErr d.1.1 d.1.2 d.2 else if (partF d.1.2 d.2).isSome then 0 else 7)]
def obs_tie_Part (d:(Int×List Int)×List (List UInt8)):List OB:=[]
def s_tie_Part:CSp:=mkSp al_tie_Part pre_tie_Part res_tie_Part obs_tie_Part
def vc_tie_Part (hk:Int) (lw:List Int) (c:List (List UInt8)):Prop :=
 (lw.length≤1000000∧c.length≤1000000∧∀ s∈c,s.length≤1000000)∧(((unwErr hk lw c) != (0:Int))=true →
  (((0:Int)=(if unwErr hk lw c=0 then (partI lw c).1 else 0)∧(0:Int)=(if unwErr hk lw c=0 then (partI lw c).2.1 else 0)∧(0:Int)=(if unwErr hk lw c=0 then (partI lw c).2.2 else 0)∧(unwErr hk lw c)=(if unwErr hk lw c≠0 then unwErr hk lw c else if (partF lw c).isSome then 0 else 7)∧(([]:List SV)=[]))∧(True))) ∧
 (((unwErr hk lw c) != (0:Int))=false →
  (lw.length≤1000∧c.length≤1000∧∀ s∈c,s.length=lw.length)∧((!((partF lw c).isSome))=true →
   (((0:Int)=(if unwErr hk lw c=0 then (partI lw c).1 else 0)∧(0:Int)=(if unwErr hk lw c=0 then (partI lw c).2.1 else 0)∧(0:Int)=(if unwErr hk lw c=0 then (partI lw c).2.2 else 0)∧(7:Int)=(if unwErr hk lw c≠0 then unwErr hk lw c else if (partF lw c).isSome then 0 else 7)∧(([]:List SV)=[]))∧(True))) ∧
  ((!((partF lw c).isSome))=false →
   ((((partI lw c).1)=(if unwErr hk lw c=0 then (partI lw c).1 else 0)∧((partI lw c).2.1)=(if unwErr hk lw c=0 then (partI lw c).2.1 else 0)∧((partI lw c).2.2)=(if unwErr hk lw c=0 then (partI lw c).2.2 else 0)∧(0:Int)=(if unwErr hk lw c≠0 then unwErr hk lw c else if (partF lw c).isSome then 0 else 7)∧(([]:List SV)=[]))∧(True))))
def cx_tie_Part:Cx:=⟨[],[(79,s_tie_readCloth),(80,s_tie_harness_part)],30,[],0,[],[],[],[],false,[],[],[]⟩
def lp_tie_Part (hk:Int) (lw:List Int) (c:List (List UInt8)):List (Nat×LoopAnn):=[]
set_option maxRecDepth 100000 in
theorem vq_tie_Part (d:(Int×List Int)×List (List UInt8)):gwp (cx_tie_Part) (lp_tie_Part d.1.1 d.1.2 d.2) c32 0 (gend [.tmp 4,.tmp 5,.tmp 6,.tmp 7] (res_tie_Part d) (obs_tie_Part d)) (gstart 30 (AL.can al_tie_Part d))=vc_tie_Part d.1.1 d.1.2 d.2:=by kernel_rfl
abbrev Ok_tie_Part:Prop:=OkC Tryz.prog 32 s_tie_Part
theorem mk_tie_Part (h:∀ (hk:Int) (lw:List Int) (c:List (List UInt8)),(lw.length≤1000∧c.length≤1000∧∀ s∈c,s.length≤1000)→vc_tie_Part hk lw c):OkC Tryz.prog 32 s_tie_Part :=
 okC_vc fun32 mixed (C:=cx_tie_Part) (V:=fun (d:(Int×List Int)×List (List UInt8))=>vc_tie_Part d.1.1 d.1.2 d.2) ⟨(.cons ok_tie_readCloth (.cons ok_tie_harness_part .nil)),XsOk.nil,ItsOk.nil,YlOk.nil,IysOk.nil⟩ (vq_tie_Part) fun d hp=>h d.1.1 d.1.2 d.2 hp
theorem ok_tie_Part:Ok_tie_Part:=mk_tie_Part fun hk lw c h=>by
 obtain⟨h1,h2,h3⟩:=h
 unfold vc_tie_Part
 refine⟨⟨by omega,by omega,fun s hs=>by have:=h3 s hs;omega⟩,fun he=>?_,fun he=>?_⟩
 ·have he:unwErr hk lw c≠0:=by simpa using he
  simp[he]
 ·have he:unwErr hk lw c=0:=by simpa using he
  obtain⟨e1,e2⟩:=unwErr_zero he
  obtain⟨c1,c2,c3,c4,c5⟩:=clothErr_zero e2
  have cl:∀ s∈c,s.length=lw.length:=fun s hs=>by have:=(c5 s hs).1;omega
  refine⟨⟨h1,h2,cl⟩,fun hp=>?_,fun hp=>?_⟩
  ·have hp:partF lw c=none:=by simpa using hp
   simp[he,partI,hp]
  ·have hp:(partF lw c).isSome=true:=by simpa using hp
   simp[he,hp]
end Go.Proofs.Tryz
set_option linter.unusedVariables false
namespace Go.Proofs.Tryz
open Go Go.V Go.Proofs
def al_point_within_1:AL (Int×Int×Int):=(.cons (.k (.i .i64)) (.cons (.ptr (.one (.k (.i .i64)))) (.one (.ptr (.one (.k (.i .i64)))))))
def pre_point_within_1 (d:Int×Int×Int):Prop:=True
def res_point_within_1 (d:Int×Int×Int):SV:=.val .bo (decide (d.1<d.2.1)||decide (d.2.2<d.1))
def obs_point_within_1 (d:Int×Int×Int):List OB:=[]
def s_point_within_1:CSp:=mkSp al_point_within_1 pre_point_within_1 res_point_within_1 obs_point_within_1
def vc_point_within_1 (n:Int) (a:Int) (b:Int):Prop :=
 (((decide (n<a))||(decide (n > b)))=(decide (n<a)||decide (b<n))∧(True))
def cx_point_within_1:Cx:=⟨[],[],13,[],0,[],[],[],[],false,[],[],[]⟩
def lp_point_within_1 (n:Int) (a:Int) (b:Int):List (Nat×LoopAnn):=[]
set_option maxRecDepth 100000 in
theorem vq_point_within_1 (d:Int×Int×Int):gwp (cx_point_within_1) (lp_point_within_1 d.1 d.2.1 d.2.2) c120 0 (gend [.tmp 4] (res_point_within_1 d) (obs_point_within_1 d)) (gstart 13 (AL.can al_point_within_1 d))=vc_point_within_1 d.1 d.2.1 d.2.2:=by kernel_rfl
abbrev Ok_point_within_1:Prop:=OkC Tryz.prog 120 s_point_within_1
theorem mk_point_within_1 (h:∀ (n:Int) (a:Int) (b:Int),(True)→vc_point_within_1 n a b):OkC Tryz.prog 120 s_point_within_1 :=
 okC_vc fun120 mixed (C:=cx_point_within_1) (V:=fun (d:Int×Int×Int)=>vc_point_within_1 d.1 d.2.1 d.2.2) ⟨.nil,XsOk.nil,ItsOk.nil,YlOk.nil,IysOk.nil⟩ (vq_point_within_1) fun d hp=>h d.1 d.2.1 d.2.2 hp
theorem ok_point_within_1:Ok_point_within_1:=mk_point_within_1 fun n a b _=>by
 exact⟨rfl,trivial⟩
def al_point_within:AL (Int×Int×List Int):=(.cons (.k (.i .i64)) (.cons (.k (.i .i64)) (.one (.k (.list (.i .i64))))))
def pre_point_within (d:Int×Int×List Int):Prop:=d.2.2.length≤1000000
def res_point_within (d:Int×Int×List Int):SV:=.val .bo (!(d.2.2.any fun n=>decide (n<d.1)||decide (d.2.1<n)))
def obs_point_within (d:Int×Int×List Int):List OB:=[]
def s_point_within:CSp:=mkSp al_point_within pre_point_within res_point_within obs_point_within
def vc_point_within (a:Int) (b:Int) (l:List Int):Prop :=
 (l.length≤1000000∧∀ x∈l,(fun (x1:Int)=>True) x)∧((!(l.any (fun (x1:Int)=>(decide (x1<a)||decide (b<x1)))))=(!(l.any fun n=>decide (n<a)||decide (b<n)))∧(True))
def cx_point_within:Cx:=⟨[],[(101,s_slices_ContainsFunc_int_int),(120,s_point_within_1)],11,[],0,[],[],[],[],false,[],[],[]⟩
def lp_point_within (a:Int) (b:Int) (l:List Int):List (Nat×LoopAnn):=[]
set_option maxRecDepth 100000 in
theorem vq_point_within (d:Int×Int×List Int):gwp (cx_point_within) (lp_point_within d.1 d.2.1 d.2.2) c98 0 (gend [.tmp 6] (res_point_within d) (obs_point_within d)) (gstart 11 (AL.can al_point_within d))=vc_point_within d.1 d.2.1 d.2.2:=by kernel_rfl
abbrev Ok_point_within:Prop:=OkC Tryz.prog 98 s_point_within
theorem mk_point_within (h:∀ (a:Int) (b:Int) (l:List Int),(l.length≤1000000)→vc_point_within a b l):OkC Tryz.prog 98 s_point_within :=
 okC_vc fun98 mixed (C:=cx_point_within) (V:=fun (d:Int×Int×List Int)=>vc_point_within d.1 d.2.1 d.2.2) ⟨(.cons ok_slices_ContainsFunc_int_int (.cons ok_point_within_1 .nil)),XsOk.nil,ItsOk.nil,YlOk.nil,IysOk.nil⟩ (vq_point_within) fun d hp=>h d.1 d.2.1 d.2.2 hp
theorem ok_point_within:Ok_point_within:=mk_point_within fun a b l h=>by
 exact⟨⟨h,fun _ _=>trivial⟩,rfl,trivial⟩
def al_point_Check:AL (Int×List Int):=(.one (.agg (.cons (.k (.i .i64)) (.one (.k (.list (.i .i64)))))))
def pre_point_Check (d:Int×List Int):Prop:=d.2.length≤1000000
def res_point_Check (d:Int×List Int):SV:=.val (.i .i64) (pointErr d.1 d.2)
def obs_point_Check (d:Int×List Int):List OB:=[]
def s_point_Check:CSp:=mkSp al_point_Check pre_point_Check res_point_Check obs_point_Check
def vc_point_Check (hd:Int) (rows:List Int):Prop :=
 ([hd].length≤1000000)∧((!(!([hd].any fun n=>decide (n<(1:Int))||decide ((24:Int)<n))))=true →
  ((2:Int)=(pointErr hd rows)∧(True))) ∧
 ((!(!([hd].any fun n=>decide (n<(1:Int))||decide ((24:Int)<n))))=false →
  ((decide ((lI rows) > (60:Int)))=true →
   ((5:Int)=(pointErr hd rows)∧(True))) ∧
  ((decide ((lI rows) > (60:Int)))=false →
   (((lI rows)==(0:Int))=true →
    ((7:Int)=(pointErr hd rows)∧(True))) ∧
   (((lI rows)==(0:Int))=false →
    (0≤hd)∧(I64 (shlI .i64 (1:Int) hd))∧(I64 ((shlI .i64 (1:Int) hd)-(1:Int)))∧(rows.length≤1000000)∧((!(!(rows.any fun n=>decide (n<(0:Int))||decide (((shlI .i64 (1:Int) hd)-(1:Int))<n))))=true →
     ((2:Int)=(pointErr hd rows)∧(True))) ∧
    ((!(!(rows.any fun n=>decide (n<(0:Int))||decide (((shlI .i64 (1:Int) hd)-(1:Int))<n))))=false →
     ((0:Int)=(pointErr hd rows)∧(True))))))
def cx_point_Check:Cx:=⟨[(3,(.i .i64))],[(98,s_point_within)],28,[],0,[],[],[],[],false,[],[],[]⟩
def lp_point_Check (hd:Int) (rows:List Int):List (Nat×LoopAnn):=[]
set_option maxRecDepth 100000 in
theorem vq_point_Check (d:Int×List Int):gwp (cx_point_Check) (lp_point_Check d.1 d.2) c71 0 (gend [.tmp 2] (res_point_Check d) (obs_point_Check d)) (gstart 28 (AL.can al_point_Check d))=vc_point_Check d.1 d.2:=by kernel_rfl
abbrev Ok_point_Check:Prop:=OkC Tryz.prog 71 s_point_Check
theorem mk_point_Check (h:∀ (hd:Int) (rows:List Int),(rows.length≤1000000)→vc_point_Check hd rows):OkC Tryz.prog 71 s_point_Check :=
 okC_vc fun71 mixed (C:=cx_point_Check) (V:=fun (d:Int×List Int)=>vc_point_Check d.1 d.2) ⟨(.cons ok_point_within .nil),XsOk.nil,ItsOk.nil,YlOk.nil,IysOk.nil⟩ (vq_point_Check) fun d hp=>h d.1 d.2 hp
theorem shl_one {h:Int} (h1:0≤h) (h2:h≤62):shlI .i64 1 h=2 ^ h.toNat:=by
 obtain⟨n,rfl⟩:=Int.eq_ofNat_of_zero_le h1
 have:Nat.min n 64=n:=Nat.min_eq_left (by omega)
 simp only[shlI,Int.toNat_natCast,IntKind.bits,this,Int.one_mul]
theorem pow_bound {h:Int} (h1:1≤h) (h2:h≤24):(2:Int)≤2 ^ h.toNat∧(2:Int) ^ h.toNat≤16777216:=by
 obtain⟨n,rfl⟩:=Int.eq_ofNat_of_zero_le (show 0≤h by omega)
 have a1:2 ^ 1≤2 ^ n:=Nat.pow_le_pow_right (by omega) (by omega)
 have a2:2 ^ n≤2 ^ 24:=Nat.pow_le_pow_right (by omega) (by omega)
 simp only[Int.toNat_natCast]
 have e:((2:Int) ^ n)=((2 ^ n:Nat):Int):=by norm_cast
 rw[e]
 omega
theorem ok_point_Check:Ok_point_Check:=mk_point_Check fun hd rows hl=>by
 unfold vc_point_Check;(try delta lI gD sT I64);simp only[and_true,decide_eq_true_eq,decide_eq_false_iff_not,beq_iff_eq,ne_eq,beq_eq_false_iff_ne,gt_iff_lt,Bool.not_not]
 simp only[←nI]
 refine⟨by simp,fun h1=>by simp at h1;simp[pointErr,h1],fun h1=>⟨fun h2=>?_,fun h2=>⟨fun h3=>?_,fun h3=>?_⟩⟩⟩
 all_goals simp only[List.any_cons,List.any_nil,Bool.or_false,Bool.not_eq_false'] at h1
 ·have:60<rows.length:=by omega
  simp[pointErr,h1,this]
 ·have h3:rows.length=0:=by omega
  simp[pointErr,h1,h3]
 have h2':¬ 60<rows.length:=by omega
 have h3':¬ rows.length=0:=by omega
 have hi:1≤hd∧hd≤24:=by simpa [inI] using h1
 have hp:=pow_bound hi.1 hi.2
 have hte:pointErr hd rows=if rows.any (fun x=>!inI x 0 (2 ^ hd.toNat-1)) then 2 else 0:=by simp only[pointErr,h1,h2',h3'];simp
 rw[hte]
 simp only[InK_i64,shl_one (show 0≤hd by omega) (by omega)]
 refine⟨by omega,by omega,by omega,by omega,fun h=>by rw[if_pos h],fun h=>by rw[h];rfl⟩
def al_tie_mark:AL (Bool):=(.one (.k .bo))
def pre_tie_mark (d:Bool):Prop:=True
def res_tie_mark (d:Bool):SV:=.val (.i .u8) (markI d)
def obs_tie_mark (d:Bool):List OB:=[]
def s_tie_mark:CSp:=mkSp al_tie_mark pre_tie_mark res_tie_mark obs_tie_mark
def vc_tie_mark (x:Bool):Prop :=
 (x=true →
  ((120:Int)=(markI x)∧(True))) ∧
 (x=false →
  ((46:Int)=(markI x)∧(True)))
def cx_tie_mark:Cx:=⟨[],[],4,[],0,[],[],[],[],false,[],[],[]⟩
def lp_tie_mark (x:Bool):List (Nat×LoopAnn):=[]
set_option maxRecDepth 100000 in
theorem vq_tie_mark (d:Bool):gwp (cx_tie_mark) (lp_tie_mark d) c107 0 (gend [.tmp 2] (res_tie_mark d) (obs_tie_mark d)) (gstart 4 (AL.can al_tie_mark d))=vc_tie_mark d:=by kernel_rfl
abbrev Ok_tie_mark:Prop:=OkC Tryz.prog 107 s_tie_mark
theorem mk_tie_mark (h:∀ (x:Bool),(True)→vc_tie_mark x):OkC Tryz.prog 107 s_tie_mark :=
 okC_vc fun107 mixed (C:=cx_tie_mark) (V:=fun (d:Bool)=>vc_tie_mark d) ⟨.nil,XsOk.nil,ItsOk.nil,YlOk.nil,IysOk.nil⟩ (vq_tie_mark) fun d hp=>h d hp
theorem ok_tie_mark:Ok_tie_mark:=mk_tie_mark fun x _=>by
 cases x<;>simp[vc_tie_mark,markI]
def al_tie_harness_lifted:AL ((Int×List Int)×Int×Int):=(.cons (.agg (.cons (.k (.i .i64)) (.one (.k (.list (.i .i64)))))) (.cons (.k (.i .i64)) (.one (.k (.i .i64)))))
def pre_tie_harness_lifted (d:(Int×List Int)×Int×Int):Prop:=0≤d.2.2∧d.2.2<d.1.2.length∧0≤d.2.1∧d.2.1<9223372036854775808∧∀ x∈d.1.2,0≤x∧x≤60
def res_tie_harness_lifted (d:(Int×List Int)×Int×Int):SV:=.val .bo (d.2.1.toNat.testBit (d.1.2.getD d.2.2.toNat 0).toNat)
def obs_tie_harness_lifted (d:(Int×List Int)×Int×Int):List OB:=[]
def s_tie_harness_lifted:CSp:=mkSp al_tie_harness_lifted pre_tie_harness_lifted res_tie_harness_lifted obs_tie_harness_lifted
def vc_tie_harness_lifted (hk:Int) (lw:List Int) (row:Int) (w:Int):Prop :=
 (0≤w)∧(w<(List.length lw))∧(0≤(gD lw w 0))∧(((vbits .and .i64 (shrI .i64 row (gD lw w 0)) (1:Int))==(1:Int))=(row.toNat.testBit (lw.getD w.toNat 0).toNat)∧(True))
def cx_tie_harness_lifted:Cx:=⟨[],[],17,[],0,[],[],[],[],false,[],[],[]⟩
def lp_tie_harness_lifted (hk:Int) (lw:List Int) (row:Int) (w:Int):List (Nat×LoopAnn):=[]
set_option maxRecDepth 100000 in
theorem vq_tie_harness_lifted (d:(Int×List Int)×Int×Int):gwp (cx_tie_harness_lifted) (lp_tie_harness_lifted d.1.1 d.1.2 d.2.1 d.2.2) c108 0 (gend [.tmp 6] (res_tie_harness_lifted d) (obs_tie_harness_lifted d)) (gstart 17 (AL.can al_tie_harness_lifted d))=vc_tie_harness_lifted d.1.1 d.1.2 d.2.1 d.2.2:=by kernel_rfl
abbrev Ok_tie_harness_lifted:Prop:=OkC Tryz.prog 108 s_tie_harness_lifted
theorem mk_tie_harness_lifted (h:∀ (hk:Int) (lw:List Int) (row:Int) (w:Int),(0≤w∧w<lw.length∧0≤row∧row<9223372036854775808∧∀ x∈lw,0≤x∧x≤60)→vc_tie_harness_lifted hk lw row w):OkC Tryz.prog 108 s_tie_harness_lifted :=
 okC_vc fun108 mixed (C:=cx_tie_harness_lifted) (V:=fun (d:(Int×List Int)×Int×Int)=>vc_tie_harness_lifted d.1.1 d.1.2 d.2.1 d.2.2) ⟨.nil,XsOk.nil,ItsOk.nil,YlOk.nil,IysOk.nil⟩ (vq_tie_harness_lifted) fun d hp=>h d.1.1 d.1.2 d.2.1 d.2.2 hp
theorem ok_tie_harness_lifted:Ok_tie_harness_lifted:=mk_tie_harness_lifted fun hk lw row w h=>by
 obtain⟨h1,h2,h3,h4,h5⟩:=h
 obtain⟨w,rfl⟩:=Int.eq_ofNat_of_zero_le h1
 obtain⟨r,rfl⟩:=Int.eq_ofNat_of_zero_le h3
 have hw:w<lw.length:=by omega
 have hx:=h5 _ (List.getElem_mem hw)
 obtain⟨k,hk⟩:=Int.eq_ofNat_of_zero_le hx.1
 unfold vc_tie_harness_lifted;(try delta lI gD sT I64);simp only[and_true,Int.toNat_natCast,Int.ofNat_lt,getD_nat hw,hk]
 refine⟨by omega,by omega,by omega,?_⟩
 exact shr_bit (by omega) (by omega)
end Go.Proofs.Tryz
set_option linter.unusedVariables false
namespace Go.Proofs.Tryz
open Go Go.V Go.Proofs
def cx_strings_Builder_copyCheck:Cx:=⟨[],[],20,[],0,[(152,sameX)],[],[],[],false,[],[],[]⟩
def x_strings_Builder_copyCheck:XSp:=inlX cx_strings_Builder_copyCheck (fun _=>[]) c135 [] 20
theorem okx_strings_Builder_copyCheck:XOk Tryz.prog 135 x_strings_Builder_copyCheck:=inlX_ok fun135 mixed (C:=cx_strings_Builder_copyCheck) ⟨.nil,(XsOk.cons (sameX_ok same152) XsOk.nil),ItsOk.nil,YlOk.nil,IysOk.nil⟩ _
def cx_strings_Builder_WriteByte:Cx:=⟨[(5,(.i .u8))],[],17,[],0,[(135,x_strings_Builder_copyCheck)],[],[],[],false,[],[],[]⟩
def x_strings_Builder_WriteByte:XSp:=inlX cx_strings_Builder_WriteByte (fun _=>[]) c106 [.tmp 4] 17
theorem okx_strings_Builder_WriteByte:XOk Tryz.prog 106 x_strings_Builder_WriteByte:=inlX_ok fun106 mixed (C:=cx_strings_Builder_WriteByte) ⟨.nil,(XsOk.cons okx_strings_Builder_copyCheck XsOk.nil),ItsOk.nil,YlOk.nil,IysOk.nil⟩ _
def cx_strings_Builder_String:Cx:=⟨[],[],14,[],0,[],[],[],[],false,[],[],[]⟩
def x_strings_Builder_String:XSp:=inlX cx_strings_Builder_String (fun _=>[]) c109 [.tmp 2] 14
theorem okx_strings_Builder_String:XOk Tryz.prog 109 x_strings_Builder_String:=inlX_ok fun109 mixed (C:=cx_strings_Builder_String) ⟨.nil,XsOk.nil,ItsOk.nil,YlOk.nil,IysOk.nil⟩ _
def al_tie_harness_pick:AL ((Int×List Int)×Int):=(.cons (.agg (.cons (.k (.i .i64)) (.one (.k (.list (.i .i64)))))) (.one (.k (.i .i64))))
def pre_tie_harness_pick (d:(Int×List Int)×Int):Prop:=d.1.2.length≤110∧0≤d.2∧d.2<9223372036854775808∧∀ x∈d.1.2,0≤x∧x≤60
def res_tie_harness_pick (d:(Int×List Int)×Int):SV:=.val .st (pickS d.1.2 d.2)
def obs_tie_harness_pick (d:(Int×List Int)×Int):List OB:=[]
def s_tie_harness_pick:CSp:=mkSp al_tie_harness_pick pre_tie_harness_pick res_tie_harness_pick obs_tie_harness_pick
def vc_tie_harness_pick (hk:Int) (lw:List Int) (row:Int):Prop :=
 ∃ (e4:Unit) (d40:Bool×(List Int)×Int),((row=row∧True∧True∧(lI lw)=(lI lw)∧(0:Int)=d40.2.2∧True)∧((hk=hk∧lw=lw∧(([]:List SV)=[]))∧(d40.1=false∧True∧(([]:List SV)=[]))∧(d40.2.1=[]∧(List.isEmpty d40.2.1)=true)∧True)) ∧
 LoopP (fun (d4:Bool×(List Int)×Int) (q4:(Bool×(List Int)×Int)→Prop) =>
  ((decide (d4.2.2<(lI lw)))=true →
   (0≤d4.2.2∧d4.2.2<lw.length∧0≤row∧row<9223372036854775808∧∀ x∈lw,0≤x∧x≤60)∧(True)∧∀ w5:List Value,∀ w6:List Value,((!d4.1)=true →
    w6=w6∧(((List.length d4.2.1)+(List.length [(markI (row.toNat.testBit (lw.getD d4.2.2.toNat 0).toNat))]))*1≤70368744177664)∧w5=w5∧(I64 (d4.2.2+(1:Int)))∧(∃ d7:Bool×(List Int)×Int,((row=row∧True∧True∧(lI lw)=(lI lw)∧(d4.2.2+(1:Int))=d7.2.2∧True)∧((hk=hk∧lw=lw∧(([]:List SV)=[]))∧(d7.1=true∧True∧(([]:List SV)=[]))∧((d4.2.1++[(markI (row.toNat.testBit (lw.getD d4.2.2.toNat 0).toNat))])=d7.2.1∧false=(List.isEmpty d7.2.1))∧True))∧q4 d7)) ∧
   ((!d4.1)=false →
    (d4.1=true)∧((!true)=true →
     False) ∧
    ((!true)=false →
     w6=w6∧(((List.length d4.2.1)+(List.length [(markI (row.toNat.testBit (lw.getD d4.2.2.toNat 0).toNat))]))*1≤70368744177664)∧w5=w5∧(I64 (d4.2.2+(1:Int)))∧(∃ d8:Bool×(List Int)×Int,((row=row∧True∧True∧(lI lw)=(lI lw)∧(d4.2.2+(1:Int))=d8.2.2∧True)∧((hk=hk∧lw=lw∧(([]:List SV)=[]))∧(d4.1=d8.1∧True∧(([]:List SV)=[]))∧((d4.2.1++[(markI (row.toNat.testBit (lw.getD d4.2.2.toNat 0).toNat))])=d8.2.1∧false=(List.isEmpty d8.2.1))∧True))∧q4 d8)))) ∧
  ((decide (d4.2.2<(lI lw)))=false →
   ∀ w9:List Value,((List.isEmpty d4.2.1)=false→d4.2.1≠[])∧((lI d4.2.1)=(List.length d4.2.1))∧((List.length d4.2.1)≤4611686018427387904)∧w9=w9∧((bytesI d4.2.1)=(pickS lw row)∧(True)))) d40
def cx_tie_harness_pick:Cx:=⟨[(5,(.i .u8))],[(108,s_tie_harness_lifted),(107,s_tie_mark)],22,[],0,[(106,x_strings_Builder_WriteByte),(135,x_strings_Builder_copyCheck),(152,sameX),(109,x_strings_Builder_String)],[],[],[],false,[],[],[]⟩
def lp_tie_harness_pick (hk:Int) (lw:List Int) (row:Int):List (Nat×LoopAnn):=[(0,⟨Unit,Bool×(List Int)×Int,[1,2,5,10,11],fun e x=>[.val (.i .i64) row,.box 2 0,.box 5 0,.val (.i .i64) (((List.length lw):Nat):Int),.val (.i .i64) x.2.2],fun e x=>[(2,.slot 2,.cells [.val (.i .i64) hk,.val (.list (.i .i64)) lw] (some 120)),(5,.slot 5,.cells [.dd 5 (.obx x.1),.lst 2000014] (some 175)),(2000014,.cell 5 1,.lst 5 (.i .u8) x.2.1 (List.isEmpty x.2.1))]⟩)]
set_option maxRecDepth 100000 in
theorem vq_tie_harness_pick (d:(Int×List Int)×Int):gwp (cx_tie_harness_pick) (lp_tie_harness_pick d.1.1 d.1.2 d.2) c72 0 (gend [.tmp 4] (res_tie_harness_pick d) (obs_tie_harness_pick d)) (gstart 22 (AL.can al_tie_harness_pick d))=vc_tie_harness_pick d.1.1 d.1.2 d.2:=by kernel_rfl
abbrev Ok_tie_harness_pick:Prop:=OkC Tryz.prog 72 s_tie_harness_pick
theorem mk_tie_harness_pick (h:∀ (hk:Int) (lw:List Int) (row:Int),(lw.length≤110∧0≤row∧row<9223372036854775808∧∀ x∈lw,0≤x∧x≤60)→vc_tie_harness_pick hk lw row):OkC Tryz.prog 72 s_tie_harness_pick :=
 okC_vc fun72 mixed (C:=cx_tie_harness_pick) (V:=fun (d:(Int×List Int)×Int)=>vc_tie_harness_pick d.1.1 d.1.2 d.2) ⟨(.cons ok_tie_harness_lifted (.cons ok_tie_mark .nil)),(XsOk.cons okx_strings_Builder_WriteByte (XsOk.cons okx_strings_Builder_copyCheck (XsOk.cons (sameX_ok same152) (XsOk.cons okx_strings_Builder_String XsOk.nil)))),ItsOk.nil,YlOk.nil,IysOk.nil⟩ (vq_tie_harness_pick) fun d hp=>h d.1.1 d.1.2 d.2 hp
theorem bytes_mark (lw:List Int) (row:Int):bytesI (lw.map fun k=>markI (row.toNat.testBit k.toNat))=pickS lw row:=by
 simp only[bytesI,pickS,List.map_map]
 refine List.map_congr_left fun k _=>?_
 simp only[Function.comp,markI]
 split<;>rfl
theorem ok_tie_harness_pick:Ok_tie_harness_pick:=mk_tie_harness_pick fun hk lw row h=>by
 obtain⟨h1,h2,h3,h4⟩:=h
 unfold vc_tie_harness_pick;(try delta lI gD sT I64);simp only[true_and,and_true,exists_const,decide_eq_true_eq,decide_eq_false_iff_not,ne_eq,Bool.not_eq_true',Bool.not_eq_false',InK_i64]
 refine⟨(false,[],0),⟨rfl,rfl,rfl,rfl⟩,?_⟩
 refine⟨fun d=>∃ i:Nat,i≤lw.length∧d.2.2=i∧d.2.1=(lw.take i).map fun k=>markI (row.toNat.testBit k.toNat),fun d=>lw.length-d.2.2.toNat,⟨0,Nat.zero_le _,rfl,by simp⟩,?_⟩
 rintro⟨c,xs,_⟩ ⟨i,hi,rfl,hxs⟩
 dsimp only at hxs ⊢
 have hxl:xs.length=i:=by rw[hxs];simp;omega
 refine⟨fun hlt=>?_,fun hge=>?_⟩
 ·have hlt:i<lw.length:=by omega
  have hn:xs++[markI (row.toNat.testBit lw[i].toNat)]=(lw.take (i+1)).map fun k=>markI (row.toNat.testBit k.toNat):=by rw[hxs,take_succ_eq hlt,List.map_append];rfl
  simp only[Int.toNat_natCast,getD_nat hlt,List.length_singleton]
  refine⟨⟨by omega,by omega,h2,h3,h4⟩,fun _ w6=>⟨fun hc=>?_,fun hc=>?_⟩⟩
  ·exact⟨by omega,by omega,(true,xs++[markI (row.toNat.testBit lw[i].toNat)],(i:Int)+1),⟨rfl,rfl,rfl,by simp⟩,⟨i+1,by omega,by simp,hn⟩,by dsimp only;omega⟩
  ·refine⟨by simpa using hc,?_⟩
   refine⟨fun h=>by simp at h,fun _=>?_⟩
   exact⟨by omega,by omega,(c,xs++[markI (row.toNat.testBit lw[i].toNat)],(i:Int)+1),⟨rfl,rfl,rfl,by simp⟩,⟨i+1,by omega,by simp,hn⟩,by dsimp only;omega⟩
 ·have:i=lw.length:=by omega
  subst this
  rw[List.take_length] at hxs
  refine fun _=>⟨?_,by omega,?_⟩
  ·intro hne h0;rw[h0] at hne;simp at hne
  ·rw[hxs];exact bytes_mark lw row
end Go.Proofs.Tryz
set_option linter.unusedVariables false
namespace Go.Proofs.Tryz
open Go Go.V Go.Proofs
def al_tie_Weave:AL ((Int×List Int)×Int×List Int):=(.cons (.agg (.cons (.k (.i .i64)) (.one (.k (.list (.i .i64)))))) (.one (.agg (.cons (.k (.i .i64)) (.one (.k (.list (.i .i64))))))))
def pre_tie_Weave (d:(Int×List Int)×Int×List Int):Prop:=d.1.2.length≤110∧d.2.2.length≤110
def res_tie_Weave (d:(Int×List Int)×Int×List Int):SV:=.tup [.lst 0,.val (.i .i64) (weaveErr d.1.1 d.1.2 d.2.1 d.2.2)]
def obs_tie_Weave (d:(Int×List Int)×Int×List Int):List OB:=[.lst 9 .st (weaveC d.1.1 d.1.2 d.2.1 d.2.2) ((weaveC d.1.1 d.1.2 d.2.1 d.2.2).isEmpty)]
def s_tie_Weave:CSp:=mkSp al_tie_Weave pre_tie_Weave res_tie_Weave obs_tie_Weave
def vc_tie_Weave (hk:Int) (lw:List Int) (hd:Int) (rows:List Int):Prop :=
 (lw.length≤1000000)∧(((tieErr hk lw) != (0:Int))=true →
  ((True∧(tieErr hk lw)=weaveErr hk lw hd rows∧(([]:List SV)=[]))∧(((weaveC hk lw hd rows)=[]∧(weaveC hk lw hd rows).isEmpty=true)∧True))) ∧
 (((tieErr hk lw) != (0:Int))=false →
  (rows.length≤1000000)∧(((pointErr hd rows) != (0:Int))=true →
   ((True∧(pointErr hd rows)=weaveErr hk lw hd rows∧(([]:List SV)=[]))∧(((weaveC hk lw hd rows)=[]∧(weaveC hk lw hd rows).isEmpty=true)∧True))) ∧
  (((pointErr hd rows) != (0:Int))=false →
   ((hd != hk)=true →
    ((True∧(4:Int)=weaveErr hk lw hd rows∧(([]:List SV)=[]))∧(((weaveC hk lw hd rows)=[]∧(weaveC hk lw hd rows).isEmpty=true)∧True))) ∧
   ((hd != hk)=false →
    ∃ (e4:Unit) (d40:(List (List UInt8))×Int),((True∧True∧rows=rows∧(lI rows)=(lI rows)∧(0:Int)=d40.2∧True)∧((hk=hk∧lw=lw∧(([]:List SV)=[]))∧(d40.1=[]∧(List.isEmpty d40.1)=true)∧True)) ∧
    LoopP (fun (d4:(List (List UInt8))×Int) (q4:((List (List UInt8))×Int)→Prop) =>
     ((decide (d4.2<(lI rows)))=true →
      (0≤d4.2)∧(d4.2<(List.length rows))∧(lw.length≤110∧0≤(gD rows d4.2 0)∧(gD rows d4.2 0)<9223372036854775808∧∀ x∈lw,0≤x∧x≤60)∧(((List.length d4.1)+(List.length [(pickS lw (gD rows d4.2 0))]))*16≤70368744177664)∧(I64 (d4.2+(1:Int)))∧(∃ d5:(List (List UInt8))×Int,((True∧True∧rows=rows∧(lI rows)=(lI rows)∧(d4.2+(1:Int))=d5.2∧True)∧((hk=hk∧lw=lw∧(([]:List SV)=[]))∧((d4.1++[(pickS lw (gD rows d4.2 0))])=d5.1∧false=(List.isEmpty d5.1))∧True))∧q4 d5)) ∧
     ((decide (d4.2<(lI rows)))=false →
      ((True∧(0:Int)=weaveErr hk lw hd rows∧(([]:List SV)=[]))∧((d4.1=(weaveC hk lw hd rows)∧(List.isEmpty d4.1)=(weaveC hk lw hd rows).isEmpty)∧True)))) d40)))
def cx_tie_Weave:Cx:=⟨[(9,.st)],[(58,s_tie_Check),(71,s_point_Check),(72,s_tie_harness_pick)],43,[],0,[],[],[],[],false,[],[],[]⟩
def lp_tie_Weave (hk:Int) (lw:List Int) (hd:Int) (rows:List Int):List (Nat×LoopAnn):=[(1,⟨Unit,(List (List UInt8))×Int,[2,4,28,29,30],fun e x=>[.box 2 0,.lst 40,.val (.list (.i .i64)) rows,.val (.i .i64) (((List.length rows):Nat):Int),.val (.i .i64) x.2],fun e x=>[(2,.slot 2,.cells [.val (.i .i64) hk,.val (.list (.i .i64)) lw] (some 26)),(40,.slot 4,.lst 9 .st x.1 (List.isEmpty x.1))]⟩)]
set_option maxRecDepth 100000 in
theorem vq_tie_Weave (d:(Int×List Int)×Int×List Int):gwp (cx_tie_Weave) (lp_tie_Weave d.1.1 d.1.2 d.2.1 d.2.2) c21 0 (gend [.tmp 4,.tmp 5] (res_tie_Weave d) (obs_tie_Weave d)) (gstart 43 (AL.can al_tie_Weave d))=vc_tie_Weave d.1.1 d.1.2 d.2.1 d.2.2:=by kernel_rfl
abbrev Ok_tie_Weave:Prop:=OkC Tryz.prog 21 s_tie_Weave
theorem mk_tie_Weave (h:∀ (hk:Int) (lw:List Int) (hd:Int) (rows:List Int),(lw.length≤110∧rows.length≤110)→vc_tie_Weave hk lw hd rows):OkC Tryz.prog 21 s_tie_Weave :=
 okC_vc fun21 mixed (C:=cx_tie_Weave) (V:=fun (d:(Int×List Int)×Int×List Int)=>vc_tie_Weave d.1.1 d.1.2 d.2.1 d.2.2) ⟨(.cons ok_tie_Check (.cons ok_point_Check (.cons ok_tie_harness_pick .nil))),XsOk.nil,ItsOk.nil,YlOk.nil,IysOk.nil⟩ (vq_tie_Weave) fun d hp=>h d.1.1 d.1.2 d.2.1 d.2.2 hp
theorem pointErr_zero {hd:Int} {rows:List Int} (h:pointErr hd rows=0):1≤hd∧hd≤24∧rows.length≤60∧rows.length≠0∧∀ x∈rows,0≤x∧x<2 ^ hd.toNat:=by
 unfold pointErr at h
 split at h
 ·cases h
 ·rename_i h1
  split at h
  ·cases h
  ·rename_i h2
   split at h
   ·cases h
   ·rename_i h3
    split at h
    ·cases h
    ·rename_i h4
     have h1:1≤hd∧hd≤24:=by simpa [inI] using h1
     refine⟨h1.1,h1.2,by omega,h3,fun x hx=>?_⟩
     have h5:∀ x∈rows,inI x 0 (2 ^ hd.toNat-1)=true:=by simpa using h4
     have:=h5 x hx
     simp only[inI,Bool.and_eq_true,decide_eq_true_eq] at this
     omega
theorem ok_tie_Weave:Ok_tie_Weave:=mk_tie_Weave fun hk lw hd rows h=>by
 obtain⟨h1,h2⟩:=h
 unfold vc_tie_Weave;(try delta lI gD sT I64);simp only[true_and,and_true,exists_const,decide_eq_true_eq,decide_eq_false_iff_not,bne_iff_ne,ne_eq,bne_eq_false_iff_eq,InK_i64]
 refine⟨by omega,fun he=>?_,fun he=>⟨by omega,fun hp=>?_,fun hp=>⟨fun hh=>?_,fun hh=>?_⟩⟩⟩
 ·have e:weaveErr hk lw hd rows=tieErr hk lw:=by simp[weaveErr,he]
  have e2:weaveC hk lw hd rows=[]:=by simp[weaveC,e,he]
  rw[e,e2];exact⟨rfl,rfl,rfl⟩
 ·have e:weaveErr hk lw hd rows=pointErr hd rows:=by simp[weaveErr,he,hp]
  have e2:weaveC hk lw hd rows=[]:=by simp[weaveC,e,hp]
  rw[e,e2];exact⟨rfl,rfl,rfl⟩
 ·have e:weaveErr hk lw hd rows=4:=by simp[weaveErr,he,hp,hh]
  have e2:weaveC hk lw hd rows=[]:=by simp[weaveC,e]
  rw[e,e2];exact⟨rfl,rfl,rfl⟩
 have e:weaveErr hk lw hd rows=0:=by unfold weaveErr;rw[if_neg (by omega),if_neg (by omega),if_neg (by omega)]
 have e2:weaveC hk lw hd rows=rows.map (pickS lw):=by simp[weaveC,e]
 obtain⟨t1,t2,t3,t4,t5⟩:=tieErr_zero he
 obtain⟨p1,p2,p3,p4,p5⟩:=pointErr_zero hp
 have hpw:=pow_bound p1 p2
 rw[e,e2]
 refine⟨([],0),⟨rfl,rfl,rfl⟩,?_⟩
 refine LoopP.count2 rows.length (fun k xs=>xs=(rows.take k).map (pickS lw)) (by simp) fun k xs hk hJ q hq=>?_
 have hxl:xs.length=k:=by rw[hJ];simp;omega
 dsimp only
 refine⟨fun hlt=>?_,fun hge=>?_⟩
 ·have hlt:k<rows.length:=by omega
  have hr:=p5 _ (List.getElem_mem hlt)
  simp only[Int.toNat_natCast,getD_nat hlt,List.length_singleton]
  refine⟨by omega,by omega,⟨h1,hr.1,by omega,fun x hx=>by have:=t5 x hx;omega⟩,by omega,by omega,(xs++[pickS lw rows[k]],(k:Int)+1),⟨rfl,rfl,by simp⟩,hq _ hlt ?_⟩
  rw[take_succ_eq hlt,List.map_append,←hJ];rfl
 ·have:k=rows.length:=by omega
  subst this
  rw[List.take_length] at hJ
  rw[hJ]
  exact⟨rfl,rfl,rfl⟩
end Go.Proofs.Tryz
set_option linter.unusedVariables false
namespace Go.Proofs.Tryz
open Go Go.V Go.Proofs
def rndB (p:List Bool) (w:Nat):Bool:=p.getD (w % p.length) false
def bgB (p:List Bool) (w:Nat):Bool:=rndB p w != rndB p (w+p.length-1)
def bB (s:List UInt8) (w:Nat):Bool:=s.getD w 0 != s.getD ((w+s.length-1) % s.length) 0
theorem rndB_mod (p:List Bool) (w:Nat):rndB p (w % p.length)=rndB p w:=by simp[rndB]
theorem weaveErr_zero {hk:Int} {lw:List Int} {hd:Int} {rows:List Int} (h:weaveErr hk lw hd rows=0):tieErr hk lw=0∧pointErr hd rows=0∧hd=hk:=by
 unfold weaveErr at h
 split at h
 ·rename_i h1;exact absurd h h1
 rename_i h1
 split at h
 ·rename_i h2;exact absurd h h2
 rename_i h2
 split at h
 ·cases h
 rename_i h3
 exact⟨by simpa using h1,by simpa using h2,by simpa using h3⟩
theorem not_all {p:List Bool} {f:Nat} (hf:f<p.length) (hb:bgB p f=true):∃ j,j<p.length∧rndB p j≠rndB p 0:=by
 by_cases h:rndB p f=rndB p 0
 ·refine⟨(f+p.length-1) % p.length,Nat.mod_lt _ (by omega),?_⟩
  rw[rndB_mod,←h]
  have:rndB p f≠rndB p (f+p.length-1):=by simpa [bgB] using hb
  exact Ne.symm this
 ·exact⟨f,hf,h⟩
theorem pickS_length (lw:List Int) (row:Int):(pickS lw row).length=lw.length:=by simp[pickS]
end Go.Proofs.Tryz
set_option linter.unusedVariables false
namespace Go.Proofs.Tryz
open Go Go.V Go.Proofs
def wpN (c:List (List UInt8)):Nat:=(c.getD 0 []).length
def colS (c:List (List UInt8)) (w:Nat):List UInt8:=c.map fun s=>s.getD w 0
def newB (c:List (List UInt8)) (w:Nat):Bool:=(List.range w).all fun k=>colS c k != colS c w
def fewAN (c:List (List UInt8)) (n:Nat):List Nat:=(List.range n).filter (newB c)
def fewA (c:List (List UInt8)) (n:Nat):List Int:=(fewAN c n).map fun (w:Nat)=>(w:Int)
def mapFrom (c:List (List UInt8)):Nat→List Nat→List (List UInt8×Int)
 |_,[]=>[]
 |i,k::L=>(colS c k,(i:Int))::mapFrom c (i+1) L
def fewK (c:List (List UInt8)) (n:Nat):List (List UInt8×Int):=mapFrom c 0 (fewAN c n)
def hkOf (c:List (List UInt8)) (w:Nat):Nat:=(fewAN c (w+1)).findIdx fun k=>colS c k==colS c w
def fewLN (c:List (List UInt8)) (n:Nat):List Int:=(List.range n).map fun w=>((hkOf c w:Nat):Int)
def fewL (c:List (List UInt8)):List Int:=fewLN c (wpN c)
def fewErr (c:List (List UInt8)):Int:=if clothErr c (wpN c)≠0 then clothErr c (wpN c) else if 24<(fewK c (wpN c)).length then 8 else 0
def likeB (c:List (List UInt8)) (a b:Nat):Bool:=c.all fun s=>s.getD a 0==s.getD b 0
theorem agetS_cons (a:List UInt8) (b:Int) (m:List (List UInt8×Int)) (e:List UInt8) (d:Int):gq.aget .st ((a,b)::m) e d=if e=a then b else gq.aget .st m e d:=by
 show (if (e==a)=true then b else gq.aget .st m e d)=_
 simp only[beq_iff_eq]
theorem ahasS_cons (a:List UInt8) (b:Int) (m:List (List UInt8×Int)) (e:List UInt8):gq.ahas .st ((a,b)::m) e=((a==e)||gq.ahas .st m e):=by
 show ((e==a)||gq.ahas .st m e)=_
 rw[Bool.beq_comm]
theorem aputS_cons (a:List UInt8) (b:Int) (m:List (List UInt8×Int)) (k:List UInt8) (v:Int):aput .st ((a,b)::m) k v=if k=a then (k,v)::m else (a,b)::aput .st m k v:=by
 show (if (k==a)=true then (k,v)::m else (a,b)::aput .st m k v)=_
 simp only[beq_iff_eq]
theorem mapFrom_length (c:List (List UInt8)):∀ (L:List Nat) (i:Nat),(mapFrom c i L).length=L.length
 |[],_=>rfl
 |k::L,i=>by simp only[mapFrom,List.length_cons,mapFrom_length c L]
theorem mapFrom_has (c:List (List UInt8)) (s:List UInt8):∀ (L:List Nat) (i:Nat),gq.ahas .st (mapFrom c i L) s=L.any fun k=>colS c k==s
 |[],_=>rfl
 |k::L,i=>by rw[mapFrom,ahasS_cons,mapFrom_has c s L,List.any_cons]
theorem mapFrom_get (c:List (List UInt8)) (s:List UInt8):∀ (L:List Nat) (i:Nat),(L.any fun k=>colS c k==s)=true→gq.aget .st (mapFrom c i L) s 0=((i+L.findIdx fun k=>colS c k==s:Nat):Int)
 |[],_,h=>by cases h
 |k::L,i,h=>by
  rw[mapFrom,agetS_cons,List.findIdx_cons]
  by_cases hk:s=colS c k
  ·rw[if_pos hk];simp[hk]
  ·have hk2:(colS c k==s)=false:=by rw[beq_eq_false_iff_ne];exact Ne.symm hk
   rw[List.any_cons,hk2,Bool.false_or] at h
   rw[if_neg hk,mapFrom_get c s L (i+1) h,hk2,cond_false]
   omega
theorem mapFrom_put (c:List (List UInt8)) (k:Nat) (v:Int):∀ (L:List Nat) (i:Nat),(L.any fun j=>colS c j==colS c k)=false→v=((i+L.length:Nat):Int)→aput .st (mapFrom c i L) (colS c k) v=mapFrom c i (L++[k])
 |[],i,_,hv=>by subst hv;rfl
 |j::L,i,h,hv=>by
  rw[List.any_cons,Bool.or_eq_false_iff,beq_eq_false_iff_ne] at h
  rw[mapFrom,aputS_cons,if_neg (Ne.symm h.1),mapFrom_put c k v L (i+1) h.2 (by rw[hv,List.length_cons];congr 1;omega)]
  rfl
theorem fewAN_succ (c:List (List UInt8)) (n:Nat):fewAN c (n+1)=fewAN c n++(if newB c n then [n] else []):=by
 unfold fewAN
 rw[List.range_succ,List.filter_append]
 congr 1
 cases h:newB c n<;>simp[h]
theorem mem_fewAN {c:List (List UInt8)} {n k:Nat}:k∈fewAN c n↔k<n∧newB c k=true:=by
 simp[fewAN]
theorem newB_iff {c:List (List UInt8)} {w:Nat}:newB c w=true↔∀ k,k<w→colS c k≠colS c w:=by
 simp[newB]
theorem first_in {c:List (List UInt8)} (w:Nat):∀ k,k≤w→colS c k=colS c w→∃ j,j∈fewAN c (k+1)∧colS c j=colS c w:=by
 intro k
 induction k using Nat.strongRecOn with
 |ind k ih =>
  intro hk hc
  by_cases hn:newB c k=true
  ·exact⟨k,mem_fewAN.2 ⟨by omega,hn⟩,hc⟩
  ·have:¬ ∀ j,j<k→colS c j≠colS c k:=fun h=>hn (newB_iff.2 h)
   have:∃ j,j<k∧colS c j=colS c k:=by
    apply Classical.byContradiction
    intro h2
    exact this fun j hj he=>h2 ⟨j,hj,he⟩
   obtain⟨j,hj,he⟩:=this
   obtain⟨i,hi,hie⟩:=ih j hj (by omega) (he.trans hc)
   exact⟨i,mem_fewAN.2 ⟨by have:=(mem_fewAN.1 hi).1;omega,(mem_fewAN.1 hi).2⟩,hie⟩
theorem any_newB (c:List (List UInt8)) (w:Nat):((fewAN c w).any fun k=>colS c k==colS c w)=!newB c w:=by
 rw[Bool.eq_iff_iff,List.any_eq_true]
 constructor
 ·rintro⟨k,hk,he⟩
  have h1:=mem_fewAN.1 hk
  rw[Bool.not_eq_true',Bool.eq_false_iff]
  intro hn
  exact newB_iff.1 hn k h1.1 (eq_of_beq he)
 ·intro hn
  rw[Bool.not_eq_true',Bool.eq_false_iff] at hn
  have:∃ j,j<w∧colS c j=colS c w:=by
   apply Classical.byContradiction
   intro h2
   exact hn (newB_iff.2 fun j hj he=>h2 ⟨j,hj,he⟩)
  obtain⟨j,hj,he⟩:=this
  obtain⟨i,hi,hie⟩:=first_in w j (by omega) he
  exact⟨i,mem_fewAN.2 ⟨by have:=(mem_fewAN.1 hi).1;omega,(mem_fewAN.1 hi).2⟩,by rw[hie];exact BEq.rfl⟩
theorem hkOf_new {c:List (List UInt8)} {w:Nat} (h:newB c w=true):hkOf c w=(fewAN c w).length:=by
 have ha:=any_newB c w
 rw[h,Bool.not_true] at ha
 unfold hkOf
 rw[fewAN_succ,h,if_pos rfl,List.findIdx_append]
 have:(fewAN c w).findIdx (fun k=>colS c k==colS c w)=(fewAN c w).length:=by
  rw[List.findIdx_eq_length]
  intro x hx
  exact List.any_eq_false.1 ha x hx |> Bool.eq_false_iff.2
 rw[this]
 simp[List.findIdx_cons]
theorem hkOf_old {c:List (List UInt8)} {w:Nat} (h:newB c w=false):hkOf c w=(fewAN c w).findIdx fun k=>colS c k==colS c w:=by
 unfold hkOf
 rw[fewAN_succ,h];simp
theorem likeB_iff {c:List (List UInt8)} {a b:Nat}:likeB c a b=true↔colS c a=colS c b:=by
 simp only[likeB,colS,List.all_eq_true,beq_iff_eq,List.map_inj_left]
theorem fewLN_succ (c:List (List UInt8)) (n:Nat):fewLN c (n+1)=fewLN c n++[((hkOf c n:Nat):Int)]:=by
 simp only[fewLN,List.range_succ,List.map_append,List.map_cons,List.map_nil]
theorem fewAN_len (c:List (List UInt8)) (n:Nat):(fewAN c n).length≤n:=by
 have:=List.length_filter_le (newB c) (List.range n)
 rwa [List.length_range] at this
theorem fewAN_pre (c:List (List UInt8)) (m:Nat):∀ k,∃ R,fewAN c (m+k)=fewAN c m++R
 |0=>⟨[],by simp⟩
 |k+1=>by
  obtain⟨R,h⟩:=fewAN_pre c m k
  exact⟨R++(if newB c (m+k) then [m+k] else []),by rw[←Nat.add_assoc,fewAN_succ,h,List.append_assoc]⟩
theorem hkOf_in (c:List (List UInt8)) (w:Nat):hkOf c w<(fewAN c (w+1)).length:=by
 obtain⟨j,hj,he⟩:=first_in (c:=c) w w (Nat.le_refl _) rfl
 exact List.findIdx_lt_length_of_exists ⟨j,hj,by rw[he];exact BEq.rfl⟩
theorem hkOf_lt {c:List (List UInt8)} {w n:Nat} (h:w<n):hkOf c w<(fewAN c n).length∧colS c ((fewAN c n).getD (hkOf c w) 0)=colS c w:=by
 have h1:=hkOf_in c w
 obtain⟨R,hR⟩:=fewAN_pre c (w+1) (n-(w+1))
 rw[show w+1+(n-(w+1))=n by omega] at hR
 rw[hR,List.length_append]
 refine⟨by omega,?_⟩
 rw[List.getD_eq_getElem?_getD,List.getElem?_append_left h1,←List.getD_eq_getElem?_getD,getD_nat h1]
 have:=List.findIdx_getElem (xs:=fewAN c (w+1)) (p:=fun k=>colS c k==colS c w) (w:=h1)
 exact eq_of_beq this
theorem new_eq {c:List (List UInt8)} {a b:Nat} (ha:newB c a=true) (hb:newB c b=true) (h:colS c a=colS c b):a=b:=by
 rcases Nat.lt_trichotomy a b with h1|h1|h1
 ·exact(newB_iff.1 hb a h1 h).elim
 ·exact h1
 ·exact(newB_iff.1 ha b h1 h.symm).elim
theorem fewAN_inj {c:List (List UInt8)} {n i j:Nat} (hi:i<(fewAN c n).length) (hj:j<(fewAN c n).length) (h:(fewAN c n)[i]=(fewAN c n)[j]):i=j:=by
 have hp:(fewAN c n).Pairwise (·<·):=List.Pairwise.filter _ List.pairwise_lt_range
 rcases Nat.lt_trichotomy i j with h1|h1|h1
 ·have:=List.pairwise_iff_getElem.1 hp i j hi hj h1;omega
 ·exact h1
 ·have:=List.pairwise_iff_getElem.1 hp j i hj hi h1;omega
theorem like_idx {c:List (List UInt8)} {w n k:Nat} (h:w<n) (hk:k<(fewAN c n).length):likeB c ((fewAN c n).getD k 0) w=decide (k=hkOf c w):=by
 obtain⟨h1,h2⟩:=hkOf_lt (c:=c) h
 rw[Bool.eq_iff_iff,likeB_iff,decide_eq_true_eq]
 constructor
 ·intro h3
  rw[getD_nat hk] at h3
  rw[getD_nat h1] at h2
  have e:=new_eq (mem_fewAN.1 (List.getElem_mem hk)).2 (mem_fewAN.1 (List.getElem_mem h1)).2 (h3.trans h2.symm)
  exact fewAN_inj hk h1 e
 ·rintro rfl;exact h2
theorem few_zero {c:List (List UInt8)} (h:fewErr c=0):clothErr c (wpN c)=0∧(fewAN c (wpN c)).length≤24:=by
 unfold fewErr at h
 split at h
 ·rename_i h1;exact absurd h h1
 ·rename_i h1
  split at h
  ·cases h
  ·rename_i h2
   rw[fewK,mapFrom_length] at h2
   exact⟨by simpa using h1,by omega⟩
theorem sorted_ext:∀ {a b:List Int},a.Pairwise (·<·)→b.Pairwise (·<·)→(∀ x,x∈a↔x∈b)→a=b
 |[],[],_,_,_=>rfl
 |[],y::b,_,_,h=>by have:=(h y).2 (List.mem_cons_self ..);cases this
 |x::a,[],_,_,h=>by have:=(h x).1 (List.mem_cons_self ..);cases this
 |x::a,y::b,ha,hb,h=>by
  obtain⟨ha1,ha2⟩:=List.pairwise_cons.1 ha
  obtain⟨hb1,hb2⟩:=List.pairwise_cons.1 hb
  have hxy:x=y:=by
   rcases List.mem_cons.1 ((h x).1 (List.mem_cons_self ..)) with e|e
   ·exact e
   ·rcases List.mem_cons.1 ((h y).2 (List.mem_cons_self ..)) with e2|e2
    ·exact e2.symm
    ·have h1:=hb1 x e;have h2:=ha1 y e2;omega
  subst hxy
  rw[sorted_ext ha2 hb2 fun z=>?_]
  constructor
  ·intro hz
   rcases List.mem_cons.1 ((h z).1 (List.mem_cons_of_mem _ hz)) with e|e
   ·have:=ha1 z hz;omega
   ·exact e
  ·intro hz
   rcases List.mem_cons.1 ((h z).2 (List.mem_cons_of_mem _ hz)) with e|e
   ·have:=hb1 z hz;omega
   ·exact e
theorem mergeSort_eq {a b:List Int} (ha:a.Pairwise (·≠·)) (hb:b.Pairwise (·<·)) (h:∀ x,x∈a↔x∈b):a.mergeSort (fun x y=>decide (x≤y))=b:=by
 have hp:=List.mergeSort_perm a (fun x y=>decide (x≤y))
 have hs:(a.mergeSort (fun x y=>decide (x≤y))).Pairwise (fun x y=>decide (x≤y)=true):=List.pairwise_mergeSort (fun x y z h1 h2=>by simp at *;omega) (fun x y=>by simp;omega) a
 have hn:(a.mergeSort (fun x y=>decide (x≤y))).Pairwise (·≠·):=(hp.pairwise_iff (fun {x y} h=>Ne.symm h)).2 ha
 refine sorted_ext ((hs.and hn).imp fun {x y} h=>?_) hb fun x=>by rw[hp.mem_iff,h]
 have h1:x≤y:=by simpa using h.1
 have h2:=h.2
 omega
theorem fewA_sorted (c:List (List UInt8)) (n:Nat):(fewA c n).Pairwise (·<·):=by
 have hp:(fewAN c n).Pairwise (·<·):=List.Pairwise.filter _ List.pairwise_lt_range
 exact List.pairwise_map.2 (hp.imp fun h=>by omega)
theorem aput_mem:∀ {m:List (Int×Int)} {k v:Int} {p:Int×Int},(m.map (·.1)).Pairwise (·≠·)→(p∈aput (.i .i64) m k v↔p=(k,v)∨(p∈m∧p.1≠k))
 |[],k,v,p,_=>by
  have:aput (.i .i64) [] k v=[(k,v)]:=rfl
  rw[this];simp
 |(a,b)::m,k,v,p,h=>by
  obtain⟨h1,h2⟩:=List.pairwise_cons.1 h
  rw[aputI_cons]
  by_cases hk:k=a
  ·subst hk
   rw[if_pos rfl]
   constructor
   ·intro hp
    rcases List.mem_cons.1 hp with e|e
    ·exact .inl e
    ·exact .inr ⟨List.mem_cons_of_mem _ e,Ne.symm (h1 p.1 (List.mem_map_of_mem e))⟩
   ·rintro (e|⟨e,hne⟩)
    ·rw[e];exact List.mem_cons_self ..
    ·rcases List.mem_cons.1 e with e|e
     ·rw[e] at hne;exact(hne rfl).elim
     ·exact List.mem_cons_of_mem _ e
  ·rw[if_neg hk,List.mem_cons,aput_mem h2,List.mem_cons]
   constructor
   ·rintro (e|e|⟨e,hne⟩)
    ·exact .inr ⟨.inl e,by rw[e];exact Ne.symm hk⟩
    ·exact .inl e
    ·exact .inr ⟨.inr e,hne⟩
   ·rintro (e|⟨e|e,hne⟩)
    ·exact .inr (.inl e)
    ·exact .inl e
    ·exact .inr (.inr ⟨e,hne⟩)
theorem aput_keys:∀ {m:List (Int×Int)} {k v:Int},(m.map (·.1)).Pairwise (·≠·)→((aput (.i .i64) m k v).map (·.1)).Pairwise (·≠·)
 |[],k,v,_=>by
  have:aput (.i .i64) [] k v=[(k,v)]:=rfl
  rw[this];simp
 |(a,b)::m,k,v,h=>by
  obtain⟨h1,h2⟩:=List.pairwise_cons.1 h
  rw[aputI_cons]
  by_cases hk:k=a
  ·subst hk;rw[if_pos rfl];exact List.pairwise_cons.2 ⟨h1,h2⟩
  ·rw[if_neg hk]
   refine List.pairwise_cons.2 ⟨fun x hx=>?_,aput_keys h2⟩
   obtain⟨p,hp,rfl⟩:=List.mem_map.1 hx
   rcases (aput_mem h2).1 hp with e|⟨e,_⟩
   ·rw[e];exact Ne.symm hk
   ·exact h1 _ (List.mem_map_of_mem e)
theorem fstMk_mem (lw:List Int):∀ j,j≤lw.length→((fstMk lw j).map (·.1)).Pairwise (·≠·)∧∀ p:Int×Int,p∈fstMk lw j↔∃ w:Nat,lw.length-j≤w∧w<lw.length∧lw.getD w 0=p.1∧p.2=w∧∀ i,lw.length-j≤i→i<w→lw.getD i 0≠p.1
 |0,_=>⟨List.Pairwise.nil,fun p=>⟨(fun h=>by cases h),fun ⟨w,h1,h2,_⟩=>by omega⟩⟩
 |j+1,hj=>by
  obtain⟨h1,h2⟩:=fstMk_mem lw j (by omega)
  refine⟨aput_keys h1,fun p=>?_⟩
  show p∈aput (.i .i64) (fstMk lw j) (lw.getD (lw.length-1-j) 0) ((lw.length:Int)-1-j)↔_
  rw[aput_mem h1,h2]
  constructor
  ·rintro (e|⟨⟨w,a1,a2,a3,a4,a5⟩,hne⟩)
   ·refine⟨lw.length-1-j,by omega,by omega,by rw[e],by rw[e];dsimp only;omega,fun i b1 b2=>by omega⟩
   ·refine⟨w,by omega,a2,a3,a4,fun i b1 b2=>?_⟩
    rcases Nat.lt_or_ge i (lw.length-j) with h|h
    ·have:i=lw.length-1-j:=by omega
     rw[this];exact Ne.symm hne
    ·exact a5 i h b2
  ·rintro⟨w,a1,a2,a3,a4,a5⟩
   rcases Nat.lt_or_ge w (lw.length-j) with h|h
   ·have e:w=lw.length-1-j:=by omega
    subst e
    exact .inl (Prod.ext a3.symm (by rw[a4];dsimp only;omega))
   ·refine .inr ⟨⟨w,h,a2,a3,a4,fun i b1 b2=>a5 i (by omega) b2⟩,fun e=>?_⟩
    exact a5 (lw.length-1-j) (by omega) (by omega) e.symm
theorem fstM_mem {lw:List Int} {p:Int×Int}:p∈fstM lw↔∃ w:Nat,w<lw.length∧lw.getD w 0=p.1∧p.2=w∧∀ i,i<w→lw.getD i 0≠p.1:=by
 have:=(fstMk_mem lw lw.length (Nat.le_refl _)).2 p
 rw[Nat.sub_self] at this
 rw[fstM,this]
 constructor
 ·rintro⟨w,_,a2,a3,a4,a5⟩;exact⟨w,a2,a3,a4,fun i hi=>a5 i (by omega) hi⟩
 ·rintro⟨w,a2,a3,a4,a5⟩;exact⟨w,by omega,a2,a3,a4,fun i _ hi=>a5 i hi⟩
theorem fstM_vals (lw:List Int):((fstM lw).map (·.2)).Pairwise (·≠·):=by
 have hk:=(fstMk_mem lw lw.length (Nat.le_refl _)).1
 rw[List.pairwise_map] at hk ⊢
 refine List.Pairwise.imp_of_mem (fun {p q} hp hq h he=>?_) hk
 obtain⟨w,a2,a3,a4,_⟩:=fstM_mem.1 (show p∈fstM lw from hp)
 obtain⟨v,b2,b3,b4,_⟩:=fstM_mem.1 (show q∈fstM lw from hq)
 have:w=v:=by omega
 subst this
 exact h (a3.symm.trans b3)
theorem hkOf_eq {c:List (List UInt8)} {n i w:Nat} (hi:i<n) (hw:w<n):hkOf c i=hkOf c w↔colS c i=colS c w:=by
 obtain⟨a1,a2⟩:=hkOf_lt (c:=c) hi
 obtain⟨b1,b2⟩:=hkOf_lt (c:=c) hw
 constructor
 ·intro h;rw[←a2,h,b2]
 ·intro h
  have:=like_idx (c:=c) hw a1
  rw[likeB_iff.2 (a2.trans h)] at this
  exact of_decide_eq_true this.symm
theorem fewLN_getD {c:List (List UInt8)} {n w:Nat} (h:w<n):(fewLN c n).getD w 0=((hkOf c w:Nat):Int):=by
 rw[getD_nat (by simpa [fewLN] using h)];simp[fewLN]
theorem few_vals {c:List (List UInt8)} {n:Nat} (v:Int):v∈(fstM (fewLN c n)).map (·.2)↔v∈fewA c n:=by
 have hl:(fewLN c n).length=n:=by simp[fewLN]
 simp only[List.mem_map,fewA]
 constructor
 ·rintro⟨p,hp,rfl⟩
  obtain⟨w,a2,a3,a4,a5⟩:=fstM_mem.1 hp
  rw[hl] at a2
  refine⟨w,mem_fewAN.2 ⟨a2,newB_iff.2 fun k hk he=>?_⟩,a4.symm⟩
  have:=a5 k hk
  rw[←a3,fewLN_getD (by omega),fewLN_getD a2] at this
  exact this (by rw[(hkOf_eq (show k<n by omega) a2).2 he])
 ·rintro⟨w,hw,rfl⟩
  obtain⟨h1,h2⟩:=mem_fewAN.1 hw
  refine⟨(((hkOf c w:Nat):Int),(w:Int)),fstM_mem.2 ⟨w,by omega,fewLN_getD h1,rfl,fun i hi he=>?_⟩,rfl⟩
  rw[fewLN_getD (by omega)] at he
  have he:hkOf c i=hkOf c w:=by dsimp only at he;omega
  exact newB_iff.1 h2 i hi ((hkOf_eq (show i<n by omega) h1).1 he)
theorem apart_sort {c:List (List UInt8)} {n:Nat} {vis:List Nat} (h1:vis.Pairwise (·≠·)) (h2:∀ r∈vis,r<(fstM (fewLN c n)).length) (h3:∀ r,r<(fstM (fewLN c n)).length→r∈vis) :
  (vis.map fun r=>((fstM (fewLN c n)).getD r (0,0)).2).mergeSort (fun x y=>decide (x≤y))=fewA c n:=by
 have hv:=fstM_vals (fewLN c n)
 refine mergeSort_eq ?_ (fewA_sorted c n) fun v=>?_
 ·rw[List.pairwise_map]
  refine List.Pairwise.imp_of_mem (fun {a b} ha hb hne he=>?_) h1
  have ha:=h2 a ha
  have hb:=h2 b hb
  rw[getD_nat ha,getD_nat hb] at he
  rw[List.pairwise_map] at hv
  rcases Nat.lt_trichotomy a b with h|h|h
  ·exact List.pairwise_iff_getElem.1 hv a b ha hb h he
  ·exact hne h
  ·exact List.pairwise_iff_getElem.1 hv b a hb ha h he.symm
 ·rw[←few_vals]
  simp only[List.mem_map]
  constructor
  ·rintro⟨r,hr,rfl⟩
   have hr:=h2 r hr
   exact⟨_,by rw[getD_nat hr];exact List.getElem_mem hr,rfl⟩
  ·rintro⟨p,hp,rfl⟩
   obtain⟨r,hr,rfl⟩:=List.getElem_of_mem hp
   exact⟨r,h3 r hr,by rw[getD_nat hr]⟩
def al_tie_column:AL (List (List UInt8)×Int):=(.cons (.k (.list .st)) (.one (.k (.i .i64))))
def pre_tie_column (d:List (List UInt8)×Int):Prop:=d.1.length≤1000∧0≤d.2∧∀ s∈d.1,d.2<s.length
def res_tie_column (d:List (List UInt8)×Int):SV:=.val .st (colS d.1 d.2.toNat)
def obs_tie_column (d:List (List UInt8)×Int):List OB:=[]
def s_tie_column:CSp:=mkSp al_tie_column pre_tie_column res_tie_column obs_tie_column
def vc_tie_column (c:List (List UInt8)) (w:Int):Prop :=
 ∃ (e3:Unit) (d30:Bool×(List Int)×Int),((w=w∧True∧c=c∧(lI c)=(lI c)∧(0:Int)=d30.2.2∧True)∧((d30.1=false∧True∧(([]:List SV)=[]))∧(d30.2.1=[]∧(List.isEmpty d30.2.1)=true)∧True)) ∧
 LoopP (fun (d3:Bool×(List Int)×Int) (q3:(Bool×(List Int)×Int)→Prop) =>
  ((decide (d3.2.2<(lI c)))=true →
   (0≤d3.2.2)∧(d3.2.2<(List.length c))∧(0≤w)∧(w<(List.length (gD c d3.2.2 [])))∧∀ w4:List Value,∀ w5:List Value,((!d3.1)=true →
    w5=w5∧(((List.length d3.2.1)+(List.length [((UInt8.toNat (gD (gD c d3.2.2 []) w 0):Nat):Int)]))*1≤70368744177664)∧w4=w4∧(I64 (d3.2.2+(1:Int)))∧(∃ d6:Bool×(List Int)×Int,((w=w∧True∧c=c∧(lI c)=(lI c)∧(d3.2.2+(1:Int))=d6.2.2∧True)∧((d6.1=true∧True∧(([]:List SV)=[]))∧((d3.2.1++[((UInt8.toNat (gD (gD c d3.2.2 []) w 0):Nat):Int)])=d6.2.1∧false=(List.isEmpty d6.2.1))∧True))∧q3 d6)) ∧
   ((!d3.1)=false →
    (d3.1=true)∧((!true)=true →
     False) ∧
    ((!true)=false →
     w5=w5∧(((List.length d3.2.1)+(List.length [((UInt8.toNat (gD (gD c d3.2.2 []) w 0):Nat):Int)]))*1≤70368744177664)∧w4=w4∧(I64 (d3.2.2+(1:Int)))∧(∃ d7:Bool×(List Int)×Int,((w=w∧True∧c=c∧(lI c)=(lI c)∧(d3.2.2+(1:Int))=d7.2.2∧True)∧((d3.1=d7.1∧True∧(([]:List SV)=[]))∧((d3.2.1++[((UInt8.toNat (gD (gD c d3.2.2 []) w 0):Nat):Int)])=d7.2.1∧false=(List.isEmpty d7.2.1))∧True))∧q3 d7)))) ∧
  ((decide (d3.2.2<(lI c)))=false →
   ∀ w8:List Value,((List.isEmpty d3.2.1)=false→d3.2.1≠[])∧((lI d3.2.1)=(List.length d3.2.1))∧((List.length d3.2.1)≤4611686018427387904)∧w8=w8∧((bytesI d3.2.1)=(colS c w.toNat)∧(True)))) d30
def cx_tie_column:Cx:=⟨[(5,(.i .u8))],[],20,[],0,[(106,x_strings_Builder_WriteByte),(135,x_strings_Builder_copyCheck),(152,sameX),(109,x_strings_Builder_String)],[],[],[],false,[],[],[]⟩
def lp_tie_column (c:List (List UInt8)) (w:Int):List (Nat×LoopAnn):=[(0,⟨Unit,Bool×(List Int)×Int,[1,5,8,9,10],fun e x=>[.val (.i .i64) w,.box 5 0,.val (.list .st) c,.val (.i .i64) (((List.length c):Nat):Int),.val (.i .i64) x.2.2],fun e x=>[(5,.slot 5,.cells [.dd 5 (.obx x.1),.lst 1800014] (some 175)),(1800014,.cell 5 1,.lst 5 (.i .u8) x.2.1 (List.isEmpty x.2.1))]⟩)]
set_option maxRecDepth 100000 in
theorem vq_tie_column (d:List (List UInt8)×Int):gwp (cx_tie_column) (lp_tie_column d.1 d.2) c114 0 (gend [.tmp 4] (res_tie_column d) (obs_tie_column d)) (gstart 20 (AL.can al_tie_column d))=vc_tie_column d.1 d.2:=by kernel_rfl
abbrev Ok_tie_column:Prop:=OkC Tryz.prog 114 s_tie_column
theorem mk_tie_column (h:∀ (c:List (List UInt8)) (w:Int),(c.length≤1000∧0≤w∧∀ s∈c,w<s.length)→vc_tie_column c w):OkC Tryz.prog 114 s_tie_column :=
 okC_vc fun114 mixed (C:=cx_tie_column) (V:=fun (d:List (List UInt8)×Int)=>vc_tie_column d.1 d.2) ⟨.nil,(XsOk.cons okx_strings_Builder_WriteByte (XsOk.cons okx_strings_Builder_copyCheck (XsOk.cons (sameX_ok same152) (XsOk.cons okx_strings_Builder_String XsOk.nil)))),ItsOk.nil,YlOk.nil,IysOk.nil⟩ (vq_tie_column) fun d hp=>h d.1 d.2 hp
theorem bytes_col (c:List (List UInt8)) (w:Nat):bytesI (c.map fun s=>(((s.getD w 0).toNat:Nat):Int))=colS c w:=by
 simp only[bytesI,colS,List.map_map]
 refine List.map_congr_left fun s _=>?_
 simp[Function.comp]
theorem ok_tie_column:Ok_tie_column:=mk_tie_column fun c w h=>by
 obtain⟨h1,h2,h3⟩:=h
 obtain⟨w,rfl⟩:=Int.eq_ofNat_of_zero_le h2
 unfold vc_tie_column;(try delta lI gD sT I64);simp only[true_and,and_true,exists_const,decide_eq_true_eq,decide_eq_false_iff_not,ne_eq,Bool.not_eq_true',Bool.not_eq_false',Int.toNat_natCast,Int.ofNat_lt,InK_i64]
 refine⟨(false,[],0),⟨rfl,rfl,rfl,rfl⟩,?_⟩
 refine⟨fun d=>∃ i:Nat,i≤c.length∧d.2.2=i∧d.2.1=(c.take i).map fun s=>(((s.getD w 0).toNat:Nat):Int),fun d=>c.length-d.2.2.toNat,⟨0,Nat.zero_le _,rfl,by simp⟩,?_⟩
 rintro⟨b,xs,_⟩ ⟨i,hi,rfl,hxs⟩
 dsimp only at hxs ⊢
 have hxl:xs.length=i:=by rw[hxs];simp;omega
 refine⟨fun hlt=>?_,fun hge=>?_⟩
 ·have hlt:i<c.length:=by omega
  have hs:=h3 _ (List.getElem_mem hlt)
  have hn:xs++[(((c[i].getD w 0).toNat:Nat):Int)]=(c.take (i+1)).map fun s=>(((s.getD w 0).toNat:Nat):Int):=by rw[hxs,take_succ_eq hlt,List.map_append];rfl
  simp only[Int.toNat_natCast,getD_nat hlt,List.length_singleton]
  refine⟨by omega,by omega,by omega,by omega,fun _ w5=>⟨fun hc=>?_,fun hc=>?_⟩⟩
  ·exact⟨by omega,by omega,(true,xs++[(((c[i].getD w 0).toNat:Nat):Int)],(i:Int)+1),⟨rfl,rfl,rfl,by simp⟩,⟨i+1,by omega,by simp,hn⟩,by dsimp only;omega⟩
  ·refine⟨by simpa using hc,?_⟩
   refine⟨fun h=>by simp at h,fun _=>?_⟩
   exact⟨by omega,by omega,(b,xs++[(((c[i].getD w 0).toNat:Nat):Int)],(i:Int)+1),⟨rfl,rfl,rfl,by simp⟩,⟨i+1,by omega,by simp,hn⟩,by dsimp only;omega⟩
 ·have:i=c.length:=by omega
  subst this
  rw[List.take_length] at hxs
  refine fun _=>⟨?_,by omega,?_⟩
  ·intro hne h0;rw[h0] at hne;simp at hne
  ·rw[hxs];exact bytes_col c w
def al_tie_fewest:AL (List (List UInt8)):=(.one (.k (.list .st)))
def pre_tie_fewest (d:List (List UInt8)):Prop:=d.length≤1000∧∀ s∈d,s.length≤1000
def res_tie_fewest (d:List (List UInt8)):SV:=.tup [.agg [.val (.i .i64) (if fewErr d=0 then ((fewK d (wpN d)).length:Int) else 0),.lst 0],.val (.i .i64) (fewErr d)]
def obs_tie_fewest (d:List (List UInt8)):List OB:=[.lst 3 (.i .i64) (if fewErr d=0 then fewL d else []) ((if fewErr d=0 then fewL d else []).isEmpty)]
def s_tie_fewest:CSp:=mkSp al_tie_fewest pre_tie_fewest res_tie_fewest obs_tie_fewest
def vc_tie_fewest (c:List (List UInt8)):Prop :=
 ∃ (e3:Unit),CutP (fun (q3:(Int)→Prop) =>
 ((decide ((lI c) > (0:Int)))=true →
  (0≤(0:Int))∧((0:Int)<(List.length c))∧(∃ d4:Int,((c=c∧True∧(lI (gD c (0:Int) []))=d4∧True)∧(((0:Int)=(0:Int)∧True∧(([]:List SV)=[]))∧True))∧q3 d4)) ∧
 ((decide ((lI c) > (0:Int)))=false →
  (∃ d5:Int,((c=c∧True∧(0:Int)=d5∧True)∧(((0:Int)=(0:Int)∧True∧(([]:List SV)=[]))∧True))∧q3 d5)))
 (fun (d3:Int) =>
  (c.length≤1000000∧∀ s∈c,s.length≤1000000)∧(((clothErr c d3) != (0:Int))=true →
   ((((0:Int)=(if fewErr c=0 then ((fewK c (wpN c)).length:Int) else 0)∧True∧(([]:List SV)=[]))∧(clothErr c d3)=(fewErr c)∧(([]:List SV)=[]))∧(((if fewErr c=0 then fewL c else [])=[]∧(if fewErr c=0 then fewL c else []).isEmpty=true)∧True))) ∧
  (((clothErr c d3) != (0:Int))=false →
   ∃ (e9:Int) (d90:(List Int)×(List (List UInt8×Int))×Int),((c=c∧True∧True∧d3=e9∧(0:Int)=d90.2.2∧True)∧(((0:Int)=(0:Int)∧True∧(([]:List SV)=[]))∧(d90.1=[]∧(List.isEmpty d90.1)=true)∧(([]:List (List UInt8×Int))=d90.2.1)∧True)) ∧
   LoopP (fun (d9:(List Int)×(List (List UInt8×Int))×Int) (q9:((List Int)×(List (List UInt8×Int))×Int)→Prop) =>
    ((decide (d9.2.2<e9))=true →
     (c.length≤1000∧0≤d9.2.2∧∀ s∈c,d9.2.2<s.length)∧((!(gq.ahas .st d9.2.1 (colS c d9.2.2.toNat)))=true →
      (((List.length d9.1)+(List.length [(lI d9.2.1)]))*8≤70368744177664)∧(I64 (d9.2.2+(1:Int)))∧(∃ d10:(List Int)×(List (List UInt8×Int))×Int,((c=c∧True∧True∧e9=e9∧(d9.2.2+(1:Int))=d10.2.2∧True)∧(((0:Int)=(0:Int)∧True∧(([]:List SV)=[]))∧((d9.1++[(lI d9.2.1)])=d10.1∧false=(List.isEmpty d10.1))∧((aput .st d9.2.1 (colS c d9.2.2.toNat) (lI d9.2.1))=d10.2.1)∧True))∧q9 d10)) ∧
     ((!(gq.ahas .st d9.2.1 (colS c d9.2.2.toNat)))=false →
      (((List.length d9.1)+(List.length [(gq.aget .st d9.2.1 (colS c d9.2.2.toNat) 0)]))*8≤70368744177664)∧(I64 (d9.2.2+(1:Int)))∧(∃ d11:(List Int)×(List (List UInt8×Int))×Int,((c=c∧True∧True∧e9=e9∧(d9.2.2+(1:Int))=d11.2.2∧True)∧(((0:Int)=(0:Int)∧True∧(([]:List SV)=[]))∧((d9.1++[(gq.aget .st d9.2.1 (colS c d9.2.2.toNat) 0)])=d11.1∧false=(List.isEmpty d11.1))∧(d9.2.1=d11.2.1)∧True))∧q9 d11))) ∧
    ((decide (d9.2.2<e9))=false →
     ((decide ((lI d9.2.1) > (24:Int)))=true →
      ((((0:Int)=(if fewErr c=0 then ((fewK c (wpN c)).length:Int) else 0)∧True∧(([]:List SV)=[]))∧(8:Int)=(fewErr c)∧(([]:List SV)=[]))∧(((if fewErr c=0 then fewL c else [])=[]∧(if fewErr c=0 then fewL c else []).isEmpty=true)∧True))) ∧
     ((decide ((lI d9.2.1) > (24:Int)))=false →
      ((((lI d9.2.1)=(if fewErr c=0 then ((fewK c (wpN c)).length:Int) else 0)∧True∧(([]:List SV)=[]))∧(0:Int)=(fewErr c)∧(([]:List SV)=[]))∧((d9.1=(if fewErr c=0 then fewL c else [])∧(List.isEmpty d9.1)=(if fewErr c=0 then fewL c else []).isEmpty)∧True))))) d90))
def cx_tie_fewest:Cx:=⟨[(3,(.i .i64)),(1000025,(.pair .st (.i .i64)))],[(112,s_tie_checkCloth),(114,s_tie_column)],61,[],0,[],[],[],[],false,[],[],[]⟩
def lp_tie_fewest (c:List (List UInt8)):List (Nat×LoopAnn):=[(0,⟨Int,(List Int)×(List (List UInt8×Int))×Int,[0,2,6,26,27],fun e x=>[.val (.list .st) c,.box 2 0,.map 25,.val (.i .i64) e,.val (.i .i64) x.2.2],fun e x=>[(2,.slot 2,.cells [.val (.i .i64) (0:Int),.lst 50] (some 26)),(50,.cell 2 1,.lst 3 (.i .i64) x.1 (List.isEmpty x.1)),(25,.slot 6,.map .st (.i .i64) x.2.1)]⟩),
 (3000013,⟨Unit,Int,[0,2,4],fun e x=>[.val (.list .st) c,.box 2 0,.val (.i .i64) x],fun e x=>[(2,.slot 2,.cells [.val (.i .i64) (0:Int),.nilS] (some 26))]⟩)]
set_option maxRecDepth 100000 in
theorem vq_tie_fewest (d:List (List UInt8)):gwp (cx_tie_fewest) (lp_tie_fewest d) c84 0 (gend [.cell 2 true 2,.tmp 3] (res_tie_fewest d) (obs_tie_fewest d)) (gstart 61 (AL.can al_tie_fewest d))=vc_tie_fewest d:=by kernel_rfl
abbrev Ok_tie_fewest:Prop:=OkC Tryz.prog 84 s_tie_fewest
theorem mk_tie_fewest (h:∀ (c:List (List UInt8)),(c.length≤1000∧∀ s∈c,s.length≤1000)→vc_tie_fewest c):OkC Tryz.prog 84 s_tie_fewest :=
 okC_vc fun84 mixed (C:=cx_tie_fewest) (V:=fun (d:List (List UInt8))=>vc_tie_fewest d) ⟨(.cons ok_tie_checkCloth (.cons ok_tie_column .nil)),XsOk.nil,ItsOk.nil,YlOk.nil,IysOk.nil⟩ (vq_tie_fewest) fun d hp=>h d hp
theorem ok_tie_fewest:Ok_tie_fewest:=mk_tie_fewest fun c h=>by
 obtain⟨h1,h2⟩:=h
 unfold vc_tie_fewest;(try delta lI gD sT I64)
 (try simp only[decide_eq_true_eq,decide_eq_false_iff_not])
 refine⟨(),fun d=>d=(wpN c:Int),⟨fun hl=>⟨by omega,by omega,_,(by and_intros<;>first|rfl|trivial|simp),rfl⟩,fun hl=>⟨_,(by and_intros<;>first|rfl|trivial|simp),?_⟩⟩,fun d hd=>?_⟩
 ·have:c=[]:=List.length_eq_zero_iff.1 (by omega)
  subst this;rfl
 subst hd
 refine⟨⟨by omega,fun s hs=>by have:=h2 s hs;omega⟩,fun he=>?_,fun he=>?_⟩
 ·have he:clothErr c (wpN c)≠0:=by simpa using he
  have e:fewErr c=clothErr c (wpN c):=by simp[fewErr,he]
  rw[e,if_neg he,if_neg he];exact(by and_intros<;>first|rfl|trivial|simp)
 have he:clothErr c (wpN c)=0:=by simpa using he
 obtain⟨c1,c2,c3,c4,c5⟩:=clothErr_zero he
 have hE:fewErr c=if 24<(fewK c (wpN c)).length then 8 else 0:=by simp[fewErr,he]
 have hlen:∀ n,(fewK c n).length=(fewAN c n).length:=fun n=>mapFrom_length _ _ _
 have hle:=fewAN_len c
 refine⟨(wpN c:Int),([],[],0),(by and_intros<;>first|rfl|trivial|simp),?_⟩
 refine⟨fun d=>∃ n:Nat,n≤wpN c∧d=(fewLN c n,fewK c n,(n:Int)),fun d=>wpN c-d.2.2.toNat,⟨0,by omega,rfl⟩,?_⟩
 rintro _ ⟨n,hn,rfl⟩
 dsimp only
 have hll:(fewLN c n).length=n:=by simp[fewLN]
 have hkn:=hlen n
 have hkl:=hle n
 simp only[Int.toNat_natCast,InK_i64,List.length_singleton]
 refine⟨fun hlt=>⟨⟨h1,by omega,fun s hs=>by have:=(c5 s hs).1;omega⟩,fun hx=>?_,fun hx=>?_⟩,fun hge=>⟨fun hg=>?_,fun hg=>?_⟩⟩
 ·have hnew:newB c n=true:=by
   have:gq.ahas .st (fewK c n) (colS c n)=false:=by simpa using hx
   rw[fewK,mapFrom_has,any_newB] at this
   simpa using this
  have hput:aput .st (fewK c n) (colS c n) ((fewK c n).length:Int)=fewK c (n+1):=by
   unfold fewK
   rw[mapFrom_put c n _ _ 0 (by rw[any_newB,hnew];rfl) (by rw[mapFrom_length];congr 1;omega),fewAN_succ,hnew,if_pos rfl]
  have hl2:fewLN c (n+1)=fewLN c n++[((fewK c n).length:Int)]:=by rw[fewLN_succ,hkOf_new hnew,hkn]
  rw[hput,←hl2]
  refine⟨by omega,by omega,(fewLN c (n+1),fewK c (n+1),(n:Int)+1),?_,⟨n+1,by omega,rfl⟩,by dsimp only;omega⟩
  rw[hl2];and_intros<;>first|rfl|trivial|simp
 ·have hhas:gq.ahas .st (fewK c n) (colS c n)=true:=by simpa using hx
  rw[fewK,mapFrom_has] at hhas
  have hnew:newB c n=false:=by
   rw[any_newB] at hhas
   simpa using hhas
  have hget:gq.aget .st (fewK c n) (colS c n) 0=((hkOf c n:Nat):Int):=by
   rw[fewK,mapFrom_get _ _ _ _ hhas,hkOf_old hnew,Nat.zero_add]
  have hk2:fewK c (n+1)=fewK c n:=by unfold fewK;rw[fewAN_succ,hnew];simp
  have hl2:fewLN c (n+1)=fewLN c n++[((hkOf c n:Nat):Int)]:=fewLN_succ c n
  rw[hget,←hl2]
  refine⟨by omega,by omega,(fewLN c (n+1),fewK c n,(n:Int)+1),?_,⟨n+1,by omega,by rw[hk2];rfl⟩,by dsimp only;omega⟩
  rw[hl2];and_intros<;>first|rfl|trivial|simp
 ·have:n=wpN c:=by omega
  subst this
  have e:fewErr c=8:=by rw[hE,if_pos (by omega)]
  rw[e];exact(by and_intros<;>first|rfl|trivial|simp)
 ·have:n=wpN c:=by omega
  subst this
  have e:fewErr c=0:=by rw[hE,if_neg (by omega)]
  rw[e];exact(by and_intros<;>first|rfl|trivial|simp)
end Go.Proofs.Tryz
set_option linter.unusedVariables false
namespace Go.Proofs.Tryz
open Go Go.V Go.Proofs
def al_tie_Fewest:AL (List (List UInt8)):=(.one (.k (.list .st)))
def pre_tie_Fewest (d:List (List UInt8)):Prop:=d.length≤1000∧∀ s∈d,s.length≤1000
def res_tie_Fewest (d:List (List UInt8)):SV:=.tup [.agg [.val (.i .i64) (if fewErr d=0 then ((fewK d (wpN d)).length:Int) else 0),.lst 0],.agg [.val (.i .i64) (if fewErr d=0 then ((fewK d (wpN d)).length:Int) else 0),.lst 1],.val (.i .i64) (fewErr d)]
def obs_tie_Fewest (d:List (List UInt8)):List OB:=[.lst 3 (.i .i64) (if fewErr d=0 then fewL d else []) ((if fewErr d=0 then fewL d else []).isEmpty),.lst 3 (.i .i64) (if fewErr d=0 then rowsX (fewL d) d else []) ((if fewErr d=0 then rowsX (fewL d) d else []).isEmpty)]
def s_tie_Fewest:CSp:=mkSp al_tie_Fewest pre_tie_Fewest res_tie_Fewest obs_tie_Fewest
def vc_tie_Fewest (c:List (List UInt8)):Prop :=
 (c.length≤1000∧∀ s∈c,s.length≤1000)∧(((fewErr c) != (0:Int))=true →
  ((((if fewErr c=0 then ((fewK c (wpN c)).length:Int) else 0)=(if fewErr c=0 then ((fewK c (wpN c)).length:Int) else 0)∧True∧(([]:List SV)=[]))∧((0:Int)=(if fewErr c=0 then ((fewK c (wpN c)).length:Int) else 0)∧True∧(([]:List SV)=[]))∧(fewErr c)=(fewErr c)∧(([]:List SV)=[]))∧(((if fewErr c=0 then fewL c else [])=(if fewErr c=0 then fewL c else [])∧(if fewErr c=0 then fewL c else []).isEmpty=(if fewErr c=0 then fewL c else []).isEmpty)∧((if fewErr c=0 then rowsX (fewL c) c else [])=[]∧(if fewErr c=0 then rowsX (fewL c) c else []).isEmpty=true)∧True))) ∧
 (((fewErr c) != (0:Int))=false →
  ((if fewErr c=0 then fewL c else []).length≤1000∧c.length≤1000∧(∀ s∈c,s.length=(if fewErr c=0 then fewL c else []).length)∧∀ x∈(if fewErr c=0 then fewL c else []),0≤x∧x<24)∧((rowsX (if fewErr c=0 then fewL c else []) c).isEmpty=true→(rowsX (if fewErr c=0 then fewL c else []) c)=[])∧((((if fewErr c=0 then ((fewK c (wpN c)).length:Int) else 0)=(if fewErr c=0 then ((fewK c (wpN c)).length:Int) else 0)∧True∧(([]:List SV)=[]))∧((if fewErr c=0 then ((fewK c (wpN c)).length:Int) else 0)=(if fewErr c=0 then ((fewK c (wpN c)).length:Int) else 0)∧True∧(([]:List SV)=[]))∧(0:Int)=(fewErr c)∧(([]:List SV)=[]))∧(((if fewErr c=0 then fewL c else [])=(if fewErr c=0 then fewL c else [])∧(if fewErr c=0 then fewL c else []).isEmpty=(if fewErr c=0 then fewL c else []).isEmpty)∧((rowsX (if fewErr c=0 then fewL c else []) c)=(if fewErr c=0 then rowsX (fewL c) c else [])∧(rowsX (if fewErr c=0 then fewL c else []) c).isEmpty=(if fewErr c=0 then rowsX (fewL c) c else []).isEmpty)∧True)))
def cx_tie_Fewest:Cx:=⟨[],[(84,s_tie_fewest),(81,s_tie_harness_design)],20,[],0,[],[],[],[],false,[],[],[]⟩
def lp_tie_Fewest (c:List (List UInt8)):List (Nat×LoopAnn):=[]
set_option maxRecDepth 100000 in
theorem vq_tie_Fewest (d:List (List UInt8)):gwp (cx_tie_Fewest) (lp_tie_Fewest d) c38 0 (gend [.cell 2 true 2,.cell 3 true 2,.tmp 4] (res_tie_Fewest d) (obs_tie_Fewest d)) (gstart 20 (AL.can al_tie_Fewest d))=vc_tie_Fewest d:=by kernel_rfl
abbrev Ok_tie_Fewest:Prop:=OkC Tryz.prog 38 s_tie_Fewest
theorem mk_tie_Fewest (h:∀ (c:List (List UInt8)),(c.length≤1000∧∀ s∈c,s.length≤1000)→vc_tie_Fewest c):OkC Tryz.prog 38 s_tie_Fewest :=
 okC_vc fun38 mixed (C:=cx_tie_Fewest) (V:=fun (d:List (List UInt8))=>vc_tie_Fewest d) ⟨(.cons ok_tie_fewest (.cons ok_tie_harness_design .nil)),XsOk.nil,ItsOk.nil,YlOk.nil,IysOk.nil⟩ (vq_tie_Fewest) fun d hp=>h d hp
theorem ok_tie_Fewest:Ok_tie_Fewest:=mk_tie_Fewest fun c h=>by
 obtain⟨h1,h2⟩:=h
 unfold vc_tie_Fewest;(try delta lI gD sT I64)
 (try simp only[])
 refine⟨⟨h1,h2⟩,fun he=>?_,fun he=>?_⟩
 ·have he:fewErr c≠0:=by simpa using he
  simp[he]
 ·have he:fewErr c=0:=by simpa using he
  obtain⟨z1,z2⟩:=few_zero he
  obtain⟨c1,c2,c3,c4,c5⟩:=clothErr_zero z1
  have hl:(fewL c).length=wpN c:=by simp[fewL,fewLN]
  simp only[he,if_true]
  refine⟨⟨by omega,h1,fun s hs=>by have:=(c5 s hs).1;omega,fun x hx=>?_⟩,fun h=>List.isEmpty_iff.1 h,?_⟩
  ·simp only[fewL,fewLN,List.mem_map,List.mem_range] at hx
   obtain⟨w,hw,rfl⟩:=hx
   have:=(hkOf_lt (c:=c) hw).1
   omega
  ·exact(by and_intros<;>first|rfl|trivial|simp)
end Go.Proofs.Tryz
namespace Go.V
open Go Go.RowKit
theorem putRow_setCells (enc:Int→Value) (blk:Nat):∀ (ys:List Int) (w:World) (off:Nat),Go.Sort.putRow enc w blk off ys.toArray=w.setCells blk off (ys.map enc)
 |[],w,off=>by
  simp only[List.map_nil,World.setCells]
  refine Go.Sort.mapBlock_id _ _ _ fun c _ _ _=>?_
  apply Array.ext_getElem?
  intro k
  simp only[Go.Sort.putCells,Array.getElem?_mapIdx]
  cases h:c[k]? with
  |none=>rfl
  |some x=>rw[Option.map_some,if_neg (by simp)]
 |y::ys,w,off=>by
  rw[List.map_cons,World.setCells,←putRow_setCells enc blk ys,Go.Sort.setCell_eq]
  unfold Go.Sort.putRow
  rw[Go.Sort.mapBlock_mapBlock]
  refine Go.Sort.mapBlock_congr _ _ _ _ fun c _ _ _=>?_
  apply Array.ext_getElem?
  intro k
  simp only[Go.Sort.putCells,Array.getElem?_mapIdx,Array.getElem?_setIfInBounds,List.size_toArray,List.length_cons]
  by_cases hk:off=k
  ·subst hk
   rw[if_pos rfl]
   by_cases hc:off<c.size
   ·rw[if_pos hc,Array.getElem?_eq_getElem hc,Option.map_some,Option.map_some,if_pos (by omega),if_neg (by omega),Nat.sub_self]
    simp
   ·rw[if_neg hc,Array.getElem?_eq_none (by omega)];rfl
  ·rw[if_neg hk]
   cases h:c[k]? with
   |none=>rfl
   |some x =>
    simp only[Option.map_some,Option.some.injEq]
    by_cases h1:off+1≤k∧k<off+1+ys.length
    ·rw[if_pos h1,if_pos (by omega)]
     have e:k-off=(k-(off+1))+1:=by omega
     rw[e]
     simp
    ·rw[if_neg h1,if_neg (by omega)]
theorem rows_ints {h:Heap}:∀ (xs:List Int),Rows (KC h (.i .i64)) xs (xs.map (Value.int .i64))
 |[]=>.nil
 |x::xs=>.cons (c:=[.int .i64 x]) rfl (rows_ints xs)
theorem rows_ints_eq {h:Heap}:∀ {xs:List Int} {cs:List Value},Rows (KC h (.i .i64)) xs cs→cs=xs.map (Value.int .i64)
 |[],_,.nil=>rfl
 |x::xs,_,.cons hc ht=>by
  have hc:_=[Value.int .i64 x]:=hc
  rw[hc,rows_ints_eq ht];rfl
theorem lrel_ints {ρ:Plc} {n:Nat}:∀ (xs:List Int),LRel ρ n (xs.map (Value.int .i64)) (xs.map (Value.int .i64))
 |[]=>LRel.nil _ _
 |x::xs=>LRel.cons (.int _ _) (lrel_ints xs)
theorem put_ints {h:Heap} (ys:List Int) {c:List Value} (hl:ys.length≤c.length):Rows (KC h (.i .i64)) ys ((setL c 0 (ys.map (Value.int .i64))).take (ys.length*(Kind.i .i64).size)):=by
 have hl2:(ys.map (Value.int .i64)).length=ys.length:=by rw[List.length_map]
 rw[setL_split (by omega),hl2]
 simp only[Kind.size,Nat.mul_one,List.take_zero,List.nil_append]
 rw[List.take_append_of_le_length (by omega),List.take_of_length_le (by omega)]
 exact rows_ints _
theorem VCalled.of_same {P:Program} {f:FuncId} {args:List Value} {σ:Heap} {K:Value→Heap→Prop} (he:Enterable P f) (ha:args.all plainV=true)
  (h:∀ w,Calls P f args.toArray w fun e w'=>e=.returned (.tuple #[])∧w'=w) (hK:K (.tuple #[]) σ):VCalled P f args σ K:=by
 intro ρ w cargs hH hL
 obtain rfl:=plain_args ha hL
 refine .inl ⟨fun w=>run_callFunc he _ w,(h w).mono fun e w' ⟨h1,h2⟩=>?_⟩
 subst h2
 exact⟨_,h1,.tuple #[],ρ,σ,hK,.tuple _ _ rfl (fun i h1 _=>by simp at h1),hH,Ext.refl _ _ _⟩
theorem VCalled.of_row {P : Program} {f : FuncId} {i cap ty : Nat} {xs : List Int} {c : List Value} {t : Bool} {σ : Heap} {K : Value → Heap → Prop} (g : List Int → List Int) (hg : (g xs).length = xs.length) (he : Enterable P f)
    (h : ∀ (blk off cap : Nat) (w : World), Go.Sort.Holds (Value.int .i64) w blk off xs.toArray → blk < w.heap.size → Calls P f #[.slice (some ⟨blk, off, none⟩) xs.length cap] w fun e w' => e = .returned (.tuple #[]) ∧ ∃ n os, w' = Go.Sort.grow (Go.Sort.putRow (Value.int .i64) (Go.Sort.ahead w n) blk off (g xs).toArray) os)
    (hb : σ.get i = some (.cells c ⟨1, ty⟩ true t)) (hcap : xs.length ≤ cap) (hl : cap ≤ c.length) (hr : c.take xs.length = xs.map (Value.int .i64))
    (hK : K (.tuple #[]) (σ.upd i (.cells (setL c 0 ((g xs).map (Value.int .i64))) ⟨1, ty⟩ true t))) : VCalled P f [.slice (some ⟨i, 0, none⟩) xs.length cap] σ K := by
  intro ρ w cargs hH hL
  obtain ⟨p, hp, hB⟩ := hH.live i _ hb
  have hB' := hB
  obtain ⟨h1, h2, h3, ⟨C, e, fr, h4, h4'⟩, h5, h6⟩ := hB
  have hcs : cargs.size = 1 := by have := hL.1; simpa using this.symm
  obtain ⟨u, rfl⟩ : ∃ u, cargs = #[u] := ⟨cargs[0], by apply Array.ext (by simpa using hcs); intro j hj1 hj2; obtain rfl : j = 0 := by simp at hj2; omega
                                                       rfl⟩
  have hu := hL.2 0 _ u rfl rfl
  cases hu with
  | sl _ _ _ _ a cap' hi hpl =>
    obtain ⟨q1, q2, o', rfl, q3, q4⟩ := hpl p hp
    have hz : p.esz.sz = 1 := by rw [h1]
    have hoff : xs.length = 0 ∨ o' = 0 := by omega
    have hholds : Go.Sort.Holds (Value.int .i64) w p.blk (p.shift + o') xs.toArray := fun j hj => by
      simp only [List.size_toArray] at hj
      obtain rfl : o' = 0 := by omega
      have hjc : c[j]? = some (.int .i64 xs[j]) := by
        have e1 : (c.take xs.length)[j]? = (xs.map (Value.int .i64))[j]? := by rw [hr]
        rw [List.getElem?_take, if_pos hj, List.getElem?_map, List.getElem?_eq_getElem hj] at e1
        exact e1
      obtain ⟨u, hu1, hu2⟩ := h5 j _ hjc
      cases hu2
      refine ⟨?_, (h6 rfl).2 j (by have := (List.getElem?_eq_some_iff.1 hjc).1; omega)⟩
      rw [Nat.add_zero, hu1]
      simp [hj]
    refine .inl ⟨fun w => run_callFunc he _ w, (h p.blk (p.shift + o') cap' w hholds (hH.lt i p hp)).mono fun e w' ⟨he1, n, os, he2⟩ => ?_⟩
    subst he2
    have hlen : ((g xs).map (Value.int .i64)).length = xs.length := by rw [List.length_map, hg]
    obtain ⟨k1, k2⟩ := hH.store hp hb (o := 0) (lrel_ints (g xs)) (by omega)
    have hw : Go.Sort.putRow (Value.int .i64) w p.blk (p.shift + o') (g xs).toArray = w.setCells p.blk (p.shift + 0) ((g xs).map (Value.int .i64)) := by
      rw [putRow_setCells]
      rcases hoff with h0 | h0
      · have : g xs = [] := List.length_eq_zero_iff.1 (by omega)
        rw [this]; rfl
      · rw [h0]
    rw [Go.Sort.putRow_ahead, hw]
    have hold : ∀ k, k < (w.setCells p.blk (p.shift + 0) ((g xs).map (Value.int .i64))).heap.size → (Go.Sort.grow (Go.Sort.ahead (w.setCells p.blk (p.shift + 0) ((g xs).map (Value.int .i64))) n) os).heap[k]? = (w.setCells p.blk (p.shift + 0) ((g xs).map (Value.int .i64))).heap[k]? := fun k hk =>
      Go.Sort.heap_grow_old _ os (by simpa using hk)
    have hsz : (w.setCells p.blk (p.shift + 0) ((g xs).map (Value.int .i64))).heap.size ≤ (Go.Sort.grow (Go.Sort.ahead (w.setCells p.blk (p.shift + 0) ((g xs).map (Value.int .i64))) n) os).heap.size := by simp
    refine ⟨_, he1, .tuple #[], ρ, _, hK, .tuple _ _ rfl (fun i h1 _ => by simp at h1), k1.world hsz (fun i p hp => hold _ (k1.lt i p hp)) (fun g cs hg => hold _ (k1.tab.lt hg)), k2.trans ⟨rfl, rfl, rfl, hsz, fun B hB _ => hold B hB, fun _ _ h => h, Nat.le_refl _, fun _ _ _ h => h⟩⟩
theorem okX_sort {P:Program} {ρ0:Go.Shelf.Ren} {f ty:Nat} {ap:Ap} (L:Go.Proofs.Lays.n189 P ρ0) (he:Enterable P f) (hf:ρ0.f 189=f) {al:AL Unit} (hal:al=.nil) {pre:List Int→Bool→Unit→Prop} (hp:∀ xs nl d,pre xs nl d→xs.length≤1000000) :
  XOk P f (lentX ap (lentL ty (.i .i64) al pre (fun _ _ _=>.tup []) (fun xs _ _=>xs.mergeSort fun x y=>decide (x≤y)))):=by
 subst hf;subst hal
 intro B F pl tb s env σ d args vs K R hG ha hx hK
 unfold lentX at hx
 split at hx
 ·rename_i a args
  split at hx
  ·rename_i o hkey
   cases hbf:((oget s.own o).ret&&lfit a (oget s.own o)) with
   |false=>rw[hbf] at hx;exact hx.elim
   |true =>
   rw[hbf] at hx
   simp only[_root_.cond_true] at hx
   simp only[Bool.and_eq_true] at hbf
   obtain⟨hbr,hfit⟩:=hbf
   split at hx
   ·rename_i c v b' hsp
    cases hvr:(v.ret 0&&b'.ret) with
    |false=>rw[hvr] at hx;exact hx.elim
    |true =>
    rw[hvr] at hx
    obtain⟨hc,hx⟩:=hx
    simp only[SRs] at ha
    obtain⟨u,us,rfl,hau,hus⟩:=ha
    have hlive:=OB.ret_live hbr
    have hob:=hG.obj o
    unfold lentL at hsp
    split at hsp
    ·rename_i ty' k' xs0 nl hown
     split at hsp
     ·rename_i e
      subst e
      split at hsp
      ·rename_i xs dd h1 h2
       obtain⟨rfl,rfl,rfl⟩:=(by simpa using hsp:pre xs nl dd=c∧SV.tup []=v∧OB.lst ty' (.i .i64) (xs.mergeSort fun x y=>decide (x≤y)) nl=b')
       unfold castL at h1
       split at h1
       ·rename_i e
        subst e
        have h1:xs=xs0:=(Option.some.inj h1).symm
        subst h1
        have hargs:args=[]:=by
         cases args with
         |nil=>rfl
         |cons b l=>simp[ress,res2,resPs,AL.dec] at h2
        subst hargs
        have hus:us=[]:=hus
        subst hus
        rw[hown] at hfit
        have hu:u=pl o:=by
         unfold lkey at hkey
         split at hkey
         ·obtain rfl:=Option.some.inj hkey
          exact hau.1
         ·cases hfit
         ·cases hkey
        subst hu
        have hlen:=hp _ _ _ hc
        rw[hown] at hob
        rcases hob with⟨rfl,rfl,h3⟩|⟨rfl,i,cap,c,t,h3,h4,h5,h6,h7⟩
        ·rw[h3]
         refine VCalled.of_same he rfl (fun w=>Go.Proofs.Any.slices_Sort_int_none L none 0 w) ?_
         ·refine hK _ _ B F pl tb (.tuple #[]) σ hx (GBase.of hG.bf (Dead.refl _)) (hG.writeF o (.lst ty' (.i .i64) (([]:List Int).mergeSort fun x y=>decide (x≤y)) true) hG.le hlive (fun _ _ _ _ _=>rfl) (.inl ⟨rfl,by simp,h3⟩)).1 ?_
          simp only[SR,SRs];exact⟨[],rfl,rfl⟩
        ·rw[h3]
         have hid:F.get i=none:=hG.fresh o i hlive (by rw[h3];rfl)
         have hoth:∀ j i',j≠o→(oget s.own j).live=true→Oid (pl j) i'→i'≠i:=fun j i' hj hl hi e=>by
          subst e;exact hG.sep j o i' hj hl hlive hi (by rw[h3];rfl)
         have h6':cap≤c.length:=by simpa [Kind.size] using h6
         have h7':c.take xs.length=xs.map (Value.int .i64):=by
          have:=rows_ints_eq h7
          simpa [Kind.size] using this
         refine VCalled.of_row (fun xs=>xs.mergeSort fun x y=>decide (x≤y)) (List.length_mergeSort _) he (fun blk off cap w hH hb=>Go.Proofs.Any.slices_Sort_int L blk off cap xs w hH hb (by omega)) h5 h4 h6' h7' ?_
         refine hK _ _ B F pl tb (.tuple #[]) _ hx (GBase.of hG.bf (Dead.upd _ _ _ (by rw[h5];rfl))) (hG.writeF o (.lst ty' (.i .i64) (xs.mergeSort fun x y=>decide (x≤y)) false) (hG.le.upd hid _) hlive (fun j i' hj hl hi=>Heap.get_upd_ne _ _ (hoth j i' hj hl hi)) (.inr ⟨rfl,i,cap,_,t,by rw[h3,List.length_mergeSort],by rw[List.length_mergeSort];exact h4,Heap.get_upd_self _ _ (σ.lt h5),by rw[setL_length];exact h6,?_⟩)).1 ?_
         ·exact put_ints _ (by rw[List.length_mergeSort];exact Nat.le_trans h4 h6')
         ·simp only[SR,SRs];exact⟨[],rfl,rfl⟩
       ·cases h1
      ·cases hsp
     ·cases hsp
    ·cases hsp
   ·exact hx.elim
  ·exact hx.elim
 ·exact hx.elim
end Go.V
set_option linter.unusedVariables false
namespace Go.Proofs.Tryz
open Go Go.V Go.Proofs
def al_slices_Sort_int_int:AL (Unit):=.nil
def pre_slices_Sort_int_int (xs:List Int) (nl:Bool) (d:Unit):Prop:=xs.length≤1000000
def res_slices_Sort_int_int (xs:List Int) (nl:Bool) (d:Unit):SV:=.tup []
def post_slices_Sort_int_int (xs:List Int) (nl:Bool) (d:Unit):List Int:=(xs.mergeSort fun x y=>decide (x≤y))
def x_slices_Sort_int_int:XSp:=lentX apNone (lentL 3 (.i .i64) al_slices_Sort_int_int pre_slices_Sort_int_int res_slices_Sort_int_int post_slices_Sort_int_int)
abbrev Ok_slices_Sort_int_int:Prop:=XOk Tryz.prog 86 x_slices_Sort_int_int
theorem okx_slices_Sort_int_int:Ok_slices_Sort_int_int:=okX_sort Tryz.lays189 fun86.enterable rfl rfl fun _ _ _ h=>h
def al_tie_Apart:AL (List (List UInt8)):=(.one (.k (.list .st)))
def pre_tie_Apart (d:List (List UInt8)):Prop:=d.length≤1000∧∀ s∈d,s.length≤1000
def res_tie_Apart (d:List (List UInt8)):SV:=.tup [.lst 0,.val (.i .i64) (fewErr d)]
def obs_tie_Apart (d:List (List UInt8)):List OB:=[.lst 3 (.i .i64) (if fewErr d=0 then fewA d (wpN d) else []) ((if fewErr d=0 then fewA d (wpN d) else []).isEmpty)]
def s_tie_Apart:CSp:=mkSp al_tie_Apart pre_tie_Apart res_tie_Apart obs_tie_Apart
def vc_tie_Apart (c:List (List UInt8)):Prop :=
 (c.length≤1000∧∀ s∈c,s.length≤1000)∧(((fewErr c) != (0:Int))=true →
  ((True∧(fewErr c)=(fewErr c)∧(([]:List SV)=[]))∧(((if fewErr c=0 then fewA c (wpN c) else [])=[]∧(if fewErr c=0 then fewA c (wpN c) else []).isEmpty=true)∧True))) ∧
 (((fewErr c) != (0:Int))=false →
  ((if fewErr c=0 then fewL c else []).length≤1000)∧∃ (e4:Unit) (d40:(List Int)×(List Nat)),((True∧True∧True)∧((d40.1=[]∧(List.isEmpty d40.1)=true)∧((fstM (if fewErr c=0 then fewL c else []))=(fstM (if fewErr c=0 then fewL c else []))∧([]:List Nat)=d40.2)∧True)) ∧
  LoopP (fun (d4:(List Int)×(List Nat)) (q4:((List Int)×(List Nat))→Prop) =>
   ((∀ r:Nat,r<(List.length (fstM (if fewErr c=0 then fewL c else [])))→r∈d4.2) →
    (false=true →
     (d4.2≠[])∧(((List.length d4.1)+(List.length [(List.getD (fstM (if fewErr c=0 then fewL c else [])) (List.getLastD d4.2 0) (0,0)).2]))*8≤70368744177664)∧(∃ d6:(List Int)×(List Nat),((True∧True∧True)∧(((d4.1++[(List.getD (fstM (if fewErr c=0 then fewL c else [])) (List.getLastD d4.2 0) (0,0)).2])=d6.1∧false=(List.isEmpty d6.1))∧((fstM (if fewErr c=0 then fewL c else []))=(fstM (if fewErr c=0 then fewL c else []))∧d4.2=d6.2)∧True))∧q4 d6)) ∧
    (false=false →
     (d4.1.length≤1000000)∧((True∧(0:Int)=(fewErr c)∧(([]:List SV)=[]))∧(((d4.1.mergeSort fun x y=>decide (x≤y))=(if fewErr c=0 then fewA c (wpN c) else [])∧(List.isEmpty d4.1)=(if fewErr c=0 then fewA c (wpN c) else []).isEmpty)∧True)))) ∧
   (∀ r5:Nat,r5<(List.length (fstM (if fewErr c=0 then fewL c else [])))→r5∉d4.2 →
    (true=true →
     ((d4.2++[r5])≠[])∧(((List.length d4.1)+(List.length [(List.getD (fstM (if fewErr c=0 then fewL c else [])) (List.getLastD (d4.2++[r5]) 0) (0,0)).2]))*8≤70368744177664)∧(∃ d7:(List Int)×(List Nat),((True∧True∧True)∧(((d4.1++[(List.getD (fstM (if fewErr c=0 then fewL c else [])) (List.getLastD (d4.2++[r5]) 0) (0,0)).2])=d7.1∧false=(List.isEmpty d7.1))∧((fstM (if fewErr c=0 then fewL c else []))=(fstM (if fewErr c=0 then fewL c else []))∧(d4.2++[r5])=d7.2)∧True))∧q4 d7)) ∧
    (true=false →
     (d4.1.length≤1000000)∧((True∧(0:Int)=(fewErr c)∧(([]:List SV)=[]))∧(((d4.1.mergeSort fun x y=>decide (x≤y))=(if fewErr c=0 then fewA c (wpN c) else [])∧(List.isEmpty d4.1)=(if fewErr c=0 then fewA c (wpN c) else []).isEmpty)∧True))))) d40)
def cx_tie_Apart:Cx:=⟨[(3,(.i .i64))],[(84,s_tie_fewest),(85,s_tie_harness_firsts)],30,[],0,[(86,x_slices_Sort_int_int)],[],[],[],false,[],[],[]⟩
def lp_tie_Apart (c:List (List UInt8)):List (Nat×LoopAnn):=[(0,⟨Unit,(List Int)×(List Nat),[2,18],fun e x=>[.lst 26,.box 18 0],fun e x=>[(26,.slot 2,.lst 3 (.i .i64) x.1 (List.isEmpty x.1)),(18,.slot 18,.iter (.i .i64) (.i .i64) (fstM (if fewErr c=0 then fewL c else [])) x.2)]⟩)]
set_option maxRecDepth 100000 in
theorem vq_tie_Apart (d:List (List UInt8)):gwp (cx_tie_Apart) (lp_tie_Apart d) c39 0 (gend [.tmp 2,.tmp 3] (res_tie_Apart d) (obs_tie_Apart d)) (gstart 30 (AL.can al_tie_Apart d))=vc_tie_Apart d:=by kernel_rfl
abbrev Ok_tie_Apart:Prop:=OkC Tryz.prog 39 s_tie_Apart
theorem mk_tie_Apart (h:∀ (c:List (List UInt8)),(c.length≤1000∧∀ s∈c,s.length≤1000)→vc_tie_Apart c):OkC Tryz.prog 39 s_tie_Apart :=
 okC_vc fun39 mixed (C:=cx_tie_Apart) (V:=fun (d:List (List UInt8))=>vc_tie_Apart d) ⟨(.cons ok_tie_fewest (.cons ok_tie_harness_firsts .nil)),(XsOk.cons okx_slices_Sort_int_int XsOk.nil),ItsOk.nil,YlOk.nil,IysOk.nil⟩ (vq_tie_Apart) fun d hp=>h d hp
theorem nodup_lenN:∀ {l m:List Nat},l.Nodup→(∀ x∈l,x∈m)→l.length≤m.length
 |[],_,_,_=>Nat.zero_le _
 |x::l,m,hn,hs=>by
  have hn:=List.nodup_cons.1 hn
  have hx:=hs x (List.mem_cons_self ..)
  have:=nodup_lenN (l:=l) (m:=m.erase x) hn.2 fun y hy=>(List.mem_erase_of_ne (by rintro rfl;exact hn.1 hy)).2 (hs y (List.mem_cons_of_mem _ hy))
  rw[List.length_erase_of_mem hx] at this
  have:0<m.length:=List.length_pos_of_mem hx
  simp only[List.length_cons];omega
theorem ok_tie_Apart:Ok_tie_Apart:=mk_tie_Apart fun c h=>by
 obtain⟨h1,h2⟩:=h
 unfold vc_tie_Apart;(try delta lI gD sT I64)
 refine⟨⟨h1,h2⟩,fun he=>?_,fun he=>?_⟩
 ·have he:fewErr c≠0:=by simpa using he
  simp[he]
 have he:fewErr c=0:=by simpa using he
 obtain⟨z1,z2⟩:=few_zero he
 obtain⟨c1,c2,c3,c4,c5⟩:=clothErr_zero z1
 have hl:(fewL c).length=wpN c:=by simp[fewL,fewLN]
 have hA:fewA c (wpN c)≠[]:=fun e=>by
  have h0:(0:Nat)∈fewAN c (wpN c):=mem_fewAN.2 ⟨by omega,newB_iff.2 fun k hk=>by omega⟩
  have:((0:Nat):Int)∈fewA c (wpN c):=List.mem_map_of_mem h0
  rw[e] at this;cases this
 have hs:=fun {vis}=>apart_sort (c:=c) (n:=wpN c) (vis:=vis)
 have hfl:fewLN c (wpN c)=fewL c:=rfl
 rw[hfl] at hs
 have hm:(fstM (fewL c)).length≤24:=by
  have:=hs (vis:=List.range (fstM (fewL c)).length) (List.nodup_range) (fun r hr=>List.mem_range.1 hr) (fun r hr=>List.mem_range.2 hr)
  have:=congrArg List.length this
  rw[List.length_mergeSort,List.length_map,List.length_range] at this
  rw[this];simpa [fewA] using z2
 simp only[he,if_true]
 generalize fstM (fewL c)=M at hs hm ⊢
 refine⟨by omega,(),([],[]),(by and_intros<;>first|rfl|trivial|simp),?_⟩
 refine⟨fun d=>d.2.Nodup∧(∀ r∈d.2,r<M.length)∧d.1=d.2.map fun r=>(M.getD r (0,0)).2,fun d=>M.length-d.2.length,⟨List.nodup_nil,(fun r hr=>by cases hr),rfl⟩,?_⟩
 rintro⟨_,vis⟩ ⟨i1,i2,i3⟩
 dsimp only at i1 i2 i3 ⊢
 subst i3
 have hvl:vis.length≤M.length:=by
  have:=nodup_lenN (m:=List.range M.length) i1 fun r hr=>List.mem_range.2 (i2 r hr)
  rwa [List.length_range] at this
 simp only[List.length_map,List.length_singleton]
 refine⟨fun hall=>⟨(fun hf=>by cases hf),fun _=>⟨by omega,?_⟩⟩,fun r hr hnr=>⟨fun _=>?_,(fun hf=>by cases hf)⟩⟩
 ·rw[hs i1 i2 hall]
  have hem:(List.map (fun r=>(M.getD r (0,0)).2) vis).isEmpty=(fewA c (wpN c)).isEmpty:=by
   have:=congrArg List.length (hs i1 i2 hall)
   rw[List.length_mergeSort] at this
   cases h5:fewA c (wpN c) with
   |nil=>exact(hA h5).elim
   |cons a l =>
    rw[h5] at this
    cases h6:List.map (fun r=>(M.getD r (0,0)).2) vis with
    |nil=>rw[h6] at this;cases this
    |cons b l2=>rfl
  rw[List.isEmpty_map] at hem
  simp[hem]
 ·have hnd:(vis++[r]).Nodup:=List.nodup_append.2 ⟨i1,by simp,fun a ha b hb e=>by rw[List.mem_singleton.1 hb] at e;rw[e] at ha;exact hnr ha⟩
  have hmem:∀ x∈vis++[r],x<M.length:=fun x hx=>by
   rcases List.mem_append.1 hx with hx|hx
   ·exact i2 x hx
   ·rw[List.mem_singleton.1 hx];exact hr
  have hlast:(vis++[r]).getLastD 0=r:=by simp
  have hvl2:(vis++[r]).length≤M.length:=by
   have:=nodup_lenN (m:=List.range M.length) hnd fun r hr=>List.mem_range.2 (hmem r hr)
   rwa [List.length_range] at this
  rw[List.length_append,List.length_singleton] at hvl2
  rw[hlast]
  refine⟨by simp,by omega,(List.map (fun r=>(M.getD r (0,0)).2) (vis++[r]),vis++[r]),?_,⟨hnd,hmem,rfl⟩,by dsimp only;rw[List.length_append,List.length_singleton];omega⟩
  rw[List.map_append]
  and_intros<;>first|rfl|trivial|simp
end Go.Proofs.Tryz
set_option linter.unusedVariables false
namespace Go.Proofs.Tryz
open Go Go.V Go.Proofs
def hN (fi la:Int):Nat:=(la-fi).natAbs
end Go.Proofs.Tryz
set_option linter.unusedVariables false
namespace Go.Proofs.Tryz
open Go Go.V Go.Proofs
def lOk (h8:Int) (ws rs:List Int):Prop:=0≤h8∧h8≤255∧u8s ws∧u16s rs
def rightB (c:List (List UInt8)) (pk wp:Int):Bool:=c.all (fun s=>decide ((s.length:Int)=wp))&&decide ((c.length:Int)=pk)
theorem rightB_iff {c:List (List UInt8)} {pk wp:Int}:rightB c pk wp=true↔(∀ s∈c,(s.length:Int)=wp)∧(c.length:Int)=pk:=by
 simp only[rightB,Bool.and_eq_true,List.all_eq_true,decide_eq_true_eq]
def al_law03_Loom_harness:AL (Int×List Int×List Int):=(.one (.agg (.cons (.k (.i .u8)) (.cons (.k (.list (.i .u8))) (.one (.k (.list (.i .u16))))))))
def pre_law03_Loom_harness (d:Int×List Int×List Int):Prop:=lOk d.1 d.2.1 d.2.2
def res_law03_Loom_harness (d:Int×List Int×List Int):SV:=.agg [.val (.i .i64) (hkN 16 d.1),.lst 0]
def obs_law03_Loom_harness (d:Int×List Int×List Int):List OB:=[.lst 3 (.i .i64) (warpsN (hkN 16 d.1) 48 d.2.1) false]
def s_law03_Loom_harness:CSp:=mkSp al_law03_Loom_harness pre_law03_Loom_harness res_law03_Loom_harness obs_law03_Loom_harness
def vc_law03_Loom_harness (h8:Int) (ws:List Int) (rs:List Int):Prop :=
 (I64 h8)∧((16:Int)≠0)∧(I64 ((1:Int)+(Int.tmod h8 (16:Int))))∧∃ (e4:Unit) (d40:(List Int)×Int),((True∧True∧True∧(0:Int)=d40.2∧True)∧((h8=h8∧ws=ws∧rs=rs∧(([]:List SV)=[]))∧((0:Int)=(0:Int)∧True∧(([]:List SV)=[]))∧(((1:Int)+(Int.tmod h8 (16:Int)))=((1:Int)+(Int.tmod h8 (16:Int)))∧True∧(([]:List SV)=[]))∧(d40.1=[]∧(List.isEmpty d40.1)=true)∧True)) ∧
 LoopP (fun (d4:(List Int)×Int) (q4:((List Int)×Int)→Prop) =>
  (((d4.2==(0:Int))||((decide (d4.2<(lI ws)))&&(decide (d4.2<(48:Int)))))=true →
   ((decide (d4.2<(lI ws)))=true →
    (0≤d4.2)∧(d4.2<(List.length ws))∧(I64 (gD ws d4.2 0))∧(((1:Int)+(Int.tmod h8 (16:Int)))≠0)∧(((List.length d4.1)+(List.length [(Int.tmod (gD ws d4.2 0) ((1:Int)+(Int.tmod h8 (16:Int))))]))*8≤70368744177664)∧(I64 (d4.2+(1:Int)))∧(∃ d5:(List Int)×Int,((True∧True∧True∧(d4.2+(1:Int))=d5.2∧True)∧((h8=h8∧ws=ws∧rs=rs∧(([]:List SV)=[]))∧((0:Int)=(0:Int)∧True∧(([]:List SV)=[]))∧(((1:Int)+(Int.tmod h8 (16:Int)))=((1:Int)+(Int.tmod h8 (16:Int)))∧True∧(([]:List SV)=[]))∧((d4.1++[(Int.tmod (gD ws d4.2 0) ((1:Int)+(Int.tmod h8 (16:Int))))])=d5.1∧false=(List.isEmpty d5.1))∧True))∧q4 d5)) ∧
   ((decide (d4.2<(lI ws)))=false →
    (((List.length d4.1)+(List.length [(0:Int)]))*8≤70368744177664)∧(I64 (d4.2+(1:Int)))∧(∃ d6:(List Int)×Int,((True∧True∧True∧(d4.2+(1:Int))=d6.2∧True)∧((h8=h8∧ws=ws∧rs=rs∧(([]:List SV)=[]))∧((0:Int)=(0:Int)∧True∧(([]:List SV)=[]))∧(((1:Int)+(Int.tmod h8 (16:Int)))=((1:Int)+(Int.tmod h8 (16:Int)))∧True∧(([]:List SV)=[]))∧((d4.1++[(0:Int)])=d6.1∧false=(List.isEmpty d6.1))∧True))∧q4 d6))) ∧
  (((d4.2==(0:Int))||((decide (d4.2<(lI ws)))&&(decide (d4.2<(48:Int)))))=false →
   ((((1:Int)+(Int.tmod h8 (16:Int)))=(hkN 16 h8)∧True∧(([]:List SV)=[]))∧((d4.1=(warpsN (hkN 16 h8) 48 ws)∧(List.isEmpty d4.1)=false)∧True)))) d40
def cx_law03_Loom_harness:Cx:=⟨[(3,(.i .i64))],[],48,[],0,[],[],[],[],false,[],[],[]⟩
def lp_law03_Loom_harness (h8:Int) (ws:List Int) (rs:List Int):List (Nat×LoopAnn):=[(0,⟨Unit,(List Int)×Int,[1,2,3,4],fun e x=>[.box 1 0,.box 2 0,.box 3 0,.val (.i .i64) x.2],fun e x=>[(1,.slot 1,.cells [.val (.i .u8) h8,.val (.list (.i .u8)) ws,.val (.list (.i .u16)) rs] (some 85)),(2,.slot 2,.cells [.val (.i .i64) (0:Int),.nilS] (some 26)),(3,.slot 3,.cells [.val (.i .i64) ((1:Int)+(Int.tmod h8 (16:Int))),.lst 45] (some 26)),(45,.cell 3 1,.lst 3 (.i .i64) x.1 (List.isEmpty x.1))]⟩)]
set_option maxRecDepth 100000 in
theorem vq_law03_Loom_harness (d:Int×List Int×List Int):gwp (cx_law03_Loom_harness) (lp_law03_Loom_harness d.1 d.2.1 d.2.2) c48 0 (gend [.cell 2 true 2] (res_law03_Loom_harness d) (obs_law03_Loom_harness d)) (gstart 48 (AL.can al_law03_Loom_harness d))=vc_law03_Loom_harness d.1 d.2.1 d.2.2:=by kernel_rfl
abbrev Ok_law03_Loom_harness:Prop:=OkC Tryz.prog 48 s_law03_Loom_harness
theorem mk_law03_Loom_harness (h:∀ (h8:Int) (ws:List Int) (rs:List Int),(lOk h8 ws rs)→vc_law03_Loom_harness h8 ws rs):OkC Tryz.prog 48 s_law03_Loom_harness :=
 okC_vc fun48 mixed (C:=cx_law03_Loom_harness) (V:=fun (d:Int×List Int×List Int)=>vc_law03_Loom_harness d.1 d.2.1 d.2.2) ⟨.nil,XsOk.nil,ItsOk.nil,YlOk.nil,IysOk.nil⟩ (vq_law03_Loom_harness) fun d hp=>h d.1 d.2.1 d.2.2 hp
theorem hkN_range {m h8:Int} (hm:0<m) (h:0≤h8):1≤hkN m h8∧hkN m h8≤m:=by
 have h1:=Int.tmod_nonneg m h
 have h2:=Int.tmod_lt_of_pos h8 hm
 simp only[hkN];omega
theorem warpsN_len {hk:Int} {cap:Nat} {ws:List Int}:(warpsN hk cap ws).length=if ws=[] then 1 else min cap ws.length:=by
 unfold warpsN;split<;>simp
theorem warpsN_get {hk:Int} {cap:Nat} {ws:List Int} {i:Nat} (h:i<ws.length) (hc:i<cap):(warpsN hk cap ws)[i]?=some (Int.tmod (ws.getD i 0) hk):=by
 have hne:ws≠[]:=by rintro rfl;simp at h
 unfold warpsN;rw[if_neg hne]
 simp[hc,h]
theorem ok_law03_Loom_harness:Ok_law03_Loom_harness:=mk_law03_Loom_harness fun h8 ws rs h=>by
 obtain⟨h1,h2,hws,hrs⟩:=h
 have hk:=hkN_range (m:=16) (by omega) h1
 have e:(1+Int.tmod h8 16)=hkN 16 h8:=rfl
 have hk:1≤hkN 16 h8∧hkN 16 h8≤16:=hk
 unfold vc_law03_Loom_harness;(try delta lI gD sT I64);simp only[true_and,and_true,exists_const,decide_eq_true_eq,decide_eq_false_iff_not,ne_eq,InK_i64,e]
 refine⟨by omega,by omega,by omega,([],0),⟨rfl,rfl,rfl⟩,?_⟩
 have hN:(warpsN (hkN 16 h8) 48 ws).length=if ws=[] then 1 else min 48 ws.length:=warpsN_len
 have hcond:∀ k:Nat,(((k:Int)==0)||(decide ((k:Int)<ws.length)&&decide ((k:Int)<48)))=decide (k<(warpsN (hkN 16 h8) 48 ws).length):=fun k=>by
  rw[hN]
  by_cases hz:ws=[]
  ·subst hz
   cases k<;>simp;omega
  ·have:0<ws.length:=List.length_pos_iff.2 hz
   rw[if_neg hz]
   cases k with
   |zero=>simp;omega
   |succ k =>
    rw[Bool.eq_iff_iff]
    simp;omega
 have hNle:(warpsN (hkN 16 h8) 48 ws).length≤48:=by rw[hN];split<;>omega
 refine LoopP.count2 (warpsN (hkN 16 h8) 48 ws).length (fun k xs=>xs=(warpsN (hkN 16 h8) 48 ws).take k) (by simp) fun k xs hk hJ q hq=>?_
 dsimp only
 rw[hcond]
 simp only[decide_eq_true_eq,decide_eq_false_iff_not,Int.toNat_natCast,Int.ofNat_lt]
 refine⟨fun hlt=>⟨fun hw=>?_,fun hw=>?_⟩,fun hge=>?_⟩
 ·have hw:k<ws.length:=by omega
  have hws':=hws _ (List.getElem_mem hw)
  have hk24:k<48:=by omega
  simp only[getD_nat hw,List.length_singleton]
  have hv:(warpsN (hkN 16 h8) 48 ws)[k]=Int.tmod ws[k] (hkN 16 h8):=by
   have:=warpsN_get (hk:=hkN 16 h8) hw hk24
   rw[getD_nat hw] at this
   have h3:=List.getElem?_eq_getElem hlt
   exact Option.some.inj (h3.symm.trans this)
  refine⟨by omega,by omega,by omega,by omega,by rw[hJ,List.length_take];omega,by omega,(xs++[Int.tmod ws[k] (hkN 16 h8)],(k:Int)+1),⟨rfl,rfl,by simp⟩,hq _ hlt ?_⟩
  rw[take_succ_eq hlt,←hJ,hv]
 ·have hz:ws=[]:=by
   cases hws:ws with
   |nil=>rfl
   |cons a l =>
    exfalso
    rw[hN] at hlt
    have:ws≠[]:=by rw[hws];simp
    rw[if_neg this] at hlt
    omega
  have hk0:k=0:=by rw[hN,if_pos hz] at hlt;omega
  subst hk0
  simp only[List.length_singleton]
  refine⟨by rw[hJ,List.length_take];omega,by omega,(xs++[0],1),⟨rfl,rfl,by simp⟩,hq _ hlt ?_⟩
  rw[take_succ_eq hlt,←hJ]
  simp[warpsN,hz]
 ·have:k=(warpsN (hkN 16 h8) 48 ws).length:=by omega
  subst this
  rw[List.take_length] at hJ
  subst hJ
  refine⟨rfl,?_⟩
  rw[List.isEmpty_eq_false_iff]
  intro hz
  rw[hz] at hN
  split at hN
  ·cases hN
  ·rename_i hne
   have:=List.length_pos_iff.2 hne
   simp only[List.length_nil] at hN
   omega
def al_law03_Loom_design:AL (Int×List Int×List Int):=(.one (.agg (.cons (.k (.i .u8)) (.cons (.k (.list (.i .u8))) (.one (.k (.list (.i .u16))))))))
def pre_law03_Loom_design (d:Int×List Int×List Int):Prop:=lOk d.1 d.2.1 d.2.2
def res_law03_Loom_design (d:Int×List Int×List Int):SV:=.agg [.val (.i .i64) (hkN 16 d.1),.lst 0]
def obs_law03_Loom_design (d:Int×List Int×List Int):List OB:=[.lst 3 (.i .i64) (rowsN (hkN 16 d.1) 12 d.2.2) false]
def s_law03_Loom_design:CSp:=mkSp al_law03_Loom_design pre_law03_Loom_design res_law03_Loom_design obs_law03_Loom_design
def vc_law03_Loom_design (h8:Int) (ws:List Int) (rs:List Int):Prop :=
 (I64 h8)∧((16:Int)≠0)∧(I64 ((1:Int)+(Int.tmod h8 (16:Int))))∧∃ (e4:Unit) (d40:(List Int)×Int),((True∧True∧True∧(0:Int)=d40.2∧True)∧((h8=h8∧ws=ws∧rs=rs∧(([]:List SV)=[]))∧((0:Int)=(0:Int)∧True∧(([]:List SV)=[]))∧(((1:Int)+(Int.tmod h8 (16:Int)))=((1:Int)+(Int.tmod h8 (16:Int)))∧True∧(([]:List SV)=[]))∧(d40.1=[]∧(List.isEmpty d40.1)=true)∧True)) ∧
 LoopP (fun (d4:(List Int)×Int) (q4:((List Int)×Int)→Prop) =>
  (((d4.2==(0:Int))||((decide (d4.2<(lI rs)))&&(decide (d4.2<(12:Int)))))=true →
   ((decide (d4.2<(lI rs)))=true →
    (0≤d4.2)∧(d4.2<(List.length rs))∧(I64 (gD rs d4.2 0))∧(InK .u64 ((1:Int)+(Int.tmod h8 (16:Int))))∧(0≤((1:Int)+(Int.tmod h8 (16:Int))))∧(I64 (shlI .i64 (1:Int) ((1:Int)+(Int.tmod h8 (16:Int)))))∧(I64 ((shlI .i64 (1:Int) ((1:Int)+(Int.tmod h8 (16:Int))))-(1:Int)))∧(((List.length d4.1)+(List.length [(vbits .and .i64 (gD rs d4.2 0) ((shlI .i64 (1:Int) ((1:Int)+(Int.tmod h8 (16:Int))))-(1:Int)))]))*8≤70368744177664)∧(I64 (d4.2+(1:Int)))∧(∃ d5:(List Int)×Int,((True∧True∧True∧(d4.2+(1:Int))=d5.2∧True)∧((h8=h8∧ws=ws∧rs=rs∧(([]:List SV)=[]))∧((0:Int)=(0:Int)∧True∧(([]:List SV)=[]))∧(((1:Int)+(Int.tmod h8 (16:Int)))=((1:Int)+(Int.tmod h8 (16:Int)))∧True∧(([]:List SV)=[]))∧((d4.1++[(vbits .and .i64 (gD rs d4.2 0) ((shlI .i64 (1:Int) ((1:Int)+(Int.tmod h8 (16:Int))))-(1:Int)))])=d5.1∧false=(List.isEmpty d5.1))∧True))∧q4 d5)) ∧
   ((decide (d4.2<(lI rs)))=false →
    (InK .u64 ((1:Int)+(Int.tmod h8 (16:Int))))∧(0≤((1:Int)+(Int.tmod h8 (16:Int))))∧(I64 (shlI .i64 (1:Int) ((1:Int)+(Int.tmod h8 (16:Int)))))∧(I64 ((shlI .i64 (1:Int) ((1:Int)+(Int.tmod h8 (16:Int))))-(1:Int)))∧(((List.length d4.1)+(List.length [(vbits .and .i64 (21:Int) ((shlI .i64 (1:Int) ((1:Int)+(Int.tmod h8 (16:Int))))-(1:Int)))]))*8≤70368744177664)∧(I64 (d4.2+(1:Int)))∧(∃ d6:(List Int)×Int,((True∧True∧True∧(d4.2+(1:Int))=d6.2∧True)∧((h8=h8∧ws=ws∧rs=rs∧(([]:List SV)=[]))∧((0:Int)=(0:Int)∧True∧(([]:List SV)=[]))∧(((1:Int)+(Int.tmod h8 (16:Int)))=((1:Int)+(Int.tmod h8 (16:Int)))∧True∧(([]:List SV)=[]))∧((d4.1++[(vbits .and .i64 (21:Int) ((shlI .i64 (1:Int) ((1:Int)+(Int.tmod h8 (16:Int))))-(1:Int)))])=d6.1∧false=(List.isEmpty d6.1))∧True))∧q4 d6))) ∧
  (((d4.2==(0:Int))||((decide (d4.2<(lI rs)))&&(decide (d4.2<(12:Int)))))=false →
   ((((1:Int)+(Int.tmod h8 (16:Int)))=(hkN 16 h8)∧True∧(([]:List SV)=[]))∧((d4.1=(rowsN (hkN 16 h8) 12 rs)∧(List.isEmpty d4.1)=false)∧True)))) d40
def cx_law03_Loom_design:Cx:=⟨[(3,(.i .i64))],[],51,[],0,[],[],[],[],false,[],[],[]⟩
def lp_law03_Loom_design (h8:Int) (ws:List Int) (rs:List Int):List (Nat×LoopAnn):=[(0,⟨Unit,(List Int)×Int,[1,2,3,4],fun e x=>[.box 1 0,.box 2 0,.box 3 0,.val (.i .i64) x.2],fun e x=>[(1,.slot 1,.cells [.val (.i .u8) h8,.val (.list (.i .u8)) ws,.val (.list (.i .u16)) rs] (some 85)),(2,.slot 2,.cells [.val (.i .i64) (0:Int),.nilS] (some 36)),(3,.slot 3,.cells [.val (.i .i64) ((1:Int)+(Int.tmod h8 (16:Int))),.lst 48] (some 36)),(48,.cell 3 1,.lst 3 (.i .i64) x.1 (List.isEmpty x.1))]⟩)]
set_option maxRecDepth 100000 in
theorem vq_law03_Loom_design (d:Int×List Int×List Int):gwp (cx_law03_Loom_design) (lp_law03_Loom_design d.1 d.2.1 d.2.2) c49 0 (gend [.cell 2 true 2] (res_law03_Loom_design d) (obs_law03_Loom_design d)) (gstart 51 (AL.can al_law03_Loom_design d))=vc_law03_Loom_design d.1 d.2.1 d.2.2:=by kernel_rfl
abbrev Ok_law03_Loom_design:Prop:=OkC Tryz.prog 49 s_law03_Loom_design
theorem mk_law03_Loom_design (h:∀ (h8:Int) (ws:List Int) (rs:List Int),(lOk h8 ws rs)→vc_law03_Loom_design h8 ws rs):OkC Tryz.prog 49 s_law03_Loom_design :=
 okC_vc fun49 mixed (C:=cx_law03_Loom_design) (V:=fun (d:Int×List Int×List Int)=>vc_law03_Loom_design d.1 d.2.1 d.2.2) ⟨.nil,XsOk.nil,ItsOk.nil,YlOk.nil,IysOk.nil⟩ (vq_law03_Loom_design) fun d hp=>h d.1 d.2.1 d.2.2 hp
theorem and_mask {x h:Int} (h0:0≤x) (h1:x<9223372036854775808) (a:1≤h) (b:h≤24):vbits .and .i64 x (shlI .i64 1 h-1)=x % 2 ^ h.toNat:=by
 obtain⟨n,rfl⟩:=Int.eq_ofNat_of_zero_le h0
 obtain⟨m,rfl⟩:=Int.eq_ofNat_of_zero_le (show 0≤h by omega)
 have hp:=pow_bound a b
 rw[shl_one (by omega) (by omega)]
 simp only[Int.toNat_natCast] at hp ⊢
 have e2:((2:Int) ^ m)=((2 ^ m:Nat):Int):=by rw[Int.natCast_pow];rfl
 rw[e2] at hp ⊢
 have e:(((2 ^ m:Nat):Int)-1)=((2 ^ m-1:Nat):Int):=by omega
 rw[e,vand_nat (by omega) (by omega),Nat.and_two_pow_sub_one_eq_mod]
 rfl
theorem rowsN_len {hk:Int} {cap:Nat} {rs:List Int}:(rowsN hk cap rs).length=if rs=[] then 1 else min cap rs.length:=by
 unfold rowsN;split<;>simp
theorem rowsN_get {hk:Int} {cap:Nat} {rs:List Int} {i:Nat} (h:i<rs.length) (hc:i<cap):(rowsN hk cap rs)[i]?=some (rs.getD i 0 % 2 ^ hk.toNat):=by
 have hne:rs≠[]:=by rintro rfl;simp at h
 unfold rowsN;rw[if_neg hne]
 simp[hc,h]
theorem ok_law03_Loom_design:Ok_law03_Loom_design:=mk_law03_Loom_design fun h8 ws rs h=>by
 obtain⟨h1,h2,hws,hrs⟩:=h
 have hk:1≤hkN 16 h8∧hkN 16 h8≤16:=hkN_range (m:=16) (by omega) h1
 have e:(1+Int.tmod h8 16)=hkN 16 h8:=rfl
 have hp:=pow_bound hk.1 (show hkN 16 h8≤24 by omega)
 have hs:=shl_one (show 0≤hkN 16 h8 by omega) (show hkN 16 h8≤62 by omega)
 have hm:∀ x,0≤x→x<9223372036854775808→vbits .and .i64 x (2 ^ (hkN 16 h8).toNat-1)=x % 2 ^ (hkN 16 h8).toNat:=fun x a b=>by
  have:=and_mask a b hk.1 (show hkN 16 h8≤24 by omega)
  rwa [hs] at this
 have hu:InK .u64 (hkN 16 h8):=⟨by show (0:Int)≤_;omega,by show _≤(18446744073709551615:Int);omega⟩
 unfold vc_law03_Loom_design;(try delta lI gD sT I64);simp only[true_and,and_true,exists_const,decide_eq_true_eq,decide_eq_false_iff_not,ne_eq,InK_i64,e,hs,hu]
 refine⟨by omega,by omega,by omega,([],0),⟨rfl,rfl,rfl⟩,?_⟩
 have hN:(rowsN (hkN 16 h8) 12 rs).length=if rs=[] then 1 else min 12 rs.length:=rowsN_len
 have hcond:∀ k:Nat,(((k:Int)==0)||(decide ((k:Int)<rs.length)&&decide ((k:Int)<12)))=decide (k<(rowsN (hkN 16 h8) 12 rs).length):=fun k=>by
  rw[hN]
  by_cases hz:rs=[]
  ·subst hz
   cases k<;>simp;omega
  ·have:0<rs.length:=List.length_pos_iff.2 hz
   rw[if_neg hz]
   cases k with
   |zero=>simp;omega
   |succ k =>
    rw[Bool.eq_iff_iff]
    simp;omega
 have hNle:(rowsN (hkN 16 h8) 12 rs).length≤12:=by rw[hN];split<;>omega
 refine LoopP.count2 (rowsN (hkN 16 h8) 12 rs).length (fun k xs=>xs=(rowsN (hkN 16 h8) 12 rs).take k) (by simp) fun k xs hk' hJ q hq=>?_
 dsimp only
 rw[hcond]
 simp only[decide_eq_true_eq,decide_eq_false_iff_not,Int.toNat_natCast,Int.ofNat_lt]
 refine⟨fun hlt=>⟨fun hw=>?_,fun hw=>?_⟩,fun hge=>?_⟩
 ·have hw:k<rs.length:=by omega
  have hrs':=hrs _ (List.getElem_mem hw)
  have hk12:k<12:=by omega
  simp only[getD_nat hw,List.length_singleton]
  have hv:(rowsN (hkN 16 h8) 12 rs)[k]=rs[k] % 2 ^ (hkN 16 h8).toNat:=by
   have:=rowsN_get (hk:=hkN 16 h8) hw hk12
   rw[getD_nat hw] at this
   have h3:=List.getElem?_eq_getElem hlt
   exact Option.some.inj (h3.symm.trans this)
  rw[hm _ (by omega) (by omega)]
  refine⟨by omega,by omega,by omega,by omega,by omega,by omega,by rw[hJ,List.length_take];omega,by omega,(xs++[rs[k] % 2 ^ (hkN 16 h8).toNat],(k:Int)+1),⟨rfl,rfl,by simp⟩,hq _ hlt ?_⟩
  rw[take_succ_eq hlt,←hJ,hv]
 ·have hz:rs=[]:=by
   cases hrs:rs with
   |nil=>rfl
   |cons a l =>
    exfalso
    rw[hN] at hlt
    have:rs≠[]:=by rw[hrs];simp
    rw[if_neg this] at hlt
    omega
  have hk0:k=0:=by rw[hN,if_pos hz] at hlt;omega
  subst hk0
  simp only[List.length_singleton]
  rw[hm _ (by omega) (by omega)]
  refine⟨by omega,by omega,by omega,by rw[hJ,List.length_take];omega,by omega,(xs++[21 % 2 ^ (hkN 16 h8).toNat],1),⟨rfl,rfl,by simp⟩,hq _ hlt ?_⟩
  rw[take_succ_eq hlt,←hJ]
  simp[rowsN,hz]
 ·have:k=(rowsN (hkN 16 h8) 12 rs).length:=by omega
  subst this
  rw[List.take_length] at hJ
  subst hJ
  refine⟨rfl,?_⟩
  rw[List.isEmpty_eq_false_iff]
  intro hz
  rw[hz] at hN
  split at hN
  ·cases hN
  ·rename_i hne
   have:=List.length_pos_iff.2 hne
   simp only[List.length_nil] at hN
   omega
def al_law03_right:AL (List (List UInt8)×Int×Int):=(.cons (.k (.list .st)) (.cons (.k (.i .i64)) (.one (.k (.i .i64)))))
def pre_law03_right (d:List (List UInt8)×Int×Int):Prop:=d.1.length≤1000
def res_law03_right (d:List (List UInt8)×Int×Int):SV:=.val .bo (rightB d.1 d.2.1 d.2.2)
def obs_law03_right (d:List (List UInt8)×Int×Int):List OB:=[]
def s_law03_right:CSp:=mkSp al_law03_right pre_law03_right res_law03_right obs_law03_right
def vc_law03_right (c:List (List UInt8)) (pk:Int) (wp:Int):Prop :=
 ∃ (e2:Unit) (d20:Int),((c=c∧pk=pk∧wp=wp∧(0:Int)=d20∧True)∧(True)) ∧
 LoopP (fun (d2:Int) (q2:(Int)→Prop) =>
  ((decide (d2<(lI c)))=true →
   (0≤d2)∧(d2<(List.length c))∧(((lI (gD c d2 [])) != wp)=true →
    (false=(rightB c pk wp)∧(True))) ∧
   (((lI (gD c d2 [])) != wp)=false →
    (I64 (d2+(1:Int)))∧(∃ d3:Int,((c=c∧pk=pk∧wp=wp∧(d2+(1:Int))=d3∧True)∧(True))∧q2 d3))) ∧
  ((decide (d2<(lI c)))=false →
   (((lI c)==pk)=(rightB c pk wp)∧(True)))) d20
def cx_law03_right:Cx:=⟨[],[],25,[],0,[],[],[],[],false,[],[],[]⟩
def lp_law03_right (c:List (List UInt8)) (pk:Int) (wp:Int):List (Nat×LoopAnn):=[(0,⟨Unit,Int,[0,1,2,7],fun e x=>[.val (.list .st) c,.val (.i .i64) pk,.val (.i .i64) wp,.val (.i .i64) x],fun e x=>[]⟩)]
set_option maxRecDepth 100000 in
theorem vq_law03_right (d:List (List UInt8)×Int×Int):gwp (cx_law03_right) (lp_law03_right d.1 d.2.1 d.2.2) c50 0 (gend [.tmp 6] (res_law03_right d) (obs_law03_right d)) (gstart 25 (AL.can al_law03_right d))=vc_law03_right d.1 d.2.1 d.2.2:=by kernel_rfl
abbrev Ok_law03_right:Prop:=OkC Tryz.prog 50 s_law03_right
theorem mk_law03_right (h:∀ (c:List (List UInt8)) (pk:Int) (wp:Int),(c.length≤1000)→vc_law03_right c pk wp):OkC Tryz.prog 50 s_law03_right :=
 okC_vc fun50 mixed (C:=cx_law03_right) (V:=fun (d:List (List UInt8)×Int×Int)=>vc_law03_right d.1 d.2.1 d.2.2) ⟨.nil,XsOk.nil,ItsOk.nil,YlOk.nil,IysOk.nil⟩ (vq_law03_right) fun d hp=>h d.1 d.2.1 d.2.2 hp
theorem ok_law03_right:Ok_law03_right:=mk_law03_right fun c pk wp hc=>by
 unfold vc_law03_right;(try delta lI gD sT I64)
 (try simp only[decide_eq_true_eq,decide_eq_false_iff_not])
 refine⟨(),0,(by and_intros<;>first|rfl|trivial|simp),?_⟩
 refine LoopP.count c.length (fun k=>∀ i,i<k→((c.getD i []).length:Int)=wp) (fun i hi=>by omega) fun k hk hJ q hq=>?_
 simp only[Int.toNat_natCast,InK_i64]
 refine⟨fun hlt=>⟨by omega,by omega,fun hx=>?_,fun hx=>⟨by omega,_,(by and_intros<;>first|rfl|trivial|simp),hq (by omega) fun i hi=>?_⟩⟩,fun hge=>?_⟩
 ·have hx:((c.getD k []).length:Int)≠wp:=by simpa using hx
  refine⟨Eq.symm ?_,trivial⟩
  rw[Bool.eq_false_iff]
  intro h
  have hkc:k<c.length:=by omega
  rw[getD_nat hkc] at hx
  exact hx ((rightB_iff.1 h).1 _ (List.getElem_mem hkc))
 ·rcases Nat.lt_succ_iff_lt_or_eq.1 hi with hi|rfl
  ·exact hJ i hi
  ·simpa using hx
 ·have hk:k=c.length:=by omega
  subst hk
  refine⟨?_,trivial⟩
  rw[Bool.eq_iff_iff,rightB_iff,beq_iff_eq]
  refine⟨fun h=>⟨fun s hs=>?_,h⟩,fun h=>h.2⟩
  obtain⟨i,hi,rfl⟩:=List.getElem_of_mem hs
  have:=hJ i hi
  rwa [getD_nat hi] at this
end Go.Proofs.Tryz
set_option linter.unusedVariables false
namespace Go.Proofs.Tryz
open Go Go.V Go.Proofs
theorem weave_ok {n:Int} {S xs:List Int} (h1:1≤n) (h2:n≤24) (s1:S≠[]) (s2:S.length≤96) (s3:∀ x∈S,0≤x∧x<n) (x1:xs≠[]) (x2:xs.length≤60) (x3:∀ x∈xs,0≤x∧x<2 ^ n.toNat):weaveErr n S n xs=0∧pointErr n xs=0:=by
 have i1:inI n 1 24=true:=by simp[inI,h1,h2]
 have a1:S.any (fun x=>!inI x 0 (n-1))=false:=by
  rw[List.any_eq_false]
  intro x hx
  have:=s3 x hx
  simp[inI]
  omega
 have a2:xs.any (fun x=>!inI x 0 (2 ^ n.toNat-1))=false:=by
  rw[List.any_eq_false]
  intro x hx
  have:=x3 x hx
  simp only[inI,Bool.not_eq_true',Bool.and_eq_false_iff,decide_eq_false_iff_not]
  omega
 have l1:¬ 96<S.length:=by omega
 have l2:¬ 60<xs.length:=by omega
 have t:tieErr n S=0:=by
  unfold tieErr
  rw[i1,a1,if_neg (by simp),if_neg l1,if_neg (by simpa using s1),if_neg (by simp)]
 have p:pointErr n xs=0:=by
  unfold pointErr
  rw[i1,a2,if_neg (by simp),if_neg l2,if_neg (by simpa using x1),if_neg (by simp)]
 exact⟨by simp[weaveErr,t,p],p⟩
end Go.Proofs.Tryz
set_option linter.unusedVariables false
namespace Go.Proofs.Tryz
open Go Go.V Go.Proofs
def al_law03_same:AL (List (List UInt8)×List (List UInt8)):=(.cons (.k (.list .st)) (.one (.k (.list .st))))
def pre_law03_same (d:List (List UInt8)×List (List UInt8)):Prop:=d.1.length≤1000
def res_law03_same (d:List (List UInt8)×List (List UInt8)):SV:=.val .bo (d.1==d.2)
def obs_law03_same (d:List (List UInt8)×List (List UInt8)):List OB:=[]
def s_law03_same:CSp:=mkSp al_law03_same pre_law03_same res_law03_same obs_law03_same
def vc_law03_same (a:List (List UInt8)) (b:List (List UInt8)):Prop :=
 (((lI a) != (lI b))=true →
  (false=(a==b)∧(True))) ∧
 (((lI a) != (lI b))=false →
  ∃ (e2:Unit) (d20:Int),((a=a∧b=b∧(0:Int)=d20∧True)∧(True)) ∧
  LoopP (fun (d2:Int) (q2:(Int)→Prop) =>
   ((decide (d2<(lI a)))=true →
    (0≤d2)∧(d2<(List.length a))∧(0≤d2)∧(d2<(List.length b))∧((!((gD a d2 [])==(gD b d2 [])))=true →
     (false=(a==b)∧(True))) ∧
    ((!((gD a d2 [])==(gD b d2 [])))=false →
     (I64 (d2+(1:Int)))∧(∃ d3:Int,((a=a∧b=b∧(d2+(1:Int))=d3∧True)∧(True))∧q2 d3))) ∧
   ((decide (d2<(lI a)))=false →
    (true=(a==b)∧(True)))) d20)
def cx_law03_same:Cx:=⟨[],[],26,[],0,[],[],[],[],false,[],[],[]⟩
def lp_law03_same (a:List (List UInt8)) (b:List (List UInt8)):List (Nat×LoopAnn):=[(0,⟨Unit,Int,[0,1,5],fun e x=>[.val (.list .st) a,.val (.list .st) b,.val (.i .i64) x],fun e x=>[]⟩)]
set_option maxRecDepth 100000 in
theorem vq_law03_same (d:List (List UInt8)×List (List UInt8)):gwp (cx_law03_same) (lp_law03_same d.1 d.2) c53 0 (gend [.tmp 4] (res_law03_same d) (obs_law03_same d)) (gstart 26 (AL.can al_law03_same d))=vc_law03_same d.1 d.2:=by kernel_rfl
abbrev Ok_law03_same:Prop:=OkC Tryz.prog 53 s_law03_same
theorem mk_law03_same (h:∀ (a:List (List UInt8)) (b:List (List UInt8)),(a.length≤1000)→vc_law03_same a b):OkC Tryz.prog 53 s_law03_same :=
 okC_vc fun53 mixed (C:=cx_law03_same) (V:=fun (d:List (List UInt8)×List (List UInt8))=>vc_law03_same d.1 d.2) ⟨.nil,XsOk.nil,ItsOk.nil,YlOk.nil,IysOk.nil⟩ (vq_law03_same) fun d hp=>h d.1 d.2 hp
theorem ok_law03_same:Ok_law03_same:=mk_law03_same fun a b h=>by
 unfold vc_law03_same;(try delta lI gD sT I64)
 (try simp only[decide_eq_true_eq,decide_eq_false_iff_not])
 refine⟨fun hx=>?_,fun hx=>⟨(),0,(by and_intros<;>first|rfl|trivial|simp),?_⟩⟩
 ·refine⟨Eq.symm ?_,trivial⟩
  rw[beq_eq_false_iff_ne]
  rintro rfl
  simp at hx
 have hl:a.length=b.length:=by simp only[bne_eq_false_iff_eq] at hx;omega
 refine LoopP.count a.length (fun k=>∀ i,i<k→a.getD i []=b.getD i []) (fun i hi=>by omega) fun k hk hJ q hq=>?_
 simp only[Int.toNat_natCast,InK_i64]
 refine⟨fun hlt=>⟨by omega,by omega,by omega,by omega,fun hx=>?_,fun hx=>⟨by omega,_,(by and_intros<;>first|rfl|trivial|simp),hq (by omega) fun i hi=>?_⟩⟩,fun hge=>?_⟩
 ·refine⟨Eq.symm ?_,trivial⟩
  rw[beq_eq_false_iff_ne]
  rintro rfl
  simp at hx
 ·rcases Nat.lt_succ_iff_lt_or_eq.1 hi with hi|rfl
  ·exact hJ i hi
  ·simpa using hx
 ·have hk:k=a.length:=by omega
  subst hk
  refine⟨Eq.symm ?_,trivial⟩
  rw[beq_iff_eq]
  exact List.ext_getElem hl fun i h1 h2=>by
   have:=hJ i h1
   rwa [getD_nat h1,getD_nat h2] at this
end Go.Proofs.Tryz
set_option linter.unusedVariables false
namespace Go.Proofs.Tryz
open Go Go.V Go.Proofs
def al_law03_TieFew:AL ((Int×List Int×List Int)×Int×Int):=(.cons (.agg (.cons (.k (.i .u8)) (.cons (.k (.list (.i .u8))) (.one (.k (.list (.i .u16))))))) (.one (.agg (.cons (.k (.i .u8)) (.one (.k (.i .u8)))))))
def pre_law03_TieFew (d:(Int×List Int×List Int)×Int×Int):Prop:=lOk d.1.1 d.1.2.1 d.1.2.2∧0≤d.2.1∧d.2.1≤255∧0≤d.2.2∧d.2.2≤255
def res_law03_TieFew (d:(Int×List Int×List Int)×Int×Int):SV:=.val .bo true
def obs_law03_TieFew (d:(Int×List Int×List Int)×Int×Int):List OB:=[]
def s_law03_TieFew:CSp:=mkSp al_law03_TieFew pre_law03_TieFew res_law03_TieFew obs_law03_TieFew
def vca_law03 (h8:Int) (ws rs:List Int) (m0 m1:Int) (H:Int) (W R:List Int):Prop :=
 ((lOk h8 ws rs)∧(false=true→W=[])∧(lOk h8 ws rs)∧(false=true→R=[])∧((True∧True∧True∧(H=H∧True∧(([]:List SV)=[]))∧(H=H∧True∧(([]:List SV)=[]))∧True)∧((h8=h8∧ws=ws∧rs=rs∧(([]:List SV)=[]))∧(m0=m0∧m1=m1∧(([]:List SV)=[]))∧((0:Int)=(0:Int)∧True∧(([]:List SV)=[]))∧((0:Int)=(0:Int)∧True∧(([]:List SV)=[]))∧(W=W∧false=false)∧(R=R∧false=false)∧True)))
def vcz_law03 (h8:Int) (ws rs:List Int) (m0 m1:Int) (H:Int) (W R:List Int) (C:List (List UInt8)):Prop :=
 (lOk h8 ws rs)∧(false=true→W=[])∧(lOk h8 ws rs)∧(false=true→R=[])∧((True∧True∧True∧(H=H∧True∧(([]:List SV)=[]))∧(H=H∧True∧(([]:List SV)=[]))∧True)∧((h8=h8∧ws=ws∧rs=rs∧(([]:List SV)=[]))∧(m0=m0∧m1=m1∧(([]:List SV)=[]))∧((0:Int)=(0:Int)∧True∧(([]:List SV)=[]))∧((0:Int)=(0:Int)∧True∧(([]:List SV)=[]))∧(W=W∧false=false)∧(R=R∧false=false)∧True))∧(vca_law03 h8 ws rs m0 m1 H W R)∧(vca_law03 h8 ws rs m0 m1 H W R)∧(vca_law03 h8 ws rs m0 m1 H W R)∧(vca_law03 h8 ws rs m0 m1 H W R)∧(vca_law03 h8 ws rs m0 m1 H W R)∧(vca_law03 h8 ws rs m0 m1 H W R)∧(vca_law03 h8 ws rs m0 m1 H W R)∧(vca_law03 h8 ws rs m0 m1 H W R)∧(vca_law03 h8 ws rs m0 m1 H W R)∧(vca_law03 h8 ws rs m0 m1 H W R)∧(vca_law03 h8 ws rs m0 m1 H W R)∧(W.length≤1000)∧(false=true→W=[])∧(R.length≤1000)∧(W.length≤110∧R.length≤110)∧∀ (y1:Bool),y1=(weaveErr H W H R != (0:Int))→(y1=false→C.length≤1000)∧∀ (y2:Bool),y2=(!(rightB C (lI R) (lI W)))→∀ (y3:Bool),y3=(y1||y2)→(y3=true →
  (false=true∧(True))) ∧
 (y3=false →
  (C.length≤1000)∧(C.length≤1000∧∀ s∈C,s.length≤1000)∧(C.length≤1000)∧(C.length≤1000∧∀ s∈C,s.length≤1000)∧∀ (y4:Bool),y4=((fewErr C) != (0:Int))→∀ (y5:Bool),y5=((fewErr C) != (0:Int))→∀ (y6:Bool),y6=(y4||y5)→∀ (y7:Bool),y7=((lI (if fewErr C=0 then fewL C else [])) != (lI W))→∀ (y8:Bool),y8=(y6||y7)→∀ (y9:Bool),y9=(decide ((if fewErr C=0 then ((fewK C (wpN C)).length:Int) else 0)<(1:Int)))→∀ (y10:Bool),y10=(y8||y9)→∀ (y11:Bool),y11=(decide ((if fewErr C=0 then ((fewK C (wpN C)).length:Int) else 0) > H))→∀ (y12:Bool),y12=(y10||y11)→∀ (y13:Bool),y13=((lI (if fewErr C=0 then fewA C (wpN C) else [])) != (if fewErr C=0 then ((fewK C (wpN C)).length:Int) else 0))→∀ (y14:Bool),y14=(y12||y13)→(y14=true →
   (false=true∧(True))) ∧
  (y14=false →
   ((if fewErr C=0 then fewL C else []).length≤1000)∧(false=true→(if fewErr C=0 then fewL C else [])=[])∧((if fewErr C=0 then fewL C else []).length≤110∧(if fewErr C=0 then rowsX (fewL C) C else []).length≤110)∧∀ (y15:Bool),y15=(weaveErr (if fewErr C=0 then ((fewK C (wpN C)).length:Int) else 0) (if fewErr C=0 then fewL C else []) (if fewErr C=0 then ((fewK C (wpN C)).length:Int) else 0) (if fewErr C=0 then rowsX (fewL C) C else []) != (0:Int))→(y15=false→(weaveC (if fewErr C=0 then ((fewK C (wpN C)).length:Int) else 0) (if fewErr C=0 then fewL C else []) (if fewErr C=0 then ((fewK C (wpN C)).length:Int) else 0) (if fewErr C=0 then rowsX (fewL C) C else [])).length≤1000)∧∀ (y16:Bool),y16=(!((weaveC (if fewErr C=0 then ((fewK C (wpN C)).length:Int) else 0) (if fewErr C=0 then fewL C else []) (if fewErr C=0 then ((fewK C (wpN C)).length:Int) else 0) (if fewErr C=0 then rowsX (fewL C) C else []))==C))→∀ (y17:Bool),y17=(y15||y16)→(y17=true →
    (false=true∧(True))) ∧
   (y17=false →
    ∃ (e3:Unit) (d30:Int),((True∧True∧True∧True∧True∧(0:Int)=d30∧True)∧((m0=m0∧m1=m1∧(([]:List SV)=[]))∧(H=H∧True∧(([]:List SV)=[]))∧(W=W∧false=false)∧(C=C∧C.isEmpty=(List.isEmpty C))∧((if fewErr C=0 then ((fewK C (wpN C)).length:Int) else 0)=(if fewErr C=0 then ((fewK C (wpN C)).length:Int) else 0)∧True∧(([]:List SV)=[]))∧((if fewErr C=0 then fewL C else [])=(if fewErr C=0 then fewL C else [])∧(if fewErr C=0 then fewL C else []).isEmpty=(List.isEmpty (if fewErr C=0 then fewL C else [])))∧((if fewErr C=0 then fewA C (wpN C) else [])=(if fewErr C=0 then fewA C (wpN C) else [])∧(if fewErr C=0 then fewA C (wpN C) else []).isEmpty=(List.isEmpty (if fewErr C=0 then fewA C (wpN C) else [])))∧True)) ∧
    LoopP (fun (d3:Int) (q3:(Int)→Prop) =>
     ∀ (y216:Bool),y216=(decide (d3<(lI (if fewErr C=0 then fewA C (wpN C) else []))))→(y216=true →
      (0≤d3)∧(d3<(List.length (if fewErr C=0 then fewA C (wpN C) else [])))∧∀ (y217:Int),y217=(gD (if fewErr C=0 then fewA C (wpN C) else []) d3 0)→∀ (y218:Bool),y218=(decide (y217<(0:Int)))→(y218=false→0≤d3)∧(y218=false→d3<(List.length (if fewErr C=0 then fewA C (wpN C) else [])))∧∀ (y219:Int),y219=(gD (if fewErr C=0 then fewA C (wpN C) else []) d3 0)→∀ (y220:Bool),y220=(decide (y219≥(lI W)))→∀ (y221:Bool),y221=(y218||y220)→∀ (y222:Bool),y222=(decide (d3 > (0:Int)))→(y221=false→y222=true→0≤d3)∧(y221=false→y222=true→d3<(List.length (if fewErr C=0 then fewA C (wpN C) else [])))∧∀ (y223:Int),y223=(gD (if fewErr C=0 then fewA C (wpN C) else []) d3 0)→(y221=false→y222=true→InK .i64 (d3-(1:Int)))∧(y221=false→y222=true→0≤(d3-(1:Int)))∧(y221=false→y222=true→(d3-(1:Int))<(List.length (if fewErr C=0 then fewA C (wpN C) else [])))∧∀ (y224:Int),y224=(gD (if fewErr C=0 then fewA C (wpN C) else []) (d3-(1:Int)) 0)→∀ (y225:Bool),y225=(decide (y223≤y224))→∀ (y226:Bool),y226=(y222&&y225)→∀ (y227:Bool),y227=(y221||y226)→(y227=true →
       (false=true∧(True))) ∧
      (y227=false →
       ∃ (e6:Int) (d60:Int),((True∧True∧True∧True∧True∧d3=e6∧(0:Int)=d60∧True)∧((m0=m0∧m1=m1∧(([]:List SV)=[]))∧(H=H∧True∧(([]:List SV)=[]))∧(W=W∧false=false)∧(C=C∧(List.isEmpty C)=(List.isEmpty C))∧((if fewErr C=0 then ((fewK C (wpN C)).length:Int) else 0)=(if fewErr C=0 then ((fewK C (wpN C)).length:Int) else 0)∧True∧(([]:List SV)=[]))∧((if fewErr C=0 then fewL C else [])=(if fewErr C=0 then fewL C else [])∧(List.isEmpty (if fewErr C=0 then fewL C else []))=(List.isEmpty (if fewErr C=0 then fewL C else [])))∧((if fewErr C=0 then fewA C (wpN C) else [])=(if fewErr C=0 then fewA C (wpN C) else [])∧(List.isEmpty (if fewErr C=0 then fewA C (wpN C) else []))=(List.isEmpty (if fewErr C=0 then fewA C (wpN C) else [])))∧True)) ∧
       LoopP (fun (d6:Int) (q6:(Int)→Prop) =>
        ∀ (y286:Bool),y286=(decide (d6<e6))→(y286=true →
         ∃ (e9:Int×Int) (d90:Bool×Int),((True∧True∧True∧True∧True∧e6=e9.1∧d6=e9.2∧false=d90.1∧(0:Int)=d90.2∧True)∧((m0=m0∧m1=m1∧(([]:List SV)=[]))∧(H=H∧True∧(([]:List SV)=[]))∧(W=W∧false=false)∧(C=C∧(List.isEmpty C)=(List.isEmpty C))∧((if fewErr C=0 then ((fewK C (wpN C)).length:Int) else 0)=(if fewErr C=0 then ((fewK C (wpN C)).length:Int) else 0)∧True∧(([]:List SV)=[]))∧((if fewErr C=0 then fewL C else [])=(if fewErr C=0 then fewL C else [])∧(List.isEmpty (if fewErr C=0 then fewL C else []))=(List.isEmpty (if fewErr C=0 then fewL C else [])))∧((if fewErr C=0 then fewA C (wpN C) else [])=(if fewErr C=0 then fewA C (wpN C) else [])∧(List.isEmpty (if fewErr C=0 then fewA C (wpN C) else []))=(List.isEmpty (if fewErr C=0 then fewA C (wpN C) else [])))∧True)) ∧
         LoopP (fun (d9:Bool×Int) (q9:(Bool×Int)→Prop) =>
          ∀ (y305:Bool),y305=(decide (d9.2<(lI C)))→(y305=true →
           (d9.1=false→0≤d9.2)∧(d9.1=false→d9.2<(List.length C))∧∀ (y306:List UInt8),y306=(gD C d9.2 [])→(d9.1=false→0≤e9.1)∧(d9.1=false→e9.1<(List.length (if fewErr C=0 then fewA C (wpN C) else [])))∧∀ (y307:Int),y307=(gD (if fewErr C=0 then fewA C (wpN C) else []) e9.1 0)→(d9.1=false→0≤y307)∧(d9.1=false→y307<(List.length y306))∧∀ (y308:Int),y308=((UInt8.toNat (gD y306 y307 0):Nat):Int)→(d9.1=false→0≤d9.2)∧(d9.1=false→d9.2<(List.length C))∧∀ (y309:List UInt8),y309=(gD C d9.2 [])→(d9.1=false→0≤e9.2)∧(d9.1=false→e9.2<(List.length (if fewErr C=0 then fewA C (wpN C) else [])))∧∀ (y310:Int),y310=(gD (if fewErr C=0 then fewA C (wpN C) else []) e9.2 0)→(d9.1=false→0≤y310)∧(d9.1=false→y310<(List.length y309))∧∀ (y311:Int),y311=((UInt8.toNat (gD y309 y310 0):Nat):Int)→∀ (y312:Bool),y312=(y308 != y311)→∀ (y313:Bool),y313=(d9.1||y312)→(I64 (d9.2+(1:Int)))∧(∃ d10:Bool×Int,((True∧True∧True∧True∧True∧e9.1=e9.1∧e9.2=e9.2∧y313=d10.1∧(d9.2+(1:Int))=d10.2∧True)∧((m0=m0∧m1=m1∧(([]:List SV)=[]))∧(H=H∧True∧(([]:List SV)=[]))∧(W=W∧false=false)∧(C=C∧(List.isEmpty C)=(List.isEmpty C))∧((if fewErr C=0 then ((fewK C (wpN C)).length:Int) else 0)=(if fewErr C=0 then ((fewK C (wpN C)).length:Int) else 0)∧True∧(([]:List SV)=[]))∧((if fewErr C=0 then fewL C else [])=(if fewErr C=0 then fewL C else [])∧(List.isEmpty (if fewErr C=0 then fewL C else []))=(List.isEmpty (if fewErr C=0 then fewL C else [])))∧((if fewErr C=0 then fewA C (wpN C) else [])=(if fewErr C=0 then fewA C (wpN C) else [])∧(List.isEmpty (if fewErr C=0 then fewA C (wpN C) else []))=(List.isEmpty (if fewErr C=0 then fewA C (wpN C) else [])))∧True))∧q9 d10)) ∧
          (y305=false →
           ∀ (y314:Bool),y314=(!d9.1)→(y314=true →
            (false=true∧(True))) ∧
           (y314=false →
            (I64 (e9.2+(1:Int)))∧(∃ d11:Int,((True∧True∧True∧True∧True∧e9.1=e6∧(e9.2+(1:Int))=d11∧True)∧((m0=m0∧m1=m1∧(([]:List SV)=[]))∧(H=H∧True∧(([]:List SV)=[]))∧(W=W∧false=false)∧(C=C∧(List.isEmpty C)=(List.isEmpty C))∧((if fewErr C=0 then ((fewK C (wpN C)).length:Int) else 0)=(if fewErr C=0 then ((fewK C (wpN C)).length:Int) else 0)∧True∧(([]:List SV)=[]))∧((if fewErr C=0 then fewL C else [])=(if fewErr C=0 then fewL C else [])∧(List.isEmpty (if fewErr C=0 then fewL C else []))=(List.isEmpty (if fewErr C=0 then fewL C else [])))∧((if fewErr C=0 then fewA C (wpN C) else [])=(if fewErr C=0 then fewA C (wpN C) else [])∧(List.isEmpty (if fewErr C=0 then fewA C (wpN C) else []))=(List.isEmpty (if fewErr C=0 then fewA C (wpN C) else [])))∧True))∧q6 d11)))) d90) ∧
        (y286=false →
         (I64 (e6+(1:Int)))∧(∃ d12:Int,((True∧True∧True∧True∧True∧(e6+(1:Int))=d12∧True)∧((m0=m0∧m1=m1∧(([]:List SV)=[]))∧(H=H∧True∧(([]:List SV)=[]))∧(W=W∧false=false)∧(C=C∧(List.isEmpty C)=(List.isEmpty C))∧((if fewErr C=0 then ((fewK C (wpN C)).length:Int) else 0)=(if fewErr C=0 then ((fewK C (wpN C)).length:Int) else 0)∧True∧(([]:List SV)=[]))∧((if fewErr C=0 then fewL C else [])=(if fewErr C=0 then fewL C else [])∧(List.isEmpty (if fewErr C=0 then fewL C else []))=(List.isEmpty (if fewErr C=0 then fewL C else [])))∧((if fewErr C=0 then fewA C (wpN C) else [])=(if fewErr C=0 then fewA C (wpN C) else [])∧(List.isEmpty (if fewErr C=0 then fewA C (wpN C) else []))=(List.isEmpty (if fewErr C=0 then fewA C (wpN C) else [])))∧True))∧q3 d12))) d60)) ∧
     (y216=false →
      ∀ (y315:Bool),y315=(decide ((if fewErr C=0 then ((fewK C (wpN C)).length:Int) else 0)<(2:Int)))→(y315=true →
       (True)∧(true=true∧(True))) ∧
      (y315=false →
       (I64 m0)∧((if fewErr C=0 then ((fewK C (wpN C)).length:Int) else 0)≠0)∧∀ (y316:Int),y316=(Int.tmod m0 (if fewErr C=0 then ((fewK C (wpN C)).length:Int) else 0))→(I64 (y316+(1:Int)))∧(I64 m1)∧(I64 ((if fewErr C=0 then ((fewK C (wpN C)).length:Int) else 0)-(1:Int)))∧(((if fewErr C=0 then ((fewK C (wpN C)).length:Int) else 0)-(1:Int))≠0)∧∀ (y317:Int),y317=(Int.tmod m1 ((if fewErr C=0 then ((fewK C (wpN C)).length:Int) else 0)-(1:Int)))→(I64 ((y316+(1:Int))+y317))∧((if fewErr C=0 then ((fewK C (wpN C)).length:Int) else 0)≠0)∧∀ (y318:Int),y318=(Int.tmod ((y316+(1:Int))+y317) (if fewErr C=0 then ((fewK C (wpN C)).length:Int) else 0))→((if fewErr C=0 then fewL C else []).length≤1000)∧∃ (e15:Int×Int) (d150:(List Int)×Int),((True∧True∧y316=e15.1∧y318=e15.2∧True∧(0:Int)=d150.2∧True)∧((C=C∧(List.isEmpty C)=(List.isEmpty C))∧((if fewErr C=0 then ((fewK C (wpN C)).length:Int) else 0)=(if fewErr C=0 then ((fewK C (wpN C)).length:Int) else 0)∧True∧(([]:List SV)=[]))∧((if fewErr C=0 then fewL C else [])=(if fewErr C=0 then fewL C else [])∧(List.isEmpty (if fewErr C=0 then fewL C else []))=(List.isEmpty (if fewErr C=0 then fewL C else [])))∧((if fewErr C=0 then ((fewK C (wpN C)).length:Int) else 0)=(if fewErr C=0 then ((fewK C (wpN C)).length:Int) else 0)∧True∧(([]:List SV)=[]))∧((if fewErr C=0 then fewL C else [])=d150.1∧false=false)∧True)) ∧
       LoopP (fun (d15:(List Int)×Int) (q15:((List Int)×Int)→Prop) =>
        ∀ (y335:Bool),y335=(decide (d15.2<(lI d15.1)))→(y335=true →
         (0≤d15.2)∧(d15.2<(List.length d15.1))∧∀ (y336:Int),y336=(gD d15.1 d15.2 0)→∀ (y337:Bool),y337=(decide (y336<(0:Int)))→(y337=false→0≤d15.2)∧(y337=false→d15.2<(List.length d15.1))∧∀ (y338:Int),y338=(gD d15.1 d15.2 0)→∀ (y339:Bool),y339=(decide (y338≥(if fewErr C=0 then ((fewK C (wpN C)).length:Int) else 0)))→∀ (y340:Bool),y340=(y337||y339)→(y340=true →
          (false=true∧(True))) ∧
         (y340=false →
          (0≤d15.2)∧(d15.2<(List.length d15.1))∧∀ (y341:Int),y341=(gD d15.1 d15.2 0)→∀ (y342:Bool),y342=(y341==e15.2)→(y342=true →
           (0≤d15.2)∧(d15.2<(List.length d15.1))∧(I64 (d15.2+(1:Int)))∧(∃ d16:(List Int)×Int,((True∧True∧e15.1=e15.1∧e15.2=e15.2∧True∧(d15.2+(1:Int))=d16.2∧True)∧((C=C∧(List.isEmpty C)=(List.isEmpty C))∧((if fewErr C=0 then ((fewK C (wpN C)).length:Int) else 0)=(if fewErr C=0 then ((fewK C (wpN C)).length:Int) else 0)∧True∧(([]:List SV)=[]))∧((if fewErr C=0 then fewL C else [])=(if fewErr C=0 then fewL C else [])∧(List.isEmpty (if fewErr C=0 then fewL C else []))=(List.isEmpty (if fewErr C=0 then fewL C else [])))∧((if fewErr C=0 then ((fewK C (wpN C)).length:Int) else 0)=(if fewErr C=0 then ((fewK C (wpN C)).length:Int) else 0)∧True∧(([]:List SV)=[]))∧((sT d15.1 d15.2 e15.1)=d16.1∧false=false)∧True))∧q15 d16)) ∧
          (y342=false →
           (I64 (d15.2+(1:Int)))∧(∃ d17:(List Int)×Int,((True∧True∧e15.1=e15.1∧e15.2=e15.2∧True∧(d15.2+(1:Int))=d17.2∧True)∧((C=C∧(List.isEmpty C)=(List.isEmpty C))∧((if fewErr C=0 then ((fewK C (wpN C)).length:Int) else 0)=(if fewErr C=0 then ((fewK C (wpN C)).length:Int) else 0)∧True∧(([]:List SV)=[]))∧((if fewErr C=0 then fewL C else [])=(if fewErr C=0 then fewL C else [])∧(List.isEmpty (if fewErr C=0 then fewL C else []))=(List.isEmpty (if fewErr C=0 then fewL C else [])))∧((if fewErr C=0 then ((fewK C (wpN C)).length:Int) else 0)=(if fewErr C=0 then ((fewK C (wpN C)).length:Int) else 0)∧True∧(([]:List SV)=[]))∧(d15.1=d17.1∧false=false)∧True))∧q15 d17)))) ∧
        (y335=false →
         (d15.1.length≤1000)∧(C.length≤1000)∧(d15.1.length≤1000∧C.length≤1000∧∀ s∈C,s.length≤1000)∧(d15.1.length≤1000∧C.length≤1000∧∀ s∈C,s.length≤1000)∧∀ (y343:Bool),y343=((unwE (if fewErr C=0 then ((fewK C (wpN C)).length:Int) else 0) d15.1 C)==(9:Int))→∀ (y344:Bool),y344=((if unwErr (if fewErr C=0 then ((fewK C (wpN C)).length:Int) else 0) d15.1 C≠0 then unwErr (if fewErr C=0 then ((fewK C (wpN C)).length:Int) else 0) d15.1 C else if (partF d15.1 C).isSome then 0 else 7)==(0:Int))→∀ (y345:Bool),y345=(y343&&y344)→(y345=true→True)∧∀ (y346:Bool),y346=(y345&&true)→(y346=true∧(True)))) d150))) d30)))
def vc_law03_TieFew (h8:Int) (ws:List Int) (rs:List Int) (m0:Int) (m1:Int):Prop :=
 vcz_law03 h8 ws rs m0 m1 (hkN 16 h8) (warpsN (hkN 16 h8) 48 ws) (rowsN (hkN 16 h8) 12 rs) (weaveC (hkN 16 h8) (warpsN (hkN 16 h8) 48 ws) (hkN 16 h8) (rowsN (hkN 16 h8) 12 rs))
def cx_law03_TieFew:Cx:=⟨[],[(48,s_law03_Loom_harness),(49,s_law03_Loom_design),(19,s_law03_own),(20,s_law03_ours),(21,s_tie_Weave),(50,s_law03_right),(30,s_law03_cloths),(38,s_tie_Fewest),(39,s_tie_Apart),(53,s_law03_same),(14,s_law03_known),(31,s_tie_Unweave),(32,s_tie_Part)],274,[],0,[],[],[],[3,5,6,31,33],true,[],[],[]⟩
def lp_law03_TieFew (h8:Int) (ws:List Int) (rs:List Int) (m0:Int) (m1:Int):List (Nat×LoopAnn):=[(0,⟨Unit,Int,[3,5,7,9,12,16],fun e x=>[.box 3 0,.box 5 0,.lst 39,.box 9 0,.lst 65,.val (.i .i64) x],fun e x=>[(3,.slot 3,.cells [.val (.i .u8) m0,.val (.i .u8) m1] (some 86)),(5,.slot 5,.cells [.val (.i .i64) (hkN 16 h8),.lst 31] (some 26)),(31,.cell 5 1,.lst 3 (.i .i64) (warpsN (hkN 16 h8) 48 ws) false),(39,.slot 7,.lst 9 .st (weaveC (hkN 16 h8) (warpsN (hkN 16 h8) 48 ws) (hkN 16 h8) (rowsN (hkN 16 h8) 12 rs)) (List.isEmpty (weaveC (hkN 16 h8) (warpsN (hkN 16 h8) 48 ws) (hkN 16 h8) (rowsN (hkN 16 h8) 12 rs)))),(9,.slot 9,.cells [.val (.i .i64) (if fewErr (weaveC (hkN 16 h8) (warpsN (hkN 16 h8) 48 ws) (hkN 16 h8) (rowsN (hkN 16 h8) 12 rs))=0 then ((fewK (weaveC (hkN 16 h8) (warpsN (hkN 16 h8) 48 ws) (hkN 16 h8) (rowsN (hkN 16 h8) 12 rs)) (wpN (weaveC (hkN 16 h8) (warpsN (hkN 16 h8) 48 ws) (hkN 16 h8) (rowsN (hkN 16 h8) 12 rs)))).length:Int) else 0),.lst 58] (some 26)),(58,.cell 9 1,.lst 3 (.i .i64) (if fewErr (weaveC (hkN 16 h8) (warpsN (hkN 16 h8) 48 ws) (hkN 16 h8) (rowsN (hkN 16 h8) 12 rs))=0 then fewL (weaveC (hkN 16 h8) (warpsN (hkN 16 h8) 48 ws) (hkN 16 h8) (rowsN (hkN 16 h8) 12 rs)) else []) (List.isEmpty (if fewErr (weaveC (hkN 16 h8) (warpsN (hkN 16 h8) 48 ws) (hkN 16 h8) (rowsN (hkN 16 h8) 12 rs))=0 then fewL (weaveC (hkN 16 h8) (warpsN (hkN 16 h8) 48 ws) (hkN 16 h8) (rowsN (hkN 16 h8) 12 rs)) else []))),(65,.slot 12,.lst 3 (.i .i64) (if fewErr (weaveC (hkN 16 h8) (warpsN (hkN 16 h8) 48 ws) (hkN 16 h8) (rowsN (hkN 16 h8) 12 rs))=0 then fewA (weaveC (hkN 16 h8) (warpsN (hkN 16 h8) 48 ws) (hkN 16 h8) (rowsN (hkN 16 h8) 12 rs)) (wpN (weaveC (hkN 16 h8) (warpsN (hkN 16 h8) 48 ws) (hkN 16 h8) (rowsN (hkN 16 h8) 12 rs))) else []) (List.isEmpty (if fewErr (weaveC (hkN 16 h8) (warpsN (hkN 16 h8) 48 ws) (hkN 16 h8) (rowsN (hkN 16 h8) 12 rs))=0 then fewA (weaveC (hkN 16 h8) (warpsN (hkN 16 h8) 48 ws) (hkN 16 h8) (rowsN (hkN 16 h8) 12 rs)) (wpN (weaveC (hkN 16 h8) (warpsN (hkN 16 h8) 48 ws) (hkN 16 h8) (rowsN (hkN 16 h8) 12 rs))) else [])))]⟩),
 (2,⟨Int,Int,[3,5,7,9,12,16,17],fun e x=>[.box 3 0,.box 5 0,.lst 39,.box 9 0,.lst 65,.val (.i .i64) e,.val (.i .i64) x],fun e x=>[(3,.slot 3,.cells [.val (.i .u8) m0,.val (.i .u8) m1] (some 86)),(5,.slot 5,.cells [.val (.i .i64) (hkN 16 h8),.lst 31] (some 26)),(31,.cell 5 1,.lst 3 (.i .i64) (warpsN (hkN 16 h8) 48 ws) false),(39,.slot 7,.lst 9 .st (weaveC (hkN 16 h8) (warpsN (hkN 16 h8) 48 ws) (hkN 16 h8) (rowsN (hkN 16 h8) 12 rs)) (List.isEmpty (weaveC (hkN 16 h8) (warpsN (hkN 16 h8) 48 ws) (hkN 16 h8) (rowsN (hkN 16 h8) 12 rs)))),(9,.slot 9,.cells [.val (.i .i64) (if fewErr (weaveC (hkN 16 h8) (warpsN (hkN 16 h8) 48 ws) (hkN 16 h8) (rowsN (hkN 16 h8) 12 rs))=0 then ((fewK (weaveC (hkN 16 h8) (warpsN (hkN 16 h8) 48 ws) (hkN 16 h8) (rowsN (hkN 16 h8) 12 rs)) (wpN (weaveC (hkN 16 h8) (warpsN (hkN 16 h8) 48 ws) (hkN 16 h8) (rowsN (hkN 16 h8) 12 rs)))).length:Int) else 0),.lst 58] (some 26)),(58,.cell 9 1,.lst 3 (.i .i64) (if fewErr (weaveC (hkN 16 h8) (warpsN (hkN 16 h8) 48 ws) (hkN 16 h8) (rowsN (hkN 16 h8) 12 rs))=0 then fewL (weaveC (hkN 16 h8) (warpsN (hkN 16 h8) 48 ws) (hkN 16 h8) (rowsN (hkN 16 h8) 12 rs)) else []) (List.isEmpty (if fewErr (weaveC (hkN 16 h8) (warpsN (hkN 16 h8) 48 ws) (hkN 16 h8) (rowsN (hkN 16 h8) 12 rs))=0 then fewL (weaveC (hkN 16 h8) (warpsN (hkN 16 h8) 48 ws) (hkN 16 h8) (rowsN (hkN 16 h8) 12 rs)) else []))),(65,.slot 12,.lst 3 (.i .i64) (if fewErr (weaveC (hkN 16 h8) (warpsN (hkN 16 h8) 48 ws) (hkN 16 h8) (rowsN (hkN 16 h8) 12 rs))=0 then fewA (weaveC (hkN 16 h8) (warpsN (hkN 16 h8) 48 ws) (hkN 16 h8) (rowsN (hkN 16 h8) 12 rs)) (wpN (weaveC (hkN 16 h8) (warpsN (hkN 16 h8) 48 ws) (hkN 16 h8) (rowsN (hkN 16 h8) 12 rs))) else []) (List.isEmpty (if fewErr (weaveC (hkN 16 h8) (warpsN (hkN 16 h8) 48 ws) (hkN 16 h8) (rowsN (hkN 16 h8) 12 rs))=0 then fewA (weaveC (hkN 16 h8) (warpsN (hkN 16 h8) 48 ws) (hkN 16 h8) (rowsN (hkN 16 h8) 12 rs)) (wpN (weaveC (hkN 16 h8) (warpsN (hkN 16 h8) 48 ws) (hkN 16 h8) (rowsN (hkN 16 h8) 12 rs))) else [])))]⟩),
 (4,⟨Int×Int,Bool×Int,[3,5,7,9,12,16,17,18,19],fun e x=>[.box 3 0,.box 5 0,.lst 39,.box 9 0,.lst 65,.val (.i .i64) e.1,.val (.i .i64) e.2,.val .bo x.1,.val (.i .i64) x.2],fun e x=>[(3,.slot 3,.cells [.val (.i .u8) m0,.val (.i .u8) m1] (some 86)),(5,.slot 5,.cells [.val (.i .i64) (hkN 16 h8),.lst 31] (some 26)),(31,.cell 5 1,.lst 3 (.i .i64) (warpsN (hkN 16 h8) 48 ws) false),(39,.slot 7,.lst 9 .st (weaveC (hkN 16 h8) (warpsN (hkN 16 h8) 48 ws) (hkN 16 h8) (rowsN (hkN 16 h8) 12 rs)) (List.isEmpty (weaveC (hkN 16 h8) (warpsN (hkN 16 h8) 48 ws) (hkN 16 h8) (rowsN (hkN 16 h8) 12 rs)))),(9,.slot 9,.cells [.val (.i .i64) (if fewErr (weaveC (hkN 16 h8) (warpsN (hkN 16 h8) 48 ws) (hkN 16 h8) (rowsN (hkN 16 h8) 12 rs))=0 then ((fewK (weaveC (hkN 16 h8) (warpsN (hkN 16 h8) 48 ws) (hkN 16 h8) (rowsN (hkN 16 h8) 12 rs)) (wpN (weaveC (hkN 16 h8) (warpsN (hkN 16 h8) 48 ws) (hkN 16 h8) (rowsN (hkN 16 h8) 12 rs)))).length:Int) else 0),.lst 58] (some 26)),(58,.cell 9 1,.lst 3 (.i .i64) (if fewErr (weaveC (hkN 16 h8) (warpsN (hkN 16 h8) 48 ws) (hkN 16 h8) (rowsN (hkN 16 h8) 12 rs))=0 then fewL (weaveC (hkN 16 h8) (warpsN (hkN 16 h8) 48 ws) (hkN 16 h8) (rowsN (hkN 16 h8) 12 rs)) else []) (List.isEmpty (if fewErr (weaveC (hkN 16 h8) (warpsN (hkN 16 h8) 48 ws) (hkN 16 h8) (rowsN (hkN 16 h8) 12 rs))=0 then fewL (weaveC (hkN 16 h8) (warpsN (hkN 16 h8) 48 ws) (hkN 16 h8) (rowsN (hkN 16 h8) 12 rs)) else []))),(65,.slot 12,.lst 3 (.i .i64) (if fewErr (weaveC (hkN 16 h8) (warpsN (hkN 16 h8) 48 ws) (hkN 16 h8) (rowsN (hkN 16 h8) 12 rs))=0 then fewA (weaveC (hkN 16 h8) (warpsN (hkN 16 h8) 48 ws) (hkN 16 h8) (rowsN (hkN 16 h8) 12 rs)) (wpN (weaveC (hkN 16 h8) (warpsN (hkN 16 h8) 48 ws) (hkN 16 h8) (rowsN (hkN 16 h8) 12 rs))) else []) (List.isEmpty (if fewErr (weaveC (hkN 16 h8) (warpsN (hkN 16 h8) 48 ws) (hkN 16 h8) (rowsN (hkN 16 h8) 12 rs))=0 then fewA (weaveC (hkN 16 h8) (warpsN (hkN 16 h8) 48 ws) (hkN 16 h8) (rowsN (hkN 16 h8) 12 rs)) (wpN (weaveC (hkN 16 h8) (warpsN (hkN 16 h8) 48 ws) (hkN 16 h8) (rowsN (hkN 16 h8) 12 rs))) else [])))]⟩),
 (6,⟨Int×Int,(List Int)×Int,[7,9,20,21,22,23],fun e x=>[.lst 39,.box 9 0,.val (.i .i64) e.1,.val (.i .i64) e.2,.box 22 0,.val (.i .i64) x.2],fun e x=>[(39,.slot 7,.lst 9 .st (weaveC (hkN 16 h8) (warpsN (hkN 16 h8) 48 ws) (hkN 16 h8) (rowsN (hkN 16 h8) 12 rs)) (List.isEmpty (weaveC (hkN 16 h8) (warpsN (hkN 16 h8) 48 ws) (hkN 16 h8) (rowsN (hkN 16 h8) 12 rs)))),(9,.slot 9,.cells [.val (.i .i64) (if fewErr (weaveC (hkN 16 h8) (warpsN (hkN 16 h8) 48 ws) (hkN 16 h8) (rowsN (hkN 16 h8) 12 rs))=0 then ((fewK (weaveC (hkN 16 h8) (warpsN (hkN 16 h8) 48 ws) (hkN 16 h8) (rowsN (hkN 16 h8) 12 rs)) (wpN (weaveC (hkN 16 h8) (warpsN (hkN 16 h8) 48 ws) (hkN 16 h8) (rowsN (hkN 16 h8) 12 rs)))).length:Int) else 0),.lst 58] (some 26)),(58,.cell 9 1,.lst 3 (.i .i64) (if fewErr (weaveC (hkN 16 h8) (warpsN (hkN 16 h8) 48 ws) (hkN 16 h8) (rowsN (hkN 16 h8) 12 rs))=0 then fewL (weaveC (hkN 16 h8) (warpsN (hkN 16 h8) 48 ws) (hkN 16 h8) (rowsN (hkN 16 h8) 12 rs)) else []) (List.isEmpty (if fewErr (weaveC (hkN 16 h8) (warpsN (hkN 16 h8) 48 ws) (hkN 16 h8) (rowsN (hkN 16 h8) 12 rs))=0 then fewL (weaveC (hkN 16 h8) (warpsN (hkN 16 h8) 48 ws) (hkN 16 h8) (rowsN (hkN 16 h8) 12 rs)) else []))),(22,.slot 22,.cells [.val (.i .i64) (if fewErr (weaveC (hkN 16 h8) (warpsN (hkN 16 h8) 48 ws) (hkN 16 h8) (rowsN (hkN 16 h8) 12 rs))=0 then ((fewK (weaveC (hkN 16 h8) (warpsN (hkN 16 h8) 48 ws) (hkN 16 h8) (rowsN (hkN 16 h8) 12 rs)) (wpN (weaveC (hkN 16 h8) (warpsN (hkN 16 h8) 48 ws) (hkN 16 h8) (rowsN (hkN 16 h8) 12 rs)))).length:Int) else 0),.lst 213] (some 26)),(213,.cell 22 1,.lst 3 (.i .i64) x.1 false)]⟩)]
set_option maxRecDepth 100000 in
theorem vq_law03_TieFew (d:(Int×List Int×List Int)×Int×Int):gwp (cx_law03_TieFew) (lp_law03_TieFew d.1.1 d.1.2.1 d.1.2.2 d.2.1 d.2.2) c9 0 (gend [.tmp 4] (res_law03_TieFew d) (obs_law03_TieFew d)) (gstart 274 (AL.can al_law03_TieFew d))=vc_law03_TieFew d.1.1 d.1.2.1 d.1.2.2 d.2.1 d.2.2:=by kernel_rfl
abbrev Ok_law03_TieFew:Prop:=OkC Tryz.prog 9 s_law03_TieFew
theorem mk_law03_TieFew (h:∀ (h8:Int) (ws:List Int) (rs:List Int) (m0:Int) (m1:Int),(lOk h8 ws rs∧0≤m0∧m0≤255∧0≤m1∧m1≤255)→vc_law03_TieFew h8 ws rs m0 m1):OkC Tryz.prog 9 s_law03_TieFew :=
 okC_vc fun9 mixed (C:=cx_law03_TieFew) (V:=fun (d:(Int×List Int×List Int)×Int×Int)=>vc_law03_TieFew d.1.1 d.1.2.1 d.1.2.2 d.2.1 d.2.2) ⟨(.cons ok_law03_Loom_harness (.cons ok_law03_Loom_design (.cons ok_law03_own (.cons ok_law03_ours (.cons ok_tie_Weave (.cons ok_law03_right (.cons ok_law03_cloths (.cons ok_tie_Fewest (.cons ok_tie_Apart (.cons ok_law03_same (.cons ok_law03_known (.cons ok_tie_Unweave (.cons ok_tie_Part .nil))))))))))))),XsOk.nil,ItsOk.nil,YlOk.nil,IysOk.nil⟩ (vq_law03_TieFew) fun d hp=>h d.1.1 d.1.2.1 d.1.2.2 d.2.1 d.2.2 hp
end Go.Proofs.Tryz
set_option linter.unusedVariables false
namespace Go.Proofs.Tryz
open Go Go.V Go.Proofs
theorem loom_ok {h8:Int} {ws rs:List Int} (h:lOk h8 ws rs):(1≤hkN 16 h8∧hkN 16 h8≤16)∧(warpsN (hkN 16 h8) 48 ws≠[]∧(warpsN (hkN 16 h8) 48 ws).length≤48∧∀ x∈warpsN (hkN 16 h8) 48 ws,0≤x∧x<hkN 16 h8) ∧
  (rowsN (hkN 16 h8) 12 rs≠[]∧(rowsN (hkN 16 h8) 12 rs).length≤12∧∀ x∈rowsN (hkN 16 h8) 12 rs,0≤x∧x<2 ^ (hkN 16 h8).toNat):=by
 obtain⟨h1,h2,h3,h4⟩:=h
 have hk:=hkN_range (m:=16) (by omega) h1
 refine⟨hk,⟨?_,?_,?_⟩,⟨?_,?_,?_⟩⟩
 ·unfold warpsN;split
  ·simp
  ·rename_i hne;simpa using hne
 ·rw[warpsN_len];split<;>omega
 ·intro x hx
  unfold warpsN at hx
  split at hx
  ·rw[List.mem_singleton.1 hx];omega
  ·simp only[List.mem_map] at hx
   obtain⟨y,hy,rfl⟩:=hx
   have:=h3 y (List.mem_of_mem_take hy)
   exact⟨Int.tmod_nonneg _ this.1,Int.tmod_lt_of_pos _ (by omega)⟩
 ·unfold rowsN;split
  ·simp
  ·rename_i hne;simpa using hne
 ·rw[rowsN_len];split<;>omega
 ·intro x hx
  have hp:=pow_bound hk.1 (show hkN 16 h8≤24 by omega)
  unfold rowsN at hx
  split at hx
  ·rw[List.mem_singleton.1 hx]
   exact⟨Int.emod_nonneg _ (by omega),Int.emod_lt_of_pos _ (by omega)⟩
  ·simp only[List.mem_map] at hx
   obtain⟨y,_,rfl⟩:=hx
   exact⟨Int.emod_nonneg _ (by omega),Int.emod_lt_of_pos _ (by omega)⟩
theorem isXd_pickS (lw:List Int) (r:Int):isXd (pickS lw r)=true:=by
 simp only[isXd,pickS,List.all_eq_true,List.mem_map]
 rintro b ⟨k,_,rfl⟩
 cases r.toNat.testBit k.toNat<;>rfl
theorem pickS_at {lw:List Int} {r:Int} {w:Nat} (hw:w<lw.length):(pickS lw r).getD w 0=if r.toNat.testBit (lw.getD w 0).toNat then 120 else 46:=by
 rw[getD_nat (by rw[pickS_length];exact hw),getD_nat hw];simp[pickS]
theorem woven_ok {n:Int} {W R:List Int} (h1:1≤n) (h2:n≤16) (w1:W≠[]) (w2:W.length≤48) (w3:∀ x∈W,0≤x∧x<n) (r1:R≠[]) (r2:R.length≤12) (r3:∀ x∈R,0≤x∧x<2 ^ n.toNat) :
  weaveErr n W n R=0∧weaveC n W n R=R.map (pickS W)∧clothErr (R.map (pickS W)) W.length=0∧wpN (R.map (pickS W))=W.length:=by
 obtain⟨e1,_⟩:=weave_ok h1 (by omega) w1 (by omega) w3 r1 (by omega) r3
 have hw:1≤W.length:=List.length_pos_iff.2 w1
 have hr:1≤R.length:=List.length_pos_iff.2 r1
 refine⟨e1,by simp[weaveC,e1],?_,?_⟩
 ·have i1:inI (W.length:Int) 1 96=true:=by simp[inI];omega
  have a1:(R.map (pickS W)).any (fun s=>decide ((s.length:Int)≠(W.length:Int))||!isXd s)=false:=by
   rw[List.any_eq_false]
   intro s hs
   simp only[List.mem_map] at hs
   obtain⟨r,_,rfl⟩:=hs
   simp[isXd_pickS,pickS_length]
  unfold clothErr
  rw[i1,a1,if_neg (by rw[List.length_map];omega),if_neg (by rw[List.length_map];omega),if_neg (by simp)]
 ·cases R with
  |nil=>exact(r1 rfl).elim
  |cons r R=>simp[wpN,pickS_length]
theorem few_le {n:Int} {W R:List Int} (h1:1≤n) (w3:∀ x∈W,0≤x∧x<n):(fewAN (R.map (pickS W)) W.length).length≤n.toNat:=by
 have hcol:∀ {i j:Nat},i<W.length→j<W.length→W.getD i 0=W.getD j 0→colS (R.map (pickS W)) i=colS (R.map (pickS W)) j:=fun {i j} hi hj he=>by
  simp only[colS,List.map_map]
  refine List.map_congr_left fun r _=>?_
  simp only[Function.comp]
  rw[pickS_at hi,pickS_at hj,he]
 have hnd:((fewAN (R.map (pickS W)) W.length).map fun k=>(W.getD k 0).toNat).Nodup:=by
  rw[List.Nodup,List.pairwise_map]
  have hp:(fewAN (R.map (pickS W)) W.length).Pairwise (·<·):=List.Pairwise.filter _ List.pairwise_lt_range
  refine hp.imp_of_mem fun {a b} ha hb hab he=>?_
  have ha':=mem_fewAN.1 ha
  have hb':=mem_fewAN.1 hb
  have xa:=w3 _ (getD_mem ha'.1)
  have xb:=w3 _ (getD_mem hb'.1)
  have:=new_eq ha'.2 hb'.2 (hcol ha'.1 hb'.1 (by omega))
  omega
 have:=nodup_lenN (m:=List.range n.toNat) hnd fun x hx=>by
  simp only[List.mem_map] at hx
  obtain⟨k,hk,rfl⟩:=hx
  have:=w3 _ (getD_mem (mem_fewAN.1 hk).1)
  rw[List.mem_range];omega
 simpa using this
theorem few_back {c:List (List UInt8)} {m:Nat} (hw:m=wpN c) (hm:1≤m) (hl:∀ s∈c,s.length=m) (hx:∀ s∈c,isXd s=true):(rowsX (fewL c) c).map (pickS (fewL c))=c:=by
 subst hw
 have hfl:(fewL c).length=wpN c:=by simp[fewL,fewLN]
 have hp:∀ x∈fewL c,0≤x:=fun x hx=>by
  simp only[fewL,fewLN,List.mem_map,List.mem_range] at hx
  obtain⟨w,_,rfl⟩:=hx
  omega
 unfold rowsX
 rw[List.map_map]
 conv=>rhs;rw[←List.map_id c]
 refine List.map_congr_left fun s hs=>?_
 simp only[Function.comp,id]
 apply List.ext_getElem
 ·rw[pickS_length,hfl,hl s hs]
 ·intro w k1 k2
  rw[pickS_length,hfl] at k1
  have e:=pickS_at (lw:=fewL c) (r:=((rowX (fewL c) s:Nat):Int)) (w:=w) (by omega)
  rw[getD_nat (by rw[pickS_length];omega)] at e
  rw[e,Int.toNat_natCast]
  have hb:=rowXk_bit (s:=s) hp ((fewL c).getD w 0).toNat (fewL c).length (Nat.le_refl _)
  have hLw:(fewL c).getD w 0=((hkOf c w:Nat):Int):=fewLN_getD k1
  have h120:(rowX (fewL c) s).testBit ((fewL c).getD w 0).toNat=true↔s.getD w 0=120:=by
   unfold rowX
   rw[hb]
   constructor
   ·rintro⟨v,v1,v2,v3⟩
    have hLv:(fewL c).getD v 0=((hkOf c v:Nat):Int):=fewLN_getD (by omega)
    have h3:hkOf c v=hkOf c w:=by omega
    have h4:=(hkOf_eq (show v<wpN c by omega) k1).1 h3
    have h5:=List.all_eq_true.1 (likeB_iff.2 h4) s hs
    rw[←v3];exact(eq_of_beq h5).symm
   ·intro h;exact⟨w,by omega,by rw[hLw];simp,h⟩
  have hsw:s.getD w 0=s[w]:=getD_nat k2
  have hx1:=List.all_eq_true.1 (hx s hs) s[w] (List.getElem_mem k2)
  simp only[Bool.or_eq_true,beq_iff_eq] at hx1
  rw[hsw] at h120
  by_cases hc:s[w]=120
  ·rw[if_pos (h120.2 hc),hc]
  ·rw[if_neg (fun h=>hc (h120.1 h))]
   rcases hx1 with hx1|hx1
   ·exact(hc hx1).elim
   ·exact hx1.symm
theorem fewA_at {c:List (List UInt8)} {n k:Nat} (hk:k<(fewAN c n).length):(fewA c n).getD k 0=(((fewAN c n)[k]:Nat):Int)∧(fewAN c n)[k]<n∧hkOf c (fewAN c n)[k]=k:=by
 have hm:=mem_fewAN.1 (List.getElem_mem hk)
 refine⟨by rw[getD_nat (by simpa [fewA] using hk)];simp[fewA],hm.1,?_⟩
 have:=like_idx (c:=c) (n:=n) (k:=k) hm.1 hk
 rw[getD_nat hk] at this
 have h2:likeB c (fewAN c n)[k] (fewAN c n)[k]=true:=likeB_iff.2 rfl
 rw[h2] at this
 exact(of_decide_eq_true this.symm).symm
theorem less_parts {c:List (List UInt8)} {m a b:Nat} (hw:m=wpN c) (ha:a<(fewAN c m).length) (hb:b<(fewAN c m).length) (hab:a≠b):(partF ((fewL c).map fun x=>if x=(b:Int) then (a:Int) else x) c).isSome=true:=by
 subst hw
 have hfl:(fewL c).length=wpN c:=by simp[fewL,fewLN]
 obtain⟨_,a2,a3⟩:=fewA_at ha
 obtain⟨_,b2,b3⟩:=fewA_at hb
 cases hp:partF ((fewL c).map fun x=>if x=(b:Int) then (a:Int) else x) c with
 |some x=>rfl
 |none =>
  exfalso
  have hat:∀ w,w<wpN c→((fewL c).map fun x=>if x=(b:Int) then (a:Int) else x).getD w 0=if hkOf c w=b then (a:Int) else ((hkOf c w:Nat):Int):=fun w hw=>by
   rw[getD_nat (by rw[List.length_map];omega),List.getElem_map]
   have e:(fewL c)[w]'(by omega)=((hkOf c w:Nat):Int):=by rw[←getD_nat (by omega) (d:=0)];exact fewLN_getD hw
   rw[e]
   by_cases h:hkOf c w=b
   ·rw[if_pos h,if_pos (by omega)]
   ·rw[if_neg h,if_neg (by omega)]
  have e1:=hat _ a2
  have e2:=hat _ b2
  rw[a3,if_neg hab] at e1
  rw[b3,if_pos rfl] at e2
  have:colS c (fewAN c (wpN c))[a]=colS c (fewAN c (wpN c))[b]:=by
   unfold colS
   refine List.map_congr_left fun s hs=>?_
   obtain⟨i,hi,rfl⟩:=List.getElem_of_mem hs
   have h1:=partW_none.1 (partF_none.1 hp i hi) (fewAN c (wpN c))[a] (by rw[List.length_map];omega)
   have h2:=partW_none.1 (partF_none.1 hp i hi) (fewAN c (wpN c))[b] (by rw[List.length_map];omega)
   rw[e1] at h1;rw[e2] at h2
   rw[getD_nat hi] at h1 h2
   rw[h1,h2]
  have:=new_eq (mem_fewAN.1 (List.getElem_mem ha)).2 (mem_fewAN.1 (List.getElem_mem hb)).2 this
  exact hab (fewAN_inj ha hb this)
theorem apart_any {c:List (List UInt8)} {n j k:Nat} (hj:j<(fewAN c n).length) (hk:k<(fewAN c n).length) (hjk:j≠k):((List.range c.length).any fun p=>(c.getD p []).getD (fewAN c n)[k] 0 != (c.getD p []).getD (fewAN c n)[j] 0)=true:=by
 apply Classical.byContradiction
 intro h
 rw[Bool.not_eq_true,List.any_eq_false] at h
 have:colS c (fewAN c n)[j]=colS c (fewAN c n)[k]:=by
  unfold colS
  refine List.map_congr_left fun s hs=>?_
  obtain⟨i,hi,rfl⟩:=List.getElem_of_mem hs
  have h1:=h i (List.mem_range.2 hi)
  rw[getD_nat hi] at h1
  have h1:(c[i]).getD (fewAN c n)[k] 0=(c[i]).getD (fewAN c n)[j] 0:=by simpa using h1
  exact h1.symm
 have:=new_eq (mem_fewAN.1 (List.getElem_mem hj)).2 (mem_fewAN.1 (List.getElem_mem hk)).2 this
 exact hjk (fewAN_inj hj hk this)
theorem ok_law03_TieFew:Ok_law03_TieFew:=mk_law03_TieFew fun h8 ws rs m0 m1 h=>by
 obtain⟨hL,p1,p2,p3,p4⟩:=h
 unfold vc_law03_TieFew vcz_law03 vca_law03;(try delta lI gD sT I64)
 obtain⟨⟨n1,n2⟩,⟨w1,w2,w3⟩,⟨r1,r2,r3⟩⟩:=loom_ok hL
 refine⟨hL,(fun h=>by cases h),hL,(fun h=>by cases h),(by and_intros<;>first|rfl|trivial),?_⟩
 iterate 11
  refine⟨⟨hL,(fun h=>by cases h),hL,(fun h=>by cases h),(by and_intros<;>first|rfl|trivial)⟩,?_⟩
 clear hL
 generalize warpsN (hkN 16 h8) 48 ws=W at w1 w2 w3 ⊢
 generalize rowsN (hkN 16 h8) 12 rs=R at r1 r2 r3 ⊢
 generalize hkN 16 h8=H at n1 n2 w3 r3 ⊢
 obtain⟨e1,e2,e3,e4⟩:=woven_ok n1 n2 w1 w2 w3 r1 r2 r3
 have f1:=few_le (R:=R) n1 w3
 have cl:(R.map (pickS W)).length=R.length:=List.length_map ..
 have cs:∀ s∈R.map (pickS W),s.length=W.length:=fun s hs=>by
  simp only[List.mem_map] at hs
  obtain⟨r,_,rfl⟩:=hs
  exact pickS_length _ _
 have cx:∀ s∈R.map (pickS W),isXd s=true:=fun s hs=>by
  simp only[List.mem_map] at hs
  obtain⟨r,_,rfl⟩:=hs
  exact isXd_pickS _ _
 have hw1:1≤W.length:=List.length_pos_iff.2 w1
 have hr1:1≤R.length:=List.length_pos_iff.2 r1
 simp only[e1,e2]
 generalize R.map (pickS W)=C at *
 rw[←e4] at f1
 have hK:(fewK C (wpN C)).length=(fewAN C (wpN C)).length:=mapFrom_length ..
 have f2:1≤(fewAN C (wpN C)).length:=List.length_pos_of_mem (mem_fewAN.2 ⟨by omega,newB_iff.2 fun k hk=>by omega⟩:(0:Nat)∈fewAN C (wpN C))
 have he:fewErr C=0:=by
  unfold fewErr
  rw[e4,e3,if_neg (by simp),if_neg (by rw[←e4];omega)]
 have hfl:(fewL C).length=W.length:=by simp[fewL,fewLN,e4]
 obtain⟨NF,hNF⟩:∃ NF:Int,NF=((fewK C (wpN C)).length:Int):=⟨_,rfl⟩
 have hp:∀ x∈fewL C,0≤x∧x<NF:=fun x hx=>by
  simp only[fewL,fewLN,List.mem_map,List.mem_range] at hx
  obtain⟨w,hw,rfl⟩:=hx
  have:=(hkOf_lt (c:=C) hw).1
  omega
 have hXl:(rowsX (fewL C) C).length=R.length:=by simp[rowsX,cl]
 have hX:∀ x∈rowsX (fewL C) C,0≤x∧x<2 ^ NF.toNat:=fun x hx=>by
  simp only[rowsX,List.mem_map] at hx
  obtain⟨s,_,rfl⟩:=hx
  have:=rowXk_lt (s:=s) (n:=NF.toNat) (fun x hx=>by have:=hp x hx;omega) (fewL C).length (Nat.le_refl _)
  refine⟨by omega,?_⟩
  have e:(2:Int) ^ NF.toNat=((2 ^ NF.toNat:Nat):Int):=by simp
  rw[e];unfold rowX;omega
 obtain⟨g1,_⟩:=weave_ok (n:=NF) (S:=fewL C) (xs:=rowsX (fewL C) C) (by omega) (by omega) (fun e=>by rw[e] at hfl;simp at hfl;omega) (by omega) hp (fun e=>by rw[e] at hXl;simp at hXl;omega) (by omega) hX
 have g3:weaveC NF (fewL C) NF (rowsX (fewL C) C)=C:=by
  simp only[weaveC,g1,if_true]
  exact few_back e4.symm hw1 cs cx
 have hrb:rightB C (R.length:Int) (W.length:Int)=true:=rightB_iff.2 ⟨fun s hs=>by have:=cs s hs;omega,by omega⟩
 have hAl:(fewA C (wpN C)).length=(fewAN C (wpN C)).length:=by simp[fewA]
 have cs2:∀ s∈C,s.length≤1000:=fun s hs=>by have:=cs s hs;omega
 simp only[he,if_true,←hNF,g1,g3,hrb,true_and,and_true,exists_eq_left',exists_const,decide_eq_true_eq,decide_eq_false_iff_not,beq_iff_eq,bne_iff_ne,ne_eq,beq_eq_false_iff_ne,bne_eq_false_iff_eq,Bool.not_eq_true',Bool.not_eq_false',gt_iff_lt,ge_iff_le,forall_eq,false_implies,Bool.false_eq_true,Bool.or_self,Bool.or_false,Bool.and_true,Bool.not_true,implies_true,forall_const,not_true_eq_false]
 have b1:((0:Int) != 0||((fewL C).length:Int) != (W.length:Int)||decide (NF<1)||decide (H<NF)||((fewA C (wpN C)).length:Int) != NF)=false:=by
  rw[hfl,hAl,hNF,hK]
  simp
  omega
 refine⟨by omega,by omega,⟨by omega,by omega⟩,by omega,by omega,⟨by omega,cs2⟩,by omega,⟨by omega,cs2⟩,(fun h=>by rw[b1] at h;cases h),fun _=>⟨by omega,⟨by omega,by omega⟩,by omega,(fun h=>by simp at h),fun _=>?_⟩⟩
 clear b1
 refine LoopP.count (fewA C (wpN C)).length (fun _=>True) trivial fun k hk _ q hq=>⟨fun hlt=>?_,fun hge=>?_⟩
 ·have hkl:k<(fewAN C (wpN C)).length:=by omega
  obtain⟨a1,a2,_⟩:=fewA_at hkl
  have hasc:k≠0→(fewA C (wpN C)).getD ((k:Int)-1).toNat 0<((fewAN C (wpN C))[k]:Int):=fun h0=>by
   have e:((k:Int)-1).toNat=k-1:=by omega
   rw[e,(fewA_at (c:=C) (n:=wpN C) (k:=k-1) (by omega)).1]
   have hp:(fewAN C (wpN C)).Pairwise (·<·):=List.Pairwise.filter _ List.pairwise_lt_range
   have:=List.pairwise_iff_getElem.1 hp (k-1) k (by omega) hkl (by omega)
   omega
  simp only[Int.toNat_natCast,a1]
  have bB:(decide (((fewAN C (wpN C))[k]:Int)<0)||decide ((W.length:Int)≤((fewAN C (wpN C))[k]:Int))||decide (0<(k:Int))&&decide (((fewAN C (wpN C))[k]:Int)≤(fewA C (wpN C)).getD ((k:Int)-1).toNat 0))=false:=by
   simp only[Bool.or_eq_false_iff,Bool.and_eq_false_iff,decide_eq_false_iff_not]
   refine⟨⟨by omega,by omega⟩,?_⟩
   by_cases h0:k=0
   ·exact .inl (by omega)
   ·have:=hasc h0;exact .inr (by omega)
  refine⟨by omega,hlt,fun _=>by omega,fun _=>hlt,fun _ _=>by omega,fun _ _=>hlt,fun _ _=>by rw[InK_i64];omega,fun _ _=>by omega,fun _ _=>by omega,(fun h=>by rw[bB] at h;cases h),fun _=>⟨(k:Int),0,⟨rfl,rfl⟩,?_⟩⟩
  clear bB
  refine LoopP.count k (fun _=>True) trivial fun j hj _ q6 hq6=>⟨fun hlt2=>⟨((k:Int),(j:Int)),(false,0),⟨rfl,rfl,rfl,rfl⟩,?_⟩,fun hge2=>⟨by rw[InK_i64];omega,hq (by omega) trivial⟩⟩
  have hjl:j<(fewAN C (wpN C)).length:=by omega
  obtain⟨c1,c2,_⟩:=fewA_at hjl
  refine LoopP.count2 C.length (fun p b=>b=(List.range p).any fun i=>(C.getD i []).getD (fewAN C (wpN C))[k] 0 != (C.getD i []).getD (fewAN C (wpN C))[j] 0) rfl fun p b hp' hb q9 hq9=>?_
  dsimp only
  simp only[Int.toNat_natCast,a1,c1]
  refine⟨fun hpl=>?_,fun hpl=>⟨fun hf=>?_,fun _=>⟨by rw[InK_i64];omega,_,⟨trivial,rfl⟩,hq6 (by omega) trivial⟩⟩⟩
  ·have hpl':p<C.length:=by omega
   have hsl:(C.getD p []).length=W.length:=by rw[getD_nat hpl'];exact cs _ (List.getElem_mem hpl')
   refine⟨fun _=>by omega,fun _=>hpl,fun _=>by omega,fun _=>hlt,fun _=>by omega,fun _=>by rw[hsl];omega,fun _=>by omega,fun _=>hpl,fun _=>by omega,fun _=>by omega,fun _=>by omega,fun _=>by rw[hsl];omega,by rw[InK_i64];omega,(_,_),⟨rfl,rfl⟩,hq9 _ hpl' ?_⟩
   rw[List.range_succ,List.any_append,←hb,List.any_cons,List.any_nil,Bool.or_false]
   have hx:∀ x y:UInt8,(((x.toNat:Nat):Int) != ((y.toNat:Nat):Int))=(x != y):=fun x y=>by
    rw[Bool.eq_iff_iff,bne_iff_ne,bne_iff_ne,ne_eq,ne_eq,Int.ofNat_inj,UInt8.toNat_inj]
   simp only[hx]
   cases b<;>rfl
  ·have hpe:p=C.length:=by omega
   rw[hf,hpe,apart_any hjl hkl (by omega)] at hb
   cases hb
 ·refine fun h2=>?_
  have t1:=Int.tmod_nonneg NF p1
  have t2:=Int.tmod_lt_of_pos m0 (show 0<NF by omega)
  have t3:=Int.tmod_nonneg (NF-1) p3
  have t4:=Int.tmod_lt_of_pos m1 (show 0<NF-1 by omega)
  generalize m0.tmod NF=a at t1 t2 ⊢
  generalize m1.tmod (NF-1)=u at t3 t4 ⊢
  have t5:=Int.tmod_nonneg NF (show 0≤a+1+u by omega)
  have t6:=Int.tmod_lt_of_pos (a+1+u) (show 0<NF by omega)
  have t7:(a+1+u).tmod NF≠a:=by
   by_cases h5:a+1+u<NF
   ·rw[Int.tmod_eq_of_lt (by omega) h5];omega
   ·rw[Int.tmod_eq_emod_of_nonneg (by omega)]
    have e:a+1+u=(a+1+u-NF)+NF:=by omega
    rw[e,Int.add_emod_right,Int.emod_eq_of_lt (by omega) (by omega)]
    omega
  generalize (a+1+u).tmod NF=b at t5 t6 t7 ⊢
  refine⟨by rw[InK_i64];omega,by omega,by rw[InK_i64];omega,by rw[InK_i64];omega,by rw[InK_i64];omega,by omega,by rw[InK_i64];omega,by omega,by omega,(a,b),(fewL C,0),⟨⟨rfl,rfl,rfl⟩,rfl⟩,?_⟩
  refine LoopP.count2 (fewL C).length (fun i l=>l.length=(fewL C).length∧∀ j,j<(fewL C).length→l.getD j 0=if j<i then (if (fewL C).getD j 0=b then a else (fewL C).getD j 0) else (fewL C).getD j 0) ⟨rfl,fun j _=>by rw[if_neg (by omega)]⟩ fun i l hi hI q hq=>?_
  obtain⟨i1,i2⟩:=hI
  dsimp only
  simp only[Int.toNat_natCast]
  refine⟨fun hlt=>?_,fun hge=>?_⟩
  ·have hil:i<(fewL C).length:=by omega
   have hLi:=hp _ (getD_mem hil)
   have hli:=i2 i hil
   rw[if_neg (by omega)] at hli
   simp only[hli]
   have bB:(decide ((fewL C).getD i 0<0)||decide (NF≤(fewL C).getD i 0))=false:=by
    simp only[Bool.or_eq_false_iff,decide_eq_false_iff_not];omega
   refine⟨by omega,hlt,fun _=>by omega,fun _=>hlt,(fun h=>by rw[bB] at h;cases h),fun _=>⟨by omega,hlt,fun hb=>⟨by omega,hlt,by rw[InK_i64];omega,(_,_),⟨rfl,rfl⟩,hq _ hil ⟨by rw[List.length_set];exact i1,fun j hj=>?_⟩⟩,fun hb=>⟨by rw[InK_i64];omega,(_,_),⟨rfl,rfl⟩,hq _ hil ⟨i1,fun j hj=>?_⟩⟩⟩⟩
   ·rw[List.getD_eq_getElem?_getD,List.getElem?_set]
    by_cases hij:i=j
    ·subst hij
     rw[if_pos rfl,if_pos (by omega),if_pos (show i<i+1 by omega),if_pos hb];rfl
    ·rw[if_neg hij,←List.getD_eq_getElem?_getD,i2 j hj]
     by_cases h6:j<i
     ·rw[if_pos h6,if_pos (show j<i+1 by omega)]
     ·rw[if_neg h6,if_neg (show ¬ j<i+1 by omega)]
   ·rw[i2 j hj]
    by_cases h6:j<i
    ·rw[if_pos h6,if_pos (show j<i+1 by omega)]
    ·rw[if_neg h6]
     by_cases h7:j=i
     ·subst h7;rw[if_pos (show j<j+1 by omega),if_neg hb]
     ·rw[if_neg (show ¬ j<i+1 by omega)]
  ·have hie:i=(fewL C).length:=by omega
   have hl:l=(fewL C).map fun x=>if x=b then a else x:=by
    refine List.ext_getElem (by rw[List.length_map,i1]) fun j k1 k2=>?_
    have:=i2 j (by omega)
    rw[if_pos (show j<i by omega),getD_nat k1,getD_nat (by omega)] at this
    rw[this,List.getElem_map]
   have hpart:(partF l C).isSome=true:=by
    obtain⟨a',rfl⟩:=Int.eq_ofNat_of_zero_le t1
    obtain⟨b',rfl⟩:=Int.eq_ofNat_of_zero_le t5
    rw[hl]
    exact less_parts rfl (by omega) (by omega) (by omega)
   have hl3:∀ x∈l,0≤x∧x<NF:=by
    rw[hl]
    intro x hx
    simp only[List.mem_map] at hx
    obtain⟨y,hy,rfl⟩:=hx
    have:=hp y hy
    split<;>omega
   have hle:l≠[]:=fun e=>by rw[e] at i1;simp at i1;omega
   obtain⟨z1,_⟩:=weave_ok (n:=NF) (S:=l) (xs:=rowsX (fewL C) C) (by omega) (by omega) hle (by omega) hl3 (fun e=>by rw[e] at hXl;simp at hXl;omega) (by omega) hX
   have z2:=(weaveErr_zero z1).1
   have z3:unwErr NF l C=0:=by
    unfold unwErr
    rw[if_neg (by rw[z2];simp),i1,hfl];exact e3
   have z4:unwE NF l C=9:=by simp[unwE,z3,hpart]
   simp only[z3,z4,hpart]
   exact⟨by omega,by omega,⟨by omega,by omega,cs2⟩,⟨by omega,by omega,cs2⟩,by simp⟩
end Go.Proofs.Tryz
set_option linter.unusedVariables false
namespace Go.Proofs.Tryz
open Go Go.V Go.Proofs
theorem u8s_of {l:List Int} (h:KWf (.list (.i .u8)) l):u8s l:=fun x hx=>(InK_u8 x).1 (h.2 x hx)
theorem u16s_of {l:List Int} (h:KWf (.list (.i .u16)) l):u16s l:=fun x hx=>(InK_u16 x).1 (h.2 x hx)
end Go.Proofs.Tryz
set_option linter.unusedVariables false
namespace Go.Proofs.Tryz
open Go Go.V Go.Proofs
theorem twoPre_of {x:(Int×List Int×List Int)×Int×Int} (h:AWf [.pair (.i .u8) (.pair (.list (.i .u8)) (.list (.i .u16))),.pair (.i .u8) (.i .u8)] x):lOk x.1.1 x.1.2.1 x.1.2.2∧0≤x.2.1∧x.2.1≤255∧0≤x.2.2∧x.2.2≤255:=by
 obtain⟨⟨h1,h2,h4⟩,h3,h5⟩:=h
 have h1:=(InK_u8 x.1.1).1 h1
 have h3:=(InK_u8 x.2.1).1 h3
 have h5:=(InK_u8 x.2.2).1 h5
 exact⟨⟨h1.1,h1.2,u8s_of h2,u16s_of h4⟩,h3.1,h3.2,h5.1,h5.2⟩
end Go.Proofs.Tryz