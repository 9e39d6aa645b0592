/- A framework for walks, contracts of functions, and their proofs: part 6. -/
import Derived.Test.YtfgcglmakclnkaaGreatDoorR5
namespace Go.Proofs.Tryz
open Go Go.V
def memo0_3 : Memo := ⟨[.agg #[.int .i64 4, .slice (some ⟨0, 0, none⟩) 1 1], .slice (some ⟨1, 0, none⟩) 1 1, .int .i64 3], [⟨[.int .i64 0], ⟨1, 3⟩, true⟩, ⟨[.int .i64 0], ⟨1, 3⟩, true⟩], .tuple #[.agg #[.int .i64 4, .slice (some ⟨2, 0, none⟩) 1 1], .int .i64 1, .int .i64 0], [⟨[.int .i64 1], ⟨1, 3⟩, false⟩]⟩
theorem memo0_3_ok : MemoOk Tryz.prog 65 memo0_3 := memo_run mixed tabt_ok 200 (by kernel_rfl) (by kernel_rfl)
def memo1_3 : Memo := ⟨[.agg #[.int .i64 4, .slice (some ⟨0, 0, none⟩) 1 1], .slice (some ⟨1, 0, none⟩) 1 1, .int .i64 3], [⟨[.int .i64 1], ⟨1, 3⟩, true⟩, ⟨[.int .i64 1], ⟨1, 3⟩, true⟩], .tuple #[.agg #[.int .i64 4, .slice (some ⟨2, 0, none⟩) 1 1], .int .i64 0, .int .i64 0], [⟨[.int .i64 1], ⟨1, 3⟩, false⟩]⟩
theorem memo1_3_ok : MemoOk Tryz.prog 65 memo1_3 := memo_run mixed tabt_ok 200 (by kernel_rfl) (by kernel_rfl)
def memo2_3 : Memo := ⟨[.agg #[.int .i64 4, .slice (some ⟨0, 0, none⟩) 1 1], .slice (some ⟨1, 0, none⟩) 1 1, .int .i64 3], [⟨[.int .i64 2], ⟨1, 3⟩, true⟩, ⟨[.int .i64 2], ⟨1, 3⟩, true⟩], .tuple #[.agg #[.int .i64 4, .slice (some ⟨2, 0, none⟩) 1 1], .int .i64 0, .int .i64 0], [⟨[.int .i64 2], ⟨1, 3⟩, false⟩]⟩
theorem memo2_3_ok : MemoOk Tryz.prog 65 memo2_3 := memo_run mixed tabt_ok 200 (by kernel_rfl) (by kernel_rfl)
def memo3_3 : Memo := ⟨[.agg #[.int .i64 4, .slice (some ⟨0, 0, none⟩) 1 1], .slice (some ⟨1, 0, none⟩) 1 1, .int .i64 3], [⟨[.int .i64 3], ⟨1, 3⟩, true⟩, ⟨[.int .i64 3], ⟨1, 3⟩, true⟩], .tuple #[.agg #[.int .i64 4, .slice (some ⟨2, 0, none⟩) 1 1], .int .i64 0, .int .i64 0], [⟨[.int .i64 3], ⟨1, 3⟩, false⟩]⟩
theorem memo3_3_ok : MemoOk Tryz.prog 65 memo3_3 := memo_run mixed tabt_ok 200 (by kernel_rfl) (by kernel_rfl)
def memo4_3 : Memo := ⟨[.agg #[.int .i64 4, .slice (some ⟨0, 0, none⟩) 1 1], .slice (some ⟨1, 0, none⟩) 1 1, .int .i64 3], [⟨[.int .i64 4], ⟨1, 3⟩, true⟩, ⟨[.int .i64 4], ⟨1, 3⟩, true⟩], .tuple #[.agg #[.int .i64 4, .slice (some ⟨2, 0, none⟩) 1 1], .int .i64 0, .int .i64 0], [⟨[.int .i64 4], ⟨1, 3⟩, false⟩]⟩
theorem memo4_3_ok : MemoOk Tryz.prog 65 memo4_3 := memo_run mixed tabt_ok 200 (by kernel_rfl) (by kernel_rfl)
def memo5_3 : Memo := ⟨[.agg #[.int .i64 4, .slice (some ⟨0, 0, none⟩) 1 1], .slice (some ⟨1, 0, none⟩) 1 1, .int .i64 3], [⟨[.int .i64 5], ⟨1, 3⟩, true⟩, ⟨[.int .i64 5], ⟨1, 3⟩, true⟩], .tuple #[.agg #[.int .i64 4, .slice (some ⟨2, 0, none⟩) 1 1], .int .i64 0, .int .i64 0], [⟨[.int .i64 5], ⟨1, 3⟩, false⟩]⟩
theorem memo5_3_ok : MemoOk Tryz.prog 65 memo5_3 := memo_run mixed tabt_ok 200 (by kernel_rfl) (by kernel_rfl)
def memo6_3 : Memo := ⟨[.agg #[.int .i64 4, .slice (some ⟨0, 0, none⟩) 1 1], .slice (some ⟨1, 0, none⟩) 1 1, .int .i64 3], [⟨[.int .i64 6], ⟨1, 3⟩, true⟩, ⟨[.int .i64 6], ⟨1, 3⟩, true⟩], .tuple #[.agg #[.int .i64 4, .slice (some ⟨2, 0, none⟩) 1 1], .int .i64 0, .int .i64 0], [⟨[.int .i64 6], ⟨1, 3⟩, false⟩]⟩
theorem memo6_3_ok : MemoOk Tryz.prog 65 memo6_3 := memo_run mixed tabt_ok 200 (by kernel_rfl) (by kernel_rfl)
def memo7_3 : Memo := ⟨[.agg #[.int .i64 4, .slice (some ⟨0, 0, none⟩) 1 1], .slice (some ⟨1, 0, none⟩) 1 1, .int .i64 3], [⟨[.int .i64 7], ⟨1, 3⟩, true⟩, ⟨[.int .i64 7], ⟨1, 3⟩, true⟩], .tuple #[.agg #[.int .i64 4, .slice (some ⟨2, 0, none⟩) 1 1], .int .i64 0, .int .i64 0], [⟨[.int .i64 7], ⟨1, 3⟩, false⟩]⟩
theorem memo7_3_ok : MemoOk Tryz.prog 65 memo7_3 := memo_run mixed tabt_ok 200 (by kernel_rfl) (by kernel_rfl)
def memo8_3 : Memo := ⟨[.agg #[.int .i64 4, .slice (some ⟨0, 0, none⟩) 1 1], .slice (some ⟨1, 0, none⟩) 1 1, .int .i64 3], [⟨[.int .i64 8], ⟨1, 3⟩, true⟩, ⟨[.int .i64 8], ⟨1, 3⟩, true⟩], .tuple #[.agg #[.int .i64 4, .slice (some ⟨2, 0, none⟩) 1 1], .int .i64 0, .int .i64 0], [⟨[.int .i64 8], ⟨1, 3⟩, false⟩]⟩
theorem memo8_3_ok : MemoOk Tryz.prog 65 memo8_3 := memo_run mixed tabt_ok 200 (by kernel_rfl) (by kernel_rfl)
def memo9_3 : Memo := ⟨[.agg #[.int .i64 4, .slice (some ⟨0, 0, none⟩) 1 1], .slice (some ⟨1, 0, none⟩) 1 1, .int .i64 3], [⟨[.int .i64 9], ⟨1, 3⟩, true⟩, ⟨[.int .i64 9], ⟨1, 3⟩, true⟩], .tuple #[.agg #[.int .i64 4, .slice (some ⟨2, 0, none⟩) 1 1], .int .i64 0, .int .i64 0], [⟨[.int .i64 9], ⟨1, 3⟩, false⟩]⟩
theorem memo9_3_ok : MemoOk Tryz.prog 65 memo9_3 := memo_run mixed tabt_ok 200 (by kernel_rfl) (by kernel_rfl)
def memo10_3 : Memo := ⟨[.agg #[.int .i64 4, .slice (some ⟨0, 0, none⟩) 1 1], .slice (some ⟨1, 0, none⟩) 1 1, .int .i64 3], [⟨[.int .i64 10], ⟨1, 3⟩, true⟩, ⟨[.int .i64 10], ⟨1, 3⟩, true⟩], .tuple #[.agg #[.int .i64 4, .slice (some ⟨2, 0, none⟩) 1 1], .int .i64 0, .int .i64 0], [⟨[.int .i64 10], ⟨1, 3⟩, false⟩]⟩
theorem memo10_3_ok : MemoOk Tryz.prog 65 memo10_3 := memo_run mixed tabt_ok 200 (by kernel_rfl) (by kernel_rfl)
def memo11_3 : Memo := ⟨[.agg #[.int .i64 4, .slice (some ⟨0, 0, none⟩) 1 1], .slice (some ⟨1, 0, none⟩) 1 1, .int .i64 3], [⟨[.int .i64 11], ⟨1, 3⟩, true⟩, ⟨[.int .i64 11], ⟨1, 3⟩, true⟩], .tuple #[.agg #[.int .i64 4, .slice (some ⟨2, 0, none⟩) 1 1], .int .i64 0, .int .i64 0], [⟨[.int .i64 11], ⟨1, 3⟩, false⟩]⟩
theorem memo11_3_ok : MemoOk Tryz.prog 65 memo11_3 := memo_run mixed tabt_ok 200 (by kernel_rfl) (by kernel_rfl)
def memo12_3 : Memo := ⟨[.agg #[.int .i64 4, .slice (some ⟨0, 0, none⟩) 1 1], .slice (some ⟨1, 0, none⟩) 1 1, .int .i64 3], [⟨[.int .i64 12], ⟨1, 3⟩, true⟩, ⟨[.int .i64 12], ⟨1, 3⟩, true⟩], .tuple #[.agg #[.int .i64 4, .slice (some ⟨2, 0, none⟩) 1 1], .int .i64 0, .int .i64 0], [⟨[.int .i64 12], ⟨1, 3⟩, false⟩]⟩
theorem memo12_3_ok : MemoOk Tryz.prog 65 memo12_3 := memo_run mixed tabt_ok 200 (by kernel_rfl) (by kernel_rfl)
def memo13_3 : Memo := ⟨[.agg #[.int .i64 4, .slice (some ⟨0, 0, none⟩) 1 1], .slice (some ⟨1, 0, none⟩) 1 1, .int .i64 3], [⟨[.int .i64 13], ⟨1, 3⟩, true⟩, ⟨[.int .i64 13], ⟨1, 3⟩, true⟩], .tuple #[.agg #[.int .i64 4, .slice (some ⟨2, 0, none⟩) 1 1], .int .i64 0, .int .i64 0], [⟨[.int .i64 13], ⟨1, 3⟩, false⟩]⟩
theorem memo13_3_ok : MemoOk Tryz.prog 65 memo13_3 := memo_run mixed tabt_ok 200 (by kernel_rfl) (by kernel_rfl)
def memo14_3 : Memo := ⟨[.agg #[.int .i64 4, .slice (some ⟨0, 0, none⟩) 1 1], .slice (some ⟨1, 0, none⟩) 1 1, .int .i64 3], [⟨[.int .i64 14], ⟨1, 3⟩, true⟩, ⟨[.int .i64 14], ⟨1, 3⟩, true⟩], .tuple #[.agg #[.int .i64 4, .slice (some ⟨2, 0, none⟩) 1 1], .int .i64 0, .int .i64 0], [⟨[.int .i64 14], ⟨1, 3⟩, false⟩]⟩
theorem memo14_3_ok : MemoOk Tryz.prog 65 memo14_3 := memo_run mixed tabt_ok 200 (by kernel_rfl) (by kernel_rfl)
def memo15_3 : Memo := ⟨[.agg #[.int .i64 4, .slice (some ⟨0, 0, none⟩) 1 1], .slice (some ⟨1, 0, none⟩) 1 1, .int .i64 3], [⟨[.int .i64 15], ⟨1, 3⟩, true⟩, ⟨[.int .i64 15], ⟨1, 3⟩, true⟩], .tuple #[.agg #[.int .i64 0, .slice none 0 0], .int .i64 0, .int .i64 9], []⟩
theorem memo15_3_ok : MemoOk Tryz.prog 65 memo15_3 := memo_run mixed tabt_ok 200 (by kernel_rfl) (by kernel_rfl)
end Go.Proofs.Tryz
namespace Go.Proofs.Tryz
open Go Go.V
def memos : List Memo := [memo0_2, memo1_2, memo2_2, memo3_2, memo4_2, memo5_2, memo6_2, memo7_2, memo8_2, memo9_2, memo10_2, memo11_2, memo12_2, memo13_2, memo14_2, memo15_2, memo0_3, memo1_3, memo2_3, memo3_3, memo4_3, memo5_3, memo6_3, memo7_3, memo8_3, memo9_3, memo10_3, memo11_3, memo12_3, memo13_3, memo14_3, memo15_3]
theorem memos_ok : ∀ m ∈ memos, MemoOk Tryz.prog 65 m := by
 intro m hm
 simp only [memos, List.mem_cons, List.not_mem_nil, or_false] at hm
 rcases hm with rfl | rfl | rfl | rfl | rfl | rfl | rfl | rfl | rfl | rfl | rfl | rfl | rfl | rfl | rfl | rfl | rfl | rfl | rfl | rfl | rfl | rfl | rfl | rfl | rfl | rfl | rfl | rfl | rfl | rfl | rfl | rfl
 ·exact memo0_2_ok
 ·exact memo1_2_ok
 ·exact memo2_2_ok
 ·exact memo3_2_ok
 ·exact memo4_2_ok
 ·exact memo5_2_ok
 ·exact memo6_2_ok
 ·exact memo7_2_ok
 ·exact memo8_2_ok
 ·exact memo9_2_ok
 ·exact memo10_2_ok
 ·exact memo11_2_ok
 ·exact memo12_2_ok
 ·exact memo13_2_ok
 ·exact memo14_2_ok
 ·exact memo15_2_ok
 ·exact memo0_3_ok
 ·exact memo1_3_ok
 ·exact memo2_3_ok
 ·exact memo3_3_ok
 ·exact memo4_3_ok
 ·exact memo5_3_ok
 ·exact memo6_3_ok
 ·exact memo7_3_ok
 ·exact memo8_3_ok
 ·exact memo9_3_ok
 ·exact memo10_3_ok
 ·exact memo11_3_ok
 ·exact memo12_3_ok
 ·exact memo13_3_ok
 ·exact memo14_3_ok
 ·exact memo15_3_ok
noncomputable def tabL : List (Option FEnt) := [
 none,
 none,
 some (.code c2 [] 1),
 some (.code c3 [.tmp 4] 65),
 some (.code c4 [.tmp 6] 106),
 some (.code c5 [.tmp 4] 131),
 some (.code c6 [.tmp 2] 125),
 some (.code c7 [.tmp 4] 113),
 some (.code c8 [.tmp 4] 326),
 some (.code c9 [.tmp 4] 274),
 some (.code c10 [.tmp 4] 143),
 some (.code c11 [.tmp 4] 189),
 some (.code c12 [.tmp 4] 298),
 some (.code c13 [.tmp 4] 185),
 some (.code c14 [.tmp 0] 239),
 some (.code c15 [.cell 4 true 2, .tmp 5, .tmp 6] 78),
 some (.code c16 [.cell 4 true 2, .tmp 5, .tmp 6] 84),
 some (.code c17 [.tmp 4] 38),
 some (.code c18 [.tmp 6] 35),
 some (.code c19 [.cell 2 true 2] 10),
 some (.code c20 [.cell 2 true 2] 10),
 some (.code c21 [.tmp 4, .tmp 5] 43),
 some (.code c22 [.cell 6 false 1, .tmp 7] 49),
 some (.code c23 [.tmp 4] 28),
 some (.code c24 [.tmp 4] 22),
 some (.code c25 [.tmp 4] 46),
 some (.code c26 [.tmp 4] 26),
 some (.code c27 [.tmp 6] 15),
 some (.code c28 [.tmp 4] 26),
 some (.code c29 [.tmp 4] 50),
 some (.code c30 [.tmp 2] 6),
 some (.code c31 [.cell 4 true 2, .tmp 5] 33),
 some (.code c32 [.tmp 4, .tmp 5, .tmp 6, .tmp 7] 30),
 some (.code c33 [.tmp 2] 33),
 some (.code c34 [.tmp 4] 52),
 some (.code c35 [.tmp 2] 12),
 some (.code c36 [.cell 4 true 3, .tmp 5] 47),
 some (.code c37 [.cell 4 true 2] 48),
 some (.code c38 [.cell 2 true 2, .cell 3 true 2, .tmp 4] 20),
 some (.codeJ c39 [.tmp 2, .tmp 3] 30),
 some (.code c40 [.tmp 2] 35),
 some (.code c41 [.tmp 2] 12),
 some (.code c42 [.cell 2 true 2] 41),
 some (.code c43 [.tmp 4, .tmp 5, .tmp 6] 40),
 some (.code c44 [.tmp 4] 31),
 some (.code c45 [.tmp 6] 22),
 some (.code c46 [.tmp 2] 22),
 some (.code c47 [.cell 4 true 2] 8),
 some (.code c48 [.cell 2 true 2] 48),
 some (.code c49 [.cell 2 true 2] 51),
 some (.code c50 [.tmp 6] 25),
 some (.code c51 [.tmp 2] 22),
 some (.code c52 [.tmp 4] 38),
 some (.code c53 [.tmp 4] 26),
 some (.code c54 [.cell 8 true 4] 14),
 some (.code c55 [.cell 4 true 2, .tmp 5] 67),
 some (.code c56 [.cell 2 true 2, .tmp 3] 28),
 some (.code c57 [.tmp 4] 45),
 some (.code c58 [.tmp 2] 27),
 some (.code c59 [.cell 4 true 2, .tmp 5] 48),
 some (.code c60 [.tmp 2, .tmp 3] 39),
 some (.code c61 [.tmp 2, .tmp 3] 37),
 some (.code c62 [.tmp 2, .tmp 3] 40),
 some (.code c63 [.tmp 2] 35),
 some (.code c64 [.tmp 2] 55),
 some (.codeM c65 [.cell 6 true 2, .tmp 7, .tmp 8] 84 memos),
 some (.code c66 [.cell 6 false 1, .tmp 7] 42),
 some (.code c67 [.tmp 6] 11),
 some (.code c68 [.tmp 4] 48),
 some (.code c69 [.tmp 2] 32),
 some (.code c70 [.tmp 2] 50),
 some (.code c71 [.tmp 2] 28),
 some (.code c72 [.tmp 4] 22),
 some (.code c73 [] 64),
 some (.code c74 [.tmp 4] 19),
 some (.code c75 [.tmp 2] 35),
 some (.code c76 [.tmp 2] 25),
 some (.code c77 [.tmp 2] 20),
 some (.code c78 [.tmp 4] 56),
 some (.code c79 [.tmp 4] 16),
 some (.code c80 [.tmp 4, .tmp 5, .tmp 6, .tmp 7] 47),
 some (.code c81 [.cell 4 true 2] 47),
 some (.code c82 [.tmp 4] 21),
 some (.code c83 [.cell 2 true 2] 27),
 some (.code c84 [.cell 2 true 2, .tmp 3] 61),
 some (.code c85 [.tmp 2] 17),
 some (.code c86 [] 11),
 some (.code c87 [.tmp 6] 27),
 some (.code c88 [.cell 4 true 2] 59),
 some (.code c89 [.tmp 2, .cell 3 true 2] 47),
 some (.code c90 [.tmp 4] 22),
 some (.code c91 [.tmp 2] 18),
 some (.code c92 [.cell 6 true 2] 38),
 some (.code c93 [.tmp 6] 17),
 some (.code c94 [.tmp 6] 26),
 some (.code c95 [.tmp 2] 36),
 some (.code c96 [.tmp 4] 26),
 some (.code c97 [.tmp 5] 23),
 some (.code c98 [.tmp 6] 11),
 some (.code c99 [.tmp 2, .tmp 3] 102),
 some (.code c100 [.tmp 4] 21),
 some (.code c101 [.tmp 4] 9),
 some (.code c102 [.tmp 4] 13),
 some (.code c103 [.tmp 4, .tmp 5] 30),
 some (.code c104 [.tmp 2] 5),
 some (.code c105 [.tmp 4] 6),
 some (.code c106 [.tmp 4] 17),
 some (.code c107 [.tmp 2] 4),
 some (.code c108 [.tmp 6] 17),
 some (.code c109 [.tmp 2] 14),
 some (.code c110 [.tmp 3] 18),
 some (.code c111 [.tmp 6] 15),
 some (.code c112 [.tmp 4] 23),
 some (.code c113 [.tmp 2] 21),
 some (.code c114 [.tmp 4] 20),
 some (.code c115 [.tmp 2] 4),
 some (.code c116 [] 134),
 some (.code c117 [.tmp 2] 8),
 some (.code c118 [.tmp 6] 36),
 some (.code c119 [.tmp 4] 27),
 some (.code c120 [.tmp 4] 13),
 some (.code c121 [.cell 4 true 4] 20),
 some (.code c122 [.tmp 6] 29),
 some (.code c123 [.tmp 4] 81),
 some (.code c124 [.tmp 2] 4),
 some (.code c125 [.cell 6 true 4, .tmp 7] 40),
 some (.code c126 [.tmp 4] 27),
 some (.code c127 [.tmp 4] 25),
 some (.code c128 [] 37),
 some (.code c129 [] 50),
 some (.code c130 [.tmp 4] 19),
 some (.code c131 [.tmp 4, .tmp 5] 17),
 some (.code c132 [.tmp 4, .tmp 5] 51),
 some (.code c133 [.tmp 4] 13),
 some (.code c134 [] 22),
 some (.code c135 [] 20),
 some (.code c136 [.tmp 3] 13),
 some (.code c137 [.tmp 4] 43),
 some (.code c138 [.tmp 4] 9),
 some (.code c139 [] 19),
 some (.code c140 [] 49),
 some (.code c141 [] 56),
 some (.code c142 [] 65),
 some (.code c143 [.tmp 6, .tmp 7] 57),
 some (.code c144 [] 32),
 some (.code c145 [.tmp 6] 133),
 some (.code c146 [.tmp 4] 17),
 some (.code c147 [.tmp 8] 84),
 some (.code c148 [.tmp 8, .tmp 9] 168),
 some (.code c149 [.tmp 2] 19),
 some (.code c150 [.tmp 2] 25),
 some (.code c151 [.tmp 3] 20),
 some .same,
 some (.code c153 [.tmp 4] 17),
 some (.code c154 [.tmp 4] 23),
 some (.code c155 [.cell 2 true 256, .tmp 3] 21),
 some (.code c156 [.tmp 4] 16),
 some (.code c157 [.tmp 4] 22),
 some (.code c158 [.tmp 4] 23),
 some (.code c159 [.tmp 4] 34),
 some (.code c160 [.tmp 4] 19),
 some (.code c161 [] 76),
 some (.code c162 [.tmp 2] 7),
 some (.code c163 [.tmp 2] 33),
 some (.code c164 [.tmp 6] 15),
 some (.code c165 [.tmp 10] 36),
 some (.code c166 [.tmp 2] 6),
 some (.code c167 [.tmp 4] 10),
 some (.code c168 [.tmp 2, .tmp 3] 19),
 some (.code c169 [.tmp 4] 9),
 some (.code c170 [.tmp 2, .tmp 3] 51),
 some (.code c171 [.tmp 8, .tmp 9] 28),
 some (.code c172 [.tmp 2, .tmp 3] 117),
 some (.code c173 [.tmp 4] 187),
 some (.code c174 [.tmp 2] 6),
 some (.code c175 [.tmp 4] 8),
 some (.code c176 [.tmp 2] 17),
 some (.code c177 [.tmp 2] 6),
 none,
 some (.code c179 [.tmp 4] 8)]
noncomputable def tab : Tab := fun f => (tabL[f]?).join
theorem tabL_ok : EntsOk Tryz.prog 0 tabL := ⟨trivial, trivial, fun2, fun3, fun4, fun5, fun6, fun7, fun8, fun9, fun10, fun11, fun12, fun13, fun14, fun15, fun16, fun17, fun18, fun19, fun20, fun21, fun22, fun23, fun24, fun25, fun26, fun27, fun28, fun29, fun30, fun31, fun32, fun33, fun34, fun35, fun36, fun37, fun38, fun39, fun40, fun41, fun42, fun43, fun44, fun45, fun46, fun47, fun48, fun49, fun50, fun51, fun52, fun53, fun54, fun55, fun56, fun57, fun58, fun59, fun60, fun61, fun62, fun63, fun64, ⟨fun65, memos_ok⟩, fun66, fun67, fun68, fun69, fun70, fun71, fun72, fun73, fun74, fun75, fun76, fun77, fun78, fun79, fun80, fun81, fun82, fun83, fun84, fun85, fun86, fun87, fun88, fun89, fun90, fun91, fun92, fun93, fun94, fun95, fun96, fun97, fun98, fun99, fun100, fun101, fun102, fun103, fun104, fun105, fun106, fun107, fun108, fun109, fun110, fun111, fun112, fun113, fun114, fun115, fun116, fun117, fun118, fun119, fun120, fun121, fun122, fun123, fun124, fun125, fun126, fun127, fun128, fun129, fun130, fun131, fun132, fun133, fun134, fun135, fun136, fun137, fun138, fun139, fun140, fun141, fun142, fun143, fun144, fun145, fun146, fun147, fun148, fun149, fun150, fun151, same152, fun153, fun154, fun155, fun156, fun157, fun158, fun159, fun160, fun161, fun162, fun163, fun164, fun165, fun166, fun167, fun168, fun169, fun170, fun171, fun172, fun173, fun174, fun175, fun176, fun177, trivial, fun179, trivial⟩
theorem tab_ok : TabOk Tryz.prog tab := tabOk_of tabL_ok
theorem known_run : veval tab 300 boolOps [] c14 none (ET.of [] 239) CH.empty (eend false [.tmp 0] fun v _ => isTrue v) = true := by kernel_rfl
theorem known_ok {σ : Heap} {K : Value → Heap → Prop} (hK : K (.bool true) σ) : VCalled Tryz.prog 14 [] σ K := run_true mixed tab_ok 300 fun14 (by decide) known_run hK
end Go.Proofs.Tryz
set_option linter.unusedVariables false
namespace Go.Proofs.Tryz
open Go Go.V Go.Proofs
def al_law03_known : AL (Unit) := .nil
def pre_law03_known (d : Unit) : Prop := True
def res_law03_known (d : Unit) : SV := .val .bo true
def obs_law03_known (d : Unit) : List OB := []
def s_law03_known : CSp := mkSp al_law03_known pre_law03_known res_law03_known obs_law03_known
abbrev Ok_law03_known : Prop := OkC Tryz.prog 14 s_law03_known
theorem ok_law03_known : Ok_law03_known := okC_true fun _ _ h => known_ok h
end Go.Proofs.Tryz
set_option linter.unusedVariables false
namespace Go.Proofs.Tryz
open Go Go.V Go.Proofs
def al_law03_own : AL (Int × List Int) := (.one (.agg (.cons (.k (.i .i64)) (.one (.k (.list (.i .i64)))))))
def pre_law03_own (d : Int × List Int) : Prop := d.2.length ≤ 1000
def res_law03_own (d : Int × List Int) : SV := .agg [.val (.i .i64) d.1, .lst 0]
def obs_law03_own (d : Int × List Int) : List OB := [.lst 3 (.i .i64) d.2 false]
def s_law03_own : CSp := mkSp al_law03_own pre_law03_own res_law03_own obs_law03_own
def vc_law03_own (hk : Int) (lw : List Int) : Prop :=
 (((List.length ([] : List Int)) + (List.length lw)) * 8 ≤ 70368744177664) ∧ ((hk = hk ∧ True ∧ (([] : List SV) = [])) ∧ (((([] : List Int) ++ lw) = lw ∧ ((List.isEmpty lw) && false) = false) ∧ True))
def cx_law03_own : Cx := ⟨[(3, (.i .i64))], [], 10, [], 0, [], [], [], [], false, [], [], []⟩
def lp_law03_own (hk : Int) (lw : List Int) : List (Nat × LoopAnn) := []
set_option maxRecDepth 100000 in
theorem vq_law03_own (d : Int × List Int) : gwp (cx_law03_own) (lp_law03_own d.1 d.2) c19 0 (gend [.cell 2 true 2] (res_law03_own d) (obs_law03_own d)) (gstart 10 (AL.can al_law03_own d)) = vc_law03_own d.1 d.2 := by kernel_rfl
abbrev Ok_law03_own : Prop := OkC Tryz.prog 19 s_law03_own
theorem mk_law03_own (h : ∀ (hk : Int) (lw : List Int), (lw.length ≤ 1000) → vc_law03_own hk lw) : OkC Tryz.prog 19 s_law03_own :=
 okC_vc fun19 mixed (C := cx_law03_own) (V := fun (d : Int × List Int) => vc_law03_own d.1 d.2) ⟨.nil, XsOk.nil, ItsOk.nil, YlOk.nil, IysOk.nil⟩ (vq_law03_own) fun d hp => h d.1 d.2 hp
theorem ok_law03_own : Ok_law03_own := mk_law03_own fun hk lw h => by
 have h1 : lw.length * 8 ≤ 70368744177664 := by omega
 simp [vc_law03_own, h1]
def al_law03_none : AL (Int × List Int) := (.one (.agg (.cons (.k (.i .i64)) (.one (.k (.list (.i .i64)))))))
def pre_law03_none (d : Int × List Int) : Prop := True
def res_law03_none (d : Int × List Int) : SV := .val .bo (decide (d.1 = 0) && decide (d.2.length = 0))
def obs_law03_none (d : Int × List Int) : List OB := []
def s_law03_none : CSp := mkSp al_law03_none pre_law03_none res_law03_none obs_law03_none
def vc_law03_none (hk : Int) (lw : List Int) : Prop :=
 (((hk == (0 : Int)) && ((lI lw) == (0 : Int))) = (decide (hk = 0) && decide (lw.length = 0)) ∧ (True))
def cx_law03_none : Cx := ⟨[], [], 12, [], 0, [], [], [], [], false, [], [], []⟩
def lp_law03_none (hk : Int) (lw : List Int) : List (Nat × LoopAnn) := []
set_option maxRecDepth 100000 in
theorem vq_law03_none (d : Int × List Int) : gwp (cx_law03_none) (lp_law03_none d.1 d.2) c41 0 (gend [.tmp 2] (res_law03_none d) (obs_law03_none d)) (gstart 12 (AL.can al_law03_none d)) = vc_law03_none d.1 d.2 := by kernel_rfl
abbrev Ok_law03_none : Prop := OkC Tryz.prog 41 s_law03_none
theorem mk_law03_none (h : ∀ (hk : Int) (lw : List Int), (True) → vc_law03_none hk lw) : OkC Tryz.prog 41 s_law03_none :=
 okC_vc fun41 mixed (C := cx_law03_none) (V := fun (d : Int × List Int) => vc_law03_none d.1 d.2) ⟨.nil, XsOk.nil, ItsOk.nil, YlOk.nil, IysOk.nil⟩ (vq_law03_none) fun d hp => h d.1 d.2 hp
theorem ok_law03_none : Ok_law03_none := mk_law03_none fun hk lw _ => by
 unfold vc_law03_none; (try delta lI gD sT I64); simp only [and_true]
 by_cases h1 : hk = 0 <;> by_cases h2 : lw.length = 0 <;> simp [h1, h2]
end Go.Proofs.Tryz
set_option linter.unusedVariables false
namespace Go.Proofs.Tryz
open Go Go.V Go.Proofs
def al_law03_large : AL ((Int × List Int) × (Int × List Int) × List (List UInt8)) := (.cons (.agg (.cons (.k (.i .i64)) (.one (.k (.list (.i .i64)))))) (.cons (.agg (.cons (.k (.i .i64)) (.one (.k (.list (.i .i64)))))) (.one (.k (.list .st)))))
def pre_law03_large (d : (Int × List Int) × (Int × List Int) × List (List UInt8)) : Prop := d.2.2.length ≤ 1000000
def res_law03_large (d : (Int × List Int) × (Int × List Int) × List (List UInt8)) : SV := .val .bo (largeB d.1.2 d.2.1.2 d.2.2)
def obs_law03_large (d : (Int × List Int) × (Int × List Int) × List (List UInt8)) : List OB := []
def s_law03_large : CSp := mkSp al_law03_large pre_law03_large res_law03_large obs_law03_large
def vc_law03_large (hk : Int) (lw : List Int) (hd : Int) (rows : List Int) (c : List (List UInt8)) : Prop :=
 ∃ (e3 : Unit) (d30 : Int), ((c = c ∧ True ∧ True ∧ (0 : Int) = d30 ∧ True) ∧ ((hk = hk ∧ lw = lw ∧ (([] : List SV) = [])) ∧ (hd = hd ∧ rows = rows ∧ (([] : List SV) = [])) ∧ True)) ∧
 LoopP (fun (d3 : Int) (q3 : (Int) → Prop) =>
  ((decide (d3 < (lI c))) = true →
   (0 ≤ d3) ∧ (d3 < (List.length c)) ∧ ((decide ((lI (gD c d3 [])) > (110 : Int))) = true →
    (true = (largeB lw rows c) ∧ (True))) ∧
   ((decide ((lI (gD c d3 [])) > (110 : Int))) = false →
    (I64 (d3 + (1 : Int))) ∧ (∃ d4 : Int, ((c = c ∧ True ∧ True ∧ (d3 + (1 : Int)) = d4 ∧ True) ∧ ((hk = hk ∧ lw = lw ∧ (([] : List SV) = [])) ∧ (hd = hd ∧ rows = rows ∧ (([] : List SV) = [])) ∧ True)) ∧ q3 d4))) ∧
  ((decide (d3 < (lI c))) = false →
   ((((decide ((lI lw) > (110 : Int))) || (decide ((lI rows) > (70 : Int)))) || (decide ((lI c) > (70 : Int)))) = (largeB lw rows c) ∧ (True)))) d30
def cx_law03_large : Cx := ⟨[], [], 35, [], 0, [], [], [], [], false, [], [], []⟩
def lp_law03_large (hk : Int) (lw : List Int) (hd : Int) (rows : List Int) (c : List (List UInt8)) : List (Nat × LoopAnn) := [(0, ⟨Unit, Int, [2, 3, 4, 7], fun e x => [.val (.list .st) c, .box 3 0, .box 4 0, .val (.i .i64) x], fun e x => [(3, .slot 3, .cells [.val (.i .i64) hk, .val (.list (.i .i64)) lw] (some 26)), (4, .slot 4, .cells [.val (.i .i64) hd, .val (.list (.i .i64)) rows] (some 36))]⟩)]
set_option maxRecDepth 100000 in
theorem vq_law03_large (d : (Int × List Int) × (Int × List Int) × List (List UInt8)) : gwp (cx_law03_large) (lp_law03_large d.1.1 d.1.2 d.2.1.1 d.2.1.2 d.2.2) c18 0 (gend [.tmp 6] (res_law03_large d) (obs_law03_large d)) (gstart 35 (AL.can al_law03_large d)) = vc_law03_large d.1.1 d.1.2 d.2.1.1 d.2.1.2 d.2.2 := by kernel_rfl
abbrev Ok_law03_large : Prop := OkC Tryz.prog 18 s_law03_large
theorem mk_law03_large (h : ∀ (hk : Int) (lw : List Int) (hd : Int) (rows : List Int) (c : List (List UInt8)), (c.length ≤ 1000000) → vc_law03_large hk lw hd rows c) : OkC Tryz.prog 18 s_law03_large :=
 okC_vc fun18 mixed (C := cx_law03_large) (V := fun (d : (Int × List Int) × (Int × List Int) × List (List UInt8)) => vc_law03_large d.1.1 d.1.2 d.2.1.1 d.2.1.2 d.2.2) ⟨.nil, XsOk.nil, ItsOk.nil, YlOk.nil, IysOk.nil⟩ (vq_law03_large) fun d hp => h d.1.1 d.1.2 d.2.1.1 d.2.1.2 d.2.2 hp
theorem ok_law03_large : Ok_law03_large := mk_law03_large fun hk lw hd rows c hc => by
 unfold vc_law03_large
 refine ⟨(), 0, by simp, ?_⟩
 refine LoopP.count c.length (fun k => ∀ j, j < k → (c.getD j []).length ≤ 110) (fun _ h => by omega) fun k hk hJ q hq => ?_
 refine ⟨fun hlt => ?_, fun hge => ⟨?_, trivial⟩⟩
 ·have hlt : k < c.length := by simpa [lI] using hlt
  refine ⟨by omega, by omega, fun hne => ⟨?_, trivial⟩, fun he => ⟨?_, (k : Int) + 1, by simp, hq hlt fun j hj => ?_⟩⟩
  ·have h0 : (110 : Int) < (((c.getD k []).length : Nat) : Int) := by simpa [lI, gD] using hne
   have h1 : 110 < (c.getD k []).length := by omega
   rw [getD_nat hlt] at h1
   have : c.any (fun s => decide (110 < s.length)) = true := List.any_eq_true.2 ⟨c[k], List.getElem_mem hlt, by simpa using h1⟩
   simp [largeB, this]
  ·simp only [InK_i64]; omega
  ·rcases Nat.lt_succ_iff_lt_or_eq.1 hj with hj | rfl
   ·exact hJ j hj
   ·have : ¬ (110 : Int) < (((c.getD j []).length : Nat) : Int) := by simpa [lI, gD] using he
    omega
 ·have hge : c.length ≤ k := by simpa [lI] using hge
  have : c.any (fun s => decide (110 < s.length)) = false := by
   rw [List.any_eq_false]
   intro s hs
   obtain ⟨j, hj, rfl⟩ := List.getElem_of_mem hs
   have := hJ j (by omega)
   rw [getD_nat hj] at this
   simp; omega
  simp only [largeB, this, Bool.false_or, lI]
  congr 1
  ·congr 1
   ·simp only [decide_eq_decide]; omega
   ·simp only [decide_eq_decide]; omega
  ·simp only [decide_eq_decide]; omega
def al_slices_Equal_int_int : AL (List Int × List Int) := (.cons (.k (.list (.i .i64))) (.one (.k (.list (.i .i64)))))
def pre_slices_Equal_int_int (d : List Int × List Int) : Prop := d.1.length ≤ 1000000
def res_slices_Equal_int_int (d : List Int × List Int) : SV := .val .bo (d.1 == d.2)
def obs_slices_Equal_int_int (d : List Int × List Int) : List OB := []
def s_slices_Equal_int_int : CSp := mkSp al_slices_Equal_int_int pre_slices_Equal_int_int res_slices_Equal_int_int obs_slices_Equal_int_int
def vc_slices_Equal_int_int (a : List Int) (b : List Int) : Prop :=
 (((lI a) != (lI b)) = true →
  (false = (a == b) ∧ (True))) ∧
 (((lI a) != (lI b)) = false →
  ∃ (e2 : Unit) (d20 : Int), ((a = a ∧ b = b ∧ (lI a) = (lI a) ∧ (0 : Int) = d20 ∧ True) ∧ (True)) ∧
  LoopP (fun (d2 : Int) (q2 : (Int) → Prop) =>
   ((decide (d2 < (lI a))) = true →
    (0 ≤ d2) ∧ (d2 < (List.length a)) ∧ (0 ≤ d2) ∧ (d2 < (List.length b)) ∧ (((gD a d2 0) != (gD b d2 0)) = true →
     (false = (a == b) ∧ (True))) ∧
    (((gD a d2 0) != (gD b d2 0)) = false →
     (I64 (d2 + (1 : Int))) ∧ (∃ d3 : Int, ((a = a ∧ b = b ∧ (lI a) = (lI a) ∧ (d2 + (1 : Int)) = d3 ∧ True) ∧ (True)) ∧ q2 d3))) ∧
   ((decide (d2 < (lI a))) = false →
    (true = (a == b) ∧ (True)))) d20)
def cx_slices_Equal_int_int : Cx := ⟨[], [], 26, [], 0, [], [], [], [], false, [], [], []⟩
def lp_slices_Equal_int_int (a : List Int) (b : List Int) : List (Nat × LoopAnn) := [(0, ⟨Unit, Int, [0, 1, 12, 13], fun e x => [.val (.list (.i .i64)) a, .val (.list (.i .i64)) b, .val (.i .i64) (((List.length a) : Nat) : Int), .val (.i .i64) x], fun e x => []⟩)]
set_option maxRecDepth 100000 in
theorem vq_slices_Equal_int_int (d : List Int × List Int) : gwp (cx_slices_Equal_int_int) (lp_slices_Equal_int_int d.1 d.2) c96 0 (gend [.tmp 4] (res_slices_Equal_int_int d) (obs_slices_Equal_int_int d)) (gstart 26 (AL.can al_slices_Equal_int_int d)) = vc_slices_Equal_int_int d.1 d.2 := by kernel_rfl
abbrev Ok_slices_Equal_int_int : Prop := OkC Tryz.prog 96 s_slices_Equal_int_int
theorem mk_slices_Equal_int_int (h : ∀ (a : List Int) (b : List Int), (a.length ≤ 1000000) → vc_slices_Equal_int_int a b) : OkC Tryz.prog 96 s_slices_Equal_int_int :=
 okC_vc fun96 mixed (C := cx_slices_Equal_int_int) (V := fun (d : List Int × List Int) => vc_slices_Equal_int_int d.1 d.2) ⟨.nil, XsOk.nil, ItsOk.nil, YlOk.nil, IysOk.nil⟩ (vq_slices_Equal_int_int) fun d hp => h d.1 d.2 hp
theorem ok_slices_Equal_int_int : Ok_slices_Equal_int_int := mk_slices_Equal_int_int fun a b h => by
 unfold vc_slices_Equal_int_int
 have hbe : ∀ {x y : List Int}, x ≠ y → (x == y) = false := fun h => by simpa using h
 refine ⟨fun hl => ⟨?_, trivial⟩, fun hl => ⟨(), 0, by simp, ?_⟩⟩
 ·rw [hbe]; rintro rfl; simp at hl
 ·have hl : a.length = b.length := by
   have : ((a.length : Int)) = b.length := by simpa [lI] using hl
   omega
  refine LoopP.count a.length (fun k => ∀ j, j < k → a.getD j 0 = b.getD j 0) (fun _ h => by omega) fun k hk hJ q hq => ?_
  refine ⟨fun hlt => ?_, fun hge => ⟨?_, trivial⟩⟩
  ·have hlt : k < a.length := by simpa [lI] using hlt
   refine ⟨by omega, by omega, by omega, by omega, fun hne => ⟨?_, trivial⟩, fun he => ⟨?_, (k : Int) + 1, by simp, hq hlt fun j hj => ?_⟩⟩
   ·rw [hbe]; rintro rfl; simp at hne
   ·simp only [InK_i64]; omega
   ·rcases Nat.lt_succ_iff_lt_or_eq.1 hj with hj | rfl
    ·exact hJ j hj
    ·simpa [gD] using he
  ·have hge : a.length ≤ k := by simpa [lI] using hge
   symm
   simp only [beq_iff_eq]
   refine List.ext_getElem hl fun j h1 h2 => ?_
   have := hJ j (by omega)
   rwa [getD_nat h1, getD_nat h2] at this
end Go.Proofs.Tryz
set_option linter.unusedVariables false
namespace Go.Proofs.Tryz
open Go Go.V Go.Proofs
def al_ref03_Repeat : AL (List Int) := (.one (.k (.list (.i .i64))))
def pre_ref03_Repeat (d : List Int) : Prop := d ≠ [] ∧ d.length ≤ 1000
def res_ref03_Repeat (d : List Int) : SV := .val (.i .i64) (repN d)
def obs_ref03_Repeat (d : List Int) : List OB := []
def s_ref03_Repeat : CSp := mkSp al_ref03_Repeat pre_ref03_Repeat res_ref03_Repeat obs_ref03_Repeat
def vc_ref03_Repeat (l : List Int) : Prop :=
 ∃ (e2 : Unit) (d20 : Int), ((l = l ∧ (1 : Int) = d20 ∧ True) ∧ (True)) ∧
 LoopP (fun (d2 : Int) (q2 : (Int) → Prop) =>
  (d2 ≠ 0) ∧ (((Int.tmod (lI l) d2) != (0 : Int)) = true →
   (I64 (d2 + (1 : Int))) ∧ (∃ d3 : Int, ((l = l ∧ (d2 + (1 : Int)) = d3 ∧ True) ∧ (True)) ∧ q2 d3)) ∧
  (((Int.tmod (lI l) d2) != (0 : Int)) = false →
   ∃ (e5 : Int) (d50 : Bool × Int), ((l = l ∧ d2 = e5 ∧ true = d50.1 ∧ (0 : Int) = d50.2 ∧ True) ∧ (True)) ∧
   LoopP (fun (d5 : Bool × Int) (q5 : (Bool × Int) → Prop) =>
    ((decide (d5.2 < (lI l))) = true →
     (d5.1 = true → 0 ≤ d5.2) ∧ (d5.1 = true → d5.2 < (List.length l)) ∧ (d5.1 = true → e5 ≠ 0) ∧ (d5.1 = true → 0 ≤ (Int.tmod d5.2 e5)) ∧ (d5.1 = true → (Int.tmod d5.2 e5) < (List.length l)) ∧ (I64 (d5.2 + (1 : Int))) ∧ (∃ d6 : Bool × Int, ((l = l ∧ e5 = e5 ∧ (d5.1 && ((gD l d5.2 0) == (gD l (Int.tmod d5.2 e5) 0))) = d6.1 ∧ (d5.2 + (1 : Int)) = d6.2 ∧ True) ∧ (True)) ∧ q5 d6)) ∧
    ((decide (d5.2 < (lI l))) = false →
     (d5.1 = true →
      (e5 = (repN l) ∧ (True))) ∧
     (d5.1 = false →
      (I64 (e5 + (1 : Int))) ∧ (∃ d7 : Int, ((l = l ∧ (e5 + (1 : Int)) = d7 ∧ True) ∧ (True)) ∧ q2 d7)))) d50)) d20
def cx_ref03_Repeat : Cx := ⟨[], [], 35, [], 0, [], [], [], [], false, [], [], []⟩
def lp_ref03_Repeat (l : List Int) : List (Nat × LoopAnn) := [(0, ⟨Unit, Int, [0, 3], fun e x => [.val (.list (.i .i64)) l, .val (.i .i64) x], fun e x => []⟩),
 (2, ⟨Int, Bool × Int, [0, 3, 4, 5], fun e x => [.val (.list (.i .i64)) l, .val (.i .i64) e, .val .bo x.1, .val (.i .i64) x.2], fun e x => []⟩)]
set_option maxRecDepth 100000 in
theorem vq_ref03_Repeat (d : List Int) : gwp (cx_ref03_Repeat) (lp_ref03_Repeat d) c63 0 (gend [.tmp 2] (res_ref03_Repeat d) (obs_ref03_Repeat d)) (gstart 35 (AL.can al_ref03_Repeat d)) = vc_ref03_Repeat d := by kernel_rfl
abbrev Ok_ref03_Repeat : Prop := OkC Tryz.prog 63 s_ref03_Repeat
theorem mk_ref03_Repeat (h : ∀ (l : List Int), (l ≠ [] ∧ l.length ≤ 1000) → vc_ref03_Repeat l) : OkC Tryz.prog 63 s_ref03_Repeat :=
 okC_vc fun63 mixed (C := cx_ref03_Repeat) (V := fun (d : List Int) => vc_ref03_Repeat d) ⟨.nil, XsOk.nil, ItsOk.nil, YlOk.nil, IysOk.nil⟩ (vq_ref03_Repeat) fun d hp => h d hp
theorem tmodN (a b : Nat) : Int.tmod (a : Int) (b : Int) = ((a % b : Nat) : Int) := rfl
theorem repN_eq {l : List Int} {b : Nat} (h0 : 0 < b) (hb : b ≤ l.length) (hp : b < l.length → repP l b = true) (hn : ∀ j, 0 < j → j < b → repP l j = false) : repN l = b := by
 unfold repN
 rcases Nat.lt_or_ge b l.length with h | h
 ·have : (List.range l.length).find? (repP l) = some b := List.find?_range_eq_some.2 ⟨hp h, by simpa using h, fun j hj => by
   rcases Nat.eq_zero_or_pos j with rfl | h1
   ·simp [repP]
   ·rw [hn j h1 hj]; rfl⟩
  rw [this]
 ·have : (List.range l.length).find? (repP l) = none := List.find?_range_eq_none.2 fun j hj => by
   rcases Nat.eq_zero_or_pos j with rfl | h1
   ·simp [repP]
   ·rw [hn j h1 (by omega)]; rfl
  rw [this]; dsimp only; omega
theorem repP_eq {l : List Int} {b : Nat} (hb : 0 < b) : repP l b = (decide (l.length % b = 0) && (l.drop b == l.take (l.length - b))) := by simp [repP, hb]
theorem ok_ref03_Repeat : Ok_ref03_Repeat := mk_ref03_Repeat fun l h => by
 obtain ⟨hne, hl⟩ := h
 have hpos : 0 < l.length := List.length_pos_iff.2 hne
 unfold vc_ref03_Repeat; delta lI gD
 refine ⟨(), ((1 : Nat) : Int), (by and_intros <;> first | rfl | trivial | simp), ?_⟩
 refine LoopP.countFrom 1 l.length (fun k => ∀ j, 0 < j → j < k → repP l j = false) hpos (fun j h1 h2 => by omega) fun k hk1 hk2 hJ q hq => ?_
 simp only [tmodN, true_and, and_true, exists_eq_left', decide_eq_true_eq, decide_eq_false_iff_not, bne_iff_ne, ne_eq, bne_eq_false_iff_eq, InK_i64]
 refine ⟨by omega, fun hm => ⟨by omega, ?_⟩, fun hm => ?_⟩
 ·have hm : ¬ l.length % k = 0 := by omega
  have hlt : k < l.length := by
   rcases Nat.lt_or_ge k l.length with h | h
   ·exact h
   ·have : k = l.length := by omega
    subst this; simp at hm
  refine hq hlt fun j h1 h2 => ?_
  rcases Nat.lt_succ_iff_lt_or_eq.1 h2 with h2 | rfl
  ·exact hJ j h1 h2
  ·simp [repP, hm]
 ·have hm : l.length % k = 0 := by omega
  refine ⟨((k : Nat) : Int), (true, 0), (by and_intros <;> first | rfl | trivial | simp), ?_⟩
  refine LoopP.count2 l.length (fun i b => b = true ↔ ∀ j, j < i → l.getD j 0 = l.getD (j % k) 0) (by simp) fun i b hi hI q2 hq2 => ?_
  have hik : i % k ≤ i := Nat.mod_le _ _
  dsimp only
  (try simp only [tmodN, Int.toNat_natCast, Int.ofNat_lt])
  refine ⟨fun hlt => ?_, fun hge => ⟨fun hb => ?_, fun hb => ⟨by omega, ?_⟩⟩⟩
  ·refine ⟨fun _ => by omega, fun _ => by omega, fun _ => by omega, fun _ => by omega, fun _ => by omega, by omega, (b && (l.getD i 0 == l.getD (i % k) 0), (i : Int) + 1), (by and_intros <;> first | rfl | trivial | simp), hq2 _ (by omega) ?_⟩
   simp only [Bool.and_eq_true, beq_iff_eq, hI]
   constructor
   ·rintro ⟨h1, h2⟩ j hj
    rcases Nat.lt_succ_iff_lt_or_eq.1 hj with hj | rfl
    ·exact h1 j hj
    ·exact h2
   ·exact fun h => ⟨fun j hj => h j (by omega), h i (by omega)⟩
  ·have hall := hI.1 hb
   have : i = l.length := by omega
   subst this
   refine (repN_eq (by omega) hk2 (fun hlt => ?_) hJ).symm
   rw [repP_eq (by omega)]
   simp only [hm, decide_true, Bool.true_and, beq_iff_eq]
   exact (rep_iff (by omega) hm).2 hall
  ·have hnot : ¬ ∀ j, j < l.length → l.getD j 0 = l.getD (j % k) 0 := fun h => by
    have : i = l.length := by omega
    subst this
    rw [hI.2 h] at hb; cases hb
   have hlt : k < l.length := by
    rcases Nat.lt_or_ge k l.length with h | h
    ·exact h
    ·have : k = l.length := by omega
     subst this
     exact (hnot fun j hj => by rw [Nat.mod_eq_of_lt hj]).elim
   refine hq hlt fun j h1 h2 => ?_
   rcases Nat.lt_succ_iff_lt_or_eq.1 h2 with h2 | rfl
   ·exact hJ j h1 h2
   ·rw [repP_eq h1]
    simp only [hm, decide_true, Bool.true_and, beq_eq_false_iff_ne]
    exact fun h => hnot ((rep_iff h1 hm).1 h)
def al_ref03_Mirrors : AL (List Int) := (.one (.k (.list (.i .i64))))
def pre_ref03_Mirrors (d : List Int) : Prop := d.length ≤ 1000
def res_ref03_Mirrors (d : List Int) : SV := .tup [.val (.i .i64) (mirI d), .val .bo ((mirN d).isSome)]
def obs_ref03_Mirrors (d : List Int) : List OB := []
def s_ref03_Mirrors : CSp := mkSp al_ref03_Mirrors pre_ref03_Mirrors res_ref03_Mirrors obs_ref03_Mirrors
def vc_ref03_Mirrors (l : List Int) : Prop :=
 ∃ (e2 : Unit) (d20 : Int), ((l = l ∧ (lI l) = (lI l) ∧ (0 : Int) = d20 ∧ True) ∧ (True)) ∧
 LoopP (fun (d2 : Int) (q2 : (Int) → Prop) =>
  ((decide (d2 < (lI l))) = true →
   ∃ (e4 : Int) (d40 : Bool × Int), ((l = l ∧ (lI l) = (lI l) ∧ d2 = e4 ∧ true = d40.1 ∧ (0 : Int) = d40.2 ∧ True) ∧ (True)) ∧
   LoopP (fun (d4 : Bool × Int) (q4 : (Bool × Int) → Prop) =>
    ((decide (d4.2 < (lI l))) = true →
     (d4.1 = true → 0 ≤ d4.2) ∧ (d4.1 = true → d4.2 < (List.length l)) ∧ (d4.1 = true → InK .i64 (e4 + (lI l))) ∧ (d4.1 = true → InK .i64 ((e4 + (lI l)) - d4.2)) ∧ (d4.1 = true → (lI l) ≠ 0) ∧ (d4.1 = true → 0 ≤ (Int.tmod ((e4 + (lI l)) - d4.2) (lI l))) ∧ (d4.1 = true → (Int.tmod ((e4 + (lI l)) - d4.2) (lI l)) < (List.length l)) ∧ (I64 (d4.2 + (1 : Int))) ∧ (∃ d5 : Bool × Int, ((l = l ∧ (lI l) = (lI l) ∧ e4 = e4 ∧ (d4.1 && ((gD l d4.2 0) == (gD l (Int.tmod ((e4 + (lI l)) - d4.2) (lI l)) 0))) = d5.1 ∧ (d4.2 + (1 : Int)) = d5.2 ∧ True) ∧ (True)) ∧ q4 d5)) ∧
    ((decide (d4.2 < (lI l))) = false →
     (d4.1 = true →
      ((e4 = (mirI l) ∧ true = ((mirN l).isSome) ∧ (([] : List SV) = [])) ∧ (True))) ∧
     (d4.1 = false →
      (I64 (e4 + (1 : Int))) ∧ (∃ d6 : Int, ((l = l ∧ (lI l) = (lI l) ∧ (e4 + (1 : Int)) = d6 ∧ True) ∧ (True)) ∧ q2 d6)))) d40) ∧
  ((decide (d2 < (lI l))) = false →
   (((0 : Int) = (mirI l) ∧ false = ((mirN l).isSome) ∧ (([] : List SV) = [])) ∧ (True)))) d20
def cx_ref03_Mirrors : Cx := ⟨[], [], 40, [], 0, [], [], [], [], false, [], [], []⟩
def lp_ref03_Mirrors (l : List Int) : List (Nat × LoopAnn) := [(0, ⟨Unit, Int, [0, 4, 5], fun e x => [.val (.list (.i .i64)) l, .val (.i .i64) (((List.length l) : Nat) : Int), .val (.i .i64) x], fun e x => []⟩),
 (2, ⟨Int, Bool × Int, [0, 4, 5, 6, 7], fun e x => [.val (.list (.i .i64)) l, .val (.i .i64) (((List.length l) : Nat) : Int), .val (.i .i64) e, .val .bo x.1, .val (.i .i64) x.2], fun e x => []⟩)]
set_option maxRecDepth 100000 in
theorem vq_ref03_Mirrors (d : List Int) : gwp (cx_ref03_Mirrors) (lp_ref03_Mirrors d) c62 0 (gend [.tmp 2, .tmp 3] (res_ref03_Mirrors d) (obs_ref03_Mirrors d)) (gstart 40 (AL.can al_ref03_Mirrors d)) = vc_ref03_Mirrors d := by kernel_rfl
abbrev Ok_ref03_Mirrors : Prop := OkC Tryz.prog 62 s_ref03_Mirrors
theorem mk_ref03_Mirrors (h : ∀ (l : List Int), (l.length ≤ 1000) → vc_ref03_Mirrors l) : OkC Tryz.prog 62 s_ref03_Mirrors :=
 okC_vc fun62 mixed (C := cx_ref03_Mirrors) (V := fun (d : List Int) => vc_ref03_Mirrors d) ⟨.nil, XsOk.nil, ItsOk.nil, YlOk.nil, IysOk.nil⟩ (vq_ref03_Mirrors) fun d hp => h d hp
theorem mirP_iff {l : List Int} {s : Nat} : mirP l s = true ↔ ∀ i, i < l.length → l.getD i 0 = l.getD ((s + l.length - i) % l.length) 0 := by
 simp only [mirP, List.all_eq_true, List.mem_range, beq_iff_eq]
theorem mirN_some {l : List Int} {s : Nat} (hs : s < l.length) (hp : mirP l s = true) (hn : ∀ j, j < s → mirP l j = false) : mirN l = some s :=
 List.find?_range_eq_some.2 ⟨hp, by simpa using hs, fun j hj => by rw [hn j hj]; rfl⟩
theorem mirN_none {l : List Int} (hn : ∀ j, j < l.length → mirP l j = false) : mirN l = none :=
 List.find?_range_eq_none.2 fun j hj => by rw [hn j hj]; rfl
theorem ok_ref03_Mirrors : Ok_ref03_Mirrors := mk_ref03_Mirrors fun l hl => by
 unfold vc_ref03_Mirrors; delta lI gD
 refine ⟨(), 0, (by and_intros <;> first | rfl | trivial | simp), ?_⟩
 refine LoopP.count l.length (fun k => ∀ j, j < k → mirP l j = false) (fun j h => by omega) fun s hs hJ q hq => ?_
 simp only [true_and, and_true, exists_eq_left', decide_eq_true_eq, decide_eq_false_iff_not, ne_eq, Int.ofNat_lt, InK_i64]
 refine ⟨fun hlt => ?_, fun hge => ?_⟩
 ·refine ⟨((s : Nat) : Int), (true, 0), (by and_intros <;> first | rfl | trivial | simp), ?_⟩
  refine LoopP.count2 l.length (fun i b => b = true ↔ ∀ j, j < i → l.getD j 0 = l.getD ((s + l.length - j) % l.length) 0) (by simp) fun i b hi hI q2 hq2 => ?_
  dsimp only
  have e1 : (s : Int) + (l.length : Int) - (i : Int) = ((s + l.length - i : Nat) : Int) := by omega
  (try simp only [e1, tmodN, Int.toNat_natCast, Int.ofNat_lt])
  refine ⟨fun hlt2 => ?_, fun hge => ⟨fun hb => ?_, fun hb => ⟨by omega, ?_⟩⟩⟩
  ·have h1 : (s + l.length - i) % l.length < l.length := Nat.mod_lt _ (by omega)
   refine ⟨fun _ => by omega, fun _ => by omega, fun _ => by omega, fun _ => by omega, fun _ => by omega, fun _ => by omega, fun _ => by omega, by omega, (b && (l.getD i 0 == l.getD ((s + l.length - i) % l.length) 0), (i : Int) + 1), (by and_intros <;> first | rfl | trivial | simp), hq2 _ (by omega) ?_⟩
   simp only [Bool.and_eq_true, beq_iff_eq, hI]
   constructor
   ·rintro ⟨h1, h2⟩ j hj
    rcases Nat.lt_succ_iff_lt_or_eq.1 hj with hj | rfl
    ·exact h1 j hj
    ·exact h2
   ·exact fun h => ⟨fun j hj => h j (by omega), h i (by omega)⟩
  ·have : i = l.length := by omega
   subst this
   have := mirN_some hlt (mirP_iff.2 (hI.1 hb)) hJ
   simp [mirI, this]
  ·refine hq hlt fun j hj => ?_
   rcases Nat.lt_succ_iff_lt_or_eq.1 hj with hj | rfl
   ·exact hJ j hj
   ·have : i = l.length := by omega
    subst this
    rw [Bool.eq_false_iff]
    intro h
    rw [hI.2 (mirP_iff.1 h)] at hb; cases hb
 ·have : s = l.length := by omega
  subst this
  simp [mirI, mirN_none hJ]
def al_tie_Repeat : AL (Int × List Int) := (.one (.agg (.cons (.k (.i .i64)) (.one (.k (.list (.i .i64)))))))
def pre_tie_Repeat (d : Int × List Int) : Prop := d.2.length ≤ 1000
def res_tie_Repeat (d : Int × List Int) : SV := .tup [.val (.i .i64) (if tieErr d.1 d.2 = 0 then repN d.2 else 0), .val (.i .i64) (tieErr d.1 d.2)]
def obs_tie_Repeat (d : Int × List Int) : List OB := []
def s_tie_Repeat : CSp := mkSp al_tie_Repeat pre_tie_Repeat res_tie_Repeat obs_tie_Repeat
def vc_tie_Repeat (hk : Int) (lw : List Int) : Prop :=
 (lw.length ≤ 1000000) ∧ (((tieErr hk lw) != (0 : Int)) = true →
  (((0 : Int) = (if tieErr hk lw = 0 then repN lw else 0) ∧ (tieErr hk lw) = (tieErr hk lw) ∧ (([] : List SV) = [])) ∧ (True))) ∧
 (((tieErr hk lw) != (0 : Int)) = false →
  ∃ (e3 : Unit) (d30 : Int), ((True ∧ (lI lw) = (lI lw) ∧ (1 : Int) = d30 ∧ True) ∧ ((hk = hk ∧ lw = lw ∧ (([] : List SV) = [])) ∧ True)) ∧
  LoopP (fun (d3 : Int) (q3 : (Int) → Prop) =>
   ((decide (d3 < (lI lw))) = true →
    (d3 ≠ 0) ∧ (((Int.tmod (lI lw) d3) == (0 : Int)) = true → 0 ≤ d3) ∧ (((Int.tmod (lI lw) d3) == (0 : Int)) = true → d3 ≤ (lI lw)) ∧ (((Int.tmod (lI lw) d3) == (0 : Int)) = true → (lI lw) ≤ (List.length lw)) ∧ (((Int.tmod (lI lw) d3) == (0 : Int)) = true → InK .i64 ((lI lw) - d3)) ∧ (((Int.tmod (lI lw) d3) == (0 : Int)) = true → 0 ≤ (0 : Int)) ∧ (((Int.tmod (lI lw) d3) == (0 : Int)) = true → (0 : Int) ≤ ((lI lw) - d3)) ∧ (((Int.tmod (lI lw) d3) == (0 : Int)) = true → ((lI lw) - d3) ≤ (List.length lw)) ∧ (((Int.tmod (lI lw) d3) == (0 : Int)) = true → (List.take (Int.toNat ((lI lw) - d3)) (List.drop (Int.toNat d3) lw)).length ≤ 1000000) ∧ ((((Int.tmod (lI lw) d3) == (0 : Int)) && ((List.take (Int.toNat ((lI lw) - d3)) (List.drop (Int.toNat d3) lw)) == (List.take (Int.toNat (((lI lw) - d3) - (0 : Int))) (List.drop (Int.toNat (0 : Int)) lw)))) = true →
     ((d3 = (if tieErr hk lw = 0 then repN lw else 0) ∧ (0 : Int) = (tieErr hk lw) ∧ (([] : List SV) = [])) ∧ (True))) ∧
    ((((Int.tmod (lI lw) d3) == (0 : Int)) && ((List.take (Int.toNat ((lI lw) - d3)) (List.drop (Int.toNat d3) lw)) == (List.take (Int.toNat (((lI lw) - d3) - (0 : Int))) (List.drop (Int.toNat (0 : Int)) lw)))) = false →
     (I64 (d3 + (1 : Int))) ∧ (∃ d4 : Int, ((True ∧ (lI lw) = (lI lw) ∧ (d3 + (1 : Int)) = d4 ∧ True) ∧ ((hk = hk ∧ lw = lw ∧ (([] : List SV) = [])) ∧ True)) ∧ q3 d4))) ∧
   ((decide (d3 < (lI lw))) = false →
    (((lI lw) = (if tieErr hk lw = 0 then repN lw else 0) ∧ (0 : Int) = (tieErr hk lw) ∧ (([] : List SV) = [])) ∧ (True)))) d30)
def cx_tie_Repeat : Cx := ⟨[], [(58, s_tie_Check), (96, s_slices_Equal_int_int)], 39, [], 0, [], [], [], [], false, [], [], []⟩
def lp_tie_Repeat (hk : Int) (lw : List Int) : List (Nat × LoopAnn) := [(0, ⟨Unit, Int, [1, 5, 6], fun e x => [.box 1 0, .val (.i .i64) (((List.length lw) : Nat) : Int), .val (.i .i64) x], fun e x => [(1, .slot 1, .cells [.val (.i .i64) hk, .val (.list (.i .i64)) lw] (some 26))]⟩)]
set_option maxRecDepth 100000 in
theorem vq_tie_Repeat (d : Int × List Int) : gwp (cx_tie_Repeat) (lp_tie_Repeat d.1 d.2) c60 0 (gend [.tmp 2, .tmp 3] (res_tie_Repeat d) (obs_tie_Repeat d)) (gstart 39 (AL.can al_tie_Repeat d)) = vc_tie_Repeat d.1 d.2 := by kernel_rfl
abbrev Ok_tie_Repeat : Prop := OkC Tryz.prog 60 s_tie_Repeat
theorem mk_tie_Repeat (h : ∀ (hk : Int) (lw : List Int), (lw.length ≤ 1000) → vc_tie_Repeat hk lw) : OkC Tryz.prog 60 s_tie_Repeat :=
 okC_vc fun60 mixed (C := cx_tie_Repeat) (V := fun (d : Int × List Int) => vc_tie_Repeat d.1 d.2) ⟨(.cons ok_tie_Check (.cons ok_slices_Equal_int_int .nil)), XsOk.nil, ItsOk.nil, YlOk.nil, IysOk.nil⟩ (vq_tie_Repeat) fun d hp => h d.1 d.2 hp
theorem ok_tie_Repeat : Ok_tie_Repeat := mk_tie_Repeat fun hk lw hl => by
 unfold vc_tie_Repeat; delta lI gD
 simp only [true_and, and_true, exists_eq_left', exists_const, decide_eq_true_eq, decide_eq_false_iff_not, beq_iff_eq, bne_iff_ne, ne_eq, bne_eq_false_iff_eq, InK_i64]
 refine ⟨by omega, fun he => by simp [he], fun he => ?_⟩
 obtain ⟨t1, t2, t3, t4, t5⟩ := tieErr_zero he
 simp only [he, if_true]
 show LoopP _ ((1 : Nat) : Int)
 refine LoopP.countFrom 1 lw.length (fun k => ∀ j, 0 < j → j < k → repP lw j = false) (by omega) (fun j h1 h2 => by omega) fun k hk1 hk2 hJ q hq => ?_
 have e1 : ((lw.length : Int) - (k : Int)).toNat = lw.length - k := by omega
 have e2 : ((lw.length : Int) - (k : Int) - 0).toNat = lw.length - k := by omega
 have e3 : List.take (lw.length - k) (List.drop k lw) = List.drop k lw := List.take_of_length_le (by simp)
 simp only [and_true, Int.toNat_natCast, Int.ofNat_lt, tmodN, e1, e2, e3, Int.toNat_zero, List.drop_zero]
 have hr : ((((lw.length % k : Nat) : Int) == 0) && (List.drop k lw == List.take (lw.length - k) lw)) = repP lw k := by
  rw [repP_eq (by omega)]
  congr 1
  by_cases h : lw.length % k = 0 <;> simp [h] <;> omega
 simp only [hr]
 refine ⟨fun hlt => ?_, fun hge => ?_⟩
 ·refine ⟨by omega, fun _ => by omega, fun _ => by omega, fun _ => by omega, fun _ => by omega, fun _ => by omega, fun _ => by omega, fun _ => by omega, fun _ => by simp; omega, fun hr => ?_, fun hr => ⟨by omega, hq (by omega) fun j h1 h2 => ?_⟩⟩
  ·exact (repN_eq (by omega) hk2 (fun _ => hr) hJ).symm
  ·rcases Nat.lt_succ_iff_lt_or_eq.1 h2 with h2 | rfl
   ·exact hJ j h1 h2
   ·exact hr
 ·have : k = lw.length := by omega
  subst this
  exact (repN_eq (by omega) (Nat.le_refl _) (fun h => by omega) hJ).symm
def al_slices_Grow_int_int : AL (Unit × Int) := (.cons .nilS (.one (.k (.i .i64))))
def pre_slices_Grow_int_int (d : Unit × Int) : Prop := 0 ≤ d.2 ∧ d.2 ≤ 1000000
def res_slices_Grow_int_int (d : Unit × Int) : SV := .lst 0
def obs_slices_Grow_int_int (d : Unit × Int) : List OB := [.lst 3 (.i .i64) ([] : List Int) (decide (d.2 = 0))]
def s_slices_Grow_int_int : CSp := mkSp al_slices_Grow_int_int pre_slices_Grow_int_int res_slices_Grow_int_int obs_slices_Grow_int_int
abbrev Ok_slices_Grow_int_int : Prop := OkC Tryz.prog 119 s_slices_Grow_int_int
theorem ok_slices_Grow_int_int : Ok_slices_Grow_int_int := okC_growK (k := .i .i64) Tryz.laysGrow fun119.enterable rfl rfl (.int .i64 0) 8 (by kernel_rfl) (by decide) rfl fun _ h => h
def al_slices_Concat_int_int : AL (List (List Int)) := (.one (.k (.list (.list (.i .i64)))))
def pre_slices_Concat_int_int (d : List (List Int)) : Prop := d.length ≤ 10 ∧ ∀ x ∈ d, x.length ≤ 1000
def res_slices_Concat_int_int (d : List (List Int)) : SV := .lst 0
def obs_slices_Concat_int_int (d : List (List Int)) : List OB := [.lst 3 (.i .i64) d.flatten ((d.flatten).isEmpty)]
def s_slices_Concat_int_int : CSp := mkSp al_slices_Concat_int_int pre_slices_Concat_int_int res_slices_Concat_int_int obs_slices_Concat_int_int
def vc_slices_Concat_int_int (c : List (List Int)) : Prop :=
 ∃ (e2 : Unit) (d20 : Int × Int), ((c = c ∧ (0 : Int) = d20.1 ∧ c = c ∧ (lI c) = (lI c) ∧ (0 : Int) = d20.2 ∧ True) ∧ (True)) ∧
 LoopP (fun (d2 : Int × Int) (q2 : (Int × Int) → Prop) =>
  ((decide (d2.2 < (lI c))) = true →
   (0 ≤ d2.2) ∧ (d2.2 < (List.length c)) ∧ (I64 (d2.1 + (lI (gD c d2.2 [])))) ∧ ((decide ((d2.1 + (lI (gD c d2.2 []))) < (0 : Int))) = true →
    False) ∧
   ((decide ((d2.1 + (lI (gD c d2.2 []))) < (0 : Int))) = false →
    (I64 (d2.2 + (1 : Int))) ∧ (∃ d3 : Int × Int, ((c = c ∧ (d2.1 + (lI (gD c d2.2 []))) = d3.1 ∧ c = c ∧ (lI c) = (lI c) ∧ (d2.2 + (1 : Int)) = d3.2 ∧ True) ∧ (True)) ∧ q2 d3))) ∧
  ((decide (d2.2 < (lI c))) = false →
   (0 ≤ d2.1 ∧ d2.1 ≤ 1000000) ∧ ∃ (e5 : Unit) (d50 : (List Int) × Bool × Int), ((True ∧ c = c ∧ (lI c) = (lI c) ∧ (0 : Int) = d50.2.2 ∧ True) ∧ ((([] : List Int) = d50.1 ∧ (decide (d2.1 = 0)) = d50.2.1) ∧ True)) ∧
   LoopP (fun (d5 : (List Int) × Bool × Int) (q5 : ((List Int) × Bool × Int) → Prop) =>
    ((decide (d5.2.2 < (lI c))) = true →
     (0 ≤ d5.2.2) ∧ (d5.2.2 < (List.length c)) ∧ (((List.length d5.1) + (List.length (gD c d5.2.2 []))) * 8 ≤ 70368744177664) ∧ (I64 (d5.2.2 + (1 : Int))) ∧ (∃ d6 : (List Int) × Bool × Int, ((True ∧ c = c ∧ (lI c) = (lI c) ∧ (d5.2.2 + (1 : Int)) = d6.2.2 ∧ True) ∧ (((d5.1 ++ (gD c d5.2.2 [])) = d6.1 ∧ ((List.isEmpty (gD c d5.2.2 [])) && d5.2.1) = d6.2.1) ∧ True)) ∧ q5 d6)) ∧
    ((decide (d5.2.2 < (lI c))) = false →
     (True ∧ ((d5.1 = c.flatten ∧ d5.2.1 = (c.flatten).isEmpty) ∧ True)))) d50)) d20
def cx_slices_Concat_int_int : Cx := ⟨[(3, (.i .i64))], [(119, s_slices_Grow_int_int)], 36, [], 0, [], [], [], [], false, [], [], []⟩
def lp_slices_Concat_int_int (c : List (List Int)) : List (Nat × LoopAnn) := [(0, ⟨Unit, Int × Int, [0, 3, 9, 10, 11], fun e x => [.val (.list (.list (.i .i64))) c, .val (.i .i64) x.1, .val (.list (.list (.i .i64))) c, .val (.i .i64) (((List.length c) : Nat) : Int), .val (.i .i64) x.2], fun e x => []⟩),
 (2, ⟨Unit, (List Int) × Bool × Int, [6, 25, 26, 27], fun e x => [.lst 24, .val (.list (.list (.i .i64))) c, .val (.i .i64) (((List.length c) : Nat) : Int), .val (.i .i64) x.2.2], fun e x => [(24, .slot 6, .lst 3 (.i .i64) x.1 x.2.1)]⟩)]
set_option maxRecDepth 100000 in
theorem vq_slices_Concat_int_int (d : List (List Int)) : gwp (cx_slices_Concat_int_int) (lp_slices_Concat_int_int d) c95 0 (gend [.tmp 2] (res_slices_Concat_int_int d) (obs_slices_Concat_int_int d)) (gstart 36 (AL.can al_slices_Concat_int_int d)) = vc_slices_Concat_int_int d := by kernel_rfl
abbrev Ok_slices_Concat_int_int : Prop := OkC Tryz.prog 95 s_slices_Concat_int_int
theorem mk_slices_Concat_int_int (h : ∀ (c : List (List Int)), (c.length ≤ 10 ∧ ∀ x ∈ c, x.length ≤ 1000) → vc_slices_Concat_int_int c) : OkC Tryz.prog 95 s_slices_Concat_int_int :=
 okC_vc fun95 mixed (C := cx_slices_Concat_int_int) (V := fun (d : List (List Int)) => vc_slices_Concat_int_int d) ⟨(.cons ok_slices_Grow_int_int .nil), XsOk.nil, ItsOk.nil, YlOk.nil, IysOk.nil⟩ (vq_slices_Concat_int_int) fun d hp => h d hp
theorem ok_slices_Concat_int_int : Ok_slices_Concat_int_int := mk_slices_Concat_int_int fun c h => by
 obtain ⟨hc, hx⟩ := h
 have hx : ∀ k (hk : k < c.length), c[k].length ≤ 1000 := fun k hk => hx _ (List.getElem_mem hk)
 have hsum : ∀ k, k ≤ c.length → (c.take k).flatten.length ≤ 1000 * k := fun k => by
  induction k with
  | zero => simp
  | succ k ih =>
   intro hk
   rw [take_succ_eq (by omega), List.flatten_append, List.length_append]
   have := ih (by omega)
   have := hx k (by omega)
   simp only [List.flatten_cons, List.flatten_nil, List.append_nil]; omega
 unfold vc_slices_Concat_int_int; delta lI gD
 refine ⟨(), (0, 0), (by and_intros <;> first | rfl | trivial | simp), ?_⟩
 refine LoopP.count2 c.length (fun k x => x = ((c.take k).flatten.length : Int)) (by simp) fun k x hk hJ q hq => ?_
 dsimp only
 have h1 := hsum k hk
 simp only [true_and, and_true, exists_const, decide_eq_true_eq, decide_eq_false_iff_not, Int.toNat_natCast, Int.ofNat_lt, InK_i64]
 refine ⟨fun hlt => ?_, fun hge => ?_⟩
 ·have hlt : k < c.length := by omega
  have h2 := hx k hlt
  rw [getD_nat hlt]
  refine ⟨by omega, hlt, by omega, fun hn => by omega, fun _ => ⟨by omega, (x + ((c[k].length : Nat) : Int), (k : Int) + 1), (by and_intros <;> first | rfl | trivial | simp), hq _ hlt ?_⟩⟩
  rw [take_succ_eq hlt, List.flatten_append, List.length_append, hJ]
  simp
 ·have : k = c.length := by omega
  subst this
  rw [List.take_length] at hJ h1
  refine ⟨by omega, ([], decide (x = 0), 0), (by and_intros <;> first | rfl | trivial | simp), ?_⟩
  refine ⟨fun d => ∃ k : Nat, d.2.2 = k ∧ k ≤ c.length ∧ d.1 = (c.take k).flatten ∧ d.2.1 = (decide (x = 0) && (c.take k).flatten.isEmpty), fun d => c.length - d.2.2.toNat, ⟨0, rfl, Nat.zero_le _, by simp, by simp⟩, ?_⟩
  rintro ⟨xs, b, _⟩ ⟨k, rfl, hk, hxs, hb⟩
  dsimp only at hxs hb ⊢
  have h1 := hsum k hk
  refine ⟨fun hlt => ?_, fun hge => ?_⟩
  ·have hlt : k < c.length := by omega
   have h2 := hx k hlt
   simp only [Int.toNat_natCast, getD_nat hlt]
   rw [hxs]
   refine ⟨by omega, by omega, by omega, by omega, ((c.take k).flatten ++ c[k], c[k].isEmpty && b, (k : Int) + 1), (by and_intros <;> first | rfl | trivial | simp), ⟨k + 1, by simp, hlt, ?_, ?_⟩, by dsimp only; omega⟩
   ·rw [take_succ_eq hlt, List.flatten_append]; simp
   ·rw [take_succ_eq hlt, List.flatten_append, hb]
    cases c[k] <;> cases (c.take k).flatten <;> simp
  ·have : k = c.length := by omega
   subst this
   rw [List.take_length] at hxs hb
   refine ⟨hxs, ?_⟩
   rw [hb, hJ]
   cases c.flatten <;> simp
def al_tie_Mirrors_1 : AL (Int × (Int × List Int) × Int × Int) := (.cons (.k (.i .i64)) (.cons (.ptr (.cons (.k (.i .i64)) (.one (.k (.list (.i .i64)))))) (.cons (.ptr (.one (.k (.i .i64)))) (.one (.ptr (.one (.k (.i .i64))))))))
def pre_tie_Mirrors_1 (d : Int × (Int × List Int) × Int × Int) : Prop := 0 ≤ d.1 ∧ d.1 < d.2.2.2 ∧ 0 ≤ d.2.2.1 ∧ d.2.2.1 < d.2.2.2 ∧ d.2.2.2 = d.2.1.2.length ∧ d.2.2.2 ≤ 1000
def res_tie_Mirrors_1 (d : Int × (Int × List Int) × Int × Int) : SV := .val .bo (d.2.1.2.getD d.1.toNat 0 == d.2.1.2.getD (Int.tmod (d.2.2.1 - d.1 + d.2.2.2) d.2.2.2).toNat 0)
def obs_tie_Mirrors_1 (d : Int × (Int × List Int) × Int × Int) : List OB := []
def s_tie_Mirrors_1 : CSp := mkSp al_tie_Mirrors_1 pre_tie_Mirrors_1 res_tie_Mirrors_1 obs_tie_Mirrors_1
def vc_tie_Mirrors_1 (i : Int) (hk : Int) (lw : List Int) (s : Int) (n : Int) : Prop :=
 (0 ≤ i) ∧ (i < (List.length lw)) ∧ (I64 (s - i)) ∧ (I64 ((s - i) + n)) ∧ (n ≠ 0) ∧ (0 ≤ (Int.tmod ((s - i) + n) n)) ∧ ((Int.tmod ((s - i) + n) n) < (List.length lw)) ∧ (((gD lw i 0) == (gD lw (Int.tmod ((s - i) + n) n) 0)) = (lw.getD i.toNat 0 == lw.getD (Int.tmod (s - i + n) n).toNat 0) ∧ (True))
def cx_tie_Mirrors_1 : Cx := ⟨[], [], 23, [], 0, [], [], [], [], false, [], [], []⟩
def lp_tie_Mirrors_1 (i : Int) (hk : Int) (lw : List Int) (s : Int) (n : Int) : List (Nat × LoopAnn) := []
set_option maxRecDepth 100000 in
theorem vq_tie_Mirrors_1 (d : Int × (Int × List Int) × Int × Int) : gwp (cx_tie_Mirrors_1) (lp_tie_Mirrors_1 d.1 d.2.1.1 d.2.1.2 d.2.2.1 d.2.2.2) c97 0 (gend [.tmp 5] (res_tie_Mirrors_1 d) (obs_tie_Mirrors_1 d)) (gstart 23 (AL.can al_tie_Mirrors_1 d)) = vc_tie_Mirrors_1 d.1 d.2.1.1 d.2.1.2 d.2.2.1 d.2.2.2 := by kernel_rfl
abbrev Ok_tie_Mirrors_1 : Prop := OkC Tryz.prog 97 s_tie_Mirrors_1
theorem mk_tie_Mirrors_1 (h : ∀ (i : Int) (hk : Int) (lw : List Int) (s : Int) (n : Int), (0 ≤ i ∧ i < n ∧ 0 ≤ s ∧ s < n ∧ n = lw.length ∧ n ≤ 1000) → vc_tie_Mirrors_1 i hk lw s n) : OkC Tryz.prog 97 s_tie_Mirrors_1 :=
 okC_vc fun97 mixed (C := cx_tie_Mirrors_1) (V := fun (d : Int × (Int × List Int) × Int × Int) => vc_tie_Mirrors_1 d.1 d.2.1.1 d.2.1.2 d.2.2.1 d.2.2.2) ⟨.nil, XsOk.nil, ItsOk.nil, YlOk.nil, IysOk.nil⟩ (vq_tie_Mirrors_1) fun d hp => h d.1 d.2.1.1 d.2.1.2 d.2.2.1 d.2.2.2 hp
theorem ok_tie_Mirrors_1 : Ok_tie_Mirrors_1 := mk_tie_Mirrors_1 fun i hk lw s n h => by
 obtain ⟨h1, h2, h3, h4, h5, h6⟩ := h
 obtain ⟨i, rfl⟩ := Int.eq_ofNat_of_zero_le h1
 obtain ⟨s, rfl⟩ := Int.eq_ofNat_of_zero_le h3
 subst h5
 have e1 : (s : Int) - (i : Int) + (lw.length : Int) = ((s + lw.length - i : Nat) : Int) := by omega
 have h7 : (s + lw.length - i) % lw.length < lw.length := Nat.mod_lt _ (by omega)
 unfold vc_tie_Mirrors_1; delta lI gD
 simp only [e1, tmodN, InK_i64]
 and_intros <;> first | omega | trivial
def al_tie_Mirrors : AL (Int × List Int) := (.one (.agg (.cons (.k (.i .i64)) (.one (.k (.list (.i .i64)))))))
def pre_tie_Mirrors (d : Int × List Int) : Prop := d.2.length ≤ 1000
def res_tie_Mirrors (d : Int × List Int) : SV := .tup [.val (.i .i64) (if tieErr d.1 d.2 = 0 then mirI d.2 else 0), .val (.i .i64) (mirErr d.1 d.2)]
def obs_tie_Mirrors (d : Int × List Int) : List OB := []
def s_tie_Mirrors : CSp := mkSp al_tie_Mirrors pre_tie_Mirrors res_tie_Mirrors obs_tie_Mirrors
def vc_tie_Mirrors (hk : Int) (lw : List Int) : Prop :=
 (lw.length ≤ 1000000) ∧ (((tieErr hk lw) != (0 : Int)) = true →
  (((0 : Int) = (if tieErr hk lw = 0 then mirI lw else 0) ∧ (tieErr hk lw) = (mirErr hk lw) ∧ (([] : List SV) = [])) ∧ (True))) ∧
 (((tieErr hk lw) != (0 : Int)) = false →
  ∃ (e3 : Unit) (d30 : Int), ((True ∧ True ∧ (lI lw) = (lI lw) ∧ (0 : Int) = d30 ∧ True) ∧ ((hk = hk ∧ lw = lw ∧ (([] : List SV) = [])) ∧ ((lI lw) = (lI lw) ∧ (([] : List SV) = [])) ∧ True)) ∧
  LoopP (fun (d3 : Int) (q3 : (Int) → Prop) =>
   ((decide (d3 < (lI lw))) = true →
    ∃ (e6 : Int × Int) (d60 : Bool × Int), ((True ∧ True ∧ True ∧ (((([] : List SV) = [])) ∧ (True ∧ True ∧ True ∧ (([] : List SV) = []))) ∧ true = d60.1 ∧ (lI lw) = (lI lw) ∧ d3 = e6.2 ∧ (lI lw) = (lI lw) ∧ (0 : Int) = d60.2 ∧ True) ∧ ((hk = hk ∧ lw = lw ∧ (([] : List SV) = [])) ∧ ((lI lw) = (lI lw) ∧ (([] : List SV) = [])) ∧ (d3 = e6.1 ∧ (([] : List SV) = [])) ∧ True)) ∧
    LoopP (fun (d6 : Bool × Int) (q6 : (Bool × Int) → Prop) =>
     ((decide (d6.2 < (lI lw))) = true →
      (d6.1 = true → 0 ≤ d6.2 ∧ d6.2 < (lI lw) ∧ 0 ≤ e6.1 ∧ e6.1 < (lI lw) ∧ (lI lw) = lw.length ∧ (lI lw) ≤ 1000) ∧ (I64 (d6.2 + (1 : Int))) ∧ (∃ d7 : Bool × Int, ((True ∧ True ∧ True ∧ (((([] : List SV) = [])) ∧ (True ∧ True ∧ True ∧ (([] : List SV) = []))) ∧ (d6.1 && (lw.getD d6.2.toNat 0 == lw.getD (Int.tmod (e6.1 - d6.2 + (lI lw)) (lI lw)).toNat 0)) = d7.1 ∧ (lI lw) = (lI lw) ∧ e6.2 = e6.2 ∧ (lI lw) = (lI lw) ∧ (d6.2 + (1 : Int)) = d7.2 ∧ True) ∧ ((hk = hk ∧ lw = lw ∧ (([] : List SV) = [])) ∧ ((lI lw) = (lI lw) ∧ (([] : List SV) = [])) ∧ (e6.1 = e6.1 ∧ (([] : List SV) = [])) ∧ True)) ∧ q6 d7)) ∧
     ((decide (d6.2 < (lI lw))) = false →
      (d6.1 = true →
       ((e6.1 = (if tieErr hk lw = 0 then mirI lw else 0) ∧ (0 : Int) = (mirErr hk lw) ∧ (([] : List SV) = [])) ∧ (True))) ∧
      (d6.1 = false →
       (I64 (e6.2 + (1 : Int))) ∧ (∃ d8 : Int, ((True ∧ True ∧ (lI lw) = (lI lw) ∧ (e6.2 + (1 : Int)) = d8 ∧ True) ∧ ((hk = hk ∧ lw = lw ∧ (([] : List SV) = [])) ∧ ((lI lw) = (lI lw) ∧ (([] : List SV) = [])) ∧ True)) ∧ q3 d8)))) d60) ∧
   ((decide (d3 < (lI lw))) = false →
    (((0 : Int) = (if tieErr hk lw = 0 then mirI lw else 0) ∧ (7 : Int) = (mirErr hk lw) ∧ (([] : List SV) = [])) ∧ (True)))) d30)
def cx_tie_Mirrors : Cx := ⟨[], [(58, s_tie_Check), (97, s_tie_Mirrors_1)], 37, [], 0, [], [], [], [], false, [], [], []⟩
def lp_tie_Mirrors (hk : Int) (lw : List Int) : List (Nat × LoopAnn) := [(0, ⟨Unit, Int, [1, 5, 18, 19], fun e x => [.box 1 0, .box 5 0, .val (.i .i64) (((List.length lw) : Nat) : Int), .val (.i .i64) x], fun e x => [(1, .slot 1, .cells [.val (.i .i64) hk, .val (.list (.i .i64)) lw] (some 26)), (5, .slot 5, .cells [.val (.i .i64) (((List.length lw) : Nat) : Int)] (some 3))]⟩),
 (2, ⟨Int × Int, Bool × Int, [1, 5, 6, 7, 8, 18, 19, 23, 24], fun e x => [.box 1 0, .box 5 0, .box 6 0, .fn 97 [] [.box 1 0, .box 6 0, .box 5 0], .val .bo x.1, .val (.i .i64) (((List.length lw) : Nat) : Int), .val (.i .i64) e.2, .val (.i .i64) (((List.length lw) : Nat) : Int), .val (.i .i64) x.2], fun e x => [(1, .slot 1, .cells [.val (.i .i64) hk, .val (.list (.i .i64)) lw] (some 26)), (5, .slot 5, .cells [.val (.i .i64) (((List.length lw) : Nat) : Int)] (some 3)), (6, .slot 6, .cells [.val (.i .i64) e.1] (some 3))]⟩)]
set_option maxRecDepth 100000 in
theorem vq_tie_Mirrors (d : Int × List Int) : gwp (cx_tie_Mirrors) (lp_tie_Mirrors d.1 d.2) c61 0 (gend [.tmp 2, .tmp 3] (res_tie_Mirrors d) (obs_tie_Mirrors d)) (gstart 37 (AL.can al_tie_Mirrors d)) = vc_tie_Mirrors d.1 d.2 := by kernel_rfl
abbrev Ok_tie_Mirrors : Prop := OkC Tryz.prog 61 s_tie_Mirrors
theorem mk_tie_Mirrors (h : ∀ (hk : Int) (lw : List Int), (lw.length ≤ 1000) → vc_tie_Mirrors hk lw) : OkC Tryz.prog 61 s_tie_Mirrors :=
 okC_vc fun61 mixed (C := cx_tie_Mirrors) (V := fun (d : Int × List Int) => vc_tie_Mirrors d.1 d.2) ⟨(.cons ok_tie_Check (.cons ok_tie_Mirrors_1 .nil)), XsOk.nil, ItsOk.nil, YlOk.nil, IysOk.nil⟩ (vq_tie_Mirrors) fun d hp => h d.1 d.2 hp
theorem ok_tie_Mirrors : Ok_tie_Mirrors := mk_tie_Mirrors fun hk lw hl => by
 unfold vc_tie_Mirrors; delta lI gD
 simp only [true_and, and_true, exists_eq_left', exists_const, decide_eq_true_eq, decide_eq_false_iff_not, bne_iff_ne, ne_eq, bne_eq_false_iff_eq, InK_i64]
 refine ⟨by omega, fun he => by simp [he, mirErr], fun he => ?_⟩
 obtain ⟨t1, t2, t3, t4, t5⟩ := tieErr_zero he
 simp only [he, if_true]
 refine LoopP.count lw.length (fun k => ∀ j, j < k → mirP lw j = false) (fun j h => by omega) fun s hs hJ q hq => ?_
 refine ⟨fun hlt => ?_, fun hge => ?_⟩
 ·refine ⟨((s : Int), (s : Int)), (true, 0), (by and_intros <;> first | rfl | trivial | simp), ?_⟩
  refine LoopP.count2 lw.length (fun i b => b = true ↔ ∀ j, j < i → lw.getD j 0 = lw.getD ((s + lw.length - j) % lw.length) 0) (by simp) fun i b hi hI q2 hq2 => ?_
  dsimp only
  have e1 : (s : Int) - (i : Int) + (lw.length : Int) = ((s + lw.length - i : Nat) : Int) := by omega
  simp only [e1, tmodN, Int.toNat_natCast, Int.ofNat_lt]
  refine ⟨fun hlt2 => ?_, fun hge => ⟨fun hb => ?_, fun hb => ⟨by omega, ?_⟩⟩⟩
  ·refine ⟨fun _ => by omega, by omega, (b && (lw.getD i 0 == lw.getD ((s + lw.length - i) % lw.length) 0), (i : Int) + 1), (by and_intros <;> first | rfl | trivial | simp), hq2 _ (by omega) ?_⟩
   simp only [Bool.and_eq_true, beq_iff_eq, hI]
   constructor
   ·rintro ⟨h1, h2⟩ j hj
    rcases Nat.lt_succ_iff_lt_or_eq.1 hj with hj | rfl
    ·exact h1 j hj
    ·exact h2
   ·exact fun h => ⟨fun j hj => h j (by omega), h i (by omega)⟩
  ·have : i = lw.length := by omega
   subst this
   have := mirN_some (by omega) (mirP_iff.2 (hI.1 hb)) hJ
   simp [mirI, mirErr, he, this]
  ·refine hq (by omega) fun j hj => ?_
   rcases Nat.lt_succ_iff_lt_or_eq.1 hj with hj | rfl
   ·exact hJ j hj
   ·have : i = lw.length := by omega
    subst this
    rw [Bool.eq_false_iff]
    intro h
    rw [hI.2 (mirP_iff.1 h)] at hb; cases hb
 ·have : s = lw.length := by omega
  subst this
  simp [mirI, mirErr, he, mirN_none hJ]
def al_tie_Beside : AL ((Int × List Int) × Int × List Int) := (.cons (.agg (.cons (.k (.i .i64)) (.one (.k (.list (.i .i64)))))) (.one (.agg (.cons (.k (.i .i64)) (.one (.k (.list (.i .i64))))))))
def pre_tie_Beside (d : (Int × List Int) × Int × List Int) : Prop := d.1.2.length ≤ 1000 ∧ d.2.2.length ≤ 1000
def res_tie_Beside (d : (Int × List Int) × Int × List Int) : SV := .tup [.agg [.val (.i .i64) (if besErr d.1.1 d.1.2 d.2.1 d.2.2 = 0 then d.1.1 else 0), .lst 0], .val (.i .i64) (besErr d.1.1 d.1.2 d.2.1 d.2.2)]
def obs_tie_Beside (d : (Int × List Int) × Int × List Int) : List OB := [.lst 3 (.i .i64) (if besErr d.1.1 d.1.2 d.2.1 d.2.2 = 0 then d.1.2 ++ d.2.2 else []) (decide (besErr d.1.1 d.1.2 d.2.1 d.2.2 ≠ 0))]
def s_tie_Beside : CSp := mkSp al_tie_Beside pre_tie_Beside res_tie_Beside obs_tie_Beside
def vc_tie_Beside (hk : Int) (lw : List Int) (hk1 : Int) (lw1 : List Int) : Prop :=
 ∃ (e3 : Unit) (d30 : Int), ((True ∧ True ∧ True ∧ (hk = hk ∧ lw = lw ∧ hk1 = hk1 ∧ lw1 = lw1 ∧ (([] : List SV) = [])) ∧ (0 : Int) = d30 ∧ True) ∧ ((hk = hk ∧ lw = lw ∧ (([] : List SV) = [])) ∧ (hk1 = hk1 ∧ lw1 = lw1 ∧ (([] : List SV) = [])) ∧ ((0 : Int) = (0 : Int) ∧ True ∧ (([] : List SV) = [])) ∧ True)) ∧
 LoopP (fun (d3 : Int) (q3 : (Int) → Prop) =>
  ((decide (d3 < (2 : Int))) = true →
   (0 ≤ d3) ∧ (d3 < (2 : Int)) ∧
   (d3 = (0 : Int) →
    (lw.length ≤ 1000000) ∧ (((tieErr hk lw) != (0 : Int)) = true →
     ((((0 : Int) = (if besErr hk lw hk1 lw1 = 0 then hk else 0) ∧ True ∧ (([] : List SV) = [])) ∧ (tieErr hk lw) = (besErr hk lw hk1 lw1) ∧ (([] : List SV) = [])) ∧ (((if besErr hk lw hk1 lw1 = 0 then lw ++ lw1 else []) = [] ∧ (decide (besErr hk lw hk1 lw1 ≠ 0)) = true) ∧ True))) ∧
    (((tieErr hk lw) != (0 : Int)) = false →
     (I64 (d3 + (1 : Int))) ∧ (∃ d4 : Int, ((True ∧ True ∧ True ∧ (hk = hk ∧ lw = lw ∧ hk1 = hk1 ∧ lw1 = lw1 ∧ (([] : List SV) = [])) ∧ (d3 + (1 : Int)) = d4 ∧ True) ∧ ((hk = hk ∧ lw = lw ∧ (([] : List SV) = [])) ∧ (hk1 = hk1 ∧ lw1 = lw1 ∧ (([] : List SV) = [])) ∧ ((0 : Int) = (0 : Int) ∧ True ∧ (([] : List SV) = [])) ∧ True)) ∧ q3 d4))) ∧
   (d3 = (1 : Int) →
    (lw1.length ≤ 1000000) ∧ (((tieErr hk1 lw1) != (0 : Int)) = true →
     ((((0 : Int) = (if besErr hk lw hk1 lw1 = 0 then hk else 0) ∧ True ∧ (([] : List SV) = [])) ∧ (tieErr hk1 lw1) = (besErr hk lw hk1 lw1) ∧ (([] : List SV) = [])) ∧ (((if besErr hk lw hk1 lw1 = 0 then lw ++ lw1 else []) = [] ∧ (decide (besErr hk lw hk1 lw1 ≠ 0)) = true) ∧ True))) ∧
    (((tieErr hk1 lw1) != (0 : Int)) = false →
     (I64 (d3 + (1 : Int))) ∧ (∃ d5 : Int, ((True ∧ True ∧ True ∧ (hk = hk ∧ lw = lw ∧ hk1 = hk1 ∧ lw1 = lw1 ∧ (([] : List SV) = [])) ∧ (d3 + (1 : Int)) = d5 ∧ True) ∧ ((hk = hk ∧ lw = lw ∧ (([] : List SV) = [])) ∧ (hk1 = hk1 ∧ lw1 = lw1 ∧ (([] : List SV) = [])) ∧ ((0 : Int) = (0 : Int) ∧ True ∧ (([] : List SV) = [])) ∧ True)) ∧ q3 d5))) ∧
   True) ∧
  ((decide (d3 < (2 : Int))) = false →
   ((hk != hk1) = true →
    ((((0 : Int) = (if besErr hk lw hk1 lw1 = 0 then hk else 0) ∧ True ∧ (([] : List SV) = [])) ∧ (4 : Int) = (besErr hk lw hk1 lw1) ∧ (([] : List SV) = [])) ∧ (((if besErr hk lw hk1 lw1 = 0 then lw ++ lw1 else []) = [] ∧ (decide (besErr hk lw hk1 lw1 ≠ 0)) = true) ∧ True))) ∧
   ((hk != hk1) = false →
    (I64 ((lI lw) + (lI lw1))) ∧ ((decide (((lI lw) + (lI lw1)) > (96 : Int))) = true →
     ((((0 : Int) = (if besErr hk lw hk1 lw1 = 0 then hk else 0) ∧ True ∧ (([] : List SV) = [])) ∧ (8 : Int) = (besErr hk lw hk1 lw1) ∧ (([] : List SV) = [])) ∧ (((if besErr hk lw hk1 lw1 = 0 then lw ++ lw1 else []) = [] ∧ (decide (besErr hk lw hk1 lw1 ≠ 0)) = true) ∧ True))) ∧
    ((decide (((lI lw) + (lI lw1)) > (96 : Int))) = false →
     ([lw, lw1].length ≤ 10 ∧ ∀ x ∈ [lw, lw1], x.length ≤ 1000) ∧ (([lw, lw1].flatten).isEmpty = true → [lw, lw1].flatten = []) ∧ (((hk = (if besErr hk lw hk1 lw1 = 0 then hk else 0) ∧ True ∧ (([] : List SV) = [])) ∧ (0 : Int) = (besErr hk lw hk1 lw1) ∧ (([] : List SV) = [])) ∧ (([lw, lw1].flatten = (if besErr hk lw hk1 lw1 = 0 then lw ++ lw1 else []) ∧ ([lw, lw1].flatten).isEmpty = (decide (besErr hk lw hk1 lw1 ≠ 0))) ∧ True)))))) d30
def cx_tie_Beside : Cx := ⟨[(24, (.list (.i .i64)))], [(58, s_tie_Check), (95, s_slices_Concat_int_int)], 48, [45], 0, [], [], [(24, 3)], [], false, [], [], []⟩
def lp_tie_Beside (hk : Int) (lw : List Int) (hk1 : Int) (lw1 : List Int) : List (Nat × LoopAnn) := [(0, ⟨Unit, Int, [2, 3, 4, 11, 12], fun e x => [.box 2 0, .box 3 0, .box 4 0, .agg [.val (.i .i64) hk, .val (.list (.i .i64)) lw, .val (.i .i64) hk1, .val (.list (.i .i64)) lw1], .val (.i .i64) x], fun e x => [(2, .slot 2, .cells [.val (.i .i64) hk, .val (.list (.i .i64)) lw] (some 26)), (3, .slot 3, .cells [.val (.i .i64) hk1, .val (.list (.i .i64)) lw1] (some 26)), (4, .slot 4, .cells [.val (.i .i64) (0 : Int), .nilS] (some 26))]⟩)]
set_option maxRecDepth 100000 in
theorem vq_tie_Beside (d : (Int × List Int) × Int × List Int) : gwp (cx_tie_Beside) (lp_tie_Beside d.1.1 d.1.2 d.2.1 d.2.2) c59 0 (gend [.cell 4 true 2, .tmp 5] (res_tie_Beside d) (obs_tie_Beside d)) (gstart 48 (AL.can al_tie_Beside d)) = vc_tie_Beside d.1.1 d.1.2 d.2.1 d.2.2 := by kernel_rfl
abbrev Ok_tie_Beside : Prop := OkC Tryz.prog 59 s_tie_Beside
theorem mk_tie_Beside (h : ∀ (hk : Int) (lw : List Int) (hk1 : Int) (lw1 : List Int), (lw.length ≤ 1000 ∧ lw1.length ≤ 1000) → vc_tie_Beside hk lw hk1 lw1) : OkC Tryz.prog 59 s_tie_Beside :=
 okC_vc fun59 mixed (C := cx_tie_Beside) (V := fun (d : (Int × List Int) × Int × List Int) => vc_tie_Beside d.1.1 d.1.2 d.2.1 d.2.2) ⟨(.cons ok_tie_Check (.cons ok_slices_Concat_int_int .nil)), XsOk.nil, ItsOk.nil, YlOk.nil, IysOk.nil⟩ (vq_tie_Beside) fun d hp => h d.1.1 d.1.2 d.2.1 d.2.2 hp
theorem ok_tie_Beside : Ok_tie_Beside := mk_tie_Beside fun hk lw hk1 lw1 h => by
 obtain ⟨h1, h2⟩ := h
 unfold vc_tie_Beside; delta lI gD
 simp only [true_and, and_true, exists_eq_left', exists_const, decide_eq_true_eq, decide_eq_false_iff_not, bne_iff_ne, ne_eq, bne_eq_false_iff_eq, gt_iff_lt, InK_i64]
 refine LoopP.count 2 (fun k => (0 < k → tieErr hk lw = 0) ∧ (1 < k → tieErr hk1 lw1 = 0)) ⟨fun h => by omega, fun h => by omega⟩ fun k hk' hJ q hq => ?_
 refine ⟨fun hlt => ⟨by omega, by omega, fun e => ?_, fun e => ?_⟩, fun hge => ?_⟩
 ·have e : k = 0 := by omega
  subst e
  refine ⟨by omega, fun he => ?_, fun he => ⟨by simp, by simpa using hq (by omega) ⟨fun _ => he, fun h => by omega⟩⟩⟩
  simp [besErr, he]
 ·have e : k = 1 := by omega
  subst e
  have he0 := hJ.1 (by omega)
  refine ⟨by omega, fun he => ?_, fun he => ⟨by simp, by simpa using hq (by omega) ⟨fun _ => he0, fun _ => he⟩⟩⟩
  simp [besErr, he, he0]
 ·have e1 := hJ.1 (by omega)
  have e2 := hJ.2 (by omega)
  refine ⟨fun hne => by simp [besErr, e1, e2, hne], fun heq => ?_⟩
  subst heq
  refine ⟨by omega, fun hgt => ?_, fun hle => ⟨⟨by simp, ?_⟩, ?_⟩⟩
  ·have : 96 < lw.length + lw1.length := by omega
   simp [besErr, e1, e2, this]
  ·intro x hx
   rcases List.mem_cons.1 hx with rfl | hx
   ·exact h1
   ·rw [List.mem_singleton.1 hx]; exact h2
  ·have : ¬ 96 < lw.length + lw1.length := by omega
   obtain ⟨t1, t2, t3, t4, t5⟩ := tieErr_zero e1
   have hne : lw ≠ [] := fun e => t4 (by simp [e])
   simp [besErr, e1, e2, this, hne]
end Go.Proofs.Tryz
set_option linter.unusedVariables false
namespace Go.Proofs.Tryz
open Go Go.V Go.Proofs
def al_law03_TieBesides : AL ((Int × List Int) × Int × List Int) := (.cons (.agg (.cons (.k (.i .i64)) (.one (.k (.list (.i .i64)))))) (.one (.agg (.cons (.k (.i .i64)) (.one (.k (.list (.i .i64))))))))
def pre_law03_TieBesides (d : (Int × List Int) × Int × List Int) : Prop := True
def res_law03_TieBesides (d : (Int × List Int) × Int × List Int) : SV := .val .bo true
def obs_law03_TieBesides (d : (Int × List Int) × Int × List Int) : List OB := []
def s_law03_TieBesides : CSp := mkSp al_law03_TieBesides pre_law03_TieBesides res_law03_TieBesides obs_law03_TieBesides
def vc_law03_TieBesides (hk : Int) (lw : List Int) (hk1 : Int) (lw1 : List Int) : Prop :=
 (([] : List (List UInt8)).length ≤ 1000000) ∧ ((largeB lw ([] : List Int) ([] : List (List UInt8))) = false → ([] : List (List UInt8)).length ≤ 1000000) ∧ (((largeB lw ([] : List Int) ([] : List (List UInt8))) || (largeB lw1 ([] : List Int) ([] : List (List UInt8)))) = true →
  (True) ∧ (true = true ∧ (True))) ∧
 (((largeB lw ([] : List Int) ([] : List (List UInt8))) || (largeB lw1 ([] : List Int) ([] : List (List UInt8)))) = false →
  (lw.length ≤ 1000) ∧ (false = true → lw = []) ∧ (lw1.length ≤ 1000) ∧ (false = true → lw1 = []) ∧ ((True ∧ True ∧ True ∧ True ∧ (hk = hk ∧ True ∧ (([] : List SV) = [])) ∧ (hk1 = hk1 ∧ True ∧ (([] : List SV) = [])) ∧ True) ∧ ((hk = hk ∧ lw = lw ∧ (([] : List SV) = [])) ∧ (hk1 = hk1 ∧ lw1 = lw1 ∧ (([] : List SV) = [])) ∧ ((0 : Int) = (0 : Int) ∧ True ∧ (([] : List SV) = [])) ∧ ((0 : Int) = (0 : Int) ∧ True ∧ (([] : List SV) = [])) ∧ (lw = lw ∧ false = false) ∧ (lw1 = lw1 ∧ false = false) ∧ True)) ∧ ((lw.length ≤ 1000) ∧ (false = true → lw = []) ∧ (lw1.length ≤ 1000) ∧ (false = true → lw1 = []) ∧ ((True ∧ True ∧ True ∧ True ∧ (hk = hk ∧ True ∧ (([] : List SV) = [])) ∧ (hk1 = hk1 ∧ True ∧ (([] : List SV) = [])) ∧ True) ∧ ((hk = hk ∧ lw = lw ∧ (([] : List SV) = [])) ∧ (hk1 = hk1 ∧ lw1 = lw1 ∧ (([] : List SV) = [])) ∧ ((0 : Int) = (0 : Int) ∧ True ∧ (([] : List SV) = [])) ∧ ((0 : Int) = (0 : Int) ∧ True ∧ (([] : List SV) = [])) ∧ (lw = lw ∧ false = false) ∧ (lw1 = lw1 ∧ false = false) ∧ True))) ∧ ((lw.length ≤ 1000) ∧ (false = true → lw = []) ∧ (lw1.length ≤ 1000) ∧ (false = true → lw1 = []) ∧ ((True ∧ True ∧ True ∧ True ∧ (hk = hk ∧ True ∧ (([] : List SV) = [])) ∧ (hk1 = hk1 ∧ True ∧ (([] : List SV) = [])) ∧ True) ∧ ((hk = hk ∧ lw = lw ∧ (([] : List SV) = [])) ∧ (hk1 = hk1 ∧ lw1 = lw1 ∧ (([] : List SV) = [])) ∧ ((0 : Int) = (0 : Int) ∧ True ∧ (([] : List SV) = [])) ∧ ((0 : Int) = (0 : Int) ∧ True ∧ (([] : List SV) = [])) ∧ (lw = lw ∧ false = false) ∧ (lw1 = lw1 ∧ false = false) ∧ True))) ∧ ((lw.length ≤ 1000) ∧ (false = true → lw = []) ∧ (lw1.length ≤ 1000) ∧ (false = true → lw1 = []) ∧ ((True ∧ True ∧ True ∧ True ∧ (hk = hk ∧ True ∧ (([] : List SV) = [])) ∧ (hk1 = hk1 ∧ True ∧ (([] : List SV) = [])) ∧ True) ∧ ((hk = hk ∧ lw = lw ∧ (([] : List SV) = [])) ∧ (hk1 = hk1 ∧ lw1 = lw1 ∧ (([] : List SV) = [])) ∧ ((0 : Int) = (0 : Int) ∧ True ∧ (([] : List SV) = [])) ∧ ((0 : Int) = (0 : Int) ∧ True ∧ (([] : List SV) = [])) ∧ (lw = lw ∧ false = false) ∧ (lw1 = lw1 ∧ false = false) ∧ True))) ∧ ((lw.length ≤ 1000) ∧ (false = true → lw = []) ∧ (lw1.length ≤ 1000) ∧ (false = true → lw1 = []) ∧ ((True ∧ True ∧ True ∧ True ∧ (hk = hk ∧ True ∧ (([] : List SV) = [])) ∧ (hk1 = hk1 ∧ True ∧ (([] : List SV) = [])) ∧ True) ∧ ((hk = hk ∧ lw = lw ∧ (([] : List SV) = [])) ∧ (hk1 = hk1 ∧ lw1 = lw1 ∧ (([] : List SV) = [])) ∧ ((0 : Int) = (0 : Int) ∧ True ∧ (([] : List SV) = [])) ∧ ((0 : Int) = (0 : Int) ∧ True ∧ (([] : List SV) = [])) ∧ (lw = lw ∧ false = false) ∧ (lw1 = lw1 ∧ false = false) ∧ True))) ∧ ((lw.length ≤ 1000) ∧ (false = true → lw = []) ∧ (lw1.length ≤ 1000) ∧ (false = true → lw1 = []) ∧ ((True ∧ True ∧ True ∧ True ∧ (hk = hk ∧ True ∧ (([] : List SV) = [])) ∧ (hk1 = hk1 ∧ True ∧ (([] : List SV) = [])) ∧ True) ∧ ((hk = hk ∧ lw = lw ∧ (([] : List SV) = [])) ∧ (hk1 = hk1 ∧ lw1 = lw1 ∧ (([] : List SV) = [])) ∧ ((0 : Int) = (0 : Int) ∧ True ∧ (([] : List SV) = [])) ∧ ((0 : Int) = (0 : Int) ∧ True ∧ (([] : List SV) = [])) ∧ (lw = lw ∧ false = false) ∧ (lw1 = lw1 ∧ false = false) ∧ True))) ∧ ((lw.length ≤ 1000) ∧ (false = true → lw = []) ∧ (lw1.length ≤ 1000) ∧ (false = true → lw1 = []) ∧ ((True ∧ True ∧ True ∧ True ∧ (hk = hk ∧ True ∧ (([] : List SV) = [])) ∧ (hk1 = hk1 ∧ True ∧ (([] : List SV) = [])) ∧ True) ∧ ((hk = hk ∧ lw = lw ∧ (([] : List SV) = [])) ∧ (hk1 = hk1 ∧ lw1 = lw1 ∧ (([] : List SV) = [])) ∧ ((0 : Int) = (0 : Int) ∧ True ∧ (([] : List SV) = [])) ∧ ((0 : Int) = (0 : Int) ∧ True ∧ (([] : List SV) = [])) ∧ (lw = lw ∧ false = false) ∧ (lw1 = lw1 ∧ false = false) ∧ True))) ∧ ((lw.length ≤ 1000) ∧ (false = true → lw = []) ∧ (lw1.length ≤ 1000) ∧ (false = true → lw1 = []) ∧ ((True ∧ True ∧ True ∧ True ∧ (hk = hk ∧ True ∧ (([] : List SV) = [])) ∧ (hk1 = hk1 ∧ True ∧ (([] : List SV) = [])) ∧ True) ∧ ((hk = hk ∧ lw = lw ∧ (([] : List SV) = [])) ∧ (hk1 = hk1 ∧ lw1 = lw1 ∧ (([] : List SV) = [])) ∧ ((0 : Int) = (0 : Int) ∧ True ∧ (([] : List SV) = [])) ∧ ((0 : Int) = (0 : Int) ∧ True ∧ (([] : List SV) = [])) ∧ (lw = lw ∧ false = false) ∧ (lw1 = lw1 ∧ false = false) ∧ True))) ∧ ((lw.length ≤ 1000) ∧ (false = true → lw = []) ∧ (lw1.length ≤ 1000) ∧ (false = true → lw1 = []) ∧ ((True ∧ True ∧ True ∧ True ∧ (hk = hk ∧ True ∧ (([] : List SV) = [])) ∧ (hk1 = hk1 ∧ True ∧ (([] : List SV) = [])) ∧ True) ∧ ((hk = hk ∧ lw = lw ∧ (([] : List SV) = [])) ∧ (hk1 = hk1 ∧ lw1 = lw1 ∧ (([] : List SV) = [])) ∧ ((0 : Int) = (0 : Int) ∧ True ∧ (([] : List SV) = [])) ∧ ((0 : Int) = (0 : Int) ∧ True ∧ (([] : List SV) = [])) ∧ (lw = lw ∧ false = false) ∧ (lw1 = lw1 ∧ false = false) ∧ True))) ∧ ((lw.length ≤ 1000) ∧ (false = true → lw = []) ∧ (lw1.length ≤ 1000) ∧ (false = true → lw1 = []) ∧ ((True ∧ True ∧ True ∧ True ∧ (hk = hk ∧ True ∧ (([] : List SV) = [])) ∧ (hk1 = hk1 ∧ True ∧ (([] : List SV) = [])) ∧ True) ∧ ((hk = hk ∧ lw = lw ∧ (([] : List SV) = [])) ∧ (hk1 = hk1 ∧ lw1 = lw1 ∧ (([] : List SV) = [])) ∧ ((0 : Int) = (0 : Int) ∧ True ∧ (([] : List SV) = [])) ∧ ((0 : Int) = (0 : Int) ∧ True ∧ (([] : List SV) = [])) ∧ (lw = lw ∧ false = false) ∧ (lw1 = lw1 ∧ false = false) ∧ True))) ∧ ((lw.length ≤ 1000) ∧ (false = true → lw = []) ∧ (lw1.length ≤ 1000) ∧ (false = true → lw1 = []) ∧ ((True ∧ True ∧ True ∧ True ∧ (hk = hk ∧ True ∧ (([] : List SV) = [])) ∧ (hk1 = hk1 ∧ True ∧ (([] : List SV) = [])) ∧ True) ∧ ((hk = hk ∧ lw = lw ∧ (([] : List SV) = [])) ∧ (hk1 = hk1 ∧ lw1 = lw1 ∧ (([] : List SV) = [])) ∧ ((0 : Int) = (0 : Int) ∧ True ∧ (([] : List SV) = [])) ∧ ((0 : Int) = (0 : Int) ∧ True ∧ (([] : List SV) = [])) ∧ (lw = lw ∧ false = false) ∧ (lw1 = lw1 ∧ false = false) ∧ True))) ∧ ((lw.length ≤ 1000) ∧ (false = true → lw = []) ∧ (lw1.length ≤ 1000) ∧ (false = true → lw1 = []) ∧ ((True ∧ True ∧ True ∧ True ∧ (hk = hk ∧ True ∧ (([] : List SV) = [])) ∧ (hk1 = hk1 ∧ True ∧ (([] : List SV) = [])) ∧ True) ∧ ((hk = hk ∧ lw = lw ∧ (([] : List SV) = [])) ∧ (hk1 = hk1 ∧ lw1 = lw1 ∧ (([] : List SV) = [])) ∧ ((0 : Int) = (0 : Int) ∧ True ∧ (([] : List SV) = [])) ∧ ((0 : Int) = (0 : Int) ∧ True ∧ (([] : List SV) = [])) ∧ (lw = lw ∧ false = false) ∧ (lw1 = lw1 ∧ false = false) ∧ True))) ∧ (lw.length ≤ 1000000) ∧ (lw.length ≤ 1000 ∧ lw1.length ≤ 1000) ∧ (lw.length ≤ 1000) ∧ (lw.length ≤ 1000) ∧ (True) ∧ (lw.length ≤ 1000000) ∧ ((!(decide (hk = hk) && (lw == lw))) = false → lw1.length ≤ 1000000) ∧ ((((!(decide (hk = hk) && (lw == lw))) || (!(decide (hk1 = hk1) && (lw1 == lw1)))) || ((tieErr hk lw) != (tieErr hk lw))) = true →
   (false = true ∧ (True))) ∧
  ((((!(decide (hk = hk) && (lw == lw))) || (!(decide (hk1 = hk1) && (lw1 == lw1)))) || ((tieErr hk lw) != (tieErr hk lw))) = false →
   ∃ (e3 : Unit), CutP (fun (q3 : (Int) → Prop) =>
   (((tieErr hk lw) == (0 : Int)) = true →
    (True) ∧ (∃ d4 : Int, ((True ∧ True ∧ True ∧ (besErr hk lw hk1 lw1) = (besErr hk lw hk1 lw1) ∧ (if tieErr hk lw = 0 then repN lw else 0) = (if tieErr hk lw = 0 then repN lw else 0) ∧ (tieErr hk lw) = (tieErr hk lw) ∧ (if tieErr hk lw = 0 then mirI lw else 0) = (if tieErr hk lw = 0 then mirI lw else 0) ∧ (mirErr hk lw) = (mirErr hk lw) ∧ (tieErr hk lw) = (tieErr hk lw) ∧ (tieErr hk1 lw1) = d4 ∧ True) ∧ ((hk = hk ∧ lw = lw ∧ (([] : List SV) = [])) ∧ (hk1 = hk1 ∧ lw1 = lw1 ∧ (([] : List SV) = [])) ∧ ((if besErr hk lw hk1 lw1 = 0 then hk else 0) = (if besErr hk lw hk1 lw1 = 0 then hk else 0) ∧ True ∧ (([] : List SV) = [])) ∧ ((if besErr hk lw hk1 lw1 = 0 then lw ++ lw1 else []) = (if besErr hk lw hk1 lw1 = 0 then lw ++ lw1 else []) ∧ (decide (besErr hk lw hk1 lw1 ≠ 0)) = (decide (besErr hk lw hk1 lw1 ≠ 0))) ∧ True)) ∧ q3 d4)) ∧
   (((tieErr hk lw) == (0 : Int)) = false →
    (∃ d5 : Int, ((True ∧ True ∧ True ∧ (besErr hk lw hk1 lw1) = (besErr hk lw hk1 lw1) ∧ (if tieErr hk lw = 0 then repN lw else 0) = (if tieErr hk lw = 0 then repN lw else 0) ∧ (tieErr hk lw) = (tieErr hk lw) ∧ (if tieErr hk lw = 0 then mirI lw else 0) = (if tieErr hk lw = 0 then mirI lw else 0) ∧ (mirErr hk lw) = (mirErr hk lw) ∧ (tieErr hk lw) = (tieErr hk lw) ∧ (tieErr hk lw) = d5 ∧ True) ∧ ((hk = hk ∧ lw = lw ∧ (([] : List SV) = [])) ∧ (hk1 = hk1 ∧ lw1 = lw1 ∧ (([] : List SV) = [])) ∧ ((if besErr hk lw hk1 lw1 = 0 then hk else 0) = (if besErr hk lw hk1 lw1 = 0 then hk else 0) ∧ True ∧ (([] : List SV) = [])) ∧ ((if besErr hk lw hk1 lw1 = 0 then lw ++ lw1 else []) = (if besErr hk lw hk1 lw1 = 0 then lw ++ lw1 else []) ∧ (decide (besErr hk lw hk1 lw1 ≠ 0)) = (decide (besErr hk lw hk1 lw1 ≠ 0))) ∧ True)) ∧ q3 d5)))
   (fun (d3 : Int) =>
    ∃ (e8 : Unit), CutP (fun (q8 : (Int) → Prop) =>
    (((d3 == (0 : Int)) && (hk != hk1)) = true →
     (∃ d9 : Int, ((True ∧ True ∧ True ∧ (besErr hk lw hk1 lw1) = (besErr hk lw hk1 lw1) ∧ (if tieErr hk lw = 0 then repN lw else 0) = (if tieErr hk lw = 0 then repN lw else 0) ∧ (tieErr hk lw) = (tieErr hk lw) ∧ (if tieErr hk lw = 0 then mirI lw else 0) = (if tieErr hk lw = 0 then mirI lw else 0) ∧ (mirErr hk lw) = (mirErr hk lw) ∧ (tieErr hk lw) = (tieErr hk lw) ∧ (4 : Int) = d9 ∧ True) ∧ ((hk = hk ∧ lw = lw ∧ (([] : List SV) = [])) ∧ (hk1 = hk1 ∧ lw1 = lw1 ∧ (([] : List SV) = [])) ∧ ((if besErr hk lw hk1 lw1 = 0 then hk else 0) = (if besErr hk lw hk1 lw1 = 0 then hk else 0) ∧ True ∧ (([] : List SV) = [])) ∧ ((if besErr hk lw hk1 lw1 = 0 then lw ++ lw1 else []) = (if besErr hk lw hk1 lw1 = 0 then lw ++ lw1 else []) ∧ (decide (besErr hk lw hk1 lw1 ≠ 0)) = (decide (besErr hk lw hk1 lw1 ≠ 0))) ∧ True)) ∧ q8 d9)) ∧
    (((d3 == (0 : Int)) && (hk != hk1)) = false →
     (∃ d10 : Int, ((True ∧ True ∧ True ∧ (besErr hk lw hk1 lw1) = (besErr hk lw hk1 lw1) ∧ (if tieErr hk lw = 0 then repN lw else 0) = (if tieErr hk lw = 0 then repN lw else 0) ∧ (tieErr hk lw) = (tieErr hk lw) ∧ (if tieErr hk lw = 0 then mirI lw else 0) = (if tieErr hk lw = 0 then mirI lw else 0) ∧ (mirErr hk lw) = (mirErr hk lw) ∧ (tieErr hk lw) = (tieErr hk lw) ∧ d3 = d10 ∧ True) ∧ ((hk = hk ∧ lw = lw ∧ (([] : List SV) = [])) ∧ (hk1 = hk1 ∧ lw1 = lw1 ∧ (([] : List SV) = [])) ∧ ((if besErr hk lw hk1 lw1 = 0 then hk else 0) = (if besErr hk lw hk1 lw1 = 0 then hk else 0) ∧ True ∧ (([] : List SV) = [])) ∧ ((if besErr hk lw hk1 lw1 = 0 then lw ++ lw1 else []) = (if besErr hk lw hk1 lw1 = 0 then lw ++ lw1 else []) ∧ (decide (besErr hk lw hk1 lw1 ≠ 0)) = (decide (besErr hk lw hk1 lw1 ≠ 0))) ∧ True)) ∧ q8 d10)))
    (fun (d8 : Int) =>
     ((d8 == (0 : Int)) = true → InK .i64 ((lI lw) + (lI lw1))) ∧ ∃ (e13 : Unit), CutP (fun (q13 : (Int) → Prop) =>
     (((d8 == (0 : Int)) && (decide (((lI lw) + (lI lw1)) > (96 : Int)))) = true →
      (∃ d14 : Int, ((True ∧ True ∧ True ∧ (besErr hk lw hk1 lw1) = (besErr hk lw hk1 lw1) ∧ (if tieErr hk lw = 0 then repN lw else 0) = (if tieErr hk lw = 0 then repN lw else 0) ∧ (tieErr hk lw) = (tieErr hk lw) ∧ (if tieErr hk lw = 0 then mirI lw else 0) = (if tieErr hk lw = 0 then mirI lw else 0) ∧ (mirErr hk lw) = (mirErr hk lw) ∧ (tieErr hk lw) = (tieErr hk lw) ∧ (8 : Int) = d14 ∧ True) ∧ ((hk = hk ∧ lw = lw ∧ (([] : List SV) = [])) ∧ (hk1 = hk1 ∧ lw1 = lw1 ∧ (([] : List SV) = [])) ∧ ((if besErr hk lw hk1 lw1 = 0 then hk else 0) = (if besErr hk lw hk1 lw1 = 0 then hk else 0) ∧ True ∧ (([] : List SV) = [])) ∧ ((if besErr hk lw hk1 lw1 = 0 then lw ++ lw1 else []) = (if besErr hk lw hk1 lw1 = 0 then lw ++ lw1 else []) ∧ (decide (besErr hk lw hk1 lw1 ≠ 0)) = (decide (besErr hk lw hk1 lw1 ≠ 0))) ∧ True)) ∧ q13 d14)) ∧
     (((d8 == (0 : Int)) && (decide (((lI lw) + (lI lw1)) > (96 : Int)))) = false →
      (∃ d15 : Int, ((True ∧ True ∧ True ∧ (besErr hk lw hk1 lw1) = (besErr hk lw hk1 lw1) ∧ (if tieErr hk lw = 0 then repN lw else 0) = (if tieErr hk lw = 0 then repN lw else 0) ∧ (tieErr hk lw) = (tieErr hk lw) ∧ (if tieErr hk lw = 0 then mirI lw else 0) = (if tieErr hk lw = 0 then mirI lw else 0) ∧ (mirErr hk lw) = (mirErr hk lw) ∧ (tieErr hk lw) = (tieErr hk lw) ∧ d8 = d15 ∧ True) ∧ ((hk = hk ∧ lw = lw ∧ (([] : List SV) = [])) ∧ (hk1 = hk1 ∧ lw1 = lw1 ∧ (([] : List SV) = [])) ∧ ((if besErr hk lw hk1 lw1 = 0 then hk else 0) = (if besErr hk lw hk1 lw1 = 0 then hk else 0) ∧ True ∧ (([] : List SV) = [])) ∧ ((if besErr hk lw hk1 lw1 = 0 then lw ++ lw1 else []) = (if besErr hk lw hk1 lw1 = 0 then lw ++ lw1 else []) ∧ (decide (besErr hk lw hk1 lw1 ≠ 0)) = (decide (besErr hk lw hk1 lw1 ≠ 0))) ∧ True)) ∧ q13 d15)))
     (fun (d13 : Int) =>
      ∃ (e18 : Unit), CutP (fun (q18 : (Unit) → Prop) =>
      ((d13 != (0 : Int)) = true →
       (((besErr hk lw hk1 lw1) != d13) = false → True) ∧ ((((besErr hk lw hk1 lw1) != d13) || (!(decide ((if besErr hk lw hk1 lw1 = 0 then hk else 0) = 0) && decide ((if besErr hk lw hk1 lw1 = 0 then lw ++ lw1 else []).length = 0)))) = true →
        (false = true ∧ (True))) ∧
       ((((besErr hk lw hk1 lw1) != d13) || (!(decide ((if besErr hk lw hk1 lw1 = 0 then hk else 0) = 0) && decide ((if besErr hk lw hk1 lw1 = 0 then lw ++ lw1 else []).length = 0)))) = false →
        (∃ d19 : Unit, ((True ∧ (if tieErr hk lw = 0 then repN lw else 0) = (if tieErr hk lw = 0 then repN lw else 0) ∧ (tieErr hk lw) = (tieErr hk lw) ∧ (if tieErr hk lw = 0 then mirI lw else 0) = (if tieErr hk lw = 0 then mirI lw else 0) ∧ (mirErr hk lw) = (mirErr hk lw) ∧ (tieErr hk lw) = (tieErr hk lw) ∧ True) ∧ ((hk = hk ∧ lw = lw ∧ (([] : List SV) = [])) ∧ True)) ∧ q18 d19))) ∧
      ((d13 != (0 : Int)) = false →
       ((((besErr hk lw hk1 lw1) != (0 : Int)) = true →
        (true = true →
         (false = true ∧ (True))) ∧
        (true = false →
         (∃ d20 : Unit, ((True ∧ (if tieErr hk lw = 0 then repN lw else 0) = (if tieErr hk lw = 0 then repN lw else 0) ∧ (tieErr hk lw) = (tieErr hk lw) ∧ (if tieErr hk lw = 0 then mirI lw else 0) = (if tieErr hk lw = 0 then mirI lw else 0) ∧ (mirErr hk lw) = (mirErr hk lw) ∧ (tieErr hk lw) = (tieErr hk lw) ∧ True) ∧ ((hk = hk ∧ lw = lw ∧ (([] : List SV) = [])) ∧ True)) ∧ q18 d20))) ∧
       (((besErr hk lw hk1 lw1) != (0 : Int)) = false →
        (((List.length ([] : List Int)) + (List.length lw)) * 8 ≤ 70368744177664) ∧ (((List.length (([] : List Int) ++ lw)) + (List.length lw1)) * 8 ≤ 70368744177664) ∧ ((if besErr hk lw hk1 lw1 = 0 then lw ++ lw1 else []).length ≤ 1000000) ∧ ((!(decide ((if besErr hk lw hk1 lw1 = 0 then hk else 0) = hk) && ((if besErr hk lw hk1 lw1 = 0 then lw ++ lw1 else []) == ((([] : List Int) ++ lw) ++ lw1)))) = true →
         (false = true ∧ (True))) ∧
        ((!(decide ((if besErr hk lw hk1 lw1 = 0 then hk else 0) = hk) && ((if besErr hk lw hk1 lw1 = 0 then lw ++ lw1 else []) == ((([] : List Int) ++ lw) ++ lw1)))) = false →
         (∃ d21 : Unit, ((True ∧ (if tieErr hk lw = 0 then repN lw else 0) = (if tieErr hk lw = 0 then repN lw else 0) ∧ (tieErr hk lw) = (tieErr hk lw) ∧ (if tieErr hk lw = 0 then mirI lw else 0) = (if tieErr hk lw = 0 then mirI lw else 0) ∧ (mirErr hk lw) = (mirErr hk lw) ∧ (tieErr hk lw) = (tieErr hk lw) ∧ True) ∧ ((hk = hk ∧ lw = lw ∧ (([] : List SV) = [])) ∧ True)) ∧ q18 d21))))))
      (fun (d18 : Unit) =>
       (((tieErr hk lw) != (0 : Int)) = true →
        ((((((tieErr hk lw) == (tieErr hk lw)) && ((mirErr hk lw) == (tieErr hk lw))) && ((if tieErr hk lw = 0 then repN lw else 0) == (0 : Int))) && ((if tieErr hk lw = 0 then mirI lw else 0) == (0 : Int))) = true → True) ∧ (((((((tieErr hk lw) == (tieErr hk lw)) && ((mirErr hk lw) == (tieErr hk lw))) && ((if tieErr hk lw = 0 then repN lw else 0) == (0 : Int))) && ((if tieErr hk lw = 0 then mirI lw else 0) == (0 : Int))) && true) = true ∧ (True))) ∧
       (((tieErr hk lw) != (0 : Int)) = false →
        (lw.length ≤ 1000) ∧ ((!((mirN lw).isSome)) = true →
         (((tieErr hk lw) == (0 : Int)) = true → lw ≠ [] ∧ lw.length ≤ 1000) ∧ ((((((tieErr hk lw) == (0 : Int)) && ((if tieErr hk lw = 0 then repN lw else 0) == (repN lw))) && ((mirErr hk lw) == (7 : Int))) && ((if tieErr hk lw = 0 then mirI lw else 0) == (0 : Int))) = true → True) ∧ (((((((tieErr hk lw) == (0 : Int)) && ((if tieErr hk lw = 0 then repN lw else 0) == (repN lw))) && ((mirErr hk lw) == (7 : Int))) && ((if tieErr hk lw = 0 then mirI lw else 0) == (0 : Int))) && true) = true ∧ (True))) ∧
        ((!((mirN lw).isSome)) = false →
         (((tieErr hk lw) == (0 : Int)) = true → lw ≠ [] ∧ lw.length ≤ 1000) ∧ ((((((tieErr hk lw) == (0 : Int)) && ((if tieErr hk lw = 0 then repN lw else 0) == (repN lw))) && ((mirErr hk lw) == (0 : Int))) && ((if tieErr hk lw = 0 then mirI lw else 0) == (mirI lw))) = true → True) ∧ (((((((tieErr hk lw) == (0 : Int)) && ((if tieErr hk lw = 0 then repN lw else 0) == (repN lw))) && ((mirErr hk lw) == (0 : Int))) && ((if tieErr hk lw = 0 then mirI lw else 0) == (mirI lw))) && true) = true ∧ (True))))))))))
def cx_law03_TieBesides : Cx := ⟨[(3, (.i .i64))], [(18, s_law03_large), (14, s_law03_known), (19, s_law03_own), (58, s_tie_Check), (59, s_tie_Beside), (60, s_tie_Repeat), (61, s_tie_Mirrors), (33, s_ref03_Check), (17, s_ref03_Same), (41, s_law03_none), (62, s_ref03_Mirrors), (63, s_ref03_Repeat)], 189, [], 0, [], [], [], [2, 3, 5, 6, 28, 30], false, [], [], [104]⟩
def lp_law03_TieBesides (hk : Int) (lw : List Int) (hk1 : Int) (lw1 : List Int) : List (Nat × LoopAnn) := [(3000068, ⟨Unit, Int, [2, 3, 8, 9, 10, 11, 12, 13, 14, 15], fun e x => [.box 2 0, .box 3 0, .box 8 0, .val (.i .i64) (besErr hk lw hk1 lw1), .val (.i .i64) (if tieErr hk lw = 0 then repN lw else 0), .val (.i .i64) (tieErr hk lw), .val (.i .i64) (if tieErr hk lw = 0 then mirI lw else 0), .val (.i .i64) (mirErr hk lw), .val (.i .i64) (tieErr hk lw), .val (.i .i64) x], fun e x => [(2, .slot 2, .cells [.val (.i .i64) hk, .val (.list (.i .i64)) lw] (some 26)), (3, .slot 3, .cells [.val (.i .i64) hk1, .val (.list (.i .i64)) lw1] (some 26)), (8, .slot 8, .cells [.val (.i .i64) (if besErr hk lw hk1 lw1 = 0 then hk else 0), .lst 36] (some 26)), (36, .cell 8 1, .lst 3 (.i .i64) (if besErr hk lw hk1 lw1 = 0 then lw ++ lw1 else []) (decide (besErr hk lw hk1 lw1 ≠ 0)))]⟩),
 (3000079, ⟨Unit, Int, [2, 3, 8, 9, 10, 11, 12, 13, 14, 15], fun e x => [.box 2 0, .box 3 0, .box 8 0, .val (.i .i64) (besErr hk lw hk1 lw1), .val (.i .i64) (if tieErr hk lw = 0 then repN lw else 0), .val (.i .i64) (tieErr hk lw), .val (.i .i64) (if tieErr hk lw = 0 then mirI lw else 0), .val (.i .i64) (mirErr hk lw), .val (.i .i64) (tieErr hk lw), .val (.i .i64) x], fun e x => [(2, .slot 2, .cells [.val (.i .i64) hk, .val (.list (.i .i64)) lw] (some 26)), (3, .slot 3, .cells [.val (.i .i64) hk1, .val (.list (.i .i64)) lw1] (some 26)), (8, .slot 8, .cells [.val (.i .i64) (if besErr hk lw hk1 lw1 = 0 then hk else 0), .lst 36] (some 26)), (36, .cell 8 1, .lst 3 (.i .i64) (if besErr hk lw hk1 lw1 = 0 then lw ++ lw1 else []) (decide (besErr hk lw hk1 lw1 ≠ 0)))]⟩),
 (3000091, ⟨Unit, Int, [2, 3, 8, 9, 10, 11, 12, 13, 14, 15], fun e x => [.box 2 0, .box 3 0, .box 8 0, .val (.i .i64) (besErr hk lw hk1 lw1), .val (.i .i64) (if tieErr hk lw = 0 then repN lw else 0), .val (.i .i64) (tieErr hk lw), .val (.i .i64) (if tieErr hk lw = 0 then mirI lw else 0), .val (.i .i64) (mirErr hk lw), .val (.i .i64) (tieErr hk lw), .val (.i .i64) x], fun e x => [(2, .slot 2, .cells [.val (.i .i64) hk, .val (.list (.i .i64)) lw] (some 26)), (3, .slot 3, .cells [.val (.i .i64) hk1, .val (.list (.i .i64)) lw1] (some 26)), (8, .slot 8, .cells [.val (.i .i64) (if besErr hk lw hk1 lw1 = 0 then hk else 0), .lst 36] (some 26)), (36, .cell 8 1, .lst 3 (.i .i64) (if besErr hk lw hk1 lw1 = 0 then lw ++ lw1 else []) (decide (besErr hk lw hk1 lw1 ≠ 0)))]⟩),
 (3000093, ⟨Unit, Unit, [2, 10, 11, 12, 13, 14], fun e x => [.box 2 0, .val (.i .i64) (if tieErr hk lw = 0 then repN lw else 0), .val (.i .i64) (tieErr hk lw), .val (.i .i64) (if tieErr hk lw = 0 then mirI lw else 0), .val (.i .i64) (mirErr hk lw), .val (.i .i64) (tieErr hk lw)], fun e x => [(2, .slot 2, .cells [.val (.i .i64) hk, .val (.list (.i .i64)) lw] (some 26))]⟩)]
set_option maxRecDepth 100000 in
theorem vq_law03_TieBesides (d : (Int × List Int) × Int × List Int) : gwp (cx_law03_TieBesides) (lp_law03_TieBesides d.1.1 d.1.2 d.2.1 d.2.2) c11 0 (gend [.tmp 4] (res_law03_TieBesides d) (obs_law03_TieBesides d)) (gstart 189 (AL.can al_law03_TieBesides d)) = vc_law03_TieBesides d.1.1 d.1.2 d.2.1 d.2.2 := by kernel_rfl
abbrev Ok_law03_TieBesides : Prop := OkC Tryz.prog 11 s_law03_TieBesides
theorem mk_law03_TieBesides (h : ∀ (hk : Int) (lw : List Int) (hk1 : Int) (lw1 : List Int), (True) → vc_law03_TieBesides hk lw hk1 lw1) : OkC Tryz.prog 11 s_law03_TieBesides :=
 okC_vc fun11 mixed (C := cx_law03_TieBesides) (V := fun (d : (Int × List Int) × Int × List Int) => vc_law03_TieBesides d.1.1 d.1.2 d.2.1 d.2.2) ⟨(.cons ok_law03_large (.cons ok_law03_known (.cons ok_law03_own (.cons ok_tie_Check (.cons ok_tie_Beside (.cons ok_tie_Repeat (.cons ok_tie_Mirrors (.cons ok_ref03_Check (.cons ok_ref03_Same (.cons ok_law03_none (.cons ok_ref03_Mirrors (.cons ok_ref03_Repeat .nil)))))))))))), XsOk.nil, ItsOk.nil, YlOk.nil, IysOk.nil⟩ (vq_law03_TieBesides) fun d hp => h d.1.1 d.1.2 d.2.1 d.2.2 hp
theorem ok_law03_TieBesides : Ok_law03_TieBesides := mk_law03_TieBesides fun hk lw hk1 lw1 _ => by
 unfold vc_law03_TieBesides; delta lI gD
 have hN : (mirN lw).isSome = false → mirI lw = 0 := fun h => by
  cases hm : mirN lw with
  | none => simp [mirI, hm]
  | some s => rw [hm] at h; cases h
 refine ⟨by simp, fun _ => by simp, fun _ => (by and_intros <;> first | rfl | trivial | simp), fun hl => ?_⟩
 have hl1 : lw.length ≤ 110 ∧ lw1.length ≤ 110 := by simp [largeB] at hl; omega
 clear hl
 obtain ⟨l1, l2⟩ := hl1
 have ne1 : tieErr hk lw = 0 → lw ≠ [] := fun h e => (tieErr_zero h).2.2.2.1 (by simp [e])
 and_intros
 all_goals try first | omega | trivial | (intros; omega) | (intro h; cases h; done) | (intro h; simp at h; done)
 intro _
 refine ⟨(), fun d => d = (if tieErr hk lw = 0 then tieErr hk1 lw1 else tieErr hk lw), ⟨fun h => ⟨trivial, _, (by and_intros <;> first | rfl | trivial | simp), ?_⟩, fun h => ⟨_, (by and_intros <;> first | rfl | trivial | simp), ?_⟩⟩, fun d1 hd1 => ?_⟩
 ·simp only [beq_iff_eq] at h; rw [if_pos h]
 ·simp only [beq_eq_false_iff_ne, ne_eq] at h; rw [if_neg h]
 refine ⟨(), fun d => d = (if d1 = 0 then if hk = hk1 then 0 else 4 else d1), ⟨fun h => ⟨_, (by and_intros <;> first | rfl | trivial | simp), ?_⟩, fun h => ⟨_, (by and_intros <;> first | rfl | trivial | simp), ?_⟩⟩, fun d2 hd2 => ⟨fun _ => by rw [InK_i64]; omega, ?_⟩⟩
 ·simp only [Bool.and_eq_true, beq_iff_eq, bne_iff_ne] at h; rw [if_pos h.1, if_neg h.2]
 ·simp only [Bool.and_eq_false_iff, beq_eq_false_iff_ne, bne_eq_false_iff_eq] at h
  rcases h with h | h
  ·rw [if_neg h]
  ·by_cases h1 : d1 = 0
   ·rw [if_pos h1, if_pos h, h1]
   ·rw [if_neg h1]
 have hb : besErr hk lw hk1 lw1 = (if d2 = 0 then (if 96 < lw.length + lw1.length then 8 else 0) else d2) := by
  rw [hd2, hd1]
  unfold besErr
  generalize tieErr hk lw = a
  generalize tieErr hk1 lw1 = b
  by_cases e1 : a = 0 <;> by_cases e2 : b = 0 <;> by_cases e3 : hk = hk1 <;> simp [e1, e2, e3]
 refine ⟨(), fun d => d = besErr hk lw hk1 lw1, ⟨fun h => ⟨_, (by and_intros <;> first | rfl | trivial | simp), ?_⟩, fun h => ⟨_, (by and_intros <;> first | rfl | trivial | simp), ?_⟩⟩, fun d3 hd3 => ?_⟩
 ·simp only [Bool.and_eq_true, beq_iff_eq, decide_eq_true_eq] at h
  have h4 : 96 < lw.length + lw1.length := by omega
  rw [hb, if_pos h.1, if_pos h4]
 ·simp only [Bool.and_eq_false_iff, beq_eq_false_iff_ne, decide_eq_false_iff_not] at h
  rw [hb]
  by_cases h1 : d2 = 0
  ·have h4 : ¬ 96 < lw.length + lw1.length := by omega
   rw [if_pos h1, if_neg h4, h1]
  ·rw [if_neg h1]
 clear hb
 clear hd2 hd1 d2 d1
 subst hd3
 refine ⟨(), fun _ => True, ⟨fun h => ⟨fun _ => trivial, fun h2 => ?_, fun _ => ⟨(), (by and_intros <;> first | rfl | trivial | simp), trivial⟩⟩, fun h => ⟨fun h2 => ?_, fun h2 => ?_⟩⟩, fun _ _ => ?_⟩
 ·simp only [bne_iff_ne, ne_eq] at h
  simp [h] at h2
 ·rw [h2] at h; cases h
 ·have k1 : (([] : List Int).length + lw.length) * 8 ≤ 70368744177664 := by rw [List.length_nil]; omega
  have k2 : ((([] : List Int) ++ lw).length + lw1.length) * 8 ≤ 70368744177664 := by rw [List.length_append, List.length_nil]; omega
  refine ⟨k1, k2, ?_, fun h3 => ?_, fun h3 => ⟨(), (by and_intros <;> first | rfl | trivial | simp), trivial⟩⟩
  ·split
   ·rw [List.length_append]; omega
   ·exact Nat.zero_le _
  ·have h2 : besErr hk lw hk1 lw1 = 0 := by simpa using h2
   simp [h2] at h3
 ·refine ⟨fun h => ?_, fun h => ⟨by omega, fun h2 => ?_, fun h2 => ?_⟩⟩
  ·have h : tieErr hk lw ≠ 0 := by simpa using h
   simp [h, mirErr]
  ·have h : tieErr hk lw = 0 := by simpa using h
   have h2 : (mirN lw).isSome = false := by simpa using h2
   have h3 : lw.length ≤ 1000 := by omega
   simp [h, mirErr, h2, hN h2, ne1 h, h3]
  ·have h : tieErr hk lw = 0 := by simpa using h
   have h2 : (mirN lw).isSome = true := by simpa using h2
   have h3 : lw.length ≤ 1000 := by omega
   simp [h, mirErr, h2, ne1 h, h3]
end Go.Proofs.Tryz