/- A framework for walks, contracts of functions, and their proofs: part 6. -/
import Derived.Test.YtfgcglmakclnkaaGreatDoorR5
namespace Go.Proofs.Tryz
open Go Go.V
noncomputable def tabT : List (Option FEnt):=[
 none,
 none,
 some (.code c2 [] 1),
 some (.code c3 [.tmp 4] 65),
 some (.code c4 [.tmp 6] 106),
 some (.code c5 [.tmp 4] 131),
 some (.code c6 [.tmp 2] 125),
 some (.code c7 [.tmp 4] 113),
 some (.code c8 [.tmp 4] 326),
 some (.code c9 [.tmp 4] 274),
 some (.code c10 [.tmp 4] 143),
 some (.code c11 [.tmp 4] 189),
 some (.code c12 [.tmp 4] 298),
 some (.code c13 [.tmp 4] 185),
 some (.code c14 [.tmp 0] 239),
 some (.code c15 [.cell 4 true 2,.tmp 5,.tmp 6] 78),
 some (.code c16 [.cell 4 true 2,.tmp 5,.tmp 6] 84),
 some (.code c17 [.tmp 4] 38),
 some (.code c18 [.tmp 6] 35),
 some (.code c19 [.cell 2 true 2] 10),
 some (.code c20 [.cell 2 true 2] 10),
 some (.code c21 [.tmp 4,.tmp 5] 43),
 some (.code c22 [.cell 6 false 1,.tmp 7] 49),
 some (.code c23 [.tmp 4] 28),
 some (.code c24 [.tmp 4] 22),
 some (.code c25 [.tmp 4] 46),
 some (.code c26 [.tmp 4] 26),
 some (.code c27 [.tmp 6] 15),
 some (.code c28 [.tmp 4] 26),
 some (.code c29 [.tmp 4] 50),
 some (.code c30 [.tmp 2] 6),
 some (.code c31 [.cell 4 true 2,.tmp 5] 33),
 some (.code c32 [.tmp 4,.tmp 5,.tmp 6,.tmp 7] 30),
 some (.code c33 [.tmp 2] 33),
 some (.code c34 [.tmp 4] 52),
 some (.code c35 [.tmp 2] 12),
 some (.code c36 [.cell 4 true 3,.tmp 5] 47),
 some (.code c37 [.cell 4 true 2] 48),
 some (.code c38 [.cell 2 true 2,.cell 3 true 2,.tmp 4] 20),
 some (.codeJ c39 [.tmp 2,.tmp 3] 30),
 some (.code c40 [.tmp 2] 35),
 some (.code c41 [.tmp 2] 12),
 some (.code c42 [.cell 2 true 2] 41),
 some (.code c43 [.tmp 4,.tmp 5,.tmp 6] 40),
 some (.code c44 [.tmp 4] 31),
 some (.code c45 [.tmp 6] 22),
 some (.code c46 [.tmp 2] 22),
 some (.code c47 [.cell 4 true 2] 8),
 some (.code c48 [.cell 2 true 2] 48),
 some (.code c49 [.cell 2 true 2] 51),
 some (.code c50 [.tmp 6] 25),
 some (.code c51 [.tmp 2] 22),
 some (.code c52 [.tmp 4] 38),
 some (.code c53 [.tmp 4] 26),
 some (.code c54 [.cell 8 true 4] 14),
 some (.code c55 [.cell 4 true 2,.tmp 5] 67),
 some (.code c56 [.cell 2 true 2,.tmp 3] 28),
 some (.code c57 [.tmp 4] 45),
 some (.code c58 [.tmp 2] 27),
 some (.code c59 [.cell 4 true 2,.tmp 5] 48),
 some (.code c60 [.tmp 2,.tmp 3] 39),
 some (.code c61 [.tmp 2,.tmp 3] 37),
 some (.code c62 [.tmp 2,.tmp 3] 40),
 some (.code c63 [.tmp 2] 35),
 some (.code c64 [.tmp 2] 55),
 some (.codeJ c65 [.cell 6 true 2,.tmp 7,.tmp 8] 84),
 some (.code c66 [.cell 6 false 1,.tmp 7] 42),
 some (.code c67 [.tmp 6] 11),
 some (.code c68 [.tmp 4] 48),
 some (.code c69 [.tmp 2] 32),
 some (.code c70 [.tmp 2] 50),
 some (.code c71 [.tmp 2] 28),
 some (.code c72 [.tmp 4] 22),
 some (.code c73 [] 64),
 some (.code c74 [.tmp 4] 19),
 some (.code c75 [.tmp 2] 35),
 some (.code c76 [.tmp 2] 25),
 some (.code c77 [.tmp 2] 20),
 some (.code c78 [.tmp 4] 56),
 some (.code c79 [.tmp 4] 16),
 some (.code c80 [.tmp 4,.tmp 5,.tmp 6,.tmp 7] 47),
 some (.code c81 [.cell 4 true 2] 47),
 some (.code c82 [.tmp 4] 21),
 some (.code c83 [.cell 2 true 2] 27),
 some (.code c84 [.cell 2 true 2,.tmp 3] 61),
 some (.code c85 [.tmp 2] 17),
 some (.code c86 [] 11),
 some (.code c87 [.tmp 6] 27),
 some (.code c88 [.cell 4 true 2] 59),
 some (.code c89 [.tmp 2,.cell 3 true 2] 47),
 some (.code c90 [.tmp 4] 22),
 some (.code c91 [.tmp 2] 18),
 some (.code c92 [.cell 6 true 2] 38),
 some (.code c93 [.tmp 6] 17),
 some (.code c94 [.tmp 6] 26),
 some (.code c95 [.tmp 2] 36),
 some (.code c96 [.tmp 4] 26),
 some (.code c97 [.tmp 5] 23),
 some (.code c98 [.tmp 6] 11),
 some (.code c99 [.tmp 2,.tmp 3] 102),
 some (.code c100 [.tmp 4] 21),
 some (.code c101 [.tmp 4] 9),
 some (.code c102 [.tmp 4] 13),
 some (.code c103 [.tmp 4,.tmp 5] 30),
 some (.code c104 [.tmp 2] 5),
 some (.code c105 [.tmp 4] 6),
 some (.code c106 [.tmp 4] 17),
 some (.code c107 [.tmp 2] 4),
 some (.code c108 [.tmp 6] 17),
 some (.code c109 [.tmp 2] 14),
 some (.code c110 [.tmp 3] 18),
 some (.code c111 [.tmp 6] 15),
 some (.code c112 [.tmp 4] 23),
 some (.code c113 [.tmp 2] 21),
 some (.code c114 [.tmp 4] 20),
 some (.code c115 [.tmp 2] 4),
 some (.code c116 [] 134),
 some (.code c117 [.tmp 2] 8),
 some (.code c118 [.tmp 6] 36),
 some (.code c119 [.tmp 4] 27),
 some (.code c120 [.tmp 4] 13),
 some (.code c121 [.cell 4 true 4] 20),
 some (.code c122 [.tmp 6] 29),
 some (.code c123 [.tmp 4] 81),
 some (.code c124 [.tmp 2] 4),
 some (.code c125 [.cell 6 true 4,.tmp 7] 40),
 some (.code c126 [.tmp 4] 27),
 some (.code c127 [.tmp 4] 25),
 some (.code c128 [] 37),
 some (.code c129 [] 50),
 some (.code c130 [.tmp 4] 19),
 some (.code c131 [.tmp 4,.tmp 5] 17),
 some (.code c132 [.tmp 4,.tmp 5] 51),
 some (.code c133 [.tmp 4] 13),
 some (.code c134 [] 22),
 some (.code c135 [] 20),
 some (.code c136 [.tmp 3] 13),
 some (.code c137 [.tmp 4] 43),
 some (.code c138 [.tmp 4] 9),
 some (.code c139 [] 19),
 some (.code c140 [] 49),
 some (.code c141 [] 56),
 some (.code c142 [] 65),
 some (.code c143 [.tmp 6,.tmp 7] 57),
 some (.code c144 [] 32),
 some (.code c145 [.tmp 6] 133),
 some (.code c146 [.tmp 4] 17),
 some (.code c147 [.tmp 8] 84),
 some (.code c148 [.tmp 8,.tmp 9] 168),
 some (.code c149 [.tmp 2] 19),
 some (.code c150 [.tmp 2] 25),
 some (.code c151 [.tmp 3] 20),
 some .same,
 some (.code c153 [.tmp 4] 17),
 some (.code c154 [.tmp 4] 23),
 some (.code c155 [.cell 2 true 256,.tmp 3] 21),
 some (.code c156 [.tmp 4] 16),
 some (.code c157 [.tmp 4] 22),
 some (.code c158 [.tmp 4] 23),
 some (.code c159 [.tmp 4] 34),
 some (.code c160 [.tmp 4] 19),
 some (.code c161 [] 76),
 some (.code c162 [.tmp 2] 7),
 some (.code c163 [.tmp 2] 33),
 some (.code c164 [.tmp 6] 15),
 some (.code c165 [.tmp 10] 36),
 some (.code c166 [.tmp 2] 6),
 some (.code c167 [.tmp 4] 10),
 some (.code c168 [.tmp 2,.tmp 3] 19),
 some (.code c169 [.tmp 4] 9),
 some (.code c170 [.tmp 2,.tmp 3] 51),
 some (.code c171 [.tmp 8,.tmp 9] 28),
 some (.code c172 [.tmp 2,.tmp 3] 117),
 some (.code c173 [.tmp 4] 187),
 some (.code c174 [.tmp 2] 6),
 some (.code c175 [.tmp 4] 8),
 some (.code c176 [.tmp 2] 17),
 some (.code c177 [.tmp 2] 6),
 none,
 some (.code c179 [.tmp 4] 8)]
noncomputable def tabt : Tab:=fun f=>(tabT[f]?).join
theorem tabT_ok : EntsOk Tryz.prog 0 tabT:=⟨trivial,trivial,fun2,fun3,fun4,fun5,fun6,fun7,fun8,fun9,fun10,fun11,fun12,fun13,fun14,fun15,fun16,fun17,fun18,fun19,fun20,fun21,fun22,fun23,fun24,fun25,fun26,fun27,fun28,fun29,fun30,fun31,fun32,fun33,fun34,fun35,fun36,fun37,fun38,fun39,fun40,fun41,fun42,fun43,fun44,fun45,fun46,fun47,fun48,fun49,fun50,fun51,fun52,fun53,fun54,fun55,fun56,fun57,fun58,fun59,fun60,fun61,fun62,fun63,fun64,fun65,fun66,fun67,fun68,fun69,fun70,fun71,fun72,fun73,fun74,fun75,fun76,fun77,fun78,fun79,fun80,fun81,fun82,fun83,fun84,fun85,fun86,fun87,fun88,fun89,fun90,fun91,fun92,fun93,fun94,fun95,fun96,fun97,fun98,fun99,fun100,fun101,fun102,fun103,fun104,fun105,fun106,fun107,fun108,fun109,fun110,fun111,fun112,fun113,fun114,fun115,fun116,fun117,fun118,fun119,fun120,fun121,fun122,fun123,fun124,fun125,fun126,fun127,fun128,fun129,fun130,fun131,fun132,fun133,fun134,fun135,fun136,fun137,fun138,fun139,fun140,fun141,fun142,fun143,fun144,fun145,fun146,fun147,fun148,fun149,fun150,fun151,same152,fun153,fun154,fun155,fun156,fun157,fun158,fun159,fun160,fun161,fun162,fun163,fun164,fun165,fun166,fun167,fun168,fun169,fun170,fun171,fun172,fun173,fun174,fun175,fun176,fun177,trivial,fun179,trivial⟩
theorem tabt_ok : TabOk Tryz.prog tabt:=tabOk_of tabT_ok
end Go.Proofs.Tryz
namespace Go.Proofs.Tryz
open Go Go.V
def memo0_2 : Memo:=⟨[.agg #[.int .i64 4,.slice (some ⟨0,0,none⟩) 1 1],.slice (some ⟨1,0,none⟩) 1 1,.int .i64 2],[⟨[.int .i64 0],⟨1,3⟩,true⟩,⟨[.int .i64 0],⟨1,3⟩,true⟩],.tuple #[.agg #[.int .i64 4,.slice (some ⟨2,0,none⟩) 1 1],.int .i64 2,.int .i64 0],[⟨[.int .i64 3],⟨1,3⟩,false⟩]⟩
theorem memo0_2_ok : MemoOk Tryz.prog 65 memo0_2:=memo_run mixed tabt_ok 200 (by kernel_rfl) (by kernel_rfl)
def memo1_2 : Memo:=⟨[.agg #[.int .i64 4,.slice (some ⟨0,0,none⟩) 1 1],.slice (some ⟨1,0,none⟩) 1 1,.int .i64 2],[⟨[.int .i64 1],⟨1,3⟩,true⟩,⟨[.int .i64 1],⟨1,3⟩,true⟩],.tuple #[.agg #[.int .i64 4,.slice (some ⟨2,0,none⟩) 1 1],.int .i64 1,.int .i64 0],[⟨[.int .i64 3],⟨1,3⟩,false⟩]⟩
theorem memo1_2_ok : MemoOk Tryz.prog 65 memo1_2:=memo_run mixed tabt_ok 200 (by kernel_rfl) (by kernel_rfl)
def memo2_2 : Memo:=⟨[.agg #[.int .i64 4,.slice (some ⟨0,0,none⟩) 1 1],.slice (some ⟨1,0,none⟩) 1 1,.int .i64 2],[⟨[.int .i64 2],⟨1,3⟩,true⟩,⟨[.int .i64 2],⟨1,3⟩,true⟩],.tuple #[.agg #[.int .i64 4,.slice (some ⟨2,0,none⟩) 1 1],.int .i64 1,.int .i64 0],[⟨[.int .i64 3],⟨1,3⟩,false⟩]⟩
theorem memo2_2_ok : MemoOk Tryz.prog 65 memo2_2:=memo_run mixed tabt_ok 200 (by kernel_rfl) (by kernel_rfl)
def memo3_2 : Memo:=⟨[.agg #[.int .i64 4,.slice (some ⟨0,0,none⟩) 1 1],.slice (some ⟨1,0,none⟩) 1 1,.int .i64 2],[⟨[.int .i64 3],⟨1,3⟩,true⟩,⟨[.int .i64 3],⟨1,3⟩,true⟩],.tuple #[.agg #[.int .i64 4,.slice (some ⟨2,0,none⟩) 1 1],.int .i64 0,.int .i64 0],[⟨[.int .i64 3],⟨1,3⟩,false⟩]⟩
theorem memo3_2_ok : MemoOk Tryz.prog 65 memo3_2:=memo_run mixed tabt_ok 200 (by kernel_rfl) (by kernel_rfl)
def memo4_2 : Memo:=⟨[.agg #[.int .i64 4,.slice (some ⟨0,0,none⟩) 1 1],.slice (some ⟨1,0,none⟩) 1 1,.int .i64 2],[⟨[.int .i64 4],⟨1,3⟩,true⟩,⟨[.int .i64 4],⟨1,3⟩,true⟩],.tuple #[.agg #[.int .i64 4,.slice (some ⟨2,0,none⟩) 1 1],.int .i64 1,.int .i64 0],[⟨[.int .i64 5],⟨1,3⟩,false⟩]⟩
theorem memo4_2_ok : MemoOk Tryz.prog 65 memo4_2:=memo_run mixed tabt_ok 200 (by kernel_rfl) (by kernel_rfl)
def memo5_2 : Memo:=⟨[.agg #[.int .i64 4,.slice (some ⟨0,0,none⟩) 1 1],.slice (some ⟨1,0,none⟩) 1 1,.int .i64 2],[⟨[.int .i64 5],⟨1,3⟩,true⟩,⟨[.int .i64 5],⟨1,3⟩,true⟩],.tuple #[.agg #[.int .i64 4,.slice (some ⟨2,0,none⟩) 1 1],.int .i64 0,.int .i64 0],[⟨[.int .i64 5],⟨1,3⟩,false⟩]⟩
theorem memo5_2_ok : MemoOk Tryz.prog 65 memo5_2:=memo_run mixed tabt_ok 200 (by kernel_rfl) (by kernel_rfl)
def memo6_2 : Memo:=⟨[.agg #[.int .i64 4,.slice (some ⟨0,0,none⟩) 1 1],.slice (some ⟨1,0,none⟩) 1 1,.int .i64 2],[⟨[.int .i64 6],⟨1,3⟩,true⟩,⟨[.int .i64 6],⟨1,3⟩,true⟩],.tuple #[.agg #[.int .i64 4,.slice (some ⟨2,0,none⟩) 1 1],.int .i64 0,.int .i64 0],[⟨[.int .i64 6],⟨1,3⟩,false⟩]⟩
theorem memo6_2_ok : MemoOk Tryz.prog 65 memo6_2:=memo_run mixed tabt_ok 200 (by kernel_rfl) (by kernel_rfl)
def memo7_2 : Memo:=⟨[.agg #[.int .i64 4,.slice (some ⟨0,0,none⟩) 1 1],.slice (some ⟨1,0,none⟩) 1 1,.int .i64 2],[⟨[.int .i64 7],⟨1,3⟩,true⟩,⟨[.int .i64 7],⟨1,3⟩,true⟩],.tuple #[.agg #[.int .i64 0,.slice none 0 0],.int .i64 0,.int .i64 9],[]⟩
theorem memo7_2_ok : MemoOk Tryz.prog 65 memo7_2:=memo_run mixed tabt_ok 200 (by kernel_rfl) (by kernel_rfl)
def memo8_2 : Memo:=⟨[.agg #[.int .i64 4,.slice (some ⟨0,0,none⟩) 1 1],.slice (some ⟨1,0,none⟩) 1 1,.int .i64 2],[⟨[.int .i64 8],⟨1,3⟩,true⟩,⟨[.int .i64 8],⟨1,3⟩,true⟩],.tuple #[.agg #[.int .i64 4,.slice (some ⟨2,0,none⟩) 1 1],.int .i64 1,.int .i64 0],[⟨[.int .i64 9],⟨1,3⟩,false⟩]⟩
theorem memo8_2_ok : MemoOk Tryz.prog 65 memo8_2:=memo_run mixed tabt_ok 200 (by kernel_rfl) (by kernel_rfl)
def memo9_2 : Memo:=⟨[.agg #[.int .i64 4,.slice (some ⟨0,0,none⟩) 1 1],.slice (some ⟨1,0,none⟩) 1 1,.int .i64 2],[⟨[.int .i64 9],⟨1,3⟩,true⟩,⟨[.int .i64 9],⟨1,3⟩,true⟩],.tuple #[.agg #[.int .i64 4,.slice (some ⟨2,0,none⟩) 1 1],.int .i64 0,.int .i64 0],[⟨[.int .i64 9],⟨1,3⟩,false⟩]⟩
theorem memo9_2_ok : MemoOk Tryz.prog 65 memo9_2:=memo_run mixed tabt_ok 200 (by kernel_rfl) (by kernel_rfl)
def memo10_2 : Memo:=⟨[.agg #[.int .i64 4,.slice (some ⟨0,0,none⟩) 1 1],.slice (some ⟨1,0,none⟩) 1 1,.int .i64 2],[⟨[.int .i64 10],⟨1,3⟩,true⟩,⟨[.int .i64 10],⟨1,3⟩,true⟩],.tuple #[.agg #[.int .i64 4,.slice (some ⟨2,0,none⟩) 1 1],.int .i64 0,.int .i64 0],[⟨[.int .i64 10],⟨1,3⟩,false⟩]⟩
theorem memo10_2_ok : MemoOk Tryz.prog 65 memo10_2:=memo_run mixed tabt_ok 200 (by kernel_rfl) (by kernel_rfl)
def memo11_2 : Memo:=⟨[.agg #[.int .i64 4,.slice (some ⟨0,0,none⟩) 1 1],.slice (some ⟨1,0,none⟩) 1 1,.int .i64 2],[⟨[.int .i64 11],⟨1,3⟩,true⟩,⟨[.int .i64 11],⟨1,3⟩,true⟩],.tuple #[.agg #[.int .i64 0,.slice none 0 0],.int .i64 0,.int .i64 9],[]⟩
theorem memo11_2_ok : MemoOk Tryz.prog 65 memo11_2:=memo_run mixed tabt_ok 200 (by kernel_rfl) (by kernel_rfl)
def memo12_2 : Memo:=⟨[.agg #[.int .i64 4,.slice (some ⟨0,0,none⟩) 1 1],.slice (some ⟨1,0,none⟩) 1 1,.int .i64 2],[⟨[.int .i64 12],⟨1,3⟩,true⟩,⟨[.int .i64 12],⟨1,3⟩,true⟩],.tuple #[.agg #[.int .i64 4,.slice (some ⟨2,0,none⟩) 1 1],.int .i64 0,.int .i64 0],[⟨[.int .i64 12],⟨1,3⟩,false⟩]⟩
theorem memo12_2_ok : MemoOk Tryz.prog 65 memo12_2:=memo_run mixed tabt_ok 200 (by kernel_rfl) (by kernel_rfl)
def memo13_2 : Memo:=⟨[.agg #[.int .i64 4,.slice (some ⟨0,0,none⟩) 1 1],.slice (some ⟨1,0,none⟩) 1 1,.int .i64 2],[⟨[.int .i64 13],⟨1,3⟩,true⟩,⟨[.int .i64 13],⟨1,3⟩,true⟩],.tuple #[.agg #[.int .i64 0,.slice none 0 0],.int .i64 0,.int .i64 9],[]⟩
theorem memo13_2_ok : MemoOk Tryz.prog 65 memo13_2:=memo_run mixed tabt_ok 200 (by kernel_rfl) (by kernel_rfl)
def memo14_2 : Memo:=⟨[.agg #[.int .i64 4,.slice (some ⟨0,0,none⟩) 1 1],.slice (some ⟨1,0,none⟩) 1 1,.int .i64 2],[⟨[.int .i64 14],⟨1,3⟩,true⟩,⟨[.int .i64 14],⟨1,3⟩,true⟩],.tuple #[.agg #[.int .i64 0,.slice none 0 0],.int .i64 0,.int .i64 9],[]⟩
theorem memo14_2_ok : MemoOk Tryz.prog 65 memo14_2:=memo_run mixed tabt_ok 200 (by kernel_rfl) (by kernel_rfl)
def memo15_2 : Memo:=⟨[.agg #[.int .i64 4,.slice (some ⟨0,0,none⟩) 1 1],.slice (some ⟨1,0,none⟩) 1 1,.int .i64 2],[⟨[.int .i64 15],⟨1,3⟩,true⟩,⟨[.int .i64 15],⟨1,3⟩,true⟩],.tuple #[.agg #[.int .i64 0,.slice none 0 0],.int .i64 0,.int .i64 9],[]⟩
theorem memo15_2_ok : MemoOk Tryz.prog 65 memo15_2:=memo_run mixed tabt_ok 200 (by kernel_rfl) (by kernel_rfl)
end Go.Proofs.Tryz
namespace Go.Proofs.Tryz
open Go Go.V
def memo0_3 : Memo:=⟨[.agg #[.int .i64 4,.slice (some ⟨0,0,none⟩) 1 1],.slice (some ⟨1,0,none⟩) 1 1,.int .i64 3],[⟨[.int .i64 0],⟨1,3⟩,true⟩,⟨[.int .i64 0],⟨1,3⟩,true⟩],.tuple #[.agg #[.int .i64 4,.slice (some ⟨2,0,none⟩) 1 1],.int .i64 1,.int .i64 0],[⟨[.int .i64 1],⟨1,3⟩,false⟩]⟩
theorem memo0_3_ok : MemoOk Tryz.prog 65 memo0_3:=memo_run mixed tabt_ok 200 (by kernel_rfl) (by kernel_rfl)
def memo1_3 : Memo:=⟨[.agg #[.int .i64 4,.slice (some ⟨0,0,none⟩) 1 1],.slice (some ⟨1,0,none⟩) 1 1,.int .i64 3],[⟨[.int .i64 1],⟨1,3⟩,true⟩,⟨[.int .i64 1],⟨1,3⟩,true⟩],.tuple #[.agg #[.int .i64 4,.slice (some ⟨2,0,none⟩) 1 1],.int .i64 0,.int .i64 0],[⟨[.int .i64 1],⟨1,3⟩,false⟩]⟩
theorem memo1_3_ok : MemoOk Tryz.prog 65 memo1_3:=memo_run mixed tabt_ok 200 (by kernel_rfl) (by kernel_rfl)
def memo2_3 : Memo:=⟨[.agg #[.int .i64 4,.slice (some ⟨0,0,none⟩) 1 1],.slice (some ⟨1,0,none⟩) 1 1,.int .i64 3],[⟨[.int .i64 2],⟨1,3⟩,true⟩,⟨[.int .i64 2],⟨1,3⟩,true⟩],.tuple #[.agg #[.int .i64 4,.slice (some ⟨2,0,none⟩) 1 1],.int .i64 0,.int .i64 0],[⟨[.int .i64 2],⟨1,3⟩,false⟩]⟩
theorem memo2_3_ok : MemoOk Tryz.prog 65 memo2_3:=memo_run mixed tabt_ok 200 (by kernel_rfl) (by kernel_rfl)
def memo3_3 : Memo:=⟨[.agg #[.int .i64 4,.slice (some ⟨0,0,none⟩) 1 1],.slice (some ⟨1,0,none⟩) 1 1,.int .i64 3],[⟨[.int .i64 3],⟨1,3⟩,true⟩,⟨[.int .i64 3],⟨1,3⟩,true⟩],.tuple #[.agg #[.int .i64 4,.slice (some ⟨2,0,none⟩) 1 1],.int .i64 0,.int .i64 0],[⟨[.int .i64 3],⟨1,3⟩,false⟩]⟩
theorem memo3_3_ok : MemoOk Tryz.prog 65 memo3_3:=memo_run mixed tabt_ok 200 (by kernel_rfl) (by kernel_rfl)
def memo4_3 : Memo:=⟨[.agg #[.int .i64 4,.slice (some ⟨0,0,none⟩) 1 1],.slice (some ⟨1,0,none⟩) 1 1,.int .i64 3],[⟨[.int .i64 4],⟨1,3⟩,true⟩,⟨[.int .i64 4],⟨1,3⟩,true⟩],.tuple #[.agg #[.int .i64 4,.slice (some ⟨2,0,none⟩) 1 1],.int .i64 0,.int .i64 0],[⟨[.int .i64 4],⟨1,3⟩,false⟩]⟩
theorem memo4_3_ok : MemoOk Tryz.prog 65 memo4_3:=memo_run mixed tabt_ok 200 (by kernel_rfl) (by kernel_rfl)
def memo5_3 : Memo:=⟨[.agg #[.int .i64 4,.slice (some ⟨0,0,none⟩) 1 1],.slice (some ⟨1,0,none⟩) 1 1,.int .i64 3],[⟨[.int .i64 5],⟨1,3⟩,true⟩,⟨[.int .i64 5],⟨1,3⟩,true⟩],.tuple #[.agg #[.int .i64 4,.slice (some ⟨2,0,none⟩) 1 1],.int .i64 0,.int .i64 0],[⟨[.int .i64 5],⟨1,3⟩,false⟩]⟩
theorem memo5_3_ok : MemoOk Tryz.prog 65 memo5_3:=memo_run mixed tabt_ok 200 (by kernel_rfl) (by kernel_rfl)
def memo6_3 : Memo:=⟨[.agg #[.int .i64 4,.slice (some ⟨0,0,none⟩) 1 1],.slice (some ⟨1,0,none⟩) 1 1,.int .i64 3],[⟨[.int .i64 6],⟨1,3⟩,true⟩,⟨[.int .i64 6],⟨1,3⟩,true⟩],.tuple #[.agg #[.int .i64 4,.slice (some ⟨2,0,none⟩) 1 1],.int .i64 0,.int .i64 0],[⟨[.int .i64 6],⟨1,3⟩,false⟩]⟩
theorem memo6_3_ok : MemoOk Tryz.prog 65 memo6_3:=memo_run mixed tabt_ok 200 (by kernel_rfl) (by kernel_rfl)
def memo7_3 : Memo:=⟨[.agg #[.int .i64 4,.slice (some ⟨0,0,none⟩) 1 1],.slice (some ⟨1,0,none⟩) 1 1,.int .i64 3],[⟨[.int .i64 7],⟨1,3⟩,true⟩,⟨[.int .i64 7],⟨1,3⟩,true⟩],.tuple #[.agg #[.int .i64 4,.slice (some ⟨2,0,none⟩) 1 1],.int .i64 0,.int .i64 0],[⟨[.int .i64 7],⟨1,3⟩,false⟩]⟩
theorem memo7_3_ok : MemoOk Tryz.prog 65 memo7_3:=memo_run mixed tabt_ok 200 (by kernel_rfl) (by kernel_rfl)
def memo8_3 : Memo:=⟨[.agg #[.int .i64 4,.slice (some ⟨0,0,none⟩) 1 1],.slice (some ⟨1,0,none⟩) 1 1,.int .i64 3],[⟨[.int .i64 8],⟨1,3⟩,true⟩,⟨[.int .i64 8],⟨1,3⟩,true⟩],.tuple #[.agg #[.int .i64 4,.slice (some ⟨2,0,none⟩) 1 1],.int .i64 0,.int .i64 0],[⟨[.int .i64 8],⟨1,3⟩,false⟩]⟩
theorem memo8_3_ok : MemoOk Tryz.prog 65 memo8_3:=memo_run mixed tabt_ok 200 (by kernel_rfl) (by kernel_rfl)
def memo9_3 : Memo:=⟨[.agg #[.int .i64 4,.slice (some ⟨0,0,none⟩) 1 1],.slice (some ⟨1,0,none⟩) 1 1,.int .i64 3],[⟨[.int .i64 9],⟨1,3⟩,true⟩,⟨[.int .i64 9],⟨1,3⟩,true⟩],.tuple #[.agg #[.int .i64 4,.slice (some ⟨2,0,none⟩) 1 1],.int .i64 0,.int .i64 0],[⟨[.int .i64 9],⟨1,3⟩,false⟩]⟩
theorem memo9_3_ok : MemoOk Tryz.prog 65 memo9_3:=memo_run mixed tabt_ok 200 (by kernel_rfl) (by kernel_rfl)
def memo10_3 : Memo:=⟨[.agg #[.int .i64 4,.slice (some ⟨0,0,none⟩) 1 1],.slice (some ⟨1,0,none⟩) 1 1,.int .i64 3],[⟨[.int .i64 10],⟨1,3⟩,true⟩,⟨[.int .i64 10],⟨1,3⟩,true⟩],.tuple #[.agg #[.int .i64 4,.slice (some ⟨2,0,none⟩) 1 1],.int .i64 0,.int .i64 0],[⟨[.int .i64 10],⟨1,3⟩,false⟩]⟩
theorem memo10_3_ok : MemoOk Tryz.prog 65 memo10_3:=memo_run mixed tabt_ok 200 (by kernel_rfl) (by kernel_rfl)
def memo11_3 : Memo:=⟨[.agg #[.int .i64 4,.slice (some ⟨0,0,none⟩) 1 1],.slice (some ⟨1,0,none⟩) 1 1,.int .i64 3],[⟨[.int .i64 11],⟨1,3⟩,true⟩,⟨[.int .i64 11],⟨1,3⟩,true⟩],.tuple #[.agg #[.int .i64 4,.slice (some ⟨2,0,none⟩) 1 1],.int .i64 0,.int .i64 0],[⟨[.int .i64 11],⟨1,3⟩,false⟩]⟩
theorem memo11_3_ok : MemoOk Tryz.prog 65 memo11_3:=memo_run mixed tabt_ok 200 (by kernel_rfl) (by kernel_rfl)
def memo12_3 : Memo:=⟨[.agg #[.int .i64 4,.slice (some ⟨0,0,none⟩) 1 1],.slice (some ⟨1,0,none⟩) 1 1,.int .i64 3],[⟨[.int .i64 12],⟨1,3⟩,true⟩,⟨[.int .i64 12],⟨1,3⟩,true⟩],.tuple #[.agg #[.int .i64 4,.slice (some ⟨2,0,none⟩) 1 1],.int .i64 0,.int .i64 0],[⟨[.int .i64 12],⟨1,3⟩,false⟩]⟩
theorem memo12_3_ok : MemoOk Tryz.prog 65 memo12_3:=memo_run mixed tabt_ok 200 (by kernel_rfl) (by kernel_rfl)
def memo13_3 : Memo:=⟨[.agg #[.int .i64 4,.slice (some ⟨0,0,none⟩) 1 1],.slice (some ⟨1,0,none⟩) 1 1,.int .i64 3],[⟨[.int .i64 13],⟨1,3⟩,true⟩,⟨[.int .i64 13],⟨1,3⟩,true⟩],.tuple #[.agg #[.int .i64 4,.slice (some ⟨2,0,none⟩) 1 1],.int .i64 0,.int .i64 0],[⟨[.int .i64 13],⟨1,3⟩,false⟩]⟩
theorem memo13_3_ok : MemoOk Tryz.prog 65 memo13_3:=memo_run mixed tabt_ok 200 (by kernel_rfl) (by kernel_rfl)
def memo14_3 : Memo:=⟨[.agg #[.int .i64 4,.slice (some ⟨0,0,none⟩) 1 1],.slice (some ⟨1,0,none⟩) 1 1,.int .i64 3],[⟨[.int .i64 14],⟨1,3⟩,true⟩,⟨[.int .i64 14],⟨1,3⟩,true⟩],.tuple #[.agg #[.int .i64 4,.slice (some ⟨2,0,none⟩) 1 1],.int .i64 0,.int .i64 0],[⟨[.int .i64 14],⟨1,3⟩,false⟩]⟩
theorem memo14_3_ok : MemoOk Tryz.prog 65 memo14_3:=memo_run mixed tabt_ok 200 (by kernel_rfl) (by kernel_rfl)
def memo15_3 : Memo:=⟨[.agg #[.int .i64 4,.slice (some ⟨0,0,none⟩) 1 1],.slice (some ⟨1,0,none⟩) 1 1,.int .i64 3],[⟨[.int .i64 15],⟨1,3⟩,true⟩,⟨[.int .i64 15],⟨1,3⟩,true⟩],.tuple #[.agg #[.int .i64 0,.slice none 0 0],.int .i64 0,.int .i64 9],[]⟩
theorem memo15_3_ok : MemoOk Tryz.prog 65 memo15_3:=memo_run mixed tabt_ok 200 (by kernel_rfl) (by kernel_rfl)
end Go.Proofs.Tryz
namespace Go.Proofs.Tryz
open Go Go.V
def memos : List Memo:=[memo0_2,memo1_2,memo2_2,memo3_2,memo4_2,memo5_2,memo6_2,memo7_2,memo8_2,memo9_2,memo10_2,memo11_2,memo12_2,memo13_2,memo14_2,memo15_2,memo0_3,memo1_3,memo2_3,memo3_3,memo4_3,memo5_3,memo6_3,memo7_3,memo8_3,memo9_3,memo10_3,memo11_3,memo12_3,memo13_3,memo14_3,memo15_3]
theorem memos_ok : ∀ m ∈ memos,MemoOk Tryz.prog 65 m:=by
 intro m hm
 simp only [memos,List.mem_cons,List.not_mem_nil,or_false] at hm
 rcases hm with rfl | rfl | rfl | rfl | rfl | rfl | rfl | rfl | rfl | rfl | rfl | rfl | rfl | rfl | rfl | rfl | rfl | rfl | rfl | rfl | rfl | rfl | rfl | rfl | rfl | rfl | rfl | rfl | rfl | rfl | rfl | rfl
 ·exact memo0_2_ok
 ·exact memo1_2_ok
 ·exact memo2_2_ok
 ·exact memo3_2_ok
 ·exact memo4_2_ok
 ·exact memo5_2_ok
 ·exact memo6_2_ok
 ·exact memo7_2_ok
 ·exact memo8_2_ok
 ·exact memo9_2_ok
 ·exact memo10_2_ok
 ·exact memo11_2_ok
 ·exact memo12_2_ok
 ·exact memo13_2_ok
 ·exact memo14_2_ok
 ·exact memo15_2_ok
 ·exact memo0_3_ok
 ·exact memo1_3_ok
 ·exact memo2_3_ok
 ·exact memo3_3_ok
 ·exact memo4_3_ok
 ·exact memo5_3_ok
 ·exact memo6_3_ok
 ·exact memo7_3_ok
 ·exact memo8_3_ok
 ·exact memo9_3_ok
 ·exact memo10_3_ok
 ·exact memo11_3_ok
 ·exact memo12_3_ok
 ·exact memo13_3_ok
 ·exact memo14_3_ok
 ·exact memo15_3_ok
noncomputable def tabL : List (Option FEnt):=[
 none,
 none,
 some (.code c2 [] 1),
 some (.code c3 [.tmp 4] 65),
 some (.code c4 [.tmp 6] 106),
 some (.code c5 [.tmp 4] 131),
 some (.code c6 [.tmp 2] 125),
 some (.code c7 [.tmp 4] 113),
 some (.code c8 [.tmp 4] 326),
 some (.code c9 [.tmp 4] 274),
 some (.code c10 [.tmp 4] 143),
 some (.code c11 [.tmp 4] 189),
 some (.code c12 [.tmp 4] 298),
 some (.code c13 [.tmp 4] 185),
 some (.code c14 [.tmp 0] 239),
 some (.code c15 [.cell 4 true 2,.tmp 5,.tmp 6] 78),
 some (.code c16 [.cell 4 true 2,.tmp 5,.tmp 6] 84),
 some (.code c17 [.tmp 4] 38),
 some (.code c18 [.tmp 6] 35),
 some (.code c19 [.cell 2 true 2] 10),
 some (.code c20 [.cell 2 true 2] 10),
 some (.code c21 [.tmp 4,.tmp 5] 43),
 some (.code c22 [.cell 6 false 1,.tmp 7] 49),
 some (.code c23 [.tmp 4] 28),
 some (.code c24 [.tmp 4] 22),
 some (.code c25 [.tmp 4] 46),
 some (.code c26 [.tmp 4] 26),
 some (.code c27 [.tmp 6] 15),
 some (.code c28 [.tmp 4] 26),
 some (.code c29 [.tmp 4] 50),
 some (.code c30 [.tmp 2] 6),
 some (.code c31 [.cell 4 true 2,.tmp 5] 33),
 some (.code c32 [.tmp 4,.tmp 5,.tmp 6,.tmp 7] 30),
 some (.code c33 [.tmp 2] 33),
 some (.code c34 [.tmp 4] 52),
 some (.code c35 [.tmp 2] 12),
 some (.code c36 [.cell 4 true 3,.tmp 5] 47),
 some (.code c37 [.cell 4 true 2] 48),
 some (.code c38 [.cell 2 true 2,.cell 3 true 2,.tmp 4] 20),
 some (.codeJ c39 [.tmp 2,.tmp 3] 30),
 some (.code c40 [.tmp 2] 35),
 some (.code c41 [.tmp 2] 12),
 some (.code c42 [.cell 2 true 2] 41),
 some (.code c43 [.tmp 4,.tmp 5,.tmp 6] 40),
 some (.code c44 [.tmp 4] 31),
 some (.code c45 [.tmp 6] 22),
 some (.code c46 [.tmp 2] 22),
 some (.code c47 [.cell 4 true 2] 8),
 some (.code c48 [.cell 2 true 2] 48),
 some (.code c49 [.cell 2 true 2] 51),
 some (.code c50 [.tmp 6] 25),
 some (.code c51 [.tmp 2] 22),
 some (.code c52 [.tmp 4] 38),
 some (.code c53 [.tmp 4] 26),
 some (.code c54 [.cell 8 true 4] 14),
 some (.code c55 [.cell 4 true 2,.tmp 5] 67),
 some (.code c56 [.cell 2 true 2,.tmp 3] 28),
 some (.code c57 [.tmp 4] 45),
 some (.code c58 [.tmp 2] 27),
 some (.code c59 [.cell 4 true 2,.tmp 5] 48),
 some (.code c60 [.tmp 2,.tmp 3] 39),
 some (.code c61 [.tmp 2,.tmp 3] 37),
 some (.code c62 [.tmp 2,.tmp 3] 40),
 some (.code c63 [.tmp 2] 35),
 some (.code c64 [.tmp 2] 55),
 some (.codeM c65 [.cell 6 true 2,.tmp 7,.tmp 8] 84 memos),
 some (.code c66 [.cell 6 false 1,.tmp 7] 42),
 some (.code c67 [.tmp 6] 11),
 some (.code c68 [.tmp 4] 48),
 some (.code c69 [.tmp 2] 32),
 some (.code c70 [.tmp 2] 50),
 some (.code c71 [.tmp 2] 28),
 some (.code c72 [.tmp 4] 22),
 some (.code c73 [] 64),
 some (.code c74 [.tmp 4] 19),
 some (.code c75 [.tmp 2] 35),
 some (.code c76 [.tmp 2] 25),
 some (.code c77 [.tmp 2] 20),
 some (.code c78 [.tmp 4] 56),
 some (.code c79 [.tmp 4] 16),
 some (.code c80 [.tmp 4,.tmp 5,.tmp 6,.tmp 7] 47),
 some (.code c81 [.cell 4 true 2] 47),
 some (.code c82 [.tmp 4] 21),
 some (.code c83 [.cell 2 true 2] 27),
 some (.code c84 [.cell 2 true 2,.tmp 3] 61),
 some (.code c85 [.tmp 2] 17),
 some (.code c86 [] 11),
 some (.code c87 [.tmp 6] 27),
 some (.code c88 [.cell 4 true 2] 59),
 some (.code c89 [.tmp 2,.cell 3 true 2] 47),
 some (.code c90 [.tmp 4] 22),
 some (.code c91 [.tmp 2] 18),
 some (.code c92 [.cell 6 true 2] 38),
 some (.code c93 [.tmp 6] 17),
 some (.code c94 [.tmp 6] 26),
 some (.code c95 [.tmp 2] 36),
 some (.code c96 [.tmp 4] 26),
 some (.code c97 [.tmp 5] 23),
 some (.code c98 [.tmp 6] 11),
 some (.code c99 [.tmp 2,.tmp 3] 102),
 some (.code c100 [.tmp 4] 21),
 some (.code c101 [.tmp 4] 9),
 some (.code c102 [.tmp 4] 13),
 some (.code c103 [.tmp 4,.tmp 5] 30),
 some (.code c104 [.tmp 2] 5),
 some (.code c105 [.tmp 4] 6),
 some (.code c106 [.tmp 4] 17),
 some (.code c107 [.tmp 2] 4),
 some (.code c108 [.tmp 6] 17),
 some (.code c109 [.tmp 2] 14),
 some (.code c110 [.tmp 3] 18),
 some (.code c111 [.tmp 6] 15),
 some (.code c112 [.tmp 4] 23),
 some (.code c113 [.tmp 2] 21),
 some (.code c114 [.tmp 4] 20),
 some (.code c115 [.tmp 2] 4),
 some (.code c116 [] 134),
 some (.code c117 [.tmp 2] 8),
 some (.code c118 [.tmp 6] 36),
 some (.code c119 [.tmp 4] 27),
 some (.code c120 [.tmp 4] 13),
 some (.code c121 [.cell 4 true 4] 20),
 some (.code c122 [.tmp 6] 29),
 some (.code c123 [.tmp 4] 81),
 some (.code c124 [.tmp 2] 4),
 some (.code c125 [.cell 6 true 4,.tmp 7] 40),
 some (.code c126 [.tmp 4] 27),
 some (.code c127 [.tmp 4] 25),
 some (.code c128 [] 37),
 some (.code c129 [] 50),
 some (.code c130 [.tmp 4] 19),
 some (.code c131 [.tmp 4,.tmp 5] 17),
 some (.code c132 [.tmp 4,.tmp 5] 51),
 some (.code c133 [.tmp 4] 13),
 some (.code c134 [] 22),
 some (.code c135 [] 20),
 some (.code c136 [.tmp 3] 13),
 some (.code c137 [.tmp 4] 43),
 some (.code c138 [.tmp 4] 9),
 some (.code c139 [] 19),
 some (.code c140 [] 49),
 some (.code c141 [] 56),
 some (.code c142 [] 65),
 some (.code c143 [.tmp 6,.tmp 7] 57),
 some (.code c144 [] 32),
 some (.code c145 [.tmp 6] 133),
 some (.code c146 [.tmp 4] 17),
 some (.code c147 [.tmp 8] 84),
 some (.code c148 [.tmp 8,.tmp 9] 168),
 some (.code c149 [.tmp 2] 19),
 some (.code c150 [.tmp 2] 25),
 some (.code c151 [.tmp 3] 20),
 some .same,
 some (.code c153 [.tmp 4] 17),
 some (.code c154 [.tmp 4] 23),
 some (.code c155 [.cell 2 true 256,.tmp 3] 21),
 some (.code c156 [.tmp 4] 16),
 some (.code c157 [.tmp 4] 22),
 some (.code c158 [.tmp 4] 23),
 some (.code c159 [.tmp 4] 34),
 some (.code c160 [.tmp 4] 19),
 some (.code c161 [] 76),
 some (.code c162 [.tmp 2] 7),
 some (.code c163 [.tmp 2] 33),
 some (.code c164 [.tmp 6] 15),
 some (.code c165 [.tmp 10] 36),
 some (.code c166 [.tmp 2] 6),
 some (.code c167 [.tmp 4] 10),
 some (.code c168 [.tmp 2,.tmp 3] 19),
 some (.code c169 [.tmp 4] 9),
 some (.code c170 [.tmp 2,.tmp 3] 51),
 some (.code c171 [.tmp 8,.tmp 9] 28),
 some (.code c172 [.tmp 2,.tmp 3] 117),
 some (.code c173 [.tmp 4] 187),
 some (.code c174 [.tmp 2] 6),
 some (.code c175 [.tmp 4] 8),
 some (.code c176 [.tmp 2] 17),
 some (.code c177 [.tmp 2] 6),
 none,
 some (.code c179 [.tmp 4] 8)]
noncomputable def tab : Tab:=fun f=>(tabL[f]?).join
theorem tabL_ok : EntsOk Tryz.prog 0 tabL:=⟨trivial,trivial,fun2,fun3,fun4,fun5,fun6,fun7,fun8,fun9,fun10,fun11,fun12,fun13,fun14,fun15,fun16,fun17,fun18,fun19,fun20,fun21,fun22,fun23,fun24,fun25,fun26,fun27,fun28,fun29,fun30,fun31,fun32,fun33,fun34,fun35,fun36,fun37,fun38,fun39,fun40,fun41,fun42,fun43,fun44,fun45,fun46,fun47,fun48,fun49,fun50,fun51,fun52,fun53,fun54,fun55,fun56,fun57,fun58,fun59,fun60,fun61,fun62,fun63,fun64,⟨fun65,memos_ok⟩,fun66,fun67,fun68,fun69,fun70,fun71,fun72,fun73,fun74,fun75,fun76,fun77,fun78,fun79,fun80,fun81,fun82,fun83,fun84,fun85,fun86,fun87,fun88,fun89,fun90,fun91,fun92,fun93,fun94,fun95,fun96,fun97,fun98,fun99,fun100,fun101,fun102,fun103,fun104,fun105,fun106,fun107,fun108,fun109,fun110,fun111,fun112,fun113,fun114,fun115,fun116,fun117,fun118,fun119,fun120,fun121,fun122,fun123,fun124,fun125,fun126,fun127,fun128,fun129,fun130,fun131,fun132,fun133,fun134,fun135,fun136,fun137,fun138,fun139,fun140,fun141,fun142,fun143,fun144,fun145,fun146,fun147,fun148,fun149,fun150,fun151,same152,fun153,fun154,fun155,fun156,fun157,fun158,fun159,fun160,fun161,fun162,fun163,fun164,fun165,fun166,fun167,fun168,fun169,fun170,fun171,fun172,fun173,fun174,fun175,fun176,fun177,trivial,fun179,trivial⟩
theorem tab_ok : TabOk Tryz.prog tab:=tabOk_of tabL_ok
theorem known_run : veval tab 300 boolOps [] c14 none (ET.of [] 239) CH.empty (eend false [.tmp 0] fun v _=>isTrue v) = true:=by kernel_rfl
theorem known_ok {σ : Heap} {K : Value → Heap → Prop} (hK : K (.bool true) σ) : VCalled Tryz.prog 14 [] σ K:=run_true mixed tab_ok 300 fun14 (by decide) known_run hK
end Go.Proofs.Tryz
set_option linter.unusedVariables false
namespace Go.Proofs.Tryz
open Go Go.V Go.Proofs
def al_law03_known : AL (Unit):=.nil
def pre_law03_known (d : Unit) : Prop:=True
def res_law03_known (d : Unit) : SV:=.val .bo true
def obs_law03_known (d : Unit) : List OB:=[]
def s_law03_known : CSp:=mkSp al_law03_known pre_law03_known res_law03_known obs_law03_known
abbrev Ok_law03_known : Prop:=OkC Tryz.prog 14 s_law03_known
theorem ok_law03_known : Ok_law03_known:=okC_true fun _ _ h=>known_ok h
end Go.Proofs.Tryz
set_option linter.unusedVariables false
namespace Go.Proofs.Tryz
open Go Go.V Go.Proofs
def al_law03_own : AL (Int × List Int):=(.one (.agg (.cons (.k (.i .i64)) (.one (.k (.list (.i .i64)))))))
def pre_law03_own (d : Int × List Int) : Prop:=d.2.length ≤ 1000
def res_law03_own (d : Int × List Int) : SV:=.agg [.val (.i .i64) d.1,.lst 0]
def obs_law03_own (d : Int × List Int) : List OB:=[.lst 3 (.i .i64) d.2 false]
def s_law03_own : CSp:=mkSp al_law03_own pre_law03_own res_law03_own obs_law03_own
def vc_law03_own (hk : Int) (lw : List Int) : Prop :=
 (((List.length ([] : List Int)) + (List.length lw)) * 8 ≤ 70368744177664) ∧ ((hk = hk ∧ True ∧ (([] : List SV) = [])) ∧ (((([] : List Int) ++ lw) = lw ∧ ((List.isEmpty lw) && false) = false) ∧ True))
def cx_law03_own : Cx:=⟨[(3,(.i .i64))],[],10,[],0,[],[],[],[],false,[],[],[]⟩
def lp_law03_own (hk : Int) (lw : List Int) : List (Nat × LoopAnn):=[]
set_option maxRecDepth 100000 in
theorem vq_law03_own (d : Int × List Int) : gwp (cx_law03_own) (lp_law03_own d.1 d.2) c19 0 (gend [.cell 2 true 2] (res_law03_own d) (obs_law03_own d)) (gstart 10 (AL.can al_law03_own d)) = vc_law03_own d.1 d.2:=by kernel_rfl
abbrev Ok_law03_own : Prop:=OkC Tryz.prog 19 s_law03_own
theorem mk_law03_own (h : ∀ (hk : Int) (lw : List Int),(lw.length ≤ 1000) → vc_law03_own hk lw) : OkC Tryz.prog 19 s_law03_own :=
 okC_vc fun19 mixed (C:=cx_law03_own) (V:=fun (d : Int × List Int)=>vc_law03_own d.1 d.2) ⟨.nil,XsOk.nil,ItsOk.nil,YlOk.nil,IysOk.nil⟩ (vq_law03_own) fun d hp=>h d.1 d.2 hp
theorem ok_law03_own : Ok_law03_own:=mk_law03_own fun hk lw h=>by
 have h1 : lw.length * 8 ≤ 70368744177664:=by omega
 simp [vc_law03_own,h1]
def al_law03_bare : AL (Int × List Int):=(.one (.agg (.cons (.k (.i .i64)) (.one (.k (.list (.i .i64)))))))
def pre_law03_bare (d : Int × List Int) : Prop:=True
def res_law03_bare (d : Int × List Int) : SV:=.val .bo (decide (d.1 = 0) && decide (d.2.length = 0))
def obs_law03_bare (d : Int × List Int) : List OB:=[]
def s_law03_bare : CSp:=mkSp al_law03_bare pre_law03_bare res_law03_bare obs_law03_bare
def vc_law03_bare (hd : Int) (rows : List Int) : Prop :=
 (((hd == (0 : Int)) && ((lI rows) == (0 : Int))) = (decide (hd = 0) && decide (rows.length = 0)) ∧ (True))
def cx_law03_bare : Cx:=⟨[],[],12,[],0,[],[],[],[],false,[],[],[]⟩
def lp_law03_bare (hd : Int) (rows : List Int) : List (Nat × LoopAnn):=[]
set_option maxRecDepth 100000 in
theorem vq_law03_bare (d : Int × List Int) : gwp (cx_law03_bare) (lp_law03_bare d.1 d.2) c35 0 (gend [.tmp 2] (res_law03_bare d) (obs_law03_bare d)) (gstart 12 (AL.can al_law03_bare d)) = vc_law03_bare d.1 d.2:=by kernel_rfl
abbrev Ok_law03_bare : Prop:=OkC Tryz.prog 35 s_law03_bare
theorem mk_law03_bare (h : ∀ (hd : Int) (rows : List Int),(True) → vc_law03_bare hd rows) : OkC Tryz.prog 35 s_law03_bare :=
 okC_vc fun35 mixed (C:=cx_law03_bare) (V:=fun (d : Int × List Int)=>vc_law03_bare d.1 d.2) ⟨.nil,XsOk.nil,ItsOk.nil,YlOk.nil,IysOk.nil⟩ (vq_law03_bare) fun d hp=>h d.1 d.2 hp
theorem ok_law03_bare : Ok_law03_bare:=mk_law03_bare fun hd rows _=>by
 unfold vc_law03_bare; (try delta lI gD sT I64); simp only [and_true]
 by_cases h1 : hd = 0 <;> by_cases h2 : rows.length = 0 <;> simp [h1,h2]
end Go.Proofs.Tryz
set_option linter.unusedVariables false
namespace Go.Proofs.Tryz
open Go Go.V Go.Proofs
def al_law03_large : AL ((Int × List Int) × (Int × List Int) × List (List UInt8)):=(.cons (.agg (.cons (.k (.i .i64)) (.one (.k (.list (.i .i64)))))) (.cons (.agg (.cons (.k (.i .i64)) (.one (.k (.list (.i .i64)))))) (.one (.k (.list .st)))))
def pre_law03_large (d : (Int × List Int) × (Int × List Int) × List (List UInt8)) : Prop:=d.2.2.length ≤ 9223372036854775807
def res_law03_large (d : (Int × List Int) × (Int × List Int) × List (List UInt8)) : SV:=.val .bo (largeB d.1.2 d.2.1.2 d.2.2)
def obs_law03_large (d : (Int × List Int) × (Int × List Int) × List (List UInt8)) : List OB:=[]
def s_law03_large : CSp:=mkSp al_law03_large pre_law03_large res_law03_large obs_law03_large
def vc_law03_large (hk : Int) (lw : List Int) (hd : Int) (rows : List Int) (c : List (List UInt8)) : Prop :=
 ∃ (e3 : Unit) (d30 : Int),((c = c ∧ True ∧ True ∧ (0 : Int) = d30 ∧ True) ∧ ((hk = hk ∧ lw = lw ∧ (([] : List SV) = [])) ∧ (hd = hd ∧ rows = rows ∧ (([] : List SV) = [])) ∧ True)) ∧
 LoopP (fun (d3 : Int) (q3 : (Int) → Prop) =>
  ((decide (d3 < (lI c))) = true →
   (0 ≤ d3) ∧ (d3 < (List.length c)) ∧ ((decide ((lI (gD c d3 [])) > (110 : Int))) = true →
    (true = (largeB lw rows c) ∧ (True))) ∧
   ((decide ((lI (gD c d3 [])) > (110 : Int))) = false →
    (I64 (d3 + (1 : Int))) ∧ (∃ d4 : Int,((c = c ∧ True ∧ True ∧ (d3 + (1 : Int)) = d4 ∧ True) ∧ ((hk = hk ∧ lw = lw ∧ (([] : List SV) = [])) ∧ (hd = hd ∧ rows = rows ∧ (([] : List SV) = [])) ∧ True)) ∧ q3 d4))) ∧
  ((decide (d3 < (lI c))) = false →
   ((((decide ((lI lw) > (110 : Int))) || (decide ((lI rows) > (70 : Int)))) || (decide ((lI c) > (70 : Int)))) = (largeB lw rows c) ∧ (True)))) d30
def cx_law03_large : Cx:=⟨[],[],35,[],0,[],[],[],[],false,[],[],[]⟩
def lp_law03_large (hk : Int) (lw : List Int) (hd : Int) (rows : List Int) (c : List (List UInt8)) : List (Nat × LoopAnn):=[(0,⟨Unit,Int,[2,3,4,7],fun e x=>[.val (.list .st) c,.box 3 0,.box 4 0,.val (.i .i64) x],fun e x=>[(3,.slot 3,.cells [.val (.i .i64) hk,.val (.list (.i .i64)) lw] (some 26)),(4,.slot 4,.cells [.val (.i .i64) hd,.val (.list (.i .i64)) rows] (some 36))]⟩)]
set_option maxRecDepth 100000 in
theorem vq_law03_large (d : (Int × List Int) × (Int × List Int) × List (List UInt8)) : gwp (cx_law03_large) (lp_law03_large d.1.1 d.1.2 d.2.1.1 d.2.1.2 d.2.2) c18 0 (gend [.tmp 6] (res_law03_large d) (obs_law03_large d)) (gstart 35 (AL.can al_law03_large d)) = vc_law03_large d.1.1 d.1.2 d.2.1.1 d.2.1.2 d.2.2:=by kernel_rfl
abbrev Ok_law03_large : Prop:=OkC Tryz.prog 18 s_law03_large
theorem mk_law03_large (h : ∀ (hk : Int) (lw : List Int) (hd : Int) (rows : List Int) (c : List (List UInt8)),(c.length ≤ 9223372036854775807) → vc_law03_large hk lw hd rows c) : OkC Tryz.prog 18 s_law03_large :=
 okC_vc fun18 mixed (C:=cx_law03_large) (V:=fun (d : (Int × List Int) × (Int × List Int) × List (List UInt8))=>vc_law03_large d.1.1 d.1.2 d.2.1.1 d.2.1.2 d.2.2) ⟨.nil,XsOk.nil,ItsOk.nil,YlOk.nil,IysOk.nil⟩ (vq_law03_large) fun d hp=>h d.1.1 d.1.2 d.2.1.1 d.2.1.2 d.2.2 hp
theorem ok_law03_large : Ok_law03_large:=mk_law03_large fun hk lw hd rows c hc=>by
 unfold vc_law03_large
 refine ⟨(),0,by simp,?_⟩
 refine LoopP.count c.length (fun k=>∀ j,j < k → (c.getD j []).length ≤ 110) (fun _ h=>by omega) fun k hk hJ q hq=>?_
 refine ⟨fun hlt=>?_,fun hge=>⟨?_,trivial⟩⟩
 ·have hlt : k < c.length:=by simpa [lI] using hlt
  refine ⟨by omega,by omega,fun hne=>⟨?_,trivial⟩,fun he=>⟨?_,(k : Int) + 1,by simp,hq hlt fun j hj=>?_⟩⟩
  ·have h0 : (110 : Int) < (((c.getD k []).length : Nat) : Int):=by simpa [lI,gD] using hne
   have h1 : 110 < (c.getD k []).length:=by omega
   rw [getD_nat hlt] at h1
   have : c.any (fun s=>decide (110 < s.length)) = true:=List.any_eq_true.2 ⟨c[k],List.getElem_mem hlt,by simpa using h1⟩
   simp [largeB,this]
  ·simp only [InK_i64]; omega
  ·rcases Nat.lt_succ_iff_lt_or_eq.1 hj with hj | rfl
   ·exact hJ j hj
   ·have : ¬ (110 : Int) < (((c.getD j []).length : Nat) : Int):=by simpa [lI,gD] using he
    omega
 ·have hge : c.length ≤ k:=by simpa [lI] using hge
  have : c.any (fun s=>decide (110 < s.length)) = false:=by
   rw [List.any_eq_false]
   intro s hs
   obtain ⟨j,hj,rfl⟩:=List.getElem_of_mem hs
   have:=hJ j (by omega)
   rw [getD_nat hj] at this
   simp; omega
  simp only [largeB,this,Bool.false_or,lI]
  congr 1
  ·congr 1
   ·simp only [decide_eq_decide]; omega
   ·simp only [decide_eq_decide]; omega
  ·simp only [decide_eq_decide]; omega
end Go.Proofs.Tryz
set_option linter.unusedVariables false
namespace Go.Proofs.Tryz
open Go Go.V Go.Proofs
def al_strings_Trim : AL (List UInt8 × List UInt8):=(.cons (.k .st) (.one (.k .st)))
def pre_strings_Trim (d : List UInt8 × List UInt8) : Prop:=d.1.length ≤ 1000000 ∧ (d.2 : List UInt8).length ≤ 1000 ∧ (d.2 : List UInt8).all (fun b=>decide (b.toNat < 128)) = true
def res_strings_Trim (d : List UInt8 × List UInt8) : SV:=.val .st (Lib.trimS d.1 d.2)
def obs_strings_Trim (d : List UInt8 × List UInt8) : List OB:=[]
def s_strings_Trim : CSp:=mkSp al_strings_Trim pre_strings_Trim res_strings_Trim obs_strings_Trim
abbrev Ok_strings_Trim : Prop:=OkC Tryz.prog 137 s_strings_Trim
theorem ok_strings_Trim : Ok_strings_Trim:=okC_ss_s fun137.enterable fun a b h w=>by
 obtain ⟨h1,h2,h3⟩:=h
 dsimp only at h1 h2 h3
 exact Any.strings_Trim_laid Tryz.lays160 (by kernel_rfl) ⟨a.toArray⟩ ⟨b.toArray⟩ w (by show a.toArray.size ≤ _; simp; omega) (by show b.toArray.size < _; simp; omega) (ascii_of_all h3)
def al_law03_cloths : AL (List (List UInt8)):=(.one (.k (.list .st)))
def pre_law03_cloths (d : List (List UInt8)) : Prop:=d.length ≤ 1000
def res_law03_cloths (d : List (List UInt8)) : SV:=.lst 0
def obs_law03_cloths (d : List (List UInt8)) : List OB:=[.lst 9 .st d false]
def s_law03_cloths : CSp:=mkSp al_law03_cloths pre_law03_cloths res_law03_cloths obs_law03_cloths
def vc_law03_cloths (c : List (List UInt8)) : Prop :=
 (((List.length ([] : List (List UInt8))) + (List.length c)) * 16 ≤ 70368744177664) ∧ (True ∧ (((([] : List (List UInt8)) ++ c) = c ∧ ((List.isEmpty c) && false) = false) ∧ True))
def cx_law03_cloths : Cx:=⟨[(9,.st)],[],6,[],0,[],[],[],[],false,[],[],[]⟩
def lp_law03_cloths (c : List (List UInt8)) : List (Nat × LoopAnn):=[]
set_option maxRecDepth 100000 in
theorem vq_law03_cloths (d : List (List UInt8)) : gwp (cx_law03_cloths) (lp_law03_cloths d) c30 0 (gend [.tmp 2] (res_law03_cloths d) (obs_law03_cloths d)) (gstart 6 (AL.can al_law03_cloths d)) = vc_law03_cloths d:=by kernel_rfl
abbrev Ok_law03_cloths : Prop:=OkC Tryz.prog 30 s_law03_cloths
theorem mk_law03_cloths (h : ∀ (c : List (List UInt8)),(c.length ≤ 1000) → vc_law03_cloths c) : OkC Tryz.prog 30 s_law03_cloths :=
 okC_vc fun30 mixed (C:=cx_law03_cloths) (V:=fun (d : List (List UInt8))=>vc_law03_cloths d) ⟨.nil,XsOk.nil,ItsOk.nil,YlOk.nil,IysOk.nil⟩ (vq_law03_cloths) fun d hp=>h d hp
theorem ok_law03_cloths : Ok_law03_cloths:=mk_law03_cloths fun c h=>by
 unfold vc_law03_cloths; (try delta lI gD sT I64)
 (try simp only [decide_eq_true_eq,decide_eq_false_iff_not])
 refine ⟨by simp only [List.length_nil]; omega,by simp⟩
def al_slices_IndexFunc_string_string : AL (List (List UInt8) × ((List UInt8 → Prop) × (List UInt8 → Bool))):=(.cons (.k (.list .st)) (.one (.fn [.st] .bo)))
def pre_slices_IndexFunc_string_string (d : List (List UInt8) × ((List UInt8 → Prop) × (List UInt8 → Bool))) : Prop:=d.1.length ≤ 1000000 ∧ ∀ x ∈ d.1,d.2.1 x
def res_slices_IndexFunc_string_string (d : List (List UInt8) × ((List UInt8 → Prop) × (List UInt8 → Bool))) : SV:=.val (.i .i64) (idxG d.1 d.2.2)
def obs_slices_IndexFunc_string_string (d : List (List UInt8) × ((List UInt8 → Prop) × (List UInt8 → Bool))) : List OB:=[]
def s_slices_IndexFunc_string_string : CSp:=mkSp al_slices_IndexFunc_string_string pre_slices_IndexFunc_string_string res_slices_IndexFunc_string_string obs_slices_IndexFunc_string_string
def vc_slices_IndexFunc_string_string (l : List (List UInt8)) (p : (List UInt8 → Prop) × (List UInt8 → Bool)) : Prop :=
 ∃ (e2 : Unit) (d20 : Int),((l = l ∧ (SV.pf [.st] .bo p.1 p.2 = SV.pf [.st] .bo p.1 p.2) ∧ (lI l) = (lI l) ∧ (0 : Int) = d20 ∧ True) ∧ (True)) ∧
 LoopP (fun (d2 : Int) (q2 : (Int) → Prop) =>
  ((decide (d2 < (lI l))) = true →
   (0 ≤ d2) ∧ (d2 < (List.length l)) ∧ (p.1 (gD l d2 [])) ∧ ((p.2 (gD l d2 [])) = true →
    (d2 = (idxG l p.2) ∧ (True))) ∧
   ((p.2 (gD l d2 [])) = false →
    (I64 (d2 + (1 : Int))) ∧ (∃ d3 : Int,((l = l ∧ (SV.pf [.st] .bo p.1 p.2 = SV.pf [.st] .bo p.1 p.2) ∧ (lI l) = (lI l) ∧ (d2 + (1 : Int)) = d3 ∧ True) ∧ (True)) ∧ q2 d3))) ∧
  ((decide (d2 < (lI l))) = false →
   ((-1 : Int) = (idxG l p.2) ∧ (True)))) d20
def cx_slices_IndexFunc_string_string : Cx:=⟨[],[],19,[],0,[],[],[],[],false,[],[],[]⟩
def lp_slices_IndexFunc_string_string (l : List (List UInt8)) (p : (List UInt8 → Prop) × (List UInt8 → Bool)) : List (Nat × LoopAnn):=[(0,⟨Unit,Int,[0,1,7,8],fun e x=>[.val (.list .st) l,.pf [.st] .bo p.1 p.2,.val (.i .i64) (((List.length l) : Nat) : Int),.val (.i .i64) x],fun e x=>[]⟩)]
set_option maxRecDepth 100000 in
theorem vq_slices_IndexFunc_string_string (d : List (List UInt8) × ((List UInt8 → Prop) × (List UInt8 → Bool))) : gwp (cx_slices_IndexFunc_string_string) (lp_slices_IndexFunc_string_string d.1 d.2) c160 0 (gend [.tmp 4] (res_slices_IndexFunc_string_string d) (obs_slices_IndexFunc_string_string d)) (gstart 19 (AL.can al_slices_IndexFunc_string_string d)) = vc_slices_IndexFunc_string_string d.1 d.2:=by kernel_rfl
abbrev Ok_slices_IndexFunc_string_string : Prop:=OkC Tryz.prog 160 s_slices_IndexFunc_string_string
theorem mk_slices_IndexFunc_string_string (h : ∀ (l : List (List UInt8)) (p : (List UInt8 → Prop) × (List UInt8 → Bool)),(l.length ≤ 1000000 ∧ ∀ x ∈ l,p.1 x) → vc_slices_IndexFunc_string_string l p) : OkC Tryz.prog 160 s_slices_IndexFunc_string_string :=
 okC_vc fun160 mixed (C:=cx_slices_IndexFunc_string_string) (V:=fun (d : List (List UInt8) × ((List UInt8 → Prop) × (List UInt8 → Bool)))=>vc_slices_IndexFunc_string_string d.1 d.2) ⟨.nil,XsOk.nil,ItsOk.nil,YlOk.nil,IysOk.nil⟩ (vq_slices_IndexFunc_string_string) fun d hp=>h d.1 d.2 hp
theorem ok_slices_IndexFunc_string_string : Ok_slices_IndexFunc_string_string:=mk_slices_IndexFunc_string_string fun l p hp=>by
 unfold vc_slices_IndexFunc_string_string; (try delta lI gD sT I64); simp only [true_and,and_true,exists_eq_left',exists_const,decide_eq_true_eq,decide_eq_false_iff_not]
 refine LoopP.count l.length (fun k=>(l.take k).any p.2 = false) (by simp) fun k hk1 hJ q hq=>?_
 simp only [Int.toNat_natCast,Int.ofNat_lt,InK_i64]
 refine ⟨fun hlt=>?_,fun hge=>?_⟩
 ·have hlt : k < l.length:=by omega
  rw [getD_nat hlt]
  refine ⟨by omega,by omega,hp.2 _ (List.getElem_mem hlt),fun hx=>?_,fun hx=>⟨by omega,hq hlt ?_⟩⟩
  ·rw [idxG_some hlt hx hJ]
  ·rw [take_succ_eq hlt,List.any_append,hJ]; simp [hx]
 ·rw [List.take_of_length_le (by omega)] at hJ
  rw [idxG_none hJ]
def al_slices_ContainsFunc_string_string : AL (List (List UInt8) × ((List UInt8 → Prop) × (List UInt8 → Bool))):=(.cons (.k (.list .st)) (.one (.fn [.st] .bo)))
def pre_slices_ContainsFunc_string_string (d : List (List UInt8) × ((List UInt8 → Prop) × (List UInt8 → Bool))) : Prop:=d.1.length ≤ 1000000 ∧ ∀ x ∈ d.1,d.2.1 x
def res_slices_ContainsFunc_string_string (d : List (List UInt8) × ((List UInt8 → Prop) × (List UInt8 → Bool))) : SV:=.val .bo (d.1.any d.2.2)
def obs_slices_ContainsFunc_string_string (d : List (List UInt8) × ((List UInt8 → Prop) × (List UInt8 → Bool))) : List OB:=[]
def s_slices_ContainsFunc_string_string : CSp:=mkSp al_slices_ContainsFunc_string_string pre_slices_ContainsFunc_string_string res_slices_ContainsFunc_string_string obs_slices_ContainsFunc_string_string
def vc_slices_ContainsFunc_string_string (l : List (List UInt8)) (p : (List UInt8 → Prop) × (List UInt8 → Bool)) : Prop :=
 (l.length ≤ 1000000 ∧ ∀ x ∈ l,(fun (x1 : List UInt8)=>p.1 x1) x) ∧ ((decide ((idxG l (fun (x1 : List UInt8)=>(p.2 x1))) ≥ (0 : Int))) = (l.any p.2) ∧ (True))
def cx_slices_ContainsFunc_string_string : Cx:=⟨[],[(160,s_slices_IndexFunc_string_string)],9,[],0,[],[],[],[],false,[],[],[]⟩
def lp_slices_ContainsFunc_string_string (l : List (List UInt8)) (p : (List UInt8 → Prop) × (List UInt8 → Bool)) : List (Nat × LoopAnn):=[]
set_option maxRecDepth 100000 in
theorem vq_slices_ContainsFunc_string_string (d : List (List UInt8) × ((List UInt8 → Prop) × (List UInt8 → Bool))) : gwp (cx_slices_ContainsFunc_string_string) (lp_slices_ContainsFunc_string_string d.1 d.2) c138 0 (gend [.tmp 4] (res_slices_ContainsFunc_string_string d) (obs_slices_ContainsFunc_string_string d)) (gstart 9 (AL.can al_slices_ContainsFunc_string_string d)) = vc_slices_ContainsFunc_string_string d.1 d.2:=by kernel_rfl
abbrev Ok_slices_ContainsFunc_string_string : Prop:=OkC Tryz.prog 138 s_slices_ContainsFunc_string_string
theorem mk_slices_ContainsFunc_string_string (h : ∀ (l : List (List UInt8)) (p : (List UInt8 → Prop) × (List UInt8 → Bool)),(l.length ≤ 1000000 ∧ ∀ x ∈ l,p.1 x) → vc_slices_ContainsFunc_string_string l p) : OkC Tryz.prog 138 s_slices_ContainsFunc_string_string :=
 okC_vc fun138 mixed (C:=cx_slices_ContainsFunc_string_string) (V:=fun (d : List (List UInt8) × ((List UInt8 → Prop) × (List UInt8 → Bool)))=>vc_slices_ContainsFunc_string_string d.1 d.2) ⟨(.cons ok_slices_IndexFunc_string_string .nil),XsOk.nil,ItsOk.nil,YlOk.nil,IysOk.nil⟩ (vq_slices_ContainsFunc_string_string) fun d hp=>h d.1 d.2 hp
theorem ok_slices_ContainsFunc_string_string : Ok_slices_ContainsFunc_string_string:=mk_slices_ContainsFunc_string_string fun l p hp=>by
 simp only [vc_slices_ContainsFunc_string_string]
 exact ⟨hp,idxG_any l p.2,trivial⟩
def al_tie_checkCloth_1 : AL (List UInt8 × Int):=(.cons (.k .st) (.one (.ptr (.one (.k (.i .i64))))))
def pre_tie_checkCloth_1 (d : List UInt8 × Int) : Prop:=d.1.length ≤ 1000000
def res_tie_checkCloth_1 (d : List UInt8 × Int) : SV:=.val .bo (decide ((d.1.length : Int) ≠ d.2) || !isXd d.1)
def obs_tie_checkCloth_1 (d : List UInt8 × Int) : List OB:=[]
def s_tie_checkCloth_1 : CSp:=mkSp al_tie_checkCloth_1 pre_tie_checkCloth_1 res_tie_checkCloth_1 obs_tie_checkCloth_1
def vc_tie_checkCloth_1 (s : List UInt8) (n : Int) : Prop :=
 (((lI s) != n) = false → s.length ≤ 1000000 ∧ ([120,46] : List UInt8).length ≤ 1000 ∧ ([120,46] : List UInt8).all (fun b=>decide (b.toNat < 128)) = true) ∧ ((((lI s) != n) || (!((Lib.trimS s [120,46]) == []))) = (decide ((s.length : Int) ≠ n) || !isXd s) ∧ (True))
def cx_tie_checkCloth_1 : Cx:=⟨[],[(137,s_strings_Trim)],13,[],0,[],[],[],[],false,[],[],[]⟩
def lp_tie_checkCloth_1 (s : List UInt8) (n : Int) : List (Nat × LoopAnn):=[]
set_option maxRecDepth 100000 in
theorem vq_tie_checkCloth_1 (d : List UInt8 × Int) : gwp (cx_tie_checkCloth_1) (lp_tie_checkCloth_1 d.1 d.2) c136 0 (gend [.tmp 3] (res_tie_checkCloth_1 d) (obs_tie_checkCloth_1 d)) (gstart 13 (AL.can al_tie_checkCloth_1 d)) = vc_tie_checkCloth_1 d.1 d.2:=by kernel_rfl
abbrev Ok_tie_checkCloth_1 : Prop:=OkC Tryz.prog 136 s_tie_checkCloth_1
theorem mk_tie_checkCloth_1 (h : ∀ (s : List UInt8) (n : Int),(s.length ≤ 1000000) → vc_tie_checkCloth_1 s n) : OkC Tryz.prog 136 s_tie_checkCloth_1 :=
 okC_vc fun136 mixed (C:=cx_tie_checkCloth_1) (V:=fun (d : List UInt8 × Int)=>vc_tie_checkCloth_1 d.1 d.2) ⟨(.cons ok_strings_Trim .nil),XsOk.nil,ItsOk.nil,YlOk.nil,IysOk.nil⟩ (vq_tie_checkCloth_1) fun d hp=>h d.1 d.2 hp
theorem u8_ne (a b : UInt8) : (((UInt8.toNat a : Nat) : Int) != ((UInt8.toNat b : Nat) : Int)) = (a != b):=by
 rw [Bool.eq_iff_iff]
 simp only [bne_iff_ne,ne_eq]
 rw [show (((UInt8.toNat a : Nat) : Int) = ((UInt8.toNat b : Nat) : Int)) ↔ a = b from ⟨fun h=>UInt8.toNat_inj.1 (by omega),fun h=>by rw [h]⟩]
theorem u8_eqk (a : UInt8) (k : Nat) (b : UInt8) (hb : b.toNat = k) : (((UInt8.toNat a : Nat) : Int) == (k : Int)) = (a == b):=by
 rw [Bool.eq_iff_iff]
 simp only [beq_iff_eq]
 rw [← hb,show (((UInt8.toNat a : Nat) : Int) = ((UInt8.toNat b : Nat) : Int)) ↔ a = b from ⟨fun h=>UInt8.toNat_inj.1 (by omega),fun h=>by rw [h]⟩]
theorem u8_x (a : UInt8) : (((UInt8.toNat a : Nat) : Int) == 120) = (a == 120):=u8_eqk a 120 120 rfl
theorem u8_nx (a : UInt8) : (((UInt8.toNat a : Nat) : Int) != 120) = (a != 120):=by simp only [bne,u8_x]
theorem u8_d (a : UInt8) : (((UInt8.toNat a : Nat) : Int) == 46) = (a == 46):=u8_eqk a 46 46 rfl
theorem u8_nd (a : UInt8) : (((UInt8.toNat a : Nat) : Int) != 46) = (a != 46):=by simp only [bne,u8_d]
theorem dropWhile_nil {p : UInt8 → Bool} (l : List UInt8) : l.dropWhile p = [] ↔ ∀ x ∈ l,p x = true:=by
 induction l with
 | nil=>simp
 | cons a l ih=>cases h : p a <;> simp [List.dropWhile,h,ih]
theorem trimS_xd (s : List UInt8) : (Lib.trimS s [120,46] == []) = isXd s:=by
 have hp : ∀ b : UInt8,([120,46] : List UInt8).contains b = (b == 120 || b == 46):=fun b=>by rw [Bool.eq_iff_iff]; simp []
 rw [Bool.eq_iff_iff]
 simp only [Lib.trimS,Lib.trimLeftS,Lib.trimRightS,beq_iff_eq,isXd,List.all_eq_true,hp]
 rw [dropWhile_nil]
 simp only [List.mem_reverse]
 constructor
 ·intro h x hx
  have hx : x ∈ s.reverse:=List.mem_reverse.2 hx
  rw [← List.takeWhile_append_dropWhile (p:=fun b=>b == 120 || b == 46) (l:=s.reverse),List.mem_append] at hx
  rcases hx with hx | hx
  ·exact (List.all_eq_true.1 List.all_takeWhile) x hx
  ·exact h x hx
 ·intro h x hx
  exact h x (List.mem_reverse.1 ((List.dropWhile_suffix _).mem hx))
theorem ok_tie_checkCloth_1 : Ok_tie_checkCloth_1:=mk_tie_checkCloth_1 fun s n h=>by
 unfold vc_tie_checkCloth_1; (try delta lI gD sT I64)
 (try simp only [decide_eq_true_eq,decide_eq_false_iff_not])
 refine ⟨fun _=>⟨h,by decide,by decide⟩,?_⟩
 rw [trimS_xd]
 congr 1
 rw [Bool.eq_iff_iff]; simp
def al_tie_checkCloth : AL (List (List UInt8) × Int):=(.cons (.k (.list .st)) (.one (.k (.i .i64))))
def pre_tie_checkCloth (d : List (List UInt8) × Int) : Prop:=d.1.length ≤ 1000000 ∧ ∀ s ∈ d.1,s.length ≤ 1000000
def res_tie_checkCloth (d : List (List UInt8) × Int) : SV:=.val (.i .i64) (clothErr d.1 d.2)
def obs_tie_checkCloth (d : List (List UInt8) × Int) : List OB:=[]
def s_tie_checkCloth : CSp:=mkSp al_tie_checkCloth pre_tie_checkCloth res_tie_checkCloth obs_tie_checkCloth
def vc_tie_checkCloth (c : List (List UInt8)) (n : Int) : Prop :=
 ((decide ((lI c) > (60 : Int))) = true →
  ((5 : Int) = (clothErr c n) ∧ (True))) ∧
 ((decide ((lI c) > (60 : Int))) = false →
  (((lI c) == (0 : Int)) = true →
   ((7 : Int) = (clothErr c n) ∧ (True))) ∧
  (((lI c) == (0 : Int)) = false →
   ([n].length ≤ 1000000) ∧ ((!(!([n].any fun n=>decide (n < (1 : Int)) || decide ((96 : Int) < n)))) = true →
    ((!(!([n].any fun n=>decide (n < (1 : Int)) || decide ((96 : Int) < n)))) = true →
     ((4 : Int) = (clothErr c n) ∧ (True))) ∧
    ((!(!([n].any fun n=>decide (n < (1 : Int)) || decide ((96 : Int) < n)))) = false →
     ((0 : Int) = (clothErr c n) ∧ (True)))) ∧
   ((!(!([n].any fun n=>decide (n < (1 : Int)) || decide ((96 : Int) < n)))) = false →
    (c.length ≤ 1000000 ∧ ∀ x ∈ c,(fun (x1 : List UInt8)=>x1.length ≤ 1000000) x) ∧ ((c.any (fun (x1 : List UInt8)=>(decide ((x1.length : Int) ≠ n) || !isXd x1))) = true →
     ((4 : Int) = (clothErr c n) ∧ (True))) ∧
    ((c.any (fun (x1 : List UInt8)=>(decide ((x1.length : Int) ≠ n) || !isXd x1))) = false →
     ((0 : Int) = (clothErr c n) ∧ (True))))))
def cx_tie_checkCloth : Cx:=⟨[(3,(.i .i64))],[(67,s_tie_within),(138,s_slices_ContainsFunc_string_string),(136,s_tie_checkCloth_1)],23,[],0,[],[],[],[],false,[],[],[]⟩
def lp_tie_checkCloth (c : List (List UInt8)) (n : Int) : List (Nat × LoopAnn):=[]
set_option maxRecDepth 100000 in
theorem vq_tie_checkCloth (d : List (List UInt8) × Int) : gwp (cx_tie_checkCloth) (lp_tie_checkCloth d.1 d.2) c112 0 (gend [.tmp 4] (res_tie_checkCloth d) (obs_tie_checkCloth d)) (gstart 23 (AL.can al_tie_checkCloth d)) = vc_tie_checkCloth d.1 d.2:=by kernel_rfl
abbrev Ok_tie_checkCloth : Prop:=OkC Tryz.prog 112 s_tie_checkCloth
theorem mk_tie_checkCloth (h : ∀ (c : List (List UInt8)) (n : Int),(c.length ≤ 1000000 ∧ ∀ s ∈ c,s.length ≤ 1000000) → vc_tie_checkCloth c n) : OkC Tryz.prog 112 s_tie_checkCloth :=
 okC_vc fun112 mixed (C:=cx_tie_checkCloth) (V:=fun (d : List (List UInt8) × Int)=>vc_tie_checkCloth d.1 d.2) ⟨(.cons ok_tie_within (.cons ok_slices_ContainsFunc_string_string (.cons ok_tie_checkCloth_1 .nil))),XsOk.nil,ItsOk.nil,YlOk.nil,IysOk.nil⟩ (vq_tie_checkCloth) fun d hp=>h d.1 d.2 hp
theorem clothErr_zero {c : List (List UInt8)} {n : Int} (h : clothErr c n = 0) : c.length ≤ 60 ∧ c ≠ [] ∧ 1 ≤ n ∧ n ≤ 96 ∧ ∀ s ∈ c,(s.length : Int) = n ∧ isXd s = true:=by
 unfold clothErr at h
 split at h
 ·cases h
 ·rename_i h1
  split at h
  ·cases h
  ·rename_i h2
   split at h
   ·cases h
   ·rename_i h3
    simp only [Bool.or_eq_true,not_or,Bool.not_eq_true',Bool.not_eq_false,Bool.not_eq_true] at h3
    have h4 : 1 ≤ n ∧ n ≤ 96:=by simpa [inI] using h3.1
    refine ⟨by omega,fun e=>h2 (by simp [e]),h4.1,h4.2,fun s hs=>?_⟩
    have:=List.any_eq_false.1 h3.2 s hs
    simp only [Bool.or_eq_true,decide_eq_true_eq,Bool.not_eq_true',not_or,ne_eq,Decidable.not_not,Bool.not_eq_false] at this
    exact this
theorem ok_tie_checkCloth : Ok_tie_checkCloth:=mk_tie_checkCloth fun c n h=>by
 unfold vc_tie_checkCloth; (try delta lI gD sT I64)
 (try simp only [decide_eq_true_eq,decide_eq_false_iff_not])
 have e : ([n].any fun n=>decide (n < 1) || decide (96 < n)) = !inI n 1 96:=by simp only [List.any_cons,List.any_nil,Bool.or_false,← nI]
 simp only [e,Bool.not_not]
 have ce : ¬ 60 < c.length → ¬ c.length = 0 → clothErr c n = if !inI n 1 96 || c.any (fun s=>decide ((s.length : Int) ≠ n) || !isXd s) then 4 else 0:=fun h1 h2=>by
  unfold clothErr; rw [if_neg h1,if_neg h2]
 refine ⟨fun h1=>?_,fun h1=>⟨fun h2=>?_,fun h2=>⟨by simp,fun hw=>⟨fun _=>?_,fun hw2=>?_⟩,fun hw=>⟨h,fun ha=>?_,fun ha=>?_⟩⟩⟩⟩
 ·unfold clothErr; rw [if_pos (by omega)]; exact (by and_intros <;> first | rfl | trivial | simp)
 ·have h2 : c.length = 0:=by simp only [beq_iff_eq] at h2; omega
  unfold clothErr; rw [if_neg (by omega),if_pos h2]; exact (by and_intros <;> first | rfl | trivial | simp)
 all_goals have h2' : ¬ c.length = 0:=by simp only [beq_eq_false_iff_ne] at h2; omega
 ·rw [ce (by omega) h2',hw]; exact (by and_intros <;> first | rfl | trivial | simp)
 ·rw [hw] at hw2; cases hw2
 ·rw [ce (by omega) h2',hw,ha]; exact (by and_intros <;> first | rfl | trivial | simp)
 ·rw [ce (by omega) h2',hw,ha]; exact (by and_intros <;> first | rfl | trivial | simp)
def al_tie_readCloth : AL ((Int × List Int) × List (List UInt8)):=(.cons (.agg (.cons (.k (.i .i64)) (.one (.k (.list (.i .i64)))))) (.one (.k (.list .st))))
def pre_tie_readCloth (d : (Int × List Int) × List (List UInt8)) : Prop:=d.1.2.length ≤ 1000000 ∧ d.2.length ≤ 1000000 ∧ ∀ s ∈ d.2,s.length ≤ 1000000
def res_tie_readCloth (d : (Int × List Int) × List (List UInt8)) : SV:=.val (.i .i64) (unwErr d.1.1 d.1.2 d.2)
def obs_tie_readCloth (d : (Int × List Int) × List (List UInt8)) : List OB:=[]
def s_tie_readCloth : CSp:=mkSp al_tie_readCloth pre_tie_readCloth res_tie_readCloth obs_tie_readCloth
def vc_tie_readCloth (hk : Int) (lw : List Int) (c : List (List UInt8)) : Prop :=
 (lw.length ≤ 1000000) ∧ (((tieErr hk lw) != (0 : Int)) = true →
  ((tieErr hk lw) = (unwErr hk lw c) ∧ (True))) ∧
 (((tieErr hk lw) != (0 : Int)) = false →
  (c.length ≤ 1000000 ∧ ∀ s ∈ c,s.length ≤ 1000000) ∧ ((clothErr c (lI lw)) = (unwErr hk lw c) ∧ (True)))
def cx_tie_readCloth : Cx:=⟨[],[(58,s_tie_Check),(112,s_tie_checkCloth)],16,[],0,[],[],[],[],false,[],[],[]⟩
def lp_tie_readCloth (hk : Int) (lw : List Int) (c : List (List UInt8)) : List (Nat × LoopAnn):=[]
set_option maxRecDepth 100000 in
theorem vq_tie_readCloth (d : (Int × List Int) × List (List UInt8)) : gwp (cx_tie_readCloth) (lp_tie_readCloth d.1.1 d.1.2 d.2) c79 0 (gend [.tmp 4] (res_tie_readCloth d) (obs_tie_readCloth d)) (gstart 16 (AL.can al_tie_readCloth d)) = vc_tie_readCloth d.1.1 d.1.2 d.2:=by kernel_rfl
abbrev Ok_tie_readCloth : Prop:=OkC Tryz.prog 79 s_tie_readCloth
theorem mk_tie_readCloth (h : ∀ (hk : Int) (lw : List Int) (c : List (List UInt8)),(lw.length ≤ 1000000 ∧ c.length ≤ 1000000 ∧ ∀ s ∈ c,s.length ≤ 1000000) → vc_tie_readCloth hk lw c) : OkC Tryz.prog 79 s_tie_readCloth :=
 okC_vc fun79 mixed (C:=cx_tie_readCloth) (V:=fun (d : (Int × List Int) × List (List UInt8))=>vc_tie_readCloth d.1.1 d.1.2 d.2) ⟨(.cons ok_tie_Check (.cons ok_tie_checkCloth .nil)),XsOk.nil,ItsOk.nil,YlOk.nil,IysOk.nil⟩ (vq_tie_readCloth) fun d hp=>h d.1.1 d.1.2 d.2 hp
theorem ok_tie_readCloth : Ok_tie_readCloth:=mk_tie_readCloth fun hk lw c h=>by
 unfold vc_tie_readCloth; (try delta lI gD sT I64)
 (try simp only [decide_eq_true_eq,decide_eq_false_iff_not])
 refine ⟨h.1,fun he=>?_,fun he=>⟨⟨h.2.1,h.2.2⟩,?_⟩⟩
 ·have he : tieErr hk lw ≠ 0:=by simpa using he
  simp [unwErr,he]
 ·have he : tieErr hk lw = 0:=by simpa using he
  simp [unwErr,he]
def cx_slices_Backward_int_int : Cx:=⟨[],[],4,[],0,[],[],[],[],false,[],[],[]⟩
def x_slices_Backward_int_int : XSp:=inlX cx_slices_Backward_int_int (fun _=>[]) c115 [.tmp 2] 4
theorem okx_slices_Backward_int_int : XOk Tryz.prog 115 x_slices_Backward_int_int:=inlX_ok fun115 mixed (C:=cx_slices_Backward_int_int) ⟨.nil,XsOk.nil,ItsOk.nil,YlOk.nil,IysOk.nil⟩ _
def al_tie_harness_firsts : AL (Int × List Int):=(.one (.agg (.cons (.k (.i .i64)) (.one (.k (.list (.i .i64)))))))
def pre_tie_harness_firsts (d : Int × List Int) : Prop:=d.2.length ≤ 1000
def res_tie_harness_firsts (d : Int × List Int) : SV:=.map 0
def obs_tie_harness_firsts (d : Int × List Int) : List OB:=[.map (.i .i64) (.i .i64) (fstM d.2)]
def s_tie_harness_firsts : CSp:=mkSp al_tie_harness_firsts pre_tie_harness_firsts res_tie_harness_firsts obs_tie_harness_firsts
def vc_tie_harness_firsts (hk : Int) (lw : List Int) : Prop :=
 ∀ w1 : List Value,w1 = w1 ∧ (List.length lw < 4611686018427387904) ∧ ∃ (e3 : Unit) (d30 : (List (Int × Int))),((True ∧ True) ∧ ((True ∧ (([] : List SV) = [])) ∧ (([] : List (Int × Int)) = d30) ∧ True)) ∧
 RangeP (List.length lw) (fun (k3 : Nat) (d3 : (List (Int × Int))) (q3 : ((List (Int × Int))) → Prop)=>∀ w3 : List Value,
  w3 = w3 ∧ (∃ d4 : (List (Int × Int)),((True ∧ True) ∧ ((True ∧ (([] : List SV) = [])) ∧ ((aput (.i .i64) d3 (List.getD lw (List.length lw - 1 - k3) 0) ((lI lw) - 1 - (k3 : Int))) = d4) ∧ True)) ∧ q3 d4))
 (fun (d5 : (List (Int × Int))) =>
  (True ∧ ((d5 = (fstM lw)) ∧ True))) d30
def cx_tie_harness_firsts : Cx:=⟨[(1000006,(.pair (.i .i64) (.i .i64)))],[],17,[],0,[(115,x_slices_Backward_int_int)],[(139,bwIt (.i .i64))],[],[],false,[],[],[]⟩
def lp_tie_harness_firsts (hk : Int) (lw : List Int) : List (Nat × LoopAnn):=[(0,⟨Unit,(List (Int × Int)),[3],fun e x=>[.box 3 0],fun e x=>[(3,.slot 3,.cells [.map 6] (some 135)),(6,.cell 3 0,.map (.i .i64) (.i .i64) x)]⟩)]
set_option maxRecDepth 100000 in
theorem vq_tie_harness_firsts (d : Int × List Int) : gwp (cx_tie_harness_firsts) (lp_tie_harness_firsts d.1 d.2) c85 0 (gend [.tmp 2] (res_tie_harness_firsts d) (obs_tie_harness_firsts d)) (gstart 17 (AL.can al_tie_harness_firsts d)) = vc_tie_harness_firsts d.1 d.2:=by kernel_rfl
abbrev Ok_tie_harness_firsts : Prop:=OkC Tryz.prog 85 s_tie_harness_firsts
theorem mk_tie_harness_firsts (h : ∀ (hk : Int) (lw : List Int),(lw.length ≤ 1000) → vc_tie_harness_firsts hk lw) : OkC Tryz.prog 85 s_tie_harness_firsts :=
 okC_vc fun85 mixed (C:=cx_tie_harness_firsts) (V:=fun (d : Int × List Int)=>vc_tie_harness_firsts d.1 d.2) ⟨.nil,(XsOk.cons okx_slices_Backward_int_int XsOk.nil),(ItsOk.cons (bw_ok funbw139 mixed) ItsOk.nil),YlOk.nil,IysOk.nil⟩ (vq_tie_harness_firsts) fun d hp=>h d.1 d.2 hp
theorem ok_tie_harness_firsts : Ok_tie_harness_firsts:=mk_tie_harness_firsts fun hk lw h=>by
 unfold vc_tie_harness_firsts; (try delta lI gD sT I64)
 (try simp only [])
 intro w1
 refine ⟨by trivial,by omega,(),[],(by and_intros <;> first | rfl | trivial | simp),fun k d=>d = fstMk lw k,rfl,fun k d hk hd w=>⟨by trivial,_,(by and_intros <;> first | rfl | trivial | simp),?_⟩,fun d hd=>?_⟩
 ·rw [hd]; rfl
 ·rw [hd]; exact (by and_intros <;> first | rfl | trivial | simp)
def al_tie_harness_part : AL ((Int × List Int) × List (List UInt8)):=(.cons (.agg (.cons (.k (.i .i64)) (.one (.k (.list (.i .i64)))))) (.one (.k (.list .st))))
def pre_tie_harness_part (d : (Int × List Int) × List (List UInt8)) : Prop:=d.1.2.length ≤ 1000 ∧ d.2.length ≤ 1000 ∧ ∀ s ∈ d.2,s.length = d.1.2.length
def res_tie_harness_part (d : (Int × List Int) × List (List UInt8)) : SV:=.tup [.val (.i .i64) ((partI d.1.2 d.2).1),.val (.i .i64) ((partI d.1.2 d.2).2.1),.val (.i .i64) ((partI d.1.2 d.2).2.2),.val .bo ((partF d.1.2 d.2).isSome)]
def obs_tie_harness_part (d : (Int × List Int) × List (List UInt8)) : List OB:=[]
def s_tie_harness_part : CSp:=mkSp al_tie_harness_part pre_tie_harness_part res_tie_harness_part obs_tie_harness_part
def vc_tie_harness_part (hk : Int) (lw : List Int) (c : List (List UInt8)) : Prop :=
 (lw.length ≤ 1000) ∧ ∃ (e3 : Unit) (d30 : Int),((True ∧ True ∧ c = c ∧ (lI c) = (lI c) ∧ (0 : Int) = d30 ∧ True) ∧ ((hk = hk ∧ lw = lw ∧ (([] : List SV) = [])) ∧ ((fstM lw) = (fstM lw)) ∧ True)) ∧
 LoopP (fun (d3 : Int) (q3 : (Int) → Prop) =>
  ((decide (d3 < (lI c))) = true →
   (0 ≤ d3) ∧ (d3 < (List.length c)) ∧ ∃ (e6 : Int × (List UInt8) × Int) (d60 : Int),((True ∧ True ∧ d3 = e6.1 ∧ (gD c d3 []) = e6.2.1 ∧ c = c ∧ (lI c) = (lI c) ∧ d3 = e6.2.2 ∧ lw = lw ∧ (lI lw) = (lI lw) ∧ (0 : Int) = d60 ∧ True) ∧ ((hk = hk ∧ lw = lw ∧ (([] : List SV) = [])) ∧ ((fstM lw) = (fstM lw)) ∧ True)) ∧
   LoopP (fun (d6 : Int) (q6 : (Int) → Prop) =>
    ((decide (d6 < (lI lw))) = true →
     (0 ≤ d6) ∧ (d6 < (List.length lw)) ∧ (0 ≤ d6) ∧ (d6 < (List.length e6.2.1)) ∧ (0 ≤ (gq.aget (.i .i64) (fstM lw) (gD lw d6 0) 0)) ∧ ((gq.aget (.i .i64) (fstM lw) (gD lw d6 0) 0) < (List.length e6.2.1)) ∧ ((((UInt8.toNat (gD e6.2.1 d6 0) : Nat) : Int) != ((UInt8.toNat (gD e6.2.1 (gq.aget (.i .i64) (fstM lw) (gD lw d6 0) 0) 0) : Nat) : Int)) = true →
      ((e6.1 = ((partI lw c).1) ∧ d6 = ((partI lw c).2.1) ∧ (gq.aget (.i .i64) (fstM lw) (gD lw d6 0) 0) = ((partI lw c).2.2) ∧ true = ((partF lw c).isSome) ∧ (([] : List SV) = [])) ∧ (True))) ∧
     ((((UInt8.toNat (gD e6.2.1 d6 0) : Nat) : Int) != ((UInt8.toNat (gD e6.2.1 (gq.aget (.i .i64) (fstM lw) (gD lw d6 0) 0) 0) : Nat) : Int)) = false →
      (I64 (d6 + (1 : Int))) ∧ (∃ d7 : Int,((True ∧ True ∧ e6.1 = e6.1 ∧ e6.2.1 = e6.2.1 ∧ c = c ∧ (lI c) = (lI c) ∧ e6.2.2 = e6.2.2 ∧ lw = lw ∧ (lI lw) = (lI lw) ∧ (d6 + (1 : Int)) = d7 ∧ True) ∧ ((hk = hk ∧ lw = lw ∧ (([] : List SV) = [])) ∧ ((fstM lw) = (fstM lw)) ∧ True)) ∧ q6 d7))) ∧
    ((decide (d6 < (lI lw))) = false →
     (I64 (e6.2.2 + (1 : Int))) ∧ (∃ d8 : Int,((True ∧ True ∧ c = c ∧ (lI c) = (lI c) ∧ (e6.2.2 + (1 : Int)) = d8 ∧ True) ∧ ((hk = hk ∧ lw = lw ∧ (([] : List SV) = [])) ∧ ((fstM lw) = (fstM lw)) ∧ True)) ∧ q3 d8))) d60) ∧
  ((decide (d3 < (lI c))) = false →
   (((0 : Int) = ((partI lw c).1) ∧ (0 : Int) = ((partI lw c).2.1) ∧ (0 : Int) = ((partI lw c).2.2) ∧ false = ((partF lw c).isSome) ∧ (([] : List SV) = [])) ∧ (True)))) d30
def cx_tie_harness_part : Cx:=⟨[],[(85,s_tie_harness_firsts)],47,[],0,[],[],[],[],false,[],[],[]⟩
def lp_tie_harness_part (hk : Int) (lw : List Int) (c : List (List UInt8)) : List (Nat × LoopAnn):=[(0,⟨Unit,Int,[2,8,16,17,18],fun e x=>[.box 2 0,.map 15,.val (.list .st) c,.val (.i .i64) (((List.length c) : Nat) : Int),.val (.i .i64) x],fun e x=>[(2,.slot 2,.cells [.val (.i .i64) hk,.val (.list (.i .i64)) lw] (some 120)),(15,.slot 8,.map (.i .i64) (.i .i64) (fstM lw))]⟩),
 (2,⟨Int × (List UInt8) × Int,Int,[2,8,9,10,16,17,18,25,26,27],fun e x=>[.box 2 0,.map 15,.val (.i .i64) e.1,.val .st e.2.1,.val (.list .st) c,.val (.i .i64) (((List.length c) : Nat) : Int),.val (.i .i64) e.2.2,.val (.list (.i .i64)) lw,.val (.i .i64) (((List.length lw) : Nat) : Int),.val (.i .i64) x],fun e x=>[(2,.slot 2,.cells [.val (.i .i64) hk,.val (.list (.i .i64)) lw] (some 120)),(15,.slot 8,.map (.i .i64) (.i .i64) (fstM lw))]⟩)]
set_option maxRecDepth 100000 in
theorem vq_tie_harness_part (d : (Int × List Int) × List (List UInt8)) : gwp (cx_tie_harness_part) (lp_tie_harness_part d.1.1 d.1.2 d.2) c80 0 (gend [.tmp 4,.tmp 5,.tmp 6,.tmp 7] (res_tie_harness_part d) (obs_tie_harness_part d)) (gstart 47 (AL.can al_tie_harness_part d)) = vc_tie_harness_part d.1.1 d.1.2 d.2:=by kernel_rfl
abbrev Ok_tie_harness_part : Prop:=OkC Tryz.prog 80 s_tie_harness_part
theorem mk_tie_harness_part (h : ∀ (hk : Int) (lw : List Int) (c : List (List UInt8)),(lw.length ≤ 1000 ∧ c.length ≤ 1000 ∧ ∀ s ∈ c,s.length = lw.length) → vc_tie_harness_part hk lw c) : OkC Tryz.prog 80 s_tie_harness_part :=
 okC_vc fun80 mixed (C:=cx_tie_harness_part) (V:=fun (d : (Int × List Int) × List (List UInt8))=>vc_tie_harness_part d.1.1 d.1.2 d.2) ⟨(.cons ok_tie_harness_firsts .nil),XsOk.nil,ItsOk.nil,YlOk.nil,IysOk.nil⟩ (vq_tie_harness_part) fun d hp=>h d.1.1 d.1.2 d.2 hp
theorem ok_tie_harness_part : Ok_tie_harness_part:=mk_tie_harness_part fun hk lw c h=>by
 obtain ⟨h1,h2,h3⟩:=h
 unfold vc_tie_harness_part; (try delta lI gD sT I64)
 (try simp only [decide_eq_true_eq,decide_eq_false_iff_not])
 refine ⟨h1,(),0,(by and_intros <;> first | rfl | trivial | simp),?_⟩
 refine LoopP.count c.length (fun k=>∀ j,j < k → partW lw (c.getD j []) = none) (fun j h=>by omega) fun i hi hJ q hq=>?_
 refine ⟨fun hlt=>?_,fun hge=>?_⟩
 ·have hlt : i < c.length:=by omega
  have hs:=h3 _ (List.getElem_mem hlt)
  refine ⟨by omega,by omega,((i : Int),c.getD i [],(i : Int)),0,(by and_intros <;> first | rfl | trivial | simp),?_⟩
  dsimp only
  rw [getD_nat hlt]
  refine LoopP.count lw.length (fun w=>∀ j,j < w → c[i].getD j 0 = c[i].getD (fstN lw (lw.getD j 0)) 0) (fun j h=>by omega) fun w hw hI q2 hq2=>?_
  refine ⟨fun hlt2=>?_,fun hge=>⟨by rw [InK_i64]; omega,_,(by and_intros <;> first | rfl | trivial | simp),hq hlt fun j hj=>?_⟩⟩
  ·have hlt2 : w < lw.length:=by omega
   have hf:=fstN_lt (getD_mem hlt2)
   simp only [Int.toNat_natCast,fstM_get hlt2,u8_ne]
   refine ⟨by omega,by omega,by omega,by omega,by omega,by omega,fun hne=>?_,fun heq=>⟨by rw [InK_i64]; omega,_,(by and_intros <;> first | rfl | trivial | simp),hq2 hlt2 fun j hj=>?_⟩⟩
   ·have hp:=partF_some hlt hJ (w:=w) (by rw [getD_nat hlt]; exact partW_some hlt2 hI (by simpa using hne))
    simp [partI,hp]
   ·rcases Nat.lt_succ_iff_lt_or_eq.1 hj with hj | rfl
    ·exact hI j hj
    ·simpa using heq
  ·rcases Nat.lt_succ_iff_lt_or_eq.1 hj with hj | rfl
   ·exact hJ j hj
   ·rw [getD_nat hlt]
    exact partW_none.2 fun w' hw'=>hI w' (by omega)
 ·have hp : partF lw c = none:=partF_none.2 fun j hj=>hJ j (by omega)
  simp [partI,hp]
def al_tie_harness_design : AL ((Int × List Int) × List (List UInt8)):=(.cons (.agg (.cons (.k (.i .i64)) (.one (.k (.list (.i .i64)))))) (.one (.k (.list .st))))
def pre_tie_harness_design (d : (Int × List Int) × List (List UInt8)) : Prop:=d.1.2.length ≤ 1000 ∧ d.2.length ≤ 1000 ∧ (∀ s ∈ d.2,s.length = d.1.2.length) ∧ ∀ x ∈ d.1.2,0 ≤ x ∧ x < 24
def res_tie_harness_design (d : (Int × List Int) × List (List UInt8)) : SV:=.agg [.val (.i .i64) d.1.1,.lst 0]
def obs_tie_harness_design (d : (Int × List Int) × List (List UInt8)) : List OB:=[.lst 3 (.i .i64) (rowsX d.1.2 d.2) ((rowsX d.1.2 d.2).isEmpty)]
def s_tie_harness_design : CSp:=mkSp al_tie_harness_design pre_tie_harness_design res_tie_harness_design obs_tie_harness_design
def vc_tie_harness_design (hk : Int) (lw : List Int) (c : List (List UInt8)) : Prop :=
 ∃ (e4 : Unit) (d40 : (List Int) × Int),((True ∧ True ∧ True ∧ c = c ∧ (lI c) = (lI c) ∧ (0 : Int) = d40.2 ∧ True) ∧ ((hk = hk ∧ lw = lw ∧ (([] : List SV) = [])) ∧ ((0 : Int) = (0 : Int) ∧ True ∧ (([] : List SV) = [])) ∧ (hk = hk ∧ True ∧ (([] : List SV) = [])) ∧ (d40.1 = [] ∧ (List.isEmpty d40.1) = true) ∧ True)) ∧
 LoopP (fun (d4 : (List Int) × Int) (q4 : ((List Int) × Int) → Prop) =>
  ((decide (d4.2 < (lI c))) = true →
   (0 ≤ d4.2) ∧ (d4.2 < (List.length c)) ∧ ∃ (e7 : (List Int) × (List UInt8) × Int) (d70 : Int × Int),((True ∧ True ∧ True ∧ (gD c d4.2 []) = e7.2.1 ∧ (0 : Int) = d70.1 ∧ c = c ∧ (lI c) = (lI c) ∧ d4.2 = e7.2.2 ∧ lw = lw ∧ (lI lw) = (lI lw) ∧ (0 : Int) = d70.2 ∧ True) ∧ ((hk = hk ∧ lw = lw ∧ (([] : List SV) = [])) ∧ ((0 : Int) = (0 : Int) ∧ True ∧ (([] : List SV) = [])) ∧ (hk = hk ∧ True ∧ (([] : List SV) = [])) ∧ (d4.1 = e7.1 ∧ (List.isEmpty d4.1) = (List.isEmpty e7.1)) ∧ True)) ∧
   LoopP (fun (d7 : Int × Int) (q7 : (Int × Int) → Prop) =>
    ((decide (d7.2 < (lI lw))) = true →
     (0 ≤ d7.2) ∧ (d7.2 < (List.length lw)) ∧ (0 ≤ d7.2) ∧ (d7.2 < (List.length e7.2.1)) ∧ ((((UInt8.toNat (gD e7.2.1 d7.2 0) : Nat) : Int) == (120 : Int)) = true →
      (0 ≤ (gD lw d7.2 0)) ∧ (I64 (shlI .i64 (1 : Int) (gD lw d7.2 0))) ∧ (I64 (d7.2 + (1 : Int))) ∧ (∃ d8 : Int × Int,((True ∧ True ∧ True ∧ e7.2.1 = e7.2.1 ∧ (vbits .or .i64 d7.1 (shlI .i64 (1 : Int) (gD lw d7.2 0))) = d8.1 ∧ c = c ∧ (lI c) = (lI c) ∧ e7.2.2 = e7.2.2 ∧ lw = lw ∧ (lI lw) = (lI lw) ∧ (d7.2 + (1 : Int)) = d8.2 ∧ True) ∧ ((hk = hk ∧ lw = lw ∧ (([] : List SV) = [])) ∧ ((0 : Int) = (0 : Int) ∧ True ∧ (([] : List SV) = [])) ∧ (hk = hk ∧ True ∧ (([] : List SV) = [])) ∧ (e7.1 = e7.1 ∧ (List.isEmpty e7.1) = (List.isEmpty e7.1)) ∧ True)) ∧ q7 d8)) ∧
     ((((UInt8.toNat (gD e7.2.1 d7.2 0) : Nat) : Int) == (120 : Int)) = false →
      (I64 (d7.2 + (1 : Int))) ∧ (∃ d9 : Int × Int,((True ∧ True ∧ True ∧ e7.2.1 = e7.2.1 ∧ d7.1 = d9.1 ∧ c = c ∧ (lI c) = (lI c) ∧ e7.2.2 = e7.2.2 ∧ lw = lw ∧ (lI lw) = (lI lw) ∧ (d7.2 + (1 : Int)) = d9.2 ∧ True) ∧ ((hk = hk ∧ lw = lw ∧ (([] : List SV) = [])) ∧ ((0 : Int) = (0 : Int) ∧ True ∧ (([] : List SV) = [])) ∧ (hk = hk ∧ True ∧ (([] : List SV) = [])) ∧ (e7.1 = e7.1 ∧ (List.isEmpty e7.1) = (List.isEmpty e7.1)) ∧ True)) ∧ q7 d9))) ∧
    ((decide (d7.2 < (lI lw))) = false →
     (((List.length e7.1) + (List.length [d7.1])) * 8 ≤ 70368744177664) ∧ (I64 (e7.2.2 + (1 : Int))) ∧ (∃ d10 : (List Int) × Int,((True ∧ True ∧ True ∧ c = c ∧ (lI c) = (lI c) ∧ (e7.2.2 + (1 : Int)) = d10.2 ∧ True) ∧ ((hk = hk ∧ lw = lw ∧ (([] : List SV) = [])) ∧ ((0 : Int) = (0 : Int) ∧ True ∧ (([] : List SV) = [])) ∧ (hk = hk ∧ True ∧ (([] : List SV) = [])) ∧ ((e7.1 ++ [d7.1]) = d10.1 ∧ false = (List.isEmpty d10.1)) ∧ True)) ∧ q4 d10))) d70) ∧
  ((decide (d4.2 < (lI c))) = false →
   ((hk = hk ∧ True ∧ (([] : List SV) = [])) ∧ ((d4.1 = (rowsX lw c) ∧ (List.isEmpty d4.1) = (rowsX lw c).isEmpty) ∧ True)))) d40
def cx_tie_harness_design : Cx:=⟨[(3,(.i .i64))],[],47,[],0,[],[],[],[],false,[],[],[]⟩
def lp_tie_harness_design (hk : Int) (lw : List Int) (c : List (List UInt8)) : List (Nat × LoopAnn):=[(0,⟨Unit,(List Int) × Int,[2,4,5,15,16,17],fun e x=>[.box 2 0,.box 4 0,.box 5 0,.val (.list .st) c,.val (.i .i64) (((List.length c) : Nat) : Int),.val (.i .i64) x.2],fun e x=>[(2,.slot 2,.cells [.val (.i .i64) hk,.val (.list (.i .i64)) lw] (some 120)),(4,.slot 4,.cells [.val (.i .i64) (0 : Int),.nilS] (some 36)),(5,.slot 5,.cells [.val (.i .i64) hk,.lst 43] (some 36)),(43,.cell 5 1,.lst 3 (.i .i64) x.1 (List.isEmpty x.1))]⟩),
 (2,⟨(List Int) × (List UInt8) × Int,Int × Int,[2,4,5,7,8,15,16,17,23,24,25],fun e x=>[.box 2 0,.box 4 0,.box 5 0,.val .st e.2.1,.val (.i .i64) x.1,.val (.list .st) c,.val (.i .i64) (((List.length c) : Nat) : Int),.val (.i .i64) e.2.2,.val (.list (.i .i64)) lw,.val (.i .i64) (((List.length lw) : Nat) : Int),.val (.i .i64) x.2],fun e x=>[(2,.slot 2,.cells [.val (.i .i64) hk,.val (.list (.i .i64)) lw] (some 120)),(4,.slot 4,.cells [.val (.i .i64) (0 : Int),.nilS] (some 36)),(5,.slot 5,.cells [.val (.i .i64) hk,.lst 43] (some 36)),(43,.cell 5 1,.lst 3 (.i .i64) e.1 (List.isEmpty e.1))]⟩)]
set_option maxRecDepth 100000 in
theorem vq_tie_harness_design (d : (Int × List Int) × List (List UInt8)) : gwp (cx_tie_harness_design) (lp_tie_harness_design d.1.1 d.1.2 d.2) c81 0 (gend [.cell 4 true 2] (res_tie_harness_design d) (obs_tie_harness_design d)) (gstart 47 (AL.can al_tie_harness_design d)) = vc_tie_harness_design d.1.1 d.1.2 d.2:=by kernel_rfl
abbrev Ok_tie_harness_design : Prop:=OkC Tryz.prog 81 s_tie_harness_design
theorem mk_tie_harness_design (h : ∀ (hk : Int) (lw : List Int) (c : List (List UInt8)),(lw.length ≤ 1000 ∧ c.length ≤ 1000 ∧ (∀ s ∈ c,s.length = lw.length) ∧ ∀ x ∈ lw,0 ≤ x ∧ x < 24) → vc_tie_harness_design hk lw c) : OkC Tryz.prog 81 s_tie_harness_design :=
 okC_vc fun81 mixed (C:=cx_tie_harness_design) (V:=fun (d : (Int × List Int) × List (List UInt8))=>vc_tie_harness_design d.1.1 d.1.2 d.2) ⟨.nil,XsOk.nil,ItsOk.nil,YlOk.nil,IysOk.nil⟩ (vq_tie_harness_design) fun d hp=>h d.1.1 d.1.2 d.2 hp
theorem ok_tie_harness_design : Ok_tie_harness_design:=mk_tie_harness_design fun hk lw c h=>by
 obtain ⟨h1,h2,h3,h4⟩:=h
 unfold vc_tie_harness_design; (try delta lI gD sT I64)
 (try simp only [decide_eq_true_eq,decide_eq_false_iff_not])
 refine ⟨(),([],0),(by and_intros <;> first | rfl | trivial | simp),?_⟩
 refine LoopP.count2 c.length (fun k xs=>xs = rowsX lw (c.take k)) (by simp [rowsX]) fun i xs hi hJ q hq=>?_
 dsimp only
 refine ⟨fun hlt=>?_,fun hge=>?_⟩
 ·have hlt : i < c.length:=by omega
  have hs:=h3 _ (List.getElem_mem hlt)
  refine ⟨by omega,by omega,(xs,c.getD i [],(i : Int)),(0,0),(by and_intros <;> first | rfl | trivial | simp),?_⟩
  dsimp only
  rw [getD_nat hlt]
  refine LoopP.count2 lw.length (fun k r=>r = ((rowXk lw c[i] k : Nat) : Int)) rfl fun w r hw hI q2 hq2=>?_
  dsimp only
  have hb:=rowXk_lt (s:=c[i]) (n:=24) h4 w hw
  refine ⟨fun hlt2=>?_,fun hge=>?_⟩
  ·have hlt2 : w < lw.length:=by omega
   have hx:=h4 _ (getD_mem hlt2)
   obtain ⟨x,hx'⟩:=Int.eq_ofNat_of_zero_le hx.1
   have h1x : (1 : Nat) <<< x < 2 ^ 24:=by rw [Nat.one_shiftLeft]; exact Nat.pow_lt_pow_right (by omega) (by omega)
   have e1 : shlI .i64 1 ((x : Nat) : Int) = ((1 <<< x : Nat) : Int):=shl_nat (x:=1) (by omega)
   obtain ⟨y,hy⟩ : ∃ y,y = 1 <<< x:=⟨_,rfl⟩
   rw [← hy] at e1 h1x
   simp only [Int.toNat_natCast,u8_x,hx',hI,e1,vor_nat (show rowXk lw c[i] w < 9223372036854775808 by omega) (show y < 9223372036854775808 by omega)]
   clear e1
   refine ⟨by omega,by omega,by omega,by omega,fun he=>⟨by omega,by rw [InK_i64]; omega,by rw [InK_i64]; omega,(((rowXk lw c[i] w ||| y : Nat) : Int),(w : Int) + 1),(by and_intros <;> first | rfl | trivial | simp),hq2 _ hlt2 ?_⟩,fun hne=>⟨by rw [InK_i64]; omega,(((rowXk lw c[i] w : Nat) : Int),(w : Int) + 1),(by and_intros <;> first | rfl | trivial | simp),hq2 _ hlt2 ?_⟩⟩
   ·have he : c[i].getD w 0 = 120:=by simpa using he
    have hxn : (lw.getD w 0).toNat = x:=by omega
    simp only [rowXk,if_pos he,hxn,← hy]
   ·have hne : ¬ c[i].getD w 0 = 120:=by simpa using hne
    simp only [rowXk,if_neg hne]
  ·have : w = lw.length:=by omega
   subst this
   have hxl : xs.length = i:=by rw [hJ]; simp [rowsX]; omega
   refine ⟨by simp only [List.length_singleton]; omega,by rw [InK_i64]; omega,(xs ++ [r],(i : Int) + 1),?_,hq _ hlt ?_⟩
   ·and_intros <;> first | rfl | trivial | simp
   ·rw [take_succ_eq hlt,hJ,hI]
    simp only [rowsX,List.map_append,List.map_cons,List.map_nil,rowX]
 ·have : i = c.length:=by omega
  subst this
  rw [List.take_length] at hJ
  rw [hJ]
  exact (by and_intros <;> first | rfl | trivial | simp)
def al_tie_Unweave : AL ((Int × List Int) × List (List UInt8)):=(.cons (.agg (.cons (.k (.i .i64)) (.one (.k (.list (.i .i64)))))) (.one (.k (.list .st))))
def pre_tie_Unweave (d : (Int × List Int) × List (List UInt8)) : Prop:=d.1.2.length ≤ 1000 ∧ d.2.length ≤ 1000 ∧ ∀ s ∈ d.2,s.length ≤ 1000
def res_tie_Unweave (d : (Int × List Int) × List (List UInt8)) : SV:=.tup [.agg [.val (.i .i64) (if unwE d.1.1 d.1.2 d.2 = 0 then d.1.1 else 0),.lst 0],.val (.i .i64) (unwE d.1.1 d.1.2 d.2)]
def obs_tie_Unweave (d : (Int × List Int) × List (List UInt8)) : List OB:=[.lst 3 (.i .i64) (unwR d.1.1 d.1.2 d.2) ((unwR d.1.1 d.1.2 d.2).isEmpty)]
def s_tie_Unweave : CSp:=mkSp al_tie_Unweave pre_tie_Unweave res_tie_Unweave obs_tie_Unweave
def vc_tie_Unweave (hk : Int) (lw : List Int) (c : List (List UInt8)) : Prop :=
 (lw.length ≤ 1000000 ∧ c.length ≤ 1000000 ∧ ∀ s ∈ c,s.length ≤ 1000000) ∧ (((unwErr hk lw c) != (0 : Int)) = true →
  ((((0 : Int) = (if unwE hk lw c = 0 then hk else 0) ∧ True ∧ (([] : List SV) = [])) ∧ (unwErr hk lw c) = (unwE hk lw c) ∧ (([] : List SV) = [])) ∧ (((unwR hk lw c) = [] ∧ (unwR hk lw c).isEmpty = true) ∧ True))) ∧
 (((unwErr hk lw c) != (0 : Int)) = false →
  (lw.length ≤ 1000 ∧ c.length ≤ 1000 ∧ ∀ s ∈ c,s.length = lw.length) ∧ (((partF lw c).isSome) = true →
   ((((0 : Int) = (if unwE hk lw c = 0 then hk else 0) ∧ True ∧ (([] : List SV) = [])) ∧ (9 : Int) = (unwE hk lw c) ∧ (([] : List SV) = [])) ∧ (((unwR hk lw c) = [] ∧ (unwR hk lw c).isEmpty = true) ∧ True))) ∧
  (((partF lw c).isSome) = false →
   (lw.length ≤ 1000 ∧ c.length ≤ 1000 ∧ (∀ s ∈ c,s.length = lw.length) ∧ ∀ x ∈ lw,0 ≤ x ∧ x < 24) ∧ (((hk = (if unwE hk lw c = 0 then hk else 0) ∧ True ∧ (([] : List SV) = [])) ∧ (0 : Int) = (unwE hk lw c) ∧ (([] : List SV) = [])) ∧ (((rowsX lw c) = (unwR hk lw c) ∧ (rowsX lw c).isEmpty = (unwR hk lw c).isEmpty) ∧ True))))
def cx_tie_Unweave : Cx:=⟨[],[(79,s_tie_readCloth),(80,s_tie_harness_part),(81,s_tie_harness_design)],33,[],0,[],[],[],[],false,[],[],[]⟩
def lp_tie_Unweave (hk : Int) (lw : List Int) (c : List (List UInt8)) : List (Nat × LoopAnn):=[]
set_option maxRecDepth 100000 in
theorem vq_tie_Unweave (d : (Int × List Int) × List (List UInt8)) : gwp (cx_tie_Unweave) (lp_tie_Unweave d.1.1 d.1.2 d.2) c31 0 (gend [.cell 4 true 2,.tmp 5] (res_tie_Unweave d) (obs_tie_Unweave d)) (gstart 33 (AL.can al_tie_Unweave d)) = vc_tie_Unweave d.1.1 d.1.2 d.2:=by kernel_rfl
abbrev Ok_tie_Unweave : Prop:=OkC Tryz.prog 31 s_tie_Unweave
theorem mk_tie_Unweave (h : ∀ (hk : Int) (lw : List Int) (c : List (List UInt8)),(lw.length ≤ 1000 ∧ c.length ≤ 1000 ∧ ∀ s ∈ c,s.length ≤ 1000) → vc_tie_Unweave hk lw c) : OkC Tryz.prog 31 s_tie_Unweave :=
 okC_vc fun31 mixed (C:=cx_tie_Unweave) (V:=fun (d : (Int × List Int) × List (List UInt8))=>vc_tie_Unweave d.1.1 d.1.2 d.2) ⟨(.cons ok_tie_readCloth (.cons ok_tie_harness_part (.cons ok_tie_harness_design .nil))),XsOk.nil,ItsOk.nil,YlOk.nil,IysOk.nil⟩ (vq_tie_Unweave) fun d hp=>h d.1.1 d.1.2 d.2 hp
theorem unwErr_zero {hk : Int} {lw : List Int} {c : List (List UInt8)} (h : unwErr hk lw c = 0) : tieErr hk lw = 0 ∧ clothErr c lw.length = 0:=by
 unfold unwErr at h
 split at h
 ·rename_i h1; exact (h1 h).elim
 ·rename_i h1; exact ⟨by simpa using h1,h⟩
theorem ok_tie_Unweave : Ok_tie_Unweave:=mk_tie_Unweave fun hk lw c h=>by
 obtain ⟨h1,h2,h3⟩:=h
 unfold vc_tie_Unweave
 refine ⟨⟨by omega,by omega,fun s hs=>by have:=h3 s hs; omega⟩,fun he=>?_,fun he=>?_⟩
 ·have he : unwErr hk lw c ≠ 0:=by simpa using he
  have hE : unwE hk lw c = unwErr hk lw c:=by simp [unwE,he]
  simp [unwR,hE,he]
 ·have he : unwErr hk lw c = 0:=by simpa using he
  obtain ⟨e1,e2⟩:=unwErr_zero he
  obtain ⟨t1,t2,t3,t4,t5⟩:=tieErr_zero e1
  obtain ⟨c1,c2,c3,c4,c5⟩:=clothErr_zero e2
  have cl : ∀ s ∈ c,s.length = lw.length:=fun s hs=>by have:=(c5 s hs).1; omega
  refine ⟨⟨h1,h2,cl⟩,fun hp=>?_,fun hp=>⟨⟨h1,h2,cl,fun x hx=>⟨(t5 x hx).1,by have:=(t5 x hx).2; omega⟩⟩,?_⟩⟩
  ·have hE : unwE hk lw c = 9:=by simp [unwE,he,hp]
   simp [unwR,hE]
  ·have hE : unwE hk lw c = 0:=by simp [unwE,he,hp]
   simp [unwR,hE]
def al_tie_Part : AL ((Int × List Int) × List (List UInt8)):=(.cons (.agg (.cons (.k (.i .i64)) (.one (.k (.list (.i .i64)))))) (.one (.k (.list .st))))
def pre_tie_Part (d : (Int × List Int) × List (List UInt8)) : Prop:=d.1.2.length ≤ 1000 ∧ d.2.length ≤ 1000 ∧ ∀ s ∈ d.2,s.length ≤ 1000
def res_tie_Part (d : (Int × List Int) × List (List UInt8)) : SV:=.tup [.val (.i .i64) (if unwErr d.1.1 d.1.2 d.2 = 0 then (partI d.1.2 d.2).1 else 0),.val (.i .i64) (if unwErr d.1.1 d.1.2 d.2 = 0 then (partI d.1.2 d.2).2.1 else 0),.val (.i .i64) (if unwErr d.1.1 d.1.2 d.2 = 0 then (partI d.1.2 d.2).2.2 else 0),.val (.i .i64) (if unwErr d.1.1 d.1.2 d.2 ≠ 0 then unwErr d.1.1 d.1.2 d.2 else if (partF d.1.2 d.2).isSome then 0 else 7)]
def obs_tie_Part (d : (Int × List Int) × List (List UInt8)) : List OB:=[]
def s_tie_Part : CSp:=mkSp al_tie_Part pre_tie_Part res_tie_Part obs_tie_Part
def vc_tie_Part (hk : Int) (lw : List Int) (c : List (List UInt8)) : Prop :=
 (lw.length ≤ 1000000 ∧ c.length ≤ 1000000 ∧ ∀ s ∈ c,s.length ≤ 1000000) ∧ (((unwErr hk lw c) != (0 : Int)) = true →
  (((0 : Int) = (if unwErr hk lw c = 0 then (partI lw c).1 else 0) ∧ (0 : Int) = (if unwErr hk lw c = 0 then (partI lw c).2.1 else 0) ∧ (0 : Int) = (if unwErr hk lw c = 0 then (partI lw c).2.2 else 0) ∧ (unwErr hk lw c) = (if unwErr hk lw c ≠ 0 then unwErr hk lw c else if (partF lw c).isSome then 0 else 7) ∧ (([] : List SV) = [])) ∧ (True))) ∧
 (((unwErr hk lw c) != (0 : Int)) = false →
  (lw.length ≤ 1000 ∧ c.length ≤ 1000 ∧ ∀ s ∈ c,s.length = lw.length) ∧ ((!((partF lw c).isSome)) = true →
   (((0 : Int) = (if unwErr hk lw c = 0 then (partI lw c).1 else 0) ∧ (0 : Int) = (if unwErr hk lw c = 0 then (partI lw c).2.1 else 0) ∧ (0 : Int) = (if unwErr hk lw c = 0 then (partI lw c).2.2 else 0) ∧ (7 : Int) = (if unwErr hk lw c ≠ 0 then unwErr hk lw c else if (partF lw c).isSome then 0 else 7) ∧ (([] : List SV) = [])) ∧ (True))) ∧
  ((!((partF lw c).isSome)) = false →
   ((((partI lw c).1) = (if unwErr hk lw c = 0 then (partI lw c).1 else 0) ∧ ((partI lw c).2.1) = (if unwErr hk lw c = 0 then (partI lw c).2.1 else 0) ∧ ((partI lw c).2.2) = (if unwErr hk lw c = 0 then (partI lw c).2.2 else 0) ∧ (0 : Int) = (if unwErr hk lw c ≠ 0 then unwErr hk lw c else if (partF lw c).isSome then 0 else 7) ∧ (([] : List SV) = [])) ∧ (True))))
def cx_tie_Part : Cx:=⟨[],[(79,s_tie_readCloth),(80,s_tie_harness_part)],30,[],0,[],[],[],[],false,[],[],[]⟩
def lp_tie_Part (hk : Int) (lw : List Int) (c : List (List UInt8)) : List (Nat × LoopAnn):=[]
set_option maxRecDepth 100000 in
theorem vq_tie_Part (d : (Int × List Int) × List (List UInt8)) : gwp (cx_tie_Part) (lp_tie_Part d.1.1 d.1.2 d.2) c32 0 (gend [.tmp 4,.tmp 5,.tmp 6,.tmp 7] (res_tie_Part d) (obs_tie_Part d)) (gstart 30 (AL.can al_tie_Part d)) = vc_tie_Part d.1.1 d.1.2 d.2:=by kernel_rfl
abbrev Ok_tie_Part : Prop:=OkC Tryz.prog 32 s_tie_Part
theorem mk_tie_Part (h : ∀ (hk : Int) (lw : List Int) (c : List (List UInt8)),(lw.length ≤ 1000 ∧ c.length ≤ 1000 ∧ ∀ s ∈ c,s.length ≤ 1000) → vc_tie_Part hk lw c) : OkC Tryz.prog 32 s_tie_Part :=
 okC_vc fun32 mixed (C:=cx_tie_Part) (V:=fun (d : (Int × List Int) × List (List UInt8))=>vc_tie_Part d.1.1 d.1.2 d.2) ⟨(.cons ok_tie_readCloth (.cons ok_tie_harness_part .nil)),XsOk.nil,ItsOk.nil,YlOk.nil,IysOk.nil⟩ (vq_tie_Part) fun d hp=>h d.1.1 d.1.2 d.2 hp
theorem ok_tie_Part : Ok_tie_Part:=mk_tie_Part fun hk lw c h=>by
 obtain ⟨h1,h2,h3⟩:=h
 unfold vc_tie_Part
 refine ⟨⟨by omega,by omega,fun s hs=>by have:=h3 s hs; omega⟩,fun he=>?_,fun he=>?_⟩
 ·have he : unwErr hk lw c ≠ 0:=by simpa using he
  simp [he]
 ·have he : unwErr hk lw c = 0:=by simpa using he
  obtain ⟨e1,e2⟩:=unwErr_zero he
  obtain ⟨c1,c2,c3,c4,c5⟩:=clothErr_zero e2
  have cl : ∀ s ∈ c,s.length = lw.length:=fun s hs=>by have:=(c5 s hs).1; omega
  refine ⟨⟨h1,h2,cl⟩,fun hp=>?_,fun hp=>?_⟩
  ·have hp : partF lw c = none:=by simpa using hp
   simp [he,partI,hp]
  ·have hp : (partF lw c).isSome = true:=by simpa using hp
   simp [he,hp]
end Go.Proofs.Tryz
set_option linter.unusedVariables false
namespace Go.Proofs.Tryz
open Go Go.V Go.Proofs
def al_ref03_Alike : AL (List (List UInt8) × List (List UInt8)):=(.cons (.k (.list .st)) (.one (.k (.list .st))))
def pre_ref03_Alike (d : List (List UInt8) × List (List UInt8)) : Prop:=d.1.length ≤ 1000000
def res_ref03_Alike (d : List (List UInt8) × List (List UInt8)) : SV:=.val .bo (d.1 == d.2)
def obs_ref03_Alike (d : List (List UInt8) × List (List UInt8)) : List OB:=[]
def s_ref03_Alike : CSp:=mkSp al_ref03_Alike pre_ref03_Alike res_ref03_Alike obs_ref03_Alike
def vc_ref03_Alike (a : List (List UInt8)) (b : List (List UInt8)) : Prop :=
 (((lI a) != (lI b)) = true →
  (false = (a == b) ∧ (True))) ∧
 (((lI a) != (lI b)) = false →
  ∃ (e2 : Unit) (d20 : Int),((a = a ∧ b = b ∧ (0 : Int) = d20 ∧ True) ∧ (True)) ∧
  LoopP (fun (d2 : Int) (q2 : (Int) → Prop) =>
   ((decide (d2 < (lI a))) = true →
    (0 ≤ d2) ∧ (d2 < (List.length a)) ∧ (0 ≤ d2) ∧ (d2 < (List.length b)) ∧ ((!((gD a d2 []) == (gD b d2 []))) = true →
     (false = (a == b) ∧ (True))) ∧
    ((!((gD a d2 []) == (gD b d2 []))) = false →
     (I64 (d2 + (1 : Int))) ∧ (∃ d3 : Int,((a = a ∧ b = b ∧ (d2 + (1 : Int)) = d3 ∧ True) ∧ (True)) ∧ q2 d3))) ∧
   ((decide (d2 < (lI a))) = false →
    (true = (a == b) ∧ (True)))) d20)
def cx_ref03_Alike : Cx:=⟨[],[],26,[],0,[],[],[],[],false,[],[],[]⟩
def lp_ref03_Alike (a : List (List UInt8)) (b : List (List UInt8)) : List (Nat × LoopAnn):=[(0,⟨Unit,Int,[0,1,5],fun e x=>[.val (.list .st) a,.val (.list .st) b,.val (.i .i64) x],fun e x=>[]⟩)]
set_option maxRecDepth 100000 in
theorem vq_ref03_Alike (d : List (List UInt8) × List (List UInt8)) : gwp (cx_ref03_Alike) (lp_ref03_Alike d.1 d.2) c26 0 (gend [.tmp 4] (res_ref03_Alike d) (obs_ref03_Alike d)) (gstart 26 (AL.can al_ref03_Alike d)) = vc_ref03_Alike d.1 d.2:=by kernel_rfl
abbrev Ok_ref03_Alike : Prop:=OkC Tryz.prog 26 s_ref03_Alike
theorem mk_ref03_Alike (h : ∀ (a : List (List UInt8)) (b : List (List UInt8)),(a.length ≤ 1000000) → vc_ref03_Alike a b) : OkC Tryz.prog 26 s_ref03_Alike :=
 okC_vc fun26 mixed (C:=cx_ref03_Alike) (V:=fun (d : List (List UInt8) × List (List UInt8))=>vc_ref03_Alike d.1 d.2) ⟨.nil,XsOk.nil,ItsOk.nil,YlOk.nil,IysOk.nil⟩ (vq_ref03_Alike) fun d hp=>h d.1 d.2 hp
theorem ok_ref03_Alike : Ok_ref03_Alike:=mk_ref03_Alike fun a b h=>by
 unfold vc_ref03_Alike; (try delta lI gD sT I64); simp only [true_and,and_true,exists_eq_left',exists_const,decide_eq_true_eq,decide_eq_false_iff_not,beq_iff_eq,bne_iff_ne,ne_eq,beq_eq_false_iff_ne,bne_eq_false_iff_eq,Bool.not_eq_true',Bool.not_eq_false']
 refine ⟨fun h=>?_,fun h=>?_⟩
 ·symm; rw [beq_eq_false_iff_ne]; rintro rfl; exact h rfl
 have h : a.length = b.length:=by omega
 refine LoopP.count a.length (fun k=>a.take k = b.take k) rfl fun k hk1 hJ q hq=>?_
 simp only [Int.toNat_natCast,Int.ofNat_lt,InK_i64]
 refine ⟨fun hlt=>?_,fun hge=>?_⟩
 ·have hlt : k < a.length:=by omega
  rw [getD_nat hlt,getD_nat (by omega)]
  refine ⟨by omega,by omega,by omega,by omega,fun hx=>?_,fun hx=>⟨by omega,hq hlt ?_⟩⟩
  ·symm; rw [beq_eq_false_iff_ne]; rintro rfl; exact hx rfl
  ·rw [take_succ_eq hlt,take_succ_eq (by omega),hJ,hx]
 ·rw [List.take_of_length_le (by omega),List.take_of_length_le (by omega)] at hJ
  simp [hJ]
def al_ref03_Fits : AL (List (List UInt8) × Int):=(.cons (.k (.list .st)) (.one (.k (.i .i64))))
def pre_ref03_Fits (d : List (List UInt8) × Int) : Prop:=d.1.length ≤ 1000
def res_ref03_Fits (d : List (List UInt8) × Int) : SV:=.val (.i .i64) (clothErr d.1 d.2)
def obs_ref03_Fits (d : List (List UInt8) × Int) : List OB:=[]
def s_ref03_Fits : CSp:=mkSp al_ref03_Fits pre_ref03_Fits res_ref03_Fits obs_ref03_Fits
def vc_ref03_Fits (c : List (List UInt8)) (n : Int) : Prop :=
 ((decide ((lI c) > (60 : Int))) = true →
  ((5 : Int) = (clothErr c n) ∧ (True))) ∧
 ((decide ((lI c) > (60 : Int))) = false →
  (((lI c) == (0 : Int)) = true →
   ((7 : Int) = (clothErr c n) ∧ (True))) ∧
  (((lI c) == (0 : Int)) = false →
   ∃ (e2 : Unit) (d20 : Int),((c = c ∧ n = n ∧ (0 : Int) = d20 ∧ True) ∧ (True)) ∧
   LoopP (fun (d2 : Int) (q2 : (Int) → Prop) =>
    ((decide (d2 < (lI c))) = true →
     (0 ≤ d2) ∧ (d2 < (List.length c)) ∧ (((lI (gD c d2 [])) != n) = false → True) ∧ ((((lI (gD c d2 [])) != n) || (!(inI n (1 : Int) (96 : Int)))) = true →
      ((4 : Int) = (clothErr c n) ∧ (True))) ∧
     ((((lI (gD c d2 [])) != n) || (!(inI n (1 : Int) (96 : Int)))) = false →
      ∃ (e4 : Int) (d40 : Int),((c = c ∧ n = n ∧ d2 = e4 ∧ (0 : Int) = d40 ∧ True) ∧ (True)) ∧
      LoopP (fun (d4 : Int) (q4 : (Int) → Prop) =>
       ((decide (d4 < n)) = true →
        (0 ≤ e4) ∧ (e4 < (List.length c)) ∧ (0 ≤ d4) ∧ (d4 < (List.length (gD c e4 []))) ∧ ((((UInt8.toNat (gD (gD c e4 []) d4 0) : Nat) : Int) != (120 : Int)) = true → 0 ≤ e4) ∧ ((((UInt8.toNat (gD (gD c e4 []) d4 0) : Nat) : Int) != (120 : Int)) = true → e4 < (List.length c)) ∧ ((((UInt8.toNat (gD (gD c e4 []) d4 0) : Nat) : Int) != (120 : Int)) = true → 0 ≤ d4) ∧ ((((UInt8.toNat (gD (gD c e4 []) d4 0) : Nat) : Int) != (120 : Int)) = true → d4 < (List.length (gD c e4 []))) ∧ (((((UInt8.toNat (gD (gD c e4 []) d4 0) : Nat) : Int) != (120 : Int)) && (((UInt8.toNat (gD (gD c e4 []) d4 0) : Nat) : Int) != (46 : Int))) = true →
         ((4 : Int) = (clothErr c n) ∧ (True))) ∧
        (((((UInt8.toNat (gD (gD c e4 []) d4 0) : Nat) : Int) != (120 : Int)) && (((UInt8.toNat (gD (gD c e4 []) d4 0) : Nat) : Int) != (46 : Int))) = false →
         (I64 (d4 + (1 : Int))) ∧ (∃ d5 : Int,((c = c ∧ n = n ∧ e4 = e4 ∧ (d4 + (1 : Int)) = d5 ∧ True) ∧ (True)) ∧ q4 d5))) ∧
       ((decide (d4 < n)) = false →
        (I64 (e4 + (1 : Int))) ∧ (∃ d6 : Int,((c = c ∧ n = n ∧ (e4 + (1 : Int)) = d6 ∧ True) ∧ (True)) ∧ q2 d6))) d40)) ∧
    ((decide (d2 < (lI c))) = false →
     ((0 : Int) = (clothErr c n) ∧ (True)))) d20))
def cx_ref03_Fits : Cx:=⟨[],[(27,s_ref03_In)],52,[],0,[],[],[],[],false,[],[],[]⟩
def lp_ref03_Fits (c : List (List UInt8)) (n : Int) : List (Nat × LoopAnn):=[(0,⟨Unit,Int,[0,1,5],fun e x=>[.val (.list .st) c,.val (.i .i64) n,.val (.i .i64) x],fun e x=>[]⟩),
 (2,⟨Int,Int,[0,1,5,6],fun e x=>[.val (.list .st) c,.val (.i .i64) n,.val (.i .i64) e,.val (.i .i64) x],fun e x=>[]⟩)]
set_option maxRecDepth 100000 in
theorem vq_ref03_Fits (d : List (List UInt8) × Int) : gwp (cx_ref03_Fits) (lp_ref03_Fits d.1 d.2) c34 0 (gend [.tmp 4] (res_ref03_Fits d) (obs_ref03_Fits d)) (gstart 52 (AL.can al_ref03_Fits d)) = vc_ref03_Fits d.1 d.2:=by kernel_rfl
abbrev Ok_ref03_Fits : Prop:=OkC Tryz.prog 34 s_ref03_Fits
theorem mk_ref03_Fits (h : ∀ (c : List (List UInt8)) (n : Int),(c.length ≤ 1000) → vc_ref03_Fits c n) : OkC Tryz.prog 34 s_ref03_Fits :=
 okC_vc fun34 mixed (C:=cx_ref03_Fits) (V:=fun (d : List (List UInt8) × Int)=>vc_ref03_Fits d.1 d.2) ⟨(.cons ok_ref03_In .nil),XsOk.nil,ItsOk.nil,YlOk.nil,IysOk.nil⟩ (vq_ref03_Fits) fun d hp=>h d.1 d.2 hp
theorem ok_ref03_Fits : Ok_ref03_Fits:=mk_ref03_Fits fun c n h=>by
 unfold vc_ref03_Fits; (try delta lI gD sT I64)
 (try simp only [decide_eq_true_eq,decide_eq_false_iff_not])
 have ce : ¬ 60 < c.length → ¬ c.length = 0 → clothErr c n = if !inI n 1 96 || c.any (fun s=>decide ((s.length : Int) ≠ n) || !isXd s) then 4 else 0:=fun h1 h2=>by
  unfold clothErr; rw [if_neg h1,if_neg h2]
 refine ⟨fun h1=>?_,fun h1=>⟨fun h2=>?_,fun h2=>?_⟩⟩
 ·unfold clothErr; rw [if_pos (by omega)]; exact (by and_intros <;> first | rfl | trivial | simp)
 ·have h2 : c.length = 0:=by simp only [beq_iff_eq] at h2; omega
  unfold clothErr; rw [if_neg (by omega),if_pos h2]; exact (by and_intros <;> first | rfl | trivial | simp)
 have h2' : ¬ c.length = 0:=by simp only [beq_eq_false_iff_ne] at h2; omega
 rw [ce (by omega) h2']
 refine ⟨(),0,(by and_intros <;> first | rfl | trivial | simp),?_⟩
 refine LoopP.count c.length (fun k=>∀ j (hj : j < c.length),j < k → (c[j].length : Int) = n ∧ inI n 1 96 = true ∧ isXd c[j] = true) (fun j _ h=>by omega) fun i hi hJ q hq=>?_
 refine ⟨fun hlt=>?_,fun hge=>?_⟩
 ·have hlt : i < c.length:=by omega
  simp only [Int.toNat_natCast,getD_nat hlt]
  have mem:=List.getElem_mem hlt
  refine ⟨by omega,by omega,fun _=>trivial,fun hb=>?_,fun hb=>⟨(i : Int),0,(by and_intros <;> first | rfl | trivial | simp),?_⟩⟩
  ·have : (!inI n 1 96 || c.any (fun s=>decide ((s.length : Int) ≠ n) || !isXd s)) = true:=by
    simp only [Bool.or_eq_true,bne_iff_ne] at hb ⊢
    rcases hb with hb | hb
    ·exact .inr (List.any_eq_true.2 ⟨_,mem,by simp [hb]⟩)
    ·exact .inl hb
   rw [this]; exact (by and_intros <;> first | rfl | trivial | simp)
  ·simp only [Bool.or_eq_false_iff,bne_eq_false_iff_eq,Bool.not_eq_false'] at hb
   have hn : n = ((c[i].length : Nat) : Int):=hb.1.symm
   subst hn
   have hn96 : 1 ≤ ((c[i].length : Nat) : Int) ∧ ((c[i].length : Nat) : Int) ≤ 96:=by simpa [inI] using hb.2
   refine LoopP.count c[i].length (fun k=>∀ j (hj : j < c[i].length),j < k → (c[i][j] = 120 ∨ c[i][j] = 46)) (fun j _ h=>by omega) fun w hw hI q2 hq2=>?_
   simp only [Int.toNat_natCast,getD_nat hlt]
   refine ⟨fun hlt2=>?_,fun hge=>⟨by rw [InK_i64]; omega,_,(by and_intros <;> first | rfl | trivial | simp),hq hlt fun j hj hj2=>?_⟩⟩
   ·have hlt2 : w < c[i].length:=by omega
    simp only [getD_nat hlt2,u8_nx,u8_nd]
    refine ⟨by omega,by omega,by omega,by omega,fun _=>by omega,fun _=>by omega,fun _=>by omega,fun _=>by omega,fun hb2=>?_,fun hb2=>⟨by rw [InK_i64]; omega,_,(by and_intros <;> first | rfl | trivial | simp),hq2 hlt2 fun j hj hj2=>?_⟩⟩
    ·have : (!inI ((c[i].length : Nat) : Int) 1 96 || c.any (fun s=>decide ((s.length : Int) ≠ ((c[i].length : Nat) : Int)) || !isXd s)) = true:=by
      simp only [Bool.or_eq_true]
      refine .inr (List.any_eq_true.2 ⟨_,mem,?_⟩)
      simp only [Bool.or_eq_true,Bool.not_eq_true',isXd,List.all_eq_false]
      refine .inr ⟨_,List.getElem_mem hlt2,?_⟩
      simpa using hb2
     rw [this]; exact (by and_intros <;> first | rfl | trivial | simp)
    ·rcases Nat.lt_succ_iff_lt_or_eq.1 hj2 with hj2 | rfl
     ·exact hI j hj hj2
     ·have hb3 : ¬ (c[i][j] ≠ 120 ∧ c[i][j] ≠ 46):=by simpa using hb2
      by_cases e : c[i][j] = 120
      ·exact .inl e
      ·exact .inr (Decidable.byContradiction fun e2=>hb3 ⟨e,e2⟩)
   ·rcases Nat.lt_succ_iff_lt_or_eq.1 hj2 with hj2 | rfl
    ·exact hJ j hj hj2
    ·refine ⟨rfl,hb.2,?_⟩
     simp only [isXd,List.all_eq_true,Bool.or_eq_true,beq_iff_eq]
     intro x hx
     obtain ⟨w',hw',rfl⟩:=List.getElem_of_mem hx
     exact hI w' hw' (by omega)
 ·have hi' : inI n 1 96 = true:=(hJ 0 (by omega) (by omega)).2.1
  have ha : c.any (fun s=>decide ((s.length : Int) ≠ n) || !isXd s) = false:=by
   rw [List.any_eq_false]
   intro s hs
   obtain ⟨j,hj,rfl⟩:=List.getElem_of_mem hs
   obtain ⟨k1,k2,k3⟩:=hJ j hj (by omega)
   simp [k1,k3]
  rw [hi',ha]; exact (by and_intros <;> first | rfl | trivial | simp)
def al_ref03_First : AL ((Int × List Int) × Int):=(.cons (.agg (.cons (.k (.i .i64)) (.one (.k (.list (.i .i64)))))) (.one (.k (.i .i64))))
def pre_ref03_First (d : (Int × List Int) × Int) : Prop:=d.1.2.length ≤ 1000000
def res_ref03_First (d : (Int × List Int) × Int) : SV:=.val (.i .i64) (idxF d.1.2 (fun x=>x == d.2))
def obs_ref03_First (d : (Int × List Int) × Int) : List OB:=[]
def s_ref03_First : CSp:=mkSp al_ref03_First pre_ref03_First res_ref03_First obs_ref03_First
def vc_ref03_First (hk : Int) (lw : List Int) (k : Int) : Prop :=
 ∃ (e3 : Unit) (d30 : Int),((k = k ∧ True ∧ (0 : Int) = d30 ∧ True) ∧ ((hk = hk ∧ lw = lw ∧ (([] : List SV) = [])) ∧ True)) ∧
 LoopP (fun (d3 : Int) (q3 : (Int) → Prop) =>
  ((decide (d3 < (lI lw))) = true →
   (0 ≤ d3) ∧ (d3 < (List.length lw)) ∧ (((gD lw d3 0) == k) = true →
    (d3 = (idxF lw (fun x=>x == k)) ∧ (True))) ∧
   (((gD lw d3 0) == k) = false →
    (I64 (d3 + (1 : Int))) ∧ (∃ d4 : Int,((k = k ∧ True ∧ (d3 + (1 : Int)) = d4 ∧ True) ∧ ((hk = hk ∧ lw = lw ∧ (([] : List SV) = [])) ∧ True)) ∧ q3 d4))) ∧
  ((decide (d3 < (lI lw))) = false →
   ((-1 : Int) = (idxF lw (fun x=>x == k)) ∧ (True)))) d30
def cx_ref03_First : Cx:=⟨[],[],21,[],0,[],[],[],[],false,[],[],[]⟩
def lp_ref03_First (hk : Int) (lw : List Int) (k : Int) : List (Nat × LoopAnn):=[(0,⟨Unit,Int,[1,2,5],fun e x=>[.val (.i .i64) k,.box 2 0,.val (.i .i64) x],fun e x=>[(2,.slot 2,.cells [.val (.i .i64) hk,.val (.list (.i .i64)) lw] (some 26))]⟩)]
set_option maxRecDepth 100000 in
theorem vq_ref03_First (d : (Int × List Int) × Int) : gwp (cx_ref03_First) (lp_ref03_First d.1.1 d.1.2 d.2) c82 0 (gend [.tmp 4] (res_ref03_First d) (obs_ref03_First d)) (gstart 21 (AL.can al_ref03_First d)) = vc_ref03_First d.1.1 d.1.2 d.2:=by kernel_rfl
abbrev Ok_ref03_First : Prop:=OkC Tryz.prog 82 s_ref03_First
theorem mk_ref03_First (h : ∀ (hk : Int) (lw : List Int) (k : Int),(lw.length ≤ 1000000) → vc_ref03_First hk lw k) : OkC Tryz.prog 82 s_ref03_First :=
 okC_vc fun82 mixed (C:=cx_ref03_First) (V:=fun (d : (Int × List Int) × Int)=>vc_ref03_First d.1.1 d.1.2 d.2) ⟨.nil,XsOk.nil,ItsOk.nil,YlOk.nil,IysOk.nil⟩ (vq_ref03_First) fun d hp=>h d.1.1 d.1.2 d.2 hp
theorem ok_ref03_First : Ok_ref03_First:=mk_ref03_First fun hk lw c hlw=>by
 unfold vc_ref03_First; (try delta lI gD sT I64); simp only [true_and,and_true,exists_eq_left',exists_const,decide_eq_true_eq,decide_eq_false_iff_not,beq_iff_eq,ne_eq,beq_eq_false_iff_ne]
 refine LoopP.count lw.length (fun k=>(lw.take k).any (fun x=>x == c) = false) (by simp) fun k hk1 hJ q hq=>?_
 simp only [Int.toNat_natCast,Int.ofNat_lt,InK_i64]
 refine ⟨fun hlt=>?_,fun hge=>?_⟩
 ·have hlt : k < lw.length:=by omega
  rw [getD_nat hlt]
  refine ⟨by omega,by omega,fun hx=>?_,fun hx=>⟨by omega,hq hlt ?_⟩⟩
  ·rw [idxF_some hlt (by simp [hx]) hJ]
  ·rw [take_succ_eq hlt,List.any_append,hJ]; simp [hx]
 ·rw [List.take_of_length_le (by omega)] at hJ
  rw [idxF_none hJ]
def al_ref03_Part : AL ((Int × List Int) × List (List UInt8)):=(.cons (.agg (.cons (.k (.i .i64)) (.one (.k (.list (.i .i64)))))) (.one (.k (.list .st))))
def pre_ref03_Part (d : (Int × List Int) × List (List UInt8)) : Prop:=d.1.2.length ≤ 1000 ∧ d.2.length ≤ 1000 ∧ ∀ s ∈ d.2,s.length = d.1.2.length
def res_ref03_Part (d : (Int × List Int) × List (List UInt8)) : SV:=.tup [.agg [.val (.i .i64) ((partI d.1.2 d.2).1),.val (.i .i64) ((partI d.1.2 d.2).2.1),.val (.i .i64) ((partI d.1.2 d.2).2.2)],.val .bo ((partF d.1.2 d.2).isSome)]
def obs_ref03_Part (d : (Int × List Int) × List (List UInt8)) : List OB:=[]
def s_ref03_Part : CSp:=mkSp al_ref03_Part pre_ref03_Part res_ref03_Part obs_ref03_Part
def vc_ref03_Part (hk : Int) (lw : List Int) (c : List (List UInt8)) : Prop :=
 ∃ (e3 : Unit) (d30 : Int),((c = c ∧ True ∧ True ∧ (0 : Int) = d30 ∧ True) ∧ ((hk = hk ∧ lw = lw ∧ (([] : List SV) = [])) ∧ ((0 : Int) = (0 : Int) ∧ (0 : Int) = (0 : Int) ∧ (0 : Int) = (0 : Int) ∧ (([] : List SV) = [])) ∧ True)) ∧
 LoopP (fun (d3 : Int) (q3 : (Int) → Prop) =>
  ((decide (d3 < (lI c))) = true →
   ∃ (e6 : Int) (d60 : Int),((c = c ∧ True ∧ True ∧ d3 = e6 ∧ (0 : Int) = d60 ∧ True) ∧ ((hk = hk ∧ lw = lw ∧ (([] : List SV) = [])) ∧ ((0 : Int) = (0 : Int) ∧ (0 : Int) = (0 : Int) ∧ (0 : Int) = (0 : Int) ∧ (([] : List SV) = [])) ∧ True)) ∧
   LoopP (fun (d6 : Int) (q6 : (Int) → Prop) =>
    ((decide (d6 < (lI lw))) = true →
     (0 ≤ d6) ∧ (d6 < (List.length lw)) ∧ (lw.length ≤ 1000000) ∧ (0 ≤ e6) ∧ (e6 < (List.length c)) ∧ (0 ≤ d6) ∧ (d6 < (List.length (gD c e6 []))) ∧ (0 ≤ e6) ∧ (e6 < (List.length c)) ∧ (0 ≤ (idxF lw (fun x=>x == (gD lw d6 0)))) ∧ ((idxF lw (fun x=>x == (gD lw d6 0))) < (List.length (gD c e6 []))) ∧ ((((UInt8.toNat (gD (gD c e6 []) d6 0) : Nat) : Int) != ((UInt8.toNat (gD (gD c e6 []) (idxF lw (fun x=>x == (gD lw d6 0))) 0) : Nat) : Int)) = true →
      (((e6 = ((partI lw c).1) ∧ d6 = ((partI lw c).2.1) ∧ (idxF lw (fun x=>x == (gD lw d6 0))) = ((partI lw c).2.2) ∧ (([] : List SV) = [])) ∧ true = ((partF lw c).isSome) ∧ (([] : List SV) = [])) ∧ (True))) ∧
     ((((UInt8.toNat (gD (gD c e6 []) d6 0) : Nat) : Int) != ((UInt8.toNat (gD (gD c e6 []) (idxF lw (fun x=>x == (gD lw d6 0))) 0) : Nat) : Int)) = false →
      (I64 (d6 + (1 : Int))) ∧ (∃ d7 : Int,((c = c ∧ True ∧ True ∧ e6 = e6 ∧ (d6 + (1 : Int)) = d7 ∧ True) ∧ ((hk = hk ∧ lw = lw ∧ (([] : List SV) = [])) ∧ ((0 : Int) = (0 : Int) ∧ (0 : Int) = (0 : Int) ∧ (0 : Int) = (0 : Int) ∧ (([] : List SV) = [])) ∧ True)) ∧ q6 d7))) ∧
    ((decide (d6 < (lI lw))) = false →
     (I64 (e6 + (1 : Int))) ∧ (∃ d8 : Int,((c = c ∧ True ∧ True ∧ (e6 + (1 : Int)) = d8 ∧ True) ∧ ((hk = hk ∧ lw = lw ∧ (([] : List SV) = [])) ∧ ((0 : Int) = (0 : Int) ∧ (0 : Int) = (0 : Int) ∧ (0 : Int) = (0 : Int) ∧ (([] : List SV) = [])) ∧ True)) ∧ q3 d8))) d60) ∧
  ((decide (d3 < (lI c))) = false →
   ((((0 : Int) = ((partI lw c).1) ∧ (0 : Int) = ((partI lw c).2.1) ∧ (0 : Int) = ((partI lw c).2.2) ∧ (([] : List SV) = [])) ∧ false = ((partF lw c).isSome) ∧ (([] : List SV) = [])) ∧ (True)))) d30
def cx_ref03_Part : Cx:=⟨[],[(82,s_ref03_First)],47,[],0,[],[],[],[],false,[],[],[]⟩
def lp_ref03_Part (hk : Int) (lw : List Int) (c : List (List UInt8)) : List (Nat × LoopAnn):=[(0,⟨Unit,Int,[1,2,4,6],fun e x=>[.val (.list .st) c,.box 2 0,.box 4 0,.val (.i .i64) x],fun e x=>[(2,.slot 2,.cells [.val (.i .i64) hk,.val (.list (.i .i64)) lw] (some 26)),(4,.slot 4,.cells [.val (.i .i64) (0 : Int),.val (.i .i64) (0 : Int),.val (.i .i64) (0 : Int)] (some 61))]⟩),
 (2,⟨Int,Int,[1,2,4,6,7],fun e x=>[.val (.list .st) c,.box 2 0,.box 4 0,.val (.i .i64) e,.val (.i .i64) x],fun e x=>[(2,.slot 2,.cells [.val (.i .i64) hk,.val (.list (.i .i64)) lw] (some 26)),(4,.slot 4,.cells [.val (.i .i64) (0 : Int),.val (.i .i64) (0 : Int),.val (.i .i64) (0 : Int)] (some 61))]⟩)]
set_option maxRecDepth 100000 in
theorem vq_ref03_Part (d : (Int × List Int) × List (List UInt8)) : gwp (cx_ref03_Part) (lp_ref03_Part d.1.1 d.1.2 d.2) c36 0 (gend [.cell 4 true 3,.tmp 5] (res_ref03_Part d) (obs_ref03_Part d)) (gstart 47 (AL.can al_ref03_Part d)) = vc_ref03_Part d.1.1 d.1.2 d.2:=by kernel_rfl
abbrev Ok_ref03_Part : Prop:=OkC Tryz.prog 36 s_ref03_Part
theorem mk_ref03_Part (h : ∀ (hk : Int) (lw : List Int) (c : List (List UInt8)),(lw.length ≤ 1000 ∧ c.length ≤ 1000 ∧ ∀ s ∈ c,s.length = lw.length) → vc_ref03_Part hk lw c) : OkC Tryz.prog 36 s_ref03_Part :=
 okC_vc fun36 mixed (C:=cx_ref03_Part) (V:=fun (d : (Int × List Int) × List (List UInt8))=>vc_ref03_Part d.1.1 d.1.2 d.2) ⟨(.cons ok_ref03_First .nil),XsOk.nil,ItsOk.nil,YlOk.nil,IysOk.nil⟩ (vq_ref03_Part) fun d hp=>h d.1.1 d.1.2 d.2 hp
theorem ok_ref03_Part : Ok_ref03_Part:=mk_ref03_Part fun hk lw c h=>by
 obtain ⟨h1,h2,h3⟩:=h
 unfold vc_ref03_Part; (try delta lI gD sT I64)
 (try simp only [decide_eq_true_eq,decide_eq_false_iff_not])
 simp only [idxF_fst]
 refine ⟨(),0,(by and_intros <;> first | rfl | trivial | simp),?_⟩
 refine LoopP.count c.length (fun k=>∀ j,j < k → partW lw (c.getD j []) = none) (fun j h=>by omega) fun i hi hJ q hq=>?_
 refine ⟨fun hlt=>?_,fun hge=>?_⟩
 ·have hlt : i < c.length:=by omega
  have hs:=h3 _ (List.getElem_mem hlt)
  refine ⟨(i : Int),0,(by and_intros <;> first | rfl | trivial | simp),?_⟩
  refine LoopP.count lw.length (fun w=>∀ j,j < w → c[i].getD j 0 = c[i].getD (fstN lw (lw.getD j 0)) 0) (fun j h=>by omega) fun w hw hI q2 hq2=>?_
  refine ⟨fun hlt2=>?_,fun hge=>⟨by rw [InK_i64]; omega,_,(by and_intros <;> first | rfl | trivial | simp),hq hlt fun j hj=>?_⟩⟩
  ·have hlt2 : w < lw.length:=by omega
   have hf:=fstN_lt (getD_mem hlt2)
   have hfi : fstI lw (lw.getD w 0) = ((fstN lw (lw.getD w 0) : Nat) : Int):=by rw [fstI,if_pos (getD_mem hlt2)]
   simp only [Int.toNat_natCast,hfi,getD_nat hlt,u8_ne]
   refine ⟨by omega,by omega,by omega,by omega,by omega,by omega,by omega,by omega,by omega,by omega,by omega,fun hne=>?_,fun heq=>⟨by rw [InK_i64]; omega,_,(by and_intros <;> first | rfl | trivial | simp),hq2 hlt2 fun j hj=>?_⟩⟩
   ·have hp:=partF_some hlt hJ (w:=w) (by rw [getD_nat hlt]; exact partW_some hlt2 hI (by simpa using hne))
    simp [partI,hp]
   ·rcases Nat.lt_succ_iff_lt_or_eq.1 hj with hj | rfl
    ·exact hI j hj
    ·simpa using heq
  ·rcases Nat.lt_succ_iff_lt_or_eq.1 hj with hj | rfl
   ·exact hJ j hj
   ·rw [getD_nat hlt]
    exact partW_none.2 fun w' hw'=>hI w' (by omega)
 ·have hp : partF lw c = none:=partF_none.2 fun j hj=>hJ j (by omega)
  simp [partI,hp]
def al_ref01_Row : AL (List Bool):=(.one (.k (.list .bo)))
def pre_ref01_Row (d : List Bool) : Prop:=d.length ≤ 60
def res_ref01_Row (d : List Bool) : SV:=.val (.i .i64) ((bitsV d : Nat) : Int)
def obs_ref01_Row (d : List Bool) : List OB:=[]
def s_ref01_Row : CSp:=mkSp al_ref01_Row pre_ref01_Row res_ref01_Row obs_ref01_Row
def vc_ref01_Row (b : List Bool) : Prop :=
 (I64 ((lI b) - (1 : Int))) ∧ ∃ (e2 : Unit) (d20 : Int × Int),((b = b ∧ (0 : Int) = d20.1 ∧ ((lI b) - (1 : Int)) = d20.2 ∧ True) ∧ (True)) ∧
 LoopP (fun (d2 : Int × Int) (q2 : (Int × Int) → Prop) =>
  ((decide (d2.2 ≥ (0 : Int))) = true →
   (I64 (d2.1 * (2 : Int))) ∧ (0 ≤ d2.2) ∧ (d2.2 < (List.length b)) ∧ ((gD b d2.2 false) = true →
    (I64 ((d2.1 * (2 : Int)) + (1 : Int))) ∧ (I64 (d2.2 - (1 : Int))) ∧ (∃ d3 : Int × Int,((b = b ∧ ((d2.1 * (2 : Int)) + (1 : Int)) = d3.1 ∧ (d2.2 - (1 : Int)) = d3.2 ∧ True) ∧ (True)) ∧ q2 d3)) ∧
   ((gD b d2.2 false) = false →
    (I64 (d2.2 - (1 : Int))) ∧ (∃ d4 : Int × Int,((b = b ∧ (d2.1 * (2 : Int)) = d4.1 ∧ (d2.2 - (1 : Int)) = d4.2 ∧ True) ∧ (True)) ∧ q2 d4))) ∧
  ((decide (d2.2 ≥ (0 : Int))) = false →
   (d2.1 = ((bitsV b : Nat) : Int) ∧ (True)))) d20
def cx_ref01_Row : Cx:=⟨[],[],21,[],0,[],[],[],[],false,[],[],[]⟩
def lp_ref01_Row (b : List Bool) : List (Nat × LoopAnn):=[(0,⟨Unit,Int × Int,[0,3,4],fun e x=>[.val (.list .bo) b,.val (.i .i64) x.1,.val (.i .i64) x.2],fun e x=>[]⟩)]
set_option maxRecDepth 100000 in
theorem vq_ref01_Row (d : List Bool) : gwp (cx_ref01_Row) (lp_ref01_Row d) c113 0 (gend [.tmp 2] (res_ref01_Row d) (obs_ref01_Row d)) (gstart 21 (AL.can al_ref01_Row d)) = vc_ref01_Row d:=by kernel_rfl
abbrev Ok_ref01_Row : Prop:=OkC Tryz.prog 113 s_ref01_Row
theorem mk_ref01_Row (h : ∀ (b : List Bool),(b.length ≤ 60) → vc_ref01_Row b) : OkC Tryz.prog 113 s_ref01_Row :=
 okC_vc fun113 mixed (C:=cx_ref01_Row) (V:=fun (d : List Bool)=>vc_ref01_Row d) ⟨.nil,XsOk.nil,ItsOk.nil,YlOk.nil,IysOk.nil⟩ (vq_ref01_Row) fun d hp=>h d hp
theorem ok_ref01_Row : Ok_ref01_Row:=mk_ref01_Row fun b h=>by
 unfold vc_ref01_Row; (try delta lI gD sT I64)
 (try simp only [decide_eq_true_eq,decide_eq_false_iff_not])
 refine ⟨by rw [InK_i64]; omega,(),(0,(b.length : Int) - 1),(by and_intros <;> first | rfl | trivial | simp),?_⟩
 refine ⟨fun d=>∃ k : Nat,k ≤ b.length ∧ d.2 = (k : Int) - 1 ∧ d.1 = ((bitsV (b.drop k) : Nat) : Int),fun d=>(d.2 + 1).toNat,⟨b.length,Nat.le_refl _,rfl,by simp [bitsV]⟩,?_⟩
 rintro ⟨r,i⟩ ⟨k,hk,hi,hr⟩
 dsimp only at hi hr ⊢
 subst hi; subst hr
 have hlt:=bitsV_lt (b.drop k)
 have hp : 2 ^ (b.drop k).length ≤ 2 ^ (60 - k):=Nat.pow_le_pow_right (by omega) (by simp; omega)
 refine ⟨fun hge=>?_,fun hlt=>?_⟩
 ·have hk1 : 1 ≤ k:=by omega
  have hp2 : 2 ^ (60 - k) ≤ 2 ^ 59:=Nat.pow_le_pow_right (by omega) (by omega)
  have hkl : k - 1 < b.length:=by omega
  have e : ((k : Int) - 1).toNat = k - 1:=by omega
  have hd : b.drop (k - 1) = b[k - 1] :: b.drop k:=by rw [List.drop_eq_getElem_cons hkl,show k - 1 + 1 = k by omega]
  rw [e,getD_nat hkl]
  refine ⟨by rw [InK_i64]; omega,by omega,by omega,fun hb=>⟨by rw [InK_i64]; omega,by rw [InK_i64]; omega,(((bitsV (b.drop k) : Nat) : Int) * 2 + 1,(k : Int) - 1 - 1),(by and_intros <;> first | rfl | trivial | simp),⟨k - 1,by omega,by dsimp only; omega,?_⟩,by dsimp only; omega⟩,fun hb=>⟨by rw [InK_i64]; omega,(((bitsV (b.drop k) : Nat) : Int) * 2,(k : Int) - 1 - 1),(by and_intros <;> first | rfl | trivial | simp),⟨k - 1,by omega,by dsimp only; omega,?_⟩,by dsimp only; omega⟩⟩
  ·simp only [hd,bitsV,hb,if_true]; omega
  ·simp only [hd,bitsV,hb]; simp; omega
 ·have : k = 0:=by omega
  subst this
  rw [List.drop_zero]
  exact (by and_intros <;> first | rfl | trivial | simp)
def al_ref01_Design : AL (List (List Bool)):=(.one (.k (.list (.list .bo))))
def pre_ref01_Design (d : List (List Bool)) : Prop:=d ≠ [] ∧ d.length ≤ 1000 ∧ ∀ b ∈ d,b.length ≤ 60
def res_ref01_Design (d : List (List Bool)) : SV:=.agg [.val (.i .i64) (((d.getD 0 []).length : Nat) : Int),.lst 0]
def obs_ref01_Design (d : List (List Bool)) : List OB:=[.lst 3 (.i .i64) (d.map fun b=>((bitsV b : Nat) : Int)) false]
def s_ref01_Design : CSp:=mkSp al_ref01_Design pre_ref01_Design res_ref01_Design obs_ref01_Design
def vc_ref01_Design (t : List (List Bool)) : Prop :=
 (0 ≤ (0 : Int)) ∧ ((0 : Int) < (List.length t)) ∧ ∃ (e4 : Unit) (d40 : (List Int) × Int),((t = t ∧ True ∧ True ∧ (0 : Int) = d40.2 ∧ True) ∧ (((0 : Int) = (0 : Int) ∧ True ∧ (([] : List SV) = [])) ∧ ((lI (gD t (0 : Int) [])) = (lI (gD t (0 : Int) [])) ∧ True ∧ (([] : List SV) = [])) ∧ (d40.1 = [] ∧ (List.isEmpty d40.1) = true) ∧ True)) ∧
 LoopP (fun (d4 : (List Int) × Int) (q4 : ((List Int) × Int) → Prop) =>
  ((decide (d4.2 < (lI t))) = true →
   (0 ≤ d4.2) ∧ (d4.2 < (List.length t)) ∧ ((gD t d4.2 []).length ≤ 60) ∧ (((List.length d4.1) + (List.length [((bitsV (gD t d4.2 []) : Nat) : Int)])) * 8 ≤ 70368744177664) ∧ (I64 (d4.2 + (1 : Int))) ∧ (∃ d5 : (List Int) × Int,((t = t ∧ True ∧ True ∧ (d4.2 + (1 : Int)) = d5.2 ∧ True) ∧ (((0 : Int) = (0 : Int) ∧ True ∧ (([] : List SV) = [])) ∧ ((lI (gD t (0 : Int) [])) = (lI (gD t (0 : Int) [])) ∧ True ∧ (([] : List SV) = [])) ∧ ((d4.1 ++ [((bitsV (gD t d4.2 []) : Nat) : Int)]) = d5.1 ∧ false = (List.isEmpty d5.1)) ∧ True)) ∧ q4 d5)) ∧
  ((decide (d4.2 < (lI t))) = false →
   (((lI (gD t (0 : Int) [])) = (((t.getD 0 []).length : Nat) : Int) ∧ True ∧ (([] : List SV) = [])) ∧ ((d4.1 = (t.map fun b=>((bitsV b : Nat) : Int)) ∧ (List.isEmpty d4.1) = false) ∧ True)))) d40
def cx_ref01_Design : Cx:=⟨[(3,(.i .i64))],[(113,s_ref01_Row)],27,[],0,[],[],[],[],false,[],[],[]⟩
def lp_ref01_Design (t : List (List Bool)) : List (Nat × LoopAnn):=[(0,⟨Unit,(List Int) × Int,[0,2,3,4],fun e x=>[.val (.list (.list .bo)) t,.box 2 0,.box 3 0,.val (.i .i64) x.2],fun e x=>[(2,.slot 2,.cells [.val (.i .i64) (0 : Int),.nilS] (some 36)),(3,.slot 3,.cells [.val (.i .i64) (((List.length (List.getD t (Int.toNat (0 : Int)) [])) : Nat) : Int),.lst 24] (some 36)),(24,.cell 3 1,.lst 3 (.i .i64) x.1 (List.isEmpty x.1))]⟩)]
set_option maxRecDepth 100000 in
theorem vq_ref01_Design (d : List (List Bool)) : gwp (cx_ref01_Design) (lp_ref01_Design d) c83 0 (gend [.cell 2 true 2] (res_ref01_Design d) (obs_ref01_Design d)) (gstart 27 (AL.can al_ref01_Design d)) = vc_ref01_Design d:=by kernel_rfl
abbrev Ok_ref01_Design : Prop:=OkC Tryz.prog 83 s_ref01_Design
theorem mk_ref01_Design (h : ∀ (t : List (List Bool)),(t ≠ [] ∧ t.length ≤ 1000 ∧ ∀ b ∈ t,b.length ≤ 60) → vc_ref01_Design t) : OkC Tryz.prog 83 s_ref01_Design :=
 okC_vc fun83 mixed (C:=cx_ref01_Design) (V:=fun (d : List (List Bool))=>vc_ref01_Design d) ⟨(.cons ok_ref01_Row .nil),XsOk.nil,ItsOk.nil,YlOk.nil,IysOk.nil⟩ (vq_ref01_Design) fun d hp=>h d hp
theorem ok_ref01_Design : Ok_ref01_Design:=mk_ref01_Design fun t h=>by
 obtain ⟨h1,h2,h3⟩:=h
 have hpos : 0 < t.length:=List.length_pos_iff.2 h1
 unfold vc_ref01_Design; (try delta lI gD sT I64)
 (try simp only [decide_eq_true_eq,decide_eq_false_iff_not])
 refine ⟨by omega,by omega,(),([],0),(by and_intros <;> first | rfl | trivial | simp),?_⟩
 refine LoopP.count2 t.length (fun k xs=>xs = (t.take k).map fun b=>((bitsV b : Nat) : Int)) (by simp) fun i xs hi hJ q hq=>?_
 dsimp only
 have hxl : xs.length = i:=by rw [hJ]; simp; omega
 refine ⟨fun hlt=>?_,fun hge=>?_⟩
 ·have hlt : i < t.length:=by omega
  simp only [Int.toNat_natCast,getD_nat hlt,List.length_singleton]
  refine ⟨by omega,by omega,h3 _ (List.getElem_mem hlt),by omega,by rw [InK_i64]; omega,(xs ++ [((bitsV t[i] : Nat) : Int)],(i : Int) + 1),?_,hq _ hlt ?_⟩
  ·and_intros <;> first | rfl | trivial | simp
  ·rw [take_succ_eq hlt,List.map_append,← hJ]; rfl
 ·have : i = t.length:=by omega
  subst this
  rw [List.take_length] at hJ
  refine ⟨(by and_intros <;> first | rfl | trivial | simp),⟨hJ,?_⟩,trivial⟩
  cases xs with
  | nil=>simp at hxl; omega
  | cons a l=>rfl
def al_ref03_Unweave : AL ((Int × List Int) × List (List UInt8)):=(.cons (.agg (.cons (.k (.i .i64)) (.one (.k (.list (.i .i64)))))) (.one (.k (.list .st))))
def pre_ref03_Unweave (d : (Int × List Int) × List (List UInt8)) : Prop:=1 ≤ d.1.1 ∧ d.1.1 ≤ 24 ∧ d.1.2.length ≤ 1000 ∧ d.2 ≠ [] ∧ d.2.length ≤ 1000 ∧ (∀ s ∈ d.2,s.length = d.1.2.length)
def res_ref03_Unweave (d : (Int × List Int) × List (List UInt8)) : SV:=.agg [.val (.i .i64) d.1.1,.lst 0]
def obs_ref03_Unweave (d : (Int × List Int) × List (List UInt8)) : List OB:=[.lst 3 (.i .i64) (unwL d.1.1.toNat d.1.2 d.2) false]
def s_ref03_Unweave : CSp:=mkSp al_ref03_Unweave pre_ref03_Unweave res_ref03_Unweave obs_ref03_Unweave
def vc_ref03_Unweave (hk : Int) (lw : List Int) (c : List (List UInt8)) : Prop :=
 ∃ (e3 : Unit) (d30 : (List (List Bool)) × Int),((c = c ∧ True ∧ True ∧ True ∧ (0 : Int) = d30.2 ∧ True) ∧ ((hk = hk ∧ lw = lw ∧ (([] : List SV) = [])) ∧ ((0 : Int) = (0 : Int) ∧ True ∧ (([] : List SV) = [])) ∧ (([] : List (List Bool)) = d30.1 ∧ false = false) ∧ True)) ∧
 LoopP (fun (d3 : (List (List Bool)) × Int) (q3 : ((List (List Bool)) × Int) → Prop) =>
  ((decide (d3.2 < (lI c))) = true →
   ∃ (e6 : (List (List Bool)) × Int) (d60 : (List Bool) × Int),((c = c ∧ True ∧ True ∧ True ∧ d3.2 = e6.2 ∧ True ∧ (0 : Int) = d60.2 ∧ True) ∧ ((hk = hk ∧ lw = lw ∧ (([] : List SV) = [])) ∧ ((0 : Int) = (0 : Int) ∧ True ∧ (([] : List SV) = [])) ∧ (d3.1 = e6.1 ∧ false = false) ∧ (([] : List Bool) = d60.1 ∧ false = false) ∧ True)) ∧
   LoopP (fun (d6 : (List Bool) × Int) (q6 : ((List Bool) × Int) → Prop) =>
    ((decide (d6.2 < hk)) = true →
     (lw.length ≤ 1000000) ∧ ((decide ((idxF lw (fun x=>x == d6.2)) ≥ (0 : Int))) = true → 0 ≤ e6.2) ∧ ((decide ((idxF lw (fun x=>x == d6.2)) ≥ (0 : Int))) = true → e6.2 < (List.length c)) ∧ ((decide ((idxF lw (fun x=>x == d6.2)) ≥ (0 : Int))) = true → 0 ≤ (gmax (0 : Int) (idxF lw (fun x=>x == d6.2)))) ∧ ((decide ((idxF lw (fun x=>x == d6.2)) ≥ (0 : Int))) = true → (gmax (0 : Int) (idxF lw (fun x=>x == d6.2))) < (List.length (gD c e6.2 []))) ∧ (((List.length d6.1) + (List.length [((decide ((idxF lw (fun x=>x == d6.2)) ≥ (0 : Int))) && (((UInt8.toNat (gD (gD c e6.2 []) (gmax (0 : Int) (idxF lw (fun x=>x == d6.2))) 0) : Nat) : Int) == (120 : Int)))])) * 1 ≤ 70368744177664) ∧ (I64 (d6.2 + (1 : Int))) ∧ (∃ d7 : (List Bool) × Int,((c = c ∧ True ∧ True ∧ True ∧ e6.2 = e6.2 ∧ True ∧ (d6.2 + (1 : Int)) = d7.2 ∧ True) ∧ ((hk = hk ∧ lw = lw ∧ (([] : List SV) = [])) ∧ ((0 : Int) = (0 : Int) ∧ True ∧ (([] : List SV) = [])) ∧ (e6.1 = e6.1 ∧ false = false) ∧ ((d6.1 ++ [((decide ((idxF lw (fun x=>x == d6.2)) ≥ (0 : Int))) && (((UInt8.toNat (gD (gD c e6.2 []) (gmax (0 : Int) (idxF lw (fun x=>x == d6.2))) 0) : Nat) : Int) == (120 : Int)))]) = d7.1 ∧ false = false) ∧ True)) ∧ q6 d7)) ∧
    ((decide (d6.2 < hk)) = false →
     (((List.length e6.1) + (List.length [d6.1])) * 24 ≤ 70368744177664) ∧ (I64 (e6.2 + (1 : Int))) ∧ (∃ d8 : (List (List Bool)) × Int,((c = c ∧ True ∧ True ∧ True ∧ (e6.2 + (1 : Int)) = d8.2 ∧ True) ∧ ((hk = hk ∧ lw = lw ∧ (([] : List SV) = [])) ∧ ((0 : Int) = (0 : Int) ∧ True ∧ (([] : List SV) = [])) ∧ ((e6.1 ++ [d6.1]) = d8.1 ∧ false = false) ∧ True)) ∧ q3 d8))) d60) ∧
  ((decide (d3.2 < (lI c))) = false →
   (d3.1 ≠ [] ∧ d3.1.length ≤ 1000 ∧ ∀ b ∈ d3.1,b.length ≤ 60) ∧ (((((d3.1.getD 0 []).length : Nat) : Int) = hk ∧ True ∧ (([] : List SV) = [])) ∧ (((d3.1.map fun b=>((bitsV b : Nat) : Int)) = (unwL hk.toNat lw c) ∧ false = false) ∧ True)))) d30
def cx_ref03_Unweave : Cx:=⟨[(4,.bo),(126,(.list .bo))],[(82,s_ref03_First),(83,s_ref01_Design)],48,[],0,[],[],[(126,4)],[],false,[],[],[]⟩
def lp_ref03_Unweave (hk : Int) (lw : List Int) (c : List (List UInt8)) : List (Nat × LoopAnn):=[(0,⟨Unit,(List (List Bool)) × Int,[1,2,4,5,6],fun e x=>[.val (.list .st) c,.box 2 0,.box 4 0,.dd 10 .out,.val (.i .i64) x.2],fun e x=>[(2,.slot 2,.cells [.val (.i .i64) hk,.val (.list (.i .i64)) lw] (some 26)),(4,.slot 4,.cells [.val (.i .i64) (0 : Int),.nilS] (some 36)),(10,.slot 5,.deep 126 (some 4) (.list .bo) x.1 false none)]⟩),
 (2,⟨(List (List Bool)) × Int,(List Bool) × Int,[1,2,4,5,6,7,8],fun e x=>[.val (.list .st) c,.box 2 0,.box 4 0,.dd 10 .out,.val (.i .i64) e.2,.lst 17,.val (.i .i64) x.2],fun e x=>[(2,.slot 2,.cells [.val (.i .i64) hk,.val (.list (.i .i64)) lw] (some 26)),(4,.slot 4,.cells [.val (.i .i64) (0 : Int),.nilS] (some 36)),(10,.slot 5,.deep 126 (some 4) (.list .bo) e.1 false none),(17,.slot 7,.lst 4 .bo x.1 false)]⟩)]
set_option maxRecDepth 100000 in
theorem vq_ref03_Unweave (d : (Int × List Int) × List (List UInt8)) : gwp (cx_ref03_Unweave) (lp_ref03_Unweave d.1.1 d.1.2 d.2) c37 0 (gend [.cell 4 true 2] (res_ref03_Unweave d) (obs_ref03_Unweave d)) (gstart 48 (AL.can al_ref03_Unweave d)) = vc_ref03_Unweave d.1.1 d.1.2 d.2:=by kernel_rfl
abbrev Ok_ref03_Unweave : Prop:=OkC Tryz.prog 37 s_ref03_Unweave
theorem mk_ref03_Unweave (h : ∀ (hk : Int) (lw : List Int) (c : List (List UInt8)),(1 ≤ hk ∧ hk ≤ 24 ∧ lw.length ≤ 1000 ∧ c ≠ [] ∧ c.length ≤ 1000 ∧ (∀ s ∈ c,s.length = lw.length)) → vc_ref03_Unweave hk lw c) : OkC Tryz.prog 37 s_ref03_Unweave :=
 okC_vc fun37 mixed (C:=cx_ref03_Unweave) (V:=fun (d : (Int × List Int) × List (List UInt8))=>vc_ref03_Unweave d.1.1 d.1.2 d.2) ⟨(.cons ok_ref03_First (.cons ok_ref01_Design .nil)),XsOk.nil,ItsOk.nil,YlOk.nil,IysOk.nil⟩ (vq_ref03_Unweave) fun d hp=>h d.1.1 d.1.2 d.2 hp
theorem ok_ref03_Unweave : Ok_ref03_Unweave:=mk_ref03_Unweave fun hk lw c h=>by
 obtain ⟨h1,h2,h3,h4,h5,h6⟩:=h
 obtain ⟨n,rfl⟩:=Int.eq_ofNat_of_zero_le (show 0 ≤ hk by omega)
 have hpos : 0 < c.length:=List.length_pos_iff.2 h4
 unfold vc_ref03_Unweave; (try delta lI gD sT I64)
 (try simp only [decide_eq_true_eq,decide_eq_false_iff_not])
 simp only [idxF_fst]
 refine ⟨(),([],0),(by and_intros <;> first | rfl | trivial | simp),?_⟩
 refine LoopP.count2 c.length (fun k xs=>xs = (c.take k).map (unwP n lw)) (by simp) fun i xs hi hJ q hq=>?_
 dsimp only
 have hxl : xs.length = i:=by rw [hJ]; simp; omega
 refine ⟨fun hlt=>?_,fun hge=>?_⟩
 ·have hlt : i < c.length:=by omega
  have hs:=h6 _ (List.getElem_mem hlt)
  refine ⟨(xs,(i : Int)),([],0),(by and_intros <;> first | rfl | trivial | simp),?_⟩
  refine LoopP.count2 n (fun k l=>l = (unwP n lw c[i]).take k) (by simp) fun k l hk hI q2 hq2=>?_
  dsimp only
  have hll : l.length = k:=by rw [hI]; simp [unwP]; omega
  refine ⟨fun hlt2=>?_,fun hge=>?_⟩
  ·have hlt2 : k < n:=by omega
   have hel : (unwP n lw c[i])[k]'(by simp [unwP]; omega) = (decide (((k : Nat) : Int) ∈ lw) && (c[i].getD (fstN lw k) 0 == 120)):=by simp [unwP]
   have hv : (decide (fstI lw (k : Int) ≥ 0) && (((UInt8.toNat (c[i].getD (gmax 0 (fstI lw (k : Int))).toNat 0) : Nat) : Int) == 120)) = (unwP n lw c[i])[k]'(by simp [unwP]; omega):=by
    rw [hel,u8_x]
    by_cases hm : ((k : Nat) : Int) ∈ lw
    ·have e : fstI lw (k : Int) = ((fstN lw (k : Int) : Nat) : Int):=by rw [fstI,if_pos hm]
     have e2 : (gmax 0 ((fstN lw (k : Int) : Nat) : Int)).toNat = fstN lw (k : Int):=by unfold gmax; split <;> omega
     rw [e,e2]; simp [hm]
    ·have e : fstI lw (k : Int) = -1:=by rw [fstI,if_neg hm]
     rw [e]; simp [hm]
   have hg : fstI lw (k : Int) ≥ 0 → 0 ≤ gmax 0 (fstI lw (k : Int)) ∧ gmax 0 (fstI lw (k : Int)) < (lw.length : Int):=fun hge=>by
    by_cases hm : ((k : Nat) : Int) ∈ lw
    ·have e : fstI lw (k : Int) = ((fstN lw (k : Int) : Nat) : Int):=by rw [fstI,if_pos hm]
     have:=fstN_lt hm
     rw [e]; unfold gmax; split <;> omega
    ·rw [fstI,if_neg hm] at hge; omega
   simp only [Int.toNat_natCast,getD_nat hlt,hv,List.length_singleton]
   refine ⟨by omega,fun _=>by omega,fun _=>by omega,fun hd=>?_,fun hd=>?_,by omega,by rw [InK_i64]; omega,(l ++ [(unwP n lw c[i])[k]'(by simp [unwP]; omega)],(k : Int) + 1),?_,hq2 _ hlt2 ?_⟩
   ·exact (hg (by simpa using hd)).1
   ·have:=(hg (by simpa using hd)).2; omega
   ·and_intros <;> first | rfl | trivial | simp
   ·rw [take_succ_eq (by simp [unwP]; omega),hI]
  ·have : k = n:=by omega
   subst this
   have hl : l = unwP k lw c[i]:=by rw [hI]; exact List.take_of_length_le (by simp [unwP])
   refine ⟨by simp only [List.length_singleton]; omega,by rw [InK_i64]; omega,(xs ++ [l],(i : Int) + 1),?_,hq _ hlt ?_⟩
   ·and_intros <;> first | rfl | trivial | simp
   ·rw [take_succ_eq hlt,List.map_append,← hJ,hl]; rfl
 ·have : i = c.length:=by omega
  subst this
  rw [List.take_length] at hJ
  refine ⟨⟨?_,by omega,fun b hb=>?_⟩,?_,?_⟩
  ·intro e; rw [e] at hxl; simp at hxl; omega
  ·rw [hJ] at hb
   obtain ⟨s,_,rfl⟩:=List.mem_map.1 hb
   simp [unwP]; omega
  ·rw [hJ]
   have : (List.map (unwP n lw) c).getD 0 [] = unwP n lw c[0]:=by rw [getD_nat (by simpa using hpos)]; simp
   rw [this]; simp [unwP]
  ·rw [hJ]
   and_intros <;> first | rfl | trivial | (simp [unwL]; done)
def al_ref01_Like : AL ((Int × List Int) × Int × List Int):=(.cons (.agg (.cons (.k (.i .i64)) (.one (.k (.list (.i .i64)))))) (.one (.agg (.cons (.k (.i .i64)) (.one (.k (.list (.i .i64))))))))
def pre_ref01_Like (d : (Int × List Int) × Int × List Int) : Prop:=True
def res_ref01_Like (d : (Int × List Int) × Int × List Int) : SV:=.val .bo (decide (d.1.1 = d.2.1) && decide (d.1.2.length = d.2.2.length))
def obs_ref01_Like (d : (Int × List Int) × Int × List Int) : List OB:=[]
def s_ref01_Like : CSp:=mkSp al_ref01_Like pre_ref01_Like res_ref01_Like obs_ref01_Like
def vc_ref01_Like (hd : Int) (rows : List Int) (hd1 : Int) (rows1 : List Int) : Prop :=
 (((hd == hd1) && ((lI rows) == (lI rows1))) = (decide (hd = hd1) && decide (rows.length = rows1.length)) ∧ (True))
def cx_ref01_Like : Cx:=⟨[],[],19,[],0,[],[],[],[],false,[],[],[]⟩
def lp_ref01_Like (hd : Int) (rows : List Int) (hd1 : Int) (rows1 : List Int) : List (Nat × LoopAnn):=[]
set_option maxRecDepth 100000 in
theorem vq_ref01_Like (d : (Int × List Int) × Int × List Int) : gwp (cx_ref01_Like) (lp_ref01_Like d.1.1 d.1.2 d.2.1 d.2.2) c74 0 (gend [.tmp 4] (res_ref01_Like d) (obs_ref01_Like d)) (gstart 19 (AL.can al_ref01_Like d)) = vc_ref01_Like d.1.1 d.1.2 d.2.1 d.2.2:=by kernel_rfl
abbrev Ok_ref01_Like : Prop:=OkC Tryz.prog 74 s_ref01_Like
theorem mk_ref01_Like (h : ∀ (hd : Int) (rows : List Int) (hd1 : Int) (rows1 : List Int),(True) → vc_ref01_Like hd rows hd1 rows1) : OkC Tryz.prog 74 s_ref01_Like :=
 okC_vc fun74 mixed (C:=cx_ref01_Like) (V:=fun (d : (Int × List Int) × Int × List Int)=>vc_ref01_Like d.1.1 d.1.2 d.2.1 d.2.2) ⟨.nil,XsOk.nil,ItsOk.nil,YlOk.nil,IysOk.nil⟩ (vq_ref01_Like) fun d hp=>h d.1.1 d.1.2 d.2.1 d.2.2 hp
theorem ok_ref01_Like : Ok_ref01_Like:=mk_ref01_Like fun hd rows hd1 rows1 _=>by
 unfold vc_ref01_Like; (try delta lI gD sT I64); simp only [and_true]
 rw [Bool.eq_iff_iff]
 simp only [Bool.and_eq_true,beq_iff_eq,decide_eq_true_eq,Int.ofNat_inj]
def al_ref01_Same : AL ((Int × List Int) × Int × List Int):=(.cons (.agg (.cons (.k (.i .i64)) (.one (.k (.list (.i .i64)))))) (.one (.agg (.cons (.k (.i .i64)) (.one (.k (.list (.i .i64))))))))
def pre_ref01_Same (d : (Int × List Int) × Int × List Int) : Prop:=d.1.2.length ≤ 1000000
def res_ref01_Same (d : (Int × List Int) × Int × List Int) : SV:=.val .bo (decide (d.1.1 = d.2.1) && (d.1.2 == d.2.2))
def obs_ref01_Same (d : (Int × List Int) × Int × List Int) : List OB:=[]
def s_ref01_Same : CSp:=mkSp al_ref01_Same pre_ref01_Same res_ref01_Same obs_ref01_Same
def vc_ref01_Same (hd : Int) (rows : List Int) (hd1 : Int) (rows1 : List Int) : Prop :=
 (True) ∧ ((!(decide (hd = hd1) && decide (rows.length = rows1.length))) = true →
  (false = (decide (hd = hd1) && (rows == rows1)) ∧ (True))) ∧
 ((!(decide (hd = hd1) && decide (rows.length = rows1.length))) = false →
  ∃ (e3 : Unit) (d30 : Int),((True ∧ True ∧ (0 : Int) = d30 ∧ True) ∧ ((hd = hd ∧ rows = rows ∧ (([] : List SV) = [])) ∧ (hd1 = hd1 ∧ rows1 = rows1 ∧ (([] : List SV) = [])) ∧ True)) ∧
  LoopP (fun (d3 : Int) (q3 : (Int) → Prop) =>
   ((decide (d3 < (lI rows))) = true →
    (0 ≤ d3) ∧ (d3 < (List.length rows)) ∧ (0 ≤ d3) ∧ (d3 < (List.length rows1)) ∧ (((gD rows d3 0) != (gD rows1 d3 0)) = true →
     (false = (decide (hd = hd1) && (rows == rows1)) ∧ (True))) ∧
    (((gD rows d3 0) != (gD rows1 d3 0)) = false →
     (I64 (d3 + (1 : Int))) ∧ (∃ d4 : Int,((True ∧ True ∧ (d3 + (1 : Int)) = d4 ∧ True) ∧ ((hd = hd ∧ rows = rows ∧ (([] : List SV) = [])) ∧ (hd1 = hd1 ∧ rows1 = rows1 ∧ (([] : List SV) = [])) ∧ True)) ∧ q3 d4))) ∧
   ((decide (d3 < (lI rows))) = false →
    (true = (decide (hd = hd1) && (rows == rows1)) ∧ (True)))) d30)
def cx_ref01_Same : Cx:=⟨[],[(74,s_ref01_Like)],28,[],0,[],[],[],[],false,[],[],[]⟩
def lp_ref01_Same (hd : Int) (rows : List Int) (hd1 : Int) (rows1 : List Int) : List (Nat × LoopAnn):=[(0,⟨Unit,Int,[2,3,5],fun e x=>[.box 2 0,.box 3 0,.val (.i .i64) x],fun e x=>[(2,.slot 2,.cells [.val (.i .i64) hd,.val (.list (.i .i64)) rows] (some 36)),(3,.slot 3,.cells [.val (.i .i64) hd1,.val (.list (.i .i64)) rows1] (some 36))]⟩)]
set_option maxRecDepth 100000 in
theorem vq_ref01_Same (d : (Int × List Int) × Int × List Int) : gwp (cx_ref01_Same) (lp_ref01_Same d.1.1 d.1.2 d.2.1 d.2.2) c23 0 (gend [.tmp 4] (res_ref01_Same d) (obs_ref01_Same d)) (gstart 28 (AL.can al_ref01_Same d)) = vc_ref01_Same d.1.1 d.1.2 d.2.1 d.2.2:=by kernel_rfl
abbrev Ok_ref01_Same : Prop:=OkC Tryz.prog 23 s_ref01_Same
theorem mk_ref01_Same (h : ∀ (hd : Int) (rows : List Int) (hd1 : Int) (rows1 : List Int),(rows.length ≤ 1000000) → vc_ref01_Same hd rows hd1 rows1) : OkC Tryz.prog 23 s_ref01_Same :=
 okC_vc fun23 mixed (C:=cx_ref01_Same) (V:=fun (d : (Int × List Int) × Int × List Int)=>vc_ref01_Same d.1.1 d.1.2 d.2.1 d.2.2) ⟨(.cons ok_ref01_Like .nil),XsOk.nil,ItsOk.nil,YlOk.nil,IysOk.nil⟩ (vq_ref01_Same) fun d hp=>h d.1.1 d.1.2 d.2.1 d.2.2 hp
theorem ok_ref01_Same : Ok_ref01_Same:=mk_ref01_Same fun hd rows hd1 rows1 hl=>by
 unfold vc_ref01_Same; (try delta lI gD sT I64); simp only [true_and,and_true,exists_eq_left',exists_const,decide_eq_true_eq,decide_eq_false_iff_not,bne_iff_ne,ne_eq,bne_eq_false_iff_eq,Bool.not_eq_true',Bool.not_eq_false',Bool.and_eq_true,Bool.and_eq_false_iff]
 refine ⟨fun h=>?_,fun ⟨h0,h⟩=>?_⟩
 ·symm; simp only [Bool.and_eq_false_iff,decide_eq_false_iff_not,beq_eq_false_iff_ne]
  rcases h with h | h
  ·exact .inl h
  ·exact .inr (by rintro rfl; exact h rfl)
 subst h0
 refine LoopP.count rows.length (fun k=>rows.take k = rows1.take k) rfl fun k hk1 hJ q hq=>?_
 simp only [Int.toNat_natCast,Int.ofNat_lt,InK_i64]
 refine ⟨fun hlt=>?_,fun hge=>?_⟩
 ·have hlt : k < rows.length:=by omega
  rw [getD_nat hlt,getD_nat (by omega)]
  refine ⟨by omega,by omega,by omega,by omega,fun hx=>?_,fun hx=>⟨by omega,hq hlt ?_⟩⟩
  ·symm; simp only [decide_true,Bool.true_and,beq_eq_false_iff_ne]; rintro rfl; exact hx rfl
  ·rw [take_succ_eq hlt,take_succ_eq (by omega),hJ,hx]
 ·rw [List.take_of_length_le (by omega),List.take_of_length_le (by omega)] at hJ
  simp [hJ]
end Go.Proofs.Tryz
set_option linter.unusedVariables false
namespace Go.Proofs.Tryz
open Go Go.V Go.Proofs
def al_law03_TieUnweaves : AL ((Int × List Int) × List (List UInt8)):=(.cons (.agg (.cons (.k (.i .i64)) (.one (.k (.list (.i .i64)))))) (.one (.k (.list .st))))
def pre_law03_TieUnweaves (d : (Int × List Int) × List (List UInt8)) : Prop:=d.2.length ≤ 9223372036854775807
def res_law03_TieUnweaves (d : (Int × List Int) × List (List UInt8)) : SV:=.val .bo true
def obs_law03_TieUnweaves (d : (Int × List Int) × List (List UInt8)) : List OB:=[]
def s_law03_TieUnweaves : CSp:=mkSp al_law03_TieUnweaves pre_law03_TieUnweaves res_law03_TieUnweaves obs_law03_TieUnweaves
def vc_law03_TieUnweaves (hk : Int) (lw : List Int) (c : List (List UInt8)) : Prop :=
 (c.length ≤ 9223372036854775807) ∧ ((largeB lw ([] : List Int) c) = true →
  (True) ∧ (true = true ∧ (True))) ∧
 ((largeB lw ([] : List Int) c) = false →
  (lw.length ≤ 1000) ∧ (c.length ≤ 1000) ∧ (lw.length ≤ 1000 ∧ c.length ≤ 1000 ∧ ∀ s ∈ c,s.length ≤ 1000) ∧ (lw.length ≤ 1000 ∧ c.length ≤ 1000 ∧ ∀ s ∈ c,s.length ≤ 1000) ∧ (lw.length ≤ 1000000) ∧ ((!(decide (hk = hk) && (lw == lw))) = false → c.length ≤ 1000000) ∧ (((!(decide (hk = hk) && (lw == lw))) || (!(c == c))) = true →
   (false = true ∧ (True))) ∧
  (((!(decide (hk = hk) && (lw == lw))) || (!(c == c))) = false →
   (True) ∧ ∃ (e3 : Unit),CutP (fun (q3 : (Int) → Prop) =>
   (((tieErr hk lw) == (0 : Int)) = true →
    (c.length ≤ 1000) ∧ (∃ d4 : Int,((c = c ∧ True ∧ True ∧ (unwE hk lw c) = (unwE hk lw c) ∧ (if unwErr hk lw c = 0 then (partI lw c).1 else 0) = (if unwErr hk lw c = 0 then (partI lw c).1 else 0) ∧ (if unwErr hk lw c = 0 then (partI lw c).2.1 else 0) = (if unwErr hk lw c = 0 then (partI lw c).2.1 else 0) ∧ (if unwErr hk lw c = 0 then (partI lw c).2.2 else 0) = (if unwErr hk lw c = 0 then (partI lw c).2.2 else 0) ∧ (if unwErr hk lw c ≠ 0 then unwErr hk lw c else if (partF lw c).isSome then 0 else 7) = (if unwErr hk lw c ≠ 0 then unwErr hk lw c else if (partF lw c).isSome then 0 else 7) ∧ (clothErr c (lI lw)) = d4 ∧ True) ∧ ((hk = hk ∧ lw = lw ∧ (([] : List SV) = [])) ∧ ((if unwE hk lw c = 0 then hk else 0) = (if unwE hk lw c = 0 then hk else 0) ∧ True ∧ (([] : List SV) = [])) ∧ ((unwR hk lw c) = (unwR hk lw c) ∧ (unwR hk lw c).isEmpty = (List.isEmpty (unwR hk lw c))) ∧ True)) ∧ q3 d4)) ∧
   (((tieErr hk lw) == (0 : Int)) = false →
    (∃ d5 : Int,((c = c ∧ True ∧ True ∧ (unwE hk lw c) = (unwE hk lw c) ∧ (if unwErr hk lw c = 0 then (partI lw c).1 else 0) = (if unwErr hk lw c = 0 then (partI lw c).1 else 0) ∧ (if unwErr hk lw c = 0 then (partI lw c).2.1 else 0) = (if unwErr hk lw c = 0 then (partI lw c).2.1 else 0) ∧ (if unwErr hk lw c = 0 then (partI lw c).2.2 else 0) = (if unwErr hk lw c = 0 then (partI lw c).2.2 else 0) ∧ (if unwErr hk lw c ≠ 0 then unwErr hk lw c else if (partF lw c).isSome then 0 else 7) = (if unwErr hk lw c ≠ 0 then unwErr hk lw c else if (partF lw c).isSome then 0 else 7) ∧ (tieErr hk lw) = d5 ∧ True) ∧ ((hk = hk ∧ lw = lw ∧ (([] : List SV) = [])) ∧ ((if unwE hk lw c = 0 then hk else 0) = (if unwE hk lw c = 0 then hk else 0) ∧ True ∧ (([] : List SV) = [])) ∧ ((unwR hk lw c) = (unwR hk lw c) ∧ (unwR hk lw c).isEmpty = (List.isEmpty (unwR hk lw c))) ∧ True)) ∧ q3 d5)))
   (fun (d3 : Int) =>
    ((d3 != (0 : Int)) = true →
     ((((unwE hk lw c) == d3) && ((if unwErr hk lw c ≠ 0 then unwErr hk lw c else if (partF lw c).isSome then 0 else 7) == d3)) = true → True) ∧ ((((((unwE hk lw c) == d3) && ((if unwErr hk lw c ≠ 0 then unwErr hk lw c else if (partF lw c).isSome then 0 else 7) == d3)) && (decide ((if unwE hk lw c = 0 then hk else 0) = 0) && decide ((unwR hk lw c).length = 0))) && (((if unwErr hk lw c = 0 then (partI lw c).1 else 0) == (0 : Int)) && (((if unwErr hk lw c = 0 then (partI lw c).2.1 else 0) == (0 : Int)) && ((if unwErr hk lw c = 0 then (partI lw c).2.2 else 0) == (0 : Int))))) = true → True) ∧ (((((((unwE hk lw c) == d3) && ((if unwErr hk lw c ≠ 0 then unwErr hk lw c else if (partF lw c).isSome then 0 else 7) == d3)) && (decide ((if unwE hk lw c = 0 then hk else 0) = 0) && decide ((unwR hk lw c).length = 0))) && (((if unwErr hk lw c = 0 then (partI lw c).1 else 0) == (0 : Int)) && (((if unwErr hk lw c = 0 then (partI lw c).2.1 else 0) == (0 : Int)) && ((if unwErr hk lw c = 0 then (partI lw c).2.2 else 0) == (0 : Int))))) && true) = true ∧ (True))) ∧
    ((d3 != (0 : Int)) = false →
     (lw.length ≤ 1000 ∧ c.length ≤ 1000 ∧ ∀ s ∈ c,s.length = lw.length) ∧ (((partF lw c).isSome) = true →
      (((unwE hk lw c) == (9 : Int)) = true → True) ∧ ((((((unwE hk lw c) == (9 : Int)) && (decide ((if unwE hk lw c = 0 then hk else 0) = 0) && decide ((unwR hk lw c).length = 0))) && ((if unwErr hk lw c ≠ 0 then unwErr hk lw c else if (partF lw c).isSome then 0 else 7) == (0 : Int))) && (((if unwErr hk lw c = 0 then (partI lw c).1 else 0) == ((partI lw c).1)) && (((if unwErr hk lw c = 0 then (partI lw c).2.1 else 0) == ((partI lw c).2.1)) && ((if unwErr hk lw c = 0 then (partI lw c).2.2 else 0) == ((partI lw c).2.2))))) = true → True) ∧ (((((((unwE hk lw c) == (9 : Int)) && (decide ((if unwE hk lw c = 0 then hk else 0) = 0) && decide ((unwR hk lw c).length = 0))) && ((if unwErr hk lw c ≠ 0 then unwErr hk lw c else if (partF lw c).isSome then 0 else 7) == (0 : Int))) && (((if unwErr hk lw c = 0 then (partI lw c).1 else 0) == ((partI lw c).1)) && (((if unwErr hk lw c = 0 then (partI lw c).2.1 else 0) == ((partI lw c).2.1)) && ((if unwErr hk lw c = 0 then (partI lw c).2.2 else 0) == ((partI lw c).2.2))))) && true) = true ∧ (True))) ∧
     (((partF lw c).isSome) = false →
      ((((unwE hk lw c) == (0 : Int)) = true →
       (1 ≤ hk ∧ hk ≤ 24 ∧ lw.length ≤ 1000 ∧ c ≠ [] ∧ c.length ≤ 1000 ∧ (∀ s ∈ c,s.length = lw.length)) ∧ (false = true → (unwL hk.toNat lw c) = []) ∧ ((unwR hk lw c).length ≤ 1000000) ∧ ((((decide ((if unwE hk lw c = 0 then hk else 0) = hk) && ((unwR hk lw c) == (unwL hk.toNat lw c))) && ((if unwErr hk lw c ≠ 0 then unwErr hk lw c else if (partF lw c).isSome then 0 else 7) == (7 : Int))) && (((if unwErr hk lw c = 0 then (partI lw c).1 else 0) == (0 : Int)) && (((if unwErr hk lw c = 0 then (partI lw c).2.1 else 0) == (0 : Int)) && ((if unwErr hk lw c = 0 then (partI lw c).2.2 else 0) == (0 : Int))))) = true → True) ∧ (((((decide ((if unwE hk lw c = 0 then hk else 0) = hk) && ((unwR hk lw c) == (unwL hk.toNat lw c))) && ((if unwErr hk lw c ≠ 0 then unwErr hk lw c else if (partF lw c).isSome then 0 else 7) == (7 : Int))) && (((if unwErr hk lw c = 0 then (partI lw c).1 else 0) == (0 : Int)) && (((if unwErr hk lw c = 0 then (partI lw c).2.1 else 0) == (0 : Int)) && ((if unwErr hk lw c = 0 then (partI lw c).2.2 else 0) == (0 : Int))))) && true) = true ∧ (True))) ∧
      (((unwE hk lw c) == (0 : Int)) = false →
       (((false && ((if unwErr hk lw c ≠ 0 then unwErr hk lw c else if (partF lw c).isSome then 0 else 7) == (7 : Int))) && (((if unwErr hk lw c = 0 then (partI lw c).1 else 0) == (0 : Int)) && (((if unwErr hk lw c = 0 then (partI lw c).2.1 else 0) == (0 : Int)) && ((if unwErr hk lw c = 0 then (partI lw c).2.2 else 0) == (0 : Int))))) = true → True) ∧ ((((false && ((if unwErr hk lw c ≠ 0 then unwErr hk lw c else if (partF lw c).isSome then 0 else 7) == (7 : Int))) && (((if unwErr hk lw c = 0 then (partI lw c).1 else 0) == (0 : Int)) && (((if unwErr hk lw c = 0 then (partI lw c).2.1 else 0) == (0 : Int)) && ((if unwErr hk lw c = 0 then (partI lw c).2.2 else 0) == (0 : Int))))) && true) = true ∧ (True)))))))))
def cx_law03_TieUnweaves : Cx:=⟨[],[(18,s_law03_large),(14,s_law03_known),(19,s_law03_own),(30,s_law03_cloths),(31,s_tie_Unweave),(32,s_tie_Part),(17,s_ref03_Same),(26,s_ref03_Alike),(33,s_ref03_Check),(34,s_ref03_Fits),(35,s_law03_bare),(36,s_ref03_Part),(37,s_ref03_Unweave),(23,s_ref01_Same)],131,[],0,[],[],[],[],false,[],[],[112]⟩
def lp_law03_TieUnweaves (hk : Int) (lw : List Int) (c : List (List UInt8)) : List (Nat × LoopAnn):=[(3000053,⟨Unit,Int,[1,2,7,8,9,10,11,12,13],fun e x=>[.val (.list .st) c,.box 2 0,.box 7 0,.val (.i .i64) (unwE hk lw c),.val (.i .i64) (if unwErr hk lw c = 0 then (partI lw c).1 else 0),.val (.i .i64) (if unwErr hk lw c = 0 then (partI lw c).2.1 else 0),.val (.i .i64) (if unwErr hk lw c = 0 then (partI lw c).2.2 else 0),.val (.i .i64) (if unwErr hk lw c ≠ 0 then unwErr hk lw c else if (partF lw c).isSome then 0 else 7),.val (.i .i64) x],fun e x=>[(2,.slot 2,.cells [.val (.i .i64) hk,.val (.list (.i .i64)) lw] (some 26)),(7,.slot 7,.cells [.val (.i .i64) (if unwE hk lw c = 0 then hk else 0),.lst 29] (some 36)),(29,.cell 7 1,.lst 3 (.i .i64) (unwR hk lw c) (List.isEmpty (unwR hk lw c)))]⟩)]
set_option maxRecDepth 100000 in
theorem vq_law03_TieUnweaves (d : (Int × List Int) × List (List UInt8)) : gwp (cx_law03_TieUnweaves) (lp_law03_TieUnweaves d.1.1 d.1.2 d.2) c5 0 (gend [.tmp 4] (res_law03_TieUnweaves d) (obs_law03_TieUnweaves d)) (gstart 131 (AL.can al_law03_TieUnweaves d)) = vc_law03_TieUnweaves d.1.1 d.1.2 d.2:=by kernel_rfl
abbrev Ok_law03_TieUnweaves : Prop:=OkC Tryz.prog 5 s_law03_TieUnweaves
theorem mk_law03_TieUnweaves (h : ∀ (hk : Int) (lw : List Int) (c : List (List UInt8)),(c.length ≤ 9223372036854775807) → vc_law03_TieUnweaves hk lw c) : OkC Tryz.prog 5 s_law03_TieUnweaves :=
 okC_vc fun5 mixed (C:=cx_law03_TieUnweaves) (V:=fun (d : (Int × List Int) × List (List UInt8))=>vc_law03_TieUnweaves d.1.1 d.1.2 d.2) ⟨(.cons ok_law03_large (.cons ok_law03_known (.cons ok_law03_own (.cons ok_law03_cloths (.cons ok_tie_Unweave (.cons ok_tie_Part (.cons ok_ref03_Same (.cons ok_ref03_Alike (.cons ok_ref03_Check (.cons ok_ref03_Fits (.cons ok_law03_bare (.cons ok_ref03_Part (.cons ok_ref03_Unweave (.cons ok_ref01_Same .nil)))))))))))))),XsOk.nil,ItsOk.nil,YlOk.nil,IysOk.nil⟩ (vq_law03_TieUnweaves) fun d hp=>h d.1.1 d.1.2 d.2 hp
theorem largeB_false {lw rows : List Int} {c : List (List UInt8)} (h : largeB lw rows c = false) : lw.length ≤ 110 ∧ rows.length ≤ 70 ∧ c.length ≤ 70 ∧ ∀ s ∈ c,s.length ≤ 110:=by
 simp only [largeB,Bool.or_eq_false_iff,decide_eq_false_iff_not] at h
 obtain ⟨h1,⟨h2,h3⟩,h4⟩:=h
 refine ⟨by omega,by omega,by omega,fun s hs=>?_⟩
 have:=List.any_eq_false.1 h1 s hs
 simp only [decide_eq_true_eq] at this
 omega
theorem rowsX_unwL {hk : Int} {lw : List Int} {c : List (List UInt8)} (h0 : 0 ≤ hk) (hp : ∀ x ∈ lw,0 ≤ x ∧ x < hk) (hn : partF lw c = none) : rowsX lw c = unwL hk.toNat lw c:=by
 unfold rowsX unwL
 refine List.map_congr_left fun s hs=>?_
 obtain ⟨i,hi,rfl⟩:=List.getElem_of_mem hs
 have h1:=partF_none.1 hn i hi
 rw [getD_nat hi] at h1
 rw [rowX_bits (hk:=hk.toNat) (fun x hx=>by have:=hp x hx; omega) h1]
theorem ok_law03_TieUnweaves : Ok_law03_TieUnweaves:=mk_law03_TieUnweaves fun hk lw c hcl=>by
 unfold vc_law03_TieUnweaves; (try delta lI gD sT I64)
 (try simp only [])
 refine ⟨hcl,fun _=>(by and_intros <;> first | rfl | trivial | simp),fun hl=>?_⟩
 obtain ⟨l1,_,l2,l3⟩:=largeB_false hl
 clear hl
 have l4 : ∀ s ∈ c,s.length ≤ 1000:=fun s hs=>by have:=l3 s hs; omega
 refine ⟨by omega,by omega,⟨by omega,by omega,l4⟩,⟨by omega,by omega,l4⟩,by omega,fun _=>by omega,fun h=>by simp at h,fun _=>?_⟩
 refine ⟨trivial,(),fun d=>d = unwErr hk lw c,⟨fun h=>⟨by omega,_,(by and_intros <;> first | rfl | trivial | simp),?_⟩,fun h=>⟨_,(by and_intros <;> first | rfl | trivial | simp),?_⟩⟩,fun d hd=>?_⟩
 ·have h : tieErr hk lw = 0:=by simpa using h
  simp [unwErr,h]
 ·have h : tieErr hk lw ≠ 0:=by simpa using h
  simp [unwErr,h]
 subst hd
 refine ⟨fun h=>?_,fun h=>?_⟩
 ·have h : unwErr hk lw c ≠ 0:=by simpa using h
  have hE : unwE hk lw c = unwErr hk lw c:=by simp [unwE,h]
  simp [h,hE,unwR]
 ·have h : unwErr hk lw c = 0:=by simpa using h
  obtain ⟨e1,e2⟩:=unwErr_zero h
  obtain ⟨t1,t2,t3,t4,t5⟩:=tieErr_zero e1
  obtain ⟨c1,c2,c3,c4,c5⟩:=clothErr_zero e2
  have cl : ∀ s ∈ c,s.length = lw.length:=fun s hs=>by have:=(c5 s hs).1; omega
  refine ⟨⟨by omega,by omega,cl⟩,fun hp=>?_,fun hp=>?_⟩
  ·have hE : unwE hk lw c = 9:=by simp [unwE,h,hp]
   simp [h,hE,unwR,hp]
  ·have hE : unwE hk lw c = 0:=by simp [unwE,h,hp]
   have hn : partF lw c = none:=by simpa using hp
   have hR : unwR hk lw c = unwL hk.toNat lw c:=by rw [unwR,if_pos hE,rowsX_unwL (by omega) t5 hn]
   have hI : partI lw c = (0,0,0):=by simp [partI,hn]
   refine ⟨fun _=>⟨⟨t1,t2,by omega,c2,by omega,cl⟩,(fun hf=>by cases hf),?_,?_⟩,fun hne=>?_⟩
   ·rw [hR]; simp [unwL]; omega
   ·simp [h,hE,hR,hn,hI]
   ·rw [hE] at hne; cases hne
end Go.Proofs.Tryz