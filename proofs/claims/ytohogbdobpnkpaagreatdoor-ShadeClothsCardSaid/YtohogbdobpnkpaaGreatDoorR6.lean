/- A framework for walks, contracts of functions, and their proofs: part 6. -/
import Derived.Test.YtohogbdobpnkpaaGreatDoorR5
namespace Go.Proofs.Tryz
open Go Go.V
def mG1:Memo:=⟨[.agg #[.slice (some ⟨0,0,none⟩) 4 4,.int .i64 20],.int .u64 1],[⟨[.int .i64 1,.int .i64 100,.int .i64 110,.int .i64 500,.int .i64 1,.int .i64 105,.int .i64 112,.int .i64 300,.int .i64 1,.int .i64 108,.int .i64 125,.int .i64 400,.int .i64 1,.int .i64 120,.int .i64 130,.int .i64 600],⟨4,78⟩,true⟩],.int .i64 500,[]⟩
theorem W02:MemoOk Tryz.prog 78 mG1:=Q03 mixed Q04 200 (by kernel_rfl) (by kernel_rfl)
def mG2:Memo:=⟨[.agg #[.slice (some ⟨0,0,none⟩) 4 4,.int .i64 20],.int .u64 2],[⟨[.int .i64 1,.int .i64 100,.int .i64 110,.int .i64 500,.int .i64 1,.int .i64 105,.int .i64 112,.int .i64 300,.int .i64 1,.int .i64 108,.int .i64 125,.int .i64 400,.int .i64 1,.int .i64 120,.int .i64 130,.int .i64 600],⟨4,78⟩,true⟩],.int .i64 300,[]⟩
theorem X9n:MemoOk Tryz.prog 78 mG2:=Q03 mixed Q04 200 (by kernel_rfl) (by kernel_rfl)
def mG3:Memo:=⟨[.agg #[.slice (some ⟨0,0,none⟩) 4 4,.int .i64 20],.int .u64 3],[⟨[.int .i64 1,.int .i64 100,.int .i64 110,.int .i64 500,.int .i64 1,.int .i64 105,.int .i64 112,.int .i64 300,.int .i64 1,.int .i64 108,.int .i64 125,.int .i64 400,.int .i64 1,.int .i64 120,.int .i64 130,.int .i64 600],⟨4,78⟩,true⟩],.int .i64 800,[]⟩
theorem X9y:MemoOk Tryz.prog 78 mG3:=Q03 mixed Q04 200 (by kernel_rfl) (by kernel_rfl)
def mG4:Memo:=⟨[.agg #[.slice (some ⟨0,0,none⟩) 4 4,.int .i64 20],.int .u64 4],[⟨[.int .i64 1,.int .i64 100,.int .i64 110,.int .i64 500,.int .i64 1,.int .i64 105,.int .i64 112,.int .i64 300,.int .i64 1,.int .i64 108,.int .i64 125,.int .i64 400,.int .i64 1,.int .i64 120,.int .i64 130,.int .i64 600],⟨4,78⟩,true⟩],.int .i64 400,[]⟩
theorem W0a:MemoOk Tryz.prog 78 mG4:=Q03 mixed Q04 200 (by kernel_rfl) (by kernel_rfl)
def mG5:Memo:=⟨[.agg #[.slice (some ⟨0,0,none⟩) 4 4,.int .i64 20],.int .u64 5],[⟨[.int .i64 1,.int .i64 100,.int .i64 110,.int .i64 500,.int .i64 1,.int .i64 105,.int .i64 112,.int .i64 300,.int .i64 1,.int .i64 108,.int .i64 125,.int .i64 400,.int .i64 1,.int .i64 120,.int .i64 130,.int .i64 600],⟨4,78⟩,true⟩],.int .i64 900,[]⟩
theorem W04:MemoOk Tryz.prog 78 mG5:=Q03 mixed Q04 200 (by kernel_rfl) (by kernel_rfl)
def mG6:Memo:=⟨[.agg #[.slice (some ⟨0,0,none⟩) 4 4,.int .i64 20],.int .u64 6],[⟨[.int .i64 1,.int .i64 100,.int .i64 110,.int .i64 500,.int .i64 1,.int .i64 105,.int .i64 112,.int .i64 300,.int .i64 1,.int .i64 108,.int .i64 125,.int .i64 400,.int .i64 1,.int .i64 120,.int .i64 130,.int .i64 600],⟨4,78⟩,true⟩],.int .i64 700,[]⟩
theorem W0c:MemoOk Tryz.prog 78 mG6:=Q03 mixed Q04 200 (by kernel_rfl) (by kernel_rfl)
def mG7:Memo:=⟨[.agg #[.slice (some ⟨0,0,none⟩) 4 4,.int .i64 20],.int .u64 7],[⟨[.int .i64 1,.int .i64 100,.int .i64 110,.int .i64 500,.int .i64 1,.int .i64 105,.int .i64 112,.int .i64 300,.int .i64 1,.int .i64 108,.int .i64 125,.int .i64 400,.int .i64 1,.int .i64 120,.int .i64 130,.int .i64 600],⟨4,78⟩,true⟩],.int .i64 1200,[]⟩
theorem X9x:MemoOk Tryz.prog 78 mG7:=Q03 mixed Q04 200 (by kernel_rfl) (by kernel_rfl)
def mG8:Memo:=⟨[.agg #[.slice (some ⟨0,0,none⟩) 4 4,.int .i64 20],.int .u64 8],[⟨[.int .i64 1,.int .i64 100,.int .i64 110,.int .i64 500,.int .i64 1,.int .i64 105,.int .i64 112,.int .i64 300,.int .i64 1,.int .i64 108,.int .i64 125,.int .i64 400,.int .i64 1,.int .i64 120,.int .i64 130,.int .i64 600],⟨4,78⟩,true⟩],.int .i64 600,[]⟩
theorem X9o:MemoOk Tryz.prog 78 mG8:=Q03 mixed Q04 200 (by kernel_rfl) (by kernel_rfl)
def mG9:Memo:=⟨[.agg #[.slice (some ⟨0,0,none⟩) 4 4,.int .i64 20],.int .u64 9],[⟨[.int .i64 1,.int .i64 100,.int .i64 110,.int .i64 500,.int .i64 1,.int .i64 105,.int .i64 112,.int .i64 300,.int .i64 1,.int .i64 108,.int .i64 125,.int .i64 400,.int .i64 1,.int .i64 120,.int .i64 130,.int .i64 600],⟨4,78⟩,true⟩],.int .i64 1100,[]⟩
theorem W0h:MemoOk Tryz.prog 78 mG9:=Q03 mixed Q04 200 (by kernel_rfl) (by kernel_rfl)
def mG10:Memo:=⟨[.agg #[.slice (some ⟨0,0,none⟩) 4 4,.int .i64 20],.int .u64 10],[⟨[.int .i64 1,.int .i64 100,.int .i64 110,.int .i64 500,.int .i64 1,.int .i64 105,.int .i64 112,.int .i64 300,.int .i64 1,.int .i64 108,.int .i64 125,.int .i64 400,.int .i64 1,.int .i64 120,.int .i64 130,.int .i64 600],⟨4,78⟩,true⟩],.int .i64 900,[]⟩
theorem X8m:MemoOk Tryz.prog 78 mG10:=Q03 mixed Q04 200 (by kernel_rfl) (by kernel_rfl)
def mG11:Memo:=⟨[.agg #[.slice (some ⟨0,0,none⟩) 4 4,.int .i64 20],.int .u64 11],[⟨[.int .i64 1,.int .i64 100,.int .i64 110,.int .i64 500,.int .i64 1,.int .i64 105,.int .i64 112,.int .i64 300,.int .i64 1,.int .i64 108,.int .i64 125,.int .i64 400,.int .i64 1,.int .i64 120,.int .i64 130,.int .i64 600],⟨4,78⟩,true⟩],.int .i64 1400,[]⟩
theorem X8r:MemoOk Tryz.prog 78 mG11:=Q03 mixed Q04 200 (by kernel_rfl) (by kernel_rfl)
def mG12:Memo:=⟨[.agg #[.slice (some ⟨0,0,none⟩) 4 4,.int .i64 20],.int .u64 12],[⟨[.int .i64 1,.int .i64 100,.int .i64 110,.int .i64 500,.int .i64 1,.int .i64 105,.int .i64 112,.int .i64 300,.int .i64 1,.int .i64 108,.int .i64 125,.int .i64 400,.int .i64 1,.int .i64 120,.int .i64 130,.int .i64 600],⟨4,78⟩,true⟩],.int .i64 1000,[]⟩
theorem X98:MemoOk Tryz.prog 78 mG12:=Q03 mixed Q04 200 (by kernel_rfl) (by kernel_rfl)
def mG13:Memo:=⟨[.agg #[.slice (some ⟨0,0,none⟩) 4 4,.int .i64 20],.int .u64 13],[⟨[.int .i64 1,.int .i64 100,.int .i64 110,.int .i64 500,.int .i64 1,.int .i64 105,.int .i64 112,.int .i64 300,.int .i64 1,.int .i64 108,.int .i64 125,.int .i64 400,.int .i64 1,.int .i64 120,.int .i64 130,.int .i64 600],⟨4,78⟩,true⟩],.int .i64 1500,[]⟩
theorem X97:MemoOk Tryz.prog 78 mG13:=Q03 mixed Q04 200 (by kernel_rfl) (by kernel_rfl)
def mG14:Memo:=⟨[.agg #[.slice (some ⟨0,0,none⟩) 4 4,.int .i64 20],.int .u64 14],[⟨[.int .i64 1,.int .i64 100,.int .i64 110,.int .i64 500,.int .i64 1,.int .i64 105,.int .i64 112,.int .i64 300,.int .i64 1,.int .i64 108,.int .i64 125,.int .i64 400,.int .i64 1,.int .i64 120,.int .i64 130,.int .i64 600],⟨4,78⟩,true⟩],.int .i64 1300,[]⟩
theorem X9i:MemoOk Tryz.prog 78 mG14:=Q03 mixed Q04 200 (by kernel_rfl) (by kernel_rfl)
def mG15:Memo:=⟨[.agg #[.slice (some ⟨0,0,none⟩) 4 4,.int .i64 20],.int .u64 15],[⟨[.int .i64 1,.int .i64 100,.int .i64 110,.int .i64 500,.int .i64 1,.int .i64 105,.int .i64 112,.int .i64 300,.int .i64 1,.int .i64 108,.int .i64 125,.int .i64 400,.int .i64 1,.int .i64 120,.int .i64 130,.int .i64 600],⟨4,78⟩,true⟩],.int .i64 1800,[]⟩
theorem X8u:MemoOk Tryz.prog 78 mG15:=Q03 mixed Q04 200 (by kernel_rfl) (by kernel_rfl)
end Go.Proofs.Tryz
namespace Go.Proofs.Tryz
open Go Go.V
def memos1:List Memo:=[mA1,mA2,mA3,mA4,mA5,mA6,mA7,mA8,mA9,mA10,mA11,mA12,mA13,mA14,mA15]
theorem X43:∀ m∈memos1,MemoOk Tryz.prog 56 m:=by
 intro m hm;simp only[memos1,List.mem_cons,List.not_mem_nil,or_false] at hm;rcases hm with rfl|rfl|rfl|rfl|rfl|rfl|rfl|rfl|rfl|rfl|rfl|rfl|rfl|rfl|rfl
 ·exact W09
 ·exact W0b
 ·exact X9s
 ·exact W0e
 ·exact X9p
 ·exact W00
 ·exact W07
 ·exact W0k
 ·exact X9z
 ·exact X8o
 ·exact X94
 ·exact X9l
 ·exact X9k
 ·exact X9c
 ·exact X8y
def memos2:List Memo:=[X87,X8h,X84,X8b,X7w,X8j,X7z,X83,X7v,X4r,X5x,X4y,X5u,X52,X5o,X8i,X86,X81,X8g,X7y,X8e,X82,X8k,X42,X5a,X85,X8d,X8f,X80]
theorem X40:∀ m∈memos2,MemoOk Tryz.prog 79 m:=by
 intro m hm;simp only[memos2,List.mem_cons,List.not_mem_nil,or_false] at hm;rcases hm with rfl|rfl|rfl|rfl|rfl|rfl|rfl|rfl|rfl|rfl|rfl|rfl|rfl|rfl|rfl|rfl|rfl|rfl|rfl|rfl|rfl|rfl|rfl|rfl|rfl|rfl|rfl|rfl|rfl
 ·exact X5w
 ·exact X64
 ·exact X5z
 ·exact X6f
 ·exact X6c
 ·exact X4l
 ·exact X54
 ·exact X4z
 ·exact X47
 ·exact X34
 ·exact X2x
 ·exact X3d
 ·exact X35
 ·exact X3f
 ·exact X3e
 ·exact X6i
 ·exact X5g
 ·exact X5t
 ·exact X5n
 ·exact X59
 ·exact X44
 ·exact X5j
 ·exact X4e
 ·exact X38
 ·exact X3u
 ·exact X58
 ·exact X45
 ·exact X4w
 ·exact X49
def memos3:List Memo:=[mG1,mG2,mG3,mG4,mG5,mG6,mG7,mG8,mG9,mG10,mG11,mG12,mG13,mG14,mG15]
theorem X4q:∀ m∈memos3,MemoOk Tryz.prog 78 m:=by
 intro m hm;simp only[memos3,List.mem_cons,List.not_mem_nil,or_false] at hm;rcases hm with rfl|rfl|rfl|rfl|rfl|rfl|rfl|rfl|rfl|rfl|rfl|rfl|rfl|rfl|rfl
 ·exact W02
 ·exact X9n
 ·exact X9y
 ·exact W0a
 ·exact W04
 ·exact W0c
 ·exact X9x
 ·exact X9o
 ·exact W0h
 ·exact X8m
 ·exact X8r
 ·exact X98
 ·exact X97
 ·exact X9i
 ·exact X8u
noncomputable def tabL:List (Option FEnt):=[
 none,
 none,
 some (.code c2 [] 1),
 some (.code c3 [.tmp 4] 236),
 some (.code c4 [.tmp 6] 80),
 some (.code c5 [.tmp 4] 82),
 some (.code c6 [.tmp 4] 204),
 some (.code c7 [.tmp 4] 280),
 some (.code c8 [.tmp 6] 337),
 some (.code c9 [.tmp 4] 271),
 some (.code c10 [.tmp 6] 184),
 some (.code c11 [.tmp 4] 14),
 some (.code c12 [.tmp 4] 18),
 some (.code c13 [.tmp 0] 193),
 some (.code c14 [.tmp 2] 6),
 some (.codeJ c15 [.tmp 4,.tmp 5] 15),
 some (.codeJ c16 [.tmp 4,.tmp 5] 18),
 some (.code c17 [.tmp 4] 26),
 some (.code c18 [.tmp 8] 65),
 some (.code c19 [.tmp 4] 29),
 some (.code c20 [.tmp 6] 15),
 some (.code c21 [.tmp 6] 33),
 some (.code c22 [.tmp 6] 31),
 some (.code c23 [.tmp 2] 11),
 some (.codeJ c24 [.tmp 6,.tmp 7] 29),
 some (.code c25 [.tmp 6,.tmp 7] 77),
 some (.code c26 [.tmp 4] 26),
 some (.codeJ c27 [.tmp 4,.tmp 5,.tmp 6] 73),
 some (.code c28 [.tmp 8,.tmp 9] 65),
 some (.code c29 [.tmp 6] 41),
 some (.code c30 [.tmp 2] 32),
 some (.code c31 [.tmp 2] 6),
 some (.codeJ c32 [.cell 6 true 2,.tmp 7,.tmp 8] 37),
 some (.codeJ c33 [.cell 8 true 2,.tmp 9] 103),
 some (.code c34 [.tmp 10,.tmp 11] 83),
 some (.code c35 [.cell 2 true 2] 22),
 some (.code c36 [.tmp 2] 51),
 some (.code c37 [.tmp 4] 39),
 some (.code c38 [.tmp 6] 24),
 some (.codeJ c39 [.cell 4 true 2,.tmp 5] 52),
 some (.code c40 [.tmp 2] 6),
 some (.code c41 [.tmp 2] 6),
 some (.code c42 [.tmp 6,.tmp 7,.tmp 8] 61),
 some (.code c43 [.tmp 2] 44),
 some (.code c44 [.tmp 8] 59),
 some (.code c45 [.tmp 0] 10),
 some (.code c46 [.tmp 2] 9),
 some (.codeJ c47 [.tmp 4,.tmp 5] 23),
 some (.code c48 [.cell 4 true 2] 8),
 some (.code c49 [.tmp 4,.tmp 5,.tmp 6] 29),
 some (.code c50 [.tmp 4] 24),
 some (.code c51 [.cell 4 true 2,.tmp 5] 21),
 some (.code c52 [.tmp 2] 13),
 some (.codeJ c53 [.tmp 4,.tmp 5] 62),
 some (.code c54 [.tmp 4] 40),
 some (.code c55 [.tmp 4] 63),
 some (.codeM c56 [.tmp 2] 15 memos1),
 some (.codeJ c57 [.tmp 6] 21),
 some (.code c58 [.tmp 6] 31),
 some (.code c59 [.cell 6 true 3,.tmp 7] 33),
 some (.codeJ c60 [.tmp 2,.tmp 3] 41),
 some (.code c61 [.tmp 6] 11),
 some (.code c62 [.cell 0 true 2] 2),
 some (.code c63 [.tmp 2] 4),
 some (.code c64 [.cell 6 true 2] 44),
 some (.code c65 [.cell 4 true 2] 16),
 some (.code c66 [.cell 4 true 2] 17),
 some (.code c67 [.tmp 8,.tmp 9] 47),
 some (.code c68 [.tmp 4] 16),
 some (.code c69 [.tmp 2] 10),
 some (.code c70 [.cell 2 true 2] 61),
 some (.code c71 [.tmp 4] 9),
 some (.code c72 [.tmp 3] 9),
 some (.code c73 [.tmp 4] 20),
 some (.code c74 [.tmp 4] 26),
 some (.code c75 [.tmp 4] 17),
 some (.codeJ c76 [.tmp 2] 16),
 some (.code c77 [.tmp 2,.tmp 3] 64),
 some (.codeM c78 [.tmp 4] 24 memos3),
 some (.codeM c79 [.tmp 4] 38 memos2),
 some (.code c80 [.tmp 2] 18),
 some (.code c81 [.tmp 4] 20),
 some (.code c82 [.tmp 4] 36),
 some (.code c83 [.tmp 2] 8),
 some (.code c84 [.tmp 2] 15),
 some (.code c85 [.tmp 4] 9),
 some (.code c86 [.cell 6 true 2] 44),
 some (.code c87 [.tmp 4] 9),
 some (.code c88 [.tmp 4] 13),
 some (.code c89 [] 19),
 some (.code c90 [.tmp 4] 9),
 some (.code c91 [.tmp 2] 6),
 some (.code c92 [.tmp 2] 32),
 some (.code c93 [.tmp 4] 19),
 some (.code c94 [] 9),
 some (.code c95 [.tmp 5] 36),
 some (.code c96 [] 11),
 some (.code c97 [] 14),
 some (.code c98 [.tmp 3] 11),
 some (.code c99 [.tmp 2] 6),
 some (.code c100 [.tmp 2] 14),
 some (.code c101 [.tmp 2] 14),
 some (.code c102 [.tmp 4] 19),
 some (.code c103 [.tmp 4] 19),
 some (.code c104 [.tmp 4] 19),
 some (.code c105 [] 63),
 some (.code c106 [] 134),
 some (.code c107 [.tmp 2] 8),
 some (.code c108 [] 148),
 some (.code c109 [] 53),
 some (.code c110 [] 220),
 some (.code c111 [] 49),
 some (.code c112 [] 56),
 some (.code c113 [] 65),
 some (.code c114 [.tmp 6,.tmp 7] 57),
 some (.code c115 [] 32),
 some (.code c116 [.tmp 6] 133),
 some (.code c117 [.tmp 4] 17),
 some (.code c118 [.tmp 8] 84),
 some (.code c119 [.tmp 8,.tmp 9] 168),
 some (.code c120 [.tmp 2] 19),
 some (.code c121 [.tmp 2] 25),
 some (.code c122 [] 53),
 some (.code c123 [] 60),
 some (.code c124 [] 67),
 some (.code c125 [.tmp 8,.tmp 9] 63),
 some (.code c126 [] 34),
 some (.code c127 [.tmp 8] 141),
 some (.code c128 [.tmp 10] 90),
 some (.code c129 [.tmp 10,.tmp 11] 178),
 some (.code c130 [] 58),
 some (.code c131 [] 76),
 some (.code c132 [.tmp 2] 7),
 some (.code c133 [.tmp 2] 33),
 some (.code c134 [.tmp 6] 15),
 some (.code c135 [.tmp 10] 36),
 some (.code c136 [] 82),
 some (.code c137 [.tmp 8] 18),
 some (.code c138 [.tmp 12] 41),
 some (.code c139 [] 38),
 some (.code c140 [.tmp 8,.tmp 9] 28),
 some (.code c141 [.tmp 10,.tmp 11] 32)]
noncomputable def tab:Tab:=fun f=>(tabL[f]?).join
theorem X8s:EntsOk Tryz.prog 0 tabL:=⟨trivial,trivial,fun2,fun3,fun4,fun5,fun6,fun7,fun8,fun9,fun10,fun11,fun12,fun13,fun14,fun15,fun16,fun17,fun18,fun19,fun20,fun21,fun22,fun23,fun24,fun25,fun26,fun27,fun28,fun29,fun30,fun31,fun32,fun33,fun34,fun35,fun36,fun37,fun38,fun39,fun40,fun41,fun42,fun43,fun44,fun45,fun46,fun47,fun48,fun49,fun50,fun51,fun52,fun53,fun54,fun55,⟨fun56,X43⟩,fun57,fun58,fun59,fun60,fun61,fun62,fun63,fun64,fun65,fun66,fun67,fun68,fun69,fun70,fun71,fun72,fun73,fun74,fun75,fun76,fun77,⟨fun78,X4q⟩,⟨fun79,X40⟩,fun80,fun81,fun82,fun83,fun84,fun85,fun86,fun87,fun88,fun89,fun90,fun91,fun92,fun93,fun94,fun95,fun96,fun97,fun98,fun99,fun100,fun101,fun102,fun103,fun104,fun105,fun106,fun107,fun108,fun109,fun110,fun111,fun112,fun113,fun114,fun115,fun116,fun117,fun118,fun119,fun120,fun121,fun122,fun123,fun124,fun125,fun126,fun127,fun128,fun129,fun130,fun131,fun132,fun133,fun134,fun135,fun136,fun137,fun138,fun139,fun140,fun141,trivial⟩
theorem W03:TabOk Tryz.prog tab:=X2a X8s
theorem X4a:veval tab 300 boolOps [] c13 none (ET.of [] 193) CH.empty (eend false [.tmp 0] fun v _=>isTrue v)=true:=by kernel_rfl
theorem X7i {σ:Heap}{K:Value→Heap→Prop}(hK:K (.bool true) σ):VCalled Tryz.prog 13 [] σ K:=X6l mixed W03 300 fun13 (by decide) X4a hK
end Go.Proofs.Tryz
set_option linter.unusedVariables false
namespace Go.Proofs.Tryz
open Go Go.V Go.Proofs
def J3w:AL (Unit):=.nil
def J2l (d:Unit):Prop:=True
def J1l (d:Unit):SV:=.val .bo true
def J1c (d:Unit):List OB:=[]
def Z7r:CSp:=mkSp J3w J2l J1l J1c
abbrev J4m:Prop:=OkC Tryz.prog 13 Z7r
theorem J4t:J4m:=X6m fun _ _ h=>X7i h
end Go.Proofs.Tryz
set_option linter.unusedVariables false
namespace Go.Proofs.Tryz
open Go Go.V Go.Proofs
def J2t:AL (Int×Int×Int):=(.cons (.k (.i .i64)) (.cons (.k (.i .i64)) (.one (.k (.i .i64)))))
def J8x (d:Int×Int×Int):Prop:=True
def Z9k (d:Int×Int×Int):SV:=.val .bo (inI d.1 d.2.1 d.2.2)
def Z9p (d:Int×Int×Int):List OB:=[]
def Z1o:CSp:=mkSp J2t J8x Z9k Z9p
def Z2f (n:Int) (a:Int) (b:Int):Prop :=
 (((decide (n≥a))&&(decide (n≤b)))=(inI n a b)∧(True))
def J3e:Cx:=⟨[],[],15,[],0,[],[],[],[],false,[],[],[],[]⟩
def X0p (n:Int) (a:Int) (b:Int):List (Nat×LoopAnn):=[]
set_option maxRecDepth 100000 in
theorem X0m (d:Int×Int×Int):gwp (J3e) (X0p d.1 d.2.1 d.2.2) c20 0 (gend [.tmp 6] (Z9k d) (Z9p d)) (gstart 15 (AL.can J2t d))=Z2f d.1 d.2.1 d.2.2:=by kernel_rfl
abbrev X0r:Prop:=OkC Tryz.prog 20 Z1o
theorem X0g (h:∀ (n:Int) (a:Int) (b:Int),(True)→Z2f n a b):OkC Tryz.prog 20 Z1o :=
 Q13 fun20 mixed (C:=J3e) (V:=fun (d:Int×Int×Int)=>Z2f d.1 d.2.1 d.2.2) ⟨.nil,XsOk.nil,ItsOk.nil,YlOk.nil,IysOk.nil,XfOk.nil⟩ (X0m) fun d hp=>h d.1 d.2.1 d.2.2 hp
theorem Z6j:X0r:=X0g fun n a b _=>by simp[Z2f,inI]
end Go.Proofs.Tryz
set_option linter.unusedVariables false
namespace Go.Proofs.Tryz
open Go Go.V Go.Proofs
abbrev Lot:=Int×(Int×Int)×Int
def lotD:Lot:=(0,((0,0),0))
def lotOk (x:Lot):Bool:=inI x.1 0 9&&(inI x.2.1.1 0 1000&&inI x.2.1.2 0 1000)&&decide (x.2.1.1≤x.2.1.2)&&inI x.2.2 1 1000000
def lotsErr (l:List Lot):Int:=if 12<l.length then 5 else if l.any (fun x=>!lotOk x) then 2 else 0
def farL (a b:Lot):Int:=gmax (a.2.1.2-b.2.1.1) (b.2.1.2-a.2.1.1)
def sprS (s:Int×Int×Int×Int) (y:Lot):Int×Int×Int×Int:=(gmax s.1 y.2.1.1,gmin s.2.1 y.2.1.2,gmin s.2.2.1 y.2.1.1,gmax s.2.2.2 y.2.1.2)
def sprF (l:List Lot) (k:Nat):Int×Int×Int×Int:=(l.take k).foldl sprS ((l.getD 0 lotD).2.1.1,(l.getD 0 lotD).2.1.2,(l.getD 0 lotD).2.1.1,(l.getD 0 lotD).2.1.2)
def sprD (l:List Lot):Sp:=(gmax 0 ((sprF l l.length).1-(sprF l l.length).2.1),(sprF l l.length).2.2.2-(sprF l l.length).2.2.1)
def pickL (l:List Lot) (sm:List Int):List Lot:=sm.map fun i=>l.getD i.toNat lotD
theorem J2w {x:Lot}:lotOk x=true↔(0≤x.1∧x.1≤9)∧(0≤x.2.1.1∧x.2.1.1≤1000)∧(0≤x.2.1.2∧x.2.1.2≤1000)∧x.2.1.1≤x.2.1.2∧1≤x.2.2∧x.2.2≤1000000:=by simp only[lotOk,inI,Bool.and_eq_true,decide_eq_true_eq];omega
theorem X22 {l:List Lot}(h:l≠[]):sprF l 1=((l.getD 0 lotD).2.1.1,(l.getD 0 lotD).2.1.2,(l.getD 0 lotD).2.1.1,(l.getD 0 lotD).2.1.2):=by
 cases l with
 |nil=>exact(h rfl).elim
 |cons x l =>
  have g:∀ a:Int,gmax a a=a:=fun a=>by rw[Z23];omega
  have m:∀ a:Int,gmin a a=a:=fun a=>by rw[Z8l];omega
  simp[sprF,sprS,g,m]
theorem J8u {l:List Lot}{k:Nat}(h:k<l.length):sprF l (k+1)=sprS (sprF l k) l[k]:=by unfold sprF;rw[Q41 h,List.foldl_append];rfl
theorem J2q {l:List Lot}(h:l≠[]):∀ k,1≤k→k≤l.length →
  (∀ i,i<k→(l.getD i lotD).2.1.1≤(sprF l k).1∧(sprF l k).2.1≤(l.getD i lotD).2.1.2∧(sprF l k).2.2.1≤(l.getD i lotD).2.1.1∧(l.getD i lotD).2.1.2≤(sprF l k).2.2.2) ∧
  (∃ i,i<k∧(sprF l k).1=(l.getD i lotD).2.1.1)∧(∃ i,i<k∧(sprF l k).2.1=(l.getD i lotD).2.1.2)∧(∃ i,i<k∧(sprF l k).2.2.1=(l.getD i lotD).2.1.1)∧∃ i,i<k∧(sprF l k).2.2.2=(l.getD i lotD).2.1.2
 |0,h1,_=>by omega
 |1,_,_=>by
  rw[X22 h];refine⟨fun i hi=>?_,⟨0,by omega,rfl⟩,⟨0,by omega,rfl⟩,⟨0,by omega,rfl⟩,⟨0,by omega,rfl⟩⟩;have:i=0:=by omega
  subst this;exact⟨Int.le_refl _,Int.le_refl _,Int.le_refl _,Int.le_refl _⟩
 |k+2,_,hk=>by
  obtain⟨a,⟨i1,b1,c1⟩,⟨i2,b2,c2⟩,⟨i3,b3,c3⟩,⟨i4,b4,c4⟩⟩:=J2q h (k+1) (by omega) (by omega);rw[J8u (show k+1<l.length by omega)];have hk1:l.getD (k+1) lotD=l[k+1]:=Q02 (by omega);have e1:=Z23 (sprF l (k+1)).1 l[k+1].2.1.1;have e2:=Z8l (sprF l (k+1)).2.1 l[k+1].2.1.2;have e3:=Z8l (sprF l (k+1)).2.2.1 l[k+1].2.1.1;have e4:=Z23 (sprF l (k+1)).2.2.2 l[k+1].2.1.2;unfold sprS;dsimp only;refine⟨fun i hi=>?_,?_,?_,?_,?_⟩
  ·by_cases h5:i=k+1
   ·subst h5;rw[hk1];omega
   ·have:=a i (by omega);omega
  ·by_cases h5:(sprF l (k+1)).1≤l[k+1].2.1.1
   ·exact⟨k+1,by omega,by rw[hk1];omega⟩
   ·exact⟨i1,by omega,by omega⟩
  ·by_cases h5:l[k+1].2.1.2≤(sprF l (k+1)).2.1
   ·exact⟨k+1,by omega,by rw[hk1];omega⟩
   ·exact⟨i2,by omega,by omega⟩
  ·by_cases h5:l[k+1].2.1.1≤(sprF l (k+1)).2.2.1
   ·exact⟨k+1,by omega,by rw[hk1];omega⟩
   ·exact⟨i3,by omega,by omega⟩
  ·by_cases h5:(sprF l (k+1)).2.2.2≤l[k+1].2.1.2
   ·exact⟨k+1,by omega,by rw[hk1];omega⟩
   ·exact⟨i4,by omega,by omega⟩
theorem Z7e (a:Int) (b:Bool) (m:List (Int×Bool)) (e:Int) (d:Bool):gq.aget (.i .i64) ((a,b)::m) e d=if e=a then b else gq.aget (.i .i64) m e d:=by show (if (e==a)=true then b else gq.aget (.i .i64) m e d)=_;simp only[beq_iff_eq]
theorem X66 (a:Int) (b:Bool) (m:List (Int×Bool)) (k:Int) (v:Bool):aput (.i .i64) ((a,b)::m) k v=if k=a then (k,v)::m else (a,b)::aput (.i .i64) m k v:=by show (if (k==a)=true then (k,v)::m else (a,b)::aput (.i .i64) m k v)=_;simp only[beq_iff_eq]
theorem X4o (m:List (Int×Bool)) (k:Int) (v:Bool) (e:Int) (d:Bool):gq.aget (.i .i64) (aput (.i .i64) m k v) e d=if e=k then v else gq.aget (.i .i64) m e d:=by
 induction m with
 |nil=>exact Z7e k v [] e d
 |cons p m ih =>
  obtain⟨a,b⟩:=p;rw[X66,Z7e];by_cases h:k=a
  ·subst h;rw[if_pos rfl,Z7e];split<;>rfl
  ·rw[if_neg h,Z7e,ih];by_cases h2:e=a
   ·subst h2;rw[if_pos rfl,if_neg (Ne.symm h),if_pos rfl]
   ·rw[if_neg h2,if_neg h2]
end Go.Proofs.Tryz
set_option linter.unusedVariables false
namespace Go.Proofs.Tryz
open Go Go.V Go.Proofs
def Z69:AL (Int×Int×Int×Int):=(.one (.agg (.cons (.k (.i .i64)) (.cons (.k (.i .i64)) (.cons (.k (.i .i64)) (.one (.k (.i .i64))))))))
def J2b (d:Int×Int×Int×Int):Prop:=True
def Z3h (d:Int×Int×Int×Int):SV:=.val .bo (lotOk (d.1,(d.2.1,d.2.2.1),d.2.2.2))
def Z3n (d:Int×Int×Int×Int):List OB:=[]
def Z1s:CSp:=mkSp Z69 J2b Z3h Z3n
def Q73 (lc:Int) (lo:Int) (hi:Int) (lg:Int):Prop :=
 ([lc].length≤1000000)∧((!([lc].any fun n=>decide (n<(0:Int))||decide ((9:Int)<n)))=true→True)∧((!([lc].any fun n=>decide (n<(0:Int))||decide ((9:Int)<n)))=true→[lo,hi].length≤1000000)∧((((!([lc].any fun n=>decide (n<(0:Int))||decide ((9:Int)<n)))&&(!([lo,hi].any fun n=>decide (n<(0:Int))||decide ((1000:Int)<n))))&&(decide (lo≤hi)))=true→True)∧((((!([lc].any fun n=>decide (n<(0:Int))||decide ((9:Int)<n)))&&(!([lo,hi].any fun n=>decide (n<(0:Int))||decide ((1000:Int)<n))))&&(decide (lo≤hi)))=true→[lg].length≤1000000)∧(((((!([lc].any fun n=>decide (n<(0:Int))||decide ((9:Int)<n)))&&(!([lo,hi].any fun n=>decide (n<(0:Int))||decide ((1000:Int)<n))))&&(decide (lo≤hi)))&&(!([lg].any fun n=>decide (n<(1:Int))||decide ((1000000:Int)<n))))=(lotOk (lc,(lo,hi),lg))∧(True))
def Z5v:Cx:=⟨[(3,(.i .i64))],[(61,Q4s)],32,[],0,[],[],[],[],false,[],[],[],[]⟩
def J4a (lc:Int) (lo:Int) (hi:Int) (lg:Int):List (Nat×LoopAnn):=[]
set_option maxRecDepth 100000 in
theorem J4d (d:Int×Int×Int×Int):gwp (Z5v) (J4a d.1 d.2.1 d.2.2.1 d.2.2.2) c92 0 (gend [.tmp 2] (Z3h d) (Z3n d)) (gstart 32 (AL.can Z69 d))=Q73 d.1 d.2.1 d.2.2.1 d.2.2.2:=by kernel_rfl
abbrev J44:Prop:=OkC Tryz.prog 92 Z1s
theorem J4c (h:∀ (lc:Int) (lo:Int) (hi:Int) (lg:Int),(True)→Q73 lc lo hi lg):OkC Tryz.prog 92 Z1s :=
 Q13 fun92 mixed (C:=Z5v) (V:=fun (d:Int×Int×Int×Int)=>Q73 d.1 d.2.1 d.2.2.1 d.2.2.2) ⟨(.cons Q9f .nil),XsOk.nil,ItsOk.nil,YlOk.nil,IysOk.nil,XfOk.nil⟩ (J4d) fun d hp=>h d.1 d.2.1 d.2.2.1 d.2.2.2 hp
theorem J46:J44:=J4c fun lc lo hi lg _=>by unfold Q73;(try delta lI gD sT I64);have e:∀ n a b:Int,(decide (n<a)||decide (b<n))=!inI n a b:=fun n a b=>(nI n a b).symm;simp only[List.any_cons,List.any_nil,Bool.or_false,e,Bool.not_not,List.length_cons,List.length_nil,Bool.not_or];refine⟨by omega,fun _=>trivial,fun _=>by omega,fun _=>trivial,fun _=>by omega,?_⟩;and_intros<;>first|rfl|trivial
def Z2s:AL (Int×Int×Int×Int):=(.one (.agg (.cons (.k (.i .i64)) (.cons (.k (.i .i64)) (.cons (.k (.i .i64)) (.one (.k (.i .i64))))))))
def Z8j (d:Int×Int×Int×Int):Prop:=True
def Z1l (d:Int×Int×Int×Int):SV:=.val .bo (!lotOk (d.1,(d.2.1,d.2.2.1),d.2.2.2))
def Z1b (d:Int×Int×Int×Int):List OB:=[]
def Q97:CSp:=mkSp Z2s Z8j Z1l Z1b
def Q4z (lc:Int) (lo:Int) (hi:Int) (lg:Int):Prop :=
 (True)∧((!(lotOk (lc,(lo,hi),lg)))=(!lotOk (lc,(lo,hi),lg))∧(True))
def Z2z:Cx:=⟨[],[(92,Z1s)],6,[],0,[],[],[],[],false,[],[],[],[]⟩
def Z9u (lc:Int) (lo:Int) (hi:Int) (lg:Int):List (Nat×LoopAnn):=[]
set_option maxRecDepth 100000 in
theorem Z9t (d:Int×Int×Int×Int):gwp (Z2z) (Z9u d.1 d.2.1 d.2.2.1 d.2.2.2) c91 0 (gend [.tmp 2] (Z1l d) (Z1b d)) (gstart 6 (AL.can Z2s d))=Q4z d.1 d.2.1 d.2.2.1 d.2.2.2:=by kernel_rfl
abbrev J0e:Prop:=OkC Tryz.prog 91 Q97
theorem Z9z (h:∀ (lc:Int) (lo:Int) (hi:Int) (lg:Int),(True)→Q4z lc lo hi lg):OkC Tryz.prog 91 Q97 :=
 Q13 fun91 mixed (C:=Z2z) (V:=fun (d:Int×Int×Int×Int)=>Q4z d.1 d.2.1 d.2.2.1 d.2.2.2) ⟨(.cons J46 .nil),XsOk.nil,ItsOk.nil,YlOk.nil,IysOk.nil,XfOk.nil⟩ (Z9t) fun d hp=>h d.1 d.2.1 d.2.2.1 d.2.2.2 hp
theorem Z9v:J0e:=Z9z fun lc lo hi lg _=>by unfold Q4z;(try delta lI gD sT I64);and_intros<;>first|rfl|trivial
def Q0v:AL ((List (Int×(Int×Int)×Int))×((Int×(Int×Int)×Int→Prop)×(Int×(Int×Int)×Int→Bool))):=(.cons (.k (.list (.pair (.i .i64) (.pair (.pair (.i .i64) (.i .i64)) (.i .i64))))) (.one (.fn [(.pair (.i .i64) (.pair (.pair (.i .i64) (.i .i64)) (.i .i64)))] .bo)))
def Q2q (d:(List (Int×(Int×Int)×Int))×((Int×(Int×Int)×Int→Prop)×(Int×(Int×Int)×Int→Bool))):Prop:=d.1.length≤1000000∧∀ x∈d.1,d.2.1 x
def Q0r (d:(List (Int×(Int×Int)×Int))×((Int×(Int×Int)×Int→Prop)×(Int×(Int×Int)×Int→Bool))):SV:=.val (.i .i64) (idxG d.1 d.2.2)
def Q0q (d:(List (Int×(Int×Int)×Int))×((Int×(Int×Int)×Int→Prop)×(Int×(Int×Int)×Int→Bool))):List OB:=[]
def Q0f:CSp:=mkSp Q0v Q2q Q0r Q0q
def Q07 (l:List (Int×(Int×Int)×Int)) (p:(Int×(Int×Int)×Int→Prop)×(Int×(Int×Int)×Int→Bool)):Prop :=
 ∃ (e2:Unit) (d20:Int),((l=l∧(SV.pf [(.pair (.i .i64) (.pair (.pair (.i .i64) (.i .i64)) (.i .i64)))] .bo p.1 p.2=SV.pf [(.pair (.i .i64) (.pair (.pair (.i .i64) (.i .i64)) (.i .i64)))] .bo p.1 p.2)∧(lI l)=(lI l)∧(0:Int)=d20∧True)∧(True)) ∧
 LoopP (fun (d2:Int) (q2:(Int)→Prop) =>
  ((decide (d2<(lI l)))=true →
   (0≤d2)∧(d2<(List.length l))∧(p.1 ((gD l d2 (0,((0,0),0))).1,(((gD l d2 (0,((0,0),0))).2.1.1,(gD l d2 (0,((0,0),0))).2.1.2),(gD l d2 (0,((0,0),0))).2.2)))∧((p.2 ((gD l d2 (0,((0,0),0))).1,(((gD l d2 (0,((0,0),0))).2.1.1,(gD l d2 (0,((0,0),0))).2.1.2),(gD l d2 (0,((0,0),0))).2.2)))=true →
    (d2=(idxG l p.2)∧(True))) ∧
   ((p.2 ((gD l d2 (0,((0,0),0))).1,(((gD l d2 (0,((0,0),0))).2.1.1,(gD l d2 (0,((0,0),0))).2.1.2),(gD l d2 (0,((0,0),0))).2.2)))=false →
    (I64 (d2+(1:Int)))∧(∃ d3:Int,((l=l∧(SV.pf [(.pair (.i .i64) (.pair (.pair (.i .i64) (.i .i64)) (.i .i64)))] .bo p.1 p.2=SV.pf [(.pair (.i .i64) (.pair (.pair (.i .i64) (.i .i64)) (.i .i64)))] .bo p.1 p.2)∧(lI l)=(lI l)∧(d2+(1:Int))=d3∧True)∧(True))∧q2 d3))) ∧
  ((decide (d2<(lI l)))=false →
   ((-1:Int)=(idxG l p.2)∧(True)))) d20
def Q0t:Cx:=⟨[],[],19,[],0,[],[],[],[],false,[],[],[],[]⟩
def Q2u (l:List (Int×(Int×Int)×Int)) (p:(Int×(Int×Int)×Int→Prop)×(Int×(Int×Int)×Int→Bool)):List (Nat×LoopAnn):=[(0,⟨Unit,Int,[0,1,7,8],fun e x=>[.val (.list (.pair (.i .i64) (.pair (.pair (.i .i64) (.i .i64)) (.i .i64)))) l,.pf [(.pair (.i .i64) (.pair (.pair (.i .i64) (.i .i64)) (.i .i64)))] .bo p.1 p.2,.val (.i .i64) (((List.length l):Nat):Int),.val (.i .i64) x],fun e x=>[]⟩)]
set_option maxRecDepth 100000 in
theorem Q2y (d:(List (Int×(Int×Int)×Int))×((Int×(Int×Int)×Int→Prop)×(Int×(Int×Int)×Int→Bool))):gwp (Q0t) (Q2u d.1 d.2) c104 0 (gend [.tmp 4] (Q0r d) (Q0q d)) (gstart 19 (AL.can Q0v d))=Q07 d.1 d.2:=by kernel_rfl
abbrev Q2x:Prop:=OkC Tryz.prog 104 Q0f
theorem Q2w (h:∀ (l:List (Int×(Int×Int)×Int)) (p:(Int×(Int×Int)×Int→Prop)×(Int×(Int×Int)×Int→Bool)),(l.length≤1000000∧∀ x∈l,p.1 x)→Q07 l p):OkC Tryz.prog 104 Q0f :=
 Q13 fun104 mixed (C:=Q0t) (V:=fun (d:(List (Int×(Int×Int)×Int))×((Int×(Int×Int)×Int→Prop)×(Int×(Int×Int)×Int→Bool)))=>Q07 d.1 d.2) ⟨.nil,XsOk.nil,ItsOk.nil,YlOk.nil,IysOk.nil,XfOk.nil⟩ (Q2y) fun d hp=>h d.1 d.2 hp
theorem Q2t:Q2x:=Q2w fun l p hp=>by
 unfold Q07;(try delta lI gD sT I64);simp only[true_and,and_true,exists_eq_left',exists_const,decide_eq_true_eq,decide_eq_false_iff_not];refine LoopP.count l.length (fun k=>(l.take k).any p.2=false) (by simp) fun k hk1 hJ q hq=>?_;simp only[Int.toNat_natCast,Int.ofNat_lt,Q0b];refine⟨fun hlt=>?_,fun hge=>?_⟩
 ·have hlt:k<l.length:=by omega
  rw[Q02 hlt];refine⟨by omega,by omega,hp.2 _ (List.getElem_mem hlt),fun hx=>?_,fun hx=>⟨by omega,hq hlt ?_⟩⟩
  ·rw[X6b hlt hx hJ]
  ·rw[Q41 hlt,List.any_append,hJ];simp[hx]
 ·rw[List.take_of_length_le (by omega)] at hJ;rw[J8n hJ]
def Q0n:AL ((List (Int×(Int×Int)×Int))×((Int×(Int×Int)×Int→Prop)×(Int×(Int×Int)×Int→Bool))):=(.cons (.k (.list (.pair (.i .i64) (.pair (.pair (.i .i64) (.i .i64)) (.i .i64))))) (.one (.fn [(.pair (.i .i64) (.pair (.pair (.i .i64) (.i .i64)) (.i .i64)))] .bo)))
def Q28 (d:(List (Int×(Int×Int)×Int))×((Int×(Int×Int)×Int→Prop)×(Int×(Int×Int)×Int→Bool))):Prop:=d.1.length≤1000000∧∀ x∈d.1,d.2.1 x
def Q0l (d:(List (Int×(Int×Int)×Int))×((Int×(Int×Int)×Int→Prop)×(Int×(Int×Int)×Int→Bool))):SV:=.val .bo (d.1.any d.2.2)
def Q0k (d:(List (Int×(Int×Int)×Int))×((Int×(Int×Int)×Int→Prop)×(Int×(Int×Int)×Int→Bool))):List OB:=[]
def Q06:CSp:=mkSp Q0n Q28 Q0l Q0k
def Q05 (l:List (Int×(Int×Int)×Int)) (p:(Int×(Int×Int)×Int→Prop)×(Int×(Int×Int)×Int→Bool)):Prop :=
 (l.length≤1000000∧∀ x∈l,(fun (x1:Int×(Int×Int)×Int)=>p.1 (x1.1,((x1.2.1.1,x1.2.1.2),x1.2.2))) x)∧((decide ((idxG l (fun (x1:Int×(Int×Int)×Int)=>(p.2 (x1.1,((x1.2.1.1,x1.2.1.2),x1.2.2)))))≥(0:Int)))=(l.any p.2)∧(True))
def Q0m:Cx:=⟨[],[(104,Q0f)],9,[],0,[],[],[],[],false,[],[],[],[]⟩
def Q2f (l:List (Int×(Int×Int)×Int)) (p:(Int×(Int×Int)×Int→Prop)×(Int×(Int×Int)×Int→Bool)):List (Nat×LoopAnn):=[]
set_option maxRecDepth 100000 in
theorem Q2d (d:(List (Int×(Int×Int)×Int))×((Int×(Int×Int)×Int→Prop)×(Int×(Int×Int)×Int→Bool))):gwp (Q0m) (Q2f d.1 d.2) c90 0 (gend [.tmp 4] (Q0l d) (Q0k d)) (gstart 9 (AL.can Q0n d))=Q05 d.1 d.2:=by kernel_rfl
abbrev Q2g:Prop:=OkC Tryz.prog 90 Q06
theorem Q2e (h:∀ (l:List (Int×(Int×Int)×Int)) (p:(Int×(Int×Int)×Int→Prop)×(Int×(Int×Int)×Int→Bool)),(l.length≤1000000∧∀ x∈l,p.1 x)→Q05 l p):OkC Tryz.prog 90 Q06 :=
 Q13 fun90 mixed (C:=Q0m) (V:=fun (d:(List (Int×(Int×Int)×Int))×((Int×(Int×Int)×Int→Prop)×(Int×(Int×Int)×Int→Bool)))=>Q05 d.1 d.2) ⟨(.cons Q2t .nil),XsOk.nil,ItsOk.nil,YlOk.nil,IysOk.nil,XfOk.nil⟩ (Q2d) fun d hp=>h d.1 d.2 hp
theorem Q0p:Q2g:=Q2e fun l p hp=>by simp only[Q05];exact⟨hp,X7f l p.2,trivial⟩
def Z5s:AL (List (Int×(Int×Int)×Int)):=(.one (.k (.list (.pair (.i .i64) (.pair (.pair (.i .i64) (.i .i64)) (.i .i64))))))
def J3i (d:List (Int×(Int×Int)×Int)):Prop:=d.length≤1000
def Z46 (d:List (Int×(Int×Int)×Int)):SV:=.val (.i .i64) (lotsErr d)
def Z40 (d:List (Int×(Int×Int)×Int)):List OB:=[]
def Q8v:CSp:=mkSp Z5s J3i Z46 Z40
def Q71 (l:List (Int×(Int×Int)×Int)):Prop :=
 ((decide ((lI l) > (12:Int)))=true →
  ((5:Int)=(lotsErr l)∧(True))) ∧
 ((decide ((lI l) > (12:Int)))=false →
  (l.length≤1000000∧∀ x∈l,(fun (x1:Int×(Int×Int)×Int)=>True) x)∧((l.any (fun (x1:Int×(Int×Int)×Int)=>(!lotOk (x1.1,(x1.2.1.1,x1.2.1.2),x1.2.2))))=true →
   ((2:Int)=(lotsErr l)∧(True))) ∧
  ((l.any (fun (x1:Int×(Int×Int)×Int)=>(!lotOk (x1.1,(x1.2.1.1,x1.2.1.2),x1.2.2))))=false →
   ((0:Int)=(lotsErr l)∧(True))))
def Z5i:Cx:=⟨[],[(90,Q06),(91,Q97)],10,[],0,[],[],[],[],false,[],[],[],[]⟩
def J4y (l:List (Int×(Int×Int)×Int)):List (Nat×LoopAnn):=[]
set_option maxRecDepth 100000 in
theorem J4q (d:List (Int×(Int×Int)×Int)):gwp (Z5i) (J4y d) c69 0 (gend [.tmp 2] (Z46 d) (Z40 d)) (gstart 10 (AL.can Z5s d))=Q71 d:=by kernel_rfl
abbrev J4f:Prop:=OkC Tryz.prog 69 Q8v
theorem J4k (h:∀ (l:List (Int×(Int×Int)×Int)),(l.length≤1000)→Q71 l):OkC Tryz.prog 69 Q8v :=
 Q13 fun69 mixed (C:=Z5i) (V:=fun (d:List (Int×(Int×Int)×Int))=>Q71 d) ⟨(.cons Q0p (.cons Z9v .nil)),XsOk.nil,ItsOk.nil,YlOk.nil,IysOk.nil,XfOk.nil⟩ (J4q) fun d hp=>h d hp
theorem Z5y:J4f:=J4k fun l hl=>by
 unfold Q71;(try delta lI gD sT I64)
 (try simp only[decide_eq_true_eq,decide_eq_false_iff_not])
 refine⟨fun h1=>⟨?_,trivial⟩,fun h1=>⟨⟨by omega,fun _ _=>trivial⟩,fun h2=>⟨?_,trivial⟩,fun h2=>⟨?_,trivial⟩⟩⟩
 ·unfold lotsErr;rw[if_pos (by omega)]
 ·unfold lotsErr;rw[if_neg (by omega),if_pos h2]
 ·unfold lotsErr;rw[if_neg (by omega),if_neg (by rw[show (l.any fun x=>!lotOk x)=false from h2];decide)]
def Z9g:AL (List (Int×(Int×Int)×Int)):=(.one (.k (.list (.pair (.i .i64) (.pair (.pair (.i .i64) (.i .i64)) (.i .i64))))))
def J80 (d:List (Int×(Int×Int)×Int)):Prop:=d.length≤1000
def Z82 (d:List (Int×(Int×Int)×Int)):SV:=.lst 0
def Z7k (d:List (Int×(Int×Int)×Int)):List OB:=[.lst 78 (.pair (.i .i64) (.pair (.pair (.i .i64) (.i .i64)) (.i .i64))) d false]
def Z6l:CSp:=mkSp Z9g J80 Z82 Z7k
def Z0h (l:List (Int×(Int×Int)×Int)):Prop :=
 (((List.length ([]:List (Int×(Int×Int)×Int)))+(List.length l))*32≤70368744177664)∧(True∧(((([]:List (Int×(Int×Int)×Int))++l)=l∧((List.isEmpty l)&&false)=false)∧True))
def Z9o:Cx:=⟨[(78,(.pair (.i .i64) (.pair (.pair (.i .i64) (.i .i64)) (.i .i64))))],[],6,[],0,[],[],[],[],false,[],[],[],[]⟩
def X02 (l:List (Int×(Int×Int)×Int)):List (Nat×LoopAnn):=[]
set_option maxRecDepth 100000 in
theorem J9y (d:List (Int×(Int×Int)×Int)):gwp (Z9o) (X02 d) c14 0 (gend [.tmp 2] (Z82 d) (Z7k d)) (gstart 6 (AL.can Z9g d))=Z0h d:=by kernel_rfl
abbrev X05:Prop:=OkC Tryz.prog 14 Z6l
theorem J8b (h:∀ (l:List (Int×(Int×Int)×Int)),(l.length≤1000)→Z0h l):OkC Tryz.prog 14 Z6l :=
 Q13 fun14 mixed (C:=Z9o) (V:=fun (d:List (Int×(Int×Int)×Int))=>Z0h d) ⟨.nil,XsOk.nil,ItsOk.nil,YlOk.nil,IysOk.nil,XfOk.nil⟩ (J9y) fun d hp=>h d hp
theorem J9b:X05:=J8b fun l h=>by
 have h1:l.length*32≤70368744177664:=by omega
 simp[Z0h,h1]
def Z8h:AL ((List (Int×(Int×Int)×Int))×List (Int×(Int×Int)×Int)):=(.cons (.k (.list (.pair (.i .i64) (.pair (.pair (.i .i64) (.i .i64)) (.i .i64))))) (.one (.k (.list (.pair (.i .i64) (.pair (.pair (.i .i64) (.i .i64)) (.i .i64)))))))
def J48 (d:(List (Int×(Int×Int)×Int))×List (Int×(Int×Int)×Int)):Prop:=d.1.length≤1000
def Z5k (d:(List (Int×(Int×Int)×Int))×List (Int×(Int×Int)×Int)):SV:=.val .bo (d.1==d.2)
def Z63 (d:(List (Int×(Int×Int)×Int))×List (Int×(Int×Int)×Int)):List OB:=[]
def Z3m:CSp:=mkSp Z8h J48 Z5k Z63
def Q8a (a:List (Int×(Int×Int)×Int)) (b:List (Int×(Int×Int)×Int)):Prop :=
 (((lI a) != (lI b))=true →
  (false=(a==b)∧(True))) ∧
 (((lI a) != (lI b))=false →
  ∃ (e2:Unit) (d20:Int),((a=a∧b=b∧(0:Int)=d20∧True)∧(True)) ∧
  LoopP (fun (d2:Int) (q2:(Int)→Prop) =>
   ((decide (d2<(lI a)))=true →
    (0≤d2)∧(d2<(List.length a))∧(0≤d2)∧(d2<(List.length b))∧((!(((gD a d2 (0,((0,0),0))).1==(gD b d2 (0,((0,0),0))).1)&&(((gD a d2 (0,((0,0),0))).2.1.1==(gD b d2 (0,((0,0),0))).2.1.1)&&(((gD a d2 (0,((0,0),0))).2.1.2==(gD b d2 (0,((0,0),0))).2.1.2)&&((gD a d2 (0,((0,0),0))).2.2==(gD b d2 (0,((0,0),0))).2.2)))))=true →
     (false=(a==b)∧(True))) ∧
    ((!(((gD a d2 (0,((0,0),0))).1==(gD b d2 (0,((0,0),0))).1)&&(((gD a d2 (0,((0,0),0))).2.1.1==(gD b d2 (0,((0,0),0))).2.1.1)&&(((gD a d2 (0,((0,0),0))).2.1.2==(gD b d2 (0,((0,0),0))).2.1.2)&&((gD a d2 (0,((0,0),0))).2.2==(gD b d2 (0,((0,0),0))).2.2)))))=false →
     (I64 (d2+(1:Int)))∧(∃ d3:Int,((a=a∧b=b∧(d2+(1:Int))=d3∧True)∧(True))∧q2 d3))) ∧
   ((decide (d2<(lI a)))=false →
    (true=(a==b)∧(True)))) d20)
def Z89:Cx:=⟨[],[],26,[],0,[],[],[],[],false,[],[],[],[]⟩
def J68 (a:List (Int×(Int×Int)×Int)) (b:List (Int×(Int×Int)×Int)):List (Nat×LoopAnn):=[(0,⟨Unit,Int,[0,1,5],fun e x=>[.val (.list (.pair (.i .i64) (.pair (.pair (.i .i64) (.i .i64)) (.i .i64)))) a,.val (.list (.pair (.i .i64) (.pair (.pair (.i .i64) (.i .i64)) (.i .i64)))) b,.val (.i .i64) x],fun e x=>[]⟩)]
set_option maxRecDepth 100000 in
theorem J6i (d:(List (Int×(Int×Int)×Int))×List (Int×(Int×Int)×Int)):gwp (Z89) (J68 d.1 d.2) c17 0 (gend [.tmp 4] (Z5k d) (Z63 d)) (gstart 26 (AL.can Z8h d))=Q8a d.1 d.2:=by kernel_rfl
abbrev J6v:Prop:=OkC Tryz.prog 17 Z3m
theorem J7l (h:∀ (a:List (Int×(Int×Int)×Int)) (b:List (Int×(Int×Int)×Int)),(a.length≤1000)→Q8a a b):OkC Tryz.prog 17 Z3m :=
 Q13 fun17 mixed (C:=Z89) (V:=fun (d:(List (Int×(Int×Int)×Int))×List (Int×(Int×Int)×Int))=>Q8a d.1 d.2) ⟨.nil,XsOk.nil,ItsOk.nil,YlOk.nil,IysOk.nil,XfOk.nil⟩ (J6i) fun d hp=>h d.1 d.2 hp
theorem J6n:J6v:=J7l fun a b h=>by
 unfold Q8a;(try delta lI gD sT I64)
 (try simp only[decide_eq_true_eq,decide_eq_false_iff_not])
 refine⟨fun hx=>?_,fun hx=>⟨(),0,(by and_intros<;>first|rfl|trivial|simp),?_⟩⟩
 ·refine⟨Eq.symm ?_,trivial⟩;rw[beq_eq_false_iff_ne];rintro rfl;simp at hx
 have hl:a.length=b.length:=by simp only[bne_eq_false_iff_eq] at hx;omega
 refine LoopP.count a.length (fun k=>∀ i,i<k→a.getD i lotD=b.getD i lotD) (fun i hi=>by omega) fun k hk hJ q hq=>?_;simp only[Int.toNat_natCast,Q0b];have hd:∀ l:List Lot,l.getD k (0,((0,0),0))=l.getD k lotD:=fun _=>rfl;refine⟨fun hlt=>⟨by omega,by omega,by omega,by omega,fun hx=>?_,fun hx=>⟨by omega,_,(by and_intros<;>first|rfl|trivial|simp),hq (by omega) fun i hi=>?_⟩⟩,fun hge=>?_⟩
 ·refine⟨Eq.symm ?_,trivial⟩;rw[beq_eq_false_iff_ne];rintro rfl;simp at hx
 ·rcases Nat.lt_succ_iff_lt_or_eq.1 hi with hi|rfl
  ·exact hJ i hi
  ·simp only[Bool.not_eq_false',Bool.and_eq_true,beq_iff_eq,hd] at hx;obtain⟨x1,x2,x3,x4⟩:=hx;exact Prod.ext x1 (Prod.ext (Prod.ext x2 x3) x4)
 ·have hk:k=a.length:=by omega
  subst hk;refine⟨Eq.symm ?_,trivial⟩;rw[beq_iff_eq];exact List.ext_getElem hl fun i h1 h2=>by
   have:=hJ i h1
   rwa [Q02 h1,Q02 h2] at this
def Z5n:AL (List (Int×(Int×Int)×Int)):=(.one (.k (.list (.pair (.i .i64) (.pair (.pair (.i .i64) (.i .i64)) (.i .i64))))))
def J21 (d:List (Int×(Int×Int)×Int)):Prop:=d.length≤9223372036854775807
def Z4g (d:List (Int×(Int×Int)×Int)):SV:=.val (.i .i64) (lotsErr d)
def Z4m (d:List (Int×(Int×Int)×Int)):List OB:=[]
def Z1u:CSp:=mkSp Z5n J21 Z4g Z4m
def Q74 (l:List (Int×(Int×Int)×Int)):Prop :=
 ((decide ((lI l) > (12:Int)))=true →
  ((5:Int)=(lotsErr l)∧(True))) ∧
 ((decide ((lI l) > (12:Int)))=false →
  ∃ (e2:Unit) (d20:Int),((l=l∧(0:Int)=d20∧True)∧(True)) ∧
  LoopP (fun (d2:Int) (q2:(Int)→Prop) =>
   ((decide (d2<(lI l)))=true →
    (0≤d2)∧(d2<(List.length l))∧(True)∧((!(inI ((gD l d2 (0,((0,0),0))).1) (0:Int) (9:Int)))=false→True)∧((((!(inI ((gD l d2 (0,((0,0),0))).1) (0:Int) (9:Int)))||(!(inI ((gD l d2 (0,((0,0),0))).2.1.1) (0:Int) ((gD l d2 (0,((0,0),0))).2.1.2))))||(decide ((gD l d2 (0,((0,0),0))).2.1.2 > (1000:Int))))=false→True)∧(((((!(inI ((gD l d2 (0,((0,0),0))).1) (0:Int) (9:Int)))||(!(inI ((gD l d2 (0,((0,0),0))).2.1.1) (0:Int) ((gD l d2 (0,((0,0),0))).2.1.2))))||(decide ((gD l d2 (0,((0,0),0))).2.1.2 > (1000:Int))))||(!(inI ((gD l d2 (0,((0,0),0))).2.2) (1:Int) (1000000:Int))))=true →
     ((2:Int)=(lotsErr l)∧(True))) ∧
    (((((!(inI ((gD l d2 (0,((0,0),0))).1) (0:Int) (9:Int)))||(!(inI ((gD l d2 (0,((0,0),0))).2.1.1) (0:Int) ((gD l d2 (0,((0,0),0))).2.1.2))))||(decide ((gD l d2 (0,((0,0),0))).2.1.2 > (1000:Int))))||(!(inI ((gD l d2 (0,((0,0),0))).2.2) (1:Int) (1000000:Int))))=false →
     (I64 (d2+(1:Int)))∧(∃ d3:Int,((l=l∧(d2+(1:Int))=d3∧True)∧(True))∧q2 d3))) ∧
   ((decide (d2<(lI l)))=false →
    ((0:Int)=(lotsErr l)∧(True)))) d20)
def Z6a:Cx:=⟨[],[(20,Z1o)],44,[],0,[],[],[],[],false,[],[],[],[]⟩
def J3r (l:List (Int×(Int×Int)×Int)):List (Nat×LoopAnn):=[(0,⟨Unit,Int,[0,3],fun e x=>[.val (.list (.pair (.i .i64) (.pair (.pair (.i .i64) (.i .i64)) (.i .i64)))) l,.val (.i .i64) x],fun e x=>[]⟩)]
set_option maxRecDepth 100000 in
theorem J45 (d:List (Int×(Int×Int)×Int)):gwp (Z6a) (J3r d) c43 0 (gend [.tmp 2] (Z4g d) (Z4m d)) (gstart 44 (AL.can Z5n d))=Q74 d:=by kernel_rfl
abbrev J4i:Prop:=OkC Tryz.prog 43 Z1u
theorem J4j (h:∀ (l:List (Int×(Int×Int)×Int)),(l.length≤9223372036854775807)→Q74 l):OkC Tryz.prog 43 Z1u :=
 Q13 fun43 mixed (C:=Z6a) (V:=fun (d:List (Int×(Int×Int)×Int))=>Q74 d) ⟨(.cons Z6j .nil),XsOk.nil,ItsOk.nil,YlOk.nil,IysOk.nil,XfOk.nil⟩ (J45) fun d hp=>h d hp
theorem refLot (x:Lot):(!inI x.1 0 9||!inI x.2.1.1 0 x.2.1.2||decide (x.2.1.2 > 1000)||!inI x.2.2 1 1000000)=!lotOk x:=by rw[Bool.eq_iff_iff];simp only[Bool.or_eq_true,Bool.not_eq_true',Bool.eq_false_iff,ne_eq,J2w,inI,Bool.and_eq_true,decide_eq_true_eq];omega
theorem J4w:J4i:=J4j fun l hl=>by
 unfold Q74;(try delta lI gD sT I64);simp only[refLot]
 (try simp only[decide_eq_true_eq,decide_eq_false_iff_not])
 refine⟨fun h1=>⟨?_,trivial⟩,fun h1=>⟨(),0,(by and_intros<;>first|rfl|trivial|simp),?_⟩⟩
 ·unfold lotsErr;rw[if_pos (by omega)]
 refine LoopP.count l.length (fun k=>∀ j,j<k→lotOk (l.getD j lotD)=true) (fun j hj=>by omega) fun k hk hJ q hq=>?_;simp only[Int.toNat_natCast,Q0b];have hd:∀ l:List Lot,l.getD k (0,((0,0),0))=l.getD k lotD:=fun _=>rfl;simp only[hd];refine⟨fun hlt=>⟨by omega,hlt,trivial,fun _=>trivial,fun _=>trivial,fun hx=>⟨?_,trivial⟩,fun hx=>⟨by omega,_,(by and_intros<;>first|rfl|trivial|simp),hq (by omega) fun j hj=>?_⟩⟩,fun hge=>⟨?_,trivial⟩⟩
 ·have hkl:k<l.length:=by omega
  rw[Q02 hkl] at hx;unfold lotsErr;rw[if_neg (by omega),if_pos (List.any_eq_true.2 ⟨_,List.getElem_mem hkl,hx⟩)]
 ·rcases Nat.lt_succ_iff_lt_or_eq.1 hj with hj|rfl
  ·exact hJ j hj
  ·simpa using hx
 ·have hf:(l.any fun x=>!lotOk x)=false:=by
   rw[List.any_eq_false];intro x hx;obtain⟨i,hi,rfl⟩:=List.getElem_of_mem hx;have:=hJ i (by omega);rw[Q02 hi] at this;rw[this];decide
  unfold lotsErr;rw[if_neg (by omega),hf,if_neg (by decide)]
def Z9d:AL ((Int×Int×Int×Int)×Int×Int×Int×Int):=(.cons (.agg (.cons (.k (.i .i64)) (.cons (.k (.i .i64)) (.cons (.k (.i .i64)) (.one (.k (.i .i64))))))) (.one (.agg (.cons (.k (.i .i64)) (.cons (.k (.i .i64)) (.cons (.k (.i .i64)) (.one (.k (.i .i64)))))))))
def J6c (d:(Int×Int×Int×Int)×Int×Int×Int×Int):Prop:=0≤d.1.2.1∧d.1.2.1≤1000∧0≤d.1.2.2.1∧d.1.2.2.1≤1000∧0≤d.2.2.1∧d.2.2.1≤1000∧0≤d.2.2.2.1∧d.2.2.2.1≤1000
def Z7l (d:(Int×Int×Int×Int)×Int×Int×Int×Int):SV:=.val (.i .i64) (farL (d.1.1,(d.1.2.1,d.1.2.2.1),d.1.2.2.2) (d.2.1,(d.2.2.1,d.2.2.2.1),d.2.2.2.2))
def Z7w (d:(Int×Int×Int×Int)×Int×Int×Int×Int):List OB:=[]
def Z6c:CSp:=mkSp Z9d J6c Z7l Z7w
def Z0e (lc:Int) (lo:Int) (hi:Int) (lg:Int) (mc:Int) (mo:Int) (mi:Int) (mg:Int):Prop :=
 (I64 (hi-mo))∧(I64 (mi-lo))∧((gmax (hi-mo) (mi-lo))=(farL (lc,(lo,hi),lg) (mc,(mo,mi),mg))∧(True))
def Z9q:Cx:=⟨[],[],20,[],0,[],[],[],[],false,[],[],[],[]⟩
def J9q (lc:Int) (lo:Int) (hi:Int) (lg:Int) (mc:Int) (mo:Int) (mi:Int) (mg:Int):List (Nat×LoopAnn):=[]
set_option maxRecDepth 100000 in
theorem J9d (d:(Int×Int×Int×Int)×Int×Int×Int×Int):gwp (Z9q) (J9q d.1.1 d.1.2.1 d.1.2.2.1 d.1.2.2.2 d.2.1 d.2.2.1 d.2.2.2.1 d.2.2.2.2) c73 0 (gend [.tmp 4] (Z7l d) (Z7w d)) (gstart 20 (AL.can Z9d d))=Z0e d.1.1 d.1.2.1 d.1.2.2.1 d.1.2.2.2 d.2.1 d.2.2.1 d.2.2.2.1 d.2.2.2.2:=by kernel_rfl
abbrev J8i:Prop:=OkC Tryz.prog 73 Z6c
theorem X07 (h:∀ (lc:Int) (lo:Int) (hi:Int) (lg:Int) (mc:Int) (mo:Int) (mi:Int) (mg:Int),(0≤lo∧lo≤1000∧0≤hi∧hi≤1000∧0≤mo∧mo≤1000∧0≤mi∧mi≤1000)→Z0e lc lo hi lg mc mo mi mg):OkC Tryz.prog 73 Z6c :=
 Q13 fun73 mixed (C:=Z9q) (V:=fun (d:(Int×Int×Int×Int)×Int×Int×Int×Int)=>Z0e d.1.1 d.1.2.1 d.1.2.2.1 d.1.2.2.2 d.2.1 d.2.2.1 d.2.2.2.1 d.2.2.2.2) ⟨.nil,XsOk.nil,ItsOk.nil,YlOk.nil,IysOk.nil,XfOk.nil⟩ (J9d) fun d hp=>h d.1.1 d.1.2.1 d.1.2.2.1 d.1.2.2.2 d.2.1 d.2.2.1 d.2.2.2.1 d.2.2.2.2 hp
theorem J85:J8i:=X07 fun lc lo hi lg mc mo mi mg h=>by obtain⟨h1,h2,h3,h4,h5,h6,h7,h8⟩:=h;unfold Z0e;(try delta lI gD sT I64);refine⟨by rw[Q0b];omega,by rw[Q0b];omega,rfl,trivial⟩
end Go.Proofs.Tryz
set_option linter.unusedVariables false
namespace Go.Proofs.Tryz
open Go Go.V Go.Proofs
def Z4k:AL (List (Int×(Int×Int)×Int)):=(.one (.k (.list (.pair (.i .i64) (.pair (.pair (.i .i64) (.i .i64)) (.i .i64))))))
def J09 (d:List (Int×(Int×Int)×Int)):Prop:=d≠[]∧d.length≤1000∧∀ x∈d,lotOk x=true
def Z2n (d:List (Int×(Int×Int)×Int)):SV:=.agg [.val (.i .i64) ((sprD d).1),.val (.i .i64) ((sprD d).2)]
def Z2v (d:List (Int×(Int×Int)×Int)):List OB:=[]
def Z0v:CSp:=mkSp Z4k J09 Z2n Z2v
def Q67 (l:List (Int×(Int×Int)×Int)):Prop :=
 (0≤(0:Int))∧((0:Int)<(List.length l))∧(0≤(0:Int))∧((0:Int)<(List.length l))∧((l=l∧True∧True∧True∧((gD l (0:Int) (0,((0,0),0))).2.1.1=(gD l (0:Int) (0,((0,0),0))).2.1.1∧(gD l (0:Int) (0,((0,0),0))).2.1.2=(gD l (0:Int) (0,((0,0),0))).2.1.2∧(([]:List SV)=[]))∧True)∧(((0:Int)=(0:Int)∧(0:Int)=(0:Int)∧(([]:List SV)=[]))∧((gD l (0:Int) (0,((0,0),0))).2.1.1=(gD l (0:Int) (0,((0,0),0))).2.1.1∧(gD l (0:Int) (0,((0,0),0))).2.1.2=(gD l (0:Int) (0,((0,0),0))).2.1.2∧(([]:List SV)=[]))∧((0:Int)=(0:Int)∧(0:Int)=(0:Int)∧(([]:List SV)=[]))∧True))∧((0≤(0:Int))∧((0:Int)<(List.length l))∧(0≤(0:Int))∧((0:Int)<(List.length l))∧((l=l∧True∧True∧True∧((gD l (0:Int) (0,((0,0),0))).2.1.1=(gD l (0:Int) (0,((0,0),0))).2.1.1∧(gD l (0:Int) (0,((0,0),0))).2.1.2=(gD l (0:Int) (0,((0,0),0))).2.1.2∧(([]:List SV)=[]))∧True)∧(((0:Int)=(0:Int)∧(0:Int)=(0:Int)∧(([]:List SV)=[]))∧((gD l (0:Int) (0,((0,0),0))).2.1.1=(gD l (0:Int) (0,((0,0),0))).2.1.1∧(gD l (0:Int) (0,((0,0),0))).2.1.2=(gD l (0:Int) (0,((0,0),0))).2.1.2∧(([]:List SV)=[]))∧((0:Int)=(0:Int)∧(0:Int)=(0:Int)∧(([]:List SV)=[]))∧True)))∧(0≤(1:Int))∧((1:Int)≤(lI l))∧((lI l)≤(List.length l))∧∃ (e3:Unit) (d30:Int×Int×Int×Int×Int),((True∧True∧True∧(List.take (Int.toNat ((lI l)-(1:Int))) (List.drop (Int.toNat (1:Int)) l))=(List.take (Int.toNat ((lI l)-(1:Int))) (List.drop (Int.toNat (1:Int)) l))∧(lI (List.take (Int.toNat ((lI l)-(1:Int))) (List.drop (Int.toNat (1:Int)) l)))=(lI (List.take (Int.toNat ((lI l)-(1:Int))) (List.drop (Int.toNat (1:Int)) l)))∧(0:Int)=d30.2.2.2.2∧True)∧(((0:Int)=(0:Int)∧(0:Int)=(0:Int)∧(([]:List SV)=[]))∧((gD l (0:Int) (0,((0,0),0))).2.1.1=d30.1∧(gD l (0:Int) (0,((0,0),0))).2.1.2=d30.2.1∧(([]:List SV)=[]))∧((gD l (0:Int) (0,((0,0),0))).2.1.1=d30.2.2.1∧(gD l (0:Int) (0,((0,0),0))).2.1.2=d30.2.2.2.1∧(([]:List SV)=[]))∧True)) ∧
 LoopP (fun (d3:Int×Int×Int×Int×Int) (q3:(Int×Int×Int×Int×Int)→Prop) =>
  ((decide (d3.2.2.2.2<(lI (List.take (Int.toNat ((lI l)-(1:Int))) (List.drop (Int.toNat (1:Int)) l)))))=true →
   (0≤d3.2.2.2.2)∧(d3.2.2.2.2<(List.length (List.take (Int.toNat ((lI l)-(1:Int))) (List.drop (Int.toNat (1:Int)) l))))∧(I64 (d3.2.2.2.2+(1:Int)))∧(∃ d4:Int×Int×Int×Int×Int,((True∧True∧True∧(List.take (Int.toNat ((lI l)-(1:Int))) (List.drop (Int.toNat (1:Int)) l))=(List.take (Int.toNat ((lI l)-(1:Int))) (List.drop (Int.toNat (1:Int)) l))∧(lI (List.take (Int.toNat ((lI l)-(1:Int))) (List.drop (Int.toNat (1:Int)) l)))=(lI (List.take (Int.toNat ((lI l)-(1:Int))) (List.drop (Int.toNat (1:Int)) l)))∧(d3.2.2.2.2+(1:Int))=d4.2.2.2.2∧True)∧(((0:Int)=(0:Int)∧(0:Int)=(0:Int)∧(([]:List SV)=[]))∧((gmax d3.1 (gD (List.take (Int.toNat ((lI l)-(1:Int))) (List.drop (Int.toNat (1:Int)) l)) d3.2.2.2.2 (0,((0,0),0))).2.1.1)=d4.1∧(gmin d3.2.1 (gD (List.take (Int.toNat ((lI l)-(1:Int))) (List.drop (Int.toNat (1:Int)) l)) d3.2.2.2.2 (0,((0,0),0))).2.1.2)=d4.2.1∧(([]:List SV)=[]))∧((gmin d3.2.2.1 (gD (List.take (Int.toNat ((lI l)-(1:Int))) (List.drop (Int.toNat (1:Int)) l)) d3.2.2.2.2 (0,((0,0),0))).2.1.1)=d4.2.2.1∧(gmax d3.2.2.2.1 (gD (List.take (Int.toNat ((lI l)-(1:Int))) (List.drop (Int.toNat (1:Int)) l)) d3.2.2.2.2 (0,((0,0),0))).2.1.2)=d4.2.2.2.1∧(([]:List SV)=[]))∧True))∧q3 d4)) ∧
  ((decide (d3.2.2.2.2<(lI (List.take (Int.toNat ((lI l)-(1:Int))) (List.drop (Int.toNat (1:Int)) l)))))=false →
   (I64 (d3.1-d3.2.1))∧(I64 (d3.2.2.2.1-d3.2.2.1))∧(((gmax (0:Int) (d3.1-d3.2.1))=((sprD l).1)∧(d3.2.2.2.1-d3.2.2.1)=((sprD l).2)∧(([]:List SV)=[]))∧(True)))) d30
def Z4f:Cx:=⟨[],[],61,[],0,[],[],[],[0,2,3,4,14],false,[],[],[],[]⟩
def J36 (l:List (Int×(Int×Int)×Int)):List (Nat×LoopAnn):=[(0,⟨Unit,Int×Int×Int×Int×Int,[2,3,4,16,17,18],fun e x=>[.box 2 0,.box 3 0,.box 4 0,.val (.list (.pair (.i .i64) (.pair (.pair (.i .i64) (.i .i64)) (.i .i64)))) (List.take (Int.toNat ((((List.length l):Nat):Int)-(1:Int))) (List.drop (Int.toNat (1:Int)) l)),.val (.i .i64) (((List.length (List.take (Int.toNat ((((List.length l):Nat):Int)-(1:Int))) (List.drop (Int.toNat (1:Int)) l))):Nat):Int),.val (.i .i64) x.2.2.2.2],fun e x=>[(2,.slot 2,.cells [.val (.i .i64) (0:Int),.val (.i .i64) (0:Int)] (some 59)),(3,.slot 3,.cells [.val (.i .i64) x.1,.val (.i .i64) x.2.1] (some 59)),(4,.slot 4,.cells [.val (.i .i64) x.2.2.1,.val (.i .i64) x.2.2.2.1] (some 59))]⟩)]
set_option maxRecDepth 100000 in
theorem J1k (d:List (Int×(Int×Int)×Int)):gwp (Z4f) (J36 d) c70 0 (gend [.cell 2 true 2] (Z2n d) (Z2v d)) (gstart 61 (AL.can Z4k d))=Q67 d:=by kernel_rfl
abbrev J3h:Prop:=OkC Tryz.prog 70 Z0v
theorem J1p (h:∀ (l:List (Int×(Int×Int)×Int)),(l≠[]∧l.length≤1000∧∀ x∈l,lotOk x=true)→Q67 l):OkC Tryz.prog 70 Z0v :=
 Q13 fun70 mixed (C:=Z4f) (V:=fun (d:List (Int×(Int×Int)×Int))=>Q67 d) ⟨.nil,XsOk.nil,ItsOk.nil,YlOk.nil,IysOk.nil,XfOk.nil⟩ (J1k) fun d hp=>h d hp
theorem J23:J3h:=J1p fun l h=>by
 obtain⟨h1,h2,h3⟩:=h;have hp:1≤l.length:=List.length_pos_iff.2 h1;unfold Q67;(try delta lI gD sT I64);simp only[decide_eq_true_eq,decide_eq_false_iff_not];have hM:List.take ((l.length:Int)-1).toNat (List.drop (Int.toNat 1) l)=l.drop 1:=List.take_of_length_le (by rw[List.length_drop];show l.length-1≤_;omega);have hMl:(l.drop 1).length=l.length-1:=List.length_drop ..;have hMk:∀ k,k+1<l.length→(l.drop 1).getD k (0,((0,0),0))=l[k+1]?.getD lotD:=fun k hk=>by rw[Q02 (by omega),List.getElem_drop,List.getElem?_eq_getElem hk];simp only[Option.getD_some,Nat.add_comm]
 have h0:l.getD (Int.toNat 0) (0,((0,0),0))=l.getD 0 lotD:=rfl;have s1:=X22 h1;rw[hM,h0];refine⟨by omega,by omega,by omega,by omega,(by and_intros<;>first|rfl|trivial|simp),⟨by omega,by omega,by omega,by omega,(by and_intros<;>first|rfl|trivial|simp)⟩,by omega,by omega,by omega,(),((sprF l 1).1,(sprF l 1).2.1,(sprF l 1).2.2.1,(sprF l 1).2.2.2,0),by rw[s1];exact(by and_intros<;>first|rfl|trivial|simp),?_⟩;refine⟨fun d=>∃ k:Nat,k+1≤l.length∧d=((sprF l (k+1)).1,(sprF l (k+1)).2.1,(sprF l (k+1)).2.2.1,(sprF l (k+1)).2.2.2,(k:Int)),fun d=>l.length-d.2.2.2.2.toNat,⟨0,hp,rfl⟩,?_⟩;rintro _ ⟨k,hk,rfl⟩;dsimp only;simp only[Int.toNat_natCast,hMl];refine⟨fun hlt=>?_,fun hge=>?_⟩
 ·have hk1:k+1<l.length:=by omega
  rw[hMk k hk1,List.getElem?_eq_getElem hk1,Option.getD_some];have hs:=J8u hk1;refine⟨by omega,by omega,by rw[Q0b];omega,((sprF l (k+1+1)).1,(sprF l (k+1+1)).2.1,(sprF l (k+1+1)).2.2.1,(sprF l (k+1+1)).2.2.2,(k:Int)+1),by rw[hs];exact(by and_intros<;>first|rfl|trivial|simp),⟨k+1,by omega,by simp⟩,?_⟩;dsimp only;omega
 ·have hkl:k+1=l.length:=by omega
  obtain⟨a,⟨i1,b1,c1⟩,⟨i2,b2,c2⟩,⟨i3,b3,c3⟩,⟨i4,b4,c4⟩⟩:=J2q h1 l.length hp (Nat.le_refl _);have hv:∀ i,i<l.length→0≤(l.getD i lotD).2.1.1∧(l.getD i lotD).2.1.1≤1000∧0≤(l.getD i lotD).2.1.2∧(l.getD i lotD).2.1.2≤1000:=fun i hi=>by have:=J2w.1 (h3 _ (List.getElem_mem hi));rw[Q02 hi];omega
  have v1:=hv i1 b1;have v2:=hv i2 b2;have v3:=hv i3 b3;have v4:=hv i4 b4;rw[hkl];unfold sprD;refine⟨by rw[Q0b];omega,by rw[Q0b];omega,?_⟩;and_intros<;>first|rfl|trivial
end Go.Proofs.Tryz
set_option linter.unusedVariables false
namespace Go.Proofs.Tryz
open Go Go.V Go.Proofs
theorem Z12 {l:List Lot}(h:lotsErr l=0):l.length≤12∧∀ x∈l,lotOk x=true:=by
 unfold lotsErr at h;split at h
 ·cases h
 ·split at h
  ·cases h
  ·rename_i h1 h2;refine⟨by omega,fun x hx=>?_⟩;have:=List.any_eq_false.1 (Bool.eq_false_iff.2 h2) x hx;simpa using this
theorem X2n {l:List Lot}{sm:List Int}{k:Nat}(h:k<sm.length):pickL l (sm.take (k+1))=pickL l (sm.take k)++[l.getD (sm.getD k 0).toNat lotD]:=by unfold pickL;rw[Q41 h,List.map_append,Q02 h];rfl
theorem X7o {l:List Lot}{sm:List Int}(h:∀ x∈l,lotOk x=true) (hs:∀ i∈sm,0≤i∧i<l.length):∀ x∈pickL l sm,lotOk x=true:=fun x hx=>by simp only[pickL,List.mem_map] at hx;obtain⟨i,hi,rfl⟩:=hx;have:=hs i hi;rw[Q02 (show i.toNat<l.length by omega)];exact h _ (List.getElem_mem _)
end Go.Proofs.Tryz
set_option linter.unusedVariables false
namespace Go.Proofs.Tryz
open Go Go.V Go.Proofs
def tzK:Nat→Nat→Nat
 |0,_=>0
 |f+1,n=>if n % 2=1 then 0 else 1+tzK f (n / 2)
def tzN (n:Nat):Nat:=if n=0 then 64 else tzK 64 n
theorem X1y:∀ f n,0<n→n<2 ^ f→tzK f n<f∧∃ m,n=2 ^ tzK f n*(2*m+1)
 |0,n,h0,h1=>by simp at h1;omega
 |f+1,n,h0,h1=>by
  unfold tzK;split
  ·rename_i h;exact⟨by omega,n / 2,by omega⟩
  ·rename_i h;have hp:2 ^ (f+1)=2*2 ^ f:=by rw[Nat.pow_succ];omega
   obtain⟨h2,m,h3⟩:=X1y f (n / 2) (by omega) (by omega);refine⟨by omega,m,?_⟩;rw[Nat.add_comm,Nat.pow_succ,Nat.mul_comm (2 ^ _) 2,Nat.mul_assoc,←h3];omega
theorem Z54 {n:Nat}(h0:0<n) (h1:n<2 ^ 64):tzN n<64∧∃ m,n=2 ^ tzN n*(2*m+1):=by unfold tzN;rw[if_neg (by omega)];exact X1y 64 n h0 h1
theorem J9f {t m:Nat}(i:Nat):(2 ^ t*(2*m+1)-1).testBit i=if i<t then true else if i=t then false else (2 ^ t*(2*m+1)).testBit i:=by
 have hp:0<2 ^ t:=Nat.two_pow_pos t;have e:2 ^ t*(2*m+1)-1=2 ^ t*(2*m)+(2 ^ t-1):=by rw[Nat.mul_add,Nat.mul_one];omega
 rw[e,Nat.testBit_two_pow_mul_add _ (by omega)];split
 ·rename_i h;rw[Nat.testBit_two_pow_sub_one];simpa using h
 ·rename_i h;split
  ·rename_i h2;subst h2;simp
  ·rename_i h2;rw[Nat.testBit_two_pow_mul];obtain⟨k,hk⟩:∃ k,i-t=k+1:=⟨i-t-1,by omega⟩;have hd:decide (i≥t)=true:=decide_eq_true (by omega);rw[hd,hk,Nat.testBit_succ,Nat.testBit_succ,Bool.true_and];congr 1;omega
theorem X96 {n:Nat}(h0:0<n) (h1:n<2 ^ 64):n &&& (2 ^ 64-n)=2 ^ tzN n:=by
 obtain⟨ht,m,hm⟩:=Z54 h0 h1;generalize tzN n=t at *
 refine Nat.eq_of_testBit_eq fun i=>?_;have e:2 ^ 64-n=2 ^ 64-((n-1)+1):=by omega
 rw[Nat.testBit_and,e,Nat.testBit_two_pow_sub_succ (by omega),Nat.testBit_two_pow,hm,J9f];by_cases h2:i<t
 ·rw[if_pos h2,Nat.testBit_two_pow_mul,decide_eq_false (show ¬ i≥t by omega),decide_eq_false (show ¬ t=i by omega)];rfl
 ·rw[if_neg h2];by_cases h3:i=t
  ·subst h3;rw[if_pos rfl,Nat.testBit_two_pow_mul];simp;omega
  ·rw[if_neg h3,decide_eq_false (show ¬ t=i by omega)];cases (2 ^ t*(2*m+1)).testBit i<;>simp
theorem Z71 {n:Nat}(h0:0<n) (h1:n<2 ^ 64) (i:Nat):(n &&& (n-1)).testBit i=(n.testBit i&&!decide (i=tzN n)):=by
 obtain⟨ht,m,hm⟩:=Z54 h0 h1;generalize tzN n=t at *
 rw[Nat.testBit_and,hm,J9f];by_cases h2:i<t
 ·rw[if_pos h2,decide_eq_false (by omega)];simp
 ·rw[if_neg h2];by_cases h3:i=t
  ·rw[if_pos h3,decide_eq_true h3];simp
  ·rw[if_neg h3,decide_eq_false h3];simp
def setK:Nat→Nat→List Int
 |0,_=>[]
 |f+1,n=>if n=0 then [] else (tzN n:Int)::setK f (n &&& (n-1))
def setL (n:Nat):List Int:=setK n n
theorem J8f:∀ f g n,n≤f→n≤g→setK f n=setK g n
 |0,g,n,h1,_=>by
  have:n=0:=by omega
  subst this;cases g<;>simp[setK]
 |f+1,0,n,_,h2=>by
  have:n=0:=by omega
  subst this;simp[setK]
 |f+1,g+1,n,h1,h2=>by
  unfold setK;by_cases h:n=0
  ·rw[if_pos h,if_pos h]
  ·rw[if_neg h,if_neg h];have:=Nat.and_le_right (n:=n) (m:=n-1);rw[J8f f g _ (by omega) (by omega)]
theorem J8e {n:Nat}(h:0<n):setL n=(tzN n:Int)::setL (n &&& (n-1)):=by
 have:=Nat.and_le_right (n:=n) (m:=n-1);unfold setL;obtain⟨f,rfl⟩:∃ f,n=f+1:=⟨n-1,by omega⟩;conv=>lhs;unfold setK
 rw[if_neg (by omega),J8f f _ _ (by omega) (Nat.le_refl _)]
theorem X4n:setL 0=[]:=rfl
theorem W05:∀ t:Nat,t<64→Go.V.t64[(2 ^ t*285870213051353865 % 18446744073709551616) / 288230376151711744]?=some (t:Int):=by decide +kernel
end Go.Proofs.Tryz
set_option linter.unusedVariables false
namespace Go.Proofs.Tryz
open Go Go.V Go.Proofs
def czT:VCode :=
 .seq (.region [
  ⟨(some 2),.move (.const (.int .i64 (0))),none⟩])
 (.seq (.seq (.region [
  ⟨(some 3),.move (.tmp 0),none⟩,
  ⟨(some 4),.cmp .eql (.tmp 3) (.const (.int .u64 (0))),none⟩])
 (.cond (.tmp 4) (.seq (.region [
   ⟨(some 2),.move (.const (.int .i64 (64))),none⟩])
  (.ret))
  (.skip)))
 (.seq (.region [
  ⟨(some 5),.move (.tmp 0),none⟩,
  ⟨(some 6),.move (.tmp 0),none⟩,
  ⟨(some 7),.un .neg (.tmp 6),none⟩,
  ⟨(some 8),.bits .and (.tmp 5) (.tmp 7),none⟩,
  ⟨(some 9),.arith .mul (.tmp 8) (.const (.int .u64 (285870213051353865))),none⟩,
  ⟨(some 10),.shift .shr (.tmp 9) (.const (.int .u64 (58))),none⟩,
  ⟨(some 11),.indexAddrArr 64 1 (.global 1) (.tmp 10),none⟩,
  ⟨(some 12),.load false 1 (.tmp 11),none⟩,
  ⟨(some 13),.convI .i64 (.tmp 12),none⟩,
  ⟨(some 2),.move (.tmp 13),none⟩])
 (.ret)))
theorem vstepT {S:VSpecs}{op:VOp}{d:Option Nat}{l:List VOper}{env:Env}{σ:Heap}{K:Env→Heap→Prop}(v:Value) (h:∀ Q:Value→Heap→Prop,Q v σ→vop S op env σ Q) (hK:vops S l (putE env d v) σ K):vops S (⟨d,op,none⟩::l) env σ K:=by show vif true _ _;exact⟨fun _=>h _ hK,fun h=>by cases h⟩
theorem X9g {S:VSpecs}{op:BinOp}{x y:Operand}{env:Env}{σ:Heap}{Q:Value→Heap→Prop}{k:IntKind}{a b:Int}(hx:evalO env x=.int k a) (hy:evalO env y=.int k b) (h:Q (.bool (vcmp op a b)) σ):vop S (.cmp op x y) env σ Q:=by simp only[vop,vact,hx,hy,if_true,obind];exact h
theorem X7p {S:VSpecs}{op:BinOp}{x y:Operand}{env:Env}{σ:Heap}{Q:Value→Heap→Prop}{k:IntKind}{a b:Int}(hx:evalO env x=.int k a) (hy:evalO env y=.int k b) (h:Q (.int k (vbits op k a b)) σ):vop S (.bits op x y) env σ Q:=by simp only[vop,vact,hx,hy,if_true,obind];exact h
theorem X4s {S:VSpecs}{op:BinOp}{x y:Operand}{env:Env}{σ:Heap}{Q:Value→Heap→Prop}{k:IntKind}{a b:Int}(hx:evalO env x=.int k a) (hy:evalO env y=.int k b) (h:Q (.int k (varith op k a b)) σ):vop S (.arith op x y) env σ Q:=by simp only[vop,vact,hx,hy,if_true,obind];exact h
theorem X4j {S:VSpecs}{op:BinOp}{x y:Operand}{env:Env}{σ:Heap}{Q:Value→Heap→Prop}{k k':IntKind}{a b:Int}(hx:evalO env x=.int k a) (hy:evalO env y=.int k' b) (h0:0≤b) (h:Q (.int k (vshift op k a b)) σ):vop S (.shift op x y) env σ Q:=by simp only[vop,vact,hx,hy,h0,if_true,obind];exact h
theorem X6k {S:VSpecs}{x:Operand}{env:Env}{σ:Heap}{Q:Value→Heap→Prop}{k k':IntKind}{a:Int}(hx:evalO env x=.int k a) (h:Q (.int k' (k'.wrap a)) σ):vop S (.convI k' x) env σ Q:=by simp only[vop,vact,hx,obind];exact h
theorem X92 {S:VSpecs}{len size g o s:Nat}{x y:Operand}{env:Env}{σ:Heap}{Q:Value→Heap→Prop}{k':IntKind}{b:Int}(hx:evalO env x=.pointer (some ⟨g,o,some s⟩)) (hy:evalO env y=.int k' b) (h0:0≤b∧b<len) (h:Q (.pointer (some ⟨g,o+b.toNat*size,some s⟩)) σ):vop S (.indexAddrArr len size x y) env σ Q:=by simp only[vop,vact,hx,hy,h0,and_self,if_true,obind];exact h
theorem X71 {S:VSpecs}{size g o s:Nat}{agg:Bool}{x:Operand}{env:Env}{σ:Heap}{Q:Value→Heap→Prop}{c:List Value}{v:Value}(hx:evalO env x=.pointer (some ⟨g,o,some s⟩)) (hg:gtab g=some c) (hp:c.all plainV=true) (hv:vpart agg size c o=some v) (h:Q v σ):vop S (.load agg size x) env σ Q:=by simp only[vop,vact,hx,hg,hp,hv,if_true,obind];exact h
theorem J65 (x:Int):IntKind.wrap .u64 x=x % 18446744073709551616:=by show (if (false&&decide (x % (18446744073709551616:Int)≥9223372036854775808))=true then x % (18446744073709551616:Int)-18446744073709551616 else x % (18446744073709551616:Int))=_;simp
theorem Z79 {x:Nat}(h:x<2 ^ 64):(BitVec.ofInt 64 (x:Int)).toNat=x:=by rw[J90,BitVec.toNat_ofNat,Nat.mod_eq_of_lt h]
theorem X24 {x y:Nat}(hx:x<2 ^ 64) (hy:y<2 ^ 64):vbits .and .u64 x y=((x &&& y:Nat):Int):=by
 have e:(BitVec.ofInt 64 (x:Int) &&& BitVec.ofInt 64 (y:Int)).toNat=x &&& y:=by rw[BitVec.toNat_and,Z79 hx,Z79 hy]
 show IntKind.wrap .u64 ((BitVec.ofInt 64 (x:Int) &&& BitVec.ofInt 64 (y:Int)).toNat:Int)=_;have hl:x &&& y≤x:=Nat.and_le_left;rw[e,J65];omega
set_option maxHeartbeats 2000000 in
theorem W06 {P:Program}{f:Nat}(h:Fun P f czT [.tmp 2] 14) (hm:P.follows .mixedOrders=true) {x:Int}(h0:0≤x) (h1:x≤18446744073709551615) {σ:Heap}{K:Value→Heap→Prop}(hK:K (.int .i64 (tzN x.toNat)) σ):VCalled P f [.int .u64 x] σ K:=by
 refine h.calls hm okSem ?_;obtain⟨n,rfl⟩:=Int.eq_ofNat_of_zero_le h0;have h1:n<2 ^ 64:=by omega
 rw[Int.toNat_natCast] at hK;unfold czT;refine vstepT (.int .i64 0) (fun _ h=>h) ?_;refine vstepT (.int .u64 n) (fun _ h=>h) ?_;refine vstepT (.bool ((n:Int)==0)) (fun _ h=>X9g (k:=.u64) (a:=n) (b:=0) rfl rfl h) ?_;show vif ((n:Int)==0) _ _;refine⟨fun hz=>?_,fun hz=>?_⟩
 ·have hz:n=0:=by have:=eq_of_beq hz;omega
  subst hz;refine vstepT (.int .i64 64) (fun _ h=>h) ?_;exact⟨_,_,DropTo.refl _ _ _,hK⟩
 have hz:0<n:=by
  rcases Nat.eq_zero_or_pos n with h|h
  ·subst h;cases hz
  ·exact h
 refine vstepT (.int .u64 n) (fun _ h=>h) ?_;refine vstepT (.int .u64 n) (fun _ h=>h) ?_;refine vstepT (.int .u64 (IntKind.u64.wrap (0-(n:Int)))) (fun _ h=>h) ?_;have hand:vbits .and .u64 n (IntKind.u64.wrap (0-(n:Int)))=((2 ^ tzN n:Nat):Int):=by
  have e:IntKind.u64.wrap (0-(n:Int))=((2 ^ 64-n:Nat):Int):=by rw[J65];omega
  rw[e,X24 h1 (by omega),X96 hz h1]
 refine vstepT (.int .u64 ((2 ^ tzN n:Nat):Int)) (fun _ h=>X7p (k:=.u64) (a:=n) (b:=IntKind.u64.wrap (0-(n:Int))) rfl rfl (by rw[hand];exact h)) ?_;have hmul:varith .mul .u64 ((2 ^ tzN n:Nat):Int) 285870213051353865=((2 ^ tzN n*285870213051353865 % 18446744073709551616:Nat):Int):=by show IntKind.wrap .u64 (((2 ^ tzN n:Nat):Int)*285870213051353865)=_;rw[J65];omega
 refine vstepT (.int .u64 ((2 ^ tzN n*285870213051353865 % 18446744073709551616:Nat):Int)) (fun _ h=>X4s (k:=.u64) (a:=((2 ^ tzN n:Nat):Int)) (b:=285870213051353865) rfl rfl (by rw[hmul];exact h)) ?_;have hshr:vshift .shr .u64 ((2 ^ tzN n*285870213051353865 % 18446744073709551616:Nat):Int) 58=((2 ^ tzN n*285870213051353865 % 18446744073709551616 / 288230376151711744:Nat):Int):=by show Int.fdiv _ 288230376151711744=_;rw[Int.fdiv_eq_ediv_of_nonneg _ (by decide)];omega
 refine vstepT (.int .u64 ((2 ^ tzN n*285870213051353865 % 18446744073709551616 / 288230376151711744:Nat):Int)) (fun _ h=>X4j (k:=.u64) (k':=.u64) (a:=((2 ^ tzN n*285870213051353865 % 18446744073709551616:Nat):Int)) (b:=58) rfl rfl (by decide) (by rw[hshr];exact h)) ?_;have htab:=W05 (tzN n) (Z54 hz h1).1;have hlt:2 ^ tzN n*285870213051353865 % 18446744073709551616 / 288230376151711744<64:=by omega
 generalize 2 ^ tzN n*285870213051353865 % 18446744073709551616 / 288230376151711744=k at *
 refine vstepT (.pointer (some ⟨1,0+(k:Int).toNat*1,some 0⟩)) (fun _ h=>X92 (g:=1) (o:=0) (s:=0) (b:=k) (k':=.u64) rfl rfl (by omega) h) ?_;have hv:vpart false 1 (Go.V.t64.map fun x=>Value.int .u8 x) (0+(k:Int).toNat*1)=some (.int .u8 (tzN n)):=by show (Go.V.t64.map fun x=>Value.int .u8 x)[0+(k:Int).toNat*1]?=_;rw[Int.toNat_natCast,Nat.mul_one,Nat.zero_add,List.getElem?_map,htab];rfl
 refine vstepT (.int .u8 (tzN n)) (fun _ h=>X71 (g:=1) (s:=0) (o:=0+(k:Int).toNat*1) (c:=Go.V.t64.map fun x=>Value.int .u8 x) rfl rfl (by decide) hv h) ?_;have ht64:=(Z54 hz h1).1;have hwr:IntKind.i64.wrap (tzN n:Int)=tzN n:=InK.wrap (k:=.i64) ((Q0b _).2 (by omega));refine vstepT (.int .i64 (tzN n)) (fun _ h=>X6k (k:=.u8) (a:=tzN n) rfl (by rw[hwr];exact h)) ?_;refine vstepT (.int .i64 (tzN n)) (fun _ h=>h) ?_;exact⟨_,_,DropTo.refl _ _ _,hK⟩
theorem X3q {P:Program}{σ:Heap}{v:SV}{u:Value}(h:SR P hNil noPl noTb v u):Ret P σ v [] u σ :=
 ⟨⟨.refl _,Dead.refl _⟩,fun _=>rfl,noPl,fun j b hj=>by simp at hj,fun j j' i hj=>by simp at hj,h⟩
theorem X5r (σ:Heap):canH σ []=σ:=by
 unfold canH;cases σ;simp only[List.length_nil,Nat.add_zero,List.getElem?_nil,Option.bind_none,Heap.mk.injEq,and_true];funext i;split
 ·rfl
 ·rename_i wf hi;exact(wf i (by simpa using hi)).symm
theorem X8t {P:Program}{f:Nat}{pre:Int→Prop}{r:Int→Int}(h:∀ x,pre x→∀ (σ:Heap) (K:Value→Heap→Prop),K (.int .i64 (r x)) σ→VCalled P f [.int .u64 x] σ K) :
  OkC P f (mkSp (.one (.k (.i .u64)):AL Int) pre (fun d=>.val (.i .i64) (r d)) (fun _=>[])):=by
 intro ap hap σ args vs c v bs hargs hs hv hbs hc;unfold mkSp at hs;split at hs
 ·rename_i d hd;obtain⟨rfl,rfl,rfl⟩:=(by simpa using hs:pre d=c∧SV.val (.i .i64) (r d)=v∧[]=bs)
  match args,hargs,hd with
  |[],_,hd=>simp[AL.dec] at hd
  |a::x::l,_,hd=>simp[AL.dec] at hd
  |[a],hargs,hd =>
   simp only[AL.dec] at hd;obtain⟨u1,vs1,rfl,s1,hargs⟩:=hargs;have hargs:vs1=[]:=hargs;subst hargs;have k1:KC σ (.i .u64) d [u1]:=Q0u (k:=.i .u64) hd ⟨u1,[],rfl,s1,rfl⟩;have e1:u1=.int .u64 d:=by simpa [KC] using k1
   subst e1;refine⟨h d hc σ _ (X3q (by simp[SR,KC])),fun _ _=>h d hc σ _ ⟨?_,(X5r σ).symm⟩⟩;simp[cval,kenc]
 ·cases hs
theorem X4b {P:Program}{f:Nat}{D:Type}{l:AL D}{pre:D→Prop}{res:D→SV}{obs:D→List OB}(h:∀ d,pre d→False):OkC P f (mkSp l pre res obs):=by
 intro ap hap σ args vs c v bs hargs hs hv hbs hc;unfold mkSp at hs;split at hs
 ·rename_i d hd;have:pre d↔c:=by simp at hs;exact hs.1
  exact(h d (this.2 hc)).elim
 ·cases hs
end Go.Proofs.Tryz
set_option linter.unusedVariables false
namespace Go.Proofs.Tryz
open Go Go.V Go.Proofs
def Q8i:AL (Int):=(.one (.k (.i .u64)))
def Q7v (d:Int):Prop:=0≤d∧d≤18446744073709551615
def Q82 (d:Int):SV:=.val (.i .i64) ((tzN d.toNat:Nat):Int)
def Q7s (d:Int):List OB:=[]
def Q44:CSp:=mkSp Q8i Q7v Q82 Q7s
abbrev Q8k:Prop:=OkC Tryz.prog 101 Q44
theorem Q8b:Q8k :=
 X8t (pre:=fun x=>0≤x∧x≤18446744073709551615) (r:=fun x=>((tzN x.toNat:Nat):Int)) fun x hx σ K hK =>
  W06 (f:=101) (by rw[show czT=c101 by kernel_rfl];exact fun101) mixed hx.1 hx.2 hK
end Go.Proofs.Tryz
set_option linter.unusedVariables false
namespace Go.Proofs.Tryz
open Go Go.V Go.Proofs
def openErr (l:List Lot) (tl:Int):Int:=if lotsErr l≠0 then lotsErr l else if !inI tl 0 1000 then 3 else 0
def alikeP (tl:Int) (p:List Lot):Bool:=!(p.any fun x=>x.1 != (p.getD 0 lotD).1)&&decide ((sprD p).2≤tl)
def alikeL (l:List Lot) (tl:Int) (S:List Int):Bool:=alikeP tl (pickL l S)
theorem X9r {n:Nat}(h0:0<n) (h1:n<2 ^ 64):n.testBit (tzN n)=true:=by
 obtain⟨_,m,hm⟩:=Z54 h0 h1;generalize tzN n=t at *
 rw[hm,Nat.testBit_two_pow_mul];simp
theorem J0r:∀ f n,n≤f→n<2 ^ 64→∀ i:Int,i∈setK f n↔∃ k:Nat,i=k∧n.testBit k=true
 |0,n,h1,_,i=>by
  have:n=0:=by omega
  subst this;simp[setK]
 |f+1,n,h1,h2,i=>by
  unfold setK;by_cases h:n=0
  ·subst h;simp
  ·rw[if_neg h,List.mem_cons];have hle:=Nat.and_le_right (n:=n) (m:=n-1);rw[J0r f _ (by omega) (by omega)];constructor
   ·rintro (e|⟨k,e,hb⟩)
    ·exact⟨tzN n,e,X9r (by omega) h2⟩
    ·rw[Z71 (by omega) h2] at hb;exact⟨k,e,by simp at hb;exact hb.1⟩
   ·rintro⟨k,e,hb⟩;by_cases hk:k=tzN n
    ·exact .inl (by rw[e,hk])
    ·exact .inr ⟨k,e,by rw[Z71 (by omega) h2,hb,decide_eq_false hk];rfl⟩
theorem J7e {n:Nat}(h:n<2 ^ 64) (i:Int):i∈setL n↔∃ k:Nat,i=k∧n.testBit k=true:=J0r n n (Nat.le_refl _) h i
theorem X1c:∀ f n,(setK f n).length≤f
 |0,_=>by simp[setK]
 |f+1,n=>by
  unfold setK;split
  ·simp
  ·simp only[List.length_cons];have:=X1c f (n &&& (n-1));omega
theorem X74 (n:Nat):(setL n).length≤n:=X1c n n
theorem J77 {n m:Nat}(h:n<2 ^ m) (hm:m≤64):∀ i∈setL n,0≤i∧i<(m:Int):=fun i hi=>by
 have hp:2 ^ m≤2 ^ 64:=Nat.pow_le_pow_right (by omega) hm;obtain⟨k,rfl,hb⟩:=(J7e (by omega) i).1 hi;have:k<m:=by
  rcases Nat.lt_or_ge k m with h2|h2
  ·exact h2
  ·rw[Nat.testBit_lt_two_pow (Nat.lt_of_lt_of_le h (Nat.pow_le_pow_right (by omega) h2))] at hb;cases hb
 omega
theorem X69 {n:Nat}(h:0<n):setL n≠[]:=by rw[J8e h];simp
theorem J5q:∀ f n,n≤f→n<2 ^ 64→(setK f n).Nodup
 |0,n,_,_=>by simp[setK]
 |f+1,n,h1,h2=>by
  unfold setK;by_cases h:n=0
  ·rw[if_pos h];exact List.nodup_nil
  ·rw[if_neg h,List.nodup_cons];have hle:=Nat.and_le_right (n:=n) (m:=n-1);refine⟨fun hm=>?_,J5q f _ (by omega) (by omega)⟩;obtain⟨k,e,hb⟩:=(J0r f _ (by omega) (by omega) _).1 hm;rw[Z71 (by omega) h2] at hb;have:k=tzN n:=by omega
   rw[decide_eq_true this] at hb;simp at hb
theorem J5v:∀ {l m:List Int},l.Nodup→(∀ x∈l,x∈m)→l.length≤m.length
 |[],_,_,_=>Nat.zero_le _
 |x::l,m,hn,hs=>by have hn:=List.nodup_cons.1 hn;have hx:=hs x (List.mem_cons_self ..);have:=J5v (l:=l) (m:=m.erase x) hn.2 fun y hy=>(List.mem_erase_of_ne (by rintro rfl;exact hn.1 hy)).2 (hs y (List.mem_cons_of_mem _ hy));rw[List.length_erase_of_mem hx] at this;have:0<m.length:=List.length_pos_of_mem hx;simp only[List.length_cons];omega
theorem J59 {n m:Nat}(h:n<2 ^ m) (hm:m≤64):(setL n).length≤m:=by
 have hp:2 ^ m≤2 ^ 64:=Nat.pow_le_pow_right (by omega) hm;have:=J5v (m:=(List.range m).map fun (k:Nat)=>(k:Int)) (J5q n n (Nat.le_refl _) (by omega)) fun x hx=>by obtain⟨h1,h2⟩:=J77 h hm x hx;simp only[List.mem_map,List.mem_range];exact⟨x.toNat,by omega,by omega⟩
 simpa [setL] using this
def cmpI (a b:Int):Int:=if a<b then -1 else if b<a then 1 else 0
def orI (l:List Int):Int:=(l.find? fun x=>x != 0).getD 0
def cmpL:List Int→List Int→Int
 |[],[]=>0
 |[],_::_=>-1
 |_::_,[]=>1
 |x::a,y::b=>if cmpI x y≠0 then cmpI x y else cmpL a b
theorem J9l {a b:Int}:cmpI a b=0↔a=b:=by unfold cmpI;split<;>(try split)<;>omega
theorem J9u {a b:List Int}:∀ k,k≤a.length→k≤b.length→(∀ j,j<k→a.getD j 0=b.getD j 0)→cmpL a b=cmpL (a.drop k) (b.drop k)
 |0,_,_,_=>by simp
 |k+1,h1,h2,h=>by rw[J9u k (by omega) (by omega) fun j hj=>h j (by omega)];have e:=h k (by omega);rw[Q02 (by omega),Q02 (by omega)] at e;rw[List.drop_eq_getElem_cons (show k<a.length by omega),List.drop_eq_getElem_cons (show k<b.length by omega),cmpL,if_neg (by rw[J9l.2 e];decide)]
def Q8u:AL (Int):=(.one (.k (.i .u32)))
def Q7x (d:Int):Prop:=False
def Q7z (d:Int):SV:=.val (.i .i64) ((tzN d.toNat:Nat):Int)
def Q7y (d:Int):List OB:=[]
def Q3t:CSp:=mkSp Q8u Q7x Q7z Q7y
abbrev Q8s:Prop:=OkC Tryz.prog 100 Q3t
theorem Q8e:Q8s:=X4b fun _ h=>h
def Q4f:AL (Int):=(.one (.k (.i .u64)))
def Q9l (d:Int):Prop:=0≤d∧d≤18446744073709551615
def Q3x (d:Int):SV:=.val (.i .i64) ((tzN d.toNat:Nat):Int)
def Q3u (d:Int):List OB:=[]
def Q2j:CSp:=mkSp Q4f Q9l Q3x Q3u
def Q16 (x:Int):Prop :=
 (false=true →
  (InK .u32 x)∧(False)∧(((tzN x.toNat:Nat):Int)=((tzN x.toNat:Nat):Int)∧(True))) ∧
 (false=false →
  (0≤x∧x≤18446744073709551615)∧(((tzN x.toNat:Nat):Int)=((tzN x.toNat:Nat):Int)∧(True)))
def Q4h:Cx:=⟨[],[(100,Q3t),(101,Q44)],8,[],0,[],[],[],[],false,[],[],[],[]⟩
def Z05 (x:Int):List (Nat×LoopAnn):=[]
set_option maxRecDepth 100000 in
theorem Z02 (d:Int):gwp (Q4h) (Z05 d) c83 0 (gend [.tmp 2] (Q3x d) (Q3u d)) (gstart 8 (AL.can Q4f d))=Q16 d:=by kernel_rfl
abbrev Q9y:Prop:=OkC Tryz.prog 83 Q2j
theorem Z03 (h:∀ (x:Int),(0≤x∧x≤18446744073709551615)→Q16 x):OkC Tryz.prog 83 Q2j :=
 Q13 fun83 mixed (C:=Q4h) (V:=fun (d:Int)=>Q16 d) ⟨(.cons Q8e (.cons Q8b .nil)),XsOk.nil,ItsOk.nil,YlOk.nil,IysOk.nil,XfOk.nil⟩ (Z02) fun d hp=>h d hp
theorem Z04:Q9y:=Z03 fun x h=>by unfold Q16;(try delta lI gD sT I64);refine⟨(fun h=>by cases h),fun _=>⟨h,?_⟩⟩;and_intros<;>first|rfl|trivial
def Z2k:AL (Int):=(.one (.k (.i .u64)))
def Z8r (d:Int):Prop:=0≤d∧d≤1048576
def Z1a (d:Int):SV:=.lst 0
def Z1g (d:Int):List OB:=[.lst 3 (.i .i64) (setL d.toNat) ((setL d.toNat).isEmpty)]
def Q5x:CSp:=mkSp Z2k Z8r Z1a Z1g
def Q4x (x:Int):Prop :=
 ∃ (e3:Unit) (d30:Int×(List Int)),((x=d30.1∧True∧True)∧((d30.2=[]∧(List.isEmpty d30.2)=true)∧True)) ∧
 LoopP (fun (d3:Int×(List Int)) (q3:(Int×(List Int))→Prop) =>
  ((d3.1 != (0:Int))=true →
   (0≤d3.1∧d3.1≤18446744073709551615)∧(((List.length d3.2)+(List.length [((tzN d3.1.toNat:Nat):Int)]))*8≤70368744177664)∧(InK .u64 (d3.1-(1:Int)))∧(∃ d4:Int×(List Int),(((vbits .and .u64 d3.1 (d3.1-(1:Int)))=d4.1∧True∧True)∧(((d3.2++[((tzN d3.1.toNat:Nat):Int)])=d4.2∧false=(List.isEmpty d4.2))∧True))∧q3 d4)) ∧
  ((d3.1 != (0:Int))=false →
   (True∧((d3.2=(setL x.toNat)∧(List.isEmpty d3.2)=(setL x.toNat).isEmpty)∧True)))) d30
def Z2w:Cx:=⟨[(3,(.i .i64))],[(83,Q2j)],15,[],0,[],[],[],[],false,[],[],[],[]⟩
def J0a (x:Int):List (Nat×LoopAnn):=[(0,⟨Unit,Int×(List Int),[0,2],fun e x=>[.val (.i .u64) x.1,.lst 13],fun e x=>[(13,.slot 2,.lst 3 (.i .i64) x.2 (List.isEmpty x.2))]⟩)]
set_option maxRecDepth 100000 in
theorem J01 (d:Int):gwp (Z2w) (J0a d) c56 0 (gend [.tmp 2] (Z1a d) (Z1g d)) (gstart 15 (AL.can Z2k d))=Q4x d:=by kernel_rfl
abbrev J0h:Prop:=OkC Tryz.prog 56 Q5x
theorem J08 (h:∀ (x:Int),(0≤x∧x≤1048576)→Q4x x):OkC Tryz.prog 56 Q5x :=
 Q13 fun56 mixed (C:=Z2w) (V:=fun (d:Int)=>Q4x d) ⟨(.cons Z04 .nil),XsOk.nil,ItsOk.nil,YlOk.nil,IysOk.nil,XfOk.nil⟩ (J01) fun d hp=>h d hp
theorem Z2q:J0h:=J08 fun x h=>by
 obtain⟨h1,h2⟩:=h;unfold Q4x;(try delta lI gD sT I64);obtain⟨n,rfl⟩:=Int.eq_ofNat_of_zero_le h1;rw[Int.toNat_natCast];have hln:=X74 n;refine⟨(),((n:Int),[]),(by and_intros<;>first|rfl|trivial|simp),?_⟩;refine⟨fun d=>∃ s:Nat,d.1=s∧s≤n∧d.2++setL s=setL n,fun d=>d.1.toNat,⟨n,rfl,Nat.le_refl _,rfl⟩,?_⟩;rintro⟨_,L⟩ ⟨s,rfl,i1,i2⟩;dsimp only at i2 ⊢;simp only[bne_iff_ne,bne_eq_false_iff_eq,ne_eq,Int.toNat_natCast];refine⟨fun h0=>?_,fun h0=>?_⟩
 ·have hs:0<s:=by omega
  have e1:(s:Int)-1=((s-1:Nat):Int):=by omega
  have hst:=J8e hs;have hll:L.length+1≤n:=by have:=congrArg List.length i2;rw[hst,List.length_append,List.length_cons] at this;omega
  have hle:=Nat.and_le_right (n:=s) (m:=s-1);refine⟨⟨by omega,by omega⟩,by simp only[List.length_cons,List.length_nil];omega,by rw[Z26];omega,(((s &&& (s-1):Nat):Int),L++[((tzN s:Nat):Int)]),?_,⟨s &&& (s-1),rfl,by omega,?_⟩,?_⟩
  ·rw[e1,X24 (by omega) (by omega)];have:(L++[((tzN s:Nat):Int)]).isEmpty=false:=by simp
   and_intros<;>first|rfl|trivial|exact this.symm
  ·dsimp only;rw[←i2,hst,List.append_assoc];rfl
  ·dsimp only;omega
 ·have:s=0:=by omega
  subst this;rw[X4n,List.append_nil] at i2;subst i2;and_intros<;>first|rfl|trivial
end Go.Proofs.Tryz
set_option linter.unusedVariables false
namespace Go.Proofs.Tryz
open Go Go.V Go.Proofs
def Q6g:AL ((Int×Int×Int×Int)×List (Int×(Int×Int)×Int)):=(.cons (.agg (.cons (.k (.i .i64)) (.cons (.k (.i .i64)) (.cons (.k (.i .i64)) (.one (.k (.i .i64))))))) (.one (.ptr (.one (.k (.list (.pair (.i .i64) (.pair (.pair (.i .i64) (.i .i64)) (.i .i64)))))))))
def Z1w (d:(Int×Int×Int×Int)×List (Int×(Int×Int)×Int)):Prop:=d.2≠[]
def Q5w (d:(Int×Int×Int×Int)×List (Int×(Int×Int)×Int)):SV:=.val .bo (d.1.1 != (d.2.getD 0 lotD).1)
def Q5z (d:(Int×Int×Int×Int)×List (Int×(Int×Int)×Int)):List OB:=[]
def Q3w:CSp:=mkSp Q6g Z1w Q5w Q5z
def Q1y (lc:Int) (lo:Int) (hi:Int) (lg:Int) (l:List (Int×(Int×Int)×Int)):Prop :=
 (0≤(0:Int))∧((0:Int)<(List.length l))∧((lc != (gD l (0:Int) (0,((0,0),0))).1)=(lc != (l.getD 0 lotD).1)∧(True))
def Q6h:Cx:=⟨[],[],11,[],0,[],[],[],[],false,[],[],[],[]⟩
def Z3b (lc:Int) (lo:Int) (hi:Int) (lg:Int) (l:List (Int×(Int×Int)×Int)):List (Nat×LoopAnn):=[]
set_option maxRecDepth 100000 in
theorem Z36 (d:(Int×Int×Int×Int)×List (Int×(Int×Int)×Int)):gwp (Q6h) (Z3b d.1.1 d.1.2.1 d.1.2.2.1 d.1.2.2.2 d.2) c98 0 (gend [.tmp 3] (Q5w d) (Q5z d)) (gstart 11 (AL.can Q6g d))=Q1y d.1.1 d.1.2.1 d.1.2.2.1 d.1.2.2.2 d.2:=by kernel_rfl
abbrev Z3a:Prop:=OkC Tryz.prog 98 Q3w
theorem Z39 (h:∀ (lc:Int) (lo:Int) (hi:Int) (lg:Int) (l:List (Int×(Int×Int)×Int)),(l≠[])→Q1y lc lo hi lg l):OkC Tryz.prog 98 Q3w :=
 Q13 fun98 mixed (C:=Q6h) (V:=fun (d:(Int×Int×Int×Int)×List (Int×(Int×Int)×Int))=>Q1y d.1.1 d.1.2.1 d.1.2.2.1 d.1.2.2.2 d.2) ⟨.nil,XsOk.nil,ItsOk.nil,YlOk.nil,IysOk.nil,XfOk.nil⟩ (Z36) fun d hp=>h d.1.1 d.1.2.1 d.1.2.2.1 d.1.2.2.2 d.2 hp
theorem Z3c:Z3a:=Z39 fun lc lo hi lg l h=>by unfold Q1y;(try delta lI gD sT I64);have hp:0<l.length:=List.length_pos_iff.2 h;refine⟨by omega,by omega,?_⟩;and_intros<;>first|rfl|trivial
def Q88:AL (((List (Int×(Int×Int)×Int))×Int)×Int):=(.cons (.agg (.cons (.k (.list (.pair (.i .i64) (.pair (.pair (.i .i64) (.i .i64)) (.i .i64))))) (.one (.k (.i .i64))))) (.one (.k (.i .u64))))
def Z3g (d:((List (Int×(Int×Int)×Int))×Int)×Int):Prop:=d.1.1.length≤12∧(∀ y∈d.1.1,lotOk y=true)∧0<d.2∧d.2<2 ^ d.1.1.length
def Q7c (d:((List (Int×(Int×Int)×Int))×Int)×Int):SV:=.val .bo (alikeL d.1.1 d.1.2 (setL d.2.toNat))
def Q7i (d:((List (Int×(Int×Int)×Int))×Int)×Int):List OB:=[]
def Q3c:CSp:=mkSp Q88 Z3g Q7c Q7i
def Q2r (l:List (Int×(Int×Int)×Int)) (tl:Int) (sx:Int):Prop :=
 (0≤sx∧sx≤1048576)∧∃ (e4:Unit) (d40:(List (Int×(Int×Int)×Int))×Int),((True∧True∧True∧(lI (setL sx.toNat))=(lI (setL sx.toNat))∧(0:Int)=d40.2∧True)∧((l=l∧tl=tl∧(([]:List SV)=[]))∧(True∧(([]:List SV)=[]))∧(d40.1=[]∧(List.isEmpty d40.1)=true)∧((setL sx.toNat)=(setL sx.toNat)∧(setL sx.toNat).isEmpty=(List.isEmpty (setL sx.toNat)))∧True)) ∧
 LoopP (fun (d4:(List (Int×(Int×Int)×Int))×Int) (q4:((List (Int×(Int×Int)×Int))×Int)→Prop) =>
  ((decide (d4.2<(lI (setL sx.toNat))))=true →
   (0≤d4.2)∧(d4.2<(List.length (setL sx.toNat)))∧(0≤(gD (setL sx.toNat) d4.2 0))∧((gD (setL sx.toNat) d4.2 0)<(List.length l))∧(((List.length d4.1)+(List.length [((gD l (gD (setL sx.toNat) d4.2 0) (0,((0,0),0))).1,(((gD l (gD (setL sx.toNat) d4.2 0) (0,((0,0),0))).2.1.1,(gD l (gD (setL sx.toNat) d4.2 0) (0,((0,0),0))).2.1.2),(gD l (gD (setL sx.toNat) d4.2 0) (0,((0,0),0))).2.2))]))*32≤70368744177664)∧(I64 (d4.2+(1:Int)))∧(∃ d5:(List (Int×(Int×Int)×Int))×Int,((True∧True∧True∧(lI (setL sx.toNat))=(lI (setL sx.toNat))∧(d4.2+(1:Int))=d5.2∧True)∧((l=l∧tl=tl∧(([]:List SV)=[]))∧(True∧(([]:List SV)=[]))∧((d4.1++[((gD l (gD (setL sx.toNat) d4.2 0) (0,((0,0),0))).1,(((gD l (gD (setL sx.toNat) d4.2 0) (0,((0,0),0))).2.1.1,(gD l (gD (setL sx.toNat) d4.2 0) (0,((0,0),0))).2.1.2),(gD l (gD (setL sx.toNat) d4.2 0) (0,((0,0),0))).2.2))])=d5.1∧false=(List.isEmpty d5.1))∧((setL sx.toNat)=(setL sx.toNat)∧(List.isEmpty (setL sx.toNat))=(List.isEmpty (setL sx.toNat)))∧True))∧q4 d5)) ∧
  ((decide (d4.2<(lI (setL sx.toNat))))=false →
   (d4.1.length≤1000000∧∀ x∈d4.1,(fun (x1:Int×(Int×Int)×Int)=>d4.1≠[]) x)∧((!(d4.1.any (fun (x1:Int×(Int×Int)×Int)=>(x1.1 != (d4.1.getD 0 lotD).1))))=true→d4.1≠[]∧d4.1.length≤1000∧∀ x∈d4.1,lotOk x=true)∧(((!(d4.1.any (fun (x1:Int×(Int×Int)×Int)=>(x1.1 != (d4.1.getD 0 lotD).1))))&&(decide (((sprD d4.1).2)≤tl)))=(alikeL l tl (setL sx.toNat))∧(True)))) d40
def Q85:Cx:=⟨[(78,(.pair (.i .i64) (.pair (.pair (.i .i64) (.i .i64)) (.i .i64))))],[(56,Q5x),(90,Q06),(98,Q3w),(70,Z0v)],38,[],0,[],[],[],[],false,[],[],[],[]⟩
def Z5b (l:List (Int×(Int×Int)×Int)) (tl:Int) (sx:Int):List (Nat×LoopAnn):=[(0,⟨Unit,(List (Int×(Int×Int)×Int))×Int,[2,5,10,11,12],fun e x=>[.box 2 0,.box 5 0,.lst 10,.val (.i .i64) (((List.length (setL sx.toNat)):Nat):Int),.val (.i .i64) x.2],fun e x=>[(2,.slot 2,.cells [.val (.list (.pair (.i .i64) (.pair (.pair (.i .i64) (.i .i64)) (.i .i64)))) l,.val (.i .i64) tl] (some 105)),(5,.slot 5,.cells [.lst 23] (some 22)),(23,.cell 5 0,.lst 78 (.pair (.i .i64) (.pair (.pair (.i .i64) (.i .i64)) (.i .i64))) x.1 (List.isEmpty x.1)),(10,.slot 10,.lst 3 (.i .i64) (setL sx.toNat) (List.isEmpty (setL sx.toNat)))]⟩)]
set_option maxRecDepth 100000 in
theorem Z59 (d:((List (Int×(Int×Int)×Int))×Int)×Int):gwp (Q85) (Z5b d.1.1 d.1.2 d.2) c79 0 (gend [.tmp 4] (Q7c d) (Q7i d)) (gstart 38 (AL.can Q88 d))=Q2r d.1.1 d.1.2 d.2:=by kernel_rfl
abbrev Z5c:Prop:=OkC Tryz.prog 79 Q3c
theorem Z5a (h:∀ (l:List (Int×(Int×Int)×Int)) (tl:Int) (sx:Int),(l.length≤12∧(∀ y∈l,lotOk y=true)∧0<sx∧sx<2 ^ l.length)→Q2r l tl sx):OkC Tryz.prog 79 Q3c :=
 Q13 fun79 mixed (C:=Q85) (V:=fun (d:((List (Int×(Int×Int)×Int))×Int)×Int)=>Q2r d.1.1 d.1.2 d.2) ⟨(.cons Z2q (.cons Q0p (.cons Z3c (.cons J23 .nil)))),XsOk.nil,ItsOk.nil,YlOk.nil,IysOk.nil,XfOk.nil⟩ (Z59) fun d hp=>h d.1.1 d.1.2 d.2 hp
end Go.Proofs.Tryz
set_option linter.unusedVariables false
namespace Go.Proofs.Tryz
open Go Go.V Go.Proofs
theorem Q87:Z5c:=Z5a fun l tl sx h=>by
 obtain⟨h1,h2,h3,h4⟩:=h;obtain⟨n,rfl⟩:=Int.eq_ofNat_of_zero_le (show 0≤sx by omega);have hp:(2:Int) ^ l.length=((2 ^ l.length:Nat):Int):=by simp
 have hp2:2 ^ l.length≤2 ^ 12:=Nat.pow_le_pow_right (by omega) h1;have h12:(2:Nat) ^ 12=4096:=rfl;rw[hp] at h4;have hn:n<2 ^ l.length:=by omega
 unfold Q2r;(try delta lI gD sT I64);rw[Int.toNat_natCast];have hlt:=J77 hn (by omega);have hln:=J59 hn (by omega);have hne:=X69 (show 0<n by omega);generalize setL n=S at *
 have hpne:pickL l S≠[]:=by simpa [pickL] using hne
 have hpok:=X7o h2 hlt;have hpl:∀ k,(pickL l (S.take k)).length=min k S.length:=fun k=>by simp[pickL]
 simp only[decide_eq_true_eq,decide_eq_false_iff_not];refine⟨⟨by omega,by omega⟩,(),([],0),(by and_intros<;>first|rfl|trivial|simp),?_⟩;refine LoopP.count2 S.length (fun k L=>L=pickL l (S.take k)) rfl fun k L hk hJ q hq=>?_;subst hJ;dsimp only;have hd:∀ j,l.getD j (0,((0,0),0))=l.getD j lotD:=fun _=>rfl;simp only[Int.toNat_natCast,hd];refine⟨fun hlt2=>?_,fun hge=>?_⟩
 ·have hkS:k<S.length:=by omega
  have hm:=hlt _ (by rw[Q02 hkS];exact List.getElem_mem hkS:S.getD k 0∈S);refine⟨by omega,hlt2,hm.1,hm.2,by simp only[hpl,List.length_cons,List.length_nil];omega,by rw[Q0b];omega,(pickL l (S.take (k+1)),(k:Int)+1),?_,hq _ hkS rfl⟩;rw[X2n hkS];have:((pickL l (S.take k)++[l.getD (S.getD k 0).toNat lotD]).isEmpty)=false:=by simp
  and_intros<;>first|rfl|trivial|exact this.symm
 ·have:k=S.length:=by omega
  subst this;have hl0:=hpl S.length;rw[List.take_length] at *
  refine⟨⟨by omega,fun _ _=>hpne⟩,fun _=>⟨hpne,by omega,hpok⟩,?_⟩;and_intros<;>first|rfl|trivial
end Go.Proofs.Tryz
set_option linter.unusedVariables false
namespace Go.Proofs.Tryz
open Go Go.V Go.Proofs
def Z2j:AL (Int):=(.one (.k (.i .i64)))
def Z8n (d:Int):Prop:=True
def Z15 (d:Int):SV:=.val .bo false
def Z1d (d:Int):List OB:=[]
def Q61:CSp:=mkSp Z2j Z8n Z15 Z1d
def Q4v (a:Int):Prop :=
 ((a != a)=false∧(True))
def Z2g:Cx:=⟨[],[],6,[],0,[],[],[],[],false,[],[],[],[]⟩
def J0b (a:Int):List (Nat×LoopAnn):=[]
set_option maxRecDepth 100000 in
theorem J0c (d:Int):gwp (Z2g) (J0b d) c99 0 (gend [.tmp 2] (Z15 d) (Z1d d)) (gstart 6 (AL.can Z2j d))=Q4v d:=by kernel_rfl
abbrev Z9x:Prop:=OkC Tryz.prog 99 Q61
theorem J0f (h:∀ (a:Int),(True)→Q4v a):OkC Tryz.prog 99 Q61 :=
 Q13 fun99 mixed (C:=Z2g) (V:=fun (d:Int)=>Q4v d) ⟨.nil,XsOk.nil,ItsOk.nil,YlOk.nil,IysOk.nil,XfOk.nil⟩ (J0c) fun d hp=>h d hp
theorem Z31:Z9x:=J0f fun a _=>by unfold Q4v;(try delta lI gD sT I64);simp
def Z0g:AL (Int×Int):=(.cons (.k (.i .i64)) (.one (.k (.i .i64))))
def Z6n (d:Int×Int):Prop:=True
def Q9b (d:Int×Int):SV:=.val (.i .i64) (cmpI d.1 d.2)
def Q99 (d:Int×Int):List OB:=[]
def Q48:CSp:=mkSp Z0g Z6n Q9b Q99
def Q3p (a:Int) (b:Int):Prop :=
 (True)∧(True)∧(false=true →
  (false=true →
   ((0:Int)=(cmpI a b)∧(True))) ∧
  (false=false →
   ((-1:Int)=(cmpI a b)∧(True)))) ∧
 (false=false →
  (false=true →
   ((1:Int)=(cmpI a b)∧(True))) ∧
  (false=false →
   ((decide (a<b))=true →
    ((-1:Int)=(cmpI a b)∧(True))) ∧
   ((decide (a<b))=false →
    ((decide (a > b))=true →
     ((1:Int)=(cmpI a b)∧(True))) ∧
    ((decide (a > b))=false →
     ((0:Int)=(cmpI a b)∧(True))))))
def Z0k:Cx:=⟨[],[(99,Q61)],20,[],0,[],[],[],[],false,[],[],[],[]⟩
def Z8g (a:Int) (b:Int):List (Nat×LoopAnn):=[]
set_option maxRecDepth 100000 in
theorem Z75 (d:Int×Int):gwp (Z0k) (Z8g d.1 d.2) c81 0 (gend [.tmp 4] (Q9b d) (Q99 d)) (gstart 20 (AL.can Z0g d))=Q3p d.1 d.2:=by kernel_rfl
abbrev Z7n:Prop:=OkC Tryz.prog 81 Q48
theorem Z7m (h:∀ (a:Int) (b:Int),(True)→Q3p a b):OkC Tryz.prog 81 Q48 :=
 Q13 fun81 mixed (C:=Z0k) (V:=fun (d:Int×Int)=>Q3p d.1 d.2) ⟨(.cons Z31 .nil),XsOk.nil,ItsOk.nil,YlOk.nil,IysOk.nil,XfOk.nil⟩ (Z75) fun d hp=>h d.1 d.2 hp
theorem Z0a:Z7n:=Z7m fun a b _=>by
 unfold Q3p;(try delta lI gD sT I64);simp only[decide_eq_true_eq,decide_eq_false_iff_not,true_and,and_true,decide_eq_true_eq,decide_eq_false_iff_not,gt_iff_lt,false_implies,Bool.false_eq_true,forall_const];unfold cmpI;refine⟨fun h=>?_,fun h=>⟨fun h2=>?_,fun h2=>?_⟩⟩
 ·rw[if_pos h]
 ·rw[if_neg h,if_pos h2]
 ·rw[if_neg h,if_neg h2]
def Z7y:AL (List Int):=(.one (.k (.list (.i .i64))))
def J4h (d:List Int):Prop:=d.length≤1000
def Z5q (d:List Int):SV:=.val (.i .i64) (orI d)
def Z60 (d:List Int):List OB:=[]
def Z4b:CSp:=mkSp Z7y J4h Z5q Z60
def Q8w (l:List Int):Prop :=
 ∃ (e2:Unit) (d20:Int),(((0:Int)=(0:Int)∧l=l∧(lI l)=(lI l)∧(0:Int)=d20∧True)∧(True)) ∧
 LoopP (fun (d2:Int) (q2:(Int)→Prop) =>
  ((decide (d2<(lI l)))=true →
   (0≤d2)∧(d2<(List.length l))∧(((gD l d2 0) != (0:Int))=true →
    ((gD l d2 0)=(orI l)∧(True))) ∧
   (((gD l d2 0) != (0:Int))=false →
    (I64 (d2+(1:Int)))∧(∃ d3:Int,(((0:Int)=(0:Int)∧l=l∧(lI l)=(lI l)∧(d2+(1:Int))=d3∧True)∧(True))∧q2 d3))) ∧
  ((decide (d2<(lI l)))=false →
   ((0:Int)=(orI l)∧(True)))) d20
def Z7s:Cx:=⟨[],[],18,[],0,[],[],[],[],false,[],[],[],[]⟩
def J7q (l:List Int):List (Nat×LoopAnn):=[(0,⟨Unit,Int,[3,6,7,8],fun e x=>[.val (.i .i64) (0:Int),.val (.list (.i .i64)) l,.val (.i .i64) (((List.length l):Nat):Int),.val (.i .i64) x],fun e x=>[]⟩)]
set_option maxRecDepth 100000 in
theorem J7c (d:List Int):gwp (Z7s) (J7q d) c80 0 (gend [.tmp 2] (Z5q d) (Z60 d)) (gstart 18 (AL.can Z7y d))=Q8w d:=by kernel_rfl
abbrev J7v:Prop:=OkC Tryz.prog 80 Z4b
theorem J69 (h:∀ (l:List Int),(l.length≤1000)→Q8w l):OkC Tryz.prog 80 Z4b :=
 Q13 fun80 mixed (C:=Z7s) (V:=fun (d:List Int)=>Q8w d) ⟨.nil,XsOk.nil,ItsOk.nil,YlOk.nil,IysOk.nil,XfOk.nil⟩ (J7c) fun d hp=>h d hp
theorem J7h:J7v:=J69 fun l h=>by
 unfold Q8w;(try delta lI gD sT I64);simp only[decide_eq_true_eq,decide_eq_false_iff_not];refine⟨(),0,(by and_intros<;>first|rfl|trivial|simp),?_⟩;refine LoopP.count l.length (fun k=>∀ j,j<k→l.getD j 0=0) (fun j hj=>by omega) fun k hk hJ q hq=>?_;simp only[Int.toNat_natCast];refine⟨fun hlt=>?_,fun hge=>?_⟩
 ·have hkl:k<l.length:=by omega
  refine⟨by omega,hlt,fun hx=>?_,fun hx=>⟨by rw[Q0b];omega,_,(by and_intros<;>first|rfl|trivial|simp),hq hkl fun j hj=>?_⟩⟩
  ·have hf:l.find? (fun x=>x != 0)=some l[k]:=by
    rw[List.find?_eq_some_iff_getElem];rw[Q02 hkl] at hx;refine⟨hx,k,hkl,rfl,fun j hj=>?_⟩;have:=hJ j hj;rw[Q02 (by omega)] at this;simp[this]
   refine⟨?_,trivial⟩;unfold orI;rw[hf,Q02 hkl];rfl
  ·rcases Nat.lt_succ_iff_lt_or_eq.1 hj with hj|rfl
   ·exact hJ j hj
   ·simpa using hx
 ·have hf:l.find? (fun x=>x != 0)=none:=by
   rw[List.find?_eq_none];intro x hx;obtain⟨j,hj,rfl⟩:=List.getElem_of_mem hx;have:=hJ j (by omega);rw[Q02 hj] at this;simp[this]
  refine⟨?_,trivial⟩;unfold orI;rw[hf];rfl
def Q4r:AL (List Int×List Int):=(.cons (.k (.list (.i .i64))) (.one (.k (.list (.i .i64)))))
def Z06 (d:List Int×List Int):Prop:=d.1.length≤1000∧d.2.length≤1000
def Q4a (d:List Int×List Int):SV:=.val (.i .i64) (cmpL d.1 d.2)
def Q4d (d:List Int×List Int):List OB:=[]
def Q1b:CSp:=mkSp Q4r Z06 Q4a Q4d
def Q18 (a:List Int) (b:List Int):Prop :=
 ∃ (e2:Unit) (d20:Int),((a=a∧b=b∧a=a∧(lI a)=(lI a)∧(0:Int)=d20∧True)∧(True)) ∧
 LoopP (fun (d2:Int) (q2:(Int)→Prop) =>
  ((decide (d2<(lI a)))=true →
   (0≤d2)∧(d2<(List.length a))∧((decide (d2≥(lI b)))=true →
    ((1:Int)=(cmpL a b)∧(True))) ∧
   ((decide (d2≥(lI b)))=false →
    (0≤d2)∧(d2<(List.length b))∧(True)∧(((cmpI (gD a d2 0) (gD b d2 0)) != (0:Int))=true →
     ((cmpI (gD a d2 0) (gD b d2 0))=(cmpL a b)∧(True))) ∧
    (((cmpI (gD a d2 0) (gD b d2 0)) != (0:Int))=false →
     (I64 (d2+(1:Int)))∧(∃ d3:Int,((a=a∧b=b∧a=a∧(lI a)=(lI a)∧(d2+(1:Int))=d3∧True)∧(True))∧q2 d3)))) ∧
  ((decide (d2<(lI a)))=false →
   ((decide ((lI a)<(lI b)))=true →
    ((-1:Int)=(cmpL a b)∧(True))) ∧
   ((decide ((lI a)<(lI b)))=false →
    ((0:Int)=(cmpL a b)∧(True))))) d20
def Q4t:Cx:=⟨[],[(81,Q48)],36,[],0,[],[],[],[],false,[],[],[],[]⟩
def Z0n (a:List Int) (b:List Int):List (Nat×LoopAnn):=[(0,⟨Unit,Int,[0,1,9,10,11],fun e x=>[.val (.list (.i .i64)) a,.val (.list (.i .i64)) b,.val (.list (.i .i64)) a,.val (.i .i64) (((List.length a):Nat):Int),.val (.i .i64) x],fun e x=>[]⟩)]
set_option maxRecDepth 100000 in
theorem Z0r (d:List Int×List Int):gwp (Q4t) (Z0n d.1 d.2) c82 0 (gend [.tmp 4] (Q4a d) (Q4d d)) (gstart 36 (AL.can Q4r d))=Q18 d.1 d.2:=by kernel_rfl
abbrev Z0p:Prop:=OkC Tryz.prog 82 Q1b
theorem Z0o (h:∀ (a:List Int) (b:List Int),(a.length≤1000∧b.length≤1000)→Q18 a b):OkC Tryz.prog 82 Q1b :=
 Q13 fun82 mixed (C:=Q4t) (V:=fun (d:List Int×List Int)=>Q18 d.1 d.2) ⟨(.cons Z0a .nil),XsOk.nil,ItsOk.nil,YlOk.nil,IysOk.nil,XfOk.nil⟩ (Z0r) fun d hp=>h d.1 d.2 hp
theorem Q4q:Z0p:=Z0o fun a b h=>by
 obtain⟨h1,h2⟩:=h;unfold Q18;(try delta lI gD sT I64);simp only[decide_eq_true_eq,decide_eq_false_iff_not];refine⟨(),0,(by and_intros<;>first|rfl|trivial|simp),?_⟩;refine LoopP.count a.length (fun k=>k≤b.length∧∀ j,j<k→a.getD j 0=b.getD j 0) ⟨by omega,fun j hj=>by omega⟩ fun k hk hJ q hq=>?_;obtain⟨j1,j2⟩:=hJ;have hc:=J9u k hk j1 j2;simp only[Int.toNat_natCast];refine⟨fun hlt=>?_,fun hge=>?_⟩
 ·have hkl:k<a.length:=by omega
  rw[List.drop_eq_getElem_cons hkl] at hc;refine⟨by omega,hlt,fun h3=>?_,fun h3=>?_⟩
  ·rw[List.drop_eq_nil_of_le (show b.length≤k by omega)] at hc;rw[hc];exact⟨rfl,trivial⟩
  ·have hkb:k<b.length:=by omega
   rw[List.drop_eq_getElem_cons hkb,cmpL] at hc;rw[Q02 hkl,Q02 hkb];refine⟨by omega,by omega,trivial,fun hx=>?_,fun hx=>⟨by rw[Q0b];omega,_,(by and_intros<;>first|rfl|trivial|simp),hq hkl ⟨by omega,fun j hj=>?_⟩⟩⟩
   ·have hx:cmpI a[k] b[k]≠0:=by simpa using hx
    rw[hc,if_pos hx];exact⟨rfl,trivial⟩
   ·rcases Nat.lt_succ_iff_lt_or_eq.1 hj with hj|rfl
    ·exact j2 j hj
    ·rw[Q02 hkl,Q02 hkb];exact J9l.1 (by simpa using hx)
 ·have:k=a.length:=by omega
  subst this;rw[List.drop_length] at hc;refine⟨fun h3=>?_,fun h3=>?_⟩
  ·rw[List.drop_eq_getElem_cons (show a.length<b.length by omega)] at hc;rw[hc];exact⟨rfl,trivial⟩
  ·rw[List.drop_eq_nil_of_le (show b.length≤a.length by omega)] at hc;rw[hc];exact⟨rfl,trivial⟩
end Go.Proofs.Tryz
set_option linter.unusedVariables false
namespace Go.Proofs.Tryz
open Go Go.V Go.Proofs
def Z7j:Cx:=⟨[(3,(.i .i64))],[(69,Q8v),(61,Q4s)],21,[],0,[],[],[],[],false,[],[],[],[]⟩
def Z9i:XSp:=inlX Z7j (fun _=>[]) c51 [.cell 4 true 2,.tmp 5] 21
theorem J41:XOk Tryz.prog 51 Z9i:=X9b fun51 mixed (C:=Z7j) ⟨(.cons Z5y (.cons Q9f .nil)),XsOk.nil,ItsOk.nil,YlOk.nil,IysOk.nil,XfOk.nil⟩ _
theorem J0v {l:List Lot}{tl:Int}(h:openErr l tl=0):lotsErr l=0∧0≤tl∧tl≤1000:=by
 unfold openErr at h;by_cases h1:lotsErr l=0
 ·rw[if_neg (by omega)] at h;refine⟨h1,?_⟩;by_cases h2:inI tl 0 1000=true
  ·simp only[inI,Bool.and_eq_true,decide_eq_true_eq] at h2;exact h2
  ·rw[Bool.not_eq_true] at h2;rw[h2] at h;cases h
 ·rw[if_pos h1] at h;exact(h1 h).elim
theorem dead3:((3:Int) != 0)=true:=rfl
end Go.Proofs.Tryz
set_option linter.unusedVariables false
namespace Go.Proofs.Tryz
open Go Go.V Go.Proofs
def chosenK (n m:Nat):List Int:=((List.range m).filter fun k=>n.testBit k).map fun (k:Nat)=>(k:Int)
theorem Z6w:∀ {a b:List Int},a.Pairwise (·<·)→b.Pairwise (·<·)→(∀ x,x∈a↔x∈b)→a=b
 |[],[],_,_,_=>rfl
 |[],y::b,_,_,h=>by have:=(h y).2 (List.mem_cons_self ..);cases this
 |x::a,[],_,_,h=>by have:=(h x).1 (List.mem_cons_self ..);cases this
 |x::a,y::b,ha,hb,h=>by
  obtain⟨ha1,ha2⟩:=List.pairwise_cons.1 ha;obtain⟨hb1,hb2⟩:=List.pairwise_cons.1 hb;have hxy:x=y:=by
   rcases List.mem_cons.1 ((h x).1 (List.mem_cons_self ..)) with e|e
   ·exact e
   ·rcases List.mem_cons.1 ((h y).2 (List.mem_cons_self ..)) with e2|e2
    ·exact e2.symm
    ·have h1:=hb1 x e;have h2:=ha1 y e2;omega
  subst hxy;rw[Z6w ha2 hb2 fun z=>?_];constructor
  ·intro hz;rcases List.mem_cons.1 ((h z).1 (List.mem_cons_of_mem _ hz)) with e|e
   ·have:=ha1 z hz;omega
   ·exact e
  ·intro hz;rcases List.mem_cons.1 ((h z).2 (List.mem_cons_of_mem _ hz)) with e|e
   ·have:=hb1 z hz;omega
   ·exact e
theorem X9w {n k:Nat}(h0:0<n) (h1:n<2 ^ 64) (hk:n.testBit k=true):tzN n≤k:=by
 obtain⟨_,m,hm⟩:=Z54 h0 h1;generalize tzN n=t at *
 rcases Nat.lt_or_ge k t with h|h
 ·rw[hm,Nat.testBit_two_pow_mul,decide_eq_false (show ¬ k≥t by omega)] at hk;cases hk
 ·exact h
theorem J1e:∀ f n,n≤f→n<2 ^ 64→(setK f n).Pairwise (·<·)
 |0,n,_,_=>by simp[setK]
 |f+1,n,h1,h2=>by
  unfold setK;by_cases h:n=0
  ·rw[if_pos h];exact List.Pairwise.nil
  ·rw[if_neg h,List.pairwise_cons];have hle:=Nat.and_le_right (n:=n) (m:=n-1);refine⟨fun i hm=>?_,J1e f _ (by omega) (by omega)⟩;obtain⟨k,rfl,hb⟩:=(J0r f _ (by omega) (by omega) _).1 hm;rw[Z71 (by omega) h2] at hb;simp only[Bool.and_eq_true,Bool.not_eq_true',decide_eq_false_iff_not] at hb;have:=X9w (by omega) h2 hb.1;omega
theorem J1d {n m:Nat}(h:n<2 ^ m) (hm:m≤64):setL n=chosenK n m:=by
 have hp:2 ^ m≤2 ^ 64:=Nat.pow_le_pow_right (by omega) hm;refine Z6w (J1e n n (Nat.le_refl _) (by omega)) ?_ fun x=>?_
 ·unfold chosenK;rw[List.pairwise_map];exact(List.Pairwise.filter _ List.pairwise_lt_range).imp fun h=>by omega
 ·rw[J7e (by omega)];simp only[chosenK,List.mem_map,List.mem_filter,List.mem_range];constructor
  ·rintro⟨k,rfl,hb⟩;have:k<m:=by
    rcases Nat.lt_or_ge k m with h2|h2
    ·exact h2
    ·rw[Nat.testBit_lt_two_pow (Nat.lt_of_lt_of_le h (Nat.pow_le_pow_right (by omega) h2))] at hb;cases hb
   exact⟨k,⟨this,hb⟩,rfl⟩
  ·rintro⟨k,⟨_,hb⟩,rfl⟩;exact⟨k,rfl,hb⟩
def pairB (a b:Lot) (t:Int):Bool:=(a.1==b.1)&&decide (farL a b≤t)&&decide (farL a a≤t)&&decide (farL b b≤t)
def alikeR (p:List Lot) (t:Int):Bool:=(List.range p.length).all fun i=>(List.range p.length).all fun k=>pairB (p.getD i lotD) (p.getD k lotD) t
theorem X3w {p:List Lot}{t:Int}:alikeR p t=true↔∀ i,i<p.length→∀ k,k<p.length→(p.getD i lotD).1=(p.getD k lotD).1∧farL (p.getD i lotD) (p.getD k lotD)≤t:=by simp only[alikeR,List.all_eq_true,List.mem_range,pairB,Bool.and_eq_true,beq_iff_eq,decide_eq_true_eq];exact⟨fun h i hi k hk=>⟨(h i hi k hk).1.1.1,(h i hi k hk).1.1.2⟩,fun h i hi k hk=>⟨⟨⟨(h i hi k hk).1,(h i hi k hk).2⟩,(h i hi i hi).2⟩,(h k hk k hk).2⟩⟩
theorem X63 {p:List Lot}{t:Int}(h:p≠[]):alikeP t p=alikeR p t:=by
 have hp:1≤p.length:=List.length_pos_iff.2 h;obtain⟨a,_,_,⟨i3,b3,c3⟩,⟨i4,b4,c4⟩⟩:=J2q h p.length hp (Nat.le_refl _);rw[Bool.eq_iff_iff,X3w];unfold alikeP sprD;simp only[Bool.and_eq_true,Bool.not_eq_true',decide_eq_true_eq,List.any_eq_false,bne_iff_ne,ne_eq,Decidable.not_not];generalize sprF p p.length=S at *
 constructor
 ·rintro⟨h1,h2⟩ i hi k hk;have e1:=h1 _ (by rw[Q02 hi];exact List.getElem_mem hi:p.getD i lotD∈p);have e2:=h1 _ (by rw[Q02 hk];exact List.getElem_mem hk:p.getD k lotD∈p);have u:=a i hi;have v:=a k hk;refine⟨e1.trans e2.symm,?_⟩;unfold farL;rw[Z23];omega
 ·intro h1;refine⟨fun x hx=>?_,?_⟩
  ·obtain⟨i,hi,rfl⟩:=List.getElem_of_mem hx;have:=(h1 i hi 0 (by omega)).1
   rwa [Q02 hi] at this
  ·have:=(h1 i4 b4 i3 b3).2;unfold farL at this;rw[Z23] at this;omega
end Go.Proofs.Tryz
set_option linter.unusedVariables false
namespace Go.Proofs.Tryz
open Go Go.V Go.Proofs
def Z78:AL ((List (Int×(Int×Int)×Int))×Int×Int×Int):=(.cons (.k (.list (.pair (.i .i64) (.pair (.pair (.i .i64) (.i .i64)) (.i .i64))))) (.cons (.k (.i .i64)) (.cons (.k (.i .i64)) (.one (.k (.i .i64))))))
def J3x (d:(List (Int×(Int×Int)×Int))×Int×Int×Int):Prop:=(∀ y∈d.1,lotOk y=true)∧0≤d.2.1∧d.2.1<d.1.length∧0≤d.2.2.1∧d.2.2.1<d.1.length
def Z64 (d:(List (Int×(Int×Int)×Int))×Int×Int×Int):SV:=.val .bo (pairB (d.1.getD d.2.1.toNat lotD) (d.1.getD d.2.2.1.toNat lotD) d.2.2.2)
def Z5w (d:(List (Int×(Int×Int)×Int))×Int×Int×Int):List OB:=[]
def Q78:CSp:=mkSp Z78 J3x Z64 Z5w
def Q8t (l:List (Int×(Int×Int)×Int)) (a:Int) (b:Int) (tl:Int):Prop :=
 (0≤a)∧(a<(List.length l))∧(0≤b)∧(b<(List.length l))∧(((gD l a (0,((0,0),0))).1==(gD l b (0,((0,0),0))).1)=true→0≤a)∧(((gD l a (0,((0,0),0))).1==(gD l b (0,((0,0),0))).1)=true→a<(List.length l))∧(((gD l a (0,((0,0),0))).1==(gD l b (0,((0,0),0))).1)=true→0≤b)∧(((gD l a (0,((0,0),0))).1==(gD l b (0,((0,0),0))).1)=true→b<(List.length l))∧(((gD l a (0,((0,0),0))).1==(gD l b (0,((0,0),0))).1)=true→0≤((gD l a (0,((0,0),0))).2.1.1)∧((gD l a (0,((0,0),0))).2.1.1)≤1000∧0≤((gD l a (0,((0,0),0))).2.1.2)∧((gD l a (0,((0,0),0))).2.1.2)≤1000∧0≤((gD l b (0,((0,0),0))).2.1.1)∧((gD l b (0,((0,0),0))).2.1.1)≤1000∧0≤((gD l b (0,((0,0),0))).2.1.2)∧((gD l b (0,((0,0),0))).2.1.2)≤1000)∧((((gD l a (0,((0,0),0))).1==(gD l b (0,((0,0),0))).1)&&(decide ((farL (((gD l a (0,((0,0),0))).1),(((gD l a (0,((0,0),0))).2.1.1),((gD l a (0,((0,0),0))).2.1.2)),((gD l a (0,((0,0),0))).2.2)) (((gD l b (0,((0,0),0))).1),(((gD l b (0,((0,0),0))).2.1.1),((gD l b (0,((0,0),0))).2.1.2)),((gD l b (0,((0,0),0))).2.2)))≤tl)))=true→0≤a)∧((((gD l a (0,((0,0),0))).1==(gD l b (0,((0,0),0))).1)&&(decide ((farL (((gD l a (0,((0,0),0))).1),(((gD l a (0,((0,0),0))).2.1.1),((gD l a (0,((0,0),0))).2.1.2)),((gD l a (0,((0,0),0))).2.2)) (((gD l b (0,((0,0),0))).1),(((gD l b (0,((0,0),0))).2.1.1),((gD l b (0,((0,0),0))).2.1.2)),((gD l b (0,((0,0),0))).2.2)))≤tl)))=true→a<(List.length l))∧((((gD l a (0,((0,0),0))).1==(gD l b (0,((0,0),0))).1)&&(decide ((farL (((gD l a (0,((0,0),0))).1),(((gD l a (0,((0,0),0))).2.1.1),((gD l a (0,((0,0),0))).2.1.2)),((gD l a (0,((0,0),0))).2.2)) (((gD l b (0,((0,0),0))).1),(((gD l b (0,((0,0),0))).2.1.1),((gD l b (0,((0,0),0))).2.1.2)),((gD l b (0,((0,0),0))).2.2)))≤tl)))=true→0≤a)∧((((gD l a (0,((0,0),0))).1==(gD l b (0,((0,0),0))).1)&&(decide ((farL (((gD l a (0,((0,0),0))).1),(((gD l a (0,((0,0),0))).2.1.1),((gD l a (0,((0,0),0))).2.1.2)),((gD l a (0,((0,0),0))).2.2)) (((gD l b (0,((0,0),0))).1),(((gD l b (0,((0,0),0))).2.1.1),((gD l b (0,((0,0),0))).2.1.2)),((gD l b (0,((0,0),0))).2.2)))≤tl)))=true→a<(List.length l))∧((((gD l a (0,((0,0),0))).1==(gD l b (0,((0,0),0))).1)&&(decide ((farL (((gD l a (0,((0,0),0))).1),(((gD l a (0,((0,0),0))).2.1.1),((gD l a (0,((0,0),0))).2.1.2)),((gD l a (0,((0,0),0))).2.2)) (((gD l b (0,((0,0),0))).1),(((gD l b (0,((0,0),0))).2.1.1),((gD l b (0,((0,0),0))).2.1.2)),((gD l b (0,((0,0),0))).2.2)))≤tl)))=true→0≤((gD l a (0,((0,0),0))).2.1.1)∧((gD l a (0,((0,0),0))).2.1.1)≤1000∧0≤((gD l a (0,((0,0),0))).2.1.2)∧((gD l a (0,((0,0),0))).2.1.2)≤1000∧0≤((gD l a (0,((0,0),0))).2.1.1)∧((gD l a (0,((0,0),0))).2.1.1)≤1000∧0≤((gD l a (0,((0,0),0))).2.1.2)∧((gD l a (0,((0,0),0))).2.1.2)≤1000)∧(((((gD l a (0,((0,0),0))).1==(gD l b (0,((0,0),0))).1)&&(decide ((farL (((gD l a (0,((0,0),0))).1),(((gD l a (0,((0,0),0))).2.1.1),((gD l a (0,((0,0),0))).2.1.2)),((gD l a (0,((0,0),0))).2.2)) (((gD l b (0,((0,0),0))).1),(((gD l b (0,((0,0),0))).2.1.1),((gD l b (0,((0,0),0))).2.1.2)),((gD l b (0,((0,0),0))).2.2)))≤tl)))&&(decide ((farL (((gD l a (0,((0,0),0))).1),(((gD l a (0,((0,0),0))).2.1.1),((gD l a (0,((0,0),0))).2.1.2)),((gD l a (0,((0,0),0))).2.2)) (((gD l a (0,((0,0),0))).1),(((gD l a (0,((0,0),0))).2.1.1),((gD l a (0,((0,0),0))).2.1.2)),((gD l a (0,((0,0),0))).2.2)))≤tl)))=true→0≤b)∧(((((gD l a (0,((0,0),0))).1==(gD l b (0,((0,0),0))).1)&&(decide ((farL (((gD l a (0,((0,0),0))).1),(((gD l a (0,((0,0),0))).2.1.1),((gD l a (0,((0,0),0))).2.1.2)),((gD l a (0,((0,0),0))).2.2)) (((gD l b (0,((0,0),0))).1),(((gD l b (0,((0,0),0))).2.1.1),((gD l b (0,((0,0),0))).2.1.2)),((gD l b (0,((0,0),0))).2.2)))≤tl)))&&(decide ((farL (((gD l a (0,((0,0),0))).1),(((gD l a (0,((0,0),0))).2.1.1),((gD l a (0,((0,0),0))).2.1.2)),((gD l a (0,((0,0),0))).2.2)) (((gD l a (0,((0,0),0))).1),(((gD l a (0,((0,0),0))).2.1.1),((gD l a (0,((0,0),0))).2.1.2)),((gD l a (0,((0,0),0))).2.2)))≤tl)))=true→b<(List.length l))∧(((((gD l a (0,((0,0),0))).1==(gD l b (0,((0,0),0))).1)&&(decide ((farL (((gD l a (0,((0,0),0))).1),(((gD l a (0,((0,0),0))).2.1.1),((gD l a (0,((0,0),0))).2.1.2)),((gD l a (0,((0,0),0))).2.2)) (((gD l b (0,((0,0),0))).1),(((gD l b (0,((0,0),0))).2.1.1),((gD l b (0,((0,0),0))).2.1.2)),((gD l b (0,((0,0),0))).2.2)))≤tl)))&&(decide ((farL (((gD l a (0,((0,0),0))).1),(((gD l a (0,((0,0),0))).2.1.1),((gD l a (0,((0,0),0))).2.1.2)),((gD l a (0,((0,0),0))).2.2)) (((gD l a (0,((0,0),0))).1),(((gD l a (0,((0,0),0))).2.1.1),((gD l a (0,((0,0),0))).2.1.2)),((gD l a (0,((0,0),0))).2.2)))≤tl)))=true→0≤b)∧(((((gD l a (0,((0,0),0))).1==(gD l b (0,((0,0),0))).1)&&(decide ((farL (((gD l a (0,((0,0),0))).1),(((gD l a (0,((0,0),0))).2.1.1),((gD l a (0,((0,0),0))).2.1.2)),((gD l a (0,((0,0),0))).2.2)) (((gD l b (0,((0,0),0))).1),(((gD l b (0,((0,0),0))).2.1.1),((gD l b (0,((0,0),0))).2.1.2)),((gD l b (0,((0,0),0))).2.2)))≤tl)))&&(decide ((farL (((gD l a (0,((0,0),0))).1),(((gD l a (0,((0,0),0))).2.1.1),((gD l a (0,((0,0),0))).2.1.2)),((gD l a (0,((0,0),0))).2.2)) (((gD l a (0,((0,0),0))).1),(((gD l a (0,((0,0),0))).2.1.1),((gD l a (0,((0,0),0))).2.1.2)),((gD l a (0,((0,0),0))).2.2)))≤tl)))=true→b<(List.length l))∧(((((gD l a (0,((0,0),0))).1==(gD l b (0,((0,0),0))).1)&&(decide ((farL (((gD l a (0,((0,0),0))).1),(((gD l a (0,((0,0),0))).2.1.1),((gD l a (0,((0,0),0))).2.1.2)),((gD l a (0,((0,0),0))).2.2)) (((gD l b (0,((0,0),0))).1),(((gD l b (0,((0,0),0))).2.1.1),((gD l b (0,((0,0),0))).2.1.2)),((gD l b (0,((0,0),0))).2.2)))≤tl)))&&(decide ((farL (((gD l a (0,((0,0),0))).1),(((gD l a (0,((0,0),0))).2.1.1),((gD l a (0,((0,0),0))).2.1.2)),((gD l a (0,((0,0),0))).2.2)) (((gD l a (0,((0,0),0))).1),(((gD l a (0,((0,0),0))).2.1.1),((gD l a (0,((0,0),0))).2.1.2)),((gD l a (0,((0,0),0))).2.2)))≤tl)))=true→0≤((gD l b (0,((0,0),0))).2.1.1)∧((gD l b (0,((0,0),0))).2.1.1)≤1000∧0≤((gD l b (0,((0,0),0))).2.1.2)∧((gD l b (0,((0,0),0))).2.1.2)≤1000∧0≤((gD l b (0,((0,0),0))).2.1.1)∧((gD l b (0,((0,0),0))).2.1.1)≤1000∧0≤((gD l b (0,((0,0),0))).2.1.2)∧((gD l b (0,((0,0),0))).2.1.2)≤1000)∧((((((gD l a (0,((0,0),0))).1==(gD l b (0,((0,0),0))).1)&&(decide ((farL (((gD l a (0,((0,0),0))).1),(((gD l a (0,((0,0),0))).2.1.1),((gD l a (0,((0,0),0))).2.1.2)),((gD l a (0,((0,0),0))).2.2)) (((gD l b (0,((0,0),0))).1),(((gD l b (0,((0,0),0))).2.1.1),((gD l b (0,((0,0),0))).2.1.2)),((gD l b (0,((0,0),0))).2.2)))≤tl)))&&(decide ((farL (((gD l a (0,((0,0),0))).1),(((gD l a (0,((0,0),0))).2.1.1),((gD l a (0,((0,0),0))).2.1.2)),((gD l a (0,((0,0),0))).2.2)) (((gD l a (0,((0,0),0))).1),(((gD l a (0,((0,0),0))).2.1.1),((gD l a (0,((0,0),0))).2.1.2)),((gD l a (0,((0,0),0))).2.2)))≤tl)))&&(decide ((farL (((gD l b (0,((0,0),0))).1),(((gD l b (0,((0,0),0))).2.1.1),((gD l b (0,((0,0),0))).2.1.2)),((gD l b (0,((0,0),0))).2.2)) (((gD l b (0,((0,0),0))).1),(((gD l b (0,((0,0),0))).2.1.1),((gD l b (0,((0,0),0))).2.1.2)),((gD l b (0,((0,0),0))).2.2)))≤tl)))=(pairB (l.getD a.toNat lotD) (l.getD b.toNat lotD) tl)∧(True))
def Z7f:Cx:=⟨[],[(73,Z6c)],59,[],0,[],[],[],[],false,[],[],[],[]⟩
def J81 (l:List (Int×(Int×Int)×Int)) (a:Int) (b:Int) (tl:Int):List (Nat×LoopAnn):=[]
set_option maxRecDepth 100000 in
theorem J7o (d:(List (Int×(Int×Int)×Int))×Int×Int×Int):gwp (Z7f) (J81 d.1 d.2.1 d.2.2.1 d.2.2.2) c44 0 (gend [.tmp 8] (Z64 d) (Z5w d)) (gstart 59 (AL.can Z78 d))=Q8t d.1 d.2.1 d.2.2.1 d.2.2.2:=by kernel_rfl
abbrev J74:Prop:=OkC Tryz.prog 44 Q78
theorem J7i (h:∀ (l:List (Int×(Int×Int)×Int)) (a:Int) (b:Int) (tl:Int),((∀ y∈l,lotOk y=true)∧0≤a∧a<l.length∧0≤b∧b<l.length)→Q8t l a b tl):OkC Tryz.prog 44 Q78 :=
 Q13 fun44 mixed (C:=Z7f) (V:=fun (d:(List (Int×(Int×Int)×Int))×Int×Int×Int)=>Q8t d.1 d.2.1 d.2.2.1 d.2.2.2) ⟨(.cons J85 .nil),XsOk.nil,ItsOk.nil,YlOk.nil,IysOk.nil,XfOk.nil⟩ (J7o) fun d hp=>h d.1 d.2.1 d.2.2.1 d.2.2.2 hp
theorem Z22:J74:=J7i fun l a b tl h=>by
 obtain⟨h1,h2,h3,h4,h5⟩:=h;unfold Q8t;(try delta lI gD sT I64);have hd:∀ j,l.getD j (0,((0,0),0))=l.getD j lotD:=fun _=>rfl;simp only[hd];have hlot:∀ j:Int,0≤j→j<l.length→0≤(l.getD j.toNat lotD).2.1.1∧(l.getD j.toNat lotD).2.1.1≤1000∧0≤(l.getD j.toNat lotD).2.1.2∧(l.getD j.toNat lotD).2.1.2≤1000:=fun j j0 j1=>by
  have hj:j.toNat<l.length:=by omega
  have:=J2w.1 (h1 _ (List.getElem_mem hj));rw[Q02 hj];omega
 have u:=hlot a h2 h3;have v:=hlot b h4 h5;generalize l.getD a.toNat lotD=x at *
 generalize l.getD b.toNat lotD=y at *
 obtain⟨u1,u2,u3,u4⟩:=u;obtain⟨v1,v2,v3,v4⟩:=v;and_intros;all_goals first|omega|rfl|trivial|(intro _;omega)|(intro _;and_intros<;>first|omega|rfl|trivial)
def Z61:AL ((List (Int×(Int×Int)×Int))×List Int×Int):=(.cons (.k (.list (.pair (.i .i64) (.pair (.pair (.i .i64) (.i .i64)) (.i .i64))))) (.cons (.k (.list (.i .i64))) (.one (.k (.i .i64)))))
def J1m (d:(List (Int×(Int×Int)×Int))×List Int×Int):Prop:=(∀ y∈d.1,lotOk y=true)∧d.2.1.length≤1000∧∀ i∈d.2.1,0≤i∧i<d.1.length
def Z3o (d:(List (Int×(Int×Int)×Int))×List Int×Int):SV:=.val .bo (alikeR (pickL d.1 d.2.1) d.2.2)
def Z3l (d:(List (Int×(Int×Int)×Int))×List Int×Int):List OB:=[]
def Q8r:CSp:=mkSp Z61 J1m Z3o Z3l
def Q70 (l:List (Int×(Int×Int)×Int)) (sm:List Int) (tl:Int):Prop :=
 ∃ (e2:Unit) (d20:Int),((l=l∧sm=sm∧tl=tl∧(0:Int)=d20∧True)∧(True)) ∧
 LoopP (fun (d2:Int) (q2:(Int)→Prop) =>
  ((decide (d2<(lI sm)))=true →
   ∃ (e4:Int) (d40:Int),((l=l∧sm=sm∧tl=tl∧d2=e4∧(0:Int)=d40∧True)∧(True)) ∧
   LoopP (fun (d4:Int) (q4:(Int)→Prop) =>
    ((decide (d4<(lI sm)))=true →
     (0≤e4)∧(e4<(List.length sm))∧(0≤d4)∧(d4<(List.length sm))∧((∀ y∈l,lotOk y=true)∧0≤(gD sm e4 0)∧(gD sm e4 0)<l.length∧0≤(gD sm d4 0)∧(gD sm d4 0)<l.length)∧((!(pairB (l.getD (gD sm e4 0).toNat lotD) (l.getD (gD sm d4 0).toNat lotD) tl))=true →
      (false=(alikeR (pickL l sm) tl)∧(True))) ∧
     ((!(pairB (l.getD (gD sm e4 0).toNat lotD) (l.getD (gD sm d4 0).toNat lotD) tl))=false →
      (I64 (d4+(1:Int)))∧(∃ d5:Int,((l=l∧sm=sm∧tl=tl∧e4=e4∧(d4+(1:Int))=d5∧True)∧(True))∧q4 d5))) ∧
    ((decide (d4<(lI sm)))=false →
     (I64 (e4+(1:Int)))∧(∃ d6:Int,((l=l∧sm=sm∧tl=tl∧(e4+(1:Int))=d6∧True)∧(True))∧q2 d6))) d40) ∧
  ((decide (d2<(lI sm)))=false →
   (true=(alikeR (pickL l sm) tl)∧(True)))) d20
def Z5o:Cx:=⟨[],[(44,Q78)],33,[],0,[],[],[],[],false,[],[],[],[]⟩
def J43 (l:List (Int×(Int×Int)×Int)) (sm:List Int) (tl:Int):List (Nat×LoopAnn):=[(0,⟨Unit,Int,[0,1,2,7],fun e x=>[.val (.list (.pair (.i .i64) (.pair (.pair (.i .i64) (.i .i64)) (.i .i64)))) l,.val (.list (.i .i64)) sm,.val (.i .i64) tl,.val (.i .i64) x],fun e x=>[]⟩),
 (2,⟨Int,Int,[0,1,2,7,8],fun e x=>[.val (.list (.pair (.i .i64) (.pair (.pair (.i .i64) (.i .i64)) (.i .i64)))) l,.val (.list (.i .i64)) sm,.val (.i .i64) tl,.val (.i .i64) e,.val (.i .i64) x],fun e x=>[]⟩)]
set_option maxRecDepth 100000 in
theorem J4l (d:(List (Int×(Int×Int)×Int))×List Int×Int):gwp (Z5o) (J43 d.1 d.2.1 d.2.2) c21 0 (gend [.tmp 6] (Z3o d) (Z3l d)) (gstart 33 (AL.can Z61 d))=Q70 d.1 d.2.1 d.2.2:=by kernel_rfl
abbrev J4p:Prop:=OkC Tryz.prog 21 Q8r
theorem J3s (h:∀ (l:List (Int×(Int×Int)×Int)) (sm:List Int) (tl:Int),((∀ y∈l,lotOk y=true)∧sm.length≤1000∧∀ i∈sm,0≤i∧i<l.length)→Q70 l sm tl):OkC Tryz.prog 21 Q8r :=
 Q13 fun21 mixed (C:=Z5o) (V:=fun (d:(List (Int×(Int×Int)×Int))×List Int×Int)=>Q70 d.1 d.2.1 d.2.2) ⟨(.cons Z22 .nil),XsOk.nil,ItsOk.nil,YlOk.nil,IysOk.nil,XfOk.nil⟩ (J4l) fun d hp=>h d.1 d.2.1 d.2.2 hp
theorem Z8d {lw:List Int}{w:Nat}(hw:w<lw.length):lw.getD w 0∈lw:=by rw[Q02 hw];exact List.getElem_mem hw
theorem J1q {l:List Lot}{sm:List Int}{i:Nat}(h:i<sm.length):(pickL l sm).getD i lotD=l.getD (sm.getD i 0).toNat lotD:=by rw[Q02 (by simpa [pickL] using h),Q02 h];simp[pickL]
theorem Z8s {p:List Lot}{t:Int}:alikeR p t=true↔∀ i,i<p.length→∀ k,k<p.length→pairB (p.getD i lotD) (p.getD k lotD) t=true:=by simp only[alikeR,List.all_eq_true,List.mem_range]
theorem Z5l:J4p:=J3s fun l sm tl h=>by
 obtain⟨h1,h2,h3⟩:=h;have hpl:(pickL l sm).length=sm.length:=by simp[pickL]
 unfold Q70;(try delta lI gD sT I64);simp only[decide_eq_true_eq,decide_eq_false_iff_not];refine⟨(),0,(by and_intros<;>first|rfl|trivial|simp),?_⟩;refine LoopP.count sm.length (fun i=>∀ a,a<i→∀ k,k<sm.length→pairB ((pickL l sm).getD a lotD) ((pickL l sm).getD k lotD) tl=true) (fun a ha=>by omega) fun i hi hJ q hq=>?_;refine⟨fun hlt=>⟨(i:Int),0,(by and_intros<;>first|rfl|trivial|simp),?_⟩,fun hge=>?_⟩
 ·have hil:i<sm.length:=by omega
  have hxi:=h3 _ (Z8d hil);refine LoopP.count sm.length (fun k=>∀ b,b<k→pairB ((pickL l sm).getD i lotD) ((pickL l sm).getD b lotD) tl=true) (fun a ha=>by omega) fun k hk hI q6 hq6=>?_;simp only[Int.toNat_natCast];refine⟨fun hlt2=>?_,fun hge2=>⟨by rw[Q0b];omega,_,(by and_intros<;>first|rfl|trivial|simp),hq hil fun a ha=>?_⟩⟩
  ·have hkl:k<sm.length:=by omega
   have hxk:=h3 _ (Z8d hkl);rw[←J1q hil,←J1q hkl];refine⟨by omega,hlt,by omega,hlt2,⟨h1,hxi.1,hxi.2,hxk.1,hxk.2⟩,fun hx=>⟨Eq.symm ?_,trivial⟩,fun hx=>⟨by rw[Q0b];omega,_,(by and_intros<;>first|rfl|trivial|simp),hq6 hkl fun b hb=>?_⟩⟩
   ·rw[←Bool.not_eq_true,Z8s];intro h9;rw[h9 i (by omega) k (by omega)] at hx;cases hx
   ·rcases Nat.lt_succ_iff_lt_or_eq.1 hb with hb|rfl
    ·exact hI b hb
    ·simpa using hx
  ·have:k=sm.length:=by omega
   subst this;rcases Nat.lt_succ_iff_lt_or_eq.1 ha with ha|rfl
   ·exact hJ a ha
   ·exact hI
 ·have:i=sm.length:=by omega
  subst this;refine⟨Eq.symm ?_,trivial⟩;rw[Z8s,hpl];exact hJ
def Z3p:AL (Int×Int):=(.cons (.k (.i .i64)) (.one (.k (.i .i64))))
def J0d (d:Int×Int):Prop:=0≤d.2∧d.2≤12∧0≤d.1∧d.1<2 ^ d.2.toNat
def Z2h (d:Int×Int):SV:=.lst 0
def Z32 (d:Int×Int):List OB:=[.lst 3 (.i .i64) (chosenK d.1.toNat d.2.toNat) false]
def Z0q:CSp:=mkSp Z3p J0d Z2h Z32
def Q62 (bt:Int) (n:Int):Prop :=
 ∃ (e2:Unit) (d20:(List Int)×Int),((bt=bt∧n=n∧True∧(0:Int)=d20.2∧True)∧((([]:List Int)=d20.1∧false=false)∧True)) ∧
 LoopP (fun (d2:(List Int)×Int) (q2:((List Int)×Int)→Prop) =>
  ((decide (d2.2<n))=true →
   (InK .u64 d2.2)∧(0≤d2.2)∧(((vbits .and .i64 (shrI .i64 bt d2.2) (1:Int))==(1:Int))=true →
    (((List.length d2.1)+(List.length [d2.2]))*8≤70368744177664)∧(I64 (d2.2+(1:Int)))∧(∃ d3:(List Int)×Int,((bt=bt∧n=n∧True∧(d2.2+(1:Int))=d3.2∧True)∧(((d2.1++[d2.2])=d3.1∧false=false)∧True))∧q2 d3)) ∧
   (((vbits .and .i64 (shrI .i64 bt d2.2) (1:Int))==(1:Int))=false →
    (I64 (d2.2+(1:Int)))∧(∃ d4:(List Int)×Int,((bt=bt∧n=n∧True∧(d2.2+(1:Int))=d4.2∧True)∧((d2.1=d4.1∧false=false)∧True))∧q2 d4))) ∧
  ((decide (d2.2<n))=false →
   (True∧((d2.1=(chosenK bt.toNat n.toNat)∧false=false)∧True)))) d20
def Z43:Cx:=⟨[(3,(.i .i64))],[],24,[],0,[],[],[],[],false,[],[],[],[]⟩
def J1u (bt:Int) (n:Int):List (Nat×LoopAnn):=[(0,⟨Unit,(List Int)×Int,[0,1,5,6],fun e x=>[.val (.i .i64) bt,.val (.i .i64) n,.lst 7,.val (.i .i64) x.2],fun e x=>[(7,.slot 5,.lst 3 (.i .i64) x.1 false)]⟩)]
set_option maxRecDepth 100000 in
theorem J3k (d:Int×Int):gwp (Z43) (J1u d.1 d.2) c50 0 (gend [.tmp 4] (Z2h d) (Z32 d)) (gstart 24 (AL.can Z3p d))=Q62 d.1 d.2:=by kernel_rfl
abbrev J29:Prop:=OkC Tryz.prog 50 Z0q
theorem J1o (h:∀ (bt:Int) (n:Int),(0≤n∧n≤12∧0≤bt∧bt<2 ^ n.toNat)→Q62 bt n):OkC Tryz.prog 50 Z0q :=
 Q13 fun50 mixed (C:=Z43) (V:=fun (d:Int×Int)=>Q62 d.1 d.2) ⟨.nil,XsOk.nil,ItsOk.nil,YlOk.nil,IysOk.nil,XfOk.nil⟩ (J3k) fun d hp=>h d.1 d.2 hp
theorem Z9b (n k:Nat):chosenK n (k+1)=chosenK n k++if n.testBit k then [(k:Int)] else []:=by unfold chosenK;rw[List.range_succ,List.filter_append,List.map_append];congr 1;rw[List.filter_cons];split<;>simp
theorem J38 (n k:Nat):(chosenK n k).length≤k:=by unfold chosenK;rw[List.length_map];have:=List.length_filter_le (fun k=>n.testBit k) (List.range k);rw[List.length_range] at this;exact this
theorem J1j:J29:=J1o fun bt n h=>by
 obtain⟨h1,h2,h3,h4⟩:=h;obtain⟨m,rfl⟩:=Int.eq_ofNat_of_zero_le h1;obtain⟨b,rfl⟩:=Int.eq_ofNat_of_zero_le h3;unfold Q62;(try delta lI gD sT I64);rw[Int.toNat_natCast] at h4;have hp:(2:Int) ^ m=((2 ^ m:Nat):Int):=by simp
 have hp2:2 ^ m≤2 ^ 12:=Nat.pow_le_pow_right (by omega) (by omega);have h12:(2:Nat) ^ 12=4096:=rfl;simp only[Int.toNat_natCast,decide_eq_true_eq,decide_eq_false_iff_not];refine⟨(),([],0),(by and_intros<;>first|rfl|trivial|simp),?_⟩;refine LoopP.count2 m (fun k L=>L=chosenK b k) rfl fun k L hk hJ q hq=>?_;subst hJ;have hlen:=J38 b k;dsimp only;rw[X9j (by omega) (by omega)];refine⟨fun hlt=>⟨by rw[Z26];omega,by omega,fun hx=>⟨by simp only[List.length_cons,List.length_nil];omega,by rw[Q0b];omega,(chosenK b k++[(k:Int)],(k:Int)+1),(by and_intros<;>first|rfl|trivial|simp),hq _ (by omega) ?_⟩,fun hx=>⟨by rw[Q0b];omega,(chosenK b k,(k:Int)+1),(by and_intros<;>first|rfl|trivial|simp),hq _ (by omega) ?_⟩⟩,fun hge=>?_⟩
 ·rw[Z9b,hx,if_pos rfl]
 ·rw[Z9b,hx,if_neg (by decide),List.append_nil]
 ·have:k=m:=by omega
  subst this;exact(by and_intros<;>first|rfl|trivial|simp)
def Z70:AL ((List (Int×(Int×Int)×Int))×Int):=(.cons (.k (.list (.pair (.i .i64) (.pair (.pair (.i .i64) (.i .i64)) (.i .i64))))) (.one (.k (.i .i64))))
def J4o (d:(List (Int×(Int×Int)×Int))×Int):Prop:=d.1.length≤9223372036854775807
def Z62 (d:(List (Int×(Int×Int)×Int))×Int):SV:=.val (.i .i64) (openErr d.1 d.2)
def Z65 (d:(List (Int×(Int×Int)×Int))×Int):List OB:=[]
def Z3r:CSp:=mkSp Z70 J4o Z62 Z65
def Q8m (l:List (Int×(Int×Int)×Int)) (tl:Int):Prop :=
 (l.length≤9223372036854775807)∧(((lotsErr l) != (0:Int))=true →
  ((lotsErr l)=(openErr l tl)∧(True))) ∧
 (((lotsErr l) != (0:Int))=false →
  (True)∧((!(inI tl (0:Int) (1000:Int)))=true →
   ((3:Int)=(openErr l tl)∧(True))) ∧
  ((!(inI tl (0:Int) (1000:Int)))=false →
   ((0:Int)=(openErr l tl)∧(True))))
def Z81:Cx:=⟨[],[(43,Z1u),(20,Z1o)],14,[],0,[],[],[],[],false,[],[],[],[]⟩
def J64 (l:List (Int×(Int×Int)×Int)) (tl:Int):List (Nat×LoopAnn):=[]
set_option maxRecDepth 100000 in
theorem J6q (d:(List (Int×(Int×Int)×Int))×Int):gwp (Z81) (J64 d.1 d.2) c11 0 (gend [.tmp 4] (Z62 d) (Z65 d)) (gstart 14 (AL.can Z70 d))=Q8m d.1 d.2:=by kernel_rfl
abbrev J6p:Prop:=OkC Tryz.prog 11 Z3r
theorem J79 (h:∀ (l:List (Int×(Int×Int)×Int)) (tl:Int),(l.length≤9223372036854775807)→Q8m l tl):OkC Tryz.prog 11 Z3r :=
 Q13 fun11 mixed (C:=Z81) (V:=fun (d:(List (Int×(Int×Int)×Int))×Int)=>Q8m d.1 d.2) ⟨(.cons J4w (.cons Z6j .nil)),XsOk.nil,ItsOk.nil,YlOk.nil,IysOk.nil,XfOk.nil⟩ (J6q) fun d hp=>h d.1 d.2 hp
theorem J7t:J6p:=J79 fun l tl h=>by
 unfold Q8m;(try delta lI gD sT I64);refine⟨h,fun hx=>?_,fun hx=>⟨trivial,fun hy=>?_,fun hy=>?_⟩⟩
 ·have hx:lotsErr l≠0:=by simpa using hx
  unfold openErr;rw[if_pos hx];exact(by and_intros<;>first|rfl|trivial|simp)
 ·have hx:lotsErr l=0:=by simpa using hx
  unfold openErr;rw[if_neg (by omega),if_pos hy];exact(by and_intros<;>first|rfl|trivial|simp)
 ·have hx:lotsErr l=0:=by simpa using hx
  unfold openErr;rw[if_neg (by omega),if_neg (by rw[hy];decide)];exact(by and_intros<;>first|rfl|trivial|simp)
end Go.Proofs.Tryz
namespace Go.V
open Go
def Heap.over (B F:Heap):Heap where
 get i:=match B.get i with|some b=>some b|none=>F.get i
 n:=Nat.max B.n F.n
 wf i h:=by have h1:B.n≤i:=Nat.le_trans (Nat.le_max_left _ _) h;have h2:F.n≤i:=Nat.le_trans (Nat.le_max_right _ _) h;rw[B.wf i h1];exact F.wf i h2
theorem Heap.over_none {B F:Heap}{i:Nat}(h1:B.get i=none) (h2:F.get i=none):(B.over F).get i=none:=by show (match B.get i with|some b=>some b|none=>F.get i)=none;rw[h1];exact h2
theorem Heap.over_left {B F:Heap}:B.Le (B.over F):=⟨Nat.le_max_left _ _,fun i b h=>by
 show (match B.get i with|some b=>some b|none=>F.get i)=some b;rw[h]⟩
theorem Heap.over_right {B F σ:Heap}(hB:B.Le σ) (hF:F.Le σ):F.Le (B.over F):=⟨Nat.le_max_right _ _,fun i b h=>by
 show (match B.get i with|some b=>some b|none=>F.get i)=some b;cases hb:B.get i with
 |none=>exact h
 |some b' =>
  have h1:=hB.2 _ _ hb;have h2:=hF.2 _ _ h;rw[h1] at h2;exact h2⟩
theorem Heap.over_le {B F σ:Heap}(hB:B.Le σ) (hF:F.Le σ):(B.over F).Le σ:=⟨Nat.max_le.2 ⟨hB.1,hF.1⟩,fun i b h=>by
 have h:(match B.get i with|some b=>some b|none=>F.get i)=some b:=h;cases hb:B.get i with
 |none=>rw[hb] at h;exact hF.2 _ _ h
 |some b'=>rw[hb] at h;rw[←h];exact hB.2 _ _ hb⟩
theorem GBase.over {B F σ B' σ':Heap}(hB:B.Le B') (hBσ:B'.Le σ') (hF:F.Le σ') (hx:∀ i b,F.get i=some b→B.get i=none→B'.get i=none) (hd:Dead σ σ'):GBase B F σ B' (B'.over F) σ' :=
 ⟨hB,Heap.over_right hBσ hF,hx,hd⟩
def lentF (ap:Ap) (sp:LSp):XSp:=fun _ args s K =>
 match args with
 |.lst o::args=>bif SVs.pure args&&(oget s.own o).isL then (match sp ap (oget s.own o) args with
   |some (c,v,b)=>bif v.ret 0&&b.isL then c∧K v ⟨s.env,oset s.own o b,s.nx⟩ else False
   |none=>False) else False
 |_=>False
def callV (ap:Ap) (sp:CSp):XSp:=fun d args s K =>
 let s1:=(⟨s.env++args,s.own,s.nx⟩:St).frzs (lstNums args);let a1:=s1.env.drop s.env.length
 bif SVs.pure a1 then (match sp ap a1 with
  |some (c,v,bs)=>bif v.ret bs.length&&bs.all OB.isL then c∧K (v.ren d 500000) ((⟨s1.env.take s.env.length,s1.own,s1.nx⟩:St).makes d 500000 0 bs) else False
  |none=>False) else False
section
variable {P:Program}
theorem OB.isL_lst {b:OB}(h:b.isL=true):∃ ty k xs nl,b=.lst ty k xs nl:=by cases b<;>first|exact⟨_,_,_,_,rfl⟩|cases h
theorem X7k {f:Nat}{vc:VCode}{rs:List VResult}{nt:Nat}(h:Fun P f vc rs nt) (hm:P.follows .mixedOrders=true) {sp:LSp}{ap:Ap}
  (hb:∀ b args c v b',sp ap b args=some (c,v,b')→c→∃ (C:Cx) (L:List Value→List (Nat×LoopAnn)) (args':List SV),SVs.pure args'=true∧(∀ σ vs,SRs P σ noPl noTb args vs→SRs P σ noPl noTb args' vs)∧COk P C∧∀ vals,gwp C (L vals) vc 0 (lendK vals rs v b' (lsv b)) (lstart nt (lsv b) b vals args')):XOk P f (lentF ap sp):=by
 intro B F pl tb s env σ d args vs K R hG ha hx hK;unfold lentF at hx;split at hx
 ·rename_i o args;cases hbf:(SVs.pure args&&(oget s.own o).isL) with
  |false=>rw[hbf] at hx;exact hx.elim
  |true =>
  rw[hbf] at hx;simp only[_root_.cond_true] at hx;simp only[Bool.and_eq_true] at hbf;obtain⟨hpa,hisl⟩:=hbf;obtain⟨ty,k,xs,nl,hown⟩:=OB.isL_lst hisl;rw[hown] at hx;split at hx
  ·rename_i c v b' hsp;cases hvr:(v.ret 0&&b'.isL) with
   |false=>rw[hvr] at hx;exact hx.elim
   |true =>
   rw[hvr] at hx;obtain⟨hc,hx⟩:=hx;simp only[Bool.and_eq_true] at hvr;simp only[SRs] at ha;obtain⟨u,us,rfl,hau,hus⟩:=ha;have hlive:(oget s.own o).live=true:=by rw[hown];rfl
   have hob:=hG.obj o;rw[hown] at hob;simp only[SR] at hau;obtain⟨rfl,hs⟩:=hau;have hid:∀ i,oid (pl o)=some i→F.get i=none:=fun i hi=>hG.fresh o i hlive (Z4j hi);have hidB:∀ i,oid (pl o)=some i→B.get i=none:=fun i hi=>by
    cases hg:B.get i with
    |none=>rfl
    |some b=>have:=hG.bf.2 _ _ hg;rw[hid i hi] at this;cases this
   have hnt:∀ l,pl o≠.tuple l:=fun l he=>by obtain⟨_,_,_,hs⟩:=hs;rw[he] at hs;cases hs
   have hpin:∀ (B:Heap) (pl':Nat→Value) (tb':Nat→Option Bool),(SR P B pl' tb' (.lst 0) (pl o)↔pl' 0=pl o):=fun B pl' tb'=>by simp only[SR];exact⟨fun h=>h.1.symm,fun h=>⟨h.symm,hs⟩⟩
   obtain⟨C,L,args',hpure,hdec,hcs,hg⟩:=hb _ _ c v b' hsp hc;have hg:=hg [pl o];let σc:=lentH σ (pl o);have hBc:B.Le σc:=J0k hG.leB hidB;have hFc:F.Le σc:=J0k hG.le hid;have hargs:SRs P B noPl noTb args' us:=hdec B us (Q12 _ _ hpa hus);let plC:Nat→Value:=fun j=>if j=0 then pl o else poison
   have hst:GRel P B σc σ (lstart nt (.lst 0) (.lst ty k xs nl) [pl o] args') (pl o::us++List.replicate (nt-(pl o::us).length) undef) σ:=by
    refine⟨B,σc,plC,noTb,⟨.refl _,.refl _,fun _ _ _ h=>h,.refl _⟩,hBc,X21 _ _,?_,fun j=>?_,fun j i h1 h2=>?_,fun j j' i hne h1 h2 h3 h4=>?_,fun _ _=>rfl⟩
    ·simp only[lstart,SRs,List.cons_append];refine⟨pl o,_,rfl,(hpin _ _ _).2 (by simp[plC]),?_⟩;rw[hargs.length,List.length_cons];refine SRs.append ?_ (J1g _);exact Q12 _ _ hpure hargs
    ·simp only[lstart,oget];by_cases e0:j=0
     ·subst e0;simp only[Nat.beq_refl,_root_.cond_true];exact hob
     ·rw[Q1v (fun e=>e0 e.symm),cond_false];by_cases e1:j=4000000
      ·subst e1;simp only[Nat.beq_refl,_root_.cond_true];exact⟨pl o,[],rfl,(hpin _ _ _).2 (by simp[plC]),rfl⟩
      ·rw[Q1v (fun e=>e1 e.symm),cond_false];trivial
    ·simp only[lstart,oget] at h1;by_cases e0:j=0
     ·subst e0;exact J5a (X4h hnt h2)
     ·rw[Q1v (fun e=>e0 e.symm),cond_false] at h1;by_cases e1:j=4000000
      ·subst e1;cases h1
      ·rw[Q1v (fun e=>e1 e.symm),cond_false] at h1;cases h1
    ·have z:∀ j,(oget (lstart nt (.lst 0) (.lst ty k xs nl) [pl o] args').own j).live=true→j=0:=fun j h1=>by
      simp only[lstart,oget] at h1;by_cases e0:j=0
      ·exact e0
      ·rw[Q1v (fun e=>e0 e.symm),cond_false] at h1;by_cases e1:j=4000000
       ·subst e1;cases h1
       ·rw[Q1v (fun e=>e1 e.symm),cond_false] at h1;cases h1
     exact hne ((z j h1).trans (z j' h2).symm)
   refine h.calls hm okSem ?_;refine Z42 hcs vc 0 _ _ _ σ none _ trivial hst hg fun e s' env' σ' h1 h2=>?_
   have main:(match gresults s' rs,oget s'.own 4000000 with
    |some r,.stk l vs=>vs=[pl o]∧svEqs [(0,some 0)] [.lst 0] l∧svEq [] v r∧obEq s' [(0,some 0)] 0 b'
    |_,_=>False)→obind (vresults env' σ' rs) fun v=>∃ v' σ'',DropTo σ v σ' v' σ''∧R v' σ'':=fun h=>by
    obtain⟨B',F',pl',tb',k1,k2⟩:=h2;split at h
    ·rename_i r l vs' hr hstk;obtain⟨rfl,m1,m2,m3⟩:=h;obtain⟨w,h3,h4⟩:=Q4p k2 hr;rw[h3];have hstko:=k2.obj 4000000;rw[hstk] at hstko;have hpl0:pl' 0=pl o:=by
      have:=Q1g [.lst 0] l [pl o] m1 hstko;simp only[SRs] at this;obtain⟨u',_,hu',h5,_⟩:=this;obtain rfl:pl o=u':=(List.cons.inj hu').1;have:=(hpin _ _ _).1 h5;simpa [mapP,alook] using this
     obtain⟨hob',hobl⟩:=Q0i k2 m3;have hmp:mapP pl' [(0,some 0)] 0=pl o:=by simpa [mapP,alook] using hpl0
     rw[hmp] at hob' hobl;have hres:=(Q6z v r w m2 h4).retd (B':=B') (pl':=pl) (tb':=tb) (n:=0) (fun j hj=>by omega) _ _ hvr.1;have hle:σc.Le σ':=k1.f.trans k2.le;have hBσ:B'.Le σ':=k2.leB;obtain⟨ty',kk',xs',nl',rfl⟩:=OB.isL_lst hvr.2;have hoth:∀ d,d≠o→(oget s.own d).live=true→∀ i,Oid (pl d) i→B'.get i=none∧σ'.get i=σ.get i:=fun d e hl i hi=>by
      have hlt:=(hG.obj d).id_lt hl hi;have hio:oid (pl o)≠some i:=fun hio=>hG.sep d o i e hl hlive hi (Z4j hio);cases hg:σ.get i with
      |none =>
       have hn:=k1.d.2 i hlt hg;refine⟨?_,hn⟩;cases hb':B'.get i with
       |none=>rfl
       |some bb=>have:=hBσ.2 _ _ hb';rw[hn] at this;cases this
      |some bb =>
       have hc':σc.get i=some bb:=by rw[J1t hio];exact hg
       refine⟨k1.x i bb hc' ?_,hle.2 _ _ hc'⟩;cases hb':B.get i with
       |none=>rfl
       |some b2=>have:=hG.bf.2 _ _ hb';rw[hG.fresh d i hl hi] at this;cases this
     have hown':∀ i,Oid (pl o) i→B'.get i=none:=fun i hi=>by
      obtain⟨a,_,e2,e3⟩:=hobl rfl i hi;have:=k2.fresh a i e2 e3;cases hb':B'.get i with
      |none=>rfl
      |some b2=>have h9:=k2.bf.2 _ _ hb';rw[this] at h9;cases h9
     have hFσ:F.Le σ':=hFc.trans hle;refine⟨w,σ',.refl _ _ _,hK v _ B' (B'.over F) pl tb w σ' hx (.over k1.b hBσ hFσ (fun i b e1 e2=>k1.x i b (hFc.2 _ _ e1) e2) k1.d) ⟨Heap.over_left,Heap.over_le hBσ hFσ,SRs.mono k1.b (fun _ _ h=>h) _ _ hG.env,fun d=>?_,fun d i q1 q2=>?_,fun d d' i hne q1 q2 q3 q4=>?_,hG.free⟩ hres⟩
     ·simp only[Q09];by_cases e:d=o
      ·subst e;rw[if_pos rfl];exact hob'
      ·rw[if_neg e];exact(hG.obj d).mono k1.b (fun _ _ h=>h) fun hl i hi=>(hoth d e hl i hi).2
     ·simp only[Q09] at q1;by_cases e:d=o
      ·subst e;exact Heap.over_none (hown' i q2) (hG.fresh d i hlive q2)
      ·rw[if_neg e] at q1;exact Heap.over_none (hoth d e q1 i q2).1 (hG.fresh d i q1 q2)
     ·have lv:∀ d,(oget (oset s.own o (.lst ty' kk' xs' nl')) d).live=true→(oget s.own d).live=true:=fun d h=>by
       rw[Q09] at h;by_cases e:d=o
       ·subst e;exact hlive
       ·rwa [if_neg e] at h
      exact hG.sep d d' i hne (lv d q1) (lv d' q2) q3 q4
    ·exact h.elim
   cases e with
   |normal=>exact main h1
   |ret=>exact main h1
   |_=>exact h1.elim
  ·exact hx.elim
 ·exact hx.elim
theorem J2m {f:Nat}{vc:VCode}{rs:List VResult}{nt:Nat}(h:Fun P f vc rs nt) (hm:P.follows .mixedOrders=true) {ap:Ap}(hap:ApOk P ap) {ty:Nat}{k:Kind}{D:Type}{l:AL D}{pre:List k.T→Bool→D→Prop}{res:List k.T→Bool→D→SV}{post:List k.T→Bool→D→List k.T}
  {C:Cx}(hcs:COk P C) {L:List k.T→Bool→D→List Value→List (Nat×LoopAnn)}{V:List k.T→Bool→D→Prop}
  (hq:∀ xs nl d,(∀ vals,gwp C (L xs nl d vals) vc 0 (lendK vals rs (res xs nl d) (.lst ty k (post xs nl d) nl) (.lst 0)) (lstart nt (.lst 0) (.lst ty k xs nl) vals (AL.can l d)))=V xs nl d)
  (hb:∀ xs nl d,pre xs nl d→V xs nl d):XOk P f (lentF ap (lentL ty k l pre res post)):=by
 refine X7k h hm fun b args c v b' hs hc=>?_;unfold lentL at hs;split at hs
 ·rename_i ty' k' xs nl;split at hs
  ·rename_i e;subst e;split at hs
   ·rename_i ys d h1 h2;obtain⟨rfl,rfl,rfl⟩:=(by simpa using hs:pre ys nl d=c∧res ys nl d=v∧OB.lst ty' k (post ys nl d) nl=b');unfold castL at h1;split at h1
    ·rename_i e;subst e;obtain rfl:=osj h1;exact⟨C,L xs nl d,AL.can l d,AL.can_pure l d,fun σ vs hv=>AL.dec_sound hap l h2 hv,hcs,(hq xs nl d).mpr (hb xs nl d hc)⟩
    ·cases h1
   ·cases hs
  ·cases hs
 ·cases hs
theorem SRs.split {B:Heap}{pl:Nat→Value}{tb:Nat→Option Bool}:∀ {a:List SV}{u v:List Value},SRs P B pl tb a (u++v)→SRs P B pl tb (a.take u.length) u∧SRs P B pl tb (a.drop u.length) v
 |a,[],v,h=>⟨by simp[SRs],by simpa using h⟩
 |[],x::u,v,h=>by simp only[SRs] at h;cases h
 |s::a,x::u,v,h=>by simp only[SRs,List.cons_append] at h;obtain⟨y,ys,e,h1,h2⟩:=h;obtain⟨rfl,rfl⟩:=List.cons.inj e;obtain⟨h3,h4⟩:=SRs.split h2;simp only[List.length_cons,List.take_succ_cons,List.drop_succ_cons,SRs];exact⟨⟨_,_,rfl,h1,h3⟩,h4⟩
theorem Z9l {B F σ:Heap}{tb tbc:Nat→Option Bool}{env:Env}{σ0:Heap}{d nt:Nat}(hnt:0<nt) (plc:Nat→Value) (bs:List OB) (hF:F.Le σ)
  (hob:∀ j b,bs[j]?=some b→b.isL=true∧OR P B plc tbc σ (plc j) b∧∀ i,Oid (plc j) i→σ0.n≤i∧F.get i=none)
  (hsep:∀ j j' i,j<bs.length→j'<bs.length→j≠j'→Oid (plc j) i→Oid (plc j') i→False) :
  ∀ (r:List OB) (j:Nat) (pl:Nat→Value) (s:St),bs.drop j=r→Gam P B F pl tb s env σ→(∀ k i,(oget s.own k).live=true→Oid (pl k) i→i<σ0.n∨∃ j'<j,j'<bs.length∧Oid (plc j') i∧k=d+j'*nt)→(∀ j'<j,j'<bs.length→pl (d+j'*nt)=plc j') →
   ∃ pl',Gam P B F pl' tb (s.makes d nt j r) env σ∧(∀ j'<bs.length,pl' (d+j'*nt)=plc j')
 |[],j,pl,s,hr,hG,_,hp=>⟨pl,hG,fun j' hj'=>hp j' (by
   have:=congrArg List.length hr;simp at this;omega) hj'⟩
 |b::r,j,pl,s,hr,hG,hinv,hp=>by
  have hjl:j<bs.length:=by
   rcases Nat.lt_or_ge j bs.length with h|h
   ·exact h
   ·rw[List.drop_eq_nil_of_le h] at hr;cases hr
  have hbj:bs[j]?=some b:=by
   have:(bs.drop j)[0]?=some b:=by rw[hr];rfl
   simpa using this
  have hr':bs.drop (j+1)=r:=by
   have:(bs.drop j).drop 1=r:=by rw[hr];rfl
   simpa [List.drop_drop,Nat.add_comm] using this
  obtain⟨h1,h2,h3⟩:=hob j b hbj;obtain⟨ty,k,xs,nl,rfl⟩:=OB.isL_lst h1;have hkey:∀ j' ,j'≠j→d+j'*nt≠d+j*nt:=fun j' hne e=>hne (Nat.eq_of_mul_eq_mul_right hnt (by omega));refine Z9l hnt plc bs hF hob hsep r (j+1) (updP pl (d+j*nt) (plc j)) (s.make (d+j*nt) (.lst ty k xs nl)) hr' (hG.make (d+j*nt) (.lst ty k xs nl) (plc j) hF (fun _ _ _ _ _=>rfl) h2 fun i _ hi=>⟨(h3 i hi).2,fun k' hk hl e=>?_⟩) (fun k' i hl hi=>?_) fun j' hj' hj''=>?_
  ·rcases hinv k' i hl e with h|⟨j',hj',hj2,he,_⟩
   ·have:=(h3 i hi).1;omega
   ·exact hsep j j' i hjl hj2 (by omega) hi he
  ·by_cases hk:k'=d+j*nt
   ·subst hk;simp only[updP,if_true] at hi;exact .inr ⟨j,by omega,hjl,hi,rfl⟩
   ·have hl':(oget s.own k').live=true:=by
     simp only[St.make,St.kill,Q09,Q90,if_neg hk] at hl
     rwa [OB.live_kill] at hl
    simp only[updP,if_neg hk] at hi;rcases hinv k' i hl' hi with h|⟨j',hj',h5⟩
    ·exact .inl h
    ·exact .inr ⟨j',by omega,h5⟩
  ·by_cases e:j'=j
   ·subst e;simp[updP]
   ·simp only[updP,if_neg (hkey j' e)];exact hp j' (by omega) hj''
theorem X6o {f:Nat}{vc:VCode}{rs:List VResult}{nt:Nat}(h:Fun P f vc rs nt) (hm:P.follows .mixedOrders=true) {sp:CSp}{ap:Ap}
  (hb:∀ as0 c v bs,sp ap as0=some (c,v,bs)→c→∃ (C:Cx) (L:List (Nat×LoopAnn)) (as':List SV),SVs.pure as'=true∧(∀ σ vs,SRs P σ noPl noTb as0 vs→SRs P σ noPl noTb as' vs)∧COk P C∧gwp C L vc 0 (gend rs v bs) (gstart nt as')):XOk P f (callV ap sp):=by
 intro B F pl tb s env σ d args vals K R hG ha hx hK;unfold callV at hx;have hG0:Gam P B F pl tb ⟨s.env++args,s.own,s.nx⟩ (env++vals) σ:=⟨hG.bf,hG.le,hG.env.append ha,hG.obj,hG.fresh,hG.sep,hG.free⟩;obtain⟨B1,F1,pl1,tb1,gb1,hG1⟩:GRel P B F σ ((⟨s.env++args,s.own,s.nx⟩:St).frzs (lstNums args)) (env++vals) σ:=GRel.frzs _ ⟨B,F,pl,tb,.of hG.bf (.refl _),hG0⟩;generalize ((⟨s.env++args,s.own,s.nx⟩:St).frzs (lstNums args))=s1 at hx hG1;dsimp only at hx;have hlen:s.env.length=env.length:=hG.env.length;obtain⟨he1,he2⟩:=SRs.split hG1.env;rw[hlen] at hx;have hG2:Gam P B1 F1 pl1 tb1 ⟨s1.env.take env.length,s1.own,s1.nx⟩ env σ:=⟨hG1.bf,hG1.le,he1,hG1.obj,hG1.fresh,hG1.sep,hG1.free⟩;generalize s1.env.drop env.length=a1 at hx he2;generalize (⟨s1.env.take env.length,s1.own,s1.nx⟩:St)=s2 at hx hG2;cases hpa:SVs.pure a1 with
 |false=>rw[hpa] at hx;exact hx.elim
 |true =>
 rw[hpa] at hx;simp only[_root_.cond_true] at hx;split at hx
 ·rename_i c v bs hsp;cases hvr:(v.ret bs.length&&bs.all OB.isL) with
  |false=>rw[hvr] at hx;exact hx.elim
  |true =>
  rw[hvr] at hx;obtain⟨hc,hx⟩:=hx;simp only[Bool.and_eq_true] at hvr;obtain⟨hv,hbl⟩:=hvr;obtain⟨C,L,as',hp2,hd2,hcs',hg⟩:=hb _ c v bs hsp hc;have hargs:=hd2 B1 vals (Q12 _ _ hpa he2);have hst:GRel P B1 σ σ (gstart nt as') (vals++List.replicate (nt-vals.length) undef) σ:=by
   refine⟨B1,σ,noPl,noTb,⟨.refl _,.refl _,fun _ _ _ h=>h,.refl _⟩,hG2.leB,.refl _,?_,fun k=>?_,fun k i' h1 h2=>?_,fun k k' i' hne' h1 h2 h3 h4=>?_,fun _ _=>rfl⟩
   ·simp only[gstart];rw[hargs.length];exact SRs.append (Q12 _ _ hp2 hargs) (J1g _)
   ·simp only[gstart,oget];trivial
   ·simp only[gstart,oget] at h1;cases h1
   ·simp only[gstart,oget] at h1;cases h1
  refine h.calls hm okSem ?_;refine Z42 hcs' vc 0 _ _ _ σ none _ trivial hst hg fun e s' env' σ' h1 h2=>?_
  have main:(match gresults s' rs with
   |some r=>(match rmap v r [] with
    |some mp=>svEq mp v r∧gobsR s' mp 0 bs
    |none=>False)
   |none=>False)→obind (vresults env' σ' rs) fun v=>∃ v' σ'',DropTo σ v σ' v' σ''∧R v' σ'':=fun h=>by
   obtain⟨B',F',pl',tb',k1,k2⟩:=h2;split at h
   ·rename_i r hr;split at h
    ·rename_i mp hmp;obtain⟨g1,g2⟩:=h;obtain⟨u,h3,h4⟩:=Q4p k2 hr;have hsr:=Q6z v r u g1 h4;have hinj:=J82 v r [] mp hmp (fun t t' a h=>by cases h);have hob:∀ j b,bs[j]?=some b→obEq s' mp j b:=fun j b hj=>by have:=J3g bs 0 g2 j b hj;rwa [Nat.zero_add] at this
     rw[h3];have hle:σ.Le σ':=k1.f.trans k2.le;have hBσ:B'.Le σ':=k2.leB;have hpl:∀ j b,bs[j]?=some b→b.isL=true∧OR P B' (mapP pl' mp) noTb σ' (mapP pl' mp j) b∧∀ i,Oid (mapP pl' mp j) i→σ.n≤i∧(B'.over F1).get i=none:=fun j b hj=>by
      obtain⟨m1,m2⟩:=Q0i k2 (hob j b hj);have hl:=List.all_eq_true.1 hbl b (List.mem_of_getElem? hj);obtain⟨ty,k,xs,nl,rfl⟩:=OB.isL_lst hl;refine⟨hl,m1,fun i hi=>?_⟩;obtain⟨a,_,e2,e3⟩:=m2 rfl i hi;have hFn:=k2.fresh a i e2 e3;have hσn:σ.get i=none:=by
       cases hg:σ.get i with
       |none=>rfl
       |some b=>have h9:=k1.f.2 _ _ hg;rw[hFn] at h9;cases h9
      have hBn:B'.get i=none:=by
       cases hg:B'.get i with
       |none=>rfl
       |some b=>have h9:=k2.bf.2 _ _ hg;rw[hFn] at h9;cases h9
      have hF1n:F1.get i=none:=by
       cases hg:F1.get i with
       |none=>rfl
       |some b=>have h9:=hG2.le.2 _ _ hg;rw[hσn] at h9;cases h9
      refine⟨Nat.le_of_not_lt fun hlt=>?_,Heap.over_none hBn hF1n⟩;have hdead:=k1.d.2 i hlt hσn;rcases m1 with⟨_,_,h2⟩|⟨_,i',cap,c,t,h2,_,h3,_⟩
      ·rw[h2] at hi;cases hi
      ·rw[h2] at hi;obtain rfl:=osj hi;rw[h3] at hdead;cases hdead
     have hsep:∀ j j' i,j<bs.length→j'<bs.length→j≠j'→Oid (mapP pl' mp j) i→Oid (mapP pl' mp j') i→False:=fun j j' i hj hj' hne hi hi'=>by
      have hb1:=List.getElem?_eq_getElem hj;have hb2:=List.getElem?_eq_getElem hj';have r1:=List.all_eq_true.1 hbl _ (List.getElem_mem hj);have r2:=List.all_eq_true.1 hbl _ (List.getElem_mem hj');have l1:(bs[j]).live=true:=by cases hbb:bs[j]<;>first|rfl|(rw[hbb] at r1;cases r1)
      have l2:(bs[j']).live=true:=by cases hbb:bs[j']<;>first|rfl|(rw[hbb] at r2;cases r2)
      obtain⟨a,e1,e2,e3⟩:=(Q0i k2 (hob j _ hb1)).2 l1 i hi;obtain⟨a',e1',e2',e3'⟩:=(Q0i k2 (hob j' _ hb2)).2 l2 i hi';by_cases e:a=a'
      ·subst e;exact hne (hinj j j' a e1 e1')
      ·exact k2.sep a a' i e e2 e2' e3 e3'
     have hFσ:F1.Le σ':=hG2.le.trans hle;have hoth:∀ d,(oget s2.own d).live=true→∀ i,Oid (pl1 d) i→B'.get i=none∧σ'.get i=σ.get i:=fun d hl i hi=>by
      refine⟨?_,hG2.heap_get hle hl hi⟩;have hlt:=(hG2.obj d).id_lt hl hi;cases hg:σ.get i with
      |none =>
       have hn:=k1.d.2 i hlt hg;cases hb':B'.get i with
       |none=>rfl
       |some bb=>have:=hBσ.2 _ _ hb';rw[hn] at this;cases this
      |some bb =>
       refine k1.x i bb hg ?_;cases hb':B1.get i with
       |none=>rfl
       |some b2=>have:=hG2.bf.2 _ _ hb';rw[hG2.fresh d i hl hi] at this;cases this
     have hG3:Gam P B' (B'.over F1) pl1 tb1 s2 env σ':=⟨Heap.over_left,Heap.over_le hBσ hFσ,SRs.mono k1.b (fun _ _ h=>h) _ _ hG2.env,fun d=>(hG2.obj d).mono k1.b (fun _ _ h=>h) fun hl i hi=>(hoth d hl i hi).2,fun d i q1 q2=>Heap.over_none (hoth d q1 i q2).1 (hG2.fresh d i q1 q2),hG2.sep,hG2.free⟩;obtain⟨plF,h5,h6⟩:=Z9l (d:=d) (nt:=500000) (σ0:=σ) (tbc:=noTb) (by omega) (mapP pl' mp) bs (Heap.over_le hBσ hFσ) hpl hsep bs 0 pl1 s2 rfl hG3 (fun k i hl hi=>.inl ((hG2.obj k).id_lt hl hi)) (fun j' hj'=>by omega);refine⟨u,σ',.refl _ _ _,hK _ _ B' (B'.over F1) plF tb1 u σ' hx (gb1.trans (.over k1.b hBσ hFσ (fun i b e1 e2=>k1.x i b (hG2.le.2 _ _ e1) e2) k1.d)) h5 ?_⟩;exact SR.ren (tb:=noTb) (fun j hj=>h6 j hj) _ _ hv hsr
    ·exact h.elim
   ·exact h.elim
  cases e with
  |normal=>exact main h1
  |ret=>exact main h1
  |_=>exact h1.elim
 ·exact hx.elim
theorem J7m {f:Nat}{vc:VCode}{rs:List VResult}{nt:Nat}(h:Fun P f vc rs nt) (hm:P.follows .mixedOrders=true) {ap:Ap}(hap:ApOk P ap) {D:Type}{la:AL D}{pre:D→Prop}{res:D→SV}{obs:D→List OB}
  {C:Cx}(hcs:COk P C) {L:D→List (Nat×LoopAnn)}{V:D→Prop}
  (hq:∀ y,gwp C (L y) vc 0 (gend rs (res y) (obs y)) (gstart nt (AL.can la y))=V y)
  (hb:∀ y,pre y→V y):XOk P f (callV ap (mkSp la pre res obs)):=X6o h hm fun as0 c v bs hs hc=>by
 unfold mkSp at hs;split at hs
 ·rename_i y h2;obtain⟨rfl,rfl,rfl⟩:=(by simpa using hs:pre y=c∧res y=v∧obs y=bs);exact⟨C,L y,AL.can la y,AL.can_pure la y,fun σ vs hv=>AL.dec_sound hap la h2 hv,hcs,(hq y).mpr (hb y hc)⟩
 ·cases hs
end
end Go.V
set_option linter.unusedVariables false
namespace Go.Proofs.Tryz
open Go Go.V Go.Proofs
def deadX:XSp:=fun _ _ _ _=>False
theorem Z2d {P:Program}{f:Nat}:XOk P f deadX:=fun _ _ _ _ _ _ _ _ _ _ _ _ _ _ hx _=>hx.elim
def len8T:List UInt8:=[0,1,2,2,3,3,3,3,4,4,4,4,4,4,4,4,5,5,5,5,5,5,5,5,5,5,5,5,5,5,5,5,6,6,6,6,6,6,6,6,6,6,6,6,6,6,6,6,6,6,6,6,6,6,6,6,6,6,6,6,6,6,6,6,7,7,7,7,7,7,7,7,7,7,7,7,7,7,7,7,7,7,7,7,7,7,7,7,7,7,7,7,7,7,7,7,7,7,7,7,7,7,7,7,7,7,7,7,7,7,7,7,7,7,7,7,7,7,7,7,7,7,7,7,7,7,7,7,8,8,8,8,8,8,8,8,8,8,8,8,8,8,8,8,8,8,8,8,8,8,8,8,8,8,8,8,8,8,8,8,8,8,8,8,8,8,8,8,8,8,8,8,8,8,8,8,8,8,8,8,8,8,8,8,8,8,8,8,8,8,8,8,8,8,8,8,8,8,8,8,8,8,8,8,8,8,8,8,8,8,8,8,8,8,8,8,8,8,8,8,8,8,8,8,8,8,8,8,8,8,8,8,8,8,8,8,8,8,8,8,8,8,8,8,8,8,8,8,8,8,8,8,8,8,8,8]
def lenB (x:Int):Int:=((UInt8.toNat (List.getD len8T (Int.toNat x) 0):Nat):Int)
def cmpII (p:Int×Int):Int:=cmpI p.1 p.2
def bubL {α:Type}[Inhabited α] (lt:α→α→Bool) (a:Nat):Nat→List α→List α
 |0,xs=>xs
 |j+1,xs=>if a<j+1∧lt (xs.getD (j+1) default) (xs.getD j default)=true then bubL lt a j ((xs.set (j+1) (xs.getD j default)).set j (xs.getD (j+1) default)) else xs
def insG {α:Type}[Inhabited α] (lt:α→α→Bool) (a:Nat):Nat→List α→List α
 |0,xs=>xs
 |n+1,xs=>bubL lt a (a+1+n) (insG lt a n xs)
def insC {α:Type}[Inhabited α] (f:α×α→Int) (xs:List α) (a b:Nat):List α:=insG (fun x y=>decide (f (x,y)<0)) a (b-a-1) xs
section
variable {α:Type}[Inhabited α] {lt:α→α→Bool}
theorem X03 {xs:List α}{j:Nat}(h:j+1<xs.length):((xs.set (j+1) (xs.getD j default)).set j (xs.getD (j+1) default)).Perm xs:=by rw[Q02 (show j<xs.length by omega),Q02 h];exact List.set_set_perm h (by omega)
theorem J8g {a:Nat}:∀ j {xs:List α},j<xs.length→(bubL lt a j xs).Perm xs
 |0,_,_=>.refl _
 |j+1,xs,h=>by
  unfold bubL;split
  ·exact(J8g j (by simp;omega)).trans (X03 h)
  ·exact .refl _
theorem Z14 {a:Nat}{xs:List α}:∀ n,a+n<xs.length∨n=0→(insG lt a n xs).Perm xs
 |0,_=>.refl _
 |n+1,h=>by have ih:=Z14 (a:=a) (xs:=xs) n (by omega);unfold insG;exact(J8g _ (by rw[ih.length_eq];omega)).trans ih
theorem Q3d {f:α×α→Int}{xs:List α}{a b:Nat}(h:b≤xs.length):(insC f xs a b).Perm xs:=Z14 _ (by omega)
theorem X4f {a j:Nat}{xs:List α}(hj:a<j) (h:lt (xs.getD j default) (xs.getD (j-1) default)=true):bubL lt a j xs=bubL lt a (j-1) ((xs.set j (xs.getD (j-1) default)).set (j-1) (xs.getD j default)):=by obtain⟨k,rfl⟩:∃ k,j=k+1:=⟨j-1,by omega⟩;rw[Nat.add_sub_cancel] at h ⊢;rw[bubL,if_pos ⟨hj,h⟩]
theorem X4g {a j:Nat}{xs:List α}(h:¬ (a<j∧lt (xs.getD j default) (xs.getD (j-1) default)=true)):bubL lt a j xs=xs:=by
 cases j with
 |zero=>rfl
 |succ k=>rw[Nat.add_sub_cancel] at h;rw[bubL,if_neg h]
theorem X1d {xs:List α}{j q:Nat}(h:j+1<xs.length):((xs.set (j+1) (xs.getD j default)).set j (xs.getD (j+1) default)).getD q default=if q=j then xs.getD (j+1) default else if q=j+1 then xs.getD j default else xs.getD q default:=by
 simp only[List.getD_eq_getElem?_getD,List.getElem?_set,List.length_set];by_cases h1:j=q
 ·subst h1;rw[if_pos rfl,if_pos (by omega),if_pos rfl];rfl
 ·rw[if_neg h1,if_neg (show ¬ q=j from fun e=>h1 e.symm)];by_cases h2:j+1=q
  ·subst h2;rw[if_pos rfl,if_pos h,if_pos rfl];rfl
  ·rw[if_neg h2,if_neg (show ¬ q=j+1 from fun e=>h2 e.symm)]
def SortTo (lt:α→α→Bool) (i:Nat) (xs:List α):Prop:=∀ p q,p<q→q≤i→lt (xs.getD q default) (xs.getD p default)=false
theorem J8o (has:∀ x y,lt x y=true→lt y x=false) (htr:∀ x y z,lt y x=false→lt z y=false→lt z x=false) {i:Nat}:∀ j {xs:List α},j≤i→i<xs.length→(∀ p q,p<q→q≤i→q≠j→lt (xs.getD q default) (xs.getD p default)=false)→SortTo lt i (bubL lt 0 j xs)
 |0,xs,_,_,h=>fun p q h1 h2=>by rw[bubL];exact h p q h1 h2 (by omega)
 |j+1,xs,hj,hi,h=>by
  rw[bubL];split
  ·rename_i hc;refine J8o has htr j (by omega) (by simp;exact hi) fun p q h1 h2 h3=>?_;rw[X1d (by omega),X1d (by omega),if_neg h3];by_cases hq:q=j+1
   ·rw[if_pos hq];by_cases hp:p=j
    ·rw[if_pos hp];exact has _ _ hc.2
    ·rw[if_neg hp,if_neg (by omega)];exact h p j (by omega) (by omega) (by omega)
   ·rw[if_neg hq];by_cases hp:p=j
    ·rw[if_pos hp];exact h (j+1) q (by omega) h2 (by omega)
    ·rw[if_neg hp];by_cases hp2:p=j+1
     ·rw[if_pos hp2];exact h j q (by omega) h2 (by omega)
     ·rw[if_neg hp2];exact h p q h1 h2 (by omega)
  ·rename_i hc;have hc:lt (xs.getD (j+1) default) (xs.getD j default)=false:=by
    cases h5:lt (xs.getD (j+1) default) (xs.getD j default) with
    |false=>rfl
    |true=>exact(hc ⟨by omega,h5⟩).elim
   intro p q h1 h2;by_cases hq:q=j+1
   ·subst hq;by_cases hp:p=j
    ·subst hp;exact hc
    ·exact htr _ _ _ (h p j (by omega) (by omega) (by omega)) hc
   ·exact h p q h1 h2 hq
theorem J8m (has:∀ x y,lt x y=true→lt y x=false) (htr:∀ x y z,lt y x=false→lt z y=false→lt z x=false) {xs:List α}:∀ n,n<xs.length→SortTo lt n (insG lt 0 n xs)
 |0,_=>fun p q h1 h2=>by omega
 |n+1,h=>by have ih:=J8m has htr (xs:=xs) n (by omega);have hp:=Z14 (lt:=lt) (a:=0) (xs:=xs) n (by omega);unfold insG;rw[show 0+1+n=n+1 by omega];exact J8o has htr (n+1) (Nat.le_refl _) (by rw[hp.length_eq];omega) fun p q h1 h2 h3=>ih p q h1 (by omega)
theorem J1x {f:α×α→Int}(has:∀ x y,f (x,y)<0→¬ f (y,x)<0) (htr:∀ x y z,¬ f (y,x)<0→¬ f (z,y)<0→¬ f (z,x)<0) (xs:List α):(insC f xs 0 xs.length).Pairwise fun x y=>¬ f (y,x)<0:=by
 cases hx:xs with
 |nil=>exact List.Pairwise.nil
 |cons x0 t =>
  have hlen:0<xs.length:=by rw[hx];simp
  rw[←hx];have h:=J8m (lt:=fun x y=>decide (f (x,y)<0)) (fun x y h=>by simpa using has x y (by simpa using h)) (fun x y z h1 h2=>by simpa using htr x y z (by simpa using h1) (by simpa using h2)) (xs:=xs) (xs.length-0-1) (by omega);have hl:=(Q3d (f:=f) (a:=0) (Nat.le_refl xs.length)).length_eq;refine List.pairwise_iff_getElem.2 fun p q hp hq hpq=>?_;have:=h p q hpq (by omega);have hq':(insG (fun x y=>decide (f (x,y)<0)) 0 (xs.length-0-1) xs).getD q default=(insC f xs 0 xs.length)[q]:=Q02 hq;have hp':(insG (fun x y=>decide (f (x,y)<0)) 0 (xs.length-0-1) xs).getD p default=(insC f xs 0 xs.length)[p]:=Q02 hp;rw[hq',hp'] at this;simpa using this
end
theorem Z7o {x y:Int}:cmpII (x,y)<0↔x<y:=by unfold cmpII cmpI;dsimp only;split<;>(try split)<;>omega
theorem sortI (xs:List Int):(insC cmpII xs 0 xs.length).Pairwise (·≤·) :=
 (J1x (f:=cmpII) (fun x y h h2=>by rw[Z7o] at h h2;omega) (fun x y z h1 h2 h3=>by rw[Z7o] at h1 h2 h3;omega) xs).imp fun h=>by rw[Z7o] at h;omega
theorem sortS {xs:List Int}(h:xs.Nodup):(insC cmpII xs 0 xs.length).Pairwise (·<·):=by
 have h2:=(Q3d (f:=cmpII) (a:=0) (Nat.le_refl xs.length)).nodup_iff.2 h;exact((sortI xs).and h2).imp fun h=>by have:=h.1;have:=h.2;omega
def cmpP (l:List Lot) (p:Int×Int):Int:=orI [cmpI (l.getD p.1.toNat lotD).1 (l.getD p.2.toNat lotD).1,cmpI (l.getD p.1.toNat lotD).2.1.1 (l.getD p.2.toNat lotD).2.1.1]
theorem X0x {a j:Nat}{α:Type}[Inhabited α] {f:α×α→Int}{ys T:List α}(e:bubL (fun x y=>decide (f (x,y)<0)) a j ys=T) (h:¬ (a<j∧f (ys.getD j default,ys.getD (j-1) default)<0)):ys=T:=by rw[←e,X4g];intro hh;exact h ⟨hh.1,by simpa using hh.2⟩
theorem J70 {a j:Nat}{α:Type}[Inhabited α] {f:α×α→Int}{ys T:List α}(e:bubL (fun x y=>decide (f (x,y)<0)) a j ys=T) (hj:a<j) (h:f (ys.getD j default,ys.getD (j-1) default)<0):bubL (fun x y=>decide (f (x,y)<0)) a (j-1) ((ys.set j (ys.getD (j-1) default)).set (j-1) (ys.getD j default))=T:=by rw[←e,X4f hj (by simpa using h)]
theorem Z8p {α:Type}[Inhabited α] {xs:List α}{j:Nat}(h0:0<j) (h:j<xs.length):((xs.set j (xs.getD (j-1) default)).set (j-1) (xs.getD j default)).Perm xs:=by obtain⟨k,rfl⟩:∃ k,j=k+1:=⟨j-1,by omega⟩;exact X03 h
end Go.Proofs.Tryz
set_option linter.unusedVariables false
namespace Go.Proofs.Tryz
open Go Go.V Go.Proofs
def Q5v:AL (Int×Int×(List (Int×(Int×Int)×Int))×Int):=(.cons (.k (.i .i64)) (.cons (.k (.i .i64)) (.one (.ptr (.cons (.k (.list (.pair (.i .i64) (.pair (.pair (.i .i64) (.i .i64)) (.i .i64))))) (.one (.k (.i .i64))))))))
def Z16 (d:Int×Int×(List (Int×(Int×Int)×Int))×Int):Prop:=d.2.2.1.length≤12∧(∀ y∈d.2.2.1,lotOk y=true)∧0≤d.1∧d.1<d.2.2.1.length∧0≤d.2.1∧d.2.1<d.2.2.1.length
def Q59 (d:Int×Int×(List (Int×(Int×Int)×Int))×Int):SV:=.val (.i .i64) (cmpP d.2.2.1 (d.1,d.2.1))
def Q5d (d:Int×Int×(List (Int×(Int×Int)×Int))×Int):List OB:=[]
def Q1z:CSp:=mkSp Q5v Z16 Q59 Q5d
def Q1k (a:Int) (b:Int) (l:List (Int×(Int×Int)×Int)) (tl:Int):Prop :=
 (0≤a)∧(a<(List.length l))∧(0≤b)∧(b<(List.length l))∧(True)∧(0≤a)∧(a<(List.length l))∧(0≤b)∧(b<(List.length l))∧(True)∧([(cmpI ((gD l a (0,((0,0),0))).1) ((gD l b (0,((0,0),0))).1)),(cmpI ((gD l a (0,((0,0),0))).2.1.1) ((gD l b (0,((0,0),0))).2.1.1))].length≤1000)∧((orI [(cmpI ((gD l a (0,((0,0),0))).1) ((gD l b (0,((0,0),0))).1)),(cmpI ((gD l a (0,((0,0),0))).2.1.1) ((gD l b (0,((0,0),0))).2.1.1))])=(cmpP l (a,b))∧(True))
def Q69:Cx:=⟨[(3,(.i .i64))],[(81,Q48),(80,Z4b)],36,[],0,[],[],[],[],false,[],[],[],[]⟩
def Z1y (a:Int) (b:Int) (l:List (Int×(Int×Int)×Int)) (tl:Int):List (Nat×LoopAnn):=[]
set_option maxRecDepth 100000 in
theorem Z1q (d:Int×Int×(List (Int×(Int×Int)×Int))×Int):gwp (Q69) (Z1y d.1 d.2.1 d.2.2.1 d.2.2.2) c95 0 (gend [.tmp 5] (Q59 d) (Q5d d)) (gstart 36 (AL.can Q5v d))=Q1k d.1 d.2.1 d.2.2.1 d.2.2.2:=by kernel_rfl
abbrev Z21:Prop:=OkC Tryz.prog 95 Q1z
theorem Z24 (h:∀ (a:Int) (b:Int) (l:List (Int×(Int×Int)×Int)) (tl:Int),(l.length≤12∧(∀ y∈l,lotOk y=true)∧0≤a∧a<l.length∧0≤b∧b<l.length)→Q1k a b l tl):OkC Tryz.prog 95 Q1z :=
 Q13 fun95 mixed (C:=Q69) (V:=fun (d:Int×Int×(List (Int×(Int×Int)×Int))×Int)=>Q1k d.1 d.2.1 d.2.2.1 d.2.2.2) ⟨(.cons Z0a (.cons J7h .nil)),XsOk.nil,ItsOk.nil,YlOk.nil,IysOk.nil,XfOk.nil⟩ (Z1q) fun d hp=>h d.1 d.2.1 d.2.2.1 d.2.2.2 hp
theorem Q60:Z21:=Z24 fun a b l tl h=>by obtain⟨h1,h2,h3,h4,h5,h6⟩:=h;unfold Q1k;(try delta lI gD sT I64);simp only[List.length_cons,List.length_nil];and_intros<;>first|omega|trivial|rfl
def Z0f:AL (Int):=(.one (.k (.i .u32)))
def Z6h (d:Int):Prop:=False
def Q93 (d:Int):SV:=.val (.i .i64) (lenB d)
def Q9o (d:Int):List OB:=[]
def Q6o:CSp:=mkSp Z0f Z6h Q93 Q9o
def Q68 (x:Int):Prop :=
 ((decide (x≥(65536:Int)))=true →
  (0≤(16:Int))∧((decide ((shrI .u32 x (16:Int))≥(256:Int)))=true →
   (0≤(8:Int))∧(I64 ((16:Int)+(8:Int)))∧(InK .u8 (shrI .u32 (shrI .u32 x (16:Int)) (8:Int)))∧(0≤(shrI .u32 (shrI .u32 x (16:Int)) (8:Int)))∧((shrI .u32 (shrI .u32 x (16:Int)) (8:Int))<(List.length len8T))∧(I64 ((UInt8.toNat (gD len8T (shrI .u32 (shrI .u32 x (16:Int)) (8:Int)) 0):Nat):Int))∧(I64 (((16:Int)+(8:Int))+((UInt8.toNat (gD len8T (shrI .u32 (shrI .u32 x (16:Int)) (8:Int)) 0):Nat):Int)))∧((((16:Int)+(8:Int))+((UInt8.toNat (gD len8T (shrI .u32 (shrI .u32 x (16:Int)) (8:Int)) 0):Nat):Int))=(lenB x)∧(True))) ∧
  ((decide ((shrI .u32 x (16:Int))≥(256:Int)))=false →
   (InK .u8 (shrI .u32 x (16:Int)))∧(0≤(shrI .u32 x (16:Int)))∧((shrI .u32 x (16:Int))<(List.length len8T))∧(I64 ((UInt8.toNat (gD len8T (shrI .u32 x (16:Int)) 0):Nat):Int))∧(I64 ((16:Int)+((UInt8.toNat (gD len8T (shrI .u32 x (16:Int)) 0):Nat):Int)))∧(((16:Int)+((UInt8.toNat (gD len8T (shrI .u32 x (16:Int)) 0):Nat):Int))=(lenB x)∧(True)))) ∧
 ((decide (x≥(65536:Int)))=false →
  ((decide (x≥(256:Int)))=true →
   (0≤(8:Int))∧(I64 ((0:Int)+(8:Int)))∧(InK .u8 (shrI .u32 x (8:Int)))∧(0≤(shrI .u32 x (8:Int)))∧((shrI .u32 x (8:Int))<(List.length len8T))∧(I64 ((UInt8.toNat (gD len8T (shrI .u32 x (8:Int)) 0):Nat):Int))∧(I64 (((0:Int)+(8:Int))+((UInt8.toNat (gD len8T (shrI .u32 x (8:Int)) 0):Nat):Int)))∧((((0:Int)+(8:Int))+((UInt8.toNat (gD len8T (shrI .u32 x (8:Int)) 0):Nat):Int))=(lenB x)∧(True))) ∧
  ((decide (x≥(256:Int)))=false →
   (InK .u8 x)∧(0≤x)∧(x<(List.length len8T))∧(I64 ((UInt8.toNat (gD len8T x 0):Nat):Int))∧(I64 ((0:Int)+((UInt8.toNat (gD len8T x 0):Nat):Int)))∧(((0:Int)+((UInt8.toNat (gD len8T x 0):Nat):Int))=(lenB x)∧(True))))
def Z08:Cx:=⟨[],[],19,[],0,[],[],[],[],false,[],[],[],[]⟩
def Z8a (x:Int):List (Nat×LoopAnn):=[]
set_option maxRecDepth 100000 in
theorem Z74 (d:Int):gwp (Z08) (Z8a d) c120 0 (gend [.tmp 2] (Q93 d) (Q9o d)) (gstart 19 (AL.can Z0f d))=Q68 d:=by kernel_rfl
abbrev Z8i:Prop:=OkC Tryz.prog 120 Q6o
theorem Z76 (h:∀ (x:Int),(False)→Q68 x):OkC Tryz.prog 120 Q6o :=
 Q13 fun120 mixed (C:=Z08) (V:=fun (d:Int)=>Q68 d) ⟨.nil,XsOk.nil,ItsOk.nil,YlOk.nil,IysOk.nil,XfOk.nil⟩ (Z74) fun d hp=>h d hp
theorem Z7v:Z8i:=Z76 fun x h=>h.elim
def Z0c:AL (Int):=(.one (.k (.i .u64)))
def Z6v (d:Int):Prop:=0≤d∧d≤255
def Q9j (d:Int):SV:=.val (.i .i64) (lenB d)
def Q9r (d:Int):List OB:=[]
def Q6p:CSp:=mkSp Z0c Z6v Q9j Q9r
def Q3l (x:Int):Prop :=
 ((decide (x≥(4294967296:Int)))=true →
  (0≤(32:Int))∧((decide ((shrI .u64 x (32:Int))≥(65536:Int)))=true →
   (0≤(16:Int))∧(I64 ((32:Int)+(16:Int)))∧((decide ((shrI .u64 (shrI .u64 x (32:Int)) (16:Int))≥(256:Int)))=true →
    (0≤(8:Int))∧(I64 (((32:Int)+(16:Int))+(8:Int)))∧(InK .u8 (shrI .u64 (shrI .u64 (shrI .u64 x (32:Int)) (16:Int)) (8:Int)))∧(0≤(shrI .u64 (shrI .u64 (shrI .u64 x (32:Int)) (16:Int)) (8:Int)))∧((shrI .u64 (shrI .u64 (shrI .u64 x (32:Int)) (16:Int)) (8:Int))<(List.length len8T))∧(I64 ((UInt8.toNat (gD len8T (shrI .u64 (shrI .u64 (shrI .u64 x (32:Int)) (16:Int)) (8:Int)) 0):Nat):Int))∧(I64 ((((32:Int)+(16:Int))+(8:Int))+((UInt8.toNat (gD len8T (shrI .u64 (shrI .u64 (shrI .u64 x (32:Int)) (16:Int)) (8:Int)) 0):Nat):Int)))∧(((((32:Int)+(16:Int))+(8:Int))+((UInt8.toNat (gD len8T (shrI .u64 (shrI .u64 (shrI .u64 x (32:Int)) (16:Int)) (8:Int)) 0):Nat):Int))=(lenB x)∧(True))) ∧
   ((decide ((shrI .u64 (shrI .u64 x (32:Int)) (16:Int))≥(256:Int)))=false →
    (InK .u8 (shrI .u64 (shrI .u64 x (32:Int)) (16:Int)))∧(0≤(shrI .u64 (shrI .u64 x (32:Int)) (16:Int)))∧((shrI .u64 (shrI .u64 x (32:Int)) (16:Int))<(List.length len8T))∧(I64 ((UInt8.toNat (gD len8T (shrI .u64 (shrI .u64 x (32:Int)) (16:Int)) 0):Nat):Int))∧(I64 (((32:Int)+(16:Int))+((UInt8.toNat (gD len8T (shrI .u64 (shrI .u64 x (32:Int)) (16:Int)) 0):Nat):Int)))∧((((32:Int)+(16:Int))+((UInt8.toNat (gD len8T (shrI .u64 (shrI .u64 x (32:Int)) (16:Int)) 0):Nat):Int))=(lenB x)∧(True)))) ∧
  ((decide ((shrI .u64 x (32:Int))≥(65536:Int)))=false →
   ((decide ((shrI .u64 x (32:Int))≥(256:Int)))=true →
    (0≤(8:Int))∧(I64 ((32:Int)+(8:Int)))∧(InK .u8 (shrI .u64 (shrI .u64 x (32:Int)) (8:Int)))∧(0≤(shrI .u64 (shrI .u64 x (32:Int)) (8:Int)))∧((shrI .u64 (shrI .u64 x (32:Int)) (8:Int))<(List.length len8T))∧(I64 ((UInt8.toNat (gD len8T (shrI .u64 (shrI .u64 x (32:Int)) (8:Int)) 0):Nat):Int))∧(I64 (((32:Int)+(8:Int))+((UInt8.toNat (gD len8T (shrI .u64 (shrI .u64 x (32:Int)) (8:Int)) 0):Nat):Int)))∧((((32:Int)+(8:Int))+((UInt8.toNat (gD len8T (shrI .u64 (shrI .u64 x (32:Int)) (8:Int)) 0):Nat):Int))=(lenB x)∧(True))) ∧
   ((decide ((shrI .u64 x (32:Int))≥(256:Int)))=false →
    (InK .u8 (shrI .u64 x (32:Int)))∧(0≤(shrI .u64 x (32:Int)))∧((shrI .u64 x (32:Int))<(List.length len8T))∧(I64 ((UInt8.toNat (gD len8T (shrI .u64 x (32:Int)) 0):Nat):Int))∧(I64 ((32:Int)+((UInt8.toNat (gD len8T (shrI .u64 x (32:Int)) 0):Nat):Int)))∧(((32:Int)+((UInt8.toNat (gD len8T (shrI .u64 x (32:Int)) 0):Nat):Int))=(lenB x)∧(True))))) ∧
 ((decide (x≥(4294967296:Int)))=false →
  ((decide (x≥(65536:Int)))=true →
   (0≤(16:Int))∧(I64 ((0:Int)+(16:Int)))∧((decide ((shrI .u64 x (16:Int))≥(256:Int)))=true →
    (0≤(8:Int))∧(I64 (((0:Int)+(16:Int))+(8:Int)))∧(InK .u8 (shrI .u64 (shrI .u64 x (16:Int)) (8:Int)))∧(0≤(shrI .u64 (shrI .u64 x (16:Int)) (8:Int)))∧((shrI .u64 (shrI .u64 x (16:Int)) (8:Int))<(List.length len8T))∧(I64 ((UInt8.toNat (gD len8T (shrI .u64 (shrI .u64 x (16:Int)) (8:Int)) 0):Nat):Int))∧(I64 ((((0:Int)+(16:Int))+(8:Int))+((UInt8.toNat (gD len8T (shrI .u64 (shrI .u64 x (16:Int)) (8:Int)) 0):Nat):Int)))∧(((((0:Int)+(16:Int))+(8:Int))+((UInt8.toNat (gD len8T (shrI .u64 (shrI .u64 x (16:Int)) (8:Int)) 0):Nat):Int))=(lenB x)∧(True))) ∧
   ((decide ((shrI .u64 x (16:Int))≥(256:Int)))=false →
    (InK .u8 (shrI .u64 x (16:Int)))∧(0≤(shrI .u64 x (16:Int)))∧((shrI .u64 x (16:Int))<(List.length len8T))∧(I64 ((UInt8.toNat (gD len8T (shrI .u64 x (16:Int)) 0):Nat):Int))∧(I64 (((0:Int)+(16:Int))+((UInt8.toNat (gD len8T (shrI .u64 x (16:Int)) 0):Nat):Int)))∧((((0:Int)+(16:Int))+((UInt8.toNat (gD len8T (shrI .u64 x (16:Int)) 0):Nat):Int))=(lenB x)∧(True)))) ∧
  ((decide (x≥(65536:Int)))=false →
   ((decide (x≥(256:Int)))=true →
    (0≤(8:Int))∧(I64 ((0:Int)+(8:Int)))∧(InK .u8 (shrI .u64 x (8:Int)))∧(0≤(shrI .u64 x (8:Int)))∧((shrI .u64 x (8:Int))<(List.length len8T))∧(I64 ((UInt8.toNat (gD len8T (shrI .u64 x (8:Int)) 0):Nat):Int))∧(I64 (((0:Int)+(8:Int))+((UInt8.toNat (gD len8T (shrI .u64 x (8:Int)) 0):Nat):Int)))∧((((0:Int)+(8:Int))+((UInt8.toNat (gD len8T (shrI .u64 x (8:Int)) 0):Nat):Int))=(lenB x)∧(True))) ∧
   ((decide (x≥(256:Int)))=false →
    (InK .u8 x)∧(0≤x)∧(x<(List.length len8T))∧(I64 ((UInt8.toNat (gD len8T x 0):Nat):Int))∧(I64 ((0:Int)+((UInt8.toNat (gD len8T x 0):Nat):Int)))∧(((0:Int)+((UInt8.toNat (gD len8T x 0):Nat):Int))=(lenB x)∧(True)))))
def Z0d:Cx:=⟨[],[],25,[],0,[],[],[],[],false,[],[],[],[]⟩
def Z8e (x:Int):List (Nat×LoopAnn):=[]
set_option maxRecDepth 100000 in
theorem Z7h (d:Int):gwp (Z0d) (Z8e d) c121 0 (gend [.tmp 2] (Q9j d) (Q9r d)) (gstart 25 (AL.can Z0c d))=Q3l d:=by kernel_rfl
abbrev Z77:Prop:=OkC Tryz.prog 121 Q6p
theorem Z8c (h:∀ (x:Int),(0≤x∧x≤255)→Q3l x):OkC Tryz.prog 121 Q6p :=
 Q13 fun121 mixed (C:=Z0d) (V:=fun (d:Int)=>Q3l d) ⟨.nil,XsOk.nil,ItsOk.nil,YlOk.nil,IysOk.nil,XfOk.nil⟩ (Z7h) fun d hp=>h d hp
theorem Z86:Z77:=Z8c fun x h=>by
 obtain⟨h1,h2⟩:=h;unfold Q3l;(try delta lI gD sT I64);have hlt:(UInt8.toNat (List.getD len8T (Int.toNat x) 0):Int)≤255:=by have:=(List.getD len8T (Int.toNat x) 0).toNat_lt;omega
 refine⟨fun c=>by simp at c;omega,fun _=>⟨fun c=>by simp at c;omega,fun _=>⟨fun c=>by simp at c;omega,fun _=>?_⟩⟩⟩;have hl:len8T.length=256:=by decide +kernel
 rw[hl];simp only[X9u,Q0b];refine⟨by omega,h1,by omega,by omega,by omega,?_⟩;unfold lenB;rw[Int.zero_add];exact(by and_intros<;>first|rfl|trivial|simp)
def Z2i:AL (Int):=(.one (.k (.i .u64)))
def Z8x (d:Int):Prop:=0≤d∧d≤255
def Z10 (d:Int):SV:=.val (.i .i64) (lenB d)
def Z1c (d:Int):List OB:=[]
def Q5o:CSp:=mkSp Z2i Z8x Z10 Z1c
def Q4w (x:Int):Prop :=
 (false=true →
  (InK .u32 x)∧(False)∧((lenB x)=(lenB x)∧(True))) ∧
 (false=false →
  (0≤x∧x≤255)∧((lenB x)=(lenB x)∧(True)))
def Z2p:Cx:=⟨[],[(120,Q6o),(121,Q6p)],8,[],0,[],[],[],[],false,[],[],[],[]⟩
def J05 (x:Int):List (Nat×LoopAnn):=[]
set_option maxRecDepth 100000 in
theorem J00 (d:Int):gwp (Z2p) (J05 d) c107 0 (gend [.tmp 2] (Z10 d) (Z1c d)) (gstart 8 (AL.can Z2i d))=Q4w d:=by kernel_rfl
abbrev J0g:Prop:=OkC Tryz.prog 107 Q5o
theorem Z9w (h:∀ (x:Int),(0≤x∧x≤255)→Q4w x):OkC Tryz.prog 107 Q5o :=
 Q13 fun107 mixed (C:=Z2p) (V:=fun (d:Int)=>Q4w d) ⟨(.cons Z7v (.cons Z86 .nil)),XsOk.nil,ItsOk.nil,YlOk.nil,IysOk.nil,XfOk.nil⟩ (J00) fun d hp=>h d hp
theorem Z33:J0g:=Z9w fun x h=>by unfold Q4w;(try delta lI gD sT I64);exact⟨(fun c=>by cases c),fun _=>⟨h,(by and_intros<;>first|rfl|trivial|simp)⟩⟩
def Q26:AL (Int×Int×((Int×Int→Prop)×(Int×Int→Int))):=(.cons (.k (.i .i64)) (.cons (.k (.i .i64)) (.one (.fn [(.i .i64),(.i .i64)] (.i .i64)))))
def Q51 (xs:List Int) (nl:Bool) (d:Int×Int×((Int×Int→Prop)×(Int×Int→Int))):Prop:=0≤d.1∧d.1≤d.2.1∧d.2.1≤xs.length∧xs.length≤12∧(∀ x∈xs,∀ y∈xs,d.2.2.1 (x,y))
def Q1t (xs:List Int) (nl:Bool) (d:Int×Int×((Int×Int→Prop)×(Int×Int→Int))):SV:=.tup []
def Q1p (xs:List Int) (nl:Bool) (d:Int×Int×((Int×Int→Prop)×(Int×Int→Int))):List Int:=(insC d.2.2.2 xs d.1.toNat d.2.1.toNat)
def Q0x:XSp:=lentX (gap [] 3) (lentL 3 (.i .i64) Q26 Q51 Q1t Q1p)
def Q0g (xs:List Int) (nl:Bool) (a:Int) (b:Int) (p:(Int×Int→Prop)×(Int×Int→Int)):Prop:=∀ vals:List Value,
 (I64 (a+(1:Int)))∧∃ (e2:Unit) (d20:(List Int)×Bool×Int),((True∧a=a∧b=b∧(SV.pf [(.i .i64),(.i .i64)] (.i .i64) p.1 p.2=SV.pf [(.i .i64),(.i .i64)] (.i .i64) p.1 p.2)∧(a+(1:Int))=d20.2.2∧True)∧((xs=d20.1∧nl=d20.2.1)∧(vals=vals∧(True∧(([]:List SV)=[])))∧True)) ∧
 LoopP (fun (d2:(List Int)×Bool×Int) (q2:((List Int)×Bool×Int)→Prop) =>
  ((decide (d2.2.2<b))=true →
   ∃ (e5:Bool×Int) (d50:(List Int)×Int),((True∧a=a∧b=b∧(SV.pf [(.i .i64),(.i .i64)] (.i .i64) p.1 p.2=SV.pf [(.i .i64),(.i .i64)] (.i .i64) p.1 p.2)∧d2.2.2=e5.2∧d2.2.2=d50.2∧True)∧((d2.1=d50.1∧d2.2.1=e5.1)∧(vals=vals∧(True∧(([]:List SV)=[])))∧True)) ∧
   LoopP (fun (d5:(List Int)×Int) (q5:((List Int)×Int)→Prop) =>
    ((decide (d5.2 > a))=true→0≤d5.2)∧((decide (d5.2 > a))=true→d5.2<(List.length d5.1))∧((decide (d5.2 > a))=true→InK .i64 (d5.2-(1:Int)))∧((decide (d5.2 > a))=true→0≤(d5.2-(1:Int)))∧((decide (d5.2 > a))=true→(d5.2-(1:Int))<(List.length d5.1))∧((decide (d5.2 > a))=true→p.1 ((gD d5.1 d5.2 0),(gD d5.1 (d5.2-(1:Int)) 0)))∧(((decide (d5.2 > a))&&(decide ((p.2 ((gD d5.1 d5.2 0),(gD d5.1 (d5.2-(1:Int)) 0)))<(0:Int))))=true →
     (I64 (d5.2-(1:Int)))∧(I64 (d5.2-(1:Int)))∧(0≤(d5.2-(1:Int)))∧((d5.2-(1:Int))<(List.length d5.1))∧(0≤d5.2)∧(d5.2<(List.length d5.1))∧(0≤d5.2)∧(d5.2<(List.length d5.1))∧(0≤(d5.2-(1:Int)))∧((d5.2-(1:Int))<(List.length (sT d5.1 d5.2 (gD d5.1 (d5.2-(1:Int)) 0))))∧(I64 (d5.2-(1:Int)))∧(∃ d6:(List Int)×Int,((True∧a=a∧b=b∧(SV.pf [(.i .i64),(.i .i64)] (.i .i64) p.1 p.2=SV.pf [(.i .i64),(.i .i64)] (.i .i64) p.1 p.2)∧e5.2=e5.2∧(d5.2-(1:Int))=d6.2∧True)∧(((sT (sT d5.1 d5.2 (gD d5.1 (d5.2-(1:Int)) 0)) (d5.2-(1:Int)) (gD d5.1 d5.2 0))=d6.1∧e5.1=e5.1)∧(vals=vals∧(True∧(([]:List SV)=[])))∧True))∧q5 d6)) ∧
    (((decide (d5.2 > a))&&(decide ((p.2 ((gD d5.1 d5.2 0),(gD d5.1 (d5.2-(1:Int)) 0)))<(0:Int))))=false →
     (I64 (e5.2+(1:Int)))∧(∃ d7:(List Int)×Bool×Int,((True∧a=a∧b=b∧(SV.pf [(.i .i64),(.i .i64)] (.i .i64) p.1 p.2=SV.pf [(.i .i64),(.i .i64)] (.i .i64) p.1 p.2)∧(e5.2+(1:Int))=d7.2.2∧True)∧((d5.1=d7.1∧e5.1=d7.2.1)∧(vals=vals∧(True∧(([]:List SV)=[])))∧True))∧q2 d7))) d50) ∧
  ((decide (d2.2.2<b))=false →
   (vals=vals∧(True∧(([]:List SV)=[]))∧((([]:List SV)=[]))∧(d2.1=(insC p.2 xs a.toNat b.toNat)∧d2.2.1=nl)))) d20
def Q22:Cx:=⟨[],[],53,[],0,[],[],[],[],false,[],[],[],[]⟩
def Q23 (xs:List Int) (nl:Bool) (a:Int) (b:Int) (p:(Int×Int→Prop)×(Int×Int→Int)) (vals:List Value):List (Nat×LoopAnn):=[(0,⟨Unit,(List Int)×Bool×Int,[0,1,2,3,8],fun e x=>[.lst 0,.val (.i .i64) a,.val (.i .i64) b,.pf [(.i .i64),(.i .i64)] (.i .i64) p.1 p.2,.val (.i .i64) x.2.2],fun e x=>[(0,.slot 0,.lst 3 (.i .i64) x.1 x.2.1),(4000000,.key 4000000,.stk [.lst 0] vals)]⟩),
 (2,⟨Bool×Int,(List Int)×Int,[0,1,2,3,8,9],fun e x=>[.lst 0,.val (.i .i64) a,.val (.i .i64) b,.pf [(.i .i64),(.i .i64)] (.i .i64) p.1 p.2,.val (.i .i64) e.2,.val (.i .i64) x.2],fun e x=>[(0,.slot 0,.lst 3 (.i .i64) x.1 e.1),(4000000,.key 4000000,.stk [.lst 0] vals)]⟩)]
set_option maxRecDepth 100000 in
theorem Q5m (xs:List Int) (nl:Bool) (d:Int×Int×((Int×Int→Prop)×(Int×Int→Int))):(∀ vals,gwp Q22 (Q23 xs nl d.1 d.2.1 d.2.2 vals) c109 0 (lendK vals [] (Q1t xs nl d) (.lst 3 (.i .i64) (Q1p xs nl d) nl) (.lst 0)) (lstart 53 (.lst 0) (.lst 3 (.i .i64) xs nl) vals (AL.can Q26 d)))=Q0g xs nl d.1 d.2.1 d.2.2:=by kernel_rfl
abbrev Q5k:Prop:=XOk Tryz.prog 109 Q0x
theorem Q5l (h:∀ (xs:List Int) (nl:Bool) (a:Int) (b:Int) (p:(Int×Int→Prop)×(Int×Int→Int)),(0≤a∧a≤b∧b≤xs.length∧xs.length≤12∧(∀ x∈xs,∀ y∈xs,p.1 (x,y)))→Q0g xs nl a b p):XOk Tryz.prog 109 Q0x :=
 Z4x fun109 mixed (Z7g .nil 3) (C:=Q22) ⟨.nil,XsOk.nil,ItsOk.nil,YlOk.nil,IysOk.nil,XfOk.nil⟩ (L:=fun xs nl (d:Int×Int×((Int×Int→Prop)×(Int×Int→Int))) vals=>Q23 xs nl d.1 d.2.1 d.2.2 vals) (V:=fun xs nl (d:Int×Int×((Int×Int→Prop)×(Int×Int→Int)))=>Q0g xs nl d.1 d.2.1 d.2.2) Q5m fun xs nl d hp=>h xs nl d.1 d.2.1 d.2.2 hp
theorem Q52:Q5k:=Q5l fun xs nl a b p h=>by
 obtain⟨h1,h2,h3,h4,h5⟩:=h;unfold Q0g;(try delta lI gD sT I64);intro vals;have hI:∀ e:Int,-1000≤e→e≤1000→InK .i64 e:=fun e _ _=>by simp only[Q0b];omega
 obtain⟨a,rfl⟩:∃ n:Nat,a=n:=⟨a.toNat,by omega⟩;obtain⟨b,rfl⟩:∃ n:Nat,b=n:=⟨b.toNat,by omega⟩;simp only[Int.toNat_natCast];refine⟨hI _ (by omega) (by omega),(),(xs,nl,(a:Int)+1),(by and_intros<;>first|rfl|trivial|simp),?_⟩;refine⟨fun d=>∃ n:Nat,d.2.2=(a:Int)+1+n∧(n=0∨a+1+n≤b)∧nl=d.2.1∧d.1=insG (fun x y=>decide (p.2 (x,y)<0)) a n xs,fun d=>(1000-d.2.2).toNat,⟨0,by simp,.inl rfl,rfl,rfl⟩,?_⟩;rintro⟨ys,nl',i⟩ ⟨n,e1,e2,e3,e4⟩;dsimp only at e1 e2 e3 e4 ⊢;subst e1 e3;refine⟨fun c=>?_,fun c=>?_⟩
 ·have c:a+1+n<b:=by simp at c;omega
  have hp:ys.Perm xs:=by rw[e4];exact Z14 _ (by omega)
  have hlen:=hp.length_eq;refine⟨(nl,(a:Int)+1+n),(ys,(a:Int)+1+n),(by and_intros<;>first|rfl|trivial|simp),?_⟩;dsimp only;refine⟨fun d=>∃ j:Nat,d.2=j∧j≤a+1+n∧d.1.Perm xs∧bubL (fun x y=>decide (p.2 (x,y)<0)) a j d.1=insG (fun x y=>decide (p.2 (x,y)<0)) a (n+1) xs,fun d=>d.2.toNat,⟨a+1+n,by simp,Nat.le_refl _,hp,by rw[e4];rfl⟩,?_⟩;rintro⟨zs,j'⟩ ⟨j,f1,f2,f3,f4⟩;dsimp only at f1 f3 f4 ⊢;subst f1;have hlz:=f3.length_eq;have hj1:((j:Int)-1).toNat=j-1:=by omega
  simp only[Int.toNat_natCast,hj1];refine⟨fun g=>by omega,fun g=>by omega,fun g=>hI _ (by omega) (by omega),fun g=>by simp at g;omega,fun g=>by omega,fun g=>by rw[Q02 (show j<zs.length by omega),Q02 (show j-1<zs.length by omega)];exact h5 _ (f3.mem_iff.1 (List.getElem_mem _)) _ (f3.mem_iff.1 (List.getElem_mem _)),fun g=>?_,fun g=>?_⟩
  ·have g:a<j∧p.2 (zs.getD j 0,zs.getD (j-1) 0)<0:=by simpa using g
   refine⟨hI _ (by omega) (by omega),hI _ (by omega) (by omega),by omega,by omega,by omega,by omega,by omega,by omega,by omega,by rw[List.length_set];omega,hI _ (by omega) (by omega),((zs.set j (zs.getD (j-1) 0)).set (j-1) (zs.getD j 0),(j:Int)-1),(by and_intros<;>first|rfl|trivial|simp),⟨j-1,by omega,by omega,(Z8p (by omega) (by omega)).trans f3,J70 f4 g.1 g.2⟩,by dsimp only;omega⟩
  ·refine⟨hI _ (by omega) (by omega),(zs,nl,(a:Int)+1+n+1),(by and_intros<;>first|rfl|trivial|simp),⟨n+1,by simp;omega,by omega,rfl,X0x f4 fun hh=>?_⟩,by dsimp only;omega⟩;have h7:p.2 (zs.getD j 0,zs.getD (j-1) 0)<0:=hh.2;have h8:a<j:=hh.1;rw[decide_eq_true (show (j:Int) > a by omega),decide_eq_true h7] at g;cases g
 ·have hn:n=b-a-1:=by simp at c;omega
  rw[e4,hn];exact(by and_intros<;>first|rfl|trivial|simp)
def Q1n:AL (Int×Int×((List Int×List Int→Prop)×(List Int×List Int→Int))):=(.cons (.k (.i .i64)) (.cons (.k (.i .i64)) (.one (.fn [(.list (.i .i64)),(.list (.i .i64))] (.i .i64)))))
def Q4i (xs:List (List Int)) (nl:Bool) (d:Int×Int×((List Int×List Int→Prop)×(List Int×List Int→Int))):Prop:=0≤d.1∧d.1≤d.2.1∧d.2.1≤xs.length∧xs.length≤12∧(∀ x∈xs,∀ y∈xs,d.2.2.1 (x,y))
def Q1h (xs:List (List Int)) (nl:Bool) (d:Int×Int×((List Int×List Int→Prop)×(List Int×List Int→Int))):SV:=.tup []
def Q1c (xs:List (List Int)) (nl:Bool) (d:Int×Int×((List Int×List Int→Prop)×(List Int×List Int→Int))):List (List Int):=(insC d.2.2.2 xs d.1.toNat d.2.1.toNat)
def Q0s:XSp:=lentF (gap [] 3) (lentL 31 (.list (.i .i64)) Q1n Q4i Q1h Q1c)
def Q0e (xs:List (List Int)) (nl:Bool) (a:Int) (b:Int) (p:(List Int×List Int→Prop)×(List Int×List Int→Int)):Prop:=∀ vals:List Value,
 (I64 (a+(1:Int)))∧∃ (e2:Unit) (d20:(List (List Int))×Bool×Int),((True∧a=a∧b=b∧(SV.pf [(.list (.i .i64)),(.list (.i .i64))] (.i .i64) p.1 p.2=SV.pf [(.list (.i .i64)),(.list (.i .i64))] (.i .i64) p.1 p.2)∧(a+(1:Int))=d20.2.2∧True)∧((xs=d20.1∧nl=d20.2.1)∧(vals=vals∧(True∧(([]:List SV)=[])))∧True)) ∧
 LoopP (fun (d2:(List (List Int))×Bool×Int) (q2:((List (List Int))×Bool×Int)→Prop) =>
  ((decide (d2.2.2<b))=true →
   ∃ (e5:Bool×Int) (d50:(List (List Int))×Int),((True∧a=a∧b=b∧(SV.pf [(.list (.i .i64)),(.list (.i .i64))] (.i .i64) p.1 p.2=SV.pf [(.list (.i .i64)),(.list (.i .i64))] (.i .i64) p.1 p.2)∧d2.2.2=e5.2∧d2.2.2=d50.2∧True)∧((d2.1=d50.1∧d2.2.1=e5.1)∧(vals=vals∧(True∧(([]:List SV)=[])))∧True)) ∧
   LoopP (fun (d5:(List (List Int))×Int) (q5:((List (List Int))×Int)→Prop) =>
    ((decide (d5.2 > a))=true→0≤d5.2)∧((decide (d5.2 > a))=true→d5.2<(List.length d5.1))∧((decide (d5.2 > a))=true→InK .i64 (d5.2-(1:Int)))∧((decide (d5.2 > a))=true→0≤(d5.2-(1:Int)))∧((decide (d5.2 > a))=true→(d5.2-(1:Int))<(List.length d5.1))∧((decide (d5.2 > a))=true→p.1 ((gD d5.1 d5.2 []),(gD d5.1 (d5.2-(1:Int)) [])))∧(((decide (d5.2 > a))&&(decide ((p.2 ((gD d5.1 d5.2 []),(gD d5.1 (d5.2-(1:Int)) [])))<(0:Int))))=true →
     (I64 (d5.2-(1:Int)))∧(I64 (d5.2-(1:Int)))∧(0≤(d5.2-(1:Int)))∧((d5.2-(1:Int))<(List.length d5.1))∧(0≤d5.2)∧(d5.2<(List.length d5.1))∧(0≤d5.2)∧(d5.2<(List.length d5.1))∧(0≤(d5.2-(1:Int)))∧((d5.2-(1:Int))<(List.length (sT d5.1 d5.2 (gD d5.1 (d5.2-(1:Int)) []))))∧(I64 (d5.2-(1:Int)))∧(∃ d6:(List (List Int))×Int,((True∧a=a∧b=b∧(SV.pf [(.list (.i .i64)),(.list (.i .i64))] (.i .i64) p.1 p.2=SV.pf [(.list (.i .i64)),(.list (.i .i64))] (.i .i64) p.1 p.2)∧e5.2=e5.2∧(d5.2-(1:Int))=d6.2∧True)∧(((sT (sT d5.1 d5.2 (gD d5.1 (d5.2-(1:Int)) [])) (d5.2-(1:Int)) (gD d5.1 d5.2 []))=d6.1∧e5.1=e5.1)∧(vals=vals∧(True∧(([]:List SV)=[])))∧True))∧q5 d6)) ∧
    (((decide (d5.2 > a))&&(decide ((p.2 ((gD d5.1 d5.2 []),(gD d5.1 (d5.2-(1:Int)) [])))<(0:Int))))=false →
     (I64 (e5.2+(1:Int)))∧(∃ d7:(List (List Int))×Bool×Int,((True∧a=a∧b=b∧(SV.pf [(.list (.i .i64)),(.list (.i .i64))] (.i .i64) p.1 p.2=SV.pf [(.list (.i .i64)),(.list (.i .i64))] (.i .i64) p.1 p.2)∧(e5.2+(1:Int))=d7.2.2∧True)∧((d5.1=d7.1∧e5.1=d7.2.1)∧(vals=vals∧(True∧(([]:List SV)=[])))∧True))∧q2 d7))) d50) ∧
  ((decide (d2.2.2<b))=false →
   (vals=vals∧(True∧(([]:List SV)=[]))∧((([]:List SV)=[]))∧(d2.1=(insC p.2 xs a.toNat b.toNat)∧d2.2.1=nl)))) d20
def Q1q:Cx:=⟨[],[],53,[0],0,[],[],[],[],false,[],[],[],[]⟩
def Q1m (xs:List (List Int)) (nl:Bool) (a:Int) (b:Int) (p:(List Int×List Int→Prop)×(List Int×List Int→Int)) (vals:List Value):List (Nat×LoopAnn):=[(0,⟨Unit,(List (List Int))×Bool×Int,[0,1,2,3,8],fun e x=>[.lst 0,.val (.i .i64) a,.val (.i .i64) b,.pf [(.list (.i .i64)),(.list (.i .i64))] (.i .i64) p.1 p.2,.val (.i .i64) x.2.2],fun e x=>[(0,.slot 0,.lst 31 (.list (.i .i64)) x.1 x.2.1),(4000000,.key 4000000,.stk [.lst 0] vals)]⟩),
 (2,⟨Bool×Int,(List (List Int))×Int,[0,1,2,3,8,9],fun e x=>[.lst 0,.val (.i .i64) a,.val (.i .i64) b,.pf [(.list (.i .i64)),(.list (.i .i64))] (.i .i64) p.1 p.2,.val (.i .i64) e.2,.val (.i .i64) x.2],fun e x=>[(0,.slot 0,.lst 31 (.list (.i .i64)) x.1 e.1),(4000000,.key 4000000,.stk [.lst 0] vals)]⟩)]
set_option maxRecDepth 100000 in
theorem Q4m (xs:List (List Int)) (nl:Bool) (d:Int×Int×((List Int×List Int→Prop)×(List Int×List Int→Int))):(∀ vals,gwp Q1q (Q1m xs nl d.1 d.2.1 d.2.2 vals) c122 0 (lendK vals [] (Q1h xs nl d) (.lst 31 (.list (.i .i64)) (Q1c xs nl d) nl) (.lst 0)) (lstart 53 (.lst 0) (.lst 31 (.list (.i .i64)) xs nl) vals (AL.can Q1n d)))=Q0e xs nl d.1 d.2.1 d.2.2:=by kernel_rfl
abbrev Q4l:Prop:=XOk Tryz.prog 122 Q0s
theorem Q4u (h:∀ (xs:List (List Int)) (nl:Bool) (a:Int) (b:Int) (p:(List Int×List Int→Prop)×(List Int×List Int→Int)),(0≤a∧a≤b∧b≤xs.length∧xs.length≤12∧(∀ x∈xs,∀ y∈xs,p.1 (x,y)))→Q0e xs nl a b p):XOk Tryz.prog 122 Q0s :=
 J2m fun122 mixed (Z7g .nil 3) (C:=Q1q) ⟨.nil,XsOk.nil,ItsOk.nil,YlOk.nil,IysOk.nil,XfOk.nil⟩ (L:=fun xs nl (d:Int×Int×((List Int×List Int→Prop)×(List Int×List Int→Int))) vals=>Q1m xs nl d.1 d.2.1 d.2.2 vals) (V:=fun xs nl (d:Int×Int×((List Int×List Int→Prop)×(List Int×List Int→Int)))=>Q0e xs nl d.1 d.2.1 d.2.2) Q4m fun xs nl d hp=>h xs nl d.1 d.2.1 d.2.2 hp
theorem Q4k:Q4l:=Q4u fun xs nl a b p h=>by
 obtain⟨h1,h2,h3,h4,h5⟩:=h;unfold Q0e;(try delta lI gD sT I64);intro vals;have hI:∀ e:Int,-1000≤e→e≤1000→InK .i64 e:=fun e _ _=>by simp only[Q0b];omega
 obtain⟨a,rfl⟩:∃ n:Nat,a=n:=⟨a.toNat,by omega⟩;obtain⟨b,rfl⟩:∃ n:Nat,b=n:=⟨b.toNat,by omega⟩;simp only[Int.toNat_natCast];refine⟨hI _ (by omega) (by omega),(),(xs,nl,(a:Int)+1),(by and_intros<;>first|rfl|trivial|simp),?_⟩;refine⟨fun d=>∃ n:Nat,d.2.2=(a:Int)+1+n∧(n=0∨a+1+n≤b)∧nl=d.2.1∧d.1=insG (fun x y=>decide (p.2 (x,y)<0)) a n xs,fun d=>(1000-d.2.2).toNat,⟨0,by simp,.inl rfl,rfl,rfl⟩,?_⟩;rintro⟨ys,nl',i⟩ ⟨n,e1,e2,e3,e4⟩;dsimp only at e1 e2 e3 e4 ⊢;subst e1 e3;refine⟨fun c=>?_,fun c=>?_⟩
 ·have c:a+1+n<b:=by simp at c;omega
  have hp:ys.Perm xs:=by rw[e4];exact Z14 _ (by omega)
  have hlen:=hp.length_eq;refine⟨(nl,(a:Int)+1+n),(ys,(a:Int)+1+n),(by and_intros<;>first|rfl|trivial|simp),?_⟩;dsimp only;refine⟨fun d=>∃ j:Nat,d.2=j∧j≤a+1+n∧d.1.Perm xs∧bubL (fun x y=>decide (p.2 (x,y)<0)) a j d.1=insG (fun x y=>decide (p.2 (x,y)<0)) a (n+1) xs,fun d=>d.2.toNat,⟨a+1+n,by simp,Nat.le_refl _,hp,by rw[e4];rfl⟩,?_⟩;rintro⟨zs,j'⟩ ⟨j,f1,f2,f3,f4⟩;dsimp only at f1 f3 f4 ⊢;subst f1;have hlz:=f3.length_eq;have hj1:((j:Int)-1).toNat=j-1:=by omega
  simp only[Int.toNat_natCast,hj1];refine⟨fun g=>by omega,fun g=>by omega,fun g=>hI _ (by omega) (by omega),fun g=>by simp at g;omega,fun g=>by omega,fun g=>by rw[Q02 (show j<zs.length by omega),Q02 (show j-1<zs.length by omega)];exact h5 _ (f3.mem_iff.1 (List.getElem_mem _)) _ (f3.mem_iff.1 (List.getElem_mem _)),fun g=>?_,fun g=>?_⟩
  ·have g:a<j∧p.2 (zs.getD j [],zs.getD (j-1) [])<0:=by simpa using g
   refine⟨hI _ (by omega) (by omega),hI _ (by omega) (by omega),by omega,by omega,by omega,by omega,by omega,by omega,by omega,by rw[List.length_set];omega,hI _ (by omega) (by omega),((zs.set j (zs.getD (j-1) [])).set (j-1) (zs.getD j []),(j:Int)-1),(by and_intros<;>first|rfl|trivial|simp),⟨j-1,by omega,by omega,(Z8p (by omega) (by omega)).trans f3,J70 f4 g.1 g.2⟩,by dsimp only;omega⟩
  ·refine⟨hI _ (by omega) (by omega),(zs,nl,(a:Int)+1+n+1),(by and_intros<;>first|rfl|trivial|simp),⟨n+1,by simp;omega,by omega,rfl,X0x f4 fun hh=>?_⟩,by dsimp only;omega⟩;have h7:p.2 (zs.getD j [],zs.getD (j-1) [])<0:=hh.2;have h8:a<j:=hh.1;rw[decide_eq_true (show (j:Int) > a by omega),decide_eq_true h7] at g;cases g
 ·have hn:n=b-a-1:=by simp at c;omega
  rw[e4,hn];exact(by and_intros<;>first|rfl|trivial|simp)
def Q3r:AL (Int×((Int×Int→Prop)×(Int×Int→Int))):=(.cons (.k (.i .i64)) (.one (.fn [(.i .i64),(.i .i64)] (.i .i64))))
def Q8c (xs:List Int) (nl:Bool) (d:Int×((Int×Int→Prop)×(Int×Int→Int))):Prop:=d.1=xs.length∧xs.length≤12∧(∀ x∈xs,∀ y∈xs,d.2.1 (x,y))
def Q3k (xs:List Int) (nl:Bool) (d:Int×((Int×Int→Prop)×(Int×Int→Int))):SV:=.tup []
def Q3g (xs:List Int) (nl:Bool) (d:Int×((Int×Int→Prop)×(Int×Int→Int))):List Int:=(insC d.2.2 xs 0 xs.length)
def Q29:XSp:=lentX (gap [] 3) (lentL 3 (.i .i64) Q3r Q8c Q3k Q3g)
def Q0y (xs:List Int) (nl:Bool) (n:Int) (p:(Int×Int→Prop)×(Int×Int→Int)):Prop:=∀ vals:List Value,
 ∃ (e3:Unit) (d30:(List Int)×Int×Int),((True∧n=n∧(SV.pf [(.i .i64),(.i .i64)] (.i .i64) p.1 p.2=SV.pf [(.i .i64),(.i .i64)] (.i .i64) p.1 p.2)∧(20:Int)=(20:Int)∧(0:Int)=d30.2.1∧(20:Int)=d30.2.2∧True)∧((xs=d30.1∧nl=nl)∧(vals=vals∧(True∧(([]:List SV)=[])))∧True)) ∧
 LoopP (fun (d3:(List Int)×Int×Int) (q3:((List Int)×Int×Int)→Prop) =>
  ((decide (d3.2.2≤n))=true →
   (0≤d3.2.1∧d3.2.1≤d3.2.2∧d3.2.2≤d3.1.length∧d3.1.length≤12∧(∀ x∈d3.1,∀ y∈d3.1,(fun (x1:Int×Int)=>p.1 (x1.1,x1.2)) (x,y)))∧(I64 (d3.2.2+(20:Int)))∧(∃ d4:(List Int)×Int×Int,((True∧n=n∧(SV.pf [(.i .i64),(.i .i64)] (.i .i64) p.1 p.2=SV.pf [(.i .i64),(.i .i64)] (.i .i64) p.1 p.2)∧(20:Int)=(20:Int)∧d3.2.2=d4.2.1∧(d3.2.2+(20:Int))=d4.2.2∧True)∧(((insC (fun (x1:Int×Int)=>(p.2 (x1.1,x1.2))) d3.1 d3.2.1.toNat d3.2.2.toNat)=d4.1∧nl=nl)∧(vals=vals∧(True∧(([]:List SV)=[])))∧True))∧q3 d4)) ∧
  ((decide (d3.2.2≤n))=false →
   (0≤d3.2.1∧d3.2.1≤n∧n≤d3.1.length∧d3.1.length≤12∧(∀ x∈d3.1,∀ y∈d3.1,(fun (x2:Int×Int)=>p.1 (x2.1,x2.2)) (x,y)))∧∃ (e7:(List Int)) (d70:Bool×Int),((True∧n=n∧(SV.pf [(.i .i64),(.i .i64)] (.i .i64) p.1 p.2=SV.pf [(.i .i64),(.i .i64)] (.i .i64) p.1 p.2)∧(20:Int)=d70.2∧True)∧(((insC (fun (x2:Int×Int)=>(p.2 (x2.1,x2.2))) d3.1 d3.2.1.toNat n.toNat)=e7∧nl=d70.1)∧(vals=vals∧(True∧(([]:List SV)=[])))∧True)) ∧
   LoopP (fun (d7:Bool×Int) (q7:(Bool×Int)→Prop) =>
    ((decide (d7.2<n))=true →
     (I64 ((2:Int)*d7.2))∧∃ (e10:(List Int)×Bool×Int×Int) (d100:Unit),((True∧n=n∧(SV.pf [(.i .i64),(.i .i64)] (.i .i64) p.1 p.2=SV.pf [(.i .i64),(.i .i64)] (.i .i64) p.1 p.2)∧d7.2=e10.2.2.1∧(0:Int)=(0:Int)∧((2:Int)*d7.2)=e10.2.2.2∧True)∧((e7=e10.1∧d7.1=e10.2.1)∧(vals=vals∧(True∧(([]:List SV)=[])))∧True)) ∧
     LoopP (fun (d10:Unit) (q10:(Unit)→Prop) =>
      ((decide (e10.2.2.2≤n))=true →
       (I64 ((0:Int)+e10.2.2.1))∧False) ∧
      ((decide (e10.2.2.2≤n))=false →
       (I64 ((0:Int)+e10.2.2.1))∧((decide (((0:Int)+e10.2.2.1)<n))=true →
        False) ∧
       ((decide (((0:Int)+e10.2.2.1)<n))=false →
        (I64 (e10.2.2.1*(2:Int)))∧(∃ d11:Bool×Int,((True∧n=n∧(SV.pf [(.i .i64),(.i .i64)] (.i .i64) p.1 p.2=SV.pf [(.i .i64),(.i .i64)] (.i .i64) p.1 p.2)∧(e10.2.2.1*(2:Int))=d11.2∧True)∧((e10.1=e7∧e10.2.1=d11.1)∧(vals=vals∧(True∧(([]:List SV)=[])))∧True))∧q7 d11)))) d100) ∧
    ((decide (d7.2<n))=false →
     (vals=vals∧(True∧(([]:List SV)=[]))∧((([]:List SV)=[]))∧(e7=(insC p.2 xs 0 xs.length)∧d7.1=nl)))) d70)) d30
def Q46:Cx:=⟨[],[],63,[],0,[(109,Q0x),(110,deadX)],[],[],[],false,[],[],[],[]⟩
def Q47 (xs:List Int) (nl:Bool) (n:Int) (p:(Int×Int→Prop)×(Int×Int→Int)) (vals:List Value):List (Nat×LoopAnn):=[(0,⟨Unit,(List Int)×Int×Int,[0,1,2,6,7,8],fun e x=>[.lst 0,.val (.i .i64) n,.pf [(.i .i64),(.i .i64)] (.i .i64) p.1 p.2,.val (.i .i64) (20:Int),.val (.i .i64) x.2.1,.val (.i .i64) x.2.2],fun e x=>[(0,.slot 0,.lst 3 (.i .i64) x.1 nl),(4000000,.key 4000000,.stk [.lst 0] vals)]⟩),
 (2,⟨(List Int),Bool×Int,[0,1,2,6],fun e x=>[.lst 0,.val (.i .i64) n,.pf [(.i .i64),(.i .i64)] (.i .i64) p.1 p.2,.val (.i .i64) x.2],fun e x=>[(0,.slot 0,.lst 3 (.i .i64) e x.1),(4000000,.key 4000000,.stk [.lst 0] vals)]⟩),
 (4,⟨(List Int)×Bool×Int×Int,Unit,[0,1,2,6,7,8],fun e x=>[.lst 0,.val (.i .i64) n,.pf [(.i .i64),(.i .i64)] (.i .i64) p.1 p.2,.val (.i .i64) e.2.2.1,.val (.i .i64) (0:Int),.val (.i .i64) e.2.2.2],fun e x=>[(0,.slot 0,.lst 3 (.i .i64) e.1 e.2.1),(4000000,.key 4000000,.stk [.lst 0] vals)]⟩)]
set_option maxRecDepth 100000 in
theorem Q9t (xs:List Int) (nl:Bool) (d:Int×((Int×Int→Prop)×(Int×Int→Int))):(∀ vals,gwp Q46 (Q47 xs nl d.1 d.2 vals) c105 0 (lendK vals [] (Q3k xs nl d) (.lst 3 (.i .i64) (Q3g xs nl d) nl) (.lst 0)) (lstart 63 (.lst 0) (.lst 3 (.i .i64) xs nl) vals (AL.can Q3r d)))=Q0y xs nl d.1 d.2:=by kernel_rfl
abbrev Q9x:Prop:=XOk Tryz.prog 105 Q29
theorem Q9w (h:∀ (xs:List Int) (nl:Bool) (n:Int) (p:(Int×Int→Prop)×(Int×Int→Int)),(n=xs.length∧xs.length≤12∧(∀ x∈xs,∀ y∈xs,p.1 (x,y)))→Q0y xs nl n p):XOk Tryz.prog 105 Q29 :=
 Z4x fun105 mixed (Z7g .nil 3) (C:=Q46) ⟨.nil,(XsOk.cons Q52 (XsOk.cons Z2d XsOk.nil)),ItsOk.nil,YlOk.nil,IysOk.nil,XfOk.nil⟩ (L:=fun xs nl (d:Int×((Int×Int→Prop)×(Int×Int→Int))) vals=>Q47 xs nl d.1 d.2 vals) (V:=fun xs nl (d:Int×((Int×Int→Prop)×(Int×Int→Int)))=>Q0y xs nl d.1 d.2) Q9t fun xs nl d hp=>h xs nl d.1 d.2 hp
theorem Q8l:Q9x:=Q9w fun xs nl n p h=>by obtain⟨h1,h2,h3⟩:=h;subst h1;unfold Q0y;(try delta lI gD sT I64);intro vals;refine⟨(),(xs,0,20),(by and_intros<;>first|rfl|trivial|simp),?_⟩;refine⟨fun d=>d=(xs,0,20),fun _=>0,rfl,?_⟩;rintro _ rfl;dsimp only;refine⟨fun c=>by simp at c;omega,fun _=>⟨⟨by omega,by omega,by omega,h2,h3⟩,insC p.2 xs 0 xs.length,(nl,20),(by and_intros<;>first|rfl|trivial|simp),?_⟩⟩;refine⟨fun d=>d=(nl,20),fun _=>0,rfl,?_⟩;rintro _ rfl;dsimp only;exact⟨fun c=>by simp at c;omega,fun _=>(by and_intros<;>first|rfl|trivial|simp)⟩
def Q2m:AL ((Int×Int→Prop)×(Int×Int→Int)):=(.one (.fn [(.i .i64),(.i .i64)] (.i .i64)))
def Q5t (xs:List Int) (nl:Bool) (d:(Int×Int→Prop)×(Int×Int→Int)):Prop:=xs.length≤12∧(∀ x∈xs,∀ y∈xs,d.1 (x,y))
def Q2b (xs:List Int) (nl:Bool) (d:(Int×Int→Prop)×(Int×Int→Int)):SV:=.tup []
def Q25 (xs:List Int) (nl:Bool) (d:(Int×Int→Prop)×(Int×Int→Int)):List Int:=(insC d.2 xs 0 xs.length)
def Q17:XSp:=lentX (gap [(95,Q1z)] 3) (lentL 3 (.i .i64) Q2m Q5t Q2b Q25)
def Q0j (xs:List Int) (nl:Bool) (p:(Int×Int→Prop)×(Int×Int→Int)):Prop:=∀ vals:List Value,
 ((lI xs)=xs.length∧xs.length≤12∧(∀ x∈xs,∀ y∈xs,(fun (x1:Int×Int)=>p.1 (x1.1,x1.2)) (x,y)))∧(vals=vals∧(True∧(([]:List SV)=[]))∧((([]:List SV)=[]))∧((insC (fun (x1:Int×Int)=>(p.2 (x1.1,x1.2))) xs 0 xs.length)=(insC p.2 xs 0 xs.length)∧nl=nl))
def Q2n:Cx:=⟨[],[],9,[],0,[(105,Q29)],[],[],[],false,[],[],[],[]⟩
def Q2o (xs:List Int) (nl:Bool) (p:(Int×Int→Prop)×(Int×Int→Int)) (vals:List Value):List (Nat×LoopAnn):=[]
set_option maxRecDepth 100000 in
theorem Q6d (xs:List Int) (nl:Bool) (d:(Int×Int→Prop)×(Int×Int→Int)):(∀ vals,gwp Q2n (Q2o xs nl d vals) c94 0 (lendK vals [] (Q2b xs nl d) (.lst 3 (.i .i64) (Q25 xs nl d) nl) (.lst 0)) (lstart 9 (.lst 0) (.lst 3 (.i .i64) xs nl) vals (AL.can Q2m d)))=Q0j xs nl d:=by kernel_rfl
abbrev Q6b:Prop:=XOk Tryz.prog 94 Q17
theorem Q6c (h:∀ (xs:List Int) (nl:Bool) (p:(Int×Int→Prop)×(Int×Int→Int)),(xs.length≤12∧(∀ x∈xs,∀ y∈xs,p.1 (x,y)))→Q0j xs nl p):XOk Tryz.prog 94 Q17 :=
 Z4x fun94 mixed (Z7g (.cons Q60 .nil) 3) (C:=Q2n) ⟨.nil,(XsOk.cons Q8l XsOk.nil),ItsOk.nil,YlOk.nil,IysOk.nil,XfOk.nil⟩ (L:=fun xs nl (d:(Int×Int→Prop)×(Int×Int→Int)) vals=>Q2o xs nl d vals) (V:=fun xs nl (d:(Int×Int→Prop)×(Int×Int→Int))=>Q0j xs nl d) Q6d fun xs nl d hp=>h xs nl d hp
theorem Q65:Q6b:=Q6c fun xs nl p h=>by unfold Q0j;(try delta lI gD sT I64);intro vals;refine⟨⟨rfl,h.1,h.2⟩,?_⟩;exact(by and_intros<;>first|rfl|trivial|simp)
def Q38:AL (Int×Int×Int×((List Int×List Int→Prop)×(List Int×List Int→Int))):=(.cons (.k (.i .i64)) (.cons (.k (.i .i64)) (.cons (.k (.i .i64)) (.one (.fn [(.list (.i .i64)),(.list (.i .i64))] (.i .i64))))))
def Q6l (xs:List (List Int)) (nl:Bool) (d:Int×Int×Int×((List Int×List Int→Prop)×(List Int×List Int→Int))):Prop:=d.1=0∧d.2.1=xs.length∧xs.length≤12∧(∀ x∈xs,∀ y∈xs,d.2.2.2.1 (x,y))
def Q31 (xs:List (List Int)) (nl:Bool) (d:Int×Int×Int×((List Int×List Int→Prop)×(List Int×List Int→Int))):SV:=.tup []
def Q2p (xs:List (List Int)) (nl:Bool) (d:Int×Int×Int×((List Int×List Int→Prop)×(List Int×List Int→Int))):List (List Int):=(insC d.2.2.2.2 xs 0 xs.length)
def Q1f:XSp:=lentF (gap [] 3) (lentL 31 (.list (.i .i64)) Q38 Q6l Q31 Q2p)
def Q0o (xs:List (List Int)) (nl:Bool) (a:Int) (b:Int) (li:Int) (p:(List Int×List Int→Prop)×(List Int×List Int→Int)):Prop:=∀ vals:List Value,
 ∃ (e3:Unit) (d30:Unit),((True∧a=a∧b=b∧li=li∧(SV.pf [(.list (.i .i64)),(.list (.i .i64))] (.i .i64) p.1 p.2=SV.pf [(.list (.i .i64)),(.list (.i .i64))] (.i .i64) p.1 p.2)∧true=true∧true=true∧True)∧((xs=xs∧nl=nl)∧(vals=vals∧(True∧(([]:List SV)=[])))∧True)) ∧
 LoopP (fun (d3:Unit) (q3:(Unit)→Prop) =>
  (I64 (b-a))∧((decide ((b-a)≤(12:Int)))=true →
   (0≤a∧a≤b∧b≤xs.length∧xs.length≤12∧(∀ x∈xs,∀ y∈xs,(fun (x1:List Int×List Int)=>p.1 (x1.1,x1.2)) (x,y)))∧(vals=vals∧(True∧(([]:List SV)=[]))∧((([]:List SV)=[]))∧((insC (fun (x1:List Int×List Int)=>(p.2 (x1.1,x1.2))) xs a.toNat b.toNat)=(insC p.2 xs 0 xs.length)∧nl=nl))) ∧
  ((decide ((b-a)≤(12:Int)))=false →
   ((li==(0:Int))=true →
    False) ∧
   ((li==(0:Int))=false →
    ((!true)=true →
     False) ∧
    ((!true)=false →
     False)))) d30
def Q37:Cx:=⟨[],[],148,[0],0,[(122,Q0s),(123,deadX),(124,deadX),(125,deadX)],[],[],[],false,[],[],[],[]⟩
def Q33 (xs:List (List Int)) (nl:Bool) (a:Int) (b:Int) (li:Int) (p:(List Int×List Int→Prop)×(List Int×List Int→Int)) (vals:List Value):List (Nat×LoopAnn):=[(0,⟨Unit,Unit,[0,1,2,3,4,10,11],fun e x=>[.lst 0,.val (.i .i64) a,.val (.i .i64) b,.val (.i .i64) li,.pf [(.list (.i .i64)),(.list (.i .i64))] (.i .i64) p.1 p.2,.val .bo true,.val .bo true],fun e x=>[(0,.slot 0,.lst 31 (.list (.i .i64)) xs nl),(4000000,.key 4000000,.stk [.lst 0] vals)]⟩)]
set_option maxRecDepth 100000 in
theorem Q7j (xs:List (List Int)) (nl:Bool) (d:Int×Int×Int×((List Int×List Int→Prop)×(List Int×List Int→Int))):(∀ vals,gwp Q37 (Q33 xs nl d.1 d.2.1 d.2.2.1 d.2.2.2 vals) c108 0 (lendK vals [] (Q31 xs nl d) (.lst 31 (.list (.i .i64)) (Q2p xs nl d) nl) (.lst 0)) (lstart 148 (.lst 0) (.lst 31 (.list (.i .i64)) xs nl) vals (AL.can Q38 d)))=Q0o xs nl d.1 d.2.1 d.2.2.1 d.2.2.2:=by kernel_rfl
abbrev Q79:Prop:=XOk Tryz.prog 108 Q1f
theorem Q7b (h:∀ (xs:List (List Int)) (nl:Bool) (a:Int) (b:Int) (li:Int) (p:(List Int×List Int→Prop)×(List Int×List Int→Int)),(a=0∧b=xs.length∧xs.length≤12∧(∀ x∈xs,∀ y∈xs,p.1 (x,y)))→Q0o xs nl a b li p):XOk Tryz.prog 108 Q1f :=
 J2m fun108 mixed (Z7g .nil 3) (C:=Q37) ⟨.nil,(XsOk.cons Q4k (XsOk.cons Z2d (XsOk.cons Z2d (XsOk.cons Z2d XsOk.nil)))),ItsOk.nil,YlOk.nil,IysOk.nil,XfOk.nil⟩ (L:=fun xs nl (d:Int×Int×Int×((List Int×List Int→Prop)×(List Int×List Int→Int))) vals=>Q33 xs nl d.1 d.2.1 d.2.2.1 d.2.2.2 vals) (V:=fun xs nl (d:Int×Int×Int×((List Int×List Int→Prop)×(List Int×List Int→Int)))=>Q0o xs nl d.1 d.2.1 d.2.2.1 d.2.2.2) Q7j fun xs nl d hp=>h xs nl d.1 d.2.1 d.2.2.1 d.2.2.2 hp
theorem Q6s:Q79:=Q7b fun xs nl a b li p h=>by
 obtain⟨rfl,rfl,h2,h3⟩:=h;unfold Q0o;(try delta lI gD sT I64);intro vals;refine⟨(),(),(by and_intros<;>first|rfl|trivial|simp),?_⟩;refine⟨fun _=>True,fun _=>0,trivial,?_⟩;rintro⟨⟩ -
 refine⟨by simp only[Q0b];omega,fun _=>⟨⟨by omega,by omega,by omega,h2,h3⟩,(by and_intros<;>first|rfl|trivial|simp)⟩,fun c=>by simp at c;omega⟩
def Q4c:AL ((List Int×List Int→Prop)×(List Int×List Int→Int)):=(.one (.fn [(.list (.i .i64)),(.list (.i .i64))] (.i .i64)))
def Q91 (xs:List (List Int)) (nl:Bool) (d:(List Int×List Int→Prop)×(List Int×List Int→Int)):Prop:=xs.length≤12∧(∀ x∈xs,∀ y∈xs,d.1 (x,y))
def Q40 (xs:List (List Int)) (nl:Bool) (d:(List Int×List Int→Prop)×(List Int×List Int→Int)):SV:=.tup []
def Q3q (xs:List (List Int)) (nl:Bool) (d:(List Int×List Int→Prop)×(List Int×List Int→Int)):List (List Int):=(insC d.2 xs 0 xs.length)
def Q2k:XSp:=lentF (gap [(82,Q1b)] 3) (lentL 31 (.list (.i .i64)) Q4c Q91 Q40 Q3q)
def Q15 (xs:List (List Int)) (nl:Bool) (p:(List Int×List Int→Prop)×(List Int×List Int→Int)):Prop:=∀ vals:List Value,
 (InK .u64 (lI xs))∧(0≤(lI xs)∧(lI xs)≤255)∧((0:Int)=0∧(lI xs)=xs.length∧xs.length≤12∧(∀ x∈xs,∀ y∈xs,(fun (x1:List Int×List Int)=>p.1 (x1.1,x1.2)) (x,y)))∧(vals=vals∧(True∧(([]:List SV)=[]))∧((([]:List SV)=[]))∧((insC (fun (x1:List Int×List Int)=>(p.2 (x1.1,x1.2))) xs 0 xs.length)=(insC p.2 xs 0 xs.length)∧nl=nl))
def Q4e:Cx:=⟨[],[(107,Q5o)],14,[0],0,[(108,Q1f)],[],[],[],false,[],[],[],[]⟩
def Q4g (xs:List (List Int)) (nl:Bool) (p:(List Int×List Int→Prop)×(List Int×List Int→Int)) (vals:List Value):List (Nat×LoopAnn):=[]
set_option maxRecDepth 100000 in
theorem Q9z (xs:List (List Int)) (nl:Bool) (d:(List Int×List Int→Prop)×(List Int×List Int→Int)):(∀ vals,gwp Q4e (Q4g xs nl d vals) c97 0 (lendK vals [] (Q40 xs nl d) (.lst 31 (.list (.i .i64)) (Q3q xs nl d) nl) (.lst 0)) (lstart 14 (.lst 0) (.lst 31 (.list (.i .i64)) xs nl) vals (AL.can Q4c d)))=Q15 xs nl d:=by kernel_rfl
abbrev Z00:Prop:=XOk Tryz.prog 97 Q2k
theorem Z01 (h:∀ (xs:List (List Int)) (nl:Bool) (p:(List Int×List Int→Prop)×(List Int×List Int→Int)),(xs.length≤12∧(∀ x∈xs,∀ y∈xs,p.1 (x,y)))→Q15 xs nl p):XOk Tryz.prog 97 Q2k :=
 J2m fun97 mixed (Z7g (.cons Q4q .nil) 3) (C:=Q4e) ⟨(.cons Z33 .nil),(XsOk.cons Q6s XsOk.nil),ItsOk.nil,YlOk.nil,IysOk.nil,XfOk.nil⟩ (L:=fun xs nl (d:(List Int×List Int→Prop)×(List Int×List Int→Int)) vals=>Q4g xs nl d vals) (V:=fun xs nl (d:(List Int×List Int→Prop)×(List Int×List Int→Int))=>Q15 xs nl d) Q9z fun xs nl d hp=>h xs nl d hp
theorem Q94:Z00:=Z01 fun xs nl p h=>by unfold Q15;(try delta lI gD sT I64);intro vals;have:=h.1;refine⟨by simp only[Z26];omega,⟨by omega,by omega⟩,⟨rfl,rfl,h.1,h.2⟩,?_⟩;exact(by and_intros<;>first|rfl|trivial|simp)
def Z3f:AL (Int×Int):=(.cons (.k (.i .i64)) (.one (.k (.i .i64))))
def J0j (d:Int×Int):Prop:=True
def Z2y (d:Int×Int):SV:=.val .bo (decide (d.1<d.2))
def Z2o (d:Int×Int):List OB:=[]
def Z0s:CSp:=mkSp Z3f J0j Z2y Z2o
def Q64 (a:Int) (b:Int):Prop :=
 (True)∧(false=true→True)∧(((false&&(!false))||(decide (a<b)))=(decide (a<b))∧(True))
def Z3i:Cx:=⟨[],[(99,Q61)],17,[],0,[],[],[],[],false,[],[],[],[]⟩
def J2o (a:Int) (b:Int):List (Nat×LoopAnn):=[]
set_option maxRecDepth 100000 in
theorem J3p (d:Int×Int):gwp (Z3i) (J2o d.1 d.2) c117 0 (gend [.tmp 4] (Z2y d) (Z2o d)) (gstart 17 (AL.can Z3f d))=Q64 d.1 d.2:=by kernel_rfl
abbrev J3f:Prop:=OkC Tryz.prog 117 Z0s
theorem J2e (h:∀ (a:Int) (b:Int),(True)→Q64 a b):OkC Tryz.prog 117 Z0s :=
 Q13 fun117 mixed (C:=Z3i) (V:=fun (d:Int×Int)=>Q64 d.1 d.2) ⟨(.cons Z31 .nil),XsOk.nil,ItsOk.nil,YlOk.nil,IysOk.nil,XfOk.nil⟩ (J3p) fun d hp=>h d.1 d.2 hp
theorem J14:J3f:=J2e fun a b=>by unfold Q64;(try delta lI gD sT I64);simp
def Q21:AL (Int×Int):=(.cons (.k (.i .i64)) (.one (.k (.i .i64))))
def Q50 (xs:List Int) (nl:Bool) (d:Int×Int):Prop:=0≤d.1∧d.1≤d.2∧d.2≤xs.length∧xs.length≤12
def Q1u (xs:List Int) (nl:Bool) (d:Int×Int):SV:=.tup []
def Q1o (xs:List Int) (nl:Bool) (d:Int×Int):List Int:=(insC cmpII xs d.1.toNat d.2.toNat)
def Q10:XSp:=lentX apNone (lentL 3 (.i .i64) Q21 Q50 Q1u Q1o)
def Q0h (xs:List Int) (nl:Bool) (a:Int) (b:Int):Prop:=∀ vals:List Value,
 (I64 (a+(1:Int)))∧∃ (e2:Unit) (d20:(List Int)×Bool×Int),((True∧a=a∧b=b∧(a+(1:Int))=d20.2.2∧True)∧((xs=d20.1∧nl=d20.2.1)∧(vals=vals∧(True∧(([]:List SV)=[])))∧True)) ∧
 LoopP (fun (d2:(List Int)×Bool×Int) (q2:((List Int)×Bool×Int)→Prop) =>
  ((decide (d2.2.2<b))=true →
   ∃ (e5:Bool×Int) (d50:(List Int)×Int),((True∧a=a∧b=b∧d2.2.2=e5.2∧d2.2.2=d50.2∧True)∧((d2.1=d50.1∧d2.2.1=e5.1)∧(vals=vals∧(True∧(([]:List SV)=[])))∧True)) ∧
   LoopP (fun (d5:(List Int)×Int) (q5:((List Int)×Int)→Prop) =>
    ((decide (d5.2 > a))=true→0≤d5.2)∧((decide (d5.2 > a))=true→d5.2<(List.length d5.1))∧((decide (d5.2 > a))=true→InK .i64 (d5.2-(1:Int)))∧((decide (d5.2 > a))=true→0≤(d5.2-(1:Int)))∧((decide (d5.2 > a))=true→(d5.2-(1:Int))<(List.length d5.1))∧((decide (d5.2 > a))=true→True)∧(((decide (d5.2 > a))&&(decide ((gD d5.1 d5.2 0)<(gD d5.1 (d5.2-(1:Int)) 0))))=true →
     (I64 (d5.2-(1:Int)))∧(I64 (d5.2-(1:Int)))∧(0≤(d5.2-(1:Int)))∧((d5.2-(1:Int))<(List.length d5.1))∧(0≤d5.2)∧(d5.2<(List.length d5.1))∧(0≤d5.2)∧(d5.2<(List.length d5.1))∧(0≤(d5.2-(1:Int)))∧((d5.2-(1:Int))<(List.length (sT d5.1 d5.2 (gD d5.1 (d5.2-(1:Int)) 0))))∧(I64 (d5.2-(1:Int)))∧(∃ d6:(List Int)×Int,((True∧a=a∧b=b∧e5.2=e5.2∧(d5.2-(1:Int))=d6.2∧True)∧(((sT (sT d5.1 d5.2 (gD d5.1 (d5.2-(1:Int)) 0)) (d5.2-(1:Int)) (gD d5.1 d5.2 0))=d6.1∧e5.1=e5.1)∧(vals=vals∧(True∧(([]:List SV)=[])))∧True))∧q5 d6)) ∧
    (((decide (d5.2 > a))&&(decide ((gD d5.1 d5.2 0)<(gD d5.1 (d5.2-(1:Int)) 0))))=false →
     (I64 (e5.2+(1:Int)))∧(∃ d7:(List Int)×Bool×Int,((True∧a=a∧b=b∧(e5.2+(1:Int))=d7.2.2∧True)∧((d5.1=d7.1∧e5.1=d7.2.1)∧(vals=vals∧(True∧(([]:List SV)=[])))∧True))∧q2 d7))) d50) ∧
  ((decide (d2.2.2<b))=false →
   (vals=vals∧(True∧(([]:List SV)=[]))∧((([]:List SV)=[]))∧(d2.1=(insC cmpII xs a.toNat b.toNat)∧d2.2.1=nl)))) d20
def Q20:Cx:=⟨[],[(117,Z0s)],49,[],0,[],[],[],[],false,[],[],[],[]⟩
def Q24 (xs:List Int) (nl:Bool) (a:Int) (b:Int) (vals:List Value):List (Nat×LoopAnn):=[(0,⟨Unit,(List Int)×Bool×Int,[0,1,2,6],fun e x=>[.lst 0,.val (.i .i64) a,.val (.i .i64) b,.val (.i .i64) x.2.2],fun e x=>[(0,.slot 0,.lst 3 (.i .i64) x.1 x.2.1),(4000000,.key 4000000,.stk [.lst 0] vals)]⟩),
 (2,⟨Bool×Int,(List Int)×Int,[0,1,2,6,7],fun e x=>[.lst 0,.val (.i .i64) a,.val (.i .i64) b,.val (.i .i64) e.2,.val (.i .i64) x.2],fun e x=>[(0,.slot 0,.lst 3 (.i .i64) x.1 e.1),(4000000,.key 4000000,.stk [.lst 0] vals)]⟩)]
set_option maxRecDepth 100000 in
theorem Q5j (xs:List Int) (nl:Bool) (d:Int×Int):(∀ vals,gwp Q20 (Q24 xs nl d.1 d.2 vals) c111 0 (lendK vals [] (Q1u xs nl d) (.lst 3 (.i .i64) (Q1o xs nl d) nl) (.lst 0)) (lstart 49 (.lst 0) (.lst 3 (.i .i64) xs nl) vals (AL.can Q21 d)))=Q0h xs nl d.1 d.2:=by kernel_rfl
abbrev Q5h:Prop:=XOk Tryz.prog 111 Q10
theorem Q5i (h:∀ (xs:List Int) (nl:Bool) (a:Int) (b:Int),(0≤a∧a≤b∧b≤xs.length∧xs.length≤12)→Q0h xs nl a b):XOk Tryz.prog 111 Q10 :=
 Z4x fun111 mixed Z1j (C:=Q20) ⟨(.cons J14 .nil),XsOk.nil,ItsOk.nil,YlOk.nil,IysOk.nil,XfOk.nil⟩ (L:=fun xs nl (d:Int×Int) vals=>Q24 xs nl d.1 d.2 vals) (V:=fun xs nl (d:Int×Int)=>Q0h xs nl d.1 d.2) Q5j fun xs nl d hp=>h xs nl d.1 d.2 hp
theorem Q54:Q5h:=Q5i fun xs nl a b h=>by
 obtain⟨h1,h2,h3,h4⟩:=h;unfold Q0h;(try delta lI gD sT I64);intro vals;have hI:∀ e:Int,-1000≤e→e≤1000→InK .i64 e:=fun e _ _=>by simp only[Q0b];omega
 obtain⟨a,rfl⟩:∃ n:Nat,a=n:=⟨a.toNat,by omega⟩;obtain⟨b,rfl⟩:∃ n:Nat,b=n:=⟨b.toNat,by omega⟩;simp only[Int.toNat_natCast];refine⟨hI _ (by omega) (by omega),(),(xs,nl,(a:Int)+1),(by and_intros<;>first|rfl|trivial|simp),?_⟩;refine⟨fun d=>∃ n:Nat,d.2.2=(a:Int)+1+n∧(n=0∨a+1+n≤b)∧nl=d.2.1∧d.1=insG (fun x y=>decide (cmpII (x,y)<0)) a n xs,fun d=>(1000-d.2.2).toNat,⟨0,by simp,.inl rfl,rfl,rfl⟩,?_⟩;rintro⟨ys,nl',i⟩ ⟨n,e1,e2,e3,e4⟩;dsimp only at e1 e2 e3 e4 ⊢;subst e1 e3;refine⟨fun c=>?_,fun c=>?_⟩
 ·have c:a+1+n<b:=by simp at c;omega
  have hp:ys.Perm xs:=by rw[e4];exact Z14 _ (by omega)
  have hlen:=hp.length_eq;refine⟨(nl,(a:Int)+1+n),(ys,(a:Int)+1+n),(by and_intros<;>first|rfl|trivial|simp),?_⟩;dsimp only;refine⟨fun d=>∃ j:Nat,d.2=j∧j≤a+1+n∧d.1.Perm xs∧bubL (fun x y=>decide (cmpII (x,y)<0)) a j d.1=insG (fun x y=>decide (cmpII (x,y)<0)) a (n+1) xs,fun d=>d.2.toNat,⟨a+1+n,by simp,Nat.le_refl _,hp,by rw[e4];rfl⟩,?_⟩;rintro⟨zs,j'⟩ ⟨j,f1,f2,f3,f4⟩;dsimp only at f1 f3 f4 ⊢;subst f1;have hlz:=f3.length_eq;have hj1:((j:Int)-1).toNat=j-1:=by omega
  simp only[Int.toNat_natCast,hj1];refine⟨fun g=>by omega,fun g=>by omega,fun g=>hI _ (by omega) (by omega),fun g=>by simp at g;omega,fun g=>by omega,fun _=>trivial,fun g=>?_,fun g=>?_⟩
  ·have g:a<j∧zs.getD j 0<zs.getD (j-1) 0:=by simpa using g
   refine⟨hI _ (by omega) (by omega),hI _ (by omega) (by omega),by omega,by omega,by omega,by omega,by omega,by omega,by omega,by rw[List.length_set];omega,hI _ (by omega) (by omega),((zs.set j (zs.getD (j-1) 0)).set (j-1) (zs.getD j 0),(j:Int)-1),(by and_intros<;>first|rfl|trivial|simp),⟨j-1,by omega,by omega,(Z8p (by omega) (by omega)).trans f3,J70 f4 g.1 (Z7o.2 g.2)⟩,by dsimp only;omega⟩
  ·refine⟨hI _ (by omega) (by omega),(zs,nl,(a:Int)+1+n+1),(by and_intros<;>first|rfl|trivial|simp),⟨n+1,by simp;omega,by omega,rfl,X0x f4 fun hh=>?_⟩,by dsimp only;omega⟩;have h7:zs.getD j 0<zs.getD (j-1) 0:=Z7o.1 hh.2;have h8:a<j:=hh.1;rw[decide_eq_true (show (j:Int) > a by omega),decide_eq_true h7] at g;cases g
 ·have hn:n=b-a-1:=by simp at c;omega
  rw[e4,hn];exact(by and_intros<;>first|rfl|trivial|simp)
def Q3o:AL (Int×Int×Int):=(.cons (.k (.i .i64)) (.cons (.k (.i .i64)) (.one (.k (.i .i64)))))
def Q7u (xs:List Int) (nl:Bool) (d:Int×Int×Int):Prop:=d.1=0∧d.2.1=xs.length∧xs.length≤12
def Q3f (xs:List Int) (nl:Bool) (d:Int×Int×Int):SV:=.tup []
def Q36 (xs:List Int) (nl:Bool) (d:Int×Int×Int):List Int:=(insC cmpII xs 0 xs.length)
def Q1s:XSp:=lentX apNone (lentL 3 (.i .i64) Q3o Q7u Q3f Q36)
def Q0w (xs:List Int) (nl:Bool) (a:Int) (b:Int) (li:Int):Prop:=∀ vals:List Value,
 ∃ (e3:Unit) (d30:Unit),((True∧a=a∧b=b∧li=li∧true=true∧true=true∧True)∧((xs=xs∧nl=nl)∧(vals=vals∧(True∧(([]:List SV)=[])))∧True)) ∧
 LoopP (fun (d3:Unit) (q3:(Unit)→Prop) =>
  (I64 (b-a))∧((decide ((b-a)≤(12:Int)))=true →
   (0≤a∧a≤b∧b≤xs.length∧xs.length≤12)∧(vals=vals∧(True∧(([]:List SV)=[]))∧((([]:List SV)=[]))∧((insC cmpII xs a.toNat b.toNat)=(insC cmpII xs 0 xs.length)∧nl=nl))) ∧
  ((decide ((b-a)≤(12:Int)))=false →
   ((li==(0:Int))=true →
    False) ∧
   ((li==(0:Int))=false →
    ((!true)=true →
     False) ∧
    ((!true)=false →
     False)))) d30
def Q3j:Cx:=⟨[],[],134,[],0,[(111,Q10),(112,deadX),(113,deadX),(114,deadX)],[],[],[],false,[],[],[],[]⟩
def Q3m (xs:List Int) (nl:Bool) (a:Int) (b:Int) (li:Int) (vals:List Value):List (Nat×LoopAnn):=[(0,⟨Unit,Unit,[0,1,2,3,8,9],fun e x=>[.lst 0,.val (.i .i64) a,.val (.i .i64) b,.val (.i .i64) li,.val .bo true,.val .bo true],fun e x=>[(0,.slot 0,.lst 3 (.i .i64) xs nl),(4000000,.key 4000000,.stk [.lst 0] vals)]⟩)]
set_option maxRecDepth 100000 in
theorem Q8p (xs:List Int) (nl:Bool) (d:Int×Int×Int):(∀ vals,gwp Q3j (Q3m xs nl d.1 d.2.1 d.2.2 vals) c106 0 (lendK vals [] (Q3f xs nl d) (.lst 3 (.i .i64) (Q36 xs nl d) nl) (.lst 0)) (lstart 134 (.lst 0) (.lst 3 (.i .i64) xs nl) vals (AL.can Q3o d)))=Q0w xs nl d.1 d.2.1 d.2.2:=by kernel_rfl
abbrev Q8x:Prop:=XOk Tryz.prog 106 Q1s
theorem Q8n (h:∀ (xs:List Int) (nl:Bool) (a:Int) (b:Int) (li:Int),(a=0∧b=xs.length∧xs.length≤12)→Q0w xs nl a b li):XOk Tryz.prog 106 Q1s :=
 Z4x fun106 mixed Z1j (C:=Q3j) ⟨.nil,(XsOk.cons Q54 (XsOk.cons Z2d (XsOk.cons Z2d (XsOk.cons Z2d XsOk.nil)))),ItsOk.nil,YlOk.nil,IysOk.nil,XfOk.nil⟩ (L:=fun xs nl (d:Int×Int×Int) vals=>Q3m xs nl d.1 d.2.1 d.2.2 vals) (V:=fun xs nl (d:Int×Int×Int)=>Q0w xs nl d.1 d.2.1 d.2.2) Q8p fun xs nl d hp=>h xs nl d.1 d.2.1 d.2.2 hp
theorem Q7w:Q8x:=Q8n fun xs nl a b li h=>by
 obtain⟨rfl,rfl,h2⟩:=h;unfold Q0w;(try delta lI gD sT I64);intro vals;refine⟨(),(),(by and_intros<;>first|rfl|trivial|simp),?_⟩;refine⟨fun _=>True,fun _=>0,trivial,?_⟩;rintro⟨⟩ -
 refine⟨by simp only[Q0b];omega,fun _=>⟨⟨by omega,by omega,by omega,h2⟩,(by and_intros<;>first|rfl|trivial|simp)⟩,fun c=>by simp at c;omega⟩
def Q6f:AL (Unit):=.nil
def Z28 (xs:List Int) (nl:Bool) (d:Unit):Prop:=xs.length≤12
def Q5s (xs:List Int) (nl:Bool) (d:Unit):SV:=.tup []
def Q5a (xs:List Int) (nl:Bool) (d:Unit):List Int:=(insC cmpII xs 0 xs.length)
def Q3v:XSp:=lentX apNone (lentL 3 (.i .i64) Q6f Z28 Q5s Q5a)
def Q1x (xs:List Int) (nl:Bool) :Prop:=∀ vals:List Value,
 (InK .u64 (lI xs))∧(0≤(lI xs)∧(lI xs)≤255)∧((0:Int)=0∧(lI xs)=xs.length∧xs.length≤12)∧(vals=vals∧(True∧(([]:List SV)=[]))∧((([]:List SV)=[]))∧((insC cmpII xs 0 xs.length)=(insC cmpII xs 0 xs.length)∧nl=nl))
def Q6e:Cx:=⟨[],[(107,Q5o)],11,[],0,[(106,Q1s)],[],[],[],false,[],[],[],[]⟩
def Q6i (xs:List Int) (nl:Bool)  (vals:List Value):List (Nat×LoopAnn):=[]
set_option maxRecDepth 100000 in
theorem Z38 (xs:List Int) (nl:Bool) (d:Unit):(∀ vals,gwp Q6e (Q6i xs nl  vals) c96 0 (lendK vals [] (Q5s xs nl d) (.lst 3 (.i .i64) (Q5a xs nl d) nl) (.lst 0)) (lstart 11 (.lst 0) (.lst 3 (.i .i64) xs nl) vals (AL.can Q6f d)))=Q1x xs nl :=by kernel_rfl
abbrev Z34:Prop:=XOk Tryz.prog 96 Q3v
theorem Z3d (h:∀ (xs:List Int) (nl:Bool) ,(xs.length≤12)→Q1x xs nl ):XOk Tryz.prog 96 Q3v :=
 Z4x fun96 mixed Z1j (C:=Q6e) ⟨(.cons Z33 .nil),(XsOk.cons Q7w XsOk.nil),ItsOk.nil,YlOk.nil,IysOk.nil,XfOk.nil⟩ (L:=fun xs nl (d:Unit) vals=>Q6i xs nl  vals) (V:=fun xs nl (d:Unit)=>Q1x xs nl ) Z38 fun xs nl d hp=>h xs nl  hp
theorem Z2b:Z34:=Z3d fun xs nl h=>by unfold Q1x;(try delta lI gD sT I64);intro vals;refine⟨by simp only[Z26];omega,⟨by omega,by omega⟩,⟨rfl,rfl,h⟩,?_⟩;exact(by and_intros<;>first|rfl|trivial|simp)
end Go.Proofs.Tryz
set_option linter.unusedVariables false
namespace Go.Proofs.Tryz
open Go Go.V Go.Proofs
def alP (l:List Lot) (tl:Int) (i k:Int):Bool:=pairB (l.getD i.toNat lotD) (l.getD k.toNat lotD) tl
def evenL (l:List Lot) (tl:Int):Bool:=(List.range l.length).all fun k=>alikeL l tl (setL (2 ^ k))
def evenR (l:List Lot) (tl:Int):Bool:=(List.range l.length).all fun k=>alP l tl (k:Int) (k:Int)
theorem X65 (a b:Lot):farL a b=farL b a:=by unfold farL;simp only[Z23];omega
theorem Z6f {l:List Lot}{tl i k:Int}:alP l tl i k=true↔(l.getD i.toNat lotD).1=(l.getD k.toNat lotD).1∧farL (l.getD i.toNat lotD) (l.getD k.toNat lotD)≤tl∧farL (l.getD i.toNat lotD) (l.getD i.toNat lotD)≤tl∧farL (l.getD k.toNat lotD) (l.getD k.toNat lotD)≤tl:=by simp only[alP,pairB,Bool.and_eq_true,beq_iff_eq,decide_eq_true_eq,and_assoc]
theorem J6w {l:List Lot}{tl i k:Int}(h:alP l tl i k=true):alP l tl k i=true:=by rw[Z6f] at h ⊢;obtain⟨h1,h2,h3,h4⟩:=h;exact⟨h1.symm,by rw[X65];exact h2,h4,h3⟩
theorem Q6v {l:List Lot}{tl:Int}{S:List Int}:alikeR (pickL l S) tl=true↔∀ i∈S,∀ k∈S,alP l tl i k=true:=by
 have hlen:(pickL l S).length=S.length:=List.length_map ..;have hat:∀ j,(h:j<S.length)→(pickL l S).getD j lotD=l.getD S[j].toNat lotD:=fun j h=>by rw[J1q h,Q02 h]
 rw[Z8s,hlen];constructor
 ·intro h i hi k hk;obtain⟨p,hp,rfl⟩:=List.getElem_of_mem hi;obtain⟨q,hq,rfl⟩:=List.getElem_of_mem hk;have:=h p hp q hq;rw[hat p hp,hat q hq] at this;exact this
 ·intro h p hp q hq;rw[hat p hp,hat q hq];exact h _ (List.getElem_mem hp) _ (List.getElem_mem hq)
theorem X0c {l:List Lot}{tl:Int}{n:Nat}(h0:0<n):alikeL l tl (setL n)=true↔∀ i∈setL n,∀ k∈setL n,alP l tl i k=true:=by unfold alikeL;rw[X63 fun e=>X69 h0 (by simpa [pickL] using e),Q6v]
theorem J6m {a b:Nat}(ha:a<64) (hb:b<64) (i:Int):i∈setL (2 ^ a ||| 2 ^ b)↔i=a∨i=b:=by
 have h1:2 ^ a<2 ^ 64:=Nat.pow_lt_pow_right (by omega) ha;have h2:2 ^ b<2 ^ 64:=Nat.pow_lt_pow_right (by omega) hb;rw[J7e (Nat.or_lt_two_pow h1 h2)];simp only[Nat.testBit_or,Nat.testBit_two_pow,Bool.or_eq_true,decide_eq_true_eq];constructor
 ·rintro⟨k,rfl,h|h⟩
  ·exact .inl (by rw[h])
  ·exact .inr (by rw[h])
 ·rintro (rfl|rfl)
  ·exact⟨a,rfl,.inl rfl⟩
  ·exact⟨b,rfl,.inr rfl⟩
theorem J87 {l:List Lot}{tl:Int}{a b:Nat}(ha:a<64) (hb:b<64):alikeL l tl (setL (2 ^ a ||| 2 ^ b))=alP l tl a b:=by
 have hpos:0<2 ^ a ||| 2 ^ b:=Nat.lt_of_lt_of_le (Nat.two_pow_pos a) Nat.left_le_or
 rw[Bool.eq_iff_iff,X0c hpos];constructor
 ·intro h;exact h a ((J6m ha hb _).2 (.inl rfl)) b ((J6m ha hb _).2 (.inr rfl))
 ·intro h i hi k hk;have h2:=J6w h;have h3:=Z6f.1 h;have haa:alP l tl a a=true:=Z6f.2 ⟨rfl,h3.2.2.1,h3.2.2.1,h3.2.2.1⟩;have hbb:alP l tl b b=true:=Z6f.2 ⟨rfl,h3.2.2.2,h3.2.2.2,h3.2.2.2⟩;rcases (J6m ha hb _).1 hi with rfl|rfl<;>rcases (J6m ha hb _).1 hk with rfl|rfl<;>assumption
theorem J8v {l:List Lot}{tl:Int}{a:Nat}(ha:a<64):alikeL l tl (setL (2 ^ a))=alP l tl a a:=by
 have:=J87 (l:=l) (tl:=tl) ha ha
 rwa [Nat.or_self] at this
theorem X19 {l:List Lot}{tl:Int}(h:l.length≤12):evenL l tl=evenR l tl:=by unfold evenL evenR;rw[Bool.eq_iff_iff,List.all_eq_true,List.all_eq_true];exact⟨fun h2 k hk=>by rw[←J8v (by have:=List.mem_range.1 hk;omega)];exact h2 k hk,fun h2 k hk=>by rw[J8v (by have:=List.mem_range.1 hk;omega)];exact h2 k hk⟩
def parGo (al:Int→Int→Bool):Nat→List Int→List Int×List (List Int)
 |0,_=>([],[])
 |n+1,L=>match L with
  |[]=>([],[])
  |h::t=>(h::(parGo al n ((h::t).filter fun i=>!al h i)).1,insC cmpII ((h::t).filter (al h)) 0 ((h::t).filter (al h)).length::(parGo al n ((h::t).filter fun i=>!al h i)).2)
section
variable {al:Int→Int→Bool}
theorem J7s {h:Int}{t:List Int}(hr:al h h=true):((h::t).filter fun i=>!al h i).length≤t.length:=by rw[List.filter_cons,if_neg (by simp[hr])];exact List.length_filter_le ..
theorem J5z:∀ n m (L:List Int),(∀ i∈L,al i i=true)→L.length≤n→L.length≤m→parGo al n L=parGo al m L
 |n,m,[],_,_,_=>by cases n<;>cases m<;>rfl
 |0,m,h::t,_,h1,_=>by simp at h1
 |n+1,0,h::t,_,_,h2=>by simp at h2
 |n+1,m+1,h::t,hr,h1,h2=>by have hl:=J7s (t:=t) (hr h (List.mem_cons_self ..));have hr':∀ i∈((h::t).filter fun i=>!al h i),al i i=true:=fun i hi=>hr i (List.mem_filter.1 hi).1;simp only[List.length_cons] at h1 h2;have:=J5z n m _ hr' (by omega) (by omega);simp only[parGo];rw[this]
theorem J9e:∀ n (L:List Int),(parGo al n L).1.length=(parGo al n L).2.length
 |0,_=>rfl
 |n+1,[]=>rfl
 |n+1,h::t=>by simp only[parGo,List.length_cons];rw[J9e n]
theorem J1w {p:Int→Bool}:∀ L:List Int,(L.filter p++L.filter fun i=>!p i).Perm L
 |[]=>.refl _
 |x::L=>by
  have ih:=J1w (p:=p) L;cases hp:p x with
  |true=>rw[List.filter_cons,if_pos hp,List.filter_cons,if_neg (by simp[hp])];exact ih.cons x
  |false =>rw[List.filter_cons,if_neg (by simp[hp]),List.filter_cons,if_pos (by simp[hp])];exact List.perm_middle.trans (ih.cons x)
theorem J54:∀ n (L:List Int),(∀ i∈L,al i i=true)→L.length≤n→((parGo al n L).2.flatten).Perm L
 |0,L,_,h=>by cases L with|nil=>exact .refl _|cons x t=>simp at h
 |n+1,[],_,_=>.refl _
 |n+1,h::t,hr,h1=>by have hl:=J7s (t:=t) (hr h (List.mem_cons_self ..));have hr':∀ i∈((h::t).filter fun i=>!al h i),al i i=true:=fun i hi=>hr i (List.mem_filter.1 hi).1;simp only[List.length_cons] at h1;have ih:=J54 n _ hr' (by omega);simp only[parGo,List.flatten_cons];exact((Q3d (Nat.le_refl _)).append ih).trans (J1w _)
theorem J51 {R:Int→Int→Prop}:∀ n (L:List Int),(∀ i∈L,al i i=true)→L.Pairwise R→L.length≤n →
  (∀ h∈(parGo al n L).1,h∈L)∧(parGo al n L).1.Pairwise (fun a b=>al a b=false)∧(∀ c∈(parGo al n L).2,c.Pairwise (·≤·)∧∃ h,h∈c∧∀ i∈c,al h i=true∧(i=h∨R h i))
 |0,L,_,_,h=>⟨(fun h hh=>by cases hh),.nil,(fun h hh=>by cases hh)⟩
 |n+1,[],_,_,_=>⟨(fun h hh=>by cases hh),.nil,(fun h hh=>by cases hh)⟩
 |n+1,h::t,hr,hp,h1=>by
  have hl:=J7s (t:=t) (hr h (List.mem_cons_self ..));have hr':∀ i∈((h::t).filter fun i=>!al h i),al i i=true:=fun i hi=>hr i (List.mem_filter.1 hi).1;simp only[List.length_cons] at h1;obtain⟨g1,g2,g3⟩:=J51 n _ hr' (hp.filter _) (by omega);simp only[parGo];refine⟨fun x hx=>?_,List.Pairwise.cons (fun x hx=>?_) g2,fun c hc=>?_⟩
  ·rcases List.mem_cons.1 hx with rfl|hx
   ·exact List.mem_cons_self ..
   ·exact(List.mem_filter.1 (g1 x hx)).1
  ·have:=(List.mem_filter.1 (g1 x hx)).2;simpa using this
  ·rcases List.mem_cons.1 hc with rfl|hc
   ·refine⟨sortI _,h,?_,fun i hi=>?_⟩
    ·exact(Q3d (Nat.le_refl _)).mem_iff.2 (List.mem_filter.2 ⟨List.mem_cons_self ..,hr h (List.mem_cons_self ..)⟩)
    ·have hi:=List.mem_filter.1 ((Q3d (Nat.le_refl _)).mem_iff.1 hi);refine⟨hi.2,?_⟩;rcases List.mem_cons.1 hi.1 with rfl|h3
     ·exact .inl rfl
     ·exact .inr ((List.pairwise_cons.1 hp).1 i h3)
   ·exact g3 c hc
end
def ordL (l:List Lot):List Int:=insC (cmpP l) (setL (2 ^ l.length-1)) 0 (setL (2 ^ l.length-1)).length
def alC (l:List Lot) (tl:Int) (i k:Int):Bool:=alikeL l tl (setL (2 ^ i.toNat ||| 2 ^ k.toNat))
def parR (l:List Lot) (tl:Int):List Int×List (List Int):=parGo (alC l tl) (ordL l).length (ordL l)
def parH (l:List Lot) (tl:Int):List Int:=insC cmpII (parR l tl).1 0 (parR l tl).1.length
def parC (l:List Lot) (tl:Int):List (List Int):=insC (fun p:List Int×List Int=>cmpL p.1 p.2) (parR l tl).2 0 (parR l tl).2.length
def partErr (l:List Lot) (tl:Int):Int:=if openErr l tl≠0 then openErr l tl else if evenL l tl then 0 else 9
def parHW (l:List Lot) (tl:Int):List Int:=if partErr l tl=0 then parH l tl else []
def parCW (l:List Lot) (tl:Int):List (List Int):=if partErr l tl=0 then parC l tl else []
def unlR (l:List Lot) (tl:Int) (sm:List Int):Bool:=(List.range sm.length).all fun i=>(List.range i).all fun k=>!alP l tl (sm.getD i 0) (sm.getD k 0)
def apR (l:List Lot) (tl:Int):Int:=(List.range (2 ^ l.length)).foldl (fun a b=>if unlR l tl (chosenK b l.length) then gmax a (chosenK b l.length).length else a) 0
def putC (g:List (List Int)) (a:Int) (i:Nat):List (List Int):=(if i=g.length then g++[[]] else g).set i ((if i=g.length then g++[[]] else g).getD i []++[a])
def cloR (l:List Lot) (tl:Int):Nat→Int→List (List Int)→Int
 |0,_,g=>g.length
 |n+1,a,g=>(List.range (g.length+1)).foldl (fun b i=>if alikeR (pickL l ((putC g a i).getD i [])) tl then gmin b (cloR l tl n (a+1) (putC g a i)) else b) (l.length+1)
theorem X5v (a b:Int):cmpI a b =-cmpI b a:=by unfold cmpI;split<;>split<;>(try split)<;>omega
theorem Z0z:∀ a b:List Int,cmpL a b =-cmpL b a
 |[],[]=>rfl
 |[],_::_=>rfl
 |_::_,[]=>rfl
 |x::a,y::b=>by simp only[cmpL];have h:=X5v x y;have ih:=Z0z a b;split<;>split<;>omega
theorem J5t:∀ a b c:List Int,cmpL a b≤0→cmpL b c≤0→cmpL a c≤0
 |[],_,[],_,_=>by simp[cmpL]
 |[],_,_::_,_,_=>by simp[cmpL]
 |_::_,[],_,h,_=>by simp[cmpL] at h
 |_::_,_::_,[],_,h=>by simp[cmpL] at h
 |x::a,y::b,z::c,h1,h2=>by simp only[cmpL] at h1 h2 ⊢;have ih:=J5t a b c;unfold cmpI at h1 h2 ⊢;by_cases e1:x<y<;>by_cases e2:y<x<;>by_cases e3:y<z<;>by_cases e4:z<y<;>by_cases e5:x<z<;>by_cases e6:z<x<;>simp only[e1,e2,e3,e4,e5,e6,if_true,if_false] at h1 h2 ⊢<;>first|omega|(simp at h1 h2 ⊢;first|omega|exact ih h1 h2)
theorem sortC (xs:List (List Int)):(insC (fun p:List Int×List Int=>cmpL p.1 p.2) xs 0 xs.length).Pairwise fun x y=>cmpL x y≤0 :=
 (J1x (f:=fun p:List Int×List Int=>cmpL p.1 p.2) (fun x y h h2=>by have:=Z0z x y;dsimp only at h h2;omega) (fun x y z h1 h2 h3=>by
  dsimp only at h1 h2 h3;have a1:=Z0z x y;have a2:=Z0z y z;have a3:=Z0z x z;have:=J5t x y z (by omega) (by omega);omega) xs).imp fun {x y} h=>by
  dsimp only at h;have:=Z0z x y;omega
theorem J7x {l:List Lot}{x y:Int}:cmpP l (x,y)<0↔(l.getD x.toNat lotD).1<(l.getD y.toNat lotD).1∨(l.getD x.toNat lotD).1=(l.getD y.toNat lotD).1∧(l.getD x.toNat lotD).2.1.1<(l.getD y.toNat lotD).2.1.1:=by
 have e:∀ a b:Int,orI [a,b]=if a≠0 then a else b:=fun a b=>by
  unfold orI;by_cases h:a=0
  ·subst h;by_cases h2:b=0
   ·subst h2;rfl
   ·simp[h2]
  ·simp[h]
 unfold cmpP;rw[e];dsimp only;generalize (l.getD x.toNat lotD).1=c1;generalize (l.getD y.toNat lotD).1=c2;unfold cmpI;split<;>split<;>(try split)<;>(try split)<;>omega
theorem sortP (l:List Lot) (xs:List Int):(insC (cmpP l) xs 0 xs.length).Pairwise fun x y=>¬ cmpP l (y,x)<0 :=
 J1x (fun x y h h2=>by rw[J7x] at h h2;omega) (fun x y z h1 h2 h3=>by rw[J7x] at h1 h2 h3;omega) xs
theorem X6j {n:Nat}(hn:n≤64):setL (2 ^ n-1)=(List.range n).map fun (k:Nat)=>(k:Int):=by rw[J1d (m:=n) (by have:=Nat.two_pow_pos n;omega) hn];unfold chosenK;rw[List.filter_eq_self.2 fun k hk=>by rw[Nat.testBit_two_pow_sub_one];simpa using hk]
theorem J22 {l:List Lot}(h:l.length≤12):(ordL l).Perm ((List.range l.length).map fun (k:Nat)=>(k:Int)):=by unfold ordL;rw[←X6j (by omega)];exact Q3d (Nat.le_refl _)
theorem Z55 {l:List Lot}(h:l.length≤12) {i:Int}:i∈ordL l↔0≤i∧i<l.length:=by
 rw[(J22 h).mem_iff,List.mem_map];constructor
 ·rintro⟨k,hk,rfl⟩;have:=List.mem_range.1 hk;omega
 ·intro h2;exact⟨i.toNat,List.mem_range.2 (by omega),by omega⟩
theorem X00 {l:List Lot}{tl i k:Int}(hl:l.length≤12) (hi:0≤i∧i<l.length) (hk:0≤k∧k<l.length):alC l tl i k=alP l tl i k:=by unfold alC;rw[J87 (by omega) (by omega),show ((i.toNat:Nat):Int)=i by omega,show ((k.toNat:Nat):Int)=k by omega]
theorem J8j {l:List Lot}{tl:Int}(hl:l.length≤12) (he:evenL l tl=true):∀ i∈ordL l,alC l tl i i=true:=fun i hi=>by
 have hi:=(Z55 hl).1 hi;rw[X00 hl hi hi];rw[X19 hl] at he;have:=List.all_eq_true.1 he i.toNat (List.mem_range.2 (by omega))
 rwa [show ((i.toNat:Nat):Int)=i by omega] at this
theorem J93 {l:List Lot}{tl:Int}(hl:l.length≤12) (hok:∀ y∈l,lotOk y=true) (he:evenL l tl=true) :
  (parC l tl).flatten.Perm ((List.range l.length).map fun (k:Nat)=>(k:Int))∧(∀ c∈parC l tl,c.Pairwise (·≤·)∧c≠[]∧alikeR (pickL l c) tl=true)∧(parC l tl).Pairwise (fun x y=>cmpL x y≤0) ∧
  (parH l tl).Pairwise (·<·)∧(∀ i∈parH l tl,0≤i∧i<l.length)∧(∀ i∈parH l tl,∀ k∈parH l tl,i≠k→alP l tl i k=false)∧(parH l tl).length=(parC l tl).length:=by
 have hr:=J8j hl he;have hpw:=sortP l (setL (2 ^ l.length-1));obtain⟨g1,g2,g3⟩:=J51 (al:=alC l tl) (ordL l).length (ordL l) hr hpw (Nat.le_refl _);have gp:=J54 (al:=alC l tl) (ordL l).length (ordL l) hr (Nat.le_refl _);have gl:=J9e (al:=alC l tl) (ordL l).length (ordL l);change ∀ h∈(parR l tl).1,h∈ordL l at g1;change (parR l tl).1.Pairwise _ at g2;change ∀ c∈(parR l tl).2,_ at g3;change (parR l tl).2.flatten.Perm _ at gp;change (parR l tl).1.length=(parR l tl).2.length at gl;have hC:(parC l tl).Perm (parR l tl).2:=Q3d (Nat.le_refl _);have hH:(parH l tl).Perm (parR l tl).1:=Q3d (Nat.le_refl _);have hin:∀ i∈(parR l tl).1,0≤i∧i<l.length:=fun i hi=>(Z55 hl).1 (g1 i hi);have hcin:∀ c∈(parR l tl).2,∀ i∈c,0≤i∧i<l.length:=fun c hc i hi=>(Z55 hl).1 (gp.mem_iff.1 (List.mem_flatten.2 ⟨c,hc,hi⟩));have hnd:(parR l tl).1.Nodup:=by refine g2.imp_of_mem fun {a b} ha _ h e=>?_;subst e;rw[hr a (g1 a ha)] at h;cases h
 refine⟨(hC.flatten.trans gp).trans (J22 hl),fun c hc=>?_,sortC _,sortS hnd,fun i hi=>hin i (hH.mem_iff.1 hi),fun i hi k hk hne=>?_,?_⟩
 ·have hc:=hC.mem_iff.1 hc;obtain⟨s1,h,s2,s3⟩:=g3 c hc;have hhin:=hcin c hc h s2;refine⟨s1,List.ne_nil_of_mem s2,Q6v.2 fun i hi k hk=>?_⟩;have hiin:=hcin c hc i hi;have hkin:=hcin c hc k hk;obtain⟨a1,a2⟩:=s3 i hi;obtain⟨b1,b2⟩:=s3 k hk;rw[X00 hl hhin hiin,Z6f] at a1;rw[X00 hl hhin hkin,Z6f] at b1;obtain⟨p1,p2,p3,p4⟩:=a1;obtain⟨q1,q2,q3,q4⟩:=b1;refine Z6f.2 ⟨p1.symm.trans q1,?_,p4,q4⟩;have la:(l.getD h.toNat lotD).2.1.1≤(l.getD i.toNat lotD).2.1.1:=by
   rcases a2 with rfl|a2
   ·exact Int.le_refl _
   ·rw[J7x] at a2;omega
  have lb:(l.getD h.toNat lotD).2.1.1≤(l.getD k.toNat lotD).2.1.1:=by
   rcases b2 with rfl|b2
   ·exact Int.le_refl _
   ·rw[J7x] at b2;omega
  unfold farL at p2 q2 ⊢;simp only[Z23] at p2 q2 ⊢;omega
 ·have hi':=hH.mem_iff.1 hi;have hk':=hH.mem_iff.1 hk;have key:alC l tl i k=false∨alC l tl k i=false:=by
   obtain⟨p,hp,rfl⟩:=List.getElem_of_mem hi';obtain⟨q,hq,rfl⟩:=List.getElem_of_mem hk';rcases Nat.lt_trichotomy p q with h|h|h
   ·exact .inl (List.pairwise_iff_getElem.1 g2 p q hp hq h)
   ·subst h;exact(hne rfl).elim
   ·exact .inr (List.pairwise_iff_getElem.1 g2 q p hq hp h)
  rcases key with h|h
  ·rwa [X00 hl (hin i hi') (hin k hk')] at h
  ·rw[X00 hl (hin k hk') (hin i hi')] at h;cases h2:alP l tl i k with
   |false=>rfl
   |true=>rw[J6w h2] at h;cases h
 ·rw[hH.length_eq,hC.length_eq,gl]
theorem Z4n {α:Type}{a b:List α}(h:a.Perm b):a.isEmpty=b.isEmpty:=by have:=h.length_eq;cases a<;>cases b<;>simp_all
theorem J2d {i:Int}(h0:0≤i) (h:i≤63):shlI .u64 1 i=((2 ^ i.toNat:Nat):Int):=by unfold shlI;rw[show Nat.min i.toNat (IntKind.bits .u64)=i.toNat from Nat.min_eq_left (show i.toNat≤64 by omega),Int.one_mul];simp
theorem W0g {a b:Nat}(ha:a<2 ^ 64) (hb:b<2 ^ 64):vbits .or .u64 (a:Int) (b:Int)=((a ||| b:Nat):Int):=by
 have e:(BitVec.ofInt 64 ((a:Nat):Int) ||| BitVec.ofInt 64 ((b:Nat):Int)).toNat=a ||| b:=by rw[BitVec.toNat_or,BitVec.toNat_ofInt,BitVec.toNat_ofInt];congr 1<;>omega
 have hlt:=Nat.or_lt_two_pow ha hb;show IntKind.wrap .u64 ((BitVec.ofInt 64 ((a:Nat):Int) ||| BitVec.ofInt 64 ((b:Nat):Int)).toNat:Int)=_;rw[e];simp[IntKind.wrap,IntKind.bits,IntKind.signed];omega
theorem X7j {i k:Int}(hi:0≤i∧i≤12) (hk:0≤k∧k≤12):vbits .or .u64 (shlI .u64 1 i) (shlI .u64 1 k)=((2 ^ i.toNat ||| 2 ^ k.toNat:Nat):Int):=by rw[J2d hi.1 (by omega),J2d hk.1 (by omega)];exact W0g (Nat.pow_lt_pow_right (by omega) (by omega)) (Nat.pow_lt_pow_right (by omega) (by omega))
theorem Z52 {n:Nat}(h:n≤12):2 ^ n≤4096:=Nat.pow_le_pow_right (n:=2) (by omega) h
theorem Z6z {l:List Lot}{tl e:Int}(h:partErr l tl=e) (h0:e≠0):parHW l tl=[]∧parCW l tl=[]:=by unfold parHW parCW;rw[if_neg (by omega),if_neg (by omega)];exact⟨rfl,rfl⟩
theorem X1a {l:List Lot}{tl:Int}{sm:List Int}:unlR l tl sm=true↔∀ i,i<sm.length→∀ k,k<i→alP l tl (sm.getD i 0) (sm.getD k 0)=false:=by
 unfold unlR;rw[List.all_eq_true];constructor
 ·intro h i hi k hk;have:=List.all_eq_true.1 (h i (List.mem_range.2 hi)) k (List.mem_range.2 hk);simpa using this
 ·intro h i hi;refine List.all_eq_true.2 fun k hk=>?_;rw[h i (List.mem_range.1 hi) k (List.mem_range.1 hk)];rfl
theorem X8l {k:Nat}(h:k≤62):shlI .i64 1 (k:Int)=((2 ^ k:Nat):Int):=by unfold shlI;rw[Int.toNat_natCast,show Nat.min k (IntKind.bits .i64)=k from Nat.min_eq_left (show k≤64 by omega),Int.one_mul];simp
def apK (l:List Lot) (tl:Int) (n:Nat):Int:=(List.range n).foldl (fun a b=>if unlR l tl (chosenK b l.length) then gmax a (chosenK b l.length).length else a) 0
theorem J6a {l:List Lot}{tl:Int}{n:Nat}:apK l tl (n+1)=if unlR l tl (chosenK n l.length) then gmax (apK l tl n) (chosenK n l.length).length else apK l tl n:=by unfold apK;rw[List.range_succ,List.foldl_append];rfl
def cloK (l:List Lot) (tl:Int) (n:Nat) (a:Int) (g:List (List Int)) (m:Nat):Int:=(List.range m).foldl (fun b i=>if alikeR (pickL l ((putC g a i).getD i [])) tl then gmin b (cloR l tl n (a+1) (putC g a i)) else b) (l.length+1)
theorem Z1m {l:List Lot}{tl:Int}{n:Nat}{a:Int}{g:List (List Int)}{m:Nat}:cloK l tl n a g (m+1)=if alikeR (pickL l ((putC g a m).getD m [])) tl then gmin (cloK l tl n a g m) (cloR l tl n (a+1) (putC g a m)) else cloK l tl n a g m:=by unfold cloK;rw[List.range_succ,List.foldl_append];rfl
theorem X70 {g:List (List Int)}{a:Int}{i:Nat}:(putC g a i).length≤g.length+1:=by
 unfold putC;rw[List.length_set];split
 ·rw[List.length_append];simp
 ·omega
theorem Z0m {g:List (List Int)}{a:Int}{i:Nat}(h:i≤g.length):(putC g a i).getD i []=g.getD i []++[a]:=by
 unfold putC;by_cases e:i=g.length
 ·subst e;rw[if_pos rfl,Q02 (by simp)];simp[List.getD_eq_getElem?_getD]
 ·rw[if_neg e,Q02 (by simp;omega)];simp
theorem Z1n {g:List (List Int)}{a:Int}{i j:Nat}(h:i≤g.length) (hj:j≠i):(putC g a i).getD j []=g.getD j []:=by
 unfold putC;simp only[List.getD_eq_getElem?_getD,List.getElem?_set,if_neg (show ¬ i=j from fun e=>hj e.symm)];by_cases e:i=g.length
 ·rw[if_pos e,List.getElem?_append];split
  ·rfl
  ·rw[List.getElem?_eq_none (by simp;omega),List.getElem?_eq_none (by omega)]
 ·rw[if_neg e]
theorem Q43 {g:List (List Int)}{a:Int}{i:Nat}:(putC g a i).length=if i=g.length then g.length+1 else g.length:=by
 unfold putC;rw[List.length_set];split
 ·rw[List.length_append];rfl
 ·rfl
theorem J6r {g:List (List Int)}(j:Nat):g.getD j []=[]∨g.getD j []∈g:=by
 by_cases h:j<g.length
 ·right;rw[Q02 h];exact List.getElem_mem h
 ·left;rw[List.getD_eq_getElem?_getD,List.getElem?_eq_none (by omega)];rfl
theorem X9a {g:List (List Int)}{a k:Nat}(hk:k≤g.length) (h6:∀ c∈g,c.length≤a∧∀ i∈c,0≤i∧i<(a:Int)):∀ c∈putC g a k,c.length≤a+1∧∀ i∈c,0≤i∧i<(a:Int)+1:=fun c hc=>by
 have hg:∀ j,(g.getD j []).length≤a∧∀ i∈g.getD j [],0≤i∧i<(a:Int):=fun j=>by
  rcases J6r (g:=g) j with h|h
  ·rw[h];exact⟨Nat.zero_le _,fun i hi=>by cases hi⟩
  ·exact h6 _ h
 obtain⟨j,hj,rfl⟩:=List.getElem_of_mem hc;have e:(putC g a k)[j]=(putC g a k).getD j []:=(Q02 hj).symm;rw[e];by_cases ejk:j=k
 ·subst ejk;rw[Z0m hk];obtain⟨g1,g2⟩:=hg j;refine⟨by rw[List.length_append,List.length_singleton];omega,fun i hi=>?_⟩;rcases List.mem_append.1 hi with hi|hi
  ·have:=g2 i hi;omega
  ·have:=List.mem_singleton.1 hi;omega
 ·rw[Z1n hk ejk];obtain⟨g1,g2⟩:=hg j;exact⟨by omega,fun i hi=>by have:=g2 i hi;omega⟩
theorem Z8o:∀ {l m:List Nat},l.Nodup→(∀ x∈l,x∈m)→l.length≤m.length
 |[],_,_,_=>Nat.zero_le _
 |x::l,m,hn,hs=>by have hn:=List.nodup_cons.1 hn;have hx:=hs x (List.mem_cons_self ..);have:=Z8o (l:=l) (m:=m.erase x) hn.2 fun y hy=>(List.mem_erase_of_ne (by rintro rfl;exact hn.1 hy)).2 (hs y (List.mem_cons_of_mem _ hy));rw[List.length_erase_of_mem hx] at this;have:0<m.length:=List.length_pos_of_mem hx;simp only[List.length_cons];omega
theorem J66 {S:List Int}{K:Nat}(f:Int→Nat) (hn:S.Nodup) (hf:∀ i∈S,f i<K) (hi:∀ i∈S,∀ j∈S,f i=f j→i=j):S.length≤K:=by
 have h1:(S.map f).Nodup:=List.pairwise_map.2 (hn.imp_of_mem fun {a b} ha hb h e=>h (hi a ha b hb e));have:=Z8o (m:=List.range K) h1 fun x hx=>by obtain⟨i,h,rfl⟩:=List.mem_map.1 hx;exact List.mem_range.2 (hf i h)
 rwa [List.length_map,List.length_range] at this
def UnlS (l:List Lot) (tl:Int) (S:List Int):Prop:=S.Nodup∧(∀ i∈S,0≤i∧i<l.length)∧∀ i∈S,∀ k∈S,i≠k→alP l tl i k=false
theorem X8c {l:List Lot}{tl:Int}{S:List Int}(hS:UnlS l tl S) (hl:S.length≤l.length):∀ n a (g:List (List Int)),a+n=l.length→(∀ c∈g,alikeR (pickL l c) tl=true)→(∀ i:Int,0≤i→i<a→∃ c∈g,i∈c)→(S.length:Int)≤cloR l tl n a g
 |0,a,g,hn,hg,hc=>by
  have key:∀ i∈S,∃ k,k<g.length∧i∈g.getD k []:=fun i hi=>by have:=hS.2.1 i hi;obtain⟨c,h1,h2⟩:=hc i this.1 (by omega);obtain⟨k,hk,rfl⟩:=List.getElem_of_mem h1;exact⟨k,hk,by rw[Q02 hk];exact h2⟩
  have:=J66 (K:=g.length) (fun i=>g.findIdx fun c=>c.contains i) hS.1 (fun i hi=>by
   obtain⟨k,h1,h2⟩:=key i hi;rw[Q02 h1] at h2;exact List.findIdx_lt_length_of_exists ⟨_,List.getElem_mem h1,by simpa using h2⟩) fun i hi j hj e=>by
   obtain⟨k,h1,h2⟩:=key i hi;rw[Q02 h1] at h2;have hx:=List.findIdx_lt_length_of_exists (p:=fun c:List Int=>c.contains i) ⟨_,List.getElem_mem h1,by simpa using h2⟩;obtain⟨k',h1',h2'⟩:=key j hj;rw[Q02 h1'] at h2';have hy:=List.findIdx_lt_length_of_exists (p:=fun c:List Int=>c.contains j) ⟨_,List.getElem_mem h1',by simpa using h2'⟩;have hix:=List.findIdx_getElem (p:=fun c:List Int=>c.contains i) (w:=hx);have hjy:=List.findIdx_getElem (p:=fun c:List Int=>c.contains j) (w:=hy);have hi2:i∈g[g.findIdx fun c=>c.contains i]:=by simpa using hix
   have hj2:j∈g[g.findIdx fun c=>c.contains i]:=by simp only[e];simpa using hjy
   have hal:=Q6v.1 (hg _ (List.getElem_mem hx)) i hi2 j hj2;rcases Decidable.em (i=j) with h|h
   ·exact h
   ·rw[hS.2.2 i hi j hj h] at hal;cases hal
  simp only[cloR];omega
 |n+1,a,g,hn,hg,hc=>by
  have:∀ m,m≤g.length+1→(S.length:Int)≤cloK l tl n a g m:=by
   intro m;induction m with
   |zero=>intro _;show (S.length:Int)≤(l.length:Int)+1;omega
   |succ m ih =>
    intro hm;have ih:=ih (by omega);rw[Z1m];split
    ·rename_i hal;have:=X8c hS hl n (a+1) (putC g a m) (by omega) (fun c hc2=>by
      obtain⟨j,hj,rfl⟩:=List.getElem_of_mem hc2;have e:(putC g a m)[j]=(putC g a m).getD j []:=(Q02 hj).symm;rw[e];by_cases ej:j=m
      ·subst ej;exact hal
      ·rw[Z1n (by omega) ej];rcases J6r (g:=g) j with h|h
       ·rw[h];rfl
       ·exact hg _ h) fun i h0 h1=>by
      have hml:m<(putC g (a:Int) m).length:=by rw[Q43];split<;>omega
      by_cases e:i=a
      ·subst e;refine⟨_,List.getElem_mem hml,?_⟩;rw[←Q02 hml (d:=[]),Z0m (by omega)];simp
      ·obtain⟨c,hc1,hc2⟩:=hc i h0 (by omega);obtain⟨j,hj,rfl⟩:=List.getElem_of_mem hc1;have hjl:j<(putC g (a:Int) m).length:=by rw[Q43];split<;>omega
       refine⟨_,List.getElem_mem hjl,?_⟩;rw[←Q02 hjl (d:=[])];by_cases ej:j=m
       ·subst ej;rw[Z0m (by omega),Q02 hj];exact List.mem_append_left _ hc2
       ·rw[Z1n (by omega) ej,Q02 hj];exact hc2
     rw[Z8l];have e:((a:Int)+1)=((a+1:Nat):Int):=by omega
     rw[e];omega
    ·exact ih
  exact this (g.length+1) (Nat.le_refl _)
theorem X6a {l:List Lot}{tl:Int}{K:Nat}(cls:Int→Nat) (hK:∀ i:Int,0≤i→i<l.length→cls i<K) (hal:∀ i k:Int,0≤i→i<l.length→0≤k→k<l.length→cls i=cls k→alP l tl i k=true) :
  ∀ n a (g:List (List Int)) (κ:List Nat),a+n=l.length→κ.length=g.length→κ.Nodup→(∀ x∈κ,x<K)→(∀ k,k<g.length→∀ i∈g.getD k [],(0≤i∧i<(l.length:Int))∧cls i=κ.getD k 0)→cloR l tl n a g≤K
 |0,a,g,κ,_,h2,h3,h4,_=>by have:=Z8o (m:=List.range K) h3 fun x hx=>List.mem_range.2 (h4 x hx);rw[List.length_range] at this;simp only[cloR];omega
 |n+1,a,g,κ,h1,h2,h3,h4,h5=>by
  have hle:∀ m m',m≤m'→cloK l tl n a g m'≤cloK l tl n a g m:=by
   intro m m' h;induction m' with
   |zero=>rw[show m=0 by omega];exact Int.le_refl _
   |succ m' ih =>
    by_cases e:m=m'+1
    ·rw[e];exact Int.le_refl _
    ·have:=ih (by omega);rw[Z1m];split
     ·rw[Z8l];omega
     ·exact this
  have hstep:∀ m,m≤g.length→alikeR (pickL l ((putC g a m).getD m [])) tl=true→cloR l tl n ((a:Int)+1) (putC g a m)≤K→cloR l tl (n+1) a g≤K:=fun m hm ha hc=>by have h6:cloR l tl (n+1) a g≤cloK l tl n a g (m+1):=hle (m+1) (g.length+1) (by omega);rw[Z1m,if_pos ha,Z8l] at h6;omega
  have ea:((a:Int)+1)=((a+1:Nat):Int):=by omega
  rcases Decidable.em (cls a∈κ) with hin|hin
  ·obtain⟨m,hm,hme⟩:=List.getElem_of_mem hin;have hmg:m<g.length:=by omega
   refine hstep m (by omega) ?_ ?_
   ·rw[Z0m (by omega),Q6v];have hcl:∀ i∈g.getD m []++[(a:Int)],(0≤i∧i<(l.length:Int))∧cls i=cls a:=fun i hi=>by
     rcases List.mem_append.1 hi with hi|hi
     ·have:=h5 m hmg i hi;rw[Q02 hm,hme] at this;exact this
     ·rw[List.mem_singleton.1 hi];exact⟨by omega,rfl⟩
    intro i hi k hk;have hi:=hcl i hi;have hk:=hcl k hk;exact hal i k hi.1.1 hi.1.2 hk.1.1 hk.1.2 (hi.2.trans hk.2.symm)
   ·rw[ea];refine X6a cls hK hal n (a+1) (putC g a m) κ (by omega) (by rw[Q43,if_neg (by omega),h2]) h3 h4 fun k hk i hi=>?_;rw[Q43,if_neg (by omega)] at hk;by_cases e:k=m
    ·subst e;rw[Z0m (by omega)] at hi;rcases List.mem_append.1 hi with hi|hi
     ·exact h5 k hk i hi
     ·rw[List.mem_singleton.1 hi,Q02 hm,hme];exact⟨by omega,rfl⟩
    ·rw[Z1n (by omega) e] at hi;exact h5 k hk i hi
  ·refine hstep g.length (Nat.le_refl _) ?_ ?_
   ·rw[Z0m (Nat.le_refl _),Q6v];have hz:g.getD g.length []=[]:=by rw[List.getD_eq_getElem?_getD,List.getElem?_eq_none (Nat.le_refl _)];rfl
    rw[hz];intro i hi k hk;have hi:=List.mem_singleton.1 hi;have hk:=List.mem_singleton.1 hk;subst hi hk;exact hal _ _ (by omega) (by omega) (by omega) (by omega) rfl
   ·rw[ea];refine X6a cls hK hal n (a+1) (putC g a g.length) (κ++[cls a]) (by omega) (by rw[Q43,if_pos rfl,List.length_append,h2];rfl) ?_ ?_ fun k hk i hi=>?_
    ·exact List.nodup_append.2 ⟨h3,by simp,fun x hx y hy e=>by rw[List.mem_singleton.1 hy] at e;rw[e] at hx;exact hin hx⟩
    ·intro x hx;rcases List.mem_append.1 hx with hx|hx
     ·exact h4 x hx
     ·rw[List.mem_singleton.1 hx];exact hK _ (by omega) (by omega)
    ·rw[Q43,if_pos rfl] at hk;by_cases e:k=g.length
     ·subst e;rw[Z0m (Nat.le_refl _)] at hi;have hz:g.getD g.length []=[]:=by rw[List.getD_eq_getElem?_getD,List.getElem?_eq_none (Nat.le_refl _)];rfl
      rw[hz] at hi;have hi:=List.mem_singleton.1 hi;subst hi;refine⟨by omega,?_⟩;rw[←h2,Q02 (by rw[List.length_append];simp)];simp
     ·rw[Z1n (Nat.le_refl _) e] at hi;have:=h5 k (by omega) i hi;refine⟨this.1,?_⟩;rw[this.2,Q02 (show k<κ.length by omega),Q02 (show k<(κ++[cls a]).length by rw[List.length_append];omega),List.getElem_append_left (by omega)]
theorem X60 {n:Nat}{S:List Int}(hs:S.Pairwise (·<·)) (hin:∀ i∈S,0≤i∧i<(n:Int)):∃ b,b<2 ^ n∧chosenK b n=S:=by
 have key:∀ m,m≤n→∃ b,b<2 ^ m∧∀ k,k<m→(b.testBit k=true↔(k:Int)∈S):=by
  intro m;induction m with
  |zero=>intro _;exact⟨0,by decide,fun k hk=>by omega⟩
  |succ m ih =>
   intro hm;obtain⟨b,h1,h2⟩:=ih (by omega);by_cases h:(m:Int)∈S
   ·refine⟨2 ^ m+b,by rw[Nat.pow_succ];omega,fun k hk=>?_⟩;by_cases e:k=m
    ·subst e;rw[Nat.testBit_two_pow_add_eq,Nat.testBit_lt_two_pow h1];simp[h]
    ·rw[Nat.testBit_two_pow_add_gt (by omega)];exact h2 k (by omega)
   ·refine⟨b,by rw[Nat.pow_succ];omega,fun k hk=>?_⟩;by_cases e:k=m
    ·subst e;rw[Nat.testBit_lt_two_pow h1];simp[h]
    ·exact h2 k (by omega)
 obtain⟨b,h1,h2⟩:=key n (Nat.le_refl _);refine⟨b,h1,Z6w ?_ hs fun x=>?_⟩
 ·unfold chosenK;exact List.pairwise_map.2 (((List.pairwise_lt_range (n:=n)).filter _).imp fun h=>by omega)
 ·unfold chosenK;rw[List.mem_map];constructor
  ·rintro⟨k,hk,rfl⟩;have:=List.mem_filter.1 hk;exact(h2 k (List.mem_range.1 this.1)).1 this.2
  ·intro hx;have:=hin x hx;refine⟨x.toNat,List.mem_filter.2 ⟨List.mem_range.2 (by omega),(h2 x.toNat (by omega)).2 ?_⟩,by omega⟩
   rwa [show ((x.toNat:Nat):Int)=x by omega]
theorem X12 {l:List Lot}{tl:Int}{S:List Int}(hs:S.Pairwise (·<·)):unlR l tl S=true↔∀ i∈S,∀ k∈S,i≠k→alP l tl i k=false:=by
 rw[X1a];constructor
 ·intro h i hi k hk hne;obtain⟨p,hp,rfl⟩:=List.getElem_of_mem hi;obtain⟨q,hq,rfl⟩:=List.getElem_of_mem hk;rcases Nat.lt_trichotomy p q with e|e|e
  ·have:=h q hq p e;rw[Q02 hq,Q02 hp] at this;cases h2:alP l tl S[p] S[q] with
   |false=>rfl
   |true=>rw[J6w h2] at this;cases this
  ·subst e;exact(hne rfl).elim
  ·have:=h p hp q e
   rwa [Q02 hq,Q02 hp] at this
 ·intro h i hi k hk;rw[Q02 hi,Q02 (show k<S.length by omega)];refine h _ (List.getElem_mem _) _ (List.getElem_mem _) fun e=>?_;have:=List.pairwise_iff_getElem.1 hs k i (by omega) hi hk;omega
theorem X7g {c:List Int}{i:Int}(h:c.contains i=true):i∈c:=by simpa using h
theorem X0v {l:List Lot}{tl:Int}(hl:l.length≤12) (hok:∀ y∈l,lotOk y=true) (he:evenL l tl=true) :
  ((parC l tl).length:Int)=cloR l tl l.length 0 []∧((parH l tl).length:Int)=apR l tl:=by
 obtain⟨p1,p2,p3,p4,p5,p6,p7⟩:=J93 hl hok he;have hHn:(parH l tl).Nodup:=p4.imp fun h e=>by omega
 have hH:UnlS l tl (parH l tl):=⟨hHn,p5,p6⟩;have hHl:(parH l tl).length≤l.length:=J66 (K:=l.length) (fun i=>i.toNat) hHn (fun i hi=>by have:=p5 i hi;omega) fun i hi j hj e=>by have:=p5 i hi;have:=p5 j hj;omega
 have hcov:∀ i:Int,0≤i→i<l.length→∃ k,∃ h:k<(parC l tl).length,i∈(parC l tl)[k]:=fun i h0 h1=>by have:i∈(parC l tl).flatten:=p1.mem_iff.2 (List.mem_map.2 ⟨i.toNat,List.mem_range.2 (by omega),by omega⟩);obtain⟨c,hc,hi⟩:=List.mem_flatten.1 this;obtain⟨k,hk,rfl⟩:=List.getElem_of_mem hc;exact⟨k,hk,hi⟩
 let cls:Int→Nat:=fun i=>(parC l tl).findIdx fun c=>c.contains i;have hK:∀ i:Int,0≤i→i<l.length→cls i<(parC l tl).length:=fun i h0 h1=>by obtain⟨k,hk,hi⟩:=hcov i h0 h1;exact List.findIdx_lt_length_of_exists ⟨_,List.getElem_mem hk,by simpa using hi⟩
 have hcls:∀ i:Int,(h0:0≤i)→(h1:i<l.length)→i∈(parC l tl)[cls i]'(hK i h0 h1):=fun i h0 h1=>by exact X7g (List.findIdx_getElem (p:=fun c:List Int=>c.contains i) (w:=hK i h0 h1))
 have hal:∀ i k:Int,0≤i→i<l.length→0≤k→k<l.length→cls i=cls k→alP l tl i k=true:=fun i k a1 a2 b1 b2 e=>by
  have h1:=hcls i a1 a2;have h2:=hcls k b1 b2;have h3:k∈(parC l tl)[cls i]'(hK i a1 a2):=by simp only[e];exact h2
  exact Q6v.1 (p2 _ (List.getElem_mem (hK i a1 a2))).2.2 i h1 k h3
 have hge:=X8c hH hHl l.length 0 [] (by omega) (fun c hc=>by cases hc) fun i h0 h1=>by omega
 have hle:=X6a (l:=l) (tl:=tl) cls hK hal l.length 0 [] [] (by omega) rfl List.nodup_nil (fun x hx=>by cases hx) fun k hk=>by simp at hk
 have hz:((0:Nat):Int)=0:=rfl;rw[hz] at hge hle;refine⟨by omega,?_⟩;have hap:∀ m,m≤2 ^ l.length→0≤apK l tl m∧apK l tl m≤((parC l tl).length:Int)∧∀ b,b<m→unlR l tl (chosenK b l.length)=true→((chosenK b l.length).length:Int)≤apK l tl m:=by
  intro m;induction m with
  |zero=>intro _;exact⟨Int.le_refl _,by show (0:Int)≤_;omega,fun b hb=>by omega⟩
  |succ m ih =>
   intro hm;obtain⟨i0,i1,i2⟩:=ih (by omega);rw[J6a];split
   ·rename_i hu;have hsr:(chosenK m l.length).Pairwise (·<·):=by
     unfold chosenK;exact List.pairwise_map.2 (((List.pairwise_lt_range (n:=l.length)).filter _).imp fun h=>by omega)
    have hin:∀ i∈chosenK m l.length,0≤i∧i<(l.length:Int):=fun i hi=>by unfold chosenK at hi;obtain⟨k,hk,rfl⟩:=List.mem_map.1 hi;have:=List.mem_range.1 (List.mem_filter.1 hk).1;omega
    have hun:=(X12 hsr).1 hu;have:=J66 (K:=(parC l tl).length) cls (hsr.imp fun h e=>by omega) (fun i hi=>hK i (hin i hi).1 (hin i hi).2) fun i hi j hj e=>by
     rcases Decidable.em (i=j) with h|h
     ·exact h
     ·have h1:=hun i hi j hj h;rw[hal i j (hin i hi).1 (hin i hi).2 (hin j hj).1 (hin j hj).2 e] at h1;cases h1
    rw[Z23];refine⟨by omega,by omega,fun b hb hub=>?_⟩;by_cases e:b=m
    ·subst e;omega
    ·have:=i2 b (by omega) hub;omega
   ·rename_i hu;refine⟨i0,i1,fun b hb hub=>?_⟩;by_cases e:b=m
    ·subst e;exact(hu hub).elim
    ·exact i2 b (by omega) hub
 obtain⟨b,hb1,hb2⟩:=X60 p4 p5;obtain⟨_,q1,q2⟩:=hap (2 ^ l.length) (Nat.le_refl _);have q3:=q2 b hb1 (by rw[hb2];exact(X12 p4).2 p6);rw[hb2] at q3;have:apR l tl=apK l tl (2 ^ l.length):=rfl;omega
end Go.Proofs.Tryz
set_option linter.unusedVariables false
namespace Go.Proofs.Tryz
open Go Go.V Go.Proofs
def Q9e:AL ((List (Int×(Int×Int)×Int))×Int):=(.one (.agg (.cons (.k (.list (.pair (.i .i64) (.pair (.pair (.i .i64) (.i .i64)) (.i .i64))))) (.one (.k (.i .i64))))))
def Z5f (d:(List (Int×(Int×Int)×Int))×Int):Prop:=d.1.length≤12∧(∀ y∈d.1,lotOk y=true)
def Q89 (d:(List (Int×(Int×Int)×Int))×Int):SV:=.val .bo (evenL d.1 d.2)
def Q86 (d:(List (Int×(Int×Int)×Int))×Int):List OB:=[]
def Q63:CSp:=mkSp Q9e Z5f Q89 Q86
def Q3a (l:List (Int×(Int×Int)×Int)) (tl:Int):Prop :=
 ∃ (e3:Unit) (d30:Int),((True∧(lI l)=(lI l)∧(0:Int)=d30∧True)∧((l=l∧tl=tl∧(([]:List SV)=[]))∧True)) ∧
 LoopP (fun (d3:Int) (q3:(Int)→Prop) =>
  ((decide (d3<(lI l)))=true →
   (0≤d3)∧(InK .u64 (shlI .u64 (1:Int) d3))∧(l.length≤12∧(∀ y∈l,lotOk y=true)∧0<(shlI .u64 (1:Int) d3)∧(shlI .u64 (1:Int) d3)<2 ^ l.length)∧((!(alikeL l tl (setL (shlI .u64 (1:Int) d3).toNat)))=true →
    (false=(evenL l tl)∧(True))) ∧
   ((!(alikeL l tl (setL (shlI .u64 (1:Int) d3).toNat)))=false →
    (I64 (d3+(1:Int)))∧(∃ d4:Int,((True∧(lI l)=(lI l)∧(d3+(1:Int))=d4∧True)∧((l=l∧tl=tl∧(([]:List SV)=[]))∧True))∧q3 d4))) ∧
  ((decide (d3<(lI l)))=false →
   (true=(evenL l tl)∧(True)))) d30
def Q9u:Cx:=⟨[],[(79,Q3c)],16,[],0,[],[],[],[],false,[],[],[],[]⟩
def Z6k (l:List (Int×(Int×Int)×Int)) (tl:Int):List (Nat×LoopAnn):=[(0,⟨Unit,Int,[1,6,7],fun e x=>[.box 1 0,.val (.i .i64) (((List.length l):Nat):Int),.val (.i .i64) x],fun e x=>[(1,.slot 1,.cells [.val (.list (.pair (.i .i64) (.pair (.pair (.i .i64) (.i .i64)) (.i .i64)))) l,.val (.i .i64) tl] (some 105))]⟩)]
set_option maxRecDepth 100000 in
theorem Z6m (d:(List (Int×(Int×Int)×Int))×Int):gwp (Q9u) (Z6k d.1 d.2) c76 0 (gend [.tmp 2] (Q89 d) (Q86 d)) (gstart 16 (AL.can Q9e d))=Q3a d.1 d.2:=by kernel_rfl
abbrev Z6g:Prop:=OkC Tryz.prog 76 Q63
theorem Z6s (h:∀ (l:List (Int×(Int×Int)×Int)) (tl:Int),(l.length≤12∧(∀ y∈l,lotOk y=true))→Q3a l tl):OkC Tryz.prog 76 Q63 :=
 Q13 fun76 mixed (C:=Q9u) (V:=fun (d:(List (Int×(Int×Int)×Int))×Int)=>Q3a d.1 d.2) ⟨(.cons Q87 .nil),XsOk.nil,ItsOk.nil,YlOk.nil,IysOk.nil,XfOk.nil⟩ (Z6m) fun d hp=>h d.1 d.2 hp
theorem Z6q:Z6g:=Z6s fun l tl h=>by
 obtain⟨h1,h2⟩:=h;unfold Q3a;(try delta lI gD sT I64);refine⟨(),0,(by and_intros<;>first|rfl|trivial|simp),?_⟩;refine LoopP.count l.length (fun k=>∀ j,j<k→alikeL l tl (setL (2 ^ j))=true) (fun j hj=>by omega) ?_;rintro k hk hJ q hq;refine⟨fun c=>?_,fun c=>?_⟩
 ·have c:k<l.length:=by simp at c;omega
  have hsh:shlI .u64 1 (k:Int)=((2 ^ k:Nat):Int):=J2d (by omega) (by omega);have hp:=Z52 (n:=k) (by omega);have hp0:=Nat.two_pow_pos k;have hlt:2 ^ k<2 ^ l.length:=Nat.pow_lt_pow_right (by omega) c;have hpi:(2:Int) ^ l.length=((2 ^ l.length:Nat):Int):=by simp
  simp only[hsh,Int.toNat_natCast,hpi];refine⟨by omega,by simp only[Z26];omega,⟨h1,h2,by omega,by omega⟩,fun c2=>?_,fun c2=>?_⟩
  ·have c2:alikeL l tl (setL (2 ^ k))=false:=by simpa using c2
   have:evenL l tl=false:=by
    cases he:evenL l tl with
    |false=>rfl
    |true=>rw[List.all_eq_true.1 he k (List.mem_range.2 c)] at c2;cases c2
   rw[this];exact(by and_intros<;>first|rfl|trivial|simp)
  ·have c2:alikeL l tl (setL (2 ^ k))=true:=by simpa using c2
   refine⟨by simp only[Q0b];omega,(k:Int)+1,(by and_intros<;>first|rfl|trivial|simp),hq c fun j hj=>?_⟩;by_cases e:j=k
   ·subst e;exact c2
   ·exact hJ j (by omega)
 ·have:evenL l tl=true:=List.all_eq_true.2 fun j hj=>hJ j (by have:=List.mem_range.1 hj;simp at c;omega);rw[this];exact(by and_intros<;>first|rfl|trivial|simp)
def Q7h:AL ((List (Int×(Int×Int)×Int))×Int):=(.one (.agg (.cons (.k (.list (.pair (.i .i64) (.pair (.pair (.i .i64) (.i .i64)) (.i .i64))))) (.one (.k (.i .i64))))))
def Z37 (d:(List (Int×(Int×Int)×Int))×Int):Prop:=d.1.length≤12∧(∀ y∈d.1,lotOk y=true)∧evenL d.1 d.2=true
def Q6k (d:(List (Int×(Int×Int)×Int))×Int):SV:=.tup [.lst 0,.lst 1]
def Q6j (d:(List (Int×(Int×Int)×Int))×Int):List OB:=[.lst 3 (.i .i64) (parH d.1 d.2) ((parH d.1 d.2).isEmpty),.lst 31 (.list (.i .i64)) (parC d.1 d.2) ((parC d.1 d.2).isEmpty)]
def Z5d:CSp:=mkSp Q7h Z37 Q6k Q6j
def Q2a (l:List (Int×(Int×Int)×Int)) (tl:Int):Prop :=
 (0≤(lI l))∧(InK .u64 (shlI .u64 (1:Int) (lI l)))∧(InK .u64 ((shlI .u64 (1:Int) (lI l))-(1:Int)))∧(0≤((shlI .u64 (1:Int) (lI l))-(1:Int))∧((shlI .u64 (1:Int) (lI l))-(1:Int))≤1048576)∧((setL ((shlI .u64 (1:Int) (lI l))-(1:Int)).toNat).length≤12∧(∀ x∈(setL ((shlI .u64 (1:Int) (lI l))-(1:Int)).toNat),∀ y∈(setL ((shlI .u64 (1:Int) (lI l))-(1:Int)).toNat),(fun (x1:Int×Int)=>l.length≤12∧(∀ y∈l,lotOk y=true)∧0≤x1.1∧x1.1<l.length∧0≤x1.2∧x1.2<l.length) (x,y)))∧∃ (e4:Unit) (d40:(List Int)×(List (List Int))×(List Int)),((True∧True∧True∧True∧True)∧((l=l∧tl=tl∧(([]:List SV)=[]))∧(d40.1=[]∧(List.isEmpty d40.1)=true)∧(d40.2.1=[]∧(List.isEmpty d40.2.1)=true)∧((insC (fun (x1:Int×Int)=>(cmpP l (x1.1,x1.2))) (setL ((shlI .u64 (1:Int) (lI l))-(1:Int)).toNat) 0 (setL ((shlI .u64 (1:Int) (lI l))-(1:Int)).toNat).length)=d40.2.2∧(setL ((shlI .u64 (1:Int) (lI l))-(1:Int)).toNat).isEmpty=(List.isEmpty d40.2.2))∧True)) ∧
 LoopP (fun (d4:(List Int)×(List (List Int))×(List Int)) (q4:((List Int)×(List (List Int))×(List Int))→Prop) =>
  ((decide ((lI d4.2.2) > (0:Int)))=true →
   (0≤(0:Int))∧((0:Int)<(List.length d4.2.2))∧∃ (e9:(List Int)×(List (List Int))×Int×(List Int)×Int) (d90:(List Int)×(List Int)×Int),((True∧True∧True∧(gD d4.2.2 (0:Int) 0)=e9.2.2.1∧True∧True∧True∧(lI d4.2.2)=e9.2.2.2.2∧(0:Int)=d90.2.2∧True)∧((l=l∧tl=tl∧(([]:List SV)=[]))∧(d4.1=e9.1∧(List.isEmpty d4.1)=(List.isEmpty e9.1))∧(d4.2.1=e9.2.1∧(List.isEmpty d4.2.1)=(List.isEmpty e9.2.1))∧(d90.1=[]∧(List.isEmpty d90.1)=true)∧(d90.2.1=[]∧(List.isEmpty d90.2.1)=true)∧(d4.2.2=e9.2.2.2.1∧(List.isEmpty d4.2.2)=(List.isEmpty e9.2.2.2.1))∧True)) ∧
   LoopP (fun (d9:(List Int)×(List Int)×Int) (q9:((List Int)×(List Int)×Int)→Prop) =>
    ((decide (d9.2.2<e9.2.2.2.2))=true →
     (0≤d9.2.2)∧(d9.2.2<(List.length e9.2.2.2.1))∧(0≤e9.2.2.1)∧(InK .u64 (shlI .u64 (1:Int) e9.2.2.1))∧(0≤(gD e9.2.2.2.1 d9.2.2 0))∧(InK .u64 (shlI .u64 (1:Int) (gD e9.2.2.2.1 d9.2.2 0)))∧(l.length≤12∧(∀ y∈l,lotOk y=true)∧0<(vbits .or .u64 (shlI .u64 (1:Int) e9.2.2.1) (shlI .u64 (1:Int) (gD e9.2.2.2.1 d9.2.2 0)))∧(vbits .or .u64 (shlI .u64 (1:Int) e9.2.2.1) (shlI .u64 (1:Int) (gD e9.2.2.2.1 d9.2.2 0)))<2 ^ l.length)∧((alikeL l tl (setL (vbits .or .u64 (shlI .u64 (1:Int) e9.2.2.1) (shlI .u64 (1:Int) (gD e9.2.2.2.1 d9.2.2 0))).toNat))=true →
      (((List.length d9.1)+(List.length [(gD e9.2.2.2.1 d9.2.2 0)]))*8≤70368744177664)∧(I64 (d9.2.2+(1:Int)))∧(∃ d10:(List Int)×(List Int)×Int,((True∧True∧True∧e9.2.2.1=e9.2.2.1∧True∧True∧True∧e9.2.2.2.2=e9.2.2.2.2∧(d9.2.2+(1:Int))=d10.2.2∧True)∧((l=l∧tl=tl∧(([]:List SV)=[]))∧(e9.1=e9.1∧(List.isEmpty e9.1)=(List.isEmpty e9.1))∧(e9.2.1=e9.2.1∧(List.isEmpty e9.2.1)=(List.isEmpty e9.2.1))∧((d9.1++[(gD e9.2.2.2.1 d9.2.2 0)])=d10.1∧false=(List.isEmpty d10.1))∧(d9.2.1=d10.2.1∧(List.isEmpty d9.2.1)=(List.isEmpty d10.2.1))∧(e9.2.2.2.1=e9.2.2.2.1∧(List.isEmpty e9.2.2.2.1)=(List.isEmpty e9.2.2.2.1))∧True))∧q9 d10)) ∧
     ((alikeL l tl (setL (vbits .or .u64 (shlI .u64 (1:Int) e9.2.2.1) (shlI .u64 (1:Int) (gD e9.2.2.2.1 d9.2.2 0))).toNat))=false →
      (((List.length d9.2.1)+(List.length [(gD e9.2.2.2.1 d9.2.2 0)]))*8≤70368744177664)∧(I64 (d9.2.2+(1:Int)))∧(∃ d11:(List Int)×(List Int)×Int,((True∧True∧True∧e9.2.2.1=e9.2.2.1∧True∧True∧True∧e9.2.2.2.2=e9.2.2.2.2∧(d9.2.2+(1:Int))=d11.2.2∧True)∧((l=l∧tl=tl∧(([]:List SV)=[]))∧(e9.1=e9.1∧(List.isEmpty e9.1)=(List.isEmpty e9.1))∧(e9.2.1=e9.2.1∧(List.isEmpty e9.2.1)=(List.isEmpty e9.2.1))∧(d9.1=d11.1∧(List.isEmpty d9.1)=(List.isEmpty d11.1))∧((d9.2.1++[(gD e9.2.2.2.1 d9.2.2 0)])=d11.2.1∧false=(List.isEmpty d11.2.1))∧(e9.2.2.2.1=e9.2.2.2.1∧(List.isEmpty e9.2.2.2.1)=(List.isEmpty e9.2.2.2.1))∧True))∧q9 d11))) ∧
    ((decide (d9.2.2<e9.2.2.2.2))=false →
     (d9.1.length≤12)∧(((List.length e9.1)+(List.length [e9.2.2.1]))*8≤70368744177664)∧(((List.length e9.2.1)+(List.length [(insC cmpII d9.1 0 d9.1.length)]))*24≤70368744177664)∧(∃ d12:(List Int)×(List (List Int))×(List Int),((True∧True∧True∧True∧True)∧((l=l∧tl=tl∧(([]:List SV)=[]))∧((e9.1++[e9.2.2.1])=d12.1∧false=(List.isEmpty d12.1))∧((e9.2.1++[(insC cmpII d9.1 0 d9.1.length)])=d12.2.1∧false=(List.isEmpty d12.2.1))∧(d9.2.1=d12.2.2∧(List.isEmpty d9.2.1)=(List.isEmpty d12.2.2))∧True))∧q4 d12))) d90) ∧
  ((decide ((lI d4.2.2) > (0:Int)))=false →
   (d4.1.length≤12)∧(d4.2.1.length≤12∧(∀ x∈d4.2.1,∀ y∈d4.2.1,(fun (x2:List Int×List Int)=>x2.1.length≤1000∧x2.2.length≤1000) (x,y)))∧((True∧True∧(([]:List SV)=[]))∧(((insC cmpII d4.1 0 d4.1.length)=(parH l tl)∧(List.isEmpty d4.1)=(parH l tl).isEmpty)∧((insC (fun (x2:List Int×List Int)=>(cmpL x2.1 x2.2)) d4.2.1 0 d4.2.1.length)=(parC l tl)∧(List.isEmpty d4.2.1)=(parC l tl).isEmpty)∧True)))) d40
def Q7m:Cx:=⟨[(3,(.i .i64)),(31,(.list (.i .i64)))],[(56,Q5x),(95,Q1z),(79,Q3c),(82,Q1b)],64,[3,53,55,56,60,63],0,[(94,Q17),(96,Q3v),(97,Q2k)],[],[(31,3)],[],false,[],[],[],[]⟩
def Q7n (l:List (Int×(Int×Int)×Int)) (tl:Int):List (Nat×LoopAnn):=[(0,⟨Unit,(List Int)×(List (List Int))×(List Int),[1,2,3,4],fun e x=>[.box 1 0,.lst 52,.lst 56,.lst 15],fun e x=>[(1,.slot 1,.cells [.val (.list (.pair (.i .i64) (.pair (.pair (.i .i64) (.i .i64)) (.i .i64)))) l,.val (.i .i64) tl] (some 105)),(52,.slot 2,.lst 3 (.i .i64) x.1 (List.isEmpty x.1)),(56,.slot 3,.lst 31 (.list (.i .i64)) x.2.1 (List.isEmpty x.2.1)),(15,.slot 4,.lst 3 (.i .i64) x.2.2 (List.isEmpty x.2.2))]⟩),
 (2,⟨(List Int)×(List (List Int))×Int×(List Int)×Int,(List Int)×(List Int)×Int,[1,2,3,5,6,7,25,26,27],fun e x=>[.box 1 0,.lst 52,.lst 56,.val (.i .i64) e.2.2.1,.lst 41,.lst 45,.lst 15,.val (.i .i64) e.2.2.2.2,.val (.i .i64) x.2.2],fun e x=>[(1,.slot 1,.cells [.val (.list (.pair (.i .i64) (.pair (.pair (.i .i64) (.i .i64)) (.i .i64)))) l,.val (.i .i64) tl] (some 105)),(52,.slot 2,.lst 3 (.i .i64) e.1 (List.isEmpty e.1)),(56,.slot 3,.lst 31 (.list (.i .i64)) e.2.1 (List.isEmpty e.2.1)),(41,.slot 6,.lst 3 (.i .i64) x.1 (List.isEmpty x.1)),(45,.slot 7,.lst 3 (.i .i64) x.2.1 (List.isEmpty x.2.1)),(15,.slot 25,.lst 3 (.i .i64) e.2.2.2.1 (List.isEmpty e.2.2.2.1))]⟩)]
set_option maxRecDepth 100000 in
theorem Z4d (d:(List (Int×(Int×Int)×Int))×Int):gwp (Q7m) (Q7n d.1 d.2) c77 0 (gend [.tmp 2,.tmp 3] (Q6k d) (Q6j d)) (gstart 64 (AL.can Q7h d))=Q2a d.1 d.2:=by kernel_rfl
def Q4j:XSp:=callV apNone Z5d
abbrev Z3y:Prop:=XOk Tryz.prog 77 Q4j
theorem Z4s (h:∀ (l:List (Int×(Int×Int)×Int)) (tl:Int),(l.length≤12∧(∀ y∈l,lotOk y=true)∧evenL l tl=true)→Q2a l tl):XOk Tryz.prog 77 Q4j :=
 J7m fun77 mixed Z1j (C:=Q7m) ⟨(.cons Z2q (.cons Q60 (.cons Q87 (.cons Q4q .nil)))),(XsOk.cons Q65 (XsOk.cons Z2b (XsOk.cons Q94 XsOk.nil))),ItsOk.nil,YlOk.nil,IysOk.nil,XfOk.nil⟩ (L:=fun (d:(List (Int×(Int×Int)×Int))×Int)=>Q7n d.1 d.2) (V:=fun (d:(List (Int×(Int×Int)×Int))×Int)=>Q2a d.1 d.2) (Z4d) fun d hp=>h d.1 d.2 hp
end Go.Proofs.Tryz
set_option linter.unusedVariables false
namespace Go.Proofs.Tryz
open Go Go.V Go.Proofs
theorem Z35:Z3y:=Z4s fun l tl h=>by
 obtain⟨⟨h1,h2⟩,h3⟩:(l.length≤12∧∀ y∈l,lotOk y=true)∧evenL l tl=true:=⟨⟨h.1,h.2.1⟩,h.2.2⟩;unfold Q2a;(try delta lI gD sT I64);have hp2:=Z52 h1;have hp0:=Nat.two_pow_pos l.length;have hsh:shlI .u64 1 (l.length:Int)=((2 ^ l.length:Nat):Int):=J2d (by omega) (by omega);have hn1:(((2 ^ l.length:Nat):Int)-1).toNat=2 ^ l.length-1:=by omega
 have hpi:(2:Int) ^ l.length=((2 ^ l.length:Nat):Int):=by simp
 simp only[hsh,hn1,hpi];have hmem:∀ x∈setL (2 ^ l.length-1),0≤x∧x<l.length:=fun x hx=>J77 (m:=l.length) (by omega) (by omega) x hx;have hie:(setL (2 ^ l.length-1)).isEmpty=(ordL l).isEmpty:=(Z4n (Q3d (Nat.le_refl _))).symm;have hrf:=J8j h1 h3;have hiu:∀ i:Int,0≤i→i≤12→InK .u64 (shlI .u64 1 i):=fun i a b=>by
  rw[J2d a (by omega)];have:=Z52 (n:=i.toNat) (by omega);simp only[Z26];generalize 2 ^ i.toNat=z at *
  omega
 refine⟨by omega,by simp only[Z26];omega,by simp only[Z26];omega,⟨by omega,by omega⟩,⟨Nat.le_trans (J59 (m:=l.length) (by omega) (by omega)) h1,fun x hx y hy=>⟨h1,h2,(hmem x hx).1,(hmem x hx).2,(hmem y hy).1,(hmem y hy).2⟩⟩,(),([],[],ordL l),(by and_intros<;>first|rfl|trivial|exact hie|simp),?_⟩;refine⟨fun d=>(parR l tl).1=d.1++(parGo (alC l tl) d.2.2.length d.2.2).1∧(parR l tl).2=d.2.1++(parGo (alC l tl) d.2.2.length d.2.2).2∧(∀ i∈d.2.2,0≤i∧i<l.length)∧d.1.length+d.2.2.length≤12∧d.2.1.length=d.1.length∧∀ c∈d.2.1,c.length≤12,fun d=>d.2.2.length,⟨rfl,rfl,fun i hi=>(Z55 h1).1 hi,by have:=(J22 h1).length_eq;simp at this ⊢;omega,rfl,(fun c hc=>by cases hc)⟩,?_⟩;rintro⟨H,C,left⟩ ⟨i1,i2,i3,i4,i5,i6⟩;dsimp only at i1 i2 i3 i4 i5 i6 ⊢;refine⟨fun c=>?_,fun c=>?_⟩
 ·cases left with
  |nil=>simp at c
  |cons h t =>
  have hin:=i3 h (List.mem_cons_self ..);have hah:alC l tl h h=true:=hrf h ((Z55 h1).2 hin);refine⟨by omega,by simp,(H,C,h,h::t,((h::t).length:Int)),([],[],0),(by and_intros<;>first|rfl|trivial|simp),?_⟩;dsimp only;refine⟨fun d=>∃ k:Nat,d.2.2=k∧k≤(h::t).length∧d.1=((h::t).take k).filter (alC l tl h)∧d.2.1=((h::t).take k).filter (fun i=>!alC l tl h i),fun d=>(h::t).length-d.2.2.toNat,⟨0,rfl,by omega,rfl,rfl⟩,?_⟩;rintro⟨c1,r1,k'⟩ ⟨k,e1,e2,e3,e4⟩;dsimp only at e1 e3 e4 ⊢;subst e1;have hc1:c1.length≤12:=by rw[e3];have:=List.length_filter_le (alC l tl h) ((h::t).take k);rw[List.length_take] at this;omega
  have hr1:r1.length≤12:=by rw[e4];have:=List.length_filter_le (fun i=>!alC l tl h i) ((h::t).take k);rw[List.length_take] at this;omega
  refine⟨fun g=>?_,fun g=>?_⟩
  ·have g:k<(h::t).length:=by simp at g ⊢;omega
   have hx:(h::t).getD k 0=(h::t)[k]:=Q02 g;have hxin:=i3 _ (List.getElem_mem g);have htk:=Q41 g;simp only[Int.toNat_natCast,hx];generalize (h::t)[k]=x at hxin htk;have hb:=X7j (i:=h) (k:=x) (by omega) (by omega);have ho1:0<2 ^ h.toNat ||| 2 ^ x.toNat:=Nat.lt_of_lt_of_le (Nat.two_pow_pos _) Nat.left_le_or
   have ho2:2 ^ h.toNat ||| 2 ^ x.toNat<2 ^ l.length:=Nat.or_lt_two_pow (Nat.pow_lt_pow_right (by omega) (by omega)) (Nat.pow_lt_pow_right (by omega) (by omega))
   have hph:=Z52 (n:=h.toNat) (by omega);have hpx:=Z52 (n:=x.toNat) (by omega);rw[hb];simp only[Int.toNat_natCast];have hal:alikeL l tl (setL (2 ^ h.toNat ||| 2 ^ x.toNat))=alC l tl h x:=rfl;rw[hal];refine⟨by omega,by omega,by omega,hiu h (by omega) (by omega),by omega,hiu x (by omega) (by omega),⟨h1,h2,by omega,by omega⟩,fun g2=>?_,fun g2=>?_⟩
   ·refine⟨by simp;omega,by simp only[Q0b];omega,(c1++[x],r1,(k:Int)+1),(by and_intros<;>first|rfl|trivial|simp),⟨k+1,by simp,by omega,?_,?_⟩,by dsimp only;omega⟩
    ·dsimp only;rw[htk,List.filter_append,e3,List.filter_cons,if_pos g2];rfl
    ·dsimp only;rw[htk,List.filter_append,e4,List.filter_cons,if_neg (by simp[g2])];simp
   ·refine⟨by simp;omega,by simp only[Q0b];omega,(c1,r1++[x],(k:Int)+1),(by and_intros<;>first|rfl|trivial|simp),⟨k+1,by simp,by omega,?_,?_⟩,by dsimp only;omega⟩
    ·dsimp only;rw[htk,List.filter_append,e3,List.filter_cons,if_neg (by simp[g2])];simp
    ·dsimp only;rw[htk,List.filter_append,e4,List.filter_cons,if_pos (by simp[g2])];rfl
  ·have hk:k=(h::t).length:=by simp at g ⊢;simp at e2;omega
   rw[hk,List.take_length] at e3 e4;have hrl:r1.length≤t.length:=by rw[e4];exact J7s hah
   have hfu:=J5z (al:=alC l tl) t.length r1.length r1 (fun i hi=>by rw[e4] at hi;exact hrf i ((Z55 h1).2 (i3 i (List.mem_filter.1 hi).1))) hrl (Nat.le_refl _);have hP:parGo (alC l tl) (h::t).length (h::t)=(h::(parGo (alC l tl) r1.length r1).1,insC cmpII c1 0 c1.length::(parGo (alC l tl) r1.length r1).2):=by rw[←hfu,e3,e4];rfl
   simp only[List.length_cons] at i4;refine⟨hc1,by simp;omega,by simp;omega,(H++[h],C++[insC cmpII c1 0 c1.length],r1),(by and_intros<;>first|rfl|trivial|simp),⟨?_,?_,fun i hi=>?_,?_,?_,fun c hc=>?_⟩,?_⟩
   ·dsimp only;rw[i1,hP];simp
   ·dsimp only;rw[i2,hP];simp
   ·dsimp only at hi;rw[e4] at hi;exact i3 i (List.mem_filter.1 hi).1
   ·dsimp only;rw[List.length_append,List.length_singleton];omega
   ·dsimp only;rw[List.length_append,List.length_append,i5];rfl
   ·rcases List.mem_append.1 hc with hc|hc
    ·exact i6 c hc
    ·rw[List.mem_singleton.1 hc,(Q3d (Nat.le_refl _)).length_eq];exact hc1
   ·dsimp only;rw[List.length_cons];omega
 ·cases left with
  |cons h t=>simp at c
  |nil =>
  have j1:(parR l tl).1=H:=by rw[i1];simp[parGo]
  have j2:(parR l tl).2=C:=by rw[i2];simp[parGo]
  have k1:H.isEmpty=(parH l tl).isEmpty:=by unfold parH;rw[j1];exact(Z4n (Q3d (Nat.le_refl _))).symm
  have k2:C.isEmpty=(parC l tl).isEmpty:=by unfold parC;rw[j2];exact(Z4n (Q3d (Nat.le_refl _))).symm
  have k3:insC cmpII H 0 H.length=parH l tl:=by unfold parH;rw[j1]
  have k4:insC (fun p:List Int×List Int=>cmpL p.1 p.2) C 0 C.length=parC l tl:=by unfold parC;rw[j2]
  simp only[List.length_nil] at i4;refine⟨by omega,⟨by omega,fun x hx y hy=>⟨Nat.le_trans (i6 x hx) (by omega),Nat.le_trans (i6 y hy) (by omega)⟩⟩,?_⟩;and_intros<;>first|rfl|trivial|exact k1|exact k2|exact k3|exact k4
def Z87:AL ((List (Int×(Int×Int)×Int))×Int):=(.cons (.k (.list (.pair (.i .i64) (.pair (.pair (.i .i64) (.i .i64)) (.i .i64))))) (.one (.k (.i .i64))))
def J3q (d:(List (Int×(Int×Int)×Int))×Int):Prop:=d.1.length≤1000
def Z5p (d:(List (Int×(Int×Int)×Int))×Int):SV:=.tup [.lst 0,.lst 1,.val (.i .i64) (partErr d.1 d.2)]
def Z5u (d:(List (Int×(Int×Int)×Int))×Int):List OB:=[.lst 3 (.i .i64) (parHW d.1 d.2) ((parHW d.1 d.2).isEmpty),.lst 31 (.list (.i .i64)) (parCW d.1 d.2) ((parCW d.1 d.2).isEmpty)]
def X06:CSp:=mkSp Z87 J3q Z5p Z5u
def Q8j (l:List (Int×(Int×Int)×Int)) (tl:Int):Prop :=
 ∀ w1:List Value,(l.length≤1000)∧(((lotsErr l)==(0:Int))=true→True)∧(((lotsErr l)==(0:Int))=true→[tl].length≤1000000)∧((((lotsErr l)==(0:Int))&&(!(!([tl].any fun n=>decide (n<(0:Int))||decide ((1000:Int)<n)))))=true →
  w1=w1∧(((3:Int) != (0:Int))=true →
   ((True∧True∧(3:Int)=(partErr l tl)∧(([]:List SV)=[]))∧(((parHW l tl)=[]∧(parHW l tl).isEmpty=true)∧((parCW l tl)=[]∧(parCW l tl).isEmpty=true)∧True))) ∧
  (((3:Int) != (0:Int))=false →
   (l.length≤12∧(∀ y∈l,lotOk y=true))∧((!(evenL l tl))=true →
    ((True∧True∧(9:Int)=(partErr l tl)∧(([]:List SV)=[]))∧(((parHW l tl)=[]∧(parHW l tl).isEmpty=true)∧((parCW l tl)=[]∧(parCW l tl).isEmpty=true)∧True))) ∧
   ((!(evenL l tl))=false →
    (l.length≤12∧(∀ y∈l,lotOk y=true)∧evenL l tl=true)∧((True∧True∧(0:Int)=(partErr l tl)∧(([]:List SV)=[]))∧(((parH l tl)=(parHW l tl)∧(parH l tl).isEmpty=(parHW l tl).isEmpty)∧((parC l tl)=(parCW l tl)∧(parC l tl).isEmpty=(parCW l tl).isEmpty)∧True))))) ∧
 ((((lotsErr l)==(0:Int))&&(!(!([tl].any fun n=>decide (n<(0:Int))||decide ((1000:Int)<n)))))=false →
  w1=w1∧(((lotsErr l) != (0:Int))=true →
   ((True∧True∧(lotsErr l)=(partErr l tl)∧(([]:List SV)=[]))∧(((parHW l tl)=[]∧(parHW l tl).isEmpty=true)∧((parCW l tl)=[]∧(parCW l tl).isEmpty=true)∧True))) ∧
  (((lotsErr l) != (0:Int))=false →
   (l.length≤12∧(∀ y∈l,lotOk y=true))∧((!(evenL l tl))=true →
    ((True∧True∧(9:Int)=(partErr l tl)∧(([]:List SV)=[]))∧(((parHW l tl)=[]∧(parHW l tl).isEmpty=true)∧((parCW l tl)=[]∧(parCW l tl).isEmpty=true)∧True))) ∧
   ((!(evenL l tl))=false →
    (l.length≤12∧(∀ y∈l,lotOk y=true)∧evenL l tl=true)∧((True∧True∧(0:Int)=(partErr l tl)∧(([]:List SV)=[]))∧(((parH l tl)=(parHW l tl)∧(parH l tl).isEmpty=(parHW l tl).isEmpty)∧((parC l tl)=(parCW l tl)∧(parC l tl).isEmpty=(parCW l tl).isEmpty)∧True)))))
def Z7a:Cx:=⟨[(3,(.i .i64))],[(69,Q8v),(61,Q4s),(76,Q63)],29,[1],0,[(51,Z9i),(77,Q4j)],[],[],[],false,[],[],[],[]⟩
def Z7b (l:List (Int×(Int×Int)×Int)) (tl:Int):List (Nat×LoopAnn):=[]
set_option maxRecDepth 100000 in
theorem J6e (d:(List (Int×(Int×Int)×Int))×Int):gwp (Z7a) (Z7b d.1 d.2) c49 0 (gend [.tmp 4,.tmp 5,.tmp 6] (Z5p d) (Z5u d)) (gstart 29 (AL.can Z87 d))=Q8j d.1 d.2:=by kernel_rfl
def Z0b:XSp:=callV apNone X06
abbrev J7g:Prop:=XOk Tryz.prog 49 Z0b
theorem J6b (h:∀ (l:List (Int×(Int×Int)×Int)) (tl:Int),(l.length≤1000)→Q8j l tl):XOk Tryz.prog 49 Z0b :=
 J7m fun49 mixed Z1j (C:=Z7a) ⟨(.cons Z5y (.cons Q9f (.cons Z6q .nil))),(XsOk.cons J41 (XsOk.cons Z35 XsOk.nil)),ItsOk.nil,YlOk.nil,IysOk.nil,XfOk.nil⟩ (L:=fun (d:(List (Int×(Int×Int)×Int))×Int)=>Z7b d.1 d.2) (V:=fun (d:(List (Int×(Int×Int)×Int))×Int)=>Q8j d.1 d.2) (J6e) fun d hp=>h d.1 d.2 hp
theorem Z68:J7g:=J6b fun l tl h=>by
 unfold Q8j;(try delta lI gD sT I64);have e:∀ n a b:Int,(decide (n<a)||decide (b<n))=!inI n a b:=fun n a b=>(nI n a b).symm;simp only[List.any_cons,List.any_nil,Bool.or_false,e,Bool.not_not,List.length_cons,List.length_nil,dead3,Bool.true_eq_false,true_and,and_true,beq_iff_eq,bne_iff_ne,ne_eq,bne_eq_false_iff_eq,Bool.not_eq_true',Bool.not_eq_false',false_implies,Bool.or_false,implies_true,forall_const];refine⟨h,by omega,fun hx=>?_,fun hx=>⟨fun a=>?_,fun a=>⟨Z12 a,fun b=>?_,fun b=>⟨⟨(Z12 a).1,(Z12 a).2,b⟩,?_⟩⟩⟩⟩
 ·simp only[Bool.and_eq_true,beq_iff_eq,Bool.not_eq_true'] at hx;have o:openErr l tl=3:=by unfold openErr;rw[if_neg (by omega),hx.2];rfl
  have e1:partErr l tl=3:=by unfold partErr;rw[o];rfl
  obtain⟨e2,e3⟩:=Z6z e1 (by omega);rw[e1,e2,e3];exact(by and_intros<;>first|rfl|trivial|simp)
 ·have o:openErr l tl=lotsErr l:=by unfold openErr;rw[if_pos a]
  have e1:partErr l tl=lotsErr l:=by unfold partErr;rw[o,if_pos a]
  obtain⟨e2,e3⟩:=Z6z e1 a;rw[e1,e2,e3];exact(by and_intros<;>first|rfl|trivial|simp)
 ·have o:openErr l tl=0:=by
   unfold openErr;rw[if_neg (by omega),if_neg];intro h2;rw[a,h2] at hx;cases hx
  have e1:partErr l tl=9:=by unfold partErr;rw[if_neg (by omega),b];rfl
  obtain⟨e2,e3⟩:=Z6z e1 (by omega);rw[e1,e2,e3];exact(by and_intros<;>first|rfl|trivial|simp)
 ·have o:openErr l tl=0:=by
   unfold openErr;rw[if_neg (by omega),if_neg];intro h2;rw[a,h2] at hx;cases hx
  have e1:partErr l tl=0:=by unfold partErr;rw[if_neg (by omega),if_pos b]
  have e2:parHW l tl=parH l tl:=by unfold parHW;rw[if_pos e1]
  have e3:parCW l tl=parC l tl:=by unfold parCW;rw[if_pos e1]
  rw[e1,e2,e3];exact(by and_intros<;>first|rfl|trivial|simp)
def Z41:AL ((List (Int×(Int×Int)×Int))×Int):=(.cons (.k (.list (.pair (.i .i64) (.pair (.pair (.i .i64) (.i .i64)) (.i .i64))))) (.one (.k (.i .i64))))
def J02 (d:(List (Int×(Int×Int)×Int))×Int):Prop:=d.1.length≤1000
def Z2l (d:(List (Int×(Int×Int)×Int))×Int):SV:=.tup [.lst 0,.val (.i .i64) (partErr d.1 d.2)]
def Z2r (d:(List (Int×(Int×Int)×Int))×Int):List OB:=[.lst 31 (.list (.i .i64)) (parCW d.1 d.2) ((parCW d.1 d.2).isEmpty)]
def J4r:CSp:=mkSp Z41 J02 Z2l Z2r
def Q5n (l:List (Int×(Int×Int)×Int)) (tl:Int):Prop :=
 (l.length≤1000)∧((True∧(partErr l tl)=(partErr l tl)∧(([]:List SV)=[]))∧(((parCW l tl)=(parCW l tl)∧(parCW l tl).isEmpty=(parCW l tl).isEmpty)∧True))
def Z3u:Cx:=⟨[],[],15,[],0,[(49,Z0b)],[],[],[],false,[],[],[],[]⟩
def Z4o (l:List (Int×(Int×Int)×Int)) (tl:Int):List (Nat×LoopAnn):=[]
set_option maxRecDepth 100000 in
theorem J3a (d:(List (Int×(Int×Int)×Int))×Int):gwp (Z3u) (Z4o d.1 d.2) c15 0 (gend [.tmp 4,.tmp 5] (Z2l d) (Z2r d)) (gstart 15 (AL.can Z41 d))=Q5n d.1 d.2:=by kernel_rfl
def Z0t:XSp:=callV apNone J4r
abbrev J2h:Prop:=XOk Tryz.prog 15 Z0t
theorem J2s (h:∀ (l:List (Int×(Int×Int)×Int)) (tl:Int),(l.length≤1000)→Q5n l tl):XOk Tryz.prog 15 Z0t :=
 J7m fun15 mixed Z1j (C:=Z3u) ⟨.nil,(XsOk.cons Z68 XsOk.nil),ItsOk.nil,YlOk.nil,IysOk.nil,XfOk.nil⟩ (L:=fun (d:(List (Int×(Int×Int)×Int))×Int)=>Z4o d.1 d.2) (V:=fun (d:(List (Int×(Int×Int)×Int))×Int)=>Q5n d.1 d.2) (J3a) fun d hp=>h d.1 d.2 hp
theorem J07:J2h:=J2s fun l tl h=>by unfold Q5n;(try delta lI gD sT I64);refine⟨h,?_⟩;exact(by and_intros<;>first|rfl|trivial|simp)
def Z5r:AL ((List (Int×(Int×Int)×Int))×Int):=(.cons (.k (.list (.pair (.i .i64) (.pair (.pair (.i .i64) (.i .i64)) (.i .i64))))) (.one (.k (.i .i64))))
def J2g (d:(List (Int×(Int×Int)×Int))×Int):Prop:=d.1.length≤1000
def Z4h (d:(List (Int×(Int×Int)×Int))×Int):SV:=.tup [.lst 0,.val (.i .i64) (partErr d.1 d.2)]
def Z3k (d:(List (Int×(Int×Int)×Int))×Int):List OB:=[.lst 3 (.i .i64) (parHW d.1 d.2) ((parHW d.1 d.2).isEmpty)]
def Z2e:CSp:=mkSp Z5r J2g Z4h Z3k
def Q76 (l:List (Int×(Int×Int)×Int)) (tl:Int):Prop :=
 (l.length≤1000)∧((True∧(partErr l tl)=(partErr l tl)∧(([]:List SV)=[]))∧(((parHW l tl)=(parHW l tl)∧(parHW l tl).isEmpty=(parHW l tl).isEmpty)∧True))
def Z5j:Cx:=⟨[],[],18,[],0,[(49,Z0b)],[],[],[],false,[],[],[],[]⟩
def J4b (l:List (Int×(Int×Int)×Int)) (tl:Int):List (Nat×LoopAnn):=[]
set_option maxRecDepth 100000 in
theorem J40 (d:(List (Int×(Int×Int)×Int))×Int):gwp (Z5j) (J4b d.1 d.2) c16 0 (gend [.tmp 4,.tmp 5] (Z4h d) (Z3k d)) (gstart 18 (AL.can Z5r d))=Q76 d.1 d.2:=by kernel_rfl
abbrev J4u:Prop:=OkC Tryz.prog 16 Z2e
theorem J4e (h:∀ (l:List (Int×(Int×Int)×Int)) (tl:Int),(l.length≤1000)→Q76 l tl):OkC Tryz.prog 16 Z2e :=
 Q13 fun16 mixed (C:=Z5j) (V:=fun (d:(List (Int×(Int×Int)×Int))×Int)=>Q76 d.1 d.2) ⟨.nil,(XsOk.cons Z68 XsOk.nil),ItsOk.nil,YlOk.nil,IysOk.nil,XfOk.nil⟩ (J40) fun d hp=>h d.1 d.2 hp
theorem J49:J4u:=J4e fun l tl h=>by unfold Q76;(try delta lI gD sT I64);refine⟨h,?_⟩;exact(by and_intros<;>first|rfl|trivial|simp)
end Go.Proofs.Tryz