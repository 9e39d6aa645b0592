/- A framework for walks, contracts of functions, and their proofs: part 6. -/
import Derived.Test.YtfgcglmakclnkaaGreatDoorR5
namespace Go.Proofs.Tryz
open Go Go.V
def memos : List Memo:=[memo0_2,memo1_2,memo2_2,memo3_2,memo4_2,memo5_2,memo6_2,memo7_2,memo8_2,memo9_2,memo10_2,memo11_2,memo12_2,memo13_2,memo14_2,memo15_2,memo0_3,memo1_3,memo2_3,memo3_3,memo4_3,memo5_3,memo6_3,memo7_3,memo8_3,memo9_3,memo10_3,memo11_3,memo12_3,memo13_3,memo14_3,memo15_3]
theorem memos_ok : ∀ m ∈ memos,MemoOk Tryz.prog 65 m:=by
 intro m hm
 simp only [memos,List.mem_cons,List.not_mem_nil,or_false] at hm
 rcases hm with rfl | rfl | rfl | rfl | rfl | rfl | rfl | rfl | rfl | rfl | rfl | rfl | rfl | rfl | rfl | rfl | rfl | rfl | rfl | rfl | rfl | rfl | rfl | rfl | rfl | rfl | rfl | rfl | rfl | rfl | rfl | rfl
 ·exact memo0_2_ok
 ·exact memo1_2_ok
 ·exact memo2_2_ok
 ·exact memo3_2_ok
 ·exact memo4_2_ok
 ·exact memo5_2_ok
 ·exact memo6_2_ok
 ·exact memo7_2_ok
 ·exact memo8_2_ok
 ·exact memo9_2_ok
 ·exact memo10_2_ok
 ·exact memo11_2_ok
 ·exact memo12_2_ok
 ·exact memo13_2_ok
 ·exact memo14_2_ok
 ·exact memo15_2_ok
 ·exact memo0_3_ok
 ·exact memo1_3_ok
 ·exact memo2_3_ok
 ·exact memo3_3_ok
 ·exact memo4_3_ok
 ·exact memo5_3_ok
 ·exact memo6_3_ok
 ·exact memo7_3_ok
 ·exact memo8_3_ok
 ·exact memo9_3_ok
 ·exact memo10_3_ok
 ·exact memo11_3_ok
 ·exact memo12_3_ok
 ·exact memo13_3_ok
 ·exact memo14_3_ok
 ·exact memo15_3_ok
noncomputable def tabL : List (Option FEnt):=[
 none,
 none,
 some (.code c2 [] 1),
 some (.code c3 [.tmp 4] 65),
 some (.code c4 [.tmp 6] 106),
 some (.code c5 [.tmp 4] 131),
 some (.code c6 [.tmp 2] 125),
 some (.code c7 [.tmp 4] 113),
 some (.code c8 [.tmp 4] 326),
 some (.code c9 [.tmp 4] 274),
 some (.code c10 [.tmp 4] 143),
 some (.code c11 [.tmp 4] 189),
 some (.code c12 [.tmp 4] 298),
 some (.code c13 [.tmp 4] 185),
 some (.code c14 [.tmp 0] 239),
 some (.code c15 [.cell 4 true 2,.tmp 5,.tmp 6] 78),
 some (.code c16 [.cell 4 true 2,.tmp 5,.tmp 6] 84),
 some (.code c17 [.tmp 4] 38),
 some (.code c18 [.tmp 6] 35),
 some (.code c19 [.cell 2 true 2] 10),
 some (.code c20 [.cell 2 true 2] 10),
 some (.code c21 [.tmp 4,.tmp 5] 43),
 some (.code c22 [.cell 6 false 1,.tmp 7] 49),
 some (.code c23 [.tmp 4] 28),
 some (.code c24 [.tmp 4] 22),
 some (.code c25 [.tmp 4] 46),
 some (.code c26 [.tmp 4] 26),
 some (.code c27 [.tmp 6] 15),
 some (.code c28 [.tmp 4] 26),
 some (.code c29 [.tmp 4] 50),
 some (.code c30 [.tmp 2] 6),
 some (.code c31 [.cell 4 true 2,.tmp 5] 33),
 some (.code c32 [.tmp 4,.tmp 5,.tmp 6,.tmp 7] 30),
 some (.code c33 [.tmp 2] 33),
 some (.code c34 [.tmp 4] 52),
 some (.code c35 [.tmp 2] 12),
 some (.code c36 [.cell 4 true 3,.tmp 5] 47),
 some (.code c37 [.cell 4 true 2] 48),
 some (.code c38 [.cell 2 true 2,.cell 3 true 2,.tmp 4] 20),
 some (.codeJ c39 [.tmp 2,.tmp 3] 30),
 some (.code c40 [.tmp 2] 35),
 some (.code c41 [.tmp 2] 12),
 some (.code c42 [.cell 2 true 2] 41),
 some (.code c43 [.tmp 4,.tmp 5,.tmp 6] 40),
 some (.code c44 [.tmp 4] 31),
 some (.code c45 [.tmp 6] 22),
 some (.code c46 [.tmp 2] 22),
 some (.code c47 [.cell 4 true 2] 8),
 some (.code c48 [.cell 2 true 2] 48),
 some (.code c49 [.cell 2 true 2] 51),
 some (.code c50 [.tmp 6] 25),
 some (.code c51 [.tmp 2] 22),
 some (.code c52 [.tmp 4] 38),
 some (.code c53 [.tmp 4] 26),
 some (.code c54 [.cell 8 true 4] 14),
 some (.code c55 [.cell 4 true 2,.tmp 5] 67),
 some (.code c56 [.cell 2 true 2,.tmp 3] 28),
 some (.code c57 [.tmp 4] 45),
 some (.code c58 [.tmp 2] 27),
 some (.code c59 [.cell 4 true 2,.tmp 5] 48),
 some (.code c60 [.tmp 2,.tmp 3] 39),
 some (.code c61 [.tmp 2,.tmp 3] 37),
 some (.code c62 [.tmp 2,.tmp 3] 40),
 some (.code c63 [.tmp 2] 35),
 some (.code c64 [.tmp 2] 55),
 some (.codeM c65 [.cell 6 true 2,.tmp 7,.tmp 8] 84 memos),
 some (.code c66 [.cell 6 false 1,.tmp 7] 42),
 some (.code c67 [.tmp 6] 11),
 some (.code c68 [.tmp 4] 48),
 some (.code c69 [.tmp 2] 32),
 some (.code c70 [.tmp 2] 50),
 some (.code c71 [.tmp 2] 28),
 some (.code c72 [.tmp 4] 22),
 some (.code c73 [] 64),
 some (.code c74 [.tmp 4] 19),
 some (.code c75 [.tmp 2] 35),
 some (.code c76 [.tmp 2] 25),
 some (.code c77 [.tmp 2] 20),
 some (.code c78 [.tmp 4] 56),
 some (.code c79 [.tmp 4] 16),
 some (.code c80 [.tmp 4,.tmp 5,.tmp 6,.tmp 7] 47),
 some (.code c81 [.cell 4 true 2] 47),
 some (.code c82 [.tmp 4] 21),
 some (.code c83 [.cell 2 true 2] 27),
 some (.code c84 [.cell 2 true 2,.tmp 3] 61),
 some (.code c85 [.tmp 2] 17),
 some (.code c86 [] 11),
 some (.code c87 [.tmp 6] 27),
 some (.code c88 [.cell 4 true 2] 59),
 some (.code c89 [.tmp 2,.cell 3 true 2] 47),
 some (.code c90 [.tmp 4] 22),
 some (.code c91 [.tmp 2] 18),
 some (.code c92 [.cell 6 true 2] 38),
 some (.code c93 [.tmp 6] 17),
 some (.code c94 [.tmp 6] 26),
 some (.code c95 [.tmp 2] 36),
 some (.code c96 [.tmp 4] 26),
 some (.code c97 [.tmp 5] 23),
 some (.code c98 [.tmp 6] 11),
 some (.code c99 [.tmp 2,.tmp 3] 102),
 some (.code c100 [.tmp 4] 21),
 some (.code c101 [.tmp 4] 9),
 some (.code c102 [.tmp 4] 13),
 some (.code c103 [.tmp 4,.tmp 5] 30),
 some (.code c104 [.tmp 2] 5),
 some (.code c105 [.tmp 4] 6),
 some (.code c106 [.tmp 4] 17),
 some (.code c107 [.tmp 2] 4),
 some (.code c108 [.tmp 6] 17),
 some (.code c109 [.tmp 2] 14),
 some (.code c110 [.tmp 3] 18),
 some (.code c111 [.tmp 6] 15),
 some (.code c112 [.tmp 4] 23),
 some (.code c113 [.tmp 2] 21),
 some (.code c114 [.tmp 4] 20),
 some (.code c115 [.tmp 2] 4),
 some (.code c116 [] 134),
 some (.code c117 [.tmp 2] 8),
 some (.code c118 [.tmp 6] 36),
 some (.code c119 [.tmp 4] 27),
 some (.code c120 [.tmp 4] 13),
 some (.code c121 [.cell 4 true 4] 20),
 some (.code c122 [.tmp 6] 29),
 some (.code c123 [.tmp 4] 81),
 some (.code c124 [.tmp 2] 4),
 some (.code c125 [.cell 6 true 4,.tmp 7] 40),
 some (.code c126 [.tmp 4] 27),
 some (.code c127 [.tmp 4] 25),
 some (.code c128 [] 37),
 some (.code c129 [] 50),
 some (.code c130 [.tmp 4] 19),
 some (.code c131 [.tmp 4,.tmp 5] 17),
 some (.code c132 [.tmp 4,.tmp 5] 51),
 some (.code c133 [.tmp 4] 13),
 some (.code c134 [] 22),
 some (.code c135 [] 20),
 some (.code c136 [.tmp 3] 13),
 some (.code c137 [.tmp 4] 43),
 some (.code c138 [.tmp 4] 9),
 some (.code c139 [] 19),
 some (.code c140 [] 49),
 some (.code c141 [] 56),
 some (.code c142 [] 65),
 some (.code c143 [.tmp 6,.tmp 7] 57),
 some (.code c144 [] 32),
 some (.code c145 [.tmp 6] 133),
 some (.code c146 [.tmp 4] 17),
 some (.code c147 [.tmp 8] 84),
 some (.code c148 [.tmp 8,.tmp 9] 168),
 some (.code c149 [.tmp 2] 19),
 some (.code c150 [.tmp 2] 25),
 some (.code c151 [.tmp 3] 20),
 some .same,
 some (.code c153 [.tmp 4] 17),
 some (.code c154 [.tmp 4] 23),
 some (.code c155 [.cell 2 true 256,.tmp 3] 21),
 some (.code c156 [.tmp 4] 16),
 some (.code c157 [.tmp 4] 22),
 some (.code c158 [.tmp 4] 23),
 some (.code c159 [.tmp 4] 34),
 some (.code c160 [.tmp 4] 19),
 some (.code c161 [] 76),
 some (.code c162 [.tmp 2] 7),
 some (.code c163 [.tmp 2] 33),
 some (.code c164 [.tmp 6] 15),
 some (.code c165 [.tmp 10] 36),
 some (.code c166 [.tmp 2] 6),
 some (.code c167 [.tmp 4] 10),
 some (.code c168 [.tmp 2,.tmp 3] 19),
 some (.code c169 [.tmp 4] 9),
 some (.code c170 [.tmp 2,.tmp 3] 51),
 some (.code c171 [.tmp 8,.tmp 9] 28),
 some (.code c172 [.tmp 2,.tmp 3] 117),
 some (.code c173 [.tmp 4] 187),
 some (.code c174 [.tmp 2] 6),
 some (.code c175 [.tmp 4] 8),
 some (.code c176 [.tmp 2] 17),
 some (.code c177 [.tmp 2] 6),
 none,
 some (.code c179 [.tmp 4] 8)]
noncomputable def tab : Tab:=fun f=>(tabL[f]?).join
theorem tabL_ok : EntsOk Tryz.prog 0 tabL:=⟨trivial,trivial,fun2,fun3,fun4,fun5,fun6,fun7,fun8,fun9,fun10,fun11,fun12,fun13,fun14,fun15,fun16,fun17,fun18,fun19,fun20,fun21,fun22,fun23,fun24,fun25,fun26,fun27,fun28,fun29,fun30,fun31,fun32,fun33,fun34,fun35,fun36,fun37,fun38,fun39,fun40,fun41,fun42,fun43,fun44,fun45,fun46,fun47,fun48,fun49,fun50,fun51,fun52,fun53,fun54,fun55,fun56,fun57,fun58,fun59,fun60,fun61,fun62,fun63,fun64,⟨fun65,memos_ok⟩,fun66,fun67,fun68,fun69,fun70,fun71,fun72,fun73,fun74,fun75,fun76,fun77,fun78,fun79,fun80,fun81,fun82,fun83,fun84,fun85,fun86,fun87,fun88,fun89,fun90,fun91,fun92,fun93,fun94,fun95,fun96,fun97,fun98,fun99,fun100,fun101,fun102,fun103,fun104,fun105,fun106,fun107,fun108,fun109,fun110,fun111,fun112,fun113,fun114,fun115,fun116,fun117,fun118,fun119,fun120,fun121,fun122,fun123,fun124,fun125,fun126,fun127,fun128,fun129,fun130,fun131,fun132,fun133,fun134,fun135,fun136,fun137,fun138,fun139,fun140,fun141,fun142,fun143,fun144,fun145,fun146,fun147,fun148,fun149,fun150,fun151,same152,fun153,fun154,fun155,fun156,fun157,fun158,fun159,fun160,fun161,fun162,fun163,fun164,fun165,fun166,fun167,fun168,fun169,fun170,fun171,fun172,fun173,fun174,fun175,fun176,fun177,trivial,fun179,trivial⟩
theorem tab_ok : TabOk Tryz.prog tab:=tabOk_of tabL_ok
theorem known_run : veval tab 300 boolOps [] c14 none (ET.of [] 239) CH.empty (eend false [.tmp 0] fun v _=>isTrue v) = true:=by kernel_rfl
theorem known_ok {σ : Heap} {K : Value → Heap → Prop} (hK : K (.bool true) σ) : VCalled Tryz.prog 14 [] σ K:=run_true mixed tab_ok 300 fun14 (by decide) known_run hK
end Go.Proofs.Tryz
set_option linter.unusedVariables false
namespace Go.Proofs.Tryz
open Go Go.V Go.Proofs
def al_law03_known : AL (Unit):=.nil
def pre_law03_known (d : Unit) : Prop:=True
def res_law03_known (d : Unit) : SV:=.val .bo true
def obs_law03_known (d : Unit) : List OB:=[]
def s_law03_known : CSp:=mkSp al_law03_known pre_law03_known res_law03_known obs_law03_known
abbrev Ok_law03_known : Prop:=OkC Tryz.prog 14 s_law03_known
theorem ok_law03_known : Ok_law03_known:=okC_true fun _ _ h=>known_ok h
end Go.Proofs.Tryz
set_option linter.unusedVariables false
namespace Go.Proofs.Tryz
open Go Go.V Go.Proofs
def al_law03_own : AL (Int × List Int):=(.one (.agg (.cons (.k (.i .i64)) (.one (.k (.list (.i .i64)))))))
def pre_law03_own (d : Int × List Int) : Prop:=d.2.length ≤ 1000
def res_law03_own (d : Int × List Int) : SV:=.agg [.val (.i .i64) d.1,.lst 0]
def obs_law03_own (d : Int × List Int) : List OB:=[.lst 3 (.i .i64) d.2 false]
def s_law03_own : CSp:=mkSp al_law03_own pre_law03_own res_law03_own obs_law03_own
def vc_law03_own (hk : Int) (lw : List Int) : Prop :=
 (((List.length ([] : List Int)) + (List.length lw)) * 8 ≤ 70368744177664) ∧ ((hk = hk ∧ True ∧ (([] : List SV) = [])) ∧ (((([] : List Int) ++ lw) = lw ∧ ((List.isEmpty lw) && false) = false) ∧ True))
def cx_law03_own : Cx:=⟨[(3,(.i .i64))],[],10,[],0,[],[],[],[],false,[],[],[]⟩
def lp_law03_own (hk : Int) (lw : List Int) : List (Nat × LoopAnn):=[]
set_option maxRecDepth 100000 in
theorem vq_law03_own (d : Int × List Int) : gwp (cx_law03_own) (lp_law03_own d.1 d.2) c19 0 (gend [.cell 2 true 2] (res_law03_own d) (obs_law03_own d)) (gstart 10 (AL.can al_law03_own d)) = vc_law03_own d.1 d.2:=by kernel_rfl
abbrev Ok_law03_own : Prop:=OkC Tryz.prog 19 s_law03_own
theorem mk_law03_own (h : ∀ (hk : Int) (lw : List Int),(lw.length ≤ 1000) → vc_law03_own hk lw) : OkC Tryz.prog 19 s_law03_own :=
 okC_vc fun19 mixed (C:=cx_law03_own) (V:=fun (d : Int × List Int)=>vc_law03_own d.1 d.2) ⟨.nil,XsOk.nil,ItsOk.nil,YlOk.nil,IysOk.nil⟩ (vq_law03_own) fun d hp=>h d.1 d.2 hp
theorem ok_law03_own : Ok_law03_own:=mk_law03_own fun hk lw h=>by
 have h1 : lw.length * 8 ≤ 70368744177664:=by omega
 simp [vc_law03_own,h1]
def al_law03_ours : AL (Int × List Int):=(.one (.agg (.cons (.k (.i .i64)) (.one (.k (.list (.i .i64)))))))
def pre_law03_ours (d : Int × List Int) : Prop:=d.2.length ≤ 1000
def res_law03_ours (d : Int × List Int) : SV:=.agg [.val (.i .i64) d.1,.lst 0]
def obs_law03_ours (d : Int × List Int) : List OB:=[.lst 3 (.i .i64) d.2 false]
def s_law03_ours : CSp:=mkSp al_law03_ours pre_law03_ours res_law03_ours obs_law03_ours
def vc_law03_ours (hd : Int) (rows : List Int) : Prop :=
 (((List.length ([] : List Int)) + (List.length rows)) * 8 ≤ 70368744177664) ∧ ((hd = hd ∧ True ∧ (([] : List SV) = [])) ∧ (((([] : List Int) ++ rows) = rows ∧ ((List.isEmpty rows) && false) = false) ∧ True))
def cx_law03_ours : Cx:=⟨[(3,(.i .i64))],[],10,[],0,[],[],[],[],false,[],[],[]⟩
def lp_law03_ours (hd : Int) (rows : List Int) : List (Nat × LoopAnn):=[]
set_option maxRecDepth 100000 in
theorem vq_law03_ours (d : Int × List Int) : gwp (cx_law03_ours) (lp_law03_ours d.1 d.2) c20 0 (gend [.cell 2 true 2] (res_law03_ours d) (obs_law03_ours d)) (gstart 10 (AL.can al_law03_ours d)) = vc_law03_ours d.1 d.2:=by kernel_rfl
abbrev Ok_law03_ours : Prop:=OkC Tryz.prog 20 s_law03_ours
theorem mk_law03_ours (h : ∀ (hd : Int) (rows : List Int),(rows.length ≤ 1000) → vc_law03_ours hd rows) : OkC Tryz.prog 20 s_law03_ours :=
 okC_vc fun20 mixed (C:=cx_law03_ours) (V:=fun (d : Int × List Int)=>vc_law03_ours d.1 d.2) ⟨.nil,XsOk.nil,ItsOk.nil,YlOk.nil,IysOk.nil⟩ (vq_law03_ours) fun d hp=>h d.1 d.2 hp
theorem ok_law03_ours : Ok_law03_ours:=mk_law03_ours fun hd rows h=>by
 have h1 : rows.length * 8 ≤ 70368744177664:=by omega
 simp [vc_law03_ours,h1]
end Go.Proofs.Tryz
set_option linter.unusedVariables false
namespace Go.Proofs.Tryz
open Go Go.V Go.Proofs
def al_law03_large : AL ((Int × List Int) × (Int × List Int) × List (List UInt8)):=(.cons (.agg (.cons (.k (.i .i64)) (.one (.k (.list (.i .i64)))))) (.cons (.agg (.cons (.k (.i .i64)) (.one (.k (.list (.i .i64)))))) (.one (.k (.list .st)))))
def pre_law03_large (d : (Int × List Int) × (Int × List Int) × List (List UInt8)) : Prop:=d.2.2.length ≤ 9223372036854775807
def res_law03_large (d : (Int × List Int) × (Int × List Int) × List (List UInt8)) : SV:=.val .bo (largeB d.1.2 d.2.1.2 d.2.2)
def obs_law03_large (d : (Int × List Int) × (Int × List Int) × List (List UInt8)) : List OB:=[]
def s_law03_large : CSp:=mkSp al_law03_large pre_law03_large res_law03_large obs_law03_large
def vc_law03_large (hk : Int) (lw : List Int) (hd : Int) (rows : List Int) (c : List (List UInt8)) : Prop :=
 ∃ (e3 : Unit) (d30 : Int),((c = c ∧ True ∧ True ∧ (0 : Int) = d30 ∧ True) ∧ ((hk = hk ∧ lw = lw ∧ (([] : List SV) = [])) ∧ (hd = hd ∧ rows = rows ∧ (([] : List SV) = [])) ∧ True)) ∧
 LoopP (fun (d3 : Int) (q3 : (Int) → Prop) =>
  ((decide (d3 < (lI c))) = true →
   (0 ≤ d3) ∧ (d3 < (List.length c)) ∧ ((decide ((lI (gD c d3 [])) > (110 : Int))) = true →
    (true = (largeB lw rows c) ∧ (True))) ∧
   ((decide ((lI (gD c d3 [])) > (110 : Int))) = false →
    (I64 (d3 + (1 : Int))) ∧ (∃ d4 : Int,((c = c ∧ True ∧ True ∧ (d3 + (1 : Int)) = d4 ∧ True) ∧ ((hk = hk ∧ lw = lw ∧ (([] : List SV) = [])) ∧ (hd = hd ∧ rows = rows ∧ (([] : List SV) = [])) ∧ True)) ∧ q3 d4))) ∧
  ((decide (d3 < (lI c))) = false →
   ((((decide ((lI lw) > (110 : Int))) || (decide ((lI rows) > (70 : Int)))) || (decide ((lI c) > (70 : Int)))) = (largeB lw rows c) ∧ (True)))) d30
def cx_law03_large : Cx:=⟨[],[],35,[],0,[],[],[],[],false,[],[],[]⟩
def lp_law03_large (hk : Int) (lw : List Int) (hd : Int) (rows : List Int) (c : List (List UInt8)) : List (Nat × LoopAnn):=[(0,⟨Unit,Int,[2,3,4,7],fun e x=>[.val (.list .st) c,.box 3 0,.box 4 0,.val (.i .i64) x],fun e x=>[(3,.slot 3,.cells [.val (.i .i64) hk,.val (.list (.i .i64)) lw] (some 26)),(4,.slot 4,.cells [.val (.i .i64) hd,.val (.list (.i .i64)) rows] (some 36))]⟩)]
set_option maxRecDepth 100000 in
theorem vq_law03_large (d : (Int × List Int) × (Int × List Int) × List (List UInt8)) : gwp (cx_law03_large) (lp_law03_large d.1.1 d.1.2 d.2.1.1 d.2.1.2 d.2.2) c18 0 (gend [.tmp 6] (res_law03_large d) (obs_law03_large d)) (gstart 35 (AL.can al_law03_large d)) = vc_law03_large d.1.1 d.1.2 d.2.1.1 d.2.1.2 d.2.2:=by kernel_rfl
abbrev Ok_law03_large : Prop:=OkC Tryz.prog 18 s_law03_large
theorem mk_law03_large (h : ∀ (hk : Int) (lw : List Int) (hd : Int) (rows : List Int) (c : List (List UInt8)),(c.length ≤ 9223372036854775807) → vc_law03_large hk lw hd rows c) : OkC Tryz.prog 18 s_law03_large :=
 okC_vc fun18 mixed (C:=cx_law03_large) (V:=fun (d : (Int × List Int) × (Int × List Int) × List (List UInt8))=>vc_law03_large d.1.1 d.1.2 d.2.1.1 d.2.1.2 d.2.2) ⟨.nil,XsOk.nil,ItsOk.nil,YlOk.nil,IysOk.nil⟩ (vq_law03_large) fun d hp=>h d.1.1 d.1.2 d.2.1.1 d.2.1.2 d.2.2 hp
theorem ok_law03_large : Ok_law03_large:=mk_law03_large fun hk lw hd rows c hc=>by
 unfold vc_law03_large
 refine ⟨(),0,by simp,?_⟩
 refine LoopP.count c.length (fun k=>∀ j,j < k → (c.getD j []).length ≤ 110) (fun _ h=>by omega) fun k hk hJ q hq=>?_
 refine ⟨fun hlt=>?_,fun hge=>⟨?_,trivial⟩⟩
 ·have hlt : k < c.length:=by simpa [lI] using hlt
  refine ⟨by omega,by omega,fun hne=>⟨?_,trivial⟩,fun he=>⟨?_,(k : Int) + 1,by simp,hq hlt fun j hj=>?_⟩⟩
  ·have h0 : (110 : Int) < (((c.getD k []).length : Nat) : Int):=by simpa [lI,gD] using hne
   have h1 : 110 < (c.getD k []).length:=by omega
   rw [getD_nat hlt] at h1
   have : c.any (fun s=>decide (110 < s.length)) = true:=List.any_eq_true.2 ⟨c[k],List.getElem_mem hlt,by simpa using h1⟩
   simp [largeB,this]
  ·simp only [InK_i64]; omega
  ·rcases Nat.lt_succ_iff_lt_or_eq.1 hj with hj | rfl
   ·exact hJ j hj
   ·have : ¬ (110 : Int) < (((c.getD j []).length : Nat) : Int):=by simpa [lI,gD] using he
    omega
 ·have hge : c.length ≤ k:=by simpa [lI] using hge
  have : c.any (fun s=>decide (110 < s.length)) = false:=by
   rw [List.any_eq_false]
   intro s hs
   obtain ⟨j,hj,rfl⟩:=List.getElem_of_mem hs
   have:=hJ j (by omega)
   rw [getD_nat hj] at this
   simp; omega
  simp only [largeB,this,Bool.false_or,lI]
  congr 1
  ·congr 1
   ·simp only [decide_eq_decide]; omega
   ·simp only [decide_eq_decide]; omega
  ·simp only [decide_eq_decide]; omega
end Go.Proofs.Tryz
set_option linter.unusedVariables false
namespace Go.Proofs.Tryz
open Go Go.V Go.Proofs
theorem tmodN (a b : Nat) : Int.tmod (a : Int) (b : Int) = ((a % b : Nat) : Int):=rfl
end Go.Proofs.Tryz
set_option linter.unusedVariables false
namespace Go.Proofs.Tryz
open Go Go.V Go.Proofs
def al_ref03_Alike : AL (List (List UInt8) × List (List UInt8)):=(.cons (.k (.list .st)) (.one (.k (.list .st))))
def pre_ref03_Alike (d : List (List UInt8) × List (List UInt8)) : Prop:=d.1.length ≤ 1000000
def res_ref03_Alike (d : List (List UInt8) × List (List UInt8)) : SV:=.val .bo (d.1 == d.2)
def obs_ref03_Alike (d : List (List UInt8) × List (List UInt8)) : List OB:=[]
def s_ref03_Alike : CSp:=mkSp al_ref03_Alike pre_ref03_Alike res_ref03_Alike obs_ref03_Alike
def vc_ref03_Alike (a : List (List UInt8)) (b : List (List UInt8)) : Prop :=
 (((lI a) != (lI b)) = true →
  (false = (a == b) ∧ (True))) ∧
 (((lI a) != (lI b)) = false →
  ∃ (e2 : Unit) (d20 : Int),((a = a ∧ b = b ∧ (0 : Int) = d20 ∧ True) ∧ (True)) ∧
  LoopP (fun (d2 : Int) (q2 : (Int) → Prop) =>
   ((decide (d2 < (lI a))) = true →
    (0 ≤ d2) ∧ (d2 < (List.length a)) ∧ (0 ≤ d2) ∧ (d2 < (List.length b)) ∧ ((!((gD a d2 []) == (gD b d2 []))) = true →
     (false = (a == b) ∧ (True))) ∧
    ((!((gD a d2 []) == (gD b d2 []))) = false →
     (I64 (d2 + (1 : Int))) ∧ (∃ d3 : Int,((a = a ∧ b = b ∧ (d2 + (1 : Int)) = d3 ∧ True) ∧ (True)) ∧ q2 d3))) ∧
   ((decide (d2 < (lI a))) = false →
    (true = (a == b) ∧ (True)))) d20)
def cx_ref03_Alike : Cx:=⟨[],[],26,[],0,[],[],[],[],false,[],[],[]⟩
def lp_ref03_Alike (a : List (List UInt8)) (b : List (List UInt8)) : List (Nat × LoopAnn):=[(0,⟨Unit,Int,[0,1,5],fun e x=>[.val (.list .st) a,.val (.list .st) b,.val (.i .i64) x],fun e x=>[]⟩)]
set_option maxRecDepth 100000 in
theorem vq_ref03_Alike (d : List (List UInt8) × List (List UInt8)) : gwp (cx_ref03_Alike) (lp_ref03_Alike d.1 d.2) c26 0 (gend [.tmp 4] (res_ref03_Alike d) (obs_ref03_Alike d)) (gstart 26 (AL.can al_ref03_Alike d)) = vc_ref03_Alike d.1 d.2:=by kernel_rfl
abbrev Ok_ref03_Alike : Prop:=OkC Tryz.prog 26 s_ref03_Alike
theorem mk_ref03_Alike (h : ∀ (a : List (List UInt8)) (b : List (List UInt8)),(a.length ≤ 1000000) → vc_ref03_Alike a b) : OkC Tryz.prog 26 s_ref03_Alike :=
 okC_vc fun26 mixed (C:=cx_ref03_Alike) (V:=fun (d : List (List UInt8) × List (List UInt8))=>vc_ref03_Alike d.1 d.2) ⟨.nil,XsOk.nil,ItsOk.nil,YlOk.nil,IysOk.nil⟩ (vq_ref03_Alike) fun d hp=>h d.1 d.2 hp
theorem ok_ref03_Alike : Ok_ref03_Alike:=mk_ref03_Alike fun a b h=>by
 unfold vc_ref03_Alike; (try delta lI gD sT I64); simp only [true_and,and_true,exists_eq_left',exists_const,decide_eq_true_eq,decide_eq_false_iff_not,beq_iff_eq,bne_iff_ne,ne_eq,beq_eq_false_iff_ne,bne_eq_false_iff_eq,Bool.not_eq_true',Bool.not_eq_false']
 refine ⟨fun h=>?_,fun h=>?_⟩
 ·symm; rw [beq_eq_false_iff_ne]; rintro rfl; exact h rfl
 have h : a.length = b.length:=by omega
 refine LoopP.count a.length (fun k=>a.take k = b.take k) rfl fun k hk1 hJ q hq=>?_
 simp only [Int.toNat_natCast,Int.ofNat_lt,InK_i64]
 refine ⟨fun hlt=>?_,fun hge=>?_⟩
 ·have hlt : k < a.length:=by omega
  rw [getD_nat hlt,getD_nat (by omega)]
  refine ⟨by omega,by omega,by omega,by omega,fun hx=>?_,fun hx=>⟨by omega,hq hlt ?_⟩⟩
  ·symm; rw [beq_eq_false_iff_ne]; rintro rfl; exact hx rfl
  ·rw [take_succ_eq hlt,take_succ_eq (by omega),hJ,hx]
 ·rw [List.take_of_length_le (by omega),List.take_of_length_le (by omega)] at hJ
  simp [hJ]
def al_ref01_Like : AL ((Int × List Int) × Int × List Int):=(.cons (.agg (.cons (.k (.i .i64)) (.one (.k (.list (.i .i64)))))) (.one (.agg (.cons (.k (.i .i64)) (.one (.k (.list (.i .i64))))))))
def pre_ref01_Like (d : (Int × List Int) × Int × List Int) : Prop:=True
def res_ref01_Like (d : (Int × List Int) × Int × List Int) : SV:=.val .bo (decide (d.1.1 = d.2.1) && decide (d.1.2.length = d.2.2.length))
def obs_ref01_Like (d : (Int × List Int) × Int × List Int) : List OB:=[]
def s_ref01_Like : CSp:=mkSp al_ref01_Like pre_ref01_Like res_ref01_Like obs_ref01_Like
def vc_ref01_Like (hd : Int) (rows : List Int) (hd1 : Int) (rows1 : List Int) : Prop :=
 (((hd == hd1) && ((lI rows) == (lI rows1))) = (decide (hd = hd1) && decide (rows.length = rows1.length)) ∧ (True))
def cx_ref01_Like : Cx:=⟨[],[],19,[],0,[],[],[],[],false,[],[],[]⟩
def lp_ref01_Like (hd : Int) (rows : List Int) (hd1 : Int) (rows1 : List Int) : List (Nat × LoopAnn):=[]
set_option maxRecDepth 100000 in
theorem vq_ref01_Like (d : (Int × List Int) × Int × List Int) : gwp (cx_ref01_Like) (lp_ref01_Like d.1.1 d.1.2 d.2.1 d.2.2) c74 0 (gend [.tmp 4] (res_ref01_Like d) (obs_ref01_Like d)) (gstart 19 (AL.can al_ref01_Like d)) = vc_ref01_Like d.1.1 d.1.2 d.2.1 d.2.2:=by kernel_rfl
abbrev Ok_ref01_Like : Prop:=OkC Tryz.prog 74 s_ref01_Like
theorem mk_ref01_Like (h : ∀ (hd : Int) (rows : List Int) (hd1 : Int) (rows1 : List Int),(True) → vc_ref01_Like hd rows hd1 rows1) : OkC Tryz.prog 74 s_ref01_Like :=
 okC_vc fun74 mixed (C:=cx_ref01_Like) (V:=fun (d : (Int × List Int) × Int × List Int)=>vc_ref01_Like d.1.1 d.1.2 d.2.1 d.2.2) ⟨.nil,XsOk.nil,ItsOk.nil,YlOk.nil,IysOk.nil⟩ (vq_ref01_Like) fun d hp=>h d.1.1 d.1.2 d.2.1 d.2.2 hp
theorem ok_ref01_Like : Ok_ref01_Like:=mk_ref01_Like fun hd rows hd1 rows1 _=>by
 unfold vc_ref01_Like; (try delta lI gD sT I64); simp only [and_true]
 rw [Bool.eq_iff_iff]
 simp only [Bool.and_eq_true,beq_iff_eq,decide_eq_true_eq,Int.ofNat_inj]
def al_ref01_Same : AL ((Int × List Int) × Int × List Int):=(.cons (.agg (.cons (.k (.i .i64)) (.one (.k (.list (.i .i64)))))) (.one (.agg (.cons (.k (.i .i64)) (.one (.k (.list (.i .i64))))))))
def pre_ref01_Same (d : (Int × List Int) × Int × List Int) : Prop:=d.1.2.length ≤ 1000000
def res_ref01_Same (d : (Int × List Int) × Int × List Int) : SV:=.val .bo (decide (d.1.1 = d.2.1) && (d.1.2 == d.2.2))
def obs_ref01_Same (d : (Int × List Int) × Int × List Int) : List OB:=[]
def s_ref01_Same : CSp:=mkSp al_ref01_Same pre_ref01_Same res_ref01_Same obs_ref01_Same
def vc_ref01_Same (hd : Int) (rows : List Int) (hd1 : Int) (rows1 : List Int) : Prop :=
 (True) ∧ ((!(decide (hd = hd1) && decide (rows.length = rows1.length))) = true →
  (false = (decide (hd = hd1) && (rows == rows1)) ∧ (True))) ∧
 ((!(decide (hd = hd1) && decide (rows.length = rows1.length))) = false →
  ∃ (e3 : Unit) (d30 : Int),((True ∧ True ∧ (0 : Int) = d30 ∧ True) ∧ ((hd = hd ∧ rows = rows ∧ (([] : List SV) = [])) ∧ (hd1 = hd1 ∧ rows1 = rows1 ∧ (([] : List SV) = [])) ∧ True)) ∧
  LoopP (fun (d3 : Int) (q3 : (Int) → Prop) =>
   ((decide (d3 < (lI rows))) = true →
    (0 ≤ d3) ∧ (d3 < (List.length rows)) ∧ (0 ≤ d3) ∧ (d3 < (List.length rows1)) ∧ (((gD rows d3 0) != (gD rows1 d3 0)) = true →
     (false = (decide (hd = hd1) && (rows == rows1)) ∧ (True))) ∧
    (((gD rows d3 0) != (gD rows1 d3 0)) = false →
     (I64 (d3 + (1 : Int))) ∧ (∃ d4 : Int,((True ∧ True ∧ (d3 + (1 : Int)) = d4 ∧ True) ∧ ((hd = hd ∧ rows = rows ∧ (([] : List SV) = [])) ∧ (hd1 = hd1 ∧ rows1 = rows1 ∧ (([] : List SV) = [])) ∧ True)) ∧ q3 d4))) ∧
   ((decide (d3 < (lI rows))) = false →
    (true = (decide (hd = hd1) && (rows == rows1)) ∧ (True)))) d30)
def cx_ref01_Same : Cx:=⟨[],[(74,s_ref01_Like)],28,[],0,[],[],[],[],false,[],[],[]⟩
def lp_ref01_Same (hd : Int) (rows : List Int) (hd1 : Int) (rows1 : List Int) : List (Nat × LoopAnn):=[(0,⟨Unit,Int,[2,3,5],fun e x=>[.box 2 0,.box 3 0,.val (.i .i64) x],fun e x=>[(2,.slot 2,.cells [.val (.i .i64) hd,.val (.list (.i .i64)) rows] (some 36)),(3,.slot 3,.cells [.val (.i .i64) hd1,.val (.list (.i .i64)) rows1] (some 36))]⟩)]
set_option maxRecDepth 100000 in
theorem vq_ref01_Same (d : (Int × List Int) × Int × List Int) : gwp (cx_ref01_Same) (lp_ref01_Same d.1.1 d.1.2 d.2.1 d.2.2) c23 0 (gend [.tmp 4] (res_ref01_Same d) (obs_ref01_Same d)) (gstart 28 (AL.can al_ref01_Same d)) = vc_ref01_Same d.1.1 d.1.2 d.2.1 d.2.2:=by kernel_rfl
abbrev Ok_ref01_Same : Prop:=OkC Tryz.prog 23 s_ref01_Same
theorem mk_ref01_Same (h : ∀ (hd : Int) (rows : List Int) (hd1 : Int) (rows1 : List Int),(rows.length ≤ 1000000) → vc_ref01_Same hd rows hd1 rows1) : OkC Tryz.prog 23 s_ref01_Same :=
 okC_vc fun23 mixed (C:=cx_ref01_Same) (V:=fun (d : (Int × List Int) × Int × List Int)=>vc_ref01_Same d.1.1 d.1.2 d.2.1 d.2.2) ⟨(.cons ok_ref01_Like .nil),XsOk.nil,ItsOk.nil,YlOk.nil,IysOk.nil⟩ (vq_ref01_Same) fun d hp=>h d.1.1 d.1.2 d.2.1 d.2.2 hp
theorem ok_ref01_Same : Ok_ref01_Same:=mk_ref01_Same fun hd rows hd1 rows1 hl=>by
 unfold vc_ref01_Same; (try delta lI gD sT I64); simp only [true_and,and_true,exists_eq_left',exists_const,decide_eq_true_eq,decide_eq_false_iff_not,bne_iff_ne,ne_eq,bne_eq_false_iff_eq,Bool.not_eq_true',Bool.not_eq_false',Bool.and_eq_true,Bool.and_eq_false_iff]
 refine ⟨fun h=>?_,fun ⟨h0,h⟩=>?_⟩
 ·symm; simp only [Bool.and_eq_false_iff,decide_eq_false_iff_not,beq_eq_false_iff_ne]
  rcases h with h | h
  ·exact .inl h
  ·exact .inr (by rintro rfl; exact h rfl)
 subst h0
 refine LoopP.count rows.length (fun k=>rows.take k = rows1.take k) rfl fun k hk1 hJ q hq=>?_
 simp only [Int.toNat_natCast,Int.ofNat_lt,InK_i64]
 refine ⟨fun hlt=>?_,fun hge=>?_⟩
 ·have hlt : k < rows.length:=by omega
  rw [getD_nat hlt,getD_nat (by omega)]
  refine ⟨by omega,by omega,by omega,by omega,fun hx=>?_,fun hx=>⟨by omega,hq hlt ?_⟩⟩
  ·symm; simp only [decide_true,Bool.true_and,beq_eq_false_iff_ne]; rintro rfl; exact hx rfl
  ·rw [take_succ_eq hlt,take_succ_eq (by omega),hJ,hx]
 ·rw [List.take_of_length_le (by omega),List.take_of_length_le (by omega)] at hJ
  simp [hJ]
end Go.Proofs.Tryz
set_option linter.unusedVariables false
namespace Go.Proofs.Tryz
open Go Go.V Go.Proofs
def al_point_within_1 : AL (Int × Int × Int):=(.cons (.k (.i .i64)) (.cons (.ptr (.one (.k (.i .i64)))) (.one (.ptr (.one (.k (.i .i64)))))))
def pre_point_within_1 (d : Int × Int × Int) : Prop:=True
def res_point_within_1 (d : Int × Int × Int) : SV:=.val .bo (decide (d.1 < d.2.1) || decide (d.2.2 < d.1))
def obs_point_within_1 (d : Int × Int × Int) : List OB:=[]
def s_point_within_1 : CSp:=mkSp al_point_within_1 pre_point_within_1 res_point_within_1 obs_point_within_1
def vc_point_within_1 (n : Int) (a : Int) (b : Int) : Prop :=
 (((decide (n < a)) || (decide (n > b))) = (decide (n < a) || decide (b < n)) ∧ (True))
def cx_point_within_1 : Cx:=⟨[],[],13,[],0,[],[],[],[],false,[],[],[]⟩
def lp_point_within_1 (n : Int) (a : Int) (b : Int) : List (Nat × LoopAnn):=[]
set_option maxRecDepth 100000 in
theorem vq_point_within_1 (d : Int × Int × Int) : gwp (cx_point_within_1) (lp_point_within_1 d.1 d.2.1 d.2.2) c120 0 (gend [.tmp 4] (res_point_within_1 d) (obs_point_within_1 d)) (gstart 13 (AL.can al_point_within_1 d)) = vc_point_within_1 d.1 d.2.1 d.2.2:=by kernel_rfl
abbrev Ok_point_within_1 : Prop:=OkC Tryz.prog 120 s_point_within_1
theorem mk_point_within_1 (h : ∀ (n : Int) (a : Int) (b : Int),(True) → vc_point_within_1 n a b) : OkC Tryz.prog 120 s_point_within_1 :=
 okC_vc fun120 mixed (C:=cx_point_within_1) (V:=fun (d : Int × Int × Int)=>vc_point_within_1 d.1 d.2.1 d.2.2) ⟨.nil,XsOk.nil,ItsOk.nil,YlOk.nil,IysOk.nil⟩ (vq_point_within_1) fun d hp=>h d.1 d.2.1 d.2.2 hp
theorem ok_point_within_1 : Ok_point_within_1:=mk_point_within_1 fun n a b _=>by
 exact ⟨rfl,trivial⟩
def al_point_within : AL (Int × Int × List Int):=(.cons (.k (.i .i64)) (.cons (.k (.i .i64)) (.one (.k (.list (.i .i64))))))
def pre_point_within (d : Int × Int × List Int) : Prop:=d.2.2.length ≤ 1000000
def res_point_within (d : Int × Int × List Int) : SV:=.val .bo (!(d.2.2.any fun n=>decide (n < d.1) || decide (d.2.1 < n)))
def obs_point_within (d : Int × Int × List Int) : List OB:=[]
def s_point_within : CSp:=mkSp al_point_within pre_point_within res_point_within obs_point_within
def vc_point_within (a : Int) (b : Int) (l : List Int) : Prop :=
 (l.length ≤ 1000000 ∧ ∀ x ∈ l,(fun (x1 : Int)=>True) x) ∧ ((!(l.any (fun (x1 : Int)=>(decide (x1 < a) || decide (b < x1))))) = (!(l.any fun n=>decide (n < a) || decide (b < n))) ∧ (True))
def cx_point_within : Cx:=⟨[],[(101,s_slices_ContainsFunc_int_int),(120,s_point_within_1)],11,[],0,[],[],[],[],false,[],[],[]⟩
def lp_point_within (a : Int) (b : Int) (l : List Int) : List (Nat × LoopAnn):=[]
set_option maxRecDepth 100000 in
theorem vq_point_within (d : Int × Int × List Int) : gwp (cx_point_within) (lp_point_within d.1 d.2.1 d.2.2) c98 0 (gend [.tmp 6] (res_point_within d) (obs_point_within d)) (gstart 11 (AL.can al_point_within d)) = vc_point_within d.1 d.2.1 d.2.2:=by kernel_rfl
abbrev Ok_point_within : Prop:=OkC Tryz.prog 98 s_point_within
theorem mk_point_within (h : ∀ (a : Int) (b : Int) (l : List Int),(l.length ≤ 1000000) → vc_point_within a b l) : OkC Tryz.prog 98 s_point_within :=
 okC_vc fun98 mixed (C:=cx_point_within) (V:=fun (d : Int × Int × List Int)=>vc_point_within d.1 d.2.1 d.2.2) ⟨(.cons ok_slices_ContainsFunc_int_int (.cons ok_point_within_1 .nil)),XsOk.nil,ItsOk.nil,YlOk.nil,IysOk.nil⟩ (vq_point_within) fun d hp=>h d.1 d.2.1 d.2.2 hp
theorem ok_point_within : Ok_point_within:=mk_point_within fun a b l h=>by
 exact ⟨⟨h,fun _ _=>trivial⟩,rfl,trivial⟩
def al_point_Check : AL (Int × List Int):=(.one (.agg (.cons (.k (.i .i64)) (.one (.k (.list (.i .i64)))))))
def pre_point_Check (d : Int × List Int) : Prop:=d.2.length ≤ 1000000
def res_point_Check (d : Int × List Int) : SV:=.val (.i .i64) (pointErr d.1 d.2)
def obs_point_Check (d : Int × List Int) : List OB:=[]
def s_point_Check : CSp:=mkSp al_point_Check pre_point_Check res_point_Check obs_point_Check
def vc_point_Check (hd : Int) (rows : List Int) : Prop :=
 ([hd].length ≤ 1000000) ∧ ((!(!([hd].any fun n=>decide (n < (1 : Int)) || decide ((24 : Int) < n)))) = true →
  ((2 : Int) = (pointErr hd rows) ∧ (True))) ∧
 ((!(!([hd].any fun n=>decide (n < (1 : Int)) || decide ((24 : Int) < n)))) = false →
  ((decide ((lI rows) > (60 : Int))) = true →
   ((5 : Int) = (pointErr hd rows) ∧ (True))) ∧
  ((decide ((lI rows) > (60 : Int))) = false →
   (((lI rows) == (0 : Int)) = true →
    ((7 : Int) = (pointErr hd rows) ∧ (True))) ∧
   (((lI rows) == (0 : Int)) = false →
    (0 ≤ hd) ∧ (I64 (shlI .i64 (1 : Int) hd)) ∧ (I64 ((shlI .i64 (1 : Int) hd) - (1 : Int))) ∧ (rows.length ≤ 1000000) ∧ ((!(!(rows.any fun n=>decide (n < (0 : Int)) || decide (((shlI .i64 (1 : Int) hd) - (1 : Int)) < n)))) = true →
     ((2 : Int) = (pointErr hd rows) ∧ (True))) ∧
    ((!(!(rows.any fun n=>decide (n < (0 : Int)) || decide (((shlI .i64 (1 : Int) hd) - (1 : Int)) < n)))) = false →
     ((0 : Int) = (pointErr hd rows) ∧ (True))))))
def cx_point_Check : Cx:=⟨[(3,(.i .i64))],[(98,s_point_within)],28,[],0,[],[],[],[],false,[],[],[]⟩
def lp_point_Check (hd : Int) (rows : List Int) : List (Nat × LoopAnn):=[]
set_option maxRecDepth 100000 in
theorem vq_point_Check (d : Int × List Int) : gwp (cx_point_Check) (lp_point_Check d.1 d.2) c71 0 (gend [.tmp 2] (res_point_Check d) (obs_point_Check d)) (gstart 28 (AL.can al_point_Check d)) = vc_point_Check d.1 d.2:=by kernel_rfl
abbrev Ok_point_Check : Prop:=OkC Tryz.prog 71 s_point_Check
theorem mk_point_Check (h : ∀ (hd : Int) (rows : List Int),(rows.length ≤ 1000000) → vc_point_Check hd rows) : OkC Tryz.prog 71 s_point_Check :=
 okC_vc fun71 mixed (C:=cx_point_Check) (V:=fun (d : Int × List Int)=>vc_point_Check d.1 d.2) ⟨(.cons ok_point_within .nil),XsOk.nil,ItsOk.nil,YlOk.nil,IysOk.nil⟩ (vq_point_Check) fun d hp=>h d.1 d.2 hp
theorem shl_one {h : Int} (h1 : 0 ≤ h) (h2 : h ≤ 62) : shlI .i64 1 h = 2 ^ h.toNat:=by
 obtain ⟨n,rfl⟩:=Int.eq_ofNat_of_zero_le h1
 have : Nat.min n 64 = n:=Nat.min_eq_left (by omega)
 simp only [shlI,Int.toNat_natCast,IntKind.bits,this,Int.one_mul]
theorem pow_bound {h : Int} (h1 : 1 ≤ h) (h2 : h ≤ 24) : (2 : Int) ≤ 2 ^ h.toNat ∧ (2 : Int) ^ h.toNat ≤ 16777216:=by
 obtain ⟨n,rfl⟩:=Int.eq_ofNat_of_zero_le (show 0 ≤ h by omega)
 have a1 : 2 ^ 1 ≤ 2 ^ n:=Nat.pow_le_pow_right (by omega) (by omega)
 have a2 : 2 ^ n ≤ 2 ^ 24:=Nat.pow_le_pow_right (by omega) (by omega)
 simp only [Int.toNat_natCast]
 have e : ((2 : Int) ^ n) = ((2 ^ n : Nat) : Int):=by norm_cast
 rw [e]
 omega
theorem ok_point_Check : Ok_point_Check:=mk_point_Check fun hd rows hl=>by
 unfold vc_point_Check; (try delta lI gD sT I64); simp only [and_true,decide_eq_true_eq,decide_eq_false_iff_not,beq_iff_eq,ne_eq,beq_eq_false_iff_ne,gt_iff_lt,Bool.not_not]
 simp only [← nI]
 refine ⟨by simp,fun h1=>by simp at h1; simp [pointErr,h1],fun h1=>⟨fun h2=>?_,fun h2=>⟨fun h3=>?_,fun h3=>?_⟩⟩⟩
 all_goals simp only [List.any_cons,List.any_nil,Bool.or_false,Bool.not_eq_false'] at h1
 ·have : 60 < rows.length:=by omega
  simp [pointErr,h1,this]
 ·have h3 : rows.length = 0:=by omega
  simp [pointErr,h1,h3]
 have h2' : ¬ 60 < rows.length:=by omega
 have h3' : ¬ rows.length = 0:=by omega
 have hi : 1 ≤ hd ∧ hd ≤ 24:=by simpa [inI] using h1
 have hp:=pow_bound hi.1 hi.2
 have hte : pointErr hd rows = if rows.any (fun x=>!inI x 0 (2 ^ hd.toNat - 1)) then 2 else 0:=by simp only [pointErr,h1,h2',h3']; simp
 rw [hte]
 simp only [InK_i64,shl_one (show 0 ≤ hd by omega) (by omega)]
 refine ⟨by omega,by omega,by omega,by omega,fun h=>by rw [if_pos h],fun h=>by rw [h]; rfl⟩
def al_tie_mark : AL (Bool):=(.one (.k .bo))
def pre_tie_mark (d : Bool) : Prop:=True
def res_tie_mark (d : Bool) : SV:=.val (.i .u8) (markI d)
def obs_tie_mark (d : Bool) : List OB:=[]
def s_tie_mark : CSp:=mkSp al_tie_mark pre_tie_mark res_tie_mark obs_tie_mark
def vc_tie_mark (x : Bool) : Prop :=
 (x = true →
  ((120 : Int) = (markI x) ∧ (True))) ∧
 (x = false →
  ((46 : Int) = (markI x) ∧ (True)))
def cx_tie_mark : Cx:=⟨[],[],4,[],0,[],[],[],[],false,[],[],[]⟩
def lp_tie_mark (x : Bool) : List (Nat × LoopAnn):=[]
set_option maxRecDepth 100000 in
theorem vq_tie_mark (d : Bool) : gwp (cx_tie_mark) (lp_tie_mark d) c107 0 (gend [.tmp 2] (res_tie_mark d) (obs_tie_mark d)) (gstart 4 (AL.can al_tie_mark d)) = vc_tie_mark d:=by kernel_rfl
abbrev Ok_tie_mark : Prop:=OkC Tryz.prog 107 s_tie_mark
theorem mk_tie_mark (h : ∀ (x : Bool),(True) → vc_tie_mark x) : OkC Tryz.prog 107 s_tie_mark :=
 okC_vc fun107 mixed (C:=cx_tie_mark) (V:=fun (d : Bool)=>vc_tie_mark d) ⟨.nil,XsOk.nil,ItsOk.nil,YlOk.nil,IysOk.nil⟩ (vq_tie_mark) fun d hp=>h d hp
theorem ok_tie_mark : Ok_tie_mark:=mk_tie_mark fun x _=>by
 cases x <;> simp [vc_tie_mark,markI]
def al_tie_harness_lifted : AL ((Int × List Int) × Int × Int):=(.cons (.agg (.cons (.k (.i .i64)) (.one (.k (.list (.i .i64)))))) (.cons (.k (.i .i64)) (.one (.k (.i .i64)))))
def pre_tie_harness_lifted (d : (Int × List Int) × Int × Int) : Prop:=0 ≤ d.2.2 ∧ d.2.2 < d.1.2.length ∧ 0 ≤ d.2.1 ∧ d.2.1 < 9223372036854775808 ∧ ∀ x ∈ d.1.2,0 ≤ x ∧ x ≤ 60
def res_tie_harness_lifted (d : (Int × List Int) × Int × Int) : SV:=.val .bo (d.2.1.toNat.testBit (d.1.2.getD d.2.2.toNat 0).toNat)
def obs_tie_harness_lifted (d : (Int × List Int) × Int × Int) : List OB:=[]
def s_tie_harness_lifted : CSp:=mkSp al_tie_harness_lifted pre_tie_harness_lifted res_tie_harness_lifted obs_tie_harness_lifted
def vc_tie_harness_lifted (hk : Int) (lw : List Int) (row : Int) (w : Int) : Prop :=
 (0 ≤ w) ∧ (w < (List.length lw)) ∧ (0 ≤ (gD lw w 0)) ∧ (((vbits .and .i64 (shrI .i64 row (gD lw w 0)) (1 : Int)) == (1 : Int)) = (row.toNat.testBit (lw.getD w.toNat 0).toNat) ∧ (True))
def cx_tie_harness_lifted : Cx:=⟨[],[],17,[],0,[],[],[],[],false,[],[],[]⟩
def lp_tie_harness_lifted (hk : Int) (lw : List Int) (row : Int) (w : Int) : List (Nat × LoopAnn):=[]
set_option maxRecDepth 100000 in
theorem vq_tie_harness_lifted (d : (Int × List Int) × Int × Int) : gwp (cx_tie_harness_lifted) (lp_tie_harness_lifted d.1.1 d.1.2 d.2.1 d.2.2) c108 0 (gend [.tmp 6] (res_tie_harness_lifted d) (obs_tie_harness_lifted d)) (gstart 17 (AL.can al_tie_harness_lifted d)) = vc_tie_harness_lifted d.1.1 d.1.2 d.2.1 d.2.2:=by kernel_rfl
abbrev Ok_tie_harness_lifted : Prop:=OkC Tryz.prog 108 s_tie_harness_lifted
theorem mk_tie_harness_lifted (h : ∀ (hk : Int) (lw : List Int) (row : Int) (w : Int),(0 ≤ w ∧ w < lw.length ∧ 0 ≤ row ∧ row < 9223372036854775808 ∧ ∀ x ∈ lw,0 ≤ x ∧ x ≤ 60) → vc_tie_harness_lifted hk lw row w) : OkC Tryz.prog 108 s_tie_harness_lifted :=
 okC_vc fun108 mixed (C:=cx_tie_harness_lifted) (V:=fun (d : (Int × List Int) × Int × Int)=>vc_tie_harness_lifted d.1.1 d.1.2 d.2.1 d.2.2) ⟨.nil,XsOk.nil,ItsOk.nil,YlOk.nil,IysOk.nil⟩ (vq_tie_harness_lifted) fun d hp=>h d.1.1 d.1.2 d.2.1 d.2.2 hp
theorem ok_tie_harness_lifted : Ok_tie_harness_lifted:=mk_tie_harness_lifted fun hk lw row w h=>by
 obtain ⟨h1,h2,h3,h4,h5⟩:=h
 obtain ⟨w,rfl⟩:=Int.eq_ofNat_of_zero_le h1
 obtain ⟨r,rfl⟩:=Int.eq_ofNat_of_zero_le h3
 have hw : w < lw.length:=by omega
 have hx:=h5 _ (List.getElem_mem hw)
 obtain ⟨k,hk⟩:=Int.eq_ofNat_of_zero_le hx.1
 unfold vc_tie_harness_lifted; (try delta lI gD sT I64); simp only [and_true,Int.toNat_natCast,Int.ofNat_lt,getD_nat hw,hk]
 refine ⟨by omega,by omega,by omega,?_⟩
 exact shr_bit (by omega) (by omega)
end Go.Proofs.Tryz
set_option linter.unusedVariables false
namespace Go.Proofs.Tryz
open Go Go.V Go.Proofs
def cx_strings_Builder_copyCheck : Cx:=⟨[],[],20,[],0,[(152,sameX)],[],[],[],false,[],[],[]⟩
def x_strings_Builder_copyCheck : XSp:=inlX cx_strings_Builder_copyCheck (fun _=>[]) c135 [] 20
theorem okx_strings_Builder_copyCheck : XOk Tryz.prog 135 x_strings_Builder_copyCheck:=inlX_ok fun135 mixed (C:=cx_strings_Builder_copyCheck) ⟨.nil,(XsOk.cons (sameX_ok same152) XsOk.nil),ItsOk.nil,YlOk.nil,IysOk.nil⟩ _
def cx_strings_Builder_WriteByte : Cx:=⟨[(5,(.i .u8))],[],17,[],0,[(135,x_strings_Builder_copyCheck)],[],[],[],false,[],[],[]⟩
def x_strings_Builder_WriteByte : XSp:=inlX cx_strings_Builder_WriteByte (fun _=>[]) c106 [.tmp 4] 17
theorem okx_strings_Builder_WriteByte : XOk Tryz.prog 106 x_strings_Builder_WriteByte:=inlX_ok fun106 mixed (C:=cx_strings_Builder_WriteByte) ⟨.nil,(XsOk.cons okx_strings_Builder_copyCheck XsOk.nil),ItsOk.nil,YlOk.nil,IysOk.nil⟩ _
def cx_strings_Builder_String : Cx:=⟨[],[],14,[],0,[],[],[],[],false,[],[],[]⟩
def x_strings_Builder_String : XSp:=inlX cx_strings_Builder_String (fun _=>[]) c109 [.tmp 2] 14
theorem okx_strings_Builder_String : XOk Tryz.prog 109 x_strings_Builder_String:=inlX_ok fun109 mixed (C:=cx_strings_Builder_String) ⟨.nil,XsOk.nil,ItsOk.nil,YlOk.nil,IysOk.nil⟩ _
def al_tie_harness_pick : AL ((Int × List Int) × Int):=(.cons (.agg (.cons (.k (.i .i64)) (.one (.k (.list (.i .i64)))))) (.one (.k (.i .i64))))
def pre_tie_harness_pick (d : (Int × List Int) × Int) : Prop:=d.1.2.length ≤ 110 ∧ 0 ≤ d.2 ∧ d.2 < 9223372036854775808 ∧ ∀ x ∈ d.1.2,0 ≤ x ∧ x ≤ 60
def res_tie_harness_pick (d : (Int × List Int) × Int) : SV:=.val .st (pickS d.1.2 d.2)
def obs_tie_harness_pick (d : (Int × List Int) × Int) : List OB:=[]
def s_tie_harness_pick : CSp:=mkSp al_tie_harness_pick pre_tie_harness_pick res_tie_harness_pick obs_tie_harness_pick
def vc_tie_harness_pick (hk : Int) (lw : List Int) (row : Int) : Prop :=
 ∃ (e4 : Unit) (d40 : Bool × (List Int) × Int),((row = row ∧ True ∧ True ∧ (lI lw) = (lI lw) ∧ (0 : Int) = d40.2.2 ∧ True) ∧ ((hk = hk ∧ lw = lw ∧ (([] : List SV) = [])) ∧ (d40.1 = false ∧ True ∧ (([] : List SV) = [])) ∧ (d40.2.1 = [] ∧ (List.isEmpty d40.2.1) = true) ∧ True)) ∧
 LoopP (fun (d4 : Bool × (List Int) × Int) (q4 : (Bool × (List Int) × Int) → Prop) =>
  ((decide (d4.2.2 < (lI lw))) = true →
   (0 ≤ d4.2.2 ∧ d4.2.2 < lw.length ∧ 0 ≤ row ∧ row < 9223372036854775808 ∧ ∀ x ∈ lw,0 ≤ x ∧ x ≤ 60) ∧ (True) ∧ ∀ w5 : List Value,∀ w6 : List Value,((!d4.1) = true →
    w6 = w6 ∧ (((List.length d4.2.1) + (List.length [(markI (row.toNat.testBit (lw.getD d4.2.2.toNat 0).toNat))])) * 1 ≤ 70368744177664) ∧ w5 = w5 ∧ (I64 (d4.2.2 + (1 : Int))) ∧ (∃ d7 : Bool × (List Int) × Int,((row = row ∧ True ∧ True ∧ (lI lw) = (lI lw) ∧ (d4.2.2 + (1 : Int)) = d7.2.2 ∧ True) ∧ ((hk = hk ∧ lw = lw ∧ (([] : List SV) = [])) ∧ (d7.1 = true ∧ True ∧ (([] : List SV) = [])) ∧ ((d4.2.1 ++ [(markI (row.toNat.testBit (lw.getD d4.2.2.toNat 0).toNat))]) = d7.2.1 ∧ false = (List.isEmpty d7.2.1)) ∧ True)) ∧ q4 d7)) ∧
   ((!d4.1) = false →
    (d4.1 = true) ∧ ((!true) = true →
     False) ∧
    ((!true) = false →
     w6 = w6 ∧ (((List.length d4.2.1) + (List.length [(markI (row.toNat.testBit (lw.getD d4.2.2.toNat 0).toNat))])) * 1 ≤ 70368744177664) ∧ w5 = w5 ∧ (I64 (d4.2.2 + (1 : Int))) ∧ (∃ d8 : Bool × (List Int) × Int,((row = row ∧ True ∧ True ∧ (lI lw) = (lI lw) ∧ (d4.2.2 + (1 : Int)) = d8.2.2 ∧ True) ∧ ((hk = hk ∧ lw = lw ∧ (([] : List SV) = [])) ∧ (d4.1 = d8.1 ∧ True ∧ (([] : List SV) = [])) ∧ ((d4.2.1 ++ [(markI (row.toNat.testBit (lw.getD d4.2.2.toNat 0).toNat))]) = d8.2.1 ∧ false = (List.isEmpty d8.2.1)) ∧ True)) ∧ q4 d8)))) ∧
  ((decide (d4.2.2 < (lI lw))) = false →
   ∀ w9 : List Value,((List.isEmpty d4.2.1) = false → d4.2.1 ≠ []) ∧ ((lI d4.2.1) = (List.length d4.2.1)) ∧ ((List.length d4.2.1) ≤ 4611686018427387904) ∧ w9 = w9 ∧ ((bytesI d4.2.1) = (pickS lw row) ∧ (True)))) d40
def cx_tie_harness_pick : Cx:=⟨[(5,(.i .u8))],[(108,s_tie_harness_lifted),(107,s_tie_mark)],22,[],0,[(106,x_strings_Builder_WriteByte),(135,x_strings_Builder_copyCheck),(152,sameX),(109,x_strings_Builder_String)],[],[],[],false,[],[],[]⟩
def lp_tie_harness_pick (hk : Int) (lw : List Int) (row : Int) : List (Nat × LoopAnn):=[(0,⟨Unit,Bool × (List Int) × Int,[1,2,5,10,11],fun e x=>[.val (.i .i64) row,.box 2 0,.box 5 0,.val (.i .i64) (((List.length lw) : Nat) : Int),.val (.i .i64) x.2.2],fun e x=>[(2,.slot 2,.cells [.val (.i .i64) hk,.val (.list (.i .i64)) lw] (some 120)),(5,.slot 5,.cells [.dd 5 (.obx x.1),.lst 2000014] (some 175)),(2000014,.cell 5 1,.lst 5 (.i .u8) x.2.1 (List.isEmpty x.2.1))]⟩)]
set_option maxRecDepth 100000 in
theorem vq_tie_harness_pick (d : (Int × List Int) × Int) : gwp (cx_tie_harness_pick) (lp_tie_harness_pick d.1.1 d.1.2 d.2) c72 0 (gend [.tmp 4] (res_tie_harness_pick d) (obs_tie_harness_pick d)) (gstart 22 (AL.can al_tie_harness_pick d)) = vc_tie_harness_pick d.1.1 d.1.2 d.2:=by kernel_rfl
abbrev Ok_tie_harness_pick : Prop:=OkC Tryz.prog 72 s_tie_harness_pick
theorem mk_tie_harness_pick (h : ∀ (hk : Int) (lw : List Int) (row : Int),(lw.length ≤ 110 ∧ 0 ≤ row ∧ row < 9223372036854775808 ∧ ∀ x ∈ lw,0 ≤ x ∧ x ≤ 60) → vc_tie_harness_pick hk lw row) : OkC Tryz.prog 72 s_tie_harness_pick :=
 okC_vc fun72 mixed (C:=cx_tie_harness_pick) (V:=fun (d : (Int × List Int) × Int)=>vc_tie_harness_pick d.1.1 d.1.2 d.2) ⟨(.cons ok_tie_harness_lifted (.cons ok_tie_mark .nil)),(XsOk.cons okx_strings_Builder_WriteByte (XsOk.cons okx_strings_Builder_copyCheck (XsOk.cons (sameX_ok same152) (XsOk.cons okx_strings_Builder_String XsOk.nil)))),ItsOk.nil,YlOk.nil,IysOk.nil⟩ (vq_tie_harness_pick) fun d hp=>h d.1.1 d.1.2 d.2 hp
theorem bytes_mark (lw : List Int) (row : Int) : bytesI (lw.map fun k=>markI (row.toNat.testBit k.toNat)) = pickS lw row:=by
 simp only [bytesI,pickS,List.map_map]
 refine List.map_congr_left fun k _=>?_
 simp only [Function.comp,markI]
 split <;> rfl
theorem ok_tie_harness_pick : Ok_tie_harness_pick:=mk_tie_harness_pick fun hk lw row h=>by
 obtain ⟨h1,h2,h3,h4⟩:=h
 unfold vc_tie_harness_pick; (try delta lI gD sT I64); simp only [true_and,and_true,exists_const,decide_eq_true_eq,decide_eq_false_iff_not,ne_eq,Bool.not_eq_true',Bool.not_eq_false',InK_i64]
 refine ⟨(false,[],0),⟨rfl,rfl,rfl,rfl⟩,?_⟩
 refine ⟨fun d=>∃ i : Nat,i ≤ lw.length ∧ d.2.2 = i ∧ d.2.1 = (lw.take i).map fun k=>markI (row.toNat.testBit k.toNat),fun d=>lw.length - d.2.2.toNat,⟨0,Nat.zero_le _,rfl,by simp⟩,?_⟩
 rintro ⟨c,xs,_⟩ ⟨i,hi,rfl,hxs⟩
 dsimp only at hxs ⊢
 have hxl : xs.length = i:=by rw [hxs]; simp; omega
 refine ⟨fun hlt=>?_,fun hge=>?_⟩
 ·have hlt : i < lw.length:=by omega
  have hn : xs ++ [markI (row.toNat.testBit lw[i].toNat)] = (lw.take (i + 1)).map fun k=>markI (row.toNat.testBit k.toNat):=by rw [hxs,take_succ_eq hlt,List.map_append]; rfl
  simp only [Int.toNat_natCast,getD_nat hlt,List.length_singleton]
  refine ⟨⟨by omega,by omega,h2,h3,h4⟩,fun _ w6=>⟨fun hc=>?_,fun hc=>?_⟩⟩
  ·exact ⟨by omega,by omega,(true,xs ++ [markI (row.toNat.testBit lw[i].toNat)],(i : Int) + 1),⟨rfl,rfl,rfl,by simp⟩,⟨i + 1,by omega,by simp,hn⟩,by dsimp only; omega⟩
  ·refine ⟨by simpa using hc,?_⟩
   refine ⟨fun h=>by simp at h,fun _=>?_⟩
   exact ⟨by omega,by omega,(c,xs ++ [markI (row.toNat.testBit lw[i].toNat)],(i : Int) + 1),⟨rfl,rfl,rfl,by simp⟩,⟨i + 1,by omega,by simp,hn⟩,by dsimp only; omega⟩
 ·have : i = lw.length:=by omega
  subst this
  rw [List.take_length] at hxs
  refine fun _=>⟨?_,by omega,?_⟩
  ·intro hne h0; rw [h0] at hne; simp at hne
  ·rw [hxs]; exact bytes_mark lw row
end Go.Proofs.Tryz
set_option linter.unusedVariables false
namespace Go.Proofs.Tryz
open Go Go.V Go.Proofs
def al_tie_Weave : AL ((Int × List Int) × Int × List Int):=(.cons (.agg (.cons (.k (.i .i64)) (.one (.k (.list (.i .i64)))))) (.one (.agg (.cons (.k (.i .i64)) (.one (.k (.list (.i .i64))))))))
def pre_tie_Weave (d : (Int × List Int) × Int × List Int) : Prop:=d.1.2.length ≤ 110 ∧ d.2.2.length ≤ 110
def res_tie_Weave (d : (Int × List Int) × Int × List Int) : SV:=.tup [.lst 0,.val (.i .i64) (weaveErr d.1.1 d.1.2 d.2.1 d.2.2)]
def obs_tie_Weave (d : (Int × List Int) × Int × List Int) : List OB:=[.lst 9 .st (weaveC d.1.1 d.1.2 d.2.1 d.2.2) ((weaveC d.1.1 d.1.2 d.2.1 d.2.2).isEmpty)]
def s_tie_Weave : CSp:=mkSp al_tie_Weave pre_tie_Weave res_tie_Weave obs_tie_Weave
def vc_tie_Weave (hk : Int) (lw : List Int) (hd : Int) (rows : List Int) : Prop :=
 (lw.length ≤ 1000000) ∧ (((tieErr hk lw) != (0 : Int)) = true →
  ((True ∧ (tieErr hk lw) = weaveErr hk lw hd rows ∧ (([] : List SV) = [])) ∧ (((weaveC hk lw hd rows) = [] ∧ (weaveC hk lw hd rows).isEmpty = true) ∧ True))) ∧
 (((tieErr hk lw) != (0 : Int)) = false →
  (rows.length ≤ 1000000) ∧ (((pointErr hd rows) != (0 : Int)) = true →
   ((True ∧ (pointErr hd rows) = weaveErr hk lw hd rows ∧ (([] : List SV) = [])) ∧ (((weaveC hk lw hd rows) = [] ∧ (weaveC hk lw hd rows).isEmpty = true) ∧ True))) ∧
  (((pointErr hd rows) != (0 : Int)) = false →
   ((hd != hk) = true →
    ((True ∧ (4 : Int) = weaveErr hk lw hd rows ∧ (([] : List SV) = [])) ∧ (((weaveC hk lw hd rows) = [] ∧ (weaveC hk lw hd rows).isEmpty = true) ∧ True))) ∧
   ((hd != hk) = false →
    ∃ (e4 : Unit) (d40 : (List (List UInt8)) × Int),((True ∧ True ∧ rows = rows ∧ (lI rows) = (lI rows) ∧ (0 : Int) = d40.2 ∧ True) ∧ ((hk = hk ∧ lw = lw ∧ (([] : List SV) = [])) ∧ (d40.1 = [] ∧ (List.isEmpty d40.1) = true) ∧ True)) ∧
    LoopP (fun (d4 : (List (List UInt8)) × Int) (q4 : ((List (List UInt8)) × Int) → Prop) =>
     ((decide (d4.2 < (lI rows))) = true →
      (0 ≤ d4.2) ∧ (d4.2 < (List.length rows)) ∧ (lw.length ≤ 110 ∧ 0 ≤ (gD rows d4.2 0) ∧ (gD rows d4.2 0) < 9223372036854775808 ∧ ∀ x ∈ lw,0 ≤ x ∧ x ≤ 60) ∧ (((List.length d4.1) + (List.length [(pickS lw (gD rows d4.2 0))])) * 16 ≤ 70368744177664) ∧ (I64 (d4.2 + (1 : Int))) ∧ (∃ d5 : (List (List UInt8)) × Int,((True ∧ True ∧ rows = rows ∧ (lI rows) = (lI rows) ∧ (d4.2 + (1 : Int)) = d5.2 ∧ True) ∧ ((hk = hk ∧ lw = lw ∧ (([] : List SV) = [])) ∧ ((d4.1 ++ [(pickS lw (gD rows d4.2 0))]) = d5.1 ∧ false = (List.isEmpty d5.1)) ∧ True)) ∧ q4 d5)) ∧
     ((decide (d4.2 < (lI rows))) = false →
      ((True ∧ (0 : Int) = weaveErr hk lw hd rows ∧ (([] : List SV) = [])) ∧ ((d4.1 = (weaveC hk lw hd rows) ∧ (List.isEmpty d4.1) = (weaveC hk lw hd rows).isEmpty) ∧ True)))) d40)))
def cx_tie_Weave : Cx:=⟨[(9,.st)],[(58,s_tie_Check),(71,s_point_Check),(72,s_tie_harness_pick)],43,[],0,[],[],[],[],false,[],[],[]⟩
def lp_tie_Weave (hk : Int) (lw : List Int) (hd : Int) (rows : List Int) : List (Nat × LoopAnn):=[(1,⟨Unit,(List (List UInt8)) × Int,[2,4,28,29,30],fun e x=>[.box 2 0,.lst 40,.val (.list (.i .i64)) rows,.val (.i .i64) (((List.length rows) : Nat) : Int),.val (.i .i64) x.2],fun e x=>[(2,.slot 2,.cells [.val (.i .i64) hk,.val (.list (.i .i64)) lw] (some 26)),(40,.slot 4,.lst 9 .st x.1 (List.isEmpty x.1))]⟩)]
set_option maxRecDepth 100000 in
theorem vq_tie_Weave (d : (Int × List Int) × Int × List Int) : gwp (cx_tie_Weave) (lp_tie_Weave d.1.1 d.1.2 d.2.1 d.2.2) c21 0 (gend [.tmp 4,.tmp 5] (res_tie_Weave d) (obs_tie_Weave d)) (gstart 43 (AL.can al_tie_Weave d)) = vc_tie_Weave d.1.1 d.1.2 d.2.1 d.2.2:=by kernel_rfl
abbrev Ok_tie_Weave : Prop:=OkC Tryz.prog 21 s_tie_Weave
theorem mk_tie_Weave (h : ∀ (hk : Int) (lw : List Int) (hd : Int) (rows : List Int),(lw.length ≤ 110 ∧ rows.length ≤ 110) → vc_tie_Weave hk lw hd rows) : OkC Tryz.prog 21 s_tie_Weave :=
 okC_vc fun21 mixed (C:=cx_tie_Weave) (V:=fun (d : (Int × List Int) × Int × List Int)=>vc_tie_Weave d.1.1 d.1.2 d.2.1 d.2.2) ⟨(.cons ok_tie_Check (.cons ok_point_Check (.cons ok_tie_harness_pick .nil))),XsOk.nil,ItsOk.nil,YlOk.nil,IysOk.nil⟩ (vq_tie_Weave) fun d hp=>h d.1.1 d.1.2 d.2.1 d.2.2 hp
theorem pointErr_zero {hd : Int} {rows : List Int} (h : pointErr hd rows = 0) : 1 ≤ hd ∧ hd ≤ 24 ∧ rows.length ≤ 60 ∧ rows.length ≠ 0 ∧ ∀ x ∈ rows,0 ≤ x ∧ x < 2 ^ hd.toNat:=by
 unfold pointErr at h
 split at h
 ·cases h
 ·rename_i h1
  split at h
  ·cases h
  ·rename_i h2
   split at h
   ·cases h
   ·rename_i h3
    split at h
    ·cases h
    ·rename_i h4
     have h1 : 1 ≤ hd ∧ hd ≤ 24:=by simpa [inI] using h1
     refine ⟨h1.1,h1.2,by omega,h3,fun x hx=>?_⟩
     have h5 : ∀ x ∈ rows,inI x 0 (2 ^ hd.toNat - 1) = true:=by simpa using h4
     have:=h5 x hx
     simp only [inI,Bool.and_eq_true,decide_eq_true_eq] at this
     omega
theorem ok_tie_Weave : Ok_tie_Weave:=mk_tie_Weave fun hk lw hd rows h=>by
 obtain ⟨h1,h2⟩:=h
 unfold vc_tie_Weave; (try delta lI gD sT I64); simp only [true_and,and_true,exists_const,decide_eq_true_eq,decide_eq_false_iff_not,bne_iff_ne,ne_eq,bne_eq_false_iff_eq,InK_i64]
 refine ⟨by omega,fun he=>?_,fun he=>⟨by omega,fun hp=>?_,fun hp=>⟨fun hh=>?_,fun hh=>?_⟩⟩⟩
 ·have e : weaveErr hk lw hd rows = tieErr hk lw:=by simp [weaveErr,he]
  have e2 : weaveC hk lw hd rows = []:=by simp [weaveC,e,he]
  rw [e,e2]; exact ⟨rfl,rfl,rfl⟩
 ·have e : weaveErr hk lw hd rows = pointErr hd rows:=by simp [weaveErr,he,hp]
  have e2 : weaveC hk lw hd rows = []:=by simp [weaveC,e,hp]
  rw [e,e2]; exact ⟨rfl,rfl,rfl⟩
 ·have e : weaveErr hk lw hd rows = 4:=by simp [weaveErr,he,hp,hh]
  have e2 : weaveC hk lw hd rows = []:=by simp [weaveC,e]
  rw [e,e2]; exact ⟨rfl,rfl,rfl⟩
 have e : weaveErr hk lw hd rows = 0:=by unfold weaveErr; rw [if_neg (by omega),if_neg (by omega),if_neg (by omega)]
 have e2 : weaveC hk lw hd rows = rows.map (pickS lw):=by simp [weaveC,e]
 obtain ⟨t1,t2,t3,t4,t5⟩:=tieErr_zero he
 obtain ⟨p1,p2,p3,p4,p5⟩:=pointErr_zero hp
 have hpw:=pow_bound p1 p2
 rw [e,e2]
 refine ⟨([],0),⟨rfl,rfl,rfl⟩,?_⟩
 refine LoopP.count2 rows.length (fun k xs=>xs = (rows.take k).map (pickS lw)) (by simp) fun k xs hk hJ q hq=>?_
 have hxl : xs.length = k:=by rw [hJ]; simp; omega
 dsimp only
 refine ⟨fun hlt=>?_,fun hge=>?_⟩
 ·have hlt : k < rows.length:=by omega
  have hr:=p5 _ (List.getElem_mem hlt)
  simp only [Int.toNat_natCast,getD_nat hlt,List.length_singleton]
  refine ⟨by omega,by omega,⟨h1,hr.1,by omega,fun x hx=>by have:=t5 x hx; omega⟩,by omega,by omega,(xs ++ [pickS lw rows[k]],(k : Int) + 1),⟨rfl,rfl,by simp⟩,hq _ hlt ?_⟩
  rw [take_succ_eq hlt,List.map_append,← hJ]; rfl
 ·have : k = rows.length:=by omega
  subst this
  rw [List.take_length] at hJ
  rw [hJ]
  exact ⟨rfl,rfl,rfl⟩
def al_ref01_In : AL (Int × Int × Int):=(.cons (.k (.i .i64)) (.cons (.k (.i .i64)) (.one (.k (.i .i64)))))
def pre_ref01_In (d : Int × Int × Int) : Prop:=True
def res_ref01_In (d : Int × Int × Int) : SV:=.val .bo (inI d.1 d.2.1 d.2.2)
def obs_ref01_In (d : Int × Int × Int) : List OB:=[]
def s_ref01_In : CSp:=mkSp al_ref01_In pre_ref01_In res_ref01_In obs_ref01_In
def vc_ref01_In (n : Int) (a : Int) (b : Int) : Prop :=
 (((decide (n ≥ a)) && (decide (n ≤ b))) = (inI n a b) ∧ (True))
def cx_ref01_In : Cx:=⟨[],[],15,[],0,[],[],[],[],false,[],[],[]⟩
def lp_ref01_In (n : Int) (a : Int) (b : Int) : List (Nat × LoopAnn):=[]
set_option maxRecDepth 100000 in
theorem vq_ref01_In (d : Int × Int × Int) : gwp (cx_ref01_In) (lp_ref01_In d.1 d.2.1 d.2.2) c111 0 (gend [.tmp 6] (res_ref01_In d) (obs_ref01_In d)) (gstart 15 (AL.can al_ref01_In d)) = vc_ref01_In d.1 d.2.1 d.2.2:=by kernel_rfl
abbrev Ok_ref01_In : Prop:=OkC Tryz.prog 111 s_ref01_In
theorem mk_ref01_In (h : ∀ (n : Int) (a : Int) (b : Int),(True) → vc_ref01_In n a b) : OkC Tryz.prog 111 s_ref01_In :=
 okC_vc fun111 mixed (C:=cx_ref01_In) (V:=fun (d : Int × Int × Int)=>vc_ref01_In d.1 d.2.1 d.2.2) ⟨.nil,XsOk.nil,ItsOk.nil,YlOk.nil,IysOk.nil⟩ (vq_ref01_In) fun d hp=>h d.1 d.2.1 d.2.2 hp
theorem ok_ref01_In : Ok_ref01_In:=mk_ref01_In fun n a b _=>by
 simp [vc_ref01_In,inI]
def al_ref01_Check : AL (Int × List Int):=(.one (.agg (.cons (.k (.i .i64)) (.one (.k (.list (.i .i64)))))))
def pre_ref01_Check (d : Int × List Int) : Prop:=True
def res_ref01_Check (d : Int × List Int) : SV:=.val (.i .i64) (pointErr d.1 d.2)
def obs_ref01_Check (d : Int × List Int) : List OB:=[]
def s_ref01_Check : CSp:=mkSp al_ref01_Check pre_ref01_Check res_ref01_Check obs_ref01_Check
def vc_ref01_Check (hd : Int) (rows : List Int) : Prop :=
 (True) ∧ ((!(inI hd (1 : Int) (24 : Int))) = true →
  ((2 : Int) = (pointErr hd rows) ∧ (True))) ∧
 ((!(inI hd (1 : Int) (24 : Int))) = false →
  ((decide ((lI rows) > (60 : Int))) = true →
   ((5 : Int) = (pointErr hd rows) ∧ (True))) ∧
  ((decide ((lI rows) > (60 : Int))) = false →
   (((lI rows) == (0 : Int)) = true →
    ((7 : Int) = (pointErr hd rows) ∧ (True))) ∧
   (((lI rows) == (0 : Int)) = false →
    ∃ (e3 : Unit) (d30 : Int),((True ∧ (0 : Int) = d30 ∧ True) ∧ ((hd = hd ∧ rows = rows ∧ (([] : List SV) = [])) ∧ True)) ∧
    LoopP (fun (d3 : Int) (q3 : (Int) → Prop) =>
     ((decide (d3 < (lI rows))) = true →
      (0 ≤ d3) ∧ (d3 < (List.length rows)) ∧ (InK .u64 hd) ∧ (0 ≤ hd) ∧ (I64 (shlI .i64 (1 : Int) hd)) ∧ (I64 ((shlI .i64 (1 : Int) hd) - (1 : Int))) ∧ (True) ∧ ((!(inI (gD rows d3 0) (0 : Int) ((shlI .i64 (1 : Int) hd) - (1 : Int)))) = true →
       ((2 : Int) = (pointErr hd rows) ∧ (True))) ∧
      ((!(inI (gD rows d3 0) (0 : Int) ((shlI .i64 (1 : Int) hd) - (1 : Int)))) = false →
       (I64 (d3 + (1 : Int))) ∧ (∃ d4 : Int,((True ∧ (d3 + (1 : Int)) = d4 ∧ True) ∧ ((hd = hd ∧ rows = rows ∧ (([] : List SV) = [])) ∧ True)) ∧ q3 d4))) ∧
     ((decide (d3 < (lI rows))) = false →
      ((0 : Int) = (pointErr hd rows) ∧ (True)))) d30)))
def cx_ref01_Check : Cx:=⟨[],[(111,s_ref01_In)],35,[],0,[],[],[],[],false,[],[],[]⟩
def lp_ref01_Check (hd : Int) (rows : List Int) : List (Nat × LoopAnn):=[(0,⟨Unit,Int,[1,3],fun e x=>[.box 1 0,.val (.i .i64) x],fun e x=>[(1,.slot 1,.cells [.val (.i .i64) hd,.val (.list (.i .i64)) rows] (some 36))]⟩)]
set_option maxRecDepth 100000 in
theorem vq_ref01_Check (d : Int × List Int) : gwp (cx_ref01_Check) (lp_ref01_Check d.1 d.2) c75 0 (gend [.tmp 2] (res_ref01_Check d) (obs_ref01_Check d)) (gstart 35 (AL.can al_ref01_Check d)) = vc_ref01_Check d.1 d.2:=by kernel_rfl
abbrev Ok_ref01_Check : Prop:=OkC Tryz.prog 75 s_ref01_Check
theorem mk_ref01_Check (h : ∀ (hd : Int) (rows : List Int),(True) → vc_ref01_Check hd rows) : OkC Tryz.prog 75 s_ref01_Check :=
 okC_vc fun75 mixed (C:=cx_ref01_Check) (V:=fun (d : Int × List Int)=>vc_ref01_Check d.1 d.2) ⟨(.cons ok_ref01_In .nil),XsOk.nil,ItsOk.nil,YlOk.nil,IysOk.nil⟩ (vq_ref01_Check) fun d hp=>h d.1 d.2 hp
theorem ok_ref01_Check : Ok_ref01_Check:=mk_ref01_Check fun hd rows _=>by
 unfold vc_ref01_Check; (try delta lI gD sT I64); simp only [true_and,and_true,exists_eq_left',exists_const,decide_eq_true_eq,decide_eq_false_iff_not,beq_iff_eq,ne_eq,beq_eq_false_iff_ne,Bool.not_eq_true',Bool.not_eq_false',gt_iff_lt]
 refine ⟨fun h1=>by simp [pointErr,h1],fun h1=>⟨fun h2=>?_,fun h2=>⟨fun h3=>?_,fun h3=>?_⟩⟩⟩
 ·have : 60 < rows.length:=by omega
  simp [pointErr,h1,this]
 ·have h3 : rows.length = 0:=by omega
  simp [pointErr,h1,h3]
 have h2' : ¬ 60 < rows.length:=by omega
 have h3' : ¬ rows.length = 0:=by omega
 have hi : 1 ≤ hd ∧ hd ≤ 24:=by simpa [inI] using h1
 have hpw:=pow_bound hi.1 hi.2
 have hs:=shl_one (h:=hd) (by omega) (by omega)
 have hte : pointErr hd rows = if rows.any (fun x=>!inI x 0 (2 ^ hd.toNat - 1)) then 2 else 0:=by simp only [pointErr,h1,h2',h3']; simp
 refine LoopP.count rows.length (fun k=>(rows.take k).any (fun x=>!inI x 0 (2 ^ hd.toNat - 1)) = false) (by simp) fun k hk1 hJ q hq=>?_
 simp only [Int.toNat_natCast,Int.ofNat_lt,InK_i64,InK_u64,hs]
 refine ⟨fun hlt=>?_,fun hge=>?_⟩
 ·have hlt : k < rows.length:=by omega
  simp only [getD_nat hlt]
  refine ⟨by omega,by omega,by omega,by omega,by omega,by omega,fun hx=>?_,fun hx=>⟨by omega,hq hlt ?_⟩⟩
  ·rw [hte,if_pos (List.any_eq_true.2 ⟨rows[k],List.getElem_mem hlt,by simp [hx]⟩)]
  ·rw [take_succ_eq hlt,List.any_append,hJ]; simp [hx]
 ·rw [List.take_of_length_le (by omega)] at hJ
  rw [hte,hJ]; rfl
def al_ref01_Points : AL (Int × Int):=(.cons (.k (.i .i64)) (.one (.k (.i .i64))))
def pre_ref01_Points (d : Int × Int) : Prop:=0 ≤ d.1 ∧ d.1 < 9223372036854775808 ∧ 0 ≤ d.2 ∧ d.2 ≤ 64
def res_ref01_Points (d : Int × Int) : SV:=.lst 0
def obs_ref01_Points (d : Int × Int) : List OB:=[.lst 4 .bo (ptsL d.1 d.2.toNat) false]
def s_ref01_Points : CSp:=mkSp al_ref01_Points pre_ref01_Points res_ref01_Points obs_ref01_Points
def vc_ref01_Points (r : Int) (h : Int) : Prop :=
 ∃ (e2 : Unit) (d20 : Int × (List Bool) × Int),((r = d20.1 ∧ h = h ∧ True ∧ (0 : Int) = d20.2.2 ∧ True) ∧ ((([] : List Bool) = d20.2.1 ∧ false = false) ∧ True)) ∧
 LoopP (fun (d2 : Int × (List Bool) × Int) (q2 : (Int × (List Bool) × Int) → Prop) =>
  ((decide (d2.2.2 < h)) = true →
   ((2 : Int) ≠ 0) ∧ (((List.length d2.2.1) + (List.length [((Int.tmod d2.1 (2 : Int)) == (1 : Int))])) * 1 ≤ 70368744177664) ∧ ((2 : Int) ≠ 0) ∧ (I64 (Int.tdiv d2.1 (2 : Int))) ∧ (I64 (d2.2.2 + (1 : Int))) ∧ (∃ d3 : Int × (List Bool) × Int,(((Int.tdiv d2.1 (2 : Int)) = d3.1 ∧ h = h ∧ True ∧ (d2.2.2 + (1 : Int)) = d3.2.2 ∧ True) ∧ (((d2.2.1 ++ [((Int.tmod d2.1 (2 : Int)) == (1 : Int))]) = d3.2.1 ∧ false = false) ∧ True)) ∧ q2 d3)) ∧
  ((decide (d2.2.2 < h)) = false →
   (True ∧ ((d2.2.1 = (ptsL r h.toNat) ∧ false = false) ∧ True)))) d20
def cx_ref01_Points : Cx:=⟨[(4,.bo)],[],22,[],0,[],[],[],[],false,[],[],[]⟩
def lp_ref01_Points (r : Int) (h : Int) : List (Nat × LoopAnn):=[(0,⟨Unit,Int × (List Bool) × Int,[0,1,5,6],fun e x=>[.val (.i .i64) x.1,.val (.i .i64) h,.lst 7,.val (.i .i64) x.2.2],fun e x=>[(7,.slot 5,.lst 4 .bo x.2.1 false)]⟩)]
set_option maxRecDepth 100000 in
theorem vq_ref01_Points (d : Int × Int) : gwp (cx_ref01_Points) (lp_ref01_Points d.1 d.2) c90 0 (gend [.tmp 4] (res_ref01_Points d) (obs_ref01_Points d)) (gstart 22 (AL.can al_ref01_Points d)) = vc_ref01_Points d.1 d.2:=by kernel_rfl
abbrev Ok_ref01_Points : Prop:=OkC Tryz.prog 90 s_ref01_Points
theorem mk_ref01_Points (h : ∀ (r : Int) (h : Int),(0 ≤ r ∧ r < 9223372036854775808 ∧ 0 ≤ h ∧ h ≤ 64) → vc_ref01_Points r h) : OkC Tryz.prog 90 s_ref01_Points :=
 okC_vc fun90 mixed (C:=cx_ref01_Points) (V:=fun (d : Int × Int)=>vc_ref01_Points d.1 d.2) ⟨.nil,XsOk.nil,ItsOk.nil,YlOk.nil,IysOk.nil⟩ (vq_ref01_Points) fun d hp=>h d.1 d.2 hp
theorem ok_ref01_Points : Ok_ref01_Points:=mk_ref01_Points fun r h hp=>by
 obtain ⟨h1,h0,h2,h3⟩:=hp
 obtain ⟨n,rfl⟩:=Int.eq_ofNat_of_zero_le h1
 obtain ⟨m,rfl⟩:=Int.eq_ofNat_of_zero_le h2
 unfold vc_ref01_Points; (try delta lI gD sT I64); simp only [true_and,and_true,exists_const,decide_eq_true_eq,decide_eq_false_iff_not,ne_eq,Int.toNat_natCast,InK_i64]
 refine ⟨((n : Int),[],0),(by and_intros <;> first | rfl | trivial | simp),?_⟩
 refine ⟨fun d=>∃ k : Nat,k ≤ m ∧ d.2.2 = k ∧ d.1 = ((n / 2 ^ k : Nat) : Int) ∧ d.2.1 = ptsL n k,fun d=>m - d.2.2.toNat,⟨0,Nat.zero_le _,rfl,by simp,rfl⟩,?_⟩
 rintro ⟨a,xs,c⟩ ⟨k,hk,hc,ha,hx⟩
 dsimp only at hc ha hx ⊢
 subst hc ha hx
 have hq : n / 2 ^ k ≤ n:=Nat.div_le_self _ _
 have e1 : n / 2 ^ (k + 1) = n / 2 ^ k / 2:=by rw [Nat.pow_succ,Nat.div_div_eq_div_mul]
 have e2 : n.testBit k = (((n / 2 ^ k % 2 : Nat) : Int) == 1):=by
  rw [Nat.testBit_eq_decide_div_mod_eq]
  by_cases hb : n / 2 ^ k % 2 = 1
  ·simp [hb]
  ·have : n / 2 ^ k % 2 = 0:=by omega
   simp [this]
 simp only [tdiv_two,tmod_two,ptsL_len,List.length_singleton]
 generalize n / 2 ^ k = y at hq e1 e2 ⊢
 refine ⟨fun hlt=>?_,fun hge=>?_⟩
 ·refine ⟨by omega,by omega,by omega,by omega,by omega,(((y / 2 : Nat) : Int),ptsL n k ++ [((y % 2 : Nat) : Int) == 1],(k : Int) + 1),(by and_intros <;> first | rfl | trivial | simp),⟨k + 1,by omega,rfl,by rw [e1],by rw [ptsL_succ,Int.toNat_natCast,e2]⟩,by dsimp only; omega⟩
 ·have : k = m:=by omega
  subst this
  exact (by and_intros <;> first | rfl | trivial | simp)
def al_ref01_Table : AL (Int × List Int):=(.one (.agg (.cons (.k (.i .i64)) (.one (.k (.list (.i .i64)))))))
def pre_ref01_Table (d : Int × List Int) : Prop:=d.2.length ≤ 1000 ∧ (∀ x ∈ d.2,0 ≤ x ∧ x < 9223372036854775808) ∧ 0 ≤ d.1 ∧ d.1 ≤ 64
def res_ref01_Table (d : Int × List Int) : SV:=.dd 0 .out
def obs_ref01_Table (d : Int × List Int) : List OB:=[.deep 126 (some 4) (.list .bo) (d.2.map fun r=>ptsL r d.1.toNat) false none]
def s_ref01_Table : CSp:=mkSp al_ref01_Table pre_ref01_Table res_ref01_Table obs_ref01_Table
def vc_ref01_Table (hd : Int) (rows : List Int) : Prop :=
 ∃ (e3 : Unit) (d30 : (List (List Bool)) × Int),((True ∧ True ∧ (0 : Int) = d30.2 ∧ True) ∧ ((hd = hd ∧ rows = rows ∧ (([] : List SV) = [])) ∧ (([] : List (List Bool)) = d30.1 ∧ false = false) ∧ True)) ∧
 LoopP (fun (d3 : (List (List Bool)) × Int) (q3 : ((List (List Bool)) × Int) → Prop) =>
  ((decide (d3.2 < (lI rows))) = true →
   (0 ≤ d3.2) ∧ (d3.2 < (List.length rows)) ∧ (0 ≤ (gD rows d3.2 0) ∧ (gD rows d3.2 0) < 9223372036854775808 ∧ 0 ≤ hd ∧ hd ≤ 64) ∧ (false = true → (ptsL (gD rows d3.2 0) hd.toNat) = []) ∧ (((List.length d3.1) + (List.length [(ptsL (gD rows d3.2 0) hd.toNat)])) * 24 ≤ 70368744177664) ∧ (I64 (d3.2 + (1 : Int))) ∧ (∃ d4 : (List (List Bool)) × Int,((True ∧ True ∧ (d3.2 + (1 : Int)) = d4.2 ∧ True) ∧ ((hd = hd ∧ rows = rows ∧ (([] : List SV) = [])) ∧ ((d3.1 ++ [(ptsL (gD rows d3.2 0) hd.toNat)]) = d4.1 ∧ false = false) ∧ True)) ∧ q3 d4)) ∧
  ((decide (d3.2 < (lI rows))) = false →
   (True ∧ ((d3.1 = (rows.map fun r=>ptsL r hd.toNat) ∧ false = false) ∧ True)))) d30
def cx_ref01_Table : Cx:=⟨[(126,(.list .bo))],[(90,s_ref01_Points)],25,[],0,[],[],[(126,4)],[],false,[],[],[]⟩
def lp_ref01_Table (hd : Int) (rows : List Int) : List (Nat × LoopAnn):=[(0,⟨Unit,(List (List Bool)) × Int,[1,3,4],fun e x=>[.box 1 0,.dd 5 .out,.val (.i .i64) x.2],fun e x=>[(1,.slot 1,.cells [.val (.i .i64) hd,.val (.list (.i .i64)) rows] (some 36)),(5,.slot 3,.deep 126 (some 4) (.list .bo) x.1 false none)]⟩)]
set_option maxRecDepth 100000 in
theorem vq_ref01_Table (d : Int × List Int) : gwp (cx_ref01_Table) (lp_ref01_Table d.1 d.2) c76 0 (gend [.tmp 2] (res_ref01_Table d) (obs_ref01_Table d)) (gstart 25 (AL.can al_ref01_Table d)) = vc_ref01_Table d.1 d.2:=by kernel_rfl
abbrev Ok_ref01_Table : Prop:=OkC Tryz.prog 76 s_ref01_Table
theorem mk_ref01_Table (h : ∀ (hd : Int) (rows : List Int),(rows.length ≤ 1000 ∧ (∀ x ∈ rows,0 ≤ x ∧ x < 9223372036854775808) ∧ 0 ≤ hd ∧ hd ≤ 64) → vc_ref01_Table hd rows) : OkC Tryz.prog 76 s_ref01_Table :=
 okC_vc fun76 mixed (C:=cx_ref01_Table) (V:=fun (d : Int × List Int)=>vc_ref01_Table d.1 d.2) ⟨(.cons ok_ref01_Points .nil),XsOk.nil,ItsOk.nil,YlOk.nil,IysOk.nil⟩ (vq_ref01_Table) fun d hp=>h d.1 d.2 hp
theorem ok_ref01_Table : Ok_ref01_Table:=mk_ref01_Table fun hd rows hp=>by
 obtain ⟨h1,h2,h3,h4⟩:=hp
 unfold vc_ref01_Table; (try delta lI gD sT I64); simp only [true_and,and_true,exists_const,decide_eq_true_eq,decide_eq_false_iff_not,InK_i64]
 refine ⟨([],0),(by and_intros <;> first | rfl | trivial | simp),?_⟩
 refine LoopP.count2 rows.length (fun k xs=>xs = (rows.take k).map fun r=>ptsL r hd.toNat) (by simp) fun k xs hk hJ q hq=>?_
 have hxl : xs.length = k:=by rw [hJ]; simp; omega
 dsimp only
 refine ⟨fun hlt=>?_,fun hge=>?_⟩
 ·have hlt : k < rows.length:=by omega
  have hx:=h2 _ (List.getElem_mem hlt)
  simp only [Int.toNat_natCast,getD_nat hlt,List.length_singleton]
  refine ⟨by omega,by omega,⟨hx.1,hx.2,h3,h4⟩,by simp,by omega,by omega,(xs ++ [ptsL rows[k] hd.toNat],(k : Int) + 1),(by and_intros <;> first | rfl | trivial | simp),hq _ hlt ?_⟩
  rw [take_succ_eq hlt,List.map_append,← hJ]; rfl
 ·have : k = rows.length:=by omega
  subst this
  rw [List.take_length] at hJ
  rw [hJ]
end Go.Proofs.Tryz
set_option linter.unusedVariables false
namespace Go.Proofs.Tryz
open Go Go.V Go.Proofs
def ptsX (s : List UInt8) : List Bool:=s.map fun b=>b == 120
def rndB (p : List Bool) (w : Nat) : Bool:=p.getD (w % p.length) false
def bgB (p : List Bool) (w : Nat) : Bool:=rndB p w != rndB p (w + p.length - 1)
def bB (s : List UInt8) (w : Nat) : Bool:=s.getD w 0 != s.getD ((w + s.length - 1) % s.length) 0
def flLen (p : List Bool) (w : Nat) : Nat:=if bgB p w then ((List.range (p.length + 1)).find? fun k=>decide (1 ≤ k) && (rndB p (w + k) != rndB p w)).getD 0 else if w = 0 ∧ ∀ j,j < p.length → rndB p j = rndB p 0 then 1000 else 0
def flAt (i bd : Int) (p : List Bool) (w : Nat) : Option (Int × Int × Int × Bool):=if 0 < flLen p w ∧ bd < flLen p w then some (i,(w : Int),(flLen p w : Int),p.getD w false) else none
def flRow (i bd : Int) (p : List Bool) (n : Nat) : List (Int × Int × Int × Bool):=(List.range n).filterMap (flAt i bd p)
def flAllN (bd : Int) (c : List (List UInt8)) (n : Nat) : List (Int × Int × Int × Bool):=((List.range n).map fun (i : Nat)=>flRow (i : Int) bd (ptsX (c.getD i [])) (c.getD i []).length).flatten
def flAll (bd : Int) (c : List (List UInt8)) : List (Int × Int × Int × Bool):=flAllN bd c c.length
def floErr (hk : Int) (lw : List Int) (hd : Int) (rows : List Int) (bd : Int) : Int:=if weaveErr hk lw hd rows ≠ 0 then weaveErr hk lw hd rows else if !inI bd 0 1000 then 3 else 0
def flC (hk : Int) (lw : List Int) (hd : Int) (rows : List Int) (bd : Int) : List (Int × Int × Int × Bool):=if floErr hk lw hd rows bd = 0 then flAll bd (weaveC hk lw hd rows) else []
theorem ptsX_length (s : List UInt8) : (ptsX s).length = s.length:=by simp [ptsX]
theorem rndB_lt {p : List Bool} {w : Nat} (h : w < p.length) : rndB p w = p.getD w false:=by rw [rndB,Nat.mod_eq_of_lt h]
theorem rndB_mod (p : List Bool) (w : Nat) : rndB p (w % p.length) = rndB p w:=by simp [rndB]
theorem rndB_add (p : List Bool) (w k : Nat) : rndB p (w % p.length + k) = rndB p (w + k):=by simp [rndB]
theorem bgB_mod {p : List Bool} (h : p ≠ []) (w : Nat) : bgB p (w % p.length) = bgB p w:=by
 have h0 : 0 < p.length:=List.length_pos_iff.2 h
 unfold bgB
 rw [rndB_mod,Nat.add_sub_assoc h0,Nat.add_sub_assoc h0,rndB_add]
theorem flRow_succ (i bd : Int) (p : List Bool) (n : Nat) : flRow i bd p (n + 1) = flRow i bd p n ++ (flAt i bd p n).toList:=by
 simp only [flRow,List.range_succ,List.filterMap_append]
 congr 1
theorem flAllN_succ (bd : Int) (c : List (List UInt8)) (n : Nat) : flAllN bd c (n + 1) = flAllN bd c n ++ flRow n bd (ptsX (c.getD n [])) (c.getD n []).length:=by
 simp only [flAllN,List.range_succ,List.map_append,List.flatten_append,List.map_cons,List.map_nil,List.flatten_cons,List.flatten_nil,List.append_nil]
theorem flRow_len (i bd : Int) (p : List Bool) (n : Nat) : (flRow i bd p n).length ≤ n:=by
 have:=List.length_filterMap_le (flAt i bd p) (List.range n)
 rwa [List.length_range] at this
theorem flAllN_len (bd : Int) (c : List (List UInt8)) (m : Nat) (h : ∀ s ∈ c,s.length ≤ m) : ∀ n,n ≤ c.length → (flAllN bd c n).length ≤ n * m
 | 0,_=>by simp [flAllN]
 | n + 1,hn=>by
  have h1:=flAllN_len bd c m h n (by omega)
  have h2:=flRow_len n bd (ptsX (c.getD n [])) (c.getD n []).length
  have h3 : (c.getD n []).length ≤ m:=by rw [getD_nat (by omega)]; exact h _ (List.getElem_mem _)
  rw [flAllN_succ,List.length_append,Nat.add_mul,Nat.one_mul]
  omega
theorem flLen_eq {p : List Bool} {w k : Nat} (hb : bgB p w = true) (hk : 1 ≤ k) (hn : k ≤ p.length) (hd : rndB p (w + k) ≠ rndB p w) (he : ∀ j,1 ≤ j → j < k → rndB p (w + j) = rndB p w) : flLen p w = k:=by
 unfold flLen
 rw [if_pos hb]
 have : (List.range (p.length + 1)).find? (fun k=>decide (1 ≤ k) && (rndB p (w + k) != rndB p w)) = some k:=by
  refine List.find?_range_eq_some.2 ⟨?_,by simp; omega,fun j hj=>?_⟩
  ·simp [hk,hd]
  ·rcases Nat.eq_zero_or_pos j with h0 | h0
   ·simp [h0]
   ·simp [he j h0 hj]
 rw [this]; rfl
theorem flLen_no {p : List Bool} {w : Nat} (hb : bgB p w = false) (h : w ≠ 0 ∨ ∃ j,j < p.length ∧ rndB p j ≠ rndB p 0) : flLen p w = 0:=by
 unfold flLen
 rw [if_neg (by simp [hb]),if_neg]
 rintro ⟨h1,h2⟩
 rcases h with h | ⟨j,h3,h4⟩
 ·exact h h1
 ·exact h4 (h2 j h3)
theorem flLen_all {p : List Bool} (h : ∀ j,j < p.length → rndB p j = rndB p 0) (h0 : p ≠ []) : flLen p 0 = 1000:=by
 unfold flLen
 have hl : 0 < p.length:=List.length_pos_iff.2 h0
 have : bgB p 0 = false:=by
  unfold bgB
  rw [← rndB_mod p (0 + p.length - 1),h _ (Nat.mod_lt _ hl)]
  simp
 rw [if_neg (by simp [this]),if_pos ⟨rfl,h⟩]
theorem rnd_same {p : List Bool} (h0 : p ≠ []) {w k : Nat} (h : ∀ j,1 ≤ j → j ≤ k → bgB p (w + j) = false) : ∀ j,j ≤ k → rndB p (w + j) = rndB p w
 | 0,_=>rfl
 | j + 1,hj=>by
  have h1:=rnd_same h0 h j (by omega)
  have h2:=h (j + 1) (by omega) hj
  have hl : 0 < p.length:=List.length_pos_iff.2 h0
  simp only [bgB,bne_eq_false_iff_eq] at h2
  rw [h2,← h1]
  unfold rndB
  congr 1
  rw [show w + (j + 1) + p.length - 1 = w + j + p.length by omega,Nat.add_mod_right]
theorem bB_bgB {s : List UInt8} {w : Nat} (hx : ∀ b ∈ s,b = 120 ∨ b = 46) (hw : w < s.length) : bB s w = bgB (ptsX s) w:=by
 have hm : (w + s.length - 1) % s.length < s.length:=Nat.mod_lt _ (by omega)
 unfold bB bgB rndB
 rw [ptsX_length,Nat.mod_eq_of_lt hw]
 have e : ∀ {i : Nat},i < s.length → (ptsX s).getD i false = (s.getD i 0 == 120):=fun {i} h=>by
  rw [getD_nat (by rw [ptsX_length]; exact h),getD_nat h]; simp [ptsX]
 rw [e hw,e hm,getD_nat hw,getD_nat hm]
 rcases hx _ (List.getElem_mem hw) with h1 | h1 <;> rcases hx _ (List.getElem_mem hm) with h2 | h2 <;> rw [h1,h2] <;> decide
theorem ptsX_getD {s : List UInt8} {i : Nat} (h : i < s.length) : (ptsX s).getD i false = (s.getD i 0 == 120):=by
 rw [getD_nat (by rw [ptsX_length]; exact h),getD_nat h]; simp [ptsX]
theorem pickS_x {lw : List Int} {row : Int} : ∀ b ∈ pickS lw row,b = 120 ∨ b = 46:=by
 intro b hb
 simp only [pickS,List.mem_map] at hb
 obtain ⟨k,_,rfl⟩:=hb
 split <;> simp
theorem flRow_skip {i bd : Int} {p : List Bool} {a : Nat} : ∀ {k : Nat},(∀ j,a ≤ j → j < a + k → flLen p j = 0) → flRow i bd p (a + k) = flRow i bd p a
 | 0,_=>rfl
 | k + 1,h=>by
  rw [← Nat.add_assoc,flRow_succ,flRow_skip fun j h1 h2=>h j h1 (by omega)]
  have:=h (a + k) (by omega) (by omega)
  simp [flAt,this]
theorem weaveErr_zero {hk : Int} {lw : List Int} {hd : Int} {rows : List Int} (h : weaveErr hk lw hd rows = 0) : tieErr hk lw = 0 ∧ pointErr hd rows = 0 ∧ hd = hk:=by
 unfold weaveErr at h
 split at h
 ·rename_i h1; exact absurd h h1
 rename_i h1
 split at h
 ·rename_i h2; exact absurd h h2
 rename_i h2
 split at h
 ·cases h
 rename_i h3
 exact ⟨by simpa using h1,by simpa using h2,by simpa using h3⟩
theorem u120 (x : UInt8) : (((x.toNat : Nat) : Int) == 120) = (x == 120):=by
 rw [Bool.eq_iff_iff,beq_iff_eq,beq_iff_eq]
 constructor
 ·intro h
  have h120 : (120 : UInt8).toNat = 120:=rfl
  exact UInt8.toNat_inj.1 (by omega)
 ·intro h; rw [h]; rfl
theorem not_all {p : List Bool} {f : Nat} (hf : f < p.length) (hb : bgB p f = true) : ∃ j,j < p.length ∧ rndB p j ≠ rndB p 0:=by
 by_cases h : rndB p f = rndB p 0
 ·refine ⟨(f + p.length - 1) % p.length,Nat.mod_lt _ (by omega),?_⟩
  rw [rndB_mod,← h]
  have : rndB p f ≠ rndB p (f + p.length - 1):=by simpa [bgB] using hb
  exact Ne.symm this
 ·exact ⟨f,hf,h⟩
theorem flRow_before {i bd : Int} {p : List Bool} {k : Nat} (hk : k < p.length) (hb : bgB p k = true) (h : ∀ j,j < k → bgB p j = false) : flRow i bd p k = []:=by
 have h1:=flRow_skip (i:=i) (bd:=bd) (p:=p) (a:=0) (k:=k) fun j _ hj=>flLen_no (h j (by omega)) (.inr (not_all hk hb))
 rw [Nat.zero_add] at h1
 rw [h1]; rfl
theorem flRow_none {i bd : Int} {p : List Bool} (h0 : p ≠ []) (h : ∀ j,j < p.length → bgB p j = false) : flRow i bd p p.length = if bd < 1000 then [(i,0,1000,p.getD 0 false)] else []:=by
 have hl : 0 < p.length:=List.length_pos_iff.2 h0
 have hs : ∀ j,j < p.length → rndB p j = rndB p 0:=fun j hj=>by
  have:=rnd_same (w:=0) (k:=p.length - 1) h0 (fun j _ h2=>by rw [Nat.zero_add]; exact h j (by omega)) j (by omega)
  rwa [Nat.zero_add] at this
 have h1:=flRow_skip (i:=i) (bd:=bd) (p:=p) (a:=1) (k:=p.length - 1) fun j h2 hj=>flLen_no (h j (by omega)) (.inl (by omega))
 rw [show 1 + (p.length - 1) = p.length by omega] at h1
 rw [h1,show (1 : Nat) = 0 + 1 from rfl,flRow_succ]
 have e : flRow i bd p 0 = []:=rfl
 rw [e,List.nil_append,flAt,flLen_all hs h0]
 by_cases hb : bd < 1000
 ·rw [if_pos hb,if_pos ⟨by omega,by simpa using hb⟩]; rfl
 ·rw [if_neg hb,if_neg fun h=>hb (by simpa using h.2)]; rfl
theorem flRow_next {i bd : Int} {p : List Bool} {f L : Nat} (hf : f < p.length) (hb : bgB p f = true) (hL : 1 ≤ L) (hLn : L ≤ p.length) (hn : ∀ j,1 ≤ j → j < L → bgB p (f + j) = false) (he : bgB p (f + L) = true) :
  flRow i bd p (min (f + L) p.length) = flRow i bd p f ++ (if bd < (L : Int) then [(i,(f : Int),(L : Int),p.getD f false)] else []):=by
 have h0 : p ≠ []:=by rintro rfl; simp at hf
 have hs:=rnd_same (w:=f) (k:=L - 1) h0 fun j h1 h2=>hn j h1 (by omega)
 have hd : rndB p (f + L) ≠ rndB p f:=by
  have h1 : rndB p (f + L) ≠ rndB p (f + L + p.length - 1):=by simpa [bgB] using he
  rw [show f + L + p.length - 1 = f + (L - 1) + p.length by omega] at h1
  have h2 : rndB p (f + (L - 1) + p.length) = rndB p (f + (L - 1)):=by unfold rndB; rw [Nat.add_mod_right]
  rwa [h2,hs (L - 1) (Nat.le_refl _)] at h1
 have hlen : flLen p f = L:=flLen_eq hb hL hLn hd fun j _ h2=>hs j (by omega)
 have h1:=flRow_skip (i:=i) (bd:=bd) (p:=p) (a:=f + 1) (k:=min (f + L) p.length - (f + 1)) fun j h2 hj=>by
  have:=hn (j - f) (by omega) (by omega)
  rw [show f + (j - f) = j by omega] at this
  exact flLen_no this (.inl (by omega))
 rw [show f + 1 + (min (f + L) p.length - (f + 1)) = min (f + L) p.length by omega] at h1
 rw [h1,flRow_succ,flAt,hlen]
 by_cases hb : bd < (L : Int)
 ·rw [if_pos hb,if_pos ⟨by omega,hb⟩]; rfl
 ·rw [if_neg hb,if_neg fun h=>hb h.2]; rfl
theorem pickS_length (lw : List Int) (row : Int) : (pickS lw row).length = lw.length:=by simp [pickS]
def al_tie_pickOf_floats_1 : AL (Int × List UInt8):=(.cons (.k (.i .i64)) (.one (.ptr (.one (.k .st)))))
def pre_tie_pickOf_floats_1 (d : Int × List UInt8) : Prop:=0 ≤ d.1 ∧ d.1 < d.2.length ∧ d.2.length ≤ 1000000
def res_tie_pickOf_floats_1 (d : Int × List UInt8) : SV:=.val .bo (bB d.2 d.1.toNat)
def obs_tie_pickOf_floats_1 (d : Int × List UInt8) : List OB:=[]
def s_tie_pickOf_floats_1 : CSp:=mkSp al_tie_pickOf_floats_1 pre_tie_pickOf_floats_1 res_tie_pickOf_floats_1 obs_tie_pickOf_floats_1
def vc_tie_pickOf_floats_1 (w : Int) (s : List UInt8) : Prop :=
 (0 ≤ w) ∧ (w < (List.length s)) ∧ (I64 (w + (lI s))) ∧ (I64 ((w + (lI s)) - (1 : Int))) ∧ ((lI s) ≠ 0) ∧ (0 ≤ (Int.tmod ((w + (lI s)) - (1 : Int)) (lI s))) ∧ ((Int.tmod ((w + (lI s)) - (1 : Int)) (lI s)) < (List.length s)) ∧ ((((UInt8.toNat (gD s w 0) : Nat) : Int) != ((UInt8.toNat (gD s (Int.tmod ((w + (lI s)) - (1 : Int)) (lI s)) 0) : Nat) : Int)) = (bB s w.toNat) ∧ (True))
def cx_tie_pickOf_floats_1 : Cx:=⟨[],[],18,[],0,[],[],[],[],false,[],[],[]⟩
def lp_tie_pickOf_floats_1 (w : Int) (s : List UInt8) : List (Nat × LoopAnn):=[]
set_option maxRecDepth 100000 in
theorem vq_tie_pickOf_floats_1 (d : Int × List UInt8) : gwp (cx_tie_pickOf_floats_1) (lp_tie_pickOf_floats_1 d.1 d.2) c110 0 (gend [.tmp 3] (res_tie_pickOf_floats_1 d) (obs_tie_pickOf_floats_1 d)) (gstart 18 (AL.can al_tie_pickOf_floats_1 d)) = vc_tie_pickOf_floats_1 d.1 d.2:=by kernel_rfl
abbrev Ok_tie_pickOf_floats_1 : Prop:=OkC Tryz.prog 110 s_tie_pickOf_floats_1
theorem mk_tie_pickOf_floats_1 (h : ∀ (w : Int) (s : List UInt8),(0 ≤ w ∧ w < s.length ∧ s.length ≤ 1000000) → vc_tie_pickOf_floats_1 w s) : OkC Tryz.prog 110 s_tie_pickOf_floats_1 :=
 okC_vc fun110 mixed (C:=cx_tie_pickOf_floats_1) (V:=fun (d : Int × List UInt8)=>vc_tie_pickOf_floats_1 d.1 d.2) ⟨.nil,XsOk.nil,ItsOk.nil,YlOk.nil,IysOk.nil⟩ (vq_tie_pickOf_floats_1) fun d hp=>h d.1 d.2 hp
theorem ok_tie_pickOf_floats_1 : Ok_tie_pickOf_floats_1:=mk_tie_pickOf_floats_1 fun w s h=>by
 obtain ⟨h1,h2,h3⟩:=h
 unfold vc_tie_pickOf_floats_1; (try delta lI gD sT I64)
 (try simp only [decide_eq_true_eq,decide_eq_false_iff_not])
 obtain ⟨n,rfl⟩:=Int.eq_ofNat_of_zero_le h1
 have e : ((n : Int) + (s.length : Int)) - 1 = ((n + s.length - 1 : Nat) : Int):=by omega
 have hm : (n + s.length - 1) % s.length < s.length:=Nat.mod_lt _ (by omega)
 simp only [e,tmodN,Int.toNat_natCast,InK_i64]
 refine ⟨by omega,by omega,by omega,by omega,by omega,by omega,by omega,?_,trivial⟩
 unfold bB
 generalize s.getD n 0 = a
 generalize s.getD ((n + s.length - 1) % s.length) 0 = b
 by_cases h : a = b
 ·simp [h]
 ·have : a.toNat ≠ b.toNat:=fun h2=>h (UInt8.toNat_inj.1 h2)
  have h2 : ((a.toNat : Nat) : Int) ≠ ((b.toNat : Nat) : Int):=by omega
  rw [bne_iff_ne.2 h2,bne_iff_ne.2 h]
def al_law03_woven : AL ((Int × List Int) × Int × List Int):=(.cons (.agg (.cons (.k (.i .i64)) (.one (.k (.list (.i .i64)))))) (.one (.agg (.cons (.k (.i .i64)) (.one (.k (.list (.i .i64))))))))
def pre_law03_woven (d : (Int × List Int) × Int × List Int) : Prop:=d.2.2.length ≤ 1000000
def res_law03_woven (d : (Int × List Int) × Int × List Int) : SV:=.val (.i .i64) (weaveErr d.1.1 d.1.2 d.2.1 d.2.2)
def obs_law03_woven (d : (Int × List Int) × Int × List Int) : List OB:=[]
def s_law03_woven : CSp:=mkSp al_law03_woven pre_law03_woven res_law03_woven obs_law03_woven
def vc_law03_woven (hk : Int) (lw : List Int) (hd : Int) (rows : List Int) : Prop :=
 (True) ∧ (((tieErr hk lw) != (0 : Int)) = true →
  ((tieErr hk lw) = (weaveErr hk lw hd rows) ∧ (True))) ∧
 (((tieErr hk lw) != (0 : Int)) = false →
  (True) ∧ (((pointErr hd rows) != (0 : Int)) = true →
   ((pointErr hd rows) = (weaveErr hk lw hd rows) ∧ (True))) ∧
  (((pointErr hd rows) != (0 : Int)) = false →
   ((hd != hk) = true →
    ((4 : Int) = (weaveErr hk lw hd rows) ∧ (True))) ∧
   ((hd != hk) = false →
    ((0 : Int) = (weaveErr hk lw hd rows) ∧ (True)))))
def cx_law03_woven : Cx:=⟨[],[(33,s_ref03_Check),(75,s_ref01_Check)],22,[],0,[],[],[],[],false,[],[],[]⟩
def lp_law03_woven (hk : Int) (lw : List Int) (hd : Int) (rows : List Int) : List (Nat × LoopAnn):=[]
set_option maxRecDepth 100000 in
theorem vq_law03_woven (d : (Int × List Int) × Int × List Int) : gwp (cx_law03_woven) (lp_law03_woven d.1.1 d.1.2 d.2.1 d.2.2) c24 0 (gend [.tmp 4] (res_law03_woven d) (obs_law03_woven d)) (gstart 22 (AL.can al_law03_woven d)) = vc_law03_woven d.1.1 d.1.2 d.2.1 d.2.2:=by kernel_rfl
abbrev Ok_law03_woven : Prop:=OkC Tryz.prog 24 s_law03_woven
theorem mk_law03_woven (h : ∀ (hk : Int) (lw : List Int) (hd : Int) (rows : List Int),(rows.length ≤ 1000000) → vc_law03_woven hk lw hd rows) : OkC Tryz.prog 24 s_law03_woven :=
 okC_vc fun24 mixed (C:=cx_law03_woven) (V:=fun (d : (Int × List Int) × Int × List Int)=>vc_law03_woven d.1.1 d.1.2 d.2.1 d.2.2) ⟨(.cons ok_ref03_Check (.cons ok_ref01_Check .nil)),XsOk.nil,ItsOk.nil,YlOk.nil,IysOk.nil⟩ (vq_law03_woven) fun d hp=>h d.1.1 d.1.2 d.2.1 d.2.2 hp
theorem ok_law03_woven : Ok_law03_woven:=mk_law03_woven fun hk lw hd rows h=>by
 unfold vc_law03_woven; (try delta lI gD sT I64)
 (try simp only [bne_iff_ne,bne_eq_false_iff_eq,ne_eq])
 refine ⟨trivial,fun h1=>?_,fun h1=>⟨trivial,fun h2=>?_,fun h2=>⟨fun h3=>?_,fun h3=>?_⟩⟩⟩
 ·simp [weaveErr,h1]
 ·simp [weaveErr,h1,h2]
 ·simp [weaveErr,h1,h2,h3]
 ·subst h3; simp [weaveErr,h1,h2]
def al_ref03_Points : AL (List UInt8):=(.one (.k .st))
def pre_ref03_Points (d : List UInt8) : Prop:=d.length ≤ 1000
def res_ref03_Points (d : List UInt8) : SV:=.lst 0
def obs_ref03_Points (d : List UInt8) : List OB:=[.lst 4 .bo (ptsX d) false]
def s_ref03_Points : CSp:=mkSp al_ref03_Points pre_ref03_Points res_ref03_Points obs_ref03_Points
def vc_ref03_Points (s : List UInt8) : Prop :=
 ∃ (e2 : Unit) (d20 : (List Bool) × Int),((s = s ∧ True ∧ (0 : Int) = d20.2 ∧ True) ∧ ((([] : List Bool) = d20.1 ∧ false = false) ∧ True)) ∧
 LoopP (fun (d2 : (List Bool) × Int) (q2 : ((List Bool) × Int) → Prop) =>
  ((decide (d2.2 < (lI s))) = true →
   (0 ≤ d2.2) ∧ (d2.2 < (List.length s)) ∧ (((List.length d2.1) + (List.length [(((UInt8.toNat (gD s d2.2 0) : Nat) : Int) == (120 : Int))])) * 1 ≤ 70368744177664) ∧ (I64 (d2.2 + (1 : Int))) ∧ (∃ d3 : (List Bool) × Int,((s = s ∧ True ∧ (d2.2 + (1 : Int)) = d3.2 ∧ True) ∧ (((d2.1 ++ [(((UInt8.toNat (gD s d2.2 0) : Nat) : Int) == (120 : Int))]) = d3.1 ∧ false = false) ∧ True)) ∧ q2 d3)) ∧
  ((decide (d2.2 < (lI s))) = false →
   (True ∧ ((d2.1 = (ptsX s) ∧ false = false) ∧ True)))) d20
def cx_ref03_Points : Cx:=⟨[(4,.bo)],[],20,[],0,[],[],[],[],false,[],[],[]⟩
def lp_ref03_Points (s : List UInt8) : List (Nat × LoopAnn):=[(0,⟨Unit,(List Bool) × Int,[0,3,4],fun e x=>[.val .st s,.lst 5,.val (.i .i64) x.2],fun e x=>[(5,.slot 3,.lst 4 .bo x.1 false)]⟩)]
set_option maxRecDepth 100000 in
theorem vq_ref03_Points (d : List UInt8) : gwp (cx_ref03_Points) (lp_ref03_Points d) c77 0 (gend [.tmp 2] (res_ref03_Points d) (obs_ref03_Points d)) (gstart 20 (AL.can al_ref03_Points d)) = vc_ref03_Points d:=by kernel_rfl
abbrev Ok_ref03_Points : Prop:=OkC Tryz.prog 77 s_ref03_Points
theorem mk_ref03_Points (h : ∀ (s : List UInt8),(s.length ≤ 1000) → vc_ref03_Points s) : OkC Tryz.prog 77 s_ref03_Points :=
 okC_vc fun77 mixed (C:=cx_ref03_Points) (V:=fun (d : List UInt8)=>vc_ref03_Points d) ⟨.nil,XsOk.nil,ItsOk.nil,YlOk.nil,IysOk.nil⟩ (vq_ref03_Points) fun d hp=>h d hp
theorem ok_ref03_Points : Ok_ref03_Points:=mk_ref03_Points fun s hs=>by
 unfold vc_ref03_Points; (try delta lI gD sT I64)
 (try simp only [decide_eq_true_eq,decide_eq_false_iff_not])
 refine ⟨(),([],0),(by and_intros <;> first | rfl | trivial | simp),?_⟩
 refine LoopP.count2 s.length (fun k xs=>xs = ptsX (s.take k)) (by simp [ptsX]) fun k xs hk hJ q hq=>?_
 have hxl : xs.length = k:=by rw [hJ,ptsX_length]; simp; omega
 dsimp only
 refine ⟨fun hlt=>?_,fun hge=>?_⟩
 ·have hlt : k < s.length:=by omega
  simp only [Int.toNat_natCast,getD_nat hlt,List.length_singleton,InK_i64]
  refine ⟨by omega,by omega,by omega,by omega,(_,_),(by and_intros <;> first | rfl | trivial | simp),hq _ hlt ?_⟩
  rw [take_succ_eq hlt,ptsX,List.map_append,hJ]
  congr 1
  have : ((((s[k].toNat : Nat) : Int) == 120)) = (s[k] == 120):=by
   rw [Bool.eq_iff_iff,beq_iff_eq,beq_iff_eq]
   constructor
   ·intro h
    have h120 : (120 : UInt8).toNat = 120:=rfl
    exact UInt8.toNat_inj.1 (by omega)
   ·intro h; rw [h]; rfl
  simp [this]
 ·have : k = s.length:=by omega
  subst this
  rw [List.take_length] at hJ
  rw [hJ]; exact (by and_intros <;> first | rfl | trivial | simp)
def al_ref01_Alike : AL ((List (Int × Int × Int × Bool)) × List (Int × Int × Int × Bool)):=(.cons (.k (.list (.pair (.i .i64) (.pair (.i .i64) (.pair (.i .i64) .bo))))) (.one (.k (.list (.pair (.i .i64) (.pair (.i .i64) (.pair (.i .i64) .bo)))))))
def pre_ref01_Alike (d : (List (Int × Int × Int × Bool)) × List (Int × Int × Int × Bool)) : Prop:=d.1.length ≤ 1000000
def res_ref01_Alike (d : (List (Int × Int × Int × Bool)) × List (Int × Int × Int × Bool)) : SV:=.val .bo (d.1 == d.2)
def obs_ref01_Alike (d : (List (Int × Int × Int × Bool)) × List (Int × Int × Int × Bool)) : List OB:=[]
def s_ref01_Alike : CSp:=mkSp al_ref01_Alike pre_ref01_Alike res_ref01_Alike obs_ref01_Alike
def vc_ref01_Alike (a : List (Int × Int × Int × Bool)) (b : List (Int × Int × Int × Bool)) : Prop :=
 (((lI a) != (lI b)) = true →
  (false = (a == b) ∧ (True))) ∧
 (((lI a) != (lI b)) = false →
  ∃ (e2 : Unit) (d20 : Int),((a = a ∧ b = b ∧ (0 : Int) = d20 ∧ True) ∧ (True)) ∧
  LoopP (fun (d2 : Int) (q2 : (Int) → Prop) =>
   ((decide (d2 < (lI a))) = true →
    (0 ≤ d2) ∧ (d2 < (List.length a)) ∧ (0 ≤ d2) ∧ (d2 < (List.length b)) ∧ ((!(((gD a d2 (0,(0,(0,false)))).1 == (gD b d2 (0,(0,(0,false)))).1) && (((gD a d2 (0,(0,(0,false)))).2.1 == (gD b d2 (0,(0,(0,false)))).2.1) && (((gD a d2 (0,(0,(0,false)))).2.2.1 == (gD b d2 (0,(0,(0,false)))).2.2.1) && ((gD a d2 (0,(0,(0,false)))).2.2.2 == (gD b d2 (0,(0,(0,false)))).2.2.2))))) = true →
     (false = (a == b) ∧ (True))) ∧
    ((!(((gD a d2 (0,(0,(0,false)))).1 == (gD b d2 (0,(0,(0,false)))).1) && (((gD a d2 (0,(0,(0,false)))).2.1 == (gD b d2 (0,(0,(0,false)))).2.1) && (((gD a d2 (0,(0,(0,false)))).2.2.1 == (gD b d2 (0,(0,(0,false)))).2.2.1) && ((gD a d2 (0,(0,(0,false)))).2.2.2 == (gD b d2 (0,(0,(0,false)))).2.2.2))))) = false →
     (I64 (d2 + (1 : Int))) ∧ (∃ d3 : Int,((a = a ∧ b = b ∧ (d2 + (1 : Int)) = d3 ∧ True) ∧ (True)) ∧ q2 d3))) ∧
   ((decide (d2 < (lI a))) = false →
    (true = (a == b) ∧ (True)))) d20)
def cx_ref01_Alike : Cx:=⟨[],[],26,[],0,[],[],[],[],false,[],[],[]⟩
def lp_ref01_Alike (a : List (Int × Int × Int × Bool)) (b : List (Int × Int × Int × Bool)) : List (Nat × LoopAnn):=[(0,⟨Unit,Int,[0,1,5],fun e x=>[.val (.list (.pair (.i .i64) (.pair (.i .i64) (.pair (.i .i64) .bo)))) a,.val (.list (.pair (.i .i64) (.pair (.i .i64) (.pair (.i .i64) .bo)))) b,.val (.i .i64) x],fun e x=>[]⟩)]
set_option maxRecDepth 100000 in
theorem vq_ref01_Alike (d : (List (Int × Int × Int × Bool)) × List (Int × Int × Int × Bool)) : gwp (cx_ref01_Alike) (lp_ref01_Alike d.1 d.2) c28 0 (gend [.tmp 4] (res_ref01_Alike d) (obs_ref01_Alike d)) (gstart 26 (AL.can al_ref01_Alike d)) = vc_ref01_Alike d.1 d.2:=by kernel_rfl
abbrev Ok_ref01_Alike : Prop:=OkC Tryz.prog 28 s_ref01_Alike
theorem mk_ref01_Alike (h : ∀ (a : List (Int × Int × Int × Bool)) (b : List (Int × Int × Int × Bool)),(a.length ≤ 1000000) → vc_ref01_Alike a b) : OkC Tryz.prog 28 s_ref01_Alike :=
 okC_vc fun28 mixed (C:=cx_ref01_Alike) (V:=fun (d : (List (Int × Int × Int × Bool)) × List (Int × Int × Int × Bool))=>vc_ref01_Alike d.1 d.2) ⟨.nil,XsOk.nil,ItsOk.nil,YlOk.nil,IysOk.nil⟩ (vq_ref01_Alike) fun d hp=>h d.1 d.2 hp
theorem ok_ref01_Alike : Ok_ref01_Alike:=mk_ref01_Alike fun a b ha=>by
 unfold vc_ref01_Alike; (try delta lI gD sT I64)
 (try simp only [decide_eq_true_eq,decide_eq_false_iff_not])
 refine ⟨fun h=>?_,fun h=>⟨(),0,(by and_intros <;> first | rfl | trivial | simp),?_⟩⟩
 ·have h : a.length ≠ b.length:=by simp only [bne_iff_ne,ne_eq] at h; omega
  refine ⟨Eq.symm ?_,trivial⟩
  rw [beq_eq_false_iff_ne]
  exact fun e=>h (by rw [e])
 have hl : a.length = b.length:=by simp only [bne_eq_false_iff_eq] at h; omega
 refine LoopP.count a.length (fun k=>∀ i,i < k → a.getD i (0,(0,(0,false))) = b.getD i (0,(0,(0,false)))) (fun i hi=>by omega) fun k hk hJ q hq=>?_
 simp only [Int.toNat_natCast,InK_i64]
 refine ⟨fun hlt=>⟨by omega,by omega,by omega,by omega,fun hx=>?_,fun hx=>⟨by omega,_,(by and_intros <;> first | rfl | trivial | simp),hq (by omega) fun i hi=>?_⟩⟩,fun hge=>?_⟩
 ·refine ⟨Eq.symm ?_,trivial⟩
  rw [beq_eq_false_iff_ne]
  intro e; subst e
  simp at hx
 ·rcases Nat.lt_succ_iff_lt_or_eq.1 hi with hi | rfl
  ·exact hJ i hi
  ·simp only [Bool.not_eq_false',Bool.and_eq_true,beq_iff_eq] at hx
   obtain ⟨x1,x2,x3,x4⟩:=hx
   exact Prod.ext x1 (Prod.ext x2 (Prod.ext x3 x4))
 ·have hk : k = a.length:=by omega
  subst hk
  refine ⟨Eq.symm ?_,trivial⟩
  rw [beq_iff_eq]
  refine List.ext_getElem hl fun i h1 h2=>?_
  have:=hJ i h1
  rwa [getD_nat h1,getD_nat h2] at this
def al_ref01_Length : AL (List Bool × Int):=(.cons (.k (.list .bo)) (.one (.k (.i .i64))))
def pre_ref01_Length (d : List Bool × Int) : Prop:=0 ≤ d.2 ∧ d.2 < d.1.length ∧ d.1.length ≤ 1000
def res_ref01_Length (d : List Bool × Int) : SV:=.val (.i .i64) ((flLen d.1 d.2.toNat : Nat) : Int)
def obs_ref01_Length (d : List Bool × Int) : List OB:=[]
def s_ref01_Length : CSp:=mkSp al_ref01_Length pre_ref01_Length res_ref01_Length obs_ref01_Length
def vc_ref01_Length (p : List Bool) (w : Int) : Prop :=
 (I64 (w + (lI p))) ∧ (I64 ((w + (lI p)) - (1 : Int))) ∧ ((lI p) ≠ 0) ∧ (0 ≤ (Int.tmod ((w + (lI p)) - (1 : Int)) (lI p))) ∧ ((Int.tmod ((w + (lI p)) - (1 : Int)) (lI p)) < (List.length p)) ∧ (0 ≤ w) ∧ (w < (List.length p)) ∧ (((gD p (Int.tmod ((w + (lI p)) - (1 : Int)) (lI p)) false) == (gD p w false)) = true →
  ∃ (e2 : Unit) (d20 : Int),((p = p ∧ w = w ∧ (lI p) = (lI p) ∧ (0 : Int) = d20 ∧ True) ∧ (True)) ∧
  LoopP (fun (d2 : Int) (q2 : (Int) → Prop) =>
   ((decide (d2 < (lI p))) = true →
    (0 ≤ d2) ∧ (d2 < (List.length p)) ∧ (0 ≤ w) ∧ (w < (List.length p)) ∧ ((!((gD p d2 false) == (gD p w false))) = true →
     ((0 : Int) = ((flLen p w.toNat : Nat) : Int) ∧ (True))) ∧
    ((!((gD p d2 false) == (gD p w false))) = false →
     (I64 (d2 + (1 : Int))) ∧ (∃ d3 : Int,((p = p ∧ w = w ∧ (lI p) = (lI p) ∧ (d2 + (1 : Int)) = d3 ∧ True) ∧ (True)) ∧ q2 d3))) ∧
   ((decide (d2 < (lI p))) = false →
    ((w == (0 : Int)) = true →
     ((1000 : Int) = ((flLen p w.toNat : Nat) : Int) ∧ (True))) ∧
    ((w == (0 : Int)) = false →
     ((0 : Int) = ((flLen p w.toNat : Nat) : Int) ∧ (True))))) d20) ∧
 (((gD p (Int.tmod ((w + (lI p)) - (1 : Int)) (lI p)) false) == (gD p w false)) = false →
  ∃ (e5 : Unit) (d50 : Int),((p = p ∧ w = w ∧ (lI p) = (lI p) ∧ (1 : Int) = d50 ∧ True) ∧ (True)) ∧
  LoopP (fun (d5 : Int) (q5 : (Int) → Prop) =>
   (I64 (w + d5)) ∧ ((lI p) ≠ 0) ∧ (0 ≤ (Int.tmod (w + d5) (lI p))) ∧ ((Int.tmod (w + d5) (lI p)) < (List.length p)) ∧ (0 ≤ w) ∧ (w < (List.length p)) ∧ (((gD p (Int.tmod (w + d5) (lI p)) false) == (gD p w false)) = true →
    (I64 (d5 + (1 : Int))) ∧ (∃ d6 : Int,((p = p ∧ w = w ∧ (lI p) = (lI p) ∧ (d5 + (1 : Int)) = d6 ∧ True) ∧ (True)) ∧ q5 d6)) ∧
   (((gD p (Int.tmod (w + d5) (lI p)) false) == (gD p w false)) = false →
    (d5 = ((flLen p w.toNat : Nat) : Int) ∧ (True)))) d50)
def cx_ref01_Length : Cx:=⟨[],[],56,[],0,[],[],[],[],false,[],[],[]⟩
def lp_ref01_Length (p : List Bool) (w : Int) : List (Nat × LoopAnn):=[(0,⟨Unit,Int,[0,1,5,6],fun e x=>[.val (.list .bo) p,.val (.i .i64) w,.val (.i .i64) (((List.length p) : Nat) : Int),.val (.i .i64) x],fun e x=>[]⟩),
 (2,⟨Unit,Int,[0,1,5,7],fun e x=>[.val (.list .bo) p,.val (.i .i64) w,.val (.i .i64) (((List.length p) : Nat) : Int),.val (.i .i64) x],fun e x=>[]⟩)]
set_option maxRecDepth 100000 in
theorem vq_ref01_Length (d : List Bool × Int) : gwp (cx_ref01_Length) (lp_ref01_Length d.1 d.2) c78 0 (gend [.tmp 4] (res_ref01_Length d) (obs_ref01_Length d)) (gstart 56 (AL.can al_ref01_Length d)) = vc_ref01_Length d.1 d.2:=by kernel_rfl
abbrev Ok_ref01_Length : Prop:=OkC Tryz.prog 78 s_ref01_Length
theorem mk_ref01_Length (h : ∀ (p : List Bool) (w : Int),(0 ≤ w ∧ w < p.length ∧ p.length ≤ 1000) → vc_ref01_Length p w) : OkC Tryz.prog 78 s_ref01_Length :=
 okC_vc fun78 mixed (C:=cx_ref01_Length) (V:=fun (d : List Bool × Int)=>vc_ref01_Length d.1 d.2) ⟨.nil,XsOk.nil,ItsOk.nil,YlOk.nil,IysOk.nil⟩ (vq_ref01_Length) fun d hp=>h d.1 d.2 hp
theorem ok_ref01_Length : Ok_ref01_Length:=mk_ref01_Length fun p w h=>by
 obtain ⟨h1,h2,h3⟩:=h
 unfold vc_ref01_Length; (try delta lI gD sT I64)
 (try simp only [decide_eq_true_eq,decide_eq_false_iff_not])
 obtain ⟨n,rfl⟩:=Int.eq_ofNat_of_zero_le h1
 have hn : n < p.length:=by omega
 have h0 : p ≠ []:=by rintro rfl; simp at hn
 have e : ((n : Int) + (p.length : Int)) - 1 = ((n + p.length - 1 : Nat) : Int):=by omega
 have hm : (n + p.length - 1) % p.length < p.length:=Nat.mod_lt _ (by omega)
 have hb : (p.getD ((n + p.length - 1) % p.length) false == p.getD n false) = !bgB p n:=by
  unfold bgB
  rw [rndB_lt hn]
  unfold rndB
  generalize p.getD n false = a
  generalize p.getD ((n + p.length - 1) % p.length) false = b
  cases a <;> cases b <;> rfl
 simp only [e,tmodN,Int.toNat_natCast,InK_i64,hb,Bool.not_eq_true',Bool.not_eq_false']
 refine ⟨by omega,by omega,by omega,by omega,by omega,by omega,by omega,fun hg=>⟨(),0,(by and_intros <;> first | rfl | trivial | simp),?_⟩,fun hg=>⟨(),1,(by and_intros <;> first | rfl | trivial | simp),?_⟩⟩
 ·refine LoopP.count p.length (fun k=>∀ i,i < k → p.getD i false = p.getD n false) (fun i hi=>by omega) fun k hk hJ q hq=>?_
  simp only [Int.toNat_natCast,beq_iff_eq,beq_eq_false_iff_ne]
  refine ⟨fun hlt=>⟨by omega,by omega,by omega,by omega,fun hx=>?_,fun hx=>⟨by omega,_,(by and_intros <;> first | rfl | trivial | simp),hq (by omega) fun i hi=>?_⟩⟩,fun hge=>?_⟩
  ·rw [flLen_no hg]
   ·exact (by and_intros <;> first | rfl | trivial | simp)
   rcases Nat.eq_zero_or_pos n with hz | hz
   ·subst hz
    exact .inr ⟨k,by omega,by rw [rndB_lt (by omega),rndB_lt hn]; simpa using hx⟩
   ·exact .inl (by omega)
  ·rcases Nat.lt_succ_iff_lt_or_eq.1 hi with hi | rfl
   ·exact hJ i hi
   ·exact hx
  ·have hall : ∀ j,j < p.length → rndB p j = rndB p n:=fun j hj=>by rw [rndB_lt hj,rndB_lt hn]; exact hJ j (by omega)
   refine ⟨fun hz=>?_,fun hz=>?_⟩
   ·have hz : n = 0:=by omega
    subst hz
    rw [flLen_all hall h0]; exact (by and_intros <;> first | rfl | trivial | simp)
   ·rw [flLen_no hg (.inl (by omega))]; exact (by and_intros <;> first | rfl | trivial | simp)
 ·refine ⟨fun d=>∃ k : Nat,1 ≤ k ∧ d = k ∧ k ≤ p.length ∧ ∀ j,j < k → rndB p (n + j) = rndB p n,fun d=>p.length + 1 - d.toNat,⟨1,by omega,rfl,by omega,fun j hj=>by rw [show j = 0 by omega]; rfl⟩,?_⟩
  rintro _ ⟨k,hk1,rfl,hk2,hJ⟩
  have e2 : (n : Int) + (k : Int) = ((n + k : Nat) : Int):=by omega
  have hm2 : (n + k) % p.length < p.length:=Nat.mod_lt _ (by omega)
  simp only [e2,tmodN,Int.toNat_natCast,beq_iff_eq,beq_eq_false_iff_ne]
  have e3 : p.getD ((n + k) % p.length) false = rndB p (n + k):=rfl
  rw [e3,← rndB_lt hn]
  refine ⟨by omega,by omega,by omega,by omega,by omega,by omega,fun hx=>⟨by omega,_,(by and_intros <;> first | rfl | trivial | simp),⟨k + 1,by omega,by omega,?_,fun j hj=>?_⟩,?_⟩,fun hx=>?_⟩
  ·rcases Nat.lt_or_ge k p.length with hk3 | hk3
   ·omega
   ·exfalso
    have : k = p.length:=by omega
    subst this
    have hh:=hJ (p.length - 1) (by omega)
    have hg : rndB p n ≠ rndB p (n + p.length - 1):=by simpa [bgB] using hg
    exact hg (by rw [← hh]; congr 1; omega)
  ·rcases Nat.lt_succ_iff_lt_or_eq.1 hj with hj | rfl
   ·exact hJ j hj
   ·exact hx
  ·omega
  ·rw [flLen_eq hg hk1 hk2 hx fun j _ hj=>hJ j hj]; exact (by and_intros <;> first | rfl | trivial | simp)
end Go.Proofs.Tryz
set_option linter.unusedVariables false
namespace Go.Proofs.Tryz
open Go Go.V Go.Proofs
def al_tie_Floats : AL ((Int × List Int) × (Int × List Int) × Int):=(.cons (.agg (.cons (.k (.i .i64)) (.one (.k (.list (.i .i64)))))) (.cons (.agg (.cons (.k (.i .i64)) (.one (.k (.list (.i .i64)))))) (.one (.k (.i .i64)))))
def pre_tie_Floats (d : (Int × List Int) × (Int × List Int) × Int) : Prop:=d.1.2.length ≤ 110 ∧ d.2.1.2.length ≤ 110
def res_tie_Floats (d : (Int × List Int) × (Int × List Int) × Int) : SV:=.tup [.lst 0,.val (.i .i64) (floErr d.1.1 d.1.2 d.2.1.1 d.2.1.2 d.2.2)]
def obs_tie_Floats (d : (Int × List Int) × (Int × List Int) × Int) : List OB:=[.lst 111 (.pair (.i .i64) (.pair (.i .i64) (.pair (.i .i64) .bo))) (flC d.1.1 d.1.2 d.2.1.1 d.2.1.2 d.2.2) ((flC d.1.1 d.1.2 d.2.1.1 d.2.1.2 d.2.2).isEmpty)]
def s_tie_Floats : CSp:=mkSp al_tie_Floats pre_tie_Floats res_tie_Floats obs_tie_Floats
def vc_tie_Floats (hk : Int) (lw : List Int) (hd : Int) (rows : List Int) (bd : Int) : Prop :=
 (lw.length ≤ 110 ∧ rows.length ≤ 110) ∧ ((weaveErr hk lw hd rows != (0 : Int)) = true →
  ((True ∧ weaveErr hk lw hd rows = (floErr hk lw hd rows bd) ∧ (([] : List SV) = [])) ∧ (((flC hk lw hd rows bd) = [] ∧ (flC hk lw hd rows bd).isEmpty = true) ∧ True))) ∧
 ((weaveErr hk lw hd rows != (0 : Int)) = false →
  ([bd].length ≤ 1000000) ∧ ((!(!([bd].any fun n=>decide (n < (0 : Int)) || decide ((1000 : Int) < n)))) = true →
   ((True ∧ (3 : Int) = (floErr hk lw hd rows bd) ∧ (([] : List SV) = [])) ∧ (((flC hk lw hd rows bd) = [] ∧ (flC hk lw hd rows bd).isEmpty = true) ∧ True))) ∧
  ((!(!([bd].any fun n=>decide (n < (0 : Int)) || decide ((1000 : Int) < n)))) = false →
   ∃ (e4 : Unit) (d40 : (List (Int × Int × Int × Bool)) × Int),((True ∧ True ∧ True ∧ (lI (weaveC hk lw hd rows)) = (lI (weaveC hk lw hd rows)) ∧ (0 : Int) = d40.2 ∧ True) ∧ ((bd = bd ∧ (([] : List SV) = [])) ∧ (True ∧ (([] : List SV) = [])) ∧ (d40.1 = [] ∧ (List.isEmpty d40.1) = true) ∧ ((weaveC hk lw hd rows) = (weaveC hk lw hd rows) ∧ (weaveC hk lw hd rows).isEmpty = (List.isEmpty (weaveC hk lw hd rows))) ∧ True)) ∧
   LoopP (fun (d4 : (List (Int × Int × Int × Bool)) × Int) (q4 : ((List (Int × Int × Int × Bool)) × Int) → Prop) =>
    ((decide (d4.2 < (lI (weaveC hk lw hd rows)))) = true →
     (0 ≤ d4.2) ∧ (d4.2 < (List.length (weaveC hk lw hd rows))) ∧ ∀ w5 : LpD,∃ (e8 : (List UInt8) × Int × (List (Int × Int × Int × Bool)) × Int × (List UInt8) × (List (List UInt8)) × Int × Int × Bool × Int × (List UInt8) × (List UInt8) × (List UInt8) × LpD) (d80 : Int),((True ∧ True ∧ (((([] : List SV) = [])) ∧ (True ∧ (([] : List SV) = []))) ∧ (0 : Int) = d80 ∧ True) ∧ (((gD (weaveC hk lw hd rows) d4.2 []) = e8.1 ∧ (([] : List SV) = [])) ∧ (e8.2.2.2.2.2.2.2.2.2.2.2.2.2 = w5 ∧ (True ∧ True ∧ True ∧ True ∧ True ∧ True ∧ True ∧ True ∧ True ∧ True ∧ (gD (weaveC hk lw hd rows) d4.2 []) = e8.2.2.2.2.1 ∧ True ∧ True ∧ True ∧ True ∧ True ∧ True ∧ True ∧ True ∧ True ∧ True ∧ True ∧ True ∧ True ∧ True ∧ True ∧ True ∧ True ∧ (lI (weaveC hk lw hd rows)) = e8.2.2.2.2.2.2.1 ∧ d4.2 = e8.2.2.2.2.2.2.2.1 ∧ (decide (d4.2 < (lI (weaveC hk lw hd rows)))) = e8.2.2.2.2.2.2.2.2.1 ∧ d4.2 = e8.2.2.2.2.2.2.2.2.2.1 ∧ True ∧ (gD (weaveC hk lw hd rows) d4.2 []) = e8.2.2.2.2.2.2.2.2.2.2.1 ∧ (gD (weaveC hk lw hd rows) d4.2 []) = e8.2.2.2.2.2.2.2.2.2.2.2.1 ∧ (((gD (weaveC hk lw hd rows) d4.2 []) = e8.2.2.2.2.2.2.2.2.2.2.2.2.1 ∧ (([] : List SV) = [])) ∧ ((([] : List SV) = []))) ∧ True ∧ True ∧ True ∧ True ∧ True ∧ True ∧ True ∧ True ∧ True ∧ True ∧ True ∧ True ∧ True ∧ (([] : List SV) = []))) ∧ (bd = e8.2.1 ∧ (([] : List SV) = [])) ∧ (True ∧ (([] : List SV) = [])) ∧ (d4.1 = e8.2.2.1 ∧ (List.isEmpty d4.1) = (List.isEmpty e8.2.2.1)) ∧ (d4.2 = e8.2.2.2.1 ∧ (([] : List SV) = [])) ∧ ((weaveC hk lw hd rows) = e8.2.2.2.2.2.1 ∧ (List.isEmpty (weaveC hk lw hd rows)) = (List.isEmpty e8.2.2.2.2.2.1)) ∧ True)) ∧
     LoopP (fun (d8 : Int) (q8 : (Int) → Prop) =>
      ((decide (d8 < (lI e8.1))) = true → 0 ≤ d8 ∧ d8 < e8.1.length ∧ e8.1.length ≤ 1000000) ∧ (((decide (d8 < (lI e8.1))) && (!(bB e8.1 d8.toNat))) = true →
       (I64 (d8 + (1 : Int))) ∧ (∃ d9 : Int,((True ∧ True ∧ (((([] : List SV) = [])) ∧ (True ∧ (([] : List SV) = []))) ∧ (d8 + (1 : Int)) = d9 ∧ True) ∧ ((e8.1 = e8.1 ∧ (([] : List SV) = [])) ∧ (e8.2.2.2.2.2.2.2.2.2.2.2.2.2 = e8.2.2.2.2.2.2.2.2.2.2.2.2.2 ∧ (True ∧ True ∧ True ∧ True ∧ True ∧ True ∧ True ∧ True ∧ True ∧ True ∧ e8.2.2.2.2.1 = e8.2.2.2.2.1 ∧ True ∧ True ∧ True ∧ True ∧ True ∧ True ∧ True ∧ True ∧ True ∧ True ∧ True ∧ True ∧ True ∧ True ∧ True ∧ True ∧ True ∧ e8.2.2.2.2.2.2.1 = e8.2.2.2.2.2.2.1 ∧ e8.2.2.2.2.2.2.2.1 = e8.2.2.2.2.2.2.2.1 ∧ e8.2.2.2.2.2.2.2.2.1 = e8.2.2.2.2.2.2.2.2.1 ∧ e8.2.2.2.2.2.2.2.2.2.1 = e8.2.2.2.2.2.2.2.2.2.1 ∧ True ∧ e8.2.2.2.2.2.2.2.2.2.2.1 = e8.2.2.2.2.2.2.2.2.2.2.1 ∧ e8.2.2.2.2.2.2.2.2.2.2.2.1 = e8.2.2.2.2.2.2.2.2.2.2.2.1 ∧ ((e8.2.2.2.2.2.2.2.2.2.2.2.2.1 = e8.2.2.2.2.2.2.2.2.2.2.2.2.1 ∧ (([] : List SV) = [])) ∧ ((([] : List SV) = []))) ∧ True ∧ True ∧ True ∧ True ∧ True ∧ True ∧ True ∧ True ∧ True ∧ True ∧ True ∧ True ∧ True ∧ (([] : List SV) = []))) ∧ (e8.2.1 = e8.2.1 ∧ (([] : List SV) = [])) ∧ (True ∧ (([] : List SV) = [])) ∧ (e8.2.2.1 = e8.2.2.1 ∧ (List.isEmpty e8.2.2.1) = (List.isEmpty e8.2.2.1)) ∧ (e8.2.2.2.1 = e8.2.2.2.1 ∧ (([] : List SV) = [])) ∧ (e8.2.2.2.2.2.1 = e8.2.2.2.2.2.1 ∧ (List.isEmpty e8.2.2.2.2.2.1) = (List.isEmpty e8.2.2.2.2.2.1)) ∧ True)) ∧ q8 d9)) ∧
      (((decide (d8 < (lI e8.1))) && (!(bB e8.1 d8.toNat))) = false →
       ((d8 == (lI e8.1)) = true →
        (0 ≤ (0 : Int)) ∧ ((0 : Int) < (List.length e8.1)) ∧ e8.2.2.2.2.2.2.2.2.2.2.2.2.2 = w5 ∧ ∀ w10 : List Value,((decide ((1000 : Int) > e8.2.1)) = true →
         (((List.length e8.2.2.1) + (List.length [(e8.2.2.2.1,((0 : Int),((1000 : Int),(((UInt8.toNat (gD e8.1 (0 : Int) 0) : Nat) : Int) == (120 : Int)))))])) * 32 ≤ 70368744177664) ∧ w10 = w10 ∧ e8.2.2.2.2.2.2.2.2.2.2.2.2.2 = w5 ∧ e8.2.2.2.2.2.2.2.2.2.2.2.2.2 = w5 ∧ (I64 (e8.2.2.2.2.2.2.2.1 + (1 : Int))) ∧ (∃ d11 : (List (Int × Int × Int × Bool)) × Int,((True ∧ True ∧ True ∧ e8.2.2.2.2.2.2.1 = (lI (weaveC hk lw hd rows)) ∧ (e8.2.2.2.2.2.2.2.1 + (1 : Int)) = d11.2 ∧ True) ∧ ((e8.2.1 = bd ∧ (([] : List SV) = [])) ∧ (True ∧ (([] : List SV) = [])) ∧ ((e8.2.2.1 ++ [(e8.2.2.2.1,((0 : Int),((1000 : Int),(((UInt8.toNat (gD e8.1 (0 : Int) 0) : Nat) : Int) == (120 : Int)))))]) = d11.1 ∧ false = (List.isEmpty d11.1)) ∧ (e8.2.2.2.2.2.1 = (weaveC hk lw hd rows) ∧ (List.isEmpty e8.2.2.2.2.2.1) = (List.isEmpty (weaveC hk lw hd rows))) ∧ True)) ∧ q4 d11)) ∧
        ((decide ((1000 : Int) > e8.2.1)) = false →
         w10 = w10 ∧ e8.2.2.2.2.2.2.2.2.2.2.2.2.2 = w5 ∧ e8.2.2.2.2.2.2.2.2.2.2.2.2.2 = w5 ∧ (I64 (e8.2.2.2.2.2.2.2.1 + (1 : Int))) ∧ (∃ d12 : (List (Int × Int × Int × Bool)) × Int,((True ∧ True ∧ True ∧ e8.2.2.2.2.2.2.1 = (lI (weaveC hk lw hd rows)) ∧ (e8.2.2.2.2.2.2.2.1 + (1 : Int)) = d12.2 ∧ True) ∧ ((e8.2.1 = bd ∧ (([] : List SV) = [])) ∧ (True ∧ (([] : List SV) = [])) ∧ (e8.2.2.1 = d12.1 ∧ (List.isEmpty e8.2.2.1) = (List.isEmpty d12.1)) ∧ (e8.2.2.2.2.2.1 = (weaveC hk lw hd rows) ∧ (List.isEmpty e8.2.2.2.2.2.1) = (List.isEmpty (weaveC hk lw hd rows))) ∧ True)) ∧ q4 d12))) ∧
       ((d8 == (lI e8.1)) = false →
        ∃ (e15 : (List UInt8) × Int × Int × (List UInt8) × (List (List UInt8)) × Int × Int × Bool × Int × (List UInt8) × (List UInt8) × (List UInt8) × LpD) (d150 : Int × (List (Int × Int × Int × Bool))),((True ∧ True ∧ (((([] : List SV) = [])) ∧ (True ∧ (([] : List SV) = []))) ∧ d8 = d150.1 ∧ True) ∧ ((e8.1 = e15.1 ∧ (([] : List SV) = [])) ∧ (e15.2.2.2.2.2.2.2.2.2.2.2.2 = e8.2.2.2.2.2.2.2.2.2.2.2.2.2 ∧ (True ∧ True ∧ True ∧ True ∧ True ∧ True ∧ True ∧ True ∧ True ∧ True ∧ e8.2.2.2.2.1 = e15.2.2.2.1 ∧ True ∧ True ∧ True ∧ True ∧ True ∧ True ∧ True ∧ True ∧ True ∧ True ∧ True ∧ True ∧ True ∧ True ∧ True ∧ True ∧ True ∧ e8.2.2.2.2.2.2.1 = e15.2.2.2.2.2.1 ∧ e8.2.2.2.2.2.2.2.1 = e15.2.2.2.2.2.2.1 ∧ e8.2.2.2.2.2.2.2.2.1 = e15.2.2.2.2.2.2.2.1 ∧ e8.2.2.2.2.2.2.2.2.2.1 = e15.2.2.2.2.2.2.2.2.1 ∧ True ∧ e8.2.2.2.2.2.2.2.2.2.2.1 = e15.2.2.2.2.2.2.2.2.2.1 ∧ e8.2.2.2.2.2.2.2.2.2.2.2.1 = e15.2.2.2.2.2.2.2.2.2.2.1 ∧ ((e8.2.2.2.2.2.2.2.2.2.2.2.2.1 = e15.2.2.2.2.2.2.2.2.2.2.2.1 ∧ (([] : List SV) = [])) ∧ ((([] : List SV) = []))) ∧ True ∧ True ∧ True ∧ True ∧ True ∧ True ∧ True ∧ True ∧ True ∧ True ∧ True ∧ True ∧ True ∧ (([] : List SV) = []))) ∧ (e8.2.1 = e15.2.1 ∧ (([] : List SV) = [])) ∧ (True ∧ (([] : List SV) = [])) ∧ (e8.2.2.1 = d150.2 ∧ (List.isEmpty e8.2.2.1) = (List.isEmpty d150.2)) ∧ (e8.2.2.2.1 = e15.2.2.1 ∧ (([] : List SV) = [])) ∧ (e8.2.2.2.2.2.1 = e15.2.2.2.2.1 ∧ (List.isEmpty e8.2.2.2.2.2.1) = (List.isEmpty e15.2.2.2.2.1)) ∧ True)) ∧
        LoopP (fun (d15 : Int × (List (Int × Int × Int × Bool))) (q15 : (Int × (List (Int × Int × Int × Bool))) → Prop) =>
         ((decide (d15.1 < (lI e15.1))) = true →
          (0 ≤ d15.1) ∧ (d15.1 < (List.length e15.1)) ∧ ∃ (e18 : (List UInt8) × Int × Int × Int × Bool × Int × (List (Int × Int × Int × Bool)) × Int × (List UInt8) × (List (List UInt8)) × Int × Int × Bool × Int × (List UInt8) × (List UInt8) × (List UInt8) × LpD) (d180 : Int),((True ∧ True ∧ (((([] : List SV) = [])) ∧ (True ∧ (([] : List SV) = []))) ∧ d15.1 = e18.2.1 ∧ True ∧ True) ∧ ((e15.1 = e18.1 ∧ (([] : List SV) = [])) ∧ ((0 : Int) = e18.2.2.1 ∧ d15.1 = e18.2.2.2.1 ∧ (1 : Int) = d180 ∧ (((UInt8.toNat (gD e15.1 d15.1 0) : Nat) : Int) == (120 : Int)) = e18.2.2.2.2.1 ∧ (([] : List SV) = [])) ∧ (e18.2.2.2.2.2.2.2.2.2.2.2.2.2.2.2.2.2 = e15.2.2.2.2.2.2.2.2.2.2.2.2 ∧ (True ∧ True ∧ True ∧ True ∧ True ∧ True ∧ True ∧ True ∧ True ∧ True ∧ e15.2.2.2.1 = e18.2.2.2.2.2.2.2.2.1 ∧ True ∧ True ∧ True ∧ True ∧ True ∧ True ∧ True ∧ True ∧ True ∧ True ∧ True ∧ True ∧ True ∧ True ∧ True ∧ True ∧ True ∧ e15.2.2.2.2.2.1 = e18.2.2.2.2.2.2.2.2.2.2.1 ∧ e15.2.2.2.2.2.2.1 = e18.2.2.2.2.2.2.2.2.2.2.2.1 ∧ e15.2.2.2.2.2.2.2.1 = e18.2.2.2.2.2.2.2.2.2.2.2.2.1 ∧ e15.2.2.2.2.2.2.2.2.1 = e18.2.2.2.2.2.2.2.2.2.2.2.2.2.1 ∧ True ∧ e15.2.2.2.2.2.2.2.2.2.1 = e18.2.2.2.2.2.2.2.2.2.2.2.2.2.2.1 ∧ e15.2.2.2.2.2.2.2.2.2.2.1 = e18.2.2.2.2.2.2.2.2.2.2.2.2.2.2.2.1 ∧ ((e15.2.2.2.2.2.2.2.2.2.2.2.1 = e18.2.2.2.2.2.2.2.2.2.2.2.2.2.2.2.2.1 ∧ (([] : List SV) = [])) ∧ ((([] : List SV) = []))) ∧ True ∧ True ∧ True ∧ True ∧ True ∧ True ∧ True ∧ True ∧ True ∧ True ∧ True ∧ True ∧ True ∧ (([] : List SV) = []))) ∧ (e15.2.1 = e18.2.2.2.2.2.1 ∧ (([] : List SV) = [])) ∧ (True ∧ (([] : List SV) = [])) ∧ (d15.2 = e18.2.2.2.2.2.2.1 ∧ (List.isEmpty d15.2) = (List.isEmpty e18.2.2.2.2.2.2.1)) ∧ (e15.2.2.1 = e18.2.2.2.2.2.2.2.1 ∧ (([] : List SV) = [])) ∧ (e15.2.2.2.2.1 = e18.2.2.2.2.2.2.2.2.2.1 ∧ (List.isEmpty e15.2.2.2.2.1) = (List.isEmpty e18.2.2.2.2.2.2.2.2.2.1)) ∧ True)) ∧
          LoopP (fun (d18 : Int) (q18 : (Int) → Prop) =>
           (I64 (e18.2.1 + d18)) ∧ ((lI e18.1) ≠ 0) ∧ (0 ≤ (Int.tmod (e18.2.1 + d18) (lI e18.1)) ∧ (Int.tmod (e18.2.1 + d18) (lI e18.1)) < e18.1.length ∧ e18.1.length ≤ 1000000) ∧ ((!(bB e18.1 (Int.tmod (e18.2.1 + d18) (lI e18.1)).toNat)) = true →
            (I64 (d18 + (1 : Int))) ∧ (∃ d19 : Int,((True ∧ True ∧ (((([] : List SV) = [])) ∧ (True ∧ (([] : List SV) = []))) ∧ e18.2.1 = e18.2.1 ∧ True ∧ True) ∧ ((e18.1 = e18.1 ∧ (([] : List SV) = [])) ∧ (e18.2.2.1 = e18.2.2.1 ∧ e18.2.2.2.1 = e18.2.2.2.1 ∧ (d18 + (1 : Int)) = d19 ∧ e18.2.2.2.2.1 = e18.2.2.2.2.1 ∧ (([] : List SV) = [])) ∧ (e18.2.2.2.2.2.2.2.2.2.2.2.2.2.2.2.2.2 = e18.2.2.2.2.2.2.2.2.2.2.2.2.2.2.2.2.2 ∧ (True ∧ True ∧ True ∧ True ∧ True ∧ True ∧ True ∧ True ∧ True ∧ True ∧ e18.2.2.2.2.2.2.2.2.1 = e18.2.2.2.2.2.2.2.2.1 ∧ True ∧ True ∧ True ∧ True ∧ True ∧ True ∧ True ∧ True ∧ True ∧ True ∧ True ∧ True ∧ True ∧ True ∧ True ∧ True ∧ True ∧ e18.2.2.2.2.2.2.2.2.2.2.1 = e18.2.2.2.2.2.2.2.2.2.2.1 ∧ e18.2.2.2.2.2.2.2.2.2.2.2.1 = e18.2.2.2.2.2.2.2.2.2.2.2.1 ∧ e18.2.2.2.2.2.2.2.2.2.2.2.2.1 = e18.2.2.2.2.2.2.2.2.2.2.2.2.1 ∧ e18.2.2.2.2.2.2.2.2.2.2.2.2.2.1 = e18.2.2.2.2.2.2.2.2.2.2.2.2.2.1 ∧ True ∧ e18.2.2.2.2.2.2.2.2.2.2.2.2.2.2.1 = e18.2.2.2.2.2.2.2.2.2.2.2.2.2.2.1 ∧ e18.2.2.2.2.2.2.2.2.2.2.2.2.2.2.2.1 = e18.2.2.2.2.2.2.2.2.2.2.2.2.2.2.2.1 ∧ ((e18.2.2.2.2.2.2.2.2.2.2.2.2.2.2.2.2.1 = e18.2.2.2.2.2.2.2.2.2.2.2.2.2.2.2.2.1 ∧ (([] : List SV) = [])) ∧ ((([] : List SV) = []))) ∧ True ∧ True ∧ True ∧ True ∧ True ∧ True ∧ True ∧ True ∧ True ∧ True ∧ True ∧ True ∧ True ∧ (([] : List SV) = []))) ∧ (e18.2.2.2.2.2.1 = e18.2.2.2.2.2.1 ∧ (([] : List SV) = [])) ∧ (True ∧ (([] : List SV) = [])) ∧ (e18.2.2.2.2.2.2.1 = e18.2.2.2.2.2.2.1 ∧ (List.isEmpty e18.2.2.2.2.2.2.1) = (List.isEmpty e18.2.2.2.2.2.2.1)) ∧ (e18.2.2.2.2.2.2.2.1 = e18.2.2.2.2.2.2.2.1 ∧ (([] : List SV) = [])) ∧ (e18.2.2.2.2.2.2.2.2.2.1 = e18.2.2.2.2.2.2.2.2.2.1 ∧ (List.isEmpty e18.2.2.2.2.2.2.2.2.2.1) = (List.isEmpty e18.2.2.2.2.2.2.2.2.2.1)) ∧ True)) ∧ q18 d19)) ∧
           ((!(bB e18.1 (Int.tmod (e18.2.1 + d18) (lI e18.1)).toNat)) = false →
            e18.2.2.2.2.2.2.2.2.2.2.2.2.2.2.2.2.2 = w5 ∧ ∀ w20 : List Value,((decide (d18 > e18.2.2.2.2.2.1)) = true →
             (((List.length e18.2.2.2.2.2.2.1) + (List.length [(e18.2.2.2.2.2.2.2.1,(e18.2.2.2.1,(d18,e18.2.2.2.2.1)))])) * 32 ≤ 70368744177664) ∧ w20 = w20 ∧ e18.2.2.2.2.2.2.2.2.2.2.2.2.2.2.2.2.2 = w5 ∧ ((!true) = true →
              e18.2.2.2.2.2.2.2.2.2.2.2.2.2.2.2.2.2 = w5 ∧ (I64 (e18.2.2.2.2.2.2.2.2.2.2.2.1 + (1 : Int))) ∧ (∃ d21 : (List (Int × Int × Int × Bool)) × Int,((True ∧ True ∧ True ∧ e18.2.2.2.2.2.2.2.2.2.2.1 = (lI (weaveC hk lw hd rows)) ∧ (e18.2.2.2.2.2.2.2.2.2.2.2.1 + (1 : Int)) = d21.2 ∧ True) ∧ ((e18.2.2.2.2.2.1 = bd ∧ (([] : List SV) = [])) ∧ (True ∧ (([] : List SV) = [])) ∧ ((e18.2.2.2.2.2.2.1 ++ [(e18.2.2.2.2.2.2.2.1,(e18.2.2.2.1,(d18,e18.2.2.2.2.1)))]) = d21.1 ∧ false = (List.isEmpty d21.1)) ∧ (e18.2.2.2.2.2.2.2.2.2.1 = (weaveC hk lw hd rows) ∧ (List.isEmpty e18.2.2.2.2.2.2.2.2.2.1) = (List.isEmpty (weaveC hk lw hd rows))) ∧ True)) ∧ q4 d21)) ∧
             ((!true) = false →
              (I64 (e18.2.1 + d18)) ∧ (∃ d22 : Int × (List (Int × Int × Int × Bool)),((True ∧ True ∧ (((([] : List SV) = [])) ∧ (True ∧ (([] : List SV) = []))) ∧ (e18.2.1 + d18) = d22.1 ∧ True) ∧ ((e18.1 = e15.1 ∧ (([] : List SV) = [])) ∧ (e15.2.2.2.2.2.2.2.2.2.2.2.2 = e18.2.2.2.2.2.2.2.2.2.2.2.2.2.2.2.2.2 ∧ (True ∧ True ∧ True ∧ True ∧ True ∧ True ∧ True ∧ True ∧ True ∧ True ∧ e18.2.2.2.2.2.2.2.2.1 = e15.2.2.2.1 ∧ True ∧ True ∧ True ∧ True ∧ True ∧ True ∧ True ∧ True ∧ True ∧ True ∧ True ∧ True ∧ True ∧ True ∧ True ∧ True ∧ True ∧ e18.2.2.2.2.2.2.2.2.2.2.1 = e15.2.2.2.2.2.1 ∧ e18.2.2.2.2.2.2.2.2.2.2.2.1 = e15.2.2.2.2.2.2.1 ∧ e18.2.2.2.2.2.2.2.2.2.2.2.2.1 = e15.2.2.2.2.2.2.2.1 ∧ e18.2.2.2.2.2.2.2.2.2.2.2.2.2.1 = e15.2.2.2.2.2.2.2.2.1 ∧ True ∧ e18.2.2.2.2.2.2.2.2.2.2.2.2.2.2.1 = e15.2.2.2.2.2.2.2.2.2.1 ∧ e18.2.2.2.2.2.2.2.2.2.2.2.2.2.2.2.1 = e15.2.2.2.2.2.2.2.2.2.2.1 ∧ ((e18.2.2.2.2.2.2.2.2.2.2.2.2.2.2.2.2.1 = e15.2.2.2.2.2.2.2.2.2.2.2.1 ∧ (([] : List SV) = [])) ∧ ((([] : List SV) = []))) ∧ True ∧ True ∧ True ∧ True ∧ True ∧ True ∧ True ∧ True ∧ True ∧ True ∧ True ∧ True ∧ True ∧ (([] : List SV) = []))) ∧ (e18.2.2.2.2.2.1 = e15.2.1 ∧ (([] : List SV) = [])) ∧ (True ∧ (([] : List SV) = [])) ∧ ((e18.2.2.2.2.2.2.1 ++ [(e18.2.2.2.2.2.2.2.1,(e18.2.2.2.1,(d18,e18.2.2.2.2.1)))]) = d22.2 ∧ false = (List.isEmpty d22.2)) ∧ (e18.2.2.2.2.2.2.2.1 = e15.2.2.1 ∧ (([] : List SV) = [])) ∧ (e18.2.2.2.2.2.2.2.2.2.1 = e15.2.2.2.2.1 ∧ (List.isEmpty e18.2.2.2.2.2.2.2.2.2.1) = (List.isEmpty e15.2.2.2.2.1)) ∧ True)) ∧ q15 d22))) ∧
            ((decide (d18 > e18.2.2.2.2.2.1)) = false →
             w20 = w20 ∧ e18.2.2.2.2.2.2.2.2.2.2.2.2.2.2.2.2.2 = w5 ∧ ((!true) = true →
              e18.2.2.2.2.2.2.2.2.2.2.2.2.2.2.2.2.2 = w5 ∧ (I64 (e18.2.2.2.2.2.2.2.2.2.2.2.1 + (1 : Int))) ∧ (∃ d23 : (List (Int × Int × Int × Bool)) × Int,((True ∧ True ∧ True ∧ e18.2.2.2.2.2.2.2.2.2.2.1 = (lI (weaveC hk lw hd rows)) ∧ (e18.2.2.2.2.2.2.2.2.2.2.2.1 + (1 : Int)) = d23.2 ∧ True) ∧ ((e18.2.2.2.2.2.1 = bd ∧ (([] : List SV) = [])) ∧ (True ∧ (([] : List SV) = [])) ∧ (e18.2.2.2.2.2.2.1 = d23.1 ∧ (List.isEmpty e18.2.2.2.2.2.2.1) = (List.isEmpty d23.1)) ∧ (e18.2.2.2.2.2.2.2.2.2.1 = (weaveC hk lw hd rows) ∧ (List.isEmpty e18.2.2.2.2.2.2.2.2.2.1) = (List.isEmpty (weaveC hk lw hd rows))) ∧ True)) ∧ q4 d23)) ∧
             ((!true) = false →
              (I64 (e18.2.1 + d18)) ∧ (∃ d24 : Int × (List (Int × Int × Int × Bool)),((True ∧ True ∧ (((([] : List SV) = [])) ∧ (True ∧ (([] : List SV) = []))) ∧ (e18.2.1 + d18) = d24.1 ∧ True) ∧ ((e18.1 = e15.1 ∧ (([] : List SV) = [])) ∧ (e15.2.2.2.2.2.2.2.2.2.2.2.2 = e18.2.2.2.2.2.2.2.2.2.2.2.2.2.2.2.2.2 ∧ (True ∧ True ∧ True ∧ True ∧ True ∧ True ∧ True ∧ True ∧ True ∧ True ∧ e18.2.2.2.2.2.2.2.2.1 = e15.2.2.2.1 ∧ True ∧ True ∧ True ∧ True ∧ True ∧ True ∧ True ∧ True ∧ True ∧ True ∧ True ∧ True ∧ True ∧ True ∧ True ∧ True ∧ True ∧ e18.2.2.2.2.2.2.2.2.2.2.1 = e15.2.2.2.2.2.1 ∧ e18.2.2.2.2.2.2.2.2.2.2.2.1 = e15.2.2.2.2.2.2.1 ∧ e18.2.2.2.2.2.2.2.2.2.2.2.2.1 = e15.2.2.2.2.2.2.2.1 ∧ e18.2.2.2.2.2.2.2.2.2.2.2.2.2.1 = e15.2.2.2.2.2.2.2.2.1 ∧ True ∧ e18.2.2.2.2.2.2.2.2.2.2.2.2.2.2.1 = e15.2.2.2.2.2.2.2.2.2.1 ∧ e18.2.2.2.2.2.2.2.2.2.2.2.2.2.2.2.1 = e15.2.2.2.2.2.2.2.2.2.2.1 ∧ ((e18.2.2.2.2.2.2.2.2.2.2.2.2.2.2.2.2.1 = e15.2.2.2.2.2.2.2.2.2.2.2.1 ∧ (([] : List SV) = [])) ∧ ((([] : List SV) = []))) ∧ True ∧ True ∧ True ∧ True ∧ True ∧ True ∧ True ∧ True ∧ True ∧ True ∧ True ∧ True ∧ True ∧ (([] : List SV) = []))) ∧ (e18.2.2.2.2.2.1 = e15.2.1 ∧ (([] : List SV) = [])) ∧ (True ∧ (([] : List SV) = [])) ∧ (e18.2.2.2.2.2.2.1 = d24.2 ∧ (List.isEmpty e18.2.2.2.2.2.2.1) = (List.isEmpty d24.2)) ∧ (e18.2.2.2.2.2.2.2.1 = e15.2.2.1 ∧ (([] : List SV) = [])) ∧ (e18.2.2.2.2.2.2.2.2.2.1 = e15.2.2.2.2.1 ∧ (List.isEmpty e18.2.2.2.2.2.2.2.2.2.1) = (List.isEmpty e15.2.2.2.2.1)) ∧ True)) ∧ q15 d24))))) d180) ∧
         ((decide (d15.1 < (lI e15.1))) = false →
          e15.2.2.2.2.2.2.2.2.2.2.2.2 = w5 ∧ (I64 (e15.2.2.2.2.2.2.1 + (1 : Int))) ∧ (∃ d25 : (List (Int × Int × Int × Bool)) × Int,((True ∧ True ∧ True ∧ e15.2.2.2.2.2.1 = (lI (weaveC hk lw hd rows)) ∧ (e15.2.2.2.2.2.2.1 + (1 : Int)) = d25.2 ∧ True) ∧ ((e15.2.1 = bd ∧ (([] : List SV) = [])) ∧ (True ∧ (([] : List SV) = [])) ∧ (d15.2 = d25.1 ∧ (List.isEmpty d15.2) = (List.isEmpty d25.1)) ∧ (e15.2.2.2.2.1 = (weaveC hk lw hd rows) ∧ (List.isEmpty e15.2.2.2.2.1) = (List.isEmpty (weaveC hk lw hd rows))) ∧ True)) ∧ q4 d25))) d150))) d80) ∧
    ((decide (d4.2 < (lI (weaveC hk lw hd rows)))) = false →
     ((True ∧ (0 : Int) = (floErr hk lw hd rows bd) ∧ (([] : List SV) = [])) ∧ ((d4.1 = (flC hk lw hd rows bd) ∧ (List.isEmpty d4.1) = (flC hk lw hd rows bd).isEmpty) ∧ True)))) d40))
def cx_tie_Floats_tie_pickOf_floats : Cx:=⟨[],[(110,s_tie_pickOf_floats_1)],64,[],0,[],[],[],[],false,[],[],[]⟩
def li_tie_Floats_tie_pickOf_floats : List (Nat × LoopAnn):=[(0,⟨(List UInt8) × Int × (List (Int × Int × Int × Bool)) × Int × (List UInt8) × (List (List UInt8)) × Int × Int × Bool × Int × (List UInt8) × (List UInt8) × (List UInt8) × LpD,Int,[1,2,4,5],fun e x=>[.dd 2000003 .yv,.box 200000400002 0,.fn 110 [] [.box 200000400002 0],.val (.i .i64) x],fun e x=>[(200000400002,.slot 2,.cells [.val .st e.1] (some 123)),(2000003,.key 2000003,.lpf [.any,.any,.any,.any,.any,.box 5 0,.box 6 0,.any,.any,.box 9 0,.val .st e.2.2.2.2.1,.any,.any,.any,.any,.any,.any,.any,.any,.any,.any,.any,.any,.any,.any,.any,.any,.lst 15,.val (.i .i64) e.2.2.2.2.2.2.1,.val (.i .i64) e.2.2.2.2.2.2.2.1,.val .bo e.2.2.2.2.2.2.2.2.1,.val (.i .i64) e.2.2.2.2.2.2.2.2.2.1,.any,.val .st e.2.2.2.2.2.2.2.2.2.2.1,.val .st e.2.2.2.2.2.2.2.2.2.2.2.1,.fn 73 [.val .st e.2.2.2.2.2.2.2.2.2.2.2.2.1] [],.any,.any,.any,.any,.any,.any,.any,.any,.any,.any,.any,.any,.any] e.2.2.2.2.2.2.2.2.2.2.2.2.2 .rdy),(5,.key 5,.cells [.val (.i .i64) e.2.1] (some 3)),(6,.key 6,.cells [.lst 46] (some 43)),(46,.cell 6 0,.lst 111 (.pair (.i .i64) (.pair (.i .i64) (.pair (.i .i64) .bo))) e.2.2.1 (List.isEmpty e.2.2.1)),(9,.key 9,.cells [.val (.i .i64) e.2.2.2.1] (some 3)),(15,.key 15,.lst 9 .st e.2.2.2.2.2.1 (List.isEmpty e.2.2.2.2.2.1))]⟩),
 (2,⟨(List UInt8) × Int × Int × (List UInt8) × (List (List UInt8)) × Int × Int × Bool × Int × (List UInt8) × (List UInt8) × (List UInt8) × LpD,Int × (List (Int × Int × Int × Bool)),[1,2,4,6],fun e x=>[.dd 2000003 .yv,.box 200000400002 0,.fn 110 [] [.box 200000400002 0],.val (.i .i64) x.1],fun e x=>[(200000400002,.slot 2,.cells [.val .st e.1] (some 123)),(2000003,.key 2000003,.lpf [.any,.any,.any,.any,.any,.box 5 0,.box 6 0,.any,.any,.box 9 0,.val .st e.2.2.2.1,.any,.any,.any,.any,.any,.any,.any,.any,.any,.any,.any,.any,.any,.any,.any,.any,.lst 15,.val (.i .i64) e.2.2.2.2.2.1,.val (.i .i64) e.2.2.2.2.2.2.1,.val .bo e.2.2.2.2.2.2.2.1,.val (.i .i64) e.2.2.2.2.2.2.2.2.1,.any,.val .st e.2.2.2.2.2.2.2.2.2.1,.val .st e.2.2.2.2.2.2.2.2.2.2.1,.fn 73 [.val .st e.2.2.2.2.2.2.2.2.2.2.2.1] [],.any,.any,.any,.any,.any,.any,.any,.any,.any,.any,.any,.any,.any] e.2.2.2.2.2.2.2.2.2.2.2.2 .rdy),(5,.key 5,.cells [.val (.i .i64) e.2.1] (some 3)),(6,.key 6,.cells [.lst 46] (some 43)),(46,.cell 6 0,.lst 111 (.pair (.i .i64) (.pair (.i .i64) (.pair (.i .i64) .bo))) x.2 (List.isEmpty x.2)),(9,.key 9,.cells [.val (.i .i64) e.2.2.1] (some 3)),(15,.key 15,.lst 9 .st e.2.2.2.2.1 (List.isEmpty e.2.2.2.2.1))]⟩),
 (4,⟨(List UInt8) × Int × Int × Int × Bool × Int × (List (Int × Int × Int × Bool)) × Int × (List UInt8) × (List (List UInt8)) × Int × Int × Bool × Int × (List UInt8) × (List UInt8) × (List UInt8) × LpD,Int,[1,2,4,6,7],fun e x=>[.dd 2000003 .yv,.box 200000400002 0,.fn 110 [] [.box 200000400002 0],.val (.i .i64) e.2.1,.box 200000400007 0],fun e x=>[(200000400002,.slot 2,.cells [.val .st e.1] (some 123)),(200000400007,.slot 7,.cells [.val (.i .i64) e.2.2.1,.val (.i .i64) e.2.2.2.1,.val (.i .i64) x,.val .bo e.2.2.2.2.1] (some 111)),(2000003,.key 2000003,.lpf [.any,.any,.any,.any,.any,.box 5 0,.box 6 0,.any,.any,.box 9 0,.val .st e.2.2.2.2.2.2.2.2.1,.any,.any,.any,.any,.any,.any,.any,.any,.any,.any,.any,.any,.any,.any,.any,.any,.lst 15,.val (.i .i64) e.2.2.2.2.2.2.2.2.2.2.1,.val (.i .i64) e.2.2.2.2.2.2.2.2.2.2.2.1,.val .bo e.2.2.2.2.2.2.2.2.2.2.2.2.1,.val (.i .i64) e.2.2.2.2.2.2.2.2.2.2.2.2.2.1,.any,.val .st e.2.2.2.2.2.2.2.2.2.2.2.2.2.2.1,.val .st e.2.2.2.2.2.2.2.2.2.2.2.2.2.2.2.1,.fn 73 [.val .st e.2.2.2.2.2.2.2.2.2.2.2.2.2.2.2.2.1] [],.any,.any,.any,.any,.any,.any,.any,.any,.any,.any,.any,.any,.any] e.2.2.2.2.2.2.2.2.2.2.2.2.2.2.2.2.2 .rdy),(5,.key 5,.cells [.val (.i .i64) e.2.2.2.2.2.1] (some 3)),(6,.key 6,.cells [.lst 46] (some 43)),(46,.cell 6 0,.lst 111 (.pair (.i .i64) (.pair (.i .i64) (.pair (.i .i64) .bo))) e.2.2.2.2.2.2.1 (List.isEmpty e.2.2.2.2.2.2.1)),(9,.key 9,.cells [.val (.i .i64) e.2.2.2.2.2.2.2.1] (some 3)),(15,.key 15,.lst 9 .st e.2.2.2.2.2.2.2.2.2.1 (List.isEmpty e.2.2.2.2.2.2.2.2.2.1))]⟩)]
def cx_tie_Floats : Cx:=⟨[(3,(.i .i64)),(111,(.pair (.i .i64) (.pair (.i .i64) (.pair (.i .i64) .bo))))],[(21,s_tie_Weave),(67,s_tie_within)],49,[],0,[],[],[],[],false,[],[(73,inlI cx_tie_Floats_tie_pickOf_floats li_tie_Floats_tie_pickOf_floats c73 64)],[]⟩
def lp_tie_Floats (hk : Int) (lw : List Int) (hd : Int) (rows : List Int) (bd : Int) : List (Nat × LoopAnn):=[(1,⟨Unit,(List (Int × Int × Int × Bool)) × Int,[5,6,27,28,29],fun e x=>[.box 5 0,.box 6 0,.lst 15,.val (.i .i64) (((List.length (weaveC hk lw hd rows)) : Nat) : Int),.val (.i .i64) x.2],fun e x=>[(5,.slot 5,.cells [.val (.i .i64) bd] (some 3)),(6,.slot 6,.cells [.lst 46] (some 43)),(46,.cell 6 0,.lst 111 (.pair (.i .i64) (.pair (.i .i64) (.pair (.i .i64) .bo))) x.1 (List.isEmpty x.1)),(15,.slot 27,.lst 9 .st (weaveC hk lw hd rows) (List.isEmpty (weaveC hk lw hd rows)))]⟩)]
set_option maxRecDepth 100000 in
theorem vq_tie_Floats (d : (Int × List Int) × (Int × List Int) × Int) : gwp (cx_tie_Floats) (lp_tie_Floats d.1.1 d.1.2 d.2.1.1 d.2.1.2 d.2.2) c22 0 (gend [.cell 6 false 1,.tmp 7] (res_tie_Floats d) (obs_tie_Floats d)) (gstart 49 (AL.can al_tie_Floats d)) = vc_tie_Floats d.1.1 d.1.2 d.2.1.1 d.2.1.2 d.2.2:=by kernel_rfl
abbrev Ok_tie_Floats : Prop:=OkC Tryz.prog 22 s_tie_Floats
theorem mk_tie_Floats (h : ∀ (hk : Int) (lw : List Int) (hd : Int) (rows : List Int) (bd : Int),(lw.length ≤ 110 ∧ rows.length ≤ 110) → vc_tie_Floats hk lw hd rows bd) : OkC Tryz.prog 22 s_tie_Floats :=
 okC_vc fun22 mixed (C:=cx_tie_Floats) (V:=fun (d : (Int × List Int) × (Int × List Int) × Int)=>vc_tie_Floats d.1.1 d.1.2 d.2.1.1 d.2.1.2 d.2.2) ⟨(.cons ok_tie_Weave (.cons ok_tie_within .nil)),XsOk.nil,ItsOk.nil,YlOk.nil,(IysOk.cons (inlI_ok fun73 mixed (C:=cx_tie_Floats_tie_pickOf_floats) ⟨(.cons ok_tie_pickOf_floats_1 .nil),XsOk.nil,ItsOk.nil,YlOk.nil,IysOk.nil⟩ li_tie_Floats_tie_pickOf_floats) IysOk.nil)⟩ (vq_tie_Floats) fun d hp=>h d.1.1 d.1.2 d.2.1.1 d.2.1.2 d.2.2 hp
theorem ok_tie_Floats : Ok_tie_Floats:=mk_tie_Floats fun hk lw hd rows bd h=>by
 unfold vc_tie_Floats; (try delta lI gD sT I64)
 have ea : (!(!([bd].any fun n=>decide (n < 0) || decide (1000 < n)))) = !inI bd 0 1000:=by rw [Bool.eq_iff_iff]; simp [inI] <;> omega
 rw [ea]
 refine ⟨h,fun he=>?_,fun he=>⟨by simp,fun hb=>?_,fun hb=>?_⟩⟩
 ·have he : weaveErr hk lw hd rows ≠ 0:=by simpa using he
  have e : floErr hk lw hd rows bd = weaveErr hk lw hd rows:=by simp [floErr,he]
  have e2 : flC hk lw hd rows bd = []:=by simp [flC,e,he]
  rw [e,e2]; exact (by and_intros <;> first | rfl | trivial | simp)
 ·have he : weaveErr hk lw hd rows = 0:=by simpa using he
  have hb : inI bd 0 1000 = false:=by simpa using hb
  have e : floErr hk lw hd rows bd = 3:=by simp [floErr,he,hb]
  have e2 : flC hk lw hd rows bd = []:=by simp [flC,e]
  rw [e,e2]; exact (by and_intros <;> first | rfl | trivial | simp)
 have he : weaveErr hk lw hd rows = 0:=by simpa using he
 have hb : inI bd 0 1000 = true:=by simpa using hb
 have e : floErr hk lw hd rows bd = 0:=by simp [floErr,he,hb]
 have e2 : flC hk lw hd rows bd = flAll bd (weaveC hk lw hd rows):=by simp [flC,e]
 rw [e,e2]
 have hbd : 0 ≤ bd ∧ bd ≤ 1000:=by simpa [inI] using hb
 obtain ⟨z1,z2,z3⟩:=weaveErr_zero he
 obtain ⟨t1,t2,t3,t4,t5⟩:=tieErr_zero z1
 have hc : ∀ s ∈ weaveC hk lw hd rows,s.length = lw.length ∧ ∀ b ∈ s,b = 120 ∨ b = 46:=fun s hs=>by
  simp only [weaveC,he,if_true,List.mem_map] at hs
  obtain ⟨r,_,rfl⟩:=hs
  exact ⟨pickS_length lw r,pickS_x⟩
 have hcl : (weaveC hk lw hd rows).length ≤ 110:=by
  simp only [weaveC,he,if_true,List.length_map]; omega
 have hlw : 0 < lw.length ∧ lw.length ≤ 96:=by omega
 clear e e2 z1 z2 z3 ea hb he h t1 t2 t3 t4 t5
 generalize weaveC hk lw hd rows = c at hc hcl ⊢
 refine ⟨(),([],0),(by and_intros <;> first | rfl | trivial | simp),?_⟩
 refine LoopP.count2 c.length (fun i xs=>xs = flAllN bd c i) (by simp [flAllN]) fun i xs hi hJ q hq=>?_
 subst hJ
 have hl:=flAllN_len bd c 110 (fun s hs=>by have:=(hc s hs).1; omega) i hi
 dsimp only
 refine ⟨fun hlt=>?_,fun hge=>?_⟩
 ·have hlt : i < c.length:=by simp only [decide_eq_true_eq] at hlt; omega
  have hn:=flAllN_succ bd c i
  have hs1:=hc (c.getD i []) (by rw [getD_nat hlt]; exact List.getElem_mem hlt)
  refine ⟨by omega,by omega,fun w5=>?_⟩
  simp only [Int.toNat_natCast]
  generalize hss : c.getD i [] = s at hn hs1 ⊢
  obtain ⟨hs1,hs2⟩:=hs1
  refine ⟨(s,bd,flAllN bd c i,(i : Int),_,c,(c.length : Int),(i : Int),_,_,_,_,_,_),0,(by and_intros <;> first | rfl | trivial | simp),?_⟩
  dsimp only
  have hpl:=ptsX_length s
  have hB : ∀ w,w < s.length → bB s w = bgB (ptsX s) w:=fun w hw=>bB_bgB hs2 hw
  have hG : ∀ w,w < s.length → (s.getD w 0 == 120) = (ptsX s).getD w false:=fun w hw=>(ptsX_getD hw).symm
  simp only [u120]
  have h0 : ptsX s ≠ []:=fun e=>by rw [e] at hpl; simp at hpl; omega
  generalize ptsX s = p at hn hpl hB hG h0
  have hrl:=flRow_len i bd p
  rw [← hpl] at hn
  refine LoopP.count s.length (fun k=>∀ j,j < k → bgB p j = false) (fun j hj=>by omega) fun k hk hJ q2 hq2=>?_
  have ekn : ((k : Int)).toNat = k:=Int.toNat_natCast k
  simp only [ekn,InK_i64]
  refine ⟨fun hg=>by simp only [decide_eq_true_eq] at hg; omega,fun hg=>?_,fun hg=>?_⟩
  ·simp only [Bool.and_eq_true,decide_eq_true_eq,Bool.not_eq_true'] at hg
   obtain ⟨hg1,hg2⟩:=hg
   refine ⟨by omega,_,(by and_intros <;> first | rfl | trivial | simp),hq2 (by omega) fun j hj=>?_⟩
   rcases Nat.lt_succ_iff_lt_or_eq.1 hj with hj | rfl
   ·exact hJ j hj
   ·rw [← hB _ (by omega)]; exact hg2
  ·refine ⟨fun hk2=>?_,fun hk2=>?_⟩
   ·have hk2 : k = s.length:=by simp only [beq_iff_eq] at hk2; omega
    have hnone:=flRow_none (i:=i) (bd:=bd) h0 fun j hj=>hJ j (by omega)
    rw [hnone] at hn
    have hg0:=hG 0 (by omega)
    refine ⟨by omega,by omega,by trivial,fun w10=>⟨fun hgt=>?_,fun hle=>?_⟩⟩
    ·have hgt : bd < 1000:=by simp only [decide_eq_true_eq] at hgt; omega
     refine ⟨by simp only [List.length_singleton]; omega,?_⟩
     repeat first | refine ⟨trivial,?_⟩ | refine ⟨rfl,?_⟩
     refine ⟨by omega,(flAllN bd c (i + 1),(i : Int) + 1),?_,hq _ hlt rfl⟩
     rw [hn,if_pos hgt,← hg0]
     exact (by and_intros <;> first | rfl | trivial | simp)
    ·have hle : ¬ bd < 1000:=by simp only [decide_eq_false_iff_not] at hle; omega
     rw [if_neg hle,List.append_nil] at hn
     repeat first | refine ⟨trivial,?_⟩ | refine ⟨rfl,?_⟩
     exact ⟨by omega,(flAllN bd c i,(i : Int) + 1),(by and_intros <;> first | rfl | trivial | simp),hq _ hlt hn.symm⟩
   ·have hk2 : k < s.length:=by simp only [beq_eq_false_iff_ne,ne_eq] at hk2; omega
    have hgk : bgB p k = true:=by
     rw [← hB k hk2]
     have : (k : Int) < (s.length : Int):=by omega
     simpa [this] using hg
    refine ⟨(s,bd,(i : Int),_,c,(c.length : Int),(i : Int),_,_,_,_,_,_),((k : Int),flAllN bd c i),(by and_intros <;> first | rfl | trivial | simp),?_⟩
    dsimp only
    refine ⟨fun d=>∃ f : Nat,d = ((f : Int),flAllN bd c i ++ flRow i bd p (min f p.length)) ∧ (f < p.length → bgB p f = true),fun d=>p.length - d.1.toNat,⟨k,?_,fun _=>hgk⟩,?_⟩
    ·rw [show min k p.length = k by omega,flRow_before (by omega) hgk hJ,List.append_nil]
    rintro _ ⟨f,rfl,hgf⟩
    dsimp only
    have hrf:=hrl (min f p.length)
    have hxl : (flAllN bd c i ++ flRow i bd p (min f p.length)).length ≤ 110 * 110 + 110:=by rw [List.length_append]; omega
    refine ⟨fun hf=>?_,fun hf=>?_⟩
    ·have hf : f < p.length:=by simp only [decide_eq_true_eq] at hf; omega
     have hgf:=hgf hf
     refine ⟨by omega,by omega,?_⟩
     simp only [Int.toNat_natCast]
     refine ⟨(s,(f : Int),0,(f : Int),(s.getD f 0 == 120),bd,flAllN bd c i ++ flRow i bd p (min f p.length),(i : Int),_,c,(c.length : Int),(i : Int),_,_,_,_,_,_),1,(by and_intros <;> first | rfl | trivial | simp),?_⟩
     dsimp only
     refine ⟨fun d=>∃ L : Nat,d = L ∧ 1 ≤ L ∧ L ≤ p.length ∧ ∀ j,1 ≤ j → j < L → bgB p (f + j) = false,fun d=>p.length + 1 - d.toNat,⟨1,rfl,by omega,by omega,fun j h1 h2=>by omega⟩,?_⟩
     rintro _ ⟨L,rfl,hL1,hL2,hJ2⟩
     have e3 : (f : Int) + (L : Int) = ((f + L : Nat) : Int):=by omega
     have hm : (f + L) % s.length < s.length:=Nat.mod_lt _ (by omega)
     have hBm : bB s ((f + L) % s.length) = bgB p (f + L):=by rw [hB _ hm,← hpl,bgB_mod h0]
     simp only [e3,tmodN,Int.toNat_natCast,hBm]
     refine ⟨by omega,by omega,⟨by omega,by omega,by omega⟩,fun hx=>?_,fun hx=>?_⟩
     ·have hx : bgB p (f + L) = false:=by simpa using hx
      have hL3 : L < p.length:=by
       rcases Nat.lt_or_ge L p.length with h1 | h1
       ·exact h1
       ·exfalso
        have : L = p.length:=by omega
        subst this
        rw [← bgB_mod h0,Nat.add_mod_right,bgB_mod h0,hgf] at hx
        cases hx
      refine ⟨by omega,((L : Int) + 1),(by and_intros <;> first | rfl | trivial | simp),⟨L + 1,by omega,by omega,by omega,fun j h1 h2=>?_⟩,by omega⟩
      rcases Nat.lt_succ_iff_lt_or_eq.1 h2 with h2 | rfl
      ·exact hJ2 j h1 h2
      ·exact hx
     ·have hx : bgB p (f + L) = true:=by simpa using hx
      have hnx:=flRow_next (i:=i) (bd:=bd) hf hgf hL1 hL2 hJ2 hx
      have hmf : min f p.length = f:=by omega
      rw [hmf] at hxl ⊢
      have hgx:=hG f (by omega)
      refine ⟨by trivial,fun w20=>⟨fun hgt=>?_,fun hle=>?_⟩⟩
      ·have hgt : bd < (L : Int):=by simp only [decide_eq_true_eq] at hgt; omega
       rw [if_pos hgt] at hnx
       refine ⟨by simp only [List.length_singleton]; omega,?_⟩
       repeat first | refine ⟨trivial,?_⟩ | refine ⟨rfl,?_⟩
       refine ⟨(fun hf=>by cases hf),fun _=>⟨by omega,(((f + L : Nat) : Int),flAllN bd c i ++ flRow i bd p (min (f + L) p.length)),?_,⟨f + L,rfl,fun h=>hx⟩,by simp only [Int.toNat_natCast]; omega⟩⟩
       rw [hnx,← hgx,List.append_assoc]
       exact (by and_intros <;> first | rfl | trivial | simp)
      ·have hle : ¬ bd < (L : Int):=by simp only [decide_eq_false_iff_not] at hle; omega
       rw [if_neg hle,List.append_nil] at hnx
       repeat first | refine ⟨trivial,?_⟩ | refine ⟨rfl,?_⟩
       refine ⟨(fun hf=>by cases hf),fun _=>⟨by omega,(((f + L : Nat) : Int),flAllN bd c i ++ flRow i bd p f),(by and_intros <;> first | rfl | trivial | simp),⟨f + L,by rw [hnx],fun h=>hx⟩,by simp only [Int.toNat_natCast]; omega⟩⟩
    ·have hf : p.length ≤ f:=by simp only [decide_eq_false_iff_not] at hf; omega
     rw [show min f p.length = p.length by omega,← hn]
     repeat first | refine ⟨trivial,?_⟩ | refine ⟨rfl,?_⟩
     exact ⟨by omega,(flAllN bd c (i + 1),(i : Int) + 1),(by and_intros <;> first | rfl | trivial | simp),hq _ hlt rfl⟩
 ·have : i = c.length:=by simp only [decide_eq_false_iff_not] at hge; omega
  subst this
  exact (by and_intros <;> first | rfl | trivial | simp)
end Go.Proofs.Tryz
set_option linter.unusedVariables false
namespace Go.Proofs.Tryz
open Go Go.V Go.Proofs
def al_ref03_Cloth : AL ((Int × List Int) × Int × List Int):=(.cons (.agg (.cons (.k (.i .i64)) (.one (.k (.list (.i .i64)))))) (.one (.agg (.cons (.k (.i .i64)) (.one (.k (.list (.i .i64))))))))
def pre_ref03_Cloth (d : (Int × List Int) × Int × List Int) : Prop:=weaveErr d.1.1 d.1.2 d.2.1 d.2.2 = 0
def res_ref03_Cloth (d : (Int × List Int) × Int × List Int) : SV:=.lst 0
def obs_ref03_Cloth (d : (Int × List Int) × Int × List Int) : List OB:=[.lst 9 .st (weaveC d.1.1 d.1.2 d.2.1 d.2.2) false]
def s_ref03_Cloth : CSp:=mkSp al_ref03_Cloth pre_ref03_Cloth res_ref03_Cloth obs_ref03_Cloth
def vc_ref03_Cloth (hk : Int) (lw : List Int) (hd : Int) (rows : List Int) : Prop :=
 (rows.length ≤ 1000 ∧ (∀ x ∈ rows,0 ≤ x ∧ x < 9223372036854775808) ∧ 0 ≤ hd ∧ hd ≤ 64) ∧ ∃ (e3 : Unit) (d30 : (List (List UInt8)) × Int),((True ∧ True ∧ True ∧ (0 : Int) = d30.2 ∧ True) ∧ ((hk = hk ∧ lw = lw ∧ (([] : List SV) = [])) ∧ (([] : List (List UInt8)) = d30.1 ∧ false = false) ∧ ((rows.map fun r=>ptsL r hd.toNat) = (rows.map fun r=>ptsL r hd.toNat) ∧ false = false) ∧ True)) ∧
 LoopP (fun (d3 : (List (List UInt8)) × Int) (q3 : ((List (List UInt8)) × Int) → Prop) =>
  ((decide (d3.2 < (lI (rows.map fun r=>ptsL r hd.toNat)))) = true →
   ∃ (e6 : (List (List UInt8)) × Int) (d60 : (List UInt8) × Int),((True ∧ True ∧ True ∧ d3.2 = e6.2 ∧ [] = d60.1 ∧ (0 : Int) = d60.2 ∧ True) ∧ ((hk = hk ∧ lw = lw ∧ (([] : List SV) = [])) ∧ (d3.1 = e6.1 ∧ false = false) ∧ ((rows.map fun r=>ptsL r hd.toNat) = (rows.map fun r=>ptsL r hd.toNat) ∧ false = false) ∧ True)) ∧
   LoopP (fun (d6 : (List UInt8) × Int) (q6 : ((List UInt8) × Int) → Prop) =>
    ((decide (d6.2 < (lI lw))) = true →
     (0 ≤ e6.2) ∧ (e6.2 < (List.length (rows.map fun r=>ptsL r hd.toNat))) ∧ (0 ≤ d6.2) ∧ (d6.2 < (List.length lw)) ∧ (0 ≤ (gD lw d6.2 0)) ∧ ((gD lw d6.2 0) < (List.length (gD (rows.map fun r=>ptsL r hd.toNat) e6.2 []))) ∧ ((gD (gD (rows.map fun r=>ptsL r hd.toNat) e6.2 []) (gD lw d6.2 0) false) = true →
      ((List.length d6.1) + (List.length [120]) ≤ 4611686018427387904) ∧ (I64 (d6.2 + (1 : Int))) ∧ (∃ d7 : (List UInt8) × Int,((True ∧ True ∧ True ∧ e6.2 = e6.2 ∧ (d6.1 ++ [120]) = d7.1 ∧ (d6.2 + (1 : Int)) = d7.2 ∧ True) ∧ ((hk = hk ∧ lw = lw ∧ (([] : List SV) = [])) ∧ (e6.1 = e6.1 ∧ false = false) ∧ ((rows.map fun r=>ptsL r hd.toNat) = (rows.map fun r=>ptsL r hd.toNat) ∧ false = false) ∧ True)) ∧ q6 d7)) ∧
     ((gD (gD (rows.map fun r=>ptsL r hd.toNat) e6.2 []) (gD lw d6.2 0) false) = false →
      ((List.length d6.1) + (List.length [46]) ≤ 4611686018427387904) ∧ (I64 (d6.2 + (1 : Int))) ∧ (∃ d8 : (List UInt8) × Int,((True ∧ True ∧ True ∧ e6.2 = e6.2 ∧ (d6.1 ++ [46]) = d8.1 ∧ (d6.2 + (1 : Int)) = d8.2 ∧ True) ∧ ((hk = hk ∧ lw = lw ∧ (([] : List SV) = [])) ∧ (e6.1 = e6.1 ∧ false = false) ∧ ((rows.map fun r=>ptsL r hd.toNat) = (rows.map fun r=>ptsL r hd.toNat) ∧ false = false) ∧ True)) ∧ q6 d8))) ∧
    ((decide (d6.2 < (lI lw))) = false →
     (((List.length e6.1) + (List.length [d6.1])) * 16 ≤ 70368744177664) ∧ (I64 (e6.2 + (1 : Int))) ∧ (∃ d9 : (List (List UInt8)) × Int,((True ∧ True ∧ True ∧ (e6.2 + (1 : Int)) = d9.2 ∧ True) ∧ ((hk = hk ∧ lw = lw ∧ (([] : List SV) = [])) ∧ ((e6.1 ++ [d6.1]) = d9.1 ∧ false = false) ∧ ((rows.map fun r=>ptsL r hd.toNat) = (rows.map fun r=>ptsL r hd.toNat) ∧ false = false) ∧ True)) ∧ q3 d9))) d60) ∧
  ((decide (d3.2 < (lI (rows.map fun r=>ptsL r hd.toNat)))) = false →
   (True ∧ ((d3.1 = (weaveC hk lw hd rows) ∧ false = false) ∧ True)))) d30
def cx_ref03_Cloth : Cx:=⟨[(9,.st)],[(76,s_ref01_Table)],46,[],0,[],[],[],[],false,[],[],[]⟩
def lp_ref03_Cloth (hk : Int) (lw : List Int) (hd : Int) (rows : List Int) : List (Nat × LoopAnn):=[(0,⟨Unit,(List (List UInt8)) × Int,[2,5,6,7],fun e x=>[.box 2 0,.lst 10,.dd 12 .out,.val (.i .i64) x.2],fun e x=>[(2,.slot 2,.cells [.val (.i .i64) hk,.val (.list (.i .i64)) lw] (some 26)),(10,.slot 5,.lst 9 .st x.1 false),(12,.slot 6,.deep 126 (some 4) (.list .bo) (rows.map fun r=>ptsL r hd.toNat) false none)]⟩),
 (2,⟨(List (List UInt8)) × Int,(List UInt8) × Int,[2,5,6,7,8,9],fun e x=>[.box 2 0,.lst 10,.dd 12 .out,.val (.i .i64) e.2,.val .st x.1,.val (.i .i64) x.2],fun e x=>[(2,.slot 2,.cells [.val (.i .i64) hk,.val (.list (.i .i64)) lw] (some 26)),(10,.slot 5,.lst 9 .st e.1 false),(12,.slot 6,.deep 126 (some 4) (.list .bo) (rows.map fun r=>ptsL r hd.toNat) false none)]⟩)]
set_option maxRecDepth 100000 in
theorem vq_ref03_Cloth (d : (Int × List Int) × Int × List Int) : gwp (cx_ref03_Cloth) (lp_ref03_Cloth d.1.1 d.1.2 d.2.1 d.2.2) c25 0 (gend [.tmp 4] (res_ref03_Cloth d) (obs_ref03_Cloth d)) (gstart 46 (AL.can al_ref03_Cloth d)) = vc_ref03_Cloth d.1.1 d.1.2 d.2.1 d.2.2:=by kernel_rfl
abbrev Ok_ref03_Cloth : Prop:=OkC Tryz.prog 25 s_ref03_Cloth
theorem mk_ref03_Cloth (h : ∀ (hk : Int) (lw : List Int) (hd : Int) (rows : List Int),(weaveErr hk lw hd rows = 0) → vc_ref03_Cloth hk lw hd rows) : OkC Tryz.prog 25 s_ref03_Cloth :=
 okC_vc fun25 mixed (C:=cx_ref03_Cloth) (V:=fun (d : (Int × List Int) × Int × List Int)=>vc_ref03_Cloth d.1.1 d.1.2 d.2.1 d.2.2) ⟨(.cons ok_ref01_Table .nil),XsOk.nil,ItsOk.nil,YlOk.nil,IysOk.nil⟩ (vq_ref03_Cloth) fun d hp=>h d.1.1 d.1.2 d.2.1 d.2.2 hp
theorem ok_ref03_Cloth : Ok_ref03_Cloth:=mk_ref03_Cloth fun hk lw hd rows h=>by
 unfold vc_ref03_Cloth; (try delta lI gD sT I64)
 obtain ⟨e1,e2,rfl⟩:=weaveErr_zero h
 obtain ⟨t1,t2,t3,t4,t5⟩:=tieErr_zero e1
 obtain ⟨p1,p2,p3,p4,p5⟩:=pointErr_zero e2
 have hpw:=pow_bound p1 p2
 have hC : weaveC hd lw hd rows = rows.map (pickS lw):=by simp [weaveC,h]
 rw [hC]
 have hT : ∀ i,i < rows.length → (rows.map fun r=>ptsL r hd.toNat).getD i [] = ptsL (rows.getD i 0) hd.toNat:=fun i hi=>by
  rw [getD_nat (by simpa using hi),getD_nat hi]; simp
 have hTl : (rows.map fun r=>ptsL r hd.toNat).length = rows.length:=by simp
 generalize hTT : (rows.map fun r=>ptsL r hd.toNat) = T at hT hTl ⊢
 (try simp only [decide_eq_true_eq,decide_eq_false_iff_not])
 refine ⟨⟨by omega,fun x hx=>by have:=p5 x hx; omega,by omega,by omega⟩,(),([],0),(by and_intros <;> first | rfl | trivial | simp),?_⟩
 refine LoopP.count2 rows.length (fun i xs=>xs = (rows.take i).map (pickS lw)) (by simp) fun i xs hi hJ q hq=>?_
 have hxl : xs.length = i:=by rw [hJ]; simp; omega
 subst hJ
 dsimp only
 simp only [InK_i64,hTl]
 refine ⟨fun hlt=>⟨((rows.take i).map (pickS lw),(i : Int)),([],0),(by and_intros <;> first | rfl | trivial | simp),?_⟩,fun hge=>?_⟩
 ·have hlt : i < rows.length:=by omega
  dsimp only
  refine LoopP.count2 lw.length (fun j s=>s = pickS (lw.take j) (rows.getD i 0)) (by simp [pickS]) fun j s hj hJ q2 hq2=>?_
  have hsl : s.length = j:=by rw [hJ,pickS_length]; simp; omega
  dsimp only
  simp only [Int.toNat_natCast,hT i hlt,ptsL_len]
  refine ⟨fun hlt2=>?_,fun hge=>?_⟩
  ·have hlt2 : j < lw.length:=by omega
   have hx:=t5 _ (List.getElem_mem hlt2)
   have hs : pickS (lw.take (j + 1)) (rows.getD i 0) = s ++ [if (rows.getD i 0).toNat.testBit (lw[j]).toNat then 120 else 46]:=by
    rw [take_succ_eq hlt2,pickS,List.map_append,hJ]; rfl
   rw [getD_nat hlt2,ptsL_getD (by omega)]
   simp only [List.length_singleton]
   refine ⟨by omega,by omega,by omega,by omega,by omega,by omega,fun hb=>?_,fun hb=>?_⟩
   ·refine ⟨by omega,by omega,(_,_),(by and_intros <;> first | rfl | trivial | simp),hq2 _ hlt2 ?_⟩
    rw [hs,if_pos hb]
   ·refine ⟨by omega,by omega,(_,_),(by and_intros <;> first | rfl | trivial | simp),hq2 _ hlt2 ?_⟩
    rw [hs,hb]; rfl
  ·have : j = lw.length:=by omega
   subst this
   rw [List.take_length] at hJ
   simp only [List.length_singleton]
   refine ⟨by omega,by omega,(_,_),(by and_intros <;> first | rfl | trivial | simp),hq _ hlt ?_⟩
   rw [take_succ_eq hlt,List.map_append,hJ,getD_nat hlt]; rfl
 ·have : i = rows.length:=by omega
  subst this
  rw [List.take_length]
  exact (by and_intros <;> first | rfl | trivial | simp)
def al_ref03_Floats : AL (List (List UInt8) × Int):=(.cons (.k (.list .st)) (.one (.k (.i .i64))))
def pre_ref03_Floats (d : List (List UInt8) × Int) : Prop:=d.1.length ≤ 1000 ∧ (∀ s ∈ d.1,s.length ≤ 1000)
def res_ref03_Floats (d : List (List UInt8) × Int) : SV:=.lst 0
def obs_ref03_Floats (d : List (List UInt8) × Int) : List OB:=[.lst 111 (.pair (.i .i64) (.pair (.i .i64) (.pair (.i .i64) .bo))) (flAll d.2 d.1) false]
def s_ref03_Floats : CSp:=mkSp al_ref03_Floats pre_ref03_Floats res_ref03_Floats obs_ref03_Floats
def vc_ref03_Floats (c : List (List UInt8)) (bd : Int) : Prop :=
 ∃ (e2 : Unit) (d20 : (List (Int × Int × Int × Bool)) × Int),((c = c ∧ bd = bd ∧ True ∧ (0 : Int) = d20.2 ∧ True) ∧ ((([] : List (Int × Int × Int × Bool)) = d20.1 ∧ false = false) ∧ True)) ∧
 LoopP (fun (d2 : (List (Int × Int × Int × Bool)) × Int) (q2 : ((List (Int × Int × Int × Bool)) × Int) → Prop) =>
  ((decide (d2.2 < (lI c))) = true →
   (0 ≤ d2.2) ∧ (d2.2 < (List.length c)) ∧ ((gD c d2.2 []).length ≤ 1000) ∧ ∃ (e5 : Int × (List Bool)) (d50 : (List (Int × Int × Int × Bool)) × Int),((c = c ∧ bd = bd ∧ True ∧ d2.2 = e5.1 ∧ True ∧ (0 : Int) = d50.2 ∧ True) ∧ ((d2.1 = d50.1 ∧ false = false) ∧ ((ptsX (gD c d2.2 [])) = e5.2 ∧ false = false) ∧ True)) ∧
   LoopP (fun (d5 : (List (Int × Int × Int × Bool)) × Int) (q5 : ((List (Int × Int × Int × Bool)) × Int) → Prop) =>
    ((decide (d5.2 < (lI e5.2))) = true →
     (0 ≤ d5.2 ∧ d5.2 < e5.2.length ∧ e5.2.length ≤ 1000) ∧ (((decide (((flLen e5.2 d5.2.toNat : Nat) : Int) > (0 : Int))) && (decide (((flLen e5.2 d5.2.toNat : Nat) : Int) > bd))) = true →
      (0 ≤ d5.2) ∧ (d5.2 < (List.length e5.2)) ∧ (((List.length d5.1) + (List.length [(e5.1,(d5.2,(((flLen e5.2 d5.2.toNat : Nat) : Int),(gD e5.2 d5.2 false))))])) * 32 ≤ 70368744177664) ∧ (I64 (d5.2 + (1 : Int))) ∧ (∃ d6 : (List (Int × Int × Int × Bool)) × Int,((c = c ∧ bd = bd ∧ True ∧ e5.1 = e5.1 ∧ True ∧ (d5.2 + (1 : Int)) = d6.2 ∧ True) ∧ (((d5.1 ++ [(e5.1,(d5.2,(((flLen e5.2 d5.2.toNat : Nat) : Int),(gD e5.2 d5.2 false))))]) = d6.1 ∧ false = false) ∧ (e5.2 = e5.2 ∧ false = false) ∧ True)) ∧ q5 d6)) ∧
     (((decide (((flLen e5.2 d5.2.toNat : Nat) : Int) > (0 : Int))) && (decide (((flLen e5.2 d5.2.toNat : Nat) : Int) > bd))) = false →
      (I64 (d5.2 + (1 : Int))) ∧ (∃ d7 : (List (Int × Int × Int × Bool)) × Int,((c = c ∧ bd = bd ∧ True ∧ e5.1 = e5.1 ∧ True ∧ (d5.2 + (1 : Int)) = d7.2 ∧ True) ∧ ((d5.1 = d7.1 ∧ false = false) ∧ (e5.2 = e5.2 ∧ false = false) ∧ True)) ∧ q5 d7))) ∧
    ((decide (d5.2 < (lI e5.2))) = false →
     (I64 (e5.1 + (1 : Int))) ∧ (∃ d8 : (List (Int × Int × Int × Bool)) × Int,((c = c ∧ bd = bd ∧ True ∧ (e5.1 + (1 : Int)) = d8.2 ∧ True) ∧ ((d5.1 = d8.1 ∧ false = false) ∧ True)) ∧ q2 d8))) d50) ∧
  ((decide (d2.2 < (lI c))) = false →
   (True ∧ ((d2.1 = (flAll bd c) ∧ false = false) ∧ True)))) d20
def cx_ref03_Floats : Cx:=⟨[(111,(.pair (.i .i64) (.pair (.i .i64) (.pair (.i .i64) .bo))))],[(77,s_ref03_Points),(78,s_ref01_Length)],50,[],0,[],[],[],[],false,[],[],[]⟩
def lp_ref03_Floats (c : List (List UInt8)) (bd : Int) : List (Nat × LoopAnn):=[(0,⟨Unit,(List (Int × Int × Int × Bool)) × Int,[0,1,5,6],fun e x=>[.val (.list .st) c,.val (.i .i64) bd,.lst 10,.val (.i .i64) x.2],fun e x=>[(10,.slot 5,.lst 111 (.pair (.i .i64) (.pair (.i .i64) (.pair (.i .i64) .bo))) x.1 false)]⟩),
 (2,⟨Int × (List Bool),(List (Int × Int × Int × Bool)) × Int,[0,1,5,6,7,8],fun e x=>[.val (.list .st) c,.val (.i .i64) bd,.lst 10,.val (.i .i64) e.1,.lst 21,.val (.i .i64) x.2],fun e x=>[(10,.slot 5,.lst 111 (.pair (.i .i64) (.pair (.i .i64) (.pair (.i .i64) .bo))) x.1 false),(21,.slot 7,.lst 4 .bo e.2 false)]⟩)]
set_option maxRecDepth 100000 in
theorem vq_ref03_Floats (d : List (List UInt8) × Int) : gwp (cx_ref03_Floats) (lp_ref03_Floats d.1 d.2) c29 0 (gend [.tmp 4] (res_ref03_Floats d) (obs_ref03_Floats d)) (gstart 50 (AL.can al_ref03_Floats d)) = vc_ref03_Floats d.1 d.2:=by kernel_rfl
abbrev Ok_ref03_Floats : Prop:=OkC Tryz.prog 29 s_ref03_Floats
theorem mk_ref03_Floats (h : ∀ (c : List (List UInt8)) (bd : Int),(c.length ≤ 1000 ∧ (∀ s ∈ c,s.length ≤ 1000)) → vc_ref03_Floats c bd) : OkC Tryz.prog 29 s_ref03_Floats :=
 okC_vc fun29 mixed (C:=cx_ref03_Floats) (V:=fun (d : List (List UInt8) × Int)=>vc_ref03_Floats d.1 d.2) ⟨(.cons ok_ref03_Points (.cons ok_ref01_Length .nil)),XsOk.nil,ItsOk.nil,YlOk.nil,IysOk.nil⟩ (vq_ref03_Floats) fun d hp=>h d.1 d.2 hp
theorem ok_ref03_Floats : Ok_ref03_Floats:=mk_ref03_Floats fun c bd h=>by
 obtain ⟨h1,h2⟩:=h
 unfold vc_ref03_Floats; (try delta lI gD sT I64)
 (try simp only [decide_eq_true_eq,decide_eq_false_iff_not])
 refine ⟨(),([],0),(by and_intros <;> first | rfl | trivial | simp),?_⟩
 refine LoopP.count2 c.length (fun i xs=>xs = flAllN bd c i) (by simp [flAllN]) fun i xs hi hJ q hq=>?_
 subst hJ
 have hl:=flAllN_len bd c 1000 h2 i hi
 dsimp only
 simp only [InK_i64,Int.toNat_natCast]
 refine ⟨fun hlt=>?_,fun hge=>?_⟩
 ·have hlt : i < c.length:=by omega
  have hs : (c.getD i []).length ≤ 1000:=by rw [getD_nat hlt]; exact h2 _ (List.getElem_mem hlt)
  refine ⟨by omega,by omega,hs,((i : Int),ptsX (c.getD i [])),(flAllN bd c i,0),(by and_intros <;> first | rfl | trivial | simp),?_⟩
  have hn:=flAllN_succ bd c i
  rw [← ptsX_length] at hn hs
  generalize ptsX (c.getD i []) = p at hn hs ⊢
  dsimp only
  refine LoopP.count2 p.length (fun j xs=>xs = flAllN bd c i ++ flRow i bd p j) (by simp [flRow]) fun j xs hj hJ q2 hq2=>?_
  have hrl:=flRow_len i bd p j
  have hxl : xs.length ≤ 1000 * 1000 + 1000:=by rw [hJ,List.length_append]; omega
  dsimp only
  simp only [Int.toNat_natCast,List.length_singleton,Bool.and_eq_true,Bool.and_eq_false_iff,decide_eq_true_eq,decide_eq_false_iff_not]
  refine ⟨fun hlt2=>⟨⟨by omega,by omega,hs⟩,fun hb=>?_,fun hb=>?_⟩,fun hge=>?_⟩
  ·refine ⟨by omega,by omega,by omega,by omega,(_,_),(by and_intros <;> first | rfl | trivial | simp),hq2 _ (by omega) ?_⟩
   rw [flRow_succ,hJ,flAt,if_pos ⟨by omega,by omega⟩,List.append_assoc]; rfl
  ·refine ⟨by omega,(_,_),(by and_intros <;> first | rfl | trivial | simp),hq2 _ (by omega) ?_⟩
   rw [flRow_succ,hJ,flAt,if_neg (by omega)]; simp
  ·have : j = p.length:=by omega
   subst this
   refine ⟨by omega,(_,_),(by and_intros <;> first | rfl | trivial | simp),hq _ hlt ?_⟩
   rw [hn,hJ]
 ·have : i = c.length:=by omega
  subst this
  exact (by and_intros <;> first | rfl | trivial | simp)
end Go.Proofs.Tryz
set_option linter.unusedVariables false
namespace Go.Proofs.Tryz
open Go Go.V Go.Proofs
def al_law03_TieWeaves : AL ((Int × List Int) × (Int × List Int) × Int):=(.cons (.agg (.cons (.k (.i .i64)) (.one (.k (.list (.i .i64)))))) (.cons (.agg (.cons (.k (.i .i64)) (.one (.k (.list (.i .i64)))))) (.one (.k (.i .i64)))))
def pre_law03_TieWeaves (d : (Int × List Int) × (Int × List Int) × Int) : Prop:=d.1.2.length ≤ 9223372036854775807
def res_law03_TieWeaves (d : (Int × List Int) × (Int × List Int) × Int) : SV:=.val .bo true
def obs_law03_TieWeaves (d : (Int × List Int) × (Int × List Int) × Int) : List OB:=[]
def s_law03_TieWeaves : CSp:=mkSp al_law03_TieWeaves pre_law03_TieWeaves res_law03_TieWeaves obs_law03_TieWeaves
def vc_law03_TieWeaves (hk : Int) (lw : List Int) (hd : Int) (rows : List Int) (bd : Int) : Prop :=
 (([] : List (List UInt8)).length ≤ 9223372036854775807) ∧ ((largeB lw rows ([] : List (List UInt8))) = true →
  (True) ∧ (true = true ∧ (True))) ∧
 ((largeB lw rows ([] : List (List UInt8))) = false →
  (lw.length ≤ 1000) ∧ (false = true → lw = []) ∧ (rows.length ≤ 1000) ∧ (false = true → rows = []) ∧ ((bd = bd ∧ True ∧ True ∧ True ∧ True ∧ (hk = hk ∧ True ∧ (([] : List SV) = [])) ∧ (hd = hd ∧ True ∧ (([] : List SV) = [])) ∧ True) ∧ ((hk = hk ∧ lw = lw ∧ (([] : List SV) = [])) ∧ (hd = hd ∧ rows = rows ∧ (([] : List SV) = [])) ∧ ((0 : Int) = (0 : Int) ∧ True ∧ (([] : List SV) = [])) ∧ ((0 : Int) = (0 : Int) ∧ True ∧ (([] : List SV) = [])) ∧ (lw = lw ∧ false = false) ∧ (rows = rows ∧ false = false) ∧ True)) ∧ ((lw.length ≤ 1000) ∧ (false = true → lw = []) ∧ (rows.length ≤ 1000) ∧ (false = true → rows = []) ∧ ((bd = bd ∧ True ∧ True ∧ True ∧ True ∧ (hk = hk ∧ True ∧ (([] : List SV) = [])) ∧ (hd = hd ∧ True ∧ (([] : List SV) = [])) ∧ True) ∧ ((hk = hk ∧ lw = lw ∧ (([] : List SV) = [])) ∧ (hd = hd ∧ rows = rows ∧ (([] : List SV) = [])) ∧ ((0 : Int) = (0 : Int) ∧ True ∧ (([] : List SV) = [])) ∧ ((0 : Int) = (0 : Int) ∧ True ∧ (([] : List SV) = [])) ∧ (lw = lw ∧ false = false) ∧ (rows = rows ∧ false = false) ∧ True))) ∧ ((lw.length ≤ 1000) ∧ (false = true → lw = []) ∧ (rows.length ≤ 1000) ∧ (false = true → rows = []) ∧ ((bd = bd ∧ True ∧ True ∧ True ∧ True ∧ (hk = hk ∧ True ∧ (([] : List SV) = [])) ∧ (hd = hd ∧ True ∧ (([] : List SV) = [])) ∧ True) ∧ ((hk = hk ∧ lw = lw ∧ (([] : List SV) = [])) ∧ (hd = hd ∧ rows = rows ∧ (([] : List SV) = [])) ∧ ((0 : Int) = (0 : Int) ∧ True ∧ (([] : List SV) = [])) ∧ ((0 : Int) = (0 : Int) ∧ True ∧ (([] : List SV) = [])) ∧ (lw = lw ∧ false = false) ∧ (rows = rows ∧ false = false) ∧ True))) ∧ ((lw.length ≤ 1000) ∧ (false = true → lw = []) ∧ (rows.length ≤ 1000) ∧ (false = true → rows = []) ∧ ((bd = bd ∧ True ∧ True ∧ True ∧ True ∧ (hk = hk ∧ True ∧ (([] : List SV) = [])) ∧ (hd = hd ∧ True ∧ (([] : List SV) = [])) ∧ True) ∧ ((hk = hk ∧ lw = lw ∧ (([] : List SV) = [])) ∧ (hd = hd ∧ rows = rows ∧ (([] : List SV) = [])) ∧ ((0 : Int) = (0 : Int) ∧ True ∧ (([] : List SV) = [])) ∧ ((0 : Int) = (0 : Int) ∧ True ∧ (([] : List SV) = [])) ∧ (lw = lw ∧ false = false) ∧ (rows = rows ∧ false = false) ∧ True))) ∧ ((lw.length ≤ 1000) ∧ (false = true → lw = []) ∧ (rows.length ≤ 1000) ∧ (false = true → rows = []) ∧ ((bd = bd ∧ True ∧ True ∧ True ∧ True ∧ (hk = hk ∧ True ∧ (([] : List SV) = [])) ∧ (hd = hd ∧ True ∧ (([] : List SV) = [])) ∧ True) ∧ ((hk = hk ∧ lw = lw ∧ (([] : List SV) = [])) ∧ (hd = hd ∧ rows = rows ∧ (([] : List SV) = [])) ∧ ((0 : Int) = (0 : Int) ∧ True ∧ (([] : List SV) = [])) ∧ ((0 : Int) = (0 : Int) ∧ True ∧ (([] : List SV) = [])) ∧ (lw = lw ∧ false = false) ∧ (rows = rows ∧ false = false) ∧ True))) ∧ ((lw.length ≤ 1000) ∧ (false = true → lw = []) ∧ (rows.length ≤ 1000) ∧ (false = true → rows = []) ∧ ((bd = bd ∧ True ∧ True ∧ True ∧ True ∧ (hk = hk ∧ True ∧ (([] : List SV) = [])) ∧ (hd = hd ∧ True ∧ (([] : List SV) = [])) ∧ True) ∧ ((hk = hk ∧ lw = lw ∧ (([] : List SV) = [])) ∧ (hd = hd ∧ rows = rows ∧ (([] : List SV) = [])) ∧ ((0 : Int) = (0 : Int) ∧ True ∧ (([] : List SV) = [])) ∧ ((0 : Int) = (0 : Int) ∧ True ∧ (([] : List SV) = [])) ∧ (lw = lw ∧ false = false) ∧ (rows = rows ∧ false = false) ∧ True))) ∧ ((lw.length ≤ 1000) ∧ (false = true → lw = []) ∧ (rows.length ≤ 1000) ∧ (false = true → rows = []) ∧ ((bd = bd ∧ True ∧ True ∧ True ∧ True ∧ (hk = hk ∧ True ∧ (([] : List SV) = [])) ∧ (hd = hd ∧ True ∧ (([] : List SV) = [])) ∧ True) ∧ ((hk = hk ∧ lw = lw ∧ (([] : List SV) = [])) ∧ (hd = hd ∧ rows = rows ∧ (([] : List SV) = [])) ∧ ((0 : Int) = (0 : Int) ∧ True ∧ (([] : List SV) = [])) ∧ ((0 : Int) = (0 : Int) ∧ True ∧ (([] : List SV) = [])) ∧ (lw = lw ∧ false = false) ∧ (rows = rows ∧ false = false) ∧ True))) ∧ ((lw.length ≤ 1000) ∧ (false = true → lw = []) ∧ (rows.length ≤ 1000) ∧ (false = true → rows = []) ∧ ((bd = bd ∧ True ∧ True ∧ True ∧ True ∧ (hk = hk ∧ True ∧ (([] : List SV) = [])) ∧ (hd = hd ∧ True ∧ (([] : List SV) = [])) ∧ True) ∧ ((hk = hk ∧ lw = lw ∧ (([] : List SV) = [])) ∧ (hd = hd ∧ rows = rows ∧ (([] : List SV) = [])) ∧ ((0 : Int) = (0 : Int) ∧ True ∧ (([] : List SV) = [])) ∧ ((0 : Int) = (0 : Int) ∧ True ∧ (([] : List SV) = [])) ∧ (lw = lw ∧ false = false) ∧ (rows = rows ∧ false = false) ∧ True))) ∧ ((lw.length ≤ 1000) ∧ (false = true → lw = []) ∧ (rows.length ≤ 1000) ∧ (false = true → rows = []) ∧ ((bd = bd ∧ True ∧ True ∧ True ∧ True ∧ (hk = hk ∧ True ∧ (([] : List SV) = [])) ∧ (hd = hd ∧ True ∧ (([] : List SV) = [])) ∧ True) ∧ ((hk = hk ∧ lw = lw ∧ (([] : List SV) = [])) ∧ (hd = hd ∧ rows = rows ∧ (([] : List SV) = [])) ∧ ((0 : Int) = (0 : Int) ∧ True ∧ (([] : List SV) = [])) ∧ ((0 : Int) = (0 : Int) ∧ True ∧ (([] : List SV) = [])) ∧ (lw = lw ∧ false = false) ∧ (rows = rows ∧ false = false) ∧ True))) ∧ ((lw.length ≤ 1000) ∧ (false = true → lw = []) ∧ (rows.length ≤ 1000) ∧ (false = true → rows = []) ∧ ((bd = bd ∧ True ∧ True ∧ True ∧ True ∧ (hk = hk ∧ True ∧ (([] : List SV) = [])) ∧ (hd = hd ∧ True ∧ (([] : List SV) = [])) ∧ True) ∧ ((hk = hk ∧ lw = lw ∧ (([] : List SV) = [])) ∧ (hd = hd ∧ rows = rows ∧ (([] : List SV) = [])) ∧ ((0 : Int) = (0 : Int) ∧ True ∧ (([] : List SV) = [])) ∧ ((0 : Int) = (0 : Int) ∧ True ∧ (([] : List SV) = [])) ∧ (lw = lw ∧ false = false) ∧ (rows = rows ∧ false = false) ∧ True))) ∧ ((lw.length ≤ 1000) ∧ (false = true → lw = []) ∧ (rows.length ≤ 1000) ∧ (false = true → rows = []) ∧ ((bd = bd ∧ True ∧ True ∧ True ∧ True ∧ (hk = hk ∧ True ∧ (([] : List SV) = [])) ∧ (hd = hd ∧ True ∧ (([] : List SV) = [])) ∧ True) ∧ ((hk = hk ∧ lw = lw ∧ (([] : List SV) = [])) ∧ (hd = hd ∧ rows = rows ∧ (([] : List SV) = [])) ∧ ((0 : Int) = (0 : Int) ∧ True ∧ (([] : List SV) = [])) ∧ ((0 : Int) = (0 : Int) ∧ True ∧ (([] : List SV) = [])) ∧ (lw = lw ∧ false = false) ∧ (rows = rows ∧ false = false) ∧ True))) ∧ ((lw.length ≤ 1000) ∧ (false = true → lw = []) ∧ (rows.length ≤ 1000) ∧ (false = true → rows = []) ∧ ((bd = bd ∧ True ∧ True ∧ True ∧ True ∧ (hk = hk ∧ True ∧ (([] : List SV) = [])) ∧ (hd = hd ∧ True ∧ (([] : List SV) = [])) ∧ True) ∧ ((hk = hk ∧ lw = lw ∧ (([] : List SV) = [])) ∧ (hd = hd ∧ rows = rows ∧ (([] : List SV) = [])) ∧ ((0 : Int) = (0 : Int) ∧ True ∧ (([] : List SV) = [])) ∧ ((0 : Int) = (0 : Int) ∧ True ∧ (([] : List SV) = [])) ∧ (lw = lw ∧ false = false) ∧ (rows = rows ∧ false = false) ∧ True))) ∧ (lw.length ≤ 110 ∧ rows.length ≤ 110) ∧ (lw.length ≤ 110 ∧ rows.length ≤ 110) ∧ (lw.length ≤ 1000000) ∧ ((!(decide (hk = hk) && (lw == lw))) = false → rows.length ≤ 1000000) ∧ (((!(decide (hk = hk) && (lw == lw))) || (!(decide (hd = hd) && (rows == rows)))) = true →
   (false = true ∧ (True))) ∧
  (((!(decide (hk = hk) && (lw == lw))) || (!(decide (hd = hd) && (rows == rows)))) = false →
   (rows.length ≤ 1000000) ∧ (((weaveErr hk lw hd rows) != (0 : Int)) = true →
    (((weaveErr hk lw hd rows == (weaveErr hk lw hd rows)) && ((floErr hk lw hd rows bd) == (weaveErr hk lw hd rows))) = true → InK .i64 ((lI (weaveC hk lw hd rows)) + (lI (flC hk lw hd rows bd)))) ∧ ((((weaveErr hk lw hd rows == (weaveErr hk lw hd rows)) && ((floErr hk lw hd rows bd) == (weaveErr hk lw hd rows))) && (((lI (weaveC hk lw hd rows)) + (lI (flC hk lw hd rows bd))) == (0 : Int))) = true → True) ∧ (((((weaveErr hk lw hd rows == (weaveErr hk lw hd rows)) && ((floErr hk lw hd rows bd) == (weaveErr hk lw hd rows))) && (((lI (weaveC hk lw hd rows)) + (lI (flC hk lw hd rows bd))) == (0 : Int))) && true) = true ∧ (True))) ∧
   (((weaveErr hk lw hd rows) != (0 : Int)) = false →
    (weaveErr hk lw hd rows = 0) ∧ ((weaveErr hk lw hd rows != (0 : Int)) = false → (weaveC hk lw hd rows).length ≤ 1000000) ∧ (((weaveErr hk lw hd rows != (0 : Int)) || (!((weaveC hk lw hd rows) == (weaveC hk lw hd rows)))) = true →
     (false = true ∧ (True))) ∧
    (((weaveErr hk lw hd rows != (0 : Int)) || (!((weaveC hk lw hd rows) == (weaveC hk lw hd rows)))) = false →
     (True) ∧ ((!(inI bd (0 : Int) (1000 : Int))) = true →
      ((((floErr hk lw hd rows bd) == (3 : Int)) && ((lI (flC hk lw hd rows bd)) == (0 : Int))) = true → True) ∧ (((((floErr hk lw hd rows bd) == (3 : Int)) && ((lI (flC hk lw hd rows bd)) == (0 : Int))) && true) = true ∧ (True))) ∧
     ((!(inI bd (0 : Int) (1000 : Int))) = false →
      (((floErr hk lw hd rows bd) == (0 : Int)) = true → (weaveC hk lw hd rows).length ≤ 1000 ∧ (∀ s ∈ (weaveC hk lw hd rows),s.length ≤ 1000)) ∧ (((floErr hk lw hd rows bd) == (0 : Int)) = true → (flC hk lw hd rows bd).length ≤ 1000000) ∧ ((((floErr hk lw hd rows bd) == (0 : Int)) && ((flC hk lw hd rows bd) == (flAll bd (weaveC hk lw hd rows)))) = true → True) ∧ (((((floErr hk lw hd rows bd) == (0 : Int)) && ((flC hk lw hd rows bd) == (flAll bd (weaveC hk lw hd rows)))) && true) = true ∧ (True)))))))
def cx_law03_TieWeaves : Cx:=⟨[],[(18,s_law03_large),(14,s_law03_known),(19,s_law03_own),(20,s_law03_ours),(21,s_tie_Weave),(22,s_tie_Floats),(17,s_ref03_Same),(23,s_ref01_Same),(24,s_law03_woven),(25,s_ref03_Cloth),(26,s_ref03_Alike),(27,s_ref03_In),(29,s_ref03_Floats),(28,s_ref01_Alike)],106,[],0,[],[],[],[2,3,4,7,8,20,22],false,[],[],[]⟩
def lp_law03_TieWeaves (hk : Int) (lw : List Int) (hd : Int) (rows : List Int) (bd : Int) : List (Nat × LoopAnn):=[]
set_option maxRecDepth 100000 in
theorem vq_law03_TieWeaves (d : (Int × List Int) × (Int × List Int) × Int) : gwp (cx_law03_TieWeaves) (lp_law03_TieWeaves d.1.1 d.1.2 d.2.1.1 d.2.1.2 d.2.2) c4 0 (gend [.tmp 6] (res_law03_TieWeaves d) (obs_law03_TieWeaves d)) (gstart 106 (AL.can al_law03_TieWeaves d)) = vc_law03_TieWeaves d.1.1 d.1.2 d.2.1.1 d.2.1.2 d.2.2:=by kernel_rfl
abbrev Ok_law03_TieWeaves : Prop:=OkC Tryz.prog 4 s_law03_TieWeaves
theorem mk_law03_TieWeaves (h : ∀ (hk : Int) (lw : List Int) (hd : Int) (rows : List Int) (bd : Int),(lw.length ≤ 9223372036854775807) → vc_law03_TieWeaves hk lw hd rows bd) : OkC Tryz.prog 4 s_law03_TieWeaves :=
 okC_vc fun4 mixed (C:=cx_law03_TieWeaves) (V:=fun (d : (Int × List Int) × (Int × List Int) × Int)=>vc_law03_TieWeaves d.1.1 d.1.2 d.2.1.1 d.2.1.2 d.2.2) ⟨(.cons ok_law03_large (.cons ok_law03_known (.cons ok_law03_own (.cons ok_law03_ours (.cons ok_tie_Weave (.cons ok_tie_Floats (.cons ok_ref03_Same (.cons ok_ref01_Same (.cons ok_law03_woven (.cons ok_ref03_Cloth (.cons ok_ref03_Alike (.cons ok_ref03_In (.cons ok_ref03_Floats (.cons ok_ref01_Alike .nil)))))))))))))),XsOk.nil,ItsOk.nil,YlOk.nil,IysOk.nil⟩ (vq_law03_TieWeaves) fun d hp=>h d.1.1 d.1.2 d.2.1.1 d.2.1.2 d.2.2 hp
theorem flC_len {hk : Int} {lw : List Int} {hd : Int} {rows : List Int} {bd : Int} (h1 : lw.length ≤ 110) (h2 : rows.length ≤ 110) : (flC hk lw hd rows bd).length ≤ 110 * 110:=by
 unfold flC
 split
 ·have hc : ∀ s ∈ weaveC hk lw hd rows,s.length ≤ 110:=fun s hs=>by
   unfold weaveC at hs
   split at hs
   ·simp only [List.mem_map] at hs
    obtain ⟨r,_,rfl⟩:=hs
    rw [pickS_length]; exact h1
   ·cases hs
  have hl : (weaveC hk lw hd rows).length ≤ 110:=by
   unfold weaveC
   split
   ·rw [List.length_map]; exact h2
   ·exact Nat.zero_le _
  have:=flAllN_len bd _ 110 hc _ (Nat.le_refl _)
  unfold flAll
  omega
 ·exact Nat.zero_le _
theorem weaveC_len {hk : Int} {lw : List Int} {hd : Int} {rows : List Int} : (weaveC hk lw hd rows).length ≤ rows.length:=by
 unfold weaveC
 split
 ·rw [List.length_map]; exact Nat.le_refl _
 ·exact Nat.zero_le _
theorem ok_law03_TieWeaves : Ok_law03_TieWeaves:=mk_law03_TieWeaves fun hk lw hd rows bd hlw=>by
 unfold vc_law03_TieWeaves; (try delta lI gD sT I64)
 (try simp only [])
 refine ⟨by simp,fun _=>(by and_intros <;> first | rfl | trivial | simp),fun hl=>?_⟩
 have hl1 : lw.length ≤ 110 ∧ rows.length ≤ 70:=by simp [largeB] at hl; omega
 clear hl
 obtain ⟨l1,l2⟩:=hl1
 have f1:=flC_len (hk:=hk) (hd:=hd) (bd:=bd) l1 (show rows.length ≤ 110 by omega)
 have f2:=weaveC_len (hk:=hk) (lw:=lw) (hd:=hd) (rows:=rows)
 have c1 : lw.length ≤ 1000:=by omega
 have c2 : rows.length ≤ 1000:=by omega
 have c3 : lw.length ≤ 1000000:=by omega
 have c4 : rows.length ≤ 1000000:=by omega
 have c5 : (weaveC hk lw hd rows).length ≤ 1000:=by omega
 have c6 : (weaveC hk lw hd rows).length ≤ 1000000:=by omega
 have c7 : (flC hk lw hd rows bd).length ≤ 1000000:=by omega
 have c8 : rows.length ≤ 110:=by omega
 have c9 : ∀ s ∈ weaveC hk lw hd rows,s.length ≤ 1000:=fun s hs=>by
  unfold weaveC at hs
  split at hs
  ·simp only [List.mem_map] at hs
   obtain ⟨r,_,rfl⟩:=hs
   rw [pickS_length]; exact c1
  ·cases hs
 by_cases he : weaveErr hk lw hd rows = 0
 ·by_cases hb : inI bd 0 1000 = true
  ·have e : floErr hk lw hd rows bd = 0:=by simp [floErr,he,hb]
   have e2 : flC hk lw hd rows bd = flAll bd (weaveC hk lw hd rows):=by simp [flC,e]
   rw [e2] at c7 ⊢
   simp [c1,c2,c3,c4,c5,c6,c7,c8,l1,he,hb,e]
   exact c9
  ·have hb : inI bd 0 1000 = false:=by simpa using hb
   have e : floErr hk lw hd rows bd = 3:=by simp [floErr,he,hb]
   have e2 : flC hk lw hd rows bd = []:=by simp [flC,e]
   rw [e2]
   simp [c1,c2,c3,c4,c5,c6,c8,l1,he,hb,e]
 ·have e : floErr hk lw hd rows bd = weaveErr hk lw hd rows:=by simp [floErr,he]
  have e2 : flC hk lw hd rows bd = []:=by simp [flC,e,he]
  have e3 : weaveC hk lw hd rows = []:=by simp [weaveC,he]
  rw [e2,e3]
  simp [c1,c2,c3,c4,c8,l1,he,e]
  rw [InK_i64]; omega
end Go.Proofs.Tryz