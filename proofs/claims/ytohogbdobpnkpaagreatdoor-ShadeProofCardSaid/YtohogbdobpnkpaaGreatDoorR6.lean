/- A framework for walks, contracts of functions, and their proofs: part 6. -/
import Derived.Test.YtohogbdobpnkpaaGreatDoorR5
namespace Go.Proofs.Tryz
open Go Go.V
def memos1:List Memo:=[mA1,mA2,mA3,mA4,mA5,mA6,mA7,mA8,mA9,mA10,mA11,mA12,mA13,mA14,mA15]
theorem X49:∀ m∈memos1,MemoOk Tryz.prog 56 m:=by
 intro m hm;simp only[memos1,List.mem_cons,List.not_mem_nil,or_false] at hm;rcases hm with rfl|rfl|rfl|rfl|rfl|rfl|rfl|rfl|rfl|rfl|rfl|rfl|rfl|rfl|rfl
 ·exact X80
 ·exact X8d
 ·exact X8b
 ·exact X83
 ·exact X7t
 ·exact X7q
 ·exact X88
 ·exact X7z
 ·exact X7w
 ·exact X6n
 ·exact X79
 ·exact X6z
 ·exact X7h
 ·exact X76
 ·exact X71
def memos2:List Memo:=[X66,X60,X63,X6g,X6d,X6h,X6f,X61,X68,X4f,X2o,X3q,X3k,X3e,X4k,X5z,X6a,X69,X65,X5w,X6j,X6i,X64,X43,X2i,X6c,X6e,X67,X5v]
theorem X3n:∀ m∈memos2,MemoOk Tryz.prog 79 m:=by
 intro m hm;simp only[memos2,List.mem_cons,List.not_mem_nil,or_false] at hm;rcases hm with rfl|rfl|rfl|rfl|rfl|rfl|rfl|rfl|rfl|rfl|rfl|rfl|rfl|rfl|rfl|rfl|rfl|rfl|rfl|rfl|rfl|rfl|rfl|rfl|rfl|rfl|rfl|rfl|rfl
 ·exact X2y
 ·exact X29
 ·exact X2u
 ·exact X3w
 ·exact X3t
 ·exact X42
 ·exact X31
 ·exact X2m
 ·exact X3j
 ·exact X0u
 ·exact X1b
 ·exact X1m
 ·exact X1l
 ·exact X1t
 ·exact X0w
 ·exact X3g
 ·exact X2h
 ·exact X3b
 ·exact X2z
 ·exact X2t
 ·exact X3r
 ·exact X3d
 ·exact X47
 ·exact X1h
 ·exact X16
 ·exact X48
 ·exact X2l
 ·exact X37
 ·exact X26
def memos3:List Memo:=[mG1,mG2,mG3,mG4,mG5,mG6,mG7,mG8,mG9,mG10,mG11,mG12,mG13,mG14,mG15]
theorem X4l:∀ m∈memos3,MemoOk Tryz.prog 78 m:=by
 intro m hm;simp only[memos3,List.mem_cons,List.not_mem_nil,or_false] at hm;rcases hm with rfl|rfl|rfl|rfl|rfl|rfl|rfl|rfl|rfl|rfl|rfl|rfl|rfl|rfl|rfl
 ·exact X87
 ·exact X7x
 ·exact X7v
 ·exact X7s
 ·exact X7l
 ·exact X8f
 ·exact X85
 ·exact X7n
 ·exact X82
 ·exact X6t
 ·exact X75
 ·exact X6p
 ·exact X7b
 ·exact X7e
 ·exact X72
noncomputable def tabL:List (Option FEnt):=[
 none,
 none,
 some (.code c2 [] 1),
 some (.code c3 [.tmp 4] 236),
 some (.code c4 [.tmp 6] 80),
 some (.code c5 [.tmp 4] 82),
 some (.code c6 [.tmp 4] 204),
 some (.code c7 [.tmp 4] 280),
 some (.code c8 [.tmp 6] 337),
 some (.code c9 [.tmp 4] 271),
 some (.code c10 [.tmp 6] 184),
 some (.code c11 [.tmp 4] 14),
 some (.code c12 [.tmp 4] 18),
 some (.code c13 [.tmp 0] 193),
 some (.code c14 [.tmp 2] 6),
 some (.codeJ c15 [.tmp 4,.tmp 5] 15),
 some (.codeJ c16 [.tmp 4,.tmp 5] 18),
 some (.code c17 [.tmp 4] 26),
 some (.code c18 [.tmp 8] 65),
 some (.code c19 [.tmp 4] 29),
 some (.code c20 [.tmp 6] 15),
 some (.code c21 [.tmp 6] 33),
 some (.code c22 [.tmp 6] 31),
 some (.code c23 [.tmp 2] 11),
 some (.codeJ c24 [.tmp 6,.tmp 7] 29),
 some (.code c25 [.tmp 6,.tmp 7] 77),
 some (.code c26 [.tmp 4] 26),
 some (.codeJ c27 [.tmp 4,.tmp 5,.tmp 6] 73),
 some (.code c28 [.tmp 8,.tmp 9] 65),
 some (.code c29 [.tmp 6] 41),
 some (.code c30 [.tmp 2] 32),
 some (.code c31 [.tmp 2] 6),
 some (.codeJ c32 [.cell 6 true 2,.tmp 7,.tmp 8] 37),
 some (.codeJ c33 [.cell 8 true 2,.tmp 9] 103),
 some (.code c34 [.tmp 10,.tmp 11] 83),
 some (.code c35 [.cell 2 true 2] 22),
 some (.code c36 [.tmp 2] 51),
 some (.code c37 [.tmp 4] 39),
 some (.code c38 [.tmp 6] 24),
 some (.codeJ c39 [.cell 4 true 2,.tmp 5] 52),
 some (.code c40 [.tmp 2] 6),
 some (.code c41 [.tmp 2] 6),
 some (.code c42 [.tmp 6,.tmp 7,.tmp 8] 61),
 some (.code c43 [.tmp 2] 44),
 some (.code c44 [.tmp 8] 59),
 some (.code c45 [.tmp 0] 10),
 some (.code c46 [.tmp 2] 9),
 some (.codeJ c47 [.tmp 4,.tmp 5] 23),
 some (.code c48 [.cell 4 true 2] 8),
 some (.code c49 [.tmp 4,.tmp 5,.tmp 6] 29),
 some (.code c50 [.tmp 4] 24),
 some (.code c51 [.cell 4 true 2,.tmp 5] 21),
 some (.code c52 [.tmp 2] 13),
 some (.codeJ c53 [.tmp 4,.tmp 5] 62),
 some (.code c54 [.tmp 4] 40),
 some (.code c55 [.tmp 4] 63),
 some (.codeM c56 [.tmp 2] 15 memos1),
 some (.codeJ c57 [.tmp 6] 21),
 some (.code c58 [.tmp 6] 31),
 some (.code c59 [.cell 6 true 3,.tmp 7] 33),
 some (.codeJ c60 [.tmp 2,.tmp 3] 41),
 some (.code c61 [.tmp 6] 11),
 some (.code c62 [.cell 0 true 2] 2),
 some (.code c63 [.tmp 2] 4),
 some (.code c64 [.cell 6 true 2] 44),
 some (.code c65 [.cell 4 true 2] 16),
 some (.code c66 [.cell 4 true 2] 17),
 some (.code c67 [.tmp 8,.tmp 9] 47),
 some (.code c68 [.tmp 4] 16),
 some (.code c69 [.tmp 2] 10),
 some (.code c70 [.cell 2 true 2] 61),
 some (.code c71 [.tmp 4] 9),
 some (.code c72 [.tmp 3] 9),
 some (.code c73 [.tmp 4] 20),
 some (.code c74 [.tmp 4] 26),
 some (.code c75 [.tmp 4] 17),
 some (.codeJ c76 [.tmp 2] 16),
 some (.code c77 [.tmp 2,.tmp 3] 64),
 some (.codeM c78 [.tmp 4] 24 memos3),
 some (.codeM c79 [.tmp 4] 38 memos2),
 some (.code c80 [.tmp 2] 18),
 some (.code c81 [.tmp 4] 20),
 some (.code c82 [.tmp 4] 36),
 some (.code c83 [.tmp 2] 8),
 some (.code c84 [.tmp 2] 15),
 some (.code c85 [.tmp 4] 9),
 some (.code c86 [.cell 6 true 2] 44),
 some (.code c87 [.tmp 4] 9),
 some (.code c88 [.tmp 4] 13),
 some (.code c89 [] 19),
 some (.code c90 [.tmp 4] 9),
 some (.code c91 [.tmp 2] 6),
 some (.code c92 [.tmp 2] 32),
 some (.code c93 [.tmp 4] 19),
 some (.code c94 [] 9),
 some (.code c95 [.tmp 5] 36),
 some (.code c96 [] 11),
 some (.code c97 [] 14),
 some (.code c98 [.tmp 3] 11),
 some (.code c99 [.tmp 2] 6),
 some (.code c100 [.tmp 2] 14),
 some (.code c101 [.tmp 2] 14),
 some (.code c102 [.tmp 4] 19),
 some (.code c103 [.tmp 4] 19),
 some (.code c104 [.tmp 4] 19),
 some (.code c105 [] 63),
 some (.code c106 [] 134),
 some (.code c107 [.tmp 2] 8),
 some (.code c108 [] 148),
 some (.code c109 [] 53),
 some (.code c110 [] 220),
 some (.code c111 [] 49),
 some (.code c112 [] 56),
 some (.code c113 [] 65),
 some (.code c114 [.tmp 6,.tmp 7] 57),
 some (.code c115 [] 32),
 some (.code c116 [.tmp 6] 133),
 some (.code c117 [.tmp 4] 17),
 some (.code c118 [.tmp 8] 84),
 some (.code c119 [.tmp 8,.tmp 9] 168),
 some (.code c120 [.tmp 2] 19),
 some (.code c121 [.tmp 2] 25),
 some (.code c122 [] 53),
 some (.code c123 [] 60),
 some (.code c124 [] 67),
 some (.code c125 [.tmp 8,.tmp 9] 63),
 some (.code c126 [] 34),
 some (.code c127 [.tmp 8] 141),
 some (.code c128 [.tmp 10] 90),
 some (.code c129 [.tmp 10,.tmp 11] 178),
 some (.code c130 [] 58),
 some (.code c131 [] 76),
 some (.code c132 [.tmp 2] 7),
 some (.code c133 [.tmp 2] 33),
 some (.code c134 [.tmp 6] 15),
 some (.code c135 [.tmp 10] 36),
 some (.code c136 [] 82),
 some (.code c137 [.tmp 8] 18),
 some (.code c138 [.tmp 12] 41),
 some (.code c139 [] 38),
 some (.code c140 [.tmp 8,.tmp 9] 28),
 some (.code c141 [.tmp 10,.tmp 11] 32)]
noncomputable def tab:Tab:=fun f=>(tabL[f]?).join
theorem X77:EntsOk Tryz.prog 0 tabL:=⟨trivial,trivial,fun2,fun3,fun4,fun5,fun6,fun7,fun8,fun9,fun10,fun11,fun12,fun13,fun14,fun15,fun16,fun17,fun18,fun19,fun20,fun21,fun22,fun23,fun24,fun25,fun26,fun27,fun28,fun29,fun30,fun31,fun32,fun33,fun34,fun35,fun36,fun37,fun38,fun39,fun40,fun41,fun42,fun43,fun44,fun45,fun46,fun47,fun48,fun49,fun50,fun51,fun52,fun53,fun54,fun55,⟨fun56,X49⟩,fun57,fun58,fun59,fun60,fun61,fun62,fun63,fun64,fun65,fun66,fun67,fun68,fun69,fun70,fun71,fun72,fun73,fun74,fun75,fun76,fun77,⟨fun78,X4l⟩,⟨fun79,X3n⟩,fun80,fun81,fun82,fun83,fun84,fun85,fun86,fun87,fun88,fun89,fun90,fun91,fun92,fun93,fun94,fun95,fun96,fun97,fun98,fun99,fun100,fun101,fun102,fun103,fun104,fun105,fun106,fun107,fun108,fun109,fun110,fun111,fun112,fun113,fun114,fun115,fun116,fun117,fun118,fun119,fun120,fun121,fun122,fun123,fun124,fun125,fun126,fun127,fun128,fun129,fun130,fun131,fun132,fun133,fun134,fun135,fun136,fun137,fun138,fun139,fun140,fun141,trivial⟩
theorem X7y:TabOk Tryz.prog tab:=J9d X77
theorem X28:veval tab 300 boolOps [] c13 none (ET.of [] 193) CH.empty (eend false [.tmp 0] fun v _=>isTrue v)=true:=by kernel_rfl
theorem X5n {σ:Heap}{K:Value→Heap→Prop}(hK:K (.bool true) σ):VCalled Tryz.prog 13 [] σ K:=X5l mixed X7y 300 fun13 (by decide) X28 hK
end Go.Proofs.Tryz
set_option linter.unusedVariables false
namespace Go.Proofs.Tryz
open Go Go.V Go.Proofs
def J3e:AL (Unit):=.nil
def J18 (d:Unit):Prop:=True
def J2c (d:Unit):SV:=.val .bo true
def J0g (d:Unit):List OB:=[]
def Z79:CSp:=mkSp J3e J18 J2c J0g
abbrev J2z:Prop:=OkC Tryz.prog 13 Z79
theorem J2q:J2z:=X5a fun _ _ h=>X5n h
end Go.Proofs.Tryz
set_option linter.unusedVariables false
namespace Go.Proofs.Tryz
open Go Go.V Go.Proofs
abbrev Lot:=Int×(Int×Int)×Int
def lotD:Lot:=(0,((0,0),0))
def lotOk (x:Lot):Bool:=inI x.1 0 9&&(inI x.2.1.1 0 1000&&inI x.2.1.2 0 1000)&&decide (x.2.1.1≤x.2.1.2)&&inI x.2.2 1 1000000
def lotsErr (l:List Lot):Int:=if 12<l.length then 5 else if l.any (fun x=>!lotOk x) then 2 else 0
def farL (a b:Lot):Int:=gmax (a.2.1.2-b.2.1.1) (b.2.1.2-a.2.1.1)
def sprS (s:Int×Int×Int×Int) (y:Lot):Int×Int×Int×Int:=(gmax s.1 y.2.1.1,gmin s.2.1 y.2.1.2,gmin s.2.2.1 y.2.1.1,gmax s.2.2.2 y.2.1.2)
def sprF (l:List Lot) (k:Nat):Int×Int×Int×Int:=(l.take k).foldl sprS ((l.getD 0 lotD).2.1.1,(l.getD 0 lotD).2.1.2,(l.getD 0 lotD).2.1.1,(l.getD 0 lotD).2.1.2)
def sprD (l:List Lot):Sp:=(gmax 0 ((sprF l l.length).1-(sprF l l.length).2.1),(sprF l l.length).2.2.2-(sprF l l.length).2.2.1)
def pickL (l:List Lot) (sm:List Int):List Lot:=sm.map fun i=>l.getD i.toNat lotD
def dupL (sm:List Int):Bool:=(List.range sm.length).any fun k=>decide (sm.getD k 0∈sm.take k)
def Q0c (l:List Lot) (sm:List Int):Int:=if lotsErr l≠0 then lotsErr l else if sm=[]∨(sm.any fun n=>!inI n 0 ((l.length:Int)-1))=true then 7 else if dupL sm then 6 else 0
def spreadSp (l:List Lot) (sm:List Int):Sp:=if Q0c l sm=0 then sprD (pickL l sm) else (0,0)
theorem Z1g {x:Lot}:lotOk x=true↔(0≤x.1∧x.1≤9)∧(0≤x.2.1.1∧x.2.1.1≤1000)∧(0≤x.2.1.2∧x.2.1.2≤1000)∧x.2.1.1≤x.2.1.2∧1≤x.2.2∧x.2.2≤1000000:=by simp only[lotOk,inI,Bool.and_eq_true,decide_eq_true_eq];omega
theorem J9q {l:List Lot}(h:l≠[]):sprF l 1=((l.getD 0 lotD).2.1.1,(l.getD 0 lotD).2.1.2,(l.getD 0 lotD).2.1.1,(l.getD 0 lotD).2.1.2):=by
 cases l with
 |nil=>exact(h rfl).elim
 |cons x l =>
  have g:∀ a:Int,gmax a a=a:=fun a=>by rw[Q9d];omega
  have m:∀ a:Int,gmin a a=a:=fun a=>by rw[J8m];omega
  simp[sprF,sprS,g,m]
theorem J6u {l:List Lot}{k:Nat}(h:k<l.length):sprF l (k+1)=sprS (sprF l k) l[k]:=by unfold sprF;rw[Q2d h,List.foldl_append];rfl
theorem Z6s {l:List Lot}(h:l≠[]):∀ k,1≤k→k≤l.length →
  (∀ i,i<k→(l.getD i lotD).2.1.1≤(sprF l k).1∧(sprF l k).2.1≤(l.getD i lotD).2.1.2∧(sprF l k).2.2.1≤(l.getD i lotD).2.1.1∧(l.getD i lotD).2.1.2≤(sprF l k).2.2.2) ∧
  (∃ i,i<k∧(sprF l k).1=(l.getD i lotD).2.1.1)∧(∃ i,i<k∧(sprF l k).2.1=(l.getD i lotD).2.1.2)∧(∃ i,i<k∧(sprF l k).2.2.1=(l.getD i lotD).2.1.1)∧∃ i,i<k∧(sprF l k).2.2.2=(l.getD i lotD).2.1.2
 |0,h1,_=>by omega
 |1,_,_=>by
  rw[J9q h];refine⟨fun i hi=>?_,⟨0,by omega,rfl⟩,⟨0,by omega,rfl⟩,⟨0,by omega,rfl⟩,⟨0,by omega,rfl⟩⟩;have:i=0:=by omega
  subst this;exact⟨Int.le_refl _,Int.le_refl _,Int.le_refl _,Int.le_refl _⟩
 |k+2,_,hk=>by
  obtain⟨a,⟨i1,b1,c1⟩,⟨i2,b2,c2⟩,⟨i3,b3,c3⟩,⟨i4,b4,c4⟩⟩:=Z6s h (k+1) (by omega) (by omega);rw[J6u (show k+1<l.length by omega)];have hk1:l.getD (k+1) lotD=l[k+1]:=Q03 (by omega);have e1:=Q9d (sprF l (k+1)).1 l[k+1].2.1.1;have e2:=J8m (sprF l (k+1)).2.1 l[k+1].2.1.2;have e3:=J8m (sprF l (k+1)).2.2.1 l[k+1].2.1.1;have e4:=Q9d (sprF l (k+1)).2.2.2 l[k+1].2.1.2;unfold sprS;dsimp only;refine⟨fun i hi=>?_,?_,?_,?_,?_⟩
  ·by_cases h5:i=k+1
   ·subst h5;rw[hk1];omega
   ·have:=a i (by omega);omega
  ·by_cases h5:(sprF l (k+1)).1≤l[k+1].2.1.1
   ·exact⟨k+1,by omega,by rw[hk1];omega⟩
   ·exact⟨i1,by omega,by omega⟩
  ·by_cases h5:l[k+1].2.1.2≤(sprF l (k+1)).2.1
   ·exact⟨k+1,by omega,by rw[hk1];omega⟩
   ·exact⟨i2,by omega,by omega⟩
  ·by_cases h5:l[k+1].2.1.1≤(sprF l (k+1)).2.2.1
   ·exact⟨k+1,by omega,by rw[hk1];omega⟩
   ·exact⟨i3,by omega,by omega⟩
  ·by_cases h5:(sprF l (k+1)).2.2.2≤l[k+1].2.1.2
   ·exact⟨k+1,by omega,by rw[hk1];omega⟩
   ·exact⟨i4,by omega,by omega⟩
theorem Z38 (a:Int) (b:Bool) (m:List (Int×Bool)) (e:Int) (d:Bool):gq.aget (.i .i64) ((a,b)::m) e d=if e=a then b else gq.aget (.i .i64) m e d:=by show (if (e==a)=true then b else gq.aget (.i .i64) m e d)=_;simp only[beq_iff_eq]
theorem J6g (a:Int) (b:Bool) (m:List (Int×Bool)) (k:Int) (v:Bool):aput (.i .i64) ((a,b)::m) k v=if k=a then (k,v)::m else (a,b)::aput (.i .i64) m k v:=by show (if (k==a)=true then (k,v)::m else (a,b)::aput (.i .i64) m k v)=_;simp only[beq_iff_eq]
theorem J6e (m:List (Int×Bool)) (k:Int) (v:Bool) (e:Int) (d:Bool):gq.aget (.i .i64) (aput (.i .i64) m k v) e d=if e=k then v else gq.aget (.i .i64) m e d:=by
 induction m with
 |nil=>exact Z38 k v [] e d
 |cons p m ih =>
  obtain⟨a,b⟩:=p;rw[J6g,Z38];by_cases h:k=a
  ·subst h;rw[if_pos rfl,Z38];split<;>rfl
  ·rw[if_neg h,Z38,ih];by_cases h2:e=a
   ·subst h2;rw[if_pos rfl,if_neg (Ne.symm h),if_pos rfl]
   ·rw[if_neg h2,if_neg h2]
end Go.Proofs.Tryz
set_option linter.unusedVariables false
namespace Go.Proofs.Tryz
open Go Go.V Go.Proofs
def Z51:AL (Int×Int×Int×Int):=(.one (.agg (.cons (.k (.i .i64)) (.cons (.k (.i .i64)) (.cons (.k (.i .i64)) (.one (.k (.i .i64))))))))
def J1g (d:Int×Int×Int×Int):Prop:=True
def Z37 (d:Int×Int×Int×Int):SV:=.val .bo (lotOk (d.1,(d.2.1,d.2.2.1),d.2.2.2))
def Z35 (d:Int×Int×Int×Int):List OB:=[]
def Z1t:CSp:=mkSp Z51 J1g Z37 Z35
def Q73 (lc:Int) (lo:Int) (hi:Int) (lg:Int):Prop :=
 ([lc].length≤1000000)∧((!([lc].any fun n=>decide (n<(0:Int))||decide ((9:Int)<n)))=true→True)∧((!([lc].any fun n=>decide (n<(0:Int))||decide ((9:Int)<n)))=true→[lo,hi].length≤1000000)∧((((!([lc].any fun n=>decide (n<(0:Int))||decide ((9:Int)<n)))&&(!([lo,hi].any fun n=>decide (n<(0:Int))||decide ((1000:Int)<n))))&&(decide (lo≤hi)))=true→True)∧((((!([lc].any fun n=>decide (n<(0:Int))||decide ((9:Int)<n)))&&(!([lo,hi].any fun n=>decide (n<(0:Int))||decide ((1000:Int)<n))))&&(decide (lo≤hi)))=true→[lg].length≤1000000)∧(((((!([lc].any fun n=>decide (n<(0:Int))||decide ((9:Int)<n)))&&(!([lo,hi].any fun n=>decide (n<(0:Int))||decide ((1000:Int)<n))))&&(decide (lo≤hi)))&&(!([lg].any fun n=>decide (n<(1:Int))||decide ((1000000:Int)<n))))=(lotOk (lc,(lo,hi),lg))∧(True))
def Z52:Cx:=⟨[(3,(.i .i64))],[(61,Q3l)],32,[],0,[],[],[],[],false,[],[],[],[]⟩
def J35 (lc:Int) (lo:Int) (hi:Int) (lg:Int):List (Nat×LoopAnn):=[]
set_option maxRecDepth 100000 in
theorem J32 (d:Int×Int×Int×Int):gwp (Z52) (J35 d.1 d.2.1 d.2.2.1 d.2.2.2) c92 0 (gend [.tmp 2] (Z37 d) (Z35 d)) (gstart 32 (AL.can Z51 d))=Q73 d.1 d.2.1 d.2.2.1 d.2.2.2:=by kernel_rfl
abbrev J3b:Prop:=OkC Tryz.prog 92 Z1t
theorem J37 (h:∀ (lc:Int) (lo:Int) (hi:Int) (lg:Int),(True)→Q73 lc lo hi lg):OkC Tryz.prog 92 Z1t :=
 Q1b fun92 mixed (C:=Z52) (V:=fun (d:Int×Int×Int×Int)=>Q73 d.1 d.2.1 d.2.2.1 d.2.2.2) ⟨(.cons Q66 .nil),XsOk.nil,ItsOk.nil,YlOk.nil,IysOk.nil,XfOk.nil⟩ (J32) fun d hp=>h d.1 d.2.1 d.2.2.1 d.2.2.2 hp
theorem J2n:J3b:=J37 fun lc lo hi lg _=>by unfold Q73;(try delta lI gD sT I64);have e:∀ n a b:Int,(decide (n<a)||decide (b<n))=!inI n a b:=fun n a b=>(nI n a b).symm;simp only[List.any_cons,List.any_nil,Bool.or_false,e,Bool.not_not,List.length_cons,List.length_nil,Bool.not_or];refine⟨by omega,fun _=>trivial,fun _=>by omega,fun _=>trivial,fun _=>by omega,?_⟩;and_intros<;>first|rfl|trivial
def Z2b:AL (Int×Int×Int×Int):=(.one (.agg (.cons (.k (.i .i64)) (.cons (.k (.i .i64)) (.cons (.k (.i .i64)) (.one (.k (.i .i64))))))))
def Z82 (d:Int×Int×Int×Int):Prop:=True
def Z1i (d:Int×Int×Int×Int):SV:=.val .bo (!lotOk (d.1,(d.2.1,d.2.2.1),d.2.2.2))
def Z0x (d:Int×Int×Int×Int):List OB:=[]
def Q9e:CSp:=mkSp Z2b Z82 Z1i Z0x
def Q50 (lc:Int) (lo:Int) (hi:Int) (lg:Int):Prop :=
 (True)∧((!(lotOk (lc,(lo,hi),lg)))=(!lotOk (lc,(lo,hi),lg))∧(True))
def Z28:Cx:=⟨[],[(92,Z1t)],6,[],0,[],[],[],[],false,[],[],[],[]⟩
def Z9a (lc:Int) (lo:Int) (hi:Int) (lg:Int):List (Nat×LoopAnn):=[]
set_option maxRecDepth 100000 in
theorem Z9c (d:Int×Int×Int×Int):gwp (Z28) (Z9a d.1 d.2.1 d.2.2.1 d.2.2.2) c91 0 (gend [.tmp 2] (Z1i d) (Z0x d)) (gstart 6 (AL.can Z2b d))=Q50 d.1 d.2.1 d.2.2.1 d.2.2.2:=by kernel_rfl
abbrev Z9g:Prop:=OkC Tryz.prog 91 Q9e
theorem Z9l (h:∀ (lc:Int) (lo:Int) (hi:Int) (lg:Int),(True)→Q50 lc lo hi lg):OkC Tryz.prog 91 Q9e :=
 Q1b fun91 mixed (C:=Z28) (V:=fun (d:Int×Int×Int×Int)=>Q50 d.1 d.2.1 d.2.2.1 d.2.2.2) ⟨(.cons J2n .nil),XsOk.nil,ItsOk.nil,YlOk.nil,IysOk.nil,XfOk.nil⟩ (Z9c) fun d hp=>h d.1 d.2.1 d.2.2.1 d.2.2.2 hp
theorem Z9f:Z9g:=Z9l fun lc lo hi lg _=>by unfold Q50;(try delta lI gD sT I64);and_intros<;>first|rfl|trivial
def Q0v:AL ((List (Int×(Int×Int)×Int))×((Int×(Int×Int)×Int→Prop)×(Int×(Int×Int)×Int→Bool))):=(.cons (.k (.list (.pair (.i .i64) (.pair (.pair (.i .i64) (.i .i64)) (.i .i64))))) (.one (.fn [(.pair (.i .i64) (.pair (.pair (.i .i64) (.i .i64)) (.i .i64)))] .bo)))
def Q2s (d:(List (Int×(Int×Int)×Int))×((Int×(Int×Int)×Int→Prop)×(Int×(Int×Int)×Int→Bool))):Prop:=d.1.length≤1000000∧∀ x∈d.1,d.2.1 x
def Q0r (d:(List (Int×(Int×Int)×Int))×((Int×(Int×Int)×Int→Prop)×(Int×(Int×Int)×Int→Bool))):SV:=.val (.i .i64) (idxG d.1 d.2.2)
def Q0q (d:(List (Int×(Int×Int)×Int))×((Int×(Int×Int)×Int→Prop)×(Int×(Int×Int)×Int→Bool))):List OB:=[]
def Q0f:CSp:=mkSp Q0v Q2s Q0r Q0q
def Q07 (l:List (Int×(Int×Int)×Int)) (p:(Int×(Int×Int)×Int→Prop)×(Int×(Int×Int)×Int→Bool)):Prop :=
 ∃ (e2:Unit) (d20:Int),((l=l∧(SV.pf [(.pair (.i .i64) (.pair (.pair (.i .i64) (.i .i64)) (.i .i64)))] .bo p.1 p.2=SV.pf [(.pair (.i .i64) (.pair (.pair (.i .i64) (.i .i64)) (.i .i64)))] .bo p.1 p.2)∧(lI l)=(lI l)∧(0:Int)=d20∧True)∧(True)) ∧
 LoopP (fun (d2:Int) (q2:(Int)→Prop) =>
  ((decide (d2<(lI l)))=true →
   (0≤d2)∧(d2<(List.length l))∧(p.1 ((gD l d2 (0,((0,0),0))).1,(((gD l d2 (0,((0,0),0))).2.1.1,(gD l d2 (0,((0,0),0))).2.1.2),(gD l d2 (0,((0,0),0))).2.2)))∧((p.2 ((gD l d2 (0,((0,0),0))).1,(((gD l d2 (0,((0,0),0))).2.1.1,(gD l d2 (0,((0,0),0))).2.1.2),(gD l d2 (0,((0,0),0))).2.2)))=true →
    (d2=(idxG l p.2)∧(True))) ∧
   ((p.2 ((gD l d2 (0,((0,0),0))).1,(((gD l d2 (0,((0,0),0))).2.1.1,(gD l d2 (0,((0,0),0))).2.1.2),(gD l d2 (0,((0,0),0))).2.2)))=false →
    (I64 (d2+(1:Int)))∧(∃ d3:Int,((l=l∧(SV.pf [(.pair (.i .i64) (.pair (.pair (.i .i64) (.i .i64)) (.i .i64)))] .bo p.1 p.2=SV.pf [(.pair (.i .i64) (.pair (.pair (.i .i64) (.i .i64)) (.i .i64)))] .bo p.1 p.2)∧(lI l)=(lI l)∧(d2+(1:Int))=d3∧True)∧(True))∧q2 d3))) ∧
  ((decide (d2<(lI l)))=false →
   ((-1:Int)=(idxG l p.2)∧(True)))) d20
def Q0t:Cx:=⟨[],[],19,[],0,[],[],[],[],false,[],[],[],[]⟩
def Q2y (l:List (Int×(Int×Int)×Int)) (p:(Int×(Int×Int)×Int→Prop)×(Int×(Int×Int)×Int→Bool)):List (Nat×LoopAnn):=[(0,⟨Unit,Int,[0,1,7,8],fun e x=>[.val (.list (.pair (.i .i64) (.pair (.pair (.i .i64) (.i .i64)) (.i .i64)))) l,.pf [(.pair (.i .i64) (.pair (.pair (.i .i64) (.i .i64)) (.i .i64)))] .bo p.1 p.2,.val (.i .i64) (((List.length l):Nat):Int),.val (.i .i64) x],fun e x=>[]⟩)]
set_option maxRecDepth 100000 in
theorem Q2w (d:(List (Int×(Int×Int)×Int))×((Int×(Int×Int)×Int→Prop)×(Int×(Int×Int)×Int→Bool))):gwp (Q0t) (Q2y d.1 d.2) c104 0 (gend [.tmp 4] (Q0r d) (Q0q d)) (gstart 19 (AL.can Q0v d))=Q07 d.1 d.2:=by kernel_rfl
abbrev Q2v:Prop:=OkC Tryz.prog 104 Q0f
theorem Q2z (h:∀ (l:List (Int×(Int×Int)×Int)) (p:(Int×(Int×Int)×Int→Prop)×(Int×(Int×Int)×Int→Bool)),(l.length≤1000000∧∀ x∈l,p.1 x)→Q07 l p):OkC Tryz.prog 104 Q0f :=
 Q1b fun104 mixed (C:=Q0t) (V:=fun (d:(List (Int×(Int×Int)×Int))×((Int×(Int×Int)×Int→Prop)×(Int×(Int×Int)×Int→Bool)))=>Q07 d.1 d.2) ⟨.nil,XsOk.nil,ItsOk.nil,YlOk.nil,IysOk.nil,XfOk.nil⟩ (Q2w) fun d hp=>h d.1 d.2 hp
theorem Q2u:Q2v:=Q2z fun l p hp=>by
 unfold Q07;(try delta lI gD sT I64);simp only[true_and,and_true,exists_eq_left',exists_const,decide_eq_true_eq,decide_eq_false_iff_not];refine LoopP.count l.length (fun k=>(l.take k).any p.2=false) (by simp) fun k hk1 hJ q hq=>?_;simp only[Int.toNat_natCast,Int.ofNat_lt,Q1a];refine⟨fun hlt=>?_,fun hge=>?_⟩
 ·have hlt:k<l.length:=by omega
  rw[Q03 hlt];refine⟨by omega,by omega,hp.2 _ (List.getElem_mem hlt),fun hx=>?_,fun hx=>⟨by omega,hq hlt ?_⟩⟩
  ·rw[X3l hlt hx hJ]
  ·rw[Q2d hlt,List.any_append,hJ];simp[hx]
 ·rw[List.take_of_length_le (by omega)] at hJ;rw[J6c hJ]
def Q0m:AL ((List (Int×(Int×Int)×Int))×((Int×(Int×Int)×Int→Prop)×(Int×(Int×Int)×Int→Bool))):=(.cons (.k (.list (.pair (.i .i64) (.pair (.pair (.i .i64) (.i .i64)) (.i .i64))))) (.one (.fn [(.pair (.i .i64) (.pair (.pair (.i .i64) (.i .i64)) (.i .i64)))] .bo)))
def Q28 (d:(List (Int×(Int×Int)×Int))×((Int×(Int×Int)×Int→Prop)×(Int×(Int×Int)×Int→Bool))):Prop:=d.1.length≤1000000∧∀ x∈d.1,d.2.1 x
def Q0k (d:(List (Int×(Int×Int)×Int))×((Int×(Int×Int)×Int→Prop)×(Int×(Int×Int)×Int→Bool))):SV:=.val .bo (d.1.any d.2.2)
def Q0l (d:(List (Int×(Int×Int)×Int))×((Int×(Int×Int)×Int→Prop)×(Int×(Int×Int)×Int→Bool))):List OB:=[]
def Q06:CSp:=mkSp Q0m Q28 Q0k Q0l
def Q05 (l:List (Int×(Int×Int)×Int)) (p:(Int×(Int×Int)×Int→Prop)×(Int×(Int×Int)×Int→Bool)):Prop :=
 (l.length≤1000000∧∀ x∈l,(fun (x1:Int×(Int×Int)×Int)=>p.1 (x1.1,((x1.2.1.1,x1.2.1.2),x1.2.2))) x)∧((decide ((idxG l (fun (x1:Int×(Int×Int)×Int)=>(p.2 (x1.1,((x1.2.1.1,x1.2.1.2),x1.2.2)))))≥(0:Int)))=(l.any p.2)∧(True))
def Q0o:Cx:=⟨[],[(104,Q0f)],9,[],0,[],[],[],[],false,[],[],[],[]⟩
def Q2f (l:List (Int×(Int×Int)×Int)) (p:(Int×(Int×Int)×Int→Prop)×(Int×(Int×Int)×Int→Bool)):List (Nat×LoopAnn):=[]
set_option maxRecDepth 100000 in
theorem Q2h (d:(List (Int×(Int×Int)×Int))×((Int×(Int×Int)×Int→Prop)×(Int×(Int×Int)×Int→Bool))):gwp (Q0o) (Q2f d.1 d.2) c90 0 (gend [.tmp 4] (Q0k d) (Q0l d)) (gstart 9 (AL.can Q0m d))=Q05 d.1 d.2:=by kernel_rfl
abbrev Q2b:Prop:=OkC Tryz.prog 90 Q06
theorem Q2c (h:∀ (l:List (Int×(Int×Int)×Int)) (p:(Int×(Int×Int)×Int→Prop)×(Int×(Int×Int)×Int→Bool)),(l.length≤1000000∧∀ x∈l,p.1 x)→Q05 l p):OkC Tryz.prog 90 Q06 :=
 Q1b fun90 mixed (C:=Q0o) (V:=fun (d:(List (Int×(Int×Int)×Int))×((Int×(Int×Int)×Int→Prop)×(Int×(Int×Int)×Int→Bool)))=>Q05 d.1 d.2) ⟨(.cons Q2u .nil),XsOk.nil,ItsOk.nil,YlOk.nil,IysOk.nil,XfOk.nil⟩ (Q2h) fun d hp=>h d.1 d.2 hp
theorem Q0n:Q2b:=Q2c fun l p hp=>by simp only[Q05];exact⟨hp,X55 l p.2,trivial⟩
def Z50:AL (List (Int×(Int×Int)×Int)):=(.one (.k (.list (.pair (.i .i64) (.pair (.pair (.i .i64) (.i .i64)) (.i .i64))))))
def J2a (d:List (Int×(Int×Int)×Int)):Prop:=d.length≤1000
def Z3e (d:List (Int×(Int×Int)×Int)):SV:=.val (.i .i64) (lotsErr d)
def Z3b (d:List (Int×(Int×Int)×Int)):List OB:=[]
def Q6c:CSp:=mkSp Z50 J2a Z3e Z3b
def Q75 (l:List (Int×(Int×Int)×Int)):Prop :=
 ((decide ((lI l) > (12:Int)))=true →
  ((5:Int)=(lotsErr l)∧(True))) ∧
 ((decide ((lI l) > (12:Int)))=false →
  (l.length≤1000000∧∀ x∈l,(fun (x1:Int×(Int×Int)×Int)=>True) x)∧((l.any (fun (x1:Int×(Int×Int)×Int)=>(!lotOk (x1.1,(x1.2.1.1,x1.2.1.2),x1.2.2))))=true →
   ((2:Int)=(lotsErr l)∧(True))) ∧
  ((l.any (fun (x1:Int×(Int×Int)×Int)=>(!lotOk (x1.1,(x1.2.1.1,x1.2.1.2),x1.2.2))))=false →
   ((0:Int)=(lotsErr l)∧(True))))
def Z5g:Cx:=⟨[],[(90,Q06),(91,Q9e)],10,[],0,[],[],[],[],false,[],[],[],[]⟩
def J30 (l:List (Int×(Int×Int)×Int)):List (Nat×LoopAnn):=[]
set_option maxRecDepth 100000 in
theorem J39 (d:List (Int×(Int×Int)×Int)):gwp (Z5g) (J30 d) c69 0 (gend [.tmp 2] (Z3e d) (Z3b d)) (gstart 10 (AL.can Z50 d))=Q75 d:=by kernel_rfl
abbrev J2r:Prop:=OkC Tryz.prog 69 Q6c
theorem J2t (h:∀ (l:List (Int×(Int×Int)×Int)),(l.length≤1000)→Q75 l):OkC Tryz.prog 69 Q6c :=
 Q1b fun69 mixed (C:=Z5g) (V:=fun (d:List (Int×(Int×Int)×Int))=>Q75 d) ⟨(.cons Q0n (.cons Z9f .nil)),XsOk.nil,ItsOk.nil,YlOk.nil,IysOk.nil,XfOk.nil⟩ (J39) fun d hp=>h d hp
theorem Z0r:J2r:=J2t fun l hl=>by
 unfold Q75;(try delta lI gD sT I64)
 (try simp only[decide_eq_true_eq,decide_eq_false_iff_not])
 refine⟨fun h1=>⟨?_,trivial⟩,fun h1=>⟨⟨by omega,fun _ _=>trivial⟩,fun h2=>⟨?_,trivial⟩,fun h2=>⟨?_,trivial⟩⟩⟩
 ·unfold lotsErr;rw[if_pos (by omega)]
 ·unfold lotsErr;rw[if_neg (by omega),if_pos h2]
 ·unfold lotsErr;rw[if_neg (by omega),if_neg (by rw[show (l.any fun x=>!lotOk x)=false from h2];decide)]
def Z8r:AL (List (Int×(Int×Int)×Int)):=(.one (.k (.list (.pair (.i .i64) (.pair (.pair (.i .i64) (.i .i64)) (.i .i64))))))
def J50 (d:List (Int×(Int×Int)×Int)):Prop:=d.length≤1000
def Z6h (d:List (Int×(Int×Int)×Int)):SV:=.lst 0
def Z7a (d:List (Int×(Int×Int)×Int)):List OB:=[.lst 78 (.pair (.i .i64) (.pair (.pair (.i .i64) (.i .i64)) (.i .i64))) d false]
def Z67:CSp:=mkSp Z8r J50 Z6h Z7a
def Z0i (l:List (Int×(Int×Int)×Int)):Prop :=
 (((List.length ([]:List (Int×(Int×Int)×Int)))+(List.length l))*32≤70368744177664)∧(True∧(((([]:List (Int×(Int×Int)×Int))++l)=l∧((List.isEmpty l)&&false)=false)∧True))
def Z8x:Cx:=⟨[(78,(.pair (.i .i64) (.pair (.pair (.i .i64) (.i .i64)) (.i .i64))))],[],6,[],0,[],[],[],[],false,[],[],[],[]⟩
def J88 (l:List (Int×(Int×Int)×Int)):List (Nat×LoopAnn):=[]
set_option maxRecDepth 100000 in
theorem J6o (d:List (Int×(Int×Int)×Int)):gwp (Z8x) (J88 d) c14 0 (gend [.tmp 2] (Z6h d) (Z7a d)) (gstart 6 (AL.can Z8r d))=Z0i d:=by kernel_rfl
abbrev J7w:Prop:=OkC Tryz.prog 14 Z67
theorem J79 (h:∀ (l:List (Int×(Int×Int)×Int)),(l.length≤1000)→Z0i l):OkC Tryz.prog 14 Z67 :=
 Q1b fun14 mixed (C:=Z8x) (V:=fun (d:List (Int×(Int×Int)×Int))=>Z0i d) ⟨.nil,XsOk.nil,ItsOk.nil,YlOk.nil,IysOk.nil,XfOk.nil⟩ (J6o) fun d hp=>h d hp
theorem J6s:J7w:=J79 fun l h=>by
 have h1:l.length*32≤70368744177664:=by omega
 simp[Z0i,h1]
def Z78:AL (List Int):=(.one (.k (.list (.i .i64))))
def J2v (d:List Int):Prop:=d.length≤1000
def Z55 (d:List Int):SV:=.lst 0
def Z59 (d:List Int):List OB:=[.lst 3 (.i .i64) d false]
def Z48:CSp:=mkSp Z78 J2v Z55 Z59
def Q8g (l:List Int):Prop :=
 (((List.length ([]:List Int))+(List.length l))*8≤70368744177664)∧(True∧(((([]:List Int)++l)=l∧((List.isEmpty l)&&false)=false)∧True))
def Z7c:Cx:=⟨[(3,(.i .i64))],[],6,[],0,[],[],[],[],false,[],[],[],[]⟩
def J4l (l:List Int):List (Nat×LoopAnn):=[]
set_option maxRecDepth 100000 in
theorem J5x (d:List Int):gwp (Z7c) (J4l d) c40 0 (gend [.tmp 2] (Z55 d) (Z59 d)) (gstart 6 (AL.can Z78 d))=Q8g d:=by kernel_rfl
abbrev J5b:Prop:=OkC Tryz.prog 40 Z48
theorem J4z (h:∀ (l:List Int),(l.length≤1000)→Q8g l):OkC Tryz.prog 40 Z48 :=
 Q1b fun40 mixed (C:=Z7c) (V:=fun (d:List Int)=>Q8g d) ⟨.nil,XsOk.nil,ItsOk.nil,YlOk.nil,IysOk.nil,XfOk.nil⟩ (J5x) fun d hp=>h d hp
theorem J5n:J5b:=J4z fun l h=>by
 have h1:l.length*8≤70368744177664:=by omega
 simp[Q8g,h1]
end Go.Proofs.Tryz
set_option linter.unusedVariables false
namespace Go.Proofs.Tryz
open Go Go.V Go.Proofs
def Z3o:AL (List (Int×(Int×Int)×Int)):=(.one (.k (.list (.pair (.i .i64) (.pair (.pair (.i .i64) (.i .i64)) (.i .i64))))))
def Z9k (d:List (Int×(Int×Int)×Int)):Prop:=d≠[]∧d.length≤1000∧∀ x∈d,lotOk x=true
def Z2i (d:List (Int×(Int×Int)×Int)):SV:=.agg [.val (.i .i64) ((sprD d).1),.val (.i .i64) ((sprD d).2)]
def Z2f (d:List (Int×(Int×Int)×Int)):List OB:=[]
def Q76:CSp:=mkSp Z3o Z9k Z2i Z2f
def Q5q (l:List (Int×(Int×Int)×Int)):Prop :=
 (0≤(0:Int))∧((0:Int)<(List.length l))∧(0≤(0:Int))∧((0:Int)<(List.length l))∧((l=l∧True∧True∧True∧((gD l (0:Int) (0,((0,0),0))).2.1.1=(gD l (0:Int) (0,((0,0),0))).2.1.1∧(gD l (0:Int) (0,((0,0),0))).2.1.2=(gD l (0:Int) (0,((0,0),0))).2.1.2∧(([]:List SV)=[]))∧True)∧(((0:Int)=(0:Int)∧(0:Int)=(0:Int)∧(([]:List SV)=[]))∧((gD l (0:Int) (0,((0,0),0))).2.1.1=(gD l (0:Int) (0,((0,0),0))).2.1.1∧(gD l (0:Int) (0,((0,0),0))).2.1.2=(gD l (0:Int) (0,((0,0),0))).2.1.2∧(([]:List SV)=[]))∧((0:Int)=(0:Int)∧(0:Int)=(0:Int)∧(([]:List SV)=[]))∧True))∧((0≤(0:Int))∧((0:Int)<(List.length l))∧(0≤(0:Int))∧((0:Int)<(List.length l))∧((l=l∧True∧True∧True∧((gD l (0:Int) (0,((0,0),0))).2.1.1=(gD l (0:Int) (0,((0,0),0))).2.1.1∧(gD l (0:Int) (0,((0,0),0))).2.1.2=(gD l (0:Int) (0,((0,0),0))).2.1.2∧(([]:List SV)=[]))∧True)∧(((0:Int)=(0:Int)∧(0:Int)=(0:Int)∧(([]:List SV)=[]))∧((gD l (0:Int) (0,((0,0),0))).2.1.1=(gD l (0:Int) (0,((0,0),0))).2.1.1∧(gD l (0:Int) (0,((0,0),0))).2.1.2=(gD l (0:Int) (0,((0,0),0))).2.1.2∧(([]:List SV)=[]))∧((0:Int)=(0:Int)∧(0:Int)=(0:Int)∧(([]:List SV)=[]))∧True)))∧(0≤(1:Int))∧((1:Int)≤(lI l))∧((lI l)≤(List.length l))∧∃ (e3:Unit) (d30:Int×Int×Int×Int×Int),((True∧True∧True∧(List.take (Int.toNat ((lI l)-(1:Int))) (List.drop (Int.toNat (1:Int)) l))=(List.take (Int.toNat ((lI l)-(1:Int))) (List.drop (Int.toNat (1:Int)) l))∧(lI (List.take (Int.toNat ((lI l)-(1:Int))) (List.drop (Int.toNat (1:Int)) l)))=(lI (List.take (Int.toNat ((lI l)-(1:Int))) (List.drop (Int.toNat (1:Int)) l)))∧(0:Int)=d30.2.2.2.2∧True)∧(((0:Int)=(0:Int)∧(0:Int)=(0:Int)∧(([]:List SV)=[]))∧((gD l (0:Int) (0,((0,0),0))).2.1.1=d30.1∧(gD l (0:Int) (0,((0,0),0))).2.1.2=d30.2.1∧(([]:List SV)=[]))∧((gD l (0:Int) (0,((0,0),0))).2.1.1=d30.2.2.1∧(gD l (0:Int) (0,((0,0),0))).2.1.2=d30.2.2.2.1∧(([]:List SV)=[]))∧True)) ∧
 LoopP (fun (d3:Int×Int×Int×Int×Int) (q3:(Int×Int×Int×Int×Int)→Prop) =>
  ((decide (d3.2.2.2.2<(lI (List.take (Int.toNat ((lI l)-(1:Int))) (List.drop (Int.toNat (1:Int)) l)))))=true →
   (0≤d3.2.2.2.2)∧(d3.2.2.2.2<(List.length (List.take (Int.toNat ((lI l)-(1:Int))) (List.drop (Int.toNat (1:Int)) l))))∧(I64 (d3.2.2.2.2+(1:Int)))∧(∃ d4:Int×Int×Int×Int×Int,((True∧True∧True∧(List.take (Int.toNat ((lI l)-(1:Int))) (List.drop (Int.toNat (1:Int)) l))=(List.take (Int.toNat ((lI l)-(1:Int))) (List.drop (Int.toNat (1:Int)) l))∧(lI (List.take (Int.toNat ((lI l)-(1:Int))) (List.drop (Int.toNat (1:Int)) l)))=(lI (List.take (Int.toNat ((lI l)-(1:Int))) (List.drop (Int.toNat (1:Int)) l)))∧(d3.2.2.2.2+(1:Int))=d4.2.2.2.2∧True)∧(((0:Int)=(0:Int)∧(0:Int)=(0:Int)∧(([]:List SV)=[]))∧((gmax d3.1 (gD (List.take (Int.toNat ((lI l)-(1:Int))) (List.drop (Int.toNat (1:Int)) l)) d3.2.2.2.2 (0,((0,0),0))).2.1.1)=d4.1∧(gmin d3.2.1 (gD (List.take (Int.toNat ((lI l)-(1:Int))) (List.drop (Int.toNat (1:Int)) l)) d3.2.2.2.2 (0,((0,0),0))).2.1.2)=d4.2.1∧(([]:List SV)=[]))∧((gmin d3.2.2.1 (gD (List.take (Int.toNat ((lI l)-(1:Int))) (List.drop (Int.toNat (1:Int)) l)) d3.2.2.2.2 (0,((0,0),0))).2.1.1)=d4.2.2.1∧(gmax d3.2.2.2.1 (gD (List.take (Int.toNat ((lI l)-(1:Int))) (List.drop (Int.toNat (1:Int)) l)) d3.2.2.2.2 (0,((0,0),0))).2.1.2)=d4.2.2.2.1∧(([]:List SV)=[]))∧True))∧q3 d4)) ∧
  ((decide (d3.2.2.2.2<(lI (List.take (Int.toNat ((lI l)-(1:Int))) (List.drop (Int.toNat (1:Int)) l)))))=false →
   (I64 (d3.1-d3.2.1))∧(I64 (d3.2.2.2.1-d3.2.2.1))∧(((gmax (0:Int) (d3.1-d3.2.1))=((sprD l).1)∧(d3.2.2.2.1-d3.2.2.1)=((sprD l).2)∧(([]:List SV)=[]))∧(True)))) d30
def Z3z:Cx:=⟨[],[],61,[],0,[],[],[],[0,2,3,4,14],false,[],[],[],[]⟩
def J2h (l:List (Int×(Int×Int)×Int)):List (Nat×LoopAnn):=[(0,⟨Unit,Int×Int×Int×Int×Int,[2,3,4,16,17,18],fun e x=>[.box 2 0,.box 3 0,.box 4 0,.val (.list (.pair (.i .i64) (.pair (.pair (.i .i64) (.i .i64)) (.i .i64)))) (List.take (Int.toNat ((((List.length l):Nat):Int)-(1:Int))) (List.drop (Int.toNat (1:Int)) l)),.val (.i .i64) (((List.length (List.take (Int.toNat ((((List.length l):Nat):Int)-(1:Int))) (List.drop (Int.toNat (1:Int)) l))):Nat):Int),.val (.i .i64) x.2.2.2.2],fun e x=>[(2,.slot 2,.cells [.val (.i .i64) (0:Int),.val (.i .i64) (0:Int)] (some 59)),(3,.slot 3,.cells [.val (.i .i64) x.1,.val (.i .i64) x.2.1] (some 59)),(4,.slot 4,.cells [.val (.i .i64) x.2.2.1,.val (.i .i64) x.2.2.2.1] (some 59))]⟩)]
set_option maxRecDepth 100000 in
theorem J2k (d:List (Int×(Int×Int)×Int)):gwp (Z3z) (J2h d) c70 0 (gend [.cell 2 true 2] (Z2i d) (Z2f d)) (gstart 61 (AL.can Z3o d))=Q5q d:=by kernel_rfl
abbrev J0p:Prop:=OkC Tryz.prog 70 Q76
theorem J1b (h:∀ (l:List (Int×(Int×Int)×Int)),(l≠[]∧l.length≤1000∧∀ x∈l,lotOk x=true)→Q5q l):OkC Tryz.prog 70 Q76 :=
 Q1b fun70 mixed (C:=Z3z) (V:=fun (d:List (Int×(Int×Int)×Int))=>Q5q d) ⟨.nil,XsOk.nil,ItsOk.nil,YlOk.nil,IysOk.nil,XfOk.nil⟩ (J2k) fun d hp=>h d hp
theorem Z3u:J0p:=J1b fun l h=>by
 obtain⟨h1,h2,h3⟩:=h;have hp:1≤l.length:=List.length_pos_iff.2 h1;unfold Q5q;(try delta lI gD sT I64);simp only[decide_eq_true_eq,decide_eq_false_iff_not];have hM:List.take ((l.length:Int)-1).toNat (List.drop (Int.toNat 1) l)=l.drop 1:=List.take_of_length_le (by rw[List.length_drop];show l.length-1≤_;omega);have hMl:(l.drop 1).length=l.length-1:=List.length_drop ..;have hMk:∀ k,k+1<l.length→(l.drop 1).getD k (0,((0,0),0))=l[k+1]?.getD lotD:=fun k hk=>by rw[Q03 (by omega),List.getElem_drop,List.getElem?_eq_getElem hk];simp only[Option.getD_some,Nat.add_comm]
 have h0:l.getD (Int.toNat 0) (0,((0,0),0))=l.getD 0 lotD:=rfl;have s1:=J9q h1;rw[hM,h0];refine⟨by omega,by omega,by omega,by omega,(by and_intros<;>first|rfl|trivial|simp),⟨by omega,by omega,by omega,by omega,(by and_intros<;>first|rfl|trivial|simp)⟩,by omega,by omega,by omega,(),((sprF l 1).1,(sprF l 1).2.1,(sprF l 1).2.2.1,(sprF l 1).2.2.2,0),by rw[s1];exact(by and_intros<;>first|rfl|trivial|simp),?_⟩;refine⟨fun d=>∃ k:Nat,k+1≤l.length∧d=((sprF l (k+1)).1,(sprF l (k+1)).2.1,(sprF l (k+1)).2.2.1,(sprF l (k+1)).2.2.2,(k:Int)),fun d=>l.length-d.2.2.2.2.toNat,⟨0,hp,rfl⟩,?_⟩;rintro _ ⟨k,hk,rfl⟩;dsimp only;simp only[Int.toNat_natCast,hMl];refine⟨fun hlt=>?_,fun hge=>?_⟩
 ·have hk1:k+1<l.length:=by omega
  rw[hMk k hk1,List.getElem?_eq_getElem hk1,Option.getD_some];have hs:=J6u hk1;refine⟨by omega,by omega,by rw[Q1a];omega,((sprF l (k+1+1)).1,(sprF l (k+1+1)).2.1,(sprF l (k+1+1)).2.2.1,(sprF l (k+1+1)).2.2.2,(k:Int)+1),by rw[hs];exact(by and_intros<;>first|rfl|trivial|simp),⟨k+1,by omega,by simp⟩,?_⟩;dsimp only;omega
 ·have hkl:k+1=l.length:=by omega
  obtain⟨a,⟨i1,b1,c1⟩,⟨i2,b2,c2⟩,⟨i3,b3,c3⟩,⟨i4,b4,c4⟩⟩:=Z6s h1 l.length hp (Nat.le_refl _);have hv:∀ i,i<l.length→0≤(l.getD i lotD).2.1.1∧(l.getD i lotD).2.1.1≤1000∧0≤(l.getD i lotD).2.1.2∧(l.getD i lotD).2.1.2≤1000:=fun i hi=>by have:=Z1g.1 (h3 _ (List.getElem_mem hi));rw[Q03 hi];omega
  have v1:=hv i1 b1;have v2:=hv i2 b2;have v3:=hv i3 b3;have v4:=hv i4 b4;rw[hkl];unfold sprD;refine⟨by rw[Q1a];omega,by rw[Q1a];omega,?_⟩;and_intros<;>first|rfl|trivial
end Go.Proofs.Tryz
set_option linter.unusedVariables false
namespace Go.Proofs.Tryz
open Go Go.V Go.Proofs
def Z40:AL ((List (Int×(Int×Int)×Int))×List Int):=(.cons (.k (.list (.pair (.i .i64) (.pair (.pair (.i .i64) (.i .i64)) (.i .i64))))) (.one (.k (.list (.i .i64)))))
def Z9p (d:(List (Int×(Int×Int)×Int))×List Int):Prop:=d.1.length≤1000∧d.2.length≤1000
def Z2g (d:(List (Int×(Int×Int)×Int))×List Int):SV:=.tup [.agg [.val (.i .i64) ((spreadSp d.1 d.2).1),.val (.i .i64) ((spreadSp d.1 d.2).2)],.val (.i .i64) (Q0c d.1 d.2)]
def Z2m (d:(List (Int×(Int×Int)×Int))×List Int):List OB:=[]
def Z0v:CSp:=mkSp Z40 Z9p Z2g Z2m
def Q65 (l:List (Int×(Int×Int)×Int)) (sm:List Int):Prop :=
 (l.length≤1000)∧(((lotsErr l) != (0:Int))=true →
  ((((0:Int)=((spreadSp l sm).1)∧(0:Int)=((spreadSp l sm).2)∧(([]:List SV)=[]))∧(lotsErr l)=(Q0c l sm)∧(([]:List SV)=[]))∧(True))) ∧
 (((lotsErr l) != (0:Int))=false →
  (((lI sm)==(0:Int))=false→InK .i64 ((lI l)-(1:Int)))∧(((lI sm)==(0:Int))=false→sm.length≤1000000)∧((((lI sm)==(0:Int))||(!(!(sm.any fun n=>decide (n<(0:Int))||decide (((lI l)-(1:Int))<n)))))=true →
   ((((0:Int)=((spreadSp l sm).1)∧(0:Int)=((spreadSp l sm).2)∧(([]:List SV)=[]))∧(7:Int)=(Q0c l sm)∧(([]:List SV)=[]))∧(True))) ∧
  ((((lI sm)==(0:Int))||(!(!(sm.any fun n=>decide (n<(0:Int))||decide (((lI l)-(1:Int))<n)))))=false →
   ∃ (e4:Unit) (d40:(List (Int×(Int×Int)×Int))×(List (Int×Bool))×Int),((l=l∧True∧True∧True∧sm=sm∧(lI sm)=(lI sm)∧(0:Int)=d40.2.2∧True)∧(((0:Int)=(0:Int)∧(0:Int)=(0:Int)∧(([]:List SV)=[]))∧(d40.1=[]∧(List.isEmpty d40.1)=true)∧(([]:List (Int×Bool))=d40.2.1)∧True)) ∧
   LoopP (fun (d4:(List (Int×(Int×Int)×Int))×(List (Int×Bool))×Int) (q4:((List (Int×(Int×Int)×Int))×(List (Int×Bool))×Int)→Prop) =>
    ((decide (d4.2.2<(lI sm)))=true →
     (0≤d4.2.2)∧(d4.2.2<(List.length sm))∧((gq.aget (.i .i64) d4.2.1 (gD sm d4.2.2 0) false)=true →
      ((((0:Int)=((spreadSp l sm).1)∧(0:Int)=((spreadSp l sm).2)∧(([]:List SV)=[]))∧(6:Int)=(Q0c l sm)∧(([]:List SV)=[]))∧(True))) ∧
     ((gq.aget (.i .i64) d4.2.1 (gD sm d4.2.2 0) false)=false →
      (0≤(gD sm d4.2.2 0))∧((gD sm d4.2.2 0)<(List.length l))∧(((List.length d4.1)+(List.length [((gD l (gD sm d4.2.2 0) (0,((0,0),0))).1,(((gD l (gD sm d4.2.2 0) (0,((0,0),0))).2.1.1,(gD l (gD sm d4.2.2 0) (0,((0,0),0))).2.1.2),(gD l (gD sm d4.2.2 0) (0,((0,0),0))).2.2))]))*32≤70368744177664)∧(I64 (d4.2.2+(1:Int)))∧(∃ d5:(List (Int×(Int×Int)×Int))×(List (Int×Bool))×Int,((l=l∧True∧True∧True∧sm=sm∧(lI sm)=(lI sm)∧(d4.2.2+(1:Int))=d5.2.2∧True)∧(((0:Int)=(0:Int)∧(0:Int)=(0:Int)∧(([]:List SV)=[]))∧((d4.1++[((gD l (gD sm d4.2.2 0) (0,((0,0),0))).1,(((gD l (gD sm d4.2.2 0) (0,((0,0),0))).2.1.1,(gD l (gD sm d4.2.2 0) (0,((0,0),0))).2.1.2),(gD l (gD sm d4.2.2 0) (0,((0,0),0))).2.2))])=d5.1∧false=(List.isEmpty d5.1))∧((aput (.i .i64) d4.2.1 (gD sm d4.2.2 0) true)=d5.2.1)∧True))∧q4 d5))) ∧
    ((decide (d4.2.2<(lI sm)))=false →
     (d4.1≠[]∧d4.1.length≤1000∧∀ x∈d4.1,lotOk x=true)∧(((((sprD d4.1).1)=((spreadSp l sm).1)∧((sprD d4.1).2)=((spreadSp l sm).2)∧(([]:List SV)=[]))∧(0:Int)=(Q0c l sm)∧(([]:List SV)=[]))∧(True)))) d40))
def Z49:Cx:=⟨[(78,(.pair (.i .i64) (.pair (.pair (.i .i64) (.i .i64)) (.i .i64)))),(1000029,(.pair (.i .i64) .bo))],[(69,Q6c),(61,Q3l),(70,Q76)],52,[],0,[],[],[],[],false,[],[],[],[]⟩
def J27 (l:List (Int×(Int×Int)×Int)) (sm:List Int):List (Nat×LoopAnn):=[(0,⟨Unit,(List (Int×(Int×Int)×Int))×(List (Int×Bool))×Int,[0,4,7,8,30,31,32],fun e x=>[.val (.list (.pair (.i .i64) (.pair (.pair (.i .i64) (.i .i64)) (.i .i64)))) l,.box 4 0,.lst 48,.map 29,.val (.list (.i .i64)) sm,.val (.i .i64) (((List.length sm):Nat):Int),.val (.i .i64) x.2.2],fun e x=>[(4,.slot 4,.cells [.val (.i .i64) (0:Int),.val (.i .i64) (0:Int)] (some 59)),(48,.slot 7,.lst 78 (.pair (.i .i64) (.pair (.pair (.i .i64) (.i .i64)) (.i .i64))) x.1 (List.isEmpty x.1)),(29,.slot 8,.map (.i .i64) .bo x.2.1)]⟩)]
set_option maxRecDepth 100000 in
theorem J20 (d:(List (Int×(Int×Int)×Int))×List Int):gwp (Z49) (J27 d.1 d.2) c39 0 (gend [.cell 4 true 2,.tmp 5] (Z2g d) (Z2m d)) (gstart 52 (AL.can Z40 d))=Q65 d.1 d.2:=by kernel_rfl
abbrev J1j:Prop:=OkC Tryz.prog 39 Z0v
theorem J1y (h:∀ (l:List (Int×(Int×Int)×Int)) (sm:List Int),(l.length≤1000∧sm.length≤1000)→Q65 l sm):OkC Tryz.prog 39 Z0v :=
 Q1b fun39 mixed (C:=Z49) (V:=fun (d:(List (Int×(Int×Int)×Int))×List Int)=>Q65 d.1 d.2) ⟨(.cons Z0r (.cons Q66 (.cons Z3u .nil))),XsOk.nil,ItsOk.nil,YlOk.nil,IysOk.nil,XfOk.nil⟩ (J20) fun d hp=>h d.1 d.2 hp
end Go.Proofs.Tryz
set_option linter.unusedVariables false
namespace Go.Proofs.Tryz
open Go Go.V Go.Proofs
theorem Z75 {l:List Lot}(h:lotsErr l=0):l.length≤12∧∀ x∈l,lotOk x=true:=by
 unfold lotsErr at h;split at h
 ·cases h
 ·split at h
  ·cases h
  ·rename_i h1 h2;refine⟨by omega,fun x hx=>?_⟩;have:=List.any_eq_false.1 (Bool.eq_false_iff.2 h2) x hx;simpa using this
theorem J3z {l:List Lot}{sm:List Int}{k:Nat}(h:k<sm.length):pickL l (sm.take (k+1))=pickL l (sm.take k)++[l.getD (sm.getD k 0).toNat lotD]:=by unfold pickL;rw[Q2d h,List.map_append,Q03 h];rfl
theorem J5a {l:List Lot}{sm:List Int}(h:∀ x∈l,lotOk x=true) (hs:∀ i∈sm,0≤i∧i<l.length):∀ x∈pickL l sm,lotOk x=true:=fun x hx=>by simp only[pickL,List.mem_map] at hx;obtain⟨i,hi,rfl⟩:=hx;have:=hs i hi;rw[Q03 (show i.toNat<l.length by omega)];exact h _ (List.getElem_mem _)
theorem Z86 {l:List Lot}{sm:List Int}{e:Int}(h:Q0c l sm=e) (h0:e≠0):(0=(spreadSp l sm).1∧0=(spreadSp l sm).2)∧e=Q0c l sm:=by
 have:spreadSp l sm=(0,0):=by unfold spreadSp;rw[h,if_neg h0]
 rw[this,h];exact⟨⟨rfl,rfl⟩,rfl⟩
theorem J1v:J1j:=J1y fun l sm h=>by
 obtain⟨h1,h2⟩:=h;unfold Q65;(try delta lI gD sT I64);have e:∀ n a b:Int,(decide (n<a)||decide (b<n))=!inI n a b:=fun n a b=>(nI n a b).symm;simp only[e,Bool.not_not,decide_eq_true_eq,decide_eq_false_iff_not,bne_iff_ne,bne_eq_false_iff_eq,ne_eq];refine⟨h1,fun a1=>?_,fun a1=>⟨fun _=>by rw[Q1a];omega,fun _=>by omega,fun a2=>?_,fun a2=>?_⟩⟩
 ·have:=Z86 (l:=l) (sm:=sm) (e:=lotsErr l) (by unfold Q0c;rw[if_pos a1]) a1;and_intros<;>first|exact this.1.1|exact this.1.2|exact this.2|trivial
 ·have:=Z86 (l:=l) (sm:=sm) (e:=7) (by
   unfold Q0c;rw[if_neg (by omega),if_pos];rw[Bool.or_eq_true] at a2;rcases a2 with a2|a2
   ·left;have:=eq_of_beq a2;exact List.length_eq_zero_iff.1 (by omega)
   ·exact .inr a2) (by decide)
  and_intros<;>first|exact this.1.1|exact this.1.2|exact this.2|trivial
 rw[Bool.or_eq_false_iff] at a2;have a3:sm≠[]:=fun h=>by rw[h] at a2;simp at a2
 have a4:∀ i∈sm,0≤i∧i<l.length:=fun i hi=>by have:=List.any_eq_false.1 a2.2 i hi;simp only[Bool.not_eq_true',Bool.not_eq_false,inI,Bool.and_eq_true,decide_eq_true_eq] at this;omega
 have hse:Q0c l sm=if dupL sm then 6 else 0:=by
  unfold Q0c;rw[if_neg (by omega),if_neg];rintro (h|h)
  ·exact a3 h
  ·rw[a2.2] at h;cases h
 obtain⟨l1,l2⟩:=Z75 a1;refine⟨(),([],[],0),(by and_intros<;>first|rfl|trivial|simp),?_⟩;refine LoopP.count3 sm.length (fun k L m=>L=pickL l (sm.take k)∧(∀ x,gq.aget (.i .i64) m x false=decide (x∈sm.take k))∧∀ j,j<k→sm.getD j 0∉sm.take j) ⟨rfl,fun x=>by simp;rfl,fun j hj=>by omega⟩ fun k L m hk hJ q hq=>?_;obtain⟨rfl,j2,j3⟩:=hJ;dsimp only;simp only[Int.toNat_natCast];refine⟨fun hlt=>?_,fun hge=>?_⟩
 ·have hkl:k<sm.length:=by omega
  have hxm:sm.getD k 0∈sm:=by rw[Q03 hkl];exact List.getElem_mem hkl
  have hx:=a4 _ hxm;simp only[j2,decide_eq_true_eq,decide_eq_false_iff_not];refine⟨by omega,hlt,fun hu=>?_,fun hu=>⟨by omega,by omega,?_,by rw[Q1a];omega,(pickL l (sm.take (k+1)),aput (.i .i64) m (sm.getD k 0) true,(k:Int)+1),?_,hq _ _ hkl ⟨rfl,fun x=>?_,fun j hj=>?_⟩⟩⟩
  ·have hd:dupL sm=true:=List.any_eq_true.2 ⟨k,List.mem_range.2 hkl,decide_eq_true hu⟩;have:=Z86 (l:=l) (sm:=sm) (e:=6) (by rw[hse,if_pos hd]) (by decide);and_intros<;>first|exact this.1.1|exact this.1.2|exact this.2|trivial
  ·simp only[pickL,List.length_map,List.length_take,List.length_cons,List.length_nil];omega
  ·rw[J3z hkl];have:((pickL l (sm.take k)++[l.getD (sm.getD k 0).toNat lotD]).isEmpty)=false:=by simp
   and_intros<;>first|rfl|trivial|exact this.symm
  ·have hm:x∈sm.take (k+1)↔x∈sm.take k∨x=sm.getD k 0:=by rw[Q2d hkl,List.mem_append,List.mem_singleton,Q03 hkl]
   rw[J6e,j2];by_cases h5:x=sm.getD k 0
   ·rw[if_pos h5];exact(decide_eq_true (hm.2 (.inr h5))).symm
   ·rw[if_neg h5,Bool.eq_iff_iff,decide_eq_true_eq,decide_eq_true_eq,hm];exact⟨.inl,fun h=>h.resolve_right h5⟩
  ·rcases Nat.lt_succ_iff_lt_or_eq.1 hj with hj|rfl
   ·exact j3 j hj
   ·exact hu
 ·have hke:k=sm.length:=by omega
  subst hke;rw[List.take_length] at *
  have hd:dupL sm=false:=by rw[dupL,List.any_eq_false];intro j hj;simpa using j3 j (List.mem_range.1 hj)
  have h6:Q0c l sm=0:=by rw[hse,hd];rfl
  have h7:spreadSp l sm=sprD (pickL l sm):=by unfold spreadSp;rw[if_pos h6]
  rw[h6,h7];refine⟨⟨?_,by simp[pickL];omega,J5a l2 a4⟩,?_⟩
  ·simpa [pickL] using a3
  ·and_intros<;>first|rfl|trivial
end Go.Proofs.Tryz
set_option linter.unusedVariables false
namespace Go.Proofs.Tryz
open Go Go.V Go.Proofs
def tzK:Nat→Nat→Nat
 |0,_=>0
 |f+1,n=>if n % 2=1 then 0 else 1+tzK f (n / 2)
def tzN (n:Nat):Nat:=if n=0 then 64 else tzK 64 n
theorem X08:∀ f n,0<n→n<2 ^ f→tzK f n<f∧∃ m,n=2 ^ tzK f n*(2*m+1)
 |0,n,h0,h1=>by simp at h1;omega
 |f+1,n,h0,h1=>by
  unfold tzK;split
  ·rename_i h;exact⟨by omega,n / 2,by omega⟩
  ·rename_i h;have hp:2 ^ (f+1)=2*2 ^ f:=by rw[Nat.pow_succ];omega
   obtain⟨h2,m,h3⟩:=X08 f (n / 2) (by omega) (by omega);refine⟨by omega,m,?_⟩;rw[Nat.add_comm,Nat.pow_succ,Nat.mul_comm (2 ^ _) 2,Nat.mul_assoc,←h3];omega
theorem Z4h {n:Nat}(h0:0<n) (h1:n<2 ^ 64):tzN n<64∧∃ m,n=2 ^ tzN n*(2*m+1):=by unfold tzN;rw[if_neg (by omega)];exact X08 64 n h0 h1
theorem J7p {t m:Nat}(i:Nat):(2 ^ t*(2*m+1)-1).testBit i=if i<t then true else if i=t then false else (2 ^ t*(2*m+1)).testBit i:=by
 have hp:0<2 ^ t:=Nat.two_pow_pos t;have e:2 ^ t*(2*m+1)-1=2 ^ t*(2*m)+(2 ^ t-1):=by rw[Nat.mul_add,Nat.mul_one];omega
 rw[e,Nat.testBit_two_pow_mul_add _ (by omega)];split
 ·rename_i h;rw[Nat.testBit_two_pow_sub_one];simpa using h
 ·rename_i h;split
  ·rename_i h2;subst h2;simp
  ·rename_i h2;rw[Nat.testBit_two_pow_mul];obtain⟨k,hk⟩:∃ k,i-t=k+1:=⟨i-t-1,by omega⟩;have hd:decide (i≥t)=true:=decide_eq_true (by omega);rw[hd,hk,Nat.testBit_succ,Nat.testBit_succ,Bool.true_and];congr 1;omega
theorem X7d {n:Nat}(h0:0<n) (h1:n<2 ^ 64):n &&& (2 ^ 64-n)=2 ^ tzN n:=by
 obtain⟨ht,m,hm⟩:=Z4h h0 h1;generalize tzN n=t at *
 refine Nat.eq_of_testBit_eq fun i=>?_;have e:2 ^ 64-n=2 ^ 64-((n-1)+1):=by omega
 rw[Nat.testBit_and,e,Nat.testBit_two_pow_sub_succ (by omega),Nat.testBit_two_pow,hm,J7p];by_cases h2:i<t
 ·rw[if_pos h2,Nat.testBit_two_pow_mul,decide_eq_false (show ¬ i≥t by omega),decide_eq_false (show ¬ t=i by omega)];rfl
 ·rw[if_neg h2];by_cases h3:i=t
  ·subst h3;rw[if_pos rfl,Nat.testBit_two_pow_mul];simp;omega
  ·rw[if_neg h3,decide_eq_false (show ¬ t=i by omega)];cases (2 ^ t*(2*m+1)).testBit i<;>simp
theorem Z77 {n:Nat}(h0:0<n) (h1:n<2 ^ 64) (i:Nat):(n &&& (n-1)).testBit i=(n.testBit i&&!decide (i=tzN n)):=by
 obtain⟨ht,m,hm⟩:=Z4h h0 h1;generalize tzN n=t at *
 rw[Nat.testBit_and,hm,J7p];by_cases h2:i<t
 ·rw[if_pos h2,decide_eq_false (by omega)];simp
 ·rw[if_neg h2];by_cases h3:i=t
  ·rw[if_pos h3,decide_eq_true h3];simp
  ·rw[if_neg h3,decide_eq_false h3];simp
def setK:Nat→Nat→List Int
 |0,_=>[]
 |f+1,n=>if n=0 then [] else (tzN n:Int)::setK f (n &&& (n-1))
def setL (n:Nat):List Int:=setK n n
theorem J69:∀ f g n,n≤f→n≤g→setK f n=setK g n
 |0,g,n,h1,_=>by
  have:n=0:=by omega
  subst this;cases g<;>simp[setK]
 |f+1,0,n,_,h2=>by
  have:n=0:=by omega
  subst this;simp[setK]
 |f+1,g+1,n,h1,h2=>by
  unfold setK;by_cases h:n=0
  ·rw[if_pos h,if_pos h]
  ·rw[if_neg h,if_neg h];have:=Nat.and_le_right (n:=n) (m:=n-1);rw[J69 f g _ (by omega) (by omega)]
theorem J7f {n:Nat}(h:0<n):setL n=(tzN n:Int)::setL (n &&& (n-1)):=by
 have:=Nat.and_le_right (n:=n) (m:=n-1);unfold setL;obtain⟨f,rfl⟩:∃ f,n=f+1:=⟨n-1,by omega⟩;conv=>lhs;unfold setK
 rw[if_neg (by omega),J69 f _ _ (by omega) (Nat.le_refl _)]
theorem X2s:setL 0=[]:=rfl
theorem X8a:∀ t:Nat,t<64→Go.V.t64[(2 ^ t*285870213051353865 % 18446744073709551616) / 288230376151711744]?=some (t:Int):=by decide +kernel
end Go.Proofs.Tryz
set_option linter.unusedVariables false
namespace Go.Proofs.Tryz
open Go Go.V Go.Proofs
def czT:VCode :=
 .seq (.region [
  ⟨(some 2),.move (.const (.int .i64 (0))),none⟩])
 (.seq (.seq (.region [
  ⟨(some 3),.move (.tmp 0),none⟩,
  ⟨(some 4),.cmp .eql (.tmp 3) (.const (.int .u64 (0))),none⟩])
 (.cond (.tmp 4) (.seq (.region [
   ⟨(some 2),.move (.const (.int .i64 (64))),none⟩])
  (.ret))
  (.skip)))
 (.seq (.region [
  ⟨(some 5),.move (.tmp 0),none⟩,
  ⟨(some 6),.move (.tmp 0),none⟩,
  ⟨(some 7),.un .neg (.tmp 6),none⟩,
  ⟨(some 8),.bits .and (.tmp 5) (.tmp 7),none⟩,
  ⟨(some 9),.arith .mul (.tmp 8) (.const (.int .u64 (285870213051353865))),none⟩,
  ⟨(some 10),.shift .shr (.tmp 9) (.const (.int .u64 (58))),none⟩,
  ⟨(some 11),.indexAddrArr 64 1 (.global 1) (.tmp 10),none⟩,
  ⟨(some 12),.load false 1 (.tmp 11),none⟩,
  ⟨(some 13),.convI .i64 (.tmp 12),none⟩,
  ⟨(some 2),.move (.tmp 13),none⟩])
 (.ret)))
theorem vstepT {S:VSpecs}{op:VOp}{d:Option Nat}{l:List VOper}{env:Env}{σ:Heap}{K:Env→Heap→Prop}(v:Value) (h:∀ Q:Value→Heap→Prop,Q v σ→vop S op env σ Q) (hK:vops S l (putE env d v) σ K):vops S (⟨d,op,none⟩::l) env σ K:=by show vif true _ _;exact⟨fun _=>h _ hK,fun h=>by cases h⟩
theorem X6r {S:VSpecs}{op:BinOp}{x y:Operand}{env:Env}{σ:Heap}{Q:Value→Heap→Prop}{k:IntKind}{a b:Int}(hx:evalO env x=.int k a) (hy:evalO env y=.int k b) (h:Q (.bool (vcmp op a b)) σ):vop S (.cmp op x y) env σ Q:=by simp only[vop,vact,hx,hy,if_true,obind];exact h
theorem X59 {S:VSpecs}{op:BinOp}{x y:Operand}{env:Env}{σ:Heap}{Q:Value→Heap→Prop}{k:IntKind}{a b:Int}(hx:evalO env x=.int k a) (hy:evalO env y=.int k b) (h:Q (.int k (vbits op k a b)) σ):vop S (.bits op x y) env σ Q:=by simp only[vop,vact,hx,hy,if_true,obind];exact h
theorem X4h {S:VSpecs}{op:BinOp}{x y:Operand}{env:Env}{σ:Heap}{Q:Value→Heap→Prop}{k:IntKind}{a b:Int}(hx:evalO env x=.int k a) (hy:evalO env y=.int k b) (h:Q (.int k (varith op k a b)) σ):vop S (.arith op x y) env σ Q:=by simp only[vop,vact,hx,hy,if_true,obind];exact h
theorem X3u {S:VSpecs}{op:BinOp}{x y:Operand}{env:Env}{σ:Heap}{Q:Value→Heap→Prop}{k k':IntKind}{a b:Int}(hx:evalO env x=.int k a) (hy:evalO env y=.int k' b) (h0:0≤b) (h:Q (.int k (vshift op k a b)) σ):vop S (.shift op x y) env σ Q:=by simp only[vop,vact,hx,hy,h0,if_true,obind];exact h
theorem X5s {S:VSpecs}{x:Operand}{env:Env}{σ:Heap}{Q:Value→Heap→Prop}{k k':IntKind}{a:Int}(hx:evalO env x=.int k a) (h:Q (.int k' (k'.wrap a)) σ):vop S (.convI k' x) env σ Q:=by simp only[vop,vact,hx,obind];exact h
theorem X6u {S:VSpecs}{len size g o s:Nat}{x y:Operand}{env:Env}{σ:Heap}{Q:Value→Heap→Prop}{k':IntKind}{b:Int}(hx:evalO env x=.pointer (some ⟨g,o,some s⟩)) (hy:evalO env y=.int k' b) (h0:0≤b∧b<len) (h:Q (.pointer (some ⟨g,o+b.toNat*size,some s⟩)) σ):vop S (.indexAddrArr len size x y) env σ Q:=by simp only[vop,vact,hx,hy,h0,and_self,if_true,obind];exact h
theorem X5h {S:VSpecs}{size g o s:Nat}{agg:Bool}{x:Operand}{env:Env}{σ:Heap}{Q:Value→Heap→Prop}{c:List Value}{v:Value}(hx:evalO env x=.pointer (some ⟨g,o,some s⟩)) (hg:gtab g=some c) (hp:c.all plainV=true) (hv:vpart agg size c o=some v) (h:Q v σ):vop S (.load agg size x) env σ Q:=by simp only[vop,vact,hx,hg,hp,hv,if_true,obind];exact h
theorem J4y (x:Int):IntKind.wrap .u64 x=x % 18446744073709551616:=by show (if (false&&decide (x % (18446744073709551616:Int)≥9223372036854775808))=true then x % (18446744073709551616:Int)-18446744073709551616 else x % (18446744073709551616:Int))=_;simp
theorem Z7e {x:Nat}(h:x<2 ^ 64):(BitVec.ofInt 64 (x:Int)).toNat=x:=by rw[J68,BitVec.toNat_ofNat,Nat.mod_eq_of_lt h]
theorem J9u {x y:Nat}(hx:x<2 ^ 64) (hy:y<2 ^ 64):vbits .and .u64 x y=((x &&& y:Nat):Int):=by
 have e:(BitVec.ofInt 64 (x:Int) &&& BitVec.ofInt 64 (y:Int)).toNat=x &&& y:=by rw[BitVec.toNat_and,Z7e hx,Z7e hy]
 show IntKind.wrap .u64 ((BitVec.ofInt 64 (x:Int) &&& BitVec.ofInt 64 (y:Int)).toNat:Int)=_;have hl:x &&& y≤x:=Nat.and_le_left;rw[e,J4y];omega
set_option maxHeartbeats 2000000 in
theorem X7m {P:Program}{f:Nat}(h:Fun P f czT [.tmp 2] 14) (hm:P.follows .mixedOrders=true) {x:Int}(h0:0≤x) (h1:x≤18446744073709551615) {σ:Heap}{K:Value→Heap→Prop}(hK:K (.int .i64 (tzN x.toNat)) σ):VCalled P f [.int .u64 x] σ K:=by
 refine h.calls hm okSem ?_;obtain⟨n,rfl⟩:=Int.eq_ofNat_of_zero_le h0;have h1:n<2 ^ 64:=by omega
 rw[Int.toNat_natCast] at hK;unfold czT;refine vstepT (.int .i64 0) (fun _ h=>h) ?_;refine vstepT (.int .u64 n) (fun _ h=>h) ?_;refine vstepT (.bool ((n:Int)==0)) (fun _ h=>X6r (k:=.u64) (a:=n) (b:=0) rfl rfl h) ?_;show vif ((n:Int)==0) _ _;refine⟨fun hz=>?_,fun hz=>?_⟩
 ·have hz:n=0:=by have:=eq_of_beq hz;omega
  subst hz;refine vstepT (.int .i64 64) (fun _ h=>h) ?_;exact⟨_,_,DropTo.refl _ _ _,hK⟩
 have hz:0<n:=by
  rcases Nat.eq_zero_or_pos n with h|h
  ·subst h;cases hz
  ·exact h
 refine vstepT (.int .u64 n) (fun _ h=>h) ?_;refine vstepT (.int .u64 n) (fun _ h=>h) ?_;refine vstepT (.int .u64 (IntKind.u64.wrap (0-(n:Int)))) (fun _ h=>h) ?_;have hand:vbits .and .u64 n (IntKind.u64.wrap (0-(n:Int)))=((2 ^ tzN n:Nat):Int):=by
  have e:IntKind.u64.wrap (0-(n:Int))=((2 ^ 64-n:Nat):Int):=by rw[J4y];omega
  rw[e,J9u h1 (by omega),X7d hz h1]
 refine vstepT (.int .u64 ((2 ^ tzN n:Nat):Int)) (fun _ h=>X59 (k:=.u64) (a:=n) (b:=IntKind.u64.wrap (0-(n:Int))) rfl rfl (by rw[hand];exact h)) ?_;have hmul:varith .mul .u64 ((2 ^ tzN n:Nat):Int) 285870213051353865=((2 ^ tzN n*285870213051353865 % 18446744073709551616:Nat):Int):=by show IntKind.wrap .u64 (((2 ^ tzN n:Nat):Int)*285870213051353865)=_;rw[J4y];omega
 refine vstepT (.int .u64 ((2 ^ tzN n*285870213051353865 % 18446744073709551616:Nat):Int)) (fun _ h=>X4h (k:=.u64) (a:=((2 ^ tzN n:Nat):Int)) (b:=285870213051353865) rfl rfl (by rw[hmul];exact h)) ?_;have hshr:vshift .shr .u64 ((2 ^ tzN n*285870213051353865 % 18446744073709551616:Nat):Int) 58=((2 ^ tzN n*285870213051353865 % 18446744073709551616 / 288230376151711744:Nat):Int):=by show Int.fdiv _ 288230376151711744=_;rw[Int.fdiv_eq_ediv_of_nonneg _ (by decide)];omega
 refine vstepT (.int .u64 ((2 ^ tzN n*285870213051353865 % 18446744073709551616 / 288230376151711744:Nat):Int)) (fun _ h=>X3u (k:=.u64) (k':=.u64) (a:=((2 ^ tzN n*285870213051353865 % 18446744073709551616:Nat):Int)) (b:=58) rfl rfl (by decide) (by rw[hshr];exact h)) ?_;have htab:=X8a (tzN n) (Z4h hz h1).1;have hlt:2 ^ tzN n*285870213051353865 % 18446744073709551616 / 288230376151711744<64:=by omega
 generalize 2 ^ tzN n*285870213051353865 % 18446744073709551616 / 288230376151711744=k at *
 refine vstepT (.pointer (some ⟨1,0+(k:Int).toNat*1,some 0⟩)) (fun _ h=>X6u (g:=1) (o:=0) (s:=0) (b:=k) (k':=.u64) rfl rfl (by omega) h) ?_;have hv:vpart false 1 (Go.V.t64.map fun x=>Value.int .u8 x) (0+(k:Int).toNat*1)=some (.int .u8 (tzN n)):=by show (Go.V.t64.map fun x=>Value.int .u8 x)[0+(k:Int).toNat*1]?=_;rw[Int.toNat_natCast,Nat.mul_one,Nat.zero_add,List.getElem?_map,htab];rfl
 refine vstepT (.int .u8 (tzN n)) (fun _ h=>X5h (g:=1) (s:=0) (o:=0+(k:Int).toNat*1) (c:=Go.V.t64.map fun x=>Value.int .u8 x) rfl rfl (by decide) hv h) ?_;have ht64:=(Z4h hz h1).1;have hwr:IntKind.i64.wrap (tzN n:Int)=tzN n:=InK.wrap (k:=.i64) ((Q1a _).2 (by omega));refine vstepT (.int .i64 (tzN n)) (fun _ h=>X5s (k:=.u8) (a:=tzN n) rfl (by rw[hwr];exact h)) ?_;refine vstepT (.int .i64 (tzN n)) (fun _ h=>h) ?_;exact⟨_,_,DropTo.refl _ _ _,hK⟩
theorem X0v {P:Program}{σ:Heap}{v:SV}{u:Value}(h:SR P hNil noPl noTb v u):Ret P σ v [] u σ :=
 ⟨⟨.refl _,Dead.refl _⟩,fun _=>rfl,noPl,fun j b hj=>by simp at hj,fun j j' i hj=>by simp at hj,h⟩
theorem X3f (σ:Heap):canH σ []=σ:=by
 unfold canH;cases σ;simp only[List.length_nil,Nat.add_zero,List.getElem?_nil,Option.bind_none,Heap.mk.injEq,and_true];funext i;split
 ·rfl
 ·rename_i wf hi;exact(wf i (by simpa using hi)).symm
theorem X7j {P:Program}{f:Nat}{pre:Int→Prop}{r:Int→Int}(h:∀ x,pre x→∀ (σ:Heap) (K:Value→Heap→Prop),K (.int .i64 (r x)) σ→VCalled P f [.int .u64 x] σ K) :
  OkC P f (mkSp (.one (.k (.i .u64)):AL Int) pre (fun d=>.val (.i .i64) (r d)) (fun _=>[])):=by
 intro ap hap σ args vs c v bs hargs hs hv hbs hc;unfold mkSp at hs;split at hs
 ·rename_i d hd;obtain⟨rfl,rfl,rfl⟩:=(by simpa using hs:pre d=c∧SV.val (.i .i64) (r d)=v∧[]=bs)
  match args,hargs,hd with
  |[],_,hd=>simp[AL.dec] at hd
  |a::x::l,_,hd=>simp[AL.dec] at hd
  |[a],hargs,hd =>
   simp only[AL.dec] at hd;obtain⟨u1,vs1,rfl,s1,hargs⟩:=hargs;have hargs:vs1=[]:=hargs;subst hargs;have k1:KC σ (.i .u64) d [u1]:=Q0u (k:=.i .u64) hd ⟨u1,[],rfl,s1,rfl⟩;have e1:u1=.int .u64 d:=by simpa [KC] using k1
   subst e1;refine⟨h d hc σ _ (X0v (by simp[SR,KC])),fun _ _=>h d hc σ _ ⟨?_,(X3f σ).symm⟩⟩;simp[cval,kenc]
 ·cases hs
theorem X3i {P:Program}{f:Nat}{D:Type}{l:AL D}{pre:D→Prop}{res:D→SV}{obs:D→List OB}(h:∀ d,pre d→False):OkC P f (mkSp l pre res obs):=by
 intro ap hap σ args vs c v bs hargs hs hv hbs hc;unfold mkSp at hs;split at hs
 ·rename_i d hd;have:pre d↔c:=by simp at hs;exact hs.1
  exact(h d (this.2 hc)).elim
 ·cases hs
end Go.Proofs.Tryz
set_option linter.unusedVariables false
namespace Go.Proofs.Tryz
open Go Go.V Go.Proofs
def Q8q:AL (Int):=(.one (.k (.i .u64)))
def Q7r (d:Int):Prop:=0≤d∧d≤18446744073709551615
def Q7s (d:Int):SV:=.val (.i .i64) ((tzN d.toNat:Nat):Int)
def Q7y (d:Int):List OB:=[]
def Q47:CSp:=mkSp Q8q Q7r Q7s Q7y
abbrev Q8f:Prop:=OkC Tryz.prog 101 Q47
theorem Q8m:Q8f :=
 X7j (pre:=fun x=>0≤x∧x≤18446744073709551615) (r:=fun x=>((tzN x.toNat:Nat):Int)) fun x hx σ K hK =>
  X7m (f:=101) (by rw[show czT=c101 by kernel_rfl];exact fun101) mixed hx.1 hx.2 hK
end Go.Proofs.Tryz
set_option linter.unusedVariables false
namespace Go.Proofs.Tryz
open Go Go.V Go.Proofs
def openErr (l:List Lot) (tl:Int):Int:=if lotsErr l≠0 then lotsErr l else if !inI tl 0 1000 then 3 else 0
def alikeP (tl:Int) (p:List Lot):Bool:=!(p.any fun x=>x.1 != (p.getD 0 lotD).1)&&decide ((sprD p).2≤tl)
def alikeL (l:List Lot) (tl:Int) (S:List Int):Bool:=alikeP tl (pickL l S)
theorem X89 {n:Nat}(h0:0<n) (h1:n<2 ^ 64):n.testBit (tzN n)=true:=by
 obtain⟨_,m,hm⟩:=Z4h h0 h1;generalize tzN n=t at *
 rw[hm,Nat.testBit_two_pow_mul];simp
theorem J01:∀ f n,n≤f→n<2 ^ 64→∀ i:Int,i∈setK f n↔∃ k:Nat,i=k∧n.testBit k=true
 |0,n,h1,_,i=>by
  have:n=0:=by omega
  subst this;simp[setK]
 |f+1,n,h1,h2,i=>by
  unfold setK;by_cases h:n=0
  ·subst h;simp
  ·rw[if_neg h,List.mem_cons];have hle:=Nat.and_le_right (n:=n) (m:=n-1);rw[J01 f _ (by omega) (by omega)];constructor
   ·rintro (e|⟨k,e,hb⟩)
    ·exact⟨tzN n,e,X89 (by omega) h2⟩
    ·rw[Z77 (by omega) h2] at hb;exact⟨k,e,by simp at hb;exact hb.1⟩
   ·rintro⟨k,e,hb⟩;by_cases hk:k=tzN n
    ·exact .inl (by rw[e,hk])
    ·exact .inr ⟨k,e,by rw[Z77 (by omega) h2,hb,decide_eq_false hk];rfl⟩
theorem J5f {n:Nat}(h:n<2 ^ 64) (i:Int):i∈setL n↔∃ k:Nat,i=k∧n.testBit k=true:=J01 n n (Nat.le_refl _) h i
theorem X0b:∀ f n,(setK f n).length≤f
 |0,_=>by simp[setK]
 |f+1,n=>by
  unfold setK;split
  ·simp
  ·simp only[List.length_cons];have:=X0b f (n &&& (n-1));omega
theorem X4x (n:Nat):(setL n).length≤n:=X0b n n
theorem J91 {n m:Nat}(h:n<2 ^ m) (hm:m≤64):∀ i∈setL n,0≤i∧i<(m:Int):=fun i hi=>by
 have hp:2 ^ m≤2 ^ 64:=Nat.pow_le_pow_right (by omega) hm;obtain⟨k,rfl,hb⟩:=(J5f (by omega) i).1 hi;have:k<m:=by
  rcases Nat.lt_or_ge k m with h2|h2
  ·exact h2
  ·rw[Nat.testBit_lt_two_pow (Nat.lt_of_lt_of_le h (Nat.pow_le_pow_right (by omega) h2))] at hb;cases hb
 omega
theorem X3o {n:Nat}(h:0<n):setL n≠[]:=by rw[J7f h];simp
theorem J3y:∀ f n,n≤f→n<2 ^ 64→(setK f n).Nodup
 |0,n,_,_=>by simp[setK]
 |f+1,n,h1,h2=>by
  unfold setK;by_cases h:n=0
  ·rw[if_pos h];exact List.nodup_nil
  ·rw[if_neg h,List.nodup_cons];have hle:=Nat.and_le_right (n:=n) (m:=n-1);refine⟨fun hm=>?_,J3y f _ (by omega) (by omega)⟩;obtain⟨k,e,hb⟩:=(J01 f _ (by omega) (by omega) _).1 hm;rw[Z77 (by omega) h2] at hb;have:k=tzN n:=by omega
   rw[decide_eq_true this] at hb;simp at hb
theorem J40:∀ {l m:List Int},l.Nodup→(∀ x∈l,x∈m)→l.length≤m.length
 |[],_,_,_=>Nat.zero_le _
 |x::l,m,hn,hs=>by have hn:=List.nodup_cons.1 hn;have hx:=hs x (List.mem_cons_self ..);have:=J40 (l:=l) (m:=m.erase x) hn.2 fun y hy=>(List.mem_erase_of_ne (by rintro rfl;exact hn.1 hy)).2 (hs y (List.mem_cons_of_mem _ hy));rw[List.length_erase_of_mem hx] at this;have:0<m.length:=List.length_pos_of_mem hx;simp only[List.length_cons];omega
theorem J3r {n m:Nat}(h:n<2 ^ m) (hm:m≤64):(setL n).length≤m:=by
 have hp:2 ^ m≤2 ^ 64:=Nat.pow_le_pow_right (by omega) hm;have:=J40 (m:=(List.range m).map fun (k:Nat)=>(k:Int)) (J3y n n (Nat.le_refl _) (by omega)) fun x hx=>by obtain⟨h1,h2⟩:=J91 h hm x hx;simp only[List.mem_map,List.mem_range];exact⟨x.toNat,by omega,by omega⟩
 simpa [setL] using this
def cmpI (a b:Int):Int:=if a<b then -1 else if b<a then 1 else 0
def orI (l:List Int):Int:=(l.find? fun x=>x != 0).getD 0
def cmpL:List Int→List Int→Int
 |[],[]=>0
 |[],_::_=>-1
 |_::_,[]=>1
 |x::a,y::b=>if cmpI x y≠0 then cmpI x y else cmpL a b
theorem J7g {a b:Int}:cmpI a b=0↔a=b:=by unfold cmpI;split<;>(try split)<;>omega
theorem J7u {a b:List Int}:∀ k,k≤a.length→k≤b.length→(∀ j,j<k→a.getD j 0=b.getD j 0)→cmpL a b=cmpL (a.drop k) (b.drop k)
 |0,_,_,_=>by simp
 |k+1,h1,h2,h=>by rw[J7u k (by omega) (by omega) fun j hj=>h j (by omega)];have e:=h k (by omega);rw[Q03 (by omega),Q03 (by omega)] at e;rw[List.drop_eq_getElem_cons (show k<a.length by omega),List.drop_eq_getElem_cons (show k<b.length by omega),cmpL,if_neg (by rw[J7g.2 e];decide)]
def Q8e:AL (Int):=(.one (.k (.i .u32)))
def Q7t (d:Int):Prop:=False
def Q7v (d:Int):SV:=.val (.i .i64) ((tzN d.toNat:Nat):Int)
def Q7q (d:Int):List OB:=[]
def Q42:CSp:=mkSp Q8e Q7t Q7v Q7q
abbrev Q8c:Prop:=OkC Tryz.prog 100 Q42
theorem Q8n:Q8c:=X3i fun _ h=>h
def Q4i:AL (Int):=(.one (.k (.i .u64)))
def Q90 (d:Int):Prop:=0≤d∧d≤18446744073709551615
def Q41 (d:Int):SV:=.val (.i .i64) ((tzN d.toNat:Nat):Int)
def Q3v (d:Int):List OB:=[]
def Q2j:CSp:=mkSp Q4i Q90 Q41 Q3v
def Q14 (x:Int):Prop :=
 (false=true →
  (InK .u32 x)∧(False)∧(((tzN x.toNat:Nat):Int)=((tzN x.toNat:Nat):Int)∧(True))) ∧
 (false=false →
  (0≤x∧x≤18446744073709551615)∧(((tzN x.toNat:Nat):Int)=((tzN x.toNat:Nat):Int)∧(True)))
def Q4g:Cx:=⟨[],[(100,Q42),(101,Q47)],8,[],0,[],[],[],[],false,[],[],[],[]⟩
def Q9w (x:Int):List (Nat×LoopAnn):=[]
set_option maxRecDepth 100000 in
theorem Q9x (d:Int):gwp (Q4g) (Q9w d) c83 0 (gend [.tmp 2] (Q41 d) (Q3v d)) (gstart 8 (AL.can Q4i d))=Q14 d:=by kernel_rfl
abbrev Q9t:Prop:=OkC Tryz.prog 83 Q2j
theorem Z01 (h:∀ (x:Int),(0≤x∧x≤18446744073709551615)→Q14 x):OkC Tryz.prog 83 Q2j :=
 Q1b fun83 mixed (C:=Q4g) (V:=fun (d:Int)=>Q14 d) ⟨(.cons Q8n (.cons Q8m .nil)),XsOk.nil,ItsOk.nil,YlOk.nil,IysOk.nil,XfOk.nil⟩ (Q9x) fun d hp=>h d hp
theorem Z00:Q9t:=Z01 fun x h=>by unfold Q14;(try delta lI gD sT I64);refine⟨(fun h=>by cases h),fun _=>⟨h,?_⟩⟩;and_intros<;>first|rfl|trivial
def Z2h:AL (Int):=(.one (.k (.i .u64)))
def Z8f (d:Int):Prop:=0≤d∧d≤1048576
def Z0z (d:Int):SV:=.lst 0
def Z1k (d:Int):List OB:=[.lst 3 (.i .i64) (setL d.toNat) ((setL d.toNat).isEmpty)]
def Q6e:CSp:=mkSp Z2h Z8f Z0z Z1k
def Q4z (x:Int):Prop :=
 ∃ (e3:Unit) (d30:Int×(List Int)),((x=d30.1∧True∧True)∧((d30.2=[]∧(List.isEmpty d30.2)=true)∧True)) ∧
 LoopP (fun (d3:Int×(List Int)) (q3:(Int×(List Int))→Prop) =>
  ((d3.1 != (0:Int))=true →
   (0≤d3.1∧d3.1≤18446744073709551615)∧(((List.length d3.2)+(List.length [((tzN d3.1.toNat:Nat):Int)]))*8≤70368744177664)∧(InK .u64 (d3.1-(1:Int)))∧(∃ d4:Int×(List Int),(((vbits .and .u64 d3.1 (d3.1-(1:Int)))=d4.1∧True∧True)∧(((d3.2++[((tzN d3.1.toNat:Nat):Int)])=d4.2∧false=(List.isEmpty d4.2))∧True))∧q3 d4)) ∧
  ((d3.1 != (0:Int))=false →
   (True∧((d3.2=(setL x.toNat)∧(List.isEmpty d3.2)=(setL x.toNat).isEmpty)∧True)))) d30
def Z2o:Cx:=⟨[(3,(.i .i64))],[(83,Q2j)],15,[],0,[],[],[],[],false,[],[],[],[]⟩
def Z93 (x:Int):List (Nat×LoopAnn):=[(0,⟨Unit,Int×(List Int),[0,2],fun e x=>[.val (.i .u64) x.1,.lst 13],fun e x=>[(13,.slot 2,.lst 3 (.i .i64) x.2 (List.isEmpty x.2))]⟩)]
set_option maxRecDepth 100000 in
theorem Z9h (d:Int):gwp (Z2o) (Z93 d) c56 0 (gend [.tmp 2] (Z0z d) (Z1k d)) (gstart 15 (AL.can Z2h d))=Q4z d:=by kernel_rfl
abbrev Z9s:Prop:=OkC Tryz.prog 56 Q6e
theorem Z9b (h:∀ (x:Int),(0≤x∧x≤1048576)→Q4z x):OkC Tryz.prog 56 Q6e :=
 Q1b fun56 mixed (C:=Z2o) (V:=fun (d:Int)=>Q4z d) ⟨(.cons Z00 .nil),XsOk.nil,ItsOk.nil,YlOk.nil,IysOk.nil,XfOk.nil⟩ (Z9h) fun d hp=>h d hp
theorem Z2c:Z9s:=Z9b fun x h=>by
 obtain⟨h1,h2⟩:=h;unfold Q4z;(try delta lI gD sT I64);obtain⟨n,rfl⟩:=Int.eq_ofNat_of_zero_le h1;rw[Int.toNat_natCast];have hln:=X4x n;refine⟨(),((n:Int),[]),(by and_intros<;>first|rfl|trivial|simp),?_⟩;refine⟨fun d=>∃ s:Nat,d.1=s∧s≤n∧d.2++setL s=setL n,fun d=>d.1.toNat,⟨n,rfl,Nat.le_refl _,rfl⟩,?_⟩;rintro⟨_,L⟩ ⟨s,rfl,i1,i2⟩;dsimp only at i2 ⊢;simp only[bne_iff_ne,bne_eq_false_iff_eq,ne_eq,Int.toNat_natCast];refine⟨fun h0=>?_,fun h0=>?_⟩
 ·have hs:0<s:=by omega
  have e1:(s:Int)-1=((s-1:Nat):Int):=by omega
  have hst:=J7f hs;have hll:L.length+1≤n:=by have:=congrArg List.length i2;rw[hst,List.length_append,List.length_cons] at this;omega
  have hle:=Nat.and_le_right (n:=s) (m:=s-1);refine⟨⟨by omega,by omega⟩,by simp only[List.length_cons,List.length_nil];omega,by rw[Z5i];omega,(((s &&& (s-1):Nat):Int),L++[((tzN s:Nat):Int)]),?_,⟨s &&& (s-1),rfl,by omega,?_⟩,?_⟩
  ·rw[e1,J9u (by omega) (by omega)];have:(L++[((tzN s:Nat):Int)]).isEmpty=false:=by simp
   and_intros<;>first|rfl|trivial|exact this.symm
  ·dsimp only;rw[←i2,hst,List.append_assoc];rfl
  ·dsimp only;omega
 ·have:s=0:=by omega
  subst this;rw[X2s,List.append_nil] at i2;subst i2;and_intros<;>first|rfl|trivial
end Go.Proofs.Tryz
set_option linter.unusedVariables false
namespace Go.Proofs.Tryz
open Go Go.V Go.Proofs
def Q6l:AL ((Int×Int×Int×Int)×List (Int×(Int×Int)×Int)):=(.cons (.agg (.cons (.k (.i .i64)) (.cons (.k (.i .i64)) (.cons (.k (.i .i64)) (.one (.k (.i .i64))))))) (.one (.ptr (.one (.k (.list (.pair (.i .i64) (.pair (.pair (.i .i64) (.i .i64)) (.i .i64)))))))))
def Z22 (d:(Int×Int×Int×Int)×List (Int×(Int×Int)×Int)):Prop:=d.2≠[]
def Q5u (d:(Int×Int×Int×Int)×List (Int×(Int×Int)×Int)):SV:=.val .bo (d.1.1 != (d.2.getD 0 lotD).1)
def Q6a (d:(Int×Int×Int×Int)×List (Int×(Int×Int)×Int)):List OB:=[]
def Q44:CSp:=mkSp Q6l Z22 Q5u Q6a
def Q1z (lc:Int) (lo:Int) (hi:Int) (lg:Int) (l:List (Int×(Int×Int)×Int)):Prop :=
 (0≤(0:Int))∧((0:Int)<(List.length l))∧((lc != (gD l (0:Int) (0,((0,0),0))).1)=(lc != (l.getD 0 lotD).1)∧(True))
def Q6j:Cx:=⟨[],[],11,[],0,[],[],[],[],false,[],[],[],[]⟩
def Z31 (lc:Int) (lo:Int) (hi:Int) (lg:Int) (l:List (Int×(Int×Int)×Int)):List (Nat×LoopAnn):=[]
set_option maxRecDepth 100000 in
theorem Z30 (d:(Int×Int×Int×Int)×List (Int×(Int×Int)×Int)):gwp (Q6j) (Z31 d.1.1 d.1.2.1 d.1.2.2.1 d.1.2.2.2 d.2) c98 0 (gend [.tmp 3] (Q5u d) (Q6a d)) (gstart 11 (AL.can Q6l d))=Q1z d.1.1 d.1.2.1 d.1.2.2.1 d.1.2.2.2 d.2:=by kernel_rfl
abbrev Z2w:Prop:=OkC Tryz.prog 98 Q44
theorem Z2y (h:∀ (lc:Int) (lo:Int) (hi:Int) (lg:Int) (l:List (Int×(Int×Int)×Int)),(l≠[])→Q1z lc lo hi lg l):OkC Tryz.prog 98 Q44 :=
 Q1b fun98 mixed (C:=Q6j) (V:=fun (d:(Int×Int×Int×Int)×List (Int×(Int×Int)×Int))=>Q1z d.1.1 d.1.2.1 d.1.2.2.1 d.1.2.2.2 d.2) ⟨.nil,XsOk.nil,ItsOk.nil,YlOk.nil,IysOk.nil,XfOk.nil⟩ (Z30) fun d hp=>h d.1.1 d.1.2.1 d.1.2.2.1 d.1.2.2.2 d.2 hp
theorem Z33:Z2w:=Z2y fun lc lo hi lg l h=>by unfold Q1z;(try delta lI gD sT I64);have hp:0<l.length:=List.length_pos_iff.2 h;refine⟨by omega,by omega,?_⟩;and_intros<;>first|rfl|trivial
def Q81:AL (((List (Int×(Int×Int)×Int))×Int)×Int):=(.cons (.agg (.cons (.k (.list (.pair (.i .i64) (.pair (.pair (.i .i64) (.i .i64)) (.i .i64))))) (.one (.k (.i .i64))))) (.one (.k (.i .u64))))
def Z45 (d:((List (Int×(Int×Int)×Int))×Int)×Int):Prop:=d.1.1.length≤12∧(∀ y∈d.1.1,lotOk y=true)∧0<d.2∧d.2<2 ^ d.1.1.length
def Q7c (d:((List (Int×(Int×Int)×Int))×Int)×Int):SV:=.val .bo (alikeL d.1.1 d.1.2 (setL d.2.toNat))
def Q7m (d:((List (Int×(Int×Int)×Int))×Int)×Int):List OB:=[]
def Q3a:CSp:=mkSp Q81 Z45 Q7c Q7m
def Q2t (l:List (Int×(Int×Int)×Int)) (tl:Int) (sx:Int):Prop :=
 (0≤sx∧sx≤1048576)∧∃ (e4:Unit) (d40:(List (Int×(Int×Int)×Int))×Int),((True∧True∧True∧(lI (setL sx.toNat))=(lI (setL sx.toNat))∧(0:Int)=d40.2∧True)∧((l=l∧tl=tl∧(([]:List SV)=[]))∧(True∧(([]:List SV)=[]))∧(d40.1=[]∧(List.isEmpty d40.1)=true)∧((setL sx.toNat)=(setL sx.toNat)∧(setL sx.toNat).isEmpty=(List.isEmpty (setL sx.toNat)))∧True)) ∧
 LoopP (fun (d4:(List (Int×(Int×Int)×Int))×Int) (q4:((List (Int×(Int×Int)×Int))×Int)→Prop) =>
  ((decide (d4.2<(lI (setL sx.toNat))))=true →
   (0≤d4.2)∧(d4.2<(List.length (setL sx.toNat)))∧(0≤(gD (setL sx.toNat) d4.2 0))∧((gD (setL sx.toNat) d4.2 0)<(List.length l))∧(((List.length d4.1)+(List.length [((gD l (gD (setL sx.toNat) d4.2 0) (0,((0,0),0))).1,(((gD l (gD (setL sx.toNat) d4.2 0) (0,((0,0),0))).2.1.1,(gD l (gD (setL sx.toNat) d4.2 0) (0,((0,0),0))).2.1.2),(gD l (gD (setL sx.toNat) d4.2 0) (0,((0,0),0))).2.2))]))*32≤70368744177664)∧(I64 (d4.2+(1:Int)))∧(∃ d5:(List (Int×(Int×Int)×Int))×Int,((True∧True∧True∧(lI (setL sx.toNat))=(lI (setL sx.toNat))∧(d4.2+(1:Int))=d5.2∧True)∧((l=l∧tl=tl∧(([]:List SV)=[]))∧(True∧(([]:List SV)=[]))∧((d4.1++[((gD l (gD (setL sx.toNat) d4.2 0) (0,((0,0),0))).1,(((gD l (gD (setL sx.toNat) d4.2 0) (0,((0,0),0))).2.1.1,(gD l (gD (setL sx.toNat) d4.2 0) (0,((0,0),0))).2.1.2),(gD l (gD (setL sx.toNat) d4.2 0) (0,((0,0),0))).2.2))])=d5.1∧false=(List.isEmpty d5.1))∧((setL sx.toNat)=(setL sx.toNat)∧(List.isEmpty (setL sx.toNat))=(List.isEmpty (setL sx.toNat)))∧True))∧q4 d5)) ∧
  ((decide (d4.2<(lI (setL sx.toNat))))=false →
   (d4.1.length≤1000000∧∀ x∈d4.1,(fun (x1:Int×(Int×Int)×Int)=>d4.1≠[]) x)∧((!(d4.1.any (fun (x1:Int×(Int×Int)×Int)=>(x1.1 != (d4.1.getD 0 lotD).1))))=true→d4.1≠[]∧d4.1.length≤1000∧∀ x∈d4.1,lotOk x=true)∧(((!(d4.1.any (fun (x1:Int×(Int×Int)×Int)=>(x1.1 != (d4.1.getD 0 lotD).1))))&&(decide (((sprD d4.1).2)≤tl)))=(alikeL l tl (setL sx.toNat))∧(True)))) d40
def Q84:Cx:=⟨[(78,(.pair (.i .i64) (.pair (.pair (.i .i64) (.i .i64)) (.i .i64))))],[(56,Q6e),(90,Q06),(98,Q44),(70,Q76)],38,[],0,[],[],[],[],false,[],[],[],[]⟩
def Z4s (l:List (Int×(Int×Int)×Int)) (tl:Int) (sx:Int):List (Nat×LoopAnn):=[(0,⟨Unit,(List (Int×(Int×Int)×Int))×Int,[2,5,10,11,12],fun e x=>[.box 2 0,.box 5 0,.lst 10,.val (.i .i64) (((List.length (setL sx.toNat)):Nat):Int),.val (.i .i64) x.2],fun e x=>[(2,.slot 2,.cells [.val (.list (.pair (.i .i64) (.pair (.pair (.i .i64) (.i .i64)) (.i .i64)))) l,.val (.i .i64) tl] (some 105)),(5,.slot 5,.cells [.lst 23] (some 22)),(23,.cell 5 0,.lst 78 (.pair (.i .i64) (.pair (.pair (.i .i64) (.i .i64)) (.i .i64))) x.1 (List.isEmpty x.1)),(10,.slot 10,.lst 3 (.i .i64) (setL sx.toNat) (List.isEmpty (setL sx.toNat)))]⟩)]
set_option maxRecDepth 100000 in
theorem Z4y (d:((List (Int×(Int×Int)×Int))×Int)×Int):gwp (Q84) (Z4s d.1.1 d.1.2 d.2) c79 0 (gend [.tmp 4] (Q7c d) (Q7m d)) (gstart 38 (AL.can Q81 d))=Q2t d.1.1 d.1.2 d.2:=by kernel_rfl
abbrev Z4x:Prop:=OkC Tryz.prog 79 Q3a
theorem Z4w (h:∀ (l:List (Int×(Int×Int)×Int)) (tl:Int) (sx:Int),(l.length≤12∧(∀ y∈l,lotOk y=true)∧0<sx∧sx<2 ^ l.length)→Q2t l tl sx):OkC Tryz.prog 79 Q3a :=
 Q1b fun79 mixed (C:=Q84) (V:=fun (d:((List (Int×(Int×Int)×Int))×Int)×Int)=>Q2t d.1.1 d.1.2 d.2) ⟨(.cons Z2c (.cons Q0n (.cons Z33 (.cons Z3u .nil)))),XsOk.nil,ItsOk.nil,YlOk.nil,IysOk.nil,XfOk.nil⟩ (Z4y) fun d hp=>h d.1.1 d.1.2 d.2 hp
end Go.Proofs.Tryz
set_option linter.unusedVariables false
namespace Go.Proofs.Tryz
open Go Go.V Go.Proofs
theorem Q80:Z4x:=Z4w fun l tl sx h=>by
 obtain⟨h1,h2,h3,h4⟩:=h;obtain⟨n,rfl⟩:=Int.eq_ofNat_of_zero_le (show 0≤sx by omega);have hp:(2:Int) ^ l.length=((2 ^ l.length:Nat):Int):=by simp
 have hp2:2 ^ l.length≤2 ^ 12:=Nat.pow_le_pow_right (by omega) h1;have h12:(2:Nat) ^ 12=4096:=rfl;rw[hp] at h4;have hn:n<2 ^ l.length:=by omega
 unfold Q2t;(try delta lI gD sT I64);rw[Int.toNat_natCast];have hlt:=J91 hn (by omega);have hln:=J3r hn (by omega);have hne:=X3o (show 0<n by omega);generalize setL n=S at *
 have hpne:pickL l S≠[]:=by simpa [pickL] using hne
 have hpok:=J5a h2 hlt;have hpl:∀ k,(pickL l (S.take k)).length=min k S.length:=fun k=>by simp[pickL]
 simp only[decide_eq_true_eq,decide_eq_false_iff_not];refine⟨⟨by omega,by omega⟩,(),([],0),(by and_intros<;>first|rfl|trivial|simp),?_⟩;refine LoopP.count2 S.length (fun k L=>L=pickL l (S.take k)) rfl fun k L hk hJ q hq=>?_;subst hJ;dsimp only;have hd:∀ j,l.getD j (0,((0,0),0))=l.getD j lotD:=fun _=>rfl;simp only[Int.toNat_natCast,hd];refine⟨fun hlt2=>?_,fun hge=>?_⟩
 ·have hkS:k<S.length:=by omega
  have hm:=hlt _ (by rw[Q03 hkS];exact List.getElem_mem hkS:S.getD k 0∈S);refine⟨by omega,hlt2,hm.1,hm.2,by simp only[hpl,List.length_cons,List.length_nil];omega,by rw[Q1a];omega,(pickL l (S.take (k+1)),(k:Int)+1),?_,hq _ hkS rfl⟩;rw[J3z hkS];have:((pickL l (S.take k)++[l.getD (S.getD k 0).toNat lotD]).isEmpty)=false:=by simp
  and_intros<;>first|rfl|trivial|exact this.symm
 ·have:k=S.length:=by omega
  subst this;have hl0:=hpl S.length;rw[List.take_length] at *
  refine⟨⟨by omega,fun _ _=>hpne⟩,fun _=>⟨hpne,by omega,hpok⟩,?_⟩;and_intros<;>first|rfl|trivial
end Go.Proofs.Tryz
set_option linter.unusedVariables false
namespace Go.Proofs.Tryz
open Go Go.V Go.Proofs
def Z2p:AL (Int):=(.one (.k (.i .i64)))
def Z8a (d:Int):Prop:=True
def Z11 (d:Int):SV:=.val .bo false
def Z1h (d:Int):List OB:=[]
def Q62:CSp:=mkSp Z2p Z8a Z11 Z1h
def Q4y (a:Int):Prop :=
 ((a != a)=false∧(True))
def Z2k:Cx:=⟨[],[],6,[],0,[],[],[],[],false,[],[],[],[]⟩
def Z96 (a:Int):List (Nat×LoopAnn):=[]
set_option maxRecDepth 100000 in
theorem Z9e (d:Int):gwp (Z2k) (Z96 d) c99 0 (gend [.tmp 2] (Z11 d) (Z1h d)) (gstart 6 (AL.can Z2p d))=Q4y d:=by kernel_rfl
abbrev Z9j:Prop:=OkC Tryz.prog 99 Q62
theorem Z9d (h:∀ (a:Int),(True)→Q4y a):OkC Tryz.prog 99 Q62 :=
 Q1b fun99 mixed (C:=Z2k) (V:=fun (d:Int)=>Q4y d) ⟨.nil,XsOk.nil,ItsOk.nil,YlOk.nil,IysOk.nil,XfOk.nil⟩ (Z9e) fun d hp=>h d hp
theorem Z2e:Z9j:=Z9d fun a _=>by unfold Q4y;(try delta lI gD sT I64);simp
def Z06:AL (Int×Int):=(.cons (.k (.i .i64)) (.one (.k (.i .i64))))
def Z69 (d:Int×Int):Prop:=True
def Q9g (d:Int×Int):SV:=.val (.i .i64) (cmpI d.1 d.2)
def Q8v (d:Int×Int):List OB:=[]
def Q4b:CSp:=mkSp Z06 Z69 Q9g Q8v
def Q3n (a:Int) (b:Int):Prop :=
 (True)∧(True)∧(false=true →
  (false=true →
   ((0:Int)=(cmpI a b)∧(True))) ∧
  (false=false →
   ((-1:Int)=(cmpI a b)∧(True)))) ∧
 (false=false →
  (false=true →
   ((1:Int)=(cmpI a b)∧(True))) ∧
  (false=false →
   ((decide (a<b))=true →
    ((-1:Int)=(cmpI a b)∧(True))) ∧
   ((decide (a<b))=false →
    ((decide (a > b))=true →
     ((1:Int)=(cmpI a b)∧(True))) ∧
    ((decide (a > b))=false →
     ((0:Int)=(cmpI a b)∧(True))))))
def Z03:Cx:=⟨[],[(99,Q62)],20,[],0,[],[],[],[],false,[],[],[],[]⟩
def Z6e (a:Int) (b:Int):List (Nat×LoopAnn):=[]
set_option maxRecDepth 100000 in
theorem Z7b (d:Int×Int):gwp (Z03) (Z6e d.1 d.2) c81 0 (gend [.tmp 4] (Q9g d) (Q8v d)) (gstart 20 (AL.can Z06 d))=Q3n d.1 d.2:=by kernel_rfl
abbrev Z6i:Prop:=OkC Tryz.prog 81 Q4b
theorem Z7l (h:∀ (a:Int) (b:Int),(True)→Q3n a b):OkC Tryz.prog 81 Q4b :=
 Q1b fun81 mixed (C:=Z03) (V:=fun (d:Int×Int)=>Q3n d.1 d.2) ⟨(.cons Z2e .nil),XsOk.nil,ItsOk.nil,YlOk.nil,IysOk.nil,XfOk.nil⟩ (Z7b) fun d hp=>h d.1 d.2 hp
theorem Z0e:Z6i:=Z7l fun a b _=>by
 unfold Q3n;(try delta lI gD sT I64);simp only[decide_eq_true_eq,decide_eq_false_iff_not,true_and,and_true,decide_eq_true_eq,decide_eq_false_iff_not,gt_iff_lt,false_implies,Bool.false_eq_true,forall_const];unfold cmpI;refine⟨fun h=>?_,fun h=>⟨fun h2=>?_,fun h2=>?_⟩⟩
 ·rw[if_pos h]
 ·rw[if_neg h,if_pos h2]
 ·rw[if_neg h,if_neg h2]
def Z7m:AL (List Int):=(.one (.k (.list (.i .i64))))
def J2p (d:List Int):Prop:=d.length≤1000
def Z4z (d:List Int):SV:=.val (.i .i64) (orI d)
def Z53 (d:List Int):List OB:=[]
def Z43:CSp:=mkSp Z7m J2p Z4z Z53
def Q8b (l:List Int):Prop :=
 ∃ (e2:Unit) (d20:Int),(((0:Int)=(0:Int)∧l=l∧(lI l)=(lI l)∧(0:Int)=d20∧True)∧(True)) ∧
 LoopP (fun (d2:Int) (q2:(Int)→Prop) =>
  ((decide (d2<(lI l)))=true →
   (0≤d2)∧(d2<(List.length l))∧(((gD l d2 0) != (0:Int))=true →
    ((gD l d2 0)=(orI l)∧(True))) ∧
   (((gD l d2 0) != (0:Int))=false →
    (I64 (d2+(1:Int)))∧(∃ d3:Int,(((0:Int)=(0:Int)∧l=l∧(lI l)=(lI l)∧(d2+(1:Int))=d3∧True)∧(True))∧q2 d3))) ∧
  ((decide (d2<(lI l)))=false →
   ((0:Int)=(orI l)∧(True)))) d20
def Z7k:Cx:=⟨[],[],18,[],0,[],[],[],[],false,[],[],[],[]⟩
def J5j (l:List Int):List (Nat×LoopAnn):=[(0,⟨Unit,Int,[3,6,7,8],fun e x=>[.val (.i .i64) (0:Int),.val (.list (.i .i64)) l,.val (.i .i64) (((List.length l):Nat):Int),.val (.i .i64) x],fun e x=>[]⟩)]
set_option maxRecDepth 100000 in
theorem J56 (d:List Int):gwp (Z7k) (J5j d) c80 0 (gend [.tmp 2] (Z4z d) (Z53 d)) (gstart 18 (AL.can Z7m d))=Q8b d:=by kernel_rfl
abbrev J4m:Prop:=OkC Tryz.prog 80 Z43
theorem J53 (h:∀ (l:List Int),(l.length≤1000)→Q8b l):OkC Tryz.prog 80 Z43 :=
 Q1b fun80 mixed (C:=Z7k) (V:=fun (d:List Int)=>Q8b d) ⟨.nil,XsOk.nil,ItsOk.nil,YlOk.nil,IysOk.nil,XfOk.nil⟩ (J56) fun d hp=>h d hp
theorem J63:J4m:=J53 fun l h=>by
 unfold Q8b;(try delta lI gD sT I64);simp only[decide_eq_true_eq,decide_eq_false_iff_not];refine⟨(),0,(by and_intros<;>first|rfl|trivial|simp),?_⟩;refine LoopP.count l.length (fun k=>∀ j,j<k→l.getD j 0=0) (fun j hj=>by omega) fun k hk hJ q hq=>?_;simp only[Int.toNat_natCast];refine⟨fun hlt=>?_,fun hge=>?_⟩
 ·have hkl:k<l.length:=by omega
  refine⟨by omega,hlt,fun hx=>?_,fun hx=>⟨by rw[Q1a];omega,_,(by and_intros<;>first|rfl|trivial|simp),hq hkl fun j hj=>?_⟩⟩
  ·have hf:l.find? (fun x=>x != 0)=some l[k]:=by
    rw[List.find?_eq_some_iff_getElem];rw[Q03 hkl] at hx;refine⟨hx,k,hkl,rfl,fun j hj=>?_⟩;have:=hJ j hj;rw[Q03 (by omega)] at this;simp[this]
   refine⟨?_,trivial⟩;unfold orI;rw[hf,Q03 hkl];rfl
  ·rcases Nat.lt_succ_iff_lt_or_eq.1 hj with hj|rfl
   ·exact hJ j hj
   ·simpa using hx
 ·have hf:l.find? (fun x=>x != 0)=none:=by
   rw[List.find?_eq_none];intro x hx;obtain⟨j,hj,rfl⟩:=List.getElem_of_mem hx;have:=hJ j (by omega);rw[Q03 hj] at this;simp[this]
  refine⟨?_,trivial⟩;unfold orI;rw[hf];rfl
def Q4s:AL (List Int×List Int):=(.cons (.k (.list (.i .i64))) (.one (.k (.list (.i .i64)))))
def Q9u (d:List Int×List Int):Prop:=d.1.length≤1000∧d.2.length≤1000
def Q4f (d:List Int×List Int):SV:=.val (.i .i64) (cmpL d.1 d.2)
def Q4h (d:List Int×List Int):List OB:=[]
def Q1d:CSp:=mkSp Q4s Q9u Q4f Q4h
def Q17 (a:List Int) (b:List Int):Prop :=
 ∃ (e2:Unit) (d20:Int),((a=a∧b=b∧a=a∧(lI a)=(lI a)∧(0:Int)=d20∧True)∧(True)) ∧
 LoopP (fun (d2:Int) (q2:(Int)→Prop) =>
  ((decide (d2<(lI a)))=true →
   (0≤d2)∧(d2<(List.length a))∧((decide (d2≥(lI b)))=true →
    ((1:Int)=(cmpL a b)∧(True))) ∧
   ((decide (d2≥(lI b)))=false →
    (0≤d2)∧(d2<(List.length b))∧(True)∧(((cmpI (gD a d2 0) (gD b d2 0)) != (0:Int))=true →
     ((cmpI (gD a d2 0) (gD b d2 0))=(cmpL a b)∧(True))) ∧
    (((cmpI (gD a d2 0) (gD b d2 0)) != (0:Int))=false →
     (I64 (d2+(1:Int)))∧(∃ d3:Int,((a=a∧b=b∧a=a∧(lI a)=(lI a)∧(d2+(1:Int))=d3∧True)∧(True))∧q2 d3)))) ∧
  ((decide (d2<(lI a)))=false →
   ((decide ((lI a)<(lI b)))=true →
    ((-1:Int)=(cmpL a b)∧(True))) ∧
   ((decide ((lI a)<(lI b)))=false →
    ((0:Int)=(cmpL a b)∧(True))))) d20
def Q4u:Cx:=⟨[],[(81,Q4b)],36,[],0,[],[],[],[],false,[],[],[],[]⟩
def Z0m (a:List Int) (b:List Int):List (Nat×LoopAnn):=[(0,⟨Unit,Int,[0,1,9,10,11],fun e x=>[.val (.list (.i .i64)) a,.val (.list (.i .i64)) b,.val (.list (.i .i64)) a,.val (.i .i64) (((List.length a):Nat):Int),.val (.i .i64) x],fun e x=>[]⟩)]
set_option maxRecDepth 100000 in
theorem Z0t (d:List Int×List Int):gwp (Q4u) (Z0m d.1 d.2) c82 0 (gend [.tmp 4] (Q4f d) (Q4h d)) (gstart 36 (AL.can Q4s d))=Q17 d.1 d.2:=by kernel_rfl
abbrev Z0n:Prop:=OkC Tryz.prog 82 Q1d
theorem Z0u (h:∀ (a:List Int) (b:List Int),(a.length≤1000∧b.length≤1000)→Q17 a b):OkC Tryz.prog 82 Q1d :=
 Q1b fun82 mixed (C:=Q4u) (V:=fun (d:List Int×List Int)=>Q17 d.1 d.2) ⟨(.cons Z0e .nil),XsOk.nil,ItsOk.nil,YlOk.nil,IysOk.nil,XfOk.nil⟩ (Z0t) fun d hp=>h d.1 d.2 hp
theorem Q4w:Z0n:=Z0u fun a b h=>by
 obtain⟨h1,h2⟩:=h;unfold Q17;(try delta lI gD sT I64);simp only[decide_eq_true_eq,decide_eq_false_iff_not];refine⟨(),0,(by and_intros<;>first|rfl|trivial|simp),?_⟩;refine LoopP.count a.length (fun k=>k≤b.length∧∀ j,j<k→a.getD j 0=b.getD j 0) ⟨by omega,fun j hj=>by omega⟩ fun k hk hJ q hq=>?_;obtain⟨j1,j2⟩:=hJ;have hc:=J7u k hk j1 j2;simp only[Int.toNat_natCast];refine⟨fun hlt=>?_,fun hge=>?_⟩
 ·have hkl:k<a.length:=by omega
  rw[List.drop_eq_getElem_cons hkl] at hc;refine⟨by omega,hlt,fun h3=>?_,fun h3=>?_⟩
  ·rw[List.drop_eq_nil_of_le (show b.length≤k by omega)] at hc;rw[hc];exact⟨rfl,trivial⟩
  ·have hkb:k<b.length:=by omega
   rw[List.drop_eq_getElem_cons hkb,cmpL] at hc;rw[Q03 hkl,Q03 hkb];refine⟨by omega,by omega,trivial,fun hx=>?_,fun hx=>⟨by rw[Q1a];omega,_,(by and_intros<;>first|rfl|trivial|simp),hq hkl ⟨by omega,fun j hj=>?_⟩⟩⟩
   ·have hx:cmpI a[k] b[k]≠0:=by simpa using hx
    rw[hc,if_pos hx];exact⟨rfl,trivial⟩
   ·rcases Nat.lt_succ_iff_lt_or_eq.1 hj with hj|rfl
    ·exact j2 j hj
    ·rw[Q03 hkl,Q03 hkb];exact J7g.1 (by simpa using hx)
 ·have:k=a.length:=by omega
  subst this;rw[List.drop_length] at hc;refine⟨fun h3=>?_,fun h3=>?_⟩
  ·rw[List.drop_eq_getElem_cons (show a.length<b.length by omega)] at hc;rw[hc];exact⟨rfl,trivial⟩
  ·rw[List.drop_eq_nil_of_le (show b.length≤a.length by omega)] at hc;rw[hc];exact⟨rfl,trivial⟩
end Go.Proofs.Tryz
set_option linter.unusedVariables false
namespace Go.Proofs.Tryz
open Go Go.V Go.Proofs
def Z7o:Cx:=⟨[(3,(.i .i64))],[(69,Q6c),(61,Q3l)],21,[],0,[],[],[],[],false,[],[],[],[]⟩
def Z8v:XSp:=inlX Z7o (fun _=>[]) c51 [.cell 4 true 2,.tmp 5] 21
theorem J3d:XOk Tryz.prog 51 Z8v:=X6m fun51 mixed (C:=Z7o) ⟨(.cons Z0r (.cons Q66 .nil)),XsOk.nil,ItsOk.nil,YlOk.nil,IysOk.nil,XfOk.nil⟩ _
theorem dead3:((3:Int) != 0)=true:=rfl
end Go.Proofs.Tryz
set_option linter.unusedVariables false
namespace Go.Proofs.Tryz
open Go Go.V Go.Proofs
def chosenK (n m:Nat):List Int:=((List.range m).filter fun k=>n.testBit k).map fun (k:Nat)=>(k:Int)
theorem J1i:∀ {a b:List Int},a.Pairwise (·<·)→b.Pairwise (·<·)→(∀ x,x∈a↔x∈b)→a=b
 |[],[],_,_,_=>rfl
 |[],y::b,_,_,h=>by have:=(h y).2 (List.mem_cons_self ..);cases this
 |x::a,[],_,_,h=>by have:=(h x).1 (List.mem_cons_self ..);cases this
 |x::a,y::b,ha,hb,h=>by
  obtain⟨ha1,ha2⟩:=List.pairwise_cons.1 ha;obtain⟨hb1,hb2⟩:=List.pairwise_cons.1 hb;have hxy:x=y:=by
   rcases List.mem_cons.1 ((h x).1 (List.mem_cons_self ..)) with e|e
   ·exact e
   ·rcases List.mem_cons.1 ((h y).2 (List.mem_cons_self ..)) with e2|e2
    ·exact e2.symm
    ·have h1:=hb1 x e;have h2:=ha1 y e2;omega
  subst hxy;rw[J1i ha2 hb2 fun z=>?_];constructor
  ·intro hz;rcases List.mem_cons.1 ((h z).1 (List.mem_cons_of_mem _ hz)) with e|e
   ·have:=ha1 z hz;omega
   ·exact e
  ·intro hz;rcases List.mem_cons.1 ((h z).2 (List.mem_cons_of_mem _ hz)) with e|e
   ·have:=hb1 z hz;omega
   ·exact e
theorem X8g {n k:Nat}(h0:0<n) (h1:n<2 ^ 64) (hk:n.testBit k=true):tzN n≤k:=by
 obtain⟨_,m,hm⟩:=Z4h h0 h1;generalize tzN n=t at *
 rcases Nat.lt_or_ge k t with h|h
 ·rw[hm,Nat.testBit_two_pow_mul,decide_eq_false (show ¬ k≥t by omega)] at hk;cases hk
 ·exact h
theorem J1z:∀ f n,n≤f→n<2 ^ 64→(setK f n).Pairwise (·<·)
 |0,n,_,_=>by simp[setK]
 |f+1,n,h1,h2=>by
  unfold setK;by_cases h:n=0
  ·rw[if_pos h];exact List.Pairwise.nil
  ·rw[if_neg h,List.pairwise_cons];have hle:=Nat.and_le_right (n:=n) (m:=n-1);refine⟨fun i hm=>?_,J1z f _ (by omega) (by omega)⟩;obtain⟨k,rfl,hb⟩:=(J01 f _ (by omega) (by omega) _).1 hm;rw[Z77 (by omega) h2] at hb;simp only[Bool.and_eq_true,Bool.not_eq_true',decide_eq_false_iff_not] at hb;have:=X8g (by omega) h2 hb.1;omega
theorem J8v {n m:Nat}(h:n<2 ^ m) (hm:m≤64):setL n=chosenK n m:=by
 have hp:2 ^ m≤2 ^ 64:=Nat.pow_le_pow_right (by omega) hm;refine J1i (J1z n n (Nat.le_refl _) (by omega)) ?_ fun x=>?_
 ·unfold chosenK;rw[List.pairwise_map];exact(List.Pairwise.filter _ List.pairwise_lt_range).imp fun h=>by omega
 ·rw[J5f (by omega)];simp only[chosenK,List.mem_map,List.mem_filter,List.mem_range];constructor
  ·rintro⟨k,rfl,hb⟩;have:k<m:=by
    rcases Nat.lt_or_ge k m with h2|h2
    ·exact h2
    ·rw[Nat.testBit_lt_two_pow (Nat.lt_of_lt_of_le h (Nat.pow_le_pow_right (by omega) h2))] at hb;cases hb
   exact⟨k,⟨this,hb⟩,rfl⟩
  ·rintro⟨k,⟨_,hb⟩,rfl⟩;exact⟨k,rfl,hb⟩
def pairB (a b:Lot) (t:Int):Bool:=(a.1==b.1)&&decide (farL a b≤t)&&decide (farL a a≤t)&&decide (farL b b≤t)
def alikeR (p:List Lot) (t:Int):Bool:=(List.range p.length).all fun i=>(List.range p.length).all fun k=>pairB (p.getD i lotD) (p.getD k lotD) t
theorem X0h {p:List Lot}{t:Int}:alikeR p t=true↔∀ i,i<p.length→∀ k,k<p.length→(p.getD i lotD).1=(p.getD k lotD).1∧farL (p.getD i lotD) (p.getD k lotD)≤t:=by simp only[alikeR,List.all_eq_true,List.mem_range,pairB,Bool.and_eq_true,beq_iff_eq,decide_eq_true_eq];exact⟨fun h i hi k hk=>⟨(h i hi k hk).1.1.1,(h i hi k hk).1.1.2⟩,fun h i hi k hk=>⟨⟨⟨(h i hi k hk).1,(h i hi k hk).2⟩,(h i hi i hi).2⟩,(h k hk k hk).2⟩⟩
theorem J84 {p:List Lot}{t:Int}(h:p≠[]):alikeP t p=alikeR p t:=by
 have hp:1≤p.length:=List.length_pos_iff.2 h;obtain⟨a,_,_,⟨i3,b3,c3⟩,⟨i4,b4,c4⟩⟩:=Z6s h p.length hp (Nat.le_refl _);rw[Bool.eq_iff_iff,X0h];unfold alikeP sprD;simp only[Bool.and_eq_true,Bool.not_eq_true',decide_eq_true_eq,List.any_eq_false,bne_iff_ne,ne_eq,Decidable.not_not];generalize sprF p p.length=S at *
 constructor
 ·rintro⟨h1,h2⟩ i hi k hk;have e1:=h1 _ (by rw[Q03 hi];exact List.getElem_mem hi:p.getD i lotD∈p);have e2:=h1 _ (by rw[Q03 hk];exact List.getElem_mem hk:p.getD k lotD∈p);have u:=a i hi;have v:=a k hk;refine⟨e1.trans e2.symm,?_⟩;unfold farL;rw[Q9d];omega
 ·intro h1;refine⟨fun x hx=>?_,?_⟩
  ·obtain⟨i,hi,rfl⟩:=List.getElem_of_mem hx;have:=(h1 i hi 0 (by omega)).1
   rwa [Q03 hi] at this
  ·have:=(h1 i4 b4 i3 b3).2;unfold farL at this;rw[Q9d] at this;omega
end Go.Proofs.Tryz
set_option linter.unusedVariables false
namespace Go.Proofs.Tryz
open Go Go.V Go.Proofs
theorem X3x {l:List Lot}{sm:List Int}{i:Nat}(h:i<sm.length):(pickL l sm).getD i lotD=l.getD (sm.getD i 0).toNat lotD:=by rw[Q03 (by simpa [pickL] using h),Q03 h];simp[pickL]
theorem X0p {p:List Lot}{t:Int}:alikeR p t=true↔∀ i,i<p.length→∀ k,k<p.length→pairB (p.getD i lotD) (p.getD k lotD) t=true:=by simp only[alikeR,List.all_eq_true,List.mem_range]
end Go.Proofs.Tryz
namespace Go.V
open Go
def Heap.over (B F:Heap):Heap where
 get i:=match B.get i with|some b=>some b|none=>F.get i
 n:=Nat.max B.n F.n
 wf i h:=by have h1:B.n≤i:=Nat.le_trans (Nat.le_max_left _ _) h;have h2:F.n≤i:=Nat.le_trans (Nat.le_max_right _ _) h;rw[B.wf i h1];exact F.wf i h2
theorem Heap.over_none {B F:Heap}{i:Nat}(h1:B.get i=none) (h2:F.get i=none):(B.over F).get i=none:=by show (match B.get i with|some b=>some b|none=>F.get i)=none;rw[h1];exact h2
theorem Heap.over_left {B F:Heap}:B.Le (B.over F):=⟨Nat.le_max_left _ _,fun i b h=>by
 show (match B.get i with|some b=>some b|none=>F.get i)=some b;rw[h]⟩
theorem Heap.over_right {B F σ:Heap}(hB:B.Le σ) (hF:F.Le σ):F.Le (B.over F):=⟨Nat.le_max_right _ _,fun i b h=>by
 show (match B.get i with|some b=>some b|none=>F.get i)=some b;cases hb:B.get i with
 |none=>exact h
 |some b' =>
  have h1:=hB.2 _ _ hb;have h2:=hF.2 _ _ h;rw[h1] at h2;exact h2⟩
theorem Heap.over_le {B F σ:Heap}(hB:B.Le σ) (hF:F.Le σ):(B.over F).Le σ:=⟨Nat.max_le.2 ⟨hB.1,hF.1⟩,fun i b h=>by
 have h:(match B.get i with|some b=>some b|none=>F.get i)=some b:=h;cases hb:B.get i with
 |none=>rw[hb] at h;exact hF.2 _ _ h
 |some b'=>rw[hb] at h;rw[←h];exact hB.2 _ _ hb⟩
theorem GBase.over {B F σ B' σ':Heap}(hB:B.Le B') (hBσ:B'.Le σ') (hF:F.Le σ') (hx:∀ i b,F.get i=some b→B.get i=none→B'.get i=none) (hd:Dead σ σ'):GBase B F σ B' (B'.over F) σ' :=
 ⟨hB,Heap.over_right hBσ hF,hx,hd⟩
def lentF (ap:Ap) (sp:LSp):XSp:=fun _ args s K =>
 match args with
 |.lst o::args=>bif SVs.pure args&&(oget s.own o).isL then (match sp ap (oget s.own o) args with
   |some (c,v,b)=>bif v.ret 0&&b.isL then c∧K v ⟨s.env,oset s.own o b,s.nx⟩ else False
   |none=>False) else False
 |_=>False
def callV (ap:Ap) (sp:CSp):XSp:=fun d args s K =>
 let s1:=(⟨s.env++args,s.own,s.nx⟩:St).frzs (lstNums args);let a1:=s1.env.drop s.env.length
 bif SVs.pure a1 then (match sp ap a1 with
  |some (c,v,bs)=>bif v.ret bs.length&&bs.all OB.isL then c∧K (v.ren d 500000) ((⟨s1.env.take s.env.length,s1.own,s1.nx⟩:St).makes d 500000 0 bs) else False
  |none=>False) else False
section
variable {P:Program}
theorem OB.isL_lst {b:OB}(h:b.isL=true):∃ ty k xs nl,b=.lst ty k xs nl:=by cases b<;>first|exact⟨_,_,_,_,rfl⟩|cases h
theorem X4o {f:Nat}{vc:VCode}{rs:List VResult}{nt:Nat}(h:Fun P f vc rs nt) (hm:P.follows .mixedOrders=true) {sp:LSp}{ap:Ap}
  (hb:∀ b args c v b',sp ap b args=some (c,v,b')→c→∃ (C:Cx) (L:List Value→List (Nat×LoopAnn)) (args':List SV),SVs.pure args'=true∧(∀ σ vs,SRs P σ noPl noTb args vs→SRs P σ noPl noTb args' vs)∧COk P C∧∀ vals,gwp C (L vals) vc 0 (lendK vals rs v b' (lsv b)) (lstart nt (lsv b) b vals args')):XOk P f (lentF ap sp):=by
 intro B F pl tb s env σ d args vs K R hG ha hx hK;unfold lentF at hx;split at hx
 ·rename_i o args;cases hbf:(SVs.pure args&&(oget s.own o).isL) with
  |false=>rw[hbf] at hx;exact hx.elim
  |true =>
  rw[hbf] at hx;simp only[_root_.cond_true] at hx;simp only[Bool.and_eq_true] at hbf;obtain⟨hpa,hisl⟩:=hbf;obtain⟨ty,k,xs,nl,hown⟩:=OB.isL_lst hisl;rw[hown] at hx;split at hx
  ·rename_i c v b' hsp;cases hvr:(v.ret 0&&b'.isL) with
   |false=>rw[hvr] at hx;exact hx.elim
   |true =>
   rw[hvr] at hx;obtain⟨hc,hx⟩:=hx;simp only[Bool.and_eq_true] at hvr;simp only[SRs] at ha;obtain⟨u,us,rfl,hau,hus⟩:=ha;have hlive:(oget s.own o).live=true:=by rw[hown];rfl
   have hob:=hG.obj o;rw[hown] at hob;simp only[SR] at hau;obtain⟨rfl,hs⟩:=hau;have hid:∀ i,oid (pl o)=some i→F.get i=none:=fun i hi=>hG.fresh o i hlive (Z3q hi);have hidB:∀ i,oid (pl o)=some i→B.get i=none:=fun i hi=>by
    cases hg:B.get i with
    |none=>rfl
    |some b=>have:=hG.bf.2 _ _ hg;rw[hid i hi] at this;cases this
   have hnt:∀ l,pl o≠.tuple l:=fun l he=>by obtain⟨_,_,_,hs⟩:=hs;rw[he] at hs;cases hs
   have hpin:∀ (B:Heap) (pl':Nat→Value) (tb':Nat→Option Bool),(SR P B pl' tb' (.lst 0) (pl o)↔pl' 0=pl o):=fun B pl' tb'=>by simp only[SR];exact⟨fun h=>h.1.symm,fun h=>⟨h.symm,hs⟩⟩
   obtain⟨C,L,args',hpure,hdec,hcs,hg⟩:=hb _ _ c v b' hsp hc;have hg:=hg [pl o];let σc:=lentH σ (pl o);have hBc:B.Le σc:=J03 hG.leB hidB;have hFc:F.Le σc:=J03 hG.le hid;have hargs:SRs P B noPl noTb args' us:=hdec B us (Q10 _ _ hpa hus);let plC:Nat→Value:=fun j=>if j=0 then pl o else poison
   have hst:GRel P B σc σ (lstart nt (.lst 0) (.lst ty k xs nl) [pl o] args') (pl o::us++List.replicate (nt-(pl o::us).length) undef) σ:=by
    refine⟨B,σc,plC,noTb,⟨.refl _,.refl _,fun _ _ _ h=>h,.refl _⟩,hBc,X0g _ _,?_,fun j=>?_,fun j i h1 h2=>?_,fun j j' i hne h1 h2 h3 h4=>?_,fun _ _=>rfl⟩
    ·simp only[lstart,SRs,List.cons_append];refine⟨pl o,_,rfl,(hpin _ _ _).2 (by simp[plC]),?_⟩;rw[hargs.length,List.length_cons];refine SRs.append ?_ (J0o _);exact Q10 _ _ hpure hargs
    ·simp only[lstart,oget];by_cases e0:j=0
     ·subst e0;simp only[Nat.beq_refl,_root_.cond_true];exact hob
     ·rw[Q1v (fun e=>e0 e.symm),cond_false];by_cases e1:j=4000000
      ·subst e1;simp only[Nat.beq_refl,_root_.cond_true];exact⟨pl o,[],rfl,(hpin _ _ _).2 (by simp[plC]),rfl⟩
      ·rw[Q1v (fun e=>e1 e.symm),cond_false];trivial
    ·simp only[lstart,oget] at h1;by_cases e0:j=0
     ·subst e0;exact J3w (X2p hnt h2)
     ·rw[Q1v (fun e=>e0 e.symm),cond_false] at h1;by_cases e1:j=4000000
      ·subst e1;cases h1
      ·rw[Q1v (fun e=>e1 e.symm),cond_false] at h1;cases h1
    ·have z:∀ j,(oget (lstart nt (.lst 0) (.lst ty k xs nl) [pl o] args').own j).live=true→j=0:=fun j h1=>by
      simp only[lstart,oget] at h1;by_cases e0:j=0
      ·exact e0
      ·rw[Q1v (fun e=>e0 e.symm),cond_false] at h1;by_cases e1:j=4000000
       ·subst e1;cases h1
       ·rw[Q1v (fun e=>e1 e.symm),cond_false] at h1;cases h1
     exact hne ((z j h1).trans (z j' h2).symm)
   refine h.calls hm okSem ?_;refine Z42 hcs vc 0 _ _ _ σ none _ trivial hst hg fun e s' env' σ' h1 h2=>?_
   have main:(match gresults s' rs,oget s'.own 4000000 with
    |some r,.stk l vs=>vs=[pl o]∧svEqs [(0,some 0)] [.lst 0] l∧svEq [] v r∧obEq s' [(0,some 0)] 0 b'
    |_,_=>False)→obind (vresults env' σ' rs) fun v=>∃ v' σ'',DropTo σ v σ' v' σ''∧R v' σ'':=fun h=>by
    obtain⟨B',F',pl',tb',k1,k2⟩:=h2;split at h
    ·rename_i r l vs' hr hstk;obtain⟨rfl,m1,m2,m3⟩:=h;obtain⟨w,h3,h4⟩:=Q4r k2 hr;rw[h3];have hstko:=k2.obj 4000000;rw[hstk] at hstko;have hpl0:pl' 0=pl o:=by
      have:=Q1h [.lst 0] l [pl o] m1 hstko;simp only[SRs] at this;obtain⟨u',_,hu',h5,_⟩:=this;obtain rfl:pl o=u':=(List.cons.inj hu').1;have:=(hpin _ _ _).1 h5;simpa [mapP,alook] using this
     obtain⟨hob',hobl⟩:=Q0i k2 m3;have hmp:mapP pl' [(0,some 0)] 0=pl o:=by simpa [mapP,alook] using hpl0
     rw[hmp] at hob' hobl;have hres:=(Q6u v r w m2 h4).retd (B':=B') (pl':=pl) (tb':=tb) (n:=0) (fun j hj=>by omega) _ _ hvr.1;have hle:σc.Le σ':=k1.f.trans k2.le;have hBσ:B'.Le σ':=k2.leB;obtain⟨ty',kk',xs',nl',rfl⟩:=OB.isL_lst hvr.2;have hoth:∀ d,d≠o→(oget s.own d).live=true→∀ i,Oid (pl d) i→B'.get i=none∧σ'.get i=σ.get i:=fun d e hl i hi=>by
      have hlt:=(hG.obj d).id_lt hl hi;have hio:oid (pl o)≠some i:=fun hio=>hG.sep d o i e hl hlive hi (Z3q hio);cases hg:σ.get i with
      |none =>
       have hn:=k1.d.2 i hlt hg;refine⟨?_,hn⟩;cases hb':B'.get i with
       |none=>rfl
       |some bb=>have:=hBσ.2 _ _ hb';rw[hn] at this;cases this
      |some bb =>
       have hc':σc.get i=some bb:=by rw[J1o hio];exact hg
       refine⟨k1.x i bb hc' ?_,hle.2 _ _ hc'⟩;cases hb':B.get i with
       |none=>rfl
       |some b2=>have:=hG.bf.2 _ _ hb';rw[hG.fresh d i hl hi] at this;cases this
     have hown':∀ i,Oid (pl o) i→B'.get i=none:=fun i hi=>by
      obtain⟨a,_,e2,e3⟩:=hobl rfl i hi;have:=k2.fresh a i e2 e3;cases hb':B'.get i with
      |none=>rfl
      |some b2=>have h9:=k2.bf.2 _ _ hb';rw[this] at h9;cases h9
     have hFσ:F.Le σ':=hFc.trans hle;refine⟨w,σ',.refl _ _ _,hK v _ B' (B'.over F) pl tb w σ' hx (.over k1.b hBσ hFσ (fun i b e1 e2=>k1.x i b (hFc.2 _ _ e1) e2) k1.d) ⟨Heap.over_left,Heap.over_le hBσ hFσ,SRs.mono k1.b (fun _ _ h=>h) _ _ hG.env,fun d=>?_,fun d i q1 q2=>?_,fun d d' i hne q1 q2 q3 q4=>?_,hG.free⟩ hres⟩
     ·simp only[Q09];by_cases e:d=o
      ·subst e;rw[if_pos rfl];exact hob'
      ·rw[if_neg e];exact(hG.obj d).mono k1.b (fun _ _ h=>h) fun hl i hi=>(hoth d e hl i hi).2
     ·simp only[Q09] at q1;by_cases e:d=o
      ·subst e;exact Heap.over_none (hown' i q2) (hG.fresh d i hlive q2)
      ·rw[if_neg e] at q1;exact Heap.over_none (hoth d e q1 i q2).1 (hG.fresh d i q1 q2)
     ·have lv:∀ d,(oget (oset s.own o (.lst ty' kk' xs' nl')) d).live=true→(oget s.own d).live=true:=fun d h=>by
       rw[Q09] at h;by_cases e:d=o
       ·subst e;exact hlive
       ·rwa [if_neg e] at h
      exact hG.sep d d' i hne (lv d q1) (lv d' q2) q3 q4
    ·exact h.elim
   cases e with
   |normal=>exact main h1
   |ret=>exact main h1
   |_=>exact h1.elim
  ·exact hx.elim
 ·exact hx.elim
theorem J0k {f:Nat}{vc:VCode}{rs:List VResult}{nt:Nat}(h:Fun P f vc rs nt) (hm:P.follows .mixedOrders=true) {ap:Ap}(hap:ApOk P ap) {ty:Nat}{k:Kind}{D:Type}{l:AL D}{pre:List k.T→Bool→D→Prop}{res:List k.T→Bool→D→SV}{post:List k.T→Bool→D→List k.T}
  {C:Cx}(hcs:COk P C) {L:List k.T→Bool→D→List Value→List (Nat×LoopAnn)}{V:List k.T→Bool→D→Prop}
  (hq:∀ xs nl d,(∀ vals,gwp C (L xs nl d vals) vc 0 (lendK vals rs (res xs nl d) (.lst ty k (post xs nl d) nl) (.lst 0)) (lstart nt (.lst 0) (.lst ty k xs nl) vals (AL.can l d)))=V xs nl d)
  (hb:∀ xs nl d,pre xs nl d→V xs nl d):XOk P f (lentF ap (lentL ty k l pre res post)):=by
 refine X4o h hm fun b args c v b' hs hc=>?_;unfold lentL at hs;split at hs
 ·rename_i ty' k' xs nl;split at hs
  ·rename_i e;subst e;split at hs
   ·rename_i ys d h1 h2;obtain⟨rfl,rfl,rfl⟩:=(by simpa using hs:pre ys nl d=c∧res ys nl d=v∧OB.lst ty' k (post ys nl d) nl=b');unfold castL at h1;split at h1
    ·rename_i e;subst e;obtain rfl:=osj h1;exact⟨C,L xs nl d,AL.can l d,AL.can_pure l d,fun σ vs hv=>AL.dec_sound hap l h2 hv,hcs,(hq xs nl d).mpr (hb xs nl d hc)⟩
    ·cases h1
   ·cases hs
  ·cases hs
 ·cases hs
theorem SRs.split {B:Heap}{pl:Nat→Value}{tb:Nat→Option Bool}:∀ {a:List SV}{u v:List Value},SRs P B pl tb a (u++v)→SRs P B pl tb (a.take u.length) u∧SRs P B pl tb (a.drop u.length) v
 |a,[],v,h=>⟨by simp[SRs],by simpa using h⟩
 |[],x::u,v,h=>by simp only[SRs] at h;cases h
 |s::a,x::u,v,h=>by simp only[SRs,List.cons_append] at h;obtain⟨y,ys,e,h1,h2⟩:=h;obtain⟨rfl,rfl⟩:=List.cons.inj e;obtain⟨h3,h4⟩:=SRs.split h2;simp only[List.length_cons,List.take_succ_cons,List.drop_succ_cons,SRs];exact⟨⟨_,_,rfl,h1,h3⟩,h4⟩
theorem Z8t {B F σ:Heap}{tb tbc:Nat→Option Bool}{env:Env}{σ0:Heap}{d nt:Nat}(hnt:0<nt) (plc:Nat→Value) (bs:List OB) (hF:F.Le σ)
  (hob:∀ j b,bs[j]?=some b→b.isL=true∧OR P B plc tbc σ (plc j) b∧∀ i,Oid (plc j) i→σ0.n≤i∧F.get i=none)
  (hsep:∀ j j' i,j<bs.length→j'<bs.length→j≠j'→Oid (plc j) i→Oid (plc j') i→False) :
  ∀ (r:List OB) (j:Nat) (pl:Nat→Value) (s:St),bs.drop j=r→Gam P B F pl tb s env σ→(∀ k i,(oget s.own k).live=true→Oid (pl k) i→i<σ0.n∨∃ j'<j,j'<bs.length∧Oid (plc j') i∧k=d+j'*nt)→(∀ j'<j,j'<bs.length→pl (d+j'*nt)=plc j') →
   ∃ pl',Gam P B F pl' tb (s.makes d nt j r) env σ∧(∀ j'<bs.length,pl' (d+j'*nt)=plc j')
 |[],j,pl,s,hr,hG,_,hp=>⟨pl,hG,fun j' hj'=>hp j' (by
   have:=congrArg List.length hr;simp at this;omega) hj'⟩
 |b::r,j,pl,s,hr,hG,hinv,hp=>by
  have hjl:j<bs.length:=by
   rcases Nat.lt_or_ge j bs.length with h|h
   ·exact h
   ·rw[List.drop_eq_nil_of_le h] at hr;cases hr
  have hbj:bs[j]?=some b:=by
   have:(bs.drop j)[0]?=some b:=by rw[hr];rfl
   simpa using this
  have hr':bs.drop (j+1)=r:=by
   have:(bs.drop j).drop 1=r:=by rw[hr];rfl
   simpa [List.drop_drop,Nat.add_comm] using this
  obtain⟨h1,h2,h3⟩:=hob j b hbj;obtain⟨ty,k,xs,nl,rfl⟩:=OB.isL_lst h1;have hkey:∀ j' ,j'≠j→d+j'*nt≠d+j*nt:=fun j' hne e=>hne (Nat.eq_of_mul_eq_mul_right hnt (by omega));refine Z8t hnt plc bs hF hob hsep r (j+1) (updP pl (d+j*nt) (plc j)) (s.make (d+j*nt) (.lst ty k xs nl)) hr' (hG.make (d+j*nt) (.lst ty k xs nl) (plc j) hF (fun _ _ _ _ _=>rfl) h2 fun i _ hi=>⟨(h3 i hi).2,fun k' hk hl e=>?_⟩) (fun k' i hl hi=>?_) fun j' hj' hj''=>?_
  ·rcases hinv k' i hl e with h|⟨j',hj',hj2,he,_⟩
   ·have:=(h3 i hi).1;omega
   ·exact hsep j j' i hjl hj2 (by omega) hi he
  ·by_cases hk:k'=d+j*nt
   ·subst hk;simp only[updP,if_true] at hi;exact .inr ⟨j,by omega,hjl,hi,rfl⟩
   ·have hl':(oget s.own k').live=true:=by
     simp only[St.make,St.kill,Q09,Q8s,if_neg hk] at hl
     rwa [OB.live_kill] at hl
    simp only[updP,if_neg hk] at hi;rcases hinv k' i hl' hi with h|⟨j',hj',h5⟩
    ·exact .inl h
    ·exact .inr ⟨j',by omega,h5⟩
  ·by_cases e:j'=j
   ·subst e;simp[updP]
   ·simp only[updP,if_neg (hkey j' e)];exact hp j' (by omega) hj''
theorem X5d {f:Nat}{vc:VCode}{rs:List VResult}{nt:Nat}(h:Fun P f vc rs nt) (hm:P.follows .mixedOrders=true) {sp:CSp}{ap:Ap}
  (hb:∀ as0 c v bs,sp ap as0=some (c,v,bs)→c→∃ (C:Cx) (L:List (Nat×LoopAnn)) (as':List SV),SVs.pure as'=true∧(∀ σ vs,SRs P σ noPl noTb as0 vs→SRs P σ noPl noTb as' vs)∧COk P C∧gwp C L vc 0 (gend rs v bs) (gstart nt as')):XOk P f (callV ap sp):=by
 intro B F pl tb s env σ d args vals K R hG ha hx hK;unfold callV at hx;have hG0:Gam P B F pl tb ⟨s.env++args,s.own,s.nx⟩ (env++vals) σ:=⟨hG.bf,hG.le,hG.env.append ha,hG.obj,hG.fresh,hG.sep,hG.free⟩;obtain⟨B1,F1,pl1,tb1,gb1,hG1⟩:GRel P B F σ ((⟨s.env++args,s.own,s.nx⟩:St).frzs (lstNums args)) (env++vals) σ:=GRel.frzs _ ⟨B,F,pl,tb,.of hG.bf (.refl _),hG0⟩;generalize ((⟨s.env++args,s.own,s.nx⟩:St).frzs (lstNums args))=s1 at hx hG1;dsimp only at hx;have hlen:s.env.length=env.length:=hG.env.length;obtain⟨he1,he2⟩:=SRs.split hG1.env;rw[hlen] at hx;have hG2:Gam P B1 F1 pl1 tb1 ⟨s1.env.take env.length,s1.own,s1.nx⟩ env σ:=⟨hG1.bf,hG1.le,he1,hG1.obj,hG1.fresh,hG1.sep,hG1.free⟩;generalize s1.env.drop env.length=a1 at hx he2;generalize (⟨s1.env.take env.length,s1.own,s1.nx⟩:St)=s2 at hx hG2;cases hpa:SVs.pure a1 with
 |false=>rw[hpa] at hx;exact hx.elim
 |true =>
 rw[hpa] at hx;simp only[_root_.cond_true] at hx;split at hx
 ·rename_i c v bs hsp;cases hvr:(v.ret bs.length&&bs.all OB.isL) with
  |false=>rw[hvr] at hx;exact hx.elim
  |true =>
  rw[hvr] at hx;obtain⟨hc,hx⟩:=hx;simp only[Bool.and_eq_true] at hvr;obtain⟨hv,hbl⟩:=hvr;obtain⟨C,L,as',hp2,hd2,hcs',hg⟩:=hb _ c v bs hsp hc;have hargs:=hd2 B1 vals (Q10 _ _ hpa he2);have hst:GRel P B1 σ σ (gstart nt as') (vals++List.replicate (nt-vals.length) undef) σ:=by
   refine⟨B1,σ,noPl,noTb,⟨.refl _,.refl _,fun _ _ _ h=>h,.refl _⟩,hG2.leB,.refl _,?_,fun k=>?_,fun k i' h1 h2=>?_,fun k k' i' hne' h1 h2 h3 h4=>?_,fun _ _=>rfl⟩
   ·simp only[gstart];rw[hargs.length];exact SRs.append (Q10 _ _ hp2 hargs) (J0o _)
   ·simp only[gstart,oget];trivial
   ·simp only[gstart,oget] at h1;cases h1
   ·simp only[gstart,oget] at h1;cases h1
  refine h.calls hm okSem ?_;refine Z42 hcs' vc 0 _ _ _ σ none _ trivial hst hg fun e s' env' σ' h1 h2=>?_
  have main:(match gresults s' rs with
   |some r=>(match rmap v r [] with
    |some mp=>svEq mp v r∧gobsR s' mp 0 bs
    |none=>False)
   |none=>False)→obind (vresults env' σ' rs) fun v=>∃ v' σ'',DropTo σ v σ' v' σ''∧R v' σ'':=fun h=>by
   obtain⟨B',F',pl',tb',k1,k2⟩:=h2;split at h
   ·rename_i r hr;split at h
    ·rename_i mp hmp;obtain⟨g1,g2⟩:=h;obtain⟨u,h3,h4⟩:=Q4r k2 hr;have hsr:=Q6u v r u g1 h4;have hinj:=J54 v r [] mp hmp (fun t t' a h=>by cases h);have hob:∀ j b,bs[j]?=some b→obEq s' mp j b:=fun j b hj=>by have:=J0a bs 0 g2 j b hj;rwa [Nat.zero_add] at this
     rw[h3];have hle:σ.Le σ':=k1.f.trans k2.le;have hBσ:B'.Le σ':=k2.leB;have hpl:∀ j b,bs[j]?=some b→b.isL=true∧OR P B' (mapP pl' mp) noTb σ' (mapP pl' mp j) b∧∀ i,Oid (mapP pl' mp j) i→σ.n≤i∧(B'.over F1).get i=none:=fun j b hj=>by
      obtain⟨m1,m2⟩:=Q0i k2 (hob j b hj);have hl:=List.all_eq_true.1 hbl b (List.mem_of_getElem? hj);obtain⟨ty,k,xs,nl,rfl⟩:=OB.isL_lst hl;refine⟨hl,m1,fun i hi=>?_⟩;obtain⟨a,_,e2,e3⟩:=m2 rfl i hi;have hFn:=k2.fresh a i e2 e3;have hσn:σ.get i=none:=by
       cases hg:σ.get i with
       |none=>rfl
       |some b=>have h9:=k1.f.2 _ _ hg;rw[hFn] at h9;cases h9
      have hBn:B'.get i=none:=by
       cases hg:B'.get i with
       |none=>rfl
       |some b=>have h9:=k2.bf.2 _ _ hg;rw[hFn] at h9;cases h9
      have hF1n:F1.get i=none:=by
       cases hg:F1.get i with
       |none=>rfl
       |some b=>have h9:=hG2.le.2 _ _ hg;rw[hσn] at h9;cases h9
      refine⟨Nat.le_of_not_lt fun hlt=>?_,Heap.over_none hBn hF1n⟩;have hdead:=k1.d.2 i hlt hσn;rcases m1 with⟨_,_,h2⟩|⟨_,i',cap,c,t,h2,_,h3,_⟩
      ·rw[h2] at hi;cases hi
      ·rw[h2] at hi;obtain rfl:=osj hi;rw[h3] at hdead;cases hdead
     have hsep:∀ j j' i,j<bs.length→j'<bs.length→j≠j'→Oid (mapP pl' mp j) i→Oid (mapP pl' mp j') i→False:=fun j j' i hj hj' hne hi hi'=>by
      have hb1:=List.getElem?_eq_getElem hj;have hb2:=List.getElem?_eq_getElem hj';have r1:=List.all_eq_true.1 hbl _ (List.getElem_mem hj);have r2:=List.all_eq_true.1 hbl _ (List.getElem_mem hj');have l1:(bs[j]).live=true:=by cases hbb:bs[j]<;>first|rfl|(rw[hbb] at r1;cases r1)
      have l2:(bs[j']).live=true:=by cases hbb:bs[j']<;>first|rfl|(rw[hbb] at r2;cases r2)
      obtain⟨a,e1,e2,e3⟩:=(Q0i k2 (hob j _ hb1)).2 l1 i hi;obtain⟨a',e1',e2',e3'⟩:=(Q0i k2 (hob j' _ hb2)).2 l2 i hi';by_cases e:a=a'
      ·subst e;exact hne (hinj j j' a e1 e1')
      ·exact k2.sep a a' i e e2 e2' e3 e3'
     have hFσ:F1.Le σ':=hG2.le.trans hle;have hoth:∀ d,(oget s2.own d).live=true→∀ i,Oid (pl1 d) i→B'.get i=none∧σ'.get i=σ.get i:=fun d hl i hi=>by
      refine⟨?_,hG2.heap_get hle hl hi⟩;have hlt:=(hG2.obj d).id_lt hl hi;cases hg:σ.get i with
      |none =>
       have hn:=k1.d.2 i hlt hg;cases hb':B'.get i with
       |none=>rfl
       |some bb=>have:=hBσ.2 _ _ hb';rw[hn] at this;cases this
      |some bb =>
       refine k1.x i bb hg ?_;cases hb':B1.get i with
       |none=>rfl
       |some b2=>have:=hG2.bf.2 _ _ hb';rw[hG2.fresh d i hl hi] at this;cases this
     have hG3:Gam P B' (B'.over F1) pl1 tb1 s2 env σ':=⟨Heap.over_left,Heap.over_le hBσ hFσ,SRs.mono k1.b (fun _ _ h=>h) _ _ hG2.env,fun d=>(hG2.obj d).mono k1.b (fun _ _ h=>h) fun hl i hi=>(hoth d hl i hi).2,fun d i q1 q2=>Heap.over_none (hoth d q1 i q2).1 (hG2.fresh d i q1 q2),hG2.sep,hG2.free⟩;obtain⟨plF,h5,h6⟩:=Z8t (d:=d) (nt:=500000) (σ0:=σ) (tbc:=noTb) (by omega) (mapP pl' mp) bs (Heap.over_le hBσ hFσ) hpl hsep bs 0 pl1 s2 rfl hG3 (fun k i hl hi=>.inl ((hG2.obj k).id_lt hl hi)) (fun j' hj'=>by omega);refine⟨u,σ',.refl _ _ _,hK _ _ B' (B'.over F1) plF tb1 u σ' hx (gb1.trans (.over k1.b hBσ hFσ (fun i b e1 e2=>k1.x i b (hG2.le.2 _ _ e1) e2) k1.d)) h5 ?_⟩;exact SR.ren (tb:=noTb) (fun j hj=>h6 j hj) _ _ hv hsr
    ·exact h.elim
   ·exact h.elim
  cases e with
  |normal=>exact main h1
  |ret=>exact main h1
  |_=>exact h1.elim
 ·exact hx.elim
theorem J59 {f:Nat}{vc:VCode}{rs:List VResult}{nt:Nat}(h:Fun P f vc rs nt) (hm:P.follows .mixedOrders=true) {ap:Ap}(hap:ApOk P ap) {D:Type}{la:AL D}{pre:D→Prop}{res:D→SV}{obs:D→List OB}
  {C:Cx}(hcs:COk P C) {L:D→List (Nat×LoopAnn)}{V:D→Prop}
  (hq:∀ y,gwp C (L y) vc 0 (gend rs (res y) (obs y)) (gstart nt (AL.can la y))=V y)
  (hb:∀ y,pre y→V y):XOk P f (callV ap (mkSp la pre res obs)):=X5d h hm fun as0 c v bs hs hc=>by
 unfold mkSp at hs;split at hs
 ·rename_i y h2;obtain⟨rfl,rfl,rfl⟩:=(by simpa using hs:pre y=c∧res y=v∧obs y=bs);exact⟨C,L y,AL.can la y,AL.can_pure la y,fun σ vs hv=>AL.dec_sound hap la h2 hv,hcs,(hq y).mpr (hb y hc)⟩
 ·cases hs
end
end Go.V
set_option linter.unusedVariables false
namespace Go.Proofs.Tryz
open Go Go.V Go.Proofs
def deadX:XSp:=fun _ _ _ _=>False
theorem Z1x {P:Program}{f:Nat}:XOk P f deadX:=fun _ _ _ _ _ _ _ _ _ _ _ _ _ _ hx _=>hx.elim
def len8T:List UInt8:=[0,1,2,2,3,3,3,3,4,4,4,4,4,4,4,4,5,5,5,5,5,5,5,5,5,5,5,5,5,5,5,5,6,6,6,6,6,6,6,6,6,6,6,6,6,6,6,6,6,6,6,6,6,6,6,6,6,6,6,6,6,6,6,6,7,7,7,7,7,7,7,7,7,7,7,7,7,7,7,7,7,7,7,7,7,7,7,7,7,7,7,7,7,7,7,7,7,7,7,7,7,7,7,7,7,7,7,7,7,7,7,7,7,7,7,7,7,7,7,7,7,7,7,7,7,7,7,7,8,8,8,8,8,8,8,8,8,8,8,8,8,8,8,8,8,8,8,8,8,8,8,8,8,8,8,8,8,8,8,8,8,8,8,8,8,8,8,8,8,8,8,8,8,8,8,8,8,8,8,8,8,8,8,8,8,8,8,8,8,8,8,8,8,8,8,8,8,8,8,8,8,8,8,8,8,8,8,8,8,8,8,8,8,8,8,8,8,8,8,8,8,8,8,8,8,8,8,8,8,8,8,8,8,8,8,8,8,8,8,8,8,8,8,8,8,8,8,8,8,8,8,8,8,8,8,8]
def lenB (x:Int):Int:=((UInt8.toNat (List.getD len8T (Int.toNat x) 0):Nat):Int)
def cmpII (p:Int×Int):Int:=cmpI p.1 p.2
def bubL {α:Type}[Inhabited α] (lt:α→α→Bool) (a:Nat):Nat→List α→List α
 |0,xs=>xs
 |j+1,xs=>if a<j+1∧lt (xs.getD (j+1) default) (xs.getD j default)=true then bubL lt a j ((xs.set (j+1) (xs.getD j default)).set j (xs.getD (j+1) default)) else xs
def insG {α:Type}[Inhabited α] (lt:α→α→Bool) (a:Nat):Nat→List α→List α
 |0,xs=>xs
 |n+1,xs=>bubL lt a (a+1+n) (insG lt a n xs)
def insC {α:Type}[Inhabited α] (f:α×α→Int) (xs:List α) (a b:Nat):List α:=insG (fun x y=>decide (f (x,y)<0)) a (b-a-1) xs
section
variable {α:Type}[Inhabited α] {lt:α→α→Bool}
theorem J7a {xs:List α}{j:Nat}(h:j+1<xs.length):((xs.set (j+1) (xs.getD j default)).set j (xs.getD (j+1) default)).Perm xs:=by rw[Q03 (show j<xs.length by omega),Q03 h];exact List.set_set_perm h (by omega)
theorem J7y {a:Nat}:∀ j {xs:List α},j<xs.length→(bubL lt a j xs).Perm xs
 |0,_,_=>.refl _
 |j+1,xs,h=>by
  unfold bubL;split
  ·exact(J7y j (by simp;omega)).trans (J7a h)
  ·exact .refl _
theorem Z1j {a:Nat}{xs:List α}:∀ n,a+n<xs.length∨n=0→(insG lt a n xs).Perm xs
 |0,_=>.refl _
 |n+1,h=>by have ih:=Z1j (a:=a) (xs:=xs) n (by omega);unfold insG;exact(J7y _ (by rw[ih.length_eq];omega)).trans ih
theorem Q3g {f:α×α→Int}{xs:List α}{a b:Nat}(h:b≤xs.length):(insC f xs a b).Perm xs:=Z1j _ (by omega)
theorem X35 {a j:Nat}{xs:List α}(hj:a<j) (h:lt (xs.getD j default) (xs.getD (j-1) default)=true):bubL lt a j xs=bubL lt a (j-1) ((xs.set j (xs.getD (j-1) default)).set (j-1) (xs.getD j default)):=by obtain⟨k,rfl⟩:∃ k,j=k+1:=⟨j-1,by omega⟩;rw[Nat.add_sub_cancel] at h ⊢;rw[bubL,if_pos ⟨hj,h⟩]
theorem X4d {a j:Nat}{xs:List α}(h:¬ (a<j∧lt (xs.getD j default) (xs.getD (j-1) default)=true)):bubL lt a j xs=xs:=by
 cases j with
 |zero=>rfl
 |succ k=>rw[Nat.add_sub_cancel] at h;rw[bubL,if_neg h]
theorem X07 {xs:List α}{j q:Nat}(h:j+1<xs.length):((xs.set (j+1) (xs.getD j default)).set j (xs.getD (j+1) default)).getD q default=if q=j then xs.getD (j+1) default else if q=j+1 then xs.getD j default else xs.getD q default:=by
 simp only[List.getD_eq_getElem?_getD,List.getElem?_set,List.length_set];by_cases h1:j=q
 ·subst h1;rw[if_pos rfl,if_pos (by omega),if_pos rfl];rfl
 ·rw[if_neg h1,if_neg (show ¬ q=j from fun e=>h1 e.symm)];by_cases h2:j+1=q
  ·subst h2;rw[if_pos rfl,if_pos h,if_pos rfl];rfl
  ·rw[if_neg h2,if_neg (show ¬ q=j+1 from fun e=>h2 e.symm)]
def SortTo (lt:α→α→Bool) (i:Nat) (xs:List α):Prop:=∀ p q,p<q→q≤i→lt (xs.getD q default) (xs.getD p default)=false
theorem J6n (has:∀ x y,lt x y=true→lt y x=false) (htr:∀ x y z,lt y x=false→lt z y=false→lt z x=false) {i:Nat}:∀ j {xs:List α},j≤i→i<xs.length→(∀ p q,p<q→q≤i→q≠j→lt (xs.getD q default) (xs.getD p default)=false)→SortTo lt i (bubL lt 0 j xs)
 |0,xs,_,_,h=>fun p q h1 h2=>by rw[bubL];exact h p q h1 h2 (by omega)
 |j+1,xs,hj,hi,h=>by
  rw[bubL];split
  ·rename_i hc;refine J6n has htr j (by omega) (by simp;exact hi) fun p q h1 h2 h3=>?_;rw[X07 (by omega),X07 (by omega),if_neg h3];by_cases hq:q=j+1
   ·rw[if_pos hq];by_cases hp:p=j
    ·rw[if_pos hp];exact has _ _ hc.2
    ·rw[if_neg hp,if_neg (by omega)];exact h p j (by omega) (by omega) (by omega)
   ·rw[if_neg hq];by_cases hp:p=j
    ·rw[if_pos hp];exact h (j+1) q (by omega) h2 (by omega)
    ·rw[if_neg hp];by_cases hp2:p=j+1
     ·rw[if_pos hp2];exact h j q (by omega) h2 (by omega)
     ·rw[if_neg hp2];exact h p q h1 h2 (by omega)
  ·rename_i hc;have hc:lt (xs.getD (j+1) default) (xs.getD j default)=false:=by
    cases h5:lt (xs.getD (j+1) default) (xs.getD j default) with
    |false=>rfl
    |true=>exact(hc ⟨by omega,h5⟩).elim
   intro p q h1 h2;by_cases hq:q=j+1
   ·subst hq;by_cases hp:p=j
    ·subst hp;exact hc
    ·exact htr _ _ _ (h p j (by omega) (by omega) (by omega)) hc
   ·exact h p q h1 h2 hq
theorem J78 (has:∀ x y,lt x y=true→lt y x=false) (htr:∀ x y z,lt y x=false→lt z y=false→lt z x=false) {xs:List α}:∀ n,n<xs.length→SortTo lt n (insG lt 0 n xs)
 |0,_=>fun p q h1 h2=>by omega
 |n+1,h=>by have ih:=J78 has htr (xs:=xs) n (by omega);have hp:=Z1j (lt:=lt) (a:=0) (xs:=xs) n (by omega);unfold insG;rw[show 0+1+n=n+1 by omega];exact J6n has htr (n+1) (Nat.le_refl _) (by rw[hp.length_eq];omega) fun p q h1 h2 h3=>ih p q h1 (by omega)
theorem J1w {f:α×α→Int}(has:∀ x y,f (x,y)<0→¬ f (y,x)<0) (htr:∀ x y z,¬ f (y,x)<0→¬ f (z,y)<0→¬ f (z,x)<0) (xs:List α):(insC f xs 0 xs.length).Pairwise fun x y=>¬ f (y,x)<0:=by
 cases hx:xs with
 |nil=>exact List.Pairwise.nil
 |cons x0 t =>
  have hlen:0<xs.length:=by rw[hx];simp
  rw[←hx];have h:=J78 (lt:=fun x y=>decide (f (x,y)<0)) (fun x y h=>by simpa using has x y (by simpa using h)) (fun x y z h1 h2=>by simpa using htr x y z (by simpa using h1) (by simpa using h2)) (xs:=xs) (xs.length-0-1) (by omega);have hl:=(Q3g (f:=f) (a:=0) (Nat.le_refl xs.length)).length_eq;refine List.pairwise_iff_getElem.2 fun p q hp hq hpq=>?_;have:=h p q hpq (by omega);have hq':(insG (fun x y=>decide (f (x,y)<0)) 0 (xs.length-0-1) xs).getD q default=(insC f xs 0 xs.length)[q]:=Q03 hq;have hp':(insG (fun x y=>decide (f (x,y)<0)) 0 (xs.length-0-1) xs).getD p default=(insC f xs 0 xs.length)[p]:=Q03 hp;rw[hq',hp'] at this;simpa using this
end
theorem Z6z {x y:Int}:cmpII (x,y)<0↔x<y:=by unfold cmpII cmpI;dsimp only;split<;>(try split)<;>omega
theorem sortI (xs:List Int):(insC cmpII xs 0 xs.length).Pairwise (·≤·) :=
 (J1w (f:=cmpII) (fun x y h h2=>by rw[Z6z] at h h2;omega) (fun x y z h1 h2 h3=>by rw[Z6z] at h1 h2 h3;omega) xs).imp fun h=>by rw[Z6z] at h;omega
theorem sortS {xs:List Int}(h:xs.Nodup):(insC cmpII xs 0 xs.length).Pairwise (·<·):=by
 have h2:=(Q3g (f:=cmpII) (a:=0) (Nat.le_refl xs.length)).nodup_iff.2 h;exact((sortI xs).and h2).imp fun h=>by have:=h.1;have:=h.2;omega
def cmpP (l:List Lot) (p:Int×Int):Int:=orI [cmpI (l.getD p.1.toNat lotD).1 (l.getD p.2.toNat lotD).1,cmpI (l.getD p.1.toNat lotD).2.1.1 (l.getD p.2.toNat lotD).2.1.1]
theorem J90 {a j:Nat}{α:Type}[Inhabited α] {f:α×α→Int}{ys T:List α}(e:bubL (fun x y=>decide (f (x,y)<0)) a j ys=T) (h:¬ (a<j∧f (ys.getD j default,ys.getD (j-1) default)<0)):ys=T:=by rw[←e,X4d];intro hh;exact h ⟨hh.1,by simpa using hh.2⟩
theorem J60 {a j:Nat}{α:Type}[Inhabited α] {f:α×α→Int}{ys T:List α}(e:bubL (fun x y=>decide (f (x,y)<0)) a j ys=T) (hj:a<j) (h:f (ys.getD j default,ys.getD (j-1) default)<0):bubL (fun x y=>decide (f (x,y)<0)) a (j-1) ((ys.set j (ys.getD (j-1) default)).set (j-1) (ys.getD j default))=T:=by rw[←e,X35 hj (by simpa using h)]
theorem Z85 {α:Type}[Inhabited α] {xs:List α}{j:Nat}(h0:0<j) (h:j<xs.length):((xs.set j (xs.getD (j-1) default)).set (j-1) (xs.getD j default)).Perm xs:=by obtain⟨k,rfl⟩:∃ k,j=k+1:=⟨j-1,by omega⟩;exact J7a h
end Go.Proofs.Tryz
set_option linter.unusedVariables false
namespace Go.Proofs.Tryz
open Go Go.V Go.Proofs
def Q64:AL (Int×Int×(List (Int×(Int×Int)×Int))×Int):=(.cons (.k (.i .i64)) (.cons (.k (.i .i64)) (.one (.ptr (.cons (.k (.list (.pair (.i .i64) (.pair (.pair (.i .i64) (.i .i64)) (.i .i64))))) (.one (.k (.i .i64))))))))
def Z1a (d:Int×Int×(List (Int×(Int×Int)×Int))×Int):Prop:=d.2.2.1.length≤12∧(∀ y∈d.2.2.1,lotOk y=true)∧0≤d.1∧d.1<d.2.2.1.length∧0≤d.2.1∧d.2.1<d.2.2.1.length
def Q5i (d:Int×Int×(List (Int×(Int×Int)×Int))×Int):SV:=.val (.i .i64) (cmpP d.2.2.1 (d.1,d.2.1))
def Q5d (d:Int×Int×(List (Int×(Int×Int)×Int))×Int):List OB:=[]
def Q20:CSp:=mkSp Q64 Z1a Q5i Q5d
def Q1m (a:Int) (b:Int) (l:List (Int×(Int×Int)×Int)) (tl:Int):Prop :=
 (0≤a)∧(a<(List.length l))∧(0≤b)∧(b<(List.length l))∧(True)∧(0≤a)∧(a<(List.length l))∧(0≤b)∧(b<(List.length l))∧(True)∧([(cmpI ((gD l a (0,((0,0),0))).1) ((gD l b (0,((0,0),0))).1)),(cmpI ((gD l a (0,((0,0),0))).2.1.1) ((gD l b (0,((0,0),0))).2.1.1))].length≤1000)∧((orI [(cmpI ((gD l a (0,((0,0),0))).1) ((gD l b (0,((0,0),0))).1)),(cmpI ((gD l a (0,((0,0),0))).2.1.1) ((gD l b (0,((0,0),0))).2.1.1))])=(cmpP l (a,b))∧(True))
def Q69:Cx:=⟨[(3,(.i .i64))],[(81,Q4b),(80,Z43)],36,[],0,[],[],[],[],false,[],[],[],[]⟩
def Z1n (a:Int) (b:Int) (l:List (Int×(Int×Int)×Int)) (tl:Int):List (Nat×LoopAnn):=[]
set_option maxRecDepth 100000 in
theorem Z1v (d:Int×Int×(List (Int×(Int×Int)×Int))×Int):gwp (Q69) (Z1n d.1 d.2.1 d.2.2.1 d.2.2.2) c95 0 (gend [.tmp 5] (Q5i d) (Q5d d)) (gstart 36 (AL.can Q64 d))=Q1m d.1 d.2.1 d.2.2.1 d.2.2.2:=by kernel_rfl
abbrev Z1q:Prop:=OkC Tryz.prog 95 Q20
theorem Z1y (h:∀ (a:Int) (b:Int) (l:List (Int×(Int×Int)×Int)) (tl:Int),(l.length≤12∧(∀ y∈l,lotOk y=true)∧0≤a∧a<l.length∧0≤b∧b<l.length)→Q1m a b l tl):OkC Tryz.prog 95 Q20 :=
 Q1b fun95 mixed (C:=Q69) (V:=fun (d:Int×Int×(List (Int×(Int×Int)×Int))×Int)=>Q1m d.1 d.2.1 d.2.2.1 d.2.2.2) ⟨(.cons Z0e (.cons J63 .nil)),XsOk.nil,ItsOk.nil,YlOk.nil,IysOk.nil,XfOk.nil⟩ (Z1v) fun d hp=>h d.1 d.2.1 d.2.2.1 d.2.2.2 hp
theorem Q67:Z1q:=Z1y fun a b l tl h=>by obtain⟨h1,h2,h3,h4,h5,h6⟩:=h;unfold Q1m;(try delta lI gD sT I64);simp only[List.length_cons,List.length_nil];and_intros<;>first|omega|trivial|rfl
def Z0h:AL (Int):=(.one (.k (.i .u32)))
def Z5n (d:Int):Prop:=False
def Q9q (d:Int):SV:=.val (.i .i64) (lenB d)
def Q8x (d:Int):List OB:=[]
def Q6z:CSp:=mkSp Z0h Z5n Q9q Q8x
def Q63 (x:Int):Prop :=
 ((decide (x≥(65536:Int)))=true →
  (0≤(16:Int))∧((decide ((shrI .u32 x (16:Int))≥(256:Int)))=true →
   (0≤(8:Int))∧(I64 ((16:Int)+(8:Int)))∧(InK .u8 (shrI .u32 (shrI .u32 x (16:Int)) (8:Int)))∧(0≤(shrI .u32 (shrI .u32 x (16:Int)) (8:Int)))∧((shrI .u32 (shrI .u32 x (16:Int)) (8:Int))<(List.length len8T))∧(I64 ((UInt8.toNat (gD len8T (shrI .u32 (shrI .u32 x (16:Int)) (8:Int)) 0):Nat):Int))∧(I64 (((16:Int)+(8:Int))+((UInt8.toNat (gD len8T (shrI .u32 (shrI .u32 x (16:Int)) (8:Int)) 0):Nat):Int)))∧((((16:Int)+(8:Int))+((UInt8.toNat (gD len8T (shrI .u32 (shrI .u32 x (16:Int)) (8:Int)) 0):Nat):Int))=(lenB x)∧(True))) ∧
  ((decide ((shrI .u32 x (16:Int))≥(256:Int)))=false →
   (InK .u8 (shrI .u32 x (16:Int)))∧(0≤(shrI .u32 x (16:Int)))∧((shrI .u32 x (16:Int))<(List.length len8T))∧(I64 ((UInt8.toNat (gD len8T (shrI .u32 x (16:Int)) 0):Nat):Int))∧(I64 ((16:Int)+((UInt8.toNat (gD len8T (shrI .u32 x (16:Int)) 0):Nat):Int)))∧(((16:Int)+((UInt8.toNat (gD len8T (shrI .u32 x (16:Int)) 0):Nat):Int))=(lenB x)∧(True)))) ∧
 ((decide (x≥(65536:Int)))=false →
  ((decide (x≥(256:Int)))=true →
   (0≤(8:Int))∧(I64 ((0:Int)+(8:Int)))∧(InK .u8 (shrI .u32 x (8:Int)))∧(0≤(shrI .u32 x (8:Int)))∧((shrI .u32 x (8:Int))<(List.length len8T))∧(I64 ((UInt8.toNat (gD len8T (shrI .u32 x (8:Int)) 0):Nat):Int))∧(I64 (((0:Int)+(8:Int))+((UInt8.toNat (gD len8T (shrI .u32 x (8:Int)) 0):Nat):Int)))∧((((0:Int)+(8:Int))+((UInt8.toNat (gD len8T (shrI .u32 x (8:Int)) 0):Nat):Int))=(lenB x)∧(True))) ∧
  ((decide (x≥(256:Int)))=false →
   (InK .u8 x)∧(0≤x)∧(x<(List.length len8T))∧(I64 ((UInt8.toNat (gD len8T x 0):Nat):Int))∧(I64 ((0:Int)+((UInt8.toNat (gD len8T x 0):Nat):Int)))∧(((0:Int)+((UInt8.toNat (gD len8T x 0):Nat):Int))=(lenB x)∧(True))))
def Z0d:Cx:=⟨[],[],19,[],0,[],[],[],[],false,[],[],[],[]⟩
def Z7p (x:Int):List (Nat×LoopAnn):=[]
set_option maxRecDepth 100000 in
theorem Z71 (d:Int):gwp (Z0d) (Z7p d) c120 0 (gend [.tmp 2] (Q9q d) (Q8x d)) (gstart 19 (AL.can Z0h d))=Q63 d:=by kernel_rfl
abbrev Z6k:Prop:=OkC Tryz.prog 120 Q6z
theorem Z6q (h:∀ (x:Int),(False)→Q63 x):OkC Tryz.prog 120 Q6z :=
 Q1b fun120 mixed (C:=Z0d) (V:=fun (d:Int)=>Q63 d) ⟨.nil,XsOk.nil,ItsOk.nil,YlOk.nil,IysOk.nil,XfOk.nil⟩ (Z71) fun d hp=>h d hp
theorem Z7s:Z6k:=Z6q fun x h=>h.elim
def Z04:AL (Int):=(.one (.k (.i .u64)))
def Z5z (d:Int):Prop:=0≤d∧d≤255
def Q9a (d:Int):SV:=.val (.i .i64) (lenB d)
def Q9f (d:Int):List OB:=[]
def Q71:CSp:=mkSp Z04 Z5z Q9a Q9f
def Q3q (x:Int):Prop :=
 ((decide (x≥(4294967296:Int)))=true →
  (0≤(32:Int))∧((decide ((shrI .u64 x (32:Int))≥(65536:Int)))=true →
   (0≤(16:Int))∧(I64 ((32:Int)+(16:Int)))∧((decide ((shrI .u64 (shrI .u64 x (32:Int)) (16:Int))≥(256:Int)))=true →
    (0≤(8:Int))∧(I64 (((32:Int)+(16:Int))+(8:Int)))∧(InK .u8 (shrI .u64 (shrI .u64 (shrI .u64 x (32:Int)) (16:Int)) (8:Int)))∧(0≤(shrI .u64 (shrI .u64 (shrI .u64 x (32:Int)) (16:Int)) (8:Int)))∧((shrI .u64 (shrI .u64 (shrI .u64 x (32:Int)) (16:Int)) (8:Int))<(List.length len8T))∧(I64 ((UInt8.toNat (gD len8T (shrI .u64 (shrI .u64 (shrI .u64 x (32:Int)) (16:Int)) (8:Int)) 0):Nat):Int))∧(I64 ((((32:Int)+(16:Int))+(8:Int))+((UInt8.toNat (gD len8T (shrI .u64 (shrI .u64 (shrI .u64 x (32:Int)) (16:Int)) (8:Int)) 0):Nat):Int)))∧(((((32:Int)+(16:Int))+(8:Int))+((UInt8.toNat (gD len8T (shrI .u64 (shrI .u64 (shrI .u64 x (32:Int)) (16:Int)) (8:Int)) 0):Nat):Int))=(lenB x)∧(True))) ∧
   ((decide ((shrI .u64 (shrI .u64 x (32:Int)) (16:Int))≥(256:Int)))=false →
    (InK .u8 (shrI .u64 (shrI .u64 x (32:Int)) (16:Int)))∧(0≤(shrI .u64 (shrI .u64 x (32:Int)) (16:Int)))∧((shrI .u64 (shrI .u64 x (32:Int)) (16:Int))<(List.length len8T))∧(I64 ((UInt8.toNat (gD len8T (shrI .u64 (shrI .u64 x (32:Int)) (16:Int)) 0):Nat):Int))∧(I64 (((32:Int)+(16:Int))+((UInt8.toNat (gD len8T (shrI .u64 (shrI .u64 x (32:Int)) (16:Int)) 0):Nat):Int)))∧((((32:Int)+(16:Int))+((UInt8.toNat (gD len8T (shrI .u64 (shrI .u64 x (32:Int)) (16:Int)) 0):Nat):Int))=(lenB x)∧(True)))) ∧
  ((decide ((shrI .u64 x (32:Int))≥(65536:Int)))=false →
   ((decide ((shrI .u64 x (32:Int))≥(256:Int)))=true →
    (0≤(8:Int))∧(I64 ((32:Int)+(8:Int)))∧(InK .u8 (shrI .u64 (shrI .u64 x (32:Int)) (8:Int)))∧(0≤(shrI .u64 (shrI .u64 x (32:Int)) (8:Int)))∧((shrI .u64 (shrI .u64 x (32:Int)) (8:Int))<(List.length len8T))∧(I64 ((UInt8.toNat (gD len8T (shrI .u64 (shrI .u64 x (32:Int)) (8:Int)) 0):Nat):Int))∧(I64 (((32:Int)+(8:Int))+((UInt8.toNat (gD len8T (shrI .u64 (shrI .u64 x (32:Int)) (8:Int)) 0):Nat):Int)))∧((((32:Int)+(8:Int))+((UInt8.toNat (gD len8T (shrI .u64 (shrI .u64 x (32:Int)) (8:Int)) 0):Nat):Int))=(lenB x)∧(True))) ∧
   ((decide ((shrI .u64 x (32:Int))≥(256:Int)))=false →
    (InK .u8 (shrI .u64 x (32:Int)))∧(0≤(shrI .u64 x (32:Int)))∧((shrI .u64 x (32:Int))<(List.length len8T))∧(I64 ((UInt8.toNat (gD len8T (shrI .u64 x (32:Int)) 0):Nat):Int))∧(I64 ((32:Int)+((UInt8.toNat (gD len8T (shrI .u64 x (32:Int)) 0):Nat):Int)))∧(((32:Int)+((UInt8.toNat (gD len8T (shrI .u64 x (32:Int)) 0):Nat):Int))=(lenB x)∧(True))))) ∧
 ((decide (x≥(4294967296:Int)))=false →
  ((decide (x≥(65536:Int)))=true →
   (0≤(16:Int))∧(I64 ((0:Int)+(16:Int)))∧((decide ((shrI .u64 x (16:Int))≥(256:Int)))=true →
    (0≤(8:Int))∧(I64 (((0:Int)+(16:Int))+(8:Int)))∧(InK .u8 (shrI .u64 (shrI .u64 x (16:Int)) (8:Int)))∧(0≤(shrI .u64 (shrI .u64 x (16:Int)) (8:Int)))∧((shrI .u64 (shrI .u64 x (16:Int)) (8:Int))<(List.length len8T))∧(I64 ((UInt8.toNat (gD len8T (shrI .u64 (shrI .u64 x (16:Int)) (8:Int)) 0):Nat):Int))∧(I64 ((((0:Int)+(16:Int))+(8:Int))+((UInt8.toNat (gD len8T (shrI .u64 (shrI .u64 x (16:Int)) (8:Int)) 0):Nat):Int)))∧(((((0:Int)+(16:Int))+(8:Int))+((UInt8.toNat (gD len8T (shrI .u64 (shrI .u64 x (16:Int)) (8:Int)) 0):Nat):Int))=(lenB x)∧(True))) ∧
   ((decide ((shrI .u64 x (16:Int))≥(256:Int)))=false →
    (InK .u8 (shrI .u64 x (16:Int)))∧(0≤(shrI .u64 x (16:Int)))∧((shrI .u64 x (16:Int))<(List.length len8T))∧(I64 ((UInt8.toNat (gD len8T (shrI .u64 x (16:Int)) 0):Nat):Int))∧(I64 (((0:Int)+(16:Int))+((UInt8.toNat (gD len8T (shrI .u64 x (16:Int)) 0):Nat):Int)))∧((((0:Int)+(16:Int))+((UInt8.toNat (gD len8T (shrI .u64 x (16:Int)) 0):Nat):Int))=(lenB x)∧(True)))) ∧
  ((decide (x≥(65536:Int)))=false →
   ((decide (x≥(256:Int)))=true →
    (0≤(8:Int))∧(I64 ((0:Int)+(8:Int)))∧(InK .u8 (shrI .u64 x (8:Int)))∧(0≤(shrI .u64 x (8:Int)))∧((shrI .u64 x (8:Int))<(List.length len8T))∧(I64 ((UInt8.toNat (gD len8T (shrI .u64 x (8:Int)) 0):Nat):Int))∧(I64 (((0:Int)+(8:Int))+((UInt8.toNat (gD len8T (shrI .u64 x (8:Int)) 0):Nat):Int)))∧((((0:Int)+(8:Int))+((UInt8.toNat (gD len8T (shrI .u64 x (8:Int)) 0):Nat):Int))=(lenB x)∧(True))) ∧
   ((decide (x≥(256:Int)))=false →
    (InK .u8 x)∧(0≤x)∧(x<(List.length len8T))∧(I64 ((UInt8.toNat (gD len8T x 0):Nat):Int))∧(I64 ((0:Int)+((UInt8.toNat (gD len8T x 0):Nat):Int)))∧(((0:Int)+((UInt8.toNat (gD len8T x 0):Nat):Int))=(lenB x)∧(True)))))
def Z0c:Cx:=⟨[],[],25,[],0,[],[],[],[],false,[],[],[],[]⟩
def Z6m (x:Int):List (Nat×LoopAnn):=[]
set_option maxRecDepth 100000 in
theorem Z7f (d:Int):gwp (Z0c) (Z6m d) c121 0 (gend [.tmp 2] (Q9a d) (Q9f d)) (gstart 25 (AL.can Z04 d))=Q3q d:=by kernel_rfl
abbrev Z6y:Prop:=OkC Tryz.prog 121 Q71
theorem Z7q (h:∀ (x:Int),(0≤x∧x≤255)→Q3q x):OkC Tryz.prog 121 Q71 :=
 Q1b fun121 mixed (C:=Z0c) (V:=fun (d:Int)=>Q3q d) ⟨.nil,XsOk.nil,ItsOk.nil,YlOk.nil,IysOk.nil,XfOk.nil⟩ (Z7f) fun d hp=>h d hp
theorem Z6o:Z6y:=Z7q fun x h=>by
 obtain⟨h1,h2⟩:=h;unfold Q3q;(try delta lI gD sT I64);have hlt:(UInt8.toNat (List.getD len8T (Int.toNat x) 0):Int)≤255:=by have:=(List.getD len8T (Int.toNat x) 0).toNat_lt;omega
 refine⟨fun c=>by simp at c;omega,fun _=>⟨fun c=>by simp at c;omega,fun _=>⟨fun c=>by simp at c;omega,fun _=>?_⟩⟩⟩;have hl:len8T.length=256:=by decide +kernel
 rw[hl];simp only[J17,Q1a];refine⟨by omega,h1,by omega,by omega,by omega,?_⟩;unfold lenB;rw[Int.zero_add];exact(by and_intros<;>first|rfl|trivial|simp)
def Z2a:AL (Int):=(.one (.k (.i .u64)))
def Z7z (d:Int):Prop:=0≤d∧d≤255
def Z14 (d:Int):SV:=.val (.i .i64) (lenB d)
def Z1d (d:Int):List OB:=[]
def Q60:CSp:=mkSp Z2a Z7z Z14 Z1d
def Q4x (x:Int):Prop :=
 (false=true →
  (InK .u32 x)∧(False)∧((lenB x)=(lenB x)∧(True))) ∧
 (false=false →
  (0≤x∧x≤255)∧((lenB x)=(lenB x)∧(True)))
def Z2s:Cx:=⟨[],[(120,Q6z),(121,Q71)],8,[],0,[],[],[],[],false,[],[],[],[]⟩
def Z97 (x:Int):List (Nat×LoopAnn):=[]
set_option maxRecDepth 100000 in
theorem Z9m (d:Int):gwp (Z2s) (Z97 d) c107 0 (gend [.tmp 2] (Z14 d) (Z1d d)) (gstart 8 (AL.can Z2a d))=Q4x d:=by kernel_rfl
abbrev Z95:Prop:=OkC Tryz.prog 107 Q60
theorem Z9t (h:∀ (x:Int),(0≤x∧x≤255)→Q4x x):OkC Tryz.prog 107 Q60 :=
 Q1b fun107 mixed (C:=Z2s) (V:=fun (d:Int)=>Q4x d) ⟨(.cons Z7s (.cons Z6o .nil)),XsOk.nil,ItsOk.nil,YlOk.nil,IysOk.nil,XfOk.nil⟩ (Z9m) fun d hp=>h d hp
theorem Z2r:Z95:=Z9t fun x h=>by unfold Q4x;(try delta lI gD sT I64);exact⟨(fun c=>by cases c),fun _=>⟨h,(by and_intros<;>first|rfl|trivial|simp)⟩⟩
def Q24:AL (Int×Int×((Int×Int→Prop)×(Int×Int→Int))):=(.cons (.k (.i .i64)) (.cons (.k (.i .i64)) (.one (.fn [(.i .i64),(.i .i64)] (.i .i64)))))
def Q55 (xs:List Int) (nl:Bool) (d:Int×Int×((Int×Int→Prop)×(Int×Int→Int))):Prop:=0≤d.1∧d.1≤d.2.1∧d.2.1≤xs.length∧xs.length≤12∧(∀ x∈xs,∀ y∈xs,d.2.2.1 (x,y))
def Q1w (xs:List Int) (nl:Bool) (d:Int×Int×((Int×Int→Prop)×(Int×Int→Int))):SV:=.tup []
def Q1r (xs:List Int) (nl:Bool) (d:Int×Int×((Int×Int→Prop)×(Int×Int→Int))):List Int:=(insC d.2.2.2 xs d.1.toNat d.2.1.toNat)
def Q0y:XSp:=lentX (gap [] 3) (lentL 3 (.i .i64) Q24 Q55 Q1w Q1r)
def Q0g (xs:List Int) (nl:Bool) (a:Int) (b:Int) (p:(Int×Int→Prop)×(Int×Int→Int)):Prop:=∀ vals:List Value,
 (I64 (a+(1:Int)))∧∃ (e2:Unit) (d20:(List Int)×Bool×Int),((True∧a=a∧b=b∧(SV.pf [(.i .i64),(.i .i64)] (.i .i64) p.1 p.2=SV.pf [(.i .i64),(.i .i64)] (.i .i64) p.1 p.2)∧(a+(1:Int))=d20.2.2∧True)∧((xs=d20.1∧nl=d20.2.1)∧(vals=vals∧(True∧(([]:List SV)=[])))∧True)) ∧
 LoopP (fun (d2:(List Int)×Bool×Int) (q2:((List Int)×Bool×Int)→Prop) =>
  ((decide (d2.2.2<b))=true →
   ∃ (e5:Bool×Int) (d50:(List Int)×Int),((True∧a=a∧b=b∧(SV.pf [(.i .i64),(.i .i64)] (.i .i64) p.1 p.2=SV.pf [(.i .i64),(.i .i64)] (.i .i64) p.1 p.2)∧d2.2.2=e5.2∧d2.2.2=d50.2∧True)∧((d2.1=d50.1∧d2.2.1=e5.1)∧(vals=vals∧(True∧(([]:List SV)=[])))∧True)) ∧
   LoopP (fun (d5:(List Int)×Int) (q5:((List Int)×Int)→Prop) =>
    ((decide (d5.2 > a))=true→0≤d5.2)∧((decide (d5.2 > a))=true→d5.2<(List.length d5.1))∧((decide (d5.2 > a))=true→InK .i64 (d5.2-(1:Int)))∧((decide (d5.2 > a))=true→0≤(d5.2-(1:Int)))∧((decide (d5.2 > a))=true→(d5.2-(1:Int))<(List.length d5.1))∧((decide (d5.2 > a))=true→p.1 ((gD d5.1 d5.2 0),(gD d5.1 (d5.2-(1:Int)) 0)))∧(((decide (d5.2 > a))&&(decide ((p.2 ((gD d5.1 d5.2 0),(gD d5.1 (d5.2-(1:Int)) 0)))<(0:Int))))=true →
     (I64 (d5.2-(1:Int)))∧(I64 (d5.2-(1:Int)))∧(0≤(d5.2-(1:Int)))∧((d5.2-(1:Int))<(List.length d5.1))∧(0≤d5.2)∧(d5.2<(List.length d5.1))∧(0≤d5.2)∧(d5.2<(List.length d5.1))∧(0≤(d5.2-(1:Int)))∧((d5.2-(1:Int))<(List.length (sT d5.1 d5.2 (gD d5.1 (d5.2-(1:Int)) 0))))∧(I64 (d5.2-(1:Int)))∧(∃ d6:(List Int)×Int,((True∧a=a∧b=b∧(SV.pf [(.i .i64),(.i .i64)] (.i .i64) p.1 p.2=SV.pf [(.i .i64),(.i .i64)] (.i .i64) p.1 p.2)∧e5.2=e5.2∧(d5.2-(1:Int))=d6.2∧True)∧(((sT (sT d5.1 d5.2 (gD d5.1 (d5.2-(1:Int)) 0)) (d5.2-(1:Int)) (gD d5.1 d5.2 0))=d6.1∧e5.1=e5.1)∧(vals=vals∧(True∧(([]:List SV)=[])))∧True))∧q5 d6)) ∧
    (((decide (d5.2 > a))&&(decide ((p.2 ((gD d5.1 d5.2 0),(gD d5.1 (d5.2-(1:Int)) 0)))<(0:Int))))=false →
     (I64 (e5.2+(1:Int)))∧(∃ d7:(List Int)×Bool×Int,((True∧a=a∧b=b∧(SV.pf [(.i .i64),(.i .i64)] (.i .i64) p.1 p.2=SV.pf [(.i .i64),(.i .i64)] (.i .i64) p.1 p.2)∧(e5.2+(1:Int))=d7.2.2∧True)∧((d5.1=d7.1∧e5.1=d7.2.1)∧(vals=vals∧(True∧(([]:List SV)=[])))∧True))∧q2 d7))) d50) ∧
  ((decide (d2.2.2<b))=false →
   (vals=vals∧(True∧(([]:List SV)=[]))∧((([]:List SV)=[]))∧(d2.1=(insC p.2 xs a.toNat b.toNat)∧d2.2.1=nl)))) d20
def Q26:Cx:=⟨[],[],53,[],0,[],[],[],[],false,[],[],[],[]⟩
def Q22 (xs:List Int) (nl:Bool) (a:Int) (b:Int) (p:(Int×Int→Prop)×(Int×Int→Int)) (vals:List Value):List (Nat×LoopAnn):=[(0,⟨Unit,(List Int)×Bool×Int,[0,1,2,3,8],fun e x=>[.lst 0,.val (.i .i64) a,.val (.i .i64) b,.pf [(.i .i64),(.i .i64)] (.i .i64) p.1 p.2,.val (.i .i64) x.2.2],fun e x=>[(0,.slot 0,.lst 3 (.i .i64) x.1 x.2.1),(4000000,.key 4000000,.stk [.lst 0] vals)]⟩),
 (2,⟨Bool×Int,(List Int)×Int,[0,1,2,3,8,9],fun e x=>[.lst 0,.val (.i .i64) a,.val (.i .i64) b,.pf [(.i .i64),(.i .i64)] (.i .i64) p.1 p.2,.val (.i .i64) e.2,.val (.i .i64) x.2],fun e x=>[(0,.slot 0,.lst 3 (.i .i64) x.1 e.1),(4000000,.key 4000000,.stk [.lst 0] vals)]⟩)]
set_option maxRecDepth 100000 in
theorem Q5j (xs:List Int) (nl:Bool) (d:Int×Int×((Int×Int→Prop)×(Int×Int→Int))):(∀ vals,gwp Q26 (Q22 xs nl d.1 d.2.1 d.2.2 vals) c109 0 (lendK vals [] (Q1w xs nl d) (.lst 3 (.i .i64) (Q1r xs nl d) nl) (.lst 0)) (lstart 53 (.lst 0) (.lst 3 (.i .i64) xs nl) vals (AL.can Q24 d)))=Q0g xs nl d.1 d.2.1 d.2.2:=by kernel_rfl
abbrev Q5n:Prop:=XOk Tryz.prog 109 Q0y
theorem Q5m (h:∀ (xs:List Int) (nl:Bool) (a:Int) (b:Int) (p:(Int×Int→Prop)×(Int×Int→Int)),(0≤a∧a≤b∧b≤xs.length∧xs.length≤12∧(∀ x∈xs,∀ y∈xs,p.1 (x,y)))→Q0g xs nl a b p):XOk Tryz.prog 109 Q0y :=
 Z4k fun109 mixed (Z7i .nil 3) (C:=Q26) ⟨.nil,XsOk.nil,ItsOk.nil,YlOk.nil,IysOk.nil,XfOk.nil⟩ (L:=fun xs nl (d:Int×Int×((Int×Int→Prop)×(Int×Int→Int))) vals=>Q22 xs nl d.1 d.2.1 d.2.2 vals) (V:=fun xs nl (d:Int×Int×((Int×Int→Prop)×(Int×Int→Int)))=>Q0g xs nl d.1 d.2.1 d.2.2) Q5j fun xs nl d hp=>h xs nl d.1 d.2.1 d.2.2 hp
theorem Q57:Q5n:=Q5m fun xs nl a b p h=>by
 obtain⟨h1,h2,h3,h4,h5⟩:=h;unfold Q0g;(try delta lI gD sT I64);intro vals;have hI:∀ e:Int,-1000≤e→e≤1000→InK .i64 e:=fun e _ _=>by simp only[Q1a];omega
 obtain⟨a,rfl⟩:∃ n:Nat,a=n:=⟨a.toNat,by omega⟩;obtain⟨b,rfl⟩:∃ n:Nat,b=n:=⟨b.toNat,by omega⟩;simp only[Int.toNat_natCast];refine⟨hI _ (by omega) (by omega),(),(xs,nl,(a:Int)+1),(by and_intros<;>first|rfl|trivial|simp),?_⟩;refine⟨fun d=>∃ n:Nat,d.2.2=(a:Int)+1+n∧(n=0∨a+1+n≤b)∧nl=d.2.1∧d.1=insG (fun x y=>decide (p.2 (x,y)<0)) a n xs,fun d=>(1000-d.2.2).toNat,⟨0,by simp,.inl rfl,rfl,rfl⟩,?_⟩;rintro⟨ys,nl',i⟩ ⟨n,e1,e2,e3,e4⟩;dsimp only at e1 e2 e3 e4 ⊢;subst e1 e3;refine⟨fun c=>?_,fun c=>?_⟩
 ·have c:a+1+n<b:=by simp at c;omega
  have hp:ys.Perm xs:=by rw[e4];exact Z1j _ (by omega)
  have hlen:=hp.length_eq;refine⟨(nl,(a:Int)+1+n),(ys,(a:Int)+1+n),(by and_intros<;>first|rfl|trivial|simp),?_⟩;dsimp only;refine⟨fun d=>∃ j:Nat,d.2=j∧j≤a+1+n∧d.1.Perm xs∧bubL (fun x y=>decide (p.2 (x,y)<0)) a j d.1=insG (fun x y=>decide (p.2 (x,y)<0)) a (n+1) xs,fun d=>d.2.toNat,⟨a+1+n,by simp,Nat.le_refl _,hp,by rw[e4];rfl⟩,?_⟩;rintro⟨zs,j'⟩ ⟨j,f1,f2,f3,f4⟩;dsimp only at f1 f3 f4 ⊢;subst f1;have hlz:=f3.length_eq;have hj1:((j:Int)-1).toNat=j-1:=by omega
  simp only[Int.toNat_natCast,hj1];refine⟨fun g=>by omega,fun g=>by omega,fun g=>hI _ (by omega) (by omega),fun g=>by simp at g;omega,fun g=>by omega,fun g=>by rw[Q03 (show j<zs.length by omega),Q03 (show j-1<zs.length by omega)];exact h5 _ (f3.mem_iff.1 (List.getElem_mem _)) _ (f3.mem_iff.1 (List.getElem_mem _)),fun g=>?_,fun g=>?_⟩
  ·have g:a<j∧p.2 (zs.getD j 0,zs.getD (j-1) 0)<0:=by simpa using g
   refine⟨hI _ (by omega) (by omega),hI _ (by omega) (by omega),by omega,by omega,by omega,by omega,by omega,by omega,by omega,by rw[List.length_set];omega,hI _ (by omega) (by omega),((zs.set j (zs.getD (j-1) 0)).set (j-1) (zs.getD j 0),(j:Int)-1),(by and_intros<;>first|rfl|trivial|simp),⟨j-1,by omega,by omega,(Z85 (by omega) (by omega)).trans f3,J60 f4 g.1 g.2⟩,by dsimp only;omega⟩
  ·refine⟨hI _ (by omega) (by omega),(zs,nl,(a:Int)+1+n+1),(by and_intros<;>first|rfl|trivial|simp),⟨n+1,by simp;omega,by omega,rfl,J90 f4 fun hh=>?_⟩,by dsimp only;omega⟩;have h7:p.2 (zs.getD j 0,zs.getD (j-1) 0)<0:=hh.2;have h8:a<j:=hh.1;rw[decide_eq_true (show (j:Int) > a by omega),decide_eq_true h7] at g;cases g
 ·have hn:n=b-a-1:=by simp at c;omega
  rw[e4,hn];exact(by and_intros<;>first|rfl|trivial|simp)
def Q1n:AL (Int×Int×((List Int×List Int→Prop)×(List Int×List Int→Int))):=(.cons (.k (.i .i64)) (.cons (.k (.i .i64)) (.one (.fn [(.list (.i .i64)),(.list (.i .i64))] (.i .i64)))))
def Q4l (xs:List (List Int)) (nl:Bool) (d:Int×Int×((List Int×List Int→Prop)×(List Int×List Int→Int))):Prop:=0≤d.1∧d.1≤d.2.1∧d.2.1≤xs.length∧xs.length≤12∧(∀ x∈xs,∀ y∈xs,d.2.2.1 (x,y))
def Q1i (xs:List (List Int)) (nl:Bool) (d:Int×Int×((List Int×List Int→Prop)×(List Int×List Int→Int))):SV:=.tup []
def Q1c (xs:List (List Int)) (nl:Bool) (d:Int×Int×((List Int×List Int→Prop)×(List Int×List Int→Int))):List (List Int):=(insC d.2.2.2 xs d.1.toNat d.2.1.toNat)
def Q0s:XSp:=lentF (gap [] 3) (lentL 31 (.list (.i .i64)) Q1n Q4l Q1i Q1c)
def Q0e (xs:List (List Int)) (nl:Bool) (a:Int) (b:Int) (p:(List Int×List Int→Prop)×(List Int×List Int→Int)):Prop:=∀ vals:List Value,
 (I64 (a+(1:Int)))∧∃ (e2:Unit) (d20:(List (List Int))×Bool×Int),((True∧a=a∧b=b∧(SV.pf [(.list (.i .i64)),(.list (.i .i64))] (.i .i64) p.1 p.2=SV.pf [(.list (.i .i64)),(.list (.i .i64))] (.i .i64) p.1 p.2)∧(a+(1:Int))=d20.2.2∧True)∧((xs=d20.1∧nl=d20.2.1)∧(vals=vals∧(True∧(([]:List SV)=[])))∧True)) ∧
 LoopP (fun (d2:(List (List Int))×Bool×Int) (q2:((List (List Int))×Bool×Int)→Prop) =>
  ((decide (d2.2.2<b))=true →
   ∃ (e5:Bool×Int) (d50:(List (List Int))×Int),((True∧a=a∧b=b∧(SV.pf [(.list (.i .i64)),(.list (.i .i64))] (.i .i64) p.1 p.2=SV.pf [(.list (.i .i64)),(.list (.i .i64))] (.i .i64) p.1 p.2)∧d2.2.2=e5.2∧d2.2.2=d50.2∧True)∧((d2.1=d50.1∧d2.2.1=e5.1)∧(vals=vals∧(True∧(([]:List SV)=[])))∧True)) ∧
   LoopP (fun (d5:(List (List Int))×Int) (q5:((List (List Int))×Int)→Prop) =>
    ((decide (d5.2 > a))=true→0≤d5.2)∧((decide (d5.2 > a))=true→d5.2<(List.length d5.1))∧((decide (d5.2 > a))=true→InK .i64 (d5.2-(1:Int)))∧((decide (d5.2 > a))=true→0≤(d5.2-(1:Int)))∧((decide (d5.2 > a))=true→(d5.2-(1:Int))<(List.length d5.1))∧((decide (d5.2 > a))=true→p.1 ((gD d5.1 d5.2 []),(gD d5.1 (d5.2-(1:Int)) [])))∧(((decide (d5.2 > a))&&(decide ((p.2 ((gD d5.1 d5.2 []),(gD d5.1 (d5.2-(1:Int)) [])))<(0:Int))))=true →
     (I64 (d5.2-(1:Int)))∧(I64 (d5.2-(1:Int)))∧(0≤(d5.2-(1:Int)))∧((d5.2-(1:Int))<(List.length d5.1))∧(0≤d5.2)∧(d5.2<(List.length d5.1))∧(0≤d5.2)∧(d5.2<(List.length d5.1))∧(0≤(d5.2-(1:Int)))∧((d5.2-(1:Int))<(List.length (sT d5.1 d5.2 (gD d5.1 (d5.2-(1:Int)) []))))∧(I64 (d5.2-(1:Int)))∧(∃ d6:(List (List Int))×Int,((True∧a=a∧b=b∧(SV.pf [(.list (.i .i64)),(.list (.i .i64))] (.i .i64) p.1 p.2=SV.pf [(.list (.i .i64)),(.list (.i .i64))] (.i .i64) p.1 p.2)∧e5.2=e5.2∧(d5.2-(1:Int))=d6.2∧True)∧(((sT (sT d5.1 d5.2 (gD d5.1 (d5.2-(1:Int)) [])) (d5.2-(1:Int)) (gD d5.1 d5.2 []))=d6.1∧e5.1=e5.1)∧(vals=vals∧(True∧(([]:List SV)=[])))∧True))∧q5 d6)) ∧
    (((decide (d5.2 > a))&&(decide ((p.2 ((gD d5.1 d5.2 []),(gD d5.1 (d5.2-(1:Int)) [])))<(0:Int))))=false →
     (I64 (e5.2+(1:Int)))∧(∃ d7:(List (List Int))×Bool×Int,((True∧a=a∧b=b∧(SV.pf [(.list (.i .i64)),(.list (.i .i64))] (.i .i64) p.1 p.2=SV.pf [(.list (.i .i64)),(.list (.i .i64))] (.i .i64) p.1 p.2)∧(e5.2+(1:Int))=d7.2.2∧True)∧((d5.1=d7.1∧e5.1=d7.2.1)∧(vals=vals∧(True∧(([]:List SV)=[])))∧True))∧q2 d7))) d50) ∧
  ((decide (d2.2.2<b))=false →
   (vals=vals∧(True∧(([]:List SV)=[]))∧((([]:List SV)=[]))∧(d2.1=(insC p.2 xs a.toNat b.toNat)∧d2.2.1=nl)))) d20
def Q1p:Cx:=⟨[],[],53,[0],0,[],[],[],[],false,[],[],[],[]⟩
def Q1q (xs:List (List Int)) (nl:Bool) (a:Int) (b:Int) (p:(List Int×List Int→Prop)×(List Int×List Int→Int)) (vals:List Value):List (Nat×LoopAnn):=[(0,⟨Unit,(List (List Int))×Bool×Int,[0,1,2,3,8],fun e x=>[.lst 0,.val (.i .i64) a,.val (.i .i64) b,.pf [(.list (.i .i64)),(.list (.i .i64))] (.i .i64) p.1 p.2,.val (.i .i64) x.2.2],fun e x=>[(0,.slot 0,.lst 31 (.list (.i .i64)) x.1 x.2.1),(4000000,.key 4000000,.stk [.lst 0] vals)]⟩),
 (2,⟨Bool×Int,(List (List Int))×Int,[0,1,2,3,8,9],fun e x=>[.lst 0,.val (.i .i64) a,.val (.i .i64) b,.pf [(.list (.i .i64)),(.list (.i .i64))] (.i .i64) p.1 p.2,.val (.i .i64) e.2,.val (.i .i64) x.2],fun e x=>[(0,.slot 0,.lst 31 (.list (.i .i64)) x.1 e.1),(4000000,.key 4000000,.stk [.lst 0] vals)]⟩)]
set_option maxRecDepth 100000 in
theorem Q4p (xs:List (List Int)) (nl:Bool) (d:Int×Int×((List Int×List Int→Prop)×(List Int×List Int→Int))):(∀ vals,gwp Q1p (Q1q xs nl d.1 d.2.1 d.2.2 vals) c122 0 (lendK vals [] (Q1i xs nl d) (.lst 31 (.list (.i .i64)) (Q1c xs nl d) nl) (.lst 0)) (lstart 53 (.lst 0) (.lst 31 (.list (.i .i64)) xs nl) vals (AL.can Q1n d)))=Q0e xs nl d.1 d.2.1 d.2.2:=by kernel_rfl
abbrev Q4q:Prop:=XOk Tryz.prog 122 Q0s
theorem Q4o (h:∀ (xs:List (List Int)) (nl:Bool) (a:Int) (b:Int) (p:(List Int×List Int→Prop)×(List Int×List Int→Int)),(0≤a∧a≤b∧b≤xs.length∧xs.length≤12∧(∀ x∈xs,∀ y∈xs,p.1 (x,y)))→Q0e xs nl a b p):XOk Tryz.prog 122 Q0s :=
 J0k fun122 mixed (Z7i .nil 3) (C:=Q1p) ⟨.nil,XsOk.nil,ItsOk.nil,YlOk.nil,IysOk.nil,XfOk.nil⟩ (L:=fun xs nl (d:Int×Int×((List Int×List Int→Prop)×(List Int×List Int→Int))) vals=>Q1q xs nl d.1 d.2.1 d.2.2 vals) (V:=fun xs nl (d:Int×Int×((List Int×List Int→Prop)×(List Int×List Int→Int)))=>Q0e xs nl d.1 d.2.1 d.2.2) Q4p fun xs nl d hp=>h xs nl d.1 d.2.1 d.2.2 hp
theorem Q4m:Q4q:=Q4o fun xs nl a b p h=>by
 obtain⟨h1,h2,h3,h4,h5⟩:=h;unfold Q0e;(try delta lI gD sT I64);intro vals;have hI:∀ e:Int,-1000≤e→e≤1000→InK .i64 e:=fun e _ _=>by simp only[Q1a];omega
 obtain⟨a,rfl⟩:∃ n:Nat,a=n:=⟨a.toNat,by omega⟩;obtain⟨b,rfl⟩:∃ n:Nat,b=n:=⟨b.toNat,by omega⟩;simp only[Int.toNat_natCast];refine⟨hI _ (by omega) (by omega),(),(xs,nl,(a:Int)+1),(by and_intros<;>first|rfl|trivial|simp),?_⟩;refine⟨fun d=>∃ n:Nat,d.2.2=(a:Int)+1+n∧(n=0∨a+1+n≤b)∧nl=d.2.1∧d.1=insG (fun x y=>decide (p.2 (x,y)<0)) a n xs,fun d=>(1000-d.2.2).toNat,⟨0,by simp,.inl rfl,rfl,rfl⟩,?_⟩;rintro⟨ys,nl',i⟩ ⟨n,e1,e2,e3,e4⟩;dsimp only at e1 e2 e3 e4 ⊢;subst e1 e3;refine⟨fun c=>?_,fun c=>?_⟩
 ·have c:a+1+n<b:=by simp at c;omega
  have hp:ys.Perm xs:=by rw[e4];exact Z1j _ (by omega)
  have hlen:=hp.length_eq;refine⟨(nl,(a:Int)+1+n),(ys,(a:Int)+1+n),(by and_intros<;>first|rfl|trivial|simp),?_⟩;dsimp only;refine⟨fun d=>∃ j:Nat,d.2=j∧j≤a+1+n∧d.1.Perm xs∧bubL (fun x y=>decide (p.2 (x,y)<0)) a j d.1=insG (fun x y=>decide (p.2 (x,y)<0)) a (n+1) xs,fun d=>d.2.toNat,⟨a+1+n,by simp,Nat.le_refl _,hp,by rw[e4];rfl⟩,?_⟩;rintro⟨zs,j'⟩ ⟨j,f1,f2,f3,f4⟩;dsimp only at f1 f3 f4 ⊢;subst f1;have hlz:=f3.length_eq;have hj1:((j:Int)-1).toNat=j-1:=by omega
  simp only[Int.toNat_natCast,hj1];refine⟨fun g=>by omega,fun g=>by omega,fun g=>hI _ (by omega) (by omega),fun g=>by simp at g;omega,fun g=>by omega,fun g=>by rw[Q03 (show j<zs.length by omega),Q03 (show j-1<zs.length by omega)];exact h5 _ (f3.mem_iff.1 (List.getElem_mem _)) _ (f3.mem_iff.1 (List.getElem_mem _)),fun g=>?_,fun g=>?_⟩
  ·have g:a<j∧p.2 (zs.getD j [],zs.getD (j-1) [])<0:=by simpa using g
   refine⟨hI _ (by omega) (by omega),hI _ (by omega) (by omega),by omega,by omega,by omega,by omega,by omega,by omega,by omega,by rw[List.length_set];omega,hI _ (by omega) (by omega),((zs.set j (zs.getD (j-1) [])).set (j-1) (zs.getD j []),(j:Int)-1),(by and_intros<;>first|rfl|trivial|simp),⟨j-1,by omega,by omega,(Z85 (by omega) (by omega)).trans f3,J60 f4 g.1 g.2⟩,by dsimp only;omega⟩
  ·refine⟨hI _ (by omega) (by omega),(zs,nl,(a:Int)+1+n+1),(by and_intros<;>first|rfl|trivial|simp),⟨n+1,by simp;omega,by omega,rfl,J90 f4 fun hh=>?_⟩,by dsimp only;omega⟩;have h7:p.2 (zs.getD j [],zs.getD (j-1) [])<0:=hh.2;have h8:a<j:=hh.1;rw[decide_eq_true (show (j:Int) > a by omega),decide_eq_true h7] at g;cases g
 ·have hn:n=b-a-1:=by simp at c;omega
  rw[e4,hn];exact(by and_intros<;>first|rfl|trivial|simp)
def Q49:AL (Int×((Int×Int→Prop)×(Int×Int→Int))):=(.cons (.k (.i .i64)) (.one (.fn [(.i .i64),(.i .i64)] (.i .i64))))
def Q8h (xs:List Int) (nl:Bool) (d:Int×((Int×Int→Prop)×(Int×Int→Int))):Prop:=d.1=xs.length∧xs.length≤12∧(∀ x∈xs,∀ y∈xs,d.2.1 (x,y))
def Q3p (xs:List Int) (nl:Bool) (d:Int×((Int×Int→Prop)×(Int×Int→Int))):SV:=.tup []
def Q3j (xs:List Int) (nl:Bool) (d:Int×((Int×Int→Prop)×(Int×Int→Int))):List Int:=(insC d.2.2 xs 0 xs.length)
def Q29:XSp:=lentX (gap [] 3) (lentL 3 (.i .i64) Q49 Q8h Q3p Q3j)
def Q12 (xs:List Int) (nl:Bool) (n:Int) (p:(Int×Int→Prop)×(Int×Int→Int)):Prop:=∀ vals:List Value,
 ∃ (e3:Unit) (d30:(List Int)×Int×Int),((True∧n=n∧(SV.pf [(.i .i64),(.i .i64)] (.i .i64) p.1 p.2=SV.pf [(.i .i64),(.i .i64)] (.i .i64) p.1 p.2)∧(20:Int)=(20:Int)∧(0:Int)=d30.2.1∧(20:Int)=d30.2.2∧True)∧((xs=d30.1∧nl=nl)∧(vals=vals∧(True∧(([]:List SV)=[])))∧True)) ∧
 LoopP (fun (d3:(List Int)×Int×Int) (q3:((List Int)×Int×Int)→Prop) =>
  ((decide (d3.2.2≤n))=true →
   (0≤d3.2.1∧d3.2.1≤d3.2.2∧d3.2.2≤d3.1.length∧d3.1.length≤12∧(∀ x∈d3.1,∀ y∈d3.1,(fun (x1:Int×Int)=>p.1 (x1.1,x1.2)) (x,y)))∧(I64 (d3.2.2+(20:Int)))∧(∃ d4:(List Int)×Int×Int,((True∧n=n∧(SV.pf [(.i .i64),(.i .i64)] (.i .i64) p.1 p.2=SV.pf [(.i .i64),(.i .i64)] (.i .i64) p.1 p.2)∧(20:Int)=(20:Int)∧d3.2.2=d4.2.1∧(d3.2.2+(20:Int))=d4.2.2∧True)∧(((insC (fun (x1:Int×Int)=>(p.2 (x1.1,x1.2))) d3.1 d3.2.1.toNat d3.2.2.toNat)=d4.1∧nl=nl)∧(vals=vals∧(True∧(([]:List SV)=[])))∧True))∧q3 d4)) ∧
  ((decide (d3.2.2≤n))=false →
   (0≤d3.2.1∧d3.2.1≤n∧n≤d3.1.length∧d3.1.length≤12∧(∀ x∈d3.1,∀ y∈d3.1,(fun (x2:Int×Int)=>p.1 (x2.1,x2.2)) (x,y)))∧∃ (e7:(List Int)) (d70:Bool×Int),((True∧n=n∧(SV.pf [(.i .i64),(.i .i64)] (.i .i64) p.1 p.2=SV.pf [(.i .i64),(.i .i64)] (.i .i64) p.1 p.2)∧(20:Int)=d70.2∧True)∧(((insC (fun (x2:Int×Int)=>(p.2 (x2.1,x2.2))) d3.1 d3.2.1.toNat n.toNat)=e7∧nl=d70.1)∧(vals=vals∧(True∧(([]:List SV)=[])))∧True)) ∧
   LoopP (fun (d7:Bool×Int) (q7:(Bool×Int)→Prop) =>
    ((decide (d7.2<n))=true →
     (I64 ((2:Int)*d7.2))∧∃ (e10:(List Int)×Bool×Int×Int) (d100:Unit),((True∧n=n∧(SV.pf [(.i .i64),(.i .i64)] (.i .i64) p.1 p.2=SV.pf [(.i .i64),(.i .i64)] (.i .i64) p.1 p.2)∧d7.2=e10.2.2.1∧(0:Int)=(0:Int)∧((2:Int)*d7.2)=e10.2.2.2∧True)∧((e7=e10.1∧d7.1=e10.2.1)∧(vals=vals∧(True∧(([]:List SV)=[])))∧True)) ∧
     LoopP (fun (d10:Unit) (q10:(Unit)→Prop) =>
      ((decide (e10.2.2.2≤n))=true →
       (I64 ((0:Int)+e10.2.2.1))∧False) ∧
      ((decide (e10.2.2.2≤n))=false →
       (I64 ((0:Int)+e10.2.2.1))∧((decide (((0:Int)+e10.2.2.1)<n))=true →
        False) ∧
       ((decide (((0:Int)+e10.2.2.1)<n))=false →
        (I64 (e10.2.2.1*(2:Int)))∧(∃ d11:Bool×Int,((True∧n=n∧(SV.pf [(.i .i64),(.i .i64)] (.i .i64) p.1 p.2=SV.pf [(.i .i64),(.i .i64)] (.i .i64) p.1 p.2)∧(e10.2.2.1*(2:Int))=d11.2∧True)∧((e10.1=e7∧e10.2.1=d11.1)∧(vals=vals∧(True∧(([]:List SV)=[])))∧True))∧q7 d11)))) d100) ∧
    ((decide (d7.2<n))=false →
     (vals=vals∧(True∧(([]:List SV)=[]))∧((([]:List SV)=[]))∧(e7=(insC p.2 xs 0 xs.length)∧d7.1=nl)))) d70)) d30
def Q3x:Cx:=⟨[],[],63,[],0,[(109,Q0y),(110,deadX)],[],[],[],false,[],[],[],[]⟩
def Q3z (xs:List Int) (nl:Bool) (n:Int) (p:(Int×Int→Prop)×(Int×Int→Int)) (vals:List Value):List (Nat×LoopAnn):=[(0,⟨Unit,(List Int)×Int×Int,[0,1,2,6,7,8],fun e x=>[.lst 0,.val (.i .i64) n,.pf [(.i .i64),(.i .i64)] (.i .i64) p.1 p.2,.val (.i .i64) (20:Int),.val (.i .i64) x.2.1,.val (.i .i64) x.2.2],fun e x=>[(0,.slot 0,.lst 3 (.i .i64) x.1 nl),(4000000,.key 4000000,.stk [.lst 0] vals)]⟩),
 (2,⟨(List Int),Bool×Int,[0,1,2,6],fun e x=>[.lst 0,.val (.i .i64) n,.pf [(.i .i64),(.i .i64)] (.i .i64) p.1 p.2,.val (.i .i64) x.2],fun e x=>[(0,.slot 0,.lst 3 (.i .i64) e x.1),(4000000,.key 4000000,.stk [.lst 0] vals)]⟩),
 (4,⟨(List Int)×Bool×Int×Int,Unit,[0,1,2,6,7,8],fun e x=>[.lst 0,.val (.i .i64) n,.pf [(.i .i64),(.i .i64)] (.i .i64) p.1 p.2,.val (.i .i64) e.2.2.1,.val (.i .i64) (0:Int),.val (.i .i64) e.2.2.2],fun e x=>[(0,.slot 0,.lst 3 (.i .i64) e.1 e.2.1),(4000000,.key 4000000,.stk [.lst 0] vals)]⟩)]
set_option maxRecDepth 100000 in
theorem Q92 (xs:List Int) (nl:Bool) (d:Int×((Int×Int→Prop)×(Int×Int→Int))):(∀ vals,gwp Q3x (Q3z xs nl d.1 d.2 vals) c105 0 (lendK vals [] (Q3p xs nl d) (.lst 3 (.i .i64) (Q3j xs nl d) nl) (.lst 0)) (lstart 63 (.lst 0) (.lst 3 (.i .i64) xs nl) vals (AL.can Q49 d)))=Q12 xs nl d.1 d.2:=by kernel_rfl
abbrev Q9s:Prop:=XOk Tryz.prog 105 Q29
theorem Q96 (h:∀ (xs:List Int) (nl:Bool) (n:Int) (p:(Int×Int→Prop)×(Int×Int→Int)),(n=xs.length∧xs.length≤12∧(∀ x∈xs,∀ y∈xs,p.1 (x,y)))→Q12 xs nl n p):XOk Tryz.prog 105 Q29 :=
 Z4k fun105 mixed (Z7i .nil 3) (C:=Q3x) ⟨.nil,(XsOk.cons Q57 (XsOk.cons Z1x XsOk.nil)),ItsOk.nil,YlOk.nil,IysOk.nil,XfOk.nil⟩ (L:=fun xs nl (d:Int×((Int×Int→Prop)×(Int×Int→Int))) vals=>Q3z xs nl d.1 d.2 vals) (V:=fun xs nl (d:Int×((Int×Int→Prop)×(Int×Int→Int)))=>Q12 xs nl d.1 d.2) Q92 fun xs nl d hp=>h xs nl d.1 d.2 hp
theorem Q8k:Q9s:=Q96 fun xs nl n p h=>by obtain⟨h1,h2,h3⟩:=h;subst h1;unfold Q12;(try delta lI gD sT I64);intro vals;refine⟨(),(xs,0,20),(by and_intros<;>first|rfl|trivial|simp),?_⟩;refine⟨fun d=>d=(xs,0,20),fun _=>0,rfl,?_⟩;rintro _ rfl;dsimp only;refine⟨fun c=>by simp at c;omega,fun _=>⟨⟨by omega,by omega,by omega,h2,h3⟩,insC p.2 xs 0 xs.length,(nl,20),(by and_intros<;>first|rfl|trivial|simp),?_⟩⟩;refine⟨fun d=>d=(nl,20),fun _=>0,rfl,?_⟩;rintro _ rfl;dsimp only;exact⟨fun c=>by simp at c;omega,fun _=>(by and_intros<;>first|rfl|trivial|simp)⟩
def Q2p:AL ((Int×Int→Prop)×(Int×Int→Int)):=(.one (.fn [(.i .i64),(.i .i64)] (.i .i64)))
def Q5p (xs:List Int) (nl:Bool) (d:(Int×Int→Prop)×(Int×Int→Int)):Prop:=xs.length≤12∧(∀ x∈xs,∀ y∈xs,d.1 (x,y))
def Q2e (xs:List Int) (nl:Bool) (d:(Int×Int→Prop)×(Int×Int→Int)):SV:=.tup []
def Q21 (xs:List Int) (nl:Bool) (d:(Int×Int→Prop)×(Int×Int→Int)):List Int:=(insC d.2 xs 0 xs.length)
def Q16:XSp:=lentX (gap [(95,Q20)] 3) (lentL 3 (.i .i64) Q2p Q5p Q2e Q21)
def Q0j (xs:List Int) (nl:Bool) (p:(Int×Int→Prop)×(Int×Int→Int)):Prop:=∀ vals:List Value,
 ((lI xs)=xs.length∧xs.length≤12∧(∀ x∈xs,∀ y∈xs,(fun (x1:Int×Int)=>p.1 (x1.1,x1.2)) (x,y)))∧(vals=vals∧(True∧(([]:List SV)=[]))∧((([]:List SV)=[]))∧((insC (fun (x1:Int×Int)=>(p.2 (x1.1,x1.2))) xs 0 xs.length)=(insC p.2 xs 0 xs.length)∧nl=nl))
def Q2o:Cx:=⟨[],[],9,[],0,[(105,Q29)],[],[],[],false,[],[],[],[]⟩
def Q2r (xs:List Int) (nl:Bool) (p:(Int×Int→Prop)×(Int×Int→Int)) (vals:List Value):List (Nat×LoopAnn):=[]
set_option maxRecDepth 100000 in
theorem Q6g (xs:List Int) (nl:Bool) (d:(Int×Int→Prop)×(Int×Int→Int)):(∀ vals,gwp Q2o (Q2r xs nl d vals) c94 0 (lendK vals [] (Q2e xs nl d) (.lst 3 (.i .i64) (Q21 xs nl d) nl) (.lst 0)) (lstart 9 (.lst 0) (.lst 3 (.i .i64) xs nl) vals (AL.can Q2p d)))=Q0j xs nl d:=by kernel_rfl
abbrev Q6f:Prop:=XOk Tryz.prog 94 Q16
theorem Q6h (h:∀ (xs:List Int) (nl:Bool) (p:(Int×Int→Prop)×(Int×Int→Int)),(xs.length≤12∧(∀ x∈xs,∀ y∈xs,p.1 (x,y)))→Q0j xs nl p):XOk Tryz.prog 94 Q16 :=
 Z4k fun94 mixed (Z7i (.cons Q67 .nil) 3) (C:=Q2o) ⟨.nil,(XsOk.cons Q8k XsOk.nil),ItsOk.nil,YlOk.nil,IysOk.nil,XfOk.nil⟩ (L:=fun xs nl (d:(Int×Int→Prop)×(Int×Int→Int)) vals=>Q2r xs nl d vals) (V:=fun xs nl (d:(Int×Int→Prop)×(Int×Int→Int))=>Q0j xs nl d) Q6g fun xs nl d hp=>h xs nl d hp
theorem Q5z:Q6f:=Q6h fun xs nl p h=>by unfold Q0j;(try delta lI gD sT I64);intro vals;refine⟨⟨rfl,h.1,h.2⟩,?_⟩;exact(by and_intros<;>first|rfl|trivial|simp)
def Q33:AL (Int×Int×Int×((List Int×List Int→Prop)×(List Int×List Int→Int))):=(.cons (.k (.i .i64)) (.cons (.k (.i .i64)) (.cons (.k (.i .i64)) (.one (.fn [(.list (.i .i64)),(.list (.i .i64))] (.i .i64))))))
def Q6p (xs:List (List Int)) (nl:Bool) (d:Int×Int×Int×((List Int×List Int→Prop)×(List Int×List Int→Int))):Prop:=d.1=0∧d.2.1=xs.length∧xs.length≤12∧(∀ x∈xs,∀ y∈xs,d.2.2.2.1 (x,y))
def Q31 (xs:List (List Int)) (nl:Bool) (d:Int×Int×Int×((List Int×List Int→Prop)×(List Int×List Int→Int))):SV:=.tup []
def Q2q (xs:List (List Int)) (nl:Bool) (d:Int×Int×Int×((List Int×List Int→Prop)×(List Int×List Int→Int))):List (List Int):=(insC d.2.2.2.2 xs 0 xs.length)
def Q1f:XSp:=lentF (gap [] 3) (lentL 31 (.list (.i .i64)) Q33 Q6p Q31 Q2q)
def Q0p (xs:List (List Int)) (nl:Bool) (a:Int) (b:Int) (li:Int) (p:(List Int×List Int→Prop)×(List Int×List Int→Int)):Prop:=∀ vals:List Value,
 ∃ (e3:Unit) (d30:Unit),((True∧a=a∧b=b∧li=li∧(SV.pf [(.list (.i .i64)),(.list (.i .i64))] (.i .i64) p.1 p.2=SV.pf [(.list (.i .i64)),(.list (.i .i64))] (.i .i64) p.1 p.2)∧true=true∧true=true∧True)∧((xs=xs∧nl=nl)∧(vals=vals∧(True∧(([]:List SV)=[])))∧True)) ∧
 LoopP (fun (d3:Unit) (q3:(Unit)→Prop) =>
  (I64 (b-a))∧((decide ((b-a)≤(12:Int)))=true →
   (0≤a∧a≤b∧b≤xs.length∧xs.length≤12∧(∀ x∈xs,∀ y∈xs,(fun (x1:List Int×List Int)=>p.1 (x1.1,x1.2)) (x,y)))∧(vals=vals∧(True∧(([]:List SV)=[]))∧((([]:List SV)=[]))∧((insC (fun (x1:List Int×List Int)=>(p.2 (x1.1,x1.2))) xs a.toNat b.toNat)=(insC p.2 xs 0 xs.length)∧nl=nl))) ∧
  ((decide ((b-a)≤(12:Int)))=false →
   ((li==(0:Int))=true →
    False) ∧
   ((li==(0:Int))=false →
    ((!true)=true →
     False) ∧
    ((!true)=false →
     False)))) d30
def Q37:Cx:=⟨[],[],148,[0],0,[(122,Q0s),(123,deadX),(124,deadX),(125,deadX)],[],[],[],false,[],[],[],[]⟩
def Q34 (xs:List (List Int)) (nl:Bool) (a:Int) (b:Int) (li:Int) (p:(List Int×List Int→Prop)×(List Int×List Int→Int)) (vals:List Value):List (Nat×LoopAnn):=[(0,⟨Unit,Unit,[0,1,2,3,4,10,11],fun e x=>[.lst 0,.val (.i .i64) a,.val (.i .i64) b,.val (.i .i64) li,.pf [(.list (.i .i64)),(.list (.i .i64))] (.i .i64) p.1 p.2,.val .bo true,.val .bo true],fun e x=>[(0,.slot 0,.lst 31 (.list (.i .i64)) xs nl),(4000000,.key 4000000,.stk [.lst 0] vals)]⟩)]
set_option maxRecDepth 100000 in
theorem Q7g (xs:List (List Int)) (nl:Bool) (d:Int×Int×Int×((List Int×List Int→Prop)×(List Int×List Int→Int))):(∀ vals,gwp Q37 (Q34 xs nl d.1 d.2.1 d.2.2.1 d.2.2.2 vals) c108 0 (lendK vals [] (Q31 xs nl d) (.lst 31 (.list (.i .i64)) (Q2q xs nl d) nl) (.lst 0)) (lstart 148 (.lst 0) (.lst 31 (.list (.i .i64)) xs nl) vals (AL.can Q33 d)))=Q0p xs nl d.1 d.2.1 d.2.2.1 d.2.2.2:=by kernel_rfl
abbrev Q78:Prop:=XOk Tryz.prog 108 Q1f
theorem Q7b (h:∀ (xs:List (List Int)) (nl:Bool) (a:Int) (b:Int) (li:Int) (p:(List Int×List Int→Prop)×(List Int×List Int→Int)),(a=0∧b=xs.length∧xs.length≤12∧(∀ x∈xs,∀ y∈xs,p.1 (x,y)))→Q0p xs nl a b li p):XOk Tryz.prog 108 Q1f :=
 J0k fun108 mixed (Z7i .nil 3) (C:=Q37) ⟨.nil,(XsOk.cons Q4m (XsOk.cons Z1x (XsOk.cons Z1x (XsOk.cons Z1x XsOk.nil)))),ItsOk.nil,YlOk.nil,IysOk.nil,XfOk.nil⟩ (L:=fun xs nl (d:Int×Int×Int×((List Int×List Int→Prop)×(List Int×List Int→Int))) vals=>Q34 xs nl d.1 d.2.1 d.2.2.1 d.2.2.2 vals) (V:=fun xs nl (d:Int×Int×Int×((List Int×List Int→Prop)×(List Int×List Int→Int)))=>Q0p xs nl d.1 d.2.1 d.2.2.1 d.2.2.2) Q7g fun xs nl d hp=>h xs nl d.1 d.2.1 d.2.2.1 d.2.2.2 hp
theorem Q70:Q78:=Q7b fun xs nl a b li p h=>by
 obtain⟨rfl,rfl,h2,h3⟩:=h;unfold Q0p;(try delta lI gD sT I64);intro vals;refine⟨(),(),(by and_intros<;>first|rfl|trivial|simp),?_⟩;refine⟨fun _=>True,fun _=>0,trivial,?_⟩;rintro⟨⟩ -
 refine⟨by simp only[Q1a];omega,fun _=>⟨⟨by omega,by omega,by omega,h2,h3⟩,(by and_intros<;>first|rfl|trivial|simp)⟩,fun c=>by simp at c;omega⟩
def Q4j:AL ((List Int×List Int→Prop)×(List Int×List Int→Int)):=(.one (.fn [(.list (.i .i64)),(.list (.i .i64))] (.i .i64)))
def Q93 (xs:List (List Int)) (nl:Bool) (d:(List Int×List Int→Prop)×(List Int×List Int→Int)):Prop:=xs.length≤12∧(∀ x∈xs,∀ y∈xs,d.1 (x,y))
def Q46 (xs:List (List Int)) (nl:Bool) (d:(List Int×List Int→Prop)×(List Int×List Int→Int)):SV:=.tup []
def Q3m (xs:List (List Int)) (nl:Bool) (d:(List Int×List Int→Prop)×(List Int×List Int→Int)):List (List Int):=(insC d.2 xs 0 xs.length)
def Q2m:XSp:=lentF (gap [(82,Q1d)] 3) (lentL 31 (.list (.i .i64)) Q4j Q93 Q46 Q3m)
def Q15 (xs:List (List Int)) (nl:Bool) (p:(List Int×List Int→Prop)×(List Int×List Int→Int)):Prop:=∀ vals:List Value,
 (InK .u64 (lI xs))∧(0≤(lI xs)∧(lI xs)≤255)∧((0:Int)=0∧(lI xs)=xs.length∧xs.length≤12∧(∀ x∈xs,∀ y∈xs,(fun (x1:List Int×List Int)=>p.1 (x1.1,x1.2)) (x,y)))∧(vals=vals∧(True∧(([]:List SV)=[]))∧((([]:List SV)=[]))∧((insC (fun (x1:List Int×List Int)=>(p.2 (x1.1,x1.2))) xs 0 xs.length)=(insC p.2 xs 0 xs.length)∧nl=nl))
def Q4d:Cx:=⟨[],[(107,Q60)],14,[0],0,[(108,Q1f)],[],[],[],false,[],[],[],[]⟩
def Q4k (xs:List (List Int)) (nl:Bool) (p:(List Int×List Int→Prop)×(List Int×List Int→Int)) (vals:List Value):List (Nat×LoopAnn):=[]
set_option maxRecDepth 100000 in
theorem Q9v (xs:List (List Int)) (nl:Bool) (d:(List Int×List Int→Prop)×(List Int×List Int→Int)):(∀ vals,gwp Q4d (Q4k xs nl d vals) c97 0 (lendK vals [] (Q46 xs nl d) (.lst 31 (.list (.i .i64)) (Q3m xs nl d) nl) (.lst 0)) (lstart 14 (.lst 0) (.lst 31 (.list (.i .i64)) xs nl) vals (AL.can Q4j d)))=Q15 xs nl d:=by kernel_rfl
abbrev Q9y:Prop:=XOk Tryz.prog 97 Q2m
theorem Q9z (h:∀ (xs:List (List Int)) (nl:Bool) (p:(List Int×List Int→Prop)×(List Int×List Int→Int)),(xs.length≤12∧(∀ x∈xs,∀ y∈xs,p.1 (x,y)))→Q15 xs nl p):XOk Tryz.prog 97 Q2m :=
 J0k fun97 mixed (Z7i (.cons Q4w .nil) 3) (C:=Q4d) ⟨(.cons Z2r .nil),(XsOk.cons Q70 XsOk.nil),ItsOk.nil,YlOk.nil,IysOk.nil,XfOk.nil⟩ (L:=fun xs nl (d:(List Int×List Int→Prop)×(List Int×List Int→Int)) vals=>Q4k xs nl d vals) (V:=fun xs nl (d:(List Int×List Int→Prop)×(List Int×List Int→Int))=>Q15 xs nl d) Q9v fun xs nl d hp=>h xs nl d hp
theorem Q9r:Q9y:=Q9z fun xs nl p h=>by unfold Q15;(try delta lI gD sT I64);intro vals;have:=h.1;refine⟨by simp only[Z5i];omega,⟨by omega,by omega⟩,⟨rfl,rfl,h.1,h.2⟩,?_⟩;exact(by and_intros<;>first|rfl|trivial|simp)
def Z3a:AL (Int×Int):=(.cons (.k (.i .i64)) (.one (.k (.i .i64))))
def Z94 (d:Int×Int):Prop:=True
def Z2n (d:Int×Int):SV:=.val .bo (decide (d.1<d.2))
def Z2l (d:Int×Int):List OB:=[]
def Z0p:CSp:=mkSp Z3a Z94 Z2n Z2l
def Q5v (a:Int) (b:Int):Prop :=
 (True)∧(false=true→True)∧(((false&&(!false))||(decide (a<b)))=(decide (a<b))∧(True))
def Z4e:Cx:=⟨[],[(99,Q62)],17,[],0,[],[],[],[],false,[],[],[],[]⟩
def J0w (a:Int) (b:Int):List (Nat×LoopAnn):=[]
set_option maxRecDepth 100000 in
theorem J0b (d:Int×Int):gwp (Z4e) (J0w d.1 d.2) c117 0 (gend [.tmp 4] (Z2n d) (Z2l d)) (gstart 17 (AL.can Z3a d))=Q5v d.1 d.2:=by kernel_rfl
abbrev J0c:Prop:=OkC Tryz.prog 117 Z0p
theorem J1t (h:∀ (a:Int) (b:Int),(True)→Q5v a b):OkC Tryz.prog 117 Z0p :=
 Q1b fun117 mixed (C:=Z4e) (V:=fun (d:Int×Int)=>Q5v d.1 d.2) ⟨(.cons Z2e .nil),XsOk.nil,ItsOk.nil,YlOk.nil,IysOk.nil,XfOk.nil⟩ (J0b) fun d hp=>h d.1 d.2 hp
theorem J22:J0c:=J1t fun a b=>by unfold Q5v;(try delta lI gD sT I64);simp
def Q27:AL (Int×Int):=(.cons (.k (.i .i64)) (.one (.k (.i .i64))))
def Q59 (xs:List Int) (nl:Bool) (d:Int×Int):Prop:=0≤d.1∧d.1≤d.2∧d.2≤xs.length∧xs.length≤12
def Q1x (xs:List Int) (nl:Bool) (d:Int×Int):SV:=.tup []
def Q1o (xs:List Int) (nl:Bool) (d:Int×Int):List Int:=(insC cmpII xs d.1.toNat d.2.toNat)
def Q0z:XSp:=lentX apNone (lentL 3 (.i .i64) Q27 Q59 Q1x Q1o)
def Q0h (xs:List Int) (nl:Bool) (a:Int) (b:Int):Prop:=∀ vals:List Value,
 (I64 (a+(1:Int)))∧∃ (e2:Unit) (d20:(List Int)×Bool×Int),((True∧a=a∧b=b∧(a+(1:Int))=d20.2.2∧True)∧((xs=d20.1∧nl=d20.2.1)∧(vals=vals∧(True∧(([]:List SV)=[])))∧True)) ∧
 LoopP (fun (d2:(List Int)×Bool×Int) (q2:((List Int)×Bool×Int)→Prop) =>
  ((decide (d2.2.2<b))=true →
   ∃ (e5:Bool×Int) (d50:(List Int)×Int),((True∧a=a∧b=b∧d2.2.2=e5.2∧d2.2.2=d50.2∧True)∧((d2.1=d50.1∧d2.2.1=e5.1)∧(vals=vals∧(True∧(([]:List SV)=[])))∧True)) ∧
   LoopP (fun (d5:(List Int)×Int) (q5:((List Int)×Int)→Prop) =>
    ((decide (d5.2 > a))=true→0≤d5.2)∧((decide (d5.2 > a))=true→d5.2<(List.length d5.1))∧((decide (d5.2 > a))=true→InK .i64 (d5.2-(1:Int)))∧((decide (d5.2 > a))=true→0≤(d5.2-(1:Int)))∧((decide (d5.2 > a))=true→(d5.2-(1:Int))<(List.length d5.1))∧((decide (d5.2 > a))=true→True)∧(((decide (d5.2 > a))&&(decide ((gD d5.1 d5.2 0)<(gD d5.1 (d5.2-(1:Int)) 0))))=true →
     (I64 (d5.2-(1:Int)))∧(I64 (d5.2-(1:Int)))∧(0≤(d5.2-(1:Int)))∧((d5.2-(1:Int))<(List.length d5.1))∧(0≤d5.2)∧(d5.2<(List.length d5.1))∧(0≤d5.2)∧(d5.2<(List.length d5.1))∧(0≤(d5.2-(1:Int)))∧((d5.2-(1:Int))<(List.length (sT d5.1 d5.2 (gD d5.1 (d5.2-(1:Int)) 0))))∧(I64 (d5.2-(1:Int)))∧(∃ d6:(List Int)×Int,((True∧a=a∧b=b∧e5.2=e5.2∧(d5.2-(1:Int))=d6.2∧True)∧(((sT (sT d5.1 d5.2 (gD d5.1 (d5.2-(1:Int)) 0)) (d5.2-(1:Int)) (gD d5.1 d5.2 0))=d6.1∧e5.1=e5.1)∧(vals=vals∧(True∧(([]:List SV)=[])))∧True))∧q5 d6)) ∧
    (((decide (d5.2 > a))&&(decide ((gD d5.1 d5.2 0)<(gD d5.1 (d5.2-(1:Int)) 0))))=false →
     (I64 (e5.2+(1:Int)))∧(∃ d7:(List Int)×Bool×Int,((True∧a=a∧b=b∧(e5.2+(1:Int))=d7.2.2∧True)∧((d5.1=d7.1∧e5.1=d7.2.1)∧(vals=vals∧(True∧(([]:List SV)=[])))∧True))∧q2 d7))) d50) ∧
  ((decide (d2.2.2<b))=false →
   (vals=vals∧(True∧(([]:List SV)=[]))∧((([]:List SV)=[]))∧(d2.1=(insC cmpII xs a.toNat b.toNat)∧d2.2.1=nl)))) d20
def Q23:Cx:=⟨[],[(117,Z0p)],49,[],0,[],[],[],[],false,[],[],[],[]⟩
def Q25 (xs:List Int) (nl:Bool) (a:Int) (b:Int) (vals:List Value):List (Nat×LoopAnn):=[(0,⟨Unit,(List Int)×Bool×Int,[0,1,2,6],fun e x=>[.lst 0,.val (.i .i64) a,.val (.i .i64) b,.val (.i .i64) x.2.2],fun e x=>[(0,.slot 0,.lst 3 (.i .i64) x.1 x.2.1),(4000000,.key 4000000,.stk [.lst 0] vals)]⟩),
 (2,⟨Bool×Int,(List Int)×Int,[0,1,2,6,7],fun e x=>[.lst 0,.val (.i .i64) a,.val (.i .i64) b,.val (.i .i64) e.2,.val (.i .i64) x.2],fun e x=>[(0,.slot 0,.lst 3 (.i .i64) x.1 e.1),(4000000,.key 4000000,.stk [.lst 0] vals)]⟩)]
set_option maxRecDepth 100000 in
theorem Q5o (xs:List Int) (nl:Bool) (d:Int×Int):(∀ vals,gwp Q23 (Q25 xs nl d.1 d.2 vals) c111 0 (lendK vals [] (Q1x xs nl d) (.lst 3 (.i .i64) (Q1o xs nl d) nl) (.lst 0)) (lstart 49 (.lst 0) (.lst 3 (.i .i64) xs nl) vals (AL.can Q27 d)))=Q0h xs nl d.1 d.2:=by kernel_rfl
abbrev Q5k:Prop:=XOk Tryz.prog 111 Q0z
theorem Q5l (h:∀ (xs:List Int) (nl:Bool) (a:Int) (b:Int),(0≤a∧a≤b∧b≤xs.length∧xs.length≤12)→Q0h xs nl a b):XOk Tryz.prog 111 Q0z :=
 Z4k fun111 mixed Z18 (C:=Q23) ⟨(.cons J22 .nil),XsOk.nil,ItsOk.nil,YlOk.nil,IysOk.nil,XfOk.nil⟩ (L:=fun xs nl (d:Int×Int) vals=>Q25 xs nl d.1 d.2 vals) (V:=fun xs nl (d:Int×Int)=>Q0h xs nl d.1 d.2) Q5o fun xs nl d hp=>h xs nl d.1 d.2 hp
theorem Q54:Q5k:=Q5l fun xs nl a b h=>by
 obtain⟨h1,h2,h3,h4⟩:=h;unfold Q0h;(try delta lI gD sT I64);intro vals;have hI:∀ e:Int,-1000≤e→e≤1000→InK .i64 e:=fun e _ _=>by simp only[Q1a];omega
 obtain⟨a,rfl⟩:∃ n:Nat,a=n:=⟨a.toNat,by omega⟩;obtain⟨b,rfl⟩:∃ n:Nat,b=n:=⟨b.toNat,by omega⟩;simp only[Int.toNat_natCast];refine⟨hI _ (by omega) (by omega),(),(xs,nl,(a:Int)+1),(by and_intros<;>first|rfl|trivial|simp),?_⟩;refine⟨fun d=>∃ n:Nat,d.2.2=(a:Int)+1+n∧(n=0∨a+1+n≤b)∧nl=d.2.1∧d.1=insG (fun x y=>decide (cmpII (x,y)<0)) a n xs,fun d=>(1000-d.2.2).toNat,⟨0,by simp,.inl rfl,rfl,rfl⟩,?_⟩;rintro⟨ys,nl',i⟩ ⟨n,e1,e2,e3,e4⟩;dsimp only at e1 e2 e3 e4 ⊢;subst e1 e3;refine⟨fun c=>?_,fun c=>?_⟩
 ·have c:a+1+n<b:=by simp at c;omega
  have hp:ys.Perm xs:=by rw[e4];exact Z1j _ (by omega)
  have hlen:=hp.length_eq;refine⟨(nl,(a:Int)+1+n),(ys,(a:Int)+1+n),(by and_intros<;>first|rfl|trivial|simp),?_⟩;dsimp only;refine⟨fun d=>∃ j:Nat,d.2=j∧j≤a+1+n∧d.1.Perm xs∧bubL (fun x y=>decide (cmpII (x,y)<0)) a j d.1=insG (fun x y=>decide (cmpII (x,y)<0)) a (n+1) xs,fun d=>d.2.toNat,⟨a+1+n,by simp,Nat.le_refl _,hp,by rw[e4];rfl⟩,?_⟩;rintro⟨zs,j'⟩ ⟨j,f1,f2,f3,f4⟩;dsimp only at f1 f3 f4 ⊢;subst f1;have hlz:=f3.length_eq;have hj1:((j:Int)-1).toNat=j-1:=by omega
  simp only[Int.toNat_natCast,hj1];refine⟨fun g=>by omega,fun g=>by omega,fun g=>hI _ (by omega) (by omega),fun g=>by simp at g;omega,fun g=>by omega,fun _=>trivial,fun g=>?_,fun g=>?_⟩
  ·have g:a<j∧zs.getD j 0<zs.getD (j-1) 0:=by simpa using g
   refine⟨hI _ (by omega) (by omega),hI _ (by omega) (by omega),by omega,by omega,by omega,by omega,by omega,by omega,by omega,by rw[List.length_set];omega,hI _ (by omega) (by omega),((zs.set j (zs.getD (j-1) 0)).set (j-1) (zs.getD j 0),(j:Int)-1),(by and_intros<;>first|rfl|trivial|simp),⟨j-1,by omega,by omega,(Z85 (by omega) (by omega)).trans f3,J60 f4 g.1 (Z6z.2 g.2)⟩,by dsimp only;omega⟩
  ·refine⟨hI _ (by omega) (by omega),(zs,nl,(a:Int)+1+n+1),(by and_intros<;>first|rfl|trivial|simp),⟨n+1,by simp;omega,by omega,rfl,J90 f4 fun hh=>?_⟩,by dsimp only;omega⟩;have h7:zs.getD j 0<zs.getD (j-1) 0:=Z6z.1 hh.2;have h8:a<j:=hh.1;rw[decide_eq_true (show (j:Int) > a by omega),decide_eq_true h7] at g;cases g
 ·have hn:n=b-a-1:=by simp at c;omega
  rw[e4,hn];exact(by and_intros<;>first|rfl|trivial|simp)
def Q3r:AL (Int×Int×Int):=(.cons (.k (.i .i64)) (.cons (.k (.i .i64)) (.one (.k (.i .i64)))))
def Q7w (xs:List Int) (nl:Bool) (d:Int×Int×Int):Prop:=d.1=0∧d.2.1=xs.length∧xs.length≤12
def Q3h (xs:List Int) (nl:Bool) (d:Int×Int×Int):SV:=.tup []
def Q39 (xs:List Int) (nl:Bool) (d:Int×Int×Int):List Int:=(insC cmpII xs 0 xs.length)
def Q1t:XSp:=lentX apNone (lentL 3 (.i .i64) Q3r Q7w Q3h Q39)
def Q0w (xs:List Int) (nl:Bool) (a:Int) (b:Int) (li:Int):Prop:=∀ vals:List Value,
 ∃ (e3:Unit) (d30:Unit),((True∧a=a∧b=b∧li=li∧true=true∧true=true∧True)∧((xs=xs∧nl=nl)∧(vals=vals∧(True∧(([]:List SV)=[])))∧True)) ∧
 LoopP (fun (d3:Unit) (q3:(Unit)→Prop) =>
  (I64 (b-a))∧((decide ((b-a)≤(12:Int)))=true →
   (0≤a∧a≤b∧b≤xs.length∧xs.length≤12)∧(vals=vals∧(True∧(([]:List SV)=[]))∧((([]:List SV)=[]))∧((insC cmpII xs a.toNat b.toNat)=(insC cmpII xs 0 xs.length)∧nl=nl))) ∧
  ((decide ((b-a)≤(12:Int)))=false →
   ((li==(0:Int))=true →
    False) ∧
   ((li==(0:Int))=false →
    ((!true)=true →
     False) ∧
    ((!true)=false →
     False)))) d30
def Q3s:Cx:=⟨[],[],134,[],0,[(111,Q0z),(112,deadX),(113,deadX),(114,deadX)],[],[],[],false,[],[],[],[]⟩
def Q3o (xs:List Int) (nl:Bool) (a:Int) (b:Int) (li:Int) (vals:List Value):List (Nat×LoopAnn):=[(0,⟨Unit,Unit,[0,1,2,3,8,9],fun e x=>[.lst 0,.val (.i .i64) a,.val (.i .i64) b,.val (.i .i64) li,.val .bo true,.val .bo true],fun e x=>[(0,.slot 0,.lst 3 (.i .i64) xs nl),(4000000,.key 4000000,.stk [.lst 0] vals)]⟩)]
set_option maxRecDepth 100000 in
theorem Q88 (xs:List Int) (nl:Bool) (d:Int×Int×Int):(∀ vals,gwp Q3s (Q3o xs nl d.1 d.2.1 d.2.2 vals) c106 0 (lendK vals [] (Q3h xs nl d) (.lst 3 (.i .i64) (Q39 xs nl d) nl) (.lst 0)) (lstart 134 (.lst 0) (.lst 3 (.i .i64) xs nl) vals (AL.can Q3r d)))=Q0w xs nl d.1 d.2.1 d.2.2:=by kernel_rfl
abbrev Q8p:Prop:=XOk Tryz.prog 106 Q1t
theorem Q8d (h:∀ (xs:List Int) (nl:Bool) (a:Int) (b:Int) (li:Int),(a=0∧b=xs.length∧xs.length≤12)→Q0w xs nl a b li):XOk Tryz.prog 106 Q1t :=
 Z4k fun106 mixed Z18 (C:=Q3s) ⟨.nil,(XsOk.cons Q54 (XsOk.cons Z1x (XsOk.cons Z1x (XsOk.cons Z1x XsOk.nil)))),ItsOk.nil,YlOk.nil,IysOk.nil,XfOk.nil⟩ (L:=fun xs nl (d:Int×Int×Int) vals=>Q3o xs nl d.1 d.2.1 d.2.2 vals) (V:=fun xs nl (d:Int×Int×Int)=>Q0w xs nl d.1 d.2.1 d.2.2) Q88 fun xs nl d hp=>h xs nl d.1 d.2.1 d.2.2 hp
theorem Q7p:Q8p:=Q8d fun xs nl a b li h=>by
 obtain⟨rfl,rfl,h2⟩:=h;unfold Q0w;(try delta lI gD sT I64);intro vals;refine⟨(),(),(by and_intros<;>first|rfl|trivial|simp),?_⟩;refine⟨fun _=>True,fun _=>0,trivial,?_⟩;rintro⟨⟩ -
 refine⟨by simp only[Q1a];omega,fun _=>⟨⟨by omega,by omega,by omega,h2⟩,(by and_intros<;>first|rfl|trivial|simp)⟩,fun c=>by simp at c;omega⟩
def Q6o:AL (Unit):=.nil
def Z1s (xs:List Int) (nl:Bool) (d:Unit):Prop:=xs.length≤12
def Q5r (xs:List Int) (nl:Bool) (d:Unit):SV:=.tup []
def Q5h (xs:List Int) (nl:Bool) (d:Unit):List Int:=(insC cmpII xs 0 xs.length)
def Q43:XSp:=lentX apNone (lentL 3 (.i .i64) Q6o Z1s Q5r Q5h)
def Q1y (xs:List Int) (nl:Bool) :Prop:=∀ vals:List Value,
 (InK .u64 (lI xs))∧(0≤(lI xs)∧(lI xs)≤255)∧((0:Int)=0∧(lI xs)=xs.length∧xs.length≤12)∧(vals=vals∧(True∧(([]:List SV)=[]))∧((([]:List SV)=[]))∧((insC cmpII xs 0 xs.length)=(insC cmpII xs 0 xs.length)∧nl=nl))
def Q6i:Cx:=⟨[],[(107,Q60)],11,[],0,[(106,Q1t)],[],[],[],false,[],[],[],[]⟩
def Q6k (xs:List Int) (nl:Bool)  (vals:List Value):List (Nat×LoopAnn):=[]
set_option maxRecDepth 100000 in
theorem Z2v (xs:List Int) (nl:Bool) (d:Unit):(∀ vals,gwp Q6i (Q6k xs nl  vals) c96 0 (lendK vals [] (Q5r xs nl d) (.lst 3 (.i .i64) (Q5h xs nl d) nl) (.lst 0)) (lstart 11 (.lst 0) (.lst 3 (.i .i64) xs nl) vals (AL.can Q6o d)))=Q1y xs nl :=by kernel_rfl
abbrev Z32:Prop:=XOk Tryz.prog 96 Q43
theorem Z2z (h:∀ (xs:List Int) (nl:Bool) ,(xs.length≤12)→Q1y xs nl ):XOk Tryz.prog 96 Q43 :=
 Z4k fun96 mixed Z18 (C:=Q6i) ⟨(.cons Z2r .nil),(XsOk.cons Q7p XsOk.nil),ItsOk.nil,YlOk.nil,IysOk.nil,XfOk.nil⟩ (L:=fun xs nl (d:Unit) vals=>Q6k xs nl  vals) (V:=fun xs nl (d:Unit)=>Q1y xs nl ) Z2v fun xs nl d hp=>h xs nl  hp
theorem Z1m:Z32:=Z2z fun xs nl h=>by unfold Q1y;(try delta lI gD sT I64);intro vals;refine⟨by simp only[Z5i];omega,⟨by omega,by omega⟩,⟨rfl,rfl,h⟩,?_⟩;exact(by and_intros<;>first|rfl|trivial|simp)
end Go.Proofs.Tryz
set_option linter.unusedVariables false
namespace Go.Proofs.Tryz
open Go Go.V Go.Proofs
def alP (l:List Lot) (tl:Int) (i k:Int):Bool:=pairB (l.getD i.toNat lotD) (l.getD k.toNat lotD) tl
def evenL (l:List Lot) (tl:Int):Bool:=(List.range l.length).all fun k=>alikeL l tl (setL (2 ^ k))
def evenR (l:List Lot) (tl:Int):Bool:=(List.range l.length).all fun k=>alP l tl (k:Int) (k:Int)
theorem X4c (a b:Lot):farL a b=farL b a:=by unfold farL;simp only[Q9d];omega
theorem Z24 {l:List Lot}{tl i k:Int}:alP l tl i k=true↔(l.getD i.toNat lotD).1=(l.getD k.toNat lotD).1∧farL (l.getD i.toNat lotD) (l.getD k.toNat lotD)≤tl∧farL (l.getD i.toNat lotD) (l.getD i.toNat lotD)≤tl∧farL (l.getD k.toNat lotD) (l.getD k.toNat lotD)≤tl:=by simp only[alP,pairB,Bool.and_eq_true,beq_iff_eq,decide_eq_true_eq,and_assoc]
theorem J9w {l:List Lot}{tl i k:Int}(h:alP l tl i k=true):alP l tl k i=true:=by rw[Z24] at h ⊢;obtain⟨h1,h2,h3,h4⟩:=h;exact⟨h1.symm,by rw[X4c];exact h2,h4,h3⟩
theorem Z66 {l:List Lot}{tl:Int}{S:List Int}:alikeR (pickL l S) tl=true↔∀ i∈S,∀ k∈S,alP l tl i k=true:=by
 have hlen:(pickL l S).length=S.length:=List.length_map ..;have hat:∀ j,(h:j<S.length)→(pickL l S).getD j lotD=l.getD S[j].toNat lotD:=fun j h=>by rw[X3x h,Q03 h]
 rw[X0p,hlen];constructor
 ·intro h i hi k hk;obtain⟨p,hp,rfl⟩:=List.getElem_of_mem hi;obtain⟨q,hq,rfl⟩:=List.getElem_of_mem hk;have:=h p hp q hq;rw[hat p hp,hat q hq] at this;exact this
 ·intro h p hp q hq;rw[hat p hp,hat q hq];exact h _ (List.getElem_mem hp) _ (List.getElem_mem hq)
theorem J8h {l:List Lot}{tl:Int}{n:Nat}(h0:0<n):alikeL l tl (setL n)=true↔∀ i∈setL n,∀ k∈setL n,alP l tl i k=true:=by unfold alikeL;rw[J84 fun e=>X3o h0 (by simpa [pickL] using e),Z66]
theorem J5s {a b:Nat}(ha:a<64) (hb:b<64) (i:Int):i∈setL (2 ^ a ||| 2 ^ b)↔i=a∨i=b:=by
 have h1:2 ^ a<2 ^ 64:=Nat.pow_lt_pow_right (by omega) ha;have h2:2 ^ b<2 ^ 64:=Nat.pow_lt_pow_right (by omega) hb;rw[J5f (Nat.or_lt_two_pow h1 h2)];simp only[Nat.testBit_or,Nat.testBit_two_pow,Bool.or_eq_true,decide_eq_true_eq];constructor
 ·rintro⟨k,rfl,h|h⟩
  ·exact .inl (by rw[h])
  ·exact .inr (by rw[h])
 ·rintro (rfl|rfl)
  ·exact⟨a,rfl,.inl rfl⟩
  ·exact⟨b,rfl,.inr rfl⟩
theorem J7m {l:List Lot}{tl:Int}{a b:Nat}(ha:a<64) (hb:b<64):alikeL l tl (setL (2 ^ a ||| 2 ^ b))=alP l tl a b:=by
 have hpos:0<2 ^ a ||| 2 ^ b:=Nat.lt_of_lt_of_le (Nat.two_pow_pos a) Nat.left_le_or
 rw[Bool.eq_iff_iff,J8h hpos];constructor
 ·intro h;exact h a ((J5s ha hb _).2 (.inl rfl)) b ((J5s ha hb _).2 (.inr rfl))
 ·intro h i hi k hk;have h2:=J9w h;have h3:=Z24.1 h;have haa:alP l tl a a=true:=Z24.2 ⟨rfl,h3.2.2.1,h3.2.2.1,h3.2.2.1⟩;have hbb:alP l tl b b=true:=Z24.2 ⟨rfl,h3.2.2.2,h3.2.2.2,h3.2.2.2⟩;rcases (J5s ha hb _).1 hi with rfl|rfl<;>rcases (J5s ha hb _).1 hk with rfl|rfl<;>assumption
theorem J89 {l:List Lot}{tl:Int}{a:Nat}(ha:a<64):alikeL l tl (setL (2 ^ a))=alP l tl a a:=by
 have:=J7m (l:=l) (tl:=tl) ha ha
 rwa [Nat.or_self] at this
theorem X30 {l:List Lot}{tl:Int}(h:l.length≤12):evenL l tl=evenR l tl:=by unfold evenL evenR;rw[Bool.eq_iff_iff,List.all_eq_true,List.all_eq_true];exact⟨fun h2 k hk=>by rw[←J89 (by have:=List.mem_range.1 hk;omega)];exact h2 k hk,fun h2 k hk=>by rw[J89 (by have:=List.mem_range.1 hk;omega)];exact h2 k hk⟩
def parGo (al:Int→Int→Bool):Nat→List Int→List Int×List (List Int)
 |0,_=>([],[])
 |n+1,L=>match L with
  |[]=>([],[])
  |h::t=>(h::(parGo al n ((h::t).filter fun i=>!al h i)).1,insC cmpII ((h::t).filter (al h)) 0 ((h::t).filter (al h)).length::(parGo al n ((h::t).filter fun i=>!al h i)).2)
section
variable {al:Int→Int→Bool}
theorem J52 {h:Int}{t:List Int}(hr:al h h=true):((h::t).filter fun i=>!al h i).length≤t.length:=by rw[List.filter_cons,if_neg (by simp[hr])];exact List.length_filter_le ..
theorem J3o:∀ n m (L:List Int),(∀ i∈L,al i i=true)→L.length≤n→L.length≤m→parGo al n L=parGo al m L
 |n,m,[],_,_,_=>by cases n<;>cases m<;>rfl
 |0,m,h::t,_,h1,_=>by simp at h1
 |n+1,0,h::t,_,_,h2=>by simp at h2
 |n+1,m+1,h::t,hr,h1,h2=>by have hl:=J52 (t:=t) (hr h (List.mem_cons_self ..));have hr':∀ i∈((h::t).filter fun i=>!al h i),al i i=true:=fun i hi=>hr i (List.mem_filter.1 hi).1;simp only[List.length_cons] at h1 h2;have:=J3o n m _ hr' (by omega) (by omega);simp only[parGo];rw[this]
theorem J7x:∀ n (L:List Int),(parGo al n L).1.length=(parGo al n L).2.length
 |0,_=>rfl
 |n+1,[]=>rfl
 |n+1,h::t=>by simp only[parGo,List.length_cons];rw[J7x n]
theorem J1q {p:Int→Bool}:∀ L:List Int,(L.filter p++L.filter fun i=>!p i).Perm L
 |[]=>.refl _
 |x::L=>by
  have ih:=J1q (p:=p) L;cases hp:p x with
  |true=>rw[List.filter_cons,if_pos hp,List.filter_cons,if_neg (by simp[hp])];exact ih.cons x
  |false =>rw[List.filter_cons,if_neg (by simp[hp]),List.filter_cons,if_pos (by simp[hp])];exact List.perm_middle.trans (ih.cons x)
theorem J43:∀ n (L:List Int),(∀ i∈L,al i i=true)→L.length≤n→((parGo al n L).2.flatten).Perm L
 |0,L,_,h=>by cases L with|nil=>exact .refl _|cons x t=>simp at h
 |n+1,[],_,_=>.refl _
 |n+1,h::t,hr,h1=>by have hl:=J52 (t:=t) (hr h (List.mem_cons_self ..));have hr':∀ i∈((h::t).filter fun i=>!al h i),al i i=true:=fun i hi=>hr i (List.mem_filter.1 hi).1;simp only[List.length_cons] at h1;have ih:=J43 n _ hr' (by omega);simp only[parGo,List.flatten_cons];exact((Q3g (Nat.le_refl _)).append ih).trans (J1q _)
theorem J4h {R:Int→Int→Prop}:∀ n (L:List Int),(∀ i∈L,al i i=true)→L.Pairwise R→L.length≤n →
  (∀ h∈(parGo al n L).1,h∈L)∧(parGo al n L).1.Pairwise (fun a b=>al a b=false)∧(∀ c∈(parGo al n L).2,c.Pairwise (·≤·)∧∃ h,h∈c∧∀ i∈c,al h i=true∧(i=h∨R h i))
 |0,L,_,_,h=>⟨(fun h hh=>by cases hh),.nil,(fun h hh=>by cases hh)⟩
 |n+1,[],_,_,_=>⟨(fun h hh=>by cases hh),.nil,(fun h hh=>by cases hh)⟩
 |n+1,h::t,hr,hp,h1=>by
  have hl:=J52 (t:=t) (hr h (List.mem_cons_self ..));have hr':∀ i∈((h::t).filter fun i=>!al h i),al i i=true:=fun i hi=>hr i (List.mem_filter.1 hi).1;simp only[List.length_cons] at h1;obtain⟨g1,g2,g3⟩:=J4h n _ hr' (hp.filter _) (by omega);simp only[parGo];refine⟨fun x hx=>?_,List.Pairwise.cons (fun x hx=>?_) g2,fun c hc=>?_⟩
  ·rcases List.mem_cons.1 hx with rfl|hx
   ·exact List.mem_cons_self ..
   ·exact(List.mem_filter.1 (g1 x hx)).1
  ·have:=(List.mem_filter.1 (g1 x hx)).2;simpa using this
  ·rcases List.mem_cons.1 hc with rfl|hc
   ·refine⟨sortI _,h,?_,fun i hi=>?_⟩
    ·exact(Q3g (Nat.le_refl _)).mem_iff.2 (List.mem_filter.2 ⟨List.mem_cons_self ..,hr h (List.mem_cons_self ..)⟩)
    ·have hi:=List.mem_filter.1 ((Q3g (Nat.le_refl _)).mem_iff.1 hi);refine⟨hi.2,?_⟩;rcases List.mem_cons.1 hi.1 with rfl|h3
     ·exact .inl rfl
     ·exact .inr ((List.pairwise_cons.1 hp).1 i h3)
   ·exact g3 c hc
end
def ordL (l:List Lot):List Int:=insC (cmpP l) (setL (2 ^ l.length-1)) 0 (setL (2 ^ l.length-1)).length
def alC (l:List Lot) (tl:Int) (i k:Int):Bool:=alikeL l tl (setL (2 ^ i.toNat ||| 2 ^ k.toNat))
def parR (l:List Lot) (tl:Int):List Int×List (List Int):=parGo (alC l tl) (ordL l).length (ordL l)
def parH (l:List Lot) (tl:Int):List Int:=insC cmpII (parR l tl).1 0 (parR l tl).1.length
def parC (l:List Lot) (tl:Int):List (List Int):=insC (fun p:List Int×List Int=>cmpL p.1 p.2) (parR l tl).2 0 (parR l tl).2.length
def partErr (l:List Lot) (tl:Int):Int:=if openErr l tl≠0 then openErr l tl else if evenL l tl then 0 else 9
def parHW (l:List Lot) (tl:Int):List Int:=if partErr l tl=0 then parH l tl else []
def parCW (l:List Lot) (tl:Int):List (List Int):=if partErr l tl=0 then parC l tl else []
theorem X2x (a b:Int):cmpI a b =-cmpI b a:=by unfold cmpI;split<;>split<;>(try split)<;>omega
theorem Z1c:∀ a b:List Int,cmpL a b =-cmpL b a
 |[],[]=>rfl
 |[],_::_=>rfl
 |_::_,[]=>rfl
 |x::a,y::b=>by simp only[cmpL];have h:=X2x x y;have ih:=Z1c a b;split<;>split<;>omega
theorem J4i:∀ a b c:List Int,cmpL a b≤0→cmpL b c≤0→cmpL a c≤0
 |[],_,[],_,_=>by simp[cmpL]
 |[],_,_::_,_,_=>by simp[cmpL]
 |_::_,[],_,h,_=>by simp[cmpL] at h
 |_::_,_::_,[],_,h=>by simp[cmpL] at h
 |x::a,y::b,z::c,h1,h2=>by simp only[cmpL] at h1 h2 ⊢;have ih:=J4i a b c;unfold cmpI at h1 h2 ⊢;by_cases e1:x<y<;>by_cases e2:y<x<;>by_cases e3:y<z<;>by_cases e4:z<y<;>by_cases e5:x<z<;>by_cases e6:z<x<;>simp only[e1,e2,e3,e4,e5,e6,if_true,if_false] at h1 h2 ⊢<;>first|omega|(simp at h1 h2 ⊢;first|omega|exact ih h1 h2)
theorem sortC (xs:List (List Int)):(insC (fun p:List Int×List Int=>cmpL p.1 p.2) xs 0 xs.length).Pairwise fun x y=>cmpL x y≤0 :=
 (J1w (f:=fun p:List Int×List Int=>cmpL p.1 p.2) (fun x y h h2=>by have:=Z1c x y;dsimp only at h h2;omega) (fun x y z h1 h2 h3=>by
  dsimp only at h1 h2 h3;have a1:=Z1c x y;have a2:=Z1c y z;have a3:=Z1c x z;have:=J4i x y z (by omega) (by omega);omega) xs).imp fun {x y} h=>by
  dsimp only at h;have:=Z1c x y;omega
theorem J66 {l:List Lot}{x y:Int}:cmpP l (x,y)<0↔(l.getD x.toNat lotD).1<(l.getD y.toNat lotD).1∨(l.getD x.toNat lotD).1=(l.getD y.toNat lotD).1∧(l.getD x.toNat lotD).2.1.1<(l.getD y.toNat lotD).2.1.1:=by
 have e:∀ a b:Int,orI [a,b]=if a≠0 then a else b:=fun a b=>by
  unfold orI;by_cases h:a=0
  ·subst h;by_cases h2:b=0
   ·subst h2;rfl
   ·simp[h2]
  ·simp[h]
 unfold cmpP;rw[e];dsimp only;generalize (l.getD x.toNat lotD).1=c1;generalize (l.getD y.toNat lotD).1=c2;unfold cmpI;split<;>split<;>(try split)<;>(try split)<;>omega
theorem sortP (l:List Lot) (xs:List Int):(insC (cmpP l) xs 0 xs.length).Pairwise fun x y=>¬ cmpP l (y,x)<0 :=
 J1w (fun x y h h2=>by rw[J66] at h h2;omega) (fun x y z h1 h2 h3=>by rw[J66] at h1 h2 h3;omega) xs
theorem X4v {n:Nat}(hn:n≤64):setL (2 ^ n-1)=(List.range n).map fun (k:Nat)=>(k:Int):=by rw[J8v (m:=n) (by have:=Nat.two_pow_pos n;omega) hn];unfold chosenK;rw[List.filter_eq_self.2 fun k hk=>by rw[Nat.testBit_two_pow_sub_one];simpa using hk]
theorem J05 {l:List Lot}(h:l.length≤12):(ordL l).Perm ((List.range l.length).map fun (k:Nat)=>(k:Int)):=by unfold ordL;rw[←X4v (by omega)];exact Q3g (Nat.le_refl _)
theorem Z4q {l:List Lot}(h:l.length≤12) {i:Int}:i∈ordL l↔0≤i∧i<l.length:=by
 rw[(J05 h).mem_iff,List.mem_map];constructor
 ·rintro⟨k,hk,rfl⟩;have:=List.mem_range.1 hk;omega
 ·intro h2;exact⟨i.toNat,List.mem_range.2 (by omega),by omega⟩
theorem J7d {l:List Lot}{tl i k:Int}(hl:l.length≤12) (hi:0≤i∧i<l.length) (hk:0≤k∧k<l.length):alC l tl i k=alP l tl i k:=by unfold alC;rw[J7m (by omega) (by omega),show ((i.toNat:Nat):Int)=i by omega,show ((k.toNat:Nat):Int)=k by omega]
theorem J80 {l:List Lot}{tl:Int}(hl:l.length≤12) (he:evenL l tl=true):∀ i∈ordL l,alC l tl i i=true:=fun i hi=>by
 have hi:=(Z4q hl).1 hi;rw[J7d hl hi hi];rw[X30 hl] at he;have:=List.all_eq_true.1 he i.toNat (List.mem_range.2 (by omega))
 rwa [show ((i.toNat:Nat):Int)=i by omega] at this
theorem X2w {l:List Lot}{tl:Int}(hl:l.length≤12) (hok:∀ y∈l,lotOk y=true) (he:evenL l tl=true) :
  (parC l tl).flatten.Perm ((List.range l.length).map fun (k:Nat)=>(k:Int))∧(∀ c∈parC l tl,c.Pairwise (·≤·)∧c≠[]∧alikeR (pickL l c) tl=true)∧(parC l tl).Pairwise (fun x y=>cmpL x y≤0) ∧
  (parH l tl).Pairwise (·<·)∧(∀ i∈parH l tl,0≤i∧i<l.length)∧(∀ i∈parH l tl,∀ k∈parH l tl,i≠k→alP l tl i k=false)∧(parH l tl).length=(parC l tl).length:=by
 have hr:=J80 hl he;have hpw:=sortP l (setL (2 ^ l.length-1));obtain⟨g1,g2,g3⟩:=J4h (al:=alC l tl) (ordL l).length (ordL l) hr hpw (Nat.le_refl _);have gp:=J43 (al:=alC l tl) (ordL l).length (ordL l) hr (Nat.le_refl _);have gl:=J7x (al:=alC l tl) (ordL l).length (ordL l);change ∀ h∈(parR l tl).1,h∈ordL l at g1;change (parR l tl).1.Pairwise _ at g2;change ∀ c∈(parR l tl).2,_ at g3;change (parR l tl).2.flatten.Perm _ at gp;change (parR l tl).1.length=(parR l tl).2.length at gl;have hC:(parC l tl).Perm (parR l tl).2:=Q3g (Nat.le_refl _);have hH:(parH l tl).Perm (parR l tl).1:=Q3g (Nat.le_refl _);have hin:∀ i∈(parR l tl).1,0≤i∧i<l.length:=fun i hi=>(Z4q hl).1 (g1 i hi);have hcin:∀ c∈(parR l tl).2,∀ i∈c,0≤i∧i<l.length:=fun c hc i hi=>(Z4q hl).1 (gp.mem_iff.1 (List.mem_flatten.2 ⟨c,hc,hi⟩));have hnd:(parR l tl).1.Nodup:=by refine g2.imp_of_mem fun {a b} ha _ h e=>?_;subst e;rw[hr a (g1 a ha)] at h;cases h
 refine⟨(hC.flatten.trans gp).trans (J05 hl),fun c hc=>?_,sortC _,sortS hnd,fun i hi=>hin i (hH.mem_iff.1 hi),fun i hi k hk hne=>?_,?_⟩
 ·have hc:=hC.mem_iff.1 hc;obtain⟨s1,h,s2,s3⟩:=g3 c hc;have hhin:=hcin c hc h s2;refine⟨s1,List.ne_nil_of_mem s2,Z66.2 fun i hi k hk=>?_⟩;have hiin:=hcin c hc i hi;have hkin:=hcin c hc k hk;obtain⟨a1,a2⟩:=s3 i hi;obtain⟨b1,b2⟩:=s3 k hk;rw[J7d hl hhin hiin,Z24] at a1;rw[J7d hl hhin hkin,Z24] at b1;obtain⟨p1,p2,p3,p4⟩:=a1;obtain⟨q1,q2,q3,q4⟩:=b1;refine Z24.2 ⟨p1.symm.trans q1,?_,p4,q4⟩;have la:(l.getD h.toNat lotD).2.1.1≤(l.getD i.toNat lotD).2.1.1:=by
   rcases a2 with rfl|a2
   ·exact Int.le_refl _
   ·rw[J66] at a2;omega
  have lb:(l.getD h.toNat lotD).2.1.1≤(l.getD k.toNat lotD).2.1.1:=by
   rcases b2 with rfl|b2
   ·exact Int.le_refl _
   ·rw[J66] at b2;omega
  unfold farL at p2 q2 ⊢;simp only[Q9d] at p2 q2 ⊢;omega
 ·have hi':=hH.mem_iff.1 hi;have hk':=hH.mem_iff.1 hk;have key:alC l tl i k=false∨alC l tl k i=false:=by
   obtain⟨p,hp,rfl⟩:=List.getElem_of_mem hi';obtain⟨q,hq,rfl⟩:=List.getElem_of_mem hk';rcases Nat.lt_trichotomy p q with h|h|h
   ·exact .inl (List.pairwise_iff_getElem.1 g2 p q hp hq h)
   ·subst h;exact(hne rfl).elim
   ·exact .inr (List.pairwise_iff_getElem.1 g2 q p hq hp h)
  rcases key with h|h
  ·rwa [J7d hl (hin i hi') (hin k hk')] at h
  ·rw[J7d hl (hin k hk') (hin i hi')] at h;cases h2:alP l tl i k with
   |false=>rfl
   |true=>rw[J9w h2] at h;cases h
 ·rw[hH.length_eq,hC.length_eq,gl]
theorem Z4d {α:Type}{a b:List α}(h:a.Perm b):a.isEmpty=b.isEmpty:=by have:=h.length_eq;cases a<;>cases b<;>simp_all
theorem J14 {i:Int}(h0:0≤i) (h:i≤63):shlI .u64 1 i=((2 ^ i.toNat:Nat):Int):=by unfold shlI;rw[show Nat.min i.toNat (IntKind.bits .u64)=i.toNat from Nat.min_eq_left (show i.toNat≤64 by omega),Int.one_mul];simp
theorem X7r {a b:Nat}(ha:a<2 ^ 64) (hb:b<2 ^ 64):vbits .or .u64 (a:Int) (b:Int)=((a ||| b:Nat):Int):=by
 have e:(BitVec.ofInt 64 ((a:Nat):Int) ||| BitVec.ofInt 64 ((b:Nat):Int)).toNat=a ||| b:=by rw[BitVec.toNat_or,BitVec.toNat_ofInt,BitVec.toNat_ofInt];congr 1<;>omega
 have hlt:=Nat.or_lt_two_pow ha hb;show IntKind.wrap .u64 ((BitVec.ofInt 64 ((a:Nat):Int) ||| BitVec.ofInt 64 ((b:Nat):Int)).toNat:Int)=_;rw[e];simp[IntKind.wrap,IntKind.bits,IntKind.signed];omega
theorem X58 {i k:Int}(hi:0≤i∧i≤12) (hk:0≤k∧k≤12):vbits .or .u64 (shlI .u64 1 i) (shlI .u64 1 k)=((2 ^ i.toNat ||| 2 ^ k.toNat:Nat):Int):=by rw[J14 hi.1 (by omega),J14 hk.1 (by omega)];exact X7r (Nat.pow_lt_pow_right (by omega) (by omega)) (Nat.pow_lt_pow_right (by omega) (by omega))
theorem Z6d {n:Nat}(h:n≤12):2 ^ n≤4096:=Nat.pow_le_pow_right (n:=2) (by omega) h
theorem J02 {l:List Lot}{tl e:Int}(h:partErr l tl=e) (h0:e≠0):parHW l tl=[]∧parCW l tl=[]:=by unfold parHW parCW;rw[if_neg (by omega),if_neg (by omega)];exact⟨rfl,rfl⟩
theorem J3x:∀ {l m:List Nat},l.Nodup→(∀ x∈l,x∈m)→l.length≤m.length
 |[],_,_,_=>Nat.zero_le _
 |x::l,m,hn,hs=>by have hn:=List.nodup_cons.1 hn;have hx:=hs x (List.mem_cons_self ..);have:=J3x (l:=l) (m:=m.erase x) hn.2 fun y hy=>(List.mem_erase_of_ne (by rintro rfl;exact hn.1 hy)).2 (hs y (List.mem_cons_of_mem _ hy));rw[List.length_erase_of_mem hx] at this;have:0<m.length:=List.length_pos_of_mem hx;simp only[List.length_cons];omega
theorem X73 {S:List Int}{K:Nat}(f:Int→Nat) (hn:S.Nodup) (hf:∀ i∈S,f i<K) (hi:∀ i∈S,∀ j∈S,f i=f j→i=j):S.length≤K:=by
 have h1:(S.map f).Nodup:=List.pairwise_map.2 (hn.imp_of_mem fun {a b} ha hb h e=>h (hi a ha b hb e));have:=J3x (m:=List.range K) h1 fun x hx=>by obtain⟨i,h,rfl⟩:=List.mem_map.1 hx;exact List.mem_range.2 (hf i h)
 rwa [List.length_map,List.length_range] at this
theorem J9r:∀ {m:List (Int×Bool)}{k:Int},(∀ p∈m,p.2=true)→gq.aget (.i .i64) m k false=false→(aput (.i .i64) m k true).length=m.length+1∧∀ p∈aput (.i .i64) m k true,p.2=true
 |[],k,_,_=>⟨rfl,fun p hp=>by rw[show aput (.i .i64) [] k true=[(k,true)] from rfl] at hp;rw[List.mem_singleton.1 hp]⟩
 |(a,b)::m,k,ht,h=>by
  rw[Z38] at h;have hb:b=true:=ht (a,b) (List.mem_cons_self ..);by_cases e:k=a
  ·rw[if_pos e,hb] at h;cases h
  ·rw[if_neg e] at h;obtain⟨h1,h2⟩:=J9r (m:=m) (k:=k) (fun p hp=>ht p (List.mem_cons_of_mem _ hp)) h;rw[J6g,if_neg e];refine⟨by rw[List.length_cons,h1];rfl,fun p hp=>?_⟩;rcases List.mem_cons.1 hp with rfl|hp
   ·exact hb
   ·exact h2 p hp
end Go.Proofs.Tryz
set_option linter.unusedVariables false
namespace Go.Proofs.Tryz
open Go Go.V Go.Proofs
def Q8u:AL ((List (Int×(Int×Int)×Int))×Int):=(.one (.agg (.cons (.k (.list (.pair (.i .i64) (.pair (.pair (.i .i64) (.i .i64)) (.i .i64))))) (.one (.k (.i .i64))))))
def Z4t (d:(List (Int×(Int×Int)×Int))×Int):Prop:=d.1.length≤12∧(∀ y∈d.1,lotOk y=true)
def Q87 (d:(List (Int×(Int×Int)×Int))×Int):SV:=.val .bo (evenL d.1 d.2)
def Q83 (d:(List (Int×(Int×Int)×Int))×Int):List OB:=[]
def Q6d:CSp:=mkSp Q8u Z4t Q87 Q83
def Q3f (l:List (Int×(Int×Int)×Int)) (tl:Int):Prop :=
 ∃ (e3:Unit) (d30:Int),((True∧(lI l)=(lI l)∧(0:Int)=d30∧True)∧((l=l∧tl=tl∧(([]:List SV)=[]))∧True)) ∧
 LoopP (fun (d3:Int) (q3:(Int)→Prop) =>
  ((decide (d3<(lI l)))=true →
   (0≤d3)∧(InK .u64 (shlI .u64 (1:Int) d3))∧(l.length≤12∧(∀ y∈l,lotOk y=true)∧0<(shlI .u64 (1:Int) d3)∧(shlI .u64 (1:Int) d3)<2 ^ l.length)∧((!(alikeL l tl (setL (shlI .u64 (1:Int) d3).toNat)))=true →
    (false=(evenL l tl)∧(True))) ∧
   ((!(alikeL l tl (setL (shlI .u64 (1:Int) d3).toNat)))=false →
    (I64 (d3+(1:Int)))∧(∃ d4:Int,((True∧(lI l)=(lI l)∧(d3+(1:Int))=d4∧True)∧((l=l∧tl=tl∧(([]:List SV)=[]))∧True))∧q3 d4))) ∧
  ((decide (d3<(lI l)))=false →
   (true=(evenL l tl)∧(True)))) d30
def Q8y:Cx:=⟨[],[(79,Q3a)],16,[],0,[],[],[],[],false,[],[],[],[]⟩
def Z5t (l:List (Int×(Int×Int)×Int)) (tl:Int):List (Nat×LoopAnn):=[(0,⟨Unit,Int,[1,6,7],fun e x=>[.box 1 0,.val (.i .i64) (((List.length l):Nat):Int),.val (.i .i64) x],fun e x=>[(1,.slot 1,.cells [.val (.list (.pair (.i .i64) (.pair (.pair (.i .i64) (.i .i64)) (.i .i64)))) l,.val (.i .i64) tl] (some 105))]⟩)]
set_option maxRecDepth 100000 in
theorem Z5q (d:(List (Int×(Int×Int)×Int))×Int):gwp (Q8y) (Z5t d.1 d.2) c76 0 (gend [.tmp 2] (Q87 d) (Q83 d)) (gstart 16 (AL.can Q8u d))=Q3f d.1 d.2:=by kernel_rfl
abbrev Z6a:Prop:=OkC Tryz.prog 76 Q6d
theorem Z64 (h:∀ (l:List (Int×(Int×Int)×Int)) (tl:Int),(l.length≤12∧(∀ y∈l,lotOk y=true))→Q3f l tl):OkC Tryz.prog 76 Q6d :=
 Q1b fun76 mixed (C:=Q8y) (V:=fun (d:(List (Int×(Int×Int)×Int))×Int)=>Q3f d.1 d.2) ⟨(.cons Q80 .nil),XsOk.nil,ItsOk.nil,YlOk.nil,IysOk.nil,XfOk.nil⟩ (Z5q) fun d hp=>h d.1 d.2 hp
theorem Z60:Z6a:=Z64 fun l tl h=>by
 obtain⟨h1,h2⟩:=h;unfold Q3f;(try delta lI gD sT I64);refine⟨(),0,(by and_intros<;>first|rfl|trivial|simp),?_⟩;refine LoopP.count l.length (fun k=>∀ j,j<k→alikeL l tl (setL (2 ^ j))=true) (fun j hj=>by omega) ?_;rintro k hk hJ q hq;refine⟨fun c=>?_,fun c=>?_⟩
 ·have c:k<l.length:=by simp at c;omega
  have hsh:shlI .u64 1 (k:Int)=((2 ^ k:Nat):Int):=J14 (by omega) (by omega);have hp:=Z6d (n:=k) (by omega);have hp0:=Nat.two_pow_pos k;have hlt:2 ^ k<2 ^ l.length:=Nat.pow_lt_pow_right (by omega) c;have hpi:(2:Int) ^ l.length=((2 ^ l.length:Nat):Int):=by simp
  simp only[hsh,Int.toNat_natCast,hpi];refine⟨by omega,by simp only[Z5i];omega,⟨h1,h2,by omega,by omega⟩,fun c2=>?_,fun c2=>?_⟩
  ·have c2:alikeL l tl (setL (2 ^ k))=false:=by simpa using c2
   have:evenL l tl=false:=by
    cases he:evenL l tl with
    |false=>rfl
    |true=>rw[List.all_eq_true.1 he k (List.mem_range.2 c)] at c2;cases c2
   rw[this];exact(by and_intros<;>first|rfl|trivial|simp)
  ·have c2:alikeL l tl (setL (2 ^ k))=true:=by simpa using c2
   refine⟨by simp only[Q1a];omega,(k:Int)+1,(by and_intros<;>first|rfl|trivial|simp),hq c fun j hj=>?_⟩;by_cases e:j=k
   ·subst e;exact c2
   ·exact hJ j (by omega)
 ·have:evenL l tl=true:=List.all_eq_true.2 fun j hj=>hJ j (by have:=List.mem_range.1 hj;simp at c;omega);rw[this];exact(by and_intros<;>first|rfl|trivial|simp)
def Q79:AL ((List (Int×(Int×Int)×Int))×Int):=(.one (.agg (.cons (.k (.list (.pair (.i .i64) (.pair (.pair (.i .i64) (.i .i64)) (.i .i64))))) (.one (.k (.i .i64))))))
def Z2x (d:(List (Int×(Int×Int)×Int))×Int):Prop:=d.1.length≤12∧(∀ y∈d.1,lotOk y=true)∧evenL d.1 d.2=true
def Q6n (d:(List (Int×(Int×Int)×Int))×Int):SV:=.tup [.lst 0,.lst 1]
def Q6m (d:(List (Int×(Int×Int)×Int))×Int):List OB:=[.lst 3 (.i .i64) (parH d.1 d.2) ((parH d.1 d.2).isEmpty),.lst 31 (.list (.i .i64)) (parC d.1 d.2) ((parC d.1 d.2).isEmpty)]
def Z4v:CSp:=mkSp Q79 Z2x Q6n Q6m
def Q2g (l:List (Int×(Int×Int)×Int)) (tl:Int):Prop :=
 (0≤(lI l))∧(InK .u64 (shlI .u64 (1:Int) (lI l)))∧(InK .u64 ((shlI .u64 (1:Int) (lI l))-(1:Int)))∧(0≤((shlI .u64 (1:Int) (lI l))-(1:Int))∧((shlI .u64 (1:Int) (lI l))-(1:Int))≤1048576)∧((setL ((shlI .u64 (1:Int) (lI l))-(1:Int)).toNat).length≤12∧(∀ x∈(setL ((shlI .u64 (1:Int) (lI l))-(1:Int)).toNat),∀ y∈(setL ((shlI .u64 (1:Int) (lI l))-(1:Int)).toNat),(fun (x1:Int×Int)=>l.length≤12∧(∀ y∈l,lotOk y=true)∧0≤x1.1∧x1.1<l.length∧0≤x1.2∧x1.2<l.length) (x,y)))∧∃ (e4:Unit) (d40:(List Int)×(List (List Int))×(List Int)),((True∧True∧True∧True∧True)∧((l=l∧tl=tl∧(([]:List SV)=[]))∧(d40.1=[]∧(List.isEmpty d40.1)=true)∧(d40.2.1=[]∧(List.isEmpty d40.2.1)=true)∧((insC (fun (x1:Int×Int)=>(cmpP l (x1.1,x1.2))) (setL ((shlI .u64 (1:Int) (lI l))-(1:Int)).toNat) 0 (setL ((shlI .u64 (1:Int) (lI l))-(1:Int)).toNat).length)=d40.2.2∧(setL ((shlI .u64 (1:Int) (lI l))-(1:Int)).toNat).isEmpty=(List.isEmpty d40.2.2))∧True)) ∧
 LoopP (fun (d4:(List Int)×(List (List Int))×(List Int)) (q4:((List Int)×(List (List Int))×(List Int))→Prop) =>
  ((decide ((lI d4.2.2) > (0:Int)))=true →
   (0≤(0:Int))∧((0:Int)<(List.length d4.2.2))∧∃ (e9:(List Int)×(List (List Int))×Int×(List Int)×Int) (d90:(List Int)×(List Int)×Int),((True∧True∧True∧(gD d4.2.2 (0:Int) 0)=e9.2.2.1∧True∧True∧True∧(lI d4.2.2)=e9.2.2.2.2∧(0:Int)=d90.2.2∧True)∧((l=l∧tl=tl∧(([]:List SV)=[]))∧(d4.1=e9.1∧(List.isEmpty d4.1)=(List.isEmpty e9.1))∧(d4.2.1=e9.2.1∧(List.isEmpty d4.2.1)=(List.isEmpty e9.2.1))∧(d90.1=[]∧(List.isEmpty d90.1)=true)∧(d90.2.1=[]∧(List.isEmpty d90.2.1)=true)∧(d4.2.2=e9.2.2.2.1∧(List.isEmpty d4.2.2)=(List.isEmpty e9.2.2.2.1))∧True)) ∧
   LoopP (fun (d9:(List Int)×(List Int)×Int) (q9:((List Int)×(List Int)×Int)→Prop) =>
    ((decide (d9.2.2<e9.2.2.2.2))=true →
     (0≤d9.2.2)∧(d9.2.2<(List.length e9.2.2.2.1))∧(0≤e9.2.2.1)∧(InK .u64 (shlI .u64 (1:Int) e9.2.2.1))∧(0≤(gD e9.2.2.2.1 d9.2.2 0))∧(InK .u64 (shlI .u64 (1:Int) (gD e9.2.2.2.1 d9.2.2 0)))∧(l.length≤12∧(∀ y∈l,lotOk y=true)∧0<(vbits .or .u64 (shlI .u64 (1:Int) e9.2.2.1) (shlI .u64 (1:Int) (gD e9.2.2.2.1 d9.2.2 0)))∧(vbits .or .u64 (shlI .u64 (1:Int) e9.2.2.1) (shlI .u64 (1:Int) (gD e9.2.2.2.1 d9.2.2 0)))<2 ^ l.length)∧((alikeL l tl (setL (vbits .or .u64 (shlI .u64 (1:Int) e9.2.2.1) (shlI .u64 (1:Int) (gD e9.2.2.2.1 d9.2.2 0))).toNat))=true →
      (((List.length d9.1)+(List.length [(gD e9.2.2.2.1 d9.2.2 0)]))*8≤70368744177664)∧(I64 (d9.2.2+(1:Int)))∧(∃ d10:(List Int)×(List Int)×Int,((True∧True∧True∧e9.2.2.1=e9.2.2.1∧True∧True∧True∧e9.2.2.2.2=e9.2.2.2.2∧(d9.2.2+(1:Int))=d10.2.2∧True)∧((l=l∧tl=tl∧(([]:List SV)=[]))∧(e9.1=e9.1∧(List.isEmpty e9.1)=(List.isEmpty e9.1))∧(e9.2.1=e9.2.1∧(List.isEmpty e9.2.1)=(List.isEmpty e9.2.1))∧((d9.1++[(gD e9.2.2.2.1 d9.2.2 0)])=d10.1∧false=(List.isEmpty d10.1))∧(d9.2.1=d10.2.1∧(List.isEmpty d9.2.1)=(List.isEmpty d10.2.1))∧(e9.2.2.2.1=e9.2.2.2.1∧(List.isEmpty e9.2.2.2.1)=(List.isEmpty e9.2.2.2.1))∧True))∧q9 d10)) ∧
     ((alikeL l tl (setL (vbits .or .u64 (shlI .u64 (1:Int) e9.2.2.1) (shlI .u64 (1:Int) (gD e9.2.2.2.1 d9.2.2 0))).toNat))=false →
      (((List.length d9.2.1)+(List.length [(gD e9.2.2.2.1 d9.2.2 0)]))*8≤70368744177664)∧(I64 (d9.2.2+(1:Int)))∧(∃ d11:(List Int)×(List Int)×Int,((True∧True∧True∧e9.2.2.1=e9.2.2.1∧True∧True∧True∧e9.2.2.2.2=e9.2.2.2.2∧(d9.2.2+(1:Int))=d11.2.2∧True)∧((l=l∧tl=tl∧(([]:List SV)=[]))∧(e9.1=e9.1∧(List.isEmpty e9.1)=(List.isEmpty e9.1))∧(e9.2.1=e9.2.1∧(List.isEmpty e9.2.1)=(List.isEmpty e9.2.1))∧(d9.1=d11.1∧(List.isEmpty d9.1)=(List.isEmpty d11.1))∧((d9.2.1++[(gD e9.2.2.2.1 d9.2.2 0)])=d11.2.1∧false=(List.isEmpty d11.2.1))∧(e9.2.2.2.1=e9.2.2.2.1∧(List.isEmpty e9.2.2.2.1)=(List.isEmpty e9.2.2.2.1))∧True))∧q9 d11))) ∧
    ((decide (d9.2.2<e9.2.2.2.2))=false →
     (d9.1.length≤12)∧(((List.length e9.1)+(List.length [e9.2.2.1]))*8≤70368744177664)∧(((List.length e9.2.1)+(List.length [(insC cmpII d9.1 0 d9.1.length)]))*24≤70368744177664)∧(∃ d12:(List Int)×(List (List Int))×(List Int),((True∧True∧True∧True∧True)∧((l=l∧tl=tl∧(([]:List SV)=[]))∧((e9.1++[e9.2.2.1])=d12.1∧false=(List.isEmpty d12.1))∧((e9.2.1++[(insC cmpII d9.1 0 d9.1.length)])=d12.2.1∧false=(List.isEmpty d12.2.1))∧(d9.2.1=d12.2.2∧(List.isEmpty d9.2.1)=(List.isEmpty d12.2.2))∧True))∧q4 d12))) d90) ∧
  ((decide ((lI d4.2.2) > (0:Int)))=false →
   (d4.1.length≤12)∧(d4.2.1.length≤12∧(∀ x∈d4.2.1,∀ y∈d4.2.1,(fun (x2:List Int×List Int)=>x2.1.length≤1000∧x2.2.length≤1000) (x,y)))∧((True∧True∧(([]:List SV)=[]))∧(((insC cmpII d4.1 0 d4.1.length)=(parH l tl)∧(List.isEmpty d4.1)=(parH l tl).isEmpty)∧((insC (fun (x2:List Int×List Int)=>(cmpL x2.1 x2.2)) d4.2.1 0 d4.2.1.length)=(parC l tl)∧(List.isEmpty d4.2.1)=(parC l tl).isEmpty)∧True)))) d40
def Q7i:Cx:=⟨[(3,(.i .i64)),(31,(.list (.i .i64)))],[(56,Q6e),(95,Q20),(79,Q3a),(82,Q1d)],64,[3,53,55,56,60,63],0,[(94,Q16),(96,Q43),(97,Q2m)],[],[(31,3)],[],false,[],[],[],[]⟩
def Q7n (l:List (Int×(Int×Int)×Int)) (tl:Int):List (Nat×LoopAnn):=[(0,⟨Unit,(List Int)×(List (List Int))×(List Int),[1,2,3,4],fun e x=>[.box 1 0,.lst 52,.lst 56,.lst 15],fun e x=>[(1,.slot 1,.cells [.val (.list (.pair (.i .i64) (.pair (.pair (.i .i64) (.i .i64)) (.i .i64)))) l,.val (.i .i64) tl] (some 105)),(52,.slot 2,.lst 3 (.i .i64) x.1 (List.isEmpty x.1)),(56,.slot 3,.lst 31 (.list (.i .i64)) x.2.1 (List.isEmpty x.2.1)),(15,.slot 4,.lst 3 (.i .i64) x.2.2 (List.isEmpty x.2.2))]⟩),
 (2,⟨(List Int)×(List (List Int))×Int×(List Int)×Int,(List Int)×(List Int)×Int,[1,2,3,5,6,7,25,26,27],fun e x=>[.box 1 0,.lst 52,.lst 56,.val (.i .i64) e.2.2.1,.lst 41,.lst 45,.lst 15,.val (.i .i64) e.2.2.2.2,.val (.i .i64) x.2.2],fun e x=>[(1,.slot 1,.cells [.val (.list (.pair (.i .i64) (.pair (.pair (.i .i64) (.i .i64)) (.i .i64)))) l,.val (.i .i64) tl] (some 105)),(52,.slot 2,.lst 3 (.i .i64) e.1 (List.isEmpty e.1)),(56,.slot 3,.lst 31 (.list (.i .i64)) e.2.1 (List.isEmpty e.2.1)),(41,.slot 6,.lst 3 (.i .i64) x.1 (List.isEmpty x.1)),(45,.slot 7,.lst 3 (.i .i64) x.2.1 (List.isEmpty x.2.1)),(15,.slot 25,.lst 3 (.i .i64) e.2.2.2.1 (List.isEmpty e.2.2.2.1))]⟩)]
set_option maxRecDepth 100000 in
theorem Z3r (d:(List (Int×(Int×Int)×Int))×Int):gwp (Q7i) (Q7n d.1 d.2) c77 0 (gend [.tmp 2,.tmp 3] (Q6n d) (Q6m d)) (gstart 64 (AL.can Q79 d))=Q2g d.1 d.2:=by kernel_rfl
def Q4n:XSp:=callV apNone Z4v
abbrev Z3g:Prop:=XOk Tryz.prog 77 Q4n
theorem Z3w (h:∀ (l:List (Int×(Int×Int)×Int)) (tl:Int),(l.length≤12∧(∀ y∈l,lotOk y=true)∧evenL l tl=true)→Q2g l tl):XOk Tryz.prog 77 Q4n :=
 J59 fun77 mixed Z18 (C:=Q7i) ⟨(.cons Z2c (.cons Q67 (.cons Q80 (.cons Q4w .nil)))),(XsOk.cons Q5z (XsOk.cons Z1m (XsOk.cons Q9r XsOk.nil))),ItsOk.nil,YlOk.nil,IysOk.nil,XfOk.nil⟩ (L:=fun (d:(List (Int×(Int×Int)×Int))×Int)=>Q7n d.1 d.2) (V:=fun (d:(List (Int×(Int×Int)×Int))×Int)=>Q2g d.1 d.2) (Z3r) fun d hp=>h d.1 d.2 hp
end Go.Proofs.Tryz
set_option linter.unusedVariables false
namespace Go.Proofs.Tryz
open Go Go.V Go.Proofs
theorem Z34:Z3g:=Z3w fun l tl h=>by
 obtain⟨⟨h1,h2⟩,h3⟩:(l.length≤12∧∀ y∈l,lotOk y=true)∧evenL l tl=true:=⟨⟨h.1,h.2.1⟩,h.2.2⟩;unfold Q2g;(try delta lI gD sT I64);have hp2:=Z6d h1;have hp0:=Nat.two_pow_pos l.length;have hsh:shlI .u64 1 (l.length:Int)=((2 ^ l.length:Nat):Int):=J14 (by omega) (by omega);have hn1:(((2 ^ l.length:Nat):Int)-1).toNat=2 ^ l.length-1:=by omega
 have hpi:(2:Int) ^ l.length=((2 ^ l.length:Nat):Int):=by simp
 simp only[hsh,hn1,hpi];have hmem:∀ x∈setL (2 ^ l.length-1),0≤x∧x<l.length:=fun x hx=>J91 (m:=l.length) (by omega) (by omega) x hx;have hie:(setL (2 ^ l.length-1)).isEmpty=(ordL l).isEmpty:=(Z4d (Q3g (Nat.le_refl _))).symm;have hrf:=J80 h1 h3;have hiu:∀ i:Int,0≤i→i≤12→InK .u64 (shlI .u64 1 i):=fun i a b=>by
  rw[J14 a (by omega)];have:=Z6d (n:=i.toNat) (by omega);simp only[Z5i];generalize 2 ^ i.toNat=z at *
  omega
 refine⟨by omega,by simp only[Z5i];omega,by simp only[Z5i];omega,⟨by omega,by omega⟩,⟨Nat.le_trans (J3r (m:=l.length) (by omega) (by omega)) h1,fun x hx y hy=>⟨h1,h2,(hmem x hx).1,(hmem x hx).2,(hmem y hy).1,(hmem y hy).2⟩⟩,(),([],[],ordL l),(by and_intros<;>first|rfl|trivial|exact hie|simp),?_⟩;refine⟨fun d=>(parR l tl).1=d.1++(parGo (alC l tl) d.2.2.length d.2.2).1∧(parR l tl).2=d.2.1++(parGo (alC l tl) d.2.2.length d.2.2).2∧(∀ i∈d.2.2,0≤i∧i<l.length)∧d.1.length+d.2.2.length≤12∧d.2.1.length=d.1.length∧∀ c∈d.2.1,c.length≤12,fun d=>d.2.2.length,⟨rfl,rfl,fun i hi=>(Z4q h1).1 hi,by have:=(J05 h1).length_eq;simp at this ⊢;omega,rfl,(fun c hc=>by cases hc)⟩,?_⟩;rintro⟨H,C,left⟩ ⟨i1,i2,i3,i4,i5,i6⟩;dsimp only at i1 i2 i3 i4 i5 i6 ⊢;refine⟨fun c=>?_,fun c=>?_⟩
 ·cases left with
  |nil=>simp at c
  |cons h t =>
  have hin:=i3 h (List.mem_cons_self ..);have hah:alC l tl h h=true:=hrf h ((Z4q h1).2 hin);refine⟨by omega,by simp,(H,C,h,h::t,((h::t).length:Int)),([],[],0),(by and_intros<;>first|rfl|trivial|simp),?_⟩;dsimp only;refine⟨fun d=>∃ k:Nat,d.2.2=k∧k≤(h::t).length∧d.1=((h::t).take k).filter (alC l tl h)∧d.2.1=((h::t).take k).filter (fun i=>!alC l tl h i),fun d=>(h::t).length-d.2.2.toNat,⟨0,rfl,by omega,rfl,rfl⟩,?_⟩;rintro⟨c1,r1,k'⟩ ⟨k,e1,e2,e3,e4⟩;dsimp only at e1 e3 e4 ⊢;subst e1;have hc1:c1.length≤12:=by rw[e3];have:=List.length_filter_le (alC l tl h) ((h::t).take k);rw[List.length_take] at this;omega
  have hr1:r1.length≤12:=by rw[e4];have:=List.length_filter_le (fun i=>!alC l tl h i) ((h::t).take k);rw[List.length_take] at this;omega
  refine⟨fun g=>?_,fun g=>?_⟩
  ·have g:k<(h::t).length:=by simp at g ⊢;omega
   have hx:(h::t).getD k 0=(h::t)[k]:=Q03 g;have hxin:=i3 _ (List.getElem_mem g);have htk:=Q2d g;simp only[Int.toNat_natCast,hx];generalize (h::t)[k]=x at hxin htk;have hb:=X58 (i:=h) (k:=x) (by omega) (by omega);have ho1:0<2 ^ h.toNat ||| 2 ^ x.toNat:=Nat.lt_of_lt_of_le (Nat.two_pow_pos _) Nat.left_le_or
   have ho2:2 ^ h.toNat ||| 2 ^ x.toNat<2 ^ l.length:=Nat.or_lt_two_pow (Nat.pow_lt_pow_right (by omega) (by omega)) (Nat.pow_lt_pow_right (by omega) (by omega))
   have hph:=Z6d (n:=h.toNat) (by omega);have hpx:=Z6d (n:=x.toNat) (by omega);rw[hb];simp only[Int.toNat_natCast];have hal:alikeL l tl (setL (2 ^ h.toNat ||| 2 ^ x.toNat))=alC l tl h x:=rfl;rw[hal];refine⟨by omega,by omega,by omega,hiu h (by omega) (by omega),by omega,hiu x (by omega) (by omega),⟨h1,h2,by omega,by omega⟩,fun g2=>?_,fun g2=>?_⟩
   ·refine⟨by simp;omega,by simp only[Q1a];omega,(c1++[x],r1,(k:Int)+1),(by and_intros<;>first|rfl|trivial|simp),⟨k+1,by simp,by omega,?_,?_⟩,by dsimp only;omega⟩
    ·dsimp only;rw[htk,List.filter_append,e3,List.filter_cons,if_pos g2];rfl
    ·dsimp only;rw[htk,List.filter_append,e4,List.filter_cons,if_neg (by simp[g2])];simp
   ·refine⟨by simp;omega,by simp only[Q1a];omega,(c1,r1++[x],(k:Int)+1),(by and_intros<;>first|rfl|trivial|simp),⟨k+1,by simp,by omega,?_,?_⟩,by dsimp only;omega⟩
    ·dsimp only;rw[htk,List.filter_append,e3,List.filter_cons,if_neg (by simp[g2])];simp
    ·dsimp only;rw[htk,List.filter_append,e4,List.filter_cons,if_pos (by simp[g2])];rfl
  ·have hk:k=(h::t).length:=by simp at g ⊢;simp at e2;omega
   rw[hk,List.take_length] at e3 e4;have hrl:r1.length≤t.length:=by rw[e4];exact J52 hah
   have hfu:=J3o (al:=alC l tl) t.length r1.length r1 (fun i hi=>by rw[e4] at hi;exact hrf i ((Z4q h1).2 (i3 i (List.mem_filter.1 hi).1))) hrl (Nat.le_refl _);have hP:parGo (alC l tl) (h::t).length (h::t)=(h::(parGo (alC l tl) r1.length r1).1,insC cmpII c1 0 c1.length::(parGo (alC l tl) r1.length r1).2):=by rw[←hfu,e3,e4];rfl
   simp only[List.length_cons] at i4;refine⟨hc1,by simp;omega,by simp;omega,(H++[h],C++[insC cmpII c1 0 c1.length],r1),(by and_intros<;>first|rfl|trivial|simp),⟨?_,?_,fun i hi=>?_,?_,?_,fun c hc=>?_⟩,?_⟩
   ·dsimp only;rw[i1,hP];simp
   ·dsimp only;rw[i2,hP];simp
   ·dsimp only at hi;rw[e4] at hi;exact i3 i (List.mem_filter.1 hi).1
   ·dsimp only;rw[List.length_append,List.length_singleton];omega
   ·dsimp only;rw[List.length_append,List.length_append,i5];rfl
   ·rcases List.mem_append.1 hc with hc|hc
    ·exact i6 c hc
    ·rw[List.mem_singleton.1 hc,(Q3g (Nat.le_refl _)).length_eq];exact hc1
   ·dsimp only;rw[List.length_cons];omega
 ·cases left with
  |cons h t=>simp at c
  |nil =>
  have j1:(parR l tl).1=H:=by rw[i1];simp[parGo]
  have j2:(parR l tl).2=C:=by rw[i2];simp[parGo]
  have k1:H.isEmpty=(parH l tl).isEmpty:=by unfold parH;rw[j1];exact(Z4d (Q3g (Nat.le_refl _))).symm
  have k2:C.isEmpty=(parC l tl).isEmpty:=by unfold parC;rw[j2];exact(Z4d (Q3g (Nat.le_refl _))).symm
  have k3:insC cmpII H 0 H.length=parH l tl:=by unfold parH;rw[j1]
  have k4:insC (fun p:List Int×List Int=>cmpL p.1 p.2) C 0 C.length=parC l tl:=by unfold parC;rw[j2]
  simp only[List.length_nil] at i4;refine⟨by omega,⟨by omega,fun x hx y hy=>⟨Nat.le_trans (i6 x hx) (by omega),Nat.le_trans (i6 y hy) (by omega)⟩⟩,?_⟩;and_intros<;>first|rfl|trivial|exact k1|exact k2|exact k3|exact k4
def Z76:AL ((List (Int×(Int×Int)×Int))×Int):=(.cons (.k (.list (.pair (.i .i64) (.pair (.pair (.i .i64) (.i .i64)) (.i .i64))))) (.one (.k (.i .i64))))
def J3c (d:(List (Int×(Int×Int)×Int))×Int):Prop:=d.1.length≤1000
def Z56 (d:(List (Int×(Int×Int)×Int))×Int):SV:=.tup [.lst 0,.lst 1,.val (.i .i64) (partErr d.1 d.2)]
def Z54 (d:(List (Int×(Int×Int)×Int))×Int):List OB:=[.lst 3 (.i .i64) (parHW d.1 d.2) ((parHW d.1 d.2).isEmpty),.lst 31 (.list (.i .i64)) (parCW d.1 d.2) ((parCW d.1 d.2).isEmpty)]
def J7v:CSp:=mkSp Z76 J3c Z56 Z54
def Q8i (l:List (Int×(Int×Int)×Int)) (tl:Int):Prop :=
 ∀ w1:List Value,(l.length≤1000)∧(((lotsErr l)==(0:Int))=true→True)∧(((lotsErr l)==(0:Int))=true→[tl].length≤1000000)∧((((lotsErr l)==(0:Int))&&(!(!([tl].any fun n=>decide (n<(0:Int))||decide ((1000:Int)<n)))))=true →
  w1=w1∧(((3:Int) != (0:Int))=true →
   ((True∧True∧(3:Int)=(partErr l tl)∧(([]:List SV)=[]))∧(((parHW l tl)=[]∧(parHW l tl).isEmpty=true)∧((parCW l tl)=[]∧(parCW l tl).isEmpty=true)∧True))) ∧
  (((3:Int) != (0:Int))=false →
   (l.length≤12∧(∀ y∈l,lotOk y=true))∧((!(evenL l tl))=true →
    ((True∧True∧(9:Int)=(partErr l tl)∧(([]:List SV)=[]))∧(((parHW l tl)=[]∧(parHW l tl).isEmpty=true)∧((parCW l tl)=[]∧(parCW l tl).isEmpty=true)∧True))) ∧
   ((!(evenL l tl))=false →
    (l.length≤12∧(∀ y∈l,lotOk y=true)∧evenL l tl=true)∧((True∧True∧(0:Int)=(partErr l tl)∧(([]:List SV)=[]))∧(((parH l tl)=(parHW l tl)∧(parH l tl).isEmpty=(parHW l tl).isEmpty)∧((parC l tl)=(parCW l tl)∧(parC l tl).isEmpty=(parCW l tl).isEmpty)∧True))))) ∧
 ((((lotsErr l)==(0:Int))&&(!(!([tl].any fun n=>decide (n<(0:Int))||decide ((1000:Int)<n)))))=false →
  w1=w1∧(((lotsErr l) != (0:Int))=true →
   ((True∧True∧(lotsErr l)=(partErr l tl)∧(([]:List SV)=[]))∧(((parHW l tl)=[]∧(parHW l tl).isEmpty=true)∧((parCW l tl)=[]∧(parCW l tl).isEmpty=true)∧True))) ∧
  (((lotsErr l) != (0:Int))=false →
   (l.length≤12∧(∀ y∈l,lotOk y=true))∧((!(evenL l tl))=true →
    ((True∧True∧(9:Int)=(partErr l tl)∧(([]:List SV)=[]))∧(((parHW l tl)=[]∧(parHW l tl).isEmpty=true)∧((parCW l tl)=[]∧(parCW l tl).isEmpty=true)∧True))) ∧
   ((!(evenL l tl))=false →
    (l.length≤12∧(∀ y∈l,lotOk y=true)∧evenL l tl=true)∧((True∧True∧(0:Int)=(partErr l tl)∧(([]:List SV)=[]))∧(((parH l tl)=(parHW l tl)∧(parH l tl).isEmpty=(parHW l tl).isEmpty)∧((parC l tl)=(parCW l tl)∧(parC l tl).isEmpty=(parCW l tl).isEmpty)∧True)))))
def Z7r:Cx:=⟨[(3,(.i .i64))],[(69,Q6c),(61,Q3l),(76,Q6d)],29,[1],0,[(51,Z8v),(77,Q4n)],[],[],[],false,[],[],[],[]⟩
def Z7n (l:List (Int×(Int×Int)×Int)) (tl:Int):List (Nat×LoopAnn):=[]
set_option maxRecDepth 100000 in
theorem J64 (d:(List (Int×(Int×Int)×Int))×Int):gwp (Z7r) (Z7n d.1 d.2) c49 0 (gend [.tmp 4,.tmp 5,.tmp 6] (Z56 d) (Z54 d)) (gstart 29 (AL.can Z76 d))=Q8i d.1 d.2:=by kernel_rfl
def Z0a:XSp:=callV apNone J7v
abbrev J5h:Prop:=XOk Tryz.prog 49 Z0a
theorem J5i (h:∀ (l:List (Int×(Int×Int)×Int)) (tl:Int),(l.length≤1000)→Q8i l tl):XOk Tryz.prog 49 Z0a :=
 J59 fun49 mixed Z18 (C:=Z7r) ⟨(.cons Z0r (.cons Q66 (.cons Z60 .nil))),(XsOk.cons J3d (XsOk.cons Z34 XsOk.nil)),ItsOk.nil,YlOk.nil,IysOk.nil,XfOk.nil⟩ (L:=fun (d:(List (Int×(Int×Int)×Int))×Int)=>Z7n d.1 d.2) (V:=fun (d:(List (Int×(Int×Int)×Int))×Int)=>Q8i d.1 d.2) (J64) fun d hp=>h d.1 d.2 hp
theorem Z5a:J5h:=J5i fun l tl h=>by
 unfold Q8i;(try delta lI gD sT I64);have e:∀ n a b:Int,(decide (n<a)||decide (b<n))=!inI n a b:=fun n a b=>(nI n a b).symm;simp only[List.any_cons,List.any_nil,Bool.or_false,e,Bool.not_not,List.length_cons,List.length_nil,dead3,Bool.true_eq_false,true_and,and_true,beq_iff_eq,bne_iff_ne,ne_eq,bne_eq_false_iff_eq,Bool.not_eq_true',Bool.not_eq_false',false_implies,Bool.or_false,implies_true,forall_const];refine⟨h,by omega,fun hx=>?_,fun hx=>⟨fun a=>?_,fun a=>⟨Z75 a,fun b=>?_,fun b=>⟨⟨(Z75 a).1,(Z75 a).2,b⟩,?_⟩⟩⟩⟩
 ·simp only[Bool.and_eq_true,beq_iff_eq,Bool.not_eq_true'] at hx;have o:openErr l tl=3:=by unfold openErr;rw[if_neg (by omega),hx.2];rfl
  have e1:partErr l tl=3:=by unfold partErr;rw[o];rfl
  obtain⟨e2,e3⟩:=J02 e1 (by omega);rw[e1,e2,e3];exact(by and_intros<;>first|rfl|trivial|simp)
 ·have o:openErr l tl=lotsErr l:=by unfold openErr;rw[if_pos a]
  have e1:partErr l tl=lotsErr l:=by unfold partErr;rw[o,if_pos a]
  obtain⟨e2,e3⟩:=J02 e1 a;rw[e1,e2,e3];exact(by and_intros<;>first|rfl|trivial|simp)
 ·have o:openErr l tl=0:=by
   unfold openErr;rw[if_neg (by omega),if_neg];intro h2;rw[a,h2] at hx;cases hx
  have e1:partErr l tl=9:=by unfold partErr;rw[if_neg (by omega),b];rfl
  obtain⟨e2,e3⟩:=J02 e1 (by omega);rw[e1,e2,e3];exact(by and_intros<;>first|rfl|trivial|simp)
 ·have o:openErr l tl=0:=by
   unfold openErr;rw[if_neg (by omega),if_neg];intro h2;rw[a,h2] at hx;cases hx
  have e1:partErr l tl=0:=by unfold partErr;rw[if_neg (by omega),if_pos b]
  have e2:parHW l tl=parH l tl:=by unfold parHW;rw[if_pos e1]
  have e3:parCW l tl=parC l tl:=by unfold parCW;rw[if_pos e1]
  rw[e1,e2,e3];exact(by and_intros<;>first|rfl|trivial|simp)
def Z4c:AL ((List (Int×(Int×Int)×Int))×Int):=(.cons (.k (.list (.pair (.i .i64) (.pair (.pair (.i .i64) (.i .i64)) (.i .i64))))) (.one (.k (.i .i64))))
def Z98 (d:(List (Int×(Int×Int)×Int))×Int):Prop:=d.1.length≤1000
def Z2d (d:(List (Int×(Int×Int)×Int))×Int):SV:=.tup [.lst 0,.val (.i .i64) (partErr d.1 d.2)]
def Z2q (d:(List (Int×(Int×Int)×Int))×Int):List OB:=[.lst 31 (.list (.i .i64)) (parCW d.1 d.2) ((parCW d.1 d.2).isEmpty)]
def J2o:CSp:=mkSp Z4c Z98 Z2d Z2q
def Q5w (l:List (Int×(Int×Int)×Int)) (tl:Int):Prop :=
 (l.length≤1000)∧((True∧(partErr l tl)=(partErr l tl)∧(([]:List SV)=[]))∧(((parCW l tl)=(parCW l tl)∧(parCW l tl).isEmpty=(parCW l tl).isEmpty)∧True))
def Z3f:Cx:=⟨[],[],15,[],0,[(49,Z0a)],[],[],[],false,[],[],[],[]⟩
def Z3k (l:List (Int×(Int×Int)×Int)) (tl:Int):List (Nat×LoopAnn):=[]
set_option maxRecDepth 100000 in
theorem J29 (d:(List (Int×(Int×Int)×Int))×Int):gwp (Z3f) (Z3k d.1 d.2) c15 0 (gend [.tmp 4,.tmp 5] (Z2d d) (Z2q d)) (gstart 15 (AL.can Z4c d))=Q5w d.1 d.2:=by kernel_rfl
def Z0k:XSp:=callV apNone J2o
abbrev J0u:Prop:=XOk Tryz.prog 15 Z0k
theorem J1n (h:∀ (l:List (Int×(Int×Int)×Int)) (tl:Int),(l.length≤1000)→Q5w l tl):XOk Tryz.prog 15 Z0k :=
 J59 fun15 mixed Z18 (C:=Z3f) ⟨.nil,(XsOk.cons Z5a XsOk.nil),ItsOk.nil,YlOk.nil,IysOk.nil,XfOk.nil⟩ (L:=fun (d:(List (Int×(Int×Int)×Int))×Int)=>Z3k d.1 d.2) (V:=fun (d:(List (Int×(Int×Int)×Int))×Int)=>Q5w d.1 d.2) (J29) fun d hp=>h d.1 d.2 hp
theorem Z9i:J0u:=J1n fun l tl h=>by unfold Q5w;(try delta lI gD sT I64);refine⟨h,?_⟩;exact(by and_intros<;>first|rfl|trivial|simp)
def Z5d:AL ((List (Int×(Int×Int)×Int))×Int):=(.cons (.k (.list (.pair (.i .i64) (.pair (.pair (.i .i64) (.i .i64)) (.i .i64))))) (.one (.k (.i .i64))))
def J1a (d:(List (Int×(Int×Int)×Int))×Int):Prop:=d.1.length≤1000
def Z3m (d:(List (Int×(Int×Int)×Int))×Int):SV:=.tup [.lst 0,.val (.i .i64) (partErr d.1 d.2)]
def Z39 (d:(List (Int×(Int×Int)×Int))×Int):List OB:=[.lst 3 (.i .i64) (parHW d.1 d.2) ((parHW d.1 d.2).isEmpty)]
def Z1z:CSp:=mkSp Z5d J1a Z3m Z39
def Q74 (l:List (Int×(Int×Int)×Int)) (tl:Int):Prop :=
 (l.length≤1000)∧((True∧(partErr l tl)=(partErr l tl)∧(([]:List SV)=[]))∧(((parHW l tl)=(parHW l tl)∧(parHW l tl).isEmpty=(parHW l tl).isEmpty)∧True))
def Z5c:Cx:=⟨[],[],18,[],0,[(49,Z0a)],[],[],[],false,[],[],[],[]⟩
def J3a (l:List (Int×(Int×Int)×Int)) (tl:Int):List (Nat×LoopAnn):=[]
set_option maxRecDepth 100000 in
theorem J31 (d:(List (Int×(Int×Int)×Int))×Int):gwp (Z5c) (J3a d.1 d.2) c16 0 (gend [.tmp 4,.tmp 5] (Z3m d) (Z39 d)) (gstart 18 (AL.can Z5d d))=Q74 d.1 d.2:=by kernel_rfl
abbrev J34:Prop:=OkC Tryz.prog 16 Z1z
theorem J2u (h:∀ (l:List (Int×(Int×Int)×Int)) (tl:Int),(l.length≤1000)→Q74 l tl):OkC Tryz.prog 16 Z1z :=
 Q1b fun16 mixed (C:=Z5c) (V:=fun (d:(List (Int×(Int×Int)×Int))×Int)=>Q74 d.1 d.2) ⟨.nil,(XsOk.cons Z5a XsOk.nil),ItsOk.nil,YlOk.nil,IysOk.nil,XfOk.nil⟩ (J31) fun d hp=>h d.1 d.2 hp
theorem J33:J34:=J2u fun l tl h=>by unfold Q74;(try delta lI gD sT I64);refine⟨h,?_⟩;exact(by and_intros<;>first|rfl|trivial|simp)
end Go.Proofs.Tryz
set_option linter.unusedVariables false
namespace Go.Proofs.Tryz
open Go Go.V Go.Proofs
def byteV (l:List Int) (i:Int):Int:=if l.length=0 then 0 else l.getD (Int.tmod i l.length).toNat 0
def vbOk (x:Int×Int×Int×Int):Prop:=(0≤x.1∧x.1≤255)∧(0≤x.2.1∧x.2.1≤255)∧(0≤x.2.2.1∧x.2.2.1≤255)∧(0≤x.2.2.2∧x.2.2.2≤255)
def vatOk (vl:List (Int×Int×Int×Int)) (vt:List Int):Prop:=vl.length≤9223372036854775807∧vt.length≤9223372036854775807∧(∀ x∈vl,vbOk x)∧∀ x∈vt,0≤x∧x≤255
def vatLot (v:Int×Int×Int×Int):Lot:=(Int.tdiv v.1 128,((2*v.2.1,2*v.2.1+Int.tmod v.2.2.1 40),1+10*v.2.2.2))
def vatL (vl:List (Int×Int×Int×Int)):List Lot:=(vl.take 9).map vatLot
def thrV (vt:List Int) (x:Lot) (i:Int):Int:=x.2.1.1+Int.tdiv (byteV vt i*(x.2.1.2-x.2.1.1)) 255
def farV (a b:Lot):Int:=if a.1≠b.1 then 10000 else gmax (gmax (gmax (a.2.1.2-b.2.1.1) (b.2.1.2-a.2.1.1)) (a.2.1.2-a.2.1.1)) (b.2.1.2-b.2.1.1)
theorem X06 {l:List Int}{i:Int}(h:∀ x∈l,0≤x∧x≤255) (hi:0≤i):0≤byteV l i∧byteV l i≤255:=by
 unfold byteV;split
 ·omega
 ·rename_i h0;have e:=Int.tmod_eq_emod_of_nonneg (b:=(l.length:Int)) hi;have h1:=Int.emod_nonneg i (show (l.length:Int)≠0 by omega);have h2:=Int.emod_lt_of_pos i (show (0:Int)<l.length by omega);have h3:(Int.tmod i l.length).toNat<l.length:=by omega
  rw[Q03 h3];exact h _ (List.getElem_mem h3)
theorem X3z {v:Int×Int×Int×Int}(h:vbOk v):lotOk (vatLot v)=true∧(vatLot v).1≤1:=by obtain⟨⟨a1,a2⟩,⟨b1,b2⟩,⟨c1,c2⟩,d1,d2⟩:=h;rw[Z1g];unfold vatLot;dsimp only;have e1:=Int.tdiv_eq_ediv_of_nonneg (b:=128) a1;have e2:=Int.tmod_eq_emod_of_nonneg (b:=40) c1;omega
theorem X6k {vl:List (Int×Int×Int×Int)}(h:∀ x∈vl,vbOk x):(vatL vl).length≤9∧(∀ x∈vatL vl,lotOk x=true)∧∀ x∈vatL vl,x.1≤1:=by
 refine⟨by unfold vatL;rw[List.length_map,List.length_take];omega,fun x hx=>?_,fun x hx=>?_⟩ <;>
 ·unfold vatL at hx;obtain⟨v,hv,rfl⟩:=List.mem_map.1 hx;have:=X3z (h v (List.mem_of_mem_take hv));first|exact this.1|exact this.2
theorem X4m {vt:List Int}{x:Lot}{i:Int}(h:∀ x∈vt,0≤x∧x≤255) (hi:0≤i) (h1:x.2.1.1≤x.2.1.2):x.2.1.1≤thrV vt x i∧thrV vt x i≤x.2.1.2:=by
 obtain⟨b0,b1⟩:=X06 h hi;unfold thrV;generalize byteV vt i=b at *
 obtain⟨w,hw⟩:∃ w,w=x.2.1.2-x.2.1.1:=⟨_,rfl⟩;rw[←hw];have hw0:0≤w:=by omega
 have p0:0≤b*w:=Int.mul_nonneg b0 hw0;have p1:b*w≤255*w:=Int.mul_le_mul_of_nonneg_right b1 hw0;have e:=Int.tdiv_eq_ediv_of_nonneg (b:=255) p0;omega
theorem X6o {a b:Lot}{t:Int}(ht:t≤1000):farV a b≤t↔a.1=b.1∧farL a b≤t∧farL a a≤t∧farL b b≤t:=by
 unfold farV farL;simp only[Q9d];split
 ·rename_i h;exact⟨fun h2=>by omega,fun h2=>(h h2.1).elim⟩
 ·rename_i h;have h:a.1=b.1:=Decidable.not_not.1 h;constructor
  ·intro h2;refine⟨h,?_,?_,?_⟩<;>omega
  ·rintro⟨_,h2,h3,h4⟩;omega
end Go.Proofs.Tryz
set_option linter.unusedVariables false
namespace Go.Proofs.Tryz
open Go Go.V Go.Proofs
theorem X20 {S:List Int}(h:S.Pairwise (·<·)):dupL S=false:=by
 unfold dupL;rw[List.any_eq_false];intro k hk;rw[List.mem_range] at hk;rw[decide_eq_true_eq];intro hm;obtain⟨j,hj,he⟩:=List.getElem_of_mem hm;rw[List.getElem_take,Q03 hk] at he;rw[List.length_take] at hj;have:=List.pairwise_iff_getElem.1 h j k (by omega) hk (by omega);omega
def Z47:AL (List Int×Int):=(.cons (.k (.list (.i .u8))) (.one (.k (.i .i64))))
def Z99 (d:List Int×Int):Prop:=d.1.length≤9223372036854775807∧0≤d.2∧∀ x∈d.1,0≤x∧x≤255
def Z2t (d:List Int×Int):SV:=.val (.i .i64) (byteV d.1 d.2)
def Z2j (d:List Int×Int):List OB:=[]
def Z0l:CSp:=mkSp Z47 Z99 Z2t Z2j
def Q61 (l:List Int) (i:Int):Prop :=
 (((lI l)==(0:Int))=true →
  ((0:Int)=(byteV l i)∧(True))) ∧
 (((lI l)==(0:Int))=false →
  ((lI l)≠0)∧(0≤(Int.tmod i (lI l)))∧((Int.tmod i (lI l))<(List.length l))∧(I64 (gD l (Int.tmod i (lI l)) 0))∧((gD l (Int.tmod i (lI l)) 0)=(byteV l i)∧(True)))
def Z44:Cx:=⟨[],[],16,[],0,[],[],[],[],false,[],[],[],[]⟩
def J1f (l:List Int) (i:Int):List (Nat×LoopAnn):=[]
set_option maxRecDepth 100000 in
theorem J0x (d:List Int×Int):gwp (Z44) (J1f d.1 d.2) c68 0 (gend [.tmp 4] (Z2t d) (Z2j d)) (gstart 16 (AL.can Z47 d))=Q61 d.1 d.2:=by kernel_rfl
abbrev J1k:Prop:=OkC Tryz.prog 68 Z0l
theorem J1r (h:∀ (l:List Int) (i:Int),(l.length≤9223372036854775807∧0≤i∧∀ x∈l,0≤x∧x≤255)→Q61 l i):OkC Tryz.prog 68 Z0l :=
 Q1b fun68 mixed (C:=Z44) (V:=fun (d:List Int×Int)=>Q61 d.1 d.2) ⟨.nil,XsOk.nil,ItsOk.nil,YlOk.nil,IysOk.nil,XfOk.nil⟩ (J0x) fun d hp=>h d.1 d.2 hp
theorem J2d:J1k:=J1r fun l i h=>by
 obtain⟨h1,h2,h3⟩:=h;unfold Q61;(try delta lI gD sT I64);refine⟨fun hx=>?_,fun hx=>?_⟩
 ·have:l.length=0:=by have:=eq_of_beq hx;omega
  unfold byteV;rw[if_pos this];exact(by and_intros<;>first|rfl|trivial|simp)
 ·have h0:l.length≠0:=by have:=ne_of_beq_false hx;omega
  have e:=Int.tmod_eq_emod_of_nonneg (b:=(l.length:Int)) h2;have g1:=Int.emod_nonneg i (show (l.length:Int)≠0 by omega);have g2:=Int.emod_lt_of_pos i (show (0:Int)<l.length by omega);have g3:(Int.tmod i l.length).toNat<l.length:=by omega
  have g4:=h3 _ (by rw[Q03 g3];exact List.getElem_mem g3:l.getD (Int.tmod i l.length).toNat 0∈l);refine⟨by omega,by omega,by omega,by rw[Q1a];omega,?_⟩;unfold byteV;rw[if_neg h0];exact(by and_intros<;>first|rfl|trivial|simp)
def Z19:AL ((List (Int×Int×Int×Int))×List Int):=(.one (.agg (.cons (.k (.list (.pair (.i .u8) (.pair (.i .u8) (.pair (.i .u8) (.i .u8)))))) (.one (.k (.list (.i .u8)))))))
def Z6x (d:(List (Int×Int×Int×Int))×List Int):Prop:=vatOk d.1 d.2
def Z08 (d:(List (Int×Int×Int×Int))×List Int):SV:=.lst 0
def Z09 (d:(List (Int×Int×Int×Int))×List Int):List OB:=[.lst 78 (.pair (.i .i64) (.pair (.pair (.i .i64) (.i .i64)) (.i .i64))) (vatL d.1) false]
def Q7u:CSp:=mkSp Z19 Z6x Z08 Z09
def Q4c (vl:List (Int×Int×Int×Int)) (vt:List Int):Prop :=
 ∃ (e3:Unit) (d30:(List (Int×(Int×Int)×Int))×Int),((True∧True∧(0:Int)=d30.2∧True)∧((vl=vl∧vt=vt∧(([]:List SV)=[]))∧(([]:List (Int×(Int×Int)×Int))=d30.1∧false=false)∧True)) ∧
 LoopP (fun (d3:(List (Int×(Int×Int)×Int))×Int) (q3:((List (Int×(Int×Int)×Int))×Int)→Prop) =>
  (((decide (d3.2<(lI vl)))&&(decide (d3.2<(9:Int))))=true →
   (0≤d3.2)∧(d3.2<(List.length vl))∧(I64 (gD vl d3.2 (0,(0,(0,0)))).1)∧((128:Int)≠0)∧(I64 (Int.tdiv (gD vl d3.2 (0,(0,(0,0)))).1 (128:Int)))∧(I64 (gD vl d3.2 (0,(0,(0,0)))).2.1)∧(I64 ((2:Int)*(gD vl d3.2 (0,(0,(0,0)))).2.1))∧(I64 (gD vl d3.2 (0,(0,(0,0)))).2.1)∧(I64 ((2:Int)*(gD vl d3.2 (0,(0,(0,0)))).2.1))∧(I64 (gD vl d3.2 (0,(0,(0,0)))).2.2.1)∧((40:Int)≠0)∧(I64 (((2:Int)*(gD vl d3.2 (0,(0,(0,0)))).2.1)+(Int.tmod (gD vl d3.2 (0,(0,(0,0)))).2.2.1 (40:Int))))∧(True)∧(I64 (gD vl d3.2 (0,(0,(0,0)))).2.2.2)∧(I64 ((10:Int)*(gD vl d3.2 (0,(0,(0,0)))).2.2.2))∧(I64 ((1:Int)+((10:Int)*(gD vl d3.2 (0,(0,(0,0)))).2.2.2)))∧(((List.length d3.1)+(List.length [((Int.tdiv (gD vl d3.2 (0,(0,(0,0)))).1 (128:Int)),((((2:Int)*(gD vl d3.2 (0,(0,(0,0)))).2.1),(((2:Int)*(gD vl d3.2 (0,(0,(0,0)))).2.1)+(Int.tmod (gD vl d3.2 (0,(0,(0,0)))).2.2.1 (40:Int)))),((1:Int)+((10:Int)*(gD vl d3.2 (0,(0,(0,0)))).2.2.2))))]))*32≤70368744177664)∧(I64 (d3.2+(1:Int)))∧(∃ d4:(List (Int×(Int×Int)×Int))×Int,((True∧True∧(d3.2+(1:Int))=d4.2∧True)∧((vl=vl∧vt=vt∧(([]:List SV)=[]))∧((d3.1++[((Int.tdiv (gD vl d3.2 (0,(0,(0,0)))).1 (128:Int)),((((2:Int)*(gD vl d3.2 (0,(0,(0,0)))).2.1),(((2:Int)*(gD vl d3.2 (0,(0,(0,0)))).2.1)+(Int.tmod (gD vl d3.2 (0,(0,(0,0)))).2.2.1 (40:Int)))),((1:Int)+((10:Int)*(gD vl d3.2 (0,(0,(0,0)))).2.2.2))))])=d4.1∧false=false)∧True))∧q3 d4)) ∧
  (((decide (d3.2<(lI vl)))&&(decide (d3.2<(9:Int))))=false →
   (True∧((d3.1=(vatL vl)∧false=false)∧True)))) d30
def Z15:Cx:=⟨[(78,(.pair (.i .i64) (.pair (.pair (.i .i64) (.i .i64)) (.i .i64))))],[(48,Z3c)],51,[],0,[],[],[],[],false,[],[],[],[]⟩
def Z8h (vl:List (Int×Int×Int×Int)) (vt:List Int):List (Nat×LoopAnn):=[(0,⟨Unit,(List (Int×(Int×Int)×Int))×Int,[1,3,4],fun e x=>[.box 1 0,.lst 6,.val (.i .i64) x.2],fun e x=>[(1,.slot 1,.cells [.val (.list (.pair (.i .u8) (.pair (.i .u8) (.pair (.i .u8) (.i .u8))))) vl,.val (.list (.i .u8)) vt] (some 74)),(6,.slot 3,.lst 78 (.pair (.i .i64) (.pair (.pair (.i .i64) (.i .i64)) (.i .i64))) x.1 false)]⟩)]
set_option maxRecDepth 100000 in
theorem Z84 (d:(List (Int×Int×Int×Int))×List Int):gwp (Z15) (Z8h d.1 d.2) c36 0 (gend [.tmp 2] (Z08 d) (Z09 d)) (gstart 51 (AL.can Z19 d))=Q4c d.1 d.2:=by kernel_rfl
abbrev Z81:Prop:=OkC Tryz.prog 36 Q7u
theorem Z8e (h:∀ (vl:List (Int×Int×Int×Int)) (vt:List Int),(vatOk vl vt)→Q4c vl vt):OkC Tryz.prog 36 Q7u :=
 Q1b fun36 mixed (C:=Z15) (V:=fun (d:(List (Int×Int×Int×Int))×List Int)=>Q4c d.1 d.2) ⟨(.cons J4p .nil),XsOk.nil,ItsOk.nil,YlOk.nil,IysOk.nil,XfOk.nil⟩ (Z84) fun d hp=>h d.1 d.2 hp
theorem Z8c:Z81:=Z8e fun vl vt h=>by
 obtain⟨h1,h2,h3,h4⟩:=h;unfold Q4c;(try delta lI gD sT I64);refine⟨(),([],0),(by and_intros<;>first|rfl|trivial|simp),?_⟩;refine⟨fun d=>∃ k:Nat,d.2=k∧k≤9∧k≤vl.length∧d.1=(vl.take k).map vatLot,fun d=>9-d.2.toNat,⟨0,rfl,by omega,by omega,rfl⟩,?_⟩;rintro⟨_,_⟩ ⟨k,rfl,k1,k2,rfl⟩;dsimp only;simp only[Int.toNat_natCast];refine⟨fun hc=>?_,fun hc=>?_⟩
 ·rw[Bool.and_eq_true,decide_eq_true_eq,decide_eq_true_eq] at hc;have hkl:k<vl.length:=by omega
  have hd:vl.getD k (0,(0,(0,0)))=vl[k]:=Q03 hkl;rw[hd];obtain⟨⟨a1,a2⟩,⟨b1,b2⟩,⟨c1,c2⟩,d1,d2⟩:=h3 _ (List.getElem_mem hkl);have e1:=Int.tdiv_eq_ediv_of_nonneg (b:=128) a1;have e2:=Int.tmod_eq_emod_of_nonneg (b:=40) c1;have hl:((vl.take k).map vatLot).length≤9:=by rw[List.length_map,List.length_take];omega
  simp only[Q1a,List.length_cons,List.length_nil];refine⟨by omega,by omega,by omega,by omega,by omega,by omega,by omega,by omega,by omega,by omega,by omega,by omega,trivial,by omega,by omega,by omega,by omega,by omega,((vl.take (k+1)).map vatLot,(k:Int)+1),⟨(by and_intros<;>first|rfl|trivial|simp),?_⟩,⟨k+1,rfl,by omega,by omega,rfl⟩,by show 9-((k:Int)+1).toNat<9-k;omega⟩;rw[Q2d hkl,List.map_append];exact(by and_intros<;>first|rfl|trivial|simp)
 ·have hk:k=9∨k=vl.length:=by
   apply Classical.byContradiction;intro h9;rw[decide_eq_true (show (k:Int)<vl.length by omega),decide_eq_true (show (k:Int)<9 by omega)] at hc;cases hc
  have:(vl.take k).map vatLot=vatL vl:=by
   unfold vatL;rcases hk with rfl|rfl
   ·rfl
   ·rw[List.take_length,List.take_of_length_le (by omega:vl.length≤9)]
  rw[this];exact(by and_intros<;>first|rfl|trivial|simp)
def Q9o:AL (((List (Int×Int×Int×Int))×List Int)×(Int×Int×Int×Int)×Int):=(.cons (.agg (.cons (.k (.list (.pair (.i .u8) (.pair (.i .u8) (.pair (.i .u8) (.i .u8)))))) (.one (.k (.list (.i .u8)))))) (.cons (.agg (.cons (.k (.i .i64)) (.cons (.k (.i .i64)) (.cons (.k (.i .i64)) (.one (.k (.i .i64))))))) (.one (.k (.i .i64)))))
def Z4u (d:((List (Int×Int×Int×Int))×List Int)×(Int×Int×Int×Int)×Int):Prop:=vatOk d.1.1 d.1.2∧0≤d.2.2∧0≤d.2.1.2.1∧d.2.1.2.1≤d.2.1.2.2.1∧d.2.1.2.2.1≤1000
def Q86 (d:((List (Int×Int×Int×Int))×List Int)×(Int×Int×Int×Int)×Int):SV:=.val (.i .i64) (thrV d.1.2 (d.2.1.1,(d.2.1.2.1,d.2.1.2.2.1),d.2.1.2.2.2) d.2.2)
def Q82 (d:((List (Int×Int×Int×Int))×List Int)×(Int×Int×Int×Int)×Int):List OB:=[]
def Q68:CSp:=mkSp Q9o Z4u Q86 Q82
def Q3b (vl:List (Int×Int×Int×Int)) (vt:List Int) (lc:Int) (lo:Int) (hi:Int) (lg:Int) (i:Int):Prop :=
 (vt.length≤9223372036854775807∧0≤i∧∀ x∈vt,0≤x∧x≤255)∧(I64 (hi-lo))∧(I64 ((byteV vt i)*(hi-lo)))∧((255:Int)≠0)∧(I64 (Int.tdiv ((byteV vt i)*(hi-lo)) (255:Int)))∧(I64 (lo+(Int.tdiv ((byteV vt i)*(hi-lo)) (255:Int))))∧((lo+(Int.tdiv ((byteV vt i)*(hi-lo)) (255:Int)))=(thrV vt (lc,(lo,hi),lg) i)∧(True))
def Q98:Cx:=⟨[],[(68,Z0l)],24,[],0,[],[],[],[],false,[],[],[],[]⟩
def Z5u (vl:List (Int×Int×Int×Int)) (vt:List Int) (lc:Int) (lo:Int) (hi:Int) (lg:Int) (i:Int):List (Nat×LoopAnn):=[]
set_option maxRecDepth 100000 in
theorem Z5s (d:((List (Int×Int×Int×Int))×List Int)×(Int×Int×Int×Int)×Int):gwp (Q98) (Z5u d.1.1 d.1.2 d.2.1.1 d.2.1.2.1 d.2.1.2.2.1 d.2.1.2.2.2 d.2.2) c38 0 (gend [.tmp 6] (Q86 d) (Q82 d)) (gstart 24 (AL.can Q9o d))=Q3b d.1.1 d.1.2 d.2.1.1 d.2.1.2.1 d.2.1.2.2.1 d.2.1.2.2.2 d.2.2:=by kernel_rfl
abbrev Z5p:Prop:=OkC Tryz.prog 38 Q68
theorem Z5x (h:∀ (vl:List (Int×Int×Int×Int)) (vt:List Int) (lc:Int) (lo:Int) (hi:Int) (lg:Int) (i:Int),(vatOk vl vt∧0≤i∧0≤lo∧lo≤hi∧hi≤1000)→Q3b vl vt lc lo hi lg i):OkC Tryz.prog 38 Q68 :=
 Q1b fun38 mixed (C:=Q98) (V:=fun (d:((List (Int×Int×Int×Int))×List Int)×(Int×Int×Int×Int)×Int)=>Q3b d.1.1 d.1.2 d.2.1.1 d.2.1.2.1 d.2.1.2.2.1 d.2.1.2.2.2 d.2.2) ⟨(.cons J2d .nil),XsOk.nil,ItsOk.nil,YlOk.nil,IysOk.nil,XfOk.nil⟩ (Z5s) fun d hp=>h d.1.1 d.1.2 d.2.1.1 d.2.1.2.1 d.2.1.2.2.1 d.2.1.2.2.2 d.2.2 hp
theorem Z61:Z5p:=Z5x fun vl vt lc lo hi lg i h=>by
 obtain⟨⟨h1,h2,h3,h4⟩,h5,h6,h7,h8⟩:=h;unfold Q3b;(try delta lI gD sT I64);obtain⟨b0,b1⟩:=X06 h4 h5;have ht:=X4m (x:=(lc,(lo,hi),lg)) h4 h5 h7;have hw0:0≤hi-lo:=by omega
 have p0:0≤byteV vt i*(hi-lo):=Int.mul_nonneg b0 hw0;have p1:byteV vt i*(hi-lo)≤255*(hi-lo):=Int.mul_le_mul_of_nonneg_right b1 hw0;have e:=Int.tdiv_eq_ediv_of_nonneg (b:=255) p0;simp only[Q1a];exact⟨⟨h2,h5,h4⟩,by omega,by omega,by omega,by omega,by omega,rfl,trivial⟩
def Z8o:AL ((Int×Int×Int×Int)×Int×Int×Int×Int):=(.cons (.agg (.cons (.k (.i .i64)) (.cons (.k (.i .i64)) (.cons (.k (.i .i64)) (.one (.k (.i .i64))))))) (.one (.agg (.cons (.k (.i .i64)) (.cons (.k (.i .i64)) (.cons (.k (.i .i64)) (.one (.k (.i .i64)))))))))
def J4t (d:(Int×Int×Int×Int)×Int×Int×Int×Int):Prop:=0≤d.1.2.1∧d.1.2.1≤1000∧0≤d.1.2.2.1∧d.1.2.2.1≤1000∧0≤d.2.2.1∧d.2.2.1≤1000∧0≤d.2.2.2.1∧d.2.2.2.1≤1000
def Z7j (d:(Int×Int×Int×Int)×Int×Int×Int×Int):SV:=.val (.i .i64) (farV (d.1.1,(d.1.2.1,d.1.2.2.1),d.1.2.2.2) (d.2.1,(d.2.2.1,d.2.2.2.1),d.2.2.2.2))
def Z6u (d:(Int×Int×Int×Int)×Int×Int×Int×Int):List OB:=[]
def Z63:CSp:=mkSp Z8o J4t Z7j Z6u
def Z0b (lc:Int) (lo:Int) (hi:Int) (lg:Int) (mc:Int) (mo:Int) (mi:Int) (mg:Int):Prop :=
 ((lc != mc)=true →
  ((10000:Int)=(farV (lc,(lo,hi),lg) (mc,(mo,mi),mg))∧(True))) ∧
 ((lc != mc)=false →
  (I64 (hi-mo))∧(I64 (mi-lo))∧(I64 (hi-lo))∧(I64 (mi-mo))∧((gmax (gmax (gmax (hi-mo) (mi-lo)) (hi-lo)) (mi-mo))=(farV (lc,(lo,hi),lg) (mc,(mo,mi),mg))∧(True)))
def Z8q:Cx:=⟨[],[],39,[],0,[],[],[],[],false,[],[],[],[]⟩
def J7b (lc:Int) (lo:Int) (hi:Int) (lg:Int) (mc:Int) (mo:Int) (mi:Int) (mg:Int):List (Nat×LoopAnn):=[]
set_option maxRecDepth 100000 in
theorem J7k (d:(Int×Int×Int×Int)×Int×Int×Int×Int):gwp (Z8q) (J7b d.1.1 d.1.2.1 d.1.2.2.1 d.1.2.2.2 d.2.1 d.2.2.1 d.2.2.2.1 d.2.2.2.2) c37 0 (gend [.tmp 4] (Z7j d) (Z6u d)) (gstart 39 (AL.can Z8o d))=Z0b d.1.1 d.1.2.1 d.1.2.2.1 d.1.2.2.2 d.2.1 d.2.2.1 d.2.2.2.1 d.2.2.2.2:=by kernel_rfl
abbrev J6t:Prop:=OkC Tryz.prog 37 Z63
theorem J7s (h:∀ (lc:Int) (lo:Int) (hi:Int) (lg:Int) (mc:Int) (mo:Int) (mi:Int) (mg:Int),(0≤lo∧lo≤1000∧0≤hi∧hi≤1000∧0≤mo∧mo≤1000∧0≤mi∧mi≤1000)→Z0b lc lo hi lg mc mo mi mg):OkC Tryz.prog 37 Z63 :=
 Q1b fun37 mixed (C:=Z8q) (V:=fun (d:(Int×Int×Int×Int)×Int×Int×Int×Int)=>Z0b d.1.1 d.1.2.1 d.1.2.2.1 d.1.2.2.2 d.2.1 d.2.2.1 d.2.2.2.1 d.2.2.2.2) ⟨.nil,XsOk.nil,ItsOk.nil,YlOk.nil,IysOk.nil,XfOk.nil⟩ (J7k) fun d hp=>h d.1.1 d.1.2.1 d.1.2.2.1 d.1.2.2.2 d.2.1 d.2.2.1 d.2.2.2.1 d.2.2.2.2 hp
theorem J7e:J6t:=J7s fun lc lo hi lg mc mo mi mg h=>by
 obtain⟨h1,h2,h3,h4,h5,h6,h7,h8⟩:=h;unfold Z0b;(try delta lI gD sT I64);refine⟨fun hx=>?_,fun hx=>?_⟩
 ·have hx:lc≠mc:=by simpa using hx
  unfold farV;rw[if_pos hx];exact(by and_intros<;>first|rfl|trivial|simp)
 ·have hx:lc=mc:=by simpa using hx
  subst hx;simp only[Q1a];refine⟨by omega,by omega,by omega,by omega,?_⟩;unfold farV;rw[if_neg (by simp)];exact(by and_intros<;>first|rfl|trivial|simp)
end Go.Proofs.Tryz
set_option linter.unusedVariables false
namespace Go.Proofs.Tryz
open Go Go.V Go.Proofs
def Q9k:AL (((List (Int×Int×Int×Int))×List Int)×Int):=(.cons (.agg (.cons (.k (.list (.pair (.i .u8) (.pair (.i .u8) (.pair (.i .u8) (.i .u8)))))) (.one (.k (.list (.i .u8)))))) (.one (.k (.i .u8))))
def Z4r (d:((List (Int×Int×Int×Int))×List Int)×Int):Prop:=vatOk d.1.1 d.1.2∧0≤d.2∧d.2≤255
def Q7z (d:((List (Int×Int×Int×Int))×List Int)×Int):SV:=.val .bo true
def Q85 (d:((List (Int×Int×Int×Int))×List Int)×Int):List OB:=[]
def Z02:CSp:=mkSp Q9k Z4r Q7z Q85
def Q3d (vl:List (Int×Int×Int×Int)) (vt:List Int) (by_:Int):Prop :=
 (vatOk vl vt)∧(I64 by_)∧((vatL vl).length≤1000)∧((vatL vl).length≤1000)∧((vatL vl).length≤1000)∧((vatL vl).length≤1000)∧(((partErr (vatL vl) by_) != (0:Int))=true →
  ∃ (e3:Unit) (d30:Bool×Int),((True∧by_=by_∧True∧(partErr (vatL vl) by_)=(partErr (vatL vl) by_)∧True∧(partErr (vatL vl) by_)=(partErr (vatL vl) by_)∧false=d30.1∧(0:Int)=d30.2∧True)∧(((vatL vl)=(vatL vl)∧false=false)∧((parCW (vatL vl) by_)=(parCW (vatL vl) by_)∧(parCW (vatL vl) by_).isEmpty=(List.isEmpty (parCW (vatL vl) by_)))∧((parHW (vatL vl) by_)=(parHW (vatL vl) by_)∧(parHW (vatL vl) by_).isEmpty=(List.isEmpty (parHW (vatL vl) by_)))∧True)) ∧
  LoopP (fun (d3:Bool×Int) (q3:(Bool×Int)→Prop) =>
   ((decide (d3.2<(lI (vatL vl))))=true →
    (d3.1=false→0≤d3.2)∧(d3.1=false→d3.2<(List.length (vatL vl)))∧(d3.1=false→0≤d3.2)∧(d3.1=false→d3.2<(List.length (vatL vl)))∧(d3.1=false→0≤((gD (vatL vl) d3.2 (0,((0,0),0))).2.1.1)∧((gD (vatL vl) d3.2 (0,((0,0),0))).2.1.1)≤1000∧0≤((gD (vatL vl) d3.2 (0,((0,0),0))).2.1.2)∧((gD (vatL vl) d3.2 (0,((0,0),0))).2.1.2)≤1000∧0≤((gD (vatL vl) d3.2 (0,((0,0),0))).2.1.1)∧((gD (vatL vl) d3.2 (0,((0,0),0))).2.1.1)≤1000∧0≤((gD (vatL vl) d3.2 (0,((0,0),0))).2.1.2)∧((gD (vatL vl) d3.2 (0,((0,0),0))).2.1.2)≤1000)∧(I64 (d3.2+(1:Int)))∧(∃ d4:Bool×Int,((True∧by_=by_∧True∧(partErr (vatL vl) by_)=(partErr (vatL vl) by_)∧True∧(partErr (vatL vl) by_)=(partErr (vatL vl) by_)∧(d3.1||(decide ((farV (((gD (vatL vl) d3.2 (0,((0,0),0))).1),(((gD (vatL vl) d3.2 (0,((0,0),0))).2.1.1),((gD (vatL vl) d3.2 (0,((0,0),0))).2.1.2)),((gD (vatL vl) d3.2 (0,((0,0),0))).2.2)) (((gD (vatL vl) d3.2 (0,((0,0),0))).1),(((gD (vatL vl) d3.2 (0,((0,0),0))).2.1.1),((gD (vatL vl) d3.2 (0,((0,0),0))).2.1.2)),((gD (vatL vl) d3.2 (0,((0,0),0))).2.2))) > by_)))=d4.1∧(d3.2+(1:Int))=d4.2∧True)∧(((vatL vl)=(vatL vl)∧false=false)∧((parCW (vatL vl) by_)=(parCW (vatL vl) by_)∧(List.isEmpty (parCW (vatL vl) by_))=(List.isEmpty (parCW (vatL vl) by_)))∧((parHW (vatL vl) by_)=(parHW (vatL vl) by_)∧(List.isEmpty (parHW (vatL vl) by_))=(List.isEmpty (parHW (vatL vl) by_)))∧True))∧q3 d4)) ∧
   ((decide (d3.2<(lI (vatL vl))))=false →
    ((((partErr (vatL vl) by_)==(9:Int))&&((partErr (vatL vl) by_)==(partErr (vatL vl) by_)))=true→InK .i64 ((lI (parCW (vatL vl) by_))+(lI (parHW (vatL vl) by_))))∧((((((partErr (vatL vl) by_)==(9:Int))&&((partErr (vatL vl) by_)==(partErr (vatL vl) by_)))&&(((lI (parCW (vatL vl) by_))+(lI (parHW (vatL vl) by_)))==(0:Int)))&&d3.1)=true→True)∧(((((((partErr (vatL vl) by_)==(9:Int))&&((partErr (vatL vl) by_)==(partErr (vatL vl) by_)))&&(((lI (parCW (vatL vl) by_))+(lI (parHW (vatL vl) by_)))==(0:Int)))&&d3.1)&&true)=true∧(True)))) d30) ∧
 (((partErr (vatL vl) by_) != (0:Int))=false →
  ((((partErr (vatL vl) by_) != (0:Int))||((lI (parCW (vatL vl) by_)) != (lI (parHW (vatL vl) by_))))=true →
   (false=true∧(True))) ∧
  ((((partErr (vatL vl) by_) != (0:Int))||((lI (parCW (vatL vl) by_)) != (lI (parHW (vatL vl) by_))))=false →
   ∃ (e7:Unit) (d70:Int),((True∧True∧by_=by_∧True∧True∧(0:Int)=d70∧True)∧((vl=vl∧vt=vt∧(([]:List SV)=[]))∧((vatL vl)=(vatL vl)∧false=false)∧((parCW (vatL vl) by_)=(parCW (vatL vl) by_)∧(parCW (vatL vl) by_).isEmpty=(List.isEmpty (parCW (vatL vl) by_)))∧((parHW (vatL vl) by_)=(parHW (vatL vl) by_)∧(parHW (vatL vl) by_).isEmpty=(List.isEmpty (parHW (vatL vl) by_)))∧True)) ∧
   LoopP (fun (d7:Int) (q7:(Int)→Prop) =>
    ((decide (d7<(lI (parHW (vatL vl) by_))))=true →
     (0≤d7)∧(d7<(List.length (parHW (vatL vl) by_)))∧((decide ((gD (parHW (vatL vl) by_) d7 0)<(0:Int)))=false→0≤d7)∧((decide ((gD (parHW (vatL vl) by_) d7 0)<(0:Int)))=false→d7<(List.length (parHW (vatL vl) by_)))∧(((decide ((gD (parHW (vatL vl) by_) d7 0)<(0:Int)))||(decide ((gD (parHW (vatL vl) by_) d7 0)≥(lI (vatL vl)))))=false→(decide (d7 > (0:Int)))=true→0≤d7)∧(((decide ((gD (parHW (vatL vl) by_) d7 0)<(0:Int)))||(decide ((gD (parHW (vatL vl) by_) d7 0)≥(lI (vatL vl)))))=false→(decide (d7 > (0:Int)))=true→d7<(List.length (parHW (vatL vl) by_)))∧(((decide ((gD (parHW (vatL vl) by_) d7 0)<(0:Int)))||(decide ((gD (parHW (vatL vl) by_) d7 0)≥(lI (vatL vl)))))=false→(decide (d7 > (0:Int)))=true→InK .i64 (d7-(1:Int)))∧(((decide ((gD (parHW (vatL vl) by_) d7 0)<(0:Int)))||(decide ((gD (parHW (vatL vl) by_) d7 0)≥(lI (vatL vl)))))=false→(decide (d7 > (0:Int)))=true→0≤(d7-(1:Int)))∧(((decide ((gD (parHW (vatL vl) by_) d7 0)<(0:Int)))||(decide ((gD (parHW (vatL vl) by_) d7 0)≥(lI (vatL vl)))))=false→(decide (d7 > (0:Int)))=true→(d7-(1:Int))<(List.length (parHW (vatL vl) by_)))∧((((decide ((gD (parHW (vatL vl) by_) d7 0)<(0:Int)))||(decide ((gD (parHW (vatL vl) by_) d7 0)≥(lI (vatL vl)))))||((decide (d7 > (0:Int)))&&(decide ((gD (parHW (vatL vl) by_) d7 0)≤(gD (parHW (vatL vl) by_) (d7-(1:Int)) 0)))))=true →
      (false=true∧(True))) ∧
     ((((decide ((gD (parHW (vatL vl) by_) d7 0)<(0:Int)))||(decide ((gD (parHW (vatL vl) by_) d7 0)≥(lI (vatL vl)))))||((decide (d7 > (0:Int)))&&(decide ((gD (parHW (vatL vl) by_) d7 0)≤(gD (parHW (vatL vl) by_) (d7-(1:Int)) 0)))))=false →
      ∃ (e10:Int) (d100:Int),((True∧True∧by_=by_∧True∧True∧d7=e10∧(0:Int)=d100∧True)∧((vl=vl∧vt=vt∧(([]:List SV)=[]))∧((vatL vl)=(vatL vl)∧false=false)∧((parCW (vatL vl) by_)=(parCW (vatL vl) by_)∧(List.isEmpty (parCW (vatL vl) by_))=(List.isEmpty (parCW (vatL vl) by_)))∧((parHW (vatL vl) by_)=(parHW (vatL vl) by_)∧(List.isEmpty (parHW (vatL vl) by_))=(List.isEmpty (parHW (vatL vl) by_)))∧True)) ∧
      LoopP (fun (d10:Int) (q10:(Int)→Prop) =>
       ((decide (d10<e10))=true →
        (0≤e10)∧(e10<(List.length (parHW (vatL vl) by_)))∧(0≤(gD (parHW (vatL vl) by_) e10 0))∧((gD (parHW (vatL vl) by_) e10 0)<(List.length (vatL vl)))∧(0≤d10)∧(d10<(List.length (parHW (vatL vl) by_)))∧(0≤(gD (parHW (vatL vl) by_) d10 0))∧((gD (parHW (vatL vl) by_) d10 0)<(List.length (vatL vl)))∧(0≤((gD (vatL vl) (gD (parHW (vatL vl) by_) e10 0) (0,((0,0),0))).2.1.1)∧((gD (vatL vl) (gD (parHW (vatL vl) by_) e10 0) (0,((0,0),0))).2.1.1)≤1000∧0≤((gD (vatL vl) (gD (parHW (vatL vl) by_) e10 0) (0,((0,0),0))).2.1.2)∧((gD (vatL vl) (gD (parHW (vatL vl) by_) e10 0) (0,((0,0),0))).2.1.2)≤1000∧0≤((gD (vatL vl) (gD (parHW (vatL vl) by_) d10 0) (0,((0,0),0))).2.1.1)∧((gD (vatL vl) (gD (parHW (vatL vl) by_) d10 0) (0,((0,0),0))).2.1.1)≤1000∧0≤((gD (vatL vl) (gD (parHW (vatL vl) by_) d10 0) (0,((0,0),0))).2.1.2)∧((gD (vatL vl) (gD (parHW (vatL vl) by_) d10 0) (0,((0,0),0))).2.1.2)≤1000)∧((decide ((farV (((gD (vatL vl) (gD (parHW (vatL vl) by_) e10 0) (0,((0,0),0))).1),(((gD (vatL vl) (gD (parHW (vatL vl) by_) e10 0) (0,((0,0),0))).2.1.1),((gD (vatL vl) (gD (parHW (vatL vl) by_) e10 0) (0,((0,0),0))).2.1.2)),((gD (vatL vl) (gD (parHW (vatL vl) by_) e10 0) (0,((0,0),0))).2.2)) (((gD (vatL vl) (gD (parHW (vatL vl) by_) d10 0) (0,((0,0),0))).1),(((gD (vatL vl) (gD (parHW (vatL vl) by_) d10 0) (0,((0,0),0))).2.1.1),((gD (vatL vl) (gD (parHW (vatL vl) by_) d10 0) (0,((0,0),0))).2.1.2)),((gD (vatL vl) (gD (parHW (vatL vl) by_) d10 0) (0,((0,0),0))).2.2)))≤by_))=true →
         (false=true∧(True))) ∧
        ((decide ((farV (((gD (vatL vl) (gD (parHW (vatL vl) by_) e10 0) (0,((0,0),0))).1),(((gD (vatL vl) (gD (parHW (vatL vl) by_) e10 0) (0,((0,0),0))).2.1.1),((gD (vatL vl) (gD (parHW (vatL vl) by_) e10 0) (0,((0,0),0))).2.1.2)),((gD (vatL vl) (gD (parHW (vatL vl) by_) e10 0) (0,((0,0),0))).2.2)) (((gD (vatL vl) (gD (parHW (vatL vl) by_) d10 0) (0,((0,0),0))).1),(((gD (vatL vl) (gD (parHW (vatL vl) by_) d10 0) (0,((0,0),0))).2.1.1),((gD (vatL vl) (gD (parHW (vatL vl) by_) d10 0) (0,((0,0),0))).2.1.2)),((gD (vatL vl) (gD (parHW (vatL vl) by_) d10 0) (0,((0,0),0))).2.2)))≤by_))=false →
         (I64 (d10+(1:Int)))∧(∃ d11:Int,((True∧True∧by_=by_∧True∧True∧e10=e10∧(d10+(1:Int))=d11∧True)∧((vl=vl∧vt=vt∧(([]:List SV)=[]))∧((vatL vl)=(vatL vl)∧false=false)∧((parCW (vatL vl) by_)=(parCW (vatL vl) by_)∧(List.isEmpty (parCW (vatL vl) by_))=(List.isEmpty (parCW (vatL vl) by_)))∧((parHW (vatL vl) by_)=(parHW (vatL vl) by_)∧(List.isEmpty (parHW (vatL vl) by_))=(List.isEmpty (parHW (vatL vl) by_)))∧True))∧q10 d11))) ∧
       ((decide (d10<e10))=false →
        (I64 (e10+(1:Int)))∧(∃ d12:Int,((True∧True∧by_=by_∧True∧True∧(e10+(1:Int))=d12∧True)∧((vl=vl∧vt=vt∧(([]:List SV)=[]))∧((vatL vl)=(vatL vl)∧false=false)∧((parCW (vatL vl) by_)=(parCW (vatL vl) by_)∧(List.isEmpty (parCW (vatL vl) by_))=(List.isEmpty (parCW (vatL vl) by_)))∧((parHW (vatL vl) by_)=(parHW (vatL vl) by_)∧(List.isEmpty (parHW (vatL vl) by_))=(List.isEmpty (parHW (vatL vl) by_)))∧True))∧q7 d12))) d100)) ∧
    ((decide (d7<(lI (parHW (vatL vl) by_))))=false →
     ∃ (e15:Unit) (d150:(List (Int×Bool))×Int),((True∧True∧by_=by_∧True∧True∧(0:Int)=d150.2∧True)∧((vl=vl∧vt=vt∧(([]:List SV)=[]))∧((vatL vl)=(vatL vl)∧false=false)∧((parCW (vatL vl) by_)=(parCW (vatL vl) by_)∧(List.isEmpty (parCW (vatL vl) by_))=(List.isEmpty (parCW (vatL vl) by_)))∧(([]:List (Int×Bool))=d150.1)∧True)) ∧
     LoopP (fun (d15:(List (Int×Bool))×Int) (q15:((List (Int×Bool))×Int)→Prop) =>
      ((decide (d15.2<(lI (parCW (vatL vl) by_))))=true →
       ∃ (e18:Int) (d180:(List (Int×Bool))×Int),((True∧True∧by_=by_∧True∧True∧d15.2=e18∧(0:Int)=d180.2∧True)∧((vl=vl∧vt=vt∧(([]:List SV)=[]))∧((vatL vl)=(vatL vl)∧false=false)∧((parCW (vatL vl) by_)=(parCW (vatL vl) by_)∧(List.isEmpty (parCW (vatL vl) by_))=(List.isEmpty (parCW (vatL vl) by_)))∧(d15.1=d180.1)∧True)) ∧
       LoopP (fun (d18:(List (Int×Bool))×Int) (q18:((List (Int×Bool))×Int)→Prop) =>
        (0≤e18)∧(e18<(List.length (parCW (vatL vl) by_)))∧((decide (d18.2<(lI (gD (parCW (vatL vl) by_) e18 []))))=true →
         (0≤e18)∧(e18<(List.length (parCW (vatL vl) by_)))∧(0≤d18.2)∧(d18.2<(List.length (gD (parCW (vatL vl) by_) e18 [])))∧((((decide ((gD (gD (parCW (vatL vl) by_) e18 []) d18.2 0)<(0:Int)))||(decide ((gD (gD (parCW (vatL vl) by_) e18 []) d18.2 0)≥(lI (vatL vl)))))||(gq.aget (.i .i64) d18.1 (gD (gD (parCW (vatL vl) by_) e18 []) d18.2 0) false))=true →
          (false=true∧(True))) ∧
         ((((decide ((gD (gD (parCW (vatL vl) by_) e18 []) d18.2 0)<(0:Int)))||(decide ((gD (gD (parCW (vatL vl) by_) e18 []) d18.2 0)≥(lI (vatL vl)))))||(gq.aget (.i .i64) d18.1 (gD (gD (parCW (vatL vl) by_) e18 []) d18.2 0) false))=false →
          ∃ (e21:(List (Int×Bool))×Int×Int×Int) (d210:Int),((True∧True∧by_=by_∧True∧True∧e18=e21.2.1∧d18.2=e21.2.2.1∧(gD (gD (parCW (vatL vl) by_) e18 []) d18.2 0)=e21.2.2.2∧(0:Int)=d210∧True)∧((vl=vl∧vt=vt∧(([]:List SV)=[]))∧((vatL vl)=(vatL vl)∧false=false)∧((parCW (vatL vl) by_)=(parCW (vatL vl) by_)∧(List.isEmpty (parCW (vatL vl) by_))=(List.isEmpty (parCW (vatL vl) by_)))∧((aput (.i .i64) d18.1 (gD (gD (parCW (vatL vl) by_) e18 []) d18.2 0) true)=e21.1)∧True)) ∧
          LoopP (fun (d21:Int) (q21:(Int)→Prop) =>
           ((decide (d21≤e21.2.2.1))=true →
            (0≤e21.2.2.2)∧(e21.2.2.2<(List.length (vatL vl)))∧(0≤e21.2.1)∧(e21.2.1<(List.length (parCW (vatL vl) by_)))∧(0≤d21)∧(d21<(List.length (gD (parCW (vatL vl) by_) e21.2.1 [])))∧(0≤(gD (gD (parCW (vatL vl) by_) e21.2.1 []) d21 0))∧((gD (gD (parCW (vatL vl) by_) e21.2.1 []) d21 0)<(List.length (vatL vl)))∧((True∧True∧by_=by_∧True∧True∧e21.2.1=e21.2.1∧e21.2.2.1=e21.2.2.1∧e21.2.2.2=e21.2.2.2∧d21=d21∧True∧True∧True∧((gD (vatL vl) (gD (gD (parCW (vatL vl) by_) e21.2.1 []) d21 0) (0,((0,0),0))).1=(gD (vatL vl) (gD (gD (parCW (vatL vl) by_) e21.2.1 []) d21 0) (0,((0,0),0))).1∧(gD (vatL vl) (gD (gD (parCW (vatL vl) by_) e21.2.1 []) d21 0) (0,((0,0),0))).2.1.1=(gD (vatL vl) (gD (gD (parCW (vatL vl) by_) e21.2.1 []) d21 0) (0,((0,0),0))).2.1.1∧(gD (vatL vl) (gD (gD (parCW (vatL vl) by_) e21.2.1 []) d21 0) (0,((0,0),0))).2.1.2=(gD (vatL vl) (gD (gD (parCW (vatL vl) by_) e21.2.1 []) d21 0) (0,((0,0),0))).2.1.2∧(gD (vatL vl) (gD (gD (parCW (vatL vl) by_) e21.2.1 []) d21 0) (0,((0,0),0))).2.2=(gD (vatL vl) (gD (gD (parCW (vatL vl) by_) e21.2.1 []) d21 0) (0,((0,0),0))).2.2∧(([]:List SV)=[]))∧True∧True)∧((vl=vl∧vt=vt∧(([]:List SV)=[]))∧((gD (vatL vl) e21.2.2.2 (0,((0,0),0))).1=(gD (vatL vl) e21.2.2.2 (0,((0,0),0))).1∧(gD (vatL vl) e21.2.2.2 (0,((0,0),0))).2.1.1=(gD (vatL vl) e21.2.2.2 (0,((0,0),0))).2.1.1∧(gD (vatL vl) e21.2.2.2 (0,((0,0),0))).2.1.2=(gD (vatL vl) e21.2.2.2 (0,((0,0),0))).2.1.2∧(gD (vatL vl) e21.2.2.2 (0,((0,0),0))).2.2=(gD (vatL vl) e21.2.2.2 (0,((0,0),0))).2.2∧(([]:List SV)=[]))∧((0:Int)=(0:Int)∧(0:Int)=(0:Int)∧(0:Int)=(0:Int)∧(0:Int)=(0:Int)∧(([]:List SV)=[]))∧((vatL vl)=(vatL vl)∧false=false)∧((parCW (vatL vl) by_)=(parCW (vatL vl) by_)∧(List.isEmpty (parCW (vatL vl) by_))=(List.isEmpty (parCW (vatL vl) by_)))∧(e21.1=e21.1)∧True))∧((0≤e21.2.2.2)∧(e21.2.2.2<(List.length (vatL vl)))∧(0≤e21.2.1)∧(e21.2.1<(List.length (parCW (vatL vl) by_)))∧(0≤d21)∧(d21<(List.length (gD (parCW (vatL vl) by_) e21.2.1 [])))∧(0≤(gD (gD (parCW (vatL vl) by_) e21.2.1 []) d21 0))∧((gD (gD (parCW (vatL vl) by_) e21.2.1 []) d21 0)<(List.length (vatL vl)))∧((True∧True∧by_=by_∧True∧True∧e21.2.1=e21.2.1∧e21.2.2.1=e21.2.2.1∧e21.2.2.2=e21.2.2.2∧d21=d21∧True∧True∧True∧((gD (vatL vl) (gD (gD (parCW (vatL vl) by_) e21.2.1 []) d21 0) (0,((0,0),0))).1=(gD (vatL vl) (gD (gD (parCW (vatL vl) by_) e21.2.1 []) d21 0) (0,((0,0),0))).1∧(gD (vatL vl) (gD (gD (parCW (vatL vl) by_) e21.2.1 []) d21 0) (0,((0,0),0))).2.1.1=(gD (vatL vl) (gD (gD (parCW (vatL vl) by_) e21.2.1 []) d21 0) (0,((0,0),0))).2.1.1∧(gD (vatL vl) (gD (gD (parCW (vatL vl) by_) e21.2.1 []) d21 0) (0,((0,0),0))).2.1.2=(gD (vatL vl) (gD (gD (parCW (vatL vl) by_) e21.2.1 []) d21 0) (0,((0,0),0))).2.1.2∧(gD (vatL vl) (gD (gD (parCW (vatL vl) by_) e21.2.1 []) d21 0) (0,((0,0),0))).2.2=(gD (vatL vl) (gD (gD (parCW (vatL vl) by_) e21.2.1 []) d21 0) (0,((0,0),0))).2.2∧(([]:List SV)=[]))∧True∧True)∧((vl=vl∧vt=vt∧(([]:List SV)=[]))∧((gD (vatL vl) e21.2.2.2 (0,((0,0),0))).1=(gD (vatL vl) e21.2.2.2 (0,((0,0),0))).1∧(gD (vatL vl) e21.2.2.2 (0,((0,0),0))).2.1.1=(gD (vatL vl) e21.2.2.2 (0,((0,0),0))).2.1.1∧(gD (vatL vl) e21.2.2.2 (0,((0,0),0))).2.1.2=(gD (vatL vl) e21.2.2.2 (0,((0,0),0))).2.1.2∧(gD (vatL vl) e21.2.2.2 (0,((0,0),0))).2.2=(gD (vatL vl) e21.2.2.2 (0,((0,0),0))).2.2∧(([]:List SV)=[]))∧((0:Int)=(0:Int)∧(0:Int)=(0:Int)∧(0:Int)=(0:Int)∧(0:Int)=(0:Int)∧(([]:List SV)=[]))∧((vatL vl)=(vatL vl)∧false=false)∧((parCW (vatL vl) by_)=(parCW (vatL vl) by_)∧(List.isEmpty (parCW (vatL vl) by_))=(List.isEmpty (parCW (vatL vl) by_)))∧(e21.1=e21.1)∧True)))∧(I64 ((3:Int)*e21.2.2.2))∧(I64 (((3:Int)*e21.2.2.2)+d21))∧(vatOk vl vt∧0≤(((3:Int)*e21.2.2.2)+d21)∧0≤((gD (vatL vl) e21.2.2.2 (0,((0,0),0))).2.1.1)∧((gD (vatL vl) e21.2.2.2 (0,((0,0),0))).2.1.1)≤((gD (vatL vl) e21.2.2.2 (0,((0,0),0))).2.1.2)∧((gD (vatL vl) e21.2.2.2 (0,((0,0),0))).2.1.2)≤1000)∧(I64 ((5:Int)*d21))∧(I64 (e21.2.2.2+((5:Int)*d21)))∧(vatOk vl vt∧0≤(e21.2.2.2+((5:Int)*d21))∧0≤((gD (vatL vl) (gD (gD (parCW (vatL vl) by_) e21.2.1 []) d21 0) (0,((0,0),0))).2.1.1)∧((gD (vatL vl) (gD (gD (parCW (vatL vl) by_) e21.2.1 []) d21 0) (0,((0,0),0))).2.1.1)≤((gD (vatL vl) (gD (gD (parCW (vatL vl) by_) e21.2.1 []) d21 0) (0,((0,0),0))).2.1.2)∧((gD (vatL vl) (gD (gD (parCW (vatL vl) by_) e21.2.1 []) d21 0) (0,((0,0),0))).2.1.2)≤1000)∧(I64 ((thrV vt (((gD (vatL vl) e21.2.2.2 (0,((0,0),0))).1),(((gD (vatL vl) e21.2.2.2 (0,((0,0),0))).2.1.1),((gD (vatL vl) e21.2.2.2 (0,((0,0),0))).2.1.2)),((gD (vatL vl) e21.2.2.2 (0,((0,0),0))).2.2)) (((3:Int)*e21.2.2.2)+d21))-(thrV vt (((gD (vatL vl) (gD (gD (parCW (vatL vl) by_) e21.2.1 []) d21 0) (0,((0,0),0))).1),(((gD (vatL vl) (gD (gD (parCW (vatL vl) by_) e21.2.1 []) d21 0) (0,((0,0),0))).2.1.1),((gD (vatL vl) (gD (gD (parCW (vatL vl) by_) e21.2.1 []) d21 0) (0,((0,0),0))).2.1.2)),((gD (vatL vl) (gD (gD (parCW (vatL vl) by_) e21.2.1 []) d21 0) (0,((0,0),0))).2.2)) (e21.2.2.2+((5:Int)*d21)))))∧((decide (((thrV vt (((gD (vatL vl) e21.2.2.2 (0,((0,0),0))).1),(((gD (vatL vl) e21.2.2.2 (0,((0,0),0))).2.1.1),((gD (vatL vl) e21.2.2.2 (0,((0,0),0))).2.1.2)),((gD (vatL vl) e21.2.2.2 (0,((0,0),0))).2.2)) (((3:Int)*e21.2.2.2)+d21))-(thrV vt (((gD (vatL vl) (gD (gD (parCW (vatL vl) by_) e21.2.1 []) d21 0) (0,((0,0),0))).1),(((gD (vatL vl) (gD (gD (parCW (vatL vl) by_) e21.2.1 []) d21 0) (0,((0,0),0))).2.1.1),((gD (vatL vl) (gD (gD (parCW (vatL vl) by_) e21.2.1 []) d21 0) (0,((0,0),0))).2.1.2)),((gD (vatL vl) (gD (gD (parCW (vatL vl) by_) e21.2.1 []) d21 0) (0,((0,0),0))).2.2)) (e21.2.2.2+((5:Int)*d21)))) > by_))=false→InK .i64 (0-((thrV vt (((gD (vatL vl) e21.2.2.2 (0,((0,0),0))).1),(((gD (vatL vl) e21.2.2.2 (0,((0,0),0))).2.1.1),((gD (vatL vl) e21.2.2.2 (0,((0,0),0))).2.1.2)),((gD (vatL vl) e21.2.2.2 (0,((0,0),0))).2.2)) (((3:Int)*e21.2.2.2)+d21))-(thrV vt (((gD (vatL vl) (gD (gD (parCW (vatL vl) by_) e21.2.1 []) d21 0) (0,((0,0),0))).1),(((gD (vatL vl) (gD (gD (parCW (vatL vl) by_) e21.2.1 []) d21 0) (0,((0,0),0))).2.1.1),((gD (vatL vl) (gD (gD (parCW (vatL vl) by_) e21.2.1 []) d21 0) (0,((0,0),0))).2.1.2)),((gD (vatL vl) (gD (gD (parCW (vatL vl) by_) e21.2.1 []) d21 0) (0,((0,0),0))).2.2)) (e21.2.2.2+((5:Int)*d21))))))∧((((decide (((thrV vt (((gD (vatL vl) e21.2.2.2 (0,((0,0),0))).1),(((gD (vatL vl) e21.2.2.2 (0,((0,0),0))).2.1.1),((gD (vatL vl) e21.2.2.2 (0,((0,0),0))).2.1.2)),((gD (vatL vl) e21.2.2.2 (0,((0,0),0))).2.2)) (((3:Int)*e21.2.2.2)+d21))-(thrV vt (((gD (vatL vl) (gD (gD (parCW (vatL vl) by_) e21.2.1 []) d21 0) (0,((0,0),0))).1),(((gD (vatL vl) (gD (gD (parCW (vatL vl) by_) e21.2.1 []) d21 0) (0,((0,0),0))).2.1.1),((gD (vatL vl) (gD (gD (parCW (vatL vl) by_) e21.2.1 []) d21 0) (0,((0,0),0))).2.1.2)),((gD (vatL vl) (gD (gD (parCW (vatL vl) by_) e21.2.1 []) d21 0) (0,((0,0),0))).2.2)) (e21.2.2.2+((5:Int)*d21)))) > by_))||(decide ((0-((thrV vt (((gD (vatL vl) e21.2.2.2 (0,((0,0),0))).1),(((gD (vatL vl) e21.2.2.2 (0,((0,0),0))).2.1.1),((gD (vatL vl) e21.2.2.2 (0,((0,0),0))).2.1.2)),((gD (vatL vl) e21.2.2.2 (0,((0,0),0))).2.2)) (((3:Int)*e21.2.2.2)+d21))-(thrV vt (((gD (vatL vl) (gD (gD (parCW (vatL vl) by_) e21.2.1 []) d21 0) (0,((0,0),0))).1),(((gD (vatL vl) (gD (gD (parCW (vatL vl) by_) e21.2.1 []) d21 0) (0,((0,0),0))).2.1.1),((gD (vatL vl) (gD (gD (parCW (vatL vl) by_) e21.2.1 []) d21 0) (0,((0,0),0))).2.1.2)),((gD (vatL vl) (gD (gD (parCW (vatL vl) by_) e21.2.1 []) d21 0) (0,((0,0),0))).2.2)) (e21.2.2.2+((5:Int)*d21))))) > by_)))||((gD (vatL vl) e21.2.2.2 (0,((0,0),0))).1 != (gD (vatL vl) (gD (gD (parCW (vatL vl) by_) e21.2.1 []) d21 0) (0,((0,0),0))).1))=true →
             (false=true∧(True))) ∧
            ((((decide (((thrV vt (((gD (vatL vl) e21.2.2.2 (0,((0,0),0))).1),(((gD (vatL vl) e21.2.2.2 (0,((0,0),0))).2.1.1),((gD (vatL vl) e21.2.2.2 (0,((0,0),0))).2.1.2)),((gD (vatL vl) e21.2.2.2 (0,((0,0),0))).2.2)) (((3:Int)*e21.2.2.2)+d21))-(thrV vt (((gD (vatL vl) (gD (gD (parCW (vatL vl) by_) e21.2.1 []) d21 0) (0,((0,0),0))).1),(((gD (vatL vl) (gD (gD (parCW (vatL vl) by_) e21.2.1 []) d21 0) (0,((0,0),0))).2.1.1),((gD (vatL vl) (gD (gD (parCW (vatL vl) by_) e21.2.1 []) d21 0) (0,((0,0),0))).2.1.2)),((gD (vatL vl) (gD (gD (parCW (vatL vl) by_) e21.2.1 []) d21 0) (0,((0,0),0))).2.2)) (e21.2.2.2+((5:Int)*d21)))) > by_))||(decide ((0-((thrV vt (((gD (vatL vl) e21.2.2.2 (0,((0,0),0))).1),(((gD (vatL vl) e21.2.2.2 (0,((0,0),0))).2.1.1),((gD (vatL vl) e21.2.2.2 (0,((0,0),0))).2.1.2)),((gD (vatL vl) e21.2.2.2 (0,((0,0),0))).2.2)) (((3:Int)*e21.2.2.2)+d21))-(thrV vt (((gD (vatL vl) (gD (gD (parCW (vatL vl) by_) e21.2.1 []) d21 0) (0,((0,0),0))).1),(((gD (vatL vl) (gD (gD (parCW (vatL vl) by_) e21.2.1 []) d21 0) (0,((0,0),0))).2.1.1),((gD (vatL vl) (gD (gD (parCW (vatL vl) by_) e21.2.1 []) d21 0) (0,((0,0),0))).2.1.2)),((gD (vatL vl) (gD (gD (parCW (vatL vl) by_) e21.2.1 []) d21 0) (0,((0,0),0))).2.2)) (e21.2.2.2+((5:Int)*d21))))) > by_)))||((gD (vatL vl) e21.2.2.2 (0,((0,0),0))).1 != (gD (vatL vl) (gD (gD (parCW (vatL vl) by_) e21.2.1 []) d21 0) (0,((0,0),0))).1))=false →
             (I64 (d21+(1:Int)))∧(∃ d22:Int,((True∧True∧by_=by_∧True∧True∧e21.2.1=e21.2.1∧e21.2.2.1=e21.2.2.1∧e21.2.2.2=e21.2.2.2∧(d21+(1:Int))=d22∧True)∧((vl=vl∧vt=vt∧(([]:List SV)=[]))∧((vatL vl)=(vatL vl)∧false=false)∧((parCW (vatL vl) by_)=(parCW (vatL vl) by_)∧(List.isEmpty (parCW (vatL vl) by_))=(List.isEmpty (parCW (vatL vl) by_)))∧(e21.1=e21.1)∧True))∧q21 d22))) ∧
           ((decide (d21≤e21.2.2.1))=false →
            (I64 (e21.2.2.1+(1:Int)))∧(∃ d23:(List (Int×Bool))×Int,((True∧True∧by_=by_∧True∧True∧e21.2.1=e18∧(e21.2.2.1+(1:Int))=d23.2∧True)∧((vl=vl∧vt=vt∧(([]:List SV)=[]))∧((vatL vl)=(vatL vl)∧false=false)∧((parCW (vatL vl) by_)=(parCW (vatL vl) by_)∧(List.isEmpty (parCW (vatL vl) by_))=(List.isEmpty (parCW (vatL vl) by_)))∧(e21.1=d23.1)∧True))∧q18 d23))) d210)) ∧
        ((decide (d18.2<(lI (gD (parCW (vatL vl) by_) e18 []))))=false →
         (0≤e18)∧(e18<(List.length (parCW (vatL vl) by_)))∧((vatL vl).length≤1000)∧(false=true→(vatL vl)=[])∧((gD (parCW (vatL vl) by_) e18 []).length≤1000)∧(false=true→(gD (parCW (vatL vl) by_) e18 [])=[])∧((vatL vl).length≤1000∧(gD (parCW (vatL vl) by_) e18 []).length≤1000)∧((True∧True∧by_=by_∧True∧True∧e18=e18∧d18.2=d18.2∧True∧True∧True∧True∧True∧True∧(Q0c (vatL vl) (gD (parCW (vatL vl) by_) e18 []))=(Q0c (vatL vl) (gD (parCW (vatL vl) by_) e18 []))∧True)∧((vl=vl∧vt=vt∧(([]:List SV)=[]))∧(((spreadSp (vatL vl) (gD (parCW (vatL vl) by_) e18 [])).1)=((spreadSp (vatL vl) (gD (parCW (vatL vl) by_) e18 [])).1)∧((spreadSp (vatL vl) (gD (parCW (vatL vl) by_) e18 [])).2)=((spreadSp (vatL vl) (gD (parCW (vatL vl) by_) e18 [])).2)∧(([]:List SV)=[]))∧((vatL vl)=(vatL vl)∧false=false)∧((parCW (vatL vl) by_)=(parCW (vatL vl) by_)∧(List.isEmpty (parCW (vatL vl) by_))=(List.isEmpty (parCW (vatL vl) by_)))∧(d18.1=d18.1)∧((vatL vl)=(vatL vl)∧false=false)∧((gD (parCW (vatL vl) by_) e18 [])=(gD (parCW (vatL vl) by_) e18 [])∧false=false)∧True))∧((0≤e18)∧(e18<(List.length (parCW (vatL vl) by_)))∧((vatL vl).length≤1000)∧(false=true→(vatL vl)=[])∧((gD (parCW (vatL vl) by_) e18 []).length≤1000)∧(false=true→(gD (parCW (vatL vl) by_) e18 [])=[])∧((vatL vl).length≤1000∧(gD (parCW (vatL vl) by_) e18 []).length≤1000)∧((True∧True∧by_=by_∧True∧True∧e18=e18∧d18.2=d18.2∧True∧True∧True∧True∧True∧True∧(Q0c (vatL vl) (gD (parCW (vatL vl) by_) e18 []))=(Q0c (vatL vl) (gD (parCW (vatL vl) by_) e18 []))∧True)∧((vl=vl∧vt=vt∧(([]:List SV)=[]))∧(((spreadSp (vatL vl) (gD (parCW (vatL vl) by_) e18 [])).1)=((spreadSp (vatL vl) (gD (parCW (vatL vl) by_) e18 [])).1)∧((spreadSp (vatL vl) (gD (parCW (vatL vl) by_) e18 [])).2)=((spreadSp (vatL vl) (gD (parCW (vatL vl) by_) e18 [])).2)∧(([]:List SV)=[]))∧((vatL vl)=(vatL vl)∧false=false)∧((parCW (vatL vl) by_)=(parCW (vatL vl) by_)∧(List.isEmpty (parCW (vatL vl) by_))=(List.isEmpty (parCW (vatL vl) by_)))∧(d18.1=d18.1)∧((vatL vl)=(vatL vl)∧false=false)∧((gD (parCW (vatL vl) by_) e18 [])=(gD (parCW (vatL vl) by_) e18 [])∧false=false)∧True)))∧((0≤e18)∧(e18<(List.length (parCW (vatL vl) by_)))∧((vatL vl).length≤1000)∧(false=true→(vatL vl)=[])∧((gD (parCW (vatL vl) by_) e18 []).length≤1000)∧(false=true→(gD (parCW (vatL vl) by_) e18 [])=[])∧((vatL vl).length≤1000∧(gD (parCW (vatL vl) by_) e18 []).length≤1000)∧((True∧True∧by_=by_∧True∧True∧e18=e18∧d18.2=d18.2∧True∧True∧True∧True∧True∧True∧(Q0c (vatL vl) (gD (parCW (vatL vl) by_) e18 []))=(Q0c (vatL vl) (gD (parCW (vatL vl) by_) e18 []))∧True)∧((vl=vl∧vt=vt∧(([]:List SV)=[]))∧(((spreadSp (vatL vl) (gD (parCW (vatL vl) by_) e18 [])).1)=((spreadSp (vatL vl) (gD (parCW (vatL vl) by_) e18 [])).1)∧((spreadSp (vatL vl) (gD (parCW (vatL vl) by_) e18 [])).2)=((spreadSp (vatL vl) (gD (parCW (vatL vl) by_) e18 [])).2)∧(([]:List SV)=[]))∧((vatL vl)=(vatL vl)∧false=false)∧((parCW (vatL vl) by_)=(parCW (vatL vl) by_)∧(List.isEmpty (parCW (vatL vl) by_))=(List.isEmpty (parCW (vatL vl) by_)))∧(d18.1=d18.1)∧((vatL vl)=(vatL vl)∧false=false)∧((gD (parCW (vatL vl) by_) e18 [])=(gD (parCW (vatL vl) by_) e18 [])∧false=false)∧True)))∧((0≤e18)∧(e18<(List.length (parCW (vatL vl) by_)))∧((vatL vl).length≤1000)∧(false=true→(vatL vl)=[])∧((gD (parCW (vatL vl) by_) e18 []).length≤1000)∧(false=true→(gD (parCW (vatL vl) by_) e18 [])=[])∧((vatL vl).length≤1000∧(gD (parCW (vatL vl) by_) e18 []).length≤1000)∧((True∧True∧by_=by_∧True∧True∧e18=e18∧d18.2=d18.2∧True∧True∧True∧True∧True∧True∧(Q0c (vatL vl) (gD (parCW (vatL vl) by_) e18 []))=(Q0c (vatL vl) (gD (parCW (vatL vl) by_) e18 []))∧True)∧((vl=vl∧vt=vt∧(([]:List SV)=[]))∧(((spreadSp (vatL vl) (gD (parCW (vatL vl) by_) e18 [])).1)=((spreadSp (vatL vl) (gD (parCW (vatL vl) by_) e18 [])).1)∧((spreadSp (vatL vl) (gD (parCW (vatL vl) by_) e18 [])).2)=((spreadSp (vatL vl) (gD (parCW (vatL vl) by_) e18 [])).2)∧(([]:List SV)=[]))∧((vatL vl)=(vatL vl)∧false=false)∧((parCW (vatL vl) by_)=(parCW (vatL vl) by_)∧(List.isEmpty (parCW (vatL vl) by_))=(List.isEmpty (parCW (vatL vl) by_)))∧(d18.1=d18.1)∧((vatL vl)=(vatL vl)∧false=false)∧((gD (parCW (vatL vl) by_) e18 [])=(gD (parCW (vatL vl) by_) e18 [])∧false=false)∧True)))∧((((((Q0c (vatL vl) (gD (parCW (vatL vl) by_) e18 [])) != (0:Int))||(decide (((spreadSp (vatL vl) (gD (parCW (vatL vl) by_) e18 [])).2) > by_)))||(decide (((spreadSp (vatL vl) (gD (parCW (vatL vl) by_) e18 [])).1) > ((spreadSp (vatL vl) (gD (parCW (vatL vl) by_) e18 [])).2))))||(decide (((spreadSp (vatL vl) (gD (parCW (vatL vl) by_) e18 [])).1)<(0:Int))))=true →
          (false=true∧(True))) ∧
         ((((((Q0c (vatL vl) (gD (parCW (vatL vl) by_) e18 [])) != (0:Int))||(decide (((spreadSp (vatL vl) (gD (parCW (vatL vl) by_) e18 [])).2) > by_)))||(decide (((spreadSp (vatL vl) (gD (parCW (vatL vl) by_) e18 [])).1) > ((spreadSp (vatL vl) (gD (parCW (vatL vl) by_) e18 [])).2))))||(decide (((spreadSp (vatL vl) (gD (parCW (vatL vl) by_) e18 [])).1)<(0:Int))))=false →
          (I64 (e18+(1:Int)))∧(∃ d24:(List (Int×Bool))×Int,((True∧True∧by_=by_∧True∧True∧(e18+(1:Int))=d24.2∧True)∧((vl=vl∧vt=vt∧(([]:List SV)=[]))∧((vatL vl)=(vatL vl)∧false=false)∧((parCW (vatL vl) by_)=(parCW (vatL vl) by_)∧(List.isEmpty (parCW (vatL vl) by_))=(List.isEmpty (parCW (vatL vl) by_)))∧(d18.1=d24.1)∧True))∧q15 d24)))) d180) ∧
      ((decide (d15.2<(lI (parCW (vatL vl) by_))))=false →
       (((lI d15.1)==(lI (vatL vl)))=true→True)∧((((lI d15.1)==(lI (vatL vl)))&&true)=true∧(True)))) d150)) d70))
def Q9i:Cx:=⟨[(1000153,(.pair (.i .i64) .bo))],[(36,Q7u),(14,Z67),(16,Z1z),(37,Z63),(13,Z79),(38,Q68),(40,Z48),(39,Z0v)],280,[],0,[(15,Z0k)],[],[],[2,5,6,7,15,16,17,18,19,20,21,23,209,251],false,[],[],[],[]⟩
def Z5w (vl:List (Int×Int×Int×Int)) (vt:List Int) (by_:Int):List (Nat×LoopAnn):=[(0,⟨Unit,Bool×Int,[5,6,7,8,9,10,11,12],fun e x=>[.lst 26,.val (.i .i64) by_,.lst 33,.val (.i .i64) (partErr (vatL vl) by_),.lst 40,.val (.i .i64) (partErr (vatL vl) by_),.val .bo x.1,.val (.i .i64) x.2],fun e x=>[(26,.slot 5,.lst 78 (.pair (.i .i64) (.pair (.pair (.i .i64) (.i .i64)) (.i .i64))) (vatL vl) false),(33,.slot 7,.lst 31 (.list (.i .i64)) (parCW (vatL vl) by_) (List.isEmpty (parCW (vatL vl) by_))),(40,.slot 9,.lst 3 (.i .i64) (parHW (vatL vl) by_) (List.isEmpty (parHW (vatL vl) by_)))]⟩),
 (2,⟨Unit,Int,[2,5,6,7,9,13],fun e x=>[.box 2 0,.lst 26,.val (.i .i64) by_,.lst 33,.lst 40,.val (.i .i64) x],fun e x=>[(2,.slot 2,.cells [.val (.list (.pair (.i .u8) (.pair (.i .u8) (.pair (.i .u8) (.i .u8))))) vl,.val (.list (.i .u8)) vt] (some 74)),(26,.slot 5,.lst 78 (.pair (.i .i64) (.pair (.pair (.i .i64) (.i .i64)) (.i .i64))) (vatL vl) false),(33,.slot 7,.lst 31 (.list (.i .i64)) (parCW (vatL vl) by_) (List.isEmpty (parCW (vatL vl) by_))),(40,.slot 9,.lst 3 (.i .i64) (parHW (vatL vl) by_) (List.isEmpty (parHW (vatL vl) by_)))]⟩),
 (4,⟨Int,Int,[2,5,6,7,9,13,14],fun e x=>[.box 2 0,.lst 26,.val (.i .i64) by_,.lst 33,.lst 40,.val (.i .i64) e,.val (.i .i64) x],fun e x=>[(2,.slot 2,.cells [.val (.list (.pair (.i .u8) (.pair (.i .u8) (.pair (.i .u8) (.i .u8))))) vl,.val (.list (.i .u8)) vt] (some 74)),(26,.slot 5,.lst 78 (.pair (.i .i64) (.pair (.pair (.i .i64) (.i .i64)) (.i .i64))) (vatL vl) false),(33,.slot 7,.lst 31 (.list (.i .i64)) (parCW (vatL vl) by_) (List.isEmpty (parCW (vatL vl) by_))),(40,.slot 9,.lst 3 (.i .i64) (parHW (vatL vl) by_) (List.isEmpty (parHW (vatL vl) by_)))]⟩),
 (6,⟨Unit,(List (Int×Bool))×Int,[2,5,6,7,15,16],fun e x=>[.box 2 0,.lst 26,.val (.i .i64) by_,.lst 33,.map 153,.val (.i .i64) x.2],fun e x=>[(2,.slot 2,.cells [.val (.list (.pair (.i .u8) (.pair (.i .u8) (.pair (.i .u8) (.i .u8))))) vl,.val (.list (.i .u8)) vt] (some 74)),(26,.slot 5,.lst 78 (.pair (.i .i64) (.pair (.pair (.i .i64) (.i .i64)) (.i .i64))) (vatL vl) false),(33,.slot 7,.lst 31 (.list (.i .i64)) (parCW (vatL vl) by_) (List.isEmpty (parCW (vatL vl) by_))),(153,.slot 15,.map (.i .i64) .bo x.1)]⟩),
 (8,⟨Int,(List (Int×Bool))×Int,[2,5,6,7,15,16,17],fun e x=>[.box 2 0,.lst 26,.val (.i .i64) by_,.lst 33,.map 153,.val (.i .i64) e,.val (.i .i64) x.2],fun e x=>[(2,.slot 2,.cells [.val (.list (.pair (.i .u8) (.pair (.i .u8) (.pair (.i .u8) (.i .u8))))) vl,.val (.list (.i .u8)) vt] (some 74)),(26,.slot 5,.lst 78 (.pair (.i .i64) (.pair (.pair (.i .i64) (.i .i64)) (.i .i64))) (vatL vl) false),(33,.slot 7,.lst 31 (.list (.i .i64)) (parCW (vatL vl) by_) (List.isEmpty (parCW (vatL vl) by_))),(153,.slot 15,.map (.i .i64) .bo x.1)]⟩),
 (10,⟨(List (Int×Bool))×Int×Int×Int,Int,[2,5,6,7,15,16,17,18,19],fun e x=>[.box 2 0,.lst 26,.val (.i .i64) by_,.lst 33,.map 153,.val (.i .i64) e.2.1,.val (.i .i64) e.2.2.1,.val (.i .i64) e.2.2.2,.val (.i .i64) x],fun e x=>[(2,.slot 2,.cells [.val (.list (.pair (.i .u8) (.pair (.i .u8) (.pair (.i .u8) (.i .u8))))) vl,.val (.list (.i .u8)) vt] (some 74)),(26,.slot 5,.lst 78 (.pair (.i .i64) (.pair (.pair (.i .i64) (.i .i64)) (.i .i64))) (vatL vl) false),(33,.slot 7,.lst 31 (.list (.i .i64)) (parCW (vatL vl) by_) (List.isEmpty (parCW (vatL vl) by_))),(153,.slot 15,.map (.i .i64) .bo e.1)]⟩)]
set_option maxRecDepth 100000 in
theorem Z5k (d:((List (Int×Int×Int×Int))×List Int)×Int):gwp (Q9i) (Z5w d.1.1 d.1.2 d.2) c7 0 (gend [.tmp 4] (Q7z d) (Q85 d)) (gstart 280 (AL.can Q9k d))=Q3d d.1.1 d.1.2 d.2:=by kernel_rfl
abbrev Z68:Prop:=OkC Tryz.prog 7 Z02
theorem Z5j (h:∀ (vl:List (Int×Int×Int×Int)) (vt:List Int) (by_:Int),(vatOk vl vt∧0≤by_∧by_≤255)→Q3d vl vt by_):OkC Tryz.prog 7 Z02 :=
 Q1b fun7 mixed (C:=Q9i) (V:=fun (d:((List (Int×Int×Int×Int))×List Int)×Int)=>Q3d d.1.1 d.1.2 d.2) ⟨(.cons Z8c (.cons J6s (.cons J33 (.cons J7e (.cons J2q (.cons Z61 (.cons J5n (.cons J1v .nil)))))))),(XsOk.cons Z9i XsOk.nil),ItsOk.nil,YlOk.nil,IysOk.nil,XfOk.nil⟩ (Z5k) fun d hp=>h d.1.1 d.1.2 d.2 hp
end Go.Proofs.Tryz